import Derived.Test.YtckmfkgppohnmaaDoorK14
import Derived.Test.YtckmfkgppohnmaaDoorProg
/- Texts NW50 to NW83. -/
set_option linter.all false
namespace Go.Eng
open Go Go.Proofs
theorem Cx{l:List Int}(h:gx l=true):l.Pairwise (· < ·):=by
 unfold gx at h
 rw[Bool.and_eq_true,ix]at h
 have h1:∀ i (hi:i+1<l.length),l[i]'(by omega)<l[i+1]:=fun i hi=>by
  have :=h.1 (i+1) hi
  unfold lf at this
  simp only[Bool.and_eq_true,Bool.or_eq_true,decide_eq_true_eq,Nat.add_sub_cancel]at this
  rw[getD_at (show i<l.length by omega),getD_at hi]at this
  rcases this.2 with h2 | h2
  ·simp at h2
  ·exact h2
 refine List.pairwise_iff_getElem.2 fun i j hi hj iG=>?_
 induction j with
 |zero=>omega
 |succ j ih=>
  rcases Nat.lt_succ_iff_lt_or_eq.1 iG with h2 | rfl
  ·have:=ih (by omega) h2
   have :=h1 j hj
   omega
  ·exact h1 i hj
theorem NI(l:List Int)(p:Int):fV l p l.length=l.filter fun x=>x != p:=by
 unfold fV;rw[List.take_length]
theorem aaZ{l:List Int}{p:Int}(h:∀ y∈l,p<y):l.filter (fun x=>x != p)=l:=by
 rw[List.filter_eq_self]
 intro y hy
 have :=h y hy
 simp only[bne_iff_ne,ne_eq]
 omega
theorem NS:∀ {l:List Int} {p:Int},l.Pairwise (· < ·)->bu l p=true->l.eraseIdx (bC l p)=l.filter (fun x=>x != p)/\bC l p<l.length
 |[],p,_,h=>by simp[bu]at h
 |a::r,p,hs,h=>by
  rw[List.pairwise_cons]at hs
  by_cases ha:a=p
  ·subst ha
   have h0:bC (a::r) a=0:=by
    unfold bC
    rw[List.takeWhile_cons_of_neg (by simp)];rfl
   rw[h0]
   have hf:List.filter (fun x=>x != a) (a::r)=List.filter (fun x=>x != a) r:=by simp
   rw[hf,aaZ hs.1]
   exact⟨rfl,by simp⟩
  ·have hr:bu r p=true:=by
     unfold bu at h |-
     rw[List.contains_iff_mem]at h |-
     rcases List.mem_cons.1 h with h1 | h1
     ·exact absurd h1.symm ha
     ·exact h1
   have ae:a<p:=hs.1 p (by unfold bu at hr;rwa [List.contains_iff_mem]at hr)
   obtain⟨h1,h2⟩:=NS hs.2 hr
   have h0:bC (a::r) p=bC r p+1:=by
    unfold bC
    rw[List.takeWhile_cons_of_pos (by simpa using ae)];rfl
   rw[h0]
   have hf:List.filter (fun x=>x != p) (a::r)=a::List.filter (fun x=>x != p) r:=by simp[ha]
   rw[hf,List.eraseIdx_cons_succ,h1]
   exact⟨rfl,by simpa using h2⟩
theorem E3{d:Dk}{p:Int}:bu d.now.ho p=!nc d p:=by
 unfold nc
 rw[NI]
 cases h:bu d.now.ho p with
 |true=>
  have hlen:¬ (d.now.ho.filter fun x=>x != p).length=d.now.ho.length:=by
   intro he
   have h1:=List.filter_eq_self.1 (List.length_filter_eq_length_iff.1 he |> fun hh=>List.filter_eq_self.2 hh)
   unfold bu at h
   rw[List.contains_iff_mem]at h
   have :=h1 p h
   simp at this
  rw[decide_eq_false hlen];rfl
 |false=>
  have ee:(d.now.ho.filter fun x=>x != p)=d.now.ho:=by
   rw[List.filter_eq_self]
   intro y hy
   simp only[bne_iff_ne,ne_eq]
   rintro rfl
   unfold bu at h
   have :=List.contains_iff_mem.2 hy
   rw[h]at this;cases this
  rw[ee,decide_eq_true rfl];rfl
theorem abn(l:List Int)(i:Nat):(l.map vInt).eraseIdx i=(l.eraseIdx i).map vInt:=by
 rw[List.eraseIdx_eq_take_drop_succ,List.eraseIdx_eq_take_drop_succ,List.map_append,List.map_take,List.map_drop]
attribute [go_sem] cZ S54 x9
@[go_sem] theorem aiY(f:Name->Name)(d:Dk)(j:Nat)(hd:D)(nm:Name)(n:Nat)(se:Int):D.renL f (bQ d j hd nm n se)=bQ d j (hd.ren f) (f nm) n se:=by
  unfold bQ
  rw[iE,List.map_set,List.map_set,List.map_set,List.map_map]
  rfl
noncomputable def Qj(j:Nat):List (Nat×Spec):=[(39,S23),(40,S50),(41,S51),(42,S52),(43,Br j),(44,S54)]
attribute [go_sem] Qj
theorem adB{j:Nat}(hj:j<6):∀ f s,tbl (Qj j) f=some s->ak Tryd.prog f s:=tc oX<|tc Dq<|tc Dp<|tc LB<|tc (LA j hj)<|tc Ly<|tn
noncomputable def P8:PSpec:=p3 dE iI iI (fun d _ _=>eO d) (fun d p t=>.tup [encDk (iV d p t),vInt (c7 d p t)]) false
noncomputable def S8:Spec:=P8.toSpec
attribute [go_sem] P8 S8
set_option maxHeartbeats 4000000 in
theorem s8:aR Tryd.prog 14 P8:=by
 refine w3 (rs:=[.cell 6 44,.tmp 7]) Tryd.func14 Tryd.ntmps14 (by rfl) (by kernel_rfl) (by decide) (fun h=>by cases h) ⟨_,rfl,lb rfl,fun d p t hp hw=>?_⟩
 have hP:=be
 simp only[dE,iI]at hw |-
 obtain⟨j,hj,jW⟩:=UF d t
 have hΓ:=adB hj
 have hs:eO d:=hp
 repeat refine sq ?_
 refine rx hΓ [1,2,3,6] [[3,0],[6,0]] (fun K' hK=>by simp only[go_sem];(repeat (refine⟨ah,?_⟩));exact hK _ (by simp only[go_sem]) (by simp only[go_sem]<;>rfl)) ?_
 refine aL (oy [6,0] _ (an zD) rfl rfl [1,2,3,6] [[3,0],[6,0]] ?_ rfl) ?_
 ·simp only[go_sem]
 simp only[go_sem]
 refine aL (cG [3,0] (an d) rfl [1,2,3,6] [[3,0],[6,0]] ?_ rfl) ?_
 ·simp only[go_sem]
 simp only[go_sem]
 repeat refine sq ?_
 refine rx hΓ [1,2,3,6,8] [[3,0],[6,0]] (fun K' hK=>by simp only[go_sem];(repeat (refine⟨ah,?_⟩));exact hK _ (by simp only[go_sem]) (by simp only[go_sem]<;>rfl)) ?_
 repeat refine sq ?_
 refine rx hΓ [1,2,3,6,8,16] [[3,0],[6,0]] (fun K' hK=>by simp only[go_sem];(repeat (refine⟨ah,?_⟩));exact hK _ (by simp only[go_sem]) (by simp only[go_sem]<;>rfl)) ?_
 repeat refine sq ?_
 refine au rfl rfl (fun hb=>?_) (fun hb=>?_)
 ·repeat refine sq ?_
  have hd:=ti hb
  have hq:=SG (p:=p) (t:=t) hd
  have e1:=kP hd
  repeat refine sq ?_
  refine rx hΓ [6,7] [[6,0]] (fun K' hK=>by simp only[go_sem];(repeat (refine⟨ah,?_⟩));exact hK _ (by simp only[go_sem]) (by simp only[go_sem]<;>rfl)) ?_
  refine ar ?_
  simp only[go_sem]
  first | (rw[hq.1,hq.2];done) | (rw[hq.1,hq.2];rfl) | (rw[hq.1,hq.2,e1];done) | (rw[hq.1,hq.2,e1];rfl)
 ·repeat refine sq ?_
  have hd:=th hb
  refine ax ?_
  repeat refine sq ?_
  refine rx hΓ [1,2,3,6,21] [[3,0],[6,0]] (fun K' hK=>by simp only[go_sem];(repeat (refine⟨ah,?_⟩));exact hK _ (by simp only[go_sem]) (by simp only[go_sem]<;>rfl)) ?_
  repeat refine sq ?_
  refine au rfl rfl (fun hb=>?_) (fun hb=>?_)
  ·repeat refine sq ?_
   have h1:aO p 1 999=false:=by simpa using hb
   have hq:=SK (t:=t) hd h1
   repeat refine sq ?_
   refine rx hΓ [6,7] [[6,0]] (fun K' hK=>by simp only[go_sem];(repeat (refine⟨ah,?_⟩));exact hK _ (by simp only[go_sem]) (by simp only[go_sem]<;>rfl)) ?_
   refine ar ?_
   simp only[go_sem]
   first | (rw[hq.1,hq.2];done) | (rw[hq.1,hq.2];rfl) | (rw[hq.1,hq.2,e1];done) | (rw[hq.1,hq.2,e1];rfl)
  ·repeat refine sq ?_
   have h1:aO p 1 999=true:=by simpa using hb
   refine ax ?_
   repeat refine sq ?_
   refine rx hΓ [1,2,3,6,9] [[3,0],[6,0]] (fun K' hK=>by simp only[go_sem];(repeat (refine⟨ah,?_⟩));exact hK _ (by simp only[go_sem]) (by simp only[go_sem]<;>rfl)) ?_
   repeat refine sq ?_
   refine rx hΓ [1,2,3,6,9,27] [[3,0],[6,0]] (fun K' hK=>by simp only[go_sem];(repeat (refine⟨ah,?_⟩));exact hK _ (by simp only[go_sem]) (by simp only[go_sem]<;>rfl)) ?_
   repeat refine sq ?_
   refine au rfl rfl (fun hb=>?_) (fun hb=>?_)
   ·repeat refine sq ?_
    have hn:=Pz hb
    have h2:ez d t=false:=by unfold lW at hn;rw[hd]at hn;simpa using hn
    have hq:=SE hd h1 h2
    have e1:=xZ hd h2
    repeat refine sq ?_
    refine rx hΓ [6,7] [[6,0]] (fun K' hK=>by simp only[go_sem];(repeat (refine⟨ah,?_⟩));exact hK _ (by simp only[go_sem]) (by simp only[go_sem]<;>rfl)) ?_
    refine ar ?_
    simp only[go_sem]
    first | (rw[hq.1,hq.2];done) | (rw[hq.1,hq.2];rfl) | (rw[hq.1,hq.2,e1];done) | (rw[hq.1,hq.2,e1];rfl)
   ·repeat refine sq ?_
    obtain⟨_,h2⟩:=PA hb
    obtain⟨uP,o3,_⟩:=BN h2
    have qv:=jW h2
    have aa:=wo hd
    have hol:=aa.hol
    have wL:=aa.unl j hj
    have im:=aa.se j hj
    have DY:d.now.ho.Pairwise (· < ·):=by
     have hh:=hd
     unfold ay iJ cz at hh
     simp only[Bool.and_eq_true]at hh
     exact Cx hh.1.1.1.1.1.1.2
    refine ax ?_
    repeat refine sq ?_
    refine rx hΓ [1,2,3,6,10,11] [[3,0],[6,0]] (fun K' hK=>by simp only[go_sem,DY];(repeat (refine⟨ah,?_⟩));exact hK _ (by simp only[go_sem]) (by simp only[go_sem]<;>rfl)) ?_
    repeat refine sq ?_
    refine aN ?_
    repeat refine sq ?_
    refine rx hΓ [1,2,3,6,10,38] [[3,0],[6,0]] (fun K' hK=>by simp only[go_sem];(repeat (refine⟨ah,?_⟩));exact hK _ (by simp only[go_sem]) (by simp only[go_sem]<;>rfl)) ?_
    repeat refine sq ?_
    refine au rfl rfl (fun hb=>?_) (fun hb=>?_)
    ·repeat refine sq ?_
     have h3:nc d p=true:=by have h4:=E3 (d:=d) (p:=p);(have h5:bu d.now.ho p=false:=by simpa using hb);rw[h5]at h4;simpa using h4.symm
     have hq:=SJ hd h1 h2 h3
     repeat refine sq ?_
     refine rx hΓ [6,7] [[6,0]] (fun K' hK=>by simp only[go_sem];(repeat (refine⟨ah,?_⟩));exact hK _ (by simp only[go_sem]) (by simp only[go_sem]<;>rfl)) ?_
     refine ar ?_
     simp only[go_sem]
     first | (rw[hq.1,hq.2];done) | (rw[hq.1,hq.2];rfl) | (rw[hq.1,hq.2,e1];done) | (rw[hq.1,hq.2,e1];rfl)
    ·repeat refine sq ?_
     have h5:bu d.now.ho p=true:=by simpa using hb
     have h3:nc d p=false:=by have h4:=E3 (d:=d) (p:=p);rw[h5]at h4;simpa using h4.symm
     obtain⟨g1,g2⟩:=NS DY h5
     have g3:(List.map vInt d.now.ho).eraseIdx (bC d.now.ho p)=(fV d.now.ho p d.now.ho.length).map vInt:=by rw[abn,g1,NI]
     have g4:IntKind.i64.wrap ((bC d.now.ho p:Int)+1)=(bC d.now.ho p:Int)+1:=wrap_i64 (by omega) (by omega)
     repeat refine sq ?_
     refine rx hΓ [1,2,3,6,10,42] [[3,0],[6,0]] (fun K' hK=>by simp only[go_sem,qv,uP,o3,abi d hj,abk d hj];(repeat (refine⟨ah,?_⟩));exact hK _ (by simp only[go_sem]) (by simp only[go_sem]<;>rfl)) ?_
     repeat refine sq ?_
     refine au rfl rfl (fun hb=>?_) (fun hb=>?_)
     ·repeat refine sq ?_
      have h4:oS d t=true:=by unfold oS;rw[qv];exact hb
      have hq:=SH hd h1 h2 h3 h4
      repeat refine sq ?_
      refine rx hΓ [6,7] [[6,0]] (fun K' hK=>by simp only[go_sem];(repeat (refine⟨ah,?_⟩));exact hK _ (by simp only[go_sem]) (by simp only[go_sem]<;>rfl)) ?_
      refine ar ?_
      simp only[go_sem]
      first | (rw[hq.1,hq.2];done) | (rw[hq.1,hq.2];rfl) | (rw[hq.1,hq.2,e1];done) | (rw[hq.1,hq.2,e1];rfl)
     ·repeat refine sq ?_
      have h4:oS d t=false:=by unfold oS;rw[qv];exact hb
      have hq:=SF hd h1 h2 h3 h4
      rw[qv]at hq
      have w1:IntKind.i64.wrap (d.now.se.get j+1)=d.now.se.get j+1:=by have:=im;exact wrap_i64 (by have:=im.1;omega) (by have:=im.2;omega)
      refine ax ?_
      refine cM ?_
      simp only[go_sem]
      refine kp [1,2,3,6,10] [[3,0],[6,0]] ?_
      repeat refine sq ?_
      refine rx hΓ [1,2,6,10,12] [[6,0],[22,0,60,0],[12,0,5,0,60,0],[99,0,5,0,60,0]] (fun K' hK=>by simp only[go_sem,hs];(repeat (refine⟨ah,?_⟩));exact hK _ (by simp only[go_sem]) (by simp only[go_sem]<;>rfl)) ?_
      repeat refine sq ?_
      refine rx hΓ [1,2,6,12] [[6,0],[22,0,60,0],[12,0,5,0,60,0],[99,0,5,0,60,0]] (fun K' hK=>by simp only[go_sem,g4,g3,Int.toNat_natCast];(repeat (refine⟨ah,?_⟩));exact hK _ (by simp only[go_sem]) (by simp only[go_sem]<;>rfl)) ?_
      repeat refine sq ?_
      refine dx hΓ hP [[],[],[0],[0,2],[0,2,3],[0,2,3,4],[0,1,2,3,4,5],[0,1,2,3,4,5,6],[0,1,2,3,4,5,6,7],[0],[0,9],[0,9,10],[0,9,10,11],[0,1,2,3,4,5,6,7,8,9,10,11,12],[0,1,2,3,4,5,6,7,8,9,10,11,12,13]] [1,2,6,12] [[6,0],[22,0,60,0],[12,0,5,0,60,0],[99,0,5,0,60,0]] (by kernel_rfl) (fun K' hK=>by simp only[go_sem,qv,uP,o3,OX d _ _ _ _ hj,acf d _ _ _ _ _ hj,w1];(repeat (refine⟨ah,?_⟩));(first | refine⟨by rfl,?_⟩ | skip);exact hK _ (by simp only[go_sem]) (by simp only[go_sem]<;>rfl)) ?_
      repeat refine sq ?_
      refine dx hΓ hP [[],[],[],[],[2],[2,4],[2,4,5],[2,4,5,6],[2,3,4,5,6,7],[2,3,4,5,6,7,8],[],[],[10],[10,12],[10,12,13],[10,12,13,14],[10,11,12,13,14,15],[10,11,12,13,14,15,16],[],[10,11,12,13,14,15,16,17,18],[10,11,12,13,14,15,16,17,18,19],[2,3,4,5,6,7,8,9,10,11,12,13,14,15,16,17,18,19,20],[0],[0,22],[0,22,23],[0,22,23,24],[0,1,2,3,4,5,6,7,8,9,10,11,12,13,14,15,16,17,18,19,20,21,22,23,24,25],[0,1,2,3,4,5,6,7,8,9,10,11,12,13,14,15,16,17,18,19,20,21,22,23,24,25,26]] [6,12] [[6,0],[22,0,60,0],[12,0,5,0,60,0],[99,0,5,0,60,0]] (by kernel_rfl) (fun K' hK=>by simp only[go_sem,qv,uP,o3,OX d _ _ _ _ hj,OW d _ _ _ _ hj,acd d _ _ _ _ _ hj];(repeat (refine⟨ah,?_⟩));(first | refine⟨by rfl,?_⟩ | skip);exact hK _ (by simp only[go_sem]) (by simp only[go_sem]<;>rfl)) ?_
      refine aL (ey [22,0,60,0] [99,0,5,0,60,0] (2+j) _ _ _ _ rfl (O0 _ _ _ _ _ hj) rfl (by simp only[List.length_append,List.length_map,List.length_cons,List.length_nil]) [6,12] [[6,0],[22,0,60,0]] ?_ rfl) ?_
      ·simp only[go_sem,OY d _ _ _ _ _ _ _ hj]
      simp only[go_sem,OY d _ _ _ _ _ _ _ hj]
      repeat refine sq ?_
      refine rx hΓ [6,7] [[6,0]] (fun K' hK=>by simp only[go_sem];(repeat (refine⟨ah,?_⟩));exact hK _ (by simp only[go_sem]) (by simp only[go_sem]<;>rfl)) ?_
      refine ar ?_
      simp only[go_sem]
      first | (rw[hq.1,hq.2];done) | (rw[hq.1,hq.2];rfl) | (rw[hq.1,hq.2,e1];done) | (rw[hq.1,hq.2,e1];rfl)
theorem k8:ak Tryd.prog 14 S8:=s8.sound
def b8(l:List Int)(x:Int):List Int:=l.take (bC l x)++[x]++l.drop (bC l x)
def gy(l:List Int)(x:Int)(i:Nat):List Int:=if bC l x<i then l.take (bC l x)++[x]++(l.take i).drop (bC l x)else l.take i
theorem zi(l:List Int)(x:Int):bC l x<=l.length:=by
 unfold bC
 exact(List.takeWhile_prefix _).length_le
theorem CY:∀ {l:List Int} {x:Int},l.Pairwise (· < ·)->∀ {i:Nat} (hi:i<l.length),l[i] <x↔i<bC l x
 |[],x,_,i,hi=>by simp at hi
 |a::r,x,hs,i,hi=>by
  rw[List.pairwise_cons]at hs
  by_cases ha:a<x
  ·have h0:bC (a::r) x=bC r x+1:=by
     unfold bC
     rw[List.takeWhile_cons_of_pos (by simpa using ha)];rfl
   rw[h0]
   cases i with
   |zero=>simp[ha]
   |succ i=>
    have :=CY (x:=x) hs.2 (i:=i) (by simpa using hi)
    simp only[List.getElem_cons_succ,this]
    omega
  ·have h0:bC (a::r) x=0:=by
     unfold bC
     rw[List.takeWhile_cons_of_neg (by simpa using ha)];rfl
   rw[h0]
   cases i with
   |zero=>simp;omega
   |succ i=>
    have :=hs.1 (r[i]'(by simpa using hi)) (List.getElem_mem _)
    simp only[List.getElem_cons_succ]
    omega
theorem ag6(l:List Int)(x:Int):gy l x 0=[]:=by
 unfold gy;rw[if_neg (by omega)];rfl
theorem UW{l:List Int}{x:Int}{i:Nat}(hi:i<l.length)(h:i=bC l x):gy l x i++[x]++[l[i]]=gy l x (i+1):=by
 unfold gy
 rw[if_neg (by omega),if_pos (by omega),<-h,List.take_add_one,List.getElem?_eq_getElem hi,List.drop_append_of_le_length (by rw[List.length_take];omega)]
 rw[List.drop_of_length_le (by rw[List.length_take];omega)]
 simp
theorem UR{l:List Int}{x:Int}{i:Nat}(hi:i<l.length)(h:i<bC l x):gy l x i++[l[i]]=gy l x (i+1):=by
 unfold gy
 rw[if_neg (by omega),if_neg (by omega),List.take_add_one,List.getElem?_eq_getElem hi];rfl
theorem US{l:List Int}{x:Int}{i:Nat}(hi:i<l.length)(h:bC l x<i):gy l x i++[l[i]]=gy l x (i+1):=by
 unfold gy
 rw[if_pos h,if_pos (by omega),List.take_add_one,List.getElem?_eq_getElem hi,List.drop_append_of_le_length (by rw[List.length_take];omega)]
 simp
theorem UU{l:List Int}{x:Int}(h:bC l x<l.length):gy l x l.length=b8 l x:=by
 unfold gy b8
 rw[if_pos h,List.take_length]
theorem UT{l:List Int}{x:Int}(h:¬ bC l x<l.length):gy l x l.length++[x]=b8 l x:=by
 have he:bC l x=l.length:=by have:=zi l x;omega
 unfold gy b8
 rw[if_neg h,he,List.take_length,List.drop_length,List.append_nil]
theorem Ja{l:List Int}{x:Int}{i:Nat}(hi:i<=l.length):(gy l x i).length<=i+1:=by
 unfold gy
 split
 ·simp only[List.length_append,List.length_take,List.length_drop,List.length_cons,List.length_nil]
  omega
 ·rw[List.length_take];omega
theorem Yt(l:List Int)(x:Int):(b8 l x).length=l.length+1:=by
 have :=zi l x
 unfold b8
 simp only[List.length_append,List.length_take,List.length_drop,List.length_cons,List.length_nil]
 omega
def Cn(l:List Int)(x:Int):List Int:=if bu l x=true then[]else b8 l x
theorem Cm{l:List Int}{x:Int}(h:bu l x=true):Cn l x=[]:=if_pos h
theorem oH{l:List Int}{x:Int}(h:bu l x=false):Cn l x=b8 l x:=if_neg (by rw[h];decide)
theorem M1{l:List Int}{x:Int}{i:Nat}(hi:i<l.length)(h:l[i]=x):bu l x=true:=by
 unfold bu;rw[List.contains_iff_mem,<-h];exact List.getElem_mem hi
theorem aah{l:List Int}{x:Int}(h:∀ k (hk:k<l.length),k<l.length->l[k]≠x):bu l x=false:=by
 rw[Bool.eq_false_iff]
 intro hh
 unfold bu at hh
 rw[List.contains_iff_mem]at hh
 obtain⟨k,hk,e⟩:=List.getElem_of_mem hh
 exact h k hk hk e
noncomputable def P68:PSpec:=p2 eH iI (fun l _=>l.Pairwise (· < ·)/\l.length<=1000) (fun l x=>.tup [.sl ((Cn l x).map vInt),.bool (!bu l x)]) false
noncomputable def S68:Spec:=P68.toSpec
attribute [go_sem] P68 S68
set_option maxHeartbeats 4000000 in
theorem Tw:aR Tryd.prog 55 P68:=by
 refine w2 (rs:=[.tmp 4,.tmp 5]) Tryd.func55 Tryd.ntmps55 (by rfl) (by kernel_rfl) (by decide) (fun h=>by cases h) ⟨_,rfl,lb rfl,fun l x hp hw=>?_⟩
 have hP:=be
 simp only[iI,eH]at hw |-
 have hΓ:=@kq Tryd.prog
 obtain⟨hs,nU⟩:=hp
 have hl:l.length<=maxLen:=by unfold maxLen;omega
 repeat refine sq ?_
 refine rx hΓ [0,1] [] (fun K' hK=>by simp only[go_sem];(repeat (refine⟨ah,?_⟩));exact hK _ (by simp only[go_sem]) (by simp only[go_sem]<;>rfl)) ?_
 repeat refine sq ?_
 refine rx hΓ [0,1,6] [[34,0],[41,0],[47,0],[98,0]] (fun K' hK=>by simp only[go_sem];(repeat (refine⟨ah,?_⟩));exact hK _ (by simp only[go_sem]) (by simp only[go_sem]<;>rfl)) ?_
 refine aL (tL 6 [98,0] 1 (by simp only[go_sem]) (by simp only[go_sem]) [0,1,6] [[34,0],[41,0],[47,0],[98,0]] ?_ rfl) ?_
 ·simp only[go_sem]
 simp only[go_sem]
 repeat refine sq ?_
 refine rx hΓ [0,1,6,7] [[34,0],[41,0],[47,0],[98,0]] (fun K' hK=>by simp only[go_sem];(repeat (refine⟨ah,?_⟩));exact hK _ (by simp only[go_sem]) (by simp only[go_sem]<;>rfl)) ?_
 repeat refine sq ?_
 refine rx hΓ [0,1,6,7,8] [[34,0],[41,0],[47,0],[98,0]] (fun K' hK=>by simp only[go_sem];(repeat (refine⟨ah,?_⟩));exact hK _ (by simp only[go_sem]) (by simp only[go_sem]<;>rfl)) ?_
 repeat refine sq ?_
 refine aN ?_
 repeat refine sq ?_
 refine cN (fun z:Nat=>[(8,⟨true,.v (vInt z)⟩),(6,⟨true,.msl [98,0] (gy l x z).length⟩),(7,⟨true,.v (.bool (decide (bC l x<z)))⟩)]) (fun z=>[([98,0],.arr 1 ((gy l x z).map vInt))]) (fun z=>z<=l.length/\(∀ k (hk:k<l.length),k<z->l[k]≠x)) (fun z=>l.length-z) 0 ?_ ?_ ?_ ?_
 ·exact⟨Nat.zero_le _,fun k hk h=>absurd h (by omega)⟩
 ·rfl
 ·rfl
 rintro i ⟨hi,hR⟩
 simp only[go_sem]
 repeat refine sq ?_
 refine rx hΓ [0,1,6,7,8,12] [[34,0],[41,0],[47,0],[98,0]] (fun K' hK=>by simp only[go_sem];(repeat (refine⟨ah,?_⟩));exact hK _ (by simp only[go_sem]) (by simp only[go_sem]<;>rfl)) ?_
 repeat refine sq ?_
 refine au rfl rfl (fun hb=>?_) (fun hb=>?_)
 ·have ae:i<l.length:=by simpa using hb
  have ai:(i:Int)<l.length:=by omega
  clear hb
  have hlen:=Ja (x:=x) hi
  repeat refine sq ?_
  refine ax ?_
  repeat refine sq ?_
  refine aN ?_
  repeat refine sq ?_
  refine rx hΓ [0,1,6,7,8,20] [[34,0],[41,0],[47,0],[98,0]] (fun K' hK=>by simp only[go_sem,aJ ae,Int.toNat_natCast,Int.natCast_nonneg,ai,aJ ae];(repeat (refine⟨ah,?_⟩));exact hK _ (by simp only[go_sem]) (by simp only[go_sem]<;>rfl)) ?_
  repeat refine sq ?_
  refine au rfl rfl (fun hb=>?_) (fun hb=>?_)
  ·repeat refine sq ?_
   have hx:l[i]=x:=by simpa using hb
   have hh:=M1 ae hx
   repeat refine sq ?_
   refine rx hΓ [4,5] [[34,0],[41,0],[47,0],[98,0]] (fun K' hK=>by simp only[go_sem,aJ ae,Int.toNat_natCast,Int.natCast_nonneg,ai];(repeat (refine⟨ah,?_⟩));exact hK _ (by simp only[go_sem]) (by simp only[go_sem]<;>rfl)) ?_
   refine ar ?_
   simp only[go_sem]
   first | (rw[Cm hh,hh];rfl) | (rw[oH hh,hh,<-he,List.map_append];rfl) | (rw[oH hh,hh,<-he,List.map_append];exact⟨by simp,rfl⟩) | (rw[oH hh,hh,<-he];rfl)
  ·repeat refine sq ?_
   have hx:l[i]≠x:=by simpa using hb
   have hq:=CY (x:=x) hs ae
   refine ax ?_
   repeat refine sq ?_
   refine rx hΓ [0,1,6,7,8,30] [[34,0],[41,0],[47,0],[98,0]] (fun K' hK=>by simp only[go_sem,aJ ae,Int.toNat_natCast,Int.natCast_nonneg,ai,aJ ae];(repeat (refine⟨ah,?_⟩));exact hK _ (by simp only[go_sem]) (by simp only[go_sem]<;>rfl)) ?_
   repeat refine sq ?_
   refine au rfl rfl (fun hb=>?_) (fun hb=>?_)
   ·repeat refine sq ?_
    have he:i=bC l x:=by simp at hb;omega
    have hn:=UW ae he
    have xh:decide (bC l x<i+1)=true:=decide_eq_true (by omega)
    repeat refine sq ?_
    refine rx hΓ [0,1,6,8] [[34,0],[41,0],[47,0],[98,0]] (fun K' hK=>by simp only[go_sem,aJ ae,Int.toNat_natCast,Int.natCast_nonneg,ai];(repeat (refine⟨ah,?_⟩));exact hK _ (by simp only[go_sem]) (by simp only[go_sem]<;>rfl)) ?_
    repeat refine sq ?_
    refine rx hΓ [0,1,6,7,8] [[34,0],[41,0],[47,0],[98,0]] (fun K' hK=>by simp only[go_sem,aJ ae,Int.toNat_natCast,Int.natCast_nonneg,ai];(repeat (refine⟨ah,?_⟩));exact hK _ (by simp only[go_sem]) (by simp only[go_sem]<;>rfl)) ?_
    repeat refine sq ?_
    refine aP hΓ fun K' hK=>?_
    simp only[go_sem,aJ ae,Int.toNat_natCast,Int.natCast_nonneg,ai,aJ ae,List.length_append,List.length_map,List.length_cons,List.length_nil]
    repeat (refine⟨ah,?_⟩)
    refine hK _ ?_
    clear K' hK
    simp only[go_sem]
    refine kp [0,1,6,7,8] [[34,0],[41,0],[47,0],[98,0]] ?_
    repeat refine sq ?_
    refine aP hΓ fun K' hK=>?_
    simp only[go_sem,aJ ae,Int.toNat_natCast,Int.natCast_nonneg,ai]
    repeat (refine⟨ah,?_⟩)
    refine hK _ ?_
    clear K' hK
    simp only[go_sem]
    refine⟨i+1,⟨ae,?_⟩,by(show l.length-(i+1)<l.length-i;omega),?_⟩
    ·exact fun k hk h=>(Nat.lt_succ_iff_lt_or_eq.1 h).elim (fun h5=>hR k hk h5) (fun h5=>by subst h5;exact hx)
    refine bk [0,1,6,7,8] [[34,0],[41,0],[47,0],[98,0]] ?_ ?_
    ·simp only[go_sem,aF ae hl,Int.natCast_add,Int.natCast_one,<-hn,xh,List.map_append,List.length_append,List.map_cons,List.map_nil,List.length_map,List.length_cons,List.length_nil,Nat.reduceAdd]
    ·simp only[go_sem,aF ae hl,Int.natCast_add,Int.natCast_one,<-hn,xh,List.map_append,List.length_append,List.map_cons,List.map_nil,List.length_map,List.length_cons,List.length_nil,Nat.reduceAdd]
   ·repeat refine sq ?_
    have hn:gy l x i++[l[i]]=gy l x (i+1)/\decide (bC l x<i+1)=decide (bC l x<i):=by
     rcases Nat.lt_or_ge (bC l x) i with hg | hg
     ·exact⟨US ae hg,by rw[decide_eq_true hg,decide_eq_true (by omega)]⟩
     ·have jf:i<bC l x:=by simp at hb;omega
      exact⟨UR ae jf,by rw[decide_eq_false (by omega),decide_eq_false (by omega)]⟩
    obtain⟨hn,xh⟩:=hn
    refine ax ?_
    repeat refine sq ?_
    refine aP hΓ fun K' hK=>?_
    simp only[go_sem,aJ ae,Int.toNat_natCast,Int.natCast_nonneg,ai,aJ ae,List.length_append,List.length_map,List.length_cons,List.length_nil]
    repeat (refine⟨ah,?_⟩)
    refine hK _ ?_
    clear K' hK
    simp only[go_sem]
    refine kp [0,1,6,7,8] [[34,0],[41,0],[47,0],[98,0]] ?_
    repeat refine sq ?_
    refine aP hΓ fun K' hK=>?_
    simp only[go_sem,aJ ae,Int.toNat_natCast,Int.natCast_nonneg,ai]
    repeat (refine⟨ah,?_⟩)
    refine hK _ ?_
    clear K' hK
    simp only[go_sem]
    refine⟨i+1,⟨ae,?_⟩,by(show l.length-(i+1)<l.length-i;omega),?_⟩
    ·exact fun k hk h=>(Nat.lt_succ_iff_lt_or_eq.1 h).elim (fun h5=>hR k hk h5) (fun h5=>by subst h5;exact hx)
    refine bk [0,1,6,7,8] [[34,0],[41,0],[47,0],[98,0]] ?_ ?_
    ·simp only[go_sem,aF ae hl,Int.natCast_add,Int.natCast_one,<-hn,xh,List.map_append,List.length_append,List.map_cons,List.map_nil,List.length_map,List.length_cons,List.length_nil,Nat.reduceAdd]
    ·simp only[go_sem,aF ae hl,Int.natCast_add,Int.natCast_one,<-hn,xh,List.map_append,List.length_append,List.map_cons,List.map_nil,List.length_map,List.length_cons,List.length_nil,Nat.reduceAdd]
 ·have bb:i=l.length:=by
   have :¬ (i:Int)<l.length:=by simpa using hb
   omega
  clear hb
  subst bb
  have hh:=aah hR
  have hlen:=Ja (x:=x) hi
  repeat refine sq ?_
  refine cr ?_
  simp only[go_sem]
  refine kp [1,6,7] [[34,0],[41,0],[47,0],[98,0]] ?_
  repeat refine sq ?_
  refine rx hΓ [1,6,43] [[34,0],[41,0],[47,0],[98,0]] (fun K' hK=>by simp only[go_sem];(repeat (refine⟨ah,?_⟩));exact hK _ (by simp only[go_sem]) (by simp only[go_sem]<;>rfl)) ?_
  repeat refine sq ?_
  refine au rfl rfl (fun hb=>?_) (fun hb=>?_)
  ·repeat refine sq ?_
   have he:=UT (l:=l) (x:=x) (by simpa using hb)
   repeat refine sq ?_
   refine rx hΓ [6] [[34,0],[41,0],[47,0],[98,0]] (fun K' hK=>by simp only[go_sem,List.length_append,List.length_map,List.length_cons,List.length_nil];(repeat (refine⟨ah,?_⟩));exact hK _ (by simp only[go_sem]) (by simp only[go_sem]<;>rfl)) ?_
   repeat refine sq ?_
   refine rx hΓ [4,5] [[34,0],[41,0],[47,0],[98,0]] (fun K' hK=>by simp only[go_sem];(repeat (refine⟨ah,?_⟩));exact hK _ (by simp only[go_sem]) (by simp only[go_sem]<;>rfl)) ?_
   refine ar ?_
   simp only[go_sem]
   first | (rw[Cm hh,hh];rfl) | (rw[oH hh,hh,<-he,List.map_append];rfl) | (rw[oH hh,hh,<-he,List.map_append];exact⟨by simp,rfl⟩) | (rw[oH hh,hh,<-he];rfl)
  ·repeat refine sq ?_
   have he:=UU (l:=l) (x:=x) (by simpa using hb)
   refine ax ?_
   repeat refine sq ?_
   refine rx hΓ [4,5] [[34,0],[41,0],[47,0],[98,0]] (fun K' hK=>by simp only[go_sem];(repeat (refine⟨ah,?_⟩));exact hK _ (by simp only[go_sem]) (by simp only[go_sem]<;>rfl)) ?_
   refine ar ?_
   simp only[go_sem]
   first | (rw[Cm hh,hh];rfl) | (rw[oH hh,hh,<-he,List.map_append];rfl) | (rw[oH hh,hh,<-he,List.map_append];exact⟨by simp,rfl⟩) | (rw[oH hh,hh,<-he];rfl)
theorem Lv:ak Tryd.prog 55 S68:=Tw.sound
def fe(l:List Par)(ta:Int)(z:Nat):List Par:=(l.take z).filter fun p=>decide (p.no>ta)
def rR(s:Stk)(f:Nat)(ta:Int):Stk:=⟨s.ho,s.un.set f (fe (s.un.get f) ta (s.un.get f).length),s.se,s.ta⟩
def dS(f:Nat)(s:Stk)(p:Par):Bool:=p.no==s.ta.get f+1
def iR(f:Nat)(s:Stk)(p:Par):Stk:=if dS f s p=true then⟨b8 s.ho p.pa,s.un,s.se,s.ta.set f (s.ta.get f+1)⟩else s
def eF(f:Nat)(s:Stk)(p:Par):Int:=if dS f s p=true then(if bu s.ho p.pa=true then 96 else if 40<(b8 s.ho p.pa).length then 2 else 0)else 0
def bJ(f:Nat)(ps:List Par)(s0:Stk):Nat->Stk
 | 0=>s0
 |z+1=>iR f (bJ f ps s0 z) (ps.getD z default)
def dG(f:Nat)(ps:List Par)(s0:Stk):Nat->Int
 | 0=>0
 |z+1=>if dG f ps s0 z=0 then eF f (bJ f ps s0 z) (ps.getD z default)else dG f ps s0 z
def bO(d:Dk)(b:Bag):Stk:=rR d.now b.fr.toNat b.ta
def jh(d:Dk)(b:Bag):Bool:=fK b&&(b.to==d.me)
def gA(d:Dk)(b:Bag):Int:=if ay d=true then(if jh d b=true then dG b.fr.toNat b.ps (bO d b) b.ps.length else 93)else 92
def gL(d:Dk)(b:Bag):Dk:=if gA d b=0 then d.setN (bJ b.fr.toNat b.ps (bO d b) b.ps.length)else zD
theorem Vf{d:Dk}{b:Bag}(h:ay d=false):gL d b=zD/\gA d b=92:=by
 have :gA d b=92:=if_neg (by rw[h];decide)
 exact⟨if_neg (by rw[this];decide),this⟩
theorem Vh{d:Dk}{b:Bag}(h:ay d=true)(h1:jh d b=false):gL d b=zD/\gA d b=93:=by
 have :gA d b=93:=by unfold gA;rw[if_pos h,if_neg (by rw[h1];decide)]
 exact⟨if_neg (by rw[this];decide),this⟩
theorem NU(f:Nat)(ps:List Par)(s0:Stk){z:Nat}(h:dG f ps s0 z≠0):∀ k,dG f ps s0 (z+k)=dG f ps s0 z
 | 0=>rfl
 |k+1=>by
  have :=NU f ps s0 h k
  rw[<-Nat.add_assoc]
  show (if dG f ps s0 (z+k)=0 then _ else _)=_
  rw[this,if_neg h]
theorem Vg{d:Dk}{b:Bag}(h:ay d=true)(h1:jh d b=true){i:Nat}(hi:i<b.ps.length){e:Int}(h2:dG b.fr.toNat b.ps (bO d b) i=0)(h3:eF b.fr.toNat (bJ b.fr.toNat b.ps (bO d b) i) (b.ps.getD i default)=e)(he:e≠0):gL d b=zD/\gA d b=e:=by
 have h4:dG b.fr.toNat b.ps (bO d b) (i+1)=e:=by
  show (if dG b.fr.toNat b.ps (bO d b) i=0 then _ else _)=_
  rw[if_pos h2,h3]
 have h5:=NU b.fr.toNat b.ps (bO d b) (by rw[h4];exact he) (b.ps.length-(i+1))
 rw[show i+1+(b.ps.length-(i+1))=b.ps.length by omega,h4]at h5
 have :gA d b=e:=by unfold gA;rw[if_pos h,if_pos h1,h5]
 exact⟨if_neg (by rw[this];exact he),this⟩
theorem CD{d:Dk}{b:Bag}(h:ay d=true)(h1:jh d b=true)(h2:dG b.fr.toNat b.ps (bO d b) b.ps.length=0):gL d b=d.setN (bJ b.fr.toNat b.ps (bO d b) b.ps.length)/\gA d b=0:=by
 have :gA d b=0:=by unfold gA;rw[if_pos h,if_pos h1,h2]
 exact⟨if_pos this,this⟩
theorem Hy{l:List Par}{ta:Int}{z:Nat}(h:z<l.length):fe l ta (z+1)=if decide (l[z].no>ta)=true then fe l ta z++[l[z]]else fe l ta z:=by
 unfold fe
 rw[List.take_add_one,List.getElem?_eq_getElem h,List.filter_append]
 show _++List.filter _ [l[z]]=_
 by_cases hp:decide (l[z].no>ta)=true
 ·rw[if_pos hp]
  have :List.filter (fun p:Par=>decide (p.no>ta)) [l[z]]=[l[z]]:=by simp only[List.filter,hp]
  rw[this]
 ·rw[if_neg hp]
  have sv:decide (l[z].no>ta)=false:=by simpa using hp
  have :List.filter (fun p:Par=>decide (p.no>ta)) [l[z]]=[]:=by simp only[List.filter,sv]
  rw[this,List.append_nil]
theorem aeb{l:List Par}{ta:Int}{z:Nat}(h:z<l.length)(hp:decide (l[z].no>ta)=true):fe l ta (z+1)=fe l ta z++[l[z]]:=by rw[Hy h,if_pos hp]
theorem aec{l:List Par}{ta:Int}{z:Nat}(h:z<l.length)(hp:decide (l[z].no>ta)=false):fe l ta (z+1)=fe l ta z:=by rw[Hy h,if_neg (by rw[hp];decide)]
theorem RB(l:List Par)(ta:Int)(z:Nat):(fe l ta z).length<=l.length:=by
 unfold fe
 refine Nat.le_trans (List.length_filter_le _ _) ?_
 rw[List.length_take];omega
theorem aS.set_self{α:Type}(s:aS α)(i:Nat)(hi:i<6):s.set i (s.get i)=s:=
 gK (P:=fun i=>s.set i (s.get i)=s) rfl rfl rfl rfl rfl rfl hi
theorem qZ{b:Bag}(h:fK b=true):0<=b.fr/\b.fr<6/\b.fr.toNat<6/\b.ps.length<=40/\(∀ p∈b.ps,1<=p.no/\p.no<=99999/\1<=p.pa/\p.pa<=999)/\0<=b.ta/\b.ta<=99999:=by
 unfold fK at h
 simp only[Bool.and_eq_true]at h
 obtain⟨⟨⟨⟨h1,h2⟩,h3⟩,h4⟩,h5⟩:=h
 have h1:=cp.1 h1
 have h5:=cp.1 h5
 unfold cm at h4
 rw[Bool.and_eq_true,decide_eq_true_eq,ix]at h4
 refine⟨by omega,by omega,by omega,h4.2,fun p hp=>?_,h5.1,h5.2⟩
 obtain⟨i,hi,rfl⟩:=List.getElem_of_mem hp
 have :=h4.1 i hi
 unfold gw at this
 rw[getD_at hi]at this
 simp only[Bool.and_eq_true]at this
 have a:=cp.1 this.1.1
 have c:=cp.1 this.1.2
 exact⟨a.1,a.2,c.1,c.2⟩
structure pJ (f:Nat) (s:Stk):Prop where
 ri:s.ho.Pairwise (· < ·)
 len:s.ho.length<=40
 t0:0<=s.ta.get f
 t1:s.ta.get f<=99999
theorem Dx{l:List Int}{x:Int}(hs:l.Pairwise (· < ·))(hh:bu l x=false):(b8 l x).Pairwise (· < ·):=by
 have sD:=fun {i:Nat} (hi:i<l.length)=>CY (x:=x) hs hi
 have hle:=zi l x
 have ht:∀ a∈l.take (bC l x),a<x:=by
  intro a ha
  obtain⟨i,hi,rfl⟩:=List.getElem_of_mem ha
  rw[List.length_take]at hi
  rw[List.getElem_take]
  exact(sD (by omega)).2 (by omega)
 have hd:∀ a∈l.drop (bC l x),x<a:=by
  intro a ha
  obtain⟨i,hi,rfl⟩:=List.getElem_of_mem ha
  rw[List.length_drop]at hi
  rw[List.getElem_drop]
  have h1:¬ l[bC l x+i] <x:=fun h=>by have:=(sD (by omega)).1 h;omega
  have h2:l[bC l x+i]≠x:=fun h=>by have:=M1 (by omega) h;rw[hh]at this;cases this
  omega
 unfold b8
 rw[List.append_assoc,List.pairwise_append]
 refine⟨hs.sublist (List.take_sublist _ _),?_,fun a ha b hb=>?_⟩
 ·rw[List.pairwise_append]
  refine⟨by simp,hs.sublist (List.drop_sublist _ _),fun a ha b hb=>?_⟩
  simp only[List.mem_cons,List.not_mem_nil,or_false]at ha
  subst ha
  exact hd b hb
 ·rcases List.mem_append.1 hb with h1 | h1
  ·simp only[List.mem_cons,List.not_mem_nil,or_false]at h1
   subst h1
   exact ht a ha
  ·have:=ht a ha
   have :=hd b h1
   omega
theorem U8{f:Nat}(hf:f<6){s:Stk}{p:Par}(h:pJ f s)(hp:p.no<=99999)(he:eF f s p=0):pJ f (iR f s p):=by
 unfold iR
 unfold eF at he
 by_cases hn:dS f s p=true
 ·rw[if_pos hn]at he |-
  by_cases hh:bu s.ho p.pa=true
  ·rw[if_pos hh]at he;cases he
  ·rw[if_neg hh]at he
   by_cases hl:40<(b8 s.ho p.pa).length
   ·rw[if_pos hl]at he;cases he
   ·have hg:=(s.ta.get_set (i:=f) (j:=f) (s.ta.get f+1) hf).1
    unfold dS at hn
    have dX:p.no=s.ta.get f+1:=by simpa using hn
    exact⟨Dx h.ri (by simpa using hh),by show (b8 s.ho p.pa).length<=40;omega,by show 0<=(s.ta.set f _).get f;rw[hg];have:=h.t0;omega,by show (s.ta.set f _).get f<=99999;rw[hg];omega⟩
 ·rw[if_neg hn];exact h
theorem Jc{f:Nat}(hf:f<6){ps:List Par}{s0:Stk}(h0:pJ f s0)(hp:∀ p∈ps,p.no<=99999):∀ {z:Nat},z<=ps.length->dG f ps s0 z=0->pJ f (bJ f ps s0 z)
 | 0,_,_=>h0
 |z+1,hz,he=>by
  have mJ:(if dG f ps s0 z=0 then eF f (bJ f ps s0 z) (ps.getD z default)else dG f ps s0 z)=0:=he
  by_cases h1:dG f ps s0 z=0
  ·rw[if_pos h1]at mJ
   have hg:ps.getD z default=ps[z]'(by omega):=getD_at (by omega)
   exact U8 hf (Jc hf h0 hp (by omega) h1) (by rw[hg];exact hp _ (List.getElem_mem _)) mJ
  ·rw[if_neg h1]at mJ;exact absurd mJ h1
theorem U9{d:Dk}{f:Nat}{ta:Int}(hf:f<6)(h:ay d=true):pJ f (rR d.now f ta):=by
 unfold ay iJ cz at h
 simp only[Bool.and_eq_true]at h
 have hp:=h.1.1.1.1.1.1.2
 have ha:=ix.1 h.1.1.2 f hf
 unfold gu at ha
 simp only[Bool.and_eq_true]at ha
 have ht:=cp.1 ha.1.1.2
 exact⟨Cx hp,(um hp).1,ht.1,ht.2⟩
theorem ag8(d:Dk)(nm:Name)(n:Nat){f:Nat}(hf:f<6):List.take (2+f) (List.map D.v (an d))++[D.msl nm n]++List.drop (2+f+1) (List.map D.v (an d))=bQ d f (.v (gv d.now.ho)) nm n (d.now.se.get f):=
 gK (P:=fun f=>List.take (2+f) (List.map D.v (an d))++[D.msl nm n]++List.drop (2+f+1) (List.map D.v (an d))=bQ d f (.v (gv d.now.ho)) nm n (d.now.se.get f)) rfl rfl rfl rfl rfl rfl hf
@[go_sem] theorem aiJ{dom:Name->Bool}(d:Dk)(i:Nat):D.closL dom (List.take i (List.map D.v (an d))++[D.nilsl]++List.drop (i+1) (List.map D.v (an d)))=true:=by
  rw[qW]
  intro x hx
  simp only[List.mem_append,List.mem_cons,List.not_mem_nil,or_false]at hx
  rcases hx with(hx | hx) | hx
  ·exact qW.1 (OF dom (an d) i) x hx
  ·subst hx;rfl
  ·exact qW.1 (OI dom (an d) (i+1)) x hx
theorem ah1(d:Dk){f:Nat}(hf:f<6):(List.map D.v (an d)).getD (14+f) .any=.v (vInt (d.now.ta.get f)):=
 gK (P:=fun f=>(List.map D.v (an d)).getD (14+f) .any=.v (vInt (d.now.ta.get f))) rfl rfl rfl rfl rfl rfl hf
@[go_sem] theorem ah4(d:Dk):(List.map D.v (an d)).getD 1 .any=.v (gv d.now.ho):=rfl
@[go_sem] theorem ahV(d:Dk)(l:List Int):List.take 1 (List.map D.v (an d))++[.v (.sl (l.map vInt))]++List.drop 2 (List.map D.v (an d))=List.map D.v (an (d.setN ⟨l,d.now.un,d.now.se,d.now.ta⟩)):=rfl
theorem ahU(d:Dk)(x:Int){f:Nat}(hf:f<6):List.take (14+f) (List.map D.v (an d))++[.v (vInt x)]++List.drop (14+f+1) (List.map D.v (an d))=List.map D.v (an (d.setN ⟨d.now.ho,d.now.un,d.now.se,d.now.ta.set f x⟩)):=
 gK (P:=fun f=>List.take (14+f) (List.map D.v (an d))++[.v (vInt x)]++List.drop (14+f+1) (List.map D.v (an d))=List.map D.v (an (d.setN ⟨d.now.ho,d.now.un,d.now.se,d.now.ta.set f x⟩))) rfl rfl rfl rfl rfl rfl hf
@[go_sem] theorem agR(d:Dk)(s:Stk):(d.setN s).now=s:=rfl
@[go_sem] theorem agQ(d:Dk)(s s':Stk):(d.setN s).setN s'=d.setN s':=rfl
theorem ag9(d:Dk)(nm:Name)(n:Nat)(ta:Int){f:Nat}(hf:f<6):(bQ d f (.v (gv d.now.ho)) nm n (d.now.se.get f)).set (2+f) (.v (.sl ((fe (d.now.un.get f) ta (d.now.un.get f).length).map encPa)))=List.map D.v (an (d.setN (rR d.now f ta))):=by
 rw[GD d d.now.ho nm n (d.now.se.get f) _ hf,aS.set_self _ _ hf]
 rfl
def AE(d:Dk)(b:Bag):Bool:=(tw b != 0)||(b.to != d.me)
theorem Nt(d:Dk)(b:Bag):AE d b=!jh d b:=by
 unfold AE jh tw
 have :(b.to != d.me)=!(b.to==d.me):=rfl
 rw[this]
 cases fK b<;>cases (b.to==d.me)<;>rfl
theorem HR(f:Nat)(ps:List Par)(s0:Stk){i:Nat}(hi:i<ps.length)(hn:dS f (bJ f ps s0 i) ps[i]=true):bJ f ps s0 (i+1)=⟨b8 (bJ f ps s0 i).ho ps[i].pa,(bJ f ps s0 i).un,(bJ f ps s0 i).se,(bJ f ps s0 i).ta.set f ((bJ f ps s0 i).ta.get f+1)⟩:=by
 show iR f (bJ f ps s0 i) (ps.getD i default)=_
 rw[getD_at hi]
 exact if_pos hn
theorem Sf(f:Nat)(ps:List Par)(s0:Stk){i:Nat}(hi:i<ps.length)(hn:dS f (bJ f ps s0 i) ps[i]=false):bJ f ps s0 (i+1)=bJ f ps s0 i:=by
 show iR f (bJ f ps s0 i) (ps.getD i default)=_
 rw[getD_at hi]
 exact if_neg (by rw[hn];decide)
theorem Jd(f:Nat)(s:Stk)(p:Par)(hn:dS f s p=false):eF f s p=0:=if_neg (by rw[hn];decide)
theorem Jg(f:Nat)(s:Stk)(p:Par)(hn:dS f s p=true)(hh:bu s.ho p.pa=true):eF f s p=96:=by unfold eF;rw[if_pos hn,if_pos hh]
theorem Jf(f:Nat)(s:Stk)(p:Par)(hn:dS f s p=true)(hh:bu s.ho p.pa=false)(hl:40<(b8 s.ho p.pa).length):eF f s p=2:=by unfold eF;rw[if_pos hn,if_neg (by rw[hh];decide),if_pos hl]
theorem Je(f:Nat)(s:Stk)(p:Par)(hn:dS f s p=true)(hh:bu s.ho p.pa=false)(hl:¬ 40<(b8 s.ho p.pa).length):eF f s p=0:=by unfold eF;rw[if_pos hn,if_neg (by rw[hh];decide),if_neg hl]
theorem NT{f:Nat}{ps:List Par}{s0:Stk}{i:Nat}(hi:i<ps.length)(h:dG f ps s0 i=0)(he:eF f (bJ f ps s0 i) ps[i]=0):dG f ps s0 (i+1)=0:=by
 show (if dG f ps s0 i=0 then eF f (bJ f ps s0 i) (ps.getD i default)else _)=0
 rw[if_pos h,getD_at hi,he]
noncomputable def Qi:List (Nat×Spec):=[(77,S39),(55,S68)]
theorem ajU:∀ f s,tbl Qi f=some s->ak Tryd.prog f s:=tc oW<|tc Lv<|tn
attribute [go_sem] Qi
theorem ab4{P:Program}{Γ:FuncId->Option Spec}(hΓ:∀ f s,Γ f=some s->ak P f s){id:Nat}{l:List Oper}{c:Code}{r:List Code}{σ:S}{K:Exit->S->Prop}(ks:List Nat)(ns:List Name)
 (h:∀ K':S->Prop,(∀ σ',fI ks ns σ'->CL P (c::r) (fP ks ns σ') K->K' σ')->mi P Γ l.toArray l σ K'):CL P (.region id l.toArray false::c::r) σ K:=
 Oh hΓ (h _ fun σ' hc hy=>AV ks ns hc hy)
theorem ID{P:Program}{Γ:FuncId->Option Spec}{ops:Array Oper}{o:Oper}{r:List Oper}{σ:S}{K:S->Prop}(h1:lh P Γ ops σ o)(h2:mi P Γ ops r (a7 P Γ ops σ o) K):mi P Γ ops (o::r) σ K:=.step h1 h2
def gC{α:Type}(p:α->Bool)(l:List α):List α:=l.filter fun d=>!p d
def mT{α:Type}(enc:α->V)(z:V)(p:α->Bool)(l:List α):List V:=(gC p l).map enc++List.replicate (l.length-(gC p l).length) z
def nr:Par:=⟨0,0⟩
def fj{α:Type}(p:α->Bool)(l:List α):Int:=if l.any p then(l.findIdx p:Int)else -1
theorem zJ{α:Type}{p:α->Bool}{l:List α}{i:Nat}(h:i<l.length)(hp:p l[i]=true)(hn:∀ k (hk:k<l.length),k<i->p l[k]=false):fj p l=i:=by
 unfold fj
 rw[if_pos (List.any_eq_true.2 ⟨_,List.getElem_mem h,hp⟩)]
 congr 1
 rw[List.findIdx_eq h]
 exact⟨hp,fun j hj=>by simpa using hn j (by omega) hj⟩
theorem DB{α:Type}{p:α->Bool}{l:List α}(hn:∀ k (hk:k<l.length),p l[k]=false):fj p l= -1:=by
 unfold fj
 rw[if_neg]
 intro h
 obtain⟨x,hx,hp⟩:=List.any_eq_true.1 h
 obtain⟨k,hk,rfl⟩:=List.getElem_of_mem hx
 rw[hn k hk]at hp
 cases hp
def mU:V->Bag
 | .ptr l=>oc (.agg l)
 |_=>default
def DG:En Bag:=⟨fun b=>.ptr (aX b),mU⟩
def Od:V->Bag
 | .clo _ _ [x]=>mU x
 |_=>default
def DH:En Bag:=⟨fun b=>.clo (.func 49) [] [.ptr (aX b)],Od⟩
@[go_sem] theorem abw(b:Bag):mU (.ptr (aX b))=b:=vw b
@[go_sem] theorem aix(f:Fn)(b:Bag):Od (.clo f [] [.ptr (aX b)])=b:=vw b
attribute [go_sem] DG DH
@[go_sem] theorem ajj(b:Bag):List.take 1 (List.drop 3 (aX b))=[vInt b.ta]:=rfl
@[go_sem] theorem ajk(b:Bag):List.take 1 (List.drop 2 (aX b))=[rowP b.ps]:=rfl
@[go_sem] theorem ajl(b:Bag):List.take 1 (List.drop 1 (aX b))=[vInt b.to]:=rfl
@[go_sem] theorem ajm(b:Bag):List.take 1 (aX b)=[vInt b.fr]:=rfl
def fh(b:Bag)(p:Par):Bool:=decide (p.no<=b.ta)
noncomputable def P65:PSpec:=p2 wE DG (fun _ _=>True) (fun p b=>.bool (fh b p)) true
noncomputable def S65:Spec:=P65.toSpec
attribute [go_sem] P65 S65
theorem Tx:aR Tryd.prog 49 P65:=by
 refine w2 (rs:=[.tmp 3]) Tryd.func49 Tryd.ntmps49 (by rfl) (by kernel_rfl) (by decide) (fun _ _ _=>rfl) ⟨_,rfl,lb rfl,fun p b hp hw=>?_⟩
 have hP:=be
 simp only[DG,wE]at hw |-
 have hΓ:=@kq Tryd.prog
 repeat refine sq ?_
 refine rx hΓ [1,2] [[2,0]] (fun K' hK=>by simp only[go_sem];(repeat (refine⟨ah,?_⟩));exact hK _ (by simp only[go_sem]) (by simp only[go_sem]<;>rfl)) ?_
 repeat refine sq ?_
 refine rx hΓ [3] [] (fun K' hK=>by simp only[go_sem,Nat.add_zero];(repeat (refine⟨ah,?_⟩));exact hK _ (by simp only[go_sem]) (by simp only[go_sem]<;>rfl)) ?_
 refine ar ?_
 simp only[go_sem]
 all_goals first | rfl | (simp;done) | (simp_all;done)
theorem Lw:ak Tryd.prog 49 S65:=Tx.sound
noncomputable def G':List (Nat×Spec):=[(49,S65)]
theorem adA:∀ f s,tbl G' f=some s->ak Tryd.prog f s:=tc Lw<|tn
attribute [go_sem] G'
noncomputable def P101:PSpec:=p2 ll DH (fun _ _=>True) (fun l b=>vInt (fj (fh b) l)) true
noncomputable def S101:Spec:=P101.toSpec
attribute [go_sem] P101 S101
set_option maxHeartbeats 4000000 in
theorem Ui:aR Tryd.prog 72 P101:=by
 refine w2 (rs:=[.tmp 4]) Tryd.func72 Tryd.ntmps72 (by rfl) (by kernel_rfl) (by decide) (fun _ _ _=>rfl) ⟨_,rfl,lb rfl,fun l b hp hw=>?_⟩
 have hP:=be
 simp only[DH,ll]at hw |-
 have hl:l.length<=maxLen:=by have:=hw.1.1;simpa using this
 obtain⟨Γ,sG,hΓ,hs,hg⟩:∃ (Γ:FuncId->Option Spec) (sG:Spec),(∀ f s,Γ f=some s->ak Tryd.prog f s)/\Γ 49=some sG/\
  ∀ (obj:Name->Option O) (t:Name) (x:Par),sG.app obj t [.v (encPa x),.v (.ptr (aX b))]=⟨True,.v (.bool (fh b x)),obj⟩:=⟨tbl G',S65,adA,rfl,fun obj t x=>by simp only[go_sem]⟩
 simp only[encPa]at hg
 repeat refine sq ?_
 refine rx hΓ [0,1] [] (fun K' hK=>by simp only[go_sem];(repeat (refine⟨ah,?_⟩));exact hK _ (by simp only[go_sem]) (by simp only[go_sem]<;>rfl)) ?_
 repeat refine sq ?_
 refine rx hΓ [0,1,7,8] [] (fun K' hK=>by simp only[go_sem];(repeat (refine⟨ah,?_⟩));exact hK _ (by simp only[go_sem]) (by simp only[go_sem]<;>rfl)) ?_
 repeat refine sq ?_
 refine aN ?_
 repeat refine sq ?_
 refine cN (fun z:Nat=>[(8,⟨true,.v (vInt z)⟩)]) (fun z=>[]) (fun z=>z<=l.length/\∀ k (h:k<l.length),k<z->fh b l[k]=false) (fun z=>l.length-z) 0 ?_ ?_ ?_ ?_
 ·exact⟨Nat.zero_le _,fun k h hk=>absurd hk (by omega)⟩
 ·rfl
 ·rfl
 rintro i ⟨hi,hR⟩
 simp only[go_sem]
 repeat refine sq ?_
 refine rx hΓ [0,1,7,8,9] [] (fun K' hK=>by simp only[go_sem];(repeat (refine⟨ah,?_⟩));exact hK _ (by simp only[go_sem]) (by simp only[go_sem]<;>rfl)) ?_
 repeat refine sq ?_
 refine au rfl rfl (fun hb=>?_) (fun hb=>?_)
 ·have ae:i<l.length:=by simpa using hb
  have ai:(i:Int)<l.length:=by omega
  clear hb
  repeat refine sq ?_
  refine ax ?_
  repeat refine sq ?_
  refine aN ?_
  repeat refine sq ?_
  refine rx hΓ [0,1,5,7,8] [] (fun K' hK=>by simp only[go_sem,aJ ae,Int.toNat_natCast,Int.natCast_nonneg,ai];(repeat (refine⟨ah,?_⟩));exact hK _ (by simp only[go_sem]) (by simp only[go_sem]<;>rfl)) ?_
  repeat refine sq ?_
  refine rx hΓ [0,1,5,7,8,16] [] (fun K' hK=>by simp only[go_sem,aJ ae,Int.toNat_natCast,Int.natCast_nonneg,ai,aJ ae,hs,hg,Int.toNat_natCast,Int.natCast_nonneg,ai];(repeat (refine⟨ah,?_⟩));exact hK _ (by simp only[go_sem]) (by simp only[go_sem]<;>rfl)) ?_
  repeat refine sq ?_
  refine au rfl rfl (fun hb=>?_) (fun hb=>?_)
  ·repeat refine sq ?_
   refine rx hΓ [4] [] (fun K' hK=>by simp only[go_sem,aJ ae,Int.toNat_natCast,Int.natCast_nonneg,ai];(repeat (refine⟨ah,?_⟩));exact hK _ (by simp only[go_sem]) (by simp only[go_sem]<;>rfl)) ?_
   refine ar ?_
   simp only[go_sem]
   rw[zJ (p:=fh b) ae (by simpa using hb) hR]
  ·repeat refine sq ?_
   refine ax ?_
   refine cM ?_
   simp only[go_sem]
   refine kp [0,1,7,8] [] ?_
   repeat refine sq ?_
   refine aP hΓ fun K' hK=>?_
   simp only[go_sem,aJ ae,Int.toNat_natCast,Int.natCast_nonneg,ai]
   repeat (refine⟨ah,?_⟩)
   refine hK _ ?_
   clear K' hK
   simp only[go_sem]
   refine⟨i+1,⟨ae,?_⟩,by(show l.length-(i+1)<l.length-i;omega),?_⟩
   ·intro k hk jV
    rcases Nat.lt_succ_iff_lt_or_eq.1 jV with h5 | rfl
    ·exact hR k hk h5
    ·simpa using hb
   refine bk [0,1,7,8] [] ?_ ?_
   ·simp only[go_sem,aF ae hl,Int.natCast_add,Int.natCast_one]
   ·simp only[go_sem,aF ae hl,Int.natCast_add,Int.natCast_one]
 ·have bb:i=l.length:=by
   have :¬ (i:Int)<l.length:=by simpa using hb
   omega
  clear hb
  subst bb
  repeat refine sq ?_
  refine cr ?_
  simp only[go_sem]
  refine kp [] [] ?_
  repeat refine sq ?_
  refine rx hΓ [4] [] (fun K' hK=>by simp only[go_sem];(repeat (refine⟨ah,?_⟩));exact hK _ (by simp only[go_sem]) (by simp only[go_sem]<;>rfl)) ?_
  refine ar ?_
  simp only[go_sem]
  rw[DB (p:=fh b) fun k hk=>hR k hk hk]
theorem Yf:ak Tryd.prog 72 S101:=Ui.sound
noncomputable def G9:List (Nat×Spec):=[(49,S65),(72,S101)]
theorem adz:∀ f s,tbl G9 f=some s->ak Tryd.prog f s:=tc Lw<|tc Yf<|tn
attribute [go_sem] G9
theorem GW:(#[35]:Array Nat).getD 0 0=35:=rfl
theorem Q4:((bh Tryd.prog 75).bind fun z=>ew (ju z))=some (encPa nr):=by rw[RE];rfl
theorem Gn{obj:Name->Option O}{nm:Name}{k i:Nat}{L:List V}(h:obj nm=some (.arr 2 L))(hk:k=L.length)(hi:i<L.length):
 lF Tryd.prog obj 35 35 (.msl nm k) (.v (vInt i))=⟨True,.any,upd obj nm (some (.arr 2 (L.take i++List.replicate (L.length-i) (encPa nr))))⟩:=by
 unfold lF
 simp only[HE,h,Q4,Int.toNat_natCast]
 congr 1
 simp only[eq_iff_iff,iff_true]
 exact⟨hk,by omega,hi,trivial,rfl,rfl,trivial,by decide⟩
set_option maxRecDepth 10000 in
set_option maxHeartbeats 4000000 in
theorem Ry(b:Bag){H:Name->Option O}{l:List Par}(hl:l.length<1000000)(qH:H [0,1]=some (.arr 2 (l.map encPa)))(iv:∀ hs,b7 [0] (bT [0] hs) H=True)(gU:∀ hs sz L,b7 [0] (bT [0] hs) (upd H [0,1] (some (.arr sz L)))=True)(M4:∀ hs sz L,b7 [0] (bT [0] hs) (upd H [0,1] (some (.farr sz L)))=True):
 ∃ c,Tryd.f48.body=some c/\CL Tryd.prog [c] (aT 42 [0] H [(0,⟨true,.msl [0,1] l.length⟩),(1,⟨true,.clo (.func 49) [] [.v (.ptr (aX b))]⟩)] []) (fun e σ=>(e=.normal\/e=.ret)/\(σ.env 4).c=true/\
   (σ.env 4).d=.v (.sl ((gC (fh b) l).map encPa))/\σ.obj [0,1]=some (.farr 2 (mT encPa (encPa nr) (fh b) l))):=by
 obtain⟨Γ,sG,sI,hΓ,hs,hi,hp,hI⟩:∃ (Γ:FuncId->Option Spec) (sG sI:Spec),(∀ f s,Γ f=some s->ak Tryd.prog f s)/\Γ 49=some sG/\Γ 72=some sI/\
  (∀ (obj:Name->Option O) (t:Name) (x:Par),sG.app obj t [.agg ((encPa x).cells.map .v),.v (.ptr (aX b))]=⟨True,.v (.bool (fh b x)),obj⟩)/\
  ∀ (obj:Name->Option O) (t:Name),obj [0,1]=some (.arr 2 (l.map encPa))->sI.app obj t [.msl [0,1] l.length,.clo (.func 49) [] [.v (.ptr (aX b))]]=⟨True,.v (vInt (fj (fh b) l)),obj⟩:=
  ⟨tbl G9,S65,S101,adz,rfl,rfl,fun obj t x=>by simp only[go_sem],fun obj t e=>by simp only[go_sem,e,List.length_map]⟩
 generalize vf:mT encPa (encPa nr) (fh b) l=XX
 generalize hpg:fh b=p at *
 simp only[encPa,V.cells,List.map_cons,List.map_nil]at hp
 refine⟨_,rfl,?_⟩
 have hm:l.length<=maxLen:=by unfold maxLen;omega
 repeat refine sq ?_
 refine rx hΓ [0,1] [] (fun K' hK=>by simp only[go_sem,iv];(repeat (refine⟨ah,?_⟩));exact hK _ (by simp only[go_sem,iv]) (by simp only[go_sem,iv]<;>rfl)) ?_
 repeat refine sq ?_
 refine rx hΓ [0,1,5] [] (fun K' hK=>by simp only[go_sem,iv,hI,hi,qH,implies_true];(repeat (refine⟨ah,?_⟩));exact hK _ (by simp only[go_sem,iv,hI,hi,qH,implies_true]) (by simp only[go_sem,iv,hI,hi,qH,implies_true]<;>rfl)) ?_
 repeat refine sq ?_
 refine rx hΓ [0,1,5,12] [] (fun K' hK=>by simp only[go_sem,iv];(repeat (refine⟨ah,?_⟩));exact hK _ (by simp only[go_sem,iv]) (by simp only[go_sem,iv]<;>rfl)) ?_
 repeat refine sq ?_
 refine au rfl rfl (fun hb=>?_) (fun hb=>?_)
 ·repeat refine sq ?_
  refine rx hΓ [4] [] (fun K' hK=>by simp only[go_sem,iv];(repeat (refine⟨ah,?_⟩));exact hK _ (by simp only[go_sem,iv]) (by simp only[go_sem,iv]<;>rfl)) ?_
  refine aL (Hr 4 (.msl [0,1] l.length) (by simp only[go_sem]) (by simp only[go_sem,qH,List.length_map]) [4] [] ?_ rfl) ?_
  ·simp only[go_sem,qH,M4]
  simp only[go_sem,qH]
  refine ar ?_
  simp only[go_sem,qH]
  have cY:fj p l= -1:=by simpa using hb
  have ee:∀ d∈l,p d=false:=by
   unfold fj at cY
   split at cY
   ·omega
   ·rename_i hn
    intro d hd
    cases Zl:p d with
    |false=>rfl
    |true=>exact(hn (List.any_eq_true.2 ⟨d,hd,Zl⟩)).elim
  have hk:gC p l=l:=List.filter_eq_self.2 fun d hd=>by rw[ee d hd];rfl
  have An:XX=l.map encPa:=by rw[<-vf];unfold mT;rw[hk];simp
  rw[hk,An]
  exact⟨.inr trivial,rfl,rfl⟩
 have hf:l.findIdx p<l.length:=by
  have cY:¬ fj p l= -1:=by simpa using hb
  unfold fj at cY
  split at cY
  ·rename_i aal
   exact List.findIdx_lt_length_of_exists (by obtain⟨y,hy,hp⟩:=List.any_eq_true.1 aal;exact⟨y,hy,hp⟩)
  ·exact(cY rfl).elim
 have qB:fj p l=(l.findIdx p:Int):=by unfold fj;rw[if_pos (List.any_eq_true.2 ⟨_,List.getElem_mem hf,List.findIdx_getElem (w:=hf)⟩)]
 rw[qB]
 clear hb qB hi hI
 have Zk:p (l[l.findIdx p])=true:=List.findIdx_getElem (w:=hf)
 have Ms:∀ j (h:j<l.length),j<l.findIdx p->p l[j]=false:=fun j h hj=>by simpa using List.not_of_lt_findIdx hj
 generalize l.findIdx p=f at *
 repeat refine sq ?_
 refine ax ?_
 repeat refine sq ?_
 refine rx hΓ [0,1,5,6] [] (fun K' hK=>by simp only[go_sem,iv,aF hf hm,Int.natCast_add,Int.natCast_one];(repeat (refine⟨ah,?_⟩));exact hK _ (by simp only[go_sem,iv,aF hf hm,Int.natCast_add,Int.natCast_one]) (by simp only[go_sem,iv,aF hf hm,Int.natCast_add,Int.natCast_one]<;>rfl)) ?_
 repeat refine sq ?_
 refine aN ?_
 repeat refine sq ?_
 refine ab5 (fun x:Nat×Nat×List Par=>upd H [0,1] (some (.arr 2 (x.2.2.map encPa)))) (fun x=>[(5,⟨true,.v (vInt x.1)⟩),(6,⟨true,.v (vInt x.2.1)⟩)]) (fun x=>[]) (fun x=>x.1<x.2.1/\x.2.1<=l.length/\x.2.2.length=l.length/\x.2.2.take x.1=gC p (l.take x.2.1)/\x.2.2.drop x.2.1=l.drop x.2.1) (fun x=>l.length-x.2.1) (f,f+1,l) ?_ ?_ ?_ ?_ ?_
 ·refine⟨(show f<f+1 by omega),hf,rfl,?_,rfl⟩
  show l.take f=gC p (l.take (f+1))
  unfold gC
  rw[List.take_add_one,List.getElem?_eq_getElem hf,List.filter_append]
  simp only[Option.toList_some,List.filter_cons,Zk,Bool.not_true,Bool.false_eq_true,if_false,List.filter_nil,List.append_nil]
  rw[List.filter_eq_self.2]
  intro d hd
  obtain⟨j,hj,rfl⟩:=List.getElem_of_mem hd
  have e7:j<f:=by simp at hj;omega
  rw[List.getElem_take,Ms j (by omega) e7]
  rfl
 ·congr 1
  rw[<-qH]
  funext x
  by_cases e:x=[0,1]
  ·subst e;rw[aE]
  ·rw[aI _ _ _ e]
 ·rfl
 ·rfl
 clear Ms
 rintro⟨i,j,A⟩ ⟨iG,hj,hA,hT,hD⟩
 simp only at iG hj hA hT hD
 dsimp only
 generalize sU:upd H [0,1] (some (O.arr 2 (List.map encPa A)))=H'
 have h0:H' [0,1]=some (.arr 2 (A.map encPa)):=by rw[<-sU,aE]
 have xn:∀ i,H' [i+1,1]=H [i+1,1]:=fun i=>by rw[<-sU,aI _ _ _ (by simp)]
 have iw:∀ hs,b7 [0] (bT [0] hs) H'=True:=fun hs=>by rw[<-sU];exact gU _ _ _
 have lv:∀ hs sz L,b7 [0] (bT [0] hs) (upd H' [0,1] (some (.arr sz L)))=True:=fun hs sz L=>by rw[<-sU,tM];exact gU _ _ _
 have aaq:∀ hs sz L,b7 [0] (bT [0] hs) (upd H' [0,1] (some (.farr sz L)))=True:=fun hs sz L=>by rw[<-sU,tM];exact M4 _ _ _
 simp only[go_sem]
 repeat refine sq ?_
 refine rx hΓ [0,1,5,6,19] [] (fun K' hK=>by simp only[go_sem,iw,lv,h0];(repeat (refine⟨ah,?_⟩));exact hK _ (by simp only[go_sem,iw,lv,h0]) (by simp only[go_sem,iw,lv,h0]<;>rfl)) ?_
 repeat refine sq ?_
 refine au rfl rfl (fun hb=>?_) (fun hb=>?_)
 ·have ae:j<l.length:=by simpa using hb
  have EF:j<A.length:=by omega
  have xd:i<A.length:=by omega
  have ZM:(i:Int)<l.length:=by omega
  have ai:(j:Int)<l.length:=by omega
  have Fk:A[j]=l[j]:=by
   have h1:A[j]=(A.drop j)[0]'(by simp;omega):=by simp
   rw[h1]
   simp only[hD]
   simp
  clear hb
  repeat refine sq ?_
  refine ax ?_
  repeat refine sq ?_
  refine aN ?_
  repeat refine sq ?_
  refine rx hΓ [0,1,5,6,7] [[7,0]] (fun K' hK=>by simp only[go_sem,iw,lv,h0,aJ EF,Int.toNat_natCast,Int.natCast_nonneg,ai,hA,Fk];(repeat (refine⟨ah,?_⟩));exact hK _ (by simp only[go_sem,iw,lv,h0,aJ EF,Int.toNat_natCast,Int.natCast_nonneg,ai,hA,Fk]) (by simp only[go_sem,iw,lv,h0,aJ EF,Int.toNat_natCast,Int.natCast_nonneg,ai,hA,Fk]<;>rfl)) ?_
  repeat refine sq ?_
  refine rx hΓ [0,1,5,6,7,29] [[7,0]] (fun K' hK=>by simp only[go_sem,iw,lv,h0,hs,hp];(repeat (refine⟨ah,?_⟩));exact hK _ (by simp only[go_sem,iw,lv,h0,hs,hp]) (by simp only[go_sem,iw,lv,h0,hs,hp]<;>rfl)) ?_
  repeat refine sq ?_
  refine au rfl rfl (fun hb=>?_) (fun hb=>?_)
  ·have Zj:p l[j]=false:=by simpa using hb
   clear hb
   repeat refine sq ?_
   refine A1 hΓ [0,1,5,6] [] fun K' hK=>?_
   simp only[go_sem,iw,lv,h0,Int.toNat_natCast,Int.natCast_nonneg,ZM,hA]
   repeat' apply And.intro
   all_goals first | rfl | omega | exact Int.le_refl _ | exact Bool.or_not_self _ | exact Bool.not_or_self _ | exact FQ _ | exact FT _ | exact fun x hx=>(FQ _ x hx).1 | exact fun x hx=>(FT _ x hx).1 | (simp only[List.length_take,List.length_append,List.length_map,List.length_drop,List.length_cons,List.length_nil];done) | (simp only[List.length_take,List.length_append,List.length_map,List.length_drop,List.length_cons,List.length_nil];omega) | (simp only[List.length_take,List.length_append,List.length_map,List.length_drop,List.length_cons,List.length_nil,maxLen];omega) | (exact fun _=>by decide) | (exact fun h=>⟨h,by decide⟩) | (simp only[decide_eq_true_eq];omega) | skip
   refine hK _ ?_ ?_
   ·simp only[go_sem,iw,lv]
   clear K' hK
   simp only[go_sem]
   obtain⟨H2,kM⟩:∃ H2,upd H' [0,1] (some (O.arr 2 ((List.map encPa A).set i (encPa l[j]))))=H2:=⟨_,rfl⟩
   have M':=kM
   simp only[encPa]at M'
   rw[M']
   have xm:∀ hs,b7 [0] (bT [0] hs) H2=True:=fun hs=>by rw[<-kM];exact lv _ _ _
   repeat refine sq ?_
   refine aP hΓ fun K' hK=>?_
   simp only[go_sem]
   repeat (refine⟨ah,?_⟩)
   refine hK _ ?_
   clear K' hK
   simp only[go_sem]
   refine kS [0,1,5,6] [] ?_ ?_
   ·simp only[go_sem,xm]
   simp only[go_sem,xm]
   repeat refine sq ?_
   refine aP hΓ fun K' hK=>?_
   simp only[go_sem]
   repeat (refine⟨ah,?_⟩)
   refine hK _ ?_
   clear K' hK
   simp only[go_sem]
   refine⟨(i+1,j+1,A.set i l[j]),⟨(show i+1<j+1 by omega),ae,by simpa using hA,?_,?_⟩,(show l.length-(j+1)<l.length-j by omega),?_⟩
   ·show (A.set i l[j]).take (i+1)=gC p (l.take (j+1))
    unfold gC at hT |-
    rw[List.take_add_one (l:=l),List.getElem?_eq_getElem ae,List.filter_append,<-hT]
    simp only[Option.toList_some,List.filter_cons,Zj,Bool.not_false,if_true,List.filter_nil]
    rw[List.take_add_one,List.take_set_of_le (Nat.le_refl i),List.getElem?_set_self xd]
    rfl
   ·show (A.set i l[j]).drop (j+1)=l.drop (j+1)
    rw[List.drop_set_of_lt (show i<j+1 by omega)]
    have :=congrArg (List.drop 1) hD
    simpa[List.drop_drop]using this
   ·refine bk [0,1,5,6] [] ?_ ?_
    ·simp only[go_sem,xm]
    ·simp only[go_sem,aF ae hm,aF (show i<l.length by omega) hm,Int.natCast_add,Int.natCast_one]
     rw[<-kM,<-sU,tM,List.map_set]
     try rfl
  ·have Zh:p l[j]=true:=by simpa using hb
   clear hb
   repeat refine sq ?_
   refine ax ?_
   refine cM ?_
   simp only[go_sem]
   refine kS [0,1,5,6] [] ?_ ?_
   ·simp only[go_sem,iw]
   simp only[go_sem,iw]
   repeat refine sq ?_
   refine aP hΓ fun K' hK=>?_
   simp only[go_sem]
   repeat (refine⟨ah,?_⟩)
   refine hK _ ?_
   clear K' hK
   simp only[go_sem]
   refine⟨(i,j+1,A),⟨(show i<j+1 by omega),ae,hA,?_,?_⟩,(show l.length-(j+1)<l.length-j by omega),?_⟩
   ·show A.take i=gC p (l.take (j+1))
    unfold gC at hT |-
    rw[List.take_add_one (l:=l),List.getElem?_eq_getElem ae,List.filter_append,<-hT]
    simp only[Option.toList_some,List.filter_cons,Zh,Bool.not_true,Bool.false_eq_true,if_false,List.filter_nil,List.append_nil]
   ·show A.drop (j+1)=l.drop (j+1)
    have :=congrArg (List.drop 1) hD
    simpa[List.drop_drop]using this
   ·refine bk [0,1,5,6] [] ?_ ?_
    ·simp only[go_sem,iw]
    ·simp only[go_sem,aF ae hm,Int.natCast_add,Int.natCast_one]
     rw[<-sU]
 ·have bb:j=l.length:=by
    have :¬ (j:Int)<l.length:=by simpa using hb
    omega
  subst bb
  clear hb
  rw[List.take_length]at hT
  have xd:i<A.length:=by omega
  repeat refine sq ?_
  refine cr ?_
  simp only[go_sem]
  refine kS [0,5] [] ?_ ?_
  ·simp only[go_sem,iw]
  simp only[go_sem,iw]
  repeat refine sq ?_
  refine ab4 hΓ [0,5] [] fun K' hK=>?_
  refine ID ?_ (ID ?_ (.cut (T:=35) (x:=.tmp 36) (lo:=.tmp 37) (c:=38) rfl rfl ?_ ?_ ?_ ?_ (.nil ?_)))
  ·simp only[go_sem]
  ·simp only[go_sem]
  ·simp only[go_sem]
  ·simp only[go_sem]
  ·simp only[go_sem]
  ·have kI:=fun (obj:Name->Option O) (h:obj [0,1]=_)=>Gn (obj:=obj) (nm:=[0,1]) (k:=l.length) (i:=i) (L:=A.map encPa) h (by simpa using hA.symm) (by simpa using xd)
   simp only[go_sem,mX,GW,kI,h0]
  ·refine hK _ ?_ ?_
   ·simp only[go_sem,qR,mX,GW,Gn (obj:=fun nm=>if own [0] nm=true then none else H' nm) (nm:=[0,1]) (k:=l.length) (i:=i) (L:=A.map encPa) h0 (by simpa using hA.symm) (by simpa using xd),lv]
   clear K' hK
   simp only[go_sem,qR,mX,GW,Gn (obj:=fun nm=>if own [0] nm=true then none else H' nm) (nm:=[0,1]) (k:=l.length) (i:=i) (L:=A.map encPa) h0 (by simpa using hA.symm) (by simpa using xd)]
   have jV:(gC p l).length=i:=by rw[<-hT,List.length_take];omega
   have Fa:(List.take i (List.map encPa A)++List.replicate (A.length-i) (encPa nr))=XX:=by
    rw[<-vf]
    unfold mT
    rw[jV,<-hT,List.map_take,hA]
   have hZ1:XX.length=l.length:=by rw[<-vf];unfold mT;simp;omega
   have hZ2:XX.take i=(gC p l).map encPa:=by
    rw[<-vf]
    unfold mT
    rw[List.take_append_of_le_length (by simp;omega),List.take_of_length_le (by simp;omega)]
   have hZ3:∀ x∈XX,x.cells.length=2:=by
    intro x hx
    rw[<-vf]at hx
    rcases List.mem_append.1 hx with h | h
    ·obtain⟨y,_,rfl⟩:=List.mem_map.1 h;rfl
    ·rw[(List.mem_replicate.1 h).2];rfl
   simp only[encPa]at Fa
   rw[Fa]
   clear Fa
   clear vf
   generalize XX=Z at *
   simp only[V.cells]at hZ3
   generalize kL:upd H' [0,1] (some (O.arr 2 Z))=H3
   have h30:H3 [0,1]=some (.arr 2 Z):=by rw[<-kL,aE]
   have hI3:∀ i,H3 [i+1,1]=H [i+1,1]:=fun i=>by rw[<-kL,aI _ _ _ (by simp)];exact xn i
   have aap:∀ hs sz L,b7 [0] (bT [0] hs) (upd H3 [0,1] (some (.farr sz L)))=True:=fun hs sz L=>by rw[<-kL,tM];exact aaq _ _ _
   have ZL:(i:Int)<=l.length:=by omega
   repeat refine sq ?_
   refine A1 hΓ [4] [] fun K' hK=>?_
   simp only[go_sem,h30,HE,Int.toNat_natCast,Int.natCast_nonneg,ZL]
   repeat' apply And.intro
   all_goals first | rfl | omega | exact Int.le_refl _ | exact Bool.or_not_self _ | exact Bool.not_or_self _ | exact FQ _ | exact FT _ | exact fun x hx=>(FQ _ x hx).1 | exact fun x hx=>(FT _ x hx).1 | (simp only[List.length_take,List.length_append,List.length_map,List.length_drop,List.length_cons,List.length_nil];done) | (simp only[List.length_take,List.length_append,List.length_map,List.length_drop,List.length_cons,List.length_nil];omega) | (simp only[List.length_take,List.length_append,List.length_map,List.length_drop,List.length_cons,List.length_nil,maxLen];omega) | (exact fun _=>by decide) | (exact fun h=>⟨h,by decide⟩) | (simp only[decide_eq_true_eq];omega) | skip
   refine hK _ ?_ ?_
   ·simp only[go_sem,aap]
   clear K' hK
   simp only[go_sem]
   refine ar ?_
   simp only[go_sem,hZ2]
   exact .inr trivial
noncomputable def delCP:CSpec where
 pre:=fun os ds=>∃ (l:List Par) (b:Bag),os=[.arr 2 (l.map encPa)]/\ds=[.msl [0,1] l.length,.clo (.func 49) [] [.v (.ptr (aX b))]]/\l.length<1000000
 out:=fun os ds=>match os,ds with
  |[.arr _ L],[_,.clo _ _ [.v x]]=>⟨[(0,.farr 2 (mT encPa (encPa nr) (fh (mU x)) (L.map j8)))],[],.v (.sl ((gC (fh (mU x)) (L.map j8)).map encPa))⟩
  |_,_=>⟨[],[],.any⟩
noncomputable def tj(obj:Name->Option O)(_:Name):List D->R
 |[.msl nm k,.clo (.func 49) [] [.v (.ptr cs)]]=>match obj nm with
  |some (.arr 2 L)=>⟨k=L.length/\L.length<1000000/\(L.map j8).map encPa=L/\aX (mU (.ptr cs))=cs,.v (.sl ((gC (fh (mU (.ptr cs))) (L.map j8)).map encPa)),upd obj nm (some (.farr 2 (mT encPa (encPa nr) (fh (mU (.ptr cs))) (L.map j8))))⟩
  |_=>.bad obj
 |_=>.bad obj
def qQ(_:Name->Option O)(_:Name):List D->List Name
 | .msl nm _::_=>[nm]
 |_=>[]
noncomputable def S64:Spec:=⟨tj,qQ,qQ⟩
attribute [go_sem] S64 tj
theorem abo:S64.Near:=by
 refine CP fun obj obj2 t ds ha=>⟨rfl,?_⟩
 have dX:∀ wr,bw wr obj obj2->bH (R.bad obj) (R.bad obj2) obj obj2 wr:=fun wr h=>.none wr h
 unfold tj
 split
 ·rename_i nm k cs
  have h1:obj2 nm=obj nm:=ha nm (by simp[qQ])
  simp only[h1]
  split
  ·exact .one (by simp[qQ]) ha
  ·exact dX _ ha
 ·exact dX _ ha
theorem XP:ak Tryd.prog 48 delCP.toSpec:=by
 refine mV (nt:=42) (rs:=[.tmp 4]) Tryd.func48 rfl (by rfl) (by kernel_rfl) (iN Tryd.func48 rfl (by kernel_rfl)) (oN _ (by decide)) ?_
 rintro os ds ⟨l,b,rfl,rfl,hl⟩
 refine⟨lb rfl,?_⟩
 have fQ:delCP.out [.arr 2 (l.map encPa)] [.msl [0,1] l.length,.clo (.func 49) [] [.v (.ptr (aX b))]]=⟨[(0,.farr 2 (mT encPa (encPa nr) (fh b) l))],[],.v (.sl ((gC (fh b) l).map encPa))⟩:=by
  simp only[delCP,Ge,abw]
 rw[fQ]
 have iv:∀ hs,b7 [0] (bT [0] hs) (aW [.arr 2 (l.map encPa)])=True:=fun hs=>eq_true (wk (by
  intro o ho dom hd
  simp only[List.mem_singleton]at ho
  subst ho
  rfl) hs)
 obtain⟨c,hc,h⟩:=Ry b (H:=aW [.arr 2 (l.map encPa)]) hl rfl iv (fun hs sz L=>eq_true (yg rfl (by rw[iv];trivial))) (fun hs sz L=>eq_true (yg rfl (by rw[iv];trivial)))
 have sN:∀ c2,Tryd.f48.body=some c2->c2=c:=fun c2 h2=>by rw[h2]at hc;exact Option.some.inj hc
 rw[<-sN _ rfl]at h
 refine CW.mono (jm h) ?_
 rintro e σ ⟨he,h1,h2,h3⟩
 have fin:(bX Tryd.prog σ [.tmp 4]).ok/\(bX Tryd.prog σ [.tmp 4]).d=.v (.sl ((gC (fh b) l).map encPa))/\gW [.arr 2 (l.map encPa)] ⟨[(0,.farr 2 (mT encPa (encPa nr) (fh b) l))],[],.v (.sl ((gC (fh b) l).map encPa))⟩ σ:=
  ⟨h1,h2,⟨h3,trivial⟩,trivial,rfl⟩
 rcases he with rfl | rfl
 ·exact fin
 ·exact fin
theorem XQ:ak Tryd.prog 48 S64:=by
 refine BV XP abo (oN _ (by decide)) fun obj t ds aa=>?_
 change (tj obj t ds).ok at aa
 refine⟨ds,rfl,fun _ _ _ _ h=>h,?_⟩
 show _/\_=(tj obj t ds).d/\_=(tj obj t ds).obj
 unfold tj at aa |-
 split at aa
 ·rename_i nm k cs
  split at aa
  ·rename_i L ho
   obtain⟨rfl,hl,he,hg⟩:=aa
   have hr:reach obj [.msl nm L.length,.clo (.func 49) [] [.v (.ptr cs)]]=[nm]:=by
    unfold reach
    show dO obj (2998+1+1) [nm] []=[nm]
    simp only[dO,cj,List.any_nil,Bool.false_eq_true,if_false,ho,my,List.nil_append]
   have i0:idx [nm] nm=0:=by simp[idx]
   have e1:cl obj [.msl nm L.length,.clo (.func 49) [] [.v (.ptr cs)]]=[.arr 2 L]:=by
    unfold cl
    rw[hr]
    simp only[List.map_cons,List.map_nil,cf,ho,O.ren]
   have e2:cO obj [.msl nm L.length,.clo (.func 49) [] [.v (.ptr cs)]]=[.msl [0,1] L.length,.clo (.func 49) [] [.v (.ptr cs)]]:=by
    unfold cO
    rw[hr]
    simp only[D.renL,D.ren,cin,i0]
   have e3:(shut obj [nm]&&D.closL (cj [nm]) [.msl nm L.length,.clo (.func 49) [] [.v (.ptr cs)]]&&fresh obj t [])=true:=by
    simp[shut,ho,O.clos,D.closL,D.clos,cj,fresh]
   have cL:delCP.pre [.arr 2 L] [.msl [0,1] L.length,.clo (.func 49) [] [.v (.ptr cs)]]:=⟨L.map j8,mU (.ptr cs),by rw[he],by rw[List.length_map,hg],by rw[List.length_map];exact hl⟩
   have fQ:delCP.out [.arr 2 L] [.msl [0,1] L.length,.clo (.func 49) [] [.v (.ptr cs)]]=⟨[(0,.farr 2 (mT encPa (encPa nr) (fh (mU (.ptr cs))) (L.map j8)))],[],.v (.sl ((gC (fh (mU (.ptr cs))) (L.map j8)).map encPa))⟩:=rfl
   simp only[CSpec.toSpec,e1,e2,hr,fQ,e3,cL,ho,and_self,dt]
   exact⟨trivial,rfl,rfl⟩
  ·exact aa.elim
 ·exact aa.elim
end Go.Eng
set_option linter.unusedVariables false
namespace Go.Eng
open Go Go.Proofs Go.RowKit Go.Lib Go.Shelf
set_option maxHeartbeats 4000000 in
set_option maxRecDepth 100000 in
theorem Yw(b off n c i vb fL m vc:Nat)(cs vs:List Value)(w:World)(hi:i<n)(hm:0<m)(kE:n+m<=c)(MW:c<=9223372036854775807)(zT:vb≠b)
 (bS:cs.length=n) (DM:vs.length=m)
 (gG:∀ j v,cs[j]?=some v->w.cell? ⟨b,off+j,none⟩=some v) (lp:∀ j,j<n+m->(w.cell? ⟨b,off+j,none⟩).isSome=true) (qA:∀ j,w.frozen? ⟨b,j,none⟩=false)
 (sk:∀ j v,vs[j]?=some v->w.cell? ⟨vb,fL+j,none⟩=some v) (xp:∀ v∈cs,v.oneCell'=true) (Fp:∀ v∈vs,v.oneCell'=true)
 (tA tB:TypeId) (kA kB:Nat) (wS:w.shape? vb=some (tA,kA)) (wR:w.shape? b=some (tB,kB)) (EB:kA≠0):
 Calls Tryd.prog 74 #[.slice (some ⟨b,off,none⟩) n c,.int .i64 i,.slice (some ⟨vb,fL,none⟩) m vc] w fun e w'=>
  e=.returned (.slice (some ⟨b,off,none⟩) (n+m) c)/\w'=(w.drew.setCells b (off+(i+m)) (cs.drop (i))).setCells b (off+i) vs:=by
 have mixed:Tryd.prog.follows Departure.mixedOrders=true:=by kernel_rfl
 have jw:¬ ((m:Int)=0):=by omega
 have mA:¬ ((i:Int)=(n:Int)):=by omega
 have Zm:∀ lb cb,(callFunc 81 #[.slice (some ⟨vb,fL,none⟩) m vc,.slice (some ⟨b,off+(i+m),none⟩) lb cb]).run Tryd.prog w=.ok (.value (.bool false)) w:=fun lb cb=>by
  rw[run_callFunc_extern Tryd.func81 (by kernel_rfl) (by kernel_rfl) (by kernel_rfl) (e:=Extern.SlicesOverlaps.overlaps #[34,34] #[4]) (by kernel_rfl),
   Ul w 34 4 3 Tryd.underlying34 1 Tryd.sizeOf3 ⟨vb,fL,none⟩ ⟨b,off+(i+m),none⟩ m vc lb cb zT tA tB kA kB wS wR EB (qA _) (qA _)]
  rfl
 have u9:(cs.drop (i)).length=n-i:=by rw[List.length_drop,bS];try omega
 have eJ:IntKind.i64.wrap ((i:Int)+(m:Int))=(i:Int)+(m:Int):=by rw[IntKind.wrap_i64];omega
 have gg:(0:Int)<=(i:Int)+(m:Int):=by omega
 have ed:i<=n:=by omega
 have Y2:((i:Int)+(m:Int)).toNat=i+m:=by omega
 have fU:¬ (c=i+m):=by omega
 have E2:(i:Int)<=(n:Int)+(m:Int):=by omega
 have hb4:¬ (c=i):=by omega
 have w6:Nat.min (n+m-i) (n+m-(i+m))=n-i:=by simp only[Nat.min_def];split<;>omega
 have MS:∀ ty dc sc,(Builtin.copy_ #[34,34] ty #[.slice (some ⟨b,off+(i+m),none⟩) (n+m-(i+m)) dc,.slice (some ⟨b,off+i,none⟩) (n+m-i) sc]).run Tryd.prog w.drew=.ok (goInt (n-i:Nat)) (w.drew.setCells b (off+(i+m)) (cs.drop (i))):=fun ty dc sc=>by
  have h:=yA (P:=Tryd.prog) 1 w.drew 34 34 ty 3 b (off+(i+m)) (n+m-(i+m)) dc ⟨b,off+i,none⟩ (n+m-i) sc (cs.drop (i)) Tryd.underlying34 Tryd.sizeOf3 (by rw[u9,w6];omega)
   (fun j v hj=>by rw[Addr.add_lit,Nat.add_assoc];exact gG (i+j) v (by rwa [List.getElem?_drop]at hj))
   (fun j hj=>by rw[Nat.add_assoc];exact lp _ (by omega)) (fun j hj=>by exact qA _) (fun v hv=>xp v (List.mem_of_mem_drop hv))
  rw[w6]at h
  exact h
 obtain⟨W1,iL⟩:∃ W1,W1=w.drew.setCells b (off+(i+m)) (cs.drop (i)):=⟨_,rfl⟩
 have Y8:∀ k,k<n+m->(W1.cell? ⟨b,off+k,none⟩).isSome=true:=fun k hk=>by
  rw[iL]
  exact isSome_setCells b _ _ _ (fun j hj=>by rw[Nat.add_assoc];exact lp _ (by omega)) _ (lp k hk)
 have w5:Nat.min m (n+m-i)=m:=by simp only[Nat.min_def];split<;>omega
 have aab:∀ (W:World),(∀ x,W.cell? x=W1.cell? x)->(∀ x,W.frozen? x=W1.frozen? x)->∀ ty dc,(Builtin.copy_ #[34,34] ty #[.slice (some ⟨b,off+i,none⟩) (n+m-i) dc,.slice (some ⟨vb,fL,none⟩) m vc]).run Tryd.prog W=.ok (goInt m) (W.setCells b (off+i) vs):=fun W qG xk ty dc=>by
  have h:=yA (P:=Tryd.prog) 1 W 34 34 ty 3 b (off+i) (n+m-i) dc ⟨vb,fL,none⟩ m vc vs Tryd.underlying34 Tryd.sizeOf3 (by rw[w5,DM];omega)
   (fun j v hj=>by
     rw[Addr.add_lit,qG,iL,World.cell?_setCells_out b _ _ _ _ (fun h _=>absurd h zT)]
     exact sk j v hj)
   (fun j hj=>by rw[qG,Nat.add_assoc];exact Y8 _ (by omega)) (fun j hj=>by rw[xk,iL,World.frozen?_setCells];exact qA _) Fp
  rw[w5]at h
  exact h
 rw[<-iL]at MS
 go_enter Tryd.func74,Tryd.ntmps74
 go_wp2_with (simp only[Zm])
 go_region_law_o (refine step_copy_runI rfl _ _ 34 34 rfl _ _ (by simp[Act.eval,Act.put]) (by simp[Act.eval,Act.put]) (MS _ _ _) ?_)
 go_wp2_with (at_builtin;refine wpList_copy_runI _ rfl _ _ 34 34 rfl _ _ rfl rfl (aab _ (fun _=>rfl) (fun _=>rfl) _ _) ?_)
 go_ret
 first | exact⟨rfl,rfl⟩ | exact⟨rfl,by rw[iL]⟩
set_option maxHeartbeats 4000000 in
set_option maxRecDepth 100000 in
theorem Yy(b off n c i vb fL m vc:Nat)(cs vs:List Value)(w:World)(hi:i<n)(hm:0<m)(Em:n<=c)(kE:c<n+m)(aag:(n+m)*8<=140737488355328)
 (bS:cs.length=n) (DM:vs.length=m)
 (gG:∀ j v,cs[j]?=some v->w.cell? ⟨b,off+j,none⟩=some v)
 (sk:∀ j v,vs[j]?=some v->w.cell? ⟨vb,fL+j,none⟩=some v) (xp:∀ v∈cs,v.oneCell'=true) (Fp:∀ v∈vs,v.oneCell'=true):
 Calls Tryd.prog 74 #[.slice (some ⟨b,off,none⟩) n c,.int .i64 i,.slice (some ⟨vb,fL,none⟩) m vc] w fun e w'=>
  e=.returned (.slice (some ⟨w.heap.size,0,none⟩) (n+m) (grownCap w (n+m) c 3))/\
  w'=(((w.alloc (.cells ((cs.take (i)).toArray++Builtin.zeroCells (.int .i64 0:Value).cells (n+m-i)++Builtin.zeroCells (.int .i64 0:Value).cells (grownCap w (n+m) c 3-(n+m))) 3)).drew.setCells w.heap.size (i) vs).drew).setCells w.heap.size ((i+m)) (cs.drop (i)):=by
 have mixed:Tryd.prog.follows Departure.mixedOrders=true:=by kernel_rfl
 have vg:bM Tryd.prog 34=some (3,1,8):=by kernel_rfl
 have xl:bh Tryd.prog 3=some (.int .i64 0):=by kernel_rfl
 obtain⟨i0,lO,bF,sf,L0⟩:∃ i0,Tryd.prog.info? 3=some i0/\i0.zero=some (.int .i64 0)/\i0.size=1/\i0.bytes=8:=by
  obtain⟨hu,i0,h1,h2,h3⟩:=iz vg
  refine⟨i0,h1,?_,h2,h3⟩
  unfold bh at xl
  rw[h1]at xl
  exact xl
 have jw:¬ ((m:Int)=0):=by omega
 have mA:¬ ((i:Int)=(n:Int)):=by omega
 have uN:(c:Int)<(n:Int)+(m:Int):=by omega
 have MX:b<w.heap.size:=block_lt_of_cell (gG 0 _ (List.getElem?_eq_getElem (by omega)))
 have YZ:vb<w.heap.size:=block_lt_of_cell (sk 0 _ (List.getElem?_eq_getElem (by omega)))
 have Ag:(n:Int)+(m:Int)-(i:Int)=((n+m-i:Nat):Int):=by omega
 have xc:i+(n+m-i)=n+m:=by omega
 have hold:(Builtin.firstCells i0.size i (.slice (some ⟨b,off,none⟩) i c)).run Tryd.prog w.drew=.ok (cs.take (i)).toArray w.drew:=by
  rw[sf]
  exact run_firstCells_some w.drew 1 i ⟨b,off,none⟩ i c (cs.take (i)) (by rw[List.length_take];omega) (fun j v hj=>by
   rw[Addr.add_lit]
   rw[List.getElem?_take]at hj
   split at hj
   ·exact gG j v hj
   ·cases hj)
 have uQ:∀ ty,(Builtin.append_ #[34,3] ty #[.slice (some ⟨b,off,none⟩) i c,.int .i64 ((n:Int)+(m:Int)-(i:Int))]).run Tryd.prog w=
     .ok (.slice (some ⟨w.heap.size,0,none⟩) (n+m) (grownCap w (n+m) c 3)) (w.drew.alloc (.cells ((cs.take (i)).toArray++Builtin.zeroCells (.int .i64 0:Value).cells (n+m-i)++Builtin.zeroCells (.int .i64 0:Value).cells (grownCap w (n+m) c 3-(n+m))) 3)):=fun ty=>by
  have h:=Lib.run_append_grow_zeros w 34 3 ty 3 i0 _ .i64 .i64 Tryd.underlying34 Tryd.underlying3 lO bF (some ⟨b,off,none⟩) i c (cs.take (i)) hold (n+m-i) (by omega) (by omega) (by omega) (by omega) (by rw[L0];omega) (by rw[L0,xc];exact growslice_fits kE aag)
  rw[xc]at h
  rw[Ag]
  exact h
 obtain⟨G,hG⟩:∃ G,G=grownCap w (n+m) c 3:=⟨_,rfl⟩
 obtain⟨ROW,sR⟩:∃ ROW:Array Value,ROW=(cs.take (i)).toArray++Builtin.zeroCells (.int .i64 0:Value).cells (n+m-i)++Builtin.zeroCells (.int .i64 0:Value).cells (G-(n+m)):=⟨_,rfl⟩
 rw[<-hG]at uQ |-
 rw[<-sR]at uQ |-
 have hRl:n+m<=ROW.size:=by
  rw[sR]
  simp[Builtin.zeroCells,Value.cells]
  omega
 obtain⟨W1,iL⟩:∃ W1,W1=w.drew.alloc (.cells ROW 3):=⟨_,rfl⟩
 rw[<-iL]at uQ
 have hN:∀ j,j<n+m->(W1.cell? ⟨w.heap.size,j,none⟩).isSome=true:=fun j hj=>by
  rw[iL,World.cell?_alloc_at (w:=w.drew) ROW _ w.heap.size j rfl,Array.getElem?_eq_getElem (by omega)];rfl
 have M5:∀ j,W1.frozen? ⟨w.heap.size,j,none⟩=false:=fun j=>by rw[iL];exact World.frozen?_alloc_at (w:=w.drew) ROW _ w.heap.size j rfl
 have xm:∀ j v,w.cell? ⟨b,j,none⟩=some v->W1.cell? ⟨b,j,none⟩=some v:=fun j v h=>by rw[iL,World.cell?_alloc_past (w:=w.drew) _ b j MX];exact h
 have hOv:∀ j v,w.cell? ⟨vb,j,none⟩=some v->W1.cell? ⟨vb,j,none⟩=some v:=fun j v h=>by rw[iL,World.cell?_alloc_past (w:=w.drew) _ vb j YZ];exact h
 have w5:Nat.min m (n+m-i)=m:=by simp only[Nat.min_def];split<;>omega
 have w6:Nat.min (n-i) (n+m-(i+m))=n-i:=by simp only[Nat.min_def];split<;>omega
 have Z':∀ (W:World),(∀ x,W.cell? x=W1.cell? x)->(∀ x,W.frozen? x=W1.frozen? x)->∀ ty dc,(Builtin.copy_ #[34,34] ty #[.slice (some ⟨w.heap.size,i,none⟩) (n+m-i) dc,.slice (some ⟨vb,fL,none⟩) m vc]).run Tryd.prog W=.ok (goInt m) (W.setCells w.heap.size (i) vs):=fun W qG xk ty dc=>by
  have h:=yA (P:=Tryd.prog) 1 W 34 34 ty 3 w.heap.size (i) (n+m-i) dc ⟨vb,fL,none⟩ m vc vs Tryd.underlying34 Tryd.sizeOf3 (by rw[w5,DM];omega)
   (fun j v hj=>by rw[Addr.add_lit,qG];exact hOv _ v (sk j v hj))
   (fun j hj=>by rw[qG];exact hN _ (by omega)) (fun j hj=>by rw[xk];exact M5 _) Fp
  rw[w5]at h
  exact h
 have hGn:n+m<=G:=by rw[hG];exact grownCap_ge w _ _ _
 have ahG:G<=9223372036854775807:=by
  have :=grownCap_le_maxLen w (n+m) c 3 (by unfold maxLen;omega)
  rw[<-hG]at this
  unfold maxLen at this
  omega
 have hGi:¬ (G=i):=by omega
 have ahF:¬ (G=i+m):=by omega
 have MT:¬ (c=i):=by omega
 have hbN:b≠w.heap.size:=by omega
 have u9:(cs.drop (i)).length=n-i:=by rw[List.length_drop,bS];try omega
 have MR:∀ (W:World),(∀ x,W.cell? x=(W1.setCells w.heap.size (i) vs).cell? x)->(∀ x,W.frozen? x=(W1.setCells w.heap.size (i) vs).frozen? x)->∀ ty dc sc,(Builtin.copy_ #[34,34] ty #[.slice (some ⟨w.heap.size,(i+m),none⟩) (n+m-(i+m)) dc,.slice (some ⟨b,off+i,none⟩) (n-i) sc]).run Tryd.prog W=.ok (goInt (n-i:Nat)) (W.setCells w.heap.size ((i+m)) (cs.drop (i))):=fun W qG xk ty dc sc=>by
  have h:=yA (P:=Tryd.prog) 1 W 34 34 ty 3 w.heap.size ((i+m)) (n+m-(i+m)) dc ⟨b,off+i,none⟩ (n-i) sc (cs.drop (i)) Tryd.underlying34 Tryd.sizeOf3 (by rw[u9,w6];omega)
   (fun j v hj=>by
     rw[Addr.add_lit,qG,World.cell?_setCells_out _ _ _ _ _ (fun h _=>absurd h hbN),Nat.add_assoc]
     exact xm _ v (gG (i+j) v (by rwa [List.getElem?_drop]at hj)))
   (fun j hj=>by rw[qG];exact isSome_setCells _ _ _ _ (fun t ht=>hN _ (by omega)) _ (hN _ (by omega)))
   (fun j hj=>by rw[xk,World.frozen?_setCells];exact M5 _) (fun v hv=>xp v (List.mem_of_mem_drop hv))
  rw[w6]at h
  exact h
 subst iL
 have hE1:∀ x,((w.alloc (.cells ROW 3)).drew).cell? x=(w.drew.alloc (.cells ROW 3)).cell? x:=fun x=>rfl
 have hE2:∀ x,((w.alloc (.cells ROW 3)).drew).frozen? x=(w.drew.alloc (.cells ROW 3)).frozen? x:=fun x=>rfl
 have hF1:∀ x,(((w.alloc (.cells ROW 3)).drew.setCells w.heap.size (i) vs).drew).cell? x=((w.drew.alloc (.cells ROW 3)).setCells w.heap.size (i) vs).cell? x:=fun x=>rfl
 have hF2:∀ x,(((w.alloc (.cells ROW 3)).drew.setCells w.heap.size (i) vs).drew).frozen? x=((w.drew.alloc (.cells ROW 3)).setCells w.heap.size (i) vs).frozen? x:=fun x=>rfl
 have eJ:IntKind.i64.wrap ((i:Int)+(m:Int))=(i:Int)+(m:Int):=by rw[IntKind.wrap_i64];omega
 have gg:(0:Int)<=(i:Int)+(m:Int):=by omega
 have ed:i<=n:=by omega
 have Y2:((i:Int)+(m:Int)).toNat=i+m:=by omega
 have E2:(i:Int)<=(n:Int):=by omega
 clear Ag xc hold sR hG hRl
 go_enter Tryd.func74,Tryd.ntmps74
 go_wp2_with (first
  |(at_builtin;refine Lib.wpList_append_run _ rfl _ _ _ _ rfl _ _ rfl rfl _ _ (uQ _) ?_)
  |(at_builtin;refine wpList_copy_runI _ rfl _ _ 34 34 rfl _ _ rfl rfl (Z' _ hE1 hE2 _ _) ?_)
  |(at_builtin;refine wpList_copy_runI _ rfl _ _ 34 34 rfl _ _ rfl rfl (MR _ (fun _=>rfl) (fun _=>rfl) _ _ _) ?_))
 go_region_law_o (refine step_copy_runI rfl _ _ 34 34 rfl (.slice (some ⟨w.heap.size,(i+m),none⟩) (n+m-(i+m)) (G-(i+m))) (.slice (some ⟨b,off+i,none⟩) (n-i) (c-i)) (by simp[Act.eval,Act.put]) (by simp[Act.eval,Act.put]) (MR _ hF1 hF2 3 (G-(i+m)) (c-i)) ?_)
 go_wp2
 go_ret
 exact⟨rfl,rfl⟩
set_option maxHeartbeats 4000000 in
set_option maxRecDepth 100000 in
theorem Yx(base:Option Addr)(n c vb fL m vc:Nat)(w:World)(v':Value)(w':World)(hm:0<m)(hn:n<=c)(MW:c<=9223372036854775807)
 (cD:∀ ty,(Builtin.append_ #[34,34] ty #[.slice base n c,.slice (some ⟨vb,fL,none⟩) m vc]).run Tryd.prog w=.ok v' w'):
 Calls Tryd.prog 74 #[.slice base n c,.int .i64 n,.slice (some ⟨vb,fL,none⟩) m vc] w fun e w1=>e=.returned v'/\w1=w':=by
 have mixed:Tryd.prog.follows Departure.mixedOrders=true:=by kernel_rfl
 have jw:¬ ((m:Int)=0):=by omega
 go_enter Tryd.func74,Tryd.ntmps74
 cases base with
 |none=>
  go_wp2_with (at_builtin;refine Lib.wpList_append_run _ rfl _ _ _ _ rfl _ _ rfl rfl _ _ (cD _) ?_)
  all_goals (go_ret;exact⟨rfl,rfl⟩)
 |some a=>
  obtain⟨ab,ao,asp⟩:=a
  go_wp2_with (at_builtin;refine Lib.wpList_append_run _ rfl _ _ _ _ rfl _ _ rfl rfl _ _ (cD _) ?_)
  all_goals (go_ret;exact⟨rfl,rfl⟩)
open Go Go.Proofs
theorem Yz:QZ Tryd.prog 74 34 3 1 8 (.int .i64 0):=
 ⟨by kernel_rfl,by kernel_rfl,by kernel_rfl,by decide,oN _ (by decide),iN Tryd.func74 (by rfl) (by kernel_rfl),
   by simpa only[Nat.mul_one]using @Yw,by simpa only[Nat.mul_one]using @Yy,Yx⟩
noncomputable def S103:Spec:=r7 Tryd.prog 34
theorem Ye:ak Tryd.prog 74 S103:=Yq Yz
theorem PN{p q:Prop}{d:D}{o:Name->Option O}(h:p=q):(⟨p,d,o⟩:R)=⟨q,d,o⟩:=by rw[h]
theorem Yr{obj:Name->Option O}{nm t:Name}{l:List Int}{x:Int}(h:obj nm=some (.arr 1 (l.map vInt)))(hl:l.length<=1000):
 S103.app obj t [.msl nm l.length,.v (vInt (bC l x)),.v (.sl [vInt x])]=⟨True,.msl nm (l.length+1),upd obj nm (some (.arr 1 ((b8 l x).map vInt)))⟩:=by
 have sD:=zi l x
 have hm:l.length+1<=maxLen:=by unfold maxLen;omega
 have mM:cv Tryd.prog obj t 34 34 (.msl nm l.length) (.v (.sl [vInt x]))=⟨True,.msl nm (l.length+1),upd obj nm (some (.arr 1 (l.map vInt++[vInt x])))⟩:=by
  simp only[cv,RP,RF,aA,h]
  have ee:∀ y∈[vInt x],y.cells.length=1/\y.okc=true:=by
   intro y hy
   simp only[List.mem_cons,List.not_mem_nil,or_false]at hy
   subst hy
   exact⟨rfl,rfl⟩
  simp only[List.length_map,List.length_cons,List.length_nil,Nat.zero_add]
  congr 1
  simp only[eq_iff_iff,iff_true]
  refine⟨trivial,?_⟩
  repeat' apply And.intro
  all_goals first | trivial | exact ee | rfl | omega
 show om Tryd.prog obj t 34 (.msl nm l.length) (.v (vInt (bC l x))) (.v (.sl [vInt x]))=_
 unfold om
 simp only[h,mM,Int.toNat_natCast,List.length_map]
 cases hb:Nat.beq (bC l x) l.length with
 |true=>
  have he:bC l x=l.length:=Nat.eq_of_beq_eq_true hb
  simp only
  have hi:(b8 l x).map vInt=l.map vInt++[vInt x]:=by
   unfold b8
   rw[he,List.take_length,List.drop_length,List.append_nil,List.map_append];rfl
  rw[hi]
  exact PN (eq_true ⟨trivial,Int.natCast_nonneg _,by simp⟩)
 |false=>
  have he:bC l x≠l.length:=fun e=>by rw[e,Nat.beq_refl]at hb;cases hb
  simp only
  have hi:(b8 l x).map vInt=(l.map vInt).take (bC l x)++[vInt x]++(l.map vInt).drop (bC l x):=by
   unfold b8
   rw[List.map_append,List.map_append,List.map_take,List.map_drop];rfl
  rw[hi]
  exact PN (eq_true ⟨trivial,Int.natCast_nonneg _,by omega,by simp⟩)
def jL(l:List Int)(x:Int):List Int:=if bu l x=true then l else b8 l x
theorem Cp{l:List Int}{x:Int}(h:bu l x=true):jL l x=l:=if_pos h
theorem Cq{l:List Int}{x:Int}(h:bu l x=false):jL l x=b8 l x:=if_neg (by rw[h];decide)
noncomputable def putC:CSpec where
 pre:=fun os ds=>∃ (l:List Int) (x:Int),os=[.arr 1 (l.map vInt)]/\ds=[.msl [0,1] l.length,.v (vInt x)]/\l.Pairwise (· < ·)/\l.length<=1000
 out:=fun os ds=>match os,ds with
  |[.arr _ L],[_,.v x]=>⟨[(0,.arr 1 ((jL (L.map dA) (dA x)).map vInt))],[],.tup [.msl [0,1] (jL (L.map dA) (dA x)).length,.v (.bool (!bu (L.map dA) (dA x)))]⟩
  |_,_=>⟨[],[],.any⟩
noncomputable def rJ(obj:Name->Option O)(_:Name):List D->R
 |[.msl nm k,.v x]=>match obj nm with
  |some (.arr 1 L)=>⟨k=L.length/\(L.map dA).map vInt=L/\vInt (dA x)=x/\(L.map dA).Pairwise (· < ·)/\L.length<=1000,.tup [.msl nm (jL (L.map dA) (dA x)).length,.v (.bool (!bu (L.map dA) (dA x)))],upd obj nm (some (.arr 1 ((jL (L.map dA) (dA x)).map vInt)))⟩
  |_=>.bad obj
 |_=>.bad obj
noncomputable def S67:Spec:=⟨rJ,qQ,qQ⟩
attribute [go_sem] S67 rJ
theorem UD:S67.Near:=by
 refine CP fun obj obj2 t ds ha=>⟨rfl,?_⟩
 have dX:∀ wr,bw wr obj obj2->bH (R.bad obj) (R.bad obj2) obj obj2 wr:=fun wr h=>.none wr h
 unfold rJ
 split
 ·rename_i nm k x
  have h1:obj2 nm=obj nm:=ha nm (by simp[qQ])
  simp only[h1]
  split
  ·exact .one (by simp[qQ]) ha
  ·exact dX _ ha
 ·exact dX _ ha
noncomputable def Qh:List (Nat×Spec):=[(42,S52),(74,S103)]
attribute [go_sem] Qh
theorem ady:∀ f s,tbl Qh f=some s->ak Tryd.prog f s:=tc LB<|tc Ye<|tn
set_option maxHeartbeats 4000000 in
theorem XM:ak Tryd.prog 51 putC.toSpec:=by
 refine mV (nt:=21) (rs:=[.tmp 4,.tmp 5]) Tryd.func51 rfl (by rfl) (by kernel_rfl) (iN Tryd.func51 rfl (by kernel_rfl)) (oN _ (by decide)) ?_
 rintro os ds ⟨l,x,rfl,rfl,hs,hl⟩
 refine⟨lb rfl,jm ?_⟩
 have fQ:putC.out [.arr 1 (l.map vInt)] [.msl [0,1] l.length,.v (vInt x)]=⟨[(0,.arr 1 ((jL l x).map vInt))],[],.tup [.msl [0,1] (jL l x).length,.v (.bool (!bu l x))]⟩:=by
  simp only[putC,Oc,dA]
 rw[fQ]
 have hΓ:=ady
 obtain⟨H,hH,h0,hO,gU⟩:=UX 1 (l.map vInt)
 rw[<-hH]
 clear hH fQ
 have Fq:∀ (F:Name->Option O) (t:Name),S103.app (fun nm=>if own [0] nm=true then F nm else H nm) t [.msl [0,1] l.length,.v (vInt (bC l x)),.v (.sl [vInt x])]=⟨True,.msl [0,1] (l.length+1),upd (fun nm=>if own [0] nm=true then F nm else H nm) [0,1] (some (.arr 1 ((b8 l x).map vInt)))⟩:=fun F t=>Yr (by rw[<-h0];rfl) hl
 have w7:=Yt l x
 simp only[ft,Nat.zero_add]
 repeat refine sq ?_
 refine rx hΓ [0,1] [] (fun K' hK=>by simp only[go_sem,hO,gU,h0];(repeat (refine⟨ah,?_⟩));exact hK _ (by simp only[go_sem,hO,gU,h0]) (by simp only[go_sem,hO,gU,h0]<;>rfl)) ?_
 repeat refine sq ?_
 refine rx hΓ [0,1,6,7] [] (fun K' hK=>by simp only[go_sem,hO,gU,h0,hs,List.length_map];(repeat (refine⟨ah,?_⟩));exact hK _ (by simp only[go_sem,hO,gU,h0,hs,List.length_map]) (by simp only[go_sem,hO,gU,h0,hs,List.length_map]<;>rfl)) ?_
 repeat refine sq ?_
 refine rx hΓ [0,1,6,14] [] (fun K' hK=>by simp only[go_sem,hO,gU,h0];(repeat (refine⟨ah,?_⟩));exact hK _ (by simp only[go_sem,hO,gU,h0]) (by simp only[go_sem,hO,gU,h0]<;>rfl)) ?_
 repeat refine sq ?_
 refine au rfl rfl (fun hb=>?_) (fun hb=>?_)
 ·repeat refine sq ?_
  have hr:=Cp hb
  rw[hr,hb]
  repeat refine sq ?_
  refine rx hΓ [4,5] [] (fun K' hK=>by simp only[go_sem,hO,gU,h0];(repeat (refine⟨ah,?_⟩));exact hK _ (by simp only[go_sem,hO,gU,h0]) (by simp only[go_sem,hO,gU,h0]<;>rfl)) ?_
  refine ar ?_
  simp only[go_sem,hO,gU,h0]
  skip
 ·repeat refine sq ?_
  have hr:=Cq hb
  rw[hr,hb,w7]
  refine ax ?_
  repeat refine sq ?_
  refine rx hΓ [4,5] [] (fun K' hK=>by simp only[go_sem,hO,gU,h0,Fq];(repeat (refine⟨ah,?_⟩));exact hK _ (by simp only[go_sem,hO,gU,h0,Fq]) (by simp only[go_sem,hO,gU,h0,Fq]<;>rfl)) ?_
  refine ar ?_
  simp only[go_sem,hO,gU,h0]
  skip
theorem XN:ak Tryd.prog 51 S67:=by
 refine BV XM UD (oN _ (by decide)) fun obj t ds aa=>?_
 change (rJ obj t ds).ok at aa
 refine⟨ds,rfl,fun _ _ _ _ h=>h,?_⟩
 show _/\_=(rJ obj t ds).d/\_=(rJ obj t ds).obj
 unfold rJ at aa |-
 split at aa
 ·rename_i nm k x
  split at aa
  ·rename_i L ho
   obtain⟨rfl,he,hx,hs,hl⟩:=aa
   have hr:reach obj [.msl nm L.length,.v x]=[nm]:=by
    unfold reach
    show dO obj (2998+1+1) [nm] []=[nm]
    simp only[dO,cj,List.any_nil,Bool.false_eq_true,if_false,ho,my,List.nil_append]
   have i0:idx [nm] nm=0:=by simp[idx]
   have e1:cl obj [.msl nm L.length,.v x]=[.arr 1 L]:=by
    unfold cl
    rw[hr]
    simp only[List.map_cons,List.map_nil,cf,ho,O.ren]
   have e2:cO obj [.msl nm L.length,.v x]=[.msl [0,1] L.length,.v x]:=by
    unfold cO
    rw[hr]
    simp only[D.renL,D.ren,cin,i0]
   have e3:(shut obj [nm]&&D.closL (cj [nm]) [.msl nm L.length,.v x]&&fresh obj t [])=true:=by
    simp[shut,ho,O.clos,D.closL,D.clos,cj,fresh]
   have cL:putC.pre [.arr 1 L] [.msl [0,1] L.length,.v x]:=⟨L.map dA,dA x,by rw[he],by rw[List.length_map,hx],hs,by rw[List.length_map];exact hl⟩
   have fQ:putC.out [.arr 1 L] [.msl [0,1] L.length,.v x]=⟨[(0,.arr 1 ((jL (L.map dA) (dA x)).map vInt))],[],.tup [.msl [0,1] (jL (L.map dA) (dA x)).length,.v (.bool (!bu (L.map dA) (dA x)))]⟩:=rfl
   have c0:cout [nm] t [0,1]=nm:=rfl
   simp only[CSpec.toSpec,e1,e2,hr,fQ,e3,cL,ho,and_self,dt]
   refine⟨trivial,?_,rfl⟩
   simp only[D.ren,D.renL,c0]
  ·exact aa.elim
 ·exact aa.elim
open Go
def Lp.J(r:Lp)(s:Nat):List O:=(if s=r.n then r.fin (LI r.m)else r.rc (LI r.m) .ready none)::r.fam (LI r.m) s
theorem Lp.last_e{r:Lp}(bG:∀ j,j+1<r.n->r.st j=none):r.e=r.n/\(r.n=0->r.pd=none)/\∀ j,j+1=r.n->r.pd=r.st j:=by
 have key:∀ k,r.n=k+1->(List.range r.n).find? (fun s=>(r.st s).isSome)=if (r.st k).isSome=true then some k else none:=by
  intro k hk
  have h0:(List.range k).find? (fun s=>(r.st s).isSome)=none:=List.find?_eq_none.2 fun s hs=>by
   rw[bG s (by have:=List.mem_range.1 hs;omega)];decide
  rw[hk,List.range_succ,List.find?_append,h0,Option.none_or]
  by_cases h:(r.st k).isSome=true
  ·rw[if_pos h];simp[List.find?,h]
  ·rw[if_neg h];simp[List.find?,h]
 cases hn:r.n with
 |zero=>
  have h0:(List.range r.n).find? (fun s=>(r.st s).isSome)=none:=by rw[hn];rfl
  refine⟨?_,fun _=>?_,fun j hj=>by omega⟩
  ·unfold Lp.e;rw[h0];exact hn
  ·unfold Lp.pd;rw[h0]
 |succ k=>
  have h0:=key k hn
  by_cases h:(r.st k).isSome=true
  ·rw[if_pos h]at h0
   refine⟨?_,fun h=>by omega,fun j hj=>?_⟩
   ·unfold Lp.e;rw[h0]
   ·obtain rfl:j=k:=by omega
    unfold Lp.pd;rw[h0]
  ·rw[if_neg h]at h0
   refine⟨?_,fun h=>by omega,fun j hj=>?_⟩
   ·unfold Lp.e;rw[h0];exact hn
   ·obtain rfl:j=k:=by omega
    unfold Lp.pd;rw[h0]
    cases hs:r.st j with
    |none=>rfl
    |some c=>rw[hs]at h;exact absurd rfl h
theorem Lp.J_zero{r:Lp}(bG:∀ j,j+1<r.n->r.st j=none):r.J 0=r.rc (LI r.m) .ready none::r.fam (LI r.m) 0:=by
 unfold Lp.J
 by_cases h:0=r.n
 ·rw[if_pos h]
  unfold Lp.fin
  rw[(Lp.last_e bG).2.1 h.symm]
  rfl
 ·rw[if_neg h]
theorem Lp.J_len{r:Lp}(hr:r.Ok)(s:Nat):(r.J s).length=r.m+1:=by unfold Lp.J;rw[List.length_cons,hr.len _ _ (dC _)]
theorem Lp.J_clos{r:Lp}(hr:r.Ok)(s:Nat):∀ o∈r.J s,∀ dom:Name->Bool,(∀ i,dom [i,1]=true)->O.clos dom o=true:=by
 intro o ho dom hd
 have gf:∀ x∈LI r.m,dom x=true:=fun x hx=>by
  obtain⟨i,_,rfl⟩:=List.mem_map.1 hx
  exact hd _
 rcases List.mem_cons.1 ho with rfl | ho
 ·split
  ·exact hr.closE _ _ (dC _) gf
  ·exact hr.closE _ _ (dC _) gf
 ·exact hr.closF _ _ _ (dC _) gf _ ho
theorem Lp.y_setJ{r:Lp}(hr:r.Ok)(bG:∀ j,j+1<r.n->r.st j=none){s:Nat}(hs:s<r.n)(obj:Name->Option O)(tm:Name)(ho:∀ nm,cJ nm=true->obj nm=aW (r.J s) nm):
 r.y.toSpec.app obj tm (.yld [0,1]::r.vals s)=⟨True,.v (.bool (r.st s).isNone),iU obj (r.J (s+1))⟩:=by
 have n0:(LI r.m).Nodup:=List.Pairwise.map _ (fun a b h=>by simpa using h) List.nodup_range
 have mO:([0,1]:Name)∉LI r.m:=fun h=>by
  obtain⟨i,_,hi⟩:=List.mem_map.1 h
  simp at hi
 have hJs:r.J s=r.rc (LI r.m) .ready none::r.fam (LI r.m) s:=by unfold Lp.J;rw[if_neg (by omega)]
 rw[hJs]at ho
 have h0:obj [0,1]=some (r.rc (LI r.m) .ready none):=by
  rw[ho _ rfl];rfl
 have hF:dj obj (LI r.m) (r.fam (LI r.m) s):=by
  rw[jO]
  refine List.ext_getElem (by rw[List.length_map,List.length_map,dC,hr.len _ _ (dC _)]) fun i h3 h4=>?_
  simp only[List.getElem_map,LI,List.getElem_range]
  rw[ho _ rfl]
  simp only[aW,List.getElem?_cons_succ]
  have h5:i<(r.fam (LI r.m) s).length:=by simpa using h4
  rw[List.getElem?_eq_getElem h5]
  rfl
 have mM:=Lp.y_app hr hs (fun j hj=>bG j (by omega)) (t:=tm) (dC _) n0 mO h0 hF
 rw[mM]
 have du:r.rc (LI r.m) (if (r.st s).isNone then .ready else .done) (r.st s)=(if s+1=r.n then r.fin (LI r.m)else r.rc (LI r.m) .ready none):=by
  by_cases h:s+1=r.n
  ·rw[if_pos h]
   unfold Lp.fin
   rw[(Lp.last_e bG).2.2 s h]
  ·rw[if_neg h,bG s (by omega)]
   rfl
 rw[du]
 congr 1
 funext nm
 have hlen:=hr.len (LI r.m) (s+1) (dC _)
 by_cases hR:nm=[0,1]
 ·subst hR
  rw[aE]
  rfl
 ·rw[aI _ _ _ hR]
  unfold iU
  cases hx:cJ nm with
  |false=>
   rw[wj hx,pU]
   intro fo
   obtain⟨i,_,rfl⟩:=List.mem_map.1 fo
   cases hx
  |true=>
   obtain⟨i,rfl⟩:=uG.1 hx
   have ee:=B7 (obj:=obj) (F:=r.fam (LI r.m) (s+1)) n0 (by rw[dC,hlen])
   match i,hR with
   | 0,hR=>exact(hR rfl).elim
   |i+1,_=>
    simp only[Lp.J,aW,List.getElem?_cons_succ]
    by_cases hi:i<r.m
    ·have h6:=y9 ee i (by rw[dC];exact hi) (by rw[hlen];exact hi)
     simp only[LI,List.getElem_map,List.getElem_range]at h6
     rw[show (r.fam (LI r.m) (s+1))[i]?=some (r.fam (LI r.m) (s+1))[i]from List.getElem?_eq_getElem (by rw[hlen];exact hi)]
     exact h6
    ·rw[List.getElem?_eq_none (by rw[hlen];omega),pU]
     intro fo
     obtain⟨j,jW,qy⟩:=List.mem_map.1 fo
     have :=List.mem_range.1 jW
     simp at qy
     omega
theorem Lp.itJ_sound{P:Program}{r:Lp}(hr:r.Ok)(bG:∀ j,j+1<r.n->r.st j=none){caps:List Name->List D}{f:FuncId}{fn:Func}{nt:Nat}(hf:P.funcs[f]?=some fn)(eK:fn.ntmps=nt)(eZ:fn.results.toList=[])(hn:(fn.name== "runtime.NumGoroutine")=false)(hy:f<1000000000)
 (hw:∃ c,fn.body=some c/\(caps (LI r.m)).length+1<=nt/\CL P [c] (aT nt [0] (aW (r.J 0)) (ft 0 (.yld [0,1]::caps (LI r.m))) []) (fun e σ=>(e=.normal\/e=.ret)/\∀ i,σ.obj [i,1]=aW (r.J r.n) [i,1])):ak P f (r.itC caps).toSpec:=by
 obtain⟨c,hc,hl,hw⟩:=hw
 refine mV hf hc eK eZ (iN hf hc hn) (Nat.ne_of_lt (show f<yid from hy)) ?_
 rintro os ds ⟨rfl,rfl⟩
 rw[Lp.J_zero bG]at hw
 refine⟨by simpa using hl,CW.mono (jm hw) ?_⟩
 rintro e σ ⟨he,dW⟩
 have fin:(bX P σ []).ok/\(bX P σ []).d=.tup []/\gW (r.rc (LI r.m) .ready none::r.fam (LI r.m) 0) ⟨(0,r.fin (LI r.m))::eM 1 (r.fam (LI r.m) r.e),[],.tup []⟩ σ:=by
  refine Lp.it_end hr ?_ ?_
  ·rw[dW]
   unfold Lp.J
   rw[if_pos rfl]
   rfl
  ·rw[(Lp.last_e bG).1,jO]
   refine List.ext_getElem (by rw[List.length_map,List.length_map,dC,hr.len _ _ (dC _)]) fun i h3 h4=>?_
   simp only[List.getElem_map,LI,List.getElem_range]
   rw[dW]
   simp only[Lp.J,aW,List.getElem?_cons_succ]
   have h5:i<(r.fam (LI r.m) r.n).length:=by simpa using h4
   rw[List.getElem?_eq_getElem h5]
   rfl
 rcases he with rfl | rfl
 ·exact fin
 ·exact fin
def bq(e:Dk)(hn:Name)(n:Nat):List D:=(List.map D.v (an e)).set 1 (.msl hn n)
@[go_sem] theorem aco(e:Dk)(hn:Name)(n:Nat):(bq e hn n).length=63:=nF _ _ _
@[go_sem] theorem xR(dom:Name->Bool)(e:Dk)(hn:Name)(n:Nat):D.closL dom (bq e hn n)=dom hn:=by
  have :=OG dom (an e) 1 hn n
  rw[show decide ((an e).length<=1)=false from rfl,Bool.or_false]at this
  exact this
@[go_sem] theorem O4(f:Name->Name)(e:Dk)(hn:Name)(n:Nat):D.renL f (bq e hn n)=bq e (f hn) n:=Ch _ _ _ _ _
@[go_sem] theorem ajb(e:Dk)(hn:Name)(n:Nat):(bq e hn n).take 63=bq e hn n:=N5 _ _ _
@[go_sem] theorem aja(e:Dk)(hn:Name)(n:Nat):(bq e hn n).drop 63=[]:=List.drop_of_length_le (by rw[aco];exact Nat.le_refl _)
theorem tv(e:Dk)(hn:Name)(n:Nat){f:Nat}(hf:f<6):(bq e hn n).getD (14+f) .any=.v (vInt (e.now.ta.get f)):=
 gK (P:=fun f=>(bq e hn n).getD (14+f) .any=.v (vInt (e.now.ta.get f))) rfl rfl rfl rfl rfl rfl hf
@[go_sem] theorem ai9(e:Dk)(hn:Name)(n:Nat):(bq e hn n).getD 1 .any=.msl hn n:=rfl
@[go_sem] theorem ai7(e:Dk)(hn o8:Name)(n n':Nat):List.take 1 (bq e hn n)++[D.msl o8 n']++List.drop 2 (bq e hn n)=bq e o8 n':=rfl
theorem acn(e:Dk)(hn:Name)(n:Nat)(x:Int){f:Nat}(hf:f<6):List.take (14+f) (bq e hn n)++[D.v (vInt x)]++List.drop (14+f+1) (bq e hn n)=bq (e.setN ⟨e.now.ho,e.now.un,e.now.se,e.now.ta.set f x⟩) hn n:=
 gK (P:=fun f=>List.take (14+f) (bq e hn n)++[D.v (vInt x)]++List.drop (14+f+1) (bq e hn n)=bq (e.setN ⟨e.now.ho,e.now.un,e.now.se,e.now.ta.set f x⟩) hn n) rfl rfl rfl rfl rfl rfl hf
theorem ai8(e:Dk)(l:List Int)(hn:Name)(n:Nat):bq e hn n=bq (e.setN ⟨l,e.now.un,e.now.se,e.now.ta⟩) hn n:=rfl
theorem acp(e:Dk)(hn:Name)(n:Nat):(bq e hn n)[1]?=some (.msl hn n):=rfl
theorem ai'(e:Dk)(hn:Name)(n:Nat):(bq e hn n).set 1 (.v (gv e.now.ho))=List.map D.v (an e):=rfl
theorem acm(e:Dk)(hn nm:Name)(n k:Nat)(se:Int)(ps:List Par){f:Nat}(hf:f<6)(im:se=e.now.se.get f):List.take (2+f) (bQ e f (.msl hn n) nm k se)++[D.v (.sl (ps.map encPa))]++List.drop (2+f+1) (bQ e f (.msl hn n) nm k se)=bq (e.setN ⟨e.now.ho,e.now.un.set f ps,e.now.se,e.now.ta⟩) hn n:=by
 subst im
 rw[tX (by rw[na];omega),<-ace e f (.v (gv e.now.ho)) (.msl hn n) nm k (e.now.se.get f),List.set_comm _ _ (show 1≠2+f by omega),GD e _ _ _ _ _ hf,aS.set_self _ _ hf]
 rfl
set_option maxRecDepth 10000 in
theorem zf(e:Dk)(hn:Name)(n:Nat):cU (bq e hn n)=[hn]:=rfl
def mR(x:V)(p:D):List (Name×O):=[([2,0],.box (x.L.map .v)),([3,0],.box [p])]
noncomputable def xv:CSpec where
 pre:=fun os ds=>∃ (b:Bag) (e:Dk) (n off:Nat) (l:List V),os=[.box (bq e [1,1] n),.arr 1 l]/\ds=[.v (.agg (aX b)),.ref [0,1] off]
 out:=fun _ ds=>match ds with
  |[.v x,p]=>⟨[],mR x p,.clo (.func 73) [] [.ref [2,0] 0,.ref [3,0] 0]⟩
  |_=>⟨[],[],.any⟩
noncomputable def S66:Spec:=xv.toSpec
theorem aaQ{b:Bag}{e:Dk}{n off:Nat}{l:List V}{obj:Name->Option O}{t nm h:Name}(h1:obj nm=some (.box (bq e h n)))(h2:obj h=some (.arr 1 l))(hn:nm≠h):
 S66.app obj t [.v (.agg (aX b)),.ref nm off]=⟨fresh obj t (mR (.agg (aX b)) (.ref nm off))=true,.clo (.func 73) [] [.ref ([2,0]++t) 0,.ref ([3,0]++t) 0],upd (upd obj ([2,0]++t) (some (.box ((aX b).map .v)))) ([3,0]++t) (some (.box [.ref nm off]))⟩:=by
 have hr:reach obj [.v (.agg (aX b)),.ref nm off]=[nm,h]:=by
  unfold reach
  show dO obj (2996+1+1+1+1) [nm] []=[nm,h]
  simp[dO,ic,h1,h2,my,zf,Ne.symm hn]
 have i0:idx [nm,h] nm=0:=by simp[idx]
 have i1:idx [nm,h] h=1:=by simp[idx,hn]
 have e1:cl obj [.v (.agg (aX b)),.ref nm off]=[.box (bq e [1,1] n),.arr 1 l]:=by
  unfold cl
  rw[hr]
  simp only[List.map_cons,List.map_nil,cf,h1,h2,O.ren,O4,cin,i1]
 have e2:cO obj [.v (.agg (aX b)),.ref nm off]=[.v (.agg (aX b)),.ref [0,1] off]:=by
  unfold cO
  rw[hr]
  simp only[D.renL,D.ren,cin,i0]
 have fZ:shut obj [nm,h]=true:=by simp[shut,h1,h2,O.clos,xR,cj]
 have bS:D.closL (cj [nm,h]) [.v (.agg (aX b)),.ref nm off]=true:=by simp[D.closL,D.clos,cj]
 have hp:xv.pre [.box (bq e [1,1] n),.arr 1 l] [.v (.agg (aX b)),.ref [0,1] off]:=⟨b,e,n,off,l,rfl,rfl⟩
 have fQ:xv.out [.box (bq e [1,1] n),.arr 1 l] [.v (.agg (aX b)),.ref [0,1] off]=⟨[],mR (.agg (aX b)) (.ref [0,1] off),.clo (.func 73) [] [.ref [2,0] 0,.ref [3,0] 0]⟩:=rfl
 have c1:cout [nm,h] t [2,0]=[2,0]++t:=rfl
 have c2:cout [nm,h] t [3,0]=[3,0]++t:=rfl
 have c3:cout [nm,h] t [0,1]=nm:=rfl
 have cF:fresh obj t (mR (.agg (aX b)) (.ref [0,1] off))=fresh obj t (mR (.agg (aX b)) (.ref nm off)):=rfl
 simp only[S66,CSpec.toSpec,e1,e2,hr,fZ,bS,Bool.true_and,hp,and_true,fQ,cg,cF]
 simp only[D.ren,D.renL,c1,c2,mR,dt,O.ren,V.L,ub,c3]
attribute [go_sem] mR V.L
set_option maxHeartbeats 4000000 in
theorem XO:ak Tryd.prog 50 S66:=by
 refine mV (nt:=6) (rs:=[.tmp 4]) Tryd.func50 rfl (by rfl) (by kernel_rfl) (iN Tryd.func50 rfl (by kernel_rfl)) (oN _ (by decide)) ?_
 rintro os ds ⟨b,e,n,off,l,rfl,rfl⟩
 refine⟨lb rfl,jm ?_⟩
 have fQ:xv.out [.box (bq e [1,1] n),.arr 1 l] [.v (.agg (aX b)),.ref [0,1] off]=⟨[],mR (.agg (aX b)) (.ref [0,1] off),.clo (.func 73) [] [.ref [2,0] 0,.ref [3,0] 0]⟩:=rfl
 rw[fQ]
 have hΓ:=@kq Tryd.prog
 have hO:∀ hs,b7 [0] (bT [0] hs) (aW [.box (bq e [1,1] n),.arr 1 l])=True:=fun hs=>eq_true (wk (by
  intro o ho dom hd
  simp only[List.mem_cons,List.not_mem_nil,or_false]at ho
  rcases ho with rfl | rfl
  ·simp only[O.clos,xR];exact hd 1
  ·rfl) hs)
 have h0:aW [.box (bq e [1,1] n),.arr 1 l] [0,1]=some (.box (bq e [1,1] n)):=rfl
 have h1:aW [.box (bq e [1,1] n),.arr 1 l] [1,1]=some (.arr 1 l):=rfl
 generalize aW [.box (bq e [1,1] n),.arr 1 l]=H at *
 simp only[ft,Nat.zero_add]
 repeat refine sq ?_
 refine rx hΓ [2,3] [[2,0],[3,0]] (fun K' hK=>by simp only[go_sem,hO,h0,h1];(repeat (refine⟨ah,?_⟩));exact hK _ (by simp only[go_sem,hO,h0,h1]) (by simp only[go_sem,hO,h0,h1]<;>rfl)) ?_
 repeat refine sq ?_
 refine rx hΓ [4] [[2,0],[3,0]] (fun K' hK=>by simp only[go_sem,hO,h0,h1];(repeat (refine⟨ah,?_⟩));exact hK _ (by simp only[go_sem,hO,h0,h1]) (by simp only[go_sem,hO,h0,h1]<;>rfl)) ?_
 refine ar ?_
 simp only[go_sem,hO,h0,h1]
 skip
abbrev oT (d:Dk) (b:Bag) (z:Nat):Stk:=bJ b.fr.toNat b.ps (bO d b) z
abbrev oE (d:Dk) (b:Bag) (z:Nat):Int:=dG b.fr.toNat b.ps (bO d b) z
structure mj (d:Dk) (b:Bag) (k0 m n:Nat) (er:Int):Prop where
 hk:k0+m<=b.ps.length
 hn:(er=0/\n=m/\k0+m=b.ps.length)\/(er≠0/\n=m+1/\k0+m<b.ps.length)
 pre:∀ i (h:i<b.ps.length),i<k0->dS b.fr.toNat (bO d b) b.ps[i]=false
 T0:∀ i,i<=k0->oT d b i=bO d b
 good:∀ j,j<m->∀ h:k0+j<b.ps.length,dS b.fr.toNat (oT d b (k0+j)) b.ps[k0+j]=true/\eF b.fr.toNat (oT d b (k0+j)) b.ps[k0+j]=0
 bad:er≠0->∀ h:k0+m<b.ps.length,dS b.fr.toNat (oT d b (k0+m)) b.ps[k0+m]=true/\eF b.fr.toNat (oT d b (k0+m)) b.ps[k0+m]=er
 er0:∀ z,z<=k0+m->oE d b z=0
theorem yQ{l:List Par}(h:cm l=true):∀ i (hi:i<l.length),l[i].no=(l.getD 0 default).no+i:=by
 unfold cm at h
 rw[Bool.and_eq_true,ix]at h
 intro i hi
 induction i with
 |zero=>rw[getD_at hi];simp
 |succ i ih=>
  have :=h.1 (i+1) hi
  unfold gw at this
  simp only[Bool.and_eq_true,Bool.or_eq_true,beq_iff_eq,Nat.add_sub_cancel]at this
  rw[getD_at (show i<l.length by omega),getD_at hi]at this
  have h2:=ih (by omega)
  rcases this.2 with h3 | h3
  ·omega
  ·omega
theorem U0{d:Dk}{b:Bag}(hb:fK b=true):∃ k0 m n er,mj d b k0 m n er:=by
 obtain⟨_,_,hf,_,_,_,_⟩:=qZ hb
 have lM:cm b.ps=true:=by unfold fK at hb;simp only[Bool.and_eq_true]at hb;exact hb.1.2
 have dX:=yQ lM
 obtain⟨f,Ak⟩:∃ f,f=b.fr.toNat:=⟨_,rfl⟩
 obtain⟨k0,ED⟩:∃ k0,k0=b.ps.findIdx (fun p=>dS b.fr.toNat (bO d b) p):=⟨_,rfl⟩
 have sH:k0<=b.ps.length:=by rw[ED];exact List.findIdx_le_length
 have cL:∀ i (h:i<b.ps.length),i<k0->dS b.fr.toNat (bO d b) b.ps[i]=false:=fun i h hi=>by
  have :=List.not_of_lt_findIdx (p:=fun p=>dS b.fr.toNat (bO d b) p) (xs:=b.ps) (by rw[<-ED];exact hi)
  simpa using this
 have jZ:∀ h:k0<b.ps.length,dS b.fr.toNat (bO d b) b.ps[k0]=true:=fun h=>by
  subst ED
  exact List.findIdx_getElem (w:=h)
 have Fb:∀ i,i<=k0->oT d b i=bO d b:=by
  intro i hi
  induction i with
  |zero=>rfl
  |succ i ih=>
   have h1:=ih (by omega)
   have h2:=Sf b.fr.toNat b.ps (bO d b) (i:=i) (by omega) (by rw[show bJ b.fr.toNat b.ps (bO d b) i=bO d b from h1];exact cL i (by omega) (by omega))
   exact h2.trans h1
 have Na:∀ i,i<=k0->oE d b i=0:=by
  intro i hi
  induction i with
  |zero=>rfl
  |succ i ih=>
   refine NT (by omega) (ih (by omega)) (Jd _ _ _ ?_)
   have h1:=Fb i (by omega)
   rw[show bJ b.fr.toNat b.ps (bO d b) i=bO d b from h1]
   exact cL i (by omega) (by omega)
 have ph:∀ j,k0+j<=b.ps.length->(∀ i,i<j->∀ h:k0+i<b.ps.length,eF b.fr.toNat (oT d b (k0+i)) b.ps[k0+i]=0)->
     (oT d b (k0+j)).ta.get b.fr.toNat=(bO d b).ta.get b.fr.toNat+j/\oE d b (k0+j)=0/\∀ h:k0+j<b.ps.length,dS b.fr.toNat (oT d b (k0+j)) b.ps[k0+j]=true:=by
  intro j
  have Ac:∀ j,(oT d b (k0+j)).ta.get b.fr.toNat=(bO d b).ta.get b.fr.toNat+j->∀ h:k0+j<b.ps.length,dS b.fr.toNat (oT d b (k0+j)) b.ps[k0+j]=true:=by
   intro j ht h
   have h1:=jZ (by omega)
   unfold dS at h1 |-
   rw[beq_iff_eq]at h1 |-
   rw[ht]
   have h2:=dX k0 (by omega)
   have h3:=dX (k0+j) h
   omega
  induction j with
  |zero=>
   intro _ _
   have h1:oT d b (k0+0)=bO d b:=Fb k0 (Nat.le_refl _)
   refine⟨by rw[h1];simp,Na k0 (Nat.le_refl _),Ac 0 (by rw[h1];simp)⟩
  |succ j ih=>
   intro hj hg
   obtain⟨h1,h2,h3⟩:=ih (by omega) (fun i hi h=>hg i (by omega) h)
   have ae:k0+j<b.ps.length:=by omega
   have h4:=HR b.fr.toNat b.ps (bO d b) ae (h3 ae)
   have h5:(oT d b (k0+(j+1))).ta.get b.fr.toNat=(bO d b).ta.get b.fr.toNat+((j+1:Nat):Int):=by
    have h6:oT d b (k0+(j+1))=_:=h4
    rw[h6]
    show ((oT d b (k0+j)).ta.set b.fr.toNat ((oT d b (k0+j)).ta.get b.fr.toNat+1)).get b.fr.toNat=_
    rw[((oT d b (k0+j)).ta.get_set (i:=b.fr.toNat) (j:=b.fr.toNat) _ hf).1,h1]
    omega
   exact⟨h5,NT ae h2 (hg j (by omega) ae),Ac (j+1) h5⟩
 have fin:∀ m n er,k0+m<=b.ps.length->((er=0/\n=m/\k0+m=b.ps.length)\/(er≠0/\n=m+1/\k0+m<b.ps.length))->
     (∀ i,i<m->∀ h:k0+i<b.ps.length,eF b.fr.toNat (oT d b (k0+i)) b.ps[k0+i]=0)->(er≠0->∀ h:k0+m<b.ps.length,eF b.fr.toNat (oT d b (k0+m)) b.ps[k0+m]=er)->mj d b k0 m n er:=by
  intro m n er h1 h2 h3 h4
  refine⟨h1,h2,cL,Fb,fun j hj h=>⟨(ph j (by omega) (fun i hi h=>h3 i (by omega) h)).2.2 h,h3 j hj h⟩,fun he h=>⟨(ph m h1 h3).2.2 h,h4 he h⟩,fun z hz=>?_⟩
  rcases Nat.lt_or_ge z k0 with h5 | h5
  ·exact Na z (by omega)
  ·have:=(ph (z-k0) (by omega) (fun i hi h=>h3 i (by omega) h)).2.1
   rwa [show k0+(z-k0)=z by omega]at this
 have go:∀ r j,k0+j+r=b.ps.length->(∀ i,i<j->∀ h:k0+i<b.ps.length,eF b.fr.toNat (oT d b (k0+i)) b.ps[k0+i]=0)->∃ m n er,mj d b k0 m n er:=by
  intro r
  induction r with
  |zero=>intro j hj hg;exact⟨j,j,0,fin j j 0 (by omega) (.inl ⟨rfl,rfl,by omega⟩) hg (fun h=>absurd rfl h)⟩
  |succ r ih=>
   intro j hj hg
   have ae:k0+j<b.ps.length:=by omega
   by_cases he:eF b.fr.toNat (oT d b (k0+j)) b.ps[k0+j]=0
   ·refine ih (j+1) (by omega) fun i hi h=>?_
    rcases Nat.lt_succ_iff_lt_or_eq.1 hi with h5 | h5
    ·exact hg i h5 h
    ·subst h5;exact he
   ·exact⟨j,j+1,_,fin j (j+1) _ (by omega) (.inr ⟨he,rfl,ae⟩) hg (fun _ _=>rfl)⟩
 obtain⟨m,n,er,h⟩:=go (b.ps.length-k0) 0 (by omega) (fun i hi=>by omega)
 exact⟨k0,m,n,er,h⟩
end Go.Eng
set_option linter.constructorNameAsVariable false
namespace Go.Eng
open Go Go.Proofs
def PT(e:Int):List Par->Prop
 |[]=>True
 |p::r=>p.no+(r.length:Int)=e/\(1<=p.no/\p.no<=99999/\1<=p.pa/\p.pa<=999)/\PT e r
theorem yf{e:Int}:∀ {l:List Par},PT e l↔∀ i (h:i<l.length),l[i].no+(l.length:Int)=e+1+(i:Int)/\(1<=l[i].no/\l[i].no<=99999/\1<=l[i].pa/\l[i].pa<=999)
 |[]=>⟨fun _ i h=>by simp at h,fun _=>trivial⟩
 |p::r=>by
  show (_/\_/\PT e r)↔_
  rw[yf (l:=r)]
  constructor
  ·rintro⟨h1,h2,h3⟩ i hi
   cases i with
   |zero=>exact⟨by simp only[List.getElem_cons_zero,List.length_cons];omega,h2⟩
   |succ i=>
    have :=h3 i (by simpa using hi)
    simp only[List.getElem_cons_succ,List.length_cons]
    exact⟨by omega,this.2⟩
  ·intro h
   refine⟨?_,(h 0 (by simp)).2,fun i hi=>?_⟩
   ·have:=(h 0 (by simp)).1
    simp only[List.getElem_cons_zero,List.length_cons]at this
    omega
   ·have:=h (i+1) (by simpa using hi)
    simp only[List.getElem_cons_succ,List.length_cons]at this
    exact⟨by omega,this.2⟩
theorem PQ{e:Int}{q:Par}:∀ {l:List Par},PT e l->q.no=e+1->(1<=q.no/\q.no<=99999/\1<=q.pa/\q.pa<=999)->PT (e+1) (l++[q])
 |[],_,h1,h2=>⟨by show q.no+0=e+1;omega,h2,trivial⟩
 |p::r,h,h1,h2=>⟨by have:=h.1;show p.no+((r++[q]).length:Int)=e+1;rw[List.length_append];simp only[List.length_cons,List.length_nil];omega,h.2.1,PQ h.2.2 h1 h2⟩
theorem PO{e ta:Int}:∀ {l:List Par},PT e l->PT e (l.filter fun p=>decide (p.no>ta))
 |[],_=>trivial
 |p::r,h=>by
  by_cases hp:p.no>ta
  ·have ee:r.filter (fun p=>decide (p.no>ta))=r:=by
     rw[List.filter_eq_self]
     intro q hq
     obtain⟨i,hi,rfl⟩:=List.getElem_of_mem hq
     have h1:=(yf.1 h.2.2 i hi).1
     have h2:=h.1
     simp only[gt_iff_lt,decide_eq_true_eq]
     omega
   rw[List.filter_cons_of_pos (by simpa using hp),ee]
   exact h
  ·rw[List.filter_cons_of_neg (by simpa using hp)]
   exact PO h.2.2
theorem I0{l:List Par}{e:Int}:(cm l&&(l.length==0||(l.getD (l.length-1) default).no==e))=true↔PT e l/\l.length<=40:=by
 rw[Bool.and_eq_true,yf]
 constructor
 ·rintro⟨h,hl⟩
  have dX:=yQ h
  unfold cm at h
  rw[Bool.and_eq_true,decide_eq_true_eq,ix]at h
  refine⟨fun i hi=>?_,h.2⟩
  have ZG:(l.length==0)=false:=by simp;intro h0;subst h0;simp at hi
  rw[ZG,Bool.false_or,beq_iff_eq,getD_at (by omega)]at hl
  have h1:=dX i hi
  have h2:=dX (l.length-1) (by omega)
  have :=h.1 i hi
  unfold gw at this
  rw[getD_at hi]at this
  simp only[Bool.and_eq_true]at this
  have a:=cp.1 this.1.1
  have c:=cp.1 this.1.2
  exact⟨by omega,a.1,a.2,c.1,c.2⟩
 ·rintro⟨h,hl⟩
  refine⟨?_,?_⟩
  ·unfold cm
   rw[Bool.and_eq_true,decide_eq_true_eq,ix]
   refine⟨fun i hi=>?_,hl⟩
   obtain⟨h1,h2,h3,h4,h5⟩:=h i hi
   unfold gw
   rw[getD_at hi]
   simp only[Bool.and_eq_true,Bool.or_eq_true,beq_iff_eq]
   refine⟨⟨cp.2 ⟨h2,h3⟩,cp.2 ⟨h4,h5⟩⟩,?_⟩
   cases i with
   |zero=>exact .inl rfl
   |succ i=>
    have :=(h i (by omega)).1
    rw[show i+1-1=i from rfl,getD_at (by omega)]
    exact .inr (by omega)
  ·simp only[Bool.or_eq_true,beq_iff_eq]
   rcases Nat.eq_zero_or_pos l.length with h0 | h0
   ·exact .inl h0
   ·rw[getD_at (by omega)]
    have :=(h (l.length-1) (by omega)).1
    exact .inr (by omega)
theorem I3{l:List Int}:gx l=true↔l.Pairwise (· < ·)/\(∀ x∈l,1<=x/\x<=999)/\l.length<=40:=by
 constructor
 ·intro h
  refine⟨Cx h,fun x hx=>?_,(um h).1⟩
  obtain⟨i,hi,rfl⟩:=List.getElem_of_mem hx
  unfold gx at h
  rw[Bool.and_eq_true,ix]at h
  have :=h.1 i hi
  unfold lf at this
  rw[getD_at hi,Bool.and_eq_true]at this
  exact cp.1 this.1
 ·rintro⟨h1,h2,h3⟩
  unfold gx
  rw[Bool.and_eq_true,decide_eq_true_eq,ix]
  refine⟨fun i hi=>?_,h3⟩
  unfold lf
  rw[getD_at hi,Bool.and_eq_true]
  refine⟨cp.2 (h2 _ (List.getElem_mem hi)),?_⟩
  cases i with
  |zero=>rfl
  |succ i=>
   rw[show i+1-1=i from rfl,getD_at (show i<l.length by omega)]
   have :=List.pairwise_iff_getElem.1 h1 i (i+1) (by omega) hi (by omega)
   simp[this]
structure fc (me:Int) (s:Stk):Prop where
 m0:0<=me
 m6:me<6
 ri:s.ho.Pairwise (· < ·)
 rn:∀ x∈s.ho,1<=x/\x<=999
 ln:s.ho.length<=40
 u0:s.un.get me.toNat=[]
 s0:s.se.get me.toNat=0
 t0:s.ta.get me.toNat=0
 se:∀ i,i<6->0<=s.se.get i/\s.se.get i<=99999
 ta:∀ i,i<6->0<=s.ta.get i/\s.ta.get i<=99999
 un:∀ i,i<6->PT (s.se.get i) (s.un.get i)/\(s.un.get i).length<=40
theorem yt{me:Int}{s:Stk}:cz me s=true↔fc me s:=by
 have jZ:∀ i,gu s i=true↔(0<=s.se.get i/\s.se.get i<=99999)/\(0<=s.ta.get i/\s.ta.get i<=99999)/\PT (s.se.get i) (s.un.get i)/\(s.un.get i).length<=40:=by
  intro i
  rw[<-I0,<-cp,<-cp]
  unfold gu
  simp only[Bool.and_eq_true,and_assoc]
 unfold cz
 simp only[Bool.and_eq_true,beq_iff_eq,ix,List.length_eq_zero_iff]
 rw[I3,cp]
 constructor
 ·rintro⟨⟨⟨⟨⟨h1,h2⟩,h3⟩,h4⟩,h5⟩,h6⟩
  exact⟨h1.1,by omega,h2.1,h2.2.1,h2.2.2,h3,h4,h5,fun i hi=>((jZ i).1 (h6 i hi)).1,fun i hi=>((jZ i).1 (h6 i hi)).2.1,fun i hi=>((jZ i).1 (h6 i hi)).2.2⟩
 ·intro h
  exact⟨⟨⟨⟨⟨⟨h.m0,by have:=h.m6;omega⟩,h.ri,h.rn,h.ln⟩,h.u0⟩,h.s0⟩,h.t0⟩,fun i hi=>(jZ i).2 ⟨h.se i hi,h.ta i hi,h.un i hi⟩⟩
end Go.Eng
set_option linter.constructorNameAsVariable false
namespace Go.Eng
open Go Go.Proofs
theorem rB(d:Dk)(s:Stk):∀ k,(d.setN s).pg k=d.pg k
 | 0=>rfl
 |_+1=>rfl
theorem aaT(d:Dk)(s:Stk)(i:Nat)(o:Int):fF (d.setN s) i o=fF d i o:=by
 unfold fF
 rw[rB,rB]
 rfl
theorem NA(d:Dk)(s:Stk):∀ i,ck (d.setN s) i=ck d i
 | 0=>rfl
 |i+1=>by
  show (if fF (d.setN s) i (ck (d.setN s) i)=true then(i:Int)else ck (d.setN s) i)=if fF d i (ck d i)=true then(i:Int)else ck d i
  rw[NA d s i,aaT]
theorem aaY(d:Dk)(s:Stk):bj (d.setN s)=bj d:=NA d s 2
theorem xz(d:Dk)(s:Stk):aQ (d.setN s)=aQ d:=by
 unfold aQ
 rw[aaY,rB]
theorem Rh(d:Dk)(s:Stk):lJ (d.setN s)=lJ d:=by
 unfold lJ
 rw[rB,rB]
 rfl
theorem gH{d:Dk}:ay d=true↔fc d.me d.now/\(-1<=d.wet/\d.wet<=1)/\lJ d=true:=by
 unfold ay iJ
 rw[Bool.and_eq_true,Bool.and_eq_true,yt,cp,and_assoc]
theorem F5{d:Dk}{s:Stk}(h:ay d=true)(hs:fc d.me s):ay (d.setN s)=true:=by
 obtain⟨_,h2,h3⟩:=gH.1 h
 exact gH.2 ⟨hs,h2,by rw[Rh];exact h3⟩
theorem fc.sz{me:Int}{s:Stk}(h:fc me s):kh s:=(uw (yt.2 h)).sz
theorem BR{d:Dk}{s:Stk}{me:Int}(h:eO d)(hs:fc me s):eO (d.setN s):=⟨hs.sz,fun i hi=>by rw[rB];exact h.pg i hi⟩
theorem SD{me:Int}{s:Stk}{p:Int}{j:Nat}(h:fc me s)(hj:j<6)(al:me.toNat≠j)(hl:(s.un.get j).length≠40)(im:s.se.get j≠99999)(hp:1<=p/\p<=999):fc me (js s p j):=by
 have m0:=h.m0;have m6:=h.m6
 have sB:me.toNat<6:=by omega
 have hu:=h.un j hj
 have hs:=h.se j hj
 refine⟨m0,m6,?_,fun x hx=>h.rn x ?_,?_,?_,?_,h.t0,fun i hi=>?_,h.ta,fun i hi=>?_⟩
 ·show (fV s.ho p s.ho.length).Pairwise (· < ·)
  unfold fV
  rw[List.take_length]
  exact h.ri.sublist List.filter_sublist
 ·have hx:x∈fV s.ho p s.ho.length:=hx
  unfold fV at hx
  rw[List.take_length]at hx
  exact(List.mem_filter.1 hx).1
 ·exact Nat.le_trans (aa0 _ _ _) h.ln
 ·show (s.un.set j _).get me.toNat=[]
  rw[(s.un.get_set (i:=j) (j:=me.toNat) _ hj).2 sB al]
  exact h.u0
 ·show (s.se.set j _).get me.toNat=0
  rw[(s.se.get_set (i:=j) (j:=me.toNat) _ hj).2 sB al]
  exact h.s0
 ·show 0<=(s.se.set j _).get i/\(s.se.set j _).get i<=99999
  by_cases e:i=j
  ·subst e
   rw[(s.se.get_set (i:=i) (j:=i) _ hj).1]
   omega
  ·rw[(s.se.get_set (i:=j) (j:=i) _ hj).2 hi e]
   exact h.se i hi
 ·show PT ((s.se.set j _).get i) ((s.un.set j _).get i)/\((s.un.set j _).get i).length<=40
  by_cases e:i=j
  ·subst e
   rw[(s.se.get_set (i:=i) (j:=i) _ hj).1,(s.un.get_set (i:=i) (j:=i) _ hj).1]
   refine⟨PQ hu.1 rfl ⟨?_,?_,hp.1,hp.2⟩,?_⟩
   ·show 1<=s.se.get i+1;omega
   ·show s.se.get i+1<=99999;omega
   ·rw[List.length_append]
    have :=hu.2
    simp only[List.length_cons,List.length_nil]
    omega
  ·rw[(s.se.get_set (i:=j) (j:=i) _ hj).2 hi e,(s.un.get_set (i:=j) (j:=i) _ hj).2 hi e]
   exact h.un i hi
theorem Vc{me:Int}{s:Stk}{f:Nat}{ta:Int}(h:fc me s)(hf:f<6):fc me (rR s f ta):=by
 have m0:=h.m0;have m6:=h.m6
 have sB:me.toNat<6:=by omega
 refine⟨m0,m6,h.ri,h.rn,h.ln,?_,h.s0,h.t0,h.se,h.ta,fun i hi=>?_⟩
 ·show (s.un.set f _).get me.toNat=[]
  by_cases e:me.toNat=f
  ·rw[<-e,(s.un.get_set (i:=me.toNat) (j:=me.toNat) _ sB).1,h.u0]
   rfl
  ·rw[(s.un.get_set (i:=f) (j:=me.toNat) _ hf).2 sB e]
   exact h.u0
 ·show PT (s.se.get i) ((s.un.set f _).get i)/\((s.un.set f _).get i).length<=40
  by_cases e:i=f
  ·subst e
   rw[(s.un.get_set (i:=i) (j:=i) _ hf).1]
   refine⟨?_,Nat.le_trans (RB _ _ _) (h.un i hf).2⟩
   unfold fe
   rw[List.take_length]
   exact PO (h.un i hf).1
  ·rw[(s.un.get_set (i:=f) (j:=i) _ hf).2 hi e]
   exact h.un i hi
theorem Ys{l:List Int}{x y:Int}(h:y∈b8 l x):y=x\/y∈l:=by
 unfold b8 at h
 rcases List.mem_append.1 h with h | h
 ·rcases List.mem_append.1 h with h | h
  ·exact .inr (List.mem_of_mem_take h)
  ·exact .inl (by simpa using h)
 ·exact .inr (List.mem_of_mem_drop h)
theorem RQ{me:Int}{s:Stk}{f:Nat}{p:Par}(h:fc me s)(hf:f<6)(al:me.toNat≠f)(hp:p.no<=99999/\1<=p.pa/\p.pa<=999)(he:eF f s p=0):fc me (iR f s p):=by
 unfold iR
 unfold eF at he
 have m0:=h.m0;have m6:=h.m6
 have sB:me.toNat<6:=by omega
 have ht:=h.ta f hf
 by_cases hn:dS f s p=true
 ·rw[if_pos hn]at he |-
  by_cases hh:bu s.ho p.pa=true
  ·rw[if_pos hh]at he;cases he
  ·rw[if_neg hh]at he
   by_cases hl:40<(b8 s.ho p.pa).length
   ·rw[if_pos hl]at he;cases he
   ·unfold dS at hn
    have dX:p.no=s.ta.get f+1:=by simpa using hn
    refine⟨m0,m6,Dx h.ri (by simpa using hh),fun x hx=>?_,by show (b8 s.ho p.pa).length<=40;omega,h.u0,h.s0,?_,h.se,fun i hi=>?_,h.un⟩
    ·rcases Ys hx with rfl | hx
     ·exact hp.2
     ·exact h.rn x hx
    ·show (s.ta.set f _).get me.toNat=0
     rw[(s.ta.get_set (i:=f) (j:=me.toNat) _ hf).2 sB al]
     exact h.t0
    ·show 0<=(s.ta.set f _).get i/\(s.ta.set f _).get i<=99999
     by_cases e:i=f
     ·subst e
      rw[(s.ta.get_set (i:=i) (j:=i) _ hf).1]
      omega
     ·rw[(s.ta.get_set (i:=f) (j:=i) _ hf).2 hi e]
      exact h.ta i hi
 ·rw[if_neg hn];exact h
theorem Iq{me:Int}{f:Nat}{ps:List Par}{s0:Stk}(h0:fc me s0)(hf:f<6)(al:me.toNat≠f)(hp:∀ p∈ps,p.no<=99999/\1<=p.pa/\p.pa<=999):∀ {z:Nat},z<=ps.length->dG f ps s0 z=0->fc me (bJ f ps s0 z)
 | 0,_,_=>h0
 |z+1,hz,he=>by
  have mJ:(if dG f ps s0 z=0 then eF f (bJ f ps s0 z) (ps.getD z default)else dG f ps s0 z)=0:=he
  by_cases h1:dG f ps s0 z=0
  ·rw[if_pos h1]at mJ
   have hg:ps.getD z default=ps[z]'(by omega):=getD_at (by omega)
   exact RQ (Iq h0 hf al hp (by omega) h1) hf al (by rw[hg];exact hp _ (List.getElem_mem _)) mJ
  ·rw[if_neg h1]at mJ;exact absurd mJ h1
structure Kept (d e:Dk):Prop where
 ok:ay e=true
 me:e.me=d.me
 sz:eO d->eO e
theorem Ie{d:Dk}{p t:Int}(h:ay d=true)(he:c7 d p t=0):Kept d (iV d p t)/\aQ (iV d p t)=aQ d:=by
 have hV:iV d p t=d.setN (js d.now p t.toNat):=by unfold iV;rw[if_pos he]
 unfold c7 at he
 rw[if_pos h]at he
 by_cases h1:aO p 1 999=true
 ·rw[if_pos h1]at he
  by_cases h2:ez d t=true
  ·rw[if_pos h2]at he
   by_cases h3:nc d p=true
   ·rw[if_pos h3]at he;cases he
   ·rw[if_neg h3]at he
    by_cases h4:oS d t=true
    ·rw[if_pos h4]at he;cases he
    ·have hs:=(gH.1 h).1
     have m0:=hs.m0
     unfold ez at h2
     rw[Bool.and_eq_true,cp]at h2
     have al:t≠d.me:=by simpa using h2.2
     unfold oS at h4
     simp only[Bool.or_eq_true,beq_iff_eq,not_or]at h4
     have hk:=SD (p:=p) (j:=t.toNat) hs (by omega) (by omega) (by omega) h4.2 (cp.1 h1)
     rw[hV]
     exact⟨⟨F5 h hk,rfl,fun hz=>BR hz hk⟩,xz _ _⟩
  ·rw[if_neg h2]at he;cases he
 ·rw[if_neg h1]at he;cases he
theorem CE{d:Dk}{b:Bag}(h:ay d=true)(he:gA d b=0):(Kept d (gL d b)/\aQ (gL d b)=aQ d)/\jh d b=true/\dG b.fr.toNat b.ps (bO d b) b.ps.length=0/\gL d b=d.setN (bJ b.fr.toNat b.ps (bO d b) b.ps.length):=by
 have hV:gL d b=d.setN (bJ b.fr.toNat b.ps (bO d b) b.ps.length):=by unfold gL;rw[if_pos he]
 unfold gA at he
 rw[if_pos h]at he
 by_cases h1:jh d b=true
 ·rw[if_pos h1]at he
  have hs:=(gH.1 h).1
  have m0:=hs.m0
  have lq:=h1
  unfold jh at h1
  rw[Bool.and_eq_true,beq_iff_eq]at h1
  obtain⟨f0,f6,fk,_,fm,_,_⟩:=qZ h1.1
  have al:b.fr≠b.to:=by
   have :=h1.1
   unfold fK at this
   simp only[Bool.and_eq_true]at this
   intro e
   simp[e]at this
  have hk:=Iq (Vc (ta:=b.ta) hs fk) fk (by omega) (fun p hp=>⟨(fm p hp).2.1,(fm p hp).2.2⟩) (Nat.le_refl _) he
  rw[hV]
  exact⟨⟨⟨F5 h hk,rfl,fun hz=>BR hz hk⟩,xz _ _⟩,lq,he,rfl⟩
 ·rw[if_neg h1]at he;cases he
set_option maxRecDepth 100000
noncomputable def P120:PSpec:=p2 eH iI (fun _ _=>True) (fun l x=>vInt (fj (fun y=>y==x) l)) true
noncomputable def S120:Spec:=P120.toSpec
attribute [go_sem] P120 S120
theorem T5:aR Tryd.prog 75 P120:=by
 refine w2 (rs:=[.tmp 4]) Tryd.func75 Tryd.ntmps75 (by rfl) (by kernel_rfl) (by decide) (fun _ _ _=>rfl) ⟨_,rfl,lb rfl,fun l x hp hw=>?_⟩
 have hP:=be
 simp only[iI,eH]at hw |-
 have hΓ:=@kq Tryd.prog
 have hl:l.length<=maxLen:=by have:=hw.1.1;simpa using this
 repeat refine sq ?_
 refine rx hΓ [0,1] [] (fun K' hK=>by simp only[go_sem];(repeat (refine⟨ah,?_⟩));exact hK _ (by simp only[go_sem]) (by simp only[go_sem]<;>rfl)) ?_
 repeat refine sq ?_
 refine rx hΓ [0,1,7,8] [] (fun K' hK=>by simp only[go_sem];(repeat (refine⟨ah,?_⟩));exact hK _ (by simp only[go_sem]) (by simp only[go_sem]<;>rfl)) ?_
 repeat refine sq ?_
 refine aN ?_
 repeat refine sq ?_
 refine cN (fun z:Nat=>[(8,⟨true,.v (vInt z)⟩)]) (fun z=>[]) (fun z=>z<=l.length/\∀ k (h:k<l.length),k<z->(l[k]==x)=false) (fun z=>l.length-z) 0 ?_ ?_ ?_ ?_
 ·exact⟨Nat.zero_le _,fun k h hk=>absurd hk (by omega)⟩
 ·rfl
 ·rfl
 rintro i ⟨hi,hR⟩
 simp only[go_sem]
 repeat refine sq ?_
 refine rx hΓ [0,1,7,8,9] [] (fun K' hK=>by simp only[go_sem];(repeat (refine⟨ah,?_⟩));exact hK _ (by simp only[go_sem]) (by simp only[go_sem]<;>rfl)) ?_
 repeat refine sq ?_
 refine au rfl rfl (fun hb=>?_) (fun hb=>?_)
 ·have ae:i<l.length:=by simpa using hb
  have ai:(i:Int)<l.length:=by omega
  clear hb
  repeat refine sq ?_
  refine ax ?_
  repeat refine sq ?_
  refine aN ?_
  repeat refine sq ?_
  refine rx hΓ [0,1,5,7,8] [] (fun K' hK=>by simp only[go_sem,aJ ae,Int.toNat_natCast,Int.natCast_nonneg,ai];(repeat (refine⟨ah,?_⟩));exact hK _ (by simp only[go_sem]) (by simp only[go_sem]<;>rfl)) ?_
  repeat refine sq ?_
  refine rx hΓ [0,1,5,7,8,16] [] (fun K' hK=>by simp only[go_sem,aJ ae,Int.toNat_natCast,Int.natCast_nonneg,ai,aJ ae,Int.toNat_natCast,Int.natCast_nonneg,ai];(repeat (refine⟨ah,?_⟩));exact hK _ (by simp only[go_sem]) (by simp only[go_sem]<;>rfl)) ?_
  repeat refine sq ?_
  refine au rfl rfl (fun hb=>?_) (fun hb=>?_)
  ·repeat refine sq ?_
   refine rx hΓ [4] [] (fun K' hK=>by simp only[go_sem,aJ ae,Int.toNat_natCast,Int.natCast_nonneg,ai];(repeat (refine⟨ah,?_⟩));exact hK _ (by simp only[go_sem]) (by simp only[go_sem]<;>rfl)) ?_
   refine ar ?_
   simp only[go_sem]
   rw[zJ (p:=fun y=>y==x) ae (by have h:=hb;simp only[beq_iff_eq]at h |-;omega) hR]
  ·repeat refine sq ?_
   refine ax ?_
   refine cM ?_
   simp only[go_sem]
   refine kp [0,1,7,8] [] ?_
   repeat refine sq ?_
   refine aP hΓ fun K' hK=>?_
   simp only[go_sem,aJ ae,Int.toNat_natCast,Int.natCast_nonneg,ai]
   repeat (refine⟨ah,?_⟩)
   refine hK _ ?_
   clear K' hK
   simp only[go_sem]
   refine⟨i+1,⟨ae,?_⟩,by(show l.length-(i+1)<l.length-i;omega),?_⟩
   ·intro k hk jV
    rcases Nat.lt_succ_iff_lt_or_eq.1 jV with h5 | rfl
    ·exact hR k hk h5
    ·have h:=hb
     simp only[beq_eq_false_iff_ne,ne_eq]at h |-
     omega
   refine bk [0,1,7,8] [] ?_ ?_
   ·simp only[go_sem,aF ae hl,Int.natCast_add,Int.natCast_one]
   ·simp only[go_sem,aF ae hl,Int.natCast_add,Int.natCast_one]
 ·have bb:i=l.length:=by
   have :¬ (i:Int)<l.length:=by simpa using hb
   omega
  clear hb
  subst bb
  repeat refine sq ?_
  refine cr ?_
  simp only[go_sem]
  refine kp [] [] ?_
  repeat refine sq ?_
  refine rx hΓ [4] [] (fun K' hK=>by simp only[go_sem];(repeat (refine⟨ah,?_⟩));exact hK _ (by simp only[go_sem]) (by simp only[go_sem]<;>rfl)) ?_
  refine ar ?_
  simp only[go_sem]
  rw[DB (p:=fun y=>y==x) fun k hk=>hR k hk hk]
theorem X7:ak Tryd.prog 75 S120:=T5.sound
theorem YD(l:List Int)(x:Int):decide (fj (fun y=>y==x) l>=0)=bu l x:=by
 unfold fj bu
 have e:(l.any fun y=>y==x)=l.contains x:=by
  rw[List.contains_eq_any_beq]
  congr 1
  funext y
  by_cases h:y=x
  ·rw[h]
  ·have h1:(y==x)=false:=by simpa using h
   have h2:(x==y)=false:=by simpa using Ne.symm h
   rw[h1,h2]
 rw[e]
 cases l.contains x
 ·rfl
 ·simp
noncomputable def P2:List (Nat×Spec):=[(75,S120)]
theorem ado:∀ f s,tbl P2 f=some s->ak Tryd.prog f s:=tc X7<|tn
attribute [go_sem] P2
noncomputable def P107:PSpec:=p2 eH iI (fun _ _=>True) (fun l x=>.bool (bu l x)) true
noncomputable def S107:Spec:=P107.toSpec
attribute [go_sem] P107 S107
theorem Ud:aR Tryd.prog 53 P107:=by
 refine w2 (rs:=[.tmp 4]) Tryd.func53 Tryd.ntmps53 (by rfl) (by kernel_rfl) (by decide) (fun _ _ _=>rfl) ⟨_,rfl,lb rfl,fun l x hp hw=>?_⟩
 have hP:=be
 simp only[iI,eH]at hw |-
 have hΓ:=ado
 repeat refine sq ?_
 refine rx hΓ [0,1] [] (fun K' hK=>by simp only[go_sem];(repeat (refine⟨ah,?_⟩));exact hK _ (by simp only[go_sem]) (by simp only[go_sem]<;>rfl)) ?_
 repeat refine sq ?_
 refine rx hΓ [4] [] (fun K' hK=>by simp only[go_sem,YD];(repeat (refine⟨ah,?_⟩));exact hK _ (by simp only[go_sem]) (by simp only[go_sem]<;>rfl)) ?_
 refine ar ?_
 simp only[go_sem]
 all_goals first | rfl | (simp;done) | (simp_all;done)
theorem Yb:ak Tryd.prog 53 S107:=Ud.sound
@[go_sem] theorem agt(s:Stk):List.take 1 (aC s)=[gv s.ho]:=rfl
def gm(l:List Dk)(p:Int)(z:Nat):List Int:=((l.take z).filter fun d=>bu d.now.ho p).map Dk.me
theorem BE{l:List Dk}{p:Int}{z:Nat}(h:z<l.length)(hp:bu l[z].now.ho p=true):gm l p (z+1)=gm l p z++[l[z].me]:=by
 unfold gm
 rw[List.take_add_one,List.getElem?_eq_getElem h,List.filter_append,List.map_append]
 show _++(List.filter _ [l[z]]).map Dk.me=_
 rw[List.filter_cons_of_pos (by simpa using hp)]
 rfl
theorem BF{l:List Dk}{p:Int}{z:Nat}(h:z<l.length)(hp:bu l[z].now.ho p=false):gm l p (z+1)=gm l p z:=by
 unfold gm
 rw[List.take_add_one,List.getElem?_eq_getElem h,List.filter_append,List.map_append]
 show _++(List.filter _ [l[z]]).map Dk.me=_
 rw[List.filter_cons_of_neg (by simp[hp])]
 simp
theorem Hp(l:List Dk)(p:Int)(z:Nat):(gm l p z).length<=l.length:=by
 unfold gm
 rw[List.length_map]
 refine Nat.le_trans (List.length_filter_le _ _) ?_
 rw[List.length_take];omega
def rp(l:List Dk)(p:Int):List Int:=if fg l p=0 then gm l p l.length else[]
theorem ow{l:List Dk}{p:Int}(h:fg l p=0):rp l p=gm l p l.length:=if_pos h
theorem pO{l:List Dk}{p:Int}(h:fg l p≠0):rp l p=[]:=if_neg h
theorem td{l:List Dk}(h:dd l=true):l.length<=6/\∀ i (hi:i<l.length),ay l[i]=true:=by
 unfold dd at h
 rw[Bool.and_eq_true,decide_eq_true_eq,ix]at h
 refine⟨h.2,fun i hi=>?_⟩
 have :=h.1 i hi
 unfold j6 at this
 rw[Bool.and_eq_true,getD_at hi]at this
 exact this.1
theorem yR{l:List Dk}{p:Int}(h:fg l p=0):dd l=true/\aO p 1 999=true:=by
 cases h1:dd l
 ·rw[rN h1]at h;cases h
 ·cases h2:aO p 1 999
  ·rw[rM h1 h2]at h;cases h
  ·exact⟨rfl,rfl⟩
noncomputable def P1:List (Nat×Spec):=[(52,S104),(53,S107)]
theorem adn:∀ f s,tbl P1 f=some s->ak Tryd.prog f s:=tc LK<|tc Yb<|tn
attribute [go_sem] P1
noncomputable def P70:PSpec:=p2 iY iI (fun _ _=>True) (fun l p=>.tup [.sl ((rp l p).map vInt),vInt (fg l p)]) false
noncomputable def S70:Spec:=P70.toSpec
attribute [go_sem] P70 S70
set_option maxHeartbeats 4000000 in
theorem Tu:aR Tryd.prog 20 P70:=by
 refine w2 (rs:=[.tmp 4,.tmp 5]) Tryd.func20 Tryd.ntmps20 (by rfl) (by kernel_rfl) (by decide) (fun h=>by cases h) ⟨_,rfl,lb rfl,fun l p hp hw=>?_⟩
 have hP:=be
 simp only[iY,iI]at hw |-
 have hΓ:=adn
 have hl:l.length<=maxLen:=by have:=hw.1.1;simpa using this
 repeat refine sq ?_
 refine rx hΓ [0,1] [] (fun K' hK=>by simp only[go_sem];(repeat (refine⟨ah,?_⟩));exact hK _ (by simp only[go_sem]) (by simp only[go_sem]<;>rfl)) ?_
 repeat refine sq ?_
 refine rx hΓ [0,1,6] [] (fun K' hK=>by simp only[go_sem];(repeat (refine⟨ah,?_⟩));exact hK _ (by simp only[go_sem]) (by simp only[go_sem]<;>rfl)) ?_
 repeat refine sq ?_
 refine rx hΓ [0,1,6,14] [] (fun K' hK=>by simp only[go_sem];(repeat (refine⟨ah,?_⟩));exact hK _ (by simp only[go_sem]) (by simp only[go_sem]<;>rfl)) ?_
 repeat refine sq ?_
 refine au rfl rfl (fun hb=>?_) (fun hb=>?_)
 ·repeat refine sq ?_
  have he:fg l p≠0:=by simpa using hb
  repeat refine sq ?_
  refine rx hΓ [4,5] [[31,0]] (fun K' hK=>by simp only[go_sem];(repeat (refine⟨ah,?_⟩));exact hK _ (by simp only[go_sem]) (by simp only[go_sem]<;>rfl)) ?_
  refine ar ?_
  simp only[go_sem]
  first | (rw[pO he];done) | (rw[pO he];rfl) | (rw[ow he,he];done) | (rw[ow he,he];rfl)
 ·repeat refine sq ?_
  have he:fg l p=0:=by simpa using hb
  refine ax ?_
  repeat refine sq ?_
  refine rx hΓ [0,1,7] [[31,0]] (fun K' hK=>by simp only[go_sem];(repeat (refine⟨ah,?_⟩));exact hK _ (by simp only[go_sem]) (by simp only[go_sem]<;>rfl)) ?_
  refine aL (tL 7 [31,0] 1 (by simp only[go_sem]) (by simp only[go_sem]) [0,1,7] [[31,0]] ?_ rfl) ?_
  ·simp only[go_sem]
  simp only[go_sem]
  repeat refine sq ?_
  refine rx hΓ [1,7,16,17,18] [[31,0]] (fun K' hK=>by simp only[go_sem];(repeat (refine⟨ah,?_⟩));exact hK _ (by simp only[go_sem]) (by simp only[go_sem]<;>rfl)) ?_
  repeat refine sq ?_
  refine aN ?_
  repeat refine sq ?_
  refine cN (fun z:Nat=>[(18,⟨true,.v (vInt z)⟩),(7,⟨true,.msl [31,0] (gm l p z).length⟩)]) (fun z=>[([31,0],.arr 1 ((gm l p z).map vInt))]) (fun z=>z<=l.length) (fun z=>l.length-z) 0 ?_ ?_ ?_ ?_
  ·exact Nat.zero_le _
  ·rfl
  ·rfl
  rintro i hi
  simp only[go_sem]
  repeat refine sq ?_
  refine rx hΓ [1,7,16,17,18,19] [[31,0]] (fun K' hK=>by simp only[go_sem];(repeat (refine⟨ah,?_⟩));exact hK _ (by simp only[go_sem]) (by simp only[go_sem]<;>rfl)) ?_
  repeat refine sq ?_
  refine au rfl rfl (fun hb=>?_) (fun hb=>?_)
  ·have ae:i<l.length:=by simpa using hb
   have ai:(i:Int)<l.length:=by omega
   clear hb
   have hx:=Hp l p i
   have YT:=(td (yR he).1).1
   repeat refine sq ?_
   refine ax ?_
   repeat refine sq ?_
   refine aN ?_
   repeat refine sq ?_
   refine rx hΓ [1,7,9,16,17,18] [[9,0],[31,0]] (fun K' hK=>by simp only[go_sem,cS ae,Int.toNat_natCast,Int.natCast_nonneg,ai,List.length_map,cS ae,Int.toNat_natCast,Int.natCast_nonneg,ai,List.length_map,List.append_nil];(repeat (refine⟨ah,?_⟩));exact hK _ (by simp only[go_sem]) (by simp only[go_sem]<;>rfl)) ?_
   refine aL (cG [9,0] (an l[i]) rfl [1,7,9,16,17,18] [[9,0],[31,0]] ?_ rfl) ?_
   ·simp only[go_sem]
   simp only[go_sem]
   repeat refine sq ?_
   refine rx hΓ [1,7,9,16,17,18,26] [[9,0],[31,0]] (fun K' hK=>by simp only[go_sem,cS ae,Int.toNat_natCast,Int.natCast_nonneg,ai,List.length_map];(repeat (refine⟨ah,?_⟩));exact hK _ (by simp only[go_sem]) (by simp only[go_sem]<;>rfl)) ?_
   repeat refine sq ?_
   refine au rfl rfl (fun hb=>?_) (fun hb=>?_)
   ·repeat refine sq ?_
    have e:=BE ae hb
    repeat refine sq ?_
    refine aP hΓ fun K' hK=>?_
    simp only[go_sem,cS ae,Int.toNat_natCast,Int.natCast_nonneg,ai,List.length_map,List.map_append,List.length_append,List.map_cons,List.map_nil,List.length_cons,List.length_nil]
    repeat (refine⟨by first | exact⟨rfl,by omega,by unfold maxLen;omega⟩ | exact ah,?_⟩)
    refine hK _ ?_
    clear K' hK
    simp only[go_sem]
    refine kp [1,7,16,17,18] [[31,0]] ?_
    repeat refine sq ?_
    refine aP hΓ fun K' hK=>?_
    simp only[go_sem,cS ae,Int.toNat_natCast,Int.natCast_nonneg,ai,List.length_map]
    repeat (refine⟨ah,?_⟩)
    refine hK _ ?_
    clear K' hK
    simp only[go_sem]
    refine⟨i+1,ae,by(show l.length-(i+1)<l.length-i;omega),?_⟩
    refine bk [1,7,16,17,18] [[31,0]] ?_ ?_
    ·simp only[go_sem,aF ae hl,Int.natCast_add,Int.natCast_one,e,List.map_append,List.length_append,List.map_cons,List.map_nil,List.length_cons,List.length_nil]
    ·simp only[go_sem,aF ae hl,Int.natCast_add,Int.natCast_one,e,List.map_append,List.length_append,List.map_cons,List.map_nil,List.length_cons,List.length_nil]
   ·repeat refine sq ?_
    have e:=BF ae hb
    refine ax ?_
    refine cM ?_
    simp only[go_sem]
    refine kp [1,7,16,17,18] [[31,0]] ?_
    repeat refine sq ?_
    refine aP hΓ fun K' hK=>?_
    simp only[go_sem,cS ae,Int.toNat_natCast,Int.natCast_nonneg,ai,List.length_map]
    repeat (refine⟨ah,?_⟩)
    refine hK _ ?_
    clear K' hK
    simp only[go_sem]
    refine⟨i+1,ae,by(show l.length-(i+1)<l.length-i;omega),?_⟩
    refine bk [1,7,16,17,18] [[31,0]] ?_ ?_
    ·simp only[go_sem,aF ae hl,Int.natCast_add,Int.natCast_one,e,List.map_append,List.length_append,List.map_cons,List.map_nil,List.length_cons,List.length_nil]
    ·simp only[go_sem,aF ae hl,Int.natCast_add,Int.natCast_one,e,List.map_append,List.length_append,List.map_cons,List.map_nil,List.length_cons,List.length_nil]
  ·have bb:i=l.length:=by
    have :¬ (i:Int)<l.length:=by simpa using hb
    omega
   clear hb
   subst bb
   repeat refine sq ?_
   refine cr ?_
   simp only[go_sem]
   refine kp [7] [[31,0]] ?_
   repeat refine sq ?_
   refine rx hΓ [4,5] [[31,0]] (fun K' hK=>by simp only[go_sem];(repeat (refine⟨ah,?_⟩));exact hK _ (by simp only[go_sem]) (by simp only[go_sem]<;>rfl)) ?_
   refine ar ?_
   simp only[go_sem]
   first | (rw[pO he];done) | (rw[pO he];rfl) | (rw[ow he,he];done) | (rw[ow he,he];rfl)
theorem XK:ak Tryd.prog 20 S70:=Tu.sound
noncomputable def P0:List (Nat×Spec):=[(54,S554),(55,S68)]
theorem adm:∀ f s,tbl P0 f=some s->ak Tryd.prog f s:=tc XV<|tc Lv<|tn
attribute [go_sem] P0
noncomputable def P521:PSpec:=p2 iY iI (fun _ _=>True) (fun l p=>.tup [.sl ((rp l p).map vInt),vInt (fg l p)]) false
noncomputable def S521:Spec:=P521.toSpec
attribute [go_sem] P521 S521
set_option maxHeartbeats 4000000 in
theorem TF:aR Tryd.prog 21 P521:=by
 refine w2 (rs:=[.tmp 4,.tmp 5]) Tryd.func21 Tryd.ntmps21 (by rfl) (by kernel_rfl) (by decide) (fun h=>by cases h) ⟨_,rfl,lb rfl,fun l p hp hw=>?_⟩
 have hP:=be
 simp only[iY,iI]at hw |-
 have hΓ:=adm
 have hl:l.length<=maxLen:=by have:=hw.1.1;simpa using this
 repeat refine sq ?_
 refine rx hΓ [0,1] [] (fun K' hK=>by simp only[go_sem];(repeat (refine⟨ah,?_⟩));exact hK _ (by simp only[go_sem]) (by simp only[go_sem]<;>rfl)) ?_
 repeat refine sq ?_
 refine rx hΓ [0,1,6] [] (fun K' hK=>by simp only[go_sem];(repeat (refine⟨ah,?_⟩));exact hK _ (by simp only[go_sem]) (by simp only[go_sem]<;>rfl)) ?_
 repeat refine sq ?_
 refine rx hΓ [0,1,6,15] [] (fun K' hK=>by simp only[go_sem];(repeat (refine⟨ah,?_⟩));exact hK _ (by simp only[go_sem]) (by simp only[go_sem]<;>rfl)) ?_
 repeat refine sq ?_
 refine au rfl rfl (fun hb=>?_) (fun hb=>?_)
 ·repeat refine sq ?_
  have he:fg l p≠0:=by simpa using hb
  repeat refine sq ?_
  refine rx hΓ [4,5] [[43,0]] (fun K' hK=>by simp only[go_sem];(repeat (refine⟨ah,?_⟩));exact hK _ (by simp only[go_sem]) (by simp only[go_sem]<;>rfl)) ?_
  refine ar ?_
  simp only[go_sem]
  first | (rw[pO he];done) | (rw[pO he];rfl) | (rw[ow he,he];done) | (rw[ow he,he];rfl)
 ·repeat refine sq ?_
  have he:fg l p=0:=by simpa using hb
  refine ax ?_
  repeat refine sq ?_
  refine rx hΓ [0,1,7] [[43,0]] (fun K' hK=>by simp only[go_sem];(repeat (refine⟨ah,?_⟩));exact hK _ (by simp only[go_sem]) (by simp only[go_sem]<;>rfl)) ?_
  refine aL (tL 7 [43,0] 1 (by simp only[go_sem]) (by simp only[go_sem]) [0,1,7] [[43,0]] ?_ rfl) ?_
  ·simp only[go_sem]
  simp only[go_sem]
  repeat refine sq ?_
  refine rx hΓ [0,1,7,8] [[43,0]] (fun K' hK=>by simp only[go_sem];(repeat (refine⟨ah,?_⟩));exact hK _ (by simp only[go_sem]) (by simp only[go_sem]<;>rfl)) ?_
  repeat refine sq ?_
  refine aN ?_
  repeat refine sq ?_
  refine cN (fun z:Nat=>[(8,⟨true,.v (vInt z)⟩),(7,⟨true,.msl [43,0] (gm l p z).length⟩)]) (fun z=>[([43,0],.arr 1 ((gm l p z).map vInt))]) (fun z=>z<=l.length) (fun z=>l.length-z) 0 ?_ ?_ ?_ ?_
  ·exact Nat.zero_le _
  ·rfl
  ·rfl
  rintro i hi
  simp only[go_sem]
  repeat refine sq ?_
  refine rx hΓ [0,1,7,8,20] [[43,0]] (fun K' hK=>by simp only[go_sem];(repeat (refine⟨ah,?_⟩));exact hK _ (by simp only[go_sem]) (by simp only[go_sem]<;>rfl)) ?_
  repeat refine sq ?_
  refine au rfl rfl (fun hb=>?_) (fun hb=>?_)
  ·have ae:i<l.length:=by simpa using hb
   have ai:(i:Int)<l.length:=by omega
   clear hb
   have hx:=Hp l p i
   have YT:=(td (yR he).1).1
   have aa:=(gH.1 ((td (yR he).1).2 i ae)).1
   repeat refine sq ?_
   refine ax ?_
   repeat refine sq ?_
   refine aN ?_
   repeat refine sq ?_
   refine rx hΓ [0,1,7,8,10] [[43,0]] (fun K' hK=>by simp only[go_sem,cS ae,Int.toNat_natCast,Int.natCast_nonneg,ai,List.length_map,cS ae,Int.toNat_natCast,Int.natCast_nonneg,ai,List.length_map,List.append_nil];(repeat (refine⟨by first | exact⟨aa.ri,by have:=aa.ln;omega⟩ | exact ah,?_⟩));exact hK _ (by simp only[go_sem]) (by simp only[go_sem]<;>rfl)) ?_
   repeat refine sq ?_
   refine rx hΓ [0,1,7,8,35] [[43,0]] (fun K' hK=>by simp only[go_sem,cS ae,Int.toNat_natCast,Int.natCast_nonneg,ai,List.length_map];(repeat (refine⟨ah,?_⟩));exact hK _ (by simp only[go_sem]) (by simp only[go_sem]<;>rfl)) ?_
   repeat refine sq ?_
   refine au rfl rfl (fun hb=>?_) (fun hb=>?_)
   ·repeat refine sq ?_
    have e:=BE (p:=p) ae (by simpa using hb)
    repeat refine sq ?_
    refine aP hΓ fun K' hK=>?_
    simp only[go_sem,cS ae,Int.toNat_natCast,Int.natCast_nonneg,ai,List.length_map,cS ae,Int.toNat_natCast,Int.natCast_nonneg,ai,List.length_map,List.map_append,List.length_append,List.map_cons,List.map_nil,List.length_cons,List.length_nil]
    repeat (refine⟨by first | exact⟨rfl,by omega,by unfold maxLen;omega⟩ | exact ah,?_⟩)
    refine hK _ ?_
    clear K' hK
    simp only[go_sem]
    refine kp [0,1,7,8] [[43,0]] ?_
    repeat refine sq ?_
    refine aP hΓ fun K' hK=>?_
    simp only[go_sem,cS ae,Int.toNat_natCast,Int.natCast_nonneg,ai,List.length_map]
    repeat (refine⟨ah,?_⟩)
    refine hK _ ?_
    clear K' hK
    simp only[go_sem]
    refine⟨i+1,ae,by(show l.length-(i+1)<l.length-i;omega),?_⟩
    refine bk [0,1,7,8] [[43,0]] ?_ ?_
    ·simp only[go_sem,aF ae hl,Int.natCast_add,Int.natCast_one,e,List.map_append,List.length_append,List.map_cons,List.map_nil,List.length_cons,List.length_nil]
    ·simp only[go_sem,aF ae hl,Int.natCast_add,Int.natCast_one,e,List.map_append,List.length_append,List.map_cons,List.map_nil,List.length_cons,List.length_nil]
   ·repeat refine sq ?_
    have e:=BF (p:=p) ae (by simpa using hb)
    refine ax ?_
    refine cM ?_
    simp only[go_sem]
    refine kp [0,1,7,8] [[43,0]] ?_
    repeat refine sq ?_
    refine aP hΓ fun K' hK=>?_
    simp only[go_sem,cS ae,Int.toNat_natCast,Int.natCast_nonneg,ai,List.length_map]
    repeat (refine⟨ah,?_⟩)
    refine hK _ ?_
    clear K' hK
    simp only[go_sem]
    refine⟨i+1,ae,by(show l.length-(i+1)<l.length-i;omega),?_⟩
    refine bk [0,1,7,8] [[43,0]] ?_ ?_
    ·simp only[go_sem,aF ae hl,Int.natCast_add,Int.natCast_one,e,List.map_append,List.length_append,List.map_cons,List.map_nil,List.length_cons,List.length_nil]
    ·simp only[go_sem,aF ae hl,Int.natCast_add,Int.natCast_one,e,List.map_append,List.length_append,List.map_cons,List.map_nil,List.length_cons,List.length_nil]
  ·have bb:i=l.length:=by
    have :¬ (i:Int)<l.length:=by simpa using hb
    omega
   clear hb
   subst bb
   repeat refine sq ?_
   refine cr ?_
   simp only[go_sem]
   refine kp [7] [[43,0]] ?_
   repeat refine sq ?_
   refine rx hΓ [4,5] [[43,0]] (fun K' hK=>by simp only[go_sem];(repeat (refine⟨ah,?_⟩));exact hK _ (by simp only[go_sem]) (by simp only[go_sem]<;>rfl)) ?_
   refine ar ?_
   simp only[go_sem]
   first | (rw[pO he];done) | (rw[pO he];rfl) | (rw[ow he,he];done) | (rw[ow he,he];rfl)
theorem ahr:ak Tryd.prog 21 S521:=TF.sound
def DE:En Int:=⟨fun k=>.ptr [vInt k],fun v=>match v with | .ptr [.int _ k]=>k | _=>0⟩
def DF:En Int:=⟨fun k=>.clo (.func 57) [] [.ptr [vInt k]],fun v=>match v with | .clo _ _ [.ptr [.int _ k]]=>k | _=>0⟩
attribute [go_sem] DE DF
def iW(k:Int)(d:Dk):Bool:=d.me==k
noncomputable def P106:PSpec:=p2 dE DE (fun _ _=>True) (fun d k=>.bool (iW k d)) true
noncomputable def S106:Spec:=P106.toSpec
attribute [go_sem] P106 S106
theorem Ue:aR Tryd.prog 57 P106:=by
 refine w2 (rs:=[.tmp 3]) Tryd.func57 Tryd.ntmps57 (by rfl) (by kernel_rfl) (by decide) (fun _ _ _=>rfl) ⟨_,rfl,lb rfl,fun d k hp hw=>?_⟩
 have hP:=be
 simp only[DE,dE]at hw |-
 have hΓ:=@kq Tryd.prog
 repeat refine sq ?_
 refine rx hΓ [1,2] [[2,0]] (fun K' hK=>by simp only[go_sem];(repeat (refine⟨ah,?_⟩));exact hK _ (by simp only[go_sem]) (by simp only[go_sem]<;>rfl)) ?_
 refine aL (cG [2,0] (an d) rfl [1,2] [[2,0]] ?_ rfl) ?_
 ·simp only[go_sem]
 simp only[go_sem]
 repeat refine sq ?_
 refine rx hΓ [3] [] (fun K' hK=>by simp only[go_sem];(repeat (refine⟨ah,?_⟩));exact hK _ (by simp only[go_sem]) (by simp only[go_sem]<;>rfl)) ?_
 refine ar ?_
 simp only[go_sem]
 all_goals first | rfl | (simp;done) | (simp_all;done)
theorem Yc:ak Tryd.prog 57 S106:=Ue.sound
noncomputable def G8:List (Nat×Spec):=[(57,S106)]
theorem adl:∀ f s,tbl G8 f=some s->ak Tryd.prog f s:=tc Yc<|tn
attribute [go_sem] G8
noncomputable def P105:PSpec:=p2 iY DF (fun _ _=>True) (fun l k=>vInt (fj (iW k) l)) true
noncomputable def S105:Spec:=P105.toSpec
attribute [go_sem] P105 S105
set_option maxHeartbeats 4000000 in
theorem Uf:aR Tryd.prog 56 P105:=by
 refine w2 (rs:=[.tmp 4]) Tryd.func56 Tryd.ntmps56 (by rfl) (by kernel_rfl) (by decide) (fun _ _ _=>rfl) ⟨_,rfl,lb rfl,fun l x hp hw=>?_⟩
 have hP:=be
 simp only[DF,iY]at hw |-
 have hl:l.length<=maxLen:=by have:=hw.1.1;simpa using this
 obtain⟨Γ,sG,hΓ,hs,hg⟩:∃ (Γ:FuncId->Option Spec) (sG:Spec),(∀ f s,Γ f=some s->ak Tryd.prog f s)/\Γ 57=some sG/\
  ∀ (obj:Name->Option O) (t:Name) (d:Dk),sG.app obj t [.v (.agg (an d)),.v (.ptr [vInt x])]=⟨True,.v (.bool (iW x d)),obj⟩:=⟨tbl G8,S106,adl,rfl,fun obj t d=>by simp only[go_sem]⟩
 repeat refine sq ?_
 refine rx hΓ [0,1] [] (fun K' hK=>by simp only[go_sem];(repeat (refine⟨ah,?_⟩));exact hK _ (by simp only[go_sem]) (by simp only[go_sem]<;>rfl)) ?_
 repeat refine sq ?_
 refine rx hΓ [0,1,7,8] [] (fun K' hK=>by simp only[go_sem];(repeat (refine⟨ah,?_⟩));exact hK _ (by simp only[go_sem]) (by simp only[go_sem]<;>rfl)) ?_
 repeat refine sq ?_
 refine aN ?_
 repeat refine sq ?_
 refine cN (fun z:Nat=>[(8,⟨true,.v (vInt z)⟩)]) (fun z=>[]) (fun z=>z<=l.length/\∀ k (h:k<l.length),k<z->iW x l[k]=false) (fun z=>l.length-z) 0 ?_ ?_ ?_ ?_
 ·exact⟨Nat.zero_le _,fun k h hk=>absurd hk (by omega)⟩
 ·rfl
 ·rfl
 rintro i ⟨hi,hR⟩
 simp only[go_sem]
 repeat refine sq ?_
 refine rx hΓ [0,1,7,8,9] [] (fun K' hK=>by simp only[go_sem];(repeat (refine⟨ah,?_⟩));exact hK _ (by simp only[go_sem]) (by simp only[go_sem]<;>rfl)) ?_
 repeat refine sq ?_
 refine au rfl rfl (fun hb=>?_) (fun hb=>?_)
 ·have ae:i<l.length:=by simpa using hb
  have ai:(i:Int)<l.length:=by omega
  clear hb
  repeat refine sq ?_
  refine ax ?_
  repeat refine sq ?_
  refine aN ?_
  repeat refine sq ?_
  refine rx hΓ [0,1,5,7,8] [] (fun K' hK=>by simp only[go_sem,aJ ae,Int.toNat_natCast,Int.natCast_nonneg,ai];(repeat (refine⟨ah,?_⟩));exact hK _ (by simp only[go_sem]) (by simp only[go_sem]<;>rfl)) ?_
  repeat refine sq ?_
  refine rx hΓ [0,1,5,7,8,16] [] (fun K' hK=>by simp only[go_sem,aJ ae,Int.toNat_natCast,Int.natCast_nonneg,ai,cS ae,hs,hg,Int.toNat_natCast,Int.natCast_nonneg,ai,List.length_map];(repeat (refine⟨ah,?_⟩));exact hK _ (by simp only[go_sem]) (by simp only[go_sem]<;>rfl)) ?_
  repeat refine sq ?_
  refine au rfl rfl (fun hb=>?_) (fun hb=>?_)
  ·repeat refine sq ?_
   refine rx hΓ [4] [] (fun K' hK=>by simp only[go_sem,aJ ae,Int.toNat_natCast,Int.natCast_nonneg,ai];(repeat (refine⟨ah,?_⟩));exact hK _ (by simp only[go_sem]) (by simp only[go_sem]<;>rfl)) ?_
   refine ar ?_
   simp only[go_sem]
   rw[zJ (p:=iW x) ae (by simpa using hb) hR]
  ·repeat refine sq ?_
   refine ax ?_
   refine cM ?_
   simp only[go_sem]
   refine kp [0,1,7,8] [] ?_
   repeat refine sq ?_
   refine aP hΓ fun K' hK=>?_
   simp only[go_sem,aJ ae,Int.toNat_natCast,Int.natCast_nonneg,ai]
   repeat (refine⟨ah,?_⟩)
   refine hK _ ?_
   clear K' hK
   simp only[go_sem]
   refine⟨i+1,⟨ae,?_⟩,by(show l.length-(i+1)<l.length-i;omega),?_⟩
   ·intro k hk jV
    rcases Nat.lt_succ_iff_lt_or_eq.1 jV with h5 | rfl
    ·exact hR k hk h5
    ·simpa using hb
   refine bk [0,1,7,8] [] ?_ ?_
   ·simp only[go_sem,aF ae hl,Int.natCast_add,Int.natCast_one]
   ·simp only[go_sem,aF ae hl,Int.natCast_add,Int.natCast_one]
 ·have bb:i=l.length:=by
   have :¬ (i:Int)<l.length:=by simpa using hb
   omega
  clear hb
  subst bb
  repeat refine sq ?_
  refine cr ?_
  simp only[go_sem]
  refine kp [] [] ?_
  repeat refine sq ?_
  refine rx hΓ [4] [] (fun K' hK=>by simp only[go_sem];(repeat (refine⟨ah,?_⟩));exact hK _ (by simp only[go_sem]) (by simp only[go_sem]<;>rfl)) ?_
  refine ar ?_
  simp only[go_sem]
  rw[DB (p:=iW x) fun k hk=>hR k hk hk]
theorem Yd:ak Tryd.prog 56 S105:=Uf.sound
def vP(l:List Dk)(k:Int)(f:Nat):Int:=if fj (iW k) l<0 then -1 else(l.getD (fj (iW k) l).toNat default).now.ta.get f
def mW(l:List Dk)(p:Int)(d:Dk)(k:Nat)(q:Par):Bool:=q.pa==p&&decide (q.no>vP l k d.me.toNat)
def s7(a:Int×Int):V:=.agg [vInt a.1,vInt a.2]
attribute [go_sem] s7
def iO(l:List Dk)(p:Int)(d:Dk)(k z:Nat):List (Int×Int):=(((d.now.un.get k).take z).filter (mW l p d k)).map fun _=>(d.me,(k:Int))
def lB(l:List Dk)(p:Int)(d:Dk):Nat->List (Int×Int)
 | 0=>[]
 |k+1=>lB l p d k++iO l p d k (d.now.un.get k).length
def fH(l:List Dk)(p:Int):Nat->List (Int×Int)
 | 0=>[]
 |i+1=>fH l p i++lB l p (l.getD i default) 6
theorem abM{l:List Dk}{p:Int}{d:Dk}{k z:Nat}(h:z<(d.now.un.get k).length)(hq:mW l p d k (d.now.un.get k)[z]=true):iO l p d k (z+1)=iO l p d k z++[(d.me,(k:Int))]:=by
 unfold iO
 rw[List.take_add_one,List.getElem?_eq_getElem h,List.filter_append,List.map_append]
 show _++(List.filter _ [_]).map _=_
 rw[List.filter_cons_of_pos hq]
 rfl
theorem abN{l:List Dk}{p:Int}{d:Dk}{k z:Nat}(h:z<(d.now.un.get k).length)(hq:mW l p d k (d.now.un.get k)[z]=false):iO l p d k (z+1)=iO l p d k z:=by
 unfold iO
 rw[List.take_add_one,List.getElem?_eq_getElem h,List.filter_append,List.map_append]
 show _++(List.filter _ [_]).map _=_
 rw[List.filter_cons_of_neg (by rw[hq];decide)]
 simp
theorem Ox{l:List Dk}{p:Int}{d:Dk}{k z:Nat}(h:(d.now.un.get k).length<=40):(iO l p d k z).length<=40:=by
 unfold iO
 rw[List.length_map]
 refine Nat.le_trans (List.length_filter_le _ _) ?_
 rw[List.length_take];omega
theorem Gs{l:List Dk}{p:Int}{d:Dk}(h:∀ k,k<6->(d.now.un.get k).length<=40):∀ k,k<=6->(lB l p d k).length<=40*k
 | 0,_=>by simp[lB]
 |k+1,hk=>by
  have :=Gs (l:=l) (p:=p) h k (by omega)
  have h2:=Ox (l:=l) (p:=p) (z:=(d.now.un.get k).length) (h k (by omega))
  simp only[lB,List.length_append]
  omega
theorem Oy{l:List Dk}{p:Int}(h:dd l=true):∀ i,i<=l.length->(fH l p i).length<=240*i
 | 0,_=>by simp[fH]
 |i+1,hi=>by
  have :=Oy (p:=p) h i (by omega)
  have hg:l.getD i default=l[i]'(by omega):=getD_at (by omega)
  have aa:=(gH.1 ((td h).2 i (by omega))).1
  have h2:=Gs (l:=l) (p:=p) (d:=l[i]'(by omega)) (fun k hk=>(aa.un k hk).2) 6 (Nat.le_refl _)
  simp only[fH,List.length_append,hg]
  omega
def vz(l:List Dk)(p:Int):List (Int×Int):=if fg l p=0 then fH l p l.length else[]
theorem xL{l:List Dk}{p:Int}(h:fg l p=0):vz l p=fH l p l.length:=if_pos h
theorem AX{l:List Dk}{p:Int}(h:fg l p≠0):vz l p=[]:=if_neg h
theorem Bx{α β:Type}(s:aS α)(e:α->β){k:Nat}(h:k<6):List.take 1 (List.drop k (s.L e))=[e (s.get k)]:=by
 match k,h with
 | 0,_ | 1,_ | 2,_ | 3,_ | 4,_ | 5,_=>rfl
theorem Bw(s:aS Int){k:Nat}(h:k<6):List.take 1 (List.drop k ((s.L id).map vInt))=[vInt (s.get k)]:=by
 match k,h with
 | 0,_ | 1,_ | 2,_ | 3,_ | 4,_ | 5,_=>rfl
theorem aa'(d:Dk):((an d).drop 2).take 6=d.now.un.L rowP:=rfl
theorem YC{l:List Dk}{k:Int}(h:¬ fj (iW k) l<0):∃ j:Nat,fj (iW k) l=(j:Int)/\j<l.length:=by
 unfold fj at h |-
 split
 ·next ha=>
  rw[List.any_eq_true]at ha
  obtain⟨x,hx,hp⟩:=ha
  exact⟨_,rfl,List.findIdx_lt_length_of_exists ⟨x,hx,hp⟩⟩
 ·next ha=>rw[if_neg ha]at h;exact absurd (show (-1:Int)<0 by decide) h
theorem RN{l:List Dk}{k:Int}{f:Nat}(h:fj (iW k) l<0):vP l k f= -1:=if_pos h
theorem HA{l:List Dk}{k:Int}{f j:Nat}(h:fj (iW k) l=(j:Int))(hj:j<l.length):vP l k f=l[j].now.ta.get f:=by
 unfold vP
 rw[h,if_neg (by omega),Int.toNat_natCast,getD_at hj]
theorem agS(l:List (Int×Int)):(l.map s7).length=l.length:=List.length_map ..
def gj(l:List Dk)(p:Int)(c:List (Int×Int))(d:Dk)(k z:Nat):List (Int×Int):=c++(lB l p d k++iO l p d k z)
theorem abL(l:List Dk)(p:Int)(c:List (Int×Int))(d:Dk):gj l p c d 0 0=c:=by
 unfold gj iO;simp[lB]
theorem abJ(l:List Dk)(p:Int)(c:List (Int×Int))(d:Dk)(k:Nat):gj l p c d (k+1) 0=gj l p c d k (d.now.un.get k).length:=by
 unfold gj
 rw[show lB l p d (k+1)=lB l p d k++iO l p d k (d.now.un.get k).length from rfl,show iO l p d (k+1) 0=[]from by unfold iO;simp,List.append_nil]
theorem Ov{l:List Dk}{p:Int}(c:List (Int×Int)){d:Dk}{k z:Nat}(h:z<(d.now.un.get k).length)(hq:mW l p d k (d.now.un.get k)[z]=true):gj l p c d k (z+1)=gj l p c d k z++[(d.me,(k:Int))]:=by
 unfold gj
 rw[abM h hq,List.append_assoc,List.append_assoc]
theorem Ow{l:List Dk}{p:Int}(c:List (Int×Int)){d:Dk}{k z:Nat}(h:z<(d.now.un.get k).length)(hq:mW l p d k (d.now.un.get k)[z]=false):gj l p c d k (z+1)=gj l p c d k z:=by
 unfold gj
 rw[abN h hq]
theorem abK{l:List Dk}{p:Int}{i:Nat}(h:i<l.length):fH l p (i+1)=gj l p (fH l p i) l[i] 6 0:=by
 unfold gj
 rw[show fH l p (i+1)=fH l p i++lB l p (l.getD i default) 6 from rfl,getD_at h,show iO l p l[i] 6 0=[]from by unfold iO;simp,List.append_nil]
theorem abI{l:List Dk}{p:Int}(h:dd l=true){i k z:Nat}(hi:i<l.length)(hk:k<6):(gj l p (fH l p i) l[i] k z).length<=10000:=by
 have a:=Oy (p:=p) h i (by omega)
 have aa:=(gH.1 ((td h).2 i hi)).1
 have b:=Gs (l:=l) (p:=p) (d:=l[i]) (fun k hk=>(aa.un k hk).2) k (by omega)
 have c:=Ox (l:=l) (p:=p) (z:=z) (aa.un k hk).2
 have d:=(td h).1
 unfold gj
 rw[List.length_append,List.length_append]
 omega
end Go.Eng
