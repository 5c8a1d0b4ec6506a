import Derived.Test.YtckmfkgppohnmaaDoorK14
import Derived.Test.YtckmfkgppohnmaaDoorProg
/- Texts NW50 to NW83. -/
set_option linter.all false
namespace Go.Eng
open Go Go.Proofs
theorem zW{l:List Int}(h:ft l=true):l.Pairwise (· < ·):=by
 unfold ft at h
 rw[Bool.and_eq_true,gx]at h
 have h1:∀ i (hi:i+1<l.length),l[i]'(by omega)<l[i+1]:=fun i hi=>by
  have :=h.1 (i+1) hi
  unfold jC at this
  simp only[Bool.and_eq_true,Bool.or_eq_true,decide_eq_true_eq,Nat.add_sub_cancel]at this
  rw[getD_at (show i<l.length by omega),getD_at hi]at this
  rcases this.2 with h2 | h2
  ·simp at h2
  ·exact h2
 refine List.pairwise_iff_getElem.2 fun i j hi hj gm=>?_
 induction j with
 |zero=>omega
 |succ j ih=>
  rcases Nat.lt_succ_iff_lt_or_eq.1 gm with h2 | rfl
  ·have:=ih (by omega) h2
   have :=h1 j hj
   omega
  ·exact h1 i hj
theorem JS(l:List Int)(p:Int):gd l p l.length=l.filter fun x=>x != p:=by
 unfold gd;rw[List.take_length]
theorem Wu{l:List Int}{p:Int}(h:∀ y∈l,p<y):l.filter (fun x=>x != p)=l:=by
 rw[List.filter_eq_self]
 intro y hy
 have :=h y hy
 simp only[bne_iff_ne,ne_eq]
 omega
theorem J2:∀ {l:List Int} {p:Int},l.Pairwise (· < ·)->bQ l p=true->l.eraseIdx (bz l p)=l.filter (fun x=>x != p)/\bz l p<l.length
 |[],p,_,h=>by simp[bQ]at h
 |a::r,p,hs,h=>by
  rw[List.pairwise_cons]at hs
  by_cases ha:a=p
  ·subst ha
   have h0:bz (a::r) a=0:=by
    unfold bz
    rw[List.takeWhile_cons_of_neg (by simp)];rfl
   rw[h0]
   have hf:List.filter (fun x=>x != a) (a::r)=List.filter (fun x=>x != a) r:=by simp
   rw[hf,Wu hs.1]
   exact⟨rfl,by simp⟩
  ·have hr:bQ r p=true:=by
     unfold bQ at h |-
     rw[List.contains_iff_mem]at h |-
     rcases List.mem_cons.1 h with h1 | h1
     ·exact absurd h1.symm ha
     ·exact h1
   have ae:a<p:=hs.1 p (by unfold bQ at hr;rwa [List.contains_iff_mem]at hr)
   obtain⟨h1,h2⟩:=J2 hs.2 hr
   have h0:bz (a::r) p=bz r p+1:=by
    unfold bz
    rw[List.takeWhile_cons_of_pos (by simpa using ae)];rfl
   rw[h0]
   have hf:List.filter (fun x=>x != p) (a::r)=a::List.filter (fun x=>x != p) r:=by simp[ha]
   rw[hf,List.eraseIdx_cons_succ,h1]
   exact⟨rfl,by simpa using h2⟩
theorem Jk{d:Dk}{p:Int}:bQ d.now.ho p=!ny d p:=by
 unfold ny
 rw[JS]
 cases h:bQ d.now.ho p with
 |true=>
  have hlen:¬ (d.now.ho.filter fun x=>x != p).length=d.now.ho.length:=by
   intro he
   have h1:=List.filter_eq_self.1 (List.length_filter_eq_length_iff.1 he |> fun hh=>List.filter_eq_self.2 hh)
   unfold bQ at h
   rw[List.contains_iff_mem]at h
   have :=h1 p h
   simp at this
  rw[decide_eq_false hlen];rfl
 |false=>
  have dv:(d.now.ho.filter fun x=>x != p)=d.now.ho:=by
   rw[List.filter_eq_self]
   intro y hy
   simp only[bne_iff_ne,ne_eq]
   rintro rfl
   unfold bQ at h
   have :=List.contains_iff_mem.2 hy
   rw[h]at this;cases this
  rw[dv,decide_eq_true rfl];rfl
theorem WS(l:List Int)(i:Nat):(l.map vInt).eraseIdx i=(l.eraseIdx i).map vInt:=by
 rw[List.eraseIdx_eq_take_drop_succ,List.eraseIdx_eq_take_drop_succ,List.map_append,List.map_take,List.map_drop]
attribute [go_sem] cH S54 vq
@[go_sem] theorem afb(f:Name->Name)(d:Dk)(j:Nat)(hd:D)(nm:Name)(n:Nat)(se:Int):D.renL f (bG d j hd nm n se)=bG d j (hd.ren f) (f nm) n se:=by
  unfold bG
  rw[gl,List.map_set,List.map_set,List.map_set,List.map_map]
  rfl
noncomputable def Mp(j:Nat):List (Nat×Spec):=[(39,S23),(40,S50),(41,S51),(42,S52),(43,DN j),(44,S54)]
attribute [go_sem] Mp
theorem YM{j:Nat}(hj:j<6):∀ f s,tbl (Mp j) f=some s->ak Tryd.prog f s:=tc n0<|tc AO<|tc AN<|tc H5<|tc (Tv j hj)<|tc H4<|tn
noncomputable def P8:PSpec:=p3 dK iI iI (fun d _ _=>gM d) (fun d p t=>.tup [fM (kK d p t),vInt (fm d p t)]) false
noncomputable def S8:Spec:=P8.toSpec
attribute [go_sem] P8 S8
set_option maxHeartbeats 4000000 in
theorem s8:aR Tryd.prog 14 P8:=by
 refine w3 (rs:=[.cell 6 44,.tmp 7]) Tryd.func14 Tryd.ntmps14 (by rfl) (by kernel_rfl) (by decide) (fun h=>by cases h) ⟨_,rfl,lb rfl,fun d p t hp hw=>?_⟩
 have hP:=bc
 simp only[dK,iI]at hw |-
 obtain⟨j,hj,jI⟩:=Qy d t
 have hΓ:=YM hj
 have hs:gM d:=hp
 repeat refine sq ?_
 refine rx hΓ [1,2,3,6] [[3,0],[6,0]] (fun K' hK=>by simp only[go_sem];(repeat (refine⟨ah,?_⟩));exact hK _ (by simp only[go_sem]) (by simp only[go_sem]<;>rfl)) ?_
 refine bq (oZ [6,0] _ (aq zD) rfl rfl [1,2,3,6] [[3,0],[6,0]] ?_ rfl) ?_
 ·simp only[go_sem]
 simp only[go_sem]
 refine bq (dd [3,0] (aq d) rfl [1,2,3,6] [[3,0],[6,0]] ?_ rfl) ?_
 ·simp only[go_sem]
 simp only[go_sem]
 repeat refine sq ?_
 refine rx hΓ [1,2,3,6,8] [[3,0],[6,0]] (fun K' hK=>by simp only[go_sem];(repeat (refine⟨ah,?_⟩));exact hK _ (by simp only[go_sem]) (by simp only[go_sem]<;>rfl)) ?_
 repeat refine sq ?_
 refine rx hΓ [1,2,3,6,8,16] [[3,0],[6,0]] (fun K' hK=>by simp only[go_sem];(repeat (refine⟨ah,?_⟩));exact hK _ (by simp only[go_sem]) (by simp only[go_sem]<;>rfl)) ?_
 repeat refine sq ?_
 refine ax rfl rfl (fun hb=>?_) (fun hb=>?_)
 ·repeat refine sq ?_
  have hd:=sr hb
  have hq:=OB (p:=p) (t:=t) hd
  have e1:=jR hd
  repeat refine sq ?_
  refine rx hΓ [6,7] [[6,0]] (fun K' hK=>by simp only[go_sem];(repeat (refine⟨ah,?_⟩));exact hK _ (by simp only[go_sem]) (by simp only[go_sem]<;>rfl)) ?_
  refine av ?_
  simp only[go_sem]
  first | (rw[hq.1,hq.2];done) | (rw[hq.1,hq.2];rfl) | (rw[hq.1,hq.2,e1];done) | (rw[hq.1,hq.2,e1];rfl)
 ·repeat refine sq ?_
  have hd:=sp hb
  refine aC ?_
  repeat refine sq ?_
  refine rx hΓ [1,2,3,6,21] [[3,0],[6,0]] (fun K' hK=>by simp only[go_sem];(repeat (refine⟨ah,?_⟩));exact hK _ (by simp only[go_sem]) (by simp only[go_sem]<;>rfl)) ?_
  repeat refine sq ?_
  refine ax rfl rfl (fun hb=>?_) (fun hb=>?_)
  ·repeat refine sq ?_
   have h1:aM p 1 999=false:=by simpa using hb
   have hq:=OE (t:=t) hd h1
   repeat refine sq ?_
   refine rx hΓ [6,7] [[6,0]] (fun K' hK=>by simp only[go_sem];(repeat (refine⟨ah,?_⟩));exact hK _ (by simp only[go_sem]) (by simp only[go_sem]<;>rfl)) ?_
   refine av ?_
   simp only[go_sem]
   first | (rw[hq.1,hq.2];done) | (rw[hq.1,hq.2];rfl) | (rw[hq.1,hq.2,e1];done) | (rw[hq.1,hq.2,e1];rfl)
  ·repeat refine sq ?_
   have h1:aM p 1 999=true:=by simpa using hb
   refine aC ?_
   repeat refine sq ?_
   refine rx hΓ [1,2,3,6,9] [[3,0],[6,0]] (fun K' hK=>by simp only[go_sem];(repeat (refine⟨ah,?_⟩));exact hK _ (by simp only[go_sem]) (by simp only[go_sem]<;>rfl)) ?_
   repeat refine sq ?_
   refine rx hΓ [1,2,3,6,9,27] [[3,0],[6,0]] (fun K' hK=>by simp only[go_sem];(repeat (refine⟨ah,?_⟩));exact hK _ (by simp only[go_sem]) (by simp only[go_sem]<;>rfl)) ?_
   repeat refine sq ?_
   refine ax rfl rfl (fun hb=>?_) (fun hb=>?_)
   ·repeat refine sq ?_
    have hn:=LO hb
    have h2:eB d t=false:=by unfold nz at hn;rw[hd]at hn;simpa using hn
    have hq:=Oz hd h1 h2
    have e1:=vn hd h2
    repeat refine sq ?_
    refine rx hΓ [6,7] [[6,0]] (fun K' hK=>by simp only[go_sem];(repeat (refine⟨ah,?_⟩));exact hK _ (by simp only[go_sem]) (by simp only[go_sem]<;>rfl)) ?_
    refine av ?_
    simp only[go_sem]
    first | (rw[hq.1,hq.2];done) | (rw[hq.1,hq.2];rfl) | (rw[hq.1,hq.2,e1];done) | (rw[hq.1,hq.2,e1];rfl)
   ·repeat refine sq ?_
    obtain⟨_,h2⟩:=LP hb
    obtain⟨tP,tO,_⟩:=yZ h2
    have r4:=jI h2
    have aa:=Ac hd
    have hol:=aa.hol
    have tM:=aa.unl j hj
    have j8:=aa.se j hj
    have Iu:d.now.ho.Pairwise (· < ·):=by
     have hh:=hd
     unfold aF gp cf at hh
     simp only[Bool.and_eq_true]at hh
     exact zW hh.1.1.1.1.1.1.2
    refine aC ?_
    repeat refine sq ?_
    refine rx hΓ [1,2,3,6,10,11] [[3,0],[6,0]] (fun K' hK=>by simp only[go_sem,Iu];(repeat (refine⟨ah,?_⟩));exact hK _ (by simp only[go_sem]) (by simp only[go_sem]<;>rfl)) ?_
    repeat refine sq ?_
    refine aJ ?_
    repeat refine sq ?_
    refine rx hΓ [1,2,3,6,10,38] [[3,0],[6,0]] (fun K' hK=>by simp only[go_sem];(repeat (refine⟨ah,?_⟩));exact hK _ (by simp only[go_sem]) (by simp only[go_sem]<;>rfl)) ?_
    repeat refine sq ?_
    refine ax rfl rfl (fun hb=>?_) (fun hb=>?_)
    ·repeat refine sq ?_
     have h3:ny d p=true:=by have h4:=Jk (d:=d) (p:=p);(have h5:bQ d.now.ho p=false:=by simpa using hb);rw[h5]at h4;simpa using h4.symm
     have hq:=OD hd h1 h2 h3
     repeat refine sq ?_
     refine rx hΓ [6,7] [[6,0]] (fun K' hK=>by simp only[go_sem];(repeat (refine⟨ah,?_⟩));exact hK _ (by simp only[go_sem]) (by simp only[go_sem]<;>rfl)) ?_
     refine av ?_
     simp only[go_sem]
     first | (rw[hq.1,hq.2];done) | (rw[hq.1,hq.2];rfl) | (rw[hq.1,hq.2,e1];done) | (rw[hq.1,hq.2,e1];rfl)
    ·repeat refine sq ?_
     have h5:bQ d.now.ho p=true:=by simpa using hb
     have h3:ny d p=false:=by have h4:=Jk (d:=d) (p:=p);rw[h5]at h4;simpa using h4.symm
     obtain⟨g1,g2⟩:=J2 Iu h5
     have g3:(List.map vInt d.now.ho).eraseIdx (bz d.now.ho p)=(gd d.now.ho p d.now.ho.length).map vInt:=by rw[WS,g1,JS]
     have g4:IntKind.i64.wrap ((bz d.now.ho p:Int)+1)=(bz d.now.ho p:Int)+1:=wrap_i64 (by omega) (by omega)
     repeat refine sq ?_
     refine rx hΓ [1,2,3,6,10,42] [[3,0],[6,0]] (fun K' hK=>by simp only[go_sem,r4,tP,tO,WM d hj,WO d hj];(repeat (refine⟨ah,?_⟩));exact hK _ (by simp only[go_sem]) (by simp only[go_sem]<;>rfl)) ?_
     repeat refine sq ?_
     refine ax rfl rfl (fun hb=>?_) (fun hb=>?_)
     ·repeat refine sq ?_
      have h4:mJ d t=true:=by unfold mJ;rw[r4];exact hb
      have hq:=OC hd h1 h2 h3 h4
      repeat refine sq ?_
      refine rx hΓ [6,7] [[6,0]] (fun K' hK=>by simp only[go_sem];(repeat (refine⟨ah,?_⟩));exact hK _ (by simp only[go_sem]) (by simp only[go_sem]<;>rfl)) ?_
      refine av ?_
      simp only[go_sem]
      first | (rw[hq.1,hq.2];done) | (rw[hq.1,hq.2];rfl) | (rw[hq.1,hq.2,e1];done) | (rw[hq.1,hq.2,e1];rfl)
     ·repeat refine sq ?_
      have h4:mJ d t=false:=by unfold mJ;rw[r4];exact hb
      have hq:=OA hd h1 h2 h3 h4
      rw[r4]at hq
      have w1:IntKind.i64.wrap (d.now.se.get j+1)=d.now.se.get j+1:=by have:=j8;exact wrap_i64 (by have:=j8.1;omega) (by have:=j8.2;omega)
      refine aC ?_
      refine cX ?_
      simp only[go_sem]
      refine kp [1,2,3,6,10] [[3,0],[6,0]] ?_
      repeat refine sq ?_
      refine rx hΓ [1,2,6,10,12] [[6,0],[22,0,60,0],[12,0,5,0,60,0],[99,0,5,0,60,0]] (fun K' hK=>by simp only[go_sem,hs];(repeat (refine⟨ah,?_⟩));exact hK _ (by simp only[go_sem]) (by simp only[go_sem]<;>rfl)) ?_
      repeat refine sq ?_
      refine rx hΓ [1,2,6,12] [[6,0],[22,0,60,0],[12,0,5,0,60,0],[99,0,5,0,60,0]] (fun K' hK=>by simp only[go_sem,g4,g3,Int.toNat_natCast];(repeat (refine⟨ah,?_⟩));exact hK _ (by simp only[go_sem]) (by simp only[go_sem]<;>rfl)) ?_
      repeat refine sq ?_
      refine dx hΓ hP [[],[],[0],[0,2],[0,2,3],[0,2,3,4],[0,1,2,3,4,5],[0,1,2,3,4,5,6],[0,1,2,3,4,5,6,7],[0],[0,9],[0,9,10],[0,9,10,11],[0,1,2,3,4,5,6,7,8,9,10,11,12],[0,1,2,3,4,5,6,7,8,9,10,11,12,13]] [1,2,6,12] [[6,0],[22,0,60,0],[12,0,5,0,60,0],[99,0,5,0,60,0]] (by kernel_rfl) (fun K' hK=>by simp only[go_sem,r4,tP,tO,Lb d _ _ _ _ hj,XD d _ _ _ _ _ hj,w1];(repeat (refine⟨ah,?_⟩));(first | refine⟨by rfl,?_⟩ | skip);exact hK _ (by simp only[go_sem]) (by simp only[go_sem]<;>rfl)) ?_
      repeat refine sq ?_
      refine dx hΓ hP [[],[],[],[],[2],[2,4],[2,4,5],[2,4,5,6],[2,3,4,5,6,7],[2,3,4,5,6,7,8],[],[],[10],[10,12],[10,12,13],[10,12,13,14],[10,11,12,13,14,15],[10,11,12,13,14,15,16],[],[10,11,12,13,14,15,16,17,18],[10,11,12,13,14,15,16,17,18,19],[2,3,4,5,6,7,8,9,10,11,12,13,14,15,16,17,18,19,20],[0],[0,22],[0,22,23],[0,22,23,24],[0,1,2,3,4,5,6,7,8,9,10,11,12,13,14,15,16,17,18,19,20,21,22,23,24,25],[0,1,2,3,4,5,6,7,8,9,10,11,12,13,14,15,16,17,18,19,20,21,22,23,24,25,26]] [6,12] [[6,0],[22,0,60,0],[12,0,5,0,60,0],[99,0,5,0,60,0]] (by kernel_rfl) (fun K' hK=>by simp only[go_sem,r4,tP,tO,Lb d _ _ _ _ hj,XE d _ _ _ _ hj,XB d _ _ _ _ _ hj];(repeat (refine⟨ah,?_⟩));(first | refine⟨by rfl,?_⟩ | skip);exact hK _ (by simp only[go_sem]) (by simp only[go_sem]<;>rfl)) ?_
      refine bq (D9 [22,0,60,0] [99,0,5,0,60,0] (2+j) _ _ _ _ rfl (Le _ _ _ _ _ hj) rfl (by simp only[List.length_append,List.length_map,List.length_cons,List.length_nil]) [6,12] [[6,0],[22,0,60,0]] ?_ rfl) ?_
      ·simp only[go_sem,Lc d _ _ _ _ _ _ _ hj]
      simp only[go_sem,Lc d _ _ _ _ _ _ _ hj]
      repeat refine sq ?_
      refine rx hΓ [6,7] [[6,0]] (fun K' hK=>by simp only[go_sem];(repeat (refine⟨ah,?_⟩));exact hK _ (by simp only[go_sem]) (by simp only[go_sem]<;>rfl)) ?_
      refine av ?_
      simp only[go_sem]
      first | (rw[hq.1,hq.2];done) | (rw[hq.1,hq.2];rfl) | (rw[hq.1,hq.2,e1];done) | (rw[hq.1,hq.2,e1];rfl)
theorem k8:ak Tryd.prog 14 S8:=s8.sound
def dJ(l:List Int)(x:Int):List Int:=l.take (bz l x)++[x]++l.drop (bz l x)
def fv(l:List Int)(x:Int)(i:Nat):List Int:=if bz l x<i then l.take (bz l x)++[x]++(l.take i).drop (bz l x)else l.take i
theorem wI(l:List Int)(x:Int):bz l x<=l.length:=by
 unfold bz
 exact(List.takeWhile_prefix _).length_le
theorem Al:∀ {l:List Int} {x:Int},l.Pairwise (· < ·)->∀ {i:Nat} (hi:i<l.length),l[i] <x↔i<bz l x
 |[],x,_,i,hi=>by simp at hi
 |a::r,x,hs,i,hi=>by
  rw[List.pairwise_cons]at hs
  by_cases ha:a<x
  ·have h0:bz (a::r) x=bz r x+1:=by
     unfold bz
     rw[List.takeWhile_cons_of_pos (by simpa using ha)];rfl
   rw[h0]
   cases i with
   |zero=>simp[ha]
   |succ i=>
    have :=Al (x:=x) hs.2 (i:=i) (by simpa using hi)
    simp only[List.getElem_cons_succ,this]
    omega
  ·have h0:bz (a::r) x=0:=by
     unfold bz
     rw[List.takeWhile_cons_of_neg (by simpa using ha)];rfl
   rw[h0]
   cases i with
   |zero=>simp;omega
   |succ i=>
    have :=hs.1 (r[i]'(by simpa using hi)) (List.getElem_mem _)
    simp only[List.getElem_cons_succ]
    omega
theorem ade(l:List Int)(x:Int):fv l x 0=[]:=by
 unfold fv;rw[if_neg (by omega)];rfl
theorem QN{l:List Int}{x:Int}{i:Nat}(hi:i<l.length)(h:i=bz l x):fv l x i++[x]++[l[i]]=fv l x (i+1):=by
 unfold fv
 rw[if_neg (by omega),if_pos (by omega),<-h,List.take_add_one,List.getElem?_eq_getElem hi,List.drop_append_of_le_length (by rw[List.length_take];omega)]
 rw[List.drop_of_length_le (by rw[List.length_take];omega)]
 simp
theorem QJ{l:List Int}{x:Int}{i:Nat}(hi:i<l.length)(h:i<bz l x):fv l x i++[l[i]]=fv l x (i+1):=by
 unfold fv
 rw[if_neg (by omega),if_neg (by omega),List.take_add_one,List.getElem?_eq_getElem hi];rfl
theorem QK{l:List Int}{x:Int}{i:Nat}(hi:i<l.length)(h:bz l x<i):fv l x i++[l[i]]=fv l x (i+1):=by
 unfold fv
 rw[if_pos h,if_pos (by omega),List.take_add_one,List.getElem?_eq_getElem hi,List.drop_append_of_le_length (by rw[List.length_take];omega)]
 simp
theorem QM{l:List Int}{x:Int}(h:bz l x<l.length):fv l x l.length=dJ l x:=by
 unfold fv dJ
 rw[if_pos h,List.take_length]
theorem QL{l:List Int}{x:Int}(h:¬ bz l x<l.length):fv l x l.length++[x]=dJ l x:=by
 have he:bz l x=l.length:=by have:=wI l x;omega
 unfold fv dJ
 rw[if_neg h,he,List.take_length,List.drop_length,List.append_nil]
theorem FL{l:List Int}{x:Int}{i:Nat}(hi:i<=l.length):(fv l x i).length<=i+1:=by
 unfold fv
 split
 ·simp only[List.length_append,List.length_take,List.length_drop,List.length_cons,List.length_nil]
  omega
 ·rw[List.length_take];omega
theorem TZ(l:List Int)(x:Int):(dJ l x).length=l.length+1:=by
 have :=wI l x
 unfold dJ
 simp only[List.length_append,List.length_take,List.length_drop,List.length_cons,List.length_nil]
 omega
def zL(l:List Int)(x:Int):List Int:=if bQ l x=true then[]else dJ l x
theorem zJ{l:List Int}{x:Int}(h:bQ l x=true):zL l x=[]:=if_pos h
theorem mz{l:List Int}{x:Int}(h:bQ l x=false):zL l x=dJ l x:=if_neg (by rw[h];decide)
theorem Jj{l:List Int}{x:Int}{i:Nat}(hi:i<l.length)(h:l[i]=x):bQ l x=true:=by
 unfold bQ;rw[List.contains_iff_mem,<-h];exact List.getElem_mem hi
theorem Vv{l:List Int}{x:Int}(h:∀ k (hk:k<l.length),k<l.length->l[k]≠x):bQ l x=false:=by
 rw[Bool.eq_false_iff]
 intro hh
 unfold bQ at hh
 rw[List.contains_iff_mem]at hh
 obtain⟨k,hk,e⟩:=List.getElem_of_mem hh
 exact h k hk hk e
noncomputable def P68:PSpec:=p2 ei iI (fun l _=>l.Pairwise (· < ·)/\l.length<=1000) (fun l x=>.tup [.sl ((zL l x).map vInt),.bool (!bQ l x)]) false
noncomputable def S68:Spec:=P68.toSpec
attribute [go_sem] P68 S68
set_option maxHeartbeats 4000000 in
theorem Pr:aR Tryd.prog 55 P68:=by
 refine w2 (rs:=[.tmp 4,.tmp 5]) Tryd.func55 Tryd.ntmps55 (by rfl) (by kernel_rfl) (by decide) (fun h=>by cases h) ⟨_,rfl,lb rfl,fun l x hp hw=>?_⟩
 have hP:=bc
 simp only[iI,ei]at hw |-
 have hΓ:=@ig Tryd.prog
 obtain⟨hs,lW⟩:=hp
 have hl:l.length<=maxLen:=by unfold maxLen;omega
 repeat refine sq ?_
 refine rx hΓ [0,1] [] (fun K' hK=>by simp only[go_sem];(repeat (refine⟨ah,?_⟩));exact hK _ (by simp only[go_sem]) (by simp only[go_sem]<;>rfl)) ?_
 repeat refine sq ?_
 refine rx hΓ [0,1,6] [[34,0],[41,0],[47,0],[98,0]] (fun K' hK=>by simp only[go_sem];(repeat (refine⟨ah,?_⟩));exact hK _ (by simp only[go_sem]) (by simp only[go_sem]<;>rfl)) ?_
 refine bq (oY 6 [98,0] 1 (by simp only[go_sem]) (by simp only[go_sem]) [0,1,6] [[34,0],[41,0],[47,0],[98,0]] ?_ rfl) ?_
 ·simp only[go_sem]
 simp only[go_sem]
 repeat refine sq ?_
 refine rx hΓ [0,1,6,7] [[34,0],[41,0],[47,0],[98,0]] (fun K' hK=>by simp only[go_sem];(repeat (refine⟨ah,?_⟩));exact hK _ (by simp only[go_sem]) (by simp only[go_sem]<;>rfl)) ?_
 repeat refine sq ?_
 refine rx hΓ [0,1,6,7,8] [[34,0],[41,0],[47,0],[98,0]] (fun K' hK=>by simp only[go_sem];(repeat (refine⟨ah,?_⟩));exact hK _ (by simp only[go_sem]) (by simp only[go_sem]<;>rfl)) ?_
 repeat refine sq ?_
 refine aJ ?_
 repeat refine sq ?_
 refine bR (fun z:Nat=>[(8,⟨true,.v (vInt z)⟩),(6,⟨true,.msl [98,0] (fv l x z).length⟩),(7,⟨true,.v (.bool (decide (bz l x<z)))⟩)]) (fun z=>[([98,0],.arr 1 ((fv l x z).map vInt))]) (fun z=>z<=l.length/\(∀ k (hk:k<l.length),k<z->l[k]≠x)) (fun z=>l.length-z) 0 ?_ ?_ ?_ ?_
 ·exact⟨Nat.zero_le _,fun k hk h=>absurd h (by omega)⟩
 ·rfl
 ·rfl
 rintro i ⟨hi,hR⟩
 simp only[go_sem]
 repeat refine sq ?_
 refine rx hΓ [0,1,6,7,8,12] [[34,0],[41,0],[47,0],[98,0]] (fun K' hK=>by simp only[go_sem];(repeat (refine⟨ah,?_⟩));exact hK _ (by simp only[go_sem]) (by simp only[go_sem]<;>rfl)) ?_
 repeat refine sq ?_
 refine ax rfl rfl (fun hb=>?_) (fun hb=>?_)
 ·have ae:i<l.length:=by simpa using hb
  have ai:(i:Int)<l.length:=by omega
  clear hb
  have hlen:=FL (x:=x) hi
  repeat refine sq ?_
  refine aC ?_
  repeat refine sq ?_
  refine aJ ?_
  repeat refine sq ?_
  refine rx hΓ [0,1,6,7,8,20] [[34,0],[41,0],[47,0],[98,0]] (fun K' hK=>by simp only[go_sem,aH ae,Int.toNat_natCast,Int.natCast_nonneg,ai,aH ae];(repeat (refine⟨ah,?_⟩));exact hK _ (by simp only[go_sem]) (by simp only[go_sem]<;>rfl)) ?_
  repeat refine sq ?_
  refine ax rfl rfl (fun hb=>?_) (fun hb=>?_)
  ·repeat refine sq ?_
   have hx:l[i]=x:=by simpa using hb
   have hh:=Jj ae hx
   repeat refine sq ?_
   refine rx hΓ [4,5] [[34,0],[41,0],[47,0],[98,0]] (fun K' hK=>by simp only[go_sem,aH ae,Int.toNat_natCast,Int.natCast_nonneg,ai];(repeat (refine⟨ah,?_⟩));exact hK _ (by simp only[go_sem]) (by simp only[go_sem]<;>rfl)) ?_
   refine av ?_
   simp only[go_sem]
   first | (rw[zJ hh,hh];rfl) | (rw[mz hh,hh,<-he,List.map_append];rfl) | (rw[mz hh,hh,<-he,List.map_append];exact⟨by simp,rfl⟩) | (rw[mz hh,hh,<-he];rfl)
  ·repeat refine sq ?_
   have hx:l[i]≠x:=by simpa using hb
   have hq:=Al (x:=x) hs ae
   refine aC ?_
   repeat refine sq ?_
   refine rx hΓ [0,1,6,7,8,30] [[34,0],[41,0],[47,0],[98,0]] (fun K' hK=>by simp only[go_sem,aH ae,Int.toNat_natCast,Int.natCast_nonneg,ai,aH ae];(repeat (refine⟨ah,?_⟩));exact hK _ (by simp only[go_sem]) (by simp only[go_sem]<;>rfl)) ?_
   repeat refine sq ?_
   refine ax rfl rfl (fun hb=>?_) (fun hb=>?_)
   ·repeat refine sq ?_
    have he:i=bz l x:=by simp at hb;omega
    have hn:=QN ae he
    have uD:decide (bz l x<i+1)=true:=decide_eq_true (by omega)
    repeat refine sq ?_
    refine rx hΓ [0,1,6,8] [[34,0],[41,0],[47,0],[98,0]] (fun K' hK=>by simp only[go_sem,aH ae,Int.toNat_natCast,Int.natCast_nonneg,ai];(repeat (refine⟨ah,?_⟩));exact hK _ (by simp only[go_sem]) (by simp only[go_sem]<;>rfl)) ?_
    repeat refine sq ?_
    refine rx hΓ [0,1,6,7,8] [[34,0],[41,0],[47,0],[98,0]] (fun K' hK=>by simp only[go_sem,aH ae,Int.toNat_natCast,Int.natCast_nonneg,ai];(repeat (refine⟨ah,?_⟩));exact hK _ (by simp only[go_sem]) (by simp only[go_sem]<;>rfl)) ?_
    repeat refine sq ?_
    refine aQ hΓ fun K' hK=>?_
    simp only[go_sem,aH ae,Int.toNat_natCast,Int.natCast_nonneg,ai,aH ae,List.length_append,List.length_map,List.length_cons,List.length_nil]
    repeat (refine⟨ah,?_⟩)
    refine hK _ ?_
    clear K' hK
    simp only[go_sem]
    refine kp [0,1,6,7,8] [[34,0],[41,0],[47,0],[98,0]] ?_
    repeat refine sq ?_
    refine aQ hΓ fun K' hK=>?_
    simp only[go_sem,aH ae,Int.toNat_natCast,Int.natCast_nonneg,ai]
    repeat (refine⟨ah,?_⟩)
    refine hK _ ?_
    clear K' hK
    simp only[go_sem]
    refine⟨i+1,⟨ae,?_⟩,by(show l.length-(i+1)<l.length-i;omega),?_⟩
    ·exact fun k hk h=>(Nat.lt_succ_iff_lt_or_eq.1 h).elim (fun h5=>hR k hk h5) (fun h5=>by subst h5;exact hx)
    refine bd [0,1,6,7,8] [[34,0],[41,0],[47,0],[98,0]] ?_ ?_
    ·simp only[go_sem,aA ae hl,Int.natCast_add,Int.natCast_one,<-hn,uD,List.map_append,List.length_append,List.map_cons,List.map_nil,List.length_map,List.length_cons,List.length_nil,Nat.reduceAdd]
    ·simp only[go_sem,aA ae hl,Int.natCast_add,Int.natCast_one,<-hn,uD,List.map_append,List.length_append,List.map_cons,List.map_nil,List.length_map,List.length_cons,List.length_nil,Nat.reduceAdd]
   ·repeat refine sq ?_
    have hn:fv l x i++[l[i]]=fv l x (i+1)/\decide (bz l x<i+1)=decide (bz l x<i):=by
     rcases Nat.lt_or_ge (bz l x) i with hg | hg
     ·exact⟨QK ae hg,by rw[decide_eq_true hg,decide_eq_true (by omega)]⟩
     ·have jJ:i<bz l x:=by simp at hb;omega
      exact⟨QJ ae jJ,by rw[decide_eq_false (by omega),decide_eq_false (by omega)]⟩
    obtain⟨hn,uD⟩:=hn
    refine aC ?_
    repeat refine sq ?_
    refine aQ hΓ fun K' hK=>?_
    simp only[go_sem,aH ae,Int.toNat_natCast,Int.natCast_nonneg,ai,aH ae,List.length_append,List.length_map,List.length_cons,List.length_nil]
    repeat (refine⟨ah,?_⟩)
    refine hK _ ?_
    clear K' hK
    simp only[go_sem]
    refine kp [0,1,6,7,8] [[34,0],[41,0],[47,0],[98,0]] ?_
    repeat refine sq ?_
    refine aQ hΓ fun K' hK=>?_
    simp only[go_sem,aH ae,Int.toNat_natCast,Int.natCast_nonneg,ai]
    repeat (refine⟨ah,?_⟩)
    refine hK _ ?_
    clear K' hK
    simp only[go_sem]
    refine⟨i+1,⟨ae,?_⟩,by(show l.length-(i+1)<l.length-i;omega),?_⟩
    ·exact fun k hk h=>(Nat.lt_succ_iff_lt_or_eq.1 h).elim (fun h5=>hR k hk h5) (fun h5=>by subst h5;exact hx)
    refine bd [0,1,6,7,8] [[34,0],[41,0],[47,0],[98,0]] ?_ ?_
    ·simp only[go_sem,aA ae hl,Int.natCast_add,Int.natCast_one,<-hn,uD,List.map_append,List.length_append,List.map_cons,List.map_nil,List.length_map,List.length_cons,List.length_nil,Nat.reduceAdd]
    ·simp only[go_sem,aA ae hl,Int.natCast_add,Int.natCast_one,<-hn,uD,List.map_append,List.length_append,List.map_cons,List.map_nil,List.length_map,List.length_cons,List.length_nil,Nat.reduceAdd]
 ·have aV:i=l.length:=by
   have :¬ (i:Int)<l.length:=by simpa using hb
   omega
  clear hb
  subst aV
  have hh:=Vv hR
  have hlen:=FL (x:=x) hi
  repeat refine sq ?_
  refine bK ?_
  simp only[go_sem]
  refine kp [1,6,7] [[34,0],[41,0],[47,0],[98,0]] ?_
  repeat refine sq ?_
  refine rx hΓ [1,6,43] [[34,0],[41,0],[47,0],[98,0]] (fun K' hK=>by simp only[go_sem];(repeat (refine⟨ah,?_⟩));exact hK _ (by simp only[go_sem]) (by simp only[go_sem]<;>rfl)) ?_
  repeat refine sq ?_
  refine ax rfl rfl (fun hb=>?_) (fun hb=>?_)
  ·repeat refine sq ?_
   have he:=QL (l:=l) (x:=x) (by simpa using hb)
   repeat refine sq ?_
   refine rx hΓ [6] [[34,0],[41,0],[47,0],[98,0]] (fun K' hK=>by simp only[go_sem,List.length_append,List.length_map,List.length_cons,List.length_nil];(repeat (refine⟨ah,?_⟩));exact hK _ (by simp only[go_sem]) (by simp only[go_sem]<;>rfl)) ?_
   repeat refine sq ?_
   refine rx hΓ [4,5] [[34,0],[41,0],[47,0],[98,0]] (fun K' hK=>by simp only[go_sem];(repeat (refine⟨ah,?_⟩));exact hK _ (by simp only[go_sem]) (by simp only[go_sem]<;>rfl)) ?_
   refine av ?_
   simp only[go_sem]
   first | (rw[zJ hh,hh];rfl) | (rw[mz hh,hh,<-he,List.map_append];rfl) | (rw[mz hh,hh,<-he,List.map_append];exact⟨by simp,rfl⟩) | (rw[mz hh,hh,<-he];rfl)
  ·repeat refine sq ?_
   have he:=QM (l:=l) (x:=x) (by simpa using hb)
   refine aC ?_
   repeat refine sq ?_
   refine rx hΓ [4,5] [[34,0],[41,0],[47,0],[98,0]] (fun K' hK=>by simp only[go_sem];(repeat (refine⟨ah,?_⟩));exact hK _ (by simp only[go_sem]) (by simp only[go_sem]<;>rfl)) ?_
   refine av ?_
   simp only[go_sem]
   first | (rw[zJ hh,hh];rfl) | (rw[mz hh,hh,<-he,List.map_append];rfl) | (rw[mz hh,hh,<-he,List.map_append];exact⟨by simp,rfl⟩) | (rw[mz hh,hh,<-he];rfl)
theorem HW:ak Tryd.prog 55 S68:=Pr.sound
def jw(l:List Par)(ta:Int)(z:Nat):List Par:=(l.take z).filter fun p=>decide (p.no>ta)
def wo(s:Stk)(f:Nat)(ta:Int):Stk:=⟨s.ho,s.un.set f (jw (s.un.get f) ta (s.un.get f).length),s.se,s.ta⟩
def fa(f:Nat)(s:Stk)(p:Par):Bool:=p.no==s.ta.get f+1
def o5(f:Nat)(s:Stk)(p:Par):Stk:=if fa f s p=true then⟨dJ s.ho p.pa,s.un,s.se,s.ta.set f (s.ta.get f+1)⟩else s
def eF(f:Nat)(s:Stk)(p:Par):Int:=if fa f s p=true then(if bQ s.ho p.pa=true then 96 else if 40<(dJ s.ho p.pa).length then 2 else 0)else 0
def dQ(f:Nat)(ps:List Par)(s0:Stk):Nat->Stk
 | 0=>s0
 |z+1=>o5 f (dQ f ps s0 z) (ps.getD z default)
def eN(f:Nat)(ps:List Par)(s0:Stk):Nat->Int
 | 0=>0
 |z+1=>if eN f ps s0 z=0 then eF f (dQ f ps s0 z) (ps.getD z default)else eN f ps s0 z
def dq(d:Dk)(b:Bag):Stk:=wo d.now b.fr.toNat b.ta
def nr(d:Dk)(b:Bag):Bool:=ki b&&(b.to==d.me)
def iT(d:Dk)(b:Bag):Int:=if aF d=true then(if nr d b=true then eN b.fr.toNat b.ps (dq d b) b.ps.length else 93)else 92
def mD(d:Dk)(b:Bag):Dk:=if iT d b=0 then d.setN (dQ b.fr.toNat b.ps (dq d b) b.ps.length)else zD
theorem ado{d:Dk}{b:Bag}(h:aF d=false):mD d b=zD/\iT d b=92:=by
 have :iT d b=92:=if_neg (by rw[h];decide)
 exact⟨if_neg (by rw[this];decide),this⟩
theorem adr{d:Dk}{b:Bag}(h:aF d=true)(h1:nr d b=false):mD d b=zD/\iT d b=93:=by
 have :iT d b=93:=by unfold iT;rw[if_pos h,if_neg (by rw[h1];decide)]
 exact⟨if_neg (by rw[this];decide),this⟩
theorem J4(f:Nat)(ps:List Par)(s0:Stk){z:Nat}(h:eN f ps s0 z≠0):∀ k,eN f ps s0 (z+k)=eN f ps s0 z
 | 0=>rfl
 |k+1=>by
  have :=J4 f ps s0 h k
  rw[<-Nat.add_assoc]
  show (if eN f ps s0 (z+k)=0 then _ else _)=_
  rw[this,if_neg h]
theorem adq{d:Dk}{b:Bag}(h:aF d=true)(h1:nr d b=true){i:Nat}(hi:i<b.ps.length){e:Int}(h2:eN b.fr.toNat b.ps (dq d b) i=0)(h3:eF b.fr.toNat (dQ b.fr.toNat b.ps (dq d b) i) (b.ps.getD i default)=e)(he:e≠0):mD d b=zD/\iT d b=e:=by
 have h4:eN b.fr.toNat b.ps (dq d b) (i+1)=e:=by
  show (if eN b.fr.toNat b.ps (dq d b) i=0 then _ else _)=_
  rw[if_pos h2,h3]
 have h5:=J4 b.fr.toNat b.ps (dq d b) (by rw[h4];exact he) (b.ps.length-(i+1))
 rw[show i+1+(b.ps.length-(i+1))=b.ps.length by omega,h4]at h5
 have :iT d b=e:=by unfold iT;rw[if_pos h,if_pos h1,h5]
 exact⟨if_neg (by rw[this];exact he),this⟩
theorem adn{d:Dk}{b:Bag}(h:aF d=true)(h1:nr d b=true)(h2:eN b.fr.toNat b.ps (dq d b) b.ps.length=0):mD d b=d.setN (dQ b.fr.toNat b.ps (dq d b) b.ps.length)/\iT d b=0:=by
 have :iT d b=0:=by unfold iT;rw[if_pos h,if_pos h1,h2]
 exact⟨if_pos this,this⟩
theorem Ee{l:List Par}{ta:Int}{z:Nat}(h:z<l.length):jw l ta (z+1)=if decide (l[z].no>ta)=true then jw l ta z++[l[z]]else jw l ta z:=by
 unfold jw
 rw[List.take_add_one,List.getElem?_eq_getElem h,List.filter_append]
 show _++List.filter _ [l[z]]=_
 by_cases hp:decide (l[z].no>ta)=true
 ·rw[if_pos hp]
  have :List.filter (fun p:Par=>decide (p.no>ta)) [l[z]]=[l[z]]:=by simp only[List.filter,hp]
  rw[this]
 ·rw[if_neg hp]
  have pT:decide (l[z].no>ta)=false:=by simpa using hp
  have :List.filter (fun p:Par=>decide (p.no>ta)) [l[z]]=[]:=by simp only[List.filter,pT]
  rw[this,List.append_nil]
theorem aak{l:List Par}{ta:Int}{z:Nat}(h:z<l.length)(hp:decide (l[z].no>ta)=true):jw l ta (z+1)=jw l ta z++[l[z]]:=by rw[Ee h,if_pos hp]
theorem aal{l:List Par}{ta:Int}{z:Nat}(h:z<l.length)(hp:decide (l[z].no>ta)=false):jw l ta (z+1)=jw l ta z:=by rw[Ee h,if_neg (by rw[hp];decide)]
theorem NH(l:List Par)(ta:Int)(z:Nat):(jw l ta z).length<=l.length:=by
 unfold jw
 refine Nat.le_trans (List.length_filter_le _ _) ?_
 rw[List.length_take];omega
theorem bb.set_self{α:Type}(s:bb α)(i:Nat)(hi:i<6):s.set i (s.get i)=s:=
 jx (P:=fun i=>s.set i (s.get i)=s) rfl rfl rfl rfl rfl rfl hi
theorem Ll{b:Bag}(h:ki b=true):0<=b.fr/\b.fr<6/\b.fr.toNat<6/\b.ps.length<=40/\(∀ p∈b.ps,1<=p.no/\p.no<=99999/\1<=p.pa/\p.pa<=999)/\0<=b.ta/\b.ta<=99999:=by
 unfold ki at h
 simp only[Bool.and_eq_true]at h
 obtain⟨⟨⟨⟨h1,h2⟩,h3⟩,h4⟩,h5⟩:=h
 have h1:=dS.1 h1
 have h5:=dS.1 h5
 unfold cz at h4
 rw[Bool.and_eq_true,decide_eq_true_eq,gx]at h4
 refine⟨by omega,by omega,by omega,h4.2,fun p hp=>?_,h5.1,h5.2⟩
 obtain⟨i,hi,rfl⟩:=List.getElem_of_mem hp
 have :=h4.1 i hi
 unfold fq at this
 rw[getD_at hi]at this
 simp only[Bool.and_eq_true]at this
 have a:=dS.1 this.1.1
 have c:=dS.1 this.1.2
 exact⟨a.1,a.2,c.1,c.2⟩
structure vw (f:Nat) (s:Stk):Prop where
 ri:s.ho.Pairwise (· < ·)
 len:s.ho.length<=40
 t0:0<=s.ta.get f
 t1:s.ta.get f<=99999
theorem Ih{l:List Int}{x:Int}(hs:l.Pairwise (· < ·))(hh:bQ l x=false):(dJ l x).Pairwise (· < ·):=by
 have p5:=fun {i:Nat} (hi:i<l.length)=>Al (x:=x) hs hi
 have hle:=wI l x
 have ht:∀ a∈l.take (bz l x),a<x:=by
  intro a ha
  obtain⟨i,hi,rfl⟩:=List.getElem_of_mem ha
  rw[List.length_take]at hi
  rw[List.getElem_take]
  exact(p5 (by omega)).2 (by omega)
 have hd:∀ a∈l.drop (bz l x),x<a:=by
  intro a ha
  obtain⟨i,hi,rfl⟩:=List.getElem_of_mem ha
  rw[List.length_drop]at hi
  rw[List.getElem_drop]
  have h1:¬ l[bz l x+i] <x:=fun h=>by have:=(p5 (by omega)).1 h;omega
  have h2:l[bz l x+i]≠x:=fun h=>by have:=Jj (by omega) h;rw[hh]at this;cases this
  omega
 unfold dJ
 rw[List.append_assoc,List.pairwise_append]
 refine⟨hs.sublist (List.take_sublist _ _),?_,fun a ha b hb=>?_⟩
 ·rw[List.pairwise_append]
  refine⟨by simp,hs.sublist (List.drop_sublist _ _),fun a ha b hb=>?_⟩
  simp only[List.mem_cons,List.not_mem_nil,or_false]at ha
  subst ha
  exact hd b hb
 ·rcases List.mem_append.1 hb with h1 | h1
  ·simp only[List.mem_cons,List.not_mem_nil,or_false]at h1
   subst h1
   exact ht a ha
  ·have:=ht a ha
   have :=hd b h1
   omega
theorem QS{f:Nat}(hf:f<6){s:Stk}{p:Par}(h:vw f s)(hp:p.no<=99999)(he:eF f s p=0):vw f (o5 f s p):=by
 unfold o5
 unfold eF at he
 by_cases hn:fa f s p=true
 ·rw[if_pos hn]at he |-
  by_cases hh:bQ s.ho p.pa=true
  ·rw[if_pos hh]at he;cases he
  ·rw[if_neg hh]at he
   by_cases hl:40<(dJ s.ho p.pa).length
   ·rw[if_pos hl]at he;cases he
   ·have hg:=(s.ta.get_set (i:=f) (j:=f) (s.ta.get f+1) hf).1
    unfold fa at hn
    have fc:p.no=s.ta.get f+1:=by simpa using hn
    exact⟨Ih h.ri (by simpa using hh),by show (dJ s.ho p.pa).length<=40;omega,by show 0<=(s.ta.set f _).get f;rw[hg];have:=h.t0;omega,by show (s.ta.set f _).get f<=99999;rw[hg];omega⟩
 ·rw[if_neg hn];exact h
theorem QT{f:Nat}(hf:f<6){ps:List Par}{s0:Stk}(h0:vw f s0)(hp:∀ p∈ps,p.no<=99999):∀ {z:Nat},z<=ps.length->eN f ps s0 z=0->vw f (dQ f ps s0 z)
 | 0,_,_=>h0
 |z+1,hz,he=>by
  have kW:(if eN f ps s0 z=0 then eF f (dQ f ps s0 z) (ps.getD z default)else eN f ps s0 z)=0:=he
  by_cases h1:eN f ps s0 z=0
  ·rw[if_pos h1]at kW
   have hg:ps.getD z default=ps[z]'(by omega):=getD_at (by omega)
   exact QS hf (QT hf h0 hp (by omega) h1) (by rw[hg];exact hp _ (List.getElem_mem _)) kW
  ·rw[if_neg h1]at kW;exact absurd kW h1
theorem adj{d:Dk}{f:Nat}{ta:Int}(hf:f<6)(h:aF d=true):vw f (wo d.now f ta):=by
 unfold aF gp cf at h
 simp only[Bool.and_eq_true]at h
 have hp:=h.1.1.1.1.1.1.2
 have ha:=gx.1 h.1.1.2 f hf
 unfold fj at ha
 simp only[Bool.and_eq_true]at ha
 have ht:=dS.1 ha.1.1.2
 exact⟨zW hp,(ry hp).1,ht.1,ht.2⟩
theorem adg(d:Dk)(nm:Name)(n:Nat){f:Nat}(hf:f<6):List.take (2+f) (List.map D.v (aq d))++[D.msl nm n]++List.drop (2+f+1) (List.map D.v (aq d))=bG d f (.v (fo d.now.ho)) nm n (d.now.se.get f):=
 jx (P:=fun f=>List.take (2+f) (List.map D.v (aq d))++[D.msl nm n]++List.drop (2+f+1) (List.map D.v (aq d))=bG d f (.v (fo d.now.ho)) nm n (d.now.se.get f)) rfl rfl rfl rfl rfl rfl hf
@[go_sem] theorem aeW{dom:Name->Bool}(d:Dk)(i:Nat):D.closL dom (List.take i (List.map D.v (aq d))++[D.nilsl]++List.drop (i+1) (List.map D.v (aq d)))=true:=by
  rw[oM]
  intro x hx
  simp only[List.mem_append,List.mem_cons,List.not_mem_nil,or_false]at hx
  rcases hx with(hx | hx) | hx
  ·exact oM.1 (KO dom (aq d) i) x hx
  ·subst hx;rfl
  ·exact oM.1 (KR dom (aq d) (i+1)) x hx
theorem aeb(d:Dk){f:Nat}(hf:f<6):(List.map D.v (aq d)).getD (14+f) .any=.v (vInt (d.now.ta.get f)):=
 jx (P:=fun f=>(List.map D.v (aq d)).getD (14+f) .any=.v (vInt (d.now.ta.get f))) rfl rfl rfl rfl rfl rfl hf
@[go_sem] theorem aee(d:Dk):(List.map D.v (aq d)).getD 1 .any=.v (fo d.now.ho):=rfl
@[go_sem] theorem ad6(d:Dk)(l:List Int):List.take 1 (List.map D.v (aq d))++[.v (.sl (l.map vInt))]++List.drop 2 (List.map D.v (aq d))=List.map D.v (aq (d.setN ⟨l,d.now.un,d.now.se,d.now.ta⟩)):=rfl
theorem ad5(d:Dk)(x:Int){f:Nat}(hf:f<6):List.take (14+f) (List.map D.v (aq d))++[.v (vInt x)]++List.drop (14+f+1) (List.map D.v (aq d))=List.map D.v (aq (d.setN ⟨d.now.ho,d.now.un,d.now.se,d.now.ta.set f x⟩)):=
 jx (P:=fun f=>List.take (14+f) (List.map D.v (aq d))++[.v (vInt x)]++List.drop (14+f+1) (List.map D.v (aq d))=List.map D.v (aq (d.setN ⟨d.now.ho,d.now.un,d.now.se,d.now.ta.set f x⟩))) rfl rfl rfl rfl rfl rfl hf
@[go_sem] theorem acZ(d:Dk)(s:Stk):(d.setN s).now=s:=rfl
@[go_sem] theorem acY(d:Dk)(s s':Stk):(d.setN s).setN s'=d.setN s':=rfl
theorem adi(d:Dk)(nm:Name)(n:Nat)(ta:Int){f:Nat}(hf:f<6):(bG d f (.v (fo d.now.ho)) nm n (d.now.se.get f)).set (2+f) (.v (.sl ((jw (d.now.un.get f) ta (d.now.un.get f).length).map encPa)))=List.map D.v (aq (d.setN (wo d.now f ta))):=by
 rw[Dp d d.now.ho nm n (d.now.se.get f) _ hf,bb.set_self _ _ hf]
 rfl
def JG(d:Dk)(b:Bag):Bool:=(qD b != 0)||(b.to != d.me)
theorem adV(d:Dk)(b:Bag):JG d b=!nr d b:=by
 unfold JG nr qD
 have :(b.to != d.me)=!(b.to==d.me):=rfl
 rw[this]
 cases ki b<;>cases (b.to==d.me)<;>rfl
theorem N'(f:Nat)(ps:List Par)(s0:Stk){i:Nat}(hi:i<ps.length)(hn:fa f (dQ f ps s0 i) ps[i]=true):dQ f ps s0 (i+1)=⟨dJ (dQ f ps s0 i).ho ps[i].pa,(dQ f ps s0 i).un,(dQ f ps s0 i).se,(dQ f ps s0 i).ta.set f ((dQ f ps s0 i).ta.get f+1)⟩:=by
 show o5 f (dQ f ps s0 i) (ps.getD i default)=_
 rw[getD_at hi]
 exact if_pos hn
theorem Oa(f:Nat)(ps:List Par)(s0:Stk){i:Nat}(hi:i<ps.length)(hn:fa f (dQ f ps s0 i) ps[i]=false):dQ f ps s0 (i+1)=dQ f ps s0 i:=by
 show o5 f (dQ f ps s0 i) (ps.getD i default)=_
 rw[getD_at hi]
 exact if_neg (by rw[hn];decide)
theorem QU(f:Nat)(s:Stk)(p:Par)(hn:fa f s p=false):eF f s p=0:=if_neg (by rw[hn];decide)
theorem adm(f:Nat)(s:Stk)(p:Par)(hn:fa f s p=true)(hh:bQ s.ho p.pa=true):eF f s p=96:=by unfold eF;rw[if_pos hn,if_pos hh]
theorem adl(f:Nat)(s:Stk)(p:Par)(hn:fa f s p=true)(hh:bQ s.ho p.pa=false)(hl:40<(dJ s.ho p.pa).length):eF f s p=2:=by unfold eF;rw[if_pos hn,if_neg (by rw[hh];decide),if_pos hl]
theorem adk(f:Nat)(s:Stk)(p:Par)(hn:fa f s p=true)(hh:bQ s.ho p.pa=false)(hl:¬ 40<(dJ s.ho p.pa).length):eF f s p=0:=by unfold eF;rw[if_pos hn,if_neg (by rw[hh];decide),if_neg hl]
theorem J3{f:Nat}{ps:List Par}{s0:Stk}{i:Nat}(hi:i<ps.length)(h:eN f ps s0 i=0)(he:eF f (dQ f ps s0 i) ps[i]=0):eN f ps s0 (i+1)=0:=by
 show (if eN f ps s0 i=0 then eF f (dQ f ps s0 i) (ps.getD i default)else _)=0
 rw[if_pos h,getD_at hi,he]
noncomputable def Mo:List (Nat×Spec):=[(77,S39),(55,S68)]
theorem afS:∀ f s,tbl Mo f=some s->ak Tryd.prog f s:=tc mM<|tc HW<|tn
attribute [go_sem] Mo
theorem Xs{P:Program}{Γ:FuncId->Option Spec}(hΓ:∀ f s,Γ f=some s->ak P f s){id:Nat}{l:List Oper}{c:Code}{r:List Code}{σ:S}{K:Exit->S->Prop}(ks:List Nat)(ns:List Name)
 (h:∀ K':S->Prop,(∀ σ',eQ ks ns σ'->CL P (c::r) (eW ks ns σ') K->K' σ')->kD P Γ l.toArray l σ K'):CL P (.region id l.toArray false::c::r) σ K:=
 Kt hΓ (h _ fun σ' hc hy=>yf ks ns hc hy)
theorem E'{P:Program}{Γ:FuncId->Option Spec}{ops:Array Oper}{o:Oper}{r:List Oper}{σ:S}{K:S->Prop}(h1:jD P Γ ops σ o)(h2:kD P Γ ops r (aU P Γ ops σ o) K):kD P Γ ops (o::r) σ K:=.step h1 h2
def fU{α:Type}(p:α->Bool)(l:List α):List α:=l.filter fun d=>!p d
def lh{α:Type}(enc:α->V)(z:V)(p:α->Bool)(l:List α):List V:=(fU p l).map enc++List.replicate (l.length-(fU p l).length) z
def lB:Par:=⟨0,0⟩
def eH{α:Type}(p:α->Bool)(l:List α):Int:=if l.any p then(l.findIdx p:Int)else -1
theorem xa{α:Type}{p:α->Bool}{l:List α}{i:Nat}(h:i<l.length)(hp:p l[i]=true)(hn:∀ k (hk:k<l.length),k<i->p l[k]=false):eH p l=i:=by
 unfold eH
 rw[if_pos (List.any_eq_true.2 ⟨_,List.getElem_mem h,hp⟩)]
 congr 1
 rw[List.findIdx_eq h]
 exact⟨hp,fun j hj=>by simpa using hn j (by omega) hj⟩
theorem w9{α:Type}{p:α->Bool}{l:List α}(hn:∀ k (hk:k<l.length),p l[k]=false):eH p l= -1:=by
 unfold eH
 rw[if_neg]
 intro h
 obtain⟨x,hx,hp⟩:=List.any_eq_true.1 h
 obtain⟨k,hk,rfl⟩:=List.getElem_of_mem hx
 rw[hn k hk]at hp
 cases hp
def lj:V->Bag
 | .ptr l=>u6 (.agg l)
 |_=>default
def A0:En Bag:=⟨fun b=>.ptr (bW b),lj⟩
def Kp:V->Bag
 | .clo _ _ [x]=>lj x
 |_=>default
def A1:En Bag:=⟨fun b=>.clo (.func 49) [] [.ptr (bW b)],Kp⟩
@[go_sem] theorem W0(b:Bag):lj (.ptr (bW b))=b:=yb b
@[go_sem] theorem aeL(f:Fn)(b:Bag):Kp (.clo f [] [.ptr (bW b)])=b:=yb b
attribute [go_sem] A0 A1
@[go_sem] theorem afv(b:Bag):List.take 1 (List.drop 3 (bW b))=[vInt b.ta]:=rfl
@[go_sem] theorem afw(b:Bag):List.take 1 (List.drop 2 (bW b))=[rowP b.ps]:=rfl
@[go_sem] theorem afx(b:Bag):List.take 1 (List.drop 1 (bW b))=[vInt b.to]:=rfl
@[go_sem] theorem afy(b:Bag):List.take 1 (bW b)=[vInt b.fr]:=rfl
def eU(b:Bag)(p:Par):Bool:=decide (p.no<=b.ta)
noncomputable def P65:PSpec:=p2 tC A0 (fun _ _=>True) (fun p b=>.bool (eU b p)) true
noncomputable def S65:Spec:=P65.toSpec
attribute [go_sem] P65 S65
theorem Ps:aR Tryd.prog 49 P65:=by
 refine w2 (rs:=[.tmp 3]) Tryd.func49 Tryd.ntmps49 (by rfl) (by kernel_rfl) (by decide) (fun _ _ _=>rfl) ⟨_,rfl,lb rfl,fun p b hp hw=>?_⟩
 have hP:=bc
 simp only[A0,tC]at hw |-
 have hΓ:=@ig Tryd.prog
 repeat refine sq ?_
 refine rx hΓ [1,2] [[2,0]] (fun K' hK=>by simp only[go_sem];(repeat (refine⟨ah,?_⟩));exact hK _ (by simp only[go_sem]) (by simp only[go_sem]<;>rfl)) ?_
 repeat refine sq ?_
 refine rx hΓ [3] [] (fun K' hK=>by simp only[go_sem,Nat.add_zero];(repeat (refine⟨ah,?_⟩));exact hK _ (by simp only[go_sem]) (by simp only[go_sem]<;>rfl)) ?_
 refine av ?_
 simp only[go_sem]
 all_goals first | rfl | (simp;done) | (simp_all;done)
theorem HX:ak Tryd.prog 49 S65:=Ps.sound
noncomputable def DX:List (Nat×Spec):=[(49,S65)]
theorem YL:∀ f s,tbl DX f=some s->ak Tryd.prog f s:=tc HX<|tn
attribute [go_sem] DX
noncomputable def P101:PSpec:=p2 jF A1 (fun _ _=>True) (fun l b=>vInt (eH (eU b) l)) true
noncomputable def S101:Spec:=P101.toSpec
attribute [go_sem] P101 S101
set_option maxHeartbeats 4000000 in
theorem P9:aR Tryd.prog 72 P101:=by
 refine w2 (rs:=[.tmp 4]) Tryd.func72 Tryd.ntmps72 (by rfl) (by kernel_rfl) (by decide) (fun _ _ _=>rfl) ⟨_,rfl,lb rfl,fun l b hp hw=>?_⟩
 have hP:=bc
 simp only[A1,jF]at hw |-
 have hl:l.length<=maxLen:=by have:=hw.1.1;simpa using this
 obtain⟨Γ,sG,hΓ,hs,hg⟩:∃ (Γ:FuncId->Option Spec) (sG:Spec),(∀ f s,Γ f=some s->ak Tryd.prog f s)/\Γ 49=some sG/\
  ∀ (obj:Name->Option O) (t:Name) (x:Par),sG.app obj t [.v (encPa x),.v (.ptr (bW b))]=⟨True,.v (.bool (eU b x)),obj⟩:=⟨tbl DX,S65,YL,rfl,fun obj t x=>by simp only[go_sem]⟩
 simp only[encPa]at hg
 repeat refine sq ?_
 refine rx hΓ [0,1] [] (fun K' hK=>by simp only[go_sem];(repeat (refine⟨ah,?_⟩));exact hK _ (by simp only[go_sem]) (by simp only[go_sem]<;>rfl)) ?_
 repeat refine sq ?_
 refine rx hΓ [0,1,7,8] [] (fun K' hK=>by simp only[go_sem];(repeat (refine⟨ah,?_⟩));exact hK _ (by simp only[go_sem]) (by simp only[go_sem]<;>rfl)) ?_
 repeat refine sq ?_
 refine aJ ?_
 repeat refine sq ?_
 refine bR (fun z:Nat=>[(8,⟨true,.v (vInt z)⟩)]) (fun z=>[]) (fun z=>z<=l.length/\∀ k (h:k<l.length),k<z->eU b l[k]=false) (fun z=>l.length-z) 0 ?_ ?_ ?_ ?_
 ·exact⟨Nat.zero_le _,fun k h hk=>absurd hk (by omega)⟩
 ·rfl
 ·rfl
 rintro i ⟨hi,hR⟩
 simp only[go_sem]
 repeat refine sq ?_
 refine rx hΓ [0,1,7,8,9] [] (fun K' hK=>by simp only[go_sem];(repeat (refine⟨ah,?_⟩));exact hK _ (by simp only[go_sem]) (by simp only[go_sem]<;>rfl)) ?_
 repeat refine sq ?_
 refine ax rfl rfl (fun hb=>?_) (fun hb=>?_)
 ·have ae:i<l.length:=by simpa using hb
  have ai:(i:Int)<l.length:=by omega
  clear hb
  repeat refine sq ?_
  refine aC ?_
  repeat refine sq ?_
  refine aJ ?_
  repeat refine sq ?_
  refine rx hΓ [0,1,5,7,8] [] (fun K' hK=>by simp only[go_sem,aH ae,Int.toNat_natCast,Int.natCast_nonneg,ai];(repeat (refine⟨ah,?_⟩));exact hK _ (by simp only[go_sem]) (by simp only[go_sem]<;>rfl)) ?_
  repeat refine sq ?_
  refine rx hΓ [0,1,5,7,8,16] [] (fun K' hK=>by simp only[go_sem,aH ae,Int.toNat_natCast,Int.natCast_nonneg,ai,aH ae,hs,hg,Int.toNat_natCast,Int.natCast_nonneg,ai];(repeat (refine⟨ah,?_⟩));exact hK _ (by simp only[go_sem]) (by simp only[go_sem]<;>rfl)) ?_
  repeat refine sq ?_
  refine ax rfl rfl (fun hb=>?_) (fun hb=>?_)
  ·repeat refine sq ?_
   refine rx hΓ [4] [] (fun K' hK=>by simp only[go_sem,aH ae,Int.toNat_natCast,Int.natCast_nonneg,ai];(repeat (refine⟨ah,?_⟩));exact hK _ (by simp only[go_sem]) (by simp only[go_sem]<;>rfl)) ?_
   refine av ?_
   simp only[go_sem]
   rw[xa (p:=eU b) ae (by simpa using hb) hR]
  ·repeat refine sq ?_
   refine aC ?_
   refine cX ?_
   simp only[go_sem]
   refine kp [0,1,7,8] [] ?_
   repeat refine sq ?_
   refine aQ hΓ fun K' hK=>?_
   simp only[go_sem,aH ae,Int.toNat_natCast,Int.natCast_nonneg,ai]
   repeat (refine⟨ah,?_⟩)
   refine hK _ ?_
   clear K' hK
   simp only[go_sem]
   refine⟨i+1,⟨ae,?_⟩,by(show l.length-(i+1)<l.length-i;omega),?_⟩
   ·intro k hk jH
    rcases Nat.lt_succ_iff_lt_or_eq.1 jH with h5 | rfl
    ·exact hR k hk h5
    ·simpa using hb
   refine bd [0,1,7,8] [] ?_ ?_
   ·simp only[go_sem,aA ae hl,Int.natCast_add,Int.natCast_one]
   ·simp only[go_sem,aA ae hl,Int.natCast_add,Int.natCast_one]
 ·have aV:i=l.length:=by
   have :¬ (i:Int)<l.length:=by simpa using hb
   omega
  clear hb
  subst aV
  repeat refine sq ?_
  refine bK ?_
  simp only[go_sem]
  refine kp [] [] ?_
  repeat refine sq ?_
  refine rx hΓ [4] [] (fun K' hK=>by simp only[go_sem];(repeat (refine⟨ah,?_⟩));exact hK _ (by simp only[go_sem]) (by simp only[go_sem]<;>rfl)) ?_
  refine av ?_
  simp only[go_sem]
  rw[w9 (p:=eU b) fun k hk=>hR k hk hk]
theorem TL:ak Tryd.prog 72 S101:=P9.sound
noncomputable def DW:List (Nat×Spec):=[(49,S65),(72,S101)]
theorem YK:∀ f s,tbl DW f=some s->ak Tryd.prog f s:=tc HX<|tc TL<|tn
attribute [go_sem] DW
theorem DG:(#[35]:Array Nat).getD 0 0=35:=rfl
theorem M':((ba Tryd.prog 75).bind fun z=>dG (gQ z))=some (encPa lB):=by rw[NJ];rfl
theorem Da{obj:Name->Option O}{nm:Name}{k i:Nat}{L:List V}(h:obj nm=some (.arr 2 L))(hk:k=L.length)(hi:i<L.length):
 jW Tryd.prog obj 35 35 (.msl nm k) (.v (vInt i))=⟨True,.any,upd obj nm (some (.arr 2 (L.take i++List.replicate (L.length-i) (encPa lB))))⟩:=by
 unfold jW
 simp only[El,h,M',Int.toNat_natCast]
 congr 1
 simp only[eq_iff_iff,iff_true]
 exact⟨hk,by omega,hi,trivial,rfl,rfl,trivial,by decide⟩
set_option maxRecDepth 10000 in
set_option maxHeartbeats 4000000 in
theorem NF(b:Bag){H:Name->Option O}{l:List Par}(hl:l.length<1000000)(ox:H [0,1]=some (.arr 2 (l.map encPa)))(ga:∀ hs,cZ [0] (cM [0] hs) H=True)(fJ:∀ hs sz L,cZ [0] (cM [0] hs) (upd H [0,1] (some (.arr sz L)))=True)(Jm:∀ hs sz L,cZ [0] (cM [0] hs) (upd H [0,1] (some (.farr sz L)))=True):
 ∃ c,Tryd.f48.body=some c/\CL Tryd.prog [c] (aS 42 [0] H [(0,⟨true,.msl [0,1] l.length⟩),(1,⟨true,.clo (.func 49) [] [.v (.ptr (bW b))]⟩)] []) (fun e σ=>(e=.normal\/e=.ret)/\(σ.env 4).c=true/\
   (σ.env 4).d=.v (.sl ((fU (eU b) l).map encPa))/\σ.obj [0,1]=some (.farr 2 (lh encPa (encPa lB) (eU b) l))):=by
 obtain⟨Γ,sG,sI,hΓ,hs,hi,hp,hI⟩:∃ (Γ:FuncId->Option Spec) (sG sI:Spec),(∀ f s,Γ f=some s->ak Tryd.prog f s)/\Γ 49=some sG/\Γ 72=some sI/\
  (∀ (obj:Name->Option O) (t:Name) (x:Par),sG.app obj t [.agg ((encPa x).cells.map .v),.v (.ptr (bW b))]=⟨True,.v (.bool (eU b x)),obj⟩)/\
  ∀ (obj:Name->Option O) (t:Name),obj [0,1]=some (.arr 2 (l.map encPa))->sI.app obj t [.msl [0,1] l.length,.clo (.func 49) [] [.v (.ptr (bW b))]]=⟨True,.v (vInt (eH (eU b) l)),obj⟩:=
  ⟨tbl DW,S65,S101,YK,rfl,rfl,fun obj t x=>by simp only[go_sem],fun obj t e=>by simp only[go_sem,e,List.length_map]⟩
 generalize sd:lh encPa (encPa lB) (eU b) l=XX
 generalize hpg:eU b=p at *
 simp only[encPa,V.cells,List.map_cons,List.map_nil]at hp
 refine⟨_,rfl,?_⟩
 have hm:l.length<=maxLen:=by unfold maxLen;omega
 repeat refine sq ?_
 refine rx hΓ [0,1] [] (fun K' hK=>by simp only[go_sem,ga];(repeat (refine⟨ah,?_⟩));exact hK _ (by simp only[go_sem,ga]) (by simp only[go_sem,ga]<;>rfl)) ?_
 repeat refine sq ?_
 refine rx hΓ [0,1,5] [] (fun K' hK=>by simp only[go_sem,ga,hI,hi,ox,implies_true];(repeat (refine⟨ah,?_⟩));exact hK _ (by simp only[go_sem,ga,hI,hi,ox,implies_true]) (by simp only[go_sem,ga,hI,hi,ox,implies_true]<;>rfl)) ?_
 repeat refine sq ?_
 refine rx hΓ [0,1,5,12] [] (fun K' hK=>by simp only[go_sem,ga];(repeat (refine⟨ah,?_⟩));exact hK _ (by simp only[go_sem,ga]) (by simp only[go_sem,ga]<;>rfl)) ?_
 repeat refine sq ?_
 refine ax rfl rfl (fun hb=>?_) (fun hb=>?_)
 ·repeat refine sq ?_
  refine rx hΓ [4] [] (fun K' hK=>by simp only[go_sem,ga];(repeat (refine⟨ah,?_⟩));exact hK _ (by simp only[go_sem,ga]) (by simp only[go_sem,ga]<;>rfl)) ?_
  refine bq (Ny 4 (.msl [0,1] l.length) (by simp only[go_sem]) (by simp only[go_sem,ox,List.length_map]) [4] [] ?_ rfl) ?_
  ·simp only[go_sem,ox,Jm]
  simp only[go_sem,ox]
  refine av ?_
  simp only[go_sem,ox]
  have cF:eH p l= -1:=by simpa using hb
  have dv:∀ d∈l,p d=false:=by
   unfold eH at cF
   split at cF
   ·omega
   ·rename_i hn
    intro d hd
    cases UI:p d with
    |false=>rfl
    |true=>exact(hn (List.any_eq_true.2 ⟨d,hd,UI⟩)).elim
  have hk:fU p l=l:=List.filter_eq_self.2 fun d hd=>by rw[dv d hd];rfl
  have xF:XX=l.map encPa:=by rw[<-sd];unfold lh;rw[hk];simp
  rw[hk,xF]
  exact⟨.inr trivial,rfl,rfl⟩
 have hf:l.findIdx p<l.length:=by
  have cF:¬ eH p l= -1:=by simpa using hb
  unfold eH at cF
  split at cF
  ·rename_i Vz
   exact List.findIdx_lt_length_of_exists (by obtain⟨y,hy,hp⟩:=List.any_eq_true.1 Vz;exact⟨y,hy,hp⟩)
  ·exact(cF rfl).elim
 have ot:eH p l=(l.findIdx p:Int):=by unfold eH;rw[if_pos (List.any_eq_true.2 ⟨_,List.getElem_mem hf,List.findIdx_getElem (w:=hf)⟩)]
 rw[ot]
 clear hb ot hi hI
 have UH:p (l[l.findIdx p])=true:=List.findIdx_getElem (w:=hf)
 have IP:∀ j (h:j<l.length),j<l.findIdx p->p l[j]=false:=fun j h hj=>by simpa using List.not_of_lt_findIdx hj
 generalize l.findIdx p=f at *
 repeat refine sq ?_
 refine aC ?_
 repeat refine sq ?_
 refine rx hΓ [0,1,5,6] [] (fun K' hK=>by simp only[go_sem,ga,aA hf hm,Int.natCast_add,Int.natCast_one];(repeat (refine⟨ah,?_⟩));exact hK _ (by simp only[go_sem,ga,aA hf hm,Int.natCast_add,Int.natCast_one]) (by simp only[go_sem,ga,aA hf hm,Int.natCast_add,Int.natCast_one]<;>rfl)) ?_
 repeat refine sq ?_
 refine aJ ?_
 repeat refine sq ?_
 refine Xt (fun x:Nat×Nat×List Par=>upd H [0,1] (some (.arr 2 (x.2.2.map encPa)))) (fun x=>[(5,⟨true,.v (vInt x.1)⟩),(6,⟨true,.v (vInt x.2.1)⟩)]) (fun x=>[]) (fun x=>x.1<x.2.1/\x.2.1<=l.length/\x.2.2.length=l.length/\x.2.2.take x.1=fU p (l.take x.2.1)/\x.2.2.drop x.2.1=l.drop x.2.1) (fun x=>l.length-x.2.1) (f,f+1,l) ?_ ?_ ?_ ?_ ?_
 ·refine⟨(show f<f+1 by omega),hf,rfl,?_,rfl⟩
  show l.take f=fU p (l.take (f+1))
  unfold fU
  rw[List.take_add_one,List.getElem?_eq_getElem hf,List.filter_append]
  simp only[Option.toList_some,List.filter_cons,UH,Bool.not_true,Bool.false_eq_true,if_false,List.filter_nil,List.append_nil]
  rw[List.filter_eq_self.2]
  intro d hd
  obtain⟨j,hj,rfl⟩:=List.getElem_of_mem hd
  have ew:j<f:=by simp at hj;omega
  rw[List.getElem_take,IP j (by omega) ew]
  rfl
 ·congr 1
  rw[<-ox]
  funext x
  by_cases e:x=[0,1]
  ·subst e;rw[aE]
  ·rw[aL _ _ _ e]
 ·rfl
 ·rfl
 clear IP
 rintro⟨i,j,A⟩ ⟨gm,hj,hA,hT,hD⟩
 simp only at gm hj hA hT hD
 dsimp only
 generalize qj:upd H [0,1] (some (O.arr 2 (List.map encPa A)))=H'
 have h0:H' [0,1]=some (.arr 2 (A.map encPa)):=by rw[<-qj,aE]
 have uK:∀ i,H' [i+1,1]=H [i+1,1]:=fun i=>by rw[<-qj,aL _ _ _ (by simp)]
 have gb:∀ hs,cZ [0] (cM [0] hs) H'=True:=fun hs=>by rw[<-qj];exact fJ _ _ _
 have jM:∀ hs sz L,cZ [0] (cM [0] hs) (upd H' [0,1] (some (.arr sz L)))=True:=fun hs sz L=>by rw[<-qj,qP];exact fJ _ _ _
 have VL:∀ hs sz L,cZ [0] (cM [0] hs) (upd H' [0,1] (some (.farr sz L)))=True:=fun hs sz L=>by rw[<-qj,qP];exact Jm _ _ _
 simp only[go_sem]
 repeat refine sq ?_
 refine rx hΓ [0,1,5,6,19] [] (fun K' hK=>by simp only[go_sem,gb,jM,h0];(repeat (refine⟨ah,?_⟩));exact hK _ (by simp only[go_sem,gb,jM,h0]) (by simp only[go_sem,gb,jM,h0]<;>rfl)) ?_
 repeat refine sq ?_
 refine ax rfl rfl (fun hb=>?_) (fun hb=>?_)
 ·have ae:j<l.length:=by simpa using hb
  have BN:j<A.length:=by omega
  have uv:i<A.length:=by omega
  have U4:(i:Int)<l.length:=by omega
  have ai:(j:Int)<l.length:=by omega
  have Cl:A[j]=l[j]:=by
   have h1:A[j]=(A.drop j)[0]'(by simp;omega):=by simp
   rw[h1]
   simp only[hD]
   simp
  clear hb
  repeat refine sq ?_
  refine aC ?_
  repeat refine sq ?_
  refine aJ ?_
  repeat refine sq ?_
  refine rx hΓ [0,1,5,6,7] [[7,0]] (fun K' hK=>by simp only[go_sem,gb,jM,h0,aH BN,Int.toNat_natCast,Int.natCast_nonneg,ai,hA,Cl];(repeat (refine⟨ah,?_⟩));exact hK _ (by simp only[go_sem,gb,jM,h0,aH BN,Int.toNat_natCast,Int.natCast_nonneg,ai,hA,Cl]) (by simp only[go_sem,gb,jM,h0,aH BN,Int.toNat_natCast,Int.natCast_nonneg,ai,hA,Cl]<;>rfl)) ?_
  repeat refine sq ?_
  refine rx hΓ [0,1,5,6,7,29] [[7,0]] (fun K' hK=>by simp only[go_sem,gb,jM,h0,hs,hp];(repeat (refine⟨ah,?_⟩));exact hK _ (by simp only[go_sem,gb,jM,h0,hs,hp]) (by simp only[go_sem,gb,jM,h0,hs,hp]<;>rfl)) ?_
  repeat refine sq ?_
  refine ax rfl rfl (fun hb=>?_) (fun hb=>?_)
  ·have UG:p l[j]=false:=by simpa using hb
   clear hb
   repeat refine sq ?_
   refine yl hΓ [0,1,5,6] [] fun K' hK=>?_
   simp only[go_sem,gb,jM,h0,Int.toNat_natCast,Int.natCast_nonneg,U4,hA]
   repeat' apply And.intro
   all_goals first | rfl | omega | exact Int.le_refl _ | exact Bool.or_not_self _ | exact Bool.not_or_self _ | exact CP _ | exact CQ _ | exact fun x hx=>(CP _ x hx).1 | exact fun x hx=>(CQ _ x hx).1 | (simp only[List.length_take,List.length_append,List.length_map,List.length_drop,List.length_cons,List.length_nil];done) | (simp only[List.length_take,List.length_append,List.length_map,List.length_drop,List.length_cons,List.length_nil];omega) | (simp only[List.length_take,List.length_append,List.length_map,List.length_drop,List.length_cons,List.length_nil,maxLen];omega) | (exact fun _=>by decide) | (exact fun h=>⟨h,by decide⟩) | (simp only[decide_eq_true_eq];omega) | skip
   refine hK _ ?_ ?_
   ·simp only[go_sem,gb,jM]
   clear K' hK
   simp only[go_sem]
   obtain⟨H2,Cg⟩:∃ H2,upd H' [0,1] (some (O.arr 2 ((List.map encPa A).set i (encPa l[j]))))=H2:=⟨_,rfl⟩
   have Js:=Cg
   simp only[encPa]at Js
   rw[Js]
   have uI:∀ hs,cZ [0] (cM [0] hs) H2=True:=fun hs=>by rw[<-Cg];exact jM _ _ _
   repeat refine sq ?_
   refine aQ hΓ fun K' hK=>?_
   simp only[go_sem]
   repeat (refine⟨ah,?_⟩)
   refine hK _ ?_
   clear K' hK
   simp only[go_sem]
   refine mb [0,1,5,6] [] ?_ ?_
   ·simp only[go_sem,uI]
   simp only[go_sem,uI]
   repeat refine sq ?_
   refine aQ hΓ fun K' hK=>?_
   simp only[go_sem]
   repeat (refine⟨ah,?_⟩)
   refine hK _ ?_
   clear K' hK
   simp only[go_sem]
   refine⟨(i+1,j+1,A.set i l[j]),⟨(show i+1<j+1 by omega),ae,by simpa using hA,?_,?_⟩,(show l.length-(j+1)<l.length-j by omega),?_⟩
   ·show (A.set i l[j]).take (i+1)=fU p (l.take (j+1))
    unfold fU at hT |-
    rw[List.take_add_one (l:=l),List.getElem?_eq_getElem ae,List.filter_append,<-hT]
    simp only[Option.toList_some,List.filter_cons,UG,Bool.not_false,if_true,List.filter_nil]
    rw[List.take_add_one,List.take_set_of_le (Nat.le_refl i),List.getElem?_set_self uv]
    rfl
   ·show (A.set i l[j]).drop (j+1)=l.drop (j+1)
    rw[List.drop_set_of_lt (show i<j+1 by omega)]
    have :=congrArg (List.drop 1) hD
    simpa[List.drop_drop]using this
   ·refine bd [0,1,5,6] [] ?_ ?_
    ·simp only[go_sem,uI]
    ·simp only[go_sem,aA ae hm,aA (show i<l.length by omega) hm,Int.natCast_add,Int.natCast_one]
     rw[<-Cg,<-qj,qP,List.map_set]
     try rfl
  ·have UE:p l[j]=true:=by simpa using hb
   clear hb
   repeat refine sq ?_
   refine aC ?_
   refine cX ?_
   simp only[go_sem]
   refine mb [0,1,5,6] [] ?_ ?_
   ·simp only[go_sem,gb]
   simp only[go_sem,gb]
   repeat refine sq ?_
   refine aQ hΓ fun K' hK=>?_
   simp only[go_sem]
   repeat (refine⟨ah,?_⟩)
   refine hK _ ?_
   clear K' hK
   simp only[go_sem]
   refine⟨(i,j+1,A),⟨(show i<j+1 by omega),ae,hA,?_,?_⟩,(show l.length-(j+1)<l.length-j by omega),?_⟩
   ·show A.take i=fU p (l.take (j+1))
    unfold fU at hT |-
    rw[List.take_add_one (l:=l),List.getElem?_eq_getElem ae,List.filter_append,<-hT]
    simp only[Option.toList_some,List.filter_cons,UE,Bool.not_true,Bool.false_eq_true,if_false,List.filter_nil,List.append_nil]
   ·show A.drop (j+1)=l.drop (j+1)
    have :=congrArg (List.drop 1) hD
    simpa[List.drop_drop]using this
   ·refine bd [0,1,5,6] [] ?_ ?_
    ·simp only[go_sem,gb]
    ·simp only[go_sem,aA ae hm,Int.natCast_add,Int.natCast_one]
     rw[<-qj]
 ·have aV:j=l.length:=by
    have :¬ (j:Int)<l.length:=by simpa using hb
    omega
  subst aV
  clear hb
  rw[List.take_length]at hT
  have uv:i<A.length:=by omega
  repeat refine sq ?_
  refine bK ?_
  simp only[go_sem]
  refine mb [0,5] [] ?_ ?_
  ·simp only[go_sem,gb]
  simp only[go_sem,gb]
  repeat refine sq ?_
  refine Xs hΓ [0,5] [] fun K' hK=>?_
  refine E' ?_ (E' ?_ (.cut (T:=35) (x:=.tmp 36) (lo:=.tmp 37) (c:=38) rfl rfl ?_ ?_ ?_ ?_ (.nil ?_)))
  ·simp only[go_sem]
  ·simp only[go_sem]
  ·simp only[go_sem]
  ·simp only[go_sem]
  ·simp only[go_sem]
  ·have jh:=fun (obj:Name->Option O) (h:obj [0,1]=_)=>Da (obj:=obj) (nm:=[0,1]) (k:=l.length) (i:=i) (L:=A.map encPa) h (by simpa using hA.symm) (by simpa using uv)
   simp only[go_sem,ll,DG,jh,h0]
  ·refine hK _ ?_ ?_
   ·simp only[go_sem,oI,ll,DG,Da (obj:=fun nm=>if own [0] nm=true then none else H' nm) (nm:=[0,1]) (k:=l.length) (i:=i) (L:=A.map encPa) h0 (by simpa using hA.symm) (by simpa using uv),jM]
   clear K' hK
   simp only[go_sem,oI,ll,DG,Da (obj:=fun nm=>if own [0] nm=true then none else H' nm) (nm:=[0,1]) (k:=l.length) (i:=i) (L:=A.map encPa) h0 (by simpa using hA.symm) (by simpa using uv)]
   have jH:(fU p l).length=i:=by rw[<-hT,List.length_take];omega
   have B':(List.take i (List.map encPa A)++List.replicate (A.length-i) (encPa lB))=XX:=by
    rw[<-sd]
    unfold lh
    rw[jH,<-hT,List.map_take,hA]
   have hZ1:XX.length=l.length:=by rw[<-sd];unfold lh;simp;omega
   have VC:XX.take i=(fU p l).map encPa:=by
    rw[<-sd]
    unfold lh
    rw[List.take_append_of_le_length (by simp;omega),List.take_of_length_le (by simp;omega)]
   have VB:∀ x∈XX,x.cells.length=2:=by
    intro x hx
    rw[<-sd]at hx
    rcases List.mem_append.1 hx with h | h
    ·obtain⟨y,_,rfl⟩:=List.mem_map.1 h;rfl
    ·rw[(List.mem_replicate.1 h).2];rfl
   simp only[encPa]at B'
   rw[B']
   clear B'
   clear sd
   generalize XX=Z at *
   simp only[V.cells]at VB
   generalize Cf:upd H' [0,1] (some (O.arr 2 Z))=H3
   have Wc:H3 [0,1]=some (.arr 2 Z):=by rw[<-Cf,aE]
   have hI3:∀ i,H3 [i+1,1]=H [i+1,1]:=fun i=>by rw[<-Cf,aL _ _ _ (by simp)];exact uK i
   have VK:∀ hs sz L,cZ [0] (cM [0] hs) (upd H3 [0,1] (some (.farr sz L)))=True:=fun hs sz L=>by rw[<-Cf,qP];exact VL _ _ _
   have U3:(i:Int)<=l.length:=by omega
   repeat refine sq ?_
   refine yl hΓ [4] [] fun K' hK=>?_
   simp only[go_sem,Wc,El,Int.toNat_natCast,Int.natCast_nonneg,U3]
   repeat' apply And.intro
   all_goals first | rfl | omega | exact Int.le_refl _ | exact Bool.or_not_self _ | exact Bool.not_or_self _ | exact CP _ | exact CQ _ | exact fun x hx=>(CP _ x hx).1 | exact fun x hx=>(CQ _ x hx).1 | (simp only[List.length_take,List.length_append,List.length_map,List.length_drop,List.length_cons,List.length_nil];done) | (simp only[List.length_take,List.length_append,List.length_map,List.length_drop,List.length_cons,List.length_nil];omega) | (simp only[List.length_take,List.length_append,List.length_map,List.length_drop,List.length_cons,List.length_nil,maxLen];omega) | (exact fun _=>by decide) | (exact fun h=>⟨h,by decide⟩) | (simp only[decide_eq_true_eq];omega) | skip
   refine hK _ ?_ ?_
   ·simp only[go_sem,VK]
   clear K' hK
   simp only[go_sem]
   refine av ?_
   simp only[go_sem,VC]
   exact .inr trivial
noncomputable def delCP:CSpec where
 pre:=fun os ds=>∃ (l:List Par) (b:Bag),os=[.arr 2 (l.map encPa)]/\ds=[.msl [0,1] l.length,.clo (.func 49) [] [.v (.ptr (bW b))]]/\l.length<1000000
 out:=fun os ds=>match os,ds with
  |[.arr _ L],[_,.clo _ _ [.v x]]=>⟨[(0,.farr 2 (lh encPa (encPa lB) (eU (lj x)) (L.map iA)))],[],.v (.sl ((fU (eU (lj x)) (L.map iA)).map encPa))⟩
  |_,_=>⟨[],[],.any⟩
noncomputable def qx(obj:Name->Option O)(_:Name):List D->R
 |[.msl nm k,.clo (.func 49) [] [.v (.ptr cs)]]=>match obj nm with
  |some (.arr 2 L)=>⟨k=L.length/\L.length<1000000/\(L.map iA).map encPa=L/\bW (lj (.ptr cs))=cs,.v (.sl ((fU (eU (lj (.ptr cs))) (L.map iA)).map encPa)),upd obj nm (some (.farr 2 (lh encPa (encPa lB) (eU (lj (.ptr cs))) (L.map iA))))⟩
  |_=>.bad obj
 |_=>.bad obj
def oH(_:Name->Option O)(_:Name):List D->List Name
 | .msl nm _::_=>[nm]
 |_=>[]
noncomputable def S64:Spec:=⟨qx,oH,oH⟩
attribute [go_sem] S64 qx
theorem WT:S64.Near:=by
 refine Ag fun obj obj2 t ds ha=>⟨rfl,?_⟩
 have fc:∀ wr,bo wr obj obj2->bx (R.bad obj) (R.bad obj2) obj obj2 wr:=fun wr h=>.none wr h
 unfold qx
 split
 ·rename_i nm k cs
  have h1:obj2 nm=obj nm:=ha nm (by simp[oH])
  simp only[h1]
  split
  ·exact .one (by simp[oH]) ha
  ·exact fc _ ha
 ·exact fc _ ha
theorem Tq:ak Tryd.prog 48 delCP.toSpec:=by
 refine lk (nt:=42) (rs:=[.tmp 4]) Tryd.func48 rfl (by rfl) (by kernel_rfl) (gv Tryd.func48 rfl (by kernel_rfl)) (mG _ (by decide)) ?_
 rintro os ds ⟨l,b,rfl,rfl,hl⟩
 refine⟨lb rfl,?_⟩
 have fB:delCP.out [.arr 2 (l.map encPa)] [.msl [0,1] l.length,.clo (.func 49) [] [.v (.ptr (bW b))]]=⟨[(0,.farr 2 (lh encPa (encPa lB) (eU b) l))],[],.v (.sl ((fU (eU b) l).map encPa))⟩:=by
  simp only[delCP,C4,W0]
 rw[fB]
 have ga:∀ hs,cZ [0] (cM [0] hs) (be [.arr 2 (l.map encPa)])=True:=fun hs=>eq_true (z1 (by
  intro o ho dom hd
  simp only[List.mem_singleton]at ho
  subst ho
  rfl) hs)
 obtain⟨c,hc,h⟩:=NF b (H:=be [.arr 2 (l.map encPa)]) hl rfl ga (fun hs sz L=>eq_true (DR rfl (by rw[ga];trivial))) (fun hs sz L=>eq_true (DR rfl (by rw[ga];trivial)))
 have qb:∀ c2,Tryd.f48.body=some c2->c2=c:=fun c2 h2=>by rw[h2]at hc;exact Option.some.inj hc
 rw[<-qb _ rfl]at h
 refine CW.mono (iD h) ?_
 rintro e σ ⟨he,h1,h2,h3⟩
 have fin:(bL Tryd.prog σ [.tmp 4]).ok/\(bL Tryd.prog σ [.tmp 4]).d=.v (.sl ((fU (eU b) l).map encPa))/\fL [.arr 2 (l.map encPa)] ⟨[(0,.farr 2 (lh encPa (encPa lB) (eU b) l))],[],.v (.sl ((fU (eU b) l).map encPa))⟩ σ:=
  ⟨h1,h2,⟨h3,trivial⟩,trivial,rfl⟩
 rcases he with rfl | rfl
 ·exact fin
 ·exact fin
theorem k64:ak Tryd.prog 48 S64:=by
 refine zd Tq WT (mG _ (by decide)) fun obj t ds aa=>?_
 change (qx obj t ds).ok at aa
 refine⟨ds,rfl,fun _ _ _ _ h=>h,?_⟩
 show _/\_=(qx obj t ds).d/\_=(qx obj t ds).obj
 unfold qx at aa |-
 split at aa
 ·rename_i nm k cs
  split at aa
  ·rename_i L ho
   obtain⟨rfl,hl,he,hg⟩:=aa
   have hr:reach obj [.msl nm L.length,.clo (.func 49) [] [.v (.ptr cs)]]=[nm]:=by
    unfold reach
    show ef obj (2998+1+1) [nm] []=[nm]
    simp only[ef,bY,List.any_nil,Bool.false_eq_true,if_false,ho,nW,List.nil_append]
   have i0:idx [nm] nm=0:=by simp[idx]
   have e1:bZ obj [.msl nm L.length,.clo (.func 49) [] [.v (.ptr cs)]]=[.arr 2 L]:=by
    unfold bZ
    rw[hr]
    simp only[List.map_cons,List.map_nil,bV,ho,O.ren]
   have e2:cG obj [.msl nm L.length,.clo (.func 49) [] [.v (.ptr cs)]]=[.msl [0,1] L.length,.clo (.func 49) [] [.v (.ptr cs)]]:=by
    unfold cG
    rw[hr]
    simp only[D.renL,D.ren,cin,i0]
   have e3:(shut obj [nm]&&D.closL (bY [nm]) [.msl nm L.length,.clo (.func 49) [] [.v (.ptr cs)]]&&fresh obj t [])=true:=by
    simp[shut,ho,O.clos,D.closL,D.clos,bY,fresh]
   have cr:delCP.pre [.arr 2 L] [.msl [0,1] L.length,.clo (.func 49) [] [.v (.ptr cs)]]:=⟨L.map iA,lj (.ptr cs),by rw[he],by rw[List.length_map,hg],by rw[List.length_map];exact hl⟩
   have fB:delCP.out [.arr 2 L] [.msl [0,1] L.length,.clo (.func 49) [] [.v (.ptr cs)]]=⟨[(0,.farr 2 (lh encPa (encPa lB) (eU (lj (.ptr cs))) (L.map iA)))],[],.v (.sl ((fU (eU (lj (.ptr cs))) (L.map iA)).map encPa))⟩:=rfl
   simp only[CSpec.toSpec,e1,e2,hr,fB,e3,cr,ho,and_self,cV]
   exact⟨trivial,rfl,rfl⟩
  ·exact aa.elim
 ·exact aa.elim
end Go.Eng
set_option linter.unusedVariables false
namespace Go.Eng
open Go Go.Proofs Go.RowKit Go.Lib Go.Shelf
set_option maxHeartbeats 4000000 in
set_option maxRecDepth 100000 in
theorem T4(b off n c i vb eS m vc:Nat)(cs vs:List Value)(w:World)(hi:i<n)(hm:0<m)(jc:n+m<=c)(Jf:c<=9223372036854775807)(xg:vb≠b)
 (bI:cs.length=n) (A6:vs.length=m)
 (fD:∀ j v,cs[j]?=some v->w.cell? ⟨b,off+j,none⟩=some v) (jG:∀ j,j<n+m->(w.cell? ⟨b,off+j,none⟩).isSome=true) (oq:∀ j,w.frozen? ⟨b,j,none⟩=false)
 (pO:∀ j v,vs[j]?=some v->w.cell? ⟨vb,eS+j,none⟩=some v) (uM:∀ v∈cs,v.oneCell'=true) (Cr:∀ v∈vs,v.oneCell'=true)
 (tA tB:TypeId) (kA kB:Nat) (tW:w.shape? vb=some (tA,kA)) (tV:w.shape? b=some (tB,kB)) (BK:kA≠0):
 Calls Tryd.prog 74 #[.slice (some ⟨b,off,none⟩) n c,.int .i64 i,.slice (some ⟨vb,eS,none⟩) m vc] w fun e w'=>
  e=.returned (.slice (some ⟨b,off,none⟩) (n+m) c)/\w'=(w.drew.setCells b (off+(i+m)) (cs.drop (i))).setCells b (off+i) vs:=by
 have mixed:Tryd.prog.follows Departure.mixedOrders=true:=by kernel_rfl
 have gT:¬ ((m:Int)=0):=by omega
 have mQ:¬ ((i:Int)=(n:Int)):=by omega
 have UK:∀ lb cb,(callFunc 81 #[.slice (some ⟨vb,eS,none⟩) m vc,.slice (some ⟨b,off+(i+m),none⟩) lb cb]).run Tryd.prog w=.ok (.value (.bool false)) w:=fun lb cb=>by
  rw[run_callFunc_extern Tryd.func81 (by kernel_rfl) (by kernel_rfl) (by kernel_rfl) (e:=Extern.SlicesOverlaps.overlaps #[34,34] #[4]) (by kernel_rfl),
   Qb w 34 4 3 Tryd.underlying34 1 Tryd.sizeOf3 ⟨vb,eS,none⟩ ⟨b,off+(i+m),none⟩ m vc lb cb xg tA tB kA kB tW tV BK (oq _) (oq _)]
  rfl
 have r8:(cs.drop (i)).length=n-i:=by rw[List.length_drop,bI];try omega
 have ej:IntKind.i64.wrap ((i:Int)+(m:Int))=(i:Int)+(m:Int):=by rw[IntKind.wrap_i64];omega
 have fg:(0:Int)<=(i:Int)+(m:Int):=by omega
 have fY:i<=n:=by omega
 have Us:((i:Int)+(m:Int)).toNat=i+m:=by omega
 have e7:¬ (c=i+m):=by omega
 have B4:(i:Int)<=(n:Int)+(m:Int):=by omega
 have hb4:¬ (c=i):=by omega
 have uh:Nat.min (n+m-i) (n+m-(i+m))=n-i:=by simp only[Nat.min_def];split<;>omega
 have Jb:∀ ty dc sc,(Builtin.copy_ #[34,34] ty #[.slice (some ⟨b,off+(i+m),none⟩) (n+m-(i+m)) dc,.slice (some ⟨b,off+i,none⟩) (n+m-i) sc]).run Tryd.prog w.drew=.ok (goInt (n-i:Nat)) (w.drew.setCells b (off+(i+m)) (cs.drop (i))):=fun ty dc sc=>by
  have h:=vT (P:=Tryd.prog) 1 w.drew 34 34 ty 3 b (off+(i+m)) (n+m-(i+m)) dc ⟨b,off+i,none⟩ (n+m-i) sc (cs.drop (i)) Tryd.underlying34 Tryd.sizeOf3 (by rw[r8,uh];omega)
   (fun j v hj=>by rw[Addr.add_lit,Nat.add_assoc];exact fD (i+j) v (by rwa [List.getElem?_drop]at hj))
   (fun j hj=>by rw[Nat.add_assoc];exact jG _ (by omega)) (fun j hj=>by exact oq _) (fun v hv=>uM v (List.mem_of_mem_drop hv))
  rw[uh]at h
  exact h
 obtain⟨W1,gr⟩:∃ W1,W1=w.drew.setCells b (off+(i+m)) (cs.drop (i)):=⟨_,rfl⟩
 have Ux:∀ k,k<n+m->(W1.cell? ⟨b,off+k,none⟩).isSome=true:=fun k hk=>by
  rw[gr]
  exact isSome_setCells b _ _ _ (fun j hj=>by rw[Nat.add_assoc];exact jG _ (by omega)) _ (jG k hk)
 have ug:Nat.min m (n+m-i)=m:=by simp only[Nat.min_def];split<;>omega
 have Vm:∀ (W:World),(∀ x,W.cell? x=W1.cell? x)->(∀ x,W.frozen? x=W1.frozen? x)->∀ ty dc,(Builtin.copy_ #[34,34] ty #[.slice (some ⟨b,off+i,none⟩) (n+m-i) dc,.slice (some ⟨vb,eS,none⟩) m vc]).run Tryd.prog W=.ok (goInt m) (W.setCells b (off+i) vs):=fun W ow uG ty dc=>by
  have h:=vT (P:=Tryd.prog) 1 W 34 34 ty 3 b (off+i) (n+m-i) dc ⟨vb,eS,none⟩ m vc vs Tryd.underlying34 Tryd.sizeOf3 (by rw[ug,A6];omega)
   (fun j v hj=>by
     rw[Addr.add_lit,ow,gr,World.cell?_setCells_out b _ _ _ _ (fun h _=>absurd h xg)]
     exact pO j v hj)
   (fun j hj=>by rw[ow,Nat.add_assoc];exact Ux _ (by omega)) (fun j hj=>by rw[uG,gr,World.frozen?_setCells];exact oq _) Cr
  rw[ug]at h
  exact h
 rw[<-gr]at Jb
 go_enter Tryd.func74,Tryd.ntmps74
 go_wp2_with (simp only[UK])
 go_region_law_o (refine step_copy_runI rfl _ _ 34 34 rfl _ _ (by simp[Act.eval,Act.put]) (by simp[Act.eval,Act.put]) (Jb _ _ _) ?_)
 go_wp2_with (at_builtin;refine wpList_copy_runI _ rfl _ _ 34 34 rfl _ _ rfl rfl (Vm _ (fun _=>rfl) (fun _=>rfl) _ _) ?_)
 go_ret
 first | exact⟨rfl,rfl⟩ | exact⟨rfl,by rw[gr]⟩
set_option maxHeartbeats 4000000 in
set_option maxRecDepth 100000 in
theorem T6(b off n c i vb eS m vc:Nat)(cs vs:List Value)(w:World)(hi:i<n)(hm:0<m)(Bz:n<=c)(jc:c<n+m)(Vt:(n+m)*8<=140737488355328)
 (bI:cs.length=n) (A6:vs.length=m)
 (fD:∀ j v,cs[j]?=some v->w.cell? ⟨b,off+j,none⟩=some v)
 (pO:∀ j v,vs[j]?=some v->w.cell? ⟨vb,eS+j,none⟩=some v) (uM:∀ v∈cs,v.oneCell'=true) (Cr:∀ v∈vs,v.oneCell'=true):
 Calls Tryd.prog 74 #[.slice (some ⟨b,off,none⟩) n c,.int .i64 i,.slice (some ⟨vb,eS,none⟩) m vc] w fun e w'=>
  e=.returned (.slice (some ⟨w.heap.size,0,none⟩) (n+m) (grownCap w (n+m) c 3))/\
  w'=(((w.alloc (.cells ((cs.take (i)).toArray++Builtin.zeroCells (.int .i64 0:Value).cells (n+m-i)++Builtin.zeroCells (.int .i64 0:Value).cells (grownCap w (n+m) c 3-(n+m))) 3)).drew.setCells w.heap.size (i) vs).drew).setCells w.heap.size ((i+m)) (cs.drop (i)):=by
 have mixed:Tryd.prog.follows Departure.mixedOrders=true:=by kernel_rfl
 have sf:bD Tryd.prog 34=some (3,1,8):=by kernel_rfl
 have uH:ba Tryd.prog 3=some (.int .i64 0):=by kernel_rfl
 obtain⟨i0,ka,bw,pK,Io⟩:∃ i0,Tryd.prog.info? 3=some i0/\i0.zero=some (.int .i64 0)/\i0.size=1/\i0.bytes=8:=by
  obtain⟨hu,i0,h1,h2,h3⟩:=gi sf
  refine⟨i0,h1,?_,h2,h3⟩
  unfold ba at uH
  rw[h1]at uH
  exact uH
 have gT:¬ ((m:Int)=0):=by omega
 have mQ:¬ ((i:Int)=(n:Int)):=by omega
 have rS:(c:Int)<(n:Int)+(m:Int):=by omega
 have Jg:b<w.heap.size:=block_lt_of_cell (fD 0 _ (List.getElem?_eq_getElem (by omega)))
 have Up:vb<w.heap.size:=block_lt_of_cell (pO 0 _ (List.getElem?_eq_getElem (by omega)))
 have xy:(n:Int)+(m:Int)-(i:Int)=((n+m-i:Nat):Int):=by omega
 have uu:i+(n+m-i)=n+m:=by omega
 have hold:(Builtin.firstCells i0.size i (.slice (some ⟨b,off,none⟩) i c)).run Tryd.prog w.drew=.ok (cs.take (i)).toArray w.drew:=by
  rw[pK]
  exact run_firstCells_some w.drew 1 i ⟨b,off,none⟩ i c (cs.take (i)) (by rw[List.length_take];omega) (fun j v hj=>by
   rw[Addr.add_lit]
   rw[List.getElem?_take]at hj
   split at hj
   ·exact fD j v hj
   ·cases hj)
 have rV:∀ ty,(Builtin.append_ #[34,3] ty #[.slice (some ⟨b,off,none⟩) i c,.int .i64 ((n:Int)+(m:Int)-(i:Int))]).run Tryd.prog w=
     .ok (.slice (some ⟨w.heap.size,0,none⟩) (n+m) (grownCap w (n+m) c 3)) (w.drew.alloc (.cells ((cs.take (i)).toArray++Builtin.zeroCells (.int .i64 0:Value).cells (n+m-i)++Builtin.zeroCells (.int .i64 0:Value).cells (grownCap w (n+m) c 3-(n+m))) 3)):=fun ty=>by
  have h:=Lib.run_append_grow_zeros w 34 3 ty 3 i0 _ .i64 .i64 Tryd.underlying34 Tryd.underlying3 ka bw (some ⟨b,off,none⟩) i c (cs.take (i)) hold (n+m-i) (by omega) (by omega) (by omega) (by omega) (by rw[Io];omega) (by rw[Io,uu];exact growslice_fits jc Vt)
  rw[uu]at h
  rw[xy]
  exact h
 obtain⟨G,hG⟩:∃ G,G=grownCap w (n+m) c 3:=⟨_,rfl⟩
 obtain⟨ROW,qi⟩:∃ ROW:Array Value,ROW=(cs.take (i)).toArray++Builtin.zeroCells (.int .i64 0:Value).cells (n+m-i)++Builtin.zeroCells (.int .i64 0:Value).cells (G-(n+m)):=⟨_,rfl⟩
 rw[<-hG]at rV |-
 rw[<-qi]at rV |-
 have VG:n+m<=ROW.size:=by
  rw[qi]
  simp[Builtin.zeroCells,Value.cells]
  omega
 obtain⟨W1,gr⟩:∃ W1,W1=w.drew.alloc (.cells ROW 3):=⟨_,rfl⟩
 rw[<-gr]at rV
 have hN:∀ j,j<n+m->(W1.cell? ⟨w.heap.size,j,none⟩).isSome=true:=fun j hj=>by
  rw[gr,World.cell?_alloc_at (w:=w.drew) ROW _ w.heap.size j rfl,Array.getElem?_eq_getElem (by omega)];rfl
 have Jn:∀ j,W1.frozen? ⟨w.heap.size,j,none⟩=false:=fun j=>by rw[gr];exact World.frozen?_alloc_at (w:=w.drew) ROW _ w.heap.size j rfl
 have uI:∀ j v,w.cell? ⟨b,j,none⟩=some v->W1.cell? ⟨b,j,none⟩=some v:=fun j v h=>by rw[gr,World.cell?_alloc_past (w:=w.drew) _ b j Jg];exact h
 have VJ:∀ j v,w.cell? ⟨vb,j,none⟩=some v->W1.cell? ⟨vb,j,none⟩=some v:=fun j v h=>by rw[gr,World.cell?_alloc_past (w:=w.drew) _ vb j Up];exact h
 have ug:Nat.min m (n+m-i)=m:=by simp only[Nat.min_def];split<;>omega
 have uh:Nat.min (n-i) (n+m-(i+m))=n-i:=by simp only[Nat.min_def];split<;>omega
 have Vl:∀ (W:World),(∀ x,W.cell? x=W1.cell? x)->(∀ x,W.frozen? x=W1.frozen? x)->∀ ty dc,(Builtin.copy_ #[34,34] ty #[.slice (some ⟨w.heap.size,i,none⟩) (n+m-i) dc,.slice (some ⟨vb,eS,none⟩) m vc]).run Tryd.prog W=.ok (goInt m) (W.setCells w.heap.size (i) vs):=fun W ow uG ty dc=>by
  have h:=vT (P:=Tryd.prog) 1 W 34 34 ty 3 w.heap.size (i) (n+m-i) dc ⟨vb,eS,none⟩ m vc vs Tryd.underlying34 Tryd.sizeOf3 (by rw[ug,A6];omega)
   (fun j v hj=>by rw[Addr.add_lit,ow];exact VJ _ v (pO j v hj))
   (fun j hj=>by rw[ow];exact hN _ (by omega)) (fun j hj=>by rw[uG];exact Jn _) Cr
  rw[ug]at h
  exact h
 have hGn:n+m<=G:=by rw[hG];exact grownCap_ge w _ _ _
 have adQ:G<=9223372036854775807:=by
  have :=grownCap_le_maxLen w (n+m) c 3 (by unfold maxLen;omega)
  rw[<-hG]at this
  unfold maxLen at this
  omega
 have hGi:¬ (G=i):=by omega
 have adP:¬ (G=i+m):=by omega
 have Jc:¬ (c=i):=by omega
 have Vu:b≠w.heap.size:=by omega
 have r8:(cs.drop (i)).length=n-i:=by rw[List.length_drop,bI];try omega
 have Ja:∀ (W:World),(∀ x,W.cell? x=(W1.setCells w.heap.size (i) vs).cell? x)->(∀ x,W.frozen? x=(W1.setCells w.heap.size (i) vs).frozen? x)->∀ ty dc sc,(Builtin.copy_ #[34,34] ty #[.slice (some ⟨w.heap.size,(i+m),none⟩) (n+m-(i+m)) dc,.slice (some ⟨b,off+i,none⟩) (n-i) sc]).run Tryd.prog W=.ok (goInt (n-i:Nat)) (W.setCells w.heap.size ((i+m)) (cs.drop (i))):=fun W ow uG ty dc sc=>by
  have h:=vT (P:=Tryd.prog) 1 W 34 34 ty 3 w.heap.size ((i+m)) (n+m-(i+m)) dc ⟨b,off+i,none⟩ (n-i) sc (cs.drop (i)) Tryd.underlying34 Tryd.sizeOf3 (by rw[r8,uh];omega)
   (fun j v hj=>by
     rw[Addr.add_lit,ow,World.cell?_setCells_out _ _ _ _ _ (fun h _=>absurd h Vu),Nat.add_assoc]
     exact uI _ v (fD (i+j) v (by rwa [List.getElem?_drop]at hj)))
   (fun j hj=>by rw[ow];exact isSome_setCells _ _ _ _ (fun t ht=>hN _ (by omega)) _ (hN _ (by omega)))
   (fun j hj=>by rw[uG,World.frozen?_setCells];exact Jn _) (fun v hv=>uM v (List.mem_of_mem_drop hv))
  rw[uh]at h
  exact h
 subst gr
 have V4:∀ x,((w.alloc (.cells ROW 3)).drew).cell? x=(w.drew.alloc (.cells ROW 3)).cell? x:=fun x=>rfl
 have V3:∀ x,((w.alloc (.cells ROW 3)).drew).frozen? x=(w.drew.alloc (.cells ROW 3)).frozen? x:=fun x=>rfl
 have V1:∀ x,(((w.alloc (.cells ROW 3)).drew.setCells w.heap.size (i) vs).drew).cell? x=((w.drew.alloc (.cells ROW 3)).setCells w.heap.size (i) vs).cell? x:=fun x=>rfl
 have V0:∀ x,(((w.alloc (.cells ROW 3)).drew.setCells w.heap.size (i) vs).drew).frozen? x=((w.drew.alloc (.cells ROW 3)).setCells w.heap.size (i) vs).frozen? x:=fun x=>rfl
 have ej:IntKind.i64.wrap ((i:Int)+(m:Int))=(i:Int)+(m:Int):=by rw[IntKind.wrap_i64];omega
 have fg:(0:Int)<=(i:Int)+(m:Int):=by omega
 have fY:i<=n:=by omega
 have Us:((i:Int)+(m:Int)).toNat=i+m:=by omega
 have B4:(i:Int)<=(n:Int):=by omega
 clear xy uu hold qi hG VG
 go_enter Tryd.func74,Tryd.ntmps74
 go_wp2_with (first
  |(at_builtin;refine Lib.wpList_append_run _ rfl _ _ _ _ rfl _ _ rfl rfl _ _ (rV _) ?_)
  |(at_builtin;refine wpList_copy_runI _ rfl _ _ 34 34 rfl _ _ rfl rfl (Vl _ V4 V3 _ _) ?_)
  |(at_builtin;refine wpList_copy_runI _ rfl _ _ 34 34 rfl _ _ rfl rfl (Ja _ (fun _=>rfl) (fun _=>rfl) _ _ _) ?_))
 go_region_law_o (refine step_copy_runI rfl _ _ 34 34 rfl (.slice (some ⟨w.heap.size,(i+m),none⟩) (n+m-(i+m)) (G-(i+m))) (.slice (some ⟨b,off+i,none⟩) (n-i) (c-i)) (by simp[Act.eval,Act.put]) (by simp[Act.eval,Act.put]) (Ja _ V1 V0 3 (G-(i+m)) (c-i)) ?_)
 go_wp2
 go_ret
 exact⟨rfl,rfl⟩
set_option maxHeartbeats 4000000 in
set_option maxRecDepth 100000 in
theorem T5(base:Option Addr)(n c vb eS m vc:Nat)(w:World)(v':Value)(w':World)(hm:0<m)(hn:n<=c)(Jf:c<=9223372036854775807)
 (cD:∀ ty,(Builtin.append_ #[34,34] ty #[.slice base n c,.slice (some ⟨vb,eS,none⟩) m vc]).run Tryd.prog w=.ok v' w'):
 Calls Tryd.prog 74 #[.slice base n c,.int .i64 n,.slice (some ⟨vb,eS,none⟩) m vc] w fun e w1=>e=.returned v'/\w1=w':=by
 have mixed:Tryd.prog.follows Departure.mixedOrders=true:=by kernel_rfl
 have gT:¬ ((m:Int)=0):=by omega
 go_enter Tryd.func74,Tryd.ntmps74
 cases base with
 |none=>
  go_wp2_with (at_builtin;refine Lib.wpList_append_run _ rfl _ _ _ _ rfl _ _ rfl rfl _ _ (cD _) ?_)
  all_goals (go_ret;exact⟨rfl,rfl⟩)
 |some a=>
  obtain⟨ab,ao,asp⟩:=a
  go_wp2_with (at_builtin;refine Lib.wpList_append_run _ rfl _ _ _ _ rfl _ _ rfl rfl _ _ (cD _) ?_)
  all_goals (go_ret;exact⟨rfl,rfl⟩)
open Go Go.Proofs
theorem T7:M4 Tryd.prog 74 34 3 1 8 (.int .i64 0):=
 ⟨by kernel_rfl,by kernel_rfl,by kernel_rfl,by decide,mG _ (by decide),gv Tryd.func74 (by rfl) (by kernel_rfl),
   by simpa only[Nat.mul_one]using @T4,by simpa only[Nat.mul_one]using @T6,T5⟩
noncomputable def S103:Spec:=pF Tryd.prog 34
theorem TK:ak Tryd.prog 74 S103:=TW T7
theorem L7{p q:Prop}{d:D}{o:Name->Option O}(h:p=q):(⟨p,d,o⟩:R)=⟨q,d,o⟩:=by rw[h]
theorem TX{obj:Name->Option O}{nm t:Name}{l:List Int}{x:Int}(h:obj nm=some (.arr 1 (l.map vInt)))(hl:l.length<=1000):
 S103.app obj t [.msl nm l.length,.v (vInt (bz l x)),.v (.sl [vInt x])]=⟨True,.msl nm (l.length+1),upd obj nm (some (.arr 1 ((dJ l x).map vInt)))⟩:=by
 have p5:=wI l x
 have hm:l.length+1<=maxLen:=by unfold maxLen;omega
 have kY:b9 Tryd.prog obj t 34 34 (.msl nm l.length) (.v (.sl [vInt x]))=⟨True,.msl nm (l.length+1),upd obj nm (some (.arr 1 (l.map vInt++[vInt x])))⟩:=by
  simp only[b9,NR,NK,aw,h]
  have dv:∀ y∈[vInt x],y.cells.length=1/\y.okc=true:=by
   intro y hy
   simp only[List.mem_cons,List.not_mem_nil,or_false]at hy
   subst hy
   exact⟨rfl,rfl⟩
  simp only[List.length_map,List.length_cons,List.length_nil,Nat.zero_add]
  congr 1
  simp only[eq_iff_iff,iff_true]
  refine⟨trivial,?_⟩
  repeat' apply And.intro
  all_goals first | trivial | exact dv | rfl | omega
 show mg Tryd.prog obj t 34 (.msl nm l.length) (.v (vInt (bz l x))) (.v (.sl [vInt x]))=_
 unfold mg
 simp only[h,kY,Int.toNat_natCast,List.length_map]
 cases hb:Nat.beq (bz l x) l.length with
 |true=>
  have he:bz l x=l.length:=Nat.eq_of_beq_eq_true hb
  simp only
  have hi:(dJ l x).map vInt=l.map vInt++[vInt x]:=by
   unfold dJ
   rw[he,List.take_length,List.drop_length,List.append_nil,List.map_append];rfl
  rw[hi]
  exact L7 (eq_true ⟨trivial,Int.natCast_nonneg _,by simp⟩)
 |false=>
  have he:bz l x≠l.length:=fun e=>by rw[e,Nat.beq_refl]at hb;cases hb
  simp only
  have hi:(dJ l x).map vInt=(l.map vInt).take (bz l x)++[vInt x]++(l.map vInt).drop (bz l x):=by
   unfold dJ
   rw[List.map_append,List.map_append,List.map_take,List.map_drop];rfl
  rw[hi]
  exact L7 (eq_true ⟨trivial,Int.natCast_nonneg _,by omega,by simp⟩)
def lL(l:List Int)(x:Int):List Int:=if bQ l x=true then l else dJ l x
theorem Qu{l:List Int}{x:Int}(h:bQ l x=true):lL l x=l:=if_pos h
theorem Qv{l:List Int}{x:Int}(h:bQ l x=false):lL l x=dJ l x:=if_neg (by rw[h];decide)
noncomputable def putC:CSpec where
 pre:=fun os ds=>∃ (l:List Int) (x:Int),os=[.arr 1 (l.map vInt)]/\ds=[.msl [0,1] l.length,.v (vInt x)]/\l.Pairwise (· < ·)/\l.length<=1000
 out:=fun os ds=>match os,ds with
  |[.arr _ L],[_,.v x]=>⟨[(0,.arr 1 ((lL (L.map c6) (c6 x)).map vInt))],[],.tup [.msl [0,1] (lL (L.map c6) (c6 x)).length,.v (.bool (!bQ (L.map c6) (c6 x)))]⟩
  |_,_=>⟨[],[],.any⟩
noncomputable def po(obj:Name->Option O)(_:Name):List D->R
 |[.msl nm k,.v x]=>match obj nm with
  |some (.arr 1 L)=>⟨k=L.length/\(L.map c6).map vInt=L/\vInt (c6 x)=x/\(L.map c6).Pairwise (· < ·)/\L.length<=1000,.tup [.msl nm (lL (L.map c6) (c6 x)).length,.v (.bool (!bQ (L.map c6) (c6 x)))],upd obj nm (some (.arr 1 ((lL (L.map c6) (c6 x)).map vInt)))⟩
  |_=>.bad obj
 |_=>.bad obj
noncomputable def S67:Spec:=⟨po,oH,oH⟩
attribute [go_sem] S67 po
theorem Qt:S67.Near:=by
 refine Ag fun obj obj2 t ds ha=>⟨rfl,?_⟩
 have fc:∀ wr,bo wr obj obj2->bx (R.bad obj) (R.bad obj2) obj obj2 wr:=fun wr h=>.none wr h
 unfold po
 split
 ·rename_i nm k x
  have h1:obj2 nm=obj nm:=ha nm (by simp[oH])
  simp only[h1]
  split
  ·exact .one (by simp[oH]) ha
  ·exact fc _ ha
 ·exact fc _ ha
noncomputable def Mn:List (Nat×Spec):=[(42,S52),(74,S103)]
attribute [go_sem] Mn
theorem YJ:∀ f s,tbl Mn f=some s->ak Tryd.prog f s:=tc H5<|tc TK<|tn
set_option maxHeartbeats 4000000 in
theorem Tp:ak Tryd.prog 51 putC.toSpec:=by
 refine lk (nt:=21) (rs:=[.tmp 4,.tmp 5]) Tryd.func51 rfl (by rfl) (by kernel_rfl) (gv Tryd.func51 rfl (by kernel_rfl)) (mG _ (by decide)) ?_
 rintro os ds ⟨l,x,rfl,rfl,hs,hl⟩
 refine⟨lb rfl,iD ?_⟩
 have fB:putC.out [.arr 1 (l.map vInt)] [.msl [0,1] l.length,.v (vInt x)]=⟨[(0,.arr 1 ((lL l x).map vInt))],[],.tup [.msl [0,1] (lL l x).length,.v (.bool (!bQ l x))]⟩:=by
  simp only[putC,Kl,c6]
 rw[fB]
 have hΓ:=YJ
 obtain⟨H,hH,h0,hO,fJ⟩:=QO 1 (l.map vInt)
 rw[<-hH]
 clear hH fB
 have Cs:∀ (F:Name->Option O) (t:Name),S103.app (fun nm=>if own [0] nm=true then F nm else H nm) t [.msl [0,1] l.length,.v (vInt (bz l x)),.v (.sl [vInt x])]=⟨True,.msl [0,1] (l.length+1),upd (fun nm=>if own [0] nm=true then F nm else H nm) [0,1] (some (.arr 1 ((dJ l x).map vInt)))⟩:=fun F t=>TX (by rw[<-h0];rfl) hl
 have uj:=TZ l x
 simp only[eA,Nat.zero_add]
 repeat refine sq ?_
 refine rx hΓ [0,1] [] (fun K' hK=>by simp only[go_sem,hO,fJ,h0];(repeat (refine⟨ah,?_⟩));exact hK _ (by simp only[go_sem,hO,fJ,h0]) (by simp only[go_sem,hO,fJ,h0]<;>rfl)) ?_
 repeat refine sq ?_
 refine rx hΓ [0,1,6,7] [] (fun K' hK=>by simp only[go_sem,hO,fJ,h0,hs,List.length_map];(repeat (refine⟨ah,?_⟩));exact hK _ (by simp only[go_sem,hO,fJ,h0,hs,List.length_map]) (by simp only[go_sem,hO,fJ,h0,hs,List.length_map]<;>rfl)) ?_
 repeat refine sq ?_
 refine rx hΓ [0,1,6,14] [] (fun K' hK=>by simp only[go_sem,hO,fJ,h0];(repeat (refine⟨ah,?_⟩));exact hK _ (by simp only[go_sem,hO,fJ,h0]) (by simp only[go_sem,hO,fJ,h0]<;>rfl)) ?_
 repeat refine sq ?_
 refine ax rfl rfl (fun hb=>?_) (fun hb=>?_)
 ·repeat refine sq ?_
  have hr:=Qu hb
  rw[hr,hb]
  repeat refine sq ?_
  refine rx hΓ [4,5] [] (fun K' hK=>by simp only[go_sem,hO,fJ,h0];(repeat (refine⟨ah,?_⟩));exact hK _ (by simp only[go_sem,hO,fJ,h0]) (by simp only[go_sem,hO,fJ,h0]<;>rfl)) ?_
  refine av ?_
  simp only[go_sem,hO,fJ,h0]
  skip
 ·repeat refine sq ?_
  have hr:=Qv hb
  rw[hr,hb,uj]
  refine aC ?_
  repeat refine sq ?_
  refine rx hΓ [4,5] [] (fun K' hK=>by simp only[go_sem,hO,fJ,h0,Cs];(repeat (refine⟨ah,?_⟩));exact hK _ (by simp only[go_sem,hO,fJ,h0,Cs]) (by simp only[go_sem,hO,fJ,h0,Cs]<;>rfl)) ?_
  refine av ?_
  simp only[go_sem,hO,fJ,h0]
  skip
theorem k67:ak Tryd.prog 51 S67:=by
 refine zd Tp Qt (mG _ (by decide)) fun obj t ds aa=>?_
 change (po obj t ds).ok at aa
 refine⟨ds,rfl,fun _ _ _ _ h=>h,?_⟩
 show _/\_=(po obj t ds).d/\_=(po obj t ds).obj
 unfold po at aa |-
 split at aa
 ·rename_i nm k x
  split at aa
  ·rename_i L ho
   obtain⟨rfl,he,hx,hs,hl⟩:=aa
   have hr:reach obj [.msl nm L.length,.v x]=[nm]:=by
    unfold reach
    show ef obj (2998+1+1) [nm] []=[nm]
    simp only[ef,bY,List.any_nil,Bool.false_eq_true,if_false,ho,nW,List.nil_append]
   have i0:idx [nm] nm=0:=by simp[idx]
   have e1:bZ obj [.msl nm L.length,.v x]=[.arr 1 L]:=by
    unfold bZ
    rw[hr]
    simp only[List.map_cons,List.map_nil,bV,ho,O.ren]
   have e2:cG obj [.msl nm L.length,.v x]=[.msl [0,1] L.length,.v x]:=by
    unfold cG
    rw[hr]
    simp only[D.renL,D.ren,cin,i0]
   have e3:(shut obj [nm]&&D.closL (bY [nm]) [.msl nm L.length,.v x]&&fresh obj t [])=true:=by
    simp[shut,ho,O.clos,D.closL,D.clos,bY,fresh]
   have cr:putC.pre [.arr 1 L] [.msl [0,1] L.length,.v x]:=⟨L.map c6,c6 x,by rw[he],by rw[List.length_map,hx],hs,by rw[List.length_map];exact hl⟩
   have fB:putC.out [.arr 1 L] [.msl [0,1] L.length,.v x]=⟨[(0,.arr 1 ((lL (L.map c6) (c6 x)).map vInt))],[],.tup [.msl [0,1] (lL (L.map c6) (c6 x)).length,.v (.bool (!bQ (L.map c6) (c6 x)))]⟩:=rfl
   have c0:cout [nm] t [0,1]=nm:=rfl
   simp only[CSpec.toSpec,e1,e2,hr,fB,e3,cr,ho,and_self,cV]
   refine⟨trivial,?_,rfl⟩
   simp only[D.ren,D.renL,c0]
  ·exact aa.elim
 ·exact aa.elim
open Go
def Lp.J(r:Lp)(s:Nat):List O:=(if s=r.n then r.fin (LI r.m)else r.rc (LI r.m) .ready none)::r.fam (LI r.m) s
theorem Lp.last_e{r:Lp}(cC:∀ j,j+1<r.n->r.st j=none):r.e=r.n/\(r.n=0->r.pd=none)/\∀ j,j+1=r.n->r.pd=r.st j:=by
 have key:∀ k,r.n=k+1->(List.range r.n).find? (fun s=>(r.st s).isSome)=if (r.st k).isSome=true then some k else none:=by
  intro k hk
  have h0:(List.range k).find? (fun s=>(r.st s).isSome)=none:=List.find?_eq_none.2 fun s hs=>by
   rw[cC s (by have:=List.mem_range.1 hs;omega)];decide
  rw[hk,List.range_succ,List.find?_append,h0,Option.none_or]
  by_cases h:(r.st k).isSome=true
  ·rw[if_pos h];simp[List.find?,h]
  ·rw[if_neg h];simp[List.find?,h]
 cases hn:r.n with
 |zero=>
  have h0:(List.range r.n).find? (fun s=>(r.st s).isSome)=none:=by rw[hn];rfl
  refine⟨?_,fun _=>?_,fun j hj=>by omega⟩
  ·unfold Lp.e;rw[h0];exact hn
  ·unfold Lp.pd;rw[h0]
 |succ k=>
  have h0:=key k hn
  by_cases h:(r.st k).isSome=true
  ·rw[if_pos h]at h0
   refine⟨?_,fun h=>by omega,fun j hj=>?_⟩
   ·unfold Lp.e;rw[h0]
   ·obtain rfl:j=k:=by omega
    unfold Lp.pd;rw[h0]
  ·rw[if_neg h]at h0
   refine⟨?_,fun h=>by omega,fun j hj=>?_⟩
   ·unfold Lp.e;rw[h0];exact hn
   ·obtain rfl:j=k:=by omega
    unfold Lp.pd;rw[h0]
    cases hs:r.st j with
    |none=>rfl
    |some c=>rw[hs]at h;exact absurd rfl h
theorem Lp.J_zero{r:Lp}(cC:∀ j,j+1<r.n->r.st j=none):r.J 0=r.rc (LI r.m) .ready none::r.fam (LI r.m) 0:=by
 unfold Lp.J
 by_cases h:0=r.n
 ·rw[if_pos h]
  unfold Lp.fin
  rw[(Lp.last_e cC).2.1 h.symm]
  rfl
 ·rw[if_neg h]
theorem Lp.J_len{r:Lp}(hr:r.Ok)(s:Nat):(r.J s).length=r.m+1:=by unfold Lp.J;rw[List.length_cons,hr.len _ _ (c7 _)]
theorem Lp.J_clos{r:Lp}(hr:r.Ok)(s:Nat):∀ o∈r.J s,∀ dom:Name->Bool,(∀ i,dom [i,1]=true)->O.clos dom o=true:=by
 intro o ho dom hd
 have ff:∀ x∈LI r.m,dom x=true:=fun x hx=>by
  obtain⟨i,_,rfl⟩:=List.mem_map.1 hx
  exact hd _
 rcases List.mem_cons.1 ho with rfl | ho
 ·split
  ·exact hr.closE _ _ (c7 _) ff
  ·exact hr.closE _ _ (c7 _) ff
 ·exact hr.closF _ _ _ (c7 _) ff _ ho
theorem Lp.y_setJ{r:Lp}(hr:r.Ok)(cC:∀ j,j+1<r.n->r.st j=none){s:Nat}(hs:s<r.n)(obj:Name->Option O)(tm:Name)(ho:∀ nm,ct nm=true->obj nm=be (r.J s) nm):
 r.y.toSpec.app obj tm (.yld [0,1]::r.vals s)=⟨True,.v (.bool (r.st s).isNone),iR obj (r.J (s+1))⟩:=by
 have l3:(LI r.m).Nodup:=List.Pairwise.map _ (fun a b h=>by simpa using h) List.nodup_range
 have k9:([0,1]:Name)∉LI r.m:=fun h=>by
  obtain⟨i,_,hi⟩:=List.mem_map.1 h
  simp at hi
 have VT:r.J s=r.rc (LI r.m) .ready none::r.fam (LI r.m) s:=by unfold Lp.J;rw[if_neg (by omega)]
 rw[VT]at ho
 have h0:obj [0,1]=some (r.rc (LI r.m) .ready none):=by
  rw[ho _ rfl];rfl
 have hF:dD obj (LI r.m) (r.fam (LI r.m) s):=by
  rw[ie]
  refine List.ext_getElem (by rw[List.length_map,List.length_map,c7,hr.len _ _ (c7 _)]) fun i h3 h4=>?_
  simp only[List.getElem_map,LI,List.getElem_range]
  rw[ho _ rfl]
  simp only[be,List.getElem?_cons_succ]
  have h5:i<(r.fam (LI r.m) s).length:=by simpa using h4
  rw[List.getElem?_eq_getElem h5]
  rfl
 have kY:=Lp.y_app hr hs (fun j hj=>cC j (by omega)) (t:=tm) (c7 _) l3 k9 h0 hF
 rw[kY]
 have cW:r.rc (LI r.m) (if (r.st s).isNone then .ready else .done) (r.st s)=(if s+1=r.n then r.fin (LI r.m)else r.rc (LI r.m) .ready none):=by
  by_cases h:s+1=r.n
  ·rw[if_pos h]
   unfold Lp.fin
   rw[(Lp.last_e cC).2.2 s h]
  ·rw[if_neg h,cC s (by omega)]
   rfl
 rw[cW]
 congr 1
 funext nm
 have hlen:=hr.len (LI r.m) (s+1) (c7 _)
 by_cases hR:nm=[0,1]
 ·subst hR
  rw[aE]
  rfl
 ·rw[aL _ _ _ hR]
  unfold iR
  cases hx:ct nm with
  |false=>
   rw[td hx,nO]
   intro ev
   obtain⟨i,_,rfl⟩:=List.mem_map.1 ev
   cases hx
  |true=>
   obtain⟨i,rfl⟩:=tz.1 hx
   have dv:=zo (obj:=obj) (F:=r.fam (LI r.m) (s+1)) l3 (by rw[c7,hlen])
   match i,hR with
   | 0,hR=>exact(hR rfl).elim
   |i+1,_=>
    simp only[Lp.J,be,List.getElem?_cons_succ]
    by_cases hi:i<r.m
    ·have h6:=wz dv i (by rw[c7];exact hi) (by rw[hlen];exact hi)
     simp only[LI,List.getElem_map,List.getElem_range]at h6
     rw[show (r.fam (LI r.m) (s+1))[i]?=some (r.fam (LI r.m) (s+1))[i]from List.getElem?_eq_getElem (by rw[hlen];exact hi)]
     exact h6
    ·rw[List.getElem?_eq_none (by rw[hlen];omega),nO]
     intro ev
     obtain⟨j,jI,oh⟩:=List.mem_map.1 ev
     have :=List.mem_range.1 jI
     simp at oh
     omega
theorem Lp.itJ_sound{P:Program}{r:Lp}(hr:r.Ok)(cC:∀ j,j+1<r.n->r.st j=none){caps:List Name->List D}{f:FuncId}{fn:Func}{nt:Nat}(hf:P.funcs[f]?=some fn)(ek:fn.ntmps=nt)(eJ:fn.results.toList=[])(hn:(fn.name== "runtime.NumGoroutine")=false)(hy:f<1000000000)
 (hw:∃ c,fn.body=some c/\(caps (LI r.m)).length+1<=nt/\CL P [c] (aS nt [0] (be (r.J 0)) (eA 0 (.yld [0,1]::caps (LI r.m))) []) (fun e σ=>(e=.normal\/e=.ret)/\∀ i,σ.obj [i,1]=be (r.J r.n) [i,1])):ak P f (r.itC caps).toSpec:=by
 obtain⟨c,hc,hl,hw⟩:=hw
 refine lk hf hc ek eJ (gv hf hc hn) (Nat.ne_of_lt (show f<yid from hy)) ?_
 rintro os ds ⟨rfl,rfl⟩
 rw[Lp.J_zero cC]at hw
 refine⟨by simpa using hl,CW.mono (iD hw) ?_⟩
 rintro e σ ⟨he,du⟩
 have fin:(bL P σ []).ok/\(bL P σ []).d=.tup []/\fL (r.rc (LI r.m) .ready none::r.fam (LI r.m) 0) ⟨(0,r.fin (LI r.m))::dX 1 (r.fam (LI r.m) r.e),[],.tup []⟩ σ:=by
  refine Lp.it_end hr ?_ ?_
  ·rw[du]
   unfold Lp.J
   rw[if_pos rfl]
   rfl
  ·rw[(Lp.last_e cC).1,ie]
   refine List.ext_getElem (by rw[List.length_map,List.length_map,c7,hr.len _ _ (c7 _)]) fun i h3 h4=>?_
   simp only[List.getElem_map,LI,List.getElem_range]
   rw[du]
   simp only[Lp.J,be,List.getElem?_cons_succ]
   have h5:i<(r.fam (LI r.m) r.n).length:=by simpa using h4
   rw[List.getElem?_eq_getElem h5]
   rfl
 rcases he with rfl | rfl
 ·exact fin
 ·exact fin
def cT(e:Dk)(hn:Name)(n:Nat):List D:=(List.map D.v (aq e)).set 1 (.msl hn n)
@[go_sem] theorem XL(e:Dk)(hn:Name)(n:Nat):(cT e hn n).length=63:=lI _ _ _
@[go_sem] theorem Li(dom:Name->Bool)(e:Dk)(hn:Name)(n:Nat):D.closL dom (cT e hn n)=dom hn:=by
  have :=KP dom (aq e) 1 hn n
  rw[show decide ((aq e).length<=1)=false from rfl,Bool.or_false]at this
  exact this
@[go_sem] theorem XK(f:Name->Name)(e:Dk)(hn:Name)(n:Nat):D.renL f (cT e hn n)=cT e (f hn) n:=zC _ _ _ _ _
@[go_sem] theorem afs(e:Dk)(hn:Name)(n:Nat):(cT e hn n).take 63=cT e hn n:=Kc _ _ _
@[go_sem] theorem afq(e:Dk)(hn:Name)(n:Nat):(cT e hn n).drop 63=[]:=List.drop_of_length_le (by rw[XL];exact Nat.le_refl _)
theorem afk(e:Dk)(hn:Name)(n:Nat){f:Nat}(hf:f<6):(cT e hn n).getD (14+f) .any=.v (vInt (e.now.ta.get f)):=
 jx (P:=fun f=>(cT e hn n).getD (14+f) .any=.v (vInt (e.now.ta.get f))) rfl rfl rfl rfl rfl rfl hf
@[go_sem] theorem afo(e:Dk)(hn:Name)(n:Nat):(cT e hn n).getD 1 .any=.msl hn n:=rfl
@[go_sem] theorem afm(e:Dk)(hn oc:Name)(n n':Nat):List.take 1 (cT e hn n)++[D.msl oc n']++List.drop 2 (cT e hn n)=cT e oc n':=rfl
theorem afl(e:Dk)(hn:Name)(n:Nat)(x:Int){f:Nat}(hf:f<6):List.take (14+f) (cT e hn n)++[D.v (vInt x)]++List.drop (14+f+1) (cT e hn n)=cT (e.setN ⟨e.now.ho,e.now.un,e.now.se,e.now.ta.set f x⟩) hn n:=
 jx (P:=fun f=>List.take (14+f) (cT e hn n)++[D.v (vInt x)]++List.drop (14+f+1) (cT e hn n)=cT (e.setN ⟨e.now.ho,e.now.un,e.now.se,e.now.ta.set f x⟩) hn n) rfl rfl rfl rfl rfl rfl hf
theorem afn(e:Dk)(l:List Int)(hn:Name)(n:Nat):cT e hn n=cT (e.setN ⟨l,e.now.un,e.now.se,e.now.ta⟩) hn n:=rfl
theorem afr(e:Dk)(hn:Name)(n:Nat):(cT e hn n)[1]?=some (.msl hn n):=rfl
theorem afp(e:Dk)(hn:Name)(n:Nat):(cT e hn n).set 1 (.v (fo e.now.ho))=List.map D.v (aq e):=rfl
theorem afj(e:Dk)(hn nm:Name)(n k:Nat)(se:Int)(ps:List Par){f:Nat}(hf:f<6)(j8:se=e.now.se.get f):List.take (2+f) (bG e f (.msl hn n) nm k se)++[D.v (.sl (ps.map encPa))]++List.drop (2+f+1) (bG e f (.msl hn n) nm k se)=cT (e.setN ⟨e.now.ho,e.now.un.set f ps,e.now.se,e.now.ta⟩) hn n:=by
 subst j8
 rw[re (by rw[lr];omega),<-XC e f (.v (fo e.now.ho)) (.msl hn n) nm k (e.now.se.get f),List.set_comm _ _ (show 1≠2+f by omega),Dp e _ _ _ _ _ hf,bb.set_self _ _ hf]
 rfl
set_option maxRecDepth 10000 in
theorem Q'(e:Dk)(hn:Name)(n:Nat):c9 (cT e hn n)=[hn]:=rfl
def oA(x:V)(p:D):List (Name×O):=[([2,0],.box (x.L.map .v)),([3,0],.box [p])]
noncomputable def xS:CSpec where
 pre:=fun os ds=>∃ (b:Bag) (e:Dk) (n off:Nat) (l:List V),os=[.box (cT e [1,1] n),.arr 1 l]/\ds=[.v (.agg (bW b)),.ref [0,1] off]
 out:=fun _ ds=>match ds with
  |[.v x,p]=>⟨[],oA x p,.clo (.func 73) [] [.ref [2,0] 0,.ref [3,0] 0]⟩
  |_=>⟨[],[],.any⟩
noncomputable def S66:Spec:=xS.toSpec
theorem adU{b:Bag}{e:Dk}{n off:Nat}{l:List V}{obj:Name->Option O}{t nm h:Name}(h1:obj nm=some (.box (cT e h n)))(h2:obj h=some (.arr 1 l))(hn:nm≠h):
 S66.app obj t [.v (.agg (bW b)),.ref nm off]=⟨fresh obj t (oA (.agg (bW b)) (.ref nm off))=true,.clo (.func 73) [] [.ref ([2,0]++t) 0,.ref ([3,0]++t) 0],upd (upd obj ([2,0]++t) (some (.box ((bW b).map .v)))) ([3,0]++t) (some (.box [.ref nm off]))⟩:=by
 have hr:reach obj [.v (.agg (bW b)),.ref nm off]=[nm,h]:=by
  unfold reach
  show ef obj (2996+1+1+1+1) [nm] []=[nm,h]
  simp[ef,gS,h1,h2,nW,Q',Ne.symm hn]
 have i0:idx [nm,h] nm=0:=by simp[idx]
 have i1:idx [nm,h] h=1:=by simp[idx,hn]
 have e1:bZ obj [.v (.agg (bW b)),.ref nm off]=[.box (cT e [1,1] n),.arr 1 l]:=by
  unfold bZ
  rw[hr]
  simp only[List.map_cons,List.map_nil,bV,h1,h2,O.ren,XK,cin,i1]
 have e2:cG obj [.v (.agg (bW b)),.ref nm off]=[.v (.agg (bW b)),.ref [0,1] off]:=by
  unfold cG
  rw[hr]
  simp only[D.renL,D.ren,cin,i0]
 have fb:shut obj [nm,h]=true:=by simp[shut,h1,h2,O.clos,Li,bY]
 have bI:D.closL (bY [nm,h]) [.v (.agg (bW b)),.ref nm off]=true:=by simp[D.closL,D.clos,bY]
 have hp:xS.pre [.box (cT e [1,1] n),.arr 1 l] [.v (.agg (bW b)),.ref [0,1] off]:=⟨b,e,n,off,l,rfl,rfl⟩
 have fB:xS.out [.box (cT e [1,1] n),.arr 1 l] [.v (.agg (bW b)),.ref [0,1] off]=⟨[],oA (.agg (bW b)) (.ref [0,1] off),.clo (.func 73) [] [.ref [2,0] 0,.ref [3,0] 0]⟩:=rfl
 have c1:cout [nm,h] t [2,0]=[2,0]++t:=rfl
 have c2:cout [nm,h] t [3,0]=[3,0]++t:=rfl
 have c3:cout [nm,h] t [0,1]=nm:=rfl
 have cl:fresh obj t (oA (.agg (bW b)) (.ref [0,1] off))=fresh obj t (oA (.agg (bW b)) (.ref nm off)):=rfl
 simp only[S66,CSpec.toSpec,e1,e2,hr,fb,bI,Bool.true_and,hp,and_true,fB,bX,cl]
 simp only[D.ren,D.renL,c1,c2,oA,cV,O.ren,V.L,s4,c3]
attribute [go_sem] oA V.L
set_option maxHeartbeats 4000000 in
theorem k66:ak Tryd.prog 50 S66:=by
 refine lk (nt:=6) (rs:=[.tmp 4]) Tryd.func50 rfl (by rfl) (by kernel_rfl) (gv Tryd.func50 rfl (by kernel_rfl)) (mG _ (by decide)) ?_
 rintro os ds ⟨b,e,n,off,l,rfl,rfl⟩
 refine⟨lb rfl,iD ?_⟩
 have fB:xS.out [.box (cT e [1,1] n),.arr 1 l] [.v (.agg (bW b)),.ref [0,1] off]=⟨[],oA (.agg (bW b)) (.ref [0,1] off),.clo (.func 73) [] [.ref [2,0] 0,.ref [3,0] 0]⟩:=rfl
 rw[fB]
 have hΓ:=@ig Tryd.prog
 have hO:∀ hs,cZ [0] (cM [0] hs) (be [.box (cT e [1,1] n),.arr 1 l])=True:=fun hs=>eq_true (z1 (by
  intro o ho dom hd
  simp only[List.mem_cons,List.not_mem_nil,or_false]at ho
  rcases ho with rfl | rfl
  ·simp only[O.clos,Li];exact hd 1
  ·rfl) hs)
 have h0:be [.box (cT e [1,1] n),.arr 1 l] [0,1]=some (.box (cT e [1,1] n)):=rfl
 have h1:be [.box (cT e [1,1] n),.arr 1 l] [1,1]=some (.arr 1 l):=rfl
 generalize be [.box (cT e [1,1] n),.arr 1 l]=H at *
 simp only[eA,Nat.zero_add]
 repeat refine sq ?_
 refine rx hΓ [2,3] [[2,0],[3,0]] (fun K' hK=>by simp only[go_sem,hO,h0,h1];(repeat (refine⟨ah,?_⟩));exact hK _ (by simp only[go_sem,hO,h0,h1]) (by simp only[go_sem,hO,h0,h1]<;>rfl)) ?_
 repeat refine sq ?_
 refine rx hΓ [4] [[2,0],[3,0]] (fun K' hK=>by simp only[go_sem,hO,h0,h1];(repeat (refine⟨ah,?_⟩));exact hK _ (by simp only[go_sem,hO,h0,h1]) (by simp only[go_sem,hO,h0,h1]<;>rfl)) ?_
 refine av ?_
 simp only[go_sem,hO,h0,h1]
 skip
abbrev oT (d:Dk) (b:Bag) (z:Nat):Stk:=dQ b.fr.toNat b.ps (dq d b) z
abbrev oE (d:Dk) (b:Bag) (z:Nat):Int:=eN b.fr.toNat b.ps (dq d b) z
structure DS (d:Dk) (b:Bag) (k0 m n:Nat) (er:Int):Prop where
 hk:k0+m<=b.ps.length
 hn:(er=0/\n=m/\k0+m=b.ps.length)\/(er≠0/\n=m+1/\k0+m<b.ps.length)
 pre:∀ i (h:i<b.ps.length),i<k0->fa b.fr.toNat (dq d b) b.ps[i]=false
 T0:∀ i,i<=k0->oT d b i=dq d b
 adT:∀ j,j<m->∀ h:k0+j<b.ps.length,fa b.fr.toNat (oT d b (k0+j)) b.ps[k0+j]=true/\eF b.fr.toNat (oT d b (k0+j)) b.ps[k0+j]=0
 bad:er≠0->∀ h:k0+m<b.ps.length,fa b.fr.toNat (oT d b (k0+m)) b.ps[k0+m]=true/\eF b.fr.toNat (oT d b (k0+m)) b.ps[k0+m]=er
 er0:∀ z,z<=k0+m->oE d b z=0
theorem FC{l:List Par}(h:cz l=true):∀ i (hi:i<l.length),l[i].no=(l.getD 0 default).no+i:=by
 unfold cz at h
 rw[Bool.and_eq_true,gx]at h
 intro i hi
 induction i with
 |zero=>rw[getD_at hi];simp
 |succ i ih=>
  have :=h.1 (i+1) hi
  unfold fq at this
  simp only[Bool.and_eq_true,Bool.or_eq_true,beq_iff_eq,Nat.add_sub_cancel]at this
  rw[getD_at (show i<l.length by omega),getD_at hi]at this
  have h2:=ih (by omega)
  rcases this.2 with h3 | h3
  ·omega
  ·omega
theorem adh{d:Dk}{b:Bag}(hb:ki b=true):∃ k0 m n er,DS d b k0 m n er:=by
 obtain⟨_,_,hf,_,_,_,_⟩:=Ll hb
 have UJ:cz b.ps=true:=by unfold ki at hb;simp only[Bool.and_eq_true]at hb;exact hb.1.2
 have fc:=FC UJ
 obtain⟨f,xC⟩:∃ f,f=b.fr.toNat:=⟨_,rfl⟩
 obtain⟨k0,BL⟩:∃ k0,k0=b.ps.findIdx (fun p=>fa b.fr.toNat (dq d b) p):=⟨_,rfl⟩
 have p7:k0<=b.ps.length:=by rw[BL];exact List.findIdx_le_length
 have cr:∀ i (h:i<b.ps.length),i<k0->fa b.fr.toNat (dq d b) b.ps[i]=false:=fun i h hi=>by
  have :=List.not_of_lt_findIdx (p:=fun p=>fa b.fr.toNat (dq d b) p) (xs:=b.ps) (by rw[<-BL];exact hi)
  simpa using this
 have iy:∀ h:k0<b.ps.length,fa b.fr.toNat (dq d b) b.ps[k0]=true:=fun h=>by
  subst BL
  exact List.findIdx_getElem (w:=h)
 have Ca:∀ i,i<=k0->oT d b i=dq d b:=by
  intro i hi
  induction i with
  |zero=>rfl
  |succ i ih=>
   have h1:=ih (by omega)
   have h2:=Oa b.fr.toNat b.ps (dq d b) (i:=i) (by omega) (by rw[show dQ b.fr.toNat b.ps (dq d b) i=dq d b from h1];exact cr i (by omega) (by omega))
   exact h2.trans h1
 have Jt:∀ i,i<=k0->oE d b i=0:=by
  intro i hi
  induction i with
  |zero=>rfl
  |succ i ih=>
   refine J3 (by omega) (ih (by omega)) (QU _ _ _ ?_)
   have h1:=Ca i (by omega)
   rw[show dQ b.fr.toNat b.ps (dq d b) i=dq d b from h1]
   exact cr i (by omega) (by omega)
 have mY:∀ j,k0+j<=b.ps.length->(∀ i,i<j->∀ h:k0+i<b.ps.length,eF b.fr.toNat (oT d b (k0+i)) b.ps[k0+i]=0)->
     (oT d b (k0+j)).ta.get b.fr.toNat=(dq d b).ta.get b.fr.toNat+j/\oE d b (k0+j)=0/\∀ h:k0+j<b.ps.length,fa b.fr.toNat (oT d b (k0+j)) b.ps[k0+j]=true:=by
  intro j
  have IK:∀ j,(oT d b (k0+j)).ta.get b.fr.toNat=(dq d b).ta.get b.fr.toNat+j->∀ h:k0+j<b.ps.length,fa b.fr.toNat (oT d b (k0+j)) b.ps[k0+j]=true:=by
   intro j ht h
   have h1:=iy (by omega)
   unfold fa at h1 |-
   rw[beq_iff_eq]at h1 |-
   rw[ht]
   have h2:=fc k0 (by omega)
   have h3:=fc (k0+j) h
   omega
  induction j with
  |zero=>
   intro _ _
   have h1:oT d b (k0+0)=dq d b:=Ca k0 (Nat.le_refl _)
   refine⟨by rw[h1];simp,Jt k0 (Nat.le_refl _),IK 0 (by rw[h1];simp)⟩
  |succ j ih=>
   intro hj hg
   obtain⟨h1,h2,h3⟩:=ih (by omega) (fun i hi h=>hg i (by omega) h)
   have ae:k0+j<b.ps.length:=by omega
   have h4:=N' b.fr.toNat b.ps (dq d b) ae (h3 ae)
   have h5:(oT d b (k0+(j+1))).ta.get b.fr.toNat=(dq d b).ta.get b.fr.toNat+((j+1:Nat):Int):=by
    have h6:oT d b (k0+(j+1))=_:=h4
    rw[h6]
    show ((oT d b (k0+j)).ta.set b.fr.toNat ((oT d b (k0+j)).ta.get b.fr.toNat+1)).get b.fr.toNat=_
    rw[((oT d b (k0+j)).ta.get_set (i:=b.fr.toNat) (j:=b.fr.toNat) _ hf).1,h1]
    omega
   exact⟨h5,J3 ae h2 (hg j (by omega) ae),IK (j+1) h5⟩
 have fin:∀ m n er,k0+m<=b.ps.length->((er=0/\n=m/\k0+m=b.ps.length)\/(er≠0/\n=m+1/\k0+m<b.ps.length))->
     (∀ i,i<m->∀ h:k0+i<b.ps.length,eF b.fr.toNat (oT d b (k0+i)) b.ps[k0+i]=0)->(er≠0->∀ h:k0+m<b.ps.length,eF b.fr.toNat (oT d b (k0+m)) b.ps[k0+m]=er)->DS d b k0 m n er:=by
  intro m n er h1 h2 h3 h4
  refine⟨h1,h2,cr,Ca,fun j hj h=>⟨(mY j (by omega) (fun i hi h=>h3 i (by omega) h)).2.2 h,h3 j hj h⟩,fun he h=>⟨(mY m h1 h3).2.2 h,h4 he h⟩,fun z hz=>?_⟩
  rcases Nat.lt_or_ge z k0 with h5 | h5
  ·exact Jt z (by omega)
  ·have:=(mY (z-k0) (by omega) (fun i hi h=>h3 i (by omega) h)).2.1
   rwa [show k0+(z-k0)=z by omega]at this
 have go:∀ r j,k0+j+r=b.ps.length->(∀ i,i<j->∀ h:k0+i<b.ps.length,eF b.fr.toNat (oT d b (k0+i)) b.ps[k0+i]=0)->∃ m n er,DS d b k0 m n er:=by
  intro r
  induction r with
  |zero=>intro j hj hg;exact⟨j,j,0,fin j j 0 (by omega) (.inl ⟨rfl,rfl,by omega⟩) hg (fun h=>absurd rfl h)⟩
  |succ r ih=>
   intro j hj hg
   have ae:k0+j<b.ps.length:=by omega
   by_cases he:eF b.fr.toNat (oT d b (k0+j)) b.ps[k0+j]=0
   ·refine ih (j+1) (by omega) fun i hi h=>?_
    rcases Nat.lt_succ_iff_lt_or_eq.1 hi with h5 | h5
    ·exact hg i h5 h
    ·subst h5;exact he
   ·exact⟨j,j+1,_,fin j (j+1) _ (by omega) (.inr ⟨he,rfl,ae⟩) hg (fun _ _=>rfl)⟩
 obtain⟨m,n,er,h⟩:=go (b.ps.length-k0) 0 (by omega) (fun i hi=>by omega)
 exact⟨k0,m,n,er,h⟩
end Go.Eng
set_option linter.constructorNameAsVariable false
namespace Go.Eng
open Go Go.Proofs
def PT(e:Int):List Par->Prop
 |[]=>True
 |p::r=>p.no+(r.length:Int)=e/\(1<=p.no/\p.no<=99999/\1<=p.pa/\p.pa<=999)/\PT e r
theorem yN{e:Int}:∀ {l:List Par},PT e l↔∀ i (h:i<l.length),l[i].no+(l.length:Int)=e+1+(i:Int)/\(1<=l[i].no/\l[i].no<=99999/\1<=l[i].pa/\l[i].pa<=999)
 |[]=>⟨fun _ i h=>by simp at h,fun _=>trivial⟩
 |p::r=>by
  show (_/\_/\PT e r)↔_
  rw[yN (l:=r)]
  constructor
  ·rintro⟨h1,h2,h3⟩ i hi
   cases i with
   |zero=>exact⟨by simp only[List.getElem_cons_zero,List.length_cons];omega,h2⟩
   |succ i=>
    have :=h3 i (by simpa using hi)
    simp only[List.getElem_cons_succ,List.length_cons]
    exact⟨by omega,this.2⟩
  ·intro h
   refine⟨?_,(h 0 (by simp)).2,fun i hi=>?_⟩
   ·have:=(h 0 (by simp)).1
    simp only[List.getElem_cons_zero,List.length_cons]at this
    omega
   ·have:=h (i+1) (by simpa using hi)
    simp only[List.getElem_cons_succ,List.length_cons]at this
    exact⟨by omega,this.2⟩
theorem L9{e:Int}{q:Par}:∀ {l:List Par},PT e l->q.no=e+1->(1<=q.no/\q.no<=99999/\1<=q.pa/\q.pa<=999)->PT (e+1) (l++[q])
 |[],_,h1,h2=>⟨by show q.no+0=e+1;omega,h2,trivial⟩
 |p::r,h,h1,h2=>⟨by have:=h.1;show p.no+((r++[q]).length:Int)=e+1;rw[List.length_append];simp only[List.length_cons,List.length_nil];omega,h.2.1,L9 h.2.2 h1 h2⟩
theorem L8{e ta:Int}:∀ {l:List Par},PT e l->PT e (l.filter fun p=>decide (p.no>ta))
 |[],_=>trivial
 |p::r,h=>by
  by_cases hp:p.no>ta
  ·have dv:r.filter (fun p=>decide (p.no>ta))=r:=by
     rw[List.filter_eq_self]
     intro q hq
     obtain⟨i,hi,rfl⟩:=List.getElem_of_mem hq
     have h1:=(yN.1 h.2.2 i hi).1
     have h2:=h.1
     simp only[gt_iff_lt,decide_eq_true_eq]
     omega
   rw[List.filter_cons_of_pos (by simpa using hp),dv]
   exact h
  ·rw[List.filter_cons_of_neg (by simpa using hp)]
   exact L8 h.2.2
theorem QA{l:List Par}{e:Int}:(cz l&&(l.length==0||(l.getD (l.length-1) default).no==e))=true↔PT e l/\l.length<=40:=by
 rw[Bool.and_eq_true,yN]
 constructor
 ·rintro⟨h,hl⟩
  have fc:=FC h
  unfold cz at h
  rw[Bool.and_eq_true,decide_eq_true_eq,gx]at h
  refine⟨fun i hi=>?_,h.2⟩
  have UX:(l.length==0)=false:=by simp;intro h0;subst h0;simp at hi
  rw[UX,Bool.false_or,beq_iff_eq,getD_at (by omega)]at hl
  have h1:=fc i hi
  have h2:=fc (l.length-1) (by omega)
  have :=h.1 i hi
  unfold fq at this
  rw[getD_at hi]at this
  simp only[Bool.and_eq_true]at this
  have a:=dS.1 this.1.1
  have c:=dS.1 this.1.2
  exact⟨by omega,a.1,a.2,c.1,c.2⟩
 ·rintro⟨h,hl⟩
  refine⟨?_,?_⟩
  ·unfold cz
   rw[Bool.and_eq_true,decide_eq_true_eq,gx]
   refine⟨fun i hi=>?_,hl⟩
   obtain⟨h1,h2,h3,h4,h5⟩:=h i hi
   unfold fq
   rw[getD_at hi]
   simp only[Bool.and_eq_true,Bool.or_eq_true,beq_iff_eq]
   refine⟨⟨dS.2 ⟨h2,h3⟩,dS.2 ⟨h4,h5⟩⟩,?_⟩
   cases i with
   |zero=>exact .inl rfl
   |succ i=>
    have :=(h i (by omega)).1
    rw[show i+1-1=i from rfl,getD_at (by omega)]
    exact .inr (by omega)
  ·simp only[Bool.or_eq_true,beq_iff_eq]
   rcases Nat.eq_zero_or_pos l.length with h0 | h0
   ·exact .inl h0
   ·rw[getD_at (by omega)]
    have :=(h (l.length-1) (by omega)).1
    exact .inr (by omega)
theorem QC{l:List Int}:ft l=true↔l.Pairwise (· < ·)/\(∀ x∈l,1<=x/\x<=999)/\l.length<=40:=by
 constructor
 ·intro h
  refine⟨zW h,fun x hx=>?_,(ry h).1⟩
  obtain⟨i,hi,rfl⟩:=List.getElem_of_mem hx
  unfold ft at h
  rw[Bool.and_eq_true,gx]at h
  have :=h.1 i hi
  unfold jC at this
  rw[getD_at hi,Bool.and_eq_true]at this
  exact dS.1 this.1
 ·rintro⟨h1,h2,h3⟩
  unfold ft
  rw[Bool.and_eq_true,decide_eq_true_eq,gx]
  refine⟨fun i hi=>?_,h3⟩
  unfold jC
  rw[getD_at hi,Bool.and_eq_true]
  refine⟨dS.2 (h2 _ (List.getElem_mem hi)),?_⟩
  cases i with
  |zero=>rfl
  |succ i=>
   rw[show i+1-1=i from rfl,getD_at (show i<l.length by omega)]
   have :=List.pairwise_iff_getElem.1 h1 i (i+1) (by omega) hi (by omega)
   simp[this]
structure jt (me:Int) (s:Stk):Prop where
 m0:0<=me
 m6:me<6
 ri:s.ho.Pairwise (· < ·)
 rn:∀ x∈s.ho,1<=x/\x<=999
 ln:s.ho.length<=40
 u0:s.un.get me.toNat=[]
 s0:s.se.get me.toNat=0
 t0:s.ta.get me.toNat=0
 se:∀ i,i<6->0<=s.se.get i/\s.se.get i<=99999
 ta:∀ i,i<6->0<=s.ta.get i/\s.ta.get i<=99999
 un:∀ i,i<6->PT (s.se.get i) (s.un.get i)/\(s.un.get i).length<=40
theorem Eu{me:Int}{s:Stk}:cf me s=true↔jt me s:=by
 have iy:∀ i,fj s i=true↔(0<=s.se.get i/\s.se.get i<=99999)/\(0<=s.ta.get i/\s.ta.get i<=99999)/\PT (s.se.get i) (s.un.get i)/\(s.un.get i).length<=40:=by
  intro i
  rw[<-QA,<-dS,<-dS]
  unfold fj
  simp only[Bool.and_eq_true,and_assoc]
 unfold cf
 simp only[Bool.and_eq_true,beq_iff_eq,gx,List.length_eq_zero_iff]
 rw[QC,dS]
 constructor
 ·rintro⟨⟨⟨⟨⟨h1,h2⟩,h3⟩,h4⟩,h5⟩,h6⟩
  exact⟨h1.1,by omega,h2.1,h2.2.1,h2.2.2,h3,h4,h5,fun i hi=>((iy i).1 (h6 i hi)).1,fun i hi=>((iy i).1 (h6 i hi)).2.1,fun i hi=>((iy i).1 (h6 i hi)).2.2⟩
 ·intro h
  exact⟨⟨⟨⟨⟨⟨h.m0,by have:=h.m6;omega⟩,h.ri,h.rn,h.ln⟩,h.u0⟩,h.s0⟩,h.t0⟩,fun i hi=>(iy i).2 ⟨h.se i hi,h.ta i hi,h.un i hi⟩⟩
end Go.Eng
set_option linter.constructorNameAsVariable false
namespace Go.Eng
open Go Go.Proofs
theorem rj(d:Dk)(s:Stk):∀ k,(d.setN s).pg k=d.pg k
 | 0=>rfl
 |_+1=>rfl
theorem Wo(d:Dk)(s:Stk)(i:Nat)(o:Int):fK (d.setN s) i o=fK d i o:=by
 unfold fK
 rw[rj,rj]
 rfl
theorem JL(d:Dk)(s:Stk):∀ i,cv (d.setN s) i=cv d i
 | 0=>rfl
 |i+1=>by
  show (if fK (d.setN s) i (cv (d.setN s) i)=true then(i:Int)else cv (d.setN s) i)=if fK d i (cv d i)=true then(i:Int)else cv d i
  rw[JL d s i,Wo]
theorem Ws(d:Dk)(s:Stk):bB (d.setN s)=bB d:=JL d s 2
theorem JJ(d:Dk)(s:Stk):ez (d.setN s)=ez d:=by
 unfold ez
 rw[Ws,rj]
theorem No(d:Dk)(s:Stk):jZ (d.setN s)=jZ d:=by
 unfold jZ
 rw[rj,rj]
 rfl
theorem nv{d:Dk}:aF d=true↔jt d.me d.now/\(-1<=d.wet/\d.wet<=1)/\jZ d=true:=by
 unfold aF gp
 rw[Bool.and_eq_true,Bool.and_eq_true,Eu,dS,and_assoc]
theorem Kb{d:Dk}{s:Stk}(h:aF d=true)(hs:jt d.me s):aF (d.setN s)=true:=by
 obtain⟨_,h2,h3⟩:=nv.1 h
 exact nv.2 ⟨hs,h2,by rw[No];exact h3⟩
theorem jt.sz{me:Int}{s:Stk}(h:jt me s):iM s:=(rD (Eu.2 h)).sz
theorem Ep{d:Dk}{s:Stk}{me:Int}(h:gM d)(hs:jt me s):gM (d.setN s):=⟨hs.sz,fun i hi=>by rw[rj];exact h.pg i hi⟩
theorem Oy{me:Int}{s:Stk}{p:Int}{j:Nat}(h:jt me s)(hj:j<6)(an:me.toNat≠j)(hl:(s.un.get j).length≠40)(j8:s.se.get j≠99999)(hp:1<=p/\p<=999):jt me (vR s p j):=by
 have m0:=h.m0;have m6:=h.m6
 have pZ:me.toNat<6:=by omega
 have hu:=h.un j hj
 have hs:=h.se j hj
 refine⟨m0,m6,?_,fun x hx=>h.rn x ?_,?_,?_,?_,h.t0,fun i hi=>?_,h.ta,fun i hi=>?_⟩
 ·show (gd s.ho p s.ho.length).Pairwise (· < ·)
  unfold gd
  rw[List.take_length]
  exact h.ri.sublist List.filter_sublist
 ·have hx:x∈gd s.ho p s.ho.length:=hx
  unfold gd at hx
  rw[List.take_length]at hx
  exact(List.mem_filter.1 hx).1
 ·exact Nat.le_trans (Wv _ _ _) h.ln
 ·show (s.un.set j _).get me.toNat=[]
  rw[(s.un.get_set (i:=j) (j:=me.toNat) _ hj).2 pZ an]
  exact h.u0
 ·show (s.se.set j _).get me.toNat=0
  rw[(s.se.get_set (i:=j) (j:=me.toNat) _ hj).2 pZ an]
  exact h.s0
 ·show 0<=(s.se.set j _).get i/\(s.se.set j _).get i<=99999
  by_cases e:i=j
  ·subst e
   rw[(s.se.get_set (i:=i) (j:=i) _ hj).1]
   omega
  ·rw[(s.se.get_set (i:=j) (j:=i) _ hj).2 hi e]
   exact h.se i hi
 ·show PT ((s.se.set j _).get i) ((s.un.set j _).get i)/\((s.un.set j _).get i).length<=40
  by_cases e:i=j
  ·subst e
   rw[(s.se.get_set (i:=i) (j:=i) _ hj).1,(s.un.get_set (i:=i) (j:=i) _ hj).1]
   refine⟨L9 hu.1 rfl ⟨?_,?_,hp.1,hp.2⟩,?_⟩
   ·show 1<=s.se.get i+1;omega
   ·show s.se.get i+1<=99999;omega
   ·rw[List.length_append]
    have :=hu.2
    simp only[List.length_cons,List.length_nil]
    omega
  ·rw[(s.se.get_set (i:=j) (j:=i) _ hj).2 hi e,(s.un.get_set (i:=j) (j:=i) _ hj).2 hi e]
   exact h.un i hi
theorem QX{me:Int}{s:Stk}{f:Nat}{ta:Int}(h:jt me s)(hf:f<6):jt me (wo s f ta):=by
 have m0:=h.m0;have m6:=h.m6
 have pZ:me.toNat<6:=by omega
 refine⟨m0,m6,h.ri,h.rn,h.ln,?_,h.s0,h.t0,h.se,h.ta,fun i hi=>?_⟩
 ·show (s.un.set f _).get me.toNat=[]
  by_cases e:me.toNat=f
  ·rw[<-e,(s.un.get_set (i:=me.toNat) (j:=me.toNat) _ pZ).1,h.u0]
   rfl
  ·rw[(s.un.get_set (i:=f) (j:=me.toNat) _ hf).2 pZ e]
   exact h.u0
 ·show PT (s.se.get i) ((s.un.set f _).get i)/\((s.un.set f _).get i).length<=40
  by_cases e:i=f
  ·subst e
   rw[(s.un.get_set (i:=i) (j:=i) _ hf).1]
   refine⟨?_,Nat.le_trans (NH _ _ _) (h.un i hf).2⟩
   unfold jw
   rw[List.take_length]
   exact L8 (h.un i hf).1
  ·rw[(s.un.get_set (i:=f) (j:=i) _ hf).2 hi e]
   exact h.un i hi
theorem TY{l:List Int}{x y:Int}(h:y∈dJ l x):y=x\/y∈l:=by
 unfold dJ at h
 rcases List.mem_append.1 h with h | h
 ·rcases List.mem_append.1 h with h | h
  ·exact .inr (List.mem_of_mem_take h)
  ·exact .inl (by simpa using h)
 ·exact .inr (List.mem_of_mem_drop h)
theorem NS{me:Int}{s:Stk}{f:Nat}{p:Par}(h:jt me s)(hf:f<6)(an:me.toNat≠f)(hp:p.no<=99999/\1<=p.pa/\p.pa<=999)(he:eF f s p=0):jt me (o5 f s p):=by
 unfold o5
 unfold eF at he
 have m0:=h.m0;have m6:=h.m6
 have pZ:me.toNat<6:=by omega
 have ht:=h.ta f hf
 by_cases hn:fa f s p=true
 ·rw[if_pos hn]at he |-
  by_cases hh:bQ s.ho p.pa=true
  ·rw[if_pos hh]at he;cases he
  ·rw[if_neg hh]at he
   by_cases hl:40<(dJ s.ho p.pa).length
   ·rw[if_pos hl]at he;cases he
   ·unfold fa at hn
    have fc:p.no=s.ta.get f+1:=by simpa using hn
    refine⟨m0,m6,Ih h.ri (by simpa using hh),fun x hx=>?_,by show (dJ s.ho p.pa).length<=40;omega,h.u0,h.s0,?_,h.se,fun i hi=>?_,h.un⟩
    ·rcases TY hx with rfl | hx
     ·exact hp.2
     ·exact h.rn x hx
    ·show (s.ta.set f _).get me.toNat=0
     rw[(s.ta.get_set (i:=f) (j:=me.toNat) _ hf).2 pZ an]
     exact h.t0
    ·show 0<=(s.ta.set f _).get i/\(s.ta.set f _).get i<=99999
     by_cases e:i=f
     ·subst e
      rw[(s.ta.get_set (i:=i) (j:=i) _ hf).1]
      omega
     ·rw[(s.ta.get_set (i:=f) (j:=i) _ hf).2 hi e]
      exact h.ta i hi
 ·rw[if_neg hn];exact h
theorem EY{me:Int}{f:Nat}{ps:List Par}{s0:Stk}(h0:jt me s0)(hf:f<6)(an:me.toNat≠f)(hp:∀ p∈ps,p.no<=99999/\1<=p.pa/\p.pa<=999):∀ {z:Nat},z<=ps.length->eN f ps s0 z=0->jt me (dQ f ps s0 z)
 | 0,_,_=>h0
 |z+1,hz,he=>by
  have kW:(if eN f ps s0 z=0 then eF f (dQ f ps s0 z) (ps.getD z default)else eN f ps s0 z)=0:=he
  by_cases h1:eN f ps s0 z=0
  ·rw[if_pos h1]at kW
   have hg:ps.getD z default=ps[z]'(by omega):=getD_at (by omega)
   exact NS (EY h0 hf an hp (by omega) h1) hf an (by rw[hg];exact hp _ (List.getElem_mem _)) kW
  ·rw[if_neg h1]at kW;exact absurd kW h1
structure Kept (d e:Dk):Prop where
 ok:aF e=true
 me:e.me=d.me
 sz:gM d->gM e
theorem ac0{d:Dk}{p t:Int}(h:aF d=true)(he:fm d p t=0):Kept d (kK d p t)/\ez (kK d p t)=ez d:=by
 have hV:kK d p t=d.setN (vR d.now p t.toNat):=by unfold kK;rw[if_pos he]
 unfold fm at he
 rw[if_pos h]at he
 by_cases h1:aM p 1 999=true
 ·rw[if_pos h1]at he
  by_cases h2:eB d t=true
  ·rw[if_pos h2]at he
   by_cases h3:ny d p=true
   ·rw[if_pos h3]at he;cases he
   ·rw[if_neg h3]at he
    by_cases h4:mJ d t=true
    ·rw[if_pos h4]at he;cases he
    ·have hs:=(nv.1 h).1
     have m0:=hs.m0
     unfold eB at h2
     rw[Bool.and_eq_true,dS]at h2
     have an:t≠d.me:=by simpa using h2.2
     unfold mJ at h4
     simp only[Bool.or_eq_true,beq_iff_eq,not_or]at h4
     have hk:=Oy (p:=p) (j:=t.toNat) hs (by omega) (by omega) (by omega) h4.2 (dS.1 h1)
     rw[hV]
     exact⟨⟨Kb h hk,rfl,fun hz=>Ep hz hk⟩,JJ _ _⟩
  ·rw[if_neg h2]at he;cases he
 ·rw[if_neg h1]at he;cases he
theorem adp{d:Dk}{b:Bag}(h:aF d=true)(he:iT d b=0):(Kept d (mD d b)/\ez (mD d b)=ez d)/\nr d b=true/\eN b.fr.toNat b.ps (dq d b) b.ps.length=0/\mD d b=d.setN (dQ b.fr.toNat b.ps (dq d b) b.ps.length):=by
 have hV:mD d b=d.setN (dQ b.fr.toNat b.ps (dq d b) b.ps.length):=by unfold mD;rw[if_pos he]
 unfold iT at he
 rw[if_pos h]at he
 by_cases h1:nr d b=true
 ·rw[if_pos h1]at he
  have hs:=(nv.1 h).1
  have m0:=hs.m0
  have uz:=h1
  unfold nr at h1
  rw[Bool.and_eq_true,beq_iff_eq]at h1
  obtain⟨f0,f6,fk,_,eu,_,_⟩:=Ll h1.1
  have an:b.fr≠b.to:=by
   have :=h1.1
   unfold ki at this
   simp only[Bool.and_eq_true]at this
   intro e
   simp[e]at this
  have hk:=EY (QX (ta:=b.ta) hs fk) fk (by omega) (fun p hp=>⟨(eu p hp).2.1,(eu p hp).2.2⟩) (Nat.le_refl _) he
  rw[hV]
  exact⟨⟨⟨Kb h hk,rfl,fun hz=>Ep hz hk⟩,JJ _ _⟩,uz,he,rfl⟩
 ·rw[if_neg h1]at he;cases he
set_option maxRecDepth 100000
noncomputable def P120:PSpec:=p2 ei iI (fun _ _=>True) (fun l x=>vInt (eH (fun y=>y==x) l)) true
noncomputable def S120:Spec:=P120.toSpec
attribute [go_sem] P120 S120
theorem PY:aR Tryd.prog 75 P120:=by
 refine w2 (rs:=[.tmp 4]) Tryd.func75 Tryd.ntmps75 (by rfl) (by kernel_rfl) (by decide) (fun _ _ _=>rfl) ⟨_,rfl,lb rfl,fun l x hp hw=>?_⟩
 have hP:=bc
 simp only[iI,ei]at hw |-
 have hΓ:=@ig Tryd.prog
 have hl:l.length<=maxLen:=by have:=hw.1.1;simpa using this
 repeat refine sq ?_
 refine rx hΓ [0,1] [] (fun K' hK=>by simp only[go_sem];(repeat (refine⟨ah,?_⟩));exact hK _ (by simp only[go_sem]) (by simp only[go_sem]<;>rfl)) ?_
 repeat refine sq ?_
 refine rx hΓ [0,1,7,8] [] (fun K' hK=>by simp only[go_sem];(repeat (refine⟨ah,?_⟩));exact hK _ (by simp only[go_sem]) (by simp only[go_sem]<;>rfl)) ?_
 repeat refine sq ?_
 refine aJ ?_
 repeat refine sq ?_
 refine bR (fun z:Nat=>[(8,⟨true,.v (vInt z)⟩)]) (fun z=>[]) (fun z=>z<=l.length/\∀ k (h:k<l.length),k<z->(l[k]==x)=false) (fun z=>l.length-z) 0 ?_ ?_ ?_ ?_
 ·exact⟨Nat.zero_le _,fun k h hk=>absurd hk (by omega)⟩
 ·rfl
 ·rfl
 rintro i ⟨hi,hR⟩
 simp only[go_sem]
 repeat refine sq ?_
 refine rx hΓ [0,1,7,8,9] [] (fun K' hK=>by simp only[go_sem];(repeat (refine⟨ah,?_⟩));exact hK _ (by simp only[go_sem]) (by simp only[go_sem]<;>rfl)) ?_
 repeat refine sq ?_
 refine ax rfl rfl (fun hb=>?_) (fun hb=>?_)
 ·have ae:i<l.length:=by simpa using hb
  have ai:(i:Int)<l.length:=by omega
  clear hb
  repeat refine sq ?_
  refine aC ?_
  repeat refine sq ?_
  refine aJ ?_
  repeat refine sq ?_
  refine rx hΓ [0,1,5,7,8] [] (fun K' hK=>by simp only[go_sem,aH ae,Int.toNat_natCast,Int.natCast_nonneg,ai];(repeat (refine⟨ah,?_⟩));exact hK _ (by simp only[go_sem]) (by simp only[go_sem]<;>rfl)) ?_
  repeat refine sq ?_
  refine rx hΓ [0,1,5,7,8,16] [] (fun K' hK=>by simp only[go_sem,aH ae,Int.toNat_natCast,Int.natCast_nonneg,ai,aH ae,Int.toNat_natCast,Int.natCast_nonneg,ai];(repeat (refine⟨ah,?_⟩));exact hK _ (by simp only[go_sem]) (by simp only[go_sem]<;>rfl)) ?_
  repeat refine sq ?_
  refine ax rfl rfl (fun hb=>?_) (fun hb=>?_)
  ·repeat refine sq ?_
   refine rx hΓ [4] [] (fun K' hK=>by simp only[go_sem,aH ae,Int.toNat_natCast,Int.natCast_nonneg,ai];(repeat (refine⟨ah,?_⟩));exact hK _ (by simp only[go_sem]) (by simp only[go_sem]<;>rfl)) ?_
   refine av ?_
   simp only[go_sem]
   rw[xa (p:=fun y=>y==x) ae (by have h:=hb;simp only[beq_iff_eq]at h |-;omega) hR]
  ·repeat refine sq ?_
   refine aC ?_
   refine cX ?_
   simp only[go_sem]
   refine kp [0,1,7,8] [] ?_
   repeat refine sq ?_
   refine aQ hΓ fun K' hK=>?_
   simp only[go_sem,aH ae,Int.toNat_natCast,Int.natCast_nonneg,ai]
   repeat (refine⟨ah,?_⟩)
   refine hK _ ?_
   clear K' hK
   simp only[go_sem]
   refine⟨i+1,⟨ae,?_⟩,by(show l.length-(i+1)<l.length-i;omega),?_⟩
   ·intro k hk jH
    rcases Nat.lt_succ_iff_lt_or_eq.1 jH with h5 | rfl
    ·exact hR k hk h5
    ·have h:=hb
     simp only[beq_eq_false_iff_ne,ne_eq]at h |-
     omega
   refine bd [0,1,7,8] [] ?_ ?_
   ·simp only[go_sem,aA ae hl,Int.natCast_add,Int.natCast_one]
   ·simp only[go_sem,aA ae hl,Int.natCast_add,Int.natCast_one]
 ·have aV:i=l.length:=by
   have :¬ (i:Int)<l.length:=by simpa using hb
   omega
  clear hb
  subst aV
  repeat refine sq ?_
  refine bK ?_
  simp only[go_sem]
  refine kp [] [] ?_
  repeat refine sq ?_
  refine rx hΓ [4] [] (fun K' hK=>by simp only[go_sem];(repeat (refine⟨ah,?_⟩));exact hK _ (by simp only[go_sem]) (by simp only[go_sem]<;>rfl)) ?_
  refine av ?_
  simp only[go_sem]
  rw[w9 (p:=fun y=>y==x) fun k hk=>hR k hk hk]
theorem TD:ak Tryd.prog 75 S120:=PY.sound
theorem Ua(l:List Int)(x:Int):decide (eH (fun y=>y==x) l>=0)=bQ l x:=by
 unfold eH bQ
 have e:(l.any fun y=>y==x)=l.contains x:=by
  rw[List.contains_eq_any_beq]
  congr 1
  funext y
  by_cases h:y=x
  ·rw[h]
  ·have h1:(y==x)=false:=by simpa using h
   have h2:(x==y)=false:=by simpa using Ne.symm h
   rw[h1,h2]
 rw[e]
 cases l.contains x
 ·rfl
 ·simp
noncomputable def Mh:List (Nat×Spec):=[(75,S120)]
theorem YD:∀ f s,tbl Mh f=some s->ak Tryd.prog f s:=tc TD<|tn
attribute [go_sem] Mh
noncomputable def P107:PSpec:=p2 ei iI (fun _ _=>True) (fun l x=>.bool (bQ l x)) true
noncomputable def S107:Spec:=P107.toSpec
attribute [go_sem] P107 S107
theorem P4:aR Tryd.prog 53 P107:=by
 refine w2 (rs:=[.tmp 4]) Tryd.func53 Tryd.ntmps53 (by rfl) (by kernel_rfl) (by decide) (fun _ _ _=>rfl) ⟨_,rfl,lb rfl,fun l x hp hw=>?_⟩
 have hP:=bc
 simp only[iI,ei]at hw |-
 have hΓ:=YD
 repeat refine sq ?_
 refine rx hΓ [0,1] [] (fun K' hK=>by simp only[go_sem];(repeat (refine⟨ah,?_⟩));exact hK _ (by simp only[go_sem]) (by simp only[go_sem]<;>rfl)) ?_
 repeat refine sq ?_
 refine rx hΓ [4] [] (fun K' hK=>by simp only[go_sem,Ua];(repeat (refine⟨ah,?_⟩));exact hK _ (by simp only[go_sem]) (by simp only[go_sem]<;>rfl)) ?_
 refine av ?_
 simp only[go_sem]
 all_goals first | rfl | (simp;done) | (simp_all;done)
theorem TH:ak Tryd.prog 53 S107:=P4.sound
@[go_sem] theorem acz(s:Stk):List.take 1 (aB s)=[fo s.ho]:=rfl
def iK(l:List Dk)(p:Int)(z:Nat):List Int:=((l.take z).filter fun d=>bQ d.now.ho p).map Dk.me
theorem D5{l:List Dk}{p:Int}{z:Nat}(h:z<l.length)(hp:bQ l[z].now.ho p=true):iK l p (z+1)=iK l p z++[l[z].me]:=by
 unfold iK
 rw[List.take_add_one,List.getElem?_eq_getElem h,List.filter_append,List.map_append]
 show _++(List.filter _ [l[z]]).map Dk.me=_
 rw[List.filter_cons_of_pos (by simpa using hp)]
 rfl
theorem D7{l:List Dk}{p:Int}{z:Nat}(h:z<l.length)(hp:bQ l[z].now.ho p=false):iK l p (z+1)=iK l p z:=by
 unfold iK
 rw[List.take_add_one,List.getElem?_eq_getElem h,List.filter_append,List.map_append]
 show _++(List.filter _ [l[z]]).map Dk.me=_
 rw[List.filter_cons_of_neg (by simp[hp])]
 simp
theorem D6(l:List Dk)(p:Int)(z:Nat):(iK l p z).length<=l.length:=by
 unfold iK
 rw[List.length_map]
 refine Nat.le_trans (List.length_filter_le _ _) ?_
 rw[List.length_take];omega
def vE(l:List Dk)(p:Int):List Int:=if eg l p=0 then iK l p l.length else[]
theorem nJ{l:List Dk}{p:Int}(h:eg l p=0):vE l p=iK l p l.length:=if_pos h
theorem nK{l:List Dk}{p:Int}(h:eg l p≠0):vE l p=[]:=if_neg h
theorem oF{l:List Dk}(h:bU l=true):l.length<=6/\∀ i (hi:i<l.length),aF l[i]=true:=by
 unfold bU at h
 rw[Bool.and_eq_true,decide_eq_true_eq,gx]at h
 refine⟨h.2,fun i hi=>?_⟩
 have :=h.1 i hi
 unfold jl at this
 rw[Bool.and_eq_true,getD_at hi]at this
 exact this.1
theorem s9{l:List Dk}{p:Int}(h:eg l p=0):bU l=true/\aM p 1 999=true:=by
 cases h1:bU l
 ·rw[pt h1]at h;cases h
 ·cases h2:aM p 1 999
  ·rw[pr h1 h2]at h;cases h
  ·exact⟨rfl,rfl⟩
noncomputable def Mg:List (Nat×Spec):=[(52,S104),(53,S107)]
theorem YC:∀ f s,tbl Mg f=some s->ak Tryd.prog f s:=tc H9<|tc TH<|tn
attribute [go_sem] Mg
noncomputable def P70:PSpec:=p2 dU iI (fun _ _=>True) (fun l p=>.tup [.sl ((vE l p).map vInt),vInt (eg l p)]) false
noncomputable def S70:Spec:=P70.toSpec
attribute [go_sem] P70 S70
set_option maxHeartbeats 4000000 in
theorem Pp:aR Tryd.prog 20 P70:=by
 refine w2 (rs:=[.tmp 4,.tmp 5]) Tryd.func20 Tryd.ntmps20 (by rfl) (by kernel_rfl) (by decide) (fun h=>by cases h) ⟨_,rfl,lb rfl,fun l p hp hw=>?_⟩
 have hP:=bc
 simp only[dU,iI]at hw |-
 have hΓ:=YC
 have hl:l.length<=maxLen:=by have:=hw.1.1;simpa using this
 repeat refine sq ?_
 refine rx hΓ [0,1] [] (fun K' hK=>by simp only[go_sem];(repeat (refine⟨ah,?_⟩));exact hK _ (by simp only[go_sem]) (by simp only[go_sem]<;>rfl)) ?_
 repeat refine sq ?_
 refine rx hΓ [0,1,6] [] (fun K' hK=>by simp only[go_sem];(repeat (refine⟨ah,?_⟩));exact hK _ (by simp only[go_sem]) (by simp only[go_sem]<;>rfl)) ?_
 repeat refine sq ?_
 refine rx hΓ [0,1,6,14] [] (fun K' hK=>by simp only[go_sem];(repeat (refine⟨ah,?_⟩));exact hK _ (by simp only[go_sem]) (by simp only[go_sem]<;>rfl)) ?_
 repeat refine sq ?_
 refine ax rfl rfl (fun hb=>?_) (fun hb=>?_)
 ·repeat refine sq ?_
  have he:eg l p≠0:=by simpa using hb
  repeat refine sq ?_
  refine rx hΓ [4,5] [[31,0]] (fun K' hK=>by simp only[go_sem];(repeat (refine⟨ah,?_⟩));exact hK _ (by simp only[go_sem]) (by simp only[go_sem]<;>rfl)) ?_
  refine av ?_
  simp only[go_sem]
  first | (rw[nK he];done) | (rw[nK he];rfl) | (rw[nJ he,he];done) | (rw[nJ he,he];rfl)
 ·repeat refine sq ?_
  have he:eg l p=0:=by simpa using hb
  refine aC ?_
  repeat refine sq ?_
  refine rx hΓ [0,1,7] [[31,0]] (fun K' hK=>by simp only[go_sem];(repeat (refine⟨ah,?_⟩));exact hK _ (by simp only[go_sem]) (by simp only[go_sem]<;>rfl)) ?_
  refine bq (oY 7 [31,0] 1 (by simp only[go_sem]) (by simp only[go_sem]) [0,1,7] [[31,0]] ?_ rfl) ?_
  ·simp only[go_sem]
  simp only[go_sem]
  repeat refine sq ?_
  refine rx hΓ [1,7,16,17,18] [[31,0]] (fun K' hK=>by simp only[go_sem];(repeat (refine⟨ah,?_⟩));exact hK _ (by simp only[go_sem]) (by simp only[go_sem]<;>rfl)) ?_
  repeat refine sq ?_
  refine aJ ?_
  repeat refine sq ?_
  refine bR (fun z:Nat=>[(18,⟨true,.v (vInt z)⟩),(7,⟨true,.msl [31,0] (iK l p z).length⟩)]) (fun z=>[([31,0],.arr 1 ((iK l p z).map vInt))]) (fun z=>z<=l.length) (fun z=>l.length-z) 0 ?_ ?_ ?_ ?_
  ·exact Nat.zero_le _
  ·rfl
  ·rfl
  rintro i hi
  simp only[go_sem]
  repeat refine sq ?_
  refine rx hΓ [1,7,16,17,18,19] [[31,0]] (fun K' hK=>by simp only[go_sem];(repeat (refine⟨ah,?_⟩));exact hK _ (by simp only[go_sem]) (by simp only[go_sem]<;>rfl)) ?_
  repeat refine sq ?_
  refine ax rfl rfl (fun hb=>?_) (fun hb=>?_)
  ·have ae:i<l.length:=by simpa using hb
   have ai:(i:Int)<l.length:=by omega
   clear hb
   have hx:=D6 l p i
   have Ul:=(oF (s9 he).1).1
   repeat refine sq ?_
   refine aC ?_
   repeat refine sq ?_
   refine aJ ?_
   repeat refine sq ?_
   refine rx hΓ [1,7,9,16,17,18] [[9,0],[31,0]] (fun K' hK=>by simp only[go_sem,bh ae,Int.toNat_natCast,Int.natCast_nonneg,ai,List.length_map,bh ae,Int.toNat_natCast,Int.natCast_nonneg,ai,List.length_map,List.append_nil];(repeat (refine⟨ah,?_⟩));exact hK _ (by simp only[go_sem]) (by simp only[go_sem]<;>rfl)) ?_
   refine bq (dd [9,0] (aq l[i]) rfl [1,7,9,16,17,18] [[9,0],[31,0]] ?_ rfl) ?_
   ·simp only[go_sem]
   simp only[go_sem]
   repeat refine sq ?_
   refine rx hΓ [1,7,9,16,17,18,26] [[9,0],[31,0]] (fun K' hK=>by simp only[go_sem,bh ae,Int.toNat_natCast,Int.natCast_nonneg,ai,List.length_map];(repeat (refine⟨ah,?_⟩));exact hK _ (by simp only[go_sem]) (by simp only[go_sem]<;>rfl)) ?_
   repeat refine sq ?_
   refine ax rfl rfl (fun hb=>?_) (fun hb=>?_)
   ·repeat refine sq ?_
    have e:=D5 ae hb
    repeat refine sq ?_
    refine aQ hΓ fun K' hK=>?_
    simp only[go_sem,bh ae,Int.toNat_natCast,Int.natCast_nonneg,ai,List.length_map,List.map_append,List.length_append,List.map_cons,List.map_nil,List.length_cons,List.length_nil]
    repeat (refine⟨by first | exact⟨rfl,by omega,by unfold maxLen;omega⟩ | exact ah,?_⟩)
    refine hK _ ?_
    clear K' hK
    simp only[go_sem]
    refine kp [1,7,16,17,18] [[31,0]] ?_
    repeat refine sq ?_
    refine aQ hΓ fun K' hK=>?_
    simp only[go_sem,bh ae,Int.toNat_natCast,Int.natCast_nonneg,ai,List.length_map]
    repeat (refine⟨ah,?_⟩)
    refine hK _ ?_
    clear K' hK
    simp only[go_sem]
    refine⟨i+1,ae,by(show l.length-(i+1)<l.length-i;omega),?_⟩
    refine bd [1,7,16,17,18] [[31,0]] ?_ ?_
    ·simp only[go_sem,aA ae hl,Int.natCast_add,Int.natCast_one,e,List.map_append,List.length_append,List.map_cons,List.map_nil,List.length_cons,List.length_nil]
    ·simp only[go_sem,aA ae hl,Int.natCast_add,Int.natCast_one,e,List.map_append,List.length_append,List.map_cons,List.map_nil,List.length_cons,List.length_nil]
   ·repeat refine sq ?_
    have e:=D7 ae hb
    refine aC ?_
    refine cX ?_
    simp only[go_sem]
    refine kp [1,7,16,17,18] [[31,0]] ?_
    repeat refine sq ?_
    refine aQ hΓ fun K' hK=>?_
    simp only[go_sem,bh ae,Int.toNat_natCast,Int.natCast_nonneg,ai,List.length_map]
    repeat (refine⟨ah,?_⟩)
    refine hK _ ?_
    clear K' hK
    simp only[go_sem]
    refine⟨i+1,ae,by(show l.length-(i+1)<l.length-i;omega),?_⟩
    refine bd [1,7,16,17,18] [[31,0]] ?_ ?_
    ·simp only[go_sem,aA ae hl,Int.natCast_add,Int.natCast_one,e,List.map_append,List.length_append,List.map_cons,List.map_nil,List.length_cons,List.length_nil]
    ·simp only[go_sem,aA ae hl,Int.natCast_add,Int.natCast_one,e,List.map_append,List.length_append,List.map_cons,List.map_nil,List.length_cons,List.length_nil]
  ·have aV:i=l.length:=by
    have :¬ (i:Int)<l.length:=by simpa using hb
    omega
   clear hb
   subst aV
   repeat refine sq ?_
   refine bK ?_
   simp only[go_sem]
   refine kp [7] [[31,0]] ?_
   repeat refine sq ?_
   refine rx hΓ [4,5] [[31,0]] (fun K' hK=>by simp only[go_sem];(repeat (refine⟨ah,?_⟩));exact hK _ (by simp only[go_sem]) (by simp only[go_sem]<;>rfl)) ?_
   refine av ?_
   simp only[go_sem]
   first | (rw[nK he];done) | (rw[nK he];rfl) | (rw[nJ he,he];done) | (rw[nJ he,he];rfl)
theorem Tn:ak Tryd.prog 20 S70:=Pp.sound
noncomputable def Mf:List (Nat×Spec):=[(54,S554),(55,S68)]
theorem YB:∀ f s,tbl Mf f=some s->ak Tryd.prog f s:=tc HZ<|tc HW<|tn
attribute [go_sem] Mf
noncomputable def P521:PSpec:=p2 dU iI (fun _ _=>True) (fun l p=>.tup [.sl ((vE l p).map vInt),vInt (eg l p)]) false
noncomputable def S521:Spec:=P521.toSpec
attribute [go_sem] P521 S521
set_option maxHeartbeats 4000000 in
theorem PE:aR Tryd.prog 21 P521:=by
 refine w2 (rs:=[.tmp 4,.tmp 5]) Tryd.func21 Tryd.ntmps21 (by rfl) (by kernel_rfl) (by decide) (fun h=>by cases h) ⟨_,rfl,lb rfl,fun l p hp hw=>?_⟩
 have hP:=bc
 simp only[dU,iI]at hw |-
 have hΓ:=YB
 have hl:l.length<=maxLen:=by have:=hw.1.1;simpa using this
 repeat refine sq ?_
 refine rx hΓ [0,1] [] (fun K' hK=>by simp only[go_sem];(repeat (refine⟨ah,?_⟩));exact hK _ (by simp only[go_sem]) (by simp only[go_sem]<;>rfl)) ?_
 repeat refine sq ?_
 refine rx hΓ [0,1,6] [] (fun K' hK=>by simp only[go_sem];(repeat (refine⟨ah,?_⟩));exact hK _ (by simp only[go_sem]) (by simp only[go_sem]<;>rfl)) ?_
 repeat refine sq ?_
 refine rx hΓ [0,1,6,15] [] (fun K' hK=>by simp only[go_sem];(repeat (refine⟨ah,?_⟩));exact hK _ (by simp only[go_sem]) (by simp only[go_sem]<;>rfl)) ?_
 repeat refine sq ?_
 refine ax rfl rfl (fun hb=>?_) (fun hb=>?_)
 ·repeat refine sq ?_
  have he:eg l p≠0:=by simpa using hb
  repeat refine sq ?_
  refine rx hΓ [4,5] [[43,0]] (fun K' hK=>by simp only[go_sem];(repeat (refine⟨ah,?_⟩));exact hK _ (by simp only[go_sem]) (by simp only[go_sem]<;>rfl)) ?_
  refine av ?_
  simp only[go_sem]
  first | (rw[nK he];done) | (rw[nK he];rfl) | (rw[nJ he,he];done) | (rw[nJ he,he];rfl)
 ·repeat refine sq ?_
  have he:eg l p=0:=by simpa using hb
  refine aC ?_
  repeat refine sq ?_
  refine rx hΓ [0,1,7] [[43,0]] (fun K' hK=>by simp only[go_sem];(repeat (refine⟨ah,?_⟩));exact hK _ (by simp only[go_sem]) (by simp only[go_sem]<;>rfl)) ?_
  refine bq (oY 7 [43,0] 1 (by simp only[go_sem]) (by simp only[go_sem]) [0,1,7] [[43,0]] ?_ rfl) ?_
  ·simp only[go_sem]
  simp only[go_sem]
  repeat refine sq ?_
  refine rx hΓ [0,1,7,8] [[43,0]] (fun K' hK=>by simp only[go_sem];(repeat (refine⟨ah,?_⟩));exact hK _ (by simp only[go_sem]) (by simp only[go_sem]<;>rfl)) ?_
  repeat refine sq ?_
  refine aJ ?_
  repeat refine sq ?_
  refine bR (fun z:Nat=>[(8,⟨true,.v (vInt z)⟩),(7,⟨true,.msl [43,0] (iK l p z).length⟩)]) (fun z=>[([43,0],.arr 1 ((iK l p z).map vInt))]) (fun z=>z<=l.length) (fun z=>l.length-z) 0 ?_ ?_ ?_ ?_
  ·exact Nat.zero_le _
  ·rfl
  ·rfl
  rintro i hi
  simp only[go_sem]
  repeat refine sq ?_
  refine rx hΓ [0,1,7,8,20] [[43,0]] (fun K' hK=>by simp only[go_sem];(repeat (refine⟨ah,?_⟩));exact hK _ (by simp only[go_sem]) (by simp only[go_sem]<;>rfl)) ?_
  repeat refine sq ?_
  refine ax rfl rfl (fun hb=>?_) (fun hb=>?_)
  ·have ae:i<l.length:=by simpa using hb
   have ai:(i:Int)<l.length:=by omega
   clear hb
   have hx:=D6 l p i
   have Ul:=(oF (s9 he).1).1
   have aa:=(nv.1 ((oF (s9 he).1).2 i ae)).1
   repeat refine sq ?_
   refine aC ?_
   repeat refine sq ?_
   refine aJ ?_
   repeat refine sq ?_
   refine rx hΓ [0,1,7,8,10] [[43,0]] (fun K' hK=>by simp only[go_sem,bh ae,Int.toNat_natCast,Int.natCast_nonneg,ai,List.length_map,bh ae,Int.toNat_natCast,Int.natCast_nonneg,ai,List.length_map,List.append_nil];(repeat (refine⟨by first | exact⟨aa.ri,by have:=aa.ln;omega⟩ | exact ah,?_⟩));exact hK _ (by simp only[go_sem]) (by simp only[go_sem]<;>rfl)) ?_
   repeat refine sq ?_
   refine rx hΓ [0,1,7,8,35] [[43,0]] (fun K' hK=>by simp only[go_sem,bh ae,Int.toNat_natCast,Int.natCast_nonneg,ai,List.length_map];(repeat (refine⟨ah,?_⟩));exact hK _ (by simp only[go_sem]) (by simp only[go_sem]<;>rfl)) ?_
   repeat refine sq ?_
   refine ax rfl rfl (fun hb=>?_) (fun hb=>?_)
   ·repeat refine sq ?_
    have e:=D5 (p:=p) ae (by simpa using hb)
    repeat refine sq ?_
    refine aQ hΓ fun K' hK=>?_
    simp only[go_sem,bh ae,Int.toNat_natCast,Int.natCast_nonneg,ai,List.length_map,bh ae,Int.toNat_natCast,Int.natCast_nonneg,ai,List.length_map,List.map_append,List.length_append,List.map_cons,List.map_nil,List.length_cons,List.length_nil]
    repeat (refine⟨by first | exact⟨rfl,by omega,by unfold maxLen;omega⟩ | exact ah,?_⟩)
    refine hK _ ?_
    clear K' hK
    simp only[go_sem]
    refine kp [0,1,7,8] [[43,0]] ?_
    repeat refine sq ?_
    refine aQ hΓ fun K' hK=>?_
    simp only[go_sem,bh ae,Int.toNat_natCast,Int.natCast_nonneg,ai,List.length_map]
    repeat (refine⟨ah,?_⟩)
    refine hK _ ?_
    clear K' hK
    simp only[go_sem]
    refine⟨i+1,ae,by(show l.length-(i+1)<l.length-i;omega),?_⟩
    refine bd [0,1,7,8] [[43,0]] ?_ ?_
    ·simp only[go_sem,aA ae hl,Int.natCast_add,Int.natCast_one,e,List.map_append,List.length_append,List.map_cons,List.map_nil,List.length_cons,List.length_nil]
    ·simp only[go_sem,aA ae hl,Int.natCast_add,Int.natCast_one,e,List.map_append,List.length_append,List.map_cons,List.map_nil,List.length_cons,List.length_nil]
   ·repeat refine sq ?_
    have e:=D7 (p:=p) ae (by simpa using hb)
    refine aC ?_
    refine cX ?_
    simp only[go_sem]
    refine kp [0,1,7,8] [[43,0]] ?_
    repeat refine sq ?_
    refine aQ hΓ fun K' hK=>?_
    simp only[go_sem,bh ae,Int.toNat_natCast,Int.natCast_nonneg,ai,List.length_map]
    repeat (refine⟨ah,?_⟩)
    refine hK _ ?_
    clear K' hK
    simp only[go_sem]
    refine⟨i+1,ae,by(show l.length-(i+1)<l.length-i;omega),?_⟩
    refine bd [0,1,7,8] [[43,0]] ?_ ?_
    ·simp only[go_sem,aA ae hl,Int.natCast_add,Int.natCast_one,e,List.map_append,List.length_append,List.map_cons,List.map_nil,List.length_cons,List.length_nil]
    ·simp only[go_sem,aA ae hl,Int.natCast_add,Int.natCast_one,e,List.map_append,List.length_append,List.map_cons,List.map_nil,List.length_cons,List.length_nil]
  ·have aV:i=l.length:=by
    have :¬ (i:Int)<l.length:=by simpa using hb
    omega
   clear hb
   subst aV
   repeat refine sq ?_
   refine bK ?_
   simp only[go_sem]
   refine kp [7] [[43,0]] ?_
   repeat refine sq ?_
   refine rx hΓ [4,5] [[43,0]] (fun K' hK=>by simp only[go_sem];(repeat (refine⟨ah,?_⟩));exact hK _ (by simp only[go_sem]) (by simp only[go_sem]<;>rfl)) ?_
   refine av ?_
   simp only[go_sem]
   first | (rw[nK he];done) | (rw[nK he];rfl) | (rw[nJ he,he];done) | (rw[nJ he,he];rfl)
theorem Tz:ak Tryd.prog 21 S521:=PE.sound
def AY:En Int:=⟨fun k=>.ptr [vInt k],fun v=>match v with | .ptr [.int _ k]=>k | _=>0⟩
def AZ:En Int:=⟨fun k=>.clo (.func 57) [] [.ptr [vInt k]],fun v=>match v with | .clo _ _ [.ptr [.int _ k]]=>k | _=>0⟩
attribute [go_sem] AY AZ
def gP(k:Int)(d:Dk):Bool:=d.me==k
noncomputable def P106:PSpec:=p2 dK AY (fun _ _=>True) (fun d k=>.bool (gP k d)) true
noncomputable def S106:Spec:=P106.toSpec
attribute [go_sem] P106 S106
theorem P5:aR Tryd.prog 57 P106:=by
 refine w2 (rs:=[.tmp 3]) Tryd.func57 Tryd.ntmps57 (by rfl) (by kernel_rfl) (by decide) (fun _ _ _=>rfl) ⟨_,rfl,lb rfl,fun d k hp hw=>?_⟩
 have hP:=bc
 simp only[AY,dK]at hw |-
 have hΓ:=@ig Tryd.prog
 repeat refine sq ?_
 refine rx hΓ [1,2] [[2,0]] (fun K' hK=>by simp only[go_sem];(repeat (refine⟨ah,?_⟩));exact hK _ (by simp only[go_sem]) (by simp only[go_sem]<;>rfl)) ?_
 refine bq (dd [2,0] (aq d) rfl [1,2] [[2,0]] ?_ rfl) ?_
 ·simp only[go_sem]
 simp only[go_sem]
 repeat refine sq ?_
 refine rx hΓ [3] [] (fun K' hK=>by simp only[go_sem];(repeat (refine⟨ah,?_⟩));exact hK _ (by simp only[go_sem]) (by simp only[go_sem]<;>rfl)) ?_
 refine av ?_
 simp only[go_sem]
 all_goals first | rfl | (simp;done) | (simp_all;done)
theorem TI:ak Tryd.prog 57 S106:=P5.sound
noncomputable def DV:List (Nat×Spec):=[(57,S106)]
theorem YA:∀ f s,tbl DV f=some s->ak Tryd.prog f s:=tc TI<|tn
attribute [go_sem] DV
noncomputable def P105:PSpec:=p2 dU AZ (fun _ _=>True) (fun l k=>vInt (eH (gP k) l)) true
noncomputable def S105:Spec:=P105.toSpec
attribute [go_sem] P105 S105
set_option maxHeartbeats 4000000 in
theorem P6:aR Tryd.prog 56 P105:=by
 refine w2 (rs:=[.tmp 4]) Tryd.func56 Tryd.ntmps56 (by rfl) (by kernel_rfl) (by decide) (fun _ _ _=>rfl) ⟨_,rfl,lb rfl,fun l x hp hw=>?_⟩
 have hP:=bc
 simp only[AZ,dU]at hw |-
 have hl:l.length<=maxLen:=by have:=hw.1.1;simpa using this
 obtain⟨Γ,sG,hΓ,hs,hg⟩:∃ (Γ:FuncId->Option Spec) (sG:Spec),(∀ f s,Γ f=some s->ak Tryd.prog f s)/\Γ 57=some sG/\
  ∀ (obj:Name->Option O) (t:Name) (d:Dk),sG.app obj t [.v (.agg (aq d)),.v (.ptr [vInt x])]=⟨True,.v (.bool (gP x d)),obj⟩:=⟨tbl DV,S106,YA,rfl,fun obj t d=>by simp only[go_sem]⟩
 repeat refine sq ?_
 refine rx hΓ [0,1] [] (fun K' hK=>by simp only[go_sem];(repeat (refine⟨ah,?_⟩));exact hK _ (by simp only[go_sem]) (by simp only[go_sem]<;>rfl)) ?_
 repeat refine sq ?_
 refine rx hΓ [0,1,7,8] [] (fun K' hK=>by simp only[go_sem];(repeat (refine⟨ah,?_⟩));exact hK _ (by simp only[go_sem]) (by simp only[go_sem]<;>rfl)) ?_
 repeat refine sq ?_
 refine aJ ?_
 repeat refine sq ?_
 refine bR (fun z:Nat=>[(8,⟨true,.v (vInt z)⟩)]) (fun z=>[]) (fun z=>z<=l.length/\∀ k (h:k<l.length),k<z->gP x l[k]=false) (fun z=>l.length-z) 0 ?_ ?_ ?_ ?_
 ·exact⟨Nat.zero_le _,fun k h hk=>absurd hk (by omega)⟩
 ·rfl
 ·rfl
 rintro i ⟨hi,hR⟩
 simp only[go_sem]
 repeat refine sq ?_
 refine rx hΓ [0,1,7,8,9] [] (fun K' hK=>by simp only[go_sem];(repeat (refine⟨ah,?_⟩));exact hK _ (by simp only[go_sem]) (by simp only[go_sem]<;>rfl)) ?_
 repeat refine sq ?_
 refine ax rfl rfl (fun hb=>?_) (fun hb=>?_)
 ·have ae:i<l.length:=by simpa using hb
  have ai:(i:Int)<l.length:=by omega
  clear hb
  repeat refine sq ?_
  refine aC ?_
  repeat refine sq ?_
  refine aJ ?_
  repeat refine sq ?_
  refine rx hΓ [0,1,5,7,8] [] (fun K' hK=>by simp only[go_sem,aH ae,Int.toNat_natCast,Int.natCast_nonneg,ai];(repeat (refine⟨ah,?_⟩));exact hK _ (by simp only[go_sem]) (by simp only[go_sem]<;>rfl)) ?_
  repeat refine sq ?_
  refine rx hΓ [0,1,5,7,8,16] [] (fun K' hK=>by simp only[go_sem,aH ae,Int.toNat_natCast,Int.natCast_nonneg,ai,bh ae,hs,hg,Int.toNat_natCast,Int.natCast_nonneg,ai,List.length_map];(repeat (refine⟨ah,?_⟩));exact hK _ (by simp only[go_sem]) (by simp only[go_sem]<;>rfl)) ?_
  repeat refine sq ?_
  refine ax rfl rfl (fun hb=>?_) (fun hb=>?_)
  ·repeat refine sq ?_
   refine rx hΓ [4] [] (fun K' hK=>by simp only[go_sem,aH ae,Int.toNat_natCast,Int.natCast_nonneg,ai];(repeat (refine⟨ah,?_⟩));exact hK _ (by simp only[go_sem]) (by simp only[go_sem]<;>rfl)) ?_
   refine av ?_
   simp only[go_sem]
   rw[xa (p:=gP x) ae (by simpa using hb) hR]
  ·repeat refine sq ?_
   refine aC ?_
   refine cX ?_
   simp only[go_sem]
   refine kp [0,1,7,8] [] ?_
   repeat refine sq ?_
   refine aQ hΓ fun K' hK=>?_
   simp only[go_sem,aH ae,Int.toNat_natCast,Int.natCast_nonneg,ai]
   repeat (refine⟨ah,?_⟩)
   refine hK _ ?_
   clear K' hK
   simp only[go_sem]
   refine⟨i+1,⟨ae,?_⟩,by(show l.length-(i+1)<l.length-i;omega),?_⟩
   ·intro k hk jH
    rcases Nat.lt_succ_iff_lt_or_eq.1 jH with h5 | rfl
    ·exact hR k hk h5
    ·simpa using hb
   refine bd [0,1,7,8] [] ?_ ?_
   ·simp only[go_sem,aA ae hl,Int.natCast_add,Int.natCast_one]
   ·simp only[go_sem,aA ae hl,Int.natCast_add,Int.natCast_one]
 ·have aV:i=l.length:=by
   have :¬ (i:Int)<l.length:=by simpa using hb
   omega
  clear hb
  subst aV
  repeat refine sq ?_
  refine bK ?_
  simp only[go_sem]
  refine kp [] [] ?_
  repeat refine sq ?_
  refine rx hΓ [4] [] (fun K' hK=>by simp only[go_sem];(repeat (refine⟨ah,?_⟩));exact hK _ (by simp only[go_sem]) (by simp only[go_sem]<;>rfl)) ?_
  refine av ?_
  simp only[go_sem]
  rw[w9 (p:=gP x) fun k hk=>hR k hk hk]
theorem TJ:ak Tryd.prog 56 S105:=P6.sound
def qV(l:List Dk)(k:Int)(f:Nat):Int:=if eH (gP k) l<0 then -1 else(l.getD (eH (gP k) l).toNat default).now.ta.get f
def l9(l:List Dk)(p:Int)(d:Dk)(k:Nat)(q:Par):Bool:=q.pa==p&&decide (q.no>qV l k d.me.toNat)
def jQ(a:Int×Int):V:=.agg [vInt a.1,vInt a.2]
attribute [go_sem] jQ
def gX(l:List Dk)(p:Int)(d:Dk)(k z:Nat):List (Int×Int):=(((d.now.un.get k).take z).filter (l9 l p d k)).map fun _=>(d.me,(k:Int))
def ma(l:List Dk)(p:Int)(d:Dk):Nat->List (Int×Int)
 | 0=>[]
 |k+1=>ma l p d k++gX l p d k (d.now.un.get k).length
def ed(l:List Dk)(p:Int):Nat->List (Int×Int)
 | 0=>[]
 |i+1=>ed l p i++ma l p (l.getD i default) 6
theorem Xb{l:List Dk}{p:Int}{d:Dk}{k z:Nat}(h:z<(d.now.un.get k).length)(hq:l9 l p d k (d.now.un.get k)[z]=true):gX l p d k (z+1)=gX l p d k z++[(d.me,(k:Int))]:=by
 unfold gX
 rw[List.take_add_one,List.getElem?_eq_getElem h,List.filter_append,List.map_append]
 show _++(List.filter _ [_]).map _=_
 rw[List.filter_cons_of_pos hq]
 rfl
theorem Xc{l:List Dk}{p:Int}{d:Dk}{k z:Nat}(h:z<(d.now.un.get k).length)(hq:l9 l p d k (d.now.un.get k)[z]=false):gX l p d k (z+1)=gX l p d k z:=by
 unfold gX
 rw[List.take_add_one,List.getElem?_eq_getElem h,List.filter_append,List.map_append]
 show _++(List.filter _ [_]).map _=_
 rw[List.filter_cons_of_neg (by rw[hq];decide)]
 simp
theorem KF{l:List Dk}{p:Int}{d:Dk}{k z:Nat}(h:(d.now.un.get k).length<=40):(gX l p d k z).length<=40:=by
 unfold gX
 rw[List.length_map]
 refine Nat.le_trans (List.length_filter_le _ _) ?_
 rw[List.length_take];omega
theorem Df{l:List Dk}{p:Int}{d:Dk}(h:∀ k,k<6->(d.now.un.get k).length<=40):∀ k,k<=6->(ma l p d k).length<=40*k
 | 0,_=>by simp[ma]
 |k+1,hk=>by
  have :=Df (l:=l) (p:=p) h k (by omega)
  have h2:=KF (l:=l) (p:=p) (z:=(d.now.un.get k).length) (h k (by omega))
  simp only[ma,List.length_append]
  omega
theorem KG{l:List Dk}{p:Int}(h:bU l=true):∀ i,i<=l.length->(ed l p i).length<=240*i
 | 0,_=>by simp[ed]
 |i+1,hi=>by
  have :=KG (p:=p) h i (by omega)
  have hg:l.getD i default=l[i]'(by omega):=getD_at (by omega)
  have aa:=(nv.1 ((oF h).2 i (by omega))).1
  have h2:=Df (l:=l) (p:=p) (d:=l[i]'(by omega)) (fun k hk=>(aa.un k hk).2) 6 (Nat.le_refl _)
  simp only[ed,List.length_append,hg]
  omega
def yh(l:List Dk)(p:Int):List (Int×Int):=if eg l p=0 then ed l p l.length else[]
theorem oJ{l:List Dk}{p:Int}(h:eg l p=0):yh l p=ed l p l.length:=if_pos h
theorem oK{l:List Dk}{p:Int}(h:eg l p≠0):yh l p=[]:=if_neg h
theorem qI{α β:Type}(s:bb α)(e:α->β){k:Nat}(h:k<6):List.take 1 (List.drop k (s.L e))=[e (s.get k)]:=by
 match k,h with
 | 0,_ | 1,_ | 2,_ | 3,_ | 4,_ | 5,_=>rfl
theorem vx(s:bb Int){k:Nat}(h:k<6):List.take 1 (List.drop k ((s.L id).map vInt))=[vInt (s.get k)]:=by
 match k,h with
 | 0,_ | 1,_ | 2,_ | 3,_ | 4,_ | 5,_=>rfl
theorem J'(d:Dk):((aq d).drop 2).take 6=d.now.un.L rowP:=rfl
theorem T9{l:List Dk}{k:Int}(h:¬ eH (gP k) l<0):∃ j:Nat,eH (gP k) l=(j:Int)/\j<l.length:=by
 unfold eH at h |-
 split
 ·next ha=>
  rw[List.any_eq_true]at ha
  obtain⟨x,hx,hp⟩:=ha
  exact⟨_,rfl,List.findIdx_lt_length_of_exists ⟨x,hx,hp⟩⟩
 ·next ha=>rw[if_neg ha]at h;exact absurd (show (-1:Int)<0 by decide) h
theorem Eh{l:List Dk}{k:Int}{f:Nat}(h:eH (gP k) l<0):qV l k f= -1:=if_pos h
theorem Eg{l:List Dk}{k:Int}{f j:Nat}(h:eH (gP k) l=(j:Int))(hj:j<l.length):qV l k f=l[j].now.ta.get f:=by
 unfold qV
 rw[h,if_neg (by omega),Int.toNat_natCast,getD_at hj]
theorem ac1(l:List (Int×Int)):(l.map jQ).length=l.length:=List.length_map ..
def dL(l:List Dk)(p:Int)(c:List (Int×Int))(d:Dk)(k z:Nat):List (Int×Int):=c++(ma l p d k++gX l p d k z)
theorem KE(l:List Dk)(p:Int)(c:List (Int×Int))(d:Dk):dL l p c d 0 0=c:=by
 unfold dL gX;simp[ma]
theorem KC(l:List Dk)(p:Int)(c:List (Int×Int))(d:Dk)(k:Nat):dL l p c d (k+1) 0=dL l p c d k (d.now.un.get k).length:=by
 unfold dL
 rw[show ma l p d (k+1)=ma l p d k++gX l p d k (d.now.un.get k).length from rfl,show gX l p d (k+1) 0=[]from by unfold gX;simp,List.append_nil]
theorem Dd{l:List Dk}{p:Int}(c:List (Int×Int)){d:Dk}{k z:Nat}(h:z<(d.now.un.get k).length)(hq:l9 l p d k (d.now.un.get k)[z]=true):dL l p c d k (z+1)=dL l p c d k z++[(d.me,(k:Int))]:=by
 unfold dL
 rw[Xb h hq,List.append_assoc,List.append_assoc]
theorem De{l:List Dk}{p:Int}(c:List (Int×Int)){d:Dk}{k z:Nat}(h:z<(d.now.un.get k).length)(hq:l9 l p d k (d.now.un.get k)[z]=false):dL l p c d k (z+1)=dL l p c d k z:=by
 unfold dL
 rw[Xc h hq]
theorem KD{l:List Dk}{p:Int}{i:Nat}(h:i<l.length):ed l p (i+1)=dL l p (ed l p i) l[i] 6 0:=by
 unfold dL
 rw[show ed l p (i+1)=ed l p i++ma l p (l.getD i default) 6 from rfl,getD_at h,show gX l p l[i] 6 0=[]from by unfold gX;simp,List.append_nil]
theorem KB{l:List Dk}{p:Int}(h:bU l=true){i k z:Nat}(hi:i<l.length)(hk:k<6):(dL l p (ed l p i) l[i] k z).length<=10000:=by
 have a:=KG (p:=p) h i (by omega)
 have aa:=(nv.1 ((oF h).2 i hi)).1
 have b:=Df (l:=l) (p:=p) (d:=l[i]) (fun k hk=>(aa.un k hk).2) k (by omega)
 have c:=KF (l:=l) (p:=p) (z:=z) (aa.un k hk).2
 have d:=(oF h).1
 unfold dL
 rw[List.length_append,List.length_append]
 omega
end Go.Eng
