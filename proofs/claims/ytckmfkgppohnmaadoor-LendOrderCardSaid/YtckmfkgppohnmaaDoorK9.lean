import Derived.Test.YtckmfkgppohnmaaDoorK8
/- Texts NW64 to KB. -/
set_option linter.all false
namespace Go.Eng
open Go Go.Proofs
set_option maxRecDepth 20000
noncomputable def Pn(j:Nat):List (Nat×Spec):=[(39,S23),(47,S40),(43,AW j),(48,S64),(50,S66)]
attribute [go_sem] Pn
theorem aci{j:Nat}(hj:j<6):∀ f s,tbl (Pn j) f=some s->ak Tryd.prog f s:=tc pK<|tc WM<|tc (KL j hj)<|tc WG<|tc WD<|tn
@[go_sem] theorem ahM(b:Bag):List.take 4 (aX b)=aX b:=rfl
theorem T3{d:Dk}{b:Bag}{k0 m n:Nat}{er:Int}(hw:lS d b k0 m n er)(Ls:List Name):(dp d b k0 m n er).fam Ls 0=[.box ((an zD).map .v),.box [.v (vInt 0)],.box [.ref (Ls.getD 3 []) 0],.box (bk (d.setN (bG d b)) (Ls.getD 4 []) d.now.ho.length),.arr 1 (d.now.ho.map vInt),.box ((aX b).map .v),.box [.ref (Ls.getD 3 []) (14+b.fr.toNat)]]:=by
 have t0:oT d b k0=bG d b:=hw.T0 k0 (Nat.le_refl _)
 have h1:dv d b k0 m 0=bG d b:=by unfold dv;rw[Nat.zero_min,Nat.add_zero];exact t0
 have h2:gC d b k0 m 0=d.now.ho:=by unfold gC;rw[if_pos (Nat.zero_le _),Nat.zero_min,Nat.add_zero,t0];rfl
 have h3:jk m er 0=0:=if_pos (Nat.zero_le _)
 show [O.box ((an zD).map .v),.box [.v (vInt (jk m er 0))],.box [.ref (Ls.getD 3 []) 0],.box (bk (d.setN (dv d b k0 m 0)) (Ls.getD 4 []) (dv d b k0 m 0).ho.length),.arr 1 ((gC d b k0 m 0).map vInt),.box ((aX b).map .v),.box [.ref (Ls.getD 3 []) (14+b.fr.toNat)]]=_
 rw[h1,h2,h3]
 rfl
theorem TY{d:Dk}{b:Bag}{k0 m:Nat}{er:Int}(Ls:List Name):(dp d b k0 m m er).fam Ls m=[.box ((an zD).map .v),.box [.v (vInt 0)],.box [.ref (Ls.getD 3 []) 0],.box (bk (d.setN (oT d b (k0+m))) (Ls.getD 4 []) (oT d b (k0+m)).ho.length),.arr 1 ((oT d b (k0+m)).ho.map vInt),.box ((aX b).map .v),.box [.ref (Ls.getD 3 []) (14+b.fr.toNat)]]:=by
 have h1:dv d b k0 m m=oT d b (k0+m):=by unfold dv;rw[Nat.min_self]
 have h2:gC d b k0 m m=(oT d b (k0+m)).ho:=by unfold gC;rw[if_pos (Nat.le_refl _),Nat.min_self]
 have h3:jk m er m=0:=if_pos (Nat.le_refl _)
 show [O.box ((an zD).map .v),.box [.v (vInt (jk m er m))],.box [.ref (Ls.getD 3 []) 0],.box (bk (d.setN (dv d b k0 m m)) (Ls.getD 4 []) (dv d b k0 m m).ho.length),.arr 1 ((gC d b k0 m m).map vInt),.box ((aX b).map .v),.box [.ref (Ls.getD 3 []) (14+b.fr.toNat)]]=_
 rw[h1,h2,h3]
theorem TZ{d:Dk}{b:Bag}{k0 m:Nat}{er:Int}(Ls:List Name):∃ X Y,(dp d b k0 m (m+1) er).fam Ls (m+1)=[.box ((an zD).map .v),.box [.v (vInt er)],.box [.ref (Ls.getD 3 []) 0],.box (bk X (Ls.getD 4 []) Y),.arr 1 ((gC d b k0 m (m+1)).map vInt),.box ((aX b).map .v),.box [.ref (Ls.getD 3 []) (14+b.fr.toNat)]]:=by
 have h3:jk m er (m+1)=er:=if_neg (by omega)
 refine⟨d.setN (dv d b k0 m (m+1)),(dv d b k0 m (m+1)).ho.length,?_⟩
 show [O.box ((an zD).map .v),.box [.v (vInt (jk m er (m+1)))],.box [.ref (Ls.getD 3 []) 0],.box (bk (d.setN (dv d b k0 m (m+1))) (Ls.getD 4 []) (dv d b k0 m (m+1)).ho.length),.arr 1 ((gC d b k0 m (m+1)).map vInt),.box ((aX b).map .v),.box [.ref (Ls.getD 3 []) (14+b.fr.toNat)]]=_
 rw[h3]
theorem TX{d:Dk}{b:Bag}{k0 m:Nat}{er:Int}(hw:lS d b k0 m m er):(dp d b k0 m m er).pd=none:=by
 obtain⟨_,h1,h2⟩:=Lp.last_e (yj hw)
 cases m with
 |zero=>exact h1 rfl
 |succ m=>rw[h2 m rfl];exact if_pos (Nat.lt_succ_self m)
theorem TW{d:Dk}{b:Bag}{k0 m:Nat}{er:Int}(hw:lS d b k0 m (m+1) er):(dp d b k0 m (m+1) er).pd=some .ret:=by
 obtain⟨_,h1,h2⟩:=Lp.last_e (yj hw)
 rw[h2 m rfl]
 exact if_neg (Nat.lt_irrefl m)
theorem Ot(d:Dk)(s:Stk)(hn:Name)(n:Nat):(bk (d.setN s) hn n).set 1 (.v (.sl (s.ho.map vInt)))=List.map D.v (an (d.setN s)):=rfl
noncomputable def P16:PSpec:=p2 dK nr (fun d _=>eL d) (fun d b=>.tup [kS (eG d b),vInt (fN d b)]) false
noncomputable def S16:Spec:=P16.toSpec
attribute [go_sem] P16 S16
set_option maxHeartbeats 8000000 in
theorem SW:aZ Tryd.prog 18 P16:=by
 refine w2 (rs:=[.cell 4 44,.cell 5 45]) Tryd.func18 Tryd.ntmps18 (by rfl) (by kernel_rfl) (by decide) (fun h=>by cases h) ⟨_,rfl,lb rfl,fun d b hp hw=>?_⟩
 have hP:=br
 simp only[nr,dK]at hw |-
 obtain⟨j,hj,oF⟩:=Tw b
 have hΓ:=aci hj
 have hs:eL d:=hp
 repeat refine sq ?_
 refine rx hΓ [2,3,4,5] [[2,0],[3,0],[4,0],[5,0]] (fun K' hK=>by simp only[go_sem];(repeat (refine⟨ai,?_⟩));exact hK _ (by simp only[go_sem]) (by simp only[go_sem]<;>rfl)) ?_
 refine bq (GN 3 (.ref [3,0] 0) (by simp only[go_sem]) (by simp only[go_sem]) [2,3,4,5] [[2,0],[3,0],[4,0],[5,0]] ?_ rfl) ?_
 ·simp only[go_sem]
 simp only[go_sem]
 refine bq (mW [4,0] _ (an zD) rfl rfl [2,3,4,5] [[2,0],[3,0],[4,0],[5,0]] ?_ rfl) ?_
 ·simp only[go_sem]
 simp only[go_sem]
 refine bq (dS [2,0] (an d) rfl [2,3,4,5] [[2,0],[3,0],[4,0],[5,0]] ?_ rfl) ?_
 ·simp only[go_sem]
 simp only[go_sem]
 repeat refine sq ?_
 refine rx hΓ [2,3,4,5,6] [[2,0],[3,0],[4,0],[5,0]] (fun K' hK=>by simp only[go_sem];(repeat (refine⟨ai,?_⟩));exact hK _ (by simp only[go_sem]) (by simp only[go_sem]<;>rfl)) ?_
 repeat refine sq ?_
 refine rx hΓ [2,3,4,5,6,14] [[2,0],[3,0],[4,0],[5,0]] (fun K' hK=>by simp only[go_sem];(repeat (refine⟨ai,?_⟩));exact hK _ (by simp only[go_sem]) (by simp only[go_sem]<;>rfl)) ?_
 repeat refine sq ?_
 refine aD rfl rfl (fun hb=>?_) (fun hb=>?_)
 ·repeat refine sq ?_
  have hd:=sv hb
  have hq:=Uc (b:=b) hd
  have e1:=kg hd
  repeat refine sq ?_
  refine rx hΓ [4,5] [[4,0],[5,0]] (fun K' hK=>by simp only[go_sem];(repeat (refine⟨ai,?_⟩));exact hK _ (by simp only[go_sem]) (by simp only[go_sem]<;>rfl)) ?_
  refine ax ?_
  simp only[go_sem]
  first | (rw[hq.1,hq.2];done) | (rw[hq.1,hq.2];rfl) | (rw[hq.1,hq.2,e1];done) | (rw[hq.1,hq.2,e1];rfl)
 ·repeat refine sq ?_
  have hd:=ss hb
  refine aI ?_
  repeat refine sq ?_
  refine rx hΓ [2,3,4,5,26] [[2,0],[3,0],[4,0],[5,0]] (fun K' hK=>by simp only[go_sem,Nat.add_zero];(repeat (refine⟨ai,?_⟩));exact hK _ (by simp only[go_sem]) (by simp only[go_sem]<;>rfl)) ?_
  repeat refine sq ?_
  refine aD rfl rfl (fun hb=>?_) (fun hb=>?_)
  ·repeat refine sq ?_
   have h1:iM d b=false:=by have h4:=ML d b;unfold z8 at h4;rw[hb]at h4;simpa using h4.symm
   have hq:=Ue hd h1
   repeat refine sq ?_
   refine rx hΓ [4,5] [[4,0],[5,0]] (fun K' hK=>by simp only[go_sem];(repeat (refine⟨ai,?_⟩));exact hK _ (by simp only[go_sem]) (by simp only[go_sem]<;>rfl)) ?_
   refine ax ?_
   simp only[go_sem]
   first | (rw[hq.1,hq.2];done) | (rw[hq.1,hq.2];rfl) | (rw[hq.1,hq.2,e1];done) | (rw[hq.1,hq.2,e1];rfl)
  ·repeat refine sq ?_
   have h1:iM d b=true:=by have h4:=ML d b;unfold z8 at h4;rw[hb]at h4;simpa using h4.symm
   have kM:fx b=true:=by unfold iM at h1;rw[Bool.and_eq_true]at h1;exact h1.1
   obtain⟨p5,wD,hf,b9,DC,Lh,Lg⟩:=qp kM
   have pX:=oF kM
   subst pX
   have zg:=(yx hd).unl b.fr.toNat hf
   have my:=T5 (ta:=b.ta) hf hd
   have hI:=fun {z:Nat}=>Iz (z:=z) hf my (fun p hp=>(DC p hp).2.1)
   refine aI ?_
   repeat refine sq ?_
   refine rx hΓ [3,4,5,7] [[3,0],[4,0],[5,0],[7,0],[22,0,29,0],[12,0,5,0,29,0],[99,0,5,0,29,0]] (fun K' hK=>by simp only[go_sem,hs];(repeat (refine⟨ai,?_⟩));exact hK _ (by simp only[go_sem]) (by simp only[go_sem]<;>rfl)) ?_
   have uB:=abr d [12,0,5,0,29,0] [99,0,5,0,29,0] d.now.ho.length (d.now.un.get b.fr.toNat).length (d.now.se.get b.fr.toNat) (eV (d.now.un.get b.fr.toNat) b.ta (d.now.un.get b.fr.toNat).length) hf rfl
   replace uB:_=bk (d.setN (bG d b)) [12,0,5,0,29,0] d.now.ho.length:=uB
   have ZT:∀ (F:Name->Option O),F [22,0,29,0]=some (.box (bk (d.setN (bG d b)) [12,0,5,0,29,0] d.now.ho.length))->F [12,0,5,0,29,0]=some (.arr 1 (d.now.ho.map vInt))->S66.app (fun nm=>if own [0] nm=true then F nm else none) [58,0] [.v (.agg (aX b)),.ref [22,0,29,0] (14+b.fr.toNat)]=⟨fresh (fun nm=>if own [0] nm=true then F nm else none) [58,0] (mA (.agg (aX b)) (.ref [22,0,29,0] (14+b.fr.toNat)))=true,.clo (.func 73) [] [.ref [2,0,58,0] 0,.ref [3,0,58,0] 0],upd (upd (fun nm=>if own [0] nm=true then F nm else none) [2,0,58,0] (some (.box ((aX b).map .v)))) [3,0,58,0] (some (.box [.ref [22,0,29,0] (14+b.fr.toNat)]))⟩:=fun F k1 k2=>Z7 (nm:=[22,0,29,0]) (h:=[12,0,5,0,29,0]) (by rw[<-k1];rfl) (by rw[<-k2];rfl) (by decide)
   have ZS:∀ (F:Name->Option O),F [22,0,29,0]=some (.box (bk (d.setN (bG d b)) [12,0,5,0,29,0] d.now.ho.length))->F [12,0,5,0,29,0]=some (.arr 1 (d.now.ho.map vInt))->S66.foot (fun nm=>if own [0] nm=true then F nm else none) [58,0] [.v (.agg (aX b)),.ref [22,0,29,0] (14+b.fr.toNat)]=[[22,0,29,0],[12,0,5,0,29,0],[2,0,58,0],[3,0,58,0]]:=fun F k1 k2=>(MH (nm:=[22,0,29,0]) (h:=[12,0,5,0,29,0]) (by rw[<-k1];rfl) (by rw[<-k2];rfl) (by decide)).1
   have ZR:∀ (F:Name->Option O),F [22,0,29,0]=some (.box (bk (d.setN (bG d b)) [12,0,5,0,29,0] d.now.ho.length))->F [12,0,5,0,29,0]=some (.arr 1 (d.now.ho.map vInt))->S66.wrt (fun nm=>if own [0] nm=true then F nm else none) [58,0] [.v (.agg (aX b)),.ref [22,0,29,0] (14+b.fr.toNat)]=[[2,0,58,0],[3,0,58,0]]:=fun F k1 k2=>(MH (nm:=[22,0,29,0]) (h:=[12,0,5,0,29,0]) (by rw[<-k1];rfl) (by rw[<-k2];rfl) (by decide)).2
   repeat refine sq ?_
   refine dx hΓ hP [[],[],[1],[],[],[4],[3],[3,6],[3,6,7],[3,6,7,8],[3,4,5,6,7,8,9],[3,4,5,6,7,8,9,10],[],[3,4,5,6,7,8,9,10,11,12],[0],[0,14],[0,14,15],[0,14,15,16],[0,1,2,3,4,5,6,7,8,9,10,11,12,13,14,15,16,17],[0,1,2,3,4,5,6,7,8,9,10,11,12,13,14,15,16,17,18]] [3,4,5,7] [[3,0],[4,0],[5,0],[7,0],[22,0,29,0],[12,0,5,0,29,0],[99,0,5,0,29,0]] (by kernel_rfl) (fun K' hK=>by simp only[go_sem,Og d _ _ _ _ hf,p5,wD,VQ,uB];(repeat (refine⟨ai,?_⟩));(first | refine⟨by rfl,?_⟩ | skip);exact hK _ (by simp only[go_sem]) (by simp only[go_sem]<;>rfl)) ?_
   repeat refine sq ?_
   refine dx hΓ hP [[],[],[],[2],[1],[1,4],[1,4,5],[1,4,5,6],[1,2,3,4,5,6,7],[0,1,2,3,4,5,6,7,8]] [3,4,5,7,58] [[3,0],[4,0],[5,0],[7,0],[22,0,29,0],[12,0,5,0,29,0],[99,0,5,0,29,0],[2,0,58,0],[3,0,58,0]] (by kernel_rfl) (fun K' hK=>by simp only[go_sem,p5,wD,ZT,ZS,ZR];(repeat (refine⟨ai,?_⟩));(first | refine⟨by rfl,?_⟩ | skip);exact hK _ (by simp only[go_sem]) (by simp only[go_sem]<;>rfl)) ?_
   repeat refine sq ?_
   refine a8 ?_
   repeat refine sq ?_
   obtain⟨k0,m,n,er,hw⟩:=TT (d:=d) kM
   have Zz:∀ z,z<=k0+m->o8 b.fr.toNat (oT d b z):=fun z hz=>hI (Nat.le_trans hz hw.hk) (hw.er0 z hz)
   have aa:=B9 hw kM
   have gU:=S7 hw kM Zz
   have bF:=yj hw
   have YI:=T3 hw
   refine abb aa (T7 d b k0 m n er) 200 201 (f:=73) (Ls:=[[4,0],[5,0],[7,0],[22,0,29,0],[12,0,5,0,29,0],[2,0,58,0],[3,0,58,0]]) rfl rfl (by decide) gU rfl rfl rfl rfl rfl rfl (by decide) (show ([200,0]:Name)∉[[4,0],[5,0],[7,0],[22,0,29,0],[12,0,5,0,29,0],[2,0,58,0],[3,0,58,0]]by decide) (by rw[YI];exact⟨rfl,rfl,rfl,rfl,rfl,rfl,rfl,trivial⟩) fun o=>?_
   rw[(Lp.last_e bF).1]
   show tk _ { aO _ _ _ _ _ with obj:=upd (cq [[4,0],[5,0],[7,0],[22,0,29,0],[12,0,5,0,29,0],[2,0,58,0],[3,0,58,0]] ((dp d b k0 m n er).fam [[4,0],[5,0],[7,0],[22,0,29,0],[12,0,5,0,29,0],[2,0,58,0],[3,0,58,0]] n) _) _ _ } _
   rcases hw.hn with⟨L5,hn,um⟩ | ⟨aj,hn,um⟩
   ·subst hn
    rw[TX hw,TY,um]
    have Ej:=hw.er0 (k0+n) (Nat.le_refl _)
    rw[um]at Ej
    have hq:=Ca hd h1 Ej
    simp only[tk,fV]
    refine eo ?_
    show CL Tryd.prog (_::_) _ _
    refine kj [4,5,7] [[4,0],[5,0],[7,0],[22,0,29,0],[12,0,5,0,29,0]] ?_ ?_
    ·simp only[go_sem,cq]
    simp only[go_sem,cq]
    refine bq (A6 [22,0,29,0] [12,0,5,0,29,0] 1 _ _ _ _ rfl (abv _ _ _) rfl (by simp only[List.length_map]) [4,5,7] [[4,0],[5,0],[7,0],[22,0,29,0]] ?_ rfl) ?_
    ·simp only[go_sem,Ot]
    simp only[go_sem,Ot]
    repeat refine sq ?_
    refine rx hΓ [4,5] [[4,0],[5,0]] (fun K' hK=>by simp only[go_sem];(repeat (refine⟨ai,?_⟩));exact hK _ (by simp only[go_sem]) (by simp only[go_sem]<;>rfl)) ?_
    refine ax ?_
    simp only[go_sem]
    rw[hq.1,hq.2]
   ·subst hn
    have hq:=Ud hd h1 um (hw.er0 (k0+m) (Nat.le_refl _)) (by rw[getD_at um];exact(hw.bad aj um).2) aj
    obtain⟨X,Y,Zg⟩:=TZ (d:=d) (b:=b) (k0:=k0) (m:=m) (er:=er) [[4,0],[5,0],[7,0],[22,0,29,0],[12,0,5,0,29,0],[2,0,58,0],[3,0,58,0]]
    rw[TW hw,Zg]
    simp only[tk,fV]
    simp only[go_sem,cq]
    rw[hq.1,hq.2]
theorem KQ:ak Tryd.prog 18 S16:=SW.sound
end Go.Eng
set_option linter.unusedVariables false
namespace Go.Eng
open Go Go.Proofs
def w6:Nat->Nat->List Nat->List Nat
 | 0,_,acc=>acc
 |f+1,n,acc=>cond (Nat.blt n 10) ((48+n)::acc) (w6 f (n / 10) ((48+n % 10)::acc))
theorem Nx:∀ (f n:Nat) (acc:List Nat),n<10 ^ (f+1)->w6 (f+1) n acc=(Lib.decDigits n).map UInt8.toNat++acc
 |f,n,acc,h=>by
  unfold w6
  by_cases h9:n<10
  ·have hb:Nat.blt n 10=true:=by simpa[Nat.blt_eq]using h9
   have :(UInt8.ofNat (48+n)).toNat=48+n:=UInt8.toNat_ofNat_of_lt' (by show 48+n<256;omega)
   rw[hb,Lib.decDigits_one h9,List.map_cons,List.map_nil,this]
   rfl
  ·have hb:Nat.blt n 10=false:=by
     cases hh:Nat.blt n 10 with
     |false=>rfl
     |true=>exact absurd (by simpa[Nat.blt_eq]using hh) h9
   have hm:n % 10<10:=Nat.mod_lt _ (by omega)
   have :(UInt8.ofNat (48+n % 10)).toNat=48+n % 10:=UInt8.toNat_ofNat_of_lt' (by show 48+n % 10<256;omega)
   rw[hb,Nw (by omega),cond_false]
   match f,h with
   | 0,h=>exact absurd h (by simpa using h9)
   |g+1,h=>
    rw[Nx g (n / 10) _ (by rw[Nat.pow_succ]at h;omega),List.map_append,List.map_cons,List.map_nil,this,List.append_assoc]
    rfl
def np(w:List Nat)(l:List Int):List Nat:=w++(l.flatMap (fun n=>32::w6 8 n.toNat [])++[10])
def mZ(i:Nat)(l:List Par):List Nat:=l.flatMap fun p=>np [117,110,100,101,114] [(i:Int),p.no,p.pa]
def xF(s:Stk):List Nat:=
 np [104,111,108,100,115] s.ho++(mZ 0 s.un.a++(mZ 1 s.un.b++(mZ 2 s.un.c++(mZ 3 s.un.d++(mZ 4 s.un.e++(mZ 5 s.un.f++(np [115,101,110,116] [s.se.a,s.se.b,s.se.c,s.se.d,s.se.e,s.se.f]++np [116,97,107,101,110] [s.ta.a,s.ta.b,s.ta.c,s.ta.d,s.ta.e,s.ta.f])))))))
def bN(b:ByteArray):List Nat:=b.data.toList.map UInt8.toNat
theorem F7(a b:ByteArray):bN (a++b)=bN a++bN b:=by
 unfold bN
 rw[<-List.map_append]
 congr 1
 all_goals simp
theorem abK(l:List UInt8):bN (ef l)=l.map UInt8.toNat:=by simp[bN,ef]
theorem MP:∀ {l:List Int},(∀ n∈l,bU n)->(l.flatMap (fun n=>32::Lib.itoa n)).map UInt8.toNat=l.flatMap (fun n=>32::w6 8 n.toNat [])
 |[],_=>rfl
 |n::r,h=>by
  obtain⟨h0,h1⟩:=h n (by simp)
  rw[List.flatMap_cons,List.flatMap_cons,List.map_append,MP fun m hm=>h m (by simp[hm]),List.map_cons,CZ h0,Nx 7 n.toNat [] (by show n.toNat<100000000;omega),List.append_nil]
  rfl
theorem yK{w:List UInt8}{l:List Int}(h:∀ n∈l,bU n):bN (dI (ef w) l)=np (w.map UInt8.toNat) l:=by
 have e:(ef w).data.toList=w:=by simp[ef]
 rw[UG,abK]
 unfold np pJ jW
 rw[List.take_length,List.map_append,List.map_append,List.append_assoc,MP h,e]
 rfl
theorem GQ{a:ByteArray}{i:Nat}(hi:i<6){l:List Par}(h:∀ p∈l,bU p.no/\bU p.pa):∀ k,k<=l.length->bN (gK a i l k)=bN a++mZ i (l.take k)
 | 0,_=>by simp[gK,mZ]
 |k+1,hk=>by
  have fQ:k<l.length:=by omega
  have hq:=h _ (List.getElem_mem fQ)
  have ht:l.take (k+1)=l.take k++[l[k]]:=by rw[List.take_add_one,List.getElem?_eq_getElem fQ];rfl
  rw[gK,F7,GQ hi h k (by omega),jF fQ,ht]
  have :bN (dI kq [(i:Int),l[k].no,l[k].pa])=np [117,110,100,101,114] [(i:Int),l[k].no,l[k].pa]:=yK (w:=[117,110,100,101,114]) (yq hi hq)
  rw[this]
  unfold mZ
  rw[List.flatMap_append,List.flatMap_cons,List.flatMap_nil,List.append_nil,List.append_assoc]
theorem tv{s:Stk}(hs:eH s){i:Nat}(hi:i<6):bN (eF s (i+1))=bN (eF s i)++mZ i (s.un.get i):=by
 have :=GQ (a:=eF s i) hi (hs.un i hi) _ (Nat.le_refl _)
 rw[List.take_length]at this
 exact this
theorem GX{s:Stk}(hs:eH s):bN (cX s)=xF s:=by
 unfold cX xF
 have h0:bN (eF s 0)=np [104,111,108,100,115] s.ho:=yK (w:=[104,111,108,100,115]) hs.ho
 have h7:bN (dI lj (s.se.L id))=np [115,101,110,116] [s.se.a,s.se.b,s.se.c,s.se.d,s.se.e,s.se.f]:=yK (w:=[115,101,110,116]) (pr hs.se)
 have h8:bN (dI mX (s.ta.L id))=np [116,97,107,101,110] [s.ta.a,s.ta.b,s.ta.c,s.ta.d,s.ta.e,s.ta.f]:=yK (w:=[116,97,107,101,110]) (pr hs.ta)
 rw[F7,F7,h7,h8,tv hs (show 5<6 by omega),tv hs (show 4<6 by omega),tv hs (show 3<6 by omega),tv hs (show 2<6 by omega),tv hs (show 1<6 by omega),tv hs (show 0<6 by omega),h0]
 simp only[List.append_assoc]
 rfl
def xN(o c:Nat):Nat:=(257*o+c+1) % 1000003
def Bi(s:Stk)(n:Int):Nat:=(xF s).foldl xN (n.toNat % 1000003)
theorem QT(a:Nat):((a:Int)).tmod 1000003=((a % 1000003:Nat):Int):=rfl
theorem G3(b:ByteArray)(n:Nat):∀ i,i<=b.size->hU b n i=(((bN b).take i).foldl xN (n % 1000003):Nat)
 | 0,_=>by rw[List.take_zero];rfl
 |i+1,h=>by
  have hl:(bN b).length=b.size:=by simp[bN]
  have hi:i<(bN b).length:=by omega
  have hd:i<b.data.size:=h
  have hc:kV b i=(bN b)[i]:=by
   have e1:(bN b)[i]=(b.data[i]).toNat:=by simp[bN]
   have e2:b.data.getD i 0=b.data[i]:=by
    unfold Array.getD
    rw[dif_pos hd]
    rfl
   rw[e1,<-e2]
   rfl
  rw[hU,G3 b n i (by omega),List.take_add_one,List.getElem?_eq_getElem hi,List.foldl_append,hc]
  have :(257*((((bN b).take i).foldl xN (n % 1000003):Nat):Int)+((bN b)[i]:Nat)+1)=((257*(((bN b).take i).foldl xN (n % 1000003))+(bN b)[i]+1:Nat):Int):=by simp
  rw[this,QT]
  rfl
theorem Re{s:Stk}{n:Int}(hs:eH s)(hn:bU n):c9 s n=(Bi s n:Nat):=by
 obtain⟨N,rfl⟩:∃ N:Nat,n=N:=⟨n.toNat,by have:=hn.1;omega⟩
 unfold c9 Bi
 have hl:(bN (cX s)).length=(cX s).size:=by simp[bN]
 rw[G3 _ _ _ (Nat.le_refl _),<-hl,List.take_length,GX hs,Int.toNat_natCast]
def qJ:Option O->Option (List V)
 |some (.arr _ l)=>some l
 |some (.farr _ l)=>some l
 |_=>none
def BK(obj:Name->Option O):D->Option V
 | .v x=>some x
 | .nilsl=>some (.sl [])
 | .msl nm k=>match qJ (obj nm)with
   |some l=>cond (Nat.beq k l.length) (some (.sl l)) none
   |none=>none
 |_=>none
def vv(obj:Name->Option O):List D->Option (List V)
 |[]=>some []
 |d::r=>match BK obj d with
  |some x=>match vv obj r with
   |some xs=>some (x::xs)
   |none=>none
  |none=>none
def A0(obj obj2:Name->Option O):Prop:=∀ nm,qJ (obj2 nm)=qJ (obj nm)
theorem Tr(n:Nat){obj obj2:Name->Option O}(h:A0 obj obj2){d:D}{x:V}(hx:BK obj d=some x):
 (ar (n+1) obj2 d).ok/\(ar (n+1) obj2 d).x=x/\A0 obj (ar (n+1) obj2 d).obj:=by
 cases d with
 |v y=>cases hx;exact⟨trivial,rfl,h⟩
 |nilsl=>cases hx;exact⟨trivial,rfl,h⟩
 |msl nm k=>
  have al:=h nm
  unfold BK at hx
  cases ho:obj2 nm with
  |none=>
   rw[ho]at al
   have h0:qJ (obj nm)=none:=al.symm
   simp only[h0]at hx
   cases hx
  |some o=>
   rw[ho]at al
   cases o with
   |arr sz l=>
    have h0:qJ (obj nm)=some l:=al.symm
    simp only[h0]at hx
    cases hb:Nat.beq k l.length with
    |false=>rw[hb]at hx;cases hx
    |true=>
     rw[hb]at hx
     cases hx
     have hk:=Nat.eq_of_beq_eq_true hb
     simp only[ar,ho]
     refine⟨hk,trivial,fun y=>?_⟩
     by_cases hy:y=nm
     ·subst hy
      rw[aC]
      exact h0.symm
     ·rw[aH _ _ _ hy]
      exact h y
   |farr sz l=>
    have h0:qJ (obj nm)=some l:=al.symm
    simp only[h0]at hx
    cases hb:Nat.beq k l.length with
    |false=>rw[hb]at hx;cases hx
    |true=>
     rw[hb]at hx
     cases hx
     simp only[ar,ho]
     exact⟨Nat.eq_of_beq_eq_true hb,trivial,h⟩
   |_=>
    have h0:qJ (obj nm)=none:=al.symm
    simp only[h0]at hx
    cases hx
 |_=>cases hx
theorem H4(n:Nat){obj:Name->Option O}:∀ {ds:List D} {xs:List V} {obj2:Name->Option O},A0 obj obj2->vv obj ds=some xs->
 (aJ (ar (n+1)) obj2 ds).ok/\(aJ (ar (n+1)) obj2 ds).xs=xs/\A0 obj (aJ (ar (n+1)) obj2 ds).obj
 |[],xs,obj2,h,hx=>by cases hx;exact⟨trivial,rfl,h⟩
 |d::r,xs,obj2,h,hx=>by
  unfold vv at hx
  split at hx
  ·rename_i x hd
   split at hx
   ·rename_i ys hr
    cases hx
    obtain⟨a1,a2,a3⟩:=Tr n h hd
    obtain⟨b1,b2,b3⟩:=H4 n a3 hr
    exact⟨⟨a1,b1⟩,by simp only[aJ,a2,b2],b3⟩
   ·cases hx
  ·cases hx
def BJ(obj:Name->Option O):D->Option (List V)
 | .agg l=>vv obj l
 | .v (.agg l)=>some l
 |_=>none
theorem H0{obj:Name->Option O}{d:D}{L:List V}(h:BJ obj d=some L):(ar 6 obj d).ok/\(ar 6 obj d).x=.agg L:=by
 cases d with
 |agg l=>
  obtain⟨a1,a2,_⟩:=H4 4 (fun _=>rfl) (show vv obj l=some L from h)
  exact⟨a1,by simp only[ar]at *;exact congrArg V.agg a2⟩
 |v y=>
  cases y with
  |agg l=>cases h;exact⟨trivial,rfl⟩
  |_=>cases h
 |_=>cases h
def n8(n:Int):Bool:=decide (0<=n)&&decide (n<=1000000)
theorem qX{n:Int}(h:n8 n=true):bU n:=by
 unfold n8 at h
 simp only[Bool.and_eq_true,decide_eq_true_eq]at h
 exact h
def vn{α:Type}(s:aR α)(f:α->Bool):Bool:=f s.a&&(f s.b&&(f s.c&&(f s.d&&(f s.e&&f s.f))))
theorem Bt{α:Type}{s:aR α}{f:α->Bool}(h:vn s f=true):∀ i,i<6->f (s.get i)=true:=by
 unfold vn at h
 simp only[Bool.and_eq_true]at h
 obtain⟨h0,h1,h2,h3,h4,h5⟩:=h
 intro i hi
 match i,hi with
 | 0,_=>exact h0
 | 1,_=>exact h1
 | 2,_=>exact h2
 | 3,_=>exact h3
 | 4,_=>exact h4
 | 5,_=>exact h5
def tC(s:Stk):Bool:=Nat.ble s.ho.length 40&&(s.ho.all n8&&(vn s.un (fun l=>Nat.ble l.length 40&&l.all fun p=>n8 p.no&&n8 p.pa)&&(vn s.se n8&&vn s.ta n8)))
theorem yo{s:Stk}(h:tC s=true):eH s:=by
 unfold tC at h
 simp only[Bool.and_eq_true]at h
 obtain⟨h1,h2,h3,h4,h5⟩:=h
 have uG:=Bt h3
 refine⟨Nat.le_of_ble_eq_true h1,fun n hn=>qX (List.all_eq_true.1 h2 n hn),fun i hi=>?_,fun i hi p hp=>?_,fun i hi=>qX (Bt h4 i hi),fun i hi=>qX (Bt h5 i hi)⟩
 ·have:=uG i hi
  simp only[Bool.and_eq_true]at this
  exact Nat.le_of_ble_eq_true this.1
 ·have:=uG i hi
  simp only[Bool.and_eq_true]at this
  have :=List.all_eq_true.1 this.2 p hp
  simp only[Bool.and_eq_true]at this
  exact⟨qX this.1,qX this.2⟩
noncomputable def Rf:SpecB where
 spec:=P60.toSpec
 run obj t ds:=match ds with
  |[d,.v (.int .i64 n)]=>match BJ obj d with
   |some L=>cond (tC (ft L)&&(n8 n&&fU 6 (.agg (aA (ft L))) (.agg L))) (some ⟨.v (.int .i64 (Bi (ft L) n:Nat)),dQ (fp 6 obj) ds,[],fun t=>t⟩) none
   |none=>none
  |_=>none
 ok:=by
  intro obj t ds r hr
  split at hr
  ·rename_i d n
   split at hr
   ·rename_i L hL
    cases hb:(tC (ft L)&&(n8 n&&fU 6 (.agg (aA (ft L))) (.agg L)))with
    |false=>rw[hb]at hr;cases hr
    |true=>
     rw[hb]at hr
     cases hr
     simp only[Bool.and_eq_true]at hb
     obtain⟨h1,h2,h3⟩:=hb
     replace h3:aA (ft L)=L:=V.agg.inj (qz 6 h3)
     obtain⟨a1,a2⟩:=H0 hL
     have vT:(aJ (ar 6) obj [d,.v (.int .i64 n)]).xs=[.agg L,.int .i64 n]:=by
      show [(ar 6 obj d).x,(ar 6 (ar 6 obj d).obj (.v (.int .i64 n))).x]=_
      rw[a2];rfl
     have aa:(aJ (ar 6) obj [d,.v (.int .i64 n)]).ok:=⟨a1,trivial,trivial⟩
     have cG:P60.pre [.agg L,.int .i64 n]:=⟨congrArg V.agg h3,rfl,yo h1,qX h2⟩
     have cV:P60.fn [.agg L,.int .i64 n]=vInt (c9 (ft L) n):=rfl
     refine⟨?_,?_,rfl,rfl,fun tbl h=>h⟩
     ·show _/\P60.pre _
      rw[vT]
      exact⟨aa,cG⟩
     ·show D.v (P60.fn _)=_
      rw[vT,cV,Re (yo h1) (qX h2)]
   ·cases hr
  ·cases hr
theorem Rh{b:ByteArray}{l:List Nat}(h:bN b=l):(⟨(l.map UInt8.ofNat).toArray⟩:ByteArray)=b:=by
 subst h
 apply ByteArray.ext
 unfold bN
 rw[List.map_map]
 have :(UInt8.ofNat∘UInt8.toNat)=id:=by funext x;simp
 rw[this,List.map_id]
noncomputable def QW:SpecB where
 spec:=P91.toSpec
 run obj t ds:=match ds with
  |[d]=>match BJ obj d with
   |some L=>cond (tC (ft L)&&fU 6 (.agg (aA (ft L))) (.agg L)) (some ⟨.v (.str ⟨((xF (ft L)).map UInt8.ofNat).toArray⟩),dQ (fp 6 obj) ds,[],fun t=>t⟩) none
   |none=>none
  |_=>none
 ok:=by
  intro obj t ds r hr
  split at hr
  ·rename_i d
   split at hr
   ·rename_i L hL
    cases hb:(tC (ft L)&&fU 6 (.agg (aA (ft L))) (.agg L))with
    |false=>rw[hb]at hr;cases hr
    |true=>
     rw[hb]at hr
     cases hr
     simp only[Bool.and_eq_true]at hb
     obtain⟨h1,h3⟩:=hb
     replace h3:aA (ft L)=L:=V.agg.inj (qz 6 h3)
     obtain⟨a1,a2⟩:=H0 hL
     have vT:(aJ (ar 6) obj [d]).xs=[.agg L]:=by
      show [(ar 6 obj d).x]=_
      rw[a2]
     have aa:(aJ (ar 6) obj [d]).ok:=⟨a1,trivial⟩
     have cG:P91.pre [.agg L]:=⟨congrArg V.agg h3,yo h1⟩
     have cV:P91.fn [.agg L]=.str (cX (ft L)):=rfl
     refine⟨?_,?_,rfl,rfl,fun tbl h=>h⟩
     ·show _/\P91.pre _
      rw[vT]
      exact⟨aa,cG⟩
     ·show D.v (P91.fn _)=_
      rw[vT,cV,Rh (GX (yo h1))]
   ·cases hr
  ·cases hr
noncomputable def aaE:SpecB where
 spec:=S54
 run obj t ds:=match ds with
  |[.msl nm k,.v (.int .i64 i),.v (.int .i64 j)]=>match obj nm with
   |some (.arr sz l)=>cond (Nat.beq k l.length&&(Nat.beq sz 1&&(decide (0<=i)&&(decide (j=i+1)&&Nat.blt i.toNat l.length)))) (some ⟨.v (.sl (l.eraseIdx i.toNat)),[nm],[nm],fun t=>dW t nm (.farr sz (l.eraseIdx i.toNat++[zI]))⟩) none
   |_=>none
  |_=>none
 ok:=by
  intro obj t ds r hr
  split at hr
  ·rename_i nm k i j
   split at hr
   ·rename_i sz l ho
    cases hb:(Nat.beq k l.length&&(Nat.beq sz 1&&(decide (0<=i)&&(decide (j=i+1)&&Nat.blt i.toNat l.length))))with
    |false=>rw[hb]at hr;cases hr
    |true=>
     rw[hb]at hr
     cases hr
     simp only[Bool.and_eq_true,decide_eq_true_eq]at hb
     obtain⟨h1,h2,h3,h4,h5⟩:=hb
     have oQ:i.toNat<l.length:=by simpa[Nat.blt_eq]using h5
     simp only[S54,xp,ho]
     refine⟨⟨Nat.eq_of_beq_eq_true h1,Nat.eq_of_beq_eq_true h2,h3,h4,oQ⟩,trivial,rfl,rfl,fun tbl h=>?_⟩
     rw[nl,h]
   ·cases hr
  ·cases hr
noncomputable def Jg(f:FuncId):Option SpecB:=
 match Nat.beq f 46 with
 |true=>some (N5 Tryd.prog 35)
 |false=>match Nat.beq f 36 with
  |true=>some (N5 Tryd.prog 34)
  |false=>match Nat.beq f 38 with
   |true=>some Rf
   |false=>match Nat.beq f 63 with
    |true=>some QW
    |false=>match Nat.beq f 44 with
     |true=>some aaE
     |false=>none
noncomputable def CJ(_:FuncId->Option SpecB)(f:FuncId):Option SpecB:=Jg f
theorem VO:∀ Γ:FuncId->Option SpecB,(∀ f s,aU Γ f=some s->ak Tryd.prog f s)->∀ f s,CJ Γ f=some s->ak Tryd.prog f s.spec:=by
 intro Γ _ f s h
 unfold CJ Jg at h
 split at h
 ·rename_i hb;have:=Nat.eq_of_beq_eq_true hb;subst this;cases h;exact xa FU
 ·split at h
  ·rename_i hb;have:=Nat.eq_of_beq_eq_true hb;subst this;cases h;exact xa FT
  ·split at h
   ·rename_i hb;have:=Nat.eq_of_beq_eq_true hb;subst this;cases h;exact yS
   ·split at h
    ·rename_i hb;have:=Nat.eq_of_beq_eq_true hb;subst this;cases h;exact HC.sound
    ·split at h
     ·rename_i hb;have:=Nat.eq_of_beq_eq_true hb;subst this;cases h;exact KJ
     ·cases h
noncomputable def Jp(F:List Nat)(T:List Ent):FuncId->Option SpecB:=ΓB Tryd.prog (F3 Tryd.prog CJ 100000 F T) 100000 24
theorem VL{F:List Nat}{T:List Ent}(hT:∀ e∈T,aQ Tryd.prog e):∀ f s,aU (Jp F T) f=some s->ak Tryd.prog f s:=
 Gy (abH (fun Γ h f s=>VO Γ h f s) hT) 24
theorem cT{F:List Nat}{T:List Ent}(hT:∀ e∈T,aQ Tryd.prog e){e:Ent}(h:BD Tryd.prog (Jp F T) 100000 e=true):aQ Tryd.prog e:=Tj (VL hT) h
theorem cR{P:Program}{e:Ent}{T:List Ent}(h:aQ P e)(hT:∀ e∈T,aQ P e):∀ x∈e::T,aQ P x:=by
 intro x hx
 rcases List.mem_cons.1 hx with rfl | hx
 ·exact h
 ·exact hT x hx
def JZ:List Ent:=[]
theorem Kz:∀ e∈JZ,aQ Tryd.prog e:=fun e h=>by cases h
end Go.Eng
