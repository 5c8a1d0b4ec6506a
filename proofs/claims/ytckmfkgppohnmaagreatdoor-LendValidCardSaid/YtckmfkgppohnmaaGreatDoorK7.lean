import Derived.Test.YtckmfkgppohnmaaGreatDoorK6
/- Texts NW19 to NW45. -/
set_option linter.all false
namespace Go.Eng
open Go Go.Proofs
def eb(d:Dk)(i:Nat)(o:Int):Bool:=(((i:Int) != d.wet)&&aJ d.me (d.pg i))&&(decide (o<0)||decide ((d.pg i).co>(d.pg o.toNat).co))
def bD(d:Dk):Nat->Int
 | 0=> -1
 |i+1=>if eb d i (bD d i)=true then i else bD d i
def bc(d:Dk):Int:=bD d 2
theorem z1(d:Dk):∀ i,-1<=bD d i/\bD d i<i
 | 0=>⟨by show (-1:Int)<= -1;omega,by show (-1:Int)<0;omega⟩
 |i+1=>by
  have h:=z1 d i
  unfold bD
  split
  ·exact⟨by omega,by omega⟩
  ·exact⟨h.1,by omega⟩
theorem Z5(d:Dk):((ak d).drop 20).take 42=cB d.pa++cB d.pb:=rfl
theorem SU(d:Dk){i:Nat}(h:i<2):((cB d.pa++cB d.pb).drop (i*21)).take 21=cB (d.pg i):=by
 match i,h with
 | 0,_=>rfl
 | 1,_=>rfl
theorem SS(d:Dk){i:Nat}(h:i<2):i*21+21<=(cB d.pa++cB d.pb).length:=by
 show i*21+21<=42
 omega
theorem jc(d:Dk){i:Nat}(h:i<2):((ak d).drop (20+i*21)).take 21=cB (d.pg i):=by
 match i,h with
 | 0,_=>rfl
 | 1,_=>rfl
theorem sh{d:Dk}{i:Nat}(h:eb d i (bD d i)=true):bD d (i+1)=i:=if_pos h
theorem uB{d:Dk}{i:Nat}(h:eb d i (bD d i)=false):bD d (i+1)=bD d i:=if_neg (by rw[h];decide)
noncomputable def Pf:List (Nat×Spec):=[(90,S90)]
theorem acr:∀ f s,tbl Pf f=some s->al Tryz.prog f s:=tc CD<|tn
attribute [go_sem] Pf
noncomputable def P58:PSpec:=p1 bu (fun _=>True) (fun d=>vInt (bc d)) true
noncomputable def S58:Spec:=P58.toSpec
attribute [go_sem] P58 S58
set_option maxHeartbeats 4000000 in
theorem RJ:aQ Tryz.prog 58 P58:=by
 refine w1 (rs:=[.tmp 2]) Tryz.func58 Tryz.ntmps58 (by rfl) (by kernel_rfl) (by decide) (fun _ _=>rfl) ⟨_,rfl,lb rfl,fun d hp hw=>?_⟩
 have hP:=ba
 simp only[bu]at hw |-
 have hΓ:=acr
 repeat refine sq ?_
 refine rs hΓ [1] [[1,0]] ?_
 refine aE (bz [1,0] (ak d) rfl [1] [[1,0]] ?_ rfl) ?_
 ·simp only[go_sem]
 simp only[go_sem]
 repeat refine sq ?_
 refine rs hΓ [1,3] [[1,0]] ?_
 repeat refine sq ?_
 refine rx hΓ [1,3,7,8] [[1,0]] (fun K' hK=>by simp only[go_sem,Z5];(repeat (refine⟨ob,?_⟩));exact hK _ (by simp only[go_sem]) (by simp only[go_sem]<;>rfl)) ?_
 repeat refine sq ?_
 refine aO ?_
 repeat refine sq ?_
 refine cv (fun z:Nat=>[(8,⟨true,.v (vInt z)⟩),(3,⟨true,.v (vInt (bD d z))⟩)]) (fun z=>[]) (fun z=>z<=2) (fun z=>2-z) 0 ?_ ?_ ?_ ?_
 ·exact Nat.zero_le _
 ·rfl
 ·rfl
 rintro i hi
 simp only[go_sem]
 repeat refine sq ?_
 refine rs hΓ [1,3,7,8,9] [[1,0]] ?_
 repeat refine sq ?_
 refine au rfl rfl (fun hb=>?_) (fun hb=>?_)
 ·have ae:i<2:=by have hq:(i:Int)<2:=(by simpa using hb);omega
  have ai:(i:Int)<2:=by omega
  clear hb
  have bV:=SS d ae
  repeat refine sq ?_
  refine av ?_
  repeat refine sq ?_
  refine aO ?_
  repeat refine sq ?_
  refine rx hΓ [1,3,4,5,7,8] [[1,0],[5,0]] (fun K' hK=>by simp only[go_sem,Int.toNat_natCast,Int.natCast_nonneg,ai,SU d ae,bV,Int.toNat_natCast,Int.natCast_nonneg,ai,List.append_nil];(repeat (refine⟨ob,?_⟩));exact hK _ (by simp only[go_sem]) (by simp only[go_sem]<;>rfl)) ?_
  refine aE (bz [5,0] (cB (d.pg i)) rfl [1,3,4,5,7,8] [[1,0],[5,0]] ?_ rfl) ?_
  ·simp only[go_sem]
  simp only[go_sem]
  rcases ho:decide (bD d i<0)with _ | _
  ·have hr:=z1 d i
   have gy:0<=bD d i:=by have:=of_decide_eq_false ho;omega
   have eP:bD d i<2:=by omega
   have ox:(bD d i).toNat<2:=by omega
   have gD:eb d i (bD d i)=((((i:Int) != d.wet)&&aJ d.me (d.pg i))&&decide ((d.pg i).co>(d.pg (bD d i).toNat).co)):=by unfold eb;rw[ho,Bool.false_or]
   repeat refine sq ?_
   refine dx hΓ hP [[],[],[1],[0,1,2],[0,1,2,3],[0,1,2,3,4],[0,1,2,3,4,5],[0,1,2,3,4],[0,1,2,3,4,5,6,7],[0,1,2,3,4,5,6,7,8],[0,1,2,3,4,5,6,7,8,9],[0,1,2,3,4,5,6,7,8,9,10],[0,1,2,3,4,5,6,7,8,9,10,11],[0,1,2,3,4,5,6,7,8,9,10,11,12],[0,1,2,3,4,5,6,7,8,9,10,11,12,13],[0,1,2,3,4,5,6,7,8,9,10,11,12,13,14],[0,1,2,3,4,5,6,7,8,9,10,11,12,13],[0,1,2,3,4,5,6,7,8,9,10,11,12,13],[0,1,2,3,4,5,6,7,8,9,10,11,12,13,16,17],[0,1,2,3,4,5,6,7,8,9,10,11,12,13,16,17,18],[0,1,2,3,4,5,6,7,8,9,10,11,12,13,16,17,18,19],[0,1,2,3,4,5,6,7,8,9,10,11,12,13,14,15,16,17,18,19,20],[0,1,2,3,4,5,6,7,8,9,10,11,12,13,14,15,16,17,18,19,20,21],[0,1,2,3,4,5,6,7,8,9,10,11,12,13,14,15,16,17,18,19,20,21,22]] [1,3,4,7,8,35] [[1,0]] (by kernel_rfl) (fun K' hK=>by simp only[go_sem,Int.toNat_natCast,Int.natCast_nonneg,ai,ho,gy,eP,ek d ox,Nat.add_zero];(repeat (refine⟨ob,?_⟩));(first | refine⟨by rfl,?_⟩ | skip);exact hK _ (by simp only[go_sem]) (by simp only[go_sem]<;>rfl)) ?_
   repeat refine sq ?_
   refine au rfl rfl (fun hb=>?_) (fun hb=>?_)
   ·repeat refine sq ?_
    have e:=sh (gD.trans (by simpa[Bool.and_assoc]using hb))
    repeat refine sq ?_
    refine aL hΓ fun K' hK=>?_
    simp only[go_sem,Int.toNat_natCast,Int.natCast_nonneg,ai,ho,gy,eP,ek d ox,Nat.add_zero]
    repeat (refine⟨ob,?_⟩)
    refine hK _ ?_
    clear K' hK
    simp only[go_sem]
    refine kp [1,3,7,8] [[1,0]] ?_
    repeat refine sq ?_
    refine aL hΓ fun K' hK=>?_
    simp only[go_sem,Int.toNat_natCast,Int.natCast_nonneg,ai,ho,gy,eP,ek d ox,Nat.add_zero]
    repeat (refine⟨ob,?_⟩)
    refine hK _ ?_
    clear K' hK
    simp only[go_sem]
    refine⟨i+1,ae,by(show 2-(i+1)<2-i;omega),?_⟩
    refine bk [1,3,7,8] [[1,0]] ?_ ?_
    ·simp only[go_sem,aD ae (lb rfl:(2:Nat)<=maxLen),Int.natCast_add,Int.natCast_one,e]
    ·simp only[go_sem,aD ae (lb rfl:(2:Nat)<=maxLen),Int.natCast_add,Int.natCast_one,e]
   ·repeat refine sq ?_
    have e:=uB (gD.trans (by simpa[Bool.and_assoc]using hb))
    refine av ?_
    refine ct ?_
    simp only[go_sem]
    refine kp [1,3,7,8] [[1,0]] ?_
    repeat refine sq ?_
    refine aL hΓ fun K' hK=>?_
    simp only[go_sem,Int.toNat_natCast,Int.natCast_nonneg,ai,ho,gy,eP,ek d ox,Nat.add_zero]
    repeat (refine⟨ob,?_⟩)
    refine hK _ ?_
    clear K' hK
    simp only[go_sem]
    refine⟨i+1,ae,by(show 2-(i+1)<2-i;omega),?_⟩
    refine bk [1,3,7,8] [[1,0]] ?_ ?_
    ·simp only[go_sem,aD ae (lb rfl:(2:Nat)<=maxLen),Int.natCast_add,Int.natCast_one,e]
    ·simp only[go_sem,aD ae (lb rfl:(2:Nat)<=maxLen),Int.natCast_add,Int.natCast_one,e]
  ·have gD:eb d i (bD d i)=(((i:Int) != d.wet)&&aJ d.me (d.pg i)):=by unfold eb;rw[ho,Bool.true_or,Bool.and_true]
   repeat refine sq ?_
   refine dx hΓ hP [[],[],[1],[0,1,2],[0,1,2,3],[0,1,2,3,4],[0,1,2,3,4,5],[0,1,2,3,4],[0,1,2,3,4,5,6,7],[0,1,2,3,4,5,6,7,8],[0,1,2,3,4,5,6,7,8,9],[0,1,2,3,4,5,6,7,8,9,10],[0,1,2,3,4,5,6,7,8,9,10,11],[0,1,2,3,4,5,6,7,8,9,10,11,12],[0,1,2,3,4,5,6,7,8,9,10,11,12,13],[0,1,2,3,4,5,6,7,8,9,10,11,12,13,14],[0,1,2,3,4,5,6,7,8,9,10,11,12,13],[0,1,2,3,4,5,6,7,8,9,10,11,12,13],[0,1,2,3,4,5,6,7,8,9,10,11,12,13,16,17],[0,1,2,3,4,5,6,7,8,9,10,11,12,13,16,17,18],[0,1,2,3,4,5,6,7,8,9,10,11,12,13,16,17,18,19],[0,1,2,3,4,5,6,7,8,9,10,11,12,13,14,15,16,17,18,19,20],[0,1,2,3,4,5,6,7,8,9,10,11,12,13,14,15,16,17,18,19,20,21],[0,1,2,3,4,5,6,7,8,9,10,11,12,13,14,15,16,17,18,19,20,21,22]] [1,3,4,7,8,35] [[1,0]] (by kernel_rfl) (fun K' hK=>by simp only[go_sem,Int.toNat_natCast,Int.natCast_nonneg,ai,ho];(repeat (refine⟨ob,?_⟩));(first | refine⟨by rfl,?_⟩ | skip);exact hK _ (by simp only[go_sem]) (by simp only[go_sem]<;>rfl)) ?_
   repeat refine sq ?_
   refine au rfl rfl (fun hb=>?_) (fun hb=>?_)
   ·repeat refine sq ?_
    have e:=sh (gD.trans (by simpa using hb))
    repeat refine sq ?_
    refine aL hΓ fun K' hK=>?_
    simp only[go_sem,Int.toNat_natCast,Int.natCast_nonneg,ai,ho]
    repeat (refine⟨ob,?_⟩)
    refine hK _ ?_
    clear K' hK
    simp only[go_sem]
    refine kp [1,3,7,8] [[1,0]] ?_
    repeat refine sq ?_
    refine aL hΓ fun K' hK=>?_
    simp only[go_sem,Int.toNat_natCast,Int.natCast_nonneg,ai,ho]
    repeat (refine⟨ob,?_⟩)
    refine hK _ ?_
    clear K' hK
    simp only[go_sem]
    refine⟨i+1,ae,by(show 2-(i+1)<2-i;omega),?_⟩
    refine bk [1,3,7,8] [[1,0]] ?_ ?_
    ·simp only[go_sem,aD ae (lb rfl:(2:Nat)<=maxLen),Int.natCast_add,Int.natCast_one,e]
    ·simp only[go_sem,aD ae (lb rfl:(2:Nat)<=maxLen),Int.natCast_add,Int.natCast_one,e]
   ·repeat refine sq ?_
    have e:=uB (gD.trans (by simpa using hb))
    refine av ?_
    refine ct ?_
    simp only[go_sem]
    refine kp [1,3,7,8] [[1,0]] ?_
    repeat refine sq ?_
    refine aL hΓ fun K' hK=>?_
    simp only[go_sem,Int.toNat_natCast,Int.natCast_nonneg,ai,ho]
    repeat (refine⟨ob,?_⟩)
    refine hK _ ?_
    clear K' hK
    simp only[go_sem]
    refine⟨i+1,ae,by(show 2-(i+1)<2-i;omega),?_⟩
    refine bk [1,3,7,8] [[1,0]] ?_ ?_
    ·simp only[go_sem,aD ae (lb rfl:(2:Nat)<=maxLen),Int.natCast_add,Int.natCast_one,e]
    ·simp only[go_sem,aD ae (lb rfl:(2:Nat)<=maxLen),Int.natCast_add,Int.natCast_one,e]
 ·have aW:i=2:=by
   have :¬ (i:Int)<2:=by simpa using hb
   omega
  clear hb
  subst aW
  repeat refine sq ?_
  refine b7 ?_
  simp only[go_sem]
  refine kp [3] [] ?_
  repeat refine sq ?_
  refine rs hΓ [2] [] ?_
  refine an ?_
  simp only[go_sem]
  first | rfl
theorem CN:al Tryz.prog 58 S58:=RJ.sound
noncomputable def Pe:List (Nat×Spec):=[(45,S45)]
theorem acq:∀ f s,tbl Pe f=some s->al Tryz.prog f s:=tc Km<|tn
attribute [go_sem] Pe
noncomputable def P61:PSpec:=p1 bu (fun _=>True) (fun d=>vInt (bc d)) true
noncomputable def S61:Spec:=P61.toSpec
attribute [go_sem] P61 S61
set_option maxHeartbeats 4000000 in
theorem RG:aQ Tryz.prog 61 P61:=by
 refine w1 (rs:=[.tmp 2]) Tryz.func61 Tryz.ntmps61 (by rfl) (by kernel_rfl) (by decide) (fun _ _=>rfl) ⟨_,rfl,lb rfl,fun d hp hw=>?_⟩
 have hP:=ba
 simp only[bu]at hw |-
 have hΓ:=acq
 repeat refine sq ?_
 refine rs hΓ [1] [[1,0]] ?_
 refine aE (bz [1,0] (ak d) rfl [1] [[1,0]] ?_ rfl) ?_
 ·simp only[go_sem]
 simp only[go_sem]
 repeat refine sq ?_
 refine rs hΓ [1,3] [[1,0]] ?_
 repeat refine sq ?_
 refine rs hΓ [1,3,4] [[1,0]] ?_
 repeat refine sq ?_
 refine aO ?_
 repeat refine sq ?_
 refine cv (fun z:Nat=>[(4,⟨true,.v (vInt z)⟩),(3,⟨true,.v (vInt (bD d z))⟩)]) (fun z=>[]) (fun z=>z<=2) (fun z=>2-z) 0 ?_ ?_ ?_ ?_
 ·exact Nat.zero_le _
 ·rfl
 ·rfl
 rintro i hi
 simp only[go_sem]
 repeat refine sq ?_
 refine rs hΓ [1,3,4,6] [[1,0]] ?_
 repeat refine sq ?_
 refine au rfl rfl (fun hb=>?_) (fun hb=>?_)
 ·have ae:i<2:=by have hq:(i:Int)<2:=(by simpa using hb);omega
  have ai:(i:Int)<2:=by omega
  clear hb
  repeat refine sq ?_
  refine av ?_
  repeat refine sq ?_
  refine aO ?_
  repeat refine sq ?_
  rcases ho:decide (bD d i<0)with _ | _
  ·have hr:=z1 d i
   have gy:0<=bD d i:=by have:=of_decide_eq_false ho;omega
   have eP:bD d i<2:=by omega
   have ox:(bD d i).toNat<2:=by omega
   have zj:¬ bD d i<0:=by omega
   have gD:eb d i (bD d i)=((((i:Int) != d.wet)&&aJ d.me (d.pg i))&&decide ((d.pg i).co>(d.pg (bD d i).toNat).co)):=by unfold eb;rw[ho,Bool.false_or]
   repeat refine sq ?_
   refine dx hΓ hP [[],[],[1],[0,1,2],[0,1,2,3],[0,1,2,3,4],[0,1,2,3,4,5],[0,1,2,3,4],[0,1,2,3,4],[0,1,2,3,4,7,8],[0,1,2,3,4,7,8,9],[0,1,2,3,4,5,6,7,8,9,10],[0,1,2,3,4,5,6,7,8,9,10,11],[0,1,2,3,4,5,6,7,8,9,10,11,12],[0,1,2,3,4,5,6,7,8,9,10,11,12,13],[0,1,2,3,4,5,6,7,8,9,10,11,12,13,14],[0,1,2,3,4,5,6,7,8,9,10,11,12,13,14,15],[0,1,2,3,4,5,6,7,8,9,10,11,12,13,14,15,16],[0,1,2,3,4,5,6,7,8,9,10,11,12,13,14,15,16,17],[0,1,2,3,4,5,6,7,8,9,10,11,12,13,14,15,16,17],[0,1,2,3,4,5,6,7,8,9,10,11,12,13,14,15,16,17,18,19],[0,1,2,3,4,5,6,7,8,9,10,11,12,13,14,15,16,17,18,19,20],[0,1,2,3,4,5,6,7,8,9,10,11,12,13,14,15,16,17,18,19,20,21],[0,1,2,3,4,5,6,7,8,9,10,11,12,13,14,15,16,17],[0,1,2,3,4,5,6,7,8,9,10,11,12,13,14,15,16,17,23],[0,1,2,3,4,5,6,7,8,9,10,11,12,13,14,15,16,17],[0,1,2,3,4,5,6,7,8,9,10,11,12,13,14,15,16,17,23,24,25],[0,1,2,3,4,5,6,7,8,9,10,11,12,13,14,15,16,17,23,24,25,26],[0,1,2,3,4,5,6,7,8,9,10,11,12,13,14,15,16,17,23,24,25,26,27],[0,1,2,3,4,5,6,7,8,9,10,11,12,13,14,15,16,17,18,19,20,21,22,23,24,25,26,27,28],[0,1,2,3,4,5,6,7,8,9,10,11,12,13,14,15,16,17,18,19,20,21,22,23,24,25,26,27,28,29],[0,1,2,3,4,5,6,7,8,9,10,11,12,13,14,15,16,17,18,19,20,21,22,23,24,25,26,27,28,29,30]] [1,3,4,40] [[1,0]] (by kernel_rfl) (fun K' hK=>by simp only[go_sem,Int.toNat_natCast,Int.natCast_nonneg,ai,ho,gy,eP,zj,ek d ox,Nat.add_zero,ek d ae,jc d ae,gR,Int.toNat_natCast,Int.natCast_nonneg,ai];(repeat (refine⟨ob,?_⟩));(first | refine⟨by rfl,?_⟩ | skip);exact hK _ (by simp only[go_sem]) (by simp only[go_sem]<;>rfl)) ?_
   repeat refine sq ?_
   refine au rfl rfl (fun hb=>?_) (fun hb=>?_)
   ·repeat refine sq ?_
    have e:=sh (gD.trans (by simpa[Bool.and_assoc]using hb))
    repeat refine sq ?_
    refine aL hΓ fun K' hK=>?_
    simp only[go_sem,Int.toNat_natCast,Int.natCast_nonneg,ai,ho,gy,eP,zj,ek d ox,Nat.add_zero,ek d ae,jc d ae,gR,Int.toNat_natCast,Int.natCast_nonneg,ai]
    repeat (refine⟨ob,?_⟩)
    refine hK _ ?_
    clear K' hK
    simp only[go_sem]
    refine kp [1,3,4] [[1,0]] ?_
    repeat refine sq ?_
    refine aL hΓ fun K' hK=>?_
    simp only[go_sem,Int.toNat_natCast,Int.natCast_nonneg,ai,ho,gy,eP,zj,ek d ox,Nat.add_zero,ek d ae,jc d ae,gR,Int.toNat_natCast,Int.natCast_nonneg,ai]
    repeat (refine⟨ob,?_⟩)
    refine hK _ ?_
    clear K' hK
    simp only[go_sem]
    refine⟨i+1,ae,by(show 2-(i+1)<2-i;omega),?_⟩
    refine bk [1,3,4] [[1,0]] ?_ ?_
    ·simp only[go_sem,aD ae (lb rfl:(2:Nat)<=maxLen),Int.natCast_add,Int.natCast_one,e]
    ·simp only[go_sem,aD ae (lb rfl:(2:Nat)<=maxLen),Int.natCast_add,Int.natCast_one,e]
   ·repeat refine sq ?_
    have e:=uB (gD.trans (by simpa[Bool.and_assoc]using hb))
    refine av ?_
    refine ct ?_
    simp only[go_sem]
    refine kp [1,3,4] [[1,0]] ?_
    repeat refine sq ?_
    refine aL hΓ fun K' hK=>?_
    simp only[go_sem,Int.toNat_natCast,Int.natCast_nonneg,ai,ho,gy,eP,zj,ek d ox,Nat.add_zero,ek d ae,jc d ae,gR,Int.toNat_natCast,Int.natCast_nonneg,ai]
    repeat (refine⟨ob,?_⟩)
    refine hK _ ?_
    clear K' hK
    simp only[go_sem]
    refine⟨i+1,ae,by(show 2-(i+1)<2-i;omega),?_⟩
    refine bk [1,3,4] [[1,0]] ?_ ?_
    ·simp only[go_sem,aD ae (lb rfl:(2:Nat)<=maxLen),Int.natCast_add,Int.natCast_one,e]
    ·simp only[go_sem,aD ae (lb rfl:(2:Nat)<=maxLen),Int.natCast_add,Int.natCast_one,e]
  ·have gD:eb d i (bD d i)=(((i:Int) != d.wet)&&aJ d.me (d.pg i)):=by unfold eb;rw[ho,Bool.true_or,Bool.and_true]
   repeat refine sq ?_
   refine dx hΓ hP [[],[],[1],[0,1,2],[0,1,2,3],[0,1,2,3,4],[0,1,2,3,4,5],[0,1,2,3,4],[0,1,2,3,4],[0,1,2,3,4,7,8],[0,1,2,3,4,7,8,9],[0,1,2,3,4,5,6,7,8,9,10],[0,1,2,3,4,5,6,7,8,9,10,11],[0,1,2,3,4,5,6,7,8,9,10,11,12],[0,1,2,3,4,5,6,7,8,9,10,11,12,13],[0,1,2,3,4,5,6,7,8,9,10,11,12,13,14],[0,1,2,3,4,5,6,7,8,9,10,11,12,13,14,15],[0,1,2,3,4,5,6,7,8,9,10,11,12,13,14,15,16],[0,1,2,3,4,5,6,7,8,9,10,11,12,13,14,15,16,17],[0,1,2,3,4,5,6,7,8,9,10,11,12,13,14,15,16,17],[0,1,2,3,4,5,6,7,8,9,10,11,12,13,14,15,16,17,18,19],[0,1,2,3,4,5,6,7,8,9,10,11,12,13,14,15,16,17,18,19,20],[0,1,2,3,4,5,6,7,8,9,10,11,12,13,14,15,16,17,18,19,20,21],[0,1,2,3,4,5,6,7,8,9,10,11,12,13,14,15,16,17],[0,1,2,3,4,5,6,7,8,9,10,11,12,13,14,15,16,17,23],[0,1,2,3,4,5,6,7,8,9,10,11,12,13,14,15,16,17],[0,1,2,3,4,5,6,7,8,9,10,11,12,13,14,15,16,17,23,24,25],[0,1,2,3,4,5,6,7,8,9,10,11,12,13,14,15,16,17,23,24,25,26],[0,1,2,3,4,5,6,7,8,9,10,11,12,13,14,15,16,17,23,24,25,26,27],[0,1,2,3,4,5,6,7,8,9,10,11,12,13,14,15,16,17,18,19,20,21,22,23,24,25,26,27,28],[0,1,2,3,4,5,6,7,8,9,10,11,12,13,14,15,16,17,18,19,20,21,22,23,24,25,26,27,28,29],[0,1,2,3,4,5,6,7,8,9,10,11,12,13,14,15,16,17,18,19,20,21,22,23,24,25,26,27,28,29,30]] [1,3,4,40] [[1,0]] (by kernel_rfl) (fun K' hK=>by simp only[go_sem,Int.toNat_natCast,Int.natCast_nonneg,ai,ho,jc d ae,gR,Int.toNat_natCast,Int.natCast_nonneg,ai];(repeat (refine⟨ob,?_⟩));(first | refine⟨by rfl,?_⟩ | skip);exact hK _ (by simp only[go_sem]) (by simp only[go_sem]<;>rfl)) ?_
   repeat refine sq ?_
   refine au rfl rfl (fun hb=>?_) (fun hb=>?_)
   ·repeat refine sq ?_
    have e:=sh (gD.trans (by simpa using hb))
    repeat refine sq ?_
    refine aL hΓ fun K' hK=>?_
    simp only[go_sem,Int.toNat_natCast,Int.natCast_nonneg,ai,ho,jc d ae,gR,Int.toNat_natCast,Int.natCast_nonneg,ai]
    repeat (refine⟨ob,?_⟩)
    refine hK _ ?_
    clear K' hK
    simp only[go_sem]
    refine kp [1,3,4] [[1,0]] ?_
    repeat refine sq ?_
    refine aL hΓ fun K' hK=>?_
    simp only[go_sem,Int.toNat_natCast,Int.natCast_nonneg,ai,ho,jc d ae,gR,Int.toNat_natCast,Int.natCast_nonneg,ai]
    repeat (refine⟨ob,?_⟩)
    refine hK _ ?_
    clear K' hK
    simp only[go_sem]
    refine⟨i+1,ae,by(show 2-(i+1)<2-i;omega),?_⟩
    refine bk [1,3,4] [[1,0]] ?_ ?_
    ·simp only[go_sem,aD ae (lb rfl:(2:Nat)<=maxLen),Int.natCast_add,Int.natCast_one,e]
    ·simp only[go_sem,aD ae (lb rfl:(2:Nat)<=maxLen),Int.natCast_add,Int.natCast_one,e]
   ·repeat refine sq ?_
    have e:=uB (gD.trans (by simpa using hb))
    refine av ?_
    refine ct ?_
    simp only[go_sem]
    refine kp [1,3,4] [[1,0]] ?_
    repeat refine sq ?_
    refine aL hΓ fun K' hK=>?_
    simp only[go_sem,Int.toNat_natCast,Int.natCast_nonneg,ai,ho,jc d ae,gR,Int.toNat_natCast,Int.natCast_nonneg,ai]
    repeat (refine⟨ob,?_⟩)
    refine hK _ ?_
    clear K' hK
    simp only[go_sem]
    refine⟨i+1,ae,by(show 2-(i+1)<2-i;omega),?_⟩
    refine bk [1,3,4] [[1,0]] ?_ ?_
    ·simp only[go_sem,aD ae (lb rfl:(2:Nat)<=maxLen),Int.natCast_add,Int.natCast_one,e]
    ·simp only[go_sem,aD ae (lb rfl:(2:Nat)<=maxLen),Int.natCast_add,Int.natCast_one,e]
 ·have aW:i=2:=by
   have :¬ (i:Int)<2:=by simpa using hb
   omega
  clear hb
  subst aW
  repeat refine sq ?_
  refine b7 ?_
  simp only[go_sem]
  refine kp [3] [] ?_
  repeat refine sq ?_
  refine rs hΓ [2] [] ?_
  refine an ?_
  simp only[go_sem]
  first | rfl
theorem CK:al Tryz.prog 61 S61:=RG.sound
structure b8 (d:Dk):Prop where
 now:gM d.now
 pg:∀ i,i<2->gM (d.pg i).st
def mv(d:Dk)(z:Nat):Dk:=⟨d.me,d.now,if 0<z then d.pa else zP,if 1<z then d.pb else zP,d.wet⟩
theorem MX(d:Dk):mv d 2=d:=rfl
theorem MW(d:Dk){i:Nat}(h:i<2):List.take (20+i*21) (List.map D.v (ak (mv d i)))++List.map D.v (cB ⟨(d.pg i).co,(d.pg i).st,(d.pg i).su⟩)++List.drop (20+i*21+21) (List.map D.v (ak (mv d i)))=List.map D.v (ak (mv d (i+1))):=by
 match i,h with
 | 0,_=>rfl
 | 1,_=>rfl
noncomputable def O8:List (Nat×Spec):=[(62,S62)]
theorem ach:∀ f s,tbl O8 f=some s->al Tryz.prog f s:=tc tM<|tn
attribute [go_sem] O8
noncomputable def P57:PSpec:=p1 bu (fun d=>b8 d) (fun d=>eK d) false
noncomputable def S57:Spec:=P57.toSpec
attribute [go_sem] P57 S57
set_option maxHeartbeats 4000000 in
theorem RK:aQ Tryz.prog 57 P57:=by
 refine w1 (rs:=[.cell 2 32]) Tryz.func57 Tryz.ntmps57 (by rfl) (by kernel_rfl) (by decide) (fun h=>by cases h) ⟨_,rfl,lb rfl,fun d hp hw=>?_⟩
 have hP:=ba
 simp only[bu]at hw |-
 have hΓ:=ach
 have hs:b8 d:=hp
 have jB:=hs.now
 repeat refine sq ?_
 refine rx hΓ [1,2] [[1,0],[2,0]] (fun K' hK=>by simp only[go_sem];(repeat (refine⟨ah,?_⟩));exact hK _ (by simp only[go_sem]) (by simp only[go_sem]<;>rfl)) ?_
 refine aE (ft [2,0] _ (ak zD) rfl rfl [1,2] [[1,0],[2,0]] ?_ rfl) ?_
 ·simp only[go_sem]
 simp only[go_sem]
 refine aE (bz [1,0] (ak d) rfl [1,2] [[1,0],[2,0]] ?_ rfl) ?_
 ·simp only[go_sem]
 simp only[go_sem]
 repeat refine sq ?_
 refine dx hΓ hP [[],[0],[],[2],[2,3],[],[5],[0,1,2,3,4,5,6],[],[0,1,2,3,4,5,6,7,8]] [1,2,3] [[1,0],[2,0],[3,0]] (by kernel_rfl) (fun K' hK=>by simp only[go_sem,jB,List.append_nil,List.length_append,List.length_cons,List.length_nil,Nat.reduceAdd,Nat.reduceLeDiff,NR,NQ];(repeat (refine⟨ah,?_⟩));(first | refine⟨by rfl,?_⟩ | skip);exact hK _ (by simp only[go_sem]) (by simp only[go_sem]<;>rfl)) ?_
 refine aE (ft [3,0] _ (ak (mv d 0)) rfl rfl [1,2,3] [[1,0],[2,0],[3,0]] ?_ rfl) ?_
 ·simp only[go_sem]
 simp only[go_sem]
 repeat refine sq ?_
 refine rx hΓ [1,2,3,4] [[1,0],[2,0],[3,0]] (fun K' hK=>by simp only[go_sem];(repeat (refine⟨ah,?_⟩));exact hK _ (by simp only[go_sem]) (by simp only[go_sem]<;>rfl)) ?_
 repeat refine sq ?_
 refine aO ?_
 repeat refine sq ?_
 refine cv (fun z:Nat=>[(4,⟨true,.v (vInt z)⟩)]) (fun z=>[([3,0],.box ((ak (mv d z)).map .v))]) (fun z=>z<=2) (fun z=>2-z) 0 ?_ ?_ ?_ ?_
 ·exact Nat.zero_le _
 ·rfl
 ·rfl
 rintro i hi
 simp only[go_sem]
 repeat refine sq ?_
 refine rx hΓ [1,2,3,4,14] [[1,0],[2,0],[3,0]] (fun K' hK=>by simp only[go_sem];(repeat (refine⟨ah,?_⟩));exact hK _ (by simp only[go_sem]) (by simp only[go_sem]<;>rfl)) ?_
 repeat refine sq ?_
 refine au rfl rfl (fun hb=>?_) (fun hb=>?_)
 ·have ae:i<2:=by have hq:(i:Int)<2:=(by simpa using hb);omega
  have ai:(i:Int)<2:=by omega
  clear hb
  have jA:=hs.pg i ae
  repeat refine sq ?_
  refine av ?_
  repeat refine sq ?_
  refine aO ?_
  repeat refine sq ?_
  refine km hΓ hP [[],[],[],[1,2],[1,2,3],[1,2,3,4],[],[],[6,7],[6,7,8],[6,7,8,9],[6,7,8,9,10],[],[],[12,13],[12,13,14],[12,13,14,15],[1,2,3,4,5,6,7,8,9,10,11,12,13,14,15,16],[],[0,1,2,3,4,5,6,7,8,9,10,11,12,13,14,15,16,17,18],[0,1,2,3,4,5,6,7,8,9,10,11,12,13,14,15,16,17,18,19]] (by kernel_rfl) fun K' hK=>?_
  simp only[go_sem,Int.toNat_natCast,Int.natCast_nonneg,ai,Nat.add_zero,jA,ek d ae,wP d ae,ss d ae,Int.toNat_natCast,Int.natCast_nonneg,ai,List.append_nil]
  repeat (refine⟨ah,?_⟩)
  first | refine⟨by rfl,?_⟩ | skip
  refine hK _ ?_
  clear K' hK
  simp only[go_sem]
  refine kp [1,2,3,4] [[1,0],[2,0],[3,0]] ?_
  repeat refine sq ?_
  refine aL hΓ fun K' hK=>?_
  simp only[go_sem,Int.toNat_natCast,Int.natCast_nonneg,ai]
  repeat (refine⟨ah,?_⟩)
  refine hK _ ?_
  clear K' hK
  simp only[go_sem]
  refine⟨i+1,ae,by(show 2-(i+1)<2-i;omega),?_⟩
  refine bk [1,2,3,4] [[1,0],[2,0],[3,0]] ?_ ?_
  ·simp only[go_sem,aD ae (lb rfl:(2:Nat)<=maxLen),Int.natCast_add,Int.natCast_one,MW d ae]
  ·simp only[go_sem,aD ae (lb rfl:(2:Nat)<=maxLen),Int.natCast_add,Int.natCast_one,MW d ae]
 ·have aW:i=2:=by
   have :¬ (i:Int)<2:=by simpa using hb
   omega
  clear hb
  subst aW
  repeat refine sq ?_
  refine b7 ?_
  simp only[go_sem]
  refine kp [2,3] [[2,0],[3,0]] ?_
  repeat refine sq ?_
  refine rx hΓ [2] [[2,0]] (fun K' hK=>by simp only[go_sem,MX,List.append_nil];(repeat (refine⟨ah,?_⟩));exact hK _ (by simp only[go_sem]) (by simp only[go_sem]<;>rfl)) ?_
  refine an ?_
  simp only[go_sem]
  skip
theorem yL:al Tryz.prog 57 S57:=RK.sound
theorem Z3(d:Dk):List.take 1 (List.map D.v (ak d))++List.map D.v (aB d.now)++List.drop 20 (List.map D.v (ak d))=List.map D.v (ak d):=rfl
theorem E9(d:Dk){i:Nat}(h:i<2):List.take (20+i*21+1) (List.map D.v (ak d))++List.map D.v (aB (d.pg i).st)++List.drop (20+i*21+1+19) (List.map D.v (ak d))=List.map D.v (ak d):=by
 match i,h with
 | 0,_=>rfl
 | 1,_=>rfl
def It(d:Dk):List (Name×O):=[([22,0],.box ((ak d).map .v))]
def Iu(_:Dk):D:=.ref [22,0] 0
attribute [go_sem] It Iu
noncomputable def O7:List (Nat×Spec):=[(59,S59)]
theorem acg:∀ f s,tbl O7 f=some s->al Tryz.prog f s:=tc yK<|tn
attribute [go_sem] O7
noncomputable def A0:NSpec:=n1 bu (fun d=>b8 d) It Iu
noncomputable def S53:Spec:=A0.toSpec
attribute [go_sem] A0 S53
set_option maxHeartbeats 4000000 in
theorem CO:al Tryz.prog 53 S53:=by
 refine yn (nt:=23) (rs:=[.tmp 2]) Tryz.func53 rfl (by rfl) (by kernel_rfl) (by kernel_rfl) (by decide) ?_
 intro xs hp
 obtain⟨d,rfl,hp,gC,eh⟩:=yu hp
 replace gC:A0.new _=_:=gC
 replace eh:A0.d _=_:=eh
 rw[gC,eh]
 clear gC eh
 refine⟨lb rfl,?_⟩
 have hP:=ba
 simp only[iI,iB,dY,iI,iB,pD,dY,rp,jv,fb,l7,bu,jw,vE,iC,iF,encPa,kg,sp,eK,fD,List.map_cons,List.map_nil,eL,Nat.zero_add]
 have hΓ:=acg
 have hs:b8 d:=hp
 have jB:=hs.now
 have Ez:∀ (F:Name->Option O) (t:Name),F [1,0]=some (.box ((ak d).map .v))->S59.app (fun nm=>if own [0] nm=true then F nm else none) t [.ref [1,0] 1]=⟨True,.v (.agg (aB d.now)),fun nm=>if own [0] nm=true then F nm else none⟩:=fun F t h=>td (s:=d.now) (L:=ak d) (off:=1) h (Ab d) jB
 repeat refine sq ?_
 refine rx hΓ [1] [[1,0]] (fun K' hK=>by simp only[go_sem];(repeat (refine⟨ah,?_⟩));exact hK _ (by simp only[go_sem]) (by simp only[go_sem]<;>rfl)) ?_
 repeat refine sq ?_
 refine rx hΓ [1] [[1,0]] (fun K' hK=>by simp only[go_sem,Ez,Z3];(repeat (refine⟨ah,?_⟩));exact hK _ (by simp only[go_sem]) (by simp only[go_sem]<;>rfl)) ?_
 repeat refine sq ?_
 refine rx hΓ [1,7] [[1,0]] (fun K' hK=>by simp only[go_sem];(repeat (refine⟨ah,?_⟩));exact hK _ (by simp only[go_sem]) (by simp only[go_sem]<;>rfl)) ?_
 repeat refine sq ?_
 refine aO ?_
 repeat refine sq ?_
 refine cv (fun z:Nat=>[(7,⟨true,.v (vInt z)⟩)]) (fun z=>[]) (fun z=>z<=2) (fun z=>2-z) 0 ?_ ?_ ?_ ?_
 ·exact Nat.zero_le _
 ·rfl
 ·rfl
 rintro i hi
 simp only[go_sem]
 repeat refine sq ?_
 refine rx hΓ [1,7,8] [[1,0]] (fun K' hK=>by simp only[go_sem];(repeat (refine⟨ah,?_⟩));exact hK _ (by simp only[go_sem]) (by simp only[go_sem]<;>rfl)) ?_
 repeat refine sq ?_
 refine au rfl rfl (fun hb=>?_) (fun hb=>?_)
 ·have ae:i<2:=by have hq:(i:Int)<2:=(by simpa using hb);omega
  have ai:(i:Int)<2:=by omega
  clear hb
  have Ey:∀ (F:Name->Option O) (t:Name),F [1,0]=some (.box ((ak d).map .v))->S59.app (fun nm=>if own [0] nm=true then F nm else none) t [.ref [1,0] (20+i*21+1)]=⟨True,.v (.agg (aB (d.pg i).st)),fun nm=>if own [0] nm=true then F nm else none⟩:=fun F t h=>td (s:=(d.pg i).st) (L:=ak d) (off:=20+i*21+1) h (ss d ae) (hs.pg i ae)
  repeat refine sq ?_
  refine av ?_
  repeat refine sq ?_
  refine aO ?_
  repeat refine sq ?_
  refine rx hΓ [1,3,7] [[1,0]] (fun K' hK=>by simp only[go_sem,Int.toNat_natCast,Int.natCast_nonneg,ai];(repeat (refine⟨ah,?_⟩));exact hK _ (by simp only[go_sem]) (by simp only[go_sem]<;>rfl)) ?_
  repeat refine sq ?_
  refine aL hΓ fun K' hK=>?_
  simp only[go_sem,Int.toNat_natCast,Int.natCast_nonneg,ai,Ey,E9 d ae,Int.toNat_natCast,Int.natCast_nonneg,ai]
  repeat (refine⟨ah,?_⟩)
  refine hK _ ?_
  clear K' hK
  simp only[go_sem]
  refine kp [1,7] [[1,0]] ?_
  repeat refine sq ?_
  refine aL hΓ fun K' hK=>?_
  simp only[go_sem,Int.toNat_natCast,Int.natCast_nonneg,ai]
  repeat (refine⟨ah,?_⟩)
  refine hK _ ?_
  clear K' hK
  simp only[go_sem]
  refine⟨i+1,ae,by(show 2-(i+1)<2-i;omega),?_⟩
  refine bk [1,7] [[1,0]] ?_ ?_
  ·simp only[go_sem,aD ae (lb rfl:(2:Nat)<=maxLen),Int.natCast_add,Int.natCast_one,E9 d ae]
  ·simp only[go_sem,aD ae (lb rfl:(2:Nat)<=maxLen),Int.natCast_add,Int.natCast_one,E9 d ae]
 ·have aW:i=2:=by
   have :¬ (i:Int)<2:=by simpa using hb
   omega
  clear hb
  subst aW
  repeat refine sq ?_
  refine b7 ?_
  simp only[go_sem]
  refine kp [1] [[1,0]] ?_
  repeat refine sq ?_
  refine rx hΓ [2] [[22,0]] (fun K' hK=>by simp only[go_sem,List.append_nil];(repeat (refine⟨ah,?_⟩));exact hK _ (by simp only[go_sem]) (by simp only[go_sem]<;>rfl)) ?_
  refine an ?_
  simp only[go_sem]
  skip
theorem EI(d:Dk):∀ i,bD d i= -1\/aJ d.me (d.pg (bD d i).toNat)=true
 | 0=>.inl rfl
 |i+1=>by
  cases h:eb d i (bD d i)with
  |false=>rw[uB h];exact EI d i
  |true=>
   rw[sh h]
   refine .inr ?_
   unfold eb at h
   simp only[Bool.and_eq_true]at h
   rw[Int.toNat_natCast]
   exact h.1.2
theorem SO{me:Int}{p:Pg}(h:aJ me p=true):ev p.st:=by
 unfold aJ at h
 simp only[Bool.and_eq_true]at h
 exact vq h.1.2
def bZ(d:Dk):Stk:=(d.pg (bc d).toNat).st
theorem nE{d:Dk}(h:aF d=true):0<=bc d/\bc d<2/\(bc d).toNat<2/\ev (bZ d):=by
 have hr:=z1 d 2
 have ar:bc d≠ -1:=by
  intro he
  have h1:eb d 1 (bD d 1)=false:=by
   cases hc:eb d 1 (bD d 1)with
   |false=>rfl
   |true=>
    have h2:bD d 2=((1:Nat):Int):=sh hc
    have h3:bD d 2= -1:=he
    rw[h2]at h3
    exact absurd h3 (by decide)
  have e1:bD d 1= -1:=by rw[<-uB h1];exact he
  have h0:eb d 0 (bD d 0)=false:=by
   cases hc:eb d 0 (bD d 0)with
   |false=>rfl
   |true=>
    have h2:bD d 1=((0:Nat):Int):=sh hc
    rw[e1]at h2
    exact absurd h2 (by decide)
  rw[e1]at h1
  have a0:(((0:Int) != d.wet)&&aJ d.me d.pa)=false:=by simpa[eb,bD,Dk.pg]using h0
  have a1:(((1:Int) != d.wet)&&aJ d.me d.pb)=false:=by simpa[eb,Dk.pg]using h1
  unfold aF gW at h
  simp only[Bool.and_eq_true]at h
  obtain⟨⟨_,hi⟩,hw⟩:=h
  have hi:=dQ.1 hi
  have jy:d.wet<0\/d.wet=0\/d.wet=1:=by omega
  rcases jy with hn | hz | ho
  ·rw[mQ hn]at hw
   have b0:((0:Int) != d.wet)=true:=by simp;omega
   have b1:((1:Int) != d.wet)=true:=by simp;omega
   rw[b0,Bool.true_and]at a0
   rw[b1,Bool.true_and]at a1
   rw[a0,a1]at hw
   simp at hw
  ·rw[o5 hz]at hw
   rw[hz]at a1
   have F5:aJ d.me d.pb=false:=a1
   rw[F5]at hw
   simp at hw
  ·rw[o4 ho]at hw
   rw[ho]at a0
   have a0':aJ d.me d.pa=false:=a0
   rw[a0']at hw
   simp at hw
 have hi:0<=bc d:=by
  have h1:bD d 2≠ -1:=ar
  show 0<=bD d 2
  omega
 have wj:bc d<2:=hr.2
 refine⟨hi,wj,by omega,?_⟩
 rcases EI d 2 with h1 | h1
 ·exact absurd h1 ar
 ·exact SO h1
theorem kX{d:Dk}(h:(jd d != 0)=false):aF d=true:=by
 cases hb:aF d with
 |true=>rfl
 |false=>rw[eV hb]at h;exact absurd h (by decide)
theorem kY{d:Dk}(h:(jd d != 0)=true):aF d=false:=by
 cases hb:aF d with
 |false=>rfl
 |true=>rw[cI hb]at h;exact absurd h (by decide)
theorem qY{d:Dk}(h:aF d=true):ev d.now:=by
 unfold aF gW at h
 simp only[Bool.and_eq_true]at h
 exact vq h.1.1
@[go_sem] theorem af5(d:Dk):(ak d).getD 1 default=fV d.now.ho:=rfl
noncomputable def K20:List (Nat×Spec):=[(23,S23),(77,S77)]
attribute [go_sem] K20
noncomputable def acp:List (Nat×Spec):=[(39,S39)]
attribute [go_sem] acp
def wJ(d:Dk):Stk:=if aF d=true then bZ d else zS
theorem sj{d:Dk}(h:aF d=true):wJ d=bZ d:=if_pos h
theorem z6{d:Dk}(h:aF d=false):wJ d=zS:=if_neg (by rw[h];decide)
theorem Mh{d:Dk}(h:aF d=true):((ak d).drop (20+(bc d).toNat*21+1)).take 19=aB (bZ d):=ss d (nE h).2.2.1
theorem Zw{d:Dk}(h:aF d=true):∀ (F:Name->Option O) (t:Name),F [1,0]=some (.box ((ak d).map .v))->S59.app (fun nm=>if own [0] nm=true then F nm else none) t [.ref [1,0] (20+(bc d).toNat*21+1)]=⟨True,.v (.agg (aB (bZ d))),fun nm=>if own [0] nm=true then F nm else none⟩:=
 fun F t hF=>td (s:=bZ d) (L:=ak d) hF (Mh h) (nE h).2.2.2.sz
@[go_sem] theorem ae3(s:Stk):((aB s).map D.v).drop 19=[]:=rfl
noncomputable def Pc:List (Nat×Spec):=[(23,S23),(58,S58),(59,S59)]
theorem aco:∀ f s,tbl Pc f=some s->al Tryz.prog f s:=tc pB<|tc CN<|tc yK<|tn
attribute [go_sem] Pc
noncomputable def P22:PSpec:=p1 bu (fun _=>True) (fun d=>.tup [kg (wJ d),vInt (jd d)]) false
noncomputable def S22:Spec:=P22.toSpec
attribute [go_sem] P22 S22
set_option maxHeartbeats 4000000 in
theorem R3:aQ Tryz.prog 22 P22:=by
 refine w1 (rs:=[.cell 2 27,.tmp 3]) Tryz.func22 Tryz.ntmps22 (by rfl) (by kernel_rfl) (by decide) (fun h=>by cases h) ⟨_,rfl,lb rfl,fun d hp hw=>?_⟩
 have hP:=ba
 simp only[bu]at hw |-
 have hΓ:=aco
 repeat refine sq ?_
 refine rx hΓ [1,2] [[1,0],[2,0]] (fun K' hK=>by simp only[go_sem];(repeat (refine⟨ah,?_⟩));exact hK _ (by simp only[go_sem]) (by simp only[go_sem]<;>rfl)) ?_
 refine aE (ft [2,0] _ (aB zS) rfl rfl [1,2] [[1,0],[2,0]] ?_ rfl) ?_
 ·simp only[go_sem]
 simp only[go_sem]
 repeat refine sq ?_
 refine rx hΓ [1,2,4] [[1,0],[2,0]] (fun K' hK=>by simp only[go_sem];(repeat (refine⟨ah,?_⟩));exact hK _ (by simp only[go_sem]) (by simp only[go_sem]<;>rfl)) ?_
 repeat refine sq ?_
 refine rx hΓ [1,2,4,8] [[1,0],[2,0]] (fun K' hK=>by simp only[go_sem];(repeat (refine⟨ah,?_⟩));exact hK _ (by simp only[go_sem]) (by simp only[go_sem]<;>rfl)) ?_
 repeat refine sq ?_
 refine au rfl rfl (fun hb=>?_) (fun hb=>?_)
 ·repeat refine sq ?_
  have hd:=kY hb
  repeat refine sq ?_
  refine rx hΓ [2,3] [[2,0]] (fun K' hK=>by simp only[go_sem];(repeat (refine⟨ah,?_⟩));exact hK _ (by simp only[go_sem]) (by simp only[go_sem]<;>rfl)) ?_
  refine an ?_
  simp only[go_sem]
  first | (rw[z6 hd];done) | (rw[z6 hd];rfl) | (rw[sj hd,cI hd];done) | (rw[sj hd,cI hd];rfl)
 ·repeat refine sq ?_
  have hd:=kX hb
  obtain⟨kL,ny,rY,zz⟩:=nE hd
  have pV:=Zw hd
  refine av ?_
  repeat refine sq ?_
  refine rx hΓ [2,3] [[2,0]] (fun K' hK=>by simp only[go_sem,kL,ny,pV,List.append_nil];(repeat (refine⟨ah,?_⟩));exact hK _ (by simp only[go_sem]) (by simp only[go_sem]<;>rfl)) ?_
  refine an ?_
  simp only[go_sem]
  first | (rw[z6 hd];done) | (rw[z6 hd];rfl) | (rw[sj hd,cI hd];done) | (rw[sj hd,cI hd];rfl)
theorem Wg:al Tryz.prog 22 S22:=R3.sound
noncomputable def acn:List (Nat×Spec):=[(39,S39),(61,S61),(62,S62)]
attribute [go_sem] acn
def et(d:Dk)(t:Int):Bool:=aY t 0 5&&(t != d.me)
def sC(d:Dk)(t:Int):Bool:=aF d&&et d t
def ie(d:Dk)(t:Int):Int:=if aF d=true then(if et d t=true then 0 else 94)else 92
theorem sD{d:Dk}{t:Int}(h:aF d=false):ie d t=92:=if_neg (by rw[h];decide)
theorem oU{d:Dk}{t:Int}(h:aF d=true)(k:et d t=false):ie d t=94:=by unfold ie;rw[if_pos h,if_neg (by rw[k];decide)]
theorem mG{d:Dk}{t:Int}(h:aF d=true)(k:et d t=true):ie d t=0:=by unfold ie;rw[if_pos h,if_pos k]
theorem GD(d:Dk)(t:Int):(!aY t 0 5||(t==d.me))=!et d t:=by
 unfold et
 have :(t != d.me)=!(t==d.me):=rfl
 rw[this]
 cases aY t 0 5<;>cases (t==d.me)<;>rfl
theorem FY{d:Dk}{t:Int}(h:(ie d t != 0)=false):aF d=true/\et d t=true:=by
 cases h1:aF d with
 |false=>rw[sD h1]at h;exact absurd h (by decide)
 |true=>
  cases h2:et d t with
  |false=>rw[oU h1 h2]at h;exact absurd h (by decide)
  |true=>exact⟨rfl,rfl⟩
theorem FX{d:Dk}{t:Int}(h:(ie d t != 0)=true):sC d t=false:=by
 unfold sC
 cases h1:aF d with
 |false=>rfl
 |true=>
  cases h2:et d t with
  |false=>rfl
  |true=>rw[mG h1 h2]at h;exact absurd h (by decide)
theorem xz{d:Dk}{t:Int}(h:et d t=true):0<=t/\t<6/\t.toNat<6:=by
 unfold et at h
 simp only[Bool.and_eq_true]at h
 have :=dQ.1 h.1
 exact⟨by omega,by omega,by omega⟩
noncomputable def Pb:List (Nat×Spec):=[(23,S23),(82,S82)]
theorem acm:∀ f s,tbl Pb f=some s->al Tryz.prog f s:=tc pB<|tc CG<|tn
attribute [go_sem] Pb
noncomputable def P51:PSpec:=p2 bu iI (fun _ _=>True) (fun d t=>vInt (ie d t)) true
noncomputable def S51:Spec:=P51.toSpec
attribute [go_sem] P51 S51
set_option maxHeartbeats 4000000 in
theorem RO:aQ Tryz.prog 51 P51:=by
 refine w2 (rs:=[.tmp 4]) Tryz.func51 Tryz.ntmps51 (by rfl) (by kernel_rfl) (by decide) (fun _ _ _=>rfl) ⟨_,rfl,lb rfl,fun d t hp hw=>?_⟩
 have hP:=ba
 simp only[bu,iI]at hw |-
 have hΓ:=acm
 repeat refine sq ?_
 refine rx hΓ [1,2] [[2,0]] (fun K' hK=>by simp only[go_sem];(repeat (refine⟨ah,?_⟩));exact hK _ (by simp only[go_sem]) (by simp only[go_sem]<;>rfl)) ?_
 refine aE (bz [2,0] (ak d) rfl [1,2] [[2,0]] ?_ rfl) ?_
 ·simp only[go_sem]
 simp only[go_sem]
 repeat refine sq ?_
 refine rx hΓ [1,2,5] [[2,0]] (fun K' hK=>by simp only[go_sem];(repeat (refine⟨ah,?_⟩));exact hK _ (by simp only[go_sem]) (by simp only[go_sem]<;>rfl)) ?_
 repeat refine sq ?_
 refine rx hΓ [1,2,5,9] [[2,0]] (fun K' hK=>by simp only[go_sem];(repeat (refine⟨ah,?_⟩));exact hK _ (by simp only[go_sem]) (by simp only[go_sem]<;>rfl)) ?_
 repeat refine sq ?_
 refine au rfl rfl (fun hb=>?_) (fun hb=>?_)
 ·repeat refine sq ?_
  have hd:=kY hb
  have e1:=eV hd
  repeat refine sq ?_
  refine rx hΓ [4] [] (fun K' hK=>by simp only[go_sem];(repeat (refine⟨ah,?_⟩));exact hK _ (by simp only[go_sem]) (by simp only[go_sem]<;>rfl)) ?_
  refine an ?_
  simp only[go_sem]
  first | (rw[sD hd,e1];done) | (rw[oU hd hk];done) | (rw[mG hd hk];done)
 ·repeat refine sq ?_
  have hd:=kX hb
  refine av ?_
  repeat refine sq ?_
  refine rx hΓ [19] [] (fun K' hK=>by simp only[go_sem,GD];(repeat (refine⟨ah,?_⟩));exact hK _ (by simp only[go_sem]) (by simp only[go_sem]<;>rfl)) ?_
  repeat refine sq ?_
  refine au rfl rfl (fun hb=>?_) (fun hb=>?_)
  ·repeat refine sq ?_
   have hk:et d t=false:=by simpa using hb
   repeat refine sq ?_
   refine rx hΓ [4] [] (fun K' hK=>by simp only[go_sem];(repeat (refine⟨ah,?_⟩));exact hK _ (by simp only[go_sem]) (by simp only[go_sem]<;>rfl)) ?_
   refine an ?_
   simp only[go_sem]
   first | (rw[sD hd,e1];done) | (rw[oU hd hk];done) | (rw[mG hd hk];done)
  ·repeat refine sq ?_
   have hk:et d t=true:=by simpa using hb
   refine av ?_
   repeat refine sq ?_
   refine rx hΓ [4] [] (fun K' hK=>by simp only[go_sem];(repeat (refine⟨ah,?_⟩));exact hK _ (by simp only[go_sem]) (by simp only[go_sem]<;>rfl)) ?_
   refine an ?_
   simp only[go_sem]
   first | (rw[sD hd,e1];done) | (rw[oU hd hk];done) | (rw[mG hd hk];done)
theorem V9:al Tryz.prog 51 S51:=RO.sound
noncomputable def O':List (Nat×Spec):=[(39,S39),(84,S84)]
theorem ack:∀ f s,tbl O' f=some s->al Tryz.prog f s:=tc tN<|tc yJ<|tn
attribute [go_sem] O'
noncomputable def P56:PSpec:=p2 bu iI (fun _ _=>True) (fun d t=>vInt (ie d t)) true
noncomputable def S56:Spec:=P56.toSpec
attribute [go_sem] P56 S56
set_option maxHeartbeats 4000000 in
theorem RL:aQ Tryz.prog 56 P56:=by
 refine w2 (rs:=[.tmp 4]) Tryz.func56 Tryz.ntmps56 (by rfl) (by kernel_rfl) (by decide) (fun _ _ _=>rfl) ⟨_,rfl,lb rfl,fun d t hp hw=>?_⟩
 have hP:=ba
 simp only[bu,iI]at hw |-
 have hΓ:=ack
 repeat refine sq ?_
 refine rx hΓ [1,2] [[2,0]] (fun K' hK=>by simp only[go_sem];(repeat (refine⟨ah,?_⟩));exact hK _ (by simp only[go_sem]) (by simp only[go_sem]<;>rfl)) ?_
 refine aE (bz [2,0] (ak d) rfl [1,2] [[2,0]] ?_ rfl) ?_
 ·simp only[go_sem]
 simp only[go_sem]
 repeat refine sq ?_
 refine rx hΓ [1,2,7] [[2,0]] (fun K' hK=>by simp only[go_sem];(repeat (refine⟨ah,?_⟩));exact hK _ (by simp only[go_sem]) (by simp only[go_sem]<;>rfl)) ?_
 repeat refine sq ?_
 refine au rfl rfl (fun hb=>?_) (fun hb=>?_)
 ·repeat refine sq ?_
  have hd:=kY hb
  repeat refine sq ?_
  refine rx hΓ [4] [] (fun K' hK=>by simp only[go_sem];(repeat (refine⟨ah,?_⟩));exact hK _ (by simp only[go_sem]) (by simp only[go_sem]<;>rfl)) ?_
  refine an ?_
  simp only[go_sem]
  first | (rw[sD hd];done) | (rw[oU hd hk];done) | (rw[mG hd hk];done)
 ·repeat refine sq ?_
  have hd:=kX hb
  refine av ?_
  repeat refine sq ?_
  refine rx hΓ [16] [] (fun K' hK=>by simp only[go_sem,GD];(repeat (refine⟨ah,?_⟩));exact hK _ (by simp only[go_sem]) (by simp only[go_sem]<;>rfl)) ?_
  repeat refine sq ?_
  refine au rfl rfl (fun hb=>?_) (fun hb=>?_)
  ·repeat refine sq ?_
   have hk:et d t=false:=by simpa using hb
   repeat refine sq ?_
   refine rx hΓ [4] [] (fun K' hK=>by simp only[go_sem];(repeat (refine⟨ah,?_⟩));exact hK _ (by simp only[go_sem]) (by simp only[go_sem]<;>rfl)) ?_
   refine an ?_
   simp only[go_sem]
   first | (rw[sD hd];done) | (rw[oU hd hk];done) | (rw[mG hd hk];done)
  ·repeat refine sq ?_
   have hk:et d t=true:=by simpa using hb
   refine av ?_
   repeat refine sq ?_
   refine rx hΓ [4] [] (fun K' hK=>by simp only[go_sem];(repeat (refine⟨ah,?_⟩));exact hK _ (by simp only[go_sem]) (by simp only[go_sem]<;>rfl)) ?_
   refine an ?_
   simp only[go_sem]
   first | (rw[sD hd];done) | (rw[oU hd hk];done) | (rw[mG hd hk];done)
theorem Kg:al Tryz.prog 56 S56:=RL.sound
theorem Z7(d:Dk){i:Nat}(h:i<6):(ak d).getD (1+1+i) default=rowP (d.now.un.get i):=by
 match i,h with
 | 0,_=>rfl
 | 1,_=>rfl
 | 2,_=>rfl
 | 3,_=>rfl
 | 4,_=>rfl
 | 5,_=>rfl
noncomputable def K23:List (Nat×Spec):=[(51,S51)]
attribute [go_sem] K23
noncomputable def acj:List (Nat×Spec):=[(56,S56)]
attribute [go_sem] acj
def nZ(d:Dk)(t:Int):Bag:=if sC d t=true then⟨d.me,t,(bZ d).un.get t.toNat,(bZ d).ta.get t.toNat⟩else⟨0,0,[],0⟩
theorem xX{d:Dk}{t:Int}(h:aF d=true)(k:et d t=true):nZ d t=⟨d.me,t,(bZ d).un.get t.toNat,(bZ d).ta.get t.toNat⟩:=if_pos (by unfold sC;rw[h,k];rfl)
theorem xY{d:Dk}{t:Int}(h:sC d t=false):nZ d t=⟨0,0,[],0⟩:=if_neg (by rw[h];decide)
noncomputable def K24:List (Nat×Spec):=[(51,S51),(58,S58),(76,S76)]
attribute [go_sem] K24
noncomputable def O9:List (Nat×Spec):=[(56,S56),(61,S61),(62,S62)]
theorem aci:∀ f s,tbl O9 f=some s->al Tryz.prog f s:=tc Kg<|tc CK<|tc tM<|tn
attribute [go_sem] O9
noncomputable def P27:PSpec:=p2 bu iI (fun _ _=>True) (fun d t=>.tup [fD (nZ d t),vInt (ie d t)]) false
noncomputable def S27:Spec:=P27.toSpec
attribute [go_sem] P27 S27
set_option maxHeartbeats 4000000 in
theorem RY:aQ Tryz.prog 27 P27:=by
 refine w2 (rs:=[.cell 4 34,.tmp 5]) Tryz.func27 Tryz.ntmps27 (by rfl) (by kernel_rfl) (by decide) (fun h=>by cases h) ⟨_,rfl,lb rfl,fun d t hp hw=>?_⟩
 have hP:=ba
 simp only[bu,iI]at hw |-
 have hΓ:=aci
 repeat refine sq ?_
 refine rx hΓ [1,2,4] [[2,0],[4,0]] (fun K' hK=>by simp only[go_sem];(repeat (refine⟨ah,?_⟩));exact hK _ (by simp only[go_sem]) (by simp only[go_sem]<;>rfl)) ?_
 refine aE (bz [2,0] (ak d) rfl [1,2,4] [[2,0],[4,0]] ?_ rfl) ?_
 ·simp only[go_sem]
 simp only[go_sem]
 repeat refine sq ?_
 refine rx hΓ [1,2,4,6] [[2,0],[4,0]] (fun K' hK=>by simp only[go_sem];(repeat (refine⟨ah,?_⟩));exact hK _ (by simp only[go_sem]) (by simp only[go_sem]<;>rfl)) ?_
 repeat refine sq ?_
 refine rx hΓ [1,2,4,6,12] [[2,0],[4,0]] (fun K' hK=>by simp only[go_sem];(repeat (refine⟨ah,?_⟩));exact hK _ (by simp only[go_sem]) (by simp only[go_sem]<;>rfl)) ?_
 repeat refine sq ?_
 refine au rfl rfl (fun hb=>?_) (fun hb=>?_)
 ·repeat refine sq ?_
  have hn:=FX hb
  repeat refine sq ?_
  refine rx hΓ [4,5] [[4,0]] (fun K' hK=>by simp only[go_sem];(repeat (refine⟨ah,?_⟩));exact hK _ (by simp only[go_sem]) (by simp only[go_sem]<;>rfl)) ?_
  refine an ?_
  simp only[go_sem]
  first | (rw[xY hn];done) | (rw[xY hn];rfl) | (rw[xX hd hk,mG hd hk];done) | (rw[xX hd hk,mG hd hk];rfl)
 ·repeat refine sq ?_
  obtain⟨hd,hk⟩:=FY hb
  obtain⟨l9,ou,ht⟩:=xz hk
  obtain⟨kL,ny,rY,zz⟩:=nE hd
  have iX:=Mh hd
  have bf:=zz.sz
  refine av ?_
  repeat refine sq ?_
  refine rx hΓ [1,2,4,7] [[2,0],[4,0],[7,0]] (fun K' hK=>by simp only[go_sem,kL,ny,iX,bf,List.append_nil];(repeat (refine⟨ah,?_⟩));exact hK _ (by simp only[go_sem]) (by simp only[go_sem]<;>rfl)) ?_
  refine aE (bz [7,0] (aB (bZ d)) rfl [1,2,4,7] [[2,0],[4,0],[7,0]] ?_ rfl) ?_
  ·simp only[go_sem]
  simp only[go_sem]
  repeat refine sq ?_
  refine dx hΓ hP [[],[0],[],[],[],[3,4],[3,4,5],[],[],[7,8],[7,8,9],[0,1,2,3,4,5,6,7,8,9,10],[0,1,2,3,4,5,6,7,8,9,10,11],[0,1,2,3,4,5,6,7,8,9,10,11,12]] [4,5] [[4,0]] (by kernel_rfl) (fun K' hK=>by simp only[go_sem,cN (bZ d) ht,dC (bZ d) ht,l9,ou,List.append_nil];(repeat (refine⟨ah,?_⟩));(first | refine⟨by rfl,?_⟩ | skip);exact hK _ (by simp only[go_sem]) (by simp only[go_sem]<;>rfl)) ?_
  refine an ?_
  simp only[go_sem]
  first | (rw[xY hn];done) | (rw[xY hn];rfl) | (rw[xX hd hk,mG hd hk];done) | (rw[xX hd hk,mG hd hk];rfl)
theorem We:al Tryz.prog 27 S27:=RY.sound
attribute [go_sem] List.append_nil
def Dk.setP(d:Dk)(i:Nat)(p:Pg):Dk:=match i with
 | 0=>⟨d.me,d.now,p,d.pb,d.wet⟩
 |_=>⟨d.me,d.now,d.pa,p,d.wet⟩
def Dk.setW(d:Dk)(w:Int):Dk:=⟨d.me,d.now,d.pa,d.pb,w⟩
def Dk.setN(d:Dk)(s:Stk):Dk:=⟨d.me,s,d.pa,d.pb,d.wet⟩
theorem Dk.pg_set(d:Dk){i:Nat}(h:i<2)(p:Pg):(d.setP i p).pg i=p:=by
 match i,h with
 | 0,_=>rfl
 | 1,_=>rfl
theorem Dk.set_set(d:Dk){i:Nat}(h:i<2)(p q:Pg):(d.setP i p).setP i q=d.setP i q:=by
 match i,h with
 | 0,_=>rfl
 | 1,_=>rfl
theorem Dk.now_set(d:Dk)(i:Nat)(p:Pg):(d.setP i p).now=d.now:=by
 match i with
 | 0=>rfl
 |_+1=>rfl
theorem ZZ(d:Dk)(x:Int):List.take 62 (List.map D.v (ak d))++[D.v (vInt x)]++List.drop 63 (List.map D.v (ak d))=List.map D.v (ak (d.setW x)):=rfl
@[go_sem] theorem afS(d:Dk)(x:Int):List.take 62 (List.map D.v (ak d))++[D.v (vInt x)]++[]=List.map D.v (ak (d.setW x)):=rfl
@[go_sem] theorem afR(d:Dk)(x:Int):List.take 62 (List.map D.v (ak d))++[D.v (vInt x)]=List.map D.v (ak (d.setW x)):=rfl
theorem MV(d:Dk){i:Nat}(h:i<2)(c:Int):List.take (20+i*21) (List.map D.v (ak d))++[D.v (vInt c)]++List.drop (20+i*21+1) (List.map D.v (ak d))=List.map D.v (ak (d.setP i ⟨c,(d.pg i).st,(d.pg i).su⟩)):=by
 match i,h with
 | 0,_=>rfl
 | 1,_=>rfl
theorem Z1(d:Dk){i:Nat}(h:i<2)(s:Stk):List.take (20+i*21+1) (List.map D.v (ak d))++List.map D.v (aB s)++List.drop (20+i*21+1+19) (List.map D.v (ak d))=List.map D.v (ak (d.setP i ⟨(d.pg i).co,s,(d.pg i).su⟩)):=by
 match i,h with
 | 0,_=>rfl
 | 1,_=>rfl
theorem E7(d:Dk){i:Nat}(h:i<2)(c:Int):List.take (20+i*21+20) (List.map D.v (ak d))++[D.v (vInt c)]++List.drop (20+i*21+20+1) (List.map D.v (ak d))=List.map D.v (ak (d.setP i ⟨(d.pg i).co,(d.pg i).st,c⟩)):=by
 match i,h with
 | 0,_=>rfl
 | 1,_=>rfl
theorem Z2(d:Dk)(s:Stk):List.take 1 (List.map D.v (ak d))++List.map D.v (aB s)++List.drop 20 (List.map D.v (ak d))=List.map D.v (ak (d.setN s)):=rfl
def oZ(d:Dk):Int:=if d.wet<0 then 1-bc d else d.wet
def oY(d:Dk):Int:=if d.wet<0 then(d.pg (bc d).toNat).co+1 else(d.pg d.wet.toNat).co
def iN(d:Dk):Dk:=(d.setW (oZ d)).setP (oZ d).toNat ⟨oY d,d.now,dV d.now (oY d)⟩
def gK(d:Dk):Int:=if aF d=true then(if (decide (d.wet<0)&&((d.pg (bc d).toNat).co==99999))=true then 2 else 0)else 92
def jS(d:Dk):Dk:=if gK d=0 then iN d else zD
def oO(d:Dk):Dk:=if aF d=true then d.setW (-1)else zD
def gq(d:Dk)(n:Int):Bool:=decide (0<=d.wet)&&(n.tmod 2 != 0)
def iP(d:Dk)(n:Int):Dk:=if gq d n=true then d.setP d.wet.toNat ⟨(d.pg d.wet.toNat).co,(d.pg d.wet.toNat).st,((d.pg d.wet.toNat).su+1).tmod 1000003⟩else d
def EL(d:Dk)(n:Int):Dk:=((iP d n).setW (-1)).setN (bZ ((iP d n).setW (-1)))
def kV(d:Dk)(n:Int):Dk:=if aF d=true then EL d n else zD
@[go_sem] theorem af1(d:Dk):(List.map D.v (ak d)).getD 62 .any=.v (vInt d.wet):=rfl
@[go_sem] theorem af2(d:Dk):(List.map D.v (ak d)).getD 0 .any=.v (vInt d.me):=rfl
theorem Fb(d:Dk){i:Nat}(h:i<2):(List.map D.v (ak d)).getD (20+i*21) .any=.v (vInt (d.pg i).co):=by
 match i,h with
 | 0,_=>rfl
 | 1,_=>rfl
theorem Z6(d:Dk){i:Nat}(h:i<2):(List.map D.v (ak d)).getD (20+i*21+20) .any=.v (vInt (d.pg i).su):=by
 match i,h with
 | 0,_=>rfl
 | 1,_=>rfl
theorem Fa(d:Dk){i:Nat}(h:i<2):List.take 19 (List.drop (20+i*21+1) (List.map D.v (ak d)))=List.map D.v (aB (d.pg i).st):=by
 match i,h with
 | 0,_=>rfl
 | 1,_=>rfl
@[go_sem] theorem aff(d:Dk)(x:Int):(d.setW x).wet=x:=rfl
@[go_sem] theorem afg(d:Dk)(x:Int):(d.setW x).now=d.now:=rfl
@[go_sem] theorem QM(d:Dk)(x:Int)(i:Nat):(d.setW x).pg i=d.pg i:=by
  cases i<;>rfl
theorem QQ(d:Dk)(i:Nat)(p:Pg):(d.setP i p).wet=d.wet:=by
 cases i<;>rfl
theorem G6(d:Dk)(i:Nat)(p:Pg):(d.setP i p).me=d.me:=by
 cases i<;>rfl
theorem QR(d:Dk)(i:Nat)(p:Pg)(x:Int):(d.setP i p).setW x=(d.setW x).setP i p:=by
 cases i<;>rfl
theorem QL(d:Dk):d.setW d.wet=d:=rfl
theorem Gs{d:Dk}(h:aF d=false):jS d=zD/\gK d=92:=by
 have :gK d=92:=if_neg (by rw[h];decide)
 exact⟨if_neg (by rw[this];decide),this⟩
theorem A5{d:Dk}(h:aF d=true)(hw:d.wet<0)(hc:(d.pg (bc d).toNat).co=99999):jS d=zD/\gK d=2:=by
 have :gK d=2:=by unfold gK;rw[if_pos h,if_pos (by rw[hc];simpa using hw)]
 exact⟨if_neg (by rw[this];decide),this⟩
theorem Gr{d:Dk}(h:aF d=true)(hw:d.wet<0)(hc:(d.pg (bc d).toNat).co≠99999):jS d=iN d/\gK d=0:=by
 have :gK d=0:=by unfold gK;rw[if_pos h,if_neg (by simp[hc])]
 exact⟨if_pos this,this⟩
theorem Gt{d:Dk}(h:aF d=true)(hw:¬ d.wet<0):jS d=iN d/\gK d=0:=by
 have :gK d=0:=by unfold gK;rw[if_pos h,if_neg (by simp[hw])]
 exact⟨if_pos this,this⟩
structure uQ (d E:Dk) (a:Int):Prop where
 a0:0<=a
 a2:a<2
 k:a.toNat<2
 wet:E.wet=a
 now:E.now=d.now
 okn:bQ (E.pg a.toNat).co
 fin:E.setP a.toNat ⟨(E.pg a.toNat).co,d.now,dV d.now (E.pg a.toNat).co⟩=iN d
theorem tp{me:Int}{p:Pg}(h:aJ me p=true):0<=p.co/\p.co<=99999:=by
 unfold aJ at h
 simp only[Bool.and_eq_true]at h
 exact dQ.1 h.1.1
theorem ZY{d:Dk}(h:aF d=true): -1<=d.wet/\d.wet<=1:=by
 unfold aF gW at h
 simp only[Bool.and_eq_true]at h
 exact dQ.1 h.1.2
theorem p8{d:Dk}(h:aF d=true)(hw:¬ d.wet<0):aJ d.me d.pa=true/\aJ d.me d.pb=true/\d.wet.toNat<2/\d.wet<2/\(d.pg (1-d.wet).toNat).co<(d.pg d.wet.toNat).co:=by
 have hr:=ZY h
 unfold aF lq at h
 rw[if_neg hw]at h
 simp only[Bool.and_eq_true,decide_eq_true_eq]at h
 exact⟨h.2.1.1,h.2.1.2,by omega,by omega,h.2.2⟩
theorem BR{d:Dk}(ha:aJ d.me d.pa=true)(hb:aJ d.me d.pb=true):∀ i,aJ d.me (d.pg i)=true
 | 0=>ha
 |_+1=>hb
theorem Gl{d:Dk}(h:aF d=true)(hw:¬ d.wet<0):uQ d d d.wet:=by
 obtain⟨h1,h2,h3,h4,_⟩:=p8 h hw
 have hp:=tp (BR h1 h2 d.wet.toNat)
 refine⟨by omega,h4,h3,rfl,rfl,⟨hp.1,by omega⟩,?_⟩
 unfold iN oZ oY
 rw[if_neg hw,if_neg hw,QL]
theorem EM{d:Dk}(h:aF d=true):aJ d.me (d.pg (bc d).toNat)=true:=by
 rcases EI d 2 with h1 | h1
 ·have:=(nE h).1
  have e:bc d= -1:=h1
  omega
 ·exact h1
def mP(d:Dk):Dk:=(d.setW (1-bc d)).setP (1-bc d).toNat ⟨(d.pg (bc d).toNat).co+1,(d.pg (1-bc d).toNat).st,(d.pg (1-bc d).toNat).su⟩
theorem Gk{d:Dk}(h:aF d=true)(hw:d.wet<0)(hc:(d.pg (bc d).toNat).co≠99999):uQ d (mP d) (1-bc d)/\IntKind.i64.wrap (1-bc d)=1-bc d/\
 IntKind.i64.wrap ((d.pg (bc d).toNat).co+1)=(d.pg (bc d).toNat).co+1:=by
 obtain⟨kL,ny,rY,_⟩:=nE h
 have hp:=tp (EM h)
 have hk:(1-bc d).toNat<2:=by omega
 refine⟨⟨by omega,by omega,hk,by unfold mP;rw[QQ];rfl,by unfold mP;rw[Dk.now_set];rfl,?_,?_⟩,wrap_i64 (by omega) (by omega),wrap_i64 (by omega) (by omega)⟩
 ·unfold mP
  rw[Dk.pg_set _ hk]
  exact⟨by show 0<=(d.pg (bc d).toNat).co+1;omega,by show (d.pg (bc d).toNat).co+1<=1000000;omega⟩
 ·unfold mP iN oZ oY
  rw[if_pos hw,if_pos hw,Dk.pg_set _ hk,Dk.set_set _ hk]
attribute [go_sem] ti
theorem xq{d E:Dk}{a:Int}(H:uQ d E a):List.take (20+a.toNat*21+1) (List.map D.v (ak E))++List.map D.v (aB d.now)++List.drop (20+a.toNat*21+1+19) (List.map D.v (ak E))=List.map D.v (ak (E.setP a.toNat ⟨(E.pg a.toNat).co,d.now,(E.pg a.toNat).su⟩)):=Z1 E H.k d.now
theorem xo{d E:Dk}{a:Int}(H:uQ d E a):List.take 19 (List.drop (20+a.toNat*21+1) (List.map D.v (ak (E.setP a.toNat ⟨(E.pg a.toNat).co,d.now,(E.pg a.toNat).su⟩))))=List.map D.v (aB d.now):=by
 rw[Fa _ H.k,Dk.pg_set _ H.k]
theorem xr{d E:Dk}{a:Int}(H:uQ d E a):(List.map D.v (ak (E.setP a.toNat ⟨(E.pg a.toNat).co,d.now,(E.pg a.toNat).su⟩))).getD (20+a.toNat*21) .any=.v (vInt (E.pg a.toNat).co):=by
 rw[Fb _ H.k,Dk.pg_set _ H.k]
theorem xp{d E:Dk}{a:Int}(H:uQ d E a):List.take (20+a.toNat*21+20) (List.map D.v (ak (E.setP a.toNat ⟨(E.pg a.toNat).co,d.now,(E.pg a.toNat).su⟩)))++[D.v (vInt (dV d.now (E.pg a.toNat).co))]++
 List.drop (20+a.toNat*21+20+1) (List.map D.v (ak (E.setP a.toNat ⟨(E.pg a.toNat).co,d.now,(E.pg a.toNat).su⟩)))=List.map D.v (ak (iN d)):=by
 rw[E7 _ H.k,Dk.pg_set _ H.k,Dk.set_set _ H.k,H.fin]
noncomputable def O6:List (Nat×Spec):=[(23,S23),(53,S53),(58,S58),(59,S59),(60,S60)]
theorem acf:∀ f s,tbl O6 f=some s->al Tryz.prog f s:=tc pB<|tc CO<|tc CN<|tc yK<|tc CM<|tn
attribute [go_sem] O6
noncomputable def P10:PSpec:=p1 bu (fun d=>b8 d) (fun d=>.tup [eK (jS d),vInt (gK d)]) false
noncomputable def S10:Spec:=P10.toSpec
attribute [go_sem] P10 S10
set_option maxHeartbeats 4000000 in
theorem So:aQ Tryz.prog 10 P10:=by
 refine w1 (rs:=[.cell 2 32,.tmp 3]) Tryz.func10 Tryz.ntmps10 (by rfl) (by kernel_rfl) (by decide) (fun h=>by cases h) ⟨_,rfl,lb rfl,fun d hp hw=>?_⟩
 have hP:=ba
 simp only[bu]at hw |-
 have hΓ:=acf
 have hs:b8 d:=hp
 repeat refine sq ?_
 refine rx hΓ [1,2] [[1,0],[2,0]] (fun K' hK=>by simp only[go_sem];(repeat (refine⟨ah,?_⟩));exact hK _ (by simp only[go_sem]) (by simp only[go_sem]<;>rfl)) ?_
 refine aE (ft [2,0] _ (ak zD) rfl rfl [1,2] [[1,0],[2,0]] ?_ rfl) ?_
 ·simp only[go_sem]
 simp only[go_sem]
 refine aE (bz [1,0] (ak d) rfl [1,2] [[1,0],[2,0]] ?_ rfl) ?_
 ·simp only[go_sem]
 simp only[go_sem]
 repeat refine sq ?_
 refine rx hΓ [1,2,4] [[1,0],[2,0]] (fun K' hK=>by simp only[go_sem];(repeat (refine⟨ah,?_⟩));exact hK _ (by simp only[go_sem]) (by simp only[go_sem]<;>rfl)) ?_
 repeat refine sq ?_
 refine rx hΓ [1,2,4,11] [[1,0],[2,0]] (fun K' hK=>by simp only[go_sem];(repeat (refine⟨ah,?_⟩));exact hK _ (by simp only[go_sem]) (by simp only[go_sem]<;>rfl)) ?_
 repeat refine sq ?_
 refine au rfl rfl (fun hb=>?_) (fun hb=>?_)
 ·repeat refine sq ?_
  have hd:=kY hb
  have hq:=Gs hd
  have e1:=eV hd
  repeat refine sq ?_
  refine rx hΓ [2,3] [[2,0]] (fun K' hK=>by simp only[go_sem,List.append_nil];(repeat (refine⟨ah,?_⟩));exact hK _ (by simp only[go_sem]) (by simp only[go_sem]<;>rfl)) ?_
  refine an ?_
  simp only[go_sem]
  first | (rw[hq.1,hq.2];done) | (rw[hq.1,hq.2];rfl) | (rw[hq.1,hq.2,e1];done) | (rw[hq.1,hq.2,e1];rfl)
 ·repeat refine sq ?_
  have hd:=kX hb
  obtain⟨kL,ny,rY,zz⟩:=nE hd
  have jB:=(qY hd)
  refine av ?_
  repeat refine sq ?_
  refine rx hΓ [1,2,5] [[1,0],[2,0],[22,0,15,0]] (fun K' hK=>by simp only[go_sem,hs,List.append_nil];(repeat (refine⟨ah,?_⟩));exact hK _ (by simp only[go_sem]) (by simp only[go_sem]<;>rfl)) ?_
  repeat refine sq ?_
  refine rx hΓ [2,5,6] [[2,0],[22,0,15,0]] (fun K' hK=>by simp only[go_sem];(repeat (refine⟨ah,?_⟩));exact hK _ (by simp only[go_sem]) (by simp only[go_sem]<;>rfl)) ?_
  repeat refine sq ?_
  refine rx hΓ [2,5,6,23] [[2,0],[22,0,15,0]] (fun K' hK=>by simp only[go_sem,Nat.add_zero];(repeat (refine⟨ah,?_⟩));exact hK _ (by simp only[go_sem]) (by simp only[go_sem]<;>rfl)) ?_
  repeat refine sq ?_
  refine au rfl rfl (fun hb=>?_) (fun hb=>?_)
  ·repeat refine sq ?_
   have hw:d.wet<0:=by simpa using hb
   have qc:=Fb d rY
   repeat refine sq ?_
   refine rx hΓ [2,5,6,32] [[2,0],[22,0,15,0]] (fun K' hK=>by simp only[go_sem,Nat.add_zero,kL,ny,qc];(repeat (refine⟨ah,?_⟩));exact hK _ (by simp only[go_sem]) (by simp only[go_sem]<;>rfl)) ?_
   repeat refine sq ?_
   refine au rfl rfl (fun hb=>?_) (fun hb=>?_)
   ·repeat refine sq ?_
    have hc:(d.pg (bc d).toNat).co=99999:=by simpa using hb
    have hq:=A5 hd hw hc
    repeat refine sq ?_
    refine rx hΓ [2,3] [[2,0]] (fun K' hK=>by simp only[go_sem,List.append_nil];(repeat (refine⟨ah,?_⟩));exact hK _ (by simp only[go_sem]) (by simp only[go_sem]<;>rfl)) ?_
    refine an ?_
    simp only[go_sem]
    first | (rw[hq.1,hq.2];done) | (rw[hq.1,hq.2];rfl) | (rw[hq.1,hq.2,e1];done) | (rw[hq.1,hq.2,e1];rfl)
   ·repeat refine sq ?_
    have hc:(d.pg (bc d).toNat).co≠99999:=by simpa using hb
    have hq:=Gr hd hw hc
    obtain⟨H,w1,w2⟩:=Gk hd hw hc
    have pV:∀ (F:Name->Option O) (t:Name),F [22,0,15,0]=some (.box ((ak (mP d)).map .v))->S59.app (fun nm=>if own [0] nm=true then F nm else none) t [.ref [22,0,15,0] 1]=⟨True,.v (.agg (aB d.now)),fun nm=>if own [0] nm=true then F nm else none⟩:=fun F t h=>td (s:=d.now) (L:=ak (mP d)) (off:=1) h (by rw[Ab,H.now]) hs.now
    have lZ:=H.a0;have lY:=H.a2;have qS:=xq H;have qT:=xo H;have qC:=xr H;have qU:=xp H;have qO:=H.okn
    have qw:(mP d).wet=1-bc d:=H.wet
    have qd:=Fb (d.setW (1-bc d)) rY
    have qe:List.take (20+(1-bc d).toNat*21) (List.map D.v (ak (d.setW (1-bc d))))++[D.v (vInt ((d.pg (bc d).toNat).co+1))]++List.drop (20+(1-bc d).toNat*21+1) (List.map D.v (ak (d.setW (1-bc d))))=List.map D.v (ak (mP d)):=by rw[MV _ H.k,QM];rfl
    refine av ?_
    repeat refine sq ?_
    refine rx hΓ [2,5,6] [[2,0],[22,0,15,0]] (fun K' hK=>by simp only[go_sem,w1,ZZ];(repeat (refine⟨ah,?_⟩));exact hK _ (by simp only[go_sem]) (by simp only[go_sem]<;>rfl)) ?_
    repeat refine sq ?_
    refine dx hΓ hP [[],[],[1],[1,2],[1,2,3],[1,2,3,4],[],[],[6],[6,8],[6,8,9],[6,7,8,9,10],[6,7,8,9,10,11],[6,7,8,9,10,11,12],[6,7,8,9,10,11,12,13],[0],[0,15],[0,15,16],[0,1,2,3,4,5,6,7,8,9,10,11,12,13,14,15,16,17],[0,1,2,3,4,5,6,7,8,9,10,11,12,13,14,15,16,17,18],[0,1,2,3,4,5,6,7,8,9,10,11,12,13,14,15,16,17,18,19]] [2,5] [[2,0],[22,0,15,0]] (by kernel_rfl) (fun K' hK=>by simp only[go_sem,Nat.add_zero,kL,ny,qd,w2,lZ,lY,qe];(repeat (refine⟨ah,?_⟩));(first | refine⟨by rfl,?_⟩ | skip);exact hK _ (by simp only[go_sem]) (by simp only[go_sem]<;>rfl)) ?_
    repeat refine sq ?_
    refine dx hΓ hP [[],[],[1],[1,2],[1,2,3],[1,2,3,4],[0],[0,6],[0,6,7],[0,1,2,3,4,5,6,7,8],[0,1,2,3,4,5,6,7,8,9]] [2,5,7] [[2,0],[22,0,15,0]] (by kernel_rfl) (fun K' hK=>by simp only[go_sem,lZ,lY,qw];(repeat (refine⟨ah,?_⟩));(first | refine⟨by rfl,?_⟩ | skip);exact hK _ (by simp only[go_sem]) (by simp only[go_sem]<;>rfl)) ?_
    repeat refine sq ?_
    refine rx hΓ [2,5,7] [[2,0],[22,0,15,0]] (fun K' hK=>by simp only[go_sem,pV,qS];(repeat (refine⟨ah,?_⟩));exact hK _ (by simp only[go_sem]) (by simp only[go_sem]<;>rfl)) ?_
    repeat refine sq ?_
    refine dx hΓ hP [[],[],[1],[1,2],[1,2,3],[],[5],[5,6],[5,6,7],[1,2,3,4,5,6,7,8],[0,1,2,3,4,5,6,7,8,9],[0,1,2,3,4,5,6,7,8,9,10],[0,1,2,3,4,5,6,7,8,9,10,11]] [2,5] [[2,0],[22,0,15,0]] (by kernel_rfl) (fun K' hK=>by simp only[go_sem,Nat.add_zero,qT,qC,qU];(repeat (refine⟨by first | exact⟨jB,qO⟩ | exact ah,?_⟩));(first | refine⟨by rfl,?_⟩ | skip);exact hK _ (by simp only[go_sem]) (by simp only[go_sem]<;>rfl)) ?_
    repeat refine sq ?_
    refine rx hΓ [2,3] [[2,0]] (fun K' hK=>by simp only[go_sem,List.append_nil];(repeat (refine⟨ah,?_⟩));exact hK _ (by simp only[go_sem]) (by simp only[go_sem]<;>rfl)) ?_
    refine an ?_
    simp only[go_sem]
    first | (rw[hq.1,hq.2];done) | (rw[hq.1,hq.2];rfl) | (rw[hq.1,hq.2,e1];done) | (rw[hq.1,hq.2,e1];rfl)
  ·repeat refine sq ?_
   have hw:¬ d.wet<0:=by simpa using hb
   have H:=Gl hd hw
   have qw:True:=trivial
   have hq:=Gt hd hw
   have pV:∀ (F:Name->Option O) (t:Name),F [22,0,15,0]=some (.box ((ak d).map .v))->S59.app (fun nm=>if own [0] nm=true then F nm else none) t [.ref [22,0,15,0] 1]=⟨True,.v (.agg (aB d.now)),fun nm=>if own [0] nm=true then F nm else none⟩:=fun F t h=>td (s:=d.now) (L:=ak d) (off:=1) h (Ab d) hs.now
   have lZ:=H.a0;have lY:=H.a2;have qS:=xq H;have qT:=xo H;have qC:=xr H;have qU:=xp H;have qO:=H.okn
   refine av ?_
   repeat refine sq ?_
   refine dx hΓ hP [[],[],[1],[1,2],[1,2,3],[1,2,3,4],[0],[0,6],[0,6,7],[0,1,2,3,4,5,6,7,8],[0,1,2,3,4,5,6,7,8,9]] [2,5,7] [[2,0],[22,0,15,0]] (by kernel_rfl) (fun K' hK=>by simp only[go_sem,lZ,lY,qw];(repeat (refine⟨ah,?_⟩));(first | refine⟨by rfl,?_⟩ | skip);exact hK _ (by simp only[go_sem]) (by simp only[go_sem]<;>rfl)) ?_
   repeat refine sq ?_
   refine rx hΓ [2,5,7] [[2,0],[22,0,15,0]] (fun K' hK=>by simp only[go_sem,pV,qS];(repeat (refine⟨ah,?_⟩));exact hK _ (by simp only[go_sem]) (by simp only[go_sem]<;>rfl)) ?_
   repeat refine sq ?_
   refine dx hΓ hP [[],[],[1],[1,2],[1,2,3],[],[5],[5,6],[5,6,7],[1,2,3,4,5,6,7,8],[0,1,2,3,4,5,6,7,8,9],[0,1,2,3,4,5,6,7,8,9,10],[0,1,2,3,4,5,6,7,8,9,10,11]] [2,5] [[2,0],[22,0,15,0]] (by kernel_rfl) (fun K' hK=>by simp only[go_sem,Nat.add_zero,qT,qC,qU];(repeat (refine⟨by first | exact⟨jB,qO⟩ | exact ah,?_⟩));(first | refine⟨by rfl,?_⟩ | skip);exact hK _ (by simp only[go_sem]) (by simp only[go_sem]<;>rfl)) ?_
   repeat refine sq ?_
   refine rx hΓ [2,3] [[2,0]] (fun K' hK=>by simp only[go_sem,List.append_nil];(repeat (refine⟨ah,?_⟩));exact hK _ (by simp only[go_sem]) (by simp only[go_sem]<;>rfl)) ?_
   refine an ?_
   simp only[go_sem]
   first | (rw[hq.1,hq.2];done) | (rw[hq.1,hq.2];rfl) | (rw[hq.1,hq.2,e1];done) | (rw[hq.1,hq.2,e1];rfl)
theorem WA:al Tryz.prog 10 S10:=So.sound
noncomputable def O5:List (Nat×Spec):=[(39,S39),(57,S57),(61,S61),(62,S62),(63,S63)]
theorem ace:∀ f s,tbl O5 f=some s->al Tryz.prog f s:=tc tN<|tc yL<|tc CK<|tc tM<|tc CJ<|tn
attribute [go_sem] O5
noncomputable def P11:PSpec:=p1 bu (fun d=>b8 d) (fun d=>.tup [eK (jS d),vInt (gK d)]) false
noncomputable def S11:Spec:=P11.toSpec
attribute [go_sem] P11 S11
set_option maxHeartbeats 4000000 in
theorem Si:aQ Tryz.prog 11 P11:=by
 refine w1 (rs:=[.cell 2 32,.tmp 3]) Tryz.func11 Tryz.ntmps11 (by rfl) (by kernel_rfl) (by decide) (fun h=>by cases h) ⟨_,rfl,lb rfl,fun d hp hw=>?_⟩
 have hP:=ba
 simp only[bu]at hw |-
 have hΓ:=ace
 have hs:b8 d:=hp
 have jB:=hs.now
 repeat refine sq ?_
 refine rx hΓ [1,2] [[1,0],[2,0]] (fun K' hK=>by simp only[go_sem];(repeat (refine⟨ah,?_⟩));exact hK _ (by simp only[go_sem]) (by simp only[go_sem]<;>rfl)) ?_
 refine aE (ft [2,0] _ (ak zD) rfl rfl [1,2] [[1,0],[2,0]] ?_ rfl) ?_
 ·simp only[go_sem]
 simp only[go_sem]
 refine aE (bz [1,0] (ak d) rfl [1,2] [[1,0],[2,0]] ?_ rfl) ?_
 ·simp only[go_sem]
 simp only[go_sem]
 repeat refine sq ?_
 refine rx hΓ [1,2,9] [[1,0],[2,0]] (fun K' hK=>by simp only[go_sem];(repeat (refine⟨ah,?_⟩));exact hK _ (by simp only[go_sem]) (by simp only[go_sem]<;>rfl)) ?_
 repeat refine sq ?_
 refine au rfl rfl (fun hb=>?_) (fun hb=>?_)
 ·repeat refine sq ?_
  have hd:=kY hb
  have hq:=Gs hd
  repeat refine sq ?_
  refine rx hΓ [2,3] [[2,0]] (fun K' hK=>by simp only[go_sem,List.append_nil];(repeat (refine⟨ah,?_⟩));exact hK _ (by simp only[go_sem]) (by simp only[go_sem]<;>rfl)) ?_
  refine an ?_
  simp only[go_sem]
  first | (rw[hq.1,hq.2];done) | (rw[hq.1,hq.2];rfl)
 ·repeat refine sq ?_
  have hd:=kX hb
  obtain⟨kL,ny,rY,zz⟩:=nE hd
  have y9:=(qY hd)
  refine av ?_
  repeat refine sq ?_
  refine rx hΓ [1,2,4] [[1,0],[2,0],[4,0]] (fun K' hK=>by simp only[go_sem,hs,List.append_nil];(repeat (refine⟨ah,?_⟩));exact hK _ (by simp only[go_sem]) (by simp only[go_sem]<;>rfl)) ?_
  repeat refine sq ?_
  refine rx hΓ [1,2,4,5] [[1,0],[2,0],[4,0]] (fun K' hK=>by simp only[go_sem,Nat.add_zero];(repeat (refine⟨ah,?_⟩));exact hK _ (by simp only[go_sem]) (by simp only[go_sem]<;>rfl)) ?_
  repeat refine sq ?_
  refine rx hΓ [1,2,4,5,16] [[1,0],[2,0],[4,0]] (fun K' hK=>by simp only[go_sem];(repeat (refine⟨ah,?_⟩));exact hK _ (by simp only[go_sem]) (by simp only[go_sem]<;>rfl)) ?_
  repeat refine sq ?_
  refine au rfl rfl (fun hb=>?_) (fun hb=>?_)
  ·repeat refine sq ?_
   have hw:d.wet<0:=by simpa using hb
   have qc:=ek d rY
   repeat refine sq ?_
   refine rx hΓ [1,2,4,6] [[1,0],[2,0],[4,0]] (fun K' hK=>by simp only[go_sem];(repeat (refine⟨ah,?_⟩));exact hK _ (by simp only[go_sem]) (by simp only[go_sem]<;>rfl)) ?_
   repeat refine sq ?_
   refine rx hΓ [1,2,4,5,6] [[1,0],[2,0],[4,0]] (fun K' hK=>by simp only[go_sem,(show IntKind.i64.wrap (1-bc d)=1-bc d from wrap_i64 (by omega) (by omega))];(repeat (refine⟨ah,?_⟩));exact hK _ (by simp only[go_sem]) (by simp only[go_sem]<;>rfl)) ?_
   repeat refine sq ?_
   refine rx hΓ [1,2,4,5,6,26] [[1,0],[2,0],[4,0]] (fun K' hK=>by simp only[go_sem,Nat.add_zero,kL,ny,qc];(repeat (refine⟨ah,?_⟩));exact hK _ (by simp only[go_sem]) (by simp only[go_sem]<;>rfl)) ?_
   repeat refine sq ?_
   refine au rfl rfl (fun hb=>?_) (fun hb=>?_)
   ·repeat refine sq ?_
    have hc:(d.pg (bc d).toNat).co=99999:=by simpa using hb
    have hq:=A5 hd hw hc
    repeat refine sq ?_
    refine rx hΓ [2,3] [[2,0]] (fun K' hK=>by simp only[go_sem,List.append_nil];(repeat (refine⟨ah,?_⟩));exact hK _ (by simp only[go_sem]) (by simp only[go_sem]<;>rfl)) ?_
    refine an ?_
    simp only[go_sem]
    first | (rw[hq.1,hq.2];done) | (rw[hq.1,hq.2];rfl)
   ·repeat refine sq ?_
    have hc:(d.pg (bc d).toNat).co≠99999:=by simpa using hb
    have hq:=Gr hd hw hc
    obtain⟨H,w1,w2⟩:=Gk hd hw hc
    have lZ:=H.a0;have lY:=H.a2;have qS:=xq H;have qT:=xo H;have qC:=xr H;have qU:=xp H;have qO:=H.okn
    have qe:List.take (20+(1-bc d).toNat*21) (List.map D.v (ak d))++[D.v (vInt ((d.pg (bc d).toNat).co+1))]++List.drop (20+(1-bc d).toNat*21+1) (List.map D.v (ak d))=List.map D.v (ak (d.setP (1-bc d).toNat ⟨(d.pg (bc d).toNat).co+1,(d.pg (1-bc d).toNat).st,(d.pg (1-bc d).toNat).su⟩)):=by rw[MV _ H.k]
    have qw:(d.setP (1-bc d).toNat ⟨(d.pg (bc d).toNat).co+1,(d.pg (1-bc d).toNat).st,(d.pg (1-bc d).toNat).su⟩).setW (1-bc d)=mP d:=by rw[QR];rfl
    refine av ?_
    repeat refine sq ?_
    refine rx hΓ [1,2,4,5] [[1,0],[2,0],[4,0]] (fun K' hK=>by simp only[go_sem,Nat.add_zero,kL,ny,qc,w2,lZ,lY,qe];(repeat (refine⟨ah,?_⟩));exact hK _ (by simp only[go_sem]) (by simp only[go_sem]<;>rfl)) ?_
    repeat refine sq ?_
    refine rx hΓ [1,2,4,5] [[1,0],[2,0],[4,0]] (fun K' hK=>by simp only[go_sem,qw];(repeat (refine⟨ah,?_⟩));exact hK _ (by simp only[go_sem]) (by simp only[go_sem]<;>rfl)) ?_
    repeat refine sq ?_
    refine rx hΓ [1,2,4,5] [[1,0],[2,0],[4,0]] (fun K' hK=>by simp only[go_sem,jB,lZ,lY,qS,List.append_nil];(repeat (refine⟨ah,?_⟩));exact hK _ (by simp only[go_sem]) (by simp only[go_sem]<;>rfl)) ?_
    repeat refine sq ?_
    refine dx hΓ hP [[],[],[1],[],[],[3,4],[3,4,5],[3,4,5,6],[1,2,3,4,5,6,7],[],[0,1,2,3,4,5,6,7,8,9],[0,1,2,3,4,5,6,7,8,9,10],[0,1,2,3,4,5,6,7,8,9,10,11]] [2,4] [[2,0],[4,0]] (by kernel_rfl) (fun K' hK=>by simp only[go_sem,Nat.add_zero,qC,qU,lZ,lY];(repeat (refine⟨by first | exact⟨y9,qO⟩ | exact ah,?_⟩));(first | refine⟨by rfl,?_⟩ | skip);exact hK _ (by simp only[go_sem]) (by simp only[go_sem]<;>rfl)) ?_
    repeat refine sq ?_
    refine rx hΓ [2,3] [[2,0]] (fun K' hK=>by simp only[go_sem,List.append_nil];(repeat (refine⟨ah,?_⟩));exact hK _ (by simp only[go_sem]) (by simp only[go_sem]<;>rfl)) ?_
    refine an ?_
    simp only[go_sem]
    first | (rw[hq.1,hq.2];done) | (rw[hq.1,hq.2];rfl)
  ·repeat refine sq ?_
   have hw:¬ d.wet<0:=by simpa using hb
   have H:=Gl hd hw
   have hq:=Gt hd hw
   have lZ:=H.a0;have lY:=H.a2;have qS:=xq H;have qT:=xo H;have qC:=xr H;have qU:=xp H;have qO:=H.okn
   refine av ?_
   repeat refine sq ?_
   refine rx hΓ [1,2,4,5] [[1,0],[2,0],[4,0]] (fun K' hK=>by simp only[go_sem,jB,lZ,lY,qS,List.append_nil];(repeat (refine⟨ah,?_⟩));exact hK _ (by simp only[go_sem]) (by simp only[go_sem]<;>rfl)) ?_
   repeat refine sq ?_
   refine dx hΓ hP [[],[],[1],[],[],[3,4],[3,4,5],[3,4,5,6],[1,2,3,4,5,6,7],[],[0,1,2,3,4,5,6,7,8,9],[0,1,2,3,4,5,6,7,8,9,10],[0,1,2,3,4,5,6,7,8,9,10,11]] [2,4] [[2,0],[4,0]] (by kernel_rfl) (fun K' hK=>by simp only[go_sem,Nat.add_zero,qC,qU,lZ,lY];(repeat (refine⟨by first | exact⟨y9,qO⟩ | exact ah,?_⟩));(first | refine⟨by rfl,?_⟩ | skip);exact hK _ (by simp only[go_sem]) (by simp only[go_sem]<;>rfl)) ?_
   repeat refine sq ?_
   refine rx hΓ [2,3] [[2,0]] (fun K' hK=>by simp only[go_sem,List.append_nil];(repeat (refine⟨ah,?_⟩));exact hK _ (by simp only[go_sem]) (by simp only[go_sem]<;>rfl)) ?_
   refine an ?_
   simp only[go_sem]
   first | (rw[hq.1,hq.2];done) | (rw[hq.1,hq.2];rfl)
theorem Wv:al Tryz.prog 11 S11:=Si.sound
theorem nG{d:Dk}(h:aF d=true):oO d=d.setW (-1):=if_pos h
theorem p7{d:Dk}(h:aF d=false):oO d=zD:=if_neg (by rw[h];decide)
theorem kU{d:Dk}{n:Int}(h:aF d=true):kV d n=EL d n:=if_pos h
theorem lB{d:Dk}{n:Int}(h:aF d=false):kV d n=zD:=if_neg (by rw[h];decide)
theorem pf{d:Dk}{n:Int}(h:gq d n=true):iP d n=d.setP d.wet.toNat ⟨(d.pg d.wet.toNat).co,(d.pg d.wet.toNat).st,((d.pg d.wet.toNat).su+1).tmod 1000003⟩:=if_pos h
theorem nS{d:Dk}{n:Int}(h:gq d n=false):iP d n=d:=if_neg (by rw[h];decide)
theorem u6{d:Dk}{n:Int}(h:gq d n=true):¬ d.wet<0:=by
 unfold gq at h
 simp only[Bool.and_eq_true,decide_eq_true_eq]at h
 omega
theorem BS{me:Int}{p:Pg}(h:aJ me p=true):0<=p.su/\p.su<1000003:=by
 have hc:=tp h
 unfold aJ at h
 simp only[Bool.and_eq_true,beq_iff_eq]at h
 rw[h.2]
 exact xE ⟨hc.1,by omega⟩ _
theorem HT{me:Int}{p:Pg}(h:aJ me p=true):aJ me ⟨p.co,p.st,(p.su+1).tmod 1000003⟩=false:=by
 obtain⟨h1,h2⟩:=BS h
 unfold aJ at h |-
 simp only[Bool.and_eq_true,beq_iff_eq]at h
 have ar:(p.su+1).tmod 1000003≠p.su:=by
  rw[Int.tmod_eq_emod_of_nonneg (by omega)]
  omega
 have :((p.su+1).tmod 1000003==dV p.st p.co)=false:=by
  rw[beq_eq_false_iff_ne,<-h.2];exact ar
 rw[this,Bool.and_false]
theorem EK{d:Dk}{n:Int}(h:aF d=true):aF ((iP d n).setW (-1))=true:=by
 have hh:=h
 unfold aF gW at hh
 simp only[Bool.and_eq_true]at hh
 obtain⟨⟨hs,_⟩,Xi⟩:=hh
 have oy:∀ e:Dk,(e.setW (-1)).wet<0:=fun e=>by show (-1:Int)<0;omega
 unfold aF
 rw[mQ (oy _)]
 have Yu:gW ((iP d n).setW (-1))=true:=by
  unfold gW
  have e1:((iP d n).setW (-1)).me=d.me:=by
   cases hb:gq d n
   ·rw[nS hb];rfl
   ·rw[pf hb];exact G6 _ _ _
  have e2:((iP d n).setW (-1)).now=d.now:=by
   cases hb:gq d n
   ·rw[nS hb];rfl
   ·rw[pf hb];exact Dk.now_set _ _ _
  rw[e1,e2,hs];rfl
 rw[Yu,Bool.true_and]
 cases hb:gq d n with
 |false=>
  rw[nS hb]
  show ((aJ d.me d.pa||aJ d.me d.pb)&&!((aJ d.me d.pa&&aJ d.me d.pb)&&(d.pa.co==d.pb.co)))=true
  by_cases hw:d.wet<0
  ·rw[<-mQ hw];exact Xi
  ·obtain⟨h1,h2,h3,h4,h5⟩:=p8 h hw
   rw[h1,h2]
   have ar:(d.pa.co==d.pb.co)=false:=by
    rw[beq_eq_false_iff_ne]
    have jy:d.wet=0\/d.wet=1:=by omega
    rcases jy with e | e<;>rw[e]at h5
    ·have sb:d.pb.co<d.pa.co:=h5
     omega
    ·have sb:d.pa.co<d.pb.co:=h5
     omega
   rw[ar];rfl
 |true=>
  have hw:=u6 hb
  rw[pf hb]
  obtain⟨h1,h2,h3,h4,_⟩:=p8 h hw
  have jy:d.wet=0\/d.wet=1:=by omega
  rcases jy with e | e<;>rw[e]
  ·show ((aJ d.me ⟨d.pa.co,d.pa.st,(d.pa.su+1).tmod 1000003⟩||aJ d.me d.pb)&&!((aJ d.me ⟨d.pa.co,d.pa.st,(d.pa.su+1).tmod 1000003⟩&&aJ d.me d.pb)&&(d.pa.co==d.pb.co)))=true
   rw[HT h1,h2];rfl
  ·show ((aJ d.me d.pa||aJ d.me ⟨d.pb.co,d.pb.st,(d.pb.su+1).tmod 1000003⟩)&&!((aJ d.me d.pa&&aJ d.me ⟨d.pb.co,d.pb.st,(d.pb.su+1).tmod 1000003⟩)&&(d.pa.co==d.pb.co)))=true
   rw[HT h2,h1];rfl
noncomputable def O3:List (Nat×Spec):=[(23,S23),(53,S53)]
theorem acd:∀ f s,tbl O3 f=some s->al Tryz.prog f s:=tc pB<|tc CO<|tn
attribute [go_sem] O3
noncomputable def P12:PSpec:=p1 bu (fun d=>b8 d) (fun d=>.tup [eK (oO d),vInt (jd d)]) false
noncomputable def S12:Spec:=P12.toSpec
attribute [go_sem] P12 S12
set_option maxHeartbeats 4000000 in
theorem Se:aQ Tryz.prog 12 P12:=by
 refine w1 (rs:=[.cell 2 32,.tmp 3]) Tryz.func12 Tryz.ntmps12 (by rfl) (by kernel_rfl) (by decide) (fun h=>by cases h) ⟨_,rfl,lb rfl,fun d hp hw=>?_⟩
 have hP:=ba
 simp only[bu]at hw |-
 have hΓ:=acd
 have hs:b8 d:=hp
 repeat refine sq ?_
 refine rx hΓ [1,2] [[1,0],[2,0]] (fun K' hK=>by simp only[go_sem];(repeat (refine⟨ah,?_⟩));exact hK _ (by simp only[go_sem]) (by simp only[go_sem]<;>rfl)) ?_
 refine aE (ft [2,0] _ (ak zD) rfl rfl [1,2] [[1,0],[2,0]] ?_ rfl) ?_
 ·simp only[go_sem]
 simp only[go_sem]
 refine aE (bz [1,0] (ak d) rfl [1,2] [[1,0],[2,0]] ?_ rfl) ?_
 ·simp only[go_sem]
 simp only[go_sem]
 repeat refine sq ?_
 refine rx hΓ [1,2,4] [[1,0],[2,0]] (fun K' hK=>by simp only[go_sem];(repeat (refine⟨ah,?_⟩));exact hK _ (by simp only[go_sem]) (by simp only[go_sem]<;>rfl)) ?_
 repeat refine sq ?_
 refine rx hΓ [1,2,4,9] [[1,0],[2,0]] (fun K' hK=>by simp only[go_sem];(repeat (refine⟨ah,?_⟩));exact hK _ (by simp only[go_sem]) (by simp only[go_sem]<;>rfl)) ?_
 repeat refine sq ?_
 refine au rfl rfl (fun hb=>?_) (fun hb=>?_)
 ·repeat refine sq ?_
  have hd:=kY hb
  repeat refine sq ?_
  refine rx hΓ [2,3] [[2,0]] (fun K' hK=>by simp only[go_sem,List.append_nil];(repeat (refine⟨ah,?_⟩));exact hK _ (by simp only[go_sem]) (by simp only[go_sem]<;>rfl)) ?_
  refine an ?_
  simp only[go_sem]
  first | (rw[p7 hd];done) | (rw[p7 hd];rfl) | (rw[nG hd,cI hd];done) | (rw[nG hd,cI hd];rfl)
 ·repeat refine sq ?_
  have hd:=kX hb
  refine av ?_
  repeat refine sq ?_
  refine rx hΓ [2,5] [[2,0],[22,0,13,0]] (fun K' hK=>by simp only[go_sem,hs,List.append_nil];(repeat (refine⟨ah,?_⟩));exact hK _ (by simp only[go_sem]) (by simp only[go_sem]<;>rfl)) ?_
  repeat refine sq ?_
  refine rx hΓ [2,5] [[2,0],[22,0,13,0]] (fun K' hK=>by simp only[go_sem,List.append_nil];(repeat (refine⟨ah,?_⟩));exact hK _ (by simp only[go_sem]) (by simp only[go_sem]<;>rfl)) ?_
  repeat refine sq ?_
  refine rx hΓ [2,3] [[2,0]] (fun K' hK=>by simp only[go_sem,List.append_nil];(repeat (refine⟨ah,?_⟩));exact hK _ (by simp only[go_sem]) (by simp only[go_sem]<;>rfl)) ?_
  refine an ?_
  simp only[go_sem]
  first | (rw[p7 hd];done) | (rw[p7 hd];rfl) | (rw[nG hd,cI hd];done) | (rw[nG hd,cI hd];rfl)
theorem Wr:al Tryz.prog 12 S12:=Se.sound
noncomputable def O2:List (Nat×Spec):=[(39,S39),(57,S57)]
theorem acb:∀ f s,tbl O2 f=some s->al Tryz.prog f s:=tc tN<|tc yL<|tn
attribute [go_sem] O2
noncomputable def P13:PSpec:=p1 bu (fun d=>b8 d) (fun d=>.tup [eK (oO d),vInt (jd d)]) false
noncomputable def S13:Spec:=P13.toSpec
attribute [go_sem] P13 S13
set_option maxHeartbeats 4000000 in
theorem Sb:aQ Tryz.prog 13 P13:=by
 refine w1 (rs:=[.cell 2 32,.tmp 3]) Tryz.func13 Tryz.ntmps13 (by rfl) (by kernel_rfl) (by decide) (fun h=>by cases h) ⟨_,rfl,lb rfl,fun d hp hw=>?_⟩
 have hP:=ba
 simp only[bu]at hw |-
 have hΓ:=acb
 have hs:b8 d:=hp
 repeat refine sq ?_
 refine rx hΓ [1,2] [[1,0],[2,0]] (fun K' hK=>by simp only[go_sem];(repeat (refine⟨ah,?_⟩));exact hK _ (by simp only[go_sem]) (by simp only[go_sem]<;>rfl)) ?_
 refine aE (ft [2,0] _ (ak zD) rfl rfl [1,2] [[1,0],[2,0]] ?_ rfl) ?_
 ·simp only[go_sem]
 simp only[go_sem]
 refine aE (bz [1,0] (ak d) rfl [1,2] [[1,0],[2,0]] ?_ rfl) ?_
 ·simp only[go_sem]
 simp only[go_sem]
 repeat refine sq ?_
 refine rx hΓ [1,2,7] [[1,0],[2,0]] (fun K' hK=>by simp only[go_sem];(repeat (refine⟨ah,?_⟩));exact hK _ (by simp only[go_sem]) (by simp only[go_sem]<;>rfl)) ?_
 repeat refine sq ?_
 refine au rfl rfl (fun hb=>?_) (fun hb=>?_)
 ·repeat refine sq ?_
  have hd:=kY hb
  repeat refine sq ?_
  refine rx hΓ [2,3] [[2,0]] (fun K' hK=>by simp only[go_sem,List.append_nil];(repeat (refine⟨ah,?_⟩));exact hK _ (by simp only[go_sem]) (by simp only[go_sem]<;>rfl)) ?_
  refine an ?_
  simp only[go_sem]
  first | (rw[p7 hd,eV hd];done) | (rw[p7 hd,eV hd];rfl) | (rw[nG hd,cI hd];done) | (rw[nG hd,cI hd];rfl)
 ·repeat refine sq ?_
  have hd:=kX hb
  refine av ?_
  repeat refine sq ?_
  refine rx hΓ [2,4] [[2,0],[4,0]] (fun K' hK=>by simp only[go_sem,hs,List.append_nil];(repeat (refine⟨ah,?_⟩));exact hK _ (by simp only[go_sem]) (by simp only[go_sem]<;>rfl)) ?_
  repeat refine sq ?_
  refine rx hΓ [2,4] [[2,0],[4,0]] (fun K' hK=>by simp only[go_sem,List.append_nil];(repeat (refine⟨ah,?_⟩));exact hK _ (by simp only[go_sem]) (by simp only[go_sem]<;>rfl)) ?_
  repeat refine sq ?_
  refine rx hΓ [2,3] [[2,0]] (fun K' hK=>by simp only[go_sem,List.append_nil];(repeat (refine⟨ah,?_⟩));exact hK _ (by simp only[go_sem]) (by simp only[go_sem]<;>rfl)) ?_
  refine an ?_
  simp only[go_sem]
  first | (rw[p7 hd,eV hd];done) | (rw[p7 hd,eV hd];rfl) | (rw[nG hd,cI hd];done) | (rw[nG hd,cI hd];rfl)
theorem Wo:al Tryz.prog 13 S13:=Sb.sound
noncomputable def P21:PSpec:=p2 iI iI (fun n m=>0<m/\m<=1000000) (fun n m=>vInt (n % m)) true
noncomputable def S21:Spec:=P21.toSpec
attribute [go_sem] P21 S21
theorem R4:aQ Tryz.prog 21 P21:=by
 refine w2 (rs:=[.tmp 4]) Tryz.func21 Tryz.ntmps21 (by rfl) (by kernel_rfl) (by decide) (fun _ _ _=>rfl) ⟨_,rfl,lb rfl,fun n m hp hw=>?_⟩
 have hP:=ba
 simp only[iI]at hw |-
 have hΓ:=@jY Tryz.prog
 obtain⟨hm,fR⟩:=hp
 have h0:m≠0:=by omega
 have bU: -m<n.tmod m/\n.tmod m<m:=⟨Int.lt_tmod_of_pos _ hm,Int.tmod_lt_of_pos _ hm⟩
 have w2:IntKind.i64.wrap (n.tmod m+m)=n.tmod m+m:=wrap_i64 (by omega) (by omega)
 have e1:(n.tmod m+m).tmod m=n % m:=by
  rw[Int.tmod_eq_emod_of_nonneg (by omega),Int.add_emod_right]
  have h1:=Int.tmod_add_mul_tdiv n m
  have h2:(n.tmod m+m*n.tdiv m) % m=n.tmod m % m:=Int.add_mul_emod_self_left _ _ _
  rw[<-h2,h1]
 repeat refine sq ?_
 refine rx hΓ [0,1] [] (fun K' hK=>by simp only[go_sem];(repeat (refine⟨ah,?_⟩));exact hK _ (by simp only[go_sem]) (by simp only[go_sem]<;>rfl)) ?_
 repeat refine sq ?_
 refine rx hΓ [4] [] (fun K' hK=>by simp only[go_sem,w2,e1,h0,ne_eq,not_false_eq_true];(repeat (refine⟨by first | exact ah | exact h0,?_⟩));exact hK _ (by simp only[go_sem]) (by simp only[go_sem]<;>rfl)) ?_
 refine an ?_
 simp only[go_sem]
 skip
theorem yM:al Tryz.prog 21 S21:=R4.sound
theorem ZU(n:Int):(n % 2==1)=(n.tmod 2 != 0):=by
 rw[Bool.eq_iff_iff,beq_iff_eq,bne_iff_ne]
 have h1:=Int.tmod_add_mul_tdiv n 2
 have h2:=Int.emod_add_mul_ediv n 2
 have h3:=Int.lt_tmod_of_pos n (b:=2) (by decide)
 have h6:=Int.tmod_lt_of_pos n (b:=2) (by decide)
 constructor<;>intro h<;>omega
def eB(d:Dk)(n:Int):Dk:=(iP d n).setW (-1)
structure FlF (d:Dk) (n:Int):Prop where
 f0:0<=bc (eB d n)
 f2:bc (eB d n)<2
 k:(bc (eB d n)).toNat<2
 sz:gM (bZ (eB d n))
theorem Ml{d:Dk}{n:Int}(h:aF d=true):FlF d n:=by
 obtain⟨h1,h2,h3,h4⟩:=nE (EK (n:=n) h)
 exact⟨h1,h2,h3,h4.sz⟩
theorem Mj(d:Dk)(n:Int):List.take 1 (List.map D.v (ak (eB d n)))++List.map D.v (aB (bZ (eB d n)))++List.drop 20 (List.map D.v (ak (eB d n)))=List.map D.v (ak (EL d n)):=Z2 (eB d n) (bZ (eB d n))
theorem xJ{d:Dk}{n:Int}:gq d n=(if (decide (d.wet>=0))=true then(n.tmod 2 != 0)else false):=by
 unfold gq
 by_cases h:0<=d.wet
 ·rw[decide_eq_true h];rfl
 ·rw[decide_eq_false h];rfl
noncomputable def O1:List (Nat×Spec):=[(23,S23),(53,S53),(58,S58),(59,S59)]
theorem aca:∀ f s,tbl O1 f=some s->al Tryz.prog f s:=tc pB<|tc CO<|tc CN<|tc yK<|tn
attribute [go_sem] O1
noncomputable def P14:PSpec:=p2 bu iI (fun d _=>b8 d) (fun d n=>.tup [eK (kV d n),vInt (jd d)]) false
noncomputable def S14:Spec:=P14.toSpec
attribute [go_sem] P14 S14
set_option maxHeartbeats 4000000 in
theorem Sa:aQ Tryz.prog 14 P14:=by
 refine w2 (rs:=[.cell 4 32,.tmp 5]) Tryz.func14 Tryz.ntmps14 (by rfl) (by kernel_rfl) (by decide) (fun h=>by cases h) ⟨_,rfl,lb rfl,fun d n hp hw=>?_⟩
 have hP:=ba
 simp only[bu,iI]at hw |-
 have hΓ:=aca
 have hs:b8 d:=hp
 repeat refine sq ?_
 refine rx hΓ [1,2,4] [[2,0],[4,0]] (fun K' hK=>by simp only[go_sem];(repeat (refine⟨ah,?_⟩));exact hK _ (by simp only[go_sem]) (by simp only[go_sem]<;>rfl)) ?_
 refine aE (ft [4,0] _ (ak zD) rfl rfl [1,2,4] [[2,0],[4,0]] ?_ rfl) ?_
 ·simp only[go_sem]
 simp only[go_sem]
 refine aE (bz [2,0] (ak d) rfl [1,2,4] [[2,0],[4,0]] ?_ rfl) ?_
 ·simp only[go_sem]
 simp only[go_sem]
 repeat refine sq ?_
 refine rx hΓ [1,2,4,6] [[2,0],[4,0]] (fun K' hK=>by simp only[go_sem];(repeat (refine⟨ah,?_⟩));exact hK _ (by simp only[go_sem]) (by simp only[go_sem]<;>rfl)) ?_
 repeat refine sq ?_
 refine rx hΓ [1,2,4,6,12] [[2,0],[4,0]] (fun K' hK=>by simp only[go_sem];(repeat (refine⟨ah,?_⟩));exact hK _ (by simp only[go_sem]) (by simp only[go_sem]<;>rfl)) ?_
 repeat refine sq ?_
 refine au rfl rfl (fun hb=>?_) (fun hb=>?_)
 ·repeat refine sq ?_
  have hd:=kY hb
  repeat refine sq ?_
  refine rx hΓ [4,5] [[4,0]] (fun K' hK=>by simp only[go_sem];(repeat (refine⟨ah,?_⟩));exact hK _ (by simp only[go_sem]) (by simp only[go_sem]<;>rfl)) ?_
  refine an ?_
  simp only[go_sem]
  first | (rw[lB hd];done) | (rw[lB hd];rfl) | (rw[kU hd,cI hd];done) | (rw[kU hd,cI hd];rfl)
 ·repeat refine sq ?_
  have hd:=kX hb
  have HF:=Ml (n:=n) hd
  have g0:=HF.f0;have g2:=HF.f2;have gk:=HF.k;have gN:=Mj d n
  have pV:∀ (F:Name->Option O) (t:Name),F [22,0,16,0]=some (.box ((ak (eB d n)).map .v))->S59.app (fun nm=>if own [0] nm=true then F nm else none) t [.ref [22,0,16,0] (20+(bc (eB d n)).toNat*21+1)]=⟨True,.v (.agg (aB (bZ (eB d n)))),fun nm=>if own [0] nm=true then F nm else none⟩:=fun F t h=>td (s:=bZ (eB d n)) (L:=ak (eB d n)) h (ss _ gk) HF.sz
  refine av ?_
  repeat refine sq ?_
  refine rx hΓ [1,4,7] [[4,0],[22,0,16,0]] (fun K' hK=>by simp only[go_sem,hs];(repeat (refine⟨ah,?_⟩));exact hK _ (by simp only[go_sem]) (by simp only[go_sem]<;>rfl)) ?_
  repeat refine sq ?_
  refine rx hΓ [4,7,27] [[4,0],[22,0,16,0]] (fun K' hK=>by simp only[go_sem,Nat.add_zero];(repeat (refine⟨ah,?_⟩));exact hK _ (by simp only[go_sem]) (by simp only[go_sem]<;>rfl)) ?_
  repeat refine sq ?_
  refine au rfl rfl (fun hb=>?_) (fun hb=>?_)
  ·repeat refine sq ?_
   have j9:gq d n=true:=by rw[xJ];simpa using hb
   have hw:=u6 j9
   obtain⟨b1,b2,b3,b4,_⟩:=p8 hd hw
   have b0:0<=d.wet:=by omega
   have hu:=BS (BR b1 b2 d.wet.toNat)
   have u1:=Z6 d b3
   have u2:IntKind.i64.wrap ((d.pg d.wet.toNat).su+1)=(d.pg d.wet.toNat).su+1:=wrap_i64 (by omega) (by omega)
   have u3:List.take (20+d.wet.toNat*21+20) (List.map D.v (ak d))++[D.v (vInt (((d.pg d.wet.toNat).su+1).tmod 1000003))]++List.drop (20+d.wet.toNat*21+20+1) (List.map D.v (ak d))=List.map D.v (ak (iP d n)):=by rw[E7 d b3,pf j9]
   have u4:(iP d n).setW (-1)=eB d n:=rfl
   repeat refine sq ?_
   refine dx hΓ hP [[],[],[1],[1,2],[1,2,3],[1,2,3,4],[0],[0,6],[0,6,7],[0,1,2,3,4,5,6,7,8],[0,1,2,3,4,5,6,7,8,9]] [4,7,8] [[4,0],[22,0,16,0]] (by kernel_rfl) (fun K' hK=>by simp only[go_sem,b0,b4];(repeat (refine⟨ah,?_⟩));(first | refine⟨by rfl,?_⟩ | skip);exact hK _ (by simp only[go_sem]) (by simp only[go_sem]<;>rfl)) ?_
   repeat refine sq ?_
   refine rx hΓ [4,7] [[4,0],[22,0,16,0]] (fun K' hK=>by simp only[go_sem,u1,u2,u3];(repeat (refine⟨ah,?_⟩));exact hK _ (by simp only[go_sem]) (by simp only[go_sem]<;>rfl)) ?_
   repeat refine sq ?_
   refine rx hΓ [4,7] [[4,0],[22,0,16,0]] (fun K' hK=>by simp only[go_sem,u4];(repeat (refine⟨ah,?_⟩));exact hK _ (by simp only[go_sem]) (by simp only[go_sem]<;>rfl)) ?_
   repeat refine sq ?_
   refine dx hΓ hP [[],[],[],[2],[2,3],[2,3,4],[2,3,4,5],[1],[1,7],[1,7,8],[1,2,3,4,5,6,7,8,9],[1,2,3,4,5,6,7,8,9,10],[1,2,3,4,5,6,7,8,9,10,11],[0,1,2,3,4,5,6,7,8,9,10,11,12],[0,1,2,3,4,5,6,7,8,9,10,11,12,13],[0,1,2,3,4,5,6,7,8,9,10,11,12,13,14],[0,1,2,3,4,5,6,7,8,9,10,11,12,13,14,15]] [4,7] [[4,0],[22,0,16,0]] (by kernel_rfl) (fun K' hK=>by simp only[go_sem,g0,g2,pV,gN];(repeat (refine⟨ah,?_⟩));(first | refine⟨by rfl,?_⟩ | skip);exact hK _ (by simp only[go_sem]) (by simp only[go_sem]<;>rfl)) ?_
   repeat refine sq ?_
   refine rx hΓ [4,5] [[4,0]] (fun K' hK=>by simp only[go_sem];(repeat (refine⟨ah,?_⟩));exact hK _ (by simp only[go_sem]) (by simp only[go_sem]<;>rfl)) ?_
   refine an ?_
   simp only[go_sem]
   first | (rw[lB hd];done) | (rw[lB hd];rfl) | (rw[kU hd,cI hd];done) | (rw[kU hd,cI hd];rfl)
  ·repeat refine sq ?_
   have j9:gq d n=false:=by rw[xJ];simpa using hb
   have u4:d.setW (-1)=eB d n:=by unfold eB;rw[nS j9]
   refine av ?_
   repeat refine sq ?_
   refine rx hΓ [4,7] [[4,0],[22,0,16,0]] (fun K' hK=>by simp only[go_sem,u4];(repeat (refine⟨ah,?_⟩));exact hK _ (by simp only[go_sem]) (by simp only[go_sem]<;>rfl)) ?_
   repeat refine sq ?_
   refine dx hΓ hP [[],[],[],[2],[2,3],[2,3,4],[2,3,4,5],[1],[1,7],[1,7,8],[1,2,3,4,5,6,7,8,9],[1,2,3,4,5,6,7,8,9,10],[1,2,3,4,5,6,7,8,9,10,11],[0,1,2,3,4,5,6,7,8,9,10,11,12],[0,1,2,3,4,5,6,7,8,9,10,11,12,13],[0,1,2,3,4,5,6,7,8,9,10,11,12,13,14],[0,1,2,3,4,5,6,7,8,9,10,11,12,13,14,15]] [4,7] [[4,0],[22,0,16,0]] (by kernel_rfl) (fun K' hK=>by simp only[go_sem,g0,g2,pV,gN];(repeat (refine⟨ah,?_⟩));(first | refine⟨by rfl,?_⟩ | skip);exact hK _ (by simp only[go_sem]) (by simp only[go_sem]<;>rfl)) ?_
   repeat refine sq ?_
   refine rx hΓ [4,5] [[4,0]] (fun K' hK=>by simp only[go_sem];(repeat (refine⟨ah,?_⟩));exact hK _ (by simp only[go_sem]) (by simp only[go_sem]<;>rfl)) ?_
   refine an ?_
   simp only[go_sem]
   first | (rw[lB hd];done) | (rw[lB hd];rfl) | (rw[kU hd,cI hd];done) | (rw[kU hd,cI hd];rfl)
theorem Wn:al Tryz.prog 14 S14:=Sa.sound
noncomputable def O0:List (Nat×Spec):=[(39,S39),(57,S57),(61,S61),(62,S62),(21,S21)]
theorem ab':∀ f s,tbl O0 f=some s->al Tryz.prog f s:=tc tN<|tc yL<|tc CK<|tc tM<|tc yM<|tn
attribute [go_sem] O0
noncomputable def P15:PSpec:=p2 bu iI (fun d _=>b8 d) (fun d n=>.tup [eK (kV d n),vInt (jd d)]) false
noncomputable def S15:Spec:=P15.toSpec
attribute [go_sem] P15 S15
set_option maxHeartbeats 4000000 in
theorem R':aQ Tryz.prog 15 P15:=by
 refine w2 (rs:=[.cell 4 32,.tmp 5]) Tryz.func15 Tryz.ntmps15 (by rfl) (by kernel_rfl) (by decide) (fun h=>by cases h) ⟨_,rfl,lb rfl,fun d n hp hw=>?_⟩
 have hP:=ba
 simp only[bu,iI]at hw |-
 have hΓ:=ab'
 have hs:b8 d:=hp
 repeat refine sq ?_
 refine rx hΓ [1,2,4] [[2,0],[4,0]] (fun K' hK=>by simp only[go_sem];(repeat (refine⟨ah,?_⟩));exact hK _ (by simp only[go_sem]) (by simp only[go_sem]<;>rfl)) ?_
 refine aE (ft [4,0] _ (ak zD) rfl rfl [1,2,4] [[2,0],[4,0]] ?_ rfl) ?_
 ·simp only[go_sem]
 simp only[go_sem]
 refine aE (bz [2,0] (ak d) rfl [1,2,4] [[2,0],[4,0]] ?_ rfl) ?_
 ·simp only[go_sem]
 simp only[go_sem]
 repeat refine sq ?_
 refine rx hΓ [1,2,4,9] [[2,0],[4,0]] (fun K' hK=>by simp only[go_sem];(repeat (refine⟨ah,?_⟩));exact hK _ (by simp only[go_sem]) (by simp only[go_sem]<;>rfl)) ?_
 repeat refine sq ?_
 refine au rfl rfl (fun hb=>?_) (fun hb=>?_)
 ·repeat refine sq ?_
  have hd:=kY hb
  repeat refine sq ?_
  refine rx hΓ [4,5] [[4,0]] (fun K' hK=>by simp only[go_sem];(repeat (refine⟨ah,?_⟩));exact hK _ (by simp only[go_sem]) (by simp only[go_sem]<;>rfl)) ?_
  refine an ?_
  simp only[go_sem]
  first | (rw[lB hd,eV hd];done) | (rw[lB hd,eV hd];rfl) | (rw[kU hd,cI hd];done) | (rw[kU hd,cI hd];rfl)
 ·repeat refine sq ?_
  have hd:=kX hb
  have HF:=Ml (n:=n) hd
  have g0:=HF.f0;have g2:=HF.f2;have gk:=HF.k;have gN:=Mj d n;have gS:=Fa (eB d n) gk;have gz:gM ((eB d n).pg (bc (eB d n)).toNat).st:=HF.sz
  have gQ:((eB d n).pg (bc (eB d n)).toNat).st=bZ (eB d n):=rfl
  rw[gQ]at gS gz
  refine av ?_
  repeat refine sq ?_
  refine rx hΓ [1,2,4,6] [[2,0],[4,0],[6,0]] (fun K' hK=>by simp only[go_sem,hs];(repeat (refine⟨ah,?_⟩));exact hK _ (by simp only[go_sem]) (by simp only[go_sem]<;>rfl)) ?_
  repeat refine sq ?_
  refine rx hΓ [2,4,6,20] [[2,0],[4,0],[6,0]] (fun K' hK=>by simp only[go_sem,Nat.add_zero,ZU];(repeat (refine⟨by first | (exact fun _=>⟨by decide,by decide⟩) | exact ah,?_⟩));exact hK _ (by simp only[go_sem]) (by simp only[go_sem]<;>rfl)) ?_
  repeat refine sq ?_
  refine au rfl rfl (fun hb=>?_) (fun hb=>?_)
  ·repeat refine sq ?_
   have j9:gq d n=true:=by rw[xJ];simpa using hb
   have hw:=u6 j9
   obtain⟨b1,b2,b3,b4,_⟩:=p8 hd hw
   have b0:0<=d.wet:=by omega
   have hu:=BS (BR b1 b2 d.wet.toNat)
   have u1:=wP d b3
   have u2:IntKind.i64.wrap ((d.pg d.wet.toNat).su+1)=(d.pg d.wet.toNat).su+1:=wrap_i64 (by omega) (by omega)
   have u3:List.take (20+d.wet.toNat*21+20) (List.map D.v (ak d))++[D.v (vInt (((d.pg d.wet.toNat).su+1).tmod 1000003))]++List.drop (20+d.wet.toNat*21+20+1) (List.map D.v (ak d))=List.map D.v (ak (iP d n)):=by rw[E7 d b3,pf j9]
   have u4:(iP d n).setW (-1)=eB d n:=rfl
   repeat refine sq ?_
   refine dx hΓ hP [[],[0],[],[2],[],[2,3,4],[2,3,4,5],[2,3,4,5,6],[2,3,4,5,6,7],[2,3,4,5,6,7,8],[],[0,1,2,3,4,5,6,7,8,9,10],[0,1,2,3,4,5,6,7,8,9,10,11],[0,1,2,3,4,5,6,7,8,9,10,11,12]] [4,6] [[4,0],[6,0]] (by kernel_rfl) (fun K' hK=>by simp only[go_sem,Nat.add_zero,b0,b4,u1,u2,u3];(repeat (refine⟨ah,?_⟩));(first | refine⟨by rfl,?_⟩ | skip);exact hK _ (by simp only[go_sem]) (by simp only[go_sem]<;>rfl)) ?_
   repeat refine sq ?_
   refine rx hΓ [4,6] [[4,0],[6,0]] (fun K' hK=>by simp only[go_sem,u4];(repeat (refine⟨ah,?_⟩));exact hK _ (by simp only[go_sem]) (by simp only[go_sem]<;>rfl)) ?_
   repeat refine sq ?_
   refine rx hΓ [4,6] [[4,0],[6,0]] (fun K' hK=>by simp only[go_sem,g0,g2,gS,gN,gz];(repeat (refine⟨ah,?_⟩));exact hK _ (by simp only[go_sem]) (by simp only[go_sem]<;>rfl)) ?_
   repeat refine sq ?_
   refine rx hΓ [4,5] [[4,0]] (fun K' hK=>by simp only[go_sem];(repeat (refine⟨ah,?_⟩));exact hK _ (by simp only[go_sem]) (by simp only[go_sem]<;>rfl)) ?_
   refine an ?_
   simp only[go_sem]
   first | (rw[lB hd,eV hd];done) | (rw[lB hd,eV hd];rfl) | (rw[kU hd,cI hd];done) | (rw[kU hd,cI hd];rfl)
  ·repeat refine sq ?_
   have j9:gq d n=false:=by rw[xJ];simpa using hb
   have u4:d.setW (-1)=eB d n:=by unfold eB;rw[nS j9]
   refine av ?_
   repeat refine sq ?_
   refine rx hΓ [4,6] [[4,0],[6,0]] (fun K' hK=>by simp only[go_sem,u4];(repeat (refine⟨ah,?_⟩));exact hK _ (by simp only[go_sem]) (by simp only[go_sem]<;>rfl)) ?_
   repeat refine sq ?_
   refine rx hΓ [4,6] [[4,0],[6,0]] (fun K' hK=>by simp only[go_sem,g0,g2,gS,gN,gz];(repeat (refine⟨ah,?_⟩));exact hK _ (by simp only[go_sem]) (by simp only[go_sem]<;>rfl)) ?_
   repeat refine sq ?_
   refine rx hΓ [4,5] [[4,0]] (fun K' hK=>by simp only[go_sem];(repeat (refine⟨ah,?_⟩));exact hK _ (by simp only[go_sem]) (by simp only[go_sem]<;>rfl)) ?_
   refine an ?_
   simp only[go_sem]
   first | (rw[lB hd,eV hd];done) | (rw[lB hd,eV hd];rfl) | (rw[kU hd,cI hd];done) | (rw[kU hd,cI hd];rfl)
theorem Wm:al Tryz.prog 15 S15:=R'.sound
open Go
def cW(a b:Name)(nm:Name):Name:=if nm=a then b else if nm=b then a else nm
theorem Qs(a b nm:Name):cW a b (cW a b nm)=nm:=by
 unfold cW
 by_cases h1:nm=a
 ·rw[if_pos h1]
  by_cases h2:b=a
  ·rw[if_pos h2,h2,h1]
  ·rw[if_neg h2,if_pos rfl,h1]
 ·rw[if_neg h1]
  by_cases h2:nm=b
  ·rw[if_pos h2,if_pos rfl,h2]
  ·rw[if_neg h2,if_neg h1,if_neg h2]
theorem Qt{a b nm:Name}(h1:nm≠a)(h2:nm≠b):cW a b nm=nm:=by unfold cW;rw[if_neg h1,if_neg h2]
mutual
theorem D.clos_tt:∀ d:D,D.clos (fun _=>true) d=true
 | .v _=>rfl
 | .nilsl=>rfl
 | .nilmap=>rfl
 | .any=>rfl
 | .ref _ _=>rfl
 | .msl _ _=>rfl
 | .aref _ _ _ _=>rfl
 | .map _=>rfl
 | .yld _=>rfl
 | .clo _ a b=>by simp only[D.clos,D.closL_tt a,D.closL_tt b,Bool.and_self]
 | .agg l=>by simp only[D.clos,D.closL_tt l]
 | .tup l=>by simp only[D.clos,D.closL_tt l]
theorem D.closL_tt:∀ l:List D,D.closL (fun _=>true) l=true
 |[]=>rfl
 |d::r=>by simp only[D.closL,D.clos_tt d,D.closL_tt r,Bool.and_self]
end
theorem O.clos_tt(o:O):O.clos (fun _=>true) o=true:=by
 cases o<;>first | rfl | exact D.closL_tt _
mutual
theorem D.ren_fix{f:Name->Name}{dom:Name->Bool}(hf:∀ nm,dom nm=true->f nm=nm):∀ d:D,D.clos dom d=true->d.ren f=d
 | .v _,_=>rfl
 | .nilsl,_=>rfl
 | .nilmap,_=>rfl
 | .any,_=>rfl
 | .ref nm _,h=>by simp only[D.ren];rw[hf nm h]
 | .msl nm _,h=>by simp only[D.ren];rw[hf nm h]
 | .aref nm _ _ _,h=>by simp only[D.ren];rw[hf nm h]
 | .map nm,h=>by simp only[D.ren];rw[hf nm h]
 | .yld nm,h=>by simp only[D.ren];rw[hf nm h]
 | .clo _ a b,h=>by
   simp only[D.clos,Bool.and_eq_true]at h
   simp only[D.ren];rw[D.renL_fix hf a h.1,D.renL_fix hf b h.2]
 | .agg l,h=>by simp only[D.clos]at h;simp only[D.ren];rw[D.renL_fix hf l h]
 | .tup l,h=>by simp only[D.clos]at h;simp only[D.ren];rw[D.renL_fix hf l h]
theorem D.renL_fix{f:Name->Name}{dom:Name->Bool}(hf:∀ nm,dom nm=true->f nm=nm):∀ l:List D,D.closL dom l=true->D.renL f l=l
 |[],_=>rfl
 |d::r,h=>by
  simp only[D.closL,Bool.and_eq_true]at h
  simp only[D.renL];rw[D.ren_fix hf d h.1,D.renL_fix hf r h.2]
end
theorem O.ren_fix{f:Name->Name}{dom:Name->Bool}(hf:∀ nm,dom nm=true->f nm=nm)(o:O)(h:O.clos dom o=true):o.ren f=o:=by
 cases o with
 |box cs=>simp only[O.clos]at h;simp only[O.ren];rw[D.renL_fix hf cs h]
 |loop env ps asg body st bm=>
  simp only[O.clos]at h
  simp only[O.ren,O.loop.injEq,and_true]
  refine List.ext_getElem (by simp) fun i h1 h2=>?_
  have :=ic (l:=env.map (·.d)) (i:=i) (by simpa using h2) h
  simp only[List.getElem_map,E.ren]at this |-
  rw[D.ren_fix hf _ this]
 |_=>rfl
def sU(a b:Name)(σ:S):S:=
 ⟨σ.nt,fun t=>(σ.env t).ren (cW a b),fun nm=>if own σ.pre nm=true then(σ.obj (cW a b nm)).map (O.ren (cW a b))else σ.obj nm,σ.pre,σ.base⟩
theorem PH{σ:S}(a b:Name)(ha:own σ.pre a=true)(hb:own σ.pre b=true)(hO:bT σ.pre (fun nm=>!own σ.pre nm) σ.obj):dq σ (sU a b σ):=by
 intro G φ m x w hC
 obtain⟨f,hf⟩:∃ f,f=cW a b:=⟨_,rfl⟩
 have zx:∀ nm,f (f nm)=nm:=fun nm=>by rw[hf];exact Qs a b nm
 have D4:∀ nm,own σ.pre nm=false->f nm=nm:=fun nm h=>by
  rw[hf]
  exact Qt (fun e=>by rw[e,ha]at h;cases h) (fun e=>by rw[e,hb]at h;cases h)
 have ow:∀ nm,(sU a b σ).obj nm=(σ.obj (f nm)).map (O.ren f):=fun nm=>by
  show (if own σ.pre nm=true then(σ.obj (cW a b nm)).map (O.ren (cW a b))else σ.obj nm)=_
  rw[<-hf]
  cases ho:own σ.pre nm with
  |true=>rw[if_pos rfl]
  |false=>
   rw[if_neg (by simp),D4 nm ho]
   cases hn:σ.obj nm with
   |none=>rfl
   |some o=>
    rw[Option.map_some,O.ren_fix (dom:=fun nm=>!own σ.pre nm) (fun x hx=>D4 x (by simpa using hx)) o (hO nm o ho hn)]
 have jI:∀ nm o,(sU a b σ).obj nm=some o->∃ o',σ.obj (f nm)=some o'/\o=o'.ren f:=fun nm o h=>by
  rw[ow]at h
  cases hn:σ.obj (f nm)with
  |none=>rw[hn]at h;cases h
  |some o'=>rw[hn]at h;cases h;exact⟨o',rfl,rfl⟩
 have hX:uS f φ (fun nm=>φ (f nm)) σ.obj (sU a b σ).obj (fun _=>true):=fun nm o _ ho=>
  ⟨o.ren f,by rw[ow,zx,ho];rfl,.inl ⟨O.len_ren f o,by show φ (f (f nm))=φ nm;rw[zx],O.sz_ren f o⟩⟩
 have hh:∀ nm,holds (fun nm=>φ (f nm)) (sU a b σ).obj nm->holds φ σ.obj (f nm):=by
  rintro nm ⟨o,h1,h2,h3⟩
  obtain⟨o',h4,rfl⟩:=jI nm o h1
  exact⟨o',h4,by rw[<-O.mut_ren f];exact h2,h3⟩
 refine⟨fun nm=>φ (f nm),?_⟩
 constructor
 ·intro t
  have :(sU a b σ).env t=(σ.env t).ren f:=by rw[hf];rfl
  rw[this]
  exact(hC.tmps t).renx (Mem.le_refl m) hX (D.clos_tt _)
 ·exact hC.size
 ·exact hC.defers
 ·intro nm o h
  obtain⟨o',h4,rfl⟩:=jI nm o h
  exact(hC.objs (f nm) o' h4).ren (Mem.le_refl m) hX (O.clos_tt o') (fun _ _=>rfl)
 ·exact hC.mem
 ·exact fun nm hn=>hC.apart (f nm) (hh nm hn)
 ·intro nm jt h1 h2 e
  have :=hC.inj _ _ (hh nm h1) (hh jt h2) e
  rw[<-zx nm,this,zx]
 ·exact fun nm hn=>hC.own (f nm) (hh nm hn)
 ·exact hC.fr
 ·exact hC.fresh
 ·refine⟨hC.kept.1,fun nm o ho=>?_⟩
  obtain⟨o',h1,h2⟩:=hC.kept.2 nm o ho
  have hn:=D4 nm (hC.kept.1 nm o ho)
  refine⟨o'.ren f,by rw[ow,hn,h1];rfl,?_⟩
  rw[O.len_ren,O.sz_ren]
  show _/\φ (f nm)=_/\_\/_
  rw[hn]
  exact h2
theorem Gv{nt:Nat}{p:Name}{H:Name->Option O}{l l':List (Nat×E)}{h h':List (Name×O)}(a b:Name)(ks:List Nat)(ns:List Name)(ha:own p a=true)(hb:own p b=true)
 (hO:bT p (bM p []) H) (hn:(ns.all fun nm=>own p nm)=true)
 (hl:(ks.map fun t=>(t,(cY eAny l t).ren (cW a b)))=l')
 (hh:(ns.filterMap fun nm=>(cY none (h.map fun q=>(q.1,some q.2)) (cW a b nm)).map fun o=>(nm,o.ren (cW a b)))=h')
 (hc:((l'.all fun q=>D.clos (bM p h') q.2.d)&&(h'.all fun q=>O.clos (bM p h') q.2))=true):dN (aU nt p H l h) (aU nt p H l' h'):=by
 have gG:bT p (fun nm=>!own p nm) H:=by
  intro x q hx hq
  have :=hO x q hx hq
  have e:bM p []=fun nm=>!own p nm:=by funext nm;simp[bM]
  rw[e]at this;exact this
 have hw:=PH (σ:=aU nt p H l h) a b ha hb (fun nm o h1 h2=>by
  have :(aU nt p H l h).obj nm=H nm:=if_neg (by rw[show own p nm=false from h1];decide)
  rw[this]at h2
  exact gG nm o h1 h2)
 have y9:∀ nm,own p nm=true->own p (cW a b nm)=true:=fun nm h=>by
  unfold cW
  split
  ·exact hb
  ·split
   ·exact ha
   ·exact h
 refine(hw.trans (Fits.weak (p:=p) (H:=H) (l:=l') (h:=h') ⟨rfl,fun nm aq=>?_,fun q hq=>?_,fun q hq=>?_,?_,?_,?_⟩)).toM
 ·show (if own p nm=true then _ else(if own p nm=true then _ else H nm))=H nm
  rw[if_neg (by rw[aq];decide),if_neg (by rw[aq];decide)]
 ·rw[<-hl]at hq
  obtain⟨t,_,rfl⟩:=List.mem_map.1 hq
  rfl
 ·rw[<-hh]at hq
  obtain⟨nm,hm,e⟩:=List.mem_filterMap.1 hq
  have KU:=List.all_eq_true.1 hn nm hm
  cases ho:cY none (h.map fun q=>(q.1,some q.2)) (cW a b nm)with
  |none=>rw[ho]at e;cases e
  |some o=>
   rw[ho]at e
   cases e
   show (if own p nm=true then Option.map _ (if own p (cW a b nm)=true then cY none (h.map fun q=>(q.1,some q.2)) (cW a b nm)else H (cW a b nm))else _)=_
   rw[if_pos KU,if_pos (y9 nm KU),ho]
   rfl
 ·rw[Bool.and_eq_true]at hc;exact hc.1
 ·rw[Bool.and_eq_true]at hc;exact hc.2
 ·exact abO gG h'
def Spec.ite(c:Name->List D->Bool)(s1 s2:Spec):Spec where
 app obj t ds:=if c t ds=true then s1.app obj t ds else s2.app obj t ds
 foot obj t ds:=if c t ds=true then s1.foot obj t ds else s2.foot obj t ds
 wrt obj t ds:=if c t ds=true then s1.wrt obj t ds else s2.wrt obj t ds
theorem Spec.ite_near{c:Name->List D->Bool}{s1 s2:Spec}(h1:s1.Near)(h2:s2.Near):(Spec.ite c s1 s2).Near:=by
 refine⟨fun obj obj2 t ds h=>?_,fun obj obj2 t ds h=>?_,fun obj t ds nm hn=>?_,fun obj obj2 t ds h=>?_⟩<;>simp only[Spec.ite]at *
 ·split
  ·rename_i hc;simp only[hc,if_true]at h;exact h1.like _ _ _ _ h
  ·rename_i hc;simp only[hc,if_false,Bool.false_eq_true]at h;exact h2.like _ _ _ _ h
 ·split
  ·rename_i hc;simp only[hc,if_true]at h;exact h1.foot _ _ _ _ h
  ·rename_i hc;simp only[hc,if_false,Bool.false_eq_true]at h;exact h2.foot _ _ _ _ h
 ·by_cases hc:c t ds=true
  ·rw[if_pos hc]at hn |-;exact h1.sub _ _ _ _ hn
  ·rw[if_neg hc]at hn |-;exact h2.sub _ _ _ _ hn
 ·split
  ·rename_i hc;simp only[hc,if_true]at h;exact h1.wrt _ _ _ _ h
  ·rename_i hc;simp only[hc,if_false,Bool.false_eq_true]at h;exact h2.wrt _ _ _ _ h
theorem al.ite{P:Program}{f:FuncId}{s1 s2:Spec}(c:Name->List D->Bool)(h1:al P f s1)(h2:al P f s2)(ar:f≠yid):al P f (Spec.ite c s1 s2):=by
 refine⟨Spec.ite_near h1.near h2.near,h1.enter,fun hf G φ m σ a w hC t ds us ht hl hr aa=>?_,fun e=>(ar e).elim⟩
 simp only[Spec.ite]at aa |-
 split
 ·rename_i hc
  rw[if_pos hc]at aa
  exact h1.calls hf G φ m σ a w hC t ds us ht hl hr aa
 ·rename_i hc
  rw[if_neg hc]at aa
  exact h2.calls hf G φ m σ a w hC t ds us ht hl hr aa
def uJ(s:Stk)(j z:Nat):List V:=if j<z then(s.un.get j).map encPa else[]
def eD(nm:Name)(s:Stk)(j z:Nat):List D:=(iJ s z).set (1+j) (.msl nm (uJ s j z).length)
theorem Aj{dom:Name->Bool}{nm:Name}{n:Nat}:∀ {cs:List D} {i:Nat},D.closL dom cs=true->D.closL dom (cs.set i (.msl nm n))=(dom nm||decide (cs.length<=i))
 |[],i,_=>by simp[D.closL]
 |d::r,0,h=>by
  simp only[D.closL,Bool.and_eq_true]at h
  simp[D.closL,D.clos,h.2]
 |d::r,i+1,h=>by
  simp only[D.closL,Bool.and_eq_true]at h
  simp only[List.set_cons_succ,D.closL,h.1,Bool.true_and,Aj h.2,List.length_cons,Nat.add_le_add_iff_right]
@[go_sem] theorem agq(dom:Name->Bool)(nm:Name)(s:Stk)(j z:Nat):D.closL dom (eD nm s j z)=(dom nm||decide (19<=1+j)):=Aj (aaq dom s z)
@[go_sem] theorem wV(nm:Name)(s:Stk)(j z:Nat):(eD nm s j z).length=19:=by
  unfold eD;rw[List.length_set];rfl
@[go_sem] theorem ags(nm:Name)(s:Stk)(j z:Nat):(eD nm s j z).take 19=eD nm s j z:=List.take_of_length_le (by rw[wV];exact Nat.le_refl _)
@[go_sem] theorem agp(nm:Name)(s:Stk)(j z:Nat):(eD nm s j z).drop 19=[]:=List.drop_of_length_le (by rw[wV];exact Nat.le_refl _)
theorem abn{a:D}{r:List D}{j:Nat}(h:j<6):(a:: .nilsl:: .nilsl:: .nilsl:: .nilsl:: .nilsl:: .nilsl::r)[1+j]?=some .nilsl:=by
 match j,h with
 | 0,_=>rfl
 | 1,_=>rfl
 | 2,_=>rfl
 | 3,_=>rfl
 | 4,_=>rfl
 | 5,_=>rfl
theorem Nk(nm:Name)(s:Stk){i j:Nat}(hi:i<6)(hj:j<6)(h:i≠j):List.take (1+i) (eD nm s j i)++[D.v (.sl ((s.un.get i).map encPa))]++List.drop (1+i+1) (eD nm s j i)=eD nm s j (i+1):=by
 match i,hi with
 | 0,_=>match j,hj with
   | 0,_=>exact absurd rfl h
   | 1,_=>rfl
   | 2,_=>rfl
   | 3,_=>rfl
   | 4,_=>rfl
   | 5,_=>rfl
 | 1,_=>match j,hj with
   | 0,_=>rfl
   | 1,_=>exact absurd rfl h
   | 2,_=>rfl
   | 3,_=>rfl
   | 4,_=>rfl
   | 5,_=>rfl
 | 2,_=>match j,hj with
   | 0,_=>rfl
   | 1,_=>rfl
   | 2,_=>exact absurd rfl h
   | 3,_=>rfl
   | 4,_=>rfl
   | 5,_=>rfl
 | 3,_=>match j,hj with
   | 0,_=>rfl
   | 1,_=>rfl
   | 2,_=>rfl
   | 3,_=>exact absurd rfl h
   | 4,_=>rfl
   | 5,_=>rfl
 | 4,_=>match j,hj with
   | 0,_=>rfl
   | 1,_=>rfl
   | 2,_=>rfl
   | 3,_=>rfl
   | 4,_=>exact absurd rfl h
   | 5,_=>rfl
 | 5,_=>match j,hj with
   | 0,_=>rfl
   | 1,_=>rfl
   | 2,_=>rfl
   | 3,_=>rfl
   | 4,_=>rfl
   | 5,_=>exact absurd rfl h
theorem xx(s:Stk){i j:Nat}(h:i≠j):uJ s j i=uJ s j (i+1):=by
 unfold uJ
 by_cases h1:j<i
 ·rw[if_pos h1,if_pos (by omega)]
 ·rw[if_neg h1,if_neg (by omega)]
theorem GB(s:Stk)(j:Nat):uJ s j (j+1)=(s.un.get j).map encPa:=if_pos (Nat.lt_succ_self j)
theorem aar(s:Stk){j:Nat}(hj:j<6):D.renL (cW [24,0] [99,0]) (List.take (1+j) (eD [99,0] s j j)++[D.msl [24,0] (s.un.get j).length]++List.drop (1+j+1) (eD [99,0] s j j))=eD [99,0] s j (j+1):=by
 match j,hj with
 | 0,_=>simp[eD,iJ,qf,uJ,D.renL,D.ren,cW,bj.get]
 | 1,_=>simp[eD,iJ,qf,uJ,D.renL,D.ren,cW,bj.get]
 | 2,_=>simp[eD,iJ,qf,uJ,D.renL,D.ren,cW,bj.get]
 | 3,_=>simp[eD,iJ,qf,uJ,D.renL,D.ren,cW,bj.get]
 | 4,_=>simp[eD,iJ,qf,uJ,D.renL,D.ren,cW,bj.get]
 | 5,_=>simp[eD,iJ,qf,uJ,D.renL,D.ren,cW,bj.get]
theorem Nl(s:Stk)(j:Nat):List.set [D.v (V.sl (List.map vInt s.ho)),D.nilsl,D.nilsl,D.nilsl,D.nilsl,D.nilsl,D.nilsl,D.v (vInt s.se.a),D.v (vInt s.se.b),D.v (vInt s.se.c),D.v (vInt s.se.d),D.v (vInt s.se.e),D.v (vInt s.se.f),D.v (vInt s.ta.a),D.v (vInt s.ta.b),D.v (vInt s.ta.c),D.v (vInt s.ta.d),D.v (vInt s.ta.e),D.v (vInt s.ta.f)] (1+j) (D.msl [99,0] 0)=eD [99,0] s j 0:=rfl
@[go_sem] theorem Nt(dom:Name->Bool)(l:List V)(i:Nat)(nm:Name)(n:Nat):D.closL dom ((List.map D.v l).set i (.msl nm n))=(dom nm||decide (l.length<=i)):=by
  rw[Aj (qh dom l),List.length_map]
@[go_sem] theorem mW(l:List V)(i:Nat)(d:D):((List.map D.v l).set i d).length=l.length:=by simp
@[go_sem] theorem ae0(s:Stk)(i:Nat)(d:D):List.take 19 ((List.map D.v (aB s)).set i d)=(List.map D.v (aB s)).set i d:=List.take_of_length_le (by rw[mW];exact Nat.le_refl _)
@[go_sem] theorem MY(s:Dk)(i:Nat)(d:D):List.take 63 ((List.map D.v (ak s)).set i d)=(List.map D.v (ak s)).set i d:=List.take_of_length_le (by rw[mW];exact Nat.le_refl _)
theorem xy(s:Stk){j:Nat}(hj:j<6):uJ s j 6=(s.un.get j).map encPa:=if_pos hj
theorem qg{dom:Name->Bool}{cs:List D}:D.closL dom cs=true↔∀ d∈cs,D.clos dom d=true:=by
 induction cs with
 |nil=>simp[D.closL]
 |cons d r ih=>simp[D.closL,ih]
@[go_sem] theorem agt{dom:Name->Bool}{cs:List D}(n:Nat)(h:D.closL dom cs=true):D.closL dom (cs.take n)=true:=qg.2 fun d hd=>qg.1 h d (List.mem_of_mem_take hd)
@[go_sem] theorem agv{dom:Name->Bool}{cs:List D}(n:Nat)(h:D.closL dom cs=true):D.closL dom (cs.drop n)=true:=qg.2 fun d hd=>qg.1 h d (List.mem_of_mem_drop hd)
theorem aas(nm:Name)(s:Stk){j:Nat}(hj:j<6):eD nm s j 6=(List.map D.v (aB s)).set (1+j) (.msl nm (s.un.get j).length):=by
 unfold eD
 rw[Nj,uJ,if_pos hj,List.length_map]
theorem Gw{σ τ:S}(p:Prop)[Decidable p](h1:p->dN σ τ)(h2:¬ p->dN σ τ):dN σ τ:=by
 by_cases h:p
 ·exact h1 h
 ·exact h2 h
noncomputable def AX(j:Nat):NSpec:=n1 fb (fun s=>gM s) (fun s=>[([99,0],.arr 2 ((s.un.get j).map encPa))]) (fun s=>.agg ((List.map D.v (aB s)).set (1+j) (.msl [99,0] (s.un.get j).length)))
noncomputable def F6(j:Nat):Spec:=(AX j).toSpec
attribute [go_sem] AX F6
set_option maxHeartbeats 4000000 in
theorem V3(j:Nat)(hj:j<6):al Tryz.prog 62 (F6 j):=by
 refine yn (nt:=28) (rs:=[.cell 2 27]) Tryz.func62 rfl (by rfl) (by kernel_rfl) (by kernel_rfl) (by decide) ?_
 intro xs hp
 obtain⟨s,rfl,hp,gC,eh⟩:=yu hp
 replace gC:(AX j).new _=_:=gC
 replace eh:(AX j).d _=_:=eh
 rw[gC,eh]
 clear gC eh
 refine⟨lb rfl,?_⟩
 have hP:=ba
 simp only[iI,iB,dY,iI,iB,pD,dY,rp,jv,fb,l7,bu,jw,vE,iC,iF,encPa,kg,sp,eK,fD,List.map_cons,List.map_nil,eL,Nat.zero_add]
 have hΓ:=@jY Tryz.prog
 have bf:gM s:=hp
 have y7:=bf.1
 repeat refine sq ?_
 refine rx hΓ [1,2] [[1,0],[2,0],[8,0],[24,0],[99,0]] (fun K' hK=>by simp only[go_sem];(repeat (refine⟨ah,?_⟩));exact hK _ (by simp only[go_sem]) (by simp only[go_sem]<;>rfl)) ?_
 refine aE (bz [1,0] (aB s) rfl [1,2] [[1,0],[2,0],[8,0],[24,0],[99,0]] ?_ rfl) ?_
 ·simp only[go_sem]
 simp only[go_sem]
 repeat refine sq ?_
 refine dx hΓ hP [[],[],[1],[0,1,2],[],[4],[],[6],[0,1,2,3,4,5,6,7],[],[0,1,2,3,4,5,6,7,8,9]] [1,2,3] [[1,0],[2,0],[3,0],[8,0],[24,0],[99,0]] (by kernel_rfl) (fun K' hK=>by simp only[go_sem,bj.L,id_eq];(repeat (refine⟨ah,?_⟩));(first | refine⟨by rfl,?_⟩ | skip);exact hK _ (by simp only[go_sem]) (by simp only[go_sem]<;>rfl)) ?_
 refine aE (ed [3,0] [8,0] 0 _ _ _ _ rfl rfl rfl (by first | rfl | (simp only[List.length_map];done)) [1,2,3] [[1,0],[2,0],[3,0]] ?_ rfl) ?_
 ·simp only[go_sem,List.set_cons_succ,List.set_cons_zero]
 simp only[go_sem,List.set_cons_succ,List.set_cons_zero]
 refine aE (A7 [3,0] [99,0] (1+j) 2 _ rfl (abn hj) rfl [1,2,3] [[1,0],[2,0],[3,0],[99,0]] ?_ rfl) ?_
 ·simp only[go_sem,Nl]
 simp only[go_sem,Nl]
 repeat refine sq ?_
 refine rx hΓ [1,2,3,4] [[1,0],[2,0],[3,0],[8,0],[24,0],[99,0]] (fun K' hK=>by simp only[go_sem];(repeat (refine⟨ah,?_⟩));exact hK _ (by simp only[go_sem]) (by simp only[go_sem]<;>rfl)) ?_
 repeat refine sq ?_
 refine aO ?_
 repeat refine sq ?_
 refine cv (fun z:Nat=>[(4,⟨true,.v (vInt z)⟩)]) (fun z=>[([3,0],.box (eD [99,0] s j z)),([99,0],.arr 2 (uJ s j z))]) (fun z=>z<=6) (fun z=>6-z) 0 ?_ ?_ ?_ ?_
 ·exact Nat.zero_le _
 ·rfl
 ·rfl
 rintro i hi
 simp only[go_sem]
 repeat refine sq ?_
 refine rx hΓ [1,2,3,4,15] [[1,0],[2,0],[3,0],[8,0],[24,0],[99,0]] (fun K' hK=>by simp only[go_sem];(repeat (refine⟨ah,?_⟩));exact hK _ (by simp only[go_sem]) (by simp only[go_sem]<;>rfl)) ?_
 repeat refine sq ?_
 refine au rfl rfl (fun hb=>?_) (fun hb=>?_)
 ·have ae:i<6:=by have hq:(i:Int)<6:=(by simpa using hb);omega
  have ai:(i:Int)<6:=by omega
  clear hb
  have fP:=bf.2 i ae
  repeat refine sq ?_
  refine av ?_
  repeat refine sq ?_
  refine aO ?_
  repeat refine sq ?_
  refine aL hΓ fun K' hK=>?_
  simp only[go_sem,Int.toNat_natCast,Int.natCast_nonneg,ai,cN s ae,Int.toNat_natCast,Int.natCast_nonneg,ai]
  repeat (refine⟨ah,?_⟩)
  refine hK _ ?_
  clear K' hK
  refine aE (gL [1,2,3,4] [[1,0],[2,0],[3,0],[24,0],[99,0]] ?_ rfl) ?_
  ·simp only[go_sem]
  simp only[go_sem]
  refine aE (σ':=aU 28 [0] (fun _=>none) [(1,⟨true,.ref [1,0] 0⟩),(2,⟨true,.ref [2,0] 0⟩),(3,⟨true,.ref [3,0] 0⟩),(4,⟨true,.v (vInt i)⟩)] ([([1,0],.fbox (aB s))]++[([2,0],.box [.nilsl,.nilsl,.nilsl,.nilsl,.nilsl,.nilsl,.nilsl,.v (.int .i64 0),.v (.int .i64 0),.v (.int .i64 0),.v (.int .i64 0),.v (.int .i64 0),.v (.int .i64 0),.v (.int .i64 0),.v (.int .i64 0),.v (.int .i64 0),.v (.int .i64 0),.v (.int .i64 0),.v (.int .i64 0)]),([3,0],.box (eD [99,0] s j (i+1))),([99,0],.arr 2 (uJ s j (i+1)))])) (Gw (i=j) (fun eI=>?_) (fun eI=>?_)) ?_
  ·subst eI
   refine Gv (p:=[0]) [24,0] [99,0] [1,2,3,4] [[1,0],[2,0],[3,0],[99,0]] rfl rfl ?_ ?_ ?_ ?_ ?_
   ·simp only[go_sem]
   ·simp only[go_sem]
   ·simp only[go_sem,E.ren,D.ren,cW]
   ·simp only[go_sem,O.ren,aar s ae,GB,cW]
   ·simp only[go_sem]
  ·refine ed [3,0] [24,0] (1+i) _ _ _ _ rfl (yw (by show 1+i<(eD _ s j i).length;rw[wV];omega)) rfl (by simp only[List.length_map]) [1,2,3,4] [[1,0],[2,0],[3,0],[99,0]] ?_ ?_
   ·simp only[go_sem,py (show 1+i<(eD [99,0] s j i).length by rw[wV];omega),Nk [99,0] s ae hj eI,<-xx s eI]
   ·simp only[go_sem,py (show 1+i<(eD [99,0] s j i).length by rw[wV];omega),Nk [99,0] s ae hj eI,<-xx s eI]
  simp only[go_sem]
  refine kp [1,2,3,4] [[1,0],[2,0],[3,0],[8,0],[24,0],[99,0]] ?_
  repeat refine sq ?_
  refine aL hΓ fun K' hK=>?_
  simp only[go_sem,Int.toNat_natCast,Int.natCast_nonneg,ai]
  repeat (refine⟨ah,?_⟩)
  refine hK _ ?_
  clear K' hK
  simp only[go_sem]
  refine⟨i+1,ae,by(show 6-(i+1)<6-i;omega),?_⟩
  refine bk [1,2,3,4] [[1,0],[2,0],[3,0],[8,0],[24,0],[99,0]] ?_ ?_
  ·simp only[go_sem,aD ae (lb rfl:(6:Nat)<=maxLen),Int.natCast_add,Int.natCast_one]
  ·simp only[go_sem,aD ae (lb rfl:(6:Nat)<=maxLen),Int.natCast_add,Int.natCast_one]
 ·have aW:i=6:=by
   have :¬ (i:Int)<6:=by simpa using hb
   omega
  clear hb
  subst aW
  repeat refine sq ?_
  refine b7 ?_
  simp only[go_sem]
  refine kp [2,3] [[2,0],[3,0],[8,0],[24,0],[99,0]] ?_
  repeat refine sq ?_
  refine rx hΓ [2] [[2,0],[8,0],[24,0],[99,0]] (fun K' hK=>by simp only[go_sem,aas [99,0] s hj,xy s hj];(repeat (refine⟨ah,?_⟩));exact hK _ (by simp only[go_sem]) (by simp only[go_sem]<;>rfl)) ?_
  refine an ?_
  simp only[go_sem]
  trace_state
def ym:D->D
 | .nilsl=>.v (.sl [])
 |d=>d
theorem PS{σ:S}(b:Name)(cs:List D)(hb:σ.obj b=some (.box cs)):dN σ ⟨σ.nt,σ.env,upd σ.obj b (some (.box (cs.map ym))),σ.pre,σ.base⟩:=by
 intro G φ m a w hC
 obtain⟨h1,h2,h3,us,T,f,h4,h5,h6,h7⟩:=hC.objs b _ hb
 have jx:=Ext.same (φ:=φ) (o':=.box (cs.map ym)) hb rfl rfl
 have rz:=jx
 rw[ep]at rz
 refine⟨_,m,hC.chg (w':=w) b (.box (cs.map ym)) _ jx ⟨rfl,rfl,rfl,Nat.le_refl _⟩ (fun _ _ _=>rfl) (fun _=>.inr ⟨⟨_,hb,rfl,h2⟩,rfl⟩) ?_⟩
 rw[ep]
 refine⟨h1,h2,fun d hd=>?_,us,T,f,h4,h5,by rw[List.length_map];exact h6,fun j hj eA=>?_⟩
 ·obtain⟨x,hx,rfl⟩:=List.mem_map.1 hd
  have :=h3 x hx
  cases x<;>first | exact this | rfl
 ·have zt:j<cs.length:=by simpa using hj
  simp only[List.getElem_map]
  have :=(h7 j zt eA).ext (Mem.le_refl m) rz
  generalize cs[j]=d at this
  cases d with
  |nilsl=>
   generalize us[j]=u at this
   cases this with
   |nilsl a=>exact .v _ _ (.slnil a 0)
  |_=>exact this
theorem PR{σ τ:S}(b:Name)(cs ki:List D)(hb:σ.obj b=some (.box cs))(hl:cs.map ym=ki)(ks:List Nat)(ns:List Name)
 (h:fE ks ns ⟨σ.nt,σ.env,upd σ.obj b (some (.box ki)),σ.pre,σ.base⟩) (hk:fN ks ns ⟨σ.nt,σ.env,upd σ.obj b (some (.box ki)),σ.pre,σ.base⟩=τ):dN σ τ:=by
 subst hl
 exact(PS b cs hb).trans (gL ks ns h hk)
theorem PI{σ:S}(nm:Name)(sz:Nat)(hn:σ.obj nm=none):dq σ ⟨σ.nt,σ.env,upd σ.obj nm (some (.arr sz [])),σ.pre,σ.base⟩:=by
 intro G φ m a w hC
 have hx:=Ext.new (φ:=φ) hn ⟨0,0,0,true,none⟩ (.arr sz [])
 exact⟨_,hC.chg (w':=w) nm (.arr sz []) ⟨0,0,0,true,none⟩ hx ⟨rfl,rfl,rfl,Nat.le_refl _⟩ (fun _ _ _=>rfl) (fun h=>by cases h) (.inl ⟨rfl,rfl⟩)⟩
theorem PM{σ τ:S}(nm:Name)(sz:Nat)(hn:σ.obj nm=none)(ks:List Nat)(ns:List Name)
 (h:fE ks ns ⟨σ.nt,σ.env,upd σ.obj nm (some (.arr sz [])),σ.pre,σ.base⟩) (hk:fN ks ns ⟨σ.nt,σ.env,upd σ.obj nm (some (.arr sz [])),σ.pre,σ.base⟩=τ):dN σ τ:=
 (PI nm sz hn).toM.trans (gL ks ns h hk)
theorem BE(f:Name->Name)(l:List V)(i:Nat)(nm:Name)(n:Nat):D.renL f ((List.map D.v l).set i (.msl nm n))=(List.map D.v l).set i (.msl (f nm) n):=by
 rw[gP,List.map_set,List.map_map]
 rfl
attribute [go_sem] BE
theorem aa6(s:Stk)(i:Nat)(x:D)(X:List D):List.take 61 ((List.map D.v (aB s)).set i x++X)=(List.map D.v (aB s)).set i x++List.take 42 X:=by
 rw[List.take_append,mW,List.take_of_length_le (by rw[mW];exact lb rfl)]
 rfl
theorem aa5(s:Stk)(i:Nat)(x:D)(X:List D):List.drop 62 ((List.map D.v (aB s)).set i x++X)=List.drop 43 X:=by
 rw[List.drop_append,mW,List.drop_of_length_le (by rw[mW];exact lb rfl),List.nil_append]
 rfl
noncomputable def F7(j:Nat):Spec:=Spec.ite (fun t _=>decide (t.headD 0=9)) (F6 j) S62
attribute [go_sem] F7 Spec.ite List.headD_cons decide_true decide_false
theorem V4{j:Nat}(hj:j<6):al Tryz.prog 62 (F7 j):=(V3 j hj).ite _ tM (by decide)
noncomputable def OZ(j:Nat):List (Nat×Spec):=[(62,F7 j)]
attribute [go_sem] OZ
theorem ab9{j:Nat}(hj:j<6):∀ f s,tbl (OZ j) f=some s->al Tryz.prog f s:=tc (V4 hj)<|tn
def jK(nm:Name)(d:Dk)(j:Nat):List D:=(List.map D.v (ak d)).set (2+j) (.msl nm (d.now.un.get j).length)
@[go_sem] theorem agc(dom:Name->Bool)(nm:Name)(d:Dk)(j:Nat):D.closL dom (jK nm d j)=(dom nm||decide (63<=2+j)):=Nt dom (ak d) _ nm _
@[go_sem] theorem Z8(nm:Name)(d:Dk)(j:Nat):(jK nm d j).length=63:=mW _ _ _
@[go_sem] theorem agd(nm:Name)(d:Dk)(j:Nat):(jK nm d j).take 63=jK nm d j:=MY d _ _
@[go_sem] theorem agb(nm:Name)(d:Dk)(j:Nat):(jK nm d j).drop 63=[]:=List.drop_of_length_le (by rw[Z8];exact Nat.le_refl _)
theorem M0(nm:Name)(d:Dk){i j:Nat}(h:i<2)(hj:j<6):List.take (20+i*21) (jK nm (mv d i) j)++List.map D.v (cB ⟨(d.pg i).co,(d.pg i).st,(d.pg i).su⟩)++List.drop (20+i*21+21) (jK nm (mv d i) j)=jK nm (mv d (i+1)) j:=by
 match i,h with
 | 0,_=>match j,hj with
   | 0,_=>rfl
   | 1,_=>rfl
   | 2,_=>rfl
   | 3,_=>rfl
   | 4,_=>rfl
   | 5,_=>rfl
 | 1,_=>match j,hj with
   | 0,_=>rfl
   | 1,_=>rfl
   | 2,_=>rfl
   | 3,_=>rfl
   | 4,_=>rfl
   | 5,_=>rfl
noncomputable def AY(j:Nat):NSpec:=n1 bu (fun d=>b8 d) (fun d=>[([99,0,9,0],.arr 2 ((d.now.un.get j).map encPa))]) (fun d=>.agg (jK [99,0,9,0] d j))
noncomputable def F9(j:Nat):Spec:=(AY j).toSpec
attribute [go_sem] AY F9
set_option maxHeartbeats 4000000 in
theorem V8(j:Nat)(hj:j<6):al Tryz.prog 57 (F9 j):=by
 refine yn (nt:=38) (rs:=[.cell 2 32]) Tryz.func57 rfl (by rfl) (by kernel_rfl) (by kernel_rfl) (by decide) ?_
 intro xs hp
 obtain⟨d,rfl,hp,gC,eh⟩:=yu hp
 replace gC:(AY j).new _=_:=gC
 replace eh:(AY j).d _=_:=eh
 rw[gC,eh]
 clear gC eh
 refine⟨lb rfl,?_⟩
 have hP:=ba
 simp only[iI,iB,dY,iI,iB,pD,dY,rp,jv,fb,l7,bu,jw,vE,iC,iF,encPa,kg,sp,eK,fD,List.map_cons,List.map_nil,eL,Nat.zero_add]
 have hΓ:=ab9 hj
 have hs:b8 d:=hp
 have jB:=hs.now
 repeat refine sq ?_
 refine rx hΓ [1,2] [[1,0],[2,0],[99,0,9,0]] (fun K' hK=>by simp only[go_sem];(repeat (refine⟨ah,?_⟩));exact hK _ (by simp only[go_sem]) (by simp only[go_sem]<;>rfl)) ?_
 refine aE (ft [2,0] _ (ak zD) rfl rfl [1,2] [[1,0],[2,0],[99,0,9,0]] ?_ rfl) ?_
 ·simp only[go_sem]
 simp only[go_sem]
 refine aE (bz [1,0] (ak d) rfl [1,2] [[1,0],[2,0],[99,0,9,0]] ?_ rfl) ?_
 ·simp only[go_sem]
 simp only[go_sem]
 repeat refine sq ?_
 refine dx hΓ hP [[],[0],[],[2],[2,3],[],[5],[0,1,2,3,4,5,6],[],[0,1,2,3,4,5,6,7,8]] [1,2,3] [[1,0],[2,0],[3,0],[99,0,9,0]] (by kernel_rfl) (fun K' hK=>by simp only[go_sem,jB,List.append_nil,List.length_append,List.length_cons,List.length_nil,Nat.reduceAdd,Nat.reduceLeDiff,aa6,aa5];(repeat (refine⟨ah,?_⟩));(first | refine⟨by rfl,?_⟩ | skip);exact hK _ (by simp only[go_sem]) (by simp only[go_sem]<;>rfl)) ?_
 refine aE (PR [3,0] _ (jK [99,0,9,0] (mv d 0) j) rfl (by rcases(show j=0\/j=1\/j=2\/j=3\/j=4\/j=5 by omega)with e | e | e | e | e | e<;>subst e<;>rfl) [1,2,3] [[1,0],[2,0],[3,0],[99,0,9,0]] ?_ rfl) ?_
 ·simp only[go_sem]
 simp only[go_sem]
 repeat refine sq ?_
 refine rx hΓ [1,2,3,4] [[1,0],[2,0],[3,0],[99,0,9,0]] (fun K' hK=>by simp only[go_sem];(repeat (refine⟨ah,?_⟩));exact hK _ (by simp only[go_sem]) (by simp only[go_sem]<;>rfl)) ?_
 repeat refine sq ?_
 refine aO ?_
 repeat refine sq ?_
 refine cv (fun z:Nat=>[(4,⟨true,.v (vInt z)⟩)]) (fun z=>[([3,0],.box (jK [99,0,9,0] (mv d z) j))]) (fun z=>z<=2) (fun z=>2-z) 0 ?_ ?_ ?_ ?_
 ·exact Nat.zero_le _
 ·rfl
 ·rfl
 rintro i hi
 simp only[go_sem]
 repeat refine sq ?_
 refine rx hΓ [1,2,3,4,14] [[1,0],[2,0],[3,0],[99,0,9,0]] (fun K' hK=>by simp only[go_sem];(repeat (refine⟨ah,?_⟩));exact hK _ (by simp only[go_sem]) (by simp only[go_sem]<;>rfl)) ?_
 repeat refine sq ?_
 refine au rfl rfl (fun hb=>?_) (fun hb=>?_)
 ·have ae:i<2:=by have hq:(i:Int)<2:=(by simpa using hb);omega
  have ai:(i:Int)<2:=by omega
  clear hb
  have jA:=hs.pg i ae
  repeat refine sq ?_
  refine av ?_
  repeat refine sq ?_
  refine aO ?_
  repeat refine sq ?_
  refine km hΓ hP [[],[],[],[1,2],[1,2,3],[1,2,3,4],[],[],[6,7],[6,7,8],[6,7,8,9],[6,7,8,9,10],[],[],[12,13],[12,13,14],[12,13,14,15],[1,2,3,4,5,6,7,8,9,10,11,12,13,14,15,16],[],[0,1,2,3,4,5,6,7,8,9,10,11,12,13,14,15,16,17,18],[0,1,2,3,4,5,6,7,8,9,10,11,12,13,14,15,16,17,18,19]] (by kernel_rfl) fun K' hK=>?_
  simp only[go_sem,Int.toNat_natCast,Int.natCast_nonneg,ai,Nat.add_zero,jA,ek d ae,wP d ae,ss d ae,Int.toNat_natCast,Int.natCast_nonneg,ai,List.append_nil]
  repeat (refine⟨ah,?_⟩)
  first | refine⟨by rfl,?_⟩ | skip
  refine hK _ ?_
  clear K' hK
  simp only[go_sem]
  refine kp [1,2,3,4] [[1,0],[2,0],[3,0],[99,0,9,0]] ?_
  repeat refine sq ?_
  refine aL hΓ fun K' hK=>?_
  simp only[go_sem,Int.toNat_natCast,Int.natCast_nonneg,ai]
  repeat (refine⟨ah,?_⟩)
  refine hK _ ?_
  clear K' hK
  simp only[go_sem]
  refine⟨i+1,ae,by(show 2-(i+1)<2-i;omega),?_⟩
  refine bk [1,2,3,4] [[1,0],[2,0],[3,0],[99,0,9,0]] ?_ ?_
  ·simp only[go_sem,aD ae (lb rfl:(2:Nat)<=maxLen),Int.natCast_add,Int.natCast_one,M0 [99,0,9,0] d ae hj]
  ·simp only[go_sem,aD ae (lb rfl:(2:Nat)<=maxLen),Int.natCast_add,Int.natCast_one,M0 [99,0,9,0] d ae hj]
 ·have aW:i=2:=by
   have :¬ (i:Int)<2:=by simpa using hb
   omega
  clear hb
  subst aW
  repeat refine sq ?_
  refine b7 ?_
  simp only[go_sem]
  refine kp [2,3] [[2,0],[3,0],[99,0,9,0]] ?_
  repeat refine sq ?_
  refine rx hΓ [2] [[2,0],[99,0,9,0]] (fun K' hK=>by simp only[go_sem,MX,List.append_nil];(repeat (refine⟨ah,?_⟩));exact hK _ (by simp only[go_sem]) (by simp only[go_sem]<;>rfl)) ?_
  refine an ?_
  simp only[go_sem]
  skip
def fm(l:List Int)(p:Int)(z:Nat):List Int:=(l.take z).filter fun x=>x != p
def xM(s:Stk)(p:Int)(j:Nat):Stk:=⟨fm s.ho p s.ho.length,s.un.set j (s.un.get j++[⟨s.se.get j+1,p⟩]),s.se.set j (s.se.get j+1),s.ta⟩
def kG(d:Dk)(t:Int):Bool:=(((d.now.un.get t.toNat).length:Int)==40)||(d.now.se.get t.toNat==99999)
def lg(d:Dk)(p:Int):Bool:=decide ((fm d.now.ho p d.now.ho.length).length=d.now.ho.length)
def eF(d:Dk)(p t:Int):Int:=if aF d=true then(if aY p 1 999=true then(if et d t=true then(if lg d p=true then 95 else if kG d t=true then 2 else 0)else 94)else 1)else 92
def iQ(d:Dk)(p t:Int):Dk:=if eF d p t=0 then d.setN (xM d.now p t.toNat)else zD
theorem Hb{d:Dk}{p t:Int}(h:aF d=false):iQ d p t=zD/\eF d p t=92:=by
 have :eF d p t=92:=if_neg (by rw[h];decide)
 exact⟨if_neg (by rw[this];decide),this⟩
theorem Hg{d:Dk}{p t:Int}(h:aF d=true)(h1:aY p 1 999=false):iQ d p t=zD/\eF d p t=1:=by
 have :eF d p t=1:=by unfold eF;rw[if_pos h,if_neg (by rw[h1];decide)]
 exact⟨if_neg (by rw[this];decide),this⟩
theorem G'{d:Dk}{p t:Int}(h:aF d=true)(h1:aY p 1 999=true)(h2:et d t=false):iQ d p t=zD/\eF d p t=94:=by
 have :eF d p t=94:=by unfold eF;rw[if_pos h,if_pos h1,if_neg (by rw[h2];decide)]
 exact⟨if_neg (by rw[this];decide),this⟩
theorem Hf{d:Dk}{p t:Int}(h:aF d=true)(h1:aY p 1 999=true)(h2:et d t=true)(h3:lg d p=true):iQ d p t=zD/\eF d p t=95:=by
 have :eF d p t=95:=by unfold eF;rw[if_pos h,if_pos h1,if_pos h2,if_pos h3]
 exact⟨if_neg (by rw[this];decide),this⟩
theorem Hd{d:Dk}{p t:Int}(h:aF d=true)(h1:aY p 1 999=true)(h2:et d t=true)(h3:lg d p=false)(h4:kG d t=true):iQ d p t=zD/\eF d p t=2:=by
 have :eF d p t=2:=by unfold eF;rw[if_pos h,if_pos h1,if_pos h2,if_neg (by rw[h3];decide),if_pos h4]
 exact⟨if_neg (by rw[this];decide),this⟩
theorem Ha{d:Dk}{p t:Int}(h:aF d=true)(h1:aY p 1 999=true)(h2:et d t=true)(h3:lg d p=false)(h4:kG d t=false):iQ d p t=d.setN (xM d.now p t.toNat)/\eF d p t=0:=by
 have :eF d p t=0:=by unfold eF;rw[if_pos h,if_pos h1,if_pos h2,if_neg (by rw[h3];decide),if_neg (by rw[h4];decide)]
 exact⟨if_pos this,this⟩
theorem Mw{l:List Int}{p:Int}{z:Nat}(h:z<l.length):fm l p (z+1)=if (l[z] != p)=true then fm l p z++[l[z]]else fm l p z:=by
 unfold fm
 rw[List.take_add_one,List.getElem?_eq_getElem h,List.filter_append]
 show _++List.filter _ [l[z]]=_
 by_cases hp:(l[z] != p)=true
 ·rw[if_pos hp]
  have :List.filter (fun x=>x != p) [l[z]]=[l[z]]:=by simp[List.filter,hp]
  rw[this]
 ·rw[if_neg hp]
  have :List.filter (fun x=>x != p) [l[z]]=[]:=by simp[List.filter,hp]
  rw[this,List.append_nil]
theorem ZO{l:List Int}{p:Int}{z:Nat}(h:z<l.length)(hp:(l[z] != p)=true):fm l p (z+1)=fm l p z++[l[z]]:=by rw[Mw h,if_pos hp]
theorem ZP{l:List Int}{p:Int}{z:Nat}(h:z<l.length)(hp:(l[z] != p)=false):fm l p (z+1)=fm l p z:=by rw[Mw h,if_neg (by rw[hp];decide)]
theorem Mx(l:List Int)(p:Int)(z:Nat):(fm l p z).length<=l.length:=by
 unfold fm
 refine Nat.le_trans (List.length_filter_le _ _) ?_
 rw[List.length_take];omega
def bI(d:Dk)(j:Nat)(hd:D)(nm:Name)(n:Nat)(se:Int):List D:=(((List.map D.v (ak d)).set 1 hd).set (8+j) (.v (vInt se))).set (2+j) (.msl nm n)
theorem ix{P:Nat->Prop}(h0:P 0)(h1:P 1)(h2:P 2)(h3:P 3)(h4:P 4)(h5:P 5):∀ {j:Nat},j<6->P j
 | 0,_=>h0
 | 1,_=>h1
 | 2,_=>h2
 | 3,_=>h3
 | 4,_=>h4
 | 5,_=>h5
theorem aaU(d:Dk)(nm:Name){j:Nat}(hj:j<6):jK nm d j=bI d j (.v (fV d.now.ho)) nm (d.now.un.get j).length (d.now.se.get j):=
 ix (P:=fun j=>jK nm d j=bI d j (.v (fV d.now.ho)) nm (d.now.un.get j).length (d.now.se.get j)) rfl rfl rfl rfl rfl rfl hj
@[go_sem] theorem mE(d:Dk)(j:Nat)(hd:D)(nm:Name)(n:Nat)(se:Int):(bI d j hd nm n se).length=63:=by
  simp[bI,mw]
theorem sZ{α:Type}{C:List α}{i:Nat}{x:α}(h:i<C.length):List.take i C++[x]++List.drop (i+1) C=C.set i x:=by
 rw[List.append_assoc,List.set_eq_take_append_cons_drop,if_pos h];rfl
@[go_sem] theorem agx(d:Dk)(j:Nat)(hd gE:D)(nm:Name)(n:Nat)(se:Int):List.take 1 (bI d j hd nm n se)++[gE]++List.drop 2 (bI d j hd nm n se)=bI d j gE nm n se:=by
  rw[sZ (i:=1) (by rw[mE];omega)]
  unfold bI
  rw[List.set_comm (D.msl nm n) gE (show 2+j≠1 by omega),List.set_comm (D.v (vInt se)) gE (show 8+j≠1 by omega),List.set_set]
theorem NK(d:Dk){j:Nat}(hd:D)(nm:Name)(n:Nat)(se se':Int)(hj:j<6):List.take (8+j) (bI d j hd nm n se)++[.v (vInt se')]++List.drop (8+j+1) (bI d j hd nm n se)=bI d j hd nm n se':=by
 rw[sZ (by rw[mE];omega)]
 unfold bI
 rw[List.set_comm (D.msl nm n) (D.v (vInt se')) (show 2+j≠8+j by omega),List.set_set]
theorem FF(d:Dk){j:Nat}(hd:D)(nm:Name)(n n':Nat)(se:Int)(hj:j<6):List.take (2+j) (bI d j hd nm n se)++[.msl nm n']++List.drop (2+j+1) (bI d j hd nm n se)=bI d j hd nm n' se:=by
 rw[sZ (by rw[mE];omega)]
 unfold bI
 rw[List.set_set]
theorem Au(d:Dk)(j:Nat)(hd:D)(nm:Name)(n:Nat)(se:Int):(bI d j hd nm n se)[1]?=some hd:=by
 unfold bI
 rw[List.getElem?_set_ne (by omega),List.getElem?_set_ne (by omega),List.getElem?_set_self (by simp[mw])]
theorem aaS(d:Dk){j:Nat}(hd:D)(nm:Name)(n:Nat)(se:Int)(hj:j<6):(bI d j hd nm n se)[8+j]?=some (.v (vInt se)):=by
 unfold bI
 rw[List.getElem?_set_ne (by omega),List.getElem?_set_self (by simp[mw];omega)]
theorem As(d:Dk){j:Nat}(hd:D)(nm:Name)(n:Nat)(se:Int)(hj:j<6):(bI d j hd nm n se)[2+j]?=some (.msl nm n):=by
 unfold bI
 rw[List.getElem?_set_self (by simp[mw];omega)]
@[go_sem] theorem agy(d:Dk)(j:Nat)(hd:D)(nm:Name)(n:Nat)(se:Int):(bI d j hd nm n se).getD 1 .any=hd:=by rw[List.getD_eq_getElem?_getD,Au];rfl
theorem Aq(d:Dk){j:Nat}(hd:D)(nm:Name)(n:Nat)(se:Int)(hj:j<6):(bI d j hd nm n se).getD (8+j) .any=.v (vInt se):=by rw[List.getD_eq_getElem?_getD,aaS _ _ _ _ _ hj];rfl
theorem Ap(d:Dk){j:Nat}(hd:D)(nm:Name)(n:Nat)(se:Int)(hj:j<6):(bI d j hd nm n se).getD (2+j) .any=.msl nm n:=by rw[List.getD_eq_getElem?_getD,As _ _ _ _ _ hj];rfl
theorem Nu{dom:Name->Bool}{d:D}(hd:D.clos dom d=true):∀ {cs:List D} {i:Nat},D.closL dom cs=true->D.closL dom (cs.set i d)=true
 |[],i,_=>by simp[D.closL]
 |a::r,0,h=>by
  simp only[D.closL,Bool.and_eq_true]at h
  simp[D.closL,hd,h.2]
 |a::r,i+1,h=>by
  simp only[D.closL,Bool.and_eq_true]at h
  simp only[List.set_cons_succ,D.closL,h.1,Bool.true_and,Nu hd h.2]
theorem Fw{dom:Name->Bool}{cs:List D}:D.closL dom cs=true↔∀ (i:Nat) (d:D),cs[i]?=some d->D.clos dom d=true:=by
 rw[qg]
 constructor
 ·intro h i d hi
  obtain⟨hl,e⟩:=List.getElem?_eq_some_iff.1 hi
  exact h d (e▸List.getElem_mem hl)
 ·intro h d hd
  obtain⟨i,hi,rfl⟩:=List.getElem_of_mem hd
  exact h i _ (List.getElem?_eq_getElem hi)
@[go_sem] theorem NL(dom:Name->Bool)(d:Dk)(j:Nat)(hd:D)(nm:Name)(n:Nat)(se:Int):D.closL dom (bI d j hd nm n se)=(D.clos dom hd&&(dom nm||decide (63<=2+j))):=by
  rw[Bool.eq_iff_iff,Fw]
  simp only[Bool.and_eq_true,Bool.or_eq_true,decide_eq_true_eq]
  constructor
  ·intro h
   refine⟨h 1 hd (Au _ _ _ _ _ _),?_⟩
   by_cases hj:63<=2+j
   ·exact .inr hj
   ·refine .inl ?_
    have :=h (2+j) (.msl nm n) (by unfold bI;rw[List.getElem?_set_self (by simp[mw];omega)])
    simpa[D.clos]using this
  ·rintro⟨h1,h2⟩ i x hi
   have ae:=(List.getElem?_eq_some_iff.1 hi).1
   rw[mE]at ae
   unfold bI at hi
   by_cases e1:2+j=i
   ·subst e1
    rw[List.getElem?_set_self (by simp[mw];omega)]at hi
    cases hi
    simp only[D.clos]
    rcases h2 with h2 | h2
    ·exact h2
    ·omega
   ·rw[List.getElem?_set_ne e1]at hi
    by_cases e2:8+j=i
    ·subst e2
     rw[List.getElem?_set_self (by simp[mw];omega)]at hi
     cases hi
     rfl
    ·rw[List.getElem?_set_ne e2]at hi
     by_cases e3:1=i
     ·subst e3
      rw[List.getElem?_set_self (by simp[mw])]at hi
      cases hi
      exact h1
     ·rw[List.getElem?_set_ne e3,List.getElem?_map]at hi
      cases hq:(ak d)[i]? with
      |none=>rw[hq]at hi;cases hi
      |some y=>rw[hq]at hi;cases hi;rfl
@[go_sem] theorem aaT(d:Dk)(j:Nat)(hd:D)(nm:Name)(n:Nat)(se:Int):(bI d j hd nm n se).take 63=bI d j hd nm n se:=List.take_of_length_le (by rw[mE];exact Nat.le_refl _)
@[go_sem] theorem aaR(d:Dk)(j:Nat)(hd:D)(nm:Name)(n:Nat)(se:Int):(bI d j hd nm n se).drop 63=[]:=List.drop_of_length_le (by rw[mE];exact Nat.le_refl _)
theorem wY(d:Dk)(j:Nat)(hd gE:D)(nm:Name)(n:Nat)(se:Int):(bI d j hd nm n se).set 1 gE=bI d j gE nm n se:=by
 unfold bI
 rw[List.set_comm (D.msl nm n) gE (show 2+j≠1 by omega),List.set_comm (D.v (vInt se)) gE (show 8+j≠1 by omega),List.set_set]
theorem FG(d:Dk){j:Nat}(l:List Int)(nm:Name)(n:Nat)(se:Int)(ps:List Par)(hj:j<6):(bI d j (.v (fV l)) nm n se).set (2+j) (.v (.sl (ps.map encPa)))=List.map D.v (ak (d.setN ⟨l,d.now.un.set j ps,d.now.se.set j se,d.now.ta⟩)):=
 ix (P:=fun j=>(bI d j (.v (fV l)) nm n se).set (2+j) (.v (.sl (ps.map encPa)))=List.map D.v (ak (d.setN ⟨l,d.now.un.set j ps,d.now.se.set j se,d.now.ta⟩))) rfl rfl rfl rfl rfl rfl hj
@[go_sem] theorem aga(f:Name->Name)(nm:Name)(d:Dk)(j:Nat):D.renL f (jK nm d j)=jK (f nm) d j:=BE _ _ _ _ _
theorem wO(d:Dk){j:Nat}(h:j<6):(ak d).getD (2+j) default=rowP (d.now.un.get j):=Z7 d h
theorem MZ(d:Dk){j:Nat}(h:j<6):(ak d).getD (8+j) default=vInt (d.now.se.get j):=
 ix (P:=fun j=>(ak d).getD (8+j) default=vInt (d.now.se.get j)) rfl rfl rfl rfl rfl rfl h
theorem Ar(d:Dk){j:Nat}(l:List Int)(nm:Name)(n:Nat)(se:Int)(ps:List Par)(a b:Int)(hj:j<6):(bI d j (.v (fV l)) nm n se).set (2+j) (.v (.sl (ps.map encPa++[.agg [vInt a,vInt b]])))=List.map D.v (ak (d.setN ⟨l,d.now.un.set j (ps++[⟨a,b⟩]),d.now.se.set j se,d.now.ta⟩)):=by
 have h:=FG d l nm n se (ps++[(⟨a,b⟩:Par)]) hj
 rw[List.map_append]at h
 exact h
theorem HS(d:Dk)(t:Int):∃ j,j<6/\(et d t=true->t.toNat=j):=by
 by_cases h:t.toNat<6
 ·exact⟨t.toNat,h,fun _=>rfl⟩
 ·exact⟨0,by omega,fun hk=>absurd (xz hk).2.2 h⟩
noncomputable def OY(j:Nat):List (Nat×Spec):=[(39,S39),(55,S55),(56,S56),(57,F9 j)]
attribute [go_sem] OY
theorem ab8{j:Nat}(hj:j<6):∀ f s,tbl (OY j) f=some s->al Tryz.prog f s:=tc tN<|tc Kh<|tc Kg<|tc (V8 j hj)<|tn
noncomputable def P9:PSpec:=p3 bu iI iI (fun d _ _=>b8 d) (fun d p t=>.tup [eK (iQ d p t),vInt (eF d p t)]) false
noncomputable def S9:Spec:=P9.toSpec
attribute [go_sem] P9 S9
set_option maxHeartbeats 4000000 in
theorem s9:aQ Tryz.prog 9 P9:=by
 refine w3 (rs:=[.cell 6 32,.tmp 7]) Tryz.func9 Tryz.ntmps9 (by rfl) (by kernel_rfl) (by decide) (fun h=>by cases h) ⟨_,rfl,lb rfl,fun d p t hp hw=>?_⟩
 have hP:=ba
 simp only[bu,iI]at hw |-
 obtain⟨j,hj,oA⟩:=HS d t
 have hΓ:=ab8 hj
 have hs:b8 d:=hp
 repeat refine sq ?_
 refine rx hΓ [1,2,3,6] [[3,0],[6,0],[56,0],[108,0]] (fun K' hK=>by simp only[go_sem];(repeat (refine⟨ah,?_⟩));exact hK _ (by simp only[go_sem]) (by simp only[go_sem]<;>rfl)) ?_
 refine aE (ft [6,0] _ (ak zD) rfl rfl [1,2,3,6] [[3,0],[6,0],[56,0],[108,0]] ?_ rfl) ?_
 ·simp only[go_sem]
 simp only[go_sem]
 refine aE (bz [3,0] (ak d) rfl [1,2,3,6] [[3,0],[6,0],[56,0],[108,0]] ?_ rfl) ?_
 ·simp only[go_sem]
 simp only[go_sem]
 repeat refine sq ?_
 refine rx hΓ [1,2,3,6,13] [[3,0],[6,0],[56,0],[108,0]] (fun K' hK=>by simp only[go_sem];(repeat (refine⟨ah,?_⟩));exact hK _ (by simp only[go_sem]) (by simp only[go_sem]<;>rfl)) ?_
 repeat refine sq ?_
 refine au rfl rfl (fun hb=>?_) (fun hb=>?_)
 ·repeat refine sq ?_
  have hd:=kY hb
  have hq:=Hb (p:=p) (t:=t) hd
  repeat refine sq ?_
  refine rx hΓ [6,7] [[6,0],[56,0],[108,0]] (fun K' hK=>by simp only[go_sem];(repeat (refine⟨ah,?_⟩));exact hK _ (by simp only[go_sem]) (by simp only[go_sem]<;>rfl)) ?_
  refine an ?_
  simp only[go_sem]
  first | (rw[hq.1,hq.2];done) | (rw[hq.1,hq.2];rfl) | (rw[hq.1,hq.2,e1];done) | (rw[hq.1,hq.2,e1];rfl)
 ·repeat refine sq ?_
  have hd:=kX hb
  refine av ?_
  repeat refine sq ?_
  refine rx hΓ [1,2,3,6,17] [[3,0],[6,0],[56,0],[108,0]] (fun K' hK=>by simp only[go_sem];(repeat (refine⟨ah,?_⟩));exact hK _ (by simp only[go_sem]) (by simp only[go_sem]<;>rfl)) ?_
  repeat refine sq ?_
  refine au rfl rfl (fun hb=>?_) (fun hb=>?_)
  ·repeat refine sq ?_
   have h1:aY p 1 999=false:=by simpa using hb
   have hq:=Hg (t:=t) hd h1
   repeat refine sq ?_
   refine rx hΓ [6,7] [[6,0],[56,0],[108,0]] (fun K' hK=>by simp only[go_sem];(repeat (refine⟨ah,?_⟩));exact hK _ (by simp only[go_sem]) (by simp only[go_sem]<;>rfl)) ?_
   refine an ?_
   simp only[go_sem]
   first | (rw[hq.1,hq.2];done) | (rw[hq.1,hq.2];rfl) | (rw[hq.1,hq.2,e1];done) | (rw[hq.1,hq.2,e1];rfl)
  ·repeat refine sq ?_
   have h1:aY p 1 999=true:=by simpa using hb
   refine av ?_
   repeat refine sq ?_
   refine rx hΓ [1,2,3,6,8] [[3,0],[6,0],[56,0],[108,0]] (fun K' hK=>by simp only[go_sem];(repeat (refine⟨ah,?_⟩));exact hK _ (by simp only[go_sem]) (by simp only[go_sem]<;>rfl)) ?_
   repeat refine sq ?_
   refine rx hΓ [1,2,3,6,8,23] [[3,0],[6,0],[56,0],[108,0]] (fun K' hK=>by simp only[go_sem];(repeat (refine⟨ah,?_⟩));exact hK _ (by simp only[go_sem]) (by simp only[go_sem]<;>rfl)) ?_
   repeat refine sq ?_
   refine au rfl rfl (fun hb=>?_) (fun hb=>?_)
   ·repeat refine sq ?_
    have hn:=FX hb
    have h2:et d t=false:=by unfold sC at hn;rw[hd]at hn;simpa using hn
    have hq:=G' hd h1 h2
    have e1:=oU hd h2
    repeat refine sq ?_
    refine rx hΓ [6,7] [[6,0],[56,0],[108,0]] (fun K' hK=>by simp only[go_sem];(repeat (refine⟨ah,?_⟩));exact hK _ (by simp only[go_sem]) (by simp only[go_sem]<;>rfl)) ?_
    refine an ?_
    simp only[go_sem]
    first | (rw[hq.1,hq.2];done) | (rw[hq.1,hq.2];rfl) | (rw[hq.1,hq.2,e1];done) | (rw[hq.1,hq.2,e1];rfl)
   ·repeat refine sq ?_
    obtain⟨_,h2⟩:=FY hb
    obtain⟨l9,ou,_⟩:=xz h2
    have jF:=oA h2
    have aa:=qY hd
    have hol:=aa.hol
    have tV:=aa.unl j hj
    have iU:=aa.se j hj
    have hl:d.now.ho.length<=maxLen:=by unfold maxLen;omega
    have e0:=aaU d [99,0,9,0,27,0] hj
    refine av ?_
    repeat refine sq ?_
    refine rx hΓ [1,2,3,6,9] [[3,0],[6,0],[9,0],[56,0],[108,0],[99,0,9,0,27,0],[98,0]] (fun K' hK=>by simp only[go_sem,hs,e0];(repeat (refine⟨ah,?_⟩));exact hK _ (by simp only[go_sem]) (by simp only[go_sem]<;>rfl)) ?_
    repeat refine sq ?_
    refine rx hΓ [1,2,3,6,9] [[3,0],[6,0],[9,0],[56,0],[108,0],[99,0,9,0,27,0],[98,0]] (fun K' hK=>by simp only[go_sem];(repeat (refine⟨ah,?_⟩));exact hK _ (by simp only[go_sem]) (by simp only[go_sem]<;>rfl)) ?_
    refine aE (A7 [9,0] [98,0] 1 1 _ rfl (Au _ _ _ _ _ _) rfl [1,2,3,6,9] [[3,0],[6,0],[9,0],[99,0,9,0,27,0],[98,0]] ?_ rfl) ?_
    ·simp only[go_sem,wY]
    simp only[go_sem,wY]
    repeat refine sq ?_
    refine rx hΓ [1,2,3,6,9,10] [[3,0],[6,0],[9,0],[56,0],[108,0],[99,0,9,0,27,0],[98,0]] (fun K' hK=>by simp only[go_sem];(repeat (refine⟨ah,?_⟩));exact hK _ (by simp only[go_sem]) (by simp only[go_sem]<;>rfl)) ?_
    repeat refine sq ?_
    refine aO ?_
    repeat refine sq ?_
    refine cv (fun z:Nat=>[(10,⟨true,.v (vInt z)⟩)]) (fun z=>[([9,0],.box (bI d j (.msl [98,0] (fm d.now.ho p z).length) [99,0,9,0,27,0] (d.now.un.get j).length (d.now.se.get j))),([98,0],.arr 1 ((fm d.now.ho p z).map vInt))]) (fun z=>z<=d.now.ho.length) (fun z=>d.now.ho.length-z) 0 ?_ ?_ ?_ ?_
    ·exact Nat.zero_le _
    ·rfl
    ·rfl
    rintro i hi
    simp only[go_sem]
    repeat refine sq ?_
    refine rx hΓ [1,2,3,6,9,10,35] [[3,0],[6,0],[9,0],[56,0],[108,0],[99,0,9,0,27,0],[98,0]] (fun K' hK=>by simp only[go_sem];(repeat (refine⟨ah,?_⟩));exact hK _ (by simp only[go_sem]) (by simp only[go_sem]<;>rfl)) ?_
    repeat refine sq ?_
    refine au rfl rfl (fun hb=>?_) (fun hb=>?_)
    ·have ae:i<d.now.ho.length:=by simpa using hb
     have ai:(i:Int)<d.now.ho.length:=by omega
     clear hb
     have fi:=Mx d.now.ho p i
     repeat refine sq ?_
     refine av ?_
     repeat refine sq ?_
     refine aO ?_
     repeat refine sq ?_
     refine rx hΓ [1,2,3,6,9,10,45] [[3,0],[6,0],[9,0],[56,0],[108,0],[99,0,9,0,27,0],[98,0]] (fun K' hK=>by simp only[go_sem,aI ae,Int.toNat_natCast,Int.natCast_nonneg,ai,aI ae];(repeat (refine⟨ah,?_⟩));exact hK _ (by simp only[go_sem]) (by simp only[go_sem]<;>rfl)) ?_
     repeat refine sq ?_
     refine au rfl rfl (fun hb=>?_) (fun hb=>?_)
     ·repeat refine sq ?_
      have nk:(d.now.ho[i] != p)=true:=by simpa using hb
      have fe:=ZO ae nk
      repeat refine sq ?_
      refine km hΓ hP [[],[0],[0,1],[],[3],[3,4],[],[3,4,5,6],[3,4,5,6,7],[3,4,5,6,7,8],[0,1,2,3,4,5,6,7,8,9],[0,1,2,3,4,5,6,7,8,9,10],[0,1,2,3,4,5,6,7,8,9,10,11],[0,1,2,3,4,5,6,7,8,9,10,11,12]] (by kernel_rfl) fun K' hK=>?_
      simp only[go_sem,aI ae,Int.toNat_natCast,Int.natCast_nonneg,ai,aI ae]
      repeat (refine⟨ah,?_⟩)
      first | refine⟨by rfl,?_⟩ | skip
      refine hK _ ?_
      clear K' hK
      simp only[go_sem]
      refine kp [1,2,3,6,9,10] [[3,0],[6,0],[9,0],[56,0],[108,0],[99,0,9,0,27,0],[98,0]] ?_
      repeat refine sq ?_
      refine aL hΓ fun K' hK=>?_
      simp only[go_sem,aI ae,Int.toNat_natCast,Int.natCast_nonneg,ai]
      repeat (refine⟨ah,?_⟩)
      refine hK _ ?_
      clear K' hK
      simp only[go_sem]
      refine⟨i+1,ae,by(show d.now.ho.length-(i+1)<d.now.ho.length-i;omega),?_⟩
      refine bk [1,2,3,6,9,10] [[3,0],[6,0],[9,0],[56,0],[108,0],[99,0,9,0,27,0],[98,0]] ?_ ?_
      ·simp only[go_sem,aD ae hl,Int.natCast_add,Int.natCast_one,fe,List.map_append,List.length_append,List.map_cons,List.map_nil,List.length_cons,List.length_nil]
      ·simp only[go_sem,aD ae hl,Int.natCast_add,Int.natCast_one,fe,List.map_append,List.length_append,List.map_cons,List.map_nil,List.length_cons,List.length_nil]
     ·repeat refine sq ?_
      have nk:(d.now.ho[i] != p)=false:=by simpa using hb
      have fe:=ZP ae nk
      refine av ?_
      refine ct ?_
      simp only[go_sem]
      refine kp [1,2,3,6,9,10] [[3,0],[6,0],[9,0],[56,0],[108,0],[99,0,9,0,27,0],[98,0]] ?_
      repeat refine sq ?_
      refine aL hΓ fun K' hK=>?_
      simp only[go_sem,aI ae,Int.toNat_natCast,Int.natCast_nonneg,ai]
      repeat (refine⟨ah,?_⟩)
      refine hK _ ?_
      clear K' hK
      simp only[go_sem]
      refine⟨i+1,ae,by(show d.now.ho.length-(i+1)<d.now.ho.length-i;omega),?_⟩
      refine bk [1,2,3,6,9,10] [[3,0],[6,0],[9,0],[56,0],[108,0],[99,0,9,0,27,0],[98,0]] ?_ ?_
      ·simp only[go_sem,aD ae hl,Int.natCast_add,Int.natCast_one,fe,List.map_append,List.length_append,List.map_cons,List.map_nil,List.length_cons,List.length_nil]
      ·simp only[go_sem,aD ae hl,Int.natCast_add,Int.natCast_one,fe,List.map_append,List.length_append,List.map_cons,List.map_nil,List.length_cons,List.length_nil]
    ·have aW:i=d.now.ho.length:=by
      have :¬ (i:Int)<d.now.ho.length:=by simpa using hb
      omega
     clear hb
     subst aW
     repeat refine sq ?_
     refine b7 ?_
     simp only[go_sem]
     refine kp [1,2,3,6,9] [[3,0],[6,0],[9,0],[56,0],[108,0],[99,0,9,0,27,0],[98,0]] ?_
     repeat refine sq ?_
     refine rx hΓ [1,2,3,6,9,67] [[3,0],[6,0],[9,0],[56,0],[108,0],[99,0,9,0,27,0],[98,0]] (fun K' hK=>by simp only[go_sem];(repeat (refine⟨ah,?_⟩));exact hK _ (by simp only[go_sem]) (by simp only[go_sem]<;>rfl)) ?_
     repeat refine sq ?_
     refine au rfl rfl (fun hb=>?_) (fun hb=>?_)
     ·repeat refine sq ?_
      have h3:lg d p=true:=by
       unfold lg
       have :((fm d.now.ho p d.now.ho.length).length:Int)=d.now.ho.length:=by simpa using hb
       exact decide_eq_true (by omega)
      have hq:=Hf hd h1 h2 h3
      repeat refine sq ?_
      refine rx hΓ [6,7] [[6,0],[56,0],[108,0]] (fun K' hK=>by simp only[go_sem];(repeat (refine⟨ah,?_⟩));exact hK _ (by simp only[go_sem]) (by simp only[go_sem]<;>rfl)) ?_
      refine an ?_
      simp only[go_sem]
      first | (rw[hq.1,hq.2];done) | (rw[hq.1,hq.2];rfl) | (rw[hq.1,hq.2,e1];done) | (rw[hq.1,hq.2,e1];rfl)
     ·repeat refine sq ?_
      have h3:lg d p=false:=by
       unfold lg
       have :¬ ((fm d.now.ho p d.now.ho.length).length:Int)=d.now.ho.length:=by simpa using hb
       exact decide_eq_false (by omega)
      refine av ?_
      repeat refine sq ?_
      refine rx hΓ [1,2,6,9,83] [[6,0],[9,0],[56,0],[108,0],[99,0,9,0,27,0],[98,0]] (fun K' hK=>by simp only[go_sem,jF,l9,ou,wO d hj,MZ d hj];(repeat (refine⟨ah,?_⟩));exact hK _ (by simp only[go_sem]) (by simp only[go_sem]<;>rfl)) ?_
      repeat refine sq ?_
      refine au rfl rfl (fun hb=>?_) (fun hb=>?_)
      ·repeat refine sq ?_
       have h4:kG d t=true:=by unfold kG;rw[jF];exact hb
       have hq:=Hd hd h1 h2 h3 h4
       repeat refine sq ?_
       refine rx hΓ [6,7] [[6,0],[56,0],[108,0]] (fun K' hK=>by simp only[go_sem];(repeat (refine⟨ah,?_⟩));exact hK _ (by simp only[go_sem]) (by simp only[go_sem]<;>rfl)) ?_
       refine an ?_
       simp only[go_sem]
       first | (rw[hq.1,hq.2];done) | (rw[hq.1,hq.2];rfl) | (rw[hq.1,hq.2,e1];done) | (rw[hq.1,hq.2,e1];rfl)
      ·repeat refine sq ?_
       have h4:kG d t=false:=by unfold kG;rw[jF];exact hb
       have hq:=Ha hd h1 h2 h3 h4
       rw[jF]at hq
       have w1:IntKind.i64.wrap (d.now.se.get j+1)=d.now.se.get j+1:=by have:=iU;exact wrap_i64 (by have:=iU.1;omega) (by have:=iU.2;omega)
       refine av ?_
       repeat refine sq ?_
       refine rx hΓ [1,2,6,9] [[6,0],[9,0],[56,0],[108,0],[99,0,9,0,27,0],[98,0]] (fun K' hK=>by simp only[go_sem,jF,l9,ou,Aq d _ _ _ _ hj,NK d _ _ _ _ _ hj,w1];(repeat (refine⟨ah,?_⟩));exact hK _ (by simp only[go_sem]) (by simp only[go_sem]<;>rfl)) ?_
       repeat refine sq ?_
       refine dx hΓ hP [[],[],[],[2],[1,2,3],[1,2,3,4],[],[],[7],[6,7,8],[6,7,8,9],[],[6,7,8,9,10,11],[6,7,8,9,10,11,12],[1,2,3,4,5,6,7,8,9,10,11,12,13],[],[15],[0,1,2,3,4,5,6,7,8,9,10,11,12,13,14,15,16],[0,1,2,3,4,5,6,7,8,9,10,11,12,13,14,15,16,17]] [6,9] [[6,0],[9,0],[56,0],[108,0],[99,0,9,0,27,0],[98,0]] (by kernel_rfl) (fun K' hK=>by simp only[go_sem,jF,l9,ou,Aq d _ _ _ _ hj,Ap d _ _ _ _ hj,FF d _ _ _ _ _ hj];(repeat (refine⟨ah,?_⟩));(first | refine⟨by rfl,?_⟩ | skip);exact hK _ (by simp only[go_sem]) (by simp only[go_sem]<;>rfl)) ?_
       refine aE (ed [9,0] [98,0] 1 _ _ _ _ rfl (Au _ _ _ _ _ _) rfl (by simp only[List.length_map]) [6,9] [[6,0],[9,0],[99,0,9,0,27,0]] ?_ rfl) ?_
       ·simp only[go_sem,wY]
       simp only[go_sem,wY]
       refine aE (ed [9,0] [99,0,9,0,27,0] (2+j) _ _ _ _ rfl (As _ _ _ _ _ hj) rfl (by simp only[List.length_append,List.length_map,List.length_cons,List.length_nil]) [6,9] [[6,0],[9,0]] ?_ rfl) ?_
       ·simp only[go_sem,Ar d _ _ _ _ _ _ _ hj]
       simp only[go_sem,Ar d _ _ _ _ _ _ _ hj]
       repeat refine sq ?_
       refine rx hΓ [6,7] [[6,0],[56,0],[108,0]] (fun K' hK=>by simp only[go_sem];(repeat (refine⟨ah,?_⟩));exact hK _ (by simp only[go_sem]) (by simp only[go_sem]<;>rfl)) ?_
       refine an ?_
       simp only[go_sem]
       first | (rw[hq.1,hq.2];done) | (rw[hq.1,hq.2];rfl) | (rw[hq.1,hq.2,e1];done) | (rw[hq.1,hq.2,e1];rfl)
theorem k9:al Tryz.prog 9 S9:=s9.sound
noncomputable def S77g:Spec:=sy Tryz.prog 22
noncomputable def S76g:Spec:=sy Tryz.prog 23
theorem VP:al Tryz.prog 77 S77g:=Nx Fx
theorem VR:al Tryz.prog 76 S76g:=Nx Fy
attribute [go_sem] S77g S76g
def iw(hn un:Name)(s:Stk)(j:Nat):List D:=((List.map D.v (aB s)).set 0 (.msl hn s.ho.length)).set (1+j) (.msl un (s.un.get j).length)
@[go_sem] theorem GW(hn un:Name)(s:Stk)(j:Nat):(iw hn un s j).length=19:=by
  unfold iw;rw[List.length_set,mW];rfl
theorem Nr(dom:Name->Bool)(l:List V){i k:Nat}(hn un:Name)(a b:Nat)(hi:i<l.length)(wh:i≠k):D.closL dom (((List.map D.v l).set i (.msl hn a)).set k (.msl un b))=(dom hn&&(dom un||decide (l.length<=k))):=by
 rw[Bool.eq_iff_iff,Fw]
 simp only[Bool.and_eq_true,Bool.or_eq_true,decide_eq_true_eq]
 constructor
 ·intro h
  refine⟨?_,?_⟩
  ·have:=h i (.msl hn a) (by rw[List.getElem?_set_ne wh.symm,List.getElem?_set_self (by simpa using hi)])
   simpa[D.clos]using this
  ·by_cases hk:l.length<=k
   ·exact .inr hk
   ·refine .inl ?_
    have :=h k (.msl un b) (by rw[List.getElem?_set_self (by simp;omega)])
    simpa[D.clos]using this
 ·rintro⟨h1,h2⟩ q x hq
  have ae:=(List.getElem?_eq_some_iff.1 hq).1
  simp only[List.length_set,List.length_map]at ae
  by_cases e1:k=q
  ·subst e1
   rw[List.getElem?_set_self (by simpa using ae)]at hq
   cases hq
   simp only[D.clos]
   rcases h2 with h2 | h2
   ·exact h2
   ·omega
  ·rw[List.getElem?_set_ne e1]at hq
   by_cases e2:i=q
   ·subst e2
    rw[List.getElem?_set_self (by simpa using ae)]at hq
    cases hq
    exact h1
   ·rw[List.getElem?_set_ne e2,List.getElem?_map]at hq
    cases hz:l[q]? with
    |none=>rw[hz]at hq;cases hq
    |some y=>rw[hz]at hq;cases hq;rfl
@[go_sem] theorem ae'(dom:Name->Bool)(hn un:Name)(s:Stk)(j:Nat):D.closL dom (iw hn un s j)=(dom hn&&(dom un||decide (19<=1+j))):=Nr dom (aB s) hn un _ _ (lb rfl) (by omega)
theorem HB(f:Name->Name)(l:List V)(i k:Nat)(hn un:Name)(a b:Nat):D.renL f (((List.map D.v l).set i (.msl hn a)).set k (.msl un b))=((List.map D.v l).set i (.msl (f hn) a)).set k (.msl (f un) b):=by
 rw[gP,List.map_set,List.map_set,List.map_map]
 rfl
@[go_sem] theorem QB(f:Name->Name)(hn un:Name)(s:Stk)(j:Nat):D.renL f (iw hn un s j)=iw (f hn) (f un) s j:=HB _ _ _ _ _ _ _ _
@[go_sem] theorem afa(hn un:Name)(s:Stk)(j:Nat):(iw hn un s j).take 19=iw hn un s j:=List.take_of_length_le (by rw[GW];exact Nat.le_refl _)
@[go_sem] theorem ae9(hn un:Name)(s:Stk)(j:Nat):(iw hn un s j).drop 19=[]:=List.drop_of_length_le (by rw[GW];exact Nat.le_refl _)
def eE(s:Stk)(j z:Nat):List D:=((List.map D.v (aB s)).set 0 (.msl [12,0] s.ho.length)).set (1+j) (if j<z then .msl [99,0] (s.un.get j).length else .v (rowP (s.un.get j)))
@[go_sem] theorem qE(s:Stk)(j z:Nat):(eE s j z).length=19:=by
  unfold eE;rw[List.length_set,mW];rfl
@[go_sem] theorem afe(s:Stk)(j z:Nat):(eE s j z).take 19=eE s j z:=List.take_of_length_le (by rw[qE];exact Nat.le_refl _)
@[go_sem] theorem afc(s:Stk)(j z:Nat):(eE s j z).drop 19=[]:=List.drop_of_length_le (by rw[qE];exact Nat.le_refl _)
theorem Bq(s:Stk){j:Nat}(hj:j<6):eE s j 6=iw [12,0] [99,0] s j:=by
 unfold eE iw;rw[if_pos hj]
theorem Br(s:Stk){j:Nat}(hj:j<6):D.msl [12,0] s.ho.length::List.drop 1 (List.map D.v (aB s))=eE s j 0:=
 ix (P:=fun j=>D.msl [12,0] s.ho.length::List.drop 1 (List.map D.v (aB s))=eE s j 0) rfl rfl rfl rfl rfl rfl hj
theorem aaz(dom:Name->Bool)(l:List V)(hn:Name)(a:Nat)(hl:0<l.length):D.closL dom ((List.map D.v l).set 0 (.msl hn a))=dom hn:=by
 rw[Aj (qh dom l),List.length_map]
 have :decide (l.length<=0)=false:=decide_eq_false (by omega)
 rw[this,Bool.or_false]
@[go_sem] theorem afd(dom:Name->Bool)(s:Stk)(j z:Nat):D.closL dom (eE s j z)=(dom [12,0]&&(dom [99,0]||(decide (19<=1+j)||!decide (j<z)))):=by
  by_cases h:j<z
  ·have:=Nr dom (aB s) [12,0] [99,0] s.ho.length (s.un.get j).length (i:=0) (k:=1+j) (lb rfl) (by omega)
   unfold eE
   rw[if_pos h,this,decide_eq_true h,jV]
   simp
  ·unfold eE
   rw[if_neg h,decide_eq_false h]
   simp only[Bool.not_false,Bool.or_true,Bool.and_true]
   rw[Bool.eq_iff_iff]
   constructor
   ·intro h1
    have :=Fw.1 h1 0 (.msl [12,0] s.ho.length) (by rw[List.getElem?_set_ne (by omega),List.getElem?_set_self (by exact lb rfl)])
    simpa[D.clos]using this
   ·intro h1
    have h2:=aaz dom (aB s) [12,0] s.ho.length (lb rfl)
    rw[h1]at h2
    exact Nu rfl h2
theorem G1(s:Stk){i j:Nat}(hi:i<6)(hj:j<6)(h:i≠j):List.take (1+i) (eE s j i)++[D.v (.sl ((s.un.get i).map encPa))]++List.drop (1+i+1) (eE s j i)=eE s j (i+1):=by
 rw[sZ (by rw[qE];omega)]
 unfold eE
 have e:(if j<i then D.msl [99,0] (s.un.get j).length else .v (rowP (s.un.get j)))=(if j<i+1 then D.msl [99,0] (s.un.get j).length else .v (rowP (s.un.get j))):=by
  by_cases h1:j<i
  ·rw[if_pos h1,if_pos (by omega)]
  ·rw[if_neg h1,if_neg (by omega)]
 rw[e,List.set_comm _ (D.v (.sl ((s.un.get i).map encPa))) (show 1+j≠1+i by omega),List.set_comm _ (D.v (.sl ((s.un.get i).map encPa))) (show 0≠1+i by omega)]
 congr 2
 exact ix (P:=fun i=>(List.map D.v (aB s)).set (1+i) (D.v (.sl ((s.un.get i).map encPa)))=List.map D.v (aB s)) rfl rfl rfl rfl rfl rfl hi
theorem QD(s:Stk){j:Nat}(hj:j<6):D.renL (cW [24,0] [99,0]) (List.take (1+j) (eE s j j)++[D.msl [24,0] (s.un.get j).length]++List.drop (1+j+1) (eE s j j))=eE s j (j+1):=by
 rw[sZ (by rw[qE];omega)]
 unfold eE
 rw[List.set_set,HB,if_pos (Nat.lt_succ_self j)]
 have e1:cW [24,0] [99,0] [12,0]=[12,0]:=by decide
 have e2:cW [24,0] [99,0] [24,0]=[99,0]:=by decide
 rw[e1,e2]
end Go.Eng
