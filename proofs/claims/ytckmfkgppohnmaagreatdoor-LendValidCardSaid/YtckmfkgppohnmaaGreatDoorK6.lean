import Derived.Test.YtckmfkgppohnmaaGreatDoorK5
/- Texts NW4 to NW17. -/
set_option linter.all false
namespace Go.Eng
open Go Go.Proofs
def eN(me:Int)(s:Stk):Int:=if c9 me s=true then 0 else 90
def afb(s:Stk):Bool:=!iK 6 fun m=>!c9 m s
def fq(b:Bag):Bool:=aY b.fr 0 5&&aY b.to 0 5&&(b.fr != b.to)&&cf b.ps&&aY b.ta 0 99999
def lE(b:Bag):Int:=if fq b=true then 0 else 93
noncomputable def P43:PSpec:=p2 iI fb (fun _ _=>True) (fun me s=>vInt (eN me s)) true
noncomputable def S43:Spec:=P43.toSpec
attribute [go_sem] P43 S43
set_option maxHeartbeats 4000000 in
theorem RS:aQ Tryz.prog 43 P43:=by
 refine w2 (rs:=[.tmp 4]) Tryz.func43 Tryz.ntmps43 (by rfl) (by kernel_rfl) (by decide) (fun _ _ _=>rfl) ⟨_,rfl,lb rfl,fun me s hp hw=>?_⟩
 have hP:=ba
 simp only[iI,fb]at hw |-
 have hΓ:=O4
 repeat refine sq ?_
 refine rs hΓ [0,3] [[3,0]] ?_
 refine aE (bz [3,0] (aB s) rfl [0,3] [[3,0]] ?_ rfl) ?_
 ·simp only[go_sem]
 simp only[go_sem]
 rcases aZ:aY me 0 5 with _ | _
 ·repeat refine sq ?_
  refine rx hΓ [3,37] [[3,0]] (fun K' hK=>by simp only[go_sem,aZ];(repeat (refine⟨ob,?_⟩));exact hK _ (by simp only[go_sem]) (by simp only[go_sem]<;>rfl)) ?_
  repeat refine sq ?_
  refine au rfl rfl (fun hb=>?_) (fun hb=>?_)
  ·repeat refine sq ?_
   refine rx hΓ [4] [] (fun K' hK=>by simp only[go_sem,aZ];(repeat (refine⟨ob,?_⟩));exact hK _ (by simp only[go_sem]) (by simp only[go_sem]<;>rfl)) ?_
   refine an ?_
   simp only[go_sem]
   first | (simp[eN,c9,aZ];done) | (unfold eN;rw[dB aZ,cT];rfl) | (unfold eN;rw[dB aZ,cT,ig ae bC];rfl) | (unfold eN;rw[dB aZ,cT,hR];rfl)
  ·cases hb
 ·have hm:=dQ.1 aZ
  have hk:me.toNat<6:=by omega
  have ez:0<=me:=hm.1
  have dK:me<6:=by omega
  repeat refine sq ?_
  refine rx hΓ [3,37] [[3,0]] (fun K' hK=>by simp only[go_sem,aZ,ez,dK,cN s hk,dP s hk,dC s hk,dX];(repeat (refine⟨ob,?_⟩));exact hK _ (by simp only[go_sem]) (by simp only[go_sem]<;>rfl)) ?_
  repeat refine sq ?_
  refine au rfl rfl (fun hb=>?_) (fun hb=>?_)
  ·repeat refine sq ?_
   have cT:nz me s=true:=by simpa[nz,<-Bool.or_assoc]using hb
   repeat refine sq ?_
   refine rx hΓ [4] [] (fun K' hK=>by simp only[go_sem,aZ,ez,dK,cN s hk,dP s hk,dC s hk,dX];(repeat (refine⟨ob,?_⟩));exact hK _ (by simp only[go_sem]) (by simp only[go_sem]<;>rfl)) ?_
   refine an ?_
   simp only[go_sem]
   first | (simp[eN,c9,aZ];done) | (unfold eN;rw[dB aZ,cT];rfl) | (unfold eN;rw[dB aZ,cT,ig ae bC];rfl) | (unfold eN;rw[dB aZ,cT,hR];rfl)
  ·repeat refine sq ?_
   have cT:nz me s=false:=by simpa[nz,<-Bool.or_assoc]using hb
   refine av ?_
   repeat refine sq ?_
   refine rx hΓ [3,5] [[3,0]] (fun K' hK=>by simp only[go_sem,aZ,ez,dK,cN s hk,dP s hk,dC s hk,dX];(repeat (refine⟨ob,?_⟩));exact hK _ (by simp only[go_sem]) (by simp only[go_sem]<;>rfl)) ?_
   repeat refine sq ?_
   refine aO ?_
   repeat refine sq ?_
   refine cv (fun z:Nat=>[(5,⟨true,.v (vInt z)⟩)]) (fun z=>[]) (fun z=>z<=6/\iK z (fU s)=true) (fun z=>6-z) 0 ?_ ?_ ?_ ?_
   ·exact⟨Nat.zero_le _,rfl⟩
   ·rfl
   ·rfl
   rintro i ⟨hi,hR⟩
   simp only[go_sem]
   repeat refine sq ?_
   refine rx hΓ [3,5,39] [[3,0]] (fun K' hK=>by simp only[go_sem,aZ,ez,dK,cN s hk,dP s hk,dC s hk,dX];(repeat (refine⟨ob,?_⟩));exact hK _ (by simp only[go_sem]) (by simp only[go_sem]<;>rfl)) ?_
   repeat refine sq ?_
   refine au rfl rfl (fun hb=>?_) (fun hb=>?_)
   ·have ae:i<6:=by have hq:(i:Int)<6:=(by simpa using hb);omega
    have ai:(i:Int)<6:=by omega
    clear hb
    obtain⟨p,hp,iA,bY⟩:=IW (l:=s.un.get i) (sP hw.2 ae)
    repeat refine sq ?_
    refine av ?_
    repeat refine sq ?_
    refine aO ?_
    repeat refine sq ?_
    refine rx hΓ [3,5,6] [[3,0]] (fun K' hK=>by simp only[go_sem,aZ,ez,dK,cN s hk,dP s hk,dC s hk,dX,Int.toNat_natCast,Int.natCast_nonneg,ai,cN s ae,Int.toNat_natCast,Int.natCast_nonneg,ai];(repeat (refine⟨ob,?_⟩));exact hK _ (by simp only[go_sem]) (by simp only[go_sem]<;>rfl)) ?_
    rcases hz:((s.un.get i).length==0)with _ | _
    ·obtain⟨bV,dm,dw⟩:=bY hz
     have eg:=GR iA hz bV
     repeat refine sq ?_
     refine dx hΓ hP [[],[],[0,1],[0,1,2],[0,1,2,3],[0,1,2,3,4],[0,1,2,3,4,5],[0,1,2,3,4,5,6],[0,1,2,3,4,5,6],[0,1,2,3,4,5,6,7,8],[0,1,2,3,4,5,6,7,8,9],[0,1,2,3,4,5,6,7,8,9,10],[0,1,2,3,4,5,6,7,8,9,10,11],[0,1,2,3,4,5,6,7,8,9,10,11,12],[0,1,2,3,4,5,6,7,8,9,10,11,12,13],[0,1,2,3,4,5,6,7,8,9,10,11,12,13,14],[0,1,2,3,4,5,6,7,8,9,10,11,12,13,14,15],[0,1,2,3,4,5,6,7,8,9,10,11,12,13,14,15,16],[0,1,2,3,4,5,6,7,8,9,10,11,12,13,14,15,16,17],[0,1,2,3,4,5,6,7,8,9,10,11,12,13,14,15,16,17,18],[0,1,2,3,4,5,6,7,8,9,10,11,12,13,14,15,16,17,18,19],[0,1,2,3,4,5,6,7,8,9,10,11,12,13,14,15,16,17,18,19,20],[0,1,2,3,4,5,6,7,8,9,10,11,12,13,14,15,16,17,18,19,20,21],[0,1,2,3,4,5,6,7,8,9,10,11,12,13,14,15,16,17,18,19,20,21,22],[0,1,2,3,4,5,6,7,8,9,10,11,12,13,14,15,16,17,18,19,20,21,22,23],[0,1,2,3,4,5,6,7,8,9,10,11,12,13,14,15,16,17,18,19,20,21,22,23],[0,1,2,3,4,5,6,7,8,9,10,11,12,13,14,15,16,17,18,19,20,21,22,23,25],[0,1,2,3,4,5,6,7,8,9,10,11,12,13,14,15,16,17,18,19,20,21,22,23,25,26],[0,1,2,3,4,5,6,7,8,9,10,11,12,13,14,15,16,17,18,19,20,21,22,23,24,25,26,27],[0,1,2,3,4,5,6,7,8,9,10,11,12,13,14,15,16,17,18,19,20,21,22,23,24,25,26,27,28],[0,1,2,3,4,5,6,7,8,9,10,11,12,13,14,15,16,17,18,19,20,21,22,23,24,25,26,27,28,29],[0,1,2,3,4,5,6,7,8,9,10,11,12,13,14,15,16,17,18,19,20,21,22,23],[0,1,2,3,4,5,6,7,8,9,10,11,12,13,14,15,16,17,18,19,20,21,22,23],[0,1,2,3,4,5,6,7,8,9,10,11,12,13,14,15,16,17,18,19,20,21,22,23,31,32],[0,1,2,3,4,5,6,7,8,9,10,11,12,13,14,15,16,17,18,19,20,21,22,23,31,32,33],[0,1,2,3,4,5,6,7,8,9,10,11,12,13,14,15,16,17,18,19,20,21,22,23,24,25,26,27,28,29,30,31,32,33,34],[0,1,2,3,4,5,6,7,8,9,10,11,12,13,14,15,16,17,18,19,20,21,22,23,24,25,26,27,28,29,30,31,32,33,34,35],[0,1,2,3,4,5,6,7,8,9,10,11,12,13,14,15,16,17,18,19,20,21,22,23,24,25,26,27,28,29,30,31,32,33,34,35,36]] [3,5,83] [[3,0]] (by kernel_rfl) (fun K' hK=>by simp only[go_sem,aZ,ez,dK,cN s hk,dP s hk,dC s hk,dX,Int.toNat_natCast,Int.natCast_nonneg,ai,hz,hp,dm,dw,aI bV,dP s ae,dC s ae,Int.toNat_natCast,Int.natCast_nonneg,ai,dX];(repeat (refine⟨by first | exact ob | exact⟨dm,dw,rfl⟩ | exact fun _=>⟨dm,dw,rfl⟩,?_⟩));(first | refine⟨by rfl,?_⟩ | skip);exact hK _ (by simp only[go_sem]) (by simp only[go_sem]<;>rfl)) ?_
     repeat refine sq ?_
     refine au rfl rfl (fun hb=>?_) (fun hb=>?_)
     ·repeat refine sq ?_
      have bC:fU s i=false:=by simpa[<-Bool.or_assoc,hb]using eg.symm
      repeat refine sq ?_
      refine rx hΓ [4] [] (fun K' hK=>by simp only[go_sem,aZ,ez,dK,cN s hk,dP s hk,dC s hk,dX,Int.toNat_natCast,Int.natCast_nonneg,ai,hz,hp,dm,dw,aI bV];(repeat (refine⟨ob,?_⟩));exact hK _ (by simp only[go_sem]) (by simp only[go_sem]<;>rfl)) ?_
      refine an ?_
      simp only[go_sem]
      first | (simp[eN,c9,aZ];done) | (unfold eN;rw[dB aZ,cT];rfl) | (unfold eN;rw[dB aZ,cT,ig ae bC];rfl) | (unfold eN;rw[dB aZ,cT,hR];rfl)
     ·repeat refine sq ?_
      have bH:fU s i=true:=by simpa[<-Bool.or_assoc,hb]using eg.symm
      refine av ?_
      refine ct ?_
      simp only[go_sem]
      refine kp [3,5] [[3,0]] ?_
      repeat refine sq ?_
      refine aL hΓ fun K' hK=>?_
      simp only[go_sem,aZ,ez,dK,cN s hk,dP s hk,dC s hk,dX,Int.toNat_natCast,Int.natCast_nonneg,ai,hz,hp,dm,dw,aI bV]
      repeat (refine⟨ob,?_⟩)
      refine hK _ ?_
      clear K' hK
      simp only[go_sem]
      refine⟨i+1,⟨ae,?_⟩,by(show 6-(i+1)<6-i;omega),?_⟩
      ·exact nJ hR bH
      refine bk [3,5] [[3,0]] ?_ ?_
      ·simp only[go_sem,aD ae (lb rfl:(6:Nat)<=maxLen),Int.natCast_add,Int.natCast_one]
      ·simp only[go_sem,aD ae (lb rfl:(6:Nat)<=maxLen),Int.natCast_add,Int.natCast_one]
    ·have eg:=GQ hz
     repeat refine sq ?_
     refine dx hΓ hP [[],[],[0,1],[0,1,2],[0,1,2,3],[0,1,2,3,4],[0,1,2,3,4,5],[0,1,2,3,4,5,6],[0,1,2,3,4,5,6],[0,1,2,3,4,5,6,7,8],[0,1,2,3,4,5,6,7,8,9],[0,1,2,3,4,5,6,7,8,9,10],[0,1,2,3,4,5,6,7,8,9,10,11],[0,1,2,3,4,5,6,7,8,9,10,11,12],[0,1,2,3,4,5,6,7,8,9,10,11,12,13],[0,1,2,3,4,5,6,7,8,9,10,11,12,13,14],[0,1,2,3,4,5,6,7,8,9,10,11,12,13,14,15],[0,1,2,3,4,5,6,7,8,9,10,11,12,13,14,15,16],[0,1,2,3,4,5,6,7,8,9,10,11,12,13,14,15,16,17],[0,1,2,3,4,5,6,7,8,9,10,11,12,13,14,15,16,17,18],[0,1,2,3,4,5,6,7,8,9,10,11,12,13,14,15,16,17,18,19],[0,1,2,3,4,5,6,7,8,9,10,11,12,13,14,15,16,17,18,19,20],[0,1,2,3,4,5,6,7,8,9,10,11,12,13,14,15,16,17,18,19,20,21],[0,1,2,3,4,5,6,7,8,9,10,11,12,13,14,15,16,17,18,19,20,21,22],[0,1,2,3,4,5,6,7,8,9,10,11,12,13,14,15,16,17,18,19,20,21,22,23],[0,1,2,3,4,5,6,7,8,9,10,11,12,13,14,15,16,17,18,19,20,21,22,23],[0,1,2,3,4,5,6,7,8,9,10,11,12,13,14,15,16,17,18,19,20,21,22,23,25],[0,1,2,3,4,5,6,7,8,9,10,11,12,13,14,15,16,17,18,19,20,21,22,23,25,26],[0,1,2,3,4,5,6,7,8,9,10,11,12,13,14,15,16,17,18,19,20,21,22,23,24,25,26,27],[0,1,2,3,4,5,6,7,8,9,10,11,12,13,14,15,16,17,18,19,20,21,22,23,24,25,26,27,28],[0,1,2,3,4,5,6,7,8,9,10,11,12,13,14,15,16,17,18,19,20,21,22,23,24,25,26,27,28,29],[0,1,2,3,4,5,6,7,8,9,10,11,12,13,14,15,16,17,18,19,20,21,22,23],[0,1,2,3,4,5,6,7,8,9,10,11,12,13,14,15,16,17,18,19,20,21,22,23],[0,1,2,3,4,5,6,7,8,9,10,11,12,13,14,15,16,17,18,19,20,21,22,23,31,32],[0,1,2,3,4,5,6,7,8,9,10,11,12,13,14,15,16,17,18,19,20,21,22,23,31,32,33],[0,1,2,3,4,5,6,7,8,9,10,11,12,13,14,15,16,17,18,19,20,21,22,23,24,25,26,27,28,29,30,31,32,33,34],[0,1,2,3,4,5,6,7,8,9,10,11,12,13,14,15,16,17,18,19,20,21,22,23,24,25,26,27,28,29,30,31,32,33,34,35],[0,1,2,3,4,5,6,7,8,9,10,11,12,13,14,15,16,17,18,19,20,21,22,23,24,25,26,27,28,29,30,31,32,33,34,35,36]] [3,5,83] [[3,0]] (by kernel_rfl) (fun K' hK=>by simp only[go_sem,aZ,ez,dK,cN s hk,dP s hk,dC s hk,dX,Int.toNat_natCast,Int.natCast_nonneg,ai,hz,dP s ae,dC s ae,Int.toNat_natCast,Int.natCast_nonneg,ai,dX];(repeat (refine⟨by first | exact ob | exact⟨dm,dw,rfl⟩ | exact fun _=>⟨dm,dw,rfl⟩,?_⟩));(first | refine⟨by rfl,?_⟩ | skip);exact hK _ (by simp only[go_sem]) (by simp only[go_sem]<;>rfl)) ?_
     repeat refine sq ?_
     refine au rfl rfl (fun hb=>?_) (fun hb=>?_)
     ·repeat refine sq ?_
      have bC:fU s i=false:=by simpa[<-Bool.or_assoc,hb]using eg.symm
      repeat refine sq ?_
      refine rx hΓ [4] [] (fun K' hK=>by simp only[go_sem,aZ,ez,dK,cN s hk,dP s hk,dC s hk,dX,Int.toNat_natCast,Int.natCast_nonneg,ai,hz];(repeat (refine⟨ob,?_⟩));exact hK _ (by simp only[go_sem]) (by simp only[go_sem]<;>rfl)) ?_
      refine an ?_
      simp only[go_sem]
      first | (simp[eN,c9,aZ];done) | (unfold eN;rw[dB aZ,cT];rfl) | (unfold eN;rw[dB aZ,cT,ig ae bC];rfl) | (unfold eN;rw[dB aZ,cT,hR];rfl)
     ·repeat refine sq ?_
      have bH:fU s i=true:=by simpa[<-Bool.or_assoc,hb]using eg.symm
      refine av ?_
      refine ct ?_
      simp only[go_sem]
      refine kp [3,5] [[3,0]] ?_
      repeat refine sq ?_
      refine aL hΓ fun K' hK=>?_
      simp only[go_sem,aZ,ez,dK,cN s hk,dP s hk,dC s hk,dX,Int.toNat_natCast,Int.natCast_nonneg,ai,hz]
      repeat (refine⟨ob,?_⟩)
      refine hK _ ?_
      clear K' hK
      simp only[go_sem]
      refine⟨i+1,⟨ae,?_⟩,by(show 6-(i+1)<6-i;omega),?_⟩
      ·exact nJ hR bH
      refine bk [3,5] [[3,0]] ?_ ?_
      ·simp only[go_sem,aD ae (lb rfl:(6:Nat)<=maxLen),Int.natCast_add,Int.natCast_one]
      ·simp only[go_sem,aD ae (lb rfl:(6:Nat)<=maxLen),Int.natCast_add,Int.natCast_one]
   ·have aW:i=6:=by
     have :¬ (i:Int)<6:=by simpa using hb
     omega
    clear hb
    subst aW
    repeat refine sq ?_
    refine b7 ?_
    simp only[go_sem]
    refine kp [] [] ?_
    repeat refine sq ?_
    refine rx hΓ [4] [] (fun K' hK=>by simp only[go_sem,aZ,ez,dK,cN s hk,dP s hk,dC s hk,dX];(repeat (refine⟨ob,?_⟩));exact hK _ (by simp only[go_sem]) (by simp only[go_sem]<;>rfl)) ?_
    refine an ?_
    simp only[go_sem]
    first | (simp[eN,c9,aZ];done) | (unfold eN;rw[dB aZ,cT];rfl) | (unfold eN;rw[dB aZ,cT,ig ae bC];rfl) | (unfold eN;rw[dB aZ,cT,hR];rfl)
theorem CP:al Tryz.prog 43 S43:=RS.sound
noncomputable def K4:List (Nat×Spec):=[(89,S89),(43,S43),(82,S82),(87,S87),(79,S79),(84,S84),(88,S88),(81,S81)]
theorem OT:∀ f s,tbl K4 f=some s->al Tryz.prog f s:=tc CE<|tc CP<|tc CG<|tc Kd<|tc CI<|tc yJ<|tc Kc<|tc CH<|tn
attribute [go_sem] K4
theorem Av(b:Bag):(!aY b.fr 0 5||(!aY b.to 0 5||((b.fr==b.to)||(!cf b.ps||!aY b.ta 0 99999))))=!fq b:=by
 unfold fq
 have :(b.fr != b.to)=!(b.fr==b.to):=rfl
 rw[this]
 cases aY b.fr 0 5<;>cases aY b.to 0 5<;>cases (b.fr==b.to)<;>cases cf b.ps<;>cases aY b.ta 0 99999<;>rfl
noncomputable def P40:PSpec:=p1 jw (fun _=>True) (fun b=>vInt (lE b)) true
noncomputable def S40:Spec:=P40.toSpec
attribute [go_sem] P40 S40
set_option maxHeartbeats 4000000 in
theorem RU:aQ Tryz.prog 40 P40:=by
 refine w1 (rs:=[.tmp 2]) Tryz.func40 Tryz.ntmps40 (by rfl) (by kernel_rfl) (by decide) (fun _ _=>rfl) ⟨_,rfl,lb rfl,fun b hp hw=>?_⟩
 have hP:=ba
 simp only[jw]at hw |-
 have hΓ:=OT
 repeat refine sq ?_
 refine rs hΓ [1] [[1,0]] ?_
 refine aE (bz [1,0] (aP b) rfl [1] [[1,0]] ?_ rfl) ?_
 ·simp only[go_sem]
 simp only[go_sem]
 repeat refine sq ?_
 refine rs hΓ [31] [] ?_
 repeat refine sq ?_
 refine au rfl rfl (fun hb=>?_) (fun hb=>?_)
 ·repeat refine sq ?_
  have bC:fq b=false:=by simpa[<-Bool.or_assoc,hb]using(Av b).symm
  repeat refine sq ?_
  refine rs hΓ [2] [] ?_
  refine an ?_
  simp only[go_sem]
  first | (unfold lE;rw[bC];rfl) | (unfold lE;rw[bH];rfl)
 ·repeat refine sq ?_
  have bH:fq b=true:=by simpa[<-Bool.or_assoc,hb]using(Av b).symm
  refine av ?_
  repeat refine sq ?_
  refine rs hΓ [2] [] ?_
  refine an ?_
  simp only[go_sem]
  first | (unfold lE;rw[bC];rfl) | (unfold lE;rw[bH];rfl)
theorem Wb:al Tryz.prog 40 S40:=RU.sound
noncomputable def P41:PSpec:=p1 jw (fun _=>True) (fun b=>vInt (lE b)) true
noncomputable def S41:Spec:=P41.toSpec
attribute [go_sem] P41 S41
set_option maxHeartbeats 4000000 in
theorem RT:aQ Tryz.prog 41 P41:=by
 refine w1 (rs:=[.tmp 2]) Tryz.func41 Tryz.ntmps41 (by rfl) (by kernel_rfl) (by decide) (fun _ _=>rfl) ⟨_,rfl,lb rfl,fun b hp hw=>?_⟩
 have hP:=ba
 simp only[jw]at hw |-
 have hΓ:=OT
 repeat refine sq ?_
 refine rs hΓ [1] [[1,0]] ?_
 refine aE (bz [1,0] (aP b) rfl [1] [[1,0]] ?_ rfl) ?_
 ·simp only[go_sem]
 simp only[go_sem]
 repeat refine sq ?_
 refine rs hΓ [31] [] ?_
 repeat refine sq ?_
 refine au rfl rfl (fun hb=>?_) (fun hb=>?_)
 ·repeat refine sq ?_
  have bC:fq b=false:=by simpa[<-Bool.or_assoc,hb]using(Av b).symm
  repeat refine sq ?_
  refine rs hΓ [2] [] ?_
  refine an ?_
  simp only[go_sem]
  first | (unfold lE;rw[bC];rfl) | (unfold lE;rw[bH];rfl)
 ·repeat refine sq ?_
  have bH:fq b=true:=by simpa[<-Bool.or_assoc,hb]using(Av b).symm
  refine av ?_
  repeat refine sq ?_
  refine rs hΓ [2] [] ?_
  refine an ?_
  simp only[go_sem]
  first | (unfold lE;rw[bC];rfl) | (unfold lE;rw[bH];rfl)
theorem Wa:al Tryz.prog 41 S41:=RT.sound
def dO(l:List UInt8):ByteArray:=⟨l.toArray⟩
theorem nR(a b:List UInt8):dO a++dO b=dO (a++b):=by
 apply ByteArray.ext
 simp[dO]
theorem sV(x:UInt8):(⟨[x].toArray⟩:ByteArray)=dO [x]:=rfl
theorem pc(l:List UInt8):(dO l).size=l.length:=by
 show l.toArray.size=_
 rw[List.size_toArray]
@[go_sem] theorem un3:(Tryz.prog.underlying 3).isSome=true:=by kernel_rfl
@[go_sem] theorem un5:(Tryz.prog.underlying 5).isSome=true:=by kernel_rfl
@[go_sem] theorem afE:(if (#[]:Array UInt8).size<=maxLen then D.v (.str ⟨#[]⟩)else D.any)=D.v (.str (dO [])):=by
  rw[if_pos (by unfold maxLen;decide)];rfl
theorem TR(w:ByteArray)(l:List Int):du w l=dO (pz w l):=rfl
theorem CQ{n:Int}(h:0<=n):Lib.itoa n=Lib.decDigits n.toNat:=by
 unfold Lib.itoa
 rw[if_neg (by omega)]
theorem M2{m:Nat}(h:9<m):Lib.decDigits m=Lib.decDigits (m / 10)++[UInt8.ofNat (48+m % 10)]:=by
 rw[Lib.decDigits,dif_neg (by omega)]
theorem Z9(m:Nat)(hm:m<=1000000):(m:Int).tmod 10=((m % 10:Nat):Int)/\(m:Int).tdiv 10=((m / 10:Nat):Int)/\IntKind.i64.wrap (48+((m % 10:Nat):Int))=((48+m % 10:Nat):Int)/\
 IntKind.u8.wrap ((48+m % 10:Nat):Int)=((48+m % 10:Nat):Int)/\IntKind.i64.wrap ((m / 10:Nat):Int)=((m / 10:Nat):Int):=by
 refine⟨rfl,rfl,?_,?_,?_⟩
 ·rw[wrap_i64 (by omega) (by omega)];rfl
 ·have h1:48+m % 10<58:=by omega
  generalize 48+m % 10=k at h1
  simp only[IntKind.wrap,IntKind.signed,IntKind.bits]
  first | omega | (simp;omega)
 ·rw[wrap_i64 (by omega) (by omega)]
theorem sS(k:Nat):qy (.int .u8 (k:Int))=UInt8.ofNat k:=rfl
theorem WI{k:Nat}(h:k<256):rj (.int .u8 (k:Int))=true:=by
 unfold rj
 simp
 omega
noncomputable def P125:PSpec:=p1 iI (fun n=>0<=n/\n<=1000000) (fun n=>.str (dO (Lib.itoa n))) true
noncomputable def S125:Spec:=P125.toSpec
attribute [go_sem] P125 S125
set_option maxHeartbeats 4000000 in
theorem Sc:aQ Tryz.prog 125 P125:=by
 refine w1 (rs:=[.tmp 2]) Tryz.func125 Tryz.ntmps125 (by rfl) (by kernel_rfl) (by decide) (fun _ _=>rfl) ⟨_,rfl,lb rfl,fun n hp hw=>?_⟩
 have hP:=ba
 simp only[iI]at hw |-
 have hΓ:=@jY Tryz.prog
 obtain⟨KQ,nk⟩:=hp
 obtain⟨N,rfl⟩:∃ N:Nat,n=N:=⟨n.toNat,by omega⟩
 have hNl:(Lib.decDigits N).length<=21:=by
  have :=Lib.itoa_length_le (N:Int) (by omega) (by omega)
  rwa [CQ (by omega),Int.toNat_natCast]at this
 repeat refine sq ?_
 refine rs hΓ [0] [] ?_
 repeat refine sq ?_
 refine rs hΓ [0,3] [] ?_
 repeat refine sq ?_
 refine aO ?_
 repeat refine sq ?_
 refine cv (fun s:Nat×List UInt8=>[(0,⟨true,.v (vInt s.1)⟩),(3,⟨true,.v (.str (dO s.2))⟩)]) (fun s=>[]) (fun s=>s.1<=N/\Lib.decDigits N=Lib.decDigits s.1++s.2) (fun s=>s.1) (N,[]) ?_ ?_ ?_ ?_
 ·exact⟨Nat.le_refl _,by simp⟩
 ·rfl
 ·rfl
 rintro⟨m,acc⟩ ⟨hi,hR⟩
 simp only[go_sem]
 replace hi:m<=N:=hi
 replace hR:Lib.decDigits N=Lib.decDigits m++acc:=hR
 have hal:acc.length<=21:=by
  have :=congrArg List.length hR
  rw[List.length_append]at this
  omega
 obtain⟨d1,d2,d3,d4,d5⟩:=Z9 m (by omega)
 have r3:=WI (k:=48+m % 10) (by omega)
 repeat refine sq ?_
 refine rs hΓ [0,3,5] [] ?_
 repeat refine sq ?_
 refine au rfl rfl (fun hb=>?_) (fun hb=>?_)
 ·have Li:9<m:=by
   have :(m:Int)>9:=by simpa using hb
   omega
  repeat refine sq ?_
  refine av ?_
  repeat refine sq ?_
  refine aO ?_
  repeat refine sq ?_
  refine rx hΓ [0,3] [] (fun K' hK=>by simp only[go_sem,d1,d3,d4,r3,sS,sV,nR];(repeat (refine⟨by first | (simp only[pc,maxLen,List.length_cons,List.length_nil];omega) | exact ob,?_⟩));exact hK _ (by simp only[go_sem,d1,d3,d4,r3,sS,sV,nR]) (by simp only[go_sem,d1,d3,d4,r3,sS,sV,nR]<;>rfl)) ?_
  repeat refine sq ?_
  refine aL hΓ fun K' hK=>?_
  simp only[go_sem,d2,d5]
  repeat (refine⟨ob,?_⟩)
  refine hK _ ?_
  clear K' hK
  simp only[go_sem]
  refine⟨(m / 10,UInt8.ofNat (48+m % 10)::acc),⟨by show m / 10<=N;omega,?_⟩,by show m / 10<m;omega,?_⟩
  ·rw[hR,M2 Li,List.append_assoc];rfl
  refine bk [0,3] [] ?_ ?_
  ·simp only[go_sem]
  ·simp only[go_sem]
 ·have hle:m<=9:=by
   have :¬ (m:Int)>9:=by simpa using hb
   omega
  have XT:m % 10=m:=by omega
  rw[XT]at d3 d4 r3
  have C3:IntKind.i64.wrap (48+(m:Int))=((48+m:Nat):Int):=d3
  repeat refine sq ?_
  refine b7 ?_
  simp only[go_sem]
  refine kp [0,3] [] ?_
  repeat refine sq ?_
  refine rx hΓ [2] [] (fun K' hK=>by simp only[go_sem,C3,d4,r3,sS,sV,nR];(repeat (refine⟨by first | (simp only[pc,maxLen,List.length_cons,List.length_nil];omega) | exact ob,?_⟩));exact hK _ (by simp only[go_sem,C3,d4,r3,sS,sV,nR]) (by simp only[go_sem,C3,d4,r3,sS,sV,nR]<;>rfl)) ?_
  refine an ?_
  simp only[go_sem]
  have :Lib.decDigits m=[UInt8.ofNat (48+m)]:=Lib.decDigits_one (by omega)
  rw[CQ (by omega),Int.toNat_natCast,hR,this]
  all_goals first | rfl | (simp;done)
theorem Wp:al Tryz.prog 125 S125:=Sc.sound
@[go_sem] theorem afB:(if (#[32]:Array UInt8).size<=maxLen then D.v (.str ⟨#[32]⟩)else D.any)=D.v (.str (dO [32])):=by
  rw[if_pos (by unfold maxLen;decide)];rfl
@[go_sem] theorem afD:(if (#[10]:Array UInt8).size<=maxLen then D.v (.str ⟨#[10]⟩)else D.any)=D.v (.str (dO [10])):=by
  rw[if_pos (by unfold maxLen;decide)];rfl
def bQ(n:Int):Prop:=0<=n/\n<=1000000
theorem qV{n:Int}(h:bQ n):rr n:=⟨by have:=h.1;omega,by have:=h.2;omega⟩
theorem WD{n:Int}(h:bQ n):(Lib.itoa n).length<=21:=Lib.itoa_length_le n (qV h).1 (qV h).2
theorem kT{α:Type}{l:List α}{k:Nat}(h:k<l.length)(z:α):l.getD k z=l[k]:=by
 simp[List.getD,List.getElem?_eq_getElem h]
def l3(w:ByteArray)(l:List Int):Nat->ByteArray
 | 0=>w
 |i+1=>l3 w l i++dO (32::Lib.itoa (l.getD i 0))
theorem BQ(w:ByteArray)(l:List Int):∀ k,k<=l.length->l3 w l k=dO (j6 w l k)
 | 0,_=>by
   unfold j6
   rw[List.take_zero,List.flatMap_nil,List.append_nil]
   rfl
 |k+1,h=>by
  rw[l3,BQ w l k (by omega),Cr w l (by omega),nR,kT (show k<l.length by omega)]
theorem BP{w:ByteArray}{l:List Int}(hl:∀ n∈l,bQ n){k:Nat}(h:k<=l.length):(l3 w l k).size<=w.size+22*k:=by
 rw[BQ w l k h,pc]
 exact yC w l (fun n hn=>qV (hl n hn)) k h
theorem HQ{w:ByteArray}{l:List Int}:l3 w l l.length++dO [10]=du w l:=by
 rw[BQ w l _ (Nat.le_refl _),nR]
 rfl
noncomputable def K6:List (Nat×Spec):=[(125,S125)]
theorem abS:∀ f s,tbl K6 f=some s->al Tryz.prog f s:=tc Wp<|tn
attribute [go_sem] K6
noncomputable def P111:PSpec:=p2 pD dY (fun w l=>w.size<=1000/\l.length<=1000000/\∀ n∈l,bQ n) (fun w l=>.str (du w l)) true
noncomputable def S111:Spec:=P111.toSpec
attribute [go_sem] P111 S111
set_option maxHeartbeats 4000000 in
theorem Sg:aQ Tryz.prog 111 P111:=by
 refine w2 (rs:=[.tmp 4]) Tryz.func111 Tryz.ntmps111 (by rfl) (by kernel_rfl) (by decide) (fun _ _ _=>rfl) ⟨_,rfl,lb rfl,fun w l hp hw=>?_⟩
 have hP:=ba
 simp only[dY,pD]at hw |-
 have hΓ:=abS
 obtain⟨nk,rH,Ds⟩:=hp
 have hl:l.length<=maxLen:=by unfold maxLen;omega
 repeat refine sq ?_
 refine rs hΓ [0,1] [] ?_
 repeat refine sq ?_
 refine rs hΓ [0,1,5] [] ?_
 repeat refine sq ?_
 refine aO ?_
 repeat refine sq ?_
 refine cv (fun s:Nat=>[(5,⟨true,.v (vInt s)⟩),(0,⟨true,.v (.str (l3 w l s))⟩)]) (fun s=>[]) (fun s=>s<=l.length) (fun s=>l.length-s) 0 ?_ ?_ ?_ ?_
 ·exact Nat.zero_le _
 ·rfl
 ·rfl
 rintro i hi
 simp only[go_sem]
 repeat refine sq ?_
 refine rs hΓ [0,1,5,9] [] ?_
 repeat refine sq ?_
 refine au rfl rfl (fun hb=>?_) (fun hb=>?_)
 ·have ae:i<l.length:=by simpa using hb
  have ai:(i:Int)<l.length:=by omega
  clear hb
  have hn:=Ds _ (List.getElem_mem ae)
  have K3:=hn.1
  have fe:=hn.2
  have dZ:=WD hn
  have pE:=BP (w:=w) Ds (Nat.le_of_lt ae)
  have fP:(dO [32]).size+(dO (Lib.itoa l[i])).size<=maxLen:=by rw[pc,pc];unfold maxLen;simp only[List.length_cons,List.length_nil];omega
  have lx:(l3 w l i).size+(dO (32::Lib.itoa l[i])).size<=maxLen:=by rw[pc];unfold maxLen;simp only[List.length_cons];omega
  have he:l3 w l i++dO (32::Lib.itoa l[i])=l3 w l (i+1):=by rw[l3,kT ae]
  repeat refine sq ?_
  refine av ?_
  repeat refine sq ?_
  refine aO ?_
  repeat refine sq ?_
  refine aL hΓ fun K' hK=>?_
  simp only[go_sem,Int.toNat_natCast,Int.natCast_nonneg,ai,aI ae,aI ae,Int.toNat_natCast,Int.natCast_nonneg,ai,fP,lx,nR,he]
  repeat (refine⟨ob,?_⟩)
  refine hK _ ?_
  clear K' hK
  simp only[go_sem]
  refine kp [0,1,5] [] ?_
  repeat refine sq ?_
  refine aL hΓ fun K' hK=>?_
  simp only[go_sem,Int.toNat_natCast,Int.natCast_nonneg,ai,aI ae]
  repeat (refine⟨ob,?_⟩)
  refine hK _ ?_
  clear K' hK
  simp only[go_sem]
  refine⟨i+1,ae,by(show l.length-(i+1)<l.length-i;omega),?_⟩
  refine bk [0,1,5] [] ?_ ?_
  ·simp only[go_sem,aD ae hl,Int.natCast_add,Int.natCast_one]
  ·simp only[go_sem,aD ae hl,Int.natCast_add,Int.natCast_one]
 ·have aW:i=l.length:=by
   have :¬ (i:Int)<l.length:=by simpa using hb
   omega
  clear hb
  subst aW
  have pE:=BP (w:=w) Ds (Nat.le_refl _)
  have ry:(l3 w l l.length).size+(dO [10]).size<=maxLen:=by rw[pc];unfold maxLen;simp only[List.length_cons,List.length_nil];omega
  repeat refine sq ?_
  refine b7 ?_
  simp only[go_sem]
  refine kp [0] [] ?_
  repeat refine sq ?_
  refine rx hΓ [4] [] (fun K' hK=>by simp only[go_sem,ry,HQ];(repeat (refine⟨ob,?_⟩));exact hK _ (by simp only[go_sem]) (by simp only[go_sem]<;>rfl)) ?_
  refine an ?_
  simp only[go_sem]
  skip
theorem Wt:al Tryz.prog 111 S111:=Sg.sound
theorem L4{α:Type}{l:List α}{x:α}(h:x∈l)(z:α):∃ k,k<l.length/\l.getD k z=x:=by
 obtain⟨k,hk,rfl⟩:=List.mem_iff_getElem.1 h
 exact⟨k,hk,kT hk z⟩
structure ev (s:Stk):Prop where
 hol:s.ho.length<=40
 ho:∀ n∈s.ho,bQ n
 unl:∀ i,i<6->(s.un.get i).length<=40
 un:∀ i,i<6->∀ p∈s.un.get i,bQ p.no/\bQ p.pa
 se:∀ i,i<6->bQ (s.se.get i)
 ta:∀ i,i<6->bQ (s.ta.get i)
theorem rm{n lo hi:Int}(h:aY n lo hi=true)(h0:0<=lo)(h1:hi<=1000000):bQ n:=by
 obtain⟨a,b⟩:=dQ.1 h
 exact⟨by omega,by omega⟩
theorem tq{l:List Int}(h:fJ l=true):l.length<=40/\∀ n∈l,bQ n:=by
 unfold fJ at h
 rw[Bool.and_eq_true,decide_eq_true_eq,jf]at h
 refine⟨h.2,fun n hn=>?_⟩
 obtain⟨k,hk,rfl⟩:=L4 hn 0
 have :=h.1 k hk
 unfold kC at this
 rw[Bool.and_eq_true]at this
 exact rm this.1 (by omega) (by omega)
theorem HY{l:List Par}(h:cf l=true):l.length<=40/\∀ p∈l,bQ p.no/\bQ p.pa:=by
 unfold cf at h
 rw[Bool.and_eq_true,decide_eq_true_eq,jf]at h
 refine⟨h.2,fun n hn=>?_⟩
 obtain⟨k,hk,rfl⟩:=L4 hn default
 have :=h.1 k hk
 unfold fI at this
 rw[Bool.and_eq_true,Bool.and_eq_true]at this
 exact⟨rm this.1.1 (by omega) (by omega),rm this.1.2 (by omega) (by omega)⟩
theorem vq{me:Int}{s:Stk}(h:c9 me s=true):ev s:=by
 unfold c9 at h
 simp only[Bool.and_eq_true]at h
 obtain⟨⟨⟨⟨⟨h0,h1⟩,h2⟩,h3⟩,h4⟩,h5⟩:=h
 have hA:=jf.1 h5
 have hB:∀ i,i<6->aY (s.se.get i) 0 99999=true/\aY (s.ta.get i) 0 99999=true/\cf (s.un.get i)=true:=by
  intro i hi
  have :=hA i hi
  unfold fU at this
  simp only[Bool.and_eq_true]at this
  exact⟨this.1.1.1,this.1.1.2,this.1.2⟩
 exact⟨(tq h1).1,(tq h1).2,fun i hi=>(HY (hB i hi).2.2).1,fun i hi=>(HY (hB i hi).2.2).2,fun i hi=>rm (hB i hi).1 (by omega) (by omega),fun i hi=>rm (hB i hi).2.1 (by omega) (by omega)⟩
def qu:ByteArray:=dO [104,111,108,100,115]
def kr:ByteArray:=dO [117,110,100,101,114]
def lr:ByteArray:=dO [115,101,110,116]
def mR:ByteArray:=dO [116,97,107,101,110]
@[go_sem] theorem afF:(if (#[104,111,108,100,115]:Array UInt8).size<=maxLen then D.v (.str ⟨#[104,111,108,100,115]⟩)else D.any)=D.v (.str qu):=by
  rw[if_pos (by unfold maxLen;decide)];rfl
@[go_sem] theorem afz:(if (#[117,110,100,101,114]:Array UInt8).size<=maxLen then D.v (.str ⟨#[117,110,100,101,114]⟩)else D.any)=D.v (.str kr):=by
  rw[if_pos (by unfold maxLen;decide)];rfl
@[go_sem] theorem afC:(if (#[115,101,110,116]:Array UInt8).size<=maxLen then D.v (.str ⟨#[115,101,110,116]⟩)else D.any)=D.v (.str lr):=by
  rw[if_pos (by unfold maxLen;decide)];rfl
@[go_sem] theorem afA:(if (#[116,97,107,101,110]:Array UInt8).size<=maxLen then D.v (.str ⟨#[116,97,107,101,110]⟩)else D.any)=D.v (.str mR):=by
  rw[if_pos (by unfold maxLen;decide)];rfl
def gl(a:ByteArray)(i:Nat)(l:List Par):Nat->ByteArray
 | 0=>a
 |j+1=>gl a i l j++du kr [(i:Int),(l.getD j default).no,(l.getD j default).pa]
def ee(s:Stk):Nat->ByteArray
 | 0=>du qu s.ho
 |i+1=>gl (ee s i) i (s.un.get i) (s.un.get i).length
theorem ya(s:Stk)(i:Nat):gl (ee s i) i (s.un.get i) (s.un.get i).length=ee s (i+1):=rfl
def cR(s:Stk):ByteArray:=ee s 6++du lr (s.se.L id)++du mR (s.ta.L id)
theorem yA{w:ByteArray}{l:List Int}(h:∀ n∈l,bQ n):(du w l).size<=w.size+22*l.length+1:=by
 rw[<-HQ,ByteArray.size_append,pc]
 have :=BP (w:=w) h (Nat.le_refl _)
 simp only[List.length_cons,List.length_nil]
 omega
theorem Tq{i:Nat}(h:i<6):bQ (i:Int):=⟨by omega,by omega⟩
theorem yj{i:Nat}(hi:i<6){p:Par}(h:bQ p.no/\bQ p.pa):∀ n∈[(i:Int),p.no,p.pa],bQ n:=by
 intro n hn
 simp only[List.mem_cons,List.not_mem_nil,or_false]at hn
 rcases hn with rfl | rfl | rfl
 ·exact Tq hi
 ·exact h.1
 ·exact h.2
theorem Ba{i:Nat}(hi:i<6){p:Par}(h:bQ p.no/\bQ p.pa):(du kr [(i:Int),p.no,p.pa]).size<=72:=by
 have :=yA (w:=kr) (yj hi h)
 have hw:kr.size=5:=rfl
 simp only[List.length_cons,List.length_nil]at this
 omega
theorem xw{a:ByteArray}{i:Nat}(hi:i<6){l:List Par}(h:∀ p∈l,bQ p.no/\bQ p.pa):∀ k,k<=l.length->(gl a i l k).size<=a.size+72*k
 | 0,_=>by show a.size<=_;omega
 |k+1,hk=>by
  have h1:=xw (a:=a) hi h k (by omega)
  have h2:=Ba hi (h _ (by rw[kT (show k<l.length by omega) default];exact List.getElem_mem (by omega):l.getD k default∈l))
  show (gl a i l k++du kr [(i:Int),(l.getD k default).no,(l.getD k default).pa]).size<=_
  rw[ByteArray.size_append]
  omega
theorem tu{s:Stk}(hs:ev s):∀ i,i<=6->(ee s i).size<=886+2880*i
 | 0,_=>by
   have h1:=yA (w:=qu) hs.ho
   have h2:=hs.hol
   have hw:qu.size=5:=rfl
   show (du qu s.ho).size<=_
   omega
 |i+1,hi=>by
  have h0:=tu hs i (by omega)
  have h1:=xw (a:=ee s i) (show i<6 by omega) (hs.un i (by omega)) _ (Nat.le_refl _)
  have h2:=hs.unl i (by omega)
  show (gl (ee s i) i (s.un.get i) (s.un.get i).length).size<=_
  omega
theorem ph{s:bj Int}(h:∀ i,i<6->bQ (s.get i)):∀ n∈s.L id,bQ n:=by
 intro n hn
 simp only[bj.L,List.mem_cons,List.not_mem_nil,or_false,id]at hn
 rcases hn with rfl | rfl | rfl | rfl | rfl | rfl
 ·exact h 0 (by omega)
 ·exact h 1 (by omega)
 ·exact h 2 (by omega)
 ·exact h 3 (by omega)
 ·exact h 4 (by omega)
 ·exact h 5 (by omega)
theorem Bw{s:Stk}(hs:ev s):(du lr (s.se.L id)).size<=137:=by
 have :=yA (w:=lr) (ph hs.se)
 have hw:lr.size=4:=rfl
 rw[bj.L_len]at this
 omega
theorem Bc{s:Stk}(hs:ev s):(du mR (s.ta.L id)).size<=138:=by
 have :=yA (w:=mR) (ph hs.ta)
 have hw:mR.size=5:=rfl
 rw[bj.L_len]at this
 omega
theorem GG{s:Stk}(hs:ev s):(cR s).size<=20000:=by
 unfold cR
 rw[ByteArray.size_append,ByteArray.size_append]
 have h1:=tu hs 6 (by omega)
 have h2:=Bw hs
 have h3:=Bc hs
 omega
noncomputable def K7:List (Nat×Spec):=[(110,S110),(111,S111)]
theorem OG:∀ f s,tbl K7 f=some s->al Tryz.prog f s:=tc Wu<|tc Wt<|tn
attribute [go_sem] K7
noncomputable def P91:PSpec:=p1 fb (fun s=>ev s) (fun s=>.str (cR s)) true
noncomputable def S91:Spec:=P91.toSpec
attribute [go_sem] P91 S91
set_option maxHeartbeats 4000000 in
theorem Hn:aQ Tryz.prog 91 P91:=by
 refine w1 (rs:=[.tmp 2]) Tryz.func91 Tryz.ntmps91 (by rfl) (by kernel_rfl) (by decide) (fun _ _=>rfl) ⟨_,rfl,lb rfl,fun s hp hw=>?_⟩
 have hP:=ba
 simp only[fb]at hw |-
 have hΓ:=OG
 have hs:ev s:=hp
 have c1:qu.size<=1000/\s.ho.length<=1000000/\∀ n∈s.ho,rr n:=⟨by decide,by have:=hs.hol;omega,fun n hn=>qV (hs.ho n hn)⟩
 repeat refine sq ?_
 refine rs hΓ [1] [[1,0]] ?_
 refine aE (bz [1,0] (aB s) rfl [1] [[1,0]] ?_ rfl) ?_
 ·simp only[go_sem]
 simp only[go_sem]
 repeat refine sq ?_
 refine rx hΓ [1,3] [[1,0]] (fun K' hK=>by simp only[go_sem];(repeat (refine⟨by first | exact c1 | exact ob,?_⟩));exact hK _ (by simp only[go_sem]) (by simp only[go_sem]<;>rfl)) ?_
 repeat refine sq ?_
 refine rs hΓ [1,3,12,13] [[1,0]] ?_
 repeat refine sq ?_
 refine aO ?_
 repeat refine sq ?_
 refine cv (fun z:Nat=>[(13,⟨true,.v (vInt z)⟩),(3,⟨true,.v (.str (ee s z))⟩)]) (fun z=>[]) (fun z=>z<=6) (fun z=>6-z) 0 ?_ ?_ ?_ ?_
 ·exact Nat.zero_le _
 ·rfl
 ·rfl
 rintro i hi
 simp only[go_sem]
 repeat refine sq ?_
 refine rs hΓ [1,3,12,13,14] [[1,0]] ?_
 repeat refine sq ?_
 refine au rfl rfl (fun hb=>?_) (fun hb=>?_)
 ·have ae:i<6:=by have hq:(i:Int)<6:=(by simpa using hb);omega
  have ai:(i:Int)<6:=by omega
  clear hb
  repeat refine sq ?_
  refine av ?_
  repeat refine sq ?_
  refine aO ?_
  repeat refine sq ?_
  refine rx hΓ [1,3,4,5,12,13] [[1,0]] (fun K' hK=>by simp only[go_sem,Int.toNat_natCast,Int.natCast_nonneg,ai,bj.L_get s.un rowP default ae,Int.toNat_natCast,Int.natCast_nonneg,ai];(repeat (refine⟨ob,?_⟩));exact hK _ (by simp only[go_sem]) (by simp only[go_sem]<;>rfl)) ?_
  repeat refine sq ?_
  refine rx hΓ [1,3,4,12,13,17,18,19] [[1,0]] (fun K' hK=>by simp only[go_sem,Int.toNat_natCast,Int.natCast_nonneg,ai];(repeat (refine⟨ob,?_⟩));exact hK _ (by simp only[go_sem]) (by simp only[go_sem]<;>rfl)) ?_
  repeat refine sq ?_
  refine aO ?_
  repeat refine sq ?_
  refine cv (fun z:Nat=>[(19,⟨true,.v (vInt z)⟩),(3,⟨true,.v (.str (gl (ee s i) i (s.un.get i) z))⟩)]) (fun z=>[]) (fun z=>z<=(s.un.get i).length) (fun z=>(s.un.get i).length-z) 0 ?_ ?_ ?_ ?_
  ·exact Nat.zero_le _
  ·rfl
  ·rfl
  rintro i1 hi
  simp only[go_sem]
  repeat refine sq ?_
  refine rx hΓ [1,3,4,12,13,17,18,19,20] [[1,0]] (fun K' hK=>by simp only[go_sem,Int.toNat_natCast,Int.natCast_nonneg,ai];(repeat (refine⟨ob,?_⟩));exact hK _ (by simp only[go_sem]) (by simp only[go_sem]<;>rfl)) ?_
  repeat refine sq ?_
  refine au rfl rfl (fun hb=>?_) (fun hb=>?_)
  ·have bL:i1<(s.un.get i).length:=by simpa using hb
   have gU:(i1:Int)<(s.un.get i).length:=by omega
   clear hb
   have hq:=hs.un i ae _ (List.getElem_mem bL)
   have c8:kr.size<=1000/\[(i:Int),(s.un.get i)[i1].no,(s.un.get i)[i1].pa].length<=1000000/\∀ n∈[(i:Int),(s.un.get i)[i1].no,(s.un.get i)[i1].pa],rr n:=⟨by decide,by show 3<=1000000;omega,fun n hn=>qV (yj ae hq n hn)⟩
   have fP:=Ba ae hq
   have lx:=xw (a:=ee s i) ae (hs.un i ae) i1 (Nat.le_of_lt bL)
   have pE:=tu hs i (Nat.le_of_lt ae)
   have ry:=hs.unl i ae
   have hz:(gl (ee s i) i (s.un.get i) i1).size+(du kr [(i:Int),(s.un.get i)[i1].no,(s.un.get i)[i1].pa]).size<=maxLen:=by unfold maxLen;omega
   have he:gl (ee s i) i (s.un.get i) i1++du kr [(i:Int),(s.un.get i)[i1].no,(s.un.get i)[i1].pa]=gl (ee s i) i (s.un.get i) (i1+1):=by rw[gl,kT bL]
   repeat refine sq ?_
   refine av ?_
   repeat refine sq ?_
   refine aO ?_
   repeat refine sq ?_
   refine rx hΓ [1,3,4,7,12,13,17,18,19] [[1,0],[7,0]] (fun K' hK=>by simp only[go_sem,Int.toNat_natCast,Int.natCast_nonneg,ai,Int.toNat_natCast,Int.natCast_nonneg,gU,aI bL];(repeat (refine⟨ob,?_⟩));exact hK _ (by simp only[go_sem]) (by simp only[go_sem]<;>rfl)) ?_
   repeat refine sq ?_
   refine aL hΓ fun K' hK=>?_
   simp only[go_sem,Int.toNat_natCast,Int.natCast_nonneg,ai,Int.toNat_natCast,Int.natCast_nonneg,gU,aI bL,hz,he]
   repeat (refine⟨by first | exact c8 | exact ob,?_⟩)
   refine hK _ ?_
   clear K' hK
   simp only[go_sem]
   refine kp [1,3,4,12,13,17,18,19] [[1,0]] ?_
   repeat refine sq ?_
   refine aL hΓ fun K' hK=>?_
   simp only[go_sem,Int.toNat_natCast,Int.natCast_nonneg,ai,Int.toNat_natCast,Int.natCast_nonneg,gU,aI bL]
   repeat (refine⟨ob,?_⟩)
   refine hK _ ?_
   clear K' hK
   simp only[go_sem]
   refine⟨i1+1,bL,by(show (s.un.get i).length-(i1+1)<(s.un.get i).length-i1;omega),?_⟩
   refine bk [1,3,4,12,13,17,18,19] [[1,0]] ?_ ?_
   ·simp only[go_sem,aD bL (sP hw ae),Int.natCast_add,Int.natCast_one]
   ·simp only[go_sem,aD bL (sP hw ae),Int.natCast_add,Int.natCast_one]
  ·have wk:i1=(s.un.get i).length:=by
    have :¬ (i1:Int)<(s.un.get i).length:=by simpa using hb
    omega
   clear hb
   subst wk
   repeat refine sq ?_
   refine b7 ?_
   simp only[go_sem]
   refine kp [1,3,12,13] [[1,0]] ?_
   repeat refine sq ?_
   refine aL hΓ fun K' hK=>?_
   simp only[go_sem,Int.toNat_natCast,Int.natCast_nonneg,ai]
   repeat (refine⟨ob,?_⟩)
   refine hK _ ?_
   clear K' hK
   simp only[go_sem]
   refine⟨i+1,ae,by(show 6-(i+1)<6-i;omega),?_⟩
   refine bk [1,3,12,13] [[1,0]] ?_ ?_
   ·simp only[go_sem,aD ae (lb rfl:(6:Nat)<=maxLen),Int.natCast_add,Int.natCast_one,ya s i]
   ·simp only[go_sem,aD ae (lb rfl:(6:Nat)<=maxLen),Int.natCast_add,Int.natCast_one,ya s i]
 ·have aW:i=6:=by
   have :¬ (i:Int)<6:=by simpa using hb
   omega
  clear hb
  subst aW
  have fP:=tu hs 6 (Nat.le_refl _)
  have lx:=Bw hs
  have pE:=Bc hs
  have c2:lr.size<=1000/\(s.se.L id).length<=1000000/\∀ n∈s.se.L id,rr n:=⟨by decide,by show 6<=1000000;omega,fun n hn=>qV (ph hs.se n hn)⟩
  have c3:mR.size<=1000/\(s.ta.L id).length<=1000000/\∀ n∈s.ta.L id,rr n:=⟨by decide,by show 6<=1000000;omega,fun n hn=>qV (ph hs.ta n hn)⟩
  have ry:(ee s 6).size+(du lr (s.se.L id)).size<=maxLen:=by unfold maxLen;omega
  have C1:(ee s 6++du lr (s.se.L id)).size+(du mR (s.ta.L id)).size<=maxLen:=by rw[ByteArray.size_append];unfold maxLen;omega
  repeat refine sq ?_
  refine b7 ?_
  simp only[go_sem]
  refine kp [1,3] [[1,0]] ?_
  repeat refine sq ?_
  refine dx hΓ hP [[],[],[1],[1,2],[0,1,2,3],[],[5],[1,2,3,5,6],[0,1,2,3,4,5,6,7],[0,1,2,3,4,5,6,7,8]] [2] [] (by kernel_rfl) (fun K' hK=>by simp only[go_sem,ry,C1];(repeat (refine⟨by first | exact c2 | exact c3 | exact ob,?_⟩));(first | refine⟨by rfl,?_⟩ | skip);exact hK _ (by simp only[go_sem]) (by simp only[go_sem]<;>rfl)) ?_
  refine an ?_
  simp only[go_sem]
  first | rfl
theorem VN:al Tryz.prog 91 S91:=Hn.sound
def nT(x:bj Int)(z:Nat):List Int:=(x.L id).take z
theorem G3(x:bj Int){z:Nat}(h:z<=6):(nT x z).length=z:=by
 unfold nT
 rw[List.length_take,bj.L_len]
 omega
theorem xL(x:bj Int){z:Nat}(h:z<6):nT x (z+1)=nT x z++[x.get z]:=by
 match z,h with
 | 0,_=>rfl
 | 1,_=>rfl
 | 2,_=>rfl
 | 3,_=>rfl
 | 4,_=>rfl
 | 5,_=>rfl
theorem QF(x:bj Int):nT x 6=x.L id:=rfl
noncomputable def P92:PSpec:=p1 fb (fun s=>ev s) (fun s=>.str (cR s)) true
noncomputable def S92:Spec:=P92.toSpec
attribute [go_sem] P92 S92
set_option maxHeartbeats 4000000 in
theorem Rl:aQ Tryz.prog 92 P92:=by
 refine w1 (rs:=[.tmp 2]) Tryz.func92 Tryz.ntmps92 (by rfl) (by kernel_rfl) (by decide) (fun _ _=>rfl) ⟨_,rfl,lb rfl,fun s hp hw=>?_⟩
 have hP:=ba
 simp only[fb]at hw |-
 have hΓ:=OG
 have hs:ev s:=hp
 have c1:qu.size<=1000/\s.ho.length<=1000000/\∀ n∈s.ho,bQ n:=⟨by decide,by have:=hs.hol;omega,hs.ho⟩
 have fP:=tu hs 6 (Nat.le_refl _)
 have lx:=Bw hs
 have pE:=Bc hs
 have c2:lr.size<=1000/\(s.se.L id).length<=1000000/\∀ n∈s.se.L id,bQ n:=⟨by decide,by show 6<=1000000;omega,ph hs.se⟩
 have c3:mR.size<=1000/\(s.ta.L id).length<=1000000/\∀ n∈s.ta.L id,bQ n:=⟨by decide,by show 6<=1000000;omega,ph hs.ta⟩
 have ry:(ee s 6).size+(du lr (s.se.L id)).size<=maxLen:=by unfold maxLen;omega
 have C1:(ee s 6++du lr (s.se.L id)).size+(du mR (s.ta.L id)).size<=maxLen:=by rw[ByteArray.size_append];unfold maxLen;omega
 repeat refine sq ?_
 refine rs hΓ [1] [[1,0]] ?_
 refine aE (bz [1,0] (aB s) rfl [1] [[1,0]] ?_ rfl) ?_
 ·simp only[go_sem]
 simp only[go_sem]
 repeat refine sq ?_
 refine rx hΓ [1,3] [[1,0]] (fun K' hK=>by simp only[go_sem];(repeat (refine⟨by first | exact c1 | exact ob,?_⟩));exact hK _ (by simp only[go_sem]) (by simp only[go_sem]<;>rfl)) ?_
 repeat refine sq ?_
 refine rs hΓ [1,3,4] [[1,0]] ?_
 repeat refine sq ?_
 refine aO ?_
 repeat refine sq ?_
 refine cv (fun z:Nat=>[(4,⟨true,.v (vInt z)⟩),(3,⟨true,.v (.str (ee s z))⟩)]) (fun z=>[]) (fun z=>z<=6) (fun z=>6-z) 0 ?_ ?_ ?_ ?_
 ·exact Nat.zero_le _
 ·rfl
 ·rfl
 rintro i hi
 simp only[go_sem]
 repeat refine sq ?_
 refine rs hΓ [1,3,4,13] [[1,0]] ?_
 repeat refine sq ?_
 refine au rfl rfl (fun hb=>?_) (fun hb=>?_)
 ·have ae:i<6:=by have hq:(i:Int)<6:=(by simpa using hb);omega
  have ai:(i:Int)<6:=by omega
  clear hb
  repeat refine sq ?_
  refine av ?_
  repeat refine sq ?_
  refine aO ?_
  repeat refine sq ?_
  refine rx hΓ [1,3,4,5] [[1,0]] (fun K' hK=>by simp only[go_sem,Int.toNat_natCast,Int.natCast_nonneg,ai];(repeat (refine⟨ob,?_⟩));exact hK _ (by simp only[go_sem]) (by simp only[go_sem]<;>rfl)) ?_
  repeat refine sq ?_
  refine aO ?_
  repeat refine sq ?_
  refine cv (fun z:Nat=>[(5,⟨true,.v (vInt z)⟩),(3,⟨true,.v (.str (gl (ee s i) i (s.un.get i) z))⟩)]) (fun z=>[]) (fun z=>z<=(s.un.get i).length) (fun z=>(s.un.get i).length-z) 0 ?_ ?_ ?_ ?_
  ·exact Nat.zero_le _
  ·rfl
  ·rfl
  rintro i1 hi
  simp only[go_sem]
  repeat refine sq ?_
  refine rx hΓ [1,3,4,5,22] [[1,0]] (fun K' hK=>by simp only[go_sem,Int.toNat_natCast,Int.natCast_nonneg,ai,cN s ae,Int.toNat_natCast,Int.natCast_nonneg,ai];(repeat (refine⟨ob,?_⟩));exact hK _ (by simp only[go_sem]) (by simp only[go_sem]<;>rfl)) ?_
  repeat refine sq ?_
  refine au rfl rfl (fun hb=>?_) (fun hb=>?_)
  ·have bL:i1<(s.un.get i).length:=by simpa using hb
   have gU:(i1:Int)<(s.un.get i).length:=by omega
   clear hb
   have hq:=hs.un i ae _ (List.getElem_mem bL)
   have c8:kr.size<=1000/\[(i:Int),(s.un.get i)[i1].no,(s.un.get i)[i1].pa].length<=1000000/\∀ n∈[(i:Int),(s.un.get i)[i1].no,(s.un.get i)[i1].pa],bQ n:=⟨by decide,by show 3<=1000000;omega,yj ae hq⟩
   have fP:=Ba ae hq
   have lx:=xw (a:=ee s i) ae (hs.un i ae) i1 (Nat.le_of_lt bL)
   have pE:=tu hs i (Nat.le_of_lt ae)
   have ry:=hs.unl i ae
   have hz:(gl (ee s i) i (s.un.get i) i1).size+(du kr [(i:Int),(s.un.get i)[i1].no,(s.un.get i)[i1].pa]).size<=maxLen:=by unfold maxLen;omega
   have he:gl (ee s i) i (s.un.get i) i1++du kr [(i:Int),(s.un.get i)[i1].no,(s.un.get i)[i1].pa]=gl (ee s i) i (s.un.get i) (i1+1):=by rw[gl,kT bL]
   repeat refine sq ?_
   refine av ?_
   repeat refine sq ?_
   refine aO ?_
   repeat refine sq ?_
   refine km hΓ hP [[],[],[],[],[2,3],[2,3,4],[],[2,3,4,5,6],[2,3,4,5,6,7],[2,3,4,5,6,7,8],[],[],[10,11],[10,11,12],[],[10,11,12,13,14],[10,11,12,13,14,15],[10,11,12,13,14,15,16],[1,2,3,4,5,6,7,8,9,10,11,12,13,14,15,16,17],[1,2,3,4,5,6,7,8,9,10,11,12,13,14,15,16,17,18],[0,1,2,3,4,5,6,7,8,9,10,11,12,13,14,15,16,17,18,19],[0,1,2,3,4,5,6,7,8,9,10,11,12,13,14,15,16,17,18,19,20]] (by kernel_rfl) fun K' hK=>?_
   simp only[go_sem,Int.toNat_natCast,Int.natCast_nonneg,ai,Int.toNat_natCast,Int.natCast_nonneg,gU,ai,aI bL,cN s ae,hz,he,cN s ae,Int.toNat_natCast,Int.natCast_nonneg,ai,gU,aI bL]
   repeat (refine⟨by first | exact c8 | exact ob,?_⟩)
   first | refine⟨by rfl,?_⟩ | skip
   refine hK _ ?_
   clear K' hK
   simp only[go_sem]
   refine kp [1,3,4,5] [[1,0]] ?_
   repeat refine sq ?_
   refine aL hΓ fun K' hK=>?_
   simp only[go_sem,Int.toNat_natCast,Int.natCast_nonneg,ai,Int.toNat_natCast,Int.natCast_nonneg,gU,ai,aI bL,cN s ae]
   repeat (refine⟨ob,?_⟩)
   refine hK _ ?_
   clear K' hK
   simp only[go_sem]
   refine⟨i1+1,bL,by(show (s.un.get i).length-(i1+1)<(s.un.get i).length-i1;omega),?_⟩
   refine bk [1,3,4,5] [[1,0]] ?_ ?_
   ·simp only[go_sem,aD bL (sP hw ae),Int.natCast_add,Int.natCast_one]
   ·simp only[go_sem,aD bL (sP hw ae),Int.natCast_add,Int.natCast_one]
  ·have wk:i1=(s.un.get i).length:=by
    have :¬ (i1:Int)<(s.un.get i).length:=by simpa using hb
    omega
   clear hb
   subst wk
   repeat refine sq ?_
   refine b7 ?_
   simp only[go_sem]
   refine kp [1,3,4] [[1,0]] ?_
   repeat refine sq ?_
   refine aL hΓ fun K' hK=>?_
   simp only[go_sem,Int.toNat_natCast,Int.natCast_nonneg,ai]
   repeat (refine⟨ob,?_⟩)
   refine hK _ ?_
   clear K' hK
   simp only[go_sem]
   refine⟨i+1,ae,by(show 6-(i+1)<6-i;omega),?_⟩
   refine bk [1,3,4] [[1,0]] ?_ ?_
   ·simp only[go_sem,aD ae (lb rfl:(6:Nat)<=maxLen),Int.natCast_add,Int.natCast_one,ya s i]
   ·simp only[go_sem,aD ae (lb rfl:(6:Nat)<=maxLen),Int.natCast_add,Int.natCast_one,ya s i]
 ·have aW:i=6:=by
   have :¬ (i:Int)<6:=by simpa using hb
   omega
  clear hb
  subst aW
  repeat refine sq ?_
  refine b7 ?_
  simp only[go_sem]
  refine kp [1,3] [[1,0]] ?_
  repeat refine sq ?_
  refine rs hΓ [1,3,6] [[1,0],[56,0]] ?_
  refine aE (xu 6 [56,0] 1 (by simp only[go_sem]) (by simp only[go_sem]) [1,3,6] [[1,0],[56,0]] ?_ rfl) ?_
  ·simp only[go_sem]
  simp only[go_sem]
  repeat refine sq ?_
  refine rs hΓ [1,3,6,7] [[1,0],[56,0],[63,0]] ?_
  refine aE (xu 7 [63,0] 1 (by simp only[go_sem]) (by simp only[go_sem]) [1,3,6,7] [[1,0],[56,0],[63,0]] ?_ rfl) ?_
  ·simp only[go_sem]
  simp only[go_sem]
  repeat refine sq ?_
  refine rs hΓ [1,3,6,7,8] [[1,0],[56,0],[63,0]] ?_
  repeat refine sq ?_
  refine aO ?_
  repeat refine sq ?_
  refine cv (fun z:Nat=>[(8,⟨true,.v (vInt z)⟩),(6,⟨true,.msl [56,0] (nT s.se z).length⟩),(7,⟨true,.msl [63,0] (nT s.ta z).length⟩)]) (fun z=>[([56,0],.arr 1 ((nT s.se z).map vInt)),([63,0],.arr 1 ((nT s.ta z).map vInt))]) (fun z=>z<=6) (fun z=>6-z) 0 ?_ ?_ ?_ ?_
  ·exact Nat.zero_le _
  ·rfl
  ·rfl
  rintro i2 hi
  simp only[go_sem]
  repeat refine sq ?_
  refine rs hΓ [1,3,6,7,8,47] [[1,0],[56,0],[63,0]] ?_
  repeat refine sq ?_
  refine au rfl rfl (fun hb=>?_) (fun hb=>?_)
  ·have mc:i2<6:=by have hq:(i2:Int)<6:=(by simpa using hb);omega
   have vZ:(i2:Int)<6:=by omega
   clear hb
   have pG:=G3 s.se (Nat.le_of_lt mc)
   have jx:=G3 s.ta (Nat.le_of_lt mc)
   repeat refine sq ?_
   refine av ?_
   repeat refine sq ?_
   refine aO ?_
   repeat refine sq ?_
   refine rx hΓ [1,3,6,7,8] [[1,0],[56,0],[63,0]] (fun K' hK=>by simp only[go_sem,Int.toNat_natCast,Int.natCast_nonneg,vZ,dP s mc,Int.toNat_natCast,Int.natCast_nonneg,vZ];(repeat (refine⟨ob,?_⟩));exact hK _ (by simp only[go_sem]) (by simp only[go_sem]<;>rfl)) ?_
   repeat refine sq ?_
   refine aL hΓ fun K' hK=>?_
   simp only[go_sem,Int.toNat_natCast,Int.natCast_nonneg,vZ,dC s mc,Int.toNat_natCast,Int.natCast_nonneg,vZ]
   repeat (refine⟨ob,?_⟩)
   refine hK _ ?_
   clear K' hK
   simp only[go_sem]
   refine kp [1,3,6,7,8] [[1,0],[56,0],[63,0]] ?_
   repeat refine sq ?_
   refine aL hΓ fun K' hK=>?_
   simp only[go_sem,Int.toNat_natCast,Int.natCast_nonneg,vZ]
   repeat (refine⟨ob,?_⟩)
   refine hK _ ?_
   clear K' hK
   simp only[go_sem]
   refine⟨i2+1,mc,by(show 6-(i2+1)<6-i2;omega),?_⟩
   refine bk [1,3,6,7,8] [[1,0],[56,0],[63,0]] ?_ ?_
   ·simp only[go_sem,aD mc (lb rfl:(6:Nat)<=maxLen),Int.natCast_add,Int.natCast_one,xL s.se mc,xL s.ta mc,List.map_append,List.length_append,List.map_cons,List.map_nil,List.length_cons,List.length_nil]
   ·simp only[go_sem,aD mc (lb rfl:(6:Nat)<=maxLen),Int.natCast_add,Int.natCast_one,xL s.se mc,xL s.ta mc,List.map_append,List.length_append,List.map_cons,List.map_nil,List.length_cons,List.length_nil]
  ·have Yb:i2=6:=by
    have :¬ (i2:Int)<6:=by simpa using hb
    omega
   clear hb
   subst Yb
   repeat refine sq ?_
   refine b7 ?_
   simp only[go_sem]
   refine kp [3,6,7] [[56,0],[63,0]] ?_
   repeat refine sq ?_
   refine rx hΓ [2] [] (fun K' hK=>by simp only[go_sem,ry,C1,QF];(repeat (refine⟨by first | exact c2 | exact c3 | exact ob,?_⟩));exact hK _ (by simp only[go_sem]) (by simp only[go_sem]<;>rfl)) ?_
   refine an ?_
   simp only[go_sem]
   first | rfl
theorem VM:al Tryz.prog 92 S92:=Rl.sound
attribute [go_sem,simp] NH
def lf(b:ByteArray)(i:Nat):Nat:=(b.data.getD i 0).toNat
theorem aaQ(b:ByteArray)(i:Nat):lf b i<256:=(b.data.getD i 0).toNat_lt
theorem bytes_at{b:ByteArray}{i:Nat}(h:i<b.size):(jM b).getD i default=.int .u8 (lf b i:Nat):=by
 have h':i<b.data.toList.length:=by rw[Array.length_toList];exact h
 have h1:i<b.data.size:=h
 unfold jM
 rw[kT (by rw[List.length_map];exact h'),List.getElem_map,Array.getElem_toList]
 unfold lf wX
 have :b.data.getD i 0=b.data[i]:=by
  unfold Array.getD
  rw[dif_pos h1]
  rfl
 rw[this]
def gO(b:ByteArray)(n:Int):Nat->Int
 | 0=>n.tmod 1000003
 |i+1=>(257*gO b n i+lf b i+1).tmod 1000003
def dV(s:Stk)(n:Int):Int:=gO (cR s) n (cR s).size
theorem xE{b:ByteArray}{n:Int}(hn:bQ n):∀ i,0<=gO b n i/\gO b n i<1000003
 | 0=>by
   have :=hn.1
   exact⟨Int.tmod_nonneg _ this,Int.tmod_lt_of_pos _ (by omega)⟩
 |i+1=>by
  have h:=xE (b:=b) hn i
  exact⟨Int.tmod_nonneg _ (by omega),Int.tmod_lt_of_pos _ (by omega)⟩
theorem GN{b:ByteArray}{n:Int}(hn:bQ n)(i:Nat):IntKind.i64.wrap (257*gO b n i)=257*gO b n i/\IntKind.i64.wrap (lf b i:Nat)=(lf b i:Nat)/\
 IntKind.i64.wrap (257*gO b n i+(lf b i:Nat))=257*gO b n i+(lf b i:Nat)/\IntKind.i64.wrap (257*gO b n i+(lf b i:Nat)+1)=257*gO b n i+(lf b i:Nat)+1/\
 IntKind.i64.wrap (gO b n (i+1))=gO b n (i+1)/\(257*gO b n i+(lf b i:Nat)+1).tmod 1000003=gO b n (i+1):=by
 have h:=xE (b:=b) hn i
 have h2:=xE (b:=b) hn (i+1)
 have hb:=aaQ b i
 exact⟨wrap_i64 (by omega) (by omega),wrap_i64 (by omega) (by omega),wrap_i64 (by omega) (by omega),wrap_i64 (by omega) (by omega),wrap_i64 (by omega) (by omega),rfl⟩
noncomputable def K9:List (Nat×Spec):=[(91,S91),(92,S92)]
theorem OF:∀ f s,tbl K9 f=some s->al Tryz.prog f s:=tc VN<|tc VM<|tn
attribute [go_sem] K9
noncomputable def P60:PSpec:=p2 fb iI (fun s n=>ev s/\bQ n) (fun s n=>vInt (dV s n)) true
noncomputable def S60:Spec:=P60.toSpec
attribute [go_sem] P60 S60
set_option maxHeartbeats 4000000 in
theorem RH:aQ Tryz.prog 60 P60:=by
 refine w2 (rs:=[.tmp 4]) Tryz.func60 Tryz.ntmps60 (by rfl) (by kernel_rfl) (by decide) (fun _ _ _=>rfl) ⟨_,rfl,lb rfl,fun s n hp hw=>?_⟩
 have hP:=ba
 simp only[iI,fb]at hw |-
 have hΓ:=OF
 obtain⟨hs,hn⟩:=hp
 have ht:=GG hs
 have hl:(cR s).size<=maxLen:=by unfold maxLen;omega
 repeat refine sq ?_
 refine rs hΓ [1,2] [[2,0]] ?_
 refine aE (bz [2,0] (aB s) rfl [1,2] [[2,0]] ?_ rfl) ?_
 ·simp only[go_sem]
 simp only[go_sem]
 repeat refine sq ?_
 refine rs hΓ [2,5] [[2,0]] ?_
 repeat refine sq ?_
 refine rs hΓ [5,12,13,14] [] ?_
 repeat refine sq ?_
 refine aO ?_
 repeat refine sq ?_
 refine cv (fun z:Nat=>[(14,⟨true,.v (vInt z)⟩),(5,⟨true,.v (vInt (gO (cR s) n z))⟩)]) (fun z=>[]) (fun z=>z<=(cR s).size) (fun z=>(cR s).size-z) 0 ?_ ?_ ?_ ?_
 ·exact Nat.zero_le _
 ·rfl
 ·rfl
 rintro i hi
 simp only[go_sem]
 repeat refine sq ?_
 refine rs hΓ [5,12,13,14,15] [] ?_
 repeat refine sq ?_
 refine au rfl rfl (fun hb=>?_) (fun hb=>?_)
 ·have ae:i<(cR s).size:=by simpa using hb
  have ai:(i:Int)<(cR s).size:=by omega
  clear hb
  obtain⟨d1,d2,d3,d4,d5,d6⟩:=GN (b:=cR s) hn i
  have hb:=bytes_at ae
  repeat refine sq ?_
  refine av ?_
  repeat refine sq ?_
  refine aO ?_
  repeat refine sq ?_
  refine rx hΓ [5,7,12,13,14] [] (fun K' hK=>by simp only[go_sem,Int.toNat_natCast,Int.natCast_nonneg,ai,hb,Int.toNat_natCast,Int.natCast_nonneg,ai];(repeat (refine⟨ob,?_⟩));exact hK _ (by simp only[go_sem]) (by simp only[go_sem]<;>rfl)) ?_
  repeat refine sq ?_
  refine aL hΓ fun K' hK=>?_
  simp only[go_sem,Int.toNat_natCast,Int.natCast_nonneg,ai,d1,d2,d3,d4,d5,d6]
  repeat (refine⟨ob,?_⟩)
  refine hK _ ?_
  clear K' hK
  simp only[go_sem]
  refine kp [5,12,13,14] [] ?_
  repeat refine sq ?_
  refine aL hΓ fun K' hK=>?_
  simp only[go_sem,Int.toNat_natCast,Int.natCast_nonneg,ai]
  repeat (refine⟨ob,?_⟩)
  refine hK _ ?_
  clear K' hK
  simp only[go_sem]
  refine⟨i+1,ae,by(show (cR s).size-(i+1)<(cR s).size-i;omega),?_⟩
  refine bk [5,12,13,14] [] ?_ ?_
  ·simp only[go_sem,aD ae hl,Int.natCast_add,Int.natCast_one]
  ·simp only[go_sem,aD ae hl,Int.natCast_add,Int.natCast_one]
 ·have aW:i=(cR s).size:=by
   have :¬ (i:Int)<(cR s).size:=by simpa using hb
   omega
  clear hb
  subst aW
  repeat refine sq ?_
  refine b7 ?_
  simp only[go_sem]
  refine kp [5] [] ?_
  repeat refine sq ?_
  refine rs hΓ [4] [] ?_
  refine an ?_
  simp only[go_sem]
  first | rfl
theorem CM:al Tryz.prog 60 S60:=RH.sound
noncomputable def P63:PSpec:=p2 fb iI (fun s n=>ev s/\bQ n) (fun s n=>vInt (dV s n)) true
noncomputable def S63:Spec:=P63.toSpec
attribute [go_sem] P63 S63
set_option maxHeartbeats 4000000 in
theorem RE:aQ Tryz.prog 63 P63:=by
 refine w2 (rs:=[.tmp 4]) Tryz.func63 Tryz.ntmps63 (by rfl) (by kernel_rfl) (by decide) (fun _ _ _=>rfl) ⟨_,rfl,lb rfl,fun s n hp hw=>?_⟩
 have hP:=ba
 simp only[iI,fb]at hw |-
 have hΓ:=OF
 obtain⟨hs,hn⟩:=hp
 have ht:=GG hs
 have hl:(cR s).size<=maxLen:=by unfold maxLen;omega
 repeat refine sq ?_
 refine rs hΓ [1,2] [[2,0]] ?_
 refine aE (bz [2,0] (aB s) rfl [1,2] [[2,0]] ?_ rfl) ?_
 ·simp only[go_sem]
 simp only[go_sem]
 repeat refine sq ?_
 refine rs hΓ [1,5] [] ?_
 repeat refine sq ?_
 refine rs hΓ [5,6] [] ?_
 repeat refine sq ?_
 refine rs hΓ [5,6,7] [] ?_
 repeat refine sq ?_
 refine aO ?_
 repeat refine sq ?_
 refine cv (fun z:Nat=>[(7,⟨true,.v (vInt z)⟩),(6,⟨true,.v (vInt (gO (cR s) n z))⟩)]) (fun z=>[]) (fun z=>z<=(cR s).size) (fun z=>(cR s).size-z) 0 ?_ ?_ ?_ ?_
 ·exact Nat.zero_le _
 ·rfl
 ·rfl
 rintro i hi
 simp only[go_sem]
 repeat refine sq ?_
 refine rs hΓ [5,6,7,15] [] ?_
 repeat refine sq ?_
 refine au rfl rfl (fun hb=>?_) (fun hb=>?_)
 ·have ae:i<(cR s).size:=by simpa using hb
  have ai:(i:Int)<(cR s).size:=by omega
  clear hb
  obtain⟨d1,d2,d3,d4,d5,d6⟩:=GN (b:=cR s) hn i
  have hb:((cR s).data.getD i 0).toNat=lf (cR s) i:=rfl
  repeat refine sq ?_
  refine av ?_
  repeat refine sq ?_
  refine aO ?_
  repeat refine sq ?_
  refine aL hΓ fun K' hK=>?_
  simp only[go_sem,Int.toNat_natCast,Int.natCast_nonneg,ai,hb,Int.toNat_natCast,Int.natCast_nonneg,ai,d1,d2,d3,d4,d5,d6]
  repeat (refine⟨ob,?_⟩)
  refine hK _ ?_
  clear K' hK
  simp only[go_sem]
  refine kp [5,6,7] [] ?_
  repeat refine sq ?_
  refine aL hΓ fun K' hK=>?_
  simp only[go_sem,Int.toNat_natCast,Int.natCast_nonneg,ai]
  repeat (refine⟨ob,?_⟩)
  refine hK _ ?_
  clear K' hK
  simp only[go_sem]
  refine⟨i+1,ae,by(show (cR s).size-(i+1)<(cR s).size-i;omega),?_⟩
  refine bk [5,6,7] [] ?_ ?_
  ·simp only[go_sem,aD ae hl,Int.natCast_add,Int.natCast_one]
  ·simp only[go_sem,aD ae hl,Int.natCast_add,Int.natCast_one]
 ·have aW:i=(cR s).size:=by
   have :¬ (i:Int)<(cR s).size:=by simpa using hb
   omega
  clear hb
  subst aW
  repeat refine sq ?_
  refine b7 ?_
  simp only[go_sem]
  refine kp [6] [] ?_
  repeat refine sq ?_
  refine rs hΓ [4] [] ?_
  refine an ?_
  simp only[go_sem]
  first | rfl
theorem CJ:al Tryz.prog 63 S63:=RE.sound
def aJ(me:Int)(p:Pg):Bool:=aY p.co 0 99999&&c9 me p.st&&(p.su==dV p.st p.co)
def vk(me:Int)(p:Pg):Int:=if aJ me p=true then 0 else 91
theorem xG{me:Int}{s:Stk}(h:c9 me s=true):eN me s=0:=if_pos h
theorem xH{me:Int}{s:Stk}(h:c9 me s=false):eN me s=90:=if_neg (by rw[h];decide)
theorem n0{me:Int}{p:Pg}(h:aJ me p=true):vk me p=0:=if_pos h
theorem fH{me:Int}{p:Pg}(h:aJ me p=false):vk me p=91:=if_neg (by rw[h];decide)
theorem gR{me:Int}{p:Pg}:(vk me p==0)=aJ me p:=by
 cases h:aJ me p
 ·rw[fH h];rfl
 ·rw[n0 h];rfl
theorem n5{me:Int}{p:Pg}(h:aY p.co 0 99999=false):aJ me p=false:=by unfold aJ;rw[h];rfl
theorem n4{me:Int}{p:Pg}(h:c9 me p.st=false):aJ me p=false:=by unfold aJ;rw[h,Bool.and_false];rfl
theorem jr{me:Int}{p:Pg}(h:aY p.co 0 99999=true)(hk:c9 me p.st=true):aJ me p=(p.su==dV p.st p.co):=by unfold aJ;rw[h,hk];rfl
noncomputable def Ps:List (Nat×Spec):=[(79,S79),(60,S60),(81,S81),(63,S63),(89,S89),(43,S43)]
theorem Pr:∀ f s,tbl Ps f=some s->al Tryz.prog f s:=tc CI<|tc CM<|tc CH<|tc CJ<|tc CE<|tc CP<|tn
attribute [go_sem] Ps
noncomputable def P90:PSpec:=p2 iI l7 (fun _ _=>True) (fun me p=>.bool (aJ me p)) true
noncomputable def S90:Spec:=P90.toSpec
attribute [go_sem] P90 S90
set_option maxHeartbeats 4000000 in
theorem Rm:aQ Tryz.prog 90 P90:=by
 refine w2 (rs:=[.tmp 4]) Tryz.func90 Tryz.ntmps90 (by rfl) (by kernel_rfl) (by decide) (fun _ _ _=>rfl) ⟨_,rfl,lb rfl,fun me p hp hw=>?_⟩
 have hP:=ba
 simp only[iI,l7]at hw |-
 have hΓ:=Pr
 repeat refine sq ?_
 refine rs hΓ [0,3] [[3,0]] ?_
 refine aE (bz [3,0] (cB p) rfl [0,3] [[3,0]] ?_ rfl) ?_
 ·simp only[go_sem]
 simp only[go_sem]
 rcases hc:aY p.co 0 99999 with _ | _;rotate_left;rcases hk:c9 me p.st with _ | _;rotate_left 2
 ·repeat refine sq ?_
  refine dx hΓ hP [[],[0],[0,1],[0,1,2],[0,1,2,3],[0,1,2,3],[0,1,2,3,5],[0,1,2,3,4,5,6],[0,1,2,3,4,5,6,7],[0,1,2,3,4,5,6,7,8],[0,1,2,3,4,5,6,7,8,9],[0,1,2,3,4,5,6,7,8,9,10],[0,1,2,3,4,5,6,7,8,9],[0,1,2,3,4,5,6,7,8,9,12],[0,1,2,3,4,5,6,7,8,9],[0,1,2,3,4,5,6,7,8,9,14],[0,1,2,3,4,5,6,7,8,9,12,13,14,15],[0,1,2,3,4,5,6,7,8,9,10,11,12,13,14,15,16],[0,1,2,3,4,5,6,7,8,9,10,11,12,13,14,15,16,17],[0,1,2,3,4,5,6,7,8,9,10,11,12,13,14,15,16,17,18]] [4] [] (by kernel_rfl) (fun K' hK=>by simp only[go_sem,hc];(repeat (refine⟨by first | exact oH | exact ob,?_⟩));(first | refine⟨by rfl,?_⟩ | skip);exact hK _ (by simp only[go_sem]) (by simp only[go_sem]<;>rfl)) ?_
  refine an ?_
  simp only[go_sem]
  first | (rw[n5 hc];done) | (rw[n4 hk];done) | (rw[jr hc hk];done) | (simp[aJ,hc,hk];done)
 ·repeat refine sq ?_
  refine dx hΓ hP [[],[0],[0,1],[0,1,2],[0,1,2,3],[0,1,2,3],[0,1,2,3,5],[0,1,2,3,4,5,6],[0,1,2,3,4,5,6,7],[0,1,2,3,4,5,6,7,8],[0,1,2,3,4,5,6,7,8,9],[0,1,2,3,4,5,6,7,8,9,10],[0,1,2,3,4,5,6,7,8,9],[0,1,2,3,4,5,6,7,8,9,12],[0,1,2,3,4,5,6,7,8,9],[0,1,2,3,4,5,6,7,8,9,14],[0,1,2,3,4,5,6,7,8,9,12,13,14,15],[0,1,2,3,4,5,6,7,8,9,10,11,12,13,14,15,16],[0,1,2,3,4,5,6,7,8,9,10,11,12,13,14,15,16,17],[0,1,2,3,4,5,6,7,8,9,10,11,12,13,14,15,16,17,18]] [4] [] (by kernel_rfl) (fun K' hK=>by simp only[go_sem,hc,hk];(repeat (refine⟨by first | exact oH | exact ob,?_⟩));(first | refine⟨by rfl,?_⟩ | skip);exact hK _ (by simp only[go_sem]) (by simp only[go_sem]<;>rfl)) ?_
  refine an ?_
  simp only[go_sem]
  first | (rw[n5 hc];done) | (rw[n4 hk];done) | (rw[jr hc hk];done) | (simp[aJ,hc,hk];done)
 ·have oH:ev p.st/\bQ p.co:=⟨vq hk,rm hc (by omega) (by omega)⟩
  repeat refine sq ?_
  refine dx hΓ hP [[],[0],[0,1],[0,1,2],[0,1,2,3],[0,1,2,3],[0,1,2,3,5],[0,1,2,3,4,5,6],[0,1,2,3,4,5,6,7],[0,1,2,3,4,5,6,7,8],[0,1,2,3,4,5,6,7,8,9],[0,1,2,3,4,5,6,7,8,9,10],[0,1,2,3,4,5,6,7,8,9],[0,1,2,3,4,5,6,7,8,9,12],[0,1,2,3,4,5,6,7,8,9],[0,1,2,3,4,5,6,7,8,9,14],[0,1,2,3,4,5,6,7,8,9,12,13,14,15],[0,1,2,3,4,5,6,7,8,9,10,11,12,13,14,15,16],[0,1,2,3,4,5,6,7,8,9,10,11,12,13,14,15,16,17],[0,1,2,3,4,5,6,7,8,9,10,11,12,13,14,15,16,17,18]] [4] [] (by kernel_rfl) (fun K' hK=>by simp only[go_sem,hc,hk];(repeat (refine⟨by first | exact oH | exact ob,?_⟩));(first | refine⟨by rfl,?_⟩ | skip);exact hK _ (by simp only[go_sem]) (by simp only[go_sem]<;>rfl)) ?_
  refine an ?_
  simp only[go_sem]
  first | (rw[n5 hc];done) | (rw[n4 hk];done) | (rw[jr hc hk];done) | (simp[aJ,hc,hk];done)
theorem CD:al Tryz.prog 90 S90:=Rm.sound
noncomputable def Pq:List (Nat×Spec):=[(90,S90)]
theorem acz:∀ f s,tbl Pq f=some s->al Tryz.prog f s:=tc CD<|tn
attribute [go_sem] Pq
noncomputable def P44:PSpec:=p2 iI l7 (fun _ _=>True) (fun me p=>vInt (vk me p)) true
noncomputable def S44:Spec:=P44.toSpec
attribute [go_sem] P44 S44
theorem RR:aQ Tryz.prog 44 P44:=by
 refine w2 (rs:=[.tmp 4]) Tryz.func44 Tryz.ntmps44 (by rfl) (by kernel_rfl) (by decide) (fun _ _ _=>rfl) ⟨_,rfl,lb rfl,fun me p hp hw=>?_⟩
 have hP:=ba
 simp only[iI,l7]at hw |-
 have hΓ:=acz
 repeat refine sq ?_
 refine rs hΓ [0,3] [[3,0]] ?_
 refine aE (bz [3,0] (cB p) rfl [0,3] [[3,0]] ?_ rfl) ?_
 ·simp only[go_sem]
 simp only[go_sem]
 repeat refine sq ?_
 refine rs hΓ [8] [] ?_
 repeat refine sq ?_
 refine au rfl rfl (fun hb=>?_) (fun hb=>?_)
 ·repeat refine sq ?_
  refine rs hΓ [4] [] ?_
  refine an ?_
  simp only[go_sem]
  first | (rw[fH (by simpa using hb)];done) | (rw[n0 (by simpa using hb)];done)
 ·repeat refine sq ?_
  refine av ?_
  repeat refine sq ?_
  refine rs hΓ [4] [] ?_
  refine an ?_
  simp only[go_sem]
  first | (rw[fH (by simpa using hb)];done) | (rw[n0 (by simpa using hb)];done)
theorem V':al Tryz.prog 44 S44:=RR.sound
noncomputable def P45:PSpec:=p2 iI l7 (fun _ _=>True) (fun me p=>vInt (vk me p)) true
noncomputable def S45:Spec:=P45.toSpec
attribute [go_sem] P45 S45
set_option maxHeartbeats 4000000 in
theorem RQ:aQ Tryz.prog 45 P45:=by
 refine w2 (rs:=[.tmp 4]) Tryz.func45 Tryz.ntmps45 (by rfl) (by kernel_rfl) (by decide) (fun _ _ _=>rfl) ⟨_,rfl,lb rfl,fun me p hp hw=>?_⟩
 have hP:=ba
 simp only[iI,l7]at hw |-
 have hΓ:=Pr
 repeat refine sq ?_
 refine rs hΓ [0,3] [[3,0]] ?_
 refine aE (bz [3,0] (cB p) rfl [0,3] [[3,0]] ?_ rfl) ?_
 ·simp only[go_sem]
 simp only[go_sem]
 rcases hc:aY p.co 0 99999 with _ | _;rotate_left;rcases hk:c9 me p.st with _ | _;rotate_left 2
 ·repeat refine sq ?_
  refine dx hΓ hP [[],[0],[0,1],[0,1,2],[0,1,2,3],[0,1,2,3,4],[0,1,2,3,4],[0,1,2,3,4,6],[0,1,2,3,4,5,6,7],[0,1,2,3,4,5,6,7,8],[0,1,2,3,4,5,6,7,8,9],[0,1,2,3,4,5,6,7,8,9,10],[0,1,2,3,4,5,6,7,8,9,10,11],[0,1,2,3,4,5,6,7,8,9,10,11,12],[0,1,2,3,4,5,6,7,8,9,10,11],[0,1,2,3,4,5,6,7,8,9,10,11,14],[0,1,2,3,4,5,6,7,8,9,10,11],[0,1,2,3,4,5,6,7,8,9,10,11,16],[0,1,2,3,4,5,6,7,8,9,10,11,14,15,16,17],[0,1,2,3,4,5,6,7,8,9,10,11,12,13,14,15,16,17,18],[0,1,2,3,4,5,6,7,8,9,10,11,12,13,14,15,16,17,18,19]] [25] [] (by kernel_rfl) (fun K' hK=>by simp only[go_sem,hc];(repeat (refine⟨by first | exact oH | exact ob,?_⟩));(first | refine⟨by rfl,?_⟩ | skip);exact hK _ (by simp only[go_sem]) (by simp only[go_sem]<;>rfl)) ?_
  repeat refine sq ?_
  refine au rfl rfl (fun hb=>?_) (fun hb=>?_)
  ·repeat refine sq ?_
   refine rx hΓ [4] [] (fun K' hK=>by simp only[go_sem,hc];(repeat (refine⟨ob,?_⟩));exact hK _ (by simp only[go_sem]) (by simp only[go_sem]<;>rfl)) ?_
   refine an ?_
   simp only[go_sem]
   first | (exact absurd hb (by decide)) | (simp at hb;done) | (rw[fH (n5 hc)];done) | (rw[fH (n4 hk)];done) | (rw[fH (by rw[jr hc hk];simpa using hb)];done) | (rw[n0 (by rw[jr hc hk];simpa using hb)];done)
  ·repeat refine sq ?_
   refine av ?_
   repeat refine sq ?_
   refine rx hΓ [4] [] (fun K' hK=>by simp only[go_sem,hc];(repeat (refine⟨ob,?_⟩));exact hK _ (by simp only[go_sem]) (by simp only[go_sem]<;>rfl)) ?_
   refine an ?_
   simp only[go_sem]
   first | (exact absurd hb (by decide)) | (simp at hb;done) | (rw[fH (n5 hc)];done) | (rw[fH (n4 hk)];done) | (rw[fH (by rw[jr hc hk];simpa using hb)];done) | (rw[n0 (by rw[jr hc hk];simpa using hb)];done)
 ·repeat refine sq ?_
  refine dx hΓ hP [[],[0],[0,1],[0,1,2],[0,1,2,3],[0,1,2,3,4],[0,1,2,3,4],[0,1,2,3,4,6],[0,1,2,3,4,5,6,7],[0,1,2,3,4,5,6,7,8],[0,1,2,3,4,5,6,7,8,9],[0,1,2,3,4,5,6,7,8,9,10],[0,1,2,3,4,5,6,7,8,9,10,11],[0,1,2,3,4,5,6,7,8,9,10,11,12],[0,1,2,3,4,5,6,7,8,9,10,11],[0,1,2,3,4,5,6,7,8,9,10,11,14],[0,1,2,3,4,5,6,7,8,9,10,11],[0,1,2,3,4,5,6,7,8,9,10,11,16],[0,1,2,3,4,5,6,7,8,9,10,11,14,15,16,17],[0,1,2,3,4,5,6,7,8,9,10,11,12,13,14,15,16,17,18],[0,1,2,3,4,5,6,7,8,9,10,11,12,13,14,15,16,17,18,19]] [25] [] (by kernel_rfl) (fun K' hK=>by simp only[go_sem,hc,xH hk];(repeat (refine⟨by first | exact oH | exact ob,?_⟩));(first | refine⟨by rfl,?_⟩ | skip);exact hK _ (by simp only[go_sem]) (by simp only[go_sem]<;>rfl)) ?_
  repeat refine sq ?_
  refine au rfl rfl (fun hb=>?_) (fun hb=>?_)
  ·repeat refine sq ?_
   refine rx hΓ [4] [] (fun K' hK=>by simp only[go_sem,hc,xH hk];(repeat (refine⟨ob,?_⟩));exact hK _ (by simp only[go_sem]) (by simp only[go_sem]<;>rfl)) ?_
   refine an ?_
   simp only[go_sem]
   first | (exact absurd hb (by decide)) | (simp at hb;done) | (rw[fH (n5 hc)];done) | (rw[fH (n4 hk)];done) | (rw[fH (by rw[jr hc hk];simpa using hb)];done) | (rw[n0 (by rw[jr hc hk];simpa using hb)];done)
  ·repeat refine sq ?_
   refine av ?_
   repeat refine sq ?_
   refine rx hΓ [4] [] (fun K' hK=>by simp only[go_sem,hc,xH hk];(repeat (refine⟨ob,?_⟩));exact hK _ (by simp only[go_sem]) (by simp only[go_sem]<;>rfl)) ?_
   refine an ?_
   simp only[go_sem]
   first | (exact absurd hb (by decide)) | (simp at hb;done) | (rw[fH (n5 hc)];done) | (rw[fH (n4 hk)];done) | (rw[fH (by rw[jr hc hk];simpa using hb)];done) | (rw[n0 (by rw[jr hc hk];simpa using hb)];done)
 ·have oH:ev p.st/\bQ p.co:=⟨vq hk,rm hc (by omega) (by omega)⟩
  repeat refine sq ?_
  refine dx hΓ hP [[],[0],[0,1],[0,1,2],[0,1,2,3],[0,1,2,3,4],[0,1,2,3,4],[0,1,2,3,4,6],[0,1,2,3,4,5,6,7],[0,1,2,3,4,5,6,7,8],[0,1,2,3,4,5,6,7,8,9],[0,1,2,3,4,5,6,7,8,9,10],[0,1,2,3,4,5,6,7,8,9,10,11],[0,1,2,3,4,5,6,7,8,9,10,11,12],[0,1,2,3,4,5,6,7,8,9,10,11],[0,1,2,3,4,5,6,7,8,9,10,11,14],[0,1,2,3,4,5,6,7,8,9,10,11],[0,1,2,3,4,5,6,7,8,9,10,11,16],[0,1,2,3,4,5,6,7,8,9,10,11,14,15,16,17],[0,1,2,3,4,5,6,7,8,9,10,11,12,13,14,15,16,17,18],[0,1,2,3,4,5,6,7,8,9,10,11,12,13,14,15,16,17,18,19]] [25] [] (by kernel_rfl) (fun K' hK=>by simp only[go_sem,hc,xG hk];(repeat (refine⟨by first | exact oH | exact ob,?_⟩));(first | refine⟨by rfl,?_⟩ | skip);exact hK _ (by simp only[go_sem]) (by simp only[go_sem]<;>rfl)) ?_
  repeat refine sq ?_
  refine au rfl rfl (fun hb=>?_) (fun hb=>?_)
  ·repeat refine sq ?_
   refine rx hΓ [4] [] (fun K' hK=>by simp only[go_sem,hc,xG hk];(repeat (refine⟨ob,?_⟩));exact hK _ (by simp only[go_sem]) (by simp only[go_sem]<;>rfl)) ?_
   refine an ?_
   simp only[go_sem]
   first | (exact absurd hb (by decide)) | (simp at hb;done) | (rw[fH (n5 hc)];done) | (rw[fH (n4 hk)];done) | (rw[fH (by rw[jr hc hk];simpa using hb)];done) | (rw[n0 (by rw[jr hc hk];simpa using hb)];done)
  ·repeat refine sq ?_
   refine av ?_
   repeat refine sq ?_
   refine rx hΓ [4] [] (fun K' hK=>by simp only[go_sem,hc,xG hk];(repeat (refine⟨ob,?_⟩));exact hK _ (by simp only[go_sem]) (by simp only[go_sem]<;>rfl)) ?_
   refine an ?_
   simp only[go_sem]
   first | (exact absurd hb (by decide)) | (simp at hb;done) | (rw[fH (n5 hc)];done) | (rw[fH (n4 hk)];done) | (rw[fH (by rw[jr hc hk];simpa using hb)];done) | (rw[n0 (by rw[jr hc hk];simpa using hb)];done)
theorem Km:al Tryz.prog 45 S45:=RQ.sound
def lq(d:Dk):Bool:=if d.wet<0 then(aJ d.me d.pa||aJ d.me d.pb)&&!((aJ d.me d.pa&&aJ d.me d.pb)&&(d.pa.co==d.pb.co))
 else(aJ d.me d.pa&&aJ d.me d.pb)&&decide ((d.pg d.wet.toNat).co>(d.pg (1-d.wet).toNat).co)
def gW(d:Dk):Bool:=c9 d.me d.now&&aY d.wet (-1) 1
def aF(d:Dk):Bool:=gW d&&lq d
def jd(d:Dk):Int:=if aF d=true then 0 else 92
theorem cI{d:Dk}(h:aF d=true):jd d=0:=if_pos h
theorem eV{d:Dk}(h:aF d=false):jd d=92:=if_neg (by rw[h];decide)
@[go_sem] theorem af9(d:Dk):(ak d).getD 20 default=vInt d.pa.co:=rfl
@[go_sem] theorem af8(d:Dk):(ak d).getD 41 default=vInt d.pb.co:=rfl
theorem o3:IntKind.i64.wrap 0=0:=by decide
theorem o0:IntKind.i64.wrap 1=1:=by decide
theorem mQ{d:Dk}(h:d.wet<0):lq d=((aJ d.me d.pa||aJ d.me d.pb)&&!((aJ d.me d.pa&&aJ d.me d.pb)&&(d.pa.co==d.pb.co))):=by
 unfold lq;rw[if_pos h]
theorem o5{d:Dk}(h:d.wet=0):lq d=((aJ d.me d.pa&&aJ d.me d.pb)&&decide (d.pa.co>d.pb.co)):=by
 unfold lq;rw[if_neg (by omega),h];rfl
theorem o4{d:Dk}(h:d.wet=1):lq d=((aJ d.me d.pa&&aJ d.me d.pb)&&decide (d.pb.co>d.pa.co)):=by
 unfold lq;rw[if_neg (by omega),h];rfl
theorem zE(d:Dk):(!c9 d.me d.now||!aY d.wet (-1) 1)=!gW d:=by
 unfold gW
 cases c9 d.me d.now<;>cases aY d.wet (-1) 1<;>rfl
theorem Qy{me:Int}{s:Stk}:(eN me s != 0)=!c9 me s:=by
 cases h:c9 me s
 ·rw[xH h];rfl
 ·rw[xG h];rfl
noncomputable def Pp:List (Nat×Spec):=[(89,S89),(98,S98),(90,S90)]
theorem acy:∀ f s,tbl Pp f=some s->al Tryz.prog f s:=tc CE<|tc CC<|tc CD<|tn
attribute [go_sem] Pp
noncomputable def P74:PSpec:=p1 bu (fun _=>True) (fun d=>.bool (aF d)) true
noncomputable def S74:Spec:=P74.toSpec
attribute [go_sem] P74 S74
set_option maxHeartbeats 4000000 in
theorem Rz:aQ Tryz.prog 74 P74:=by
 refine w1 (rs:=[.tmp 2]) Tryz.func74 Tryz.ntmps74 (by rfl) (by kernel_rfl) (by decide) (fun _ _=>rfl) ⟨_,rfl,lb rfl,fun d hp hw=>?_⟩
 have hP:=ba
 simp only[bu]at hw |-
 have hΓ:=acy
 repeat refine sq ?_
 refine rs hΓ [1] [[1,0]] ?_
 refine aE (bz [1,0] (ak d) rfl [1] [[1,0]] ?_ rfl) ?_
 ·simp only[go_sem]
 simp only[go_sem]
 repeat refine sq ?_
 refine rs hΓ [1,16] [[1,0]] ?_
 repeat refine sq ?_
 refine au rfl rfl (fun hb=>?_) (fun hb=>?_)
 ·repeat refine sq ?_
  have bC:gW d=false:=by have:=zE d;rw[hb]at this;simpa using this.symm
  repeat refine sq ?_
  refine rs hΓ [2] [] ?_
  refine an ?_
  simp only[go_sem]
  first | (simp[aF,bC];done) | (unfold aF;rw[bH,mQ oy];simp) | (unfold aF;rw[bH,o5 fc];simp) | (unfold aF;rw[bH,o4 fc];simp)
 ·repeat refine sq ?_
  have bH:gW d=true:=by have:=zE d;rw[hb]at this;simpa using this.symm
  have hi:aY d.wet (-1) 1=true:=by unfold gW at bH;rw[Bool.and_eq_true]at bH;exact bH.2
  refine av ?_
  repeat refine sq ?_
  refine dx hΓ hP [[],[0],[],[2],[2,3],[0,1,2,3,4],[],[6],[],[8],[8,9],[0,1,2,3,4,5,6,7,8,9,10],[0,1,2,3,4,5,6,7,8,9,10,11],[0,1,2,3,4,5,6,7,8,9,10,11,12]] [1,3,4] [[1,0]] (by kernel_rfl) (fun K' hK=>by simp only[go_sem,Int.cast_ofNat_Int,Int.reduceToNat,Int.toNat_one,Int.toNat_zero,Nat.reduceMul,Nat.reduceAdd,Nat.zero_mul,Nat.one_mul,Nat.add_zero];(repeat (refine⟨ob,?_⟩));(first | refine⟨by rfl,?_⟩ | skip);exact hK _ (by simp only[go_sem]) (by simp only[go_sem]<;>rfl)) ?_
  repeat refine sq ?_
  refine rs hΓ [1,3,4,31] [[1,0]] ?_
  repeat refine sq ?_
  refine au rfl rfl (fun hb=>?_) (fun hb=>?_)
  ·repeat refine sq ?_
   have oy:d.wet<0:=by simpa using hb
   repeat refine sq ?_
   refine rx hΓ [2] [] (fun K' hK=>by simp only[go_sem,Int.cast_ofNat_Int,Int.reduceToNat,Int.toNat_one,Int.toNat_zero,Nat.reduceMul,Nat.reduceAdd,Nat.zero_mul,Nat.one_mul,Nat.add_zero];(repeat (refine⟨ob,?_⟩));exact hK _ (by simp only[go_sem]) (by simp only[go_sem]<;>rfl)) ?_
   refine an ?_
   simp only[go_sem]
   first | (simp[aF,bC];done) | (unfold aF;rw[bH,mQ oy];simp) | (unfold aF;rw[bH,o5 fc];simp) | (unfold aF;rw[bH,o4 fc];simp)
  ·repeat refine sq ?_
   have aW:¬ d.wet<0:=by simpa using hb
   have jy:d.wet=0\/d.wet=1:=by have:=dQ.1 hi;omega
   refine av ?_
   rcases jy with fc | fc
   ·repeat refine sq ?_
    refine dx hΓ hP [[],[0],[0,1],[0,1,2],[0,1,2,3],[0,1,2,3,4],[0,1,2,3,4,5],[0,1,2,3,4],[0,1,2,3,4,5,6,7],[0,1,2,3,4,5,6,7,8],[0,1,2,3,4,5,6,7,8,9],[0,1,2,3,4],[0,1,2,3,4,11],[0,1,2,3,4,11,12],[0,1,2,3,4],[0,1,2,3,4,11,12,13,14],[0,1,2,3,4,11,12,13,14,15],[0,1,2,3,4,11,12,13,14,15,16],[0,1,2,3,4,5,6,7,8,9,10,11,12,13,14,15,16,17],[0,1,2,3,4,5,6,7,8,9,10,11,12,13,14,15,16,17,18],[0,1,2,3,4,5,6,7,8,9,10,11,12,13,14,15,16,17,18,19]] [2] [] (by kernel_rfl) (fun K' hK=>by simp only[go_sem,fc,o3,o0,Int.sub_self,Int.sub_zero,Int.cast_ofNat_Int,Int.reduceToNat,Int.toNat_one,Int.toNat_zero,Nat.reduceMul,Nat.reduceAdd,Nat.zero_mul,Nat.one_mul,Nat.add_zero];(repeat (refine⟨ob,?_⟩));(first | refine⟨by rfl,?_⟩ | skip);exact hK _ (by simp only[go_sem]) (by simp only[go_sem]<;>rfl)) ?_
    refine an ?_
    simp only[go_sem]
    first | (simp[aF,bC];done) | (unfold aF;rw[bH,mQ oy];simp) | (unfold aF;rw[bH,o5 fc];simp) | (unfold aF;rw[bH,o4 fc];simp)
   ·repeat refine sq ?_
    refine dx hΓ hP [[],[0],[0,1],[0,1,2],[0,1,2,3],[0,1,2,3,4],[0,1,2,3,4,5],[0,1,2,3,4],[0,1,2,3,4,5,6,7],[0,1,2,3,4,5,6,7,8],[0,1,2,3,4,5,6,7,8,9],[0,1,2,3,4],[0,1,2,3,4,11],[0,1,2,3,4,11,12],[0,1,2,3,4],[0,1,2,3,4,11,12,13,14],[0,1,2,3,4,11,12,13,14,15],[0,1,2,3,4,11,12,13,14,15,16],[0,1,2,3,4,5,6,7,8,9,10,11,12,13,14,15,16,17],[0,1,2,3,4,5,6,7,8,9,10,11,12,13,14,15,16,17,18],[0,1,2,3,4,5,6,7,8,9,10,11,12,13,14,15,16,17,18,19]] [2] [] (by kernel_rfl) (fun K' hK=>by simp only[go_sem,fc,o3,o0,Int.sub_self,Int.sub_zero,Int.cast_ofNat_Int,Int.reduceToNat,Int.toNat_one,Int.toNat_zero,Nat.reduceMul,Nat.reduceAdd,Nat.zero_mul,Nat.one_mul,Nat.add_zero];(repeat (refine⟨ob,?_⟩));(first | refine⟨by rfl,?_⟩ | skip);exact hK _ (by simp only[go_sem]) (by simp only[go_sem]<;>rfl)) ?_
    refine an ?_
    simp only[go_sem]
    first | (simp[aF,bC];done) | (unfold aF;rw[bH,mQ oy];simp) | (unfold aF;rw[bH,o5 fc];simp) | (unfold aF;rw[bH,o4 fc];simp)
theorem VU:al Tryz.prog 74 S74:=Rz.sound
noncomputable def Po:List (Nat×Spec):=[(74,S74)]
theorem acx:∀ f s,tbl Po f=some s->al Tryz.prog f s:=tc VU<|tn
attribute [go_sem] Po
noncomputable def P23:PSpec:=p1 bu (fun _=>True) (fun d=>vInt (jd d)) true
noncomputable def S23:Spec:=P23.toSpec
attribute [go_sem] P23 S23
theorem R1:aQ Tryz.prog 23 P23:=by
 refine w1 (rs:=[.tmp 2]) Tryz.func23 Tryz.ntmps23 (by rfl) (by kernel_rfl) (by decide) (fun _ _=>rfl) ⟨_,rfl,lb rfl,fun d hp hw=>?_⟩
 have hP:=ba
 simp only[bu]at hw |-
 have hΓ:=acx
 repeat refine sq ?_
 refine rs hΓ [1] [[1,0]] ?_
 refine aE (bz [1,0] (ak d) rfl [1] [[1,0]] ?_ rfl) ?_
 ·simp only[go_sem]
 simp only[go_sem]
 repeat refine sq ?_
 refine rs hΓ [5] [] ?_
 repeat refine sq ?_
 refine au rfl rfl (fun hb=>?_) (fun hb=>?_)
 ·repeat refine sq ?_
  refine rs hΓ [2] [] ?_
  refine an ?_
  simp only[go_sem]
  first | (rw[eV (by simpa using hb)];done) | (rw[cI (by simpa using hb)];done)
 ·repeat refine sq ?_
  refine av ?_
  repeat refine sq ?_
  refine rs hΓ [2] [] ?_
  refine an ?_
  simp only[go_sem]
  first | (rw[eV (by simpa using hb)];done) | (rw[cI (by simpa using hb)];done)
theorem pB:al Tryz.prog 23 S23:=R1.sound
noncomputable def Pn:List (Nat×Spec):=[(43,S43),(86,S86),(45,S45)]
theorem acw:∀ f s,tbl Pn f=some s->al Tryz.prog f s:=tc CP<|tc CF<|tc Km<|tn
attribute [go_sem] Pn
noncomputable def P39:PSpec:=p1 bu (fun _=>True) (fun d=>vInt (jd d)) true
noncomputable def S39:Spec:=P39.toSpec
attribute [go_sem] P39 S39
set_option maxHeartbeats 4000000 in
theorem RV:aQ Tryz.prog 39 P39:=by
 refine w1 (rs:=[.tmp 2]) Tryz.func39 Tryz.ntmps39 (by rfl) (by kernel_rfl) (by decide) (fun _ _=>rfl) ⟨_,rfl,lb rfl,fun d hp hw=>?_⟩
 have hP:=ba
 simp only[bu]at hw |-
 have hΓ:=acw
 repeat refine sq ?_
 refine rs hΓ [1] [[1,0]] ?_
 refine aE (bz [1,0] (ak d) rfl [1] [[1,0]] ?_ rfl) ?_
 ·simp only[go_sem]
 simp only[go_sem]
 repeat refine sq ?_
 refine rx hΓ [1,16] [[1,0]] (fun K' hK=>by simp only[go_sem,Qy];(repeat (refine⟨ob,?_⟩));exact hK _ (by simp only[go_sem]) (by simp only[go_sem]<;>rfl)) ?_
 repeat refine sq ?_
 refine au rfl rfl (fun hb=>?_) (fun hb=>?_)
 ·repeat refine sq ?_
  have bC:gW d=false:=by have:=zE d;rw[hb]at this;simpa using this.symm
  have ey:aF d=false:=by unfold aF;rw[bC];rfl
  repeat refine sq ?_
  refine rs hΓ [2] [] ?_
  refine an ?_
  simp only[go_sem]
  first | (rw[eV ey];done) | (rw[cI ey];done)
 ·repeat refine sq ?_
  have bH:gW d=true:=by have:=zE d;rw[hb]at this;simpa using this.symm
  have hi:aY d.wet (-1) 1=true:=by unfold gW at bH;rw[Bool.and_eq_true]at bH;exact bH.2
  refine av ?_
  repeat refine sq ?_
  refine rx hΓ [1,3] [[1,0]] (fun K' hK=>by simp only[go_sem,gR,Int.cast_ofNat_Int,Int.reduceToNat,Int.toNat_one,Int.toNat_zero,Nat.reduceMul,Nat.reduceAdd,Nat.zero_mul,Nat.one_mul,Nat.add_zero];(repeat (refine⟨ob,?_⟩));exact hK _ (by simp only[go_sem]) (by simp only[go_sem]<;>rfl)) ?_
  repeat refine sq ?_
  refine rx hΓ [1,3,4] [[1,0]] (fun K' hK=>by simp only[go_sem,gR,Int.cast_ofNat_Int,Int.reduceToNat,Int.toNat_one,Int.toNat_zero,Nat.reduceMul,Nat.reduceAdd,Nat.zero_mul,Nat.one_mul,Nat.add_zero];(repeat (refine⟨ob,?_⟩));exact hK _ (by simp only[go_sem]) (by simp only[go_sem]<;>rfl)) ?_
  repeat refine sq ?_
  refine rs hΓ [1,3,4,33] [[1,0]] ?_
  repeat refine sq ?_
  refine au rfl rfl (fun hb=>?_) (fun hb=>?_)
  ·repeat refine sq ?_
   have oy:d.wet<0:=by simpa using hb
   repeat refine sq ?_
   refine rx hΓ [56] [] (fun K' hK=>by simp only[go_sem,Int.cast_ofNat_Int,Int.reduceToNat,Int.toNat_one,Int.toNat_zero,Nat.reduceMul,Nat.reduceAdd,Nat.zero_mul,Nat.one_mul,Nat.add_zero];(repeat (refine⟨ob,?_⟩));exact hK _ (by simp only[go_sem]) (by simp only[go_sem]<;>rfl)) ?_
   repeat refine sq ?_
   refine au rfl rfl (fun hb=>?_) (fun hb=>?_)
   ·repeat refine sq ?_
    have ey:aF d=false:=by unfold aF;rw[bH,mQ oy];revert hb;cases aJ d.me d.pa<;>cases aJ d.me d.pb<;>simp
    repeat refine sq ?_
    refine rs hΓ [2] [] ?_
    refine an ?_
    simp only[go_sem]
    first | (rw[eV ey];done) | (rw[cI ey];done)
   ·repeat refine sq ?_
    have ey:aF d=true:=by unfold aF;rw[bH,mQ oy];revert hb;cases aJ d.me d.pa<;>cases aJ d.me d.pb<;>simp
    refine av ?_
    repeat refine sq ?_
    refine rs hΓ [2] [] ?_
    refine an ?_
    simp only[go_sem]
    first | (rw[eV ey];done) | (rw[cI ey];done)
  ·repeat refine sq ?_
   have aW:¬ d.wet<0:=by simpa using hb
   have jy:d.wet=0\/d.wet=1:=by have:=dQ.1 hi;omega
   refine av ?_
   rcases jy with fc | fc
   ·repeat refine sq ?_
    refine dx hΓ hP [[],[0],[0,1],[0,1,2],[0,1,2,3],[0,1,2,3,4],[0,1,2,3,4,5],[0,1,2,3,4,5,6],[0,1,2,3,4,5,6,7],[0,1,2,3,4,5,6],[0,1,2,3,4,5,6,7,8,9],[0,1,2,3,4,5,6,7,8,9,10],[0,1,2,3,4,5,6,7,8,9,10,11],[0,1,2,3,4,5,6],[0,1,2,3,4,5,6,13],[0,1,2,3,4,5,6,13,14],[0,1,2,3,4,5,6],[0,1,2,3,4,5,6,13,14,15,16],[0,1,2,3,4,5,6,13,14,15,16,17],[0,1,2,3,4,5,6,13,14,15,16,17,18],[0,1,2,3,4,5,6,7,8,9,10,11,12,13,14,15,16,17,18,19],[0,1,2,3,4,5,6,7,8,9,10,11,12,13,14,15,16,17,18,19,20]] [78] [] (by kernel_rfl) (fun K' hK=>by simp only[go_sem,fc,o3,o0,Int.sub_self,Int.sub_zero,Int.cast_ofNat_Int,Int.reduceToNat,Int.toNat_one,Int.toNat_zero,Nat.reduceMul,Nat.reduceAdd,Nat.zero_mul,Nat.one_mul,Nat.add_zero];(repeat (refine⟨ob,?_⟩));(first | refine⟨by rfl,?_⟩ | skip);exact hK _ (by simp only[go_sem]) (by simp only[go_sem]<;>rfl)) ?_
    repeat refine sq ?_
    refine au rfl rfl (fun hb=>?_) (fun hb=>?_)
    ·repeat refine sq ?_
     have ey:aF d=false:=by unfold aF;rw[bH,o5 fc];revert hb;cases aJ d.me d.pa<;>cases aJ d.me d.pb<;>simp
     repeat refine sq ?_
     refine rx hΓ [2] [] (fun K' hK=>by simp only[go_sem,fc,o3,o0,Int.sub_self,Int.sub_zero,Int.cast_ofNat_Int,Int.reduceToNat,Int.toNat_one,Int.toNat_zero,Nat.reduceMul,Nat.reduceAdd,Nat.zero_mul,Nat.one_mul,Nat.add_zero];(repeat (refine⟨ob,?_⟩));exact hK _ (by simp only[go_sem]) (by simp only[go_sem]<;>rfl)) ?_
     refine an ?_
     simp only[go_sem]
     first | (rw[eV ey];done) | (rw[cI ey];done)
    ·repeat refine sq ?_
     have ey:aF d=true:=by unfold aF;rw[bH,o5 fc];revert hb;cases aJ d.me d.pa<;>cases aJ d.me d.pb<;>simp
     refine av ?_
     repeat refine sq ?_
     refine rx hΓ [2] [] (fun K' hK=>by simp only[go_sem,fc,o3,o0,Int.sub_self,Int.sub_zero,Int.cast_ofNat_Int,Int.reduceToNat,Int.toNat_one,Int.toNat_zero,Nat.reduceMul,Nat.reduceAdd,Nat.zero_mul,Nat.one_mul,Nat.add_zero];(repeat (refine⟨ob,?_⟩));exact hK _ (by simp only[go_sem]) (by simp only[go_sem]<;>rfl)) ?_
     refine an ?_
     simp only[go_sem]
     first | (rw[eV ey];done) | (rw[cI ey];done)
   ·repeat refine sq ?_
    refine dx hΓ hP [[],[0],[0,1],[0,1,2],[0,1,2,3],[0,1,2,3,4],[0,1,2,3,4,5],[0,1,2,3,4,5,6],[0,1,2,3,4,5,6,7],[0,1,2,3,4,5,6],[0,1,2,3,4,5,6,7,8,9],[0,1,2,3,4,5,6,7,8,9,10],[0,1,2,3,4,5,6,7,8,9,10,11],[0,1,2,3,4,5,6],[0,1,2,3,4,5,6,13],[0,1,2,3,4,5,6,13,14],[0,1,2,3,4,5,6],[0,1,2,3,4,5,6,13,14,15,16],[0,1,2,3,4,5,6,13,14,15,16,17],[0,1,2,3,4,5,6,13,14,15,16,17,18],[0,1,2,3,4,5,6,7,8,9,10,11,12,13,14,15,16,17,18,19],[0,1,2,3,4,5,6,7,8,9,10,11,12,13,14,15,16,17,18,19,20]] [78] [] (by kernel_rfl) (fun K' hK=>by simp only[go_sem,fc,o3,o0,Int.sub_self,Int.sub_zero,Int.cast_ofNat_Int,Int.reduceToNat,Int.toNat_one,Int.toNat_zero,Nat.reduceMul,Nat.reduceAdd,Nat.zero_mul,Nat.one_mul,Nat.add_zero];(repeat (refine⟨ob,?_⟩));(first | refine⟨by rfl,?_⟩ | skip);exact hK _ (by simp only[go_sem]) (by simp only[go_sem]<;>rfl)) ?_
    repeat refine sq ?_
    refine au rfl rfl (fun hb=>?_) (fun hb=>?_)
    ·repeat refine sq ?_
     have ey:aF d=false:=by unfold aF;rw[bH,o4 fc];revert hb;cases aJ d.me d.pa<;>cases aJ d.me d.pb<;>simp
     repeat refine sq ?_
     refine rx hΓ [2] [] (fun K' hK=>by simp only[go_sem,fc,o3,o0,Int.sub_self,Int.sub_zero,Int.cast_ofNat_Int,Int.reduceToNat,Int.toNat_one,Int.toNat_zero,Nat.reduceMul,Nat.reduceAdd,Nat.zero_mul,Nat.one_mul,Nat.add_zero];(repeat (refine⟨ob,?_⟩));exact hK _ (by simp only[go_sem]) (by simp only[go_sem]<;>rfl)) ?_
     refine an ?_
     simp only[go_sem]
     first | (rw[eV ey];done) | (rw[cI ey];done)
    ·repeat refine sq ?_
     have ey:aF d=true:=by unfold aF;rw[bH,o4 fc];revert hb;cases aJ d.me d.pa<;>cases aJ d.me d.pb<;>simp
     refine av ?_
     repeat refine sq ?_
     refine rx hΓ [2] [] (fun K' hK=>by simp only[go_sem,fc,o3,o0,Int.sub_self,Int.sub_zero,Int.cast_ofNat_Int,Int.reduceToNat,Int.toNat_one,Int.toNat_zero,Nat.reduceMul,Nat.reduceAdd,Nat.zero_mul,Nat.one_mul,Nat.add_zero];(repeat (refine⟨ob,?_⟩));exact hK _ (by simp only[go_sem]) (by simp only[go_sem]<;>rfl)) ?_
     refine an ?_
     simp only[go_sem]
     first | (rw[eV ey];done) | (rw[cI ey];done)
theorem tN:al Tryz.prog 39 S39:=RV.sound
end Go.Eng
set_option linter.unusedVariables false
namespace Go.Eng
open Go Go.Proofs Go.RowKit Go.Lib Go.Shelf
set_option maxHeartbeats 2000000 in
set_option maxRecDepth 100000 in
theorem aaF(n c:Nat)(w:World):Calls Tryz.prog 76 #[.slice none n c] w fun e w'=>e=.returned (.slice none 0 0)/\w'=w:=by
 have mixed:Tryz.prog.follows Departure.mixedOrders=true:=by kernel_rfl
 have qT:∀ (w:World) (a:Option Addr) (n c n' c':Nat),(binOp .eql 23 (.slice a n c) (.slice none n' c')).run Tryz.prog w=.ok (.bool a.isNone) w:=fun w a n c n' c'=>Lib.run_eql_slice_nil w _ _ a n c n' c' Tryz.underlying23
 go_enter Tryz.func76,Tryz.ntmps76
 go_wp2
 go_ret
 exact⟨rfl,rfl⟩
set_option maxHeartbeats 2000000 in
set_option maxRecDepth 100000 in
theorem aaE(a:Addr)(n c:Nat)(w:World)(v':Value)(w':World)
 (cF:∀ ty,(Builtin.append_ #[23,23] ty #[.slice (some ⟨w.heap.size,0,none⟩) 0 0,.slice (some a) n c]).run Tryz.prog (w.alloc (.cells #[] 91))=.ok v' w'):
 Calls Tryz.prog 76 #[.slice (some a) n c] w fun e w1=>e=.returned v'/\w1=w':=by
 have mixed:Tryz.prog.follows Departure.mixedOrders=true:=by kernel_rfl
 have qT:∀ (w:World) (a:Option Addr) (n c n' c':Nat),(binOp .eql 23 (.slice a n c) (.slice none n' c')).run Tryz.prog w=.ok (.bool a.isNone) w:=fun w a n c n' c'=>Lib.run_eql_slice_nil w _ _ a n c n' c' Tryz.underlying23
 go_enter Tryz.func76,Tryz.ntmps76
 go_wp2_with (at_builtin;refine Lib.wpList_append_run _ rfl _ _ _ _ rfl _ _ rfl rfl _ _ (cF _) ?_)
 go_ret
 exact⟨rfl,rfl⟩
set_option maxHeartbeats 2000000 in
set_option maxRecDepth 100000 in
theorem aaD(n c:Nat)(w:World):Calls Tryz.prog 77 #[.slice none n c] w fun e w'=>e=.returned (.slice none 0 0)/\w'=w:=by
 have mixed:Tryz.prog.follows Departure.mixedOrders=true:=by kernel_rfl
 have qT:∀ (w:World) (a:Option Addr) (n c n' c':Nat),(binOp .eql 22 (.slice a n c) (.slice none n' c')).run Tryz.prog w=.ok (.bool a.isNone) w:=fun w a n c n' c'=>Lib.run_eql_slice_nil w _ _ a n c n' c' Tryz.underlying22
 go_enter Tryz.func77,Tryz.ntmps77
 go_wp2
 go_ret
 exact⟨rfl,rfl⟩
set_option maxHeartbeats 2000000 in
set_option maxRecDepth 100000 in
theorem aaC(a:Addr)(n c:Nat)(w:World)(v':Value)(w':World)
 (cF:∀ ty,(Builtin.append_ #[22,22] ty #[.slice (some ⟨w.heap.size,0,none⟩) 0 0,.slice (some a) n c]).run Tryz.prog (w.alloc (.cells #[] 3))=.ok v' w'):
 Calls Tryz.prog 77 #[.slice (some a) n c] w fun e w1=>e=.returned v'/\w1=w':=by
 have mixed:Tryz.prog.follows Departure.mixedOrders=true:=by kernel_rfl
 have qT:∀ (w:World) (a:Option Addr) (n c n' c':Nat),(binOp .eql 22 (.slice a n c) (.slice none n' c')).run Tryz.prog w=.ok (.bool a.isNone) w:=fun w a n c n' c'=>Lib.run_eql_slice_nil w _ _ a n c n' c' Tryz.underlying22
 go_enter Tryz.func77,Tryz.ntmps77
 go_wp2_with (at_builtin;refine Lib.wpList_append_run _ rfl _ _ _ _ rfl _ _ rfl rfl _ _ (cF _) ?_)
 go_ret
 exact⟨rfl,rfl⟩
theorem oa(n:Nat)(h:n<1000000000):n≠yid:=by unfold yid;omega
theorem Fy:xk Tryz.prog 76 23 91 2 16 (.agg #[.int .i64 0,.int .i64 0]):=
 ⟨by kernel_rfl,by kernel_rfl,oa _ (by decide),jb Tryz.func76 (by rfl) (by kernel_rfl),aaF,aaE⟩
theorem Fx:xk Tryz.prog 77 22 3 1 8 (.int .i64 0):=
 ⟨by kernel_rfl,by kernel_rfl,oa _ (by decide),jb Tryz.func77 (by rfl) (by kernel_rfl),aaD,aaC⟩
def H5(sz by_:Nat):PSpec:=⟨fun xs=>∃ l,xs=[.sl l]/\(∀ z∈l,z.cells.length=sz/\z.okc=true)/\l.length*by_<=140737488355328,fun xs=>xs.headD default,false⟩
theorem Ny{P:Program}{f T E sz by_:Nat}{Z:Value}(L:xk P f T E sz by_ Z)(hz:Z.cells.size=sz)(hb:0<by_):aQ P f (H5 sz by_):=by
 refine SK (Ak L) L.ne (fun h=>by cases h) ?_
 rintro xs ⟨l,rfl,hl,hn⟩
 simp only[qi,List.map_cons,List.map_nil,H5,List.headD_cons]
 cases l with
 |nil=>exact⟨trivial,trivial,rfl⟩
 |cons y r=>
  have e:iq P (fun _=>none) [0,0] T (.v (.sl (y::r)))=cw P (fun _=>none) [0,0] T T .nilsl (.v (.sl (y::r))):=rfl
  rw[e]
  have rN:(y::r).length*by_<=140737488355328:=hn
  have kJ:(y::r).length<=maxLen:=by unfold maxLen;have:=Nat.le_mul_of_pos_right (y::r).length hb;omega
  simp only[cw,L.tE,L.tZ,aA,ax,aH,aR]
  exact⟨⟨trivial,hl,hz,rN,kJ,trivial⟩,trivial,trivial⟩
theorem aQ.conv{P:Program}{f:FuncId}{s s':PSpec}(h:aQ P f s)(hf:s'.flat=s.flat)(hp:∀ xs,s'.pre xs->s.pre xs/\s'.fn xs=s.fn xs):aQ P f s':=by
 refine⟨h.ne,h.enter,fun fi xs hx=>?_,fun m w xs args hm ht hx cG=>?_⟩
 ·rw[(hp xs hx).2];exact h.flat (hf▸fi) xs (hp xs hx).1
 ·rw[(hp xs cG).2];exact h.calls m w xs args hm ht hx (hp xs cG).1
noncomputable def Gc:PSpec:=p1 dY (fun l=>l.length*8<=140737488355328) (fun l=>.sl (l.map vInt)) false
noncomputable def S77:Spec:=Gc.toSpec
theorem VQ:al Tryz.prog 77 S77:=(aQ.conv (s':=Gc) (Ny Fx rfl (by decide)) rfl (by
 intro xs hx
 obtain⟨l,rfl,hl,e⟩:=x9 hx
 exact⟨⟨_,rfl,fun z hz=>by obtain⟨x,_,rfl⟩:=List.mem_map.1 hz;exact⟨rfl,rfl⟩,by simpa using hl⟩,e⟩)).sound
noncomputable def Gd:PSpec:=p1 jv (fun l=>l.length*16<=140737488355328) (fun l=>.sl (l.map encPa)) false
noncomputable def S76:Spec:=Gd.toSpec
theorem VS:al Tryz.prog 76 S76:=(aQ.conv (s':=Gd) (Ny Fy rfl (by decide)) rfl (by
 intro xs hx
 obtain⟨l,rfl,hl,e⟩:=x9 hx
 exact⟨⟨_,rfl,fun z hz=>by obtain⟨x,_,rfl⟩:=List.mem_map.1 hz;exact⟨rfl,rfl⟩,by simpa using hl⟩,e⟩)).sound
attribute [go_sem] Gd S76 Gc S77
open Go
structure Gh (r:Lp) (dn:List Name->List D):Prop where
 ren:∀ f Ls,Ls.length=r.m->D.renL f (dn Ls)=dn (Ls.map f)
 clo:∀ dom Ls,Ls.length=r.m->(∀ x∈Ls,dom x=true)->D.closL dom (dn Ls)=true
 reach:∀ Ls s obj R k,Ls.length=r.m->(R::Ls).Nodup->dt obj Ls (r.fam Ls s)->obj R=some (r.rc Ls .ready none)->dF obj (k+r.fu+1) (R::dH (dn Ls)) []=R::Ls
def Lp.itC(r:Lp)(dn:List Name->List D):CSpec where
 pre:=fun os ds=>os=r.rc (LI r.m) .ready none::r.fam (LI r.m) 0/\ds=.yld [0,1]::dn (LI r.m)
 out:=fun _ _=>⟨(0,r.fin (LI r.m))::eM 1 (r.fam (LI r.m) r.e),[],.tup []⟩
theorem Lp.itC_app{r:Lp}(hr:r.Ok){dn:List Name->List D}(wq:Gh r dn){obj:Name->Option O}{t R:Name}{Ls:List Name}(hl:Ls.length=r.m)(hn:Ls.Nodup)(hR:R∉Ls)
 (h0:obj R=some (r.rc Ls .ready none)) (hF:dt obj Ls (r.fam Ls 0)):
 (r.itC dn).toSpec.app obj t (.yld R::dn Ls)=⟨True,.tup [],dW Ls (r.fam Ls r.e) (upd obj R (some (r.fin Ls)))⟩:=by
 have zl:(R::Ls).Nodup:=List.nodup_cons.2 ⟨hR,hn⟩
 have ma:reach obj (.yld R::dn Ls)=R::Ls:=by
  unfold reach
  have :=wq.reach Ls 0 obj R (2999-r.fu) hl zl hF h0
  rw[show 2999-r.fu+r.fu+1=3000 by have:=hr.fuel;omega]at this
  exact this
 have YA:∀ s,dt obj Ls (r.fam Ls s)->Ls.map (cl (R::Ls) obj)=(r.fam Ls s).map (O.ren (cin (R::Ls))):=by
  intro s hF
  rw[l5]at hF
  refine List.ext_getElem (by simp[hr.len _ _ hl,hl]) fun i h1 h2=>?_
  have h3:i<Ls.length:=by simpa using h1
  have h4:i<(r.fam Ls s).length:=by rw[hr.len _ _ hl,<-hl];exact h3
  have h5:=congrArg (fun l=>l[i]?) hF
  have h6:obj Ls[i]=some (r.fam Ls s)[i]:=by simpa[h3,h4]using h5
  simp only[List.getElem_map,cl,h6]
 have e1:cm obj (.yld R::dn Ls)=r.rc (LI r.m) .ready none::r.fam (LI r.m) 0:=by
  unfold cm
  rw[ma,List.map_cons,YA 0 hF,hr.renF _ _ _ hl,FB hn hR,hl]
  congr 1
  unfold Lp.rc at h0 |-
  simp only[cl,h0,O.ren]
  rw[hr.renE _ _ hl,FB hn hR,hl]
 have e2:cJ obj (.yld R::dn Ls)=.yld [0,1]::dn (LI r.m):=by
  unfold cJ
  rw[ma]
  simp only[D.renL,D.ren,wq.ren _ _ hl]
  rw[FB hn hR,hl]
  simp only[cin,idx,if_true]
 have cG:(r.itC dn).pre (r.rc (LI r.m) .ready none::r.fam (LI r.m) 0) (.yld [0,1]::dn (LI r.m)):=⟨rfl,rfl⟩
 have fQ:∀ os ds,(r.itC dn).out os ds=⟨(0,r.fin (LI r.m))::eM 1 (r.fam (LI r.m) r.e),[],.tup []⟩:=fun _ _=>rfl
 have DV:∀ x∈Ls,cE (R::Ls) x=true:=fun x hx=>gT.2 (List.mem_cons_of_mem _ hx)
 have fY:shut obj (R::Ls)=true:=by
  unfold shut
  rw[List.all_eq_true]
  intro x hx
  rcases List.mem_cons.1 hx with rfl | hx
  ·rw[h0]
   unfold Lp.rc
   exact hr.closE _ _ hl DV
  obtain⟨i,hi,rfl⟩:=List.getElem_of_mem hx
  rw[l5]at hF
  have h4:i<(r.fam Ls 0).length:=by rw[hr.len _ _ hl,<-hl];exact hi
  have h5:=congrArg (fun l=>l[i]?) hF
  have h6:obj Ls[i]=some (r.fam Ls 0)[i]:=by simpa[hi,h4]using h5
  rw[h6]
  exact hr.closF _ _ _ hl DV _ (List.getElem_mem h4)
 have bR:D.closL (cE (R::Ls)) (.yld R::dn Ls)=true:=by
  show (cE (R::Ls) R&&D.closL _ _)=true
  rw[wq.clo _ _ hl DV]
  simp[cE]
 have hp:∀ obj',b9 (R::Ls) t (eM 1 (r.fam (LI r.m) r.e)) obj'=dW Ls (r.fam Ls r.e) obj':=by
  intro obj'
  rw[BL (Ls:=Ls) (by rw[hr.len _ _ (gj _),hl]) fun i hi=>by
   rw[Nat.add_comm,List.getD_cons_succ];exact kS hi,hr.renF _ _ _ (gj _)]
  have :(LI r.m).map (cout (R::Ls) t)=Ls:=by rw[<-hl];exact Nn R Ls t
  rw[this]
 have hf:O.ren (cout (R::Ls) t) (r.fin (LI r.m))=r.fin Ls:=by
  unfold Lp.fin Lp.rc
  simp only[O.ren]
  rw[hr.renE _ _ (gj _)]
  have :(LI r.m).map (cout (R::Ls) t)=Ls:=by rw[<-hl];exact Nn R Ls t
  rw[this]
 simp only[CSpec.toSpec,e1,e2,ma,fQ,fY,bR,fresh,List.all_nil,Bool.and_self,cG,and_self,cX,b9,List.getD_cons_zero,hf,hp,D.ren,D.renL]
theorem aaK{P:Program}{r:Lp}(hr:r.Ok){dn:List Name->List D}(wq:Gh r dn){g:Operand}{ps:Array Tmp}{asg body:Code}{σ:S}{rest:List Code}{K:Exit->S->Prop}(k k':Nat){f:FuncId}{Ls:List Name}
 (hc:cz σ g=true) (hg:aj σ g=.clo (.func f) [] (dn Ls)) (ar:f≠yid) (hs:al P f (r.itC dn).toSpec) (rL:σ.obj (k::σ.pre)=none)
 (he:(List.range σ.nt).map σ.env=r.env Ls) (fZ:ps.toList=r.ps) (ha:asg=r.asg) (hb:body=r.body) (hl:Ls.length=r.m) (hn:Ls.Nodup) (hR:(k::σ.pre)∉Ls) (hF:dt σ.obj Ls (r.fam Ls 0))
 (hK:∀ o:O,vl (jk (fun σ'=>CL P rest σ' K) K) { σ with obj:=upd (dW Ls (r.fam Ls r.e) σ.obj) (k::σ.pre) (some o) } r.pd):CL P (.rangeFunc g ps asg body::rest) σ K:=by
 subst ha
 subst hb
 generalize wz:k::σ.pre=R at *
 have YN:∀ x∈Ls,(upd σ.obj R (some (r.rc Ls .ready none))) x=σ.obj x:=fun x hx=>aN _ _ _ (by rintro rfl;exact hR hx)
 have uu:=Lp.itC_app hr wq (t:=k'::σ.pre) hl hn hR (aH σ.obj R (some (r.rc Ls .ready none))) (Tu hF YN)
 have KH:O.loop ((List.range σ.nt).map σ.env) ps.toList r.asg r.body .ready none=r.rc Ls .ready none:=by unfold Lp.rc;rw[he,fZ]
 have mo:eo (aj σ g) [.yld R]=.yld R::dn Ls:=by rw[hg];rfl
 have dL:fS (aj σ g)=some f:=by rw[hg];simp[fS,ar]
 have Xs:∀ (F:List O) (obj:Name->Option O) (a b:Option O),upd (dW Ls F (upd obj R a)) R b=upd (dW Ls F obj) R b:=by
  intro F obj a b
  funext x
  by_cases h:x=R
  ·subst h;rw[aH,aH]
  ·rw[aN _ _ _ h,aN _ _ _ h]
   have :∀ (Ls:List Name) (F:List O) (o1 o2:Name->Option O),o1 x=o2 x->dW Ls F o1 x=dW Ls F o2 x:=by
    intro Ls
    induction Ls with
    |nil=>intro F o1 o2 h;simpa[dW]using h
    |cons y ys ih=>
     intro F o1 o2 h
     cases F with
     |nil=>simpa[dW]using h
     |cons f fs=>
      simp only[dW]
      refine ih fs _ _ ?_
      by_cases e:x=y
      ·subst e;rw[aH,aH]
      ·rw[aN _ _ _ e,aN _ _ _ e,h]
   exact this Ls F _ _ (aN _ _ _ h)
 refine aaI (Γ:=fun x=>if x=f then some (r.itC dn).toSpec else none) (fun x s hx=>by
  split at hx
  ·rename_i e;cases hx;subst e;exact hs
  ·cases hx) k k' hc dL ar (if_pos rfl) (by rw[wz];exact rL) ?_ ?_
 ·rw[wz,mo,KH,uu];trivial
 ·rw[wz,mo,KH,uu]
  have mh:dW Ls (r.fam Ls r.e) (upd (upd σ.obj R (some (r.rc Ls .ready none))) R (some (r.fin Ls))) R=some (r.fin Ls):=by rw[va hR,aH]
  have jA:lW (dW Ls (r.fam Ls r.e) (upd (upd σ.obj R (some (r.rc Ls .ready none))) R (some (r.fin Ls)))) R=
      upd (dW Ls (r.fam Ls r.e) σ.obj) R (some (r.rc Ls .exhausted r.pd)):=by
   unfold lW
   rw[mh]
   unfold Lp.fin Lp.rc
   simp only[Xs]
  refine Uo r.pd mh ?_
  rw[jA]
  exact hK (r.rc Ls .exhausted r.pd)
def jn(obj:Name->Option O)(L:List O):Name->Option O:=fun nm=>match bd L nm with | some o=>some o | none=>obj nm
theorem QN{L1 L2:List O}(h:L2.length=L1.length):jn (bd L1) L2=bd L2:=by
 funext nm
 unfold jn
 cases hx:cD nm with
 |false=>rw[yb hx,yb hx]
 |true=>
  obtain⟨i,rfl⟩:=vC.1 hx
  simp only[bd]
  by_cases hi:i<L2.length
  ·rw[List.getElem?_eq_getElem hi]
  ·rw[List.getElem?_eq_none (by omega),List.getElem?_eq_none (by omega)]
theorem Ci(n:Nat)(p:Name)(F H:Name->Option O)(L:List O)(l:List (Nat×E))(h:List (Name×O)):
 aU n p (jn (fun nm=>if own p nm=true then F nm else H nm) L) l h=aU n p (jn H L) l h:=
 vw fun nm hn=>by unfold jn;simp[hn]
theorem Ge(p:Name)(dom:Name->Bool)(F H:Name->Option O)(L:List O):
 bT p dom (jn (fun nm=>if own p nm=true then F nm else H nm) L)=bT p dom (jn H L):=by
 have e:∀ nm,own p nm=false->jn (fun nm=>if own p nm=true then F nm else H nm) L nm=jn H L nm:=fun nm hn=>by unfold jn;simp[hn]
 exact propext ⟨fun k nm q hn h=>k nm q hn (by rw[e nm hn];exact h),fun k nm q hn h=>k nm q hn (by rw[<-e nm hn];exact h)⟩
def Lp.I(r:Lp)(s:Nat):List O:=r.rc (LI r.m) .ready none::r.fam (LI r.m) s
structure Ro (α:Type) where
 m:Nat
 fam:α->List Name->List O
 args:α->List Name->List D
 ok:α->Prop
 val:α->D
structure Ro.Ok {α:Type} (r:Ro α):Prop where
 len:∀ a Ls,Ls.length=r.m->(r.fam a Ls).length=r.m
 renF:∀ a f Ls,Ls.length=r.m->(r.fam a Ls).map (O.ren f)=r.fam a (Ls.map f)
 renA:∀ a f Ls,Ls.length=r.m->D.renL f (r.args a Ls)=r.args a (Ls.map f)
 reach:∀ a Ls obj,Ls.length=r.m->Ls.Nodup->dt obj Ls (r.fam a Ls)->reach obj (r.args a Ls)=Ls
 closF:∀ a dom Ls,Ls.length=r.m->(∀ x∈Ls,dom x=true)->∀ o∈r.fam a Ls,O.clos dom o=true
 closA:∀ a dom Ls,Ls.length=r.m->(∀ x∈Ls,dom x=true)->D.closL dom (r.args a Ls)=true
 det:∀ a b,r.ok a->r.ok b->r.fam a (LR r.m)=r.fam b (LR r.m)->r.args a (LR r.m)=r.args b (LR r.m)->r.val a=r.val b
 vcl:∀ a dom,D.clos dom (r.val a)=true
 vren:∀ a f,(r.val a).ren f=r.val a
variable {α:Type}
noncomputable def Ro.c(r:Ro α):CSpec where
 pre:=fun os ds=>∃ a,r.ok a/\os=r.fam a (LR r.m)/\ds=r.args a (LR r.m)
 out:=fun os ds=>⟨[],[],by classical exact if h:∃ a,r.ok a/\os=r.fam a (LR r.m)/\ds=r.args a (LR r.m)then r.val h.choose else .any⟩
theorem Ro.c_out{r:Ro α}(hr:r.Ok){a:α}(ha:r.ok a):r.c.out (r.fam a (LR r.m)) (r.args a (LR r.m))=⟨[],[],r.val a⟩:=by
 have h:∃ b,r.ok b/\r.fam a (LR r.m)=r.fam b (LR r.m)/\r.args a (LR r.m)=r.args b (LR r.m):=⟨a,ha,rfl,rfl⟩
 have e:r.val h.choose=r.val a:=(hr.det _ _ ha h.choose_spec.1 h.choose_spec.2.1 h.choose_spec.2.2).symm
 simp only[Ro.c]
 rw[dif_pos h,e]
theorem Ro.c_app{r:Ro α}(hr:r.Ok){a:α}(ha:r.ok a){obj:Name->Option O}{t:Name}{Ls:List Name}(hl:Ls.length=r.m)(hn:Ls.Nodup)(hF:dt obj Ls (r.fam a Ls)):
 r.c.toSpec.app obj t (r.args a Ls)=⟨True,r.val a,obj⟩:=by
 have ma:=hr.reach a Ls obj hl hn hF
 have zJ:Ls.map (cin Ls)=LR r.m:=by rw[FC hn,hl]
 have e1:cm obj (r.args a Ls)=r.fam a (LR r.m):=by
  unfold cm
  rw[ma]
  have wC:=hF
  rw[l5]at wC
  have :Ls.map (cl Ls obj)=(r.fam a Ls).map (O.ren (cin Ls)):=by
   refine List.ext_getElem (by simp[hr.len _ _ hl,hl]) fun i h1 h2=>?_
   have h3:i<Ls.length:=by simpa using h1
   have h4:i<(r.fam a Ls).length:=by rw[hr.len _ _ hl,<-hl];exact h3
   have h5:=congrArg (fun l=>l[i]?) wC
   have h6:obj Ls[i]=some (r.fam a Ls)[i]:=by simpa[h3,h4]using h5
   simp only[List.getElem_map,cl,h6]
  rw[this,hr.renF _ _ _ hl,zJ]
 have e2:cJ obj (r.args a Ls)=r.args a (LR r.m):=by
  unfold cJ
  rw[ma,hr.renA _ _ _ hl,zJ]
 have gB:∀ x∈Ls,cE Ls x=true:=fun x hx=>gT.2 hx
 have fY:shut obj Ls=true:=by
  unfold shut
  rw[List.all_eq_true]
  intro x hx
  obtain⟨i,hi,rfl⟩:=List.getElem_of_mem hx
  have wC:=hF
  rw[l5]at wC
  have h4:i<(r.fam a Ls).length:=by rw[hr.len _ _ hl,<-hl];exact hi
  have h5:=congrArg (fun l=>l[i]?) wC
  have h6:obj Ls[i]=some (r.fam a Ls)[i]:=by simpa[hi,h4]using h5
  rw[h6]
  exact hr.closF _ _ _ hl gB _ (List.getElem_mem h4)
 have cG:r.c.pre (r.fam a (LR r.m)) (r.args a (LR r.m)):=⟨a,ha,rfl,rfl⟩
 simp only[CSpec.toSpec,e1,e2,ma,Ro.c_out hr ha,fY,hr.closA _ _ _ hl gB,fresh,List.all_nil,Bool.and_self,cG,and_self,cX,b9,hr.vren]
def Hu(P:Program)(rs:List ResultVar)(v:D)(H:Name->Option O)(e:Exit)(σ:S):Prop:=
 (e=.normal\/e=.ret)/\(bX P σ rs).ok/\(bX P σ rs).d=v/\∀ i,σ.obj [i,1]=H [i,1]
theorem Ix{σ:S}:∀ {os:List O} {k:Nat},(∀ i (h:i<os.length),σ.obj [k+i,1]=some os[i])->qW σ [] k os
 |[],_,_=>trivial
 |o::r,k,h=>by
  refine⟨by have:=h 0 (by simp);simp only[Nat.add_zero,List.getElem_cons_zero]at this;exact this,Ix fun i hi=>?_⟩
  have :=h (i+1) (by simpa using hi)
  rw[show k+1+i=k+(i+1)by omega]
  simpa using this
theorem Ro.sound{P:Program}{r:Ro α}(hr:r.Ok){f:FuncId}{fn:Func}{nt:Nat}{rs:List ResultVar}(hf:P.funcs[f]?=some fn)(eQ:fn.ntmps=nt)(fx:fn.results.toList=rs)(hn:(fn.name== "runtime.NumGoroutine")=false)(hy:f<1000000000)
 (hw:∃ c,fn.body=some c/\∀ a,r.ok a->(r.args a (LR r.m)).length<=nt/\CL P [c] (aU nt [0] (bd (r.fam a (LR r.m))) (eL 0 (r.args a (LR r.m))) []) (Hu P rs (r.val a) (bd (r.fam a (LR r.m))))):al P f r.c.toSpec:=by
 obtain⟨c,hc,hw⟩:=hw
 refine oS hf hc eQ fx (jb hf hc hn) (Nat.ne_of_lt (show f<yid from hy)) ?_
 rintro os ds ⟨a,ha,rfl,rfl⟩
 obtain⟨hl,h⟩:=hw a ha
 refine⟨hl,?_⟩
 rw[Ro.c_out hr ha]
 refine CW.mono (ld h) ?_
 rintro e σ ⟨he,h1,h2,h3⟩
 have fin:(bX P σ rs).ok/\(bX P σ rs).d=r.val a/\gI (r.fam a (LR r.m)) ⟨[],[],r.val a⟩ σ:=by
  refine⟨h1,h2,Ix fun i hi=>?_,trivial,?_⟩
  ·rw[Nat.zero_add,h3]
   show (r.fam a (LR r.m))[i]?=_
   rw[List.getElem?_eq_getElem hi]
  ·simp[hr.vcl,distinct]
 rcases he with rfl | rfl
 ·exact fin
 ·exact fin
theorem Ro.outC{r:Ro α}(hr:r.Ok)(a:α):∀ hs,bT [0] (bM [0] hs) (bd (r.fam a (LR r.m)))=True:=fun hs=>eq_true (vn (fun o ho dom hd=>hr.closF a dom _ (uT _) (fun x hx=>by
 obtain⟨i,_,rfl⟩:=List.mem_map.1 hx
 exact hd i) o ho) hs)
open Go Go.Proofs
def gM(s:Stk):Prop:=s.ho.length*8<=140737488355328/\∀ i,i<6->(s.un.get i).length*16<=140737488355328
theorem ev.sz{s:Stk}(h:ev s):gM s:=⟨by have:=h.hol;omega,fun i hi=>by have:=h.unl i hi;omega⟩
theorem Ck:∀ {a b:List V},a.map D.v=b.map D.v->a=b
 |[],[],_=>rfl
 |[],_::_,h=>by cases h
 |_::_,[],h=>by cases h
 |x::r,y::q,h=>by
  simp only[List.map_cons,List.cons.injEq,D.v.injEq]at h
  rw[h.1,Ck h.2]
theorem ti(f:Name->Name):∀ l:List V,D.renL f (l.map .v)=l.map .v
 |[]=>rfl
 |x::r=>by
  rw[List.map_cons,D.renL,ti f r];rfl
theorem yp:∀ l:List V,dH (l.map .v)=[]
 |[]=>rfl
 |x::r=>by
  rw[List.map_cons,dH,yp r];rfl
theorem Cf{Ls:List Name}(h:Ls.length=1):∃ a,Ls=[a]:=by
 match Ls,h with
 |[a],_=>exact⟨a,rfl⟩
def jW:Ro (List V×Nat×Stk) where
 m:=1
 fam a _:=[.box (a.1.map .v)]
 args a Ls:=[.ref (Ls.headD [0,1]) a.2.1]
 ok a:=(a.1.drop a.2.1).take 19=aB a.2.2/\gM a.2.2
 val a:=.v (kg a.2.2)
theorem uZ:jW.Ok where
 len:=fun _ _ _=>rfl
 renF:=fun a f Ls _=>by simp only[jW,List.map_cons,List.map_nil,O.ren,ti]
 renA:=fun a f Ls h=>by
  obtain⟨n,rfl⟩:=Cf h
  rfl
 reach:=fun a Ls obj h _ hF=>by
  obtain⟨n,rfl⟩:=Cf h
  obtain⟨h1,_⟩:=hF
  have en:dH (jW.args a [n])=[n]:=rfl
  unfold Go.Eng.reach
  rw[en]
  show dF obj (2998+1+1) [n] []=[n]
  simp[dF,gT,h1,mZ,yp]
 closF:=fun a dom Ls _ _ o ho=>by
  simp only[jW,List.mem_singleton]at ho
  subst ho
  exact qh _ _
 closA:=fun a dom Ls h hd=>by
  obtain⟨n,rfl⟩:=Cf h
  simp[jW,D.closL,D.clos,hd n (by simp)]
 det:=fun a b h1 h2 h3 h4=>by
  have e1:a.1=b.1:=Ck (O.box.inj (List.cons.inj h3).1)
  have e2:a.2.1=b.2.1:=(D.ref.inj (List.cons.inj h4).1).2
  have e3:aB a.2.2=aB b.2.2:=by rw[<-h1.1,<-h2.1,e1,e2]
  have e4:a.2.2=b.2.2:=by rw[<-oQ a.2.2,e3,oQ]
  simp only[jW,e4]
 vcl:=fun _ _=>rfl
 vren:=fun _ _=>rfl
noncomputable def S59:Spec:=jW.c.toSpec
theorem ZF(l:List V)(i:Nat):(l.map D.v).getD i .any=if i<l.length then .v (l.getD i default)else .any:=by
 by_cases h:i<l.length
 ·rw[if_pos h,kT (by simpa using h),kT h];simp
 ·rw[if_neg h];simp[List.getD,List.getElem?_eq_none (Nat.le_of_not_lt h)]
theorem Fq{l:List V}{off:Nat}{s:Stk}(h:(l.drop off).take 19=aB s){i:Nat}(hi:i<19):(l.map D.v).getD (off+i) .any=.v ((aB s).getD i default):=by
 have hlen:19<=(l.drop off).length:=by
  have :=congrArg List.length h
  rw[List.length_take,jV]at this
  omega
 rw[List.length_drop]at hlen
 rw[ZF,if_pos (by omega),<-h,kT (show off+i<l.length by omega),kT (by rw[List.length_take,List.length_drop];omega)]
 simp
theorem Nh{l:List V}{off:Nat}{s:Stk}(h:(l.drop off).take 19=aB s):((l.map D.v).drop off).take 19=(aB s).map D.v:=by
 rw[<-h,List.map_take,List.map_drop]
theorem Ng{l:List V}{off:Nat}{s:Stk}(h:(l.drop off).take 19=aB s):off+19<=l.length:=by
 have :=congrArg List.length h
 rw[List.length_take,jV,List.length_drop]at this
 omega
@[go_sem] theorem aeZ(s:Stk):D.v (.sl (s.ho.map vInt))::List.drop 1 ((aB s).map D.v)=(aB s).map D.v:=rfl
theorem sX(s:Stk){i:Nat}(h:i<6):List.take (1+i) ((aB s).map D.v)++[D.v (.sl ((s.un.get i).map encPa))]++List.drop (1+i+1) ((aB s).map D.v)=(aB s).map D.v:=by
 match i,h with
 | 0,_=>rfl
 | 1,_=>rfl
 | 2,_=>rfl
 | 3,_=>rfl
 | 4,_=>rfl
 | 5,_=>rfl
theorem Nf{l:List V}{off:Nat}{s:Stk}(h:(l.drop off).take 19=aB s){i:Nat}(hi:i<6):(l.map D.v).getD (off+1+i) .any=.v (rowP (s.un.get i)):=by
 rw[Nat.add_assoc,Fq h (show 1+i<19 by omega),cN s hi]
@[go_sem] theorem ae1(s:Stk):List.take 19 ((aB s).map D.v)=(aB s).map D.v:=rfl
@[go_sem] theorem ae2(s:Stk):((aB s).map D.v).length=19:=rfl
attribute [go_sem] Hu
noncomputable def Pm:List (Nat×Spec):=[(76,S76),(77,S77)]
theorem Pl:∀ f s,tbl Pm f=some s->al Tryz.prog f s:=tc VS<|tc VQ<|tn
attribute [go_sem] Pm
set_option maxHeartbeats 4000000 in
theorem yK:al Tryz.prog 59 S59:=by
 refine Ro.sound uZ (rs:=[.cell 2 27]) Tryz.func59 Tryz.ntmps59 (by rfl) (by kernel_rfl) (by decide) ⟨_,rfl,?_⟩
 rintro⟨l,off,s⟩ ⟨iX,bf⟩
 refine⟨lb rfl,?_⟩
 have hΓ:=Pl
 have hO:=Ro.outC uZ (l,off,s)
 have h0:bd (jW.fam (l,off,s) (LR jW.m)) [0,1]=some (.box (l.map .v)):=rfl
 generalize bd (jW.fam (l,off,s) (LR jW.m))=H at *
 have ha:jW.args (l,off,s) (LR jW.m)=[.ref [0,1] off]:=rfl
 have hv:jW.val (l,off,s)=.v (kg s):=rfl
 rw[ha,hv]
 simp only[eL,Nat.zero_add]at h0 |-
 replace iX:(l.drop off).take 19=aB s:=iX
 replace bf:gM s:=bf
 have hA:=Nh iX
 have hB:=Fq iX (show 0<19 by omega)
 have hL:=Ng iX
 have kQ:(l.map D.v).getD off .any=.v (fV s.ho):=hB
 repeat refine sq ?_
 refine rx hΓ [0,2] [[2,0]] (fun K' hK=>by simp only[go_sem,hO,h0];(repeat (refine⟨ob,?_⟩));exact hK _ (by simp only[go_sem,hO,h0]) (by simp only[go_sem,hO,h0]<;>rfl)) ?_
 repeat refine sq ?_
 refine rx hΓ [0,2,3] [[2,0],[3,0]] (fun K' hK=>by simp only[go_sem,hO,h0,hA,hB,hL,List.length_map,List.append_nil,jV];(repeat (refine⟨ob,?_⟩));exact hK _ (by simp only[go_sem,hO,h0,hA,hB,hL,List.length_map,List.append_nil,jV]) (by simp only[go_sem,hO,h0,hA,hB,hL,List.length_map,List.append_nil,jV]<;>rfl)) ?_
 repeat refine sq ?_
 refine rx hΓ [0,2,3] [[2,0],[3,0]] (fun K' hK=>by simp only[go_sem,hO,h0,Nat.add_zero,kQ,bf.1];(repeat (refine⟨ob,?_⟩));exact hK _ (by simp only[go_sem,hO,h0,Nat.add_zero,kQ,bf.1]) (by simp only[go_sem,hO,h0,Nat.add_zero,kQ,bf.1]<;>rfl)) ?_
 repeat refine sq ?_
 refine rx hΓ [0,2,3,14] [[2,0],[3,0]] (fun K' hK=>by simp only[go_sem,hO,h0];(repeat (refine⟨ob,?_⟩));exact hK _ (by simp only[go_sem,hO,h0]) (by simp only[go_sem,hO,h0]<;>rfl)) ?_
 repeat refine sq ?_
 refine aO ?_
 repeat refine sq ?_
 refine cv (fun z:Nat=>[(14,⟨true,.v (vInt z)⟩)]) (fun z=>[]) (fun z=>z<=6) (fun z=>6-z) 0 ?_ ?_ ?_ ?_
 ·exact Nat.zero_le _
 ·rfl
 ·rfl
 rintro i hi
 simp only[go_sem]
 repeat refine sq ?_
 refine rx hΓ [0,2,3,14,15] [[2,0],[3,0]] (fun K' hK=>by simp only[go_sem,hO,h0];(repeat (refine⟨ob,?_⟩));exact hK _ (by simp only[go_sem,hO,h0]) (by simp only[go_sem,hO,h0]<;>rfl)) ?_
 repeat refine sq ?_
 refine au rfl rfl (fun hb=>?_) (fun hb=>?_)
 ·have ae:i<6:=by have hq:(i:Int)<6:=(by simpa using hb);omega
  have ai:(i:Int)<6:=by omega
  clear hb
  have hC:=Nf iX ae
  have fP:=bf.2 i ae
  repeat refine sq ?_
  refine av ?_
  repeat refine sq ?_
  refine aO ?_
  repeat refine sq ?_
  refine rx hΓ [0,2,3,4,14] [[2,0],[3,0]] (fun K' hK=>by simp only[go_sem,hO,h0,Int.toNat_natCast,Int.natCast_nonneg,ai];(repeat (refine⟨ob,?_⟩));exact hK _ (by simp only[go_sem,hO,h0,Int.toNat_natCast,Int.natCast_nonneg,ai]) (by simp only[go_sem,hO,h0,Int.toNat_natCast,Int.natCast_nonneg,ai]<;>rfl)) ?_
  repeat refine sq ?_
  refine aL hΓ fun K' hK=>?_
  simp only[go_sem,hO,h0,Int.toNat_natCast,Int.natCast_nonneg,ai,hC,fP,sX s ae,Int.toNat_natCast,Int.natCast_nonneg,ai]
  repeat (refine⟨ob,?_⟩)
  refine hK _ ?_
  clear K' hK
  simp only[go_sem]
  refine kj [0,2,3,14] [[2,0],[3,0]] ?_ ?_
  ·simp only[go_sem,hO,h0]
  simp only[go_sem,hO,h0]
  repeat refine sq ?_
  refine aL hΓ fun K' hK=>?_
  simp only[go_sem,hO,h0,Int.toNat_natCast,Int.natCast_nonneg,ai]
  repeat (refine⟨ob,?_⟩)
  refine hK _ ?_
  clear K' hK
  simp only[go_sem]
  refine⟨i+1,ae,by(show 6-(i+1)<6-i;omega),?_⟩
  refine bk [0,2,3,14] [[2,0],[3,0]] ?_ ?_
  ·simp only[go_sem,aD ae (lb rfl:(6:Nat)<=maxLen),Int.natCast_add,Int.natCast_one,sX s ae,hO,h0]
  ·simp only[go_sem,aD ae (lb rfl:(6:Nat)<=maxLen),Int.natCast_add,Int.natCast_one,sX s ae,hO,h0]
 ·have aW:i=6:=by
   have :¬ (i:Int)<6:=by simpa using hb
   omega
  clear hb
  subst aW
  repeat refine sq ?_
  refine b7 ?_
  simp only[go_sem]
  refine kj [2,3] [[2,0],[3,0]] ?_ ?_
  ·simp only[go_sem,hO,h0]
  simp only[go_sem,hO,h0]
  repeat refine sq ?_
  refine rx hΓ [2] [[2,0]] (fun K' hK=>by simp only[go_sem,hO,h0,List.append_nil];(repeat (refine⟨ob,?_⟩));exact hK _ (by simp only[go_sem,hO,h0,List.append_nil]) (by simp only[go_sem,hO,h0,List.append_nil]<;>rfl)) ?_
  refine aE (bz [2,0] (aB s) rfl [2] [[2,0]] ?_ rfl) ?_
  ·simp only[go_sem,hO,h0]
  simp only[go_sem,hO,h0]
  refine an ?_
  simp only[go_sem,hO,h0]
  exact .inr trivial
theorem PN{σ:S}(b nm:Name)(i k sz:Nat)(cs:List D)(L:List V)(hb:σ.obj b=some (.box cs))(hi:cs[i]?=some (.msl nm k))(hn:σ.obj nm=some (.arr sz L))(hk:k=L.length):
 dN σ ⟨σ.nt,σ.env,upd (upd σ.obj nm (some (.farr sz L))) b (some (.box (cs.set i (.v (.sl L))))),σ.pre,σ.base⟩:=by
 intro G φ m a w hC
 have ar:b≠nm:=fun e=>by subst e;rw[hb]at hn;cases hn
 obtain⟨h1,h2,h3,us,T,f,h4,h5,h6,h7⟩:=hC.objs b _ hb
 obtain⟨fg,DX⟩:=List.getElem?_eq_some_iff.1 hi
 have h0:i<us.size:=by omega
 have h8:=h7 i fg h0
 rw[DX]at h8
 have ck:ax 6 σ.obj (.msl nm k)=⟨k=L.length,.sl L,upd σ.obj nm (some (.farr sz L))⟩:=by simp only[ax,hn]
 obtain⟨m2,k1,k2,k3,k4,_⟩:=nD 6 _ _ _ _ _ _ hC _ _ h8 (by rw[ck];exact hk)
 rw[ck]at k2 k3 k4
 simp only at k2 k3 k4
 have cU:(upd σ.obj nm (some (.farr sz L))) b=some (.box cs):=by rw[aN _ _ _ ar];exact hb
 have jx:=Ext.same (φ:=φ) (o':=.box (cs.set i (.v (.sl L)))) cU rfl rfl
 have rz:=jx
 rw[ep]at rz
 refine⟨_,m2,k2.chg (w':=w) b (.box (cs.set i (.v (.sl L)))) _ jx ⟨rfl,rfl,rfl,Nat.le_refl _⟩ (fun _ _ _=>rfl) (fun _=>.inr ⟨⟨_,cU,rfl,h2⟩,rfl⟩) ?_⟩
 rw[ep]
 refine⟨h1,h2,fun d hd=>?_,us,T,f,h4,h5,by simpa using h6,fun j hj eA=>?_⟩
 ·rcases List.mem_or_eq_of_mem_set hd with h | h
  ·exact h3 d h
  ·subst h;rfl
 ·simp only[List.length_set]at hj
  rw[List.getElem_set]
  by_cases eI:i=j
  ·subst eI
   rw[if_pos rfl]
   exact .v _ _ k4
  ·rw[if_neg eI]
   exact((h7 j hj eA).ext k1 k3).ext (Mem.le_refl m2) rz
theorem ed{σ τ:S}(b nm:Name)(i k sz:Nat)(cs:List D)(L:List V)(hb:σ.obj b=some (.box cs))(hi:cs[i]?=some (.msl nm k))(hn:σ.obj nm=some (.arr sz L))(hk:k=L.length)(ks:List Nat)(ns:List Name)
 (h:fE ks ns ⟨σ.nt,σ.env,upd (upd σ.obj nm (some (.farr sz L))) b (some (.box (cs.set i (.v (.sl L))))),σ.pre,σ.base⟩)
 (gb:fN ks ns ⟨σ.nt,σ.env,upd (upd σ.obj nm (some (.farr sz L))) b (some (.box (cs.set i (.v (.sl L))))),σ.pre,σ.base⟩=τ):dN σ τ:=
 (PN b nm i k sz cs L hb hi hn hk).trans (gL ks ns h gb)
theorem Iq(l:List Int):∀ y∈l.map vInt,y.cells.length=1/\y.okc=true:=by
 intro y hy;obtain⟨x,_,rfl⟩:=List.mem_map.1 hy;exact⟨rfl,rfl⟩
theorem Ip(l:List Par):∀ y∈l.map encPa,y.cells.length=2/\y.okc=true:=by
 intro y hy;obtain⟨x,_,rfl⟩:=List.mem_map.1 hy;exact⟨rfl,rfl⟩
theorem ah{p:Prop}(h:p:=by first | exact Iq _ | exact Ip _ | ((repeat' apply And.intro)<;>first | rfl | omega | (unfold maxLen;omega) | trivial | decide | exact Iq _ | exact Ip _) | exact ob):p:=h
def qf(s:Stk):List D:=[.v (vInt s.se.a),.v (vInt s.se.b),.v (vInt s.se.c),.v (vInt s.se.d),.v (vInt s.se.e),.v (vInt s.se.f),.v (vInt s.ta.a),.v (vInt s.ta.b),.v (vInt s.ta.c),.v (vInt s.ta.d),.v (vInt s.ta.e),.v (vInt s.ta.f)]
def iJ(s:Stk)(z:Nat):List D:=.v (fV s.ho)::(if 0<z then .v (rowP s.un.a)else .nilsl)::(if 1<z then .v (rowP s.un.b)else .nilsl)::(if 2<z then .v (rowP s.un.c)else .nilsl)::
 (if 3<z then .v (rowP s.un.d)else .nilsl)::(if 4<z then .v (rowP s.un.e)else .nilsl)::(if 5<z then .v (rowP s.un.f)else .nilsl)::qf s
theorem yw{α:Type}{C:List α}{x:α}{n:Nat}(h:n<C.length):(List.take n C++[x]++List.drop (n+1) C)[n]?=some x:=by
 rw[List.append_assoc,List.getElem?_append_right (by rw[List.length_take];omega),List.length_take,Nat.min_eq_left (by omega),Nat.sub_self]
 rfl
theorem py{α:Type}{C:List α}{x y:α}{n:Nat}(h:n<C.length):(List.take n C++[x]++List.drop (n+1) C).set n y=List.take n C++[y]++List.drop (n+1) C:=by
 rw[List.append_assoc,List.set_append_right _ _ (by rw[List.length_take];omega),List.length_take,Nat.min_eq_left (by omega),Nat.sub_self,List.append_assoc]
 rfl
theorem Ni(s:Stk){i:Nat}(h:i<6):List.take (1+i) (iJ s i)++[D.v (.sl ((s.un.get i).map encPa))]++List.drop (1+i+1) (iJ s i)=iJ s (i+1):=by
 match i,h with
 | 0,_=>rfl
 | 1,_=>rfl
 | 2,_=>rfl
 | 3,_=>rfl
 | 4,_=>rfl
 | 5,_=>rfl
theorem Nj(s:Stk):iJ s 6=(aB s).map .v:=rfl
@[go_sem] theorem ago(s:Stk)(z:Nat):(iJ s z).length=19:=rfl
theorem aax(dom:Name->Bool)(p:Prop)[Decidable p](l:List V):D.clos dom (if p then .v (.sl l)else .nilsl)=true:=by
 split<;>rfl
@[go_sem] theorem aaq(dom:Name->Bool)(s:Stk)(z:Nat):D.closL dom (iJ s z)=true:=by
  simp only[iJ,qf,D.closL,D.clos,aax,Bool.and_self,rowP]
noncomputable def P62:PSpec:=p1 fb (fun s=>gM s) (fun s=>kg s) false
noncomputable def S62:Spec:=P62.toSpec
attribute [go_sem] P62 S62
set_option maxHeartbeats 4000000 in
theorem RF:aQ Tryz.prog 62 P62:=by
 refine w1 (rs:=[.cell 2 27]) Tryz.func62 Tryz.ntmps62 (by rfl) (by kernel_rfl) (by decide) (fun h=>by cases h) ⟨_,rfl,lb rfl,fun s hp hw=>?_⟩
 have hP:=ba
 simp only[fb]at hw |-
 have hΓ:=@jY Tryz.prog
 have bf:gM s:=hp
 have y7:=bf.1
 repeat refine sq ?_
 refine rx hΓ [1,2] [[1,0],[2,0],[8,0],[24,0]] (fun K' hK=>by simp only[go_sem];(repeat (refine⟨ah,?_⟩));exact hK _ (by simp only[go_sem]) (by simp only[go_sem]<;>rfl)) ?_
 refine aE (bz [1,0] (aB s) rfl [1,2] [[1,0],[2,0],[8,0],[24,0]] ?_ rfl) ?_
 ·simp only[go_sem]
 simp only[go_sem]
 repeat refine sq ?_
 refine dx hΓ hP [[],[],[1],[0,1,2],[],[4],[],[6],[0,1,2,3,4,5,6,7],[],[0,1,2,3,4,5,6,7,8,9]] [1,2,3] [[1,0],[2,0],[3,0],[8,0],[24,0]] (by kernel_rfl) (fun K' hK=>by simp only[go_sem,bj.L,id_eq];(repeat (refine⟨ah,?_⟩));(first | refine⟨by rfl,?_⟩ | skip);exact hK _ (by simp only[go_sem]) (by simp only[go_sem]<;>rfl)) ?_
 refine aE (ed [3,0] [8,0] 0 _ _ _ _ rfl rfl rfl (by first | rfl | (simp only[List.length_map];done)) [1,2,3] [[1,0],[2,0],[3,0]] ?_ rfl) ?_
 ·simp only[go_sem,List.set_cons_succ,List.set_cons_zero]
 simp only[go_sem,List.set_cons_succ,List.set_cons_zero]
 repeat refine sq ?_
 refine rx hΓ [1,2,3,4] [[1,0],[2,0],[3,0],[8,0],[24,0]] (fun K' hK=>by simp only[go_sem];(repeat (refine⟨ah,?_⟩));exact hK _ (by simp only[go_sem]) (by simp only[go_sem]<;>rfl)) ?_
 repeat refine sq ?_
 refine aO ?_
 repeat refine sq ?_
 refine cv (fun z:Nat=>[(4,⟨true,.v (vInt z)⟩)]) (fun z=>[([3,0],.box (iJ s z))]) (fun z=>z<=6) (fun z=>6-z) 0 ?_ ?_ ?_ ?_
 ·exact Nat.zero_le _
 ·rfl
 ·rfl
 rintro i hi
 simp only[go_sem]
 repeat refine sq ?_
 refine rx hΓ [1,2,3,4,15] [[1,0],[2,0],[3,0],[8,0],[24,0]] (fun K' hK=>by simp only[go_sem];(repeat (refine⟨ah,?_⟩));exact hK _ (by simp only[go_sem]) (by simp only[go_sem]<;>rfl)) ?_
 repeat refine sq ?_
 refine au rfl rfl (fun hb=>?_) (fun hb=>?_)
 ·have ae:i<6:=by have hq:(i:Int)<6:=(by simpa using hb);omega
  have ai:(i:Int)<6:=by omega
  clear hb
  have fP:=bf.2 i ae
  repeat refine sq ?_
  refine av ?_
  repeat refine sq ?_
  refine aO ?_
  repeat refine sq ?_
  refine aL hΓ fun K' hK=>?_
  simp only[go_sem,Int.toNat_natCast,Int.natCast_nonneg,ai,cN s ae,Int.toNat_natCast,Int.natCast_nonneg,ai]
  repeat (refine⟨ah,?_⟩)
  refine hK _ ?_
  clear K' hK
  refine aE (ed [3,0] [24,0] (1+i) _ _ _ _ rfl (yw (by show 1+i<19;omega)) rfl (by simp only[List.length_map]) [1,2,3,4] [[1,0],[2,0],[3,0]] ?_ rfl) ?_
  ·simp only[go_sem,py (show 1+i<(iJ s i).length by show 1+i<19;omega),Ni s ae]
  simp only[py (show 1+i<(iJ s i).length by show 1+i<19;omega),Ni s ae]
  simp only[go_sem]
  refine kp [1,2,3,4] [[1,0],[2,0],[3,0],[8,0],[24,0]] ?_
  repeat refine sq ?_
  refine aL hΓ fun K' hK=>?_
  simp only[go_sem,Int.toNat_natCast,Int.natCast_nonneg,ai]
  repeat (refine⟨ah,?_⟩)
  refine hK _ ?_
  clear K' hK
  simp only[go_sem]
  refine⟨i+1,ae,by(show 6-(i+1)<6-i;omega),?_⟩
  refine bk [1,2,3,4] [[1,0],[2,0],[3,0],[8,0],[24,0]] ?_ ?_
  ·simp only[go_sem,aD ae (lb rfl:(6:Nat)<=maxLen),Int.natCast_add,Int.natCast_one]
  ·simp only[go_sem,aD ae (lb rfl:(6:Nat)<=maxLen),Int.natCast_add,Int.natCast_one]
 ·have aW:i=6:=by
   have :¬ (i:Int)<6:=by simpa using hb
   omega
  clear hb
  subst aW
  repeat refine sq ?_
  refine b7 ?_
  simp only[go_sem]
  refine kp [2,3] [[2,0],[3,0],[8,0],[24,0]] ?_
  repeat refine sq ?_
  refine rx hΓ [2] [[2,0],[8,0],[24,0]] (fun K' hK=>by simp only[go_sem,Nj,List.append_nil];(repeat (refine⟨ah,?_⟩));exact hK _ (by simp only[go_sem]) (by simp only[go_sem]<;>rfl)) ?_
  refine aE (bz [2,0] (aB s) rfl [2] [[2,0],[8,0],[24,0]] ?_ rfl) ?_
  ·simp only[go_sem]
  simp only[go_sem]
  refine an ?_
  simp only[go_sem]
  skip
theorem tM:al Tryz.prog 62 S62:=RF.sound
theorem A9{σ:S}(b:Name)(cs:List D)(l:List V)(hb:σ.obj b=some (.box cs))(hl:lF cs=some l):dN σ ⟨σ.nt,σ.env,upd σ.obj b (some (.box (l.map .v))),σ.pre,σ.base⟩:=by
 intro G φ m a w hC
 obtain⟨h1,h2,h3,us,T,f,h4,h5,h6,h7⟩:=hC.objs b _ hb
 obtain⟨hlen,jI⟩:=F0 hl
 have jx:=Ext.same (φ:=φ) (o':=.box (l.map .v)) hb rfl rfl
 have rz:=jx
 rw[ep]at rz
 refine⟨_,m,hC.chg (w':=w) b (.box (l.map .v)) _ jx ⟨rfl,rfl,rfl,Nat.le_refl _⟩ (fun _ _ _=>rfl) (fun _=>.inr ⟨⟨_,hb,rfl,h2⟩,rfl⟩) ?_⟩
 rw[ep]
 refine⟨h1,h2,fun d hd=>?_,us,T,f,h4,h5,by rw[List.length_map,hlen];exact h6,fun j hj eA=>?_⟩
 ·obtain⟨x,hx,rfl⟩:=List.mem_map.1 hd
  obtain⟨i,hi,rfl⟩:=List.getElem_of_mem hx
  exact Om (jI i (by omega) hi) (h3 _ (List.getElem_mem _))
 ·have oA:j<l.length:=by simpa using hj
  have zt:j<cs.length:=by omega
  simp only[List.getElem_map]
  exact .v _ _ (Ol (h7 j zt eA) (jI j zt oA))
theorem ft{σ τ:S}(b:Name)(cs:List D)(l:List V)(hb:σ.obj b=some (.box cs))(hl:lF cs=some l)(ks:List Nat)(ns:List Name)
 (h:fE ks ns ⟨σ.nt,σ.env,upd σ.obj b (some (.box (l.map .v))),σ.pre,σ.base⟩) (hk:fN ks ns ⟨σ.nt,σ.env,upd σ.obj b (some (.box (l.map .v))),σ.pre,σ.base⟩=τ):dN σ τ:=
 (A9 b cs l hb hl).trans (gL ks ns h hk)
def iO(l:List Int):Stk:=⟨l,fG fun _=>[],fG fun _=>0,fG fun _=>0⟩
def zS:Stk:=iO []
def zP:Pg:=⟨0,zS,0⟩
def zD:Dk:=⟨0,zS,zP,zP,0⟩
def qZ(me:Int)(l:List Int):Dk:=⟨me,iO l,⟨1,iO l,dV (iO l) 1⟩,⟨0,zS,dV zS 0⟩,-1⟩
def n9(me:Int)(l:List Int):Bool:=aY me 0 5&&fJ l
def tG(me:Int)(l:List Int):Int:=if aY me 0 5=true then(if fJ l=true then 0 else 1)else 94
def tH(me:Int)(l:List Int):Dk:=if n9 me l=true then qZ me l else zD
theorem Ns(dom:Name->Bool)(l:List V)(n:Nat):D.closL dom (List.take n (l.map .v))=true:=by
 rw[<-List.map_take];exact qh _ _
theorem Nv(dom:Name->Bool)(l:List V)(n:Nat):D.closL dom (List.drop n (l.map .v))=true:=by
 rw[<-List.map_drop];exact qh _ _
attribute [go_sem] Nw Ns Nv
@[go_sem] theorem ZH(f:(Name->Option O)->D->FR)(obj:Name->Option O)(h:∀ obj x,f obj (.v x)=⟨True,x,obj⟩):∀ l:List V,aM f obj (l.map .v)=⟨True,l,obj⟩
  |[]=>rfl
  |x::r=>by simp only[List.map_cons,aM,h,ZH f obj h r,and_self]
@[go_sem] theorem acB:V.agg [V.sl [],V.sl [],V.sl [],V.sl [],V.sl [],V.sl [],V.sl [],V.int .i64 0,V.int .i64 0,V.int .i64 0,V.int .i64 0,V.int .i64 0,V.int .i64 0,V.int .i64 0,V.int .i64 0,V.int .i64 0,V.int .i64 0,V.int .i64 0,V.int .i64 0]=V.agg (aB zS):=rfl
@[go_sem] theorem afW(d:Dk):((((ak d).map D.v).drop 1).take 19)=(aB d.now).map D.v:=rfl
@[go_sem] theorem afX(d:Dk):((ak d).map D.v).length=63:=rfl
@[go_sem] theorem afZ(d:Dk):((ak d).map D.v).drop 63=[]:=rfl
@[go_sem] theorem af0(d:Dk):((ak d).map D.v).take 63=(ak d).map D.v:=rfl
@[go_sem] theorem bt1(s:Stk)(x:D):(List.map D.v (aB s)++[x]).length=20:=rfl
@[go_sem] theorem bt2(s:Stk)(x:D):List.take 19 (List.map D.v (aB s)++[x])=List.map D.v (aB s):=rfl
@[go_sem] theorem bt3(s:Stk)(x:D):List.drop 20 (List.map D.v (aB s)++[x])=[]:=rfl
@[go_sem] theorem bt4(c u:Int)(s:Stk):D.v (.int .i64 c)::(List.map D.v (aB s)++[D.v (vInt u)])=(cB ⟨c,s,u⟩).map D.v:=rfl
@[go_sem] theorem bt5(p:Pg):(List.map D.v (cB p)).length=21:=rfl
@[go_sem] theorem bt6(p:Pg):List.take 21 (List.map D.v (cB p))=List.map D.v (cB p):=rfl
@[go_sem] theorem afj(p:Pg)(u:Int):List.take 20 (List.map D.v (cB p))++[D.v (vInt u)]++List.drop 21 (List.map D.v (cB p))=List.map D.v (cB ⟨p.co,p.st,u⟩):=rfl
@[go_sem] theorem afV(d:Dk)(p:Pg):List.take 20 (List.map D.v (ak d))++List.map D.v (cB p)++List.drop 41 (List.map D.v (ak d))=List.map D.v (ak ⟨d.me,d.now,p,d.pb,d.wet⟩):=rfl
@[go_sem] theorem afU(d:Dk)(p:Pg):List.take 41 (List.map D.v (ak d))++List.map D.v (cB p)++List.drop 62 (List.map D.v (ak d))=List.map D.v (ak ⟨d.me,d.now,d.pa,p,d.wet⟩):=rfl
theorem H4{l:List Int}(h:fJ l=true):ev (iO l):=by
 have hl:=tq h
 have h6:∀ i:Nat,(fG fun _=>(0:Int)).get i=0:=fun i=>by
  match i with
  | 0=>rfl
  | 1=>rfl
  | 2=>rfl
  | 3=>rfl
  | 4=>rfl
  |_+5=>rfl
 have h7:∀ i:Nat,(fG fun _=>([]:List Par)).get i=[]:=fun i=>by
  match i with
  | 0=>rfl
  | 1=>rfl
  | 2=>rfl
  | 3=>rfl
  | 4=>rfl
  |_+5=>rfl
 refine⟨hl.1,hl.2,fun i _=>?_,fun i _ p hp=>?_,fun i _=>?_,fun i _=>?_⟩
 ·show ((fG fun _=>([]:List Par)).get i).length<=40
  rw[h7];exact Nat.zero_le _
 ·have:p∈(fG fun _=>([]:List Par)).get i:=hp
  rw[h7]at this;cases this
 ·show bQ ((fG fun _=>(0:Int)).get i)
  rw[h6];exact⟨by omega,by omega⟩
 ·show bQ ((fG fun _=>(0:Int)).get i)
  rw[h6];exact⟨by omega,by omega⟩
theorem Io:ev zS:=H4 rfl
def TB(me:Int)(l:List Int):Dk:=⟨me,iO l,zP,zP,-1⟩
theorem td{L:List V}{off:Nat}{s:Stk}{obj:Name->Option O}{t nm:Name}(ho:obj nm=some (.box (L.map .v)))(hc:(L.drop off).take 19=aB s)(hs:gM s):
 S59.app obj t [.ref nm off]=⟨True,.v (kg s),obj⟩:=
 Ro.c_app uZ (a:=(L,off,s)) ⟨hc,hs⟩ (Ls:=[nm]) rfl (by simp) ⟨ho,trivial⟩
noncomputable def K14:List (Nat×Spec):=[(82,S82),(83,S83),(77,S77),(59,S59),(60,S60)]
attribute [go_sem] K14
theorem NR(s:Stk)(X:List D):List.take 61 (List.map D.v (aB s)++X)=List.map D.v (aB s)++List.take 42 X:=rfl
theorem NQ(s:Stk)(X:List D):List.drop 62 (List.map D.v (aB s)++X)=List.drop 43 X:=rfl
noncomputable def Pk:List (Nat×Spec):=[(84,S84),(85,S85),(62,S62),(63,S63)]
theorem acv:∀ f s,tbl Pk f=some s->al Tryz.prog f s:=tc yJ<|tc Ke<|tc tM<|tc CJ<|tn
attribute [go_sem] Pk
noncomputable def P38:PSpec:=p2 iI dY (fun _ _=>True) (fun me l=>.tup [eK (tH me l),vInt (tG me l)]) false
noncomputable def S38:Spec:=P38.toSpec
attribute [go_sem] P38 S38
set_option maxHeartbeats 4000000 in
theorem RW:aQ Tryz.prog 38 P38:=by
 refine w2 (rs:=[.cell 4 32,.tmp 5]) Tryz.func38 Tryz.ntmps38 (by rfl) (by kernel_rfl) (by decide) (fun h=>by cases h) ⟨_,rfl,lb rfl,fun me l hp hw=>?_⟩
 have hP:=ba
 simp only[iI,dY]at hw |-
 have hΓ:=acv
 repeat refine sq ?_
 refine rx hΓ [0,1,4] [[4,0],[18,0]] (fun K' hK=>by simp only[go_sem];(repeat (refine⟨ah,?_⟩));exact hK _ (by simp only[go_sem]) (by simp only[go_sem]<;>rfl)) ?_
 refine aE (ft [4,0] _ (ak zD) rfl rfl [0,1,4] [[4,0],[18,0]] ?_ rfl) ?_
 ·simp only[go_sem]
 simp only[go_sem]
 repeat refine sq ?_
 refine rx hΓ [0,1,4,10] [[4,0],[18,0]] (fun K' hK=>by simp only[go_sem];(repeat (refine⟨ah,?_⟩));exact hK _ (by simp only[go_sem]) (by simp only[go_sem]<;>rfl)) ?_
 repeat refine sq ?_
 refine au rfl rfl (fun hb=>?_) (fun hb=>?_)
 ·repeat refine sq ?_
  have fA:aY me 0 5=false:=by simpa using hb
  have e1:tG me l=94:=if_neg (by rw[fA];decide)
  have e2:tH me l=zD:=if_neg (by unfold n9;rw[fA];exact Bool.false_ne_true)
  repeat refine sq ?_
  refine rx hΓ [4,5] [[4,0],[18,0]] (fun K' hK=>by simp only[go_sem];(repeat (refine⟨ah,?_⟩));exact hK _ (by simp only[go_sem]) (by simp only[go_sem]<;>rfl)) ?_
  refine an ?_
  simp only[go_sem]
  first | (rw[e1,e2];done) | (rw[e1,e2];rfl)
 ·repeat refine sq ?_
  have fA:aY me 0 5=true:=by simpa using hb
  refine av ?_
  repeat refine sq ?_
  refine rx hΓ [0,1,4,14] [[4,0],[18,0]] (fun K' hK=>by simp only[go_sem];(repeat (refine⟨ah,?_⟩));exact hK _ (by simp only[go_sem]) (by simp only[go_sem]<;>rfl)) ?_
  repeat refine sq ?_
  refine au rfl rfl (fun hb=>?_) (fun hb=>?_)
  ·repeat refine sq ?_
   have fj:fJ l=false:=by simpa using hb
   have e1:tG me l=1:=by unfold tG;rw[if_pos fA,if_neg (by rw[fj];decide)]
   have e2:tH me l=zD:=if_neg (by unfold n9;rw[fj,Bool.and_false];exact Bool.false_ne_true)
   repeat refine sq ?_
   refine rx hΓ [4,5] [[4,0],[18,0]] (fun K' hK=>by simp only[go_sem];(repeat (refine⟨ah,?_⟩));exact hK _ (by simp only[go_sem]) (by simp only[go_sem]<;>rfl)) ?_
   refine an ?_
   simp only[go_sem]
   first | (rw[e1,e2];done) | (rw[e1,e2];rfl)
  ·repeat refine sq ?_
   have fj:fJ l=true:=by simpa using hb
   have e1:tG me l=0:=by unfold tG;rw[if_pos fA,if_pos fj]
   have e2:tH me l=qZ me l:=if_pos (by unfold n9;rw[fA,fj];rfl)
   have rE:=H4 fj
   have afK:=(tq fj).1
   have rZ:ev zS/\bQ 0:=⟨Io,by decide,by decide⟩
   have oI:ev (iO l)/\bQ 1:=⟨rE,by decide,by decide⟩
   have YC:=rE.sz
   refine av ?_
   repeat refine sq ?_
   refine rx hΓ [0,4,6] [[4,0],[6,0],[18,0]] (fun K' hK=>by simp only[go_sem];(repeat (refine⟨ah,?_⟩));exact hK _ (by simp only[go_sem]) (by simp only[go_sem]<;>rfl)) ?_
   refine aE (ed [6,0] [18,0] 0 _ _ _ _ rfl rfl rfl (by first | rfl | (simp only[List.length_map];done)) [0,4,6] [[4,0],[6,0]] ?_ rfl) ?_
   ·simp only[go_sem,List.set_cons_succ,List.set_cons_zero]
   simp only[go_sem,List.set_cons_succ,List.set_cons_zero]
   refine aE (ft [6,0] _ (aB (iO l)) rfl rfl [0,4,6] [[4,0],[6,0]] ?_ rfl) ?_
   ·simp only[go_sem]
   simp only[go_sem]
   repeat refine sq ?_
   refine rx hΓ [4,6,7] [[4,0],[6,0],[7,0],[18,0]] (fun K' hK=>by simp only[go_sem,List.length_append,List.length_cons,List.length_nil,Nat.reduceAdd,Nat.reduceLeDiff,NR,NQ];(repeat (refine⟨ah,?_⟩));exact hK _ (by simp only[go_sem]) (by simp only[go_sem]<;>rfl)) ?_
   refine aE (ft [7,0] _ (ak (TB me l)) rfl rfl [4,6,7] [[4,0],[6,0],[7,0],[18,0]] ?_ rfl) ?_
   ·simp only[go_sem]
   simp only[go_sem]
   repeat refine sq ?_
   refine dx hΓ hP [[],[0],[],[0,1,2],[0,1,2,3],[],[0,1,2,3,4,5],[0,1,2,3,4,5,6]] [4,7] [[4,0],[7,0],[18,0]] (by kernel_rfl) (fun K' hK=>by simp only[go_sem,List.append_nil,Nat.reduceAdd];(repeat (refine⟨by first | exact oI | exact YC | exact ah,?_⟩));(first | refine⟨by rfl,?_⟩ | skip);exact hK _ (by simp only[go_sem]) (by simp only[go_sem]<;>rfl)) ?_
   repeat refine sq ?_
   refine rx hΓ [4,7] [[4,0],[7,0],[18,0]] (fun K' hK=>by simp only[go_sem,Nat.reduceAdd,Int.cast_ofNat_Int,Int.reduceToNat,Int.toNat_one,Nat.reduceMul];(repeat (refine⟨by first | exact rZ | exact ah,?_⟩));exact hK _ (by simp only[go_sem]) (by simp only[go_sem]<;>rfl)) ?_
   refine aE (ft [7,0] _ (ak (qZ me l)) rfl rfl [4,7] [[4,0],[7,0],[18,0]] ?_ rfl) ?_
   ·simp only[go_sem]
   simp only[go_sem]
   repeat refine sq ?_
   refine rx hΓ [4,5] [[4,0],[18,0]] (fun K' hK=>by simp only[go_sem,List.append_nil];(repeat (refine⟨ah,?_⟩));exact hK _ (by simp only[go_sem]) (by simp only[go_sem]<;>rfl)) ?_
   refine an ?_
   simp only[go_sem]
   first | (rw[e1,e2];done) | (rw[e1,e2];rfl)
theorem Wc:al Tryz.prog 38 S38:=RW.sound
theorem MK(d:Nat)(a b:Int):jJ Tryz.prog (d+1) 3 (vInt a) (vInt b)=some (a==b):=by
 simp only[jJ,Tryz.underlying3,if_true]
theorem Yq:Tryz.prog.stoodInHeld 91=false:=by kernel_rfl
theorem ZA:Tryz.prog.eqGuardType Tryz.prog.depth 91=false:=by kernel_rfl
theorem ZQ(d:Nat)(a b a' b':Int):jJ Tryz.prog (d+2) 91 (.agg [vInt a,vInt b]) (.agg [vInt a',vInt b'])=some (a==a'&&b==b'):=by
 unfold jJ
 simp only[Tryz.underlying91,Yq,Bool.false_eq_true,if_false,sn,pq,GJ,List.getElem?_cons_zero,List.getElem?_cons_succ,MK]
 cases a==a'<;>cases b==b'<;>rfl
@[go_sem] theorem ag5(obj:Name->Option O)(op:BinOp)(a b a' b':Int):lL Tryz.prog obj op 91 (.agg [vInt a,vInt b]) (.agg [vInt a',vInt b'])=
    ⟨op=.eql\/op=.neq,.v (.bool (if op=.eql then(a==a'&&b==b')else !(a==a'&&b==b'))),obj⟩:=by
  unfold lL
  rw[show Op.maxDepth=9998+2 from rfl,ZQ]
  simp only[ZA,true_and]
theorem ZB:Tryz.prog.eqGuardType Tryz.prog.depth 25=false:=by kernel_rfl
def pZ(a b:bj Int):Bool:=a.a==b.a&&(a.b==b.b&&(a.c==b.c&&(a.d==b.d&&(a.e==b.e&&a.f==b.f))))
theorem ZS{a b:bj Int}:pZ a b=true↔a=b:=by
 obtain⟨a0,a1,a2,a3,a4,a5⟩:=a
 obtain⟨b0,b1,b2,b3,b4,b5⟩:=b
 simp[pZ]
theorem ZR(d:Nat)(a b:bj Int):jJ Tryz.prog (d+2) 25 (.agg ((a.L id).map vInt)) (.agg ((b.L id).map vInt))=some (pZ a b):=by
 obtain⟨a0,a1,a2,a3,a4,a5⟩:=a
 obtain⟨b0,b1,b2,b3,b4,b5⟩:=b
 unfold jJ
 simp only[Tryz.underlying25,GJ,List.range',uE,bj.L,List.map_cons,List.map_nil,id,pq,Nat.zero_mul,Nat.one_mul,Nat.mul_one,Nat.reduceAdd,List.getElem?_cons_zero,List.getElem?_cons_succ,MK,pZ]
 cases a0==b0<;>cases a1==b1<;>cases a2==b2<;>cases a3==b3<;>cases a4==b4<;>cases a5==b5<;>rfl
@[go_sem] theorem ag6(obj:Name->Option O)(op:BinOp)(a b:bj Int):lL Tryz.prog obj op 25 (.agg ((a.L id).map vInt)) (.agg ((b.L id).map vInt))=
    ⟨op=.eql\/op=.neq,.v (.bool (if op=.eql then pZ a b else !pZ a b)),obj⟩:=by
  unfold lL
  rw[show Op.maxDepth=9998+2 from rfl,ZR]
  simp only[ZB,true_and]
def vd{α:Type}(a b:List α)(n:Nat):Prop:=∀ j (h:j<a.length) (h':j<b.length),j<n->a[j]=b[j]
theorem Hi{α:Type}{a b:List α}{i:Nat}(h:vd a b i)(hi:∀ (h:i<a.length) (h':i<b.length),a[i]=b[i]):vd a b (i+1):=by
 intro j hj eA nv
 rcases Nat.lt_succ_iff_lt_or_eq.1 nv with h1 | rfl
 ·exact h j hj eA h1
 ·exact hi hj eA
theorem Hj{α:Type}{a b:List α}(hl:a.length=b.length)(h:vd a b a.length):a=b:=List.ext_getElem hl fun j h1 h2=>h j h1 h2 h1
theorem HW{a b:Par}:(!(a.no==b.no&&a.pa==b.pa))=false↔a=b:=by
 obtain⟨a0,a1⟩:=a
 obtain⟨b0,b1⟩:=b
 simp
noncomputable def P34:PSpec:=p2 dY dY (fun _ _=>True) (fun a b=>.bool (decide (a=b))) true
noncomputable def S34:Spec:=P34.toSpec
attribute [go_sem] P34 S34
set_option maxHeartbeats 4000000 in
theorem RX:aQ Tryz.prog 34 P34:=by
 refine w2 (rs:=[.tmp 4]) Tryz.func34 Tryz.ntmps34 (by rfl) (by kernel_rfl) (by decide) (fun _ _ _=>rfl) ⟨_,rfl,lb rfl,fun a b hp hw=>?_⟩
 have hP:=ba
 simp only[dY]at hw |-
 have hΓ:=@jY Tryz.prog
 have hl:a.length<=maxLen:=by have:=hw.1.1;simpa using this
 repeat refine sq ?_
 refine rs hΓ [0,1] [] ?_
 repeat refine sq ?_
 refine rs hΓ [0,1,10] [] ?_
 repeat refine sq ?_
 refine au rfl rfl (fun hb=>?_) (fun hb=>?_)
 ·repeat refine sq ?_
  have bC:a≠b:=by
   rintro rfl
   simp at hb
  repeat refine sq ?_
  refine rs hΓ [4] [] ?_
  refine an ?_
  simp only[go_sem]
  rw[decide_eq_false bC]
 ·repeat refine sq ?_
  have Eg:a.length=b.length:=by
   have :(a.length:Int)=b.length:=by simpa using hb
   omega
  clear hb
  refine av ?_
  repeat refine sq ?_
  refine rs hΓ [0,1,5] [] ?_
  repeat refine sq ?_
  refine aO ?_
  repeat refine sq ?_
  refine cv (fun s:Nat=>[(5,⟨true,.v (vInt s)⟩)]) (fun s=>[]) (fun s=>s<=a.length/\vd a b s) (fun s=>a.length-s) 0 ?_ ?_ ?_ ?_
  ·exact⟨Nat.zero_le _,fun j _ _ h=>by omega⟩
  ·rfl
  ·rfl
  rintro i ⟨hi,hR⟩
  simp only[go_sem]
  repeat refine sq ?_
  refine rs hΓ [0,1,5,14] [] ?_
  repeat refine sq ?_
  refine au rfl rfl (fun hb=>?_) (fun hb=>?_)
  ·have ae:i<a.length:=by simpa using hb
   have ai:(i:Int)<a.length:=by omega
   clear hb
   have rS:(i:Int)<b.length:=by omega
   have X2:i<b.length:=by omega
   repeat refine sq ?_
   refine av ?_
   repeat refine sq ?_
   refine aO ?_
   repeat refine sq ?_
   refine dx hΓ hP [[],[],[0,1],[0,1,2],[],[],[4,5],[4,5,6],[0,1,2,3,4,5,6,7]] [0,1,5,25] [] (by kernel_rfl) (fun K' hK=>by simp only[go_sem,aI ae,aI (show i<b.length by omega),Int.toNat_natCast,Int.natCast_nonneg,ai,rS];(repeat (refine⟨ob,?_⟩));(first | refine⟨by rfl,?_⟩ | skip);exact hK _ (by simp only[go_sem]) (by simp only[go_sem]<;>rfl)) ?_
   repeat refine sq ?_
   refine au rfl rfl (fun hb=>?_) (fun hb=>?_)
   ·repeat refine sq ?_
    have bC:a≠b:=by
     rintro rfl
     simp at hb
    repeat refine sq ?_
    refine rx hΓ [4] [] (fun K' hK=>by simp only[go_sem,aI ae,aI (show i<b.length by omega),Int.toNat_natCast,Int.natCast_nonneg,ai,rS];(repeat (refine⟨ob,?_⟩));exact hK _ (by simp only[go_sem]) (by simp only[go_sem]<;>rfl)) ?_
    refine an ?_
    simp only[go_sem]
    rw[decide_eq_false bC]
   ·repeat refine sq ?_
    refine av ?_
    refine ct ?_
    simp only[go_sem]
    refine kp [0,1,5] [] ?_
    repeat refine sq ?_
    refine aL hΓ fun K' hK=>?_
    simp only[go_sem,aI ae,aI (show i<b.length by omega),Int.toNat_natCast,Int.natCast_nonneg,ai,rS]
    repeat (refine⟨ob,?_⟩)
    refine hK _ ?_
    clear K' hK
    simp only[go_sem]
    refine⟨i+1,⟨ae,?_⟩,by(show a.length-(i+1)<a.length-i;omega),?_⟩
    ·exact Hi hR fun _ _=>by first | exact HW.1 hb | simpa using hb
    refine bk [0,1,5] [] ?_ ?_
    ·simp only[go_sem,aD ae hl,Int.natCast_add,Int.natCast_one]
    ·simp only[go_sem,aD ae hl,Int.natCast_add,Int.natCast_one]
  ·have aW:i=a.length:=by
    have :¬ (i:Int)<a.length:=by simpa using hb
    omega
   clear hb
   subst aW
   repeat refine sq ?_
   refine b7 ?_
   simp only[go_sem]
   refine kp [] [] ?_
   repeat refine sq ?_
   refine rs hΓ [4] [] ?_
   refine an ?_
   simp only[go_sem]
   rw[decide_eq_true (Hj Eg hR)]
theorem Wd:al Tryz.prog 34 S34:=RX.sound
noncomputable def P75:PSpec:=p2 jv jv (fun _ _=>True) (fun a b=>.bool (decide (a=b))) true
noncomputable def S75:Spec:=P75.toSpec
attribute [go_sem] P75 S75
set_option maxHeartbeats 4000000 in
theorem Ry:aQ Tryz.prog 75 P75:=by
 refine w2 (rs:=[.tmp 4]) Tryz.func75 Tryz.ntmps75 (by rfl) (by kernel_rfl) (by decide) (fun _ _ _=>rfl) ⟨_,rfl,lb rfl,fun a b hp hw=>?_⟩
 have hP:=ba
 simp only[jv]at hw |-
 have hΓ:=@jY Tryz.prog
 have hl:a.length<=maxLen:=by have:=hw.1.1;simpa using this
 repeat refine sq ?_
 refine rs hΓ [0,1] [] ?_
 repeat refine sq ?_
 refine rs hΓ [0,1,10] [] ?_
 repeat refine sq ?_
 refine au rfl rfl (fun hb=>?_) (fun hb=>?_)
 ·repeat refine sq ?_
  have bC:a≠b:=by
   rintro rfl
   simp at hb
  repeat refine sq ?_
  refine rs hΓ [4] [] ?_
  refine an ?_
  simp only[go_sem]
  rw[decide_eq_false bC]
 ·repeat refine sq ?_
  have Eg:a.length=b.length:=by
   have :(a.length:Int)=b.length:=by simpa using hb
   omega
  clear hb
  refine av ?_
  repeat refine sq ?_
  refine rs hΓ [0,1,5] [] ?_
  repeat refine sq ?_
  refine aO ?_
  repeat refine sq ?_
  refine cv (fun s:Nat=>[(5,⟨true,.v (vInt s)⟩)]) (fun s=>[]) (fun s=>s<=a.length/\vd a b s) (fun s=>a.length-s) 0 ?_ ?_ ?_ ?_
  ·exact⟨Nat.zero_le _,fun j _ _ h=>by omega⟩
  ·rfl
  ·rfl
  rintro i ⟨hi,hR⟩
  simp only[go_sem]
  repeat refine sq ?_
  refine rs hΓ [0,1,5,14] [] ?_
  repeat refine sq ?_
  refine au rfl rfl (fun hb=>?_) (fun hb=>?_)
  ·have ae:i<a.length:=by simpa using hb
   have ai:(i:Int)<a.length:=by omega
   clear hb
   have rS:(i:Int)<b.length:=by omega
   have X2:i<b.length:=by omega
   repeat refine sq ?_
   refine av ?_
   repeat refine sq ?_
   refine aO ?_
   repeat refine sq ?_
   refine dx hΓ hP [[],[],[0,1],[0,1,2],[],[],[4,5],[4,5,6],[0,1,2,3,4,5,6,7]] [0,1,5,25] [] (by kernel_rfl) (fun K' hK=>by simp only[go_sem,aI ae,aI (show i<b.length by omega),Int.toNat_natCast,Int.natCast_nonneg,ai,rS];(repeat (refine⟨ob,?_⟩));(first | refine⟨by rfl,?_⟩ | skip);exact hK _ (by simp only[go_sem]) (by simp only[go_sem]<;>rfl)) ?_
   repeat refine sq ?_
   refine au rfl rfl (fun hb=>?_) (fun hb=>?_)
   ·repeat refine sq ?_
    have bC:a≠b:=by
     rintro rfl
     simp at hb
    repeat refine sq ?_
    refine rx hΓ [4] [] (fun K' hK=>by simp only[go_sem,aI ae,aI (show i<b.length by omega),Int.toNat_natCast,Int.natCast_nonneg,ai,rS];(repeat (refine⟨ob,?_⟩));exact hK _ (by simp only[go_sem]) (by simp only[go_sem]<;>rfl)) ?_
    refine an ?_
    simp only[go_sem]
    rw[decide_eq_false bC]
   ·repeat refine sq ?_
    refine av ?_
    refine ct ?_
    simp only[go_sem]
    refine kp [0,1,5] [] ?_
    repeat refine sq ?_
    refine aL hΓ fun K' hK=>?_
    simp only[go_sem,aI ae,aI (show i<b.length by omega),Int.toNat_natCast,Int.natCast_nonneg,ai,rS]
    repeat (refine⟨ob,?_⟩)
    refine hK _ ?_
    clear K' hK
    simp only[go_sem]
    refine⟨i+1,⟨ae,?_⟩,by(show a.length-(i+1)<a.length-i;omega),?_⟩
    ·exact Hi hR fun _ _=>by first | exact HW.1 hb | simpa using hb
    refine bk [0,1,5] [] ?_ ?_
    ·simp only[go_sem,aD ae hl,Int.natCast_add,Int.natCast_one]
    ·simp only[go_sem,aD ae hl,Int.natCast_add,Int.natCast_one]
  ·have aW:i=a.length:=by
    have :¬ (i:Int)<a.length:=by simpa using hb
    omega
   clear hb
   subst aW
   repeat refine sq ?_
   refine b7 ?_
   simp only[go_sem]
   refine kp [] [] ?_
   repeat refine sq ?_
   refine rs hΓ [4] [] ?_
   refine an ?_
   simp only[go_sem]
   rw[decide_eq_true (Hj Eg hR)]
theorem VT:al Tryz.prog 75 S75:=Ry.sound
noncomputable def Pj:List (Nat×Spec):=[(34,S34),(75,S75)]
theorem acu:∀ f s,tbl Pj f=some s->al Tryz.prog f s:=tc Wd<|tc VT<|tn
attribute [go_sem] Pj
theorem QA{a b:Stk}(h:a.un=b.un):decide (a=b)=(decide (a.ho=b.ho)&&(pZ a.se b.se&&pZ a.ta b.ta)):=by
 obtain⟨h1,u1,s1,t1⟩:=a
 obtain⟨h2,u2,s2,t2⟩:=b
 simp only at h
 subst h
 rw[Bool.eq_iff_iff]
 simp[ZS]
noncomputable def P24:PSpec:=p2 fb fb (fun _ _=>True) (fun a b=>.bool (decide (a=b))) true
noncomputable def S24:Spec:=P24.toSpec
attribute [go_sem] P24 S24
set_option maxHeartbeats 4000000 in
theorem R0:aQ Tryz.prog 24 P24:=by
 refine w2 (rs:=[.tmp 4]) Tryz.func24 Tryz.ntmps24 (by rfl) (by kernel_rfl) (by decide) (fun _ _ _=>rfl) ⟨_,rfl,lb rfl,fun a b hp hw=>?_⟩
 have hP:=ba
 simp only[fb]at hw |-
 have hΓ:=acu
 repeat refine sq ?_
 refine rs hΓ [2,3] [[2,0],[3,0]] ?_
 refine aE (bz [2,0] (aB a) rfl [2,3] [[2,0],[3,0]] ?_ rfl) ?_
 ·simp only[go_sem]
 simp only[go_sem]
 refine aE (bz [3,0] (aB b) rfl [2,3] [[2,0],[3,0]] ?_ rfl) ?_
 ·simp only[go_sem]
 simp only[go_sem]
 repeat refine sq ?_
 refine rs hΓ [2,3,5] [[2,0],[3,0]] ?_
 repeat refine sq ?_
 refine aO ?_
 repeat refine sq ?_
 refine cv (fun z:Nat=>[(5,⟨true,.v (vInt z)⟩)]) (fun z=>[]) (fun z=>z<=6/\∀ j,j<z->a.un.get j=b.un.get j) (fun z=>6-z) 0 ?_ ?_ ?_ ?_
 ·exact⟨Nat.zero_le _,fun j h=>by omega⟩
 ·rfl
 ·rfl
 rintro i ⟨hi,hR⟩
 simp only[go_sem]
 repeat refine sq ?_
 refine rs hΓ [2,3,5,7] [[2,0],[3,0]] ?_
 repeat refine sq ?_
 refine au rfl rfl (fun hb=>?_) (fun hb=>?_)
 ·have ae:i<6:=by have hq:(i:Int)<6:=(by simpa using hb);omega
  have ai:(i:Int)<6:=by omega
  clear hb
  repeat refine sq ?_
  refine av ?_
  repeat refine sq ?_
  refine aO ?_
  repeat refine sq ?_
  refine dx hΓ hP [[],[],[0,1],[0,1,2],[],[],[4,5],[4,5,6],[0,1,2,3,4,5,6,7],[0,1,2,3,4,5,6,7,8]] [2,3,5,19] [[2,0],[3,0]] (by kernel_rfl) (fun K' hK=>by simp only[go_sem,Int.toNat_natCast,Int.natCast_nonneg,ai,cN a ae,cN b ae,Int.toNat_natCast,Int.natCast_nonneg,ai];(repeat (refine⟨ob,?_⟩));(first | refine⟨by rfl,?_⟩ | skip);exact hK _ (by simp only[go_sem]) (by simp only[go_sem]<;>rfl)) ?_
  repeat refine sq ?_
  refine au rfl rfl (fun hb=>?_) (fun hb=>?_)
  ·repeat refine sq ?_
   have bC:a≠b:=by
    rintro rfl
    simp at hb
   repeat refine sq ?_
   refine rx hΓ [4] [] (fun K' hK=>by simp only[go_sem,Int.toNat_natCast,Int.natCast_nonneg,ai];(repeat (refine⟨ob,?_⟩));exact hK _ (by simp only[go_sem]) (by simp only[go_sem]<;>rfl)) ?_
   refine an ?_
   simp only[go_sem]
   rw[decide_eq_false bC]
  ·repeat refine sq ?_
   refine av ?_
   refine ct ?_
   simp only[go_sem]
   refine kp [2,3,5] [[2,0],[3,0]] ?_
   repeat refine sq ?_
   refine aL hΓ fun K' hK=>?_
   simp only[go_sem,Int.toNat_natCast,Int.natCast_nonneg,ai]
   repeat (refine⟨ob,?_⟩)
   refine hK _ ?_
   clear K' hK
   simp only[go_sem]
   refine⟨i+1,⟨ae,?_⟩,by(show 6-(i+1)<6-i;omega),?_⟩
   ·intro j hj
    rcases Nat.lt_succ_iff_lt_or_eq.1 hj with h1 | rfl
    ·exact hR j h1
    ·simpa using hb
   refine bk [2,3,5] [[2,0],[3,0]] ?_ ?_
   ·simp only[go_sem,aD ae (lb rfl:(6:Nat)<=maxLen),Int.natCast_add,Int.natCast_one]
   ·simp only[go_sem,aD ae (lb rfl:(6:Nat)<=maxLen),Int.natCast_add,Int.natCast_one]
 ·have aW:i=6:=by
   have :¬ (i:Int)<6:=by simpa using hb
   omega
  clear hb
  subst aW
  repeat refine sq ?_
  refine b7 ?_
  simp only[go_sem]
  refine kp [2,3] [[2,0],[3,0]] ?_
  repeat refine sq ?_
  refine rs hΓ [4] [] ?_
  refine an ?_
  simp only[go_sem]
  rw[QA (G2 hR)];simp[Bool.and_assoc]
theorem Kn:al Tryz.prog 24 S24:=R0.sound
noncomputable def K17:List (Nat×Spec):=[(75,S75)]
attribute [go_sem] K17
theorem ek(d:Dk){i:Nat}(h:i<2):(ak d).getD (20+i*21) default=vInt (d.pg i).co:=by
 match i,h with
 | 0,_=>rfl
 | 1,_=>rfl
theorem wP(d:Dk){i:Nat}(h:i<2):(ak d).getD (20+i*21+20) default=vInt (d.pg i).su:=by
 match i,h with
 | 0,_=>rfl
 | 1,_=>rfl
theorem ss(d:Dk){i:Nat}(h:i<2):((ak d).drop (20+i*21+1)).take 19=aB (d.pg i).st:=by
 match i,h with
 | 0,_=>rfl
 | 1,_=>rfl
theorem SN{a b:Pg}(h1:a.co=b.co)(h2:a.su=b.su)(h3:a.st=b.st):a=b:=by
 obtain⟨a1,a2,a3⟩:=a
 obtain⟨b1,b2,b3⟩:=b
 simp only at h1 h2 h3
 subst h1 h2 h3
 rfl
theorem Z4{a b:Dk}(h:∀ j,j<2->a.pg j=b.pg j):decide (a=b)=((a.me==b.me&&a.wet==b.wet)&&decide (a.now=b.now)):=by
 have h0:=h 0 (by omega)
 have h1:=h 1 (by omega)
 obtain⟨m1,n1,p1,q1,w1⟩:=a
 obtain⟨m2,n2,p2,q2,w2⟩:=b
 simp only[Dk.pg]at h0 h1
 subst h0 h1
 rw[Bool.eq_iff_iff]
 simp only[decide_eq_true_eq,Bool.and_eq_true,Dk.mk.injEq,beq_iff_eq,true_and]
 constructor
 ·rintro⟨h1,h2,h3⟩;exact⟨⟨h1,h3⟩,h2⟩
 ·rintro⟨⟨h1,h3⟩,h2⟩;exact⟨h1,h2,h3⟩
noncomputable def Ph:List (Nat×Spec):=[(24,S24)]
theorem acs:∀ f s,tbl Ph f=some s->al Tryz.prog f s:=tc Kn<|tn
attribute [go_sem] Ph
noncomputable def P18:PSpec:=p2 bu bu (fun _ _=>True) (fun a b=>.bool (decide (a=b))) true
noncomputable def S18:Spec:=P18.toSpec
attribute [go_sem] P18 S18
set_option maxHeartbeats 4000000 in
theorem R7:aQ Tryz.prog 18 P18:=by
 refine w2 (rs:=[.tmp 4]) Tryz.func18 Tryz.ntmps18 (by rfl) (by kernel_rfl) (by decide) (fun _ _ _=>rfl) ⟨_,rfl,lb rfl,fun a b hp hw=>?_⟩
 have hP:=ba
 simp only[bu]at hw |-
 have hΓ:=acs
 repeat refine sq ?_
 refine rs hΓ [2,3] [[2,0],[3,0]] ?_
 refine aE (bz [2,0] (ak a) rfl [2,3] [[2,0],[3,0]] ?_ rfl) ?_
 ·simp only[go_sem]
 simp only[go_sem]
 refine aE (bz [3,0] (ak b) rfl [2,3] [[2,0],[3,0]] ?_ rfl) ?_
 ·simp only[go_sem]
 simp only[go_sem]
 repeat refine sq ?_
 refine rs hΓ [2,3,5] [[2,0],[3,0]] ?_
 repeat refine sq ?_
 refine aO ?_
 repeat refine sq ?_
 refine cv (fun z:Nat=>[(5,⟨true,.v (vInt z)⟩)]) (fun z=>[]) (fun z=>z<=2/\∀ j,j<z->a.pg j=b.pg j) (fun z=>2-z) 0 ?_ ?_ ?_ ?_
 ·exact⟨Nat.zero_le _,fun j h=>by omega⟩
 ·rfl
 ·rfl
 rintro i ⟨hi,hR⟩
 simp only[go_sem]
 repeat refine sq ?_
 refine rs hΓ [2,3,5,7] [[2,0],[3,0]] ?_
 repeat refine sq ?_
 refine au rfl rfl (fun hb=>?_) (fun hb=>?_)
 ·have ae:i<2:=by have hq:(i:Int)<2:=(by simpa using hb);omega
  have ai:(i:Int)<2:=by omega
  clear hb
  repeat refine sq ?_
  refine av ?_
  repeat refine sq ?_
  refine aO ?_
  repeat refine sq ?_
  refine dx hΓ hP [[],[],[0,1],[0,1,2],[0,1,2,3],[],[],[5,6],[5,6,7],[5,6,7,8],[0,1,2,3,4,5,6,7,8,9],[0,1,2,3,4,5,6,7,8,9,10],[0,1,2,3,4,5,6,7,8,9,10,11],[0,1,2,3,4,5,6,7,8,9,10,11],[0,1,2,3,4,5,6,7,8,9,10,11,12,13],[0,1,2,3,4,5,6,7,8,9,10,11,12,13,14],[0,1,2,3,4,5,6,7,8,9,10,11,12,13,14,15],[0,1,2,3,4,5,6,7,8,9,10,11],[0,1,2,3,4,5,6,7,8,9,10,11],[0,1,2,3,4,5,6,7,8,9,10,11,17,18],[0,1,2,3,4,5,6,7,8,9,10,11,17,18,19],[0,1,2,3,4,5,6,7,8,9,10,11,17,18,19,20],[0,1,2,3,4,5,6,7,8,9,10,11,12,13,14,15,16,17,18,19,20,21],[0,1,2,3,4,5,6,7,8,9,10,11,12,13,14,15,16,17,18,19,20,21,22],[0,1,2,3,4,5,6,7,8,9,10,11,12,13,14,15,16,17,18,19,20,21,22,23],[0,1,2,3,4,5,6,7,8,9,10,11,12,13,14,15,16,17,18,19,20,21,22,23,24],[0,1,2,3,4,5,6,7,8,9,10,11,12,13,14,15,16,17,18,19,20,21,22,23,24],[0,1,2,3,4,5,6,7,8,9,10,11,12,13,14,15,16,17,18,19,20,21,22,23,24,25,26],[0,1,2,3,4,5,6,7,8,9,10,11,12,13,14,15,16,17,18,19,20,21,22,23,24,25,26,27],[0,1,2,3,4,5,6,7,8,9,10,11,12,13,14,15,16,17,18,19,20,21,22,23,24,25,26,27,28],[0,1,2,3,4,5,6,7,8,9,10,11,12,13,14,15,16,17,18,19,20,21,22,23,24],[0,1,2,3,4,5,6,7,8,9,10,11,12,13,14,15,16,17,18,19,20,21,22,23,24],[0,1,2,3,4,5,6,7,8,9,10,11,12,13,14,15,16,17,18,19,20,21,22,23,24,30,31],[0,1,2,3,4,5,6,7,8,9,10,11,12,13,14,15,16,17,18,19,20,21,22,23,24,30,31,32],[0,1,2,3,4,5,6,7,8,9,10,11,12,13,14,15,16,17,18,19,20,21,22,23,24,30,31,32,33],[0,1,2,3,4,5,6,7,8,9,10,11,12,13,14,15,16,17,18,19,20,21,22,23,24,25,26,27,28,29,30,31,32,33,34],[0,1,2,3,4,5,6,7,8,9,10,11,12,13,14,15,16,17,18,19,20,21,22,23,24,25,26,27,28,29,30,31,32,33,34,35],[0,1,2,3,4,5,6,7,8,9,10,11,12,13,14,15,16,17,18,19,20,21,22,23,24,25,26,27,28,29,30,31,32,33,34,35,36]] [2,3,5,47] [[2,0],[3,0]] (by kernel_rfl) (fun K' hK=>by simp only[go_sem,Int.toNat_natCast,Int.natCast_nonneg,ai,Nat.add_zero,ek a ae,ek b ae,wP a ae,wP b ae,ss a ae,ss b ae,Int.toNat_natCast,Int.natCast_nonneg,ai];(repeat (refine⟨ob,?_⟩));(first | refine⟨by rfl,?_⟩ | skip);exact hK _ (by simp only[go_sem]) (by simp only[go_sem]<;>rfl)) ?_
  repeat refine sq ?_
  refine au rfl rfl (fun hb=>?_) (fun hb=>?_)
  ·repeat refine sq ?_
   have bC:a≠b:=by
    rintro rfl
    simp at hb
   repeat refine sq ?_
   refine rx hΓ [4] [] (fun K' hK=>by simp only[go_sem,Int.toNat_natCast,Int.natCast_nonneg,ai];(repeat (refine⟨ob,?_⟩));exact hK _ (by simp only[go_sem]) (by simp only[go_sem]<;>rfl)) ?_
   refine an ?_
   simp only[go_sem]
   rw[decide_eq_false bC]
  ·repeat refine sq ?_
   refine av ?_
   refine ct ?_
   simp only[go_sem]
   refine kp [2,3,5] [[2,0],[3,0]] ?_
   repeat refine sq ?_
   refine aL hΓ fun K' hK=>?_
   simp only[go_sem,Int.toNat_natCast,Int.natCast_nonneg,ai]
   repeat (refine⟨ob,?_⟩)
   refine hK _ ?_
   clear K' hK
   simp only[go_sem]
   refine⟨i+1,⟨ae,?_⟩,by(show 2-(i+1)<2-i;omega),?_⟩
   ·intro j hj
    rcases Nat.lt_succ_iff_lt_or_eq.1 hj with h1 | rfl
    ·exact hR j h1
    ·(simp at hb;exact SN hb.1.1 hb.1.2 hb.2)
   refine bk [2,3,5] [[2,0],[3,0]] ?_ ?_
   ·simp only[go_sem,aD ae (lb rfl:(2:Nat)<=maxLen),Int.natCast_add,Int.natCast_one]
   ·simp only[go_sem,aD ae (lb rfl:(2:Nat)<=maxLen),Int.natCast_add,Int.natCast_one]
 ·have aW:i=2:=by
   have :¬ (i:Int)<2:=by simpa using hb
   omega
  clear hb
  subst aW
  repeat refine sq ?_
  refine b7 ?_
  simp only[go_sem]
  refine kp [2,3] [[2,0],[3,0]] ?_
  repeat refine sq ?_
  refine rs hΓ [4] [] ?_
  refine an ?_
  simp only[go_sem]
  rw[Z4 hR];congr 1;rw[Bool.eq_iff_iff];simp[and_assoc]
theorem Wj:al Tryz.prog 18 S18:=R7.sound
end Go.Eng
