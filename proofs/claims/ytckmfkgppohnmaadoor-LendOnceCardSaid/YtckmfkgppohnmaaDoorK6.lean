import Derived.Test.YtckmfkgppohnmaaDoorK5
/- Texts NW3 to NW15. -/
set_option linter.all false
namespace Go.Eng
open Go Go.Proofs
theorem HP{s:Stk}{i p:Nat}(hp:p=(s.un.get i).length-1)(hz:((s.un.get i).length==0)=false)(bD:p<(s.un.get i).length):
 (!aO (s.se.get i) 0 99999||(!aO (s.ta.get i) 0 99999||(!cm (s.un.get i)||(((s.un.get i)[p]).no != s.se.get i))))=!gu s i:=by
 subst hp
 unfold gu
 rw[hz,getD_at bD]
 have :(((s.un.get i)[(s.un.get i).length-1]).no != s.se.get i)=!(((s.un.get i)[(s.un.get i).length-1]).no==s.se.get i):=rfl
 rw[this]
 cases aO (s.se.get i) 0 99999<;>cases aO (s.ta.get i) 0 99999<;>cases cm (s.un.get i)<;>cases ((s.un.get i)[(s.un.get i).length-1].no==s.se.get i)<;>rfl
theorem HO{s:Stk}{i:Nat}(hz:((s.un.get i).length==0)=true):
 (!aO (s.se.get i) 0 99999||(!aO (s.ta.get i) 0 99999||!cm (s.un.get i)))=!gu s i:=by
 unfold gu
 rw[hz]
 cases aO (s.se.get i) 0 99999<;>cases aO (s.ta.get i) 0 99999<;>cases cm (s.un.get i)<;>rfl
def nY(me:Int)(s:Stk):Bool:=!gx s.ho||(!((s.un.get me.toNat).length==0)||((s.se.get me.toNat != 0)||(s.ta.get me.toNat != 0)))
theorem eg{me:Int}{s:Stk}(ba:aO me 0 5=true):cz me s=(!nY me s&&gl 6 (gu s)):=by
 unfold cz nY
 rw[ba]
 have h1:(s.se.get me.toNat != 0)=!(s.se.get me.toNat==0):=rfl
 have h2:(s.ta.get me.toNat != 0)=!(s.ta.get me.toNat==0):=rfl
 rw[h1,h2]
 cases gx s.ho<;>cases ((s.un.get me.toNat).length==0)<;>cases (s.se.get me.toNat==0)<;>cases (s.ta.get me.toNat==0)<;>rfl
noncomputable def P89:PSpec:=p2 iI iX (fun _ _=>True) (fun me s=>.bool (cz me s)) true
noncomputable def S89:Spec:=P89.toSpec
attribute [go_sem] P89 S89
set_option maxHeartbeats 4000000 in
theorem Th:aR Tryd.prog 78 P89:=by
 refine w2 (rs:=[.tmp 4]) Tryd.func78 Tryd.ntmps78 (by rfl) (by kernel_rfl) (by decide) (fun _ _ _=>rfl) ⟨_,rfl,lb rfl,fun me s hp hw=>?_⟩
 have hP:=be
 simp only[iI,iX]at hw |-
 have hΓ:=Qu
 repeat refine sq ?_
 refine rs hΓ [0,3] [[3,0]] ?_
 refine aL (cG [3,0] (aC s) rfl [0,3] [[3,0]] ?_ rfl) ?_
 ·simp only[go_sem]
 simp only[go_sem]
 rcases ba:aO me 0 5 with _ | _
 ·repeat refine sq ?_
  refine rx hΓ [3,37] [[3,0]] (fun K' hK=>by simp only[go_sem,ba];(repeat (refine⟨ob,?_⟩));exact hK _ (by simp only[go_sem]) (by simp only[go_sem]<;>rfl)) ?_
  repeat refine sq ?_
  refine au rfl rfl (fun hb=>?_) (fun hb=>?_)
  ·repeat refine sq ?_
   refine rx hΓ [4] [] (fun K' hK=>by simp only[go_sem,ba];(repeat (refine⟨ob,?_⟩));exact hK _ (by simp only[go_sem]) (by simp only[go_sem]<;>rfl)) ?_
   refine ar ?_
   simp only[go_sem]
   first | (simp[cz,ba];done) | (rw[eg ba,du];rfl) | (rw[eg ba,du,eV ae bA];rfl) | (rw[eg ba,du,hR];rfl)
  ·cases hb
 ·have hm:=cp.1 ba
  have hk:me.toNat<6:=by omega
  have dY:0<=me:=hm.1
  have dF:me<6:=by omega
  repeat refine sq ?_
  refine rx hΓ [3,37] [[3,0]] (fun K' hK=>by simp only[go_sem,ba,dY,dF,dM s hk,eB s hk,eh s hk,eG];(repeat (refine⟨ob,?_⟩));exact hK _ (by simp only[go_sem]) (by simp only[go_sem]<;>rfl)) ?_
  repeat refine sq ?_
  refine au rfl rfl (fun hb=>?_) (fun hb=>?_)
  ·repeat refine sq ?_
   have du:nY me s=true:=by simpa[nY,<-Bool.or_assoc]using hb
   repeat refine sq ?_
   refine rx hΓ [4] [] (fun K' hK=>by simp only[go_sem,ba,dY,dF,dM s hk,eB s hk,eh s hk,eG];(repeat (refine⟨ob,?_⟩));exact hK _ (by simp only[go_sem]) (by simp only[go_sem]<;>rfl)) ?_
   refine ar ?_
   simp only[go_sem]
   first | (simp[cz,ba];done) | (rw[eg ba,du];rfl) | (rw[eg ba,du,eV ae bA];rfl) | (rw[eg ba,du,hR];rfl)
  ·repeat refine sq ?_
   have du:nY me s=false:=by simpa[nY,<-Bool.or_assoc]using hb
   refine ax ?_
   repeat refine sq ?_
   refine rx hΓ [3,39,40] [[3,0]] (fun K' hK=>by simp only[go_sem,ba,dY,dF,dM s hk,eB s hk,eh s hk,eG];(repeat (refine⟨ob,?_⟩));exact hK _ (by simp only[go_sem]) (by simp only[go_sem]<;>rfl)) ?_
   repeat refine sq ?_
   refine aN ?_
   repeat refine sq ?_
   refine cN (fun z:Nat=>[(40,⟨true,.v (vInt z)⟩)]) (fun z=>[]) (fun z=>z<=6/\gl z (gu s)=true) (fun z=>6-z) 0 ?_ ?_ ?_ ?_
   ·exact⟨Nat.zero_le _,rfl⟩
   ·rfl
   ·rfl
   rintro i ⟨hi,hR⟩
   simp only[go_sem]
   repeat refine sq ?_
   refine rx hΓ [3,39,40,41] [[3,0]] (fun K' hK=>by simp only[go_sem,ba,dY,dF,dM s hk,eB s hk,eh s hk,eG];(repeat (refine⟨ob,?_⟩));exact hK _ (by simp only[go_sem]) (by simp only[go_sem]<;>rfl)) ?_
   repeat refine sq ?_
   refine au rfl rfl (fun hb=>?_) (fun hb=>?_)
   ·have ae:i<6:=by have hq:(i:Int)<6:=(by simpa using hb);omega
    have ai:(i:Int)<6:=by omega
    clear hb
    obtain⟨p,hp,fB,bK⟩:=JV (l:=s.un.get i) (tK hw.2 ae)
    repeat refine sq ?_
    refine ax ?_
    repeat refine sq ?_
    refine aN ?_
    repeat refine sq ?_
    refine rx hΓ [3,5,6,39,40] [[3,0]] (fun K' hK=>by simp only[go_sem,ba,dY,dF,dM s hk,eB s hk,eh s hk,eG,Int.toNat_natCast,Int.natCast_nonneg,ai,aS.L_get s.un rowP default ae,Int.toNat_natCast,Int.natCast_nonneg,ai];(repeat (refine⟨ob,?_⟩));exact hK _ (by simp only[go_sem]) (by simp only[go_sem]<;>rfl)) ?_
    rcases hz:((s.un.get i).length==0)with _ | _
    ·obtain⟨bD,bP,bR⟩:=bK hz
     have da:=HP fB hz bD
     repeat refine sq ?_
     refine dx hΓ hP [[],[],[0,1],[0,1,2],[0,1,2,3],[0,1,2,3,4],[0,1,2,3,4,5],[0,1,2,3,4,5,6],[0,1,2,3,4,5,6],[0,1,2,3,4,5,6,7,8],[0,1,2,3,4,5,6,7,8,9],[0,1,2,3,4,5,6,7,8,9,10],[0,1,2,3,4,5,6,7,8,9,10,11],[0,1,2,3,4,5,6,7,8,9,10,11,12],[0,1,2,3,4,5,6,7,8,9,10,11,12,13],[0,1,2,3,4,5,6,7,8,9,10,11,12,13,14],[0,1,2,3,4,5,6,7,8,9,10,11,12,13,14,15],[0,1,2,3,4,5,6,7,8,9,10,11,12,13,14,15,16],[0,1,2,3,4,5,6,7,8,9,10,11,12,13,14,15,16,17],[0,1,2,3,4,5,6,7,8,9,10,11,12,13,14,15,16,17,18],[0,1,2,3,4,5,6,7,8,9,10,11,12,13,14,15,16,17,18,19],[0,1,2,3,4,5,6,7,8,9,10,11,12,13,14,15,16,17,18,19,20],[0,1,2,3,4,5,6,7,8,9,10,11,12,13,14,15,16,17,18,19,20,21],[0,1,2,3,4,5,6,7,8,9,10,11,12,13,14,15,16,17,18,19,20,21,22],[0,1,2,3,4,5,6,7,8,9,10,11,12,13,14,15,16,17,18,19,20,21,22,23],[0,1,2,3,4,5,6,7,8,9,10,11,12,13,14,15,16,17,18,19,20,21,22,23],[0,1,2,3,4,5,6,7,8,9,10,11,12,13,14,15,16,17,18,19,20,21,22,23,25],[0,1,2,3,4,5,6,7,8,9,10,11,12,13,14,15,16,17,18,19,20,21,22,23,25,26],[0,1,2,3,4,5,6,7,8,9,10,11,12,13,14,15,16,17,18,19,20,21,22,23,24,25,26,27],[0,1,2,3,4,5,6,7,8,9,10,11,12,13,14,15,16,17,18,19,20,21,22,23,24,25,26,27,28],[0,1,2,3,4,5,6,7,8,9,10,11,12,13,14,15,16,17,18,19,20,21,22,23,24,25,26,27,28,29],[0,1,2,3,4,5,6,7,8,9,10,11,12,13,14,15,16,17,18,19,20,21,22,23],[0,1,2,3,4,5,6,7,8,9,10,11,12,13,14,15,16,17,18,19,20,21,22,23],[0,1,2,3,4,5,6,7,8,9,10,11,12,13,14,15,16,17,18,19,20,21,22,23,31,32],[0,1,2,3,4,5,6,7,8,9,10,11,12,13,14,15,16,17,18,19,20,21,22,23,31,32,33],[0,1,2,3,4,5,6,7,8,9,10,11,12,13,14,15,16,17,18,19,20,21,22,23,24,25,26,27,28,29,30,31,32,33,34],[0,1,2,3,4,5,6,7,8,9,10,11,12,13,14,15,16,17,18,19,20,21,22,23,24,25,26,27,28,29,30,31,32,33,34,35],[0,1,2,3,4,5,6,7,8,9,10,11,12,13,14,15,16,17,18,19,20,21,22,23,24,25,26,27,28,29,30,31,32,33,34,35,36]] [3,39,40,81] [[3,0]] (by kernel_rfl) (fun K' hK=>by simp only[go_sem,ba,dY,dF,dM s hk,eB s hk,eh s hk,eG,Int.toNat_natCast,Int.natCast_nonneg,ai,hz,hp,bP,bR,aJ bD,eB s ae,eh s ae,Int.toNat_natCast,Int.natCast_nonneg,ai,eG];(repeat (refine⟨by first | exact ob | exact⟨bP,bR,rfl⟩ | exact fun _=>⟨bP,bR,rfl⟩,?_⟩));(first | refine⟨by rfl,?_⟩ | skip);exact hK _ (by simp only[go_sem]) (by simp only[go_sem]<;>rfl)) ?_
     repeat refine sq ?_
     refine au rfl rfl (fun hb=>?_) (fun hb=>?_)
     ·repeat refine sq ?_
      have bA:gu s i=false:=by simpa[<-Bool.or_assoc,hb]using da.symm
      repeat refine sq ?_
      refine rx hΓ [4] [] (fun K' hK=>by simp only[go_sem,ba,dY,dF,dM s hk,eB s hk,eh s hk,eG,Int.toNat_natCast,Int.natCast_nonneg,ai,hz,hp,bP,bR,aJ bD];(repeat (refine⟨ob,?_⟩));exact hK _ (by simp only[go_sem]) (by simp only[go_sem]<;>rfl)) ?_
      refine ar ?_
      simp only[go_sem]
      first | (simp[cz,ba];done) | (rw[eg ba,du];rfl) | (rw[eg ba,du,eV ae bA];rfl) | (rw[eg ba,du,hR];rfl)
     ·repeat refine sq ?_
      have bz:gu s i=true:=by simpa[<-Bool.or_assoc,hb]using da.symm
      refine ax ?_
      refine cM ?_
      simp only[go_sem]
      refine kp [3,39,40] [[3,0]] ?_
      repeat refine sq ?_
      refine aP hΓ fun K' hK=>?_
      simp only[go_sem,ba,dY,dF,dM s hk,eB s hk,eh s hk,eG,Int.toNat_natCast,Int.natCast_nonneg,ai,hz,hp,bP,bR,aJ bD]
      repeat (refine⟨ob,?_⟩)
      refine hK _ ?_
      clear K' hK
      simp only[go_sem]
      refine⟨i+1,⟨ae,?_⟩,by(show 6-(i+1)<6-i;omega),?_⟩
      ·exact j' hR bz
      refine bk [3,39,40] [[3,0]] ?_ ?_
      ·simp only[go_sem,aF ae (lb rfl:(6:Nat)<=maxLen),Int.natCast_add,Int.natCast_one]
      ·simp only[go_sem,aF ae (lb rfl:(6:Nat)<=maxLen),Int.natCast_add,Int.natCast_one]
    ·have da:=HO hz
     repeat refine sq ?_
     refine dx hΓ hP [[],[],[0,1],[0,1,2],[0,1,2,3],[0,1,2,3,4],[0,1,2,3,4,5],[0,1,2,3,4,5,6],[0,1,2,3,4,5,6],[0,1,2,3,4,5,6,7,8],[0,1,2,3,4,5,6,7,8,9],[0,1,2,3,4,5,6,7,8,9,10],[0,1,2,3,4,5,6,7,8,9,10,11],[0,1,2,3,4,5,6,7,8,9,10,11,12],[0,1,2,3,4,5,6,7,8,9,10,11,12,13],[0,1,2,3,4,5,6,7,8,9,10,11,12,13,14],[0,1,2,3,4,5,6,7,8,9,10,11,12,13,14,15],[0,1,2,3,4,5,6,7,8,9,10,11,12,13,14,15,16],[0,1,2,3,4,5,6,7,8,9,10,11,12,13,14,15,16,17],[0,1,2,3,4,5,6,7,8,9,10,11,12,13,14,15,16,17,18],[0,1,2,3,4,5,6,7,8,9,10,11,12,13,14,15,16,17,18,19],[0,1,2,3,4,5,6,7,8,9,10,11,12,13,14,15,16,17,18,19,20],[0,1,2,3,4,5,6,7,8,9,10,11,12,13,14,15,16,17,18,19,20,21],[0,1,2,3,4,5,6,7,8,9,10,11,12,13,14,15,16,17,18,19,20,21,22],[0,1,2,3,4,5,6,7,8,9,10,11,12,13,14,15,16,17,18,19,20,21,22,23],[0,1,2,3,4,5,6,7,8,9,10,11,12,13,14,15,16,17,18,19,20,21,22,23],[0,1,2,3,4,5,6,7,8,9,10,11,12,13,14,15,16,17,18,19,20,21,22,23,25],[0,1,2,3,4,5,6,7,8,9,10,11,12,13,14,15,16,17,18,19,20,21,22,23,25,26],[0,1,2,3,4,5,6,7,8,9,10,11,12,13,14,15,16,17,18,19,20,21,22,23,24,25,26,27],[0,1,2,3,4,5,6,7,8,9,10,11,12,13,14,15,16,17,18,19,20,21,22,23,24,25,26,27,28],[0,1,2,3,4,5,6,7,8,9,10,11,12,13,14,15,16,17,18,19,20,21,22,23,24,25,26,27,28,29],[0,1,2,3,4,5,6,7,8,9,10,11,12,13,14,15,16,17,18,19,20,21,22,23],[0,1,2,3,4,5,6,7,8,9,10,11,12,13,14,15,16,17,18,19,20,21,22,23],[0,1,2,3,4,5,6,7,8,9,10,11,12,13,14,15,16,17,18,19,20,21,22,23,31,32],[0,1,2,3,4,5,6,7,8,9,10,11,12,13,14,15,16,17,18,19,20,21,22,23,31,32,33],[0,1,2,3,4,5,6,7,8,9,10,11,12,13,14,15,16,17,18,19,20,21,22,23,24,25,26,27,28,29,30,31,32,33,34],[0,1,2,3,4,5,6,7,8,9,10,11,12,13,14,15,16,17,18,19,20,21,22,23,24,25,26,27,28,29,30,31,32,33,34,35],[0,1,2,3,4,5,6,7,8,9,10,11,12,13,14,15,16,17,18,19,20,21,22,23,24,25,26,27,28,29,30,31,32,33,34,35,36]] [3,39,40,81] [[3,0]] (by kernel_rfl) (fun K' hK=>by simp only[go_sem,ba,dY,dF,dM s hk,eB s hk,eh s hk,eG,Int.toNat_natCast,Int.natCast_nonneg,ai,hz,eB s ae,eh s ae,Int.toNat_natCast,Int.natCast_nonneg,ai,eG];(repeat (refine⟨by first | exact ob | exact⟨bP,bR,rfl⟩ | exact fun _=>⟨bP,bR,rfl⟩,?_⟩));(first | refine⟨by rfl,?_⟩ | skip);exact hK _ (by simp only[go_sem]) (by simp only[go_sem]<;>rfl)) ?_
     repeat refine sq ?_
     refine au rfl rfl (fun hb=>?_) (fun hb=>?_)
     ·repeat refine sq ?_
      have bA:gu s i=false:=by simpa[<-Bool.or_assoc,hb]using da.symm
      repeat refine sq ?_
      refine rx hΓ [4] [] (fun K' hK=>by simp only[go_sem,ba,dY,dF,dM s hk,eB s hk,eh s hk,eG,Int.toNat_natCast,Int.natCast_nonneg,ai,hz];(repeat (refine⟨ob,?_⟩));exact hK _ (by simp only[go_sem]) (by simp only[go_sem]<;>rfl)) ?_
      refine ar ?_
      simp only[go_sem]
      first | (simp[cz,ba];done) | (rw[eg ba,du];rfl) | (rw[eg ba,du,eV ae bA];rfl) | (rw[eg ba,du,hR];rfl)
     ·repeat refine sq ?_
      have bz:gu s i=true:=by simpa[<-Bool.or_assoc,hb]using da.symm
      refine ax ?_
      refine cM ?_
      simp only[go_sem]
      refine kp [3,39,40] [[3,0]] ?_
      repeat refine sq ?_
      refine aP hΓ fun K' hK=>?_
      simp only[go_sem,ba,dY,dF,dM s hk,eB s hk,eh s hk,eG,Int.toNat_natCast,Int.natCast_nonneg,ai,hz]
      repeat (refine⟨ob,?_⟩)
      refine hK _ ?_
      clear K' hK
      simp only[go_sem]
      refine⟨i+1,⟨ae,?_⟩,by(show 6-(i+1)<6-i;omega),?_⟩
      ·exact j' hR bz
      refine bk [3,39,40] [[3,0]] ?_ ?_
      ·simp only[go_sem,aF ae (lb rfl:(6:Nat)<=maxLen),Int.natCast_add,Int.natCast_one]
      ·simp only[go_sem,aF ae (lb rfl:(6:Nat)<=maxLen),Int.natCast_add,Int.natCast_one]
   ·have bb:i=6:=by
     have :¬ (i:Int)<6:=by simpa using hb
     omega
    clear hb
    subst bb
    repeat refine sq ?_
    refine cr ?_
    simp only[go_sem]
    refine kp [] [] ?_
    repeat refine sq ?_
    refine rx hΓ [4] [] (fun K' hK=>by simp only[go_sem,ba,dY,dF,dM s hk,eB s hk,eh s hk,eG];(repeat (refine⟨ob,?_⟩));exact hK _ (by simp only[go_sem]) (by simp only[go_sem]<;>rfl)) ?_
    refine ar ?_
    simp only[go_sem]
    first | (simp[cz,ba];done) | (rw[eg ba,du];rfl) | (rw[eg ba,du,eV ae bA];rfl) | (rw[eg ba,du,hR];rfl)
theorem Dg:ak Tryd.prog 78 S89:=Th.sound
def eW(me:Int)(s:Stk):Int:=if cz me s=true then 0 else 90
def oA(s:Stk):Bool:=!gl 6 fun m=>!cz m s
def fK(b:Bag):Bool:=aO b.fr 0 5&&aO b.to 0 5&&(b.fr != b.to)&&cm b.ps&&aO b.ta 0 99999
def tw(b:Bag):Int:=if fK b=true then 0 else 93
noncomputable def P43:PSpec:=p2 iI iX (fun _ _=>True) (fun me s=>vInt (eW me s)) true
noncomputable def S43:Spec:=P43.toSpec
attribute [go_sem] P43 S43
set_option maxHeartbeats 4000000 in
theorem TN:aR Tryd.prog 84 P43:=by
 refine w2 (rs:=[.tmp 4]) Tryd.func84 Tryd.ntmps84 (by rfl) (by kernel_rfl) (by decide) (fun _ _ _=>rfl) ⟨_,rfl,lb rfl,fun me s hp hw=>?_⟩
 have hP:=be
 simp only[iI,iX]at hw |-
 have hΓ:=Qu
 repeat refine sq ?_
 refine rs hΓ [0,3] [[3,0]] ?_
 refine aL (cG [3,0] (aC s) rfl [0,3] [[3,0]] ?_ rfl) ?_
 ·simp only[go_sem]
 simp only[go_sem]
 rcases ba:aO me 0 5 with _ | _
 ·repeat refine sq ?_
  refine rx hΓ [3,37] [[3,0]] (fun K' hK=>by simp only[go_sem,ba];(repeat (refine⟨ob,?_⟩));exact hK _ (by simp only[go_sem]) (by simp only[go_sem]<;>rfl)) ?_
  repeat refine sq ?_
  refine au rfl rfl (fun hb=>?_) (fun hb=>?_)
  ·repeat refine sq ?_
   refine rx hΓ [4] [] (fun K' hK=>by simp only[go_sem,ba];(repeat (refine⟨ob,?_⟩));exact hK _ (by simp only[go_sem]) (by simp only[go_sem]<;>rfl)) ?_
   refine ar ?_
   simp only[go_sem]
   first | (simp[eW,cz,ba];done) | (unfold eW;rw[eg ba,du];rfl) | (unfold eW;rw[eg ba,du,eV ae bA];rfl) | (unfold eW;rw[eg ba,du,hR];rfl)
  ·cases hb
 ·have hm:=cp.1 ba
  have hk:me.toNat<6:=by omega
  have dY:0<=me:=hm.1
  have dF:me<6:=by omega
  repeat refine sq ?_
  refine rx hΓ [3,37] [[3,0]] (fun K' hK=>by simp only[go_sem,ba,dY,dF,dM s hk,eB s hk,eh s hk,eG];(repeat (refine⟨ob,?_⟩));exact hK _ (by simp only[go_sem]) (by simp only[go_sem]<;>rfl)) ?_
  repeat refine sq ?_
  refine au rfl rfl (fun hb=>?_) (fun hb=>?_)
  ·repeat refine sq ?_
   have du:nY me s=true:=by simpa[nY,<-Bool.or_assoc]using hb
   repeat refine sq ?_
   refine rx hΓ [4] [] (fun K' hK=>by simp only[go_sem,ba,dY,dF,dM s hk,eB s hk,eh s hk,eG];(repeat (refine⟨ob,?_⟩));exact hK _ (by simp only[go_sem]) (by simp only[go_sem]<;>rfl)) ?_
   refine ar ?_
   simp only[go_sem]
   first | (simp[eW,cz,ba];done) | (unfold eW;rw[eg ba,du];rfl) | (unfold eW;rw[eg ba,du,eV ae bA];rfl) | (unfold eW;rw[eg ba,du,hR];rfl)
  ·repeat refine sq ?_
   have du:nY me s=false:=by simpa[nY,<-Bool.or_assoc]using hb
   refine ax ?_
   repeat refine sq ?_
   refine rx hΓ [3,5] [[3,0]] (fun K' hK=>by simp only[go_sem,ba,dY,dF,dM s hk,eB s hk,eh s hk,eG];(repeat (refine⟨ob,?_⟩));exact hK _ (by simp only[go_sem]) (by simp only[go_sem]<;>rfl)) ?_
   repeat refine sq ?_
   refine aN ?_
   repeat refine sq ?_
   refine cN (fun z:Nat=>[(5,⟨true,.v (vInt z)⟩)]) (fun z=>[]) (fun z=>z<=6/\gl z (gu s)=true) (fun z=>6-z) 0 ?_ ?_ ?_ ?_
   ·exact⟨Nat.zero_le _,rfl⟩
   ·rfl
   ·rfl
   rintro i ⟨hi,hR⟩
   simp only[go_sem]
   repeat refine sq ?_
   refine rx hΓ [3,5,39] [[3,0]] (fun K' hK=>by simp only[go_sem,ba,dY,dF,dM s hk,eB s hk,eh s hk,eG];(repeat (refine⟨ob,?_⟩));exact hK _ (by simp only[go_sem]) (by simp only[go_sem]<;>rfl)) ?_
   repeat refine sq ?_
   refine au rfl rfl (fun hb=>?_) (fun hb=>?_)
   ·have ae:i<6:=by have hq:(i:Int)<6:=(by simpa using hb);omega
    have ai:(i:Int)<6:=by omega
    clear hb
    obtain⟨p,hp,fB,bK⟩:=JV (l:=s.un.get i) (tK hw.2 ae)
    repeat refine sq ?_
    refine ax ?_
    repeat refine sq ?_
    refine aN ?_
    repeat refine sq ?_
    refine rx hΓ [3,5,6] [[3,0]] (fun K' hK=>by simp only[go_sem,ba,dY,dF,dM s hk,eB s hk,eh s hk,eG,Int.toNat_natCast,Int.natCast_nonneg,ai,dM s ae,Int.toNat_natCast,Int.natCast_nonneg,ai];(repeat (refine⟨ob,?_⟩));exact hK _ (by simp only[go_sem]) (by simp only[go_sem]<;>rfl)) ?_
    rcases hz:((s.un.get i).length==0)with _ | _
    ·obtain⟨bD,bP,bR⟩:=bK hz
     have da:=HP fB hz bD
     repeat refine sq ?_
     refine dx hΓ hP [[],[],[0,1],[0,1,2],[0,1,2,3],[0,1,2,3,4],[0,1,2,3,4,5],[0,1,2,3,4,5,6],[0,1,2,3,4,5,6],[0,1,2,3,4,5,6,7,8],[0,1,2,3,4,5,6,7,8,9],[0,1,2,3,4,5,6,7,8,9,10],[0,1,2,3,4,5,6,7,8,9,10,11],[0,1,2,3,4,5,6,7,8,9,10,11,12],[0,1,2,3,4,5,6,7,8,9,10,11,12,13],[0,1,2,3,4,5,6,7,8,9,10,11,12,13,14],[0,1,2,3,4,5,6,7,8,9,10,11,12,13,14,15],[0,1,2,3,4,5,6,7,8,9,10,11,12,13,14,15,16],[0,1,2,3,4,5,6,7,8,9,10,11,12,13,14,15,16,17],[0,1,2,3,4,5,6,7,8,9,10,11,12,13,14,15,16,17,18],[0,1,2,3,4,5,6,7,8,9,10,11,12,13,14,15,16,17,18,19],[0,1,2,3,4,5,6,7,8,9,10,11,12,13,14,15,16,17,18,19,20],[0,1,2,3,4,5,6,7,8,9,10,11,12,13,14,15,16,17,18,19,20,21],[0,1,2,3,4,5,6,7,8,9,10,11,12,13,14,15,16,17,18,19,20,21,22],[0,1,2,3,4,5,6,7,8,9,10,11,12,13,14,15,16,17,18,19,20,21,22,23],[0,1,2,3,4,5,6,7,8,9,10,11,12,13,14,15,16,17,18,19,20,21,22,23],[0,1,2,3,4,5,6,7,8,9,10,11,12,13,14,15,16,17,18,19,20,21,22,23,25],[0,1,2,3,4,5,6,7,8,9,10,11,12,13,14,15,16,17,18,19,20,21,22,23,25,26],[0,1,2,3,4,5,6,7,8,9,10,11,12,13,14,15,16,17,18,19,20,21,22,23,24,25,26,27],[0,1,2,3,4,5,6,7,8,9,10,11,12,13,14,15,16,17,18,19,20,21,22,23,24,25,26,27,28],[0,1,2,3,4,5,6,7,8,9,10,11,12,13,14,15,16,17,18,19,20,21,22,23,24,25,26,27,28,29],[0,1,2,3,4,5,6,7,8,9,10,11,12,13,14,15,16,17,18,19,20,21,22,23],[0,1,2,3,4,5,6,7,8,9,10,11,12,13,14,15,16,17,18,19,20,21,22,23],[0,1,2,3,4,5,6,7,8,9,10,11,12,13,14,15,16,17,18,19,20,21,22,23,31,32],[0,1,2,3,4,5,6,7,8,9,10,11,12,13,14,15,16,17,18,19,20,21,22,23,31,32,33],[0,1,2,3,4,5,6,7,8,9,10,11,12,13,14,15,16,17,18,19,20,21,22,23,24,25,26,27,28,29,30,31,32,33,34],[0,1,2,3,4,5,6,7,8,9,10,11,12,13,14,15,16,17,18,19,20,21,22,23,24,25,26,27,28,29,30,31,32,33,34,35],[0,1,2,3,4,5,6,7,8,9,10,11,12,13,14,15,16,17,18,19,20,21,22,23,24,25,26,27,28,29,30,31,32,33,34,35,36]] [3,5,83] [[3,0]] (by kernel_rfl) (fun K' hK=>by simp only[go_sem,ba,dY,dF,dM s hk,eB s hk,eh s hk,eG,Int.toNat_natCast,Int.natCast_nonneg,ai,hz,hp,bP,bR,aJ bD,eB s ae,eh s ae,Int.toNat_natCast,Int.natCast_nonneg,ai,eG];(repeat (refine⟨by first | exact ob | exact⟨bP,bR,rfl⟩ | exact fun _=>⟨bP,bR,rfl⟩,?_⟩));(first | refine⟨by rfl,?_⟩ | skip);exact hK _ (by simp only[go_sem]) (by simp only[go_sem]<;>rfl)) ?_
     repeat refine sq ?_
     refine au rfl rfl (fun hb=>?_) (fun hb=>?_)
     ·repeat refine sq ?_
      have bA:gu s i=false:=by simpa[<-Bool.or_assoc,hb]using da.symm
      repeat refine sq ?_
      refine rx hΓ [4] [] (fun K' hK=>by simp only[go_sem,ba,dY,dF,dM s hk,eB s hk,eh s hk,eG,Int.toNat_natCast,Int.natCast_nonneg,ai,hz,hp,bP,bR,aJ bD];(repeat (refine⟨ob,?_⟩));exact hK _ (by simp only[go_sem]) (by simp only[go_sem]<;>rfl)) ?_
      refine ar ?_
      simp only[go_sem]
      first | (simp[eW,cz,ba];done) | (unfold eW;rw[eg ba,du];rfl) | (unfold eW;rw[eg ba,du,eV ae bA];rfl) | (unfold eW;rw[eg ba,du,hR];rfl)
     ·repeat refine sq ?_
      have bz:gu s i=true:=by simpa[<-Bool.or_assoc,hb]using da.symm
      refine ax ?_
      refine cM ?_
      simp only[go_sem]
      refine kp [3,5] [[3,0]] ?_
      repeat refine sq ?_
      refine aP hΓ fun K' hK=>?_
      simp only[go_sem,ba,dY,dF,dM s hk,eB s hk,eh s hk,eG,Int.toNat_natCast,Int.natCast_nonneg,ai,hz,hp,bP,bR,aJ bD]
      repeat (refine⟨ob,?_⟩)
      refine hK _ ?_
      clear K' hK
      simp only[go_sem]
      refine⟨i+1,⟨ae,?_⟩,by(show 6-(i+1)<6-i;omega),?_⟩
      ·exact j' hR bz
      refine bk [3,5] [[3,0]] ?_ ?_
      ·simp only[go_sem,aF ae (lb rfl:(6:Nat)<=maxLen),Int.natCast_add,Int.natCast_one]
      ·simp only[go_sem,aF ae (lb rfl:(6:Nat)<=maxLen),Int.natCast_add,Int.natCast_one]
    ·have da:=HO hz
     repeat refine sq ?_
     refine dx hΓ hP [[],[],[0,1],[0,1,2],[0,1,2,3],[0,1,2,3,4],[0,1,2,3,4,5],[0,1,2,3,4,5,6],[0,1,2,3,4,5,6],[0,1,2,3,4,5,6,7,8],[0,1,2,3,4,5,6,7,8,9],[0,1,2,3,4,5,6,7,8,9,10],[0,1,2,3,4,5,6,7,8,9,10,11],[0,1,2,3,4,5,6,7,8,9,10,11,12],[0,1,2,3,4,5,6,7,8,9,10,11,12,13],[0,1,2,3,4,5,6,7,8,9,10,11,12,13,14],[0,1,2,3,4,5,6,7,8,9,10,11,12,13,14,15],[0,1,2,3,4,5,6,7,8,9,10,11,12,13,14,15,16],[0,1,2,3,4,5,6,7,8,9,10,11,12,13,14,15,16,17],[0,1,2,3,4,5,6,7,8,9,10,11,12,13,14,15,16,17,18],[0,1,2,3,4,5,6,7,8,9,10,11,12,13,14,15,16,17,18,19],[0,1,2,3,4,5,6,7,8,9,10,11,12,13,14,15,16,17,18,19,20],[0,1,2,3,4,5,6,7,8,9,10,11,12,13,14,15,16,17,18,19,20,21],[0,1,2,3,4,5,6,7,8,9,10,11,12,13,14,15,16,17,18,19,20,21,22],[0,1,2,3,4,5,6,7,8,9,10,11,12,13,14,15,16,17,18,19,20,21,22,23],[0,1,2,3,4,5,6,7,8,9,10,11,12,13,14,15,16,17,18,19,20,21,22,23],[0,1,2,3,4,5,6,7,8,9,10,11,12,13,14,15,16,17,18,19,20,21,22,23,25],[0,1,2,3,4,5,6,7,8,9,10,11,12,13,14,15,16,17,18,19,20,21,22,23,25,26],[0,1,2,3,4,5,6,7,8,9,10,11,12,13,14,15,16,17,18,19,20,21,22,23,24,25,26,27],[0,1,2,3,4,5,6,7,8,9,10,11,12,13,14,15,16,17,18,19,20,21,22,23,24,25,26,27,28],[0,1,2,3,4,5,6,7,8,9,10,11,12,13,14,15,16,17,18,19,20,21,22,23,24,25,26,27,28,29],[0,1,2,3,4,5,6,7,8,9,10,11,12,13,14,15,16,17,18,19,20,21,22,23],[0,1,2,3,4,5,6,7,8,9,10,11,12,13,14,15,16,17,18,19,20,21,22,23],[0,1,2,3,4,5,6,7,8,9,10,11,12,13,14,15,16,17,18,19,20,21,22,23,31,32],[0,1,2,3,4,5,6,7,8,9,10,11,12,13,14,15,16,17,18,19,20,21,22,23,31,32,33],[0,1,2,3,4,5,6,7,8,9,10,11,12,13,14,15,16,17,18,19,20,21,22,23,24,25,26,27,28,29,30,31,32,33,34],[0,1,2,3,4,5,6,7,8,9,10,11,12,13,14,15,16,17,18,19,20,21,22,23,24,25,26,27,28,29,30,31,32,33,34,35],[0,1,2,3,4,5,6,7,8,9,10,11,12,13,14,15,16,17,18,19,20,21,22,23,24,25,26,27,28,29,30,31,32,33,34,35,36]] [3,5,83] [[3,0]] (by kernel_rfl) (fun K' hK=>by simp only[go_sem,ba,dY,dF,dM s hk,eB s hk,eh s hk,eG,Int.toNat_natCast,Int.natCast_nonneg,ai,hz,eB s ae,eh s ae,Int.toNat_natCast,Int.natCast_nonneg,ai,eG];(repeat (refine⟨by first | exact ob | exact⟨bP,bR,rfl⟩ | exact fun _=>⟨bP,bR,rfl⟩,?_⟩));(first | refine⟨by rfl,?_⟩ | skip);exact hK _ (by simp only[go_sem]) (by simp only[go_sem]<;>rfl)) ?_
     repeat refine sq ?_
     refine au rfl rfl (fun hb=>?_) (fun hb=>?_)
     ·repeat refine sq ?_
      have bA:gu s i=false:=by simpa[<-Bool.or_assoc,hb]using da.symm
      repeat refine sq ?_
      refine rx hΓ [4] [] (fun K' hK=>by simp only[go_sem,ba,dY,dF,dM s hk,eB s hk,eh s hk,eG,Int.toNat_natCast,Int.natCast_nonneg,ai,hz];(repeat (refine⟨ob,?_⟩));exact hK _ (by simp only[go_sem]) (by simp only[go_sem]<;>rfl)) ?_
      refine ar ?_
      simp only[go_sem]
      first | (simp[eW,cz,ba];done) | (unfold eW;rw[eg ba,du];rfl) | (unfold eW;rw[eg ba,du,eV ae bA];rfl) | (unfold eW;rw[eg ba,du,hR];rfl)
     ·repeat refine sq ?_
      have bz:gu s i=true:=by simpa[<-Bool.or_assoc,hb]using da.symm
      refine ax ?_
      refine cM ?_
      simp only[go_sem]
      refine kp [3,5] [[3,0]] ?_
      repeat refine sq ?_
      refine aP hΓ fun K' hK=>?_
      simp only[go_sem,ba,dY,dF,dM s hk,eB s hk,eh s hk,eG,Int.toNat_natCast,Int.natCast_nonneg,ai,hz]
      repeat (refine⟨ob,?_⟩)
      refine hK _ ?_
      clear K' hK
      simp only[go_sem]
      refine⟨i+1,⟨ae,?_⟩,by(show 6-(i+1)<6-i;omega),?_⟩
      ·exact j' hR bz
      refine bk [3,5] [[3,0]] ?_ ?_
      ·simp only[go_sem,aF ae (lb rfl:(6:Nat)<=maxLen),Int.natCast_add,Int.natCast_one]
      ·simp only[go_sem,aF ae (lb rfl:(6:Nat)<=maxLen),Int.natCast_add,Int.natCast_one]
   ·have bb:i=6:=by
     have :¬ (i:Int)<6:=by simpa using hb
     omega
    clear hb
    subst bb
    repeat refine sq ?_
    refine cr ?_
    simp only[go_sem]
    refine kp [] [] ?_
    repeat refine sq ?_
    refine rx hΓ [4] [] (fun K' hK=>by simp only[go_sem,ba,dY,dF,dM s hk,eB s hk,eh s hk,eG];(repeat (refine⟨ob,?_⟩));exact hK _ (by simp only[go_sem]) (by simp only[go_sem]<;>rfl)) ?_
    refine ar ?_
    simp only[go_sem]
    first | (simp[eW,cz,ba];done) | (unfold eW;rw[eg ba,du];rfl) | (unfold eW;rw[eg ba,du,eV ae bA];rfl) | (unfold eW;rw[eg ba,du,hR];rfl)
theorem Dr:ak Tryd.prog 84 S43:=TN.sound
noncomputable def K4:List (Nat×Spec):=[(78,S89),(84,S43),(34,S82),(70,S87),(71,S79),(90,S84),(93,S88),(92,S81)]
theorem Qk:∀ f s,tbl K4 f=some s->ak Tryd.prog f s:=tc Dg<|tc Dr<|tc zu<|tc Ln<|tc Dj<|tc zt<|tc Lm<|tc Di<|tn
attribute [go_sem] K4
theorem HW{s:Stk}{i:Nat}(hi:i<6)(h:cz i s=true):oA s=true:=by
 unfold oA
 rw[eV hi (by rw[h];rfl)];rfl
theorem ags{me:Int}{s:Stk}:(eW me s==0)=cz me s:=by
 unfold eW
 cases cz me s<;>rfl
noncomputable def P78:PSpec:=p1 iX (fun _=>True) (fun s=>.bool (oA s)) true
noncomputable def S78:Spec:=P78.toSpec
attribute [go_sem] P78 S78
set_option maxHeartbeats 4000000 in
theorem Tr:aR Tryd.prog 62 P78:=by
 refine w1 (rs:=[.tmp 2]) Tryd.func62 Tryd.ntmps62 (by rfl) (by kernel_rfl) (by decide) (fun _ _=>rfl) ⟨_,rfl,lb rfl,fun s hp hw=>?_⟩
 have hP:=be
 simp only[iX]at hw |-
 have hΓ:=Qk
 repeat refine sq ?_
 refine rs hΓ [1] [[1,0]] ?_
 refine aL (cG [1,0] (aC s) rfl [1] [[1,0]] ?_ rfl) ?_
 ·simp only[go_sem]
 simp only[go_sem]
 repeat refine sq ?_
 refine rs hΓ [1,4] [[1,0]] ?_
 repeat refine sq ?_
 refine aN ?_
 repeat refine sq ?_
 refine cN (fun z:Nat=>[(4,⟨true,.v (vInt z)⟩)]) (fun z=>[]) (fun z=>z<=6/\gl z (fun m=>!cz m s)=true) (fun z=>6-z) 0 ?_ ?_ ?_ ?_
 ·exact⟨Nat.zero_le _,rfl⟩
 ·rfl
 ·rfl
 rintro i ⟨hi,hR⟩
 simp only[go_sem]
 repeat refine sq ?_
 refine rs hΓ [1,4,5] [[1,0]] ?_
 repeat refine sq ?_
 refine au rfl rfl (fun hb=>?_) (fun hb=>?_)
 ·have ae:i<6:=by have hq:(i:Int)<6:=(by simpa using hb);omega
  have ai:(i:Int)<6:=by omega
  clear hb
  repeat refine sq ?_
  refine ax ?_
  repeat refine sq ?_
  refine aN ?_
  repeat refine sq ?_
  refine rx hΓ [1,3,4] [[1,0]] (fun K' hK=>by simp only[go_sem,Int.toNat_natCast,Int.natCast_nonneg,ai];(repeat (refine⟨ob,?_⟩));exact hK _ (by simp only[go_sem]) (by simp only[go_sem]<;>rfl)) ?_
  repeat refine sq ?_
  refine rx hΓ [1,4,9] [[1,0]] (fun K' hK=>by simp only[go_sem,Int.toNat_natCast,Int.natCast_nonneg,ai];(repeat (refine⟨ob,?_⟩));exact hK _ (by simp only[go_sem]) (by simp only[go_sem]<;>rfl)) ?_
  repeat refine sq ?_
  refine au rfl rfl (fun hb=>?_) (fun hb=>?_)
  ·repeat refine sq ?_
   refine rx hΓ [2] [] (fun K' hK=>by simp only[go_sem,Int.toNat_natCast,Int.natCast_nonneg,ai];(repeat (refine⟨ob,?_⟩));exact hK _ (by simp only[go_sem]) (by simp only[go_sem]<;>rfl)) ?_
   refine ar ?_
   simp only[go_sem]
   first | (rw[HW ae (by simpa using hb)];done) | (unfold oA;rw[hR];rfl)
  ·repeat refine sq ?_
   refine ax ?_
   refine cM ?_
   simp only[go_sem]
   refine kp [1,4] [[1,0]] ?_
   repeat refine sq ?_
   refine aP hΓ fun K' hK=>?_
   simp only[go_sem,Int.toNat_natCast,Int.natCast_nonneg,ai]
   repeat (refine⟨ob,?_⟩)
   refine hK _ ?_
   clear K' hK
   simp only[go_sem]
   refine⟨i+1,⟨ae,?_⟩,by(show 6-(i+1)<6-i;omega),?_⟩
   ·exact j' hR (by simpa using hb)
   refine bk [1,4] [[1,0]] ?_ ?_
   ·simp only[go_sem,aF ae (lb rfl:(6:Nat)<=maxLen),Int.natCast_add,Int.natCast_one]
   ·simp only[go_sem,aF ae (lb rfl:(6:Nat)<=maxLen),Int.natCast_add,Int.natCast_one]
 ·have bb:i=6:=by
   have :¬ (i:Int)<6:=by simpa using hb
   omega
  clear hb
  subst bb
  repeat refine sq ?_
  refine cr ?_
  simp only[go_sem]
  refine kp [] [] ?_
  repeat refine sq ?_
  refine rs hΓ [2] [] ?_
  refine ar ?_
  simp only[go_sem]
  first | (rw[HW ae (by simpa using hb)];done) | (unfold oA;rw[hR];rfl)
theorem XH:ak Tryd.prog 62 S78:=Tr.sound
theorem O'(b:Bag):(!aO b.fr 0 5||(!aO b.to 0 5||((b.fr==b.to)||(!cm b.ps||!aO b.ta 0 99999))))=!fK b:=by
 unfold fK
 have :(b.fr != b.to)=!(b.fr==b.to):=rfl
 rw[this]
 cases aO b.fr 0 5<;>cases aO b.to 0 5<;>cases (b.fr==b.to)<;>cases cm b.ps<;>cases aO b.ta 0 99999<;>rfl
noncomputable def P40:PSpec:=p1 nM (fun _=>True) (fun b=>vInt (tw b)) true
noncomputable def S40:Spec:=P40.toSpec
attribute [go_sem] P40 S40
set_option maxHeartbeats 4000000 in
theorem TO:aR Tryd.prog 47 P40:=by
 refine w1 (rs:=[.tmp 2]) Tryd.func47 Tryd.ntmps47 (by rfl) (by kernel_rfl) (by decide) (fun _ _=>rfl) ⟨_,rfl,lb rfl,fun b hp hw=>?_⟩
 have hP:=be
 simp only[nM]at hw |-
 have hΓ:=Qk
 repeat refine sq ?_
 refine rs hΓ [1] [[1,0]] ?_
 refine aL (cG [1,0] (aX b) rfl [1] [[1,0]] ?_ rfl) ?_
 ·simp only[go_sem]
 simp only[go_sem]
 repeat refine sq ?_
 refine rs hΓ [31] [] ?_
 repeat refine sq ?_
 refine au rfl rfl (fun hb=>?_) (fun hb=>?_)
 ·repeat refine sq ?_
  have bA:fK b=false:=by simpa[<-Bool.or_assoc,hb]using(O' b).symm
  repeat refine sq ?_
  refine rs hΓ [2] [] ?_
  refine ar ?_
  simp only[go_sem]
  first | (unfold tw;rw[bA];rfl) | (unfold tw;rw[bz];rfl)
 ·repeat refine sq ?_
  have bz:fK b=true:=by simpa[<-Bool.or_assoc,hb]using(O' b).symm
  refine ax ?_
  repeat refine sq ?_
  refine rs hΓ [2] [] ?_
  refine ar ?_
  simp only[go_sem]
  first | (unfold tw;rw[bA];rfl) | (unfold tw;rw[bz];rfl)
theorem X0:ak Tryd.prog 47 S40:=TO.sound
def eA(l:List UInt8):ByteArray:=⟨l.toArray⟩
theorem oz(a b:List UInt8):eA a++eA b=eA (a++b):=by
 apply ByteArray.ext
 simp[eA]
theorem tT(x:UInt8):(⟨[x].toArray⟩:ByteArray)=eA [x]:=rfl
theorem pS(l:List UInt8):(eA l).size=l.length:=by
 show l.toArray.size=_
 rw[List.size_toArray]
@[go_sem] theorem un3:(Tryd.prog.underlying 3).isSome=true:=by kernel_rfl
@[go_sem] theorem un5:(Tryd.prog.underlying 5).isSome=true:=by kernel_rfl
@[go_sem] theorem ahl:(if (#[]:Array UInt8).size<=maxLen then D.v (.str ⟨#[]⟩)else D.any)=D.v (.str (eA [])):=by
  rw[if_pos (by unfold maxLen;decide)];rfl
theorem VM(w:ByteArray)(l:List Int):dU w l=eA (qg w l):=rfl
theorem Dt{n:Int}(h:0<=n):Lib.itoa n=Lib.decDigits n.toNat:=by
 unfold Lib.itoa
 rw[if_neg (by omega)]
theorem N9{m:Nat}(h:9<m):Lib.decDigits m=Lib.decDigits (m / 10)++[UInt8.ofNat (48+m % 10)]:=by
 rw[Lib.decDigits,dif_neg (by omega)]
theorem abm(m:Nat)(hm:m<=1000000):(m:Int).tmod 10=((m % 10:Nat):Int)/\(m:Int).tdiv 10=((m / 10:Nat):Int)/\IntKind.i64.wrap (48+((m % 10:Nat):Int))=((48+m % 10:Nat):Int)/\
 IntKind.u8.wrap ((48+m % 10:Nat):Int)=((48+m % 10:Nat):Int)/\IntKind.i64.wrap ((m / 10:Nat):Int)=((m / 10:Nat):Int):=by
 refine⟨rfl,rfl,?_,?_,?_⟩
 ·rw[wrap_i64 (by omega) (by omega)];rfl
 ·have h1:48+m % 10<58:=by omega
  generalize 48+m % 10=k at h1
  simp only[IntKind.wrap,IntKind.signed,IntKind.bits]
  first | omega | (simp;omega)
 ·rw[wrap_i64 (by omega) (by omega)]
theorem tO(k:Nat):ru (.int .u8 (k:Int))=UInt8.ofNat k:=rfl
theorem Yn{k:Nat}(h:k<256):r4 (.int .u8 (k:Int))=true:=by
 unfold r4
 simp
 omega
noncomputable def P125:PSpec:=p1 iI (fun n=>0<=n/\n<=1000000) (fun n=>.str (eA (Lib.itoa n))) true
noncomputable def S125:Spec:=P125.toSpec
attribute [go_sem] P125 S125
set_option maxHeartbeats 4000000 in
theorem T3:aR Tryd.prog 106 P125:=by
 refine w1 (rs:=[.tmp 2]) Tryd.func106 Tryd.ntmps106 (by rfl) (by kernel_rfl) (by decide) (fun _ _=>rfl) ⟨_,rfl,lb rfl,fun n hp hw=>?_⟩
 have hP:=be
 simp only[iI]at hw |-
 have hΓ:=@kq Tryd.prog
 obtain⟨Mj,Eb⟩:=hp
 obtain⟨N,rfl⟩:∃ N:Nat,n=N:=⟨n.toNat,by omega⟩
 have hNl:(Lib.decDigits N).length<=21:=by
  have :=Lib.itoa_length_le (N:Int) (by omega) (by omega)
  rwa [Dt (by omega),Int.toNat_natCast]at this
 repeat refine sq ?_
 refine rs hΓ [0] [] ?_
 repeat refine sq ?_
 refine rs hΓ [0,3] [] ?_
 repeat refine sq ?_
 refine aN ?_
 repeat refine sq ?_
 refine cN (fun s:Nat×List UInt8=>[(0,⟨true,.v (vInt s.1)⟩),(3,⟨true,.v (.str (eA s.2))⟩)]) (fun s=>[]) (fun s=>s.1<=N/\Lib.decDigits N=Lib.decDigits s.1++s.2) (fun s=>s.1) (N,[]) ?_ ?_ ?_ ?_
 ·exact⟨Nat.le_refl _,by simp⟩
 ·rfl
 ·rfl
 rintro⟨m,acc⟩ ⟨hi,hR⟩
 simp only[go_sem]
 replace hi:m<=N:=hi
 replace hR:Lib.decDigits N=Lib.decDigits m++acc:=hR
 have hal:acc.length<=21:=by
  have :=congrArg List.length hR
  rw[List.length_append]at this
  omega
 obtain⟨d1,d2,d3,d4,d5⟩:=abm m (by omega)
 have sO:=Yn (k:=48+m % 10) (by omega)
 repeat refine sq ?_
 refine rs hΓ [0,3,5] [] ?_
 repeat refine sq ?_
 refine au rfl rfl (fun hb=>?_) (fun hb=>?_)
 ·have pf:9<m:=by
   have :(m:Int)>9:=by simpa using hb
   omega
  repeat refine sq ?_
  refine ax ?_
  repeat refine sq ?_
  refine aN ?_
  repeat refine sq ?_
  refine rx hΓ [0,3] [] (fun K' hK=>by simp only[go_sem,d1,d3,d4,sO,tO,tT,oz];(repeat (refine⟨by first | (simp only[pS,maxLen,List.length_cons,List.length_nil];omega) | exact ob,?_⟩));exact hK _ (by simp only[go_sem,d1,d3,d4,sO,tO,tT,oz]) (by simp only[go_sem,d1,d3,d4,sO,tO,tT,oz]<;>rfl)) ?_
  repeat refine sq ?_
  refine aP hΓ fun K' hK=>?_
  simp only[go_sem,d2,d5]
  repeat (refine⟨ob,?_⟩)
  refine hK _ ?_
  clear K' hK
  simp only[go_sem]
  refine⟨(m / 10,UInt8.ofNat (48+m % 10)::acc),⟨by show m / 10<=N;omega,?_⟩,by show m / 10<m;omega,?_⟩
  ·rw[hR,N9 pf,List.append_assoc];rfl
  refine bk [0,3] [] ?_ ?_
  ·simp only[go_sem]
  ·simp only[go_sem]
 ·have hle:m<=9:=by
   have :¬ (m:Int)>9:=by simpa using hb
   omega
  have Zx:m % 10=m:=by omega
  rw[Zx]at d3 d4 sO
  have DK:IntKind.i64.wrap (48+(m:Int))=((48+m:Nat):Int):=d3
  repeat refine sq ?_
  refine cr ?_
  simp only[go_sem]
  refine kp [0,3] [] ?_
  repeat refine sq ?_
  refine rx hΓ [2] [] (fun K' hK=>by simp only[go_sem,DK,d4,sO,tO,tT,oz];(repeat (refine⟨by first | (simp only[pS,maxLen,List.length_cons,List.length_nil];omega) | exact ob,?_⟩));exact hK _ (by simp only[go_sem,DK,d4,sO,tO,tT,oz]) (by simp only[go_sem,DK,d4,sO,tO,tT,oz]<;>rfl)) ?_
  refine ar ?_
  simp only[go_sem]
  have :Lib.decDigits m=[UInt8.ofNat (48+m)]:=Lib.decDigits_one (by omega)
  rw[Dt (by omega),Int.toNat_natCast,hR,this]
  all_goals first | rfl | (simp;done)
theorem X5:ak Tryd.prog 106 S125:=T3.sound
@[go_sem] theorem ahi:(if (#[32]:Array UInt8).size<=maxLen then D.v (.str ⟨#[32]⟩)else D.any)=D.v (.str (eA [32])):=by
  rw[if_pos (by unfold maxLen;decide)];rfl
@[go_sem] theorem ahk:(if (#[10]:Array UInt8).size<=maxLen then D.v (.str ⟨#[10]⟩)else D.any)=D.v (.str (eA [10])):=by
  rw[if_pos (by unfold maxLen;decide)];rfl
def bZ(n:Int):Prop:=0<=n/\n<=1000000
theorem rT{n:Int}(h:bZ n):sb n:=⟨by have:=h.1;omega,by have:=h.2;omega⟩
theorem Yi{n:Int}(h:bZ n):(Lib.itoa n).length<=21:=Lib.itoa_length_le n (rT h).1 (rT h).2
theorem j0{α:Type}{l:List α}{k:Nat}(h:k<l.length)(z:α):l.getD k z=l[k]:=by
 simp[List.getD,List.getElem?_eq_getElem h]
def mu(w:ByteArray)(l:List Int):Nat->ByteArray
 | 0=>w
 |i+1=>mu w l i++eA (32::Lib.itoa (l.getD i 0))
theorem Cs(w:ByteArray)(l:List Int):∀ k,k<=l.length->mu w l k=eA (ky w l k)
 | 0,_=>by
   unfold ky
   rw[List.take_zero,List.flatMap_nil,List.append_nil]
   rfl
 |k+1,h=>by
  rw[mu,Cs w l k (by omega),C4 w l (by omega),oz,j0 (show k<l.length by omega)]
theorem Cr{w:ByteArray}{l:List Int}(hl:∀ n∈l,bZ n){k:Nat}(h:k<=l.length):(mu w l k).size<=w.size+22*k:=by
 rw[Cs w l k h,pS]
 exact zm w l (fun n hn=>rT (hl n hn)) k h
theorem IT{w:ByteArray}{l:List Int}:mu w l l.length++eA [10]=dU w l:=by
 rw[Cs w l _ (Nat.le_refl _),oz]
 rfl
noncomputable def K6:List (Nat×Spec):=[(106,S125)]
theorem adt:∀ f s,tbl K6 f=some s->ak Tryd.prog f s:=tc X5<|tn
attribute [go_sem] K6
noncomputable def P111:PSpec:=p2 uM eH (fun w l=>w.size<=1000/\l.length<=1000000/\∀ n∈l,bZ n) (fun w l=>.str (dU w l)) true
noncomputable def S111:Spec:=P111.toSpec
attribute [go_sem] P111 S111
set_option maxHeartbeats 4000000 in
theorem T9:aR Tryd.prog 101 P111:=by
 refine w2 (rs:=[.tmp 4]) Tryd.func101 Tryd.ntmps101 (by rfl) (by kernel_rfl) (by decide) (fun _ _ _=>rfl) ⟨_,rfl,lb rfl,fun w l hp hw=>?_⟩
 have hP:=be
 simp only[eH,uM]at hw |-
 have hΓ:=adt
 obtain⟨Eb,sv,Ea⟩:=hp
 have hl:l.length<=maxLen:=by unfold maxLen;omega
 repeat refine sq ?_
 refine rs hΓ [0,1] [] ?_
 repeat refine sq ?_
 refine rs hΓ [0,1,5] [] ?_
 repeat refine sq ?_
 refine aN ?_
 repeat refine sq ?_
 refine cN (fun s:Nat=>[(5,⟨true,.v (vInt s)⟩),(0,⟨true,.v (.str (mu w l s))⟩)]) (fun s=>[]) (fun s=>s<=l.length) (fun s=>l.length-s) 0 ?_ ?_ ?_ ?_
 ·exact Nat.zero_le _
 ·rfl
 ·rfl
 rintro i hi
 simp only[go_sem]
 repeat refine sq ?_
 refine rs hΓ [0,1,5,9] [] ?_
 repeat refine sq ?_
 refine au rfl rfl (fun hb=>?_) (fun hb=>?_)
 ·have ae:i<l.length:=by simpa using hb
  have ai:(i:Int)<l.length:=by omega
  clear hb
  have hn:=Ea _ (List.getElem_mem ae)
  have Mu:=hn.1
  have Zu:=hn.2
  have bF:=Yi hn
  have uN:=Cr (w:=w) Ea (Nat.le_of_lt ae)
  have jw:(eA [32]).size+(eA (Lib.itoa l[i])).size<=maxLen:=by rw[pS,pS];unfold maxLen;simp only[List.length_cons,List.length_nil];omega
  have mA:(mu w l i).size+(eA (32::Lib.itoa l[i])).size<=maxLen:=by rw[pS];unfold maxLen;simp only[List.length_cons];omega
  have he:mu w l i++eA (32::Lib.itoa l[i])=mu w l (i+1):=by rw[mu,j0 ae]
  repeat refine sq ?_
  refine ax ?_
  repeat refine sq ?_
  refine aN ?_
  repeat refine sq ?_
  refine aP hΓ fun K' hK=>?_
  simp only[go_sem,Int.toNat_natCast,Int.natCast_nonneg,ai,aJ ae,aJ ae,Int.toNat_natCast,Int.natCast_nonneg,ai,jw,mA,oz,he]
  repeat (refine⟨ob,?_⟩)
  refine hK _ ?_
  clear K' hK
  simp only[go_sem]
  refine kp [0,1,5] [] ?_
  repeat refine sq ?_
  refine aP hΓ fun K' hK=>?_
  simp only[go_sem,Int.toNat_natCast,Int.natCast_nonneg,ai,aJ ae]
  repeat (refine⟨ob,?_⟩)
  refine hK _ ?_
  clear K' hK
  simp only[go_sem]
  refine⟨i+1,ae,by(show l.length-(i+1)<l.length-i;omega),?_⟩
  refine bk [0,1,5] [] ?_ ?_
  ·simp only[go_sem,aF ae hl,Int.natCast_add,Int.natCast_one]
  ·simp only[go_sem,aF ae hl,Int.natCast_add,Int.natCast_one]
 ·have bb:i=l.length:=by
   have :¬ (i:Int)<l.length:=by simpa using hb
   omega
  clear hb
  subst bb
  have uN:=Cr (w:=w) Ea (Nat.le_refl _)
  have sg:(mu w l l.length).size+(eA [10]).size<=maxLen:=by rw[pS];unfold maxLen;simp only[List.length_cons,List.length_nil];omega
  repeat refine sq ?_
  refine cr ?_
  simp only[go_sem]
  refine kp [0] [] ?_
  repeat refine sq ?_
  refine rx hΓ [4] [] (fun K' hK=>by simp only[go_sem,sg,IT];(repeat (refine⟨ob,?_⟩));exact hK _ (by simp only[go_sem]) (by simp only[go_sem]<;>rfl)) ?_
  refine ar ?_
  simp only[go_sem]
  skip
theorem X':ak Tryd.prog 101 S111:=T9.sound
theorem Ni{α:Type}{l:List α}{x:α}(h:x∈l)(z:α):∃ k,k<l.length/\l.getD k z=x:=by
 obtain⟨k,hk,rfl⟩:=List.mem_iff_getElem.1 h
 exact⟨k,hk,j0 hk z⟩
structure eQ (s:Stk):Prop where
 hol:s.ho.length<=40
 ho:∀ n∈s.ho,bZ n
 unl:∀ i,i<6->(s.un.get i).length<=40
 un:∀ i,i<6->∀ p∈s.un.get i,bZ p.no/\bZ p.pa
 se:∀ i,i<6->bZ (s.se.get i)
 ta:∀ i,i<6->bZ (s.ta.get i)
theorem r8{n lo hi:Int}(h:aO n lo hi=true)(h0:0<=lo)(h1:hi<=1000000):bZ n:=by
 obtain⟨a,b⟩:=cp.1 h
 exact⟨by omega,by omega⟩
theorem um{l:List Int}(h:gx l=true):l.length<=40/\∀ n∈l,bZ n:=by
 unfold gx at h
 rw[Bool.and_eq_true,decide_eq_true_eq,ix]at h
 refine⟨h.2,fun n hn=>?_⟩
 obtain⟨k,hk,rfl⟩:=Ni hn 0
 have :=h.1 k hk
 unfold lf at this
 rw[Bool.and_eq_true]at this
 exact r8 this.1 (by omega) (by omega)
theorem I2{l:List Par}(h:cm l=true):l.length<=40/\∀ p∈l,bZ p.no/\bZ p.pa:=by
 unfold cm at h
 rw[Bool.and_eq_true,decide_eq_true_eq,ix]at h
 refine⟨h.2,fun n hn=>?_⟩
 obtain⟨k,hk,rfl⟩:=Ni hn default
 have :=h.1 k hk
 unfold gw at this
 rw[Bool.and_eq_true,Bool.and_eq_true]at this
 exact⟨r8 this.1.1 (by omega) (by omega),r8 this.1.2 (by omega) (by omega)⟩
theorem uw{me:Int}{s:Stk}(h:cz me s=true):eQ s:=by
 unfold cz at h
 simp only[Bool.and_eq_true]at h
 obtain⟨⟨⟨⟨⟨h0,h1⟩,h2⟩,h3⟩,h4⟩,h5⟩:=h
 have hA:=ix.1 h5
 have hB:∀ i,i<6->aO (s.se.get i) 0 99999=true/\aO (s.ta.get i) 0 99999=true/\cm (s.un.get i)=true:=by
  intro i hi
  have :=hA i hi
  unfold gu at this
  simp only[Bool.and_eq_true]at this
  exact⟨this.1.1.1,this.1.1.2,this.1.2⟩
 exact⟨(um h1).1,(um h1).2,fun i hi=>(I2 (hB i hi).2.2).1,fun i hi=>(I2 (hB i hi).2.2).2,fun i hi=>r8 (hB i hi).1 (by omega) (by omega),fun i hi=>r8 (hB i hi).2.1 (by omega) (by omega)⟩
theorem aha{s:Stk}(h:oA s=true):eQ s:=by
 unfold oA at h
 rcases Classical.em (∃ m:Nat,m<6/\cz m s=true)with⟨m,hm,hb⟩ | hn
 ·exact uw hb
 ·exfalso
  rw[ix.2 fun j hj=>by
   cases hb:cz (j:Int) s with
   |false=>rfl
   |true=>exact absurd ⟨j,hj,hb⟩ hn]at h
  exact absurd h (by decide)
def rq:ByteArray:=eA [104,111,108,100,115]
def kW:ByteArray:=eA [117,110,100,101,114]
def lK:ByteArray:=eA [115,101,110,116]
def nx:ByteArray:=eA [116,97,107,101,110]
@[go_sem] theorem ahm:(if (#[104,111,108,100,115]:Array UInt8).size<=maxLen then D.v (.str ⟨#[104,111,108,100,115]⟩)else D.any)=D.v (.str rq):=by
  rw[if_pos (by unfold maxLen;decide)];rfl
@[go_sem] theorem ahg:(if (#[117,110,100,101,114]:Array UInt8).size<=maxLen then D.v (.str ⟨#[117,110,100,101,114]⟩)else D.any)=D.v (.str kW):=by
  rw[if_pos (by unfold maxLen;decide)];rfl
@[go_sem] theorem ahj:(if (#[115,101,110,116]:Array UInt8).size<=maxLen then D.v (.str ⟨#[115,101,110,116]⟩)else D.any)=D.v (.str lK):=by
  rw[if_pos (by unfold maxLen;decide)];rfl
@[go_sem] theorem ahh:(if (#[116,97,107,101,110]:Array UInt8).size<=maxLen then D.v (.str ⟨#[116,97,107,101,110]⟩)else D.any)=D.v (.str nx):=by
  rw[if_pos (by unfold maxLen;decide)];rfl
def g'(a:ByteArray)(i:Nat)(l:List Par):Nat->ByteArray
 | 0=>a
 |j+1=>g' a i l j++dU kW [(i:Int),(l.getD j default).no,(l.getD j default).pa]
def eP(s:Stk):Nat->ByteArray
 | 0=>dU rq s.ho
 |i+1=>g' (eP s i) i (s.un.get i) (s.un.get i).length
theorem yU(s:Stk)(i:Nat):g' (eP s i) i (s.un.get i) (s.un.get i).length=eP s (i+1):=rfl
def dq(s:Stk):ByteArray:=eP s 6++dU lK (s.se.L id)++dU nx (s.ta.L id)
theorem zl{w:ByteArray}{l:List Int}(h:∀ n∈l,bZ n):(dU w l).size<=w.size+22*l.length+1:=by
 rw[<-IT,ByteArray.size_append,pS]
 have :=Cr (w:=w) h (Nat.le_refl _)
 simp only[List.length_cons,List.length_nil]
 omega
theorem Vj{i:Nat}(h:i<6):bZ (i:Int):=⟨by omega,by omega⟩
theorem y7{i:Nat}(hi:i<6){p:Par}(h:bZ p.no/\bZ p.pa):∀ n∈[(i:Int),p.no,p.pa],bZ n:=by
 intro n hn
 simp only[List.mem_cons,List.not_mem_nil,or_false]at hn
 rcases hn with rfl | rfl | rfl
 ·exact Vj hi
 ·exact h.1
 ·exact h.2
theorem BJ{i:Nat}(hi:i<6){p:Par}(h:bZ p.no/\bZ p.pa):(dU kW [(i:Int),p.no,p.pa]).size<=72:=by
 have :=zl (w:=kW) (y7 hi h)
 have hw:kW.size=5:=rfl
 simp only[List.length_cons,List.length_nil]at this
 omega
theorem yl{a:ByteArray}{i:Nat}(hi:i<6){l:List Par}(h:∀ p∈l,bZ p.no/\bZ p.pa):∀ k,k<=l.length->(g' a i l k).size<=a.size+72*k
 | 0,_=>by show a.size<=_;omega
 |k+1,hk=>by
  have h1:=yl (a:=a) hi h k (by omega)
  have h2:=BJ hi (h _ (by rw[j0 (show k<l.length by omega) default];exact List.getElem_mem (by omega):l.getD k default∈l))
  show (g' a i l k++dU kW [(i:Int),(l.getD k default).no,(l.getD k default).pa]).size<=_
  rw[ByteArray.size_append]
  omega
theorem uq{s:Stk}(hs:eQ s):∀ i,i<=6->(eP s i).size<=886+2880*i
 | 0,_=>by
   have h1:=zl (w:=rq) hs.ho
   have h2:=hs.hol
   have hw:rq.size=5:=rfl
   show (dU rq s.ho).size<=_
   omega
 |i+1,hi=>by
  have h0:=uq hs i (by omega)
  have h1:=yl (a:=eP s i) (show i<6 by omega) (hs.un i (by omega)) _ (Nat.le_refl _)
  have h2:=hs.unl i (by omega)
  show (g' (eP s i) i (s.un.get i) (s.un.get i).length).size<=_
  omega
theorem pT{s:aS Int}(h:∀ i,i<6->bZ (s.get i)):∀ n∈s.L id,bZ n:=by
 intro n hn
 simp only[aS.L,List.mem_cons,List.not_mem_nil,or_false,id]at hn
 rcases hn with rfl | rfl | rfl | rfl | rfl | rfl
 ·exact h 0 (by omega)
 ·exact h 1 (by omega)
 ·exact h 2 (by omega)
 ·exact h 3 (by omega)
 ·exact h 4 (by omega)
 ·exact h 5 (by omega)
theorem B9{s:Stk}(hs:eQ s):(dU lK (s.se.L id)).size<=137:=by
 have :=zl (w:=lK) (pT hs.se)
 have hw:lK.size=4:=rfl
 rw[aS.L_len]at this
 omega
theorem BO{s:Stk}(hs:eQ s):(dU nx (s.ta.L id)).size<=138:=by
 have :=zl (w:=nx) (pT hs.ta)
 have hw:nx.size=5:=rfl
 rw[aS.L_len]at this
 omega
theorem HC{s:Stk}(hs:eQ s):(dq s).size<=20000:=by
 unfold dq
 rw[ByteArray.size_append,ByteArray.size_append]
 have h1:=uq hs 6 (by omega)
 have h2:=B9 hs
 have h3:=BO hs
 omega
noncomputable def K7:List (Nat×Spec):=[(79,S110),(101,S111)]
theorem P7:∀ f s,tbl K7 f=some s->ak Tryd.prog f s:=tc Ya<|tc X'<|tn
attribute [go_sem] K7
noncomputable def P91:PSpec:=p1 iX (fun s=>eQ s) (fun s=>.str (dq s)) true
noncomputable def S91:Spec:=P91.toSpec
attribute [go_sem] P91 S91
set_option maxHeartbeats 4000000 in
theorem Il:aR Tryd.prog 63 P91:=by
 refine w1 (rs:=[.tmp 2]) Tryd.func63 Tryd.ntmps63 (by rfl) (by kernel_rfl) (by decide) (fun _ _=>rfl) ⟨_,rfl,lb rfl,fun s hp hw=>?_⟩
 have hP:=be
 simp only[iX]at hw |-
 have hΓ:=P7
 have hs:eQ s:=hp
 have c1:rq.size<=1000/\s.ho.length<=1000000/\∀ n∈s.ho,sb n:=⟨by decide,by have:=hs.hol;omega,fun n hn=>rT (hs.ho n hn)⟩
 repeat refine sq ?_
 refine rs hΓ [1] [[1,0]] ?_
 refine aL (cG [1,0] (aC s) rfl [1] [[1,0]] ?_ rfl) ?_
 ·simp only[go_sem]
 simp only[go_sem]
 repeat refine sq ?_
 refine rx hΓ [1,3] [[1,0]] (fun K' hK=>by simp only[go_sem];(repeat (refine⟨by first | exact c1 | exact ob,?_⟩));exact hK _ (by simp only[go_sem]) (by simp only[go_sem]<;>rfl)) ?_
 repeat refine sq ?_
 refine rs hΓ [1,3,12,13] [[1,0]] ?_
 repeat refine sq ?_
 refine aN ?_
 repeat refine sq ?_
 refine cN (fun z:Nat=>[(13,⟨true,.v (vInt z)⟩),(3,⟨true,.v (.str (eP s z))⟩)]) (fun z=>[]) (fun z=>z<=6) (fun z=>6-z) 0 ?_ ?_ ?_ ?_
 ·exact Nat.zero_le _
 ·rfl
 ·rfl
 rintro i hi
 simp only[go_sem]
 repeat refine sq ?_
 refine rs hΓ [1,3,12,13,14] [[1,0]] ?_
 repeat refine sq ?_
 refine au rfl rfl (fun hb=>?_) (fun hb=>?_)
 ·have ae:i<6:=by have hq:(i:Int)<6:=(by simpa using hb);omega
  have ai:(i:Int)<6:=by omega
  clear hb
  repeat refine sq ?_
  refine ax ?_
  repeat refine sq ?_
  refine aN ?_
  repeat refine sq ?_
  refine rx hΓ [1,3,4,5,12,13] [[1,0]] (fun K' hK=>by simp only[go_sem,Int.toNat_natCast,Int.natCast_nonneg,ai,aS.L_get s.un rowP default ae,Int.toNat_natCast,Int.natCast_nonneg,ai];(repeat (refine⟨ob,?_⟩));exact hK _ (by simp only[go_sem]) (by simp only[go_sem]<;>rfl)) ?_
  repeat refine sq ?_
  refine rx hΓ [1,3,4,12,13,17,18,19] [[1,0]] (fun K' hK=>by simp only[go_sem,Int.toNat_natCast,Int.natCast_nonneg,ai];(repeat (refine⟨ob,?_⟩));exact hK _ (by simp only[go_sem]) (by simp only[go_sem]<;>rfl)) ?_
  repeat refine sq ?_
  refine aN ?_
  repeat refine sq ?_
  refine cN (fun z:Nat=>[(19,⟨true,.v (vInt z)⟩),(3,⟨true,.v (.str (g' (eP s i) i (s.un.get i) z))⟩)]) (fun z=>[]) (fun z=>z<=(s.un.get i).length) (fun z=>(s.un.get i).length-z) 0 ?_ ?_ ?_ ?_
  ·exact Nat.zero_le _
  ·rfl
  ·rfl
  rintro i1 hi
  simp only[go_sem]
  repeat refine sq ?_
  refine rx hΓ [1,3,4,12,13,17,18,19,20] [[1,0]] (fun K' hK=>by simp only[go_sem,Int.toNat_natCast,Int.natCast_nonneg,ai];(repeat (refine⟨ob,?_⟩));exact hK _ (by simp only[go_sem]) (by simp only[go_sem]<;>rfl)) ?_
  repeat refine sq ?_
  refine au rfl rfl (fun hb=>?_) (fun hb=>?_)
  ·have cR:i1<(s.un.get i).length:=by simpa using hb
   have ev:(i1:Int)<(s.un.get i).length:=by omega
   clear hb
   have hq:=hs.un i ae _ (List.getElem_mem cR)
   have c8:kW.size<=1000/\[(i:Int),(s.un.get i)[i1].no,(s.un.get i)[i1].pa].length<=1000000/\∀ n∈[(i:Int),(s.un.get i)[i1].no,(s.un.get i)[i1].pa],sb n:=⟨by decide,by show 3<=1000000;omega,fun n hn=>rT (y7 ae hq n hn)⟩
   have jw:=BJ ae hq
   have mA:=yl (a:=eP s i) ae (hs.un i ae) i1 (Nat.le_of_lt cR)
   have uN:=uq hs i (Nat.le_of_lt ae)
   have sg:=hs.unl i ae
   have hz:(g' (eP s i) i (s.un.get i) i1).size+(dU kW [(i:Int),(s.un.get i)[i1].no,(s.un.get i)[i1].pa]).size<=maxLen:=by unfold maxLen;omega
   have he:g' (eP s i) i (s.un.get i) i1++dU kW [(i:Int),(s.un.get i)[i1].no,(s.un.get i)[i1].pa]=g' (eP s i) i (s.un.get i) (i1+1):=by rw[g',j0 cR]
   repeat refine sq ?_
   refine ax ?_
   repeat refine sq ?_
   refine aN ?_
   repeat refine sq ?_
   refine rx hΓ [1,3,4,7,12,13,17,18,19] [[1,0],[7,0]] (fun K' hK=>by simp only[go_sem,Int.toNat_natCast,Int.natCast_nonneg,ai,Int.toNat_natCast,Int.natCast_nonneg,ev,aJ cR];(repeat (refine⟨ob,?_⟩));exact hK _ (by simp only[go_sem]) (by simp only[go_sem]<;>rfl)) ?_
   repeat refine sq ?_
   refine aP hΓ fun K' hK=>?_
   simp only[go_sem,Int.toNat_natCast,Int.natCast_nonneg,ai,Int.toNat_natCast,Int.natCast_nonneg,ev,aJ cR,hz,he]
   repeat (refine⟨by first | exact c8 | exact ob,?_⟩)
   refine hK _ ?_
   clear K' hK
   simp only[go_sem]
   refine kp [1,3,4,12,13,17,18,19] [[1,0]] ?_
   repeat refine sq ?_
   refine aP hΓ fun K' hK=>?_
   simp only[go_sem,Int.toNat_natCast,Int.natCast_nonneg,ai,Int.toNat_natCast,Int.natCast_nonneg,ev,aJ cR]
   repeat (refine⟨ob,?_⟩)
   refine hK _ ?_
   clear K' hK
   simp only[go_sem]
   refine⟨i1+1,cR,by(show (s.un.get i).length-(i1+1)<(s.un.get i).length-i1;omega),?_⟩
   refine bk [1,3,4,12,13,17,18,19] [[1,0]] ?_ ?_
   ·simp only[go_sem,aF cR (tK hw ae),Int.natCast_add,Int.natCast_one]
   ·simp only[go_sem,aF cR (tK hw ae),Int.natCast_add,Int.natCast_one]
  ·have sK:i1=(s.un.get i).length:=by
    have :¬ (i1:Int)<(s.un.get i).length:=by simpa using hb
    omega
   clear hb
   subst sK
   repeat refine sq ?_
   refine cr ?_
   simp only[go_sem]
   refine kp [1,3,12,13] [[1,0]] ?_
   repeat refine sq ?_
   refine aP hΓ fun K' hK=>?_
   simp only[go_sem,Int.toNat_natCast,Int.natCast_nonneg,ai]
   repeat (refine⟨ob,?_⟩)
   refine hK _ ?_
   clear K' hK
   simp only[go_sem]
   refine⟨i+1,ae,by(show 6-(i+1)<6-i;omega),?_⟩
   refine bk [1,3,12,13] [[1,0]] ?_ ?_
   ·simp only[go_sem,aF ae (lb rfl:(6:Nat)<=maxLen),Int.natCast_add,Int.natCast_one,yU s i]
   ·simp only[go_sem,aF ae (lb rfl:(6:Nat)<=maxLen),Int.natCast_add,Int.natCast_one,yU s i]
 ·have bb:i=6:=by
   have :¬ (i:Int)<6:=by simpa using hb
   omega
  clear hb
  subst bb
  have jw:=uq hs 6 (Nat.le_refl _)
  have mA:=B9 hs
  have uN:=BO hs
  have c2:lK.size<=1000/\(s.se.L id).length<=1000000/\∀ n∈s.se.L id,sb n:=⟨by decide,by show 6<=1000000;omega,fun n hn=>rT (pT hs.se n hn)⟩
  have c3:nx.size<=1000/\(s.ta.L id).length<=1000000/\∀ n∈s.ta.L id,sb n:=⟨by decide,by show 6<=1000000;omega,fun n hn=>rT (pT hs.ta n hn)⟩
  have sg:(eP s 6).size+(dU lK (s.se.L id)).size<=maxLen:=by unfold maxLen;omega
  have DI:(eP s 6++dU lK (s.se.L id)).size+(dU nx (s.ta.L id)).size<=maxLen:=by rw[ByteArray.size_append];unfold maxLen;omega
  repeat refine sq ?_
  refine cr ?_
  simp only[go_sem]
  refine kp [1,3] [[1,0]] ?_
  repeat refine sq ?_
  refine dx hΓ hP [[],[],[1],[1,2],[0,1,2,3],[],[5],[1,2,3,5,6],[0,1,2,3,4,5,6,7],[0,1,2,3,4,5,6,7,8]] [2] [] (by kernel_rfl) (fun K' hK=>by simp only[go_sem,sg,DI];(repeat (refine⟨by first | exact c2 | exact c3 | exact ob,?_⟩));(first | refine⟨by rfl,?_⟩ | skip);exact hK _ (by simp only[go_sem]) (by simp only[go_sem]<;>rfl)) ?_
  refine ar ?_
  simp only[go_sem]
  first | rfl
theorem XG:ak Tryd.prog 63 S91:=Il.sound
def oC(x:aS Int)(z:Nat):List Int:=(x.L id).take z
theorem H4(x:aS Int){z:Nat}(h:z<=6):(oC x z).length=z:=by
 unfold oC
 rw[List.length_take,aS.L_len]
 omega
theorem yy(x:aS Int){z:Nat}(h:z<6):oC x (z+1)=oC x z++[x.get z]:=by
 match z,h with
 | 0,_=>rfl
 | 1,_=>rfl
 | 2,_=>rfl
 | 3,_=>rfl
 | 4,_=>rfl
 | 5,_=>rfl
theorem Sl(x:aS Int):oC x 6=x.L id:=rfl
noncomputable def P92:PSpec:=p1 iX (fun s=>eQ s) (fun s=>.str (dq s)) true
noncomputable def S92:Spec:=P92.toSpec
attribute [go_sem] P92 S92
set_option maxHeartbeats 4000000 in
theorem Tf:aR Tryd.prog 98 P92:=by
 refine w1 (rs:=[.tmp 2]) Tryd.func98 Tryd.ntmps98 (by rfl) (by kernel_rfl) (by decide) (fun _ _=>rfl) ⟨_,rfl,lb rfl,fun s hp hw=>?_⟩
 have hP:=be
 simp only[iX]at hw |-
 have hΓ:=P7
 have hs:eQ s:=hp
 have c1:rq.size<=1000/\s.ho.length<=1000000/\∀ n∈s.ho,bZ n:=⟨by decide,by have:=hs.hol;omega,hs.ho⟩
 have jw:=uq hs 6 (Nat.le_refl _)
 have mA:=B9 hs
 have uN:=BO hs
 have c2:lK.size<=1000/\(s.se.L id).length<=1000000/\∀ n∈s.se.L id,bZ n:=⟨by decide,by show 6<=1000000;omega,pT hs.se⟩
 have c3:nx.size<=1000/\(s.ta.L id).length<=1000000/\∀ n∈s.ta.L id,bZ n:=⟨by decide,by show 6<=1000000;omega,pT hs.ta⟩
 have sg:(eP s 6).size+(dU lK (s.se.L id)).size<=maxLen:=by unfold maxLen;omega
 have DI:(eP s 6++dU lK (s.se.L id)).size+(dU nx (s.ta.L id)).size<=maxLen:=by rw[ByteArray.size_append];unfold maxLen;omega
 repeat refine sq ?_
 refine rs hΓ [1] [[1,0]] ?_
 refine aL (cG [1,0] (aC s) rfl [1] [[1,0]] ?_ rfl) ?_
 ·simp only[go_sem]
 simp only[go_sem]
 repeat refine sq ?_
 refine rx hΓ [1,3] [[1,0]] (fun K' hK=>by simp only[go_sem];(repeat (refine⟨by first | exact c1 | exact ob,?_⟩));exact hK _ (by simp only[go_sem]) (by simp only[go_sem]<;>rfl)) ?_
 repeat refine sq ?_
 refine rs hΓ [1,3,4] [[1,0]] ?_
 repeat refine sq ?_
 refine aN ?_
 repeat refine sq ?_
 refine cN (fun z:Nat=>[(4,⟨true,.v (vInt z)⟩),(3,⟨true,.v (.str (eP s z))⟩)]) (fun z=>[]) (fun z=>z<=6) (fun z=>6-z) 0 ?_ ?_ ?_ ?_
 ·exact Nat.zero_le _
 ·rfl
 ·rfl
 rintro i hi
 simp only[go_sem]
 repeat refine sq ?_
 refine rs hΓ [1,3,4,13] [[1,0]] ?_
 repeat refine sq ?_
 refine au rfl rfl (fun hb=>?_) (fun hb=>?_)
 ·have ae:i<6:=by have hq:(i:Int)<6:=(by simpa using hb);omega
  have ai:(i:Int)<6:=by omega
  clear hb
  repeat refine sq ?_
  refine ax ?_
  repeat refine sq ?_
  refine aN ?_
  repeat refine sq ?_
  refine rx hΓ [1,3,4,5] [[1,0]] (fun K' hK=>by simp only[go_sem,Int.toNat_natCast,Int.natCast_nonneg,ai];(repeat (refine⟨ob,?_⟩));exact hK _ (by simp only[go_sem]) (by simp only[go_sem]<;>rfl)) ?_
  repeat refine sq ?_
  refine aN ?_
  repeat refine sq ?_
  refine cN (fun z:Nat=>[(5,⟨true,.v (vInt z)⟩),(3,⟨true,.v (.str (g' (eP s i) i (s.un.get i) z))⟩)]) (fun z=>[]) (fun z=>z<=(s.un.get i).length) (fun z=>(s.un.get i).length-z) 0 ?_ ?_ ?_ ?_
  ·exact Nat.zero_le _
  ·rfl
  ·rfl
  rintro i1 hi
  simp only[go_sem]
  repeat refine sq ?_
  refine rx hΓ [1,3,4,5,22] [[1,0]] (fun K' hK=>by simp only[go_sem,Int.toNat_natCast,Int.natCast_nonneg,ai,dM s ae,Int.toNat_natCast,Int.natCast_nonneg,ai];(repeat (refine⟨ob,?_⟩));exact hK _ (by simp only[go_sem]) (by simp only[go_sem]<;>rfl)) ?_
  repeat refine sq ?_
  refine au rfl rfl (fun hb=>?_) (fun hb=>?_)
  ·have cR:i1<(s.un.get i).length:=by simpa using hb
   have ev:(i1:Int)<(s.un.get i).length:=by omega
   clear hb
   have hq:=hs.un i ae _ (List.getElem_mem cR)
   have c8:kW.size<=1000/\[(i:Int),(s.un.get i)[i1].no,(s.un.get i)[i1].pa].length<=1000000/\∀ n∈[(i:Int),(s.un.get i)[i1].no,(s.un.get i)[i1].pa],bZ n:=⟨by decide,by show 3<=1000000;omega,y7 ae hq⟩
   have jw:=BJ ae hq
   have mA:=yl (a:=eP s i) ae (hs.un i ae) i1 (Nat.le_of_lt cR)
   have uN:=uq hs i (Nat.le_of_lt ae)
   have sg:=hs.unl i ae
   have hz:(g' (eP s i) i (s.un.get i) i1).size+(dU kW [(i:Int),(s.un.get i)[i1].no,(s.un.get i)[i1].pa]).size<=maxLen:=by unfold maxLen;omega
   have he:g' (eP s i) i (s.un.get i) i1++dU kW [(i:Int),(s.un.get i)[i1].no,(s.un.get i)[i1].pa]=g' (eP s i) i (s.un.get i) (i1+1):=by rw[g',j0 cR]
   repeat refine sq ?_
   refine ax ?_
   repeat refine sq ?_
   refine aN ?_
   repeat refine sq ?_
   refine Gy hΓ hP [[],[],[],[],[2,3],[2,3,4],[],[2,3,4,5,6],[2,3,4,5,6,7],[2,3,4,5,6,7,8],[],[],[10,11],[10,11,12],[],[10,11,12,13,14],[10,11,12,13,14,15],[10,11,12,13,14,15,16],[1,2,3,4,5,6,7,8,9,10,11,12,13,14,15,16,17],[1,2,3,4,5,6,7,8,9,10,11,12,13,14,15,16,17,18],[0,1,2,3,4,5,6,7,8,9,10,11,12,13,14,15,16,17,18,19],[0,1,2,3,4,5,6,7,8,9,10,11,12,13,14,15,16,17,18,19,20]] (by kernel_rfl) fun K' hK=>?_
   simp only[go_sem,Int.toNat_natCast,Int.natCast_nonneg,ai,Int.toNat_natCast,Int.natCast_nonneg,ev,ai,aJ cR,dM s ae,hz,he,dM s ae,Int.toNat_natCast,Int.natCast_nonneg,ai,ev,aJ cR]
   repeat (refine⟨by first | exact c8 | exact ob,?_⟩)
   first | refine⟨by rfl,?_⟩ | skip
   refine hK _ ?_
   clear K' hK
   simp only[go_sem]
   refine kp [1,3,4,5] [[1,0]] ?_
   repeat refine sq ?_
   refine aP hΓ fun K' hK=>?_
   simp only[go_sem,Int.toNat_natCast,Int.natCast_nonneg,ai,Int.toNat_natCast,Int.natCast_nonneg,ev,ai,aJ cR,dM s ae]
   repeat (refine⟨ob,?_⟩)
   refine hK _ ?_
   clear K' hK
   simp only[go_sem]
   refine⟨i1+1,cR,by(show (s.un.get i).length-(i1+1)<(s.un.get i).length-i1;omega),?_⟩
   refine bk [1,3,4,5] [[1,0]] ?_ ?_
   ·simp only[go_sem,aF cR (tK hw ae),Int.natCast_add,Int.natCast_one]
   ·simp only[go_sem,aF cR (tK hw ae),Int.natCast_add,Int.natCast_one]
  ·have sK:i1=(s.un.get i).length:=by
    have :¬ (i1:Int)<(s.un.get i).length:=by simpa using hb
    omega
   clear hb
   subst sK
   repeat refine sq ?_
   refine cr ?_
   simp only[go_sem]
   refine kp [1,3,4] [[1,0]] ?_
   repeat refine sq ?_
   refine aP hΓ fun K' hK=>?_
   simp only[go_sem,Int.toNat_natCast,Int.natCast_nonneg,ai]
   repeat (refine⟨ob,?_⟩)
   refine hK _ ?_
   clear K' hK
   simp only[go_sem]
   refine⟨i+1,ae,by(show 6-(i+1)<6-i;omega),?_⟩
   refine bk [1,3,4] [[1,0]] ?_ ?_
   ·simp only[go_sem,aF ae (lb rfl:(6:Nat)<=maxLen),Int.natCast_add,Int.natCast_one,yU s i]
   ·simp only[go_sem,aF ae (lb rfl:(6:Nat)<=maxLen),Int.natCast_add,Int.natCast_one,yU s i]
 ·have bb:i=6:=by
   have :¬ (i:Int)<6:=by simpa using hb
   omega
  clear hb
  subst bb
  repeat refine sq ?_
  refine cr ?_
  simp only[go_sem]
  refine kp [1,3] [[1,0]] ?_
  repeat refine sq ?_
  refine rs hΓ [1,3,6] [[1,0],[56,0]] ?_
  refine aL (tL 6 [56,0] 1 (by simp only[go_sem]) (by simp only[go_sem]) [1,3,6] [[1,0],[56,0]] ?_ rfl) ?_
  ·simp only[go_sem]
  simp only[go_sem]
  repeat refine sq ?_
  refine rs hΓ [1,3,6,7] [[1,0],[56,0],[63,0]] ?_
  refine aL (tL 7 [63,0] 1 (by simp only[go_sem]) (by simp only[go_sem]) [1,3,6,7] [[1,0],[56,0],[63,0]] ?_ rfl) ?_
  ·simp only[go_sem]
  simp only[go_sem]
  repeat refine sq ?_
  refine rs hΓ [1,3,6,7,8] [[1,0],[56,0],[63,0]] ?_
  repeat refine sq ?_
  refine aN ?_
  repeat refine sq ?_
  refine cN (fun z:Nat=>[(8,⟨true,.v (vInt z)⟩),(6,⟨true,.msl [56,0] (oC s.se z).length⟩),(7,⟨true,.msl [63,0] (oC s.ta z).length⟩)]) (fun z=>[([56,0],.arr 1 ((oC s.se z).map vInt)),([63,0],.arr 1 ((oC s.ta z).map vInt))]) (fun z=>z<=6) (fun z=>6-z) 0 ?_ ?_ ?_ ?_
  ·exact Nat.zero_le _
  ·rfl
  ·rfl
  rintro i2 hi
  simp only[go_sem]
  repeat refine sq ?_
  refine rs hΓ [1,3,6,7,8,47] [[1,0],[56,0],[63,0]] ?_
  repeat refine sq ?_
  refine au rfl rfl (fun hb=>?_) (fun hb=>?_)
  ·have cQ:i2<6:=by have hq:(i2:Int)<6:=(by simpa using hb);omega
   have jy:(i2:Int)<6:=by omega
   clear hb
   have qj:=H4 s.se (Nat.le_of_lt cQ)
   have iZ:=H4 s.ta (Nat.le_of_lt cQ)
   repeat refine sq ?_
   refine ax ?_
   repeat refine sq ?_
   refine aN ?_
   repeat refine sq ?_
   refine rx hΓ [1,3,6,7,8] [[1,0],[56,0],[63,0]] (fun K' hK=>by simp only[go_sem,Int.toNat_natCast,Int.natCast_nonneg,jy,eB s cQ,Int.toNat_natCast,Int.natCast_nonneg,jy];(repeat (refine⟨ob,?_⟩));exact hK _ (by simp only[go_sem]) (by simp only[go_sem]<;>rfl)) ?_
   repeat refine sq ?_
   refine aP hΓ fun K' hK=>?_
   simp only[go_sem,Int.toNat_natCast,Int.natCast_nonneg,jy,eh s cQ,Int.toNat_natCast,Int.natCast_nonneg,jy]
   repeat (refine⟨ob,?_⟩)
   refine hK _ ?_
   clear K' hK
   simp only[go_sem]
   refine kp [1,3,6,7,8] [[1,0],[56,0],[63,0]] ?_
   repeat refine sq ?_
   refine aP hΓ fun K' hK=>?_
   simp only[go_sem,Int.toNat_natCast,Int.natCast_nonneg,jy]
   repeat (refine⟨ob,?_⟩)
   refine hK _ ?_
   clear K' hK
   simp only[go_sem]
   refine⟨i2+1,cQ,by(show 6-(i2+1)<6-i2;omega),?_⟩
   refine bk [1,3,6,7,8] [[1,0],[56,0],[63,0]] ?_ ?_
   ·simp only[go_sem,aF cQ (lb rfl:(6:Nat)<=maxLen),Int.natCast_add,Int.natCast_one,yy s.se cQ,yy s.ta cQ,List.map_append,List.length_append,List.map_cons,List.map_nil,List.length_cons,List.length_nil]
   ·simp only[go_sem,aF cQ (lb rfl:(6:Nat)<=maxLen),Int.natCast_add,Int.natCast_one,yy s.se cQ,yy s.ta cQ,List.map_append,List.length_append,List.map_cons,List.map_nil,List.length_cons,List.length_nil]
  ·have EM:i2=6:=by
    have :¬ (i2:Int)<6:=by simpa using hb
    omega
   clear hb
   subst EM
   repeat refine sq ?_
   refine cr ?_
   simp only[go_sem]
   refine kp [3,6,7] [[56,0],[63,0]] ?_
   repeat refine sq ?_
   refine rx hΓ [2] [] (fun K' hK=>by simp only[go_sem,sg,DI,Sl];(repeat (refine⟨by first | exact c2 | exact c3 | exact ob,?_⟩));exact hK _ (by simp only[go_sem]) (by simp only[go_sem]<;>rfl)) ?_
   refine ar ?_
   simp only[go_sem]
   first | rfl
theorem XF:ak Tryd.prog 98 S92:=Tf.sound
attribute [go_sem,simp] OT
def lC(b:ByteArray)(i:Nat):Nat:=(b.data.getD i 0).toNat
theorem acb(b:ByteArray)(i:Nat):lC b i<256:=(b.data.getD i 0).toNat_lt
theorem bytes_at{b:ByteArray}{i:Nat}(h:i<b.size):(j9 b).getD i default=.int .u8 (lC b i:Nat):=by
 have h':i<b.data.toList.length:=by rw[Array.length_toList];exact h
 have h1:i<b.data.size:=h
 unfold j9
 rw[j0 (by rw[List.length_map];exact h'),List.getElem_map,Array.getElem_toList]
 unfold lC xP
 have :b.data.getD i 0=b.data[i]:=by
  unfold Array.getD
  rw[dif_pos h1]
  rfl
 rw[this]
def iD(b:ByteArray)(n:Int):Nat->Int
 | 0=>n.tmod 1000003
 |i+1=>(257*iD b n i+lC b i+1).tmod 1000003
def dK(s:Stk)(n:Int):Int:=iD (dq s) n (dq s).size
theorem yq{b:ByteArray}{n:Int}(hn:bZ n):∀ i,0<=iD b n i/\iD b n i<1000003
 | 0=>by
   have :=hn.1
   exact⟨Int.tmod_nonneg _ this,Int.tmod_lt_of_pos _ (by omega)⟩
 |i+1=>by
  have h:=yq (b:=b) hn i
  exact⟨Int.tmod_nonneg _ (by omega),Int.tmod_lt_of_pos _ (by omega)⟩
theorem HK{b:ByteArray}{n:Int}(hn:bZ n)(i:Nat):IntKind.i64.wrap (257*iD b n i)=257*iD b n i/\IntKind.i64.wrap (lC b i:Nat)=(lC b i:Nat)/\
 IntKind.i64.wrap (257*iD b n i+(lC b i:Nat))=257*iD b n i+(lC b i:Nat)/\IntKind.i64.wrap (257*iD b n i+(lC b i:Nat)+1)=257*iD b n i+(lC b i:Nat)+1/\
 IntKind.i64.wrap (iD b n (i+1))=iD b n (i+1)/\(257*iD b n i+(lC b i:Nat)+1).tmod 1000003=iD b n (i+1):=by
 have h:=yq (b:=b) hn i
 have h2:=yq (b:=b) hn (i+1)
 have hb:=acb b i
 exact⟨wrap_i64 (by omega) (by omega),wrap_i64 (by omega) (by omega),wrap_i64 (by omega) (by omega),wrap_i64 (by omega) (by omega),wrap_i64 (by omega) (by omega),rfl⟩
noncomputable def K9:List (Nat×Spec):=[(63,S91),(98,S92)]
theorem PV:∀ f s,tbl K9 f=some s->ak Tryd.prog f s:=tc XG<|tc XF<|tn
attribute [go_sem] K9
noncomputable def P60:PSpec:=p2 iX iI (fun s n=>eQ s/\bZ n) (fun s n=>vInt (dK s n)) true
noncomputable def S60:Spec:=P60.toSpec
attribute [go_sem] P60 S60
set_option maxHeartbeats 4000000 in
theorem Tz:aR Tryd.prog 38 P60:=by
 refine w2 (rs:=[.tmp 4]) Tryd.func38 Tryd.ntmps38 (by rfl) (by kernel_rfl) (by decide) (fun _ _ _=>rfl) ⟨_,rfl,lb rfl,fun s n hp hw=>?_⟩
 have hP:=be
 simp only[iI,iX]at hw |-
 have hΓ:=PV
 obtain⟨hs,hn⟩:=hp
 have ht:=HC hs
 have hl:(dq s).size<=maxLen:=by unfold maxLen;omega
 repeat refine sq ?_
 refine rs hΓ [1,2] [[2,0]] ?_
 refine aL (cG [2,0] (aC s) rfl [1,2] [[2,0]] ?_ rfl) ?_
 ·simp only[go_sem]
 simp only[go_sem]
 repeat refine sq ?_
 refine rs hΓ [2,5] [[2,0]] ?_
 repeat refine sq ?_
 refine rs hΓ [5,12,13,14] [] ?_
 repeat refine sq ?_
 refine aN ?_
 repeat refine sq ?_
 refine cN (fun z:Nat=>[(14,⟨true,.v (vInt z)⟩),(5,⟨true,.v (vInt (iD (dq s) n z))⟩)]) (fun z=>[]) (fun z=>z<=(dq s).size) (fun z=>(dq s).size-z) 0 ?_ ?_ ?_ ?_
 ·exact Nat.zero_le _
 ·rfl
 ·rfl
 rintro i hi
 simp only[go_sem]
 repeat refine sq ?_
 refine rs hΓ [5,12,13,14,15] [] ?_
 repeat refine sq ?_
 refine au rfl rfl (fun hb=>?_) (fun hb=>?_)
 ·have ae:i<(dq s).size:=by simpa using hb
  have ai:(i:Int)<(dq s).size:=by omega
  clear hb
  obtain⟨d1,d2,d3,d4,d5,d6⟩:=HK (b:=dq s) hn i
  have hb:=bytes_at ae
  repeat refine sq ?_
  refine ax ?_
  repeat refine sq ?_
  refine aN ?_
  repeat refine sq ?_
  refine rx hΓ [5,7,12,13,14] [] (fun K' hK=>by simp only[go_sem,Int.toNat_natCast,Int.natCast_nonneg,ai,hb,Int.toNat_natCast,Int.natCast_nonneg,ai];(repeat (refine⟨ob,?_⟩));exact hK _ (by simp only[go_sem]) (by simp only[go_sem]<;>rfl)) ?_
  repeat refine sq ?_
  refine aP hΓ fun K' hK=>?_
  simp only[go_sem,Int.toNat_natCast,Int.natCast_nonneg,ai,d1,d2,d3,d4,d5,d6]
  repeat (refine⟨ob,?_⟩)
  refine hK _ ?_
  clear K' hK
  simp only[go_sem]
  refine kp [5,12,13,14] [] ?_
  repeat refine sq ?_
  refine aP hΓ fun K' hK=>?_
  simp only[go_sem,Int.toNat_natCast,Int.natCast_nonneg,ai]
  repeat (refine⟨ob,?_⟩)
  refine hK _ ?_
  clear K' hK
  simp only[go_sem]
  refine⟨i+1,ae,by(show (dq s).size-(i+1)<(dq s).size-i;omega),?_⟩
  refine bk [5,12,13,14] [] ?_ ?_
  ·simp only[go_sem,aF ae hl,Int.natCast_add,Int.natCast_one]
  ·simp only[go_sem,aF ae hl,Int.natCast_add,Int.natCast_one]
 ·have bb:i=(dq s).size:=by
   have :¬ (i:Int)<(dq s).size:=by simpa using hb
   omega
  clear hb
  subst bb
  repeat refine sq ?_
  refine cr ?_
  simp only[go_sem]
  refine kp [5] [] ?_
  repeat refine sq ?_
  refine rs hΓ [4] [] ?_
  refine ar ?_
  simp only[go_sem]
  first | rfl
theorem zw:ak Tryd.prog 38 S60:=Tz.sound
noncomputable def P63:PSpec:=p2 iX iI (fun s n=>eQ s/\bZ n) (fun s n=>vInt (dK s n)) true
noncomputable def S63:Spec:=P63.toSpec
attribute [go_sem] P63 S63
set_option maxHeartbeats 4000000 in
theorem Ty:aR Tryd.prog 94 P63:=by
 refine w2 (rs:=[.tmp 4]) Tryd.func94 Tryd.ntmps94 (by rfl) (by kernel_rfl) (by decide) (fun _ _ _=>rfl) ⟨_,rfl,lb rfl,fun s n hp hw=>?_⟩
 have hP:=be
 simp only[iI,iX]at hw |-
 have hΓ:=PV
 obtain⟨hs,hn⟩:=hp
 have ht:=HC hs
 have hl:(dq s).size<=maxLen:=by unfold maxLen;omega
 repeat refine sq ?_
 refine rs hΓ [1,2] [[2,0]] ?_
 refine aL (cG [2,0] (aC s) rfl [1,2] [[2,0]] ?_ rfl) ?_
 ·simp only[go_sem]
 simp only[go_sem]
 repeat refine sq ?_
 refine rs hΓ [1,5] [] ?_
 repeat refine sq ?_
 refine rs hΓ [5,6] [] ?_
 repeat refine sq ?_
 refine rs hΓ [5,6,7] [] ?_
 repeat refine sq ?_
 refine aN ?_
 repeat refine sq ?_
 refine cN (fun z:Nat=>[(7,⟨true,.v (vInt z)⟩),(6,⟨true,.v (vInt (iD (dq s) n z))⟩)]) (fun z=>[]) (fun z=>z<=(dq s).size) (fun z=>(dq s).size-z) 0 ?_ ?_ ?_ ?_
 ·exact Nat.zero_le _
 ·rfl
 ·rfl
 rintro i hi
 simp only[go_sem]
 repeat refine sq ?_
 refine rs hΓ [5,6,7,15] [] ?_
 repeat refine sq ?_
 refine au rfl rfl (fun hb=>?_) (fun hb=>?_)
 ·have ae:i<(dq s).size:=by simpa using hb
  have ai:(i:Int)<(dq s).size:=by omega
  clear hb
  obtain⟨d1,d2,d3,d4,d5,d6⟩:=HK (b:=dq s) hn i
  have hb:((dq s).data.getD i 0).toNat=lC (dq s) i:=rfl
  repeat refine sq ?_
  refine ax ?_
  repeat refine sq ?_
  refine aN ?_
  repeat refine sq ?_
  refine aP hΓ fun K' hK=>?_
  simp only[go_sem,Int.toNat_natCast,Int.natCast_nonneg,ai,hb,Int.toNat_natCast,Int.natCast_nonneg,ai,d1,d2,d3,d4,d5,d6]
  repeat (refine⟨ob,?_⟩)
  refine hK _ ?_
  clear K' hK
  simp only[go_sem]
  refine kp [5,6,7] [] ?_
  repeat refine sq ?_
  refine aP hΓ fun K' hK=>?_
  simp only[go_sem,Int.toNat_natCast,Int.natCast_nonneg,ai]
  repeat (refine⟨ob,?_⟩)
  refine hK _ ?_
  clear K' hK
  simp only[go_sem]
  refine⟨i+1,ae,by(show (dq s).size-(i+1)<(dq s).size-i;omega),?_⟩
  refine bk [5,6,7] [] ?_ ?_
  ·simp only[go_sem,aF ae hl,Int.natCast_add,Int.natCast_one]
  ·simp only[go_sem,aF ae hl,Int.natCast_add,Int.natCast_one]
 ·have bb:i=(dq s).size:=by
   have :¬ (i:Int)<(dq s).size:=by simpa using hb
   omega
  clear hb
  subst bb
  repeat refine sq ?_
  refine cr ?_
  simp only[go_sem]
  refine kp [6] [] ?_
  repeat refine sq ?_
  refine rs hΓ [4] [] ?_
  refine ar ?_
  simp only[go_sem]
  first | rfl
theorem Dm:ak Tryd.prog 94 S63:=Ty.sound
def smE(s:Stk)(n:Int):Int:=if oA s=true then(if aO n 0 99999=true then 0 else 1)else 90
def smV(s:Stk)(n:Int):Int:=if oA s=true then(if aO n 0 99999=true then dK s n else 0)else 0
def aG(me:Int)(p:Pg):Bool:=aO p.co 0 99999&&cz me p.st&&(p.su==dK p.st p.co)
def yO(me:Int)(p:Pg):Int:=if aG me p=true then 0 else 91
theorem yu{me:Int}{s:Stk}(h:cz me s=true):eW me s=0:=if_pos h
theorem yv{me:Int}{s:Stk}(h:cz me s=false):eW me s=90:=if_neg (by rw[h];decide)
theorem rK{me:Int}{p:Pg}(h:aG me p=true):yO me p=0:=if_pos h
theorem hU{me:Int}{p:Pg}(h:aG me p=false):yO me p=91:=if_neg (by rw[h];decide)
theorem IW{me:Int}{p:Pg}:(yO me p==0)=aG me p:=by
 cases h:aG me p
 ·rw[hU h];rfl
 ·rw[rK h];rfl
theorem oJ{me:Int}{p:Pg}(h:aO p.co 0 99999=false):aG me p=false:=by unfold aG;rw[h];rfl
theorem oI{me:Int}{p:Pg}(h:cz me p.st=false):aG me p=false:=by unfold aG;rw[h,Bool.and_false];rfl
theorem jM{me:Int}{p:Pg}(h:aO p.co 0 99999=true)(hk:cz me p.st=true):aG me p=(p.su==dK p.st p.co):=by unfold aG;rw[h,hk];rfl
noncomputable def QY:List (Nat×Spec):=[(62,S78),(71,S79),(38,S60),(92,S81),(94,S63),(78,S89),(84,S43)]
theorem QX:∀ f s,tbl QY f=some s->ak Tryd.prog f s:=tc XH<|tc Dj<|tc zw<|tc Di<|tc Dm<|tc Dg<|tc Dr<|tn
attribute [go_sem] QY
noncomputable def P90:PSpec:=p2 iI r9 (fun _ _=>True) (fun me p=>.bool (aG me p)) true
noncomputable def S90:Spec:=P90.toSpec
attribute [go_sem] P90 S90
set_option maxHeartbeats 4000000 in
theorem Tg:aR Tryd.prog 69 P90:=by
 refine w2 (rs:=[.tmp 4]) Tryd.func69 Tryd.ntmps69 (by rfl) (by kernel_rfl) (by decide) (fun _ _ _=>rfl) ⟨_,rfl,lb rfl,fun me p hp hw=>?_⟩
 have hP:=be
 simp only[iI,r9]at hw |-
 have hΓ:=QX
 repeat refine sq ?_
 refine rs hΓ [0,3] [[3,0]] ?_
 refine aL (cG [3,0] (cH p) rfl [0,3] [[3,0]] ?_ rfl) ?_
 ·simp only[go_sem]
 simp only[go_sem]
 rcases hc:aO p.co 0 99999 with _ | _;rotate_left;rcases hk:cz me p.st with _ | _;rotate_left 2
 ·repeat refine sq ?_
  refine dx hΓ hP [[],[0],[0,1],[0,1,2],[0,1,2,3],[0,1,2,3],[0,1,2,3,5],[0,1,2,3,4,5,6],[0,1,2,3,4,5,6,7],[0,1,2,3,4,5,6,7,8],[0,1,2,3,4,5,6,7,8,9],[0,1,2,3,4,5,6,7,8,9,10],[0,1,2,3,4,5,6,7,8,9],[0,1,2,3,4,5,6,7,8,9,12],[0,1,2,3,4,5,6,7,8,9],[0,1,2,3,4,5,6,7,8,9,14],[0,1,2,3,4,5,6,7,8,9,12,13,14,15],[0,1,2,3,4,5,6,7,8,9,10,11,12,13,14,15,16],[0,1,2,3,4,5,6,7,8,9,10,11,12,13,14,15,16,17],[0,1,2,3,4,5,6,7,8,9,10,11,12,13,14,15,16,17,18]] [4] [] (by kernel_rfl) (fun K' hK=>by simp only[go_sem,hc];(repeat (refine⟨by first | exact po | exact ob,?_⟩));(first | refine⟨by rfl,?_⟩ | skip);exact hK _ (by simp only[go_sem]) (by simp only[go_sem]<;>rfl)) ?_
  refine ar ?_
  simp only[go_sem]
  first | (rw[oJ hc];done) | (rw[oI hk];done) | (rw[jM hc hk];done) | (simp[aG,hc,hk];done)
 ·repeat refine sq ?_
  refine dx hΓ hP [[],[0],[0,1],[0,1,2],[0,1,2,3],[0,1,2,3],[0,1,2,3,5],[0,1,2,3,4,5,6],[0,1,2,3,4,5,6,7],[0,1,2,3,4,5,6,7,8],[0,1,2,3,4,5,6,7,8,9],[0,1,2,3,4,5,6,7,8,9,10],[0,1,2,3,4,5,6,7,8,9],[0,1,2,3,4,5,6,7,8,9,12],[0,1,2,3,4,5,6,7,8,9],[0,1,2,3,4,5,6,7,8,9,14],[0,1,2,3,4,5,6,7,8,9,12,13,14,15],[0,1,2,3,4,5,6,7,8,9,10,11,12,13,14,15,16],[0,1,2,3,4,5,6,7,8,9,10,11,12,13,14,15,16,17],[0,1,2,3,4,5,6,7,8,9,10,11,12,13,14,15,16,17,18]] [4] [] (by kernel_rfl) (fun K' hK=>by simp only[go_sem,hc,hk];(repeat (refine⟨by first | exact po | exact ob,?_⟩));(first | refine⟨by rfl,?_⟩ | skip);exact hK _ (by simp only[go_sem]) (by simp only[go_sem]<;>rfl)) ?_
  refine ar ?_
  simp only[go_sem]
  first | (rw[oJ hc];done) | (rw[oI hk];done) | (rw[jM hc hk];done) | (simp[aG,hc,hk];done)
 ·have po:eQ p.st/\bZ p.co:=⟨uw hk,r8 hc (by omega) (by omega)⟩
  repeat refine sq ?_
  refine dx hΓ hP [[],[0],[0,1],[0,1,2],[0,1,2,3],[0,1,2,3],[0,1,2,3,5],[0,1,2,3,4,5,6],[0,1,2,3,4,5,6,7],[0,1,2,3,4,5,6,7,8],[0,1,2,3,4,5,6,7,8,9],[0,1,2,3,4,5,6,7,8,9,10],[0,1,2,3,4,5,6,7,8,9],[0,1,2,3,4,5,6,7,8,9,12],[0,1,2,3,4,5,6,7,8,9],[0,1,2,3,4,5,6,7,8,9,14],[0,1,2,3,4,5,6,7,8,9,12,13,14,15],[0,1,2,3,4,5,6,7,8,9,10,11,12,13,14,15,16],[0,1,2,3,4,5,6,7,8,9,10,11,12,13,14,15,16,17],[0,1,2,3,4,5,6,7,8,9,10,11,12,13,14,15,16,17,18]] [4] [] (by kernel_rfl) (fun K' hK=>by simp only[go_sem,hc,hk];(repeat (refine⟨by first | exact po | exact ob,?_⟩));(first | refine⟨by rfl,?_⟩ | skip);exact hK _ (by simp only[go_sem]) (by simp only[go_sem]<;>rfl)) ?_
  refine ar ?_
  simp only[go_sem]
  first | (rw[oJ hc];done) | (rw[oI hk];done) | (rw[jM hc hk];done) | (simp[aG,hc,hk];done)
theorem Df:ak Tryd.prog 69 S90:=Tg.sound
noncomputable def QW:List (Nat×Spec):=[(69,S90)]
theorem aj':∀ f s,tbl QW f=some s->ak Tryd.prog f s:=tc Df<|tn
attribute [go_sem] QW
noncomputable def P45:PSpec:=p2 iI r9 (fun _ _=>True) (fun me p=>vInt (yO me p)) true
noncomputable def S45:Spec:=P45.toSpec
attribute [go_sem] P45 S45
set_option maxHeartbeats 4000000 in
theorem TM:aR Tryd.prog 85 P45:=by
 refine w2 (rs:=[.tmp 4]) Tryd.func85 Tryd.ntmps85 (by rfl) (by kernel_rfl) (by decide) (fun _ _ _=>rfl) ⟨_,rfl,lb rfl,fun me p hp hw=>?_⟩
 have hP:=be
 simp only[iI,r9]at hw |-
 have hΓ:=QX
 repeat refine sq ?_
 refine rs hΓ [0,3] [[3,0]] ?_
 refine aL (cG [3,0] (cH p) rfl [0,3] [[3,0]] ?_ rfl) ?_
 ·simp only[go_sem]
 simp only[go_sem]
 rcases hc:aO p.co 0 99999 with _ | _;rotate_left;rcases hk:cz me p.st with _ | _;rotate_left 2
 ·repeat refine sq ?_
  refine dx hΓ hP [[],[0],[0,1],[0,1,2],[0,1,2,3],[0,1,2,3,4],[0,1,2,3,4],[0,1,2,3,4,6],[0,1,2,3,4,5,6,7],[0,1,2,3,4,5,6,7,8],[0,1,2,3,4,5,6,7,8,9],[0,1,2,3,4,5,6,7,8,9,10],[0,1,2,3,4,5,6,7,8,9,10,11],[0,1,2,3,4,5,6,7,8,9,10,11,12],[0,1,2,3,4,5,6,7,8,9,10,11],[0,1,2,3,4,5,6,7,8,9,10,11,14],[0,1,2,3,4,5,6,7,8,9,10,11],[0,1,2,3,4,5,6,7,8,9,10,11,16],[0,1,2,3,4,5,6,7,8,9,10,11,14,15,16,17],[0,1,2,3,4,5,6,7,8,9,10,11,12,13,14,15,16,17,18],[0,1,2,3,4,5,6,7,8,9,10,11,12,13,14,15,16,17,18,19]] [25] [] (by kernel_rfl) (fun K' hK=>by simp only[go_sem,hc];(repeat (refine⟨by first | exact po | exact ob,?_⟩));(first | refine⟨by rfl,?_⟩ | skip);exact hK _ (by simp only[go_sem]) (by simp only[go_sem]<;>rfl)) ?_
  repeat refine sq ?_
  refine au rfl rfl (fun hb=>?_) (fun hb=>?_)
  ·repeat refine sq ?_
   refine rx hΓ [4] [] (fun K' hK=>by simp only[go_sem,hc];(repeat (refine⟨ob,?_⟩));exact hK _ (by simp only[go_sem]) (by simp only[go_sem]<;>rfl)) ?_
   refine ar ?_
   simp only[go_sem]
   first | (exact absurd hb (by decide)) | (simp at hb;done) | (rw[hU (oJ hc)];done) | (rw[hU (oI hk)];done) | (rw[hU (by rw[jM hc hk];simpa using hb)];done) | (rw[rK (by rw[jM hc hk];simpa using hb)];done)
  ·repeat refine sq ?_
   refine ax ?_
   repeat refine sq ?_
   refine rx hΓ [4] [] (fun K' hK=>by simp only[go_sem,hc];(repeat (refine⟨ob,?_⟩));exact hK _ (by simp only[go_sem]) (by simp only[go_sem]<;>rfl)) ?_
   refine ar ?_
   simp only[go_sem]
   first | (exact absurd hb (by decide)) | (simp at hb;done) | (rw[hU (oJ hc)];done) | (rw[hU (oI hk)];done) | (rw[hU (by rw[jM hc hk];simpa using hb)];done) | (rw[rK (by rw[jM hc hk];simpa using hb)];done)
 ·repeat refine sq ?_
  refine dx hΓ hP [[],[0],[0,1],[0,1,2],[0,1,2,3],[0,1,2,3,4],[0,1,2,3,4],[0,1,2,3,4,6],[0,1,2,3,4,5,6,7],[0,1,2,3,4,5,6,7,8],[0,1,2,3,4,5,6,7,8,9],[0,1,2,3,4,5,6,7,8,9,10],[0,1,2,3,4,5,6,7,8,9,10,11],[0,1,2,3,4,5,6,7,8,9,10,11,12],[0,1,2,3,4,5,6,7,8,9,10,11],[0,1,2,3,4,5,6,7,8,9,10,11,14],[0,1,2,3,4,5,6,7,8,9,10,11],[0,1,2,3,4,5,6,7,8,9,10,11,16],[0,1,2,3,4,5,6,7,8,9,10,11,14,15,16,17],[0,1,2,3,4,5,6,7,8,9,10,11,12,13,14,15,16,17,18],[0,1,2,3,4,5,6,7,8,9,10,11,12,13,14,15,16,17,18,19]] [25] [] (by kernel_rfl) (fun K' hK=>by simp only[go_sem,hc,yv hk];(repeat (refine⟨by first | exact po | exact ob,?_⟩));(first | refine⟨by rfl,?_⟩ | skip);exact hK _ (by simp only[go_sem]) (by simp only[go_sem]<;>rfl)) ?_
  repeat refine sq ?_
  refine au rfl rfl (fun hb=>?_) (fun hb=>?_)
  ·repeat refine sq ?_
   refine rx hΓ [4] [] (fun K' hK=>by simp only[go_sem,hc,yv hk];(repeat (refine⟨ob,?_⟩));exact hK _ (by simp only[go_sem]) (by simp only[go_sem]<;>rfl)) ?_
   refine ar ?_
   simp only[go_sem]
   first | (exact absurd hb (by decide)) | (simp at hb;done) | (rw[hU (oJ hc)];done) | (rw[hU (oI hk)];done) | (rw[hU (by rw[jM hc hk];simpa using hb)];done) | (rw[rK (by rw[jM hc hk];simpa using hb)];done)
  ·repeat refine sq ?_
   refine ax ?_
   repeat refine sq ?_
   refine rx hΓ [4] [] (fun K' hK=>by simp only[go_sem,hc,yv hk];(repeat (refine⟨ob,?_⟩));exact hK _ (by simp only[go_sem]) (by simp only[go_sem]<;>rfl)) ?_
   refine ar ?_
   simp only[go_sem]
   first | (exact absurd hb (by decide)) | (simp at hb;done) | (rw[hU (oJ hc)];done) | (rw[hU (oI hk)];done) | (rw[hU (by rw[jM hc hk];simpa using hb)];done) | (rw[rK (by rw[jM hc hk];simpa using hb)];done)
 ·have po:eQ p.st/\bZ p.co:=⟨uw hk,r8 hc (by omega) (by omega)⟩
  repeat refine sq ?_
  refine dx hΓ hP [[],[0],[0,1],[0,1,2],[0,1,2,3],[0,1,2,3,4],[0,1,2,3,4],[0,1,2,3,4,6],[0,1,2,3,4,5,6,7],[0,1,2,3,4,5,6,7,8],[0,1,2,3,4,5,6,7,8,9],[0,1,2,3,4,5,6,7,8,9,10],[0,1,2,3,4,5,6,7,8,9,10,11],[0,1,2,3,4,5,6,7,8,9,10,11,12],[0,1,2,3,4,5,6,7,8,9,10,11],[0,1,2,3,4,5,6,7,8,9,10,11,14],[0,1,2,3,4,5,6,7,8,9,10,11],[0,1,2,3,4,5,6,7,8,9,10,11,16],[0,1,2,3,4,5,6,7,8,9,10,11,14,15,16,17],[0,1,2,3,4,5,6,7,8,9,10,11,12,13,14,15,16,17,18],[0,1,2,3,4,5,6,7,8,9,10,11,12,13,14,15,16,17,18,19]] [25] [] (by kernel_rfl) (fun K' hK=>by simp only[go_sem,hc,yu hk];(repeat (refine⟨by first | exact po | exact ob,?_⟩));(first | refine⟨by rfl,?_⟩ | skip);exact hK _ (by simp only[go_sem]) (by simp only[go_sem]<;>rfl)) ?_
  repeat refine sq ?_
  refine au rfl rfl (fun hb=>?_) (fun hb=>?_)
  ·repeat refine sq ?_
   refine rx hΓ [4] [] (fun K' hK=>by simp only[go_sem,hc,yu hk];(repeat (refine⟨ob,?_⟩));exact hK _ (by simp only[go_sem]) (by simp only[go_sem]<;>rfl)) ?_
   refine ar ?_
   simp only[go_sem]
   first | (exact absurd hb (by decide)) | (simp at hb;done) | (rw[hU (oJ hc)];done) | (rw[hU (oI hk)];done) | (rw[hU (by rw[jM hc hk];simpa using hb)];done) | (rw[rK (by rw[jM hc hk];simpa using hb)];done)
  ·repeat refine sq ?_
   refine ax ?_
   repeat refine sq ?_
   refine rx hΓ [4] [] (fun K' hK=>by simp only[go_sem,hc,yu hk];(repeat (refine⟨ob,?_⟩));exact hK _ (by simp only[go_sem]) (by simp only[go_sem]<;>rfl)) ?_
   refine ar ?_
   simp only[go_sem]
   first | (exact absurd hb (by decide)) | (simp at hb;done) | (rw[hU (oJ hc)];done) | (rw[hU (oI hk)];done) | (rw[hU (by rw[jM hc hk];simpa using hb)];done) | (rw[rK (by rw[jM hc hk];simpa using hb)];done)
theorem LC:ak Tryd.prog 85 S45:=TM.sound
def lJ(d:Dk):Bool:=if d.wet<0 then(aG d.me d.pa||aG d.me d.pb)&&!((aG d.me d.pa&&aG d.me d.pb)&&(d.pa.co==d.pb.co))
 else(aG d.me d.pa&&aG d.me d.pb)&&decide ((d.pg d.wet.toNat).co>(d.pg (1-d.wet).toNat).co)
def iJ(d:Dk):Bool:=cz d.me d.now&&aO d.wet (-1) 1
def ay(d:Dk):Bool:=iJ d&&lJ d
def j7(d:Dk):Int:=if ay d=true then 0 else 92
theorem eT{d:Dk}(h:ay d=true):j7 d=0:=if_pos h
theorem kP{d:Dk}(h:ay d=false):j7 d=92:=if_neg (by rw[h];decide)
@[go_sem] theorem aii(d:Dk):(an d).getD 20 default=vInt d.pa.co:=rfl
@[go_sem] theorem aih(d:Dk):(an d).getD 41 default=vInt d.pb.co:=rfl
theorem pN:IntKind.i64.wrap 0=0:=by decide
theorem pM:IntKind.i64.wrap 1=1:=by decide
theorem nv{d:Dk}(h:d.wet<0):lJ d=((aG d.me d.pa||aG d.me d.pb)&&!((aG d.me d.pa&&aG d.me d.pb)&&(d.pa.co==d.pb.co))):=by
 unfold lJ;rw[if_pos h]
theorem pQ{d:Dk}(h:d.wet=0):lJ d=((aG d.me d.pa&&aG d.me d.pb)&&decide (d.pa.co>d.pb.co)):=by
 unfold lJ;rw[if_neg (by omega),h];rfl
theorem pP{d:Dk}(h:d.wet=1):lJ d=((aG d.me d.pa&&aG d.me d.pb)&&decide (d.pb.co>d.pa.co)):=by
 unfold lJ;rw[if_neg (by omega),h];rfl
theorem Ao(d:Dk):(!cz d.me d.now||!aO d.wet (-1) 1)=!iJ d:=by
 unfold iJ
 cases cz d.me d.now<;>cases aO d.wet (-1) 1<;>rfl
theorem Sc{me:Int}{s:Stk}:(eW me s != 0)=!cz me s:=by
 cases h:cz me s
 ·rw[yv h];rfl
 ·rw[yu h];rfl
noncomputable def QV:List (Nat×Spec):=[(78,S89),(65,S98),(69,S90)]
theorem adS:∀ f s,tbl QV f=some s->ak Tryd.prog f s:=tc Dg<|tc De<|tc Df<|tn
attribute [go_sem] QV
noncomputable def P74:PSpec:=p1 dE (fun _=>True) (fun d=>.bool (ay d)) true
noncomputable def S74:Spec:=P74.toSpec
attribute [go_sem] P74 S74
set_option maxHeartbeats 4000000 in
theorem Tt:aR Tryd.prog 66 P74:=by
 refine w1 (rs:=[.tmp 2]) Tryd.func66 Tryd.ntmps66 (by rfl) (by kernel_rfl) (by decide) (fun _ _=>rfl) ⟨_,rfl,lb rfl,fun d hp hw=>?_⟩
 have hP:=be
 simp only[dE]at hw |-
 have hΓ:=adS
 repeat refine sq ?_
 refine rs hΓ [1] [[1,0]] ?_
 refine aL (cG [1,0] (an d) rfl [1] [[1,0]] ?_ rfl) ?_
 ·simp only[go_sem]
 simp only[go_sem]
 repeat refine sq ?_
 refine rs hΓ [1,16] [[1,0]] ?_
 repeat refine sq ?_
 refine au rfl rfl (fun hb=>?_) (fun hb=>?_)
 ·repeat refine sq ?_
  have bA:iJ d=false:=by have:=Ao d;rw[hb]at this;simpa using this.symm
  repeat refine sq ?_
  refine rs hΓ [2] [] ?_
  refine ar ?_
  simp only[go_sem]
  first | (simp[ay,bA];done) | (unfold ay;rw[bz,nv o7];simp) | (unfold ay;rw[bz,pQ eY];simp) | (unfold ay;rw[bz,pP eY];simp)
 ·repeat refine sq ?_
  have bz:iJ d=true:=by have:=Ao d;rw[hb]at this;simpa using this.symm
  have hi:aO d.wet (-1) 1=true:=by unfold iJ at bz;rw[Bool.and_eq_true]at bz;exact bz.2
  refine ax ?_
  repeat refine sq ?_
  refine dx hΓ hP [[],[0],[],[2],[2,3],[0,1,2,3,4],[],[6],[],[8],[8,9],[0,1,2,3,4,5,6,7,8,9,10],[0,1,2,3,4,5,6,7,8,9,10,11],[0,1,2,3,4,5,6,7,8,9,10,11,12]] [1,3,4] [[1,0]] (by kernel_rfl) (fun K' hK=>by simp only[go_sem,Int.cast_ofNat_Int,Int.reduceToNat,Int.toNat_one,Int.toNat_zero,Nat.reduceMul,Nat.reduceAdd,Nat.zero_mul,Nat.one_mul,Nat.add_zero];(repeat (refine⟨ob,?_⟩));(first | refine⟨by rfl,?_⟩ | skip);exact hK _ (by simp only[go_sem]) (by simp only[go_sem]<;>rfl)) ?_
  repeat refine sq ?_
  refine rs hΓ [1,3,4,31] [[1,0]] ?_
  repeat refine sq ?_
  refine au rfl rfl (fun hb=>?_) (fun hb=>?_)
  ·repeat refine sq ?_
   have o7:d.wet<0:=by simpa using hb
   repeat refine sq ?_
   refine rx hΓ [2] [] (fun K' hK=>by simp only[go_sem,Int.cast_ofNat_Int,Int.reduceToNat,Int.toNat_one,Int.toNat_zero,Nat.reduceMul,Nat.reduceAdd,Nat.zero_mul,Nat.one_mul,Nat.add_zero];(repeat (refine⟨ob,?_⟩));exact hK _ (by simp only[go_sem]) (by simp only[go_sem]<;>rfl)) ?_
   refine ar ?_
   simp only[go_sem]
   first | (simp[ay,bA];done) | (unfold ay;rw[bz,nv o7];simp) | (unfold ay;rw[bz,pQ eY];simp) | (unfold ay;rw[bz,pP eY];simp)
  ·repeat refine sq ?_
   have bb:¬ d.wet<0:=by simpa using hb
   have ie:d.wet=0\/d.wet=1:=by have:=cp.1 hi;omega
   refine ax ?_
   rcases ie with eY | eY
   ·repeat refine sq ?_
    refine dx hΓ hP [[],[0],[0,1],[0,1,2],[0,1,2,3],[0,1,2,3,4],[0,1,2,3,4,5],[0,1,2,3,4],[0,1,2,3,4,5,6,7],[0,1,2,3,4,5,6,7,8],[0,1,2,3,4,5,6,7,8,9],[0,1,2,3,4],[0,1,2,3,4,11],[0,1,2,3,4,11,12],[0,1,2,3,4],[0,1,2,3,4,11,12,13,14],[0,1,2,3,4,11,12,13,14,15],[0,1,2,3,4,11,12,13,14,15,16],[0,1,2,3,4,5,6,7,8,9,10,11,12,13,14,15,16,17],[0,1,2,3,4,5,6,7,8,9,10,11,12,13,14,15,16,17,18],[0,1,2,3,4,5,6,7,8,9,10,11,12,13,14,15,16,17,18,19]] [2] [] (by kernel_rfl) (fun K' hK=>by simp only[go_sem,eY,pN,pM,Int.sub_self,Int.sub_zero,Int.cast_ofNat_Int,Int.reduceToNat,Int.toNat_one,Int.toNat_zero,Nat.reduceMul,Nat.reduceAdd,Nat.zero_mul,Nat.one_mul,Nat.add_zero];(repeat (refine⟨ob,?_⟩));(first | refine⟨by rfl,?_⟩ | skip);exact hK _ (by simp only[go_sem]) (by simp only[go_sem]<;>rfl)) ?_
    refine ar ?_
    simp only[go_sem]
    first | (simp[ay,bA];done) | (unfold ay;rw[bz,nv o7];simp) | (unfold ay;rw[bz,pQ eY];simp) | (unfold ay;rw[bz,pP eY];simp)
   ·repeat refine sq ?_
    refine dx hΓ hP [[],[0],[0,1],[0,1,2],[0,1,2,3],[0,1,2,3,4],[0,1,2,3,4,5],[0,1,2,3,4],[0,1,2,3,4,5,6,7],[0,1,2,3,4,5,6,7,8],[0,1,2,3,4,5,6,7,8,9],[0,1,2,3,4],[0,1,2,3,4,11],[0,1,2,3,4,11,12],[0,1,2,3,4],[0,1,2,3,4,11,12,13,14],[0,1,2,3,4,11,12,13,14,15],[0,1,2,3,4,11,12,13,14,15,16],[0,1,2,3,4,5,6,7,8,9,10,11,12,13,14,15,16,17],[0,1,2,3,4,5,6,7,8,9,10,11,12,13,14,15,16,17,18],[0,1,2,3,4,5,6,7,8,9,10,11,12,13,14,15,16,17,18,19]] [2] [] (by kernel_rfl) (fun K' hK=>by simp only[go_sem,eY,pN,pM,Int.sub_self,Int.sub_zero,Int.cast_ofNat_Int,Int.reduceToNat,Int.toNat_one,Int.toNat_zero,Nat.reduceMul,Nat.reduceAdd,Nat.zero_mul,Nat.one_mul,Nat.add_zero];(repeat (refine⟨ob,?_⟩));(first | refine⟨by rfl,?_⟩ | skip);exact hK _ (by simp only[go_sem]) (by simp only[go_sem]<;>rfl)) ?_
    refine ar ?_
    simp only[go_sem]
    first | (simp[ay,bA];done) | (unfold ay;rw[bz,nv o7];simp) | (unfold ay;rw[bz,pQ eY];simp) | (unfold ay;rw[bz,pP eY];simp)
theorem Lu:ak Tryd.prog 66 S74:=Tt.sound
noncomputable def QU:List (Nat×Spec):=[(66,S74)]
theorem adR:∀ f s,tbl QU f=some s->ak Tryd.prog f s:=tc Lu<|tn
attribute [go_sem] QU
noncomputable def P23:PSpec:=p1 dE (fun _=>True) (fun d=>vInt (j7 d)) true
noncomputable def S23:Spec:=P23.toSpec
attribute [go_sem] P23 S23
theorem TV:aR Tryd.prog 39 P23:=by
 refine w1 (rs:=[.tmp 2]) Tryd.func39 Tryd.ntmps39 (by rfl) (by kernel_rfl) (by decide) (fun _ _=>rfl) ⟨_,rfl,lb rfl,fun d hp hw=>?_⟩
 have hP:=be
 simp only[dE]at hw |-
 have hΓ:=adR
 repeat refine sq ?_
 refine rs hΓ [1] [[1,0]] ?_
 refine aL (cG [1,0] (an d) rfl [1] [[1,0]] ?_ rfl) ?_
 ·simp only[go_sem]
 simp only[go_sem]
 repeat refine sq ?_
 refine rs hΓ [5] [] ?_
 repeat refine sq ?_
 refine au rfl rfl (fun hb=>?_) (fun hb=>?_)
 ·repeat refine sq ?_
  refine rs hΓ [2] [] ?_
  refine ar ?_
  simp only[go_sem]
  first | (rw[kP (by simpa using hb)];done) | (rw[eT (by simpa using hb)];done)
 ·repeat refine sq ?_
  refine ax ?_
  repeat refine sq ?_
  refine rs hΓ [2] [] ?_
  refine ar ?_
  simp only[go_sem]
  first | (rw[kP (by simpa using hb)];done) | (rw[eT (by simpa using hb)];done)
theorem oX:ak Tryd.prog 39 S23:=TV.sound
noncomputable def QT:List (Nat×Spec):=[(84,S43),(83,S86),(85,S45)]
theorem adQ:∀ f s,tbl QT f=some s->ak Tryd.prog f s:=tc Dr<|tc Dh<|tc LC<|tn
attribute [go_sem] QT
noncomputable def P39:PSpec:=p1 dE (fun _=>True) (fun d=>vInt (j7 d)) true
noncomputable def S39:Spec:=P39.toSpec
attribute [go_sem] P39 S39
set_option maxHeartbeats 4000000 in
theorem TP:aR Tryd.prog 77 P39:=by
 refine w1 (rs:=[.tmp 2]) Tryd.func77 Tryd.ntmps77 (by rfl) (by kernel_rfl) (by decide) (fun _ _=>rfl) ⟨_,rfl,lb rfl,fun d hp hw=>?_⟩
 have hP:=be
 simp only[dE]at hw |-
 have hΓ:=adQ
 repeat refine sq ?_
 refine rs hΓ [1] [[1,0]] ?_
 refine aL (cG [1,0] (an d) rfl [1] [[1,0]] ?_ rfl) ?_
 ·simp only[go_sem]
 simp only[go_sem]
 repeat refine sq ?_
 refine rx hΓ [1,16] [[1,0]] (fun K' hK=>by simp only[go_sem,Sc];(repeat (refine⟨ob,?_⟩));exact hK _ (by simp only[go_sem]) (by simp only[go_sem]<;>rfl)) ?_
 repeat refine sq ?_
 refine au rfl rfl (fun hb=>?_) (fun hb=>?_)
 ·repeat refine sq ?_
  have bA:iJ d=false:=by have:=Ao d;rw[hb]at this;simpa using this.symm
  have eJ:ay d=false:=by unfold ay;rw[bA];rfl
  repeat refine sq ?_
  refine rs hΓ [2] [] ?_
  refine ar ?_
  simp only[go_sem]
  first | (rw[kP eJ];done) | (rw[eT eJ];done)
 ·repeat refine sq ?_
  have bz:iJ d=true:=by have:=Ao d;rw[hb]at this;simpa using this.symm
  have hi:aO d.wet (-1) 1=true:=by unfold iJ at bz;rw[Bool.and_eq_true]at bz;exact bz.2
  refine ax ?_
  repeat refine sq ?_
  refine rx hΓ [1,3] [[1,0]] (fun K' hK=>by simp only[go_sem,IW,Int.cast_ofNat_Int,Int.reduceToNat,Int.toNat_one,Int.toNat_zero,Nat.reduceMul,Nat.reduceAdd,Nat.zero_mul,Nat.one_mul,Nat.add_zero];(repeat (refine⟨ob,?_⟩));exact hK _ (by simp only[go_sem]) (by simp only[go_sem]<;>rfl)) ?_
  repeat refine sq ?_
  refine rx hΓ [1,3,4] [[1,0]] (fun K' hK=>by simp only[go_sem,IW,Int.cast_ofNat_Int,Int.reduceToNat,Int.toNat_one,Int.toNat_zero,Nat.reduceMul,Nat.reduceAdd,Nat.zero_mul,Nat.one_mul,Nat.add_zero];(repeat (refine⟨ob,?_⟩));exact hK _ (by simp only[go_sem]) (by simp only[go_sem]<;>rfl)) ?_
  repeat refine sq ?_
  refine rs hΓ [1,3,4,33] [[1,0]] ?_
  repeat refine sq ?_
  refine au rfl rfl (fun hb=>?_) (fun hb=>?_)
  ·repeat refine sq ?_
   have o7:d.wet<0:=by simpa using hb
   repeat refine sq ?_
   refine rx hΓ [56] [] (fun K' hK=>by simp only[go_sem,Int.cast_ofNat_Int,Int.reduceToNat,Int.toNat_one,Int.toNat_zero,Nat.reduceMul,Nat.reduceAdd,Nat.zero_mul,Nat.one_mul,Nat.add_zero];(repeat (refine⟨ob,?_⟩));exact hK _ (by simp only[go_sem]) (by simp only[go_sem]<;>rfl)) ?_
   repeat refine sq ?_
   refine au rfl rfl (fun hb=>?_) (fun hb=>?_)
   ·repeat refine sq ?_
    have eJ:ay d=false:=by unfold ay;rw[bz,nv o7];revert hb;cases aG d.me d.pa<;>cases aG d.me d.pb<;>simp
    repeat refine sq ?_
    refine rs hΓ [2] [] ?_
    refine ar ?_
    simp only[go_sem]
    first | (rw[kP eJ];done) | (rw[eT eJ];done)
   ·repeat refine sq ?_
    have eJ:ay d=true:=by unfold ay;rw[bz,nv o7];revert hb;cases aG d.me d.pa<;>cases aG d.me d.pb<;>simp
    refine ax ?_
    repeat refine sq ?_
    refine rs hΓ [2] [] ?_
    refine ar ?_
    simp only[go_sem]
    first | (rw[kP eJ];done) | (rw[eT eJ];done)
  ·repeat refine sq ?_
   have bb:¬ d.wet<0:=by simpa using hb
   have ie:d.wet=0\/d.wet=1:=by have:=cp.1 hi;omega
   refine ax ?_
   rcases ie with eY | eY
   ·repeat refine sq ?_
    refine dx hΓ hP [[],[0],[0,1],[0,1,2],[0,1,2,3],[0,1,2,3,4],[0,1,2,3,4,5],[0,1,2,3,4,5,6],[0,1,2,3,4,5,6,7],[0,1,2,3,4,5,6],[0,1,2,3,4,5,6,7,8,9],[0,1,2,3,4,5,6,7,8,9,10],[0,1,2,3,4,5,6,7,8,9,10,11],[0,1,2,3,4,5,6],[0,1,2,3,4,5,6,13],[0,1,2,3,4,5,6,13,14],[0,1,2,3,4,5,6],[0,1,2,3,4,5,6,13,14,15,16],[0,1,2,3,4,5,6,13,14,15,16,17],[0,1,2,3,4,5,6,13,14,15,16,17,18],[0,1,2,3,4,5,6,7,8,9,10,11,12,13,14,15,16,17,18,19],[0,1,2,3,4,5,6,7,8,9,10,11,12,13,14,15,16,17,18,19,20]] [78] [] (by kernel_rfl) (fun K' hK=>by simp only[go_sem,eY,pN,pM,Int.sub_self,Int.sub_zero,Int.cast_ofNat_Int,Int.reduceToNat,Int.toNat_one,Int.toNat_zero,Nat.reduceMul,Nat.reduceAdd,Nat.zero_mul,Nat.one_mul,Nat.add_zero];(repeat (refine⟨ob,?_⟩));(first | refine⟨by rfl,?_⟩ | skip);exact hK _ (by simp only[go_sem]) (by simp only[go_sem]<;>rfl)) ?_
    repeat refine sq ?_
    refine au rfl rfl (fun hb=>?_) (fun hb=>?_)
    ·repeat refine sq ?_
     have eJ:ay d=false:=by unfold ay;rw[bz,pQ eY];revert hb;cases aG d.me d.pa<;>cases aG d.me d.pb<;>simp
     repeat refine sq ?_
     refine rx hΓ [2] [] (fun K' hK=>by simp only[go_sem,eY,pN,pM,Int.sub_self,Int.sub_zero,Int.cast_ofNat_Int,Int.reduceToNat,Int.toNat_one,Int.toNat_zero,Nat.reduceMul,Nat.reduceAdd,Nat.zero_mul,Nat.one_mul,Nat.add_zero];(repeat (refine⟨ob,?_⟩));exact hK _ (by simp only[go_sem]) (by simp only[go_sem]<;>rfl)) ?_
     refine ar ?_
     simp only[go_sem]
     first | (rw[kP eJ];done) | (rw[eT eJ];done)
    ·repeat refine sq ?_
     have eJ:ay d=true:=by unfold ay;rw[bz,pQ eY];revert hb;cases aG d.me d.pa<;>cases aG d.me d.pb<;>simp
     refine ax ?_
     repeat refine sq ?_
     refine rx hΓ [2] [] (fun K' hK=>by simp only[go_sem,eY,pN,pM,Int.sub_self,Int.sub_zero,Int.cast_ofNat_Int,Int.reduceToNat,Int.toNat_one,Int.toNat_zero,Nat.reduceMul,Nat.reduceAdd,Nat.zero_mul,Nat.one_mul,Nat.add_zero];(repeat (refine⟨ob,?_⟩));exact hK _ (by simp only[go_sem]) (by simp only[go_sem]<;>rfl)) ?_
     refine ar ?_
     simp only[go_sem]
     first | (rw[kP eJ];done) | (rw[eT eJ];done)
   ·repeat refine sq ?_
    refine dx hΓ hP [[],[0],[0,1],[0,1,2],[0,1,2,3],[0,1,2,3,4],[0,1,2,3,4,5],[0,1,2,3,4,5,6],[0,1,2,3,4,5,6,7],[0,1,2,3,4,5,6],[0,1,2,3,4,5,6,7,8,9],[0,1,2,3,4,5,6,7,8,9,10],[0,1,2,3,4,5,6,7,8,9,10,11],[0,1,2,3,4,5,6],[0,1,2,3,4,5,6,13],[0,1,2,3,4,5,6,13,14],[0,1,2,3,4,5,6],[0,1,2,3,4,5,6,13,14,15,16],[0,1,2,3,4,5,6,13,14,15,16,17],[0,1,2,3,4,5,6,13,14,15,16,17,18],[0,1,2,3,4,5,6,7,8,9,10,11,12,13,14,15,16,17,18,19],[0,1,2,3,4,5,6,7,8,9,10,11,12,13,14,15,16,17,18,19,20]] [78] [] (by kernel_rfl) (fun K' hK=>by simp only[go_sem,eY,pN,pM,Int.sub_self,Int.sub_zero,Int.cast_ofNat_Int,Int.reduceToNat,Int.toNat_one,Int.toNat_zero,Nat.reduceMul,Nat.reduceAdd,Nat.zero_mul,Nat.one_mul,Nat.add_zero];(repeat (refine⟨ob,?_⟩));(first | refine⟨by rfl,?_⟩ | skip);exact hK _ (by simp only[go_sem]) (by simp only[go_sem]<;>rfl)) ?_
    repeat refine sq ?_
    refine au rfl rfl (fun hb=>?_) (fun hb=>?_)
    ·repeat refine sq ?_
     have eJ:ay d=false:=by unfold ay;rw[bz,pP eY];revert hb;cases aG d.me d.pa<;>cases aG d.me d.pb<;>simp
     repeat refine sq ?_
     refine rx hΓ [2] [] (fun K' hK=>by simp only[go_sem,eY,pN,pM,Int.sub_self,Int.sub_zero,Int.cast_ofNat_Int,Int.reduceToNat,Int.toNat_one,Int.toNat_zero,Nat.reduceMul,Nat.reduceAdd,Nat.zero_mul,Nat.one_mul,Nat.add_zero];(repeat (refine⟨ob,?_⟩));exact hK _ (by simp only[go_sem]) (by simp only[go_sem]<;>rfl)) ?_
     refine ar ?_
     simp only[go_sem]
     first | (rw[kP eJ];done) | (rw[eT eJ];done)
    ·repeat refine sq ?_
     have eJ:ay d=true:=by unfold ay;rw[bz,pP eY];revert hb;cases aG d.me d.pa<;>cases aG d.me d.pb<;>simp
     refine ax ?_
     repeat refine sq ?_
     refine rx hΓ [2] [] (fun K' hK=>by simp only[go_sem,eY,pN,pM,Int.sub_self,Int.sub_zero,Int.cast_ofNat_Int,Int.reduceToNat,Int.toNat_one,Int.toNat_zero,Nat.reduceMul,Nat.reduceAdd,Nat.zero_mul,Nat.one_mul,Nat.add_zero];(repeat (refine⟨ob,?_⟩));exact hK _ (by simp only[go_sem]) (by simp only[go_sem]<;>rfl)) ?_
     refine ar ?_
     simp only[go_sem]
     first | (rw[kP eJ];done) | (rw[eT eJ];done)
theorem oW:ak Tryd.prog 77 S39:=TP.sound
end Go.Eng
set_option linter.unusedVariables false
namespace Go.Eng
open Go Go.Proofs Go.RowKit Go.Lib Go.Shelf
set_option maxHeartbeats 2000000 in
set_option maxRecDepth 100000 in
theorem ab2(n c:Nat)(w:World):Calls Tryd.prog 46 #[.slice none n c] w fun e w'=>e=.returned (.slice none 0 0)/\w'=w:=by
 have mixed:Tryd.prog.follows Departure.mixedOrders=true:=by kernel_rfl
 have qT:∀ (w:World) (a:Option Addr) (n c n' c':Nat),(binOp .eql 35 (.slice a n c) (.slice none n' c')).run Tryd.prog w=.ok (.bool a.isNone) w:=fun w a n c n' c'=>Lib.run_eql_slice_nil w _ _ a n c n' c' Tryd.underlying35
 go_enter Tryd.func46,Tryd.ntmps46
 go_wp2
 go_ret
 exact⟨rfl,rfl⟩
set_option maxHeartbeats 2000000 in
set_option maxRecDepth 100000 in
theorem ab1(a:Addr)(n c:Nat)(w:World)(v':Value)(w':World)
 (cD:∀ ty,(Builtin.append_ #[35,35] ty #[.slice (some ⟨w.heap.size,0,none⟩) 0 0,.slice (some a) n c]).run Tryd.prog (w.alloc (.cells #[] 75))=.ok v' w'):
 Calls Tryd.prog 46 #[.slice (some a) n c] w fun e w1=>e=.returned v'/\w1=w':=by
 have mixed:Tryd.prog.follows Departure.mixedOrders=true:=by kernel_rfl
 have qT:∀ (w:World) (a:Option Addr) (n c n' c':Nat),(binOp .eql 35 (.slice a n c) (.slice none n' c')).run Tryd.prog w=.ok (.bool a.isNone) w:=fun w a n c n' c'=>Lib.run_eql_slice_nil w _ _ a n c n' c' Tryd.underlying35
 go_enter Tryd.func46,Tryd.ntmps46
 go_wp2_with (at_builtin;refine Lib.wpList_append_run _ rfl _ _ _ _ rfl _ _ rfl rfl _ _ (cD _) ?_)
 go_ret
 exact⟨rfl,rfl⟩
set_option maxHeartbeats 2000000 in
set_option maxRecDepth 100000 in
theorem ab0(n c:Nat)(w:World):Calls Tryd.prog 36 #[.slice none n c] w fun e w'=>e=.returned (.slice none 0 0)/\w'=w:=by
 have mixed:Tryd.prog.follows Departure.mixedOrders=true:=by kernel_rfl
 have qT:∀ (w:World) (a:Option Addr) (n c n' c':Nat),(binOp .eql 34 (.slice a n c) (.slice none n' c')).run Tryd.prog w=.ok (.bool a.isNone) w:=fun w a n c n' c'=>Lib.run_eql_slice_nil w _ _ a n c n' c' Tryd.underlying34
 go_enter Tryd.func36,Tryd.ntmps36
 go_wp2
 go_ret
 exact⟨rfl,rfl⟩
set_option maxHeartbeats 2000000 in
set_option maxRecDepth 100000 in
theorem abZ(a:Addr)(n c:Nat)(w:World)(v':Value)(w':World)
 (cD:∀ ty,(Builtin.append_ #[34,34] ty #[.slice (some ⟨w.heap.size,0,none⟩) 0 0,.slice (some a) n c]).run Tryd.prog (w.alloc (.cells #[] 3))=.ok v' w'):
 Calls Tryd.prog 36 #[.slice (some a) n c] w fun e w1=>e=.returned v'/\w1=w':=by
 have mixed:Tryd.prog.follows Departure.mixedOrders=true:=by kernel_rfl
 have qT:∀ (w:World) (a:Option Addr) (n c n' c':Nat),(binOp .eql 34 (.slice a n c) (.slice none n' c')).run Tryd.prog w=.ok (.bool a.isNone) w:=fun w a n c n' c'=>Lib.run_eql_slice_nil w _ _ a n c n' c' Tryd.underlying34
 go_enter Tryd.func36,Tryd.ntmps36
 go_wp2_with (at_builtin;refine Lib.wpList_append_run _ rfl _ _ _ _ rfl _ _ rfl rfl _ _ (cD _) ?_)
 go_ret
 exact⟨rfl,rfl⟩
theorem oN(n:Nat)(h:n<1000000000):n≠yid:=by unfold yid;omega
theorem Gv:vM Tryd.prog 46 35 75 2 16 (.agg #[.int .i64 0,.int .i64 0]):=
 ⟨by kernel_rfl,by kernel_rfl,oN _ (by decide),iN Tryd.func46 (by rfl) (by kernel_rfl),ab2,ab1⟩
theorem Gu:vM Tryd.prog 36 34 3 1 8 (.int .i64 0):=
 ⟨by kernel_rfl,by kernel_rfl,oN _ (by decide),iN Tryd.func36 (by rfl) (by kernel_rfl),ab0,abZ⟩
def I6(sz by_:Nat):PSpec:=⟨fun xs=>∃ l,xs=[.sl l]/\(∀ z∈l,z.cells.length=sz/\z.okc=true)/\l.length*by_<=140737488355328,fun xs=>xs.headD default,false⟩
theorem OL{P:Program}{f T E sz by_:Nat}{Z:Value}(L:vM P f T E sz by_ Z)(hz:Z.cells.size=sz)(hb:0<by_):aR P f (I6 sz by_):=by
 refine IQ (xM L) L.ne (fun h=>by cases h) ?_
 rintro xs ⟨l,rfl,hl,hn⟩
 simp only[pE,List.map_cons,List.map_nil,I6,List.headD_cons]
 cases l with
 |nil=>exact⟨trivial,trivial,rfl⟩
 |cons y r=>
  have e:iy P (fun _=>none) [0,0] T (.v (.sl (y::r)))=cv P (fun _=>none) [0,0] T T .nilsl (.v (.sl (y::r))):=rfl
  rw[e]
  have o8:(y::r).length*by_<=140737488355328:=hn
  have jd:(y::r).length<=maxLen:=by unfold maxLen;have:=Nat.le_mul_of_pos_right (y::r).length hb;omega
  simp only[cv,L.tE,L.tZ,aA,av,aE,aM]
  exact⟨⟨trivial,hl,hz,o8,jd,trivial⟩,trivial,trivial⟩
theorem aR.conv{P:Program}{f:FuncId}{s s':PSpec}(h:aR P f s)(hf:s'.flat=s.flat)(hp:∀ xs,s'.pre xs->s.pre xs/\s'.fn xs=s.fn xs):aR P f s':=by
 refine⟨h.ne,h.enter,fun gF xs hx=>?_,fun m w xs args hm ht hx cL=>?_⟩
 ·rw[(hp xs hx).2];exact h.flat (hf▸gF) xs (hp xs hx).1
 ·rw[(hp xs cL).2];exact h.calls m w xs args hm ht hx (hp xs cL).1
noncomputable def G4:PSpec:=p1 eH (fun l=>l.length*8<=140737488355328) (fun l=>.sl (l.map vInt)) false
noncomputable def S77:Spec:=G4.toSpec
theorem Dl:ak Tryd.prog 36 S77:=(aR.conv (s':=G4) (OL Gu rfl (by decide)) rfl (by
 intro xs hx
 obtain⟨l,rfl,hl,e⟩:=yS hx
 exact⟨⟨_,rfl,fun z hz=>by obtain⟨x,_,rfl⟩:=List.mem_map.1 hz;exact⟨rfl,rfl⟩,by simpa using hl⟩,e⟩)).sound
noncomputable def G5:PSpec:=p1 ll (fun l=>l.length*16<=140737488355328) (fun l=>.sl (l.map encPa)) false
noncomputable def S76:Spec:=G5.toSpec
theorem Lr:ak Tryd.prog 46 S76:=(aR.conv (s':=G5) (OL Gv rfl (by decide)) rfl (by
 intro xs hx
 obtain⟨l,rfl,hl,e⟩:=yS hx
 exact⟨⟨_,rfl,fun z hz=>by obtain⟨x,_,rfl⟩:=List.mem_map.1 hz;exact⟨rfl,rfl⟩,by simpa using hl⟩,e⟩)).sound
attribute [go_sem] G5 S76 G4 S77
open Go
structure Ha (r:Lp) (caps:List Name->List D):Prop where
 ren:∀ f Ls,Ls.length=r.m->D.renL f (caps Ls)=caps (Ls.map f)
 clo:∀ dom Ls,Ls.length=r.m->(∀ x∈Ls,dom x=true)->D.closL dom (caps Ls)=true
 reach:∀ Ls s obj R k,Ls.length=r.m->(R::Ls).Nodup->dj obj Ls (r.fam Ls s)->obj R=some (r.rc Ls .ready none)->dO obj (k+r.fu+1) (R::cU (caps Ls)) []=R::Ls
def Lp.itC(r:Lp)(caps:List Name->List D):CSpec where
 pre:=fun os ds=>os=r.rc (LI r.m) .ready none::r.fam (LI r.m) 0/\ds=.yld [0,1]::caps (LI r.m)
 out:=fun _ _=>⟨(0,r.fin (LI r.m))::eM 1 (r.fam (LI r.m) r.e),[],.tup []⟩
theorem Lp.itC_app{r:Lp}(hr:r.Ok){caps:List Name->List D}(xi:Ha r caps){obj:Name->Option O}{t R:Name}{Ls:List Name}(hl:Ls.length=r.m)(hn:Ls.Nodup)(hR:R∉Ls)
 (h0:obj R=some (r.rc Ls .ready none)) (hF:dj obj Ls (r.fam Ls 0)):
 (r.itC caps).toSpec.app obj t (.yld R::caps Ls)=⟨True,.tup [],cA Ls (r.fam Ls r.e) (upd obj R (some (r.fin Ls)))⟩:=by
 have wX:(R::Ls).Nodup:=List.nodup_cons.2 ⟨hR,hn⟩
 have jT:reach obj (.yld R::caps Ls)=R::Ls:=by
  unfold reach
  have :=xi.reach Ls 0 obj R (2999-r.fu) hl wX hF h0
  rw[show 2999-r.fu+r.fu+1=3000 by have:=hr.fuel;omega]at this
  exact this
 have EZ:∀ s,dj obj Ls (r.fam Ls s)->Ls.map (cf (R::Ls) obj)=(r.fam Ls s).map (O.ren (cin (R::Ls))):=by
  intro s hF
  rw[jO]at hF
  refine List.ext_getElem (by simp[hr.len _ _ hl,hl]) fun i h1 h2=>?_
  have h3:i<Ls.length:=by simpa using h1
  have h4:i<(r.fam Ls s).length:=by rw[hr.len _ _ hl,<-hl];exact h3
  have h5:=congrArg (fun l=>l[i]?) hF
  have h6:obj Ls[i]=some (r.fam Ls s)[i]:=by simpa[h3,h4]using h5
  simp only[List.getElem_map,cf,h6]
 have e1:cl obj (.yld R::caps Ls)=r.rc (LI r.m) .ready none::r.fam (LI r.m) 0:=by
  unfold cl
  rw[jT,List.map_cons,EZ 0 hF,hr.renF _ _ _ hl,xN hn hR,hl]
  congr 1
  unfold Lp.rc at h0 |-
  simp only[cf,h0,O.ren]
  rw[hr.renE _ _ hl,xN hn hR,hl]
 have e2:cO obj (.yld R::caps Ls)=.yld [0,1]::caps (LI r.m):=by
  unfold cO
  rw[jT]
  simp only[D.renL,D.ren,xi.ren _ _ hl]
  rw[xN hn hR,hl]
  simp only[cin,idx,if_true]
 have cL:(r.itC caps).pre (r.rc (LI r.m) .ready none::r.fam (LI r.m) 0) (.yld [0,1]::caps (LI r.m)):=⟨rfl,rfl⟩
 have fQ:∀ os ds,(r.itC caps).out os ds=⟨(0,r.fin (LI r.m))::eM 1 (r.fam (LI r.m) r.e),[],.tup []⟩:=fun _ _=>rfl
 have uY:∀ x∈Ls,cj (R::Ls) x=true:=fun x hx=>ic.2 (List.mem_cons_of_mem _ hx)
 have fZ:shut obj (R::Ls)=true:=by
  unfold shut
  rw[List.all_eq_true]
  intro x hx
  rcases List.mem_cons.1 hx with rfl | hx
  ·rw[h0]
   unfold Lp.rc
   exact hr.closE _ _ hl uY
  obtain⟨i,hi,rfl⟩:=List.getElem_of_mem hx
  rw[jO]at hF
  have h4:i<(r.fam Ls 0).length:=by rw[hr.len _ _ hl,<-hl];exact hi
  have h5:=congrArg (fun l=>l[i]?) hF
  have h6:obj Ls[i]=some (r.fam Ls 0)[i]:=by simpa[hi,h4]using h5
  rw[h6]
  exact hr.closF _ _ _ hl uY _ (List.getElem_mem h4)
 have bS:D.closL (cj (R::Ls)) (.yld R::caps Ls)=true:=by
  show (cj (R::Ls) R&&D.closL _ _)=true
  rw[xi.clo _ _ hl uY]
  simp[cj]
 have hp:∀ obj',cg (R::Ls) t (eM 1 (r.fam (LI r.m) r.e)) obj'=cA Ls (r.fam Ls r.e) obj':=by
  intro obj'
  rw[yL (Ls:=Ls) (by rw[hr.len _ _ (dC _),hl]) fun i hi=>by
   rw[Nat.add_comm,List.getD_cons_succ];exact kN hi,hr.renF _ _ _ (dC _)]
  have :(LI r.m).map (cout (R::Ls) t)=Ls:=by rw[<-hl];exact AY R Ls t
  rw[this]
 have hf:O.ren (cout (R::Ls) t) (r.fin (LI r.m))=r.fin Ls:=by
  unfold Lp.fin Lp.rc
  simp only[O.ren]
  rw[hr.renE _ _ (dC _)]
  have :(LI r.m).map (cout (R::Ls) t)=Ls:=by rw[<-hl];exact AY R Ls t
  rw[this]
 simp only[CSpec.toSpec,e1,e2,jT,fQ,fZ,bS,fresh,List.all_nil,Bool.and_self,cL,and_self,dt,cg,List.getD_cons_zero,hf,hp,D.ren,D.renL]
theorem ab6{P:Program}{r:Lp}(hr:r.Ok){caps:List Name->List D}(xi:Ha r caps){g:Operand}{ps:Array Tmp}{asg body:Code}{σ:S}{rest:List Code}{K:Exit->S->Prop}(k k':Nat){f:FuncId}{Ls:List Name}
 (hc:cB σ g=true) (hg:aj σ g=.clo (.func f) [] (caps Ls)) (al:f≠yid) (hs:ak P f (r.itC caps).toSpec) (mF:σ.obj (k::σ.pre)=none)
 (he:(List.range σ.nt).map σ.env=r.env Ls) (fm:ps.toList=r.ps) (ha:asg=r.asg) (hb:body=r.body) (hl:Ls.length=r.m) (hn:Ls.Nodup) (hR:(k::σ.pre)∉Ls) (hF:dj σ.obj Ls (r.fam Ls 0))
 (hK:∀ o:O,uj (gr (fun σ'=>CL P rest σ' K) K) { σ with obj:=upd (cA Ls (r.fam Ls r.e) σ.obj) (k::σ.pre) (some o) } r.pd):CL P (.rangeFunc g ps asg body::rest) σ K:=by
 subst ha
 subst hb
 generalize mO:k::σ.pre=R at *
 have E7:∀ x∈Ls,(upd σ.obj R (some (r.rc Ls .ready none))) x=σ.obj x:=fun x hx=>aI _ _ _ (by rintro rfl;exact hR hx)
 have mM:=Lp.itC_app hr xi (t:=k'::σ.pre) hl hn hR (aE σ.obj R (some (r.rc Ls .ready none))) (Jv hF E7)
 have wU:O.loop ((List.range σ.nt).map σ.env) ps.toList r.asg r.body .ready none=r.rc Ls .ready none:=by unfold Lp.rc;rw[he,fm]
 have kK:eD (aj σ g) [.yld R]=.yld R::caps Ls:=by rw[hg];rfl
 have dp:fJ (aj σ g)=some f:=by rw[hg];simp[fJ,al]
 have DS:∀ (F:List O) (obj:Name->Option O) (a b:Option O),upd (cA Ls F (upd obj R a)) R b=upd (cA Ls F obj) R b:=by
  intro F obj a b
  funext x
  by_cases h:x=R
  ·subst h;rw[aE,aE]
  ·rw[aI _ _ _ h,aI _ _ _ h]
   have :∀ (Ls:List Name) (F:List O) (o1 o2:Name->Option O),o1 x=o2 x->cA Ls F o1 x=cA Ls F o2 x:=by
    intro Ls
    induction Ls with
    |nil=>intro F o1 o2 h;simpa[cA]using h
    |cons y ys ih=>
     intro F o1 o2 h
     cases F with
     |nil=>simpa[cA]using h
     |cons f fs=>
      simp only[cA]
      refine ih fs _ _ ?_
      by_cases e:x=y
      ·subst e;rw[aE,aE]
      ·rw[aI _ _ _ e,aI _ _ _ e,h]
   exact this Ls F _ _ (aI _ _ _ h)
 refine Gw (Γ:=fun x=>if x=f then some (r.itC caps).toSpec else none) (fun x s hx=>by
  split at hx
  ·rename_i e;cases hx;subst e;exact hs
  ·cases hx) k k' hc dp al (if_pos rfl) (by rw[mO];exact mF) ?_ ?_
 ·rw[mO,kK,wU,mM];trivial
 ·rw[mO,kK,wU,mM]
  have kH:cA Ls (r.fam Ls r.e) (upd (upd σ.obj R (some (r.rc Ls .ready none))) R (some (r.fin Ls))) R=some (r.fin Ls):=by rw[pU hR,aE]
  have lp:jJ (cA Ls (r.fam Ls r.e) (upd (upd σ.obj R (some (r.rc Ls .ready none))) R (some (r.fin Ls)))) R=
      upd (cA Ls (r.fam Ls r.e) σ.obj) R (some (r.rc Ls .exhausted r.pd)):=by
   unfold jJ
   rw[kH]
   unfold Lp.fin Lp.rc
   simp only[DS]
  refine JU r.pd kH ?_
  rw[lp]
  exact hK (r.rc Ls .exhausted r.pd)
def iU(obj:Name->Option O)(L:List O):Name->Option O:=fun nm=>match aW L nm with | some o=>some o | none=>obj nm
theorem Sy{L1 L2:List O}(h:L2.length=L1.length):iU (aW L1) L2=aW L2:=by
 funext nm
 unfold iU
 cases hx:cJ nm with
 |false=>rw[wj hx,wj hx]
 |true=>
  obtain⟨i,rfl⟩:=uG.1 hx
  simp only[aW]
  by_cases hi:i<L2.length
  ·rw[List.getElem?_eq_getElem hi]
  ·rw[List.getElem?_eq_none (by omega),List.getElem?_eq_none (by omega)]
theorem CU(n:Nat)(p:Name)(F H:Name->Option O)(L:List O)(l:List (Nat×E))(h:List (Name×O)):
 aT n p (iU (fun nm=>if own p nm=true then F nm else H nm) L) l h=aT n p (iU H L) l h:=
 wy fun nm hn=>by unfold iU;simp[hn]
theorem G6(p:Name)(dom:Name->Bool)(F H:Name->Option O)(L:List O):
 b7 p dom (iU (fun nm=>if own p nm=true then F nm else H nm) L)=b7 p dom (iU H L):=by
 have e:∀ nm,own p nm=false->iU (fun nm=>if own p nm=true then F nm else H nm) L nm=iU H L nm:=fun nm hn=>by unfold iU;simp[hn]
 exact propext ⟨fun k nm q hn h=>k nm q hn (by rw[e nm hn];exact h),fun k nm q hn h=>k nm q hn (by rw[<-e nm hn];exact h)⟩
def Lp.I(r:Lp)(s:Nat):List O:=r.rc (LI r.m) .ready none::r.fam (LI r.m) s
theorem Lp.I_len{r:Lp}(hr:r.Ok)(s:Nat):(r.I s).length=r.m+1:=by unfold Lp.I;rw[List.length_cons,hr.len _ _ (dC _)]
theorem Lp.I_clos{r:Lp}(hr:r.Ok)(s:Nat):∀ o∈r.I s,∀ dom:Name->Bool,(∀ i,dom [i,1]=true)->O.clos dom o=true:=by
 intro o ho dom hd
 have gf:∀ x∈LI r.m,dom x=true:=fun x hx=>by
  obtain⟨i,_,rfl⟩:=List.mem_map.1 hx
  exact hd _
 rcases List.mem_cons.1 ho with rfl | ho
 ·exact hr.closE _ _ (dC _) gf
 ·exact hr.closF _ _ _ (dC _) gf _ ho
theorem Lp.y_setU{r:Lp}(hr:r.Ok)(bG:∀ j,r.st j=none){s:Nat}(hs:s<r.n)(obj:Name->Option O)(tm:Name)(ho:∀ nm,cJ nm=true->obj nm=aW (r.I s) nm):
 r.y.toSpec.app obj tm (.yld [0,1]::r.vals s)=⟨True,.v (.bool true),iU obj (r.I (s+1))⟩:=by
 have n0:(LI r.m).Nodup:=List.Pairwise.map _ (fun a b h=>by simpa using h) List.nodup_range
 have mO:([0,1]:Name)∉LI r.m:=fun h=>by
  obtain⟨i,_,hi⟩:=List.mem_map.1 h
  simp at hi
 have h0:obj [0,1]=some (r.rc (LI r.m) .ready none):=by
  rw[ho _ rfl];rfl
 have hF:dj obj (LI r.m) (r.fam (LI r.m) s):=by
  rw[jO]
  refine List.ext_getElem (by rw[List.length_map,List.length_map,dC,hr.len _ _ (dC _)]) fun i h3 h4=>?_
  simp only[List.getElem_map,LI,List.getElem_range]
  rw[ho _ rfl]
  simp only[Lp.I,aW,List.getElem?_cons_succ]
  have h5:i<(r.fam (LI r.m) s).length:=by simpa using h4
  rw[List.getElem?_eq_getElem h5]
  rfl
 have mM:=Lp.y_app hr hs (fun j _=>bG j) (t:=tm) (dC _) n0 mO h0 hF
 rw[mM,bG s]
 simp only[Option.isNone_none,if_true]
 congr 1
 funext nm
 have hlen:=hr.len (LI r.m) (s+1) (dC _)
 by_cases hR:nm=[0,1]
 ·subst hR
  rw[aE]
  rfl
 ·rw[aI _ _ _ hR]
  unfold iU
  cases hx:cJ nm with
  |false=>
   rw[wj hx,pU]
   intro fo
   obtain⟨i,_,rfl⟩:=List.mem_map.1 fo
   cases hx
  |true=>
   obtain⟨i,rfl⟩:=uG.1 hx
   have ee:=B7 (obj:=obj) (F:=r.fam (LI r.m) (s+1)) n0 (by rw[dC,hlen])
   match i,hR with
   | 0,hR=>exact(hR rfl).elim
   |i+1,_=>
    simp only[Lp.I,aW,List.getElem?_cons_succ]
    by_cases hi:i<r.m
    ·have h6:=y9 ee i (by rw[dC];exact hi) (by rw[hlen];exact hi)
     simp only[LI,List.getElem_map,List.getElem_range]at h6
     rw[show (r.fam (LI r.m) (s+1))[i]?=some (r.fam (LI r.m) (s+1))[i]from List.getElem?_eq_getElem (by rw[hlen];exact hi)]
     exact h6
    ·rw[List.getElem?_eq_none (by rw[hlen];omega),pU]
     intro fo
     obtain⟨j,jW,qy⟩:=List.mem_map.1 fo
     have :=List.mem_range.1 jW
     simp at qy
     omega
theorem Lp.go_e{r:Lp}(bG:∀ j,r.st j=none):r.e=r.n/\r.pd=none:=by
 have :(List.range r.n).find? (fun s=>(r.st s).isSome)=none:=List.find?_eq_none.2 fun s _=>by rw[bG s];decide
 unfold Lp.e Lp.pd
 rw[this]
 exact⟨rfl,rfl⟩
theorem Lp.go_end{P:Program}{r:Lp}(hr:r.Ok)(bG:∀ j,r.st j=none){σ:S}(dW:∀ i,σ.obj [i,1]=aW (r.I r.n) [i,1]):
 (bX P σ []).ok/\(bX P σ []).d=.tup []/\gW (r.rc (LI r.m) .ready none::r.fam (LI r.m) 0) ⟨(0,r.fin (LI r.m))::eM 1 (r.fam (LI r.m) r.e),[],.tup []⟩ σ:=by
 obtain⟨e1,e2⟩:=Lp.go_e bG
 refine Lp.it_end hr ?_ ?_
 ·rw[dW]
  unfold Lp.fin
  rw[e2]
  rfl
 ·rw[jO,e1]
  refine List.ext_getElem (by rw[List.length_map,List.length_map,dC,hr.len _ _ (dC _)]) fun i h3 h4=>?_
  simp only[List.getElem_map,LI,List.getElem_range]
  rw[dW]
  simp only[Lp.I,aW,List.getElem?_cons_succ]
  have h5:i<(r.fam (LI r.m) r.n).length:=by simpa using h4
  rw[List.getElem?_eq_getElem h5]
  rfl
theorem Lp.itC_sound{P:Program}{r:Lp}(hr:r.Ok)(bG:∀ j,r.st j=none){caps:List Name->List D}{f:FuncId}{fn:Func}{nt:Nat}(hf:P.funcs[f]?=some fn)(eK:fn.ntmps=nt)(eZ:fn.results.toList=[])(hn:(fn.name== "runtime.NumGoroutine")=false)(hy:f<1000000000)
 (hw:∃ c,fn.body=some c/\(caps (LI r.m)).length+1<=nt/\CL P [c] (aT nt [0] (aW (r.I 0)) (ft 0 (.yld [0,1]::caps (LI r.m))) []) (fun e σ=>(e=.normal\/e=.ret)/\∀ i,σ.obj [i,1]=aW (r.I r.n) [i,1])):ak P f (r.itC caps).toSpec:=by
 obtain⟨c,hc,hl,hw⟩:=hw
 refine mV hf hc eK eZ (iN hf hc hn) (Nat.ne_of_lt (show f<yid from hy)) ?_
 rintro os ds ⟨rfl,rfl⟩
 refine⟨by simpa using hl,CW.mono (jm hw) ?_⟩
 rintro e σ ⟨he,dW⟩
 rcases he with rfl | rfl
 ·exact Lp.go_end hr bG dW
 ·exact Lp.go_end hr bG dW
theorem Lp.it_sound{P:Program}{r:Lp}(hr:r.Ok)(bG:∀ j,r.st j=none){caps:List V}{f:FuncId}{fn:Func}{nt:Nat}(hf:P.funcs[f]?=some fn)(eK:fn.ntmps=nt)(eZ:fn.results.toList=[])(hn:(fn.name== "runtime.NumGoroutine")=false)(hy:f<1000000000)
 (hw:∃ c,fn.body=some c/\caps.length+1<=nt/\CL P [c] (aT nt [0] (aW (r.I 0)) (ft 0 (.yld [0,1]::caps.map .v)) []) (fun e σ=>(e=.normal\/e=.ret)/\∀ i,σ.obj [i,1]=aW (r.I r.n) [i,1])):ak P f (r.it caps).toSpec:=by
 obtain⟨c,hc,hl,hw⟩:=hw
 refine mV hf hc eK eZ (iN hf hc hn) (Nat.ne_of_lt (show f<yid from hy)) ?_
 rintro os ds ⟨rfl,rfl⟩
 refine⟨by simpa using hl,CW.mono (jm hw) ?_⟩
 rintro e σ ⟨he,dW⟩
 rcases he with rfl | rfl
 ·exact Lp.go_end hr bG dW
 ·exact Lp.go_end hr bG dW
structure Ro (α:Type) where
 m:Nat
 fam:α->List Name->List O
 args:α->List Name->List D
 ok:α->Prop
 val:α->D
structure Ro.Ok {α:Type} (r:Ro α):Prop where
 len:∀ a Ls,Ls.length=r.m->(r.fam a Ls).length=r.m
 renF:∀ a f Ls,Ls.length=r.m->(r.fam a Ls).map (O.ren f)=r.fam a (Ls.map f)
 renA:∀ a f Ls,Ls.length=r.m->D.renL f (r.args a Ls)=r.args a (Ls.map f)
 reach:∀ a Ls obj,Ls.length=r.m->Ls.Nodup->dj obj Ls (r.fam a Ls)->reach obj (r.args a Ls)=Ls
 closF:∀ a dom Ls,Ls.length=r.m->(∀ x∈Ls,dom x=true)->∀ o∈r.fam a Ls,O.clos dom o=true
 closA:∀ a dom Ls,Ls.length=r.m->(∀ x∈Ls,dom x=true)->D.closL dom (r.args a Ls)=true
 det:∀ a b,r.ok a->r.ok b->r.fam a (LR r.m)=r.fam b (LR r.m)->r.args a (LR r.m)=r.args b (LR r.m)->r.val a=r.val b
 vcl:∀ a dom,D.clos dom (r.val a)=true
 vren:∀ a f,(r.val a).ren f=r.val a
variable {α:Type}
noncomputable def Ro.c(r:Ro α):CSpec where
 pre:=fun os ds=>∃ a,r.ok a/\os=r.fam a (LR r.m)/\ds=r.args a (LR r.m)
 out:=fun os ds=>⟨[],[],by classical exact if h:∃ a,r.ok a/\os=r.fam a (LR r.m)/\ds=r.args a (LR r.m)then r.val h.choose else .any⟩
theorem Ro.c_out{r:Ro α}(hr:r.Ok){a:α}(ha:r.ok a):r.c.out (r.fam a (LR r.m)) (r.args a (LR r.m))=⟨[],[],r.val a⟩:=by
 have h:∃ b,r.ok b/\r.fam a (LR r.m)=r.fam b (LR r.m)/\r.args a (LR r.m)=r.args b (LR r.m):=⟨a,ha,rfl,rfl⟩
 have e:r.val h.choose=r.val a:=(hr.det _ _ ha h.choose_spec.1 h.choose_spec.2.1 h.choose_spec.2.2).symm
 simp only[Ro.c]
 rw[dif_pos h,e]
theorem Ro.c_app{r:Ro α}(hr:r.Ok){a:α}(ha:r.ok a){obj:Name->Option O}{t:Name}{Ls:List Name}(hl:Ls.length=r.m)(hn:Ls.Nodup)(hF:dj obj Ls (r.fam a Ls)):
 r.c.toSpec.app obj t (r.args a Ls)=⟨True,r.val a,obj⟩:=by
 have jT:=hr.reach a Ls obj hl hn hF
 have As:Ls.map (cin Ls)=LR r.m:=by rw[Gz hn,hl]
 have e1:cl obj (r.args a Ls)=r.fam a (LR r.m):=by
  unfold cl
  rw[jT]
  have xo:=hF
  rw[jO]at xo
  have :Ls.map (cf Ls obj)=(r.fam a Ls).map (O.ren (cin Ls)):=by
   refine List.ext_getElem (by simp[hr.len _ _ hl,hl]) fun i h1 h2=>?_
   have h3:i<Ls.length:=by simpa using h1
   have h4:i<(r.fam a Ls).length:=by rw[hr.len _ _ hl,<-hl];exact h3
   have h5:=congrArg (fun l=>l[i]?) xo
   have h6:obj Ls[i]=some (r.fam a Ls)[i]:=by simpa[h3,h4]using h5
   simp only[List.getElem_map,cf,h6]
  rw[this,hr.renF _ _ _ hl,As]
 have e2:cO obj (r.args a Ls)=r.args a (LR r.m):=by
  unfold cO
  rw[jT,hr.renA _ _ _ hl,As]
 have ed:∀ x∈Ls,cj Ls x=true:=fun x hx=>ic.2 hx
 have fZ:shut obj Ls=true:=by
  unfold shut
  rw[List.all_eq_true]
  intro x hx
  obtain⟨i,hi,rfl⟩:=List.getElem_of_mem hx
  have xo:=hF
  rw[jO]at xo
  have h4:i<(r.fam a Ls).length:=by rw[hr.len _ _ hl,<-hl];exact hi
  have h5:=congrArg (fun l=>l[i]?) xo
  have h6:obj Ls[i]=some (r.fam a Ls)[i]:=by simpa[hi,h4]using h5
  rw[h6]
  exact hr.closF _ _ _ hl ed _ (List.getElem_mem h4)
 have cL:r.c.pre (r.fam a (LR r.m)) (r.args a (LR r.m)):=⟨a,ha,rfl,rfl⟩
 simp only[CSpec.toSpec,e1,e2,jT,Ro.c_out hr ha,fZ,hr.closA _ _ _ hl ed,fresh,List.all_nil,Bool.and_self,cL,and_self,dt,cg,hr.vren]
def Iv(P:Program)(rs:List ResultVar)(v:D)(H:Name->Option O)(e:Exit)(σ:S):Prop:=
 (e=.normal\/e=.ret)/\(bX P σ rs).ok/\(bX P σ rs).d=v/\∀ i,σ.obj [i,1]=H [i,1]
theorem Js{σ:S}:∀ {os:List O} {k:Nat},(∀ i (h:i<os.length),σ.obj [k+i,1]=some os[i])->rU σ [] k os
 |[],_,_=>trivial
 |o::r,k,h=>by
  refine⟨by have:=h 0 (by simp);simp only[Nat.add_zero,List.getElem_cons_zero]at this;exact this,Js fun i hi=>?_⟩
  have :=h (i+1) (by simpa using hi)
  rw[show k+1+i=k+(i+1)by omega]
  simpa using this
theorem Ro.sound{P:Program}{r:Ro α}(hr:r.Ok){f:FuncId}{fn:Func}{nt:Nat}{rs:List ResultVar}(hf:P.funcs[f]?=some fn)(eK:fn.ntmps=nt)(eZ:fn.results.toList=rs)(hn:(fn.name== "runtime.NumGoroutine")=false)(hy:f<1000000000)
 (hw:∃ c,fn.body=some c/\∀ a,r.ok a->(r.args a (LR r.m)).length<=nt/\CL P [c] (aT nt [0] (aW (r.fam a (LR r.m))) (ft 0 (r.args a (LR r.m))) []) (Iv P rs (r.val a) (aW (r.fam a (LR r.m))))):ak P f r.c.toSpec:=by
 obtain⟨c,hc,hw⟩:=hw
 refine mV hf hc eK eZ (iN hf hc hn) (Nat.ne_of_lt (show f<yid from hy)) ?_
 rintro os ds ⟨a,ha,rfl,rfl⟩
 obtain⟨hl,h⟩:=hw a ha
 refine⟨hl,?_⟩
 rw[Ro.c_out hr ha]
 refine CW.mono (jm h) ?_
 rintro e σ ⟨he,h1,h2,h3⟩
 have fin:(bX P σ rs).ok/\(bX P σ rs).d=r.val a/\gW (r.fam a (LR r.m)) ⟨[],[],r.val a⟩ σ:=by
  refine⟨h1,h2,Js fun i hi=>?_,trivial,?_⟩
  ·rw[Nat.zero_add,h3]
   show (r.fam a (LR r.m))[i]?=_
   rw[List.getElem?_eq_getElem hi]
  ·simp[hr.vcl,distinct]
 rcases he with rfl | rfl
 ·exact fin
 ·exact fin
theorem Ro.outC{r:Ro α}(hr:r.Ok)(a:α):∀ hs,b7 [0] (bT [0] hs) (aW (r.fam a (LR r.m)))=True:=fun hs=>eq_true (wk (fun o ho dom hd=>hr.closF a dom _ (vK _) (fun x hx=>by
 obtain⟨i,_,rfl⟩:=List.mem_map.1 hx
 exact hd i) o ho) hs)
open Go Go.Proofs
def kh(s:Stk):Prop:=s.ho.length*8<=140737488355328/\∀ i,i<6->(s.un.get i).length*16<=140737488355328
theorem eQ.sz{s:Stk}(h:eQ s):kh s:=⟨by have:=h.hol;omega,fun i hi=>by have:=h.unl i hi;omega⟩
theorem CX:∀ {a b:List V},a.map D.v=b.map D.v->a=b
 |[],[],_=>rfl
 |[],_::_,h=>by cases h
 |_::_,[],h=>by cases h
 |x::r,y::q,h=>by
  simp only[List.map_cons,List.cons.injEq,D.v.injEq]at h
  rw[h.1,CX h.2]
theorem ub(f:Name->Name):∀ l:List V,D.renL f (l.map .v)=l.map .v
 |[]=>rfl
 |x::r=>by
  rw[List.map_cons,D.renL,ub f r];rfl
theorem ze:∀ l:List V,cU (l.map .v)=[]
 |[]=>rfl
 |x::r=>by
  rw[List.map_cons,cU,ze r];rfl
theorem CR{Ls:List Name}(h:Ls.length=1):∃ a,Ls=[a]:=by
 match Ls,h with
 |[a],_=>exact⟨a,rfl⟩
def kj:Ro (List V×Nat×Stk) where
 m:=1
 fam a _:=[.box (a.1.map .v)]
 args a Ls:=[.ref (Ls.headD [0,1]) a.2.1]
 ok a:=(a.1.drop a.2.1).take 19=aC a.2.2/\kh a.2.2
 val a:=.v (n8 a.2.2)
theorem vT:kj.Ok where
 len:=fun _ _ _=>rfl
 renF:=fun a f Ls _=>by simp only[kj,List.map_cons,List.map_nil,O.ren,ub]
 renA:=fun a f Ls h=>by
  obtain⟨n,rfl⟩:=CR h
  rfl
 reach:=fun a Ls obj h _ hF=>by
  obtain⟨n,rfl⟩:=CR h
  obtain⟨h1,_⟩:=hF
  have en:cU (kj.args a [n])=[n]:=rfl
  unfold Go.Eng.reach
  rw[en]
  show dO obj (2998+1+1) [n] []=[n]
  simp[dO,ic,h1,my,ze]
 closF:=fun a dom Ls _ _ o ho=>by
  simp only[kj,List.mem_singleton]at ho
  subst ho
  exact qX _ _
 closA:=fun a dom Ls h hd=>by
  obtain⟨n,rfl⟩:=CR h
  simp[kj,D.closL,D.clos,hd n (by simp)]
 det:=fun a b h1 h2 h3 h4=>by
  have e1:a.1=b.1:=CX (O.box.inj (List.cons.inj h3).1)
  have e2:a.2.1=b.2.1:=(D.ref.inj (List.cons.inj h4).1).2
  have e3:aC a.2.2=aC b.2.2:=by rw[<-h1.1,<-h2.1,e1,e2]
  have e4:a.2.2=b.2.2:=by rw[<-pC a.2.2,e3,pC]
  simp only[kj,e4]
 vcl:=fun _ _=>rfl
 vren:=fun _ _=>rfl
noncomputable def S59:Spec:=kj.c.toSpec
theorem aaN(l:List V)(i:Nat):(l.map D.v).getD i .any=if i<l.length then .v (l.getD i default)else .any:=by
 by_cases h:i<l.length
 ·rw[if_pos h,j0 (by simpa using h),j0 h];simp
 ·rw[if_neg h];simp[List.getD,List.getElem?_eq_none (Nat.le_of_not_lt h)]
theorem Gl{l:List V}{off:Nat}{s:Stk}(h:(l.drop off).take 19=aC s){i:Nat}(hi:i<19):(l.map D.v).getD (off+i) .any=.v ((aC s).getD i default):=by
 have hlen:19<=(l.drop off).length:=by
  have :=congrArg List.length h
  rw[List.length_take,ki]at this
  omega
 rw[List.length_drop]at hlen
 rw[aaN,if_pos (by omega),<-h,j0 (show off+i<l.length by omega),j0 (by rw[List.length_take,List.length_drop];omega)]
 simp
theorem Oq{l:List V}{off:Nat}{s:Stk}(h:(l.drop off).take 19=aC s):((l.map D.v).drop off).take 19=(aC s).map D.v:=by
 rw[<-h,List.map_take,List.map_drop]
theorem Gj{l:List V}{off:Nat}{s:Stk}(h:(l.drop off).take 19=aC s):off+19<=l.length:=by
 have :=congrArg List.length h
 rw[List.length_take,ki,List.length_drop]at this
 omega
@[go_sem] theorem agu(s:Stk):D.v (.sl (s.ho.map vInt))::List.drop 1 ((aC s).map D.v)=(aC s).map D.v:=rfl
theorem tW(s:Stk){i:Nat}(h:i<6):List.take (1+i) ((aC s).map D.v)++[D.v (.sl ((s.un.get i).map encPa))]++List.drop (1+i+1) ((aC s).map D.v)=(aC s).map D.v:=by
 match i,h with
 | 0,_=>rfl
 | 1,_=>rfl
 | 2,_=>rfl
 | 3,_=>rfl
 | 4,_=>rfl
 | 5,_=>rfl
theorem On{l:List V}{off:Nat}{s:Stk}(h:(l.drop off).take 19=aC s){i:Nat}(hi:i<6):(l.map D.v).getD (off+1+i) .any=.v (rowP (s.un.get i)):=by
 rw[Nat.add_assoc,Gl h (show 1+i<19 by omega),dM s hi]
@[go_sem] theorem agx(s:Stk):List.take 19 ((aC s).map D.v)=(aC s).map D.v:=rfl
@[go_sem] theorem agy(s:Stk):((aC s).map D.v).length=19:=rfl
attribute [go_sem] Iv
noncomputable def QS:List (Nat×Spec):=[(46,S76),(36,S77)]
theorem QR:∀ f s,tbl QS f=some s->ak Tryd.prog f s:=tc Lr<|tc Dl<|tn
attribute [go_sem] QS
set_option maxHeartbeats 4000000 in
theorem wD:ak Tryd.prog 37 S59:=by
 refine Ro.sound vT (rs:=[.cell 2 39]) Tryd.func37 Tryd.ntmps37 (by rfl) (by kernel_rfl) (by decide) ⟨_,rfl,?_⟩
 rintro⟨l,off,s⟩ ⟨kI,bm⟩
 refine⟨lb rfl,?_⟩
 have hΓ:=QR
 have hO:=Ro.outC vT (l,off,s)
 have h0:aW (kj.fam (l,off,s) (LR kj.m)) [0,1]=some (.box (l.map .v)):=rfl
 generalize aW (kj.fam (l,off,s) (LR kj.m))=H at *
 have ha:kj.args (l,off,s) (LR kj.m)=[.ref [0,1] off]:=rfl
 have hv:kj.val (l,off,s)=.v (n8 s):=rfl
 rw[ha,hv]
 simp only[ft,Nat.zero_add]at h0 |-
 replace kI:(l.drop off).take 19=aC s:=kI
 replace bm:kh s:=bm
 have hA:=Oq kI
 have hB:=Gl kI (show 0<19 by omega)
 have hL:=Gj kI
 have lx:(l.map D.v).getD off .any=.v (gv s.ho):=hB
 repeat refine sq ?_
 refine rx hΓ [0,2] [[2,0]] (fun K' hK=>by simp only[go_sem,hO,h0];(repeat (refine⟨ob,?_⟩));exact hK _ (by simp only[go_sem,hO,h0]) (by simp only[go_sem,hO,h0]<;>rfl)) ?_
 repeat refine sq ?_
 refine rx hΓ [0,2,3] [[2,0],[3,0]] (fun K' hK=>by simp only[go_sem,hO,h0,hA,hB,hL,List.length_map,List.append_nil,ki];(repeat (refine⟨ob,?_⟩));exact hK _ (by simp only[go_sem,hO,h0,hA,hB,hL,List.length_map,List.append_nil,ki]) (by simp only[go_sem,hO,h0,hA,hB,hL,List.length_map,List.append_nil,ki]<;>rfl)) ?_
 repeat refine sq ?_
 refine rx hΓ [0,2,3] [[2,0],[3,0]] (fun K' hK=>by simp only[go_sem,hO,h0,Nat.add_zero,lx,bm.1];(repeat (refine⟨ob,?_⟩));exact hK _ (by simp only[go_sem,hO,h0,Nat.add_zero,lx,bm.1]) (by simp only[go_sem,hO,h0,Nat.add_zero,lx,bm.1]<;>rfl)) ?_
 repeat refine sq ?_
 refine rx hΓ [0,2,3,14] [[2,0],[3,0]] (fun K' hK=>by simp only[go_sem,hO,h0];(repeat (refine⟨ob,?_⟩));exact hK _ (by simp only[go_sem,hO,h0]) (by simp only[go_sem,hO,h0]<;>rfl)) ?_
 repeat refine sq ?_
 refine aN ?_
 repeat refine sq ?_
 refine cN (fun z:Nat=>[(14,⟨true,.v (vInt z)⟩)]) (fun z=>[]) (fun z=>z<=6) (fun z=>6-z) 0 ?_ ?_ ?_ ?_
 ·exact Nat.zero_le _
 ·rfl
 ·rfl
 rintro i hi
 simp only[go_sem]
 repeat refine sq ?_
 refine rx hΓ [0,2,3,14,15] [[2,0],[3,0]] (fun K' hK=>by simp only[go_sem,hO,h0];(repeat (refine⟨ob,?_⟩));exact hK _ (by simp only[go_sem,hO,h0]) (by simp only[go_sem,hO,h0]<;>rfl)) ?_
 repeat refine sq ?_
 refine au rfl rfl (fun hb=>?_) (fun hb=>?_)
 ·have ae:i<6:=by have hq:(i:Int)<6:=(by simpa using hb);omega
  have ai:(i:Int)<6:=by omega
  clear hb
  have hC:=On kI ae
  have jw:=bm.2 i ae
  repeat refine sq ?_
  refine ax ?_
  repeat refine sq ?_
  refine aN ?_
  repeat refine sq ?_
  refine rx hΓ [0,2,3,4,14] [[2,0],[3,0]] (fun K' hK=>by simp only[go_sem,hO,h0,Int.toNat_natCast,Int.natCast_nonneg,ai];(repeat (refine⟨ob,?_⟩));exact hK _ (by simp only[go_sem,hO,h0,Int.toNat_natCast,Int.natCast_nonneg,ai]) (by simp only[go_sem,hO,h0,Int.toNat_natCast,Int.natCast_nonneg,ai]<;>rfl)) ?_
  repeat refine sq ?_
  refine aP hΓ fun K' hK=>?_
  simp only[go_sem,hO,h0,Int.toNat_natCast,Int.natCast_nonneg,ai,hC,jw,tW s ae,Int.toNat_natCast,Int.natCast_nonneg,ai]
  repeat (refine⟨ob,?_⟩)
  refine hK _ ?_
  clear K' hK
  simp only[go_sem]
  refine kS [0,2,3,14] [[2,0],[3,0]] ?_ ?_
  ·simp only[go_sem,hO,h0]
  simp only[go_sem,hO,h0]
  repeat refine sq ?_
  refine aP hΓ fun K' hK=>?_
  simp only[go_sem,hO,h0,Int.toNat_natCast,Int.natCast_nonneg,ai]
  repeat (refine⟨ob,?_⟩)
  refine hK _ ?_
  clear K' hK
  simp only[go_sem]
  refine⟨i+1,ae,by(show 6-(i+1)<6-i;omega),?_⟩
  refine bk [0,2,3,14] [[2,0],[3,0]] ?_ ?_
  ·simp only[go_sem,aF ae (lb rfl:(6:Nat)<=maxLen),Int.natCast_add,Int.natCast_one,tW s ae,hO,h0]
  ·simp only[go_sem,aF ae (lb rfl:(6:Nat)<=maxLen),Int.natCast_add,Int.natCast_one,tW s ae,hO,h0]
 ·have bb:i=6:=by
   have :¬ (i:Int)<6:=by simpa using hb
   omega
  clear hb
  subst bb
  repeat refine sq ?_
  refine cr ?_
  simp only[go_sem]
  refine kS [2,3] [[2,0],[3,0]] ?_ ?_
  ·simp only[go_sem,hO,h0]
  simp only[go_sem,hO,h0]
  repeat refine sq ?_
  refine rx hΓ [2] [[2,0]] (fun K' hK=>by simp only[go_sem,hO,h0,List.append_nil];(repeat (refine⟨ob,?_⟩));exact hK _ (by simp only[go_sem,hO,h0,List.append_nil]) (by simp only[go_sem,hO,h0,List.append_nil]<;>rfl)) ?_
  refine aL (cG [2,0] (aC s) rfl [2] [[2,0]] ?_ rfl) ?_
  ·simp only[go_sem,hO,h0]
  simp only[go_sem,hO,h0]
  refine ar ?_
  simp only[go_sem,hO,h0]
  exact .inr trivial
theorem Ru{σ:S}(b nm:Name)(i k sz:Nat)(cs:List D)(L:List V)(hb:σ.obj b=some (.box cs))(hi:cs[i]?=some (.msl nm k))(hn:σ.obj nm=some (.arr sz L))(hk:k=L.length):
 cT σ ⟨σ.nt,σ.env,upd (upd σ.obj nm (some (.farr sz L))) b (some (.box (cs.set i (.v (.sl L))))),σ.pre,σ.base⟩:=by
 intro G φ m a w hC
 have al:b≠nm:=fun e=>by subst e;rw[hb]at hn;cases hn
 obtain⟨h1,h2,h3,us,T,f,h4,h5,h6,h7⟩:=hC.objs b _ hb
 obtain⟨fS,EH⟩:=List.getElem?_eq_some_iff.1 hi
 have h0:i<us.size:=by omega
 have h8:=h7 i fS h0
 rw[EH]at h8
 have cF:av 6 σ.obj (.msl nm k)=⟨k=L.length,.sl L,upd σ.obj nm (some (.farr sz L))⟩:=by simp only[av,hn]
 obtain⟨m2,k1,k2,k3,k4,_⟩:=mQ 6 _ _ _ _ _ _ hC _ _ h8 (by rw[cF];exact hk)
 rw[cF]at k2 k3 k4
 simp only at k2 k3 k4
 have cY:(upd σ.obj nm (some (.farr sz L))) b=some (.box cs):=by rw[aI _ _ _ al];exact hb
 have iZ:=Ext.same (φ:=φ) (o':=.box (cs.set i (.v (.sl L)))) cY rfl rfl
 have si:=iZ
 rw[eN]at si
 refine⟨_,m2,k2.chg (w':=w) b (.box (cs.set i (.v (.sl L)))) _ iZ ⟨rfl,rfl,rfl,Nat.le_refl _⟩ (fun _ _ _=>rfl) (fun _=>.inr ⟨⟨_,cY,rfl,h2⟩,rfl⟩) ?_⟩
 rw[eN]
 refine⟨h1,h2,fun d hd=>?_,us,T,f,h4,h5,by simpa using h6,fun j hj e7=>?_⟩
 ·rcases List.mem_or_eq_of_mem_set hd with h | h
  ·exact h3 d h
  ·subst h;rfl
 ·simp only[List.length_set]at hj
  rw[List.getElem_set]
  by_cases iG:i=j
  ·subst iG
   rw[if_pos rfl]
   exact .v _ _ k4
  ·rw[if_neg iG]
   exact((h7 j hj e7).ext k1 k3).ext (Mem.le_refl m2) si
theorem ey{σ τ:S}(b nm:Name)(i k sz:Nat)(cs:List D)(L:List V)(hb:σ.obj b=some (.box cs))(hi:cs[i]?=some (.msl nm k))(hn:σ.obj nm=some (.arr sz L))(hk:k=L.length)(ks:List Nat)(ns:List Name)
 (h:fI ks ns ⟨σ.nt,σ.env,upd (upd σ.obj nm (some (.farr sz L))) b (some (.box (cs.set i (.v (.sl L))))),σ.pre,σ.base⟩)
 (gS:fP ks ns ⟨σ.nt,σ.env,upd (upd σ.obj nm (some (.farr sz L))) b (some (.box (cs.set i (.v (.sl L))))),σ.pre,σ.base⟩=τ):cT σ τ:=
 (Ru b nm i k sz cs L hb hi hn hk).trans (nw ks ns h gS)
theorem Jm(l:List Int):∀ y∈l.map vInt,y.cells.length=1/\y.okc=true:=by
 intro y hy;obtain⟨x,_,rfl⟩:=List.mem_map.1 hy;exact⟨rfl,rfl⟩
theorem Jl(l:List Par):∀ y∈l.map encPa,y.cells.length=2/\y.okc=true:=by
 intro y hy;obtain⟨x,_,rfl⟩:=List.mem_map.1 hy;exact⟨rfl,rfl⟩
theorem ah{p:Prop}(h:p:=by first | exact Jm _ | exact Jl _ | ((repeat' apply And.intro)<;>first | rfl | omega | (unfold maxLen;omega) | trivial | decide | exact Jm _ | exact Jl _) | exact ob):p:=h
def qV(s:Stk):List D:=[.v (vInt s.se.a),.v (vInt s.se.b),.v (vInt s.se.c),.v (vInt s.se.d),.v (vInt s.se.e),.v (vInt s.se.f),.v (vInt s.ta.a),.v (vInt s.ta.b),.v (vInt s.ta.c),.v (vInt s.ta.d),.v (vInt s.ta.e),.v (vInt s.ta.f)]
def kR(s:Stk)(z:Nat):List D:=.v (gv s.ho)::(if 0<z then .v (rowP s.un.a)else .nilsl)::(if 1<z then .v (rowP s.un.b)else .nilsl)::(if 2<z then .v (rowP s.un.c)else .nilsl)::
 (if 3<z then .v (rowP s.un.d)else .nilsl)::(if 4<z then .v (rowP s.un.e)else .nilsl)::(if 5<z then .v (rowP s.un.f)else .nilsl)::qV s
theorem VF{α:Type}{C:List α}{x:α}{n:Nat}(h:n<C.length):(List.take n C++[x]++List.drop (n+1) C)[n]?=some x:=by
 rw[List.append_assoc,List.getElem?_append_right (by rw[List.length_take];omega),List.length_take,Nat.min_eq_left (by omega),Nat.sub_self]
 rfl
theorem JG{α:Type}{C:List α}{x y:α}{n:Nat}(h:n<C.length):(List.take n C++[x]++List.drop (n+1) C).set n y=List.take n C++[y]++List.drop (n+1) C:=by
 rw[List.append_assoc,List.set_append_right _ _ (by rw[List.length_take];omega),List.length_take,Nat.min_eq_left (by omega),Nat.sub_self,List.append_assoc]
 rfl
theorem aiz(s:Stk){i:Nat}(h:i<6):List.take (1+i) (kR s i)++[D.v (.sl ((s.un.get i).map encPa))]++List.drop (1+i+1) (kR s i)=kR s (i+1):=by
 match i,h with
 | 0,_=>rfl
 | 1,_=>rfl
 | 2,_=>rfl
 | 3,_=>rfl
 | 4,_=>rfl
 | 5,_=>rfl
theorem abP(s:Stk):kR s 6=(aC s).map .v:=rfl
@[go_sem] theorem aiA(s:Stk)(z:Nat):(kR s z).length=19:=rfl
theorem abV(dom:Name->Bool)(p:Prop)[Decidable p](l:List V):D.clos dom (if p then .v (.sl l)else .nilsl)=true:=by
 split<;>rfl
@[go_sem] theorem abQ(dom:Name->Bool)(s:Stk)(z:Nat):D.closL dom (kR s z)=true:=by
  simp only[kR,qV,D.closL,D.clos,abV,Bool.and_self,rowP]
theorem BH{σ:S}(b:Name)(cs:List D)(l:List V)(hb:σ.obj b=some (.box cs))(hl:lX cs=some l):cT σ ⟨σ.nt,σ.env,upd σ.obj b (some (.box (l.map .v))),σ.pre,σ.base⟩:=by
 intro G φ m a w hC
 obtain⟨h1,h2,h3,us,T,f,h4,h5,h6,h7⟩:=hC.objs b _ hb
 obtain⟨hlen,jZ⟩:=GU hl
 have iZ:=Ext.same (φ:=φ) (o':=.box (l.map .v)) hb rfl rfl
 have si:=iZ
 rw[eN]at si
 refine⟨_,m,hC.chg (w':=w) b (.box (l.map .v)) _ iZ ⟨rfl,rfl,rfl,Nat.le_refl _⟩ (fun _ _ _=>rfl) (fun _=>.inr ⟨⟨_,hb,rfl,h2⟩,rfl⟩) ?_⟩
 rw[eN]
 refine⟨h1,h2,fun d hd=>?_,us,T,f,h4,h5,by rw[List.length_map,hlen];exact h6,fun j hj e7=>?_⟩
 ·obtain⟨x,hx,rfl⟩:=List.mem_map.1 hd
  obtain⟨i,hi,rfl⟩:=List.getElem_of_mem hx
  exact PE (jZ i (by omega) hi) (h3 _ (List.getElem_mem _))
 ·have jW:j<l.length:=by simpa using hj
  have ir:j<cs.length:=by omega
  simp only[List.getElem_map]
  exact .v _ _ (PD (h7 j ir e7) (jZ j ir jW))
theorem oy{σ τ:S}(b:Name)(cs:List D)(l:List V)(hb:σ.obj b=some (.box cs))(hl:lX cs=some l)(ks:List Nat)(ns:List Name)
 (h:fI ks ns ⟨σ.nt,σ.env,upd σ.obj b (some (.box (l.map .v))),σ.pre,σ.base⟩) (hk:fP ks ns ⟨σ.nt,σ.env,upd σ.obj b (some (.box (l.map .v))),σ.pre,σ.base⟩=τ):cT σ τ:=
 (BH b cs l hb hl).trans (nw ks ns h hk)
def dr(l:List Int):Stk:=⟨l,ek fun _=>[],ek fun _=>0,ek fun _=>0⟩
def zS:Stk:=dr []
def zP:Pg:=⟨0,zS,0⟩
def zD:Dk:=⟨0,zS,zP,zP,0⟩
def gM(me:Int)(l:List Int):Dk:=⟨me,dr l,⟨1,dr l,dK (dr l) 1⟩,⟨0,zS,dK zS 0⟩,-1⟩
def oM(me:Int)(l:List Int):Bool:=aO me 0 5&&gx l
def p8(me:Int)(l:List Int):Int:=if aO me 0 5=true then(if gx l=true then 0 else 1)else 94
def p9(me:Int)(l:List Int):Dk:=if oM me l=true then gM me l else zD
theorem OF(dom:Name->Bool)(l:List V)(n:Nat):D.closL dom (List.take n (l.map .v))=true:=by
 rw[<-List.map_take];exact qX _ _
theorem OI(dom:Name->Bool)(l:List V)(n:Nat):D.closL dom (List.drop n (l.map .v))=true:=by
 rw[<-List.map_drop];exact qX _ _
attribute [go_sem] OJ OF OI
@[go_sem] theorem aaP(f:(Name->Option O)->D->FR)(obj:Name->Option O)(h:∀ obj x,f obj (.v x)=⟨True,x,obj⟩):∀ l:List V,aK f obj (l.map .v)=⟨True,l,obj⟩
  |[]=>rfl
  |x::r=>by simp only[List.map_cons,aK,h,aaP f obj h r,and_self]
@[go_sem] theorem adU:V.agg [V.sl [],V.sl [],V.sl [],V.sl [],V.sl [],V.sl [],V.sl [],V.int .i64 0,V.int .i64 0,V.int .i64 0,V.int .i64 0,V.int .i64 0,V.int .i64 0,V.int .i64 0,V.int .i64 0,V.int .i64 0,V.int .i64 0,V.int .i64 0,V.int .i64 0]=V.agg (aC zS):=rfl
@[go_sem] theorem ah2(d:Dk):((((an d).map D.v).drop 1).take 19)=(aC d.now).map D.v:=rfl
@[go_sem] theorem ah3(d:Dk):((an d).map D.v).length=63:=rfl
@[go_sem] theorem ah5(d:Dk):((an d).map D.v).drop 63=[]:=rfl
@[go_sem] theorem ah6(d:Dk):((an d).map D.v).take 63=(an d).map D.v:=rfl
@[go_sem] theorem bt1(s:Stk)(x:D):(List.map D.v (aC s)++[x]).length=20:=rfl
@[go_sem] theorem bt2(s:Stk)(x:D):List.take 19 (List.map D.v (aC s)++[x])=List.map D.v (aC s):=rfl
@[go_sem] theorem bt3(s:Stk)(x:D):List.drop 20 (List.map D.v (aC s)++[x])=[]:=rfl
@[go_sem] theorem bt4(c u:Int)(s:Stk):D.v (.int .i64 c)::(List.map D.v (aC s)++[D.v (vInt u)])=(cH ⟨c,s,u⟩).map D.v:=rfl
@[go_sem] theorem bt5(p:Pg):(List.map D.v (cH p)).length=21:=rfl
@[go_sem] theorem bt6(p:Pg):List.take 21 (List.map D.v (cH p))=List.map D.v (cH p):=rfl
@[go_sem] theorem agU(p:Pg)(u:Int):List.take 20 (List.map D.v (cH p))++[D.v (vInt u)]++List.drop 21 (List.map D.v (cH p))=List.map D.v (cH ⟨p.co,p.st,u⟩):=rfl
@[go_sem] theorem ahX(d:Dk)(p:Pg):List.take 20 (List.map D.v (an d))++List.map D.v (cH p)++List.drop 41 (List.map D.v (an d))=List.map D.v (an ⟨d.me,d.now,p,d.pb,d.wet⟩):=rfl
@[go_sem] theorem ahW(d:Dk)(p:Pg):List.take 41 (List.map D.v (an d))++List.map D.v (cH p)++List.drop 62 (List.map D.v (an d))=List.map D.v (an ⟨d.me,d.now,d.pa,p,d.wet⟩):=rfl
theorem I5{l:List Int}(h:gx l=true):eQ (dr l):=by
 have hl:=um h
 have h6:∀ i:Nat,(ek fun _=>(0:Int)).get i=0:=fun i=>by
  match i with
  | 0=>rfl
  | 1=>rfl
  | 2=>rfl
  | 3=>rfl
  | 4=>rfl
  |_+5=>rfl
 have h7:∀ i:Nat,(ek fun _=>([]:List Par)).get i=[]:=fun i=>by
  match i with
  | 0=>rfl
  | 1=>rfl
  | 2=>rfl
  | 3=>rfl
  | 4=>rfl
  |_+5=>rfl
 refine⟨hl.1,hl.2,fun i _=>?_,fun i _ p hp=>?_,fun i _=>?_,fun i _=>?_⟩
 ·show ((ek fun _=>([]:List Par)).get i).length<=40
  rw[h7];exact Nat.zero_le _
 ·have:p∈(ek fun _=>([]:List Par)).get i:=hp
  rw[h7]at this;cases this
 ·show bZ ((ek fun _=>(0:Int)).get i)
  rw[h6];exact⟨by omega,by omega⟩
 ·show bZ ((ek fun _=>(0:Int)).get i)
  rw[h6];exact⟨by omega,by omega⟩
theorem Jk:eQ zS:=I5 rfl
def zd(me:Int)(l:List Int):Dk:=⟨me,dr l,zP,zP,-1⟩
def nd1(me:Int)(l:List Int):Dk:=⟨me,dr l,⟨1,dr l,dK (dr l) 1⟩,zP,-1⟩
theorem pV{L:List V}{off:Nat}{s:Stk}{obj:Name->Option O}{t nm:Name}(ho:obj nm=some (.box (L.map .v)))(hc:(L.drop off).take 19=aC s)(hs:kh s):
 S59.app obj t [.ref nm off]=⟨True,.v (n8 s),obj⟩:=
 Ro.c_app vT (a:=(L,off,s)) ⟨hc,hs⟩ (Ls:=[nm]) rfl (by simp) ⟨ho,trivial⟩
noncomputable def QQ:List (Nat×Spec):=[(34,S82),(35,S83),(36,S77),(37,S59),(38,S60)]
theorem adP:∀ f s,tbl QQ f=some s->ak Tryd.prog f s:=tc zu<|tc Lq<|tc Dl<|tc wD<|tc zw<|tn
attribute [go_sem] QQ
noncomputable def P37:PSpec:=p2 iI eH (fun _ _=>True) (fun me l=>.tup [encDk (p9 me l),vInt (p8 me l)]) false
noncomputable def S37:Spec:=P37.toSpec
attribute [go_sem] P37 S37
set_option maxHeartbeats 4000000 in
theorem TQ:aR Tryd.prog 11 P37:=by
 refine w2 (rs:=[.cell 4 44,.tmp 5]) Tryd.func11 Tryd.ntmps11 (by rfl) (by kernel_rfl) (by decide) (fun h=>by cases h) ⟨_,rfl,lb rfl,fun me l hp hw=>?_⟩
 have hP:=be
 simp only[iI,eH]at hw |-
 have hΓ:=adP
 repeat refine sq ?_
 refine rx hΓ [0,1,4] [[4,0]] (fun K' hK=>by simp only[go_sem];(repeat (refine⟨ah,?_⟩));exact hK _ (by simp only[go_sem]) (by simp only[go_sem]<;>rfl)) ?_
 refine aL (oy [4,0] _ (an zD) rfl rfl [0,1,4] [[4,0]] ?_ rfl) ?_
 ·simp only[go_sem]
 simp only[go_sem]
 repeat refine sq ?_
 refine aN ?_
 repeat refine sq ?_
 refine rx hΓ [0,1,4,7] [[4,0]] (fun K' hK=>by simp only[go_sem];(repeat (refine⟨ah,?_⟩));exact hK _ (by simp only[go_sem]) (by simp only[go_sem]<;>rfl)) ?_
 repeat refine sq ?_
 refine au rfl rfl (fun hb=>?_) (fun hb=>?_)
 ·repeat refine sq ?_
  have gg:aO me 0 5=false:=by simpa using hb
  have e1:p8 me l=94:=if_neg (by rw[gg];decide)
  have e2:p9 me l=zD:=if_neg (by unfold oM;rw[gg];exact Bool.false_ne_true)
  repeat refine sq ?_
  refine rx hΓ [4,5] [[4,0]] (fun K' hK=>by simp only[go_sem];(repeat (refine⟨ah,?_⟩));exact hK _ (by simp only[go_sem]) (by simp only[go_sem]<;>rfl)) ?_
  refine ar ?_
  simp only[go_sem]
  first | (rw[e1,e2];done) | (rw[e1,e2];rfl)
 ·repeat refine sq ?_
  have gg:aO me 0 5=true:=by simpa using hb
  repeat refine sq ?_
  refine rx hΓ [0,1,4,12] [[4,0]] (fun K' hK=>by simp only[go_sem];(repeat (refine⟨ah,?_⟩));exact hK _ (by simp only[go_sem]) (by simp only[go_sem]<;>rfl)) ?_
  repeat refine sq ?_
  refine au rfl rfl (fun hb=>?_) (fun hb=>?_)
  ·repeat refine sq ?_
   have fU:gx l=false:=by simpa using hb
   have e1:p8 me l=1:=by unfold p8;rw[if_pos gg,if_neg (by rw[fU];decide)]
   have e2:p9 me l=zD:=if_neg (by unfold oM;rw[fU,Bool.and_false];exact Bool.false_ne_true)
   repeat refine sq ?_
   refine rx hΓ [4,5] [[4,0]] (fun K' hK=>by simp only[go_sem];(repeat (refine⟨ah,?_⟩));exact hK _ (by simp only[go_sem]) (by simp only[go_sem]<;>rfl)) ?_
   refine ar ?_
   simp only[go_sem]
   first | (rw[e1,e2];done) | (rw[e1,e2];rfl)
  ·repeat refine sq ?_
   have fU:gx l=true:=by simpa using hb
   have e1:p8 me l=0:=by unfold p8;rw[if_pos gg,if_pos fU]
   have e2:p9 me l=gM me l:=if_pos (by unfold oM;rw[gg,fU];rfl)
   have sp:=I5 fU
   have ahB:=(um fU).1
   have qI:∀ (F:Name->Option O) (t:Name),F [6,0]=some (.box ((an (zd me l)).map .v))->S59.app (fun nm=>if own [0] nm=true then F nm else none) t [.ref [6,0] 1]=⟨True,.v (.agg (aC (dr l))),fun nm=>if own [0] nm=true then F nm else none⟩:=fun F t h=>pV (s:=dr l) (L:=an (zd me l)) (off:=1) h (vq (zd me l)) sp.sz
   have sN:eQ zS/\bZ 0:=⟨Jk,by decide,by decide⟩
   have pq:eQ (dr l)/\bZ 1:=⟨sp,by decide,by decide⟩
   refine ax ?_
   refine cM ?_
   simp only[go_sem]
   refine kp [0,1,4] [[4,0]] ?_
   repeat refine sq ?_
   refine rx hΓ [4,6] [[4,0],[6,0]] (fun K' hK=>by simp only[go_sem];(repeat (refine⟨ah,?_⟩));exact hK _ (by simp only[go_sem]) (by simp only[go_sem]<;>rfl)) ?_
   refine aL (oy [6,0] _ (an (zd me l)) rfl rfl [4,6] [[4,0],[6,0]] ?_ rfl) ?_
   ·simp only[go_sem]
   simp only[go_sem]
   repeat refine sq ?_
   refine dx hΓ hP [[],[0],[],[2],[0,1,2,3],[0,1,2,3,4],[],[0,1,2,3,4,5,6],[0,1,2,3,4,5,6,7]] [4,6] [[4,0],[6,0]] (by kernel_rfl) (fun K' hK=>by simp only[go_sem,qI,List.append_nil,Nat.reduceAdd];(repeat (refine⟨by first | exact pq | exact ah,?_⟩));(first | refine⟨by rfl,?_⟩ | skip);exact hK _ (by simp only[go_sem]) (by simp only[go_sem]<;>rfl)) ?_
   repeat refine sq ?_
   refine rx hΓ [4,6] [[4,0],[6,0]] (fun K' hK=>by simp only[go_sem,Nat.reduceAdd,Int.cast_ofNat_Int,Int.reduceToNat,Int.toNat_one,Nat.reduceMul];(repeat (refine⟨by first | exact sN | exact ah,?_⟩));exact hK _ (by simp only[go_sem]) (by simp only[go_sem]<;>rfl)) ?_
   refine aL (oy [6,0] _ (an (gM me l)) rfl rfl [4,6] [[4,0],[6,0]] ?_ rfl) ?_
   ·simp only[go_sem]
   simp only[go_sem]
   repeat refine sq ?_
   refine rx hΓ [4,5] [[4,0]] (fun K' hK=>by simp only[go_sem,List.append_nil];(repeat (refine⟨ah,?_⟩));exact hK _ (by simp only[go_sem]) (by simp only[go_sem]<;>rfl)) ?_
   refine ar ?_
   simp only[go_sem]
   first | (rw[e1,e2];done) | (rw[e1,e2];rfl)
theorem X2:ak Tryd.prog 11 S37:=TQ.sound
theorem bt7(s:Stk)(X:List D):List.take 61 (List.map D.v (aC s)++X)=List.map D.v (aC s)++List.take 42 X:=rfl
theorem bt8(s:Stk)(X:List D):List.drop 62 (List.map D.v (aC s)++X)=List.drop 43 X:=rfl
noncomputable def QP:List (Nat×Spec):=[(90,S84),(91,S85),(94,S63)]
theorem aj9:∀ f s,tbl QP f=some s->ak Tryd.prog f s:=tc zt<|tc Lo<|tc Dm<|tn
attribute [go_sem] QP
end Go.Eng
