import Derived.Test.YtckmfkgppohnmaaDoorK5
/- Texts NW3 to NW15. -/
set_option linter.all false
namespace Go.Eng
open Go Go.Proofs
theorem G7{s:Stk}{i p:Nat}(hp:p=(s.un.get i).length-1)(hz:((s.un.get i).length==0)=false)(b9:p<(s.un.get i).length):
 (!aT (s.se.get i) 0 99999||(!aT (s.ta.get i) 0 99999||(!cj (s.un.get i)||(((s.un.get i)[p]).no != s.se.get i))))=!fW s i:=by
 subst hp
 unfold fW
 rw[hz,getD_at b9]
 have :(((s.un.get i)[(s.un.get i).length-1]).no != s.se.get i)=!(((s.un.get i)[(s.un.get i).length-1]).no==s.se.get i):=rfl
 rw[this]
 cases aT (s.se.get i) 0 99999<;>cases aT (s.ta.get i) 0 99999<;>cases cj (s.un.get i)<;>cases ((s.un.get i)[(s.un.get i).length-1].no==s.se.get i)<;>rfl
theorem G6{s:Stk}{i:Nat}(hz:((s.un.get i).length==0)=true):
 (!aT (s.se.get i) 0 99999||(!aT (s.ta.get i) 0 99999||!cj (s.un.get i)))=!fW s i:=by
 unfold fW
 rw[hz]
 cases aT (s.se.get i) 0 99999<;>cases aT (s.ta.get i) 0 99999<;>cases cj (s.un.get i)<;>rfl
def nC(me:Int)(s:Stk):Bool:=!fZ s.ho||(!((s.un.get me.toNat).length==0)||((s.se.get me.toNat != 0)||(s.ta.get me.toNat != 0)))
theorem dU{me:Int}{s:Stk}(aY:aT me 0 5=true):cp me s=(!nC me s&&gY 6 (fW s)):=by
 unfold cp nC
 rw[aY]
 have h1:(s.se.get me.toNat != 0)=!(s.se.get me.toNat==0):=rfl
 have h2:(s.ta.get me.toNat != 0)=!(s.ta.get me.toNat==0):=rfl
 rw[h1,h2]
 cases fZ s.ho<;>cases ((s.un.get me.toNat).length==0)<;>cases (s.se.get me.toNat==0)<;>cases (s.ta.get me.toNat==0)<;>rfl
noncomputable def P89:PSpec:=p2 iI iD (fun _ _=>True) (fun me s=>.bool (cp me s)) true
noncomputable def S89:Spec:=P89.toSpec
attribute [go_sem] P89 S89
set_option maxHeartbeats 4000000 in
theorem Sj:aZ Tryd.prog 78 P89:=by
 refine w2 (rs:=[.tmp 4]) Tryd.func78 Tryd.ntmps78 (by rfl) (by kernel_rfl) (by decide) (fun _ _ _=>rfl) ⟨_,rfl,lb rfl,fun me s hp hw=>?_⟩
 have hP:=br
 simp only[iI,iD]at hw |-
 have hΓ:=PB
 repeat refine sq ?_
 refine rs hΓ [0,3] [[3,0]] ?_
 refine bq (dS [3,0] (aA s) rfl [0,3] [[3,0]] ?_ rfl) ?_
 ·simp only[go_sem]
 simp only[go_sem]
 rcases aY:aT me 0 5 with _ | _
 ·repeat refine sq ?_
  refine rx hΓ [3,37] [[3,0]] (fun K' hK=>by simp only[go_sem,aY];(repeat (refine⟨ob,?_⟩));exact hK _ (by simp only[go_sem]) (by simp only[go_sem]<;>rfl)) ?_
  repeat refine sq ?_
  refine aD rfl rfl (fun hb=>?_) (fun hb=>?_)
  ·repeat refine sq ?_
   refine rx hΓ [4] [] (fun K' hK=>by simp only[go_sem,aY];(repeat (refine⟨ob,?_⟩));exact hK _ (by simp only[go_sem]) (by simp only[go_sem]<;>rfl)) ?_
   refine ax ?_
   simp only[go_sem]
   first | (simp[cp,aY];done) | (rw[dU aY,cZ];rfl) | (rw[dU aY,cZ,gI ae bV];rfl) | (rw[dU aY,cZ,hR];rfl)
  ·cases hb
 ·have hm:=ck.1 aY
  have hk:me.toNat<6:=by omega
  have eR:0<=me:=hm.1
  have e7:me<6:=by omega
  repeat refine sq ?_
  refine rx hΓ [3,37] [[3,0]] (fun K' hK=>by simp only[go_sem,aY,eR,e7,dw s hk,eh s hk,dV s hk,ev];(repeat (refine⟨ob,?_⟩));exact hK _ (by simp only[go_sem]) (by simp only[go_sem]<;>rfl)) ?_
  repeat refine sq ?_
  refine aD rfl rfl (fun hb=>?_) (fun hb=>?_)
  ·repeat refine sq ?_
   have cZ:nC me s=true:=by simpa[nC,<-Bool.or_assoc]using hb
   repeat refine sq ?_
   refine rx hΓ [4] [] (fun K' hK=>by simp only[go_sem,aY,eR,e7,dw s hk,eh s hk,dV s hk,ev];(repeat (refine⟨ob,?_⟩));exact hK _ (by simp only[go_sem]) (by simp only[go_sem]<;>rfl)) ?_
   refine ax ?_
   simp only[go_sem]
   first | (simp[cp,aY];done) | (rw[dU aY,cZ];rfl) | (rw[dU aY,cZ,gI ae bV];rfl) | (rw[dU aY,cZ,hR];rfl)
  ·repeat refine sq ?_
   have cZ:nC me s=false:=by simpa[nC,<-Bool.or_assoc]using hb
   refine aI ?_
   repeat refine sq ?_
   refine rx hΓ [3,39,40] [[3,0]] (fun K' hK=>by simp only[go_sem,aY,eR,e7,dw s hk,eh s hk,dV s hk,ev];(repeat (refine⟨ob,?_⟩));exact hK _ (by simp only[go_sem]) (by simp only[go_sem]<;>rfl)) ?_
   repeat refine sq ?_
   refine a8 ?_
   repeat refine sq ?_
   refine dR (fun z:Nat=>[(40,⟨true,.v (vInt z)⟩)]) (fun z=>[]) (fun z=>z<=6/\gY z (fW s)=true) (fun z=>6-z) 0 ?_ ?_ ?_ ?_
   ·exact⟨Nat.zero_le _,rfl⟩
   ·rfl
   ·rfl
   rintro i ⟨hi,hR⟩
   simp only[go_sem]
   repeat refine sq ?_
   refine rx hΓ [3,39,40,41] [[3,0]] (fun K' hK=>by simp only[go_sem,aY,eR,e7,dw s hk,eh s hk,dV s hk,ev];(repeat (refine⟨ob,?_⟩));exact hK _ (by simp only[go_sem]) (by simp only[go_sem]<;>rfl)) ?_
   repeat refine sq ?_
   refine aD rfl rfl (fun hb=>?_) (fun hb=>?_)
   ·have ae:i<6:=by have hq:(i:Int)<6:=(by simpa using hb);omega
    have aq:(i:Int)<6:=by omega
    clear hb
    obtain⟨p,hp,gB,bR⟩:=Ji (l:=s.un.get i) (sP hw.2 ae)
    repeat refine sq ?_
    refine aI ?_
    repeat refine sq ?_
    refine a8 ?_
    repeat refine sq ?_
    refine rx hΓ [3,5,6,39,40] [[3,0]] (fun K' hK=>by simp only[go_sem,aY,eR,e7,dw s hk,eh s hk,dV s hk,ev,Int.toNat_natCast,Int.natCast_nonneg,aq,aR.L_get s.un rowP default ae,Int.toNat_natCast,Int.natCast_nonneg,aq];(repeat (refine⟨ob,?_⟩));exact hK _ (by simp only[go_sem]) (by simp only[go_sem]<;>rfl)) ?_
    rcases hz:((s.un.get i).length==0)with _ | _
    ·obtain⟨b9,dC,dM⟩:=bR hz
     have eJ:=G7 gB hz b9
     repeat refine sq ?_
     refine dx hΓ hP [[],[],[0,1],[0,1,2],[0,1,2,3],[0,1,2,3,4],[0,1,2,3,4,5],[0,1,2,3,4,5,6],[0,1,2,3,4,5,6],[0,1,2,3,4,5,6,7,8],[0,1,2,3,4,5,6,7,8,9],[0,1,2,3,4,5,6,7,8,9,10],[0,1,2,3,4,5,6,7,8,9,10,11],[0,1,2,3,4,5,6,7,8,9,10,11,12],[0,1,2,3,4,5,6,7,8,9,10,11,12,13],[0,1,2,3,4,5,6,7,8,9,10,11,12,13,14],[0,1,2,3,4,5,6,7,8,9,10,11,12,13,14,15],[0,1,2,3,4,5,6,7,8,9,10,11,12,13,14,15,16],[0,1,2,3,4,5,6,7,8,9,10,11,12,13,14,15,16,17],[0,1,2,3,4,5,6,7,8,9,10,11,12,13,14,15,16,17,18],[0,1,2,3,4,5,6,7,8,9,10,11,12,13,14,15,16,17,18,19],[0,1,2,3,4,5,6,7,8,9,10,11,12,13,14,15,16,17,18,19,20],[0,1,2,3,4,5,6,7,8,9,10,11,12,13,14,15,16,17,18,19,20,21],[0,1,2,3,4,5,6,7,8,9,10,11,12,13,14,15,16,17,18,19,20,21,22],[0,1,2,3,4,5,6,7,8,9,10,11,12,13,14,15,16,17,18,19,20,21,22,23],[0,1,2,3,4,5,6,7,8,9,10,11,12,13,14,15,16,17,18,19,20,21,22,23],[0,1,2,3,4,5,6,7,8,9,10,11,12,13,14,15,16,17,18,19,20,21,22,23,25],[0,1,2,3,4,5,6,7,8,9,10,11,12,13,14,15,16,17,18,19,20,21,22,23,25,26],[0,1,2,3,4,5,6,7,8,9,10,11,12,13,14,15,16,17,18,19,20,21,22,23,24,25,26,27],[0,1,2,3,4,5,6,7,8,9,10,11,12,13,14,15,16,17,18,19,20,21,22,23,24,25,26,27,28],[0,1,2,3,4,5,6,7,8,9,10,11,12,13,14,15,16,17,18,19,20,21,22,23,24,25,26,27,28,29],[0,1,2,3,4,5,6,7,8,9,10,11,12,13,14,15,16,17,18,19,20,21,22,23],[0,1,2,3,4,5,6,7,8,9,10,11,12,13,14,15,16,17,18,19,20,21,22,23],[0,1,2,3,4,5,6,7,8,9,10,11,12,13,14,15,16,17,18,19,20,21,22,23,31,32],[0,1,2,3,4,5,6,7,8,9,10,11,12,13,14,15,16,17,18,19,20,21,22,23,31,32,33],[0,1,2,3,4,5,6,7,8,9,10,11,12,13,14,15,16,17,18,19,20,21,22,23,24,25,26,27,28,29,30,31,32,33,34],[0,1,2,3,4,5,6,7,8,9,10,11,12,13,14,15,16,17,18,19,20,21,22,23,24,25,26,27,28,29,30,31,32,33,34,35],[0,1,2,3,4,5,6,7,8,9,10,11,12,13,14,15,16,17,18,19,20,21,22,23,24,25,26,27,28,29,30,31,32,33,34,35,36]] [3,39,40,81] [[3,0]] (by kernel_rfl) (fun K' hK=>by simp only[go_sem,aY,eR,e7,dw s hk,eh s hk,dV s hk,ev,Int.toNat_natCast,Int.natCast_nonneg,aq,hz,hp,dC,dM,aK b9,eh s ae,dV s ae,Int.toNat_natCast,Int.natCast_nonneg,aq,ev];(repeat (refine⟨by first | exact ob | exact⟨dC,dM,rfl⟩ | exact fun _=>⟨dC,dM,rfl⟩,?_⟩));(first | refine⟨by rfl,?_⟩ | skip);exact hK _ (by simp only[go_sem]) (by simp only[go_sem]<;>rfl)) ?_
     repeat refine sq ?_
     refine aD rfl rfl (fun hb=>?_) (fun hb=>?_)
     ·repeat refine sq ?_
      have bV:fW s i=false:=by simpa[<-Bool.or_assoc,hb]using eJ.symm
      repeat refine sq ?_
      refine rx hΓ [4] [] (fun K' hK=>by simp only[go_sem,aY,eR,e7,dw s hk,eh s hk,dV s hk,ev,Int.toNat_natCast,Int.natCast_nonneg,aq,hz,hp,dC,dM,aK b9];(repeat (refine⟨ob,?_⟩));exact hK _ (by simp only[go_sem]) (by simp only[go_sem]<;>rfl)) ?_
      refine ax ?_
      simp only[go_sem]
      first | (simp[cp,aY];done) | (rw[dU aY,cZ];rfl) | (rw[dU aY,cZ,gI ae bV];rfl) | (rw[dU aY,cZ,hR];rfl)
     ·repeat refine sq ?_
      have bL:fW s i=true:=by simpa[<-Bool.or_assoc,hb]using eJ.symm
      refine aI ?_
      refine eo ?_
      simp only[go_sem]
      refine kp [3,39,40] [[3,0]] ?_
      repeat refine sq ?_
      refine bc hΓ fun K' hK=>?_
      simp only[go_sem,aY,eR,e7,dw s hk,eh s hk,dV s hk,ev,Int.toNat_natCast,Int.natCast_nonneg,aq,hz,hp,dC,dM,aK b9]
      repeat (refine⟨ob,?_⟩)
      refine hK _ ?_
      clear K' hK
      simp only[go_sem]
      refine⟨i+1,⟨ae,?_⟩,by(show 6-(i+1)<6-i;omega),?_⟩
      ·exact mL hR bL
      refine bJ [3,39,40] [[3,0]] ?_ ?_
      ·simp only[go_sem,aM ae (lb rfl:(6:Nat)<=maxLen),Int.natCast_add,Int.natCast_one]
      ·simp only[go_sem,aM ae (lb rfl:(6:Nat)<=maxLen),Int.natCast_add,Int.natCast_one]
    ·have eJ:=G6 hz
     repeat refine sq ?_
     refine dx hΓ hP [[],[],[0,1],[0,1,2],[0,1,2,3],[0,1,2,3,4],[0,1,2,3,4,5],[0,1,2,3,4,5,6],[0,1,2,3,4,5,6],[0,1,2,3,4,5,6,7,8],[0,1,2,3,4,5,6,7,8,9],[0,1,2,3,4,5,6,7,8,9,10],[0,1,2,3,4,5,6,7,8,9,10,11],[0,1,2,3,4,5,6,7,8,9,10,11,12],[0,1,2,3,4,5,6,7,8,9,10,11,12,13],[0,1,2,3,4,5,6,7,8,9,10,11,12,13,14],[0,1,2,3,4,5,6,7,8,9,10,11,12,13,14,15],[0,1,2,3,4,5,6,7,8,9,10,11,12,13,14,15,16],[0,1,2,3,4,5,6,7,8,9,10,11,12,13,14,15,16,17],[0,1,2,3,4,5,6,7,8,9,10,11,12,13,14,15,16,17,18],[0,1,2,3,4,5,6,7,8,9,10,11,12,13,14,15,16,17,18,19],[0,1,2,3,4,5,6,7,8,9,10,11,12,13,14,15,16,17,18,19,20],[0,1,2,3,4,5,6,7,8,9,10,11,12,13,14,15,16,17,18,19,20,21],[0,1,2,3,4,5,6,7,8,9,10,11,12,13,14,15,16,17,18,19,20,21,22],[0,1,2,3,4,5,6,7,8,9,10,11,12,13,14,15,16,17,18,19,20,21,22,23],[0,1,2,3,4,5,6,7,8,9,10,11,12,13,14,15,16,17,18,19,20,21,22,23],[0,1,2,3,4,5,6,7,8,9,10,11,12,13,14,15,16,17,18,19,20,21,22,23,25],[0,1,2,3,4,5,6,7,8,9,10,11,12,13,14,15,16,17,18,19,20,21,22,23,25,26],[0,1,2,3,4,5,6,7,8,9,10,11,12,13,14,15,16,17,18,19,20,21,22,23,24,25,26,27],[0,1,2,3,4,5,6,7,8,9,10,11,12,13,14,15,16,17,18,19,20,21,22,23,24,25,26,27,28],[0,1,2,3,4,5,6,7,8,9,10,11,12,13,14,15,16,17,18,19,20,21,22,23,24,25,26,27,28,29],[0,1,2,3,4,5,6,7,8,9,10,11,12,13,14,15,16,17,18,19,20,21,22,23],[0,1,2,3,4,5,6,7,8,9,10,11,12,13,14,15,16,17,18,19,20,21,22,23],[0,1,2,3,4,5,6,7,8,9,10,11,12,13,14,15,16,17,18,19,20,21,22,23,31,32],[0,1,2,3,4,5,6,7,8,9,10,11,12,13,14,15,16,17,18,19,20,21,22,23,31,32,33],[0,1,2,3,4,5,6,7,8,9,10,11,12,13,14,15,16,17,18,19,20,21,22,23,24,25,26,27,28,29,30,31,32,33,34],[0,1,2,3,4,5,6,7,8,9,10,11,12,13,14,15,16,17,18,19,20,21,22,23,24,25,26,27,28,29,30,31,32,33,34,35],[0,1,2,3,4,5,6,7,8,9,10,11,12,13,14,15,16,17,18,19,20,21,22,23,24,25,26,27,28,29,30,31,32,33,34,35,36]] [3,39,40,81] [[3,0]] (by kernel_rfl) (fun K' hK=>by simp only[go_sem,aY,eR,e7,dw s hk,eh s hk,dV s hk,ev,Int.toNat_natCast,Int.natCast_nonneg,aq,hz,eh s ae,dV s ae,Int.toNat_natCast,Int.natCast_nonneg,aq,ev];(repeat (refine⟨by first | exact ob | exact⟨dC,dM,rfl⟩ | exact fun _=>⟨dC,dM,rfl⟩,?_⟩));(first | refine⟨by rfl,?_⟩ | skip);exact hK _ (by simp only[go_sem]) (by simp only[go_sem]<;>rfl)) ?_
     repeat refine sq ?_
     refine aD rfl rfl (fun hb=>?_) (fun hb=>?_)
     ·repeat refine sq ?_
      have bV:fW s i=false:=by simpa[<-Bool.or_assoc,hb]using eJ.symm
      repeat refine sq ?_
      refine rx hΓ [4] [] (fun K' hK=>by simp only[go_sem,aY,eR,e7,dw s hk,eh s hk,dV s hk,ev,Int.toNat_natCast,Int.natCast_nonneg,aq,hz];(repeat (refine⟨ob,?_⟩));exact hK _ (by simp only[go_sem]) (by simp only[go_sem]<;>rfl)) ?_
      refine ax ?_
      simp only[go_sem]
      first | (simp[cp,aY];done) | (rw[dU aY,cZ];rfl) | (rw[dU aY,cZ,gI ae bV];rfl) | (rw[dU aY,cZ,hR];rfl)
     ·repeat refine sq ?_
      have bL:fW s i=true:=by simpa[<-Bool.or_assoc,hb]using eJ.symm
      refine aI ?_
      refine eo ?_
      simp only[go_sem]
      refine kp [3,39,40] [[3,0]] ?_
      repeat refine sq ?_
      refine bc hΓ fun K' hK=>?_
      simp only[go_sem,aY,eR,e7,dw s hk,eh s hk,dV s hk,ev,Int.toNat_natCast,Int.natCast_nonneg,aq,hz]
      repeat (refine⟨ob,?_⟩)
      refine hK _ ?_
      clear K' hK
      simp only[go_sem]
      refine⟨i+1,⟨ae,?_⟩,by(show 6-(i+1)<6-i;omega),?_⟩
      ·exact mL hR bL
      refine bJ [3,39,40] [[3,0]] ?_ ?_
      ·simp only[go_sem,aM ae (lb rfl:(6:Nat)<=maxLen),Int.natCast_add,Int.natCast_one]
      ·simp only[go_sem,aM ae (lb rfl:(6:Nat)<=maxLen),Int.natCast_add,Int.natCast_one]
   ·have bo:i=6:=by
     have :¬ (i:Int)<6:=by simpa using hb
     omega
    clear hb
    subst bo
    repeat refine sq ?_
    refine di ?_
    simp only[go_sem]
    refine kp [] [] ?_
    repeat refine sq ?_
    refine rx hΓ [4] [] (fun K' hK=>by simp only[go_sem,aY,eR,e7,dw s hk,eh s hk,dV s hk,ev];(repeat (refine⟨ob,?_⟩));exact hK _ (by simp only[go_sem]) (by simp only[go_sem]<;>rfl)) ?_
    refine ax ?_
    simp only[go_sem]
    first | (simp[cp,aY];done) | (rw[dU aY,cZ];rfl) | (rw[dU aY,cZ,gI ae bV];rfl) | (rw[dU aY,cZ,hR];rfl)
theorem CO:ak Tryd.prog 78 S89:=Sj.sound
def eM(me:Int)(s:Stk):Int:=if cp me s=true then 0 else 90
def nV(s:Stk):Bool:=!gY 6 fun m=>!cp m s
def fx(b:Bag):Bool:=aT b.fr 0 5&&aT b.to 0 5&&(b.fr != b.to)&&cj b.ps&&aT b.ta 0 99999
def sE(b:Bag):Int:=if fx b=true then 0 else 93
noncomputable def P43:PSpec:=p2 iI iD (fun _ _=>True) (fun me s=>vInt (eM me s)) true
noncomputable def S43:Spec:=P43.toSpec
attribute [go_sem] P43 S43
set_option maxHeartbeats 4000000 in
theorem SK:aZ Tryd.prog 84 P43:=by
 refine w2 (rs:=[.tmp 4]) Tryd.func84 Tryd.ntmps84 (by rfl) (by kernel_rfl) (by decide) (fun _ _ _=>rfl) ⟨_,rfl,lb rfl,fun me s hp hw=>?_⟩
 have hP:=br
 simp only[iI,iD]at hw |-
 have hΓ:=PB
 repeat refine sq ?_
 refine rs hΓ [0,3] [[3,0]] ?_
 refine bq (dS [3,0] (aA s) rfl [0,3] [[3,0]] ?_ rfl) ?_
 ·simp only[go_sem]
 simp only[go_sem]
 rcases aY:aT me 0 5 with _ | _
 ·repeat refine sq ?_
  refine rx hΓ [3,37] [[3,0]] (fun K' hK=>by simp only[go_sem,aY];(repeat (refine⟨ob,?_⟩));exact hK _ (by simp only[go_sem]) (by simp only[go_sem]<;>rfl)) ?_
  repeat refine sq ?_
  refine aD rfl rfl (fun hb=>?_) (fun hb=>?_)
  ·repeat refine sq ?_
   refine rx hΓ [4] [] (fun K' hK=>by simp only[go_sem,aY];(repeat (refine⟨ob,?_⟩));exact hK _ (by simp only[go_sem]) (by simp only[go_sem]<;>rfl)) ?_
   refine ax ?_
   simp only[go_sem]
   first | (simp[eM,cp,aY];done) | (unfold eM;rw[dU aY,cZ];rfl) | (unfold eM;rw[dU aY,cZ,gI ae bV];rfl) | (unfold eM;rw[dU aY,cZ,hR];rfl)
  ·cases hb
 ·have hm:=ck.1 aY
  have hk:me.toNat<6:=by omega
  have eR:0<=me:=hm.1
  have e7:me<6:=by omega
  repeat refine sq ?_
  refine rx hΓ [3,37] [[3,0]] (fun K' hK=>by simp only[go_sem,aY,eR,e7,dw s hk,eh s hk,dV s hk,ev];(repeat (refine⟨ob,?_⟩));exact hK _ (by simp only[go_sem]) (by simp only[go_sem]<;>rfl)) ?_
  repeat refine sq ?_
  refine aD rfl rfl (fun hb=>?_) (fun hb=>?_)
  ·repeat refine sq ?_
   have cZ:nC me s=true:=by simpa[nC,<-Bool.or_assoc]using hb
   repeat refine sq ?_
   refine rx hΓ [4] [] (fun K' hK=>by simp only[go_sem,aY,eR,e7,dw s hk,eh s hk,dV s hk,ev];(repeat (refine⟨ob,?_⟩));exact hK _ (by simp only[go_sem]) (by simp only[go_sem]<;>rfl)) ?_
   refine ax ?_
   simp only[go_sem]
   first | (simp[eM,cp,aY];done) | (unfold eM;rw[dU aY,cZ];rfl) | (unfold eM;rw[dU aY,cZ,gI ae bV];rfl) | (unfold eM;rw[dU aY,cZ,hR];rfl)
  ·repeat refine sq ?_
   have cZ:nC me s=false:=by simpa[nC,<-Bool.or_assoc]using hb
   refine aI ?_
   repeat refine sq ?_
   refine rx hΓ [3,5] [[3,0]] (fun K' hK=>by simp only[go_sem,aY,eR,e7,dw s hk,eh s hk,dV s hk,ev];(repeat (refine⟨ob,?_⟩));exact hK _ (by simp only[go_sem]) (by simp only[go_sem]<;>rfl)) ?_
   repeat refine sq ?_
   refine a8 ?_
   repeat refine sq ?_
   refine dR (fun z:Nat=>[(5,⟨true,.v (vInt z)⟩)]) (fun z=>[]) (fun z=>z<=6/\gY z (fW s)=true) (fun z=>6-z) 0 ?_ ?_ ?_ ?_
   ·exact⟨Nat.zero_le _,rfl⟩
   ·rfl
   ·rfl
   rintro i ⟨hi,hR⟩
   simp only[go_sem]
   repeat refine sq ?_
   refine rx hΓ [3,5,39] [[3,0]] (fun K' hK=>by simp only[go_sem,aY,eR,e7,dw s hk,eh s hk,dV s hk,ev];(repeat (refine⟨ob,?_⟩));exact hK _ (by simp only[go_sem]) (by simp only[go_sem]<;>rfl)) ?_
   repeat refine sq ?_
   refine aD rfl rfl (fun hb=>?_) (fun hb=>?_)
   ·have ae:i<6:=by have hq:(i:Int)<6:=(by simpa using hb);omega
    have aq:(i:Int)<6:=by omega
    clear hb
    obtain⟨p,hp,gB,bR⟩:=Ji (l:=s.un.get i) (sP hw.2 ae)
    repeat refine sq ?_
    refine aI ?_
    repeat refine sq ?_
    refine a8 ?_
    repeat refine sq ?_
    refine rx hΓ [3,5,6] [[3,0]] (fun K' hK=>by simp only[go_sem,aY,eR,e7,dw s hk,eh s hk,dV s hk,ev,Int.toNat_natCast,Int.natCast_nonneg,aq,dw s ae,Int.toNat_natCast,Int.natCast_nonneg,aq];(repeat (refine⟨ob,?_⟩));exact hK _ (by simp only[go_sem]) (by simp only[go_sem]<;>rfl)) ?_
    rcases hz:((s.un.get i).length==0)with _ | _
    ·obtain⟨b9,dC,dM⟩:=bR hz
     have eJ:=G7 gB hz b9
     repeat refine sq ?_
     refine dx hΓ hP [[],[],[0,1],[0,1,2],[0,1,2,3],[0,1,2,3,4],[0,1,2,3,4,5],[0,1,2,3,4,5,6],[0,1,2,3,4,5,6],[0,1,2,3,4,5,6,7,8],[0,1,2,3,4,5,6,7,8,9],[0,1,2,3,4,5,6,7,8,9,10],[0,1,2,3,4,5,6,7,8,9,10,11],[0,1,2,3,4,5,6,7,8,9,10,11,12],[0,1,2,3,4,5,6,7,8,9,10,11,12,13],[0,1,2,3,4,5,6,7,8,9,10,11,12,13,14],[0,1,2,3,4,5,6,7,8,9,10,11,12,13,14,15],[0,1,2,3,4,5,6,7,8,9,10,11,12,13,14,15,16],[0,1,2,3,4,5,6,7,8,9,10,11,12,13,14,15,16,17],[0,1,2,3,4,5,6,7,8,9,10,11,12,13,14,15,16,17,18],[0,1,2,3,4,5,6,7,8,9,10,11,12,13,14,15,16,17,18,19],[0,1,2,3,4,5,6,7,8,9,10,11,12,13,14,15,16,17,18,19,20],[0,1,2,3,4,5,6,7,8,9,10,11,12,13,14,15,16,17,18,19,20,21],[0,1,2,3,4,5,6,7,8,9,10,11,12,13,14,15,16,17,18,19,20,21,22],[0,1,2,3,4,5,6,7,8,9,10,11,12,13,14,15,16,17,18,19,20,21,22,23],[0,1,2,3,4,5,6,7,8,9,10,11,12,13,14,15,16,17,18,19,20,21,22,23],[0,1,2,3,4,5,6,7,8,9,10,11,12,13,14,15,16,17,18,19,20,21,22,23,25],[0,1,2,3,4,5,6,7,8,9,10,11,12,13,14,15,16,17,18,19,20,21,22,23,25,26],[0,1,2,3,4,5,6,7,8,9,10,11,12,13,14,15,16,17,18,19,20,21,22,23,24,25,26,27],[0,1,2,3,4,5,6,7,8,9,10,11,12,13,14,15,16,17,18,19,20,21,22,23,24,25,26,27,28],[0,1,2,3,4,5,6,7,8,9,10,11,12,13,14,15,16,17,18,19,20,21,22,23,24,25,26,27,28,29],[0,1,2,3,4,5,6,7,8,9,10,11,12,13,14,15,16,17,18,19,20,21,22,23],[0,1,2,3,4,5,6,7,8,9,10,11,12,13,14,15,16,17,18,19,20,21,22,23],[0,1,2,3,4,5,6,7,8,9,10,11,12,13,14,15,16,17,18,19,20,21,22,23,31,32],[0,1,2,3,4,5,6,7,8,9,10,11,12,13,14,15,16,17,18,19,20,21,22,23,31,32,33],[0,1,2,3,4,5,6,7,8,9,10,11,12,13,14,15,16,17,18,19,20,21,22,23,24,25,26,27,28,29,30,31,32,33,34],[0,1,2,3,4,5,6,7,8,9,10,11,12,13,14,15,16,17,18,19,20,21,22,23,24,25,26,27,28,29,30,31,32,33,34,35],[0,1,2,3,4,5,6,7,8,9,10,11,12,13,14,15,16,17,18,19,20,21,22,23,24,25,26,27,28,29,30,31,32,33,34,35,36]] [3,5,83] [[3,0]] (by kernel_rfl) (fun K' hK=>by simp only[go_sem,aY,eR,e7,dw s hk,eh s hk,dV s hk,ev,Int.toNat_natCast,Int.natCast_nonneg,aq,hz,hp,dC,dM,aK b9,eh s ae,dV s ae,Int.toNat_natCast,Int.natCast_nonneg,aq,ev];(repeat (refine⟨by first | exact ob | exact⟨dC,dM,rfl⟩ | exact fun _=>⟨dC,dM,rfl⟩,?_⟩));(first | refine⟨by rfl,?_⟩ | skip);exact hK _ (by simp only[go_sem]) (by simp only[go_sem]<;>rfl)) ?_
     repeat refine sq ?_
     refine aD rfl rfl (fun hb=>?_) (fun hb=>?_)
     ·repeat refine sq ?_
      have bV:fW s i=false:=by simpa[<-Bool.or_assoc,hb]using eJ.symm
      repeat refine sq ?_
      refine rx hΓ [4] [] (fun K' hK=>by simp only[go_sem,aY,eR,e7,dw s hk,eh s hk,dV s hk,ev,Int.toNat_natCast,Int.natCast_nonneg,aq,hz,hp,dC,dM,aK b9];(repeat (refine⟨ob,?_⟩));exact hK _ (by simp only[go_sem]) (by simp only[go_sem]<;>rfl)) ?_
      refine ax ?_
      simp only[go_sem]
      first | (simp[eM,cp,aY];done) | (unfold eM;rw[dU aY,cZ];rfl) | (unfold eM;rw[dU aY,cZ,gI ae bV];rfl) | (unfold eM;rw[dU aY,cZ,hR];rfl)
     ·repeat refine sq ?_
      have bL:fW s i=true:=by simpa[<-Bool.or_assoc,hb]using eJ.symm
      refine aI ?_
      refine eo ?_
      simp only[go_sem]
      refine kp [3,5] [[3,0]] ?_
      repeat refine sq ?_
      refine bc hΓ fun K' hK=>?_
      simp only[go_sem,aY,eR,e7,dw s hk,eh s hk,dV s hk,ev,Int.toNat_natCast,Int.natCast_nonneg,aq,hz,hp,dC,dM,aK b9]
      repeat (refine⟨ob,?_⟩)
      refine hK _ ?_
      clear K' hK
      simp only[go_sem]
      refine⟨i+1,⟨ae,?_⟩,by(show 6-(i+1)<6-i;omega),?_⟩
      ·exact mL hR bL
      refine bJ [3,5] [[3,0]] ?_ ?_
      ·simp only[go_sem,aM ae (lb rfl:(6:Nat)<=maxLen),Int.natCast_add,Int.natCast_one]
      ·simp only[go_sem,aM ae (lb rfl:(6:Nat)<=maxLen),Int.natCast_add,Int.natCast_one]
    ·have eJ:=G6 hz
     repeat refine sq ?_
     refine dx hΓ hP [[],[],[0,1],[0,1,2],[0,1,2,3],[0,1,2,3,4],[0,1,2,3,4,5],[0,1,2,3,4,5,6],[0,1,2,3,4,5,6],[0,1,2,3,4,5,6,7,8],[0,1,2,3,4,5,6,7,8,9],[0,1,2,3,4,5,6,7,8,9,10],[0,1,2,3,4,5,6,7,8,9,10,11],[0,1,2,3,4,5,6,7,8,9,10,11,12],[0,1,2,3,4,5,6,7,8,9,10,11,12,13],[0,1,2,3,4,5,6,7,8,9,10,11,12,13,14],[0,1,2,3,4,5,6,7,8,9,10,11,12,13,14,15],[0,1,2,3,4,5,6,7,8,9,10,11,12,13,14,15,16],[0,1,2,3,4,5,6,7,8,9,10,11,12,13,14,15,16,17],[0,1,2,3,4,5,6,7,8,9,10,11,12,13,14,15,16,17,18],[0,1,2,3,4,5,6,7,8,9,10,11,12,13,14,15,16,17,18,19],[0,1,2,3,4,5,6,7,8,9,10,11,12,13,14,15,16,17,18,19,20],[0,1,2,3,4,5,6,7,8,9,10,11,12,13,14,15,16,17,18,19,20,21],[0,1,2,3,4,5,6,7,8,9,10,11,12,13,14,15,16,17,18,19,20,21,22],[0,1,2,3,4,5,6,7,8,9,10,11,12,13,14,15,16,17,18,19,20,21,22,23],[0,1,2,3,4,5,6,7,8,9,10,11,12,13,14,15,16,17,18,19,20,21,22,23],[0,1,2,3,4,5,6,7,8,9,10,11,12,13,14,15,16,17,18,19,20,21,22,23,25],[0,1,2,3,4,5,6,7,8,9,10,11,12,13,14,15,16,17,18,19,20,21,22,23,25,26],[0,1,2,3,4,5,6,7,8,9,10,11,12,13,14,15,16,17,18,19,20,21,22,23,24,25,26,27],[0,1,2,3,4,5,6,7,8,9,10,11,12,13,14,15,16,17,18,19,20,21,22,23,24,25,26,27,28],[0,1,2,3,4,5,6,7,8,9,10,11,12,13,14,15,16,17,18,19,20,21,22,23,24,25,26,27,28,29],[0,1,2,3,4,5,6,7,8,9,10,11,12,13,14,15,16,17,18,19,20,21,22,23],[0,1,2,3,4,5,6,7,8,9,10,11,12,13,14,15,16,17,18,19,20,21,22,23],[0,1,2,3,4,5,6,7,8,9,10,11,12,13,14,15,16,17,18,19,20,21,22,23,31,32],[0,1,2,3,4,5,6,7,8,9,10,11,12,13,14,15,16,17,18,19,20,21,22,23,31,32,33],[0,1,2,3,4,5,6,7,8,9,10,11,12,13,14,15,16,17,18,19,20,21,22,23,24,25,26,27,28,29,30,31,32,33,34],[0,1,2,3,4,5,6,7,8,9,10,11,12,13,14,15,16,17,18,19,20,21,22,23,24,25,26,27,28,29,30,31,32,33,34,35],[0,1,2,3,4,5,6,7,8,9,10,11,12,13,14,15,16,17,18,19,20,21,22,23,24,25,26,27,28,29,30,31,32,33,34,35,36]] [3,5,83] [[3,0]] (by kernel_rfl) (fun K' hK=>by simp only[go_sem,aY,eR,e7,dw s hk,eh s hk,dV s hk,ev,Int.toNat_natCast,Int.natCast_nonneg,aq,hz,eh s ae,dV s ae,Int.toNat_natCast,Int.natCast_nonneg,aq,ev];(repeat (refine⟨by first | exact ob | exact⟨dC,dM,rfl⟩ | exact fun _=>⟨dC,dM,rfl⟩,?_⟩));(first | refine⟨by rfl,?_⟩ | skip);exact hK _ (by simp only[go_sem]) (by simp only[go_sem]<;>rfl)) ?_
     repeat refine sq ?_
     refine aD rfl rfl (fun hb=>?_) (fun hb=>?_)
     ·repeat refine sq ?_
      have bV:fW s i=false:=by simpa[<-Bool.or_assoc,hb]using eJ.symm
      repeat refine sq ?_
      refine rx hΓ [4] [] (fun K' hK=>by simp only[go_sem,aY,eR,e7,dw s hk,eh s hk,dV s hk,ev,Int.toNat_natCast,Int.natCast_nonneg,aq,hz];(repeat (refine⟨ob,?_⟩));exact hK _ (by simp only[go_sem]) (by simp only[go_sem]<;>rfl)) ?_
      refine ax ?_
      simp only[go_sem]
      first | (simp[eM,cp,aY];done) | (unfold eM;rw[dU aY,cZ];rfl) | (unfold eM;rw[dU aY,cZ,gI ae bV];rfl) | (unfold eM;rw[dU aY,cZ,hR];rfl)
     ·repeat refine sq ?_
      have bL:fW s i=true:=by simpa[<-Bool.or_assoc,hb]using eJ.symm
      refine aI ?_
      refine eo ?_
      simp only[go_sem]
      refine kp [3,5] [[3,0]] ?_
      repeat refine sq ?_
      refine bc hΓ fun K' hK=>?_
      simp only[go_sem,aY,eR,e7,dw s hk,eh s hk,dV s hk,ev,Int.toNat_natCast,Int.natCast_nonneg,aq,hz]
      repeat (refine⟨ob,?_⟩)
      refine hK _ ?_
      clear K' hK
      simp only[go_sem]
      refine⟨i+1,⟨ae,?_⟩,by(show 6-(i+1)<6-i;omega),?_⟩
      ·exact mL hR bL
      refine bJ [3,5] [[3,0]] ?_ ?_
      ·simp only[go_sem,aM ae (lb rfl:(6:Nat)<=maxLen),Int.natCast_add,Int.natCast_one]
      ·simp only[go_sem,aM ae (lb rfl:(6:Nat)<=maxLen),Int.natCast_add,Int.natCast_one]
   ·have bo:i=6:=by
     have :¬ (i:Int)<6:=by simpa using hb
     omega
    clear hb
    subst bo
    repeat refine sq ?_
    refine di ?_
    simp only[go_sem]
    refine kp [] [] ?_
    repeat refine sq ?_
    refine rx hΓ [4] [] (fun K' hK=>by simp only[go_sem,aY,eR,e7,dw s hk,eh s hk,dV s hk,ev];(repeat (refine⟨ob,?_⟩));exact hK _ (by simp only[go_sem]) (by simp only[go_sem]<;>rfl)) ?_
    refine ax ?_
    simp only[go_sem]
    first | (simp[eM,cp,aY];done) | (unfold eM;rw[dU aY,cZ];rfl) | (unfold eM;rw[dU aY,cZ,gI ae bV];rfl) | (unfold eM;rw[dU aY,cZ,hR];rfl)
theorem CX:ak Tryd.prog 84 S43:=SK.sound
noncomputable def K4:List (Nat×Spec):=[(78,S89),(84,S43),(34,S82),(70,S87),(71,S79),(90,S84),(93,S88),(92,S81)]
theorem Ps:∀ f s,tbl K4 f=some s->ak Tryd.prog f s:=tc CO<|tc CX<|tc yR<|tc KD<|tc CR<|tc yQ<|tc KC<|tc CQ<|tn
attribute [go_sem] K4
theorem Hf{s:Stk}{i:Nat}(hi:i<6)(h:cp i s=true):nV s=true:=by
 unfold nV
 rw[gI hi (by rw[h];rfl)];rfl
theorem ae7{me:Int}{s:Stk}:(eM me s==0)=cp me s:=by
 unfold eM
 cases cp me s<;>rfl
noncomputable def P78:PSpec:=p1 iD (fun _=>True) (fun s=>.bool (nV s)) true
noncomputable def S78:Spec:=P78.toSpec
attribute [go_sem] P78 S78
set_option maxHeartbeats 4000000 in
theorem Su:aZ Tryd.prog 62 P78:=by
 refine w1 (rs:=[.tmp 2]) Tryd.func62 Tryd.ntmps62 (by rfl) (by kernel_rfl) (by decide) (fun _ _=>rfl) ⟨_,rfl,lb rfl,fun s hp hw=>?_⟩
 have hP:=br
 simp only[iD]at hw |-
 have hΓ:=Ps
 repeat refine sq ?_
 refine rs hΓ [1] [[1,0]] ?_
 refine bq (dS [1,0] (aA s) rfl [1] [[1,0]] ?_ rfl) ?_
 ·simp only[go_sem]
 simp only[go_sem]
 repeat refine sq ?_
 refine rs hΓ [1,4] [[1,0]] ?_
 repeat refine sq ?_
 refine a8 ?_
 repeat refine sq ?_
 refine dR (fun z:Nat=>[(4,⟨true,.v (vInt z)⟩)]) (fun z=>[]) (fun z=>z<=6/\gY z (fun m=>!cp m s)=true) (fun z=>6-z) 0 ?_ ?_ ?_ ?_
 ·exact⟨Nat.zero_le _,rfl⟩
 ·rfl
 ·rfl
 rintro i ⟨hi,hR⟩
 simp only[go_sem]
 repeat refine sq ?_
 refine rs hΓ [1,4,5] [[1,0]] ?_
 repeat refine sq ?_
 refine aD rfl rfl (fun hb=>?_) (fun hb=>?_)
 ·have ae:i<6:=by have hq:(i:Int)<6:=(by simpa using hb);omega
  have aq:(i:Int)<6:=by omega
  clear hb
  repeat refine sq ?_
  refine aI ?_
  repeat refine sq ?_
  refine a8 ?_
  repeat refine sq ?_
  refine rx hΓ [1,3,4] [[1,0]] (fun K' hK=>by simp only[go_sem,Int.toNat_natCast,Int.natCast_nonneg,aq];(repeat (refine⟨ob,?_⟩));exact hK _ (by simp only[go_sem]) (by simp only[go_sem]<;>rfl)) ?_
  repeat refine sq ?_
  refine rx hΓ [1,4,9] [[1,0]] (fun K' hK=>by simp only[go_sem,Int.toNat_natCast,Int.natCast_nonneg,aq];(repeat (refine⟨ob,?_⟩));exact hK _ (by simp only[go_sem]) (by simp only[go_sem]<;>rfl)) ?_
  repeat refine sq ?_
  refine aD rfl rfl (fun hb=>?_) (fun hb=>?_)
  ·repeat refine sq ?_
   refine rx hΓ [2] [] (fun K' hK=>by simp only[go_sem,Int.toNat_natCast,Int.natCast_nonneg,aq];(repeat (refine⟨ob,?_⟩));exact hK _ (by simp only[go_sem]) (by simp only[go_sem]<;>rfl)) ?_
   refine ax ?_
   simp only[go_sem]
   first | (rw[Hf ae (by simpa using hb)];done) | (unfold nV;rw[hR];rfl)
  ·repeat refine sq ?_
   refine aI ?_
   refine eo ?_
   simp only[go_sem]
   refine kp [1,4] [[1,0]] ?_
   repeat refine sq ?_
   refine bc hΓ fun K' hK=>?_
   simp only[go_sem,Int.toNat_natCast,Int.natCast_nonneg,aq]
   repeat (refine⟨ob,?_⟩)
   refine hK _ ?_
   clear K' hK
   simp only[go_sem]
   refine⟨i+1,⟨ae,?_⟩,by(show 6-(i+1)<6-i;omega),?_⟩
   ·exact mL hR (by simpa using hb)
   refine bJ [1,4] [[1,0]] ?_ ?_
   ·simp only[go_sem,aM ae (lb rfl:(6:Nat)<=maxLen),Int.natCast_add,Int.natCast_one]
   ·simp only[go_sem,aM ae (lb rfl:(6:Nat)<=maxLen),Int.natCast_add,Int.natCast_one]
 ·have bo:i=6:=by
   have :¬ (i:Int)<6:=by simpa using hb
   omega
  clear hb
  subst bo
  repeat refine sq ?_
  refine di ?_
  simp only[go_sem]
  refine kp [] [] ?_
  repeat refine sq ?_
  refine rs hΓ [2] [] ?_
  refine ax ?_
  simp only[go_sem]
  first | (rw[Hf ae (by simpa using hb)];done) | (unfold nV;rw[hR];rfl)
theorem Ww:ak Tryd.prog 62 S78:=Su.sound
theorem Ow(b:Bag):(!aT b.fr 0 5||(!aT b.to 0 5||((b.fr==b.to)||(!cj b.ps||!aT b.ta 0 99999))))=!fx b:=by
 unfold fx
 have :(b.fr != b.to)=!(b.fr==b.to):=rfl
 rw[this]
 cases aT b.fr 0 5<;>cases aT b.to 0 5<;>cases (b.fr==b.to)<;>cases cj b.ps<;>cases aT b.ta 0 99999<;>rfl
noncomputable def P40:PSpec:=p1 nr (fun _=>True) (fun b=>vInt (sE b)) true
noncomputable def S40:Spec:=P40.toSpec
attribute [go_sem] P40 S40
set_option maxHeartbeats 4000000 in
theorem SL:aZ Tryd.prog 47 P40:=by
 refine w1 (rs:=[.tmp 2]) Tryd.func47 Tryd.ntmps47 (by rfl) (by kernel_rfl) (by decide) (fun _ _=>rfl) ⟨_,rfl,lb rfl,fun b hp hw=>?_⟩
 have hP:=br
 simp only[nr]at hw |-
 have hΓ:=Ps
 repeat refine sq ?_
 refine rs hΓ [1] [[1,0]] ?_
 refine bq (dS [1,0] (aX b) rfl [1] [[1,0]] ?_ rfl) ?_
 ·simp only[go_sem]
 simp only[go_sem]
 repeat refine sq ?_
 refine rs hΓ [31] [] ?_
 repeat refine sq ?_
 refine aD rfl rfl (fun hb=>?_) (fun hb=>?_)
 ·repeat refine sq ?_
  have bV:fx b=false:=by simpa[<-Bool.or_assoc,hb]using(Ow b).symm
  repeat refine sq ?_
  refine rs hΓ [2] [] ?_
  refine ax ?_
  simp only[go_sem]
  first | (unfold sE;rw[bV];rfl) | (unfold sE;rw[bL];rfl)
 ·repeat refine sq ?_
  have bL:fx b=true:=by simpa[<-Bool.or_assoc,hb]using(Ow b).symm
  refine aI ?_
  repeat refine sq ?_
  refine rs hΓ [2] [] ?_
  refine ax ?_
  simp only[go_sem]
  first | (unfold sE;rw[bV];rfl) | (unfold sE;rw[bL];rfl)
theorem WM:ak Tryd.prog 47 S40:=SL.sound
def ef(l:List UInt8):ByteArray:=⟨l.toArray⟩
theorem nU(a b:List UInt8):ef a++ef b=ef (a++b):=by
 apply ByteArray.ext
 simp[ef]
theorem sV(x:UInt8):(⟨[x].toArray⟩:ByteArray)=ef [x]:=rfl
theorem pq(l:List UInt8):(ef l).size=l.length:=by
 show l.toArray.size=_
 rw[List.size_toArray]
@[go_sem] theorem un3:(Tryd.prog.underlying 3).isSome=true:=by kernel_rfl
@[go_sem] theorem un5:(Tryd.prog.underlying 5).isSome=true:=by kernel_rfl
@[go_sem] theorem afY:(if (#[]:Array UInt8).size<=maxLen then D.v (.str ⟨#[]⟩)else D.any)=D.v (.str (ef [])):=by
  rw[if_pos (by unfold maxLen;decide)];rfl
theorem UG(w:ByteArray)(l:List Int):dI w l=ef (pJ w l):=rfl
theorem CZ{n:Int}(h:0<=n):Lib.itoa n=Lib.decDigits n.toNat:=by
 unfold Lib.itoa
 rw[if_neg (by omega)]
theorem Nw{m:Nat}(h:9<m):Lib.decDigits m=Lib.decDigits (m / 10)++[UInt8.ofNat (48+m % 10)]:=by
 rw[Lib.decDigits,dif_neg (by omega)]
theorem aaB(m:Nat)(hm:m<=1000000):(m:Int).tmod 10=((m % 10:Nat):Int)/\(m:Int).tdiv 10=((m / 10:Nat):Int)/\IntKind.i64.wrap (48+((m % 10:Nat):Int))=((48+m % 10:Nat):Int)/\
 IntKind.u8.wrap ((48+m % 10:Nat):Int)=((48+m % 10:Nat):Int)/\IntKind.i64.wrap ((m / 10:Nat):Int)=((m / 10:Nat):Int):=by
 refine⟨rfl,rfl,?_,?_,?_⟩
 ·rw[wrap_i64 (by omega) (by omega)];rfl
 ·have h1:48+m % 10<58:=by omega
  generalize 48+m % 10=k at h1
  simp only[IntKind.wrap,IntKind.signed,IntKind.bits]
  first | omega | (simp;omega)
 ·rw[wrap_i64 (by omega) (by omega)]
theorem sS(k:Nat):qA (.int .u8 (k:Int))=UInt8.ofNat k:=rfl
theorem Xb{k:Nat}(h:k<256):rm (.int .u8 (k:Int))=true:=by
 unfold rm
 simp
 omega
noncomputable def P125:PSpec:=p1 iI (fun n=>0<=n/\n<=1000000) (fun n=>.str (ef (Lib.itoa n))) true
noncomputable def S125:Spec:=P125.toSpec
attribute [go_sem] P125 S125
set_option maxHeartbeats 4000000 in
theorem SY:aZ Tryd.prog 106 P125:=by
 refine w1 (rs:=[.tmp 2]) Tryd.func106 Tryd.ntmps106 (by rfl) (by kernel_rfl) (by decide) (fun _ _=>rfl) ⟨_,rfl,lb rfl,fun n hp hw=>?_⟩
 have hP:=br
 simp only[iI]at hw |-
 have hΓ:=@kE Tryd.prog
 obtain⟨zm,DE⟩:=hp
 obtain⟨N,rfl⟩:∃ N:Nat,n=N:=⟨n.toNat,by omega⟩
 have hNl:(Lib.decDigits N).length<=21:=by
  have :=Lib.itoa_length_le (N:Int) (by omega) (by omega)
  rwa [CZ (by omega),Int.toNat_natCast]at this
 repeat refine sq ?_
 refine rs hΓ [0] [] ?_
 repeat refine sq ?_
 refine rs hΓ [0,3] [] ?_
 repeat refine sq ?_
 refine a8 ?_
 repeat refine sq ?_
 refine dR (fun s:Nat×List UInt8=>[(0,⟨true,.v (vInt s.1)⟩),(3,⟨true,.v (.str (ef s.2))⟩)]) (fun s=>[]) (fun s=>s.1<=N/\Lib.decDigits N=Lib.decDigits s.1++s.2) (fun s=>s.1) (N,[]) ?_ ?_ ?_ ?_
 ·exact⟨Nat.le_refl _,by simp⟩
 ·rfl
 ·rfl
 rintro⟨m,acc⟩ ⟨hi,hR⟩
 simp only[go_sem]
 replace hi:m<=N:=hi
 replace hR:Lib.decDigits N=Lib.decDigits m++acc:=hR
 have hal:acc.length<=21:=by
  have :=congrArg List.length hR
  rw[List.length_append]at this
  omega
 obtain⟨d1,d2,d3,d4,d5⟩:=aaB m (by omega)
 have r8:=Xb (k:=48+m % 10) (by omega)
 repeat refine sq ?_
 refine rs hΓ [0,3,5] [] ?_
 repeat refine sq ?_
 refine aD rfl rfl (fun hb=>?_) (fun hb=>?_)
 ·have oH:9<m:=by
   have :(m:Int)>9:=by simpa using hb
   omega
  repeat refine sq ?_
  refine aI ?_
  repeat refine sq ?_
  refine a8 ?_
  repeat refine sq ?_
  refine rx hΓ [0,3] [] (fun K' hK=>by simp only[go_sem,d1,d3,d4,r8,sS,sV,nU];(repeat (refine⟨by first | (simp only[pq,maxLen,List.length_cons,List.length_nil];omega) | exact ob,?_⟩));exact hK _ (by simp only[go_sem,d1,d3,d4,r8,sS,sV,nU]) (by simp only[go_sem,d1,d3,d4,r8,sS,sV,nU]<;>rfl)) ?_
  repeat refine sq ?_
  refine bc hΓ fun K' hK=>?_
  simp only[go_sem,d2,d5]
  repeat (refine⟨ob,?_⟩)
  refine hK _ ?_
  clear K' hK
  simp only[go_sem]
  refine⟨(m / 10,UInt8.ofNat (48+m % 10)::acc),⟨by show m / 10<=N;omega,?_⟩,by show m / 10<m;omega,?_⟩
  ·rw[hR,Nw oH,List.append_assoc];rfl
  refine bJ [0,3] [] ?_ ?_
  ·simp only[go_sem]
  ·simp only[go_sem]
 ·have hle:m<=9:=by
   have :¬ (m:Int)>9:=by simpa using hb
   omega
  have Yk:m % 10=m:=by omega
  rw[Yk]at d3 d4 r8
  have Dd:IntKind.i64.wrap (48+(m:Int))=((48+m:Nat):Int):=d3
  repeat refine sq ?_
  refine di ?_
  simp only[go_sem]
  refine kp [0,3] [] ?_
  repeat refine sq ?_
  refine rx hΓ [2] [] (fun K' hK=>by simp only[go_sem,Dd,d4,r8,sS,sV,nU];(repeat (refine⟨by first | (simp only[pq,maxLen,List.length_cons,List.length_nil];omega) | exact ob,?_⟩));exact hK _ (by simp only[go_sem,Dd,d4,r8,sS,sV,nU]) (by simp only[go_sem,Dd,d4,r8,sS,sV,nU]<;>rfl)) ?_
  refine ax ?_
  simp only[go_sem]
  have :Lib.decDigits m=[UInt8.ofNat (48+m)]:=Lib.decDigits_one (by omega)
  rw[CZ (by omega),Int.toNat_natCast,hR,this]
  all_goals first | rfl | (simp;done)
theorem WT:ak Tryd.prog 106 S125:=SY.sound
@[go_sem] theorem afV:(if (#[32]:Array UInt8).size<=maxLen then D.v (.str ⟨#[32]⟩)else D.any)=D.v (.str (ef [32])):=by
  rw[if_pos (by unfold maxLen;decide)];rfl
@[go_sem] theorem afX:(if (#[10]:Array UInt8).size<=maxLen then D.v (.str ⟨#[10]⟩)else D.any)=D.v (.str (ef [10])):=by
  rw[if_pos (by unfold maxLen;decide)];rfl
def bU(n:Int):Prop:=0<=n/\n<=1000000
theorem qY{n:Int}(h:bU n):rv n:=⟨by have:=h.1;omega,by have:=h.2;omega⟩
theorem W6{n:Int}(h:bU n):(Lib.itoa n).length<=21:=Lib.itoa_length_le n (qY h).1 (qY h).2
theorem jF{α:Type}{l:List α}{k:Nat}(h:k<l.length)(z:α):l.getD k z=l[k]:=by
 simp[List.getD,List.getElem?_eq_getElem h]
def lZ(w:ByteArray)(l:List Int):Nat->ByteArray
 | 0=>w
 |i+1=>lZ w l i++ef (32::Lib.itoa (l.getD i 0))
theorem BR(w:ByteArray)(l:List Int):∀ k,k<=l.length->lZ w l k=ef (jW w l k)
 | 0,_=>by
   unfold jW
   rw[List.take_zero,List.flatMap_nil,List.append_nil]
   rfl
 |k+1,h=>by
  rw[lZ,BR w l k (by omega),CA w l (by omega),nU,jF (show k<l.length by omega)]
theorem BQ{w:ByteArray}{l:List Int}(hl:∀ n∈l,bU n){k:Nat}(h:k<=l.length):(lZ w l k).size<=w.size+22*k:=by
 rw[BR w l k h,pq]
 exact yJ w l (fun n hn=>qY (hl n hn)) k h
theorem Ib{w:ByteArray}{l:List Int}:lZ w l l.length++ef [10]=dI w l:=by
 rw[BR w l _ (Nat.le_refl _),nU]
 rfl
noncomputable def K6:List (Nat×Spec):=[(106,S125)]
theorem acf:∀ f s,tbl K6 f=some s->ak Tryd.prog f s:=tc WT<|tn
attribute [go_sem] K6
noncomputable def P111:PSpec:=p2 tT dJ (fun w l=>w.size<=1000/\l.length<=1000000/\∀ n∈l,bU n) (fun w l=>.str (dI w l)) true
noncomputable def S111:Spec:=P111.toSpec
attribute [go_sem] P111 S111
set_option maxHeartbeats 4000000 in
theorem S3:aZ Tryd.prog 101 P111:=by
 refine w2 (rs:=[.tmp 4]) Tryd.func101 Tryd.ntmps101 (by rfl) (by kernel_rfl) (by decide) (fun _ _ _=>rfl) ⟨_,rfl,lb rfl,fun w l hp hw=>?_⟩
 have hP:=br
 simp only[dJ,tT]at hw |-
 have hΓ:=acf
 obtain⟨DE,rJ,DD⟩:=hp
 have hl:l.length<=maxLen:=by unfold maxLen;omega
 repeat refine sq ?_
 refine rs hΓ [0,1] [] ?_
 repeat refine sq ?_
 refine rs hΓ [0,1,5] [] ?_
 repeat refine sq ?_
 refine a8 ?_
 repeat refine sq ?_
 refine dR (fun s:Nat=>[(5,⟨true,.v (vInt s)⟩),(0,⟨true,.v (.str (lZ w l s))⟩)]) (fun s=>[]) (fun s=>s<=l.length) (fun s=>l.length-s) 0 ?_ ?_ ?_ ?_
 ·exact Nat.zero_le _
 ·rfl
 ·rfl
 rintro i hi
 simp only[go_sem]
 repeat refine sq ?_
 refine rs hΓ [0,1,5,9] [] ?_
 repeat refine sq ?_
 refine aD rfl rfl (fun hb=>?_) (fun hb=>?_)
 ·have ae:i<l.length:=by simpa using hb
  have aq:(i:Int)<l.length:=by omega
  clear hb
  have hn:=DD _ (List.getElem_mem ae)
  have LH:=hn.1
  have Yh:=hn.2
  have ew:=W6 hn
  have tU:=BQ (w:=w) DD (Nat.le_of_lt ae)
  have jd:(ef [32]).size+(ef (Lib.itoa l[i])).size<=maxLen:=by rw[pq,pq];unfold maxLen;simp only[List.length_cons,List.length_nil];omega
  have mc:(lZ w l i).size+(ef (32::Lib.itoa l[i])).size<=maxLen:=by rw[pq];unfold maxLen;simp only[List.length_cons];omega
  have he:lZ w l i++ef (32::Lib.itoa l[i])=lZ w l (i+1):=by rw[lZ,jF ae]
  repeat refine sq ?_
  refine aI ?_
  repeat refine sq ?_
  refine a8 ?_
  repeat refine sq ?_
  refine bc hΓ fun K' hK=>?_
  simp only[go_sem,Int.toNat_natCast,Int.natCast_nonneg,aq,aK ae,aK ae,Int.toNat_natCast,Int.natCast_nonneg,aq,jd,mc,nU,he]
  repeat (refine⟨ob,?_⟩)
  refine hK _ ?_
  clear K' hK
  simp only[go_sem]
  refine kp [0,1,5] [] ?_
  repeat refine sq ?_
  refine bc hΓ fun K' hK=>?_
  simp only[go_sem,Int.toNat_natCast,Int.natCast_nonneg,aq,aK ae]
  repeat (refine⟨ob,?_⟩)
  refine hK _ ?_
  clear K' hK
  simp only[go_sem]
  refine⟨i+1,ae,by(show l.length-(i+1)<l.length-i;omega),?_⟩
  refine bJ [0,1,5] [] ?_ ?_
  ·simp only[go_sem,aM ae hl,Int.natCast_add,Int.natCast_one]
  ·simp only[go_sem,aM ae hl,Int.natCast_add,Int.natCast_one]
 ·have bo:i=l.length:=by
   have :¬ (i:Int)<l.length:=by simpa using hb
   omega
  clear hb
  subst bo
  have tU:=BQ (w:=w) DD (Nat.le_refl _)
  have rA:(lZ w l l.length).size+(ef [10]).size<=maxLen:=by rw[pq];unfold maxLen;simp only[List.length_cons,List.length_nil];omega
  repeat refine sq ?_
  refine di ?_
  simp only[go_sem]
  refine kp [0] [] ?_
  repeat refine sq ?_
  refine rx hΓ [4] [] (fun K' hK=>by simp only[go_sem,rA,Ib];(repeat (refine⟨ob,?_⟩));exact hK _ (by simp only[go_sem]) (by simp only[go_sem]<;>rfl)) ?_
  refine ax ?_
  simp only[go_sem]
  skip
theorem WW:ak Tryd.prog 101 S111:=S3.sound
theorem MA{α:Type}{l:List α}{x:α}(h:x∈l)(z:α):∃ k,k<l.length/\l.getD k z=x:=by
 obtain⟨k,hk,rfl⟩:=List.mem_iff_getElem.1 h
 exact⟨k,hk,jF hk z⟩
structure eH (s:Stk):Prop where
 hol:s.ho.length<=40
 ho:∀ n∈s.ho,bU n
 unl:∀ i,i<6->(s.un.get i).length<=40
 un:∀ i,i<6->∀ p∈s.un.get i,bU p.no/\bU p.pa
 se:∀ i,i<6->bU (s.se.get i)
 ta:∀ i,i<6->bU (s.ta.get i)
theorem rr{n lo hi:Int}(h:aT n lo hi=true)(h0:0<=lo)(h1:hi<=1000000):bU n:=by
 obtain⟨a,b⟩:=ck.1 h
 exact⟨by omega,by omega⟩
theorem tp{l:List Int}(h:fZ l=true):l.length<=40/\∀ n∈l,bU n:=by
 unfold fZ at h
 rw[Bool.and_eq_true,decide_eq_true_eq,iS]at h
 refine⟨h.2,fun n hn=>?_⟩
 obtain⟨k,hk,rfl⟩:=MA hn 0
 have :=h.1 k hk
 unfold kC at this
 rw[Bool.and_eq_true]at this
 exact rr this.1 (by omega) (by omega)
theorem Il{l:List Par}(h:cj l=true):l.length<=40/\∀ p∈l,bU p.no/\bU p.pa:=by
 unfold cj at h
 rw[Bool.and_eq_true,decide_eq_true_eq,iS]at h
 refine⟨h.2,fun n hn=>?_⟩
 obtain⟨k,hk,rfl⟩:=MA hn default
 have :=h.1 k hk
 unfold fY at this
 rw[Bool.and_eq_true,Bool.and_eq_true]at this
 exact⟨rr this.1.1 (by omega) (by omega),rr this.1.2 (by omega) (by omega)⟩
theorem tD{me:Int}{s:Stk}(h:cp me s=true):eH s:=by
 unfold cp at h
 simp only[Bool.and_eq_true]at h
 obtain⟨⟨⟨⟨⟨h0,h1⟩,h2⟩,h3⟩,h4⟩,h5⟩:=h
 have hA:=iS.1 h5
 have hB:∀ i,i<6->aT (s.se.get i) 0 99999=true/\aT (s.ta.get i) 0 99999=true/\cj (s.un.get i)=true:=by
  intro i hi
  have :=hA i hi
  unfold fW at this
  simp only[Bool.and_eq_true]at this
  exact⟨this.1.1.1,this.1.1.2,this.1.2⟩
 exact⟨(tp h1).1,(tp h1).2,fun i hi=>(Il (hB i hi).2.2).1,fun i hi=>(Il (hB i hi).2.2).2,fun i hi=>rr (hB i hi).1 (by omega) (by omega),fun i hi=>rr (hB i hi).2.1 (by omega) (by omega)⟩
theorem afN{s:Stk}(h:nV s=true):eH s:=by
 unfold nV at h
 rcases Classical.em (∃ m:Nat,m<6/\cp m s=true)with⟨m,hm,hb⟩ | hn
 ·exact tD hb
 ·exfalso
  rw[iS.2 fun j hj=>by
   cases hb:cp (j:Int) s with
   |false=>rfl
   |true=>exact absurd ⟨j,hj,hb⟩ hn]at h
  exact absurd h (by decide)
def qy:ByteArray:=ef [104,111,108,100,115]
def kq:ByteArray:=ef [117,110,100,101,114]
def lj:ByteArray:=ef [115,101,110,116]
def mX:ByteArray:=ef [116,97,107,101,110]
@[go_sem] theorem afZ:(if (#[104,111,108,100,115]:Array UInt8).size<=maxLen then D.v (.str ⟨#[104,111,108,100,115]⟩)else D.any)=D.v (.str qy):=by
  rw[if_pos (by unfold maxLen;decide)];rfl
@[go_sem] theorem afT:(if (#[117,110,100,101,114]:Array UInt8).size<=maxLen then D.v (.str ⟨#[117,110,100,101,114]⟩)else D.any)=D.v (.str kq):=by
  rw[if_pos (by unfold maxLen;decide)];rfl
@[go_sem] theorem afW:(if (#[115,101,110,116]:Array UInt8).size<=maxLen then D.v (.str ⟨#[115,101,110,116]⟩)else D.any)=D.v (.str lj):=by
  rw[if_pos (by unfold maxLen;decide)];rfl
@[go_sem] theorem afU:(if (#[116,97,107,101,110]:Array UInt8).size<=maxLen then D.v (.str ⟨#[116,97,107,101,110]⟩)else D.any)=D.v (.str mX):=by
  rw[if_pos (by unfold maxLen;decide)];rfl
def gK(a:ByteArray)(i:Nat)(l:List Par):Nat->ByteArray
 | 0=>a
 |j+1=>gK a i l j++dI kq [(i:Int),(l.getD j default).no,(l.getD j default).pa]
def eF(s:Stk):Nat->ByteArray
 | 0=>dI qy s.ho
 |i+1=>gK (eF s i) i (s.un.get i) (s.un.get i).length
theorem yh(s:Stk)(i:Nat):gK (eF s i) i (s.un.get i) (s.un.get i).length=eF s (i+1):=rfl
def cX(s:Stk):ByteArray:=eF s 6++dI lj (s.se.L id)++dI mX (s.ta.L id)
theorem yI{w:ByteArray}{l:List Int}(h:∀ n∈l,bU n):(dI w l).size<=w.size+22*l.length+1:=by
 rw[<-Ib,ByteArray.size_append,pq]
 have :=BQ (w:=w) h (Nat.le_refl _)
 simp only[List.length_cons,List.length_nil]
 omega
theorem Ug{i:Nat}(h:i<6):bU (i:Int):=⟨by omega,by omega⟩
theorem yq{i:Nat}(hi:i<6){p:Par}(h:bU p.no/\bU p.pa):∀ n∈[(i:Int),p.no,p.pa],bU n:=by
 intro n hn
 simp only[List.mem_cons,List.not_mem_nil,or_false]at hn
 rcases hn with rfl | rfl | rfl
 ·exact Ug hi
 ·exact h.1
 ·exact h.2
theorem A9{i:Nat}(hi:i<6){p:Par}(h:bU p.no/\bU p.pa):(dI kq [(i:Int),p.no,p.pa]).size<=72:=by
 have :=yI (w:=kq) (yq hi h)
 have hw:kq.size=5:=rfl
 simp only[List.length_cons,List.length_nil]at this
 omega
theorem xE{a:ByteArray}{i:Nat}(hi:i<6){l:List Par}(h:∀ p∈l,bU p.no/\bU p.pa):∀ k,k<=l.length->(gK a i l k).size<=a.size+72*k
 | 0,_=>by show a.size<=_;omega
 |k+1,hk=>by
  have h1:=xE (a:=a) hi h k (by omega)
  have h2:=A9 hi (h _ (by rw[jF (show k<l.length by omega) default];exact List.getElem_mem (by omega):l.getD k default∈l))
  show (gK a i l k++dI kq [(i:Int),(l.getD k default).no,(l.getD k default).pa]).size<=_
  rw[ByteArray.size_append]
  omega
theorem tr{s:Stk}(hs:eH s):∀ i,i<=6->(eF s i).size<=886+2880*i
 | 0,_=>by
   have h1:=yI (w:=qy) hs.ho
   have h2:=hs.hol
   have hw:qy.size=5:=rfl
   show (dI qy s.ho).size<=_
   omega
 |i+1,hi=>by
  have h0:=tr hs i (by omega)
  have h1:=xE (a:=eF s i) (show i<6 by omega) (hs.un i (by omega)) _ (Nat.le_refl _)
  have h2:=hs.unl i (by omega)
  show (gK (eF s i) i (s.un.get i) (s.un.get i).length).size<=_
  omega
theorem pr{s:aR Int}(h:∀ i,i<6->bU (s.get i)):∀ n∈s.L id,bU n:=by
 intro n hn
 simp only[aR.L,List.mem_cons,List.not_mem_nil,or_false,id]at hn
 rcases hn with rfl | rfl | rfl | rfl | rfl | rfl
 ·exact h 0 (by omega)
 ·exact h 1 (by omega)
 ·exact h 2 (by omega)
 ·exact h 3 (by omega)
 ·exact h 4 (by omega)
 ·exact h 5 (by omega)
theorem Bx{s:Stk}(hs:eH s):(dI lj (s.se.L id)).size<=137:=by
 have :=yI (w:=lj) (pr hs.se)
 have hw:lj.size=4:=rfl
 rw[aR.L_len]at this
 omega
theorem Bd{s:Stk}(hs:eH s):(dI mX (s.ta.L id)).size<=138:=by
 have :=yI (w:=mX) (pr hs.ta)
 have hw:mX.size=5:=rfl
 rw[aR.L_len]at this
 omega
theorem GW{s:Stk}(hs:eH s):(cX s).size<=20000:=by
 unfold cX
 rw[ByteArray.size_append,ByteArray.size_append]
 have h1:=tr hs 6 (by omega)
 have h2:=Bx hs
 have h3:=Bd hs
 omega
noncomputable def K7:List (Nat×Spec):=[(79,S110),(101,S111)]
theorem Pf:∀ f s,tbl K7 f=some s->ak Tryd.prog f s:=tc WX<|tc WW<|tn
attribute [go_sem] K7
noncomputable def P91:PSpec:=p1 iD (fun s=>eH s) (fun s=>.str (cX s)) true
noncomputable def S91:Spec:=P91.toSpec
attribute [go_sem] P91 S91
set_option maxHeartbeats 4000000 in
theorem HC:aZ Tryd.prog 63 P91:=by
 refine w1 (rs:=[.tmp 2]) Tryd.func63 Tryd.ntmps63 (by rfl) (by kernel_rfl) (by decide) (fun _ _=>rfl) ⟨_,rfl,lb rfl,fun s hp hw=>?_⟩
 have hP:=br
 simp only[iD]at hw |-
 have hΓ:=Pf
 have hs:eH s:=hp
 have c1:qy.size<=1000/\s.ho.length<=1000000/\∀ n∈s.ho,rv n:=⟨by decide,by have:=hs.hol;omega,fun n hn=>qY (hs.ho n hn)⟩
 repeat refine sq ?_
 refine rs hΓ [1] [[1,0]] ?_
 refine bq (dS [1,0] (aA s) rfl [1] [[1,0]] ?_ rfl) ?_
 ·simp only[go_sem]
 simp only[go_sem]
 repeat refine sq ?_
 refine rx hΓ [1,3] [[1,0]] (fun K' hK=>by simp only[go_sem];(repeat (refine⟨by first | exact c1 | exact ob,?_⟩));exact hK _ (by simp only[go_sem]) (by simp only[go_sem]<;>rfl)) ?_
 repeat refine sq ?_
 refine rs hΓ [1,3,12,13] [[1,0]] ?_
 repeat refine sq ?_
 refine a8 ?_
 repeat refine sq ?_
 refine dR (fun z:Nat=>[(13,⟨true,.v (vInt z)⟩),(3,⟨true,.v (.str (eF s z))⟩)]) (fun z=>[]) (fun z=>z<=6) (fun z=>6-z) 0 ?_ ?_ ?_ ?_
 ·exact Nat.zero_le _
 ·rfl
 ·rfl
 rintro i hi
 simp only[go_sem]
 repeat refine sq ?_
 refine rs hΓ [1,3,12,13,14] [[1,0]] ?_
 repeat refine sq ?_
 refine aD rfl rfl (fun hb=>?_) (fun hb=>?_)
 ·have ae:i<6:=by have hq:(i:Int)<6:=(by simpa using hb);omega
  have aq:(i:Int)<6:=by omega
  clear hb
  repeat refine sq ?_
  refine aI ?_
  repeat refine sq ?_
  refine a8 ?_
  repeat refine sq ?_
  refine rx hΓ [1,3,4,5,12,13] [[1,0]] (fun K' hK=>by simp only[go_sem,Int.toNat_natCast,Int.natCast_nonneg,aq,aR.L_get s.un rowP default ae,Int.toNat_natCast,Int.natCast_nonneg,aq];(repeat (refine⟨ob,?_⟩));exact hK _ (by simp only[go_sem]) (by simp only[go_sem]<;>rfl)) ?_
  repeat refine sq ?_
  refine rx hΓ [1,3,4,12,13,17,18,19] [[1,0]] (fun K' hK=>by simp only[go_sem,Int.toNat_natCast,Int.natCast_nonneg,aq];(repeat (refine⟨ob,?_⟩));exact hK _ (by simp only[go_sem]) (by simp only[go_sem]<;>rfl)) ?_
  repeat refine sq ?_
  refine a8 ?_
  repeat refine sq ?_
  refine dR (fun z:Nat=>[(19,⟨true,.v (vInt z)⟩),(3,⟨true,.v (.str (gK (eF s i) i (s.un.get i) z))⟩)]) (fun z=>[]) (fun z=>z<=(s.un.get i).length) (fun z=>(s.un.get i).length-z) 0 ?_ ?_ ?_ ?_
  ·exact Nat.zero_le _
  ·rfl
  ·rfl
  rintro i1 hi
  simp only[go_sem]
  repeat refine sq ?_
  refine rx hΓ [1,3,4,12,13,17,18,19,20] [[1,0]] (fun K' hK=>by simp only[go_sem,Int.toNat_natCast,Int.natCast_nonneg,aq];(repeat (refine⟨ob,?_⟩));exact hK _ (by simp only[go_sem]) (by simp only[go_sem]<;>rfl)) ?_
  repeat refine sq ?_
  refine aD rfl rfl (fun hb=>?_) (fun hb=>?_)
  ·have eS:i1<(s.un.get i).length:=by simpa using hb
   have rT:(i1:Int)<(s.un.get i).length:=by omega
   clear hb
   have hq:=hs.un i ae _ (List.getElem_mem eS)
   have c8:kq.size<=1000/\[(i:Int),(s.un.get i)[i1].no,(s.un.get i)[i1].pa].length<=1000000/\∀ n∈[(i:Int),(s.un.get i)[i1].no,(s.un.get i)[i1].pa],rv n:=⟨by decide,by show 3<=1000000;omega,fun n hn=>qY (yq ae hq n hn)⟩
   have jd:=A9 ae hq
   have mc:=xE (a:=eF s i) ae (hs.un i ae) i1 (Nat.le_of_lt eS)
   have tU:=tr hs i (Nat.le_of_lt ae)
   have rA:=hs.unl i ae
   have hz:(gK (eF s i) i (s.un.get i) i1).size+(dI kq [(i:Int),(s.un.get i)[i1].no,(s.un.get i)[i1].pa]).size<=maxLen:=by unfold maxLen;omega
   have he:gK (eF s i) i (s.un.get i) i1++dI kq [(i:Int),(s.un.get i)[i1].no,(s.un.get i)[i1].pa]=gK (eF s i) i (s.un.get i) (i1+1):=by rw[gK,jF eS]
   repeat refine sq ?_
   refine aI ?_
   repeat refine sq ?_
   refine a8 ?_
   repeat refine sq ?_
   refine rx hΓ [1,3,4,7,12,13,17,18,19] [[1,0],[7,0]] (fun K' hK=>by simp only[go_sem,Int.toNat_natCast,Int.natCast_nonneg,aq,Int.toNat_natCast,Int.natCast_nonneg,rT,aK eS];(repeat (refine⟨ob,?_⟩));exact hK _ (by simp only[go_sem]) (by simp only[go_sem]<;>rfl)) ?_
   repeat refine sq ?_
   refine bc hΓ fun K' hK=>?_
   simp only[go_sem,Int.toNat_natCast,Int.natCast_nonneg,aq,Int.toNat_natCast,Int.natCast_nonneg,rT,aK eS,hz,he]
   repeat (refine⟨by first | exact c8 | exact ob,?_⟩)
   refine hK _ ?_
   clear K' hK
   simp only[go_sem]
   refine kp [1,3,4,12,13,17,18,19] [[1,0]] ?_
   repeat refine sq ?_
   refine bc hΓ fun K' hK=>?_
   simp only[go_sem,Int.toNat_natCast,Int.natCast_nonneg,aq,Int.toNat_natCast,Int.natCast_nonneg,rT,aK eS]
   repeat (refine⟨ob,?_⟩)
   refine hK _ ?_
   clear K' hK
   simp only[go_sem]
   refine⟨i1+1,eS,by(show (s.un.get i).length-(i1+1)<(s.un.get i).length-i1;omega),?_⟩
   refine bJ [1,3,4,12,13,17,18,19] [[1,0]] ?_ ?_
   ·simp only[go_sem,aM eS (sP hw ae),Int.natCast_add,Int.natCast_one]
   ·simp only[go_sem,aM eS (sP hw ae),Int.natCast_add,Int.natCast_one]
  ·have Ec:i1=(s.un.get i).length:=by
    have :¬ (i1:Int)<(s.un.get i).length:=by simpa using hb
    omega
   clear hb
   subst Ec
   repeat refine sq ?_
   refine di ?_
   simp only[go_sem]
   refine kp [1,3,12,13] [[1,0]] ?_
   repeat refine sq ?_
   refine bc hΓ fun K' hK=>?_
   simp only[go_sem,Int.toNat_natCast,Int.natCast_nonneg,aq]
   repeat (refine⟨ob,?_⟩)
   refine hK _ ?_
   clear K' hK
   simp only[go_sem]
   refine⟨i+1,ae,by(show 6-(i+1)<6-i;omega),?_⟩
   refine bJ [1,3,12,13] [[1,0]] ?_ ?_
   ·simp only[go_sem,aM ae (lb rfl:(6:Nat)<=maxLen),Int.natCast_add,Int.natCast_one,yh s i]
   ·simp only[go_sem,aM ae (lb rfl:(6:Nat)<=maxLen),Int.natCast_add,Int.natCast_one,yh s i]
 ·have bo:i=6:=by
   have :¬ (i:Int)<6:=by simpa using hb
   omega
  clear hb
  subst bo
  have jd:=tr hs 6 (Nat.le_refl _)
  have mc:=Bx hs
  have tU:=Bd hs
  have c2:lj.size<=1000/\(s.se.L id).length<=1000000/\∀ n∈s.se.L id,rv n:=⟨by decide,by show 6<=1000000;omega,fun n hn=>qY (pr hs.se n hn)⟩
  have c3:mX.size<=1000/\(s.ta.L id).length<=1000000/\∀ n∈s.ta.L id,rv n:=⟨by decide,by show 6<=1000000;omega,fun n hn=>qY (pr hs.ta n hn)⟩
  have rA:(eF s 6).size+(dI lj (s.se.L id)).size<=maxLen:=by unfold maxLen;omega
  have Da:(eF s 6++dI lj (s.se.L id)).size+(dI mX (s.ta.L id)).size<=maxLen:=by rw[ByteArray.size_append];unfold maxLen;omega
  repeat refine sq ?_
  refine di ?_
  simp only[go_sem]
  refine kp [1,3] [[1,0]] ?_
  repeat refine sq ?_
  refine dx hΓ hP [[],[],[1],[1,2],[0,1,2,3],[],[5],[1,2,3,5,6],[0,1,2,3,4,5,6,7],[0,1,2,3,4,5,6,7,8]] [2] [] (by kernel_rfl) (fun K' hK=>by simp only[go_sem,rA,Da];(repeat (refine⟨by first | exact c2 | exact c3 | exact ob,?_⟩));(first | refine⟨by rfl,?_⟩ | skip);exact hK _ (by simp only[go_sem]) (by simp only[go_sem]<;>rfl)) ?_
  refine ax ?_
  simp only[go_sem]
  first | rfl
theorem Wv:ak Tryd.prog 63 S91:=HC.sound
def nX(x:aR Int)(z:Nat):List Int:=(x.L id).take z
theorem Hj(x:aR Int){z:Nat}(h:z<=6):(nX x z).length=z:=by
 unfold nX
 rw[List.length_take,aR.L_len]
 omega
theorem xP(x:aR Int){z:Nat}(h:z<6):nX x (z+1)=nX x z++[x.get z]:=by
 match z,h with
 | 0,_=>rfl
 | 1,_=>rfl
 | 2,_=>rfl
 | 3,_=>rfl
 | 4,_=>rfl
 | 5,_=>rfl
theorem Rt(x:aR Int):nX x 6=x.L id:=rfl
noncomputable def P92:PSpec:=p1 iD (fun s=>eH s) (fun s=>.str (cX s)) true
noncomputable def S92:Spec:=P92.toSpec
attribute [go_sem] P92 S92
set_option maxHeartbeats 4000000 in
theorem Sg:aZ Tryd.prog 98 P92:=by
 refine w1 (rs:=[.tmp 2]) Tryd.func98 Tryd.ntmps98 (by rfl) (by kernel_rfl) (by decide) (fun _ _=>rfl) ⟨_,rfl,lb rfl,fun s hp hw=>?_⟩
 have hP:=br
 simp only[iD]at hw |-
 have hΓ:=Pf
 have hs:eH s:=hp
 have c1:qy.size<=1000/\s.ho.length<=1000000/\∀ n∈s.ho,bU n:=⟨by decide,by have:=hs.hol;omega,hs.ho⟩
 have jd:=tr hs 6 (Nat.le_refl _)
 have mc:=Bx hs
 have tU:=Bd hs
 have c2:lj.size<=1000/\(s.se.L id).length<=1000000/\∀ n∈s.se.L id,bU n:=⟨by decide,by show 6<=1000000;omega,pr hs.se⟩
 have c3:mX.size<=1000/\(s.ta.L id).length<=1000000/\∀ n∈s.ta.L id,bU n:=⟨by decide,by show 6<=1000000;omega,pr hs.ta⟩
 have rA:(eF s 6).size+(dI lj (s.se.L id)).size<=maxLen:=by unfold maxLen;omega
 have Da:(eF s 6++dI lj (s.se.L id)).size+(dI mX (s.ta.L id)).size<=maxLen:=by rw[ByteArray.size_append];unfold maxLen;omega
 repeat refine sq ?_
 refine rs hΓ [1] [[1,0]] ?_
 refine bq (dS [1,0] (aA s) rfl [1] [[1,0]] ?_ rfl) ?_
 ·simp only[go_sem]
 simp only[go_sem]
 repeat refine sq ?_
 refine rx hΓ [1,3] [[1,0]] (fun K' hK=>by simp only[go_sem];(repeat (refine⟨by first | exact c1 | exact ob,?_⟩));exact hK _ (by simp only[go_sem]) (by simp only[go_sem]<;>rfl)) ?_
 repeat refine sq ?_
 refine rs hΓ [1,3,4] [[1,0]] ?_
 repeat refine sq ?_
 refine a8 ?_
 repeat refine sq ?_
 refine dR (fun z:Nat=>[(4,⟨true,.v (vInt z)⟩),(3,⟨true,.v (.str (eF s z))⟩)]) (fun z=>[]) (fun z=>z<=6) (fun z=>6-z) 0 ?_ ?_ ?_ ?_
 ·exact Nat.zero_le _
 ·rfl
 ·rfl
 rintro i hi
 simp only[go_sem]
 repeat refine sq ?_
 refine rs hΓ [1,3,4,13] [[1,0]] ?_
 repeat refine sq ?_
 refine aD rfl rfl (fun hb=>?_) (fun hb=>?_)
 ·have ae:i<6:=by have hq:(i:Int)<6:=(by simpa using hb);omega
  have aq:(i:Int)<6:=by omega
  clear hb
  repeat refine sq ?_
  refine aI ?_
  repeat refine sq ?_
  refine a8 ?_
  repeat refine sq ?_
  refine rx hΓ [1,3,4,5] [[1,0]] (fun K' hK=>by simp only[go_sem,Int.toNat_natCast,Int.natCast_nonneg,aq];(repeat (refine⟨ob,?_⟩));exact hK _ (by simp only[go_sem]) (by simp only[go_sem]<;>rfl)) ?_
  repeat refine sq ?_
  refine a8 ?_
  repeat refine sq ?_
  refine dR (fun z:Nat=>[(5,⟨true,.v (vInt z)⟩),(3,⟨true,.v (.str (gK (eF s i) i (s.un.get i) z))⟩)]) (fun z=>[]) (fun z=>z<=(s.un.get i).length) (fun z=>(s.un.get i).length-z) 0 ?_ ?_ ?_ ?_
  ·exact Nat.zero_le _
  ·rfl
  ·rfl
  rintro i1 hi
  simp only[go_sem]
  repeat refine sq ?_
  refine rx hΓ [1,3,4,5,22] [[1,0]] (fun K' hK=>by simp only[go_sem,Int.toNat_natCast,Int.natCast_nonneg,aq,dw s ae,Int.toNat_natCast,Int.natCast_nonneg,aq];(repeat (refine⟨ob,?_⟩));exact hK _ (by simp only[go_sem]) (by simp only[go_sem]<;>rfl)) ?_
  repeat refine sq ?_
  refine aD rfl rfl (fun hb=>?_) (fun hb=>?_)
  ·have eS:i1<(s.un.get i).length:=by simpa using hb
   have rT:(i1:Int)<(s.un.get i).length:=by omega
   clear hb
   have hq:=hs.un i ae _ (List.getElem_mem eS)
   have c8:kq.size<=1000/\[(i:Int),(s.un.get i)[i1].no,(s.un.get i)[i1].pa].length<=1000000/\∀ n∈[(i:Int),(s.un.get i)[i1].no,(s.un.get i)[i1].pa],bU n:=⟨by decide,by show 3<=1000000;omega,yq ae hq⟩
   have jd:=A9 ae hq
   have mc:=xE (a:=eF s i) ae (hs.un i ae) i1 (Nat.le_of_lt eS)
   have tU:=tr hs i (Nat.le_of_lt ae)
   have rA:=hs.unl i ae
   have hz:(gK (eF s i) i (s.un.get i) i1).size+(dI kq [(i:Int),(s.un.get i)[i1].no,(s.un.get i)[i1].pa]).size<=maxLen:=by unfold maxLen;omega
   have he:gK (eF s i) i (s.un.get i) i1++dI kq [(i:Int),(s.un.get i)[i1].no,(s.un.get i)[i1].pa]=gK (eF s i) i (s.un.get i) (i1+1):=by rw[gK,jF eS]
   repeat refine sq ?_
   refine aI ?_
   repeat refine sq ?_
   refine a8 ?_
   repeat refine sq ?_
   refine N8 hΓ hP [[],[],[],[],[2,3],[2,3,4],[],[2,3,4,5,6],[2,3,4,5,6,7],[2,3,4,5,6,7,8],[],[],[10,11],[10,11,12],[],[10,11,12,13,14],[10,11,12,13,14,15],[10,11,12,13,14,15,16],[1,2,3,4,5,6,7,8,9,10,11,12,13,14,15,16,17],[1,2,3,4,5,6,7,8,9,10,11,12,13,14,15,16,17,18],[0,1,2,3,4,5,6,7,8,9,10,11,12,13,14,15,16,17,18,19],[0,1,2,3,4,5,6,7,8,9,10,11,12,13,14,15,16,17,18,19,20]] (by kernel_rfl) fun K' hK=>?_
   simp only[go_sem,Int.toNat_natCast,Int.natCast_nonneg,aq,Int.toNat_natCast,Int.natCast_nonneg,rT,aq,aK eS,dw s ae,hz,he,dw s ae,Int.toNat_natCast,Int.natCast_nonneg,aq,rT,aK eS]
   repeat (refine⟨by first | exact c8 | exact ob,?_⟩)
   first | refine⟨by rfl,?_⟩ | skip
   refine hK _ ?_
   clear K' hK
   simp only[go_sem]
   refine kp [1,3,4,5] [[1,0]] ?_
   repeat refine sq ?_
   refine bc hΓ fun K' hK=>?_
   simp only[go_sem,Int.toNat_natCast,Int.natCast_nonneg,aq,Int.toNat_natCast,Int.natCast_nonneg,rT,aq,aK eS,dw s ae]
   repeat (refine⟨ob,?_⟩)
   refine hK _ ?_
   clear K' hK
   simp only[go_sem]
   refine⟨i1+1,eS,by(show (s.un.get i).length-(i1+1)<(s.un.get i).length-i1;omega),?_⟩
   refine bJ [1,3,4,5] [[1,0]] ?_ ?_
   ·simp only[go_sem,aM eS (sP hw ae),Int.natCast_add,Int.natCast_one]
   ·simp only[go_sem,aM eS (sP hw ae),Int.natCast_add,Int.natCast_one]
  ·have Ec:i1=(s.un.get i).length:=by
    have :¬ (i1:Int)<(s.un.get i).length:=by simpa using hb
    omega
   clear hb
   subst Ec
   repeat refine sq ?_
   refine di ?_
   simp only[go_sem]
   refine kp [1,3,4] [[1,0]] ?_
   repeat refine sq ?_
   refine bc hΓ fun K' hK=>?_
   simp only[go_sem,Int.toNat_natCast,Int.natCast_nonneg,aq]
   repeat (refine⟨ob,?_⟩)
   refine hK _ ?_
   clear K' hK
   simp only[go_sem]
   refine⟨i+1,ae,by(show 6-(i+1)<6-i;omega),?_⟩
   refine bJ [1,3,4] [[1,0]] ?_ ?_
   ·simp only[go_sem,aM ae (lb rfl:(6:Nat)<=maxLen),Int.natCast_add,Int.natCast_one,yh s i]
   ·simp only[go_sem,aM ae (lb rfl:(6:Nat)<=maxLen),Int.natCast_add,Int.natCast_one,yh s i]
 ·have bo:i=6:=by
   have :¬ (i:Int)<6:=by simpa using hb
   omega
  clear hb
  subst bo
  repeat refine sq ?_
  refine di ?_
  simp only[go_sem]
  refine kp [1,3] [[1,0]] ?_
  repeat refine sq ?_
  refine rs hΓ [1,3,6] [[1,0],[56,0]] ?_
  refine bq (vg 6 [56,0] 1 (by simp only[go_sem]) (by simp only[go_sem]) [1,3,6] [[1,0],[56,0]] ?_ rfl) ?_
  ·simp only[go_sem]
  simp only[go_sem]
  repeat refine sq ?_
  refine rs hΓ [1,3,6,7] [[1,0],[56,0],[63,0]] ?_
  refine bq (vg 7 [63,0] 1 (by simp only[go_sem]) (by simp only[go_sem]) [1,3,6,7] [[1,0],[56,0],[63,0]] ?_ rfl) ?_
  ·simp only[go_sem]
  simp only[go_sem]
  repeat refine sq ?_
  refine rs hΓ [1,3,6,7,8] [[1,0],[56,0],[63,0]] ?_
  repeat refine sq ?_
  refine a8 ?_
  repeat refine sq ?_
  refine dR (fun z:Nat=>[(8,⟨true,.v (vInt z)⟩),(6,⟨true,.msl [56,0] (nX s.se z).length⟩),(7,⟨true,.msl [63,0] (nX s.ta z).length⟩)]) (fun z=>[([56,0],.arr 1 ((nX s.se z).map vInt)),([63,0],.arr 1 ((nX s.ta z).map vInt))]) (fun z=>z<=6) (fun z=>6-z) 0 ?_ ?_ ?_ ?_
  ·exact Nat.zero_le _
  ·rfl
  ·rfl
  rintro i2 hi
  simp only[go_sem]
  repeat refine sq ?_
  refine rs hΓ [1,3,6,7,8,47] [[1,0],[56,0],[63,0]] ?_
  repeat refine sq ?_
  refine aD rfl rfl (fun hb=>?_) (fun hb=>?_)
  ·have jf:i2<6:=by have hq:(i2:Int)<6:=(by simpa using hb);omega
   have pV:(i2:Int)<6:=by omega
   clear hb
   have pN:=Hj s.se (Nat.le_of_lt jf)
   have iE:=Hj s.ta (Nat.le_of_lt jf)
   repeat refine sq ?_
   refine aI ?_
   repeat refine sq ?_
   refine a8 ?_
   repeat refine sq ?_
   refine rx hΓ [1,3,6,7,8] [[1,0],[56,0],[63,0]] (fun K' hK=>by simp only[go_sem,Int.toNat_natCast,Int.natCast_nonneg,pV,eh s jf,Int.toNat_natCast,Int.natCast_nonneg,pV];(repeat (refine⟨ob,?_⟩));exact hK _ (by simp only[go_sem]) (by simp only[go_sem]<;>rfl)) ?_
   repeat refine sq ?_
   refine bc hΓ fun K' hK=>?_
   simp only[go_sem,Int.toNat_natCast,Int.natCast_nonneg,pV,dV s jf,Int.toNat_natCast,Int.natCast_nonneg,pV]
   repeat (refine⟨ob,?_⟩)
   refine hK _ ?_
   clear K' hK
   simp only[go_sem]
   refine kp [1,3,6,7,8] [[1,0],[56,0],[63,0]] ?_
   repeat refine sq ?_
   refine bc hΓ fun K' hK=>?_
   simp only[go_sem,Int.toNat_natCast,Int.natCast_nonneg,pV]
   repeat (refine⟨ob,?_⟩)
   refine hK _ ?_
   clear K' hK
   simp only[go_sem]
   refine⟨i2+1,jf,by(show 6-(i2+1)<6-i2;omega),?_⟩
   refine bJ [1,3,6,7,8] [[1,0],[56,0],[63,0]] ?_ ?_
   ·simp only[go_sem,aM jf (lb rfl:(6:Nat)<=maxLen),Int.natCast_add,Int.natCast_one,xP s.se jf,xP s.ta jf,List.map_append,List.length_append,List.map_cons,List.map_nil,List.length_cons,List.length_nil]
   ·simp only[go_sem,aM jf (lb rfl:(6:Nat)<=maxLen),Int.natCast_add,Int.natCast_one,xP s.se jf,xP s.ta jf,List.map_append,List.length_append,List.map_cons,List.map_nil,List.length_cons,List.length_nil]
  ·have Eb:i2=6:=by
    have :¬ (i2:Int)<6:=by simpa using hb
    omega
   clear hb
   subst Eb
   repeat refine sq ?_
   refine di ?_
   simp only[go_sem]
   refine kp [3,6,7] [[56,0],[63,0]] ?_
   repeat refine sq ?_
   refine rx hΓ [2] [] (fun K' hK=>by simp only[go_sem,rA,Da,Rt];(repeat (refine⟨by first | exact c2 | exact c3 | exact ob,?_⟩));exact hK _ (by simp only[go_sem]) (by simp only[go_sem]<;>rfl)) ?_
   refine ax ?_
   simp only[go_sem]
   first | rfl
theorem Wu:ak Tryd.prog 98 S92:=Sg.sound
attribute [go_sem,simp] Od
def kV(b:ByteArray)(i:Nat):Nat:=(b.data.getD i 0).toNat
theorem abi(b:ByteArray)(i:Nat):kV b i<256:=(b.data.getD i 0).toNat_lt
theorem bytes_at{b:ByteArray}{i:Nat}(h:i<b.size):(jI b).getD i default=.int .u8 (kV b i:Nat):=by
 have h':i<b.data.toList.length:=by rw[Array.length_toList];exact h
 have h1:i<b.data.size:=h
 unfold jI
 rw[jF (by rw[List.length_map];exact h'),List.getElem_map,Array.getElem_toList]
 unfold kV xd
 have :b.data.getD i 0=b.data[i]:=by
  unfold Array.getD
  rw[dif_pos h1]
  rfl
 rw[this]
def hU(b:ByteArray)(n:Int):Nat->Int
 | 0=>n.tmod 1000003
 |i+1=>(257*hU b n i+kV b i+1).tmod 1000003
def c9(s:Stk)(n:Int):Int:=hU (cX s) n (cX s).size
theorem xI{b:ByteArray}{n:Int}(hn:bU n):∀ i,0<=hU b n i/\hU b n i<1000003
 | 0=>by
   have :=hn.1
   exact⟨Int.tmod_nonneg _ this,Int.tmod_lt_of_pos _ (by omega)⟩
 |i+1=>by
  have h:=xI (b:=b) hn i
  exact⟨Int.tmod_nonneg _ (by omega),Int.tmod_lt_of_pos _ (by omega)⟩
theorem G2{b:ByteArray}{n:Int}(hn:bU n)(i:Nat):IntKind.i64.wrap (257*hU b n i)=257*hU b n i/\IntKind.i64.wrap (kV b i:Nat)=(kV b i:Nat)/\
 IntKind.i64.wrap (257*hU b n i+(kV b i:Nat))=257*hU b n i+(kV b i:Nat)/\IntKind.i64.wrap (257*hU b n i+(kV b i:Nat)+1)=257*hU b n i+(kV b i:Nat)+1/\
 IntKind.i64.wrap (hU b n (i+1))=hU b n (i+1)/\(257*hU b n i+(kV b i:Nat)+1).tmod 1000003=hU b n (i+1):=by
 have h:=xI (b:=b) hn i
 have h2:=xI (b:=b) hn (i+1)
 have hb:=abi b i
 exact⟨wrap_i64 (by omega) (by omega),wrap_i64 (by omega) (by omega),wrap_i64 (by omega) (by omega),wrap_i64 (by omega) (by omega),wrap_i64 (by omega) (by omega),rfl⟩
noncomputable def K9:List (Nat×Spec):=[(63,S91),(98,S92)]
theorem Pe:∀ f s,tbl K9 f=some s->ak Tryd.prog f s:=tc Wv<|tc Wu<|tn
attribute [go_sem] K9
noncomputable def P60:PSpec:=p2 iD iI (fun s n=>eH s/\bU n) (fun s n=>vInt (c9 s n)) true
noncomputable def S60:Spec:=P60.toSpec
attribute [go_sem] P60 S60
set_option maxHeartbeats 4000000 in
theorem SB:aZ Tryd.prog 38 P60:=by
 refine w2 (rs:=[.tmp 4]) Tryd.func38 Tryd.ntmps38 (by rfl) (by kernel_rfl) (by decide) (fun _ _ _=>rfl) ⟨_,rfl,lb rfl,fun s n hp hw=>?_⟩
 have hP:=br
 simp only[iI,iD]at hw |-
 have hΓ:=Pe
 obtain⟨hs,hn⟩:=hp
 have ht:=GW hs
 have hl:(cX s).size<=maxLen:=by unfold maxLen;omega
 repeat refine sq ?_
 refine rs hΓ [1,2] [[2,0]] ?_
 refine bq (dS [2,0] (aA s) rfl [1,2] [[2,0]] ?_ rfl) ?_
 ·simp only[go_sem]
 simp only[go_sem]
 repeat refine sq ?_
 refine rs hΓ [2,5] [[2,0]] ?_
 repeat refine sq ?_
 refine rs hΓ [5,12,13,14] [] ?_
 repeat refine sq ?_
 refine a8 ?_
 repeat refine sq ?_
 refine dR (fun z:Nat=>[(14,⟨true,.v (vInt z)⟩),(5,⟨true,.v (vInt (hU (cX s) n z))⟩)]) (fun z=>[]) (fun z=>z<=(cX s).size) (fun z=>(cX s).size-z) 0 ?_ ?_ ?_ ?_
 ·exact Nat.zero_le _
 ·rfl
 ·rfl
 rintro i hi
 simp only[go_sem]
 repeat refine sq ?_
 refine rs hΓ [5,12,13,14,15] [] ?_
 repeat refine sq ?_
 refine aD rfl rfl (fun hb=>?_) (fun hb=>?_)
 ·have ae:i<(cX s).size:=by simpa using hb
  have aq:(i:Int)<(cX s).size:=by omega
  clear hb
  obtain⟨d1,d2,d3,d4,d5,d6⟩:=G2 (b:=cX s) hn i
  have hb:=bytes_at ae
  repeat refine sq ?_
  refine aI ?_
  repeat refine sq ?_
  refine a8 ?_
  repeat refine sq ?_
  refine rx hΓ [5,7,12,13,14] [] (fun K' hK=>by simp only[go_sem,Int.toNat_natCast,Int.natCast_nonneg,aq,hb,Int.toNat_natCast,Int.natCast_nonneg,aq];(repeat (refine⟨ob,?_⟩));exact hK _ (by simp only[go_sem]) (by simp only[go_sem]<;>rfl)) ?_
  repeat refine sq ?_
  refine bc hΓ fun K' hK=>?_
  simp only[go_sem,Int.toNat_natCast,Int.natCast_nonneg,aq,d1,d2,d3,d4,d5,d6]
  repeat (refine⟨ob,?_⟩)
  refine hK _ ?_
  clear K' hK
  simp only[go_sem]
  refine kp [5,12,13,14] [] ?_
  repeat refine sq ?_
  refine bc hΓ fun K' hK=>?_
  simp only[go_sem,Int.toNat_natCast,Int.natCast_nonneg,aq]
  repeat (refine⟨ob,?_⟩)
  refine hK _ ?_
  clear K' hK
  simp only[go_sem]
  refine⟨i+1,ae,by(show (cX s).size-(i+1)<(cX s).size-i;omega),?_⟩
  refine bJ [5,12,13,14] [] ?_ ?_
  ·simp only[go_sem,aM ae hl,Int.natCast_add,Int.natCast_one]
  ·simp only[go_sem,aM ae hl,Int.natCast_add,Int.natCast_one]
 ·have bo:i=(cX s).size:=by
   have :¬ (i:Int)<(cX s).size:=by simpa using hb
   omega
  clear hb
  subst bo
  repeat refine sq ?_
  refine di ?_
  simp only[go_sem]
  refine kp [5] [] ?_
  repeat refine sq ?_
  refine rs hΓ [4] [] ?_
  refine ax ?_
  simp only[go_sem]
  first | rfl
theorem yS:ak Tryd.prog 38 S60:=SB.sound
noncomputable def P63:PSpec:=p2 iD iI (fun s n=>eH s/\bU n) (fun s n=>vInt (c9 s n)) true
noncomputable def S63:Spec:=P63.toSpec
attribute [go_sem] P63 S63
set_option maxHeartbeats 4000000 in
theorem SA:aZ Tryd.prog 94 P63:=by
 refine w2 (rs:=[.tmp 4]) Tryd.func94 Tryd.ntmps94 (by rfl) (by kernel_rfl) (by decide) (fun _ _ _=>rfl) ⟨_,rfl,lb rfl,fun s n hp hw=>?_⟩
 have hP:=br
 simp only[iI,iD]at hw |-
 have hΓ:=Pe
 obtain⟨hs,hn⟩:=hp
 have ht:=GW hs
 have hl:(cX s).size<=maxLen:=by unfold maxLen;omega
 repeat refine sq ?_
 refine rs hΓ [1,2] [[2,0]] ?_
 refine bq (dS [2,0] (aA s) rfl [1,2] [[2,0]] ?_ rfl) ?_
 ·simp only[go_sem]
 simp only[go_sem]
 repeat refine sq ?_
 refine rs hΓ [1,5] [] ?_
 repeat refine sq ?_
 refine rs hΓ [5,6] [] ?_
 repeat refine sq ?_
 refine rs hΓ [5,6,7] [] ?_
 repeat refine sq ?_
 refine a8 ?_
 repeat refine sq ?_
 refine dR (fun z:Nat=>[(7,⟨true,.v (vInt z)⟩),(6,⟨true,.v (vInt (hU (cX s) n z))⟩)]) (fun z=>[]) (fun z=>z<=(cX s).size) (fun z=>(cX s).size-z) 0 ?_ ?_ ?_ ?_
 ·exact Nat.zero_le _
 ·rfl
 ·rfl
 rintro i hi
 simp only[go_sem]
 repeat refine sq ?_
 refine rs hΓ [5,6,7,15] [] ?_
 repeat refine sq ?_
 refine aD rfl rfl (fun hb=>?_) (fun hb=>?_)
 ·have ae:i<(cX s).size:=by simpa using hb
  have aq:(i:Int)<(cX s).size:=by omega
  clear hb
  obtain⟨d1,d2,d3,d4,d5,d6⟩:=G2 (b:=cX s) hn i
  have hb:((cX s).data.getD i 0).toNat=kV (cX s) i:=rfl
  repeat refine sq ?_
  refine aI ?_
  repeat refine sq ?_
  refine a8 ?_
  repeat refine sq ?_
  refine bc hΓ fun K' hK=>?_
  simp only[go_sem,Int.toNat_natCast,Int.natCast_nonneg,aq,hb,Int.toNat_natCast,Int.natCast_nonneg,aq,d1,d2,d3,d4,d5,d6]
  repeat (refine⟨ob,?_⟩)
  refine hK _ ?_
  clear K' hK
  simp only[go_sem]
  refine kp [5,6,7] [] ?_
  repeat refine sq ?_
  refine bc hΓ fun K' hK=>?_
  simp only[go_sem,Int.toNat_natCast,Int.natCast_nonneg,aq]
  repeat (refine⟨ob,?_⟩)
  refine hK _ ?_
  clear K' hK
  simp only[go_sem]
  refine⟨i+1,ae,by(show (cX s).size-(i+1)<(cX s).size-i;omega),?_⟩
  refine bJ [5,6,7] [] ?_ ?_
  ·simp only[go_sem,aM ae hl,Int.natCast_add,Int.natCast_one]
  ·simp only[go_sem,aM ae hl,Int.natCast_add,Int.natCast_one]
 ·have bo:i=(cX s).size:=by
   have :¬ (i:Int)<(cX s).size:=by simpa using hb
   omega
  clear hb
  subst bo
  repeat refine sq ?_
  refine di ?_
  simp only[go_sem]
  refine kp [6] [] ?_
  repeat refine sq ?_
  refine rs hΓ [4] [] ?_
  refine ax ?_
  simp only[go_sem]
  first | rfl
theorem CT:ak Tryd.prog 94 S63:=SA.sound
def smE(s:Stk)(n:Int):Int:=if nV s=true then(if aT n 0 99999=true then 0 else 1)else 90
def smV(s:Stk)(n:Int):Int:=if nV s=true then(if aT n 0 99999=true then c9 s n else 0)else 0
def aE(me:Int)(p:Pg):Bool:=aT p.co 0 99999&&cp me p.st&&(p.su==c9 p.st p.co)
def yd(me:Int)(p:Pg):Int:=if aE me p=true then 0 else 91
theorem xL{me:Int}{s:Stk}(h:cp me s=true):eM me s=0:=if_pos h
theorem xM{me:Int}{s:Stk}(h:cp me s=false):eM me s=90:=if_neg (by rw[h];decide)
theorem qQ{me:Int}{p:Pg}(h:aE me p=true):yd me p=0:=if_pos h
theorem gO{me:Int}{p:Pg}(h:aE me p=false):yd me p=91:=if_neg (by rw[h];decide)
theorem If{me:Int}{p:Pg}:(yd me p==0)=aE me p:=by
 cases h:aE me p
 ·rw[gO h];rfl
 ·rw[qQ h];rfl
theorem n6{me:Int}{p:Pg}(h:aT p.co 0 99999=false):aE me p=false:=by unfold aE;rw[h];rfl
theorem n5{me:Int}{p:Pg}(h:cp me p.st=false):aE me p=false:=by unfold aE;rw[h,Bool.and_false];rfl
theorem ju{me:Int}{p:Pg}(h:aT p.co 0 99999=true)(hk:cp me p.st=true):aE me p=(p.su==c9 p.st p.co):=by unfold aE;rw[h,hk];rfl
noncomputable def P7:List (Nat×Spec):=[(62,S78),(71,S79),(38,S60),(92,S81),(94,S63),(78,S89),(84,S43)]
theorem P6:∀ f s,tbl P7 f=some s->ak Tryd.prog f s:=tc Ww<|tc CR<|tc yS<|tc CQ<|tc CT<|tc CO<|tc CX<|tn
attribute [go_sem] P7
noncomputable def P90:PSpec:=p2 iI ru (fun _ _=>True) (fun me p=>.bool (aE me p)) true
noncomputable def S90:Spec:=P90.toSpec
attribute [go_sem] P90 S90
set_option maxHeartbeats 4000000 in
theorem Sh:aZ Tryd.prog 69 P90:=by
 refine w2 (rs:=[.tmp 4]) Tryd.func69 Tryd.ntmps69 (by rfl) (by kernel_rfl) (by decide) (fun _ _ _=>rfl) ⟨_,rfl,lb rfl,fun me p hp hw=>?_⟩
 have hP:=br
 simp only[iI,ru]at hw |-
 have hΓ:=P6
 repeat refine sq ?_
 refine rs hΓ [0,3] [[3,0]] ?_
 refine bq (dS [3,0] (cC p) rfl [0,3] [[3,0]] ?_ rfl) ?_
 ·simp only[go_sem]
 simp only[go_sem]
 rcases hc:aT p.co 0 99999 with _ | _;rotate_left;rcases hk:cp me p.st with _ | _;rotate_left 2
 ·repeat refine sq ?_
  refine dx hΓ hP [[],[0],[0,1],[0,1,2],[0,1,2,3],[0,1,2,3],[0,1,2,3,5],[0,1,2,3,4,5,6],[0,1,2,3,4,5,6,7],[0,1,2,3,4,5,6,7,8],[0,1,2,3,4,5,6,7,8,9],[0,1,2,3,4,5,6,7,8,9,10],[0,1,2,3,4,5,6,7,8,9],[0,1,2,3,4,5,6,7,8,9,12],[0,1,2,3,4,5,6,7,8,9],[0,1,2,3,4,5,6,7,8,9,14],[0,1,2,3,4,5,6,7,8,9,12,13,14,15],[0,1,2,3,4,5,6,7,8,9,10,11,12,13,14,15,16],[0,1,2,3,4,5,6,7,8,9,10,11,12,13,14,15,16,17],[0,1,2,3,4,5,6,7,8,9,10,11,12,13,14,15,16,17,18]] [4] [] (by kernel_rfl) (fun K' hK=>by simp only[go_sem,hc];(repeat (refine⟨by first | exact oM | exact ob,?_⟩));(first | refine⟨by rfl,?_⟩ | skip);exact hK _ (by simp only[go_sem]) (by simp only[go_sem]<;>rfl)) ?_
  refine ax ?_
  simp only[go_sem]
  first | (rw[n6 hc];done) | (rw[n5 hk];done) | (rw[ju hc hk];done) | (simp[aE,hc,hk];done)
 ·repeat refine sq ?_
  refine dx hΓ hP [[],[0],[0,1],[0,1,2],[0,1,2,3],[0,1,2,3],[0,1,2,3,5],[0,1,2,3,4,5,6],[0,1,2,3,4,5,6,7],[0,1,2,3,4,5,6,7,8],[0,1,2,3,4,5,6,7,8,9],[0,1,2,3,4,5,6,7,8,9,10],[0,1,2,3,4,5,6,7,8,9],[0,1,2,3,4,5,6,7,8,9,12],[0,1,2,3,4,5,6,7,8,9],[0,1,2,3,4,5,6,7,8,9,14],[0,1,2,3,4,5,6,7,8,9,12,13,14,15],[0,1,2,3,4,5,6,7,8,9,10,11,12,13,14,15,16],[0,1,2,3,4,5,6,7,8,9,10,11,12,13,14,15,16,17],[0,1,2,3,4,5,6,7,8,9,10,11,12,13,14,15,16,17,18]] [4] [] (by kernel_rfl) (fun K' hK=>by simp only[go_sem,hc,hk];(repeat (refine⟨by first | exact oM | exact ob,?_⟩));(first | refine⟨by rfl,?_⟩ | skip);exact hK _ (by simp only[go_sem]) (by simp only[go_sem]<;>rfl)) ?_
  refine ax ?_
  simp only[go_sem]
  first | (rw[n6 hc];done) | (rw[n5 hk];done) | (rw[ju hc hk];done) | (simp[aE,hc,hk];done)
 ·have oM:eH p.st/\bU p.co:=⟨tD hk,rr hc (by omega) (by omega)⟩
  repeat refine sq ?_
  refine dx hΓ hP [[],[0],[0,1],[0,1,2],[0,1,2,3],[0,1,2,3],[0,1,2,3,5],[0,1,2,3,4,5,6],[0,1,2,3,4,5,6,7],[0,1,2,3,4,5,6,7,8],[0,1,2,3,4,5,6,7,8,9],[0,1,2,3,4,5,6,7,8,9,10],[0,1,2,3,4,5,6,7,8,9],[0,1,2,3,4,5,6,7,8,9,12],[0,1,2,3,4,5,6,7,8,9],[0,1,2,3,4,5,6,7,8,9,14],[0,1,2,3,4,5,6,7,8,9,12,13,14,15],[0,1,2,3,4,5,6,7,8,9,10,11,12,13,14,15,16],[0,1,2,3,4,5,6,7,8,9,10,11,12,13,14,15,16,17],[0,1,2,3,4,5,6,7,8,9,10,11,12,13,14,15,16,17,18]] [4] [] (by kernel_rfl) (fun K' hK=>by simp only[go_sem,hc,hk];(repeat (refine⟨by first | exact oM | exact ob,?_⟩));(first | refine⟨by rfl,?_⟩ | skip);exact hK _ (by simp only[go_sem]) (by simp only[go_sem]<;>rfl)) ?_
  refine ax ?_
  simp only[go_sem]
  first | (rw[n6 hc];done) | (rw[n5 hk];done) | (rw[ju hc hk];done) | (simp[aE,hc,hk];done)
theorem CN:ak Tryd.prog 69 S90:=Sh.sound
noncomputable def P5:List (Nat×Spec):=[(69,S90)]
theorem aiA:∀ f s,tbl P5 f=some s->ak Tryd.prog f s:=tc CN<|tn
attribute [go_sem] P5
noncomputable def P45:PSpec:=p2 iI ru (fun _ _=>True) (fun me p=>vInt (yd me p)) true
noncomputable def S45:Spec:=P45.toSpec
attribute [go_sem] P45 S45
set_option maxHeartbeats 4000000 in
theorem SJ:aZ Tryd.prog 85 P45:=by
 refine w2 (rs:=[.tmp 4]) Tryd.func85 Tryd.ntmps85 (by rfl) (by kernel_rfl) (by decide) (fun _ _ _=>rfl) ⟨_,rfl,lb rfl,fun me p hp hw=>?_⟩
 have hP:=br
 simp only[iI,ru]at hw |-
 have hΓ:=P6
 repeat refine sq ?_
 refine rs hΓ [0,3] [[3,0]] ?_
 refine bq (dS [3,0] (cC p) rfl [0,3] [[3,0]] ?_ rfl) ?_
 ·simp only[go_sem]
 simp only[go_sem]
 rcases hc:aT p.co 0 99999 with _ | _;rotate_left;rcases hk:cp me p.st with _ | _;rotate_left 2
 ·repeat refine sq ?_
  refine dx hΓ hP [[],[0],[0,1],[0,1,2],[0,1,2,3],[0,1,2,3,4],[0,1,2,3,4],[0,1,2,3,4,6],[0,1,2,3,4,5,6,7],[0,1,2,3,4,5,6,7,8],[0,1,2,3,4,5,6,7,8,9],[0,1,2,3,4,5,6,7,8,9,10],[0,1,2,3,4,5,6,7,8,9,10,11],[0,1,2,3,4,5,6,7,8,9,10,11,12],[0,1,2,3,4,5,6,7,8,9,10,11],[0,1,2,3,4,5,6,7,8,9,10,11,14],[0,1,2,3,4,5,6,7,8,9,10,11],[0,1,2,3,4,5,6,7,8,9,10,11,16],[0,1,2,3,4,5,6,7,8,9,10,11,14,15,16,17],[0,1,2,3,4,5,6,7,8,9,10,11,12,13,14,15,16,17,18],[0,1,2,3,4,5,6,7,8,9,10,11,12,13,14,15,16,17,18,19]] [25] [] (by kernel_rfl) (fun K' hK=>by simp only[go_sem,hc];(repeat (refine⟨by first | exact oM | exact ob,?_⟩));(first | refine⟨by rfl,?_⟩ | skip);exact hK _ (by simp only[go_sem]) (by simp only[go_sem]<;>rfl)) ?_
  repeat refine sq ?_
  refine aD rfl rfl (fun hb=>?_) (fun hb=>?_)
  ·repeat refine sq ?_
   refine rx hΓ [4] [] (fun K' hK=>by simp only[go_sem,hc];(repeat (refine⟨ob,?_⟩));exact hK _ (by simp only[go_sem]) (by simp only[go_sem]<;>rfl)) ?_
   refine ax ?_
   simp only[go_sem]
   first | (exact absurd hb (by decide)) | (simp at hb;done) | (rw[gO (n6 hc)];done) | (rw[gO (n5 hk)];done) | (rw[gO (by rw[ju hc hk];simpa using hb)];done) | (rw[qQ (by rw[ju hc hk];simpa using hb)];done)
  ·repeat refine sq ?_
   refine aI ?_
   repeat refine sq ?_
   refine rx hΓ [4] [] (fun K' hK=>by simp only[go_sem,hc];(repeat (refine⟨ob,?_⟩));exact hK _ (by simp only[go_sem]) (by simp only[go_sem]<;>rfl)) ?_
   refine ax ?_
   simp only[go_sem]
   first | (exact absurd hb (by decide)) | (simp at hb;done) | (rw[gO (n6 hc)];done) | (rw[gO (n5 hk)];done) | (rw[gO (by rw[ju hc hk];simpa using hb)];done) | (rw[qQ (by rw[ju hc hk];simpa using hb)];done)
 ·repeat refine sq ?_
  refine dx hΓ hP [[],[0],[0,1],[0,1,2],[0,1,2,3],[0,1,2,3,4],[0,1,2,3,4],[0,1,2,3,4,6],[0,1,2,3,4,5,6,7],[0,1,2,3,4,5,6,7,8],[0,1,2,3,4,5,6,7,8,9],[0,1,2,3,4,5,6,7,8,9,10],[0,1,2,3,4,5,6,7,8,9,10,11],[0,1,2,3,4,5,6,7,8,9,10,11,12],[0,1,2,3,4,5,6,7,8,9,10,11],[0,1,2,3,4,5,6,7,8,9,10,11,14],[0,1,2,3,4,5,6,7,8,9,10,11],[0,1,2,3,4,5,6,7,8,9,10,11,16],[0,1,2,3,4,5,6,7,8,9,10,11,14,15,16,17],[0,1,2,3,4,5,6,7,8,9,10,11,12,13,14,15,16,17,18],[0,1,2,3,4,5,6,7,8,9,10,11,12,13,14,15,16,17,18,19]] [25] [] (by kernel_rfl) (fun K' hK=>by simp only[go_sem,hc,xM hk];(repeat (refine⟨by first | exact oM | exact ob,?_⟩));(first | refine⟨by rfl,?_⟩ | skip);exact hK _ (by simp only[go_sem]) (by simp only[go_sem]<;>rfl)) ?_
  repeat refine sq ?_
  refine aD rfl rfl (fun hb=>?_) (fun hb=>?_)
  ·repeat refine sq ?_
   refine rx hΓ [4] [] (fun K' hK=>by simp only[go_sem,hc,xM hk];(repeat (refine⟨ob,?_⟩));exact hK _ (by simp only[go_sem]) (by simp only[go_sem]<;>rfl)) ?_
   refine ax ?_
   simp only[go_sem]
   first | (exact absurd hb (by decide)) | (simp at hb;done) | (rw[gO (n6 hc)];done) | (rw[gO (n5 hk)];done) | (rw[gO (by rw[ju hc hk];simpa using hb)];done) | (rw[qQ (by rw[ju hc hk];simpa using hb)];done)
  ·repeat refine sq ?_
   refine aI ?_
   repeat refine sq ?_
   refine rx hΓ [4] [] (fun K' hK=>by simp only[go_sem,hc,xM hk];(repeat (refine⟨ob,?_⟩));exact hK _ (by simp only[go_sem]) (by simp only[go_sem]<;>rfl)) ?_
   refine ax ?_
   simp only[go_sem]
   first | (exact absurd hb (by decide)) | (simp at hb;done) | (rw[gO (n6 hc)];done) | (rw[gO (n5 hk)];done) | (rw[gO (by rw[ju hc hk];simpa using hb)];done) | (rw[qQ (by rw[ju hc hk];simpa using hb)];done)
 ·have oM:eH p.st/\bU p.co:=⟨tD hk,rr hc (by omega) (by omega)⟩
  repeat refine sq ?_
  refine dx hΓ hP [[],[0],[0,1],[0,1,2],[0,1,2,3],[0,1,2,3,4],[0,1,2,3,4],[0,1,2,3,4,6],[0,1,2,3,4,5,6,7],[0,1,2,3,4,5,6,7,8],[0,1,2,3,4,5,6,7,8,9],[0,1,2,3,4,5,6,7,8,9,10],[0,1,2,3,4,5,6,7,8,9,10,11],[0,1,2,3,4,5,6,7,8,9,10,11,12],[0,1,2,3,4,5,6,7,8,9,10,11],[0,1,2,3,4,5,6,7,8,9,10,11,14],[0,1,2,3,4,5,6,7,8,9,10,11],[0,1,2,3,4,5,6,7,8,9,10,11,16],[0,1,2,3,4,5,6,7,8,9,10,11,14,15,16,17],[0,1,2,3,4,5,6,7,8,9,10,11,12,13,14,15,16,17,18],[0,1,2,3,4,5,6,7,8,9,10,11,12,13,14,15,16,17,18,19]] [25] [] (by kernel_rfl) (fun K' hK=>by simp only[go_sem,hc,xL hk];(repeat (refine⟨by first | exact oM | exact ob,?_⟩));(first | refine⟨by rfl,?_⟩ | skip);exact hK _ (by simp only[go_sem]) (by simp only[go_sem]<;>rfl)) ?_
  repeat refine sq ?_
  refine aD rfl rfl (fun hb=>?_) (fun hb=>?_)
  ·repeat refine sq ?_
   refine rx hΓ [4] [] (fun K' hK=>by simp only[go_sem,hc,xL hk];(repeat (refine⟨ob,?_⟩));exact hK _ (by simp only[go_sem]) (by simp only[go_sem]<;>rfl)) ?_
   refine ax ?_
   simp only[go_sem]
   first | (exact absurd hb (by decide)) | (simp at hb;done) | (rw[gO (n6 hc)];done) | (rw[gO (n5 hk)];done) | (rw[gO (by rw[ju hc hk];simpa using hb)];done) | (rw[qQ (by rw[ju hc hk];simpa using hb)];done)
  ·repeat refine sq ?_
   refine aI ?_
   repeat refine sq ?_
   refine rx hΓ [4] [] (fun K' hK=>by simp only[go_sem,hc,xL hk];(repeat (refine⟨ob,?_⟩));exact hK _ (by simp only[go_sem]) (by simp only[go_sem]<;>rfl)) ?_
   refine ax ?_
   simp only[go_sem]
   first | (exact absurd hb (by decide)) | (simp at hb;done) | (rw[gO (n6 hc)];done) | (rw[gO (n5 hk)];done) | (rw[gO (by rw[ju hc hk];simpa using hb)];done) | (rw[qQ (by rw[ju hc hk];simpa using hb)];done)
theorem KO:ak Tryd.prog 85 S45:=SJ.sound
def lh(d:Dk):Bool:=if d.wet<0 then(aE d.me d.pa||aE d.me d.pb)&&!((aE d.me d.pa&&aE d.me d.pb)&&(d.pa.co==d.pb.co))
 else(aE d.me d.pa&&aE d.me d.pb)&&decide ((d.pg d.wet.toNat).co>(d.pg (1-d.wet).toNat).co)
def im(d:Dk):Bool:=cp d.me d.now&&aT d.wet (-1) 1
def av(d:Dk):Bool:=im d&&lh d
def iQ(d:Dk):Int:=if av d=true then 0 else 92
theorem ed{d:Dk}(h:av d=true):iQ d=0:=if_pos h
theorem kg{d:Dk}(h:av d=false):iQ d=92:=if_neg (by rw[h];decide)
@[go_sem] theorem agQ(d:Dk):(an d).getD 20 default=vInt d.pa.co:=rfl
@[go_sem] theorem agP(d:Dk):(an d).getD 41 default=vInt d.pb.co:=rfl
theorem ph:IntKind.i64.wrap 0=0:=by decide
theorem pf:IntKind.i64.wrap 1=1:=by decide
theorem mU{d:Dk}(h:d.wet<0):lh d=((aE d.me d.pa||aE d.me d.pb)&&!((aE d.me d.pa&&aE d.me d.pb)&&(d.pa.co==d.pb.co))):=by
 unfold lh;rw[if_pos h]
theorem pn{d:Dk}(h:d.wet=0):lh d=((aE d.me d.pa&&aE d.me d.pb)&&decide (d.pa.co>d.pb.co)):=by
 unfold lh;rw[if_neg (by omega),h];rfl
theorem pj{d:Dk}(h:d.wet=1):lh d=((aE d.me d.pa&&aE d.me d.pb)&&decide (d.pb.co>d.pa.co)):=by
 unfold lh;rw[if_neg (by omega),h];rfl
theorem zL(d:Dk):(!cp d.me d.now||!aT d.wet (-1) 1)=!im d:=by
 unfold im
 cases cp d.me d.now<;>cases aT d.wet (-1) 1<;>rfl
theorem Rj{me:Int}{s:Stk}:(eM me s != 0)=!cp me s:=by
 cases h:cp me s
 ·rw[xM h];rfl
 ·rw[xL h];rfl
noncomputable def P4:List (Nat×Spec):=[(78,S89),(65,S98),(69,S90)]
theorem acG:∀ f s,tbl P4 f=some s->ak Tryd.prog f s:=tc CO<|tc CM<|tc CN<|tn
attribute [go_sem] P4
noncomputable def P74:PSpec:=p1 dK (fun _=>True) (fun d=>.bool (av d)) true
noncomputable def S74:Spec:=P74.toSpec
attribute [go_sem] P74 S74
set_option maxHeartbeats 4000000 in
theorem Sw:aZ Tryd.prog 66 P74:=by
 refine w1 (rs:=[.tmp 2]) Tryd.func66 Tryd.ntmps66 (by rfl) (by kernel_rfl) (by decide) (fun _ _=>rfl) ⟨_,rfl,lb rfl,fun d hp hw=>?_⟩
 have hP:=br
 simp only[dK]at hw |-
 have hΓ:=acG
 repeat refine sq ?_
 refine rs hΓ [1] [[1,0]] ?_
 refine bq (dS [1,0] (an d) rfl [1] [[1,0]] ?_ rfl) ?_
 ·simp only[go_sem]
 simp only[go_sem]
 repeat refine sq ?_
 refine rs hΓ [1,16] [[1,0]] ?_
 repeat refine sq ?_
 refine aD rfl rfl (fun hb=>?_) (fun hb=>?_)
 ·repeat refine sq ?_
  have bV:im d=false:=by have:=zL d;rw[hb]at this;simpa using this.symm
  repeat refine sq ?_
  refine rs hΓ [2] [] ?_
  refine ax ?_
  simp only[go_sem]
  first | (simp[av,bV];done) | (unfold av;rw[bL,mU oB];simp) | (unfold av;rw[bL,pn ek];simp) | (unfold av;rw[bL,pj ek];simp)
 ·repeat refine sq ?_
  have bL:im d=true:=by have:=zL d;rw[hb]at this;simpa using this.symm
  have hi:aT d.wet (-1) 1=true:=by unfold im at bL;rw[Bool.and_eq_true]at bL;exact bL.2
  refine aI ?_
  repeat refine sq ?_
  refine dx hΓ hP [[],[0],[],[2],[2,3],[0,1,2,3,4],[],[6],[],[8],[8,9],[0,1,2,3,4,5,6,7,8,9,10],[0,1,2,3,4,5,6,7,8,9,10,11],[0,1,2,3,4,5,6,7,8,9,10,11,12]] [1,3,4] [[1,0]] (by kernel_rfl) (fun K' hK=>by simp only[go_sem,Int.cast_ofNat_Int,Int.reduceToNat,Int.toNat_one,Int.toNat_zero,Nat.reduceMul,Nat.reduceAdd,Nat.zero_mul,Nat.one_mul,Nat.add_zero];(repeat (refine⟨ob,?_⟩));(first | refine⟨by rfl,?_⟩ | skip);exact hK _ (by simp only[go_sem]) (by simp only[go_sem]<;>rfl)) ?_
  repeat refine sq ?_
  refine rs hΓ [1,3,4,31] [[1,0]] ?_
  repeat refine sq ?_
  refine aD rfl rfl (fun hb=>?_) (fun hb=>?_)
  ·repeat refine sq ?_
   have oB:d.wet<0:=by simpa using hb
   repeat refine sq ?_
   refine rx hΓ [2] [] (fun K' hK=>by simp only[go_sem,Int.cast_ofNat_Int,Int.reduceToNat,Int.toNat_one,Int.toNat_zero,Nat.reduceMul,Nat.reduceAdd,Nat.zero_mul,Nat.one_mul,Nat.add_zero];(repeat (refine⟨ob,?_⟩));exact hK _ (by simp only[go_sem]) (by simp only[go_sem]<;>rfl)) ?_
   refine ax ?_
   simp only[go_sem]
   first | (simp[av,bV];done) | (unfold av;rw[bL,mU oB];simp) | (unfold av;rw[bL,pn ek];simp) | (unfold av;rw[bL,pj ek];simp)
  ·repeat refine sq ?_
   have bo:¬ d.wet<0:=by simpa using hb
   have gR:d.wet=0\/d.wet=1:=by have:=ck.1 hi;omega
   refine aI ?_
   rcases gR with ek | ek
   ·repeat refine sq ?_
    refine dx hΓ hP [[],[0],[0,1],[0,1,2],[0,1,2,3],[0,1,2,3,4],[0,1,2,3,4,5],[0,1,2,3,4],[0,1,2,3,4,5,6,7],[0,1,2,3,4,5,6,7,8],[0,1,2,3,4,5,6,7,8,9],[0,1,2,3,4],[0,1,2,3,4,11],[0,1,2,3,4,11,12],[0,1,2,3,4],[0,1,2,3,4,11,12,13,14],[0,1,2,3,4,11,12,13,14,15],[0,1,2,3,4,11,12,13,14,15,16],[0,1,2,3,4,5,6,7,8,9,10,11,12,13,14,15,16,17],[0,1,2,3,4,5,6,7,8,9,10,11,12,13,14,15,16,17,18],[0,1,2,3,4,5,6,7,8,9,10,11,12,13,14,15,16,17,18,19]] [2] [] (by kernel_rfl) (fun K' hK=>by simp only[go_sem,ek,ph,pf,Int.sub_self,Int.sub_zero,Int.cast_ofNat_Int,Int.reduceToNat,Int.toNat_one,Int.toNat_zero,Nat.reduceMul,Nat.reduceAdd,Nat.zero_mul,Nat.one_mul,Nat.add_zero];(repeat (refine⟨ob,?_⟩));(first | refine⟨by rfl,?_⟩ | skip);exact hK _ (by simp only[go_sem]) (by simp only[go_sem]<;>rfl)) ?_
    refine ax ?_
    simp only[go_sem]
    first | (simp[av,bV];done) | (unfold av;rw[bL,mU oB];simp) | (unfold av;rw[bL,pn ek];simp) | (unfold av;rw[bL,pj ek];simp)
   ·repeat refine sq ?_
    refine dx hΓ hP [[],[0],[0,1],[0,1,2],[0,1,2,3],[0,1,2,3,4],[0,1,2,3,4,5],[0,1,2,3,4],[0,1,2,3,4,5,6,7],[0,1,2,3,4,5,6,7,8],[0,1,2,3,4,5,6,7,8,9],[0,1,2,3,4],[0,1,2,3,4,11],[0,1,2,3,4,11,12],[0,1,2,3,4],[0,1,2,3,4,11,12,13,14],[0,1,2,3,4,11,12,13,14,15],[0,1,2,3,4,11,12,13,14,15,16],[0,1,2,3,4,5,6,7,8,9,10,11,12,13,14,15,16,17],[0,1,2,3,4,5,6,7,8,9,10,11,12,13,14,15,16,17,18],[0,1,2,3,4,5,6,7,8,9,10,11,12,13,14,15,16,17,18,19]] [2] [] (by kernel_rfl) (fun K' hK=>by simp only[go_sem,ek,ph,pf,Int.sub_self,Int.sub_zero,Int.cast_ofNat_Int,Int.reduceToNat,Int.toNat_one,Int.toNat_zero,Nat.reduceMul,Nat.reduceAdd,Nat.zero_mul,Nat.one_mul,Nat.add_zero];(repeat (refine⟨ob,?_⟩));(first | refine⟨by rfl,?_⟩ | skip);exact hK _ (by simp only[go_sem]) (by simp only[go_sem]<;>rfl)) ?_
    refine ax ?_
    simp only[go_sem]
    first | (simp[av,bV];done) | (unfold av;rw[bL,mU oB];simp) | (unfold av;rw[bL,pn ek];simp) | (unfold av;rw[bL,pj ek];simp)
theorem Wz:ak Tryd.prog 66 S74:=Sw.sound
noncomputable def P3:List (Nat×Spec):=[(66,S74)]
theorem acF:∀ f s,tbl P3 f=some s->ak Tryd.prog f s:=tc Wz<|tn
attribute [go_sem] P3
noncomputable def P23:PSpec:=p1 dK (fun _=>True) (fun d=>vInt (iQ d)) true
noncomputable def S23:Spec:=P23.toSpec
attribute [go_sem] P23 S23
theorem SS:aZ Tryd.prog 39 P23:=by
 refine w1 (rs:=[.tmp 2]) Tryd.func39 Tryd.ntmps39 (by rfl) (by kernel_rfl) (by decide) (fun _ _=>rfl) ⟨_,rfl,lb rfl,fun d hp hw=>?_⟩
 have hP:=br
 simp only[dK]at hw |-
 have hΓ:=acF
 repeat refine sq ?_
 refine rs hΓ [1] [[1,0]] ?_
 refine bq (dS [1,0] (an d) rfl [1] [[1,0]] ?_ rfl) ?_
 ·simp only[go_sem]
 simp only[go_sem]
 repeat refine sq ?_
 refine rs hΓ [5] [] ?_
 repeat refine sq ?_
 refine aD rfl rfl (fun hb=>?_) (fun hb=>?_)
 ·repeat refine sq ?_
  refine rs hΓ [2] [] ?_
  refine ax ?_
  simp only[go_sem]
  first | (rw[kg (by simpa using hb)];done) | (rw[ed (by simpa using hb)];done)
 ·repeat refine sq ?_
  refine aI ?_
  repeat refine sq ?_
  refine rs hΓ [2] [] ?_
  refine ax ?_
  simp only[go_sem]
  first | (rw[kg (by simpa using hb)];done) | (rw[ed (by simpa using hb)];done)
theorem pK:ak Tryd.prog 39 S23:=SS.sound
noncomputable def P2:List (Nat×Spec):=[(84,S43),(83,S86),(85,S45)]
theorem acE:∀ f s,tbl P2 f=some s->ak Tryd.prog f s:=tc CX<|tc CP<|tc KO<|tn
attribute [go_sem] P2
noncomputable def P39:PSpec:=p1 dK (fun _=>True) (fun d=>vInt (iQ d)) true
noncomputable def S39:Spec:=P39.toSpec
attribute [go_sem] P39 S39
set_option maxHeartbeats 4000000 in
theorem SM:aZ Tryd.prog 77 P39:=by
 refine w1 (rs:=[.tmp 2]) Tryd.func77 Tryd.ntmps77 (by rfl) (by kernel_rfl) (by decide) (fun _ _=>rfl) ⟨_,rfl,lb rfl,fun d hp hw=>?_⟩
 have hP:=br
 simp only[dK]at hw |-
 have hΓ:=acE
 repeat refine sq ?_
 refine rs hΓ [1] [[1,0]] ?_
 refine bq (dS [1,0] (an d) rfl [1] [[1,0]] ?_ rfl) ?_
 ·simp only[go_sem]
 simp only[go_sem]
 repeat refine sq ?_
 refine rx hΓ [1,16] [[1,0]] (fun K' hK=>by simp only[go_sem,Rj];(repeat (refine⟨ob,?_⟩));exact hK _ (by simp only[go_sem]) (by simp only[go_sem]<;>rfl)) ?_
 repeat refine sq ?_
 refine aD rfl rfl (fun hb=>?_) (fun hb=>?_)
 ·repeat refine sq ?_
  have bV:im d=false:=by have:=zL d;rw[hb]at this;simpa using this.symm
  have ez:av d=false:=by unfold av;rw[bV];rfl
  repeat refine sq ?_
  refine rs hΓ [2] [] ?_
  refine ax ?_
  simp only[go_sem]
  first | (rw[kg ez];done) | (rw[ed ez];done)
 ·repeat refine sq ?_
  have bL:im d=true:=by have:=zL d;rw[hb]at this;simpa using this.symm
  have hi:aT d.wet (-1) 1=true:=by unfold im at bL;rw[Bool.and_eq_true]at bL;exact bL.2
  refine aI ?_
  repeat refine sq ?_
  refine rx hΓ [1,3] [[1,0]] (fun K' hK=>by simp only[go_sem,If,Int.cast_ofNat_Int,Int.reduceToNat,Int.toNat_one,Int.toNat_zero,Nat.reduceMul,Nat.reduceAdd,Nat.zero_mul,Nat.one_mul,Nat.add_zero];(repeat (refine⟨ob,?_⟩));exact hK _ (by simp only[go_sem]) (by simp only[go_sem]<;>rfl)) ?_
  repeat refine sq ?_
  refine rx hΓ [1,3,4] [[1,0]] (fun K' hK=>by simp only[go_sem,If,Int.cast_ofNat_Int,Int.reduceToNat,Int.toNat_one,Int.toNat_zero,Nat.reduceMul,Nat.reduceAdd,Nat.zero_mul,Nat.one_mul,Nat.add_zero];(repeat (refine⟨ob,?_⟩));exact hK _ (by simp only[go_sem]) (by simp only[go_sem]<;>rfl)) ?_
  repeat refine sq ?_
  refine rs hΓ [1,3,4,33] [[1,0]] ?_
  repeat refine sq ?_
  refine aD rfl rfl (fun hb=>?_) (fun hb=>?_)
  ·repeat refine sq ?_
   have oB:d.wet<0:=by simpa using hb
   repeat refine sq ?_
   refine rx hΓ [56] [] (fun K' hK=>by simp only[go_sem,Int.cast_ofNat_Int,Int.reduceToNat,Int.toNat_one,Int.toNat_zero,Nat.reduceMul,Nat.reduceAdd,Nat.zero_mul,Nat.one_mul,Nat.add_zero];(repeat (refine⟨ob,?_⟩));exact hK _ (by simp only[go_sem]) (by simp only[go_sem]<;>rfl)) ?_
   repeat refine sq ?_
   refine aD rfl rfl (fun hb=>?_) (fun hb=>?_)
   ·repeat refine sq ?_
    have ez:av d=false:=by unfold av;rw[bL,mU oB];revert hb;cases aE d.me d.pa<;>cases aE d.me d.pb<;>simp
    repeat refine sq ?_
    refine rs hΓ [2] [] ?_
    refine ax ?_
    simp only[go_sem]
    first | (rw[kg ez];done) | (rw[ed ez];done)
   ·repeat refine sq ?_
    have ez:av d=true:=by unfold av;rw[bL,mU oB];revert hb;cases aE d.me d.pa<;>cases aE d.me d.pb<;>simp
    refine aI ?_
    repeat refine sq ?_
    refine rs hΓ [2] [] ?_
    refine ax ?_
    simp only[go_sem]
    first | (rw[kg ez];done) | (rw[ed ez];done)
  ·repeat refine sq ?_
   have bo:¬ d.wet<0:=by simpa using hb
   have gR:d.wet=0\/d.wet=1:=by have:=ck.1 hi;omega
   refine aI ?_
   rcases gR with ek | ek
   ·repeat refine sq ?_
    refine dx hΓ hP [[],[0],[0,1],[0,1,2],[0,1,2,3],[0,1,2,3,4],[0,1,2,3,4,5],[0,1,2,3,4,5,6],[0,1,2,3,4,5,6,7],[0,1,2,3,4,5,6],[0,1,2,3,4,5,6,7,8,9],[0,1,2,3,4,5,6,7,8,9,10],[0,1,2,3,4,5,6,7,8,9,10,11],[0,1,2,3,4,5,6],[0,1,2,3,4,5,6,13],[0,1,2,3,4,5,6,13,14],[0,1,2,3,4,5,6],[0,1,2,3,4,5,6,13,14,15,16],[0,1,2,3,4,5,6,13,14,15,16,17],[0,1,2,3,4,5,6,13,14,15,16,17,18],[0,1,2,3,4,5,6,7,8,9,10,11,12,13,14,15,16,17,18,19],[0,1,2,3,4,5,6,7,8,9,10,11,12,13,14,15,16,17,18,19,20]] [78] [] (by kernel_rfl) (fun K' hK=>by simp only[go_sem,ek,ph,pf,Int.sub_self,Int.sub_zero,Int.cast_ofNat_Int,Int.reduceToNat,Int.toNat_one,Int.toNat_zero,Nat.reduceMul,Nat.reduceAdd,Nat.zero_mul,Nat.one_mul,Nat.add_zero];(repeat (refine⟨ob,?_⟩));(first | refine⟨by rfl,?_⟩ | skip);exact hK _ (by simp only[go_sem]) (by simp only[go_sem]<;>rfl)) ?_
    repeat refine sq ?_
    refine aD rfl rfl (fun hb=>?_) (fun hb=>?_)
    ·repeat refine sq ?_
     have ez:av d=false:=by unfold av;rw[bL,pn ek];revert hb;cases aE d.me d.pa<;>cases aE d.me d.pb<;>simp
     repeat refine sq ?_
     refine rx hΓ [2] [] (fun K' hK=>by simp only[go_sem,ek,ph,pf,Int.sub_self,Int.sub_zero,Int.cast_ofNat_Int,Int.reduceToNat,Int.toNat_one,Int.toNat_zero,Nat.reduceMul,Nat.reduceAdd,Nat.zero_mul,Nat.one_mul,Nat.add_zero];(repeat (refine⟨ob,?_⟩));exact hK _ (by simp only[go_sem]) (by simp only[go_sem]<;>rfl)) ?_
     refine ax ?_
     simp only[go_sem]
     first | (rw[kg ez];done) | (rw[ed ez];done)
    ·repeat refine sq ?_
     have ez:av d=true:=by unfold av;rw[bL,pn ek];revert hb;cases aE d.me d.pa<;>cases aE d.me d.pb<;>simp
     refine aI ?_
     repeat refine sq ?_
     refine rx hΓ [2] [] (fun K' hK=>by simp only[go_sem,ek,ph,pf,Int.sub_self,Int.sub_zero,Int.cast_ofNat_Int,Int.reduceToNat,Int.toNat_one,Int.toNat_zero,Nat.reduceMul,Nat.reduceAdd,Nat.zero_mul,Nat.one_mul,Nat.add_zero];(repeat (refine⟨ob,?_⟩));exact hK _ (by simp only[go_sem]) (by simp only[go_sem]<;>rfl)) ?_
     refine ax ?_
     simp only[go_sem]
     first | (rw[kg ez];done) | (rw[ed ez];done)
   ·repeat refine sq ?_
    refine dx hΓ hP [[],[0],[0,1],[0,1,2],[0,1,2,3],[0,1,2,3,4],[0,1,2,3,4,5],[0,1,2,3,4,5,6],[0,1,2,3,4,5,6,7],[0,1,2,3,4,5,6],[0,1,2,3,4,5,6,7,8,9],[0,1,2,3,4,5,6,7,8,9,10],[0,1,2,3,4,5,6,7,8,9,10,11],[0,1,2,3,4,5,6],[0,1,2,3,4,5,6,13],[0,1,2,3,4,5,6,13,14],[0,1,2,3,4,5,6],[0,1,2,3,4,5,6,13,14,15,16],[0,1,2,3,4,5,6,13,14,15,16,17],[0,1,2,3,4,5,6,13,14,15,16,17,18],[0,1,2,3,4,5,6,7,8,9,10,11,12,13,14,15,16,17,18,19],[0,1,2,3,4,5,6,7,8,9,10,11,12,13,14,15,16,17,18,19,20]] [78] [] (by kernel_rfl) (fun K' hK=>by simp only[go_sem,ek,ph,pf,Int.sub_self,Int.sub_zero,Int.cast_ofNat_Int,Int.reduceToNat,Int.toNat_one,Int.toNat_zero,Nat.reduceMul,Nat.reduceAdd,Nat.zero_mul,Nat.one_mul,Nat.add_zero];(repeat (refine⟨ob,?_⟩));(first | refine⟨by rfl,?_⟩ | skip);exact hK _ (by simp only[go_sem]) (by simp only[go_sem]<;>rfl)) ?_
    repeat refine sq ?_
    refine aD rfl rfl (fun hb=>?_) (fun hb=>?_)
    ·repeat refine sq ?_
     have ez:av d=false:=by unfold av;rw[bL,pj ek];revert hb;cases aE d.me d.pa<;>cases aE d.me d.pb<;>simp
     repeat refine sq ?_
     refine rx hΓ [2] [] (fun K' hK=>by simp only[go_sem,ek,ph,pf,Int.sub_self,Int.sub_zero,Int.cast_ofNat_Int,Int.reduceToNat,Int.toNat_one,Int.toNat_zero,Nat.reduceMul,Nat.reduceAdd,Nat.zero_mul,Nat.one_mul,Nat.add_zero];(repeat (refine⟨ob,?_⟩));exact hK _ (by simp only[go_sem]) (by simp only[go_sem]<;>rfl)) ?_
     refine ax ?_
     simp only[go_sem]
     first | (rw[kg ez];done) | (rw[ed ez];done)
    ·repeat refine sq ?_
     have ez:av d=true:=by unfold av;rw[bL,pj ek];revert hb;cases aE d.me d.pa<;>cases aE d.me d.pb<;>simp
     refine aI ?_
     repeat refine sq ?_
     refine rx hΓ [2] [] (fun K' hK=>by simp only[go_sem,ek,ph,pf,Int.sub_self,Int.sub_zero,Int.cast_ofNat_Int,Int.reduceToNat,Int.toNat_one,Int.toNat_zero,Nat.reduceMul,Nat.reduceAdd,Nat.zero_mul,Nat.one_mul,Nat.add_zero];(repeat (refine⟨ob,?_⟩));exact hK _ (by simp only[go_sem]) (by simp only[go_sem]<;>rfl)) ?_
     refine ax ?_
     simp only[go_sem]
     first | (rw[kg ez];done) | (rw[ed ez];done)
theorem rj:ak Tryd.prog 77 S39:=SM.sound
end Go.Eng
set_option linter.unusedVariables false
namespace Go.Eng
open Go Go.Proofs Go.RowKit Go.Lib Go.Shelf
set_option maxHeartbeats 2000000 in
set_option maxRecDepth 100000 in
theorem aa8(n c:Nat)(w:World):Calls Tryd.prog 46 #[.slice none n c] w fun e w'=>e=.returned (.slice none 0 0)/\w'=w:=by
 have mixed:Tryd.prog.follows Departure.mixedOrders=true:=by kernel_rfl
 have qT:∀ (w:World) (a:Option Addr) (n c n' c':Nat),(binOp .eql 35 (.slice a n c) (.slice none n' c')).run Tryd.prog w=.ok (.bool a.isNone) w:=fun w a n c n' c'=>Lib.run_eql_slice_nil w _ _ a n c n' c' Tryd.underlying35
 go_enter Tryd.func46,Tryd.ntmps46
 go_wp2
 go_ret
 exact⟨rfl,rfl⟩
set_option maxHeartbeats 2000000 in
set_option maxRecDepth 100000 in
theorem aa7(a:Addr)(n c:Nat)(w:World)(v':Value)(w':World)
 (cw:∀ ty,(Builtin.append_ #[35,35] ty #[.slice (some ⟨w.heap.size,0,none⟩) 0 0,.slice (some a) n c]).run Tryd.prog (w.alloc (.cells #[] 75))=.ok v' w'):
 Calls Tryd.prog 46 #[.slice (some a) n c] w fun e w1=>e=.returned v'/\w1=w':=by
 have mixed:Tryd.prog.follows Departure.mixedOrders=true:=by kernel_rfl
 have qT:∀ (w:World) (a:Option Addr) (n c n' c':Nat),(binOp .eql 35 (.slice a n c) (.slice none n' c')).run Tryd.prog w=.ok (.bool a.isNone) w:=fun w a n c n' c'=>Lib.run_eql_slice_nil w _ _ a n c n' c' Tryd.underlying35
 go_enter Tryd.func46,Tryd.ntmps46
 go_wp2_with (at_builtin;refine Lib.wpList_append_run _ rfl _ _ _ _ rfl _ _ rfl rfl _ _ (cw _) ?_)
 go_ret
 exact⟨rfl,rfl⟩
set_option maxHeartbeats 2000000 in
set_option maxRecDepth 100000 in
theorem aa6(n c:Nat)(w:World):Calls Tryd.prog 36 #[.slice none n c] w fun e w'=>e=.returned (.slice none 0 0)/\w'=w:=by
 have mixed:Tryd.prog.follows Departure.mixedOrders=true:=by kernel_rfl
 have qT:∀ (w:World) (a:Option Addr) (n c n' c':Nat),(binOp .eql 34 (.slice a n c) (.slice none n' c')).run Tryd.prog w=.ok (.bool a.isNone) w:=fun w a n c n' c'=>Lib.run_eql_slice_nil w _ _ a n c n' c' Tryd.underlying34
 go_enter Tryd.func36,Tryd.ntmps36
 go_wp2
 go_ret
 exact⟨rfl,rfl⟩
set_option maxHeartbeats 2000000 in
set_option maxRecDepth 100000 in
theorem aa5(a:Addr)(n c:Nat)(w:World)(v':Value)(w':World)
 (cw:∀ ty,(Builtin.append_ #[34,34] ty #[.slice (some ⟨w.heap.size,0,none⟩) 0 0,.slice (some a) n c]).run Tryd.prog (w.alloc (.cells #[] 3))=.ok v' w'):
 Calls Tryd.prog 36 #[.slice (some a) n c] w fun e w1=>e=.returned v'/\w1=w':=by
 have mixed:Tryd.prog.follows Departure.mixedOrders=true:=by kernel_rfl
 have qT:∀ (w:World) (a:Option Addr) (n c n' c':Nat),(binOp .eql 34 (.slice a n c) (.slice none n' c')).run Tryd.prog w=.ok (.bool a.isNone) w:=fun w a n c n' c'=>Lib.run_eql_slice_nil w _ _ a n c n' c' Tryd.underlying34
 go_enter Tryd.func36,Tryd.ntmps36
 go_wp2_with (at_builtin;refine Lib.wpList_append_run _ rfl _ _ _ _ rfl _ _ rfl rfl _ _ (cw _) ?_)
 go_ret
 exact⟨rfl,rfl⟩
theorem oa(n:Nat)(h:n<1000000000):n≠yid:=by unfold yid;omega
theorem FU:ve Tryd.prog 46 35 75 2 16 (.agg #[.int .i64 0,.int .i64 0]):=
 ⟨by kernel_rfl,by kernel_rfl,oa _ (by decide),iv Tryd.func46 (by rfl) (by kernel_rfl),aa8,aa7⟩
theorem FT:ve Tryd.prog 36 34 3 1 8 (.int .i64 0):=
 ⟨by kernel_rfl,by kernel_rfl,oa _ (by decide),iv Tryd.func36 (by rfl) (by kernel_rfl),aa6,aa5⟩
def Iq(sz by_:Nat):PSpec:=⟨fun xs=>∃ l,xs=[.sl l]/\(∀ z∈l,z.cells.length=sz/\z.okc=true)/\l.length*by_<=140737488355328,fun xs=>xs.headD default,false⟩
theorem N4{P:Program}{f T E sz by_:Nat}{Z:Value}(L:ve P f T E sz by_ Z)(hz:Z.cells.size=sz)(hb:0<by_):aZ P f (Iq sz by_):=by
 refine H9 (xa L) L.ne (fun h=>by cases h) ?_
 rintro xs ⟨l,rfl,hl,hn⟩
 simp only[oZ,List.map_cons,List.map_nil,Iq,List.headD_cons]
 cases l with
 |nil=>exact⟨trivial,trivial,rfl⟩
 |cons y r=>
  have e:g' P (fun _=>none) [0,0] T (.v (.sl (y::r)))=cm P (fun _=>none) [0,0] T T .nilsl (.v (.sl (y::r))):=rfl
  rw[e]
  have oC:(y::r).length*by_<=140737488355328:=hn
  have iJ:(y::r).length<=maxLen:=by unfold maxLen;have:=Nat.le_mul_of_pos_right (y::r).length hb;omega
  simp only[cm,L.tE,L.tZ,aw,ar,aC,aL]
  exact⟨⟨trivial,hl,hz,oC,iJ,trivial⟩,trivial,trivial⟩
theorem aZ.conv{P:Program}{f:FuncId}{s s':PSpec}(h:aZ P f s)(hf:s'.flat=s.flat)(hp:∀ xs,s'.pre xs->s.pre xs/\s'.fn xs=s.fn xs):aZ P f s':=by
 refine⟨h.ne,h.enter,fun gm xs hx=>?_,fun m w xs args hm ht hx cG=>?_⟩
 ·rw[(hp xs hx).2];exact h.flat (hf▸gm) xs (hp xs hx).1
 ·rw[(hp xs cG).2];exact h.calls m w xs args hm ht hx (hp xs cG).1
noncomputable def Gr:PSpec:=p1 dJ (fun l=>l.length*8<=140737488355328) (fun l=>.sl (l.map vInt)) false
noncomputable def S77:Spec:=Gr.toSpec
theorem CS:ak Tryd.prog 36 S77:=(aZ.conv (s':=Gr) (N4 FT rfl (by decide)) rfl (by
 intro xs hx
 obtain⟨l,rfl,hl,e⟩:=yg hx
 exact⟨⟨_,rfl,fun z hz=>by obtain⟨x,_,rfl⟩:=List.mem_map.1 hz;exact⟨rfl,rfl⟩,by simpa using hl⟩,e⟩)).sound
noncomputable def Gs:PSpec:=p1 kG (fun l=>l.length*16<=140737488355328) (fun l=>.sl (l.map encPa)) false
noncomputable def S76:Spec:=Gs.toSpec
theorem KG:ak Tryd.prog 46 S76:=(aZ.conv (s':=Gs) (N4 FU rfl (by decide)) rfl (by
 intro xs hx
 obtain⟨l,rfl,hl,e⟩:=yg hx
 exact⟨⟨_,rfl,fun z hz=>by obtain⟨x,_,rfl⟩:=List.mem_map.1 hz;exact⟨rfl,rfl⟩,by simpa using hl⟩,e⟩)).sound
attribute [go_sem] Gs S76 Gr S77
open Go
structure Gx (r:Lp) (caps:List Name->List D):Prop where
 ren:∀ f Ls,Ls.length=r.m->D.renL f (caps Ls)=caps (Ls.map f)
 clo:∀ dom Ls,Ls.length=r.m->(∀ x∈Ls,dom x=true)->D.closL dom (caps Ls)=true
 reach:∀ Ls s obj R k,Ls.length=r.m->(R::Ls).Nodup->cS obj Ls (r.fam Ls s)->obj R=some (r.rc Ls .ready none)->dA obj (k+r.fu+1) (R::cJ (caps Ls)) []=R::Ls
def Lp.itC(r:Lp)(caps:List Name->List D):CSpec where
 pre:=fun os ds=>os=r.rc (LI r.m) .ready none::r.fam (LI r.m) 0/\ds=.yld [0,1]::caps (LI r.m)
 out:=fun _ _=>⟨(0,r.fin (LI r.m))::eD 1 (r.fam (LI r.m) r.e),[],.tup []⟩
theorem Lp.itC_app{r:Lp}(hr:r.Ok){caps:List Name->List D}(wF:Gx r caps){obj:Name->Option O}{t R:Name}{Ls:List Name}(hl:Ls.length=r.m)(hn:Ls.Nodup)(hR:R∉Ls)
 (h0:obj R=some (r.rc Ls .ready none)) (hF:cS obj Ls (r.fam Ls 0)):
 (r.itC caps).toSpec.app obj t (.yld R::caps Ls)=⟨True,.tup [],cq Ls (r.fam Ls r.e) (upd obj R (some (r.fin Ls)))⟩:=by
 have wh:(R::Ls).Nodup:=List.nodup_cons.2 ⟨hR,hn⟩
 have jA:reach obj (.yld R::caps Ls)=R::Ls:=by
  unfold reach
  have :=wF.reach Ls 0 obj R (2999-r.fu) hl wh hF h0
  rw[show 2999-r.fu+r.fu+1=3000 by have:=hr.fuel;omega]at this
  exact this
 have Er:∀ s,cS obj Ls (r.fam Ls s)->Ls.map (bZ (R::Ls) obj)=(r.fam Ls s).map (O.ren (cin (R::Ls))):=by
  intro s hF
  rw[jw]at hF
  refine List.ext_getElem (by simp[hr.len _ _ hl,hl]) fun i h1 h2=>?_
  have h3:i<Ls.length:=by simpa using h1
  have h4:i<(r.fam Ls s).length:=by rw[hr.len _ _ hl,<-hl];exact h3
  have h5:=congrArg (fun l=>l[i]?) hF
  have h6:obj Ls[i]=some (r.fam Ls s)[i]:=by simpa[h3,h4]using h5
  simp only[List.getElem_map,bZ,h6]
 have e1:cg obj (.yld R::caps Ls)=r.rc (LI r.m) .ready none::r.fam (LI r.m) 0:=by
  unfold cg
  rw[jA,List.map_cons,Er 0 hF,hr.renF _ _ _ hl,xb hn hR,hl]
  congr 1
  unfold Lp.rc at h0 |-
  simp only[bZ,h0,O.ren]
  rw[hr.renE _ _ hl,xb hn hR,hl]
 have e2:cH obj (.yld R::caps Ls)=.yld [0,1]::caps (LI r.m):=by
  unfold cH
  rw[jA]
  simp only[D.renL,D.ren,wF.ren _ _ hl]
  rw[xb hn hR,hl]
  simp only[cin,idx,if_true]
 have cG:(r.itC caps).pre (r.rc (LI r.m) .ready none::r.fam (LI r.m) 0) (.yld [0,1]::caps (LI r.m)):=⟨rfl,rfl⟩
 have fF:∀ os ds,(r.itC caps).out os ds=⟨(0,r.fin (LI r.m))::eD 1 (r.fam (LI r.m) r.e),[],.tup []⟩:=fun _ _=>rfl
 have uo:∀ x∈Ls,b8 (R::Ls) x=true:=fun x hx=>gQ.2 (List.mem_cons_of_mem _ hx)
 have fO:shut obj (R::Ls)=true:=by
  unfold shut
  rw[List.all_eq_true]
  intro x hx
  rcases List.mem_cons.1 hx with rfl | hx
  ·rw[h0]
   unfold Lp.rc
   exact hr.closE _ _ hl uo
  obtain⟨i,hi,rfl⟩:=List.getElem_of_mem hx
  rw[jw]at hF
  have h4:i<(r.fam Ls 0).length:=by rw[hr.len _ _ hl,<-hl];exact hi
  have h5:=congrArg (fun l=>l[i]?) hF
  have h6:obj Ls[i]=some (r.fam Ls 0)[i]:=by simpa[hi,h4]using h5
  rw[h6]
  exact hr.closF _ _ _ hl uo _ (List.getElem_mem h4)
 have bO:D.closL (b8 (R::Ls)) (.yld R::caps Ls)=true:=by
  show (b8 (R::Ls) R&&D.closL _ _)=true
  rw[wF.clo _ _ hl uo]
  simp[b8]
 have hp:∀ obj',b7 (R::Ls) t (eD 1 (r.fam (LI r.m) r.e)) obj'=cq Ls (r.fam Ls r.e) obj':=by
  intro obj'
  rw[x9 (Ls:=Ls) (by rw[hr.len _ _ (dm _),hl]) fun i hi=>by
   rw[Nat.add_comm,List.getD_cons_succ];exact kb hi,hr.renF _ _ _ (dm _)]
  have :(LI r.m).map (cout (R::Ls) t)=Ls:=by rw[<-hl];exact Aq R Ls t
  rw[this]
 have hf:O.ren (cout (R::Ls) t) (r.fin (LI r.m))=r.fin Ls:=by
  unfold Lp.fin Lp.rc
  simp only[O.ren]
  rw[hr.renE _ _ (dm _)]
  have :(LI r.m).map (cout (R::Ls) t)=Ls:=by rw[<-hl];exact Aq R Ls t
  rw[this]
 simp only[CSpec.toSpec,e1,e2,jA,fF,fO,bO,fresh,List.all_nil,Bool.and_self,cG,and_self,cY,b7,List.getD_cons_zero,hf,hp,D.ren,D.renL]
theorem abb{P:Program}{r:Lp}(hr:r.Ok){caps:List Name->List D}(wF:Gx r caps){g:Operand}{ps:Array Tmp}{asg body:Code}{σ:S}{rest:List Code}{K:Exit->S->Prop}(k k':Nat){f:FuncId}{Ls:List Name}
 (hc:cr σ g=true) (hg:ah σ g=.clo (.func f) [] (caps Ls)) (aj:f≠yid) (hs:ak P f (r.itC caps).toSpec) (mi:σ.obj (k::σ.pre)=none)
 (he:(List.range σ.nt).map σ.env=r.env Ls) (eZ:ps.toList=r.ps) (ha:asg=r.asg) (hb:body=r.body) (hl:Ls.length=r.m) (hn:Ls.Nodup) (hR:(k::σ.pre)∉Ls) (hF:cS σ.obj Ls (r.fam Ls 0))
 (hK:∀ o:O,tk (fV (fun σ'=>CL P rest σ' K) K) { σ with obj:=upd (cq Ls (r.fam Ls r.e) σ.obj) (k::σ.pre) (some o) } r.pd):CL P (.rangeFunc g ps asg body::rest) σ K:=by
 subst ha
 subst hb
 generalize mw:k::σ.pre=R at *
 have Ew:∀ x∈Ls,(upd σ.obj R (some (r.rc Ls .ready none))) x=σ.obj x:=fun x hx=>aH _ _ _ (by rintro rfl;exact hR hx)
 have mu:=Lp.itC_app hr wF (t:=k'::σ.pre) hl hn hR (aC σ.obj R (some (r.rc Ls .ready none))) (IT hF Ew)
 have we:O.loop ((List.range σ.nt).map σ.env) ps.toList r.asg r.body .ready none=r.rc Ls .ready none:=by unfold Lp.rc;rw[he,eZ]
 have j9:ep (ah σ g) [.yld R]=.yld R::caps Ls:=by rw[hg];rfl
 have cV:fw (ah σ g)=some f:=by rw[hg];simp[fw,aj]
 have Dl:∀ (F:List O) (obj:Name->Option O) (a b:Option O),upd (cq Ls F (upd obj R a)) R b=upd (cq Ls F obj) R b:=by
  intro F obj a b
  funext x
  by_cases h:x=R
  ·subst h;rw[aC,aC]
  ·rw[aH _ _ _ h,aH _ _ _ h]
   have :∀ (Ls:List Name) (F:List O) (o1 o2:Name->Option O),o1 x=o2 x->cq Ls F o1 x=cq Ls F o2 x:=by
    intro Ls
    induction Ls with
    |nil=>intro F o1 o2 h;simpa[cq]using h
    |cons y ys ih=>
     intro F o1 o2 h
     cases F with
     |nil=>simpa[cq]using h
     |cons f fs=>
      simp only[cq]
      refine ih fs _ _ ?_
      by_cases e:x=y
      ·subst e;rw[aC,aC]
      ·rw[aH _ _ _ e,aH _ _ _ e,h]
   exact this Ls F _ _ (aH _ _ _ h)
 refine FV (Γ:=fun x=>if x=f then some (r.itC caps).toSpec else none) (fun x s hx=>by
  split at hx
  ·rename_i e;cases hx;subst e;exact hs
  ·cases hx) k k' hc cV aj (if_pos rfl) (by rw[mw];exact mi) ?_ ?_
 ·rw[mw,j9,we,mu];trivial
 ·rw[mw,j9,we,mu]
  have j7:cq Ls (r.fam Ls r.e) (upd (upd σ.obj R (some (r.rc Ls .ready none))) R (some (r.fin Ls))) R=some (r.fin Ls):=by rw[pt hR,aC]
  have kH:jr (cq Ls (r.fam Ls r.e) (upd (upd σ.obj R (some (r.rc Ls .ready none))) R (some (r.fin Ls)))) R=
      upd (cq Ls (r.fam Ls r.e) σ.obj) R (some (r.rc Ls .exhausted r.pd)):=by
   unfold jr
   rw[j7]
   unfold Lp.fin Lp.rc
   simp only[Dl]
  refine Jh r.pd j7 ?_
  rw[kH]
  exact hK (r.rc Ls .exhausted r.pd)
def iA(obj:Name->Option O)(L:List O):Name->Option O:=fun nm=>match aS L nm with | some o=>some o | none=>obj nm
theorem RC{L1 L2:List O}(h:L2.length=L1.length):iA (aS L1) L2=aS L2:=by
 funext nm
 unfold iA
 cases hx:cE nm with
 |false=>rw[vA hx,vA hx]
 |true=>
  obtain⟨i,rfl⟩:=tN.1 hx
  simp only[aS]
  by_cases hi:i<L2.length
  ·rw[List.getElem?_eq_getElem hi]
  ·rw[List.getElem?_eq_none (by omega),List.getElem?_eq_none (by omega)]
theorem Cq(n:Nat)(p:Name)(F H:Name->Option O)(L:List O)(l:List (Nat×E))(h:List (Name×O)):
 aO n p (iA (fun nm=>if own p nm=true then F nm else H nm) L) l h=aO n p (iA H L) l h:=
 vI fun nm hn=>by unfold iA;simp[hn]
theorem Gt(p:Name)(dom:Name->Bool)(F H:Name->Option O)(L:List O):
 bW p dom (iA (fun nm=>if own p nm=true then F nm else H nm) L)=bW p dom (iA H L):=by
 have e:∀ nm,own p nm=false->iA (fun nm=>if own p nm=true then F nm else H nm) L nm=iA H L nm:=fun nm hn=>by unfold iA;simp[hn]
 exact propext ⟨fun k nm q hn h=>k nm q hn (by rw[e nm hn];exact h),fun k nm q hn h=>k nm q hn (by rw[<-e nm hn];exact h)⟩
def Lp.I(r:Lp)(s:Nat):List O:=r.rc (LI r.m) .ready none::r.fam (LI r.m) s
theorem Lp.I_len{r:Lp}(hr:r.Ok)(s:Nat):(r.I s).length=r.m+1:=by unfold Lp.I;rw[List.length_cons,hr.len _ _ (dm _)]
theorem Lp.I_clos{r:Lp}(hr:r.Ok)(s:Nat):∀ o∈r.I s,∀ dom:Name->Bool,(∀ i,dom [i,1]=true)->O.clos dom o=true:=by
 intro o ho dom hd
 have fa:∀ x∈LI r.m,dom x=true:=fun x hx=>by
  obtain⟨i,_,rfl⟩:=List.mem_map.1 hx
  exact hd _
 rcases List.mem_cons.1 ho with rfl | ho
 ·exact hr.closE _ _ (dm _) fa
 ·exact hr.closF _ _ _ (dm _) fa _ ho
theorem Lp.y_setU{r:Lp}(hr:r.Ok)(bF:∀ j,r.st j=none){s:Nat}(hs:s<r.n)(obj:Name->Option O)(tm:Name)(ho:∀ nm,cE nm=true->obj nm=aS (r.I s) nm):
 r.y.toSpec.app obj tm (.yld [0,1]::r.vals s)=⟨True,.v (.bool true),iA obj (r.I (s+1))⟩:=by
 have nD:(LI r.m).Nodup:=List.Pairwise.map _ (fun a b h=>by simpa using h) List.nodup_range
 have mw:([0,1]:Name)∉LI r.m:=fun h=>by
  obtain⟨i,_,hi⟩:=List.mem_map.1 h
  simp at hi
 have h0:obj [0,1]=some (r.rc (LI r.m) .ready none):=by
  rw[ho _ rfl];rfl
 have hF:cS obj (LI r.m) (r.fam (LI r.m) s):=by
  rw[jw]
  refine List.ext_getElem (by rw[List.length_map,List.length_map,dm,hr.len _ _ (dm _)]) fun i h3 h4=>?_
  simp only[List.getElem_map,LI,List.getElem_range]
  rw[ho _ rfl]
  simp only[Lp.I,aS,List.getElem?_cons_succ]
  have h5:i<(r.fam (LI r.m) s).length:=by simpa using h4
  rw[List.getElem?_eq_getElem h5]
  rfl
 have mu:=Lp.y_app hr hs (fun j _=>bF j) (t:=tm) (dm _) nD mw h0 hF
 rw[mu,bF s]
 simp only[Option.isNone_none,if_true]
 congr 1
 funext nm
 have hlen:=hr.len (LI r.m) (s+1) (dm _)
 by_cases hR:nm=[0,1]
 ·subst hR
  rw[aC]
  rfl
 ·rw[aH _ _ _ hR]
  unfold iA
  cases hx:cE nm with
  |false=>
   rw[vA hx,pt]
   intro e8
   obtain⟨i,_,rfl⟩:=List.mem_map.1 e8
   cases hx
  |true=>
   obtain⟨i,rfl⟩:=tN.1 hx
   have dP:=Bv (obj:=obj) (F:=r.fam (LI r.m) (s+1)) nD (by rw[dm,hlen])
   match i,hR with
   | 0,hR=>exact(hR rfl).elim
   |i+1,_=>
    simp only[Lp.I,aS,List.getElem?_cons_succ]
    by_cases hi:i<r.m
    ·have h6:=yt dP i (by rw[dm];exact hi) (by rw[hlen];exact hi)
     simp only[LI,List.getElem_map,List.getElem_range]at h6
     rw[show (r.fam (LI r.m) (s+1))[i]?=some (r.fam (LI r.m) (s+1))[i]from List.getElem?_eq_getElem (by rw[hlen];exact hi)]
     exact h6
    ·rw[List.getElem?_eq_none (by rw[hlen];omega),pt]
     intro e8
     obtain⟨j,oF,D4⟩:=List.mem_map.1 e8
     have :=List.mem_range.1 oF
     simp at D4
     omega
theorem Lp.go_e{r:Lp}(bF:∀ j,r.st j=none):r.e=r.n/\r.pd=none:=by
 have :(List.range r.n).find? (fun s=>(r.st s).isSome)=none:=List.find?_eq_none.2 fun s _=>by rw[bF s];decide
 unfold Lp.e Lp.pd
 rw[this]
 exact⟨rfl,rfl⟩
theorem Lp.go_end{P:Program}{r:Lp}(hr:r.Ok)(bF:∀ j,r.st j=none){σ:S}(dN:∀ i,σ.obj [i,1]=aS (r.I r.n) [i,1]):
 (bS P σ []).ok/\(bS P σ []).d=.tup []/\gG (r.rc (LI r.m) .ready none::r.fam (LI r.m) 0) ⟨(0,r.fin (LI r.m))::eD 1 (r.fam (LI r.m) r.e),[],.tup []⟩ σ:=by
 obtain⟨e1,e2⟩:=Lp.go_e bF
 refine Lp.it_end hr ?_ ?_
 ·rw[dN]
  unfold Lp.fin
  rw[e2]
  rfl
 ·rw[jw,e1]
  refine List.ext_getElem (by rw[List.length_map,List.length_map,dm,hr.len _ _ (dm _)]) fun i h3 h4=>?_
  simp only[List.getElem_map,LI,List.getElem_range]
  rw[dN]
  simp only[Lp.I,aS,List.getElem?_cons_succ]
  have h5:i<(r.fam (LI r.m) r.n).length:=by simpa using h4
  rw[List.getElem?_eq_getElem h5]
  rfl
theorem Lp.itC_sound{P:Program}{r:Lp}(hr:r.Ok)(bF:∀ j,r.st j=none){caps:List Name->List D}{f:FuncId}{fn:Func}{nt:Nat}(hf:P.funcs[f]?=some fn)(eA:fn.ntmps=nt)(eP:fn.results.toList=[])(hn:(fn.name== "runtime.NumGoroutine")=false)(hy:f<1000000000)
 (hw:∃ c,fn.body=some c/\(caps (LI r.m)).length+1<=nt/\CL P [c] (aO nt [0] (aS (r.I 0)) (fc 0 (.yld [0,1]::caps (LI r.m))) []) (fun e σ=>(e=.normal\/e=.ret)/\∀ i,σ.obj [i,1]=aS (r.I r.n) [i,1])):ak P f (r.itC caps).toSpec:=by
 obtain⟨c,hc,hl,hw⟩:=hw
 refine mF hf hc eA eP (iv hf hc hn) (Nat.ne_of_lt (show f<yid from hy)) ?_
 rintro os ds ⟨rfl,rfl⟩
 refine⟨by simpa using hl,CW.mono (iR hw) ?_⟩
 rintro e σ ⟨he,dN⟩
 rcases he with rfl | rfl
 ·exact Lp.go_end hr bF dN
 ·exact Lp.go_end hr bF dN
theorem Lp.it_sound{P:Program}{r:Lp}(hr:r.Ok)(bF:∀ j,r.st j=none){caps:List V}{f:FuncId}{fn:Func}{nt:Nat}(hf:P.funcs[f]?=some fn)(eA:fn.ntmps=nt)(eP:fn.results.toList=[])(hn:(fn.name== "runtime.NumGoroutine")=false)(hy:f<1000000000)
 (hw:∃ c,fn.body=some c/\caps.length+1<=nt/\CL P [c] (aO nt [0] (aS (r.I 0)) (fc 0 (.yld [0,1]::caps.map .v)) []) (fun e σ=>(e=.normal\/e=.ret)/\∀ i,σ.obj [i,1]=aS (r.I r.n) [i,1])):ak P f (r.it caps).toSpec:=by
 obtain⟨c,hc,hl,hw⟩:=hw
 refine mF hf hc eA eP (iv hf hc hn) (Nat.ne_of_lt (show f<yid from hy)) ?_
 rintro os ds ⟨rfl,rfl⟩
 refine⟨by simpa using hl,CW.mono (iR hw) ?_⟩
 rintro e σ ⟨he,dN⟩
 rcases he with rfl | rfl
 ·exact Lp.go_end hr bF dN
 ·exact Lp.go_end hr bF dN
structure Ro (α:Type) where
 m:Nat
 fam:α->List Name->List O
 args:α->List Name->List D
 ok:α->Prop
 val:α->D
structure Ro.Ok {α:Type} (r:Ro α):Prop where
 len:∀ a Ls,Ls.length=r.m->(r.fam a Ls).length=r.m
 renF:∀ a f Ls,Ls.length=r.m->(r.fam a Ls).map (O.ren f)=r.fam a (Ls.map f)
 renA:∀ a f Ls,Ls.length=r.m->D.renL f (r.args a Ls)=r.args a (Ls.map f)
 reach:∀ a Ls obj,Ls.length=r.m->Ls.Nodup->cS obj Ls (r.fam a Ls)->reach obj (r.args a Ls)=Ls
 closF:∀ a dom Ls,Ls.length=r.m->(∀ x∈Ls,dom x=true)->∀ o∈r.fam a Ls,O.clos dom o=true
 closA:∀ a dom Ls,Ls.length=r.m->(∀ x∈Ls,dom x=true)->D.closL dom (r.args a Ls)=true
 det:∀ a b,r.ok a->r.ok b->r.fam a (LR r.m)=r.fam b (LR r.m)->r.args a (LR r.m)=r.args b (LR r.m)->r.val a=r.val b
 vcl:∀ a dom,D.clos dom (r.val a)=true
 vren:∀ a f,(r.val a).ren f=r.val a
variable {α:Type}
noncomputable def Ro.c(r:Ro α):CSpec where
 pre:=fun os ds=>∃ a,r.ok a/\os=r.fam a (LR r.m)/\ds=r.args a (LR r.m)
 out:=fun os ds=>⟨[],[],by classical exact if h:∃ a,r.ok a/\os=r.fam a (LR r.m)/\ds=r.args a (LR r.m)then r.val h.choose else .any⟩
theorem Ro.c_out{r:Ro α}(hr:r.Ok){a:α}(ha:r.ok a):r.c.out (r.fam a (LR r.m)) (r.args a (LR r.m))=⟨[],[],r.val a⟩:=by
 have h:∃ b,r.ok b/\r.fam a (LR r.m)=r.fam b (LR r.m)/\r.args a (LR r.m)=r.args b (LR r.m):=⟨a,ha,rfl,rfl⟩
 have e:r.val h.choose=r.val a:=(hr.det _ _ ha h.choose_spec.1 h.choose_spec.2.1 h.choose_spec.2.2).symm
 simp only[Ro.c]
 rw[dif_pos h,e]
theorem Ro.c_app{r:Ro α}(hr:r.Ok){a:α}(ha:r.ok a){obj:Name->Option O}{t:Name}{Ls:List Name}(hl:Ls.length=r.m)(hn:Ls.Nodup)(hF:cS obj Ls (r.fam a Ls)):
 r.c.toSpec.app obj t (r.args a Ls)=⟨True,r.val a,obj⟩:=by
 have jA:=hr.reach a Ls obj hl hn hF
 have zR:Ls.map (cin Ls)=LR r.m:=by rw[FX hn,hl]
 have e1:cg obj (r.args a Ls)=r.fam a (LR r.m):=by
  unfold cg
  rw[jA]
  have wM:=hF
  rw[jw]at wM
  have :Ls.map (bZ Ls obj)=(r.fam a Ls).map (O.ren (cin Ls)):=by
   refine List.ext_getElem (by simp[hr.len _ _ hl,hl]) fun i h1 h2=>?_
   have h3:i<Ls.length:=by simpa using h1
   have h4:i<(r.fam a Ls).length:=by rw[hr.len _ _ hl,<-hl];exact h3
   have h5:=congrArg (fun l=>l[i]?) wM
   have h6:obj Ls[i]=some (r.fam a Ls)[i]:=by simpa[h3,h4]using h5
   simp only[List.getElem_map,bZ,h6]
  rw[this,hr.renF _ _ _ hl,zR]
 have e2:cH obj (r.args a Ls)=r.args a (LR r.m):=by
  unfold cH
  rw[jA,hr.renA _ _ _ hl,zR]
 have dd:∀ x∈Ls,b8 Ls x=true:=fun x hx=>gQ.2 hx
 have fO:shut obj Ls=true:=by
  unfold shut
  rw[List.all_eq_true]
  intro x hx
  obtain⟨i,hi,rfl⟩:=List.getElem_of_mem hx
  have wM:=hF
  rw[jw]at wM
  have h4:i<(r.fam a Ls).length:=by rw[hr.len _ _ hl,<-hl];exact hi
  have h5:=congrArg (fun l=>l[i]?) wM
  have h6:obj Ls[i]=some (r.fam a Ls)[i]:=by simpa[hi,h4]using h5
  rw[h6]
  exact hr.closF _ _ _ hl dd _ (List.getElem_mem h4)
 have cG:r.c.pre (r.fam a (LR r.m)) (r.args a (LR r.m)):=⟨a,ha,rfl,rfl⟩
 simp only[CSpec.toSpec,e1,e2,jA,Ro.c_out hr ha,fO,hr.closA _ _ _ hl dd,fresh,List.all_nil,Bool.and_self,cG,and_self,cY,b7,hr.vren]
def HM(P:Program)(rs:List ResultVar)(v:D)(H:Name->Option O)(e:Exit)(σ:S):Prop:=
 (e=.normal\/e=.ret)/\(bS P σ rs).ok/\(bS P σ rs).d=v/\∀ i,σ.obj [i,1]=H [i,1]
theorem IP{σ:S}:∀ {os:List O} {k:Nat},(∀ i (h:i<os.length),σ.obj [k+i,1]=some os[i])->qZ σ [] k os
 |[],_,_=>trivial
 |o::r,k,h=>by
  refine⟨by have:=h 0 (by simp);simp only[Nat.add_zero,List.getElem_cons_zero]at this;exact this,IP fun i hi=>?_⟩
  have :=h (i+1) (by simpa using hi)
  rw[show k+1+i=k+(i+1)by omega]
  simpa using this
theorem Ro.sound{P:Program}{r:Ro α}(hr:r.Ok){f:FuncId}{fn:Func}{nt:Nat}{rs:List ResultVar}(hf:P.funcs[f]?=some fn)(eA:fn.ntmps=nt)(eP:fn.results.toList=rs)(hn:(fn.name== "runtime.NumGoroutine")=false)(hy:f<1000000000)
 (hw:∃ c,fn.body=some c/\∀ a,r.ok a->(r.args a (LR r.m)).length<=nt/\CL P [c] (aO nt [0] (aS (r.fam a (LR r.m))) (fc 0 (r.args a (LR r.m))) []) (HM P rs (r.val a) (aS (r.fam a (LR r.m))))):ak P f r.c.toSpec:=by
 obtain⟨c,hc,hw⟩:=hw
 refine mF hf hc eA eP (iv hf hc hn) (Nat.ne_of_lt (show f<yid from hy)) ?_
 rintro os ds ⟨a,ha,rfl,rfl⟩
 obtain⟨hl,h⟩:=hw a ha
 refine⟨hl,?_⟩
 rw[Ro.c_out hr ha]
 refine CW.mono (iR h) ?_
 rintro e σ ⟨he,h1,h2,h3⟩
 have fin:(bS P σ rs).ok/\(bS P σ rs).d=r.val a/\gG (r.fam a (LR r.m)) ⟨[],[],r.val a⟩ σ:=by
  refine⟨h1,h2,IP fun i hi=>?_,trivial,?_⟩
  ·rw[Nat.zero_add,h3]
   show (r.fam a (LR r.m))[i]?=_
   rw[List.getElem?_eq_getElem hi]
  ·simp[hr.vcl,distinct]
 rcases he with rfl | rfl
 ·exact fin
 ·exact fin
theorem Ro.outC{r:Ro α}(hr:r.Ok)(a:α):∀ hs,bW [0] (bP [0] hs) (aS (r.fam a (LR r.m)))=True:=fun hs=>eq_true (vB (fun o ho dom hd=>hr.closF a dom _ (va _) (fun x hx=>by
 obtain⟨i,_,rfl⟩:=List.mem_map.1 hx
 exact hd i) o ho) hs)
open Go Go.Proofs
def jN(s:Stk):Prop:=s.ho.length*8<=140737488355328/\∀ i,i<6->(s.un.get i).length*16<=140737488355328
theorem eH.sz{s:Stk}(h:eH s):jN s:=⟨by have:=h.hol;omega,fun i hi=>by have:=h.unl i hi;omega⟩
theorem Cs:∀ {a b:List V},a.map D.v=b.map D.v->a=b
 |[],[],_=>rfl
 |[],_::_,h=>by cases h
 |_::_,[],h=>by cases h
 |x::r,y::q,h=>by
  simp only[List.map_cons,List.cons.injEq,D.v.injEq]at h
  rw[h.1,Cs h.2]
theorem s9(f:Name->Name):∀ l:List V,D.renL f (l.map .v)=l.map .v
 |[]=>rfl
 |x::r=>by
  rw[List.map_cons,D.renL,s9 f r];rfl
theorem yA:∀ l:List V,cJ (l.map .v)=[]
 |[]=>rfl
 |x::r=>by
  rw[List.map_cons,cJ,yA r];rfl
theorem Cn{Ls:List Name}(h:Ls.length=1):∃ a,Ls=[a]:=by
 match Ls,h with
 |[a],_=>exact⟨a,rfl⟩
def jP:Ro (List V×Nat×Stk) where
 m:=1
 fam a _:=[.box (a.1.map .v)]
 args a Ls:=[.ref (Ls.headD [0,1]) a.2.1]
 ok a:=(a.1.drop a.2.1).take 19=aA a.2.2/\jN a.2.2
 val a:=.v (nI a.2.2)
theorem vl:jP.Ok where
 len:=fun _ _ _=>rfl
 renF:=fun a f Ls _=>by simp only[jP,List.map_cons,List.map_nil,O.ren,s9]
 renA:=fun a f Ls h=>by
  obtain⟨n,rfl⟩:=Cn h
  rfl
 reach:=fun a Ls obj h _ hF=>by
  obtain⟨n,rfl⟩:=Cn h
  obtain⟨h1,_⟩:=hF
  have en:cJ (jP.args a [n])=[n]:=rfl
  unfold Go.Eng.reach
  rw[en]
  show dA obj (2998+1+1) [n] []=[n]
  simp[dA,gQ,h1,l9,yA]
 closF:=fun a dom Ls _ _ o ho=>by
  simp only[jP,List.mem_singleton]at ho
  subst ho
  exact qn _ _
 closA:=fun a dom Ls h hd=>by
  obtain⟨n,rfl⟩:=Cn h
  simp[jP,D.closL,D.clos,hd n (by simp)]
 det:=fun a b h1 h2 h3 h4=>by
  have e1:a.1=b.1:=Cs (O.box.inj (List.cons.inj h3).1)
  have e2:a.2.1=b.2.1:=(D.ref.inj (List.cons.inj h4).1).2
  have e3:aA a.2.2=aA b.2.2:=by rw[<-h1.1,<-h2.1,e1,e2]
  have e4:a.2.2=b.2.2:=by rw[<-oY a.2.2,e3,oY]
  simp only[jP,e4]
 vcl:=fun _ _=>rfl
 vren:=fun _ _=>rfl
noncomputable def S59:Spec:=jP.c.toSpec
theorem Z0(l:List V)(i:Nat):(l.map D.v).getD i .any=if i<l.length then .v (l.getD i default)else .any:=by
 by_cases h:i<l.length
 ·rw[if_pos h,jF (by simpa using h),jF h];simp
 ·rw[if_neg h];simp[List.getD,List.getElem?_eq_none (Nat.le_of_not_lt h)]
theorem FJ{l:List V}{off:Nat}{s:Stk}(h:(l.drop off).take 19=aA s){i:Nat}(hi:i<19):(l.map D.v).getD (off+i) .any=.v ((aA s).getD i default):=by
 have hlen:19<=(l.drop off).length:=by
  have :=congrArg List.length h
  rw[List.length_take,jO]at this
  omega
 rw[List.length_drop]at hlen
 rw[Z0,if_pos (by omega),<-h,jF (show off+i<l.length by omega),jF (by rw[List.length_take,List.length_drop];omega)]
 simp
theorem NP{l:List V}{off:Nat}{s:Stk}(h:(l.drop off).take 19=aA s):((l.map D.v).drop off).take 19=(aA s).map D.v:=by
 rw[<-h,List.map_take,List.map_drop]
theorem FH{l:List V}{off:Nat}{s:Stk}(h:(l.drop off).take 19=aA s):off+19<=l.length:=by
 have :=congrArg List.length h
 rw[List.length_take,jO,List.length_drop]at this
 omega
@[go_sem] theorem ae8(s:Stk):D.v (.sl (s.ho.map vInt))::List.drop 1 ((aA s).map D.v)=(aA s).map D.v:=rfl
theorem sZ(s:Stk){i:Nat}(h:i<6):List.take (1+i) ((aA s).map D.v)++[D.v (.sl ((s.un.get i).map encPa))]++List.drop (1+i+1) ((aA s).map D.v)=(aA s).map D.v:=by
 match i,h with
 | 0,_=>rfl
 | 1,_=>rfl
 | 2,_=>rfl
 | 3,_=>rfl
 | 4,_=>rfl
 | 5,_=>rfl
theorem NN{l:List V}{off:Nat}{s:Stk}(h:(l.drop off).take 19=aA s){i:Nat}(hi:i<6):(l.map D.v).getD (off+1+i) .any=.v (rowP (s.un.get i)):=by
 rw[Nat.add_assoc,FJ h (show 1+i<19 by omega),dw s hi]
@[go_sem] theorem afa(s:Stk):List.take 19 ((aA s).map D.v)=(aA s).map D.v:=rfl
@[go_sem] theorem afb(s:Stk):((aA s).map D.v).length=19:=rfl
attribute [go_sem] HM
noncomputable def P1:List (Nat×Spec):=[(46,S76),(36,S77)]
theorem P0:∀ f s,tbl P1 f=some s->ak Tryd.prog f s:=tc KG<|tc CS<|tn
attribute [go_sem] P1
set_option maxHeartbeats 4000000 in
theorem vN:ak Tryd.prog 37 S59:=by
 refine Ro.sound vl (rs:=[.cell 2 39]) Tryd.func37 Tryd.ntmps37 (by rfl) (by kernel_rfl) (by decide) ⟨_,rfl,?_⟩
 rintro⟨l,off,s⟩ ⟨j8,bf⟩
 refine⟨lb rfl,?_⟩
 have hΓ:=P0
 have hO:=Ro.outC vl (l,off,s)
 have h0:aS (jP.fam (l,off,s) (LR jP.m)) [0,1]=some (.box (l.map .v)):=rfl
 generalize aS (jP.fam (l,off,s) (LR jP.m))=H at *
 have ha:jP.args (l,off,s) (LR jP.m)=[.ref [0,1] off]:=rfl
 have hv:jP.val (l,off,s)=.v (nI s):=rfl
 rw[ha,hv]
 simp only[fc,Nat.zero_add]at h0 |-
 replace j8:(l.drop off).take 19=aA s:=j8
 replace bf:jN s:=bf
 have hA:=NP j8
 have hB:=FJ j8 (show 0<19 by omega)
 have hL:=FH j8
 have kP:(l.map D.v).getD off .any=.v (gx s.ho):=hB
 repeat refine sq ?_
 refine rx hΓ [0,2] [[2,0]] (fun K' hK=>by simp only[go_sem,hO,h0];(repeat (refine⟨ob,?_⟩));exact hK _ (by simp only[go_sem,hO,h0]) (by simp only[go_sem,hO,h0]<;>rfl)) ?_
 repeat refine sq ?_
 refine rx hΓ [0,2,3] [[2,0],[3,0]] (fun K' hK=>by simp only[go_sem,hO,h0,hA,hB,hL,List.length_map,List.append_nil,jO];(repeat (refine⟨ob,?_⟩));exact hK _ (by simp only[go_sem,hO,h0,hA,hB,hL,List.length_map,List.append_nil,jO]) (by simp only[go_sem,hO,h0,hA,hB,hL,List.length_map,List.append_nil,jO]<;>rfl)) ?_
 repeat refine sq ?_
 refine rx hΓ [0,2,3] [[2,0],[3,0]] (fun K' hK=>by simp only[go_sem,hO,h0,Nat.add_zero,kP,bf.1];(repeat (refine⟨ob,?_⟩));exact hK _ (by simp only[go_sem,hO,h0,Nat.add_zero,kP,bf.1]) (by simp only[go_sem,hO,h0,Nat.add_zero,kP,bf.1]<;>rfl)) ?_
 repeat refine sq ?_
 refine rx hΓ [0,2,3,14] [[2,0],[3,0]] (fun K' hK=>by simp only[go_sem,hO,h0];(repeat (refine⟨ob,?_⟩));exact hK _ (by simp only[go_sem,hO,h0]) (by simp only[go_sem,hO,h0]<;>rfl)) ?_
 repeat refine sq ?_
 refine a8 ?_
 repeat refine sq ?_
 refine dR (fun z:Nat=>[(14,⟨true,.v (vInt z)⟩)]) (fun z=>[]) (fun z=>z<=6) (fun z=>6-z) 0 ?_ ?_ ?_ ?_
 ·exact Nat.zero_le _
 ·rfl
 ·rfl
 rintro i hi
 simp only[go_sem]
 repeat refine sq ?_
 refine rx hΓ [0,2,3,14,15] [[2,0],[3,0]] (fun K' hK=>by simp only[go_sem,hO,h0];(repeat (refine⟨ob,?_⟩));exact hK _ (by simp only[go_sem,hO,h0]) (by simp only[go_sem,hO,h0]<;>rfl)) ?_
 repeat refine sq ?_
 refine aD rfl rfl (fun hb=>?_) (fun hb=>?_)
 ·have ae:i<6:=by have hq:(i:Int)<6:=(by simpa using hb);omega
  have aq:(i:Int)<6:=by omega
  clear hb
  have hC:=NN j8 ae
  have jd:=bf.2 i ae
  repeat refine sq ?_
  refine aI ?_
  repeat refine sq ?_
  refine a8 ?_
  repeat refine sq ?_
  refine rx hΓ [0,2,3,4,14] [[2,0],[3,0]] (fun K' hK=>by simp only[go_sem,hO,h0,Int.toNat_natCast,Int.natCast_nonneg,aq];(repeat (refine⟨ob,?_⟩));exact hK _ (by simp only[go_sem,hO,h0,Int.toNat_natCast,Int.natCast_nonneg,aq]) (by simp only[go_sem,hO,h0,Int.toNat_natCast,Int.natCast_nonneg,aq]<;>rfl)) ?_
  repeat refine sq ?_
  refine bc hΓ fun K' hK=>?_
  simp only[go_sem,hO,h0,Int.toNat_natCast,Int.natCast_nonneg,aq,hC,jd,sZ s ae,Int.toNat_natCast,Int.natCast_nonneg,aq]
  repeat (refine⟨ob,?_⟩)
  refine hK _ ?_
  clear K' hK
  simp only[go_sem]
  refine kj [0,2,3,14] [[2,0],[3,0]] ?_ ?_
  ·simp only[go_sem,hO,h0]
  simp only[go_sem,hO,h0]
  repeat refine sq ?_
  refine bc hΓ fun K' hK=>?_
  simp only[go_sem,hO,h0,Int.toNat_natCast,Int.natCast_nonneg,aq]
  repeat (refine⟨ob,?_⟩)
  refine hK _ ?_
  clear K' hK
  simp only[go_sem]
  refine⟨i+1,ae,by(show 6-(i+1)<6-i;omega),?_⟩
  refine bJ [0,2,3,14] [[2,0],[3,0]] ?_ ?_
  ·simp only[go_sem,aM ae (lb rfl:(6:Nat)<=maxLen),Int.natCast_add,Int.natCast_one,sZ s ae,hO,h0]
  ·simp only[go_sem,aM ae (lb rfl:(6:Nat)<=maxLen),Int.natCast_add,Int.natCast_one,sZ s ae,hO,h0]
 ·have bo:i=6:=by
   have :¬ (i:Int)<6:=by simpa using hb
   omega
  clear hb
  subst bo
  repeat refine sq ?_
  refine di ?_
  simp only[go_sem]
  refine kj [2,3] [[2,0],[3,0]] ?_ ?_
  ·simp only[go_sem,hO,h0]
  simp only[go_sem,hO,h0]
  repeat refine sq ?_
  refine rx hΓ [2] [[2,0]] (fun K' hK=>by simp only[go_sem,hO,h0,List.append_nil];(repeat (refine⟨ob,?_⟩));exact hK _ (by simp only[go_sem,hO,h0,List.append_nil]) (by simp only[go_sem,hO,h0,List.append_nil]<;>rfl)) ?_
  refine bq (dS [2,0] (aA s) rfl [2] [[2,0]] ?_ rfl) ?_
  ·simp only[go_sem,hO,h0]
  simp only[go_sem,hO,h0]
  refine ax ?_
  simp only[go_sem,hO,h0]
  exact .inr trivial
theorem QC{σ:S}(b nm:Name)(i k sz:Nat)(cs:List D)(L:List V)(hb:σ.obj b=some (.box cs))(hi:cs[i]?=some (.msl nm k))(hn:σ.obj nm=some (.arr sz L))(hk:k=L.length):
 cI σ ⟨σ.nt,σ.env,upd (upd σ.obj nm (some (.farr sz L))) b (some (.box (cs.set i (.v (.sl L))))),σ.pre,σ.base⟩:=by
 intro G φ m a w hC
 have aj:b≠nm:=fun e=>by subst e;rw[hb]at hn;cases hn
 obtain⟨h1,h2,h3,us,T,f,h4,h5,h6,h7⟩:=hC.objs b _ hb
 obtain⟨fm,D6⟩:=List.getElem?_eq_some_iff.1 hi
 have h0:i<us.size:=by omega
 have h8:=h7 i fm h0
 rw[D6]at h8
 have cA:ar 6 σ.obj (.msl nm k)=⟨k=L.length,.sl L,upd σ.obj nm (some (.farr sz L))⟩:=by simp only[ar,hn]
 obtain⟨m2,k1,k2,k3,k4,_⟩:=mz 6 _ _ _ _ _ _ hC _ _ h8 (by rw[cA];exact hk)
 rw[cA]at k2 k3 k4
 simp only at k2 k3 k4
 have cB:(upd σ.obj nm (some (.farr sz L))) b=some (.box cs):=by rw[aH _ _ _ aj];exact hb
 have iE:=Ext.same (φ:=φ) (o':=.box (cs.set i (.v (.sl L)))) cB rfl rfl
 have rB:=iE
 rw[eE]at rB
 refine⟨_,m2,k2.chg (w':=w) b (.box (cs.set i (.v (.sl L)))) _ iE ⟨rfl,rfl,rfl,Nat.le_refl _⟩ (fun _ _ _=>rfl) (fun _=>.inr ⟨⟨_,cB,rfl,h2⟩,rfl⟩) ?_⟩
 rw[eE]
 refine⟨h1,h2,fun d hd=>?_,us,T,f,h4,h5,by simpa using h6,fun j hj eT=>?_⟩
 ·rcases List.mem_or_eq_of_mem_set hd with h | h
  ·exact h3 d h
  ·subst h;rfl
 ·simp only[List.length_set]at hj
  rw[List.getElem_set]
  by_cases gl:i=j
  ·subst gl
   rw[if_pos rfl]
   exact .v _ _ k4
  ·rw[if_neg gl]
   exact((h7 j hj eT).ext k1 k3).ext (Mem.le_refl m2) rB
theorem A6{σ τ:S}(b nm:Name)(i k sz:Nat)(cs:List D)(L:List V)(hb:σ.obj b=some (.box cs))(hi:cs[i]?=some (.msl nm k))(hn:σ.obj nm=some (.arr sz L))(hk:k=L.length)(ks:List Nat)(ns:List Name)
 (h:fv ks ns ⟨σ.nt,σ.env,upd (upd σ.obj nm (some (.farr sz L))) b (some (.box (cs.set i (.v (.sl L))))),σ.pre,σ.base⟩)
 (fQ:fD ks ns ⟨σ.nt,σ.env,upd (upd σ.obj nm (some (.farr sz L))) b (some (.box (cs.set i (.v (.sl L))))),σ.pre,σ.base⟩=τ):cI σ τ:=
 (QC b nm i k sz cs L hb hi hn hk).trans (mV ks ns h fQ)
theorem Cb(l:List Int):∀ y∈l.map vInt,y.cells.length=1/\y.okc=true:=by
 intro y hy;obtain⟨x,_,rfl⟩:=List.mem_map.1 hy;exact⟨rfl,rfl⟩
theorem II(l:List Par):∀ y∈l.map encPa,y.cells.length=2/\y.okc=true:=by
 intro y hy;obtain⟨x,_,rfl⟩:=List.mem_map.1 hy;exact⟨rfl,rfl⟩
theorem ai{p:Prop}(h:p:=by first | exact Cb _ | exact II _ | ((repeat' apply And.intro)<;>first | rfl | omega | (unfold maxLen;omega) | trivial | decide | exact Cb _ | exact II _) | exact ob):p:=h
def ql(s:Stk):List D:=[.v (vInt s.se.a),.v (vInt s.se.b),.v (vInt s.se.c),.v (vInt s.se.d),.v (vInt s.se.e),.v (vInt s.se.f),.v (vInt s.ta.a),.v (vInt s.ta.b),.v (vInt s.ta.c),.v (vInt s.ta.d),.v (vInt s.ta.e),.v (vInt s.ta.f)]
def ki(s:Stk)(z:Nat):List D:=.v (gx s.ho)::(if 0<z then .v (rowP s.un.a)else .nilsl)::(if 1<z then .v (rowP s.un.b)else .nilsl)::(if 2<z then .v (rowP s.un.c)else .nilsl)::
 (if 3<z then .v (rowP s.un.d)else .nilsl)::(if 4<z then .v (rowP s.un.e)else .nilsl)::(if 5<z then .v (rowP s.un.f)else .nilsl)::ql s
theorem Uz{α:Type}{C:List α}{x:α}{n:Nat}(h:n<C.length):(List.take n C++[x]++List.drop (n+1) C)[n]?=some x:=by
 rw[List.append_assoc,List.getElem?_append_right (by rw[List.length_take];omega),List.length_take,Nat.min_eq_left (by omega),Nat.sub_self]
 rfl
theorem I3{α:Type}{C:List α}{x y:α}{n:Nat}(h:n<C.length):(List.take n C++[x]++List.drop (n+1) C).set n y=List.take n C++[y]++List.drop (n+1) C:=by
 rw[List.append_assoc,List.set_append_right _ _ (by rw[List.length_take];omega),List.length_take,Nat.min_eq_left (by omega),Nat.sub_self,List.append_assoc]
 rfl
theorem ag7(s:Stk){i:Nat}(h:i<6):List.take (1+i) (ki s i)++[D.v (.sl ((s.un.get i).map encPa))]++List.drop (1+i+1) (ki s i)=ki s (i+1):=by
 match i,h with
 | 0,_=>rfl
 | 1,_=>rfl
 | 2,_=>rfl
 | 3,_=>rfl
 | 4,_=>rfl
 | 5,_=>rfl
theorem aaV(s:Stk):ki s 6=(aA s).map .v:=rfl
@[go_sem] theorem ag8(s:Stk)(z:Nat):(ki s z).length=19:=rfl
theorem aa1(dom:Name->Bool)(p:Prop)[Decidable p](l:List V):D.clos dom (if p then .v (.sl l)else .nilsl)=true:=by
 split<;>rfl
@[go_sem] theorem aaW(dom:Name->Bool)(s:Stk)(z:Nat):D.closL dom (ki s z)=true:=by
  simp only[ki,ql,D.closL,D.clos,aa1,Bool.and_self,rowP]
theorem A7{σ:S}(b:Name)(cs:List D)(l:List V)(hb:σ.obj b=some (.box cs))(hl:lF cs=some l):cI σ ⟨σ.nt,σ.env,upd σ.obj b (some (.box (l.map .v))),σ.pre,σ.base⟩:=by
 intro G φ m a w hC
 obtain⟨h1,h2,h3,us,T,f,h4,h5,h6,h7⟩:=hC.objs b _ hb
 obtain⟨hlen,jE⟩:=Gg hl
 have iE:=Ext.same (φ:=φ) (o':=.box (l.map .v)) hb rfl rfl
 have rB:=iE
 rw[eE]at rB
 refine⟨_,m,hC.chg (w':=w) b (.box (l.map .v)) _ iE ⟨rfl,rfl,rfl,Nat.le_refl _⟩ (fun _ _ _=>rfl) (fun _=>.inr ⟨⟨_,hb,rfl,h2⟩,rfl⟩) ?_⟩
 rw[eE]
 refine⟨h1,h2,fun d hd=>?_,us,T,f,h4,h5,by rw[List.length_map,hlen];exact h6,fun j hj eT=>?_⟩
 ·obtain⟨x,hx,rfl⟩:=List.mem_map.1 hd
  obtain⟨i,hi,rfl⟩:=List.getElem_of_mem hx
  exact OZ (jE i (by omega) hi) (h3 _ (List.getElem_mem _))
 ·have oF:j<l.length:=by simpa using hj
  have zA:j<cs.length:=by omega
  simp only[List.getElem_map]
  exact .v _ _ (OY (h7 j zA eT) (jE j zA oF))
theorem mW{σ τ:S}(b:Name)(cs:List D)(l:List V)(hb:σ.obj b=some (.box cs))(hl:lF cs=some l)(ks:List Nat)(ns:List Name)
 (h:fv ks ns ⟨σ.nt,σ.env,upd σ.obj b (some (.box (l.map .v))),σ.pre,σ.base⟩) (hk:fD ks ns ⟨σ.nt,σ.env,upd σ.obj b (some (.box (l.map .v))),σ.pre,σ.base⟩=τ):cI σ τ:=
 (A7 b cs l hb hl).trans (mV ks ns h hk)
def bE(l:List Int):Stk:=⟨l,fM fun _=>[],fM fun _=>0,fM fun _=>0⟩
def zS:Stk:=bE []
def zP:Pg:=⟨0,zS,0⟩
def zD:Dk:=⟨0,zS,zP,zP,0⟩
def eN(me:Int)(l:List Int):Dk:=⟨me,bE l,⟨1,bE l,c9 (bE l) 1⟩,⟨0,zS,c9 zS 0⟩,-1⟩
def ll(me:Int)(l:List Int):Bool:=aT me 0 5&&fZ l
def pE(me:Int)(l:List Int):Int:=if aT me 0 5=true then(if fZ l=true then 0 else 1)else 94
def pF(me:Int)(l:List Int):Dk:=if ll me l=true then eN me l else zD
theorem NY(dom:Name->Bool)(l:List V)(n:Nat):D.closL dom (List.take n (l.map .v))=true:=by
 rw[<-List.map_take];exact qn _ _
theorem N1(dom:Name->Bool)(l:List V)(n:Nat):D.closL dom (List.drop n (l.map .v))=true:=by
 rw[<-List.map_drop];exact qn _ _
attribute [go_sem] N2 NY N1
@[go_sem] theorem Z6(f:(Name->Option O)->D->FR)(obj:Name->Option O)(h:∀ obj x,f obj (.v x)=⟨True,x,obj⟩):∀ l:List V,aJ f obj (l.map .v)=⟨True,l,obj⟩
  |[]=>rfl
  |x::r=>by simp only[List.map_cons,aJ,h,Z6 f obj h r,and_self]
@[go_sem] theorem acI:V.agg [V.sl [],V.sl [],V.sl [],V.sl [],V.sl [],V.sl [],V.sl [],V.int .i64 0,V.int .i64 0,V.int .i64 0,V.int .i64 0,V.int .i64 0,V.int .i64 0,V.int .i64 0,V.int .i64 0,V.int .i64 0,V.int .i64 0,V.int .i64 0,V.int .i64 0]=V.agg (aA zS):=rfl
@[go_sem] theorem agB(d:Dk):((((an d).map D.v).drop 1).take 19)=(aA d.now).map D.v:=rfl
@[go_sem] theorem agC(d:Dk):((an d).map D.v).length=63:=rfl
@[go_sem] theorem agE(d:Dk):((an d).map D.v).drop 63=[]:=rfl
@[go_sem] theorem agF(d:Dk):((an d).map D.v).take 63=(an d).map D.v:=rfl
@[go_sem] theorem bt1(s:Stk)(x:D):(List.map D.v (aA s)++[x]).length=20:=rfl
@[go_sem] theorem bt2(s:Stk)(x:D):List.take 19 (List.map D.v (aA s)++[x])=List.map D.v (aA s):=rfl
@[go_sem] theorem bt3(s:Stk)(x:D):List.drop 20 (List.map D.v (aA s)++[x])=[]:=rfl
@[go_sem] theorem bt4(c u:Int)(s:Stk):D.v (.int .i64 c)::(List.map D.v (aA s)++[D.v (vInt u)])=(cC ⟨c,s,u⟩).map D.v:=rfl
@[go_sem] theorem bt5(p:Pg):(List.map D.v (cC p)).length=21:=rfl
@[go_sem] theorem bt6(p:Pg):List.take 21 (List.map D.v (cC p))=List.map D.v (cC p):=rfl
@[go_sem] theorem afx(p:Pg)(u:Int):List.take 20 (List.map D.v (cC p))++[D.v (vInt u)]++List.drop 21 (List.map D.v (cC p))=List.map D.v (cC ⟨p.co,p.st,u⟩):=rfl
@[go_sem] theorem agw(d:Dk)(p:Pg):List.take 20 (List.map D.v (an d))++List.map D.v (cC p)++List.drop 41 (List.map D.v (an d))=List.map D.v (an ⟨d.me,d.now,p,d.pb,d.wet⟩):=rfl
@[go_sem] theorem agv(d:Dk)(p:Pg):List.take 41 (List.map D.v (an d))++List.map D.v (cC p)++List.drop 62 (List.map D.v (an d))=List.map D.v (an ⟨d.me,d.now,d.pa,p,d.wet⟩):=rfl
theorem Ip{l:List Int}(h:fZ l=true):eH (bE l):=by
 have hl:=tp h
 have h6:∀ i:Nat,(fM fun _=>(0:Int)).get i=0:=fun i=>by
  match i with
  | 0=>rfl
  | 1=>rfl
  | 2=>rfl
  | 3=>rfl
  | 4=>rfl
  |_+5=>rfl
 have h7:∀ i:Nat,(fM fun _=>([]:List Par)).get i=[]:=fun i=>by
  match i with
  | 0=>rfl
  | 1=>rfl
  | 2=>rfl
  | 3=>rfl
  | 4=>rfl
  |_+5=>rfl
 refine⟨hl.1,hl.2,fun i _=>?_,fun i _ p hp=>?_,fun i _=>?_,fun i _=>?_⟩
 ·show ((fM fun _=>([]:List Par)).get i).length<=40
  rw[h7];exact Nat.zero_le _
 ·have:p∈(fM fun _=>([]:List Par)).get i:=hp
  rw[h7]at this;cases this
 ·show bU ((fM fun _=>(0:Int)).get i)
  rw[h6];exact⟨by omega,by omega⟩
 ·show bU ((fM fun _=>(0:Int)).get i)
  rw[h6];exact⟨by omega,by omega⟩
theorem IH:eH zS:=Ip rfl
def yz(me:Int)(l:List Int):Dk:=⟨me,bE l,zP,zP,-1⟩
def nd1(me:Int)(l:List Int):Dk:=⟨me,bE l,⟨1,bE l,c9 (bE l) 1⟩,zP,-1⟩
theorem pv{L:List V}{off:Nat}{s:Stk}{obj:Name->Option O}{t nm:Name}(ho:obj nm=some (.box (L.map .v)))(hc:(L.drop off).take 19=aA s)(hs:jN s):
 S59.app obj t [.ref nm off]=⟨True,.v (nI s),obj⟩:=
 Ro.c_app vl (a:=(L,off,s)) ⟨hc,hs⟩ (Ls:=[nm]) rfl (by simp) ⟨ho,trivial⟩
noncomputable def PZ:List (Nat×Spec):=[(34,S82),(35,S83),(36,S77),(37,S59),(38,S60)]
theorem acD:∀ f s,tbl PZ f=some s->ak Tryd.prog f s:=tc yR<|tc KF<|tc CS<|tc vN<|tc yS<|tn
attribute [go_sem] PZ
noncomputable def P37:PSpec:=p2 iI dJ (fun _ _=>True) (fun me l=>.tup [kS (pF me l),vInt (pE me l)]) false
noncomputable def S37:Spec:=P37.toSpec
attribute [go_sem] P37 S37
set_option maxHeartbeats 4000000 in
theorem SN:aZ Tryd.prog 11 P37:=by
 refine w2 (rs:=[.cell 4 44,.tmp 5]) Tryd.func11 Tryd.ntmps11 (by rfl) (by kernel_rfl) (by decide) (fun h=>by cases h) ⟨_,rfl,lb rfl,fun me l hp hw=>?_⟩
 have hP:=br
 simp only[iI,dJ]at hw |-
 have hΓ:=acD
 repeat refine sq ?_
 refine rx hΓ [0,1,4] [[4,0]] (fun K' hK=>by simp only[go_sem];(repeat (refine⟨ai,?_⟩));exact hK _ (by simp only[go_sem]) (by simp only[go_sem]<;>rfl)) ?_
 refine bq (mW [4,0] _ (an zD) rfl rfl [0,1,4] [[4,0]] ?_ rfl) ?_
 ·simp only[go_sem]
 simp only[go_sem]
 repeat refine sq ?_
 refine a8 ?_
 repeat refine sq ?_
 refine rx hΓ [0,1,4,7] [[4,0]] (fun K' hK=>by simp only[go_sem];(repeat (refine⟨ai,?_⟩));exact hK _ (by simp only[go_sem]) (by simp only[go_sem]<;>rfl)) ?_
 repeat refine sq ?_
 refine aD rfl rfl (fun hb=>?_) (fun hb=>?_)
 ·repeat refine sq ?_
  have fR:aT me 0 5=false:=by simpa using hb
  have e1:pE me l=94:=if_neg (by rw[fR];decide)
  have e2:pF me l=zD:=if_neg (by unfold ll;rw[fR];exact Bool.false_ne_true)
  repeat refine sq ?_
  refine rx hΓ [4,5] [[4,0]] (fun K' hK=>by simp only[go_sem];(repeat (refine⟨ai,?_⟩));exact hK _ (by simp only[go_sem]) (by simp only[go_sem]<;>rfl)) ?_
  refine ax ?_
  simp only[go_sem]
  first | (rw[e1,e2];done) | (rw[e1,e2];rfl)
 ·repeat refine sq ?_
  have fR:aT me 0 5=true:=by simpa using hb
  repeat refine sq ?_
  refine rx hΓ [0,1,4,12] [[4,0]] (fun K' hK=>by simp only[go_sem];(repeat (refine⟨ai,?_⟩));exact hK _ (by simp only[go_sem]) (by simp only[go_sem]<;>rfl)) ?_
  repeat refine sq ?_
  refine aD rfl rfl (fun hb=>?_) (fun hb=>?_)
  ·repeat refine sq ?_
   have fI:fZ l=false:=by simpa using hb
   have e1:pE me l=1:=by unfold pE;rw[if_pos fR,if_neg (by rw[fI];decide)]
   have e2:pF me l=zD:=if_neg (by unfold ll;rw[fI,Bool.and_false];exact Bool.false_ne_true)
   repeat refine sq ?_
   refine rx hΓ [4,5] [[4,0]] (fun K' hK=>by simp only[go_sem];(repeat (refine⟨ai,?_⟩));exact hK _ (by simp only[go_sem]) (by simp only[go_sem]<;>rfl)) ?_
   refine ax ?_
   simp only[go_sem]
   first | (rw[e1,e2];done) | (rw[e1,e2];rfl)
  ·repeat refine sq ?_
   have fI:fZ l=true:=by simpa using hb
   have e1:pE me l=0:=by unfold pE;rw[if_pos fR,if_pos fI]
   have e2:pF me l=eN me l:=if_pos (by unfold ll;rw[fR,fI];rfl)
   have rG:=Ip fI
   have aga:=(tp fI).1
   have p9:∀ (F:Name->Option O) (t:Name),F [6,0]=some (.box ((an (yz me l)).map .v))->S59.app (fun nm=>if own [0] nm=true then F nm else none) t [.ref [6,0] 1]=⟨True,.v (.agg (aA (bE l))),fun nm=>if own [0] nm=true then F nm else none⟩:=fun F t h=>pv (s:=bE l) (L:=an (yz me l)) (off:=1) h (uN (yz me l)) rG.sz
   have oN:eH zS/\bU 0:=⟨IH,by decide,by decide⟩
   have mr:eH (bE l)/\bU 1:=⟨rG,by decide,by decide⟩
   refine aI ?_
   refine eo ?_
   simp only[go_sem]
   refine kp [0,1,4] [[4,0]] ?_
   repeat refine sq ?_
   refine rx hΓ [4,6] [[4,0],[6,0]] (fun K' hK=>by simp only[go_sem];(repeat (refine⟨ai,?_⟩));exact hK _ (by simp only[go_sem]) (by simp only[go_sem]<;>rfl)) ?_
   refine bq (mW [6,0] _ (an (yz me l)) rfl rfl [4,6] [[4,0],[6,0]] ?_ rfl) ?_
   ·simp only[go_sem]
   simp only[go_sem]
   repeat refine sq ?_
   refine dx hΓ hP [[],[0],[],[2],[0,1,2,3],[0,1,2,3,4],[],[0,1,2,3,4,5,6],[0,1,2,3,4,5,6,7]] [4,6] [[4,0],[6,0]] (by kernel_rfl) (fun K' hK=>by simp only[go_sem,p9,List.append_nil,Nat.reduceAdd];(repeat (refine⟨by first | exact mr | exact ai,?_⟩));(first | refine⟨by rfl,?_⟩ | skip);exact hK _ (by simp only[go_sem]) (by simp only[go_sem]<;>rfl)) ?_
   repeat refine sq ?_
   refine rx hΓ [4,6] [[4,0],[6,0]] (fun K' hK=>by simp only[go_sem,Nat.reduceAdd,Int.cast_ofNat_Int,Int.reduceToNat,Int.toNat_one,Nat.reduceMul];(repeat (refine⟨by first | exact oN | exact ai,?_⟩));exact hK _ (by simp only[go_sem]) (by simp only[go_sem]<;>rfl)) ?_
   refine bq (mW [6,0] _ (an (eN me l)) rfl rfl [4,6] [[4,0],[6,0]] ?_ rfl) ?_
   ·simp only[go_sem]
   simp only[go_sem]
   repeat refine sq ?_
   refine rx hΓ [4,5] [[4,0]] (fun K' hK=>by simp only[go_sem,List.append_nil];(repeat (refine⟨ai,?_⟩));exact hK _ (by simp only[go_sem]) (by simp only[go_sem]<;>rfl)) ?_
   refine ax ?_
   simp only[go_sem]
   first | (rw[e1,e2];done) | (rw[e1,e2];rfl)
theorem WN:ak Tryd.prog 11 S37:=SN.sound
theorem bt7(s:Stk)(X:List D):List.take 61 (List.map D.v (aA s)++X)=List.map D.v (aA s)++List.take 42 X:=rfl
theorem bt8(s:Stk)(X:List D):List.drop 62 (List.map D.v (aA s)++X)=List.drop 43 X:=rfl
noncomputable def PY:List (Nat×Spec):=[(90,S84),(91,S85),(94,S63)]
theorem aiz:∀ f s,tbl PY f=some s->ak Tryd.prog f s:=tc yQ<|tc KE<|tc CT<|tn
attribute [go_sem] PY
end Go.Eng
