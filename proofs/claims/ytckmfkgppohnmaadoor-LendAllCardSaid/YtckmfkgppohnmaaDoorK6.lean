import Derived.Test.YtckmfkgppohnmaaDoorK5
/- Texts NW3 to NW15. -/
set_option linter.all false
namespace Go.Eng
open Go Go.Proofs
theorem Ew{s:Stk}{i p:Nat}(hp:p=(s.un.get i).length-1)(hz:((s.un.get i).length==0)=false)(bF:p<(s.un.get i).length):
 (!aM (s.se.get i) 0 99999||(!aM (s.ta.get i) 0 99999||(!cz (s.un.get i)||(((s.un.get i)[p]).no != s.se.get i))))=!fj s i:=by
 subst hp
 unfold fj
 rw[hz,getD_at bF]
 have :(((s.un.get i)[(s.un.get i).length-1]).no != s.se.get i)=!(((s.un.get i)[(s.un.get i).length-1]).no==s.se.get i):=rfl
 rw[this]
 cases aM (s.se.get i) 0 99999<;>cases aM (s.ta.get i) 0 99999<;>cases cz (s.un.get i)<;>cases ((s.un.get i)[(s.un.get i).length-1].no==s.se.get i)<;>rfl
theorem Ev{s:Stk}{i:Nat}(hz:((s.un.get i).length==0)=true):
 (!aM (s.se.get i) 0 99999||(!aM (s.ta.get i) 0 99999||!cz (s.un.get i)))=!fj s i:=by
 unfold fj
 rw[hz]
 cases aM (s.se.get i) 0 99999<;>cases aM (s.ta.get i) 0 99999<;>cases cz (s.un.get i)<;>rfl
def lY(me:Int)(s:Stk):Bool:=!ft s.ho||(!((s.un.get me.toNat).length==0)||((s.se.get me.toNat != 0)||(s.ta.get me.toNat != 0)))
theorem dz{me:Int}{s:Stk}(aY:aM me 0 5=true):cf me s=(!lY me s&&dP 6 (fj s)):=by
 unfold cf lY
 rw[aY]
 have h1:(s.se.get me.toNat != 0)=!(s.se.get me.toNat==0):=rfl
 have h2:(s.ta.get me.toNat != 0)=!(s.ta.get me.toNat==0):=rfl
 rw[h1,h2]
 cases ft s.ho<;>cases ((s.un.get me.toNat).length==0)<;>cases (s.se.get me.toNat==0)<;>cases (s.ta.get me.toNat==0)<;>rfl
noncomputable def P89:PSpec:=p2 iI gA (fun _ _=>True) (fun me s=>.bool (cf me s)) true
noncomputable def S89:Spec:=P89.toSpec
attribute [go_sem] P89 S89
set_option maxHeartbeats 4000000 in
theorem O9:aR Tryd.prog 78 P89:=by
 refine w2 (rs:=[.tmp 4]) Tryd.func78 Tryd.ntmps78 (by rfl) (by kernel_rfl) (by decide) (fun _ _ _=>rfl) ⟨_,rfl,lb rfl,fun me s hp hw=>?_⟩
 have hP:=bc
 simp only[iI,gA]at hw |-
 have hΓ:=Mz
 repeat refine sq ?_
 refine rs hΓ [0,3] [[3,0]] ?_
 refine bq (dd [3,0] (aB s) rfl [0,3] [[3,0]] ?_ rfl) ?_
 ·simp only[go_sem]
 simp only[go_sem]
 rcases aY:aM me 0 5 with _ | _
 ·repeat refine sq ?_
  refine rx hΓ [3,37] [[3,0]] (fun K' hK=>by simp only[go_sem,aY];(repeat (refine⟨ob,?_⟩));exact hK _ (by simp only[go_sem]) (by simp only[go_sem]<;>rfl)) ?_
  repeat refine sq ?_
  refine ax rfl rfl (fun hb=>?_) (fun hb=>?_)
  ·repeat refine sq ?_
   refine rx hΓ [4] [] (fun K' hK=>by simp only[go_sem,aY];(repeat (refine⟨ob,?_⟩));exact hK _ (by simp only[go_sem]) (by simp only[go_sem]<;>rfl)) ?_
   refine av ?_
   simp only[go_sem]
   first | (simp[cf,aY];done) | (rw[dz aY,cW];rfl) | (rw[dz aY,cW,dO ae aN];rfl) | (rw[dz aY,cW,hR];rfl)
  ·cases hb
 ·have hm:=dS.1 aY
  have hk:me.toNat<6:=by omega
  have dn:0<=me:=hm.1
  have dm:me<6:=by omega
  repeat refine sq ?_
  refine rx hΓ [3,37] [[3,0]] (fun K' hK=>by simp only[go_sem,aY,dn,dm,dh s hk,dI s hk,dA s hk,dR];(repeat (refine⟨ob,?_⟩));exact hK _ (by simp only[go_sem]) (by simp only[go_sem]<;>rfl)) ?_
  repeat refine sq ?_
  refine ax rfl rfl (fun hb=>?_) (fun hb=>?_)
  ·repeat refine sq ?_
   have cW:lY me s=true:=by simpa[lY,<-Bool.or_assoc]using hb
   repeat refine sq ?_
   refine rx hΓ [4] [] (fun K' hK=>by simp only[go_sem,aY,dn,dm,dh s hk,dI s hk,dA s hk,dR];(repeat (refine⟨ob,?_⟩));exact hK _ (by simp only[go_sem]) (by simp only[go_sem]<;>rfl)) ?_
   refine av ?_
   simp only[go_sem]
   first | (simp[cf,aY];done) | (rw[dz aY,cW];rfl) | (rw[dz aY,cW,dO ae aN];rfl) | (rw[dz aY,cW,hR];rfl)
  ·repeat refine sq ?_
   have cW:lY me s=false:=by simpa[lY,<-Bool.or_assoc]using hb
   refine aC ?_
   repeat refine sq ?_
   refine rx hΓ [3,39,40] [[3,0]] (fun K' hK=>by simp only[go_sem,aY,dn,dm,dh s hk,dI s hk,dA s hk,dR];(repeat (refine⟨ob,?_⟩));exact hK _ (by simp only[go_sem]) (by simp only[go_sem]<;>rfl)) ?_
   repeat refine sq ?_
   refine aJ ?_
   repeat refine sq ?_
   refine bR (fun z:Nat=>[(40,⟨true,.v (vInt z)⟩)]) (fun z=>[]) (fun z=>z<=6/\dP z (fj s)=true) (fun z=>6-z) 0 ?_ ?_ ?_ ?_
   ·exact⟨Nat.zero_le _,rfl⟩
   ·rfl
   ·rfl
   rintro i ⟨hi,hR⟩
   simp only[go_sem]
   repeat refine sq ?_
   refine rx hΓ [3,39,40,41] [[3,0]] (fun K' hK=>by simp only[go_sem,aY,dn,dm,dh s hk,dI s hk,dA s hk,dR];(repeat (refine⟨ob,?_⟩));exact hK _ (by simp only[go_sem]) (by simp only[go_sem]<;>rfl)) ?_
   repeat refine sq ?_
   refine ax rfl rfl (fun hb=>?_) (fun hb=>?_)
   ·have ae:i<6:=by have hq:(i:Int)<6:=(by simpa using hb);omega
    have ai:(i:Int)<6:=by omega
    clear hb
    obtain⟨p,hp,fA,bP⟩:=Gq (l:=s.un.get i) (qN hw.2 ae)
    repeat refine sq ?_
    refine aC ?_
    repeat refine sq ?_
    refine aJ ?_
    repeat refine sq ?_
    refine rx hΓ [3,5,6,39,40] [[3,0]] (fun K' hK=>by simp only[go_sem,aY,dn,dm,dh s hk,dI s hk,dA s hk,dR,Int.toNat_natCast,Int.natCast_nonneg,ai,bb.L_get s.un rowP default ae,Int.toNat_natCast,Int.natCast_nonneg,ai];(repeat (refine⟨ob,?_⟩));exact hK _ (by simp only[go_sem]) (by simp only[go_sem]<;>rfl)) ?_
    rcases hz:((s.un.get i).length==0)with _ | _
    ·obtain⟨bF,bE,bH⟩:=bP hz
     have cK:=Ew fA hz bF
     repeat refine sq ?_
     refine dx hΓ hP [[],[],[0,1],[0,1,2],[0,1,2,3],[0,1,2,3,4],[0,1,2,3,4,5],[0,1,2,3,4,5,6],[0,1,2,3,4,5,6],[0,1,2,3,4,5,6,7,8],[0,1,2,3,4,5,6,7,8,9],[0,1,2,3,4,5,6,7,8,9,10],[0,1,2,3,4,5,6,7,8,9,10,11],[0,1,2,3,4,5,6,7,8,9,10,11,12],[0,1,2,3,4,5,6,7,8,9,10,11,12,13],[0,1,2,3,4,5,6,7,8,9,10,11,12,13,14],[0,1,2,3,4,5,6,7,8,9,10,11,12,13,14,15],[0,1,2,3,4,5,6,7,8,9,10,11,12,13,14,15,16],[0,1,2,3,4,5,6,7,8,9,10,11,12,13,14,15,16,17],[0,1,2,3,4,5,6,7,8,9,10,11,12,13,14,15,16,17,18],[0,1,2,3,4,5,6,7,8,9,10,11,12,13,14,15,16,17,18,19],[0,1,2,3,4,5,6,7,8,9,10,11,12,13,14,15,16,17,18,19,20],[0,1,2,3,4,5,6,7,8,9,10,11,12,13,14,15,16,17,18,19,20,21],[0,1,2,3,4,5,6,7,8,9,10,11,12,13,14,15,16,17,18,19,20,21,22],[0,1,2,3,4,5,6,7,8,9,10,11,12,13,14,15,16,17,18,19,20,21,22,23],[0,1,2,3,4,5,6,7,8,9,10,11,12,13,14,15,16,17,18,19,20,21,22,23],[0,1,2,3,4,5,6,7,8,9,10,11,12,13,14,15,16,17,18,19,20,21,22,23,25],[0,1,2,3,4,5,6,7,8,9,10,11,12,13,14,15,16,17,18,19,20,21,22,23,25,26],[0,1,2,3,4,5,6,7,8,9,10,11,12,13,14,15,16,17,18,19,20,21,22,23,24,25,26,27],[0,1,2,3,4,5,6,7,8,9,10,11,12,13,14,15,16,17,18,19,20,21,22,23,24,25,26,27,28],[0,1,2,3,4,5,6,7,8,9,10,11,12,13,14,15,16,17,18,19,20,21,22,23,24,25,26,27,28,29],[0,1,2,3,4,5,6,7,8,9,10,11,12,13,14,15,16,17,18,19,20,21,22,23],[0,1,2,3,4,5,6,7,8,9,10,11,12,13,14,15,16,17,18,19,20,21,22,23],[0,1,2,3,4,5,6,7,8,9,10,11,12,13,14,15,16,17,18,19,20,21,22,23,31,32],[0,1,2,3,4,5,6,7,8,9,10,11,12,13,14,15,16,17,18,19,20,21,22,23,31,32,33],[0,1,2,3,4,5,6,7,8,9,10,11,12,13,14,15,16,17,18,19,20,21,22,23,24,25,26,27,28,29,30,31,32,33,34],[0,1,2,3,4,5,6,7,8,9,10,11,12,13,14,15,16,17,18,19,20,21,22,23,24,25,26,27,28,29,30,31,32,33,34,35],[0,1,2,3,4,5,6,7,8,9,10,11,12,13,14,15,16,17,18,19,20,21,22,23,24,25,26,27,28,29,30,31,32,33,34,35,36]] [3,39,40,81] [[3,0]] (by kernel_rfl) (fun K' hK=>by simp only[go_sem,aY,dn,dm,dh s hk,dI s hk,dA s hk,dR,Int.toNat_natCast,Int.natCast_nonneg,ai,hz,hp,bE,bH,aH bF,dI s ae,dA s ae,Int.toNat_natCast,Int.natCast_nonneg,ai,dR];(repeat (refine⟨by first | exact ob | exact⟨bE,bH,rfl⟩ | exact fun _=>⟨bE,bH,rfl⟩,?_⟩));(first | refine⟨by rfl,?_⟩ | skip);exact hK _ (by simp only[go_sem]) (by simp only[go_sem]<;>rfl)) ?_
     repeat refine sq ?_
     refine ax rfl rfl (fun hb=>?_) (fun hb=>?_)
     ·repeat refine sq ?_
      have aN:fj s i=false:=by simpa[<-Bool.or_assoc,hb]using cK.symm
      repeat refine sq ?_
      refine rx hΓ [4] [] (fun K' hK=>by simp only[go_sem,aY,dn,dm,dh s hk,dI s hk,dA s hk,dR,Int.toNat_natCast,Int.natCast_nonneg,ai,hz,hp,bE,bH,aH bF];(repeat (refine⟨ob,?_⟩));exact hK _ (by simp only[go_sem]) (by simp only[go_sem]<;>rfl)) ?_
      refine av ?_
      simp only[go_sem]
      first | (simp[cf,aY];done) | (rw[dz aY,cW];rfl) | (rw[dz aY,cW,dO ae aN];rfl) | (rw[dz aY,cW,hR];rfl)
     ·repeat refine sq ?_
      have bk:fj s i=true:=by simpa[<-Bool.or_assoc,hb]using cK.symm
      refine aC ?_
      refine cX ?_
      simp only[go_sem]
      refine kp [3,39,40] [[3,0]] ?_
      repeat refine sq ?_
      refine aQ hΓ fun K' hK=>?_
      simp only[go_sem,aY,dn,dm,dh s hk,dI s hk,dA s hk,dR,Int.toNat_natCast,Int.natCast_nonneg,ai,hz,hp,bE,bH,aH bF]
      repeat (refine⟨ob,?_⟩)
      refine hK _ ?_
      clear K' hK
      simp only[go_sem]
      refine⟨i+1,⟨ae,?_⟩,by(show 6-(i+1)<6-i;omega),?_⟩
      ·exact gg hR bk
      refine bd [3,39,40] [[3,0]] ?_ ?_
      ·simp only[go_sem,aA ae (lb rfl:(6:Nat)<=maxLen),Int.natCast_add,Int.natCast_one]
      ·simp only[go_sem,aA ae (lb rfl:(6:Nat)<=maxLen),Int.natCast_add,Int.natCast_one]
    ·have cK:=Ev hz
     repeat refine sq ?_
     refine dx hΓ hP [[],[],[0,1],[0,1,2],[0,1,2,3],[0,1,2,3,4],[0,1,2,3,4,5],[0,1,2,3,4,5,6],[0,1,2,3,4,5,6],[0,1,2,3,4,5,6,7,8],[0,1,2,3,4,5,6,7,8,9],[0,1,2,3,4,5,6,7,8,9,10],[0,1,2,3,4,5,6,7,8,9,10,11],[0,1,2,3,4,5,6,7,8,9,10,11,12],[0,1,2,3,4,5,6,7,8,9,10,11,12,13],[0,1,2,3,4,5,6,7,8,9,10,11,12,13,14],[0,1,2,3,4,5,6,7,8,9,10,11,12,13,14,15],[0,1,2,3,4,5,6,7,8,9,10,11,12,13,14,15,16],[0,1,2,3,4,5,6,7,8,9,10,11,12,13,14,15,16,17],[0,1,2,3,4,5,6,7,8,9,10,11,12,13,14,15,16,17,18],[0,1,2,3,4,5,6,7,8,9,10,11,12,13,14,15,16,17,18,19],[0,1,2,3,4,5,6,7,8,9,10,11,12,13,14,15,16,17,18,19,20],[0,1,2,3,4,5,6,7,8,9,10,11,12,13,14,15,16,17,18,19,20,21],[0,1,2,3,4,5,6,7,8,9,10,11,12,13,14,15,16,17,18,19,20,21,22],[0,1,2,3,4,5,6,7,8,9,10,11,12,13,14,15,16,17,18,19,20,21,22,23],[0,1,2,3,4,5,6,7,8,9,10,11,12,13,14,15,16,17,18,19,20,21,22,23],[0,1,2,3,4,5,6,7,8,9,10,11,12,13,14,15,16,17,18,19,20,21,22,23,25],[0,1,2,3,4,5,6,7,8,9,10,11,12,13,14,15,16,17,18,19,20,21,22,23,25,26],[0,1,2,3,4,5,6,7,8,9,10,11,12,13,14,15,16,17,18,19,20,21,22,23,24,25,26,27],[0,1,2,3,4,5,6,7,8,9,10,11,12,13,14,15,16,17,18,19,20,21,22,23,24,25,26,27,28],[0,1,2,3,4,5,6,7,8,9,10,11,12,13,14,15,16,17,18,19,20,21,22,23,24,25,26,27,28,29],[0,1,2,3,4,5,6,7,8,9,10,11,12,13,14,15,16,17,18,19,20,21,22,23],[0,1,2,3,4,5,6,7,8,9,10,11,12,13,14,15,16,17,18,19,20,21,22,23],[0,1,2,3,4,5,6,7,8,9,10,11,12,13,14,15,16,17,18,19,20,21,22,23,31,32],[0,1,2,3,4,5,6,7,8,9,10,11,12,13,14,15,16,17,18,19,20,21,22,23,31,32,33],[0,1,2,3,4,5,6,7,8,9,10,11,12,13,14,15,16,17,18,19,20,21,22,23,24,25,26,27,28,29,30,31,32,33,34],[0,1,2,3,4,5,6,7,8,9,10,11,12,13,14,15,16,17,18,19,20,21,22,23,24,25,26,27,28,29,30,31,32,33,34,35],[0,1,2,3,4,5,6,7,8,9,10,11,12,13,14,15,16,17,18,19,20,21,22,23,24,25,26,27,28,29,30,31,32,33,34,35,36]] [3,39,40,81] [[3,0]] (by kernel_rfl) (fun K' hK=>by simp only[go_sem,aY,dn,dm,dh s hk,dI s hk,dA s hk,dR,Int.toNat_natCast,Int.natCast_nonneg,ai,hz,dI s ae,dA s ae,Int.toNat_natCast,Int.natCast_nonneg,ai,dR];(repeat (refine⟨by first | exact ob | exact⟨bE,bH,rfl⟩ | exact fun _=>⟨bE,bH,rfl⟩,?_⟩));(first | refine⟨by rfl,?_⟩ | skip);exact hK _ (by simp only[go_sem]) (by simp only[go_sem]<;>rfl)) ?_
     repeat refine sq ?_
     refine ax rfl rfl (fun hb=>?_) (fun hb=>?_)
     ·repeat refine sq ?_
      have aN:fj s i=false:=by simpa[<-Bool.or_assoc,hb]using cK.symm
      repeat refine sq ?_
      refine rx hΓ [4] [] (fun K' hK=>by simp only[go_sem,aY,dn,dm,dh s hk,dI s hk,dA s hk,dR,Int.toNat_natCast,Int.natCast_nonneg,ai,hz];(repeat (refine⟨ob,?_⟩));exact hK _ (by simp only[go_sem]) (by simp only[go_sem]<;>rfl)) ?_
      refine av ?_
      simp only[go_sem]
      first | (simp[cf,aY];done) | (rw[dz aY,cW];rfl) | (rw[dz aY,cW,dO ae aN];rfl) | (rw[dz aY,cW,hR];rfl)
     ·repeat refine sq ?_
      have bk:fj s i=true:=by simpa[<-Bool.or_assoc,hb]using cK.symm
      refine aC ?_
      refine cX ?_
      simp only[go_sem]
      refine kp [3,39,40] [[3,0]] ?_
      repeat refine sq ?_
      refine aQ hΓ fun K' hK=>?_
      simp only[go_sem,aY,dn,dm,dh s hk,dI s hk,dA s hk,dR,Int.toNat_natCast,Int.natCast_nonneg,ai,hz]
      repeat (refine⟨ob,?_⟩)
      refine hK _ ?_
      clear K' hK
      simp only[go_sem]
      refine⟨i+1,⟨ae,?_⟩,by(show 6-(i+1)<6-i;omega),?_⟩
      ·exact gg hR bk
      refine bd [3,39,40] [[3,0]] ?_ ?_
      ·simp only[go_sem,aA ae (lb rfl:(6:Nat)<=maxLen),Int.natCast_add,Int.natCast_one]
      ·simp only[go_sem,aA ae (lb rfl:(6:Nat)<=maxLen),Int.natCast_add,Int.natCast_one]
   ·have aV:i=6:=by
     have :¬ (i:Int)<6:=by simpa using hb
     omega
    clear hb
    subst aV
    repeat refine sq ?_
    refine bK ?_
    simp only[go_sem]
    refine kp [] [] ?_
    repeat refine sq ?_
    refine rx hΓ [4] [] (fun K' hK=>by simp only[go_sem,aY,dn,dm,dh s hk,dI s hk,dA s hk,dR];(repeat (refine⟨ob,?_⟩));exact hK _ (by simp only[go_sem]) (by simp only[go_sem]<;>rfl)) ?_
    refine av ?_
    simp only[go_sem]
    first | (simp[cf,aY];done) | (rw[dz aY,cW];rfl) | (rw[dz aY,cW,dO ae aN];rfl) | (rw[dz aY,cW,hR];rfl)
theorem AG:ak Tryd.prog 78 S89:=O9.sound
def ee(me:Int)(s:Stk):Int:=if cf me s=true then 0 else 90
def mr(s:Stk):Bool:=!dP 6 fun m=>!cf m s
def ki(b:Bag):Bool:=aM b.fr 0 5&&aM b.to 0 5&&(b.fr != b.to)&&cz b.ps&&aM b.ta 0 99999
def qD(b:Bag):Int:=if ki b=true then 0 else 93
noncomputable def P43:PSpec:=p2 iI gA (fun _ _=>True) (fun me s=>vInt (ee me s)) true
noncomputable def S43:Spec:=P43.toSpec
attribute [go_sem] P43 S43
set_option maxHeartbeats 4000000 in
theorem PJ:aR Tryd.prog 84 P43:=by
 refine w2 (rs:=[.tmp 4]) Tryd.func84 Tryd.ntmps84 (by rfl) (by kernel_rfl) (by decide) (fun _ _ _=>rfl) ⟨_,rfl,lb rfl,fun me s hp hw=>?_⟩
 have hP:=bc
 simp only[iI,gA]at hw |-
 have hΓ:=Mz
 repeat refine sq ?_
 refine rs hΓ [0,3] [[3,0]] ?_
 refine bq (dd [3,0] (aB s) rfl [0,3] [[3,0]] ?_ rfl) ?_
 ·simp only[go_sem]
 simp only[go_sem]
 rcases aY:aM me 0 5 with _ | _
 ·repeat refine sq ?_
  refine rx hΓ [3,37] [[3,0]] (fun K' hK=>by simp only[go_sem,aY];(repeat (refine⟨ob,?_⟩));exact hK _ (by simp only[go_sem]) (by simp only[go_sem]<;>rfl)) ?_
  repeat refine sq ?_
  refine ax rfl rfl (fun hb=>?_) (fun hb=>?_)
  ·repeat refine sq ?_
   refine rx hΓ [4] [] (fun K' hK=>by simp only[go_sem,aY];(repeat (refine⟨ob,?_⟩));exact hK _ (by simp only[go_sem]) (by simp only[go_sem]<;>rfl)) ?_
   refine av ?_
   simp only[go_sem]
   first | (simp[ee,cf,aY];done) | (unfold ee;rw[dz aY,cW];rfl) | (unfold ee;rw[dz aY,cW,dO ae aN];rfl) | (unfold ee;rw[dz aY,cW,hR];rfl)
  ·cases hb
 ·have hm:=dS.1 aY
  have hk:me.toNat<6:=by omega
  have dn:0<=me:=hm.1
  have dm:me<6:=by omega
  repeat refine sq ?_
  refine rx hΓ [3,37] [[3,0]] (fun K' hK=>by simp only[go_sem,aY,dn,dm,dh s hk,dI s hk,dA s hk,dR];(repeat (refine⟨ob,?_⟩));exact hK _ (by simp only[go_sem]) (by simp only[go_sem]<;>rfl)) ?_
  repeat refine sq ?_
  refine ax rfl rfl (fun hb=>?_) (fun hb=>?_)
  ·repeat refine sq ?_
   have cW:lY me s=true:=by simpa[lY,<-Bool.or_assoc]using hb
   repeat refine sq ?_
   refine rx hΓ [4] [] (fun K' hK=>by simp only[go_sem,aY,dn,dm,dh s hk,dI s hk,dA s hk,dR];(repeat (refine⟨ob,?_⟩));exact hK _ (by simp only[go_sem]) (by simp only[go_sem]<;>rfl)) ?_
   refine av ?_
   simp only[go_sem]
   first | (simp[ee,cf,aY];done) | (unfold ee;rw[dz aY,cW];rfl) | (unfold ee;rw[dz aY,cW,dO ae aN];rfl) | (unfold ee;rw[dz aY,cW,hR];rfl)
  ·repeat refine sq ?_
   have cW:lY me s=false:=by simpa[lY,<-Bool.or_assoc]using hb
   refine aC ?_
   repeat refine sq ?_
   refine rx hΓ [3,5] [[3,0]] (fun K' hK=>by simp only[go_sem,aY,dn,dm,dh s hk,dI s hk,dA s hk,dR];(repeat (refine⟨ob,?_⟩));exact hK _ (by simp only[go_sem]) (by simp only[go_sem]<;>rfl)) ?_
   repeat refine sq ?_
   refine aJ ?_
   repeat refine sq ?_
   refine bR (fun z:Nat=>[(5,⟨true,.v (vInt z)⟩)]) (fun z=>[]) (fun z=>z<=6/\dP z (fj s)=true) (fun z=>6-z) 0 ?_ ?_ ?_ ?_
   ·exact⟨Nat.zero_le _,rfl⟩
   ·rfl
   ·rfl
   rintro i ⟨hi,hR⟩
   simp only[go_sem]
   repeat refine sq ?_
   refine rx hΓ [3,5,39] [[3,0]] (fun K' hK=>by simp only[go_sem,aY,dn,dm,dh s hk,dI s hk,dA s hk,dR];(repeat (refine⟨ob,?_⟩));exact hK _ (by simp only[go_sem]) (by simp only[go_sem]<;>rfl)) ?_
   repeat refine sq ?_
   refine ax rfl rfl (fun hb=>?_) (fun hb=>?_)
   ·have ae:i<6:=by have hq:(i:Int)<6:=(by simpa using hb);omega
    have ai:(i:Int)<6:=by omega
    clear hb
    obtain⟨p,hp,fA,bP⟩:=Gq (l:=s.un.get i) (qN hw.2 ae)
    repeat refine sq ?_
    refine aC ?_
    repeat refine sq ?_
    refine aJ ?_
    repeat refine sq ?_
    refine rx hΓ [3,5,6] [[3,0]] (fun K' hK=>by simp only[go_sem,aY,dn,dm,dh s hk,dI s hk,dA s hk,dR,Int.toNat_natCast,Int.natCast_nonneg,ai,dh s ae,Int.toNat_natCast,Int.natCast_nonneg,ai];(repeat (refine⟨ob,?_⟩));exact hK _ (by simp only[go_sem]) (by simp only[go_sem]<;>rfl)) ?_
    rcases hz:((s.un.get i).length==0)with _ | _
    ·obtain⟨bF,bE,bH⟩:=bP hz
     have cK:=Ew fA hz bF
     repeat refine sq ?_
     refine dx hΓ hP [[],[],[0,1],[0,1,2],[0,1,2,3],[0,1,2,3,4],[0,1,2,3,4,5],[0,1,2,3,4,5,6],[0,1,2,3,4,5,6],[0,1,2,3,4,5,6,7,8],[0,1,2,3,4,5,6,7,8,9],[0,1,2,3,4,5,6,7,8,9,10],[0,1,2,3,4,5,6,7,8,9,10,11],[0,1,2,3,4,5,6,7,8,9,10,11,12],[0,1,2,3,4,5,6,7,8,9,10,11,12,13],[0,1,2,3,4,5,6,7,8,9,10,11,12,13,14],[0,1,2,3,4,5,6,7,8,9,10,11,12,13,14,15],[0,1,2,3,4,5,6,7,8,9,10,11,12,13,14,15,16],[0,1,2,3,4,5,6,7,8,9,10,11,12,13,14,15,16,17],[0,1,2,3,4,5,6,7,8,9,10,11,12,13,14,15,16,17,18],[0,1,2,3,4,5,6,7,8,9,10,11,12,13,14,15,16,17,18,19],[0,1,2,3,4,5,6,7,8,9,10,11,12,13,14,15,16,17,18,19,20],[0,1,2,3,4,5,6,7,8,9,10,11,12,13,14,15,16,17,18,19,20,21],[0,1,2,3,4,5,6,7,8,9,10,11,12,13,14,15,16,17,18,19,20,21,22],[0,1,2,3,4,5,6,7,8,9,10,11,12,13,14,15,16,17,18,19,20,21,22,23],[0,1,2,3,4,5,6,7,8,9,10,11,12,13,14,15,16,17,18,19,20,21,22,23],[0,1,2,3,4,5,6,7,8,9,10,11,12,13,14,15,16,17,18,19,20,21,22,23,25],[0,1,2,3,4,5,6,7,8,9,10,11,12,13,14,15,16,17,18,19,20,21,22,23,25,26],[0,1,2,3,4,5,6,7,8,9,10,11,12,13,14,15,16,17,18,19,20,21,22,23,24,25,26,27],[0,1,2,3,4,5,6,7,8,9,10,11,12,13,14,15,16,17,18,19,20,21,22,23,24,25,26,27,28],[0,1,2,3,4,5,6,7,8,9,10,11,12,13,14,15,16,17,18,19,20,21,22,23,24,25,26,27,28,29],[0,1,2,3,4,5,6,7,8,9,10,11,12,13,14,15,16,17,18,19,20,21,22,23],[0,1,2,3,4,5,6,7,8,9,10,11,12,13,14,15,16,17,18,19,20,21,22,23],[0,1,2,3,4,5,6,7,8,9,10,11,12,13,14,15,16,17,18,19,20,21,22,23,31,32],[0,1,2,3,4,5,6,7,8,9,10,11,12,13,14,15,16,17,18,19,20,21,22,23,31,32,33],[0,1,2,3,4,5,6,7,8,9,10,11,12,13,14,15,16,17,18,19,20,21,22,23,24,25,26,27,28,29,30,31,32,33,34],[0,1,2,3,4,5,6,7,8,9,10,11,12,13,14,15,16,17,18,19,20,21,22,23,24,25,26,27,28,29,30,31,32,33,34,35],[0,1,2,3,4,5,6,7,8,9,10,11,12,13,14,15,16,17,18,19,20,21,22,23,24,25,26,27,28,29,30,31,32,33,34,35,36]] [3,5,83] [[3,0]] (by kernel_rfl) (fun K' hK=>by simp only[go_sem,aY,dn,dm,dh s hk,dI s hk,dA s hk,dR,Int.toNat_natCast,Int.natCast_nonneg,ai,hz,hp,bE,bH,aH bF,dI s ae,dA s ae,Int.toNat_natCast,Int.natCast_nonneg,ai,dR];(repeat (refine⟨by first | exact ob | exact⟨bE,bH,rfl⟩ | exact fun _=>⟨bE,bH,rfl⟩,?_⟩));(first | refine⟨by rfl,?_⟩ | skip);exact hK _ (by simp only[go_sem]) (by simp only[go_sem]<;>rfl)) ?_
     repeat refine sq ?_
     refine ax rfl rfl (fun hb=>?_) (fun hb=>?_)
     ·repeat refine sq ?_
      have aN:fj s i=false:=by simpa[<-Bool.or_assoc,hb]using cK.symm
      repeat refine sq ?_
      refine rx hΓ [4] [] (fun K' hK=>by simp only[go_sem,aY,dn,dm,dh s hk,dI s hk,dA s hk,dR,Int.toNat_natCast,Int.natCast_nonneg,ai,hz,hp,bE,bH,aH bF];(repeat (refine⟨ob,?_⟩));exact hK _ (by simp only[go_sem]) (by simp only[go_sem]<;>rfl)) ?_
      refine av ?_
      simp only[go_sem]
      first | (simp[ee,cf,aY];done) | (unfold ee;rw[dz aY,cW];rfl) | (unfold ee;rw[dz aY,cW,dO ae aN];rfl) | (unfold ee;rw[dz aY,cW,hR];rfl)
     ·repeat refine sq ?_
      have bk:fj s i=true:=by simpa[<-Bool.or_assoc,hb]using cK.symm
      refine aC ?_
      refine cX ?_
      simp only[go_sem]
      refine kp [3,5] [[3,0]] ?_
      repeat refine sq ?_
      refine aQ hΓ fun K' hK=>?_
      simp only[go_sem,aY,dn,dm,dh s hk,dI s hk,dA s hk,dR,Int.toNat_natCast,Int.natCast_nonneg,ai,hz,hp,bE,bH,aH bF]
      repeat (refine⟨ob,?_⟩)
      refine hK _ ?_
      clear K' hK
      simp only[go_sem]
      refine⟨i+1,⟨ae,?_⟩,by(show 6-(i+1)<6-i;omega),?_⟩
      ·exact gg hR bk
      refine bd [3,5] [[3,0]] ?_ ?_
      ·simp only[go_sem,aA ae (lb rfl:(6:Nat)<=maxLen),Int.natCast_add,Int.natCast_one]
      ·simp only[go_sem,aA ae (lb rfl:(6:Nat)<=maxLen),Int.natCast_add,Int.natCast_one]
    ·have cK:=Ev hz
     repeat refine sq ?_
     refine dx hΓ hP [[],[],[0,1],[0,1,2],[0,1,2,3],[0,1,2,3,4],[0,1,2,3,4,5],[0,1,2,3,4,5,6],[0,1,2,3,4,5,6],[0,1,2,3,4,5,6,7,8],[0,1,2,3,4,5,6,7,8,9],[0,1,2,3,4,5,6,7,8,9,10],[0,1,2,3,4,5,6,7,8,9,10,11],[0,1,2,3,4,5,6,7,8,9,10,11,12],[0,1,2,3,4,5,6,7,8,9,10,11,12,13],[0,1,2,3,4,5,6,7,8,9,10,11,12,13,14],[0,1,2,3,4,5,6,7,8,9,10,11,12,13,14,15],[0,1,2,3,4,5,6,7,8,9,10,11,12,13,14,15,16],[0,1,2,3,4,5,6,7,8,9,10,11,12,13,14,15,16,17],[0,1,2,3,4,5,6,7,8,9,10,11,12,13,14,15,16,17,18],[0,1,2,3,4,5,6,7,8,9,10,11,12,13,14,15,16,17,18,19],[0,1,2,3,4,5,6,7,8,9,10,11,12,13,14,15,16,17,18,19,20],[0,1,2,3,4,5,6,7,8,9,10,11,12,13,14,15,16,17,18,19,20,21],[0,1,2,3,4,5,6,7,8,9,10,11,12,13,14,15,16,17,18,19,20,21,22],[0,1,2,3,4,5,6,7,8,9,10,11,12,13,14,15,16,17,18,19,20,21,22,23],[0,1,2,3,4,5,6,7,8,9,10,11,12,13,14,15,16,17,18,19,20,21,22,23],[0,1,2,3,4,5,6,7,8,9,10,11,12,13,14,15,16,17,18,19,20,21,22,23,25],[0,1,2,3,4,5,6,7,8,9,10,11,12,13,14,15,16,17,18,19,20,21,22,23,25,26],[0,1,2,3,4,5,6,7,8,9,10,11,12,13,14,15,16,17,18,19,20,21,22,23,24,25,26,27],[0,1,2,3,4,5,6,7,8,9,10,11,12,13,14,15,16,17,18,19,20,21,22,23,24,25,26,27,28],[0,1,2,3,4,5,6,7,8,9,10,11,12,13,14,15,16,17,18,19,20,21,22,23,24,25,26,27,28,29],[0,1,2,3,4,5,6,7,8,9,10,11,12,13,14,15,16,17,18,19,20,21,22,23],[0,1,2,3,4,5,6,7,8,9,10,11,12,13,14,15,16,17,18,19,20,21,22,23],[0,1,2,3,4,5,6,7,8,9,10,11,12,13,14,15,16,17,18,19,20,21,22,23,31,32],[0,1,2,3,4,5,6,7,8,9,10,11,12,13,14,15,16,17,18,19,20,21,22,23,31,32,33],[0,1,2,3,4,5,6,7,8,9,10,11,12,13,14,15,16,17,18,19,20,21,22,23,24,25,26,27,28,29,30,31,32,33,34],[0,1,2,3,4,5,6,7,8,9,10,11,12,13,14,15,16,17,18,19,20,21,22,23,24,25,26,27,28,29,30,31,32,33,34,35],[0,1,2,3,4,5,6,7,8,9,10,11,12,13,14,15,16,17,18,19,20,21,22,23,24,25,26,27,28,29,30,31,32,33,34,35,36]] [3,5,83] [[3,0]] (by kernel_rfl) (fun K' hK=>by simp only[go_sem,aY,dn,dm,dh s hk,dI s hk,dA s hk,dR,Int.toNat_natCast,Int.natCast_nonneg,ai,hz,dI s ae,dA s ae,Int.toNat_natCast,Int.natCast_nonneg,ai,dR];(repeat (refine⟨by first | exact ob | exact⟨bE,bH,rfl⟩ | exact fun _=>⟨bE,bH,rfl⟩,?_⟩));(first | refine⟨by rfl,?_⟩ | skip);exact hK _ (by simp only[go_sem]) (by simp only[go_sem]<;>rfl)) ?_
     repeat refine sq ?_
     refine ax rfl rfl (fun hb=>?_) (fun hb=>?_)
     ·repeat refine sq ?_
      have aN:fj s i=false:=by simpa[<-Bool.or_assoc,hb]using cK.symm
      repeat refine sq ?_
      refine rx hΓ [4] [] (fun K' hK=>by simp only[go_sem,aY,dn,dm,dh s hk,dI s hk,dA s hk,dR,Int.toNat_natCast,Int.natCast_nonneg,ai,hz];(repeat (refine⟨ob,?_⟩));exact hK _ (by simp only[go_sem]) (by simp only[go_sem]<;>rfl)) ?_
      refine av ?_
      simp only[go_sem]
      first | (simp[ee,cf,aY];done) | (unfold ee;rw[dz aY,cW];rfl) | (unfold ee;rw[dz aY,cW,dO ae aN];rfl) | (unfold ee;rw[dz aY,cW,hR];rfl)
     ·repeat refine sq ?_
      have bk:fj s i=true:=by simpa[<-Bool.or_assoc,hb]using cK.symm
      refine aC ?_
      refine cX ?_
      simp only[go_sem]
      refine kp [3,5] [[3,0]] ?_
      repeat refine sq ?_
      refine aQ hΓ fun K' hK=>?_
      simp only[go_sem,aY,dn,dm,dh s hk,dI s hk,dA s hk,dR,Int.toNat_natCast,Int.natCast_nonneg,ai,hz]
      repeat (refine⟨ob,?_⟩)
      refine hK _ ?_
      clear K' hK
      simp only[go_sem]
      refine⟨i+1,⟨ae,?_⟩,by(show 6-(i+1)<6-i;omega),?_⟩
      ·exact gg hR bk
      refine bd [3,5] [[3,0]] ?_ ?_
      ·simp only[go_sem,aA ae (lb rfl:(6:Nat)<=maxLen),Int.natCast_add,Int.natCast_one]
      ·simp only[go_sem,aA ae (lb rfl:(6:Nat)<=maxLen),Int.natCast_add,Int.natCast_one]
   ·have aV:i=6:=by
     have :¬ (i:Int)<6:=by simpa using hb
     omega
    clear hb
    subst aV
    repeat refine sq ?_
    refine bK ?_
    simp only[go_sem]
    refine kp [] [] ?_
    repeat refine sq ?_
    refine rx hΓ [4] [] (fun K' hK=>by simp only[go_sem,aY,dn,dm,dh s hk,dI s hk,dA s hk,dR];(repeat (refine⟨ob,?_⟩));exact hK _ (by simp only[go_sem]) (by simp only[go_sem]<;>rfl)) ?_
    refine av ?_
    simp only[go_sem]
    first | (simp[ee,cf,aY];done) | (unfold ee;rw[dz aY,cW];rfl) | (unfold ee;rw[dz aY,cW,dO ae aN];rfl) | (unfold ee;rw[dz aY,cW,hR];rfl)
theorem AP:ak Tryd.prog 84 S43:=PJ.sound
noncomputable def K4:List (Nat×Spec):=[(78,S89),(84,S43),(34,S82),(70,S87),(71,S79),(90,S84),(93,S88),(92,S81)]
theorem Mq:∀ f s,tbl K4 f=some s->ak Tryd.prog f s:=tc AG<|tc AP<|tc wU<|tc HQ<|tc AJ<|tc wT<|tc HP<|tc AI<|tn
attribute [go_sem] K4
theorem EC{s:Stk}{i:Nat}(hi:i<6)(h:cf i s=true):mr s=true:=by
 unfold mr
 rw[dO hi (by rw[h];rfl)];rfl
theorem acy{me:Int}{s:Stk}:(ee me s==0)=cf me s:=by
 unfold ee
 cases cf me s<;>rfl
noncomputable def P78:PSpec:=p1 gA (fun _=>True) (fun s=>.bool (mr s)) true
noncomputable def S78:Spec:=P78.toSpec
attribute [go_sem] P78 S78
set_option maxHeartbeats 4000000 in
theorem Pl:aR Tryd.prog 62 P78:=by
 refine w1 (rs:=[.tmp 2]) Tryd.func62 Tryd.ntmps62 (by rfl) (by kernel_rfl) (by decide) (fun _ _=>rfl) ⟨_,rfl,lb rfl,fun s hp hw=>?_⟩
 have hP:=bc
 simp only[gA]at hw |-
 have hΓ:=Mq
 repeat refine sq ?_
 refine rs hΓ [1] [[1,0]] ?_
 refine bq (dd [1,0] (aB s) rfl [1] [[1,0]] ?_ rfl) ?_
 ·simp only[go_sem]
 simp only[go_sem]
 repeat refine sq ?_
 refine rs hΓ [1,4] [[1,0]] ?_
 repeat refine sq ?_
 refine aJ ?_
 repeat refine sq ?_
 refine bR (fun z:Nat=>[(4,⟨true,.v (vInt z)⟩)]) (fun z=>[]) (fun z=>z<=6/\dP z (fun m=>!cf m s)=true) (fun z=>6-z) 0 ?_ ?_ ?_ ?_
 ·exact⟨Nat.zero_le _,rfl⟩
 ·rfl
 ·rfl
 rintro i ⟨hi,hR⟩
 simp only[go_sem]
 repeat refine sq ?_
 refine rs hΓ [1,4,5] [[1,0]] ?_
 repeat refine sq ?_
 refine ax rfl rfl (fun hb=>?_) (fun hb=>?_)
 ·have ae:i<6:=by have hq:(i:Int)<6:=(by simpa using hb);omega
  have ai:(i:Int)<6:=by omega
  clear hb
  repeat refine sq ?_
  refine aC ?_
  repeat refine sq ?_
  refine aJ ?_
  repeat refine sq ?_
  refine rx hΓ [1,3,4] [[1,0]] (fun K' hK=>by simp only[go_sem,Int.toNat_natCast,Int.natCast_nonneg,ai];(repeat (refine⟨ob,?_⟩));exact hK _ (by simp only[go_sem]) (by simp only[go_sem]<;>rfl)) ?_
  repeat refine sq ?_
  refine rx hΓ [1,4,9] [[1,0]] (fun K' hK=>by simp only[go_sem,Int.toNat_natCast,Int.natCast_nonneg,ai];(repeat (refine⟨ob,?_⟩));exact hK _ (by simp only[go_sem]) (by simp only[go_sem]<;>rfl)) ?_
  repeat refine sq ?_
  refine ax rfl rfl (fun hb=>?_) (fun hb=>?_)
  ·repeat refine sq ?_
   refine rx hΓ [2] [] (fun K' hK=>by simp only[go_sem,Int.toNat_natCast,Int.natCast_nonneg,ai];(repeat (refine⟨ob,?_⟩));exact hK _ (by simp only[go_sem]) (by simp only[go_sem]<;>rfl)) ?_
   refine av ?_
   simp only[go_sem]
   first | (rw[EC ae (by simpa using hb)];done) | (unfold mr;rw[hR];rfl)
  ·repeat refine sq ?_
   refine aC ?_
   refine cX ?_
   simp only[go_sem]
   refine kp [1,4] [[1,0]] ?_
   repeat refine sq ?_
   refine aQ hΓ fun K' hK=>?_
   simp only[go_sem,Int.toNat_natCast,Int.natCast_nonneg,ai]
   repeat (refine⟨ob,?_⟩)
   refine hK _ ?_
   clear K' hK
   simp only[go_sem]
   refine⟨i+1,⟨ae,?_⟩,by(show 6-(i+1)<6-i;omega),?_⟩
   ·exact gg hR (by simpa using hb)
   refine bd [1,4] [[1,0]] ?_ ?_
   ·simp only[go_sem,aA ae (lb rfl:(6:Nat)<=maxLen),Int.natCast_add,Int.natCast_one]
   ·simp only[go_sem,aA ae (lb rfl:(6:Nat)<=maxLen),Int.natCast_add,Int.natCast_one]
 ·have aV:i=6:=by
   have :¬ (i:Int)<6:=by simpa using hb
   omega
  clear hb
  subst aV
  repeat refine sq ?_
  refine bK ?_
  simp only[go_sem]
  refine kp [] [] ?_
  repeat refine sq ?_
  refine rs hΓ [2] [] ?_
  refine av ?_
  simp only[go_sem]
  first | (rw[EC ae (by simpa using hb)];done) | (unfold mr;rw[hR];rfl)
theorem Tj:ak Tryd.prog 62 S78:=Pl.sound
theorem Lm(b:Bag):(!aM b.fr 0 5||(!aM b.to 0 5||((b.fr==b.to)||(!cz b.ps||!aM b.ta 0 99999))))=!ki b:=by
 unfold ki
 have :(b.fr != b.to)=!(b.fr==b.to):=rfl
 rw[this]
 cases aM b.fr 0 5<;>cases aM b.to 0 5<;>cases (b.fr==b.to)<;>cases cz b.ps<;>cases aM b.ta 0 99999<;>rfl
noncomputable def P40:PSpec:=p1 n5 (fun _=>True) (fun b=>vInt (qD b)) true
noncomputable def S40:Spec:=P40.toSpec
attribute [go_sem] P40 S40
set_option maxHeartbeats 4000000 in
theorem PK:aR Tryd.prog 47 P40:=by
 refine w1 (rs:=[.tmp 2]) Tryd.func47 Tryd.ntmps47 (by rfl) (by kernel_rfl) (by decide) (fun _ _=>rfl) ⟨_,rfl,lb rfl,fun b hp hw=>?_⟩
 have hP:=bc
 simp only[n5]at hw |-
 have hΓ:=Mq
 repeat refine sq ?_
 refine rs hΓ [1] [[1,0]] ?_
 refine bq (dd [1,0] (bW b) rfl [1] [[1,0]] ?_ rfl) ?_
 ·simp only[go_sem]
 simp only[go_sem]
 repeat refine sq ?_
 refine rs hΓ [31] [] ?_
 repeat refine sq ?_
 refine ax rfl rfl (fun hb=>?_) (fun hb=>?_)
 ·repeat refine sq ?_
  have aN:ki b=false:=by simpa[<-Bool.or_assoc,hb]using(Lm b).symm
  repeat refine sq ?_
  refine rs hΓ [2] [] ?_
  refine av ?_
  simp only[go_sem]
  first | (unfold qD;rw[aN];rfl) | (unfold qD;rw[bk];rfl)
 ·repeat refine sq ?_
  have bk:ki b=true:=by simpa[<-Bool.or_assoc,hb]using(Lm b).symm
  refine aC ?_
  repeat refine sq ?_
  refine rs hΓ [2] [] ?_
  refine av ?_
  simp only[go_sem]
  first | (unfold qD;rw[aN];rfl) | (unfold qD;rw[bk];rfl)
theorem k40:ak Tryd.prog 47 S40:=PK.sound
def dH(l:List UInt8):ByteArray:=⟨l.toArray⟩
theorem mq(a b:List UInt8):dH a++dH b=dH (a++b):=by
 apply ByteArray.ext
 simp[dH]
theorem qX(x:UInt8):(⟨[x].toArray⟩:ByteArray)=dH [x]:=rfl
theorem nM(l:List UInt8):(dH l).size=l.length:=by
 show l.toArray.size=_
 rw[List.size_toArray]
@[go_sem] theorem un3:(Tryd.prog.underlying 3).isSome=true:=by kernel_rfl
@[go_sem] theorem un5:(Tryd.prog.underlying 5).isSome=true:=by kernel_rfl
@[go_sem] theorem adB:(if (#[]:Array UInt8).size<=maxLen then D.v (.str ⟨#[]⟩)else D.any)=D.v (.str (dH [])):=by
  rw[if_pos (by unfold maxLen;decide)];rfl
theorem Rr(w:ByteArray)(l:List Int):dr w l=dH (nZ w l):=rfl
theorem AQ{n:Int}(h:0<=n):Lib.itoa n=Lib.decDigits n.toNat:=by
 unfold Lib.itoa
 rw[if_neg (by omega)]
theorem Kg{m:Nat}(h:9<m):Lib.decDigits m=Lib.decDigits (m / 10)++[UInt8.ofNat (48+m % 10)]:=by
 rw[Lib.decDigits,dif_neg (by omega)]
theorem WR(m:Nat)(hm:m<=1000000):(m:Int).tmod 10=((m % 10:Nat):Int)/\(m:Int).tdiv 10=((m / 10:Nat):Int)/\IntKind.i64.wrap (48+((m % 10:Nat):Int))=((48+m % 10:Nat):Int)/\
 IntKind.u8.wrap ((48+m % 10:Nat):Int)=((48+m % 10:Nat):Int)/\IntKind.i64.wrap ((m / 10:Nat):Int)=((m / 10:Nat):Int):=by
 refine⟨rfl,rfl,?_,?_,?_⟩
 ·rw[wrap_i64 (by omega) (by omega)];rfl
 ·have h1:48+m % 10<58:=by omega
  generalize 48+m % 10=k at h1
  simp only[IntKind.wrap,IntKind.signed,IntKind.bits]
  first | omega | (simp;omega)
 ·rw[wrap_i64 (by omega) (by omega)]
theorem qR(k:Nat):o4 (.int .u8 (k:Int))=UInt8.ofNat k:=rfl
theorem TT{k:Nat}(h:k<256):pD (.int .u8 (k:Int))=true:=by
 unfold pD
 simp
 omega
noncomputable def P125:PSpec:=p1 iI (fun n=>0<=n/\n<=1000000) (fun n=>.str (dH (Lib.itoa n))) true
noncomputable def S125:Spec:=P125.toSpec
attribute [go_sem] P125 S125
set_option maxHeartbeats 4000000 in
theorem PX:aR Tryd.prog 106 P125:=by
 refine w1 (rs:=[.tmp 2]) Tryd.func106 Tryd.ntmps106 (by rfl) (by kernel_rfl) (by decide) (fun _ _=>rfl) ⟨_,rfl,lb rfl,fun n hp hw=>?_⟩
 have hP:=bc
 simp only[iI]at hw |-
 have hΓ:=@ig Tryd.prog
 obtain⟨ID,IC⟩:=hp
 obtain⟨N,rfl⟩:∃ N:Nat,n=N:=⟨n.toNat,by omega⟩
 have hNl:(Lib.decDigits N).length<=21:=by
  have :=Lib.itoa_length_le (N:Int) (by omega) (by omega)
  rwa [AQ (by omega),Int.toNat_natCast]at this
 repeat refine sq ?_
 refine rs hΓ [0] [] ?_
 repeat refine sq ?_
 refine rs hΓ [0,3] [] ?_
 repeat refine sq ?_
 refine aJ ?_
 repeat refine sq ?_
 refine bR (fun s:Nat×List UInt8=>[(0,⟨true,.v (vInt s.1)⟩),(3,⟨true,.v (.str (dH s.2))⟩)]) (fun s=>[]) (fun s=>s.1<=N/\Lib.decDigits N=Lib.decDigits s.1++s.2) (fun s=>s.1) (N,[]) ?_ ?_ ?_ ?_
 ·exact⟨Nat.le_refl _,by simp⟩
 ·rfl
 ·rfl
 rintro⟨m,acc⟩ ⟨hi,hR⟩
 simp only[go_sem]
 replace hi:m<=N:=hi
 replace hR:Lib.decDigits N=Lib.decDigits m++acc:=hR
 have hal:acc.length<=21:=by
  have :=congrArg List.length hR
  rw[List.length_append]at this
  omega
 obtain⟨d1,d2,d3,d4,d5⟩:=WR m (by omega)
 have qf:=TT (k:=48+m % 10) (by omega)
 repeat refine sq ?_
 refine rs hΓ [0,3,5] [] ?_
 repeat refine sq ?_
 refine ax rfl rfl (fun hb=>?_) (fun hb=>?_)
 ·have I2:9<m:=by
   have :(m:Int)>9:=by simpa using hb
   omega
  repeat refine sq ?_
  refine aC ?_
  repeat refine sq ?_
  refine aJ ?_
  repeat refine sq ?_
  refine rx hΓ [0,3] [] (fun K' hK=>by simp only[go_sem,d1,d3,d4,qf,qR,qX,mq];(repeat (refine⟨by first | (simp only[nM,maxLen,List.length_cons,List.length_nil];omega) | exact ob,?_⟩));exact hK _ (by simp only[go_sem,d1,d3,d4,qf,qR,qX,mq]) (by simp only[go_sem,d1,d3,d4,qf,qR,qX,mq]<;>rfl)) ?_
  repeat refine sq ?_
  refine aQ hΓ fun K' hK=>?_
  simp only[go_sem,d2,d5]
  repeat (refine⟨ob,?_⟩)
  refine hK _ ?_
  clear K' hK
  simp only[go_sem]
  refine⟨(m / 10,UInt8.ofNat (48+m % 10)::acc),⟨by show m / 10<=N;omega,?_⟩,by show m / 10<m;omega,?_⟩
  ·rw[hR,Kg I2,List.append_assoc];rfl
  refine bd [0,3] [] ?_ ?_
  ·simp only[go_sem]
  ·simp only[go_sem]
 ·have hle:m<=9:=by
   have :¬ (m:Int)>9:=by simpa using hb
   omega
  have US:m % 10=m:=by omega
  rw[US]at d3 d4 qf
  have A4:IntKind.i64.wrap (48+(m:Int))=((48+m:Nat):Int):=d3
  repeat refine sq ?_
  refine bK ?_
  simp only[go_sem]
  refine kp [0,3] [] ?_
  repeat refine sq ?_
  refine rx hΓ [2] [] (fun K' hK=>by simp only[go_sem,A4,d4,qf,qR,qX,mq];(repeat (refine⟨by first | (simp only[nM,maxLen,List.length_cons,List.length_nil];omega) | exact ob,?_⟩));exact hK _ (by simp only[go_sem,A4,d4,qf,qR,qX,mq]) (by simp only[go_sem,A4,d4,qf,qR,qX,mq]<;>rfl)) ?_
  refine av ?_
  simp only[go_sem]
  have :Lib.decDigits m=[UInt8.ofNat (48+m)]:=Lib.decDigits_one (by omega)
  rw[AQ (by omega),Int.toNat_natCast,hR,this]
  all_goals first | rfl | (simp;done)
theorem TC:ak Tryd.prog 106 S125:=PX.sound
@[go_sem] theorem ady:(if (#[32]:Array UInt8).size<=maxLen then D.v (.str ⟨#[32]⟩)else D.any)=D.v (.str (dH [32])):=by
  rw[if_pos (by unfold maxLen;decide)];rfl
@[go_sem] theorem adA:(if (#[10]:Array UInt8).size<=maxLen then D.v (.str ⟨#[10]⟩)else D.any)=D.v (.str (dH [10])):=by
  rw[if_pos (by unfold maxLen;decide)];rfl
def bO(n:Int):Prop:=0<=n/\n<=1000000
theorem py{n:Int}(h:bO n):pI n:=⟨by have:=h.1;omega,by have:=h.2;omega⟩
theorem TO{n:Int}(h:bO n):(Lib.itoa n).length<=21:=Lib.itoa_length_le n (py h).1 (py h).2
theorem iz{α:Type}{l:List α}{k:Nat}(h:k<l.length)(z:α):l.getD k z=l[k]:=by
 simp[List.getD,List.getElem?_eq_getElem h]
def kM(w:ByteArray)(l:List Int):Nat->ByteArray
 | 0=>w
 |i+1=>kM w l i++dH (32::Lib.itoa (l.getD i 0))
theorem zO(w:ByteArray)(l:List Int):∀ k,k<=l.length->kM w l k=dH (iY w l k)
 | 0,_=>by
   unfold iY
   rw[List.take_zero,List.flatMap_nil,List.append_nil]
   rfl
 |k+1,h=>by
  rw[kM,zO w l k (by omega),Ar w l (by omega),mq,iz (show k<l.length by omega)]
theorem zN{w:ByteArray}{l:List Int}(hl:∀ n∈l,bO n){k:Nat}(h:k<=l.length):(kM w l k).size<=w.size+22*k:=by
 rw[zO w l k h,nM]
 exact wM w l (fun n hn=>py (hl n hn)) k h
theorem Fq{w:ByteArray}{l:List Int}:kM w l l.length++dH [10]=dr w l:=by
 rw[zO w l _ (Nat.le_refl _),mq]
 rfl
noncomputable def K6:List (Nat×Spec):=[(106,S125)]
theorem YI:∀ f s,tbl K6 f=some s->ak Tryd.prog f s:=tc TC<|tn
attribute [go_sem] K6
noncomputable def P111:PSpec:=p2 rR ei (fun w l=>w.size<=1000/\l.length<=1000000/\∀ n∈l,bO n) (fun w l=>.str (dr w l)) true
noncomputable def S111:Spec:=P111.toSpec
attribute [go_sem] P111 S111
set_option maxHeartbeats 4000000 in
theorem P2:aR Tryd.prog 101 P111:=by
 refine w2 (rs:=[.tmp 4]) Tryd.func101 Tryd.ntmps101 (by rfl) (by kernel_rfl) (by decide) (fun _ _ _=>rfl) ⟨_,rfl,lb rfl,fun w l hp hw=>?_⟩
 have hP:=bc
 simp only[ei,rR]at hw |-
 have hΓ:=YI
 obtain⟨IC,pT,Bo⟩:=hp
 have hl:l.length<=maxLen:=by unfold maxLen;omega
 repeat refine sq ?_
 refine rs hΓ [0,1] [] ?_
 repeat refine sq ?_
 refine rs hΓ [0,1,5] [] ?_
 repeat refine sq ?_
 refine aJ ?_
 repeat refine sq ?_
 refine bR (fun s:Nat=>[(5,⟨true,.v (vInt s)⟩),(0,⟨true,.v (.str (kM w l s))⟩)]) (fun s=>[]) (fun s=>s<=l.length) (fun s=>l.length-s) 0 ?_ ?_ ?_ ?_
 ·exact Nat.zero_le _
 ·rfl
 ·rfl
 rintro i hi
 simp only[go_sem]
 repeat refine sq ?_
 refine rs hΓ [0,1,5,9] [] ?_
 repeat refine sq ?_
 refine ax rfl rfl (fun hb=>?_) (fun hb=>?_)
 ·have ae:i<l.length:=by simpa using hb
  have ai:(i:Int)<l.length:=by omega
  clear hb
  have hn:=Bo _ (List.getElem_mem ae)
  have IT:=hn.1
  have hn1:=hn.2
  have bw:=TO hn
  have rS:=zN (w:=w) Bo (Nat.le_of_lt ae)
  have gT:(dH [32]).size+(dH (Lib.itoa l[i])).size<=maxLen:=by rw[nM,nM];unfold maxLen;simp only[List.length_cons,List.length_nil];omega
  have mQ:(kM w l i).size+(dH (32::Lib.itoa l[i])).size<=maxLen:=by rw[nM];unfold maxLen;simp only[List.length_cons];omega
  have he:kM w l i++dH (32::Lib.itoa l[i])=kM w l (i+1):=by rw[kM,iz ae]
  repeat refine sq ?_
  refine aC ?_
  repeat refine sq ?_
  refine aJ ?_
  repeat refine sq ?_
  refine aQ hΓ fun K' hK=>?_
  simp only[go_sem,Int.toNat_natCast,Int.natCast_nonneg,ai,aH ae,aH ae,Int.toNat_natCast,Int.natCast_nonneg,ai,gT,mQ,mq,he]
  repeat (refine⟨ob,?_⟩)
  refine hK _ ?_
  clear K' hK
  simp only[go_sem]
  refine kp [0,1,5] [] ?_
  repeat refine sq ?_
  refine aQ hΓ fun K' hK=>?_
  simp only[go_sem,Int.toNat_natCast,Int.natCast_nonneg,ai,aH ae]
  repeat (refine⟨ob,?_⟩)
  refine hK _ ?_
  clear K' hK
  simp only[go_sem]
  refine⟨i+1,ae,by(show l.length-(i+1)<l.length-i;omega),?_⟩
  refine bd [0,1,5] [] ?_ ?_
  ·simp only[go_sem,aA ae hl,Int.natCast_add,Int.natCast_one]
  ·simp only[go_sem,aA ae hl,Int.natCast_add,Int.natCast_one]
 ·have aV:i=l.length:=by
   have :¬ (i:Int)<l.length:=by simpa using hb
   omega
  clear hb
  subst aV
  have rS:=zN (w:=w) Bo (Nat.le_refl _)
  have pL:(kM w l l.length).size+(dH [10]).size<=maxLen:=by rw[nM];unfold maxLen;simp only[List.length_cons,List.length_nil];omega
  repeat refine sq ?_
  refine bK ?_
  simp only[go_sem]
  refine kp [0] [] ?_
  repeat refine sq ?_
  refine rx hΓ [4] [] (fun K' hK=>by simp only[go_sem,pL,Fq];(repeat (refine⟨ob,?_⟩));exact hK _ (by simp only[go_sem]) (by simp only[go_sem]<;>rfl)) ?_
  refine av ?_
  simp only[go_sem]
  skip
theorem TF:ak Tryd.prog 101 S111:=P2.sound
theorem Jx{α:Type}{l:List α}{x:α}(h:x∈l)(z:α):∃ k,k<l.length/\l.getD k z=x:=by
 obtain⟨k,hk,rfl⟩:=List.mem_iff_getElem.1 h
 exact⟨k,hk,iz hk z⟩
structure ea (s:Stk):Prop where
 hol:s.ho.length<=40
 ho:∀ n∈s.ho,bO n
 unl:∀ i,i<6->(s.un.get i).length<=40
 un:∀ i,i<6->∀ p∈s.un.get i,bO p.no/\bO p.pa
 se:∀ i,i<6->bO (s.se.get i)
 ta:∀ i,i<6->bO (s.ta.get i)
theorem pG{n lo hi:Int}(h:aM n lo hi=true)(h0:0<=lo)(h1:hi<=1000000):bO n:=by
 obtain⟨a,b⟩:=dS.1 h
 exact⟨by omega,by omega⟩
theorem ry{l:List Int}(h:ft l=true):l.length<=40/\∀ n∈l,bO n:=by
 unfold ft at h
 rw[Bool.and_eq_true,decide_eq_true_eq,gx]at h
 refine⟨h.2,fun n hn=>?_⟩
 obtain⟨k,hk,rfl⟩:=Jx hn 0
 have :=h.1 k hk
 unfold jC at this
 rw[Bool.and_eq_true]at this
 exact pG this.1 (by omega) (by omega)
theorem FB{l:List Par}(h:cz l=true):l.length<=40/\∀ p∈l,bO p.no/\bO p.pa:=by
 unfold cz at h
 rw[Bool.and_eq_true,decide_eq_true_eq,gx]at h
 refine⟨h.2,fun n hn=>?_⟩
 obtain⟨k,hk,rfl⟩:=Jx hn default
 have :=h.1 k hk
 unfold fq at this
 rw[Bool.and_eq_true,Bool.and_eq_true]at this
 exact⟨pG this.1.1 (by omega) (by omega),pG this.1.2 (by omega) (by omega)⟩
theorem rD{me:Int}{s:Stk}(h:cf me s=true):ea s:=by
 unfold cf at h
 simp only[Bool.and_eq_true]at h
 obtain⟨⟨⟨⟨⟨h0,h1⟩,h2⟩,h3⟩,h4⟩,h5⟩:=h
 have hA:=gx.1 h5
 have hB:∀ i,i<6->aM (s.se.get i) 0 99999=true/\aM (s.ta.get i) 0 99999=true/\cz (s.un.get i)=true:=by
  intro i hi
  have :=hA i hi
  unfold fj at this
  simp only[Bool.and_eq_true]at this
  exact⟨this.1.1.1,this.1.1.2,this.1.2⟩
 exact⟨(ry h1).1,(ry h1).2,fun i hi=>(FB (hB i hi).2.2).1,fun i hi=>(FB (hB i hi).2.2).2,fun i hi=>pG (hB i hi).1 (by omega) (by omega),fun i hi=>pG (hB i hi).2.1 (by omega) (by omega)⟩
theorem ads{s:Stk}(h:mr s=true):ea s:=by
 unfold mr at h
 rcases Classical.em (∃ m:Nat,m<6/\cf m s=true)with⟨m,hm,hb⟩ | hn
 ·exact rD hb
 ·exfalso
  rw[gx.2 fun j hj=>by
   cases hb:cf (j:Int) s with
   |false=>rfl
   |true=>exact absurd ⟨j,hj,hb⟩ hn]at h
  exact absurd h (by decide)
def o0:ByteArray:=dH [104,111,108,100,115]
def jv:ByteArray:=dH [117,110,100,101,114]
def j0:ByteArray:=dH [115,101,110,116]
def lD:ByteArray:=dH [116,97,107,101,110]
@[go_sem] theorem adC:(if (#[104,111,108,100,115]:Array UInt8).size<=maxLen then D.v (.str ⟨#[104,111,108,100,115]⟩)else D.any)=D.v (.str o0):=by
  rw[if_pos (by unfold maxLen;decide)];rfl
@[go_sem] theorem adw:(if (#[117,110,100,101,114]:Array UInt8).size<=maxLen then D.v (.str ⟨#[117,110,100,101,114]⟩)else D.any)=D.v (.str jv):=by
  rw[if_pos (by unfold maxLen;decide)];rfl
@[go_sem] theorem adz:(if (#[115,101,110,116]:Array UInt8).size<=maxLen then D.v (.str ⟨#[115,101,110,116]⟩)else D.any)=D.v (.str j0):=by
  rw[if_pos (by unfold maxLen;decide)];rfl
@[go_sem] theorem adx:(if (#[116,97,107,101,110]:Array UInt8).size<=maxLen then D.v (.str ⟨#[116,97,107,101,110]⟩)else D.any)=D.v (.str lD):=by
  rw[if_pos (by unfold maxLen;decide)];rfl
def fP(a:ByteArray)(i:Nat)(l:List Par):Nat->ByteArray
 | 0=>a
 |j+1=>fP a i l j++dr jv [(i:Int),(l.getD j default).no,(l.getD j default).pa]
def dZ(s:Stk):Nat->ByteArray
 | 0=>dr o0 s.ho
 |i+1=>fP (dZ s i) i (s.un.get i) (s.un.get i).length
theorem wk(s:Stk)(i:Nat):fP (dZ s i) i (s.un.get i) (s.un.get i).length=dZ s (i+1):=rfl
def cU(s:Stk):ByteArray:=dZ s 6++dr j0 (s.se.L id)++dr lD (s.ta.L id)
theorem wL{w:ByteArray}{l:List Int}(h:∀ n∈l,bO n):(dr w l).size<=w.size+22*l.length+1:=by
 rw[<-Fq,ByteArray.size_append,nM]
 have :=zN (w:=w) h (Nat.le_refl _)
 simp only[List.length_cons,List.length_nil]
 omega
theorem Q0{i:Nat}(h:i<6):bO (i:Int):=⟨by omega,by omega⟩
theorem wx{i:Nat}(hi:i<6){p:Par}(h:bO p.no/\bO p.pa):∀ n∈[(i:Int),p.no,p.pa],bO n:=by
 intro n hn
 simp only[List.mem_cons,List.not_mem_nil,or_false]at hn
 rcases hn with rfl | rfl | rfl
 ·exact Q0 hi
 ·exact h.1
 ·exact h.2
theorem yW{i:Nat}(hi:i<6){p:Par}(h:bO p.no/\bO p.pa):(dr jv [(i:Int),p.no,p.pa]).size<=72:=by
 have :=wL (w:=jv) (wx hi h)
 have hw:jv.size=5:=rfl
 simp only[List.length_cons,List.length_nil]at this
 omega
theorem vF{a:ByteArray}{i:Nat}(hi:i<6){l:List Par}(h:∀ p∈l,bO p.no/\bO p.pa):∀ k,k<=l.length->(fP a i l k).size<=a.size+72*k
 | 0,_=>by show a.size<=_;omega
 |k+1,hk=>by
  have h1:=vF (a:=a) hi h k (by omega)
  have h2:=yW hi (h _ (by rw[iz (show k<l.length by omega) default];exact List.getElem_mem (by omega):l.getD k default∈l))
  show (fP a i l k++dr jv [(i:Int),(l.getD k default).no,(l.getD k default).pa]).size<=_
  rw[ByteArray.size_append]
  omega
theorem rA{s:Stk}(hs:ea s):∀ i,i<=6->(dZ s i).size<=886+2880*i
 | 0,_=>by
   have h1:=wL (w:=o0) hs.ho
   have h2:=hs.hol
   have hw:o0.size=5:=rfl
   show (dr o0 s.ho).size<=_
   omega
 |i+1,hi=>by
  have h0:=rA hs i (by omega)
  have h1:=vF (a:=dZ s i) (show i<6 by omega) (hs.un i (by omega)) _ (Nat.le_refl _)
  have h2:=hs.unl i (by omega)
  show (fP (dZ s i) i (s.un.get i) (s.un.get i).length).size<=_
  omega
theorem nN{s:bb Int}(h:∀ i,i<6->bO (s.get i)):∀ n∈s.L id,bO n:=by
 intro n hn
 simp only[bb.L,List.mem_cons,List.not_mem_nil,or_false,id]at hn
 rcases hn with rfl | rfl | rfl | rfl | rfl | rfl
 ·exact h 0 (by omega)
 ·exact h 1 (by omega)
 ·exact h 2 (by omega)
 ·exact h 3 (by omega)
 ·exact h 4 (by omega)
 ·exact h 5 (by omega)
theorem zq{s:Stk}(hs:ea s):(dr j0 (s.se.L id)).size<=137:=by
 have :=wL (w:=j0) (nN hs.se)
 have hw:j0.size=4:=rfl
 rw[bb.L_len]at this
 omega
theorem y0{s:Stk}(hs:ea s):(dr lD (s.ta.L id)).size<=138:=by
 have :=wL (w:=lD) (nN hs.ta)
 have hw:lD.size=5:=rfl
 rw[bb.L_len]at this
 omega
theorem Ej{s:Stk}(hs:ea s):(cU s).size<=20000:=by
 unfold cU
 rw[ByteArray.size_append,ByteArray.size_append]
 have h1:=rA hs 6 (by omega)
 have h2:=zq hs
 have h3:=y0 hs
 omega
noncomputable def K7:List (Nat×Spec):=[(79,S110),(101,S111)]
theorem Mm:∀ f s,tbl K7 f=some s->ak Tryd.prog f s:=tc TG<|tc TF<|tn
attribute [go_sem] K7
noncomputable def P91:PSpec:=p1 gA (fun s=>ea s) (fun s=>.str (cU s)) true
noncomputable def S91:Spec:=P91.toSpec
attribute [go_sem] P91 S91
set_option maxHeartbeats 4000000 in
theorem EU:aR Tryd.prog 63 P91:=by
 refine w1 (rs:=[.tmp 2]) Tryd.func63 Tryd.ntmps63 (by rfl) (by kernel_rfl) (by decide) (fun _ _=>rfl) ⟨_,rfl,lb rfl,fun s hp hw=>?_⟩
 have hP:=bc
 simp only[gA]at hw |-
 have hΓ:=Mm
 have hs:ea s:=hp
 have c1:o0.size<=1000/\s.ho.length<=1000000/\∀ n∈s.ho,pI n:=⟨by decide,by have:=hs.hol;omega,fun n hn=>py (hs.ho n hn)⟩
 repeat refine sq ?_
 refine rs hΓ [1] [[1,0]] ?_
 refine bq (dd [1,0] (aB s) rfl [1] [[1,0]] ?_ rfl) ?_
 ·simp only[go_sem]
 simp only[go_sem]
 repeat refine sq ?_
 refine rx hΓ [1,3] [[1,0]] (fun K' hK=>by simp only[go_sem];(repeat (refine⟨by first | exact c1 | exact ob,?_⟩));exact hK _ (by simp only[go_sem]) (by simp only[go_sem]<;>rfl)) ?_
 repeat refine sq ?_
 refine rs hΓ [1,3,12,13] [[1,0]] ?_
 repeat refine sq ?_
 refine aJ ?_
 repeat refine sq ?_
 refine bR (fun z:Nat=>[(13,⟨true,.v (vInt z)⟩),(3,⟨true,.v (.str (dZ s z))⟩)]) (fun z=>[]) (fun z=>z<=6) (fun z=>6-z) 0 ?_ ?_ ?_ ?_
 ·exact Nat.zero_le _
 ·rfl
 ·rfl
 rintro i hi
 simp only[go_sem]
 repeat refine sq ?_
 refine rs hΓ [1,3,12,13,14] [[1,0]] ?_
 repeat refine sq ?_
 refine ax rfl rfl (fun hb=>?_) (fun hb=>?_)
 ·have ae:i<6:=by have hq:(i:Int)<6:=(by simpa using hb);omega
  have ai:(i:Int)<6:=by omega
  clear hb
  repeat refine sq ?_
  refine aC ?_
  repeat refine sq ?_
  refine aJ ?_
  repeat refine sq ?_
  refine rx hΓ [1,3,4,5,12,13] [[1,0]] (fun K' hK=>by simp only[go_sem,Int.toNat_natCast,Int.natCast_nonneg,ai,bb.L_get s.un rowP default ae,Int.toNat_natCast,Int.natCast_nonneg,ai];(repeat (refine⟨ob,?_⟩));exact hK _ (by simp only[go_sem]) (by simp only[go_sem]<;>rfl)) ?_
  repeat refine sq ?_
  refine rx hΓ [1,3,4,12,13,17,18,19] [[1,0]] (fun K' hK=>by simp only[go_sem,Int.toNat_natCast,Int.natCast_nonneg,ai];(repeat (refine⟨ob,?_⟩));exact hK _ (by simp only[go_sem]) (by simp only[go_sem]<;>rfl)) ?_
  repeat refine sq ?_
  refine aJ ?_
  repeat refine sq ?_
  refine bR (fun z:Nat=>[(19,⟨true,.v (vInt z)⟩),(3,⟨true,.v (.str (fP (dZ s i) i (s.un.get i) z))⟩)]) (fun z=>[]) (fun z=>z<=(s.un.get i).length) (fun z=>(s.un.get i).length-z) 0 ?_ ?_ ?_ ?_
  ·exact Nat.zero_le _
  ·rfl
  ·rfl
  rintro i1 hi
  simp only[go_sem]
  repeat refine sq ?_
  refine rx hΓ [1,3,4,12,13,17,18,19,20] [[1,0]] (fun K' hK=>by simp only[go_sem,Int.toNat_natCast,Int.natCast_nonneg,ai];(repeat (refine⟨ob,?_⟩));exact hK _ (by simp only[go_sem]) (by simp only[go_sem]<;>rfl)) ?_
  repeat refine sq ?_
  refine ax rfl rfl (fun hb=>?_) (fun hb=>?_)
  ·have a8:i1<(s.un.get i).length:=by simpa using hb
   have bT:(i1:Int)<(s.un.get i).length:=by omega
   clear hb
   have hq:=hs.un i ae _ (List.getElem_mem a8)
   have c8:jv.size<=1000/\[(i:Int),(s.un.get i)[i1].no,(s.un.get i)[i1].pa].length<=1000000/\∀ n∈[(i:Int),(s.un.get i)[i1].no,(s.un.get i)[i1].pa],pI n:=⟨by decide,by show 3<=1000000;omega,fun n hn=>py (wx ae hq n hn)⟩
   have gT:=yW ae hq
   have mQ:=vF (a:=dZ s i) ae (hs.un i ae) i1 (Nat.le_of_lt a8)
   have rS:=rA hs i (Nat.le_of_lt ae)
   have pL:=hs.unl i ae
   have hz:(fP (dZ s i) i (s.un.get i) i1).size+(dr jv [(i:Int),(s.un.get i)[i1].no,(s.un.get i)[i1].pa]).size<=maxLen:=by unfold maxLen;omega
   have he:fP (dZ s i) i (s.un.get i) i1++dr jv [(i:Int),(s.un.get i)[i1].no,(s.un.get i)[i1].pa]=fP (dZ s i) i (s.un.get i) (i1+1):=by rw[fP,iz a8]
   repeat refine sq ?_
   refine aC ?_
   repeat refine sq ?_
   refine aJ ?_
   repeat refine sq ?_
   refine rx hΓ [1,3,4,7,12,13,17,18,19] [[1,0],[7,0]] (fun K' hK=>by simp only[go_sem,Int.toNat_natCast,Int.natCast_nonneg,ai,Int.toNat_natCast,Int.natCast_nonneg,bT,aH a8];(repeat (refine⟨ob,?_⟩));exact hK _ (by simp only[go_sem]) (by simp only[go_sem]<;>rfl)) ?_
   repeat refine sq ?_
   refine aQ hΓ fun K' hK=>?_
   simp only[go_sem,Int.toNat_natCast,Int.natCast_nonneg,ai,Int.toNat_natCast,Int.natCast_nonneg,bT,aH a8,hz,he]
   repeat (refine⟨by first | exact c8 | exact ob,?_⟩)
   refine hK _ ?_
   clear K' hK
   simp only[go_sem]
   refine kp [1,3,4,12,13,17,18,19] [[1,0]] ?_
   repeat refine sq ?_
   refine aQ hΓ fun K' hK=>?_
   simp only[go_sem,Int.toNat_natCast,Int.natCast_nonneg,ai,Int.toNat_natCast,Int.natCast_nonneg,bT,aH a8]
   repeat (refine⟨ob,?_⟩)
   refine hK _ ?_
   clear K' hK
   simp only[go_sem]
   refine⟨i1+1,a8,by(show (s.un.get i).length-(i1+1)<(s.un.get i).length-i1;omega),?_⟩
   refine bd [1,3,4,12,13,17,18,19] [[1,0]] ?_ ?_
   ·simp only[go_sem,aA a8 (qN hw ae),Int.natCast_add,Int.natCast_one]
   ·simp only[go_sem,aA a8 (qN hw ae),Int.natCast_add,Int.natCast_one]
  ·have kU:i1=(s.un.get i).length:=by
    have :¬ (i1:Int)<(s.un.get i).length:=by simpa using hb
    omega
   clear hb
   subst kU
   repeat refine sq ?_
   refine bK ?_
   simp only[go_sem]
   refine kp [1,3,12,13] [[1,0]] ?_
   repeat refine sq ?_
   refine aQ hΓ fun K' hK=>?_
   simp only[go_sem,Int.toNat_natCast,Int.natCast_nonneg,ai]
   repeat (refine⟨ob,?_⟩)
   refine hK _ ?_
   clear K' hK
   simp only[go_sem]
   refine⟨i+1,ae,by(show 6-(i+1)<6-i;omega),?_⟩
   refine bd [1,3,12,13] [[1,0]] ?_ ?_
   ·simp only[go_sem,aA ae (lb rfl:(6:Nat)<=maxLen),Int.natCast_add,Int.natCast_one,wk s i]
   ·simp only[go_sem,aA ae (lb rfl:(6:Nat)<=maxLen),Int.natCast_add,Int.natCast_one,wk s i]
 ·have aV:i=6:=by
   have :¬ (i:Int)<6:=by simpa using hb
   omega
  clear hb
  subst aV
  have gT:=rA hs 6 (Nat.le_refl _)
  have mQ:=zq hs
  have rS:=y0 hs
  have c2:j0.size<=1000/\(s.se.L id).length<=1000000/\∀ n∈s.se.L id,pI n:=⟨by decide,by show 6<=1000000;omega,fun n hn=>py (nN hs.se n hn)⟩
  have c3:lD.size<=1000/\(s.ta.L id).length<=1000000/\∀ n∈s.ta.L id,pI n:=⟨by decide,by show 6<=1000000;omega,fun n hn=>py (nN hs.ta n hn)⟩
  have pL:(dZ s 6).size+(dr j0 (s.se.L id)).size<=maxLen:=by unfold maxLen;omega
  have A2:(dZ s 6++dr j0 (s.se.L id)).size+(dr lD (s.ta.L id)).size<=maxLen:=by rw[ByteArray.size_append];unfold maxLen;omega
  repeat refine sq ?_
  refine bK ?_
  simp only[go_sem]
  refine kp [1,3] [[1,0]] ?_
  repeat refine sq ?_
  refine dx hΓ hP [[],[],[1],[1,2],[0,1,2,3],[],[5],[1,2,3,5,6],[0,1,2,3,4,5,6,7],[0,1,2,3,4,5,6,7,8]] [2] [] (by kernel_rfl) (fun K' hK=>by simp only[go_sem,pL,A2];(repeat (refine⟨by first | exact c2 | exact c3 | exact ob,?_⟩));(first | refine⟨by rfl,?_⟩ | skip);exact hK _ (by simp only[go_sem]) (by simp only[go_sem]<;>rfl)) ?_
  refine av ?_
  simp only[go_sem]
  first | rfl
theorem Ti:ak Tryd.prog 63 S91:=EU.sound
def mu(x:bb Int)(z:Nat):List Int:=(x.L id).take z
theorem EH(x:bb Int){z:Nat}(h:z<=6):(mu x z).length=z:=by
 unfold mu
 rw[List.length_take,bb.L_len]
 omega
theorem vQ(x:bb Int){z:Nat}(h:z<6):mu x (z+1)=mu x z++[x.get z]:=by
 match z,h with
 | 0,_=>rfl
 | 1,_=>rfl
 | 2,_=>rfl
 | 3,_=>rfl
 | 4,_=>rfl
 | 5,_=>rfl
theorem Of(x:bb Int):mu x 6=x.L id:=rfl
noncomputable def P92:PSpec:=p1 gA (fun s=>ea s) (fun s=>.str (cU s)) true
noncomputable def S92:Spec:=P92.toSpec
attribute [go_sem] P92 S92
set_option maxHeartbeats 4000000 in
theorem O7:aR Tryd.prog 98 P92:=by
 refine w1 (rs:=[.tmp 2]) Tryd.func98 Tryd.ntmps98 (by rfl) (by kernel_rfl) (by decide) (fun _ _=>rfl) ⟨_,rfl,lb rfl,fun s hp hw=>?_⟩
 have hP:=bc
 simp only[gA]at hw |-
 have hΓ:=Mm
 have hs:ea s:=hp
 have c1:o0.size<=1000/\s.ho.length<=1000000/\∀ n∈s.ho,bO n:=⟨by decide,by have:=hs.hol;omega,hs.ho⟩
 have gT:=rA hs 6 (Nat.le_refl _)
 have mQ:=zq hs
 have rS:=y0 hs
 have c2:j0.size<=1000/\(s.se.L id).length<=1000000/\∀ n∈s.se.L id,bO n:=⟨by decide,by show 6<=1000000;omega,nN hs.se⟩
 have c3:lD.size<=1000/\(s.ta.L id).length<=1000000/\∀ n∈s.ta.L id,bO n:=⟨by decide,by show 6<=1000000;omega,nN hs.ta⟩
 have pL:(dZ s 6).size+(dr j0 (s.se.L id)).size<=maxLen:=by unfold maxLen;omega
 have A2:(dZ s 6++dr j0 (s.se.L id)).size+(dr lD (s.ta.L id)).size<=maxLen:=by rw[ByteArray.size_append];unfold maxLen;omega
 repeat refine sq ?_
 refine rs hΓ [1] [[1,0]] ?_
 refine bq (dd [1,0] (aB s) rfl [1] [[1,0]] ?_ rfl) ?_
 ·simp only[go_sem]
 simp only[go_sem]
 repeat refine sq ?_
 refine rx hΓ [1,3] [[1,0]] (fun K' hK=>by simp only[go_sem];(repeat (refine⟨by first | exact c1 | exact ob,?_⟩));exact hK _ (by simp only[go_sem]) (by simp only[go_sem]<;>rfl)) ?_
 repeat refine sq ?_
 refine rs hΓ [1,3,4] [[1,0]] ?_
 repeat refine sq ?_
 refine aJ ?_
 repeat refine sq ?_
 refine bR (fun z:Nat=>[(4,⟨true,.v (vInt z)⟩),(3,⟨true,.v (.str (dZ s z))⟩)]) (fun z=>[]) (fun z=>z<=6) (fun z=>6-z) 0 ?_ ?_ ?_ ?_
 ·exact Nat.zero_le _
 ·rfl
 ·rfl
 rintro i hi
 simp only[go_sem]
 repeat refine sq ?_
 refine rs hΓ [1,3,4,13] [[1,0]] ?_
 repeat refine sq ?_
 refine ax rfl rfl (fun hb=>?_) (fun hb=>?_)
 ·have ae:i<6:=by have hq:(i:Int)<6:=(by simpa using hb);omega
  have ai:(i:Int)<6:=by omega
  clear hb
  repeat refine sq ?_
  refine aC ?_
  repeat refine sq ?_
  refine aJ ?_
  repeat refine sq ?_
  refine rx hΓ [1,3,4,5] [[1,0]] (fun K' hK=>by simp only[go_sem,Int.toNat_natCast,Int.natCast_nonneg,ai];(repeat (refine⟨ob,?_⟩));exact hK _ (by simp only[go_sem]) (by simp only[go_sem]<;>rfl)) ?_
  repeat refine sq ?_
  refine aJ ?_
  repeat refine sq ?_
  refine bR (fun z:Nat=>[(5,⟨true,.v (vInt z)⟩),(3,⟨true,.v (.str (fP (dZ s i) i (s.un.get i) z))⟩)]) (fun z=>[]) (fun z=>z<=(s.un.get i).length) (fun z=>(s.un.get i).length-z) 0 ?_ ?_ ?_ ?_
  ·exact Nat.zero_le _
  ·rfl
  ·rfl
  rintro i1 hi
  simp only[go_sem]
  repeat refine sq ?_
  refine rx hΓ [1,3,4,5,22] [[1,0]] (fun K' hK=>by simp only[go_sem,Int.toNat_natCast,Int.natCast_nonneg,ai,dh s ae,Int.toNat_natCast,Int.natCast_nonneg,ai];(repeat (refine⟨ob,?_⟩));exact hK _ (by simp only[go_sem]) (by simp only[go_sem]<;>rfl)) ?_
  repeat refine sq ?_
  refine ax rfl rfl (fun hb=>?_) (fun hb=>?_)
  ·have a8:i1<(s.un.get i).length:=by simpa using hb
   have bT:(i1:Int)<(s.un.get i).length:=by omega
   clear hb
   have hq:=hs.un i ae _ (List.getElem_mem a8)
   have c8:jv.size<=1000/\[(i:Int),(s.un.get i)[i1].no,(s.un.get i)[i1].pa].length<=1000000/\∀ n∈[(i:Int),(s.un.get i)[i1].no,(s.un.get i)[i1].pa],bO n:=⟨by decide,by show 3<=1000000;omega,wx ae hq⟩
   have gT:=yW ae hq
   have mQ:=vF (a:=dZ s i) ae (hs.un i ae) i1 (Nat.le_of_lt a8)
   have rS:=rA hs i (Nat.le_of_lt ae)
   have pL:=hs.unl i ae
   have hz:(fP (dZ s i) i (s.un.get i) i1).size+(dr jv [(i:Int),(s.un.get i)[i1].no,(s.un.get i)[i1].pa]).size<=maxLen:=by unfold maxLen;omega
   have he:fP (dZ s i) i (s.un.get i) i1++dr jv [(i:Int),(s.un.get i)[i1].no,(s.un.get i)[i1].pa]=fP (dZ s i) i (s.un.get i) (i1+1):=by rw[fP,iz a8]
   repeat refine sq ?_
   refine aC ?_
   repeat refine sq ?_
   refine aJ ?_
   repeat refine sq ?_
   refine Xv hΓ hP [[],[],[],[],[2,3],[2,3,4],[],[2,3,4,5,6],[2,3,4,5,6,7],[2,3,4,5,6,7,8],[],[],[10,11],[10,11,12],[],[10,11,12,13,14],[10,11,12,13,14,15],[10,11,12,13,14,15,16],[1,2,3,4,5,6,7,8,9,10,11,12,13,14,15,16,17],[1,2,3,4,5,6,7,8,9,10,11,12,13,14,15,16,17,18],[0,1,2,3,4,5,6,7,8,9,10,11,12,13,14,15,16,17,18,19],[0,1,2,3,4,5,6,7,8,9,10,11,12,13,14,15,16,17,18,19,20]] (by kernel_rfl) fun K' hK=>?_
   simp only[go_sem,Int.toNat_natCast,Int.natCast_nonneg,ai,Int.toNat_natCast,Int.natCast_nonneg,bT,ai,aH a8,dh s ae,hz,he,dh s ae,Int.toNat_natCast,Int.natCast_nonneg,ai,bT,aH a8]
   repeat (refine⟨by first | exact c8 | exact ob,?_⟩)
   first | refine⟨by rfl,?_⟩ | skip
   refine hK _ ?_
   clear K' hK
   simp only[go_sem]
   refine kp [1,3,4,5] [[1,0]] ?_
   repeat refine sq ?_
   refine aQ hΓ fun K' hK=>?_
   simp only[go_sem,Int.toNat_natCast,Int.natCast_nonneg,ai,Int.toNat_natCast,Int.natCast_nonneg,bT,ai,aH a8,dh s ae]
   repeat (refine⟨ob,?_⟩)
   refine hK _ ?_
   clear K' hK
   simp only[go_sem]
   refine⟨i1+1,a8,by(show (s.un.get i).length-(i1+1)<(s.un.get i).length-i1;omega),?_⟩
   refine bd [1,3,4,5] [[1,0]] ?_ ?_
   ·simp only[go_sem,aA a8 (qN hw ae),Int.natCast_add,Int.natCast_one]
   ·simp only[go_sem,aA a8 (qN hw ae),Int.natCast_add,Int.natCast_one]
  ·have kU:i1=(s.un.get i).length:=by
    have :¬ (i1:Int)<(s.un.get i).length:=by simpa using hb
    omega
   clear hb
   subst kU
   repeat refine sq ?_
   refine bK ?_
   simp only[go_sem]
   refine kp [1,3,4] [[1,0]] ?_
   repeat refine sq ?_
   refine aQ hΓ fun K' hK=>?_
   simp only[go_sem,Int.toNat_natCast,Int.natCast_nonneg,ai]
   repeat (refine⟨ob,?_⟩)
   refine hK _ ?_
   clear K' hK
   simp only[go_sem]
   refine⟨i+1,ae,by(show 6-(i+1)<6-i;omega),?_⟩
   refine bd [1,3,4] [[1,0]] ?_ ?_
   ·simp only[go_sem,aA ae (lb rfl:(6:Nat)<=maxLen),Int.natCast_add,Int.natCast_one,wk s i]
   ·simp only[go_sem,aA ae (lb rfl:(6:Nat)<=maxLen),Int.natCast_add,Int.natCast_one,wk s i]
 ·have aV:i=6:=by
   have :¬ (i:Int)<6:=by simpa using hb
   omega
  clear hb
  subst aV
  repeat refine sq ?_
  refine bK ?_
  simp only[go_sem]
  refine kp [1,3] [[1,0]] ?_
  repeat refine sq ?_
  refine rs hΓ [1,3,6] [[1,0],[56,0]] ?_
  refine bq (oY 6 [56,0] 1 (by simp only[go_sem]) (by simp only[go_sem]) [1,3,6] [[1,0],[56,0]] ?_ rfl) ?_
  ·simp only[go_sem]
  simp only[go_sem]
  repeat refine sq ?_
  refine rs hΓ [1,3,6,7] [[1,0],[56,0],[63,0]] ?_
  refine bq (oY 7 [63,0] 1 (by simp only[go_sem]) (by simp only[go_sem]) [1,3,6,7] [[1,0],[56,0],[63,0]] ?_ rfl) ?_
  ·simp only[go_sem]
  simp only[go_sem]
  repeat refine sq ?_
  refine rs hΓ [1,3,6,7,8] [[1,0],[56,0],[63,0]] ?_
  repeat refine sq ?_
  refine aJ ?_
  repeat refine sq ?_
  refine bR (fun z:Nat=>[(8,⟨true,.v (vInt z)⟩),(6,⟨true,.msl [56,0] (mu s.se z).length⟩),(7,⟨true,.msl [63,0] (mu s.ta z).length⟩)]) (fun z=>[([56,0],.arr 1 ((mu s.se z).map vInt)),([63,0],.arr 1 ((mu s.ta z).map vInt))]) (fun z=>z<=6) (fun z=>6-z) 0 ?_ ?_ ?_ ?_
  ·exact Nat.zero_le _
  ·rfl
  ·rfl
  rintro i2 hi
  simp only[go_sem]
  repeat refine sq ?_
  refine rs hΓ [1,3,6,7,8,47] [[1,0],[56,0],[63,0]] ?_
  repeat refine sq ?_
  refine ax rfl rfl (fun hb=>?_) (fun hb=>?_)
  ·have bt:i2<6:=by have hq:(i2:Int)<6:=(by simpa using hb);omega
   have fe:(i2:Int)<6:=by omega
   clear hb
   have n7:=EH s.se (Nat.le_of_lt bt)
   have gB:=EH s.ta (Nat.le_of_lt bt)
   repeat refine sq ?_
   refine aC ?_
   repeat refine sq ?_
   refine aJ ?_
   repeat refine sq ?_
   refine rx hΓ [1,3,6,7,8] [[1,0],[56,0],[63,0]] (fun K' hK=>by simp only[go_sem,Int.toNat_natCast,Int.natCast_nonneg,fe,dI s bt,Int.toNat_natCast,Int.natCast_nonneg,fe];(repeat (refine⟨ob,?_⟩));exact hK _ (by simp only[go_sem]) (by simp only[go_sem]<;>rfl)) ?_
   repeat refine sq ?_
   refine aQ hΓ fun K' hK=>?_
   simp only[go_sem,Int.toNat_natCast,Int.natCast_nonneg,fe,dA s bt,Int.toNat_natCast,Int.natCast_nonneg,fe]
   repeat (refine⟨ob,?_⟩)
   refine hK _ ?_
   clear K' hK
   simp only[go_sem]
   refine kp [1,3,6,7,8] [[1,0],[56,0],[63,0]] ?_
   repeat refine sq ?_
   refine aQ hΓ fun K' hK=>?_
   simp only[go_sem,Int.toNat_natCast,Int.natCast_nonneg,fe]
   repeat (refine⟨ob,?_⟩)
   refine hK _ ?_
   clear K' hK
   simp only[go_sem]
   refine⟨i2+1,bt,by(show 6-(i2+1)<6-i2;omega),?_⟩
   refine bd [1,3,6,7,8] [[1,0],[56,0],[63,0]] ?_ ?_
   ·simp only[go_sem,aA bt (lb rfl:(6:Nat)<=maxLen),Int.natCast_add,Int.natCast_one,vQ s.se bt,vQ s.ta bt,List.map_append,List.length_append,List.map_cons,List.map_nil,List.length_cons,List.length_nil]
   ·simp only[go_sem,aA bt (lb rfl:(6:Nat)<=maxLen),Int.natCast_add,Int.natCast_one,vQ s.se bt,vQ s.ta bt,List.map_append,List.length_append,List.map_cons,List.map_nil,List.length_cons,List.length_nil]
  ·have uy:i2=6:=by
    have :¬ (i2:Int)<6:=by simpa using hb
    omega
   clear hb
   subst uy
   repeat refine sq ?_
   refine bK ?_
   simp only[go_sem]
   refine kp [3,6,7] [[56,0],[63,0]] ?_
   repeat refine sq ?_
   refine rx hΓ [2] [] (fun K' hK=>by simp only[go_sem,pL,A2,Of];(repeat (refine⟨by first | exact c2 | exact c3 | exact ob,?_⟩));exact hK _ (by simp only[go_sem]) (by simp only[go_sem]<;>rfl)) ?_
   refine av ?_
   simp only[go_sem]
   first | rfl
theorem Th:ak Tryd.prog 98 S92:=O7.sound
attribute [go_sem,simp] K5
def jT(b:ByteArray)(i:Nat):Nat:=(b.data.getD i 0).toNat
theorem XA(b:ByteArray)(i:Nat):jT b i<256:=(b.data.getD i 0).toNat_lt
theorem bytes_at{b:ByteArray}{i:Nat}(h:i<b.size):(iE b).getD i default=.int .u8 (jT b i:Nat):=by
 have h':i<b.data.toList.length:=by rw[Array.length_toList];exact h
 have h1:i<b.data.size:=h
 unfold iE
 rw[iz (by rw[List.length_map];exact h'),List.getElem_map,Array.getElem_toList]
 unfold jT ve
 have :b.data.getD i 0=b.data[i]:=by
  unfold Array.getD
  rw[dif_pos h1]
  rfl
 rw[this]
def gj(b:ByteArray)(n:Int):Nat->Int
 | 0=>n.tmod 1000003
 |i+1=>(257*gj b n i+jT b i+1).tmod 1000003
def hS(s:Stk)(n:Int):Int:=gj (cU s) n (cU s).size
theorem vJ{b:ByteArray}{n:Int}(hn:bO n):∀ i,0<=gj b n i/\gj b n i<1000003
 | 0=>by
   have :=hn.1
   exact⟨Int.tmod_nonneg _ this,Int.tmod_lt_of_pos _ (by omega)⟩
 |i+1=>by
  have h:=vJ (b:=b) hn i
  exact⟨Int.tmod_nonneg _ (by omega),Int.tmod_lt_of_pos _ (by omega)⟩
theorem Er{b:ByteArray}{n:Int}(hn:bO n)(i:Nat):IntKind.i64.wrap (257*gj b n i)=257*gj b n i/\IntKind.i64.wrap (jT b i:Nat)=(jT b i:Nat)/\
 IntKind.i64.wrap (257*gj b n i+(jT b i:Nat))=257*gj b n i+(jT b i:Nat)/\IntKind.i64.wrap (257*gj b n i+(jT b i:Nat)+1)=257*gj b n i+(jT b i:Nat)+1/\
 IntKind.i64.wrap (gj b n (i+1))=gj b n (i+1)/\(257*gj b n i+(jT b i:Nat)+1).tmod 1000003=gj b n (i+1):=by
 have h:=vJ (b:=b) hn i
 have h2:=vJ (b:=b) hn (i+1)
 have hb:=XA b i
 exact⟨wrap_i64 (by omega) (by omega),wrap_i64 (by omega) (by omega),wrap_i64 (by omega) (by omega),wrap_i64 (by omega) (by omega),wrap_i64 (by omega) (by omega),rfl⟩
noncomputable def K9:List (Nat×Spec):=[(63,S91),(98,S92)]
theorem Mb:∀ f s,tbl K9 f=some s->ak Tryd.prog f s:=tc Ti<|tc Th<|tn
attribute [go_sem] K9
noncomputable def P60:PSpec:=p2 gA iI (fun s n=>ea s/\bO n) (fun s n=>vInt (hS s n)) true
noncomputable def S60:Spec:=P60.toSpec
attribute [go_sem] P60 S60
set_option maxHeartbeats 4000000 in
theorem Pu:aR Tryd.prog 38 P60:=by
 refine w2 (rs:=[.tmp 4]) Tryd.func38 Tryd.ntmps38 (by rfl) (by kernel_rfl) (by decide) (fun _ _ _=>rfl) ⟨_,rfl,lb rfl,fun s n hp hw=>?_⟩
 have hP:=bc
 simp only[iI,gA]at hw |-
 have hΓ:=Mb
 obtain⟨hs,hn⟩:=hp
 have ht:=Ej hs
 have hl:(cU s).size<=maxLen:=by unfold maxLen;omega
 repeat refine sq ?_
 refine rs hΓ [1,2] [[2,0]] ?_
 refine bq (dd [2,0] (aB s) rfl [1,2] [[2,0]] ?_ rfl) ?_
 ·simp only[go_sem]
 simp only[go_sem]
 repeat refine sq ?_
 refine rs hΓ [2,5] [[2,0]] ?_
 repeat refine sq ?_
 refine rs hΓ [5,12,13,14] [] ?_
 repeat refine sq ?_
 refine aJ ?_
 repeat refine sq ?_
 refine bR (fun z:Nat=>[(14,⟨true,.v (vInt z)⟩),(5,⟨true,.v (vInt (gj (cU s) n z))⟩)]) (fun z=>[]) (fun z=>z<=(cU s).size) (fun z=>(cU s).size-z) 0 ?_ ?_ ?_ ?_
 ·exact Nat.zero_le _
 ·rfl
 ·rfl
 rintro i hi
 simp only[go_sem]
 repeat refine sq ?_
 refine rs hΓ [5,12,13,14,15] [] ?_
 repeat refine sq ?_
 refine ax rfl rfl (fun hb=>?_) (fun hb=>?_)
 ·have ae:i<(cU s).size:=by simpa using hb
  have ai:(i:Int)<(cU s).size:=by omega
  clear hb
  obtain⟨d1,d2,d3,d4,d5,d6⟩:=Er (b:=cU s) hn i
  have hb:=bytes_at ae
  repeat refine sq ?_
  refine aC ?_
  repeat refine sq ?_
  refine aJ ?_
  repeat refine sq ?_
  refine rx hΓ [5,7,12,13,14] [] (fun K' hK=>by simp only[go_sem,Int.toNat_natCast,Int.natCast_nonneg,ai,hb,Int.toNat_natCast,Int.natCast_nonneg,ai];(repeat (refine⟨ob,?_⟩));exact hK _ (by simp only[go_sem]) (by simp only[go_sem]<;>rfl)) ?_
  repeat refine sq ?_
  refine aQ hΓ fun K' hK=>?_
  simp only[go_sem,Int.toNat_natCast,Int.natCast_nonneg,ai,d1,d2,d3,d4,d5,d6]
  repeat (refine⟨ob,?_⟩)
  refine hK _ ?_
  clear K' hK
  simp only[go_sem]
  refine kp [5,12,13,14] [] ?_
  repeat refine sq ?_
  refine aQ hΓ fun K' hK=>?_
  simp only[go_sem,Int.toNat_natCast,Int.natCast_nonneg,ai]
  repeat (refine⟨ob,?_⟩)
  refine hK _ ?_
  clear K' hK
  simp only[go_sem]
  refine⟨i+1,ae,by(show (cU s).size-(i+1)<(cU s).size-i;omega),?_⟩
  refine bd [5,12,13,14] [] ?_ ?_
  ·simp only[go_sem,aA ae hl,Int.natCast_add,Int.natCast_one]
  ·simp only[go_sem,aA ae hl,Int.natCast_add,Int.natCast_one]
 ·have aV:i=(cU s).size:=by
   have :¬ (i:Int)<(cU s).size:=by simpa using hb
   omega
  clear hb
  subst aV
  repeat refine sq ?_
  refine bK ?_
  simp only[go_sem]
  refine kp [5] [] ?_
  repeat refine sq ?_
  refine rs hΓ [4] [] ?_
  refine av ?_
  simp only[go_sem]
  first | rfl
theorem wV:ak Tryd.prog 38 S60:=Pu.sound
noncomputable def P63:PSpec:=p2 gA iI (fun s n=>ea s/\bO n) (fun s n=>vInt (hS s n)) true
noncomputable def S63:Spec:=P63.toSpec
attribute [go_sem] P63 S63
set_option maxHeartbeats 4000000 in
theorem Pt:aR Tryd.prog 94 P63:=by
 refine w2 (rs:=[.tmp 4]) Tryd.func94 Tryd.ntmps94 (by rfl) (by kernel_rfl) (by decide) (fun _ _ _=>rfl) ⟨_,rfl,lb rfl,fun s n hp hw=>?_⟩
 have hP:=bc
 simp only[iI,gA]at hw |-
 have hΓ:=Mb
 obtain⟨hs,hn⟩:=hp
 have ht:=Ej hs
 have hl:(cU s).size<=maxLen:=by unfold maxLen;omega
 repeat refine sq ?_
 refine rs hΓ [1,2] [[2,0]] ?_
 refine bq (dd [2,0] (aB s) rfl [1,2] [[2,0]] ?_ rfl) ?_
 ·simp only[go_sem]
 simp only[go_sem]
 repeat refine sq ?_
 refine rs hΓ [1,5] [] ?_
 repeat refine sq ?_
 refine rs hΓ [5,6] [] ?_
 repeat refine sq ?_
 refine rs hΓ [5,6,7] [] ?_
 repeat refine sq ?_
 refine aJ ?_
 repeat refine sq ?_
 refine bR (fun z:Nat=>[(7,⟨true,.v (vInt z)⟩),(6,⟨true,.v (vInt (gj (cU s) n z))⟩)]) (fun z=>[]) (fun z=>z<=(cU s).size) (fun z=>(cU s).size-z) 0 ?_ ?_ ?_ ?_
 ·exact Nat.zero_le _
 ·rfl
 ·rfl
 rintro i hi
 simp only[go_sem]
 repeat refine sq ?_
 refine rs hΓ [5,6,7,15] [] ?_
 repeat refine sq ?_
 refine ax rfl rfl (fun hb=>?_) (fun hb=>?_)
 ·have ae:i<(cU s).size:=by simpa using hb
  have ai:(i:Int)<(cU s).size:=by omega
  clear hb
  obtain⟨d1,d2,d3,d4,d5,d6⟩:=Er (b:=cU s) hn i
  have hb:((cU s).data.getD i 0).toNat=jT (cU s) i:=rfl
  repeat refine sq ?_
  refine aC ?_
  repeat refine sq ?_
  refine aJ ?_
  repeat refine sq ?_
  refine aQ hΓ fun K' hK=>?_
  simp only[go_sem,Int.toNat_natCast,Int.natCast_nonneg,ai,hb,Int.toNat_natCast,Int.natCast_nonneg,ai,d1,d2,d3,d4,d5,d6]
  repeat (refine⟨ob,?_⟩)
  refine hK _ ?_
  clear K' hK
  simp only[go_sem]
  refine kp [5,6,7] [] ?_
  repeat refine sq ?_
  refine aQ hΓ fun K' hK=>?_
  simp only[go_sem,Int.toNat_natCast,Int.natCast_nonneg,ai]
  repeat (refine⟨ob,?_⟩)
  refine hK _ ?_
  clear K' hK
  simp only[go_sem]
  refine⟨i+1,ae,by(show (cU s).size-(i+1)<(cU s).size-i;omega),?_⟩
  refine bd [5,6,7] [] ?_ ?_
  ·simp only[go_sem,aA ae hl,Int.natCast_add,Int.natCast_one]
  ·simp only[go_sem,aA ae hl,Int.natCast_add,Int.natCast_one]
 ·have aV:i=(cU s).size:=by
   have :¬ (i:Int)<(cU s).size:=by simpa using hb
   omega
  clear hb
  subst aV
  repeat refine sq ?_
  refine bK ?_
  simp only[go_sem]
  refine kp [6] [] ?_
  repeat refine sq ?_
  refine rs hΓ [4] [] ?_
  refine av ?_
  simp only[go_sem]
  first | rfl
theorem AL:ak Tryd.prog 94 S63:=Pt.sound
def smE(s:Stk)(n:Int):Int:=if mr s=true then(if aM n 0 99999=true then 0 else 1)else 90
def smV(s:Stk)(n:Int):Int:=if mr s=true then(if aM n 0 99999=true then hS s n else 0)else 0
def aW(me:Int)(p:Pg):Bool:=aM p.co 0 99999&&cf me p.st&&(p.su==hS p.st p.co)
def wi(me:Int)(p:Pg):Int:=if aW me p=true then 0 else 91
theorem vK{me:Int}{s:Stk}(h:cf me s=true):ee me s=0:=if_pos h
theorem vL{me:Int}{s:Stk}(h:cf me s=false):ee me s=90:=if_neg (by rw[h];decide)
theorem pq{me:Int}{p:Pg}(h:aW me p=true):wi me p=0:=if_pos h
theorem fS{me:Int}{p:Pg}(h:aW me p=false):wi me p=91:=if_neg (by rw[h];decide)
theorem Fu{me:Int}{p:Pg}:(wi me p==0)=aW me p:=by
 cases h:aW me p
 ·rw[fS h];rfl
 ·rw[pq h];rfl
theorem mB{me:Int}{p:Pg}(h:aM p.co 0 99999=false):aW me p=false:=by unfold aW;rw[h];rfl
theorem mA{me:Int}{p:Pg}(h:cf me p.st=false):aW me p=false:=by unfold aW;rw[h,Bool.and_false];rfl
theorem ia{me:Int}{p:Pg}(h:aM p.co 0 99999=true)(hk:cf me p.st=true):aW me p=(p.su==hS p.st p.co):=by unfold aW;rw[h,hk];rfl
noncomputable def M3:List (Nat×Spec):=[(62,S78),(71,S79),(38,S60),(92,S81),(94,S63),(78,S89),(84,S43)]
theorem M2:∀ f s,tbl M3 f=some s->ak Tryd.prog f s:=tc Tj<|tc AJ<|tc wV<|tc AI<|tc AL<|tc AG<|tc AP<|tn
attribute [go_sem] M3
noncomputable def P90:PSpec:=p2 iI pH (fun _ _=>True) (fun me p=>.bool (aW me p)) true
noncomputable def S90:Spec:=P90.toSpec
attribute [go_sem] P90 S90
set_option maxHeartbeats 4000000 in
theorem O8:aR Tryd.prog 69 P90:=by
 refine w2 (rs:=[.tmp 4]) Tryd.func69 Tryd.ntmps69 (by rfl) (by kernel_rfl) (by decide) (fun _ _ _=>rfl) ⟨_,rfl,lb rfl,fun me p hp hw=>?_⟩
 have hP:=bc
 simp only[iI,pH]at hw |-
 have hΓ:=M2
 repeat refine sq ?_
 refine rs hΓ [0,3] [[3,0]] ?_
 refine bq (dd [3,0] (cm p) rfl [0,3] [[3,0]] ?_ rfl) ?_
 ·simp only[go_sem]
 simp only[go_sem]
 rcases hc:aM p.co 0 99999 with _ | _;rotate_left;rcases hk:cf me p.st with _ | _;rotate_left 2
 ·repeat refine sq ?_
  refine dx hΓ hP [[],[0],[0,1],[0,1,2],[0,1,2,3],[0,1,2,3],[0,1,2,3,5],[0,1,2,3,4,5,6],[0,1,2,3,4,5,6,7],[0,1,2,3,4,5,6,7,8],[0,1,2,3,4,5,6,7,8,9],[0,1,2,3,4,5,6,7,8,9,10],[0,1,2,3,4,5,6,7,8,9],[0,1,2,3,4,5,6,7,8,9,12],[0,1,2,3,4,5,6,7,8,9],[0,1,2,3,4,5,6,7,8,9,14],[0,1,2,3,4,5,6,7,8,9,12,13,14,15],[0,1,2,3,4,5,6,7,8,9,10,11,12,13,14,15,16],[0,1,2,3,4,5,6,7,8,9,10,11,12,13,14,15,16,17],[0,1,2,3,4,5,6,7,8,9,10,11,12,13,14,15,16,17,18]] [4] [] (by kernel_rfl) (fun K' hK=>by simp only[go_sem,hc];(repeat (refine⟨by first | exact nc | exact ob,?_⟩));(first | refine⟨by rfl,?_⟩ | skip);exact hK _ (by simp only[go_sem]) (by simp only[go_sem]<;>rfl)) ?_
  refine av ?_
  simp only[go_sem]
  first | (rw[mB hc];done) | (rw[mA hk];done) | (rw[ia hc hk];done) | (simp[aW,hc,hk];done)
 ·repeat refine sq ?_
  refine dx hΓ hP [[],[0],[0,1],[0,1,2],[0,1,2,3],[0,1,2,3],[0,1,2,3,5],[0,1,2,3,4,5,6],[0,1,2,3,4,5,6,7],[0,1,2,3,4,5,6,7,8],[0,1,2,3,4,5,6,7,8,9],[0,1,2,3,4,5,6,7,8,9,10],[0,1,2,3,4,5,6,7,8,9],[0,1,2,3,4,5,6,7,8,9,12],[0,1,2,3,4,5,6,7,8,9],[0,1,2,3,4,5,6,7,8,9,14],[0,1,2,3,4,5,6,7,8,9,12,13,14,15],[0,1,2,3,4,5,6,7,8,9,10,11,12,13,14,15,16],[0,1,2,3,4,5,6,7,8,9,10,11,12,13,14,15,16,17],[0,1,2,3,4,5,6,7,8,9,10,11,12,13,14,15,16,17,18]] [4] [] (by kernel_rfl) (fun K' hK=>by simp only[go_sem,hc,hk];(repeat (refine⟨by first | exact nc | exact ob,?_⟩));(first | refine⟨by rfl,?_⟩ | skip);exact hK _ (by simp only[go_sem]) (by simp only[go_sem]<;>rfl)) ?_
  refine av ?_
  simp only[go_sem]
  first | (rw[mB hc];done) | (rw[mA hk];done) | (rw[ia hc hk];done) | (simp[aW,hc,hk];done)
 ·have nc:ea p.st/\bO p.co:=⟨rD hk,pG hc (by omega) (by omega)⟩
  repeat refine sq ?_
  refine dx hΓ hP [[],[0],[0,1],[0,1,2],[0,1,2,3],[0,1,2,3],[0,1,2,3,5],[0,1,2,3,4,5,6],[0,1,2,3,4,5,6,7],[0,1,2,3,4,5,6,7,8],[0,1,2,3,4,5,6,7,8,9],[0,1,2,3,4,5,6,7,8,9,10],[0,1,2,3,4,5,6,7,8,9],[0,1,2,3,4,5,6,7,8,9,12],[0,1,2,3,4,5,6,7,8,9],[0,1,2,3,4,5,6,7,8,9,14],[0,1,2,3,4,5,6,7,8,9,12,13,14,15],[0,1,2,3,4,5,6,7,8,9,10,11,12,13,14,15,16],[0,1,2,3,4,5,6,7,8,9,10,11,12,13,14,15,16,17],[0,1,2,3,4,5,6,7,8,9,10,11,12,13,14,15,16,17,18]] [4] [] (by kernel_rfl) (fun K' hK=>by simp only[go_sem,hc,hk];(repeat (refine⟨by first | exact nc | exact ob,?_⟩));(first | refine⟨by rfl,?_⟩ | skip);exact hK _ (by simp only[go_sem]) (by simp only[go_sem]<;>rfl)) ?_
  refine av ?_
  simp only[go_sem]
  first | (rw[mB hc];done) | (rw[mA hk];done) | (rw[ia hc hk];done) | (simp[aW,hc,hk];done)
theorem AF:ak Tryd.prog 69 S90:=O8.sound
noncomputable def M1:List (Nat×Spec):=[(69,S90)]
theorem af8:∀ f s,tbl M1 f=some s->ak Tryd.prog f s:=tc AF<|tn
attribute [go_sem] M1
noncomputable def P45:PSpec:=p2 iI pH (fun _ _=>True) (fun me p=>vInt (wi me p)) true
noncomputable def S45:Spec:=P45.toSpec
attribute [go_sem] P45 S45
set_option maxHeartbeats 4000000 in
theorem PI:aR Tryd.prog 85 P45:=by
 refine w2 (rs:=[.tmp 4]) Tryd.func85 Tryd.ntmps85 (by rfl) (by kernel_rfl) (by decide) (fun _ _ _=>rfl) ⟨_,rfl,lb rfl,fun me p hp hw=>?_⟩
 have hP:=bc
 simp only[iI,pH]at hw |-
 have hΓ:=M2
 repeat refine sq ?_
 refine rs hΓ [0,3] [[3,0]] ?_
 refine bq (dd [3,0] (cm p) rfl [0,3] [[3,0]] ?_ rfl) ?_
 ·simp only[go_sem]
 simp only[go_sem]
 rcases hc:aM p.co 0 99999 with _ | _;rotate_left;rcases hk:cf me p.st with _ | _;rotate_left 2
 ·repeat refine sq ?_
  refine dx hΓ hP [[],[0],[0,1],[0,1,2],[0,1,2,3],[0,1,2,3,4],[0,1,2,3,4],[0,1,2,3,4,6],[0,1,2,3,4,5,6,7],[0,1,2,3,4,5,6,7,8],[0,1,2,3,4,5,6,7,8,9],[0,1,2,3,4,5,6,7,8,9,10],[0,1,2,3,4,5,6,7,8,9,10,11],[0,1,2,3,4,5,6,7,8,9,10,11,12],[0,1,2,3,4,5,6,7,8,9,10,11],[0,1,2,3,4,5,6,7,8,9,10,11,14],[0,1,2,3,4,5,6,7,8,9,10,11],[0,1,2,3,4,5,6,7,8,9,10,11,16],[0,1,2,3,4,5,6,7,8,9,10,11,14,15,16,17],[0,1,2,3,4,5,6,7,8,9,10,11,12,13,14,15,16,17,18],[0,1,2,3,4,5,6,7,8,9,10,11,12,13,14,15,16,17,18,19]] [25] [] (by kernel_rfl) (fun K' hK=>by simp only[go_sem,hc];(repeat (refine⟨by first | exact nc | exact ob,?_⟩));(first | refine⟨by rfl,?_⟩ | skip);exact hK _ (by simp only[go_sem]) (by simp only[go_sem]<;>rfl)) ?_
  repeat refine sq ?_
  refine ax rfl rfl (fun hb=>?_) (fun hb=>?_)
  ·repeat refine sq ?_
   refine rx hΓ [4] [] (fun K' hK=>by simp only[go_sem,hc];(repeat (refine⟨ob,?_⟩));exact hK _ (by simp only[go_sem]) (by simp only[go_sem]<;>rfl)) ?_
   refine av ?_
   simp only[go_sem]
   first | (exact absurd hb (by decide)) | (simp at hb;done) | (rw[fS (mB hc)];done) | (rw[fS (mA hk)];done) | (rw[fS (by rw[ia hc hk];simpa using hb)];done) | (rw[pq (by rw[ia hc hk];simpa using hb)];done)
  ·repeat refine sq ?_
   refine aC ?_
   repeat refine sq ?_
   refine rx hΓ [4] [] (fun K' hK=>by simp only[go_sem,hc];(repeat (refine⟨ob,?_⟩));exact hK _ (by simp only[go_sem]) (by simp only[go_sem]<;>rfl)) ?_
   refine av ?_
   simp only[go_sem]
   first | (exact absurd hb (by decide)) | (simp at hb;done) | (rw[fS (mB hc)];done) | (rw[fS (mA hk)];done) | (rw[fS (by rw[ia hc hk];simpa using hb)];done) | (rw[pq (by rw[ia hc hk];simpa using hb)];done)
 ·repeat refine sq ?_
  refine dx hΓ hP [[],[0],[0,1],[0,1,2],[0,1,2,3],[0,1,2,3,4],[0,1,2,3,4],[0,1,2,3,4,6],[0,1,2,3,4,5,6,7],[0,1,2,3,4,5,6,7,8],[0,1,2,3,4,5,6,7,8,9],[0,1,2,3,4,5,6,7,8,9,10],[0,1,2,3,4,5,6,7,8,9,10,11],[0,1,2,3,4,5,6,7,8,9,10,11,12],[0,1,2,3,4,5,6,7,8,9,10,11],[0,1,2,3,4,5,6,7,8,9,10,11,14],[0,1,2,3,4,5,6,7,8,9,10,11],[0,1,2,3,4,5,6,7,8,9,10,11,16],[0,1,2,3,4,5,6,7,8,9,10,11,14,15,16,17],[0,1,2,3,4,5,6,7,8,9,10,11,12,13,14,15,16,17,18],[0,1,2,3,4,5,6,7,8,9,10,11,12,13,14,15,16,17,18,19]] [25] [] (by kernel_rfl) (fun K' hK=>by simp only[go_sem,hc,vL hk];(repeat (refine⟨by first | exact nc | exact ob,?_⟩));(first | refine⟨by rfl,?_⟩ | skip);exact hK _ (by simp only[go_sem]) (by simp only[go_sem]<;>rfl)) ?_
  repeat refine sq ?_
  refine ax rfl rfl (fun hb=>?_) (fun hb=>?_)
  ·repeat refine sq ?_
   refine rx hΓ [4] [] (fun K' hK=>by simp only[go_sem,hc,vL hk];(repeat (refine⟨ob,?_⟩));exact hK _ (by simp only[go_sem]) (by simp only[go_sem]<;>rfl)) ?_
   refine av ?_
   simp only[go_sem]
   first | (exact absurd hb (by decide)) | (simp at hb;done) | (rw[fS (mB hc)];done) | (rw[fS (mA hk)];done) | (rw[fS (by rw[ia hc hk];simpa using hb)];done) | (rw[pq (by rw[ia hc hk];simpa using hb)];done)
  ·repeat refine sq ?_
   refine aC ?_
   repeat refine sq ?_
   refine rx hΓ [4] [] (fun K' hK=>by simp only[go_sem,hc,vL hk];(repeat (refine⟨ob,?_⟩));exact hK _ (by simp only[go_sem]) (by simp only[go_sem]<;>rfl)) ?_
   refine av ?_
   simp only[go_sem]
   first | (exact absurd hb (by decide)) | (simp at hb;done) | (rw[fS (mB hc)];done) | (rw[fS (mA hk)];done) | (rw[fS (by rw[ia hc hk];simpa using hb)];done) | (rw[pq (by rw[ia hc hk];simpa using hb)];done)
 ·have nc:ea p.st/\bO p.co:=⟨rD hk,pG hc (by omega) (by omega)⟩
  repeat refine sq ?_
  refine dx hΓ hP [[],[0],[0,1],[0,1,2],[0,1,2,3],[0,1,2,3,4],[0,1,2,3,4],[0,1,2,3,4,6],[0,1,2,3,4,5,6,7],[0,1,2,3,4,5,6,7,8],[0,1,2,3,4,5,6,7,8,9],[0,1,2,3,4,5,6,7,8,9,10],[0,1,2,3,4,5,6,7,8,9,10,11],[0,1,2,3,4,5,6,7,8,9,10,11,12],[0,1,2,3,4,5,6,7,8,9,10,11],[0,1,2,3,4,5,6,7,8,9,10,11,14],[0,1,2,3,4,5,6,7,8,9,10,11],[0,1,2,3,4,5,6,7,8,9,10,11,16],[0,1,2,3,4,5,6,7,8,9,10,11,14,15,16,17],[0,1,2,3,4,5,6,7,8,9,10,11,12,13,14,15,16,17,18],[0,1,2,3,4,5,6,7,8,9,10,11,12,13,14,15,16,17,18,19]] [25] [] (by kernel_rfl) (fun K' hK=>by simp only[go_sem,hc,vK hk];(repeat (refine⟨by first | exact nc | exact ob,?_⟩));(first | refine⟨by rfl,?_⟩ | skip);exact hK _ (by simp only[go_sem]) (by simp only[go_sem]<;>rfl)) ?_
  repeat refine sq ?_
  refine ax rfl rfl (fun hb=>?_) (fun hb=>?_)
  ·repeat refine sq ?_
   refine rx hΓ [4] [] (fun K' hK=>by simp only[go_sem,hc,vK hk];(repeat (refine⟨ob,?_⟩));exact hK _ (by simp only[go_sem]) (by simp only[go_sem]<;>rfl)) ?_
   refine av ?_
   simp only[go_sem]
   first | (exact absurd hb (by decide)) | (simp at hb;done) | (rw[fS (mB hc)];done) | (rw[fS (mA hk)];done) | (rw[fS (by rw[ia hc hk];simpa using hb)];done) | (rw[pq (by rw[ia hc hk];simpa using hb)];done)
  ·repeat refine sq ?_
   refine aC ?_
   repeat refine sq ?_
   refine rx hΓ [4] [] (fun K' hK=>by simp only[go_sem,hc,vK hk];(repeat (refine⟨ob,?_⟩));exact hK _ (by simp only[go_sem]) (by simp only[go_sem]<;>rfl)) ?_
   refine av ?_
   simp only[go_sem]
   first | (exact absurd hb (by decide)) | (simp at hb;done) | (rw[fS (mB hc)];done) | (rw[fS (mA hk)];done) | (rw[fS (by rw[ia hc hk];simpa using hb)];done) | (rw[pq (by rw[ia hc hk];simpa using hb)];done)
theorem H6:ak Tryd.prog 85 S45:=PI.sound
def jZ(d:Dk):Bool:=if d.wet<0 then(aW d.me d.pa||aW d.me d.pb)&&!((aW d.me d.pa&&aW d.me d.pb)&&(d.pa.co==d.pb.co))
 else(aW d.me d.pa&&aW d.me d.pb)&&decide ((d.pg d.wet.toNat).co>(d.pg (1-d.wet).toNat).co)
def gp(d:Dk):Bool:=cf d.me d.now&&aM d.wet (-1) 1
def aF(d:Dk):Bool:=gp d&&jZ d
def lg(d:Dk):Int:=if aF d=true then 0 else 92
theorem eO{d:Dk}(h:aF d=true):lg d=0:=if_pos h
theorem jR{d:Dk}(h:aF d=false):lg d=92:=if_neg (by rw[h];decide)
@[go_sem] theorem aev(d:Dk):(aq d).getD 20 default=vInt d.pa.co:=rfl
@[go_sem] theorem aeu(d:Dk):(aq d).getD 41 default=vInt d.pb.co:=rfl
theorem nI:IntKind.i64.wrap 0=0:=by decide
theorem nH:IntKind.i64.wrap 1=1:=by decide
theorem mo{d:Dk}(h:d.wet<0):jZ d=((aW d.me d.pa||aW d.me d.pb)&&!((aW d.me d.pa&&aW d.me d.pb)&&(d.pa.co==d.pb.co))):=by
 unfold jZ;rw[if_pos h]
theorem oX{d:Dk}(h:d.wet=0):jZ d=((aW d.me d.pa&&aW d.me d.pb)&&decide (d.pa.co>d.pb.co)):=by
 unfold jZ;rw[if_neg (by omega),h];rfl
theorem oW{d:Dk}(h:d.wet=1):jZ d=((aW d.me d.pa&&aW d.me d.pb)&&decide (d.pb.co>d.pa.co)):=by
 unfold jZ;rw[if_neg (by omega),h];rfl
theorem xG(d:Dk):(!cf d.me d.now||!aM d.wet (-1) 1)=!gp d:=by
 unfold gp
 cases cf d.me d.now<;>cases aM d.wet (-1) 1<;>rfl
theorem N7{me:Int}{s:Stk}:(ee me s != 0)=!cf me s:=by
 cases h:cf me s
 ·rw[vL h];rfl
 ·rw[vK h];rfl
noncomputable def M0:List (Nat×Spec):=[(78,S89),(65,S98),(69,S90)]
theorem Y3:∀ f s,tbl M0 f=some s->ak Tryd.prog f s:=tc AG<|tc AE<|tc AF<|tn
attribute [go_sem] M0
noncomputable def P74:PSpec:=p1 dK (fun _=>True) (fun d=>.bool (aF d)) true
noncomputable def S74:Spec:=P74.toSpec
attribute [go_sem] P74 S74
set_option maxHeartbeats 4000000 in
theorem Pn:aR Tryd.prog 66 P74:=by
 refine w1 (rs:=[.tmp 2]) Tryd.func66 Tryd.ntmps66 (by rfl) (by kernel_rfl) (by decide) (fun _ _=>rfl) ⟨_,rfl,lb rfl,fun d hp hw=>?_⟩
 have hP:=bc
 simp only[dK]at hw |-
 have hΓ:=Y3
 repeat refine sq ?_
 refine rs hΓ [1] [[1,0]] ?_
 refine bq (dd [1,0] (aq d) rfl [1] [[1,0]] ?_ rfl) ?_
 ·simp only[go_sem]
 simp only[go_sem]
 repeat refine sq ?_
 refine rs hΓ [1,16] [[1,0]] ?_
 repeat refine sq ?_
 refine ax rfl rfl (fun hb=>?_) (fun hb=>?_)
 ·repeat refine sq ?_
  have aN:gp d=false:=by have:=xG d;rw[hb]at this;simpa using this.symm
  repeat refine sq ?_
  refine rs hΓ [2] [] ?_
  refine av ?_
  simp only[go_sem]
  first | (simp[aF,aN];done) | (unfold aF;rw[bk,mo mV];simp) | (unfold aF;rw[bk,oX eX];simp) | (unfold aF;rw[bk,oW eX];simp)
 ·repeat refine sq ?_
  have bk:gp d=true:=by have:=xG d;rw[hb]at this;simpa using this.symm
  have hi:aM d.wet (-1) 1=true:=by unfold gp at bk;rw[Bool.and_eq_true]at bk;exact bk.2
  refine aC ?_
  repeat refine sq ?_
  refine dx hΓ hP [[],[0],[],[2],[2,3],[0,1,2,3,4],[],[6],[],[8],[8,9],[0,1,2,3,4,5,6,7,8,9,10],[0,1,2,3,4,5,6,7,8,9,10,11],[0,1,2,3,4,5,6,7,8,9,10,11,12]] [1,3,4] [[1,0]] (by kernel_rfl) (fun K' hK=>by simp only[go_sem,Int.cast_ofNat_Int,Int.reduceToNat,Int.toNat_one,Int.toNat_zero,Nat.reduceMul,Nat.reduceAdd,Nat.zero_mul,Nat.one_mul,Nat.add_zero];(repeat (refine⟨ob,?_⟩));(first | refine⟨by rfl,?_⟩ | skip);exact hK _ (by simp only[go_sem]) (by simp only[go_sem]<;>rfl)) ?_
  repeat refine sq ?_
  refine rs hΓ [1,3,4,31] [[1,0]] ?_
  repeat refine sq ?_
  refine ax rfl rfl (fun hb=>?_) (fun hb=>?_)
  ·repeat refine sq ?_
   have mV:d.wet<0:=by simpa using hb
   repeat refine sq ?_
   refine rx hΓ [2] [] (fun K' hK=>by simp only[go_sem,Int.cast_ofNat_Int,Int.reduceToNat,Int.toNat_one,Int.toNat_zero,Nat.reduceMul,Nat.reduceAdd,Nat.zero_mul,Nat.one_mul,Nat.add_zero];(repeat (refine⟨ob,?_⟩));exact hK _ (by simp only[go_sem]) (by simp only[go_sem]<;>rfl)) ?_
   refine av ?_
   simp only[go_sem]
   first | (simp[aF,aN];done) | (unfold aF;rw[bk,mo mV];simp) | (unfold aF;rw[bk,oX eX];simp) | (unfold aF;rw[bk,oW eX];simp)
  ·repeat refine sq ?_
   have aV:¬ d.wet<0:=by simpa using hb
   have mR:d.wet=0\/d.wet=1:=by have:=dS.1 hi;omega
   refine aC ?_
   rcases mR with eX | eX
   ·repeat refine sq ?_
    refine dx hΓ hP [[],[0],[0,1],[0,1,2],[0,1,2,3],[0,1,2,3,4],[0,1,2,3,4,5],[0,1,2,3,4],[0,1,2,3,4,5,6,7],[0,1,2,3,4,5,6,7,8],[0,1,2,3,4,5,6,7,8,9],[0,1,2,3,4],[0,1,2,3,4,11],[0,1,2,3,4,11,12],[0,1,2,3,4],[0,1,2,3,4,11,12,13,14],[0,1,2,3,4,11,12,13,14,15],[0,1,2,3,4,11,12,13,14,15,16],[0,1,2,3,4,5,6,7,8,9,10,11,12,13,14,15,16,17],[0,1,2,3,4,5,6,7,8,9,10,11,12,13,14,15,16,17,18],[0,1,2,3,4,5,6,7,8,9,10,11,12,13,14,15,16,17,18,19]] [2] [] (by kernel_rfl) (fun K' hK=>by simp only[go_sem,eX,nI,nH,Int.sub_self,Int.sub_zero,Int.cast_ofNat_Int,Int.reduceToNat,Int.toNat_one,Int.toNat_zero,Nat.reduceMul,Nat.reduceAdd,Nat.zero_mul,Nat.one_mul,Nat.add_zero];(repeat (refine⟨ob,?_⟩));(first | refine⟨by rfl,?_⟩ | skip);exact hK _ (by simp only[go_sem]) (by simp only[go_sem]<;>rfl)) ?_
    refine av ?_
    simp only[go_sem]
    first | (simp[aF,aN];done) | (unfold aF;rw[bk,mo mV];simp) | (unfold aF;rw[bk,oX eX];simp) | (unfold aF;rw[bk,oW eX];simp)
   ·repeat refine sq ?_
    refine dx hΓ hP [[],[0],[0,1],[0,1,2],[0,1,2,3],[0,1,2,3,4],[0,1,2,3,4,5],[0,1,2,3,4],[0,1,2,3,4,5,6,7],[0,1,2,3,4,5,6,7,8],[0,1,2,3,4,5,6,7,8,9],[0,1,2,3,4],[0,1,2,3,4,11],[0,1,2,3,4,11,12],[0,1,2,3,4],[0,1,2,3,4,11,12,13,14],[0,1,2,3,4,11,12,13,14,15],[0,1,2,3,4,11,12,13,14,15,16],[0,1,2,3,4,5,6,7,8,9,10,11,12,13,14,15,16,17],[0,1,2,3,4,5,6,7,8,9,10,11,12,13,14,15,16,17,18],[0,1,2,3,4,5,6,7,8,9,10,11,12,13,14,15,16,17,18,19]] [2] [] (by kernel_rfl) (fun K' hK=>by simp only[go_sem,eX,nI,nH,Int.sub_self,Int.sub_zero,Int.cast_ofNat_Int,Int.reduceToNat,Int.toNat_one,Int.toNat_zero,Nat.reduceMul,Nat.reduceAdd,Nat.zero_mul,Nat.one_mul,Nat.add_zero];(repeat (refine⟨ob,?_⟩));(first | refine⟨by rfl,?_⟩ | skip);exact hK _ (by simp only[go_sem]) (by simp only[go_sem]<;>rfl)) ?_
    refine av ?_
    simp only[go_sem]
    first | (simp[aF,aN];done) | (unfold aF;rw[bk,mo mV];simp) | (unfold aF;rw[bk,oX eX];simp) | (unfold aF;rw[bk,oW eX];simp)
theorem HV:ak Tryd.prog 66 S74:=Pn.sound
noncomputable def MZ:List (Nat×Spec):=[(66,S74)]
theorem Y2:∀ f s,tbl MZ f=some s->ak Tryd.prog f s:=tc HV<|tn
attribute [go_sem] MZ
noncomputable def P23:PSpec:=p1 dK (fun _=>True) (fun d=>vInt (lg d)) true
noncomputable def S23:Spec:=P23.toSpec
attribute [go_sem] P23 S23
theorem PS:aR Tryd.prog 39 P23:=by
 refine w1 (rs:=[.tmp 2]) Tryd.func39 Tryd.ntmps39 (by rfl) (by kernel_rfl) (by decide) (fun _ _=>rfl) ⟨_,rfl,lb rfl,fun d hp hw=>?_⟩
 have hP:=bc
 simp only[dK]at hw |-
 have hΓ:=Y2
 repeat refine sq ?_
 refine rs hΓ [1] [[1,0]] ?_
 refine bq (dd [1,0] (aq d) rfl [1] [[1,0]] ?_ rfl) ?_
 ·simp only[go_sem]
 simp only[go_sem]
 repeat refine sq ?_
 refine rs hΓ [5] [] ?_
 repeat refine sq ?_
 refine ax rfl rfl (fun hb=>?_) (fun hb=>?_)
 ·repeat refine sq ?_
  refine rs hΓ [2] [] ?_
  refine av ?_
  simp only[go_sem]
  first | (rw[jR (by simpa using hb)];done) | (rw[eO (by simpa using hb)];done)
 ·repeat refine sq ?_
  refine aC ?_
  repeat refine sq ?_
  refine rs hΓ [2] [] ?_
  refine av ?_
  simp only[go_sem]
  first | (rw[jR (by simpa using hb)];done) | (rw[eO (by simpa using hb)];done)
theorem n0:ak Tryd.prog 39 S23:=PS.sound
noncomputable def MY:List (Nat×Spec):=[(84,S43),(83,S86),(85,S45)]
theorem Y1:∀ f s,tbl MY f=some s->ak Tryd.prog f s:=tc AP<|tc AH<|tc H6<|tn
attribute [go_sem] MY
noncomputable def P39:PSpec:=p1 dK (fun _=>True) (fun d=>vInt (lg d)) true
noncomputable def S39:Spec:=P39.toSpec
attribute [go_sem] P39 S39
set_option maxHeartbeats 4000000 in
theorem PL:aR Tryd.prog 77 P39:=by
 refine w1 (rs:=[.tmp 2]) Tryd.func77 Tryd.ntmps77 (by rfl) (by kernel_rfl) (by decide) (fun _ _=>rfl) ⟨_,rfl,lb rfl,fun d hp hw=>?_⟩
 have hP:=bc
 simp only[dK]at hw |-
 have hΓ:=Y1
 repeat refine sq ?_
 refine rs hΓ [1] [[1,0]] ?_
 refine bq (dd [1,0] (aq d) rfl [1] [[1,0]] ?_ rfl) ?_
 ·simp only[go_sem]
 simp only[go_sem]
 repeat refine sq ?_
 refine rx hΓ [1,16] [[1,0]] (fun K' hK=>by simp only[go_sem,N7];(repeat (refine⟨ob,?_⟩));exact hK _ (by simp only[go_sem]) (by simp only[go_sem]<;>rfl)) ?_
 repeat refine sq ?_
 refine ax rfl rfl (fun hb=>?_) (fun hb=>?_)
 ·repeat refine sq ?_
  have aN:gp d=false:=by have:=xG d;rw[hb]at this;simpa using this.symm
  have ej:aF d=false:=by unfold aF;rw[aN];rfl
  repeat refine sq ?_
  refine rs hΓ [2] [] ?_
  refine av ?_
  simp only[go_sem]
  first | (rw[jR ej];done) | (rw[eO ej];done)
 ·repeat refine sq ?_
  have bk:gp d=true:=by have:=xG d;rw[hb]at this;simpa using this.symm
  have hi:aM d.wet (-1) 1=true:=by unfold gp at bk;rw[Bool.and_eq_true]at bk;exact bk.2
  refine aC ?_
  repeat refine sq ?_
  refine rx hΓ [1,3] [[1,0]] (fun K' hK=>by simp only[go_sem,Fu,Int.cast_ofNat_Int,Int.reduceToNat,Int.toNat_one,Int.toNat_zero,Nat.reduceMul,Nat.reduceAdd,Nat.zero_mul,Nat.one_mul,Nat.add_zero];(repeat (refine⟨ob,?_⟩));exact hK _ (by simp only[go_sem]) (by simp only[go_sem]<;>rfl)) ?_
  repeat refine sq ?_
  refine rx hΓ [1,3,4] [[1,0]] (fun K' hK=>by simp only[go_sem,Fu,Int.cast_ofNat_Int,Int.reduceToNat,Int.toNat_one,Int.toNat_zero,Nat.reduceMul,Nat.reduceAdd,Nat.zero_mul,Nat.one_mul,Nat.add_zero];(repeat (refine⟨ob,?_⟩));exact hK _ (by simp only[go_sem]) (by simp only[go_sem]<;>rfl)) ?_
  repeat refine sq ?_
  refine rs hΓ [1,3,4,33] [[1,0]] ?_
  repeat refine sq ?_
  refine ax rfl rfl (fun hb=>?_) (fun hb=>?_)
  ·repeat refine sq ?_
   have mV:d.wet<0:=by simpa using hb
   repeat refine sq ?_
   refine rx hΓ [56] [] (fun K' hK=>by simp only[go_sem,Int.cast_ofNat_Int,Int.reduceToNat,Int.toNat_one,Int.toNat_zero,Nat.reduceMul,Nat.reduceAdd,Nat.zero_mul,Nat.one_mul,Nat.add_zero];(repeat (refine⟨ob,?_⟩));exact hK _ (by simp only[go_sem]) (by simp only[go_sem]<;>rfl)) ?_
   repeat refine sq ?_
   refine ax rfl rfl (fun hb=>?_) (fun hb=>?_)
   ·repeat refine sq ?_
    have ej:aF d=false:=by unfold aF;rw[bk,mo mV];revert hb;cases aW d.me d.pa<;>cases aW d.me d.pb<;>simp
    repeat refine sq ?_
    refine rs hΓ [2] [] ?_
    refine av ?_
    simp only[go_sem]
    first | (rw[jR ej];done) | (rw[eO ej];done)
   ·repeat refine sq ?_
    have ej:aF d=true:=by unfold aF;rw[bk,mo mV];revert hb;cases aW d.me d.pa<;>cases aW d.me d.pb<;>simp
    refine aC ?_
    repeat refine sq ?_
    refine rs hΓ [2] [] ?_
    refine av ?_
    simp only[go_sem]
    first | (rw[jR ej];done) | (rw[eO ej];done)
  ·repeat refine sq ?_
   have aV:¬ d.wet<0:=by simpa using hb
   have mR:d.wet=0\/d.wet=1:=by have:=dS.1 hi;omega
   refine aC ?_
   rcases mR with eX | eX
   ·repeat refine sq ?_
    refine dx hΓ hP [[],[0],[0,1],[0,1,2],[0,1,2,3],[0,1,2,3,4],[0,1,2,3,4,5],[0,1,2,3,4,5,6],[0,1,2,3,4,5,6,7],[0,1,2,3,4,5,6],[0,1,2,3,4,5,6,7,8,9],[0,1,2,3,4,5,6,7,8,9,10],[0,1,2,3,4,5,6,7,8,9,10,11],[0,1,2,3,4,5,6],[0,1,2,3,4,5,6,13],[0,1,2,3,4,5,6,13,14],[0,1,2,3,4,5,6],[0,1,2,3,4,5,6,13,14,15,16],[0,1,2,3,4,5,6,13,14,15,16,17],[0,1,2,3,4,5,6,13,14,15,16,17,18],[0,1,2,3,4,5,6,7,8,9,10,11,12,13,14,15,16,17,18,19],[0,1,2,3,4,5,6,7,8,9,10,11,12,13,14,15,16,17,18,19,20]] [78] [] (by kernel_rfl) (fun K' hK=>by simp only[go_sem,eX,nI,nH,Int.sub_self,Int.sub_zero,Int.cast_ofNat_Int,Int.reduceToNat,Int.toNat_one,Int.toNat_zero,Nat.reduceMul,Nat.reduceAdd,Nat.zero_mul,Nat.one_mul,Nat.add_zero];(repeat (refine⟨ob,?_⟩));(first | refine⟨by rfl,?_⟩ | skip);exact hK _ (by simp only[go_sem]) (by simp only[go_sem]<;>rfl)) ?_
    repeat refine sq ?_
    refine ax rfl rfl (fun hb=>?_) (fun hb=>?_)
    ·repeat refine sq ?_
     have ej:aF d=false:=by unfold aF;rw[bk,oX eX];revert hb;cases aW d.me d.pa<;>cases aW d.me d.pb<;>simp
     repeat refine sq ?_
     refine rx hΓ [2] [] (fun K' hK=>by simp only[go_sem,eX,nI,nH,Int.sub_self,Int.sub_zero,Int.cast_ofNat_Int,Int.reduceToNat,Int.toNat_one,Int.toNat_zero,Nat.reduceMul,Nat.reduceAdd,Nat.zero_mul,Nat.one_mul,Nat.add_zero];(repeat (refine⟨ob,?_⟩));exact hK _ (by simp only[go_sem]) (by simp only[go_sem]<;>rfl)) ?_
     refine av ?_
     simp only[go_sem]
     first | (rw[jR ej];done) | (rw[eO ej];done)
    ·repeat refine sq ?_
     have ej:aF d=true:=by unfold aF;rw[bk,oX eX];revert hb;cases aW d.me d.pa<;>cases aW d.me d.pb<;>simp
     refine aC ?_
     repeat refine sq ?_
     refine rx hΓ [2] [] (fun K' hK=>by simp only[go_sem,eX,nI,nH,Int.sub_self,Int.sub_zero,Int.cast_ofNat_Int,Int.reduceToNat,Int.toNat_one,Int.toNat_zero,Nat.reduceMul,Nat.reduceAdd,Nat.zero_mul,Nat.one_mul,Nat.add_zero];(repeat (refine⟨ob,?_⟩));exact hK _ (by simp only[go_sem]) (by simp only[go_sem]<;>rfl)) ?_
     refine av ?_
     simp only[go_sem]
     first | (rw[jR ej];done) | (rw[eO ej];done)
   ·repeat refine sq ?_
    refine dx hΓ hP [[],[0],[0,1],[0,1,2],[0,1,2,3],[0,1,2,3,4],[0,1,2,3,4,5],[0,1,2,3,4,5,6],[0,1,2,3,4,5,6,7],[0,1,2,3,4,5,6],[0,1,2,3,4,5,6,7,8,9],[0,1,2,3,4,5,6,7,8,9,10],[0,1,2,3,4,5,6,7,8,9,10,11],[0,1,2,3,4,5,6],[0,1,2,3,4,5,6,13],[0,1,2,3,4,5,6,13,14],[0,1,2,3,4,5,6],[0,1,2,3,4,5,6,13,14,15,16],[0,1,2,3,4,5,6,13,14,15,16,17],[0,1,2,3,4,5,6,13,14,15,16,17,18],[0,1,2,3,4,5,6,7,8,9,10,11,12,13,14,15,16,17,18,19],[0,1,2,3,4,5,6,7,8,9,10,11,12,13,14,15,16,17,18,19,20]] [78] [] (by kernel_rfl) (fun K' hK=>by simp only[go_sem,eX,nI,nH,Int.sub_self,Int.sub_zero,Int.cast_ofNat_Int,Int.reduceToNat,Int.toNat_one,Int.toNat_zero,Nat.reduceMul,Nat.reduceAdd,Nat.zero_mul,Nat.one_mul,Nat.add_zero];(repeat (refine⟨ob,?_⟩));(first | refine⟨by rfl,?_⟩ | skip);exact hK _ (by simp only[go_sem]) (by simp only[go_sem]<;>rfl)) ?_
    repeat refine sq ?_
    refine ax rfl rfl (fun hb=>?_) (fun hb=>?_)
    ·repeat refine sq ?_
     have ej:aF d=false:=by unfold aF;rw[bk,oW eX];revert hb;cases aW d.me d.pa<;>cases aW d.me d.pb<;>simp
     repeat refine sq ?_
     refine rx hΓ [2] [] (fun K' hK=>by simp only[go_sem,eX,nI,nH,Int.sub_self,Int.sub_zero,Int.cast_ofNat_Int,Int.reduceToNat,Int.toNat_one,Int.toNat_zero,Nat.reduceMul,Nat.reduceAdd,Nat.zero_mul,Nat.one_mul,Nat.add_zero];(repeat (refine⟨ob,?_⟩));exact hK _ (by simp only[go_sem]) (by simp only[go_sem]<;>rfl)) ?_
     refine av ?_
     simp only[go_sem]
     first | (rw[jR ej];done) | (rw[eO ej];done)
    ·repeat refine sq ?_
     have ej:aF d=true:=by unfold aF;rw[bk,oW eX];revert hb;cases aW d.me d.pa<;>cases aW d.me d.pb<;>simp
     refine aC ?_
     repeat refine sq ?_
     refine rx hΓ [2] [] (fun K' hK=>by simp only[go_sem,eX,nI,nH,Int.sub_self,Int.sub_zero,Int.cast_ofNat_Int,Int.reduceToNat,Int.toNat_one,Int.toNat_zero,Nat.reduceMul,Nat.reduceAdd,Nat.zero_mul,Nat.one_mul,Nat.add_zero];(repeat (refine⟨ob,?_⟩));exact hK _ (by simp only[go_sem]) (by simp only[go_sem]<;>rfl)) ?_
     refine av ?_
     simp only[go_sem]
     first | (rw[jR ej];done) | (rw[eO ej];done)
theorem mM:ak Tryd.prog 77 S39:=PL.sound
end Go.Eng
set_option linter.unusedVariables false
namespace Go.Eng
open Go Go.Proofs Go.RowKit Go.Lib Go.Shelf
set_option maxHeartbeats 2000000 in
set_option maxRecDepth 100000 in
theorem Xq(n c:Nat)(w:World):Calls Tryd.prog 46 #[.slice none n c] w fun e w'=>e=.returned (.slice none 0 0)/\w'=w:=by
 have mixed:Tryd.prog.follows Departure.mixedOrders=true:=by kernel_rfl
 have qT:∀ (w:World) (a:Option Addr) (n c n' c':Nat),(binOp .eql 35 (.slice a n c) (.slice none n' c')).run Tryd.prog w=.ok (.bool a.isNone) w:=fun w a n c n' c'=>Lib.run_eql_slice_nil w _ _ a n c n' c' Tryd.underlying35
 go_enter Tryd.func46,Tryd.ntmps46
 go_wp2
 go_ret
 exact⟨rfl,rfl⟩
set_option maxHeartbeats 2000000 in
set_option maxRecDepth 100000 in
theorem Xp(a:Addr)(n c:Nat)(w:World)(v':Value)(w':World)
 (cD:∀ ty,(Builtin.append_ #[35,35] ty #[.slice (some ⟨w.heap.size,0,none⟩) 0 0,.slice (some a) n c]).run Tryd.prog (w.alloc (.cells #[] 75))=.ok v' w'):
 Calls Tryd.prog 46 #[.slice (some a) n c] w fun e w1=>e=.returned v'/\w1=w':=by
 have mixed:Tryd.prog.follows Departure.mixedOrders=true:=by kernel_rfl
 have qT:∀ (w:World) (a:Option Addr) (n c n' c':Nat),(binOp .eql 35 (.slice a n c) (.slice none n' c')).run Tryd.prog w=.ok (.bool a.isNone) w:=fun w a n c n' c'=>Lib.run_eql_slice_nil w _ _ a n c n' c' Tryd.underlying35
 go_enter Tryd.func46,Tryd.ntmps46
 go_wp2_with (at_builtin;refine Lib.wpList_append_run _ rfl _ _ _ _ rfl _ _ rfl rfl _ _ (cD _) ?_)
 go_ret
 exact⟨rfl,rfl⟩
set_option maxHeartbeats 2000000 in
set_option maxRecDepth 100000 in
theorem Xo(n c:Nat)(w:World):Calls Tryd.prog 36 #[.slice none n c] w fun e w'=>e=.returned (.slice none 0 0)/\w'=w:=by
 have mixed:Tryd.prog.follows Departure.mixedOrders=true:=by kernel_rfl
 have qT:∀ (w:World) (a:Option Addr) (n c n' c':Nat),(binOp .eql 34 (.slice a n c) (.slice none n' c')).run Tryd.prog w=.ok (.bool a.isNone) w:=fun w a n c n' c'=>Lib.run_eql_slice_nil w _ _ a n c n' c' Tryd.underlying34
 go_enter Tryd.func36,Tryd.ntmps36
 go_wp2
 go_ret
 exact⟨rfl,rfl⟩
set_option maxHeartbeats 2000000 in
set_option maxRecDepth 100000 in
theorem Xn(a:Addr)(n c:Nat)(w:World)(v':Value)(w':World)
 (cD:∀ ty,(Builtin.append_ #[34,34] ty #[.slice (some ⟨w.heap.size,0,none⟩) 0 0,.slice (some a) n c]).run Tryd.prog (w.alloc (.cells #[] 3))=.ok v' w'):
 Calls Tryd.prog 36 #[.slice (some a) n c] w fun e w1=>e=.returned v'/\w1=w':=by
 have mixed:Tryd.prog.follows Departure.mixedOrders=true:=by kernel_rfl
 have qT:∀ (w:World) (a:Option Addr) (n c n' c':Nat),(binOp .eql 34 (.slice a n c) (.slice none n' c')).run Tryd.prog w=.ok (.bool a.isNone) w:=fun w a n c n' c'=>Lib.run_eql_slice_nil w _ _ a n c n' c' Tryd.underlying34
 go_enter Tryd.func36,Tryd.ntmps36
 go_wp2_with (at_builtin;refine Lib.wpList_append_run _ rfl _ _ _ _ rfl _ _ rfl rfl _ _ (cD _) ?_)
 go_ret
 exact⟨rfl,rfl⟩
theorem mG(n:Nat)(h:n<1000000000):n≠yid:=by unfold yid;omega
theorem Di:sN Tryd.prog 46 35 75 2 16 (.agg #[.int .i64 0,.int .i64 0]):=
 ⟨by kernel_rfl,by kernel_rfl,mG _ (by decide),gv Tryd.func46 (by rfl) (by kernel_rfl),Xq,Xp⟩
theorem Dh:sN Tryd.prog 36 34 3 1 8 (.int .i64 0):=
 ⟨by kernel_rfl,by kernel_rfl,mG _ (by decide),gv Tryd.func36 (by rfl) (by kernel_rfl),Xo,Xn⟩
def FF(sz by_:Nat):PSpec:=⟨fun xs=>∃ l,xs=[.sl l]/\(∀ z∈l,z.cells.length=sz/\z.okc=true)/\l.length*by_<=140737488355328,fun xs=>xs.headD default,false⟩
theorem KU{P:Program}{f T E sz by_:Nat}{Z:Value}(L:sN P f T E sz by_ Z)(hz:Z.cells.size=sz)(hb:0<by_):aR P f (FF sz by_):=by
 refine Fo (u9 L) L.ne (fun h=>by cases h) ?_
 rintro xs ⟨l,rfl,hl,hn⟩
 simp only[nx,List.map_cons,List.map_nil,FF,List.headD_cons]
 cases l with
 |nil=>exact⟨trivial,trivial,rfl⟩
 |cons y r=>
  have e:gh P (fun _=>none) [0,0] T (.v (.sl (y::r)))=b9 P (fun _=>none) [0,0] T T .nilsl (.v (.sl (y::r))):=rfl
  rw[e]
  have oc:(y::r).length*by_<=140737488355328:=hn
  have iv:(y::r).length<=maxLen:=by unfold maxLen;have:=Nat.le_mul_of_pos_right (y::r).length hb;omega
  simp only[b9,L.tE,L.tZ,aw,ar,aE,aK]
  exact⟨⟨trivial,hl,hz,oc,iv,trivial⟩,trivial,trivial⟩
theorem aR.conv{P:Program}{f:FuncId}{s s':PSpec}(h:aR P f s)(hf:s'.flat=s.flat)(hp:∀ xs,s'.pre xs->s.pre xs/\s'.fn xs=s.fn xs):aR P f s':=by
 refine⟨h.ne,h.enter,fun fZ xs hx=>?_,fun m w xs args hm ht hx cr=>?_⟩
 ·rw[(hp xs hx).2];exact h.flat (hf▸fZ) xs (hp xs hx).1
 ·rw[(hp xs cr).2];exact h.calls m w xs args hm ht hx (hp xs cr).1
noncomputable def DP:PSpec:=p1 ei (fun l=>l.length*8<=140737488355328) (fun l=>.sl (l.map vInt)) false
noncomputable def S77:Spec:=DP.toSpec
theorem AK:ak Tryd.prog 36 S77:=(aR.conv (s':=DP) (KU Dh rfl (by decide)) rfl (by
 intro xs hx
 obtain⟨l,rfl,hl,e⟩:=wj hx
 exact⟨⟨_,rfl,fun z hz=>by obtain⟨x,_,rfl⟩:=List.mem_map.1 hz;exact⟨rfl,rfl⟩,by simpa using hl⟩,e⟩)).sound
noncomputable def DQ:PSpec:=p1 jF (fun l=>l.length*16<=140737488355328) (fun l=>.sl (l.map encPa)) false
noncomputable def S76:Spec:=DQ.toSpec
theorem HT:ak Tryd.prog 46 S76:=(aR.conv (s':=DQ) (KU Di rfl (by decide)) rfl (by
 intro xs hx
 obtain⟨l,rfl,hl,e⟩:=wj hx
 exact⟨⟨_,rfl,fun z hz=>by obtain⟨x,_,rfl⟩:=List.mem_map.1 hz;exact⟨rfl,rfl⟩,by simpa using hl⟩,e⟩)).sound
attribute [go_sem] DQ S76 DP S77
open Go
structure M8 (r:Lp) (caps:List Name->List D):Prop where
 ren:∀ f Ls,Ls.length=r.m->D.renL f (caps Ls)=caps (Ls.map f)
 clo:∀ dom Ls,Ls.length=r.m->(∀ x∈Ls,dom x=true)->D.closL dom (caps Ls)=true
 reach:∀ Ls s obj R k,Ls.length=r.m->(R::Ls).Nodup->dD obj Ls (r.fam Ls s)->obj R=some (r.rc Ls .ready none)->ef obj (k+r.fu+1) (R::c9 (caps Ls)) []=R::Ls
def Lp.itC(r:Lp)(caps:List Name->List D):CSpec where
 pre:=fun os ds=>os=r.rc (LI r.m) .ready none::r.fam (LI r.m) 0/\ds=.yld [0,1]::caps (LI r.m)
 out:=fun _ _=>⟨(0,r.fin (LI r.m))::dX 1 (r.fam (LI r.m) r.e),[],.tup []⟩
theorem Lp.itC_app{r:Lp}(hr:r.Ok){caps:List Name->List D}(uE:M8 r caps){obj:Name->Option O}{t R:Name}{Ls:List Name}(hl:Ls.length=r.m)(hn:Ls.Nodup)(hR:R∉Ls)
 (h0:obj R=some (r.rc Ls .ready none)) (hF:dD obj Ls (r.fam Ls 0)):
 (r.itC caps).toSpec.app obj t (.yld R::caps Ls)=⟨True,.tup [],cI Ls (r.fam Ls r.e) (upd obj R (some (r.fin Ls)))⟩:=by
 have ub:(R::Ls).Nodup:=List.nodup_cons.2 ⟨hR,hn⟩
 have iu:reach obj (.yld R::caps Ls)=R::Ls:=by
  unfold reach
  have :=uE.reach Ls 0 obj R (2999-r.fu) hl ub hF h0
  rw[show 2999-r.fu+r.fu+1=3000 by have:=hr.fuel;omega]at this
  exact this
 have B3:∀ s,dD obj Ls (r.fam Ls s)->Ls.map (bV (R::Ls) obj)=(r.fam Ls s).map (O.ren (cin (R::Ls))):=by
  intro s hF
  rw[ie]at hF
  refine List.ext_getElem (by simp[hr.len _ _ hl,hl]) fun i h1 h2=>?_
  have h3:i<Ls.length:=by simpa using h1
  have h4:i<(r.fam Ls s).length:=by rw[hr.len _ _ hl,<-hl];exact h3
  have h5:=congrArg (fun l=>l[i]?) hF
  have h6:obj Ls[i]=some (r.fam Ls s)[i]:=by simpa[h3,h4]using h5
  simp only[List.getElem_map,bV,h6]
 have e1:bZ obj (.yld R::caps Ls)=r.rc (LI r.m) .ready none::r.fam (LI r.m) 0:=by
  unfold bZ
  rw[iu,List.map_cons,B3 0 hF,hr.renF _ _ _ hl,va hn hR,hl]
  congr 1
  unfold Lp.rc at h0 |-
  simp only[bV,h0,O.ren]
  rw[hr.renE _ _ hl,va hn hR,hl]
 have e2:cG obj (.yld R::caps Ls)=.yld [0,1]::caps (LI r.m):=by
  unfold cG
  rw[iu]
  simp only[D.renL,D.ren,uE.ren _ _ hl]
  rw[va hn hR,hl]
  simp only[cin,idx,if_true]
 have cr:(r.itC caps).pre (r.rc (LI r.m) .ready none::r.fam (LI r.m) 0) (.yld [0,1]::caps (LI r.m)):=⟨rfl,rfl⟩
 have fB:∀ os ds,(r.itC caps).out os ds=⟨(0,r.fin (LI r.m))::dX 1 (r.fam (LI r.m) r.e),[],.tup []⟩:=fun _ _=>rfl
 have r5:∀ x∈Ls,bY (R::Ls) x=true:=fun x hx=>gS.2 (List.mem_cons_of_mem _ hx)
 have fb:shut obj (R::Ls)=true:=by
  unfold shut
  rw[List.all_eq_true]
  intro x hx
  rcases List.mem_cons.1 hx with rfl | hx
  ·rw[h0]
   unfold Lp.rc
   exact hr.closE _ _ hl r5
  obtain⟨i,hi,rfl⟩:=List.getElem_of_mem hx
  rw[ie]at hF
  have h4:i<(r.fam Ls 0).length:=by rw[hr.len _ _ hl,<-hl];exact hi
  have h5:=congrArg (fun l=>l[i]?) hF
  have h6:obj Ls[i]=some (r.fam Ls 0)[i]:=by simpa[hi,h4]using h5
  rw[h6]
  exact hr.closF _ _ _ hl r5 _ (List.getElem_mem h4)
 have bI:D.closL (bY (R::Ls)) (.yld R::caps Ls)=true:=by
  show (bY (R::Ls) R&&D.closL _ _)=true
  rw[uE.clo _ _ hl r5]
  simp[bY]
 have hp:∀ obj',bX (R::Ls) t (dX 1 (r.fam (LI r.m) r.e)) obj'=cI Ls (r.fam Ls r.e) obj':=by
  intro obj'
  rw[wc (Ls:=Ls) (by rw[hr.len _ _ (c7 _),hl]) fun i hi=>by
   rw[Nat.add_comm,List.getD_cons_succ];exact jj hi,hr.renF _ _ _ (c7 _)]
  have :(LI r.m).map (cout (R::Ls) t)=Ls:=by rw[<-hl];exact yi R Ls t
  rw[this]
 have hf:O.ren (cout (R::Ls) t) (r.fin (LI r.m))=r.fin Ls:=by
  unfold Lp.fin Lp.rc
  simp only[O.ren]
  rw[hr.renE _ _ (c7 _)]
  have :(LI r.m).map (cout (R::Ls) t)=Ls:=by rw[<-hl];exact yi R Ls t
  rw[this]
 simp only[CSpec.toSpec,e1,e2,iu,fB,fb,bI,fresh,List.all_nil,Bool.and_self,cr,and_self,cV,bX,List.getD_cons_zero,hf,hp,D.ren,D.renL]
theorem ae6{P:Program}{r:Lp}(hr:r.Ok){caps:List Name->List D}(uE:M8 r caps){g:Operand}{ps:Array Tmp}{asg body:Code}{σ:S}{rest:List Code}{K:Exit->S->Prop}(k k':Nat){f:FuncId}{Ls:List Name}
 (hc:cg σ g=true) (hg:aj σ g=.clo (.func f) [] (caps Ls)) (an:f≠yid) (hs:ak P f (r.itC caps).toSpec) (kR:σ.obj (k::σ.pre)=none)
 (he:(List.range σ.nt).map σ.env=r.env Ls) (eu:ps.toList=r.ps) (ha:asg=r.asg) (hb:body=r.body) (hl:Ls.length=r.m) (hn:Ls.Nodup) (hR:(k::σ.pre)∉Ls) (hF:dD σ.obj Ls (r.fam Ls 0))
 (hK:∀ o:O,zU (fQ (fun σ'=>CL P rest σ' K) K) { σ with obj:=upd (cI Ls (r.fam Ls r.e) σ.obj) (k::σ.pre) (some o) } r.pd):CL P (.rangeFunc g ps asg body::rest) σ K:=by
 subst ha
 subst hb
 generalize k9:k::σ.pre=R at *
 have B7:∀ x∈Ls,(upd σ.obj R (some (r.rc Ls .ready none))) x=σ.obj x:=fun x hx=>aL _ _ _ (by rintro rfl;exact hR hx)
 have kY:=Lp.itC_app hr uE (t:=k'::σ.pre) hl hn hR (aE σ.obj R (some (r.rc Ls .ready none))) (F2 hF B7)
 have tY:O.loop ((List.range σ.nt).map σ.env) ps.toList r.asg r.body .ready none=r.rc Ls .ready none:=by unfold Lp.rc;rw[he,eu]
 have ji:dM (aj σ g) [.yld R]=.yld R::caps Ls:=by rw[hg];rfl
 have cS:eR (aj σ g)=some f:=by rw[hg];simp[eR,an]
 have Ba:∀ (F:List O) (obj:Name->Option O) (a b:Option O),upd (cI Ls F (upd obj R a)) R b=upd (cI Ls F obj) R b:=by
  intro F obj a b
  funext x
  by_cases h:x=R
  ·subst h;rw[aE,aE]
  ·rw[aL _ _ _ h,aL _ _ _ h]
   have :∀ (Ls:List Name) (F:List O) (o1 o2:Name->Option O),o1 x=o2 x->cI Ls F o1 x=cI Ls F o2 x:=by
    intro Ls
    induction Ls with
    |nil=>intro F o1 o2 h;simpa[cI]using h
    |cons y ys ih=>
     intro F o1 o2 h
     cases F with
     |nil=>simpa[cI]using h
     |cons f fs=>
      simp only[cI]
      refine ih fs _ _ ?_
      by_cases e:x=y
      ·subst e;rw[aE,aE]
      ·rw[aL _ _ _ e,aL _ _ _ e,h]
   exact this Ls F _ _ (aL _ _ _ h)
 refine Dj (Γ:=fun x=>if x=f then some (r.itC caps).toSpec else none) (fun x s hx=>by
  split at hx
  ·rename_i e;cases hx;subst e;exact hs
  ·cases hx) k k' hc cS an (if_pos rfl) (by rw[k9];exact kR) ?_ ?_
 ·rw[k9,ji,tY,kY];trivial
 ·rw[k9,ji,tY,kY]
  have jg:cI Ls (r.fam Ls r.e) (upd (upd σ.obj R (some (r.rc Ls .ready none))) R (some (r.fin Ls))) R=some (r.fin Ls):=by rw[nO hR,aE]
  have jG:hU (cI Ls (r.fam Ls r.e) (upd (upd σ.obj R (some (r.rc Ls .ready none))) R (some (r.fin Ls)))) R=
      upd (cI Ls (r.fam Ls r.e) σ.obj) R (some (r.rc Ls .exhausted r.pd)):=by
   unfold hU
   rw[jg]
   unfold Lp.fin Lp.rc
   simp only[Ba]
  refine Gp r.pd jg ?_
  rw[jG]
  exact hK (r.rc Ls .exhausted r.pd)
def iR(obj:Name->Option O)(L:List O):Name->Option O:=fun nm=>match be L nm with | some o=>some o | none=>obj nm
theorem acV{L1 L2:List O}(h:L2.length=L1.length):iR (be L1) L2=be L2:=by
 funext nm
 unfold iR
 cases hx:ct nm with
 |false=>rw[td hx,td hx]
 |true=>
  obtain⟨i,rfl⟩:=tz.1 hx
  simp only[be]
  by_cases hi:i<L2.length
  ·rw[List.getElem?_eq_getElem hi]
  ·rw[List.getElem?_eq_none (by omega),List.getElem?_eq_none (by omega)]
theorem adv(n:Nat)(p:Name)(F H:Name->Option O)(L:List O)(l:List (Nat×E))(h:List (Name×O)):
 aS n p (iR (fun nm=>if own p nm=true then F nm else H nm) L) l h=aS n p (iR H L) l h:=
 wH fun nm hn=>by unfold iR;simp[hn]
theorem afN(p:Name)(dom:Name->Bool)(F H:Name->Option O)(L:List O):
 cZ p dom (iR (fun nm=>if own p nm=true then F nm else H nm) L)=cZ p dom (iR H L):=by
 have e:∀ nm,own p nm=false->iR (fun nm=>if own p nm=true then F nm else H nm) L nm=iR H L nm:=fun nm hn=>by unfold iR;simp[hn]
 exact propext ⟨fun k nm q hn h=>k nm q hn (by rw[e nm hn];exact h),fun k nm q hn h=>k nm q hn (by rw[<-e nm hn];exact h)⟩
def Lp.I(r:Lp)(s:Nat):List O:=r.rc (LI r.m) .ready none::r.fam (LI r.m) s
theorem Lp.I_len{r:Lp}(hr:r.Ok)(s:Nat):(r.I s).length=r.m+1:=by unfold Lp.I;rw[List.length_cons,hr.len _ _ (c7 _)]
theorem Lp.I_clos{r:Lp}(hr:r.Ok)(s:Nat):∀ o∈r.I s,∀ dom:Name->Bool,(∀ i,dom [i,1]=true)->O.clos dom o=true:=by
 intro o ho dom hd
 have ff:∀ x∈LI r.m,dom x=true:=fun x hx=>by
  obtain⟨i,_,rfl⟩:=List.mem_map.1 hx
  exact hd _
 rcases List.mem_cons.1 ho with rfl | ho
 ·exact hr.closE _ _ (c7 _) ff
 ·exact hr.closF _ _ _ (c7 _) ff _ ho
theorem Lp.y_setU{r:Lp}(hr:r.Ok)(cC:∀ j,r.st j=none){s:Nat}(hs:s<r.n)(obj:Name->Option O)(tm:Name)(ho:∀ nm,ct nm=true->obj nm=be (r.I s) nm):
 r.y.toSpec.app obj tm (.yld [0,1]::r.vals s)=⟨True,.v (.bool true),iR obj (r.I (s+1))⟩:=by
 have l3:(LI r.m).Nodup:=List.Pairwise.map _ (fun a b h=>by simpa using h) List.nodup_range
 have k9:([0,1]:Name)∉LI r.m:=fun h=>by
  obtain⟨i,_,hi⟩:=List.mem_map.1 h
  simp at hi
 have h0:obj [0,1]=some (r.rc (LI r.m) .ready none):=by
  rw[ho _ rfl];rfl
 have hF:dD obj (LI r.m) (r.fam (LI r.m) s):=by
  rw[ie]
  refine List.ext_getElem (by rw[List.length_map,List.length_map,c7,hr.len _ _ (c7 _)]) fun i h3 h4=>?_
  simp only[List.getElem_map,LI,List.getElem_range]
  rw[ho _ rfl]
  simp only[Lp.I,be,List.getElem?_cons_succ]
  have h5:i<(r.fam (LI r.m) s).length:=by simpa using h4
  rw[List.getElem?_eq_getElem h5]
  rfl
 have kY:=Lp.y_app hr hs (fun j _=>cC j) (t:=tm) (c7 _) l3 k9 h0 hF
 rw[kY,cC s]
 simp only[Option.isNone_none,if_true]
 congr 1
 funext nm
 have hlen:=hr.len (LI r.m) (s+1) (c7 _)
 by_cases hR:nm=[0,1]
 ·subst hR
  rw[aE]
  rfl
 ·rw[aL _ _ _ hR]
  unfold iR
  cases hx:ct nm with
  |false=>
   rw[td hx,nO]
   intro ev
   obtain⟨i,_,rfl⟩:=List.mem_map.1 ev
   cases hx
  |true=>
   obtain⟨i,rfl⟩:=tz.1 hx
   have dv:=zo (obj:=obj) (F:=r.fam (LI r.m) (s+1)) l3 (by rw[c7,hlen])
   match i,hR with
   | 0,hR=>exact(hR rfl).elim
   |i+1,_=>
    simp only[Lp.I,be,List.getElem?_cons_succ]
    by_cases hi:i<r.m
    ·have h6:=wz dv i (by rw[c7];exact hi) (by rw[hlen];exact hi)
     simp only[LI,List.getElem_map,List.getElem_range]at h6
     rw[show (r.fam (LI r.m) (s+1))[i]?=some (r.fam (LI r.m) (s+1))[i]from List.getElem?_eq_getElem (by rw[hlen];exact hi)]
     exact h6
    ·rw[List.getElem?_eq_none (by rw[hlen];omega),nO]
     intro ev
     obtain⟨j,jI,oh⟩:=List.mem_map.1 ev
     have :=List.mem_range.1 jI
     simp at oh
     omega
theorem Lp.go_e{r:Lp}(cC:∀ j,r.st j=none):r.e=r.n/\r.pd=none:=by
 have :(List.range r.n).find? (fun s=>(r.st s).isSome)=none:=List.find?_eq_none.2 fun s _=>by rw[cC s];decide
 unfold Lp.e Lp.pd
 rw[this]
 exact⟨rfl,rfl⟩
theorem Lp.go_end{P:Program}{r:Lp}(hr:r.Ok)(cC:∀ j,r.st j=none){σ:S}(du:∀ i,σ.obj [i,1]=be (r.I r.n) [i,1]):
 (bL P σ []).ok/\(bL P σ []).d=.tup []/\fL (r.rc (LI r.m) .ready none::r.fam (LI r.m) 0) ⟨(0,r.fin (LI r.m))::dX 1 (r.fam (LI r.m) r.e),[],.tup []⟩ σ:=by
 obtain⟨e1,e2⟩:=Lp.go_e cC
 refine Lp.it_end hr ?_ ?_
 ·rw[du]
  unfold Lp.fin
  rw[e2]
  rfl
 ·rw[ie,e1]
  refine List.ext_getElem (by rw[List.length_map,List.length_map,c7,hr.len _ _ (c7 _)]) fun i h3 h4=>?_
  simp only[List.getElem_map,LI,List.getElem_range]
  rw[du]
  simp only[Lp.I,be,List.getElem?_cons_succ]
  have h5:i<(r.fam (LI r.m) r.n).length:=by simpa using h4
  rw[List.getElem?_eq_getElem h5]
  rfl
theorem Lp.itC_sound{P:Program}{r:Lp}(hr:r.Ok)(cC:∀ j,r.st j=none){caps:List Name->List D}{f:FuncId}{fn:Func}{nt:Nat}(hf:P.funcs[f]?=some fn)(ek:fn.ntmps=nt)(eJ:fn.results.toList=[])(hn:(fn.name== "runtime.NumGoroutine")=false)(hy:f<1000000000)
 (hw:∃ c,fn.body=some c/\(caps (LI r.m)).length+1<=nt/\CL P [c] (aS nt [0] (be (r.I 0)) (eA 0 (.yld [0,1]::caps (LI r.m))) []) (fun e σ=>(e=.normal\/e=.ret)/\∀ i,σ.obj [i,1]=be (r.I r.n) [i,1])):ak P f (r.itC caps).toSpec:=by
 obtain⟨c,hc,hl,hw⟩:=hw
 refine lk hf hc ek eJ (gv hf hc hn) (Nat.ne_of_lt (show f<yid from hy)) ?_
 rintro os ds ⟨rfl,rfl⟩
 refine⟨by simpa using hl,CW.mono (iD hw) ?_⟩
 rintro e σ ⟨he,du⟩
 rcases he with rfl | rfl
 ·exact Lp.go_end hr cC du
 ·exact Lp.go_end hr cC du
theorem Lp.it_sound{P:Program}{r:Lp}(hr:r.Ok)(cC:∀ j,r.st j=none){caps:List V}{f:FuncId}{fn:Func}{nt:Nat}(hf:P.funcs[f]?=some fn)(ek:fn.ntmps=nt)(eJ:fn.results.toList=[])(hn:(fn.name== "runtime.NumGoroutine")=false)(hy:f<1000000000)
 (hw:∃ c,fn.body=some c/\caps.length+1<=nt/\CL P [c] (aS nt [0] (be (r.I 0)) (eA 0 (.yld [0,1]::caps.map .v)) []) (fun e σ=>(e=.normal\/e=.ret)/\∀ i,σ.obj [i,1]=be (r.I r.n) [i,1])):ak P f (r.it caps).toSpec:=by
 obtain⟨c,hc,hl,hw⟩:=hw
 refine lk hf hc ek eJ (gv hf hc hn) (Nat.ne_of_lt (show f<yid from hy)) ?_
 rintro os ds ⟨rfl,rfl⟩
 refine⟨by simpa using hl,CW.mono (iD hw) ?_⟩
 rintro e σ ⟨he,du⟩
 rcases he with rfl | rfl
 ·exact Lp.go_end hr cC du
 ·exact Lp.go_end hr cC du
structure Ro (α:Type) where
 m:Nat
 fam:α->List Name->List O
 args:α->List Name->List D
 ok:α->Prop
 val:α->D
structure Ro.Ok {α:Type} (r:Ro α):Prop where
 len:∀ a Ls,Ls.length=r.m->(r.fam a Ls).length=r.m
 renF:∀ a f Ls,Ls.length=r.m->(r.fam a Ls).map (O.ren f)=r.fam a (Ls.map f)
 renA:∀ a f Ls,Ls.length=r.m->D.renL f (r.args a Ls)=r.args a (Ls.map f)
 reach:∀ a Ls obj,Ls.length=r.m->Ls.Nodup->dD obj Ls (r.fam a Ls)->reach obj (r.args a Ls)=Ls
 closF:∀ a dom Ls,Ls.length=r.m->(∀ x∈Ls,dom x=true)->∀ o∈r.fam a Ls,O.clos dom o=true
 closA:∀ a dom Ls,Ls.length=r.m->(∀ x∈Ls,dom x=true)->D.closL dom (r.args a Ls)=true
 det:∀ a b,r.ok a->r.ok b->r.fam a (LR r.m)=r.fam b (LR r.m)->r.args a (LR r.m)=r.args b (LR r.m)->r.val a=r.val b
 vcl:∀ a dom,D.clos dom (r.val a)=true
 vren:∀ a f,(r.val a).ren f=r.val a
variable {α:Type}
noncomputable def Ro.c(r:Ro α):CSpec where
 pre:=fun os ds=>∃ a,r.ok a/\os=r.fam a (LR r.m)/\ds=r.args a (LR r.m)
 out:=fun os ds=>⟨[],[],by classical exact if h:∃ a,r.ok a/\os=r.fam a (LR r.m)/\ds=r.args a (LR r.m)then r.val h.choose else .any⟩
theorem Ro.c_out{r:Ro α}(hr:r.Ok){a:α}(ha:r.ok a):r.c.out (r.fam a (LR r.m)) (r.args a (LR r.m))=⟨[],[],r.val a⟩:=by
 have h:∃ b,r.ok b/\r.fam a (LR r.m)=r.fam b (LR r.m)/\r.args a (LR r.m)=r.args b (LR r.m):=⟨a,ha,rfl,rfl⟩
 have e:r.val h.choose=r.val a:=(hr.det _ _ ha h.choose_spec.1 h.choose_spec.2.1 h.choose_spec.2.2).symm
 simp only[Ro.c]
 rw[dif_pos h,e]
theorem Ro.c_app{r:Ro α}(hr:r.Ok){a:α}(ha:r.ok a){obj:Name->Option O}{t:Name}{Ls:List Name}(hl:Ls.length=r.m)(hn:Ls.Nodup)(hF:dD obj Ls (r.fam a Ls)):
 r.c.toSpec.app obj t (r.args a Ls)=⟨True,r.val a,obj⟩:=by
 have iu:=hr.reach a Ls obj hl hn hF
 have xJ:Ls.map (cin Ls)=LR r.m:=by rw[Dl hn,hl]
 have e1:bZ obj (r.args a Ls)=r.fam a (LR r.m):=by
  unfold bZ
  rw[iu]
  have uL:=hF
  rw[ie]at uL
  have :Ls.map (bV Ls obj)=(r.fam a Ls).map (O.ren (cin Ls)):=by
   refine List.ext_getElem (by simp[hr.len _ _ hl,hl]) fun i h1 h2=>?_
   have h3:i<Ls.length:=by simpa using h1
   have h4:i<(r.fam a Ls).length:=by rw[hr.len _ _ hl,<-hl];exact h3
   have h5:=congrArg (fun l=>l[i]?) uL
   have h6:obj Ls[i]=some (r.fam a Ls)[i]:=by simpa[h3,h4]using h5
   simp only[List.getElem_map,bV,h6]
  rw[this,hr.renF _ _ _ hl,xJ]
 have e2:cG obj (r.args a Ls)=r.args a (LR r.m):=by
  unfold cG
  rw[iu,hr.renA _ _ _ hl,xJ]
 have fY:∀ x∈Ls,bY Ls x=true:=fun x hx=>gS.2 hx
 have fb:shut obj Ls=true:=by
  unfold shut
  rw[List.all_eq_true]
  intro x hx
  obtain⟨i,hi,rfl⟩:=List.getElem_of_mem hx
  have uL:=hF
  rw[ie]at uL
  have h4:i<(r.fam a Ls).length:=by rw[hr.len _ _ hl,<-hl];exact hi
  have h5:=congrArg (fun l=>l[i]?) uL
  have h6:obj Ls[i]=some (r.fam a Ls)[i]:=by simpa[hi,h4]using h5
  rw[h6]
  exact hr.closF _ _ _ hl fY _ (List.getElem_mem h4)
 have cr:r.c.pre (r.fam a (LR r.m)) (r.args a (LR r.m)):=⟨a,ha,rfl,rfl⟩
 simp only[CSpec.toSpec,e1,e2,iu,Ro.c_out hr ha,fb,hr.closA _ _ _ hl fY,fresh,List.all_nil,Bool.and_self,cr,and_self,cV,bX,hr.vren]
def E2(P:Program)(rs:List ResultVar)(v:D)(H:Name->Option O)(e:Exit)(σ:S):Prop:=
 (e=.normal\/e=.ret)/\(bL P σ rs).ok/\(bL P σ rs).d=v/\∀ i,σ.obj [i,1]=H [i,1]
theorem FZ{σ:S}:∀ {os:List O} {k:Nat},(∀ i (h:i<os.length),σ.obj [k+i,1]=some os[i])->pz σ [] k os
 |[],_,_=>trivial
 |o::r,k,h=>by
  refine⟨by have:=h 0 (by simp);simp only[Nat.add_zero,List.getElem_cons_zero]at this;exact this,FZ fun i hi=>?_⟩
  have :=h (i+1) (by simpa using hi)
  rw[show k+1+i=k+(i+1)by omega]
  simpa using this
theorem Ro.sound{P:Program}{r:Ro α}(hr:r.Ok){f:FuncId}{fn:Func}{nt:Nat}{rs:List ResultVar}(hf:P.funcs[f]?=some fn)(ek:fn.ntmps=nt)(eJ:fn.results.toList=rs)(hn:(fn.name== "runtime.NumGoroutine")=false)(hy:f<1000000000)
 (hw:∃ c,fn.body=some c/\∀ a,r.ok a->(r.args a (LR r.m)).length<=nt/\CL P [c] (aS nt [0] (be (r.fam a (LR r.m))) (eA 0 (r.args a (LR r.m))) []) (E2 P rs (r.val a) (be (r.fam a (LR r.m))))):ak P f r.c.toSpec:=by
 obtain⟨c,hc,hw⟩:=hw
 refine lk hf hc ek eJ (gv hf hc hn) (Nat.ne_of_lt (show f<yid from hy)) ?_
 rintro os ds ⟨a,ha,rfl,rfl⟩
 obtain⟨hl,h⟩:=hw a ha
 refine⟨hl,?_⟩
 rw[Ro.c_out hr ha]
 refine CW.mono (iD h) ?_
 rintro e σ ⟨he,h1,h2,h3⟩
 have fin:(bL P σ rs).ok/\(bL P σ rs).d=r.val a/\fL (r.fam a (LR r.m)) ⟨[],[],r.val a⟩ σ:=by
  refine⟨h1,h2,FZ fun i hi=>?_,trivial,?_⟩
  ·rw[Nat.zero_add,h3]
   show (r.fam a (LR r.m))[i]?=_
   rw[List.getElem?_eq_getElem hi]
  ·simp[hr.vcl,distinct]
 rcases he with rfl | rfl
 ·exact fin
 ·exact fin
theorem Ro.outC{r:Ro α}(hr:r.Ok)(a:α):∀ hs,cZ [0] (cM [0] hs) (be (r.fam a (LR r.m)))=True:=fun hs=>eq_true (z1 (fun o ho dom hd=>hr.closF a dom _ (sL _) (fun x hx=>by
 obtain⟨i,_,rfl⟩:=List.mem_map.1 hx
 exact hd i) o ho) hs)
open Go Go.Proofs
def iM(s:Stk):Prop:=s.ho.length*8<=140737488355328/\∀ i,i<6->(s.un.get i).length*16<=140737488355328
theorem ea.sz{s:Stk}(h:ea s):iM s:=⟨by have:=h.hol;omega,fun i hi=>by have:=h.unl i hi;omega⟩
theorem Ak:∀ {a b:List V},a.map D.v=b.map D.v->a=b
 |[],[],_=>rfl
 |[],_::_,h=>by cases h
 |_::_,[],h=>by cases h
 |x::r,y::q,h=>by
  simp only[List.map_cons,List.cons.injEq,D.v.injEq]at h
  rw[h.1,Ak h.2]
theorem s4(f:Name->Name):∀ l:List V,D.renL f (l.map .v)=l.map .v
 |[]=>rfl
 |x::r=>by
  rw[List.map_cons,D.renL,s4 f r];rfl
theorem F7:∀ l:List V,c9 (l.map .v)=[]
 |[]=>rfl
 |x::r=>by
  rw[List.map_cons,c9,F7 r];rfl
theorem Ah{Ls:List Name}(h:Ls.length=1):∃ a,Ls=[a]:=by
 match Ls,h with
 |[a],_=>exact⟨a,rfl⟩
def iO:Ro (List V×Nat×Stk) where
 m:=1
 fam a _:=[.box (a.1.map .v)]
 args a Ls:=[.ref (Ls.headD [0,1]) a.2.1]
 ok a:=(a.1.drop a.2.1).take 19=aB a.2.2/\iM a.2.2
 val a:=.v (l7 a.2.2)
theorem sU:iO.Ok where
 len:=fun _ _ _=>rfl
 renF:=fun a f Ls _=>by simp only[iO,List.map_cons,List.map_nil,O.ren,s4]
 renA:=fun a f Ls h=>by
  obtain⟨n,rfl⟩:=Ah h
  rfl
 reach:=fun a Ls obj h _ hF=>by
  obtain⟨n,rfl⟩:=Ah h
  obtain⟨h1,_⟩:=hF
  have en:c9 (iO.args a [n])=[n]:=rfl
  unfold Go.Eng.reach
  rw[en]
  show ef obj (2998+1+1) [n] []=[n]
  simp[ef,gS,h1,nW,F7]
 closF:=fun a dom Ls _ _ o ho=>by
  simp only[iO,List.mem_singleton]at ho
  subst ho
  exact sB _ _
 closA:=fun a dom Ls h hd=>by
  obtain⟨n,rfl⟩:=Ah h
  simp[iO,D.closL,D.clos,hd n (by simp)]
 det:=fun a b h1 h2 h3 h4=>by
  have e1:a.1=b.1:=Ak (O.box.inj (List.cons.inj h3).1)
  have e2:a.2.1=b.2.1:=(D.ref.inj (List.cons.inj h4).1).2
  have e3:aB a.2.2=aB b.2.2:=by rw[<-h1.1,<-h2.1,e1,e2]
  have e4:a.2.2=b.2.2:=by rw[<-nw a.2.2,e3,nw]
  simp only[iO,e4]
 vcl:=fun _ _=>rfl
 vren:=fun _ _=>rfl
noncomputable def S59:Spec:=iO.c.toSpec
theorem Wi(l:List V)(i:Nat):(l.map D.v).getD i .any=if i<l.length then .v (l.getD i default)else .any:=by
 by_cases h:i<l.length
 ·rw[if_pos h,iz (by simpa using h),iz h];simp
 ·rw[if_neg h];simp[List.getD,List.getElem?_eq_none (Nat.le_of_not_lt h)]
theorem C9{l:List V}{off:Nat}{s:Stk}(h:(l.drop off).take 19=aB s){i:Nat}(hi:i<19):(l.map D.v).getD (off+i) .any=.v ((aB s).getD i default):=by
 have hlen:19<=(l.drop off).length:=by
  have :=congrArg List.length h
  rw[List.length_take,iN]at this
  omega
 rw[List.length_drop]at hlen
 rw[Wi,if_pos (by omega),<-h,iz (show off+i<l.length by omega),iz (by rw[List.length_take,List.length_drop];omega)]
 simp
theorem KA{l:List V}{off:Nat}{s:Stk}(h:(l.drop off).take 19=aB s):((l.map D.v).drop off).take 19=(aB s).map D.v:=by
 rw[<-h,List.map_take,List.map_drop]
theorem C7{l:List V}{off:Nat}{s:Stk}(h:(l.drop off).take 19=aB s):off+19<=l.length:=by
 have :=congrArg List.length h
 rw[List.length_take,iN,List.length_drop]at this
 omega
@[go_sem] theorem acA(s:Stk):D.v (.sl (s.ho.map vInt))::List.drop 1 ((aB s).map D.v)=(aB s).map D.v:=rfl
theorem ra(s:Stk){i:Nat}(h:i<6):List.take (1+i) ((aB s).map D.v)++[D.v (.sl ((s.un.get i).map encPa))]++List.drop (1+i+1) ((aB s).map D.v)=(aB s).map D.v:=by
 match i,h with
 | 0,_=>rfl
 | 1,_=>rfl
 | 2,_=>rfl
 | 3,_=>rfl
 | 4,_=>rfl
 | 5,_=>rfl
theorem Ky{l:List V}{off:Nat}{s:Stk}(h:(l.drop off).take 19=aB s){i:Nat}(hi:i<6):(l.map D.v).getD (off+1+i) .any=.v (rowP (s.un.get i)):=by
 rw[Nat.add_assoc,C9 h (show 1+i<19 by omega),dh s hi]
@[go_sem] theorem acD(s:Stk):List.take 19 ((aB s).map D.v)=(aB s).map D.v:=rfl
@[go_sem] theorem acE(s:Stk):((aB s).map D.v).length=19:=rfl
attribute [go_sem] E2
noncomputable def MX:List (Nat×Spec):=[(46,S76),(36,S77)]
theorem MW:∀ f s,tbl MX f=some s->ak Tryd.prog f s:=tc HT<|tc AK<|tn
attribute [go_sem] MX
set_option maxHeartbeats 4000000 in
theorem tw:ak Tryd.prog 37 S59:=by
 refine Ro.sound sU (rs:=[.cell 2 39]) Tryd.func37 Tryd.ntmps37 (by rfl) (by kernel_rfl) (by decide) ⟨_,rfl,?_⟩
 rintro⟨l,off,s⟩ ⟨jh,bj⟩
 refine⟨lb rfl,?_⟩
 have hΓ:=MW
 have hO:=Ro.outC sU (l,off,s)
 have h0:be (iO.fam (l,off,s) (LR iO.m)) [0,1]=some (.box (l.map .v)):=rfl
 generalize be (iO.fam (l,off,s) (LR iO.m))=H at *
 have ha:iO.args (l,off,s) (LR iO.m)=[.ref [0,1] off]:=rfl
 have hv:iO.val (l,off,s)=.v (l7 s):=rfl
 rw[ha,hv]
 simp only[eA,Nat.zero_add]at h0 |-
 replace jh:(l.drop off).take 19=aB s:=jh
 replace bj:iM s:=bj
 have hA:=KA jh
 have hB:=C9 jh (show 0<19 by omega)
 have hL:=C7 jh
 have jN:(l.map D.v).getD off .any=.v (fo s.ho):=hB
 repeat refine sq ?_
 refine rx hΓ [0,2] [[2,0]] (fun K' hK=>by simp only[go_sem,hO,h0];(repeat (refine⟨ob,?_⟩));exact hK _ (by simp only[go_sem,hO,h0]) (by simp only[go_sem,hO,h0]<;>rfl)) ?_
 repeat refine sq ?_
 refine rx hΓ [0,2,3] [[2,0],[3,0]] (fun K' hK=>by simp only[go_sem,hO,h0,hA,hB,hL,List.length_map,List.append_nil,iN];(repeat (refine⟨ob,?_⟩));exact hK _ (by simp only[go_sem,hO,h0,hA,hB,hL,List.length_map,List.append_nil,iN]) (by simp only[go_sem,hO,h0,hA,hB,hL,List.length_map,List.append_nil,iN]<;>rfl)) ?_
 repeat refine sq ?_
 refine rx hΓ [0,2,3] [[2,0],[3,0]] (fun K' hK=>by simp only[go_sem,hO,h0,Nat.add_zero,jN,bj.1];(repeat (refine⟨ob,?_⟩));exact hK _ (by simp only[go_sem,hO,h0,Nat.add_zero,jN,bj.1]) (by simp only[go_sem,hO,h0,Nat.add_zero,jN,bj.1]<;>rfl)) ?_
 repeat refine sq ?_
 refine rx hΓ [0,2,3,14] [[2,0],[3,0]] (fun K' hK=>by simp only[go_sem,hO,h0];(repeat (refine⟨ob,?_⟩));exact hK _ (by simp only[go_sem,hO,h0]) (by simp only[go_sem,hO,h0]<;>rfl)) ?_
 repeat refine sq ?_
 refine aJ ?_
 repeat refine sq ?_
 refine bR (fun z:Nat=>[(14,⟨true,.v (vInt z)⟩)]) (fun z=>[]) (fun z=>z<=6) (fun z=>6-z) 0 ?_ ?_ ?_ ?_
 ·exact Nat.zero_le _
 ·rfl
 ·rfl
 rintro i hi
 simp only[go_sem]
 repeat refine sq ?_
 refine rx hΓ [0,2,3,14,15] [[2,0],[3,0]] (fun K' hK=>by simp only[go_sem,hO,h0];(repeat (refine⟨ob,?_⟩));exact hK _ (by simp only[go_sem,hO,h0]) (by simp only[go_sem,hO,h0]<;>rfl)) ?_
 repeat refine sq ?_
 refine ax rfl rfl (fun hb=>?_) (fun hb=>?_)
 ·have ae:i<6:=by have hq:(i:Int)<6:=(by simpa using hb);omega
  have ai:(i:Int)<6:=by omega
  clear hb
  have hC:=Ky jh ae
  have gT:=bj.2 i ae
  repeat refine sq ?_
  refine aC ?_
  repeat refine sq ?_
  refine aJ ?_
  repeat refine sq ?_
  refine rx hΓ [0,2,3,4,14] [[2,0],[3,0]] (fun K' hK=>by simp only[go_sem,hO,h0,Int.toNat_natCast,Int.natCast_nonneg,ai];(repeat (refine⟨ob,?_⟩));exact hK _ (by simp only[go_sem,hO,h0,Int.toNat_natCast,Int.natCast_nonneg,ai]) (by simp only[go_sem,hO,h0,Int.toNat_natCast,Int.natCast_nonneg,ai]<;>rfl)) ?_
  repeat refine sq ?_
  refine aQ hΓ fun K' hK=>?_
  simp only[go_sem,hO,h0,Int.toNat_natCast,Int.natCast_nonneg,ai,hC,gT,ra s ae,Int.toNat_natCast,Int.natCast_nonneg,ai]
  repeat (refine⟨ob,?_⟩)
  refine hK _ ?_
  clear K' hK
  simp only[go_sem]
  refine mb [0,2,3,14] [[2,0],[3,0]] ?_ ?_
  ·simp only[go_sem,hO,h0]
  simp only[go_sem,hO,h0]
  repeat refine sq ?_
  refine aQ hΓ fun K' hK=>?_
  simp only[go_sem,hO,h0,Int.toNat_natCast,Int.natCast_nonneg,ai]
  repeat (refine⟨ob,?_⟩)
  refine hK _ ?_
  clear K' hK
  simp only[go_sem]
  refine⟨i+1,ae,by(show 6-(i+1)<6-i;omega),?_⟩
  refine bd [0,2,3,14] [[2,0],[3,0]] ?_ ?_
  ·simp only[go_sem,aA ae (lb rfl:(6:Nat)<=maxLen),Int.natCast_add,Int.natCast_one,ra s ae,hO,h0]
  ·simp only[go_sem,aA ae (lb rfl:(6:Nat)<=maxLen),Int.natCast_add,Int.natCast_one,ra s ae,hO,h0]
 ·have aV:i=6:=by
   have :¬ (i:Int)<6:=by simpa using hb
   omega
  clear hb
  subst aV
  repeat refine sq ?_
  refine bK ?_
  simp only[go_sem]
  refine mb [2,3] [[2,0],[3,0]] ?_ ?_
  ·simp only[go_sem,hO,h0]
  simp only[go_sem,hO,h0]
  repeat refine sq ?_
  refine rx hΓ [2] [[2,0]] (fun K' hK=>by simp only[go_sem,hO,h0,List.append_nil];(repeat (refine⟨ob,?_⟩));exact hK _ (by simp only[go_sem,hO,h0,List.append_nil]) (by simp only[go_sem,hO,h0,List.append_nil]<;>rfl)) ?_
  refine bq (dd [2,0] (aB s) rfl [2] [[2,0]] ?_ rfl) ?_
  ·simp only[go_sem,hO,h0]
  simp only[go_sem,hO,h0]
  refine av ?_
  simp only[go_sem,hO,h0]
  exact .inr trivial
theorem Nz{σ:S}(b nm:Name)(i k sz:Nat)(cs:List D)(L:List V)(hb:σ.obj b=some (.box cs))(hi:cs[i]?=some (.msl nm k))(hn:σ.obj nm=some (.arr sz L))(hk:k=L.length):
 cw σ ⟨σ.nt,σ.env,upd (upd σ.obj nm (some (.farr sz L))) b (some (.box (cs.set i (.v (.sl L))))),σ.pre,σ.base⟩:=by
 intro G φ m a w hC
 have an:b≠nm:=fun e=>by subst e;rw[hb]at hn;cases hn
 obtain⟨h1,h2,h3,us,T,f,h4,h5,h6,h7⟩:=hC.objs b _ hb
 obtain⟨fC,BO⟩:=List.getElem?_eq_some_iff.1 hi
 have h0:i<us.size:=by omega
 have h8:=h7 i fC h0
 rw[BO]at h8
 have cl:ar 6 σ.obj (.msl nm k)=⟨k=L.length,.sl L,upd σ.obj nm (some (.farr sz L))⟩:=by simp only[ar,hn]
 obtain⟨m2,k1,k2,k3,k4,_⟩:=ld 6 _ _ _ _ _ _ hC _ _ h8 (by rw[cl];exact hk)
 rw[cl]at k2 k3 k4
 simp only at k2 k3 k4
 have cF:(upd σ.obj nm (some (.farr sz L))) b=some (.box cs):=by rw[aL _ _ _ an];exact hb
 have gB:=Ext.same (φ:=φ) (o':=.box (cs.set i (.v (.sl L)))) cF rfl rfl
 have pM:=gB
 rw[dY]at pM
 refine⟨_,m2,k2.chg (w':=w) b (.box (cs.set i (.v (.sl L)))) _ gB ⟨rfl,rfl,rfl,Nat.le_refl _⟩ (fun _ _ _=>rfl) (fun _=>.inr ⟨⟨_,cF,rfl,h2⟩,rfl⟩) ?_⟩
 rw[dY]
 refine⟨h1,h2,fun d hd=>?_,us,T,f,h4,h5,by simpa using h6,fun j hj ew=>?_⟩
 ·rcases List.mem_or_eq_of_mem_set hd with h | h
  ·exact h3 d h
  ·subst h;rfl
 ·simp only[List.length_set]at hj
  rw[List.getElem_set]
  by_cases gm:i=j
  ·subst gm
   rw[if_pos rfl]
   exact .v _ _ k4
  ·rw[if_neg gm]
   exact((h7 j hj ew).ext k1 k3).ext (Mem.le_refl m2) pM
theorem D9{σ τ:S}(b nm:Name)(i k sz:Nat)(cs:List D)(L:List V)(hb:σ.obj b=some (.box cs))(hi:cs[i]?=some (.msl nm k))(hn:σ.obj nm=some (.arr sz L))(hk:k=L.length)(ks:List Nat)(ns:List Name)
 (h:eQ ks ns ⟨σ.nt,σ.env,upd (upd σ.obj nm (some (.farr sz L))) b (some (.box (cs.set i (.v (.sl L))))),σ.pre,σ.base⟩)
 (fI:eW ks ns ⟨σ.nt,σ.env,upd (upd σ.obj nm (some (.farr sz L))) b (some (.box (cs.set i (.v (.sl L))))),σ.pre,σ.base⟩=τ):cw σ τ:=
 (Nz b nm i k sz cs L hb hi hn hk).trans (lC ks ns h fI)
theorem FT(l:List Int):∀ y∈l.map vInt,y.cells.length=1/\y.okc=true:=by
 intro y hy;obtain⟨x,_,rfl⟩:=List.mem_map.1 hy;exact⟨rfl,rfl⟩
theorem FQ(l:List Par):∀ y∈l.map encPa,y.cells.length=2/\y.okc=true:=by
 intro y hy;obtain⟨x,_,rfl⟩:=List.mem_map.1 hy;exact⟨rfl,rfl⟩
theorem ah{p:Prop}(h:p:=by first | exact FT _ | exact FQ _ | ((repeat' apply And.intro)<;>first | rfl | omega | (unfold maxLen;omega) | trivial | decide | exact FT _ | exact FQ _) | exact ob):p:=h
def oL(s:Stk):List D:=[.v (vInt s.se.a),.v (vInt s.se.b),.v (vInt s.se.c),.v (vInt s.se.d),.v (vInt s.se.e),.v (vInt s.se.f),.v (vInt s.ta.a),.v (vInt s.ta.b),.v (vInt s.ta.c),.v (vInt s.ta.d),.v (vInt s.ta.e),.v (vInt s.ta.f)]
def jn(s:Stk)(z:Nat):List D:=.v (fo s.ho)::(if 0<z then .v (rowP s.un.a)else .nilsl)::(if 1<z then .v (rowP s.un.b)else .nilsl)::(if 2<z then .v (rowP s.un.c)else .nilsl)::
 (if 3<z then .v (rowP s.un.d)else .nilsl)::(if 4<z then .v (rowP s.un.e)else .nilsl)::(if 5<z then .v (rowP s.un.f)else .nilsl)::oL s
theorem Rj{α:Type}{C:List α}{x:α}{n:Nat}(h:n<C.length):(List.take n C++[x]++List.drop (n+1) C)[n]?=some x:=by
 rw[List.append_assoc,List.getElem?_append_right (by rw[List.length_take];omega),List.length_take,Nat.min_eq_left (by omega),Nat.sub_self]
 rfl
theorem Ga{α:Type}{C:List α}{x y:α}{n:Nat}(h:n<C.length):(List.take n C++[x]++List.drop (n+1) C).set n y=List.take n C++[y]++List.drop (n+1) C:=by
 rw[List.append_assoc,List.set_append_right _ _ (by rw[List.length_take];omega),List.length_take,Nat.min_eq_left (by omega),Nat.sub_self,List.append_assoc]
 rfl
theorem aeM(s:Stk){i:Nat}(h:i<6):List.take (1+i) (jn s i)++[D.v (.sl ((s.un.get i).map encPa))]++List.drop (1+i+1) (jn s i)=jn s (i+1):=by
 match i,h with
 | 0,_=>rfl
 | 1,_=>rfl
 | 2,_=>rfl
 | 3,_=>rfl
 | 4,_=>rfl
 | 5,_=>rfl
theorem Xd(s:Stk):jn s 6=(aB s).map .v:=rfl
@[go_sem] theorem aeN(s:Stk)(z:Nat):(jn s z).length=19:=rfl
theorem Xj(dom:Name->Bool)(p:Prop)[Decidable p](l:List V):D.clos dom (if p then .v (.sl l)else .nilsl)=true:=by
 split<;>rfl
@[go_sem] theorem Xe(dom:Name->Bool)(s:Stk)(z:Nat):D.closL dom (jn s z)=true:=by
  simp only[jn,oL,D.closL,D.clos,Xj,Bool.and_self,rowP]
theorem NC{σ:S}(b:Name)(cs:List D)(l:List V)(hb:σ.obj b=some (.box cs))(hl:kj cs=some l):cw σ ⟨σ.nt,σ.env,upd σ.obj b (some (.box (l.map .v))),σ.pre,σ.base⟩:=by
 intro G φ m a w hC
 obtain⟨h1,h2,h3,us,T,f,h4,h5,h6,h7⟩:=hC.objs b _ hb
 obtain⟨hlen,iy⟩:=DE hl
 have gB:=Ext.same (φ:=φ) (o':=.box (l.map .v)) hb rfl rfl
 have pM:=gB
 rw[dY]at pM
 refine⟨_,m,hC.chg (w':=w) b (.box (l.map .v)) _ gB ⟨rfl,rfl,rfl,Nat.le_refl _⟩ (fun _ _ _=>rfl) (fun _=>.inr ⟨⟨_,hb,rfl,h2⟩,rfl⟩) ?_⟩
 rw[dY]
 refine⟨h1,h2,fun d hd=>?_,us,T,f,h4,h5,by rw[List.length_map,hlen];exact h6,fun j hj ew=>?_⟩
 ·obtain⟨x,hx,rfl⟩:=List.mem_map.1 hd
  obtain⟨i,hi,rfl⟩:=List.getElem_of_mem hx
  exact LV (iy i (by omega) hi) (h3 _ (List.getElem_mem _))
 ·have jI:j<l.length:=by simpa using hj
  have fX:j<cs.length:=by omega
  simp only[List.getElem_map]
  exact .v _ _ (LU (h7 j fX ew) (iy j fX jI))
theorem oZ{σ τ:S}(b:Name)(cs:List D)(l:List V)(hb:σ.obj b=some (.box cs))(hl:kj cs=some l)(ks:List Nat)(ns:List Name)
 (h:eQ ks ns ⟨σ.nt,σ.env,upd σ.obj b (some (.box (l.map .v))),σ.pre,σ.base⟩) (hk:eW ks ns ⟨σ.nt,σ.env,upd σ.obj b (some (.box (l.map .v))),σ.pre,σ.base⟩=τ):cw σ τ:=
 (NC b cs l hb hl).trans (lC ks ns h hk)
def j6(l:List Int):Stk:=⟨l,iQ fun _=>[],iQ fun _=>0,iQ fun _=>0⟩
def zS:Stk:=j6 []
def zP:Pg:=⟨0,zS,0⟩
def zD:Dk:=⟨0,zS,zP,zP,0⟩
def Af(me:Int)(l:List Int):Dk:=⟨me,j6 l,⟨1,j6 l,hS (j6 l) 1⟩,⟨0,zS,hS zS 0⟩,-1⟩
def wD(me:Int)(l:List Int):Bool:=aM me 0 5&&ft l
def rI(me:Int)(l:List Int):Int:=if aM me 0 5=true then(if ft l=true then 0 else 1)else 94
def wC(me:Int)(l:List Int):Dk:=if wD me l=true then Af me l else zD
theorem KO(dom:Name->Bool)(l:List V)(n:Nat):D.closL dom (List.take n (l.map .v))=true:=by
 rw[<-List.map_take];exact sB _ _
theorem KR(dom:Name->Bool)(l:List V)(n:Nat):D.closL dom (List.drop n (l.map .v))=true:=by
 rw[<-List.map_drop];exact sB _ _
attribute [go_sem] KS KO KR
@[go_sem] theorem Wk(f:(Name->Option O)->D->FR)(obj:Name->Option O)(h:∀ obj x,f obj (.v x)=⟨True,x,obj⟩):∀ l:List V,aI f obj (l.map .v)=⟨True,l,obj⟩
  |[]=>rfl
  |x::r=>by simp only[List.map_cons,aI,h,Wk f obj h r,and_self]
@[go_sem] theorem aab:V.agg [V.sl [],V.sl [],V.sl [],V.sl [],V.sl [],V.sl [],V.sl [],V.int .i64 0,V.int .i64 0,V.int .i64 0,V.int .i64 0,V.int .i64 0,V.int .i64 0,V.int .i64 0,V.int .i64 0,V.int .i64 0,V.int .i64 0,V.int .i64 0,V.int .i64 0]=V.agg (aB zS):=rfl
@[go_sem] theorem aec(d:Dk):((((aq d).map D.v).drop 1).take 19)=(aB d.now).map D.v:=rfl
@[go_sem] theorem aed(d:Dk):((aq d).map D.v).length=63:=rfl
@[go_sem] theorem aef(d:Dk):((aq d).map D.v).drop 63=[]:=rfl
@[go_sem] theorem aeg(d:Dk):((aq d).map D.v).take 63=(aq d).map D.v:=rfl
@[go_sem] theorem bt1(s:Stk)(x:D):(List.map D.v (aB s)++[x]).length=20:=rfl
@[go_sem] theorem bt2(s:Stk)(x:D):List.take 19 (List.map D.v (aB s)++[x])=List.map D.v (aB s):=rfl
@[go_sem] theorem bt3(s:Stk)(x:D):List.drop 20 (List.map D.v (aB s)++[x])=[]:=rfl
@[go_sem] theorem bt4(c u:Int)(s:Stk):D.v (.int .i64 c)::(List.map D.v (aB s)++[D.v (vInt u)])=(cm ⟨c,s,u⟩).map D.v:=rfl
@[go_sem] theorem bt5(p:Pg):(List.map D.v (cm p)).length=21:=rfl
@[go_sem] theorem bt6(p:Pg):List.take 21 (List.map D.v (cm p))=List.map D.v (cm p):=rfl
@[go_sem] theorem ac3(p:Pg)(u:Int):List.take 20 (List.map D.v (cm p))++[D.v (vInt u)]++List.drop 21 (List.map D.v (cm p))=List.map D.v (cm ⟨p.co,p.st,u⟩):=rfl
@[go_sem] theorem ad8(d:Dk)(p:Pg):List.take 20 (List.map D.v (aq d))++List.map D.v (cm p)++List.drop 41 (List.map D.v (aq d))=List.map D.v (aq ⟨d.me,d.now,p,d.pb,d.wet⟩):=rfl
@[go_sem] theorem ad7(d:Dk)(p:Pg):List.take 41 (List.map D.v (aq d))++List.map D.v (cm p)++List.drop 62 (List.map D.v (aq d))=List.map D.v (aq ⟨d.me,d.now,d.pa,p,d.wet⟩):=rfl
theorem FE{l:List Int}(h:ft l=true):ea (j6 l):=by
 have hl:=ry h
 have h6:∀ i:Nat,(iQ fun _=>(0:Int)).get i=0:=fun i=>by
  match i with
  | 0=>rfl
  | 1=>rfl
  | 2=>rfl
  | 3=>rfl
  | 4=>rfl
  |_+5=>rfl
 have h7:∀ i:Nat,(iQ fun _=>([]:List Par)).get i=[]:=fun i=>by
  match i with
  | 0=>rfl
  | 1=>rfl
  | 2=>rfl
  | 3=>rfl
  | 4=>rfl
  |_+5=>rfl
 refine⟨hl.1,hl.2,fun i _=>?_,fun i _ p hp=>?_,fun i _=>?_,fun i _=>?_⟩
 ·show ((iQ fun _=>([]:List Par)).get i).length<=40
  rw[h7];exact Nat.zero_le _
 ·have:p∈(iQ fun _=>([]:List Par)).get i:=hp
  rw[h7]at this;cases this
 ·show bO ((iQ fun _=>(0:Int)).get i)
  rw[h6];exact⟨by omega,by omega⟩
 ·show bO ((iQ fun _=>(0:Int)).get i)
  rw[h6];exact⟨by omega,by omega⟩
theorem QZ:ea zS:=FE rfl
def wF(me:Int)(l:List Int):Dk:=⟨me,j6 l,zP,zP,-1⟩
def nd1(me:Int)(l:List Int):Dk:=⟨me,j6 l,⟨1,j6 l,hS (j6 l) 1⟩,zP,-1⟩
theorem nP{L:List V}{off:Nat}{s:Stk}{obj:Name->Option O}{t nm:Name}(ho:obj nm=some (.box (L.map .v)))(hc:(L.drop off).take 19=aB s)(hs:iM s):
 S59.app obj t [.ref nm off]=⟨True,.v (l7 s),obj⟩:=
 Ro.c_app sU (a:=(L,off,s)) ⟨hc,hs⟩ (Ls:=[nm]) rfl (by simp) ⟨ho,trivial⟩
noncomputable def MV:List (Nat×Spec):=[(34,S82),(35,S83),(36,S77),(37,S59),(38,S60)]
theorem Y0:∀ f s,tbl MV f=some s->ak Tryd.prog f s:=tc wU<|tc HS<|tc AK<|tc tw<|tc wV<|tn
attribute [go_sem] MV
noncomputable def P37:PSpec:=p2 iI ei (fun _ _=>True) (fun me l=>.tup [fM (wC me l),vInt (rI me l)]) false
noncomputable def S37:Spec:=P37.toSpec
attribute [go_sem] P37 S37
set_option maxHeartbeats 4000000 in
theorem PM:aR Tryd.prog 11 P37:=by
 refine w2 (rs:=[.cell 4 44,.tmp 5]) Tryd.func11 Tryd.ntmps11 (by rfl) (by kernel_rfl) (by decide) (fun h=>by cases h) ⟨_,rfl,lb rfl,fun me l hp hw=>?_⟩
 have hP:=bc
 simp only[iI,ei]at hw |-
 have hΓ:=Y0
 repeat refine sq ?_
 refine rx hΓ [0,1,4] [[4,0]] (fun K' hK=>by simp only[go_sem];(repeat (refine⟨ah,?_⟩));exact hK _ (by simp only[go_sem]) (by simp only[go_sem]<;>rfl)) ?_
 refine bq (oZ [4,0] _ (aq zD) rfl rfl [0,1,4] [[4,0]] ?_ rfl) ?_
 ·simp only[go_sem]
 simp only[go_sem]
 repeat refine sq ?_
 refine aJ ?_
 repeat refine sq ?_
 refine rx hΓ [0,1,4,7] [[4,0]] (fun K' hK=>by simp only[go_sem];(repeat (refine⟨ah,?_⟩));exact hK _ (by simp only[go_sem]) (by simp only[go_sem]<;>rfl)) ?_
 repeat refine sq ?_
 refine ax rfl rfl (fun hb=>?_) (fun hb=>?_)
 ·repeat refine sq ?_
  have fg:aM me 0 5=false:=by simpa using hb
  have e1:rI me l=94:=if_neg (by rw[fg];decide)
  have e2:wC me l=zD:=if_neg (by unfold wD;rw[fg];exact Bool.false_ne_true)
  repeat refine sq ?_
  refine rx hΓ [4,5] [[4,0]] (fun K' hK=>by simp only[go_sem];(repeat (refine⟨ah,?_⟩));exact hK _ (by simp only[go_sem]) (by simp only[go_sem]<;>rfl)) ?_
  refine av ?_
  simp only[go_sem]
  first | (rw[e1,e2];done) | (rw[e1,e2];rfl)
 ·repeat refine sq ?_
  have fg:aM me 0 5=true:=by simpa using hb
  repeat refine sq ?_
  refine rx hΓ [0,1,4,12] [[4,0]] (fun K' hK=>by simp only[go_sem];(repeat (refine⟨ah,?_⟩));exact hK _ (by simp only[go_sem]) (by simp only[go_sem]<;>rfl)) ?_
  repeat refine sq ?_
  refine ax rfl rfl (fun hb=>?_) (fun hb=>?_)
  ·repeat refine sq ?_
   have e7:ft l=false:=by simpa using hb
   have e1:rI me l=1:=by unfold rI;rw[if_pos fg,if_neg (by rw[e7];decide)]
   have e2:wC me l=zD:=if_neg (by unfold wD;rw[e7,Bool.and_false];exact Bool.false_ne_true)
   repeat refine sq ?_
   refine rx hΓ [4,5] [[4,0]] (fun K' hK=>by simp only[go_sem];(repeat (refine⟨ah,?_⟩));exact hK _ (by simp only[go_sem]) (by simp only[go_sem]<;>rfl)) ?_
   refine av ?_
   simp only[go_sem]
   first | (rw[e1,e2];done) | (rw[e1,e2];rfl)
  ·repeat refine sq ?_
   have e7:ft l=true:=by simpa using hb
   have e1:rI me l=0:=by unfold rI;rw[if_pos fg,if_pos e7]
   have e2:wC me l=Af me l:=if_pos (by unfold wD;rw[fg,e7];rfl)
   have pR:=FE e7
   have adL:=(ry e7).1
   have oy:∀ (F:Name->Option O) (t:Name),F [6,0]=some (.box ((aq (wF me l)).map .v))->S59.app (fun nm=>if own [0] nm=true then F nm else none) t [.ref [6,0] 1]=⟨True,.v (.agg (aB (j6 l))),fun nm=>if own [0] nm=true then F nm else none⟩:=fun F t h=>nP (s:=j6 l) (L:=aq (wF me l)) (off:=1) h (so (wF me l)) pR.sz
   have qb:ea zS/\bO 0:=⟨QZ,by decide,by decide⟩
   have nh:ea (j6 l)/\bO 1:=⟨pR,by decide,by decide⟩
   refine aC ?_
   refine cX ?_
   simp only[go_sem]
   refine kp [0,1,4] [[4,0]] ?_
   repeat refine sq ?_
   refine rx hΓ [4,6] [[4,0],[6,0]] (fun K' hK=>by simp only[go_sem];(repeat (refine⟨ah,?_⟩));exact hK _ (by simp only[go_sem]) (by simp only[go_sem]<;>rfl)) ?_
   refine bq (oZ [6,0] _ (aq (wF me l)) rfl rfl [4,6] [[4,0],[6,0]] ?_ rfl) ?_
   ·simp only[go_sem]
   simp only[go_sem]
   repeat refine sq ?_
   refine dx hΓ hP [[],[0],[],[2],[0,1,2,3],[0,1,2,3,4],[],[0,1,2,3,4,5,6],[0,1,2,3,4,5,6,7]] [4,6] [[4,0],[6,0]] (by kernel_rfl) (fun K' hK=>by simp only[go_sem,oy,List.append_nil,Nat.reduceAdd];(repeat (refine⟨by first | exact nh | exact ah,?_⟩));(first | refine⟨by rfl,?_⟩ | skip);exact hK _ (by simp only[go_sem]) (by simp only[go_sem]<;>rfl)) ?_
   repeat refine sq ?_
   refine rx hΓ [4,6] [[4,0],[6,0]] (fun K' hK=>by simp only[go_sem,Nat.reduceAdd,Int.cast_ofNat_Int,Int.reduceToNat,Int.toNat_one,Nat.reduceMul];(repeat (refine⟨by first | exact qb | exact ah,?_⟩));exact hK _ (by simp only[go_sem]) (by simp only[go_sem]<;>rfl)) ?_
   refine bq (oZ [6,0] _ (aq (Af me l)) rfl rfl [4,6] [[4,0],[6,0]] ?_ rfl) ?_
   ·simp only[go_sem]
   simp only[go_sem]
   repeat refine sq ?_
   refine rx hΓ [4,5] [[4,0]] (fun K' hK=>by simp only[go_sem,List.append_nil];(repeat (refine⟨ah,?_⟩));exact hK _ (by simp only[go_sem]) (by simp only[go_sem]<;>rfl)) ?_
   refine av ?_
   simp only[go_sem]
   first | (rw[e1,e2];done) | (rw[e1,e2];rfl)
theorem k37:ak Tryd.prog 11 S37:=PM.sound
theorem bt7(s:Stk)(X:List D):List.take 61 (List.map D.v (aB s)++X)=List.map D.v (aB s)++List.take 42 X:=rfl
theorem bt8(s:Stk)(X:List D):List.drop 62 (List.map D.v (aB s)++X)=List.drop 43 X:=rfl
noncomputable def MU:List (Nat×Spec):=[(90,S84),(91,S85),(94,S63)]
theorem af7:∀ f s,tbl MU f=some s->ak Tryd.prog f s:=tc wT<|tc HR<|tc AL<|tn
attribute [go_sem] MU
end Go.Eng
