import Derived.Test.YtckmfkgppohnmaaGreatDoorK5
/- Texts NW2 to NW12. -/
set_option linter.all false
namespace Go.Eng
open Go Go.Proofs
@[go_sem] theorem afA{α:Type}(s:bg α)(e:α->V):(s.L e).take 6=s.L e:=rfl
theorem afC{α:Type}(s:bg α)(e:α->V){i:Nat}(h:i<6):((s.L e).drop i).take 1=[e (s.get i)]:=by
 match i,h with
 | 0,_=>rfl
 | 1,_=>rfl
 | 2,_=>rfl
 | 3,_=>rfl
 | 4,_=>rfl
 | 5,_=>rfl
@[go_sem] theorem afB{α:Type}(s:bg α)(e:α->V):(s.L e).length=6:=rfl
attribute [go_sem] Nat.mul_one
def fT(s:Stk)(i:Nat):Bool:=aP (s.se.get i) 0 99999&&aP (s.ta.get i) 0 99999&&cR (s.un.get i)&&((s.un.get i).length==0||((s.un.get i).getD ((s.un.get i).length-1) default).no==s.se.get i)
def cr(me:Int)(s:Stk):Bool:=aP me 0 5&&fD s.ho&&((s.un.get me.toNat).length==0)&&(s.se.get me.toNat==0)&&(s.ta.get me.toNat==0)&&fO 6 (fT s)
theorem dP{α:Type}{l:List α}:decide ((l.length:Int)>0)=!(l.length==0):=by
 cases l with
 |nil=>rfl
 |cons a r=>
  have h1:((a::r).length==0)=false:=rfl
  rw[h1]
  simp
theorem H5{l:List Par}(hl:l.length<=maxLen):∃ p:Nat,(IntKind.i64.wrap ((l.length:Int)-1)).toNat=p/\p=l.length-1/\((l.length==0)=false->p<l.length/\0<=IntKind.i64.wrap ((l.length:Int)-1)/\IntKind.i64.wrap ((l.length:Int)-1)<l.length):=by
 unfold maxLen at hl
 by_cases h:l.length=0
 ·exact⟨0,by rw[h];decide,by omega,fun h2=>by rw[h]at h2;cases h2⟩
 ·have:IntKind.i64.wrap ((l.length:Int)-1)=((l.length-1:Nat):Int):=by rw[wrap_i64 (by omega) (by omega)];omega
  exact⟨l.length-1,by rw[this];rfl,rfl,fun _=>by omega⟩
theorem adm{me:Int}{s:Stk}{i:Nat}(hi:i<6)(h:fT s i=false):cr me s=false:=by
 unfold cr
 rw[fN hi h,Bool.and_false]
theorem rY{s:Stk}(h:V.wfL [.agg (ax s)]){i:Nat}(hi:i<6):(s.un.get i).length<=maxLen:=by
 have h1:V.wfL (ax s):=h.1
 have h2:rowP (s.un.get i)∈ax s:=by
  match i,hi with
  | 0,_=>simp[ax,bg.L,bg.get]
  | 1,_=>simp[ax,bg.L,bg.get]
  | 2,_=>simp[ax,bg.L,bg.get]
  | 3,_=>simp[ax,bg.L,bg.get]
  | 4,_=>simp[ax,bg.L,bg.get]
  | 5,_=>simp[ax,bg.L,bg.get]
 have h3:=(Fy h1 _ h2).1
 simpa using h3
theorem RJ{l:List Par}{i p:Nat}(hp:p=i-1)(hi:i<l.length)(bU:p<l.length):
 (!aP l[i].pa 1 999||(!aP l[i].no 1 99999||(!(i==0)&&(l[i].no != l[p].no+1))))=!fU l i:=by
 rw[<-G6 hp hi bU]
 have :(l[i].no != l[p].no+1)=(l[p].no+1 != l[i].no):=by
  rw[Bool.eq_iff_iff,bne_iff_ne,bne_iff_ne];exact⟨fun h=>h.symm,fun h=>h.symm⟩
 rw[this]
 cases aP l[i].no 1 99999<;>cases aP l[i].pa 1 999<;>rfl
noncomputable def P85:PSpec:=p1 dQ (fun _=>True) (fun l=>.bool (fD l)) true
noncomputable def S85:Spec:=P85.toSpec
attribute [go_sem] P85 S85
set_option maxHeartbeats 4000000 in
theorem Qj:aL Tryz.prog 85 P85:=by
 refine w1 (rs:=[.tmp 2]) Tryz.func85 Tryz.ntmps85 (by rfl) (by kernel_rfl) (by decide) (fun _ _=>rfl) ⟨_,rfl,lb rfl,fun l hp hw=>?_⟩
 have hP:=aU
 simp only[dQ]at hw |-
 have hΓ:=Am
 have hl:l.length<=maxLen:=by have:=hw.1.1;simpa using this
 repeat refine sq ?_
 refine rs hΓ [0] [] ?_
 repeat refine sq ?_
 refine rs hΓ [0,3] [] ?_
 repeat refine sq ?_
 refine aN ?_
 repeat refine sq ?_
 refine cB (fun s:Nat=>[(3,⟨true,.v (vInt s)⟩)]) (fun s=>[]) (fun s=>s<=l.length/\fO s (lD l)=true) (fun s=>l.length-s) 0 ?_ ?_ ?_ ?_
 ·exact⟨Nat.zero_le _,rfl⟩
 ·rfl
 ·rfl
 rintro i ⟨hi,hR⟩
 simp only[go_sem]
 repeat refine sq ?_
 refine rs hΓ [0,3,7] [] ?_
 repeat refine sq ?_
 refine aw rfl rfl (fun hb=>?_) (fun hb=>?_)
 ·have ae:i<l.length:=by simpa using hb
  have aj:(i:Int)<l.length:=by omega
  clear hb
  obtain⟨p,hp,bU,gT,cm⟩:=xx ae hl
  have ea:=G9 gT ae bU
  repeat refine sq ?_
  refine ay ?_
  repeat refine sq ?_
  refine aN ?_
  repeat refine sq ?_
  refine dx hΓ hP [[],[],[0,1],[0,1,2],[0,1,2,3],[0,1,2,3,4],[0,1,2,3,4,5],[0,1,2,3,4,5,6],[0,1,2,3,4,5,6,7],[0,1,2,3,4,5,6,7,8],[0,1,2,3,4,5,6,7,8,9],[0,1,2,3,4,5,6,7,8,9],[0,1,2,3,4,5,6,7,8,9,11],[0,1,2,3,4,5,6,7,8,9,10,11,12],[0,1,2,3,4,5,6,7,8,9,10,11,12,13],[0,1,2,3,4,5,6,7,8,9],[0,1,2,3,4,5,6,7,8,9],[0,1,2,3,4,5,6,7,8,9,15,16],[0,1,2,3,4,5,6,7,8,9,15,16,17],[0,1,2,3,4,5,6,7,8,9,10,11,12,13,14,15,16,17,18],[0,1,2,3,4,5,6,7,8,9,10,11,12,13,14,15,16,17,18,19],[0,1,2,3,4,5,6,7,8,9,10,11,12,13,14,15,16,17,18,19,20]] [0,3,31] [] (by kernel_rfl) (fun K' hK=>by simp only[go_sem,aG ae,Int.toNat_natCast,Int.natCast_nonneg,aj,hp,aG ae,aG bU,Int.toNat_natCast,Int.natCast_nonneg,aj,sj,not_lt];(repeat (refine⟨by first | exact ob | exact fun h=>cm (by simp_all;omega) | (intro h;have:=cm (by simp_all;omega);simp_all;done),?_⟩));(first | refine⟨by rfl,?_⟩ | skip);exact hK _ (by simp only[go_sem]) (by simp only[go_sem]<;>rfl)) ?_
  repeat refine sq ?_
  refine aw rfl rfl (fun hb=>?_) (fun hb=>?_)
  ·repeat refine sq ?_
   have bw:lD l i=false:=by simpa[ea]using hb
   repeat refine sq ?_
   refine rx hΓ [2] [] (fun K' hK=>by simp only[go_sem,aG ae,Int.toNat_natCast,Int.natCast_nonneg,aj];(repeat (refine⟨ob,?_⟩));exact hK _ (by simp only[go_sem]) (by simp only[go_sem]<;>rfl)) ?_
   refine ar ?_
   simp only[go_sem]
   simp only[fD,fN ae bw,Bool.false_and]
  ·repeat refine sq ?_
   have bB:lD l i=true:=by simpa[ea]using hb
   refine ay ?_
   refine dq ?_
   simp only[go_sem]
   refine kp [0,3] [] ?_
   repeat refine sq ?_
   refine aS hΓ fun K' hK=>?_
   simp only[go_sem,aG ae,Int.toNat_natCast,Int.natCast_nonneg,aj]
   repeat (refine⟨ob,?_⟩)
   refine hK _ ?_
   clear K' hK
   simp only[go_sem]
   refine⟨i+1,⟨ae,?_⟩,by(show l.length-(i+1)<l.length-i;omega),?_⟩
   ·exact kT hR bB
   refine bk [0,3] [] ?_ ?_
   ·simp only[go_sem,aE ae hl,Int.natCast_add,Int.natCast_one]
   ·simp only[go_sem,aE ae hl,Int.natCast_add,Int.natCast_one]
 ·have aX:i=l.length:=by
   have :¬ (i:Int)<l.length:=by simpa using hb
   omega
  clear hb
  subst aX
  repeat refine sq ?_
  refine b7 ?_
  simp only[go_sem]
  refine kp [0] [] ?_
  repeat refine sq ?_
  refine rs hΓ [2] [] ?_
  refine ar ?_
  simp only[go_sem]
  simp only[fD,hR,Bool.true_and]
  try (congr 2;apply propext;omega)
theorem Jv:ak Tryz.prog 85 S85:=Qj.sound
noncomputable def P88:PSpec:=p1 iS (fun _=>True) (fun l=>.bool (cR l)) true
noncomputable def S88:Spec:=P88.toSpec
attribute [go_sem] P88 S88
set_option maxHeartbeats 4000000 in
theorem Qg:aL Tryz.prog 88 P88:=by
 refine w1 (rs:=[.tmp 2]) Tryz.func88 Tryz.ntmps88 (by rfl) (by kernel_rfl) (by decide) (fun _ _=>rfl) ⟨_,rfl,lb rfl,fun l hp hw=>?_⟩
 have hP:=aU
 simp only[iS]at hw |-
 have hΓ:=Am
 have hl:l.length<=maxLen:=by have:=hw.1.1;simpa using this
 repeat refine sq ?_
 refine rs hΓ [0] [] ?_
 repeat refine sq ?_
 refine rs hΓ [0,3] [] ?_
 repeat refine sq ?_
 refine aN ?_
 repeat refine sq ?_
 refine cB (fun s:Nat=>[(3,⟨true,.v (vInt s)⟩)]) (fun s=>[]) (fun s=>s<=l.length/\fO s (fU l)=true) (fun s=>l.length-s) 0 ?_ ?_ ?_ ?_
 ·exact⟨Nat.zero_le _,rfl⟩
 ·rfl
 ·rfl
 rintro i ⟨hi,hR⟩
 simp only[go_sem]
 repeat refine sq ?_
 refine rs hΓ [0,3,7] [] ?_
 repeat refine sq ?_
 refine aw rfl rfl (fun hb=>?_) (fun hb=>?_)
 ·have ae:i<l.length:=by simpa using hb
  have aj:(i:Int)<l.length:=by omega
  clear hb
  obtain⟨p,hp,bU,gT,cm⟩:=xx ae hl
  have ea:=RJ gT ae bU
  repeat refine sq ?_
  refine ay ?_
  repeat refine sq ?_
  refine aN ?_
  repeat refine sq ?_
  rcases Nat.eq_zero_or_pos i with h0 | h0
  ·have dR:(i==0)=true:=by simp[h0]
   repeat refine sq ?_
   refine dx hΓ hP [[],[],[0,1],[0,1,2],[0,1,2,3],[0,1,2,3,4],[0,1,2,3,4,5],[0,1,2,3,4,5,6],[0,1,2,3,4,5,6,7],[0,1,2,3,4,5,6,7],[0,1,2,3,4,5,6,7,8,9],[0,1,2,3,4,5,6,7,8,9,10],[0,1,2,3,4,5,6,7,8,9,10,11],[0,1,2,3,4,5,6,7,8,9,10,11,12],[0,1,2,3,4,5,6,7,8,9,10,11,12,13],[0,1,2,3,4,5,6,7,8,9,10,11,12,13,14],[0,1,2,3,4,5,6,7,8,9,10,11,12,13,14,15],[0,1,2,3,4,5,6,7,8,9,10,11,12,13,14,15,16],[0,1,2,3,4,5,6,7,8,9,10,11,12,13,14,15,16,17],[0,1,2,3,4,5,6,7,8,9,10,11,12,13,14,15,16,17,18],[0,1,2,3,4,5,6,7,8,9,10,11,12,13,14,15,16,17,18,19],[0,1,2,3,4,5,6,7,8,9,10,11,12,13,14,15,16,17,18,19],[0,1,2,3,4,5,6,7,8,9,10,11,12,13,14,15,16,17,18,19,20,21],[0,1,2,3,4,5,6,7,8,9,10,11,12,13,14,15,16,17,18,19,20,21,22],[0,1,2,3,4,5,6,7,8,9,10,11,12,13,14,15,16,17,18,19,20,21,22,23],[0,1,2,3,4,5,6,7,8,9,10,11,12,13,14,15,16,17,18,19],[0,1,2,3,4,5,6,7,8,9,10,11,12,13,14,15,16,17,18,19],[0,1,2,3,4,5,6,7,8,9,10,11,12,13,14,15,16,17,18,19,26],[0,1,2,3,4,5,6,7,8,9,10,11,12,13,14,15,16,17,18,19,25,26,27],[0,1,2,3,4,5,6,7,8,9,10,11,12,13,14,15,16,17,18,19,25,26,27,28],[0,1,2,3,4,5,6,7,8,9,10,11,12,13,14,15,16,17,18,19,25,26,27,28,29],[0,1,2,3,4,5,6,7,8,9,10,11,12,13,14,15,16,17,18,19,25,26,27,28,29,30],[0,1,2,3,4,5,6,7,8,9,10,11,12,13,14,15,16,17,18,19,20,21,22,23,24,25,26,27,28,29,30,31],[0,1,2,3,4,5,6,7,8,9,10,11,12,13,14,15,16,17,18,19,20,21,22,23,24,25,26,27,28,29,30,31,32],[0,1,2,3,4,5,6,7,8,9,10,11,12,13,14,15,16,17,18,19,20,21,22,23,24,25,26,27,28,29,30,31,32,33]] [0,3,44] [] (by kernel_rfl) (fun K' hK=>by simp only[go_sem,aG ae,Int.toNat_natCast,Int.natCast_nonneg,aj,dR,hp,aG ae,aG bU,Int.toNat_natCast,Int.natCast_nonneg,aj,sj,not_lt];(repeat (refine⟨by first | exact ob | exact fun _=>⟨dp,dz,rfl⟩ | exact fun _=>⟨dp,dz⟩,?_⟩));(first | refine⟨by rfl,?_⟩ | skip);exact hK _ (by simp only[go_sem]) (by simp only[go_sem]<;>rfl)) ?_
   repeat refine sq ?_
   refine aw rfl rfl (fun hb=>?_) (fun hb=>?_)
   ·repeat refine sq ?_
    have bw:fU l i=false:=by simpa[dR,hb]using ea.symm
    repeat refine sq ?_
    refine rx hΓ [2] [] (fun K' hK=>by simp only[go_sem,aG ae,Int.toNat_natCast,Int.natCast_nonneg,aj,dR];(repeat (refine⟨ob,?_⟩));exact hK _ (by simp only[go_sem]) (by simp only[go_sem]<;>rfl)) ?_
    refine ar ?_
    simp only[go_sem]
    first | simp only[cR,fN ae bw,Bool.false_and] | (simp only[cR,hR,Bool.true_and];done) | (simp only[cR,hR,Bool.true_and];congr 2;apply propext;omega)
   ·repeat refine sq ?_
    have bB:fU l i=true:=by simpa[dR,hb]using ea.symm
    refine ay ?_
    refine dq ?_
    simp only[go_sem]
    refine kp [0,3] [] ?_
    repeat refine sq ?_
    refine aS hΓ fun K' hK=>?_
    simp only[go_sem,aG ae,Int.toNat_natCast,Int.natCast_nonneg,aj,dR]
    repeat (refine⟨ob,?_⟩)
    refine hK _ ?_
    clear K' hK
    simp only[go_sem]
    refine⟨i+1,⟨ae,?_⟩,by(show l.length-(i+1)<l.length-i;omega),?_⟩
    ·exact kT hR bB
    refine bk [0,3] [] ?_ ?_
    ·simp only[go_sem,aE ae hl,Int.natCast_add,Int.natCast_one]
    ·simp only[go_sem,aE ae hl,Int.natCast_add,Int.natCast_one]
  ·have qJ:=G4 gT bU hR h0
   have dR:(i==0)=false:=by rw[beq_eq_false_iff_ne];omega
   obtain⟨dp,dz⟩:=cm h0
   repeat refine sq ?_
   refine dx hΓ hP [[],[],[0,1],[0,1,2],[0,1,2,3],[0,1,2,3,4],[0,1,2,3,4,5],[0,1,2,3,4,5,6],[0,1,2,3,4,5,6,7],[0,1,2,3,4,5,6,7],[0,1,2,3,4,5,6,7,8,9],[0,1,2,3,4,5,6,7,8,9,10],[0,1,2,3,4,5,6,7,8,9,10,11],[0,1,2,3,4,5,6,7,8,9,10,11,12],[0,1,2,3,4,5,6,7,8,9,10,11,12,13],[0,1,2,3,4,5,6,7,8,9,10,11,12,13,14],[0,1,2,3,4,5,6,7,8,9,10,11,12,13,14,15],[0,1,2,3,4,5,6,7,8,9,10,11,12,13,14,15,16],[0,1,2,3,4,5,6,7,8,9,10,11,12,13,14,15,16,17],[0,1,2,3,4,5,6,7,8,9,10,11,12,13,14,15,16,17,18],[0,1,2,3,4,5,6,7,8,9,10,11,12,13,14,15,16,17,18,19],[0,1,2,3,4,5,6,7,8,9,10,11,12,13,14,15,16,17,18,19],[0,1,2,3,4,5,6,7,8,9,10,11,12,13,14,15,16,17,18,19,20,21],[0,1,2,3,4,5,6,7,8,9,10,11,12,13,14,15,16,17,18,19,20,21,22],[0,1,2,3,4,5,6,7,8,9,10,11,12,13,14,15,16,17,18,19,20,21,22,23],[0,1,2,3,4,5,6,7,8,9,10,11,12,13,14,15,16,17,18,19],[0,1,2,3,4,5,6,7,8,9,10,11,12,13,14,15,16,17,18,19],[0,1,2,3,4,5,6,7,8,9,10,11,12,13,14,15,16,17,18,19,26],[0,1,2,3,4,5,6,7,8,9,10,11,12,13,14,15,16,17,18,19,25,26,27],[0,1,2,3,4,5,6,7,8,9,10,11,12,13,14,15,16,17,18,19,25,26,27,28],[0,1,2,3,4,5,6,7,8,9,10,11,12,13,14,15,16,17,18,19,25,26,27,28,29],[0,1,2,3,4,5,6,7,8,9,10,11,12,13,14,15,16,17,18,19,25,26,27,28,29,30],[0,1,2,3,4,5,6,7,8,9,10,11,12,13,14,15,16,17,18,19,20,21,22,23,24,25,26,27,28,29,30,31],[0,1,2,3,4,5,6,7,8,9,10,11,12,13,14,15,16,17,18,19,20,21,22,23,24,25,26,27,28,29,30,31,32],[0,1,2,3,4,5,6,7,8,9,10,11,12,13,14,15,16,17,18,19,20,21,22,23,24,25,26,27,28,29,30,31,32,33]] [0,3,44] [] (by kernel_rfl) (fun K' hK=>by simp only[go_sem,aG ae,Int.toNat_natCast,Int.natCast_nonneg,aj,qJ,dR,dp,dz,hp,aG ae,aG bU,Int.toNat_natCast,Int.natCast_nonneg,aj,sj,not_lt];(repeat (refine⟨by first | exact ob | exact fun _=>⟨dp,dz,rfl⟩ | exact fun _=>⟨dp,dz⟩,?_⟩));(first | refine⟨by rfl,?_⟩ | skip);exact hK _ (by simp only[go_sem]) (by simp only[go_sem]<;>rfl)) ?_
   repeat refine sq ?_
   refine aw rfl rfl (fun hb=>?_) (fun hb=>?_)
   ·repeat refine sq ?_
    have bw:fU l i=false:=by simpa[dR,<-Bool.or_assoc,hb]using ea.symm
    repeat refine sq ?_
    refine rx hΓ [2] [] (fun K' hK=>by simp only[go_sem,aG ae,Int.toNat_natCast,Int.natCast_nonneg,aj,qJ,dR,dp,dz];(repeat (refine⟨ob,?_⟩));exact hK _ (by simp only[go_sem]) (by simp only[go_sem]<;>rfl)) ?_
    refine ar ?_
    simp only[go_sem]
    first | simp only[cR,fN ae bw,Bool.false_and] | (simp only[cR,hR,Bool.true_and];done) | (simp only[cR,hR,Bool.true_and];congr 2;apply propext;omega)
   ·repeat refine sq ?_
    have bB:fU l i=true:=by simpa[dR,<-Bool.or_assoc,hb]using ea.symm
    refine ay ?_
    refine dq ?_
    simp only[go_sem]
    refine kp [0,3] [] ?_
    repeat refine sq ?_
    refine aS hΓ fun K' hK=>?_
    simp only[go_sem,aG ae,Int.toNat_natCast,Int.natCast_nonneg,aj,qJ,dR,dp,dz]
    repeat (refine⟨ob,?_⟩)
    refine hK _ ?_
    clear K' hK
    simp only[go_sem]
    refine⟨i+1,⟨ae,?_⟩,by(show l.length-(i+1)<l.length-i;omega),?_⟩
    ·exact kT hR bB
    refine bk [0,3] [] ?_ ?_
    ·simp only[go_sem,aE ae hl,Int.natCast_add,Int.natCast_one]
    ·simp only[go_sem,aE ae hl,Int.natCast_add,Int.natCast_one]
 ·have aX:i=l.length:=by
   have :¬ (i:Int)<l.length:=by simpa using hb
   omega
  clear hb
  subst aX
  repeat refine sq ?_
  refine b7 ?_
  simp only[go_sem]
  refine kp [0] [] ?_
  repeat refine sq ?_
  refine rs hΓ [2] [] ?_
  refine ar ?_
  simp only[go_sem]
  first | simp only[cR,fN ae bw,Bool.false_and] | (simp only[cR,hR,Bool.true_and];done) | (simp only[cR,hR,Bool.true_and];congr 2;apply propext;omega)
theorem Jt:ak Tryz.prog 88 S88:=Qg.sound
noncomputable def K2:List (Nat×Spec):=[(82,S82),(83,S83),(79,S79),(87,S87),(84,S84),(85,S85),(81,S81),(88,S88)]
theorem NN:∀ f s,tbl K2 f=some s->ak Tryz.prog f s:=tc ye<|tc Jw<|tc B3<|tc Ju<|tc yd<|tc Jv<|tc B2<|tc Jt<|tn
attribute [go_sem] K2
theorem FX{s:Stk}{i p:Nat}(hp:p=(s.un.get i).length-1)(hz:((s.un.get i).length==0)=false)(bU:p<(s.un.get i).length):
 (!aP (s.se.get i) 0 99999||(!aP (s.ta.get i) 0 99999||(!cR (s.un.get i)||(((s.un.get i)[p]).no != s.se.get i))))=!fT s i:=by
 subst hp
 unfold fT
 rw[hz,getD_at bU]
 have :(((s.un.get i)[(s.un.get i).length-1]).no != s.se.get i)=!(((s.un.get i)[(s.un.get i).length-1]).no==s.se.get i):=rfl
 rw[this]
 cases aP (s.se.get i) 0 99999<;>cases aP (s.ta.get i) 0 99999<;>cases cR (s.un.get i)<;>cases ((s.un.get i)[(s.un.get i).length-1].no==s.se.get i)<;>rfl
theorem FW{s:Stk}{i:Nat}(hz:((s.un.get i).length==0)=true):
 (!aP (s.se.get i) 0 99999||(!aP (s.ta.get i) 0 99999||!cR (s.un.get i)))=!fT s i:=by
 unfold fT
 rw[hz]
 cases aP (s.se.get i) 0 99999<;>cases aP (s.ta.get i) 0 99999<;>cases cR (s.un.get i)<;>rfl
def mW(me:Int)(s:Stk):Bool:=!fD s.ho||(!((s.un.get me.toNat).length==0)||((s.se.get me.toNat != 0)||(s.ta.get me.toNat != 0)))
theorem dC{me:Int}{s:Stk}(bb:aP me 0 5=true):cr me s=(!mW me s&&fO 6 (fT s)):=by
 unfold cr mW
 rw[bb]
 have h1:(s.se.get me.toNat != 0)=!(s.se.get me.toNat==0):=rfl
 have h2:(s.ta.get me.toNat != 0)=!(s.ta.get me.toNat==0):=rfl
 rw[h1,h2]
 cases fD s.ho<;>cases ((s.un.get me.toNat).length==0)<;>cases (s.se.get me.toNat==0)<;>cases (s.ta.get me.toNat==0)<;>rfl
noncomputable def P89:PSpec:=p2 iI de (fun _ _=>True) (fun me s=>.bool (cr me s)) true
noncomputable def S89:Spec:=P89.toSpec
attribute [go_sem] P89 S89
set_option maxHeartbeats 4000000 in
theorem Qf:aL Tryz.prog 89 P89:=by
 refine w2 (rs:=[.tmp 4]) Tryz.func89 Tryz.ntmps89 (by rfl) (by kernel_rfl) (by decide) (fun _ _ _=>rfl) ⟨_,rfl,lb rfl,fun me s hp hw=>?_⟩
 have hP:=aU
 simp only[iI,de]at hw |-
 have hΓ:=NN
 repeat refine sq ?_
 refine rs hΓ [0,3] [[3,0]] ?_
 refine aF (bo [3,0] (ax s) rfl [0,3] [[3,0]] ?_ rfl) ?_
 ·simp only[go_sem]
 simp only[go_sem]
 rcases bb:aP me 0 5 with _ | _
 ·repeat refine sq ?_
  refine rx hΓ [3,37] [[3,0]] (fun K' hK=>by simp only[go_sem,bb];(repeat (refine⟨ob,?_⟩));exact hK _ (by simp only[go_sem]) (by simp only[go_sem]<;>rfl)) ?_
  repeat refine sq ?_
  refine aw rfl rfl (fun hb=>?_) (fun hb=>?_)
  ·repeat refine sq ?_
   refine rx hΓ [4] [] (fun K' hK=>by simp only[go_sem,bb];(repeat (refine⟨ob,?_⟩));exact hK _ (by simp only[go_sem]) (by simp only[go_sem]<;>rfl)) ?_
   refine ar ?_
   simp only[go_sem]
   first | (simp[cr,bb];done) | (rw[dC bb,cZ];rfl) | (rw[dC bb,cZ,fN ae bw];rfl) | (rw[dC bb,cZ,hR];rfl)
  ·cases hb
 ·have hm:=iu.1 bb
  have hk:me.toNat<6:=by omega
  have eB:0<=me:=hm.1
  have ez:me<6:=by omega
  repeat refine sq ?_
  refine rx hΓ [3,37] [[3,0]] (fun K' hK=>by simp only[go_sem,bb,eB,ez,cL s hk,dL s hk,dt s hk,dP];(repeat (refine⟨ob,?_⟩));exact hK _ (by simp only[go_sem]) (by simp only[go_sem]<;>rfl)) ?_
  repeat refine sq ?_
  refine aw rfl rfl (fun hb=>?_) (fun hb=>?_)
  ·repeat refine sq ?_
   have cZ:mW me s=true:=by simpa[mW,<-Bool.or_assoc]using hb
   repeat refine sq ?_
   refine rx hΓ [4] [] (fun K' hK=>by simp only[go_sem,bb,eB,ez,cL s hk,dL s hk,dt s hk,dP];(repeat (refine⟨ob,?_⟩));exact hK _ (by simp only[go_sem]) (by simp only[go_sem]<;>rfl)) ?_
   refine ar ?_
   simp only[go_sem]
   first | (simp[cr,bb];done) | (rw[dC bb,cZ];rfl) | (rw[dC bb,cZ,fN ae bw];rfl) | (rw[dC bb,cZ,hR];rfl)
  ·repeat refine sq ?_
   have cZ:mW me s=false:=by simpa[mW,<-Bool.or_assoc]using hb
   refine ay ?_
   repeat refine sq ?_
   refine rx hΓ [3,39,40] [[3,0]] (fun K' hK=>by simp only[go_sem,bb,eB,ez,cL s hk,dL s hk,dt s hk,dP];(repeat (refine⟨ob,?_⟩));exact hK _ (by simp only[go_sem]) (by simp only[go_sem]<;>rfl)) ?_
   repeat refine sq ?_
   refine aN ?_
   repeat refine sq ?_
   refine cB (fun z:Nat=>[(40,⟨true,.v (vInt z)⟩)]) (fun z=>[]) (fun z=>z<=6/\fO z (fT s)=true) (fun z=>6-z) 0 ?_ ?_ ?_ ?_
   ·exact⟨Nat.zero_le _,rfl⟩
   ·rfl
   ·rfl
   rintro i ⟨hi,hR⟩
   simp only[go_sem]
   repeat refine sq ?_
   refine rx hΓ [3,39,40,41] [[3,0]] (fun K' hK=>by simp only[go_sem,bb,eB,ez,cL s hk,dL s hk,dt s hk,dP];(repeat (refine⟨ob,?_⟩));exact hK _ (by simp only[go_sem]) (by simp only[go_sem]<;>rfl)) ?_
   repeat refine sq ?_
   refine aw rfl rfl (fun hb=>?_) (fun hb=>?_)
   ·have ae:i<6:=by have hq:(i:Int)<6:=(by simpa using hb);omega
    have aj:(i:Int)<6:=by omega
    clear hb
    obtain⟨p,hp,gT,cm⟩:=H5 (l:=s.un.get i) (rY hw.2 ae)
    repeat refine sq ?_
    refine ay ?_
    repeat refine sq ?_
    refine aN ?_
    repeat refine sq ?_
    refine rx hΓ [3,5,6,39,40] [[3,0]] (fun K' hK=>by simp only[go_sem,bb,eB,ez,cL s hk,dL s hk,dt s hk,dP,Int.toNat_natCast,Int.natCast_nonneg,aj,bg.L_get s.un rowP default ae,Int.toNat_natCast,Int.natCast_nonneg,aj];(repeat (refine⟨ob,?_⟩));exact hK _ (by simp only[go_sem]) (by simp only[go_sem]<;>rfl)) ?_
    rcases hz:((s.un.get i).length==0)with _ | _
    ·obtain⟨bU,dp,dz⟩:=cm hz
     have ea:=FX gT hz bU
     repeat refine sq ?_
     refine dx hΓ hP [[],[],[0,1],[0,1,2],[0,1,2,3],[0,1,2,3,4],[0,1,2,3,4,5],[0,1,2,3,4,5,6],[0,1,2,3,4,5,6],[0,1,2,3,4,5,6,7,8],[0,1,2,3,4,5,6,7,8,9],[0,1,2,3,4,5,6,7,8,9,10],[0,1,2,3,4,5,6,7,8,9,10,11],[0,1,2,3,4,5,6,7,8,9,10,11,12],[0,1,2,3,4,5,6,7,8,9,10,11,12,13],[0,1,2,3,4,5,6,7,8,9,10,11,12,13,14],[0,1,2,3,4,5,6,7,8,9,10,11,12,13,14,15],[0,1,2,3,4,5,6,7,8,9,10,11,12,13,14,15,16],[0,1,2,3,4,5,6,7,8,9,10,11,12,13,14,15,16,17],[0,1,2,3,4,5,6,7,8,9,10,11,12,13,14,15,16,17,18],[0,1,2,3,4,5,6,7,8,9,10,11,12,13,14,15,16,17,18,19],[0,1,2,3,4,5,6,7,8,9,10,11,12,13,14,15,16,17,18,19,20],[0,1,2,3,4,5,6,7,8,9,10,11,12,13,14,15,16,17,18,19,20,21],[0,1,2,3,4,5,6,7,8,9,10,11,12,13,14,15,16,17,18,19,20,21,22],[0,1,2,3,4,5,6,7,8,9,10,11,12,13,14,15,16,17,18,19,20,21,22,23],[0,1,2,3,4,5,6,7,8,9,10,11,12,13,14,15,16,17,18,19,20,21,22,23],[0,1,2,3,4,5,6,7,8,9,10,11,12,13,14,15,16,17,18,19,20,21,22,23,25],[0,1,2,3,4,5,6,7,8,9,10,11,12,13,14,15,16,17,18,19,20,21,22,23,25,26],[0,1,2,3,4,5,6,7,8,9,10,11,12,13,14,15,16,17,18,19,20,21,22,23,24,25,26,27],[0,1,2,3,4,5,6,7,8,9,10,11,12,13,14,15,16,17,18,19,20,21,22,23,24,25,26,27,28],[0,1,2,3,4,5,6,7,8,9,10,11,12,13,14,15,16,17,18,19,20,21,22,23,24,25,26,27,28,29],[0,1,2,3,4,5,6,7,8,9,10,11,12,13,14,15,16,17,18,19,20,21,22,23],[0,1,2,3,4,5,6,7,8,9,10,11,12,13,14,15,16,17,18,19,20,21,22,23],[0,1,2,3,4,5,6,7,8,9,10,11,12,13,14,15,16,17,18,19,20,21,22,23,31,32],[0,1,2,3,4,5,6,7,8,9,10,11,12,13,14,15,16,17,18,19,20,21,22,23,31,32,33],[0,1,2,3,4,5,6,7,8,9,10,11,12,13,14,15,16,17,18,19,20,21,22,23,24,25,26,27,28,29,30,31,32,33,34],[0,1,2,3,4,5,6,7,8,9,10,11,12,13,14,15,16,17,18,19,20,21,22,23,24,25,26,27,28,29,30,31,32,33,34,35],[0,1,2,3,4,5,6,7,8,9,10,11,12,13,14,15,16,17,18,19,20,21,22,23,24,25,26,27,28,29,30,31,32,33,34,35,36]] [3,39,40,81] [[3,0]] (by kernel_rfl) (fun K' hK=>by simp only[go_sem,bb,eB,ez,cL s hk,dL s hk,dt s hk,dP,Int.toNat_natCast,Int.natCast_nonneg,aj,hz,hp,dp,dz,aG bU,dL s ae,dt s ae,Int.toNat_natCast,Int.natCast_nonneg,aj,dP];(repeat (refine⟨by first | exact ob | exact⟨dp,dz,rfl⟩ | exact fun _=>⟨dp,dz,rfl⟩,?_⟩));(first | refine⟨by rfl,?_⟩ | skip);exact hK _ (by simp only[go_sem]) (by simp only[go_sem]<;>rfl)) ?_
     repeat refine sq ?_
     refine aw rfl rfl (fun hb=>?_) (fun hb=>?_)
     ·repeat refine sq ?_
      have bw:fT s i=false:=by simpa[<-Bool.or_assoc,hb]using ea.symm
      repeat refine sq ?_
      refine rx hΓ [4] [] (fun K' hK=>by simp only[go_sem,bb,eB,ez,cL s hk,dL s hk,dt s hk,dP,Int.toNat_natCast,Int.natCast_nonneg,aj,hz,hp,dp,dz,aG bU];(repeat (refine⟨ob,?_⟩));exact hK _ (by simp only[go_sem]) (by simp only[go_sem]<;>rfl)) ?_
      refine ar ?_
      simp only[go_sem]
      first | (simp[cr,bb];done) | (rw[dC bb,cZ];rfl) | (rw[dC bb,cZ,fN ae bw];rfl) | (rw[dC bb,cZ,hR];rfl)
     ·repeat refine sq ?_
      have bB:fT s i=true:=by simpa[<-Bool.or_assoc,hb]using ea.symm
      refine ay ?_
      refine dq ?_
      simp only[go_sem]
      refine kp [3,39,40] [[3,0]] ?_
      repeat refine sq ?_
      refine aS hΓ fun K' hK=>?_
      simp only[go_sem,bb,eB,ez,cL s hk,dL s hk,dt s hk,dP,Int.toNat_natCast,Int.natCast_nonneg,aj,hz,hp,dp,dz,aG bU]
      repeat (refine⟨ob,?_⟩)
      refine hK _ ?_
      clear K' hK
      simp only[go_sem]
      refine⟨i+1,⟨ae,?_⟩,by(show 6-(i+1)<6-i;omega),?_⟩
      ·exact kT hR bB
      refine bk [3,39,40] [[3,0]] ?_ ?_
      ·simp only[go_sem,aE ae (lb rfl:(6:Nat)<=maxLen),Int.natCast_add,Int.natCast_one]
      ·simp only[go_sem,aE ae (lb rfl:(6:Nat)<=maxLen),Int.natCast_add,Int.natCast_one]
    ·have ea:=FW hz
     repeat refine sq ?_
     refine dx hΓ hP [[],[],[0,1],[0,1,2],[0,1,2,3],[0,1,2,3,4],[0,1,2,3,4,5],[0,1,2,3,4,5,6],[0,1,2,3,4,5,6],[0,1,2,3,4,5,6,7,8],[0,1,2,3,4,5,6,7,8,9],[0,1,2,3,4,5,6,7,8,9,10],[0,1,2,3,4,5,6,7,8,9,10,11],[0,1,2,3,4,5,6,7,8,9,10,11,12],[0,1,2,3,4,5,6,7,8,9,10,11,12,13],[0,1,2,3,4,5,6,7,8,9,10,11,12,13,14],[0,1,2,3,4,5,6,7,8,9,10,11,12,13,14,15],[0,1,2,3,4,5,6,7,8,9,10,11,12,13,14,15,16],[0,1,2,3,4,5,6,7,8,9,10,11,12,13,14,15,16,17],[0,1,2,3,4,5,6,7,8,9,10,11,12,13,14,15,16,17,18],[0,1,2,3,4,5,6,7,8,9,10,11,12,13,14,15,16,17,18,19],[0,1,2,3,4,5,6,7,8,9,10,11,12,13,14,15,16,17,18,19,20],[0,1,2,3,4,5,6,7,8,9,10,11,12,13,14,15,16,17,18,19,20,21],[0,1,2,3,4,5,6,7,8,9,10,11,12,13,14,15,16,17,18,19,20,21,22],[0,1,2,3,4,5,6,7,8,9,10,11,12,13,14,15,16,17,18,19,20,21,22,23],[0,1,2,3,4,5,6,7,8,9,10,11,12,13,14,15,16,17,18,19,20,21,22,23],[0,1,2,3,4,5,6,7,8,9,10,11,12,13,14,15,16,17,18,19,20,21,22,23,25],[0,1,2,3,4,5,6,7,8,9,10,11,12,13,14,15,16,17,18,19,20,21,22,23,25,26],[0,1,2,3,4,5,6,7,8,9,10,11,12,13,14,15,16,17,18,19,20,21,22,23,24,25,26,27],[0,1,2,3,4,5,6,7,8,9,10,11,12,13,14,15,16,17,18,19,20,21,22,23,24,25,26,27,28],[0,1,2,3,4,5,6,7,8,9,10,11,12,13,14,15,16,17,18,19,20,21,22,23,24,25,26,27,28,29],[0,1,2,3,4,5,6,7,8,9,10,11,12,13,14,15,16,17,18,19,20,21,22,23],[0,1,2,3,4,5,6,7,8,9,10,11,12,13,14,15,16,17,18,19,20,21,22,23],[0,1,2,3,4,5,6,7,8,9,10,11,12,13,14,15,16,17,18,19,20,21,22,23,31,32],[0,1,2,3,4,5,6,7,8,9,10,11,12,13,14,15,16,17,18,19,20,21,22,23,31,32,33],[0,1,2,3,4,5,6,7,8,9,10,11,12,13,14,15,16,17,18,19,20,21,22,23,24,25,26,27,28,29,30,31,32,33,34],[0,1,2,3,4,5,6,7,8,9,10,11,12,13,14,15,16,17,18,19,20,21,22,23,24,25,26,27,28,29,30,31,32,33,34,35],[0,1,2,3,4,5,6,7,8,9,10,11,12,13,14,15,16,17,18,19,20,21,22,23,24,25,26,27,28,29,30,31,32,33,34,35,36]] [3,39,40,81] [[3,0]] (by kernel_rfl) (fun K' hK=>by simp only[go_sem,bb,eB,ez,cL s hk,dL s hk,dt s hk,dP,Int.toNat_natCast,Int.natCast_nonneg,aj,hz,dL s ae,dt s ae,Int.toNat_natCast,Int.natCast_nonneg,aj,dP];(repeat (refine⟨by first | exact ob | exact⟨dp,dz,rfl⟩ | exact fun _=>⟨dp,dz,rfl⟩,?_⟩));(first | refine⟨by rfl,?_⟩ | skip);exact hK _ (by simp only[go_sem]) (by simp only[go_sem]<;>rfl)) ?_
     repeat refine sq ?_
     refine aw rfl rfl (fun hb=>?_) (fun hb=>?_)
     ·repeat refine sq ?_
      have bw:fT s i=false:=by simpa[<-Bool.or_assoc,hb]using ea.symm
      repeat refine sq ?_
      refine rx hΓ [4] [] (fun K' hK=>by simp only[go_sem,bb,eB,ez,cL s hk,dL s hk,dt s hk,dP,Int.toNat_natCast,Int.natCast_nonneg,aj,hz];(repeat (refine⟨ob,?_⟩));exact hK _ (by simp only[go_sem]) (by simp only[go_sem]<;>rfl)) ?_
      refine ar ?_
      simp only[go_sem]
      first | (simp[cr,bb];done) | (rw[dC bb,cZ];rfl) | (rw[dC bb,cZ,fN ae bw];rfl) | (rw[dC bb,cZ,hR];rfl)
     ·repeat refine sq ?_
      have bB:fT s i=true:=by simpa[<-Bool.or_assoc,hb]using ea.symm
      refine ay ?_
      refine dq ?_
      simp only[go_sem]
      refine kp [3,39,40] [[3,0]] ?_
      repeat refine sq ?_
      refine aS hΓ fun K' hK=>?_
      simp only[go_sem,bb,eB,ez,cL s hk,dL s hk,dt s hk,dP,Int.toNat_natCast,Int.natCast_nonneg,aj,hz]
      repeat (refine⟨ob,?_⟩)
      refine hK _ ?_
      clear K' hK
      simp only[go_sem]
      refine⟨i+1,⟨ae,?_⟩,by(show 6-(i+1)<6-i;omega),?_⟩
      ·exact kT hR bB
      refine bk [3,39,40] [[3,0]] ?_ ?_
      ·simp only[go_sem,aE ae (lb rfl:(6:Nat)<=maxLen),Int.natCast_add,Int.natCast_one]
      ·simp only[go_sem,aE ae (lb rfl:(6:Nat)<=maxLen),Int.natCast_add,Int.natCast_one]
   ·have aX:i=6:=by
     have :¬ (i:Int)<6:=by simpa using hb
     omega
    clear hb
    subst aX
    repeat refine sq ?_
    refine b7 ?_
    simp only[go_sem]
    refine kp [] [] ?_
    repeat refine sq ?_
    refine rx hΓ [4] [] (fun K' hK=>by simp only[go_sem,bb,eB,ez,cL s hk,dL s hk,dt s hk,dP];(repeat (refine⟨ob,?_⟩));exact hK _ (by simp only[go_sem]) (by simp only[go_sem]<;>rfl)) ?_
    refine ar ?_
    simp only[go_sem]
    first | (simp[cr,bb];done) | (rw[dC bb,cZ];rfl) | (rw[dC bb,cZ,fN ae bw];rfl) | (rw[dC bb,cZ,hR];rfl)
theorem B0:ak Tryz.prog 89 S89:=Qf.sound
def dK(me:Int)(s:Stk):Int:=if cr me s=true then 0 else 90
def ie(s:Stk):Bool:=!fO 6 fun m=>!cr m s
def fM(b:Bag):Bool:=aP b.fr 0 5&&aP b.to 0 5&&(b.fr != b.to)&&cR b.ps&&aP b.ta 0 99999
def kQ(b:Bag):Int:=if fM b=true then 0 else 93
noncomputable def P43:PSpec:=p2 iI de (fun _ _=>True) (fun me s=>vInt (dK me s)) true
noncomputable def S43:Spec:=P43.toSpec
attribute [go_sem] P43 S43
set_option maxHeartbeats 4000000 in
theorem QJ:aL Tryz.prog 43 P43:=by
 refine w2 (rs:=[.tmp 4]) Tryz.func43 Tryz.ntmps43 (by rfl) (by kernel_rfl) (by decide) (fun _ _ _=>rfl) ⟨_,rfl,lb rfl,fun me s hp hw=>?_⟩
 have hP:=aU
 simp only[iI,de]at hw |-
 have hΓ:=NN
 repeat refine sq ?_
 refine rs hΓ [0,3] [[3,0]] ?_
 refine aF (bo [3,0] (ax s) rfl [0,3] [[3,0]] ?_ rfl) ?_
 ·simp only[go_sem]
 simp only[go_sem]
 rcases bb:aP me 0 5 with _ | _
 ·repeat refine sq ?_
  refine rx hΓ [3,37] [[3,0]] (fun K' hK=>by simp only[go_sem,bb];(repeat (refine⟨ob,?_⟩));exact hK _ (by simp only[go_sem]) (by simp only[go_sem]<;>rfl)) ?_
  repeat refine sq ?_
  refine aw rfl rfl (fun hb=>?_) (fun hb=>?_)
  ·repeat refine sq ?_
   refine rx hΓ [4] [] (fun K' hK=>by simp only[go_sem,bb];(repeat (refine⟨ob,?_⟩));exact hK _ (by simp only[go_sem]) (by simp only[go_sem]<;>rfl)) ?_
   refine ar ?_
   simp only[go_sem]
   first | (simp[dK,cr,bb];done) | (unfold dK;rw[dC bb,cZ];rfl) | (unfold dK;rw[dC bb,cZ,fN ae bw];rfl) | (unfold dK;rw[dC bb,cZ,hR];rfl)
  ·cases hb
 ·have hm:=iu.1 bb
  have hk:me.toNat<6:=by omega
  have eB:0<=me:=hm.1
  have ez:me<6:=by omega
  repeat refine sq ?_
  refine rx hΓ [3,37] [[3,0]] (fun K' hK=>by simp only[go_sem,bb,eB,ez,cL s hk,dL s hk,dt s hk,dP];(repeat (refine⟨ob,?_⟩));exact hK _ (by simp only[go_sem]) (by simp only[go_sem]<;>rfl)) ?_
  repeat refine sq ?_
  refine aw rfl rfl (fun hb=>?_) (fun hb=>?_)
  ·repeat refine sq ?_
   have cZ:mW me s=true:=by simpa[mW,<-Bool.or_assoc]using hb
   repeat refine sq ?_
   refine rx hΓ [4] [] (fun K' hK=>by simp only[go_sem,bb,eB,ez,cL s hk,dL s hk,dt s hk,dP];(repeat (refine⟨ob,?_⟩));exact hK _ (by simp only[go_sem]) (by simp only[go_sem]<;>rfl)) ?_
   refine ar ?_
   simp only[go_sem]
   first | (simp[dK,cr,bb];done) | (unfold dK;rw[dC bb,cZ];rfl) | (unfold dK;rw[dC bb,cZ,fN ae bw];rfl) | (unfold dK;rw[dC bb,cZ,hR];rfl)
  ·repeat refine sq ?_
   have cZ:mW me s=false:=by simpa[mW,<-Bool.or_assoc]using hb
   refine ay ?_
   repeat refine sq ?_
   refine rx hΓ [3,5] [[3,0]] (fun K' hK=>by simp only[go_sem,bb,eB,ez,cL s hk,dL s hk,dt s hk,dP];(repeat (refine⟨ob,?_⟩));exact hK _ (by simp only[go_sem]) (by simp only[go_sem]<;>rfl)) ?_
   repeat refine sq ?_
   refine aN ?_
   repeat refine sq ?_
   refine cB (fun z:Nat=>[(5,⟨true,.v (vInt z)⟩)]) (fun z=>[]) (fun z=>z<=6/\fO z (fT s)=true) (fun z=>6-z) 0 ?_ ?_ ?_ ?_
   ·exact⟨Nat.zero_le _,rfl⟩
   ·rfl
   ·rfl
   rintro i ⟨hi,hR⟩
   simp only[go_sem]
   repeat refine sq ?_
   refine rx hΓ [3,5,39] [[3,0]] (fun K' hK=>by simp only[go_sem,bb,eB,ez,cL s hk,dL s hk,dt s hk,dP];(repeat (refine⟨ob,?_⟩));exact hK _ (by simp only[go_sem]) (by simp only[go_sem]<;>rfl)) ?_
   repeat refine sq ?_
   refine aw rfl rfl (fun hb=>?_) (fun hb=>?_)
   ·have ae:i<6:=by have hq:(i:Int)<6:=(by simpa using hb);omega
    have aj:(i:Int)<6:=by omega
    clear hb
    obtain⟨p,hp,gT,cm⟩:=H5 (l:=s.un.get i) (rY hw.2 ae)
    repeat refine sq ?_
    refine ay ?_
    repeat refine sq ?_
    refine aN ?_
    repeat refine sq ?_
    refine rx hΓ [3,5,6] [[3,0]] (fun K' hK=>by simp only[go_sem,bb,eB,ez,cL s hk,dL s hk,dt s hk,dP,Int.toNat_natCast,Int.natCast_nonneg,aj,cL s ae,Int.toNat_natCast,Int.natCast_nonneg,aj];(repeat (refine⟨ob,?_⟩));exact hK _ (by simp only[go_sem]) (by simp only[go_sem]<;>rfl)) ?_
    rcases hz:((s.un.get i).length==0)with _ | _
    ·obtain⟨bU,dp,dz⟩:=cm hz
     have ea:=FX gT hz bU
     repeat refine sq ?_
     refine dx hΓ hP [[],[],[0,1],[0,1,2],[0,1,2,3],[0,1,2,3,4],[0,1,2,3,4,5],[0,1,2,3,4,5,6],[0,1,2,3,4,5,6],[0,1,2,3,4,5,6,7,8],[0,1,2,3,4,5,6,7,8,9],[0,1,2,3,4,5,6,7,8,9,10],[0,1,2,3,4,5,6,7,8,9,10,11],[0,1,2,3,4,5,6,7,8,9,10,11,12],[0,1,2,3,4,5,6,7,8,9,10,11,12,13],[0,1,2,3,4,5,6,7,8,9,10,11,12,13,14],[0,1,2,3,4,5,6,7,8,9,10,11,12,13,14,15],[0,1,2,3,4,5,6,7,8,9,10,11,12,13,14,15,16],[0,1,2,3,4,5,6,7,8,9,10,11,12,13,14,15,16,17],[0,1,2,3,4,5,6,7,8,9,10,11,12,13,14,15,16,17,18],[0,1,2,3,4,5,6,7,8,9,10,11,12,13,14,15,16,17,18,19],[0,1,2,3,4,5,6,7,8,9,10,11,12,13,14,15,16,17,18,19,20],[0,1,2,3,4,5,6,7,8,9,10,11,12,13,14,15,16,17,18,19,20,21],[0,1,2,3,4,5,6,7,8,9,10,11,12,13,14,15,16,17,18,19,20,21,22],[0,1,2,3,4,5,6,7,8,9,10,11,12,13,14,15,16,17,18,19,20,21,22,23],[0,1,2,3,4,5,6,7,8,9,10,11,12,13,14,15,16,17,18,19,20,21,22,23],[0,1,2,3,4,5,6,7,8,9,10,11,12,13,14,15,16,17,18,19,20,21,22,23,25],[0,1,2,3,4,5,6,7,8,9,10,11,12,13,14,15,16,17,18,19,20,21,22,23,25,26],[0,1,2,3,4,5,6,7,8,9,10,11,12,13,14,15,16,17,18,19,20,21,22,23,24,25,26,27],[0,1,2,3,4,5,6,7,8,9,10,11,12,13,14,15,16,17,18,19,20,21,22,23,24,25,26,27,28],[0,1,2,3,4,5,6,7,8,9,10,11,12,13,14,15,16,17,18,19,20,21,22,23,24,25,26,27,28,29],[0,1,2,3,4,5,6,7,8,9,10,11,12,13,14,15,16,17,18,19,20,21,22,23],[0,1,2,3,4,5,6,7,8,9,10,11,12,13,14,15,16,17,18,19,20,21,22,23],[0,1,2,3,4,5,6,7,8,9,10,11,12,13,14,15,16,17,18,19,20,21,22,23,31,32],[0,1,2,3,4,5,6,7,8,9,10,11,12,13,14,15,16,17,18,19,20,21,22,23,31,32,33],[0,1,2,3,4,5,6,7,8,9,10,11,12,13,14,15,16,17,18,19,20,21,22,23,24,25,26,27,28,29,30,31,32,33,34],[0,1,2,3,4,5,6,7,8,9,10,11,12,13,14,15,16,17,18,19,20,21,22,23,24,25,26,27,28,29,30,31,32,33,34,35],[0,1,2,3,4,5,6,7,8,9,10,11,12,13,14,15,16,17,18,19,20,21,22,23,24,25,26,27,28,29,30,31,32,33,34,35,36]] [3,5,83] [[3,0]] (by kernel_rfl) (fun K' hK=>by simp only[go_sem,bb,eB,ez,cL s hk,dL s hk,dt s hk,dP,Int.toNat_natCast,Int.natCast_nonneg,aj,hz,hp,dp,dz,aG bU,dL s ae,dt s ae,Int.toNat_natCast,Int.natCast_nonneg,aj,dP];(repeat (refine⟨by first | exact ob | exact⟨dp,dz,rfl⟩ | exact fun _=>⟨dp,dz,rfl⟩,?_⟩));(first | refine⟨by rfl,?_⟩ | skip);exact hK _ (by simp only[go_sem]) (by simp only[go_sem]<;>rfl)) ?_
     repeat refine sq ?_
     refine aw rfl rfl (fun hb=>?_) (fun hb=>?_)
     ·repeat refine sq ?_
      have bw:fT s i=false:=by simpa[<-Bool.or_assoc,hb]using ea.symm
      repeat refine sq ?_
      refine rx hΓ [4] [] (fun K' hK=>by simp only[go_sem,bb,eB,ez,cL s hk,dL s hk,dt s hk,dP,Int.toNat_natCast,Int.natCast_nonneg,aj,hz,hp,dp,dz,aG bU];(repeat (refine⟨ob,?_⟩));exact hK _ (by simp only[go_sem]) (by simp only[go_sem]<;>rfl)) ?_
      refine ar ?_
      simp only[go_sem]
      first | (simp[dK,cr,bb];done) | (unfold dK;rw[dC bb,cZ];rfl) | (unfold dK;rw[dC bb,cZ,fN ae bw];rfl) | (unfold dK;rw[dC bb,cZ,hR];rfl)
     ·repeat refine sq ?_
      have bB:fT s i=true:=by simpa[<-Bool.or_assoc,hb]using ea.symm
      refine ay ?_
      refine dq ?_
      simp only[go_sem]
      refine kp [3,5] [[3,0]] ?_
      repeat refine sq ?_
      refine aS hΓ fun K' hK=>?_
      simp only[go_sem,bb,eB,ez,cL s hk,dL s hk,dt s hk,dP,Int.toNat_natCast,Int.natCast_nonneg,aj,hz,hp,dp,dz,aG bU]
      repeat (refine⟨ob,?_⟩)
      refine hK _ ?_
      clear K' hK
      simp only[go_sem]
      refine⟨i+1,⟨ae,?_⟩,by(show 6-(i+1)<6-i;omega),?_⟩
      ·exact kT hR bB
      refine bk [3,5] [[3,0]] ?_ ?_
      ·simp only[go_sem,aE ae (lb rfl:(6:Nat)<=maxLen),Int.natCast_add,Int.natCast_one]
      ·simp only[go_sem,aE ae (lb rfl:(6:Nat)<=maxLen),Int.natCast_add,Int.natCast_one]
    ·have ea:=FW hz
     repeat refine sq ?_
     refine dx hΓ hP [[],[],[0,1],[0,1,2],[0,1,2,3],[0,1,2,3,4],[0,1,2,3,4,5],[0,1,2,3,4,5,6],[0,1,2,3,4,5,6],[0,1,2,3,4,5,6,7,8],[0,1,2,3,4,5,6,7,8,9],[0,1,2,3,4,5,6,7,8,9,10],[0,1,2,3,4,5,6,7,8,9,10,11],[0,1,2,3,4,5,6,7,8,9,10,11,12],[0,1,2,3,4,5,6,7,8,9,10,11,12,13],[0,1,2,3,4,5,6,7,8,9,10,11,12,13,14],[0,1,2,3,4,5,6,7,8,9,10,11,12,13,14,15],[0,1,2,3,4,5,6,7,8,9,10,11,12,13,14,15,16],[0,1,2,3,4,5,6,7,8,9,10,11,12,13,14,15,16,17],[0,1,2,3,4,5,6,7,8,9,10,11,12,13,14,15,16,17,18],[0,1,2,3,4,5,6,7,8,9,10,11,12,13,14,15,16,17,18,19],[0,1,2,3,4,5,6,7,8,9,10,11,12,13,14,15,16,17,18,19,20],[0,1,2,3,4,5,6,7,8,9,10,11,12,13,14,15,16,17,18,19,20,21],[0,1,2,3,4,5,6,7,8,9,10,11,12,13,14,15,16,17,18,19,20,21,22],[0,1,2,3,4,5,6,7,8,9,10,11,12,13,14,15,16,17,18,19,20,21,22,23],[0,1,2,3,4,5,6,7,8,9,10,11,12,13,14,15,16,17,18,19,20,21,22,23],[0,1,2,3,4,5,6,7,8,9,10,11,12,13,14,15,16,17,18,19,20,21,22,23,25],[0,1,2,3,4,5,6,7,8,9,10,11,12,13,14,15,16,17,18,19,20,21,22,23,25,26],[0,1,2,3,4,5,6,7,8,9,10,11,12,13,14,15,16,17,18,19,20,21,22,23,24,25,26,27],[0,1,2,3,4,5,6,7,8,9,10,11,12,13,14,15,16,17,18,19,20,21,22,23,24,25,26,27,28],[0,1,2,3,4,5,6,7,8,9,10,11,12,13,14,15,16,17,18,19,20,21,22,23,24,25,26,27,28,29],[0,1,2,3,4,5,6,7,8,9,10,11,12,13,14,15,16,17,18,19,20,21,22,23],[0,1,2,3,4,5,6,7,8,9,10,11,12,13,14,15,16,17,18,19,20,21,22,23],[0,1,2,3,4,5,6,7,8,9,10,11,12,13,14,15,16,17,18,19,20,21,22,23,31,32],[0,1,2,3,4,5,6,7,8,9,10,11,12,13,14,15,16,17,18,19,20,21,22,23,31,32,33],[0,1,2,3,4,5,6,7,8,9,10,11,12,13,14,15,16,17,18,19,20,21,22,23,24,25,26,27,28,29,30,31,32,33,34],[0,1,2,3,4,5,6,7,8,9,10,11,12,13,14,15,16,17,18,19,20,21,22,23,24,25,26,27,28,29,30,31,32,33,34,35],[0,1,2,3,4,5,6,7,8,9,10,11,12,13,14,15,16,17,18,19,20,21,22,23,24,25,26,27,28,29,30,31,32,33,34,35,36]] [3,5,83] [[3,0]] (by kernel_rfl) (fun K' hK=>by simp only[go_sem,bb,eB,ez,cL s hk,dL s hk,dt s hk,dP,Int.toNat_natCast,Int.natCast_nonneg,aj,hz,dL s ae,dt s ae,Int.toNat_natCast,Int.natCast_nonneg,aj,dP];(repeat (refine⟨by first | exact ob | exact⟨dp,dz,rfl⟩ | exact fun _=>⟨dp,dz,rfl⟩,?_⟩));(first | refine⟨by rfl,?_⟩ | skip);exact hK _ (by simp only[go_sem]) (by simp only[go_sem]<;>rfl)) ?_
     repeat refine sq ?_
     refine aw rfl rfl (fun hb=>?_) (fun hb=>?_)
     ·repeat refine sq ?_
      have bw:fT s i=false:=by simpa[<-Bool.or_assoc,hb]using ea.symm
      repeat refine sq ?_
      refine rx hΓ [4] [] (fun K' hK=>by simp only[go_sem,bb,eB,ez,cL s hk,dL s hk,dt s hk,dP,Int.toNat_natCast,Int.natCast_nonneg,aj,hz];(repeat (refine⟨ob,?_⟩));exact hK _ (by simp only[go_sem]) (by simp only[go_sem]<;>rfl)) ?_
      refine ar ?_
      simp only[go_sem]
      first | (simp[dK,cr,bb];done) | (unfold dK;rw[dC bb,cZ];rfl) | (unfold dK;rw[dC bb,cZ,fN ae bw];rfl) | (unfold dK;rw[dC bb,cZ,hR];rfl)
     ·repeat refine sq ?_
      have bB:fT s i=true:=by simpa[<-Bool.or_assoc,hb]using ea.symm
      refine ay ?_
      refine dq ?_
      simp only[go_sem]
      refine kp [3,5] [[3,0]] ?_
      repeat refine sq ?_
      refine aS hΓ fun K' hK=>?_
      simp only[go_sem,bb,eB,ez,cL s hk,dL s hk,dt s hk,dP,Int.toNat_natCast,Int.natCast_nonneg,aj,hz]
      repeat (refine⟨ob,?_⟩)
      refine hK _ ?_
      clear K' hK
      simp only[go_sem]
      refine⟨i+1,⟨ae,?_⟩,by(show 6-(i+1)<6-i;omega),?_⟩
      ·exact kT hR bB
      refine bk [3,5] [[3,0]] ?_ ?_
      ·simp only[go_sem,aE ae (lb rfl:(6:Nat)<=maxLen),Int.natCast_add,Int.natCast_one]
      ·simp only[go_sem,aE ae (lb rfl:(6:Nat)<=maxLen),Int.natCast_add,Int.natCast_one]
   ·have aX:i=6:=by
     have :¬ (i:Int)<6:=by simpa using hb
     omega
    clear hb
    subst aX
    repeat refine sq ?_
    refine b7 ?_
    simp only[go_sem]
    refine kp [] [] ?_
    repeat refine sq ?_
    refine rx hΓ [4] [] (fun K' hK=>by simp only[go_sem,bb,eB,ez,cL s hk,dL s hk,dt s hk,dP];(repeat (refine⟨ob,?_⟩));exact hK _ (by simp only[go_sem]) (by simp only[go_sem]<;>rfl)) ?_
    refine ar ?_
    simp only[go_sem]
    first | (simp[dK,cr,bb];done) | (unfold dK;rw[dC bb,cZ];rfl) | (unfold dK;rw[dC bb,cZ,fN ae bw];rfl) | (unfold dK;rw[dC bb,cZ,hR];rfl)
theorem B9:ak Tryz.prog 43 S43:=QJ.sound
noncomputable def K4:List (Nat×Spec):=[(89,S89),(43,S43),(82,S82),(87,S87),(79,S79),(84,S84),(88,S88),(81,S81)]
theorem wQ:∀ f s,tbl K4 f=some s->ak Tryz.prog f s:=tc B0<|tc B9<|tc ye<|tc Ju<|tc B3<|tc yd<|tc Jt<|tc B2<|tn
attribute [go_sem] K4
noncomputable def P42:PSpec:=p2 iI de (fun _ _=>True) (fun me s=>vInt (dK me s)) true
noncomputable def S42:Spec:=P42.toSpec
attribute [go_sem] P42 S42
theorem QK:aL Tryz.prog 42 P42:=by
 refine w2 (rs:=[.tmp 4]) Tryz.func42 Tryz.ntmps42 (by rfl) (by kernel_rfl) (by decide) (fun _ _ _=>rfl) ⟨_,rfl,lb rfl,fun me s hp hw=>?_⟩
 have hP:=aU
 simp only[iI,de]at hw |-
 have hΓ:=wQ
 repeat refine sq ?_
 refine rs hΓ [0,3] [[3,0]] ?_
 refine aF (bo [3,0] (ax s) rfl [0,3] [[3,0]] ?_ rfl) ?_
 ·simp only[go_sem]
 simp only[go_sem]
 repeat refine sq ?_
 refine rs hΓ [8] [] ?_
 repeat refine sq ?_
 refine aw rfl rfl (fun hb=>?_) (fun hb=>?_)
 ·repeat refine sq ?_
  refine rs hΓ [4] [] ?_
  refine ar ?_
  simp only[go_sem]
  first | (simp_all[dK];done)
 ·repeat refine sq ?_
  refine ay ?_
  repeat refine sq ?_
  refine rs hΓ [4] [] ?_
  refine ar ?_
  simp only[go_sem]
  first | (simp_all[dK];done)
theorem k42:ak Tryz.prog 42 S42:=QK.sound
theorem xh{s:Stk}{i:Nat}(hi:i<6)(h:cr i s=true):ie s=true:=by
 unfold ie
 rw[fN hi (by rw[h];rfl)];rfl
theorem AA{me:Int}{s:Stk}:(dK me s==0)=cr me s:=by
 unfold dK
 cases cr me s<;>rfl
noncomputable def P78:PSpec:=p1 de (fun _=>True) (fun s=>.bool (ie s)) true
noncomputable def S78:Spec:=P78.toSpec
attribute [go_sem] P78 S78
set_option maxHeartbeats 4000000 in
theorem Qq:aL Tryz.prog 78 P78:=by
 refine w1 (rs:=[.tmp 2]) Tryz.func78 Tryz.ntmps78 (by rfl) (by kernel_rfl) (by decide) (fun _ _=>rfl) ⟨_,rfl,lb rfl,fun s hp hw=>?_⟩
 have hP:=aU
 simp only[de]at hw |-
 have hΓ:=wQ
 repeat refine sq ?_
 refine rs hΓ [1] [[1,0]] ?_
 refine aF (bo [1,0] (ax s) rfl [1] [[1,0]] ?_ rfl) ?_
 ·simp only[go_sem]
 simp only[go_sem]
 repeat refine sq ?_
 refine rs hΓ [1,4] [[1,0]] ?_
 repeat refine sq ?_
 refine aN ?_
 repeat refine sq ?_
 refine cB (fun z:Nat=>[(4,⟨true,.v (vInt z)⟩)]) (fun z=>[]) (fun z=>z<=6/\fO z (fun m=>!cr m s)=true) (fun z=>6-z) 0 ?_ ?_ ?_ ?_
 ·exact⟨Nat.zero_le _,rfl⟩
 ·rfl
 ·rfl
 rintro i ⟨hi,hR⟩
 simp only[go_sem]
 repeat refine sq ?_
 refine rs hΓ [1,4,5] [[1,0]] ?_
 repeat refine sq ?_
 refine aw rfl rfl (fun hb=>?_) (fun hb=>?_)
 ·have ae:i<6:=by have hq:(i:Int)<6:=(by simpa using hb);omega
  have aj:(i:Int)<6:=by omega
  clear hb
  repeat refine sq ?_
  refine ay ?_
  repeat refine sq ?_
  refine aN ?_
  repeat refine sq ?_
  refine rx hΓ [1,3,4] [[1,0]] (fun K' hK=>by simp only[go_sem,Int.toNat_natCast,Int.natCast_nonneg,aj];(repeat (refine⟨ob,?_⟩));exact hK _ (by simp only[go_sem]) (by simp only[go_sem]<;>rfl)) ?_
  repeat refine sq ?_
  refine rx hΓ [1,4,9] [[1,0]] (fun K' hK=>by simp only[go_sem,Int.toNat_natCast,Int.natCast_nonneg,aj];(repeat (refine⟨ob,?_⟩));exact hK _ (by simp only[go_sem]) (by simp only[go_sem]<;>rfl)) ?_
  repeat refine sq ?_
  refine aw rfl rfl (fun hb=>?_) (fun hb=>?_)
  ·repeat refine sq ?_
   refine rx hΓ [2] [] (fun K' hK=>by simp only[go_sem,Int.toNat_natCast,Int.natCast_nonneg,aj];(repeat (refine⟨ob,?_⟩));exact hK _ (by simp only[go_sem]) (by simp only[go_sem]<;>rfl)) ?_
   refine ar ?_
   simp only[go_sem]
   first | (rw[xh ae (by simpa using hb)];done) | (unfold ie;rw[hR];rfl)
  ·repeat refine sq ?_
   refine ay ?_
   refine dq ?_
   simp only[go_sem]
   refine kp [1,4] [[1,0]] ?_
   repeat refine sq ?_
   refine aS hΓ fun K' hK=>?_
   simp only[go_sem,Int.toNat_natCast,Int.natCast_nonneg,aj]
   repeat (refine⟨ob,?_⟩)
   refine hK _ ?_
   clear K' hK
   simp only[go_sem]
   refine⟨i+1,⟨ae,?_⟩,by(show 6-(i+1)<6-i;omega),?_⟩
   ·exact kT hR (by simpa using hb)
   refine bk [1,4] [[1,0]] ?_ ?_
   ·simp only[go_sem,aE ae (lb rfl:(6:Nat)<=maxLen),Int.natCast_add,Int.natCast_one]
   ·simp only[go_sem,aE ae (lb rfl:(6:Nat)<=maxLen),Int.natCast_add,Int.natCast_one]
 ·have aX:i=6:=by
   have :¬ (i:Int)<6:=by simpa using hb
   omega
  clear hb
  subst aX
  repeat refine sq ?_
  refine b7 ?_
  simp only[go_sem]
  refine kp [] [] ?_
  repeat refine sq ?_
  refine rs hΓ [2] [] ?_
  refine ar ?_
  simp only[go_sem]
  first | (rw[xh ae (by simpa using hb)];done) | (unfold ie;rw[hR];rfl)
theorem Uz:ak Tryz.prog 78 S78:=Qq.sound
noncomputable def P80:PSpec:=p1 de (fun _=>True) (fun s=>.bool (ie s)) true
noncomputable def S80:Spec:=P80.toSpec
attribute [go_sem] P80 S80
set_option maxHeartbeats 4000000 in
theorem Qo:aL Tryz.prog 80 P80:=by
 refine w1 (rs:=[.tmp 2]) Tryz.func80 Tryz.ntmps80 (by rfl) (by kernel_rfl) (by decide) (fun _ _=>rfl) ⟨_,rfl,lb rfl,fun s hp hw=>?_⟩
 have hP:=aU
 simp only[de]at hw |-
 have hΓ:=wQ
 repeat refine sq ?_
 refine rs hΓ [1] [[1,0]] ?_
 refine aF (bo [1,0] (ax s) rfl [1] [[1,0]] ?_ rfl) ?_
 ·simp only[go_sem]
 simp only[go_sem]
 repeat refine sq ?_
 refine rs hΓ [1,3] [[1,0]] ?_
 repeat refine sq ?_
 refine aN ?_
 repeat refine sq ?_
 refine cB (fun z:Nat=>[(3,⟨true,.v (vInt z)⟩)]) (fun z=>[]) (fun z=>z<=6/\fO z (fun m=>!cr m s)=true) (fun z=>6-z) 0 ?_ ?_ ?_ ?_
 ·exact⟨Nat.zero_le _,rfl⟩
 ·rfl
 ·rfl
 rintro i ⟨hi,hR⟩
 simp only[go_sem]
 repeat refine sq ?_
 refine rs hΓ [1,3,5] [[1,0]] ?_
 repeat refine sq ?_
 refine aw rfl rfl (fun hb=>?_) (fun hb=>?_)
 ·have ae:i<6:=by have hq:(i:Int)<6:=(by simpa using hb);omega
  have aj:(i:Int)<6:=by omega
  clear hb
  repeat refine sq ?_
  refine ay ?_
  repeat refine sq ?_
  refine aN ?_
  repeat refine sq ?_
  refine rx hΓ [1,3,11] [[1,0]] (fun K' hK=>by simp only[go_sem,Int.toNat_natCast,Int.natCast_nonneg,aj,AA];(repeat (refine⟨ob,?_⟩));exact hK _ (by simp only[go_sem]) (by simp only[go_sem]<;>rfl)) ?_
  repeat refine sq ?_
  refine aw rfl rfl (fun hb=>?_) (fun hb=>?_)
  ·repeat refine sq ?_
   refine rx hΓ [2] [] (fun K' hK=>by simp only[go_sem,Int.toNat_natCast,Int.natCast_nonneg,aj,AA];(repeat (refine⟨ob,?_⟩));exact hK _ (by simp only[go_sem]) (by simp only[go_sem]<;>rfl)) ?_
   refine ar ?_
   simp only[go_sem]
   first | (rw[xh ae (by simpa using hb)];done) | (unfold ie;rw[hR];rfl)
  ·repeat refine sq ?_
   refine ay ?_
   refine dq ?_
   simp only[go_sem]
   refine kp [1,3] [[1,0]] ?_
   repeat refine sq ?_
   refine aS hΓ fun K' hK=>?_
   simp only[go_sem,Int.toNat_natCast,Int.natCast_nonneg,aj,AA]
   repeat (refine⟨ob,?_⟩)
   refine hK _ ?_
   clear K' hK
   simp only[go_sem]
   refine⟨i+1,⟨ae,?_⟩,by(show 6-(i+1)<6-i;omega),?_⟩
   ·exact kT hR (by simpa using hb)
   refine bk [1,3] [[1,0]] ?_ ?_
   ·simp only[go_sem,aE ae (lb rfl:(6:Nat)<=maxLen),Int.natCast_add,Int.natCast_one]
   ·simp only[go_sem,aE ae (lb rfl:(6:Nat)<=maxLen),Int.natCast_add,Int.natCast_one]
 ·have aX:i=6:=by
   have :¬ (i:Int)<6:=by simpa using hb
   omega
  clear hb
  subst aX
  repeat refine sq ?_
  refine b7 ?_
  simp only[go_sem]
  refine kp [] [] ?_
  repeat refine sq ?_
  refine rs hΓ [2] [] ?_
  refine ar ?_
  simp only[go_sem]
  first | (rw[xh ae (by simpa using hb)];done) | (unfold ie;rw[hR];rfl)
theorem Uy:ak Tryz.prog 80 S80:=Qo.sound
theorem zJ(b:Bag):(!aP b.fr 0 5||(!aP b.to 0 5||((b.fr==b.to)||(!cR b.ps||!aP b.ta 0 99999))))=!fM b:=by
 unfold fM
 have :(b.fr != b.to)=!(b.fr==b.to):=rfl
 rw[this]
 cases aP b.fr 0 5<;>cases aP b.to 0 5<;>cases (b.fr==b.to)<;>cases cR b.ps<;>cases aP b.ta 0 99999<;>rfl
noncomputable def P40:PSpec:=p1 gv (fun _=>True) (fun b=>vInt (kQ b)) true
noncomputable def S40:Spec:=P40.toSpec
attribute [go_sem] P40 S40
set_option maxHeartbeats 4000000 in
theorem QM:aL Tryz.prog 40 P40:=by
 refine w1 (rs:=[.tmp 2]) Tryz.func40 Tryz.ntmps40 (by rfl) (by kernel_rfl) (by decide) (fun _ _=>rfl) ⟨_,rfl,lb rfl,fun b hp hw=>?_⟩
 have hP:=aU
 simp only[gv]at hw |-
 have hΓ:=wQ
 repeat refine sq ?_
 refine rs hΓ [1] [[1,0]] ?_
 refine aF (bo [1,0] (aZ b) rfl [1] [[1,0]] ?_ rfl) ?_
 ·simp only[go_sem]
 simp only[go_sem]
 repeat refine sq ?_
 refine rs hΓ [31] [] ?_
 repeat refine sq ?_
 refine aw rfl rfl (fun hb=>?_) (fun hb=>?_)
 ·repeat refine sq ?_
  have bw:fM b=false:=by simpa[<-Bool.or_assoc,hb]using(zJ b).symm
  repeat refine sq ?_
  refine rs hΓ [2] [] ?_
  refine ar ?_
  simp only[go_sem]
  first | (unfold kQ;rw[bw];rfl) | (unfold kQ;rw[bB];rfl)
 ·repeat refine sq ?_
  have bB:fM b=true:=by simpa[<-Bool.or_assoc,hb]using(zJ b).symm
  refine ay ?_
  repeat refine sq ?_
  refine rs hΓ [2] [] ?_
  refine ar ?_
  simp only[go_sem]
  first | (unfold kQ;rw[bw];rfl) | (unfold kQ;rw[bB];rfl)
theorem UQ:ak Tryz.prog 40 S40:=QM.sound
noncomputable def P41:PSpec:=p1 gv (fun _=>True) (fun b=>vInt (kQ b)) true
noncomputable def S41:Spec:=P41.toSpec
attribute [go_sem] P41 S41
set_option maxHeartbeats 4000000 in
theorem QL:aL Tryz.prog 41 P41:=by
 refine w1 (rs:=[.tmp 2]) Tryz.func41 Tryz.ntmps41 (by rfl) (by kernel_rfl) (by decide) (fun _ _=>rfl) ⟨_,rfl,lb rfl,fun b hp hw=>?_⟩
 have hP:=aU
 simp only[gv]at hw |-
 have hΓ:=wQ
 repeat refine sq ?_
 refine rs hΓ [1] [[1,0]] ?_
 refine aF (bo [1,0] (aZ b) rfl [1] [[1,0]] ?_ rfl) ?_
 ·simp only[go_sem]
 simp only[go_sem]
 repeat refine sq ?_
 refine rs hΓ [31] [] ?_
 repeat refine sq ?_
 refine aw rfl rfl (fun hb=>?_) (fun hb=>?_)
 ·repeat refine sq ?_
  have bw:fM b=false:=by simpa[<-Bool.or_assoc,hb]using(zJ b).symm
  repeat refine sq ?_
  refine rs hΓ [2] [] ?_
  refine ar ?_
  simp only[go_sem]
  first | (unfold kQ;rw[bw];rfl) | (unfold kQ;rw[bB];rfl)
 ·repeat refine sq ?_
  have bB:fM b=true:=by simpa[<-Bool.or_assoc,hb]using(zJ b).symm
  refine ay ?_
  repeat refine sq ?_
  refine rs hΓ [2] [] ?_
  refine ar ?_
  simp only[go_sem]
  first | (unfold kQ;rw[bw];rfl) | (unfold kQ;rw[bB];rfl)
theorem UP:ak Tryz.prog 41 S41:=QL.sound
def dJ(l:List UInt8):ByteArray:=⟨l.toArray⟩
theorem ny(a b:List UInt8):dJ a++dJ b=dJ (a++b):=by
 apply ByteArray.ext
 simp[dJ]
theorem r6(x:UInt8):(⟨[x].toArray⟩:ByteArray)=dJ [x]:=rfl
theorem oI(l:List UInt8):(dJ l).size=l.length:=by
 show l.toArray.size=_
 rw[List.size_toArray]
@[go_sem] theorem un3:(Tryz.prog.underlying 3).isSome=true:=by kernel_rfl
@[go_sem] theorem un5:(Tryz.prog.underlying 5).isSome=true:=by kernel_rfl
@[go_sem] theorem adZ:(if (#[]:Array UInt8).size<=maxLen then D.v (.str ⟨#[]⟩)else D.any)=D.v (.str (dJ [])):=by
  rw[if_pos (by unfold maxLen;decide)];rfl
theorem SA(w:ByteArray)(l:List Int):dv w l=dJ (o4 w l):=rfl
theorem B'{n:Int}(h:0<=n):Lib.itoa n=Lib.decDigits n.toNat:=by
 unfold Lib.itoa
 rw[if_neg (by omega)]
theorem LU{m:Nat}(h:9<m):Lib.decDigits m=Lib.decDigits (m / 10)++[UInt8.ofNat (48+m % 10)]:=by
 rw[Lib.decDigits,dif_neg (by omega)]
theorem Ys(m:Nat)(hm:m<=1000000):(m:Int).tmod 10=((m % 10:Nat):Int)/\(m:Int).tdiv 10=((m / 10:Nat):Int)/\IntKind.i64.wrap (48+((m % 10:Nat):Int))=((48+m % 10:Nat):Int)/\
 IntKind.u8.wrap ((48+m % 10:Nat):Int)=((48+m % 10:Nat):Int)/\IntKind.i64.wrap ((m / 10:Nat):Int)=((m / 10:Nat):Int):=by
 refine⟨rfl,rfl,?_,?_,?_⟩
 ·rw[wrap_i64 (by omega) (by omega)];rfl
 ·have h1:48+m % 10<58:=by omega
  generalize 48+m % 10=k at h1
  simp only[IntKind.wrap,IntKind.signed,IntKind.bits]
  first | omega | (simp;omega)
 ·rw[wrap_i64 (by omega) (by omega)]
theorem r4(k:Nat):pZ (.int .u8 (k:Int))=UInt8.ofNat k:=rfl
theorem Vh{k:Nat}(h:k<256):qy (.int .u8 (k:Int))=true:=by
 unfold qy
 simp
 omega
noncomputable def P125:PSpec:=p1 iI (fun n=>0<=n/\n<=1000000) (fun n=>.str (dJ (Lib.itoa n))) true
noncomputable def S125:Spec:=P125.toSpec
attribute [go_sem] P125 S125
set_option maxHeartbeats 4000000 in
theorem Rb:aL Tryz.prog 125 P125:=by
 refine w1 (rs:=[.tmp 2]) Tryz.func125 Tryz.ntmps125 (by rfl) (by kernel_rfl) (by decide) (fun _ _=>rfl) ⟨_,rfl,lb rfl,fun n hp hw=>?_⟩
 have hP:=aU
 simp only[iI]at hw |-
 have hΓ:=@j9 Tryz.prog
 obtain⟨J3,mQ⟩:=hp
 obtain⟨N,rfl⟩:∃ N:Nat,n=N:=⟨n.toNat,by omega⟩
 have hNl:(Lib.decDigits N).length<=21:=by
  have :=Lib.itoa_length_le (N:Int) (by omega) (by omega)
  rwa [B' (by omega),Int.toNat_natCast]at this
 repeat refine sq ?_
 refine rs hΓ [0] [] ?_
 repeat refine sq ?_
 refine rs hΓ [0,3] [] ?_
 repeat refine sq ?_
 refine aN ?_
 repeat refine sq ?_
 refine cB (fun s:Nat×List UInt8=>[(0,⟨true,.v (vInt s.1)⟩),(3,⟨true,.v (.str (dJ s.2))⟩)]) (fun s=>[]) (fun s=>s.1<=N/\Lib.decDigits N=Lib.decDigits s.1++s.2) (fun s=>s.1) (N,[]) ?_ ?_ ?_ ?_
 ·exact⟨Nat.le_refl _,by simp⟩
 ·rfl
 ·rfl
 rintro⟨m,acc⟩ ⟨hi,hR⟩
 simp only[go_sem]
 replace hi:m<=N:=hi
 replace hR:Lib.decDigits N=Lib.decDigits m++acc:=hR
 have hal:acc.length<=21:=by
  have :=congrArg List.length hR
  rw[List.length_append]at this
  omega
 obtain⟨d1,d2,d3,d4,d5⟩:=Ys m (by omega)
 have rm:=Vh (k:=48+m % 10) (by omega)
 repeat refine sq ?_
 refine rs hΓ [0,3,5] [] ?_
 repeat refine sq ?_
 refine aw rfl rfl (fun hb=>?_) (fun hb=>?_)
 ·have Kn:9<m:=by
   have :(m:Int)>9:=by simpa using hb
   omega
  repeat refine sq ?_
  refine ay ?_
  repeat refine sq ?_
  refine aN ?_
  repeat refine sq ?_
  refine rx hΓ [0,3] [] (fun K' hK=>by simp only[go_sem,d1,d3,d4,rm,r4,r6,ny];(repeat (refine⟨by first | (simp only[oI,maxLen,List.length_cons,List.length_nil];omega) | exact ob,?_⟩));exact hK _ (by simp only[go_sem,d1,d3,d4,rm,r4,r6,ny]) (by simp only[go_sem,d1,d3,d4,rm,r4,r6,ny]<;>rfl)) ?_
  repeat refine sq ?_
  refine aS hΓ fun K' hK=>?_
  simp only[go_sem,d2,d5]
  repeat (refine⟨ob,?_⟩)
  refine hK _ ?_
  clear K' hK
  simp only[go_sem]
  refine⟨(m / 10,UInt8.ofNat (48+m % 10)::acc),⟨by show m / 10<=N;omega,?_⟩,by show m / 10<m;omega,?_⟩
  ·rw[hR,LU Kn,List.append_assoc];rfl
  refine bk [0,3] [] ?_ ?_
  ·simp only[go_sem]
  ·simp only[go_sem]
 ·have hle:m<=9:=by
   have :¬ (m:Int)>9:=by simpa using hb
   omega
  have Wf:m % 10=m:=by omega
  rw[Wf]at d3 d4 rm
  have Ck:IntKind.i64.wrap (48+(m:Int))=((48+m:Nat):Int):=d3
  repeat refine sq ?_
  refine b7 ?_
  simp only[go_sem]
  refine kp [0,3] [] ?_
  repeat refine sq ?_
  refine rx hΓ [2] [] (fun K' hK=>by simp only[go_sem,Ck,d4,rm,r4,r6,ny];(repeat (refine⟨by first | (simp only[oI,maxLen,List.length_cons,List.length_nil];omega) | exact ob,?_⟩));exact hK _ (by simp only[go_sem,Ck,d4,rm,r4,r6,ny]) (by simp only[go_sem,Ck,d4,rm,r4,r6,ny]<;>rfl)) ?_
  refine ar ?_
  simp only[go_sem]
  have :Lib.decDigits m=[UInt8.ofNat (48+m)]:=Lib.decDigits_one (by omega)
  rw[B' (by omega),Int.toNat_natCast,hR,this]
  all_goals first | rfl | (simp;done)
theorem U2:ak Tryz.prog 125 S125:=Rb.sound
@[go_sem] theorem adW:(if (#[32]:Array UInt8).size<=maxLen then D.v (.str ⟨#[32]⟩)else D.any)=D.v (.str (dJ [32])):=by
  rw[if_pos (by unfold maxLen;decide)];rfl
@[go_sem] theorem adY:(if (#[10]:Array UInt8).size<=maxLen then D.v (.str ⟨#[10]⟩)else D.any)=D.v (.str (dJ [10])):=by
  rw[if_pos (by unfold maxLen;decide)];rfl
def bD(n:Int):Prop:=0<=n/\n<=1000000
theorem qn{n:Int}(h:bD n):qD n:=⟨by have:=h.1;omega,by have:=h.2;omega⟩
theorem Vc{n:Int}(h:bD n):(Lib.itoa n).length<=21:=Lib.itoa_length_le n (qn h).1 (qn h).2
theorem je{α:Type}{l:List α}{k:Nat}(h:k<l.length)(z:α):l.getD k z=l[k]:=by
 simp[List.getD,List.getElem?_eq_getElem h]
def lC(w:ByteArray)(l:List Int):Nat->ByteArray
 | 0=>w
 |i+1=>lC w l i++dJ (32::Lib.itoa (l.getD i 0))
theorem Ba(w:ByteArray)(l:List Int):∀ k,k<=l.length->lC w l k=dJ (jB w l k)
 | 0,_=>by
   unfold jB
   rw[List.take_zero,List.flatMap_nil,List.append_nil]
   rfl
 |k+1,h=>by
  rw[lC,Ba w l k (by omega),BM w l (by omega),ny,je (show k<l.length by omega)]
theorem A'{w:ByteArray}{l:List Int}(hl:∀ n∈l,bD n){k:Nat}(h:k<=l.length):(lC w l k).size<=w.size+22*k:=by
 rw[Ba w l k h,oI]
 exact xY w l (fun n hn=>qn (hl n hn)) k h
theorem G0{w:ByteArray}{l:List Int}:lC w l l.length++dJ [10]=dv w l:=by
 rw[Ba w l _ (Nat.le_refl _),ny]
 rfl
noncomputable def K6:List (Nat×Spec):=[(125,S125)]
theorem Z':∀ f s,tbl K6 f=some s->ak Tryz.prog f s:=tc U2<|tn
attribute [go_sem] K6
noncomputable def P111:PSpec:=p2 o8 dQ (fun w l=>w.size<=1000/\l.length<=1000000/\∀ n∈l,bD n) (fun w l=>.str (dv w l)) true
noncomputable def S111:Spec:=P111.toSpec
attribute [go_sem] P111 S111
set_option maxHeartbeats 4000000 in
theorem Re:aL Tryz.prog 111 P111:=by
 refine w2 (rs:=[.tmp 4]) Tryz.func111 Tryz.ntmps111 (by rfl) (by kernel_rfl) (by decide) (fun _ _ _=>rfl) ⟨_,rfl,lb rfl,fun w l hp hw=>?_⟩
 have hP:=aU
 simp only[dQ,o8]at hw |-
 have hΓ:=Z'
 obtain⟨mQ,qQ,CK⟩:=hp
 have hl:l.length<=maxLen:=by unfold maxLen;omega
 repeat refine sq ?_
 refine rs hΓ [0,1] [] ?_
 repeat refine sq ?_
 refine rs hΓ [0,1,5] [] ?_
 repeat refine sq ?_
 refine aN ?_
 repeat refine sq ?_
 refine cB (fun s:Nat=>[(5,⟨true,.v (vInt s)⟩),(0,⟨true,.v (.str (lC w l s))⟩)]) (fun s=>[]) (fun s=>s<=l.length) (fun s=>l.length-s) 0 ?_ ?_ ?_ ?_
 ·exact Nat.zero_le _
 ·rfl
 ·rfl
 rintro i hi
 simp only[go_sem]
 repeat refine sq ?_
 refine rs hΓ [0,1,5,9] [] ?_
 repeat refine sq ?_
 refine aw rfl rfl (fun hb=>?_) (fun hb=>?_)
 ·have ae:i<l.length:=by simpa using hb
  have aj:(i:Int)<l.length:=by omega
  clear hb
  have hn:=CK _ (List.getElem_mem ae)
  have Ke:=hn.1
  have fy:=hn.2
  have dR:=Vc hn
  have sM:=A' (w:=w) CK (Nat.le_of_lt ae)
  have gw:(dJ [32]).size+(dJ (Lib.itoa l[i])).size<=maxLen:=by rw[oI,oI];unfold maxLen;simp only[List.length_cons,List.length_nil];omega
  have lL:(lC w l i).size+(dJ (32::Lib.itoa l[i])).size<=maxLen:=by rw[oI];unfold maxLen;simp only[List.length_cons];omega
  have he:lC w l i++dJ (32::Lib.itoa l[i])=lC w l (i+1):=by rw[lC,je ae]
  repeat refine sq ?_
  refine ay ?_
  repeat refine sq ?_
  refine aN ?_
  repeat refine sq ?_
  refine aS hΓ fun K' hK=>?_
  simp only[go_sem,Int.toNat_natCast,Int.natCast_nonneg,aj,aG ae,aG ae,Int.toNat_natCast,Int.natCast_nonneg,aj,gw,lL,ny,he]
  repeat (refine⟨ob,?_⟩)
  refine hK _ ?_
  clear K' hK
  simp only[go_sem]
  refine kp [0,1,5] [] ?_
  repeat refine sq ?_
  refine aS hΓ fun K' hK=>?_
  simp only[go_sem,Int.toNat_natCast,Int.natCast_nonneg,aj,aG ae]
  repeat (refine⟨ob,?_⟩)
  refine hK _ ?_
  clear K' hK
  simp only[go_sem]
  refine⟨i+1,ae,by(show l.length-(i+1)<l.length-i;omega),?_⟩
  refine bk [0,1,5] [] ?_ ?_
  ·simp only[go_sem,aE ae hl,Int.natCast_add,Int.natCast_one]
  ·simp only[go_sem,aE ae hl,Int.natCast_add,Int.natCast_one]
 ·have aX:i=l.length:=by
   have :¬ (i:Int)<l.length:=by simpa using hb
   omega
  clear hb
  subst aX
  have sM:=A' (w:=w) CK (Nat.le_refl _)
  have qG:(lC w l l.length).size+(dJ [10]).size<=maxLen:=by rw[oI];unfold maxLen;simp only[List.length_cons,List.length_nil];omega
  repeat refine sq ?_
  refine b7 ?_
  simp only[go_sem]
  refine kp [0] [] ?_
  repeat refine sq ?_
  refine rx hΓ [4] [] (fun K' hK=>by simp only[go_sem,qG,G0];(repeat (refine⟨ob,?_⟩));exact hK _ (by simp only[go_sem]) (by simp only[go_sem]<;>rfl)) ?_
  refine ar ?_
  simp only[go_sem]
  skip
theorem U5:ak Tryz.prog 111 S111:=Re.sound
theorem KZ{α:Type}{l:List α}{x:α}(h:x∈l)(z:α):∃ k,k<l.length/\l.getD k z=x:=by
 obtain⟨k,hk,rfl⟩:=List.mem_iff_getElem.1 h
 exact⟨k,hk,je hk z⟩
structure du (s:Stk):Prop where
 hol:s.ho.length<=40
 ho:∀ n∈s.ho,bD n
 unl:∀ i,i<6->(s.un.get i).length<=40
 un:∀ i,i<6->∀ p∈s.un.get i,bD p.no/\bD p.pa
 se:∀ i,i<6->bD (s.se.get i)
 ta:∀ i,i<6->bD (s.ta.get i)
theorem nN{n lo hi:Int}(h:aP n lo hi=true)(h0:0<=lo)(h1:hi<=1000000):bD n:=by
 obtain⟨a,b⟩:=iu.1 h
 exact⟨by omega,by omega⟩
theorem sn{l:List Int}(h:fD l=true):l.length<=40/\∀ n∈l,bD n:=by
 unfold fD at h
 rw[Bool.and_eq_true,decide_eq_true_eq,kU]at h
 refine⟨h.2,fun n hn=>?_⟩
 obtain⟨k,hk,rfl⟩:=KZ hn 0
 have :=h.1 k hk
 unfold lD at this
 rw[Bool.and_eq_true]at this
 exact nN this.1 (by omega) (by omega)
theorem G7{l:List Par}(h:cR l=true):l.length<=40/\∀ p∈l,bD p.no/\bD p.pa:=by
 unfold cR at h
 rw[Bool.and_eq_true,decide_eq_true_eq,kU]at h
 refine⟨h.2,fun n hn=>?_⟩
 obtain⟨k,hk,rfl⟩:=KZ hn default
 have :=h.1 k hk
 unfold fU at this
 rw[Bool.and_eq_true,Bool.and_eq_true]at this
 exact⟨nN this.1.1 (by omega) (by omega),nN this.1.2 (by omega) (by omega)⟩
theorem uI{me:Int}{s:Stk}(h:cr me s=true):du s:=by
 unfold cr at h
 simp only[Bool.and_eq_true]at h
 obtain⟨⟨⟨⟨⟨h0,h1⟩,h2⟩,h3⟩,h4⟩,h5⟩:=h
 have hA:=kU.1 h5
 have hB:∀ i,i<6->aP (s.se.get i) 0 99999=true/\aP (s.ta.get i) 0 99999=true/\cR (s.un.get i)=true:=by
  intro i hi
  have :=hA i hi
  unfold fT at this
  simp only[Bool.and_eq_true]at this
  exact⟨this.1.1.1,this.1.1.2,this.1.2⟩
 exact⟨(sn h1).1,(sn h1).2,fun i hi=>(G7 (hB i hi).2.2).1,fun i hi=>(G7 (hB i hi).2.2).2,fun i hi=>nN (hB i hi).1 (by omega) (by omega),fun i hi=>nN (hB i hi).2.1 (by omega) (by omega)⟩
theorem Hv{s:Stk}(h:ie s=true):du s:=by
 unfold ie at h
 rcases Classical.em (∃ m:Nat,m<6/\cr m s=true)with⟨m,hm,hb⟩ | hn
 ·exact uI hb
 ·exfalso
  rw[kU.2 fun j hj=>by
   cases hb:cr (j:Int) s with
   |false=>rfl
   |true=>exact absurd ⟨j,hj,hb⟩ hn]at h
  exact absurd h (by decide)
def pX:ByteArray:=dJ [104,111,108,100,115]
def jX:ByteArray:=dJ [117,110,100,101,114]
def kD:ByteArray:=dJ [115,101,110,116]
def my:ByteArray:=dJ [116,97,107,101,110]
@[go_sem] theorem ad0:(if (#[104,111,108,100,115]:Array UInt8).size<=maxLen then D.v (.str ⟨#[104,111,108,100,115]⟩)else D.any)=D.v (.str pX):=by
  rw[if_pos (by unfold maxLen;decide)];rfl
@[go_sem] theorem adU:(if (#[117,110,100,101,114]:Array UInt8).size<=maxLen then D.v (.str ⟨#[117,110,100,101,114]⟩)else D.any)=D.v (.str jX):=by
  rw[if_pos (by unfold maxLen;decide)];rfl
@[go_sem] theorem adX:(if (#[115,101,110,116]:Array UInt8).size<=maxLen then D.v (.str ⟨#[115,101,110,116]⟩)else D.any)=D.v (.str kD):=by
  rw[if_pos (by unfold maxLen;decide)];rfl
@[go_sem] theorem adV:(if (#[116,97,107,101,110]:Array UInt8).size<=maxLen then D.v (.str ⟨#[116,97,107,101,110]⟩)else D.any)=D.v (.str my):=by
  rw[if_pos (by unfold maxLen;decide)];rfl
def fR(a:ByteArray)(i:Nat)(l:List Par):Nat->ByteArray
 | 0=>a
 |j+1=>fR a i l j++dv jX [(i:Int),(l.getD j default).no,(l.getD j default).pa]
def dY(s:Stk):Nat->ByteArray
 | 0=>dv pX s.ho
 |i+1=>fR (dY s i) i (s.un.get i) (s.un.get i).length
theorem xB(s:Stk)(i:Nat):fR (dY s i) i (s.un.get i) (s.un.get i).length=dY s (i+1):=rfl
def cV(s:Stk):ByteArray:=dY s 6++dv kD (s.se.L id)++dv my (s.ta.L id)
theorem xX{w:ByteArray}{l:List Int}(h:∀ n∈l,bD n):(dv w l).size<=w.size+22*l.length+1:=by
 rw[<-G0,ByteArray.size_append,oI]
 have :=A' (w:=w) h (Nat.le_refl _)
 simp only[List.length_cons,List.length_nil]
 omega
theorem Sb{i:Nat}(h:i<6):bD (i:Int):=⟨by omega,by omega⟩
theorem xI{i:Nat}(hi:i<6){p:Par}(h:bD p.no/\bD p.pa):∀ n∈[(i:Int),p.no,p.pa],bD n:=by
 intro n hn
 simp only[List.mem_cons,List.not_mem_nil,or_false]at hn
 rcases hn with rfl | rfl | rfl
 ·exact Sb hi
 ·exact h.1
 ·exact h.2
theorem Au{i:Nat}(hi:i<6){p:Par}(h:bD p.no/\bD p.pa):(dv jX [(i:Int),p.no,p.pa]).size<=72:=by
 have :=xX (w:=jX) (xI hi h)
 have hw:jX.size=5:=rfl
 simp only[List.length_cons,List.length_nil]at this
 omega
theorem w6{a:ByteArray}{i:Nat}(hi:i<6){l:List Par}(h:∀ p∈l,bD p.no/\bD p.pa):∀ k,k<=l.length->(fR a i l k).size<=a.size+72*k
 | 0,_=>by show a.size<=_;omega
 |k+1,hk=>by
  have h1:=w6 (a:=a) hi h k (by omega)
  have h2:=Au hi (h _ (by rw[je (show k<l.length by omega) default];exact List.getElem_mem (by omega):l.getD k default∈l))
  show (fR a i l k++dv jX [(i:Int),(l.getD k default).no,(l.getD k default).pa]).size<=_
  rw[ByteArray.size_append]
  omega
theorem sr{s:Stk}(hs:du s):∀ i,i<=6->(dY s i).size<=886+2880*i
 | 0,_=>by
   have h1:=xX (w:=pX) hs.ho
   have h2:=hs.hol
   have hw:pX.size=5:=rfl
   show (dv pX s.ho).size<=_
   omega
 |i+1,hi=>by
  have h0:=sr hs i (by omega)
  have h1:=w6 (a:=dY s i) (show i<6 by omega) (hs.un i (by omega)) _ (Nat.le_refl _)
  have h2:=hs.unl i (by omega)
  show (fR (dY s i) i (s.un.get i) (s.un.get i).length).size<=_
  omega
theorem oJ{s:bg Int}(h:∀ i,i<6->bD (s.get i)):∀ n∈s.L id,bD n:=by
 intro n hn
 simp only[bg.L,List.mem_cons,List.not_mem_nil,or_false,id]at hn
 rcases hn with rfl | rfl | rfl | rfl | rfl | rfl
 ·exact h 0 (by omega)
 ·exact h 1 (by omega)
 ·exact h 2 (by omega)
 ·exact h 3 (by omega)
 ·exact h 4 (by omega)
 ·exact h 5 (by omega)
theorem AS{s:Stk}(hs:du s):(dv kD (s.se.L id)).size<=137:=by
 have :=xX (w:=kD) (oJ hs.se)
 have hw:kD.size=4:=rfl
 rw[bg.L_len]at this
 omega
theorem Aw{s:Stk}(hs:du s):(dv my (s.ta.L id)).size<=138:=by
 have :=xX (w:=my) (oJ hs.ta)
 have hw:my.size=5:=rfl
 rw[bg.L_len]at this
 omega
theorem FL{s:Stk}(hs:du s):(cV s).size<=20000:=by
 unfold cV
 rw[ByteArray.size_append,ByteArray.size_append]
 have h1:=sr hs 6 (by omega)
 have h2:=AS hs
 have h3:=Aw hs
 omega
noncomputable def K7:List (Nat×Spec):=[(110,S110),(111,S111)]
theorem Nv:∀ f s,tbl K7 f=some s->ak Tryz.prog f s:=tc U6<|tc U5<|tn
attribute [go_sem] K7
noncomputable def P91:PSpec:=p1 de (fun s=>du s) (fun s=>.str (cV s)) true
noncomputable def S91:Spec:=P91.toSpec
attribute [go_sem] P91 S91
set_option maxHeartbeats 4000000 in
theorem Gw:aL Tryz.prog 91 P91:=by
 refine w1 (rs:=[.tmp 2]) Tryz.func91 Tryz.ntmps91 (by rfl) (by kernel_rfl) (by decide) (fun _ _=>rfl) ⟨_,rfl,lb rfl,fun s hp hw=>?_⟩
 have hP:=aU
 simp only[de]at hw |-
 have hΓ:=Nv
 have hs:du s:=hp
 have c1:pX.size<=1000/\s.ho.length<=1000000/\∀ n∈s.ho,qD n:=⟨by decide,by have:=hs.hol;omega,fun n hn=>qn (hs.ho n hn)⟩
 repeat refine sq ?_
 refine rs hΓ [1] [[1,0]] ?_
 refine aF (bo [1,0] (ax s) rfl [1] [[1,0]] ?_ rfl) ?_
 ·simp only[go_sem]
 simp only[go_sem]
 repeat refine sq ?_
 refine rx hΓ [1,3] [[1,0]] (fun K' hK=>by simp only[go_sem];(repeat (refine⟨by first | exact c1 | exact ob,?_⟩));exact hK _ (by simp only[go_sem]) (by simp only[go_sem]<;>rfl)) ?_
 repeat refine sq ?_
 refine rs hΓ [1,3,12,13] [[1,0]] ?_
 repeat refine sq ?_
 refine aN ?_
 repeat refine sq ?_
 refine cB (fun z:Nat=>[(13,⟨true,.v (vInt z)⟩),(3,⟨true,.v (.str (dY s z))⟩)]) (fun z=>[]) (fun z=>z<=6) (fun z=>6-z) 0 ?_ ?_ ?_ ?_
 ·exact Nat.zero_le _
 ·rfl
 ·rfl
 rintro i hi
 simp only[go_sem]
 repeat refine sq ?_
 refine rs hΓ [1,3,12,13,14] [[1,0]] ?_
 repeat refine sq ?_
 refine aw rfl rfl (fun hb=>?_) (fun hb=>?_)
 ·have ae:i<6:=by have hq:(i:Int)<6:=(by simpa using hb);omega
  have aj:(i:Int)<6:=by omega
  clear hb
  repeat refine sq ?_
  refine ay ?_
  repeat refine sq ?_
  refine aN ?_
  repeat refine sq ?_
  refine rx hΓ [1,3,4,5,12,13] [[1,0]] (fun K' hK=>by simp only[go_sem,Int.toNat_natCast,Int.natCast_nonneg,aj,bg.L_get s.un rowP default ae,Int.toNat_natCast,Int.natCast_nonneg,aj];(repeat (refine⟨ob,?_⟩));exact hK _ (by simp only[go_sem]) (by simp only[go_sem]<;>rfl)) ?_
  repeat refine sq ?_
  refine rx hΓ [1,3,4,12,13,17,18,19] [[1,0]] (fun K' hK=>by simp only[go_sem,Int.toNat_natCast,Int.natCast_nonneg,aj];(repeat (refine⟨ob,?_⟩));exact hK _ (by simp only[go_sem]) (by simp only[go_sem]<;>rfl)) ?_
  repeat refine sq ?_
  refine aN ?_
  repeat refine sq ?_
  refine cB (fun z:Nat=>[(19,⟨true,.v (vInt z)⟩),(3,⟨true,.v (.str (fR (dY s i) i (s.un.get i) z))⟩)]) (fun z=>[]) (fun z=>z<=(s.un.get i).length) (fun z=>(s.un.get i).length-z) 0 ?_ ?_ ?_ ?_
  ·exact Nat.zero_le _
  ·rfl
  ·rfl
  rintro i1 hi
  simp only[go_sem]
  repeat refine sq ?_
  refine rx hΓ [1,3,4,12,13,17,18,19,20] [[1,0]] (fun K' hK=>by simp only[go_sem,Int.toNat_natCast,Int.natCast_nonneg,aj];(repeat (refine⟨ob,?_⟩));exact hK _ (by simp only[go_sem]) (by simp only[go_sem]<;>rfl)) ?_
  repeat refine sq ?_
  refine aw rfl rfl (fun hb=>?_) (fun hb=>?_)
  ·have bI:i1<(s.un.get i).length:=by simpa using hb
   have gx:(i1:Int)<(s.un.get i).length:=by omega
   clear hb
   have hq:=hs.un i ae _ (List.getElem_mem bI)
   have c8:jX.size<=1000/\[(i:Int),(s.un.get i)[i1].no,(s.un.get i)[i1].pa].length<=1000000/\∀ n∈[(i:Int),(s.un.get i)[i1].no,(s.un.get i)[i1].pa],qD n:=⟨by decide,by show 3<=1000000;omega,fun n hn=>qn (xI ae hq n hn)⟩
   have gw:=Au ae hq
   have lL:=w6 (a:=dY s i) ae (hs.un i ae) i1 (Nat.le_of_lt bI)
   have sM:=sr hs i (Nat.le_of_lt ae)
   have qG:=hs.unl i ae
   have hz:(fR (dY s i) i (s.un.get i) i1).size+(dv jX [(i:Int),(s.un.get i)[i1].no,(s.un.get i)[i1].pa]).size<=maxLen:=by unfold maxLen;omega
   have he:fR (dY s i) i (s.un.get i) i1++dv jX [(i:Int),(s.un.get i)[i1].no,(s.un.get i)[i1].pa]=fR (dY s i) i (s.un.get i) (i1+1):=by rw[fR,je bI]
   repeat refine sq ?_
   refine ay ?_
   repeat refine sq ?_
   refine aN ?_
   repeat refine sq ?_
   refine rx hΓ [1,3,4,7,12,13,17,18,19] [[1,0],[7,0]] (fun K' hK=>by simp only[go_sem,Int.toNat_natCast,Int.natCast_nonneg,aj,Int.toNat_natCast,Int.natCast_nonneg,gx,aG bI];(repeat (refine⟨ob,?_⟩));exact hK _ (by simp only[go_sem]) (by simp only[go_sem]<;>rfl)) ?_
   repeat refine sq ?_
   refine aS hΓ fun K' hK=>?_
   simp only[go_sem,Int.toNat_natCast,Int.natCast_nonneg,aj,Int.toNat_natCast,Int.natCast_nonneg,gx,aG bI,hz,he]
   repeat (refine⟨by first | exact c8 | exact ob,?_⟩)
   refine hK _ ?_
   clear K' hK
   simp only[go_sem]
   refine kp [1,3,4,12,13,17,18,19] [[1,0]] ?_
   repeat refine sq ?_
   refine aS hΓ fun K' hK=>?_
   simp only[go_sem,Int.toNat_natCast,Int.natCast_nonneg,aj,Int.toNat_natCast,Int.natCast_nonneg,gx,aG bI]
   repeat (refine⟨ob,?_⟩)
   refine hK _ ?_
   clear K' hK
   simp only[go_sem]
   refine⟨i1+1,bI,by(show (s.un.get i).length-(i1+1)<(s.un.get i).length-i1;omega),?_⟩
   refine bk [1,3,4,12,13,17,18,19] [[1,0]] ?_ ?_
   ·simp only[go_sem,aE bI (rY hw ae),Int.natCast_add,Int.natCast_one]
   ·simp only[go_sem,aE bI (rY hw ae),Int.natCast_add,Int.natCast_one]
  ·have vF:i1=(s.un.get i).length:=by
    have :¬ (i1:Int)<(s.un.get i).length:=by simpa using hb
    omega
   clear hb
   subst vF
   repeat refine sq ?_
   refine b7 ?_
   simp only[go_sem]
   refine kp [1,3,12,13] [[1,0]] ?_
   repeat refine sq ?_
   refine aS hΓ fun K' hK=>?_
   simp only[go_sem,Int.toNat_natCast,Int.natCast_nonneg,aj]
   repeat (refine⟨ob,?_⟩)
   refine hK _ ?_
   clear K' hK
   simp only[go_sem]
   refine⟨i+1,ae,by(show 6-(i+1)<6-i;omega),?_⟩
   refine bk [1,3,12,13] [[1,0]] ?_ ?_
   ·simp only[go_sem,aE ae (lb rfl:(6:Nat)<=maxLen),Int.natCast_add,Int.natCast_one,xB s i]
   ·simp only[go_sem,aE ae (lb rfl:(6:Nat)<=maxLen),Int.natCast_add,Int.natCast_one,xB s i]
 ·have aX:i=6:=by
   have :¬ (i:Int)<6:=by simpa using hb
   omega
  clear hb
  subst aX
  have gw:=sr hs 6 (Nat.le_refl _)
  have lL:=AS hs
  have sM:=Aw hs
  have c2:kD.size<=1000/\(s.se.L id).length<=1000000/\∀ n∈s.se.L id,qD n:=⟨by decide,by show 6<=1000000;omega,fun n hn=>qn (oJ hs.se n hn)⟩
  have c3:my.size<=1000/\(s.ta.L id).length<=1000000/\∀ n∈s.ta.L id,qD n:=⟨by decide,by show 6<=1000000;omega,fun n hn=>qn (oJ hs.ta n hn)⟩
  have qG:(dY s 6).size+(dv kD (s.se.L id)).size<=maxLen:=by unfold maxLen;omega
  have Cj:(dY s 6++dv kD (s.se.L id)).size+(dv my (s.ta.L id)).size<=maxLen:=by rw[ByteArray.size_append];unfold maxLen;omega
  repeat refine sq ?_
  refine b7 ?_
  simp only[go_sem]
  refine kp [1,3] [[1,0]] ?_
  repeat refine sq ?_
  refine dx hΓ hP [[],[],[1],[1,2],[0,1,2,3],[],[5],[1,2,3,5,6],[0,1,2,3,4,5,6,7],[0,1,2,3,4,5,6,7,8]] [2] [] (by kernel_rfl) (fun K' hK=>by simp only[go_sem,qG,Cj];(repeat (refine⟨by first | exact c2 | exact c3 | exact ob,?_⟩));(first | refine⟨by rfl,?_⟩ | skip);exact hK _ (by simp only[go_sem]) (by simp only[go_sem]<;>rfl)) ?_
  refine ar ?_
  simp only[go_sem]
  first | rfl
theorem Ux:ak Tryz.prog 91 S91:=Gw.sound
def nz(x:bg Int)(z:Nat):List Int:=(x.L id).take z
theorem F8(x:bg Int){z:Nat}(h:z<=6):(nz x z).length=z:=by
 unfold nz
 rw[List.length_take,bg.L_len]
 omega
theorem xk(x:bg Int){z:Nat}(h:z<6):nz x (z+1)=nz x z++[x.get z]:=by
 match z,h with
 | 0,_=>rfl
 | 1,_=>rfl
 | 2,_=>rfl
 | 3,_=>rfl
 | 4,_=>rfl
 | 5,_=>rfl
theorem Pp(x:bg Int):nz x 6=x.L id:=rfl
noncomputable def P92:PSpec:=p1 de (fun s=>du s) (fun s=>.str (cV s)) true
noncomputable def S92:Spec:=P92.toSpec
attribute [go_sem] P92 S92
set_option maxHeartbeats 4000000 in
theorem Qd:aL Tryz.prog 92 P92:=by
 refine w1 (rs:=[.tmp 2]) Tryz.func92 Tryz.ntmps92 (by rfl) (by kernel_rfl) (by decide) (fun _ _=>rfl) ⟨_,rfl,lb rfl,fun s hp hw=>?_⟩
 have hP:=aU
 simp only[de]at hw |-
 have hΓ:=Nv
 have hs:du s:=hp
 have c1:pX.size<=1000/\s.ho.length<=1000000/\∀ n∈s.ho,bD n:=⟨by decide,by have:=hs.hol;omega,hs.ho⟩
 have gw:=sr hs 6 (Nat.le_refl _)
 have lL:=AS hs
 have sM:=Aw hs
 have c2:kD.size<=1000/\(s.se.L id).length<=1000000/\∀ n∈s.se.L id,bD n:=⟨by decide,by show 6<=1000000;omega,oJ hs.se⟩
 have c3:my.size<=1000/\(s.ta.L id).length<=1000000/\∀ n∈s.ta.L id,bD n:=⟨by decide,by show 6<=1000000;omega,oJ hs.ta⟩
 have qG:(dY s 6).size+(dv kD (s.se.L id)).size<=maxLen:=by unfold maxLen;omega
 have Cj:(dY s 6++dv kD (s.se.L id)).size+(dv my (s.ta.L id)).size<=maxLen:=by rw[ByteArray.size_append];unfold maxLen;omega
 repeat refine sq ?_
 refine rs hΓ [1] [[1,0]] ?_
 refine aF (bo [1,0] (ax s) rfl [1] [[1,0]] ?_ rfl) ?_
 ·simp only[go_sem]
 simp only[go_sem]
 repeat refine sq ?_
 refine rx hΓ [1,3] [[1,0]] (fun K' hK=>by simp only[go_sem];(repeat (refine⟨by first | exact c1 | exact ob,?_⟩));exact hK _ (by simp only[go_sem]) (by simp only[go_sem]<;>rfl)) ?_
 repeat refine sq ?_
 refine rs hΓ [1,3,4] [[1,0]] ?_
 repeat refine sq ?_
 refine aN ?_
 repeat refine sq ?_
 refine cB (fun z:Nat=>[(4,⟨true,.v (vInt z)⟩),(3,⟨true,.v (.str (dY s z))⟩)]) (fun z=>[]) (fun z=>z<=6) (fun z=>6-z) 0 ?_ ?_ ?_ ?_
 ·exact Nat.zero_le _
 ·rfl
 ·rfl
 rintro i hi
 simp only[go_sem]
 repeat refine sq ?_
 refine rs hΓ [1,3,4,13] [[1,0]] ?_
 repeat refine sq ?_
 refine aw rfl rfl (fun hb=>?_) (fun hb=>?_)
 ·have ae:i<6:=by have hq:(i:Int)<6:=(by simpa using hb);omega
  have aj:(i:Int)<6:=by omega
  clear hb
  repeat refine sq ?_
  refine ay ?_
  repeat refine sq ?_
  refine aN ?_
  repeat refine sq ?_
  refine rx hΓ [1,3,4,5] [[1,0]] (fun K' hK=>by simp only[go_sem,Int.toNat_natCast,Int.natCast_nonneg,aj];(repeat (refine⟨ob,?_⟩));exact hK _ (by simp only[go_sem]) (by simp only[go_sem]<;>rfl)) ?_
  repeat refine sq ?_
  refine aN ?_
  repeat refine sq ?_
  refine cB (fun z:Nat=>[(5,⟨true,.v (vInt z)⟩),(3,⟨true,.v (.str (fR (dY s i) i (s.un.get i) z))⟩)]) (fun z=>[]) (fun z=>z<=(s.un.get i).length) (fun z=>(s.un.get i).length-z) 0 ?_ ?_ ?_ ?_
  ·exact Nat.zero_le _
  ·rfl
  ·rfl
  rintro i1 hi
  simp only[go_sem]
  repeat refine sq ?_
  refine rx hΓ [1,3,4,5,22] [[1,0]] (fun K' hK=>by simp only[go_sem,Int.toNat_natCast,Int.natCast_nonneg,aj,cL s ae,Int.toNat_natCast,Int.natCast_nonneg,aj];(repeat (refine⟨ob,?_⟩));exact hK _ (by simp only[go_sem]) (by simp only[go_sem]<;>rfl)) ?_
  repeat refine sq ?_
  refine aw rfl rfl (fun hb=>?_) (fun hb=>?_)
  ·have bI:i1<(s.un.get i).length:=by simpa using hb
   have gx:(i1:Int)<(s.un.get i).length:=by omega
   clear hb
   have hq:=hs.un i ae _ (List.getElem_mem bI)
   have c8:jX.size<=1000/\[(i:Int),(s.un.get i)[i1].no,(s.un.get i)[i1].pa].length<=1000000/\∀ n∈[(i:Int),(s.un.get i)[i1].no,(s.un.get i)[i1].pa],bD n:=⟨by decide,by show 3<=1000000;omega,xI ae hq⟩
   have gw:=Au ae hq
   have lL:=w6 (a:=dY s i) ae (hs.un i ae) i1 (Nat.le_of_lt bI)
   have sM:=sr hs i (Nat.le_of_lt ae)
   have qG:=hs.unl i ae
   have hz:(fR (dY s i) i (s.un.get i) i1).size+(dv jX [(i:Int),(s.un.get i)[i1].no,(s.un.get i)[i1].pa]).size<=maxLen:=by unfold maxLen;omega
   have he:fR (dY s i) i (s.un.get i) i1++dv jX [(i:Int),(s.un.get i)[i1].no,(s.un.get i)[i1].pa]=fR (dY s i) i (s.un.get i) (i1+1):=by rw[fR,je bI]
   repeat refine sq ?_
   refine ay ?_
   repeat refine sq ?_
   refine aN ?_
   repeat refine sq ?_
   refine tI hΓ hP [[],[],[],[],[2,3],[2,3,4],[],[2,3,4,5,6],[2,3,4,5,6,7],[2,3,4,5,6,7,8],[],[],[10,11],[10,11,12],[],[10,11,12,13,14],[10,11,12,13,14,15],[10,11,12,13,14,15,16],[1,2,3,4,5,6,7,8,9,10,11,12,13,14,15,16,17],[1,2,3,4,5,6,7,8,9,10,11,12,13,14,15,16,17,18],[0,1,2,3,4,5,6,7,8,9,10,11,12,13,14,15,16,17,18,19],[0,1,2,3,4,5,6,7,8,9,10,11,12,13,14,15,16,17,18,19,20]] (by kernel_rfl) fun K' hK=>?_
   simp only[go_sem,Int.toNat_natCast,Int.natCast_nonneg,aj,Int.toNat_natCast,Int.natCast_nonneg,gx,aj,aG bI,cL s ae,hz,he,cL s ae,Int.toNat_natCast,Int.natCast_nonneg,aj,gx,aG bI]
   repeat (refine⟨by first | exact c8 | exact ob,?_⟩)
   first | refine⟨by rfl,?_⟩ | skip
   refine hK _ ?_
   clear K' hK
   simp only[go_sem]
   refine kp [1,3,4,5] [[1,0]] ?_
   repeat refine sq ?_
   refine aS hΓ fun K' hK=>?_
   simp only[go_sem,Int.toNat_natCast,Int.natCast_nonneg,aj,Int.toNat_natCast,Int.natCast_nonneg,gx,aj,aG bI,cL s ae]
   repeat (refine⟨ob,?_⟩)
   refine hK _ ?_
   clear K' hK
   simp only[go_sem]
   refine⟨i1+1,bI,by(show (s.un.get i).length-(i1+1)<(s.un.get i).length-i1;omega),?_⟩
   refine bk [1,3,4,5] [[1,0]] ?_ ?_
   ·simp only[go_sem,aE bI (rY hw ae),Int.natCast_add,Int.natCast_one]
   ·simp only[go_sem,aE bI (rY hw ae),Int.natCast_add,Int.natCast_one]
  ·have vF:i1=(s.un.get i).length:=by
    have :¬ (i1:Int)<(s.un.get i).length:=by simpa using hb
    omega
   clear hb
   subst vF
   repeat refine sq ?_
   refine b7 ?_
   simp only[go_sem]
   refine kp [1,3,4] [[1,0]] ?_
   repeat refine sq ?_
   refine aS hΓ fun K' hK=>?_
   simp only[go_sem,Int.toNat_natCast,Int.natCast_nonneg,aj]
   repeat (refine⟨ob,?_⟩)
   refine hK _ ?_
   clear K' hK
   simp only[go_sem]
   refine⟨i+1,ae,by(show 6-(i+1)<6-i;omega),?_⟩
   refine bk [1,3,4] [[1,0]] ?_ ?_
   ·simp only[go_sem,aE ae (lb rfl:(6:Nat)<=maxLen),Int.natCast_add,Int.natCast_one,xB s i]
   ·simp only[go_sem,aE ae (lb rfl:(6:Nat)<=maxLen),Int.natCast_add,Int.natCast_one,xB s i]
 ·have aX:i=6:=by
   have :¬ (i:Int)<6:=by simpa using hb
   omega
  clear hb
  subst aX
  repeat refine sq ?_
  refine b7 ?_
  simp only[go_sem]
  refine kp [1,3] [[1,0]] ?_
  repeat refine sq ?_
  refine rs hΓ [1,3,6] [[1,0],[56,0]] ?_
  refine aF (ua 6 [56,0] 1 (by simp only[go_sem]) (by simp only[go_sem]) [1,3,6] [[1,0],[56,0]] ?_ rfl) ?_
  ·simp only[go_sem]
  simp only[go_sem]
  repeat refine sq ?_
  refine rs hΓ [1,3,6,7] [[1,0],[56,0],[63,0]] ?_
  refine aF (ua 7 [63,0] 1 (by simp only[go_sem]) (by simp only[go_sem]) [1,3,6,7] [[1,0],[56,0],[63,0]] ?_ rfl) ?_
  ·simp only[go_sem]
  simp only[go_sem]
  repeat refine sq ?_
  refine rs hΓ [1,3,6,7,8] [[1,0],[56,0],[63,0]] ?_
  repeat refine sq ?_
  refine aN ?_
  repeat refine sq ?_
  refine cB (fun z:Nat=>[(8,⟨true,.v (vInt z)⟩),(6,⟨true,.msl [56,0] (nz s.se z).length⟩),(7,⟨true,.msl [63,0] (nz s.ta z).length⟩)]) (fun z=>[([56,0],.arr 1 ((nz s.se z).map vInt)),([63,0],.arr 1 ((nz s.ta z).map vInt))]) (fun z=>z<=6) (fun z=>6-z) 0 ?_ ?_ ?_ ?_
  ·exact Nat.zero_le _
  ·rfl
  ·rfl
  rintro i2 hi
  simp only[go_sem]
  repeat refine sq ?_
  refine rs hΓ [1,3,6,7,8,47] [[1,0],[56,0],[63,0]] ?_
  repeat refine sq ?_
  refine aw rfl rfl (fun hb=>?_) (fun hb=>?_)
  ·have lQ:i2<6:=by have hq:(i2:Int)<6:=(by simpa using hb);omega
   have vw:(i2:Int)<6:=by omega
   clear hb
   have pc:=F8 s.se (Nat.le_of_lt lQ)
   have gM:=F8 s.ta (Nat.le_of_lt lQ)
   repeat refine sq ?_
   refine ay ?_
   repeat refine sq ?_
   refine aN ?_
   repeat refine sq ?_
   refine rx hΓ [1,3,6,7,8] [[1,0],[56,0],[63,0]] (fun K' hK=>by simp only[go_sem,Int.toNat_natCast,Int.natCast_nonneg,vw,dL s lQ,Int.toNat_natCast,Int.natCast_nonneg,vw];(repeat (refine⟨ob,?_⟩));exact hK _ (by simp only[go_sem]) (by simp only[go_sem]<;>rfl)) ?_
   repeat refine sq ?_
   refine aS hΓ fun K' hK=>?_
   simp only[go_sem,Int.toNat_natCast,Int.natCast_nonneg,vw,dt s lQ,Int.toNat_natCast,Int.natCast_nonneg,vw]
   repeat (refine⟨ob,?_⟩)
   refine hK _ ?_
   clear K' hK
   simp only[go_sem]
   refine kp [1,3,6,7,8] [[1,0],[56,0],[63,0]] ?_
   repeat refine sq ?_
   refine aS hΓ fun K' hK=>?_
   simp only[go_sem,Int.toNat_natCast,Int.natCast_nonneg,vw]
   repeat (refine⟨ob,?_⟩)
   refine hK _ ?_
   clear K' hK
   simp only[go_sem]
   refine⟨i2+1,lQ,by(show 6-(i2+1)<6-i2;omega),?_⟩
   refine bk [1,3,6,7,8] [[1,0],[56,0],[63,0]] ?_ ?_
   ·simp only[go_sem,aE lQ (lb rfl:(6:Nat)<=maxLen),Int.natCast_add,Int.natCast_one,xk s.se lQ,xk s.ta lQ,List.map_append,List.length_append,List.map_cons,List.map_nil,List.length_cons,List.length_nil]
   ·simp only[go_sem,aE lQ (lb rfl:(6:Nat)<=maxLen),Int.natCast_add,Int.natCast_one,xk s.se lQ,xk s.ta lQ,List.map_append,List.length_append,List.map_cons,List.map_nil,List.length_cons,List.length_nil]
  ·have Wv:i2=6:=by
    have :¬ (i2:Int)<6:=by simpa using hb
    omega
   clear hb
   subst Wv
   repeat refine sq ?_
   refine b7 ?_
   simp only[go_sem]
   refine kp [3,6,7] [[56,0],[63,0]] ?_
   repeat refine sq ?_
   refine rx hΓ [2] [] (fun K' hK=>by simp only[go_sem,qG,Cj,Pp];(repeat (refine⟨by first | exact c2 | exact c3 | exact ob,?_⟩));exact hK _ (by simp only[go_sem]) (by simp only[go_sem]<;>rfl)) ?_
   refine ar ?_
   simp only[go_sem]
   first | rfl
theorem Uw:ak Tryz.prog 92 S92:=Qd.sound
attribute [go_sem,simp] MF
def kq(b:ByteArray)(i:Nat):Nat:=(b.data.getD i 0).toNat
theorem Y'(b:ByteArray)(i:Nat):kq b i<256:=(b.data.getD i 0).toNat_lt
theorem bytes_at{b:ByteArray}{i:Nat}(h:i<b.size):(jj b).getD i default=.int .u8 (kq b i:Nat):=by
 have h':i<b.data.toList.length:=by rw[Array.length_toList];exact h
 have h1:i<b.data.size:=h
 unfold jj
 rw[je (by rw[List.length_map];exact h'),List.getElem_map,Array.getElem_toList]
 unfold kq wv
 have :b.data.getD i 0=b.data[i]:=by
  unfold Array.getD
  rw[dif_pos h1]
  rfl
 rw[this]
def gq(b:ByteArray)(n:Int):Nat->Int
 | 0=>n.tmod 1000003
 |i+1=>(257*gq b n i+kq b i+1).tmod 1000003
def iK(s:Stk)(n:Int):Int:=gq (cV s) n (cV s).size
theorem xd{b:ByteArray}{n:Int}(hn:bD n):∀ i,0<=gq b n i/\gq b n i<1000003
 | 0=>by
   have :=hn.1
   exact⟨Int.tmod_nonneg _ this,Int.tmod_lt_of_pos _ (by omega)⟩
 |i+1=>by
  have h:=xd (b:=b) hn i
  exact⟨Int.tmod_nonneg _ (by omega),Int.tmod_lt_of_pos _ (by omega)⟩
theorem FT{b:ByteArray}{n:Int}(hn:bD n)(i:Nat):IntKind.i64.wrap (257*gq b n i)=257*gq b n i/\IntKind.i64.wrap (kq b i:Nat)=(kq b i:Nat)/\
 IntKind.i64.wrap (257*gq b n i+(kq b i:Nat))=257*gq b n i+(kq b i:Nat)/\IntKind.i64.wrap (257*gq b n i+(kq b i:Nat)+1)=257*gq b n i+(kq b i:Nat)+1/\
 IntKind.i64.wrap (gq b n (i+1))=gq b n (i+1)/\(257*gq b n i+(kq b i:Nat)+1).tmod 1000003=gq b n (i+1):=by
 have h:=xd (b:=b) hn i
 have h2:=xd (b:=b) hn (i+1)
 have hb:=Y' b i
 exact⟨wrap_i64 (by omega) (by omega),wrap_i64 (by omega) (by omega),wrap_i64 (by omega) (by omega),wrap_i64 (by omega) (by omega),wrap_i64 (by omega) (by omega),rfl⟩
noncomputable def K9:List (Nat×Spec):=[(91,S91),(92,S92)]
theorem Nu:∀ f s,tbl K9 f=some s->ak Tryz.prog f s:=tc Ux<|tc Uw<|tn
attribute [go_sem] K9
noncomputable def P60:PSpec:=p2 de iI (fun s n=>du s/\bD n) (fun s n=>vInt (iK s n)) true
noncomputable def S60:Spec:=P60.toSpec
attribute [go_sem] P60 S60
set_option maxHeartbeats 4000000 in
theorem Qy:aL Tryz.prog 60 P60:=by
 refine w2 (rs:=[.tmp 4]) Tryz.func60 Tryz.ntmps60 (by rfl) (by kernel_rfl) (by decide) (fun _ _ _=>rfl) ⟨_,rfl,lb rfl,fun s n hp hw=>?_⟩
 have hP:=aU
 simp only[iI,de]at hw |-
 have hΓ:=Nu
 obtain⟨hs,hn⟩:=hp
 have ht:=FL hs
 have hl:(cV s).size<=maxLen:=by unfold maxLen;omega
 repeat refine sq ?_
 refine rs hΓ [1,2] [[2,0]] ?_
 refine aF (bo [2,0] (ax s) rfl [1,2] [[2,0]] ?_ rfl) ?_
 ·simp only[go_sem]
 simp only[go_sem]
 repeat refine sq ?_
 refine rs hΓ [2,5] [[2,0]] ?_
 repeat refine sq ?_
 refine rs hΓ [5,12,13,14] [] ?_
 repeat refine sq ?_
 refine aN ?_
 repeat refine sq ?_
 refine cB (fun z:Nat=>[(14,⟨true,.v (vInt z)⟩),(5,⟨true,.v (vInt (gq (cV s) n z))⟩)]) (fun z=>[]) (fun z=>z<=(cV s).size) (fun z=>(cV s).size-z) 0 ?_ ?_ ?_ ?_
 ·exact Nat.zero_le _
 ·rfl
 ·rfl
 rintro i hi
 simp only[go_sem]
 repeat refine sq ?_
 refine rs hΓ [5,12,13,14,15] [] ?_
 repeat refine sq ?_
 refine aw rfl rfl (fun hb=>?_) (fun hb=>?_)
 ·have ae:i<(cV s).size:=by simpa using hb
  have aj:(i:Int)<(cV s).size:=by omega
  clear hb
  obtain⟨d1,d2,d3,d4,d5,d6⟩:=FT (b:=cV s) hn i
  have hb:=bytes_at ae
  repeat refine sq ?_
  refine ay ?_
  repeat refine sq ?_
  refine aN ?_
  repeat refine sq ?_
  refine rx hΓ [5,7,12,13,14] [] (fun K' hK=>by simp only[go_sem,Int.toNat_natCast,Int.natCast_nonneg,aj,hb,Int.toNat_natCast,Int.natCast_nonneg,aj];(repeat (refine⟨ob,?_⟩));exact hK _ (by simp only[go_sem]) (by simp only[go_sem]<;>rfl)) ?_
  repeat refine sq ?_
  refine aS hΓ fun K' hK=>?_
  simp only[go_sem,Int.toNat_natCast,Int.natCast_nonneg,aj,d1,d2,d3,d4,d5,d6]
  repeat (refine⟨ob,?_⟩)
  refine hK _ ?_
  clear K' hK
  simp only[go_sem]
  refine kp [5,12,13,14] [] ?_
  repeat refine sq ?_
  refine aS hΓ fun K' hK=>?_
  simp only[go_sem,Int.toNat_natCast,Int.natCast_nonneg,aj]
  repeat (refine⟨ob,?_⟩)
  refine hK _ ?_
  clear K' hK
  simp only[go_sem]
  refine⟨i+1,ae,by(show (cV s).size-(i+1)<(cV s).size-i;omega),?_⟩
  refine bk [5,12,13,14] [] ?_ ?_
  ·simp only[go_sem,aE ae hl,Int.natCast_add,Int.natCast_one]
  ·simp only[go_sem,aE ae hl,Int.natCast_add,Int.natCast_one]
 ·have aX:i=(cV s).size:=by
   have :¬ (i:Int)<(cV s).size:=by simpa using hb
   omega
  clear hb
  subst aX
  repeat refine sq ?_
  refine b7 ?_
  simp only[go_sem]
  refine kp [5] [] ?_
  repeat refine sq ?_
  refine rs hΓ [4] [] ?_
  refine ar ?_
  simp only[go_sem]
  first | rfl
theorem yg:ak Tryz.prog 60 S60:=Qy.sound
noncomputable def P63:PSpec:=p2 de iI (fun s n=>du s/\bD n) (fun s n=>vInt (iK s n)) true
noncomputable def S63:Spec:=P63.toSpec
attribute [go_sem] P63 S63
set_option maxHeartbeats 4000000 in
theorem Qv:aL Tryz.prog 63 P63:=by
 refine w2 (rs:=[.tmp 4]) Tryz.func63 Tryz.ntmps63 (by rfl) (by kernel_rfl) (by decide) (fun _ _ _=>rfl) ⟨_,rfl,lb rfl,fun s n hp hw=>?_⟩
 have hP:=aU
 simp only[iI,de]at hw |-
 have hΓ:=Nu
 obtain⟨hs,hn⟩:=hp
 have ht:=FL hs
 have hl:(cV s).size<=maxLen:=by unfold maxLen;omega
 repeat refine sq ?_
 refine rs hΓ [1,2] [[2,0]] ?_
 refine aF (bo [2,0] (ax s) rfl [1,2] [[2,0]] ?_ rfl) ?_
 ·simp only[go_sem]
 simp only[go_sem]
 repeat refine sq ?_
 refine rs hΓ [1,5] [] ?_
 repeat refine sq ?_
 refine rs hΓ [5,6] [] ?_
 repeat refine sq ?_
 refine rs hΓ [5,6,7] [] ?_
 repeat refine sq ?_
 refine aN ?_
 repeat refine sq ?_
 refine cB (fun z:Nat=>[(7,⟨true,.v (vInt z)⟩),(6,⟨true,.v (vInt (gq (cV s) n z))⟩)]) (fun z=>[]) (fun z=>z<=(cV s).size) (fun z=>(cV s).size-z) 0 ?_ ?_ ?_ ?_
 ·exact Nat.zero_le _
 ·rfl
 ·rfl
 rintro i hi
 simp only[go_sem]
 repeat refine sq ?_
 refine rs hΓ [5,6,7,15] [] ?_
 repeat refine sq ?_
 refine aw rfl rfl (fun hb=>?_) (fun hb=>?_)
 ·have ae:i<(cV s).size:=by simpa using hb
  have aj:(i:Int)<(cV s).size:=by omega
  clear hb
  obtain⟨d1,d2,d3,d4,d5,d6⟩:=FT (b:=cV s) hn i
  have hb:((cV s).data.getD i 0).toNat=kq (cV s) i:=rfl
  repeat refine sq ?_
  refine ay ?_
  repeat refine sq ?_
  refine aN ?_
  repeat refine sq ?_
  refine aS hΓ fun K' hK=>?_
  simp only[go_sem,Int.toNat_natCast,Int.natCast_nonneg,aj,hb,Int.toNat_natCast,Int.natCast_nonneg,aj,d1,d2,d3,d4,d5,d6]
  repeat (refine⟨ob,?_⟩)
  refine hK _ ?_
  clear K' hK
  simp only[go_sem]
  refine kp [5,6,7] [] ?_
  repeat refine sq ?_
  refine aS hΓ fun K' hK=>?_
  simp only[go_sem,Int.toNat_natCast,Int.natCast_nonneg,aj]
  repeat (refine⟨ob,?_⟩)
  refine hK _ ?_
  clear K' hK
  simp only[go_sem]
  refine⟨i+1,ae,by(show (cV s).size-(i+1)<(cV s).size-i;omega),?_⟩
  refine bk [5,6,7] [] ?_ ?_
  ·simp only[go_sem,aE ae hl,Int.natCast_add,Int.natCast_one]
  ·simp only[go_sem,aE ae hl,Int.natCast_add,Int.natCast_one]
 ·have aX:i=(cV s).size:=by
   have :¬ (i:Int)<(cV s).size:=by simpa using hb
   omega
  clear hb
  subst aX
  repeat refine sq ?_
  refine b7 ?_
  simp only[go_sem]
  refine kp [6] [] ?_
  repeat refine sq ?_
  refine rs hΓ [4] [] ?_
  refine ar ?_
  simp only[go_sem]
  first | rfl
theorem B5:ak Tryz.prog 63 S63:=Qv.sound
def ju(s:Stk)(n:Int):Int:=if ie s=true then(if aP n 0 99999=true then 0 else 1)else 90
def jt(s:Stk)(n:Int):Int:=if ie s=true then(if aP n 0 99999=true then iK s n else 0)else 0
def aV(me:Int)(p:Pg):Bool:=aP p.co 0 99999&&cr me p.st&&(p.su==iK p.st p.co)
def uD(me:Int)(p:Pg):Int:=if aV me p=true then 0 else 91
theorem xe{me:Int}{s:Stk}(h:cr me s=true):dK me s=0:=if_pos h
theorem xf{me:Int}{s:Stk}(h:cr me s=false):dK me s=90:=if_neg (by rw[h];decide)
theorem nD{me:Int}{p:Pg}(h:aV me p=true):uD me p=0:=if_pos h
theorem fk{me:Int}{p:Pg}(h:aV me p=false):uD me p=91:=if_neg (by rw[h];decide)
theorem mF{me:Int}{p:Pg}:(uD me p==0)=aV me p:=by
 cases h:aV me p
 ·rw[fk h];rfl
 ·rw[nD h];rfl
theorem nF{me:Int}{p:Pg}(h:aP p.co 0 99999=false):aV me p=false:=by unfold aV;rw[h];rfl
theorem nE{me:Int}{p:Pg}(h:cr me p.st=false):aV me p=false:=by unfold aV;rw[h,Bool.and_false];rfl
theorem iO{me:Int}{p:Pg}(h:aP p.co 0 99999=true)(hk:cr me p.st=true):aV me p=(p.su==iK p.st p.co):=by unfold aV;rw[h,hk];rfl
noncomputable def Of:List (Nat×Spec):=[(78,S78),(79,S79),(60,S60),(80,S80),(81,S81),(63,S63),(89,S89),(43,S43)]
theorem An:∀ f s,tbl Of f=some s->ak Tryz.prog f s:=tc Uz<|tc B3<|tc yg<|tc Uy<|tc B2<|tc B5<|tc B0<|tc B9<|tn
attribute [go_sem] Of
noncomputable def P35:PSpec:=p2 de iI (fun _ _=>True) (fun s n=>.tup [vInt (jt s n),vInt (ju s n)]) true
noncomputable def S35:Spec:=P35.toSpec
attribute [go_sem] P35 S35
set_option maxHeartbeats 4000000 in
theorem QR:aL Tryz.prog 35 P35:=by
 refine w2 (rs:=[.tmp 4,.tmp 5]) Tryz.func35 Tryz.ntmps35 (by rfl) (by kernel_rfl) (by decide) (fun _ _ _=>rfl) ⟨_,rfl,lb rfl,fun s n hp hw=>?_⟩
 have hP:=aU
 simp only[iI,de]at hw |-
 have hΓ:=An
 repeat refine sq ?_
 refine rs hΓ [1,2] [[2,0]] ?_
 refine aF (bo [2,0] (ax s) rfl [1,2] [[2,0]] ?_ rfl) ?_
 ·simp only[go_sem]
 simp only[go_sem]
 repeat refine sq ?_
 refine aN ?_
 repeat refine sq ?_
 refine rs hΓ [1,2,6] [[2,0]] ?_
 repeat refine sq ?_
 refine aw rfl rfl (fun hb=>?_) (fun hb=>?_)
 ·repeat refine sq ?_
  have bJ:ie s=false:=by simpa using hb
  repeat refine sq ?_
  refine rs hΓ [4,5] [] ?_
  refine ar ?_
  simp only[go_sem]
  first | (simp[jt,ju,bJ];done) | (simp[jt,ju,bJ,bZ];done)
 ·repeat refine sq ?_
  have bJ:ie s=true:=by simpa using hb
  have hs:=Hv bJ
  repeat refine sq ?_
  refine rs hΓ [1,2,10] [[2,0]] ?_
  repeat refine sq ?_
  refine aw rfl rfl (fun hb=>?_) (fun hb=>?_)
  ·repeat refine sq ?_
   have bZ:aP n 0 99999=false:=by simpa using hb
   repeat refine sq ?_
   refine rs hΓ [4,5] [] ?_
   refine ar ?_
   simp only[go_sem]
   first | (simp[jt,ju,bJ];done) | (simp[jt,ju,bJ,bZ];done)
  ·repeat refine sq ?_
   have bZ:aP n 0 99999=true:=by simpa using hb
   have hc:du s/\bD n:=⟨hs,nN bZ (by omega) (by omega)⟩
   refine ay ?_
   refine dq ?_
   simp only[go_sem]
   refine kp [1,2] [[2,0]] ?_
   repeat refine sq ?_
   refine rx hΓ [4,5] [] (fun K' hK=>by simp only[go_sem];(repeat (refine⟨by first | exact hc | exact ob,?_⟩));exact hK _ (by simp only[go_sem]) (by simp only[go_sem]<;>rfl)) ?_
   refine ar ?_
   simp only[go_sem]
   first | (simp[jt,ju,bJ];done) | (simp[jt,ju,bJ,bZ];done)
theorem k35:ak Tryz.prog 35 S35:=QR.sound
noncomputable def P36:PSpec:=p2 de iI (fun _ _=>True) (fun s n=>.tup [vInt (jt s n),vInt (ju s n)]) true
noncomputable def S36:Spec:=P36.toSpec
attribute [go_sem] P36 S36
set_option maxHeartbeats 4000000 in
theorem QQ:aL Tryz.prog 36 P36:=by
 refine w2 (rs:=[.tmp 4,.tmp 5]) Tryz.func36 Tryz.ntmps36 (by rfl) (by kernel_rfl) (by decide) (fun _ _ _=>rfl) ⟨_,rfl,lb rfl,fun s n hp hw=>?_⟩
 have hP:=aU
 simp only[iI,de]at hw |-
 have hΓ:=An
 repeat refine sq ?_
 refine rs hΓ [1,2] [[2,0]] ?_
 refine aF (bo [2,0] (ax s) rfl [1,2] [[2,0]] ?_ rfl) ?_
 ·simp only[go_sem]
 simp only[go_sem]
 repeat refine sq ?_
 refine rs hΓ [1,2,9] [[2,0]] ?_
 repeat refine sq ?_
 refine aw rfl rfl (fun hb=>?_) (fun hb=>?_)
 ·repeat refine sq ?_
  have bJ:ie s=false:=by simpa using hb
  repeat refine sq ?_
  refine rs hΓ [4,5] [] ?_
  refine ar ?_
  simp only[go_sem]
  first | (simp[jt,ju,bJ];done) | (simp[jt,ju,bJ,bZ];done)
 ·repeat refine sq ?_
  have bJ:ie s=true:=by simpa using hb
  have hs:=Hv bJ
  refine ay ?_
  repeat refine sq ?_
  refine rs hΓ [1,2,12] [[2,0]] ?_
  repeat refine sq ?_
  refine aw rfl rfl (fun hb=>?_) (fun hb=>?_)
  ·repeat refine sq ?_
   have bZ:aP n 0 99999=false:=by simpa using hb
   repeat refine sq ?_
   refine rs hΓ [4,5] [] ?_
   refine ar ?_
   simp only[go_sem]
   first | (simp[jt,ju,bJ];done) | (simp[jt,ju,bJ,bZ];done)
  ·repeat refine sq ?_
   have bZ:aP n 0 99999=true:=by simpa using hb
   have hc:du s/\bD n:=⟨hs,nN bZ (by omega) (by omega)⟩
   refine ay ?_
   repeat refine sq ?_
   refine rx hΓ [6] [] (fun K' hK=>by simp only[go_sem];(repeat (refine⟨by first | exact hc | exact ob,?_⟩));exact hK _ (by simp only[go_sem]) (by simp only[go_sem]<;>rfl)) ?_
   repeat refine sq ?_
   refine rs hΓ [4,5] [] ?_
   refine ar ?_
   simp only[go_sem]
   first | (simp[jt,ju,bJ];done) | (simp[jt,ju,bJ,bZ];done)
theorem k36:ak Tryz.prog 36 S36:=QQ.sound
noncomputable def P90:PSpec:=p2 iI lK (fun _ _=>True) (fun me p=>.bool (aV me p)) true
noncomputable def S90:Spec:=P90.toSpec
attribute [go_sem] P90 S90
set_option maxHeartbeats 4000000 in
theorem Qe:aL Tryz.prog 90 P90:=by
 refine w2 (rs:=[.tmp 4]) Tryz.func90 Tryz.ntmps90 (by rfl) (by kernel_rfl) (by decide) (fun _ _ _=>rfl) ⟨_,rfl,lb rfl,fun me p hp hw=>?_⟩
 have hP:=aU
 simp only[iI,lK]at hw |-
 have hΓ:=An
 repeat refine sq ?_
 refine rs hΓ [0,3] [[3,0]] ?_
 refine aF (bo [3,0] (cj p) rfl [0,3] [[3,0]] ?_ rfl) ?_
 ·simp only[go_sem]
 simp only[go_sem]
 rcases hc:aP p.co 0 99999 with _ | _;rotate_left;rcases hk:cr me p.st with _ | _;rotate_left 2
 ·repeat refine sq ?_
  refine dx hΓ hP [[],[0],[0,1],[0,1,2],[0,1,2,3],[0,1,2,3],[0,1,2,3,5],[0,1,2,3,4,5,6],[0,1,2,3,4,5,6,7],[0,1,2,3,4,5,6,7,8],[0,1,2,3,4,5,6,7,8,9],[0,1,2,3,4,5,6,7,8,9,10],[0,1,2,3,4,5,6,7,8,9],[0,1,2,3,4,5,6,7,8,9,12],[0,1,2,3,4,5,6,7,8,9],[0,1,2,3,4,5,6,7,8,9,14],[0,1,2,3,4,5,6,7,8,9,12,13,14,15],[0,1,2,3,4,5,6,7,8,9,10,11,12,13,14,15,16],[0,1,2,3,4,5,6,7,8,9,10,11,12,13,14,15,16,17],[0,1,2,3,4,5,6,7,8,9,10,11,12,13,14,15,16,17,18]] [4] [] (by kernel_rfl) (fun K' hK=>by simp only[go_sem,hc];(repeat (refine⟨by first | exact n5 | exact ob,?_⟩));(first | refine⟨by rfl,?_⟩ | skip);exact hK _ (by simp only[go_sem]) (by simp only[go_sem]<;>rfl)) ?_
  refine ar ?_
  simp only[go_sem]
  first | (rw[nF hc];done) | (rw[nE hk];done) | (rw[iO hc hk];done) | (simp[aV,hc,hk];done)
 ·repeat refine sq ?_
  refine dx hΓ hP [[],[0],[0,1],[0,1,2],[0,1,2,3],[0,1,2,3],[0,1,2,3,5],[0,1,2,3,4,5,6],[0,1,2,3,4,5,6,7],[0,1,2,3,4,5,6,7,8],[0,1,2,3,4,5,6,7,8,9],[0,1,2,3,4,5,6,7,8,9,10],[0,1,2,3,4,5,6,7,8,9],[0,1,2,3,4,5,6,7,8,9,12],[0,1,2,3,4,5,6,7,8,9],[0,1,2,3,4,5,6,7,8,9,14],[0,1,2,3,4,5,6,7,8,9,12,13,14,15],[0,1,2,3,4,5,6,7,8,9,10,11,12,13,14,15,16],[0,1,2,3,4,5,6,7,8,9,10,11,12,13,14,15,16,17],[0,1,2,3,4,5,6,7,8,9,10,11,12,13,14,15,16,17,18]] [4] [] (by kernel_rfl) (fun K' hK=>by simp only[go_sem,hc,hk];(repeat (refine⟨by first | exact n5 | exact ob,?_⟩));(first | refine⟨by rfl,?_⟩ | skip);exact hK _ (by simp only[go_sem]) (by simp only[go_sem]<;>rfl)) ?_
  refine ar ?_
  simp only[go_sem]
  first | (rw[nF hc];done) | (rw[nE hk];done) | (rw[iO hc hk];done) | (simp[aV,hc,hk];done)
 ·have n5:du p.st/\bD p.co:=⟨uI hk,nN hc (by omega) (by omega)⟩
  repeat refine sq ?_
  refine dx hΓ hP [[],[0],[0,1],[0,1,2],[0,1,2,3],[0,1,2,3],[0,1,2,3,5],[0,1,2,3,4,5,6],[0,1,2,3,4,5,6,7],[0,1,2,3,4,5,6,7,8],[0,1,2,3,4,5,6,7,8,9],[0,1,2,3,4,5,6,7,8,9,10],[0,1,2,3,4,5,6,7,8,9],[0,1,2,3,4,5,6,7,8,9,12],[0,1,2,3,4,5,6,7,8,9],[0,1,2,3,4,5,6,7,8,9,14],[0,1,2,3,4,5,6,7,8,9,12,13,14,15],[0,1,2,3,4,5,6,7,8,9,10,11,12,13,14,15,16],[0,1,2,3,4,5,6,7,8,9,10,11,12,13,14,15,16,17],[0,1,2,3,4,5,6,7,8,9,10,11,12,13,14,15,16,17,18]] [4] [] (by kernel_rfl) (fun K' hK=>by simp only[go_sem,hc,hk];(repeat (refine⟨by first | exact n5 | exact ob,?_⟩));(first | refine⟨by rfl,?_⟩ | skip);exact hK _ (by simp only[go_sem]) (by simp only[go_sem]<;>rfl)) ?_
  refine ar ?_
  simp only[go_sem]
  first | (rw[nF hc];done) | (rw[nE hk];done) | (rw[iO hc hk];done) | (simp[aV,hc,hk];done)
theorem BZ:ak Tryz.prog 90 S90:=Qe.sound
noncomputable def Oe:List (Nat×Spec):=[(90,S90)]
theorem aaR:∀ f s,tbl Oe f=some s->ak Tryz.prog f s:=tc BZ<|tn
attribute [go_sem] Oe
noncomputable def P44:PSpec:=p2 iI lK (fun _ _=>True) (fun me p=>vInt (uD me p)) true
noncomputable def S44:Spec:=P44.toSpec
attribute [go_sem] P44 S44
theorem QI:aL Tryz.prog 44 P44:=by
 refine w2 (rs:=[.tmp 4]) Tryz.func44 Tryz.ntmps44 (by rfl) (by kernel_rfl) (by decide) (fun _ _ _=>rfl) ⟨_,rfl,lb rfl,fun me p hp hw=>?_⟩
 have hP:=aU
 simp only[iI,lK]at hw |-
 have hΓ:=aaR
 repeat refine sq ?_
 refine rs hΓ [0,3] [[3,0]] ?_
 refine aF (bo [3,0] (cj p) rfl [0,3] [[3,0]] ?_ rfl) ?_
 ·simp only[go_sem]
 simp only[go_sem]
 repeat refine sq ?_
 refine rs hΓ [8] [] ?_
 repeat refine sq ?_
 refine aw rfl rfl (fun hb=>?_) (fun hb=>?_)
 ·repeat refine sq ?_
  refine rs hΓ [4] [] ?_
  refine ar ?_
  simp only[go_sem]
  first | (rw[fk (by simpa using hb)];done) | (rw[nD (by simpa using hb)];done)
 ·repeat refine sq ?_
  refine ay ?_
  repeat refine sq ?_
  refine rs hΓ [4] [] ?_
  refine ar ?_
  simp only[go_sem]
  first | (rw[fk (by simpa using hb)];done) | (rw[nD (by simpa using hb)];done)
theorem k44:ak Tryz.prog 44 S44:=QI.sound
noncomputable def P45:PSpec:=p2 iI lK (fun _ _=>True) (fun me p=>vInt (uD me p)) true
noncomputable def S45:Spec:=P45.toSpec
attribute [go_sem] P45 S45
set_option maxHeartbeats 4000000 in
theorem QH:aL Tryz.prog 45 P45:=by
 refine w2 (rs:=[.tmp 4]) Tryz.func45 Tryz.ntmps45 (by rfl) (by kernel_rfl) (by decide) (fun _ _ _=>rfl) ⟨_,rfl,lb rfl,fun me p hp hw=>?_⟩
 have hP:=aU
 simp only[iI,lK]at hw |-
 have hΓ:=An
 repeat refine sq ?_
 refine rs hΓ [0,3] [[3,0]] ?_
 refine aF (bo [3,0] (cj p) rfl [0,3] [[3,0]] ?_ rfl) ?_
 ·simp only[go_sem]
 simp only[go_sem]
 rcases hc:aP p.co 0 99999 with _ | _;rotate_left;rcases hk:cr me p.st with _ | _;rotate_left 2
 ·repeat refine sq ?_
  refine dx hΓ hP [[],[0],[0,1],[0,1,2],[0,1,2,3],[0,1,2,3,4],[0,1,2,3,4],[0,1,2,3,4,6],[0,1,2,3,4,5,6,7],[0,1,2,3,4,5,6,7,8],[0,1,2,3,4,5,6,7,8,9],[0,1,2,3,4,5,6,7,8,9,10],[0,1,2,3,4,5,6,7,8,9,10,11],[0,1,2,3,4,5,6,7,8,9,10,11,12],[0,1,2,3,4,5,6,7,8,9,10,11],[0,1,2,3,4,5,6,7,8,9,10,11,14],[0,1,2,3,4,5,6,7,8,9,10,11],[0,1,2,3,4,5,6,7,8,9,10,11,16],[0,1,2,3,4,5,6,7,8,9,10,11,14,15,16,17],[0,1,2,3,4,5,6,7,8,9,10,11,12,13,14,15,16,17,18],[0,1,2,3,4,5,6,7,8,9,10,11,12,13,14,15,16,17,18,19]] [25] [] (by kernel_rfl) (fun K' hK=>by simp only[go_sem,hc];(repeat (refine⟨by first | exact n5 | exact ob,?_⟩));(first | refine⟨by rfl,?_⟩ | skip);exact hK _ (by simp only[go_sem]) (by simp only[go_sem]<;>rfl)) ?_
  repeat refine sq ?_
  refine aw rfl rfl (fun hb=>?_) (fun hb=>?_)
  ·repeat refine sq ?_
   refine rx hΓ [4] [] (fun K' hK=>by simp only[go_sem,hc];(repeat (refine⟨ob,?_⟩));exact hK _ (by simp only[go_sem]) (by simp only[go_sem]<;>rfl)) ?_
   refine ar ?_
   simp only[go_sem]
   first | (exact absurd hb (by decide)) | (simp at hb;done) | (rw[fk (nF hc)];done) | (rw[fk (nE hk)];done) | (rw[fk (by rw[iO hc hk];simpa using hb)];done) | (rw[nD (by rw[iO hc hk];simpa using hb)];done)
  ·repeat refine sq ?_
   refine ay ?_
   repeat refine sq ?_
   refine rx hΓ [4] [] (fun K' hK=>by simp only[go_sem,hc];(repeat (refine⟨ob,?_⟩));exact hK _ (by simp only[go_sem]) (by simp only[go_sem]<;>rfl)) ?_
   refine ar ?_
   simp only[go_sem]
   first | (exact absurd hb (by decide)) | (simp at hb;done) | (rw[fk (nF hc)];done) | (rw[fk (nE hk)];done) | (rw[fk (by rw[iO hc hk];simpa using hb)];done) | (rw[nD (by rw[iO hc hk];simpa using hb)];done)
 ·repeat refine sq ?_
  refine dx hΓ hP [[],[0],[0,1],[0,1,2],[0,1,2,3],[0,1,2,3,4],[0,1,2,3,4],[0,1,2,3,4,6],[0,1,2,3,4,5,6,7],[0,1,2,3,4,5,6,7,8],[0,1,2,3,4,5,6,7,8,9],[0,1,2,3,4,5,6,7,8,9,10],[0,1,2,3,4,5,6,7,8,9,10,11],[0,1,2,3,4,5,6,7,8,9,10,11,12],[0,1,2,3,4,5,6,7,8,9,10,11],[0,1,2,3,4,5,6,7,8,9,10,11,14],[0,1,2,3,4,5,6,7,8,9,10,11],[0,1,2,3,4,5,6,7,8,9,10,11,16],[0,1,2,3,4,5,6,7,8,9,10,11,14,15,16,17],[0,1,2,3,4,5,6,7,8,9,10,11,12,13,14,15,16,17,18],[0,1,2,3,4,5,6,7,8,9,10,11,12,13,14,15,16,17,18,19]] [25] [] (by kernel_rfl) (fun K' hK=>by simp only[go_sem,hc,xf hk];(repeat (refine⟨by first | exact n5 | exact ob,?_⟩));(first | refine⟨by rfl,?_⟩ | skip);exact hK _ (by simp only[go_sem]) (by simp only[go_sem]<;>rfl)) ?_
  repeat refine sq ?_
  refine aw rfl rfl (fun hb=>?_) (fun hb=>?_)
  ·repeat refine sq ?_
   refine rx hΓ [4] [] (fun K' hK=>by simp only[go_sem,hc,xf hk];(repeat (refine⟨ob,?_⟩));exact hK _ (by simp only[go_sem]) (by simp only[go_sem]<;>rfl)) ?_
   refine ar ?_
   simp only[go_sem]
   first | (exact absurd hb (by decide)) | (simp at hb;done) | (rw[fk (nF hc)];done) | (rw[fk (nE hk)];done) | (rw[fk (by rw[iO hc hk];simpa using hb)];done) | (rw[nD (by rw[iO hc hk];simpa using hb)];done)
  ·repeat refine sq ?_
   refine ay ?_
   repeat refine sq ?_
   refine rx hΓ [4] [] (fun K' hK=>by simp only[go_sem,hc,xf hk];(repeat (refine⟨ob,?_⟩));exact hK _ (by simp only[go_sem]) (by simp only[go_sem]<;>rfl)) ?_
   refine ar ?_
   simp only[go_sem]
   first | (exact absurd hb (by decide)) | (simp at hb;done) | (rw[fk (nF hc)];done) | (rw[fk (nE hk)];done) | (rw[fk (by rw[iO hc hk];simpa using hb)];done) | (rw[nD (by rw[iO hc hk];simpa using hb)];done)
 ·have n5:du p.st/\bD p.co:=⟨uI hk,nN hc (by omega) (by omega)⟩
  repeat refine sq ?_
  refine dx hΓ hP [[],[0],[0,1],[0,1,2],[0,1,2,3],[0,1,2,3,4],[0,1,2,3,4],[0,1,2,3,4,6],[0,1,2,3,4,5,6,7],[0,1,2,3,4,5,6,7,8],[0,1,2,3,4,5,6,7,8,9],[0,1,2,3,4,5,6,7,8,9,10],[0,1,2,3,4,5,6,7,8,9,10,11],[0,1,2,3,4,5,6,7,8,9,10,11,12],[0,1,2,3,4,5,6,7,8,9,10,11],[0,1,2,3,4,5,6,7,8,9,10,11,14],[0,1,2,3,4,5,6,7,8,9,10,11],[0,1,2,3,4,5,6,7,8,9,10,11,16],[0,1,2,3,4,5,6,7,8,9,10,11,14,15,16,17],[0,1,2,3,4,5,6,7,8,9,10,11,12,13,14,15,16,17,18],[0,1,2,3,4,5,6,7,8,9,10,11,12,13,14,15,16,17,18,19]] [25] [] (by kernel_rfl) (fun K' hK=>by simp only[go_sem,hc,xe hk];(repeat (refine⟨by first | exact n5 | exact ob,?_⟩));(first | refine⟨by rfl,?_⟩ | skip);exact hK _ (by simp only[go_sem]) (by simp only[go_sem]<;>rfl)) ?_
  repeat refine sq ?_
  refine aw rfl rfl (fun hb=>?_) (fun hb=>?_)
  ·repeat refine sq ?_
   refine rx hΓ [4] [] (fun K' hK=>by simp only[go_sem,hc,xe hk];(repeat (refine⟨ob,?_⟩));exact hK _ (by simp only[go_sem]) (by simp only[go_sem]<;>rfl)) ?_
   refine ar ?_
   simp only[go_sem]
   first | (exact absurd hb (by decide)) | (simp at hb;done) | (rw[fk (nF hc)];done) | (rw[fk (nE hk)];done) | (rw[fk (by rw[iO hc hk];simpa using hb)];done) | (rw[nD (by rw[iO hc hk];simpa using hb)];done)
  ·repeat refine sq ?_
   refine ay ?_
   repeat refine sq ?_
   refine rx hΓ [4] [] (fun K' hK=>by simp only[go_sem,hc,xe hk];(repeat (refine⟨ob,?_⟩));exact hK _ (by simp only[go_sem]) (by simp only[go_sem]<;>rfl)) ?_
   refine ar ?_
   simp only[go_sem]
   first | (exact absurd hb (by decide)) | (simp at hb;done) | (rw[fk (nF hc)];done) | (rw[fk (nE hk)];done) | (rw[fk (by rw[iO hc hk];simpa using hb)];done) | (rw[nD (by rw[iO hc hk];simpa using hb)];done)
theorem JF:ak Tryz.prog 45 S45:=QH.sound
def oD(d:Dk):Bool:=if d.wet<0 then(aV d.me d.pa||aV d.me d.pb)&&!((aV d.me d.pa&&aV d.me d.pb)&&(d.pa.co==d.pb.co))
 else(aV d.me d.pa&&aV d.me d.pb)&&decide ((d.pg d.wet.toNat).co>(d.pg (1-d.wet).toNat).co)
def gW(d:Dk):Bool:=cr d.me d.now&&aP d.wet (-1) 1
def aJ(d:Dk):Bool:=gW d&&oD d
def jR(d:Dk):Int:=if aJ d=true then 0 else 92
theorem bO{d:Dk}(h:aJ d=true):jR d=0:=if_pos h
theorem dH{d:Dk}(h:aJ d=false):jR d=92:=if_neg (by rw[h];decide)
@[go_sem] theorem aex(d:Dk):(al d).getD 20 default=vInt d.pa.co:=rfl
@[go_sem] theorem aew(d:Dk):(al d).getD 41 default=vInt d.pb.co:=rfl
theorem oC:IntKind.i64.wrap 0=0:=by decide
theorem oB:IntKind.i64.wrap 1=1:=by decide
theorem nx{d:Dk}(h:d.wet<0):oD d=((aV d.me d.pa||aV d.me d.pb)&&!((aV d.me d.pa&&aV d.me d.pb)&&(d.pa.co==d.pb.co))):=by
 unfold oD;rw[if_pos h]
theorem pW{d:Dk}(h:d.wet=0):oD d=((aV d.me d.pa&&aV d.me d.pb)&&decide (d.pa.co>d.pb.co)):=by
 unfold oD;rw[if_neg (by omega),h];rfl
theorem pV{d:Dk}(h:d.wet=1):oD d=((aV d.me d.pa&&aV d.me d.pb)&&decide (d.pb.co>d.pa.co)):=by
 unfold oD;rw[if_neg (by omega),h];rfl
theorem yX(d:Dk):(!cr d.me d.now||!aP d.wet (-1) 1)=!gW d:=by
 unfold gW
 cases cr d.me d.now<;>cases aP d.wet (-1) 1<;>rfl
theorem Pd{me:Int}{s:Stk}:(dK me s != 0)=!cr me s:=by
 cases h:cr me s
 ·rw[xf h];rfl
 ·rw[xe h];rfl
noncomputable def Od:List (Nat×Spec):=[(89,S89),(98,S98),(90,S90)]
theorem aaQ:∀ f s,tbl Od f=some s->ak Tryz.prog f s:=tc B0<|tc BX<|tc BZ<|tn
attribute [go_sem] Od
noncomputable def P74:PSpec:=p1 bf (fun _=>True) (fun d=>.bool (aJ d)) true
noncomputable def S74:Spec:=P74.toSpec
attribute [go_sem] P74 S74
set_option maxHeartbeats 4000000 in
theorem Qs:aL Tryz.prog 74 P74:=by
 refine w1 (rs:=[.tmp 2]) Tryz.func74 Tryz.ntmps74 (by rfl) (by kernel_rfl) (by decide) (fun _ _=>rfl) ⟨_,rfl,lb rfl,fun d hp hw=>?_⟩
 have hP:=aU
 simp only[bf]at hw |-
 have hΓ:=aaQ
 repeat refine sq ?_
 refine rs hΓ [1] [[1,0]] ?_
 refine aF (bo [1,0] (al d) rfl [1] [[1,0]] ?_ rfl) ?_
 ·simp only[go_sem]
 simp only[go_sem]
 repeat refine sq ?_
 refine rs hΓ [1,16] [[1,0]] ?_
 repeat refine sq ?_
 refine aw rfl rfl (fun hb=>?_) (fun hb=>?_)
 ·repeat refine sq ?_
  have bw:gW d=false:=by have:=yX d;rw[hb]at this;simpa using this.symm
  repeat refine sq ?_
  refine rs hΓ [2] [] ?_
  refine ar ?_
  simp only[go_sem]
  first | (simp[aJ,bw];done) | (unfold aJ;rw[bB,nx nV];simp) | (unfold aJ;rw[bB,pW eU];simp) | (unfold aJ;rw[bB,pV eU];simp)
 ·repeat refine sq ?_
  have bB:gW d=true:=by have:=yX d;rw[hb]at this;simpa using this.symm
  have hi:aP d.wet (-1) 1=true:=by unfold gW at bB;rw[Bool.and_eq_true]at bB;exact bB.2
  refine ay ?_
  repeat refine sq ?_
  refine dx hΓ hP [[],[0],[],[2],[2,3],[0,1,2,3,4],[],[6],[],[8],[8,9],[0,1,2,3,4,5,6,7,8,9,10],[0,1,2,3,4,5,6,7,8,9,10,11],[0,1,2,3,4,5,6,7,8,9,10,11,12]] [1,3,4] [[1,0]] (by kernel_rfl) (fun K' hK=>by simp only[go_sem,Int.cast_ofNat_Int,Int.reduceToNat,Int.toNat_one,Int.toNat_zero,Nat.reduceMul,Nat.reduceAdd,Nat.zero_mul,Nat.one_mul,Nat.add_zero];(repeat (refine⟨ob,?_⟩));(first | refine⟨by rfl,?_⟩ | skip);exact hK _ (by simp only[go_sem]) (by simp only[go_sem]<;>rfl)) ?_
  repeat refine sq ?_
  refine rs hΓ [1,3,4,31] [[1,0]] ?_
  repeat refine sq ?_
  refine aw rfl rfl (fun hb=>?_) (fun hb=>?_)
  ·repeat refine sq ?_
   have nV:d.wet<0:=by simpa using hb
   repeat refine sq ?_
   refine rx hΓ [2] [] (fun K' hK=>by simp only[go_sem,Int.cast_ofNat_Int,Int.reduceToNat,Int.toNat_one,Int.toNat_zero,Nat.reduceMul,Nat.reduceAdd,Nat.zero_mul,Nat.one_mul,Nat.add_zero];(repeat (refine⟨ob,?_⟩));exact hK _ (by simp only[go_sem]) (by simp only[go_sem]<;>rfl)) ?_
   refine ar ?_
   simp only[go_sem]
   first | (simp[aJ,bw];done) | (unfold aJ;rw[bB,nx nV];simp) | (unfold aJ;rw[bB,pW eU];simp) | (unfold aJ;rw[bB,pV eU];simp)
  ·repeat refine sq ?_
   have aX:¬ d.wet<0:=by simpa using hb
   have nR:d.wet=0\/d.wet=1:=by have:=iu.1 hi;omega
   refine ay ?_
   rcases nR with eU | eU
   ·repeat refine sq ?_
    refine dx hΓ hP [[],[0],[0,1],[0,1,2],[0,1,2,3],[0,1,2,3,4],[0,1,2,3,4,5],[0,1,2,3,4],[0,1,2,3,4,5,6,7],[0,1,2,3,4,5,6,7,8],[0,1,2,3,4,5,6,7,8,9],[0,1,2,3,4],[0,1,2,3,4,11],[0,1,2,3,4,11,12],[0,1,2,3,4],[0,1,2,3,4,11,12,13,14],[0,1,2,3,4,11,12,13,14,15],[0,1,2,3,4,11,12,13,14,15,16],[0,1,2,3,4,5,6,7,8,9,10,11,12,13,14,15,16,17],[0,1,2,3,4,5,6,7,8,9,10,11,12,13,14,15,16,17,18],[0,1,2,3,4,5,6,7,8,9,10,11,12,13,14,15,16,17,18,19]] [2] [] (by kernel_rfl) (fun K' hK=>by simp only[go_sem,eU,oC,oB,Int.sub_self,Int.sub_zero,Int.cast_ofNat_Int,Int.reduceToNat,Int.toNat_one,Int.toNat_zero,Nat.reduceMul,Nat.reduceAdd,Nat.zero_mul,Nat.one_mul,Nat.add_zero];(repeat (refine⟨ob,?_⟩));(first | refine⟨by rfl,?_⟩ | skip);exact hK _ (by simp only[go_sem]) (by simp only[go_sem]<;>rfl)) ?_
    refine ar ?_
    simp only[go_sem]
    first | (simp[aJ,bw];done) | (unfold aJ;rw[bB,nx nV];simp) | (unfold aJ;rw[bB,pW eU];simp) | (unfold aJ;rw[bB,pV eU];simp)
   ·repeat refine sq ?_
    refine dx hΓ hP [[],[0],[0,1],[0,1,2],[0,1,2,3],[0,1,2,3,4],[0,1,2,3,4,5],[0,1,2,3,4],[0,1,2,3,4,5,6,7],[0,1,2,3,4,5,6,7,8],[0,1,2,3,4,5,6,7,8,9],[0,1,2,3,4],[0,1,2,3,4,11],[0,1,2,3,4,11,12],[0,1,2,3,4],[0,1,2,3,4,11,12,13,14],[0,1,2,3,4,11,12,13,14,15],[0,1,2,3,4,11,12,13,14,15,16],[0,1,2,3,4,5,6,7,8,9,10,11,12,13,14,15,16,17],[0,1,2,3,4,5,6,7,8,9,10,11,12,13,14,15,16,17,18],[0,1,2,3,4,5,6,7,8,9,10,11,12,13,14,15,16,17,18,19]] [2] [] (by kernel_rfl) (fun K' hK=>by simp only[go_sem,eU,oC,oB,Int.sub_self,Int.sub_zero,Int.cast_ofNat_Int,Int.reduceToNat,Int.toNat_one,Int.toNat_zero,Nat.reduceMul,Nat.reduceAdd,Nat.zero_mul,Nat.one_mul,Nat.add_zero];(repeat (refine⟨ob,?_⟩));(first | refine⟨by rfl,?_⟩ | skip);exact hK _ (by simp only[go_sem]) (by simp only[go_sem]<;>rfl)) ?_
    refine ar ?_
    simp only[go_sem]
    first | (simp[aJ,bw];done) | (unfold aJ;rw[bB,nx nV];simp) | (unfold aJ;rw[bB,pW eU];simp) | (unfold aJ;rw[bB,pV eU];simp)
theorem UC:ak Tryz.prog 74 S74:=Qs.sound
noncomputable def Oc:List (Nat×Spec):=[(74,S74)]
theorem aaP:∀ f s,tbl Oc f=some s->ak Tryz.prog f s:=tc UC<|tn
attribute [go_sem] Oc
noncomputable def P23:PSpec:=p1 bf (fun _=>True) (fun d=>vInt (jR d)) true
noncomputable def S23:Spec:=P23.toSpec
attribute [go_sem] P23 S23
theorem Q2:aL Tryz.prog 23 P23:=by
 refine w1 (rs:=[.tmp 2]) Tryz.func23 Tryz.ntmps23 (by rfl) (by kernel_rfl) (by decide) (fun _ _=>rfl) ⟨_,rfl,lb rfl,fun d hp hw=>?_⟩
 have hP:=aU
 simp only[bf]at hw |-
 have hΓ:=aaP
 repeat refine sq ?_
 refine rs hΓ [1] [[1,0]] ?_
 refine aF (bo [1,0] (al d) rfl [1] [[1,0]] ?_ rfl) ?_
 ·simp only[go_sem]
 simp only[go_sem]
 repeat refine sq ?_
 refine rs hΓ [5] [] ?_
 repeat refine sq ?_
 refine aw rfl rfl (fun hb=>?_) (fun hb=>?_)
 ·repeat refine sq ?_
  refine rs hΓ [2] [] ?_
  refine ar ?_
  simp only[go_sem]
  first | (rw[dH (by simpa using hb)];done) | (rw[bO (by simpa using hb)];done)
 ·repeat refine sq ?_
  refine ay ?_
  repeat refine sq ?_
  refine rs hΓ [2] [] ?_
  refine ar ?_
  simp only[go_sem]
  first | (rw[dH (by simpa using hb)];done) | (rw[bO (by simpa using hb)];done)
theorem o6:ak Tryz.prog 23 S23:=Q2.sound
noncomputable def Ob:List (Nat×Spec):=[(43,S43),(86,S86),(45,S45)]
theorem aaO:∀ f s,tbl Ob f=some s->ak Tryz.prog f s:=tc B9<|tc B1<|tc JF<|tn
attribute [go_sem] Ob
noncomputable def P39:PSpec:=p1 bf (fun _=>True) (fun d=>vInt (jR d)) true
noncomputable def S39:Spec:=P39.toSpec
attribute [go_sem] P39 S39
set_option maxHeartbeats 4000000 in
theorem QN:aL Tryz.prog 39 P39:=by
 refine w1 (rs:=[.tmp 2]) Tryz.func39 Tryz.ntmps39 (by rfl) (by kernel_rfl) (by decide) (fun _ _=>rfl) ⟨_,rfl,lb rfl,fun d hp hw=>?_⟩
 have hP:=aU
 simp only[bf]at hw |-
 have hΓ:=aaO
 repeat refine sq ?_
 refine rs hΓ [1] [[1,0]] ?_
 refine aF (bo [1,0] (al d) rfl [1] [[1,0]] ?_ rfl) ?_
 ·simp only[go_sem]
 simp only[go_sem]
 repeat refine sq ?_
 refine rx hΓ [1,16] [[1,0]] (fun K' hK=>by simp only[go_sem,Pd];(repeat (refine⟨ob,?_⟩));exact hK _ (by simp only[go_sem]) (by simp only[go_sem]<;>rfl)) ?_
 repeat refine sq ?_
 refine aw rfl rfl (fun hb=>?_) (fun hb=>?_)
 ·repeat refine sq ?_
  have bw:gW d=false:=by have:=yX d;rw[hb]at this;simpa using this.symm
  have eh:aJ d=false:=by unfold aJ;rw[bw];rfl
  repeat refine sq ?_
  refine rs hΓ [2] [] ?_
  refine ar ?_
  simp only[go_sem]
  first | (rw[dH eh];done) | (rw[bO eh];done)
 ·repeat refine sq ?_
  have bB:gW d=true:=by have:=yX d;rw[hb]at this;simpa using this.symm
  have hi:aP d.wet (-1) 1=true:=by unfold gW at bB;rw[Bool.and_eq_true]at bB;exact bB.2
  refine ay ?_
  repeat refine sq ?_
  refine rx hΓ [1,3] [[1,0]] (fun K' hK=>by simp only[go_sem,mF,Int.cast_ofNat_Int,Int.reduceToNat,Int.toNat_one,Int.toNat_zero,Nat.reduceMul,Nat.reduceAdd,Nat.zero_mul,Nat.one_mul,Nat.add_zero];(repeat (refine⟨ob,?_⟩));exact hK _ (by simp only[go_sem]) (by simp only[go_sem]<;>rfl)) ?_
  repeat refine sq ?_
  refine rx hΓ [1,3,4] [[1,0]] (fun K' hK=>by simp only[go_sem,mF,Int.cast_ofNat_Int,Int.reduceToNat,Int.toNat_one,Int.toNat_zero,Nat.reduceMul,Nat.reduceAdd,Nat.zero_mul,Nat.one_mul,Nat.add_zero];(repeat (refine⟨ob,?_⟩));exact hK _ (by simp only[go_sem]) (by simp only[go_sem]<;>rfl)) ?_
  repeat refine sq ?_
  refine rs hΓ [1,3,4,33] [[1,0]] ?_
  repeat refine sq ?_
  refine aw rfl rfl (fun hb=>?_) (fun hb=>?_)
  ·repeat refine sq ?_
   have nV:d.wet<0:=by simpa using hb
   repeat refine sq ?_
   refine rx hΓ [56] [] (fun K' hK=>by simp only[go_sem,Int.cast_ofNat_Int,Int.reduceToNat,Int.toNat_one,Int.toNat_zero,Nat.reduceMul,Nat.reduceAdd,Nat.zero_mul,Nat.one_mul,Nat.add_zero];(repeat (refine⟨ob,?_⟩));exact hK _ (by simp only[go_sem]) (by simp only[go_sem]<;>rfl)) ?_
   repeat refine sq ?_
   refine aw rfl rfl (fun hb=>?_) (fun hb=>?_)
   ·repeat refine sq ?_
    have eh:aJ d=false:=by unfold aJ;rw[bB,nx nV];revert hb;cases aV d.me d.pa<;>cases aV d.me d.pb<;>simp
    repeat refine sq ?_
    refine rs hΓ [2] [] ?_
    refine ar ?_
    simp only[go_sem]
    first | (rw[dH eh];done) | (rw[bO eh];done)
   ·repeat refine sq ?_
    have eh:aJ d=true:=by unfold aJ;rw[bB,nx nV];revert hb;cases aV d.me d.pa<;>cases aV d.me d.pb<;>simp
    refine ay ?_
    repeat refine sq ?_
    refine rs hΓ [2] [] ?_
    refine ar ?_
    simp only[go_sem]
    first | (rw[dH eh];done) | (rw[bO eh];done)
  ·repeat refine sq ?_
   have aX:¬ d.wet<0:=by simpa using hb
   have nR:d.wet=0\/d.wet=1:=by have:=iu.1 hi;omega
   refine ay ?_
   rcases nR with eU | eU
   ·repeat refine sq ?_
    refine dx hΓ hP [[],[0],[0,1],[0,1,2],[0,1,2,3],[0,1,2,3,4],[0,1,2,3,4,5],[0,1,2,3,4,5,6],[0,1,2,3,4,5,6,7],[0,1,2,3,4,5,6],[0,1,2,3,4,5,6,7,8,9],[0,1,2,3,4,5,6,7,8,9,10],[0,1,2,3,4,5,6,7,8,9,10,11],[0,1,2,3,4,5,6],[0,1,2,3,4,5,6,13],[0,1,2,3,4,5,6,13,14],[0,1,2,3,4,5,6],[0,1,2,3,4,5,6,13,14,15,16],[0,1,2,3,4,5,6,13,14,15,16,17],[0,1,2,3,4,5,6,13,14,15,16,17,18],[0,1,2,3,4,5,6,7,8,9,10,11,12,13,14,15,16,17,18,19],[0,1,2,3,4,5,6,7,8,9,10,11,12,13,14,15,16,17,18,19,20]] [78] [] (by kernel_rfl) (fun K' hK=>by simp only[go_sem,eU,oC,oB,Int.sub_self,Int.sub_zero,Int.cast_ofNat_Int,Int.reduceToNat,Int.toNat_one,Int.toNat_zero,Nat.reduceMul,Nat.reduceAdd,Nat.zero_mul,Nat.one_mul,Nat.add_zero];(repeat (refine⟨ob,?_⟩));(first | refine⟨by rfl,?_⟩ | skip);exact hK _ (by simp only[go_sem]) (by simp only[go_sem]<;>rfl)) ?_
    repeat refine sq ?_
    refine aw rfl rfl (fun hb=>?_) (fun hb=>?_)
    ·repeat refine sq ?_
     have eh:aJ d=false:=by unfold aJ;rw[bB,pW eU];revert hb;cases aV d.me d.pa<;>cases aV d.me d.pb<;>simp
     repeat refine sq ?_
     refine rx hΓ [2] [] (fun K' hK=>by simp only[go_sem,eU,oC,oB,Int.sub_self,Int.sub_zero,Int.cast_ofNat_Int,Int.reduceToNat,Int.toNat_one,Int.toNat_zero,Nat.reduceMul,Nat.reduceAdd,Nat.zero_mul,Nat.one_mul,Nat.add_zero];(repeat (refine⟨ob,?_⟩));exact hK _ (by simp only[go_sem]) (by simp only[go_sem]<;>rfl)) ?_
     refine ar ?_
     simp only[go_sem]
     first | (rw[dH eh];done) | (rw[bO eh];done)
    ·repeat refine sq ?_
     have eh:aJ d=true:=by unfold aJ;rw[bB,pW eU];revert hb;cases aV d.me d.pa<;>cases aV d.me d.pb<;>simp
     refine ay ?_
     repeat refine sq ?_
     refine rx hΓ [2] [] (fun K' hK=>by simp only[go_sem,eU,oC,oB,Int.sub_self,Int.sub_zero,Int.cast_ofNat_Int,Int.reduceToNat,Int.toNat_one,Int.toNat_zero,Nat.reduceMul,Nat.reduceAdd,Nat.zero_mul,Nat.one_mul,Nat.add_zero];(repeat (refine⟨ob,?_⟩));exact hK _ (by simp only[go_sem]) (by simp only[go_sem]<;>rfl)) ?_
     refine ar ?_
     simp only[go_sem]
     first | (rw[dH eh];done) | (rw[bO eh];done)
   ·repeat refine sq ?_
    refine dx hΓ hP [[],[0],[0,1],[0,1,2],[0,1,2,3],[0,1,2,3,4],[0,1,2,3,4,5],[0,1,2,3,4,5,6],[0,1,2,3,4,5,6,7],[0,1,2,3,4,5,6],[0,1,2,3,4,5,6,7,8,9],[0,1,2,3,4,5,6,7,8,9,10],[0,1,2,3,4,5,6,7,8,9,10,11],[0,1,2,3,4,5,6],[0,1,2,3,4,5,6,13],[0,1,2,3,4,5,6,13,14],[0,1,2,3,4,5,6],[0,1,2,3,4,5,6,13,14,15,16],[0,1,2,3,4,5,6,13,14,15,16,17],[0,1,2,3,4,5,6,13,14,15,16,17,18],[0,1,2,3,4,5,6,7,8,9,10,11,12,13,14,15,16,17,18,19],[0,1,2,3,4,5,6,7,8,9,10,11,12,13,14,15,16,17,18,19,20]] [78] [] (by kernel_rfl) (fun K' hK=>by simp only[go_sem,eU,oC,oB,Int.sub_self,Int.sub_zero,Int.cast_ofNat_Int,Int.reduceToNat,Int.toNat_one,Int.toNat_zero,Nat.reduceMul,Nat.reduceAdd,Nat.zero_mul,Nat.one_mul,Nat.add_zero];(repeat (refine⟨ob,?_⟩));(first | refine⟨by rfl,?_⟩ | skip);exact hK _ (by simp only[go_sem]) (by simp only[go_sem]<;>rfl)) ?_
    repeat refine sq ?_
    refine aw rfl rfl (fun hb=>?_) (fun hb=>?_)
    ·repeat refine sq ?_
     have eh:aJ d=false:=by unfold aJ;rw[bB,pV eU];revert hb;cases aV d.me d.pa<;>cases aV d.me d.pb<;>simp
     repeat refine sq ?_
     refine rx hΓ [2] [] (fun K' hK=>by simp only[go_sem,eU,oC,oB,Int.sub_self,Int.sub_zero,Int.cast_ofNat_Int,Int.reduceToNat,Int.toNat_one,Int.toNat_zero,Nat.reduceMul,Nat.reduceAdd,Nat.zero_mul,Nat.one_mul,Nat.add_zero];(repeat (refine⟨ob,?_⟩));exact hK _ (by simp only[go_sem]) (by simp only[go_sem]<;>rfl)) ?_
     refine ar ?_
     simp only[go_sem]
     first | (rw[dH eh];done) | (rw[bO eh];done)
    ·repeat refine sq ?_
     have eh:aJ d=true:=by unfold aJ;rw[bB,pV eU];revert hb;cases aV d.me d.pa<;>cases aV d.me d.pb<;>simp
     refine ay ?_
     repeat refine sq ?_
     refine rx hΓ [2] [] (fun K' hK=>by simp only[go_sem,eU,oC,oB,Int.sub_self,Int.sub_zero,Int.cast_ofNat_Int,Int.reduceToNat,Int.toNat_one,Int.toNat_zero,Nat.reduceMul,Nat.reduceAdd,Nat.zero_mul,Nat.one_mul,Nat.add_zero];(repeat (refine⟨ob,?_⟩));exact hK _ (by simp only[go_sem]) (by simp only[go_sem]<;>rfl)) ?_
     refine ar ?_
     simp only[go_sem]
     first | (rw[dH eh];done) | (rw[bO eh];done)
theorem o5:ak Tryz.prog 39 S39:=QN.sound
end Go.Eng
set_option linter.unusedVariables false
namespace Go.Eng
open Go Go.Proofs Go.RowKit Go.Lib Go.Shelf
set_option maxHeartbeats 2000000 in
set_option maxRecDepth 100000 in
theorem YX(n c:Nat)(w:World):Calls Tryz.prog 76 #[.slice none n c] w fun e w'=>e=.returned (.slice none 0 0)/\w'=w:=by
 have mixed:Tryz.prog.follows Departure.mixedOrders=true:=by kernel_rfl
 have qT:∀ (w:World) (a:Option Addr) (n c n' c':Nat),(binOp .eql 23 (.slice a n c) (.slice none n' c')).run Tryz.prog w=.ok (.bool a.isNone) w:=fun w a n c n' c'=>Lib.run_eql_slice_nil w _ _ a n c n' c' Tryz.underlying23
 go_enter Tryz.func76,Tryz.ntmps76
 go_wp2
 go_ret
 exact⟨rfl,rfl⟩
set_option maxHeartbeats 2000000 in
set_option maxRecDepth 100000 in
theorem YW(a:Addr)(n c:Nat)(w:World)(v':Value)(w':World)
 (cH:∀ ty,(Builtin.append_ #[23,23] ty #[.slice (some ⟨w.heap.size,0,none⟩) 0 0,.slice (some a) n c]).run Tryz.prog (w.alloc (.cells #[] 91))=.ok v' w'):
 Calls Tryz.prog 76 #[.slice (some a) n c] w fun e w1=>e=.returned v'/\w1=w':=by
 have mixed:Tryz.prog.follows Departure.mixedOrders=true:=by kernel_rfl
 have qT:∀ (w:World) (a:Option Addr) (n c n' c':Nat),(binOp .eql 23 (.slice a n c) (.slice none n' c')).run Tryz.prog w=.ok (.bool a.isNone) w:=fun w a n c n' c'=>Lib.run_eql_slice_nil w _ _ a n c n' c' Tryz.underlying23
 go_enter Tryz.func76,Tryz.ntmps76
 go_wp2_with (at_builtin;refine Lib.wpList_append_run _ rfl _ _ _ _ rfl _ _ rfl rfl _ _ (cH _) ?_)
 go_ret
 exact⟨rfl,rfl⟩
set_option maxHeartbeats 2000000 in
set_option maxRecDepth 100000 in
theorem YV(n c:Nat)(w:World):Calls Tryz.prog 77 #[.slice none n c] w fun e w'=>e=.returned (.slice none 0 0)/\w'=w:=by
 have mixed:Tryz.prog.follows Departure.mixedOrders=true:=by kernel_rfl
 have qT:∀ (w:World) (a:Option Addr) (n c n' c':Nat),(binOp .eql 22 (.slice a n c) (.slice none n' c')).run Tryz.prog w=.ok (.bool a.isNone) w:=fun w a n c n' c'=>Lib.run_eql_slice_nil w _ _ a n c n' c' Tryz.underlying22
 go_enter Tryz.func77,Tryz.ntmps77
 go_wp2
 go_ret
 exact⟨rfl,rfl⟩
set_option maxHeartbeats 2000000 in
set_option maxRecDepth 100000 in
theorem YU(a:Addr)(n c:Nat)(w:World)(v':Value)(w':World)
 (cH:∀ ty,(Builtin.append_ #[22,22] ty #[.slice (some ⟨w.heap.size,0,none⟩) 0 0,.slice (some a) n c]).run Tryz.prog (w.alloc (.cells #[] 3))=.ok v' w'):
 Calls Tryz.prog 77 #[.slice (some a) n c] w fun e w1=>e=.returned v'/\w1=w':=by
 have mixed:Tryz.prog.follows Departure.mixedOrders=true:=by kernel_rfl
 have qT:∀ (w:World) (a:Option Addr) (n c n' c':Nat),(binOp .eql 22 (.slice a n c) (.slice none n' c')).run Tryz.prog w=.ok (.bool a.isNone) w:=fun w a n c n' c'=>Lib.run_eql_slice_nil w _ _ a n c n' c' Tryz.underlying22
 go_enter Tryz.func77,Tryz.ntmps77
 go_wp2_with (at_builtin;refine Lib.wpList_append_run _ rfl _ _ _ _ rfl _ _ rfl rfl _ _ (cH _) ?_)
 go_ret
 exact⟨rfl,rfl⟩
theorem nI(n:Nat)(h:n<1000000000):n≠yid:=by unfold yid;omega
theorem EH:tX Tryz.prog 76 23 91 2 16 (.agg #[.int .i64 0,.int .i64 0]):=
 ⟨by kernel_rfl,by kernel_rfl,nI _ (by decide),gG Tryz.func76 (by rfl) (by kernel_rfl),YX,YW⟩
theorem EG:tX Tryz.prog 77 22 3 1 8 (.int .i64 0):=
 ⟨by kernel_rfl,by kernel_rfl,nI _ (by decide),gG Tryz.func77 (by rfl) (by kernel_rfl),YV,YU⟩
def Hb(sz by_:Nat):PSpec:=⟨fun xs=>∃ l,xs=[.sl l]/\(∀ z∈l,z.cells.length=sz/\z.okc=true)/\l.length*by_<=140737488355328,fun xs=>xs.headD default,false⟩
theorem Mu{P:Program}{f T E sz by_:Nat}{Z:Value}(L:tX P f T E sz by_ Z)(hz:Z.cells.size=sz)(hb:0<by_):aL P f (Hb sz by_):=by
 refine GY (wo L) L.ne (fun h=>by cases h) ?_
 rintro xs ⟨l,rfl,hl,hn⟩
 simp only[oq,List.map_cons,List.map_nil,Hb,List.headD_cons]
 cases l with
 |nil=>exact⟨trivial,trivial,rfl⟩
 |cons y r=>
  have e:gm P (fun _=>none) [0,0] T (.v (.sl (y::r)))=cf P (fun _=>none) [0,0] T T .nilsl (.v (.sl (y::r))):=rfl
  rw[e]
  have pq:(y::r).length*by_<=140737488355328:=hn
  have iZ:(y::r).length<=maxLen:=by unfold maxLen;have:=Nat.le_mul_of_pos_right (y::r).length hb;omega
  simp only[cf,L.tE,L.tZ,aA,au,aD,aM]
  exact⟨⟨trivial,hl,hz,pq,iZ,trivial⟩,trivial,trivial⟩
theorem aL.conv{P:Program}{f:FuncId}{s s':PSpec}(h:aL P f s)(hf:s'.flat=s.flat)(hp:∀ xs,s'.pre xs->s.pre xs/\s'.fn xs=s.fn xs):aL P f s':=by
 refine⟨h.ne,h.enter,fun fB xs hx=>?_,fun m w xs args hm ht hx cz=>?_⟩
 ·rw[(hp xs hx).2];exact h.flat (hf▸fB) xs (hp xs hx).1
 ·rw[(hp xs cz).2];exact h.calls m w xs args hm ht hx (hp xs cz).1
noncomputable def Fh:PSpec:=p1 dQ (fun l=>l.length*8<=140737488355328) (fun l=>.sl (l.map vInt)) false
noncomputable def S77:Spec:=Fh.toSpec
theorem B4:ak Tryz.prog 77 S77:=(aL.conv (s':=Fh) (Mu EG rfl (by decide)) rfl (by
 intro xs hx
 obtain⟨l,rfl,hl,e⟩:=xA hx
 exact⟨⟨_,rfl,fun z hz=>by obtain⟨x,_,rfl⟩:=List.mem_map.1 hz;exact⟨rfl,rfl⟩,by simpa using hl⟩,e⟩)).sound
noncomputable def Fi:PSpec:=p1 iS (fun l=>l.length*16<=140737488355328) (fun l=>.sl (l.map encPa)) false
noncomputable def S76:Spec:=Fi.toSpec
theorem Jx:ak Tryz.prog 76 S76:=(aL.conv (s':=Fi) (Mu EH rfl (by decide)) rfl (by
 intro xs hx
 obtain⟨l,rfl,hl,e⟩:=xA hx
 exact⟨⟨_,rfl,fun z hz=>by obtain⟨x,_,rfl⟩:=List.mem_map.1 hz;exact⟨rfl,rfl⟩,by simpa using hl⟩,e⟩)).sound
attribute [go_sem] Fi S76 Fh S77
open Go
structure Fm (r:Lp) (caps:List Name->List D):Prop where
 ren:∀ f Ls,Ls.length=r.m->D.renL f (caps Ls)=caps (Ls.map f)
 clo:∀ dom Ls,Ls.length=r.m->(∀ x∈Ls,dom x=true)->D.closL dom (caps Ls)=true
 reach:∀ Ls s obj R k,Ls.length=r.m->(R::Ls).Nodup->cS obj Ls (r.fam Ls s)->obj R=some (r.rc Ls .ready none)->dm obj (k+r.fu+1) (R::cE (caps Ls)) []=R::Ls
def Lp.itC(r:Lp)(caps:List Name->List D):CSpec where
 pre:=fun os ds=>os=r.rc (LI r.m) .ready none::r.fam (LI r.m) 0/\ds=.yld [0,1]::caps (LI r.m)
 out:=fun _ _=>⟨(0,r.fin (LI r.m))::dW 1 (r.fam (LI r.m) r.e),[],.tup []⟩
theorem Lp.itC_app{r:Lp}(hr:r.Ok){caps:List Name->List D}(vI:Fm r caps){obj:Name->Option O}{t R:Name}{Ls:List Name}(hl:Ls.length=r.m)(hn:Ls.Nodup)(hR:R∉Ls)
 (h0:obj R=some (r.rc Ls .ready none)) (hF:cS obj Ls (r.fam Ls 0)):
 (r.itC caps).toSpec.app obj t (.yld R::caps Ls)=⟨True,.tup [],cg Ls (r.fam Ls r.e) (upd obj R (some (r.fin Ls)))⟩:=by
 have vp:(R::Ls).Nodup:=List.nodup_cons.2 ⟨hR,hn⟩
 have iY:reach obj (.yld R::caps Ls)=R::Ls:=by
  unfold reach
  have :=vI.reach Ls 0 obj R (2999-r.fu) hl vp hF h0
  rw[show 2999-r.fu+r.fu+1=3000 by have:=hr.fuel;omega]at this
  exact this
 have Dt:∀ s,cS obj Ls (r.fam Ls s)->Ls.map (bV (R::Ls) obj)=(r.fam Ls s).map (O.ren (cin (R::Ls))):=by
  intro s hF
  rw[iQ]at hF
  refine List.ext_getElem (by simp[hr.len _ _ hl,hl]) fun i h1 h2=>?_
  have h3:i<Ls.length:=by simpa using h1
  have h4:i<(r.fam Ls s).length:=by rw[hr.len _ _ hl,<-hl];exact h3
  have h5:=congrArg (fun l=>l[i]?) hF
  have h6:obj Ls[i]=some (r.fam Ls s)[i]:=by simpa[h3,h4]using h5
  simp only[List.getElem_map,bV,h6]
 have e1:b8 obj (.yld R::caps Ls)=r.rc (LI r.m) .ready none::r.fam (LI r.m) 0:=by
  unfold b8
  rw[iY,List.map_cons,Dt 0 hF,hr.renF _ _ _ hl,wq hn hR,hl]
  congr 1
  unfold Lp.rc at h0 |-
  simp only[bV,h0,O.ren]
  rw[hr.renE _ _ hl,wq hn hR,hl]
 have e2:cC obj (.yld R::caps Ls)=.yld [0,1]::caps (LI r.m):=by
  unfold cC
  rw[iY]
  simp only[D.renL,D.ren,vI.ren _ _ hl]
  rw[wq hn hR,hl]
  simp only[cin,idx,if_true]
 have cz:(r.itC caps).pre (r.rc (LI r.m) .ready none::r.fam (LI r.m) 0) (.yld [0,1]::caps (LI r.m)):=⟨rfl,rfl⟩
 have eV:∀ os ds,(r.itC caps).out os ds=⟨(0,r.fin (LI r.m))::dW 1 (r.fam (LI r.m) r.e),[],.tup []⟩:=fun _ _=>rfl
 have sV:∀ x∈Ls,bX (R::Ls) x=true:=fun x hx=>fW.2 (List.mem_cons_of_mem _ hx)
 have fb:shut obj (R::Ls)=true:=by
  unfold shut
  rw[List.all_eq_true]
  intro x hx
  rcases List.mem_cons.1 hx with rfl | hx
  ·rw[h0]
   unfold Lp.rc
   exact hr.closE _ _ hl sV
  obtain⟨i,hi,rfl⟩:=List.getElem_of_mem hx
  rw[iQ]at hF
  have h4:i<(r.fam Ls 0).length:=by rw[hr.len _ _ hl,<-hl];exact hi
  have h5:=congrArg (fun l=>l[i]?) hF
  have h6:obj Ls[i]=some (r.fam Ls 0)[i]:=by simpa[hi,h4]using h5
  rw[h6]
  exact hr.closF _ _ _ hl sV _ (List.getElem_mem h4)
 have bH:D.closL (bX (R::Ls)) (.yld R::caps Ls)=true:=by
  show (bX (R::Ls) R&&D.closL _ _)=true
  rw[vI.clo _ _ hl sV]
  simp[bX]
 have hp:∀ obj',bW (R::Ls) t (dW 1 (r.fam (LI r.m) r.e)) obj'=cg Ls (r.fam Ls r.e) obj':=by
  intro obj'
  rw[xv (Ls:=Ls) (by rw[hr.len _ _ (db _),hl]) fun i hi=>by
   rw[Nat.add_comm,List.getD_cons_succ];exact jP hi,hr.renF _ _ _ (db _)]
  have :(LI r.m).map (cout (R::Ls) t)=Ls:=by rw[<-hl];exact zx R Ls t
  rw[this]
 have hf:O.ren (cout (R::Ls) t) (r.fin (LI r.m))=r.fin Ls:=by
  unfold Lp.fin Lp.rc
  simp only[O.ren]
  rw[hr.renE _ _ (db _)]
  have :(LI r.m).map (cout (R::Ls) t)=Ls:=by rw[<-hl];exact zx R Ls t
  rw[this]
 simp only[CSpec.toSpec,e1,e2,iY,eV,fb,bH,fresh,List.all_nil,Bool.and_self,cz,and_self,cX,bW,List.getD_cons_zero,hf,hp,D.ren,D.renL]
theorem Y1{P:Program}{r:Lp}(hr:r.Ok){caps:List Name->List D}(vI:Fm r caps){g:Operand}{ps:Array Tmp}{asg body:Code}{σ:S}{rest:List Code}{K:Exit->S->Prop}(k k':Nat){f:FuncId}{Ls:List Name}
 (hc:ck σ g=true) (hg:ai σ g=.clo (.func f) [] (caps Ls)) (aq:f≠yid) (hs:ak P f (r.itC caps).toSpec) (lP:σ.obj (k::σ.pre)=none)
 (he:(List.range σ.nt).map σ.env=r.env Ls) (dU:ps.toList=r.ps) (ha:asg=r.asg) (hb:body=r.body) (hl:Ls.length=r.m) (hn:Ls.Nodup) (hR:(k::σ.pre)∉Ls) (hF:cS σ.obj Ls (r.fam Ls 0))
 (hK:∀ o:O,sk (fi (fun σ'=>CL P rest σ' K) K) { σ with obj:=upd (cg Ls (r.fam Ls r.e) σ.obj) (k::σ.pre) (some o) } r.pd):CL P (.rangeFunc g ps asg body::rest) σ K:=by
 subst ha
 subst hb
 generalize l3:k::σ.pre=R at *
 have Dz:∀ x∈Ls,(upd σ.obj R (some (r.rc Ls .ready none))) x=σ.obj x:=fun x hx=>aI _ _ _ (by rintro rfl;exact hR hx)
 have lY:=Lp.itC_app hr vI (t:=k'::σ.pre) hl hn hR (aD σ.obj R (some (r.rc Ls .ready none))) (HI hF Dz)
 have vk:O.loop ((List.range σ.nt).map σ.env) ps.toList r.asg r.body .ready none=r.rc Ls .ready none:=by unfold Lp.rc;rw[he,dU]
 have jM:dN (ai σ g) [.yld R]=.yld R::caps Ls:=by rw[hg];rfl
 have cA:eO (ai σ g)=some f:=by rw[hg];simp[eO,aq]
 have Cu:∀ (F:List O) (obj:Name->Option O) (a b:Option O),upd (cg Ls F (upd obj R a)) R b=upd (cg Ls F obj) R b:=by
  intro F obj a b
  funext x
  by_cases h:x=R
  ·subst h;rw[aD,aD]
  ·rw[aI _ _ _ h,aI _ _ _ h]
   have :∀ (Ls:List Name) (F:List O) (o1 o2:Name->Option O),o1 x=o2 x->cg Ls F o1 x=cg Ls F o2 x:=by
    intro Ls
    induction Ls with
    |nil=>intro F o1 o2 h;simpa[cg]using h
    |cons y ys ih=>
     intro F o1 o2 h
     cases F with
     |nil=>simpa[cg]using h
     |cons f fs=>
      simp only[cg]
      refine ih fs _ _ ?_
      by_cases e:x=y
      ·subst e;rw[aD,aD]
      ·rw[aI _ _ _ e,aI _ _ _ e,h]
   exact this Ls F _ _ (aI _ _ _ h)
 refine EI (Γ:=fun x=>if x=f then some (r.itC caps).toSpec else none) (fun x s hx=>by
  split at hx
  ·rename_i e;cases hx;subst e;exact hs
  ·cases hx) k k' hc cA aq (if_pos rfl) (by rw[l3];exact lP) ?_ ?_
 ·rw[l3,jM,vk,lY];trivial
 ·rw[l3,jM,vk,lY]
  have jJ:cg Ls (r.fam Ls r.e) (upd (upd σ.obj R (some (r.rc Ls .ready none))) R (some (r.fin Ls))) R=some (r.fin Ls):=by rw[oK hR,aD]
  have gP:iL (cg Ls (r.fam Ls r.e) (upd (upd σ.obj R (some (r.rc Ls .ready none))) R (some (r.fin Ls)))) R=
      upd (cg Ls (r.fam Ls r.e) σ.obj) R (some (r.rc Ls .exhausted r.pd)):=by
   unfold iL
   rw[jJ]
   unfold Lp.fin Lp.rc
   simp only[Cu]
  refine H4 r.pd jJ ?_
  rw[gP]
  exact hK (r.rc Ls .exhausted r.pd)
def gL(obj:Name->Option O)(L:List O):Name->Option O:=fun nm=>match aT L nm with | some o=>some o | none=>obj nm
theorem PA{L1 L2:List O}(h:L2.length=L1.length):gL (aT L1) L2=aT L2:=by
 funext nm
 unfold gL
 cases hx:cv nm with
 |false=>rw[uF hx,uF hx]
 |true=>
  obtain⟨i,rfl⟩:=sH.1 hx
  simp only[aT]
  by_cases hi:i<L2.length
  ·rw[List.getElem?_eq_getElem hi]
  ·rw[List.getElem?_eq_none (by omega),List.getElem?_eq_none (by omega)]
theorem BB(n:Nat)(p:Name)(F H:Name->Option O)(L:List O)(l:List (Nat×E))(h:List (Name×O)):
 aO n p (gL (fun nm=>if own p nm=true then F nm else H nm) L) l h=aO n p (gL H L) l h:=
 uQ fun nm hn=>by unfold gL;simp[hn]
theorem Fj(p:Name)(dom:Name->Bool)(F H:Name->Option O)(L:List O):
 bS p dom (gL (fun nm=>if own p nm=true then F nm else H nm) L)=bS p dom (gL H L):=by
 have e:∀ nm,own p nm=false->gL (fun nm=>if own p nm=true then F nm else H nm) L nm=gL H L nm:=fun nm hn=>by unfold gL;simp[hn]
 exact propext ⟨fun k nm q hn h=>k nm q hn (by rw[e nm hn];exact h),fun k nm q hn h=>k nm q hn (by rw[<-e nm hn];exact h)⟩
def Lp.I(r:Lp)(s:Nat):List O:=r.rc (LI r.m) .ready none::r.fam (LI r.m) s
theorem Lp.I_len{r:Lp}(hr:r.Ok)(s:Nat):(r.I s).length=r.m+1:=by unfold Lp.I;rw[List.length_cons,hr.len _ _ (db _)]
theorem Lp.I_clos{r:Lp}(hr:r.Ok)(s:Nat):∀ o∈r.I s,∀ dom:Name->Bool,(∀ i,dom [i,1]=true)->O.clos dom o=true:=by
 intro o ho dom hd
 have fc:∀ x∈LI r.m,dom x=true:=fun x hx=>by
  obtain⟨i,_,rfl⟩:=List.mem_map.1 hx
  exact hd _
 rcases List.mem_cons.1 ho with rfl | ho
 ·exact hr.closE _ _ (db _) fc
 ·exact hr.closF _ _ _ (db _) fc _ ho
theorem Lp.y_setU{r:Lp}(hr:r.Ok)(bY:∀ j,r.st j=none){s:Nat}(hs:s<r.n)(obj:Name->Option O)(tm:Name)(ho:∀ nm,cv nm=true->obj nm=aT (r.I s) nm):
 r.y.toSpec.app obj tm (.yld [0,1]::r.vals s)=⟨True,.v (.bool true),gL obj (r.I (s+1))⟩:=by
 have mX:(LI r.m).Nodup:=List.Pairwise.map _ (fun a b h=>by simpa using h) List.nodup_range
 have l3:([0,1]:Name)∉LI r.m:=fun h=>by
  obtain⟨i,_,hi⟩:=List.mem_map.1 h
  simp at hi
 have h0:obj [0,1]=some (r.rc (LI r.m) .ready none):=by
  rw[ho _ rfl];rfl
 have hF:cS obj (LI r.m) (r.fam (LI r.m) s):=by
  rw[iQ]
  refine List.ext_getElem (by rw[List.length_map,List.length_map,db,hr.len _ _ (db _)]) fun i h3 h4=>?_
  simp only[List.getElem_map,LI,List.getElem_range]
  rw[ho _ rfl]
  simp only[Lp.I,aT,List.getElem?_cons_succ]
  have h5:i<(r.fam (LI r.m) s).length:=by simpa using h4
  rw[List.getElem?_eq_getElem h5]
  rfl
 have lY:=Lp.y_app hr hs (fun j _=>bY j) (t:=tm) (db _) mX l3 h0 hF
 rw[lY,bY s]
 simp only[Option.isNone_none,if_true]
 congr 1
 funext nm
 have hlen:=hr.len (LI r.m) (s+1) (db _)
 by_cases hR:nm=[0,1]
 ·subst hR
  rw[aD]
  rfl
 ·rw[aI _ _ _ hR]
  unfold gL
  cases hx:cv nm with
  |false=>
   rw[uF hx,oK]
   intro eA
   obtain⟨i,_,rfl⟩:=List.mem_map.1 eA
   cases hx
  |true=>
   obtain⟨i,rfl⟩:=sH.1 hx
   have dM:=AQ (obj:=obj) (F:=r.fam (LI r.m) (s+1)) mX (by rw[db,hlen])
   match i,hR with
   | 0,hR=>exact(hR rfl).elim
   |i+1,_=>
    simp only[Lp.I,aT,List.getElem?_cons_succ]
    by_cases hi:i<r.m
    ·have h6:=xK dM i (by rw[db];exact hi) (by rw[hlen];exact hi)
     simp only[LI,List.getElem_map,List.getElem_range]at h6
     rw[show (r.fam (LI r.m) (s+1))[i]?=some (r.fam (LI r.m) (s+1))[i]from List.getElem?_eq_getElem (by rw[hlen];exact hi)]
     exact h6
    ·rw[List.getElem?_eq_none (by rw[hlen];omega),oK]
     intro eA
     obtain⟨j,lS,Db⟩:=List.mem_map.1 eA
     have :=List.mem_range.1 lS
     simp at Db
     omega
theorem Lp.go_e{r:Lp}(bY:∀ j,r.st j=none):r.e=r.n/\r.pd=none:=by
 have :(List.range r.n).find? (fun s=>(r.st s).isSome)=none:=List.find?_eq_none.2 fun s _=>by rw[bY s];decide
 unfold Lp.e Lp.pd
 rw[this]
 exact⟨rfl,rfl⟩
theorem Lp.go_end{P:Program}{r:Lp}(hr:r.Ok)(bY:∀ j,r.st j=none){σ:S}(dA:∀ i,σ.obj [i,1]=aT (r.I r.n) [i,1]):
 (bP P σ []).ok/\(bP P σ []).d=.tup []/\fL (r.rc (LI r.m) .ready none::r.fam (LI r.m) 0) ⟨(0,r.fin (LI r.m))::dW 1 (r.fam (LI r.m) r.e),[],.tup []⟩ σ:=by
 obtain⟨e1,e2⟩:=Lp.go_e bY
 refine Lp.it_end hr ?_ ?_
 ·rw[dA]
  unfold Lp.fin
  rw[e2]
  rfl
 ·rw[iQ,e1]
  refine List.ext_getElem (by rw[List.length_map,List.length_map,db,hr.len _ _ (db _)]) fun i h3 h4=>?_
  simp only[List.getElem_map,LI,List.getElem_range]
  rw[dA]
  simp only[Lp.I,aT,List.getElem?_cons_succ]
  have h5:i<(r.fam (LI r.m) r.n).length:=by simpa using h4
  rw[List.getElem?_eq_getElem h5]
  rfl
theorem Lp.itC_sound{P:Program}{r:Lp}(hr:r.Ok)(bY:∀ j,r.st j=none){caps:List Name->List D}{f:FuncId}{fn:Func}{nt:Nat}(hf:P.funcs[f]?=some fn)(ei:fn.ntmps=nt)(eH:fn.results.toList=[])(hn:(fn.name== "runtime.NumGoroutine")=false)(hy:f<1000000000)
 (hw:∃ c,fn.body=some c/\(caps (LI r.m)).length+1<=nt/\CL P [c] (aO nt [0] (aT (r.I 0)) (ef 0 (.yld [0,1]::caps (LI r.m))) []) (fun e σ=>(e=.normal\/e=.ret)/\∀ i,σ.obj [i,1]=aT (r.I r.n) [i,1])):ak P f (r.itC caps).toSpec:=by
 obtain⟨c,hc,hl,hw⟩:=hw
 refine mf hf hc ei eH (gG hf hc hn) (Nat.ne_of_lt (show f<yid from hy)) ?_
 rintro os ds ⟨rfl,rfl⟩
 refine⟨by simpa using hl,CW.mono (hU hw) ?_⟩
 rintro e σ ⟨he,dA⟩
 rcases he with rfl | rfl
 ·exact Lp.go_end hr bY dA
 ·exact Lp.go_end hr bY dA
theorem Lp.it_sound{P:Program}{r:Lp}(hr:r.Ok)(bY:∀ j,r.st j=none){caps:List V}{f:FuncId}{fn:Func}{nt:Nat}(hf:P.funcs[f]?=some fn)(ei:fn.ntmps=nt)(eH:fn.results.toList=[])(hn:(fn.name== "runtime.NumGoroutine")=false)(hy:f<1000000000)
 (hw:∃ c,fn.body=some c/\caps.length+1<=nt/\CL P [c] (aO nt [0] (aT (r.I 0)) (ef 0 (.yld [0,1]::caps.map .v)) []) (fun e σ=>(e=.normal\/e=.ret)/\∀ i,σ.obj [i,1]=aT (r.I r.n) [i,1])):ak P f (r.it caps).toSpec:=by
 obtain⟨c,hc,hl,hw⟩:=hw
 refine mf hf hc ei eH (gG hf hc hn) (Nat.ne_of_lt (show f<yid from hy)) ?_
 rintro os ds ⟨rfl,rfl⟩
 refine⟨by simpa using hl,CW.mono (hU hw) ?_⟩
 rintro e σ ⟨he,dA⟩
 rcases he with rfl | rfl
 ·exact Lp.go_end hr bY dA
 ·exact Lp.go_end hr bY dA
structure Ro (α:Type) where
 m:Nat
 fam:α->List Name->List O
 args:α->List Name->List D
 ok:α->Prop
 val:α->D
structure Ro.Ok {α:Type} (r:Ro α):Prop where
 len:∀ a Ls,Ls.length=r.m->(r.fam a Ls).length=r.m
 renF:∀ a f Ls,Ls.length=r.m->(r.fam a Ls).map (O.ren f)=r.fam a (Ls.map f)
 renA:∀ a f Ls,Ls.length=r.m->D.renL f (r.args a Ls)=r.args a (Ls.map f)
 reach:∀ a Ls obj,Ls.length=r.m->Ls.Nodup->cS obj Ls (r.fam a Ls)->reach obj (r.args a Ls)=Ls
 closF:∀ a dom Ls,Ls.length=r.m->(∀ x∈Ls,dom x=true)->∀ o∈r.fam a Ls,O.clos dom o=true
 closA:∀ a dom Ls,Ls.length=r.m->(∀ x∈Ls,dom x=true)->D.closL dom (r.args a Ls)=true
 det:∀ a b,r.ok a->r.ok b->r.fam a (LR r.m)=r.fam b (LR r.m)->r.args a (LR r.m)=r.args b (LR r.m)->r.val a=r.val b
 vcl:∀ a dom,D.clos dom (r.val a)=true
 vren:∀ a f,(r.val a).ren f=r.val a
variable {α:Type}
noncomputable def Ro.c(r:Ro α):CSpec where
 pre:=fun os ds=>∃ a,r.ok a/\os=r.fam a (LR r.m)/\ds=r.args a (LR r.m)
 out:=fun os ds=>⟨[],[],by classical exact if h:∃ a,r.ok a/\os=r.fam a (LR r.m)/\ds=r.args a (LR r.m)then r.val h.choose else .any⟩
theorem Ro.c_out{r:Ro α}(hr:r.Ok){a:α}(ha:r.ok a):r.c.out (r.fam a (LR r.m)) (r.args a (LR r.m))=⟨[],[],r.val a⟩:=by
 have h:∃ b,r.ok b/\r.fam a (LR r.m)=r.fam b (LR r.m)/\r.args a (LR r.m)=r.args b (LR r.m):=⟨a,ha,rfl,rfl⟩
 have e:r.val h.choose=r.val a:=(hr.det _ _ ha h.choose_spec.1 h.choose_spec.2.1 h.choose_spec.2.2).symm
 simp only[Ro.c]
 rw[dif_pos h,e]
theorem Ro.c_app{r:Ro α}(hr:r.Ok){a:α}(ha:r.ok a){obj:Name->Option O}{t:Name}{Ls:List Name}(hl:Ls.length=r.m)(hn:Ls.Nodup)(hF:cS obj Ls (r.fam a Ls)):
 r.c.toSpec.app obj t (r.args a Ls)=⟨True,r.val a,obj⟩:=by
 have iY:=hr.reach a Ls obj hl hn hF
 have y0:Ls.map (cin Ls)=LR r.m:=by rw[EK hn,hl]
 have e1:b8 obj (r.args a Ls)=r.fam a (LR r.m):=by
  unfold b8
  rw[iY]
  have vN:=hF
  rw[iQ]at vN
  have :Ls.map (bV Ls obj)=(r.fam a Ls).map (O.ren (cin Ls)):=by
   refine List.ext_getElem (by simp[hr.len _ _ hl,hl]) fun i h1 h2=>?_
   have h3:i<Ls.length:=by simpa using h1
   have h4:i<(r.fam a Ls).length:=by rw[hr.len _ _ hl,<-hl];exact h3
   have h5:=congrArg (fun l=>l[i]?) vN
   have h6:obj Ls[i]=some (r.fam a Ls)[i]:=by simpa[h3,h4]using h5
   simp only[List.getElem_map,bV,h6]
  rw[this,hr.renF _ _ _ hl,y0]
 have e2:cC obj (r.args a Ls)=r.args a (LR r.m):=by
  unfold cC
  rw[iY,hr.renA _ _ _ hl,y0]
 have gb:∀ x∈Ls,bX Ls x=true:=fun x hx=>fW.2 hx
 have fb:shut obj Ls=true:=by
  unfold shut
  rw[List.all_eq_true]
  intro x hx
  obtain⟨i,hi,rfl⟩:=List.getElem_of_mem hx
  have vN:=hF
  rw[iQ]at vN
  have h4:i<(r.fam a Ls).length:=by rw[hr.len _ _ hl,<-hl];exact hi
  have h5:=congrArg (fun l=>l[i]?) vN
  have h6:obj Ls[i]=some (r.fam a Ls)[i]:=by simpa[hi,h4]using h5
  rw[h6]
  exact hr.closF _ _ _ hl gb _ (List.getElem_mem h4)
 have cz:r.c.pre (r.fam a (LR r.m)) (r.args a (LR r.m)):=⟨a,ha,rfl,rfl⟩
 simp only[CSpec.toSpec,e1,e2,iY,Ro.c_out hr ha,fb,hr.closA _ _ _ hl gb,fresh,List.all_nil,Bool.and_self,cz,and_self,cX,bW,hr.vren]
def GC(P:Program)(rs:List ResultVar)(v:D)(H:Name->Option O)(e:Exit)(σ:S):Prop:=
 (e=.normal\/e=.ret)/\(bP P σ rs).ok/\(bP P σ rs).d=v/\∀ i,σ.obj [i,1]=H [i,1]
theorem HE{σ:S}:∀ {os:List O} {k:Nat},(∀ i (h:i<os.length),σ.obj [k+i,1]=some os[i])->qo σ [] k os
 |[],_,_=>trivial
 |o::r,k,h=>by
  refine⟨by have:=h 0 (by simp);simp only[Nat.add_zero,List.getElem_cons_zero]at this;exact this,HE fun i hi=>?_⟩
  have :=h (i+1) (by simpa using hi)
  rw[show k+1+i=k+(i+1)by omega]
  simpa using this
theorem Ro.sound{P:Program}{r:Ro α}(hr:r.Ok){f:FuncId}{fn:Func}{nt:Nat}{rs:List ResultVar}(hf:P.funcs[f]?=some fn)(ei:fn.ntmps=nt)(eH:fn.results.toList=rs)(hn:(fn.name== "runtime.NumGoroutine")=false)(hy:f<1000000000)
 (hw:∃ c,fn.body=some c/\∀ a,r.ok a->(r.args a (LR r.m)).length<=nt/\CL P [c] (aO nt [0] (aT (r.fam a (LR r.m))) (ef 0 (r.args a (LR r.m))) []) (GC P rs (r.val a) (aT (r.fam a (LR r.m))))):ak P f r.c.toSpec:=by
 obtain⟨c,hc,hw⟩:=hw
 refine mf hf hc ei eH (gG hf hc hn) (Nat.ne_of_lt (show f<yid from hy)) ?_
 rintro os ds ⟨a,ha,rfl,rfl⟩
 obtain⟨hl,h⟩:=hw a ha
 refine⟨hl,?_⟩
 rw[Ro.c_out hr ha]
 refine CW.mono (hU h) ?_
 rintro e σ ⟨he,h1,h2,h3⟩
 have fin:(bP P σ rs).ok/\(bP P σ rs).d=r.val a/\fL (r.fam a (LR r.m)) ⟨[],[],r.val a⟩ σ:=by
  refine⟨h1,h2,HE fun i hi=>?_,trivial,?_⟩
  ·rw[Nat.zero_add,h3]
   show (r.fam a (LR r.m))[i]?=_
   rw[List.getElem?_eq_getElem hi]
  ·simp[hr.vcl,distinct]
 rcases he with rfl | rfl
 ·exact fin
 ·exact fin
theorem Ro.outC{r:Ro α}(hr:r.Ok)(a:α):∀ hs,bS [0] (bK [0] hs) (aT (r.fam a (LR r.m)))=True:=fun hs=>eq_true (uG (fun o ho dom hd=>hr.closF a dom _ (tV _) (fun x hx=>by
 obtain⟨i,_,rfl⟩:=List.mem_map.1 hx
 exact hd i) o ho) hs)
open Go Go.Proofs
def gp(s:Stk):Prop:=s.ho.length*8<=140737488355328/\∀ i,i<6->(s.un.get i).length*16<=140737488355328
theorem du.sz{s:Stk}(h:du s):gp s:=⟨by have:=h.hol;omega,fun i hi=>by have:=h.unl i hi;omega⟩
theorem BD:∀ {a b:List V},a.map D.v=b.map D.v->a=b
 |[],[],_=>rfl
 |[],_::_,h=>by cases h
 |_::_,[],h=>by cases h
 |x::r,y::q,h=>by
  simp only[List.map_cons,List.cons.injEq,D.v.injEq]at h
  rw[h.1,BD h.2]
theorem sg(f:Name->Name):∀ l:List V,D.renL f (l.map .v)=l.map .v
 |[]=>rfl
 |x::r=>by
  rw[List.map_cons,D.renL,sg f r];rfl
theorem xP:∀ l:List V,cE (l.map .v)=[]
 |[]=>rfl
 |x::r=>by
  rw[List.map_cons,cE,xP r];rfl
theorem Bz{Ls:List Name}(h:Ls.length=1):∃ a,Ls=[a]:=by
 match Ls,h with
 |[a],_=>exact⟨a,rfl⟩
def jr:Ro (List V×Nat×Stk) where
 m:=1
 fam a _:=[.box (a.1.map .v)]
 args a Ls:=[.ref (Ls.headD [0,1]) a.2.1]
 ok a:=(a.1.drop a.2.1).take 19=ax a.2.2/\gp a.2.2
 val a:=.v (jg a.2.2)
theorem um:jr.Ok where
 len:=fun _ _ _=>rfl
 renF:=fun a f Ls _=>by simp only[jr,List.map_cons,List.map_nil,O.ren,sg]
 renA:=fun a f Ls h=>by
  obtain⟨n,rfl⟩:=Bz h
  rfl
 reach:=fun a Ls obj h _ hF=>by
  obtain⟨n,rfl⟩:=Bz h
  obtain⟨h1,_⟩:=hF
  have en:cE (jr.args a [n])=[n]:=rfl
  unfold Go.Eng.reach
  rw[en]
  show dm obj (2998+1+1) [n] []=[n]
  simp[dm,fW,h1,lH,xP]
 closF:=fun a dom Ls _ _ o ho=>by
  simp only[jr,List.mem_singleton]at ho
  subst ho
  exact pO _ _
 closA:=fun a dom Ls h hd=>by
  obtain⟨n,rfl⟩:=Bz h
  simp[jr,D.closL,D.clos,hd n (by simp)]
 det:=fun a b h1 h2 h3 h4=>by
  have e1:a.1=b.1:=BD (O.box.inj (List.cons.inj h3).1)
  have e2:a.2.1=b.2.1:=(D.ref.inj (List.cons.inj h4).1).2
  have e3:ax a.2.2=ax b.2.2:=by rw[<-h1.1,<-h2.1,e1,e2]
  have e4:a.2.2=b.2.2:=by rw[<-om a.2.2,e3,om]
  simp only[jr,e4]
 vcl:=fun _ _=>rfl
 vren:=fun _ _=>rfl
noncomputable def S59:Spec:=jr.c.toSpec
theorem XY(l:List V)(i:Nat):(l.map D.v).getD i .any=if i<l.length then .v (l.getD i default)else .any:=by
 by_cases h:i<l.length
 ·rw[if_pos h,je (by simpa using h),je h];simp
 ·rw[if_neg h];simp[List.getD,List.getElem?_eq_none (Nat.le_of_not_lt h)]
theorem EA{l:List V}{off:Nat}{s:Stk}(h:(l.drop off).take 19=ax s){i:Nat}(hi:i<19):(l.map D.v).getD (off+i) .any=.v ((ax s).getD i default):=by
 have hlen:19<=(l.drop off).length:=by
  have :=congrArg List.length h
  rw[List.length_take,jo]at this
  omega
 rw[List.length_drop]at hlen
 rw[XY,if_pos (by omega),<-h,je (show off+i<l.length by omega),je (by rw[List.length_take,List.length_drop];omega)]
 simp
theorem Me{l:List V}{off:Nat}{s:Stk}(h:(l.drop off).take 19=ax s):((l.map D.v).drop off).take 19=(ax s).map D.v:=by
 rw[<-h,List.map_take,List.map_drop]
theorem Ey{l:List V}{off:Nat}{s:Stk}(h:(l.drop off).take 19=ax s):off+19<=l.length:=by
 have :=congrArg List.length h
 rw[List.length_take,jo,List.length_drop]at this
 omega
@[go_sem] theorem adn(s:Stk):D.v (.sl (s.ho.map vInt))::List.drop 1 ((ax s).map D.v)=(ax s).map D.v:=rfl
theorem r9(s:Stk){i:Nat}(h:i<6):List.take (1+i) ((ax s).map D.v)++[D.v (.sl ((s.un.get i).map encPa))]++List.drop (1+i+1) ((ax s).map D.v)=(ax s).map D.v:=by
 match i,h with
 | 0,_=>rfl
 | 1,_=>rfl
 | 2,_=>rfl
 | 3,_=>rfl
 | 4,_=>rfl
 | 5,_=>rfl
theorem Mc{l:List V}{off:Nat}{s:Stk}(h:(l.drop off).take 19=ax s){i:Nat}(hi:i<6):(l.map D.v).getD (off+1+i) .any=.v (rowP (s.un.get i)):=by
 rw[Nat.add_assoc,EA h (show 1+i<19 by omega),cL s hi]
@[go_sem] theorem adp(s:Stk):List.take 19 ((ax s).map D.v)=(ax s).map D.v:=rfl
@[go_sem] theorem adq(s:Stk):((ax s).map D.v).length=19:=rfl
attribute [go_sem] GC
noncomputable def Oa:List (Nat×Spec):=[(76,S76),(77,S77)]
theorem N':∀ f s,tbl Oa f=some s->ak Tryz.prog f s:=tc Jx<|tc B4<|tn
attribute [go_sem] Oa
set_option maxHeartbeats 4000000 in
theorem uV:ak Tryz.prog 59 S59:=by
 refine Ro.sound um (rs:=[.cell 2 27]) Tryz.func59 Tryz.ntmps59 (by rfl) (by kernel_rfl) (by decide) ⟨_,rfl,?_⟩
 rintro⟨l,off,s⟩ ⟨gB,a8⟩
 refine⟨lb rfl,?_⟩
 have hΓ:=N'
 have hO:=Ro.outC um (l,off,s)
 have h0:aT (jr.fam (l,off,s) (LR jr.m)) [0,1]=some (.box (l.map .v)):=rfl
 generalize aT (jr.fam (l,off,s) (LR jr.m))=H at *
 have ha:jr.args (l,off,s) (LR jr.m)=[.ref [0,1] off]:=rfl
 have hv:jr.val (l,off,s)=.v (jg s):=rfl
 rw[ha,hv]
 simp only[ef,Nat.zero_add]at h0 |-
 replace gB:(l.drop off).take 19=ax s:=gB
 replace a8:gp s:=a8
 have hA:=Me gB
 have hB:=EA gB (show 0<19 by omega)
 have hL:=Ey gB
 have kj:(l.map D.v).getD off .any=.v (fa s.ho):=hB
 repeat refine sq ?_
 refine rx hΓ [0,2] [[2,0]] (fun K' hK=>by simp only[go_sem,hO,h0];(repeat (refine⟨ob,?_⟩));exact hK _ (by simp only[go_sem,hO,h0]) (by simp only[go_sem,hO,h0]<;>rfl)) ?_
 repeat refine sq ?_
 refine rx hΓ [0,2,3] [[2,0],[3,0]] (fun K' hK=>by simp only[go_sem,hO,h0,hA,hB,hL,List.length_map,List.append_nil,jo];(repeat (refine⟨ob,?_⟩));exact hK _ (by simp only[go_sem,hO,h0,hA,hB,hL,List.length_map,List.append_nil,jo]) (by simp only[go_sem,hO,h0,hA,hB,hL,List.length_map,List.append_nil,jo]<;>rfl)) ?_
 repeat refine sq ?_
 refine rx hΓ [0,2,3] [[2,0],[3,0]] (fun K' hK=>by simp only[go_sem,hO,h0,Nat.add_zero,kj,a8.1];(repeat (refine⟨ob,?_⟩));exact hK _ (by simp only[go_sem,hO,h0,Nat.add_zero,kj,a8.1]) (by simp only[go_sem,hO,h0,Nat.add_zero,kj,a8.1]<;>rfl)) ?_
 repeat refine sq ?_
 refine rx hΓ [0,2,3,14] [[2,0],[3,0]] (fun K' hK=>by simp only[go_sem,hO,h0];(repeat (refine⟨ob,?_⟩));exact hK _ (by simp only[go_sem,hO,h0]) (by simp only[go_sem,hO,h0]<;>rfl)) ?_
 repeat refine sq ?_
 refine aN ?_
 repeat refine sq ?_
 refine cB (fun z:Nat=>[(14,⟨true,.v (vInt z)⟩)]) (fun z=>[]) (fun z=>z<=6) (fun z=>6-z) 0 ?_ ?_ ?_ ?_
 ·exact Nat.zero_le _
 ·rfl
 ·rfl
 rintro i hi
 simp only[go_sem]
 repeat refine sq ?_
 refine rx hΓ [0,2,3,14,15] [[2,0],[3,0]] (fun K' hK=>by simp only[go_sem,hO,h0];(repeat (refine⟨ob,?_⟩));exact hK _ (by simp only[go_sem,hO,h0]) (by simp only[go_sem,hO,h0]<;>rfl)) ?_
 repeat refine sq ?_
 refine aw rfl rfl (fun hb=>?_) (fun hb=>?_)
 ·have ae:i<6:=by have hq:(i:Int)<6:=(by simpa using hb);omega
  have aj:(i:Int)<6:=by omega
  clear hb
  have hC:=Mc gB ae
  have gw:=a8.2 i ae
  repeat refine sq ?_
  refine ay ?_
  repeat refine sq ?_
  refine aN ?_
  repeat refine sq ?_
  refine rx hΓ [0,2,3,4,14] [[2,0],[3,0]] (fun K' hK=>by simp only[go_sem,hO,h0,Int.toNat_natCast,Int.natCast_nonneg,aj];(repeat (refine⟨ob,?_⟩));exact hK _ (by simp only[go_sem,hO,h0,Int.toNat_natCast,Int.natCast_nonneg,aj]) (by simp only[go_sem,hO,h0,Int.toNat_natCast,Int.natCast_nonneg,aj]<;>rfl)) ?_
  repeat refine sq ?_
  refine aS hΓ fun K' hK=>?_
  simp only[go_sem,hO,h0,Int.toNat_natCast,Int.natCast_nonneg,aj,hC,gw,r9 s ae,Int.toNat_natCast,Int.natCast_nonneg,aj]
  repeat (refine⟨ob,?_⟩)
  refine hK _ ?_
  clear K' hK
  simp only[go_sem]
  refine jT [0,2,3,14] [[2,0],[3,0]] ?_ ?_
  ·simp only[go_sem,hO,h0]
  simp only[go_sem,hO,h0]
  repeat refine sq ?_
  refine aS hΓ fun K' hK=>?_
  simp only[go_sem,hO,h0,Int.toNat_natCast,Int.natCast_nonneg,aj]
  repeat (refine⟨ob,?_⟩)
  refine hK _ ?_
  clear K' hK
  simp only[go_sem]
  refine⟨i+1,ae,by(show 6-(i+1)<6-i;omega),?_⟩
  refine bk [0,2,3,14] [[2,0],[3,0]] ?_ ?_
  ·simp only[go_sem,aE ae (lb rfl:(6:Nat)<=maxLen),Int.natCast_add,Int.natCast_one,r9 s ae,hO,h0]
  ·simp only[go_sem,aE ae (lb rfl:(6:Nat)<=maxLen),Int.natCast_add,Int.natCast_one,r9 s ae,hO,h0]
 ·have aX:i=6:=by
   have :¬ (i:Int)<6:=by simpa using hb
   omega
  clear hb
  subst aX
  repeat refine sq ?_
  refine b7 ?_
  simp only[go_sem]
  refine jT [2,3] [[2,0],[3,0]] ?_ ?_
  ·simp only[go_sem,hO,h0]
  simp only[go_sem,hO,h0]
  repeat refine sq ?_
  refine rx hΓ [2] [[2,0]] (fun K' hK=>by simp only[go_sem,hO,h0,List.append_nil];(repeat (refine⟨ob,?_⟩));exact hK _ (by simp only[go_sem,hO,h0,List.append_nil]) (by simp only[go_sem,hO,h0,List.append_nil]<;>rfl)) ?_
  refine aF (bo [2,0] (ax s) rfl [2] [[2,0]] ?_ rfl) ?_
  ·simp only[go_sem,hO,h0]
  simp only[go_sem,hO,h0]
  refine ar ?_
  simp only[go_sem,hO,h0]
  exact .inr trivial
end Go.Eng
