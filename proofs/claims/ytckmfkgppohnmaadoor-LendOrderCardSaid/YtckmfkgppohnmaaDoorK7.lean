import Derived.Test.YtckmfkgppohnmaaDoorK6
import Derived.Laws.Bits64
/- Texts NW16 to NW49. -/
set_option linter.all false
namespace Go.Eng
open Go Go.Proofs
theorem Nc(d:Nat)(a b:Int):jG Tryd.prog (d+1) 3 (vInt a) (vInt b)=some (a==b):=by
 simp only[jG,Tryd.underlying3,if_true]
theorem YP:Tryd.prog.stoodInHeld 75=false:=by kernel_rfl
theorem ZV:Tryd.prog.eqGuardType Tryd.prog.depth 75=false:=by kernel_rfl
theorem aaj(d:Nat)(a b a' b':Int):jG Tryd.prog (d+2) 75 (.agg [vInt a,vInt b]) (.agg [vInt a',vInt b'])=some (a==a'&&b==b'):=by
 unfold jG
 simp only[Tryd.underlying75,YP,Bool.false_eq_true,if_false,so,pA,GZ,List.getElem?_cons_zero,List.getElem?_cons_succ,Nc]
 cases a==a'<;>cases b==b'<;>rfl
@[go_sem] theorem ah'(obj:Name->Option O)(op:BinOp)(a b a' b':Int):lL Tryd.prog obj op 75 (.agg [vInt a,vInt b]) (.agg [vInt a',vInt b'])=
    ⟨op=.eql\/op=.neq,.v (.bool (if op=.eql then(a==a'&&b==b')else !(a==a'&&b==b'))),obj⟩:=by
  unfold lL
  rw[show Op.maxDepth=9998+2 from rfl,aaj]
  simp only[ZV,true_and]
theorem ZW:Tryd.prog.eqGuardType Tryd.prog.depth 37=false:=by kernel_rfl
def qf(a b:aR Int):Bool:=a.a==b.a&&(a.b==b.b&&(a.c==b.c&&(a.d==b.d&&(a.e==b.e&&a.f==b.f))))
theorem aal{a b:aR Int}:qf a b=true↔a=b:=by
 obtain⟨a0,a1,a2,a3,a4,a5⟩:=a
 obtain⟨b0,b1,b2,b3,b4,b5⟩:=b
 simp[qf]
theorem aak(d:Nat)(a b:aR Int):jG Tryd.prog (d+2) 37 (.agg ((a.L id).map vInt)) (.agg ((b.L id).map vInt))=some (qf a b):=by
 obtain⟨a0,a1,a2,a3,a4,a5⟩:=a
 obtain⟨b0,b1,b2,b3,b4,b5⟩:=b
 unfold jG
 simp only[Tryd.underlying37,GZ,List.range',uM,aR.L,List.map_cons,List.map_nil,id,pA,Nat.zero_mul,Nat.one_mul,Nat.mul_one,Nat.reduceAdd,List.getElem?_cons_zero,List.getElem?_cons_succ,Nc,qf]
 cases a0==b0<;>cases a1==b1<;>cases a2==b2<;>cases a3==b3<;>cases a4==b4<;>cases a5==b5<;>rfl
@[go_sem] theorem aia(obj:Name->Option O)(op:BinOp)(a b:aR Int):lL Tryd.prog obj op 37 (.agg ((a.L id).map vInt)) (.agg ((b.L id).map vInt))=
    ⟨op=.eql\/op=.neq,.v (.bool (if op=.eql then qf a b else !qf a b)),obj⟩:=by
  unfold lL
  rw[show Op.maxDepth=9998+2 from rfl,aak]
  simp only[ZW,true_and]
def vq{α:Type}(a b:List α)(n:Nat):Prop:=∀ j (h:j<a.length) (h':j<b.length),j<n->a[j]=b[j]
theorem Hw{α:Type}{a b:List α}{i:Nat}(h:vq a b i)(hi:∀ (h:i<a.length) (h':i<b.length),a[i]=b[i]):vq a b (i+1):=by
 intro j hj eT nB
 rcases Nat.lt_succ_iff_lt_or_eq.1 nB with h1 | rfl
 ·exact h j hj eT h1
 ·exact hi hj eT
theorem Hy{α:Type}{a b:List α}(hl:a.length=b.length)(h:vq a b a.length):a=b:=List.ext_getElem hl fun j h1 h2=>h j h1 h2 h1
theorem Ii{a b:Par}:(!(a.no==b.no&&a.pa==b.pa))=false↔a=b:=by
 obtain⟨a0,a1⟩:=a
 obtain⟨b0,b1⟩:=b
 simp
noncomputable def P34:PSpec:=p2 dJ dJ (fun _ _=>True) (fun a b=>.bool (decide (a=b))) true
noncomputable def S34:Spec:=P34.toSpec
attribute [go_sem] P34 S34
set_option maxHeartbeats 4000000 in
theorem SO:aZ Tryd.prog 26 P34:=by
 refine w2 (rs:=[.tmp 4]) Tryd.func26 Tryd.ntmps26 (by rfl) (by kernel_rfl) (by decide) (fun _ _ _=>rfl) ⟨_,rfl,lb rfl,fun a b hp hw=>?_⟩
 have hP:=br
 simp only[dJ]at hw |-
 have hΓ:=@kE Tryd.prog
 have hl:a.length<=maxLen:=by have:=hw.1.1;simpa using this
 repeat refine sq ?_
 refine rs hΓ [0,1] [] ?_
 repeat refine sq ?_
 refine rs hΓ [0,1,10] [] ?_
 repeat refine sq ?_
 refine aD rfl rfl (fun hb=>?_) (fun hb=>?_)
 ·repeat refine sq ?_
  have bV:a≠b:=by
   rintro rfl
   simp at hb
  repeat refine sq ?_
  refine rs hΓ [4] [] ?_
  refine ax ?_
  simp only[go_sem]
  rw[decide_eq_false bV]
 ·repeat refine sq ?_
  have Ey:a.length=b.length:=by
   have :(a.length:Int)=b.length:=by simpa using hb
   omega
  clear hb
  refine aI ?_
  repeat refine sq ?_
  refine rs hΓ [0,1,5] [] ?_
  repeat refine sq ?_
  refine a8 ?_
  repeat refine sq ?_
  refine dR (fun s:Nat=>[(5,⟨true,.v (vInt s)⟩)]) (fun s=>[]) (fun s=>s<=a.length/\vq a b s) (fun s=>a.length-s) 0 ?_ ?_ ?_ ?_
  ·exact⟨Nat.zero_le _,fun j _ _ h=>by omega⟩
  ·rfl
  ·rfl
  rintro i ⟨hi,hR⟩
  simp only[go_sem]
  repeat refine sq ?_
  refine rs hΓ [0,1,5,14] [] ?_
  repeat refine sq ?_
  refine aD rfl rfl (fun hb=>?_) (fun hb=>?_)
  ·have ae:i<a.length:=by simpa using hb
   have aq:(i:Int)<a.length:=by omega
   clear hb
   have rV:(i:Int)<b.length:=by omega
   have Yq:i<b.length:=by omega
   repeat refine sq ?_
   refine aI ?_
   repeat refine sq ?_
   refine a8 ?_
   repeat refine sq ?_
   refine dx hΓ hP [[],[],[0,1],[0,1,2],[],[],[4,5],[4,5,6],[0,1,2,3,4,5,6,7]] [0,1,5,25] [] (by kernel_rfl) (fun K' hK=>by simp only[go_sem,aK ae,aK (show i<b.length by omega),Int.toNat_natCast,Int.natCast_nonneg,aq,rV];(repeat (refine⟨ob,?_⟩));(first | refine⟨by rfl,?_⟩ | skip);exact hK _ (by simp only[go_sem]) (by simp only[go_sem]<;>rfl)) ?_
   repeat refine sq ?_
   refine aD rfl rfl (fun hb=>?_) (fun hb=>?_)
   ·repeat refine sq ?_
    have bV:a≠b:=by
     rintro rfl
     simp at hb
    repeat refine sq ?_
    refine rx hΓ [4] [] (fun K' hK=>by simp only[go_sem,aK ae,aK (show i<b.length by omega),Int.toNat_natCast,Int.natCast_nonneg,aq,rV];(repeat (refine⟨ob,?_⟩));exact hK _ (by simp only[go_sem]) (by simp only[go_sem]<;>rfl)) ?_
    refine ax ?_
    simp only[go_sem]
    rw[decide_eq_false bV]
   ·repeat refine sq ?_
    refine aI ?_
    refine eo ?_
    simp only[go_sem]
    refine kp [0,1,5] [] ?_
    repeat refine sq ?_
    refine bc hΓ fun K' hK=>?_
    simp only[go_sem,aK ae,aK (show i<b.length by omega),Int.toNat_natCast,Int.natCast_nonneg,aq,rV]
    repeat (refine⟨ob,?_⟩)
    refine hK _ ?_
    clear K' hK
    simp only[go_sem]
    refine⟨i+1,⟨ae,?_⟩,by(show a.length-(i+1)<a.length-i;omega),?_⟩
    ·exact Hw hR fun _ _=>by first | exact Ii.1 hb | simpa using hb
    refine bJ [0,1,5] [] ?_ ?_
    ·simp only[go_sem,aM ae hl,Int.natCast_add,Int.natCast_one]
    ·simp only[go_sem,aM ae hl,Int.natCast_add,Int.natCast_one]
  ·have bo:i=a.length:=by
    have :¬ (i:Int)<a.length:=by simpa using hb
    omega
   clear hb
   subst bo
   repeat refine sq ?_
   refine di ?_
   simp only[go_sem]
   refine kp [] [] ?_
   repeat refine sq ?_
   refine rs hΓ [4] [] ?_
   refine ax ?_
   simp only[go_sem]
   rw[decide_eq_true (Hy Ey hR)]
theorem WO:ak Tryd.prog 26 S34:=SO.sound
noncomputable def P75:PSpec:=p2 kG kG (fun _ _=>True) (fun a b=>.bool (decide (a=b))) true
noncomputable def S75:Spec:=P75.toSpec
attribute [go_sem] P75 S75
set_option maxHeartbeats 4000000 in
theorem Sv:aZ Tryd.prog 64 P75:=by
 refine w2 (rs:=[.tmp 4]) Tryd.func64 Tryd.ntmps64 (by rfl) (by kernel_rfl) (by decide) (fun _ _ _=>rfl) ⟨_,rfl,lb rfl,fun a b hp hw=>?_⟩
 have hP:=br
 simp only[kG]at hw |-
 have hΓ:=@kE Tryd.prog
 have hl:a.length<=maxLen:=by have:=hw.1.1;simpa using this
 repeat refine sq ?_
 refine rs hΓ [0,1] [] ?_
 repeat refine sq ?_
 refine rs hΓ [0,1,10] [] ?_
 repeat refine sq ?_
 refine aD rfl rfl (fun hb=>?_) (fun hb=>?_)
 ·repeat refine sq ?_
  have bV:a≠b:=by
   rintro rfl
   simp at hb
  repeat refine sq ?_
  refine rs hΓ [4] [] ?_
  refine ax ?_
  simp only[go_sem]
  rw[decide_eq_false bV]
 ·repeat refine sq ?_
  have Ey:a.length=b.length:=by
   have :(a.length:Int)=b.length:=by simpa using hb
   omega
  clear hb
  refine aI ?_
  repeat refine sq ?_
  refine rs hΓ [0,1,5] [] ?_
  repeat refine sq ?_
  refine a8 ?_
  repeat refine sq ?_
  refine dR (fun s:Nat=>[(5,⟨true,.v (vInt s)⟩)]) (fun s=>[]) (fun s=>s<=a.length/\vq a b s) (fun s=>a.length-s) 0 ?_ ?_ ?_ ?_
  ·exact⟨Nat.zero_le _,fun j _ _ h=>by omega⟩
  ·rfl
  ·rfl
  rintro i ⟨hi,hR⟩
  simp only[go_sem]
  repeat refine sq ?_
  refine rs hΓ [0,1,5,14] [] ?_
  repeat refine sq ?_
  refine aD rfl rfl (fun hb=>?_) (fun hb=>?_)
  ·have ae:i<a.length:=by simpa using hb
   have aq:(i:Int)<a.length:=by omega
   clear hb
   have rV:(i:Int)<b.length:=by omega
   have Yq:i<b.length:=by omega
   repeat refine sq ?_
   refine aI ?_
   repeat refine sq ?_
   refine a8 ?_
   repeat refine sq ?_
   refine dx hΓ hP [[],[],[0,1],[0,1,2],[],[],[4,5],[4,5,6],[0,1,2,3,4,5,6,7]] [0,1,5,25] [] (by kernel_rfl) (fun K' hK=>by simp only[go_sem,aK ae,aK (show i<b.length by omega),Int.toNat_natCast,Int.natCast_nonneg,aq,rV];(repeat (refine⟨ob,?_⟩));(first | refine⟨by rfl,?_⟩ | skip);exact hK _ (by simp only[go_sem]) (by simp only[go_sem]<;>rfl)) ?_
   repeat refine sq ?_
   refine aD rfl rfl (fun hb=>?_) (fun hb=>?_)
   ·repeat refine sq ?_
    have bV:a≠b:=by
     rintro rfl
     simp at hb
    repeat refine sq ?_
    refine rx hΓ [4] [] (fun K' hK=>by simp only[go_sem,aK ae,aK (show i<b.length by omega),Int.toNat_natCast,Int.natCast_nonneg,aq,rV];(repeat (refine⟨ob,?_⟩));exact hK _ (by simp only[go_sem]) (by simp only[go_sem]<;>rfl)) ?_
    refine ax ?_
    simp only[go_sem]
    rw[decide_eq_false bV]
   ·repeat refine sq ?_
    refine aI ?_
    refine eo ?_
    simp only[go_sem]
    refine kp [0,1,5] [] ?_
    repeat refine sq ?_
    refine bc hΓ fun K' hK=>?_
    simp only[go_sem,aK ae,aK (show i<b.length by omega),Int.toNat_natCast,Int.natCast_nonneg,aq,rV]
    repeat (refine⟨ob,?_⟩)
    refine hK _ ?_
    clear K' hK
    simp only[go_sem]
    refine⟨i+1,⟨ae,?_⟩,by(show a.length-(i+1)<a.length-i;omega),?_⟩
    ·exact Hw hR fun _ _=>by first | exact Ii.1 hb | simpa using hb
    refine bJ [0,1,5] [] ?_ ?_
    ·simp only[go_sem,aM ae hl,Int.natCast_add,Int.natCast_one]
    ·simp only[go_sem,aM ae hl,Int.natCast_add,Int.natCast_one]
  ·have bo:i=a.length:=by
    have :¬ (i:Int)<a.length:=by simpa using hb
    omega
   clear hb
   subst bo
   repeat refine sq ?_
   refine di ?_
   simp only[go_sem]
   refine kp [] [] ?_
   repeat refine sq ?_
   refine rs hΓ [4] [] ?_
   refine ax ?_
   simp only[go_sem]
   rw[decide_eq_true (Hy Ey hR)]
theorem KH:ak Tryd.prog 64 S75:=Sv.sound
noncomputable def PX:List (Nat×Spec):=[(26,S34),(64,S75)]
theorem aiy:∀ f s,tbl PX f=some s->ak Tryd.prog f s:=tc WO<|tc KH<|tn
attribute [go_sem] PX
theorem ae9{a b:Stk}(h:a.un=b.un):decide (a=b)=(decide (a.ho=b.ho)&&(qf a.se b.se&&qf a.ta b.ta)):=by
 obtain⟨h1,u1,s1,t1⟩:=a
 obtain⟨h2,u2,s2,t2⟩:=b
 simp only at h
 subst h
 rw[Bool.eq_iff_iff]
 simp[aal]
theorem abI{a b:Bag}:decide (a=b)=((a.fr==b.fr&&a.to==b.to&&a.ta==b.ta)&&decide (a.ps=b.ps)):=by
 obtain⟨f1,t1,p1,x1⟩:=a
 obtain⟨f2,t2,p2,x2⟩:=b
 rw[Bool.eq_iff_iff]
 simp only[decide_eq_true_eq,Bool.and_eq_true,Bag.mk.injEq,beq_iff_eq]
 constructor
 ·rintro⟨h1,h2,h3,h4⟩;exact⟨⟨⟨h1,h2⟩,h4⟩,h3⟩
 ·rintro⟨⟨⟨h1,h2⟩,h4⟩,h3⟩;exact⟨h1,h2,h3,h4⟩
noncomputable def PW:List (Nat×Spec):=[(64,S75)]
theorem acC:∀ f s,tbl PW f=some s->ak Tryd.prog f s:=tc KH<|tn
attribute [go_sem] PW
noncomputable def P33:PSpec:=p2 nr nr (fun _ _=>True) (fun a b=>.bool (decide (a=b))) true
noncomputable def S33:Spec:=P33.toSpec
attribute [go_sem] P33 S33
set_option maxHeartbeats 4000000 in
theorem SP:aZ Tryd.prog 33 P33:=by
 refine w2 (rs:=[.tmp 4]) Tryd.func33 Tryd.ntmps33 (by rfl) (by kernel_rfl) (by decide) (fun _ _ _=>rfl) ⟨_,rfl,lb rfl,fun a b hp hw=>?_⟩
 have hP:=br
 simp only[nr]at hw |-
 have hΓ:=acC
 repeat refine sq ?_
 refine rs hΓ [2,3] [[2,0],[3,0]] ?_
 refine bq (dS [2,0] (aX a) rfl [2,3] [[2,0],[3,0]] ?_ rfl) ?_
 ·simp only[go_sem]
 simp only[go_sem]
 refine bq (dS [3,0] (aX b) rfl [2,3] [[2,0],[3,0]] ?_ rfl) ?_
 ·simp only[go_sem]
 simp only[go_sem]
 repeat refine sq ?_
 refine rs hΓ [4] [] ?_
 refine ax ?_
 simp only[go_sem]
 rw[abI];congr 1;rw[Bool.eq_iff_iff];simp[and_assoc]
theorem k33:ak Tryd.prog 33 S33:=SP.sound
theorem Ag(d:Dk){i:Nat}(h:i<2):(an d).getD (20+i*21) default=vInt (d.pg i).co:=by
 match i,h with
 | 0,_=>rfl
 | 1,_=>rfl
theorem agI(d:Dk){i:Nat}(h:i<2):(an d).getD (20+i*21+20) default=vInt (d.pg i).su:=by
 match i,h with
 | 0,_=>rfl
 | 1,_=>rfl
theorem Fw(d:Dk){i:Nat}(h:i<2):((an d).drop (20+i*21+1)).take 19=aA (d.pg i).st:=by
 match i,h with
 | 0,_=>rfl
 | 1,_=>rfl
theorem afy{a b:Pg}(h1:a.co=b.co)(h2:a.su=b.su)(h3:a.st=b.st):a=b:=by
 obtain⟨a1,a2,a3⟩:=a
 obtain⟨b1,b2,b3⟩:=b
 simp only at h1 h2 h3
 subst h1 h2 h3
 rfl
theorem agx{a b:Dk}(h:∀ j,j<2->a.pg j=b.pg j):decide (a=b)=((a.me==b.me&&a.wet==b.wet)&&decide (a.now=b.now)):=by
 have h0:=h 0 (by omega)
 have h1:=h 1 (by omega)
 obtain⟨m1,n1,p1,q1,w1⟩:=a
 obtain⟨m2,n2,p2,q2,w2⟩:=b
 simp only[Dk.pg]at h0 h1
 subst h0 h1
 rw[Bool.eq_iff_iff]
 simp only[decide_eq_true_eq,Bool.and_eq_true,Dk.mk.injEq,beq_iff_eq,true_and]
 constructor
 ·rintro⟨h1,h2,h3⟩;exact⟨⟨h1,h3⟩,h2⟩
 ·rintro⟨⟨h1,h3⟩,h2⟩;exact⟨h1,h2,h3⟩
noncomputable def PV:List (Nat×Spec):=[]
theorem aix:∀ f s,tbl PV f=some s->ak Tryd.prog f s:=tn
attribute [go_sem] PV
def fq(d:Dk)(i:Nat)(o:Int):Bool:=(((i:Int) != d.wet)&&aE d.me (d.pg i))&&(decide (o<0)||decide ((d.pg i).co>(d.pg o.toNat).co))
def cf(d:Dk):Nat->Int
 | 0=> -1
 |i+1=>if fq d i (cf d i)=true then i else cf d i
def be(d:Dk):Int:=cf d 2
theorem E7(d:Dk):∀ i,-1<=cf d i/\cf d i<i
 | 0=>⟨by show (-1:Int)<= -1;omega,by show (-1:Int)<0;omega⟩
 |i+1=>by
  have h:=E7 d i
  unfold cf
  split
  ·exact⟨by omega,by omega⟩
  ·exact⟨h.1,by omega⟩
theorem aav(d:Dk):((an d).drop 20).take 42=cC d.pa++cC d.pb:=rfl
theorem TB(d:Dk){i:Nat}(h:i<2):((cC d.pa++cC d.pb).drop (i*21)).take 21=cC (d.pg i):=by
 match i,h with
 | 0,_=>rfl
 | 1,_=>rfl
theorem TA(d:Dk){i:Nat}(h:i<2):i*21+21<=(cC d.pa++cC d.pb).length:=by
 show i*21+21<=42
 omega
theorem agJ(d:Dk){i:Nat}(h:i<2):((an d).drop (20+i*21)).take 21=cC (d.pg i):=by
 match i,h with
 | 0,_=>rfl
 | 1,_=>rfl
theorem wU{d:Dk}{i:Nat}(h:fq d i (cf d i)=true):cf d (i+1)=i:=if_pos h
theorem Ab{d:Dk}{i:Nat}(h:fq d i (cf d i)=false):cf d (i+1)=cf d i:=if_neg (by rw[h];decide)
noncomputable def PU:List (Nat×Spec):=[(69,S90)]
theorem acB:∀ f s,tbl PU f=some s->ak Tryd.prog f s:=tc CN<|tn
attribute [go_sem] PU
noncomputable def P58:PSpec:=p1 dK (fun _=>True) (fun d=>vInt (be d)) true
noncomputable def S58:Spec:=P58.toSpec
attribute [go_sem] P58 S58
set_option maxHeartbeats 4000000 in
theorem SD:aZ Tryd.prog 45 P58:=by
 refine w1 (rs:=[.tmp 2]) Tryd.func45 Tryd.ntmps45 (by rfl) (by kernel_rfl) (by decide) (fun _ _=>rfl) ⟨_,rfl,lb rfl,fun d hp hw=>?_⟩
 have hP:=br
 simp only[dK]at hw |-
 have hΓ:=acB
 repeat refine sq ?_
 refine rs hΓ [1] [[1,0]] ?_
 refine bq (dS [1,0] (an d) rfl [1] [[1,0]] ?_ rfl) ?_
 ·simp only[go_sem]
 simp only[go_sem]
 repeat refine sq ?_
 refine rs hΓ [1,3] [[1,0]] ?_
 repeat refine sq ?_
 refine rx hΓ [1,3,7,8] [[1,0]] (fun K' hK=>by simp only[go_sem,aav];(repeat (refine⟨ob,?_⟩));exact hK _ (by simp only[go_sem]) (by simp only[go_sem]<;>rfl)) ?_
 repeat refine sq ?_
 refine a8 ?_
 repeat refine sq ?_
 refine dR (fun z:Nat=>[(8,⟨true,.v (vInt z)⟩),(3,⟨true,.v (vInt (cf d z))⟩)]) (fun z=>[]) (fun z=>z<=2) (fun z=>2-z) 0 ?_ ?_ ?_ ?_
 ·exact Nat.zero_le _
 ·rfl
 ·rfl
 rintro i hi
 simp only[go_sem]
 repeat refine sq ?_
 refine rs hΓ [1,3,7,8,9] [[1,0]] ?_
 repeat refine sq ?_
 refine aD rfl rfl (fun hb=>?_) (fun hb=>?_)
 ·have ae:i<2:=by have hq:(i:Int)<2:=(by simpa using hb);omega
  have aq:(i:Int)<2:=by omega
  clear hb
  have b9:=TA d ae
  repeat refine sq ?_
  refine aI ?_
  repeat refine sq ?_
  refine a8 ?_
  repeat refine sq ?_
  refine rx hΓ [1,3,4,5,7,8] [[1,0],[5,0]] (fun K' hK=>by simp only[go_sem,Int.toNat_natCast,Int.natCast_nonneg,aq,TB d ae,b9,Int.toNat_natCast,Int.natCast_nonneg,aq,List.append_nil];(repeat (refine⟨ob,?_⟩));exact hK _ (by simp only[go_sem]) (by simp only[go_sem]<;>rfl)) ?_
  refine bq (dS [5,0] (cC (d.pg i)) rfl [1,3,4,5,7,8] [[1,0],[5,0]] ?_ rfl) ?_
  ·simp only[go_sem]
  simp only[go_sem]
  rcases ho:decide (cf d i<0)with _ | _
  ·have hr:=E7 d i
   have j5:0<=cf d i:=by have:=of_decide_eq_false ho;omega
   have gT:cf d i<2:=by omega
   have zt:(cf d i).toNat<2:=by omega
   have oK:fq d i (cf d i)=((((i:Int) != d.wet)&&aE d.me (d.pg i))&&decide ((d.pg i).co>(d.pg (cf d i).toNat).co)):=by unfold fq;rw[ho,Bool.false_or]
   repeat refine sq ?_
   refine dx hΓ hP [[],[],[1],[0,1,2],[0,1,2,3],[0,1,2,3,4],[0,1,2,3,4,5],[0,1,2,3,4],[0,1,2,3,4,5,6,7],[0,1,2,3,4,5,6,7,8],[0,1,2,3,4,5,6,7,8,9],[0,1,2,3,4,5,6,7,8,9,10],[0,1,2,3,4,5,6,7,8,9,10,11],[0,1,2,3,4,5,6,7,8,9,10,11,12],[0,1,2,3,4,5,6,7,8,9,10,11,12,13],[0,1,2,3,4,5,6,7,8,9,10,11,12,13,14],[0,1,2,3,4,5,6,7,8,9,10,11,12,13],[0,1,2,3,4,5,6,7,8,9,10,11,12,13],[0,1,2,3,4,5,6,7,8,9,10,11,12,13,16,17],[0,1,2,3,4,5,6,7,8,9,10,11,12,13,16,17,18],[0,1,2,3,4,5,6,7,8,9,10,11,12,13,16,17,18,19],[0,1,2,3,4,5,6,7,8,9,10,11,12,13,14,15,16,17,18,19,20],[0,1,2,3,4,5,6,7,8,9,10,11,12,13,14,15,16,17,18,19,20,21],[0,1,2,3,4,5,6,7,8,9,10,11,12,13,14,15,16,17,18,19,20,21,22]] [1,3,4,7,8,35] [[1,0]] (by kernel_rfl) (fun K' hK=>by simp only[go_sem,Int.toNat_natCast,Int.natCast_nonneg,aq,ho,j5,gT,Ag d zt,Nat.add_zero];(repeat (refine⟨ob,?_⟩));(first | refine⟨by rfl,?_⟩ | skip);exact hK _ (by simp only[go_sem]) (by simp only[go_sem]<;>rfl)) ?_
   repeat refine sq ?_
   refine aD rfl rfl (fun hb=>?_) (fun hb=>?_)
   ·repeat refine sq ?_
    have e:=wU (oK.trans (by simpa[Bool.and_assoc]using hb))
    repeat refine sq ?_
    refine bc hΓ fun K' hK=>?_
    simp only[go_sem,Int.toNat_natCast,Int.natCast_nonneg,aq,ho,j5,gT,Ag d zt,Nat.add_zero]
    repeat (refine⟨ob,?_⟩)
    refine hK _ ?_
    clear K' hK
    simp only[go_sem]
    refine kp [1,3,7,8] [[1,0]] ?_
    repeat refine sq ?_
    refine bc hΓ fun K' hK=>?_
    simp only[go_sem,Int.toNat_natCast,Int.natCast_nonneg,aq,ho,j5,gT,Ag d zt,Nat.add_zero]
    repeat (refine⟨ob,?_⟩)
    refine hK _ ?_
    clear K' hK
    simp only[go_sem]
    refine⟨i+1,ae,by(show 2-(i+1)<2-i;omega),?_⟩
    refine bJ [1,3,7,8] [[1,0]] ?_ ?_
    ·simp only[go_sem,aM ae (lb rfl:(2:Nat)<=maxLen),Int.natCast_add,Int.natCast_one,e]
    ·simp only[go_sem,aM ae (lb rfl:(2:Nat)<=maxLen),Int.natCast_add,Int.natCast_one,e]
   ·repeat refine sq ?_
    have e:=Ab (oK.trans (by simpa[Bool.and_assoc]using hb))
    refine aI ?_
    refine eo ?_
    simp only[go_sem]
    refine kp [1,3,7,8] [[1,0]] ?_
    repeat refine sq ?_
    refine bc hΓ fun K' hK=>?_
    simp only[go_sem,Int.toNat_natCast,Int.natCast_nonneg,aq,ho,j5,gT,Ag d zt,Nat.add_zero]
    repeat (refine⟨ob,?_⟩)
    refine hK _ ?_
    clear K' hK
    simp only[go_sem]
    refine⟨i+1,ae,by(show 2-(i+1)<2-i;omega),?_⟩
    refine bJ [1,3,7,8] [[1,0]] ?_ ?_
    ·simp only[go_sem,aM ae (lb rfl:(2:Nat)<=maxLen),Int.natCast_add,Int.natCast_one,e]
    ·simp only[go_sem,aM ae (lb rfl:(2:Nat)<=maxLen),Int.natCast_add,Int.natCast_one,e]
  ·have oK:fq d i (cf d i)=(((i:Int) != d.wet)&&aE d.me (d.pg i)):=by unfold fq;rw[ho,Bool.true_or,Bool.and_true]
   repeat refine sq ?_
   refine dx hΓ hP [[],[],[1],[0,1,2],[0,1,2,3],[0,1,2,3,4],[0,1,2,3,4,5],[0,1,2,3,4],[0,1,2,3,4,5,6,7],[0,1,2,3,4,5,6,7,8],[0,1,2,3,4,5,6,7,8,9],[0,1,2,3,4,5,6,7,8,9,10],[0,1,2,3,4,5,6,7,8,9,10,11],[0,1,2,3,4,5,6,7,8,9,10,11,12],[0,1,2,3,4,5,6,7,8,9,10,11,12,13],[0,1,2,3,4,5,6,7,8,9,10,11,12,13,14],[0,1,2,3,4,5,6,7,8,9,10,11,12,13],[0,1,2,3,4,5,6,7,8,9,10,11,12,13],[0,1,2,3,4,5,6,7,8,9,10,11,12,13,16,17],[0,1,2,3,4,5,6,7,8,9,10,11,12,13,16,17,18],[0,1,2,3,4,5,6,7,8,9,10,11,12,13,16,17,18,19],[0,1,2,3,4,5,6,7,8,9,10,11,12,13,14,15,16,17,18,19,20],[0,1,2,3,4,5,6,7,8,9,10,11,12,13,14,15,16,17,18,19,20,21],[0,1,2,3,4,5,6,7,8,9,10,11,12,13,14,15,16,17,18,19,20,21,22]] [1,3,4,7,8,35] [[1,0]] (by kernel_rfl) (fun K' hK=>by simp only[go_sem,Int.toNat_natCast,Int.natCast_nonneg,aq,ho];(repeat (refine⟨ob,?_⟩));(first | refine⟨by rfl,?_⟩ | skip);exact hK _ (by simp only[go_sem]) (by simp only[go_sem]<;>rfl)) ?_
   repeat refine sq ?_
   refine aD rfl rfl (fun hb=>?_) (fun hb=>?_)
   ·repeat refine sq ?_
    have e:=wU (oK.trans (by simpa using hb))
    repeat refine sq ?_
    refine bc hΓ fun K' hK=>?_
    simp only[go_sem,Int.toNat_natCast,Int.natCast_nonneg,aq,ho]
    repeat (refine⟨ob,?_⟩)
    refine hK _ ?_
    clear K' hK
    simp only[go_sem]
    refine kp [1,3,7,8] [[1,0]] ?_
    repeat refine sq ?_
    refine bc hΓ fun K' hK=>?_
    simp only[go_sem,Int.toNat_natCast,Int.natCast_nonneg,aq,ho]
    repeat (refine⟨ob,?_⟩)
    refine hK _ ?_
    clear K' hK
    simp only[go_sem]
    refine⟨i+1,ae,by(show 2-(i+1)<2-i;omega),?_⟩
    refine bJ [1,3,7,8] [[1,0]] ?_ ?_
    ·simp only[go_sem,aM ae (lb rfl:(2:Nat)<=maxLen),Int.natCast_add,Int.natCast_one,e]
    ·simp only[go_sem,aM ae (lb rfl:(2:Nat)<=maxLen),Int.natCast_add,Int.natCast_one,e]
   ·repeat refine sq ?_
    have e:=Ab (oK.trans (by simpa using hb))
    refine aI ?_
    refine eo ?_
    simp only[go_sem]
    refine kp [1,3,7,8] [[1,0]] ?_
    repeat refine sq ?_
    refine bc hΓ fun K' hK=>?_
    simp only[go_sem,Int.toNat_natCast,Int.natCast_nonneg,aq,ho]
    repeat (refine⟨ob,?_⟩)
    refine hK _ ?_
    clear K' hK
    simp only[go_sem]
    refine⟨i+1,ae,by(show 2-(i+1)<2-i;omega),?_⟩
    refine bJ [1,3,7,8] [[1,0]] ?_ ?_
    ·simp only[go_sem,aM ae (lb rfl:(2:Nat)<=maxLen),Int.natCast_add,Int.natCast_one,e]
    ·simp only[go_sem,aM ae (lb rfl:(2:Nat)<=maxLen),Int.natCast_add,Int.natCast_one,e]
 ·have bo:i=2:=by
   have :¬ (i:Int)<2:=by simpa using hb
   omega
  clear hb
  subst bo
  repeat refine sq ?_
  refine di ?_
  simp only[go_sem]
  refine kp [3] [] ?_
  repeat refine sq ?_
  refine rs hΓ [2] [] ?_
  refine ax ?_
  simp only[go_sem]
  first | rfl
theorem yU:ak Tryd.prog 45 S58:=SD.sound
noncomputable def PS:List (Nat×Spec):=[(85,S45)]
theorem aiw:∀ f s,tbl PS f=some s->ak Tryd.prog f s:=tc KO<|tn
attribute [go_sem] PS
structure eL (d:Dk):Prop where
 now:jN d.now
 pg:∀ i,i<2->jN (d.pg i).st
def sr(d:Dk)(z:Nat):Dk:=⟨d.me,d.now,if 0<z then d.pa else zP,if 1<z then d.pb else zP,d.wet⟩
theorem agz(d:Dk):sr d 2=d:=rfl
theorem agy(d:Dk){i:Nat}(h:i<2):List.take (20+i*21) (List.map D.v (an (sr d i)))++List.map D.v (cC ⟨(d.pg i).co,(d.pg i).st,(d.pg i).su⟩)++List.drop (20+i*21+21) (List.map D.v (an (sr d i)))=List.map D.v (an (sr d (i+1))):=by
 match i,h with
 | 0,_=>rfl
 | 1,_=>rfl
noncomputable def PF:List (Nat×Spec):=[]
theorem aio:∀ f s,tbl PF f=some s->ak Tryd.prog f s:=tn
attribute [go_sem] PF
theorem aau(d:Dk):List.take 1 (List.map D.v (an d))++List.map D.v (aA d.now)++List.drop 20 (List.map D.v (an d))=List.map D.v (an d):=rfl
theorem Fu(d:Dk){i:Nat}(h:i<2):List.take (20+i*21+1) (List.map D.v (an d))++List.map D.v (aA (d.pg i).st)++List.drop (20+i*21+1+19) (List.map D.v (an d))=List.map D.v (an d):=by
 match i,h with
 | 0,_=>rfl
 | 1,_=>rfl
def IL(d:Dk):List (Name×O):=[([22,0],.box ((an d).map .v))]
def IM(_:Dk):D:=.ref [22,0] 0
attribute [go_sem] IL IM
noncomputable def PE:List (Nat×Spec):=[(37,S59)]
theorem acx:∀ f s,tbl PE f=some s->ak Tryd.prog f s:=tc vN<|tn
attribute [go_sem] PE
noncomputable def AZ:NSpec:=n1 dK (fun d=>eL d) IL IM
noncomputable def S53:Spec:=AZ.toSpec
attribute [go_sem] AZ S53
set_option maxHeartbeats 4000000 in
theorem CU:ak Tryd.prog 43 S53:=by
 refine IV (nt:=23) (rs:=[.tmp 2]) Tryd.func43 rfl (by rfl) (by kernel_rfl) (by kernel_rfl) (by decide) ?_
 intro xs hp
 obtain⟨d,rfl,hp,oJ,iK⟩:=I0 hp
 replace oJ:AZ.new _=_:=oJ
 replace iK:AZ.d _=_:=iK
 rw[oJ,iK]
 clear oJ iK
 refine⟨lb rfl,?_⟩
 have hP:=br
 simp only[iI,iB,dJ,iI,iB,tT,dJ,vO,kG,iD,ru,dK,nr,C6,iC,iF,encPa,nI,wZ,kS,kT,List.map_cons,List.map_nil,fc,Nat.zero_add]
 have hΓ:=acx
 have hs:eL d:=hp
 have pR:=hs.now
 have EO:∀ (F:Name->Option O) (t:Name),F [1,0]=some (.box ((an d).map .v))->S59.app (fun nm=>if own [0] nm=true then F nm else none) t [.ref [1,0] 1]=⟨True,.v (.agg (aA d.now)),fun nm=>if own [0] nm=true then F nm else none⟩:=fun F t h=>pv (s:=d.now) (L:=an d) (off:=1) h (uN d) pR
 repeat refine sq ?_
 refine rx hΓ [1] [[1,0]] (fun K' hK=>by simp only[go_sem];(repeat (refine⟨ai,?_⟩));exact hK _ (by simp only[go_sem]) (by simp only[go_sem]<;>rfl)) ?_
 repeat refine sq ?_
 refine rx hΓ [1] [[1,0]] (fun K' hK=>by simp only[go_sem,EO,aau];(repeat (refine⟨ai,?_⟩));exact hK _ (by simp only[go_sem]) (by simp only[go_sem]<;>rfl)) ?_
 repeat refine sq ?_
 refine rx hΓ [1,7] [[1,0]] (fun K' hK=>by simp only[go_sem];(repeat (refine⟨ai,?_⟩));exact hK _ (by simp only[go_sem]) (by simp only[go_sem]<;>rfl)) ?_
 repeat refine sq ?_
 refine a8 ?_
 repeat refine sq ?_
 refine dR (fun z:Nat=>[(7,⟨true,.v (vInt z)⟩)]) (fun z=>[]) (fun z=>z<=2) (fun z=>2-z) 0 ?_ ?_ ?_ ?_
 ·exact Nat.zero_le _
 ·rfl
 ·rfl
 rintro i hi
 simp only[go_sem]
 repeat refine sq ?_
 refine rx hΓ [1,7,8] [[1,0]] (fun K' hK=>by simp only[go_sem];(repeat (refine⟨ai,?_⟩));exact hK _ (by simp only[go_sem]) (by simp only[go_sem]<;>rfl)) ?_
 repeat refine sq ?_
 refine aD rfl rfl (fun hb=>?_) (fun hb=>?_)
 ·have ae:i<2:=by have hq:(i:Int)<2:=(by simpa using hb);omega
  have aq:(i:Int)<2:=by omega
  clear hb
  have EN:∀ (F:Name->Option O) (t:Name),F [1,0]=some (.box ((an d).map .v))->S59.app (fun nm=>if own [0] nm=true then F nm else none) t [.ref [1,0] (20+i*21+1)]=⟨True,.v (.agg (aA (d.pg i).st)),fun nm=>if own [0] nm=true then F nm else none⟩:=fun F t h=>pv (s:=(d.pg i).st) (L:=an d) (off:=20+i*21+1) h (Fw d ae) (hs.pg i ae)
  repeat refine sq ?_
  refine aI ?_
  repeat refine sq ?_
  refine a8 ?_
  repeat refine sq ?_
  refine rx hΓ [1,3,7] [[1,0]] (fun K' hK=>by simp only[go_sem,Int.toNat_natCast,Int.natCast_nonneg,aq];(repeat (refine⟨ai,?_⟩));exact hK _ (by simp only[go_sem]) (by simp only[go_sem]<;>rfl)) ?_
  repeat refine sq ?_
  refine bc hΓ fun K' hK=>?_
  simp only[go_sem,Int.toNat_natCast,Int.natCast_nonneg,aq,EN,Fu d ae,Int.toNat_natCast,Int.natCast_nonneg,aq]
  repeat (refine⟨ai,?_⟩)
  refine hK _ ?_
  clear K' hK
  simp only[go_sem]
  refine kp [1,7] [[1,0]] ?_
  repeat refine sq ?_
  refine bc hΓ fun K' hK=>?_
  simp only[go_sem,Int.toNat_natCast,Int.natCast_nonneg,aq]
  repeat (refine⟨ai,?_⟩)
  refine hK _ ?_
  clear K' hK
  simp only[go_sem]
  refine⟨i+1,ae,by(show 2-(i+1)<2-i;omega),?_⟩
  refine bJ [1,7] [[1,0]] ?_ ?_
  ·simp only[go_sem,aM ae (lb rfl:(2:Nat)<=maxLen),Int.natCast_add,Int.natCast_one,Fu d ae]
  ·simp only[go_sem,aM ae (lb rfl:(2:Nat)<=maxLen),Int.natCast_add,Int.natCast_one,Fu d ae]
 ·have bo:i=2:=by
   have :¬ (i:Int)<2:=by simpa using hb
   omega
  clear hb
  subst bo
  repeat refine sq ?_
  refine di ?_
  simp only[go_sem]
  refine kp [1] [[1,0]] ?_
  repeat refine sq ?_
  refine rx hΓ [2] [[22,0]] (fun K' hK=>by simp only[go_sem,List.append_nil];(repeat (refine⟨ai,?_⟩));exact hK _ (by simp only[go_sem]) (by simp only[go_sem]<;>rfl)) ?_
  refine ax ?_
  simp only[go_sem]
  skip
theorem EZ(d:Dk):∀ i,cf d i= -1\/aE d.me (d.pg (cf d i).toNat)=true
 | 0=>.inl rfl
 |i+1=>by
  cases h:fq d i (cf d i)with
  |false=>rw[Ab h];exact EZ d i
  |true=>
   rw[wU h]
   refine .inr ?_
   unfold fq at h
   simp only[Bool.and_eq_true]at h
   rw[Int.toNat_natCast]
   exact h.1.2
theorem Tx{me:Int}{p:Pg}(h:aE me p=true):eH p.st:=by
 unfold aE at h
 simp only[Bool.and_eq_true]at h
 exact tD h.1.2
def aN(d:Dk):Stk:=(d.pg (be d).toNat).st
theorem oW{d:Dk}(h:av d=true):0<=be d/\be d<2/\(be d).toNat<2/\eH (aN d):=by
 have hr:=E7 d 2
 have aj:be d≠ -1:=by
  intro he
  have h1:fq d 1 (cf d 1)=false:=by
   cases hc:fq d 1 (cf d 1)with
   |false=>rfl
   |true=>
    have h2:cf d 2=((1:Nat):Int):=wU hc
    have h3:cf d 2= -1:=he
    rw[h2]at h3
    exact absurd h3 (by decide)
  have e1:cf d 1= -1:=by rw[<-Ab h1];exact he
  have h0:fq d 0 (cf d 0)=false:=by
   cases hc:fq d 0 (cf d 0)with
   |false=>rfl
   |true=>
    have h2:cf d 1=((0:Nat):Int):=wU hc
    rw[e1]at h2
    exact absurd h2 (by decide)
  rw[e1]at h1
  have a0:(((0:Int) != d.wet)&&aE d.me d.pa)=false:=by simpa[fq,cf,Dk.pg]using h0
  have a1:(((1:Int) != d.wet)&&aE d.me d.pb)=false:=by simpa[fq,Dk.pg]using h1
  unfold av im at h
  simp only[Bool.and_eq_true]at h
  obtain⟨⟨_,hi⟩,hw⟩:=h
  have hi:=ck.1 hi
  have gR:d.wet<0\/d.wet=0\/d.wet=1:=by omega
  rcases gR with hn | hz | ho
  ·rw[mU hn]at hw
   have b0:((0:Int) != d.wet)=true:=by simp;omega
   have b1:((1:Int) != d.wet)=true:=by simp;omega
   rw[b0,Bool.true_and]at a0
   rw[b1,Bool.true_and]at a1
   rw[a0,a1]at hw
   simp at hw
  ·rw[pn hz]at hw
   rw[hz]at a1
   have Gn:aE d.me d.pb=false:=a1
   rw[Gn]at hw
   simp at hw
  ·rw[pj ho]at hw
   rw[ho]at a0
   have a0':aE d.me d.pa=false:=a0
   rw[a0']at hw
   simp at hw
 have hi:0<=be d:=by
  have h1:cf d 2≠ -1:=aj
  show 0<=cf d 2
  omega
 have wB:be d<2:=hr.2
 refine⟨hi,wB,by omega,?_⟩
 rcases EZ d 2 with h1 | h1
 ·exact absurd h1 aj
 ·exact Tx h1
theorem ss{d:Dk}(h:(iQ d != 0)=false):av d=true:=by
 cases hb:av d with
 |true=>rfl
 |false=>rw[kg hb]at h;exact absurd h (by decide)
theorem sv{d:Dk}(h:(iQ d != 0)=true):av d=false:=by
 cases hb:av d with
 |false=>rfl
 |true=>rw[ed hb]at h;exact absurd h (by decide)
def uh(d:Dk):List Int:=if av d=true then d.now.ho else[]
theorem rM{d:Dk}(h:av d=true):uh d=d.now.ho:=if_pos h
theorem LA{d:Dk}(h:av d=false):uh d=[]:=if_neg (by rw[h];decide)
theorem yx{d:Dk}(h:av d=true):eH d.now:=by
 unfold av im at h
 simp only[Bool.and_eq_true]at h
 exact tD h.1.1
@[go_sem] theorem agM(d:Dk):(an d).getD 1 default=gx d.now.ho:=rfl
noncomputable def PQ:List (Nat×Spec):=[(39,S23),(36,S77)]
theorem acA:∀ f s,tbl PQ f=some s->ak Tryd.prog f s:=tc pK<|tc CS<|tn
attribute [go_sem] PQ
noncomputable def P28:PSpec:=p1 dK (fun _=>True) (fun d=>.tup [.sl ((uh d).map vInt),vInt (iQ d)]) false
noncomputable def S28:Spec:=P28.toSpec
attribute [go_sem] P28 S28
set_option maxHeartbeats 4000000 in
theorem SQ:aZ Tryd.prog 13 P28:=by
 refine w1 (rs:=[.tmp 2,.tmp 3]) Tryd.func13 Tryd.ntmps13 (by rfl) (by kernel_rfl) (by decide) (fun h=>by cases h) ⟨_,rfl,lb rfl,fun d hp hw=>?_⟩
 have hP:=br
 simp only[dK]at hw |-
 have hΓ:=acA
 repeat refine sq ?_
 refine rx hΓ [1] [[1,0]] (fun K' hK=>by simp only[go_sem];(repeat (refine⟨ai,?_⟩));exact hK _ (by simp only[go_sem]) (by simp only[go_sem]<;>rfl)) ?_
 refine bq (dS [1,0] (an d) rfl [1] [[1,0]] ?_ rfl) ?_
 ·simp only[go_sem]
 simp only[go_sem]
 repeat refine sq ?_
 refine rx hΓ [1,4] [[1,0]] (fun K' hK=>by simp only[go_sem];(repeat (refine⟨ai,?_⟩));exact hK _ (by simp only[go_sem]) (by simp only[go_sem]<;>rfl)) ?_
 repeat refine sq ?_
 refine rx hΓ [1,4,8] [[1,0]] (fun K' hK=>by simp only[go_sem];(repeat (refine⟨ai,?_⟩));exact hK _ (by simp only[go_sem]) (by simp only[go_sem]<;>rfl)) ?_
 repeat refine sq ?_
 refine aD rfl rfl (fun hb=>?_) (fun hb=>?_)
 ·repeat refine sq ?_
  have hd:=sv hb
  repeat refine sq ?_
  refine rx hΓ [2,3] [] (fun K' hK=>by simp only[go_sem];(repeat (refine⟨ai,?_⟩));exact hK _ (by simp only[go_sem]) (by simp only[go_sem]<;>rfl)) ?_
  refine ax ?_
  simp only[go_sem]
  first | (rw[LA hd];rfl) | (rw[rM hd,ed hd];done) | (rw[rM hd,ed hd];rfl)
 ·repeat refine sq ?_
  have hd:=ss hb
  have hz:d.now.ho.length*8<=140737488355328:=(yx hd).sz.1
  refine aI ?_
  repeat refine sq ?_
  refine rx hΓ [2,3] [] (fun K' hK=>by simp only[go_sem,Nat.add_zero,hz];(repeat (refine⟨ai,?_⟩));exact hK _ (by simp only[go_sem]) (by simp only[go_sem]<;>rfl)) ?_
  refine ax ?_
  simp only[go_sem]
  first | (rw[LA hd];rfl) | (rw[rM hd,ed hd];done) | (rw[rM hd,ed hd];rfl)
theorem WQ:ak Tryd.prog 13 S28:=SQ.sound
noncomputable def PO:List (Nat×Spec):=[(77,S39)]
theorem aiv:∀ f s,tbl PO f=some s->ak Tryd.prog f s:=tc rj<|tn
attribute [go_sem] PO
def M1(d:Dk):Stk:=if av d=true then aN d else zS
theorem agm{d:Dk}(h:av d=true):M1 d=aN d:=if_pos h
theorem agn{d:Dk}(h:av d=false):M1 d=zS:=if_neg (by rw[h];decide)
theorem E0{d:Dk}(h:av d=true):((an d).drop (20+(be d).toNat*21+1)).take 19=aA (aN d):=Fw d (oW h).2.2.1
theorem agh{d:Dk}(h:av d=true):∀ (F:Name->Option O) (t:Name),F [1,0]=some (.box ((an d).map .v))->S59.app (fun nm=>if own [0] nm=true then F nm else none) t [.ref [1,0] (20+(be d).toNat*21+1)]=⟨True,.v (.agg (aA (aN d))),fun nm=>if own [0] nm=true then F nm else none⟩:=
 fun F t hF=>pv (s:=aN d) (L:=an d) hF (E0 h) (oW h).2.2.2.sz
@[go_sem] theorem afc(s:Stk):((aA s).map D.v).drop 19=[]:=rfl
noncomputable def PN:List (Nat×Spec):=[(39,S23),(45,S58),(37,S59)]
theorem aiu:∀ f s,tbl PN f=some s->ak Tryd.prog f s:=tc pK<|tc yU<|tc vN<|tn
attribute [go_sem] PN
noncomputable def PM:List (Nat×Spec):=[(77,S39)]
theorem ait:∀ f s,tbl PM f=some s->ak Tryd.prog f s:=tc rj<|tn
attribute [go_sem] PM
def dF(d:Dk)(t:Int):Bool:=aT t 0 5&&(t != d.me)
def lE(d:Dk)(t:Int):Bool:=av d&&dF d t
def gv(d:Dk)(t:Int):Int:=if av d=true then(if dF d t=true then 0 else 94)else 92
theorem AS{d:Dk}{t:Int}(h:av d=false):gv d t=92:=if_neg (by rw[h];decide)
theorem xn{d:Dk}{t:Int}(h:av d=true)(k:dF d t=false):gv d t=94:=by unfold gv;rw[if_pos h,if_neg (by rw[k];decide)]
theorem qq{d:Dk}{t:Int}(h:av d=true)(k:dF d t=true):gv d t=0:=by unfold gv;rw[if_pos h,if_pos k]
theorem QP(d:Dk)(t:Int):(!aT t 0 5||(t==d.me))=!dF d t:=by
 unfold dF
 have :(t != d.me)=!(t==d.me):=rfl
 rw[this]
 cases aT t 0 5<;>cases (t==d.me)<;>rfl
theorem OV{d:Dk}{t:Int}(h:(gv d t != 0)=false):av d=true/\dF d t=true:=by
 cases h1:av d with
 |false=>rw[AS h1]at h;exact absurd h (by decide)
 |true=>
  cases h2:dF d t with
  |false=>rw[xn h1 h2]at h;exact absurd h (by decide)
  |true=>exact⟨rfl,rfl⟩
theorem OU{d:Dk}{t:Int}(h:(gv d t != 0)=true):lE d t=false:=by
 unfold lE
 cases h1:av d with
 |false=>rfl
 |true=>
  cases h2:dF d t with
  |false=>rfl
  |true=>rw[qq h1 h2]at h;exact absurd h (by decide)
theorem Bc{d:Dk}{t:Int}(h:dF d t=true):0<=t/\t<6/\t.toNat<6:=by
 unfold dF at h
 simp only[Bool.and_eq_true]at h
 have :=ck.1 h.1
 exact⟨by omega,by omega,by omega⟩
noncomputable def PL:List (Nat×Spec):=[(39,S23),(34,S82)]
theorem acz:∀ f s,tbl PL f=some s->ak Tryd.prog f s:=tc pK<|tc yR<|tn
attribute [go_sem] PL
noncomputable def P51:PSpec:=p2 dK iI (fun _ _=>True) (fun d t=>vInt (gv d t)) true
noncomputable def S51:Spec:=P51.toSpec
attribute [go_sem] P51 S51
set_option maxHeartbeats 4000000 in
theorem SH:aZ Tryd.prog 41 P51:=by
 refine w2 (rs:=[.tmp 4]) Tryd.func41 Tryd.ntmps41 (by rfl) (by kernel_rfl) (by decide) (fun _ _ _=>rfl) ⟨_,rfl,lb rfl,fun d t hp hw=>?_⟩
 have hP:=br
 simp only[dK,iI]at hw |-
 have hΓ:=acz
 repeat refine sq ?_
 refine rx hΓ [1,2] [[2,0]] (fun K' hK=>by simp only[go_sem];(repeat (refine⟨ai,?_⟩));exact hK _ (by simp only[go_sem]) (by simp only[go_sem]<;>rfl)) ?_
 refine bq (dS [2,0] (an d) rfl [1,2] [[2,0]] ?_ rfl) ?_
 ·simp only[go_sem]
 simp only[go_sem]
 repeat refine sq ?_
 refine rx hΓ [1,2,5] [[2,0]] (fun K' hK=>by simp only[go_sem];(repeat (refine⟨ai,?_⟩));exact hK _ (by simp only[go_sem]) (by simp only[go_sem]<;>rfl)) ?_
 repeat refine sq ?_
 refine rx hΓ [1,2,5,9] [[2,0]] (fun K' hK=>by simp only[go_sem];(repeat (refine⟨ai,?_⟩));exact hK _ (by simp only[go_sem]) (by simp only[go_sem]<;>rfl)) ?_
 repeat refine sq ?_
 refine aD rfl rfl (fun hb=>?_) (fun hb=>?_)
 ·repeat refine sq ?_
  have hd:=sv hb
  have e1:=kg hd
  repeat refine sq ?_
  refine rx hΓ [4] [] (fun K' hK=>by simp only[go_sem];(repeat (refine⟨ai,?_⟩));exact hK _ (by simp only[go_sem]) (by simp only[go_sem]<;>rfl)) ?_
  refine ax ?_
  simp only[go_sem]
  first | (rw[AS hd,e1];done) | (rw[xn hd hk];done) | (rw[qq hd hk];done)
 ·repeat refine sq ?_
  have hd:=ss hb
  refine aI ?_
  repeat refine sq ?_
  refine rx hΓ [19] [] (fun K' hK=>by simp only[go_sem,QP];(repeat (refine⟨ai,?_⟩));exact hK _ (by simp only[go_sem]) (by simp only[go_sem]<;>rfl)) ?_
  repeat refine sq ?_
  refine aD rfl rfl (fun hb=>?_) (fun hb=>?_)
  ·repeat refine sq ?_
   have hk:dF d t=false:=by simpa using hb
   repeat refine sq ?_
   refine rx hΓ [4] [] (fun K' hK=>by simp only[go_sem];(repeat (refine⟨ai,?_⟩));exact hK _ (by simp only[go_sem]) (by simp only[go_sem]<;>rfl)) ?_
   refine ax ?_
   simp only[go_sem]
   first | (rw[AS hd,e1];done) | (rw[xn hd hk];done) | (rw[qq hd hk];done)
  ·repeat refine sq ?_
   have hk:dF d t=true:=by simpa using hb
   refine aI ?_
   repeat refine sq ?_
   refine rx hΓ [4] [] (fun K' hK=>by simp only[go_sem];(repeat (refine⟨ai,?_⟩));exact hK _ (by simp only[go_sem]) (by simp only[go_sem]<;>rfl)) ?_
   refine ax ?_
   simp only[go_sem]
   first | (rw[AS hd,e1];done) | (rw[xn hd hk];done) | (rw[qq hd hk];done)
theorem CV:ak Tryd.prog 41 S51:=SH.sound
noncomputable def PK:List (Nat×Spec):=[(77,S39),(90,S84)]
theorem ais:∀ f s,tbl PK f=some s->ak Tryd.prog f s:=tc rj<|tc yQ<|tn
attribute [go_sem] PK
theorem NO{l:List V}{off:Nat}{s:Stk}(h:(l.drop off).take 19=aA s){i:Nat}(hi:i<19):l.getD (off+i) default=(aA s).getD i default:=by
 have hlen:=FH h
 rw[<-h,jF (show off+i<l.length by omega),jF (by rw[List.length_take,List.length_drop];omega)]
 simp
def GR(d:Dk)(t:Int):List Int:=(d.now.un.get t.toNat).map Par.pa
def GP(d:Dk)(t:Int):List Int:=if lE d t=true then GR d t else[]
theorem acP{d:Dk}{t:Int}(h:av d=true)(k:dF d t=true):GP d t=GR d t:=if_pos (by unfold lE;rw[h,k];rfl)
theorem acQ{d:Dk}{t:Int}(h:lE d t=false):GP d t=[]:=if_neg (by rw[h];decide)
def qV(l:List Par)(z:Nat):List Int:=(l.take z).map Par.pa
theorem afF{l:List Par}{z:Nat}(h:z<l.length):qV l (z+1)=qV l z++[l[z].pa]:=by
 unfold qV
 rw[List.take_add_one,List.getElem?_eq_getElem h,List.map_append]
 rfl
theorem afG{l:List Par}{z:Nat}(h:z<=l.length):(qV l z).length=z:=by
 unfold qV
 rw[List.length_map,List.length_take]
 omega
theorem afH(l:List Par):qV l l.length=l.map Par.pa:=by
 unfold qV
 rw[List.take_length]
theorem aay(d:Dk){i:Nat}(h:i<6):(an d).getD (1+1+i) default=rowP (d.now.un.get i):=by
 match i,h with
 | 0,_=>rfl
 | 1,_=>rfl
 | 2,_=>rfl
 | 3,_=>rfl
 | 4,_=>rfl
 | 5,_=>rfl
noncomputable def PJ:List (Nat×Spec):=[(41,S51)]
theorem air:∀ f s,tbl PJ f=some s->ak Tryd.prog f s:=tc CV<|tn
attribute [go_sem] PJ
noncomputable def PI:List (Nat×Spec):=[]
theorem aiq:∀ f s,tbl PI f=some s->ak Tryd.prog f s:=tn
attribute [go_sem] PI
def iZ(d:Dk)(t:Int):Bag:=if lE d t=true then⟨d.me,t,(aN d).un.get t.toNat,(aN d).ta.get t.toNat⟩else⟨0,0,[],0⟩
theorem yb{d:Dk}{t:Int}(h:av d=true)(k:dF d t=true):iZ d t=⟨d.me,t,(aN d).un.get t.toNat,(aN d).ta.get t.toNat⟩:=if_pos (by unfold lE;rw[h,k];rfl)
theorem yc{d:Dk}{t:Int}(h:lE d t=false):iZ d t=⟨0,0,[],0⟩:=if_neg (by rw[h];decide)
theorem Z9{d:Dk}(h:av d=true){i:Nat}(hi:i<6):(an d).getD (20+(be d).toNat*21+1+1+i) default=rowP ((aN d).un.get i):=by
 rw[Nat.add_assoc (20+(be d).toNat*21+1),NO (E0 h) (show 1+i<19 by omega),dw _ hi]
theorem Aa{d:Dk}(h:av d=true){i:Nat}(hi:i<6):(an d).getD (20+(be d).toNat*21+1+13+i) default=vInt ((aN d).ta.get i):=by
 rw[Nat.add_assoc (20+(be d).toNat*21+1),NO (E0 h) (show 13+i<19 by omega),dV _ hi]
noncomputable def PH:List (Nat×Spec):=[(41,S51),(45,S58),(46,S76)]
theorem acy:∀ f s,tbl PH f=some s->ak Tryd.prog f s:=tc CV<|tc yU<|tc KG<|tn
attribute [go_sem] PH
noncomputable def P26:PSpec:=p2 dK iI (fun _ _=>True) (fun d t=>.tup [kT (iZ d t),vInt (gv d t)]) false
noncomputable def S26:Spec:=P26.toSpec
attribute [go_sem] P26 S26
set_option maxHeartbeats 4000000 in
theorem SR:aZ Tryd.prog 17 P26:=by
 refine w2 (rs:=[.cell 4 54,.tmp 5]) Tryd.func17 Tryd.ntmps17 (by rfl) (by kernel_rfl) (by decide) (fun h=>by cases h) ⟨_,rfl,lb rfl,fun d t hp hw=>?_⟩
 have hP:=br
 simp only[dK,iI]at hw |-
 have hΓ:=acy
 repeat refine sq ?_
 refine rx hΓ [1,2,4] [[2,0],[4,0]] (fun K' hK=>by simp only[go_sem];(repeat (refine⟨ai,?_⟩));exact hK _ (by simp only[go_sem]) (by simp only[go_sem]<;>rfl)) ?_
 refine bq (dS [2,0] (an d) rfl [1,2,4] [[2,0],[4,0]] ?_ rfl) ?_
 ·simp only[go_sem]
 simp only[go_sem]
 repeat refine sq ?_
 refine rx hΓ [1,2,4,6] [[2,0],[4,0]] (fun K' hK=>by simp only[go_sem];(repeat (refine⟨ai,?_⟩));exact hK _ (by simp only[go_sem]) (by simp only[go_sem]<;>rfl)) ?_
 repeat refine sq ?_
 refine rx hΓ [1,2,4,6,12] [[2,0],[4,0]] (fun K' hK=>by simp only[go_sem];(repeat (refine⟨ai,?_⟩));exact hK _ (by simp only[go_sem]) (by simp only[go_sem]<;>rfl)) ?_
 repeat refine sq ?_
 refine aD rfl rfl (fun hb=>?_) (fun hb=>?_)
 ·repeat refine sq ?_
  have hn:=OU hb
  repeat refine sq ?_
  refine rx hΓ [4,5] [[4,0]] (fun K' hK=>by simp only[go_sem];(repeat (refine⟨ai,?_⟩));exact hK _ (by simp only[go_sem]) (by simp only[go_sem]<;>rfl)) ?_
  refine ax ?_
  simp only[go_sem]
  first | (rw[yc hn];done) | (rw[yc hn];rfl) | (rw[yb hd hk,qq hd hk];done) | (rw[yb hd hk,qq hd hk];rfl)
 ·repeat refine sq ?_
  obtain⟨hd,hk⟩:=OV hb
  obtain⟨tX,ow,ht⟩:=Bc hk
  obtain⟨ml,oL,zG,L0⟩:=oW hd
  have hu:=Z9 hd ht
  have ha:=Aa hd ht
  have hz:=L0.sz.2 t.toNat ht
  refine aI ?_
  repeat refine sq ?_
  refine rx hΓ [1,2,4,7] [[2,0],[4,0]] (fun K' hK=>by simp only[go_sem,ml,oL];(repeat (refine⟨ai,?_⟩));exact hK _ (by simp only[go_sem]) (by simp only[go_sem]<;>rfl)) ?_
  repeat refine sq ?_
  refine dx hΓ hP [[],[0],[],[],[],[3],[3,5],[3,4,5,6],[3,4,5,6,7],[3,4,5,6,7,8],[],[],[10],[10,12],[10,11,12,13],[10,11,12,13,14],[0,1,2,3,4,5,6,7,8,9,10,11,12,13,14,15],[0,1,2,3,4,5,6,7,8,9,10,11,12,13,14,15,16],[0,1,2,3,4,5,6,7,8,9,10,11,12,13,14,15,16,17]] [4,5] [[4,0]] (by kernel_rfl) (fun K' hK=>by simp only[go_sem,hu,ha,tX,ow,hz,List.append_nil];(repeat (refine⟨ai,?_⟩));(first | refine⟨by rfl,?_⟩ | skip);exact hK _ (by simp only[go_sem]) (by simp only[go_sem]<;>rfl)) ?_
  refine ax ?_
  simp only[go_sem]
  first | (rw[yc hn];done) | (rw[yc hn];rfl) | (rw[yb hd hk,qq hd hk];done) | (rw[yb hd hk,qq hd hk];rfl)
theorem WR:ak Tryd.prog 17 S26:=SR.sound
noncomputable def PG:List (Nat×Spec):=[]
theorem aip:∀ f s,tbl PG f=some s->ak Tryd.prog f s:=tn
attribute [go_sem] PG
attribute [go_sem] List.append_nil
def Dk.setP(d:Dk)(i:Nat)(p:Pg):Dk:=match i with
 | 0=>⟨d.me,d.now,p,d.pb,d.wet⟩
 |_=>⟨d.me,d.now,d.pa,p,d.wet⟩
def Dk.setW(d:Dk)(w:Int):Dk:=⟨d.me,d.now,d.pa,d.pb,w⟩
def Dk.setN(d:Dk)(s:Stk):Dk:=⟨d.me,s,d.pa,d.pb,d.wet⟩
theorem Dk.pg_set(d:Dk){i:Nat}(h:i<2)(p:Pg):(d.setP i p).pg i=p:=by
 match i,h with
 | 0,_=>rfl
 | 1,_=>rfl
theorem Dk.set_set(d:Dk){i:Nat}(h:i<2)(p q:Pg):(d.setP i p).setP i q=d.setP i q:=by
 match i,h with
 | 0,_=>rfl
 | 1,_=>rfl
theorem Dk.now_set(d:Dk)(i:Nat)(p:Pg):(d.setP i p).now=d.now:=by
 match i with
 | 0=>rfl
 |_+1=>rfl
theorem aaq(d:Dk)(x:Int):List.take 62 (List.map D.v (an d))++[D.v (vInt x)]++List.drop 63 (List.map D.v (an d))=List.map D.v (an (d.setW x)):=rfl
@[go_sem] theorem ags(d:Dk)(x:Int):List.take 62 (List.map D.v (an d))++[D.v (vInt x)]++[]=List.map D.v (an (d.setW x)):=rfl
@[go_sem] theorem agq(d:Dk)(x:Int):List.take 62 (List.map D.v (an d))++[D.v (vInt x)]=List.map D.v (an (d.setW x)):=rfl
theorem aat(d:Dk){i:Nat}(h:i<2)(c:Int):List.take (20+i*21) (List.map D.v (an d))++[D.v (vInt c)]++List.drop (20+i*21+1) (List.map D.v (an d))=List.map D.v (an (d.setP i ⟨c,(d.pg i).st,(d.pg i).su⟩)):=by
 match i,h with
 | 0,_=>rfl
 | 1,_=>rfl
theorem aar(d:Dk){i:Nat}(h:i<2)(s:Stk):List.take (20+i*21+1) (List.map D.v (an d))++List.map D.v (aA s)++List.drop (20+i*21+1+19) (List.map D.v (an d))=List.map D.v (an (d.setP i ⟨(d.pg i).co,s,(d.pg i).su⟩)):=by
 match i,h with
 | 0,_=>rfl
 | 1,_=>rfl
theorem Ns(d:Dk){i:Nat}(h:i<2)(c:Int):List.take (20+i*21+20) (List.map D.v (an d))++[D.v (vInt c)]++List.drop (20+i*21+20+1) (List.map D.v (an d))=List.map D.v (an (d.setP i ⟨(d.pg i).co,(d.pg i).st,c⟩)):=by
 match i,h with
 | 0,_=>rfl
 | 1,_=>rfl
theorem aas(d:Dk)(s:Stk):List.take 1 (List.map D.v (an d))++List.map D.v (aA s)++List.drop 20 (List.map D.v (an d))=List.map D.v (an (d.setN s)):=rfl
def ld(d:Dk):Int:=if d.wet<0 then 1-be d else d.wet
def mT(d:Dk):Int:=if d.wet<0 then(d.pg (be d).toNat).co+1 else(d.pg d.wet.toNat).co
def ff(d:Dk):Dk:=(d.setW (ld d)).setP (ld d).toNat ⟨mT d,d.now,c9 d.now (mT d)⟩
def fy(d:Dk):Int:=if av d=true then(if (decide (d.wet<0)&&((d.pg (be d).toNat).co==99999))=true then 2 else 0)else 92
def dE(d:Dk):Dk:=if fy d=0 then ff d else zD
def gr(d:Dk):Dk:=if av d=true then d.setW (-1)else zD
def gM(d:Dk)(n:Int):Bool:=decide (0<=d.wet)&&(n.tmod 2 != 0)
def iz(d:Dk)(n:Int):Dk:=if gM d n=true then d.setP d.wet.toNat ⟨(d.pg d.wet.toNat).co,(d.pg d.wet.toNat).st,((d.pg d.wet.toNat).su+1).tmod 1000003⟩else d
def E4(d:Dk)(n:Int):Dk:=((iz d n).setW (-1)).setN (aN ((iz d n).setW (-1)))
def gF(d:Dk)(n:Int):Dk:=if av d=true then E4 d n else zD
@[go_sem] theorem agG(d:Dk):(List.map D.v (an d)).getD 62 .any=.v (vInt d.wet):=rfl
@[go_sem] theorem agH(d:Dk):(List.map D.v (an d)).getD 0 .any=.v (vInt d.me):=rfl
theorem Fv(d:Dk){i:Nat}(h:i<2):(List.map D.v (an d)).getD (20+i*21) .any=.v (vInt (d.pg i).co):=by
 match i,h with
 | 0,_=>rfl
 | 1,_=>rfl
theorem aaw(d:Dk){i:Nat}(h:i<2):(List.map D.v (an d)).getD (20+i*21+20) .any=.v (vInt (d.pg i).su):=by
 match i,h with
 | 0,_=>rfl
 | 1,_=>rfl
theorem Nu(d:Dk){i:Nat}(h:i<2):List.take 19 (List.drop (20+i*21+1) (List.map D.v (an d)))=List.map D.v (aA (d.pg i).st):=by
 match i,h with
 | 0,_=>rfl
 | 1,_=>rfl
@[go_sem] theorem afp(d:Dk)(x:Int):(d.setW x).wet=x:=rfl
@[go_sem] theorem afq(d:Dk)(x:Int):(d.setW x).now=d.now:=rfl
@[go_sem] theorem RB(d:Dk)(x:Int)(i:Nat):(d.setW x).pg i=d.pg i:=by
  cases i<;>rfl
theorem Hp(d:Dk)(i:Nat)(p:Pg):(d.setP i p).wet=d.wet:=by
 cases i<;>rfl
theorem Hr(d:Dk)(i:Nat)(p:Pg):(d.setP i p).me=d.me:=by
 cases i<;>rfl
theorem afs(d:Dk)(i:Nat)(p:Pg)(x:Int):(d.setP i p).setW x=(d.setW x).setP i p:=by
 cases i<;>rfl
theorem RA(d:Dk):d.setW d.wet=d:=rfl
theorem afr(d:Dk)(i:Nat):d.setP i ⟨(d.pg i).co,(d.pg i).st,(d.pg i).su⟩=d:=by
 cases i<;>rfl
theorem Ql{d:Dk}(h:av d=false):dE d=zD/\fy d=92:=by
 have :fy d=92:=if_neg (by rw[h];decide)
 exact⟨if_neg (by rw[this];decide),this⟩
theorem GK{d:Dk}(h:av d=true)(hw:d.wet<0)(hc:(d.pg (be d).toNat).co=99999):dE d=zD/\fy d=2:=by
 have :fy d=2:=by unfold fy;rw[if_pos h,if_pos (by rw[hc];simpa using hw)]
 exact⟨if_neg (by rw[this];decide),this⟩
theorem GJ{d:Dk}(h:av d=true)(hw:d.wet<0)(hc:(d.pg (be d).toNat).co≠99999):dE d=ff d/\fy d=0:=by
 have :fy d=0:=by unfold fy;rw[if_pos h,if_neg (by simp[hc])]
 exact⟨if_pos this,this⟩
theorem GL{d:Dk}(h:av d=true)(hw:¬ d.wet<0):dE d=ff d/\fy d=0:=by
 have :fy d=0:=by unfold fy;rw[if_pos h,if_neg (by simp[hw])]
 exact⟨if_pos this,this⟩
structure uZ (d E:Dk) (a:Int):Prop where
 a0:0<=a
 a2:a<2
 k:a.toNat<2
 wet:E.wet=a
 now:E.now=d.now
 okn:bU (E.pg a.toNat).co
 fin:E.setP a.toNat ⟨(E.pg a.toNat).co,d.now,c9 d.now (E.pg a.toNat).co⟩=ff d
theorem tj{me:Int}{p:Pg}(h:aE me p=true):0<=p.co/\p.co<=99999:=by
 unfold aE at h
 simp only[Bool.and_eq_true]at h
 exact ck.1 h.1.1
theorem Fs{d:Dk}(h:av d=true): -1<=d.wet/\d.wet<=1:=by
 unfold av im at h
 simp only[Bool.and_eq_true]at h
 exact ck.1 h.1.2
theorem nJ{d:Dk}(h:av d=true)(hw:¬ d.wet<0):aE d.me d.pa=true/\aE d.me d.pb=true/\d.wet.toNat<2/\d.wet<2/\(d.pg (1-d.wet).toNat).co<(d.pg d.wet.toNat).co:=by
 have hr:=Fs h
 unfold av lh at h
 rw[if_neg hw]at h
 simp only[Bool.and_eq_true,decide_eq_true_eq]at h
 exact⟨h.2.1.1,h.2.1.2,by omega,by omega,h.2.2⟩
theorem BS{d:Dk}(ha:aE d.me d.pa=true)(hb:aE d.me d.pb=true):∀ i,aE d.me (d.pg i)=true
 | 0=>ha
 |_+1=>hb
theorem Qg{d:Dk}(h:av d=true)(hw:¬ d.wet<0):uZ d d d.wet:=by
 obtain⟨h1,h2,h3,h4,_⟩:=nJ h hw
 have hp:=tj (BS h1 h2 d.wet.toNat)
 refine⟨by omega,h4,h3,rfl,rfl,⟨hp.1,by omega⟩,?_⟩
 unfold ff ld mT
 rw[if_neg hw,if_neg hw,RA]
theorem Ac{d:Dk}(h:av d=true):aE d.me (d.pg (be d).toNat)=true:=by
 rcases EZ d 2 with h1 | h1
 ·have:=(oW h).1
  have e:be d= -1:=h1
  omega
 ·exact h1
def nS(d:Dk):Dk:=(d.setW (1-be d)).setP (1-be d).toNat ⟨(d.pg (be d).toNat).co+1,(d.pg (1-be d).toNat).st,(d.pg (1-be d).toNat).su⟩
theorem Qf{d:Dk}(h:av d=true)(hw:d.wet<0)(hc:(d.pg (be d).toNat).co≠99999):uZ d (nS d) (1-be d)/\IntKind.i64.wrap (1-be d)=1-be d/\
 IntKind.i64.wrap ((d.pg (be d).toNat).co+1)=(d.pg (be d).toNat).co+1:=by
 obtain⟨ml,oL,zG,_⟩:=oW h
 have hp:=tj (Ac h)
 have hk:(1-be d).toNat<2:=by omega
 refine⟨⟨by omega,by omega,hk,by unfold nS;rw[Hp];rfl,by unfold nS;rw[Dk.now_set];rfl,?_,?_⟩,wrap_i64 (by omega) (by omega),wrap_i64 (by omega) (by omega)⟩
 ·unfold nS
  rw[Dk.pg_set _ hk]
  exact⟨by show 0<=(d.pg (be d).toNat).co+1;omega,by show (d.pg (be d).toNat).co+1<=1000000;omega⟩
 ·unfold nS ff ld mT
  rw[if_pos hw,if_pos hw,Dk.pg_set _ hk,Dk.set_set _ hk]
attribute [go_sem] s9
theorem GC{d E:Dk}{a:Int}(H:uZ d E a):List.take (20+a.toNat*21+1) (List.map D.v (an E))++List.map D.v (aA d.now)++List.drop (20+a.toNat*21+1+19) (List.map D.v (an E))=List.map D.v (an (E.setP a.toNat ⟨(E.pg a.toNat).co,d.now,(E.pg a.toNat).su⟩)):=aar E H.k d.now
theorem GA{d E:Dk}{a:Int}(H:uZ d E a):List.take 19 (List.drop (20+a.toNat*21+1) (List.map D.v (an (E.setP a.toNat ⟨(E.pg a.toNat).co,d.now,(E.pg a.toNat).su⟩))))=List.map D.v (aA d.now):=by
 rw[Nu _ H.k,Dk.pg_set _ H.k]
theorem GD{d E:Dk}{a:Int}(H:uZ d E a):(List.map D.v (an (E.setP a.toNat ⟨(E.pg a.toNat).co,d.now,(E.pg a.toNat).su⟩))).getD (20+a.toNat*21) .any=.v (vInt (E.pg a.toNat).co):=by
 rw[Fv _ H.k,Dk.pg_set _ H.k]
theorem GB{d E:Dk}{a:Int}(H:uZ d E a):List.take (20+a.toNat*21+20) (List.map D.v (an (E.setP a.toNat ⟨(E.pg a.toNat).co,d.now,(E.pg a.toNat).su⟩)))++[D.v (vInt (c9 d.now (E.pg a.toNat).co))]++
 List.drop (20+a.toNat*21+20+1) (List.map D.v (an (E.setP a.toNat ⟨(E.pg a.toNat).co,d.now,(E.pg a.toNat).su⟩)))=List.map D.v (an (ff d)):=by
 rw[Ns _ H.k,Dk.pg_set _ H.k,Dk.set_set _ H.k,H.fin]
theorem agi{E:Dk}{s:Stk}(nm:Name)(e:E.now=s)(hs:jN s):∀ (F:Name->Option O) (t:Name),F nm=some (.box ((an E).map .v))->S59.app (fun nm=>if own [0] nm=true then F nm else none) t [.ref nm 1]=(if own [0] nm=true then⟨True,.v (.agg (aA s)),fun nm=>if own [0] nm=true then F nm else none⟩else S59.app (fun nm=>if own [0] nm=true then F nm else none) t [.ref nm 1]):=fun F t h=>by
 by_cases ho:own [0] nm=true
 ·rw[if_pos ho]
  exact pv (s:=s) (L:=an E) (off:=1) (by rw[if_pos ho];exact h) (by rw[<-e];exact uN E) hs
 ·rw[if_neg ho]
noncomputable def PD:List (Nat×Spec):=[(39,S23),(43,S53),(45,S58),(37,S59),(38,S60)]
theorem acw:∀ f s,tbl PD f=some s->ak Tryd.prog f s:=tc pK<|tc CU<|tc yU<|tc vN<|tc yS<|tn
attribute [go_sem] PD
noncomputable def P10:PSpec:=p1 dK (fun d=>eL d) (fun d=>.tup [kS (dE d),vInt (fy d)]) false
noncomputable def S10:Spec:=P10.toSpec
attribute [go_sem] P10 S10
set_option maxHeartbeats 4000000 in
theorem Ta:aZ Tryd.prog 15 P10:=by
 refine w1 (rs:=[.cell 2 44,.tmp 3]) Tryd.func15 Tryd.ntmps15 (by rfl) (by kernel_rfl) (by decide) (fun h=>by cases h) ⟨_,rfl,lb rfl,fun d hp hw=>?_⟩
 have hP:=br
 simp only[dK]at hw |-
 have hΓ:=acw
 have hs:eL d:=hp
 repeat refine sq ?_
 refine rx hΓ [1,2] [[1,0],[2,0]] (fun K' hK=>by simp only[go_sem];(repeat (refine⟨ai,?_⟩));exact hK _ (by simp only[go_sem]) (by simp only[go_sem]<;>rfl)) ?_
 refine bq (mW [2,0] _ (an zD) rfl rfl [1,2] [[1,0],[2,0]] ?_ rfl) ?_
 ·simp only[go_sem]
 simp only[go_sem]
 refine bq (dS [1,0] (an d) rfl [1,2] [[1,0],[2,0]] ?_ rfl) ?_
 ·simp only[go_sem]
 simp only[go_sem]
 repeat refine sq ?_
 refine rx hΓ [1,2,4] [[1,0],[2,0]] (fun K' hK=>by simp only[go_sem];(repeat (refine⟨ai,?_⟩));exact hK _ (by simp only[go_sem]) (by simp only[go_sem]<;>rfl)) ?_
 repeat refine sq ?_
 refine rx hΓ [1,2,4,11] [[1,0],[2,0]] (fun K' hK=>by simp only[go_sem];(repeat (refine⟨ai,?_⟩));exact hK _ (by simp only[go_sem]) (by simp only[go_sem]<;>rfl)) ?_
 repeat refine sq ?_
 refine aD rfl rfl (fun hb=>?_) (fun hb=>?_)
 ·repeat refine sq ?_
  have hd:=sv hb
  have hq:=Ql hd
  have e1:=kg hd
  repeat refine sq ?_
  refine rx hΓ [2,3] [[2,0]] (fun K' hK=>by simp only[go_sem,List.append_nil];(repeat (refine⟨ai,?_⟩));exact hK _ (by simp only[go_sem]) (by simp only[go_sem]<;>rfl)) ?_
  refine ax ?_
  simp only[go_sem]
  first | (rw[hq.1,hq.2];done) | (rw[hq.1,hq.2];rfl) | (rw[hq.1,hq.2,e1];done) | (rw[hq.1,hq.2,e1];rfl)
 ·repeat refine sq ?_
  have hd:=ss hb
  obtain⟨ml,oL,zG,L0⟩:=oW hd
  have pR:=(yx hd)
  refine aI ?_
  repeat refine sq ?_
  refine rx hΓ [1,2,5] [[1,0],[2,0],[22,0,15,0]] (fun K' hK=>by simp only[go_sem,hs,List.append_nil];(repeat (refine⟨ai,?_⟩));exact hK _ (by simp only[go_sem]) (by simp only[go_sem]<;>rfl)) ?_
  repeat refine sq ?_
  refine rx hΓ [2,5,6] [[2,0],[22,0,15,0]] (fun K' hK=>by simp only[go_sem];(repeat (refine⟨ai,?_⟩));exact hK _ (by simp only[go_sem]) (by simp only[go_sem]<;>rfl)) ?_
  repeat refine sq ?_
  refine rx hΓ [2,5,6,23] [[2,0],[22,0,15,0]] (fun K' hK=>by simp only[go_sem,Nat.add_zero];(repeat (refine⟨ai,?_⟩));exact hK _ (by simp only[go_sem]) (by simp only[go_sem]<;>rfl)) ?_
  repeat refine sq ?_
  refine aD rfl rfl (fun hb=>?_) (fun hb=>?_)
  ·repeat refine sq ?_
   have hw:d.wet<0:=by simpa using hb
   have qc:=Fv d zG
   repeat refine sq ?_
   refine rx hΓ [2,5,6,32] [[2,0],[22,0,15,0]] (fun K' hK=>by simp only[go_sem,Nat.add_zero,ml,oL,qc];(repeat (refine⟨ai,?_⟩));exact hK _ (by simp only[go_sem]) (by simp only[go_sem]<;>rfl)) ?_
   repeat refine sq ?_
   refine aD rfl rfl (fun hb=>?_) (fun hb=>?_)
   ·repeat refine sq ?_
    have hc:(d.pg (be d).toNat).co=99999:=by simpa using hb
    have hq:=GK hd hw hc
    repeat refine sq ?_
    refine rx hΓ [2,3] [[2,0]] (fun K' hK=>by simp only[go_sem,List.append_nil];(repeat (refine⟨ai,?_⟩));exact hK _ (by simp only[go_sem]) (by simp only[go_sem]<;>rfl)) ?_
    refine ax ?_
    simp only[go_sem]
    first | (rw[hq.1,hq.2];done) | (rw[hq.1,hq.2];rfl) | (rw[hq.1,hq.2,e1];done) | (rw[hq.1,hq.2,e1];rfl)
   ·repeat refine sq ?_
    have hc:(d.pg (be d).toNat).co≠99999:=by simpa using hb
    have hq:=GJ hd hw hc
    obtain⟨H,w1,w2⟩:=Qf hd hw hc
    have p9:∀ (F:Name->Option O) (t:Name),F [22,0,15,0]=some (.box ((an (nS d)).map .v))->S59.app (fun nm=>if own [0] nm=true then F nm else none) t [.ref [22,0,15,0] 1]=⟨True,.v (.agg (aA d.now)),fun nm=>if own [0] nm=true then F nm else none⟩:=fun F t h=>pv (s:=d.now) (L:=an (nS d)) (off:=1) h (by rw[uN,H.now]) hs.now
    have x8:=H.a0;have xZ:=H.a2;have qS:=GC H;have qT:=GA H;have qC:=GD H;have qU:=GB H;have qO:=H.okn
    have qw:(nS d).wet=1-be d:=H.wet
    have qd:=Fv (d.setW (1-be d)) zG
    have qe:List.take (20+(1-be d).toNat*21) (List.map D.v (an (d.setW (1-be d))))++[D.v (vInt ((d.pg (be d).toNat).co+1))]++List.drop (20+(1-be d).toNat*21+1) (List.map D.v (an (d.setW (1-be d))))=List.map D.v (an (nS d)):=by rw[aat _ H.k,RB];rfl
    refine aI ?_
    repeat refine sq ?_
    refine rx hΓ [2,5,6] [[2,0],[22,0,15,0]] (fun K' hK=>by simp only[go_sem,w1,aaq];(repeat (refine⟨ai,?_⟩));exact hK _ (by simp only[go_sem]) (by simp only[go_sem]<;>rfl)) ?_
    repeat refine sq ?_
    refine dx hΓ hP [[],[],[1],[1,2],[1,2,3],[1,2,3,4],[],[],[6],[6,8],[6,8,9],[6,7,8,9,10],[6,7,8,9,10,11],[6,7,8,9,10,11,12],[6,7,8,9,10,11,12,13],[0],[0,15],[0,15,16],[0,1,2,3,4,5,6,7,8,9,10,11,12,13,14,15,16,17],[0,1,2,3,4,5,6,7,8,9,10,11,12,13,14,15,16,17,18],[0,1,2,3,4,5,6,7,8,9,10,11,12,13,14,15,16,17,18,19]] [2,5] [[2,0],[22,0,15,0]] (by kernel_rfl) (fun K' hK=>by simp only[go_sem,Nat.add_zero,ml,oL,qd,w2,x8,xZ,qe];(repeat (refine⟨ai,?_⟩));(first | refine⟨by rfl,?_⟩ | skip);exact hK _ (by simp only[go_sem]) (by simp only[go_sem]<;>rfl)) ?_
    repeat refine sq ?_
    refine dx hΓ hP [[],[],[1],[1,2],[1,2,3],[1,2,3,4],[0],[0,6],[0,6,7],[0,1,2,3,4,5,6,7,8],[0,1,2,3,4,5,6,7,8,9]] [2,5,7] [[2,0],[22,0,15,0]] (by kernel_rfl) (fun K' hK=>by simp only[go_sem,x8,xZ,qw];(repeat (refine⟨ai,?_⟩));(first | refine⟨by rfl,?_⟩ | skip);exact hK _ (by simp only[go_sem]) (by simp only[go_sem]<;>rfl)) ?_
    repeat refine sq ?_
    refine rx hΓ [2,5,7] [[2,0],[22,0,15,0]] (fun K' hK=>by simp only[go_sem,p9,qS];(repeat (refine⟨ai,?_⟩));exact hK _ (by simp only[go_sem]) (by simp only[go_sem]<;>rfl)) ?_
    repeat refine sq ?_
    refine dx hΓ hP [[],[],[1],[1,2],[1,2,3],[],[5],[5,6],[5,6,7],[1,2,3,4,5,6,7,8],[0,1,2,3,4,5,6,7,8,9],[0,1,2,3,4,5,6,7,8,9,10],[0,1,2,3,4,5,6,7,8,9,10,11]] [2,5] [[2,0],[22,0,15,0]] (by kernel_rfl) (fun K' hK=>by simp only[go_sem,Nat.add_zero,qT,qC,qU];(repeat (refine⟨by first | exact⟨pR,qO⟩ | exact ai,?_⟩));(first | refine⟨by rfl,?_⟩ | skip);exact hK _ (by simp only[go_sem]) (by simp only[go_sem]<;>rfl)) ?_
    repeat refine sq ?_
    refine rx hΓ [2,3] [[2,0]] (fun K' hK=>by simp only[go_sem,List.append_nil];(repeat (refine⟨ai,?_⟩));exact hK _ (by simp only[go_sem]) (by simp only[go_sem]<;>rfl)) ?_
    refine ax ?_
    simp only[go_sem]
    first | (rw[hq.1,hq.2];done) | (rw[hq.1,hq.2];rfl) | (rw[hq.1,hq.2,e1];done) | (rw[hq.1,hq.2,e1];rfl)
  ·repeat refine sq ?_
   have hw:¬ d.wet<0:=by simpa using hb
   have H:=Qg hd hw
   have qw:True:=trivial
   have hq:=GL hd hw
   have p9:∀ (F:Name->Option O) (t:Name),F [22,0,15,0]=some (.box ((an d).map .v))->S59.app (fun nm=>if own [0] nm=true then F nm else none) t [.ref [22,0,15,0] 1]=⟨True,.v (.agg (aA d.now)),fun nm=>if own [0] nm=true then F nm else none⟩:=fun F t h=>pv (s:=d.now) (L:=an d) (off:=1) h (uN d) hs.now
   have x8:=H.a0;have xZ:=H.a2;have qS:=GC H;have qT:=GA H;have qC:=GD H;have qU:=GB H;have qO:=H.okn
   refine aI ?_
   repeat refine sq ?_
   refine dx hΓ hP [[],[],[1],[1,2],[1,2,3],[1,2,3,4],[0],[0,6],[0,6,7],[0,1,2,3,4,5,6,7,8],[0,1,2,3,4,5,6,7,8,9]] [2,5,7] [[2,0],[22,0,15,0]] (by kernel_rfl) (fun K' hK=>by simp only[go_sem,x8,xZ,qw];(repeat (refine⟨ai,?_⟩));(first | refine⟨by rfl,?_⟩ | skip);exact hK _ (by simp only[go_sem]) (by simp only[go_sem]<;>rfl)) ?_
   repeat refine sq ?_
   refine rx hΓ [2,5,7] [[2,0],[22,0,15,0]] (fun K' hK=>by simp only[go_sem,p9,qS];(repeat (refine⟨ai,?_⟩));exact hK _ (by simp only[go_sem]) (by simp only[go_sem]<;>rfl)) ?_
   repeat refine sq ?_
   refine dx hΓ hP [[],[],[1],[1,2],[1,2,3],[],[5],[5,6],[5,6,7],[1,2,3,4,5,6,7,8],[0,1,2,3,4,5,6,7,8,9],[0,1,2,3,4,5,6,7,8,9,10],[0,1,2,3,4,5,6,7,8,9,10,11]] [2,5] [[2,0],[22,0,15,0]] (by kernel_rfl) (fun K' hK=>by simp only[go_sem,Nat.add_zero,qT,qC,qU];(repeat (refine⟨by first | exact⟨pR,qO⟩ | exact ai,?_⟩));(first | refine⟨by rfl,?_⟩ | skip);exact hK _ (by simp only[go_sem]) (by simp only[go_sem]<;>rfl)) ?_
   repeat refine sq ?_
   refine rx hΓ [2,3] [[2,0]] (fun K' hK=>by simp only[go_sem,List.append_nil];(repeat (refine⟨ai,?_⟩));exact hK _ (by simp only[go_sem]) (by simp only[go_sem]<;>rfl)) ?_
   refine ax ?_
   simp only[go_sem]
   first | (rw[hq.1,hq.2];done) | (rw[hq.1,hq.2];rfl) | (rw[hq.1,hq.2,e1];done) | (rw[hq.1,hq.2,e1];rfl)
theorem KT:ak Tryd.prog 15 S10:=Ta.sound
noncomputable def PC:List (Nat×Spec):=[(77,S39),(94,S63)]
theorem ain:∀ f s,tbl PC f=some s->ak Tryd.prog f s:=tc rj<|tc CT<|tn
attribute [go_sem] PC
theorem lz{d:Dk}(h:av d=true):gr d=d.setW (-1):=if_pos h
theorem Af{d:Dk}(h:av d=false):gr d=zD:=if_neg (by rw[h];decide)
theorem nG{d:Dk}{n:Int}(h:av d=true):gF d n=E4 d n:=if_pos h
theorem uI{d:Dk}{n:Int}(h:av d=false):gF d n=zD:=if_neg (by rw[h];decide)
theorem nW{d:Dk}{n:Int}(h:gM d n=true):iz d n=d.setP d.wet.toNat ⟨(d.pg d.wet.toNat).co,(d.pg d.wet.toNat).st,((d.pg d.wet.toNat).su+1).tmod 1000003⟩:=if_pos h
theorem nh{d:Dk}{n:Int}(h:gM d n=false):iz d n=d:=if_neg (by rw[h];decide)
theorem vm{d:Dk}{n:Int}(h:gM d n=true):¬ d.wet<0:=by
 unfold gM at h
 simp only[Bool.and_eq_true,decide_eq_true_eq]at h
 omega
theorem Ig{me:Int}{p:Pg}(h:aE me p=true):0<=p.su/\p.su<1000003:=by
 have hc:=tj h
 unfold aE at h
 simp only[Bool.and_eq_true,beq_iff_eq]at h
 rw[h.2]
 exact xI ⟨hc.1,by omega⟩ _
theorem ye{me:Int}{p:Pg}(h:aE me p=true):aE me ⟨p.co,p.st,(p.su+1).tmod 1000003⟩=false:=by
 obtain⟨h1,h2⟩:=Ig h
 unfold aE at h |-
 simp only[Bool.and_eq_true,beq_iff_eq]at h
 have aj:(p.su+1).tmod 1000003≠p.su:=by
  rw[Int.tmod_eq_emod_of_nonneg (by omega)]
  omega
 have :((p.su+1).tmod 1000003==c9 p.st p.co)=false:=by
  rw[beq_eq_false_iff_ne,<-h.2];exact aj
 rw[this,Bool.and_false]
theorem E2{d:Dk}{n:Int}(h:av d=true):av ((iz d n).setW (-1))=true:=by
 have hh:=h
 unfold av im at hh
 simp only[Bool.and_eq_true]at hh
 obtain⟨⟨hs,_⟩,XG⟩:=hh
 have oB:∀ e:Dk,(e.setW (-1)).wet<0:=fun e=>by show (-1:Int)<0;omega
 unfold av
 rw[mU (oB _)]
 have YT:im ((iz d n).setW (-1))=true:=by
  unfold im
  have e1:((iz d n).setW (-1)).me=d.me:=by
   cases hb:gM d n
   ·rw[nh hb];rfl
   ·rw[nW hb];exact Hr _ _ _
  have e2:((iz d n).setW (-1)).now=d.now:=by
   cases hb:gM d n
   ·rw[nh hb];rfl
   ·rw[nW hb];exact Dk.now_set _ _ _
  rw[e1,e2,hs];rfl
 rw[YT,Bool.true_and]
 cases hb:gM d n with
 |false=>
  rw[nh hb]
  show ((aE d.me d.pa||aE d.me d.pb)&&!((aE d.me d.pa&&aE d.me d.pb)&&(d.pa.co==d.pb.co)))=true
  by_cases hw:d.wet<0
  ·rw[<-mU hw];exact XG
  ·obtain⟨h1,h2,h3,h4,h5⟩:=nJ h hw
   rw[h1,h2]
   have aj:(d.pa.co==d.pb.co)=false:=by
    rw[beq_eq_false_iff_ne]
    have gR:d.wet=0\/d.wet=1:=by omega
    rcases gR with e | e<;>rw[e]at h5
    ·have oQ:d.pb.co<d.pa.co:=h5
     omega
    ·have oQ:d.pa.co<d.pb.co:=h5
     omega
   rw[aj];rfl
 |true=>
  have hw:=vm hb
  rw[nW hb]
  obtain⟨h1,h2,h3,h4,_⟩:=nJ h hw
  have gR:d.wet=0\/d.wet=1:=by omega
  rcases gR with e | e<;>rw[e]
  ·show ((aE d.me ⟨d.pa.co,d.pa.st,(d.pa.su+1).tmod 1000003⟩||aE d.me d.pb)&&!((aE d.me ⟨d.pa.co,d.pa.st,(d.pa.su+1).tmod 1000003⟩&&aE d.me d.pb)&&(d.pa.co==d.pb.co)))=true
   rw[ye h1,h2];rfl
  ·show ((aE d.me d.pa||aE d.me ⟨d.pb.co,d.pb.st,(d.pb.su+1).tmod 1000003⟩)&&!((aE d.me d.pa&&aE d.me ⟨d.pb.co,d.pb.st,(d.pb.su+1).tmod 1000003⟩)&&(d.pa.co==d.pb.co)))=true
   rw[ye h2,h1];rfl
noncomputable def PA:List (Nat×Spec):=[(39,S23),(43,S53)]
theorem acv:∀ f s,tbl PA f=some s->ak Tryd.prog f s:=tc pK<|tc CU<|tn
attribute [go_sem] PA
noncomputable def P12:PSpec:=p1 dK (fun d=>eL d) (fun d=>.tup [kS (gr d),vInt (iQ d)]) false
noncomputable def S12:Spec:=P12.toSpec
attribute [go_sem] P12 S12
set_option maxHeartbeats 4000000 in
theorem S0:aZ Tryd.prog 16 P12:=by
 refine w1 (rs:=[.cell 2 44,.tmp 3]) Tryd.func16 Tryd.ntmps16 (by rfl) (by kernel_rfl) (by decide) (fun h=>by cases h) ⟨_,rfl,lb rfl,fun d hp hw=>?_⟩
 have hP:=br
 simp only[dK]at hw |-
 have hΓ:=acv
 have hs:eL d:=hp
 repeat refine sq ?_
 refine rx hΓ [1,2] [[1,0],[2,0]] (fun K' hK=>by simp only[go_sem];(repeat (refine⟨ai,?_⟩));exact hK _ (by simp only[go_sem]) (by simp only[go_sem]<;>rfl)) ?_
 refine bq (mW [2,0] _ (an zD) rfl rfl [1,2] [[1,0],[2,0]] ?_ rfl) ?_
 ·simp only[go_sem]
 simp only[go_sem]
 refine bq (dS [1,0] (an d) rfl [1,2] [[1,0],[2,0]] ?_ rfl) ?_
 ·simp only[go_sem]
 simp only[go_sem]
 repeat refine sq ?_
 refine rx hΓ [1,2,4] [[1,0],[2,0]] (fun K' hK=>by simp only[go_sem];(repeat (refine⟨ai,?_⟩));exact hK _ (by simp only[go_sem]) (by simp only[go_sem]<;>rfl)) ?_
 repeat refine sq ?_
 refine rx hΓ [1,2,4,9] [[1,0],[2,0]] (fun K' hK=>by simp only[go_sem];(repeat (refine⟨ai,?_⟩));exact hK _ (by simp only[go_sem]) (by simp only[go_sem]<;>rfl)) ?_
 repeat refine sq ?_
 refine aD rfl rfl (fun hb=>?_) (fun hb=>?_)
 ·repeat refine sq ?_
  have hd:=sv hb
  repeat refine sq ?_
  refine rx hΓ [2,3] [[2,0]] (fun K' hK=>by simp only[go_sem,List.append_nil];(repeat (refine⟨ai,?_⟩));exact hK _ (by simp only[go_sem]) (by simp only[go_sem]<;>rfl)) ?_
  refine ax ?_
  simp only[go_sem]
  first | (rw[Af hd];done) | (rw[Af hd];rfl) | (rw[lz hd,ed hd];done) | (rw[lz hd,ed hd];rfl)
 ·repeat refine sq ?_
  have hd:=ss hb
  refine aI ?_
  repeat refine sq ?_
  refine rx hΓ [2,5] [[2,0],[22,0,13,0]] (fun K' hK=>by simp only[go_sem,hs,List.append_nil];(repeat (refine⟨ai,?_⟩));exact hK _ (by simp only[go_sem]) (by simp only[go_sem]<;>rfl)) ?_
  repeat refine sq ?_
  refine rx hΓ [2,5] [[2,0],[22,0,13,0]] (fun K' hK=>by simp only[go_sem,List.append_nil];(repeat (refine⟨ai,?_⟩));exact hK _ (by simp only[go_sem]) (by simp only[go_sem]<;>rfl)) ?_
  repeat refine sq ?_
  refine rx hΓ [2,3] [[2,0]] (fun K' hK=>by simp only[go_sem,List.append_nil];(repeat (refine⟨ai,?_⟩));exact hK _ (by simp only[go_sem]) (by simp only[go_sem]<;>rfl)) ?_
  refine ax ?_
  simp only[go_sem]
  first | (rw[Af hd];done) | (rw[Af hd];rfl) | (rw[lz hd,ed hd];done) | (rw[lz hd,ed hd];rfl)
theorem KR:ak Tryd.prog 16 S12:=S0.sound
noncomputable def Pz:List (Nat×Spec):=[(77,S39)]
theorem aim:∀ f s,tbl Pz f=some s->ak Tryd.prog f s:=tc rj<|tn
attribute [go_sem] Pz
noncomputable def P21:PSpec:=p2 iI iI (fun n m=>0<m/\m<=1000000) (fun n m=>vInt (n % m)) true
noncomputable def S21:Spec:=P21.toSpec
attribute [go_sem] P21 S21
theorem SU:aZ Tryd.prog 12 P21:=by
 refine w2 (rs:=[.tmp 4]) Tryd.func12 Tryd.ntmps12 (by rfl) (by kernel_rfl) (by decide) (fun _ _ _=>rfl) ⟨_,rfl,lb rfl,fun n m hp hw=>?_⟩
 have hP:=br
 simp only[iI]at hw |-
 have hΓ:=@kE Tryd.prog
 obtain⟨hm,e8⟩:=hp
 have h0:m≠0:=by omega
 have bY: -m<n.tmod m/\n.tmod m<m:=⟨Int.lt_tmod_of_pos _ hm,Int.tmod_lt_of_pos _ hm⟩
 have w2:IntKind.i64.wrap (n.tmod m+m)=n.tmod m+m:=wrap_i64 (by omega) (by omega)
 have e1:(n.tmod m+m).tmod m=n % m:=by
  rw[Int.tmod_eq_emod_of_nonneg (by omega),Int.add_emod_right]
  have h1:=Int.tmod_add_mul_tdiv n m
  have h2:(n.tmod m+m*n.tdiv m) % m=n.tmod m % m:=Int.add_mul_emod_self_left _ _ _
  rw[<-h2,h1]
 repeat refine sq ?_
 refine rx hΓ [0,1] [] (fun K' hK=>by simp only[go_sem];(repeat (refine⟨ai,?_⟩));exact hK _ (by simp only[go_sem]) (by simp only[go_sem]<;>rfl)) ?_
 repeat refine sq ?_
 refine rx hΓ [4] [] (fun K' hK=>by simp only[go_sem,w2,e1,h0,ne_eq,not_false_eq_true];(repeat (refine⟨by first | exact ai | exact h0,?_⟩));exact hK _ (by simp only[go_sem]) (by simp only[go_sem]<;>rfl)) ?_
 refine ax ?_
 simp only[go_sem]
 skip
theorem CY:ak Tryd.prog 12 S21:=SU.sound
theorem agp(n:Int):(n % 2==1)=(n.tmod 2 != 0):=by
 rw[Bool.eq_iff_iff,beq_iff_eq,bne_iff_ne]
 have h1:=Int.tmod_add_mul_tdiv n 2
 have h2:=Int.emod_add_mul_ediv n 2
 have h3:=Int.lt_tmod_of_pos n (b:=2) (by decide)
 have h6:=Int.tmod_lt_of_pos n (b:=2) (by decide)
 constructor<;>intro h<;>omega
def iN(d:Dk)(n:Int):Dk:=(iz d n).setW (-1)
structure FlF (d:Dk) (n:Int):Prop where
 f0:0<=be (iN d n)
 f2:be (iN d n)<2
 k:(be (iN d n)).toNat<2
 sz:jN (aN (iN d n))
theorem aae{d:Dk}{n:Int}(h:av d=true):FlF d n:=by
 obtain⟨h1,h2,h3,h4⟩:=oW (E2 (n:=n) h)
 exact⟨h1,h2,h3,h4.sz⟩
theorem aac(d:Dk)(n:Int):List.take 1 (List.map D.v (an (iN d n)))++List.map D.v (aA (aN (iN d n)))++List.drop 20 (List.map D.v (an (iN d n)))=List.map D.v (an (E4 d n)):=aas (iN d n) (aN (iN d n))
theorem Hi{d:Dk}{n:Int}:gM d n=(if (decide (d.wet>=0))=true then(n.tmod 2 != 0)else false):=by
 unfold gM
 by_cases h:0<=d.wet
 ·rw[decide_eq_true h];rfl
 ·rw[decide_eq_false h];rfl
noncomputable def Py:List (Nat×Spec):=[(39,S23),(43,S53),(45,S58),(37,S59)]
theorem acu:∀ f s,tbl Py f=some s->ak Tryd.prog f s:=tc pK<|tc CU<|tc yU<|tc vN<|tn
attribute [go_sem] Py
noncomputable def P14:PSpec:=p2 dK iI (fun d _=>eL d) (fun d n=>.tup [kS (gF d n),vInt (iQ d)]) false
noncomputable def S14:Spec:=P14.toSpec
attribute [go_sem] P14 S14
set_option maxHeartbeats 4000000 in
theorem SX:aZ Tryd.prog 31 P14:=by
 refine w2 (rs:=[.cell 4 44,.tmp 5]) Tryd.func31 Tryd.ntmps31 (by rfl) (by kernel_rfl) (by decide) (fun h=>by cases h) ⟨_,rfl,lb rfl,fun d n hp hw=>?_⟩
 have hP:=br
 simp only[dK,iI]at hw |-
 have hΓ:=acu
 have hs:eL d:=hp
 repeat refine sq ?_
 refine rx hΓ [1,2,4] [[2,0],[4,0]] (fun K' hK=>by simp only[go_sem];(repeat (refine⟨ai,?_⟩));exact hK _ (by simp only[go_sem]) (by simp only[go_sem]<;>rfl)) ?_
 refine bq (mW [4,0] _ (an zD) rfl rfl [1,2,4] [[2,0],[4,0]] ?_ rfl) ?_
 ·simp only[go_sem]
 simp only[go_sem]
 refine bq (dS [2,0] (an d) rfl [1,2,4] [[2,0],[4,0]] ?_ rfl) ?_
 ·simp only[go_sem]
 simp only[go_sem]
 repeat refine sq ?_
 refine rx hΓ [1,2,4,6] [[2,0],[4,0]] (fun K' hK=>by simp only[go_sem];(repeat (refine⟨ai,?_⟩));exact hK _ (by simp only[go_sem]) (by simp only[go_sem]<;>rfl)) ?_
 repeat refine sq ?_
 refine rx hΓ [1,2,4,6,12] [[2,0],[4,0]] (fun K' hK=>by simp only[go_sem];(repeat (refine⟨ai,?_⟩));exact hK _ (by simp only[go_sem]) (by simp only[go_sem]<;>rfl)) ?_
 repeat refine sq ?_
 refine aD rfl rfl (fun hb=>?_) (fun hb=>?_)
 ·repeat refine sq ?_
  have hd:=sv hb
  repeat refine sq ?_
  refine rx hΓ [4,5] [[4,0]] (fun K' hK=>by simp only[go_sem];(repeat (refine⟨ai,?_⟩));exact hK _ (by simp only[go_sem]) (by simp only[go_sem]<;>rfl)) ?_
  refine ax ?_
  simp only[go_sem]
  first | (rw[uI hd];done) | (rw[uI hd];rfl) | (rw[nG hd,ed hd];done) | (rw[nG hd,ed hd];rfl)
 ·repeat refine sq ?_
  have hd:=ss hb
  have HF:=aae (n:=n) hd
  have g0:=HF.f0;have g2:=HF.f2;have gk:=HF.k;have gN:=aac d n
  have p9:∀ (F:Name->Option O) (t:Name),F [22,0,16,0]=some (.box ((an (iN d n)).map .v))->S59.app (fun nm=>if own [0] nm=true then F nm else none) t [.ref [22,0,16,0] (20+(be (iN d n)).toNat*21+1)]=⟨True,.v (.agg (aA (aN (iN d n)))),fun nm=>if own [0] nm=true then F nm else none⟩:=fun F t h=>pv (s:=aN (iN d n)) (L:=an (iN d n)) h (Fw _ gk) HF.sz
  refine aI ?_
  repeat refine sq ?_
  refine rx hΓ [1,4,7] [[4,0],[22,0,16,0]] (fun K' hK=>by simp only[go_sem,hs];(repeat (refine⟨ai,?_⟩));exact hK _ (by simp only[go_sem]) (by simp only[go_sem]<;>rfl)) ?_
  repeat refine sq ?_
  refine rx hΓ [4,7,27] [[4,0],[22,0,16,0]] (fun K' hK=>by simp only[go_sem,Nat.add_zero];(repeat (refine⟨ai,?_⟩));exact hK _ (by simp only[go_sem]) (by simp only[go_sem]<;>rfl)) ?_
  repeat refine sq ?_
  refine aD rfl rfl (fun hb=>?_) (fun hb=>?_)
  ·repeat refine sq ?_
   have ox:gM d n=true:=by rw[Hi];simpa using hb
   have hw:=vm ox
   obtain⟨b1,b2,b3,b4,_⟩:=nJ hd hw
   have b0:0<=d.wet:=by omega
   have hu:=Ig (BS b1 b2 d.wet.toNat)
   have u1:=aaw d b3
   have u2:IntKind.i64.wrap ((d.pg d.wet.toNat).su+1)=(d.pg d.wet.toNat).su+1:=wrap_i64 (by omega) (by omega)
   have u3:List.take (20+d.wet.toNat*21+20) (List.map D.v (an d))++[D.v (vInt (((d.pg d.wet.toNat).su+1).tmod 1000003))]++List.drop (20+d.wet.toNat*21+20+1) (List.map D.v (an d))=List.map D.v (an (iz d n)):=by rw[Ns d b3,nW ox]
   have u4:(iz d n).setW (-1)=iN d n:=rfl
   repeat refine sq ?_
   refine dx hΓ hP [[],[],[1],[1,2],[1,2,3],[1,2,3,4],[0],[0,6],[0,6,7],[0,1,2,3,4,5,6,7,8],[0,1,2,3,4,5,6,7,8,9]] [4,7,8] [[4,0],[22,0,16,0]] (by kernel_rfl) (fun K' hK=>by simp only[go_sem,b0,b4];(repeat (refine⟨ai,?_⟩));(first | refine⟨by rfl,?_⟩ | skip);exact hK _ (by simp only[go_sem]) (by simp only[go_sem]<;>rfl)) ?_
   repeat refine sq ?_
   refine rx hΓ [4,7] [[4,0],[22,0,16,0]] (fun K' hK=>by simp only[go_sem,u1,u2,u3];(repeat (refine⟨ai,?_⟩));exact hK _ (by simp only[go_sem]) (by simp only[go_sem]<;>rfl)) ?_
   repeat refine sq ?_
   refine rx hΓ [4,7] [[4,0],[22,0,16,0]] (fun K' hK=>by simp only[go_sem,u4];(repeat (refine⟨ai,?_⟩));exact hK _ (by simp only[go_sem]) (by simp only[go_sem]<;>rfl)) ?_
   repeat refine sq ?_
   refine dx hΓ hP [[],[],[],[2],[2,3],[2,3,4],[2,3,4,5],[1],[1,7],[1,7,8],[1,2,3,4,5,6,7,8,9],[1,2,3,4,5,6,7,8,9,10],[1,2,3,4,5,6,7,8,9,10,11],[0,1,2,3,4,5,6,7,8,9,10,11,12],[0,1,2,3,4,5,6,7,8,9,10,11,12,13],[0,1,2,3,4,5,6,7,8,9,10,11,12,13,14],[0,1,2,3,4,5,6,7,8,9,10,11,12,13,14,15]] [4,7] [[4,0],[22,0,16,0]] (by kernel_rfl) (fun K' hK=>by simp only[go_sem,g0,g2,p9,gN];(repeat (refine⟨ai,?_⟩));(first | refine⟨by rfl,?_⟩ | skip);exact hK _ (by simp only[go_sem]) (by simp only[go_sem]<;>rfl)) ?_
   repeat refine sq ?_
   refine rx hΓ [4,5] [[4,0]] (fun K' hK=>by simp only[go_sem];(repeat (refine⟨ai,?_⟩));exact hK _ (by simp only[go_sem]) (by simp only[go_sem]<;>rfl)) ?_
   refine ax ?_
   simp only[go_sem]
   first | (rw[uI hd];done) | (rw[uI hd];rfl) | (rw[nG hd,ed hd];done) | (rw[nG hd,ed hd];rfl)
  ·repeat refine sq ?_
   have ox:gM d n=false:=by rw[Hi];simpa using hb
   have u4:d.setW (-1)=iN d n:=by unfold iN;rw[nh ox]
   refine aI ?_
   repeat refine sq ?_
   refine rx hΓ [4,7] [[4,0],[22,0,16,0]] (fun K' hK=>by simp only[go_sem,u4];(repeat (refine⟨ai,?_⟩));exact hK _ (by simp only[go_sem]) (by simp only[go_sem]<;>rfl)) ?_
   repeat refine sq ?_
   refine dx hΓ hP [[],[],[],[2],[2,3],[2,3,4],[2,3,4,5],[1],[1,7],[1,7,8],[1,2,3,4,5,6,7,8,9],[1,2,3,4,5,6,7,8,9,10],[1,2,3,4,5,6,7,8,9,10,11],[0,1,2,3,4,5,6,7,8,9,10,11,12],[0,1,2,3,4,5,6,7,8,9,10,11,12,13],[0,1,2,3,4,5,6,7,8,9,10,11,12,13,14],[0,1,2,3,4,5,6,7,8,9,10,11,12,13,14,15]] [4,7] [[4,0],[22,0,16,0]] (by kernel_rfl) (fun K' hK=>by simp only[go_sem,g0,g2,p9,gN];(repeat (refine⟨ai,?_⟩));(first | refine⟨by rfl,?_⟩ | skip);exact hK _ (by simp only[go_sem]) (by simp only[go_sem]<;>rfl)) ?_
   repeat refine sq ?_
   refine rx hΓ [4,5] [[4,0]] (fun K' hK=>by simp only[go_sem];(repeat (refine⟨ai,?_⟩));exact hK _ (by simp only[go_sem]) (by simp only[go_sem]<;>rfl)) ?_
   refine ax ?_
   simp only[go_sem]
   first | (rw[uI hd];done) | (rw[uI hd];rfl) | (rw[nG hd,ed hd];done) | (rw[nG hd,ed hd];rfl)
theorem WS:ak Tryd.prog 31 S14:=SX.sound
noncomputable def Px:List (Nat×Spec):=[(77,S39),(12,S21)]
theorem ail:∀ f s,tbl Px f=some s->ak Tryd.prog f s:=tc rj<|tc CY<|tn
attribute [go_sem] Px
open Go
def du(a b:Name)(nm:Name):Name:=if nm=a then b else if nm=b then a else nm
theorem Rc(a b nm:Name):du a b (du a b nm)=nm:=by
 unfold du
 by_cases h1:nm=a
 ·rw[if_pos h1]
  by_cases h2:b=a
  ·rw[if_pos h2,h2,h1]
  ·rw[if_neg h2,if_pos rfl,h1]
 ·rw[if_neg h1]
  by_cases h2:nm=b
  ·rw[if_pos h2,if_pos rfl,h2]
  ·rw[if_neg h2,if_neg h1,if_neg h2]
theorem Rd{a b nm:Name}(h1:nm≠a)(h2:nm≠b):du a b nm=nm:=by unfold du;rw[if_neg h1,if_neg h2]
mutual
theorem D.clos_tt:∀ d:D,D.clos (fun _=>true) d=true
 | .v _=>rfl
 | .nilsl=>rfl
 | .nilmap=>rfl
 | .any=>rfl
 | .ref _ _=>rfl
 | .msl _ _=>rfl
 | .aref _ _ _ _=>rfl
 | .map _=>rfl
 | .yld _=>rfl
 | .clo _ a b=>by simp only[D.clos,D.closL_tt a,D.closL_tt b,Bool.and_self]
 | .agg l=>by simp only[D.clos,D.closL_tt l]
 | .tup l=>by simp only[D.clos,D.closL_tt l]
theorem D.closL_tt:∀ l:List D,D.closL (fun _=>true) l=true
 |[]=>rfl
 |d::r=>by simp only[D.closL,D.clos_tt d,D.closL_tt r,Bool.and_self]
end
theorem O.clos_tt(o:O):O.clos (fun _=>true) o=true:=by
 cases o<;>first | rfl | exact D.closL_tt _
mutual
theorem D.ren_fix{f:Name->Name}{dom:Name->Bool}(hf:∀ nm,dom nm=true->f nm=nm):∀ d:D,D.clos dom d=true->d.ren f=d
 | .v _,_=>rfl
 | .nilsl,_=>rfl
 | .nilmap,_=>rfl
 | .any,_=>rfl
 | .ref nm _,h=>by simp only[D.ren];rw[hf nm h]
 | .msl nm _,h=>by simp only[D.ren];rw[hf nm h]
 | .aref nm _ _ _,h=>by simp only[D.ren];rw[hf nm h]
 | .map nm,h=>by simp only[D.ren];rw[hf nm h]
 | .yld nm,h=>by simp only[D.ren];rw[hf nm h]
 | .clo _ a b,h=>by
   simp only[D.clos,Bool.and_eq_true]at h
   simp only[D.ren];rw[D.renL_fix hf a h.1,D.renL_fix hf b h.2]
 | .agg l,h=>by simp only[D.clos]at h;simp only[D.ren];rw[D.renL_fix hf l h]
 | .tup l,h=>by simp only[D.clos]at h;simp only[D.ren];rw[D.renL_fix hf l h]
theorem D.renL_fix{f:Name->Name}{dom:Name->Bool}(hf:∀ nm,dom nm=true->f nm=nm):∀ l:List D,D.closL dom l=true->D.renL f l=l
 |[],_=>rfl
 |d::r,h=>by
  simp only[D.closL,Bool.and_eq_true]at h
  simp only[D.renL];rw[D.ren_fix hf d h.1,D.renL_fix hf r h.2]
end
theorem O.ren_fix{f:Name->Name}{dom:Name->Bool}(hf:∀ nm,dom nm=true->f nm=nm)(o:O)(h:O.clos dom o=true):o.ren f=o:=by
 cases o with
 |box cs=>simp only[O.clos]at h;simp only[O.ren];rw[D.renL_fix hf cs h]
 |loop env ps asg body st bh=>
  simp only[O.clos]at h
  simp only[O.ren,O.loop.injEq,and_true]
  refine List.ext_getElem (by simp) fun i h1 h2=>?_
  have :=iw (l:=env.map (·.d)) (i:=i) (by simpa using h2) h
  simp only[List.getElem_map,E.ren]at this |-
  rw[D.ren_fix hf _ this]
 |_=>rfl
def sU(a b:Name)(σ:S):S:=
 ⟨σ.nt,fun t=>(σ.env t).ren (du a b),fun nm=>if own σ.pre nm=true then(σ.obj (du a b nm)).map (O.ren (du a b))else σ.obj nm,σ.pre,σ.base⟩
theorem Qt{σ:S}(a b:Name)(ha:own σ.pre a=true)(hb:own σ.pre b=true)(hO:bW σ.pre (fun nm=>!own σ.pre nm) σ.obj):dj σ (sU a b σ):=by
 intro G φ m x w hC
 obtain⟨f,hf⟩:∃ f,f=du a b:=⟨_,rfl⟩
 have zE:∀ nm,f (f nm)=nm:=fun nm=>by rw[hf];exact Rc a b nm
 have Eh:∀ nm,own σ.pre nm=false->f nm=nm:=fun nm h=>by
  rw[hf]
  exact Rd (fun e=>by rw[e,ha]at h;cases h) (fun e=>by rw[e,hb]at h;cases h)
 have oA:∀ nm,(sU a b σ).obj nm=(σ.obj (f nm)).map (O.ren f):=fun nm=>by
  show (if own σ.pre nm=true then(σ.obj (du a b nm)).map (O.ren (du a b))else σ.obj nm)=_
  rw[<-hf]
  cases ho:own σ.pre nm with
  |true=>rw[if_pos rfl]
  |false=>
   rw[if_neg (by simp),Eh nm ho]
   cases hn:σ.obj nm with
   |none=>rfl
   |some o=>
    rw[Option.map_some,O.ren_fix (dom:=fun nm=>!own σ.pre nm) (fun x hx=>Eh x (by simpa using hx)) o (hO nm o ho hn)]
 have jE:∀ nm o,(sU a b σ).obj nm=some o->∃ o',σ.obj (f nm)=some o'/\o=o'.ren f:=fun nm o h=>by
  rw[oA]at h
  cases hn:σ.obj (f nm)with
  |none=>rw[hn]at h;cases h
  |some o'=>rw[hn]at h;cases h;exact⟨o',rfl,rfl⟩
 have hX:u7 f φ (fun nm=>φ (f nm)) σ.obj (sU a b σ).obj (fun _=>true):=fun nm o _ ho=>
  ⟨o.ren f,by rw[oA,zE,ho];rfl,.inl ⟨O.len_ren f o,by show φ (f (f nm))=φ nm;rw[zE],O.sz_ren f o⟩⟩
 have hh:∀ nm,holds (fun nm=>φ (f nm)) (sU a b σ).obj nm->holds φ σ.obj (f nm):=by
  rintro nm ⟨o,h1,h2,h3⟩
  obtain⟨o',h4,rfl⟩:=jE nm o h1
  exact⟨o',h4,by rw[<-O.mut_ren f];exact h2,h3⟩
 refine⟨fun nm=>φ (f nm),?_⟩
 constructor
 ·intro t
  have :(sU a b σ).env t=(σ.env t).ren f:=by rw[hf];rfl
  rw[this]
  exact(hC.tmps t).renx (Mem.le_refl m) hX (D.clos_tt _)
 ·exact hC.size
 ·exact hC.defers
 ·intro nm o h
  obtain⟨o',h4,rfl⟩:=jE nm o h
  exact(hC.objs (f nm) o' h4).ren (Mem.le_refl m) hX (O.clos_tt o') (fun _ _=>rfl)
 ·exact hC.mem
 ·exact fun nm hn=>hC.apart (f nm) (hh nm hn)
 ·intro nm jx h1 h2 e
  have :=hC.inj _ _ (hh nm h1) (hh jx h2) e
  rw[<-zE nm,this,zE]
 ·exact fun nm hn=>hC.own (f nm) (hh nm hn)
 ·exact hC.fr
 ·exact hC.fresh
 ·refine⟨hC.kept.1,fun nm o ho=>?_⟩
  obtain⟨o',h1,h2⟩:=hC.kept.2 nm o ho
  have hn:=Eh nm (hC.kept.1 nm o ho)
  refine⟨o'.ren f,by rw[oA,hn,h1];rfl,?_⟩
  rw[O.len_ren,O.sz_ren]
  show _/\φ (f nm)=_/\_\/_
  rw[hn]
  exact h2
theorem Qz{nt:Nat}{p:Name}{H:Name->Option O}{l l':List (Nat×E)}{h h':List (Name×O)}(a b:Name)(ks:List Nat)(ns:List Name)(ha:own p a=true)(hb:own p b=true)
 (hO:bW p (bP p []) H) (hn:(ns.all fun nm=>own p nm)=true)
 (hl:(ks.map fun t=>(t,(db eAny l t).ren (du a b)))=l')
 (hh:(ns.filterMap fun nm=>(db none (h.map fun q=>(q.1,some q.2)) (du a b nm)).map fun o=>(nm,o.ren (du a b)))=h')
 (hc:((l'.all fun q=>D.clos (bP p h') q.2.d)&&(h'.all fun q=>O.clos (bP p h') q.2))=true):cI (aO nt p H l h) (aO nt p H l' h'):=by
 have gW:bW p (fun nm=>!own p nm) H:=by
  intro x q hx hq
  have :=hO x q hx hq
  have e:bP p []=fun nm=>!own p nm:=by funext nm;simp[bP]
  rw[e]at this;exact this
 have hw:=Qt (σ:=aO nt p H l h) a b ha hb (fun nm o h1 h2=>by
  have :(aO nt p H l h).obj nm=H nm:=if_neg (by rw[show own p nm=false from h1];decide)
  rw[this]at h2
  exact gW nm o h1 h2)
 have XU:∀ nm,own p nm=true->own p (du a b nm)=true:=fun nm h=>by
  unfold du
  split
  ·exact hb
  ·split
   ·exact ha
   ·exact h
 refine(hw.trans (Fits.weak (p:=p) (H:=H) (l:=l') (h:=h') ⟨rfl,fun nm al=>?_,fun q hq=>?_,fun q hq=>?_,?_,?_,?_⟩)).toM
 ·show (if own p nm=true then _ else(if own p nm=true then _ else H nm))=H nm
  rw[if_neg (by rw[al];decide),if_neg (by rw[al];decide)]
 ·rw[<-hl]at hq
  obtain⟨t,_,rfl⟩:=List.mem_map.1 hq
  rfl
 ·rw[<-hh]at hq
  obtain⟨nm,hm,e⟩:=List.mem_filterMap.1 hq
  have Lx:=List.all_eq_true.1 hn nm hm
  cases ho:db none (h.map fun q=>(q.1,some q.2)) (du a b nm)with
  |none=>rw[ho]at e;cases e
  |some o=>
   rw[ho]at e
   cases e
   show (if own p nm=true then Option.map _ (if own p (du a b nm)=true then db none (h.map fun q=>(q.1,some q.2)) (du a b nm)else H (du a b nm))else _)=_
   rw[if_pos Lx,if_pos (XU nm Lx),ho]
   rfl
 ·rw[Bool.and_eq_true]at hc;exact hc.1
 ·rw[Bool.and_eq_true]at hc;exact hc.2
 ·exact acd gW h'
def Spec.ite(c:Name->List D->Bool)(s1 s2:Spec):Spec where
 app obj t ds:=if c t ds=true then s1.app obj t ds else s2.app obj t ds
 foot obj t ds:=if c t ds=true then s1.foot obj t ds else s2.foot obj t ds
 wrt obj t ds:=if c t ds=true then s1.wrt obj t ds else s2.wrt obj t ds
theorem Spec.ite_near{c:Name->List D->Bool}{s1 s2:Spec}(h1:s1.Near)(h2:s2.Near):(Spec.ite c s1 s2).Near:=by
 refine⟨fun obj obj2 t ds h=>?_,fun obj obj2 t ds h=>?_,fun obj t ds nm hn=>?_,fun obj obj2 t ds h=>?_⟩<;>simp only[Spec.ite]at *
 ·split
  ·rename_i hc;simp only[hc,if_true]at h;exact h1.like _ _ _ _ h
  ·rename_i hc;simp only[hc,if_false,Bool.false_eq_true]at h;exact h2.like _ _ _ _ h
 ·split
  ·rename_i hc;simp only[hc,if_true]at h;exact h1.foot _ _ _ _ h
  ·rename_i hc;simp only[hc,if_false,Bool.false_eq_true]at h;exact h2.foot _ _ _ _ h
 ·by_cases hc:c t ds=true
  ·rw[if_pos hc]at hn |-;exact h1.sub _ _ _ _ hn
  ·rw[if_neg hc]at hn |-;exact h2.sub _ _ _ _ hn
 ·split
  ·rename_i hc;simp only[hc,if_true]at h;exact h1.wrt _ _ _ _ h
  ·rename_i hc;simp only[hc,if_false,Bool.false_eq_true]at h;exact h2.wrt _ _ _ _ h
theorem ak.ite{P:Program}{f:FuncId}{s1 s2:Spec}(c:Name->List D->Bool)(h1:ak P f s1)(h2:ak P f s2)(aj:f≠yid):ak P f (Spec.ite c s1 s2):=by
 refine⟨Spec.ite_near h1.near h2.near,h1.enter,fun hf G φ m σ a w hC t ds us ht hl hr aa=>?_,fun e=>(aj e).elim⟩
 simp only[Spec.ite]at aa |-
 split
 ·rename_i hc
  rw[if_pos hc]at aa
  exact h1.calls hf G φ m σ a w hC t ds us ht hl hr aa
 ·rename_i hc
  rw[if_neg hc]at aa
  exact h2.calls hf G φ m σ a w hC t ds us ht hl hr aa
def uJ(s:Stk)(j z:Nat):List V:=if j<z then(s.un.get j).map encPa else[]
def gu(nm:Name)(s:Stk)(j z:Nat):List D:=(ki s z).set (1+j) (.msl nm (uJ s j z).length)
theorem Ar{dom:Name->Bool}{nm:Name}{n:Nat}:∀ {cs:List D} {i:Nat},D.closL dom cs=true->D.closL dom (cs.set i (.msl nm n))=(dom nm||decide (cs.length<=i))
 |[],i,_=>by simp[D.closL]
 |d::r,0,h=>by
  simp only[D.closL,Bool.and_eq_true]at h
  simp[D.closL,D.clos,h.2]
 |d::r,i+1,h=>by
  simp only[D.closL,Bool.and_eq_true]at h
  simp only[List.set_cons_succ,D.closL,h.1,Bool.true_and,Ar h.2,List.length_cons,Nat.add_le_add_iff_right]
@[go_sem] theorem ahc(dom:Name->Bool)(nm:Name)(s:Stk)(j z:Nat):D.closL dom (gu nm s j z)=(dom nm||decide (19<=1+j)):=Ar (aaW dom s z)
@[go_sem] theorem NS(nm:Name)(s:Stk)(j z:Nat):(gu nm s j z).length=19:=by
  unfold gu;rw[List.length_set];rfl
@[go_sem] theorem ahd(nm:Name)(s:Stk)(j z:Nat):(gu nm s j z).take 19=gu nm s j z:=List.take_of_length_le (by rw[NS];exact Nat.le_refl _)
@[go_sem] theorem ahb(nm:Name)(s:Stk)(j z:Nat):(gu nm s j z).drop 19=[]:=List.drop_of_length_le (by rw[NS];exact Nat.le_refl _)
theorem ahZ{a:D}{r:List D}{j:Nat}(h:j<6):(a:: .nilsl:: .nilsl:: .nilsl:: .nilsl:: .nilsl:: .nilsl::r)[1+j]?=some .nilsl:=by
 match j,h with
 | 0,_=>rfl
 | 1,_=>rfl
 | 2,_=>rfl
 | 3,_=>rfl
 | 4,_=>rfl
 | 5,_=>rfl
theorem ag'(nm:Name)(s:Stk){i j:Nat}(hi:i<6)(hj:j<6)(h:i≠j):List.take (1+i) (gu nm s j i)++[D.v (.sl ((s.un.get i).map encPa))]++List.drop (1+i+1) (gu nm s j i)=gu nm s j (i+1):=by
 match i,hi with
 | 0,_=>match j,hj with
   | 0,_=>exact absurd rfl h
   | 1,_=>rfl
   | 2,_=>rfl
   | 3,_=>rfl
   | 4,_=>rfl
   | 5,_=>rfl
 | 1,_=>match j,hj with
   | 0,_=>rfl
   | 1,_=>exact absurd rfl h
   | 2,_=>rfl
   | 3,_=>rfl
   | 4,_=>rfl
   | 5,_=>rfl
 | 2,_=>match j,hj with
   | 0,_=>rfl
   | 1,_=>rfl
   | 2,_=>exact absurd rfl h
   | 3,_=>rfl
   | 4,_=>rfl
   | 5,_=>rfl
 | 3,_=>match j,hj with
   | 0,_=>rfl
   | 1,_=>rfl
   | 2,_=>rfl
   | 3,_=>exact absurd rfl h
   | 4,_=>rfl
   | 5,_=>rfl
 | 4,_=>match j,hj with
   | 0,_=>rfl
   | 1,_=>rfl
   | 2,_=>rfl
   | 3,_=>rfl
   | 4,_=>exact absurd rfl h
   | 5,_=>rfl
 | 5,_=>match j,hj with
   | 0,_=>rfl
   | 1,_=>rfl
   | 2,_=>rfl
   | 3,_=>rfl
   | 4,_=>rfl
   | 5,_=>exact absurd rfl h
theorem GU(s:Stk){i j:Nat}(h:i≠j):uJ s j i=uJ s j (i+1):=by
 unfold uJ
 by_cases h1:j<i
 ·rw[if_pos h1,if_pos (by omega)]
 ·rw[if_neg h1,if_neg (by omega)]
theorem QL(s:Stk)(j:Nat):uJ s j (j+1)=(s.un.get j).map encPa:=if_pos (Nat.lt_succ_self j)
theorem ag9(s:Stk){j:Nat}(hj:j<6):D.renL (du [24,0] [99,0]) (List.take (1+j) (gu [99,0] s j j)++[D.msl [24,0] (s.un.get j).length]++List.drop (1+j+1) (gu [99,0] s j j))=gu [99,0] s j (j+1):=by
 match j,hj with
 | 0,_=>simp[gu,ki,ql,uJ,D.renL,D.ren,du,aR.get]
 | 1,_=>simp[gu,ki,ql,uJ,D.renL,D.ren,du,aR.get]
 | 2,_=>simp[gu,ki,ql,uJ,D.renL,D.ren,du,aR.get]
 | 3,_=>simp[gu,ki,ql,uJ,D.renL,D.ren,du,aR.get]
 | 4,_=>simp[gu,ki,ql,uJ,D.renL,D.ren,du,aR.get]
 | 5,_=>simp[gu,ki,ql,uJ,D.renL,D.ren,du,aR.get]
theorem ahe(s:Stk)(j:Nat):List.set [D.v (V.sl (List.map vInt s.ho)),D.nilsl,D.nilsl,D.nilsl,D.nilsl,D.nilsl,D.nilsl,D.v (vInt s.se.a),D.v (vInt s.se.b),D.v (vInt s.se.c),D.v (vInt s.se.d),D.v (vInt s.se.e),D.v (vInt s.se.f),D.v (vInt s.ta.a),D.v (vInt s.ta.b),D.v (vInt s.ta.c),D.v (vInt s.ta.d),D.v (vInt s.ta.e),D.v (vInt s.ta.f)] (1+j) (D.msl [99,0] 0)=gu [99,0] s j 0:=rfl
theorem uJ0(s:Stk)(j:Nat):uJ s j 0=[]:=rfl
@[go_sem] theorem NZ(dom:Name->Bool)(l:List V)(i:Nat)(nm:Name)(n:Nat):D.closL dom ((List.map D.v l).set i (.msl nm n))=(dom nm||decide (l.length<=i)):=by
  rw[Ar (qn dom l),List.length_map]
@[go_sem] theorem ni(l:List V)(i:Nat)(d:D):((List.map D.v l).set i d).length=l.length:=by simp
@[go_sem] theorem ae'(s:Stk)(i:Nat)(d:D):List.take 19 ((List.map D.v (aA s)).set i d)=(List.map D.v (aA s)).set i d:=List.take_of_length_le (by rw[ni];exact Nat.le_refl _)
@[go_sem] theorem Nt(s:Dk)(i:Nat)(d:D):List.take 63 ((List.map D.v (an s)).set i d)=(List.map D.v (an s)).set i d:=List.take_of_length_le (by rw[ni];exact Nat.le_refl _)
theorem Ba(s:Stk){j:Nat}(hj:j<6):uJ s j 6=(s.un.get j).map encPa:=if_pos hj
theorem qm{dom:Name->Bool}{cs:List D}:D.closL dom cs=true↔∀ d∈cs,D.clos dom d=true:=by
 induction cs with
 |nil=>simp[D.closL]
 |cons d r ih=>simp[D.closL,ih]
@[go_sem] theorem ahf{dom:Name->Bool}{cs:List D}(n:Nat)(h:D.closL dom cs=true):D.closL dom (cs.take n)=true:=qm.2 fun d hd=>qm.1 h d (List.mem_of_mem_take hd)
@[go_sem] theorem ahh{dom:Name->Bool}{cs:List D}(n:Nat)(h:D.closL dom cs=true):D.closL dom (cs.drop n)=true:=qm.2 fun d hd=>qm.1 h d (List.mem_of_mem_drop hd)
theorem aha(nm:Name)(s:Stk){j:Nat}(hj:j<6):gu nm s j 6=(List.map D.v (aA s)).set (1+j) (.msl nm (s.un.get j).length):=by
 unfold gu
 rw[aaV,uJ,if_pos hj,List.length_map]
theorem QB{σ τ:S}(p:Prop)[Decidable p](h1:p->cI σ τ)(h2:¬ p->cI σ τ):cI σ τ:=by
 by_cases h:p
 ·exact h1 h
 ·exact h2 h
def yv:D->D
 | .nilsl=>.v (.sl [])
 |d=>d
theorem QF{σ:S}(b:Name)(cs:List D)(hb:σ.obj b=some (.box cs)):cI σ ⟨σ.nt,σ.env,upd σ.obj b (some (.box (cs.map yv))),σ.pre,σ.base⟩:=by
 intro G φ m a w hC
 obtain⟨h1,h2,h3,us,T,f,h4,h5,h6,h7⟩:=hC.objs b _ hb
 have iE:=Ext.same (φ:=φ) (o':=.box (cs.map yv)) hb rfl rfl
 have rB:=iE
 rw[eE]at rB
 refine⟨_,m,hC.chg (w':=w) b (.box (cs.map yv)) _ iE ⟨rfl,rfl,rfl,Nat.le_refl _⟩ (fun _ _ _=>rfl) (fun _=>.inr ⟨⟨_,hb,rfl,h2⟩,rfl⟩) ?_⟩
 rw[eE]
 refine⟨h1,h2,fun d hd=>?_,us,T,f,h4,h5,by rw[List.length_map];exact h6,fun j hj eT=>?_⟩
 ·obtain⟨x,hx,rfl⟩:=List.mem_map.1 hd
  have :=h3 x hx
  cases x<;>first | exact this | rfl
 ·have zA:j<cs.length:=by simpa using hj
  simp only[List.getElem_map]
  have :=(h7 j zA eT).ext (Mem.le_refl m) rB
  generalize cs[j]=d at this
  cases d with
  |nilsl=>
   generalize us[j]=u at this
   cases this with
   |nilsl a=>exact .v _ _ (.slnil a 0)
  |_=>exact this
theorem acN{σ τ:S}(b:Name)(cs kh:List D)(hb:σ.obj b=some (.box cs))(hl:cs.map yv=kh)(ks:List Nat)(ns:List Name)
 (h:fv ks ns ⟨σ.nt,σ.env,upd σ.obj b (some (.box kh)),σ.pre,σ.base⟩) (hk:fD ks ns ⟨σ.nt,σ.env,upd σ.obj b (some (.box kh)),σ.pre,σ.base⟩=τ):cI σ τ:=by
 subst hl
 exact(QF b cs hb).trans (mV ks ns h hk)
theorem Qu{σ:S}(nm:Name)(sz:Nat)(hn:σ.obj nm=none):dj σ ⟨σ.nt,σ.env,upd σ.obj nm (some (.arr sz [])),σ.pre,σ.base⟩:=by
 intro G φ m a w hC
 have hx:=Ext.new (φ:=φ) hn ⟨0,0,0,true,none⟩ (.arr sz [])
 exact⟨_,hC.chg (w':=w) nm (.arr sz []) ⟨0,0,0,true,none⟩ hx ⟨rfl,rfl,rfl,Nat.le_refl _⟩ (fun _ _ _=>rfl) (fun h=>by cases h) (.inl ⟨rfl,rfl⟩)⟩
theorem QA{σ τ:S}(nm:Name)(sz:Nat)(hn:σ.obj nm=none)(ks:List Nat)(ns:List Name)
 (h:fv ks ns ⟨σ.nt,σ.env,upd σ.obj nm (some (.arr sz [])),σ.pre,σ.base⟩) (hk:fD ks ns ⟨σ.nt,σ.env,upd σ.obj nm (some (.arr sz [])),σ.pre,σ.base⟩=τ):cI σ τ:=
 (Qu nm sz hn).toM.trans (mV ks ns h hk)
theorem BG(f:Name->Name)(l:List V)(i:Nat)(nm:Name)(n:Nat):D.renL f ((List.map D.v l).set i (.msl nm n))=(List.map D.v l).set i (.msl (f nm) n):=by
 rw[ic,List.map_set,List.map_map]
 rfl
attribute [go_sem] BG
theorem ahL(s:Stk)(i:Nat)(x:D)(X:List D):List.take 61 ((List.map D.v (aA s)).set i x++X)=(List.map D.v (aA s)).set i x++List.take 42 X:=by
 rw[List.take_append,ni,List.take_of_length_le (by rw[ni];exact lb rfl)]
 rfl
theorem ahK(s:Stk)(i:Nat)(x:D)(X:List D):List.drop 62 ((List.map D.v (aA s)).set i x++X)=List.drop 43 X:=by
 rw[List.drop_append,ni,List.drop_of_length_le (by rw[ni];exact lb rfl),List.nil_append]
 rfl
attribute [go_sem] Spec.ite List.headD_cons decide_true decide_false
def lA(nm:Name)(d:Dk)(j:Nat):List D:=(List.map D.v (an d)).set (2+j) (.msl nm (d.now.un.get j).length)
@[go_sem] theorem agV(dom:Name->Bool)(nm:Name)(d:Dk)(j:Nat):D.closL dom (lA nm d j)=(dom nm||decide (63<=2+j)):=NZ dom (an d) _ nm _
@[go_sem] theorem aaA(nm:Name)(d:Dk)(j:Nat):(lA nm d j).length=63:=ni _ _ _
@[go_sem] theorem agW(nm:Name)(d:Dk)(j:Nat):(lA nm d j).take 63=lA nm d j:=Nt d _ _
@[go_sem] theorem agU(nm:Name)(d:Dk)(j:Nat):(lA nm d j).drop 63=[]:=List.drop_of_length_le (by rw[aaA];exact Nat.le_refl _)
theorem agS(nm:Name)(d:Dk){i j:Nat}(h:i<2)(hj:j<6):List.take (20+i*21) (lA nm (sr d i) j)++List.map D.v (cC ⟨(d.pg i).co,(d.pg i).st,(d.pg i).su⟩)++List.drop (20+i*21+21) (lA nm (sr d i) j)=lA nm (sr d (i+1)) j:=by
 match i,h with
 | 0,_=>match j,hj with
   | 0,_=>rfl
   | 1,_=>rfl
   | 2,_=>rfl
   | 3,_=>rfl
   | 4,_=>rfl
   | 5,_=>rfl
 | 1,_=>match j,hj with
   | 0,_=>rfl
   | 1,_=>rfl
   | 2,_=>rfl
   | 3,_=>rfl
   | 4,_=>rfl
   | 5,_=>rfl
def fJ(l:List Int)(p:Int)(z:Nat):List Int:=(l.take z).filter fun x=>x != p
def iX(s:Stk)(p:Int)(j:Nat):Stk:=⟨fJ s.ho p s.ho.length,s.un.set j (s.un.get j++[⟨s.se.get j+1,p⟩]),s.se.set j (s.se.get j+1),s.ta⟩
def ma(d:Dk)(t:Int):Bool:=(((d.now.un.get t.toNat).length:Int)==40)||(d.now.se.get t.toNat==99999)
def lD(d:Dk)(p:Int):Bool:=decide ((fJ d.now.ho p d.now.ho.length).length=d.now.ho.length)
def da(d:Dk)(p t:Int):Int:=if av d=true then(if aT p 1 999=true then(if dF d t=true then(if lD d p=true then 95 else if ma d t=true then 2 else 0)else 94)else 1)else 92
def fX(d:Dk)(p t:Int):Dk:=if da d p t=0 then d.setN (iX d.now p t.toNat)else zD
theorem RJ{d:Dk}{p t:Int}(h:av d=false):fX d p t=zD/\da d p t=92:=by
 have :da d p t=92:=if_neg (by rw[h];decide)
 exact⟨if_neg (by rw[this];decide),this⟩
theorem RN{d:Dk}{p t:Int}(h:av d=true)(h1:aT p 1 999=false):fX d p t=zD/\da d p t=1:=by
 have :da d p t=1:=by unfold da;rw[if_pos h,if_neg (by rw[h1];decide)]
 exact⟨if_neg (by rw[this];decide),this⟩
theorem RI{d:Dk}{p t:Int}(h:av d=true)(h1:aT p 1 999=true)(h2:dF d t=false):fX d p t=zD/\da d p t=94:=by
 have :da d p t=94:=by unfold da;rw[if_pos h,if_pos h1,if_neg (by rw[h2];decide)]
 exact⟨if_neg (by rw[this];decide),this⟩
theorem RM{d:Dk}{p t:Int}(h:av d=true)(h1:aT p 1 999=true)(h2:dF d t=true)(h3:lD d p=true):fX d p t=zD/\da d p t=95:=by
 have :da d p t=95:=by unfold da;rw[if_pos h,if_pos h1,if_pos h2,if_pos h3]
 exact⟨if_neg (by rw[this];decide),this⟩
theorem RK{d:Dk}{p t:Int}(h:av d=true)(h1:aT p 1 999=true)(h2:dF d t=true)(h3:lD d p=false)(h4:ma d t=true):fX d p t=zD/\da d p t=2:=by
 have :da d p t=2:=by unfold da;rw[if_pos h,if_pos h1,if_pos h2,if_neg (by rw[h3];decide),if_pos h4]
 exact⟨if_neg (by rw[this];decide),this⟩
theorem Hu{d:Dk}{p t:Int}(h:av d=true)(h1:aT p 1 999=true)(h2:dF d t=true)(h3:lD d p=false)(h4:ma d t=false):fX d p t=d.setN (iX d.now p t.toNat)/\da d p t=0:=by
 have :da d p t=0:=by unfold da;rw[if_pos h,if_pos h1,if_pos h2,if_neg (by rw[h3];decide),if_neg (by rw[h4];decide)]
 exact⟨if_pos this,this⟩
theorem MY{l:List Int}{p:Int}{z:Nat}(h:z<l.length):fJ l p (z+1)=if (l[z] != p)=true then fJ l p z++[l[z]]else fJ l p z:=by
 unfold fJ
 rw[List.take_add_one,List.getElem?_eq_getElem h,List.filter_append]
 show _++List.filter _ [l[z]]=_
 by_cases hp:(l[z] != p)=true
 ·rw[if_pos hp]
  have :List.filter (fun x=>x != p) [l[z]]=[l[z]]:=by simp[List.filter,hp]
  rw[this]
 ·rw[if_neg hp]
  have :List.filter (fun x=>x != p) [l[z]]=[]:=by simp[List.filter,hp]
  rw[this,List.append_nil]
theorem agk{l:List Int}{p:Int}{z:Nat}(h:z<l.length)(hp:(l[z] != p)=true):fJ l p (z+1)=fJ l p z++[l[z]]:=by rw[MY h,if_pos hp]
theorem agl{l:List Int}{p:Int}{z:Nat}(h:z<l.length)(hp:(l[z] != p)=false):fJ l p (z+1)=fJ l p z:=by rw[MY h,if_neg (by rw[hp];decide)]
theorem aah(l:List Int)(p:Int)(z:Nat):(fJ l p z).length<=l.length:=by
 unfold fJ
 refine Nat.le_trans (List.length_filter_le _ _) ?_
 rw[List.length_take];omega
def bM(d:Dk)(j:Nat)(hd:D)(nm:Name)(n:Nat)(se:Int):List D:=(((List.map D.v (an d)).set 1 hd).set (8+j) (.v (vInt se))).set (2+j) (.msl nm n)
theorem ia{P:Nat->Prop}(h0:P 0)(h1:P 1)(h2:P 2)(h3:P 3)(h4:P 4)(h5:P 5):∀ {j:Nat},j<6->P j
 | 0,_=>h0
 | 1,_=>h1
 | 2,_=>h2
 | 3,_=>h3
 | 4,_=>h4
 | 5,_=>h5
theorem ahy(d:Dk)(nm:Name){j:Nat}(hj:j<6):lA nm d j=bM d j (.v (gx d.now.ho)) nm (d.now.un.get j).length (d.now.se.get j):=
 ia (P:=fun j=>lA nm d j=bM d j (.v (gx d.now.ho)) nm (d.now.un.get j).length (d.now.se.get j)) rfl rfl rfl rfl rfl rfl hj
@[go_sem] theorem mJ(d:Dk)(j:Nat)(hd:D)(nm:Name)(n:Nat)(se:Int):(bM d j hd nm n se).length=63:=by
  simp[bM,qi]
theorem s4{α:Type}{C:List α}{i:Nat}{x:α}(h:i<C.length):List.take i C++[x]++List.drop (i+1) C=C.set i x:=by
 rw[List.append_assoc,List.set_eq_take_append_cons_drop,if_pos h];rfl
@[go_sem] theorem ahw(d:Dk)(j:Nat)(hd fa:D)(nm:Name)(n:Nat)(se:Int):List.take 1 (bM d j hd nm n se)++[fa]++List.drop 2 (bM d j hd nm n se)=bM d j fa nm n se:=by
  rw[s4 (i:=1) (by rw[mJ];omega)]
  unfold bM
  rw[List.set_comm (D.msl nm n) fa (show 2+j≠1 by omega),List.set_comm (D.v (vInt se)) fa (show 8+j≠1 by omega),List.set_set]
theorem abl(d:Dk){j:Nat}(hd:D)(nm:Name)(n:Nat)(se se':Int)(hj:j<6):List.take (8+j) (bM d j hd nm n se)++[.v (vInt se')]++List.drop (8+j+1) (bM d j hd nm n se)=bM d j hd nm n se':=by
 rw[s4 (by rw[mJ];omega)]
 unfold bM
 rw[List.set_comm (D.msl nm n) (D.v (vInt se')) (show 2+j≠8+j by omega),List.set_set]
theorem abj(d:Dk){j:Nat}(hd:D)(nm:Name)(n n':Nat)(se:Int)(hj:j<6):List.take (2+j) (bM d j hd nm n se)++[.msl nm n']++List.drop (2+j+1) (bM d j hd nm n se)=bM d j hd nm n' se:=by
 rw[s4 (by rw[mJ];omega)]
 unfold bM
 rw[List.set_set]
theorem Om(d:Dk)(j:Nat)(hd:D)(nm:Name)(n:Nat)(se:Int):(bM d j hd nm n se)[1]?=some hd:=by
 unfold bM
 rw[List.getElem?_set_ne (by omega),List.getElem?_set_ne (by omega),List.getElem?_set_self (by simp[qi])]
theorem abn(d:Dk){j:Nat}(hd:D)(nm:Name)(n:Nat)(se:Int)(hj:j<6):(bM d j hd nm n se)[8+j]?=some (.v (vInt se)):=by
 unfold bM
 rw[List.getElem?_set_ne (by omega),List.getElem?_set_self (by simp[qi];omega)]
theorem Ol(d:Dk){j:Nat}(hd:D)(nm:Name)(n:Nat)(se:Int)(hj:j<6):(bM d j hd nm n se)[2+j]?=some (.msl nm n):=by
 unfold bM
 rw[List.getElem?_set_self (by simp[qi];omega)]
@[go_sem] theorem ahx(d:Dk)(j:Nat)(hd:D)(nm:Name)(n:Nat)(se:Int):(bM d j hd nm n se).getD 1 .any=hd:=by rw[List.getD_eq_getElem?_getD,Om];rfl
theorem Oh(d:Dk){j:Nat}(hd:D)(nm:Name)(n:Nat)(se:Int)(hj:j<6):(bM d j hd nm n se).getD (8+j) .any=.v (vInt se):=by rw[List.getD_eq_getElem?_getD,abn _ _ _ _ _ hj];rfl
theorem Og(d:Dk){j:Nat}(hd:D)(nm:Name)(n:Nat)(se:Int)(hj:j<6):(bM d j hd nm n se).getD (2+j) .any=.msl nm n:=by rw[List.getD_eq_getElem?_getD,Ol _ _ _ _ _ hj];rfl
theorem N0{dom:Name->Bool}{d:D}(hd:D.clos dom d=true):∀ {cs:List D} {i:Nat},D.closL dom cs=true->D.closL dom (cs.set i d)=true
 |[],i,_=>by simp[D.closL]
 |a::r,0,h=>by
  simp only[D.closL,Bool.and_eq_true]at h
  simp[D.closL,hd,h.2]
 |a::r,i+1,h=>by
  simp only[D.closL,Bool.and_eq_true]at h
  simp only[List.set_cons_succ,D.closL,h.1,Bool.true_and,N0 hd h.2]
theorem FQ{dom:Name->Bool}{cs:List D}:D.closL dom cs=true↔∀ (i:Nat) (d:D),cs[i]?=some d->D.clos dom d=true:=by
 rw[qm]
 constructor
 ·intro h i d hi
  obtain⟨hl,e⟩:=List.getElem?_eq_some_iff.1 hi
  exact h d (e▸List.getElem_mem hl)
 ·intro h d hd
  obtain⟨i,hi,rfl⟩:=List.getElem_of_mem hd
  exact h i _ (List.getElem?_eq_getElem hi)
@[go_sem] theorem Oj(dom:Name->Bool)(d:Dk)(j:Nat)(hd:D)(nm:Name)(n:Nat)(se:Int):D.closL dom (bM d j hd nm n se)=(D.clos dom hd&&(dom nm||decide (63<=2+j))):=by
  rw[Bool.eq_iff_iff,FQ]
  simp only[Bool.and_eq_true,Bool.or_eq_true,decide_eq_true_eq]
  constructor
  ·intro h
   refine⟨h 1 hd (Om _ _ _ _ _ _),?_⟩
   by_cases hj:63<=2+j
   ·exact .inr hj
   ·refine .inl ?_
    have :=h (2+j) (.msl nm n) (by unfold bM;rw[List.getElem?_set_self (by simp[qi];omega)])
    simpa[D.clos]using this
  ·rintro⟨h1,h2⟩ i x hi
   have ae:=(List.getElem?_eq_some_iff.1 hi).1
   rw[mJ]at ae
   unfold bM at hi
   by_cases e1:2+j=i
   ·subst e1
    rw[List.getElem?_set_self (by simp[qi];omega)]at hi
    cases hi
    simp only[D.clos]
    rcases h2 with h2 | h2
    ·exact h2
    ·omega
   ·rw[List.getElem?_set_ne e1]at hi
    by_cases e2:8+j=i
    ·subst e2
     rw[List.getElem?_set_self (by simp[qi];omega)]at hi
     cases hi
     rfl
    ·rw[List.getElem?_set_ne e2]at hi
     by_cases e3:1=i
     ·subst e3
      rw[List.getElem?_set_self (by simp[qi])]at hi
      cases hi
      exact h1
     ·rw[List.getElem?_set_ne e3,List.getElem?_map]at hi
      cases hq:(an d)[i]? with
      |none=>rw[hq]at hi;cases hi
      |some y=>rw[hq]at hi;cases hi;rfl
@[go_sem] theorem abo(d:Dk)(j:Nat)(hd:D)(nm:Name)(n:Nat)(se:Int):(bM d j hd nm n se).take 63=bM d j hd nm n se:=List.take_of_length_le (by rw[mJ];exact Nat.le_refl _)
@[go_sem] theorem abm(d:Dk)(j:Nat)(hd:D)(nm:Name)(n:Nat)(se:Int):(bM d j hd nm n se).drop 63=[]:=List.drop_of_length_le (by rw[mJ];exact Nat.le_refl _)
theorem abk(d:Dk)(j:Nat)(hd fa:D)(nm:Name)(n:Nat)(se:Int):(bM d j hd nm n se).set 1 fa=bM d j fa nm n se:=by
 unfold bM
 rw[List.set_comm (D.msl nm n) fa (show 2+j≠1 by omega),List.set_comm (D.v (vInt se)) fa (show 8+j≠1 by omega),List.set_set]
theorem F0(d:Dk){j:Nat}(l:List Int)(nm:Name)(n:Nat)(se:Int)(ps:List Par)(hj:j<6):(bM d j (.v (gx l)) nm n se).set (2+j) (.v (.sl (ps.map encPa)))=List.map D.v (an (d.setN ⟨l,d.now.un.set j ps,d.now.se.set j se,d.now.ta⟩)):=
 ia (P:=fun j=>(bM d j (.v (gx l)) nm n se).set (2+j) (.v (.sl (ps.map encPa)))=List.map D.v (an (d.setN ⟨l,d.now.un.set j ps,d.now.se.set j se,d.now.ta⟩))) rfl rfl rfl rfl rfl rfl hj
@[go_sem] theorem agT(f:Name->Name)(nm:Name)(d:Dk)(j:Nat):D.renL f (lA nm d j)=lA (f nm) d j:=BG _ _ _ _ _
theorem aax(d:Dk){j:Nat}(h:j<6):(an d).getD (2+j) default=rowP (d.now.un.get j):=aay d h
theorem aaz(d:Dk){j:Nat}(h:j<6):(an d).getD (8+j) default=vInt (d.now.se.get j):=
 ia (P:=fun j=>(an d).getD (8+j) default=vInt (d.now.se.get j)) rfl rfl rfl rfl rfl rfl h
theorem Oi(d:Dk){j:Nat}(l:List Int)(nm:Name)(n:Nat)(se:Int)(ps:List Par)(a b:Int)(hj:j<6):(bM d j (.v (gx l)) nm n se).set (2+j) (.v (.sl (ps.map encPa++[.agg [vInt a,vInt b]])))=List.map D.v (an (d.setN ⟨l,d.now.un.set j (ps++[⟨a,b⟩]),d.now.se.set j se,d.now.ta⟩)):=by
 have h:=F0 d l nm n se (ps++[(⟨a,b⟩:Par)]) hj
 rw[List.map_append]at h
 exact h
theorem Tv(d:Dk)(t:Int):∃ j,j<6/\(dF d t=true->t.toNat=j):=by
 by_cases h:t.toNat<6
 ·exact⟨t.toNat,h,fun _=>rfl⟩
 ·exact⟨0,by omega,fun hk=>absurd (Bc hk).2.2 h⟩
noncomputable def S77g:Spec:=sB Tryd.prog 34
noncomputable def S76g:Spec:=sB Tryd.prog 35
theorem Wx:ak Tryd.prog 36 S77g:=N3 FT
theorem Wy:ak Tryd.prog 46 S76g:=N3 FU
attribute [go_sem] S77g S76g
def iy(hn un:Name)(s:Stk)(j:Nat):List D:=((List.map D.v (aA s)).set 0 (.msl hn s.ho.length)).set (1+j) (.msl un (s.un.get j).length)
@[go_sem] theorem Ha(hn un:Name)(s:Stk)(j:Nat):(iy hn un s j).length=19:=by
  unfold iy;rw[List.length_set,ni];rfl
theorem NX(dom:Name->Bool)(l:List V){i k:Nat}(hn un:Name)(a b:Nat)(hi:i<l.length)(wz:i≠k):D.closL dom (((List.map D.v l).set i (.msl hn a)).set k (.msl un b))=(dom hn&&(dom un||decide (l.length<=k))):=by
 rw[Bool.eq_iff_iff,FQ]
 simp only[Bool.and_eq_true,Bool.or_eq_true,decide_eq_true_eq]
 constructor
 ·intro h
  refine⟨?_,?_⟩
  ·have:=h i (.msl hn a) (by rw[List.getElem?_set_ne wz.symm,List.getElem?_set_self (by simpa using hi)])
   simpa[D.clos]using this
  ·by_cases hk:l.length<=k
   ·exact .inr hk
   ·refine .inl ?_
    have :=h k (.msl un b) (by rw[List.getElem?_set_self (by simp;omega)])
    simpa[D.clos]using this
 ·rintro⟨h1,h2⟩ q x hq
  have ae:=(List.getElem?_eq_some_iff.1 hq).1
  simp only[List.length_set,List.length_map]at ae
  by_cases e1:k=q
  ·subst e1
   rw[List.getElem?_set_self (by simpa using ae)]at hq
   cases hq
   simp only[D.clos]
   rcases h2 with h2 | h2
   ·exact h2
   ·omega
  ·rw[List.getElem?_set_ne e1]at hq
   by_cases e2:i=q
   ·subst e2
    rw[List.getElem?_set_self (by simpa using ae)]at hq
    cases hq
    exact h1
   ·rw[List.getElem?_set_ne e2,List.getElem?_map]at hq
    cases hz:l[q]? with
    |none=>rw[hz]at hq;cases hq
    |some y=>rw[hz]at hq;cases hq;rfl
@[go_sem] theorem afj(dom:Name->Bool)(hn un:Name)(s:Stk)(j:Nat):D.closL dom (iy hn un s j)=(dom hn&&(dom un||decide (19<=1+j))):=NX dom (aA s) hn un _ _ (lb rfl) (by omega)
theorem HS(f:Name->Name)(l:List V)(i k:Nat)(hn un:Name)(a b:Nat):D.renL f (((List.map D.v l).set i (.msl hn a)).set k (.msl un b))=((List.map D.v l).set i (.msl (f hn) a)).set k (.msl (f un) b):=by
 rw[ic,List.map_set,List.map_set,List.map_map]
 rfl
@[go_sem] theorem Rn(f:Name->Name)(hn un:Name)(s:Stk)(j:Nat):D.renL f (iy hn un s j)=iy (f hn) (f un) s j:=HS _ _ _ _ _ _ _ _
@[go_sem] theorem afk(hn un:Name)(s:Stk)(j:Nat):(iy hn un s j).take 19=iy hn un s j:=List.take_of_length_le (by rw[Ha];exact Nat.le_refl _)
@[go_sem] theorem afi(hn un:Name)(s:Stk)(j:Nat):(iy hn un s j).drop 19=[]:=List.drop_of_length_le (by rw[Ha];exact Nat.le_refl _)
def eW(s:Stk)(j z:Nat):List D:=((List.map D.v (aA s)).set 0 (.msl [12,0] s.ho.length)).set (1+j) (if j<z then .msl [99,0] (s.un.get j).length else .v (rowP (s.un.get j)))
@[go_sem] theorem qE(s:Stk)(j z:Nat):(eW s j z).length=19:=by
  unfold eW;rw[List.length_set,ni];rfl
@[go_sem] theorem afn(s:Stk)(j z:Nat):(eW s j z).take 19=eW s j z:=List.take_of_length_le (by rw[qE];exact Nat.le_refl _)
@[go_sem] theorem afl(s:Stk)(j z:Nat):(eW s j z).drop 19=[]:=List.drop_of_length_le (by rw[qE];exact Nat.le_refl _)
theorem Bq(s:Stk){j:Nat}(hj:j<6):eW s j 6=iy [12,0] [99,0] s j:=by
 unfold eW iy;rw[if_pos hj]
theorem Br(s:Stk){j:Nat}(hj:j<6):D.msl [12,0] s.ho.length::List.drop 1 (List.map D.v (aA s))=eW s j 0:=
 ia (P:=fun j=>D.msl [12,0] s.ho.length::List.drop 1 (List.map D.v (aA s))=eW s j 0) rfl rfl rfl rfl rfl rfl hj
theorem aa2(dom:Name->Bool)(l:List V)(hn:Name)(a:Nat)(hl:0<l.length):D.closL dom ((List.map D.v l).set 0 (.msl hn a))=dom hn:=by
 rw[Ar (qn dom l),List.length_map]
 have :decide (l.length<=0)=false:=decide_eq_false (by omega)
 rw[this,Bool.or_false]
@[go_sem] theorem afm(dom:Name->Bool)(s:Stk)(j z:Nat):D.closL dom (eW s j z)=(dom [12,0]&&(dom [99,0]||(decide (19<=1+j)||!decide (j<z)))):=by
  by_cases h:j<z
  ·have:=NX dom (aA s) [12,0] [99,0] s.ho.length (s.un.get j).length (i:=0) (k:=1+j) (lb rfl) (by omega)
   unfold eW
   rw[if_pos h,this,decide_eq_true h,jO]
   simp
  ·unfold eW
   rw[if_neg h,decide_eq_false h]
   simp only[Bool.not_false,Bool.or_true,Bool.and_true]
   rw[Bool.eq_iff_iff]
   constructor
   ·intro h1
    have :=FQ.1 h1 0 (.msl [12,0] s.ho.length) (by rw[List.getElem?_set_ne (by omega),List.getElem?_set_self (by exact lb rfl)])
    simpa[D.clos]using this
   ·intro h1
    have h2:=aa2 dom (aA s) [12,0] s.ho.length (lb rfl)
    rw[h1]at h2
    exact N0 rfl h2
theorem Hh(s:Stk){i j:Nat}(hi:i<6)(hj:j<6)(h:i≠j):List.take (1+i) (eW s j i)++[D.v (.sl ((s.un.get i).map encPa))]++List.drop (1+i+1) (eW s j i)=eW s j (i+1):=by
 rw[s4 (by rw[qE];omega)]
 unfold eW
 have e:(if j<i then D.msl [99,0] (s.un.get j).length else .v (rowP (s.un.get j)))=(if j<i+1 then D.msl [99,0] (s.un.get j).length else .v (rowP (s.un.get j))):=by
  by_cases h1:j<i
  ·rw[if_pos h1,if_pos (by omega)]
  ·rw[if_neg h1,if_neg (by omega)]
 rw[e,List.set_comm _ (D.v (.sl ((s.un.get i).map encPa))) (show 1+j≠1+i by omega),List.set_comm _ (D.v (.sl ((s.un.get i).map encPa))) (show 0≠1+i by omega)]
 congr 2
 exact ia (P:=fun i=>(List.map D.v (aA s)).set (1+i) (D.v (.sl ((s.un.get i).map encPa)))=List.map D.v (aA s)) rfl rfl rfl rfl rfl rfl hi
theorem Rq(s:Stk){j:Nat}(hj:j<6):D.renL (du [24,0] [99,0]) (List.take (1+j) (eW s j j)++[D.msl [24,0] (s.un.get j).length]++List.drop (1+j+1) (eW s j j))=eW s j (j+1):=by
 rw[s4 (by rw[qE];omega)]
 unfold eW
 rw[List.set_set,HS,if_pos (Nat.lt_succ_self j)]
 have e1:du [24,0] [99,0] [12,0]=[12,0]:=by decide
 have e2:du [24,0] [99,0] [24,0]=[99,0]:=by decide
 rw[e1,e2]
def qD(s:Stk)(j:Nat):List (Name×O):=[([12,0],.arr 1 (s.ho.map vInt)),([99,0],.arr 2 ((s.un.get j).map encPa))]
def Bn(os:List O):List V:=match os with
 |[.box cs]=>(lF cs).getD []
 |_=>[]
def Bo(ds:List D):Nat:=match ds with
 |[.ref _ off]=>off
 |_=>0
noncomputable def Bp(j:Nat):CSpec where
 pre os ds:=∃ (l:List V) (off:Nat) (s:Stk),os=[.box (l.map .v)]/\ds=[.ref [0,1] off]/\(l.drop off).take 19=aA s/\jN s
 out os ds:=⟨[],qD (ft (((Bn os).drop (Bo ds)).take 19)) j,.agg (iy [12,0] [99,0] (ft (((Bn os).drop (Bo ds)).take 19)) j)⟩
noncomputable def xt(j:Nat):Spec:=(Bp j).toSpec
theorem Hg(j:Nat){l:List V}{off:Nat}{s:Stk}(h:(l.drop off).take 19=aA s):(Bp j).out [.box (l.map .v)] [.ref [0,1] off]=⟨[],qD s j,.agg (iy [12,0] [99,0] s j)⟩:=by
 have e:ft (((Bn [.box (l.map .v)]).drop (Bo [.ref [0,1] off])).take 19)=s:=by
  show ft ((((lF (l.map .v)).getD []).drop off).take 19)=s
  rw[Gh,Option.getD_some,h,oY]
 show (⟨[],qD _ j,.agg (iy _ _ _ j)⟩:Out)=_
 rw[e]
theorem Rp(j:Nat){l:List V}{off:Nat}{s:Stk}{obj:Name->Option O}{nm t:Name}(ho:obj nm=some (.box (l.map .v)))(h:(l.drop off).take 19=aA s)(hs:jN s):
 (xt j).app obj t [.ref nm off]=⟨fresh obj t (qD s j)=true,.agg (iy ([12,0]++t) ([99,0]++t) s j),upd (upd obj ([12,0]++t) (some (.arr 1 (s.ho.map vInt)))) ([99,0]++t) (some (.arr 2 ((s.un.get j).map encPa)))⟩:=by
 have hr:reach obj [.ref nm off]=[nm]:=vl.reach (l,off,s) [nm] obj rfl (by simp) ⟨ho,trivial⟩
 have e1:cg obj [.ref nm off]=[.box (l.map .v)]:=by
  unfold cg
  rw[hr]
  simp only[List.map_cons,List.map_nil,bZ,ho,O.ren,s9]
 have e2:cH obj [.ref nm off]=[.ref [0,1] off]:=by
  unfold cH
  rw[hr]
  simp[D.renL,D.ren,cin,idx]
 have fO:shut obj [nm]=true:=by simp[shut,ho,O.clos,qn]
 have bO:D.closL (b8 [nm]) [.ref nm off]=true:=by simp[D.closL,D.clos,b8]
 have hp:(Bp j).pre [.box (l.map .v)] [.ref [0,1] off]:=⟨l,off,s,rfl,rfl,h,hs⟩
 have c1:cout [nm] t [12,0]=[12,0]++t:=rfl
 have c2:cout [nm] t [99,0]=[99,0]++t:=rfl
 simp only[xt,CSpec.toSpec,e1,e2,hr,fO,bO,Bool.true_and,hp,and_true,Hg j h,b7]
 simp only[D.ren,Rn,c1,c2,qD,cY,O.ren]
theorem Ul(l:List V):∀ hs,bW [0] (bP [0] hs) (aS [.box (l.map .v)])=True:=Ro.outC vl (l,0,zS)
attribute [go_sem] qD
noncomputable def Pw:List (Nat×Spec):=[(46,S76g),(36,S77g)]
attribute [go_sem] Pw
theorem acs:∀ f s,tbl Pw f=some s->ak Tryd.prog f s:=tc Wy<|tc Wx<|tn
set_option maxHeartbeats 4000000 in
theorem WI{j:Nat}(hj:j<6):ak Tryd.prog 37 (xt j):=by
 refine mF (nt:=29) (rs:=[.cell 2 39]) Tryd.func37 rfl (by rfl) (by kernel_rfl) (iv Tryd.func37 rfl (by kernel_rfl)) (oa _ (by decide)) ?_
 rintro os ds ⟨l,off,s,rfl,rfl,j8,bf⟩
 rw[Hg j j8]
 refine⟨lb rfl,iR ?_⟩
 have hΓ:=acs
 have hO:=Ul l
 have h0:aS [.box (l.map .v)] [0,1]=some (.box (l.map .v)):=rfl
 generalize aS [.box (l.map .v)]=H at *
 simp only[fc,Nat.zero_add]at h0 |-
 have Lj:=bf.1
 have hA:=NP j8
 have hB:=FJ j8 (show 0<19 by omega)
 have hL:=FH j8
 have kP:(l.map D.v).getD off .any=.v (gx s.ho):=hB
 repeat refine sq ?_
 refine rx hΓ [0,2] [[2,0],[12,0],[99,0]] (fun K' hK=>by simp only[go_sem,hO,h0];(repeat (refine⟨ai,?_⟩));exact hK _ (by simp only[go_sem,hO,h0]) (by simp only[go_sem,hO,h0]<;>rfl)) ?_
 repeat refine sq ?_
 refine rx hΓ [0,2,3] [[2,0],[3,0],[12,0],[99,0]] (fun K' hK=>by simp only[go_sem,hO,h0,hA,hB,hL,List.length_map,List.append_nil,jO];(repeat (refine⟨ai,?_⟩));exact hK _ (by simp only[go_sem,hO,h0,hA,hB,hL,List.length_map,List.append_nil,jO]) (by simp only[go_sem,hO,h0,hA,hB,hL,List.length_map,List.append_nil,jO]<;>rfl)) ?_
 repeat refine sq ?_
 refine rx hΓ [0,2,3] [[2,0],[3,0],[12,0],[99,0]] (fun K' hK=>by simp only[go_sem,hO,h0,Nat.add_zero,kP,bf.1,Br s hj,Nat.not_lt_zero,decide_false,Bool.not_false,Bool.or_true];(repeat (refine⟨ai,?_⟩));exact hK _ (by simp only[go_sem,hO,h0,Nat.add_zero,kP,bf.1,Br s hj,Nat.not_lt_zero,decide_false,Bool.not_false,Bool.or_true]) (by simp only[go_sem,hO,h0,Nat.add_zero,kP,bf.1,Br s hj,Nat.not_lt_zero,decide_false,Bool.not_false,Bool.or_true]<;>rfl)) ?_
 refine bq (QA [99,0] 2 rfl [0,2,3] [[2,0],[3,0],[12,0],[99,0]] ?_ rfl) ?_
 ·simp only[go_sem,hO,h0]
 simp only[go_sem,hO,h0]
 repeat refine sq ?_
 refine rx hΓ [0,2,3,14] [[2,0],[3,0],[12,0],[99,0]] (fun K' hK=>by simp only[go_sem,hO,h0];(repeat (refine⟨ai,?_⟩));exact hK _ (by simp only[go_sem,hO,h0]) (by simp only[go_sem,hO,h0]<;>rfl)) ?_
 repeat refine sq ?_
 refine a8 ?_
 repeat refine sq ?_
 refine dR (fun z:Nat=>[(14,⟨true,.v (vInt z)⟩)]) (fun z=>[([3,0],.box (eW s j z)),([99,0],.arr 2 (uJ s j z))]) (fun z=>z<=6) (fun z=>6-z) 0 ?_ ?_ ?_ ?_
 ·exact Nat.zero_le _
 ·rfl
 ·rfl
 rintro i hi
 simp only[go_sem]
 repeat refine sq ?_
 refine rx hΓ [0,2,3,14,15] [[2,0],[3,0],[12,0],[99,0]] (fun K' hK=>by simp only[go_sem,hO,h0];(repeat (refine⟨ai,?_⟩));exact hK _ (by simp only[go_sem,hO,h0]) (by simp only[go_sem,hO,h0]<;>rfl)) ?_
 repeat refine sq ?_
 refine aD rfl rfl (fun hb=>?_) (fun hb=>?_)
 ·have ae:i<6:=by have hq:(i:Int)<6:=(by simpa using hb);omega
  have aq:(i:Int)<6:=by omega
  clear hb
  have hC:=NN j8 ae
  have jd:=bf.2 i ae
  repeat refine sq ?_
  refine aI ?_
  repeat refine sq ?_
  refine a8 ?_
  repeat refine sq ?_
  refine rx hΓ [0,2,3,4,14] [[2,0],[3,0],[12,0],[99,0]] (fun K' hK=>by simp only[go_sem,hO,h0,Int.toNat_natCast,Int.natCast_nonneg,aq];(repeat (refine⟨ai,?_⟩));exact hK _ (by simp only[go_sem,hO,h0,Int.toNat_natCast,Int.natCast_nonneg,aq]) (by simp only[go_sem,hO,h0,Int.toNat_natCast,Int.natCast_nonneg,aq]<;>rfl)) ?_
  repeat refine sq ?_
  refine bc hΓ fun K' hK=>?_
  simp only[go_sem,hO,h0,Int.toNat_natCast,Int.natCast_nonneg,aq,hC,jd,Int.toNat_natCast,Int.natCast_nonneg,aq]
  repeat (refine⟨ai,?_⟩)
  refine hK _ ?_
  clear K' hK
  refine bq (mV [0,2,3,14] [[2,0],[3,0],[12,0],[24,0],[99,0]] ?_ rfl) ?_
  ·simp only[go_sem,hO,h0]
  simp only[go_sem,hO,h0]
  refine bq (σ':=aO 29 [0] H [(0,⟨true,.ref [0,1] off⟩),(2,⟨true,.ref [2,0] 0⟩),(3,⟨true,.ref [3,0] 0⟩),(14,⟨true,.v (vInt i)⟩)] ([([2,0],.box [.nilsl,.nilsl,.nilsl,.nilsl,.nilsl,.nilsl,.nilsl,.v (.int .i64 0),.v (.int .i64 0),.v (.int .i64 0),.v (.int .i64 0),.v (.int .i64 0),.v (.int .i64 0),.v (.int .i64 0),.v (.int .i64 0),.v (.int .i64 0),.v (.int .i64 0),.v (.int .i64 0),.v (.int .i64 0)])]++[([3,0],.box (eW s j (i+1))),([12,0],.arr 1 (s.ho.map vInt)),([99,0],.arr 2 (uJ s j (i+1)))])) (QB (i=j) (fun gl=>?_) (fun gl=>?_)) ?_
  ·subst gl
   refine Qz (p:=[0]) [24,0] [99,0] [0,2,3,14] [[2,0],[3,0],[12,0],[99,0]] rfl rfl ?_ ?_ ?_ ?_ ?_
   ·simp only[hO]
   ·simp only[go_sem]
   ·simp only[go_sem,E.ren,D.ren,du]
   ·simp only[go_sem,O.ren,Rq s ae,QL,du]
   ·simp only[go_sem]
  ·refine A6 [3,0] [24,0] (1+i) _ _ _ _ rfl (Uz (by show 1+i<(eW s j i).length;rw[qE];omega)) rfl (by simp only[List.length_map]) [0,2,3,14] [[2,0],[3,0],[12,0],[99,0]] ?_ ?_
   ·simp only[go_sem,hO,h0,I3 (show 1+i<(eW s j i).length by rw[qE];omega),Hh s ae hj gl,<-GU s gl]
   ·simp only[go_sem,hO,h0,I3 (show 1+i<(eW s j i).length by rw[qE];omega),Hh s ae hj gl,<-GU s gl]
  simp only[go_sem]
  refine kj [0,2,3,14] [[2,0],[3,0],[12,0],[99,0]] ?_ ?_
  ·simp only[go_sem,hO,h0]
  simp only[go_sem,hO,h0]
  repeat refine sq ?_
  refine bc hΓ fun K' hK=>?_
  simp only[go_sem,hO,h0,Int.toNat_natCast,Int.natCast_nonneg,aq]
  repeat (refine⟨ai,?_⟩)
  refine hK _ ?_
  clear K' hK
  simp only[go_sem]
  refine⟨i+1,ae,by(show 6-(i+1)<6-i;omega),?_⟩
  refine bJ [0,2,3,14] [[2,0],[3,0],[12,0],[99,0]] ?_ ?_
  ·simp only[go_sem,aM ae (lb rfl:(6:Nat)<=maxLen),Int.natCast_add,Int.natCast_one,hO,h0]
  ·simp only[go_sem,aM ae (lb rfl:(6:Nat)<=maxLen),Int.natCast_add,Int.natCast_one,hO,h0]
 ·have bo:i=6:=by
   have :¬ (i:Int)<6:=by simpa using hb
   omega
  clear hb
  subst bo
  repeat refine sq ?_
  refine di ?_
  simp only[go_sem]
  refine kj [2,3] [[2,0],[3,0],[12,0],[99,0]] ?_ ?_
  ·simp only[go_sem,hO,h0]
  simp only[go_sem,hO,h0]
  repeat refine sq ?_
  refine rx hΓ [2] [[2,0],[12,0],[99,0]] (fun K' hK=>by simp only[go_sem,hO,h0,Bq s hj,Ba s hj];(repeat (refine⟨ai,?_⟩));exact hK _ (by simp only[go_sem,hO,h0,Bq s hj,Ba s hj]) (by simp only[go_sem,hO,h0,Bq s hj,Ba s hj]<;>rfl)) ?_
  refine ax ?_
  simp only[go_sem,hO,h0]
  skip
structure R2 where
 d:Dk
 j:Nat
 i:Nat
 hj:j<6
def cN(d:Dk)(j:Nat)(h u:Name):List D:=bM d j (.msl h d.now.ho.length) u (d.now.un.get j).length (d.now.se.get j)
def jQ:Ro R2 where
 m:=3
 fam a Ls:=[.box (cN a.d a.j (Ls.getD 1 []) (Ls.getD 2 [])),.arr 1 (a.d.now.ho.map vInt),.arr 2 ((a.d.now.un.get a.j).map encPa)]
 args a Ls:=[.ref (Ls.getD 0 []) (20+a.i*21+1)]
 ok a:=a.i<2/\jN (a.d.pg a.i).st
 val a:=.v (nI (a.d.pg a.i).st)
theorem vF{Ls:List Name}(h:Ls.length=3):∃ a b c,Ls=[a,b,c]:=by
 match Ls,h with
 |[a,b,c],_=>exact⟨a,b,c,rfl⟩
theorem On(f:Name->Name)(d:Dk)(j:Nat)(h u:Name):D.renL f (cN d j h u)=cN d j (f h) (f u):=by
 unfold cN bM
 rw[ic,List.map_set,List.map_set,List.map_set,List.map_map]
 rfl
theorem xe(d:Dk)(j:Nat)(h u:Name){i:Nat}(hi:i<2)(hj:j<6):List.take 19 (List.drop (20+i*21+1) (cN d j h u))=List.map D.v (aA (d.pg i).st):=by
 unfold cN bM
 rw[List.drop_set_of_lt (by omega),List.drop_set_of_lt (by omega),List.drop_set_of_lt (by omega)]
 exact Nu d hi
theorem Uq(d:Dk){j:Nat}(h u:Name)(hj:j<6):cJ (cN d j h u)=[h,u]:=
 ia (P:=fun j=>cJ (cN d j h u)=[h,u]) rfl rfl rfl rfl rfl rfl hj
theorem Bm:jQ.Ok where
 len:=fun _ _ _=>rfl
 renF:=fun a f Ls h=>by
  obtain⟨x,y,z,rfl⟩:=vF h
  simp only[jQ,List.map_cons,List.map_nil,O.ren,On,List.getD_cons_zero,List.getD_cons_succ]
 renA:=fun a f Ls h=>by
  obtain⟨x,y,z,rfl⟩:=vF h
  rfl
 reach:=fun a Ls obj h hn hF=>by
  obtain⟨x,y,z,rfl⟩:=vF h
  obtain⟨h1,h2,h3,_⟩:=hF
  simp only[List.nodup_cons,List.mem_cons,List.not_mem_nil,or_false,not_or]at hn
  obtain⟨⟨n1,n2⟩,n3,_⟩:=hn
  have en:cJ (jQ.args a [x,y,z])=[x]:=rfl
  unfold Go.Eng.reach
  rw[en]
  show dA obj (2995+1+1+1+1+1) [x] []=[x,y,z]
  have hb:cJ (cN a.d a.j y z)=[y,z]:=Uq a.d y z a.hj
  simp only[List.getD_cons_zero,List.getD_cons_succ]at h1
  simp[dA,gQ,h1,h2,h3,hb,l9,Ne.symm n1,Ne.symm n2,Ne.symm n3]
 closF:=fun a dom Ls h hd o ho=>by
  obtain⟨x,y,z,rfl⟩:=vF h
  have hx:=hd x (by simp)
  have hy:=hd y (by simp)
  have hz:=hd z (by simp)
  simp only[jQ,List.mem_cons,List.not_mem_nil,or_false]at ho
  rcases ho with rfl | rfl | rfl
  ·simp only[O.clos,cN,Oj,List.getD_cons_zero,List.getD_cons_succ,D.clos,hy,hz,Bool.true_and,Bool.true_or]
  ·rfl
  ·rfl
 closA:=fun a dom Ls h hd=>by
  obtain⟨x,y,z,rfl⟩:=vF h
  have hx:=hd x (by simp)
  simp only[jQ,D.closL,D.clos,List.getD_cons_zero,hx,Bool.and_self]
 det:=fun a b h1 h2 h3 h4=>by
  have e1:cN a.d a.j [1,1] [2,1]=cN b.d b.j [1,1] [2,1]:=O.box.inj (List.cons.inj h3).1
  have e2:20+a.i*21+1=20+b.i*21+1:=(D.ref.inj (List.cons.inj h4).1).2
  have e3:a.i=b.i:=by omega
  have e4:=xe a.d a.j [1,1] [2,1] h1.1 a.hj
  rw[e1,e3,xe b.d b.j [1,1] [2,1] h2.1 b.hj]at e4
  have e5:aA (b.d.pg b.i).st=aA (a.d.pg b.i).st:=Cs e4
  have e6:(b.d.pg b.i).st=(a.d.pg b.i).st:=by rw[<-oY (b.d.pg b.i).st,e5,oY]
  simp only[jQ,e3,e6]
 vcl:=fun _ _=>rfl
 vren:=fun _ _=>rfl
noncomputable def S59r:Spec:=jQ.c.toSpec
theorem Oo(d:Dk){j i k:Nat}(h u:Name)(hi:i<2)(hj:j<6)(hk:k<19):(cN d j h u).getD (20+i*21+1+k) .any=.v ((aA (d.pg i).st).getD k default):=by
 have hc:=xe d j h u hi hj
 have hlen:(cN d j h u).length=63:=mJ _ _ _ _ _ _
 have e:(cN d j h u)[20+i*21+1+k]?=(List.map D.v (aA (d.pg i).st))[k]?:=by
  rw[<-hc,List.getElem?_take,if_pos hk,List.getElem?_drop]
 rw[List.getD_eq_getElem?_getD,e,List.getElem?_map,List.getElem?_eq_getElem (show k<(aA (d.pg i).st).length by rw[jO];exact hk)]
 rw[jF (show k<(aA (d.pg i).st).length by rw[jO];exact hk)]
 rfl
set_option maxHeartbeats 4000000 in
theorem WH:ak Tryd.prog 37 S59r:=by
 refine Ro.sound Bm (rs:=[.cell 2 39]) Tryd.func37 Tryd.ntmps37 (by rfl) (by kernel_rfl) (by decide) ⟨_,rfl,?_⟩
 rintro⟨d,j,i0,hj⟩ ⟨lv,bf⟩
 replace lv:i0<2:=lv
 refine⟨lb rfl,?_⟩
 have hΓ:=P0
 have hO:=Ro.outC Bm ⟨d,j,i0,hj⟩
 have h0:aS (jQ.fam ⟨d,j,i0,hj⟩ (LR jQ.m)) [0,1]=some (.box (cN d j [1,1] [2,1])):=rfl
 generalize aS (jQ.fam ⟨d,j,i0,hj⟩ (LR jQ.m))=H at *
 obtain⟨s,gi⟩:∃ s,s=(d.pg i0).st:=⟨_,rfl⟩
 have ha:jQ.args ⟨d,j,i0,hj⟩ (LR jQ.m)=[.ref [0,1] (20+i0*21+1)]:=rfl
 have hv:jQ.val ⟨d,j,i0,hj⟩=.v (nI s):=by rw[gi];rfl
 rw[ha,hv]
 simp only[fc,Nat.zero_add]at h0 |-
 replace bf:jN s:=by rw[gi];exact bf
 have hA:List.take 19 (List.drop (20+i0*21+1) (cN d j [1,1] [2,1]))=List.map D.v (aA s):=by rw[gi];exact xe d j _ _ lv hj
 have hlen:(cN d j [1,1] [2,1]).length=63:=mJ _ _ _ _ _ _
 have hL:20+i0*21+1+19<=(cN d j [1,1] [2,1]).length:=by omega
 have Mq:20+i0*21+1<(cN d j [1,1] [2,1]).length:=by omega
 have kP:(cN d j [1,1] [2,1]).getD (20+i0*21+1) .any=.v (gx s.ho):=by rw[gi];exact Oo d [1,1] [2,1] (k:=0) lv hj (by omega)
 obtain⟨off,ug⟩:∃ off,off=20+i0*21+1:=⟨_,rfl⟩
 have uF:∀ i,i<6->(cN d j [1,1] [2,1]).getD (off+1+i) .any=.v (rowP (s.un.get i)):=fun i hi=>by
  rw[ug,Nat.add_assoc (20+i0*21+1),gi,Oo d [1,1] [2,1] lv hj (show 1+i<19 by omega),dw _ hi]
 rw[<-ug]at hA hL Mq kP |-
 obtain⟨X,hX⟩:∃ X,X=cN d j [1,1] [2,1]:=⟨_,rfl⟩
 rw[<-hX]at h0 hA hlen hL Mq kP uF
 repeat refine sq ?_
 refine rx hΓ [0,2] [[2,0]] (fun K' hK=>by simp only[go_sem,hO,h0];(repeat (refine⟨ai,?_⟩));exact hK _ (by simp only[go_sem,hO,h0]) (by simp only[go_sem,hO,h0]<;>rfl)) ?_
 repeat refine sq ?_
 refine rx hΓ [0,2,3] [[2,0],[3,0]] (fun K' hK=>by simp only[go_sem,hO,h0,hA,hlen,hL,List.length_map,List.append_nil,jO];(repeat (refine⟨ai,?_⟩));exact hK _ (by simp only[go_sem,hO,h0,hA,hlen,hL,List.length_map,List.append_nil,jO]) (by simp only[go_sem,hO,h0,hA,hlen,hL,List.length_map,List.append_nil,jO]<;>rfl)) ?_
 repeat refine sq ?_
 refine rx hΓ [0,2,3] [[2,0],[3,0]] (fun K' hK=>by simp only[go_sem,hO,h0,Nat.add_zero,kP,bf.1];(repeat (refine⟨ai,?_⟩));exact hK _ (by simp only[go_sem,hO,h0,Nat.add_zero,kP,bf.1]) (by simp only[go_sem,hO,h0,Nat.add_zero,kP,bf.1]<;>rfl)) ?_
 repeat refine sq ?_
 refine rx hΓ [0,2,3,14] [[2,0],[3,0]] (fun K' hK=>by simp only[go_sem,hO,h0];(repeat (refine⟨ai,?_⟩));exact hK _ (by simp only[go_sem,hO,h0]) (by simp only[go_sem,hO,h0]<;>rfl)) ?_
 repeat refine sq ?_
 refine a8 ?_
 repeat refine sq ?_
 refine dR (fun z:Nat=>[(14,⟨true,.v (vInt z)⟩)]) (fun z=>[]) (fun z=>z<=6) (fun z=>6-z) 0 ?_ ?_ ?_ ?_
 ·exact Nat.zero_le _
 ·rfl
 ·rfl
 rintro i hi
 simp only[go_sem]
 repeat refine sq ?_
 refine rx hΓ [0,2,3,14,15] [[2,0],[3,0]] (fun K' hK=>by simp only[go_sem,hO,h0];(repeat (refine⟨ai,?_⟩));exact hK _ (by simp only[go_sem,hO,h0]) (by simp only[go_sem,hO,h0]<;>rfl)) ?_
 repeat refine sq ?_
 refine aD rfl rfl (fun hb=>?_) (fun hb=>?_)
 ·have ae:i<6:=by have hq:(i:Int)<6:=(by simpa using hb);omega
  have aq:(i:Int)<6:=by omega
  clear hb
  have hC:=uF i ae
  have jd:=bf.2 i ae
  repeat refine sq ?_
  refine aI ?_
  repeat refine sq ?_
  refine a8 ?_
  repeat refine sq ?_
  refine rx hΓ [0,2,3,4,14] [[2,0],[3,0]] (fun K' hK=>by simp only[go_sem,hO,h0,Int.toNat_natCast,Int.natCast_nonneg,aq];(repeat (refine⟨ai,?_⟩));exact hK _ (by simp only[go_sem,hO,h0,Int.toNat_natCast,Int.natCast_nonneg,aq]) (by simp only[go_sem,hO,h0,Int.toNat_natCast,Int.natCast_nonneg,aq]<;>rfl)) ?_
  repeat refine sq ?_
  refine bc hΓ fun K' hK=>?_
  simp only[go_sem,hO,h0,Int.toNat_natCast,Int.natCast_nonneg,aq,hC,jd,sZ s ae,Int.toNat_natCast,Int.natCast_nonneg,aq]
  repeat (refine⟨ai,?_⟩)
  refine hK _ ?_
  clear K' hK
  simp only[go_sem]
  refine kj [0,2,3,14] [[2,0],[3,0]] ?_ ?_
  ·simp only[go_sem,hO,h0]
  simp only[go_sem,hO,h0]
  repeat refine sq ?_
  refine bc hΓ fun K' hK=>?_
  simp only[go_sem,hO,h0,Int.toNat_natCast,Int.natCast_nonneg,aq]
  repeat (refine⟨ai,?_⟩)
  refine hK _ ?_
  clear K' hK
  simp only[go_sem]
  refine⟨i+1,ae,by(show 6-(i+1)<6-i;omega),?_⟩
  refine bJ [0,2,3,14] [[2,0],[3,0]] ?_ ?_
  ·simp only[go_sem,aM ae (lb rfl:(6:Nat)<=maxLen),Int.natCast_add,Int.natCast_one,sZ s ae,hO,h0]
  ·simp only[go_sem,aM ae (lb rfl:(6:Nat)<=maxLen),Int.natCast_add,Int.natCast_one,sZ s ae,hO,h0]
 ·have bo:i=6:=by
   have :¬ (i:Int)<6:=by simpa using hb
   omega
  clear hb
  subst bo
  repeat refine sq ?_
  refine di ?_
  simp only[go_sem]
  refine kj [2,3] [[2,0],[3,0]] ?_ ?_
  ·simp only[go_sem,hO,h0]
  simp only[go_sem,hO,h0]
  repeat refine sq ?_
  refine rx hΓ [2] [[2,0]] (fun K' hK=>by simp only[go_sem,hO,h0,List.append_nil];(repeat (refine⟨ai,?_⟩));exact hK _ (by simp only[go_sem,hO,h0,List.append_nil]) (by simp only[go_sem,hO,h0,List.append_nil]<;>rfl)) ?_
  refine bq (dS [2,0] (aA s) rfl [2] [[2,0]] ?_ rfl) ?_
  ·simp only[go_sem,hO,h0]
  simp only[go_sem,hO,h0]
  refine ax ?_
  simp only[go_sem,hO,h0]
  exact .inr trivial
theorem SC{d:Dk}{j i:Nat}(hj:j<6)(hi:i<2)(hs:jN (d.pg i).st){obj:Name->Option O}{t b h u:Name}(hn:[b,h,u].Nodup)(hb:obj b=some (.box (cN d j h u)))
 (hh:obj h=some (.arr 1 (d.now.ho.map vInt))) (hu:obj u=some (.arr 2 ((d.now.un.get j).map encPa))):
 S59r.app obj t [.ref b (20+i*21+1)]=⟨True,.v (.agg (aA (d.pg i).st)),obj⟩:=
 Ro.c_app Bm (a:=⟨d,j,i,hj⟩) ⟨hi,hs⟩ (Ls:=[b,h,u]) rfl hn ⟨hb,hh,hu,trivial⟩
theorem abq(d:Dk){j:Nat}(h u:Name)(hj:j<6):List.take 1 (List.map D.v (an d))++iy h u d.now j++List.drop 20 (List.map D.v (an d))=cN d j h u:=
 ia (P:=fun j=>List.take 1 (List.map D.v (an d))++iy h u d.now j++List.drop 20 (List.map D.v (an d))=cN d j h u) rfl rfl rfl rfl rfl rfl hj
theorem Qm{α:Type}{C W:List α}{a n:Nat}(h:List.take n (List.drop a C)=W)(hn:a+n<=C.length):List.take a C++W++List.drop (a+n) C=C:=by
 rw[<-h,List.append_assoc,<-List.drop_drop,List.take_append_drop,List.take_append_drop]
theorem abp(d:Dk){j i:Nat}(h u:Name)(hi:i<2)(hj:j<6):List.take (20+i*21+1) (cN d j h u)++List.map D.v (aA (d.pg i).st)++List.drop (20+i*21+1+19) (cN d j h u)=cN d j h u:=
 Qm (xe d j h u hi hj) (by rw[show (cN d j h u).length=63 from mJ _ _ _ _ _ _];omega)
@[go_sem] theorem ahz(d:Dk)(j:Nat)(h u:Name):(cN d j h u).length=63:=mJ _ _ _ _ _ _
@[go_sem] theorem ahC(d:Dk)(j:Nat)(h u:Name):(cN d j h u).take 63=cN d j h u:=abo _ _ _ _ _ _
@[go_sem] theorem ahA(d:Dk)(j:Nat)(h u:Name):(cN d j h u).drop 63=[]:=abm _ _ _ _ _ _
@[go_sem] theorem ahB(dom:Name->Bool)(d:Dk)(j:Nat)(h u:Name):D.closL dom (cN d j h u)=(dom h&&(dom u||decide (63<=2+j))):=Oj _ _ _ _ _ _ _
attribute [go_sem] On
noncomputable def Gp(j:Nat):Spec:=Spec.ite (fun t _=>decide (t.headD 0=5)) (xt j) S59r
theorem WJ{j:Nat}(hj:j<6):ak Tryd.prog 37 (Gp j):=(WI hj).ite _ WH (by decide)
attribute [go_sem] Gp
noncomputable def Pv(j:Nat):List (Nat×Spec):=[(37,Gp j)]
attribute [go_sem] Pv
theorem acr{j:Nat}(hj:j<6):∀ f s,tbl (Pv j) f=some s->ak Tryd.prog f s:=tc (WJ hj)<|tn
noncomputable def AY(j:Nat):NSpec:=n1 dK (fun d=>eL d) (fun d=>[([22,0],.box (cN d j [12,0,5,0] [99,0,5,0])),([12,0,5,0],.arr 1 (d.now.ho.map vInt)),([99,0,5,0],.arr 2 ((d.now.un.get j).map encPa))]) (fun _=>.ref [22,0] 0)
noncomputable def AW(j:Nat):Spec:=(AY j).toSpec
attribute [go_sem] AY AW
set_option maxHeartbeats 4000000 in
theorem KL(j:Nat)(hj:j<6):ak Tryd.prog 43 (AW j):=by
 refine IV (nt:=23) (rs:=[.tmp 2]) Tryd.func43 rfl (by rfl) (by kernel_rfl) (by kernel_rfl) (by decide) ?_
 intro xs hp
 obtain⟨d,rfl,hp,oJ,iK⟩:=I0 hp
 replace oJ:(AY j).new _=_:=oJ
 replace iK:(AY j).d _=_:=iK
 rw[oJ,iK]
 clear oJ iK
 refine⟨lb rfl,?_⟩
 have hP:=br
 simp only[iI,iB,dJ,iI,iB,tT,dJ,vO,kG,iD,ru,dK,nr,C6,iC,iF,encPa,nI,wZ,kS,kT,List.map_cons,List.map_nil,fc,Nat.zero_add]
 have hΓ:=acr hj
 have hs:eL d:=hp
 have pR:=hs.now
 have EO:∀ (F:Name->Option O),F [1,0]=some (.box ((an d).map .v))->(xt j).app (fun nm=>if own [0] nm=true then F nm else none) [5,0] [.ref [1,0] 1]=⟨fresh (fun nm=>if own [0] nm=true then F nm else none) [5,0] (qD d.now j)=true,.agg (iy [12,0,5,0] [99,0,5,0] d.now j),upd (upd (fun nm=>if own [0] nm=true then F nm else none) [12,0,5,0] (some (.arr 1 (d.now.ho.map vInt)))) [99,0,5,0] (some (.arr 2 ((d.now.un.get j).map encPa)))⟩:=fun F h=>Rp j (s:=d.now) (l:=an d) (off:=1) (by rw[<-h];rfl) (uN d) pR
 repeat refine sq ?_
 refine rx hΓ [1] [[1,0],[12,0,5,0],[99,0,5,0]] (fun K' hK=>by simp only[go_sem];(repeat (refine⟨ai,?_⟩));exact hK _ (by simp only[go_sem]) (by simp only[go_sem]<;>rfl)) ?_
 repeat refine sq ?_
 refine rx hΓ [1] [[1,0],[12,0,5,0],[99,0,5,0]] (fun K' hK=>by simp only[go_sem,EO,abq d [12,0,5,0] [99,0,5,0] hj];(repeat (refine⟨ai,?_⟩));exact hK _ (by simp only[go_sem]) (by simp only[go_sem]<;>rfl)) ?_
 repeat refine sq ?_
 refine rx hΓ [1,7] [[1,0],[12,0,5,0],[99,0,5,0]] (fun K' hK=>by simp only[go_sem];(repeat (refine⟨ai,?_⟩));exact hK _ (by simp only[go_sem]) (by simp only[go_sem]<;>rfl)) ?_
 repeat refine sq ?_
 refine a8 ?_
 repeat refine sq ?_
 refine dR (fun z:Nat=>[(7,⟨true,.v (vInt z)⟩)]) (fun z=>[]) (fun z=>z<=2) (fun z=>2-z) 0 ?_ ?_ ?_ ?_
 ·exact Nat.zero_le _
 ·rfl
 ·rfl
 rintro i hi
 simp only[go_sem]
 repeat refine sq ?_
 refine rx hΓ [1,7,8] [[1,0],[12,0,5,0],[99,0,5,0]] (fun K' hK=>by simp only[go_sem];(repeat (refine⟨ai,?_⟩));exact hK _ (by simp only[go_sem]) (by simp only[go_sem]<;>rfl)) ?_
 repeat refine sq ?_
 refine aD rfl rfl (fun hb=>?_) (fun hb=>?_)
 ·have ae:i<2:=by have hq:(i:Int)<2:=(by simpa using hb);omega
  have aq:(i:Int)<2:=by omega
  clear hb
  have EN:∀ (F:Name->Option O) (t:Name),F [1,0]=some (.box (cN d j [12,0,5,0] [99,0,5,0]))->F [12,0,5,0]=some (.arr 1 (d.now.ho.map vInt))->F [99,0,5,0]=some (.arr 2 ((d.now.un.get j).map encPa))->S59r.app (fun nm=>if own [0] nm=true then F nm else none) t [.ref [1,0] (20+i*21+1)]=⟨True,.v (.agg (aA (d.pg i).st)),fun nm=>if own [0] nm=true then F nm else none⟩:=fun F t h1 h2 h3=>SC (b:=[1,0]) (h:=[12,0,5,0]) (u:=[99,0,5,0]) hj ae (hs.pg i ae) (by decide) (by rw[<-h1];rfl) (by rw[<-h2];rfl) (by rw[<-h3];rfl)
  repeat refine sq ?_
  refine aI ?_
  repeat refine sq ?_
  refine a8 ?_
  repeat refine sq ?_
  refine rx hΓ [1,3,7] [[1,0],[12,0,5,0],[99,0,5,0]] (fun K' hK=>by simp only[go_sem,Int.toNat_natCast,Int.natCast_nonneg,aq];(repeat (refine⟨ai,?_⟩));exact hK _ (by simp only[go_sem]) (by simp only[go_sem]<;>rfl)) ?_
  repeat refine sq ?_
  refine bc hΓ fun K' hK=>?_
  simp only[go_sem,Int.toNat_natCast,Int.natCast_nonneg,aq,EN,abp d [12,0,5,0] [99,0,5,0] ae hj,Int.toNat_natCast,Int.natCast_nonneg,aq]
  repeat (refine⟨ai,?_⟩)
  refine hK _ ?_
  clear K' hK
  simp only[go_sem]
  refine kp [1,7] [[1,0],[12,0,5,0],[99,0,5,0]] ?_
  repeat refine sq ?_
  refine bc hΓ fun K' hK=>?_
  simp only[go_sem,Int.toNat_natCast,Int.natCast_nonneg,aq]
  repeat (refine⟨ai,?_⟩)
  refine hK _ ?_
  clear K' hK
  simp only[go_sem]
  refine⟨i+1,ae,by(show 2-(i+1)<2-i;omega),?_⟩
  refine bJ [1,7] [[1,0],[12,0,5,0],[99,0,5,0]] ?_ ?_
  ·simp only[go_sem,aM ae (lb rfl:(2:Nat)<=maxLen),Int.natCast_add,Int.natCast_one]
  ·simp only[go_sem,aM ae (lb rfl:(2:Nat)<=maxLen),Int.natCast_add,Int.natCast_one]
 ·have bo:i=2:=by
   have :¬ (i:Int)<2:=by simpa using hb
   omega
  clear hb
  subst bo
  repeat refine sq ?_
  refine di ?_
  simp only[go_sem]
  refine kp [1] [[1,0],[12,0,5,0],[99,0,5,0]] ?_
  repeat refine sq ?_
  refine rx hΓ [2] [[22,0],[12,0,5,0],[99,0,5,0]] (fun K' hK=>by simp only[go_sem,List.append_nil];(repeat (refine⟨ai,?_⟩));exact hK _ (by simp only[go_sem]) (by simp only[go_sem]<;>rfl)) ?_
  refine ax ?_
  simp only[go_sem]
  skip
noncomputable def P116:PSpec:=p1 iI (fun _=>True) (fun _=>.bool false) true
noncomputable def S116:Spec:=P116.toSpec
attribute [go_sem] P116 S116
theorem S2:aZ Tryd.prog 80 P116:=by
 refine w1 (rs:=[.tmp 2]) Tryd.func80 Tryd.ntmps80 (by rfl) (by kernel_rfl) (by decide) (fun _ _=>rfl) ⟨_,rfl,lb rfl,fun n hp hw=>?_⟩
 have hP:=br
 simp only[iI]at hw |-
 have hΓ:=@kE Tryd.prog
 repeat refine sq ?_
 refine rs hΓ [0] [] ?_
 repeat refine sq ?_
 refine rx hΓ [2] [] (fun K' hK=>by simp only[go_sem,bne_self_eq_false];(repeat (refine⟨ob,?_⟩));exact hK _ (by simp only[go_sem]) (by simp only[go_sem]<;>rfl)) ?_
 refine ax ?_
 simp only[go_sem]
 skip
theorem WV:ak Tryd.prog 80 S116:=S2.sound
noncomputable def P100:PSpec:=p1 iI (fun _=>True) (fun _=>.bool false) true
noncomputable def S100:Spec:=P100.toSpec
attribute [go_sem] P100 S100
theorem S':aZ Tryd.prog 68 P100:=by
 refine w1 (rs:=[.tmp 2]) Tryd.func68 Tryd.ntmps68 (by rfl) (by kernel_rfl) (by decide) (fun _ _=>rfl) ⟨_,rfl,lb rfl,fun n hp hw=>?_⟩
 have hP:=br
 simp only[iI]at hw |-
 have hΓ:=@kE Tryd.prog
 repeat refine sq ?_
 refine rs hΓ [0] [] ?_
 repeat refine sq ?_
 refine rx hΓ [2] [] (fun K' hK=>by simp only[go_sem,bne_self_eq_false];(repeat (refine⟨ob,?_⟩));exact hK _ (by simp only[go_sem]) (by simp only[go_sem]<;>rfl)) ?_
 refine ax ?_
 simp only[go_sem]
 skip
theorem KS:ak Tryd.prog 68 S100:=S'.sound
noncomputable def Pu:List (Nat×Spec):=[(80,S116),(68,S100)]
theorem acq:∀ f s,tbl Pu f=some s->ak Tryd.prog f s:=tc WV<|tc KS<|tn
attribute [go_sem] Pu
noncomputable def P99:PSpec:=p2 iI iI (fun _ _=>True) (fun a b=>.bool (decide (a<b))) true
noncomputable def S99:Spec:=P99.toSpec
attribute [go_sem] P99 S99
theorem Se:aZ Tryd.prog 67 P99:=by
 refine w2 (rs:=[.tmp 4]) Tryd.func67 Tryd.ntmps67 (by rfl) (by kernel_rfl) (by decide) (fun _ _ _=>rfl) ⟨_,rfl,lb rfl,fun a b hp hw=>?_⟩
 have hP:=br
 simp only[iI]at hw |-
 have hΓ:=acq
 repeat refine sq ?_
 refine rs hΓ [0,1] [] ?_
 repeat refine sq ?_
 refine rs hΓ [4] [] ?_
 refine ax ?_
 simp only[go_sem]
 skip
theorem Wt:ak Tryd.prog 67 S99:=Se.sound
noncomputable def Pt:List (Nat×Spec):=[(67,S99),(68,S100)]
theorem acp:∀ f s,tbl Pt f=some s->ak Tryd.prog f s:=tc Wt<|tc KS<|tn
attribute [go_sem] Pt
def bz(l:List Int)(x:Int):Nat:=(l.takeWhile fun y=>decide (y<x)).length
def bp(l:List Int)(x:Int):Bool:=l.contains x
theorem Uy{i j:Nat}(hi:i<=maxLen)(hj:j<=maxLen):IntKind.i64.wrap ((IntKind.u64.wrap (IntKind.i64.wrap ((i:Int)+(j:Int)))).fdiv (2 ^ min (Int.toNat 1) 64))=(((i+j) / 2:Nat):Int):=by
 unfold maxLen at hi hj
 have h1:min (Int.toNat 1) 64=1:=by decide
 have h2:IntKind.u64.wrap (IntKind.i64.wrap ((i:Int)+(j:Int)))=((i+j:Nat):Int):=by
  rw[IntKind.wrap_u64,IntKind.wrap_i64]
  omega
 rw[h1,h2]
 have h3:(((i+j:Nat):Int)).fdiv (2 ^ 1)=(((i+j) / 2:Nat):Int):=by
  rw[Int.fdiv_eq_ediv_of_nonneg _ (by decide)]
  omega
 rw[h3,wrap_i64 (by omega) (by omega)]
theorem UC{l:List Int}{x:Int}{i:Nat}(hi:i<=l.length)(h1:∀ k (h:k<l.length),k<i->l[k] <x)(h2:∀ k (h:k<l.length),i<=k->x<=l[k]):bz l x=i:=by
 unfold bz
 induction l generalizing i with
 |nil=>simp at hi |-;omega
 |cons a r ih=>
  cases i with
  |zero=>
   have :=h2 0 (by simp) (Nat.le_refl _)
   simp only[List.getElem_cons_zero]at this
   have hd:decide (a<x)=false:=by simp;omega
   simp[hd]
  |succ i=>
   have :=h1 0 (by simp) (by omega)
   simp only[List.getElem_cons_zero]at this
   have hd:decide (a<x)=true:=by simp;omega
   simp only[List.takeWhile_cons,hd,if_true,List.length_cons]
   rw[ih (by simpa using hi) (fun k hk kJ=>by have:=h1 (k+1) (by simpa using hk) (by omega);simpa using this) (fun k hk kJ=>by have:=h2 (k+1) (by simpa using hk) (by omega);simpa using this)]
theorem Za{l:List Int}{x:Int}{i:Nat}(hs:l.Pairwise (· < ·))(hi:i<l.length)(h1:∀ k (h:k<l.length),k<i->l[k] <x)(h2:∀ k (h:k<l.length),i<=k->x<=l[k]):bp l x=(l[i]==x):=by
 unfold bp
 rw[Bool.eq_iff_iff]
 simp only[List.contains_iff_mem,beq_iff_eq]
 constructor
 ·intro h
  obtain⟨k,hk,e⟩:=List.getElem_of_mem h
  rcases Nat.lt_trichotomy k i with h3 | h3 | h3
  ·have:=h1 k hk h3;omega
  ·subst h3;exact e
  ·have:=List.pairwise_iff_getElem.1 hs i k hi hk h3
   have :=h2 i hi (Nat.le_refl _)
   omega
 ·rintro rfl;exact List.getElem_mem hi
theorem Y8{l:List Int}{x:Int}(h1:∀ k (h:k<l.length),l[k] <x):bp l x=false:=by
 unfold bp
 rw[Bool.eq_false_iff]
 intro h
 obtain⟨k,hk,e⟩:=List.getElem_of_mem (List.contains_iff_mem.1 h)
 have :=h1 k hk
 omega
noncomputable def P52:PSpec:=p2 dJ iI (fun l _=>l.Pairwise (· < ·)) (fun l x=>.tup [vInt (bz l x),.bool (bp l x)]) true
noncomputable def S52:Spec:=P52.toSpec
attribute [go_sem] P52 S52
set_option maxRecDepth 10000 in
set_option maxHeartbeats 4000000 in
theorem SF:aZ Tryd.prog 42 P52:=by
 refine w2 (rs:=[.tmp 4,.tmp 5]) Tryd.func42 Tryd.ntmps42 (by rfl) (by kernel_rfl) (by decide) (fun _ _ _=>rfl) ⟨_,rfl,lb rfl,fun l x hp hw=>?_⟩
 have hP:=br
 simp only[iI,dJ]at hw |-
 have hΓ:=acp
 have hs:l.Pairwise (· < ·):=hp
 have hl:l.length<=maxLen:=by have:=hw.1.1;simpa using this
 repeat refine sq ?_
 refine rs hΓ [0,1] [] ?_
 repeat refine sq ?_
 refine rs hΓ [0,1,6] [] ?_
 repeat refine sq ?_
 refine rs hΓ [0,1,6,7,8] [] ?_
 repeat refine sq ?_
 refine a8 ?_
 repeat refine sq ?_
 refine dR (fun ij:Nat×Nat=>[(7,⟨true,.v (vInt ij.1)⟩),(8,⟨true,.v (vInt ij.2)⟩)]) (fun i=>[]) (fun ij=>ij.1<=ij.2/\ij.2<=l.length/\(∀ k (h:k<l.length),k<ij.1->l[k] <x)/\(∀ k (h:k<l.length),ij.2<=k->x<=l[k])) (fun ij=>ij.2-ij.1) (0,l.length) ?_ ?_ ?_ ?_
 ·exact⟨Nat.zero_le _,Nat.le_refl _,fun k h hk=>by omega,fun k h hk=>by omega⟩
 ·rfl
 ·rfl
 rintro⟨i,j⟩ ⟨gl,D2,fj,ig⟩
 simp only[go_sem]
 repeat refine sq ?_
 refine rs hΓ [0,1,6,7,8,15] [] ?_
 repeat refine sq ?_
 refine aD rfl rfl (fun hb=>?_) (fun hb=>?_)
 ·have ae:i<j:=by simpa using hb
  repeat refine sq ?_
  refine aI ?_
  repeat refine sq ?_
  refine a8 ?_
  repeat refine sq ?_
  refine rx hΓ [0,1,6,7,8,9] [] (fun K' hK=>by simp only[go_sem,Uy (show i<=maxLen by omega) (show j<=maxLen by omega)];(repeat (refine⟨ob,?_⟩));exact hK _ (by simp only[go_sem]) (by simp only[go_sem]<;>rfl)) ?_
  obtain⟨h,hh⟩:∃ h,h=(i+j) / 2:=⟨_,rfl⟩
  rw[<-hh]
  have h1:i<=h:=by omega
  have h2:h<j:=by omega
  have h3:h<l.length:=by omega
  have uG:(h:Int)<l.length:=by omega
  repeat refine sq ?_
  refine rx hΓ [0,1,6,7,8,9,27] [] (fun K' hK=>by simp only[go_sem,aK h3,Int.toNat_natCast,Int.natCast_nonneg,uG];(repeat (refine⟨ob,?_⟩));exact hK _ (by simp only[go_sem]) (by simp only[go_sem]<;>rfl)) ?_
  repeat refine sq ?_
  refine aD rfl rfl (fun hb=>?_) (fun hb=>?_)
  ·have hx:l[h] <x:=of_decide_eq_true hb
   repeat refine sq ?_
   refine bc hΓ fun K' hK=>?_
   simp only[go_sem]
   repeat (refine⟨ob,?_⟩)
   refine hK _ ?_
   clear K' hK
   simp only[go_sem]
   refine⟨(h+1,j),⟨by omega,D2,fun k hk DY=>?_,ig⟩,by omega,?_⟩
   ·rcases Nat.lt_succ_iff_lt_or_eq.1 DY with h5 | h5
    ·have:=List.pairwise_iff_getElem.1 hs k h hk h3 h5;omega
    ·subst h5;exact hx
   ·refine bJ [0,1,6,7,8] [] ?_ ?_
    ·simp only[go_sem,aM h3 hl,Int.natCast_add,Int.natCast_one]
    ·simp only[go_sem,aM h3 hl,Int.natCast_add,Int.natCast_one]
  ·have hx:x<=l[h]:=by
     have :¬ l[h] <x:=of_decide_eq_false hb
     omega
   repeat refine sq ?_
   refine bc hΓ fun K' hK=>?_
   simp only[go_sem]
   repeat (refine⟨ob,?_⟩)
   refine hK _ ?_
   clear K' hK
   simp only[go_sem]
   refine⟨(i,h),⟨by omega,by omega,fj,fun k hk DY=>?_⟩,by omega,?_⟩
   ·rcases Nat.lt_or_eq_of_le DY with h5 | h5
    ·have:=List.pairwise_iff_getElem.1 hs h k h3 hk h5;omega
    ·subst h5;exact hx
   ·refine bJ [0,1,6,7,8] [] ?_ ?_
    ·simp only[go_sem]
    ·simp only[go_sem]
 ·have Yu:i=j:=by
    have :¬ i<j:=by simpa using hb
    omega
  subst Yu
  clear hb
  have rU:=UC D2 fj ig
  repeat refine sq ?_
  refine di ?_
  simp only[go_sem]
  refine kp [0,1,6,7] [] ?_
  repeat refine sq ?_
  rcases Nat.lt_or_ge i l.length with fm | fm
  ·have zB:(i:Int)<l.length:=by omega
   have wC:=Za hs fm fj ig
   have hg:=aK (f:=vInt) fm
   repeat refine sq ?_
   refine rx hΓ [4,5] [] (fun K' hK=>by simp only[go_sem,aK fm,Int.toNat_natCast,Int.natCast_nonneg,zB,decide_true,rU];(repeat (refine⟨ob,?_⟩));exact hK _ (by simp only[go_sem]) (by simp only[go_sem]<;>rfl)) ?_
   refine ax ?_
   simp only[go_sem]
   rw[rU,wC]
   first | done | rfl
  ·have bo:¬ (i:Int)<l.length:=by omega
   have wC:bp l x=false:=Y8 fun k hk=>fj k hk (by omega)
   repeat refine sq ?_
   refine rx hΓ [4,5] [] (fun K' hK=>by simp only[go_sem,bo,decide_false,Int.toNat_natCast];(repeat (refine⟨ob,?_⟩));exact hK _ (by simp only[go_sem]) (by simp only[go_sem]<;>rfl)) ?_
   refine ax ?_
   simp only[go_sem]
   rw[rU,wC]
   first | done | rfl
theorem KM:ak Tryd.prog 42 S52:=SF.sound
end Go.Eng
