import Derived.Test.YtckmfkgppohnmaaDoorK6
/- Texts NW16 to KB. -/
set_option linter.all false
namespace Go.Eng
open Go Go.Proofs
theorem NW(d:Nat)(a b:Int):j5 Tryd.prog (d+1) 3 (vInt a) (vInt b)=some (a==b):=by
 simp only[j5,Tryd.underlying3,if_true]
theorem Z4:Tryd.prog.stoodInHeld 75=false:=by kernel_rfl
theorem aaI:Tryd.prog.eqGuardType Tryd.prog.depth 75=false:=by kernel_rfl
theorem aa2(d:Nat)(a b a' b':Int):j5 Tryd.prog (d+2) 75 (.agg [vInt a,vInt b]) (.agg [vInt a',vInt b'])=some (a==a'&&b==b'):=by
 unfold j5
 simp only[Tryd.underlying75,Z4,Bool.false_eq_true,if_false,s5,p5,HG,List.getElem?_cons_zero,List.getElem?_cons_succ,NW]
 cases a==a'<;>cases b==b'<;>rfl
@[go_sem] theorem ajI(obj:Name->Option O)(op:BinOp)(a b a' b':Int):l8 Tryd.prog obj op 75 (.agg [vInt a,vInt b]) (.agg [vInt a',vInt b'])=
    ⟨op=.eql\/op=.neq,.v (.bool (if op=.eql then(a==a'&&b==b')else !(a==a'&&b==b'))),obj⟩:=by
  unfold l8
  rw[show Op.maxDepth=9998+2 from rfl,aa2]
  simp only[aaI,true_and]
theorem aaJ:Tryd.prog.eqGuardType Tryd.prog.depth 37=false:=by kernel_rfl
def qL(a b:aS Int):Bool:=a.a==b.a&&(a.b==b.b&&(a.c==b.c&&(a.d==b.d&&(a.e==b.e&&a.f==b.f))))
theorem aa4{a b:aS Int}:qL a b=true↔a=b:=by
 obtain⟨a0,a1,a2,a3,a4,a5⟩:=a
 obtain⟨b0,b1,b2,b3,b4,b5⟩:=b
 simp[qL]
theorem aa3(d:Nat)(a b:aS Int):j5 Tryd.prog (d+2) 37 (.agg ((a.L id).map vInt)) (.agg ((b.L id).map vInt))=some (qL a b):=by
 obtain⟨a0,a1,a2,a3,a4,a5⟩:=a
 obtain⟨b0,b1,b2,b3,b4,b5⟩:=b
 unfold j5
 simp only[Tryd.underlying37,HG,List.range',vp,aS.L,List.map_cons,List.map_nil,id,p5,Nat.zero_mul,Nat.one_mul,Nat.mul_one,Nat.reduceAdd,List.getElem?_cons_zero,List.getElem?_cons_succ,NW,qL]
 cases a0==b0<;>cases a1==b1<;>cases a2==b2<;>cases a3==b3<;>cases a4==b4<;>cases a5==b5<;>rfl
@[go_sem] theorem ajJ(obj:Name->Option O)(op:BinOp)(a b:aS Int):l8 Tryd.prog obj op 37 (.agg ((a.L id).map vInt)) (.agg ((b.L id).map vInt))=
    ⟨op=.eql\/op=.neq,.v (.bool (if op=.eql then qL a b else !qL a b)),obj⟩:=by
  unfold l8
  rw[show Op.maxDepth=9998+2 from rfl,aa3]
  simp only[aaJ,true_and]
def vX{α:Type}(a b:List α)(n:Nat):Prop:=∀ j (h:j<a.length) (h':j<b.length),j<n->a[j]=b[j]
theorem Ig{α:Type}{a b:List α}{i:Nat}(h:vX a b i)(hi:∀ (h:i<a.length) (h':i<b.length),a[i]=b[i]):vX a b (i+1):=by
 intro j hj e7 nX
 rcases Nat.lt_succ_iff_lt_or_eq.1 nX with h1 | rfl
 ·exact h j hj e7 h1
 ·exact hi hj e7
theorem Ih{α:Type}{a b:List α}(hl:a.length=b.length)(h:vX a b a.length):a=b:=List.ext_getElem hl fun j h1 h2=>h j h1 h2 h1
theorem IZ{a b:Par}:(!(a.no==b.no&&a.pa==b.pa))=false↔a=b:=by
 obtain⟨a0,a1⟩:=a
 obtain⟨b0,b1⟩:=b
 simp
noncomputable def P34:PSpec:=p2 eH eH (fun _ _=>True) (fun a b=>.bool (decide (a=b))) true
noncomputable def S34:Spec:=P34.toSpec
attribute [go_sem] P34 S34
set_option maxHeartbeats 4000000 in
theorem TR:aR Tryd.prog 26 P34:=by
 refine w2 (rs:=[.tmp 4]) Tryd.func26 Tryd.ntmps26 (by rfl) (by kernel_rfl) (by decide) (fun _ _ _=>rfl) ⟨_,rfl,lb rfl,fun a b hp hw=>?_⟩
 have hP:=be
 simp only[eH]at hw |-
 have hΓ:=@kq Tryd.prog
 have hl:a.length<=maxLen:=by have:=hw.1.1;simpa using this
 repeat refine sq ?_
 refine rs hΓ [0,1] [] ?_
 repeat refine sq ?_
 refine rs hΓ [0,1,10] [] ?_
 repeat refine sq ?_
 refine au rfl rfl (fun hb=>?_) (fun hb=>?_)
 ·repeat refine sq ?_
  have bA:a≠b:=by
   rintro rfl
   simp at hb
  repeat refine sq ?_
  refine rs hΓ [4] [] ?_
  refine ar ?_
  simp only[go_sem]
  rw[decide_eq_false bA]
 ·repeat refine sq ?_
  have E8:a.length=b.length:=by
   have :(a.length:Int)=b.length:=by simpa using hb
   omega
  clear hb
  refine ax ?_
  repeat refine sq ?_
  refine rs hΓ [0,1,5] [] ?_
  repeat refine sq ?_
  refine aN ?_
  repeat refine sq ?_
  refine cN (fun s:Nat=>[(5,⟨true,.v (vInt s)⟩)]) (fun s=>[]) (fun s=>s<=a.length/\vX a b s) (fun s=>a.length-s) 0 ?_ ?_ ?_ ?_
  ·exact⟨Nat.zero_le _,fun j _ _ h=>by omega⟩
  ·rfl
  ·rfl
  rintro i ⟨hi,hR⟩
  simp only[go_sem]
  repeat refine sq ?_
  refine rs hΓ [0,1,5,14] [] ?_
  repeat refine sq ?_
  refine au rfl rfl (fun hb=>?_) (fun hb=>?_)
  ·have ae:i<a.length:=by simpa using hb
   have ai:(i:Int)<a.length:=by omega
   clear hb
   have sE:(i:Int)<b.length:=by omega
   have ZF:i<b.length:=by omega
   repeat refine sq ?_
   refine ax ?_
   repeat refine sq ?_
   refine aN ?_
   repeat refine sq ?_
   refine dx hΓ hP [[],[],[0,1],[0,1,2],[],[],[4,5],[4,5,6],[0,1,2,3,4,5,6,7]] [0,1,5,25] [] (by kernel_rfl) (fun K' hK=>by simp only[go_sem,aJ ae,aJ (show i<b.length by omega),Int.toNat_natCast,Int.natCast_nonneg,ai,sE];(repeat (refine⟨ob,?_⟩));(first | refine⟨by rfl,?_⟩ | skip);exact hK _ (by simp only[go_sem]) (by simp only[go_sem]<;>rfl)) ?_
   repeat refine sq ?_
   refine au rfl rfl (fun hb=>?_) (fun hb=>?_)
   ·repeat refine sq ?_
    have bA:a≠b:=by
     rintro rfl
     simp at hb
    repeat refine sq ?_
    refine rx hΓ [4] [] (fun K' hK=>by simp only[go_sem,aJ ae,aJ (show i<b.length by omega),Int.toNat_natCast,Int.natCast_nonneg,ai,sE];(repeat (refine⟨ob,?_⟩));exact hK _ (by simp only[go_sem]) (by simp only[go_sem]<;>rfl)) ?_
    refine ar ?_
    simp only[go_sem]
    rw[decide_eq_false bA]
   ·repeat refine sq ?_
    refine ax ?_
    refine cM ?_
    simp only[go_sem]
    refine kp [0,1,5] [] ?_
    repeat refine sq ?_
    refine aP hΓ fun K' hK=>?_
    simp only[go_sem,aJ ae,aJ (show i<b.length by omega),Int.toNat_natCast,Int.natCast_nonneg,ai,sE]
    repeat (refine⟨ob,?_⟩)
    refine hK _ ?_
    clear K' hK
    simp only[go_sem]
    refine⟨i+1,⟨ae,?_⟩,by(show a.length-(i+1)<a.length-i;omega),?_⟩
    ·exact Ig hR fun _ _=>by first | exact IZ.1 hb | simpa using hb
    refine bk [0,1,5] [] ?_ ?_
    ·simp only[go_sem,aF ae hl,Int.natCast_add,Int.natCast_one]
    ·simp only[go_sem,aF ae hl,Int.natCast_add,Int.natCast_one]
  ·have bb:i=a.length:=by
    have :¬ (i:Int)<a.length:=by simpa using hb
    omega
   clear hb
   subst bb
   repeat refine sq ?_
   refine cr ?_
   simp only[go_sem]
   refine kp [] [] ?_
   repeat refine sq ?_
   refine rs hΓ [4] [] ?_
   refine ar ?_
   simp only[go_sem]
   rw[decide_eq_true (Ih E8 hR)]
theorem X3:ak Tryd.prog 26 S34:=TR.sound
noncomputable def P75:PSpec:=p2 ll ll (fun _ _=>True) (fun a b=>.bool (decide (a=b))) true
noncomputable def S75:Spec:=P75.toSpec
attribute [go_sem] P75 S75
set_option maxHeartbeats 4000000 in
theorem Ts:aR Tryd.prog 64 P75:=by
 refine w2 (rs:=[.tmp 4]) Tryd.func64 Tryd.ntmps64 (by rfl) (by kernel_rfl) (by decide) (fun _ _ _=>rfl) ⟨_,rfl,lb rfl,fun a b hp hw=>?_⟩
 have hP:=be
 simp only[ll]at hw |-
 have hΓ:=@kq Tryd.prog
 have hl:a.length<=maxLen:=by have:=hw.1.1;simpa using this
 repeat refine sq ?_
 refine rs hΓ [0,1] [] ?_
 repeat refine sq ?_
 refine rs hΓ [0,1,10] [] ?_
 repeat refine sq ?_
 refine au rfl rfl (fun hb=>?_) (fun hb=>?_)
 ·repeat refine sq ?_
  have bA:a≠b:=by
   rintro rfl
   simp at hb
  repeat refine sq ?_
  refine rs hΓ [4] [] ?_
  refine ar ?_
  simp only[go_sem]
  rw[decide_eq_false bA]
 ·repeat refine sq ?_
  have E8:a.length=b.length:=by
   have :(a.length:Int)=b.length:=by simpa using hb
   omega
  clear hb
  refine ax ?_
  repeat refine sq ?_
  refine rs hΓ [0,1,5] [] ?_
  repeat refine sq ?_
  refine aN ?_
  repeat refine sq ?_
  refine cN (fun s:Nat=>[(5,⟨true,.v (vInt s)⟩)]) (fun s=>[]) (fun s=>s<=a.length/\vX a b s) (fun s=>a.length-s) 0 ?_ ?_ ?_ ?_
  ·exact⟨Nat.zero_le _,fun j _ _ h=>by omega⟩
  ·rfl
  ·rfl
  rintro i ⟨hi,hR⟩
  simp only[go_sem]
  repeat refine sq ?_
  refine rs hΓ [0,1,5,14] [] ?_
  repeat refine sq ?_
  refine au rfl rfl (fun hb=>?_) (fun hb=>?_)
  ·have ae:i<a.length:=by simpa using hb
   have ai:(i:Int)<a.length:=by omega
   clear hb
   have sE:(i:Int)<b.length:=by omega
   have ZF:i<b.length:=by omega
   repeat refine sq ?_
   refine ax ?_
   repeat refine sq ?_
   refine aN ?_
   repeat refine sq ?_
   refine dx hΓ hP [[],[],[0,1],[0,1,2],[],[],[4,5],[4,5,6],[0,1,2,3,4,5,6,7]] [0,1,5,25] [] (by kernel_rfl) (fun K' hK=>by simp only[go_sem,aJ ae,aJ (show i<b.length by omega),Int.toNat_natCast,Int.natCast_nonneg,ai,sE];(repeat (refine⟨ob,?_⟩));(first | refine⟨by rfl,?_⟩ | skip);exact hK _ (by simp only[go_sem]) (by simp only[go_sem]<;>rfl)) ?_
   repeat refine sq ?_
   refine au rfl rfl (fun hb=>?_) (fun hb=>?_)
   ·repeat refine sq ?_
    have bA:a≠b:=by
     rintro rfl
     simp at hb
    repeat refine sq ?_
    refine rx hΓ [4] [] (fun K' hK=>by simp only[go_sem,aJ ae,aJ (show i<b.length by omega),Int.toNat_natCast,Int.natCast_nonneg,ai,sE];(repeat (refine⟨ob,?_⟩));exact hK _ (by simp only[go_sem]) (by simp only[go_sem]<;>rfl)) ?_
    refine ar ?_
    simp only[go_sem]
    rw[decide_eq_false bA]
   ·repeat refine sq ?_
    refine ax ?_
    refine cM ?_
    simp only[go_sem]
    refine kp [0,1,5] [] ?_
    repeat refine sq ?_
    refine aP hΓ fun K' hK=>?_
    simp only[go_sem,aJ ae,aJ (show i<b.length by omega),Int.toNat_natCast,Int.natCast_nonneg,ai,sE]
    repeat (refine⟨ob,?_⟩)
    refine hK _ ?_
    clear K' hK
    simp only[go_sem]
    refine⟨i+1,⟨ae,?_⟩,by(show a.length-(i+1)<a.length-i;omega),?_⟩
    ·exact Ig hR fun _ _=>by first | exact IZ.1 hb | simpa using hb
    refine bk [0,1,5] [] ?_ ?_
    ·simp only[go_sem,aF ae hl,Int.natCast_add,Int.natCast_one]
    ·simp only[go_sem,aF ae hl,Int.natCast_add,Int.natCast_one]
  ·have bb:i=a.length:=by
    have :¬ (i:Int)<a.length:=by simpa using hb
    omega
   clear hb
   subst bb
   repeat refine sq ?_
   refine cr ?_
   simp only[go_sem]
   refine kp [] [] ?_
   repeat refine sq ?_
   refine rs hΓ [4] [] ?_
   refine ar ?_
   simp only[go_sem]
   rw[decide_eq_true (Ih E8 hR)]
theorem Lt:ak Tryd.prog 64 S75:=Ts.sound
noncomputable def QO:List (Nat×Spec):=[(26,S34),(64,S75)]
theorem aj8:∀ f s,tbl QO f=some s->ak Tryd.prog f s:=tc X3<|tc Lt<|tn
attribute [go_sem] QO
theorem agv{a b:Stk}(h:a.un=b.un):decide (a=b)=(decide (a.ho=b.ho)&&(qL a.se b.se&&qL a.ta b.ta)):=by
 obtain⟨h1,u1,s1,t1⟩:=a
 obtain⟨h2,u2,s2,t2⟩:=b
 simp only at h
 subst h
 rw[Bool.eq_iff_iff]
 simp[aa4]
theorem acE{a b:Bag}:decide (a=b)=((a.fr==b.fr&&a.to==b.to&&a.ta==b.ta)&&decide (a.ps=b.ps)):=by
 obtain⟨f1,t1,p1,x1⟩:=a
 obtain⟨f2,t2,p2,x2⟩:=b
 rw[Bool.eq_iff_iff]
 simp only[decide_eq_true_eq,Bool.and_eq_true,Bag.mk.injEq,beq_iff_eq]
 constructor
 ·rintro⟨h1,h2,h3,h4⟩;exact⟨⟨⟨h1,h2⟩,h4⟩,h3⟩
 ·rintro⟨⟨⟨h1,h2⟩,h4⟩,h3⟩;exact⟨h1,h2,h3,h4⟩
noncomputable def QN:List (Nat×Spec):=[(64,S75)]
theorem adO:∀ f s,tbl QN f=some s->ak Tryd.prog f s:=tc Lt<|tn
attribute [go_sem] QN
noncomputable def P33:PSpec:=p2 nM nM (fun _ _=>True) (fun a b=>.bool (decide (a=b))) true
noncomputable def S33:Spec:=P33.toSpec
attribute [go_sem] P33 S33
set_option maxHeartbeats 4000000 in
theorem TS:aR Tryd.prog 33 P33:=by
 refine w2 (rs:=[.tmp 4]) Tryd.func33 Tryd.ntmps33 (by rfl) (by kernel_rfl) (by decide) (fun _ _ _=>rfl) ⟨_,rfl,lb rfl,fun a b hp hw=>?_⟩
 have hP:=be
 simp only[nM]at hw |-
 have hΓ:=adO
 repeat refine sq ?_
 refine rs hΓ [2,3] [[2,0],[3,0]] ?_
 refine aL (cG [2,0] (aX a) rfl [2,3] [[2,0],[3,0]] ?_ rfl) ?_
 ·simp only[go_sem]
 simp only[go_sem]
 refine aL (cG [3,0] (aX b) rfl [2,3] [[2,0],[3,0]] ?_ rfl) ?_
 ·simp only[go_sem]
 simp only[go_sem]
 repeat refine sq ?_
 refine rs hΓ [4] [] ?_
 refine ar ?_
 simp only[go_sem]
 rw[acE];congr 1;rw[Bool.eq_iff_iff];simp[and_assoc]
theorem k33:ak Tryd.prog 33 S33:=TS.sound
theorem AP(d:Dk){i:Nat}(h:i<2):(an d).getD (20+i*21) default=vInt (d.pg i).co:=by
 match i,h with
 | 0,_=>rfl
 | 1,_=>rfl
theorem ah'(d:Dk){i:Nat}(h:i<2):(an d).getD (20+i*21+20) default=vInt (d.pg i).su:=by
 match i,h with
 | 0,_=>rfl
 | 1,_=>rfl
theorem F8(d:Dk){i:Nat}(h:i<2):((an d).drop (20+i*21+1)).take 19=aC (d.pg i).st:=by
 match i,h with
 | 0,_=>rfl
 | 1,_=>rfl
theorem agV{a b:Pg}(h1:a.co=b.co)(h2:a.su=b.su)(h3:a.st=b.st):a=b:=by
 obtain⟨a1,a2,a3⟩:=a
 obtain⟨b1,b2,b3⟩:=b
 simp only at h1 h2 h3
 subst h1 h2 h3
 rfl
theorem ahY{a b:Dk}(h:∀ j,j<2->a.pg j=b.pg j):decide (a=b)=((a.me==b.me&&a.wet==b.wet)&&decide (a.now=b.now)):=by
 have h0:=h 0 (by omega)
 have h1:=h 1 (by omega)
 obtain⟨m1,n1,p1,q1,w1⟩:=a
 obtain⟨m2,n2,p2,q2,w2⟩:=b
 simp only[Dk.pg]at h0 h1
 subst h0 h1
 rw[Bool.eq_iff_iff]
 simp only[decide_eq_true_eq,Bool.and_eq_true,Dk.mk.injEq,beq_iff_eq,true_and]
 constructor
 ·rintro⟨h1,h2,h3⟩;exact⟨⟨h1,h3⟩,h2⟩
 ·rintro⟨⟨h1,h3⟩,h2⟩;exact⟨h1,h2,h3⟩
noncomputable def QM:List (Nat×Spec):=[]
theorem aj7:∀ f s,tbl QM f=some s->ak Tryd.prog f s:=tn
attribute [go_sem] QM
end Go.Eng
set_option linter.unusedVariables false
namespace Go.Eng
open Go Go.Proofs Go.RowKit Go.Lib Go.Shelf
theorem Ur{P:Program}(w:World)(t e ty:TypeId)(z:Value)(ht:P.underlying t=some (.slice e))(hv:bh P e=some z)(h1:∀ v∈z.cells.toList,v.oneCell'=true)(b o c:Nat)
 (hc:∀ j,j<z.cells.size->(w.cell? ⟨b,o+j,none⟩).isSome=true) (hf:∀ j,w.frozen? ⟨b,j,none⟩=false):
 (Builtin.clear_ #[t] ty #[.slice (some ⟨b,o,none⟩) 1 c]).run P w=.ok (.tuple #[]) (w.setCells b o z.cells.toList):=by
 have o0:(Builtin.zeroCells z.cells 1).toList=z.cells.toList:=by
  have :Builtin.zeroCells z.cells 1=z.cells:=by
   apply Array.ext
   ·simp[Builtin.zeroCells]
   ·intro i h1 h2
    simp[Builtin.zeroCells,Nat.mod_eq_of_lt h2]
    rw[getElem!_pos z.cells i h2]
  rw[this]
 have bG:=run_storeCells_cells (P:=P) b o z.cells.toList 0 w (by simpa using hc) (by simpa using fun j _=>hf (o+j)) h1
 simp only[Nat.add_zero]at bG
 simp[Builtin.clear_,run_underlying ht,rD hv,o0,bG]
set_option maxHeartbeats 4000000 in
set_option maxRecDepth 100000 in
theorem abr(b off n c i:Nat)(cs:List Value)(w:World)(hi:i<n)(Em:n<=c)(MW:c<=9223372036854775807)(bS:cs.length=n*1)
 (gG:∀ j v,cs[j]?=some v->w.cell? ⟨b,off+j,none⟩=some v) (qA:∀ j,w.frozen? ⟨b,j,none⟩=false) (xp:∀ v∈cs,v.oneCell'=true):
 Calls Tryd.prog 44 #[.slice (some ⟨b,off,none⟩) n c,.int .i64 i,.int .i64 (i+1)] w fun e w'=>
  e=.returned (.slice (some ⟨b,off,none⟩) (n-1) c)/\w'=(w.drew.setCells b (off+i*1) (cs.drop ((i+1)*1))).setCells b (off+(n-1)*1) (List.replicate 1 (.int .i64 0)):=by
 have mixed:Tryd.prog.follows Departure.mixedOrders=true:=by kernel_rfl
 have vg:bM Tryd.prog 34=some (3,1,8):=by kernel_rfl
 have xl:bh Tryd.prog 3=some (.int .i64 0):=by kernel_rfl
 obtain⟨i0,lO,sf⟩:∃ i0,Tryd.prog.info? 3=some i0/\i0.size=1:=by
  obtain⟨hu,i0,h1,h2,h3⟩:=iz vg
  exact⟨i0,h1,h2⟩
 obtain⟨news,wY⟩:∃ news,news=cs.drop ((i+1)*1):=⟨_,rfl⟩
 have hlen:news.length=(n-(i+1))*1:=by rw[wY,List.length_drop,bS,Nat.sub_mul]
 have DU:∀ j,j<n*1->(w.cell? ⟨b,off+j,none⟩).isSome=true:=fun j hj=>by
  rw[gG j _ (List.getElem?_eq_getElem (by omega))];rfl
 obtain⟨A,hA,bI⟩:∃ A:Addr,(if c=i+1 then some (⟨b,off,none⟩:Addr)else some ⟨b,off+(i+1)*1,none⟩)=some A/\Hid (∀ t u,news[t]?=some u->w.drew.cell? (A.add t)=some u):=by
  by_cases h:c=i+1
  ·refine⟨⟨b,off,none⟩,by simp[h],fun t u hu=>?_⟩
   have h0:news.length=0:=by rw[hlen];have:n-(i+1)=0:=by omega
                             rw[this,Nat.zero_mul]
   rw[List.length_eq_zero_iff.1 h0]at hu
   simp at hu
  ·refine⟨⟨b,off+(i+1)*1,none⟩,by simp[h],fun t u hu=>?_⟩
   rw[Addr.add_lit,Nat.add_assoc]
   exact gG _ _ (by rw[wY,List.getElem?_drop]at hu;exact hu)
 have s1:Hid (news.length=(n-(i+1))*1):=hlen
 have s2:Hid (∀ u∈news,u.oneCell'=true):=fun u hu=>xp u (List.mem_of_mem_drop (wY▸hu))
 have s3:Hid (∀ t,t<news.length->(w.drew.cell? ⟨b,off+i*1+t,none⟩).isSome=true/\w.drew.frozen? ⟨b,off+i*1+t,none⟩=false):=by
  intro t ht
  rw[hlen]at ht
  refine⟨?_,qA _⟩
  rw[Nat.add_assoc]
  exact DU _ (by omega)
 obtain⟨W1,iL⟩:∃ W1,W1=w.drew.setCells b (off+i*1) news:=⟨_,rfl⟩
 have Mc:∀ j,j<n*1->(W1.cell? ⟨b,off+j,none⟩).isSome=true:=fun j hj=>by
  rw[iL]
  exact isSome_setCells b _ _ _ (fun t ht=>(s3 t ht).1) _ (DU j hj)
 have EX:∀ ty,(Builtin.clear_ #[34] ty #[.slice (some ⟨b,off+(i+(n-(i+1)))*1,none⟩) (n-(i+(n-(i+1)))) (c-(i+(n-(i+1))))]).run Tryd.prog W1=.ok (.tuple #[]) (W1.setCells b (off+(i+(n-(i+1)))*1) (List.replicate 1 (.int .i64 0))):=fun ty=>by
  have e:n-(i+(n-(i+1)))=1:=by omega
  rw[e]
  exact Ur W1 34 3 ty _ Tryd.underlying34 xl (by decide) b _ _ (fun j hj=>by rw[Nat.add_assoc];exact Mc _ (by have:j<1:=hj;omega)) (fun j=>by rw[iL,World.frozen?_setCells];exact qA _)
 have hW:Hid (W1=w.drew.setCells b (off+i*1) news):=iL
 rw[<-wY,<-iL]
 have hic:i<=c:=by omega
 have hjc:i+1<=c:=by omega
 have al:¬ ((i:Int)=(i:Int)+1):=by omega
 have hjn:i+1<=n:=by omega
 have Eb:(0:Int)<=(i:Int)+1:=by omega
 have sv:(i:Int)+1<=(n:Int):=by omega
 clear iL Mc DU wY hlen
 simp only[Nat.mul_one]at hA EX
 go_enter Tryd.func44,Tryd.ntmps44
 go_wp2_with fail
 go_region_law_o (refine step_append_room rfl (.tmp 22) (.tmp 25) 34 rfl 3 i0 1 Tryd.underlying34 lO sf b off i c (by simp[Act.eval,Act.put]) A (n-(i+1)) (c-(i+1)) news (by simp[Act.eval,Act.put]) s1.out bI.out s2.out (by omega) s3.out ?_;rw[<-hW.out])
 go_wp2
 go_ret
 have e:n-1=i+(n-(i+1)):=by omega
 rw[e,Nat.mul_one]
 exact⟨rfl,rfl⟩
def zI:V:=.int .i64 0
def x9(obj:Name->Option O):List D->R
 |[.msl nm k,.v (.int .i64 i),.v (.int .i64 j)]=>match obj nm with
  |some (.arr sz l)=>⟨k=l.length/\sz=1/\0<=i/\j=i+1/\i.toNat<l.length,.v (.sl (l.eraseIdx i.toNat)),upd obj nm (some (.farr sz (l.eraseIdx i.toNat++[zI])))⟩
  |_=>.bad obj
 |_=>.bad obj
def AQ:List D->List Name
 |[.msl nm _,_,_]=>[nm]
 |_=>[]
def S54:Spec:=⟨fun obj _ ds=>x9 obj ds,fun _ _ ds=>AQ ds,fun _ _ ds=>AQ ds⟩
theorem Ga{l:List V}{i q:Nat}(hi:i<l.length)(h:q<(l.eraseIdx i++[zI]).length):
 (q<i/\∃ h':q<l.length,(l.eraseIdx i++[zI])[q]=l[q])\/(i<=q/\∃ h':q+1<l.length,(l.eraseIdx i++[zI])[q]=l[q+1])\/(q+1=l.length/\(l.eraseIdx i++[zI])[q]=zI):=by
 have hl:(l.eraseIdx i).length=l.length-1:=List.length_eraseIdx_of_lt hi
 have hq:q<l.length:=by simp[hl]at h;omega
 by_cases h1:q<l.length-1
 ·rw[List.getElem_append_left (by omega),List.getElem_eraseIdx]
  by_cases h2:q<i
  ·exact .inl ⟨h2,hq,by rw[dif_pos h2]⟩
  ·exact .inr (.inl ⟨by omega,by omega,by rw[dif_neg h2]⟩)
 ·refine .inr (.inr ⟨by omega,?_⟩)
  rw[List.getElem_append_right (by omega)]
  simp
theorem abq:S54.Near:=by
 refine⟨fun obj obj2 t ds h=>?_,fun obj obj2 t ds h=>rfl,fun obj t ds nm hn=>hn,fun obj obj2 t ds h=>rfl⟩
 simp only[S54]at h |-
 unfold x9
 split
 ·rename_i nm k i j
  have h':obj2 nm=obj nm:=h nm (by simp[AQ])
  simp only[h']
  split
  ·exact .one (by simp[AQ]) h
  ·exact .none _ h
 ·exact .none _ h
set_option maxHeartbeats 1000000 in
theorem Ly:ak Tryd.prog 44 S54:=by
 refine⟨abq,fun _ args w=>iN Tryd.func44 rfl (by kernel_rfl) args w,fun _ G φ m σ a w hC t ds us _ hl hr aa=>?_,fun e=>(Nat.ne_of_lt (show (44:Nat)<yid by decide) e).elim⟩
 simp only[S54,x9]at aa |-
 split at aa
 case h_2=>exact aa.elim
 rename_i nm k i j
 simp only[List.length_cons,List.length_nil]at hl
 have r0:=hr 0 (by simp) (by omega)
 have r1:=hr 1 (by simp) (by omega)
 have r2:=hr 2 (by simp) (by omega)
 simp only[List.getElem_cons_zero,List.getElem_cons_succ]at r0 r1 r2
 have nP:us= #[us[0],us[1],us[2]]:=by
  apply Array.ext
  ·simp;omega
  ·intro j h1 h2
   have :j=0\/j=1\/j=2:=by omega
   rcases this with rfl | rfl | rfl<;>rfl
 rw[nP]
 generalize us[0]=u0 at r0
 generalize us[1]=u1 at r1
 generalize us[2]=u2 at r2
 clear nP hr hl us
 cases r1 with
 |v _ _ r1=>
 cases r1 with
 |int _ _=>
 cases r2 with
 |v _ _ r2=>
 cases r2 with
 |int _ _=>
 split at aa
 case h_2=>exact aa.elim
 rename_i sz l aq
 obtain⟨hk,bm,lO,hj,fS⟩:=aa
 subst bm hj
 cases r0 with
 |msl _ _ _ hh wM=>
 obtain⟨o,nn,cE,hlen,_,cq⟩:=hh
 rw[aq]at cE;cases cE
 simp only[O.len?,Option.some.injEq]at hlen
 subst hlen
 have hv:=cq hk
 subst hk
 obtain⟨i,rfl⟩:∃ n:Nat,i=(n:Int):=⟨i.toNat,by omega⟩
 simp only[Int.toNat_natCast]at fS |-
 rcases hC.objs nm _ aq with⟨_,jU⟩ | ⟨g0,g1,g2,g3,g4,bc,T',f,g5,g6,g7,g8⟩
 ·subst jU;simp at fS
 have iK:(φ nm).blk<w.heap.size:=(Array.getElem?_eq_some_iff.1 g5).1
 have DO:u0=.slice (some ⟨(φ nm).blk,(φ nm).off,none⟩) l.length (φ nm).cap:=by rw[hv];simp only[Loc.slice,g0];rfl
 subst DO
 have pc:holds φ σ.obj nm:=⟨_,aq,rfl,g0⟩
 obtain⟨c1,pq⟩:∃ c1:Nat->Nat->Value,∀ q j,q<l.length->j<1->bc[(φ nm).off+q*1+j]?=some (c1 q j):=⟨fun q j=>(bc[(φ nm).off+q*1+j]?).getD undef,fun q j hq hj=>by
  obtain⟨c,x1,_⟩:=g8 q j hq (by rw[g3];exact hj)
  simp only[x1,Option.getD_some]⟩
 have b9:∀ q j (h:q<l.length) (h':j<l[q].cells.length),aB m l[q].cells[j] (c1 q j):=fun q j h h'=>by
  obtain⟨c,x1,x2⟩:=g8 q j h h'
  have :=pq q j h (by rw[<-g3 q h];exact h')
  rw[x1]at this;cases this;exact x2
 have Ar:∀ j v,(rowOf c1 l.length 1)[j]?=some v->w.cell? ⟨(φ nm).blk,(φ nm).off+j,none⟩=some v:=fun j v w9=>by
  have :=ua (w:=w) (c:=c1) (n:=l.length) (sz:=1) (blk:=(φ nm).blk) (o:=(φ nm).off) (fun q j hq hj=>by rw[mZ g5];exact pq q j hq hj) j v w9
  rwa [ka]at this
 have z7:∀ v∈rowOf c1 l.length 1,v.oneCell'=true:=by
  intro v hv
  simp only[rowOf,List.mem_map,List.mem_range]at hv
  obtain⟨k,hk,rfl⟩:=hv
  obtain⟨d1,d2⟩:=xH hk
  exact wm ((b9 _ _ d1 (by rw[g3];exact d2)).one (g4 _ d1 _ (List.getElem_mem _)))
 refine(abr (φ nm).blk (φ nm).off l.length (φ nm).cap i (rowOf c1 l.length 1) w fS g1 (by unfold maxLen at g2;omega) (ep _ _ _) Ar (fun j=>No g5 g6) z7).mono ?_
 rintro e w' ⟨rfl,rfl⟩
 obtain⟨mn,k1,k2,k3⟩:=rC (φ nm).blk T' f ((rowOf c1 l.length 1).drop ((i+1)*1)) ((φ nm).off+i*1) w.drew bc g5
 obtain⟨kg,k4,k5,k6⟩:=rC (φ nm).blk T' f (List.replicate 1 (.int .i64 0)) ((φ nm).off+(l.length-1)*1) (bt w.drew (φ nm).blk (.cells mn T' f)) mn (jH iK)
 rw[k1,k4,yk]
 have hL:(l.eraseIdx i++[zI]).length=l.length:=by simp[List.length_eraseIdx_of_lt fS];omega
 have nR:∀ q (h:q<(l.eraseIdx i++[zI]).length),(l.eraseIdx i++[zI])[q].cells.length=1:=fun q h=>by
  rcases Ga fS h with⟨_,h',e⟩ | ⟨_,h',e⟩ | ⟨_,e⟩<;>rw[e]
  ·exact g3 _ _
  ·exact g3 _ _
  ·rfl
 have uS:∀ q (h:q<(l.eraseIdx i++[zI]).length),∀ x∈(l.eraseIdx i++[zI])[q].cells,x.one=true:=fun q h=>by
  rcases Ga fS h with⟨_,h',e⟩ | ⟨_,h',e⟩ | ⟨_,e⟩<;>rw[e]
  ·exact g4 _ _
  ·exact g4 _ _
  ·intro x hx
   simp only[zI,V.cells,List.mem_cons,List.not_mem_nil,or_false,or_self]at hx
   subst hx;rfl
 have MV:l.length*1<=(φ nm).cap*1:=Nat.mul_le_mul_right _ g1
 have lr:∀ q j (h:q<(l.eraseIdx i++[zI]).length) (h':j<(l.eraseIdx i++[zI])[q].cells.length),∃ c,kg[(φ nm).off+q*1+j]?=some c/\aB m (l.eraseIdx i++[zI])[q].cells[j] c:=by
  intro q j h h'
  have hq:q<l.length:=by rw[<-hL];exact h
  have hj:j<1:=by rw[<-nR q h];exact h'
  rw[k6 _ (by rw[k2];omega),k3 _ (by omega)]
  simp only[List.length_replicate,List.length_drop,ep]
  rcases Ga fS h with⟨h1,h2,e⟩ | ⟨h1,h2,e⟩ | ⟨h1,e⟩
  ·simp only[e]at h' |-
   rw[if_neg (by omega),if_neg (by omega)]
   exact⟨_,pq q j h2 hj,b9 q j h2 h'⟩
  ·simp only[e]at h' |-
   rw[if_neg (by omega),if_pos (by omega),List.getElem?_drop,show (i+1)*1+((φ nm).off+q*1+j-((φ nm).off+i*1))=(q+1)*1+j by omega]
   exact⟨_,kZ c1 h2 hj,b9 (q+1) j h2 h'⟩
  ·simp only[e]at h' |-
   rw[if_pos (by omega)]
   refine⟨.int .i64 0,by rw[List.getElem?_replicate,if_pos (by omega)],?_⟩
   have hz:zI.cells[j]=.int .i64 0:=by
    have :zI.cells=List.replicate 1 (.int .i64 0):=rfl
    simp only[this,List.getElem_replicate]
   rw[hz]
   exact .int _ _
 have hx:=Ext.same (φ:=φ) (o':=.arr 1 (l.eraseIdx i++[zI])) aq (by simp only[O.len?,hL]) rfl
 have gi:=hC.chg (w':=bt w.drew (φ nm).blk (.cells kg T' f)) nm (.arr 1 (l.eraseIdx i++[zI])) (φ nm) hx ⟨rfl,rfl,rfl,by rw[BC];exact Nat.le_refl _⟩
  (fun b' cY hn=>by
    rw[lI (by rcases hn with h | h; · rw[g0]at h;cases h
              ·exact h)]
    rfl) (fun _=>.inr ⟨pc,rfl⟩)
  (.inr ⟨g0,by rw[hL];exact g1,g2,nR,uS,kg,T',f,jH iK,g6,by rw[k5,k2];exact g7,lr⟩)
 rw[eN]at gi hx
 obtain⟨m',q1,q2,q3⟩:=gi.frz1 nm (.arr 1 (l.eraseIdx i++[zI])) (.farr 1 (l.eraseIdx i++[zI])) (aE _ _ _) rfl g0 kg T' f (jH iK) rfl rfl rfl
  (fun m' hle jd=>.inr ⟨g0,⟨by rw[hL];exact g1,by rw[hL];exact Nat.le_trans g1 g2⟩,nR,uS,fun i j a b=>let ⟨c,x,y⟩:=lr i j a b;⟨c,jd _ _ x,y.mono hle⟩⟩)
 simp only[tM]at q2
 have iZ:Ext φ φ σ.obj (upd σ.obj nm (some (.farr 1 (l.eraseIdx i++[zI])))):=by
  have :=Ext.same (φ:=φ) (o':=.farr 1 (l.eraseIdx i++[zI])) aq (by simp only[O.len?,hL]) rfl
  rwa [eN]at this
 refine⟨_,φ,m',rfl,q2,.v _ _ ?_,iZ⟩
 have eC:(l.eraseIdx i).length=l.length-1:=List.length_eraseIdx_of_lt fS
 rw[<-eC]
 by_cases Mq:l.eraseIdx i=[]
 ·rw[Mq];exact .slnil _ _
 ·have fT:∀ q (h:q<(l.eraseIdx i).length),(l.eraseIdx i++[zI])[q]'(by rw[List.length_append];omega)=(l.eraseIdx i)[q]:=fun q h=>List.getElem_append_left h
  refine .sl _ _ _ _ 1 (fun q j=>(kg[(φ nm).off+q*1+j]?).getD undef) Mq (by rw[eC];omega) (by rw[eC];omega) (fun q h=>?_) (fun q j h hj=>?_) (fun q j h hj=>?_) (fun q h=>?_)
  ·rw[<-fT q h];exact nR _ _
  ·obtain⟨c,x,y⟩:=lr q j (by rw[List.length_append];omega) (by rw[nR];exact hj)
   rw[x];exact q3 _ _ x
  ·have hg:=fT q h
   simp only[<-hg]at hj |-
   obtain⟨c,x,y⟩:=lr q j (by rw[List.length_append];omega) hj
   rw[x];exact y.mono q1
  ·rw[<-fT q h];exact uS _ _
end Go.Eng
set_option linter.unusedVariables false
namespace Go.Eng
open Go Go.Proofs
def xI:Nat->Nat->List Nat->List Nat
 | 0,_,acc=>acc
 |f+1,n,acc=>cond (Nat.blt n 10) ((48+n)::acc) (xI f (n / 10) ((48+n % 10)::acc))
theorem N':∀ (f n:Nat) (acc:List Nat),n<10 ^ (f+1)->xI (f+1) n acc=(Lib.decDigits n).map UInt8.toNat++acc
 |f,n,acc,h=>by
  unfold xI
  by_cases h9:n<10
  ·have hb:Nat.blt n 10=true:=by simpa[Nat.blt_eq]using h9
   have :(UInt8.ofNat (48+n)).toNat=48+n:=UInt8.toNat_ofNat_of_lt' (by show 48+n<256;omega)
   rw[hb,Lib.decDigits_one h9,List.map_cons,List.map_nil,this]
   rfl
  ·have hb:Nat.blt n 10=false:=by
     cases hh:Nat.blt n 10 with
     |false=>rfl
     |true=>exact absurd (by simpa[Nat.blt_eq]using hh) h9
   have hm:n % 10<10:=Nat.mod_lt _ (by omega)
   have :(UInt8.ofNat (48+n % 10)).toNat=48+n % 10:=UInt8.toNat_ofNat_of_lt' (by show 48+n % 10<256;omega)
   rw[hb,N9 (by omega),cond_false]
   match f,h with
   | 0,h=>exact absurd h (by simpa using h9)
   |g+1,h=>
    rw[N' g (n / 10) _ (by rw[Nat.pow_succ]at h;omega),List.map_append,List.map_cons,List.map_nil,this,List.append_assoc]
    rfl
def nK(w:List Nat)(l:List Int):List Nat:=w++(l.flatMap (fun n=>32::xI 8 n.toNat [])++[10])
def nz(i:Nat)(l:List Par):List Nat:=l.flatMap fun p=>nK [117,110,100,101,114] [(i:Int),p.no,p.pa]
def ym(s:Stk):List Nat:=
 nK [104,111,108,100,115] s.ho++(nz 0 s.un.a++(nz 1 s.un.b++(nz 2 s.un.c++(nz 3 s.un.d++(nz 4 s.un.e++(nz 5 s.un.f++(nK [115,101,110,116] [s.se.a,s.se.b,s.se.c,s.se.d,s.se.e,s.se.f]++nK [116,97,107,101,110] [s.ta.a,s.ta.b,s.ta.c,s.ta.d,s.ta.e,s.ta.f])))))))
def bN(b:ByteArray):List Nat:=b.data.toList.map UInt8.toNat
theorem GK(a b:ByteArray):bN (a++b)=bN a++bN b:=by
 unfold bN
 rw[<-List.map_append]
 congr 1
 all_goals simp
theorem acG(l:List UInt8):bN (eA l)=l.map UInt8.toNat:=by simp[bN,eA]
theorem Nx:∀ {l:List Int},(∀ n∈l,bZ n)->(l.flatMap (fun n=>32::Lib.itoa n)).map UInt8.toNat=l.flatMap (fun n=>32::xI 8 n.toNat [])
 |[],_=>rfl
 |n::r,h=>by
  obtain⟨h0,h1⟩:=h n (by simp)
  rw[List.flatMap_cons,List.flatMap_cons,List.map_append,Nx fun m hm=>h m (by simp[hm]),List.map_cons,Dt h0,N' 7 n.toNat [] (by show n.toNat<100000000;omega),List.append_nil]
  rfl
theorem zn{w:List UInt8}{l:List Int}(h:∀ n∈l,bZ n):bN (dU (eA w) l)=nK (w.map UInt8.toNat) l:=by
 have e:(eA w).data.toList=w:=by simp[eA]
 rw[VM,acG]
 unfold nK qg ky
 rw[List.take_length,List.map_append,List.map_append,List.append_assoc,Nx h,e]
 rfl
theorem Hv{a:ByteArray}{i:Nat}(hi:i<6){l:List Par}(h:∀ p∈l,bZ p.no/\bZ p.pa):∀ k,k<=l.length->bN (g' a i l k)=bN a++nz i (l.take k)
 | 0,_=>by simp[g',nz]
 |k+1,hk=>by
  have gS:k<l.length:=by omega
  have hq:=h _ (List.getElem_mem gS)
  have ht:l.take (k+1)=l.take k++[l[k]]:=by rw[List.take_add_one,List.getElem?_eq_getElem gS];rfl
  rw[g',GK,Hv hi h k (by omega),j0 gS,ht]
  have :bN (dU kW [(i:Int),l[k].no,l[k].pa])=nK [117,110,100,101,114] [(i:Int),l[k].no,l[k].pa]:=zn (w:=[117,110,100,101,114]) (y7 hi hq)
  rw[this]
  unfold nz
  rw[List.flatMap_append,List.flatMap_cons,List.flatMap_nil,List.append_nil,List.append_assoc]
theorem uu{s:Stk}(hs:eQ s){i:Nat}(hi:i<6):bN (eP s (i+1))=bN (eP s i)++nz i (s.un.get i):=by
 have :=Hv (a:=eP s i) hi (hs.un i hi) _ (Nat.le_refl _)
 rw[List.take_length]at this
 exact this
theorem HD{s:Stk}(hs:eQ s):bN (dq s)=ym s:=by
 unfold dq ym
 have h0:bN (eP s 0)=nK [104,111,108,100,115] s.ho:=zn (w:=[104,111,108,100,115]) hs.ho
 have h7:bN (dU lK (s.se.L id))=nK [115,101,110,116] [s.se.a,s.se.b,s.se.c,s.se.d,s.se.e,s.se.f]:=zn (w:=[115,101,110,116]) (pT hs.se)
 have h8:bN (dU nx (s.ta.L id))=nK [116,97,107,101,110] [s.ta.a,s.ta.b,s.ta.c,s.ta.d,s.ta.e,s.ta.f]:=zn (w:=[116,97,107,101,110]) (pT hs.ta)
 rw[GK,GK,h7,h8,uu hs (show 5<6 by omega),uu hs (show 4<6 by omega),uu hs (show 3<6 by omega),uu hs (show 2<6 by omega),uu hs (show 1<6 by omega),uu hs (show 0<6 by omega),h0]
 simp only[List.append_assoc]
 rfl
def yw(o c:Nat):Nat:=(257*o+c+1) % 1000003
def BS(s:Stk)(n:Int):Nat:=(ym s).foldl yw (n.toNat % 1000003)
theorem RL(a:Nat):((a:Int)).tmod 1000003=((a % 1000003:Nat):Int):=rfl
theorem HL(b:ByteArray)(n:Nat):∀ i,i<=b.size->iD b n i=(((bN b).take i).foldl yw (n % 1000003):Nat)
 | 0,_=>by rw[List.take_zero];rfl
 |i+1,h=>by
  have hl:(bN b).length=b.size:=by simp[bN]
  have hi:i<(bN b).length:=by omega
  have hd:i<b.data.size:=h
  have hc:lC b i=(bN b)[i]:=by
   have e1:(bN b)[i]=(b.data[i]).toNat:=by simp[bN]
   have e2:b.data.getD i 0=b.data[i]:=by
    unfold Array.getD
    rw[dif_pos hd]
    rfl
   rw[e1,<-e2]
   rfl
  rw[iD,HL b n i (by omega),List.take_add_one,List.getElem?_eq_getElem hi,List.foldl_append,hc]
  have :(257*((((bN b).take i).foldl yw (n % 1000003):Nat):Int)+((bN b)[i]:Nat)+1)=((257*(((bN b).take i).foldl yw (n % 1000003))+(bN b)[i]+1:Nat):Int):=by simp
  rw[this,RL]
  rfl
theorem R8{s:Stk}{n:Int}(hs:eQ s)(hn:bZ n):dK s n=(BS s n:Nat):=by
 obtain⟨N,rfl⟩:∃ N:Nat,n=N:=⟨n.toNat,by have:=hn.1;omega⟩
 unfold dK BS
 have hl:(bN (dq s)).length=(dq s).size:=by simp[bN]
 rw[HL _ _ _ (Nat.le_refl _),<-hl,List.take_length,HD hs,Int.toNat_natCast]
def rE:Option O->Option (List V)
 |some (.arr _ l)=>some l
 |some (.farr _ l)=>some l
 |_=>none
def Cl(obj:Name->Option O):D->Option V
 | .v x=>some x
 | .nilsl=>some (.sl [])
 | .msl nm k=>match rE (obj nm)with
   |some l=>cond (Nat.beq k l.length) (some (.sl l)) none
   |none=>none
 |_=>none
def v8(obj:Name->Option O):List D->Option (List V)
 |[]=>some []
 |d::r=>match Cl obj d with
  |some x=>match v8 obj r with
   |some xs=>some (x::xs)
   |none=>none
  |none=>none
def Bv(obj obj2:Name->Option O):Prop:=∀ nm,rE (obj2 nm)=rE (obj nm)
theorem UB(n:Nat){obj obj2:Name->Option O}(h:Bv obj obj2){d:D}{x:V}(hx:Cl obj d=some x):
 (av (n+1) obj2 d).ok/\(av (n+1) obj2 d).x=x/\Bv obj (av (n+1) obj2 d).obj:=by
 cases d with
 |v y=>cases hx;exact⟨trivial,rfl,h⟩
 |nilsl=>cases hx;exact⟨trivial,rfl,h⟩
 |msl nm k=>
  have aq:=h nm
  unfold Cl at hx
  cases ho:obj2 nm with
  |none=>
   rw[ho]at aq
   have h0:rE (obj nm)=none:=aq.symm
   simp only[h0]at hx
   cases hx
  |some o=>
   rw[ho]at aq
   cases o with
   |arr sz l=>
    have h0:rE (obj nm)=some l:=aq.symm
    simp only[h0]at hx
    cases hb:Nat.beq k l.length with
    |false=>rw[hb]at hx;cases hx
    |true=>
     rw[hb]at hx
     cases hx
     have hk:=Nat.eq_of_beq_eq_true hb
     simp only[av,ho]
     refine⟨hk,trivial,fun y=>?_⟩
     by_cases hy:y=nm
     ·subst hy
      rw[aE]
      exact h0.symm
     ·rw[aI _ _ _ hy]
      exact h y
   |farr sz l=>
    have h0:rE (obj nm)=some l:=aq.symm
    simp only[h0]at hx
    cases hb:Nat.beq k l.length with
    |false=>rw[hb]at hx;cases hx
    |true=>
     rw[hb]at hx
     cases hx
     simp only[av,ho]
     exact⟨Nat.eq_of_beq_eq_true hb,trivial,h⟩
   |_=>
    have h0:rE (obj nm)=none:=aq.symm
    simp only[h0]at hx
    cases hx
 |_=>cases hx
theorem IK(n:Nat){obj:Name->Option O}:∀ {ds:List D} {xs:List V} {obj2:Name->Option O},Bv obj obj2->v8 obj ds=some xs->
 (aK (av (n+1)) obj2 ds).ok/\(aK (av (n+1)) obj2 ds).xs=xs/\Bv obj (aK (av (n+1)) obj2 ds).obj
 |[],xs,obj2,h,hx=>by cases hx;exact⟨trivial,rfl,h⟩
 |d::r,xs,obj2,h,hx=>by
  unfold v8 at hx
  split at hx
  ·rename_i x hd
   split at hx
   ·rename_i ys hr
    cases hx
    obtain⟨a1,a2,a3⟩:=UB n h hd
    obtain⟨b1,b2,b3⟩:=IK n a3 hr
    exact⟨⟨a1,b1⟩,by simp only[aK,a2,b2],b3⟩
   ·cases hx
  ·cases hx
def Ck(obj:Name->Option O):D->Option (List V)
 | .agg l=>v8 obj l
 | .v (.agg l)=>some l
 |_=>none
theorem IJ{obj:Name->Option O}{d:D}{L:List V}(h:Ck obj d=some L):(av 6 obj d).ok/\(av 6 obj d).x=.agg L:=by
 cases d with
 |agg l=>
  obtain⟨a1,a2,_⟩:=IK 4 (fun _=>rfl) (show v8 obj l=some L from h)
  exact⟨a1,by simp only[av]at *;exact congrArg V.agg a2⟩
 |v y=>
  cases y with
  |agg l=>cases h;exact⟨trivial,rfl⟩
  |_=>cases h
 |_=>cases h
def oK(n:Int):Bool:=decide (0<=n)&&decide (n<=1000000)
theorem rS{n:Int}(h:oK n=true):bZ n:=by
 unfold oK at h
 simp only[Bool.and_eq_true,decide_eq_true_eq]at h
 exact h
def vV{α:Type}(s:aS α)(f:α->Bool):Bool:=f s.a&&(f s.b&&(f s.c&&(f s.d&&(f s.e&&f s.f))))
theorem B4{α:Type}{s:aS α}{f:α->Bool}(h:vV s f=true):∀ i,i<6->f (s.get i)=true:=by
 unfold vV at h
 simp only[Bool.and_eq_true]at h
 obtain⟨h0,h1,h2,h3,h4,h5⟩:=h
 intro i hi
 match i,hi with
 | 0,_=>exact h0
 | 1,_=>exact h1
 | 2,_=>exact h2
 | 3,_=>exact h3
 | 4,_=>exact h4
 | 5,_=>exact h5
def uv(s:Stk):Bool:=Nat.ble s.ho.length 40&&(s.ho.all oK&&(vV s.un (fun l=>Nat.ble l.length 40&&l.all fun p=>oK p.no&&oK p.pa)&&(vV s.se oK&&vV s.ta oK)))
theorem yZ{s:Stk}(h:uv s=true):eQ s:=by
 unfold uv at h
 simp only[Bool.and_eq_true]at h
 obtain⟨h1,h2,h3,h4,h5⟩:=h
 have vj:=B4 h3
 refine⟨Nat.le_of_ble_eq_true h1,fun n hn=>rS (List.all_eq_true.1 h2 n hn),fun i hi=>?_,fun i hi p hp=>?_,fun i hi=>rS (B4 h4 i hi),fun i hi=>rS (B4 h5 i hi)⟩
 ·have:=vj i hi
  simp only[Bool.and_eq_true]at this
  exact Nat.le_of_ble_eq_true this.1
 ·have:=vj i hi
  simp only[Bool.and_eq_true]at this
  have :=List.all_eq_true.1 this.2 p hp
  simp only[Bool.and_eq_true]at this
  exact⟨rS this.1,rS this.2⟩
noncomputable def R9:SpecB where
 spec:=P60.toSpec
 run obj t ds:=match ds with
  |[d,.v (.int .i64 n)]=>match Ck obj d with
   |some L=>cond (uv (fG L)&&(oK n&&gq 6 (.agg (aC (fG L))) (.agg L))) (some ⟨.v (.int .i64 (BS (fG L) n:Nat)),ef (fp 6 obj) ds,[],fun t=>t⟩) none
   |none=>none
  |_=>none
 ok:=by
  intro obj t ds r hr
  split at hr
  ·rename_i d n
   split at hr
   ·rename_i L hL
    cases hb:(uv (fG L)&&(oK n&&gq 6 (.agg (aC (fG L))) (.agg L)))with
    |false=>rw[hb]at hr;cases hr
    |true=>
     rw[hb]at hr
     cases hr
     simp only[Bool.and_eq_true]at hb
     obtain⟨h1,h2,h3⟩:=hb
     replace h3:aC (fG L)=L:=V.agg.inj (rr 6 h3)
     obtain⟨a1,a2⟩:=IJ hL
     have wI:(aK (av 6) obj [d,.v (.int .i64 n)]).xs=[.agg L,.int .i64 n]:=by
      show [(av 6 obj d).x,(av 6 (av 6 obj d).obj (.v (.int .i64 n))).x]=_
      rw[a2];rfl
     have aa:(aK (av 6) obj [d,.v (.int .i64 n)]).ok:=⟨a1,trivial,trivial⟩
     have cL:P60.pre [.agg L,.int .i64 n]:=⟨congrArg V.agg h3,rfl,yZ h1,rS h2⟩
     have dp:P60.fn [.agg L,.int .i64 n]=vInt (dK (fG L) n):=rfl
     refine⟨?_,?_,rfl,rfl,fun tbl h=>h⟩
     ·show _/\P60.pre _
      rw[wI]
      exact⟨aa,cL⟩
     ·show D.v (P60.fn _)=_
      rw[wI,dp,R8 (yZ h1) (rS h2)]
   ·cases hr
  ·cases hr
theorem Sa{b:ByteArray}{l:List Nat}(h:bN b=l):(⟨(l.map UInt8.ofNat).toArray⟩:ByteArray)=b:=by
 subst h
 apply ByteArray.ext
 unfold bN
 rw[List.map_map]
 have :(UInt8.ofNat∘UInt8.toNat)=id:=by funext x;simp
 rw[this,List.map_id]
noncomputable def RO:SpecB where
 spec:=P91.toSpec
 run obj t ds:=match ds with
  |[d]=>match Ck obj d with
   |some L=>cond (uv (fG L)&&gq 6 (.agg (aC (fG L))) (.agg L)) (some ⟨.v (.str ⟨((ym (fG L)).map UInt8.ofNat).toArray⟩),ef (fp 6 obj) ds,[],fun t=>t⟩) none
   |none=>none
  |_=>none
 ok:=by
  intro obj t ds r hr
  split at hr
  ·rename_i d
   split at hr
   ·rename_i L hL
    cases hb:(uv (fG L)&&gq 6 (.agg (aC (fG L))) (.agg L))with
    |false=>rw[hb]at hr;cases hr
    |true=>
     rw[hb]at hr
     cases hr
     simp only[Bool.and_eq_true]at hb
     obtain⟨h1,h3⟩:=hb
     replace h3:aC (fG L)=L:=V.agg.inj (rr 6 h3)
     obtain⟨a1,a2⟩:=IJ hL
     have wI:(aK (av 6) obj [d]).xs=[.agg L]:=by
      show [(av 6 obj d).x]=_
      rw[a2]
     have aa:(aK (av 6) obj [d]).ok:=⟨a1,trivial⟩
     have cL:P91.pre [.agg L]:=⟨congrArg V.agg h3,yZ h1⟩
     have dp:P91.fn [.agg L]=.str (dq (fG L)):=rfl
     refine⟨?_,?_,rfl,rfl,fun tbl h=>h⟩
     ·show _/\P91.pre _
      rw[wI]
      exact⟨aa,cL⟩
     ·show D.v (P91.fn _)=_
      rw[wI,dp,Sa (HD (yZ h1))]
   ·cases hr
  ·cases hr
noncomputable def abp:SpecB where
 spec:=S54
 run obj t ds:=match ds with
  |[.msl nm k,.v (.int .i64 i),.v (.int .i64 j)]=>match obj nm with
   |some (.arr sz l)=>cond (Nat.beq k l.length&&(Nat.beq sz 1&&(decide (0<=i)&&(decide (j=i+1)&&Nat.blt i.toNat l.length)))) (some ⟨.v (.sl (l.eraseIdx i.toNat)),[nm],[nm],fun t=>eo t nm (.farr sz (l.eraseIdx i.toNat++[zI]))⟩) none
   |_=>none
  |_=>none
 ok:=by
  intro obj t ds r hr
  split at hr
  ·rename_i nm k i j
   split at hr
   ·rename_i sz l ho
    cases hb:(Nat.beq k l.length&&(Nat.beq sz 1&&(decide (0<=i)&&(decide (j=i+1)&&Nat.blt i.toNat l.length))))with
    |false=>rw[hb]at hr;cases hr
    |true=>
     rw[hb]at hr
     cases hr
     simp only[Bool.and_eq_true,decide_eq_true_eq]at hb
     obtain⟨h1,h2,h3,h4,h5⟩:=hb
     have pv:i.toNat<l.length:=by simpa[Nat.blt_eq]using h5
     simp only[S54,x9,ho]
     refine⟨⟨Nat.eq_of_beq_eq_true h1,Nat.eq_of_beq_eq_true h2,h3,h4,pv⟩,trivial,rfl,rfl,fun tbl h=>?_⟩
     rw[nJ,h]
   ·cases hr
  ·cases hr
noncomputable def JT(f:FuncId):Option SpecB:=
 match Nat.beq f 46 with
 |true=>some (OM Tryd.prog 35)
 |false=>match Nat.beq f 36 with
  |true=>some (OM Tryd.prog 34)
  |false=>match Nat.beq f 38 with
   |true=>some R9
   |false=>match Nat.beq f 63 with
    |true=>some RO
    |false=>match Nat.beq f 44 with
     |true=>some abp
     |false=>none
noncomputable def Dc(_:FuncId->Option SpecB)(f:FuncId):Option SpecB:=JT f
theorem WV:∀ Γ:FuncId->Option SpecB,(∀ f s,aZ Γ f=some s->ak Tryd.prog f s)->∀ f s,Dc Γ f=some s->ak Tryd.prog f s.spec:=by
 intro Γ _ f s h
 unfold Dc JT at h
 split at h
 ·rename_i hb;have:=Nat.eq_of_beq_eq_true hb;subst this;cases h;exact xM Gv
 ·split at h
  ·rename_i hb;have:=Nat.eq_of_beq_eq_true hb;subst this;cases h;exact xM Gu
  ·split at h
   ·rename_i hb;have:=Nat.eq_of_beq_eq_true hb;subst this;cases h;exact zw
   ·split at h
    ·rename_i hb;have:=Nat.eq_of_beq_eq_true hb;subst this;cases h;exact Il.sound
    ·split at h
     ·rename_i hb;have:=Nat.eq_of_beq_eq_true hb;subst this;cases h;exact Ly
     ·cases h
noncomputable def J2(F:List Nat)(T:List Ent):FuncId->Option SpecB:=ΓB Tryd.prog (GH Tryd.prog Dc 100000 F T) 100000 24
theorem WS{F:List Nat}{T:List Ent}(hT:∀ e∈T,aV Tryd.prog e):∀ f s,aZ (J2 F T) f=some s->ak Tryd.prog f s:=
 Hb (acD (fun Γ h f s=>WV Γ h f s) hT) 24
theorem dm{F:List Nat}{T:List Ent}(hT:∀ e∈T,aV Tryd.prog e){e:Ent}(h:Ce Tryd.prog (J2 F T) 100000 e=true):aV Tryd.prog e:=Ut (WS hT) h
theorem di{P:Program}{e:Ent}{T:List Ent}(h:aV P e)(hT:∀ e∈T,aV P e):∀ x∈e::T,aV P x:=by
 intro x hx
 rcases List.mem_cons.1 hx with rfl | hx
 ·exact h
 ·exact hT x hx
def KB:List Ent:=[]
theorem Lj:∀ e∈KB,aV Tryd.prog e:=fun e h=>by cases h
end Go.Eng
