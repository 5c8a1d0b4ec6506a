import Derived.Test.YtckmfkgppohnmaaDoorK6
/- Texts NW16 to KB. -/
set_option linter.all false
namespace Go.Eng
open Go Go.Proofs
theorem CO(d:Nat)(a b:Int):gH Tryd.prog (d+1) 3 (vInt a) (vInt b)=some (a==b):=by
 simp only[gH,Tryd.underlying3,if_true]
theorem Vf:Tryd.prog.stoodInHeld 75=false:=by kernel_rfl
theorem Wd:Tryd.prog.eqGuardType Tryd.prog.depth 75=false:=by kernel_rfl
theorem Ww(d:Nat)(a b a' b':Int):gH Tryd.prog (d+2) 75 (.agg [vInt a,vInt b]) (.agg [vInt a',vInt b'])=some (a==a'&&b==b'):=by
 unfold gH
 simp only[Tryd.underlying75,Vf,Bool.false_eq_true,if_false,qq,mC,y8,List.getElem?_cons_zero,List.getElem?_cons_succ,CO]
 cases a==a'<;>cases b==b'<;>rfl
@[go_sem] theorem afK(obj:Name->Option O)(op:BinOp)(a b a' b':Int):js Tryd.prog obj op 75 (.agg [vInt a,vInt b]) (.agg [vInt a',vInt b'])=
    ⟨op=.eql\/op=.neq,.v (.bool (if op=.eql then(a==a'&&b==b')else !(a==a'&&b==b'))),obj⟩:=by
  unfold js
  rw[show Op.maxDepth=9998+2 from rfl,Ww]
  simp only[Wd,true_and]
theorem Wf:Tryd.prog.eqGuardType Tryd.prog.depth 37=false:=by kernel_rfl
def oB(a b:bb Int):Bool:=a.a==b.a&&(a.b==b.b&&(a.c==b.c&&(a.d==b.d&&(a.e==b.e&&a.f==b.f))))
theorem Wz{a b:bb Int}:oB a b=true↔a=b:=by
 obtain⟨a0,a1,a2,a3,a4,a5⟩:=a
 obtain⟨b0,b1,b2,b3,b4,b5⟩:=b
 simp[oB]
theorem Wy(d:Nat)(a b:bb Int):gH Tryd.prog (d+2) 37 (.agg ((a.L id).map vInt)) (.agg ((b.L id).map vInt))=some (oB a b):=by
 obtain⟨a0,a1,a2,a3,a4,a5⟩:=a
 obtain⟨b0,b1,b2,b3,b4,b5⟩:=b
 unfold gH
 simp only[Tryd.underlying37,y8,List.range',qs,bb.L,List.map_cons,List.map_nil,id,mC,Nat.zero_mul,Nat.one_mul,Nat.mul_one,Nat.reduceAdd,List.getElem?_cons_zero,List.getElem?_cons_succ,CO,oB]
 cases a0==b0<;>cases a1==b1<;>cases a2==b2<;>cases a3==b3<;>cases a4==b4<;>cases a5==b5<;>rfl
@[go_sem] theorem afM(obj:Name->Option O)(op:BinOp)(a b:bb Int):js Tryd.prog obj op 37 (.agg ((a.L id).map vInt)) (.agg ((b.L id).map vInt))=
    ⟨op=.eql\/op=.neq,.v (.bool (if op=.eql then oB a b else !oB a b)),obj⟩:=by
  unfold js
  rw[show Op.maxDepth=9998+2 from rfl,Wy]
  simp only[Wf,true_and]
def rm{α:Type}(a b:List α)(n:Nat):Prop:=∀ j (h:j<a.length) (h':j<b.length),j<n->a[j]=b[j]
theorem zr{α:Type}{a b:List α}{i:Nat}(h:rm a b i)(hi:∀ (h:i<a.length) (h':i<b.length),a[i]=b[i]):rm a b (i+1):=by
 intro j hj ew lX
 rcases Nat.lt_succ_iff_lt_or_eq.1 lX with h1 | rfl
 ·exact h j hj ew h1
 ·exact hi hj ew
theorem zt{α:Type}{a b:List α}(hl:a.length=b.length)(h:rm a b a.length):a=b:=List.ext_getElem hl fun j h1 h2=>h j h1 h2 h1
theorem Fy{a b:Par}:(!(a.no==b.no&&a.pa==b.pa))=false↔a=b:=by
 obtain⟨a0,a1⟩:=a
 obtain⟨b0,b1⟩:=b
 simp
noncomputable def P34:PSpec:=p2 ei ei (fun _ _=>True) (fun a b=>.bool (decide (a=b))) true
noncomputable def S34:Spec:=P34.toSpec
attribute [go_sem] P34 S34
set_option maxHeartbeats 4000000 in
theorem PN:aR Tryd.prog 26 P34:=by
 refine w2 (rs:=[.tmp 4]) Tryd.func26 Tryd.ntmps26 (by rfl) (by kernel_rfl) (by decide) (fun _ _ _=>rfl) ⟨_,rfl,lb rfl,fun a b hp hw=>?_⟩
 have hP:=bc
 simp only[ei]at hw |-
 have hΓ:=@ig Tryd.prog
 have hl:a.length<=maxLen:=by have:=hw.1.1;simpa using this
 repeat refine sq ?_
 refine rs hΓ [0,1] [] ?_
 repeat refine sq ?_
 refine rs hΓ [0,1,10] [] ?_
 repeat refine sq ?_
 refine ax rfl rfl (fun hb=>?_) (fun hb=>?_)
 ·repeat refine sq ?_
  have aN:a≠b:=by
   rintro rfl
   simp at hb
  repeat refine sq ?_
  refine rs hΓ [4] [] ?_
  refine av ?_
  simp only[go_sem]
  rw[decide_eq_false aN]
 ·repeat refine sq ?_
  have uF:a.length=b.length:=by
   have :(a.length:Int)=b.length:=by simpa using hb
   omega
  clear hb
  refine aC ?_
  repeat refine sq ?_
  refine rs hΓ [0,1,5] [] ?_
  repeat refine sq ?_
  refine aJ ?_
  repeat refine sq ?_
  refine bR (fun s:Nat=>[(5,⟨true,.v (vInt s)⟩)]) (fun s=>[]) (fun s=>s<=a.length/\rm a b s) (fun s=>a.length-s) 0 ?_ ?_ ?_ ?_
  ·exact⟨Nat.zero_le _,fun j _ _ h=>by omega⟩
  ·rfl
  ·rfl
  rintro i ⟨hi,hR⟩
  simp only[go_sem]
  repeat refine sq ?_
  refine rs hΓ [0,1,5,14] [] ?_
  repeat refine sq ?_
  refine ax rfl rfl (fun hb=>?_) (fun hb=>?_)
  ·have ae:i<a.length:=by simpa using hb
   have ai:(i:Int)<a.length:=by omega
   clear hb
   have kS:(i:Int)<b.length:=by omega
   have IW:i<b.length:=by omega
   repeat refine sq ?_
   refine aC ?_
   repeat refine sq ?_
   refine aJ ?_
   repeat refine sq ?_
   refine dx hΓ hP [[],[],[0,1],[0,1,2],[],[],[4,5],[4,5,6],[0,1,2,3,4,5,6,7]] [0,1,5,25] [] (by kernel_rfl) (fun K' hK=>by simp only[go_sem,aH ae,aH (show i<b.length by omega),Int.toNat_natCast,Int.natCast_nonneg,ai,kS];(repeat (refine⟨ob,?_⟩));(first | refine⟨by rfl,?_⟩ | skip);exact hK _ (by simp only[go_sem]) (by simp only[go_sem]<;>rfl)) ?_
   repeat refine sq ?_
   refine ax rfl rfl (fun hb=>?_) (fun hb=>?_)
   ·repeat refine sq ?_
    have aN:a≠b:=by
     rintro rfl
     simp at hb
    repeat refine sq ?_
    refine rx hΓ [4] [] (fun K' hK=>by simp only[go_sem,aH ae,aH (show i<b.length by omega),Int.toNat_natCast,Int.natCast_nonneg,ai,kS];(repeat (refine⟨ob,?_⟩));exact hK _ (by simp only[go_sem]) (by simp only[go_sem]<;>rfl)) ?_
    refine av ?_
    simp only[go_sem]
    rw[decide_eq_false aN]
   ·repeat refine sq ?_
    refine aC ?_
    refine cX ?_
    simp only[go_sem]
    refine kp [0,1,5] [] ?_
    repeat refine sq ?_
    refine aQ hΓ fun K' hK=>?_
    simp only[go_sem,aH ae,aH (show i<b.length by omega),Int.toNat_natCast,Int.natCast_nonneg,ai,kS]
    repeat (refine⟨ob,?_⟩)
    refine hK _ ?_
    clear K' hK
    simp only[go_sem]
    refine⟨i+1,⟨ae,?_⟩,by(show a.length-(i+1)<a.length-i;omega),?_⟩
    ·exact zr hR fun _ _=>by first | exact Fy.1 hb | simpa using hb
    refine bd [0,1,5] [] ?_ ?_
    ·simp only[go_sem,aA ae hl,Int.natCast_add,Int.natCast_one]
    ·simp only[go_sem,aA ae hl,Int.natCast_add,Int.natCast_one]
  ·have aV:i=a.length:=by
    have :¬ (i:Int)<a.length:=by simpa using hb
    omega
   clear hb
   subst aV
   repeat refine sq ?_
   refine bK ?_
   simp only[go_sem]
   refine kp [] [] ?_
   repeat refine sq ?_
   refine rs hΓ [4] [] ?_
   refine av ?_
   simp only[go_sem]
   rw[decide_eq_true (zt uF hR)]
theorem H7:ak Tryd.prog 26 S34:=PN.sound
noncomputable def P75:PSpec:=p2 jF jF (fun _ _=>True) (fun a b=>.bool (decide (a=b))) true
noncomputable def S75:Spec:=P75.toSpec
attribute [go_sem] P75 S75
set_option maxHeartbeats 4000000 in
theorem Pm:aR Tryd.prog 64 P75:=by
 refine w2 (rs:=[.tmp 4]) Tryd.func64 Tryd.ntmps64 (by rfl) (by kernel_rfl) (by decide) (fun _ _ _=>rfl) ⟨_,rfl,lb rfl,fun a b hp hw=>?_⟩
 have hP:=bc
 simp only[jF]at hw |-
 have hΓ:=@ig Tryd.prog
 have hl:a.length<=maxLen:=by have:=hw.1.1;simpa using this
 repeat refine sq ?_
 refine rs hΓ [0,1] [] ?_
 repeat refine sq ?_
 refine rs hΓ [0,1,10] [] ?_
 repeat refine sq ?_
 refine ax rfl rfl (fun hb=>?_) (fun hb=>?_)
 ·repeat refine sq ?_
  have aN:a≠b:=by
   rintro rfl
   simp at hb
  repeat refine sq ?_
  refine rs hΓ [4] [] ?_
  refine av ?_
  simp only[go_sem]
  rw[decide_eq_false aN]
 ·repeat refine sq ?_
  have uF:a.length=b.length:=by
   have :(a.length:Int)=b.length:=by simpa using hb
   omega
  clear hb
  refine aC ?_
  repeat refine sq ?_
  refine rs hΓ [0,1,5] [] ?_
  repeat refine sq ?_
  refine aJ ?_
  repeat refine sq ?_
  refine bR (fun s:Nat=>[(5,⟨true,.v (vInt s)⟩)]) (fun s=>[]) (fun s=>s<=a.length/\rm a b s) (fun s=>a.length-s) 0 ?_ ?_ ?_ ?_
  ·exact⟨Nat.zero_le _,fun j _ _ h=>by omega⟩
  ·rfl
  ·rfl
  rintro i ⟨hi,hR⟩
  simp only[go_sem]
  repeat refine sq ?_
  refine rs hΓ [0,1,5,14] [] ?_
  repeat refine sq ?_
  refine ax rfl rfl (fun hb=>?_) (fun hb=>?_)
  ·have ae:i<a.length:=by simpa using hb
   have ai:(i:Int)<a.length:=by omega
   clear hb
   have kS:(i:Int)<b.length:=by omega
   have IW:i<b.length:=by omega
   repeat refine sq ?_
   refine aC ?_
   repeat refine sq ?_
   refine aJ ?_
   repeat refine sq ?_
   refine dx hΓ hP [[],[],[0,1],[0,1,2],[],[],[4,5],[4,5,6],[0,1,2,3,4,5,6,7]] [0,1,5,25] [] (by kernel_rfl) (fun K' hK=>by simp only[go_sem,aH ae,aH (show i<b.length by omega),Int.toNat_natCast,Int.natCast_nonneg,ai,kS];(repeat (refine⟨ob,?_⟩));(first | refine⟨by rfl,?_⟩ | skip);exact hK _ (by simp only[go_sem]) (by simp only[go_sem]<;>rfl)) ?_
   repeat refine sq ?_
   refine ax rfl rfl (fun hb=>?_) (fun hb=>?_)
   ·repeat refine sq ?_
    have aN:a≠b:=by
     rintro rfl
     simp at hb
    repeat refine sq ?_
    refine rx hΓ [4] [] (fun K' hK=>by simp only[go_sem,aH ae,aH (show i<b.length by omega),Int.toNat_natCast,Int.natCast_nonneg,ai,kS];(repeat (refine⟨ob,?_⟩));exact hK _ (by simp only[go_sem]) (by simp only[go_sem]<;>rfl)) ?_
    refine av ?_
    simp only[go_sem]
    rw[decide_eq_false aN]
   ·repeat refine sq ?_
    refine aC ?_
    refine cX ?_
    simp only[go_sem]
    refine kp [0,1,5] [] ?_
    repeat refine sq ?_
    refine aQ hΓ fun K' hK=>?_
    simp only[go_sem,aH ae,aH (show i<b.length by omega),Int.toNat_natCast,Int.natCast_nonneg,ai,kS]
    repeat (refine⟨ob,?_⟩)
    refine hK _ ?_
    clear K' hK
    simp only[go_sem]
    refine⟨i+1,⟨ae,?_⟩,by(show a.length-(i+1)<a.length-i;omega),?_⟩
    ·exact zr hR fun _ _=>by first | exact Fy.1 hb | simpa using hb
    refine bd [0,1,5] [] ?_ ?_
    ·simp only[go_sem,aA ae hl,Int.natCast_add,Int.natCast_one]
    ·simp only[go_sem,aA ae hl,Int.natCast_add,Int.natCast_one]
  ·have aV:i=a.length:=by
    have :¬ (i:Int)<a.length:=by simpa using hb
    omega
   clear hb
   subst aV
   repeat refine sq ?_
   refine bK ?_
   simp only[go_sem]
   refine kp [] [] ?_
   repeat refine sq ?_
   refine rs hΓ [4] [] ?_
   refine av ?_
   simp only[go_sem]
   rw[decide_eq_true (zt uF hR)]
theorem HU:ak Tryd.prog 64 S75:=Pm.sound
noncomputable def MT:List (Nat×Spec):=[(26,S34),(64,S75)]
theorem af6:∀ f s,tbl MT f=some s->ak Tryd.prog f s:=tc H7<|tc HU<|tn
attribute [go_sem] MT
theorem acB{a b:Stk}(h:a.un=b.un):decide (a=b)=(decide (a.ho=b.ho)&&(oB a.se b.se&&oB a.ta b.ta)):=by
 obtain⟨h1,u1,s1,t1⟩:=a
 obtain⟨h2,u2,s2,t2⟩:=b
 simp only at h
 subst h
 rw[Bool.eq_iff_iff]
 simp[Wz]
theorem XY{a b:Bag}:decide (a=b)=((a.fr==b.fr&&a.to==b.to&&a.ta==b.ta)&&decide (a.ps=b.ps)):=by
 obtain⟨f1,t1,p1,x1⟩:=a
 obtain⟨f2,t2,p2,x2⟩:=b
 rw[Bool.eq_iff_iff]
 simp only[decide_eq_true_eq,Bool.and_eq_true,Bag.mk.injEq,beq_iff_eq]
 constructor
 ·rintro⟨h1,h2,h3,h4⟩;exact⟨⟨⟨h1,h2⟩,h4⟩,h3⟩
 ·rintro⟨⟨⟨h1,h2⟩,h4⟩,h3⟩;exact⟨h1,h2,h3,h4⟩
noncomputable def MS:List (Nat×Spec):=[(64,S75)]
theorem YZ:∀ f s,tbl MS f=some s->ak Tryd.prog f s:=tc HU<|tn
attribute [go_sem] MS
noncomputable def P33:PSpec:=p2 n5 n5 (fun _ _=>True) (fun a b=>.bool (decide (a=b))) true
noncomputable def S33:Spec:=P33.toSpec
attribute [go_sem] P33 S33
set_option maxHeartbeats 4000000 in
theorem PO:aR Tryd.prog 33 P33:=by
 refine w2 (rs:=[.tmp 4]) Tryd.func33 Tryd.ntmps33 (by rfl) (by kernel_rfl) (by decide) (fun _ _ _=>rfl) ⟨_,rfl,lb rfl,fun a b hp hw=>?_⟩
 have hP:=bc
 simp only[n5]at hw |-
 have hΓ:=YZ
 repeat refine sq ?_
 refine rs hΓ [2,3] [[2,0],[3,0]] ?_
 refine bq (dd [2,0] (bW a) rfl [2,3] [[2,0],[3,0]] ?_ rfl) ?_
 ·simp only[go_sem]
 simp only[go_sem]
 refine bq (dd [3,0] (bW b) rfl [2,3] [[2,0],[3,0]] ?_ rfl) ?_
 ·simp only[go_sem]
 simp only[go_sem]
 repeat refine sq ?_
 refine rs hΓ [4] [] ?_
 refine av ?_
 simp only[go_sem]
 rw[XY];congr 1;rw[Bool.eq_iff_iff];simp[and_assoc]
theorem k33:ak Tryd.prog 33 S33:=PO.sound
theorem x7(d:Dk){i:Nat}(h:i<2):(aq d).getD (20+i*21) default=vInt (d.pg i).co:=by
 match i,h with
 | 0,_=>rfl
 | 1,_=>rfl
theorem aen(d:Dk){i:Nat}(h:i<2):(aq d).getD (20+i*21+20) default=vInt (d.pg i).su:=by
 match i,h with
 | 0,_=>rfl
 | 1,_=>rfl
theorem CY(d:Dk){i:Nat}(h:i<2):((aq d).drop (20+i*21+1)).take 19=aB (d.pg i).st:=by
 match i,h with
 | 0,_=>rfl
 | 1,_=>rfl
theorem ac4{a b:Pg}(h1:a.co=b.co)(h2:a.su=b.su)(h3:a.st=b.st):a=b:=by
 obtain⟨a1,a2,a3⟩:=a
 obtain⟨b1,b2,b3⟩:=b
 simp only at h1 h2 h3
 subst h1 h2 h3
 rfl
theorem ad9{a b:Dk}(h:∀ j,j<2->a.pg j=b.pg j):decide (a=b)=((a.me==b.me&&a.wet==b.wet)&&decide (a.now=b.now)):=by
 have h0:=h 0 (by omega)
 have h1:=h 1 (by omega)
 obtain⟨m1,n1,p1,q1,w1⟩:=a
 obtain⟨m2,n2,p2,q2,w2⟩:=b
 simp only[Dk.pg]at h0 h1
 subst h0 h1
 rw[Bool.eq_iff_iff]
 simp only[decide_eq_true_eq,Bool.and_eq_true,Dk.mk.injEq,beq_iff_eq,true_and]
 constructor
 ·rintro⟨h1,h2,h3⟩;exact⟨⟨h1,h3⟩,h2⟩
 ·rintro⟨⟨h1,h3⟩,h2⟩;exact⟨h1,h2,h3⟩
noncomputable def MR:List (Nat×Spec):=[]
theorem af5:∀ f s,tbl MR f=some s->ak Tryd.prog f s:=tn
attribute [go_sem] MR
end Go.Eng
set_option linter.unusedVariables false
namespace Go.Eng
open Go Go.Proofs Go.RowKit Go.Lib Go.Shelf
theorem Qh{P:Program}(w:World)(t e ty:TypeId)(z:Value)(ht:P.underlying t=some (.slice e))(hv:ba P e=some z)(h1:∀ v∈z.cells.toList,v.oneCell'=true)(b o c:Nat)
 (hc:∀ j,j<z.cells.size->(w.cell? ⟨b,o+j,none⟩).isSome=true) (hf:∀ j,w.frozen? ⟨b,j,none⟩=false):
 (Builtin.clear_ #[t] ty #[.slice (some ⟨b,o,none⟩) 1 c]).run P w=.ok (.tuple #[]) (w.setCells b o z.cells.toList):=by
 have mP:(Builtin.zeroCells z.cells 1).toList=z.cells.toList:=by
  have :Builtin.zeroCells z.cells 1=z.cells:=by
   apply Array.ext
   ·simp[Builtin.zeroCells]
   ·intro i h1 h2
    simp[Builtin.zeroCells,Nat.mod_eq_of_lt h2]
    rw[getElem!_pos z.cells i h2]
  rw[this]
 have cC:=run_storeCells_cells (P:=P) b o z.cells.toList 0 w (by simpa using hc) (by simpa using fun j _=>hf (o+j)) h1
 simp only[Nat.add_zero]at cC
 simp[Builtin.clear_,run_underlying ht,pf hv,mP,cC]
set_option maxHeartbeats 4000000 in
set_option maxRecDepth 100000 in
theorem WW(b off n c i:Nat)(cs:List Value)(w:World)(hi:i<n)(Bz:n<=c)(Jf:c<=9223372036854775807)(bI:cs.length=n*1)
 (fD:∀ j v,cs[j]?=some v->w.cell? ⟨b,off+j,none⟩=some v) (oq:∀ j,w.frozen? ⟨b,j,none⟩=false) (uM:∀ v∈cs,v.oneCell'=true):
 Calls Tryd.prog 44 #[.slice (some ⟨b,off,none⟩) n c,.int .i64 i,.int .i64 (i+1)] w fun e w'=>
  e=.returned (.slice (some ⟨b,off,none⟩) (n-1) c)/\w'=(w.drew.setCells b (off+i*1) (cs.drop ((i+1)*1))).setCells b (off+(n-1)*1) (List.replicate 1 (.int .i64 0)):=by
 have mixed:Tryd.prog.follows Departure.mixedOrders=true:=by kernel_rfl
 have sf:bD Tryd.prog 34=some (3,1,8):=by kernel_rfl
 have uH:ba Tryd.prog 3=some (.int .i64 0):=by kernel_rfl
 obtain⟨i0,ka,pK⟩:∃ i0,Tryd.prog.info? 3=some i0/\i0.size=1:=by
  obtain⟨hu,i0,h1,h2,h3⟩:=gi sf
  exact⟨i0,h1,h2⟩
 obtain⟨news,ue⟩:∃ news,news=cs.drop ((i+1)*1):=⟨_,rfl⟩
 have hlen:news.length=(n-(i+1))*1:=by rw[ue,List.length_drop,bI,Nat.sub_mul]
 have Bc:∀ j,j<n*1->(w.cell? ⟨b,off+j,none⟩).isSome=true:=fun j hj=>by
  rw[fD j _ (List.getElem?_eq_getElem (by omega))];rfl
 obtain⟨A,hA,bA⟩:∃ A:Addr,(if c=i+1 then some (⟨b,off,none⟩:Addr)else some ⟨b,off+(i+1)*1,none⟩)=some A/\Hid (∀ t u,news[t]?=some u->w.drew.cell? (A.add t)=some u):=by
  by_cases h:c=i+1
  ·refine⟨⟨b,off,none⟩,by simp[h],fun t u hu=>?_⟩
   have h0:news.length=0:=by rw[hlen];have:n-(i+1)=0:=by omega
                             rw[this,Nat.zero_mul]
   rw[List.length_eq_zero_iff.1 h0]at hu
   simp at hu
  ·refine⟨⟨b,off+(i+1)*1,none⟩,by simp[h],fun t u hu=>?_⟩
   rw[Addr.add_lit,Nat.add_assoc]
   exact fD _ _ (by rw[ue,List.getElem?_drop]at hu;exact hu)
 have s1:Hid (news.length=(n-(i+1))*1):=hlen
 have s2:Hid (∀ u∈news,u.oneCell'=true):=fun u hu=>uM u (List.mem_of_mem_drop (ue▸hu))
 have s3:Hid (∀ t,t<news.length->(w.drew.cell? ⟨b,off+i*1+t,none⟩).isSome=true/\w.drew.frozen? ⟨b,off+i*1+t,none⟩=false):=by
  intro t ht
  rw[hlen]at ht
  refine⟨?_,oq _⟩
  rw[Nat.add_assoc]
  exact Bc _ (by omega)
 obtain⟨W1,gr⟩:∃ W1,W1=w.drew.setCells b (off+i*1) news:=⟨_,rfl⟩
 have It:∀ j,j<n*1->(W1.cell? ⟨b,off+j,none⟩).isSome=true:=fun j hj=>by
  rw[gr]
  exact isSome_setCells b _ _ _ (fun t ht=>(s3 t ht).1) _ (Bc j hj)
 have B1:∀ ty,(Builtin.clear_ #[34] ty #[.slice (some ⟨b,off+(i+(n-(i+1)))*1,none⟩) (n-(i+(n-(i+1)))) (c-(i+(n-(i+1))))]).run Tryd.prog W1=.ok (.tuple #[]) (W1.setCells b (off+(i+(n-(i+1)))*1) (List.replicate 1 (.int .i64 0))):=fun ty=>by
  have e:n-(i+(n-(i+1)))=1:=by omega
  rw[e]
  exact Qh W1 34 3 ty _ Tryd.underlying34 uH (by decide) b _ _ (fun j hj=>by rw[Nat.add_assoc];exact It _ (by have:j<1:=hj;omega)) (fun j=>by rw[gr,World.frozen?_setCells];exact oq _)
 have hW:Hid (W1=w.drew.setCells b (off+i*1) news):=gr
 rw[<-ue,<-gr]
 have hic:i<=c:=by omega
 have hjc:i+1<=c:=by omega
 have an:¬ ((i:Int)=(i:Int)+1):=by omega
 have hjn:i+1<=n:=by omega
 have IC:(0:Int)<=(i:Int)+1:=by omega
 have pT:(i:Int)+1<=(n:Int):=by omega
 clear gr It Bc ue hlen
 simp only[Nat.mul_one]at hA B1
 go_enter Tryd.func44,Tryd.ntmps44
 go_wp2_with fail
 go_region_law_o (refine step_append_room rfl (.tmp 22) (.tmp 25) 34 rfl 3 i0 1 Tryd.underlying34 ka pK b off i c (by simp[Act.eval,Act.put]) A (n-(i+1)) (c-(i+1)) news (by simp[Act.eval,Act.put]) s1.out bA.out s2.out (by omega) s3.out ?_;rw[<-hW.out])
 go_wp2
 go_ret
 have e:n-1=i+(n-(i+1)):=by omega
 rw[e,Nat.mul_one]
 exact⟨rfl,rfl⟩
def zI:V:=.int .i64 0
def vq(obj:Name->Option O):List D->R
 |[.msl nm k,.v (.int .i64 i),.v (.int .i64 j)]=>match obj nm with
  |some (.arr sz l)=>⟨k=l.length/\sz=1/\0<=i/\j=i+1/\i.toNat<l.length,.v (.sl (l.eraseIdx i.toNat)),upd obj nm (some (.farr sz (l.eraseIdx i.toNat++[zI])))⟩
  |_=>.bad obj
 |_=>.bad obj
def x8:List D->List Name
 |[.msl nm _,_,_]=>[nm]
 |_=>[]
def S54:Spec:=⟨fun obj _ ds=>vq obj ds,fun _ _ ds=>x8 ds,fun _ _ ds=>x8 ds⟩
theorem C0{l:List V}{i q:Nat}(hi:i<l.length)(h:q<(l.eraseIdx i++[zI]).length):
 (q<i/\∃ h':q<l.length,(l.eraseIdx i++[zI])[q]=l[q])\/(i<=q/\∃ h':q+1<l.length,(l.eraseIdx i++[zI])[q]=l[q+1])\/(q+1=l.length/\(l.eraseIdx i++[zI])[q]=zI):=by
 have hl:(l.eraseIdx i).length=l.length-1:=List.length_eraseIdx_of_lt hi
 have hq:q<l.length:=by simp[hl]at h;omega
 by_cases h1:q<l.length-1
 ·rw[List.getElem_append_left (by omega),List.getElem_eraseIdx]
  by_cases h2:q<i
  ·exact .inl ⟨h2,hq,by rw[dif_pos h2]⟩
  ·exact .inr (.inl ⟨by omega,by omega,by rw[dif_neg h2]⟩)
 ·refine .inr (.inr ⟨by omega,?_⟩)
  rw[List.getElem_append_right (by omega)]
  simp
theorem WV:S54.Near:=by
 refine⟨fun obj obj2 t ds h=>?_,fun obj obj2 t ds h=>rfl,fun obj t ds nm hn=>hn,fun obj obj2 t ds h=>rfl⟩
 simp only[S54]at h |-
 unfold vq
 split
 ·rename_i nm k i j
  have h':obj2 nm=obj nm:=h nm (by simp[x8])
  simp only[h']
  split
  ·exact .one (by simp[x8]) h
  ·exact .none _ h
 ·exact .none _ h
set_option maxHeartbeats 1000000 in
theorem H4:ak Tryd.prog 44 S54:=by
 refine⟨WV,fun _ args w=>gv Tryd.func44 rfl (by kernel_rfl) args w,fun _ G φ m σ a w hC t ds us _ hl hr aa=>?_,fun e=>(Nat.ne_of_lt (show (44:Nat)<yid by decide) e).elim⟩
 simp only[S54,vq]at aa |-
 split at aa
 case h_2=>exact aa.elim
 rename_i nm k i j
 simp only[List.length_cons,List.length_nil]at hl
 have r0:=hr 0 (by simp) (by omega)
 have r1:=hr 1 (by simp) (by omega)
 have r2:=hr 2 (by simp) (by omega)
 simp only[List.getElem_cons_zero,List.getElem_cons_succ]at r0 r1 r2
 have lR:us= #[us[0],us[1],us[2]]:=by
  apply Array.ext
  ·simp;omega
  ·intro j h1 h2
   have :j=0\/j=1\/j=2:=by omega
   rcases this with rfl | rfl | rfl<;>rfl
 rw[lR]
 generalize us[0]=u0 at r0
 generalize us[1]=u1 at r1
 generalize us[2]=u2 at r2
 clear lR hr hl us
 cases r1 with
 |v _ _ r1=>
 cases r1 with
 |int _ _=>
 cases r2 with
 |v _ _ r2=>
 cases r2 with
 |int _ _=>
 split at aa
 case h_2=>exact aa.elim
 rename_i sz l al
 obtain⟨hk,bj,ka,hj,fC⟩:=aa
 subst bj hj
 cases r0 with
 |msl _ _ _ hh tN=>
 obtain⟨o,nn,ck,hlen,_,b7⟩:=hh
 rw[al]at ck;cases ck
 simp only[O.len?,Option.some.injEq]at hlen
 subst hlen
 have hv:=b7 hk
 subst hk
 obtain⟨i,rfl⟩:∃ n:Nat,i=(n:Int):=⟨i.toNat,by omega⟩
 simp only[Int.toNat_natCast]at fC |-
 rcases hC.objs nm _ al with⟨_,iw⟩ | ⟨g0,g1,g2,g3,g4,aZ,T',f,g5,g6,g7,g8⟩
 ·subst iw;simp at fC
 have gq:(φ nm).blk<w.heap.size:=(Array.getElem?_eq_some_iff.1 g5).1
 have A8:u0=.slice (some ⟨(φ nm).blk,(φ nm).off,none⟩) l.length (φ nm).cap:=by rw[hv];simp only[Loc.slice,g0];rfl
 subst A8
 have mX:holds φ σ.obj nm:=⟨_,al,rfl,g0⟩
 obtain⟨c1,nh⟩:∃ c1:Nat->Nat->Value,∀ q j,q<l.length->j<1->aZ[(φ nm).off+q*1+j]?=some (c1 q j):=⟨fun q j=>(aZ[(φ nm).off+q*1+j]?).getD undef,fun q j hq hj=>by
  obtain⟨c,x1,_⟩:=g8 q j hq (by rw[g3];exact hj)
  simp only[x1,Option.getD_some]⟩
 have bS:∀ q j (h:q<l.length) (h':j<l[q].cells.length),ay m l[q].cells[j] (c1 q j):=fun q j h h'=>by
  obtain⟨c,x1,x2⟩:=g8 q j h h'
  have :=nh q j h (by rw[<-g3 q h];exact h')
  rw[x1]at this;cases this;exact x2
 have xI:∀ j v,(rowOf c1 l.length 1)[j]?=some v->w.cell? ⟨(φ nm).blk,(φ nm).off+j,none⟩=some v:=fun j v um=>by
  have :=rp (w:=w) (c:=c1) (n:=l.length) (sz:=1) (blk:=(φ nm).blk) (o:=(φ nm).off) (fun q j hq hj=>by rw[lq g5];exact nh q j hq hj) j v um
  rwa [iG]at this
 have xp:∀ v∈rowOf c1 l.length 1,v.oneCell'=true:=by
  intro v hv
  simp only[rowOf,List.mem_map,List.mem_range]at hv
  obtain⟨k,hk,rfl⟩:=hv
  obtain⟨d1,d2⟩:=uW hk
  exact te ((bS _ _ d1 (by rw[g3];exact d2)).one (g4 _ d1 _ (List.getElem_mem _)))
 refine(WW (φ nm).blk (φ nm).off l.length (φ nm).cap i (rowOf c1 l.length 1) w fC g1 (by unfold maxLen at g2;omega) (dC _ _ _) xI (fun j=>JC g5 g6) xp).mono ?_
 rintro e w' ⟨rfl,rfl⟩
 obtain⟨kG,k1,k2,k3⟩:=pc (φ nm).blk T' f ((rowOf c1 l.length 1).drop ((i+1)*1)) ((φ nm).off+i*1) w.drew aZ g5
 obtain⟨iL,k4,k5,k6⟩:=pc (φ nm).blk T' f (List.replicate 1 (.int .i64 0)) ((φ nm).off+(l.length-1)*1) (bn w.drew (φ nm).blk (.cells kG T' f)) kG (hJ gq)
 rw[k1,k4,vD]
 have hL:(l.eraseIdx i++[zI]).length=l.length:=by simp[List.length_eraseIdx_of_lt fC];omega
 have lT:∀ q (h:q<(l.eraseIdx i++[zI]).length),(l.eraseIdx i++[zI])[q].cells.length=1:=fun q h=>by
  rcases C0 fC h with⟨_,h',e⟩ | ⟨_,h',e⟩ | ⟨_,e⟩<;>rw[e]
  ·exact g3 _ _
  ·exact g3 _ _
  ·rfl
 have rY:∀ q (h:q<(l.eraseIdx i++[zI]).length),∀ x∈(l.eraseIdx i++[zI])[q].cells,x.one=true:=fun q h=>by
  rcases C0 fC h with⟨_,h',e⟩ | ⟨_,h',e⟩ | ⟨_,e⟩<;>rw[e]
  ·exact g4 _ _
  ·exact g4 _ _
  ·intro x hx
   simp only[zI,V.cells,List.mem_cons,List.not_mem_nil,or_false,or_self]at hx
   subst hx;rfl
 have Je:l.length*1<=(φ nm).cap*1:=Nat.mul_le_mul_right _ g1
 have jK:∀ q j (h:q<(l.eraseIdx i++[zI]).length) (h':j<(l.eraseIdx i++[zI])[q].cells.length),∃ c,iL[(φ nm).off+q*1+j]?=some c/\ay m (l.eraseIdx i++[zI])[q].cells[j] c:=by
  intro q j h h'
  have hq:q<l.length:=by rw[<-hL];exact h
  have hj:j<1:=by rw[<-lT q h];exact h'
  rw[k6 _ (by rw[k2];omega),k3 _ (by omega)]
  simp only[List.length_replicate,List.length_drop,dC]
  rcases C0 fC h with⟨h1,h2,e⟩ | ⟨h1,h2,e⟩ | ⟨h1,e⟩
  ·simp only[e]at h' |-
   rw[if_neg (by omega),if_neg (by omega)]
   exact⟨_,nh q j h2 hj,bS q j h2 h'⟩
  ·simp only[e]at h' |-
   rw[if_neg (by omega),if_pos (by omega),List.getElem?_drop,show (i+1)*1+((φ nm).off+q*1+j-((φ nm).off+i*1))=(q+1)*1+j by omega]
   exact⟨_,jA c1 h2 hj,bS (q+1) j h2 h'⟩
  ·simp only[e]at h' |-
   rw[if_pos (by omega)]
   refine⟨.int .i64 0,by rw[List.getElem?_replicate,if_pos (by omega)],?_⟩
   have hz:zI.cells[j]=.int .i64 0:=by
    have :zI.cells=List.replicate 1 (.int .i64 0):=rfl
    simp only[this,List.getElem_replicate]
   rw[hz]
   exact .int _ _
 have hx:=Ext.same (φ:=φ) (o':=.arr 1 (l.eraseIdx i++[zI])) al (by simp only[O.len?,hL]) rfl
 have fh:=hC.chg (w':=bn w.drew (φ nm).blk (.cells iL T' f)) nm (.arr 1 (l.eraseIdx i++[zI])) (φ nm) hx ⟨rfl,rfl,rfl,by rw[yU];exact Nat.le_refl _⟩
  (fun b' cF hn=>by
    rw[jY (by rcases hn with h | h; · rw[g0]at h;cases h
              ·exact h)]
    rfl) (fun _=>.inr ⟨mX,rfl⟩)
  (.inr ⟨g0,by rw[hL];exact g1,g2,lT,rY,iL,T',f,hJ gq,g6,by rw[k5,k2];exact g7,jK⟩)
 rw[dY]at fh hx
 obtain⟨m',q1,q2,q3⟩:=fh.frz1 nm (.arr 1 (l.eraseIdx i++[zI])) (.farr 1 (l.eraseIdx i++[zI])) (aE _ _ _) rfl g0 iL T' f (hJ gq) rfl rfl rfl
  (fun m' hle iv=>.inr ⟨g0,⟨by rw[hL];exact g1,by rw[hL];exact Nat.le_trans g1 g2⟩,lT,rY,fun i j a b=>let ⟨c,x,y⟩:=jK i j a b;⟨c,iv _ _ x,y.mono hle⟩⟩)
 simp only[qP]at q2
 have gB:Ext φ φ σ.obj (upd σ.obj nm (some (.farr 1 (l.eraseIdx i++[zI])))):=by
  have :=Ext.same (φ:=φ) (o':=.farr 1 (l.eraseIdx i++[zI])) al (by simp only[O.len?,hL]) rfl
  rwa [dY]at this
 refine⟨_,φ,m',rfl,q2,.v _ _ ?_,gB⟩
 have b8:(l.eraseIdx i).length=l.length-1:=List.length_eraseIdx_of_lt fC
 rw[<-b8]
 by_cases IM:l.eraseIdx i=[]
 ·rw[IM];exact .slnil _ _
 ·have eZ:∀ q (h:q<(l.eraseIdx i).length),(l.eraseIdx i++[zI])[q]'(by rw[List.length_append];omega)=(l.eraseIdx i)[q]:=fun q h=>List.getElem_append_left h
  refine .sl _ _ _ _ 1 (fun q j=>(iL[(φ nm).off+q*1+j]?).getD undef) IM (by rw[b8];omega) (by rw[b8];omega) (fun q h=>?_) (fun q j h hj=>?_) (fun q j h hj=>?_) (fun q h=>?_)
  ·rw[<-eZ q h];exact lT _ _
  ·obtain⟨c,x,y⟩:=jK q j (by rw[List.length_append];omega) (by rw[lT];exact hj)
   rw[x];exact q3 _ _ x
  ·have hg:=eZ q h
   simp only[<-hg]at hj |-
   obtain⟨c,x,y⟩:=jK q j (by rw[List.length_append];omega) hj
   rw[x];exact y.mono q1
  ·rw[<-eZ q h];exact rY _ _
end Go.Eng
set_option linter.unusedVariables false
namespace Go.Eng
open Go Go.Proofs
def uX:Nat->Nat->List Nat->List Nat
 | 0,_,acc=>acc
 |f+1,n,acc=>cond (Nat.blt n 10) ((48+n)::acc) (uX f (n / 10) ((48+n % 10)::acc))
theorem Kh:∀ (f n:Nat) (acc:List Nat),n<10 ^ (f+1)->uX (f+1) n acc=(Lib.decDigits n).map UInt8.toNat++acc
 |f,n,acc,h=>by
  unfold uX
  by_cases h9:n<10
  ·have hb:Nat.blt n 10=true:=by simpa[Nat.blt_eq]using h9
   have :(UInt8.ofNat (48+n)).toNat=48+n:=UInt8.toNat_ofNat_of_lt' (by show 48+n<256;omega)
   rw[hb,Lib.decDigits_one h9,List.map_cons,List.map_nil,this]
   rfl
  ·have hb:Nat.blt n 10=false:=by
     cases hh:Nat.blt n 10 with
     |false=>rfl
     |true=>exact absurd (by simpa[Nat.blt_eq]using hh) h9
   have hm:n % 10<10:=Nat.mod_lt _ (by omega)
   have :(UInt8.ofNat (48+n % 10)).toNat=48+n % 10:=UInt8.toNat_ofNat_of_lt' (by show 48+n % 10<256;omega)
   rw[hb,Kg (by omega),cond_false]
   match f,h with
   | 0,h=>exact absurd h (by simpa using h9)
   |g+1,h=>
    rw[Kh g (n / 10) _ (by rw[Nat.pow_succ]at h;omega),List.map_append,List.map_cons,List.map_nil,this,List.append_assoc]
    rfl
def lO(w:List Nat)(l:List Int):List Nat:=w++(l.flatMap (fun n=>32::uX 8 n.toNat [])++[10])
def lF(i:Nat)(l:List Par):List Nat:=l.flatMap fun p=>lO [117,110,100,101,114] [(i:Int),p.no,p.pa]
def vG(s:Stk):List Nat:=
 lO [104,111,108,100,115] s.ho++(lF 0 s.un.a++(lF 1 s.un.b++(lF 2 s.un.c++(lF 3 s.un.d++(lF 4 s.un.e++(lF 5 s.un.f++(lO [115,101,110,116] [s.se.a,s.se.b,s.se.c,s.se.d,s.se.e,s.se.f]++lO [116,97,107,101,110] [s.ta.a,s.ta.b,s.ta.c,s.ta.d,s.ta.e,s.ta.f])))))))
def bN(b:ByteArray):List Nat:=b.data.toList.map UInt8.toNat
theorem Dv(a b:ByteArray):bN (a++b)=bN a++bN b:=by
 unfold bN
 rw[<-List.map_append]
 congr 1
 all_goals simp
theorem X0(l:List UInt8):bN (dH l)=l.map UInt8.toNat:=by simp[bN,dH]
theorem JK:∀ {l:List Int},(∀ n∈l,bO n)->(l.flatMap (fun n=>32::Lib.itoa n)).map UInt8.toNat=l.flatMap (fun n=>32::uX 8 n.toNat [])
 |[],_=>rfl
 |n::r,h=>by
  obtain⟨h0,h1⟩:=h n (by simp)
  rw[List.flatMap_cons,List.flatMap_cons,List.map_append,JK fun m hm=>h m (by simp[hm]),List.map_cons,AQ h0,Kh 7 n.toNat [] (by show n.toNat<100000000;omega),List.append_nil]
  rfl
theorem wN{w:List UInt8}{l:List Int}(h:∀ n∈l,bO n):bN (dr (dH w) l)=lO (w.map UInt8.toNat) l:=by
 have e:(dH w).data.toList=w:=by simp[dH]
 rw[Rr,X0]
 unfold lO nZ iY
 rw[List.take_length,List.map_append,List.map_append,List.append_assoc,JK h,e]
 rfl
theorem Ec{a:ByteArray}{i:Nat}(hi:i<6){l:List Par}(h:∀ p∈l,bO p.no/\bO p.pa):∀ k,k<=l.length->bN (fP a i l k)=bN a++lF i (l.take k)
 | 0,_=>by simp[fP,lF]
 |k+1,hk=>by
  have fI:k<l.length:=by omega
  have hq:=h _ (List.getElem_mem fI)
  have ht:l.take (k+1)=l.take k++[l[k]]:=by rw[List.take_add_one,List.getElem?_eq_getElem fI];rfl
  rw[fP,Dv,Ec hi h k (by omega),iz fI,ht]
  have :bN (dr jv [(i:Int),l[k].no,l[k].pa])=lO [117,110,100,101,114] [(i:Int),l[k].no,l[k].pa]:=wN (w:=[117,110,100,101,114]) (wx hi hq)
  rw[this]
  unfold lF
  rw[List.flatMap_append,List.flatMap_cons,List.flatMap_nil,List.append_nil,List.append_assoc]
theorem rB{s:Stk}(hs:ea s){i:Nat}(hi:i<6):bN (dZ s (i+1))=bN (dZ s i)++lF i (s.un.get i):=by
 have :=Ec (a:=dZ s i) hi (hs.un i hi) _ (Nat.le_refl _)
 rw[List.take_length]at this
 exact this
theorem Ek{s:Stk}(hs:ea s):bN (cU s)=vG s:=by
 unfold cU vG
 have h0:bN (dZ s 0)=lO [104,111,108,100,115] s.ho:=wN (w:=[104,111,108,100,115]) hs.ho
 have h7:bN (dr j0 (s.se.L id))=lO [115,101,110,116] [s.se.a,s.se.b,s.se.c,s.se.d,s.se.e,s.se.f]:=wN (w:=[115,101,110,116]) (nN hs.se)
 have h8:bN (dr lD (s.ta.L id))=lO [116,97,107,101,110] [s.ta.a,s.ta.b,s.ta.c,s.ta.d,s.ta.e,s.ta.f]:=wN (w:=[116,97,107,101,110]) (nN hs.ta)
 rw[Dv,Dv,h7,h8,rB hs (show 5<6 by omega),rB hs (show 4<6 by omega),rB hs (show 3<6 by omega),rB hs (show 2<6 by omega),rB hs (show 1<6 by omega),rB hs (show 0<6 by omega),h0]
 simp only[List.append_assoc]
 rfl
def vM(o c:Nat):Nat:=(257*o+c+1) % 1000003
def za(s:Stk)(n:Int):Nat:=(vG s).foldl vM (n.toNat % 1000003)
theorem NP(a:Nat):((a:Int)).tmod 1000003=((a % 1000003:Nat):Int):=rfl
theorem Es(b:ByteArray)(n:Nat):∀ i,i<=b.size->gj b n i=(((bN b).take i).foldl vM (n % 1000003):Nat)
 | 0,_=>by rw[List.take_zero];rfl
 |i+1,h=>by
  have hl:(bN b).length=b.size:=by simp[bN]
  have hi:i<(bN b).length:=by omega
  have hd:i<b.data.size:=h
  have hc:jT b i=(bN b)[i]:=by
   have e1:(bN b)[i]=(b.data[i]).toNat:=by simp[bN]
   have e2:b.data.getD i 0=b.data[i]:=by
    unfold Array.getD
    rw[dif_pos hd]
    rfl
   rw[e1,<-e2]
   rfl
  rw[gj,Es b n i (by omega),List.take_add_one,List.getElem?_eq_getElem hi,List.foldl_append,hc]
  have :(257*((((bN b).take i).foldl vM (n % 1000003):Nat):Int)+((bN b)[i]:Nat)+1)=((257*(((bN b).take i).foldl vM (n % 1000003))+(bN b)[i]+1:Nat):Int):=by simp
  rw[this,NP]
  rfl
theorem N3{s:Stk}{n:Int}(hs:ea s)(hn:bO n):hS s n=(za s n:Nat):=by
 obtain⟨N,rfl⟩:∃ N:Nat,n=N:=⟨n.toNat,by have:=hn.1;omega⟩
 unfold hS za
 have hl:(bN (cU s)).length=(cU s).size:=by simp[bN]
 rw[Es _ _ _ (Nat.le_refl _),<-hl,List.take_length,Ek hs,Int.toNat_natCast]
def ph:Option O->Option (List V)
 |some (.arr _ l)=>some l
 |some (.farr _ l)=>some l
 |_=>none
def zH(obj:Name->Option O):D->Option V
 | .v x=>some x
 | .nilsl=>some (.sl [])
 | .msl nm k=>match ph (obj nm)with
   |some l=>cond (Nat.beq k l.length) (some (.sl l)) none
   |none=>none
 |_=>none
def s5(obj:Name->Option O):List D->Option (List V)
 |[]=>some []
 |d::r=>match zH obj d with
  |some x=>match s5 obj r with
   |some xs=>some (x::xs)
   |none=>none
  |none=>none
def yQ(obj obj2:Name->Option O):Prop:=∀ nm,ph (obj2 nm)=ph (obj nm)
theorem Qr(n:Nat){obj obj2:Name->Option O}(h:yQ obj obj2){d:D}{x:V}(hx:zH obj d=some x):
 (ar (n+1) obj2 d).ok/\(ar (n+1) obj2 d).x=x/\yQ obj (ar (n+1) obj2 d).obj:=by
 cases d with
 |v y=>cases hx;exact⟨trivial,rfl,h⟩
 |nilsl=>cases hx;exact⟨trivial,rfl,h⟩
 |msl nm k=>
  have al:=h nm
  unfold zH at hx
  cases ho:obj2 nm with
  |none=>
   rw[ho]at al
   have h0:ph (obj nm)=none:=al.symm
   simp only[h0]at hx
   cases hx
  |some o=>
   rw[ho]at al
   cases o with
   |arr sz l=>
    have h0:ph (obj nm)=some l:=al.symm
    simp only[h0]at hx
    cases hb:Nat.beq k l.length with
    |false=>rw[hb]at hx;cases hx
    |true=>
     rw[hb]at hx
     cases hx
     have hk:=Nat.eq_of_beq_eq_true hb
     simp only[ar,ho]
     refine⟨hk,trivial,fun y=>?_⟩
     by_cases hy:y=nm
     ·subst hy
      rw[aE]
      exact h0.symm
     ·rw[aL _ _ _ hy]
      exact h y
   |farr sz l=>
    have h0:ph (obj nm)=some l:=al.symm
    simp only[h0]at hx
    cases hb:Nat.beq k l.length with
    |false=>rw[hb]at hx;cases hx
    |true=>
     rw[hb]at hx
     cases hx
     simp only[ar,ho]
     exact⟨Nat.eq_of_beq_eq_true hb,trivial,h⟩
   |_=>
    have h0:ph (obj nm)=none:=al.symm
    simp only[h0]at hx
    cases hx
 |_=>cases hx
theorem Fh(n:Nat){obj:Name->Option O}:∀ {ds:List D} {xs:List V} {obj2:Name->Option O},yQ obj obj2->s5 obj ds=some xs->
 (aI (ar (n+1)) obj2 ds).ok/\(aI (ar (n+1)) obj2 ds).xs=xs/\yQ obj (aI (ar (n+1)) obj2 ds).obj
 |[],xs,obj2,h,hx=>by cases hx;exact⟨trivial,rfl,h⟩
 |d::r,xs,obj2,h,hx=>by
  unfold s5 at hx
  split at hx
  ·rename_i x hd
   split at hx
   ·rename_i ys hr
    cases hx
    obtain⟨a1,a2,a3⟩:=Qr n h hd
    obtain⟨b1,b2,b3⟩:=Fh n a3 hr
    exact⟨⟨a1,b1⟩,by simp only[aI,a2,b2],b3⟩
   ·cases hx
  ·cases hx
def zG(obj:Name->Option O):D->Option (List V)
 | .agg l=>s5 obj l
 | .v (.agg l)=>some l
 |_=>none
theorem Fg{obj:Name->Option O}{d:D}{L:List V}(h:zG obj d=some L):(ar 6 obj d).ok/\(ar 6 obj d).x=.agg L:=by
 cases d with
 |agg l=>
  obtain⟨a1,a2,_⟩:=Fh 4 (fun _=>rfl) (show s5 obj l=some L from h)
  exact⟨a1,by simp only[ar]at *;exact congrArg V.agg a2⟩
 |v y=>
  cases y with
  |agg l=>cases h;exact⟨trivial,rfl⟩
  |_=>cases h
 |_=>cases h
def mE(n:Int):Bool:=decide (0<=n)&&decide (n<=1000000)
theorem px{n:Int}(h:mE n=true):bO n:=by
 unfold mE at h
 simp only[Bool.and_eq_true,decide_eq_true_eq]at h
 exact h
def sV{α:Type}(s:bb α)(f:α->Bool):Bool:=f s.a&&(f s.b&&(f s.c&&(f s.d&&(f s.e&&f s.f))))
theorem zl{α:Type}{s:bb α}{f:α->Bool}(h:sV s f=true):∀ i,i<6->f (s.get i)=true:=by
 unfold sV at h
 simp only[Bool.and_eq_true]at h
 obtain⟨h0,h1,h2,h3,h4,h5⟩:=h
 intro i hi
 match i,hi with
 | 0,_=>exact h0
 | 1,_=>exact h1
 | 2,_=>exact h2
 | 3,_=>exact h3
 | 4,_=>exact h4
 | 5,_=>exact h5
def rC(s:Stk):Bool:=Nat.ble s.ho.length 40&&(s.ho.all mE&&(sV s.un (fun l=>Nat.ble l.length 40&&l.all fun p=>mE p.no&&mE p.pa)&&(sV s.se mE&&sV s.ta mE)))
theorem wu{s:Stk}(h:rC s=true):ea s:=by
 unfold rC at h
 simp only[Bool.and_eq_true]at h
 obtain⟨h1,h2,h3,h4,h5⟩:=h
 have sh:=zl h3
 refine⟨Nat.le_of_ble_eq_true h1,fun n hn=>px (List.all_eq_true.1 h2 n hn),fun i hi=>?_,fun i hi p hp=>?_,fun i hi=>px (zl h4 i hi),fun i hi=>px (zl h5 i hi)⟩
 ·have:=sh i hi
  simp only[Bool.and_eq_true]at this
  exact Nat.le_of_ble_eq_true this.1
 ·have:=sh i hi
  simp only[Bool.and_eq_true]at this
  have :=List.all_eq_true.1 this.2 p hp
  simp only[Bool.and_eq_true]at this
  exact⟨px this.1,px this.2⟩
noncomputable def N4:SpecB where
 spec:=P60.toSpec
 run obj t ds:=match ds with
  |[d,.v (.int .i64 n)]=>match zG obj d with
   |some L=>cond (rC (eP L)&&(mE n&&fi 6 (.agg (aB (eP L))) (.agg L))) (some ⟨.v (.int .i64 (za (eP L) n:Nat)),dw (fp 6 obj) ds,[],fun t=>t⟩) none
   |none=>none
  |_=>none
 ok:=by
  intro obj t ds r hr
  split at hr
  ·rename_i d n
   split at hr
   ·rename_i L hL
    cases hb:(rC (eP L)&&(mE n&&fi 6 (.agg (aB (eP L))) (.agg L)))with
    |false=>rw[hb]at hr;cases hr
    |true=>
     rw[hb]at hr
     cases hr
     simp only[Bool.and_eq_true]at hb
     obtain⟨h1,h2,h3⟩:=hb
     replace h3:aB (eP L)=L:=V.agg.inj (o3 6 h3)
     obtain⟨a1,a2⟩:=Fg hL
     have tI:(aI (ar 6) obj [d,.v (.int .i64 n)]).xs=[.agg L,.int .i64 n]:=by
      show [(ar 6 obj d).x,(ar 6 (ar 6 obj d).obj (.v (.int .i64 n))).x]=_
      rw[a2];rfl
     have aa:(aI (ar 6) obj [d,.v (.int .i64 n)]).ok:=⟨a1,trivial,trivial⟩
     have cr:P60.pre [.agg L,.int .i64 n]:=⟨congrArg V.agg h3,rfl,wu h1,px h2⟩
     have cS:P60.fn [.agg L,.int .i64 n]=vInt (hS (eP L) n):=rfl
     refine⟨?_,?_,rfl,rfl,fun tbl h=>h⟩
     ·show _/\P60.pre _
      rw[tI]
      exact⟨aa,cr⟩
     ·show D.v (P60.fn _)=_
      rw[tI,cS,N3 (wu h1) (px h2)]
   ·cases hr
  ·cases hr
theorem N5{b:ByteArray}{l:List Nat}(h:bN b=l):(⟨(l.map UInt8.ofNat).toArray⟩:ByteArray)=b:=by
 subst h
 apply ByteArray.ext
 unfold bN
 rw[List.map_map]
 have :(UInt8.ofNat∘UInt8.toNat)=id:=by funext x;simp
 rw[this,List.map_id]
noncomputable def NQ:SpecB where
 spec:=P91.toSpec
 run obj t ds:=match ds with
  |[d]=>match zG obj d with
   |some L=>cond (rC (eP L)&&fi 6 (.agg (aB (eP L))) (.agg L)) (some ⟨.v (.str ⟨((vG (eP L)).map UInt8.ofNat).toArray⟩),dw (fp 6 obj) ds,[],fun t=>t⟩) none
   |none=>none
  |_=>none
 ok:=by
  intro obj t ds r hr
  split at hr
  ·rename_i d
   split at hr
   ·rename_i L hL
    cases hb:(rC (eP L)&&fi 6 (.agg (aB (eP L))) (.agg L))with
    |false=>rw[hb]at hr;cases hr
    |true=>
     rw[hb]at hr
     cases hr
     simp only[Bool.and_eq_true]at hb
     obtain⟨h1,h3⟩:=hb
     replace h3:aB (eP L)=L:=V.agg.inj (o3 6 h3)
     obtain⟨a1,a2⟩:=Fg hL
     have tI:(aI (ar 6) obj [d]).xs=[.agg L]:=by
      show [(ar 6 obj d).x]=_
      rw[a2]
     have aa:(aI (ar 6) obj [d]).ok:=⟨a1,trivial⟩
     have cr:P91.pre [.agg L]:=⟨congrArg V.agg h3,wu h1⟩
     have cS:P91.fn [.agg L]=.str (cU (eP L)):=rfl
     refine⟨?_,?_,rfl,rfl,fun tbl h=>h⟩
     ·show _/\P91.pre _
      rw[tI]
      exact⟨aa,cr⟩
     ·show D.v (P91.fn _)=_
      rw[tI,cS,N5 (Ek (wu h1))]
   ·cases hr
  ·cases hr
noncomputable def WU:SpecB where
 spec:=S54
 run obj t ds:=match ds with
  |[.msl nm k,.v (.int .i64 i),.v (.int .i64 j)]=>match obj nm with
   |some (.arr sz l)=>cond (Nat.beq k l.length&&(Nat.beq sz 1&&(decide (0<=i)&&(decide (j=i+1)&&Nat.blt i.toNat l.length)))) (some ⟨.v (.sl (l.eraseIdx i.toNat)),[nm],[nm],fun t=>dB t nm (.farr sz (l.eraseIdx i.toNat++[zI]))⟩) none
   |_=>none
  |_=>none
 ok:=by
  intro obj t ds r hr
  split at hr
  ·rename_i nm k i j
   split at hr
   ·rename_i sz l ho
    cases hb:(Nat.beq k l.length&&(Nat.beq sz 1&&(decide (0<=i)&&(decide (j=i+1)&&Nat.blt i.toNat l.length))))with
    |false=>rw[hb]at hr;cases hr
    |true=>
     rw[hb]at hr
     cases hr
     simp only[Bool.and_eq_true,decide_eq_true_eq]at hb
     obtain⟨h1,h2,h3,h4,h5⟩:=hb
     have Cp:i.toNat<l.length:=by simpa[Nat.blt_eq]using h5
     simp only[S54,vq,ho]
     refine⟨⟨Nat.eq_of_beq_eq_true h1,Nat.eq_of_beq_eq_true h2,h3,h4,Cp⟩,trivial,rfl,rfl,fun tbl h=>?_⟩
     rw[lN,h]
   ·cases hr
  ·cases hr
noncomputable def Gn(f:FuncId):Option SpecB:=
 match Nat.beq f 46 with
 |true=>some (KV Tryd.prog 35)
 |false=>match Nat.beq f 36 with
  |true=>some (KV Tryd.prog 34)
  |false=>match Nat.beq f 38 with
   |true=>some N4
   |false=>match Nat.beq f 63 with
    |true=>some NQ
    |false=>match Nat.beq f 44 with
     |true=>some WU
     |false=>none
noncomputable def AB(_:FuncId->Option SpecB)(f:FuncId):Option SpecB:=Gn f
theorem SA:∀ Γ:FuncId->Option SpecB,(∀ f s,aT Γ f=some s->ak Tryd.prog f s)->∀ f s,AB Γ f=some s->ak Tryd.prog f s.spec:=by
 intro Γ _ f s h
 unfold AB Gn at h
 split at h
 ·rename_i hb;have:=Nat.eq_of_beq_eq_true hb;subst this;cases h;exact u9 Di
 ·split at h
  ·rename_i hb;have:=Nat.eq_of_beq_eq_true hb;subst this;cases h;exact u9 Dh
  ·split at h
   ·rename_i hb;have:=Nat.eq_of_beq_eq_true hb;subst this;cases h;exact wV
   ·split at h
    ·rename_i hb;have:=Nat.eq_of_beq_eq_true hb;subst this;cases h;exact EU.sound
    ·split at h
     ·rename_i hb;have:=Nat.eq_of_beq_eq_true hb;subst this;cases h;exact H4
     ·cases h
noncomputable def Gx(F:List Nat)(T:List Ent):FuncId->Option SpecB:=ΓB Tryd.prog (Ds Tryd.prog AB 100000 F T) 100000 24
theorem Sx{F:List Nat}{T:List Ent}(hT:∀ e∈T,aP Tryd.prog e):∀ f s,aT (Gx F T) f=some s->ak Tryd.prog f s:=
 DY (XW (fun Γ h f s=>SA Γ h f s) hT) 24
theorem cP{F:List Nat}{T:List Ent}(hT:∀ e∈T,aP Tryd.prog e){e:Ent}(h:zz Tryd.prog (Gx F T) 100000 e=true):aP Tryd.prog e:=Qj (Sx hT) h
theorem cO{P:Program}{e:Ent}{T:List Ent}(h:aP P e)(hT:∀ e∈T,aP P e):∀ x∈e::T,aP P x:=by
 intro x hx
 rcases List.mem_cons.1 hx with rfl | hx
 ·exact h
 ·exact hT x hx
def G9:List Ent:=[]
theorem HM:∀ e∈G9,aP Tryd.prog e:=fun e h=>by cases h
end Go.Eng
