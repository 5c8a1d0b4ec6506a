import Derived.Test.YtepaolcgegdpoaaGreatK4
import Derived.Laws.Bits64
import Derived.KernelRfl
import Derived.Test.YtepaolcgegdpoaaGreatProg
/- Texts EngO to LW10. -/
set_option linter.all false
namespace Go.Eng
open Go
attribute [go_sem] Nat.reduceLeDiff Nat.le_refl Nat.reduceLT Nat.reduceAdd Nat.reduceEqDiff Nat.reduceSub Nat.reduceMul Nat.reduceBEq reduceIte reduceCtorEq
abbrev vInt (n:Int):V:=.int .i64 n
theorem lb{a b:Nat}(h:Nat.ble a b=true):a<=b:=Nat.le_of_ble_eq_true h
theorem sq{P:Program}{x y:Code}{r:List Code}{σ:S}{K:Exit->S->Prop}(h:CL P (x::y::r) σ K):CL P (.seq x y::r) σ K:=fj h
theorem ob{p:Prop}(h:p:=by first | exact Bool.or_not_self _ | trivial | (unfold maxLen;omega) | exact Bool.not_or_self _ | exact fun _=>by decide | exact fun h=>⟨h,by decide⟩ | omega | ((repeat' apply And.intro)<;>first | rfl | omega | (unfold maxLen;omega) | trivial) | (simp only[decide_eq_true_eq];omega) | exact⟨_,rfl⟩ | exact fun h=>⟨h,_,rfl⟩ | exact⟨_,_,rfl⟩ | exact fun h=>⟨h,_,_,rfl⟩ | exact fun h=>⟨h,_,_,_,rfl⟩ | exact⟨_,_,_,_,rfl⟩ | exact fun h=>⟨h,_,_,_,_,rfl⟩ | exact⟨[_,_],rfl⟩ | (simp only[Bool.decide_and,Bool.decide_eq_true];exact Bool.not_or_self _) | (simp;done) | (simp_all;done) | (simp_all;omega) | (grind)):p:=h
theorem rs{P:Program}{Γ:FuncId->Option Spec}(hΓ:∀ f s,Γ f=some s->aT P f s){id:Nat}{l:List Oper}{c:Code}{r:List Code}{σ τ:S}{K:Exit->S->Prop}(ks:List Nat)(ns:List Name)(h:CL P (c::r) τ K)
 (h':∀ K':S->Prop,(∀ σ',je ks ns σ'->jq ks ns σ'=τ->K' σ')->qX P Γ l.toArray l σ K':=by intro K' hK;simp only[go_sem];(repeat (refine⟨ob,?_⟩));exact hK _ (by simp only[go_sem]) (by simp only[go_sem]<;>rfl)):CL P (.region id l.toArray false::c::r) σ K:=
 CJ hΓ ks ns fun K' hK=>h' K' fun σ' hc he=>hK σ' hc (he▸h)
theorem fn{p:Prop}(h:p:=by(repeat (refine⟨ob,?_⟩));exact hK _ (by simp only[go_sem]) (by simp only[go_sem]<;>rfl)):p:=h
theorem fd{p:Prop}(h:p:=by(repeat (refine⟨ob,?_⟩));(first | refine⟨by rfl,?_⟩ | skip);exact hK _ (by simp only[go_sem]) (by simp only[go_sem]<;>rfl)):p:=h
theorem iz{p:Prop}(h:p:=by exact hK _ (by simp only[go_sem]) (by simp only[go_sem]<;>rfl)):p:=h
theorem fJ{p:Prop}(h:p:=by(first | refine⟨by rfl,?_⟩ | skip);exact hK _ (by simp only[go_sem]) (by simp only[go_sem]<;>rfl)):p:=h
@[go_sem] def u4:List Nat:=[0,1,2,3]
@[go_sem] def u5:List Nat:=[0,1,2,3,4]
@[go_sem] def u6:List Nat:=[0,1,2,3,4,5]
@[go_sem] def u7:List Nat:=[0,1,2,3,4,5,6]
@[go_sem] def u8:List Nat:=[0,1,2,3,4,5,6,7]
@[go_sem] def u9:List Nat:=[0,1,2,3,4,5,6,7,8]
@[go_sem] def ck:List Nat:=[0,1,2,3,4,5,6,7,8,9]
@[go_sem] def eF:List Nat:=[0,1,2,3,4,5,6,7,8,9,10]
@[go_sem] def eO:List Nat:=[0,1,2,3,4,5,6,7,8,9,10,11]
@[go_sem] def gK:List Nat:=[0,1,2,3,4,5,6,7,8,9,10,11,12]
@[go_sem] def jk:List Nat:=[0,1,2,3,4,5,6,7,8,9,10,11,12,13]
@[go_sem] def vt:List Nat:=[0,1,2,3,4,5,6,7,8,9,10,11,12,13,14]
@[go_sem] def u16:List Nat:=[0,1,2,3,4,5,6,7,8,9,10,11,12,13,14,15]
@[go_sem] def nZ:List Nat:=[0,1,2,3,4,5,6,7,8,9,10,11,12,13,14,15,16]
@[go_sem] def jj:List Nat:=[0,1,2,3,4,5,6,7,8,9,10,11,12,13,14,15,16,17]
@[go_sem] def nY:List Nat:=[0,1,2,3,4,5,6,7,8,9,10,11,12,13,14,15,16,17,18]
@[go_sem] def pV:List Nat:=[0,1,2,3,4,5,6,7,8,9,10,11,12,13,14,15,16,17,18,19]
@[go_sem] def xp:List Nat:=[0,1,2,3,4,5,6,7,8,9,10,11,12,13,14,15,16,17,18,19,20]
@[go_sem] def Aa:List Nat:=[0,1,2,3,4,5,6,7,8,9,10,11,12,13,14,15,16,17,18,19,20,21]
@[go_sem] def vr:List Nat:=[0,1,2,3,4,5,6,7,8,9,10,11,12,13,14,15,16,17,18,19,20,21,22]
@[go_sem] def Jk:List Nat:=[0,1,2,3,4,5,6,7,8,9,10,11,12,13,14,15,16,17,18,19,20,21,22,23]
@[go_sem] def z':List Nat:=[0,1,2,3,4,5,6,7,8,9,10,11,12,13,14,15,16,17,18,19,20,21,22,23,24]
@[go_sem] def TJ:List Nat:=[0,1,2,3,4,5,6,7,8,9,10,11,12,13,14,15,16,17,18,19,20,21,22,23,24,25]
@[go_sem] def TI:List Nat:=[0,1,2,3,4,5,6,7,8,9,10,11,12,13,14,15,16,17,18,19,20,21,22,23,24,25,26]
@[go_sem] def z8:List Nat:=[0,1,2,3,4,5,6,7,8,9,10,11,12,13,14,15,16,17,18,19,20,21,22,23,24,25,26,27]
@[go_sem] def z7:List Nat:=[0,1,2,3,4,5,6,7,8,9,10,11,12,13,14,15,16,17,18,19,20,21,22,23,24,25,26,27,28]
@[go_sem] def Jj:List Nat:=[0,1,2,3,4,5,6,7,8,9,10,11,12,13,14,15,16,17,18,19,20,21,22,23,24,25,26,27,28,29]
@[go_sem] def Ji:List Nat:=[0,1,2,3,4,5,6,7,8,9,10,11,12,13,14,15,16,17,18,19,20,21,22,23,24,25,26,27,28,29,30]
@[go_sem] def u32:List Nat:=[0,1,2,3,4,5,6,7,8,9,10,11,12,13,14,15,16,17,18,19,20,21,22,23,24,25,26,27,28,29,30,31]
@[go_sem] def TH:List Nat:=[0,1,2,3,4,5,6,7,8,9,10,11,12,13,14,15,16,17,18,19,20,21,22,23,24,25,26,27,28,29,30,31,32]
theorem aC{P:Program}{c:Operand}{x y:Code}{r:List Code}{σ:S}{K:Exit->S->Prop}{b:Bool}(h1:b=true->CL P (x::r) σ K)(h2:b=false->CL P (y::r) σ K)(hc:dh σ c=true:=by rfl)(hd:ax σ c=.v (.bool b):=by rfl):CL P (.cond c x y::r) σ K:=RA hc hd h1 h2
theorem ak(n:Nat):(n:Int).toNat=n:=Int.toNat_natCast n
theorem an(n:Nat):(0:Int)<=n:=Int.natCast_nonneg n
theorem be(n:Nat):((n+1:Nat):Int)=(n:Int)+1:=rfl
theorem el{p:Prop}(h:p:=by first | rfl | (simp;done) | (simp_all;done)):p:=h
theorem rx{P:Program}{Γ:FuncId->Option Spec}(hΓ:∀ f s,Γ f=some s->aT P f s){id:Nat}{l:List Oper}{c:Code}{r:List Code}{σ τ:S}{K:Exit->S->Prop}(ks:List Nat)(ns:List Name)
 (h':∀ K':S->Prop,(∀ σ',je ks ns σ'->jq ks ns σ'=τ->K' σ')->qX P Γ l.toArray l σ K') (h:CL P (c::r) τ K):CL P (.region id l.toArray false::c::r) σ K:=
 CJ hΓ ks ns fun K' hK=>h' K' fun σ' hc he=>hK σ' hc (he▸h)
theorem dx{P:Program}{Γ:FuncId->Option Spec}(hΓ:∀ f s,Γ f=some s->aT P f s)(hP:P.follows .mixedOrders=true)(az:List (List Nat)){id:Nat}{l:List Oper}{c:Code}{r:List Code}{σ τ:S}{K:Exit->S->Prop}(ks:List Nat)(ns:List Name)
 (hs:xv l.toArray az=true) (h':∀ K':S->Prop,(∀ σ',je ks ns σ'->jq ks ns σ'=τ->K' σ')->sE P Γ l.toArray 0 az l [] σ K') (h:CL P (c::r) τ K):CL P (.region id l.toArray true::c::r) σ K:=
 ada hΓ hP az ks ns hs fun K' hK=>h' K' fun σ' hc he=>hK σ' hc (he▸h)
theorem kp{P:Program}{c:Code}{r:List Code}{σ τ:S}{K:Exit->S->Prop}(ks:List Nat)(ns:List Name)(hc:CL P (c::r) τ K)(h:je ks ns σ:=by simp only[go_sem])(he:jq ks ns σ=τ:=by simp only[go_sem]<;>rfl):CL P (c::r) σ K:=
 fz ks ns h (he▸hc)
def tbl:List (Nat×Spec)->FuncId->Option Spec
 |[],_=>none
 |(g,s)::r,f=>if f=g then some s else tbl r f
theorem tn{P:Program}:∀ f s,tbl [] f=some s->aT P f s:=fun _ _ h=>by cases h
theorem tc{P:Program}{g:Nat}{s0:Spec}{r:List (Nat×Spec)}(h:aT P g s0)(hr:∀ f s,tbl r f=some s->aT P f s):∀ f s,tbl ((g,s0)::r) f=some s->aT P f s:=by
 intro f s hf
 unfold tbl at hf
 split at hf
 ·rename_i e
  cases hf
  subst e
  exact h
 ·exact hr f s hf
attribute [go_sem] tbl
theorem AK{P:Program}{f:FuncId}{fn:Func}{s:PSpec}{nt:Nat}{rs:List ResultVar}(hf:P.funcs[f]?=some fn)(cM:fn.ntmps=nt)(cg:fn.results.toList=rs)(hn:(fn.name== "runtime.NumGoroutine")=false)(hy:f<1000000000)
 (dZ:s.flat=true->∀ xs,s.pre xs->(s.fn xs).flat=true)
 (hb:∃ c,fn.body=some c/\∀ xs,s.pre xs->V.wfL xs->xs.length<=nt/\CL P [c] (bu nt [0] (fun _=>none) (gv 0 xs) []) (oe P rs (s.fn xs))):aZ P f s:=by
 obtain⟨c,hc,h⟩:=hb
 exact KT hf hc cM cg (jb hf hc hn) (Nat.ne_of_lt (show f<yid from hy)) dZ fun xs hp hw=>⟨(h xs hp hw).1,kg (h xs hp hw).2⟩
structure En (α:Type) where
 enc:α->V
 dec:V->α
def HM{α:Type}(d:V->α):V->List α
 | .sl l=>l.map d
 |_=>[]
def dX{α:Type}(e:En α):En (List α):=⟨fun l=>.sl (l.map e.enc),HM e.dec⟩
def iC(v:V):En Unit:=⟨fun _=>v,fun _=>()⟩
def iF(n:Nat):En Unit:=iC (.clo (.func n) [] [])
def p1{α:Type}(A:En α)(p:α->Prop)(g:α->V)(fl:Bool):PSpec:=
 ⟨fun xs=>match xs with | [x]=>A.enc (A.dec x)=x/\p (A.dec x) | _=>False,fun xs=>match xs with | [x]=>g (A.dec x) | _=>.bool false,fl⟩
def p2{α β:Type}(A:En α)(B:En β)(p:α->β->Prop)(g:α->β->V)(fl:Bool):PSpec:=
 ⟨fun xs=>match xs with | [x,y]=>A.enc (A.dec x)=x/\B.enc (B.dec y)=y/\p (A.dec x) (B.dec y) | _=>False,fun xs=>match xs with | [x,y]=>g (A.dec x) (B.dec y) | _=>.bool false,fl⟩
def p3{α β γ:Type}(A:En α)(B:En β)(C:En γ)(p:α->β->γ->Prop)(g:α->β->γ->V)(fl:Bool):PSpec:=
 ⟨fun xs=>match xs with | [x,y,z]=>A.enc (A.dec x)=x/\B.enc (B.dec y)=y/\C.enc (C.dec z)=z/\p (A.dec x) (B.dec y) (C.dec z) | _=>False,
  fun xs=>match xs with | [x,y,z]=>g (A.dec x) (B.dec y) (C.dec z) | _=>.bool false,fl⟩
def p4{α β γ δ:Type}(A:En α)(B:En β)(C:En γ)(D:En δ)(p:α->β->γ->δ->Prop)(g:α->β->γ->δ->V)(fl:Bool):PSpec:=
 ⟨fun xs=>match xs with | [x,y,z,u]=>A.enc (A.dec x)=x/\B.enc (B.dec y)=y/\C.enc (C.dec z)=z/\D.enc (D.dec u)=u/\p (A.dec x) (B.dec y) (C.dec z) (D.dec u) | _=>False,
  fun xs=>match xs with | [x,y,z,u]=>g (A.dec x) (B.dec y) (C.dec z) (D.dec u) | _=>.bool false,fl⟩
theorem EB{α:Type}{A:En α}{p:α->Prop}{g:α->V}{fl:Bool}{xs:List V}(h:(p1 A p g fl).pre xs):∃ a,xs=[A.enc a]/\p a/\(p1 A p g fl).fn xs=g a:=by
 unfold p1 at h
 simp only at h
 split at h
 ·exact⟨_,by rw[h.1],h.2,rfl⟩
 ·exact h.elim
theorem Lf{α β:Type}{A:En α}{B:En β}{p:α->β->Prop}{g:α->β->V}{fl:Bool}{xs:List V}(h:(p2 A B p g fl).pre xs):∃ a b,xs=[A.enc a,B.enc b]/\p a b/\(p2 A B p g fl).fn xs=g a b:=by
 unfold p2 at h
 simp only at h
 split at h
 ·exact⟨_,_,by rw[h.1,h.2.1],h.2.2,rfl⟩
 ·exact h.elim
theorem Le{α β γ:Type}{A:En α}{B:En β}{C:En γ}{p:α->β->γ->Prop}{g:α->β->γ->V}{fl:Bool}{xs:List V}(h:(p3 A B C p g fl).pre xs):
 ∃ a b c,xs=[A.enc a,B.enc b,C.enc c]/\p a b c/\(p3 A B C p g fl).fn xs=g a b c:=by
 unfold p3 at h
 simp only at h
 split at h
 ·exact⟨_,_,_,by rw[h.1,h.2.1,h.2.2.1],h.2.2.2,rfl⟩
 ·exact h.elim
theorem Ld{α β γ δ:Type}{A:En α}{B:En β}{C:En γ}{D:En δ}{p:α->β->γ->δ->Prop}{g:α->β->γ->δ->V}{fl:Bool}{xs:List V}(h:(p4 A B C D p g fl).pre xs):
 ∃ a b c d,xs=[A.enc a,B.enc b,C.enc c,D.enc d]/\p a b c d/\(p4 A B C D p g fl).fn xs=g a b c d:=by
 unfold p4 at h
 simp only at h
 split at h
 ·exact⟨_,_,_,_,by rw[h.1,h.2.1,h.2.2.1,h.2.2.2.1],h.2.2.2.2,rfl⟩
 ·exact h.elim
theorem WD{α:Type}{A:En α}{p:α->Prop}{g:α->V}{fl:Bool}(hg:∀ a,(g a).flat=true):(p1 A p g fl).flat=true->∀ xs,(p1 A p g fl).pre xs->((p1 A p g fl).fn xs).flat=true:=by
 intro _ xs h
 obtain⟨a,_,_,e⟩:=EB h
 rw[e];exact hg _
theorem WC{α β:Type}{A:En α}{B:En β}{p:α->β->Prop}{g:α->β->V}{fl:Bool}(hg:∀ a b,(g a b).flat=true):(p2 A B p g fl).flat=true->∀ xs,(p2 A B p g fl).pre xs->((p2 A B p g fl).fn xs).flat=true:=by
 intro _ xs h
 obtain⟨a,b,_,_,e⟩:=Lf h
 rw[e];exact hg _ _
theorem WB{α β γ:Type}{A:En α}{B:En β}{C:En γ}{p:α->β->γ->Prop}{g:α->β->γ->V}{fl:Bool}(hg:∀ a b c,(g a b c).flat=true):
 (p3 A B C p g fl).flat=true->∀ xs,(p3 A B C p g fl).pre xs->((p3 A B C p g fl).fn xs).flat=true:=by
 intro _ xs h
 obtain⟨a,b,c,_,_,e⟩:=Le h
 rw[e];exact hg _ _ _
theorem WA{α β γ δ:Type}{A:En α}{B:En β}{C:En γ}{D:En δ}{p:α->β->γ->δ->Prop}{g:α->β->γ->δ->V}{fl:Bool}(hg:∀ a b c d,(g a b c d).flat=true):
 (p4 A B C D p g fl).flat=true->∀ xs,(p4 A B C D p g fl).pre xs->((p4 A B C D p g fl).fn xs).flat=true:=by
 intro _ xs h
 obtain⟨a,b,c,d,_,_,e⟩:=Ld h
 rw[e];exact hg _ _ _ _
attribute [go_sem] p1 p2 p3 p4 HM dX iC iF PSpec.toSpec yid Option.bind_some Option.bind_none
theorem fD{P:Program}:∀ f s,(fun _=>none:FuncId->Option Spec) f=some s->aT P f s:=fun f s h=>by cases h
theorem adb{P:Program}{c:Operand}{x y c2:Code}{r:List Code}{σ:S}{K:Exit->S->Prop}{b:Bool}(τ:S)(hc:dh σ c=true)(hd:ax σ c=.v (.bool b))
 (ht:b=true->CL P [x] σ (kr (fun σ'=>iW σ' τ) K)) (hf:b=false->CL P [y] σ (kr (fun σ'=>iW σ' τ) K)) (h:CL P (c2::r) τ K):CL P (.cond c x y::c2::r) σ K:=by
 have key:∀ z,CL P [z] σ (kr (fun σ'=>iW σ' τ) K)->CL P (z::c2::r) σ K:=fun z hz=>
  CW.mono (kg hz) fun e σ' hk=>by
   cases e with
   |normal=>exact bQ hk h
   |_=>exact hk
 exact RA hc hd (fun hb=>key x (ht hb)) fun hb=>key y (hf hb)
theorem DA{n:Nat}(h:¬ n=0)(hn:n<=maxLen):IntKind.i64.wrap ((n:Int)-1)=((n-1:Nat):Int):=by
 unfold maxLen at hn
 rw[wrap_i64 (by omega) (by omega)]
 omega
theorem cj{α:Type}{l:List α}{i:Nat}{z:α}(h:i<l.length):l.getD i z=l[i]:=by
 simp[List.getD,h]
theorem p7{os:List O}(hc:∀ o∈os,∀ dom:Name->Bool,(∀ i,dom [i,1]=true)->O.clos dom o=true)(hs:List (Name×O)):cG [0] (cv [0] hs) (ba os):=by
 intro nm o hn h
 unfold ba at h
 split at h
 ·rename_i i
  refine hc o (List.mem_of_getElem? h) _ fun i=>?_
  simp only[cv,vM,Bool.not_false,Bool.true_or]
 ·cases h
def n1{α:Type}(A:En α)(p:α->Prop)(new:α->List (Name×O))(d:α->D):NSpec:=
 ⟨fun xs=>match xs with | [x]=>A.enc (A.dec x)=x/\p (A.dec x) | _=>False,fun xs=>match xs with | [x]=>new (A.dec x) | _=>[],fun xs=>match xs with | [x]=>d (A.dec x) | _=>.any⟩
def n2{α β:Type}(A:En α)(B:En β)(p:α->β->Prop)(new:α->β->List (Name×O))(d:α->β->D):NSpec:=
 ⟨fun xs=>match xs with | [x,y]=>A.enc (A.dec x)=x/\B.enc (B.dec y)=y/\p (A.dec x) (B.dec y) | _=>False,fun xs=>match xs with | [x,y]=>new (A.dec x) (B.dec y) | _=>[],fun xs=>match xs with | [x,y]=>d (A.dec x) (B.dec y) | _=>.any⟩
theorem Xv{α:Type}{A:En α}{p:α->Prop}{new:α->List (Name×O)}{d:α->D}{xs:List V}(h:(n1 A p new d).pre xs):∃ a,xs=[A.enc a]/\p a/\(n1 A p new d).new xs=new a/\(n1 A p new d).d xs=d a:=by
 unfold n1 at h
 simp only at h
 split at h
 ·exact⟨_,by rw[h.1],h.2,rfl,rfl⟩
 ·exact h.elim
theorem EZ{α β:Type}{A:En α}{B:En β}{p:α->β->Prop}{new:α->β->List (Name×O)}{d:α->β->D}{xs:List V}(h:(n2 A B p new d).pre xs):∃ a b,xs=[A.enc a,B.enc b]/\p a b/\(n2 A B p new d).new xs=new a b/\(n2 A B p new d).d xs=d a b:=by
 unfold n2 at h
 simp only at h
 split at h
 ·exact⟨_,_,by rw[h.1,h.2.1],h.2.2,rfl,rfl⟩
 ·exact h.elim
attribute [go_sem] n1 n2 NSpec.toSpec NSpec.app mF dQ cout D.ren D.renL O.ren fresh
section
variable {P:Program} {f:FuncId} {fn:Func} {nt:Nat} {rs:List ResultVar}
theorem w1{α:Type}{A:En α}{p:α->Prop}{g:α->V}{fl:Bool}(hf:P.funcs[f]?=some fn)(cM:fn.ntmps=nt)(cg:fn.results.toList=rs)(hn:(fn.name== "runtime.NumGoroutine")=false)(hy:f<1000000000)
 (dZ:fl=true->∀ a,(g a).flat=true) (hb:∃ c,fn.body=some c/\1<=nt/\∀ a,p a->V.wfL [A.enc a]->CL P [c] (bu nt [0] (fun _=>none) (gv 0 [A.enc a]) []) (oe P rs (g a))):aZ P f (p1 A p g fl):=by
 obtain⟨c,hc,h1,h⟩:=hb
 refine AK hf cM cg hn hy (fun e=>WD (dZ e) e) ⟨c,hc,fun xs hp hw=>?_⟩
 obtain⟨a,rfl,hp,hg⟩:=EB hp
 rw[hg]
 exact⟨h1,h a hp hw⟩
theorem w2{α β:Type}{A:En α}{B:En β}{p:α->β->Prop}{g:α->β->V}{fl:Bool}(hf:P.funcs[f]?=some fn)(cM:fn.ntmps=nt)(cg:fn.results.toList=rs)(hn:(fn.name== "runtime.NumGoroutine")=false)(hy:f<1000000000)
 (dZ:fl=true->∀ a b,(g a b).flat=true) (hb:∃ c,fn.body=some c/\2<=nt/\∀ a b,p a b->V.wfL [A.enc a,B.enc b]->CL P [c] (bu nt [0] (fun _=>none) (gv 0 [A.enc a,B.enc b]) []) (oe P rs (g a b))):aZ P f (p2 A B p g fl):=by
 obtain⟨c,hc,h1,h⟩:=hb
 refine AK hf cM cg hn hy (fun e=>WC (dZ e) e) ⟨c,hc,fun xs hp hw=>?_⟩
 obtain⟨a,b,rfl,hp,hg⟩:=Lf hp
 rw[hg]
 exact⟨h1,h a b hp hw⟩
theorem w3{α β γ:Type}{A:En α}{B:En β}{C:En γ}{p:α->β->γ->Prop}{g:α->β->γ->V}{fl:Bool}(hf:P.funcs[f]?=some fn)(cM:fn.ntmps=nt)(cg:fn.results.toList=rs)(hn:(fn.name== "runtime.NumGoroutine")=false)(hy:f<1000000000)
 (dZ:fl=true->∀ a b c,(g a b c).flat=true) (hb:∃ c,fn.body=some c/\3<=nt/\∀ a b d,p a b d->V.wfL [A.enc a,B.enc b,C.enc d]->CL P [c] (bu nt [0] (fun _=>none) (gv 0 [A.enc a,B.enc b,C.enc d]) []) (oe P rs (g a b d))):aZ P f (p3 A B C p g fl):=by
 obtain⟨c,hc,h1,h⟩:=hb
 refine AK hf cM cg hn hy (fun e=>WB (dZ e) e) ⟨c,hc,fun xs hp hw=>?_⟩
 obtain⟨a,b,d,rfl,hp,hg⟩:=Le hp
 rw[hg]
 exact⟨h1,h a b d hp hw⟩
theorem w4{α β γ δ:Type}{A:En α}{B:En β}{C:En γ}{E:En δ}{p:α->β->γ->δ->Prop}{g:α->β->γ->δ->V}{fl:Bool}(hf:P.funcs[f]?=some fn)(cM:fn.ntmps=nt)(cg:fn.results.toList=rs)(hn:(fn.name== "runtime.NumGoroutine")=false)(hy:f<1000000000)
 (dZ:fl=true->∀ a b c d,(g a b c d).flat=true) (hb:∃ c,fn.body=some c/\4<=nt/\∀ a b d e,p a b d e->V.wfL [A.enc a,B.enc b,C.enc d,E.enc e]->CL P [c] (bu nt [0] (fun _=>none) (gv 0 [A.enc a,B.enc b,C.enc d,E.enc e]) []) (oe P rs (g a b d e))):aZ P f (p4 A B C E p g fl):=by
 obtain⟨c,hc,h1,h⟩:=hb
 refine AK hf cM cg hn hy (fun e=>WA (dZ e) e) ⟨c,hc,fun xs hp hw=>?_⟩
 obtain⟨a,b,d,e,rfl,hp,hg⟩:=Ld hp
 rw[hg]
 exact⟨h1,h a b d e hp hw⟩
theorem gJ{α:Type}{A:En α}{p:α->Prop}{g:α->V}{fl:Bool}(hf:P.funcs[f]?=some fn)(cM:fn.ntmps=nt){c:Code}
 (h:∀ a,p a->V.wfL [A.enc a]->CL P [c] (bu nt [0] (fun _=>none) (gv 0 [A.enc a]) []) (oe P rs (g a)))
 (cg:fn.results.toList=rs:=by rfl) (hn:(fn.name== "runtime.NumGoroutine")=false:=by kernel_rfl) (hy:f<1000000000:=by decide)
 (dZ:fl=true->∀ a,(g a).flat=true:=by first | exact fun _ _=>rfl | exact fun h=>by cases h) (hc:fn.body=some c:=by rfl) (h1:1<=nt:=by exact Nat.le_of_ble_eq_true rfl):aZ P f (p1 A p g fl):=
 w1 hf cM cg hn hy dZ ⟨c,hc,h1,h⟩
theorem dG{α β:Type}{A:En α}{B:En β}{p:α->β->Prop}{g:α->β->V}{fl:Bool}(hf:P.funcs[f]?=some fn)(cM:fn.ntmps=nt){c:Code}
 (h:∀ a b,p a b->V.wfL [A.enc a,B.enc b]->CL P [c] (bu nt [0] (fun _=>none) (gv 0 [A.enc a,B.enc b]) []) (oe P rs (g a b)))
 (cg:fn.results.toList=rs:=by rfl) (hn:(fn.name== "runtime.NumGoroutine")=false:=by kernel_rfl) (hy:f<1000000000:=by decide)
 (dZ:fl=true->∀ a b,(g a b).flat=true:=by first | exact fun _ _ _=>rfl | exact fun h=>by cases h) (hc:fn.body=some c:=by rfl) (h1:2<=nt:=by exact Nat.le_of_ble_eq_true rfl):aZ P f (p2 A B p g fl):=
 w2 hf cM cg hn hy dZ ⟨c,hc,h1,h⟩
theorem lR{α β γ:Type}{A:En α}{B:En β}{C:En γ}{p:α->β->γ->Prop}{g:α->β->γ->V}{fl:Bool}(hf:P.funcs[f]?=some fn)(cM:fn.ntmps=nt){c:Code}
 (h:∀ a b d,p a b d->V.wfL [A.enc a,B.enc b,C.enc d]->CL P [c] (bu nt [0] (fun _=>none) (gv 0 [A.enc a,B.enc b,C.enc d]) []) (oe P rs (g a b d)))
 (cg:fn.results.toList=rs:=by rfl) (hn:(fn.name== "runtime.NumGoroutine")=false:=by kernel_rfl) (hy:f<1000000000:=by decide)
 (dZ:fl=true->∀ a b d,(g a b d).flat=true:=by first | exact fun _ _ _ _=>rfl | exact fun h=>by cases h) (hc:fn.body=some c:=by rfl) (h1:3<=nt:=by exact Nat.le_of_ble_eq_true rfl):aZ P f (p3 A B C p g fl):=
 w3 hf cM cg hn hy dZ ⟨c,hc,h1,h⟩
theorem ra{α β γ δ:Type}{A:En α}{B:En β}{C:En γ}{E:En δ}{p:α->β->γ->δ->Prop}{g:α->β->γ->δ->V}{fl:Bool}(hf:P.funcs[f]?=some fn)(cM:fn.ntmps=nt){c:Code}
 (h:∀ a b d e,p a b d e->V.wfL [A.enc a,B.enc b,C.enc d,E.enc e]->CL P [c] (bu nt [0] (fun _=>none) (gv 0 [A.enc a,B.enc b,C.enc d,E.enc e]) []) (oe P rs (g a b d e)))
 (cg:fn.results.toList=rs:=by rfl) (hn:(fn.name== "runtime.NumGoroutine")=false:=by kernel_rfl) (hy:f<1000000000:=by decide)
 (dZ:fl=true->∀ a b d e,(g a b d e).flat=true:=by first | exact fun _ _ _ _ _=>rfl | exact fun h=>by cases h) (hc:fn.body=some c:=by rfl) (h1:4<=nt:=by exact Nat.le_of_ble_eq_true rfl):aZ P f (p4 A B C E p g fl):=
 w4 hf cM cg hn hy dZ ⟨c,hc,h1,h⟩
end
open Go Go.Proofs
abbrev KS (K:List (Nat×Spec)):Prop:=∀ f s,tbl K f=some s->aT Tryz.prog f s
@[go_sem] theorem ta0:bf Tryz.prog 0=some (false,1):=by kernel_rfl
@[go_sem] theorem ta1:bf Tryz.prog 1=some (false,1):=by kernel_rfl
@[go_sem] theorem tz1:bp Tryz.prog 1=some .nilFunc:=by kernel_rfl
@[go_sem] theorem ta2:bf Tryz.prog 2=some (false,1):=by kernel_rfl
@[go_sem] theorem ti2:n9 Tryz.prog 2=some .i64:=by kernel_rfl
@[go_sem] theorem tz2:bp Tryz.prog 2=some (.int .i64 0):=by kernel_rfl
@[go_sem] theorem Al:bf Tryz.prog 3=some (false,1):=by kernel_rfl
@[go_sem] theorem ti3:n9 Tryz.prog 3=some .i64:=by kernel_rfl
@[go_sem] theorem tz3:bp Tryz.prog 3=some (.int .i64 0):=by kernel_rfl
@[go_sem] theorem ta4:bf Tryz.prog 4=some (false,1):=by kernel_rfl
@[go_sem] theorem tz4:bp Tryz.prog 4=some (.bool false):=by kernel_rfl
@[go_sem] theorem ais:bf Tryz.prog 18=some (true,1):=by kernel_rfl
@[go_sem] theorem agD:iZ Tryz.prog 18=some [(0,1)]:=by kernel_rfl
@[go_sem] theorem af6:bp Tryz.prog 18=some (.agg #[(.pointer none)]):=by kernel_rfl
@[go_sem] theorem ahy:b9 Tryz.prog 18 0=some (0,1,false):=by kernel_rfl
@[go_sem] theorem ail:bf Tryz.prog 22=some (false,1):=by kernel_rfl
@[go_sem] theorem ahR:cC Tryz.prog 22=some (100,5,40):=by kernel_rfl
@[go_sem] theorem agU:dM Tryz.prog 22=some 0:=by kernel_rfl
@[go_sem] theorem af0:bp Tryz.prog 22=some (.slice none 0 0):=by kernel_rfl
@[go_sem] theorem aik:bf Tryz.prog 23=some (false,1):=by kernel_rfl
@[go_sem] theorem ahQ:cC Tryz.prog 23=some (131,7,56):=by kernel_rfl
@[go_sem] theorem agT:dM Tryz.prog 23=some 0:=by kernel_rfl
@[go_sem] theorem afZ:bp Tryz.prog 23=some (.slice none 0 0):=by kernel_rfl
@[go_sem] theorem aij:bf Tryz.prog 25=some (true,3):=by kernel_rfl
@[go_sem] theorem agC:iZ Tryz.prog 25=some [(0,1),(1,1),(2,1)]:=by kernel_rfl
@[go_sem] theorem afY:bp Tryz.prog 25=some (.agg #[(.slice none 0 0),(.slice none 0 0),(.slice none 0 0)]):=by kernel_rfl
@[go_sem] theorem ahx:b9 Tryz.prog 25 0=some (0,1,false):=by kernel_rfl
@[go_sem] theorem ahw:b9 Tryz.prog 25 1=some (1,1,false):=by kernel_rfl
@[go_sem] theorem ahv:b9 Tryz.prog 25 2=some (2,1,false):=by kernel_rfl
@[go_sem] theorem aii:bf Tryz.prog 26=some (false,1):=by kernel_rfl
@[go_sem] theorem ahP:cC Tryz.prog 26=some (46,2,16):=by kernel_rfl
@[go_sem] theorem agS:dM Tryz.prog 26=some 0:=by kernel_rfl
@[go_sem] theorem afX:bp Tryz.prog 26=some (.slice none 0 0):=by kernel_rfl
@[go_sem] theorem aih:bf Tryz.prog 27=some (false,1):=by kernel_rfl
@[go_sem] theorem ahO:cC Tryz.prog 27=some (36,7,72):=by kernel_rfl
@[go_sem] theorem agR:dM Tryz.prog 27=some 0:=by kernel_rfl
@[go_sem] theorem afW:bp Tryz.prog 27=some (.slice none 0 0):=by kernel_rfl
@[go_sem] theorem aif:bf Tryz.prog 28=some (false,1):=by kernel_rfl
@[go_sem] theorem ahN:cC Tryz.prog 28=some (40,8,80):=by kernel_rfl
@[go_sem] theorem agQ:dM Tryz.prog 28=some 0:=by kernel_rfl
@[go_sem] theorem afV:bp Tryz.prog 28=some (.slice none 0 0):=by kernel_rfl
@[go_sem] theorem aie:bf Tryz.prog 29=some (false,1):=by kernel_rfl
@[go_sem] theorem DJ:cC Tryz.prog 29=some (81,7,56):=by kernel_rfl
@[go_sem] theorem agP:dM Tryz.prog 29=some 0:=by kernel_rfl
@[go_sem] theorem afU:bp Tryz.prog 29=some (.slice none 0 0):=by kernel_rfl
@[go_sem] theorem aid:bf Tryz.prog 31=some (true,4):=by kernel_rfl
@[go_sem] theorem agB:iZ Tryz.prog 31=some [(0,1),(1,1),(2,1),(3,1)]:=by kernel_rfl
@[go_sem] theorem afT:bp Tryz.prog 31=some (.agg #[(.slice none 0 0),(.slice none 0 0),(.slice none 0 0),(.slice none 0 0)]):=by kernel_rfl
@[go_sem] theorem ahu:b9 Tryz.prog 31 0=some (0,1,false):=by kernel_rfl
@[go_sem] theorem aht:b9 Tryz.prog 31 1=some (1,1,false):=by kernel_rfl
@[go_sem] theorem ahs:b9 Tryz.prog 31 2=some (2,1,false):=by kernel_rfl
@[go_sem] theorem ahr:b9 Tryz.prog 31 3=some (3,1,false):=by kernel_rfl
@[go_sem] theorem aic:bf Tryz.prog 32=some (false,1):=by kernel_rfl
@[go_sem] theorem ahM:cC Tryz.prog 32=some (3,1,8):=by kernel_rfl
@[go_sem] theorem agO:dM Tryz.prog 32=some 0:=by kernel_rfl
@[go_sem] theorem afS:bp Tryz.prog 32=some (.slice none 0 0):=by kernel_rfl
@[go_sem] theorem aib:bf Tryz.prog 33=some (false,1):=by kernel_rfl
@[go_sem] theorem aia:bf Tryz.prog 36=some (true,7):=by kernel_rfl
@[go_sem] theorem agA:iZ Tryz.prog 36=some [(0,1),(1,1),(2,1),(3,1),(4,1),(5,1),(6,1)]:=by kernel_rfl
@[go_sem] theorem afR:bp Tryz.prog 36=some (.agg #[(.int .i64 0),(.int .i64 0),(.int .i64 0),(.slice none 0 0),(.int .i64 0),(.int .i64 0),(.int .i64 0)]):=by kernel_rfl
@[go_sem] theorem ahq:b9 Tryz.prog 36 0=some (0,1,false):=by kernel_rfl
@[go_sem] theorem ahp:b9 Tryz.prog 36 1=some (1,1,false):=by kernel_rfl
@[go_sem] theorem aho:b9 Tryz.prog 36 2=some (2,1,false):=by kernel_rfl
@[go_sem] theorem ahn:b9 Tryz.prog 36 3=some (3,1,false):=by kernel_rfl
@[go_sem] theorem ahm:b9 Tryz.prog 36 4=some (4,1,false):=by kernel_rfl
@[go_sem] theorem ahl:b9 Tryz.prog 36 5=some (5,1,false):=by kernel_rfl
@[go_sem] theorem ahk:b9 Tryz.prog 36 6=some (6,1,false):=by kernel_rfl
@[go_sem] theorem ah':bf Tryz.prog 38=some (true,2):=by kernel_rfl
@[go_sem] theorem agz:iZ Tryz.prog 38=some [(0,1),(1,1)]:=by kernel_rfl
@[go_sem] theorem afQ:bp Tryz.prog 38=some (.agg #[(.int .i64 0),(.int .i64 0)]):=by kernel_rfl
@[go_sem] theorem ahj:b9 Tryz.prog 38 0=some (0,1,false):=by kernel_rfl
@[go_sem] theorem ahi:b9 Tryz.prog 38 1=some (1,1,false):=by kernel_rfl
@[go_sem] theorem ah9:bf Tryz.prog 40=some (true,8):=by kernel_rfl
@[go_sem] theorem agy:iZ Tryz.prog 40=some [(0,1),(1,1),(2,1),(3,1),(4,2),(6,1),(7,1)]:=by kernel_rfl
@[go_sem] theorem afP:bp Tryz.prog 40=some (.agg #[(.int .i64 0),(.int .i64 0),(.int .i64 0),(.slice none 0 0),(.int .i64 0),(.int .i64 0),(.int .i64 0),(.int .i64 0)]):=by kernel_rfl
@[go_sem] theorem ahh:b9 Tryz.prog 40 0=some (0,1,false):=by kernel_rfl
@[go_sem] theorem ahg:b9 Tryz.prog 40 1=some (1,1,false):=by kernel_rfl
@[go_sem] theorem ahf:b9 Tryz.prog 40 2=some (2,1,false):=by kernel_rfl
@[go_sem] theorem ahe:b9 Tryz.prog 40 3=some (3,1,false):=by kernel_rfl
@[go_sem] theorem ahd:b9 Tryz.prog 40 4=some (4,2,true):=by kernel_rfl
@[go_sem] theorem ahc:b9 Tryz.prog 40 5=some (6,1,false):=by kernel_rfl
@[go_sem] theorem ahb:b9 Tryz.prog 40 6=some (7,1,false):=by kernel_rfl
@[go_sem] theorem ah8:bf Tryz.prog 42=some (false,1):=by kernel_rfl
@[go_sem] theorem agZ:n9 Tryz.prog 42=some .i64:=by kernel_rfl
@[go_sem] theorem afO:bp Tryz.prog 42=some (.int .i64 0):=by kernel_rfl
@[go_sem] theorem ah7:bf Tryz.prog 43=some (false,1):=by kernel_rfl
@[go_sem] theorem ah6:bf Tryz.prog 46=some (true,2):=by kernel_rfl
@[go_sem] theorem agx:iZ Tryz.prog 46=some [(0,1),(1,1)]:=by kernel_rfl
@[go_sem] theorem afN:bp Tryz.prog 46=some (.agg #[(.int .i64 0),(.int .i64 0)]):=by kernel_rfl
@[go_sem] theorem aha:b9 Tryz.prog 46 0=some (0,1,false):=by kernel_rfl
@[go_sem] theorem ag':b9 Tryz.prog 46 1=some (1,1,false):=by kernel_rfl
@[go_sem] theorem ah5:bf Tryz.prog 51=some (false,1):=by kernel_rfl
@[go_sem] theorem ahL:cC Tryz.prog 51=some (56,2,16):=by kernel_rfl
@[go_sem] theorem agM:dM Tryz.prog 51=some 0:=by kernel_rfl
@[go_sem] theorem afM:bp Tryz.prog 51=some (.slice none 0 0):=by kernel_rfl
@[go_sem] theorem ah4:bf Tryz.prog 52=some (false,1):=by kernel_rfl
@[go_sem] theorem ah3:bf Tryz.prog 56=some (true,2):=by kernel_rfl
@[go_sem] theorem agw:iZ Tryz.prog 56=some [(0,1),(1,1)]:=by kernel_rfl
@[go_sem] theorem afL:bp Tryz.prog 56=some (.agg #[(.int .i64 0),(.int .i64 0)]):=by kernel_rfl
@[go_sem] theorem ag9:b9 Tryz.prog 56 0=some (0,1,false):=by kernel_rfl
@[go_sem] theorem ag8:b9 Tryz.prog 56 1=some (1,1,false):=by kernel_rfl
@[go_sem] theorem ah2:bf Tryz.prog 57=some (false,1):=by kernel_rfl
@[go_sem] theorem ah1:bf Tryz.prog 65=some (false,1):=by kernel_rfl
@[go_sem] theorem ah0:bf Tryz.prog 77=some (true,2):=by kernel_rfl
@[go_sem] theorem agq:ku Tryz.prog 77=some (2,1,false):=by kernel_rfl
@[go_sem] theorem agv:iZ Tryz.prog 77=some [(0,1),(1,1)]:=by kernel_rfl
@[go_sem] theorem afK:bp Tryz.prog 77=some (.agg #[(.int .i64 0),(.int .i64 0)]):=by kernel_rfl
@[go_sem] theorem ahZ:bf Tryz.prog 81=some (true,7):=by kernel_rfl
@[go_sem] theorem agu:iZ Tryz.prog 81=some [(0,1),(1,1),(2,1),(3,1),(4,1),(5,1),(6,1)]:=by kernel_rfl
@[go_sem] theorem Jl:bp Tryz.prog 81=some (.agg #[(.int .i64 0),(.int .i64 0),(.int .i64 0),(.int .i64 0),(.int .i64 0),(.int .i64 0),(.int .i64 0)]):=by kernel_rfl
@[go_sem] theorem ag7:b9 Tryz.prog 81 0=some (0,1,false):=by kernel_rfl
@[go_sem] theorem ag6:b9 Tryz.prog 81 1=some (1,1,false):=by kernel_rfl
@[go_sem] theorem ag5:b9 Tryz.prog 81 2=some (2,1,false):=by kernel_rfl
@[go_sem] theorem ag4:b9 Tryz.prog 81 3=some (3,1,false):=by kernel_rfl
@[go_sem] theorem ag3:b9 Tryz.prog 81 4=some (4,1,false):=by kernel_rfl
@[go_sem] theorem ag2:b9 Tryz.prog 81 5=some (5,1,false):=by kernel_rfl
@[go_sem] theorem ag1:b9 Tryz.prog 81 6=some (6,1,false):=by kernel_rfl
@[go_sem] theorem ahY:bf Tryz.prog 86=some (false,1):=by kernel_rfl
@[go_sem] theorem ahX:bf Tryz.prog 92=some (false,1):=by kernel_rfl
@[go_sem] theorem ahW:bf Tryz.prog 95=some (false,1):=by kernel_rfl
@[go_sem] theorem afJ:bp Tryz.prog 95=some .nilFunc:=by kernel_rfl
@[go_sem] theorem ahV:bf Tryz.prog 96=some (false,1):=by kernel_rfl
@[go_sem] theorem afI:bp Tryz.prog 96=some .nilFunc:=by kernel_rfl
@[go_sem] theorem ahU:bf Tryz.prog 97=some (false,1):=by kernel_rfl
@[go_sem] theorem afH:bp Tryz.prog 97=some .nilFunc:=by kernel_rfl
@[go_sem] theorem ahT:bf Tryz.prog 98=some (false,1):=by kernel_rfl
@[go_sem] theorem afG:bp Tryz.prog 98=some .nilFunc:=by kernel_rfl
@[go_sem] theorem aiP:bf Tryz.prog 100=some (true,5):=by kernel_rfl
@[go_sem] theorem agt:ku Tryz.prog 100=some (5,1,false):=by kernel_rfl
@[go_sem] theorem agI:iZ Tryz.prog 100=some [(0,1),(1,1),(2,1),(3,1),(4,1)]:=by kernel_rfl
@[go_sem] theorem agp:bp Tryz.prog 100=some (.agg #[(.int .i64 0),(.int .i64 0),(.int .i64 0),(.int .i64 0),(.int .i64 0)]):=by kernel_rfl
@[go_sem] theorem aiO:bf Tryz.prog 103=some (false,1):=by kernel_rfl
@[go_sem] theorem ahS:cC Tryz.prog 103=some (4,1,1):=by kernel_rfl
@[go_sem] theorem agY:dM Tryz.prog 103=some 0:=by kernel_rfl
@[go_sem] theorem ago:bp Tryz.prog 103=some (.slice none 0 0):=by kernel_rfl
@[go_sem] theorem aiN:bf Tryz.prog 108=some (true,7):=by kernel_rfl
@[go_sem] theorem agH:iZ Tryz.prog 108=some [(0,4),(4,1),(5,1),(6,1)]:=by kernel_rfl
@[go_sem] theorem agn:bp Tryz.prog 108=some (.agg #[(.slice none 0 0),(.slice none 0 0),(.slice none 0 0),(.slice none 0 0),(.int .i64 0),(.slice none 0 0),(.slice none 0 0)]):=by kernel_rfl
@[go_sem] theorem ahJ:b9 Tryz.prog 108 0=some (0,4,true):=by kernel_rfl
@[go_sem] theorem ahI:b9 Tryz.prog 108 1=some (4,1,false):=by kernel_rfl
@[go_sem] theorem ahH:b9 Tryz.prog 108 2=some (5,1,false):=by kernel_rfl
@[go_sem] theorem ahG:b9 Tryz.prog 108 3=some (6,1,false):=by kernel_rfl
@[go_sem] theorem aiM:bf Tryz.prog 112=some (false,1):=by kernel_rfl
@[go_sem] theorem aiL:bf Tryz.prog 113=some (false,1):=by kernel_rfl
@[go_sem] theorem agm:bp Tryz.prog 113=some (.pointer none):=by kernel_rfl
@[go_sem] theorem aiK:bf Tryz.prog 115=some (false,1):=by kernel_rfl
@[go_sem] theorem agl:bp Tryz.prog 115=some (.pointer none):=by kernel_rfl
@[go_sem] theorem aiJ:bf Tryz.prog 117=some (false,1):=by kernel_rfl
@[go_sem] theorem aiI:bf Tryz.prog 119=some (false,1):=by kernel_rfl
@[go_sem] theorem aiH:bf Tryz.prog 120=some (false,1):=by kernel_rfl
@[go_sem] theorem agX:dM Tryz.prog 120=some 2:=by kernel_rfl
@[go_sem] theorem agL:kW Tryz.prog 120=some (2,3):=by kernel_rfl
@[go_sem] theorem agk:bp Tryz.prog 120=some (.map none):=by kernel_rfl
@[go_sem] theorem aiG:bf Tryz.prog 121=some (false,1):=by kernel_rfl
@[go_sem] theorem agW:dM Tryz.prog 121=some 2:=by kernel_rfl
@[go_sem] theorem agK:kW Tryz.prog 121=some (0,38):=by kernel_rfl
@[go_sem] theorem agj:bp Tryz.prog 121=some (.map none):=by kernel_rfl
@[go_sem] theorem aiF:bf Tryz.prog 123=some (true,5):=by kernel_rfl
@[go_sem] theorem agG:iZ Tryz.prog 123=some [(0,1),(1,1),(2,1),(3,1),(4,1)]:=by kernel_rfl
@[go_sem] theorem agi:bp Tryz.prog 123=some (.agg #[(.pointer none),(.slice none 0 0),(.slice none 0 0),(.map none),(.map none)]):=by kernel_rfl
@[go_sem] theorem ahF:b9 Tryz.prog 123 0=some (0,1,false):=by kernel_rfl
@[go_sem] theorem ahE:b9 Tryz.prog 123 1=some (1,1,false):=by kernel_rfl
@[go_sem] theorem ahD:b9 Tryz.prog 123 2=some (2,1,false):=by kernel_rfl
@[go_sem] theorem ahC:b9 Tryz.prog 123 3=some (3,1,false):=by kernel_rfl
@[go_sem] theorem ahB:b9 Tryz.prog 123 4=some (4,1,false):=by kernel_rfl
@[go_sem] theorem aiE:bf Tryz.prog 125=some (true,2):=by kernel_rfl
@[go_sem] theorem agF:iZ Tryz.prog 125=some [(0,1),(1,1)]:=by kernel_rfl
@[go_sem] theorem agh:bp Tryz.prog 125=some (.agg #[(.int .i64 0),(.int .i64 0)]):=by kernel_rfl
@[go_sem] theorem ahA:b9 Tryz.prog 125 0=some (0,1,false):=by kernel_rfl
@[go_sem] theorem ahz:b9 Tryz.prog 125 1=some (1,1,false):=by kernel_rfl
@[go_sem] theorem aiD:bf Tryz.prog 131=some (true,7):=by kernel_rfl
@[go_sem] theorem ags:ku Tryz.prog 131=some (7,1,false):=by kernel_rfl
@[go_sem] theorem agE:iZ Tryz.prog 131=some [(0,1),(1,1),(2,1),(3,1),(4,1),(5,1),(6,1)]:=by kernel_rfl
@[go_sem] theorem agf:bp Tryz.prog 131=some (.agg #[(.int .i64 0),(.int .i64 0),(.int .i64 0),(.int .i64 0),(.int .i64 0),(.int .i64 0),(.int .i64 0)]):=by kernel_rfl
@[go_sem] theorem aiC:bf Tryz.prog 135=some (false,1):=by kernel_rfl
@[go_sem] theorem age:bp Tryz.prog 135=some .nilFunc:=by kernel_rfl
@[go_sem] theorem aiB:bf Tryz.prog 137=some (false,1):=by kernel_rfl
@[go_sem] theorem agd:bp Tryz.prog 137=some .nilFunc:=by kernel_rfl
@[go_sem] theorem aiA:bf Tryz.prog 139=some (false,1):=by kernel_rfl
@[go_sem] theorem agc:bp Tryz.prog 139=some .nilFunc:=by kernel_rfl
@[go_sem] theorem aiz:bf Tryz.prog 153=some (false,1):=by kernel_rfl
@[go_sem] theorem agb:bp Tryz.prog 153=some .nilFunc:=by kernel_rfl
@[go_sem] theorem aiy:bf Tryz.prog 155=some (false,1):=by kernel_rfl
@[go_sem] theorem aga:bp Tryz.prog 155=some .nilFunc:=by kernel_rfl
@[go_sem] theorem aix:bf Tryz.prog 157=some (false,1):=by kernel_rfl
@[go_sem] theorem af':bp Tryz.prog 157=some .nilFunc:=by kernel_rfl
@[go_sem] theorem aiw:bf Tryz.prog 159=some (false,1):=by kernel_rfl
@[go_sem] theorem af9:bp Tryz.prog 159=some .nilFunc:=by kernel_rfl
@[go_sem] theorem aiv:bf Tryz.prog 160=some (false,1):=by kernel_rfl
@[go_sem] theorem agV:dM Tryz.prog 160=some 2:=by kernel_rfl
@[go_sem] theorem agJ:kW Tryz.prog 160=some (0,4):=by kernel_rfl
@[go_sem] theorem af8:bp Tryz.prog 160=some (.map none):=by kernel_rfl
@[go_sem] theorem aiu:bf Tryz.prog 161=some (false,1):=by kernel_rfl
@[go_sem] theorem af7:bp Tryz.prog 161=some .nilFunc:=by kernel_rfl
@[go_sem] theorem ait:bf Tryz.prog 164=some (false,1):=by kernel_rfl
@[go_sem] theorem air:bf Tryz.prog 180=some (false,1):=by kernel_rfl
@[go_sem] theorem af5:bp Tryz.prog 180=some .nilFunc:=by kernel_rfl
@[go_sem] theorem aiq:bf Tryz.prog 186=some (false,1):=by kernel_rfl
@[go_sem] theorem af4:bp Tryz.prog 186=some .nilFunc:=by kernel_rfl
@[go_sem] theorem aip:bf Tryz.prog 188=some (false,1):=by kernel_rfl
@[go_sem] theorem af3:bp Tryz.prog 188=some .nilFunc:=by kernel_rfl
@[go_sem] theorem aio:bf Tryz.prog 191=some (false,1):=by kernel_rfl
@[go_sem] theorem af2:bp Tryz.prog 191=some .nilFunc:=by kernel_rfl
@[go_sem] theorem ain:bf Tryz.prog 205=some (false,1):=by kernel_rfl
@[go_sem] theorem aim:bf Tryz.prog 208=some (false,1):=by kernel_rfl
@[go_sem] theorem ag0:n9 Tryz.prog 208=some .u64:=by kernel_rfl
@[go_sem] theorem af1:bp Tryz.prog 208=some (.int .u64 0):=by kernel_rfl
theorem fE:Tryz.prog.follows .mixedOrders=true:=by kernel_rfl
structure Pap where
 (id lv:Int)
 deriving Inhabited,DecidableEq
structure Rec where
 (so bo pa:Int)
 lv:List Int
 (da kn un:Int)
 deriving Inhabited,DecidableEq
structure Ret where
 (so re pe:Int)
 lv:List Int
 (lo hi kn un:Int)
 deriving Inhabited,DecidableEq
structure Sig where
 (so pe pa le da kn un:Int)
 deriving Inhabited,DecidableEq
structure Led where
 ps:List Pap
 rs:List Rec
 ts:List Ret
 ss:List Sig
 deriving Inhabited,DecidableEq
def kQ:V->Int
 | .int _ n=>n
 |_=>0
def Cz:V->Bool
 | .bool b=>b
 |_=>false
def Q2:V->List Int
 | .sl l=>l.map kQ
 |_=>[]
def cW(p:Pap):V:=.agg [vInt p.id,vInt p.lv]
def sm:V->Pap
 | .agg [.int _ a,.int _ b]=>⟨a,b⟩
 |_=>default
def encR(r:Rec):V:=.agg [vInt r.so,vInt r.bo,vInt r.pa,.sl (r.lv.map vInt),vInt r.da,vInt r.kn,vInt r.un]
def lJ:V->Rec
 | .agg [.int _ a,.int _ b,.int _ c,.sl l,.int _ d,.int _ e,.int _ f]=>⟨a,b,c,l.map kQ,d,e,f⟩
 |_=>default
def encT(r:Ret):V:=.agg [vInt r.so,vInt r.re,vInt r.pe,.sl (r.lv.map vInt),vInt r.lo,vInt r.hi,vInt r.kn,vInt r.un]
def nB:V->Ret
 | .agg [.int _ a,.int _ b,.int _ c,.sl l,.int _ d,.int _ g,.int _ e,.int _ f]=>⟨a,b,c,l.map kQ,d,g,e,f⟩
 |_=>default
def encS(s:Sig):V:=.agg [vInt s.so,vInt s.pe,vInt s.pa,vInt s.le,vInt s.da,vInt s.kn,vInt s.un]
def kf:V->Sig
 | .agg [.int _ a,.int _ b,.int _ c,.int _ d,.int _ e,.int _ f,.int _ g]=>⟨a,b,c,d,e,f,g⟩
 |_=>default
def fw(l:Led):V:=.agg [.sl (l.ps.map cW),.sl (l.rs.map encR),.sl (l.ts.map encT),.sl (l.ss.map encS)]
def Q0:V->Led
 | .agg [.sl a,.sl b,.sl c,.sl d]=>⟨a.map sm,b.map lJ,c.map nB,d.map kf⟩
 |_=>default
def jE(l:Led):V:=.ptr [.sl (l.ps.map cW),.sl (l.rs.map encR),.sl (l.ts.map encT),.sl (l.ss.map encS)]
def Cx:V->Led
 | .ptr [.sl a,.sl b,.sl c,.sl d]=>⟨a.map sm,b.map lJ,c.map nB,d.map kf⟩
 |_=>default
@[go_sem] theorem sp(l:List Int):(l.map vInt).map kQ=l:=by rw[List.map_map];exact List.map_id _
@[go_sem] theorem ajh(l:List Bool):(l.map V.bool).map Cz=l:=by rw[List.map_map];exact List.map_id _
theorem acE(p:Pap):sm (cW p)=p:=rfl
theorem acz(r:Rec):lJ (encR r)=r:=by
 cases r;simp only[encR,lJ,sp]
theorem acu(r:Ret):nB (encT r)=r:=by
 cases r;simp only[encT,nB,sp]
theorem acw(r:Sig):kf (encS r)=r:=rfl
theorem te{α:Type}{e:α->V}{d:V->α}(h:∀ a,d (e a)=a)(l:List α):(l.map e).map d=l:=by
 rw[List.map_map]
 have :d∘e=id:=funext h
 rw[this,List.map_id]
@[go_sem] theorem QX(l:List Pap):(l.map cW).map sm=l:=te acE l
@[go_sem] theorem Cv(l:List Rec):(l.map encR).map lJ=l:=te acz l
@[go_sem] theorem QV(l:List Ret):(l.map encT).map nB=l:=te acu l
@[go_sem] theorem wV(l:List Sig):(l.map encS).map kf=l:=te acw l
@[go_sem] theorem ajb(p:Pap):(⟨p.id,p.lv⟩:Pap)=p:=rfl
@[go_sem] theorem aja(r:Rec):(⟨r.so,r.bo,r.pa,r.lv,r.da,r.kn,r.un⟩:Rec)=r:=rfl
@[go_sem] theorem ai6(r:Ret):(⟨r.so,r.re,r.pe,r.lv,r.lo,r.hi,r.kn,r.un⟩:Ret)=r:=rfl
@[go_sem] theorem ai7(r:Sig):(⟨r.so,r.pe,r.pa,r.le,r.da,r.kn,r.un⟩:Sig)=r:=rfl
@[go_sem] theorem aje(l:Led):(⟨l.ps,l.rs,l.ts,l.ss⟩:Led)=l:=rfl
def iI:En Int:=⟨vInt,kQ⟩
def iB:En Bool:=⟨.bool,Cz⟩
def fc:En (List Int):=⟨fun l=>.sl (l.map vInt),Q2⟩
def iP:En Pap:=⟨cW,sm⟩
def iR:En Rec:=⟨encR,lJ⟩
def iT:En Ret:=⟨encT,nB⟩
def iS:En Sig:=⟨encS,kf⟩
def iL:En Led:=⟨fw,Q0⟩
def m7:En Led:=⟨jE,Cx⟩
attribute [go_sem] iI iB fc iP iR iT iS iL m7 kQ Cz Q2 cW sm encR lJ encT nB encS kf fw Q0 jE Cx
def bL(n lo hi:Int):Bool:=decide (lo<=n)&&decide (n<=hi)
def dayB(n:Int):Bool:=bL n 0 100000
noncomputable section
@[go_sem] def P96:PSpec:=p3 iI iI iI (fun _ _ _=>True) (fun n lo hi=>.bool (bL n lo hi)) true
@[go_sem] def uZ:Spec:=P96.toSpec
theorem xG:aZ Tryz.prog 96 P96:=by
 refine lR (rs:=[.tmp 6]) Tryz.func96 Tryz.ntmps96 fun n lo hi hp hw=>?_
 simp only[iI]at hw |-
 have hΓ:=@fD Tryz.prog
 repeat refine sq ?_
 refine rs hΓ [0,1,2] [] ?_
 repeat refine sq ?_
 refine rs hΓ [6] [] ?_
 refine aB ?_
 simp only[go_sem]
 all_goals exact el
@[go_sem] def P189:PSpec:=p1 iI (fun _=>True) (fun _=>.bool false) true
@[go_sem] def ad':Spec:=P189.toSpec
theorem U6:aZ Tryz.prog 189 P189:=by
 refine gJ (rs:=[.tmp 2]) Tryz.func189 Tryz.ntmps189 fun n hp hw=>?_
 simp only[iI]at hw |-
 have hΓ:=@fD Tryz.prog
 repeat refine sq ?_
 refine rs hΓ [0] [] ?_
 repeat refine sq ?_
 refine rs hΓ [2] [] ?_
 refine aB ?_
 simp only[go_sem]
 all_goals exact el
def K1:List (Nat×Spec):=[(96,uZ),(189,ad')]
theorem xk:KS K1:=tc xG.sound<|tc U6.sound<|tn
attribute [go_sem] K1
@[go_sem] def P144:PSpec:=p1 iI (fun _=>True) (fun n=>.bool (bL n 1 999)) true
@[go_sem] def SY:Spec:=P144.toSpec
theorem Ka:aZ Tryz.prog 144 P144:=by
 refine gJ (rs:=[.tmp 2]) Tryz.func144 Tryz.ntmps144 fun n hp hw=>?_
 simp only[iI]at hw |-
 have hΓ:=xk
 repeat refine sq ?_
 refine rs hΓ [0] [] ?_
 repeat refine sq ?_
 refine rs hΓ [2] [] ?_
 refine aB ?_
 simp only[go_sem]
 all_goals exact el
@[go_sem] def P145:PSpec:=p1 iI (fun _=>True) (fun n=>.bool (bL n 1 30)) true
@[go_sem] def IP:Spec:=P145.toSpec
theorem D2:aZ Tryz.prog 145 P145:=by
 refine gJ (rs:=[.tmp 2]) Tryz.func145 Tryz.ntmps145 fun n hp hw=>?_
 simp only[iI]at hw |-
 have hΓ:=xk
 repeat refine sq ?_
 refine rs hΓ [0] [] ?_
 repeat refine sq ?_
 refine rs hΓ [2] [] ?_
 refine aB ?_
 simp only[go_sem]
 all_goals exact el
@[go_sem] def P147:PSpec:=p1 iI (fun _=>True) (fun n=>.bool (bL n 1 99999)) true
@[go_sem] def SX:Spec:=P147.toSpec
theorem J':aZ Tryz.prog 147 P147:=by
 refine gJ (rs:=[.tmp 2]) Tryz.func147 Tryz.ntmps147 fun n hp hw=>?_
 simp only[iI]at hw |-
 have hΓ:=xk
 repeat refine sq ?_
 refine rs hΓ [0] [] ?_
 repeat refine sq ?_
 refine rs hΓ [2] [] ?_
 refine aB ?_
 simp only[go_sem]
 all_goals exact el
@[go_sem] def P148:PSpec:=p1 iI (fun _=>True) (fun n=>.bool (bL n 1 99)) true
@[go_sem] def SW:Spec:=P148.toSpec
theorem J9:aZ Tryz.prog 148 P148:=by
 refine gJ (rs:=[.tmp 2]) Tryz.func148 Tryz.ntmps148 fun n hp hw=>?_
 simp only[iI]at hw |-
 have hΓ:=xk
 repeat refine sq ?_
 refine rs hΓ [0] [] ?_
 repeat refine sq ?_
 refine rs hΓ [2] [] ?_
 refine aB ?_
 simp only[go_sem]
 all_goals exact el
@[go_sem] def P150:PSpec:=p1 iI (fun _=>True) (fun n=>.bool (dayB n)) true
@[go_sem] def IN:Spec:=P150.toSpec
theorem D1:aZ Tryz.prog 150 P150:=by
 refine gJ (rs:=[.tmp 2]) Tryz.func150 Tryz.ntmps150 fun n hp hw=>?_
 simp only[iI]at hw |-
 have hΓ:=xk
 repeat refine sq ?_
 refine rs hΓ [0] [] ?_
 repeat refine sq ?_
 refine rs hΓ [2] [] ?_
 refine aB ?_
 simp only[go_sem]
 all_goals exact el
def mB(a b:Int):Int:=if a<b then -1 else if b<a then 1 else 0
@[go_sem] def P140:PSpec:=p2 iI iI (fun _ _=>True) (fun a b=>vInt (mB a b)) true
@[go_sem] def ael:Spec:=P140.toSpec
theorem Vv:aZ Tryz.prog 140 P140:=by
 refine dG (rs:=[.tmp 4]) Tryz.func140 Tryz.ntmps140 fun a b hp hw=>?_
 simp only[iI]at hw |-
 have hΓ:=xk
 repeat refine sq ?_
 refine rs hΓ [0,1] [] ?_
 repeat refine sq ?_
 refine rs hΓ [0,1,5] [] ?_
 repeat refine sq ?_
 refine rs hΓ [0,1,5,6] [] ?_
 repeat refine sq ?_
 refine rs hΓ [0,1,6,11] [] ?_
 repeat refine fj ?_
 refine aC (fun hb=>?_) fun hb=>?_
 ·repeat refine fj ?_
  repeat refine sq ?_
  refine rs hΓ [12] [] ?_
  repeat refine fj ?_
  refine aC (fun hb=>?_) fun hb=>?_
  ·repeat refine fj ?_
   repeat refine sq ?_
   refine rs hΓ [4] [] ?_
   refine aB ?_
   simp only[go_sem]
   all_goals first | rfl | (simp;done) | (grind [mB];done)
  ·repeat refine fj ?_
   refine aF ?_
   repeat refine sq ?_
   refine rs hΓ [4] [] ?_
   refine aB ?_
   simp only[go_sem]
   all_goals first | rfl | (simp;done) | (grind [mB];done)
 ·repeat refine fj ?_
  refine aF ?_
  repeat refine sq ?_
  refine rs hΓ [0,1,13] [] ?_
  repeat refine fj ?_
  refine aC (fun hb=>?_) fun hb=>?_
  ·repeat refine fj ?_
   repeat refine sq ?_
   refine rs hΓ [4] [] ?_
   refine aB ?_
   simp only[go_sem]
   all_goals first | rfl | (simp;done) | (grind [mB];done)
  ·repeat refine fj ?_
   refine aF ?_
   repeat refine sq ?_
   refine rs hΓ [0,1,16] [] ?_
   repeat refine fj ?_
   refine aC (fun hb=>?_) fun hb=>?_
   ·repeat refine fj ?_
    repeat refine sq ?_
    refine rs hΓ [4] [] ?_
    refine aB ?_
    simp only[go_sem]
    all_goals first | rfl | (simp;done) | (grind [mB];done)
   ·repeat refine fj ?_
    refine aF ?_
    repeat refine sq ?_
    refine rs hΓ [19] [] ?_
    repeat refine fj ?_
    refine aC (fun hb=>?_) fun hb=>?_
    ·repeat refine fj ?_
     repeat refine sq ?_
     refine rs hΓ [4] [] ?_
     refine aB ?_
     simp only[go_sem]
     all_goals first | rfl | (simp;done) | (grind [mB];done)
    ·repeat refine fj ?_
     refine aF ?_
     repeat refine sq ?_
     refine rs hΓ [4] [] ?_
     refine aB ?_
     simp only[go_sem]
     all_goals first | rfl | (simp;done) | (grind [mB];done)
def bF(since Js known:Int):Bool:=decide (since<=known)&&(Js==0||decide (known<Js))
@[go_sem] def P157:PSpec:=p3 iI iI iI (fun _ _ _=>True) (fun a b c=>.bool (bF a b c)) true
@[go_sem] def Dm:Spec:=P157.toSpec
theorem DZ:aZ Tryz.prog 157 P157:=by
 refine lR (rs:=[.tmp 6]) Tryz.func157 Tryz.ntmps157 fun a b c hp hw=>?_
 simp only[iI]at hw |-
 have hΓ:=@fD Tryz.prog
 repeat refine sq ?_
 refine rs hΓ [0,1,2] [] ?_
 repeat refine sq ?_
 refine rs hΓ [6] [] ?_
 refine aB ?_
 simp only[go_sem]
 all_goals first | rfl | (simp;done) | (grind [bF];done)
@[go_sem] def P162:PSpec:=p3 iI iI iI (fun _ _ _=>True) (fun a b c=>.bool (bF a b c)) true
@[go_sem] def S162:Spec:=P162.toSpec
theorem Vn:aZ Tryz.prog 162 P162:=by
 refine lR (rs:=[.tmp 6]) Tryz.func162 Tryz.ntmps162 fun a b c hp hw=>?_
 simp only[iI]at hw |-
 have hΓ:=@fD Tryz.prog
 repeat refine sq ?_
 refine rs hΓ [0,1,2] [] ?_
 repeat refine sq ?_
 refine rs hΓ [6] [] ?_
 refine aB ?_
 simp only[go_sem]
 all_goals first | rfl | (simp;done) | (grind [bF];done)
theorem N6:aT Tryz.prog 162 S162:=Vn.sound
end
noncomputable section
def kV(k u:Int):Bool:=dayB k&&(u==0||(decide (k<u)&&decide (u<=100000)))
def K2:List (Nat×Spec):=[(96,uZ),(145,IP),(150,IN),(144,SY),(147,SX),(148,SW)]
theorem afg:KS K2:=tc xG.sound<|tc D2.sound<|tc D1.sound<|tc Ka.sound<|tc J'.sound<|tc J9.sound<|tn
attribute [go_sem] K2
theorem TP(k u:Int):(dayB k&&(u==0||bL u (IntKind.i64.wrap (k+1)) 100000))=kV k u:=by
 unfold kV
 cases h:dayB k with
 |false=>rfl
 |true=>
  unfold dayB bL at h
  simp only[Bool.and_eq_true,decide_eq_true_eq]at h
  rw[wrap_i64 (by omega) (by omega)]
  unfold bL
  simp only[Bool.true_and]
  congr 2
@[go_sem] def P151:PSpec:=p2 iI iI (fun _ _=>True) (fun a b=>.bool (kV a b)) true
@[go_sem] def aej:Spec:=P151.toSpec
theorem Vt:aZ Tryz.prog 151 P151:=by
 refine dG (rs:=[.tmp 4]) Tryz.func151 Tryz.ntmps151 fun k u hp hw=>?_
 simp only[iI]at hw |-
 have hΓ:=afg
 repeat refine sq ?_
 refine rs hΓ [0,1] [] ?_
 repeat refine sq ?_
 refine rs hΓ [4] [] ?_
 refine aB ?_
 simp only[go_sem]
 all_goals first | rfl | (simp;done) | (exact congrArg V.bool (TP _ _);done)
open Classical in
def sQ(l:List Int):Bool:=decide (∀ j (h:j<l.length),0<j->l[j-1] <l[j])
theorem AA{l:List Int}:sQ l=true↔∀ j (h:j<l.length),0<j->l[j-1] <l[j]:=by unfold sQ;exact decide_eq_true_iff
theorem VY{l:List Int}{j:Nat}(h:j<l.length)(h0:0<j)(hb:l[j-1]>=l[j]):sQ l=false:=by
 rw[Bool.eq_false_iff]
 intro k
 have :=AA.1 k j h h0
 omega
theorem Tj{i n:Nat}(h0:0<i)(h:i<=n)(hn:n<=maxLen):IntKind.i64.wrap ((i:Int)-1)=((i-1:Nat):Int):=DA (by omega) (Nat.le_trans h hn)
@[go_sem] def P130:PSpec:=p1 fc (fun _=>True) (fun l=>.bool (sQ l)) true
@[go_sem] def S0:Spec:=P130.toSpec
set_option maxHeartbeats 4000000 in
theorem Vz:aZ Tryz.prog 130 P130:=by
 refine gJ (rs:=[.tmp 2]) Tryz.func130 Tryz.ntmps130 fun l hp hw=>?_
 have hP:=fE
 simp only[fc]at hw |-
 have hΓ:=@fD Tryz.prog
 have hl:l.length<=maxLen:=by have:=hw.1.1;simpa using this
 repeat refine sq ?_
 refine rs hΓ [0] [] ?_
 repeat refine sq ?_
 refine rs hΓ [0,3] [] ?_
 repeat refine sq ?_
 refine aR ?_
 repeat refine sq ?_
 refine cp (fun i:Nat=>[(3,⟨true,.v (vInt i)⟩)]) (fun i=>[]) (fun i=>0<i/\∀ j (h:j<l.length),j<i->0<j->l[j-1] <l[j]) (fun i=>l.length-i) 1 ?_ ?_ ?_ ?_
 ·exact⟨Nat.one_pos,fun j h h1 h2=>by omega⟩
 ·rfl
 ·rfl
 rintro i ⟨h0,hz⟩
 simp only[go_sem]
 repeat refine sq ?_
 refine rs hΓ [0,3,7] [] ?_
 repeat refine sq ?_
 refine aC (fun hb=>?_) fun hb=>?_
 ·have ae:i<l.length:=by simpa using hb
  have aw:(i:Int)<l.length:=by omega
  have yt:=Tj h0 (Nat.le_of_lt ae) hl
  have F3:(0:Int)<=((i-1:Nat):Int):=by omega
  have rY:((i-1:Nat):Int)<l.length:=by omega
  have F2:i-1<l.length:=by omega
  repeat refine sq ?_
  refine aF ?_
  repeat refine sq ?_
  refine aR ?_
  repeat refine sq ?_
  refine dx hΓ hP [[],[],[1],[0,1,2],u4,[],[],[5,6],[5,6,7],u9] [0,3,19] [] (by kernel_rfl) (fun K' hK=>by simp only[go_sem,yt,ai ae,ai F2,ak,an,aw,rY];exact fd) ?_
  repeat refine sq ?_
  refine aC (fun hb=>?_) fun hb=>?_
  ·repeat refine sq ?_
   refine rs hΓ [2] [] ?_
   refine aB ?_
   simp only[go_sem]
   rw[VY ae h0 (by simpa using hb)]
  ·replace hb:l[i-1] <l[i]:=by simpa using hb
   repeat refine sq ?_
   refine aF ?_
   refine bW ?_
   simp only[go_sem]
   refine kp [0,3] [] ?_
   repeat refine sq ?_
   refine aW hΓ fun K' hK=>?_
   simp only[go_sem]
   repeat (refine⟨ob,?_⟩)
   refine hK _ ?_
   clear K' hK
   simp only[go_sem]
   refine⟨i+1,⟨by omega,fun j h h1 h2=>?_⟩,by omega,?_⟩
   ·rcases Nat.lt_succ_iff_lt_or_eq.1 h1 with h3 | rfl
    ·exact hz j h h3 h2
    ·exact hb
   refine bh [0,3] [] ?_ ?_<;>simp only[go_sem,bc ae hl,be]
 ·have bE:l.length<=i:=by
    have :¬ (i:Int)<l.length:=by simpa using hb
    omega
  repeat refine sq ?_
  refine bN ?_
  simp only[go_sem]
  refine kp [] [] ?_
  repeat refine sq ?_
  refine rs hΓ [2] [] ?_
  refine aB ?_
  simp only[go_sem]
  rw[AA.2 fun j h h0=>hz j h (by omega) h0]
end
noncomputable section
def K3:List (Nat×Spec):=[(130,S0),(145,IP),(96,uZ)]
theorem ae0:KS K3:=tc Vz.sound<|tc D2.sound<|tc xG.sound<|tn
attribute [go_sem] K3
def lg(l:List Int):Bool:=decide (0<l.length)&&sQ l&&bL (l.getD 0 0) 1 30&&bL (l.getD (l.length-1) 0) 1 30
@[go_sem] def P149:PSpec:=p1 fc (fun _=>True) (fun l=>.bool (lg l)) true
@[go_sem] def aek:Spec:=P149.toSpec
set_option maxHeartbeats 4000000 in
theorem Vu:aZ Tryz.prog 149 P149:=by
 refine gJ (rs:=[.tmp 2]) Tryz.func149 Tryz.ntmps149 fun l hp hw=>?_
 simp only[fc]at hw |-
 have hΓ:=ae0
 have hl:l.length<=maxLen:=by have:=hw.1.1;simpa using this
 by_cases h0:l.length=0
 ·have e0:l=[]:=List.length_eq_zero_iff.1 h0
  subst e0
  repeat refine sq ?_
  refine rs hΓ [0] [] ?_
  repeat refine sq ?_
  refine rs hΓ [2] [] ?_
  refine aB ?_
  simp only[go_sem]
  rfl
 ·have hq:0<l.length:=by omega
  have bI:(0:Int)<l.length:=by omega
  have nh:=DA h0 hl
  have BC:((l.length-1:Nat):Int)<l.length:=by omega
  have mh:l.length-1<l.length:=by omega
  have hp3:(0:Int)<=((l.length-1:Nat):Int):=by omega
  have hg0:(l.map vInt).getD 0 default=vInt (l.getD 0 0):=by rw[ai hq,cj hq]
  have eJ:(l.map vInt).getD (l.length-1) default=vInt (l.getD (l.length-1) 0):=by rw[ai mh,cj mh]
  have hd:decide ((l.length:Int)>0)=true:=by simpa using hq
  repeat refine sq ?_
  refine rs hΓ [0] [] ?_
  repeat refine sq ?_
  refine rx hΓ [2] [] (fun K' hK=>by simp only[go_sem,nh,hg0,eJ,ak,Int.toNat_zero,an,bI,BC,hd,decide_true];exact fn) ?_
  refine aB ?_
  simp only[go_sem]
  have F2:decide (0<l.length)=true:=by simpa using hq
  simp only[lg,F2,Bool.true_and,Bool.decide_and,Bool.decide_eq_true]
theorem AM{i n:Nat}(h:i<n)(hn:n<=maxLen):∃ p:Nat,(IntKind.i64.wrap ((i:Int)-1)).toNat=p/\p<n/\(0<i->p=i-1/\0<=IntKind.i64.wrap ((i:Int)-1)/\IntKind.i64.wrap ((i:Int)-1)<n):=by
 unfold maxLen at hn
 rcases Nat.eq_zero_or_pos i with rfl | hp
 ·exact⟨0,by decide,h,fun h=>by omega⟩
 ·have:IntKind.i64.wrap ((i:Int)-1)=((i-1:Nat):Int):=by rw[wrap_i64 (by omega) (by omega)];omega
  exact⟨i-1,by rw[this];rfl,by omega,fun _=>⟨rfl,by omega,by omega⟩⟩
theorem Eb{l:List Int}(hr:sQ l=true):∀ (k j:Nat) (h:j+k<l.length),l[j]+k<=l[j+k]
 | 0,j,h=>by simp
 |k+1,j,h=>by
  have h1:=Eb hr k j (by omega)
  have h2:=AA.1 hr (j+k+1) (by omega) (by omega)
  have e:j+k+1-1=j+k:=by omega
  simp only[e]at h2
  show l[j]+((k+1:Nat):Int)<=l[j+k+1]
  omega
theorem pt{l:List Int}:lg l=true↔0<l.length/\l.length<=30/\sQ l=true/\∀ j (h:j<l.length),bL l[j] 1 30=true:=by
 unfold lg
 simp only[Bool.and_eq_true,decide_eq_true_eq]
 constructor
 ·rintro⟨⟨⟨h1,h2⟩,h3⟩,h4⟩
  have mh:l.length-1<l.length:=by omega
  rw[cj h1]at h3
  rw[cj mh]at h4
  unfold bL at h3 h4 |-
  simp only[Bool.and_eq_true,decide_eq_true_eq]at h3 h4 |-
  have eg:∀ j (h:j<l.length),l[0]+j<=l[j]:=fun j h=>by
   have :=Eb h2 j 0 (by omega)
   simpa using this
  have fP:∀ j (h:j<l.length),l[j]<=l[l.length-1]:=fun j h=>by
   have :=Eb h2 (l.length-1-j) j (by omega)
   have e:j+(l.length-1-j)=l.length-1:=by omega
   simp only[e]at this
   omega
  refine⟨h1,?_,h2,fun j h=>?_⟩
  ·have:=eg _ mh;omega
  ·have a:=eg j h;have b:=fP j h;omega
 ·rintro⟨h1,h2,h3,h4⟩
  have mh:l.length-1<l.length:=by omega
  refine⟨⟨⟨h1,h3⟩,?_⟩,?_⟩
  ·rw[cj h1];exact h4 0 h1
  ·rw[cj mh];exact h4 _ mh
theorem w9{b:Bool}{p:Prop}(h:b=true↔p)(hn:¬ p):b=false:=by
 cases b with
 |false=>rfl
 |true=>exact(hn (h.1 rfl)).elim
end
set_option maxHeartbeats 8000000
noncomputable section
def K4:List (Nat×Spec):=[(96,uZ),(144,SY),(145,IP),(147,SX),(148,SW),(149,aek),(150,IN),(151,aej)]
theorem Dv:KS K4:=tc xG.sound<|tc Ka.sound<|tc D2.sound<|tc J'.sound<|tc J9.sound<|tc Vu.sound<|tc D1.sound<|tc Vt.sound<|tn
attribute [go_sem] K4
def gY(b:Bool)(n:Int):Int:=if b then 0 else n
theorem wO(b:Bool)(n:Int)(hn:n≠0):(gY b n != 0)=!b:=by cases b<;>simp[gY,hn]
def pj(p:Pap):Bool:=bL p.id 1 999&&bL p.lv 1 30
def dP(r:Rec):Bool:=bL r.so 1 99999&&bL r.bo 1 99&&bL r.pa 1 999&&lg r.lv&&dayB r.da&&kV r.kn r.un
def jQ(r:Ret):Bool:=bL r.so 1 99999&&bL r.re 1 99999&&bL r.pe 1 99&&lg r.lv&&bL r.lo 0 r.hi&&dayB r.hi&&kV r.kn r.un
def iE(s:Sig):Bool:=bL s.so 1 99999&&bL s.pe 0 99&&bL s.pa 1 999&&bL s.le 1 30&&dayB s.da&&kV s.kn s.un
@[go_sem] def P61:PSpec:=p1 iP (fun _=>True) (fun x=>vInt (gY (pj x) 20)) true
@[go_sem] def S61:Spec:=P61.toSpec
theorem UX:aZ Tryz.prog 61 P61:=by
 refine gJ (rs:=[.tmp 2]) Tryz.func61 Tryz.ntmps61 fun x hp hw=>?_
 simp only[iP,cW]at hw |-
 have hΓ:=Dv
 repeat refine sq ?_
 refine rs hΓ [1] [[1,0]] ?_
 repeat refine sq ?_
 refine rs hΓ [12] [] ?_
 repeat refine fj ?_
 refine aC (fun hb=>?_) fun hb=>?_
 ·repeat refine fj ?_
  repeat refine sq ?_
  refine rs hΓ [2] [] ?_
  refine aB ?_
  simp only[go_sem]
  all_goals first | rfl | (simp;done) | (grind [pj,gY];done)
 ·repeat refine fj ?_
  refine aF ?_
  repeat refine sq ?_
  refine rs hΓ [2] [] ?_
  refine aB ?_
  simp only[go_sem]
  all_goals first | rfl | (simp;done) | (grind [pj,gY];done)
@[go_sem] def P63:PSpec:=p1 iR (fun _=>True) (fun x=>vInt (gY (dP x) 21)) true
@[go_sem] def S63:Spec:=P63.toSpec
theorem UW:aZ Tryz.prog 63 P63:=by
 refine gJ (rs:=[.tmp 2]) Tryz.func63 Tryz.ntmps63 fun x hp hw=>?_
 simp only[iR,encR]at hw |-
 have hΓ:=Dv
 repeat refine sq ?_
 refine rs hΓ [1] [[1,0]] ?_
 repeat refine sq ?_
 refine rs hΓ [38] [] ?_
 repeat refine fj ?_
 refine aC (fun hb=>?_) fun hb=>?_
 ·repeat refine fj ?_
  repeat refine sq ?_
  refine rs hΓ [2] [] ?_
  refine aB ?_
  simp only[go_sem]
  all_goals first | rfl | (simp;done) | (grind [dP,gY];done)
 ·repeat refine fj ?_
  refine aF ?_
  repeat refine sq ?_
  refine rs hΓ [2] [] ?_
  refine aB ?_
  simp only[go_sem]
  all_goals first | rfl | (simp;done) | (grind [dP,gY];done)
@[go_sem] def P65:PSpec:=p1 iT (fun _=>True) (fun x=>vInt (gY (jQ x) 22)) true
@[go_sem] def S65:Spec:=P65.toSpec
theorem UU:aZ Tryz.prog 65 P65:=by
 refine gJ (rs:=[.tmp 2]) Tryz.func65 Tryz.ntmps65 fun x hp hw=>?_
 simp only[iT,encT]at hw |-
 have hΓ:=Dv
 repeat refine sq ?_
 refine rs hΓ [1] [[1,0]] ?_
 repeat refine sq ?_
 refine rs hΓ [49] [] ?_
 repeat refine fj ?_
 refine aC (fun hb=>?_) fun hb=>?_
 ·repeat refine fj ?_
  repeat refine sq ?_
  refine rs hΓ [2] [] ?_
  refine aB ?_
  simp only[go_sem]
  all_goals first | rfl | (simp;done) | (grind [jQ,gY];done)
 ·repeat refine fj ?_
  refine aF ?_
  repeat refine sq ?_
  refine rs hΓ [2] [] ?_
  refine aB ?_
  simp only[go_sem]
  all_goals first | rfl | (simp;done) | (grind [jQ,gY];done)
@[go_sem] def P67:PSpec:=p1 iS (fun _=>True) (fun x=>vInt (gY (iE x) 23)) true
@[go_sem] def SK:Spec:=P67.toSpec
theorem J5:aZ Tryz.prog 67 P67:=by
 refine gJ (rs:=[.tmp 2]) Tryz.func67 Tryz.ntmps67 fun x hp hw=>?_
 simp only[iS,encS]at hw |-
 have hΓ:=Dv
 repeat refine sq ?_
 refine rs hΓ [1] [[1,0]] ?_
 repeat refine sq ?_
 refine rs hΓ [38] [] ?_
 repeat refine fj ?_
 refine aC (fun hb=>?_) fun hb=>?_
 ·repeat refine fj ?_
  repeat refine sq ?_
  refine rs hΓ [2] [] ?_
  refine aB ?_
  simp only[go_sem]
  all_goals first | rfl | (simp;done) | (grind [iE,gY];done)
 ·repeat refine fj ?_
  refine aF ?_
  repeat refine sq ?_
  refine rs hΓ [2] [] ?_
  refine aB ?_
  simp only[go_sem]
  all_goals first | rfl | (simp;done) | (grind [iE,gY];done)
@[go_sem] def P110:PSpec:=p1 iP (fun _=>True) (fun x=>vInt x.id) true
@[go_sem] def aev:Spec:=P110.toSpec
theorem VH:aZ Tryz.prog 110 P110:=by
 refine gJ (rs:=[.tmp 2]) Tryz.func110 Tryz.ntmps110 fun x hp hw=>?_
 simp only[iP,cW]at hw |-
 have hΓ:=@fD Tryz.prog
 repeat refine sq ?_
 refine rs hΓ [1] [[1,0]] ?_
 repeat refine sq ?_
 refine rs hΓ [2] [] ?_
 refine aB ?_
 simp only[go_sem]
 all_goals exact el
@[go_sem] def P112:PSpec:=p1 iR (fun _=>True) (fun x=>vInt x.so) true
@[go_sem] def aet:Spec:=P112.toSpec
theorem VF:aZ Tryz.prog 112 P112:=by
 refine gJ (rs:=[.tmp 2]) Tryz.func112 Tryz.ntmps112 fun x hp hw=>?_
 simp only[iR,encR]at hw |-
 have hΓ:=@fD Tryz.prog
 repeat refine sq ?_
 refine rs hΓ [1] [[1,0]] ?_
 repeat refine sq ?_
 refine rs hΓ [2] [] ?_
 refine aB ?_
 simp only[go_sem]
 all_goals exact el
@[go_sem] def P114:PSpec:=p1 iT (fun _=>True) (fun x=>vInt x.so) true
@[go_sem] def aer:Spec:=P114.toSpec
theorem VD:aZ Tryz.prog 114 P114:=by
 refine gJ (rs:=[.tmp 2]) Tryz.func114 Tryz.ntmps114 fun x hp hw=>?_
 simp only[iT,encT]at hw |-
 have hΓ:=@fD Tryz.prog
 repeat refine sq ?_
 refine rs hΓ [1] [[1,0]] ?_
 repeat refine sq ?_
 refine rs hΓ [2] [] ?_
 refine aB ?_
 simp only[go_sem]
 all_goals exact el
@[go_sem] def P116:PSpec:=p1 iS (fun _=>True) (fun x=>vInt x.so) true
@[go_sem] def aep:Spec:=P116.toSpec
theorem VB:aZ Tryz.prog 116 P116:=by
 refine gJ (rs:=[.tmp 2]) Tryz.func116 Tryz.ntmps116 fun x hp hw=>?_
 simp only[iS,encS]at hw |-
 have hΓ:=@fD Tryz.prog
 repeat refine sq ?_
 refine rs hΓ [1] [[1,0]] ?_
 repeat refine sq ?_
 refine rs hΓ [2] [] ?_
 refine aB ?_
 simp only[go_sem]
 all_goals exact el
end
set_option maxHeartbeats 8000000
noncomputable section
def K5:List (Nat×Spec):=[(61,S61),(63,S63),(65,S65),(67,SK),(110,aev),(112,aet),(114,aer),(116,aep)]
theorem Du:KS K5:=tc UX.sound<|tc UW.sound<|tc UU.sound<|tc J5.sound<|tc VH.sound<|tc VF.sound<|tc VD.sound<|tc VB.sound<|tn
attribute [go_sem] K5
def po{α:Type}(fR:α->Bool)(num:α->Int)(l:List α)(n:Nat):Prop:=∀ j (h:j<l.length),j<n->fR l[j]=true/\(0<j->num l[j-1] <num l[j])
open Classical in
def jI{α:Type}(fR:α->Bool)(num:α->Int)(l:List α):Bool:=decide (po fR num l l.length)
theorem jH{α:Type}{fR:α->Bool}{num:α->Int}{l:List α}:jI fR num l=true↔po fR num l l.length:=by unfold jI;exact @decide_eq_true_iff _ (Classical.propDecidable _)
theorem AU{α:Type}{fR:α->Bool}{num:α->Int}{l:List α}:po fR num l 0:=fun j _ h=>by omega
theorem AV{α:Type}{fR:α->Bool}{num:α->Int}{l:List α}{i:Nat}(h:po fR num l i)(hi:i<l.length)(hc:fR l[i]=true/\(0<i->num l[i-1] <num l[i])):po fR num l (i+1):=by
 intro j hj ff
 rcases Nat.lt_succ_iff_lt_or_eq.1 ff with h1 | rfl
 ·exact h j hj h1
 ·exact hc
@[go_sem] def P109:PSpec:=p4 (dX iP) iI (iF 61) (iF 110) (fun _ _ _ _=>True) (fun l m _ _=>.bool (jI pj Pap.id l&&decide ((l.length:Int)<=m))) true
@[go_sem] def aew:Spec:=P109.toSpec
theorem VI:aZ Tryz.prog 109 P109:=by
 refine ra (rs:=[.tmp 8]) Tryz.func109 Tryz.ntmps109 fun l m _ _ hp hw=>?_
 have hP:=fE
 simp only[iF,iI,iP,dX,iC,cW]at hw |-
 have hΓ:=Du
 have hl:l.length<=maxLen:=by have:=hw.1.1;simpa using this
 repeat refine sq ?_
 refine rs hΓ [0,1,2,3] [] ?_
 repeat refine sq ?_
 refine rs hΓ [0,1,2,3,11,12,13] [] ?_
 repeat refine sq ?_
 refine aR ?_
 repeat refine sq ?_
 refine cp (fun s:Nat=>[(13,⟨true,.v (vInt s)⟩)]) (fun s=>[]) (fun s=>s<=l.length/\po pj Pap.id l s) (fun s=>l.length-s) 0 ?_ ?_ ?_ ?_
 ·exact⟨Nat.zero_le _,AU⟩
 ·rfl
 ·rfl
 rintro i ⟨hi,hR⟩
 simp only[go_sem]
 repeat refine sq ?_
 refine rs hΓ [0,1,2,3,11,12,13,14] [] ?_
 repeat refine sq ?_
 refine aC (fun hb=>?_) fun hb=>?_
 ·have ae:i<l.length:=by simpa using hb
  have aw:(i:Int)<l.length:=by omega
  clear hb
  obtain⟨p,hp,mg,cQ⟩:=AM ae hl
  repeat refine sq ?_
  refine aF ?_
  repeat refine sq ?_
  refine aR ?_
  repeat refine sq ?_
  refine rx hΓ [0,1,2,3,9,10,11,12,13] [[10,0]] (fun K' hK=>by simp only[go_sem,ai ae,ak,an,aw];exact fn) ?_
  repeat refine sq ?_
  refine dx hΓ hP [[],[],[0,1],[0,1,2],u4,u5,u6,u7,u8,u8,u8,[0,1,2,3,4,5,6,7,10],[0,1,2,3,4,5,6,7,9,10,11],[0,1,2,3,4,5,6,7,9,10,11,12],jk,u8,u8,nZ,jj,nY,pV] [0,1,2,3,11,12,13,38] [] (by kernel_rfl) (fun K' hK=>by simp only[go_sem,ai ae,ak,an,aw,hp,ai mg,fun b=>wO b 20 (by decide)];(repeat (refine⟨by first | exact ob | (intro h;have:=cQ (by simp_all);simp_all;done),?_⟩));exact fJ) ?_
  repeat refine sq ?_
  refine aC (fun hb=>?_) fun hb=>?_
  ·repeat refine sq ?_
   have iO:jI pj Pap.id l=false:=by
    rw[w9 jH]
    intro h
    obtain⟨h1,h2⟩:=h i ae ae
    simp only[h1,Bool.not_true,Bool.false_or,Bool.and_eq_true,decide_eq_true_eq]at hb
    obtain⟨e,_⟩:=cQ (by omega)
    subst e
    have :=h2 (by omega)
    have :=hb.2
    omega
   repeat refine sq ?_
   refine rx hΓ [8] [] (fun K' hK=>by simp only[go_sem,ai ae,ak,an,aw];exact fn) ?_
   refine aB ?_
   simp only[go_sem]
   rw[iO];rfl
  ·repeat refine sq ?_
   have hn:pj l[i]=true/\(0<i->Pap.id l[i-1] <Pap.id l[i]):=by
    simp only[Bool.or_eq_false_iff,Bool.not_eq_false',Bool.and_eq_false_iff,decide_eq_false_iff_not]at hb
    refine⟨hb.1,fun h=>?_⟩
    obtain⟨e,_⟩:=cQ h
    subst e
    omega
   refine aF ?_
   refine bW ?_
   simp only[go_sem]
   refine kp [0,1,2,3,11,12,13] [] ?_
   repeat refine sq ?_
   refine aW hΓ fun K' hK=>?_
   simp only[go_sem,ai ae,ak,an,aw]
   repeat (refine⟨ob,?_⟩)
   refine hK _ ?_
   clear K' hK
   simp only[go_sem]
   refine⟨i+1,⟨ae,?_⟩,by(show l.length-(i+1)<l.length-i;omega),?_⟩
   ·exact AV hR ae hn
   refine bh [0,1,2,3,11,12,13] [] ?_ ?_<;>simp only[go_sem,bc ae hl,be]
 ·have bE:i=l.length:=by
   have :¬ (i:Int)<l.length:=by simpa using hb
   omega
  clear hb
  subst bE
  repeat refine sq ?_
  refine bN ?_
  simp only[go_sem]
  refine kp [0,1] [] ?_
  repeat refine sq ?_
  refine rs hΓ [8] [] ?_
  refine aB ?_
  simp only[go_sem]
  rw[jH.2 hR];rfl
@[go_sem] def P111:PSpec:=p4 (dX iR) iI (iF 63) (iF 112) (fun _ _ _ _=>True) (fun l m _ _=>.bool (jI dP Rec.so l&&decide ((l.length:Int)<=m))) true
@[go_sem] def aeu:Spec:=P111.toSpec
theorem VG:aZ Tryz.prog 111 P111:=by
 refine ra (rs:=[.tmp 8]) Tryz.func111 Tryz.ntmps111 fun l m _ _ hp hw=>?_
 have hP:=fE
 simp only[iF,iI,iR,dX,iC,encR]at hw |-
 have hΓ:=Du
 have hl:l.length<=maxLen:=by have:=hw.1.1;simpa using this
 repeat refine sq ?_
 refine rs hΓ [0,1,2,3] [] ?_
 repeat refine sq ?_
 refine rs hΓ [0,1,2,3,11,12,13] [] ?_
 repeat refine sq ?_
 refine aR ?_
 repeat refine sq ?_
 refine cp (fun s:Nat=>[(13,⟨true,.v (vInt s)⟩)]) (fun s=>[]) (fun s=>s<=l.length/\po dP Rec.so l s) (fun s=>l.length-s) 0 ?_ ?_ ?_ ?_
 ·exact⟨Nat.zero_le _,AU⟩
 ·rfl
 ·rfl
 rintro i ⟨hi,hR⟩
 simp only[go_sem]
 repeat refine sq ?_
 refine rs hΓ [0,1,2,3,11,12,13,14] [] ?_
 repeat refine sq ?_
 refine aC (fun hb=>?_) fun hb=>?_
 ·have ae:i<l.length:=by simpa using hb
  have aw:(i:Int)<l.length:=by omega
  clear hb
  obtain⟨p,hp,mg,cQ⟩:=AM ae hl
  repeat refine sq ?_
  refine aF ?_
  repeat refine sq ?_
  refine aR ?_
  repeat refine sq ?_
  refine rx hΓ [0,1,2,3,9,10,11,12,13] [[10,0]] (fun K' hK=>by simp only[go_sem,ai ae,ak,an,aw];exact fn) ?_
  repeat refine sq ?_
  refine dx hΓ hP [[],[],[0,1],[0,1,2],u4,u5,u6,u7,u8,u8,u8,[0,1,2,3,4,5,6,7,10],[0,1,2,3,4,5,6,7,9,10,11],[0,1,2,3,4,5,6,7,9,10,11,12],jk,u8,u8,nZ,jj,nY,pV] [0,1,2,3,11,12,13,38] [] (by kernel_rfl) (fun K' hK=>by simp only[go_sem,ai ae,ak,an,aw,hp,ai mg,fun b=>wO b 21 (by decide)];(repeat (refine⟨by first | exact ob | (intro h;have:=cQ (by simp_all);simp_all;done),?_⟩));exact fJ) ?_
  repeat refine sq ?_
  refine aC (fun hb=>?_) fun hb=>?_
  ·repeat refine sq ?_
   have iO:jI dP Rec.so l=false:=by
    rw[w9 jH]
    intro h
    obtain⟨h1,h2⟩:=h i ae ae
    simp only[h1,Bool.not_true,Bool.false_or,Bool.and_eq_true,decide_eq_true_eq]at hb
    obtain⟨e,_⟩:=cQ (by omega)
    subst e
    have :=h2 (by omega)
    have :=hb.2
    omega
   repeat refine sq ?_
   refine rx hΓ [8] [] (fun K' hK=>by simp only[go_sem,ai ae,ak,an,aw];exact fn) ?_
   refine aB ?_
   simp only[go_sem]
   rw[iO];rfl
  ·repeat refine sq ?_
   have hn:dP l[i]=true/\(0<i->Rec.so l[i-1] <Rec.so l[i]):=by
    simp only[Bool.or_eq_false_iff,Bool.not_eq_false',Bool.and_eq_false_iff,decide_eq_false_iff_not]at hb
    refine⟨hb.1,fun h=>?_⟩
    obtain⟨e,_⟩:=cQ h
    subst e
    omega
   refine aF ?_
   refine bW ?_
   simp only[go_sem]
   refine kp [0,1,2,3,11,12,13] [] ?_
   repeat refine sq ?_
   refine aW hΓ fun K' hK=>?_
   simp only[go_sem,ai ae,ak,an,aw]
   repeat (refine⟨ob,?_⟩)
   refine hK _ ?_
   clear K' hK
   simp only[go_sem]
   refine⟨i+1,⟨ae,?_⟩,by(show l.length-(i+1)<l.length-i;omega),?_⟩
   ·exact AV hR ae hn
   refine bh [0,1,2,3,11,12,13] [] ?_ ?_<;>simp only[go_sem,bc ae hl,be]
 ·have bE:i=l.length:=by
   have :¬ (i:Int)<l.length:=by simpa using hb
   omega
  clear hb
  subst bE
  repeat refine sq ?_
  refine bN ?_
  simp only[go_sem]
  refine kp [0,1] [] ?_
  repeat refine sq ?_
  refine rs hΓ [8] [] ?_
  refine aB ?_
  simp only[go_sem]
  rw[jH.2 hR];rfl
@[go_sem] def P113:PSpec:=p4 (dX iT) iI (iF 65) (iF 114) (fun _ _ _ _=>True) (fun l m _ _=>.bool (jI jQ Ret.so l&&decide ((l.length:Int)<=m))) true
@[go_sem] def aes:Spec:=P113.toSpec
theorem VE:aZ Tryz.prog 113 P113:=by
 refine ra (rs:=[.tmp 8]) Tryz.func113 Tryz.ntmps113 fun l m _ _ hp hw=>?_
 have hP:=fE
 simp only[iF,iI,dX,iT,iC,encT]at hw |-
 have hΓ:=Du
 have hl:l.length<=maxLen:=by have:=hw.1.1;simpa using this
 repeat refine sq ?_
 refine rs hΓ [0,1,2,3] [] ?_
 repeat refine sq ?_
 refine rs hΓ [0,1,2,3,11,12,13] [] ?_
 repeat refine sq ?_
 refine aR ?_
 repeat refine sq ?_
 refine cp (fun s:Nat=>[(13,⟨true,.v (vInt s)⟩)]) (fun s=>[]) (fun s=>s<=l.length/\po jQ Ret.so l s) (fun s=>l.length-s) 0 ?_ ?_ ?_ ?_
 ·exact⟨Nat.zero_le _,AU⟩
 ·rfl
 ·rfl
 rintro i ⟨hi,hR⟩
 simp only[go_sem]
 repeat refine sq ?_
 refine rs hΓ [0,1,2,3,11,12,13,14] [] ?_
 repeat refine sq ?_
 refine aC (fun hb=>?_) fun hb=>?_
 ·have ae:i<l.length:=by simpa using hb
  have aw:(i:Int)<l.length:=by omega
  clear hb
  obtain⟨p,hp,mg,cQ⟩:=AM ae hl
  repeat refine sq ?_
  refine aF ?_
  repeat refine sq ?_
  refine aR ?_
  repeat refine sq ?_
  refine rx hΓ [0,1,2,3,9,10,11,12,13] [[10,0]] (fun K' hK=>by simp only[go_sem,ai ae,ak,an,aw];exact fn) ?_
  repeat refine sq ?_
  refine dx hΓ hP [[],[],[0,1],[0,1,2],u4,u5,u6,u7,u8,u8,u8,[0,1,2,3,4,5,6,7,10],[0,1,2,3,4,5,6,7,9,10,11],[0,1,2,3,4,5,6,7,9,10,11,12],jk,u8,u8,nZ,jj,nY,pV] [0,1,2,3,11,12,13,38] [] (by kernel_rfl) (fun K' hK=>by simp only[go_sem,ai ae,ak,an,aw,hp,ai mg,fun b=>wO b 22 (by decide)];(repeat (refine⟨by first | exact ob | (intro h;have:=cQ (by simp_all);simp_all;done),?_⟩));exact fJ) ?_
  repeat refine sq ?_
  refine aC (fun hb=>?_) fun hb=>?_
  ·repeat refine sq ?_
   have iO:jI jQ Ret.so l=false:=by
    rw[w9 jH]
    intro h
    obtain⟨h1,h2⟩:=h i ae ae
    simp only[h1,Bool.not_true,Bool.false_or,Bool.and_eq_true,decide_eq_true_eq]at hb
    obtain⟨e,_⟩:=cQ (by omega)
    subst e
    have :=h2 (by omega)
    have :=hb.2
    omega
   repeat refine sq ?_
   refine rx hΓ [8] [] (fun K' hK=>by simp only[go_sem,ai ae,ak,an,aw];exact fn) ?_
   refine aB ?_
   simp only[go_sem]
   rw[iO];rfl
  ·repeat refine sq ?_
   have hn:jQ l[i]=true/\(0<i->Ret.so l[i-1] <Ret.so l[i]):=by
    simp only[Bool.or_eq_false_iff,Bool.not_eq_false',Bool.and_eq_false_iff,decide_eq_false_iff_not]at hb
    refine⟨hb.1,fun h=>?_⟩
    obtain⟨e,_⟩:=cQ h
    subst e
    omega
   refine aF ?_
   refine bW ?_
   simp only[go_sem]
   refine kp [0,1,2,3,11,12,13] [] ?_
   repeat refine sq ?_
   refine aW hΓ fun K' hK=>?_
   simp only[go_sem,ai ae,ak,an,aw]
   repeat (refine⟨ob,?_⟩)
   refine hK _ ?_
   clear K' hK
   simp only[go_sem]
   refine⟨i+1,⟨ae,?_⟩,by(show l.length-(i+1)<l.length-i;omega),?_⟩
   ·exact AV hR ae hn
   refine bh [0,1,2,3,11,12,13] [] ?_ ?_<;>simp only[go_sem,bc ae hl,be]
 ·have bE:i=l.length:=by
   have :¬ (i:Int)<l.length:=by simpa using hb
   omega
  clear hb
  subst bE
  repeat refine sq ?_
  refine bN ?_
  simp only[go_sem]
  refine kp [0,1] [] ?_
  repeat refine sq ?_
  refine rs hΓ [8] [] ?_
  refine aB ?_
  simp only[go_sem]
  rw[jH.2 hR];rfl
@[go_sem] def P115:PSpec:=p4 (dX iS) iI (iF 67) (iF 116) (fun _ _ _ _=>True) (fun l m _ _=>.bool (jI iE Sig.so l&&decide ((l.length:Int)<=m))) true
@[go_sem] def aeq:Spec:=P115.toSpec
theorem VC:aZ Tryz.prog 115 P115:=by
 refine ra (rs:=[.tmp 8]) Tryz.func115 Tryz.ntmps115 fun l m _ _ hp hw=>?_
 have hP:=fE
 simp only[iF,iI,iS,dX,iC,encS]at hw |-
 have hΓ:=Du
 have hl:l.length<=maxLen:=by have:=hw.1.1;simpa using this
 repeat refine sq ?_
 refine rs hΓ [0,1,2,3] [] ?_
 repeat refine sq ?_
 refine rs hΓ [0,1,2,3,11,12,13] [] ?_
 repeat refine sq ?_
 refine aR ?_
 repeat refine sq ?_
 refine cp (fun s:Nat=>[(13,⟨true,.v (vInt s)⟩)]) (fun s=>[]) (fun s=>s<=l.length/\po iE Sig.so l s) (fun s=>l.length-s) 0 ?_ ?_ ?_ ?_
 ·exact⟨Nat.zero_le _,AU⟩
 ·rfl
 ·rfl
 rintro i ⟨hi,hR⟩
 simp only[go_sem]
 repeat refine sq ?_
 refine rs hΓ [0,1,2,3,11,12,13,14] [] ?_
 repeat refine sq ?_
 refine aC (fun hb=>?_) fun hb=>?_
 ·have ae:i<l.length:=by simpa using hb
  have aw:(i:Int)<l.length:=by omega
  clear hb
  obtain⟨p,hp,mg,cQ⟩:=AM ae hl
  repeat refine sq ?_
  refine aF ?_
  repeat refine sq ?_
  refine aR ?_
  repeat refine sq ?_
  refine rx hΓ [0,1,2,3,9,10,11,12,13] [[10,0]] (fun K' hK=>by simp only[go_sem,ai ae,ak,an,aw];exact fn) ?_
  repeat refine sq ?_
  refine dx hΓ hP [[],[],[0,1],[0,1,2],u4,u5,u6,u7,u8,u8,u8,[0,1,2,3,4,5,6,7,10],[0,1,2,3,4,5,6,7,9,10,11],[0,1,2,3,4,5,6,7,9,10,11,12],jk,u8,u8,nZ,jj,nY,pV] [0,1,2,3,11,12,13,38] [] (by kernel_rfl) (fun K' hK=>by simp only[go_sem,ai ae,ak,an,aw,hp,ai mg,fun b=>wO b 23 (by decide)];(repeat (refine⟨by first | exact ob | (intro h;have:=cQ (by simp_all);simp_all;done),?_⟩));exact fJ) ?_
  repeat refine sq ?_
  refine aC (fun hb=>?_) fun hb=>?_
  ·repeat refine sq ?_
   have iO:jI iE Sig.so l=false:=by
    rw[w9 jH]
    intro h
    obtain⟨h1,h2⟩:=h i ae ae
    simp only[h1,Bool.not_true,Bool.false_or,Bool.and_eq_true,decide_eq_true_eq]at hb
    obtain⟨e,_⟩:=cQ (by omega)
    subst e
    have :=h2 (by omega)
    have :=hb.2
    omega
   repeat refine sq ?_
   refine rx hΓ [8] [] (fun K' hK=>by simp only[go_sem,ai ae,ak,an,aw];exact fn) ?_
   refine aB ?_
   simp only[go_sem]
   rw[iO];rfl
  ·repeat refine sq ?_
   have hn:iE l[i]=true/\(0<i->Sig.so l[i-1] <Sig.so l[i]):=by
    simp only[Bool.or_eq_false_iff,Bool.not_eq_false',Bool.and_eq_false_iff,decide_eq_false_iff_not]at hb
    refine⟨hb.1,fun h=>?_⟩
    obtain⟨e,_⟩:=cQ h
    subst e
    omega
   refine aF ?_
   refine bW ?_
   simp only[go_sem]
   refine kp [0,1,2,3,11,12,13] [] ?_
   repeat refine sq ?_
   refine aW hΓ fun K' hK=>?_
   simp only[go_sem,ai ae,ak,an,aw]
   repeat (refine⟨ob,?_⟩)
   refine hK _ ?_
   clear K' hK
   simp only[go_sem]
   refine⟨i+1,⟨ae,?_⟩,by(show l.length-(i+1)<l.length-i;omega),?_⟩
   ·exact AV hR ae hn
   refine bh [0,1,2,3,11,12,13] [] ?_ ?_<;>simp only[go_sem,bc ae hl,be]
 ·have bE:i=l.length:=by
   have :¬ (i:Int)<l.length:=by simpa using hb
   omega
  clear hb
  subst bE
  repeat refine sq ?_
  refine bN ?_
  simp only[go_sem]
  refine kp [0,1] [] ?_
  repeat refine sq ?_
  refine rs hΓ [8] [] ?_
  refine aB ?_
  simp only[go_sem]
  rw[jH.2 hR];rfl
end
set_option maxHeartbeats 8000000
noncomputable section
theorem LP{i j:Nat}(hi:i<=maxLen)(hj:j<=maxLen):IntKind.i64.wrap ((IntKind.u64.wrap (IntKind.i64.wrap ((i:Int)+(j:Int)))).fdiv (2 ^ min (Int.toNat 1) 64))=(((i+j) / 2:Nat):Int):=by
 unfold maxLen at hi hj
 have h1:min (Int.toNat 1) 64=1:=by decide
 have h2:IntKind.u64.wrap (IntKind.i64.wrap ((i:Int)+(j:Int)))=((i+j:Nat):Int):=by
  rw[IntKind.wrap_u64,IntKind.wrap_i64]
  omega
 rw[h1,h2]
 have h3:(((i+j:Nat):Int)).fdiv (2 ^ 1)=(((i+j) / 2:Nat):Int):=by
  rw[Int.fdiv_eq_ediv_of_nonneg _ (by decide)]
  omega
 rw[h3,wrap_i64 (by omega) (by omega)]
theorem CF{a b:Int}:mB a b<0↔a<b:=by
 unfold mB
 split
 ·simp[*]
 ·split<;>simp<;>omega
theorem Rp{a b:Int}:(mB a b==0)=(a==b):=by
 unfold mB
 split
 ·have:a≠b:=by omega
  simp[this]
 ·split
  ·have:a≠b:=by omega
   simp[this]
  ·have:a=b:=by omega
   simp[this]
def srt{α:Type}(num:α->Int)(l:List α):Prop:=∀ i j (hi:i<l.length) (hj:j<l.length),i<j->num l[i] <num l[j]
theorem TY{α:Type}{num:α->Int}{l:List α}(h:∀ j (h:j<l.length),0<j->num l[j-1] <num l[j]):srt num l:=by
 intro i j hi hj bJ
 induction j with
 |zero=>omega
 |succ j ih=>
  have h1:=h (j+1) hj (by omega)
  simp only[Nat.add_sub_cancel]at h1
  rcases Nat.lt_succ_iff_lt_or_eq.1 bJ with h2 | rfl
  ·have:=ih (by omega) h2;omega
  ·exact h1
theorem sZ{α:Type}{fR:α->Bool}{num:α->Int}{l:List α}(h:po fR num l l.length):srt num l:=TY fun j hj h0=>(h j hj hj).2 h0
def l7{α:Type}(num:α->Int)(l:List α)(x:Int):Nat:=(l.takeWhile fun y=>decide (num y<x)).length
def pA{α:Type}(num:α->Int)(l:List α)(x:Int):Bool:=l.any fun y=>num y==x
theorem yc{α:Type}{num:α->Int}{l:List α}{x:Int}{i:Nat}(hi:i<=l.length)(h1:∀ k (h:k<l.length),k<i->num l[k] <x)(h2:∀ k (h:k<l.length),i<=k->x<=num l[k]):l7 num l x=i:=by
 unfold l7
 induction l generalizing i with
 |nil=>simp at hi |-;omega
 |cons a r ih=>
  cases i with
  |zero=>
   have :=h2 0 (by simp) (Nat.le_refl _)
   simp only[List.getElem_cons_zero]at this
   have hd:decide (num a<x)=false:=by simp;omega
   simp[hd]
  |succ i=>
   have :=h1 0 (by simp) (by omega)
   simp only[List.getElem_cons_zero]at this
   have hd:decide (num a<x)=true:=by simp;omega
   simp only[List.takeWhile_cons,hd,if_true,List.length_cons]
   rw[ih (by simpa using hi) (fun k hk dE=>by have:=h1 (k+1) (by simpa using hk) (by omega);simpa using this) (fun k hk dE=>by have:=h2 (k+1) (by simpa using hk) (by omega);simpa using this)]
theorem B9{α:Type}{num:α->Int}{l:List α}{x:Int}:pA num l x=true↔∃ k,∃ (h:k<l.length),num l[k]=x:=by
 unfold pA
 rw[List.any_eq_true]
 constructor
 ·rintro⟨y,hy,h⟩
  obtain⟨k,hk,rfl⟩:=List.getElem_of_mem hy
  exact⟨k,hk,by simpa using h⟩
 ·rintro⟨k,hk,h⟩
  exact⟨_,List.getElem_mem hk,by simpa using h⟩
theorem P1{α:Type}{num:α->Int}{l:List α}{x:Int}{i:Nat}(hs:srt num l)(hi:i<l.length)(h1:∀ k (h:k<l.length),k<i->num l[k] <x)(h2:∀ k (h:k<l.length),i<=k->x<=num l[k]):pA num l x=(num l[i]==x):=by
 rw[Bool.eq_iff_iff,B9]
 simp only[beq_iff_eq]
 constructor
 ·rintro⟨k,hk,e⟩
  rcases Nat.lt_trichotomy k i with h3 | h3 | h3
  ·have:=h1 k hk h3;omega
  ·subst h3;exact e
  ·have:=hs i k hi hk h3
   have :=h2 i hi (Nat.le_refl _)
   omega
 ·intro e
  exact⟨i,hi,e⟩
theorem P0{α:Type}{num:α->Int}{l:List α}{x:Int}(h1:∀ k (h:k<l.length),num l[k] <x):pA num l x=false:=by
 rw[Bool.eq_false_iff]
 intro h
 obtain⟨k,hk,e⟩:=B9.1 h
 have :=h1 k hk
 omega
def K6a:List (Nat×Spec):=[(140,ael)]
theorem S8:KS K6a:=tc Vv.sound<|tn
attribute [go_sem] K6a
@[go_sem] def P169:PSpec:=p2 iP iI (fun _ _=>True) (fun p x=>vInt (mB p.id x)) true
@[go_sem] def aeh:Spec:=P169.toSpec
theorem Vk:aZ Tryz.prog 169 P169:=by
 refine dG (rs:=[.tmp 4]) Tryz.func169 Tryz.ntmps169 fun p x hp hw=>?_
 simp only[iI,iP,cW]at hw |-
 have hΓ:=S8
 repeat refine sq ?_
 refine rs hΓ [1,2] [[2,0]] ?_
 repeat refine sq ?_
 refine rs hΓ [4] [] ?_
 refine aB ?_
 simp only[go_sem]
 all_goals exact el
@[go_sem] def P139:PSpec:=p2 iS iI (fun _ _=>True) (fun p x=>vInt (mB p.so x)) true
@[go_sem] def aem:Spec:=P139.toSpec
theorem Vy:aZ Tryz.prog 139 P139:=by
 refine dG (rs:=[.tmp 4]) Tryz.func139 Tryz.ntmps139 fun p x hp hw=>?_
 simp only[iI,iS,encS]at hw |-
 have hΓ:=S8
 repeat refine sq ?_
 refine rs hΓ [1,2] [[2,0]] ?_
 repeat refine sq ?_
 refine rs hΓ [4] [] ?_
 refine aB ?_
 simp only[go_sem]
 all_goals exact el
def K6b:List (Nat×Spec):=[(169,aeh),(139,aem)]
theorem S7:KS K6b:=tc Vk.sound<|tc Vy.sound<|tn
attribute [go_sem] K6b
@[go_sem] def P168:PSpec:=p3 (dX iP) iI (iF 169) (fun l _ _=>srt Pap.id l) (fun l x _=>.tup [vInt (l7 Pap.id l x),.bool (pA Pap.id l x)]) true
@[go_sem] def aei:Spec:=P168.toSpec
set_option maxRecDepth 10000 in
theorem Vl:aZ Tryz.prog 168 P168:=by
 refine lR (rs:=[.tmp 6,.tmp 7]) Tryz.func168 Tryz.ntmps168 fun l x _ hp hw=>?_
 simp only[iF,iI,iP,dX,iC,cW]at hw |-
 have hΓ:=S7
 have hs:=hp
 have hl:l.length<=maxLen:=by have:=hw.1.1;simpa using this
 repeat refine sq ?_
 refine rs hΓ [0,1,2] [] ?_
 repeat refine sq ?_
 refine rs hΓ [0,1,2,8] [] ?_
 repeat refine sq ?_
 refine rs hΓ [0,1,2,8,9,10] [] ?_
 repeat refine sq ?_
 refine aR ?_
 repeat refine sq ?_
 refine cp (fun ij:Nat×Nat=>[(9,⟨true,.v (vInt ij.1)⟩),(10,⟨true,.v (vInt ij.2)⟩)]) (fun i=>[]) (fun ij=>ij.1<=ij.2/\ij.2<=l.length/\(∀ k (h:k<l.length),k<ij.1->Pap.id l[k] <x)/\(∀ k (h:k<l.length),ij.2<=k->x<=Pap.id l[k])) (fun ij=>ij.2-ij.1) (0,l.length) ?_ ?_ ?_ ?_
 ·exact⟨Nat.zero_le _,Nat.le_refl _,fun k h hk=>by omega,fun k h hk=>by omega⟩
 ·rfl
 ·rfl
 rintro⟨i,j⟩ ⟨bJ,ft,eg,fP⟩
 simp only[go_sem]
 repeat refine sq ?_
 refine rs hΓ [0,1,2,8,9,10,17] [] ?_
 repeat refine sq ?_
 refine aC (fun hb=>?_) fun hb=>?_
 ·have ae:i<j:=by simpa using hb
  repeat refine sq ?_
  refine aF ?_
  repeat refine sq ?_
  refine aR ?_
  repeat refine sq ?_
  refine rx hΓ [0,1,2,8,9,10,11] [] (fun K' hK=>by simp only[go_sem,LP (show i<=maxLen by omega) (show j<=maxLen by omega)];exact fn) ?_
  obtain⟨h,hh⟩:∃ h,h=(i+j) / 2:=⟨_,rfl⟩
  rw[<-hh]
  have h1:i<=h:=by omega
  have h2:h<j:=by omega
  have h3:h<l.length:=by omega
  have Hh:(h:Int)<l.length:=by omega
  repeat refine sq ?_
  refine rx hΓ [0,1,2,8,9,10,11,31] [] (fun K' hK=>by simp only[go_sem,ai h3,ak,an,Hh];exact fn) ?_
  repeat refine sq ?_
  refine aC (fun hb=>?_) fun hb=>?_
  ·have hx:Pap.id l[h] <x:=by simpa[CF]using hb
   repeat refine sq ?_
   refine aW hΓ fun K' hK=>?_
   simp only[go_sem]
   repeat (refine⟨ob,?_⟩)
   refine hK _ ?_
   clear K' hK
   simp only[go_sem]
   refine⟨(h+1,j),⟨by omega,ft,fun k hk ua=>?_,fP⟩,by omega,?_⟩
   ·rcases Nat.lt_succ_iff_lt_or_eq.1 ua with h5 | h5
    ·have:=hs k h hk h3 h5;omega
    ·subst h5;exact hx
   ·refine bh [0,1,2,8,9,10] [] ?_ ?_<;>simp only[go_sem,bc h3 hl,be]
  ·have hx:x<=Pap.id l[h]:=by
     have :¬ Pap.id l[h] <x:=by simpa[CF]using hb
     omega
   repeat refine sq ?_
   refine aW hΓ fun K' hK=>?_
   simp only[go_sem]
   repeat (refine⟨ob,?_⟩)
   refine hK _ ?_
   clear K' hK
   simp only[go_sem]
   refine⟨(i,h),⟨by omega,by omega,eg,fun k hk ua=>?_⟩,by omega,?_⟩
   ·rcases Nat.lt_or_eq_of_le ua with h5 | h5
    ·have:=hs h k h3 hk h5;omega
    ·subst h5;exact hx
   ·refine bh [0,1,2,8,9,10] [] ?_ ?_<;>simp only[go_sem]
 ·have he:i=j:=by
    have :¬ (i:Int)<j:=by simpa using hb
    omega
  subst he
  repeat refine sq ?_
  refine bN ?_
  simp only[go_sem]
  refine kp [0,1,2,8,9] [] ?_
  by_cases dL:i<l.length
  ·have ub:(i:Int)<l.length:=by omega
   repeat refine sq ?_
   refine rx hΓ [6,7] [] (fun K' hK=>by simp only[go_sem,ai dL,ak,an,ub];exact fn) ?_
   refine aB ?_
   simp only[go_sem]
   rw[yc ft eg fP,P1 hs dL eg fP]
   simp[Rp]
  ·have lA:i=l.length:=by omega
   have ub:¬ (i:Int)<l.length:=by omega
   obtain⟨k0,n0,GV⟩:∃ k0 n0,(l.map cW).getD i default=.int k0 n0:=by
    refine⟨default,default,?_⟩
    rw[List.getD_eq_getElem?_getD,List.getElem?_eq_none (by simp;omega)]
    rfl
   repeat refine sq ?_
   refine rx hΓ [6,7] [] (fun K' hK=>by simp only[go_sem,GV,ak,an,ub];exact fn) ?_
   refine aB ?_
   simp only[go_sem]
   rw[yc ft eg fP,P0 fun k hk=>eg k hk (by omega)]
   simp
@[go_sem] def P138:PSpec:=p3 (dX iS) iI (iF 139) (fun l _ _=>srt Sig.so l) (fun l x _=>.tup [vInt (l7 Sig.so l x),.bool (pA Sig.so l x)]) true
@[go_sem] def SZ:Spec:=P138.toSpec
set_option maxRecDepth 10000 in
theorem Kb:aZ Tryz.prog 138 P138:=by
 refine lR (rs:=[.tmp 6,.tmp 7]) Tryz.func138 Tryz.ntmps138 fun l x _ hp hw=>?_
 simp only[iF,iI,iS,dX,iC,encS]at hw |-
 have hΓ:=S7
 have hs:=hp
 have hl:l.length<=maxLen:=by have:=hw.1.1;simpa using this
 repeat refine sq ?_
 refine rs hΓ [0,1,2] [] ?_
 repeat refine sq ?_
 refine rs hΓ [0,1,2,8] [] ?_
 repeat refine sq ?_
 refine rs hΓ [0,1,2,8,9,10] [] ?_
 repeat refine sq ?_
 refine aR ?_
 repeat refine sq ?_
 refine cp (fun ij:Nat×Nat=>[(9,⟨true,.v (vInt ij.1)⟩),(10,⟨true,.v (vInt ij.2)⟩)]) (fun i=>[]) (fun ij=>ij.1<=ij.2/\ij.2<=l.length/\(∀ k (h:k<l.length),k<ij.1->Sig.so l[k] <x)/\(∀ k (h:k<l.length),ij.2<=k->x<=Sig.so l[k])) (fun ij=>ij.2-ij.1) (0,l.length) ?_ ?_ ?_ ?_
 ·exact⟨Nat.zero_le _,Nat.le_refl _,fun k h hk=>by omega,fun k h hk=>by omega⟩
 ·rfl
 ·rfl
 rintro⟨i,j⟩ ⟨bJ,ft,eg,fP⟩
 simp only[go_sem]
 repeat refine sq ?_
 refine rs hΓ [0,1,2,8,9,10,17] [] ?_
 repeat refine sq ?_
 refine aC (fun hb=>?_) fun hb=>?_
 ·have ae:i<j:=by simpa using hb
  repeat refine sq ?_
  refine aF ?_
  repeat refine sq ?_
  refine aR ?_
  repeat refine sq ?_
  refine rx hΓ [0,1,2,8,9,10,11] [] (fun K' hK=>by simp only[go_sem,LP (show i<=maxLen by omega) (show j<=maxLen by omega)];exact fn) ?_
  obtain⟨h,hh⟩:∃ h,h=(i+j) / 2:=⟨_,rfl⟩
  rw[<-hh]
  have h1:i<=h:=by omega
  have h2:h<j:=by omega
  have h3:h<l.length:=by omega
  have Hh:(h:Int)<l.length:=by omega
  repeat refine sq ?_
  refine rx hΓ [0,1,2,8,9,10,11,31] [] (fun K' hK=>by simp only[go_sem,ai h3,ak,an,Hh];exact fn) ?_
  repeat refine sq ?_
  refine aC (fun hb=>?_) fun hb=>?_
  ·have hx:Sig.so l[h] <x:=by simpa[CF]using hb
   repeat refine sq ?_
   refine aW hΓ fun K' hK=>?_
   simp only[go_sem]
   repeat (refine⟨ob,?_⟩)
   refine hK _ ?_
   clear K' hK
   simp only[go_sem]
   refine⟨(h+1,j),⟨by omega,ft,fun k hk ua=>?_,fP⟩,by omega,?_⟩
   ·rcases Nat.lt_succ_iff_lt_or_eq.1 ua with h5 | h5
    ·have:=hs k h hk h3 h5;omega
    ·subst h5;exact hx
   ·refine bh [0,1,2,8,9,10] [] ?_ ?_<;>simp only[go_sem,bc h3 hl,be]
  ·have hx:x<=Sig.so l[h]:=by
     have :¬ Sig.so l[h] <x:=by simpa[CF]using hb
     omega
   repeat refine sq ?_
   refine aW hΓ fun K' hK=>?_
   simp only[go_sem]
   repeat (refine⟨ob,?_⟩)
   refine hK _ ?_
   clear K' hK
   simp only[go_sem]
   refine⟨(i,h),⟨by omega,by omega,eg,fun k hk ua=>?_⟩,by omega,?_⟩
   ·rcases Nat.lt_or_eq_of_le ua with h5 | h5
    ·have:=hs h k h3 hk h5;omega
    ·subst h5;exact hx
   ·refine bh [0,1,2,8,9,10] [] ?_ ?_<;>simp only[go_sem]
 ·have he:i=j:=by
    have :¬ (i:Int)<j:=by simpa using hb
    omega
  subst he
  repeat refine sq ?_
  refine bN ?_
  simp only[go_sem]
  refine kp [0,1,2,8,9] [] ?_
  by_cases dL:i<l.length
  ·have ub:(i:Int)<l.length:=by omega
   repeat refine sq ?_
   refine rx hΓ [6,7] [] (fun K' hK=>by simp only[go_sem,ai dL,ak,an,ub];exact fn) ?_
   refine aB ?_
   simp only[go_sem]
   rw[yc ft eg fP,P1 hs dL eg fP]
   simp[Rp]
  ·have lA:i=l.length:=by omega
   have ub:¬ (i:Int)<l.length:=by omega
   obtain⟨k0,n0,GV⟩:∃ k0 n0,(l.map encS).getD i default=.int k0 n0:=by
    refine⟨default,default,?_⟩
    rw[List.getD_eq_getElem?_getD,List.getElem?_eq_none (by simp;omega)]
    rfl
   repeat refine sq ?_
   refine rx hΓ [6,7] [] (fun K' hK=>by simp only[go_sem,GV,ak,an,ub];exact fn) ?_
   refine aB ?_
   simp only[go_sem]
   rw[yc ft eg fP,P0 fun k hk=>eg k hk (by omega)]
   simp
def bT(l:List Pap)(id:Int):Int:=match l.find? fun p=>p.id==id with
 |some p=>p.lv
 |none=>0
theorem L5{l:List Pap}{x:Int}{i:Nat}(hi:i<l.length)(h:l[i].id=x)(h1:∀ k (h:k<l.length),k<i->l[k].id≠x):bT l x=l[i].lv:=by
 unfold bT
 have :(l.find? fun p=>p.id==x)=some l[i]:=by
  rw[List.find?_eq_some_iff_getElem]
  exact⟨by simpa using h,i,hi,rfl,fun j hj=>by simpa using h1 j (by omega) hj⟩
 rw[this]
theorem L4{l:List Pap}{x:Int}(h1:∀ k (h:k<l.length),l[k].id≠x):bT l x=0:=by
 unfold bT
 have :(l.find? fun p=>p.id==x)=none:=by
  rw[List.find?_eq_none]
  intro p hp
  obtain⟨k,hk,rfl⟩:=List.getElem_of_mem hp
  simpa using h1 k hk
 rw[this]
theorem XO{l:List Pap}{x:Int}(hs:srt Pap.id l)(h:pA Pap.id l x=true):∃ (h:l7 Pap.id l x<l.length),l[l7 Pap.id l x].lv=bT l x:=by
 obtain⟨k,hk,e⟩:=B9.1 h
 have e2:l7 Pap.id l x=k:=yc (Nat.le_of_lt hk) (fun j hj oJ=>by have:=hs j k hj hk oJ;omega) (fun j hj oJ=>by
  rcases Nat.lt_or_eq_of_le oJ with h | rfl
  ·have:=hs k j hk hj h;omega
  ·omega)
 refine⟨e2▸hk,?_⟩
 rw[L5 hk e fun j hj oJ=>by have:=hs j k hj hk oJ;omega]
 congr
theorem XN{l:List Pap}{x:Int}(h:pA Pap.id l x=false):bT l x=0:=L4 fun k hk e=>by
 rw[B9.2 ⟨k,hk,e⟩]at h;cases h
def K6:List (Nat×Spec):=[(168,aei),(138,SZ)]
theorem aeO:KS K6:=tc Vl.sound<|tc Kb.sound<|tn
attribute [go_sem] K6
@[go_sem] def P79:PSpec:=p2 m7 iI (fun l _=>srt Pap.id l.ps) (fun l x=>vInt (bT l.ps x)) true
@[go_sem] def zO:Spec:=P79.toSpec
theorem Au:aZ Tryz.prog 79 P79:=by
 refine dG (rs:=[.tmp 4]) Tryz.func79 Tryz.ntmps79 fun l x hp hw=>?_
 simp only[iI,m7,jE]at hw |-
 have hΓ:=aeO
 repeat refine sq ?_
 refine rs hΓ [0,1] [] ?_
 repeat refine sq ?_
 refine rx hΓ [0,5,6] [] (fun K' hK=>by simp only[go_sem,hp];exact fn) ?_
 repeat refine sq ?_
 refine rs hΓ [0,5,17] [] ?_
 repeat refine sq ?_
 refine aC (fun hb=>?_) fun hb=>?_
 ·repeat refine sq ?_
  have hf:pA Pap.id l.ps x=false:=by simpa using hb
  repeat refine sq ?_
  refine rs hΓ [4] [] ?_
  refine aB ?_
  simp only[go_sem]
  rw[XN hf]
 ·repeat refine sq ?_
  have hf:pA Pap.id l.ps x=true:=by simpa using hb
  obtain⟨tW,kL⟩:=XO hp hf
  have aa3:(l7 Pap.id l.ps x:Int)<l.ps.length:=by omega
  refine aF ?_
  repeat refine sq ?_
  refine rx hΓ [4] [] (fun K' hK=>by simp only[go_sem,ai tW,ak,an,aa3];exact fn) ?_
  refine aB ?_
  simp only[go_sem]
  rw[kL]
@[go_sem] def P84:PSpec:=p2 iL iI (fun _ _=>True) (fun l x=>vInt (bT l.ps x)) true
@[go_sem] def Dj:Spec:=P84.toSpec
theorem UN:aZ Tryz.prog 84 P84:=by
 refine dG (rs:=[.tmp 4]) Tryz.func84 Tryz.ntmps84 fun l x hp hw=>?_
 simp only[iI,iL,fw]at hw |-
 have hΓ:=@fD Tryz.prog
 have hl:l.ps.length<=maxLen:=by have:=hw.1;simp[V.wfL,V.wf]at this;omega
 repeat refine sq ?_
 refine rs hΓ [1,2] [[2,0]] ?_
 repeat refine sq ?_
 refine rs hΓ [1,2,5] [[2,0]] ?_
 repeat refine sq ?_
 refine aR ?_
 repeat refine sq ?_
 refine cp (fun s:Nat=>[(5,⟨true,.v (vInt s)⟩)]) (fun s=>[]) (fun s=>s<=l.ps.length/\∀ k (h:k<l.ps.length),k<s->l.ps[k].id≠x) (fun s=>l.ps.length-s) 0 ?_ ?_ ?_ ?_
 ·exact⟨Nat.zero_le _,by simp⟩
 ·rfl
 ·rfl
 rintro i ⟨hi,hR⟩
 simp only[go_sem]
 repeat refine sq ?_
 refine rs hΓ [1,2,5,10] [[2,0]] ?_
 repeat refine sq ?_
 refine aC (fun hb=>?_) fun hb=>?_
 ·have ae:i<l.ps.length:=by simpa using hb
  have aw:(i:Int)<l.ps.length:=by omega
  clear hb
  repeat refine sq ?_
  refine aF ?_
  repeat refine sq ?_
  refine aR ?_
  repeat refine sq ?_
  refine rx hΓ [1,2,5,20] [[2,0]] (fun K' hK=>by simp only[go_sem,ai ae,ak,an,aw];exact fn) ?_
  repeat refine sq ?_
  refine aC (fun hb=>?_) fun hb=>?_
  ·repeat refine sq ?_
   refine rx hΓ [4] [] (fun K' hK=>by simp only[go_sem,ai ae,ak,an,aw];exact fn) ?_
   refine aB ?_
   simp only[go_sem]
   rw[L5 ae (by simpa using hb) hR]
  ·repeat refine sq ?_
   refine aF ?_
   refine bW ?_
   simp only[go_sem]
   refine kp [1,2,5] [[2,0]] ?_
   repeat refine sq ?_
   refine aW hΓ fun K' hK=>?_
   simp only[go_sem,ai ae,ak,an,aw]
   repeat (refine⟨ob,?_⟩)
   refine hK _ ?_
   clear K' hK
   simp only[go_sem]
   refine⟨i+1,⟨ae,?_⟩,by(show l.ps.length-(i+1)<l.ps.length-i;omega),?_⟩
   ·intro k hk dE
    rcases Nat.lt_succ_iff_lt_or_eq.1 dE with h5 | rfl
    ·exact hR k hk h5
    ·simpa using hb
   refine bh [1,2,5] [[2,0]] ?_ ?_<;>simp only[go_sem,bc ae hl,be]
 ·have bE:i=l.ps.length:=by
   have :¬ (i:Int)<l.ps.length:=by simpa using hb
   omega
  clear hb
  subst bE
  repeat refine sq ?_
  refine bN ?_
  simp only[go_sem]
  refine kp [] [] ?_
  repeat refine sq ?_
  refine rs hΓ [4] [] ?_
  refine aB ?_
  simp only[go_sem]
  rw[L4 fun k hk=>hR k hk hk]
end
end Go.Eng
set_option linter.unusedVariables false
namespace Go.Eng
open Go Go.Proofs Go.RowKit Go.Lib Go.Shelf
set_option maxHeartbeats 4000000 in
set_option maxRecDepth 100000 in
theorem aah(b off n c i vb gg m vc:Nat)(cs vs:List Value)(w:World)(hi:i<n)(hm:0<m)(lq:n+m<=c)(abz:c<=9223372036854775807)(Bu:vb≠b)
 (cA:cs.length=n*7) (rT:vs.length=m*7)
 (gF:∀ j v,cs[j]?=some v->w.cell? ⟨b,off+j,none⟩=some v) (oC:∀ j,j<(n+m)*7->(w.cell? ⟨b,off+j,none⟩).isSome=true) (BW:∀ j,w.frozen? ⟨b,j,none⟩=false)
 (tv:∀ j v,vs[j]?=some v->w.cell? ⟨vb,gg+j,none⟩=some v) (Hj:∀ v∈cs,v.oneCell'=true) (Hi:∀ v∈vs,v.oneCell'=true)
 (tA tB:TypeId) (kA kB:Nat) (yD:w.shape? vb=some (tA,kA)) (gC:w.shape? b=some (tB,kB)) (Gu:kA≠0):
 Calls Tryz.prog 141 #[.slice (some ⟨b,off,none⟩) n c,.int .i64 i,.slice (some ⟨vb,gg,none⟩) m vc] w fun e w'=>
  e=.returned (.slice (some ⟨b,off,none⟩) (n+m) c)/\w'=(w.drew.setCells b (off+(i+m)*7) (cs.drop (i*7))).setCells b (off+i*7) vs:=by
 have mixed:Tryz.prog.follows Departure.mixedOrders=true:=by kernel_rfl
 have Ow:¬ ((m:Int)=0):=by omega
 have hz2:¬ ((i:Int)=(n:Int)):=by omega
 have hov:∀ lb cb,(callFunc 190 #[.slice (some ⟨vb,gg,none⟩) m vc,.slice (some ⟨b,off+(i+m)*7,none⟩) lb cb]).run Tryz.prog w=.ok (.value (.bool false)) w:=fun lb cb=>by
  rw[run_callFunc_extern Tryz.func190 (by kernel_rfl) (by kernel_rfl) (by kernel_rfl) (e:=Extern.SlicesOverlaps.overlaps #[29,29] #[4]) (by kernel_rfl),
   VM w 29 4 81 Tryz.underlying29 7 Tryz.sizeOf81 ⟨vb,gg,none⟩ ⟨b,off+(i+m)*7,none⟩ m vc lb cb Bu tA tB kA kB yD gC Gu (BW _) (BW _)]
  rfl
 have np:(cs.drop (i*7)).length=(n-i)*7:=by rw[List.length_drop,cA];try omega
 have kG:IntKind.i64.wrap ((i:Int)+(m:Int))=(i:Int)+(m:Int):=by rw[IntKind.wrap_i64];omega
 have oT:(0:Int)<=(i:Int)+(m:Int):=by omega
 have dL:i<=n:=by omega
 have yy:((i:Int)+(m:Int)).toNat=i+m:=by omega
 have mq:¬ (c=i+m):=by omega
 have hb3:(i:Int)<=(n:Int)+(m:Int):=by omega
 have hb4:¬ (c=i):=by omega
 have yN:Nat.min (n+m-i) (n+m-(i+m))=n-i:=by simp only[Nat.min_def];split<;>omega
 have PR:∀ ty dc sc,(Builtin.copy_ #[29,29] ty #[.slice (some ⟨b,off+(i+m)*7,none⟩) (n+m-(i+m)) dc,.slice (some ⟨b,off+i*7,none⟩) (n+m-i) sc]).run Tryz.prog w.drew=.ok (goInt (n-i:Nat)) (w.drew.setCells b (off+(i+m)*7) (cs.drop (i*7))):=fun ty dc sc=>by
  have h:=Ax (P:=Tryz.prog) 7 w.drew 29 29 ty 81 b (off+(i+m)*7) (n+m-(i+m)) dc ⟨b,off+i*7,none⟩ (n+m-i) sc (cs.drop (i*7)) Tryz.underlying29 Tryz.sizeOf81 (by rw[np,yN])
   (fun j v hj=>by rw[Addr.add_lit,Nat.add_assoc];exact gF (i*7+j) v (by rwa [List.getElem?_drop]at hj))
   (fun j hj=>by rw[Nat.add_assoc];exact oC _ (by omega)) (fun j hj=>by exact BW _) (fun v hv=>Hj v (List.mem_of_mem_drop hv))
  rw[yN]at h
  exact h
 obtain⟨W1,nq⟩:∃ W1,W1=w.drew.setCells b (off+(i+m)*7) (cs.drop (i*7)):=⟨_,rfl⟩
 have aaF:∀ k,k<(n+m)*7->(W1.cell? ⟨b,off+k,none⟩).isSome=true:=fun k hk=>by
  rw[nq]
  exact isSome_setCells b _ _ _ (fun j hj=>by rw[Nat.add_assoc];exact oC _ (by omega)) _ (oC k hk)
 have yM:Nat.min m (n+m-i)=m:=by simp only[Nat.min_def];split<;>omega
 have abt:∀ (W:World),(∀ x,W.cell? x=W1.cell? x)->(∀ x,W.frozen? x=W1.frozen? x)->∀ ty dc,(Builtin.copy_ #[29,29] ty #[.slice (some ⟨b,off+i*7,none⟩) (n+m-i) dc,.slice (some ⟨vb,gg,none⟩) m vc]).run Tryz.prog W=.ok (goInt m) (W.setCells b (off+i*7) vs):=fun W se zg ty dc=>by
  have h:=Ax (P:=Tryz.prog) 7 W 29 29 ty 81 b (off+i*7) (n+m-i) dc ⟨vb,gg,none⟩ m vc vs Tryz.underlying29 Tryz.sizeOf81 (by rw[yM,rT])
   (fun j v hj=>by
     rw[Addr.add_lit,se,nq,World.cell?_setCells_out b _ _ _ _ (fun h _=>absurd h Bu)]
     exact tv j v hj)
   (fun j hj=>by rw[se,Nat.add_assoc];exact aaF _ (by omega)) (fun j hj=>by rw[zg,nq,World.frozen?_setCells];exact BW _) Hi
  rw[yM]at h
  exact h
 rw[<-nq]at PR
 go_enter Tryz.func141,Tryz.ntmps141
 go_wp2_with (simp only[hov])
 go_region_law_o (refine step_copy_runI rfl _ _ 29 29 rfl _ _ (by simp[Act.eval,Act.put]) (by simp[Act.eval,Act.put]) (PR _ _ _) ?_)
 go_wp2_with (at_builtin;refine wpList_copy_runI _ rfl _ _ 29 29 rfl _ _ rfl rfl (abt _ (fun _=>rfl) (fun _=>rfl) _ _) ?_)
 go_ret
 first | exact⟨rfl,rfl⟩ | exact⟨rfl,by rw[nq]⟩
set_option maxHeartbeats 4000000 in
set_option maxRecDepth 100000 in
theorem aaj(b off n c i vb gg m vc:Nat)(cs vs:List Value)(w:World)(hi:i<n)(hm:0<m)(O9:n<=c)(lq:c<n+m)(abB:(n+m)*56<=140737488355328)
 (cA:cs.length=n*7) (rT:vs.length=m*7)
 (gF:∀ j v,cs[j]?=some v->w.cell? ⟨b,off+j,none⟩=some v)
 (tv:∀ j v,vs[j]?=some v->w.cell? ⟨vb,gg+j,none⟩=some v) (Hj:∀ v∈cs,v.oneCell'=true) (Hi:∀ v∈vs,v.oneCell'=true):
 Calls Tryz.prog 141 #[.slice (some ⟨b,off,none⟩) n c,.int .i64 i,.slice (some ⟨vb,gg,none⟩) m vc] w fun e w'=>
  e=.returned (.slice (some ⟨w.heap.size,0,none⟩) (n+m) (grownCap w (n+m) c 81))/\
  w'=(((w.alloc (.cells ((cs.take (i*7)).toArray++Builtin.zeroCells (.agg #[.int .i64 0,.int .i64 0,.int .i64 0,.int .i64 0,.int .i64 0,.int .i64 0,.int .i64 0]:Value).cells (n+m-i)++Builtin.zeroCells (.agg #[.int .i64 0,.int .i64 0,.int .i64 0,.int .i64 0,.int .i64 0,.int .i64 0,.int .i64 0]:Value).cells (grownCap w (n+m) c 81-(n+m))) 81)).drew.setCells w.heap.size (i*7) vs).drew).setCells w.heap.size ((i+m)*7) (cs.drop (i*7)):=by
 have mixed:Tryz.prog.follows Departure.mixedOrders=true:=by kernel_rfl
 have Cc:cC Tryz.prog 29=some (81,7,56):=by kernel_rfl
 have G3:bp Tryz.prog 81=some (.agg #[.int .i64 0,.int .i64 0,.int .i64 0,.int .i64 0,.int .i64 0,.int .i64 0,.int .i64 0]):=by kernel_rfl
 obtain⟨i0,Py,hz0,yo,Ov⟩:∃ i0,Tryz.prog.info? 81=some i0/\i0.zero=some (.agg #[.int .i64 0,.int .i64 0,.int .i64 0,.int .i64 0,.int .i64 0,.int .i64 0,.int .i64 0])/\i0.size=7/\i0.bytes=56:=by
  obtain⟨hu,i0,h1,h2,h3⟩:=jN Cc
  refine⟨i0,h1,?_,h2,h3⟩
  unfold bp at G3
  rw[h1]at G3
  exact G3
 have Ow:¬ ((m:Int)=0):=by omega
 have hz2:¬ ((i:Int)=(n:Int)):=by omega
 have hz3:(c:Int)<(n:Int)+(m:Int):=by omega
 have hbw:b<w.heap.size:=block_lt_of_cell (gF 0 _ (List.getElem?_eq_getElem (by omega)))
 have hvw:vb<w.heap.size:=block_lt_of_cell (tv 0 _ (List.getElem?_eq_getElem (by omega)))
 have BR:(n:Int)+(m:Int)-(i:Int)=((n+m-i:Nat):Int):=by omega
 have GC:i+(n+m-i)=n+m:=by omega
 have hold:(Builtin.firstCells i0.size i (.slice (some ⟨b,off,none⟩) i c)).run Tryz.prog w.drew=.ok (cs.take (i*7)).toArray w.drew:=by
  rw[yo]
  exact run_firstCells_some w.drew 7 i ⟨b,off,none⟩ i c (cs.take (i*7)) (by rw[List.length_take];omega) (fun j v hj=>by
   rw[Addr.add_lit]
   rw[List.getElem?_take]at hj
   split at hj
   ·exact gF j v hj
   ·cases hj)
 have wu:∀ ty,(Builtin.append_ #[29,3] ty #[.slice (some ⟨b,off,none⟩) i c,.int .i64 ((n:Int)+(m:Int)-(i:Int))]).run Tryz.prog w=
     .ok (.slice (some ⟨w.heap.size,0,none⟩) (n+m) (grownCap w (n+m) c 81)) (w.drew.alloc (.cells ((cs.take (i*7)).toArray++Builtin.zeroCells (.agg #[.int .i64 0,.int .i64 0,.int .i64 0,.int .i64 0,.int .i64 0,.int .i64 0,.int .i64 0]:Value).cells (n+m-i)++Builtin.zeroCells (.agg #[.int .i64 0,.int .i64 0,.int .i64 0,.int .i64 0,.int .i64 0,.int .i64 0,.int .i64 0]:Value).cells (grownCap w (n+m) c 81-(n+m))) 81)):=fun ty=>by
  have h:=Lib.run_append_grow_zeros w 29 3 ty 81 i0 _ .i64 .i64 Tryz.underlying29 Tryz.underlying3 Py hz0 (some ⟨b,off,none⟩) i c (cs.take (i*7)) hold (n+m-i) (by omega) (by omega) (by omega) (by omega) (by rw[Ov];omega) (by rw[Ov,GC];exact growslice_fits lq abB)
  rw[GC]at h
  rw[BR]
  exact h
 obtain⟨G,hG⟩:∃ G,G=grownCap w (n+m) c 81:=⟨_,rfl⟩
 obtain⟨ROW,uy⟩:∃ ROW:Array Value,ROW=(cs.take (i*7)).toArray++Builtin.zeroCells (.agg #[.int .i64 0,.int .i64 0,.int .i64 0,.int .i64 0,.int .i64 0,.int .i64 0,.int .i64 0]:Value).cells (n+m-i)++Builtin.zeroCells (.agg #[.int .i64 0,.int .i64 0,.int .i64 0,.int .i64 0,.int .i64 0,.int .i64 0,.int .i64 0]:Value).cells (G-(n+m)):=⟨_,rfl⟩
 rw[<-hG]at wu |-
 rw[<-uy]at wu |-
 have hRl:(n+m)*7<=ROW.size:=by
  rw[uy]
  simp[Builtin.zeroCells,Value.cells]
  omega
 obtain⟨W1,nq⟩:∃ W1,W1=w.drew.alloc (.cells ROW 81):=⟨_,rfl⟩
 rw[<-nq]at wu
 have hN:∀ j,j<(n+m)*7->(W1.cell? ⟨w.heap.size,j,none⟩).isSome=true:=fun j hj=>by
  rw[nq,World.cell?_alloc_at (w:=w.drew) ROW _ w.heap.size j rfl,Array.getElem?_eq_getElem (by omega)];rfl
 have P9:∀ j,W1.frozen? ⟨w.heap.size,j,none⟩=false:=fun j=>by rw[nq];exact World.frozen?_alloc_at (w:=w.drew) ROW _ w.heap.size j rfl
 have zi:∀ j v,w.cell? ⟨b,j,none⟩=some v->W1.cell? ⟨b,j,none⟩=some v:=fun j v h=>by rw[nq,World.cell?_alloc_past (w:=w.drew) _ b j hbw];exact h
 have hOv:∀ j v,w.cell? ⟨vb,j,none⟩=some v->W1.cell? ⟨vb,j,none⟩=some v:=fun j v h=>by rw[nq,World.cell?_alloc_past (w:=w.drew) _ vb j hvw];exact h
 have yM:Nat.min m (n+m-i)=m:=by simp only[Nat.min_def];split<;>omega
 have yN:Nat.min (n-i) (n+m-(i+m))=n-i:=by simp only[Nat.min_def];split<;>omega
 have abr:∀ (W:World),(∀ x,W.cell? x=W1.cell? x)->(∀ x,W.frozen? x=W1.frozen? x)->∀ ty dc,(Builtin.copy_ #[29,29] ty #[.slice (some ⟨w.heap.size,i*7,none⟩) (n+m-i) dc,.slice (some ⟨vb,gg,none⟩) m vc]).run Tryz.prog W=.ok (goInt m) (W.setCells w.heap.size (i*7) vs):=fun W se zg ty dc=>by
  have h:=Ax (P:=Tryz.prog) 7 W 29 29 ty 81 w.heap.size (i*7) (n+m-i) dc ⟨vb,gg,none⟩ m vc vs Tryz.underlying29 Tryz.sizeOf81 (by rw[yM,rT])
   (fun j v hj=>by rw[Addr.add_lit,se];exact hOv _ v (tv j v hj))
   (fun j hj=>by rw[se];exact hN _ (by omega)) (fun j hj=>by rw[zg];exact P9 _) Hi
  rw[yM]at h
  exact h
 have hGn:n+m<=G:=by rw[hG];exact grownCap_ge w _ _ _
 have ai4:G<=9223372036854775807:=by
  have :=grownCap_le_maxLen w (n+m) c 81 (by unfold maxLen;omega)
  rw[<-hG]at this
  unfold maxLen at this
  omega
 have hGi:¬ (G=i):=by omega
 have ai3:¬ (G=i+m):=by omega
 have PS:¬ (c=i):=by omega
 have hbN:b≠w.heap.size:=by omega
 have np:(cs.drop (i*7)).length=(n-i)*7:=by rw[List.length_drop,cA];try omega
 have PQ:∀ (W:World),(∀ x,W.cell? x=(W1.setCells w.heap.size (i*7) vs).cell? x)->(∀ x,W.frozen? x=(W1.setCells w.heap.size (i*7) vs).frozen? x)->∀ ty dc sc,(Builtin.copy_ #[29,29] ty #[.slice (some ⟨w.heap.size,(i+m)*7,none⟩) (n+m-(i+m)) dc,.slice (some ⟨b,off+i*7,none⟩) (n-i) sc]).run Tryz.prog W=.ok (goInt (n-i:Nat)) (W.setCells w.heap.size ((i+m)*7) (cs.drop (i*7))):=fun W se zg ty dc sc=>by
  have h:=Ax (P:=Tryz.prog) 7 W 29 29 ty 81 w.heap.size ((i+m)*7) (n+m-(i+m)) dc ⟨b,off+i*7,none⟩ (n-i) sc (cs.drop (i*7)) Tryz.underlying29 Tryz.sizeOf81 (by rw[np,yN])
   (fun j v hj=>by
     rw[Addr.add_lit,se,World.cell?_setCells_out _ _ _ _ _ (fun h _=>absurd h hbN),Nat.add_assoc]
     exact zi _ v (gF (i*7+j) v (by rwa [List.getElem?_drop]at hj)))
   (fun j hj=>by rw[se];exact isSome_setCells _ _ _ _ (fun t ht=>hN _ (by omega)) _ (hN _ (by omega)))
   (fun j hj=>by rw[zg,World.frozen?_setCells];exact P9 _) (fun v hv=>Hj v (List.mem_of_mem_drop hv))
  rw[yN]at h
  exact h
 subst nq
 have hE1:∀ x,((w.alloc (.cells ROW 81)).drew).cell? x=(w.drew.alloc (.cells ROW 81)).cell? x:=fun x=>rfl
 have hE2:∀ x,((w.alloc (.cells ROW 81)).drew).frozen? x=(w.drew.alloc (.cells ROW 81)).frozen? x:=fun x=>rfl
 have hF1:∀ x,(((w.alloc (.cells ROW 81)).drew.setCells w.heap.size (i*7) vs).drew).cell? x=((w.drew.alloc (.cells ROW 81)).setCells w.heap.size (i*7) vs).cell? x:=fun x=>rfl
 have hF2:∀ x,(((w.alloc (.cells ROW 81)).drew.setCells w.heap.size (i*7) vs).drew).frozen? x=((w.drew.alloc (.cells ROW 81)).setCells w.heap.size (i*7) vs).frozen? x:=fun x=>rfl
 have kG:IntKind.i64.wrap ((i:Int)+(m:Int))=(i:Int)+(m:Int):=by rw[IntKind.wrap_i64];omega
 have oT:(0:Int)<=(i:Int)+(m:Int):=by omega
 have dL:i<=n:=by omega
 have yy:((i:Int)+(m:Int)).toNat=i+m:=by omega
 have hb3:(i:Int)<=(n:Int):=by omega
 clear BR GC hold uy hG hRl
 go_enter Tryz.func141,Tryz.ntmps141
 go_wp2_with (first
  |(at_builtin;refine Lib.wpList_append_run _ rfl _ _ _ _ rfl _ _ rfl rfl _ _ (wu _) ?_)
  |(at_builtin;refine wpList_copy_runI _ rfl _ _ 29 29 rfl _ _ rfl rfl (abr _ hE1 hE2 _ _) ?_)
  |(at_builtin;refine wpList_copy_runI _ rfl _ _ 29 29 rfl _ _ rfl rfl (PQ _ (fun _=>rfl) (fun _=>rfl) _ _ _) ?_))
 go_region_law_o (refine step_copy_runI rfl _ _ 29 29 rfl (.slice (some ⟨w.heap.size,(i+m)*7,none⟩) (n+m-(i+m)) (G-(i+m))) (.slice (some ⟨b,off+i*7,none⟩) (n-i) (c-i)) (by simp[Act.eval,Act.put]) (by simp[Act.eval,Act.put]) (PQ _ hF1 hF2 3 (G-(i+m)) (c-i)) ?_)
 go_wp2
 go_ret
 exact⟨rfl,rfl⟩
set_option maxHeartbeats 4000000 in
set_option maxRecDepth 100000 in
theorem aai(base:Option Addr)(n c vb gg m vc:Nat)(w:World)(v':Value)(w':World)(hm:0<m)(hn:n<=c)(abz:c<=9223372036854775807)
 (cP:∀ ty,(Builtin.append_ #[29,29] ty #[.slice base n c,.slice (some ⟨vb,gg,none⟩) m vc]).run Tryz.prog w=.ok v' w'):
 Calls Tryz.prog 141 #[.slice base n c,.int .i64 n,.slice (some ⟨vb,gg,none⟩) m vc] w fun e w1=>e=.returned v'/\w1=w':=by
 have mixed:Tryz.prog.follows Departure.mixedOrders=true:=by kernel_rfl
 have Ow:¬ ((m:Int)=0):=by omega
 go_enter Tryz.func141,Tryz.ntmps141
 cases base with
 |none=>
  go_wp2_with (at_builtin;refine Lib.wpList_append_run _ rfl _ _ _ _ rfl _ _ rfl rfl _ _ (cP _) ?_)
  all_goals (go_ret;exact⟨rfl,rfl⟩)
 |some a=>
  obtain⟨ab,ao,asp⟩:=a
  go_wp2_with (at_builtin;refine Lib.wpList_append_run _ rfl _ _ _ _ rfl _ _ rfl rfl _ _ (cP _) ?_)
  all_goals (go_ret;exact⟨rfl,rfl⟩)
end Go.Eng
set_option linter.unusedVariables false
namespace Go.Eng
open Go Go.Proofs Go.RowKit Go.Lib Go.Shelf
set_option maxHeartbeats 2000000 in
set_option maxRecDepth 100000 in
theorem ac8(n c:Nat)(w:World):Calls Tryz.prog 132 #[.slice none n c] w fun e w'=>e=.returned (.slice none 0 0)/\w'=w:=by
 have mixed:Tryz.prog.follows Departure.mixedOrders=true:=by kernel_rfl
 have qT:∀ (w:World) (a:Option Addr) (n c n' c':Nat),(binOp .eql 29 (.slice a n c) (.slice none n' c')).run Tryz.prog w=.ok (.bool a.isNone) w:=fun w a n c n' c'=>Lib.run_eql_slice_nil w _ _ a n c n' c' Tryz.underlying29
 go_enter Tryz.func132,Tryz.ntmps132
 go_wp2
 go_ret
 exact⟨rfl,rfl⟩
set_option maxHeartbeats 2000000 in
set_option maxRecDepth 100000 in
theorem ac7(a:Addr)(n c:Nat)(w:World)(v':Value)(w':World)
 (cP:∀ ty,(Builtin.append_ #[29,29] ty #[.slice (some ⟨w.heap.size,0,none⟩) 0 0,.slice (some a) n c]).run Tryz.prog (w.alloc (.cells #[] 81))=.ok v' w'):
 Calls Tryz.prog 132 #[.slice (some a) n c] w fun e w1=>e=.returned v'/\w1=w':=by
 have mixed:Tryz.prog.follows Departure.mixedOrders=true:=by kernel_rfl
 have qT:∀ (w:World) (a:Option Addr) (n c n' c':Nat),(binOp .eql 29 (.slice a n c) (.slice none n' c')).run Tryz.prog w=.ok (.bool a.isNone) w:=fun w a n c n' c'=>Lib.run_eql_slice_nil w _ _ a n c n' c' Tryz.underlying29
 go_enter Tryz.func132,Tryz.ntmps132
 go_wp2_with (at_builtin;refine Lib.wpList_append_run _ rfl _ _ _ _ rfl _ _ rfl rfl _ _ (cP _) ?_)
 go_ret
 exact⟨rfl,rfl⟩
set_option maxHeartbeats 2000000 in
set_option maxRecDepth 100000 in
theorem ac6(n c:Nat)(w:World):Calls Tryz.prog 176 #[.slice none n c] w fun e w'=>e=.returned (.slice none 0 0)/\w'=w:=by
 have mixed:Tryz.prog.follows Departure.mixedOrders=true:=by kernel_rfl
 have qT:∀ (w:World) (a:Option Addr) (n c n' c':Nat),(binOp .eql 26 (.slice a n c) (.slice none n' c')).run Tryz.prog w=.ok (.bool a.isNone) w:=fun w a n c n' c'=>Lib.run_eql_slice_nil w _ _ a n c n' c' Tryz.underlying26
 go_enter Tryz.func176,Tryz.ntmps176
 go_wp2
 go_ret
 exact⟨rfl,rfl⟩
set_option maxHeartbeats 2000000 in
set_option maxRecDepth 100000 in
theorem ac5(a:Addr)(n c:Nat)(w:World)(v':Value)(w':World)
 (cP:∀ ty,(Builtin.append_ #[26,26] ty #[.slice (some ⟨w.heap.size,0,none⟩) 0 0,.slice (some a) n c]).run Tryz.prog (w.alloc (.cells #[] 46))=.ok v' w'):
 Calls Tryz.prog 176 #[.slice (some a) n c] w fun e w1=>e=.returned v'/\w1=w':=by
 have mixed:Tryz.prog.follows Departure.mixedOrders=true:=by kernel_rfl
 have qT:∀ (w:World) (a:Option Addr) (n c n' c':Nat),(binOp .eql 26 (.slice a n c) (.slice none n' c')).run Tryz.prog w=.ok (.bool a.isNone) w:=fun w a n c n' c'=>Lib.run_eql_slice_nil w _ _ a n c n' c' Tryz.underlying26
 go_enter Tryz.func176,Tryz.ntmps176
 go_wp2_with (at_builtin;refine Lib.wpList_append_run _ rfl _ _ _ _ rfl _ _ rfl rfl _ _ (cP _) ?_)
 go_ret
 exact⟨rfl,rfl⟩
set_option maxHeartbeats 2000000 in
set_option maxRecDepth 100000 in
theorem ac4(n c:Nat)(w:World):Calls Tryz.prog 177 #[.slice none n c] w fun e w'=>e=.returned (.slice none 0 0)/\w'=w:=by
 have mixed:Tryz.prog.follows Departure.mixedOrders=true:=by kernel_rfl
 have qT:∀ (w:World) (a:Option Addr) (n c n' c':Nat),(binOp .eql 27 (.slice a n c) (.slice none n' c')).run Tryz.prog w=.ok (.bool a.isNone) w:=fun w a n c n' c'=>Lib.run_eql_slice_nil w _ _ a n c n' c' Tryz.underlying27
 go_enter Tryz.func177,Tryz.ntmps177
 go_wp2
 go_ret
 exact⟨rfl,rfl⟩
set_option maxHeartbeats 2000000 in
set_option maxRecDepth 100000 in
theorem ac3(a:Addr)(n c:Nat)(w:World)(v':Value)(w':World)
 (cP:∀ ty,(Builtin.append_ #[27,27] ty #[.slice (some ⟨w.heap.size,0,none⟩) 0 0,.slice (some a) n c]).run Tryz.prog (w.alloc (.cells #[] 36))=.ok v' w'):
 Calls Tryz.prog 177 #[.slice (some a) n c] w fun e w1=>e=.returned v'/\w1=w':=by
 have mixed:Tryz.prog.follows Departure.mixedOrders=true:=by kernel_rfl
 have qT:∀ (w:World) (a:Option Addr) (n c n' c':Nat),(binOp .eql 27 (.slice a n c) (.slice none n' c')).run Tryz.prog w=.ok (.bool a.isNone) w:=fun w a n c n' c'=>Lib.run_eql_slice_nil w _ _ a n c n' c' Tryz.underlying27
 go_enter Tryz.func177,Tryz.ntmps177
 go_wp2_with (at_builtin;refine Lib.wpList_append_run _ rfl _ _ _ _ rfl _ _ rfl rfl _ _ (cP _) ?_)
 go_ret
 exact⟨rfl,rfl⟩
set_option maxHeartbeats 2000000 in
set_option maxRecDepth 100000 in
theorem ac2(n c:Nat)(w:World):Calls Tryz.prog 178 #[.slice none n c] w fun e w'=>e=.returned (.slice none 0 0)/\w'=w:=by
 have mixed:Tryz.prog.follows Departure.mixedOrders=true:=by kernel_rfl
 have qT:∀ (w:World) (a:Option Addr) (n c n' c':Nat),(binOp .eql 28 (.slice a n c) (.slice none n' c')).run Tryz.prog w=.ok (.bool a.isNone) w:=fun w a n c n' c'=>Lib.run_eql_slice_nil w _ _ a n c n' c' Tryz.underlying28
 go_enter Tryz.func178,Tryz.ntmps178
 go_wp2
 go_ret
 exact⟨rfl,rfl⟩
set_option maxHeartbeats 2000000 in
set_option maxRecDepth 100000 in
theorem ac1(a:Addr)(n c:Nat)(w:World)(v':Value)(w':World)
 (cP:∀ ty,(Builtin.append_ #[28,28] ty #[.slice (some ⟨w.heap.size,0,none⟩) 0 0,.slice (some a) n c]).run Tryz.prog (w.alloc (.cells #[] 40))=.ok v' w'):
 Calls Tryz.prog 178 #[.slice (some a) n c] w fun e w1=>e=.returned v'/\w1=w':=by
 have mixed:Tryz.prog.follows Departure.mixedOrders=true:=by kernel_rfl
 have qT:∀ (w:World) (a:Option Addr) (n c n' c':Nat),(binOp .eql 28 (.slice a n c) (.slice none n' c')).run Tryz.prog w=.ok (.bool a.isNone) w:=fun w a n c n' c'=>Lib.run_eql_slice_nil w _ _ a n c n' c' Tryz.underlying28
 go_enter Tryz.func178,Tryz.ntmps178
 go_wp2_with (at_builtin;refine Lib.wpList_append_run _ rfl _ _ _ _ rfl _ _ rfl rfl _ _ (cP _) ?_)
 go_ret
 exact⟨rfl,rfl⟩
set_option maxHeartbeats 2000000 in
set_option maxRecDepth 100000 in
theorem ac0(n c:Nat)(w:World):Calls Tryz.prog 179 #[.slice none n c] w fun e w'=>e=.returned (.slice none 0 0)/\w'=w:=by
 have mixed:Tryz.prog.follows Departure.mixedOrders=true:=by kernel_rfl
 have qT:∀ (w:World) (a:Option Addr) (n c n' c':Nat),(binOp .eql 32 (.slice a n c) (.slice none n' c')).run Tryz.prog w=.ok (.bool a.isNone) w:=fun w a n c n' c'=>Lib.run_eql_slice_nil w _ _ a n c n' c' Tryz.underlying32
 go_enter Tryz.func179,Tryz.ntmps179
 go_wp2
 go_ret
 exact⟨rfl,rfl⟩
set_option maxHeartbeats 2000000 in
set_option maxRecDepth 100000 in
theorem acZ(a:Addr)(n c:Nat)(w:World)(v':Value)(w':World)
 (cP:∀ ty,(Builtin.append_ #[32,32] ty #[.slice (some ⟨w.heap.size,0,none⟩) 0 0,.slice (some a) n c]).run Tryz.prog (w.alloc (.cells #[] 3))=.ok v' w'):
 Calls Tryz.prog 179 #[.slice (some a) n c] w fun e w1=>e=.returned v'/\w1=w':=by
 have mixed:Tryz.prog.follows Departure.mixedOrders=true:=by kernel_rfl
 have qT:∀ (w:World) (a:Option Addr) (n c n' c':Nat),(binOp .eql 32 (.slice a n c) (.slice none n' c')).run Tryz.prog w=.ok (.bool a.isNone) w:=fun w a n c n' c'=>Lib.run_eql_slice_nil w _ _ a n c n' c' Tryz.underlying32
 go_enter Tryz.func179,Tryz.ntmps179
 go_wp2_with (at_builtin;refine Lib.wpList_append_run _ rfl _ _ _ _ rfl _ _ rfl rfl _ _ (cP _) ?_)
 go_ret
 exact⟨rfl,rfl⟩
def Z81:Value:=.agg #[.int .i64 0,.int .i64 0,.int .i64 0,.int .i64 0,.int .i64 0,.int .i64 0,.int .i64 0]
def Z46:Value:=.agg #[.int .i64 0,.int .i64 0]
def Z36:Value:=.agg #[.int .i64 0,.int .i64 0,.int .i64 0,.slice none 0 0,.int .i64 0,.int .i64 0,.int .i64 0]
def Z40:Value:=.agg #[.int .i64 0,.int .i64 0,.int .i64 0,.slice none 0 0,.int .i64 0,.int .i64 0,.int .i64 0,.int .i64 0]
theorem mU(n:Nat)(h:n<1000000000):n≠yid:=by unfold yid;omega
theorem aak:Ta Tryz.prog 141 29 81 7 56 Z81:=
 ⟨by kernel_rfl,by kernel_rfl,by kernel_rfl,by decide,mU _ (by decide),jb Tryz.func141 (by rfl) (by kernel_rfl),
   aah,aaj,aai⟩
theorem Rw:sJ Tryz.prog 132 29 81 7 56 Z81:=
 ⟨by kernel_rfl,by kernel_rfl,mU _ (by decide),jb Tryz.func132 (by rfl) (by kernel_rfl),ac8,ac7⟩
theorem Rv:sJ Tryz.prog 176 26 46 2 16 Z46:=
 ⟨by kernel_rfl,by kernel_rfl,mU _ (by decide),jb Tryz.func176 (by rfl) (by kernel_rfl),ac6,ac5⟩
theorem Ru:sJ Tryz.prog 177 27 36 7 72 Z36:=
 ⟨by kernel_rfl,by kernel_rfl,mU _ (by decide),jb Tryz.func177 (by rfl) (by kernel_rfl),ac4,ac3⟩
theorem Rt:sJ Tryz.prog 178 28 40 8 80 Z40:=
 ⟨by kernel_rfl,by kernel_rfl,mU _ (by decide),jb Tryz.func178 (by rfl) (by kernel_rfl),ac2,ac1⟩
theorem Rs:sJ Tryz.prog 179 32 3 1 8 (.int .i64 0):=
 ⟨by kernel_rfl,by kernel_rfl,mU _ (by decide),jb Tryz.func179 (by rfl) (by kernel_rfl),ac0,acZ⟩
open Go Go.Proofs
def fQ(l:List Int):List (V×V):=l.map fun s=>(vInt s,.bool true)
def pF(es:List (V×V)):List Int:=es.map fun q=>kQ q.1
@[go_sem] theorem acv(l:List Int):pF (fQ l)=l:=by
  unfold pF fQ
  rw[List.map_map]
  exact List.map_id _
def sC(l:List Int)(s:Int):List Int:=if l.contains s then l else l++[s]
theorem XL(l:List Int)(s:Int):fF (fQ l) (vInt s)=if l.contains s then some (.bool true)else none:=by
 induction l with
 |nil=>rfl
 |cons a r ih=>
  show (if fW (vInt a) (vInt s)=true then some (V.bool true)else fF (fQ r) (vInt s))=_
  rw[ih]
  by_cases h:a=s
  ·subst h;simp[fW]
  ·have h':(a==s)=false:=by simpa using h
   have iy:(s==a)=false:=by simpa using fun e=>h e.symm
   have h3:¬ s=a:=fun e=>h e.symm
   simp[fW,h',h3]
theorem E6(l:List Int)(s:Int):(fF (fQ l) (vInt s)).getD (.bool false)=.bool (l.contains s):=by
 rw[XL]
 cases l.contains s<;>rfl
theorem E1(l:List Int)(s:Int):eG (fQ l) (vInt s) (.bool true)=fQ (sC l s):=by
 induction l with
 |nil=>rfl
 |cons a r ih=>
  show (if fW (vInt a) (vInt s)=true then(vInt s,V.bool true)::fQ r else(vInt a,V.bool true)::eG (fQ r) (vInt s) (.bool true))=_
  rw[ih]
  unfold sC
  by_cases h:a=s
  ·subst h;simp[fW,fQ]
  ·have h':(a==s)=false:=by simpa using h
   have iy:(s==a)=false:=by simpa using fun e=>h e.symm
   simp only[fW,h',Bool.false_eq_true,if_false,List.contains_cons,iy,Bool.false_or]
   split<;>rfl
def EF(obj:Name->Option O)(_:Name):List D->List Name
 |[_,.ref nm _]=>nm::(match obj nm with | some (.box [.map mm])=>[mm] | _=>[])
 |_=>[]
def rC(obj:Name->Option O)(_:Name):List D->R
 |[.v (.int .i64 s),.ref nm 0]=>match obj nm with
  |some (.box [.map mm])=>match obj mm with
   |some (.map 0 es)=>⟨(mm==nm)=false/\fQ (pF es)=es,.v (.bool (!(pF es).contains s)),upd obj mm (some (.map 0 (fQ (sC (pF es) s))))⟩
   |_=>.bad obj
  |_=>.bad obj
 |_=>.bad obj
def onceS:Spec:=⟨rC,EF,EF⟩
theorem WS:onceS.Near:=by
 refine xX fun obj obj2 t ds ha=>?_
 unfold EF at ha |-
 split
 ·rename_i d nm off
  simp only at ha
  have h1:obj2 nm=obj nm:=ha nm (by simp)
  refine⟨by rw[h1],?_⟩
  have iq:∀ wr,bX wr obj obj2->b8 (R.bad obj) (R.bad obj2) obj obj2 wr:=fun wr h=>.none wr h
  unfold rC
  split
  ·rename_i s k9 e
   simp only[List.cons.injEq,D.ref.injEq,and_true]at e
   obtain⟨_,rfl,rfl⟩:=e
   simp only[h1]
   split at ha
   ·rename_i mm hm
    have h2:obj2 mm=obj mm:=ha mm (by simp)
    simp only[h2,hm]
    split
    ·exact .one (by simp) ha
    ·exact iq _ ha
   ·exact iq _ ha
  ·exact iq _ ha
 ·refine⟨rfl,?_⟩
  rename_i nl
  unfold rC
  split
  ·exact(nl _ _ _ rfl).elim
  ·exact .none _ (fun _ h=>by cases h)
attribute [go_sem] onceS rC
def xS:CSpec where
 pre:=fun os ds=>∃ (ss:List Int) (s:Int),os=[.box [.map [1,1]],.map 0 (fQ ss)]/\ds=[.v (vInt s),.ref [0,1] 0]
 out:=fun os ds=>match os,ds with
  |[_,.map _ es],[.v (.int _ s),_]=>⟨[(1,.map 0 (fQ (sC (pF es) s)))],[],.v (.bool (!(pF es).contains s))⟩
  |_,_=>⟨[],[],.any⟩
theorem WR{f:FuncId}(h:aT Tryz.prog f xS.toSpec)(aH:f≠yid):aT Tryz.prog f onceS:=by
 refine xw h WS aH fun obj t ds aa=>?_
 change (rC obj t ds).ok at aa
 refine⟨ds,rfl,fun _ _ _ _ h=>h,?_⟩
 show _/\_=(rC obj t ds).d/\_=(rC obj t ds).obj
 unfold rC at aa |-
 split at aa
 ·rename_i s nm
  split at aa
  ·rename_i mm hb
   split at aa
   ·rename_i es hm
    obtain⟨ni,uo⟩:=aa
    have Gj:mm≠nm:=by simpa using ni
    have hbe:(nm==mm)=false:=by simpa using fun e=>Gj e.symm
    have hr:reach obj [.v (.int .i64 s),.ref nm 0]=[nm,mm]:=by
     unfold reach
     show dW obj (2997+1+1+1) [nm] []=[nm,mm]
     simp only[dW,dj,List.any_nil,Bool.false_eq_true,if_false,hb,mW,dw,mX,List.nil_append,List.append_nil,List.any_cons,hbe,Bool.or_false,hm,List.cons_append]
    have i0:idx [nm,mm] nm=0:=by simp[idx]
    have i1:idx [nm,mm] mm=1:=by simp[idx,Ne.symm Gj]
    have e1:cS obj [.v (.int .i64 s),.ref nm 0]=[.box [.map [1,1]],.map 0 es]:=by
     unfold cS
     rw[hr]
     simp only[List.map_cons,List.map_nil,cX,hb,hm,O.ren,D.renL,D.ren,cin,i1]
    have e2:dr obj [.v (.int .i64 s),.ref nm 0]=[.v (.int .i64 s),.ref [0,1] 0]:=by
     unfold dr
     rw[hr]
     simp only[D.renL,D.ren,cin,i0]
    have j7:xS.out [.box [.map [1,1]],.map 0 es] [.v (.int .i64 s),.ref [0,1] 0]=⟨[(1,.map 0 (fQ (sC (pF es) s)))],[],.v (.bool (!(pF es).contains s))⟩:=rfl
    have eB:xS.pre [.box [.map [1,1]],.map 0 es] [.v (.int .i64 s),.ref [0,1] 0]:=⟨pF es,s,by rw[uo],rfl⟩
    have e3:(shut obj [nm,mm]&&D.closL (dj [nm,mm]) [.v (.int .i64 s),.ref nm 0]&&fresh obj t [])=true:=by
     simp[shut,hb,hm,O.clos,D.closL,D.clos,dj,fresh]
    simp only[CSpec.toSpec,e1,e2,hr,j7,e3,eB,hb,hm,and_self,dQ,cU,D.ren,D.renL,O.ren,cout,List.getD_cons_zero,List.getD_cons_succ]
   ·exact aa.elim
  ·exact aa.elim
 ·exact aa.elim
set_option maxHeartbeats 8000000
noncomputable section
def S117:Spec:=onceS
attribute [go_sem] S117
theorem Z5:aT Tryz.prog 117 S117:=by
 refine WR ?_ (mU _ (by decide))
 refine pI (nt:=12) (rs:=[.tmp 3]) Tryz.func117 rfl (by rfl) (by kernel_rfl) (jb Tryz.func117 rfl (by kernel_rfl)) (mU _ (by decide)) ?_
 rintro os ds ⟨ss,s,rfl,rfl⟩
 refine⟨Nat.le_of_ble_eq_true rfl,?_⟩
 have j7:xS.out [.box [.map [1,1]],.map 0 (fQ ss)] [.v (vInt s),.ref [0,1] 0]=⟨[(1,.map 0 (fQ (sC ss s)))],[],.v (.bool (!ss.contains s))⟩:=by
  simp only[xS,acv]
 rw[j7]
 refine kg ?_
 have hΓ:=@fD Tryz.prog
 have eh:∀ hs,cG [0] (cv [0] hs) (ba [.box [.map [1,1]],.map 0 (fQ ss)])=True:=fun hs=>eq_true (p7 (by
  intro o ho dom hd
  simp only[List.mem_cons,List.not_mem_nil,or_false]at ho
  rcases ho with rfl | rfl
  ·simp[O.clos,D.closL,D.clos,hd]
  ·rfl) hs)
 have h0:ba [.box [.map [1,1]],.map 0 (fQ ss)] [0,1]=some (.box [.map [1,1]]):=rfl
 have h1:ba [.box [.map [1,1]],.map 0 (fQ ss)] [1,1]=some (.map 0 (fQ ss)):=rfl
 generalize hH:ba [.box [.map [1,1]],.map 0 (fQ ss)]=H at *
 have ah:∀ hs es,cG [0] (cv [0] hs) (upd H [1,1] (some (.map 0 es)))=True:=fun hs es=>eq_true (vd rfl (by rw[eh];trivial))
 have bt:∀ hs es,cG [0] (cv [0] hs) (fun nm=>if nm=[1,1]then some (.map 0 es)else H nm)=True:=ah
 repeat refine sq ?_
 refine rx hΓ [0,1] [] (fun K' hK=>by simp only[go_sem,eh];(repeat (refine⟨ob,?_⟩));exact hK _ (by simp only[go_sem,eh]) (by simp only[go_sem,eh]<;>rfl)) ?_
 repeat refine sq ?_
 refine rx hΓ [0,1,4] [] (fun K' hK=>by simp only[go_sem,eh,h0,h1,E6];(repeat (refine⟨ob,?_⟩));exact hK _ (by simp only[go_sem,eh,h0,h1,E6]) (by simp only[go_sem,eh,h0,h1,E6]<;>rfl)) ?_
 repeat refine sq ?_
 refine rx hΓ [4] [] (fun K' hK=>by simp only[go_sem,eh,ah,bt,h0,h1,E1];(repeat (refine⟨ob,?_⟩));exact hK _ (by simp only[go_sem,eh,ah,bt,h0,h1,E1]) (by simp only[go_sem,eh,ah,bt,h0,h1,E1]<;>rfl)) ?_
 repeat refine sq ?_
 refine rx hΓ [3] [] (fun K' hK=>by simp only[go_sem,eh,ah,bt];(repeat (refine⟨ob,?_⟩));exact hK _ (by simp only[go_sem,eh,ah,bt]) (by simp only[go_sem,eh,ah,bt]<;>rfl)) ?_
 refine aB ?_
 simp only[go_sem]
 exact⟨h0,rfl⟩
def K7:List (Nat×Spec):=[(109,aew),(111,aeu),(113,aes),(115,aeq),(117,S117),(79,zO)]
theorem aeJ:KS K7:=tc VI.sound<|tc VG.sound<|tc VE.sound<|tc VC.sound<|tc Z5<|tc Au.sound<|tn
attribute [go_sem] K7
def sn{α:Type}(pre:List Int)(f:α->Int)(l:List α)(i:Nat):List Int:=(l.take i).foldl (fun a x=>a++[f x]) pre
theorem pW{α:Type}(pre:List Int)(f:α->Int)(l:List α)(i:Nat):sn pre f l i=pre++(l.take i).map f:=by
 unfold sn
 generalize l.take i=k
 induction k generalizing pre with
 |nil=>simp
 |cons a r ih=>simp[ih]
theorem DR{α:Type}{pre:List Int}{f:α->Int}{l:List α}{i:Nat}(h:i<l.length)(hc:(sn pre f l i).contains (f l[i])=false):sC (sn pre f l i) (f l[i])=sn pre f l (i+1):=by
 unfold sC
 rw[hc,pW,pW,List.take_add_one,List.getElem?_eq_getElem h]
 simp only[Bool.false_eq_true,if_false,Option.toList_some,List.map_append,List.map_cons,List.map_nil,List.append_assoc]
def ql(l:List Int):Int:=l.getD (l.length-1) 0
def lT(l:Led):List Int:=l.rs.map Rec.so++l.ts.map Ret.so++l.ss.map Sig.so
structure bw (l:Led):Prop where
 ps:jI pj Pap.id l.ps=true
 psn:l.ps.length<=12
 rs:jI dP Rec.so l.rs=true
 rsn:l.rs.length<=60
 ts:jI jQ Ret.so l.ts=true
 tsn:l.ts.length<=60
 ss:jI iE Sig.so l.ss=true
 ssn:l.ss.length<=60
 rl:∀ j (h:j<l.rs.length),ql l.rs[j].lv<=bT l.ps l.rs[j].pa
 sl:∀ j (h:j<l.ss.length),l.ss[j].le<=bT l.ps l.ss[j].pa
 nd:(lT l).Nodup
open Classical in
def p8(l:Led):Bool:=decide (bw l)
theorem xU{l:Led}:p8 l=true↔bw l:=by unfold p8;exact @decide_eq_true_iff _ (Classical.propDecidable _)
def mD(l:Led):Int:=gY (p8 l) 24
theorem zz{l:Led}(h:¬ bw l):mD l=24:=by unfold mD;rw[w9 xU h];rfl
theorem adf{l:Led}(h:bw l):mD l=0:=by unfold mD;rw[xU.2 h];rfl
def mV{α:Type}(pre:List Int)(f:α->Int)(l:List α)(i:Nat):Prop:=∀ j (h:j<l.length),j<i->(sn pre f l j).contains (f l[j])=false
theorem EW{α:Type}{pre:List Int}{f:α->Int}{l:List α}{i:Nat}(h:mV pre f l i)(hi:i<l.length)(hc:(sn pre f l i).contains (f l[i])=false):mV pre f l (i+1):=by
 intro j hj ff
 rcases Nat.lt_succ_iff_lt_or_eq.1 ff with h1 | rfl
 ·exact h j hj h1
 ·exact hc
theorem vS{α:Type}{pre:List Int}{f:α->Int}{l:List α}(hp:pre.Nodup):mV pre f l l.length↔(pre++l.map f).Nodup:=by
 constructor
 ·intro h
  rw[List.nodup_append]
  refine⟨hp,?_,?_⟩
  ·rw[List.nodup_iff_pairwise_ne,List.pairwise_map,List.pairwise_iff_getElem]
   intro i j hi hj bJ e
   have :=h j hj hj
   rw[pW]at this
   simp only[List.contains_append,Bool.or_eq_false_iff]at this
   have h2:=this.2
   have :(List.map f (List.take j l)).contains (f l[j])=true:=by
    rw[List.contains_iff_mem,List.mem_map]
    exact⟨l[i],by rw[List.mem_take_iff_getElem];exact⟨i,by omega,rfl⟩,e⟩
   rw[h2]at this;cases this
  ·intro a ha b hb e
   subst e
   obtain⟨x,hx,rfl⟩:=List.mem_map.1 hb
   obtain⟨j,hj,rfl⟩:=List.getElem_of_mem hx
   have :=h j hj hj
   rw[pW]at this
   simp only[List.contains_append,Bool.or_eq_false_iff]at this
   have h2:=this.1
   rw[List.contains_iff_mem.2 ha]at h2;cases h2
 ·intro h j hj _
  rw[List.nodup_append]at h
  obtain⟨_,h1,h2⟩:=h
  rw[pW,Bool.eq_false_iff]
  intro hc
  rw[List.contains_iff_mem,List.mem_append]at hc
  rcases hc with hc | hc
  ·exact h2 _ hc _ (List.mem_map_of_mem (List.getElem_mem hj)) rfl
  ·obtain⟨x,hx,e⟩:=List.mem_map.1 hc
   obtain⟨i,hi,rfl⟩:=List.mem_take_iff_getElem.1 hx
   rw[List.nodup_iff_pairwise_ne,List.pairwise_map,List.pairwise_iff_getElem]at h1
   exact h1 i j (by omega) hj (by omega) e
theorem LF{α:Type}{pre:List Int}{f:α->Int}{l:List α}(h:(pre++l.map f).Nodup):pre.Nodup:=(List.nodup_append.1 h).1
def V'(l:Led)(i:Nat):Prop:=∀ j (h:j<l.rs.length),j<i->ql l.rs[j].lv<=bT l.ps l.rs[j].pa
def T5(l:Led)(i:Nat):Prop:=∀ j (h:j<l.ss.length),j<i->l.ss[j].le<=bT l.ps l.ss[j].pa
theorem IV{l:Led}(h:bw l):mV [] Rec.so l.rs l.rs.length/\mV (sn [] Rec.so l.rs l.rs.length) Ret.so l.ts l.ts.length/\mV (sn (sn [] Rec.so l.rs l.rs.length) Ret.so l.ts l.ts.length) Sig.so l.ss l.ss.length:=by
 have hn:=h.nd
 unfold lT at hn
 have e1:sn [] Rec.so l.rs l.rs.length=l.rs.map Rec.so:=by rw[pW,List.take_length];rfl
 have e2:sn (sn [] Rec.so l.rs l.rs.length) Ret.so l.ts l.ts.length=l.rs.map Rec.so++l.ts.map Ret.so:=by rw[pW,e1,List.take_length]
 have n2:=LF hn
 have n1:=LF n2
 refine⟨(vS (by simp)).2 (by simpa using n1),?_,?_⟩
 ·rw[e1];exact(vS n1).2 n2
 ·rw[e2];exact(vS n2).2 hn
theorem aeD{l:Led}(h1:mV [] Rec.so l.rs l.rs.length)(h2:mV (sn [] Rec.so l.rs l.rs.length) Ret.so l.ts l.ts.length)(h3:mV (sn (sn [] Rec.so l.rs l.rs.length) Ret.so l.ts l.ts.length) Sig.so l.ss l.ss.length):(lT l).Nodup:=by
 have e1:sn [] Rec.so l.rs l.rs.length=l.rs.map Rec.so:=by rw[pW,List.take_length];rfl
 have e2:sn (sn [] Rec.so l.rs l.rs.length) Ret.so l.ts l.ts.length=l.rs.map Rec.so++l.ts.map Ret.so:=by rw[pW,e1,List.take_length]
 have n1:(l.rs.map Rec.so).Nodup:=by simpa using(vS (pre:=[]) (by simp)).1 h1
 have n2:=(vS n1).1 (by rw[e1]at h2;exact h2)
 exact(vS n2).1 (by rw[e2]at h3;exact h3)
theorem adp{a b c d:Bool}{p q r s:Prop}[Decidable p][Decidable q][Decidable r][Decidable s](h:(!(a&&decide p)||!(b&&decide q)||!(c&&decide r)||!(d&&decide s))=false):a=true/\p/\b=true/\q/\c=true/\r/\d=true/\s:=by
 simp only[Bool.or_eq_false_iff,Bool.not_eq_false',Bool.and_eq_true,decide_eq_true_eq]at h
 obtain⟨⟨⟨⟨h1,h2⟩,h3,h4⟩,h5,h6⟩,h7,h8⟩:=h
 exact⟨h1,h2,h3,h4,h5,h6,h7,h8⟩
theorem lN{α:Type}{fR:α->Bool}{num:α->Int}{l:List α}(h:jI fR num l=true){j:Nat}(hj:j<l.length):fR l[j]=true:=(jH.1 h j hj hj).1
theorem Wb{r:Rec}(h:dP r=true):0<r.lv.length:=by
 unfold dP at h
 simp only[Bool.and_eq_true]at h
 exact(pt.1 h.1.1.2).1
@[go_sem] def P37:PSpec:=p1 iL (fun _=>True) (fun l=>vInt (mD l)) true
@[go_sem] def IH:Spec:=P37.toSpec
theorem J6:aZ Tryz.prog 37 P37:=by
 refine gJ (rs:=[.tmp 2]) Tryz.func37 Tryz.ntmps37 fun l hp hw=>?_
 have hP:=fE
 simp only[iL,fw]at hw |-
 have hΓ:=aeJ
 repeat refine sq ?_
 refine rs hΓ [1] [[1,0]] ?_
 repeat refine sq ?_
 refine rs hΓ [1,32] [[1,0]] ?_
 repeat refine sq ?_
 refine aC (fun hb=>?_) fun hb=>?_
 ·repeat refine sq ?_
  have iO:¬ bw l:=by
   intro h
   rw[h.ps,h.rs,h.ts,h.ss]at hb
   have h1:=h.psn
   have h2:=h.rsn
   have h3:=h.tsn
   have h4:=h.ssn
   simp only[Bool.true_and,Bool.or_eq_true,Bool.not_eq_true',decide_eq_false_iff_not]at hb
   omega
  repeat refine sq ?_
  refine rs hΓ [2] [] ?_
  refine aB ?_
  simp only[go_sem]
  rw[zz iO]
 ·repeat refine sq ?_
  obtain⟨fH,OU,cg,oF,qq,yy,tG,wt⟩:=adp hb
  have rU:srt Pap.id l.ps:=sZ (jH.1 fH)
  have wz:l.rs.length<=maxLen:=by unfold maxLen;omega
  have jw:l.ts.length<=maxLen:=by unfold maxLen;omega
  have hls:l.ss.length<=maxLen:=by unfold maxLen;omega
  refine aF ?_
  repeat refine sq ?_
  refine rs hΓ [1,3] [[1,0],[3,0],[33,0]] ?_
  repeat refine sq ?_
  refine rs hΓ [1,4] [[1,0],[3,0],[33,0]] ?_
  repeat refine sq ?_
  refine rs hΓ [1,4,36,37,38] [[1,0],[3,0],[33,0]] ?_
  repeat refine sq ?_
  refine aR ?_
  repeat refine sq ?_
  refine cp (fun s:Nat=>[(38,⟨true,.v (vInt s)⟩)]) (fun s=>[([33,0],.map 0 (fQ (sn [] Rec.so l.rs s)))]) (fun s=>s<=l.rs.length/\mV [] Rec.so l.rs s/\V' l s) (fun s=>l.rs.length-s) 0 ?_ ?_ ?_ ?_
  ·exact⟨Nat.zero_le _,fun j _ h=>by omega,fun j _ h=>by omega⟩
  ·rfl
  ·rfl
  rintro i ⟨hi,hR,P8⟩
  simp only[go_sem]
  repeat refine sq ?_
  refine rs hΓ [1,4,36,37,38,39] [[1,0],[3,0],[33,0]] ?_
  repeat refine sq ?_
  refine aC (fun hb=>?_) fun hb=>?_
  ·have ae:i<l.rs.length:=by simpa using hb
   have aw:(i:Int)<l.rs.length:=by omega
   clear hb
   have hv:=Wb (lN cg ae)
   have rT:l.rs[i].lv.length<=maxLen:=by have h0:=(pt.1 (by have h:=lN cg ae;unfold dP at h;simp only[Bool.and_eq_true]at h;exact h.1.1.2:lg l.rs[i].lv=true)).2.1;unfold maxLen;omega
   have yu:=DA (by omega:¬ l.rs[i].lv.length=0) rT
   have F3:((l.rs[i].lv.length-1:Nat):Int)<l.rs[i].lv.length:=by omega
   have rY:l.rs[i].lv.length-1<l.rs[i].lv.length:=by omega
   have hgl:(l.rs[i].lv.map vInt).getD (l.rs[i].lv.length-1) default=vInt (ql l.rs[i].lv):=by unfold ql;rw[ai rY,cj rY]
   repeat refine sq ?_
   refine aF ?_
   repeat refine sq ?_
   refine aR ?_
   repeat refine sq ?_
   refine rx hΓ [1,4,6,36,37,38] [[1,0],[3,0],[6,0],[33,0]] (fun K' hK=>by simp only[go_sem,ai ae,ak,an,aw];exact fn) ?_
   repeat refine sq ?_
   refine dx hΓ hP [[],[],[1],[0,1,2],u4,u5,u6,u7,u6,[0,1,2,3,4,5,8],[0,1,2,3,4,5,8,9],[0,1,2,3,4,5,8,9,10],eO,gK,u6,[0,1,2,3,4,5,14],[0,1,2,3,4,5,14,15],nZ,jj] [1,4,36,37,38,60] [[1,0],[3,0],[33,0]] (by kernel_rfl) (fun K' hK=>by simp only[go_sem,ai ae,ak,an,aw,rU,yu,hgl,F3];exact fd) ?_
   repeat refine sq ?_
   refine aC (fun hb=>?_) fun hb=>?_
   ·repeat refine sq ?_
    have iO:¬ bw l:=by
     intro h
     have h1:=(IV h).1 i ae ae
     have h2:=h.rl i ae
     rw[h1]at hb
     simp only[Bool.not_false,Bool.not_true,Bool.false_or,decide_eq_true_eq]at hb
     omega
    repeat refine sq ?_
    refine rx hΓ [2] [] (fun K' hK=>by simp only[go_sem,ai ae,ak,an,aw];exact fn) ?_
    refine aB ?_
    simp only[go_sem]
    rw[zz iO]
   ·repeat refine sq ?_
    have qv:(sn [] Rec.so l.rs i).contains l.rs[i].so=false:=by
     simp only[Bool.or_eq_false_iff,Bool.not_not]at hb
     exact hb.1
    have qu:ql l.rs[i].lv<=bT l.ps l.rs[i].pa:=by
     simp only[Bool.or_eq_false_iff,decide_eq_false_iff_not]at hb
     omega
    rw[DR ae qv]
    refine aF ?_
    refine bW ?_
    simp only[go_sem]
    refine kp [1,4,36,37,38] [[1,0],[3,0],[33,0]] ?_
    repeat refine sq ?_
    refine aW hΓ fun K' hK=>?_
    simp only[go_sem,ai ae,ak,an,aw]
    repeat (refine⟨ob,?_⟩)
    refine hK _ ?_
    clear K' hK
    simp only[go_sem]
    refine⟨i+1,⟨ae,?_⟩,by(show l.rs.length-(i+1)<l.rs.length-i;omega),?_⟩
    ·exact⟨EW hR ae qv,fun j hj ff=>by
      rcases Nat.lt_succ_iff_lt_or_eq.1 ff with h1 | rfl
      ·exact P8 j hj h1
      ·exact qu⟩
    refine bh [1,4,36,37,38] [[1,0],[3,0],[33,0]] ?_ ?_<;>simp only[go_sem,bc ae wz,be]
  ·have bE:i=l.rs.length:=by
    have :¬ (i:Int)<l.rs.length:=by simpa using hb
    omega
   clear hb
   subst bE
   repeat refine sq ?_
   refine bN ?_
   simp only[go_sem]
   refine kp [1,4] [[1,0],[3,0],[33,0]] ?_
   repeat refine sq ?_
   refine rs hΓ [1,4,63,64,65] [[1,0],[3,0],[33,0]] ?_
   repeat refine sq ?_
   refine aR ?_
   repeat refine sq ?_
   refine cp (fun s:Nat=>[(65,⟨true,.v (vInt s)⟩)]) (fun s=>[([33,0],.map 0 (fQ (sn (sn [] Rec.so l.rs l.rs.length) Ret.so l.ts s)))]) (fun s=>s<=l.ts.length/\mV (sn [] Rec.so l.rs l.rs.length) Ret.so l.ts s) (fun s=>l.ts.length-s) 0 ?_ ?_ ?_ ?_
   ·exact⟨Nat.zero_le _,fun j _ h=>by omega⟩
   ·rfl
   ·rfl
   rintro i ⟨hi1,P7⟩
   simp only[go_sem]
   repeat refine sq ?_
   refine rs hΓ [1,4,63,64,65,66] [[1,0],[3,0],[33,0]] ?_
   repeat refine sq ?_
   refine aC (fun hb=>?_) fun hb=>?_
   ·have aS:i<l.ts.length:=by simpa using hb
    have bC:(i:Int)<l.ts.length:=by omega
    clear hb
    repeat refine sq ?_
    refine aF ?_
    repeat refine sq ?_
    refine aR ?_
    repeat refine sq ?_
    refine rx hΓ [1,4,8,63,64,65] [[1,0],[3,0],[8,0],[33,0]] (fun K' hK=>by simp only[go_sem,ai aS,ak,an,bC];exact fn) ?_
    repeat refine sq ?_
    refine rx hΓ [1,4,63,64,65,73] [[1,0],[3,0],[33,0]] (fun K' hK=>by simp only[go_sem,ai aS,ak,an,bC];exact fn) ?_
    repeat refine sq ?_
    refine aC (fun hb=>?_) fun hb=>?_
    ·repeat refine sq ?_
     have iO:¬ bw l:=by
      intro h
      have h1:=(IV h).2.1 i aS aS
      rw[h1]at hb
      cases hb
     repeat refine sq ?_
     refine rx hΓ [2] [] (fun K' hK=>by simp only[go_sem,ai aS,ak,an,bC];exact fn) ?_
     refine aB ?_
     simp only[go_sem]
     rw[zz iO]
    ·repeat refine sq ?_
     have qv:(sn (sn [] Rec.so l.rs l.rs.length) Ret.so l.ts i).contains l.ts[i].so=false:=by
      simpa only[Bool.not_not]using hb
     rw[DR aS qv]
     refine aF ?_
     refine bW ?_
     simp only[go_sem]
     refine kp [1,4,63,64,65] [[1,0],[3,0],[33,0]] ?_
     repeat refine sq ?_
     refine aW hΓ fun K' hK=>?_
     simp only[go_sem,ai aS,ak,an,bC]
     repeat (refine⟨ob,?_⟩)
     refine hK _ ?_
     clear K' hK
     simp only[go_sem]
     refine⟨i+1,⟨aS,?_⟩,by(show l.ts.length-(i+1)<l.ts.length-i;omega),?_⟩
     ·exact EW P7 aS qv
     refine bh [1,4,63,64,65] [[1,0],[3,0],[33,0]] ?_ ?_<;>simp only[go_sem,bc aS jw,be]
   ·have jy:i=l.ts.length:=by
     have :¬ (i:Int)<l.ts.length:=by simpa using hb
     omega
    clear hb
    subst jy
    repeat refine sq ?_
    refine bN ?_
    simp only[go_sem]
    refine kp [1,4] [[1,0],[3,0],[33,0]] ?_
    repeat refine sq ?_
    refine rs hΓ [1,4,76,77,78] [[1,0],[3,0],[33,0]] ?_
    repeat refine sq ?_
    refine aR ?_
    repeat refine sq ?_
    refine cp (fun s:Nat=>[(78,⟨true,.v (vInt s)⟩)]) (fun s=>[([33,0],.map 0 (fQ (sn (sn (sn [] Rec.so l.rs l.rs.length) Ret.so l.ts l.ts.length) Sig.so l.ss s)))]) (fun s=>s<=l.ss.length/\mV (sn (sn [] Rec.so l.rs l.rs.length) Ret.so l.ts l.ts.length) Sig.so l.ss s/\T5 l s) (fun s=>l.ss.length-s) 0 ?_ ?_ ?_ ?_
    ·exact⟨Nat.zero_le _,fun j _ h=>by omega,fun j _ h=>by omega⟩
    ·rfl
    ·rfl
    rintro i ⟨j9,P6,P5⟩
    simp only[go_sem]
    repeat refine sq ?_
    refine rs hΓ [1,4,76,77,78,79] [[1,0],[3,0],[33,0]] ?_
    repeat refine sq ?_
    refine aC (fun hb=>?_) fun hb=>?_
    ·have bY:i<l.ss.length:=by simpa using hb
     have fe:(i:Int)<l.ss.length:=by omega
     clear hb
     repeat refine sq ?_
     refine aF ?_
     repeat refine sq ?_
     refine aR ?_
     repeat refine sq ?_
     refine rx hΓ [1,4,10,76,77,78] [[1,0],[3,0],[10,0],[33,0]] (fun K' hK=>by simp only[go_sem,ai bY,ak,an,fe];exact fn) ?_
     repeat refine sq ?_
     refine dx hΓ hP [[],[],[1],[0,1,2],u4,u5,u6,u7,u6,[0,1,2,3,4,5,8],[0,1,2,3,4,5,8,9],eF,eO] [1,4,76,77,78,94] [[1,0],[3,0],[33,0]] (by kernel_rfl) (fun K' hK=>by simp only[go_sem,ai bY,ak,an,fe,rU];exact fd) ?_
     repeat refine sq ?_
     refine aC (fun hb=>?_) fun hb=>?_
     ·repeat refine sq ?_
      have iO:¬ bw l:=by
       intro h
       have h1:=(IV h).2.2 i bY bY
       have h2:=h.sl i bY
       rw[h1]at hb
       simp only[Bool.not_false,Bool.not_true,Bool.false_or,decide_eq_true_eq]at hb
       omega
      repeat refine sq ?_
      refine rx hΓ [2] [] (fun K' hK=>by simp only[go_sem,ai bY,ak,an,fe];exact fn) ?_
      refine aB ?_
      simp only[go_sem]
      rw[zz iO]
     ·repeat refine sq ?_
      have qv:(sn (sn (sn [] Rec.so l.rs l.rs.length) Ret.so l.ts l.ts.length) Sig.so l.ss i).contains l.ss[i].so=false:=by
       simp only[Bool.or_eq_false_iff,Bool.not_not]at hb
       exact hb.1
      have qu:l.ss[i].le<=bT l.ps l.ss[i].pa:=by
       simp only[Bool.or_eq_false_iff,decide_eq_false_iff_not]at hb
       omega
      rw[DR bY qv]
      refine aF ?_
      refine bW ?_
      simp only[go_sem]
      refine kp [1,4,76,77,78] [[1,0],[3,0],[33,0]] ?_
      repeat refine sq ?_
      refine aW hΓ fun K' hK=>?_
      simp only[go_sem,ai bY,ak,an,fe]
      repeat (refine⟨ob,?_⟩)
      refine hK _ ?_
      clear K' hK
      simp only[go_sem]
      refine⟨i+1,⟨bY,?_⟩,by(show l.ss.length-(i+1)<l.ss.length-i;omega),?_⟩
      ·exact⟨EW P6 bY qv,fun j hj ff=>by
        rcases Nat.lt_succ_iff_lt_or_eq.1 ff with h1 | rfl
        ·exact P5 j hj h1
        ·exact qu⟩
      refine bh [1,4,76,77,78] [[1,0],[3,0],[33,0]] ?_ ?_<;>simp only[go_sem,bc bY hls,be]
    ·have oM:i=l.ss.length:=by
      have :¬ (i:Int)<l.ss.length:=by simpa using hb
      omega
     clear hb
     subst oM
     repeat refine sq ?_
     refine bN ?_
     simp only[go_sem]
     refine kp [] [] ?_
     repeat refine sq ?_
     refine rs hΓ [2] [] ?_
     refine aB ?_
     simp only[go_sem]
     rw[adf ⟨fH,by omega,cg,by omega,qq,by omega,tG,by omega,fun j h=>P8 j h h,fun j h=>P5 j h h,aeD hR P7 P6⟩]
end
noncomputable section
def K8a:List (Nat×Spec):=[(84,Dj)]
attribute [go_sem] K8a
structure Fol where
 (pa le:Int)
 deriving Inhabited,DecidableEq
def qJ(f:Fol):V:=.agg [vInt f.pa,vInt f.le]
def Q3:V->Fol
 | .agg [.int _ a,.int _ b]=>⟨a,b⟩
 |_=>default
def mf:En Fol:=⟨qJ,Q3⟩
attribute [go_sem] qJ Q3 mf
@[go_sem] theorem nw(p:Fol):(⟨p.pa,p.le⟩:Fol)=p:=rfl
end
noncomputable section
def K9:List (Nat×Spec):=[]
attribute [go_sem] K9
theorem Wa{r:Rec}(h:dP r=true):lg r.lv=true:=by
 unfold dP at h
 simp only[Bool.and_eq_true]at h
 exact h.1.1.2
end
set_option maxHeartbeats 8000000
noncomputable section
theorem Cp(d:Nat)(a b:Int):jD Tryz.prog (d+1) 3 (vInt a) (vInt b)=some (a==b):=by
 simp only[jD,Tryz.underlying3,if_true]
theorem abn:Tryz.prog.stoodInHeld 46=false:=by kernel_rfl
theorem ab3:Tryz.prog.eqGuardType Tryz.prog.depth 46=false:=by kernel_rfl
theorem aci(d:Nat)(a b a' b':Int):jD Tryz.prog (d+2) 46 (.agg [vInt a,vInt b]) (.agg [vInt a',vInt b'])=some (a==a'&&b==b'):=by
 unfold jD
 simp only[Tryz.underlying46,abn,Bool.false_eq_true,if_false,pE,rB,Al,List.getElem?_cons_zero,List.getElem?_cons_succ,Cp]
 cases a==a'<;>cases b==b'<;>rfl
@[go_sem] theorem ajk(obj:Name->Option O)(op:BinOp)(a b a' b':Int):ko Tryz.prog obj op 46 (.agg [vInt a,vInt b]) (.agg [vInt a',vInt b'])=
    ⟨op=.eql\/op=.neq,.v (.bool (if op=.eql then(a==a'&&b==b')else !(a==a'&&b==b'))),obj⟩:=by
  unfold ko
  rw[show Op.maxDepth=9998+2 from rfl,aci]
  simp only[ab3,true_and]
theorem abm:Tryz.prog.stoodInHeld 56=false:=by kernel_rfl
theorem ab2:Tryz.prog.eqGuardType Tryz.prog.depth 56=false:=by kernel_rfl
theorem ach(d:Nat)(a b a' b':Int):jD Tryz.prog (d+2) 56 (.agg [vInt a,vInt b]) (.agg [vInt a',vInt b'])=some (a==a'&&b==b'):=by
 unfold jD
 simp only[Tryz.underlying56,abm,Bool.false_eq_true,if_false,pE,rB,Al,List.getElem?_cons_zero,List.getElem?_cons_succ,Cp]
 cases a==a'<;>cases b==b'<;>rfl
@[go_sem] theorem ajj(obj:Name->Option O)(op:BinOp)(a b a' b':Int):ko Tryz.prog obj op 56 (.agg [vInt a,vInt b]) (.agg [vInt a',vInt b'])=
    ⟨op=.eql\/op=.neq,.v (.bool (if op=.eql then(a==a'&&b==b')else !(a==a'&&b==b'))),obj⟩:=by
  unfold ko
  rw[show Op.maxDepth=9998+2 from rfl,ach]
  simp only[ab2,true_and]
theorem abo:Tryz.prog.stoodInHeld 38=false:=by kernel_rfl
theorem ab4:Tryz.prog.eqGuardType Tryz.prog.depth 38=false:=by kernel_rfl
theorem acj(d:Nat)(a b a' b':Int):jD Tryz.prog (d+2) 38 (.agg [vInt a,vInt b]) (.agg [vInt a',vInt b'])=some (a==a'&&b==b'):=by
 unfold jD
 simp only[Tryz.underlying38,abo,Bool.false_eq_true,if_false,pE,rB,Al,List.getElem?_cons_zero,List.getElem?_cons_succ,Cp]
 cases a==a'<;>cases b==b'<;>rfl
@[go_sem] theorem ajl(obj:Name->Option O)(op:BinOp)(a b a' b':Int):ko Tryz.prog obj op 38 (.agg [vInt a,vInt b]) (.agg [vInt a',vInt b'])=
    ⟨op=.eql\/op=.neq,.v (.bool (if op=.eql then(a==a'&&b==b')else !(a==a'&&b==b'))),obj⟩:=by
  unfold ko
  rw[show Op.maxDepth=9998+2 from rfl,acj]
  simp only[ab4,true_and]
theorem abl:Tryz.prog.stoodInHeld 81=false:=by kernel_rfl
theorem ab1:Tryz.prog.eqGuardType Tryz.prog.depth 81=false:=by kernel_rfl
theorem acg(k:Nat)(a b c d e f g a' b' c' d' e' f' g':Int):jD Tryz.prog (k+2) 81 (.agg [vInt a,vInt b,vInt c,vInt d,vInt e,vInt f,vInt g]) (.agg [vInt a',vInt b',vInt c',vInt d',vInt e',vInt f',vInt g'])=
 some (a==a'&&(b==b'&&(c==c'&&(d==d'&&(e==e'&&(f==f'&&g==g')))))):=by
 unfold jD
 simp only[Tryz.underlying81,abl,Bool.false_eq_true,if_false,pE,rB,Al,List.getElem?_cons_zero,List.getElem?_cons_succ,Cp]
 cases a==a'<;>cases b==b'<;>cases c==c'<;>cases d==d'<;>cases e==e'<;>cases f==f'<;>cases g==g'<;>rfl
@[go_sem] theorem aji(obj:Name->Option O)(op:BinOp)(a b c d e f g a' b' c' d' e' f' g':Int):ko Tryz.prog obj op 81 (.agg [vInt a,vInt b,vInt c,vInt d,vInt e,vInt f,vInt g]) (.agg [vInt a',vInt b',vInt c',vInt d',vInt e',vInt f',vInt g'])=
    ⟨op=.eql\/op=.neq,.v (.bool (if op=.eql then(a==a'&&(b==b'&&(c==c'&&(d==d'&&(e==e'&&(f==f'&&g==g'))))))else !(a==a'&&(b==b'&&(c==c'&&(d==d'&&(e==e'&&(f==f'&&g==g')))))))),obj⟩:=by
  unfold ko
  rw[show Op.maxDepth=9998+2 from rfl,acg]
  simp only[ab1,true_and]
def As{α:Type}(a b:List α)(n:Nat):Prop:=∀ j (h:j<a.length) (h':j<b.length),j<n->a[j]=b[j]
theorem Uk{α:Type}{a b:List α}{i:Nat}(h:As a b i)(hi:∀ (h:i<a.length) (h':i<b.length),a[i]=b[i]):As a b (i+1):=by
 intro j hj eW ff
 rcases Nat.lt_succ_iff_lt_or_eq.1 ff with h1 | rfl
 ·exact h j hj eW h1
 ·exact hi hj eW
theorem Ul{α:Type}{a b:List α}(hl:a.length=b.length)(h:As a b a.length):a=b:=List.ext_getElem hl fun j h1 h2=>h j h1 h2 h1
theorem PZ{l:List Int}{n:Int}:l.contains n=true↔∃ k,∃ (h:k<l.length),l[k]=n:=by
 rw[List.contains_iff_mem]
 constructor
 ·intro h
  obtain⟨k,hk,e⟩:=List.getElem_of_mem h
  exact⟨k,hk,e⟩
 ·rintro⟨k,hk,rfl⟩
  exact List.getElem_mem hk
@[go_sem] def P15:PSpec:=p2 fc iI (fun _ _=>True) (fun l n=>.bool (l.contains n)) true
@[go_sem] def qW:Spec:=P15.toSpec
theorem Av:aZ Tryz.prog 15 P15:=by
 refine dG (rs:=[.tmp 4]) Tryz.func15 Tryz.ntmps15 fun l n hp hw=>?_
 simp only[iI,fc]at hw |-
 have hΓ:=@fD Tryz.prog
 have hl:l.length<=maxLen:=by have:=hw.1.1;simpa using this
 repeat refine sq ?_
 refine rs hΓ [0,1] [] ?_
 repeat refine sq ?_
 refine rs hΓ [0,1,5] [] ?_
 repeat refine sq ?_
 refine aR ?_
 repeat refine sq ?_
 refine cp (fun s:Nat=>[(5,⟨true,.v (vInt s)⟩)]) (fun s=>[]) (fun s=>s<=l.length/\∀ k (h:k<l.length),k<s->l[k]≠n) (fun s=>l.length-s) 0 ?_ ?_ ?_ ?_
 ·exact⟨Nat.zero_le _,by simp⟩
 ·rfl
 ·rfl
 rintro i ⟨hi,hR⟩
 simp only[go_sem]
 repeat refine sq ?_
 refine rs hΓ [0,1,5,9] [] ?_
 repeat refine sq ?_
 refine aC (fun hb=>?_) fun hb=>?_
 ·have ae:i<l.length:=by simpa using hb
  have aw:(i:Int)<l.length:=by omega
  clear hb
  repeat refine sq ?_
  refine aF ?_
  repeat refine sq ?_
  refine aR ?_
  repeat refine sq ?_
  refine rx hΓ [0,1,5,17] [] (fun K' hK=>by simp only[go_sem,ai ae,ak,an,aw];exact fn) ?_
  repeat refine sq ?_
  refine aC (fun hb=>?_) fun hb=>?_
  ·repeat refine sq ?_
   refine rx hΓ [4] [] (fun K' hK=>by simp only[go_sem,ai ae,ak,an,aw];exact fn) ?_
   refine aB ?_
   simp only[go_sem]
   rw[PZ.2 ⟨i,ae,by simpa using hb⟩]
  ·repeat refine sq ?_
   refine aF ?_
   refine bW ?_
   simp only[go_sem]
   refine kp [0,1,5] [] ?_
   repeat refine sq ?_
   refine aW hΓ fun K' hK=>?_
   simp only[go_sem,ai ae,ak,an,aw]
   repeat (refine⟨ob,?_⟩)
   refine hK _ ?_
   clear K' hK
   simp only[go_sem]
   refine⟨i+1,⟨ae,?_⟩,by(show l.length-(i+1)<l.length-i;omega),?_⟩
   ·intro k hk dE
    rcases Nat.lt_succ_iff_lt_or_eq.1 dE with h5 | rfl
    ·exact hR k hk h5
    ·simpa using hb
   refine bh [0,1,5] [] ?_ ?_<;>simp only[go_sem,bc ae hl,be]
 ·have bE:i=l.length:=by
   have :¬ (i:Int)<l.length:=by simpa using hb
   omega
  clear hb
  subst bE
  repeat refine sq ?_
  refine bN ?_
  simp only[go_sem]
  refine kp [] [] ?_
  repeat refine sq ?_
  refine rs hΓ [4] [] ?_
  refine aB ?_
  simp only[go_sem]
  rw[w9 PZ (fun ⟨k,hk,e⟩=>hR k hk hk e)]
@[go_sem] def P24:PSpec:=p2 fc fc (fun _ _=>True) (fun a b=>.bool (decide (a=b))) true
@[go_sem] def II:Spec:=P24.toSpec
theorem U1:aZ Tryz.prog 24 P24:=by
 refine dG (rs:=[.tmp 4]) Tryz.func24 Tryz.ntmps24 fun a b hp hw=>?_
 have hP:=fE
 simp only[fc]at hw |-
 have hΓ:=@fD Tryz.prog
 have hl:a.length<=maxLen:=by have:=hw.1.1;simpa using this
 repeat refine sq ?_
 refine rs hΓ [0,1] [] ?_
 repeat refine sq ?_
 refine rs hΓ [0,1,10] [] ?_
 repeat refine sq ?_
 refine aC (fun hb=>?_) fun hb=>?_
 ·repeat refine sq ?_
  have iO:a≠b:=by
   rintro rfl
   simp at hb
  repeat refine sq ?_
  refine rs hΓ [4] [] ?_
  refine aB ?_
  simp only[go_sem]
  rw[decide_eq_false iO]
 ·repeat refine sq ?_
  have qB:a.length=b.length:=by
   have :(a.length:Int)=b.length:=by simpa using hb
   omega
  clear hb
  refine aF ?_
  repeat refine sq ?_
  refine rs hΓ [0,1,5] [] ?_
  repeat refine sq ?_
  refine aR ?_
  repeat refine sq ?_
  refine cp (fun s:Nat=>[(5,⟨true,.v (vInt s)⟩)]) (fun s=>[]) (fun s=>s<=a.length/\As a b s) (fun s=>a.length-s) 0 ?_ ?_ ?_ ?_
  ·exact⟨Nat.zero_le _,fun j _ _ h=>by omega⟩
  ·rfl
  ·rfl
  rintro i ⟨hi,hR⟩
  simp only[go_sem]
  repeat refine sq ?_
  refine rs hΓ [0,1,5,14] [] ?_
  repeat refine sq ?_
  refine aC (fun hb=>?_) fun hb=>?_
  ·have ae:i<a.length:=by simpa using hb
   have aw:(i:Int)<a.length:=by omega
   clear hb
   have Gq:(i:Int)<b.length:=by omega
   have hlb:i<b.length:=by omega
   repeat refine sq ?_
   refine aF ?_
   repeat refine sq ?_
   refine aR ?_
   repeat refine sq ?_
   refine dx hΓ hP [[],[],[0,1],[0,1,2],[],[],[4,5],[4,5,6],u8] [0,1,5,25] [] (by kernel_rfl) (fun K' hK=>by simp only[go_sem,ai ae,ai (show i<b.length by omega),ak,an,aw,Gq];exact fd) ?_
   repeat refine sq ?_
   refine aC (fun hb=>?_) fun hb=>?_
   ·repeat refine sq ?_
    have iO:a≠b:=by
     rintro rfl
     simp at hb
    repeat refine sq ?_
    refine rx hΓ [4] [] (fun K' hK=>by simp only[go_sem,ai ae,ai (show i<b.length by omega),ak,an,aw,Gq];exact fn) ?_
    refine aB ?_
    simp only[go_sem]
    rw[decide_eq_false iO]
   ·repeat refine sq ?_
    refine aF ?_
    refine bW ?_
    simp only[go_sem]
    refine kp [0,1,5] [] ?_
    repeat refine sq ?_
    refine aW hΓ fun K' hK=>?_
    simp only[go_sem,ai ae,ai (show i<b.length by omega),ak,an,aw,Gq]
    repeat (refine⟨ob,?_⟩)
    refine hK _ ?_
    clear K' hK
    simp only[go_sem]
    refine⟨i+1,⟨ae,?_⟩,by(show a.length-(i+1)<a.length-i;omega),?_⟩
    ·exact Uk hR fun _ _=>by simpa using hb
    refine bh [0,1,5] [] ?_ ?_<;>simp only[go_sem,bc ae hl,be]
  ·have bE:i=a.length:=by
    have :¬ (i:Int)<a.length:=by simpa using hb
    omega
   clear hb
   subst bE
   repeat refine sq ?_
   refine bN ?_
   simp only[go_sem]
   refine kp [] [] ?_
   repeat refine sq ?_
   refine rs hΓ [4] [] ?_
   refine aB ?_
   simp only[go_sem]
   rw[decide_eq_true (Ul qB hR)]
def afC:List (Nat×Spec):=[(24,II)]
attribute [go_sem] afC
def K10:List (Nat×Spec):=[]
attribute [go_sem] K10
end
end Go.Eng
