import Derived.Test.YtgbpdpdnlfdlfaaK4
import Derived.Laws.Bits64
import Derived.KernelRfl
import Derived.Test.YtgbpdpdnlfdlfaaProg
/- Texts EngO to SW7. -/
set_option linter.all false
namespace Go.Eng
open Go
attribute [go_sem] Nat.reduceLeDiff Nat.le_refl Nat.reduceLT Nat.reduceAdd Nat.reduceEqDiff Nat.reduceSub Nat.reduceMul Nat.reduceBEq reduceIte reduceCtorEq
abbrev au (n:Int):V:=.int .i64 n
theorem lb{a b:Nat}(h:Nat.ble a b=true):a<=b:=Nat.le_of_ble_eq_true h
theorem sq{P:Program}{x y:Code}{r:List Code}{σ:S}{K:Exit->S->Prop}(h:CL P (x::y::r) σ K):CL P (.seq x y::r) σ K:=eO h
theorem ob{p:Prop}(h:p:=by first | exact Bool.or_not_self _ | trivial | (unfold maxLen;omega) | exact Bool.not_or_self _ | exact fun _=>by decide | exact fun h=>⟨h,by decide⟩ | omega | ((repeat' apply And.intro)<;>first | rfl | omega | (unfold maxLen;omega) | trivial) | (simp only[decide_eq_true_eq];omega) | exact⟨_,rfl⟩ | exact fun h=>⟨h,_,rfl⟩ | exact⟨_,_,rfl⟩ | exact fun h=>⟨h,_,_,rfl⟩ | exact fun h=>⟨h,_,_,_,rfl⟩ | exact⟨_,_,_,_,rfl⟩ | exact fun h=>⟨h,_,_,_,_,rfl⟩ | exact⟨[_,_],rfl⟩ | (simp only[Bool.decide_and,Bool.decide_eq_true];exact Bool.not_or_self _) | (simp;done) | (simp_all;done) | (simp_all;omega) | (grind)):p:=h
theorem rs{P:Program}{Γ:FuncId->Option Spec}(hΓ:∀ f s,Γ f=some s->an P f s){id:Nat}{l:List Oper}{c:Code}{r:List Code}{σ τ:S}{K:Exit->S->Prop}(ks:List Nat)(ns:List Name)(h:CL P (c::r) τ K)
 (h':∀ K':S->Prop,(∀ σ',ek ks ns σ'->eB ks ns σ'=τ->K' σ')->j6 P Γ l.toArray l σ K':=by intro K' hK;simp only[go_sem];(repeat (refine⟨ob,?_⟩));exact hK _ (by simp only[go_sem]) (by simp only[go_sem]<;>rfl)):CL P (.region id l.toArray false::c::r) σ K:=
 Fk hΓ ks ns fun K' hK=>h' K' fun σ' hc he=>hK σ' hc (he▸h)
theorem rx{P:Program}{Γ:FuncId->Option Spec}(hΓ:∀ f s,Γ f=some s->an P f s){id:Nat}{l:List Oper}{c:Code}{r:List Code}{σ τ:S}{K:Exit->S->Prop}(ks:List Nat)(ns:List Name)
 (h':∀ K':S->Prop,(∀ σ',ek ks ns σ'->eB ks ns σ'=τ->K' σ')->j6 P Γ l.toArray l σ K') (h:CL P (c::r) τ K):CL P (.region id l.toArray false::c::r) σ K:=
 Fk hΓ ks ns fun K' hK=>h' K' fun σ' hc he=>hK σ' hc (he▸h)
theorem dx{P:Program}{Γ:FuncId->Option Spec}(hΓ:∀ f s,Γ f=some s->an P f s)(hP:P.follows .mixedOrders=true)(az:List (List Nat)){id:Nat}{l:List Oper}{c:Code}{r:List Code}{σ τ:S}{K:Exit->S->Prop}(ks:List Nat)(ns:List Name)
 (hs:n9 l.toArray az=true) (h':∀ K':S->Prop,(∀ σ',ek ks ns σ'->eB ks ns σ'=τ->K' σ')->lf P Γ l.toArray 0 az l [] σ K') (h:CL P (c::r) τ K):CL P (.region id l.toArray true::c::r) σ K:=
 QE hΓ hP az ks ns hs fun K' hK=>h' K' fun σ' hc he=>hK σ' hc (he▸h)
theorem kp{P:Program}{c:Code}{r:List Code}{σ τ:S}{K:Exit->S->Prop}(ks:List Nat)(ns:List Name)(hc:CL P (c::r) τ K)(h:ek ks ns σ:=by simp only[go_sem])(he:eB ks ns σ=τ:=by simp only[go_sem]<;>rfl):CL P (c::r) σ K:=
 QD ks ns h (he▸hc)
def tbl:List (Nat×Spec)->FuncId->Option Spec
 |[],_=>none
 |(g,s)::r,f=>if f=g then some s else tbl r f
theorem tn{P:Program}:∀ f s,tbl [] f=some s->an P f s:=fun _ _ h=>by cases h
theorem tc{P:Program}{g:Nat}{s0:Spec}{r:List (Nat×Spec)}(h:an P g s0)(hr:∀ f s,tbl r f=some s->an P f s):∀ f s,tbl ((g,s0)::r) f=some s->an P f s:=by
 intro f s hf
 unfold tbl at hf
 split at hf
 ·rename_i e
  cases hf
  subst e
  exact h
 ·exact hr f s hf
attribute [go_sem] tbl
theorem qh{P:Program}{f:FuncId}{fn:Func}{s:PSpec}{nt:Nat}{rs:List ResultVar}(hf:P.funcs[f]?=some fn)(dS:fn.ntmps=nt)(eF:fn.results.toList=rs)(hn:(fn.name== "runtime.NumGoroutine")=false)(hy:f<1000000000)
 (dn:s.flat=true->∀ xs,s.pre xs->(s.fn xs).flat=true)
 (hb:∃ c,fn.body=some c/\∀ xs,s.pre xs->V.wfL xs->xs.length<=nt/\CL P [c] (aZ nt [0] (fun _=>none) (dM 0 xs) []) (lr P rs (s.fn xs))):aS P f s:=by
 obtain⟨c,hc,h⟩:=hb
 exact yt hf hc dS eF (iY hf hc hn) (Nat.ne_of_lt (show f<yid from hy)) dn fun xs hp hw=>⟨(h xs hp hw).1,sf (h xs hp hw).2⟩
structure En (α:Type) where
 enc:α->V
 dec:V->α
def E0{α:Type}(d:V->α):V->List α
 | .sl l=>l.map d
 |_=>[]
def C5{α:Type}(e:En α):En (List α):=⟨fun l=>.sl (l.map e.enc),E0 e.dec⟩
def iC(v:V):En Unit:=⟨fun _=>v,fun _=>()⟩
def iF(n:Nat):En Unit:=iC (.clo (.func n) [] [])
def p1{α:Type}(A:En α)(p:α->Prop)(g:α->V)(fl:Bool):PSpec:=
 ⟨fun xs=>match xs with | [x]=>A.enc (A.dec x)=x/\p (A.dec x) | _=>False,fun xs=>match xs with | [x]=>g (A.dec x) | _=>.bool false,fl⟩
def p2{α β:Type}(A:En α)(B:En β)(p:α->β->Prop)(g:α->β->V)(fl:Bool):PSpec:=
 ⟨fun xs=>match xs with | [x,y]=>A.enc (A.dec x)=x/\B.enc (B.dec y)=y/\p (A.dec x) (B.dec y) | _=>False,fun xs=>match xs with | [x,y]=>g (A.dec x) (B.dec y) | _=>.bool false,fl⟩
def p3{α β γ:Type}(A:En α)(B:En β)(C:En γ)(p:α->β->γ->Prop)(g:α->β->γ->V)(fl:Bool):PSpec:=
 ⟨fun xs=>match xs with | [x,y,z]=>A.enc (A.dec x)=x/\B.enc (B.dec y)=y/\C.enc (C.dec z)=z/\p (A.dec x) (B.dec y) (C.dec z) | _=>False,
  fun xs=>match xs with | [x,y,z]=>g (A.dec x) (B.dec y) (C.dec z) | _=>.bool false,fl⟩
def p4{α β γ δ:Type}(A:En α)(B:En β)(C:En γ)(D:En δ)(p:α->β->γ->δ->Prop)(g:α->β->γ->δ->V)(fl:Bool):PSpec:=
 ⟨fun xs=>match xs with | [x,y,z,u]=>A.enc (A.dec x)=x/\B.enc (B.dec y)=y/\C.enc (C.dec z)=z/\D.enc (D.dec u)=u/\p (A.dec x) (B.dec y) (C.dec z) (D.dec u) | _=>False,
  fun xs=>match xs with | [x,y,z,u]=>g (A.dec x) (B.dec y) (C.dec z) (D.dec u) | _=>.bool false,fl⟩
theorem tF{α:Type}{A:En α}{p:α->Prop}{g:α->V}{fl:Bool}{xs:List V}(h:(p1 A p g fl).pre xs):∃ a,xs=[A.enc a]/\p a/\(p1 A p g fl).fn xs=g a:=by
 unfold p1 at h
 simp only at h
 split at h
 ·exact⟨_,by rw[h.1],h.2,rfl⟩
 ·exact h.elim
theorem yC{α β:Type}{A:En α}{B:En β}{p:α->β->Prop}{g:α->β->V}{fl:Bool}{xs:List V}(h:(p2 A B p g fl).pre xs):∃ a b,xs=[A.enc a,B.enc b]/\p a b/\(p2 A B p g fl).fn xs=g a b:=by
 unfold p2 at h
 simp only at h
 split at h
 ·exact⟨_,_,by rw[h.1,h.2.1],h.2.2,rfl⟩
 ·exact h.elim
theorem yA{α β γ:Type}{A:En α}{B:En β}{C:En γ}{p:α->β->γ->Prop}{g:α->β->γ->V}{fl:Bool}{xs:List V}(h:(p3 A B C p g fl).pre xs):
 ∃ a b c,xs=[A.enc a,B.enc b,C.enc c]/\p a b c/\(p3 A B C p g fl).fn xs=g a b c:=by
 unfold p3 at h
 simp only at h
 split at h
 ·exact⟨_,_,_,by rw[h.1,h.2.1,h.2.2.1],h.2.2.2,rfl⟩
 ·exact h.elim
theorem yz{α β γ δ:Type}{A:En α}{B:En β}{C:En γ}{D:En δ}{p:α->β->γ->δ->Prop}{g:α->β->γ->δ->V}{fl:Bool}{xs:List V}(h:(p4 A B C D p g fl).pre xs):
 ∃ a b c d,xs=[A.enc a,B.enc b,C.enc c,D.enc d]/\p a b c d/\(p4 A B C D p g fl).fn xs=g a b c d:=by
 unfold p4 at h
 simp only at h
 split at h
 ·exact⟨_,_,_,_,by rw[h.1,h.2.1,h.2.2.1,h.2.2.2.1],h.2.2.2.2,rfl⟩
 ·exact h.elim
theorem I9{α:Type}{A:En α}{p:α->Prop}{g:α->V}{fl:Bool}(hg:∀ a,(g a).flat=true):(p1 A p g fl).flat=true->∀ xs,(p1 A p g fl).pre xs->((p1 A p g fl).fn xs).flat=true:=by
 intro _ xs h
 obtain⟨a,_,_,e⟩:=tF h
 rw[e];exact hg _
theorem I8{α β:Type}{A:En α}{B:En β}{p:α->β->Prop}{g:α->β->V}{fl:Bool}(hg:∀ a b,(g a b).flat=true):(p2 A B p g fl).flat=true->∀ xs,(p2 A B p g fl).pre xs->((p2 A B p g fl).fn xs).flat=true:=by
 intro _ xs h
 obtain⟨a,b,_,_,e⟩:=yC h
 rw[e];exact hg _ _
theorem I7{α β γ:Type}{A:En α}{B:En β}{C:En γ}{p:α->β->γ->Prop}{g:α->β->γ->V}{fl:Bool}(hg:∀ a b c,(g a b c).flat=true):
 (p3 A B C p g fl).flat=true->∀ xs,(p3 A B C p g fl).pre xs->((p3 A B C p g fl).fn xs).flat=true:=by
 intro _ xs h
 obtain⟨a,b,c,_,_,e⟩:=yA h
 rw[e];exact hg _ _ _
theorem I6{α β γ δ:Type}{A:En α}{B:En β}{C:En γ}{D:En δ}{p:α->β->γ->δ->Prop}{g:α->β->γ->δ->V}{fl:Bool}(hg:∀ a b c d,(g a b c d).flat=true):
 (p4 A B C D p g fl).flat=true->∀ xs,(p4 A B C D p g fl).pre xs->((p4 A B C D p g fl).fn xs).flat=true:=by
 intro _ xs h
 obtain⟨a,b,c,d,_,_,e⟩:=yz h
 rw[e];exact hg _ _ _ _
attribute [go_sem] p1 p2 p3 p4 E0 C5 iC iF PSpec.toSpec yid Option.bind_some Option.bind_none
theorem fS{P:Program}:∀ f s,(fun _=>none:FuncId->Option Spec) f=some s->an P f s:=fun f s h=>by cases h
theorem cF{α:Type}{l:List α}{i:Nat}{z:α}(h:i<l.length):l.getD i z=l[i]:=by
 simp[List.getD,h]
def n1{α:Type}(A:En α)(p:α->Prop)(new:α->List (Name×O))(d:α->D):NSpec:=
 ⟨fun xs=>match xs with | [x]=>A.enc (A.dec x)=x/\p (A.dec x) | _=>False,fun xs=>match xs with | [x]=>new (A.dec x) | _=>[],fun xs=>match xs with | [x]=>d (A.dec x) | _=>.any⟩
def n2{α β:Type}(A:En α)(B:En β)(p:α->β->Prop)(new:α->β->List (Name×O))(d:α->β->D):NSpec:=
 ⟨fun xs=>match xs with | [x,y]=>A.enc (A.dec x)=x/\B.enc (B.dec y)=y/\p (A.dec x) (B.dec y) | _=>False,fun xs=>match xs with | [x,y]=>new (A.dec x) (B.dec y) | _=>[],fun xs=>match xs with | [x,y]=>d (A.dec x) (B.dec y) | _=>.any⟩
theorem Jq{α:Type}{A:En α}{p:α->Prop}{new:α->List (Name×O)}{d:α->D}{xs:List V}(h:(n1 A p new d).pre xs):∃ a,xs=[A.enc a]/\p a/\(n1 A p new d).new xs=new a/\(n1 A p new d).d xs=d a:=by
 unfold n1 at h
 simp only at h
 split at h
 ·exact⟨_,by rw[h.1],h.2,rfl,rfl⟩
 ·exact h.elim
attribute [go_sem] n1 n2 NSpec.toSpec NSpec.app ir ct cout D.ren D.renL O.ren fresh
section
variable {P:Program} {f:FuncId} {fn:Func} {nt:Nat} {rs:List ResultVar}
theorem w1{α:Type}{A:En α}{p:α->Prop}{g:α->V}{fl:Bool}(hf:P.funcs[f]?=some fn)(dS:fn.ntmps=nt)(eF:fn.results.toList=rs)(hn:(fn.name== "runtime.NumGoroutine")=false)(hy:f<1000000000)
 (dn:fl=true->∀ a,(g a).flat=true) (hb:∃ c,fn.body=some c/\1<=nt/\∀ a,p a->V.wfL [A.enc a]->CL P [c] (aZ nt [0] (fun _=>none) (dM 0 [A.enc a]) []) (lr P rs (g a))):aS P f (p1 A p g fl):=by
 obtain⟨c,hc,h1,h⟩:=hb
 refine qh hf dS eF hn hy (fun e=>I9 (dn e) e) ⟨c,hc,fun xs hp hw=>?_⟩
 obtain⟨a,rfl,hp,hg⟩:=tF hp
 rw[hg]
 exact⟨h1,h a hp hw⟩
theorem w2{α β:Type}{A:En α}{B:En β}{p:α->β->Prop}{g:α->β->V}{fl:Bool}(hf:P.funcs[f]?=some fn)(dS:fn.ntmps=nt)(eF:fn.results.toList=rs)(hn:(fn.name== "runtime.NumGoroutine")=false)(hy:f<1000000000)
 (dn:fl=true->∀ a b,(g a b).flat=true) (hb:∃ c,fn.body=some c/\2<=nt/\∀ a b,p a b->V.wfL [A.enc a,B.enc b]->CL P [c] (aZ nt [0] (fun _=>none) (dM 0 [A.enc a,B.enc b]) []) (lr P rs (g a b))):aS P f (p2 A B p g fl):=by
 obtain⟨c,hc,h1,h⟩:=hb
 refine qh hf dS eF hn hy (fun e=>I8 (dn e) e) ⟨c,hc,fun xs hp hw=>?_⟩
 obtain⟨a,b,rfl,hp,hg⟩:=yC hp
 rw[hg]
 exact⟨h1,h a b hp hw⟩
theorem w3{α β γ:Type}{A:En α}{B:En β}{C:En γ}{p:α->β->γ->Prop}{g:α->β->γ->V}{fl:Bool}(hf:P.funcs[f]?=some fn)(dS:fn.ntmps=nt)(eF:fn.results.toList=rs)(hn:(fn.name== "runtime.NumGoroutine")=false)(hy:f<1000000000)
 (dn:fl=true->∀ a b c,(g a b c).flat=true) (hb:∃ c,fn.body=some c/\3<=nt/\∀ a b d,p a b d->V.wfL [A.enc a,B.enc b,C.enc d]->CL P [c] (aZ nt [0] (fun _=>none) (dM 0 [A.enc a,B.enc b,C.enc d]) []) (lr P rs (g a b d))):aS P f (p3 A B C p g fl):=by
 obtain⟨c,hc,h1,h⟩:=hb
 refine qh hf dS eF hn hy (fun e=>I7 (dn e) e) ⟨c,hc,fun xs hp hw=>?_⟩
 obtain⟨a,b,d,rfl,hp,hg⟩:=yA hp
 rw[hg]
 exact⟨h1,h a b d hp hw⟩
theorem w4{α β γ δ:Type}{A:En α}{B:En β}{C:En γ}{E:En δ}{p:α->β->γ->δ->Prop}{g:α->β->γ->δ->V}{fl:Bool}(hf:P.funcs[f]?=some fn)(dS:fn.ntmps=nt)(eF:fn.results.toList=rs)(hn:(fn.name== "runtime.NumGoroutine")=false)(hy:f<1000000000)
 (dn:fl=true->∀ a b c d,(g a b c d).flat=true) (hb:∃ c,fn.body=some c/\4<=nt/\∀ a b d e,p a b d e->V.wfL [A.enc a,B.enc b,C.enc d,E.enc e]->CL P [c] (aZ nt [0] (fun _=>none) (dM 0 [A.enc a,B.enc b,C.enc d,E.enc e]) []) (lr P rs (g a b d e))):aS P f (p4 A B C E p g fl):=by
 obtain⟨c,hc,h1,h⟩:=hb
 refine qh hf dS eF hn hy (fun e=>I6 (dn e) e) ⟨c,hc,fun xs hp hw=>?_⟩
 obtain⟨a,b,d,e,rfl,hp,hg⟩:=yz hp
 rw[hg]
 exact⟨h1,h a b d e hp hw⟩
end
open Go Go.Proofs
attribute [go_sem] j0
@[go_sem] theorem ta0:aE Try.prog 0=some (false,1):=by kernel_rfl
@[go_sem] theorem ta3:aE Try.prog 3=some (false,1):=by kernel_rfl
@[go_sem] theorem ti3:fo Try.prog 3=some .i64:=by kernel_rfl
@[go_sem] theorem tz3:aH Try.prog 3=some (.int .i64 0):=by kernel_rfl
@[go_sem] theorem ta4:aE Try.prog 4=some (false,1):=by kernel_rfl
@[go_sem] theorem tz4:aH Try.prog 4=some (.bool false):=by kernel_rfl
@[go_sem] theorem ta5:aE Try.prog 5=some (false,1):=by kernel_rfl
@[go_sem] theorem ti5:fo Try.prog 5=some .u8:=by kernel_rfl
@[go_sem] theorem tz5:aH Try.prog 5=some (.int .u8 0):=by kernel_rfl
@[go_sem] theorem ta8:aE Try.prog 8=some (true,4):=by kernel_rfl
@[go_sem] theorem tp8:dA Try.prog 8=some [(0,1),(1,1),(2,1),(3,1)]:=by kernel_rfl
@[go_sem] theorem tz8:aH Try.prog 8=some (.agg #[(.int .i64 0),(.int .i64 0),(.bool false),(.int .u8 0)]):=by kernel_rfl
@[go_sem] theorem abv:be Try.prog 8 0=some (0,1,false):=by kernel_rfl
@[go_sem] theorem abu:be Try.prog 8 1=some (1,1,false):=by kernel_rfl
@[go_sem] theorem abt:be Try.prog 8 2=some (2,1,false):=by kernel_rfl
@[go_sem] theorem abr:be Try.prog 8 3=some (3,1,false):=by kernel_rfl
@[go_sem] theorem ta9:aE Try.prog 9=some (false,1):=by kernel_rfl
@[go_sem] theorem tl9:bJ Try.prog 9=some 1:=by kernel_rfl
@[go_sem] theorem tz9:aH Try.prog 9=some (.string ⟨#[]⟩):=by kernel_rfl
@[go_sem] theorem ac8:aE Try.prog 10=some (false,1):=by kernel_rfl
@[go_sem] theorem abl:bJ Try.prog 10=some 1:=by kernel_rfl
@[go_sem] theorem aaR:aH Try.prog 10=some (.string ⟨#[]⟩):=by kernel_rfl
@[go_sem] theorem ac4:aE Try.prog 11=some (false,1):=by kernel_rfl
@[go_sem] theorem abj:bJ Try.prog 11=some 1:=by kernel_rfl
@[go_sem] theorem aaN:aH Try.prog 11=some (.string ⟨#[]⟩):=by kernel_rfl
@[go_sem] theorem acT:aE Try.prog 14=some (true,2):=by kernel_rfl
@[go_sem] theorem aa7:dA Try.prog 14=some [(0,1),(1,1)]:=by kernel_rfl
@[go_sem] theorem aaF:aH Try.prog 14=some (.agg #[(.string ⟨#[]⟩),(.int .u64 0)]):=by kernel_rfl
@[go_sem] theorem abX:be Try.prog 14 0=some (0,1,false):=by kernel_rfl
@[go_sem] theorem abW:be Try.prog 14 1=some (1,1,false):=by kernel_rfl
@[go_sem] theorem acQ:aE Try.prog 15=some (false,1):=by kernel_rfl
@[go_sem] theorem aaC:aH Try.prog 15=some (.pointer none):=by kernel_rfl
@[go_sem] theorem acN:aE Try.prog 16=some (false,1):=by kernel_rfl
@[go_sem] theorem aaz:aH Try.prog 16=some (.pointer none):=by kernel_rfl
@[go_sem] theorem acL:aE Try.prog 17=some (false,1):=by kernel_rfl
@[go_sem] theorem aax:aH Try.prog 17=some (.pointer none):=by kernel_rfl
@[go_sem] theorem acK:aE Try.prog 19=some (true,1):=by kernel_rfl
@[go_sem] theorem aa6:dA Try.prog 19=some [(0,1)]:=by kernel_rfl
@[go_sem] theorem aaw:aH Try.prog 19=some (.agg #[(.pointer none)]):=by kernel_rfl
@[go_sem] theorem abV:be Try.prog 19 0=some (0,1,false):=by kernel_rfl
@[go_sem] theorem acJ:aE Try.prog 22=some (false,1):=by kernel_rfl
@[go_sem] theorem aca:bg Try.prog 22=some (3,1,8):=by kernel_rfl
@[go_sem] theorem abh:bJ Try.prog 22=some 0:=by kernel_rfl
@[go_sem] theorem aav:aH Try.prog 22=some (.slice none 0 0):=by kernel_rfl
@[go_sem] theorem acI:aE Try.prog 23=some (false,1):=by kernel_rfl
@[go_sem] theorem G4:bg Try.prog 23=some (55,5,56):=by kernel_rfl
@[go_sem] theorem abg:bJ Try.prog 23=some 0:=by kernel_rfl
@[go_sem] theorem aau:aH Try.prog 23=some (.slice none 0 0):=by kernel_rfl
@[go_sem] theorem acH:aE Try.prog 25=some (true,3):=by kernel_rfl
@[go_sem] theorem aa5:dA Try.prog 25=some [(0,1),(1,1),(2,1)]:=by kernel_rfl
@[go_sem] theorem aat:aH Try.prog 25=some (.agg #[(.int .i64 0),(.slice none 0 0),(.slice none 0 0)]):=by kernel_rfl
@[go_sem] theorem abU:be Try.prog 25 0=some (0,1,false):=by kernel_rfl
@[go_sem] theorem abT:be Try.prog 25 1=some (1,1,false):=by kernel_rfl
@[go_sem] theorem abS:be Try.prog 25 2=some (2,1,false):=by kernel_rfl
@[go_sem] theorem acG:aE Try.prog 27=some (false,1):=by kernel_rfl
@[go_sem] theorem abm:fo Try.prog 27=some .i64:=by kernel_rfl
@[go_sem] theorem aas:aH Try.prog 27=some (.int .i64 0):=by kernel_rfl
@[go_sem] theorem acF:aE Try.prog 28=some (false,1):=by kernel_rfl
@[go_sem] theorem acE:aE Try.prog 30=some (false,1):=by kernel_rfl
@[go_sem] theorem acD:aE Try.prog 36=some (true,2):=by kernel_rfl
@[go_sem] theorem aa4:dA Try.prog 36=some [(0,1),(1,1)]:=by kernel_rfl
@[go_sem] theorem aar:aH Try.prog 36=some (.agg #[(.bool false),(.slice none 0 0)]):=by kernel_rfl
@[go_sem] theorem abR:be Try.prog 36 0=some (0,1,false):=by kernel_rfl
@[go_sem] theorem abQ:be Try.prog 36 1=some (1,1,false):=by kernel_rfl
@[go_sem] theorem acC:aE Try.prog 38=some (true,3):=by kernel_rfl
@[go_sem] theorem aa3:dA Try.prog 38=some [(0,2),(2,1)]:=by kernel_rfl
@[go_sem] theorem aaq:aH Try.prog 38=some (.agg #[(.bool false),(.slice none 0 0),(.int .i64 0)]):=by kernel_rfl
@[go_sem] theorem abP:be Try.prog 38 0=some (0,2,true):=by kernel_rfl
@[go_sem] theorem abO:be Try.prog 38 1=some (2,1,false):=by kernel_rfl
@[go_sem] theorem acB:aE Try.prog 39=some (false,1):=by kernel_rfl
@[go_sem] theorem acA:aE Try.prog 44=some (false,1):=by kernel_rfl
@[go_sem] theorem ab':bg Try.prog 44=some (58,3,24):=by kernel_rfl
@[go_sem] theorem abf:bJ Try.prog 44=some 0:=by kernel_rfl
@[go_sem] theorem aap:aH Try.prog 44=some (.slice none 0 0):=by kernel_rfl
@[go_sem] theorem acz:aE Try.prog 46=some (true,4):=by kernel_rfl
@[go_sem] theorem aa2:dA Try.prog 46=some [(0,1),(1,1),(2,1),(3,1)]:=by kernel_rfl
@[go_sem] theorem aao:aH Try.prog 46=some (.agg #[(.int .i64 0),(.int .i64 0),(.slice none 0 0),(.slice none 0 0)]):=by kernel_rfl
@[go_sem] theorem abN:be Try.prog 46 0=some (0,1,false):=by kernel_rfl
@[go_sem] theorem abM:be Try.prog 46 1=some (1,1,false):=by kernel_rfl
@[go_sem] theorem abL:be Try.prog 46 2=some (2,1,false):=by kernel_rfl
@[go_sem] theorem abK:be Try.prog 46 3=some (3,1,false):=by kernel_rfl
@[go_sem] theorem acy:aE Try.prog 47=some (true,2):=by kernel_rfl
@[go_sem] theorem aaV:dP Try.prog 47=some (2,1,false):=by kernel_rfl
@[go_sem] theorem aa1:dA Try.prog 47=some [(0,1),(1,1)]:=by kernel_rfl
@[go_sem] theorem aan:aH Try.prog 47=some (.agg #[(.int .i64 0),(.int .i64 0)]):=by kernel_rfl
@[go_sem] theorem acx:aE Try.prog 48=some (false,1):=by kernel_rfl
@[go_sem] theorem acw:aE Try.prog 52=some (false,1):=by kernel_rfl
@[go_sem] theorem acv:aE Try.prog 55=some (true,5):=by kernel_rfl
@[go_sem] theorem aa0:dA Try.prog 55=some [(0,1),(1,1),(2,1),(3,1),(4,1)]:=by kernel_rfl
@[go_sem] theorem G0:aH Try.prog 55=some (.agg #[(.int .i64 0),(.int .i64 0),(.slice none 0 0),(.int .i64 0),(.int .i64 0)]):=by kernel_rfl
@[go_sem] theorem abJ:be Try.prog 55 0=some (0,1,false):=by kernel_rfl
@[go_sem] theorem abI:be Try.prog 55 1=some (1,1,false):=by kernel_rfl
@[go_sem] theorem abH:be Try.prog 55 2=some (2,1,false):=by kernel_rfl
@[go_sem] theorem abG:be Try.prog 55 3=some (3,1,false):=by kernel_rfl
@[go_sem] theorem abF:be Try.prog 55 4=some (4,1,false):=by kernel_rfl
@[go_sem] theorem acu:aE Try.prog 58=some (true,3):=by kernel_rfl
@[go_sem] theorem aaU:dP Try.prog 58=some (3,1,false):=by kernel_rfl
@[go_sem] theorem aaZ:dA Try.prog 58=some [(0,1),(1,1),(2,1)]:=by kernel_rfl
@[go_sem] theorem aam:aH Try.prog 58=some (.agg #[(.int .i64 0),(.int .i64 0),(.int .i64 0)]):=by kernel_rfl
@[go_sem] theorem acs:aE Try.prog 62=some (true,3):=by kernel_rfl
@[go_sem] theorem aaY:dA Try.prog 62=some [(0,1),(1,1),(2,1)]:=by kernel_rfl
@[go_sem] theorem aal:aH Try.prog 62=some (.agg #[(.int .i64 0),(.int .i64 0),(.int .i64 0)]):=by kernel_rfl
@[go_sem] theorem abE:be Try.prog 62 0=some (0,1,false):=by kernel_rfl
@[go_sem] theorem abD:be Try.prog 62 1=some (1,1,false):=by kernel_rfl
@[go_sem] theorem abC:be Try.prog 62 2=some (2,1,false):=by kernel_rfl
@[go_sem] theorem acr:aE Try.prog 64=some (false,1):=by kernel_rfl
@[go_sem] theorem acq:aE Try.prog 71=some (false,1):=by kernel_rfl
@[go_sem] theorem acp:aE Try.prog 74=some (false,1):=by kernel_rfl
@[go_sem] theorem ab9:bg Try.prog 74=some (79,2,16):=by kernel_rfl
@[go_sem] theorem abe:bJ Try.prog 74=some 0:=by kernel_rfl
@[go_sem] theorem aak:aH Try.prog 74=some (.slice none 0 0):=by kernel_rfl
@[go_sem] theorem aco:aE Try.prog 75=some (false,1):=by kernel_rfl
@[go_sem] theorem acn:aE Try.prog 79=some (true,2):=by kernel_rfl
@[go_sem] theorem aaX:dA Try.prog 79=some [(0,1),(1,1)]:=by kernel_rfl
@[go_sem] theorem aaj:aH Try.prog 79=some (.agg #[(.int .i64 0),(.int .i64 0)]):=by kernel_rfl
@[go_sem] theorem abB:be Try.prog 79 0=some (0,1,false):=by kernel_rfl
@[go_sem] theorem abA:be Try.prog 79 1=some (1,1,false):=by kernel_rfl
@[go_sem] theorem acm:aE Try.prog 80=some (false,1):=by kernel_rfl
@[go_sem] theorem aai:aH Try.prog 80=some (.pointer none):=by kernel_rfl
@[go_sem] theorem ack:aE Try.prog 81=some (false,1):=by kernel_rfl
@[go_sem] theorem acj:aE Try.prog 83=some (true,4):=by kernel_rfl
@[go_sem] theorem aaW:dA Try.prog 83=some [(0,1),(1,1),(2,1),(3,1)]:=by kernel_rfl
@[go_sem] theorem aah:aH Try.prog 83=some (.agg #[(.int .i64 0),(.int .i64 0),(.bool false),(.bool false)]):=by kernel_rfl
@[go_sem] theorem abz:be Try.prog 83 0=some (0,1,false):=by kernel_rfl
@[go_sem] theorem aby:be Try.prog 83 1=some (1,1,false):=by kernel_rfl
@[go_sem] theorem abx:be Try.prog 83 2=some (2,1,false):=by kernel_rfl
@[go_sem] theorem abw:be Try.prog 83 3=some (3,1,false):=by kernel_rfl
@[go_sem] theorem aci:aE Try.prog 92=some (false,1):=by kernel_rfl
@[go_sem] theorem aag:aH Try.prog 92=some .nilFunc:=by kernel_rfl
@[go_sem] theorem ach:aE Try.prog 93=some (false,1):=by kernel_rfl
@[go_sem] theorem aaf:aH Try.prog 93=some .nilFunc:=by kernel_rfl
@[go_sem] theorem acg:aE Try.prog 95=some (false,1):=by kernel_rfl
@[go_sem] theorem acf:aE Try.prog 97=some (false,1):=by kernel_rfl
@[go_sem] theorem abd:bJ Try.prog 97=some 2:=by kernel_rfl
@[go_sem] theorem aba:gw Try.prog 97=some (0,4):=by kernel_rfl
@[go_sem] theorem aae:aH Try.prog 97=some (.map none):=by kernel_rfl
@[go_sem] theorem ace:aE Try.prog 99=some (false,1):=by kernel_rfl
@[go_sem] theorem ab8:bg Try.prog 99=some (4,1,1):=by kernel_rfl
@[go_sem] theorem abb:bJ Try.prog 99=some 0:=by kernel_rfl
@[go_sem] theorem aad:aH Try.prog 99=some (.slice none 0 0):=by kernel_rfl
@[go_sem] theorem ac7:aE Try.prog 101=some (true,3):=by kernel_rfl
@[go_sem] theorem aa':dA Try.prog 101=some [(0,1),(1,1),(2,1)]:=by kernel_rfl
@[go_sem] theorem aaQ:aH Try.prog 101=some (.agg #[(.slice none 0 0),(.slice none 0 0),(.slice none 0 0)]):=by kernel_rfl
@[go_sem] theorem ab7:be Try.prog 101 0=some (0,1,false):=by kernel_rfl
@[go_sem] theorem ab6:be Try.prog 101 1=some (1,1,false):=by kernel_rfl
@[go_sem] theorem ab5:be Try.prog 101 2=some (2,1,false):=by kernel_rfl
@[go_sem] theorem ac6:aE Try.prog 102=some (false,1):=by kernel_rfl
@[go_sem] theorem acd:bg Try.prog 102=some (99,1,24):=by kernel_rfl
@[go_sem] theorem abk:bJ Try.prog 102=some 0:=by kernel_rfl
@[go_sem] theorem aaP:aH Try.prog 102=some (.slice none 0 0):=by kernel_rfl
@[go_sem] theorem ac5:aE Try.prog 104=some (true,4):=by kernel_rfl
@[go_sem] theorem aa9:dA Try.prog 104=some [(0,1),(1,1),(2,1),(3,1)]:=by kernel_rfl
@[go_sem] theorem aaO:aH Try.prog 104=some (.agg #[(.slice none 0 0),(.slice none 0 0),(.slice none 0 0),(.slice none 0 0)]):=by kernel_rfl
@[go_sem] theorem ab4:be Try.prog 104 0=some (0,1,false):=by kernel_rfl
@[go_sem] theorem ab3:be Try.prog 104 1=some (1,1,false):=by kernel_rfl
@[go_sem] theorem ab2:be Try.prog 104 2=some (2,1,false):=by kernel_rfl
@[go_sem] theorem ab1:be Try.prog 104 3=some (3,1,false):=by kernel_rfl
@[go_sem] theorem ac3:aE Try.prog 110=some (false,1):=by kernel_rfl
@[go_sem] theorem ac2:aE Try.prog 115=some (false,1):=by kernel_rfl
@[go_sem] theorem ac1:aE Try.prog 117=some (false,1):=by kernel_rfl
@[go_sem] theorem acb:bg Try.prog 117=some (22,1,24):=by kernel_rfl
@[go_sem] theorem abi:bJ Try.prog 117=some 0:=by kernel_rfl
@[go_sem] theorem aaM:aH Try.prog 117=some (.slice none 0 0):=by kernel_rfl
@[go_sem] theorem ac0:aE Try.prog 118=some (false,1):=by kernel_rfl
@[go_sem] theorem acZ:aE Try.prog 126=some (false,1):=by kernel_rfl
@[go_sem] theorem aaL:aH Try.prog 126=some .nilFunc:=by kernel_rfl
@[go_sem] theorem acY:aE Try.prog 127=some (false,1):=by kernel_rfl
@[go_sem] theorem aaK:aH Try.prog 127=some .nilFunc:=by kernel_rfl
@[go_sem] theorem acX:aE Try.prog 130=some (false,1):=by kernel_rfl
@[go_sem] theorem aaJ:aH Try.prog 130=some (.pointer none):=by kernel_rfl
@[go_sem] theorem acW:aE Try.prog 134=some (true,3):=by kernel_rfl
@[go_sem] theorem aa8:dA Try.prog 134=some [(0,1),(1,1),(2,1)]:=by kernel_rfl
@[go_sem] theorem aaI:aH Try.prog 134=some (.agg #[(.pointer none),(.slice none 0 0),(.slice none 0 0)]):=by kernel_rfl
@[go_sem] theorem ab0:be Try.prog 134 0=some (0,1,false):=by kernel_rfl
@[go_sem] theorem abZ:be Try.prog 134 1=some (1,1,false):=by kernel_rfl
@[go_sem] theorem abY:be Try.prog 134 2=some (2,1,false):=by kernel_rfl
@[go_sem] theorem acV:aE Try.prog 136=some (false,1):=by kernel_rfl
@[go_sem] theorem abq:fo Try.prog 136=some .u64:=by kernel_rfl
@[go_sem] theorem aaH:aH Try.prog 136=some (.int .u64 0):=by kernel_rfl
@[go_sem] theorem acU:aE Try.prog 137=some (false,1):=by kernel_rfl
@[go_sem] theorem aaG:aH Try.prog 137=some .nilFunc:=by kernel_rfl
@[go_sem] theorem acS:aE Try.prog 141=some (false,1):=by kernel_rfl
@[go_sem] theorem aaE:aH Try.prog 141=some .nilFunc:=by kernel_rfl
@[go_sem] theorem acR:aE Try.prog 149=some (false,1):=by kernel_rfl
@[go_sem] theorem abp:fo Try.prog 149=some .u32:=by kernel_rfl
@[go_sem] theorem aaD:aH Try.prog 149=some (.int .u32 0):=by kernel_rfl
@[go_sem] theorem acP:aE Try.prog 151=some (false,1):=by kernel_rfl
@[go_sem] theorem abo:fo Try.prog 151=some .u64:=by kernel_rfl
@[go_sem] theorem aaB:aH Try.prog 151=some (.int .u64 0):=by kernel_rfl
@[go_sem] theorem acO:aE Try.prog 154=some (false,1):=by kernel_rfl
@[go_sem] theorem aaA:aH Try.prog 154=some .nilFunc:=by kernel_rfl
@[go_sem] theorem acM:aE Try.prog 164=some (false,1):=by kernel_rfl
@[go_sem] theorem abn:fo Try.prog 164=some .u8:=by kernel_rfl
@[go_sem] theorem aay:aH Try.prog 164=some (.int .u8 0):=by kernel_rfl
@[go_sem] theorem aaS:j8 Try.prog 3 136=0:=by kernel_rfl
@[go_sem] theorem aaT:j8 Try.prog 136 3=0:=by kernel_rfl
theorem bf:Try.prog.follows .mixedOrders=true:=by kernel_rfl
def yP(obj:Name->Option O):List Name->List O->Prop
 |[],[]=>True
 |x::xs,o::os=>obj x=some o/\yP obj xs os
 |_,_=>False
def LR(m:Nat):List Name:=(List.range m).map fun i=>[i,1]
def LI(m:Nat):List Name:=(List.range m).map fun i=>[i+1,1]
def sZ:Nat->List O->List (Nat×O)
 |_,[]=>[]
 |k,o::r=>(k,o)::sZ (k+1) r
structure Lp where
 m:Nat
 env:List Name->List E
 fam:List Name->Nat->List O
 ps:List Nat
 asg:Code
 body:Code
 n:Nat
 vals:Nat->List D
 st:Nat->Option Code
 fu:Nat
structure Lp.Ok (r:Lp):Prop where
 len:∀ Ls s,Ls.length=r.m->(r.fam Ls s).length=r.m
 ac':∀ f Ls,Ls.length=r.m->(r.env Ls).map (E.ren f)=r.env (Ls.map f)
 ac9:∀ f Ls s,Ls.length=r.m->(r.fam Ls s).map (O.ren f)=r.fam (Ls.map f) s
 reach:∀ Ls s obj acc k,Ls.length=r.m->Ls.Nodup->(∀ x∈Ls,x∉acc)->yP obj Ls (r.fam Ls s)->fQ obj (k+r.fu) (gA ((r.env Ls).map (·.d))) acc=acc++Ls
 ady:∀ dom Ls,Ls.length=r.m->(∀ x∈Ls,dom x=true)->D.closL dom ((r.env Ls).map (·.d))=true
 adx:∀ dom Ls s,Ls.length=r.m->(∀ x∈Ls,dom x=true)->∀ o∈r.fam Ls s,O.clos dom o=true
 psz:∀ Ls,Ls.length=r.m->(r.ps.all fun p=>decide (p<(r.env Ls).length))=true
 args:∀ s,(r.vals s).length=r.ps.length
 fuel:r.fu<=2000
 aac:∀ s,gA (r.vals s)=[]
 vcl:∀ s dom,D.closL dom (r.vals s)=true
 aab:∀ s f,D.renL f (r.vals s)=r.vals s
 inj:∀ s s',s<r.n->s'<r.n->r.vals s=r.vals s'->s=s'
theorem Qt(dom:Name->Bool)(vs:List V):∀ a:List D,D.closL dom (a++vs.map D.v)=D.closL dom a:=by
 have h0:∀ vs:List V,D.closL dom (vs.map D.v)=true:=by
  intro vs
  induction vs with
  |nil=>rfl
  |cons x r ih=>simp only[List.map_cons,D.closL,D.clos,ih,Bool.and_self]
 intro a
 induction a with
 |nil=>simpa[D.closL]using h0 vs
 |cons x r ih=>simp only[List.cons_append,D.closL,ih]
noncomputable def Lp.y(r:Lp):YSpec where
 pre:=fun env ps asg body os ds=>∃ s,s<r.n/\(∀ j,j<s->r.st j=none)/\env=r.env (LR r.m)/\ps=r.ps/\asg=r.asg/\body=r.body/\os=r.fam (LR r.m) s/\ds=r.vals s
 out:=fun _ _ _ _ _ ds=>by
  classical exact if h:∃ s,s<r.n/\ds=r.vals s then(⟨sZ 0 (r.fam (LR r.m) (h.choose+1)),[],.v (.bool true)⟩,r.st h.choose)else(⟨[],[],.any⟩,none)
def Lp.rc(r:Lp)(Ls:List Name)(st:LoopState)(pd:Option Code):O:=.loop (r.env Ls) r.ps r.asg r.body st pd
def Lp.e(r:Lp):Nat:=match (List.range r.n).find? (fun s=>(r.st s).isSome)with | some s=>s+1 | none=>r.n
def Lp.pd(r:Lp):Option Code:=match (List.range r.n).find? (fun s=>(r.st s).isSome)with | some s=>r.st s | none=>none
def Lp.fin(r:Lp)(Ls:List Name):O:=r.rc Ls (if r.pd.isNone then .ready else .done) r.pd
def Lp.it(r:Lp)(w9:List V):CSpec where
 pre:=fun os ds=>os=r.rc (LI r.m) .ready none::r.fam (LI r.m) 0/\ds=.yld [0,1]::w9.map .v
 out:=fun _ _=>⟨(0,r.fin (LI r.m))::sZ 1 (r.fam (LI r.m) r.e),[],.tup []⟩
theorem P0:∀ (n:Nat) (obj:Name->Option O) (x:V),aq n obj (.v x)=⟨True,x,obj⟩
 | 0,_,_=>rfl
 |_+1,_,_=>rfl
theorem Eo(n:Nat)(obj:Name->Option O):∀ l:List V,(aG (aq n) obj (l.map .v)).ok/\(aG (aq n) obj (l.map .v)).xs=l/\(aG (aq n) obj (l.map .v)).obj=obj
 |[]=>⟨trivial,rfl,rfl⟩
 |x::r=>by
  obtain⟨h1,h2,h3⟩:=Eo n obj r
  simp only[List.map_cons,aG,P0]
  exact⟨⟨trivial,h1⟩,by rw[h2],h3⟩
@[go_sem] theorem adw(dom:Name->Bool)(l:List V):D.closL dom (l.map .v)=true:=by
  have :=Qt dom l []
  simpa[D.closL]using this
theorem FY:∀ l:List V,kX (l.map .v)=some l
 |[]=>rfl
 |x::r=>by
  simp only[List.map_cons,kX,kY,FY r]
attribute [go_sem] FY
theorem GV{σ:S}(nm:Name)(l:List V)(ho:σ.obj nm=some (.box (l.map .v))):eS σ { σ with obj:=upd σ.obj nm (some (.fbox l)) }:=by
 intro G φ m a w hC
 obtain⟨h1,h2,h3⟩:=Eo 0 σ.obj l
 have e:aq 1 σ.obj (.ref nm 0)=⟨(aG (aq 0) σ.obj (l.map .v)).ok/\(aG (aq 0) σ.obj (l.map .v)).obj nm=some (.box (l.map .v)),.ptr ((aG (aq 0) σ.obj (l.map .v)).xs.drop 0),
     upd (aG (aq 0) σ.obj (l.map .v)).obj nm (some (.fbox (aG (aq 0) σ.obj (l.map .v)).xs))⟩:=by
  simp only[aq,ho]
 obtain⟨m',k1,k2,_⟩:=jQ 1 G φ m σ a w hC (.ref nm 0) _ (.ref nm 0 ⟨_,ho,rfl⟩) (by rw[e];exact⟨h1,by rw[h3];exact ho⟩)
 rw[e]at k2
 simp only[h2,h3]at k2
 exact⟨φ,m',k2⟩
theorem pZ{σ τ:S}(nm:Name)(l:List V)(ho:σ.obj nm=some (.box (l.map .v)))(ks:List Nat)(ns:List Name)
 (h:ek ks ns ⟨σ.nt,σ.env,upd σ.obj nm (some (.fbox l)),σ.pre,σ.base⟩) (hk:eB ks ns ⟨σ.nt,σ.env,upd σ.obj nm (some (.fbox l)),σ.pre,σ.base⟩=τ):eS σ τ:=
 (GV nm l ho).trans (pY ks ns h hk)
structure Gl where
 (so ho:Int)
 ms:List Int
 (kn un:Int)
 deriving Inhabited,DecidableEq
structure Iv where
 ho:Int
 pa:List Int
 gl:List Gl
 deriving Inhabited,DecidableEq
structure Pt where
 (pa ho kn:Int)
 deriving Inhabited,DecidableEq
structure Sp where
 (pa ho:Int)
 deriving Inhabited,DecidableEq
structure Cm where
 oh:Bool
 ls:List Int
 deriving Inhabited,DecidableEq
def im:V->Int
 | .int _ n=>n
 |_=>0
def r9:V->Bool
 | .bool b=>b
 |_=>false
def E2:V->List Int
 | .sl l=>l.map im
 |_=>[]
def encGl(g:Gl):V:=.agg [au g.so,au g.ho,.sl (g.ms.map au),au g.kn,au g.un]
def mu:V->Gl
 | .agg [.int _ a,.int _ b,.sl l,.int _ c,.int _ d]=>⟨a,b,l.map im,c,d⟩
 |_=>default
def fI(n:Iv):V:=.agg [au n.ho,.sl (n.pa.map au),.sl (n.gl.map encGl)]
def kS:V->Iv
 | .agg [.int _ a,.sl l,.sl g]=>⟨a,l.map im,g.map mu⟩
 |_=>default
def pE(p:Pt):V:=.agg [au p.pa,au p.ho,au p.kn]
def E1:V->Pt
 | .agg [.int _ a,.int _ b,.int _ c]=>⟨a,b,c⟩
 |_=>default
def r3(p:Sp):V:=.agg [au p.pa,au p.ho]
def r8:V->Sp
 | .agg [.int _ a,.int _ b]=>⟨a,b⟩
 |_=>default
def EW(c:Cm):V:=.agg [.bool c.oh,.sl (c.ls.map au)]
def E4:V->Cm
 | .agg [.bool b,.sl l]=>⟨b,l.map im⟩
 |_=>default
theorem qu{α:Type}{e:α->V}{d:V->α}(h:∀ a,d (e a)=a)(l:List α):(l.map e).map d=l:=by
 rw[List.map_map]
 have :d∘e=id:=funext h
 rw[this,List.map_id]
@[go_sem] theorem wT(l:List Int):(l.map au).map im=l:=qu (fun _=>rfl) l
@[go_sem] theorem Qg(l:List Bool):(l.map V.bool).map r9=l:=qu (fun _=>rfl) l
theorem E3(g:Gl):mu (encGl g)=g:=by cases g;simp only[encGl,mu,wT]
@[go_sem] theorem Qf(l:List Gl):(l.map encGl).map mu=l:=qu E3 l
theorem wS(n:Iv):kS (fI n)=n:=by cases n;simp only[fI,kS,wT,Qf]
@[go_sem] theorem adt(l:List Sp):(l.map r3).map r8=l:=qu (fun _=>rfl) l
@[go_sem] theorem adp(g:Gl):(⟨g.so,g.ho,g.ms,g.kn,g.un⟩:Gl)=g:=rfl
@[go_sem] theorem ado(n:Iv):(⟨n.ho,n.pa,n.gl⟩:Iv)=n:=rfl
@[go_sem] theorem adn(p:Pt):(⟨p.pa,p.ho,p.kn⟩:Pt)=p:=rfl
@[go_sem] theorem adm(p:Sp):(⟨p.pa,p.ho⟩:Sp)=p:=rfl
@[go_sem] theorem adq(c:Cm):(⟨c.oh,c.ls⟩:Cm)=c:=rfl
def iI:En Int:=⟨au,im⟩
def iB:En Bool:=⟨.bool,r9⟩
def cW:En (List Int):=⟨fun l=>.sl (l.map au),E2⟩
def iG:En Gl:=⟨encGl,mu⟩
def kx:En (List Gl):=⟨fun l=>.sl (l.map encGl),fun v=>match v with | .sl l=>l.map mu | _=>[]⟩
def iN:En Iv:=⟨fI,kS⟩
def qU:En Pt:=⟨pE,E1⟩
def Nt:En Sp:=⟨r3,r8⟩
def Ns:En (List Sp):=⟨fun l=>.sl (l.map r3),fun v=>match v with | .sl l=>l.map r8 | _=>[]⟩
def Nw:En Cm:=⟨EW,E4⟩
attribute [go_sem] iI iB cW iG kx iN qU Nt Ns Nw im r9 E2 encGl mu fI kS pE E1 r3 r8 EW E4
def ba(n lo hi:Int):Bool:=decide (lo<=n)&&decide (n<=hi)
def gF(n:Int):Bool:=ba n 0 100000
noncomputable def P65:PSpec:=p3 iI iI iI (fun _ _ _=>True) (fun n lo hi=>.bool (ba n lo hi)) true
noncomputable def S65:Spec:=P65.toSpec
attribute [go_sem] P65 S65
theorem H9:aS Try.prog 65 P65:=by
 refine w3 (rs:=[.tmp 6]) Try.func65 Try.ntmps65 (by rfl) (by kernel_rfl) (by decide) (fun _ _ _ _=>rfl) ⟨_,rfl,lb rfl,fun n lo hi hp hw=>?_⟩
 have hP:=bf
 simp only[iI]at hw |-
 have hΓ:=@fS Try.prog
 repeat refine sq ?_
 refine rs hΓ [0,1,2] [] ?_
 repeat refine sq ?_
 refine rs hΓ [6] [] ?_
 refine aC ?_
 simp only[go_sem]
 all_goals first | rfl | (simp;done) | (simp_all;done)
theorem qJ:an Try.prog 65 S65:=H9.sound
noncomputable def P67:PSpec:=p3 iI iI iI (fun _ _ _=>True) (fun n lo hi=>.bool (ba n lo hi)) true
noncomputable def S67:Spec:=P67.toSpec
attribute [go_sem] P67 S67
theorem H7:aS Try.prog 67 P67:=by
 refine w3 (rs:=[.tmp 6]) Try.func67 Try.ntmps67 (by rfl) (by kernel_rfl) (by decide) (fun _ _ _ _=>rfl) ⟨_,rfl,lb rfl,fun n lo hi hp hw=>?_⟩
 have hP:=bf
 simp only[iI]at hw |-
 have hΓ:=@fS Try.prog
 repeat refine sq ?_
 refine rs hΓ [0,1,2] [] ?_
 repeat refine sq ?_
 refine rs hΓ [6] [] ?_
 refine aC ?_
 simp only[go_sem]
 all_goals first | rfl | (simp;done) | (simp_all;done)
theorem oF:an Try.prog 67 S67:=H7.sound
noncomputable def P127:PSpec:=p1 iI (fun _=>True) (fun _=>.bool false) true
noncomputable def S127:Spec:=P127.toSpec
attribute [go_sem] P127 S127
theorem Ix:aS Try.prog 127 P127:=by
 refine w1 (rs:=[.tmp 2]) Try.func127 Try.ntmps127 (by rfl) (by kernel_rfl) (by decide) (fun _ _=>rfl) ⟨_,rfl,lb rfl,fun n hp hw=>?_⟩
 have hP:=bf
 simp only[iI]at hw |-
 have hΓ:=@fS Try.prog
 repeat refine sq ?_
 refine rs hΓ [0] [] ?_
 repeat refine sq ?_
 refine rs hΓ [2] [] ?_
 refine aC ?_
 simp only[go_sem]
 all_goals first | rfl | (simp;done) | (simp_all;done)
theorem M3:an Try.prog 127 S127:=Ix.sound
noncomputable def K1:List (Nat×Spec):=[(65,S65),(67,S67),(127,S127)]
theorem sV:∀ f s,tbl K1 f=some s->an Try.prog f s:=tc qJ<|tc oF<|tc M3<|tn
attribute [go_sem] K1
noncomputable def P118:PSpec:=p1 iI (fun _=>True) (fun n=>.bool (ba n 1 999)) true
noncomputable def S118:Spec:=P118.toSpec
attribute [go_sem] P118 S118
theorem Iy:aS Try.prog 118 P118:=by
 refine w1 (rs:=[.tmp 2]) Try.func118 Try.ntmps118 (by rfl) (by kernel_rfl) (by decide) (fun _ _=>rfl) ⟨_,rfl,lb rfl,fun n hp hw=>?_⟩
 have hP:=bf
 simp only[iI]at hw |-
 have hΓ:=sV
 repeat refine sq ?_
 refine rs hΓ [0] [] ?_
 repeat refine sq ?_
 refine rs hΓ [2] [] ?_
 refine aC ?_
 simp only[go_sem]
 all_goals first | rfl | (simp;done) | (simp_all;done)
theorem M4:an Try.prog 118 S118:=Iy.sound
noncomputable def P91:PSpec:=p1 iI (fun _=>True) (fun n=>.bool (gF n)) true
noncomputable def S91:Spec:=P91.toSpec
attribute [go_sem] P91 S91
theorem HU:aS Try.prog 91 P91:=by
 refine w1 (rs:=[.tmp 2]) Try.func91 Try.ntmps91 (by rfl) (by kernel_rfl) (by decide) (fun _ _=>rfl) ⟨_,rfl,lb rfl,fun n hp hw=>?_⟩
 have hP:=bf
 simp only[iI]at hw |-
 have hΓ:=sV
 repeat refine sq ?_
 refine rs hΓ [0] [] ?_
 repeat refine sq ?_
 refine rs hΓ [2] [] ?_
 refine aC ?_
 simp only[go_sem]
 all_goals first | rfl | (simp;done) | (simp_all;done)
theorem CA:an Try.prog 91 S91:=HU.sound
noncomputable def P88:PSpec:=p1 iI (fun _=>True) (fun n=>.bool (gF n)) true
noncomputable def S88:Spec:=P88.toSpec
attribute [go_sem] P88 S88
theorem HX:aS Try.prog 88 P88:=by
 refine w1 (rs:=[.tmp 2]) Try.func88 Try.ntmps88 (by rfl) (by kernel_rfl) (by decide) (fun _ _=>rfl) ⟨_,rfl,lb rfl,fun n hp hw=>?_⟩
 have hP:=bf
 simp only[iI]at hw |-
 have hΓ:=sV
 repeat refine sq ?_
 refine rs hΓ [0] [] ?_
 repeat refine sq ?_
 refine rs hΓ [2] [] ?_
 refine aC ?_
 simp only[go_sem]
 all_goals first | rfl | (simp;done) | (simp_all;done)
theorem CC:an Try.prog 88 S88:=HX.sound
noncomputable def P59:PSpec:=p1 iI (fun _=>True) (fun n=>au n) true
noncomputable def S59:Spec:=P59.toSpec
attribute [go_sem] P59 S59
theorem Ic:aS Try.prog 59 P59:=by
 refine w1 (rs:=[.tmp 2]) Try.func59 Try.ntmps59 (by rfl) (by kernel_rfl) (by decide) (fun _ _=>rfl) ⟨_,rfl,lb rfl,fun n hp hw=>?_⟩
 have hP:=bf
 simp only[iI]at hw |-
 have hΓ:=@fS Try.prog
 repeat refine sq ?_
 refine rs hΓ [0] [] ?_
 repeat refine sq ?_
 refine rs hΓ [2] [] ?_
 refine aC ?_
 simp only[go_sem]
 all_goals first | rfl | (simp;done) | (simp_all;done)
theorem MQ:an Try.prog 59 S59:=Ic.sound
noncomputable def P93:PSpec:=p1 iG (fun _=>True) (fun g=>au g.so) true
noncomputable def S93:Spec:=P93.toSpec
attribute [go_sem] P93 S93
theorem HS:aS Try.prog 93 P93:=by
 refine w1 (rs:=[.tmp 2]) Try.func93 Try.ntmps93 (by rfl) (by kernel_rfl) (by decide) (fun _ _=>rfl) ⟨_,rfl,lb rfl,fun g hp hw=>?_⟩
 have hP:=bf
 simp only[iG]at hw |-
 have hΓ:=@fS Try.prog
 repeat refine sq ?_
 refine rs hΓ [1] [[1,0]] ?_
 repeat refine sq ?_
 refine rs hΓ [2] [] ?_
 refine aC ?_
 simp only[go_sem]
 all_goals first | rfl | (simp;done) | (simp_all;done)
theorem MG:an Try.prog 93 S93:=HS.sound
noncomputable def P98:PSpec:=p1 iG (fun _=>True) (fun _=>.bool true) true
noncomputable def S98:Spec:=P98.toSpec
attribute [go_sem] P98 S98
theorem HP:aS Try.prog 98 P98:=by
 refine w1 (rs:=[.tmp 2]) Try.func98 Try.ntmps98 (by rfl) (by kernel_rfl) (by decide) (fun _ _=>rfl) ⟨_,rfl,lb rfl,fun g hp hw=>?_⟩
 have hP:=bf
 simp only[iG]at hw |-
 have hΓ:=@fS Try.prog
 repeat refine sq ?_
 refine rs hΓ [] [] ?_
 repeat refine sq ?_
 refine rs hΓ [2] [] ?_
 refine aC ?_
 simp only[go_sem]
 all_goals first | rfl | (simp;done) | (simp_all;done)
theorem MD:an Try.prog 98 S98:=HP.sound
def gG(a b:Int):Int:=if a<b then -1 else if b<a then 1 else 0
noncomputable def P110:PSpec:=p2 iI iI (fun _ _=>True) (fun a b=>au (gG a b)) true
noncomputable def S110:Spec:=P110.toSpec
attribute [go_sem] P110 S110
theorem IB:aS Try.prog 110 P110:=by
 refine w2 (rs:=[.tmp 4]) Try.func110 Try.ntmps110 (by rfl) (by kernel_rfl) (by decide) (fun _ _ _=>rfl) ⟨_,rfl,lb rfl,fun a b hp hw=>?_⟩
 have hP:=bf
 simp only[iI]at hw |-
 have hΓ:=sV
 repeat refine sq ?_
 refine rs hΓ [0,1] [] ?_
 repeat refine sq ?_
 refine rs hΓ [0,1,5] [] ?_
 repeat refine sq ?_
 refine rs hΓ [0,1,5,6] [] ?_
 repeat refine sq ?_
 refine rs hΓ [0,1,6,11] [] ?_
 repeat refine eO ?_
 refine aQ rfl rfl (fun hb=>?_) (fun hb=>?_)
 ·repeat refine eO ?_
  repeat refine sq ?_
  refine rs hΓ [12] [] ?_
  repeat refine eO ?_
  refine aQ rfl rfl (fun hb=>?_) (fun hb=>?_)
  ·repeat refine eO ?_
   repeat refine sq ?_
   refine rs hΓ [4] [] ?_
   refine aC ?_
   simp only[go_sem]
   all_goals first | rfl | (simp;done) | (grind [gG];done)
  ·repeat refine eO ?_
   refine aR ?_
   repeat refine sq ?_
   refine rs hΓ [4] [] ?_
   refine aC ?_
   simp only[go_sem]
   all_goals first | rfl | (simp;done) | (grind [gG];done)
 ·repeat refine eO ?_
  refine aR ?_
  repeat refine sq ?_
  refine rs hΓ [0,1,13] [] ?_
  repeat refine eO ?_
  refine aQ rfl rfl (fun hb=>?_) (fun hb=>?_)
  ·repeat refine eO ?_
   repeat refine sq ?_
   refine rs hΓ [4] [] ?_
   refine aC ?_
   simp only[go_sem]
   all_goals first | rfl | (simp;done) | (grind [gG];done)
  ·repeat refine eO ?_
   refine aR ?_
   repeat refine sq ?_
   refine rs hΓ [0,1,16] [] ?_
   repeat refine eO ?_
   refine aQ rfl rfl (fun hb=>?_) (fun hb=>?_)
   ·repeat refine eO ?_
    repeat refine sq ?_
    refine rs hΓ [4] [] ?_
    refine aC ?_
    simp only[go_sem]
    all_goals first | rfl | (simp;done) | (grind [gG];done)
   ·repeat refine eO ?_
    refine aR ?_
    repeat refine sq ?_
    refine rs hΓ [19] [] ?_
    repeat refine eO ?_
    refine aQ rfl rfl (fun hb=>?_) (fun hb=>?_)
    ·repeat refine eO ?_
     repeat refine sq ?_
     refine rs hΓ [4] [] ?_
     refine aC ?_
     simp only[go_sem]
     all_goals first | rfl | (simp;done) | (grind [gG];done)
    ·repeat refine eO ?_
     refine aR ?_
     repeat refine sq ?_
     refine rs hΓ [4] [] ?_
     refine aC ?_
     simp only[go_sem]
     all_goals first | rfl | (simp;done) | (grind [gG];done)
theorem M7:an Try.prog 110 S110:=IB.sound
def cr(g:Gl)(known:Int):Bool:=decide (g.kn<=known)&&(g.un==0||decide (g.un>known))
noncomputable def P100:PSpec:=p2 iG iI (fun _ _=>True) (fun g k=>.bool (cr g k)) true
noncomputable def S100:Spec:=P100.toSpec
attribute [go_sem] P100 S100
theorem IE:aS Try.prog 100 P100:=by
 refine w2 (rs:=[.tmp 4]) Try.func100 Try.ntmps100 (by rfl) (by kernel_rfl) (by decide) (fun _ _ _=>rfl) ⟨_,rfl,lb rfl,fun g k hp hw=>?_⟩
 have hP:=bf
 simp only[iG,iI]at hw |-
 have hΓ:=@fS Try.prog
 repeat refine sq ?_
 refine rs hΓ [1,2] [[2,0]] ?_
 repeat refine sq ?_
 refine rs hΓ [4] [] ?_
 refine aC ?_
 simp only[go_sem]
 all_goals first | rfl | (simp;done) | (grind [cr];done)
theorem M':an Try.prog 100 S100:=IE.sound
theorem oH{n lo hi:Int}:ba n lo hi=true↔lo<=n/\n<=hi:=by unfold ba;simp
theorem qi{i n:Nat}(h:i<n)(hn:n<=maxLen):∃ p:Nat,(IntKind.i64.wrap ((i:Int)-1)).toNat=p/\p<n/\p=i-1/\(0<i->0<=IntKind.i64.wrap ((i:Int)-1)/\IntKind.i64.wrap ((i:Int)-1)<n):=by
 unfold maxLen at hn
 rcases Nat.eq_zero_or_pos i with rfl | hp
 ·exact⟨0,by decide,h,rfl,fun h=>by omega⟩
 ·have:IntKind.i64.wrap ((i:Int)-1)=((i-1:Nat):Int):=by rw[wrap_i64 (by omega) (by omega)];omega
  exact⟨i-1,by rw[this];rfl,by omega,rfl,fun _=>by omega⟩
def dB{α:Type}[Inhabited α](chk:α->Bool)(num:α->Int)(l:List α)(i:Nat):Bool:=chk (l.getD i default)&&(i==0||decide (num (l.getD (i-1) default)<num (l.getD i default)))
def je(n:Nat)(f:Nat->Bool):Bool:=(List.range n).all f
theorem pO{n:Nat}{f:Nat->Bool}:je n f=true↔∀ j,j<n->f j=true:=by
 unfold je;rw[List.all_eq_true];exact⟨fun h j hj=>h j (List.mem_range.2 hj),fun h j hj=>h j (List.mem_range.1 hj)⟩
theorem sQ{n i:Nat}{f:Nat->Bool}(h:i<n)(hb:f i=false):je n f=false:=by
 rw[Bool.eq_false_iff];intro k;rw[pO.1 k i h]at hb;cases hb
theorem sP{n:Nat}{f:Nat->Bool}(h:je n f=true)(hb:f n=true):je (n+1) f=true:=pO.2 fun j hj=>by
 rcases Nat.lt_succ_iff_lt_or_eq.1 hj with h5 | rfl
 ·exact pO.1 h j h5
 ·exact hb
def c9{α:Type}[Inhabited α](chk:α->Bool)(num:α->Int)(l:List α):Bool:=je l.length (dB chk num l)
theorem qb{α:Type}[Inhabited α]{chk:α->Bool}{num:α->Int}{l:List α}{i p:Nat}(hp:p=i-1)(hi:i<l.length)(eG:p<l.length):
 (!chk l[i]||(decide ((i:Int)>0)&&decide (num l[p]>=num l[i])))=!dB chk num l i:=by
 subst hp
 unfold dB
 rw[cF hi,cF eG]
 have e1:decide ((i:Int)>0)=!(i==0):=by cases i<;>simp
 have e2:decide (num l[i-1]>=num l[i])=!decide (num l[i-1] <num l[i]):=by
  by_cases h:num l[i-1] <num l[i]
  ·rw[decide_eq_true h,decide_eq_false (by omega)];rfl
  ·rw[decide_eq_false h,decide_eq_true (by omega)];rfl
 rw[e1,e2]
 cases chk l[i]<;>cases (i==0)<;>cases decide (num l[i-1] <num l[i])<;>rfl
def jV(n:Int):Bool:=ba n 1 999
def cp(n:Int):Int:=n
noncomputable def K2:List (Nat×Spec):=[(59,S59),(118,S118)]
theorem RK:∀ f s,tbl K2 f=some s->an Try.prog f s:=tc MQ<|tc M4<|tn
attribute [go_sem] K2
noncomputable def P58:PSpec:=p3 cW (iF 59) (iF 118) (fun _ _ _=>True) (fun l _ _=>.bool (c9 jV cp l)) true
noncomputable def S58:Spec:=P58.toSpec
attribute [go_sem] P58 S58
set_option maxHeartbeats 4000000 in
theorem Ie:aS Try.prog 58 P58:=by
 refine w3 (rs:=[.tmp 6]) Try.func58 Try.ntmps58 (by rfl) (by kernel_rfl) (by decide) (fun _ _ _ _=>rfl) ⟨_,rfl,lb rfl,fun l u v hp hw=>?_⟩
 have hP:=bf
 simp only[iF,cW,iC]at hw |-
 have hΓ:=RK
 have hl:l.length<=maxLen:=by have:=hw.1.1;simpa using this
 repeat refine sq ?_
 refine rs hΓ [0,1,2] [] ?_
 repeat refine sq ?_
 refine rs hΓ [0,1,2,9,10,11] [] ?_
 repeat refine sq ?_
 refine bd ?_
 repeat refine sq ?_
 refine cL (fun z:Nat=>[(11,⟨true,.v (au z)⟩)]) (fun z=>[]) (fun z=>z<=l.length/\je z (dB jV cp l)=true) (fun z=>l.length-z) 0 ?_ ?_ ?_ ?_
 ·exact⟨Nat.zero_le _,rfl⟩
 ·rfl
 ·rfl
 rintro i ⟨hi,hR⟩
 simp only[go_sem]
 repeat refine sq ?_
 refine rs hΓ [0,1,2,9,10,11,12] [] ?_
 repeat refine sq ?_
 refine aQ rfl rfl (fun hb=>?_) (fun hb=>?_)
 ·have ae:i<l.length:=by simpa using hb
  have ax:(i:Int)<l.length:=by omega
  clear hb
  obtain⟨p,hp,eG,fZ,bU⟩:=qi ae hl
  have hc:(!ba l[i] 1 999||(decide ((i:Int)>0)&&decide (l[p]>=l[i])))=!dB jV cp l i:=qb (chk:=jV) (num:=cp) fZ ae eG
  repeat refine sq ?_
  refine aR ?_
  repeat refine sq ?_
  refine bd ?_
  repeat refine sq ?_
  refine rx hΓ [0,1,2,7,8,9,10,11] [] (fun K' hK=>by simp only[go_sem,aA ae,Int.toNat_natCast,Int.natCast_nonneg,ax,aA ae,Int.toNat_natCast,Int.natCast_nonneg,ax];(repeat (refine⟨ob,?_⟩));exact hK _ (by simp only[go_sem]) (by simp only[go_sem]<;>rfl)) ?_
  repeat refine sq ?_
  refine rx hΓ [0,1,2,9,10,11,36] [] (fun K' hK=>by simp only[go_sem,aA ae,Int.toNat_natCast,Int.natCast_nonneg,ax,hp,aA eG];(repeat (refine⟨by first | exact ob | (intro h;have:=bU (by simp_all;omega);simp_all;done),?_⟩));exact hK _ (by simp only[go_sem]) (by simp only[go_sem]<;>rfl)) ?_
  repeat refine sq ?_
  refine aQ rfl rfl (fun hb=>?_) (fun hb=>?_)
  ·repeat refine sq ?_
   have mb:dB jV cp l i=false:=by have h5:=hc.symm.trans hb;simpa using h5
   repeat refine sq ?_
   refine rx hΓ [6] [] (fun K' hK=>by simp only[go_sem,aA ae,Int.toNat_natCast,Int.natCast_nonneg,ax];(repeat (refine⟨ob,?_⟩));exact hK _ (by simp only[go_sem]) (by simp only[go_sem]<;>rfl)) ?_
   refine aC ?_
   simp only[go_sem]
   rw[show c9 jV cp l=false from sQ ae mb]
  ·repeat refine sq ?_
   have l8:dB jV cp l i=true:=by have h5:=hc.symm.trans hb;simpa using h5
   refine aR ?_
   refine fJ ?_
   simp only[go_sem]
   refine kp [0,1,2,9,10,11] [] ?_
   repeat refine sq ?_
   refine bw hΓ fun K' hK=>?_
   simp only[go_sem,aA ae,Int.toNat_natCast,Int.natCast_nonneg,ax]
   repeat (refine⟨ob,?_⟩)
   refine hK _ ?_
   clear K' hK
   simp only[go_sem]
   refine⟨i+1,⟨ae,?_⟩,by(show l.length-(i+1)<l.length-i;omega),?_⟩
   ·exact sP hR l8
   refine bN [0,1,2,9,10,11] [] ?_ ?_
   ·simp only[go_sem,aT ae hl,Int.natCast_add,Int.natCast_one]
   ·simp only[go_sem,aT ae hl,Int.natCast_add,Int.natCast_one]
 ·have bH:i=l.length:=by
   have :¬ (i:Int)<l.length:=by simpa using hb
   omega
  clear hb
  subst bH
  repeat refine sq ?_
  refine cG ?_
  simp only[go_sem]
  refine kp [] [] ?_
  repeat refine sq ?_
  refine rs hΓ [6] [] ?_
  refine aC ?_
  simp only[go_sem]
  rw[show c9 jV cp l=true from hR]
theorem MR:an Try.prog 58 S58:=Ie.sound
def dY(l:List Int):Bool:=decide (l.length<=20)&&c9 jV cp l
theorem J1(l:List Int):decide ((l.length:Int)<=20)=decide (l.length<=20):=by
 by_cases h:l.length<=20
 ·rw[decide_eq_true h,decide_eq_true (by omega)]
 ·rw[decide_eq_false h,decide_eq_false (by omega)]
noncomputable def Gp:List (Nat×Spec):=[(58,S58)]
theorem RJ:∀ f s,tbl Gp f=some s->an Try.prog f s:=tc MR<|tn
attribute [go_sem] Gp
noncomputable def P90:PSpec:=p1 cW (fun _=>True) (fun l=>.bool (dY l)) true
noncomputable def S90:Spec:=P90.toSpec
attribute [go_sem] P90 S90
theorem HV:aS Try.prog 90 P90:=by
 refine w1 (rs:=[.tmp 2]) Try.func90 Try.ntmps90 (by rfl) (by kernel_rfl) (by decide) (fun _ _=>rfl) ⟨_,rfl,lb rfl,fun l hp hw=>?_⟩
 have hP:=bf
 simp only[cW]at hw |-
 have hΓ:=RJ
 repeat refine sq ?_
 refine rs hΓ [0] [] ?_
 repeat refine sq ?_
 refine rx hΓ [2] [] (fun K' hK=>by simp only[go_sem,List.length_map,J1];(repeat (refine⟨ob,?_⟩));exact hK _ (by simp only[go_sem]) (by simp only[go_sem]<;>rfl)) ?_
 refine aC ?_
 simp only[go_sem]
 (unfold dY;cases decide (l.length<=20)<;>rfl)
theorem CB:an Try.prog 90 S90:=HV.sound
noncomputable def Gn:List (Nat×Spec):=[(67,S67)]
theorem RI:∀ f s,tbl Gn f=some s->an Try.prog f s:=tc oF<|tn
attribute [go_sem] Gn
noncomputable def P62:PSpec:=p3 cW iI iI (fun _ _ _=>True) (fun l lo up=>.bool (c9 (fun n=>ba n lo up) cp l)) true
noncomputable def S62:Spec:=P62.toSpec
attribute [go_sem] P62 S62
set_option maxHeartbeats 4000000 in
theorem Ia:aS Try.prog 62 P62:=by
 refine w3 (rs:=[.tmp 6]) Try.func62 Try.ntmps62 (by rfl) (by kernel_rfl) (by decide) (fun _ _ _ _=>rfl) ⟨_,rfl,lb rfl,fun l lo up hp hw=>?_⟩
 have hP:=bf
 simp only[iI,cW]at hw |-
 have hΓ:=RI
 have hl:l.length<=maxLen:=by have:=hw.1.1;simpa using this
 repeat refine sq ?_
 refine rs hΓ [0,1,2] [] ?_
 repeat refine sq ?_
 refine rs hΓ [0,1,2,7] [] ?_
 repeat refine sq ?_
 refine bd ?_
 repeat refine sq ?_
 refine cL (fun z:Nat=>[(7,⟨true,.v (au z)⟩)]) (fun z=>[]) (fun z=>z<=l.length/\je z (dB (fun n=>ba n lo up) cp l)=true) (fun z=>l.length-z) 0 ?_ ?_ ?_ ?_
 ·exact⟨Nat.zero_le _,rfl⟩
 ·rfl
 ·rfl
 rintro i ⟨hi,hR⟩
 simp only[go_sem]
 repeat refine sq ?_
 refine rs hΓ [0,1,2,7,11] [] ?_
 repeat refine sq ?_
 refine aQ rfl rfl (fun hb=>?_) (fun hb=>?_)
 ·have ae:i<l.length:=by simpa using hb
  have ax:(i:Int)<l.length:=by omega
  clear hb
  obtain⟨p,hp,eG,fZ,bU⟩:=qi ae hl
  have hc:(!ba l[i] lo up||(decide ((i:Int)>0)&&decide (l[p]>=l[i])))=!dB (fun n=>ba n lo up) cp l i:=qb (chk:=fun n=>ba n lo up) (num:=cp) fZ ae eG
  repeat refine sq ?_
  refine aR ?_
  repeat refine sq ?_
  refine bd ?_
  repeat refine sq ?_
  refine dx hΓ hP [[],[],[0,1],[0,1,2],[],[],[0,1,2,3,4,5],[0,1,2,3,4,5,6],[0,1,2,3,4,5,6,7],[0,1,2,3,4,5,6,7,8],[0,1,2,3,4,5,6,7,8,9],[0,1,2,3,4,5,6,7,8,9,10],[0,1,2,3,4,5,6,7,8,9,10,11],[0,1,2,3,4,5,6,7,8,9,10,11],[0,1,2,3,4,5,6,7,8,9,10,11,13],[0,1,2,3,4,5,6,7,8,9,10,11,12,13,14],[0,1,2,3,4,5,6,7,8,9,10,11,12,13,14,15],[0,1,2,3,4,5,6,7,8,9,10,11],[0,1,2,3,4,5,6,7,8,9,10,11],[0,1,2,3,4,5,6,7,8,9,10,11,17,18],[0,1,2,3,4,5,6,7,8,9,10,11,17,18,19],[0,1,2,3,4,5,6,7,8,9,10,11,12,13,14,15,16,17,18,19,20],[0,1,2,3,4,5,6,7,8,9,10,11,12,13,14,15,16,17,18,19,20,21],[0,1,2,3,4,5,6,7,8,9,10,11,12,13,14,15,16,17,18,19,20,21,22]] [0,1,2,7,37] [] (by kernel_rfl) (fun K' hK=>by simp only[go_sem,aA ae,Int.toNat_natCast,Int.natCast_nonneg,ax,hp,aA eG,aA ae,Int.toNat_natCast,Int.natCast_nonneg,ax];(repeat (refine⟨by first | exact ob | (intro h;have:=bU (by simp_all;omega);simp_all;done),?_⟩));(first | refine⟨by rfl,?_⟩ | skip);exact hK _ (by simp only[go_sem]) (by simp only[go_sem]<;>rfl)) ?_
  repeat refine sq ?_
  refine aQ rfl rfl (fun hb=>?_) (fun hb=>?_)
  ·repeat refine sq ?_
   have mb:dB (fun n=>ba n lo up) cp l i=false:=by have h5:=hc.symm.trans hb;simpa using h5
   repeat refine sq ?_
   refine rx hΓ [6] [] (fun K' hK=>by simp only[go_sem,aA ae,Int.toNat_natCast,Int.natCast_nonneg,ax];(repeat (refine⟨ob,?_⟩));exact hK _ (by simp only[go_sem]) (by simp only[go_sem]<;>rfl)) ?_
   refine aC ?_
   simp only[go_sem]
   rw[show c9 (fun n=>ba n lo up) cp l=false from sQ ae mb]
  ·repeat refine sq ?_
   have l8:dB (fun n=>ba n lo up) cp l i=true:=by have h5:=hc.symm.trans hb;simpa using h5
   refine aR ?_
   refine fJ ?_
   simp only[go_sem]
   refine kp [0,1,2,7] [] ?_
   repeat refine sq ?_
   refine bw hΓ fun K' hK=>?_
   simp only[go_sem,aA ae,Int.toNat_natCast,Int.natCast_nonneg,ax]
   repeat (refine⟨ob,?_⟩)
   refine hK _ ?_
   clear K' hK
   simp only[go_sem]
   refine⟨i+1,⟨ae,?_⟩,by(show l.length-(i+1)<l.length-i;omega),?_⟩
   ·exact sP hR l8
   refine bN [0,1,2,7] [] ?_ ?_
   ·simp only[go_sem,aT ae hl,Int.natCast_add,Int.natCast_one]
   ·simp only[go_sem,aT ae hl,Int.natCast_add,Int.natCast_one]
 ·have bH:i=l.length:=by
   have :¬ (i:Int)<l.length:=by simpa using hb
   omega
  clear hb
  subst bH
  repeat refine sq ?_
  refine cG ?_
  simp only[go_sem]
  refine kp [] [] ?_
  repeat refine sq ?_
  refine rs hΓ [6] [] ?_
  refine aC ?_
  simp only[go_sem]
  rw[show c9 (fun n=>ba n lo up) cp l=true from hR]
theorem CJ:an Try.prog 62 S62:=Ia.sound
def jT(b:Bool)(n:Int):Int:=if b then 0 else n
theorem ER(b:Bool)(n:Int)(hn:n≠0):(jT b n != 0)=!b:=by cases b<;>simp[jT,hn]
theorem P2(b:Bool)(n:Int)(hn:n≠0):(jT b n==0)=b:=by cases b<;>simp[jT,hn]
def xv(g:Gl):Bool:=g.un==0||ba g.un (g.kn+1) 100000
def eN(g:Gl):Bool:=ba g.so 1 99999&&(ba g.ho 1 24&&(dY g.ms&&(gF g.kn&&xv g)))
theorem GZ(g:Gl)(h:gF g.kn=true):IntKind.i64.wrap (g.kn+1)=g.kn+1:=by
 unfold gF ba at h
 simp only[Bool.and_eq_true,decide_eq_true_eq]at h
 exact wrap_i64 (by omega) (by omega)
theorem pt(g:Gl):(!ba g.so 1 99999||!ba g.ho 1 24||!dY g.ms||!gF g.kn||g.un != 0&&!ba g.un (IntKind.i64.wrap (g.kn+1)) 100000)=!eN g:=by
 unfold eN xv
 cases h:gF g.kn
 ·cases ba g.so 1 99999<;>cases ba g.ho 1 24<;>cases dY g.ms<;>rfl
 ·rw[GZ g h]
  show _=!(ba g.so 1 99999&&(ba g.ho 1 24&&(dY g.ms&&(true&&(g.un==0||ba g.un (g.kn+1) 100000)))))
  have e:(g.un != 0)=!(g.un==0):=rfl
  rw[e]
  cases ba g.so 1 99999<;>cases ba g.ho 1 24<;>cases dY g.ms<;>cases (g.un==0)<;>cases ba g.un (g.kn+1) 100000<;>rfl
theorem Ei(l:List Int):decide ((l.length:Int)>20)=!decide (l.length<=20):=by
 by_cases h:l.length<=20
 ·rw[decide_eq_true h,decide_eq_false (by omega)];rfl
 ·rw[decide_eq_false h,decide_eq_true (by omega)];rfl
theorem rS(g:Gl):(!ba g.so 1 99999||!ba g.ho 1 24||decide ((g.ms.length:Int)>20)||!c9 (fun n=>ba n 1 999) cp g.ms||!gF g.kn||g.un != 0&&!ba g.un (IntKind.i64.wrap (g.kn+1)) 100000)=!eN g:=by
 rw[<-pt,Ei]
 have e:dY g.ms=(decide (g.ms.length<=20)&&c9 (fun n=>ba n 1 999) cp g.ms):=rfl
 rw[e]
 cases ba g.so 1 99999<;>cases ba g.ho 1 24<;>cases decide (g.ms.length<=20)<;>cases c9 (fun n=>ba n 1 999) cp g.ms<;>rfl
theorem nK{b c:Bool}{n:Int}(h:c=!b)(hb:c=true):au n=au (jT b n):=by
 rw[hb]at h
 have :b=false:=by simpa using h.symm
 rw[this];rfl
theorem nL{b c:Bool}{n:Int}(h:c=!b)(hb:c=false):au 0=au (jT b n):=by
 rw[hb]at h
 have :b=true:=by simpa using h.symm
 rw[this];rfl
noncomputable def K3:List (Nat×Spec):=[(65,S65),(90,S90),(91,S91)]
theorem RH:∀ f s,tbl K3 f=some s->an Try.prog f s:=tc qJ<|tc CB<|tc CA<|tn
attribute [go_sem] K3
noncomputable def P39:PSpec:=p1 iG (fun _=>True) (fun g=>au (jT (eN g) 30)) true
noncomputable def S39:Spec:=P39.toSpec
attribute [go_sem] P39 S39
set_option maxHeartbeats 4000000 in
theorem Ik:aS Try.prog 39 P39:=by
 refine w1 (rs:=[.tmp 2]) Try.func39 Try.ntmps39 (by rfl) (by kernel_rfl) (by decide) (fun _ _=>rfl) ⟨_,rfl,lb rfl,fun g hp hw=>?_⟩
 have hP:=bf
 simp only[iG]at hw |-
 have hΓ:=RH
 repeat refine sq ?_
 refine rs hΓ [1] [[1,0]] ?_
 repeat refine sq ?_
 refine rs hΓ [38] [] ?_
 repeat refine sq ?_
 refine aQ rfl rfl (fun hb=>?_) (fun hb=>?_)
 ·repeat refine sq ?_
  refine rs hΓ [2] [] ?_
  refine aC ?_
  simp only[go_sem]
  first | exact nK (pt g) hb | exact nL (pt g) hb
 ·repeat refine sq ?_
  refine aR ?_
  repeat refine sq ?_
  refine rs hΓ [2] [] ?_
  refine aC ?_
  simp only[go_sem]
  first | exact nK (pt g) hb | exact nL (pt g) hb
theorem CO:an Try.prog 39 S39:=Ik.sound
noncomputable def Gm:List (Nat×Spec):=[(67,S67),(62,S62),(88,S88)]
theorem RG:∀ f s,tbl Gm f=some s->an Try.prog f s:=tc oF<|tc CJ<|tc CC<|tn
attribute [go_sem] Gm
noncomputable def P40:PSpec:=p1 iG (fun _=>True) (fun g=>au (jT (eN g) 30)) true
noncomputable def S40:Spec:=P40.toSpec
attribute [go_sem] P40 S40
set_option maxHeartbeats 4000000 in
theorem Ij:aS Try.prog 40 P40:=by
 refine w1 (rs:=[.tmp 2]) Try.func40 Try.ntmps40 (by rfl) (by kernel_rfl) (by decide) (fun _ _=>rfl) ⟨_,rfl,lb rfl,fun g hp hw=>?_⟩
 have hP:=bf
 simp only[iG]at hw |-
 have hΓ:=RG
 repeat refine sq ?_
 refine rs hΓ [1] [[1,0]] ?_
 repeat refine sq ?_
 refine rx hΓ [44] [] (fun K' hK=>by simp only[go_sem,List.length_map];(repeat (refine⟨ob,?_⟩));exact hK _ (by simp only[go_sem]) (by simp only[go_sem]<;>rfl)) ?_
 repeat refine sq ?_
 refine aQ rfl rfl (fun hb=>?_) (fun hb=>?_)
 ·repeat refine sq ?_
  refine rs hΓ [2] [] ?_
  refine aC ?_
  simp only[go_sem]
  first | exact nK (rS g) hb | exact nL (rS g) hb
 ·repeat refine sq ?_
  refine aR ?_
  repeat refine sq ?_
  refine rs hΓ [2] [] ?_
  refine aC ?_
  simp only[go_sem]
  first | exact nK (rS g) hb | exact nL (rS g) hb
theorem CN:an Try.prog 40 S40:=Ij.sound
def e6{α:Type}(p:α->Bool)(l:List α):Int:=if l.any p then(l.findIdx p:Int)else -1
theorem C4{α:Type}{p:α->Bool}{l:List α}{i:Nat}(h:i<l.length)(hp:p l[i]=true)(hn:∀ k (hk:k<l.length),k<i->p l[k]=false):e6 p l=i:=by
 unfold e6
 rw[if_pos (List.any_eq_true.2 ⟨_,List.getElem_mem h,hp⟩)]
 congr 1
 rw[List.findIdx_eq h]
 exact⟨hp,fun j hj=>by simpa using hn j (by omega) hj⟩
theorem C3{α:Type}{p:α->Bool}{l:List α}(hn:∀ k (hk:k<l.length),p l[k]=false):e6 p l= -1:=by
 unfold e6
 rw[if_neg]
 intro h
 obtain⟨x,hx,hp⟩:=List.any_eq_true.1 h
 obtain⟨k,hk,rfl⟩:=List.getElem_of_mem hx
 rw[hn k hk]at hp
 cases hp
theorem C2{α:Type}(p:α->Bool)(l:List α):decide (e6 p l>=0)=l.any p:=by
 unfold e6
 cases l.any p
 ·rfl
 ·simp
def cf(l:List Int)(x:Int):Bool:=l.any fun y=>y==x
theorem Pd{l:List Int}{x:Int}:cf l x=true↔x∈l:=by
 unfold cf
 rw[List.any_eq_true]
 exact⟨fun ⟨y,hy,e⟩=>(by simpa using e:y=x)▸hy,fun h=>⟨x,h,by simp⟩⟩
noncomputable def P71:PSpec:=p2 cW iI (fun _ _=>True) (fun l x=>au (e6 (fun y=>y==x) l)) true
noncomputable def S71:Spec:=P71.toSpec
attribute [go_sem] P71 S71
theorem H6:aS Try.prog 71 P71:=by
 refine w2 (rs:=[.tmp 4]) Try.func71 Try.ntmps71 (by rfl) (by kernel_rfl) (by decide) (fun _ _ _=>rfl) ⟨_,rfl,lb rfl,fun l x hp hw=>?_⟩
 have hP:=bf
 simp only[iI,cW]at hw |-
 have hΓ:=@fS Try.prog
 have hl:l.length<=maxLen:=by have:=hw.1.1;simpa using this
 repeat refine sq ?_
 refine rs hΓ [0,1] [] ?_
 repeat refine sq ?_
 refine rs hΓ [0,1,7,8] [] ?_
 repeat refine sq ?_
 refine bd ?_
 repeat refine sq ?_
 refine cL (fun z:Nat=>[(8,⟨true,.v (au z)⟩)]) (fun z=>[]) (fun z=>z<=l.length/\∀ k (h:k<l.length),k<z->(l[k]==x)=false) (fun z=>l.length-z) 0 ?_ ?_ ?_ ?_
 ·exact⟨Nat.zero_le _,fun k h hk=>absurd hk (by omega)⟩
 ·rfl
 ·rfl
 rintro i ⟨hi,hR⟩
 simp only[go_sem]
 repeat refine sq ?_
 refine rs hΓ [0,1,7,8,9] [] ?_
 repeat refine sq ?_
 refine aQ rfl rfl (fun hb=>?_) (fun hb=>?_)
 ·have ae:i<l.length:=by simpa using hb
  have ax:(i:Int)<l.length:=by omega
  clear hb
  repeat refine sq ?_
  refine aR ?_
  repeat refine sq ?_
  refine bd ?_
  repeat refine sq ?_
  refine rx hΓ [0,1,5,7,8] [] (fun K' hK=>by simp only[go_sem,aA ae,Int.toNat_natCast,Int.natCast_nonneg,ax];(repeat (refine⟨ob,?_⟩));exact hK _ (by simp only[go_sem]) (by simp only[go_sem]<;>rfl)) ?_
  repeat refine sq ?_
  refine rx hΓ [0,1,5,7,8,16] [] (fun K' hK=>by simp only[go_sem,aA ae,Int.toNat_natCast,Int.natCast_nonneg,ax,aA ae,Int.toNat_natCast,Int.natCast_nonneg,ax];(repeat (refine⟨ob,?_⟩));exact hK _ (by simp only[go_sem]) (by simp only[go_sem]<;>rfl)) ?_
  repeat refine sq ?_
  refine aQ rfl rfl (fun hb=>?_) (fun hb=>?_)
  ·repeat refine sq ?_
   refine rx hΓ [4] [] (fun K' hK=>by simp only[go_sem,aA ae,Int.toNat_natCast,Int.natCast_nonneg,ax];(repeat (refine⟨ob,?_⟩));exact hK _ (by simp only[go_sem]) (by simp only[go_sem]<;>rfl)) ?_
   refine aC ?_
   simp only[go_sem]
   rw[C4 (p:=fun y=>y==x) ae (by have h:=hb;simp only[beq_iff_eq]at h |-;omega) hR]
  ·repeat refine sq ?_
   refine aR ?_
   refine fJ ?_
   simp only[go_sem]
   refine kp [0,1,7,8] [] ?_
   repeat refine sq ?_
   refine bw hΓ fun K' hK=>?_
   simp only[go_sem,aA ae,Int.toNat_natCast,Int.natCast_nonneg,ax]
   repeat (refine⟨ob,?_⟩)
   refine hK _ ?_
   clear K' hK
   simp only[go_sem]
   refine⟨i+1,⟨ae,?_⟩,by(show l.length-(i+1)<l.length-i;omega),?_⟩
   ·intro k hk g'
    rcases Nat.lt_succ_iff_lt_or_eq.1 g' with h5 | rfl
    ·exact hR k hk h5
    ·have h:=hb
     simp only[beq_eq_false_iff_ne,ne_eq]at h |-
     omega
   refine bN [0,1,7,8] [] ?_ ?_
   ·simp only[go_sem,aT ae hl,Int.natCast_add,Int.natCast_one]
   ·simp only[go_sem,aT ae hl,Int.natCast_add,Int.natCast_one]
 ·have bH:i=l.length:=by
   have :¬ (i:Int)<l.length:=by simpa using hb
   omega
  clear hb
  subst bH
  repeat refine sq ?_
  refine cG ?_
  simp only[go_sem]
  refine kp [] [] ?_
  repeat refine sq ?_
  refine rs hΓ [4] [] ?_
  refine aC ?_
  simp only[go_sem]
  rw[C3 (p:=fun y=>y==x) fun k hk=>hR k hk hk]
theorem CI:an Try.prog 71 S71:=H6.sound
noncomputable def K4:List (Nat×Spec):=[(71,S71)]
theorem RF:∀ f s,tbl K4 f=some s->an Try.prog f s:=tc CI<|tn
attribute [go_sem] K4
noncomputable def P61:PSpec:=p2 cW iI (fun _ _=>True) (fun l x=>.bool (cf l x)) true
noncomputable def S61:Spec:=P61.toSpec
attribute [go_sem] P61 S61
theorem Ib:aS Try.prog 61 P61:=by
 refine w2 (rs:=[.tmp 4]) Try.func61 Try.ntmps61 (by rfl) (by kernel_rfl) (by decide) (fun _ _ _=>rfl) ⟨_,rfl,lb rfl,fun l x hp hw=>?_⟩
 have hP:=bf
 simp only[iI,cW]at hw |-
 have hΓ:=RF
 repeat refine sq ?_
 refine rs hΓ [0,1] [] ?_
 repeat refine sq ?_
 refine rx hΓ [4] [] (fun K' hK=>by simp only[go_sem,C2];(repeat (refine⟨ob,?_⟩));exact hK _ (by simp only[go_sem]) (by simp only[go_sem]<;>rfl)) ?_
 refine aC ?_
 simp only[go_sem]
 all_goals first | rfl | (simp;done) | (simp_all;done)
theorem CK:an Try.prog 61 S61:=Ib.sound
noncomputable def P29:PSpec:=p2 cW iI (fun _ _=>True) (fun l x=>.bool (cf l x)) true
noncomputable def S29:Spec:=P29.toSpec
attribute [go_sem] P29 S29
theorem Is:aS Try.prog 29 P29:=by
 refine w2 (rs:=[.tmp 4]) Try.func29 Try.ntmps29 (by rfl) (by kernel_rfl) (by decide) (fun _ _ _=>rfl) ⟨_,rfl,lb rfl,fun l x hp hw=>?_⟩
 have hP:=bf
 simp only[iI,cW]at hw |-
 have hΓ:=@fS Try.prog
 have hl:l.length<=maxLen:=by have:=hw.1.1;simpa using this
 repeat refine sq ?_
 refine rs hΓ [0,1] [] ?_
 repeat refine sq ?_
 refine rs hΓ [0,1,5] [] ?_
 repeat refine sq ?_
 refine bd ?_
 repeat refine sq ?_
 refine cL (fun z:Nat=>[(5,⟨true,.v (au z)⟩)]) (fun z=>[]) (fun z=>z<=l.length/\∀ k (h:k<l.length),k<z->(l[k]==x)=false) (fun z=>l.length-z) 0 ?_ ?_ ?_ ?_
 ·exact⟨Nat.zero_le _,fun k h hk=>absurd hk (by omega)⟩
 ·rfl
 ·rfl
 rintro i ⟨hi,hR⟩
 simp only[go_sem]
 repeat refine sq ?_
 refine rs hΓ [0,1,5,9] [] ?_
 repeat refine sq ?_
 refine aQ rfl rfl (fun hb=>?_) (fun hb=>?_)
 ·have ae:i<l.length:=by simpa using hb
  have ax:(i:Int)<l.length:=by omega
  clear hb
  repeat refine sq ?_
  refine aR ?_
  repeat refine sq ?_
  refine bd ?_
  repeat refine sq ?_
  refine rx hΓ [0,1,5,17] [] (fun K' hK=>by simp only[go_sem,aA ae,Int.toNat_natCast,Int.natCast_nonneg,ax,aA ae,Int.toNat_natCast,Int.natCast_nonneg,ax];(repeat (refine⟨ob,?_⟩));exact hK _ (by simp only[go_sem]) (by simp only[go_sem]<;>rfl)) ?_
  repeat refine sq ?_
  refine aQ rfl rfl (fun hb=>?_) (fun hb=>?_)
  ·repeat refine sq ?_
   have e:cf l x=true:=Pd.2 ((by simpa using hb:l[i]=x)▸List.getElem_mem ae)
   repeat refine sq ?_
   refine rx hΓ [4] [] (fun K' hK=>by simp only[go_sem,aA ae,Int.toNat_natCast,Int.natCast_nonneg,ax];(repeat (refine⟨ob,?_⟩));exact hK _ (by simp only[go_sem]) (by simp only[go_sem]<;>rfl)) ?_
   refine aC ?_
   simp only[go_sem]
   rw[e]
  ·repeat refine sq ?_
   refine aR ?_
   refine fJ ?_
   simp only[go_sem]
   refine kp [0,1,5] [] ?_
   repeat refine sq ?_
   refine bw hΓ fun K' hK=>?_
   simp only[go_sem,aA ae,Int.toNat_natCast,Int.natCast_nonneg,ax]
   repeat (refine⟨ob,?_⟩)
   refine hK _ ?_
   clear K' hK
   simp only[go_sem]
   refine⟨i+1,⟨ae,?_⟩,by(show l.length-(i+1)<l.length-i;omega),?_⟩
   ·intro k hk g'
    rcases Nat.lt_succ_iff_lt_or_eq.1 g' with h5 | rfl
    ·exact hR k hk h5
    ·exact hb
   refine bN [0,1,5] [] ?_ ?_
   ·simp only[go_sem,aT ae hl,Int.natCast_add,Int.natCast_one]
   ·simp only[go_sem,aT ae hl,Int.natCast_add,Int.natCast_one]
 ·have bH:i=l.length:=by
   have :¬ (i:Int)<l.length:=by simpa using hb
   omega
  clear hb
  subst bH
  repeat refine sq ?_
  refine cG ?_
  simp only[go_sem]
  refine kp [] [] ?_
  repeat refine sq ?_
  refine rs hΓ [4] [] ?_
  refine aC ?_
  simp only[go_sem]
  rw[show cf l x=false from by unfold cf;rw[Bool.eq_false_iff];intro h;obtain⟨y,hy,e⟩:=List.any_eq_true.1 h;obtain⟨k,hk,rfl⟩:=List.getElem_of_mem hy;rw[hR k hk hk]at e;cases e]
theorem CP:an Try.prog 29 S29:=Is.sound
def lD(n:Iv):List V:=[au n.ho,.sl (n.pa.map au),.sl (n.gl.map encGl)]
def oI:En Iv:=⟨fun n=>.ptr (lD n),fun v=>match v with | .ptr l=>kS (.agg l) | _=>default⟩
def lI(f:Nat):En Iv:=⟨fun n=>.clo (.func f) [] [.ptr (lD n)],fun v=>match v with | .clo _ _ [.ptr l]=>kS (.agg l) | _=>default⟩
@[go_sem] theorem adv(n:Iv):kS (.agg (lD n))=n:=wS n
@[go_sem] theorem adu(n:Iv):kS (.agg [au n.ho,.sl (n.pa.map au),.sl (n.gl.map encGl)])=n:=wS n
attribute [go_sem] oI lI lD
noncomputable def Gk:List (Nat×Spec):=[(61,S61)]
theorem RE:∀ f s,tbl Gk f=some s->an Try.prog f s:=tc CK<|tn
attribute [go_sem] Gk
noncomputable def P112:PSpec:=p2 iI oI (fun _ _=>True) (fun p n=>.bool (!cf n.pa p)) true
noncomputable def S112:Spec:=P112.toSpec
attribute [go_sem] P112 S112
theorem Iz:aS Try.prog 112 P112:=by
 refine w2 (rs:=[.tmp 3]) Try.func112 Try.ntmps112 (by rfl) (by kernel_rfl) (by decide) (fun _ _ _=>rfl) ⟨_,rfl,lb rfl,fun p n hp hw=>?_⟩
 have hP:=bf
 simp only[iI,oI]at hw |-
 have hΓ:=RE
 repeat refine sq ?_
 refine rs hΓ [0,1] [] ?_
 repeat refine sq ?_
 refine rs hΓ [3] [] ?_
 refine aC ?_
 simp only[go_sem]
 all_goals first | rfl | (simp;done) | (simp_all;done)
theorem M5:an Try.prog 112 S112:=Iz.sound
noncomputable def Gj:List (Nat×Spec):=[(112,S112)]
theorem RD:∀ f s,tbl Gj f=some s->an Try.prog f s:=tc M5<|tn
attribute [go_sem] Gj
noncomputable def P128:PSpec:=p2 cW (lI 112) (fun _ _=>True) (fun l n=>au (e6 (fun p=>!cf n.pa p) l)) true
noncomputable def S128:Spec:=P128.toSpec
attribute [go_sem] P128 S128
set_option maxHeartbeats 4000000 in
theorem Iw:aS Try.prog 128 P128:=by
 refine w2 (rs:=[.tmp 4]) Try.func128 Try.ntmps128 (by rfl) (by kernel_rfl) (by decide) (fun _ _ _=>rfl) ⟨_,rfl,lb rfl,fun l n hp hw=>?_⟩
 have hP:=bf
 simp only[cW,lI]at hw |-
 have hl:l.length<=maxLen:=by have:=hw.1.1;simpa using this
 have hΓ:=RD
 repeat refine sq ?_
 refine rs hΓ [0,1] [] ?_
 repeat refine sq ?_
 refine rs hΓ [0,1,7,8] [] ?_
 repeat refine sq ?_
 refine bd ?_
 repeat refine sq ?_
 refine cL (fun z:Nat=>[(8,⟨true,.v (au z)⟩)]) (fun z=>[]) (fun z=>z<=l.length/\∀ k (h:k<l.length),k<z->(!cf n.pa l[k])=false) (fun z=>l.length-z) 0 ?_ ?_ ?_ ?_
 ·exact⟨Nat.zero_le _,fun k h hk=>absurd hk (by omega)⟩
 ·rfl
 ·rfl
 rintro i ⟨hi,hR⟩
 simp only[go_sem]
 repeat refine sq ?_
 refine rs hΓ [0,1,7,8,9] [] ?_
 repeat refine sq ?_
 refine aQ rfl rfl (fun hb=>?_) (fun hb=>?_)
 ·have ae:i<l.length:=by simpa using hb
  have ax:(i:Int)<l.length:=by omega
  clear hb
  repeat refine sq ?_
  refine aR ?_
  repeat refine sq ?_
  refine bd ?_
  repeat refine sq ?_
  refine rx hΓ [0,1,5,7,8] [] (fun K' hK=>by simp only[go_sem,aA ae,Int.toNat_natCast,Int.natCast_nonneg,ax];(repeat (refine⟨ob,?_⟩));exact hK _ (by simp only[go_sem]) (by simp only[go_sem]<;>rfl)) ?_
  repeat refine sq ?_
  refine rx hΓ [0,1,5,7,8,16] [] (fun K' hK=>by simp only[go_sem,aA ae,Int.toNat_natCast,Int.natCast_nonneg,ax,aA ae,Int.toNat_natCast,Int.natCast_nonneg,ax,List.length_map];(repeat (refine⟨ob,?_⟩));exact hK _ (by simp only[go_sem]) (by simp only[go_sem]<;>rfl)) ?_
  repeat refine sq ?_
  refine aQ rfl rfl (fun hb=>?_) (fun hb=>?_)
  ·repeat refine sq ?_
   refine rx hΓ [4] [] (fun K' hK=>by simp only[go_sem,aA ae,Int.toNat_natCast,Int.natCast_nonneg,ax];(repeat (refine⟨ob,?_⟩));exact hK _ (by simp only[go_sem]) (by simp only[go_sem]<;>rfl)) ?_
   refine aC ?_
   simp only[go_sem]
   rw[C4 (p:=fun p=>!cf n.pa p) ae (by simpa using hb) hR]
  ·repeat refine sq ?_
   refine aR ?_
   refine fJ ?_
   simp only[go_sem]
   refine kp [0,1,7,8] [] ?_
   repeat refine sq ?_
   refine bw hΓ fun K' hK=>?_
   simp only[go_sem,aA ae,Int.toNat_natCast,Int.natCast_nonneg,ax]
   repeat (refine⟨ob,?_⟩)
   refine hK _ ?_
   clear K' hK
   simp only[go_sem]
   refine⟨i+1,⟨ae,?_⟩,by(show l.length-(i+1)<l.length-i;omega),?_⟩
   ·intro k hk g'
    rcases Nat.lt_succ_iff_lt_or_eq.1 g' with h5 | rfl
    ·exact hR k hk h5
    ·simpa using hb
   refine bN [0,1,7,8] [] ?_ ?_
   ·simp only[go_sem,aT ae hl,Int.natCast_add,Int.natCast_one]
   ·simp only[go_sem,aT ae hl,Int.natCast_add,Int.natCast_one]
 ·have bH:i=l.length:=by
   have :¬ (i:Int)<l.length:=by simpa using hb
   omega
  clear hb
  subst bH
  repeat refine sq ?_
  refine cG ?_
  simp only[go_sem]
  refine kp [] [] ?_
  repeat refine sq ?_
  refine rs hΓ [4] [] ?_
  refine aC ?_
  simp only[go_sem]
  rw[C3 (p:=fun p=>!cf n.pa p) fun k hk=>hR k hk hk]
theorem M2:an Try.prog 128 S128:=Iw.sound
noncomputable def Gi:List (Nat×Spec):=[(128,S128)]
theorem RC:∀ f s,tbl Gi f=some s->an Try.prog f s:=tc M2<|tn
attribute [go_sem] Gi
noncomputable def P111:PSpec:=p2 cW (lI 112) (fun _ _=>True) (fun l n=>.bool (l.any fun p=>!cf n.pa p)) true
noncomputable def S111:Spec:=P111.toSpec
attribute [go_sem] P111 S111
theorem IA:aS Try.prog 111 P111:=by
 refine w2 (rs:=[.tmp 4]) Try.func111 Try.ntmps111 (by rfl) (by kernel_rfl) (by decide) (fun _ _ _=>rfl) ⟨_,rfl,lb rfl,fun l n hp hw=>?_⟩
 have hP:=bf
 simp only[cW,lI]at hw |-
 have hΓ:=RC
 repeat refine sq ?_
 refine rs hΓ [0,1] [] ?_
 repeat refine sq ?_
 refine rx hΓ [4] [] (fun K' hK=>by simp only[go_sem,C2];(repeat (refine⟨ob,?_⟩));exact hK _ (by simp only[go_sem]) (by simp only[go_sem]<;>rfl)) ?_
 refine aC ?_
 simp only[go_sem]
 all_goals first | rfl | (simp;done) | (simp_all;done)
theorem M6:an Try.prog 111 S111:=IA.sound
set_option maxRecDepth 100000
def bK(n:Iv)(g:Gl):Bool:=eN g&&(decide (g.ho<=n.ho)&&!(g.ms.any fun p=>!cf n.pa p))
noncomputable def K5:List (Nat×Spec):=[(39,S39),(111,S111)]
theorem RB:∀ f s,tbl K5 f=some s->an Try.prog f s:=tc CO<|tc M6<|tn
attribute [go_sem] K5
noncomputable def P75:PSpec:=p2 iN iG (fun _ _=>True) (fun n g=>.bool (bK n g)) true
noncomputable def S75:Spec:=P75.toSpec
attribute [go_sem] P75 S75
set_option maxHeartbeats 4000000 in
theorem H4:aS Try.prog 75 P75:=by
 refine w2 (rs:=[.tmp 4]) Try.func75 Try.ntmps75 (by rfl) (by kernel_rfl) (by decide) (fun _ _ _=>rfl) ⟨_,rfl,lb rfl,fun n g hp hw=>?_⟩
 have hP:=bf
 simp only[iG,iN]at hw |-
 have hΓ:=RB
 have he:=P2 (eN g) 30 (by decide)
 repeat refine sq ?_
 refine rs hΓ [2,3] [[2,0],[3,0]] ?_
 refine fi (pZ [2,0] (lD n) rfl [2,3] [[2,0],[3,0]] ?_ rfl) ?_
 ·simp only[go_sem]
 simp only[go_sem]
 repeat refine sq ?_
 refine rx hΓ [4] [] (fun K' hK=>by simp only[go_sem,he];(repeat (refine⟨ob,?_⟩));exact hK _ (by simp only[go_sem]) (by simp only[go_sem]<;>rfl)) ?_
 refine aC ?_
 simp only[go_sem]
 (unfold bK;cases eN g<;>cases decide (g.ho<=n.ho)<;>rfl)
theorem CG:an Try.prog 75 S75:=H4.sound
noncomputable def Gh:List (Nat×Spec):=[(40,S40),(29,S29)]
theorem RA:∀ f s,tbl Gh f=some s->an Try.prog f s:=tc CN<|tc CP<|tn
attribute [go_sem] Gh
noncomputable def P84:PSpec:=p2 iN iG (fun _ _=>True) (fun n g=>.bool (bK n g)) true
noncomputable def S84:Spec:=P84.toSpec
attribute [go_sem] P84 S84
set_option maxHeartbeats 4000000 in
theorem H2:aS Try.prog 84 P84:=by
 refine w2 (rs:=[.tmp 4]) Try.func84 Try.ntmps84 (by rfl) (by kernel_rfl) (by decide) (fun _ _ _=>rfl) ⟨_,rfl,lb rfl,fun n g hp hw=>?_⟩
 have hP:=bf
 simp only[iG,iN]at hw |-
 have hΓ:=RA
 have he:=ER (eN g) 30 (by decide)
 have DH:decide (g.ho>n.ho)=!decide (g.ho<=n.ho):=by
  by_cases h:g.ho<=n.ho
  ·rw[decide_eq_true h,decide_eq_false (by omega)];rfl
  ·rw[decide_eq_false h,decide_eq_true (by omega)];rfl
 have hl:g.ms.length<=maxLen:=by have:=hw.2.1.2.2.1.1;simpa using this
 repeat refine sq ?_
 refine rs hΓ [2,3] [[2,0],[3,0]] ?_
 repeat refine sq ?_
 refine rx hΓ [2,3,15] [[2,0],[3,0]] (fun K' hK=>by simp only[go_sem,he,DH];(repeat (refine⟨ob,?_⟩));exact hK _ (by simp only[go_sem]) (by simp only[go_sem]<;>rfl)) ?_
 repeat refine sq ?_
 refine aQ rfl rfl (fun hb=>?_) (fun hb=>?_)
 ·repeat refine sq ?_
  have e:bK n g=false:=by unfold bK;cases h1:eN g<;>cases h2:decide (g.ho<=n.ho)<;>simp_all
  repeat refine sq ?_
  refine rs hΓ [4] [] ?_
  refine aC ?_
  simp only[go_sem]
  rw[e]
 ·repeat refine sq ?_
  have e:bK n g=!(g.ms.any fun p=>!cf n.pa p):=by unfold bK;cases h1:eN g<;>cases h2:decide (g.ho<=n.ho)<;>simp_all
  refine aR ?_
  repeat refine sq ?_
  refine rs hΓ [2,3,5] [[2,0],[3,0]] ?_
  repeat refine sq ?_
  refine bd ?_
  repeat refine sq ?_
  refine cL (fun z:Nat=>[(5,⟨true,.v (au z)⟩)]) (fun z=>[]) (fun z=>z<=g.ms.length/\∀ k (h:k<g.ms.length),k<z->cf n.pa g.ms[k]=true) (fun z=>g.ms.length-z) 0 ?_ ?_ ?_ ?_
  ·exact⟨Nat.zero_le _,fun k h hk=>absurd hk (by omega)⟩
  ·rfl
  ·rfl
  rintro i ⟨hi,hR⟩
  simp only[go_sem]
  repeat refine sq ?_
  refine rx hΓ [2,3,5,20] [[2,0],[3,0]] (fun K' hK=>by simp only[go_sem,List.length_map];(repeat (refine⟨ob,?_⟩));exact hK _ (by simp only[go_sem]) (by simp only[go_sem]<;>rfl)) ?_
  repeat refine sq ?_
  refine aQ rfl rfl (fun hb=>?_) (fun hb=>?_)
  ·have ae:i<g.ms.length:=by simpa using hb
   have ax:(i:Int)<g.ms.length:=by omega
   clear hb
   repeat refine sq ?_
   refine aR ?_
   repeat refine sq ?_
   refine bd ?_
   repeat refine sq ?_
   refine dx hΓ hP [[],[0],[],[2],[],[2,3,4],[2,3,4,5],[0,1,2,3,4,5,6],[0,1,2,3,4,5,6,7]] [2,3,5,31] [[2,0],[3,0]] (by kernel_rfl) (fun K' hK=>by simp only[go_sem,aA ae,Int.toNat_natCast,Int.natCast_nonneg,ax,aA ae,Int.toNat_natCast,Int.natCast_nonneg,ax,List.length_map];(repeat (refine⟨ob,?_⟩));(first | refine⟨by rfl,?_⟩ | skip);exact hK _ (by simp only[go_sem]) (by simp only[go_sem]<;>rfl)) ?_
   repeat refine sq ?_
   refine aQ rfl rfl (fun hb=>?_) (fun hb=>?_)
   ·repeat refine sq ?_
    refine rx hΓ [4] [] (fun K' hK=>by simp only[go_sem,aA ae,Int.toNat_natCast,Int.natCast_nonneg,ax];(repeat (refine⟨ob,?_⟩));exact hK _ (by simp only[go_sem]) (by simp only[go_sem]<;>rfl)) ?_
    refine aC ?_
    simp only[go_sem]
    rw[e,show (g.ms.any fun p=>!cf n.pa p)=true from List.any_eq_true.2 ⟨_,List.getElem_mem ae,by simpa using hb⟩];rfl
   ·repeat refine sq ?_
    refine aR ?_
    refine fJ ?_
    simp only[go_sem]
    refine kp [2,3,5] [[2,0],[3,0]] ?_
    repeat refine sq ?_
    refine bw hΓ fun K' hK=>?_
    simp only[go_sem,aA ae,Int.toNat_natCast,Int.natCast_nonneg,ax]
    repeat (refine⟨ob,?_⟩)
    refine hK _ ?_
    clear K' hK
    simp only[go_sem]
    refine⟨i+1,⟨ae,?_⟩,by(show g.ms.length-(i+1)<g.ms.length-i;omega),?_⟩
    ·intro k hk g'
     rcases Nat.lt_succ_iff_lt_or_eq.1 g' with h5 | rfl
     ·exact hR k hk h5
     ·simpa using hb
    refine bN [2,3,5] [[2,0],[3,0]] ?_ ?_
    ·simp only[go_sem,aT ae hl,Int.natCast_add,Int.natCast_one]
    ·simp only[go_sem,aT ae hl,Int.natCast_add,Int.natCast_one]
  ·have bH:i=g.ms.length:=by
    have :¬ (i:Int)<g.ms.length:=by simpa using hb
    omega
   clear hb
   subst bH
   repeat refine sq ?_
   refine cG ?_
   simp only[go_sem]
   refine kp [] [] ?_
   repeat refine sq ?_
   refine rs hΓ [4] [] ?_
   refine aC ?_
   simp only[go_sem]
   rw[e,show (g.ms.any fun p=>!cf n.pa p)=false from by rw[Bool.eq_false_iff];intro h;obtain⟨y,hy,e⟩:=List.any_eq_true.1 h;obtain⟨k,hk,rfl⟩:=List.getElem_of_mem hy;rw[hR k hk hk]at e;cases e];rfl
theorem CE:an Try.prog 84 S84:=H2.sound
noncomputable def Gg:List (Nat×Spec):=[(75,S75)]
theorem Rz:∀ f s,tbl Gg f=some s->an Try.prog f s:=tc CG<|tn
attribute [go_sem] Gg
noncomputable def P94:PSpec:=p2 iG oI (fun _ _=>True) (fun g n=>.bool (bK n g)) true
noncomputable def S94:Spec:=P94.toSpec
attribute [go_sem] P94 S94
theorem HR:aS Try.prog 94 P94:=by
 refine w2 (rs:=[.tmp 3]) Try.func94 Try.ntmps94 (by rfl) (by kernel_rfl) (by decide) (fun _ _ _=>rfl) ⟨_,rfl,lb rfl,fun g n hp hw=>?_⟩
 have hP:=bf
 simp only[iG,oI]at hw |-
 have hΓ:=Rz
 repeat refine sq ?_
 refine rs hΓ [1,2] [[2,0]] ?_
 repeat refine sq ?_
 refine rs hΓ [3] [] ?_
 refine aC ?_
 simp only[go_sem]
 all_goals first | rfl | (simp;done) | (simp_all;done)
theorem MF:an Try.prog 94 S94:=HR.sound
noncomputable def Gf:List (Nat×Spec):=[(93,S93),(94,S94)]
theorem Ry:∀ f s,tbl Gf f=some s->an Try.prog f s:=tc MG<|tc MF<|tn
attribute [go_sem] Gf
noncomputable def P92:PSpec:=p3 kx (iF 93) (lI 94) (fun _ _ _=>True) (fun l _ n=>.bool (c9 (bK n) Gl.so l)) true
noncomputable def S92:Spec:=P92.toSpec
attribute [go_sem] P92 S92
set_option maxHeartbeats 8000000 in
theorem HT:aS Try.prog 92 P92:=by
 refine w3 (rs:=[.tmp 6]) Try.func92 Try.ntmps92 (by rfl) (by kernel_rfl) (by decide) (fun _ _ _ _=>rfl) ⟨_,rfl,lb rfl,fun l u n hp hw=>?_⟩
 have hP:=bf
 simp only[iF,kx,lI,iC]at hw |-
 have hl:l.length<=maxLen:=by have:=hw.1.1;simpa using this
 have hΓ:=Ry
 repeat refine sq ?_
 refine rs hΓ [0,1,2] [] ?_
 repeat refine sq ?_
 refine rs hΓ [0,1,2,9,10,11] [] ?_
 repeat refine sq ?_
 refine bd ?_
 repeat refine sq ?_
 refine cL (fun z:Nat=>[(11,⟨true,.v (au z)⟩)]) (fun z=>[]) (fun z=>z<=l.length/\je z (dB (bK n) Gl.so l)=true) (fun z=>l.length-z) 0 ?_ ?_ ?_ ?_
 ·exact⟨Nat.zero_le _,rfl⟩
 ·rfl
 ·rfl
 rintro i ⟨hi,hR⟩
 simp only[go_sem]
 repeat refine sq ?_
 refine rs hΓ [0,1,2,9,10,11,12] [] ?_
 repeat refine sq ?_
 refine aQ rfl rfl (fun hb=>?_) (fun hb=>?_)
 ·have ae:i<l.length:=by simpa using hb
  have ax:(i:Int)<l.length:=by omega
  clear hb
  obtain⟨p,hp,eG,fZ,bU⟩:=qi ae hl
  have hc:=qb (chk:=bK n) (num:=Gl.so) fZ ae eG
  repeat refine sq ?_
  refine aR ?_
  repeat refine sq ?_
  refine bd ?_
  repeat refine sq ?_
  refine rx hΓ [0,1,2,7,8,9,10,11] [[8,0]] (fun K' hK=>by simp only[go_sem,aA ae,Int.toNat_natCast,Int.natCast_nonneg,ax,aA ae,Int.toNat_natCast,Int.natCast_nonneg,ax,List.length_map];(repeat (refine⟨ob,?_⟩));exact hK _ (by simp only[go_sem]) (by simp only[go_sem]<;>rfl)) ?_
  repeat refine sq ?_
  refine dx hΓ hP [[],[],[0,1],[0,1,2],[0,1,2,3],[0,1,2,3,4],[0,1,2,3,4,5],[0,1,2,3,4,5,6],[0,1,2,3,4,5,6,7],[0,1,2,3,4,5,6,7],[0,1,2,3,4,5,6,7],[0,1,2,3,4,5,6,7,10],[0,1,2,3,4,5,6,7,9,10,11],[0,1,2,3,4,5,6,7,9,10,11,12],[0,1,2,3,4,5,6,7,8,9,10,11,12,13],[0,1,2,3,4,5,6,7],[0,1,2,3,4,5,6,7],[0,1,2,3,4,5,6,7,8,9,10,11,12,13,14,15,16],[0,1,2,3,4,5,6,7,8,9,10,11,12,13,14,15,16,17],[0,1,2,3,4,5,6,7,8,9,10,11,12,13,14,15,16,17,18],[0,1,2,3,4,5,6,7,8,9,10,11,12,13,14,15,16,17,18,19]] [0,1,2,9,10,11,36] [] (by kernel_rfl) (fun K' hK=>by simp only[go_sem,aA ae,Int.toNat_natCast,Int.natCast_nonneg,ax,hp,aA eG,List.length_map];(repeat (refine⟨by first | exact ob | (intro h;have:=bU (by simp_all;omega);simp_all;done),?_⟩));(first | refine⟨by rfl,?_⟩ | skip);exact hK _ (by simp only[go_sem]) (by simp only[go_sem]<;>rfl)) ?_
  repeat refine sq ?_
  refine aQ rfl rfl (fun hb=>?_) (fun hb=>?_)
  ·repeat refine sq ?_
   have mb:dB (bK n) Gl.so l i=false:=by have h5:=hc.symm.trans hb;simpa using h5
   repeat refine sq ?_
   refine rx hΓ [6] [] (fun K' hK=>by simp only[go_sem,aA ae,Int.toNat_natCast,Int.natCast_nonneg,ax];(repeat (refine⟨ob,?_⟩));exact hK _ (by simp only[go_sem]) (by simp only[go_sem]<;>rfl)) ?_
   refine aC ?_
   simp only[go_sem]
   rw[show c9 (bK n) Gl.so l=false from sQ ae mb]
  ·repeat refine sq ?_
   have l8:dB (bK n) Gl.so l i=true:=by have h5:=hc.symm.trans hb;simpa using h5
   refine aR ?_
   refine fJ ?_
   simp only[go_sem]
   refine kp [0,1,2,9,10,11] [] ?_
   repeat refine sq ?_
   refine bw hΓ fun K' hK=>?_
   simp only[go_sem,aA ae,Int.toNat_natCast,Int.natCast_nonneg,ax]
   repeat (refine⟨ob,?_⟩)
   refine hK _ ?_
   clear K' hK
   simp only[go_sem]
   refine⟨i+1,⟨ae,?_⟩,by(show l.length-(i+1)<l.length-i;omega),?_⟩
   ·exact sP hR l8
   refine bN [0,1,2,9,10,11] [] ?_ ?_
   ·simp only[go_sem,aT ae hl,Int.natCast_add,Int.natCast_one]
   ·simp only[go_sem,aT ae hl,Int.natCast_add,Int.natCast_one]
 ·have bH:i=l.length:=by
   have :¬ (i:Int)<l.length:=by simpa using hb
   omega
  clear hb
  subst bH
  repeat refine sq ?_
  refine cG ?_
  simp only[go_sem]
  refine kp [] [] ?_
  repeat refine sq ?_
  refine rs hΓ [6] [] ?_
  refine aC ?_
  simp only[go_sem]
  rw[show c9 (bK n) Gl.so l=true from hR]
theorem MH:an Try.prog 92 S92:=HT.sound
def ma(n:Iv):Bool:=ba n.ho 1 24&&(dY n.pa&&(decide (n.pa.length<=n.ho)&&decide (n.gl.length<=60)))
def cw(n:Iv):Bool:=ma n&&c9 (bK n) Gl.so n.gl
def eZ(n:Iv):Int:=jT (cw n) 31
theorem rR(a b:Int):decide (a>b)=!decide (a<=b):=by
 by_cases h:a<=b
 ·rw[decide_eq_true h,decide_eq_false (by omega)];rfl
 ·rw[decide_eq_false h,decide_eq_true (by omega)];rfl
theorem zk(n:Iv):decide ((n.gl.length:Int)<=60)=decide (n.gl.length<=60):=by
 by_cases h:n.gl.length<=60
 ·rw[decide_eq_true h,decide_eq_true (by omega)]
 ·rw[decide_eq_false h,decide_eq_false (by omega)]
theorem qM(n:Iv):(!ba n.ho 1 24||!dY n.pa||decide ((n.pa.length:Int)>n.ho)||decide ((n.gl.length:Int)>60)||!c9 (bK n) Gl.so n.gl)=!cw n:=by
 rw[rR,rR,zk]
 unfold cw ma
 cases ba n.ho 1 24<;>cases dY n.pa<;>cases decide ((n.pa.length:Int)<=n.ho)<;>cases decide (n.gl.length<=60)<;>rfl
theorem DT(n:Iv):(!ba n.ho 1 24||decide ((n.pa.length:Int)>20)||decide ((n.pa.length:Int)>n.ho)||!c9 (fun x=>ba x 1 999) cp n.pa||decide ((n.gl.length:Int)>60))=!ma n:=by
 rw[rR (n.pa.length:Int) n.ho,rR (n.gl.length:Int) 60,zk,Ei]
 unfold ma
 have e:dY n.pa=(decide (n.pa.length<=20)&&c9 (fun x=>ba x 1 999) cp n.pa):=rfl
 rw[e]
 cases ba n.ho 1 24<;>cases decide (n.pa.length<=20)<;>cases c9 (fun x=>ba x 1 999) cp n.pa<;>cases decide ((n.pa.length:Int)<=n.ho)<;>cases decide (n.gl.length<=60)<;>rfl
noncomputable def K6:List (Nat×Spec):=[(65,S65),(90,S90),(92,S92)]
theorem Rx:∀ f s,tbl K6 f=some s->an Try.prog f s:=tc qJ<|tc CB<|tc MH<|tn
attribute [go_sem] K6
noncomputable def P41:PSpec:=p1 iN (fun _=>True) (fun n=>au (eZ n)) true
noncomputable def S41:Spec:=P41.toSpec
attribute [go_sem] P41 S41
set_option maxHeartbeats 8000000 in
theorem Ii:aS Try.prog 41 P41:=by
 refine w1 (rs:=[.tmp 2]) Try.func41 Try.ntmps41 (by rfl) (by kernel_rfl) (by decide) (fun _ _=>rfl) ⟨_,rfl,lb rfl,fun n hp hw=>?_⟩
 have hP:=bf
 simp only[iN]at hw |-
 have hΓ:=Rx
 repeat refine sq ?_
 refine rs hΓ [1] [[1,0]] ?_
 refine fi (pZ [1,0] (lD n) rfl [1] [[1,0]] ?_ rfl) ?_
 ·simp only[go_sem]
 simp only[go_sem]
 repeat refine sq ?_
 refine rx hΓ [33] [] (fun K' hK=>by simp only[go_sem,List.length_map];(repeat (refine⟨ob,?_⟩));exact hK _ (by simp only[go_sem]) (by simp only[go_sem]<;>rfl)) ?_
 repeat refine sq ?_
 refine aQ rfl rfl (fun hb=>?_) (fun hb=>?_)
 ·repeat refine sq ?_
  refine rs hΓ [2] [] ?_
  refine aC ?_
  simp only[go_sem]
  first | exact nK (qM n) hb | exact nL (qM n) hb
 ·repeat refine sq ?_
  refine aR ?_
  repeat refine sq ?_
  refine rs hΓ [2] [] ?_
  refine aC ?_
  simp only[go_sem]
  first | exact nK (qM n) hb | exact nL (qM n) hb
theorem qL:an Try.prog 41 S41:=Ii.sound
noncomputable def Ge:List (Nat×Spec):=[(67,S67),(62,S62),(84,S84)]
theorem Rw:∀ f s,tbl Ge f=some s->an Try.prog f s:=tc oF<|tc CJ<|tc CE<|tn
attribute [go_sem] Ge
noncomputable def P42:PSpec:=p1 iN (fun _=>True) (fun n=>au (eZ n)) true
noncomputable def S42:Spec:=P42.toSpec
attribute [go_sem] P42 S42
set_option maxHeartbeats 8000000 in
theorem Ih:aS Try.prog 42 P42:=by
 refine w1 (rs:=[.tmp 2]) Try.func42 Try.ntmps42 (by rfl) (by kernel_rfl) (by decide) (fun _ _=>rfl) ⟨_,rfl,lb rfl,fun n hp hw=>?_⟩
 have hP:=bf
 simp only[iN]at hw |-
 have hΓ:=Rw
 have hl:n.gl.length<=maxLen:=by have:=hw.1.2.2.1.1;simpa using this
 repeat refine sq ?_
 refine rs hΓ [1] [[1,0]] ?_
 refine fi (pZ [1,0] (lD n) rfl [1] [[1,0]] ?_ rfl) ?_
 ·simp only[go_sem]
 simp only[go_sem]
 repeat refine sq ?_
 refine rx hΓ [1,33] [[1,0]] (fun K' hK=>by simp only[go_sem,List.length_map];(repeat (refine⟨ob,?_⟩));exact hK _ (by simp only[go_sem]) (by simp only[go_sem]<;>rfl)) ?_
 repeat refine sq ?_
 refine aQ rfl rfl (fun hb=>?_) (fun hb=>?_)
 ·repeat refine sq ?_
  have e:eZ n=31:=by unfold eZ cw;have h5:=(DT n).symm.trans hb;rw[show ma n=false by simpa using h5];rfl
  repeat refine sq ?_
  refine rs hΓ [2] [] ?_
  refine aC ?_
  simp only[go_sem]
  rw[e]
 ·repeat refine sq ?_
  have hd:ma n=true:=by have h5:=(DT n).symm.trans hb;simpa using h5
  refine aR ?_
  repeat refine sq ?_
  refine rs hΓ [1,3] [[1,0]] ?_
  repeat refine sq ?_
  refine bd ?_
  repeat refine sq ?_
  refine cL (fun z:Nat=>[(3,⟨true,.v (au z)⟩)]) (fun z=>[]) (fun z=>z<=n.gl.length/\je z (dB (bK n) Gl.so n.gl)=true) (fun z=>n.gl.length-z) 0 ?_ ?_ ?_ ?_
  ·exact⟨Nat.zero_le _,rfl⟩
  ·rfl
  ·rfl
  rintro i ⟨hi,hR⟩
  simp only[go_sem]
  repeat refine sq ?_
  refine rx hΓ [1,3,38] [[1,0]] (fun K' hK=>by simp only[go_sem,List.length_map];(repeat (refine⟨ob,?_⟩));exact hK _ (by simp only[go_sem]) (by simp only[go_sem]<;>rfl)) ?_
  repeat refine sq ?_
  refine aQ rfl rfl (fun hb=>?_) (fun hb=>?_)
  ·have ae:i<n.gl.length:=by simpa using hb
   have ax:(i:Int)<n.gl.length:=by omega
   clear hb
   obtain⟨p,hp,eG,fZ,bU⟩:=qi ae hl
   have hc:=qb (chk:=bK n) (num:=Gl.so) fZ ae eG
   repeat refine sq ?_
   refine aR ?_
   repeat refine sq ?_
   refine bd ?_
   repeat refine sq ?_
   refine dx hΓ hP [[],[],[1],[],[1,2,3],[1,2,3,4],[0,1,2,3,4,5],[0,1,2,3,4,5,6],[0,1,2,3,4,5,6,7],[0,1,2,3,4,5,6,7,8],[0,1,2,3,4,5,6,7,8,9],[0,1,2,3,4,5,6,7,8,9,10],[0,1,2,3,4,5,6,7,8,9,10,11],[0,1,2,3,4,5,6,7,8,9,10,11,12],[0,1,2,3,4,5,6,7,8,9,10,11],[0,1,2,3,4,5,6,7,8,9,10,11,14],[0,1,2,3,4,5,6,7,8,9,10,11,12,13,14,15],[0,1,2,3,4,5,6,7,8,9,10,11,12,13,14,15,16],[0,1,2,3,4,5,6,7,8,9,10,11,12,13,14,15,16,17],[0,1,2,3,4,5,6,7,8,9,10,11],[0,1,2,3,4,5,6,7,8,9,10,11,19],[0,1,2,3,4,5,6,7,8,9,10,11],[0,1,2,3,4,5,6,7,8,9,10,11,19,20,21],[0,1,2,3,4,5,6,7,8,9,10,11,19,20,21,22],[0,1,2,3,4,5,6,7,8,9,10,11,19,20,21,22,23],[0,1,2,3,4,5,6,7,8,9,10,11,12,13,14,15,16,17,18,19,20,21,22,23,24],[0,1,2,3,4,5,6,7,8,9,10,11,12,13,14,15,16,17,18,19,20,21,22,23,24,25],[0,1,2,3,4,5,6,7,8,9,10,11,12,13,14,15,16,17,18,19,20,21,22,23,24,25,26]] [1,3,68] [[1,0]] (by kernel_rfl) (fun K' hK=>by simp only[go_sem,aA ae,Int.toNat_natCast,Int.natCast_nonneg,ax,aA ae,Int.toNat_natCast,Int.natCast_nonneg,ax,hp,aA eG,List.length_map];(repeat (refine⟨by first | exact ob | (intro h;have:=bU (by simp_all;omega);simp_all;done),?_⟩));(first | refine⟨by rfl,?_⟩ | skip);exact hK _ (by simp only[go_sem]) (by simp only[go_sem]<;>rfl)) ?_
   repeat refine sq ?_
   refine aQ rfl rfl (fun hb=>?_) (fun hb=>?_)
   ·repeat refine sq ?_
    have mb:dB (bK n) Gl.so n.gl i=false:=by have h5:=hc.symm.trans hb;simpa using h5
    have e:eZ n=31:=by unfold eZ cw;rw[show c9 (bK n) Gl.so n.gl=false from sQ ae mb,Bool.and_false];rfl
    repeat refine sq ?_
    refine rx hΓ [2] [] (fun K' hK=>by simp only[go_sem,aA ae,Int.toNat_natCast,Int.natCast_nonneg,ax];(repeat (refine⟨ob,?_⟩));exact hK _ (by simp only[go_sem]) (by simp only[go_sem]<;>rfl)) ?_
    refine aC ?_
    simp only[go_sem]
    rw[e]
   ·repeat refine sq ?_
    have l8:dB (bK n) Gl.so n.gl i=true:=by have h5:=hc.symm.trans hb;simpa using h5
    refine aR ?_
    refine fJ ?_
    simp only[go_sem]
    refine kp [1,3] [[1,0]] ?_
    repeat refine sq ?_
    refine bw hΓ fun K' hK=>?_
    simp only[go_sem,aA ae,Int.toNat_natCast,Int.natCast_nonneg,ax]
    repeat (refine⟨ob,?_⟩)
    refine hK _ ?_
    clear K' hK
    simp only[go_sem]
    refine⟨i+1,⟨ae,?_⟩,by(show n.gl.length-(i+1)<n.gl.length-i;omega),?_⟩
    ·exact sP hR l8
    refine bN [1,3] [[1,0]] ?_ ?_
    ·simp only[go_sem,aT ae hl,Int.natCast_add,Int.natCast_one]
    ·simp only[go_sem,aT ae hl,Int.natCast_add,Int.natCast_one]
  ·have bH:i=n.gl.length:=by
    have :¬ (i:Int)<n.gl.length:=by simpa using hb
    omega
   clear hb
   subst bH
   repeat refine sq ?_
   refine cG ?_
   simp only[go_sem]
   refine kp [] [] ?_
   repeat refine sq ?_
   refine rs hΓ [2] [] ?_
   refine aC ?_
   simp only[go_sem]
   rw[show eZ n=0 from by unfold eZ cw;rw[hd,show c9 (bK n) Gl.so n.gl=true from hR];rfl]
theorem qK:an Try.prog 42 S42:=Ih.sound
end Go.Eng
set_option linter.unusedVariables false
namespace Go.Eng
open Go Go.Proofs Go.RowKit Go.Lib Go.Shelf
set_option maxHeartbeats 2000000 in
set_option maxRecDepth 100000 in
theorem QA(n c:Nat)(w:World):Calls Try.prog 126 #[.slice none n c] w fun e w'=>e=.returned (.slice none 0 0)/\w'=w:=by
 have mixed:Try.prog.follows Departure.mixedOrders=true:=by kernel_rfl
 have qT:∀ (w:World) (a:Option Addr) (n c n' c':Nat),(binOp .eql 99 (.slice a n c) (.slice none n' c')).run Try.prog w=.ok (.bool a.isNone) w:=fun w a n c n' c'=>Lib.run_eql_slice_nil w _ _ a n c n' c' Try.underlying99
 go_enter Try.func126,Try.ntmps126
 go_wp2
 go_ret
 exact⟨rfl,rfl⟩
set_option maxHeartbeats 2000000 in
set_option maxRecDepth 100000 in
theorem Qz(a:Addr)(n c:Nat)(w:World)(v':Value)(w':World)
 (bz:∀ ty,(Builtin.append_ #[99,99] ty #[.slice (some ⟨w.heap.size,0,none⟩) 0 0,.slice (some a) n c]).run Try.prog (w.alloc (.cells #[] 4))=.ok v' w'):
 Calls Try.prog 126 #[.slice (some a) n c] w fun e w1=>e=.returned v'/\w1=w':=by
 have mixed:Try.prog.follows Departure.mixedOrders=true:=by kernel_rfl
 have qT:∀ (w:World) (a:Option Addr) (n c n' c':Nat),(binOp .eql 99 (.slice a n c) (.slice none n' c')).run Try.prog w=.ok (.bool a.isNone) w:=fun w a n c n' c'=>Lib.run_eql_slice_nil w _ _ a n c n' c' Try.underlying99
 go_enter Try.func126,Try.ntmps126
 go_wp2_with (at_builtin;refine Lib.wpList_append_run _ rfl _ _ _ _ rfl _ _ rfl rfl _ _ (bz _) ?_)
 go_ret
 exact⟨rfl,rfl⟩
set_option maxHeartbeats 2000000 in
set_option maxRecDepth 100000 in
theorem Qy(n c:Nat)(w:World):Calls Try.prog 55 #[.slice none n c] w fun e w'=>e=.returned (.slice none 0 0)/\w'=w:=by
 have mixed:Try.prog.follows Departure.mixedOrders=true:=by kernel_rfl
 have qT:∀ (w:World) (a:Option Addr) (n c n' c':Nat),(binOp .eql 22 (.slice a n c) (.slice none n' c')).run Try.prog w=.ok (.bool a.isNone) w:=fun w a n c n' c'=>Lib.run_eql_slice_nil w _ _ a n c n' c' Try.underlying22
 go_enter Try.func55,Try.ntmps55
 go_wp2
 go_ret
 exact⟨rfl,rfl⟩
set_option maxHeartbeats 2000000 in
set_option maxRecDepth 100000 in
theorem Qx(a:Addr)(n c:Nat)(w:World)(v':Value)(w':World)
 (bz:∀ ty,(Builtin.append_ #[22,22] ty #[.slice (some ⟨w.heap.size,0,none⟩) 0 0,.slice (some a) n c]).run Try.prog (w.alloc (.cells #[] 3))=.ok v' w'):
 Calls Try.prog 55 #[.slice (some a) n c] w fun e w1=>e=.returned v'/\w1=w':=by
 have mixed:Try.prog.follows Departure.mixedOrders=true:=by kernel_rfl
 have qT:∀ (w:World) (a:Option Addr) (n c n' c':Nat),(binOp .eql 22 (.slice a n c) (.slice none n' c')).run Try.prog w=.ok (.bool a.isNone) w:=fun w a n c n' c'=>Lib.run_eql_slice_nil w _ _ a n c n' c' Try.underlying22
 go_enter Try.func55,Try.ntmps55
 go_wp2_with (at_builtin;refine Lib.wpList_append_run _ rfl _ _ _ _ rfl _ _ rfl rfl _ _ (bz _) ?_)
 go_ret
 exact⟨rfl,rfl⟩
theorem tL(n:Nat)(h:n<1000000000):n≠yid:=by unfold yid;omega
theorem QB:sW Try.prog 126 99 4 1 1 (.bool false):=
 ⟨by kernel_rfl,by kernel_rfl,tL _ (by decide),iY Try.func126 (by rfl) (by kernel_rfl),QA,Qz⟩
theorem Fi:sW Try.prog 55 22 3 1 8 (.int .i64 0):=
 ⟨by kernel_rfl,by kernel_rfl,tL _ (by decide),iY Try.func55 (by rfl) (by kernel_rfl),Qy,Qx⟩
end Go.Eng
set_option linter.unusedVariables false
namespace Go.Eng
open Go Go.Proofs Go.RowKit Go.Lib Go.Shelf
theorem xV{P:Program}(w:World)(t e ty:TypeId)(z:Value)(ht:P.underlying t=some (.slice e))(hv:aH P e=some z)(h1:∀ v∈z.cells.toList,v.oneCell'=true)(b o c:Nat)
 (hc:∀ j,j<z.cells.size->(w.cell? ⟨b,o+j,none⟩).isSome=true) (hf:∀ j,w.frozen? ⟨b,j,none⟩=false):
 (Builtin.clear_ #[t] ty #[.slice (some ⟨b,o,none⟩) 1 c]).run P w=.ok (.tuple #[]) (w.setCells b o z.cells.toList):=by
 have jC:(Builtin.zeroCells z.cells 1).toList=z.cells.toList:=by
  have :Builtin.zeroCells z.cells 1=z.cells:=by
   apply Array.ext
   ·simp[Builtin.zeroCells]
   ·intro i h1 h2
    simp[Builtin.zeroCells,Nat.mod_eq_of_lt h2]
    rw[getElem!_pos z.cells i h2]
  rw[this]
 have fA:=run_storeCells_cells (P:=P) b o z.cells.toList 0 w (by simpa using hc) (by simpa using fun j _=>hf (o+j)) h1
 simp only[Nat.add_zero]at fA
 simp[Builtin.clear_,run_underlying ht,mP hv,jC,fA]
set_option maxHeartbeats 4000000 in
set_option maxRecDepth 100000 in
theorem Qa(b off n c i:Nat)(cs:List Value)(w:World)(hi:i<n)(ry:n<=c)(vV:c<=9223372036854775807)(bG:cs.length=n*1)
 (dp:∀ j v,cs[j]?=some v->w.cell? ⟨b,off+j,none⟩=some v) (iU:∀ j,w.frozen? ⟨b,j,none⟩=false) (ml:∀ v∈cs,v.oneCell'=true):
 Calls Try.prog 54 #[.slice (some ⟨b,off,none⟩) n c,.int .i64 i,.int .i64 (i+1)] w fun e w'=>
  e=.returned (.slice (some ⟨b,off,none⟩) (n-1) c)/\w'=(w.drew.setCells b (off+i*1) (cs.drop ((i+1)*1))).setCells b (off+(n-1)*1) (List.replicate 1 (.int .i64 0)):=by
 have mixed:Try.prog.follows Departure.mixedOrders=true:=by kernel_rfl
 have kM:bg Try.prog 22=some (3,1,8):=by kernel_rfl
 have me:aH Try.prog 3=some (.int .i64 0):=by kernel_rfl
 obtain⟨i0,l6,jB⟩:∃ i0,Try.prog.info? 3=some i0/\i0.size=1:=by
  obtain⟨hu,i0,h1,h2,h3⟩:=dO kM
  exact⟨i0,h1,h2⟩
 obtain⟨news,gZ⟩:∃ news,news=cs.drop ((i+1)*1):=⟨_,rfl⟩
 have hlen:news.length=(n-(i+1))*1:=by rw[gZ,List.length_drop,bG,Nat.sub_mul]
 have lQ:∀ j,j<n*1->(w.cell? ⟨b,off+j,none⟩).isSome=true:=fun j hj=>by
  rw[dp j _ (List.getElem?_eq_getElem (by omega))];rfl
 obtain⟨A,hA,bb⟩:∃ A:Addr,(if c=i+1 then some (⟨b,off,none⟩:Addr)else some ⟨b,off+(i+1)*1,none⟩)=some A/\Hid (∀ t u,news[t]?=some u->w.drew.cell? (A.add t)=some u):=by
  by_cases h:c=i+1
  ·refine⟨⟨b,off,none⟩,by simp[h],fun t u hu=>?_⟩
   have h0:news.length=0:=by rw[hlen];have:n-(i+1)=0:=by omega
                             rw[this,Nat.zero_mul]
   rw[List.length_eq_zero_iff.1 h0]at hu
   simp at hu
  ·refine⟨⟨b,off+(i+1)*1,none⟩,by simp[h],fun t u hu=>?_⟩
   rw[Addr.add_lit,Nat.add_assoc]
   exact dp _ _ (by rw[gZ,List.getElem?_drop]at hu;exact hu)
 have s1:Hid (news.length=(n-(i+1))*1):=hlen
 have s2:Hid (∀ u∈news,u.oneCell'=true):=fun u hu=>ml u (List.mem_of_mem_drop (gZ▸hu))
 have s3:Hid (∀ t,t<news.length->(w.drew.cell? ⟨b,off+i*1+t,none⟩).isSome=true/\w.drew.frozen? ⟨b,off+i*1+t,none⟩=false):=by
  intro t ht
  rw[hlen]at ht
  refine⟨?_,iU _⟩
  rw[Nat.add_assoc]
  exact lQ _ (by omega)
 obtain⟨W1,cR⟩:∃ W1,W1=w.drew.setCells b (off+i*1) news:=⟨_,rfl⟩
 have nl:∀ j,j<n*1->(W1.cell? ⟨b,off+j,none⟩).isSome=true:=fun j hj=>by
  rw[cR]
  exact isSome_setCells b _ _ _ (fun t ht=>(s3 t ht).1) _ (lQ j hj)
 have rI:∀ ty,(Builtin.clear_ #[22] ty #[.slice (some ⟨b,off+(i+(n-(i+1)))*1,none⟩) (n-(i+(n-(i+1)))) (c-(i+(n-(i+1))))]).run Try.prog W1=.ok (.tuple #[]) (W1.setCells b (off+(i+(n-(i+1)))*1) (List.replicate 1 (.int .i64 0))):=fun ty=>by
  have e:n-(i+(n-(i+1)))=1:=by omega
  rw[e]
  exact xV W1 22 3 ty _ Try.underlying22 me (by decide) b _ _ (fun j hj=>by rw[Nat.add_assoc];exact nl _ (by have:j<1:=hj;omega)) (fun j=>by rw[cR,World.frozen?_setCells];exact iU _)
 have hW:Hid (W1=w.drew.setCells b (off+i*1) news):=cR
 rw[<-gZ,<-cR]
 have OA:i<=c:=by omega
 have Ox:i+1<=c:=by omega
 have ar:¬ ((i:Int)=(i:Int)+1):=by omega
 have Ov:i+1<=n:=by omega
 have rn:(0:Int)<=(i:Int)+1:=by omega
 have lS:(i:Int)+1<=(n:Int):=by omega
 clear cR nl lQ gZ hlen
 simp only[Nat.mul_one]at hA rI
 go_enter Try.func54,Try.ntmps54
 go_wp2_with fail
 go_region_law_o (refine step_append_room rfl (.tmp 22) (.tmp 25) 22 rfl 3 i0 1 Try.underlying22 l6 jB b off i c (by simp[Act.eval,Act.put]) A (n-(i+1)) (c-(i+1)) news (by simp[Act.eval,Act.put]) s1.out bb.out s2.out (by omega) s3.out ?_;rw[<-hW.out])
 go_wp2
 go_ret
 have e:n-1=i+(n-(i+1)):=by omega
 rw[e,Nat.mul_one]
 exact⟨rfl,rfl⟩
def zI:V:=.int .i64 0
def sR(obj:Name->Option O):List D->R
 |[.msl nm k,.v (.int .i64 i),.v (.int .i64 j)]=>match obj nm with
  |some (.arr sz l)=>⟨k=l.length/\sz=1/\0<=i/\j=i+1/\i.toNat<l.length,.v (.sl (l.eraseIdx i.toNat)),upd obj nm (some (.farr sz (l.eraseIdx i.toNat++[zI])))⟩
  |_=>.bad obj
 |_=>.bad obj
def r6:List D->List Name
 |[.msl nm _,_,_]=>[nm]
 |_=>[]
def S54:Spec:=⟨fun obj _ ds=>sR obj ds,fun _ _ ds=>r6 ds,fun _ _ ds=>r6 ds⟩
theorem wP{l:List V}{i q:Nat}(hi:i<l.length)(h:q<(l.eraseIdx i++[zI]).length):
 (q<i/\∃ h':q<l.length,(l.eraseIdx i++[zI])[q]=l[q])\/(i<=q/\∃ h':q+1<l.length,(l.eraseIdx i++[zI])[q]=l[q+1])\/(q+1=l.length/\(l.eraseIdx i++[zI])[q]=zI):=by
 have hl:(l.eraseIdx i).length=l.length-1:=List.length_eraseIdx_of_lt hi
 have hq:q<l.length:=by simp[hl]at h;omega
 by_cases h1:q<l.length-1
 ·rw[List.getElem_append_left (by omega),List.getElem_eraseIdx]
  by_cases h2:q<i
  ·exact .inl ⟨h2,hq,by rw[dif_pos h2]⟩
  ·exact .inr (.inl ⟨by omega,by omega,by rw[dif_neg h2]⟩)
 ·refine .inr (.inr ⟨by omega,?_⟩)
  rw[List.getElem_append_right (by omega)]
  simp
theorem P':S54.Near:=by
 refine⟨fun obj obj2 t ds h=>?_,fun obj obj2 t ds h=>rfl,fun obj t ds nm hn=>hn,fun obj obj2 t ds h=>rfl⟩
 simp only[S54]at h |-
 unfold sR
 split
 ·rename_i nm k i j
  have h':obj2 nm=obj nm:=h nm (by simp[r6])
  simp only[h']
  split
  ·exact .one (by simp[r6]) h
  ·exact .none _ h
 ·exact .none _ h
set_option maxHeartbeats 1000000 in
theorem MS:an Try.prog 54 S54:=by
 refine⟨P',fun _ args w=>iY Try.func54 rfl (by kernel_rfl) args w,fun _ G φ m σ a w hC t ds us _ hl hr aa=>?_,fun e=>(Nat.ne_of_lt (show (54:Nat)<yid by decide) e).elim⟩
 simp only[S54,sR]at aa |-
 split at aa
 case h_2=>exact aa.elim
 rename_i nm k i j
 simp only[List.length_cons,List.length_nil]at hl
 have r0:=hr 0 (by simp) (by omega)
 have r1:=hr 1 (by simp) (by omega)
 have r2:=hr 2 (by simp) (by omega)
 simp only[List.getElem_cons_zero,List.getElem_cons_succ]at r0 r1 r2
 have fY:us= #[us[0],us[1],us[2]]:=by
  apply Array.ext
  ·simp;omega
  ·intro j h1 h2
   have :j=0\/j=1\/j=2:=by omega
   rcases this with rfl | rfl | rfl<;>rfl
 rw[fY]
 generalize us[0]=u0 at r0
 generalize us[1]=u1 at r1
 generalize us[2]=u2 at r2
 clear fY hr hl us
 cases r1 with
 |v _ _ r1=>
 cases r1 with
 |int _ _=>
 cases r2 with
 |v _ _ r2=>
 cases r2 with
 |int _ _=>
 split at aa
 case h_2=>exact aa.elim
 rename_i sz l aj
 obtain⟨hk,bB,l6,hj,cQ⟩:=aa
 subst bB hj
 cases r0 with
 |msl _ _ _ hh nk=>
 obtain⟨o,nn,bo,hlen,_,br⟩:=hh
 rw[aj]at bo;cases bo
 simp only[O.len?,Option.some.injEq]at hlen
 subst hlen
 have hv:=br hk
 subst hk
 obtain⟨i,rfl⟩:∃ n:Nat,i=(n:Int):=⟨i.toNat,by omega⟩
 simp only[Int.toNat_natCast]at cQ |-
 rcases hC.objs nm _ aj with⟨_,ed⟩ | ⟨g0,g1,g2,g3,g4,aP,T',f,g5,g6,g7,g8⟩
 ·subst ed;simp at cQ
 have dd:(φ nm).blk<w.heap.size:=(Array.getElem?_eq_some_iff.1 g5).1
 have oQ:u0=.slice (some ⟨(φ nm).blk,(φ nm).off,none⟩) l.length (φ nm).cap:=by rw[hv];simp only[Loc.slice,g0];rfl
 subst oQ
 have hM:holds φ σ.obj nm:=⟨_,aj,rfl,g0⟩
 obtain⟨c1,ia⟩:∃ c1:Nat->Nat->Value,∀ q j,q<l.length->j<1->aP[(φ nm).off+q*1+j]?=some (c1 q j):=⟨fun q j=>(aP[(φ nm).off+q*1+j]?).getD undef,fun q j hq hj=>by
  obtain⟨c,x1,_⟩:=g8 q j hq (by rw[g3];exact hj)
  simp only[x1,Option.getD_some]⟩
 have bk:∀ q j (h:q<l.length) (h':j<l[q].cells.length),aw m l[q].cells[j] (c1 q j):=fun q j h h'=>by
  obtain⟨c,x1,x2⟩:=g8 q j h h'
  have :=ia q j h (by rw[<-g3 q h];exact h')
  rw[x1]at this;cases this;exact x2
 have nE:∀ j v,(rowOf c1 l.length 1)[j]?=some v->w.cell? ⟨(φ nm).blk,(φ nm).off+j,none⟩=some v:=fun j v l4=>by
  have :=lq (w:=w) (c:=c1) (n:=l.length) (sz:=1) (blk:=(φ nm).blk) (o:=(φ nm).off) (fun q j hq hj=>by rw[gH g5];exact ia q j hq hj) j v l4
  rwa [eP]at this
 have nr:∀ v∈rowOf c1 l.length 1,v.oneCell'=true:=by
  intro v hv
  simp only[rowOf,List.mem_map,List.mem_range]at hv
  obtain⟨k,hk,rfl⟩:=hv
  obtain⟨d1,d2⟩:=nP hk
  exact mU ((bk _ _ d1 (by rw[g3];exact d2)).one (g4 _ d1 _ (List.getElem_mem _)))
 refine(Qa (φ nm).blk (φ nm).off l.length (φ nm).cap i (rowOf c1 l.length 1) w cQ g1 (by unfold maxLen at g2;omega) (bS _ _ _) nE (fun j=>wv g5 g6) nr).mono ?_
 rintro e w' ⟨rfl,rfl⟩
 obtain⟨fm,k1,k2,k3⟩:=jl (φ nm).blk T' f ((rowOf c1 l.length 1).drop ((i+1)*1)) ((φ nm).off+i*1) w.drew aP g5
 obtain⟨dq,k4,k5,k6⟩:=jl (φ nm).blk T' f (List.replicate 1 (.int .i64 0)) ((φ nm).off+(l.length-1)*1) (aV w.drew (φ nm).blk (.cells fm T' f)) fm (dN dd)
 rw[k1,k4,n5]
 have hL:(l.eraseIdx i++[zI]).length=l.length:=by simp[List.length_eraseIdx_of_lt cQ];omega
 have fC:∀ q (h:q<(l.eraseIdx i++[zI]).length),(l.eraseIdx i++[zI])[q].cells.length=1:=fun q h=>by
  rcases wP cQ h with⟨_,h',e⟩ | ⟨_,h',e⟩ | ⟨_,e⟩<;>rw[e]
  ·exact g3 _ _
  ·exact g3 _ _
  ·rfl
 have iP:∀ q (h:q<(l.eraseIdx i++[zI]).length),∀ x∈(l.eraseIdx i++[zI])[q].cells,x.one=true:=fun q h=>by
  rcases wP cQ h with⟨_,h',e⟩ | ⟨_,h',e⟩ | ⟨_,e⟩<;>rw[e]
  ·exact g4 _ _
  ·exact g4 _ _
  ·intro x hx
   simp only[zI,V.cells,List.mem_cons,List.not_mem_nil,or_false,or_self]at hx
   subst hx;rfl
 have vT:l.length*1<=(φ nm).cap*1:=Nat.mul_le_mul_right _ g1
 have ef:∀ q j (h:q<(l.eraseIdx i++[zI]).length) (h':j<(l.eraseIdx i++[zI])[q].cells.length),∃ c,dq[(φ nm).off+q*1+j]?=some c/\aw m (l.eraseIdx i++[zI])[q].cells[j] c:=by
  intro q j h h'
  have hq:q<l.length:=by rw[<-hL];exact h
  have hj:j<1:=by rw[<-fC q h];exact h'
  rw[k6 _ (by rw[k2];omega),k3 _ (by omega)]
  simp only[List.length_replicate,List.length_drop,bS]
  rcases wP cQ h with⟨h1,h2,e⟩ | ⟨h1,h2,e⟩ | ⟨h1,e⟩
  ·simp only[e]at h' |-
   rw[if_neg (by omega),if_neg (by omega)]
   exact⟨_,ia q j h2 hj,bk q j h2 h'⟩
  ·simp only[e]at h' |-
   rw[if_neg (by omega),if_pos (by omega),List.getElem?_drop,show (i+1)*1+((φ nm).off+q*1+j-((φ nm).off+i*1))=(q+1)*1+j by omega]
   exact⟨_,fq c1 h2 hj,bk (q+1) j h2 h'⟩
  ·simp only[e]at h' |-
   rw[if_pos (by omega)]
   refine⟨.int .i64 0,by rw[List.getElem?_replicate,if_pos (by omega)],?_⟩
   have hz:zI.cells[j]=.int .i64 0:=by
    have :zI.cells=List.replicate 1 (.int .i64 0):=rfl
    simp only[this,List.getElem_replicate]
   rw[hz]
   exact .int _ _
 have hx:=Ext.same (φ:=φ) (o':=.arr 1 (l.eraseIdx i++[zI])) aj (by simp only[O.len?,hL]) rfl
 have cK:=hC.chg (w':=aV w.drew (φ nm).blk (.cells dq T' f)) nm (.arr 1 (l.eraseIdx i++[zI])) (φ nm) hx ⟨rfl,rfl,rfl,by rw[pX];exact Nat.le_refl _⟩
  (fun b' cE hn=>by
    rw[fO (by rcases hn with h | h; · rw[g0]at h;cases h
              ·exact h)]
    rfl) (fun _=>.inr ⟨hM,rfl⟩)
  (.inr ⟨g0,by rw[hL];exact g1,g2,fC,iP,dq,T',f,dN dd,g6,by rw[k5,k2];exact g7,ef⟩)
 rw[c8]at cK hx
 obtain⟨m',q1,q2,q3⟩:=cK.frz1 nm (.arr 1 (l.eraseIdx i++[zI])) (.farr 1 (l.eraseIdx i++[zI])) (aD _ _ _) rfl g0 dq T' f (dN dd) rfl rfl rfl
  (fun m' hle fb=>.inr ⟨g0,⟨by rw[hL];exact g1,by rw[hL];exact Nat.le_trans g1 g2⟩,fC,iP,fun i j a b=>let ⟨c,x,y⟩:=ef i j a b;⟨c,fb _ _ x,y.mono hle⟩⟩)
 simp only[s4]at q2
 have lK:Ext φ φ σ.obj (upd σ.obj nm (some (.farr 1 (l.eraseIdx i++[zI])))):=by
  have :=Ext.same (φ:=φ) (o':=.farr 1 (l.eraseIdx i++[zI])) aj (by simp only[O.len?,hL]) rfl
  rwa [c8]at this
 refine⟨_,φ,m',rfl,q2,.v _ _ ?_,lK⟩
 have hU:(l.eraseIdx i).length=l.length-1:=List.length_eraseIdx_of_lt cQ
 rw[<-hU]
 by_cases oZ:l.eraseIdx i=[]
 ·rw[oZ];exact .slnil _ _
 ·have cX:∀ q (h:q<(l.eraseIdx i).length),(l.eraseIdx i++[zI])[q]'(by rw[List.length_append];omega)=(l.eraseIdx i)[q]:=fun q h=>List.getElem_append_left h
  refine .sl _ _ _ _ 1 (fun q j=>(dq[(φ nm).off+q*1+j]?).getD undef) oZ (by rw[hU];omega) (by rw[hU];omega) (fun q h=>?_) (fun q j h hj=>?_) (fun q j h hj=>?_) (fun q h=>?_)
  ·rw[<-cX q h];exact fC _ _
  ·obtain⟨c,x,y⟩:=ef q j (by rw[List.length_append];omega) (by rw[fC];exact hj)
   rw[x];exact q3 _ _ x
  ·have hg:=cX q h
   simp only[<-hg]at hj |-
   obtain⟨c,x,y⟩:=ef q j (by rw[List.length_append];omega) hj
   rw[x];exact y.mono q1
  ·rw[<-cX q h];exact iP _ _
end Go.Eng
set_option linter.unusedVariables false
namespace Go.Eng
open Go Go.Proofs Go.RowKit Go.Lib Go.Shelf
def zGc:List Value:=[.int .i64 0,.int .i64 0,.slice none 0 0,.int .i64 0,.int .i64 0]
theorem GI:zGc.length=5:=rfl
set_option maxHeartbeats 4000000 in
set_option maxRecDepth 100000 in
theorem Qc(b off n c i:Nat)(cs:List Value)(w:World)(hi:i<n)(ry:n<=c)(vV:c<=9223372036854775807)(bG:cs.length=n*5)
 (dp:∀ j v,cs[j]?=some v->w.cell? ⟨b,off+j,none⟩=some v) (iU:∀ j,w.frozen? ⟨b,j,none⟩=false) (ml:∀ v∈cs,v.oneCell'=true):
 Calls Try.prog 115 #[.slice (some ⟨b,off,none⟩) n c,.int .i64 i,.int .i64 (i+1)] w fun e w'=>
  e=.returned (.slice (some ⟨b,off,none⟩) (n-1) c)/\w'=(w.drew.setCells b (off+i*5) (cs.drop ((i+1)*5))).setCells b (off+(n-1)*5) zGc:=by
 have mixed:Try.prog.follows Departure.mixedOrders=true:=by kernel_rfl
 have kM:bg Try.prog 23=some (55,5,56):=by kernel_rfl
 have me:aH Try.prog 55=some (.agg #[.int .i64 0,.int .i64 0,.slice none 0 0,.int .i64 0,.int .i64 0]):=by kernel_rfl
 obtain⟨i0,l6,jB⟩:∃ i0,Try.prog.info? 55=some i0/\i0.size=5:=by
  obtain⟨hu,i0,h1,h2,h3⟩:=dO kM
  exact⟨i0,h1,h2⟩
 obtain⟨news,gZ⟩:∃ news,news=cs.drop ((i+1)*5):=⟨_,rfl⟩
 have hlen:news.length=(n-(i+1))*5:=by rw[gZ,List.length_drop,bG,Nat.sub_mul]
 have lQ:∀ j,j<n*5->(w.cell? ⟨b,off+j,none⟩).isSome=true:=fun j hj=>by
  rw[dp j _ (List.getElem?_eq_getElem (by omega))];rfl
 obtain⟨A,hA,bb⟩:∃ A:Addr,(if c=i+1 then some (⟨b,off,none⟩:Addr)else some ⟨b,off+(i+1)*5,none⟩)=some A/\Hid (∀ t u,news[t]?=some u->w.drew.cell? (A.add t)=some u):=by
  by_cases h:c=i+1
  ·refine⟨⟨b,off,none⟩,by simp[h],fun t u hu=>?_⟩
   have h0:news.length=0:=by rw[hlen];have:n-(i+1)=0:=by omega
                             rw[this,Nat.zero_mul]
   rw[List.length_eq_zero_iff.1 h0]at hu
   simp at hu
  ·refine⟨⟨b,off+(i+1)*5,none⟩,by simp[h],fun t u hu=>?_⟩
   rw[Addr.add_lit,Nat.add_assoc]
   exact dp _ _ (by rw[gZ,List.getElem?_drop]at hu;exact hu)
 have s1:Hid (news.length=(n-(i+1))*5):=hlen
 have s2:Hid (∀ u∈news,u.oneCell'=true):=fun u hu=>ml u (List.mem_of_mem_drop (gZ▸hu))
 have s3:Hid (∀ t,t<news.length->(w.drew.cell? ⟨b,off+i*5+t,none⟩).isSome=true/\w.drew.frozen? ⟨b,off+i*5+t,none⟩=false):=by
  intro t ht
  rw[hlen]at ht
  refine⟨?_,iU _⟩
  rw[Nat.add_assoc]
  exact lQ _ (by omega)
 obtain⟨W1,cR⟩:∃ W1,W1=w.drew.setCells b (off+i*5) news:=⟨_,rfl⟩
 have nl:∀ j,j<n*5->(W1.cell? ⟨b,off+j,none⟩).isSome=true:=fun j hj=>by
  rw[cR]
  exact isSome_setCells b _ _ _ (fun t ht=>(s3 t ht).1) _ (lQ j hj)
 have rI:∀ ty,(Builtin.clear_ #[23] ty #[.slice (some ⟨b,off+(i+(n-(i+1)))*5,none⟩) (n-(i+(n-(i+1)))) (c-(i+(n-(i+1))))]).run Try.prog W1=.ok (.tuple #[]) (W1.setCells b (off+(i+(n-(i+1)))*5) zGc):=fun ty=>by
  have e:n-(i+(n-(i+1)))=1:=by omega
  rw[e]
  exact xV W1 23 55 ty _ Try.underlying23 me (by decide) b _ _ (fun j hj=>by rw[Nat.add_assoc];exact nl _ (by have:j<5:=hj;omega)) (fun j=>by rw[cR,World.frozen?_setCells];exact iU _)
 have hW:Hid (W1=w.drew.setCells b (off+i*5) news):=cR
 rw[<-gZ,<-cR]
 have OA:i<=c:=by omega
 have Ox:i+1<=c:=by omega
 have ar:¬ ((i:Int)=(i:Int)+1):=by omega
 have Ov:i+1<=n:=by omega
 have rn:(0:Int)<=(i:Int)+1:=by omega
 have lS:(i:Int)+1<=(n:Int):=by omega
 clear cR nl lQ gZ hlen
 go_enter Try.func115,Try.ntmps115
 go_wp2_with fail
 go_region_law_o (refine step_append_room rfl (.tmp 22) (.tmp 25) 23 rfl 55 i0 5 Try.underlying23 l6 jB b off i c (by simp[Act.eval,Act.put]) A (n-(i+1)) (c-(i+1)) news (by simp[Act.eval,Act.put]) s1.out bb.out s2.out (by omega) s3.out ?_;rw[<-hW.out])
 go_wp2
 go_ret
 have e:n-1=i+(n-(i+1)):=by omega
 rw[e]
 exact⟨rfl,rfl⟩
def zG:V:=.agg [.int .i64 0,.int .i64 0,.sl [],.int .i64 0,.int .i64 0]
def nZ(obj:Name->Option O):List D->R
 |[.msl nm k,.v (.int .i64 i),.v (.int .i64 j)]=>match obj nm with
  |some (.arr sz l)=>⟨k=l.length/\sz=5/\0<=i/\j=i+1/\i.toNat<l.length,.v (.sl (l.eraseIdx i.toNat)),upd obj nm (some (.farr sz (l.eraseIdx i.toNat++[zG])))⟩
  |_=>.bad obj
 |_=>.bad obj
def r5:List D->List Name
 |[.msl nm _,_,_]=>[nm]
 |_=>[]
def S115:Spec:=⟨fun obj _ ds=>nZ obj ds,fun _ _ ds=>r5 ds,fun _ _ ds=>r5 ds⟩
theorem wO{l:List V}{i q:Nat}(hi:i<l.length)(h:q<(l.eraseIdx i++[zG]).length):
 (q<i/\∃ h':q<l.length,(l.eraseIdx i++[zG])[q]=l[q])\/(i<=q/\∃ h':q+1<l.length,(l.eraseIdx i++[zG])[q]=l[q+1])\/(q+1=l.length/\(l.eraseIdx i++[zG])[q]=zG):=by
 have hl:(l.eraseIdx i).length=l.length-1:=List.length_eraseIdx_of_lt hi
 have hq:q<l.length:=by simp[hl]at h;omega
 by_cases h1:q<l.length-1
 ·rw[List.getElem_append_left (by omega),List.getElem_eraseIdx]
  by_cases h2:q<i
  ·exact .inl ⟨h2,hq,by rw[dif_pos h2]⟩
  ·exact .inr (.inl ⟨by omega,by omega,by rw[dif_neg h2]⟩)
 ·refine .inr (.inr ⟨by omega,?_⟩)
  rw[List.getElem_append_right (by omega)]
  simp
theorem Qb:S115.Near:=by
 refine⟨fun obj obj2 t ds h=>?_,fun obj obj2 t ds h=>rfl,fun obj t ds nm hn=>hn,fun obj obj2 t ds h=>rfl⟩
 simp only[S115]at h |-
 unfold nZ
 split
 ·rename_i nm k i j
  have h':obj2 nm=obj nm:=h nm (by simp[r5])
  simp only[h']
  split
  ·exact .one (by simp[r5]) h
  ·exact .none _ h
 ·exact .none _ h
set_option maxHeartbeats 1000000 in
theorem CQ:an Try.prog 115 S115:=by
 refine⟨Qb,fun _ args w=>iY Try.func115 rfl (by kernel_rfl) args w,fun _ G φ m σ a w hC t ds us _ hl hr aa=>?_,fun e=>(Nat.ne_of_lt (show (115:Nat)<yid by decide) e).elim⟩
 simp only[S115,nZ]at aa |-
 split at aa
 case h_2=>exact aa.elim
 rename_i nm k i j
 simp only[List.length_cons,List.length_nil]at hl
 have r0:=hr 0 (by simp) (by omega)
 have r1:=hr 1 (by simp) (by omega)
 have r2:=hr 2 (by simp) (by omega)
 simp only[List.getElem_cons_zero,List.getElem_cons_succ]at r0 r1 r2
 have fY:us= #[us[0],us[1],us[2]]:=by
  apply Array.ext
  ·simp;omega
  ·intro j h1 h2
   have :j=0\/j=1\/j=2:=by omega
   rcases this with rfl | rfl | rfl<;>rfl
 rw[fY]
 generalize us[0]=u0 at r0
 generalize us[1]=u1 at r1
 generalize us[2]=u2 at r2
 clear fY hr hl us
 cases r1 with
 |v _ _ r1=>
 cases r1 with
 |int _ _=>
 cases r2 with
 |v _ _ r2=>
 cases r2 with
 |int _ _=>
 split at aa
 case h_2=>exact aa.elim
 rename_i sz l aj
 obtain⟨hk,bB,l6,hj,cQ⟩:=aa
 subst bB hj
 cases r0 with
 |msl _ _ _ hh nk=>
 obtain⟨o,nn,bo,hlen,_,br⟩:=hh
 rw[aj]at bo;cases bo
 simp only[O.len?,Option.some.injEq]at hlen
 subst hlen
 have hv:=br hk
 subst hk
 obtain⟨i,rfl⟩:∃ n:Nat,i=(n:Int):=⟨i.toNat,by omega⟩
 simp only[Int.toNat_natCast]at cQ |-
 rcases hC.objs nm _ aj with⟨_,ed⟩ | ⟨g0,g1,g2,g3,g4,aP,T',f,g5,g6,g7,g8⟩
 ·subst ed;simp at cQ
 have dd:(φ nm).blk<w.heap.size:=(Array.getElem?_eq_some_iff.1 g5).1
 have oQ:u0=.slice (some ⟨(φ nm).blk,(φ nm).off,none⟩) l.length (φ nm).cap:=by rw[hv];simp only[Loc.slice,g0];rfl
 subst oQ
 have hM:holds φ σ.obj nm:=⟨_,aj,rfl,g0⟩
 obtain⟨c1,ia⟩:∃ c1:Nat->Nat->Value,∀ q j,q<l.length->j<5->aP[(φ nm).off+q*5+j]?=some (c1 q j):=⟨fun q j=>(aP[(φ nm).off+q*5+j]?).getD undef,fun q j hq hj=>by
  obtain⟨c,x1,_⟩:=g8 q j hq (by rw[g3];exact hj)
  simp only[x1,Option.getD_some]⟩
 have bk:∀ q j (h:q<l.length) (h':j<l[q].cells.length),aw m l[q].cells[j] (c1 q j):=fun q j h h'=>by
  obtain⟨c,x1,x2⟩:=g8 q j h h'
  have :=ia q j h (by rw[<-g3 q h];exact h')
  rw[x1]at this;cases this;exact x2
 have nE:∀ j v,(rowOf c1 l.length 5)[j]?=some v->w.cell? ⟨(φ nm).blk,(φ nm).off+j,none⟩=some v:=fun j v l4=>by
  have :=lq (w:=w) (c:=c1) (n:=l.length) (sz:=5) (blk:=(φ nm).blk) (o:=(φ nm).off) (fun q j hq hj=>by rw[gH g5];exact ia q j hq hj) j v l4
  rwa [eP]at this
 have nr:∀ v∈rowOf c1 l.length 5,v.oneCell'=true:=by
  intro v hv
  simp only[rowOf,List.mem_map,List.mem_range]at hv
  obtain⟨k,hk,rfl⟩:=hv
  obtain⟨d1,d2⟩:=nP hk
  exact mU ((bk _ _ d1 (by rw[g3];exact d2)).one (g4 _ d1 _ (List.getElem_mem _)))
 refine(Qc (φ nm).blk (φ nm).off l.length (φ nm).cap i (rowOf c1 l.length 5) w cQ g1 (by unfold maxLen at g2;omega) (bS _ _ _) nE (fun j=>wv g5 g6) nr).mono ?_
 rintro e w' ⟨rfl,rfl⟩
 obtain⟨fm,k1,k2,k3⟩:=jl (φ nm).blk T' f ((rowOf c1 l.length 5).drop ((i+1)*5)) ((φ nm).off+i*5) w.drew aP g5
 obtain⟨dq,k4,k5,k6⟩:=jl (φ nm).blk T' f zGc ((φ nm).off+(l.length-1)*5) (aV w.drew (φ nm).blk (.cells fm T' f)) fm (dN dd)
 rw[k1,k4,n5]
 have hL:(l.eraseIdx i++[zG]).length=l.length:=by simp[List.length_eraseIdx_of_lt cQ];omega
 have fC:∀ q (h:q<(l.eraseIdx i++[zG]).length),(l.eraseIdx i++[zG])[q].cells.length=5:=fun q h=>by
  rcases wO cQ h with⟨_,h',e⟩ | ⟨_,h',e⟩ | ⟨_,e⟩<;>rw[e]
  ·exact g3 _ _
  ·exact g3 _ _
  ·rfl
 have iP:∀ q (h:q<(l.eraseIdx i++[zG]).length),∀ x∈(l.eraseIdx i++[zG])[q].cells,x.one=true:=fun q h=>by
  rcases wO cQ h with⟨_,h',e⟩ | ⟨_,h',e⟩ | ⟨_,e⟩<;>rw[e]
  ·exact g4 _ _
  ·exact g4 _ _
  ·intro x hx
   simp only[zG,V.cells,List.mem_cons,List.not_mem_nil,or_false,or_self]at hx
   (first | (subst hx;rfl) | (rcases hx with rfl | rfl<;>rfl) | (rcases hx with rfl | rfl | rfl<;>rfl) | (rcases hx with rfl | rfl | rfl | rfl<;>rfl) | (rcases hx with rfl | rfl | rfl | rfl | rfl<;>rfl))
 have vT:l.length*5<=(φ nm).cap*5:=Nat.mul_le_mul_right _ g1
 have ef:∀ q j (h:q<(l.eraseIdx i++[zG]).length) (h':j<(l.eraseIdx i++[zG])[q].cells.length),∃ c,dq[(φ nm).off+q*5+j]?=some c/\aw m (l.eraseIdx i++[zG])[q].cells[j] c:=by
  intro q j h h'
  have hq:q<l.length:=by rw[<-hL];exact h
  have hj:j<5:=by rw[<-fC q h];exact h'
  rw[k6 _ (by rw[k2];omega),k3 _ (by omega)]
  simp only[GI,List.length_drop,bS]
  rcases wO cQ h with⟨h1,h2,e⟩ | ⟨h1,h2,e⟩ | ⟨h1,e⟩
  ·simp only[e]at h' |-
   rw[if_neg (by omega),if_neg (by omega)]
   exact⟨_,ia q j h2 hj,bk q j h2 h'⟩
  ·simp only[e]at h' |-
   rw[if_neg (by omega),if_pos (by omega),List.getElem?_drop,show (i+1)*5+((φ nm).off+q*5+j-((φ nm).off+i*5))=(q+1)*5+j by omega]
   exact⟨_,fq c1 h2 hj,bk (q+1) j h2 h'⟩
  ·simp only[e]at h' |-
   rw[if_pos (by omega)]
   rw[show (φ nm).off+q*5+j-((φ nm).off+(l.length-1)*5)=j by omega]
   have h5:j=0\/j=1\/j=2\/j=3\/j=4:=by omega
   rcases h5 with rfl | rfl | rfl | rfl | rfl
   ·exact⟨_,rfl,.int _ _⟩
   ·exact⟨_,rfl,.int _ _⟩
   ·exact⟨_,rfl,.slnil _ _⟩
   ·exact⟨_,rfl,.int _ _⟩
   ·exact⟨_,rfl,.int _ _⟩
 have hx:=Ext.same (φ:=φ) (o':=.arr 5 (l.eraseIdx i++[zG])) aj (by simp only[O.len?,hL]) rfl
 have cK:=hC.chg (w':=aV w.drew (φ nm).blk (.cells dq T' f)) nm (.arr 5 (l.eraseIdx i++[zG])) (φ nm) hx ⟨rfl,rfl,rfl,by rw[pX];exact Nat.le_refl _⟩
  (fun b' cE hn=>by
    rw[fO (by rcases hn with h | h; · rw[g0]at h;cases h
              ·exact h)]
    rfl) (fun _=>.inr ⟨hM,rfl⟩)
  (.inr ⟨g0,by rw[hL];exact g1,g2,fC,iP,dq,T',f,dN dd,g6,by rw[k5,k2];exact g7,ef⟩)
 rw[c8]at cK hx
 obtain⟨m',q1,q2,q3⟩:=cK.frz1 nm (.arr 5 (l.eraseIdx i++[zG])) (.farr 5 (l.eraseIdx i++[zG])) (aD _ _ _) rfl g0 dq T' f (dN dd) rfl rfl rfl
  (fun m' hle fb=>.inr ⟨g0,⟨by rw[hL];exact g1,by rw[hL];exact Nat.le_trans g1 g2⟩,fC,iP,fun i j a b=>let ⟨c,x,y⟩:=ef i j a b;⟨c,fb _ _ x,y.mono hle⟩⟩)
 simp only[s4]at q2
 have lK:Ext φ φ σ.obj (upd σ.obj nm (some (.farr 5 (l.eraseIdx i++[zG])))):=by
  have :=Ext.same (φ:=φ) (o':=.farr 5 (l.eraseIdx i++[zG])) aj (by simp only[O.len?,hL]) rfl
  rwa [c8]at this
 refine⟨_,φ,m',rfl,q2,.v _ _ ?_,lK⟩
 have hU:(l.eraseIdx i).length=l.length-1:=List.length_eraseIdx_of_lt cQ
 rw[<-hU]
 by_cases oZ:l.eraseIdx i=[]
 ·rw[oZ];exact .slnil _ _
 ·have cX:∀ q (h:q<(l.eraseIdx i).length),(l.eraseIdx i++[zG])[q]'(by rw[List.length_append];omega)=(l.eraseIdx i)[q]:=fun q h=>List.getElem_append_left h
  refine .sl _ _ _ _ 5 (fun q j=>(dq[(φ nm).off+q*5+j]?).getD undef) oZ (by rw[hU];omega) (by rw[hU];omega) (fun q h=>?_) (fun q j h hj=>?_) (fun q j h hj=>?_) (fun q h=>?_)
  ·rw[<-cX q h];exact fC _ _
  ·obtain⟨c,x,y⟩:=ef q j (by rw[List.length_append];omega) (by rw[fC];exact hj)
   rw[x];exact q3 _ _ x
  ·have hg:=cX q h
   simp only[<-hg]at hj |-
   obtain⟨c,x,y⟩:=ef q j (by rw[List.length_append];omega) hj
   rw[x];exact y.mono q1
  ·rw[<-cX q h];exact iP _ _
end Go.Eng
set_option linter.unusedVariables false
namespace Go.Eng
open Go Go.Proofs Go.RowKit Go.Lib Go.Shelf
set_option maxHeartbeats 4000000 in
set_option maxRecDepth 100000 in
theorem Nl(b off n c i vb cU m vc:Nat)(cs vs:List Value)(w:World)(hi:i<n)(hm:0<m)(fD:n+m<=c)(vV:c<=9223372036854775807)(qZ:vb≠b)
 (bG:cs.length=n*5) (uO:vs.length=m*5)
 (dp:∀ j v,cs[j]?=some v->w.cell? ⟨b,off+j,none⟩=some v) (jF:∀ j,j<(n+m)*5->(w.cell? ⟨b,off+j,none⟩).isSome=true) (iU:∀ j,w.frozen? ⟨b,j,none⟩=false)
 (lM:∀ j v,vs[j]?=some v->w.cell? ⟨vb,cU+j,none⟩=some v) (ml:∀ v∈cs,v.oneCell'=true) (wm:∀ v∈vs,v.oneCell'=true)
 (tA tB:TypeId) (kA kB:Nat) (oV:w.shape? vb=some (tA,kA)) (oU:w.shape? b=some (tB,kB)) (vD:kA≠0):
 Calls Try.prog 77 #[.slice (some ⟨b,off,none⟩) n c,.int .i64 i,.slice (some ⟨vb,cU,none⟩) m vc] w fun e w'=>
  e=.returned (.slice (some ⟨b,off,none⟩) (n+m) c)/\w'=(w.drew.setCells b (off+(i+m)*5) (cs.drop (i*5))).setCells b (off+i*5) vs:=by
 have mixed:Try.prog.follows Departure.mixedOrders=true:=by kernel_rfl
 have C':¬ ((m:Int)=0):=by omega
 have NB:¬ ((i:Int)=(n:Int)):=by omega
 have Oa:∀ lb cb,(callFunc 113 #[.slice (some ⟨vb,cU,none⟩) m vc,.slice (some ⟨b,off+(i+m)*5,none⟩) lb cb]).run Try.prog w=.ok (.value (.bool false)) w:=fun lb cb=>by
  rw[run_callFunc_extern Try.func113 (by kernel_rfl) (by kernel_rfl) (by kernel_rfl) (e:=Extern.SlicesOverlaps.overlaps #[23,23] #[4]) (by kernel_rfl),
   IG w 23 4 55 Try.underlying23 5 Try.sizeOf55 ⟨vb,cU,none⟩ ⟨b,off+(i+m)*5,none⟩ m vc lb cb qZ tA tB kA kB oV oU vD (iU _) (iU _)]
  rfl
 have nC:(cs.drop (i*5)).length=(n-i)*5:=by rw[List.length_drop,bG];try omega
 have ea:IntKind.i64.wrap ((i:Int)+(m:Int))=(i:Int)+(m:Int):=by rw[IntKind.wrap_i64];omega
 have ib:(0:Int)<=(i:Int)+(m:Int):=by omega
 have cJ:i<=n:=by omega
 have NO:((i:Int)+(m:Int)).toNat=i+m:=by omega
 have eM:¬ (c=i+m):=by omega
 have O':(i:Int)<=(n:Int)+(m:Int):=by omega
 have hb4:¬ (c=i):=by omega
 have o4:Nat.min (n+m-i) (n+m-(i+m))=n-i:=by simp only[Nat.min_def];split<;>omega
 have DW:∀ ty dc sc,(Builtin.copy_ #[23,23] ty #[.slice (some ⟨b,off+(i+m)*5,none⟩) (n+m-(i+m)) dc,.slice (some ⟨b,off+i*5,none⟩) (n+m-i) sc]).run Try.prog w.drew=.ok (goInt (n-i:Nat)) (w.drew.setCells b (off+(i+m)*5) (cs.drop (i*5))):=fun ty dc sc=>by
  have h:=p9 (P:=Try.prog) 5 w.drew 23 23 ty 55 b (off+(i+m)*5) (n+m-(i+m)) dc ⟨b,off+i*5,none⟩ (n+m-i) sc (cs.drop (i*5)) Try.underlying23 Try.sizeOf55 (by rw[nC,o4])
   (fun j v hj=>by rw[Addr.add_lit,Nat.add_assoc];exact dp (i*5+j) v (by rwa [List.getElem?_drop]at hj))
   (fun j hj=>by rw[Nat.add_assoc];exact jF _ (by omega)) (fun j hj=>by exact iU _) (fun v hv=>ml v (List.mem_of_mem_drop hv))
  rw[o4]at h
  exact h
 obtain⟨W1,cR⟩:∃ W1,W1=w.drew.setCells b (off+(i+m)*5) (cs.drop (i*5)):=⟨_,rfl⟩
 have NX:∀ k,k<(n+m)*5->(W1.cell? ⟨b,off+k,none⟩).isSome=true:=fun k hk=>by
  rw[cR]
  exact isSome_setCells b _ _ _ (fun j hj=>by rw[Nat.add_assoc];exact jF _ (by omega)) _ (jF k hk)
 have o3:Nat.min m (n+m-i)=m:=by simp only[Nat.min_def];split<;>omega
 have OZ:∀ (W:World),(∀ x,W.cell? x=W1.cell? x)->(∀ x,W.frozen? x=W1.frozen? x)->∀ ty dc,(Builtin.copy_ #[23,23] ty #[.slice (some ⟨b,off+i*5,none⟩) (n+m-i) dc,.slice (some ⟨vb,cU,none⟩) m vc]).run Try.prog W=.ok (goInt m) (W.setCells b (off+i*5) vs):=fun W kL pr ty dc=>by
  have h:=p9 (P:=Try.prog) 5 W 23 23 ty 55 b (off+i*5) (n+m-i) dc ⟨vb,cU,none⟩ m vc vs Try.underlying23 Try.sizeOf55 (by rw[o3,uO])
   (fun j v hj=>by
     rw[Addr.add_lit,kL,cR,World.cell?_setCells_out b _ _ _ _ (fun h _=>absurd h qZ)]
     exact lM j v hj)
   (fun j hj=>by rw[kL,Nat.add_assoc];exact NX _ (by omega)) (fun j hj=>by rw[pr,cR,World.frozen?_setCells];exact iU _) wm
  rw[o3]at h
  exact h
 rw[<-cR]at DW
 go_enter Try.func77,Try.ntmps77
 go_wp2_with (simp only[Oa])
 go_region_law_o (refine step_copy_runI rfl _ _ 23 23 rfl _ _ (by simp[Act.eval,Act.put]) (by simp[Act.eval,Act.put]) (DW _ _ _) ?_)
 go_wp2_with (at_builtin;refine wpList_copy_runI _ rfl _ _ 23 23 rfl _ _ rfl rfl (OZ _ (fun _=>rfl) (fun _=>rfl) _ _) ?_)
 go_ret
 first | exact⟨rfl,rfl⟩ | exact⟨rfl,by rw[cR]⟩
set_option maxHeartbeats 4000000 in
set_option maxRecDepth 100000 in
theorem Nn(b off n c i vb cU m vc:Nat)(cs vs:List Value)(w:World)(hi:i<n)(hm:0<m)(ry:n<=c)(fD:c<n+m)(O7:(n+m)*56<=140737488355328)
 (bG:cs.length=n*5) (uO:vs.length=m*5)
 (dp:∀ j v,cs[j]?=some v->w.cell? ⟨b,off+j,none⟩=some v)
 (lM:∀ j v,vs[j]?=some v->w.cell? ⟨vb,cU+j,none⟩=some v) (ml:∀ v∈cs,v.oneCell'=true) (wm:∀ v∈vs,v.oneCell'=true):
 Calls Try.prog 77 #[.slice (some ⟨b,off,none⟩) n c,.int .i64 i,.slice (some ⟨vb,cU,none⟩) m vc] w fun e w'=>
  e=.returned (.slice (some ⟨w.heap.size,0,none⟩) (n+m) (grownCap w (n+m) c 55))/\
  w'=(((w.alloc (.cells ((cs.take (i*5)).toArray++Builtin.zeroCells (.agg #[.int .i64 0,.int .i64 0,.slice none 0 0,.int .i64 0,.int .i64 0]:Value).cells (n+m-i)++Builtin.zeroCells (.agg #[.int .i64 0,.int .i64 0,.slice none 0 0,.int .i64 0,.int .i64 0]:Value).cells (grownCap w (n+m) c 55-(n+m))) 55)).drew.setCells w.heap.size (i*5) vs).drew).setCells w.heap.size ((i+m)*5) (cs.drop (i*5)):=by
 have mixed:Try.prog.follows Departure.mixedOrders=true:=by kernel_rfl
 have kM:bg Try.prog 23=some (55,5,56):=by kernel_rfl
 have me:aH Try.prog 55=some (.agg #[.int .i64 0,.int .i64 0,.slice none 0 0,.int .i64 0,.int .i64 0]):=by kernel_rfl
 obtain⟨i0,l6,NC,jB,C9⟩:∃ i0,Try.prog.info? 55=some i0/\i0.zero=some (.agg #[.int .i64 0,.int .i64 0,.slice none 0 0,.int .i64 0,.int .i64 0])/\i0.size=5/\i0.bytes=56:=by
  obtain⟨hu,i0,h1,h2,h3⟩:=dO kM
  refine⟨i0,h1,?_,h2,h3⟩
  unfold aH at me
  rw[h1]at me
  exact me
 have C':¬ ((m:Int)=0):=by omega
 have NB:¬ ((i:Int)=(n:Int)):=by omega
 have hz3:(c:Int)<(n:Int)+(m:Int):=by omega
 have O4:b<w.heap.size:=block_lt_of_cell (dp 0 _ (List.getElem?_eq_getElem (by omega)))
 have NL:vb<w.heap.size:=block_lt_of_cell (lM 0 _ (List.getElem?_eq_getElem (by omega)))
 have rD:(n:Int)+(m:Int)-(i:Int)=((n+m-i:Nat):Int):=by omega
 have jL:i+(n+m-i)=n+m:=by omega
 have hold:(Builtin.firstCells i0.size i (.slice (some ⟨b,off,none⟩) i c)).run Try.prog w.drew=.ok (cs.take (i*5)).toArray w.drew:=by
  rw[jB]
  exact run_firstCells_some w.drew 5 i ⟨b,off,none⟩ i c (cs.take (i*5)) (by rw[List.length_take];omega) (fun j v hj=>by
   rw[Addr.add_lit]
   rw[List.getElem?_take]at hj
   split at hj
   ·exact dp j v hj
   ·cases hj)
 have np:∀ ty,(Builtin.append_ #[23,3] ty #[.slice (some ⟨b,off,none⟩) i c,.int .i64 ((n:Int)+(m:Int)-(i:Int))]).run Try.prog w=
     .ok (.slice (some ⟨w.heap.size,0,none⟩) (n+m) (grownCap w (n+m) c 55)) (w.drew.alloc (.cells ((cs.take (i*5)).toArray++Builtin.zeroCells (.agg #[.int .i64 0,.int .i64 0,.slice none 0 0,.int .i64 0,.int .i64 0]:Value).cells (n+m-i)++Builtin.zeroCells (.agg #[.int .i64 0,.int .i64 0,.slice none 0 0,.int .i64 0,.int .i64 0]:Value).cells (grownCap w (n+m) c 55-(n+m))) 55)):=fun ty=>by
  have h:=Lib.run_append_grow_zeros w 23 3 ty 55 i0 _ .i64 .i64 Try.underlying23 Try.underlying3 l6 NC (some ⟨b,off,none⟩) i c (cs.take (i*5)) hold (n+m-i) (by omega) (by omega) (by omega) (by omega) (by rw[C9];omega) (by rw[C9,jL];exact growslice_fits fD O7)
  rw[jL]at h
  rw[rD]
  exact h
 obtain⟨G,hG⟩:∃ G,G=grownCap w (n+m) c 55:=⟨_,rfl⟩
 obtain⟨ROW,mg⟩:∃ ROW:Array Value,ROW=(cs.take (i*5)).toArray++Builtin.zeroCells (.agg #[.int .i64 0,.int .i64 0,.slice none 0 0,.int .i64 0,.int .i64 0]:Value).cells (n+m-i)++Builtin.zeroCells (.agg #[.int .i64 0,.int .i64 0,.slice none 0 0,.int .i64 0,.int .i64 0]:Value).cells (G-(n+m)):=⟨_,rfl⟩
 rw[<-hG]at np |-
 rw[<-mg]at np |-
 have Pl:(n+m)*5<=ROW.size:=by
  rw[mg]
  simp[Builtin.zeroCells,Value.cells]
  omega
 obtain⟨W1,cR⟩:∃ W1,W1=w.drew.alloc (.cells ROW 55):=⟨_,rfl⟩
 rw[<-cR]at np
 have hN:∀ j,j<(n+m)*5->(W1.cell? ⟨w.heap.size,j,none⟩).isSome=true:=fun j hj=>by
  rw[cR,World.cell?_alloc_at (w:=w.drew) ROW _ w.heap.size j rfl,Array.getElem?_eq_getElem (by omega)];rfl
 have D9:∀ j,W1.frozen? ⟨w.heap.size,j,none⟩=false:=fun j=>by rw[cR];exact World.frozen?_alloc_at (w:=w.drew) ROW _ w.heap.size j rfl
 have Pp:∀ j v,w.cell? ⟨b,j,none⟩=some v->W1.cell? ⟨b,j,none⟩=some v:=fun j v h=>by rw[cR,World.cell?_alloc_past (w:=w.drew) _ b j O4];exact h
 have Po:∀ j v,w.cell? ⟨vb,j,none⟩=some v->W1.cell? ⟨vb,j,none⟩=some v:=fun j v h=>by rw[cR,World.cell?_alloc_past (w:=w.drew) _ vb j NL];exact h
 have o3:Nat.min m (n+m-i)=m:=by simp only[Nat.min_def];split<;>omega
 have o4:Nat.min (n-i) (n+m-(i+m))=n-i:=by simp only[Nat.min_def];split<;>omega
 have OY:∀ (W:World),(∀ x,W.cell? x=W1.cell? x)->(∀ x,W.frozen? x=W1.frozen? x)->∀ ty dc,(Builtin.copy_ #[23,23] ty #[.slice (some ⟨w.heap.size,i*5,none⟩) (n+m-i) dc,.slice (some ⟨vb,cU,none⟩) m vc]).run Try.prog W=.ok (goInt m) (W.setCells w.heap.size (i*5) vs):=fun W kL pr ty dc=>by
  have h:=p9 (P:=Try.prog) 5 W 23 23 ty 55 w.heap.size (i*5) (n+m-i) dc ⟨vb,cU,none⟩ m vc vs Try.underlying23 Try.sizeOf55 (by rw[o3,uO])
   (fun j v hj=>by rw[Addr.add_lit,kL];exact Po _ v (lM j v hj))
   (fun j hj=>by rw[kL];exact hN _ (by omega)) (fun j hj=>by rw[pr];exact D9 _) wm
  rw[o3]at h
  exact h
 have hGn:n+m<=G:=by rw[hG];exact grownCap_ge w _ _ _
 have adl:G<=9223372036854775807:=by
  have :=grownCap_le_maxLen w (n+m) c 55 (by unfold maxLen;omega)
  rw[<-hG]at this
  unfold maxLen at this
  omega
 have hGi:¬ (G=i):=by omega
 have adk:¬ (G=i+m):=by omega
 have DY:¬ (c=i):=by omega
 have O9:b≠w.heap.size:=by omega
 have nC:(cs.drop (i*5)).length=(n-i)*5:=by rw[List.length_drop,bG];try omega
 have DV:∀ (W:World),(∀ x,W.cell? x=(W1.setCells w.heap.size (i*5) vs).cell? x)->(∀ x,W.frozen? x=(W1.setCells w.heap.size (i*5) vs).frozen? x)->∀ ty dc sc,(Builtin.copy_ #[23,23] ty #[.slice (some ⟨w.heap.size,(i+m)*5,none⟩) (n+m-(i+m)) dc,.slice (some ⟨b,off+i*5,none⟩) (n-i) sc]).run Try.prog W=.ok (goInt (n-i:Nat)) (W.setCells w.heap.size ((i+m)*5) (cs.drop (i*5))):=fun W kL pr ty dc sc=>by
  have h:=p9 (P:=Try.prog) 5 W 23 23 ty 55 w.heap.size ((i+m)*5) (n+m-(i+m)) dc ⟨b,off+i*5,none⟩ (n-i) sc (cs.drop (i*5)) Try.underlying23 Try.sizeOf55 (by rw[nC,o4])
   (fun j v hj=>by
     rw[Addr.add_lit,kL,World.cell?_setCells_out _ _ _ _ _ (fun h _=>absurd h O9),Nat.add_assoc]
     exact Pp _ v (dp (i*5+j) v (by rwa [List.getElem?_drop]at hj)))
   (fun j hj=>by rw[kL];exact isSome_setCells _ _ _ _ (fun t ht=>hN _ (by omega)) _ (hN _ (by omega)))
   (fun j hj=>by rw[pr,World.frozen?_setCells];exact D9 _) (fun v hv=>ml v (List.mem_of_mem_drop hv))
  rw[o4]at h
  exact h
 subst cR
 have PJ:∀ x,((w.alloc (.cells ROW 55)).drew).cell? x=(w.drew.alloc (.cells ROW 55)).cell? x:=fun x=>rfl
 have PI:∀ x,((w.alloc (.cells ROW 55)).drew).frozen? x=(w.drew.alloc (.cells ROW 55)).frozen? x:=fun x=>rfl
 have PG:∀ x,(((w.alloc (.cells ROW 55)).drew.setCells w.heap.size (i*5) vs).drew).cell? x=((w.drew.alloc (.cells ROW 55)).setCells w.heap.size (i*5) vs).cell? x:=fun x=>rfl
 have PF:∀ x,(((w.alloc (.cells ROW 55)).drew.setCells w.heap.size (i*5) vs).drew).frozen? x=((w.drew.alloc (.cells ROW 55)).setCells w.heap.size (i*5) vs).frozen? x:=fun x=>rfl
 have ea:IntKind.i64.wrap ((i:Int)+(m:Int))=(i:Int)+(m:Int):=by rw[IntKind.wrap_i64];omega
 have ib:(0:Int)<=(i:Int)+(m:Int):=by omega
 have cJ:i<=n:=by omega
 have NO:((i:Int)+(m:Int)).toNat=i+m:=by omega
 have O':(i:Int)<=(n:Int):=by omega
 clear rD jL hold mg hG Pl
 go_enter Try.func77,Try.ntmps77
 go_wp2_with (first
  |(at_builtin;refine Lib.wpList_append_run _ rfl _ _ _ _ rfl _ _ rfl rfl _ _ (np _) ?_)
  |(at_builtin;refine wpList_copy_runI _ rfl _ _ 23 23 rfl _ _ rfl rfl (OY _ PJ PI _ _) ?_)
  |(at_builtin;refine wpList_copy_runI _ rfl _ _ 23 23 rfl _ _ rfl rfl (DV _ (fun _=>rfl) (fun _=>rfl) _ _ _) ?_))
 go_region_law_o (refine step_copy_runI rfl _ _ 23 23 rfl (.slice (some ⟨w.heap.size,(i+m)*5,none⟩) (n+m-(i+m)) (G-(i+m))) (.slice (some ⟨b,off+i*5,none⟩) (n-i) (c-i)) (by simp[Act.eval,Act.put]) (by simp[Act.eval,Act.put]) (DV _ PG PF 3 (G-(i+m)) (c-i)) ?_)
 go_wp2
 go_ret
 exact⟨rfl,rfl⟩
set_option maxHeartbeats 4000000 in
set_option maxRecDepth 100000 in
theorem Nm(base:Option Addr)(n c vb cU m vc:Nat)(w:World)(v':Value)(w':World)(hm:0<m)(hn:n<=c)(vV:c<=9223372036854775807)
 (bz:∀ ty,(Builtin.append_ #[23,23] ty #[.slice base n c,.slice (some ⟨vb,cU,none⟩) m vc]).run Try.prog w=.ok v' w'):
 Calls Try.prog 77 #[.slice base n c,.int .i64 n,.slice (some ⟨vb,cU,none⟩) m vc] w fun e w1=>e=.returned v'/\w1=w':=by
 have mixed:Try.prog.follows Departure.mixedOrders=true:=by kernel_rfl
 have C':¬ ((m:Int)=0):=by omega
 go_enter Try.func77,Try.ntmps77
 cases base with
 |none=>
  go_wp2_with (at_builtin;refine Lib.wpList_append_run _ rfl _ _ _ _ rfl _ _ rfl rfl _ _ (bz _) ?_)
  all_goals (go_ret;exact⟨rfl,rfl⟩)
 |some a=>
  obtain⟨ab,ao,asp⟩:=a
  go_wp2_with (at_builtin;refine Lib.wpList_append_run _ rfl _ _ _ _ rfl _ _ rfl rfl _ _ (bz _) ?_)
  all_goals (go_ret;exact⟨rfl,rfl⟩)
end Go.Eng
set_option linter.unusedVariables false
namespace Go.Eng
open Go Go.Proofs
noncomputable def P7:SpecB where
 spec:=S54
 run obj t ds:=match ds with
  |[.msl nm k,.v (.int .i64 i),.v (.int .i64 j)]=>match obj nm with
   |some (.arr sz l)=>cond (Nat.beq k l.length&&(Nat.beq sz 1&&(decide (0<=i)&&(decide (j=i+1)&&Nat.blt i.toNat l.length)))) (some ⟨.v (.sl (l.eraseIdx i.toNat)),[nm],[nm],fun t=>bW t nm (.farr sz (l.eraseIdx i.toNat++[zI]))⟩) none
   |_=>none
  |_=>none
 ok:=by
  intro obj t ds r hr
  split at hr
  ·rename_i nm k i j
   split at hr
   ·rename_i sz l ho
    cases hb:(Nat.beq k l.length&&(Nat.beq sz 1&&(decide (0<=i)&&(decide (j=i+1)&&Nat.blt i.toNat l.length))))with
    |false=>rw[hb]at hr;cases hr
    |true=>
     rw[hb]at hr
     cases hr
     simp only[Bool.and_eq_true,decide_eq_true_eq]at hb
     obtain⟨h1,h2,h3,h4,h5⟩:=hb
     have wk:i.toNat<l.length:=by simpa[Nat.blt_eq]using h5
     simp only[S54,sR,ho]
     refine⟨⟨Nat.eq_of_beq_eq_true h1,Nat.eq_of_beq_eq_true h2,h3,h4,wk⟩,trivial,rfl,rfl,fun tbl h=>?_⟩
     rw[gU,h]
   ·cases hr
  ·cases hr
noncomputable def P6:SpecB where
 spec:=S115
 run obj t ds:=match ds with
  |[.msl nm k,.v (.int .i64 i),.v (.int .i64 j)]=>match obj nm with
   |some (.arr sz l)=>cond (Nat.beq k l.length&&(Nat.beq sz 5&&(decide (0<=i)&&(decide (j=i+1)&&Nat.blt i.toNat l.length)))) (some ⟨.v (.sl (l.eraseIdx i.toNat)),[nm],[nm],fun t=>bW t nm (.farr sz (l.eraseIdx i.toNat++[zG]))⟩) none
   |_=>none
  |_=>none
 ok:=by
  intro obj t ds r hr
  split at hr
  ·rename_i nm k i j
   split at hr
   ·rename_i sz l ho
    cases hb:(Nat.beq k l.length&&(Nat.beq sz 5&&(decide (0<=i)&&(decide (j=i+1)&&Nat.blt i.toNat l.length))))with
    |false=>rw[hb]at hr;cases hr
    |true=>
     rw[hb]at hr
     cases hr
     simp only[Bool.and_eq_true,decide_eq_true_eq]at hb
     obtain⟨h1,h2,h3,h4,h5⟩:=hb
     have wk:i.toNat<l.length:=by simpa[Nat.blt_eq]using h5
     simp only[S115,nZ,ho]
     refine⟨⟨Nat.eq_of_beq_eq_true h1,Nat.eq_of_beq_eq_true h2,h3,h4,wk⟩,trivial,rfl,rfl,fun tbl h=>?_⟩
     rw[gU,h]
   ·cases hr
  ·cases hr
set_option maxRecDepth 100000
theorem yH(l:List Int):∀ y∈l.map au,y.cells.length=1/\y.okc=true:=by
 intro y hy;obtain⟨x,_,rfl⟩:=List.mem_map.1 hy;exact⟨rfl,rfl⟩
theorem yI(l:List Gl):∀ y∈l.map encGl,y.cells.length=5/\y.okc=true:=by
 intro y hy;obtain⟨x,_,rfl⟩:=List.mem_map.1 hy;exact⟨rfl,rfl⟩
theorem ai{p:Prop}(h:p:=by first | exact yH _ | exact yI _ | ((repeat' apply And.intro)<;>first | rfl | omega | (unfold maxLen;omega) | trivial | decide | exact yH _ | exact yI _) | exact ob):p:=h
theorem JA{i j:Nat}(hi:i<=maxLen)(hj:j<=maxLen):IntKind.i64.wrap ((IntKind.u64.wrap (IntKind.i64.wrap ((i:Int)+(j:Int)))).fdiv (2 ^ min (Int.toNat 1) 64))=(((i+j) / 2:Nat):Int):=by
 unfold maxLen at hi hj
 have h1:min (Int.toNat 1) 64=1:=by decide
 have h2:IntKind.u64.wrap (IntKind.i64.wrap ((i:Int)+(j:Int)))=((i+j:Nat):Int):=by
  rw[IntKind.wrap_u64,IntKind.wrap_i64]
  omega
 rw[h1,h2]
 have h3:(((i+j:Nat):Int)).fdiv (2 ^ 1)=(((i+j) / 2:Nat):Int):=by
  rw[Int.fdiv_eq_ediv_of_nonneg _ (by decide)]
  omega
 rw[h3,wrap_i64 (by omega) (by omega)]
theorem Ff{a b:Int}:gG a b<0↔a<b:=by
 unfold gG
 split
 ·simp[*]
 ·split<;>simp<;>omega
theorem Qs{a b:Int}:(gG a b==0)=(a==b):=by
 unfold gG
 split
 ·have:a≠b:=by omega
  simp[this]
 ·split
  ·have:a≠b:=by omega
   simp[this]
  ·have:a=b:=by omega
   simp[this]
def srt{α:Type}(num:α->Int)(l:List α):Prop:=∀ i j (hi:i<l.length) (hj:j<l.length),i<j->num l[i] <num l[j]
theorem He{α:Type}{num:α->Int}{l:List α}(h:∀ j (h:j<l.length),0<j->num l[j-1] <num l[j]):srt num l:=by
 intro i j hi hj ny
 induction j with
 |zero=>omega
 |succ j ih=>
  have h1:=h (j+1) hj (by omega)
  simp only[Nat.add_sub_cancel]at h1
  rcases Nat.lt_succ_iff_lt_or_eq.1 ny with h2 | rfl
  ·have:=ih (by omega) h2;omega
  ·exact h1
theorem yc{α:Type}[Inhabited α]{chk:α->Bool}{num:α->Int}{l:List α}(h:c9 chk num l=true):srt num l:=He fun j hj h0=>by
 have h1:=pO.1 h j hj
 unfold dB at h1
 rw[cF hj,cF (show j-1<l.length by omega)]at h1
 simp only[Bool.and_eq_true,Bool.or_eq_true,beq_iff_eq,decide_eq_true_eq]at h1
 rcases h1.2 with h2 | h2
 ·omega
 ·exact h2
def cD{α:Type}(num:α->Int)(l:List α)(x:Int):Nat:=(l.takeWhile fun y=>decide (num y<x)).length
def cY{α:Type}(num:α->Int)(l:List α)(x:Int):Bool:=l.any fun y=>num y==x
theorem tT{α:Type}{num:α->Int}{l:List α}{x:Int}{i:Nat}(hi:i<=l.length)(h1:∀ k (h:k<l.length),k<i->num l[k] <x)(h2:∀ k (h:k<l.length),i<=k->x<=num l[k]):cD num l x=i:=by
 unfold cD
 induction l generalizing i with
 |nil=>simp at hi |-;omega
 |cons a r ih=>
  cases i with
  |zero=>
   have :=h2 0 (by simp) (Nat.le_refl _)
   simp only[List.getElem_cons_zero]at this
   have hd:decide (num a<x)=false:=by simp;omega
   simp[hd]
  |succ i=>
   have :=h1 0 (by simp) (by omega)
   simp only[List.getElem_cons_zero]at this
   have hd:decide (num a<x)=true:=by simp;omega
   simp only[List.takeWhile_cons,hd,if_true,List.length_cons]
   rw[ih (by simpa using hi) (fun k hk g'=>by have:=h1 (k+1) (by simpa using hk) (by omega);simpa using this) (fun k hk g'=>by have:=h2 (k+1) (by simpa using hk) (by omega);simpa using this)]
theorem mc{α:Type}{num:α->Int}{l:List α}{x:Int}:cY num l x=true↔∃ k,∃ (h:k<l.length),num l[k]=x:=by
 unfold cY
 rw[List.any_eq_true]
 constructor
 ·rintro⟨y,hy,h⟩
  obtain⟨k,hk,rfl⟩:=List.getElem_of_mem hy
  exact⟨k,hk,by simpa using h⟩
 ·rintro⟨k,hk,h⟩
  exact⟨_,List.getElem_mem hk,by simpa using h⟩
theorem Pc{α:Type}{num:α->Int}{l:List α}{x:Int}{i:Nat}(hs:srt num l)(hi:i<l.length)(h1:∀ k (h:k<l.length),k<i->num l[k] <x)(h2:∀ k (h:k<l.length),i<=k->x<=num l[k]):cY num l x=(num l[i]==x):=by
 rw[Bool.eq_iff_iff,mc]
 simp only[beq_iff_eq]
 constructor
 ·rintro⟨k,hk,e⟩
  rcases Nat.lt_trichotomy k i with h3 | h3 | h3
  ·have:=h1 k hk h3;omega
  ·subst h3;exact e
  ·have:=hs i k hi hk h3
   have :=h2 i hi (Nat.le_refl _)
   omega
 ·intro e
  exact⟨i,hi,e⟩
theorem Pb{α:Type}{num:α->Int}{l:List α}{x:Int}(h1:∀ k (h:k<l.length),num l[k] <x):cY num l x=false:=by
 rw[Bool.eq_false_iff]
 intro h
 obtain⟨k,hk,e⟩:=mc.1 h
 have :=h1 k hk
 omega
noncomputable def Gd:List (Nat×Spec):=[(110,S110)]
theorem Rv:∀ f s,tbl Gd f=some s->an Try.prog f s:=tc M7<|tn
attribute [go_sem] Gd
noncomputable def P109:PSpec:=p2 iG iI (fun _ _=>True) (fun g x=>au (gG g.so x)) true
noncomputable def S109:Spec:=P109.toSpec
attribute [go_sem] P109 S109
theorem IC:aS Try.prog 109 P109:=by
 refine w2 (rs:=[.tmp 4]) Try.func109 Try.ntmps109 (by rfl) (by kernel_rfl) (by decide) (fun _ _ _=>rfl) ⟨_,rfl,lb rfl,fun g x hp hw=>?_⟩
 have hP:=bf
 simp only[iG,iI]at hw |-
 have hΓ:=Rv
 repeat refine sq ?_
 refine rx hΓ [1,2] [[2,0]] (fun K' hK=>by simp only[go_sem];(repeat (refine⟨ai,?_⟩));exact hK _ (by simp only[go_sem]) (by simp only[go_sem]<;>rfl)) ?_
 repeat refine sq ?_
 refine rx hΓ [4] [] (fun K' hK=>by simp only[go_sem];(repeat (refine⟨ai,?_⟩));exact hK _ (by simp only[go_sem]) (by simp only[go_sem]<;>rfl)) ?_
 refine aC ?_
 simp only[go_sem]
 all_goals first | rfl | (simp;done) | (simp_all;done)
theorem M8:an Try.prog 109 S109:=IC.sound
noncomputable def Gc:List (Nat×Spec):=[(109,S109)]
theorem Ru:∀ f s,tbl Gc f=some s->an Try.prog f s:=tc M8<|tn
attribute [go_sem] Gc
noncomputable def P108:PSpec:=p3 kx iI (iF 109) (fun l _ _=>srt Gl.so l) (fun l x _=>.tup [au (cD Gl.so l x),.bool (cY Gl.so l x)]) true
noncomputable def S108:Spec:=P108.toSpec
attribute [go_sem] P108 S108
set_option maxRecDepth 10000 in
set_option maxHeartbeats 4000000 in
theorem ID:aS Try.prog 108 P108:=by
 refine w3 (rs:=[.tmp 6,.tmp 7]) Try.func108 Try.ntmps108 (by rfl) (by kernel_rfl) (by decide) (fun _ _ _ _=>rfl) ⟨_,rfl,lb rfl,fun l x _ hp hw=>?_⟩
 have hP:=bf
 simp only[iF,kx,iI,iC]at hw |-
 have hΓ:=Ru
 have hs:=hp
 have hl:l.length<=maxLen:=by have:=hw.1.1;simpa using this
 repeat refine sq ?_
 refine rx hΓ [0,1,2] [] (fun K' hK=>by simp only[go_sem];(repeat (refine⟨ai,?_⟩));exact hK _ (by simp only[go_sem]) (by simp only[go_sem]<;>rfl)) ?_
 repeat refine sq ?_
 refine rx hΓ [0,1,2,8] [] (fun K' hK=>by simp only[go_sem];(repeat (refine⟨ai,?_⟩));exact hK _ (by simp only[go_sem]) (by simp only[go_sem]<;>rfl)) ?_
 repeat refine sq ?_
 refine rx hΓ [0,1,2,8,9,10] [] (fun K' hK=>by simp only[go_sem];(repeat (refine⟨ai,?_⟩));exact hK _ (by simp only[go_sem]) (by simp only[go_sem]<;>rfl)) ?_
 repeat refine sq ?_
 refine bd ?_
 repeat refine sq ?_
 refine cL (fun ij:Nat×Nat=>[(9,⟨true,.v (au ij.1)⟩),(10,⟨true,.v (au ij.2)⟩)]) (fun i=>[]) (fun ij=>ij.1<=ij.2/\ij.2<=l.length/\(∀ k (h:k<l.length),k<ij.1->Gl.so l[k] <x)/\(∀ k (h:k<l.length),ij.2<=k->x<=Gl.so l[k])) (fun ij=>ij.2-ij.1) (0,l.length) ?_ ?_ ?_ ?_
 ·exact⟨Nat.zero_le _,Nat.le_refl _,fun k h hk=>by omega,fun k h hk=>by omega⟩
 ·rfl
 ·rfl
 rintro⟨i,j⟩ ⟨ny,iS,cI,dK⟩
 simp only[go_sem]
 repeat refine sq ?_
 refine rx hΓ [0,1,2,8,9,10,17] [] (fun K' hK=>by simp only[go_sem];(repeat (refine⟨ai,?_⟩));exact hK _ (by simp only[go_sem]) (by simp only[go_sem]<;>rfl)) ?_
 repeat refine sq ?_
 refine aQ rfl rfl (fun hb=>?_) (fun hb=>?_)
 ·have ae:i<j:=by simpa using hb
  repeat refine sq ?_
  refine aR ?_
  repeat refine sq ?_
  refine bd ?_
  repeat refine sq ?_
  refine rx hΓ [0,1,2,8,9,10,11] [] (fun K' hK=>by simp only[go_sem,JA (show i<=maxLen by omega) (show j<=maxLen by omega)];(repeat (refine⟨ai,?_⟩));exact hK _ (by simp only[go_sem]) (by simp only[go_sem]<;>rfl)) ?_
  obtain⟨h,hh⟩:∃ h,h=(i+j) / 2:=⟨_,rfl⟩
  rw[<-hh]
  have h1:i<=h:=by omega
  have h2:h<j:=by omega
  have h3:h<l.length:=by omega
  have PT:(h:Int)<l.length:=by omega
  repeat refine sq ?_
  refine rx hΓ [0,1,2,8,9,10,11,31] [] (fun K' hK=>by simp only[go_sem,aA h3,Int.toNat_natCast,Int.natCast_nonneg,PT];(repeat (refine⟨ai,?_⟩));exact hK _ (by simp only[go_sem]) (by simp only[go_sem]<;>rfl)) ?_
  repeat refine sq ?_
  refine aQ rfl rfl (fun hb=>?_) (fun hb=>?_)
  ·have hx:Gl.so l[h] <x:=by simpa[Ff]using hb
   repeat refine sq ?_
   refine bw hΓ fun K' hK=>?_
   simp only[go_sem]
   repeat (refine⟨ai,?_⟩)
   refine hK _ ?_
   clear K' hK
   simp only[go_sem]
   refine⟨(h+1,j),⟨by omega,iS,fun k hk vB=>?_,dK⟩,by omega,?_⟩
   ·rcases Nat.lt_succ_iff_lt_or_eq.1 vB with h5 | h5
    ·have:=hs k h hk h3 h5;omega
    ·subst h5;exact hx
   ·refine bN [0,1,2,8,9,10] [] ?_ ?_
    ·simp only[go_sem,aT h3 hl,Int.natCast_add,Int.natCast_one]
    ·simp only[go_sem,aT h3 hl,Int.natCast_add,Int.natCast_one]
  ·have hx:x<=Gl.so l[h]:=by
     have :¬ Gl.so l[h] <x:=by simpa[Ff]using hb
     omega
   repeat refine sq ?_
   refine bw hΓ fun K' hK=>?_
   simp only[go_sem]
   repeat (refine⟨ai,?_⟩)
   refine hK _ ?_
   clear K' hK
   simp only[go_sem]
   refine⟨(i,h),⟨by omega,by omega,cI,fun k hk vB=>?_⟩,by omega,?_⟩
   ·rcases Nat.lt_or_eq_of_le vB with h5 | h5
    ·have:=hs h k h3 hk h5;omega
    ·subst h5;exact hx
   ·refine bN [0,1,2,8,9,10] [] ?_ ?_
    ·simp only[go_sem]
    ·simp only[go_sem]
 ·have he:i=j:=by
    have :¬ (i:Int)<j:=by simpa using hb
    omega
  subst he
  repeat refine sq ?_
  refine cG ?_
  simp only[go_sem]
  refine kp [0,1,2,8,9] [] ?_
  by_cases cJ:i<l.length
  ·have vF:(i:Int)<l.length:=by omega
   repeat refine sq ?_
   refine rx hΓ [6,7] [] (fun K' hK=>by simp only[go_sem,aA cJ,Int.toNat_natCast,Int.natCast_nonneg,vF];(repeat (refine⟨ai,?_⟩));exact hK _ (by simp only[go_sem]) (by simp only[go_sem]<;>rfl)) ?_
   refine aC ?_
   simp only[go_sem]
   rw[tT iS cI dK,Pc hs cJ cI dK]
   simp[Qs]
  ·have cQ:i=l.length:=by omega
   have vF:¬ (i:Int)<l.length:=by omega
   obtain⟨k0,n0,OX⟩:∃ k0 n0,(l.map encGl).getD i default=.int k0 n0:=by
    refine⟨default,default,?_⟩
    rw[List.getD_eq_getElem?_getD,List.getElem?_eq_none (by simp;omega)]
    rfl
   repeat refine sq ?_
   refine rx hΓ [6,7] [] (fun K' hK=>by simp only[go_sem,OX,Int.toNat_natCast,Int.natCast_nonneg,vF];(repeat (refine⟨ai,?_⟩));exact hK _ (by simp only[go_sem]) (by simp only[go_sem]<;>rfl)) ?_
   refine aC ?_
   simp only[go_sem]
   rw[tT iS cI dK,Pb fun k hk=>cI k hk (by omega)]
   simp
theorem M9:an Try.prog 108 S108:=ID.sound
noncomputable def Gb:List (Nat×Spec):=[(108,S108)]
theorem Rt:∀ f s,tbl Gb f=some s->an Try.prog f s:=tc M9<|tn
attribute [go_sem] Gb
noncomputable def P74:PSpec:=p2 iN iI (fun n _=>srt Gl.so n.gl) (fun n x=>.tup [au (cD Gl.so n.gl x),.bool (cY Gl.so n.gl x)]) true
noncomputable def S74:Spec:=P74.toSpec
attribute [go_sem] P74 S74
set_option maxHeartbeats 4000000 in
theorem H5:aS Try.prog 74 P74:=by
 refine w2 (rs:=[.tmp 4,.tmp 5]) Try.func74 Try.ntmps74 (by rfl) (by kernel_rfl) (by decide) (fun _ _ _=>rfl) ⟨_,rfl,lb rfl,fun n x hp hw=>?_⟩
 have hP:=bf
 simp only[iI,iN]at hw |-
 have hΓ:=Rt
 have hs:=hp
 repeat refine sq ?_
 refine rx hΓ [1,2] [[2,0]] (fun K' hK=>by simp only[go_sem];(repeat (refine⟨ai,?_⟩));exact hK _ (by simp only[go_sem]) (by simp only[go_sem]<;>rfl)) ?_
 repeat refine sq ?_
 refine rx hΓ [4,5] [] (fun K' hK=>by simp only[go_sem];(repeat (refine⟨by first | exact hs | exact ai,?_⟩));exact hK _ (by simp only[go_sem]) (by simp only[go_sem]<;>rfl)) ?_
 refine aC ?_
 simp only[go_sem]
 all_goals first | rfl | (simp;done) | (simp_all;done)
theorem CH:an Try.prog 74 S74:=H5.sound
end Go.Eng
