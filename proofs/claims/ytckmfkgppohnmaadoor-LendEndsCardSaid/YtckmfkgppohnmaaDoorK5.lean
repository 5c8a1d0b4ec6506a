import Derived.Test.YtckmfkgppohnmaaDoorK4
import Derived.Laws.Bits64
import Derived.KernelRfl
import Derived.Test.YtckmfkgppohnmaaDoorProg
import Derived.Shelf.Strings.BuilderK
import Derived.Shelf.Strconv.Itoa3
import Derived.WalkKit
import Derived.BigCall
import Derived.Lib.ItoaLen
/- Texts EngGd to NW6. -/
set_option linter.all false
namespace Go.Eng
open Go
theorem QJ{σ:S}(b nm:Name)(i sz:Nat)(cs:List D)(hb:σ.obj b=some (.box cs))(hi:cs[i]?=some .nilsl)(hn:σ.obj nm=none):
 dC σ ⟨σ.nt,σ.env,upd (upd σ.obj nm (some (.arr sz []))) b (some (.box (cs.set i (.msl nm 0)))),σ.pre,σ.base⟩:=by
 intro G φ m a w hC
 have aj:b≠nm:=fun e=>by subst e;rw[hb]at hn;cases hn
 obtain⟨h1,h2,h3,us,T,f,h4,h5,h6,h7⟩:=hC.objs b _ hb
 obtain⟨fD,Em⟩:=List.getElem?_eq_some_iff.1 hi
 have h0:i<us.size:=by omega
 have h8:=h7 i fD h0
 rw[Em]at h8
 generalize hu:us[i]=u at h8
 cases h8 with
 |nilsl b'=>
 have hx:=Ext.new (φ:=φ) hn ⟨0,0,0,true,b'⟩ (.arr sz [])
 have bW:=hC.chg (w':=w) nm (.arr sz []) ⟨0,0,0,true,b'⟩ hx ⟨rfl,rfl,rfl,Nat.le_refl _⟩ (fun _ _ _=>rfl) (fun h=>by cases h) (.inl ⟨rfl,rfl⟩)
 have da:(upd σ.obj nm (some (.arr sz []))) b=some (.box cs):=by rw[aK _ _ _ aj];exact hb
 have hφ:(upd φ nm ⟨0,0,0,true,b'⟩) b=φ b:=aK _ _ _ aj
 have lA:=Ext.same (φ:=upd φ nm ⟨0,0,0,true,b'⟩) (o':=.box (cs.set i (.msl nm 0))) da rfl rfl
 refine⟨_,bW.chg (w':=w) b (.box (cs.set i (.msl nm 0))) _ lA ⟨rfl,rfl,rfl,Nat.le_refl _⟩ (fun _ _ _=>rfl) (fun _=>.inr ⟨⟨_,da,rfl,by rw[hφ];exact h2⟩,rfl⟩) ?_⟩
 rw[fa,hφ]
 have al:(upd (upd σ.obj nm (some (.arr sz []))) b (some (.box (cs.set i (.msl nm 0))))) nm=some (.arr sz []):=by rw[aK _ _ _ aj.symm,aG]
 refine⟨h1,h2,fun d hd=>?_,us,T,f,h4,h5,by simpa using h6,fun j hj gl=>?_⟩
 ·rcases List.mem_or_eq_of_mem_set hd with h | h
  ·exact h3 d h
  ·subst h;rfl
 ·simp only[List.length_set]at hj
  rw[List.getElem_set]
  by_cases ix:i=j
  ·subst ix
   rw[if_pos rfl,hu]
   refine .msl _ _ _ ⟨_,_,al,rfl,by simp,fun _=>?_⟩ rfl
   rw[aG];rfl
  ·rw[if_neg ix]
   have :=h7 j hj gl
   exact(this.ext (Mem.le_refl m) hx).ext (Mem.le_refl m) (by rw[fa]at lA;exact lA)
theorem QP{σ τ:S}(b nm:Name)(i sz:Nat)(cs:List D)(hb:σ.obj b=some (.box cs))(hi:cs[i]?=some .nilsl)(hn:σ.obj nm=none)(ks:List Nat)(ns:List Name)
 (h:gq ks ns ⟨σ.nt,σ.env,upd (upd σ.obj nm (some (.arr sz []))) b (some (.box (cs.set i (.msl nm 0)))),σ.pre,σ.base⟩)
 (hk:gy ks ns ⟨σ.nt,σ.env,upd (upd σ.obj nm (some (.arr sz []))) b (some (.box (cs.set i (.msl nm 0)))),σ.pre,σ.base⟩=τ):eZ σ τ:=
 (QJ b nm i sz cs hb hi hn).toM.trans (pq ks ns h hk)
def mM:List D->Option (List V)
 |[]=>some []
 |d::r=>match dX d,mM r with
  |some x,some xs=>some (x::xs)
  |_,_=>none
theorem Ph:∀ {ds:List D} {xs:List V},mM ds=some xs->xs.length=ds.length
 |[],xs,h=>by cases h;rfl
 |d::r,xs,h=>by
  unfold mM at h
  split at h
  ·rename_i h2
   cases h
   simp[Ph h2]
  ·cases h
theorem Pf{φ:Name->Loc}{obj:Name->Option O}{m:Mem}:∀ {ds:List D} {xs:List V},mM ds=some xs->∀ (i:Nat) (h:i<ds.length) (h':i<xs.length) (u:Value),ar φ obj m ds[i] u->aB m xs[i] u
 |[],xs,h,i,hi,_,_,_=>by simp at hi
 |d::r,xs,h,i,hi,bA,u,hr=>by
  unfold mM at h
  split at h
  ·rename_i x ys h1 h2
   cases h
   cases i with
   |zero=>exact nN hr h1
   |succ i=>exact Pf h2 i (by simpa using hi) (by simpa using bA) u hr
  ·cases h
theorem CD{app:(Name->Option O)->Name->List D->R}{foot:(Name->Option O)->Name->List D->List Name}
 (h:∀ obj obj2 t ds,bq (foot obj t ds) obj obj2->foot obj2 t ds=foot obj t ds/\bD (app obj t ds) (app obj2 t ds) obj obj2 (foot obj t ds)):Spec.Near ⟨app,foot,foot⟩:=
 ⟨fun obj obj2 t ds ha=>(h obj obj2 t ds ha).2,fun obj obj2 t ds ha=>(h obj obj2 t ds ha).1,fun _ _ _ _ hn=>hn,fun obj obj2 t ds ha=>(h obj obj2 t ds ha).1⟩
theorem BK{P:Program}{f:FuncId}{s s':Spec}(h:an P f s)(hn:s'.Near)(aj:f≠yid)
 (heq:∀ obj t ds,(s'.app obj t ds).ok->∃ mB,mB.length=ds.length/\(∀ (φ:Name->Loc) (m:Mem) (us:Array Value),ds.length=us.size->(∀ i (h:i<ds.length) (h':i<us.size),ar φ obj m ds[i] us[i])->∀ i (h:i<mB.length) (h':i<us.size),ar φ obj m mB[i] us[i])/\
   (s.app obj t mB).ok/\(s.app obj t mB).d=(s'.app obj t ds).d/\(s.app obj t mB).obj=(s'.app obj t ds).obj):an P f s':=by
 refine⟨hn,h.enter,fun aj G φ m σ a w hC t ds us ht hl hr aa=>?_,fun e=>(aj e).elim⟩
 obtain⟨mB,h0,DM,h1,h2,h3⟩:=heq _ _ _ aa
 have :=h.calls aj G φ m σ a w hC t mB us ht (h0.trans hl) (DM φ m us hl hr) h1
 rw[h2,h3]at this
 exact this
structure NSpec where
 pre:List V->Prop
 new:List V->List (Name×O)
 d:List V->D
def NSpec.app(s:NSpec)(obj:Name->Option O)(t:Name)(ds:List D):R:=match mM ds with
 |some xs=>⟨fresh obj t (s.new xs)=true/\s.pre xs,(s.d xs).ren (cout [] t),dd [] t (s.new xs) obj⟩
 |none=>.bad obj
def NSpec.foot(s:NSpec)(_:Name->Option O)(t:Name)(ds:List D):List Name:=match mM ds with
 |some xs=>(s.new xs).map fun x=>x.1++t
 |none=>[]
def NSpec.toSpec(s:NSpec):Spec:=⟨s.app,s.foot,s.foot⟩
def NSpec.c(s:NSpec):CSpec where
 pre:=fun os ds=>os=[]/\∃ xs,ds=xs.map .v/\s.pre xs
 out:=fun _ ds=>match mM ds with
  |some xs=>⟨[],s.new xs,s.d xs⟩
  |none=>⟨[],[],.any⟩
theorem Gv:∀ xs:List V,mM (xs.map .v)=some xs
 |[]=>rfl
 |x::r=>by simp[mM,dX,Gv r]
theorem NSpec.near(s:NSpec):s.toSpec.Near:=by
 refine CD fun obj obj2 t ds ha=>⟨rfl,?_⟩
 unfold NSpec.foot at ha |-
 unfold NSpec.app
 split
 ·rename_i xs h
  simp only[h]at ha
  have cp:fresh obj2 t (s.new xs)=fresh obj t (s.new xs):=Aq ha
  have :=CT (ok:=fresh obj t (s.new xs)=true/\s.pre xs) (ok2:=fresh obj2 t (s.new xs)=true/\s.pre xs) (d:=(s.d xs).ren (cout [] t)) (obj:=obj) (obj2:=obj2) (L:=[]) (t:=t) (o:=⟨[],s.new xs,s.d xs⟩) (by rw[cp]) (by simpa using ha)
  simpa[cj]using this
 ·exact .none _ (fun _ h=>by cases h)
theorem Jc:∀ xs:List V,dS (xs.map .v)=[]
 |[]=>rfl
 |x::r=>by simp only[List.map_cons,dS,vO,List.nil_append];exact Jc r
theorem Ic(obj:Name->Option O)(xs:List V):reach obj (xs.map .v)=[]:=by
 unfold reach
 rw[Jc]
 rfl
theorem H5(f:Name->Name):∀ xs:List V,D.renL f (xs.map .v)=xs.map .v
 |[]=>rfl
 |x::r=>by simp only[List.map_cons,D.renL,D.ren];rw[H5 f r]
theorem Oa(p:Name->Bool):∀ xs:List V,D.closL p (xs.map .v)=true
 |[]=>rfl
 |x::r=>by simp only[List.map_cons,D.closL,D.clos,Bool.true_and];exact Oa p r
theorem NSpec.sound{P:Program}{f:FuncId}{s:NSpec}(h:an P f s.c.toSpec)(aj:f≠yid):an P f s.toSpec:=by
 refine BK h s.near aj fun obj t ds aa=>?_
 have jk:(s.app obj t ds).ok:=aa
 show ∃ mB,_/\_/\_/\_=(s.app obj t ds).d/\_=(s.app obj t ds).obj
 unfold NSpec.app at jk |-
 split at jk
 ·rename_i xs hx
  have hlen:=Ph hx
  refine⟨xs.map .v,by simpa using hlen,fun φ m us hl hr i h1 h2=>?_,?_⟩
  ·simp only[List.length_map]at h1
   simp only[List.getElem_map]
   exact .v _ _ (Pf hx i (by omega) h1 _ (hr i (by omega) h2))
  ·have e1:cv obj (xs.map .v)=[]:=by unfold cv;rw[Ic];rfl
   have e2:cO obj (xs.map .v)=xs.map .v:=by unfold cO;rw[H5]
   have e3:s.c.out [] (xs.map .v)=⟨[],s.new xs,s.d xs⟩:=by simp only[NSpec.c,Gv]
   have e4:s.c.pre [] (xs.map .v):=⟨rfl,xs,rfl,jk.2⟩
   have e5:(shut obj []&&D.closL (cK []) (xs.map .v)&&fresh obj t (s.new xs))=true:=by
    rw[Oa,jk.1];rfl
   simp only[CSpec.toSpec,e1,e2,Ic,e3,e4,e5,and_self,cj]
 ·exact jk.elim
theorem I9{P:Program}{f:FuncId}{fn:Func}{c:Code}{s:NSpec}{nt:Nat}{rs:List ResultVar}(hf:P.funcs[f]?=some fn)(hb:fn.body=some c)(ff:fn.ntmps=nt)(fJ:fn.results.toList=rs)
 (hn:(fn.name== "runtime.NumGoroutine")=false) (hy:f<1000000000)
 (h:∀ xs,s.pre xs->xs.length<=nt/\CL P [c] (aW nt [0] (fun _=>none) (fH 0 (xs.map .v)) []) (vB P rs [] ⟨[],s.new xs,s.d xs⟩)):an P f s.toSpec:=by
 have aj:f≠yid:=Nat.ne_of_lt (show f<yid from hy)
 refine NSpec.sound (o6 hf hb ff fJ (js hf hb hn) aj ?_) aj
 rintro os ds ⟨rfl,xs,rfl,hp⟩
 obtain⟨h1,h2⟩:=h xs hp
 have hH:a8 []=fun _=>none:=by funext nm;unfold a8;split<;>rfl
 have e3:s.c.out [] (xs.map .v)=⟨[],s.new xs,s.d xs⟩:=by simp only[NSpec.c,Gv]
 rw[hH,e3]
 exact⟨by simpa using h1,lF h2⟩
attribute [go_sem] Nat.reduceLeDiff Nat.le_refl Nat.reduceLT Nat.reduceAdd Nat.reduceEqDiff Nat.reduceSub Nat.reduceMul Nat.reduceBEq reduceIte reduceCtorEq
abbrev vInt (n:Int):V:=.int .i64 n
theorem lb{a b:Nat}(h:Nat.ble a b=true):a<=b:=Nat.le_of_ble_eq_true h
theorem sq{P:Program}{x y:Code}{r:List Code}{σ:S}{K:Exit->S->Prop}(h:CL P (x::y::r) σ K):CL P (.seq x y::r) σ K:=abC h
theorem ob{p:Prop}(h:p:=by first | exact Bool.or_not_self _ | trivial | (unfold maxLen;omega) | exact Bool.not_or_self _ | exact fun _=>by decide | exact fun h=>⟨h,by decide⟩ | omega | ((repeat' apply And.intro)<;>first | rfl | omega | (unfold maxLen;omega) | trivial) | (simp only[decide_eq_true_eq];omega) | exact⟨_,rfl⟩ | exact fun h=>⟨h,_,rfl⟩ | exact⟨_,_,rfl⟩ | exact fun h=>⟨h,_,_,rfl⟩ | exact fun h=>⟨h,_,_,_,rfl⟩ | exact⟨_,_,_,_,rfl⟩ | exact fun h=>⟨h,_,_,_,_,rfl⟩ | exact⟨[_,_],rfl⟩ | (simp only[Bool.decide_and,Bool.decide_eq_true];exact Bool.not_or_self _) | (simp;done) | (simp_all;done) | (simp_all;omega) | (grind)):p:=h
theorem rs{P:Program}{Γ:FuncId->Option Spec}(hΓ:∀ f s,Γ f=some s->an P f s){id:Nat}{l:List Oper}{c:Code}{r:List Code}{σ τ:S}{K:Exit->S->Prop}(ks:List Nat)(ns:List Name)(h:CL P (c::r) τ K)
 (h':∀ K':S->Prop,(∀ σ',gq ks ns σ'->gy ks ns σ'=τ->K' σ')->nQ P Γ l.toArray l σ K':=by intro K' hK;simp only[go_sem];(repeat (refine⟨ob,?_⟩));exact hK _ (by simp only[go_sem]) (by simp only[go_sem]<;>rfl)):CL P (.region id l.toArray false::c::r) σ K:=
 AR hΓ ks ns fun K' hK=>h' K' fun σ' hc he=>hK σ' hc (he▸h)
theorem rx{P:Program}{Γ:FuncId->Option Spec}(hΓ:∀ f s,Γ f=some s->an P f s){id:Nat}{l:List Oper}{c:Code}{r:List Code}{σ τ:S}{K:Exit->S->Prop}(ks:List Nat)(ns:List Name)
 (h':∀ K':S->Prop,(∀ σ',gq ks ns σ'->gy ks ns σ'=τ->K' σ')->nQ P Γ l.toArray l σ K') (h:CL P (c::r) τ K):CL P (.region id l.toArray false::c::r) σ K:=
 AR hΓ ks ns fun K' hK=>h' K' fun σ' hc he=>hK σ' hc (he▸h)
theorem dx{P:Program}{Γ:FuncId->Option Spec}(hΓ:∀ f s,Γ f=some s->an P f s)(hP:P.follows .mixedOrders=true)(az:List (List Nat)){id:Nat}{l:List Oper}{c:Code}{r:List Code}{σ τ:S}{K:Exit->S->Prop}(ks:List Nat)(ns:List Name)
 (hs:vr l.toArray az=true) (h':∀ K':S->Prop,(∀ σ',gq ks ns σ'->gy ks ns σ'=τ->K' σ')->qG P Γ l.toArray 0 az l [] σ K') (h:CL P (c::r) τ K):CL P (.region id l.toArray true::c::r) σ K:=
 abH hΓ hP az ks ns hs fun K' hK=>h' K' fun σ' hc he=>hK σ' hc (he▸h)
theorem kp{P:Program}{c:Code}{r:List Code}{σ τ:S}{K:Exit->S->Prop}(ks:List Nat)(ns:List Name)(hc:CL P (c::r) τ K)(h:gq ks ns σ:=by simp only[go_sem])(he:gy ks ns σ=τ:=by simp only[go_sem]<;>rfl):CL P (c::r) σ K:=
 kz ks ns h (he▸hc)
def tbl:List (Nat×Spec)->FuncId->Option Spec
 |[],_=>none
 |(g,s)::r,f=>if f=g then some s else tbl r f
theorem tn{P:Program}:∀ f s,tbl [] f=some s->an P f s:=fun _ _ h=>by cases h
theorem tc{P:Program}{g:Nat}{s0:Spec}{r:List (Nat×Spec)}(h:an P g s0)(hr:∀ f s,tbl r f=some s->an P f s):∀ f s,tbl ((g,s0)::r) f=some s->an P f s:=by
 intro f s hf
 unfold tbl at hf
 split at hf
 ·rename_i e
  cases hf
  subst e
  exact h
 ·exact hr f s hf
attribute [go_sem] tbl
theorem vF{P:Program}{f:FuncId}{fn:Func}{s:PSpec}{nt:Nat}{rs:List ResultVar}(hf:P.funcs[f]?=some fn)(ff:fn.ntmps=nt)(fJ:fn.results.toList=rs)(hn:(fn.name== "runtime.NumGoroutine")=false)(hy:f<1000000000)
 (gm:s.flat=true->∀ xs,s.pre xs->(s.fn xs).flat=true)
 (hb:∃ c,fn.body=some c/\∀ xs,s.pre xs->V.wfL xs->xs.length<=nt/\CL P [c] (aW nt [0] (fun _=>none) (gI 0 xs) []) (py P rs (s.fn xs))):aZ P f s:=by
 obtain⟨c,hc,h⟩:=hb
 exact Io hf hc ff fJ (js hf hc hn) (Nat.ne_of_lt (show f<yid from hy)) gm fun xs hp hw=>⟨(h xs hp hw).1,lF (h xs hp hw).2⟩
structure En (α:Type) where
 enc:α->V
 dec:V->α
def NQ{α:Type}(d:V->α):V->List α
 | .sl l=>l.map d
 |_=>[]
def Dj{α:Type}(e:En α):En (List α):=⟨fun l=>.sl (l.map e.enc),NQ e.dec⟩
def iC(v:V):En Unit:=⟨fun _=>v,fun _=>()⟩
def iF(n:Nat):En Unit:=iC (.clo (.func n) [] [])
def p1{α:Type}(A:En α)(p:α->Prop)(g:α->V)(fl:Bool):PSpec:=
 ⟨fun xs=>match xs with | [x]=>A.enc (A.dec x)=x/\p (A.dec x) | _=>False,fun xs=>match xs with | [x]=>g (A.dec x) | _=>.bool false,fl⟩
def p2{α β:Type}(A:En α)(B:En β)(p:α->β->Prop)(g:α->β->V)(fl:Bool):PSpec:=
 ⟨fun xs=>match xs with | [x,y]=>A.enc (A.dec x)=x/\B.enc (B.dec y)=y/\p (A.dec x) (B.dec y) | _=>False,fun xs=>match xs with | [x,y]=>g (A.dec x) (B.dec y) | _=>.bool false,fl⟩
def p3{α β γ:Type}(A:En α)(B:En β)(C:En γ)(p:α->β->γ->Prop)(g:α->β->γ->V)(fl:Bool):PSpec:=
 ⟨fun xs=>match xs with | [x,y,z]=>A.enc (A.dec x)=x/\B.enc (B.dec y)=y/\C.enc (C.dec z)=z/\p (A.dec x) (B.dec y) (C.dec z) | _=>False,
  fun xs=>match xs with | [x,y,z]=>g (A.dec x) (B.dec y) (C.dec z) | _=>.bool false,fl⟩
def p4{α β γ δ:Type}(A:En α)(B:En β)(C:En γ)(D:En δ)(p:α->β->γ->δ->Prop)(g:α->β->γ->δ->V)(fl:Bool):PSpec:=
 ⟨fun xs=>match xs with | [x,y,z,u]=>A.enc (A.dec x)=x/\B.enc (B.dec y)=y/\C.enc (C.dec z)=z/\D.enc (D.dec u)=u/\p (A.dec x) (B.dec y) (C.dec z) (D.dec u) | _=>False,
  fun xs=>match xs with | [x,y,z,u]=>g (A.dec x) (B.dec y) (C.dec z) (D.dec u) | _=>.bool false,fl⟩
theorem yE{α:Type}{A:En α}{p:α->Prop}{g:α->V}{fl:Bool}{xs:List V}(h:(p1 A p g fl).pre xs):∃ a,xs=[A.enc a]/\p a/\(p1 A p g fl).fn xs=g a:=by
 unfold p1 at h
 simp only at h
 split at h
 ·exact⟨_,by rw[h.1],h.2,rfl⟩
 ·exact h.elim
theorem Cp{α β:Type}{A:En α}{B:En β}{p:α->β->Prop}{g:α->β->V}{fl:Bool}{xs:List V}(h:(p2 A B p g fl).pre xs):∃ a b,xs=[A.enc a,B.enc b]/\p a b/\(p2 A B p g fl).fn xs=g a b:=by
 unfold p2 at h
 simp only at h
 split at h
 ·exact⟨_,_,by rw[h.1,h.2.1],h.2.2,rfl⟩
 ·exact h.elim
theorem IG{α β γ:Type}{A:En α}{B:En β}{C:En γ}{p:α->β->γ->Prop}{g:α->β->γ->V}{fl:Bool}{xs:List V}(h:(p3 A B C p g fl).pre xs):
 ∃ a b c,xs=[A.enc a,B.enc b,C.enc c]/\p a b c/\(p3 A B C p g fl).fn xs=g a b c:=by
 unfold p3 at h
 simp only at h
 split at h
 ·exact⟨_,_,_,by rw[h.1,h.2.1,h.2.2.1],h.2.2.2,rfl⟩
 ·exact h.elim
theorem IF{α β γ δ:Type}{A:En α}{B:En β}{C:En γ}{D:En δ}{p:α->β->γ->δ->Prop}{g:α->β->γ->δ->V}{fl:Bool}{xs:List V}(h:(p4 A B C D p g fl).pre xs):
 ∃ a b c d,xs=[A.enc a,B.enc b,C.enc c,D.enc d]/\p a b c d/\(p4 A B C D p g fl).fn xs=g a b c d:=by
 unfold p4 at h
 simp only at h
 split at h
 ·exact⟨_,_,_,_,by rw[h.1,h.2.1,h.2.2.1,h.2.2.2.1],h.2.2.2.2,rfl⟩
 ·exact h.elim
theorem T5{α:Type}{A:En α}{p:α->Prop}{g:α->V}{fl:Bool}(hg:∀ a,(g a).flat=true):(p1 A p g fl).flat=true->∀ xs,(p1 A p g fl).pre xs->((p1 A p g fl).fn xs).flat=true:=by
 intro _ xs h
 obtain⟨a,_,_,e⟩:=yE h
 rw[e];exact hg _
theorem IH{α β:Type}{A:En α}{B:En β}{p:α->β->Prop}{g:α->β->V}{fl:Bool}(hg:∀ a b,(g a b).flat=true):(p2 A B p g fl).flat=true->∀ xs,(p2 A B p g fl).pre xs->((p2 A B p g fl).fn xs).flat=true:=by
 intro _ xs h
 obtain⟨a,b,_,_,e⟩:=Cp h
 rw[e];exact hg _ _
theorem T4{α β γ:Type}{A:En α}{B:En β}{C:En γ}{p:α->β->γ->Prop}{g:α->β->γ->V}{fl:Bool}(hg:∀ a b c,(g a b c).flat=true):
 (p3 A B C p g fl).flat=true->∀ xs,(p3 A B C p g fl).pre xs->((p3 A B C p g fl).fn xs).flat=true:=by
 intro _ xs h
 obtain⟨a,b,c,_,_,e⟩:=IG h
 rw[e];exact hg _ _ _
theorem T3{α β γ δ:Type}{A:En α}{B:En β}{C:En γ}{D:En δ}{p:α->β->γ->δ->Prop}{g:α->β->γ->δ->V}{fl:Bool}(hg:∀ a b c d,(g a b c d).flat=true):
 (p4 A B C D p g fl).flat=true->∀ xs,(p4 A B C D p g fl).pre xs->((p4 A B C D p g fl).fn xs).flat=true:=by
 intro _ xs h
 obtain⟨a,b,c,d,_,_,e⟩:=IF h
 rw[e];exact hg _ _ _ _
attribute [go_sem] p1 p2 p3 p4 NQ Dj iC iF PSpec.toSpec yid Option.bind_some Option.bind_none
theorem nk{P:Program}:∀ f s,(fun _=>none:FuncId->Option Spec) f=some s->an P f s:=fun f s h=>by cases h
theorem getD_at{α:Type}{l:List α}{i:Nat}{z:α}(h:i<l.length):l.getD i z=l[i]:=by
 simp[List.getD,h]
theorem vK{os:List O}(hc:∀ o∈os,∀ dom:Name->Bool,(∀ i,dom [i,1]=true)->O.clos dom o=true)(hs:List (Name×O)):bU [0] (bL [0] hs) (a8 os):=by
 intro nm o hn h
 unfold a8 at h
 split at h
 ·rename_i i
  refine hc o (List.mem_of_getElem? h) _ fun i=>?_
  simp only[bL,vJ,Bool.not_false,Bool.true_or]
 ·cases h
def n1{α:Type}(A:En α)(p:α->Prop)(new:α->List (Name×O))(d:α->D):NSpec:=
 ⟨fun xs=>match xs with | [x]=>A.enc (A.dec x)=x/\p (A.dec x) | _=>False,fun xs=>match xs with | [x]=>new (A.dec x) | _=>[],fun xs=>match xs with | [x]=>d (A.dec x) | _=>.any⟩
def n2{α β:Type}(A:En α)(B:En β)(p:α->β->Prop)(new:α->β->List (Name×O))(d:α->β->D):NSpec:=
 ⟨fun xs=>match xs with | [x,y]=>A.enc (A.dec x)=x/\B.enc (B.dec y)=y/\p (A.dec x) (B.dec y) | _=>False,fun xs=>match xs with | [x,y]=>new (A.dec x) (B.dec y) | _=>[],fun xs=>match xs with | [x,y]=>d (A.dec x) (B.dec y) | _=>.any⟩
theorem Jd{α:Type}{A:En α}{p:α->Prop}{new:α->List (Name×O)}{d:α->D}{xs:List V}(h:(n1 A p new d).pre xs):∃ a,xs=[A.enc a]/\p a/\(n1 A p new d).new xs=new a/\(n1 A p new d).d xs=d a:=by
 unfold n1 at h
 simp only at h
 split at h
 ·exact⟨_,by rw[h.1],h.2,rfl,rfl⟩
 ·exact h.elim
attribute [go_sem] n1 n2 NSpec.toSpec NSpec.app mM dd cout D.ren D.renL O.ren fresh
section
variable {P:Program} {f:FuncId} {fn:Func} {nt:Nat} {rs:List ResultVar}
theorem w1{α:Type}{A:En α}{p:α->Prop}{g:α->V}{fl:Bool}(hf:P.funcs[f]?=some fn)(ff:fn.ntmps=nt)(fJ:fn.results.toList=rs)(hn:(fn.name== "runtime.NumGoroutine")=false)(hy:f<1000000000)
 (gm:fl=true->∀ a,(g a).flat=true) (hb:∃ c,fn.body=some c/\1<=nt/\∀ a,p a->V.wfL [A.enc a]->CL P [c] (aW nt [0] (fun _=>none) (gI 0 [A.enc a]) []) (py P rs (g a))):aZ P f (p1 A p g fl):=by
 obtain⟨c,hc,h1,h⟩:=hb
 refine vF hf ff fJ hn hy (fun e=>T5 (gm e) e) ⟨c,hc,fun xs hp hw=>?_⟩
 obtain⟨a,rfl,hp,hg⟩:=yE hp
 rw[hg]
 exact⟨h1,h a hp hw⟩
theorem w2{α β:Type}{A:En α}{B:En β}{p:α->β->Prop}{g:α->β->V}{fl:Bool}(hf:P.funcs[f]?=some fn)(ff:fn.ntmps=nt)(fJ:fn.results.toList=rs)(hn:(fn.name== "runtime.NumGoroutine")=false)(hy:f<1000000000)
 (gm:fl=true->∀ a b,(g a b).flat=true) (hb:∃ c,fn.body=some c/\2<=nt/\∀ a b,p a b->V.wfL [A.enc a,B.enc b]->CL P [c] (aW nt [0] (fun _=>none) (gI 0 [A.enc a,B.enc b]) []) (py P rs (g a b))):aZ P f (p2 A B p g fl):=by
 obtain⟨c,hc,h1,h⟩:=hb
 refine vF hf ff fJ hn hy (fun e=>IH (gm e) e) ⟨c,hc,fun xs hp hw=>?_⟩
 obtain⟨a,b,rfl,hp,hg⟩:=Cp hp
 rw[hg]
 exact⟨h1,h a b hp hw⟩
theorem w3{α β γ:Type}{A:En α}{B:En β}{C:En γ}{p:α->β->γ->Prop}{g:α->β->γ->V}{fl:Bool}(hf:P.funcs[f]?=some fn)(ff:fn.ntmps=nt)(fJ:fn.results.toList=rs)(hn:(fn.name== "runtime.NumGoroutine")=false)(hy:f<1000000000)
 (gm:fl=true->∀ a b c,(g a b c).flat=true) (hb:∃ c,fn.body=some c/\3<=nt/\∀ a b d,p a b d->V.wfL [A.enc a,B.enc b,C.enc d]->CL P [c] (aW nt [0] (fun _=>none) (gI 0 [A.enc a,B.enc b,C.enc d]) []) (py P rs (g a b d))):aZ P f (p3 A B C p g fl):=by
 obtain⟨c,hc,h1,h⟩:=hb
 refine vF hf ff fJ hn hy (fun e=>T4 (gm e) e) ⟨c,hc,fun xs hp hw=>?_⟩
 obtain⟨a,b,d,rfl,hp,hg⟩:=IG hp
 rw[hg]
 exact⟨h1,h a b d hp hw⟩
theorem w4{α β γ δ:Type}{A:En α}{B:En β}{C:En γ}{E:En δ}{p:α->β->γ->δ->Prop}{g:α->β->γ->δ->V}{fl:Bool}(hf:P.funcs[f]?=some fn)(ff:fn.ntmps=nt)(fJ:fn.results.toList=rs)(hn:(fn.name== "runtime.NumGoroutine")=false)(hy:f<1000000000)
 (gm:fl=true->∀ a b c d,(g a b c d).flat=true) (hb:∃ c,fn.body=some c/\4<=nt/\∀ a b d e,p a b d e->V.wfL [A.enc a,B.enc b,C.enc d,E.enc e]->CL P [c] (aW nt [0] (fun _=>none) (gI 0 [A.enc a,B.enc b,C.enc d,E.enc e]) []) (py P rs (g a b d e))):aZ P f (p4 A B C E p g fl):=by
 obtain⟨c,hc,h1,h⟩:=hb
 refine vF hf ff fJ hn hy (fun e=>T3 (gm e) e) ⟨c,hc,fun xs hp hw=>?_⟩
 obtain⟨a,b,d,e,rfl,hp,hg⟩:=IF hp
 rw[hg]
 exact⟨h1,h a b d e hp hw⟩
end
open Go Go.Proofs
attribute [go_sem] pf
@[go_sem] theorem Hg:bd Tryd.prog 0=some (false,1):=by kernel_rfl
@[go_sem] theorem Hf:bd Tryd.prog 3=some (false,1):=by kernel_rfl
@[go_sem] theorem ti3:lY Tryd.prog 3=some .i64:=by kernel_rfl
@[go_sem] theorem Q2:be Tryd.prog 3=some (.int .i64 0):=by kernel_rfl
@[go_sem] theorem ta4:bd Tryd.prog 4=some (false,1):=by kernel_rfl
@[go_sem] theorem tz4:be Tryd.prog 4=some (.bool false):=by kernel_rfl
@[go_sem] theorem ta5:bd Tryd.prog 5=some (false,1):=by kernel_rfl
@[go_sem] theorem ti5:lY Tryd.prog 5=some .u8:=by kernel_rfl
@[go_sem] theorem tz5:be Tryd.prog 5=some (.int .u8 0):=by kernel_rfl
@[go_sem] theorem ta9:bd Tryd.prog 9=some (false,1):=by kernel_rfl
@[go_sem] theorem tl9:dD Tryd.prog 9=some 1:=by kernel_rfl
@[go_sem] theorem tz9:be Tryd.prog 9=some (.string ⟨#[]⟩):=by kernel_rfl
@[go_sem] theorem afJ:bd Tryd.prog 22=some (false,1):=by kernel_rfl
@[go_sem] theorem afb:bI Tryd.prog 22=some (31,5,40):=by kernel_rfl
@[go_sem] theorem aeE:dD Tryd.prog 22=some 0:=by kernel_rfl
@[go_sem] theorem ad8:be Tryd.prog 22=some (.slice none 0 0):=by kernel_rfl
@[go_sem] theorem afI:bd Tryd.prog 23=some (false,1):=by kernel_rfl
@[go_sem] theorem afa:bI Tryd.prog 23=some (44,63,840):=by kernel_rfl
@[go_sem] theorem aeD:dD Tryd.prog 23=some 0:=by kernel_rfl
@[go_sem] theorem ad7:be Tryd.prog 23=some (.slice none 0 0):=by kernel_rfl
@[go_sem] theorem afH:bd Tryd.prog 24=some (false,1):=by kernel_rfl
@[go_sem] theorem ae':bI Tryd.prog 24=some (54,4,48):=by kernel_rfl
@[go_sem] theorem aeC:dD Tryd.prog 24=some 0:=by kernel_rfl
@[go_sem] theorem ad6:be Tryd.prog 24=some (.slice none 0 0):=by kernel_rfl
@[go_sem] theorem afG:bd Tryd.prog 26=some (true,2):=by kernel_rfl
@[go_sem] theorem aex:jd Tryd.prog 26=some [(0,1),(1,1)]:=by kernel_rfl
@[go_sem] theorem ad5:be Tryd.prog 26=some (.agg #[(.slice none 0 0),(.slice none 0 0)]):=by kernel_rfl
@[go_sem] theorem ae6:cT Tryd.prog 26 0=some (0,1,false):=by kernel_rfl
@[go_sem] theorem ae5:cT Tryd.prog 26 1=some (1,1,false):=by kernel_rfl
@[go_sem] theorem afF:bd Tryd.prog 27=some (false,1):=by kernel_rfl
@[go_sem] theorem afE:bd Tryd.prog 31=some (true,5):=by kernel_rfl
@[go_sem] theorem aew:jd Tryd.prog 31=some [(0,1),(1,1),(2,1),(3,1),(4,1)]:=by kernel_rfl
@[go_sem] theorem ad4:be Tryd.prog 31=some (.agg #[(.int .i64 0),(.int .i64 0),(.int .i64 0),(.int .i64 0),(.int .i64 0)]):=by kernel_rfl
@[go_sem] theorem ae4:cT Tryd.prog 31 0=some (0,1,false):=by kernel_rfl
@[go_sem] theorem ae3:cT Tryd.prog 31 1=some (1,1,false):=by kernel_rfl
@[go_sem] theorem ae2:cT Tryd.prog 31 2=some (2,1,false):=by kernel_rfl
@[go_sem] theorem ae1:cT Tryd.prog 31 3=some (3,1,false):=by kernel_rfl
@[go_sem] theorem ae0:cT Tryd.prog 31 4=some (4,1,false):=by kernel_rfl
@[go_sem] theorem afD:bd Tryd.prog 34=some (false,1):=by kernel_rfl
@[go_sem] theorem Re:bI Tryd.prog 34=some (3,1,8):=by kernel_rfl
@[go_sem] theorem aeB:dD Tryd.prog 34=some 0:=by kernel_rfl
@[go_sem] theorem ad3:be Tryd.prog 34=some (.slice none 0 0):=by kernel_rfl
@[go_sem] theorem afC:bd Tryd.prog 35=some (false,1):=by kernel_rfl
@[go_sem] theorem He:bI Tryd.prog 35=some (75,2,16):=by kernel_rfl
@[go_sem] theorem aeA:dD Tryd.prog 35=some 0:=by kernel_rfl
@[go_sem] theorem ad2:be Tryd.prog 35=some (.slice none 0 0):=by kernel_rfl
@[go_sem] theorem afB:bd Tryd.prog 36=some (true,6):=by kernel_rfl
@[go_sem] theorem ael:gu Tryd.prog 36=some (6,1,false):=by kernel_rfl
@[go_sem] theorem aev:jd Tryd.prog 36=some [(0,1),(1,1),(2,1),(3,1),(4,1),(5,1)]:=by kernel_rfl
@[go_sem] theorem ad1:be Tryd.prog 36=some (.agg #[(.slice none 0 0),(.slice none 0 0),(.slice none 0 0),(.slice none 0 0),(.slice none 0 0),(.slice none 0 0)]):=by kernel_rfl
@[go_sem] theorem afA:bd Tryd.prog 37=some (true,6):=by kernel_rfl
@[go_sem] theorem aek:gu Tryd.prog 37=some (6,1,false):=by kernel_rfl
@[go_sem] theorem aeu:jd Tryd.prog 37=some [(0,1),(1,1),(2,1),(3,1),(4,1),(5,1)]:=by kernel_rfl
@[go_sem] theorem ad0:be Tryd.prog 37=some (.agg #[(.int .i64 0),(.int .i64 0),(.int .i64 0),(.int .i64 0),(.int .i64 0),(.int .i64 0)]):=by kernel_rfl
@[go_sem] theorem afz:bd Tryd.prog 39=some (true,19):=by kernel_rfl
@[go_sem] theorem aet:jd Tryd.prog 39=some [(0,1),(1,6),(7,6),(13,6)]:=by kernel_rfl
@[go_sem] theorem adZ:be Tryd.prog 39=some (.agg #[(.slice none 0 0),(.slice none 0 0),(.slice none 0 0),(.slice none 0 0),(.slice none 0 0),(.slice none 0 0),(.slice none 0 0),(.int .i64 0),(.int .i64 0),(.int .i64 0),(.int .i64 0),(.int .i64 0),(.int .i64 0),(.int .i64 0),(.int .i64 0),(.int .i64 0),(.int .i64 0),(.int .i64 0),(.int .i64 0)]):=by kernel_rfl
@[go_sem] theorem aeZ:cT Tryd.prog 39 0=some (0,1,false):=by kernel_rfl
@[go_sem] theorem aeY:cT Tryd.prog 39 1=some (1,6,true):=by kernel_rfl
@[go_sem] theorem aeX:cT Tryd.prog 39 2=some (7,6,true):=by kernel_rfl
@[go_sem] theorem aeW:cT Tryd.prog 39 3=some (13,6,true):=by kernel_rfl
@[go_sem] theorem afy:bd Tryd.prog 41=some (true,21):=by kernel_rfl
@[go_sem] theorem aes:jd Tryd.prog 41=some [(0,1),(1,19),(20,1)]:=by kernel_rfl
@[go_sem] theorem adY:be Tryd.prog 41=some (.agg #[(.int .i64 0),(.slice none 0 0),(.slice none 0 0),(.slice none 0 0),(.slice none 0 0),(.slice none 0 0),(.slice none 0 0),(.slice none 0 0),(.int .i64 0),(.int .i64 0),(.int .i64 0),(.int .i64 0),(.int .i64 0),(.int .i64 0),(.int .i64 0),(.int .i64 0),(.int .i64 0),(.int .i64 0),(.int .i64 0),(.int .i64 0),(.int .i64 0)]):=by kernel_rfl
@[go_sem] theorem aeV:cT Tryd.prog 41 0=some (0,1,false):=by kernel_rfl
@[go_sem] theorem aeU:cT Tryd.prog 41 1=some (1,19,true):=by kernel_rfl
@[go_sem] theorem aeT:cT Tryd.prog 41 2=some (20,1,false):=by kernel_rfl
@[go_sem] theorem afx:bd Tryd.prog 42=some (true,42):=by kernel_rfl
@[go_sem] theorem aej:gu Tryd.prog 42=some (2,21,true):=by kernel_rfl
@[go_sem] theorem aer:jd Tryd.prog 42=some [(0,21),(21,21)]:=by kernel_rfl
@[go_sem] theorem adX:be Tryd.prog 42=some (.agg #[(.int .i64 0),(.slice none 0 0),(.slice none 0 0),(.slice none 0 0),(.slice none 0 0),(.slice none 0 0),(.slice none 0 0),(.slice none 0 0),(.int .i64 0),(.int .i64 0),(.int .i64 0),(.int .i64 0),(.int .i64 0),(.int .i64 0),(.int .i64 0),(.int .i64 0),(.int .i64 0),(.int .i64 0),(.int .i64 0),(.int .i64 0),(.int .i64 0),(.int .i64 0),(.slice none 0 0),(.slice none 0 0),(.slice none 0 0),(.slice none 0 0),(.slice none 0 0),(.slice none 0 0),(.slice none 0 0),(.int .i64 0),(.int .i64 0),(.int .i64 0),(.int .i64 0),(.int .i64 0),(.int .i64 0),(.int .i64 0),(.int .i64 0),(.int .i64 0),(.int .i64 0),(.int .i64 0),(.int .i64 0),(.int .i64 0)]):=by kernel_rfl
@[go_sem] theorem afw:bd Tryd.prog 44=some (true,63):=by kernel_rfl
@[go_sem] theorem aeq:jd Tryd.prog 44=some [(0,1),(1,19),(20,42),(62,1)]:=by kernel_rfl
@[go_sem] theorem adW:be Tryd.prog 44=some (.agg #[(.int .i64 0),(.slice none 0 0),(.slice none 0 0),(.slice none 0 0),(.slice none 0 0),(.slice none 0 0),(.slice none 0 0),(.slice none 0 0),(.int .i64 0),(.int .i64 0),(.int .i64 0),(.int .i64 0),(.int .i64 0),(.int .i64 0),(.int .i64 0),(.int .i64 0),(.int .i64 0),(.int .i64 0),(.int .i64 0),(.int .i64 0),(.int .i64 0),(.slice none 0 0),(.slice none 0 0),(.slice none 0 0),(.slice none 0 0),(.slice none 0 0),(.slice none 0 0),(.slice none 0 0),(.int .i64 0),(.int .i64 0),(.int .i64 0),(.int .i64 0),(.int .i64 0),(.int .i64 0),(.int .i64 0),(.int .i64 0),(.int .i64 0),(.int .i64 0),(.int .i64 0),(.int .i64 0),(.int .i64 0),(.int .i64 0),(.slice none 0 0),(.slice none 0 0),(.slice none 0 0),(.slice none 0 0),(.slice none 0 0),(.slice none 0 0),(.slice none 0 0),(.int .i64 0),(.int .i64 0),(.int .i64 0),(.int .i64 0),(.int .i64 0),(.int .i64 0),(.int .i64 0),(.int .i64 0),(.int .i64 0),(.int .i64 0),(.int .i64 0),(.int .i64 0),(.int .i64 0),(.int .i64 0)]):=by kernel_rfl
@[go_sem] theorem aeS:cT Tryd.prog 44 0=some (0,1,false):=by kernel_rfl
@[go_sem] theorem aeR:cT Tryd.prog 44 1=some (1,19,true):=by kernel_rfl
@[go_sem] theorem aeQ:cT Tryd.prog 44 2=some (20,42,true):=by kernel_rfl
@[go_sem] theorem aeP:cT Tryd.prog 44 3=some (62,1,false):=by kernel_rfl
@[go_sem] theorem afv:bd Tryd.prog 45=some (false,1):=by kernel_rfl
@[go_sem] theorem aeG:lY Tryd.prog 45=some .i64:=by kernel_rfl
@[go_sem] theorem adV:be Tryd.prog 45=some (.int .i64 0):=by kernel_rfl
@[go_sem] theorem afu:bd Tryd.prog 46=some (false,1):=by kernel_rfl
@[go_sem] theorem aft:bd Tryd.prog 49=some (false,1):=by kernel_rfl
@[go_sem] theorem afs:bd Tryd.prog 54=some (true,4):=by kernel_rfl
@[go_sem] theorem aep:jd Tryd.prog 54=some [(0,1),(1,1),(2,1),(3,1)]:=by kernel_rfl
@[go_sem] theorem adU:be Tryd.prog 54=some (.agg #[(.int .i64 0),(.int .i64 0),(.slice none 0 0),(.int .i64 0)]):=by kernel_rfl
@[go_sem] theorem aeO:cT Tryd.prog 54 0=some (0,1,false):=by kernel_rfl
@[go_sem] theorem aeN:cT Tryd.prog 54 1=some (1,1,false):=by kernel_rfl
@[go_sem] theorem aeM:cT Tryd.prog 54 2=some (2,1,false):=by kernel_rfl
@[go_sem] theorem aeL:cT Tryd.prog 54 3=some (3,1,false):=by kernel_rfl
@[go_sem] theorem afr:bd Tryd.prog 55=some (false,1):=by kernel_rfl
@[go_sem] theorem afq:bd Tryd.prog 61=some (false,1):=by kernel_rfl
@[go_sem] theorem ae9:bI Tryd.prog 61=some (76,2,16):=by kernel_rfl
@[go_sem] theorem aez:dD Tryd.prog 61=some 0:=by kernel_rfl
@[go_sem] theorem adT:be Tryd.prog 61=some (.slice none 0 0):=by kernel_rfl
@[go_sem] theorem afp:bd Tryd.prog 62=some (false,1):=by kernel_rfl
@[go_sem] theorem afo:bd Tryd.prog 64=some (false,1):=by kernel_rfl
@[go_sem] theorem afn:bd Tryd.prog 71=some (false,1):=by kernel_rfl
@[go_sem] theorem afm:bd Tryd.prog 75=some (true,2):=by kernel_rfl
@[go_sem] theorem aeo:jd Tryd.prog 75=some [(0,1),(1,1)]:=by kernel_rfl
@[go_sem] theorem Q1:be Tryd.prog 75=some (.agg #[(.int .i64 0),(.int .i64 0)]):=by kernel_rfl
@[go_sem] theorem aeK:cT Tryd.prog 75 0=some (0,1,false):=by kernel_rfl
@[go_sem] theorem aeJ:cT Tryd.prog 75 1=some (1,1,false):=by kernel_rfl
@[go_sem] theorem afl:bd Tryd.prog 76=some (true,2):=by kernel_rfl
@[go_sem] theorem aei:gu Tryd.prog 76=some (2,1,false):=by kernel_rfl
@[go_sem] theorem aen:jd Tryd.prog 76=some [(0,1),(1,1)]:=by kernel_rfl
@[go_sem] theorem adS:be Tryd.prog 76=some (.agg #[(.int .i64 0),(.int .i64 0)]):=by kernel_rfl
@[go_sem] theorem afk:bd Tryd.prog 81=some (false,1):=by kernel_rfl
@[go_sem] theorem adR:be Tryd.prog 81=some (.pointer none):=by kernel_rfl
@[go_sem] theorem afj:bd Tryd.prog 85=some (false,1):=by kernel_rfl
@[go_sem] theorem afi:bd Tryd.prog 87=some (false,1):=by kernel_rfl
@[go_sem] theorem adQ:be Tryd.prog 87=some (.pointer none):=by kernel_rfl
@[go_sem] theorem afh:bd Tryd.prog 91=some (true,63):=by kernel_rfl
@[go_sem] theorem aem:jd Tryd.prog 91=some [(0,63)]:=by kernel_rfl
@[go_sem] theorem adP:be Tryd.prog 91=some (.agg #[(.int .i64 0),(.slice none 0 0),(.slice none 0 0),(.slice none 0 0),(.slice none 0 0),(.slice none 0 0),(.slice none 0 0),(.slice none 0 0),(.int .i64 0),(.int .i64 0),(.int .i64 0),(.int .i64 0),(.int .i64 0),(.int .i64 0),(.int .i64 0),(.int .i64 0),(.int .i64 0),(.int .i64 0),(.int .i64 0),(.int .i64 0),(.int .i64 0),(.slice none 0 0),(.slice none 0 0),(.slice none 0 0),(.slice none 0 0),(.slice none 0 0),(.slice none 0 0),(.slice none 0 0),(.int .i64 0),(.int .i64 0),(.int .i64 0),(.int .i64 0),(.int .i64 0),(.int .i64 0),(.int .i64 0),(.int .i64 0),(.int .i64 0),(.int .i64 0),(.int .i64 0),(.int .i64 0),(.int .i64 0),(.int .i64 0),(.slice none 0 0),(.slice none 0 0),(.slice none 0 0),(.slice none 0 0),(.slice none 0 0),(.slice none 0 0),(.slice none 0 0),(.int .i64 0),(.int .i64 0),(.int .i64 0),(.int .i64 0),(.int .i64 0),(.int .i64 0),(.int .i64 0),(.int .i64 0),(.int .i64 0),(.int .i64 0),(.int .i64 0),(.int .i64 0),(.int .i64 0),(.int .i64 0)]):=by kernel_rfl
@[go_sem] theorem aeI:cT Tryd.prog 91 0=some (0,63,true):=by kernel_rfl
@[go_sem] theorem afg:bd Tryd.prog 92=some (false,1):=by kernel_rfl
@[go_sem] theorem adO:be Tryd.prog 92=some (.pointer none):=by kernel_rfl
@[go_sem] theorem aff:bd Tryd.prog 96=some (false,1):=by kernel_rfl
@[go_sem] theorem adN:be Tryd.prog 96=some .nilFunc:=by kernel_rfl
@[go_sem] theorem afe:bd Tryd.prog 97=some (false,1):=by kernel_rfl
@[go_sem] theorem adM:be Tryd.prog 97=some .nilFunc:=by kernel_rfl
@[go_sem] theorem afd:bd Tryd.prog 99=some (false,1):=by kernel_rfl
@[go_sem] theorem adL:be Tryd.prog 99=some (.pointer none):=by kernel_rfl
@[go_sem] theorem afP:bd Tryd.prog 100=some (false,1):=by kernel_rfl
@[go_sem] theorem afO:bd Tryd.prog 104=some (false,1):=by kernel_rfl
@[go_sem] theorem aeb:be Tryd.prog 104=some .nilFunc:=by kernel_rfl
@[go_sem] theorem afN:bd Tryd.prog 112=some (false,1):=by kernel_rfl
@[go_sem] theorem afc:bI Tryd.prog 112=some (5,1,1):=by kernel_rfl
@[go_sem] theorem aeF:dD Tryd.prog 112=some 0:=by kernel_rfl
@[go_sem] theorem aea:be Tryd.prog 112=some (.slice none 0 0):=by kernel_rfl
@[go_sem] theorem afM:bd Tryd.prog 113=some (false,1):=by kernel_rfl
@[go_sem] theorem aeH:lY Tryd.prog 113=some .u64:=by kernel_rfl
@[go_sem] theorem ad':be Tryd.prog 113=some (.int .u64 0):=by kernel_rfl
@[go_sem] theorem afL:bd Tryd.prog 126=some (true,2):=by kernel_rfl
@[go_sem] theorem aey:jd Tryd.prog 126=some [(0,1),(1,1)]:=by kernel_rfl
@[go_sem] theorem ad9:be Tryd.prog 126=some (.agg #[(.pointer none),(.slice none 0 0)]):=by kernel_rfl
@[go_sem] theorem ae8:cT Tryd.prog 126 0=some (0,1,false):=by kernel_rfl
@[go_sem] theorem ae7:cT Tryd.prog 126 1=some (1,1,false):=by kernel_rfl
@[go_sem] theorem afK:bd Tryd.prog 129=some (false,1):=by kernel_rfl
@[go_sem] theorem aeg:lv Tryd.prog 113 3=0:=by kernel_rfl
@[go_sem] theorem aeh:lv Tryd.prog 112 9=2:=by kernel_rfl
@[go_sem] theorem aef:lv Tryd.prog 3 113=0:=by kernel_rfl
@[go_sem] theorem aee:lv Tryd.prog 3 5=0:=by kernel_rfl
@[go_sem] theorem aed:lv Tryd.prog 5 3=0:=by kernel_rfl
@[go_sem] theorem aec:lv Tryd.prog 9 112=1:=by kernel_rfl
theorem bn:Tryd.prog.follows .mixedOrders=true:=by kernel_rfl
def dE(obj:Name->Option O):List Name->List O->Prop
 |[],[]=>True
 |x::xs,o::os=>obj x=some o/\dE obj xs os
 |_,_=>False
theorem l8{obj:Name->Option O}:∀ {Ls:List Name} {F:List O},dE obj Ls F↔Ls.map obj=F.map some
 |[],[]=>by simp[dE]
 |x::xs,o::os=>by simp only[dE,List.map_cons,List.cons.injEq,l8]
 |[],_::_=>by simp[dE]
 |_::_,[]=>by simp[dE]
theorem Uw{obj obj2:Name->Option O}{Ls:List Name}{F:List O}(h:dE obj Ls F)(ha:∀ x∈Ls,obj2 x=obj x):dE obj2 Ls F:=by
 rw[l8]at h |-
 rw[<-h]
 exact List.map_congr_left ha
theorem Cy{obj:Name->Option O}:∀ {Ls:List Name} {F:List O},dE obj Ls F->∀ i (h:i<Ls.length) (h':i<F.length),obj Ls[i]=some F[i]
 |_::_,_::_,h,0,_,_=>h.1
 |_::_,_::_,h,i+1,h1,h2=>by
  simp only[List.getElem_cons_succ]
  exact Cy h.2 i (by simpa using h1) (by simpa using h2)
def vI(K:Exit->S->Prop)(σ:S):Option Code->Prop
 |none=>K .normal σ
 |some .ret=>K .ret σ
 |some (.exit id)=>K (.exit id) σ
 |_=>False
theorem Vp{K:Exit->S->Prop}{obj:Name->Option O}{nm:Name}{σ:S}{env:List E}{ps:List Nat}{a b:Code}(pd:Option Code)(h:obj nm=some (.loop env ps a b (if pd.isNone then .ready else .done) pd))
 (hK:vI K σ pd):pK K obj nm σ:=by
 unfold pK
 rw[h]
 rcases pd with _ | c
 ·exact hK
 ·cases c<;>first | exact hK.elim | exact hK
def LR(m:Nat):List Name:=(List.range m).map fun i=>[i,1]
def LI(m:Nat):List Name:=(List.range m).map fun i=>[i+1,1]
theorem vj(m:Nat):(LR m).length=m:=by simp[LR]
theorem gL(m:Nat):(LI m).length=m:=by simp[LI]
theorem Ga{Ls:List Name}(hn:Ls.Nodup):Ls.map (cin Ls)=LR Ls.length:=by
 refine List.ext_getElem (by simp[LR]) fun i h1 h2=>?_
 simp only[List.getElem_map,LR,List.getElem_range,cin]
 rw[Dh hn (by simpa using h1)]
theorem F9{R:Name}{Ls:List Name}(hn:Ls.Nodup)(hR:R∉Ls):Ls.map (cin (R::Ls))=LI Ls.length:=by
 refine List.ext_getElem (by simp[LI]) fun i h1 h2=>?_
 simp only[List.getElem_map,LI,List.getElem_range,cin]
 have h3:i<Ls.length:=by simpa using h1
 have h4:=Dh (L:=R::Ls) (List.nodup_cons.2 ⟨hR,hn⟩) (i:=i+1) (by simp;omega)
 simp only[List.getElem_cons_succ]at h4
 rw[h4]
theorem abp(Ls:List Name)(t:Name):(LR Ls.length).map (cout Ls t)=Ls:=by
 refine List.ext_getElem (by simp[LR]) fun i h1 h2=>?_
 simp only[List.getElem_map,LR,List.getElem_range,cout]
 exact kY h2
theorem N8(R:Name)(Ls:List Name)(t:Name):(LI Ls.length).map (cout (R::Ls) t)=Ls:=by
 refine List.ext_getElem (by simp[LI]) fun i h1 h2=>?_
 simp only[List.getElem_map,LI,List.getElem_range,cout]
 rw[kY (by simpa using h2)]
 simp
def et:List Name->List O->(Name->Option O)->(Name->Option O)
 |x::xs,o::os,obj=>et xs os (upd obj x (some o))
 |_,_,obj=>obj
theorem vz:∀ {Ls:List Name} {F:List O} {obj:Name->Option O} {x:Name},x∉Ls->et Ls F obj x=obj x
 |[],_,_,_,_=>by simp[et]
 |_::_,[],_,_,_=>by simp[et]
 |y::ys,o::os,obj,x,h=>by
  simp only[List.mem_cons,not_or]at h
  simp only[et]
  rw[vz h.2,aK _ _ _ h.1]
theorem HI:∀ {Ls:List Name} {F:List O} {obj:Name->Option O},Ls.Nodup->Ls.length=F.length->dE (et Ls F obj) Ls F
 |[],[],_,_,_=>trivial
 |[],_::_,_,_,h=>by simp at h
 |_::_,[],_,_,h=>by simp at h
 |y::ys,o::os,obj,hn,h=>by
  rw[List.nodup_cons]at hn
  refine⟨?_,HI (obj:=upd obj y (some o)) hn.2 (by simpa using h)⟩
  simp only[et]
  rw[vz hn.1,aG]
def e8:Nat->List O->List (Nat×O)
 |_,[]=>[]
 |k,o::r=>(k,o)::e8 (k+1) r
theorem Cd{t:Name}{L:List Name}:∀ {Ls:List Name} {k:Nat} {F:List O} {obj:Name->Option O},Ls.length=F.length->(∀ i (h:i<Ls.length),L.getD (k+i) []=Ls[i])->
 cj L t (e8 k F) obj=et Ls (F.map (O.ren (cout L t))) obj
 |[],k,[],obj,_,_=>rfl
 |[],k,_::_,obj,h,_=>by simp at h
 |_::_,k,[],obj,h,_=>by simp at h
 |x::xs,k,o::os,obj,h,hL=>by
  simp only[e8,cj,List.map_cons,et]
  have h0:=hL 0 (by simp)
  simp only[Nat.add_zero,List.getElem_cons_zero]at h0
  rw[h0]
  exact Cd (by simpa using h) fun i hi=>by
   have :=hL (i+1) (by simpa using hi)
   rw[show k+1+i=k+(i+1)by omega]
   simpa using this
theorem CV:∀ {F:List O} {k i:Nat} {o:O},i<k->eM (e8 k F) i o=o
 |[],k,i,o,_=>rfl
 |f::r,k,i,o,h=>by
  simp only[e8,eM]
  rw[if_neg (by omega)]
  exact CV (by omega)
theorem Cw{σ:S}:∀ {F os:List O} {k:Nat} {u:List (Nat×O)},F.length=os.length->(∀ i,k<=i->∀ o,eM u i o=eM (e8 k F) i o)->
 (∀ i (h:i<F.length),σ.obj [k+i,1]=some F[i])->rz σ u k os
 |[],[],_,_,_,_,_=>trivial
 |[],_::_,_,_,h,_,_=>by simp at h
 |_::_,[],_,_,h,_,_=>by simp at h
 |f::fs,o::os,k,u,h,hu,hs=>by
  refine⟨?_,Cw (F:=fs) (by simpa using h) (fun i hi x=>?_) fun i hi=>?_⟩
  ·have h0:=hs 0 (by simp)
   simp only[Nat.add_zero,List.getElem_cons_zero]at h0
   rw[h0,hu k (Nat.le_refl _) o]
   simp only[e8,eM,if_true]
   rw[CV (by omega)]
  ·rw[hu i (by omega) x]
   simp only[e8,eM]
   rw[if_neg (by omega)]
  ·have:=hs (i+1) (by simpa using hi)
   rw[show k+1+i=k+(i+1)by omega]
   simpa using this
structure Lp where
 m:Nat
 env:List Name->List E
 fam:List Name->Nat->List O
 ps:List Nat
 asg:Code
 body:Code
 n:Nat
 vals:Nat->List D
 st:Nat->Option Code
 fu:Nat
structure Lp.Ok (r:Lp):Prop where
 len:∀ Ls s,Ls.length=r.m->(r.fam Ls s).length=r.m
 renE:∀ f Ls,Ls.length=r.m->(r.env Ls).map (E.ren f)=r.env (Ls.map f)
 renF:∀ f Ls s,Ls.length=r.m->(r.fam Ls s).map (O.ren f)=r.fam (Ls.map f) s
 reach:∀ Ls s obj acc k,Ls.length=r.m->Ls.Nodup->(∀ x∈Ls,x∉acc)->dE obj Ls (r.fam Ls s)->dQ obj (k+r.fu) (dS ((r.env Ls).map (·.d))) acc=acc++Ls
 closE:∀ dom Ls,Ls.length=r.m->(∀ x∈Ls,dom x=true)->D.closL dom ((r.env Ls).map (·.d))=true
 closF:∀ dom Ls s,Ls.length=r.m->(∀ x∈Ls,dom x=true)->∀ o∈r.fam Ls s,O.clos dom o=true
 psz:∀ Ls,Ls.length=r.m->(r.ps.all fun p=>decide (p<(r.env Ls).length))=true
 args:∀ s,(r.vals s).length=r.ps.length
 fuel:r.fu<=2000
 vnam:∀ s,dS (r.vals s)=[]
 vcl:∀ s dom,D.closL dom (r.vals s)=true
 vren:∀ s f,D.renL f (r.vals s)=r.vals s
 inj:∀ s s',s<r.n->s'<r.n->r.vals s=r.vals s'->s=s'
theorem abu(dom:Name->Bool)(vs:List V):∀ a:List D,D.closL dom (a++vs.map D.v)=D.closL dom a:=by
 have h0:∀ vs:List V,D.closL dom (vs.map D.v)=true:=by
  intro vs
  induction vs with
  |nil=>rfl
  |cons x r ih=>simp only[List.map_cons,D.closL,D.clos,ih,Bool.and_self]
 intro a
 induction a with
 |nil=>simpa[D.closL]using h0 vs
 |cons x r ih=>simp only[List.cons_append,D.closL,ih]
theorem UF(a b:List D):dS (a++b)=dS a++dS b:=by
 induction a with
 |nil=>rfl
 |cons x r ih=>simp only[List.cons_append,dS,ih,List.append_assoc]
theorem Oh(dom:Name->Bool)(a b:List D):D.closL dom (a++b)=(D.closL dom a&&D.closL dom b):=by
 induction a with
 |nil=>simp[D.closL]
 |cons x r ih=>simp only[List.cons_append,D.closL,ih,Bool.and_assoc]
noncomputable def Lp.y(r:Lp):YSpec where
 pre:=fun env ps asg body os ds=>∃ s,s<r.n/\(∀ j,j<s->r.st j=none)/\env=r.env (LR r.m)/\ps=r.ps/\asg=r.asg/\body=r.body/\os=r.fam (LR r.m) s/\ds=r.vals s
 out:=fun _ _ _ _ _ ds=>by
  classical exact if h:∃ s,s<r.n/\ds=r.vals s then(⟨e8 0 (r.fam (LR r.m) (h.choose+1)),[],.v (.bool true)⟩,r.st h.choose)else(⟨[],[],.any⟩,none)
theorem Lp.y_out{r:Lp}(hr:r.Ok){s:Nat}(hs:s<r.n)(env:List E)(ps:List Nat)(asg body:Code)(os:List O):
 r.y.out env ps asg body os (r.vals s)=(⟨e8 0 (r.fam (LR r.m) (s+1)),[],.v (.bool true)⟩,r.st s):=by
 have h:∃ s',s'<r.n/\r.vals s=r.vals s':=⟨s,hs,rfl⟩
 have e:h.choose=s:=(hr.inj _ _ hs h.choose_spec.1 h.choose_spec.2).symm
 simp only[Lp.y]
 rw[dif_pos h,e]
def TB(m:Nat)(F:List O)(p:Option Code):Exit->S->Prop
 | .normal,σ=>p=none/\dE σ.obj (LR m) F
 | .ret,σ=>p=some .ret/\dE σ.obj (LR m) F
 | .exit id,σ=>p=some (.exit id)/\dE σ.obj (LR m) F
 |_,_=>False
theorem aaK{os F:List O}{σ:S}{m:Nat}(h1:os.length=m)(h2:F.length=m)(hc:∀ dom:Name->Bool,(∀ x∈LR m,dom x=true)->∀ o∈F,O.clos dom o=true)(h:dE σ.obj (LR m) F):
 ie os ⟨e8 0 F,[],.v (.bool true)⟩ σ:=by
 have fE:∀ i (hi:i<F.length),σ.obj [i,1]=some F[i]:=by
  rw[l8]at h
  intro i hi
  have h3:=congrArg (fun l=>l[i]?) h
  have bA:i<m:=by omega
  simpa[LR,hi,bA]using h3
 refine⟨Cw (F:=F) (by omega) (fun i _ o=>rfl) fun i hi=>by rw[Nat.zero_add];exact fE i hi,trivial,?_⟩
 have qg:∀ x∈LR m,dp os.length [] x=true:=by
  intro x hx
  obtain⟨i,hi,rfl⟩:=List.mem_map.1 hx
  have :=List.mem_range.1 hi
  simp[dp]
  omega
 have dI:∀ (F':List O) (k:Nat),(∀ o∈F',O.clos (dp os.length []) o=true)->k+F'.length<=os.length->((e8 k F').all fun x=>O.clos (dp os.length []) x.2&&decide (x.1<os.length))=true:=by
  intro F'
  induction F' with
  |nil=>intros;rfl
  |cons f fs ih=>
   intro k hf hk
   simp only[List.length_cons]at hk
   simp only[e8,List.all_cons,Bool.and_eq_true,decide_eq_true_eq]
   exact⟨⟨hf f (by simp),by omega⟩,by have:=ih (k+1) (fun o ho=>hf o (by simp[ho])) (by omega);simpa using this⟩
 have :=dI F 0 (hc _ qg) (by omega)
 simp only[D.clos,this,List.all_nil,List.map_nil,distinct,Bool.and_self]
theorem Lp.y_sound{P:Program}{r:Lp}(hr:r.Ok)(h:∀ s,s<r.n->(∀ j,j<s->r.st j=none)->
 CW P r.asg ⟨(r.env (LR r.m)).length,setP (sE (r.env (LR r.m))) r.ps (r.vals s),a8 (r.fam (LR r.m) s),[0],0⟩ (IS fun σ1=>CW P r.body σ1 (TB r.m (r.fam (LR r.m) (s+1)) (r.st s)))):an P yid r.y.toSpec:=by
 refine GQ ?_
 rintro env ps asg body os ds ⟨s,hs,hj,rfl,rfl,rfl,rfl,rfl,rfl⟩ _
 rw[Lp.y_out hr hs]
 refine CW.mono (h s hs hj) fun e σ hk=>?_
 cases e with
 |normal=>
  refine CW.mono hk fun e σ hk=>?_
  have fin:dE σ.obj (LR r.m) (r.fam (LR r.m) (s+1))->ie (r.fam (LR r.m) s) ⟨e8 0 (r.fam (LR r.m) (s+1)),[],.v (.bool true)⟩ σ:=
   aaK (hr.len _ _ (vj _)) (hr.len _ _ (vj _)) fun dom hd=>hr.closF dom _ _ (vj _) hd
  cases e with
  |normal=>exact⟨hk.1,fin hk.2⟩
  |ret=>exact⟨hk.1,fin hk.2⟩
  |exit id=>exact⟨hk.1,fin hk.2⟩
  |goto l=>exact hk.elim
  |panic c=>exact hk.elim
  |outgrown=>exact hk.elim
 |ret=>exact hk.elim
 |exit id=>exact hk.elim
 |goto l=>exact hk.elim
 |panic c=>exact hk.elim
 |outgrown=>exact hk.elim
def Lp.rc(r:Lp)(Ls:List Name)(st:LoopState)(pd:Option Code):O:=.loop (r.env Ls) r.ps r.asg r.body st pd
theorem Lp.y_app{r:Lp}(hr:r.Ok){s:Nat}(hs:s<r.n)(hj:∀ j,j<s->r.st j=none){obj:Name->Option O}{t R:Name}{Ls:List Name}(hl:Ls.length=r.m)(hn:Ls.Nodup)(hR:R∉Ls)
 (h0:obj R=some (r.rc Ls .ready none)) (hF:dE obj Ls (r.fam Ls s)):
 r.y.toSpec.app obj t (.yld R::r.vals s)=⟨True,.v (.bool (r.st s).isNone),upd (et Ls (r.fam Ls (s+1)) obj) R (some (r.rc Ls (if (r.st s).isNone then .ready else .done) (r.st s)))⟩:=by
 have mg:reach obj (roots (r.env Ls) (r.vals s))=Ls:=by
  unfold reach roots
  rw[UF,hr.vnam,List.append_nil]
  have :=hr.reach Ls s obj [] (3000-r.fu) hl hn (fun _ _=>by simp) hF
  rwa [show 3000-r.fu+r.fu=3000 by have:=hr.fuel;omega]at this
 have e1:cv obj (roots (r.env Ls) (r.vals s))=r.fam (LR r.m) s:=by
  unfold cv
  rw[mg]
  have :Ls.map (cr Ls obj)=(r.fam Ls s).map (O.ren (cin Ls)):=by
   rw[l8]at hF
   refine List.ext_getElem (by simp[hr.len _ _ hl,hl]) fun i h1 h2=>?_
   have h3:i<Ls.length:=by simpa using h1
   have h4:i<(r.fam Ls s).length:=by rw[hr.len _ _ hl,<-hl];exact h3
   have h5:=congrArg (fun l=>l[i]?) hF
   have h6:obj Ls[i]=some (r.fam Ls s)[i]:=by simpa[h3,h4]using h5
   simp only[List.getElem_map,cr,h6]
  rw[this,hr.renF _ _ _ hl,Ga hn,hl]
 have e2:iM obj (r.env Ls) (r.vals s)=r.env (LR r.m):=by
  unfold iM
  rw[mg,hr.renE _ _ hl,Ga hn,hl]
 have e3:jx obj (r.env Ls) (r.vals s)=r.vals s:=by
  unfold jx
  exact hr.vren s _
 have e4:r.y.o obj (r.env Ls) r.ps r.asg r.body (r.vals s)=(⟨e8 0 (r.fam (LR r.m) (s+1)),[],.v (.bool true)⟩,r.st s):=by
  unfold YSpec.o
  rw[e1,e2,e3,Lp.y_out hr hs]
 have cL:r.y.pre (r.env (LR r.m)) r.ps r.asg r.body (r.fam (LR r.m) s) (r.vals s):=⟨s,hs,hj,rfl,rfl,rfl,rfl,rfl,rfl⟩
 have bS:D.closL (cK Ls) (roots (r.env Ls) (r.vals s))=true:=by
  unfold roots
  rw[Oh,hr.vcl,Bool.and_true]
  exact hr.closE _ _ hl fun x hx=>iw.2 hx
 have gA:shut obj Ls=true:=by
  unfold shut
  rw[List.all_eq_true]
  intro x hx
  obtain⟨i,hi,rfl⟩:=List.getElem_of_mem hx
  rw[l8]at hF
  have h4:i<(r.fam Ls s).length:=by rw[hr.len _ _ hl,<-hl];exact hi
  have h5:=congrArg (fun l=>l[i]?) hF
  have h6:obj Ls[i]=some (r.fam Ls s)[i]:=by simpa[hi,h4]using h5
  rw[h6]
  exact hr.closF _ _ _ hl (fun x hx=>iw.2 hx) _ (List.getElem_mem h4)
 have YK:cK Ls R=false:=by
  cases h:cK Ls R with
  |false=>rfl
  |true=>exact(hR (iw.1 h)).elim
 have hp:cj Ls t (e8 0 (r.fam (LR r.m) (s+1))) obj=et Ls (r.fam Ls (s+1)) obj:=by
  rw[Cd (Ls:=Ls) (by rw[hr.len _ _ (vj _),hl]) fun i hi=>by rw[Nat.zero_add];exact kY hi,hr.renF _ _ _ (vj _)]
  have :(LR r.m).map (cout Ls t)=Ls:=by rw[<-hl];exact abp Ls t
  rw[this]
 unfold Lp.rc at h0
 simp only[YSpec.toSpec,h0,e1,e2,e3,e4,mg,bS,gA,YK,fresh,List.all_nil,Bool.and_self,Bool.not_false,hr.args,decide_true,hr.psz Ls hl,cL,dd,hp,and_self]
 rfl
def Lp.e(r:Lp):Nat:=match (List.range r.n).find? (fun s=>(r.st s).isSome)with | some s=>s+1 | none=>r.n
def Lp.pd(r:Lp):Option Code:=match (List.range r.n).find? (fun s=>(r.st s).isSome)with | some s=>r.st s | none=>none
def Lp.fin(r:Lp)(Ls:List Name):O:=r.rc Ls (if r.pd.isNone then .ready else .done) r.pd
def Lp.it(r:Lp)(dB:List V):CSpec where
 pre:=fun os ds=>os=r.rc (LI r.m) .ready none::r.fam (LI r.m) 0/\ds=.yld [0,1]::dB.map .v
 out:=fun _ _=>⟨(0,r.fin (LI r.m))::e8 1 (r.fam (LI r.m) r.e),[],.tup []⟩
theorem Lp.it_end{P:Program}{r:Lp}(hr:r.Ok){σ:S}(h0:σ.obj [0,1]=some (r.fin (LI r.m)))(h1:dE σ.obj (LI r.m) (r.fam (LI r.m) r.e)):
 (bY P σ []).ok/\(bY P σ []).d=.tup []/\ie (r.rc (LI r.m) .ready none::r.fam (LI r.m) 0) ⟨(0,r.fin (LI r.m))::e8 1 (r.fam (LI r.m) r.e),[],.tup []⟩ σ:=by
 have uv:=hr.len (LI r.m) 0 (gL _)
 have hle:=hr.len (LI r.m) r.e (gL _)
 have fE:∀ i (hi:i<(r.fam (LI r.m) r.e).length),σ.obj [1+i,1]=some (r.fam (LI r.m) r.e)[i]:=by
  intro i hi
  have h3:=Cy h1 i (by rw[gL];omega) hi
  rw[Nat.add_comm]
  simpa only[LI,List.getElem_map,List.getElem_range]using h3
 have qg:∀ x∈LI r.m,dp (r.m+1) [] x=true:=by
  intro x hx
  obtain⟨i,hi,rfl⟩:=List.mem_map.1 hx
  have :=List.mem_range.1 hi
  simp[dp]
  omega
 refine⟨fun x hx=>by simp at hx,rfl,⟨⟨?_,Cw (F:=r.fam (LI r.m) r.e) (by omega) (fun i hi o=>by simp only[eM];rw[if_neg (by omega)]) fE⟩,trivial,?_⟩⟩
 ·simp only[eM,if_true]
  rw[h0,CV (by omega)]
 have dI:∀ (F':List O) (k:Nat),(∀ o∈F',O.clos (dp (r.m+1) []) o=true)->k+F'.length<=r.m+1->((e8 k F').all fun x=>O.clos (dp (r.m+1) []) x.2&&decide (x.1<r.m+1))=true:=by
  intro F'
  induction F' with
  |nil=>intros;rfl
  |cons f fs ih=>
   intro k hf hk
   simp only[List.length_cons]at hk
   simp only[e8,List.all_cons,Bool.and_eq_true,decide_eq_true_eq]
   exact⟨⟨hf f (by simp),by omega⟩,by have:=ih (k+1) (fun o ho=>hf o (by simp[ho])) (by omega);simpa using this⟩
 have h5:=dI (r.fam (LI r.m) r.e) 1 (hr.closF _ _ _ (gL _) qg) (by omega)
 have h6:O.clos (dp (r.m+1) []) (r.fin (LI r.m))=true:=hr.closE _ _ (gL _) qg
 have hlen:(r.rc (LI r.m) .ready none::r.fam (LI r.m) 0).length=r.m+1:=by rw[List.length_cons,uv]
 have h7:D.clos (dp (r.m+1) []) (.tup [])=true:=rfl
 simp only[hlen,h7,List.all_cons,h6,h5,List.all_nil,List.map_nil,distinct,Bool.and_self,Bool.true_and,Bool.and_true]
 simp
theorem aat:∀ (n:Nat) (obj:Name->Option O) (x:V),au n obj (.v x)=⟨True,x,obj⟩
 | 0,_,_=>rfl
 |_+1,_,_=>rfl
theorem MZ(n:Nat)(obj:Name->Option O):∀ l:List V,(aJ (au n) obj (l.map .v)).ok/\(aJ (au n) obj (l.map .v)).xs=l/\(aJ (au n) obj (l.map .v)).obj=obj
 |[]=>⟨trivial,rfl,rfl⟩
 |x::r=>by
  obtain⟨h1,h2,h3⟩:=MZ n obj r
  simp only[List.map_cons,aJ,aat]
  exact⟨⟨trivial,h1⟩,by rw[h2],h3⟩
@[go_sem] theorem qy(dom:Name->Bool)(l:List V):D.closL dom (l.map .v)=true:=by
  have :=abu dom l []
  simpa[D.closL]using this
theorem Gx:∀ l:List V,lI (l.map .v)=some l
 |[]=>rfl
 |x::r=>by
  simp only[List.map_cons,lI,qE,Gx r]
attribute [go_sem] Gx
theorem QS{σ:S}(nm:Name)(l:List V)(ho:σ.obj nm=some (.box (l.map .v))):eZ σ { σ with obj:=upd σ.obj nm (some (.fbox l)) }:=by
 intro G φ m a w hC
 obtain⟨h1,h2,h3⟩:=MZ 0 σ.obj l
 have e:au 1 σ.obj (.ref nm 0)=⟨(aJ (au 0) σ.obj (l.map .v)).ok/\(aJ (au 0) σ.obj (l.map .v)).obj nm=some (.box (l.map .v)),.ptr ((aJ (au 0) σ.obj (l.map .v)).xs.drop 0),
     upd (aJ (au 0) σ.obj (l.map .v)).obj nm (some (.fbox (aJ (au 0) σ.obj (l.map .v)).xs))⟩:=by
  simp only[au,ho]
 obtain⟨m',k1,k2,_⟩:=nF 1 G φ m σ a w hC (.ref nm 0) _ (.ref nm 0 ⟨_,ho,rfl⟩) (by rw[e];exact⟨h1,by rw[h3];exact ho⟩)
 rw[e]at k2
 simp only[h2,h3]at k2
 exact⟨φ,m',k2⟩
theorem cX{σ τ:S}(nm:Name)(l:List V)(ho:σ.obj nm=some (.box (l.map .v)))(ks:List Nat)(ns:List Name)
 (h:gq ks ns ⟨σ.nt,σ.env,upd σ.obj nm (some (.fbox l)),σ.pre,σ.base⟩) (hk:gy ks ns ⟨σ.nt,σ.env,upd σ.obj nm (some (.fbox l)),σ.pre,σ.base⟩=τ):eZ σ τ:=
 (QS nm l ho).trans (pq ks ns h hk)
structure aS (α:Type) where
 (a b c d e f:α)
 deriving Inhabited,DecidableEq
def aS.get{α:Type}(s:aS α):Nat->α
 | 0=>s.a
 | 1=>s.b
 | 2=>s.c
 | 3=>s.d
 | 4=>s.e
 |_=>s.f
def ef{α:Type}(g:Nat->α):aS α:=⟨g 0,g 1,g 2,g 3,g 4,g 5⟩
def aS.set{α:Type}(s:aS α)(i:Nat)(x:α):aS α:=ef fun j=>if j=i then x else s.get j
def aS.L{α β:Type}(s:aS α)(e:α->β):List β:=[e s.a,e s.b,e s.c,e s.d,e s.e,e s.f]
theorem aS.L_len{α β:Type}(s:aS α)(e:α->β):(s.L e).length=6:=rfl
theorem aS.L_get{α β:Type}(s:aS α)(e:α->β)(z:β):∀ {i:Nat},i<6->(s.L e).getD i z=e (s.get i)
 | 0,_=>rfl
 | 1,_=>rfl
 | 2,_=>rfl
 | 3,_=>rfl
 | 4,_=>rfl
 | 5,_=>rfl
 |i+6,h=>absurd h (by omega)
theorem aS.get_set{α:Type}(s:aS α){i j:Nat}(x:α)(hi:i<6):(s.set i x).get i=x/\(j<6->j≠i->(s.set i x).get j=s.get j):=by
 constructor
 ·match i,hi with
  | 0,_=>rfl
  | 1,_=>rfl
  | 2,_=>rfl
  | 3,_=>rfl
  | 4,_=>rfl
  | 5,_=>rfl
 ·intro hj aj
  match j,hj with
  | 0,_=>show (if 0=i then _ else _)=_;rw[if_neg aj]
  | 1,_=>show (if 1=i then _ else _)=_;rw[if_neg aj]
  | 2,_=>show (if 2=i then _ else _)=_;rw[if_neg aj]
  | 3,_=>show (if 3=i then _ else _)=_;rw[if_neg aj]
  | 4,_=>show (if 4=i then _ else _)=_;rw[if_neg aj]
  | 5,_=>show (if 5=i then _ else _)=_;rw[if_neg aj]
theorem BS{α:Type}{s t:aS α}(h:∀ i,i<6->s.get i=t.get i):s=t:=by
 obtain⟨a,b,c,d,e,f⟩:=s
 obtain⟨a',b',c',d',e',f'⟩:=t
 have h0:a=a':=h 0 (by omega)
 have h1:b=b':=h 1 (by omega)
 have h2:c=c':=h 2 (by omega)
 have h3:d=d':=h 3 (by omega)
 have h4:e=e':=h 4 (by omega)
 have h5:f=f':=h 5 (by omega)
 subst h0 h1 h2 h3 h4 h5
 rfl
structure Par where
 (no pa:Int)
 deriving Inhabited,DecidableEq
structure Stk where
 ho:List Int
 un:aS (List Par)
 (se ta:aS Int)
 deriving Inhabited,DecidableEq
structure Pg where
 co:Int
 st:Stk
 su:Int
 deriving Inhabited,DecidableEq
structure Dk where
 me:Int
 now:Stk
 (pa pb:Pg)
 wet:Int
 deriving Inhabited,DecidableEq
structure Bag where
 (fr to:Int)
 ps:List Par
 ta:Int
 deriving Inhabited,DecidableEq
def Dk.pg(d:Dk):Nat->Pg
 | 0=>d.pa
 |_=>d.pb
def dj:V->Int
 | .int _ n=>n
 |_=>0
def NT:V->Bool
 | .bool b=>b
 |_=>false
def xq:V->List Int
 | .sl l=>l.map dj
 |_=>[]
def encPa(p:Par):V:=.agg [vInt p.no,vInt p.pa]
def jV:V->Par
 | .agg [.int _ a,.int _ b]=>⟨a,b⟩
 |_=>default
abbrev jE (l:List Int):V:=.sl (l.map vInt)
abbrev rowP (l:List Par):V:=.sl (l.map encPa)
def nK:V->List Par
 | .sl l=>l.map jV
 |_=>[]
def aC(s:Stk):List V:=jE s.ho::(s.un.L rowP++(s.se.L vInt++s.ta.L vInt))
def fx(l:List V):Stk:=⟨xq (l.getD 0 default),ef fun i=>nK (l.getD (1+i) default),ef fun i=>dj (l.getD (7+i) default),ef fun i=>dj (l.getD (13+i) default)⟩
def de(p:Pg):List V:=vInt p.co::(aC p.st++[vInt p.su])
def uX(l:List V):Pg:=⟨dj (l.getD 0 default),fx ((l.drop 1).take 19),dj (l.getD 20 default)⟩
def aq(d:Dk):List V:=vInt d.me::(aC d.now++(de d.pa++(de d.pb++[vInt d.wet])))
def o5(l:List V):Dk:=⟨dj (l.getD 0 default),fx ((l.drop 1).take 19),uX ((l.drop 20).take 21),uX ((l.drop 41).take 21),dj (l.getD 62 default)⟩
def aT(b:Bag):List V:=[vInt b.fr,vInt b.to,rowP b.ps,vInt b.ta]
def V.L:V->List V
 | .agg l=>l
 |_=>[]
def nI(s:Stk):V:=.agg (aC s)
def FK(v:V):Stk:=fx v.L
def xj(p:Pg):V:=.agg (de p)
def FL(v:V):Pg:=uX v.L
def encDk(d:Dk):V:=.agg (aq d)
def lE(v:V):Dk:=o5 v.L
def fQ(b:Bag):V:=.agg (aT b)
def nL:V->Bag
 | .agg [.int _ a,.int _ b,.sl l,.int _ c]=>⟨a,b,l.map jV,c⟩
 |_=>default
theorem rD{α:Type}{e:α->V}{d:V->α}(h:∀ a,d (e a)=a)(l:List α):(l.map e).map d=l:=by
 rw[List.map_map]
 have :d∘e=id:=funext h
 rw[this,List.map_id]
@[go_sem] theorem NR(l:List Int):(l.map vInt).map dj=l:=rD (fun _=>rfl) l
theorem aa9(p:Par):jV (encPa p)=p:=rfl
@[go_sem] theorem FM(l:List Par):(l.map encPa).map jV=l:=rD aa9 l
theorem aa'(l:List Int):xq (jE l)=l:=NR l
theorem aa8(l:List Par):nK (rowP l)=l:=FM l
theorem o4(s:Stk):fx (aC s)=s:=by
 obtain⟨h,u,a,b⟩:=s
 obtain⟨u0,u1,u2,u3,u4,u5⟩:=u
 show (⟨xq (jE h),⟨nK (rowP u0),nK (rowP u1),nK (rowP u2),nK (rowP u3),nK (rowP u4),nK (rowP u5)⟩,a,b⟩:Stk)=_
 simp only[aa',aa8]
theorem AJ(p:Pg):uX (de p)=p:=by
 show (⟨p.co,fx (aC p.st),p.su⟩:Pg)=p
 rw[o4]
theorem FO(d:Dk):o5 (aq d)=d:=by
 show (⟨d.me,fx (aC d.now),uX (de d.pa),uX (de d.pb),d.wet⟩:Dk)=d
 rw[o4,AJ,AJ]
@[go_sem] theorem ag7(s:Stk):FK (.agg (aC s))=s:=o4 s
@[go_sem] theorem ag9(p:Pg):FL (.agg (de p))=p:=AJ p
@[go_sem] theorem aha(d:Dk):lE (.agg (aq d))=d:=FO d
@[go_sem] theorem ag6(s:Stk):FK (nI s)=s:=o4 s
@[go_sem] theorem ag8(p:Pg):FL (xj p)=p:=AJ p
@[go_sem] theorem FN(d:Dk):lE (encDk d)=d:=FO d
theorem uY(b:Bag):nL (fQ b)=b:=by
 obtain⟨x,y,l,z⟩:=b
 show (⟨x,y,(l.map encPa).map jV,z⟩:Bag)=_
 rw[FM]
@[go_sem] theorem ahc(b:Bag):nL (.agg (aT b))=b:=uY b
@[go_sem] theorem ahb(a b c:Int)(l:List Par):nL (.agg [vInt a,vInt b,rowP l,vInt c])=⟨a,b,l,c⟩:=uY ⟨a,b,l,c⟩
@[go_sem] theorem ag'(l:List Dk):(l.map encDk).map lE=l:=rD FN l
@[go_sem] theorem agG(p:Par):(⟨p.no,p.pa⟩:Par)=p:=rfl
@[go_sem] theorem j9(s:Stk):(aC s).length=19:=rfl
@[go_sem] theorem age(p:Pg):(de p).length=21:=rfl
@[go_sem] theorem qs(d:Dk):(aq d).length=63:=rfl
@[go_sem] theorem ahD(b:Bag):(aT b).length=4:=rfl
@[go_sem] theorem af1(s:Stk):(aC s).take 19=aC s:=rfl
@[go_sem] theorem agf(p:Pg):(de p).take 21=de p:=rfl
@[go_sem] theorem agX(d:Dk):(aq d).take 63=aq d:=rfl
@[go_sem] theorem ahE(b:Bag):(aT b).take 4=aT b:=rfl
@[go_sem] theorem af2(s:Stk):(aC s).getD 0 default=jE s.ho:=rfl
@[go_sem] theorem afY(s:Stk):((aC s).drop 1).take 6=s.un.L rowP:=rfl
@[go_sem] theorem af0(s:Stk):((aC s).drop 7).take 6=(s.se.L id).map vInt:=rfl
@[go_sem] theorem afZ(s:Stk):((aC s).drop 13).take 6=(s.ta.L id).map vInt:=rfl
theorem dt(s:Stk){i:Nat}(h:i<6):(aC s).getD (1+i) default=rowP (s.un.get i):=by
 match i,h with
 | 0,_=>rfl
 | 1,_=>rfl
 | 2,_=>rfl
 | 3,_=>rfl
 | 4,_=>rfl
 | 5,_=>rfl
theorem ee(s:Stk){i:Nat}(h:i<6):(aC s).getD (7+i) default=vInt (s.se.get i):=by
 match i,h with
 | 0,_=>rfl
 | 1,_=>rfl
 | 2,_=>rfl
 | 3,_=>rfl
 | 4,_=>rfl
 | 5,_=>rfl
theorem dN(s:Stk){i:Nat}(h:i<6):(aC s).getD (13+i) default=vInt (s.ta.get i):=by
 match i,h with
 | 0,_=>rfl
 | 1,_=>rfl
 | 2,_=>rfl
 | 3,_=>rfl
 | 4,_=>rfl
 | 5,_=>rfl
@[go_sem] theorem agi(p:Pg):(de p).getD 0 default=vInt p.co:=rfl
@[go_sem] theorem agh(p:Pg):(de p).getD 20 default=vInt p.su:=rfl
@[go_sem] theorem agd(p:Pg):((de p).drop 1).take 19=aC p.st:=rfl
@[go_sem] theorem ag1(d:Dk):(aq d).getD 0 default=vInt d.me:=rfl
@[go_sem] theorem agY(d:Dk):(aq d).getD 62 default=vInt d.wet:=rfl
@[go_sem] theorem xn(d:Dk):((aq d).drop 1).take 19=aC d.now:=rfl
@[go_sem] theorem agV(d:Dk):((aq d).drop 20).take 21=de d.pa:=rfl
@[go_sem] theorem agU(d:Dk):((aq d).drop 41).take 21=de d.pb:=rfl
@[go_sem] theorem ahI(b:Bag):(aT b).getD 0 default=vInt b.fr:=rfl
@[go_sem] theorem ahH(b:Bag):(aT b).getD 1 default=vInt b.to:=rfl
@[go_sem] theorem ahG(b:Bag):(aT b).getD 2 default=rowP b.ps:=rfl
@[go_sem] theorem ahF(b:Bag):(aT b).getD 3 default=vInt b.ta:=rfl
def NP:V->ByteArray
 | .str s=>s
 |_=>.empty
def iI:En Int:=⟨vInt,dj⟩
def iB:En Bool:=⟨.bool,NT⟩
def uf:En ByteArray:=⟨.str,NP⟩
def eO:En (List Int):=⟨fun l=>.sl (l.map vInt),xq⟩
def vZ:En Par:=⟨encPa,jV⟩
def lz:En (List Par):=⟨fun l=>.sl (l.map encPa),nK⟩
def iQ:En Stk:=⟨nI,FK⟩
def rJ:En Pg:=⟨xj,FL⟩
def dV:En Dk:=⟨encDk,lE⟩
def oz:En Bag:=⟨fQ,nL⟩
attribute [go_sem] iI iB uf eO vZ lz iQ rJ dV oz dj NT xq nK NP encPa jV nI xj encDk fQ
def aP(n lo hi:Int):Bool:=decide (lo<=n)&&decide (n<=hi)
end Go.Eng
set_option linter.unusedVariables false
namespace Go.Proofs
open Go Go.Shelf Go.RowKit
def Tryd.lays171_ren:Shelf.Ren:=⟨fun | 171=>87 | 243=>96 | 246=>100 | 283=>102 | 284=>103 | 285=>104 | 286=>105 | 129=>108 | 317=>107 | 318=>109 | 319=>110 | 320=>111 | 337=>112 | 338=>113 | n=>n,fun | 3=>3 | 9=>9 | 2=>2 | 4=>4 | 171=>139 | 0=>0 | 53=>140 | 37=>112 | 5=>5 | 173=>143 | 212=>147 | 51=>148 | 20=>20 | 213=>149 | 46=>113 | 232=>152 | 233=>153 | n=>n,fun | 17=>0 | 18=>1 | 19=>2 | n=>n⟩
theorem Tryd.lays171:LaysM.n171 Tryd.prog Tryd.lays171_ren:={
 mixed:=by kernel_rfl,
 f129:=Tryd.func108.trans (congrArg some (by kernel_rfl)),
 f171:=Tryd.func87.trans (congrArg some (by kernel_rfl)),
 f243:=Tryd.func96.trans (congrArg some (by kernel_rfl)),
 f246:=Tryd.func100.trans (congrArg some (by kernel_rfl)),
 f283:=Tryd.func102.trans (congrArg some (by kernel_rfl)),
 f284:=Tryd.func103.trans (congrArg some (by kernel_rfl)),
 f285:=Tryd.func104.trans (congrArg some (by kernel_rfl)),
 f286:=Tryd.func105.trans (congrArg some (by kernel_rfl)),
 f317:=Tryd.func107.trans (congrArg some (by kernel_rfl)),
 f318:=Tryd.func109.trans (congrArg some (by kernel_rfl)),
 f319:=Tryd.func110.trans (congrArg some (by kernel_rfl)),
 f320:=Tryd.func111.trans (congrArg some (by kernel_rfl)),
 f337:=Tryd.func112.trans (congrArg some (by kernel_rfl)),
 f338:=Tryd.func113.trans (congrArg some (by kernel_rfl)),
 t0:=Tryd.underlying0,
 a0:=Tryd.isAgg0,
 z0:=Tryd.sizeOf0,
 v0:=Tryd.zeroValue0,
 t2:=Tryd.underlying2,
 a2:=Tryd.isAgg2,
 z2:=Tryd.sizeOf2,
 v2:=Tryd.zeroValue2,
 t3:=Tryd.underlying3,
 a3:=Tryd.isAgg3,
 z3:=Tryd.sizeOf3,
 v3:=Tryd.zeroValue3,
 t4:=Tryd.underlying4,
 a4:=Tryd.isAgg4,
 z4:=Tryd.sizeOf4,
 v4:=Tryd.zeroValue4,
 t5:=Tryd.underlying5,
 a5:=Tryd.isAgg5,
 z5:=Tryd.sizeOf5,
 v5:=Tryd.zeroValue5,
 t9:=Tryd.underlying9,
 a9:=Tryd.isAgg9,
 z9:=Tryd.sizeOf9,
 v9:=Tryd.zeroValue9,
 t20:=Tryd.underlying20,
 a20:=Tryd.isAgg20,
 z20:=Tryd.sizeOf20,
 v20:=Tryd.zeroValue20,
 t37:=Tryd.underlying112,
 a37:=Tryd.isAgg112,
 z37:=Tryd.sizeOf112,
 v37:=Tryd.zeroValue112,
 t46:=Tryd.underlying113,
 a46:=Tryd.isAgg113,
 z46:=Tryd.sizeOf113,
 v46:=Tryd.zeroValue113,
 t51:=Tryd.underlying148,
 a51:=Tryd.isAgg148,
 z51:=Tryd.sizeOf148,
 v51:=Tryd.zeroValue148,
 t53:=Tryd.underlying140,
 a53:=Tryd.isAgg140,
 z53:=Tryd.sizeOf140,
 v53:=Tryd.zeroValue140,
 t171:=Tryd.underlying139,
 a171:=Tryd.isAgg139,
 z171:=Tryd.sizeOf139,
 v171:=Tryd.zeroValue139,
 t173:=Tryd.underlying143,
 a173:=Tryd.isAgg143,
 z173:=Tryd.sizeOf143,
 v173:=Tryd.zeroValue143,
 t212:=Tryd.underlying147,
 a212:=Tryd.isAgg147,
 z212:=Tryd.sizeOf147,
 v212:=Tryd.zeroValue147,
 t213:=Tryd.underlying149,
 a213:=Tryd.isAgg149,
 z213:=Tryd.sizeOf149,
 t232:=Tryd.underlying152,
 a232:=Tryd.isAgg152,
 z232:=Tryd.sizeOf152,
 v232:=Tryd.zeroValue152,
 t233:=Tryd.underlying153,
 a233:=Tryd.isAgg153,
 z233:=Tryd.sizeOf153,
 v233:=Tryd.zeroValue153,
 g17:=by kernel_rfl,
 g18:=by kernel_rfl,
 g19:=by kernel_rfl,
 i0:=by kernel_rfl,
 i2:=by kernel_rfl,
 i3:=by kernel_rfl,
 i4:=by kernel_rfl,
 i5:=by kernel_rfl,
 i9:=by kernel_rfl,
 i20:=by kernel_rfl,
 i37:=by kernel_rfl,
 i46:=by kernel_rfl,
 i51:=by kernel_rfl,
 i53:=by kernel_rfl,
 i171:=by kernel_rfl,
 i173:=by kernel_rfl,
 i212:=by kernel_rfl,
 i232:=by kernel_rfl,
 i233:=by kernel_rfl,
 m17:=by kernel_rfl,
 m18:=by kernel_rfl,
 m19:=by kernel_rfl }
def Tryd.lays169_ren:Shelf.Ren:=⟨fun | 169=>88 | n=>n,fun | 70=>124 | 9=>9 | 0=>0 | 72=>126 | 37=>112 | 127=>133 | 3=>3 | 5=>5 | n=>n,fun | n=>n⟩
theorem Tryd.lays169:Lays.n169 Tryd.prog Tryd.lays169_ren:={
 mixed:=by kernel_rfl,
 f169:=Tryd.func88.trans (congrArg some (by kernel_rfl)),
 t0:=Tryd.underlying0,
 a0:=Tryd.isAgg0,
 z0:=Tryd.sizeOf0,
 v0:=Tryd.zeroValue0,
 t3:=Tryd.underlying3,
 a3:=Tryd.isAgg3,
 z3:=Tryd.sizeOf3,
 v3:=Tryd.zeroValue3,
 t9:=Tryd.underlying9,
 a9:=Tryd.isAgg9,
 z9:=Tryd.sizeOf9,
 v9:=Tryd.zeroValue9,
 t37:=Tryd.underlying112,
 a37:=Tryd.isAgg112,
 z37:=Tryd.sizeOf112,
 v37:=Tryd.zeroValue112,
 t70:=Tryd.underlying124,
 a70:=Tryd.isAgg124,
 z70:=Tryd.sizeOf124,
 v70:=Tryd.zeroValue124,
 t72:=Tryd.underlying126,
 a72:=Tryd.isAgg126,
 z72:=Tryd.sizeOf126,
 v72:=Tryd.zeroValue126,
 t127:=Tryd.underlying133,
 a127:=Tryd.isAgg133,
 z127:=Tryd.sizeOf133,
 v127:=Tryd.zeroValue133 }
theorem Tryd.bldX:Builder.Extra Tryd.prog Tryd.lays169_ren:={
 sizeBuilder:=by kernel_rfl,
 liesBuilder:=by kernel_rfl,
 t5:=Tryd.underlying5,
 a5:=Tryd.isAgg5,
 z5:=Tryd.sizeOf5,
 v5:=Tryd.zeroValue5,
 infoByte:=by kernel_rfl,
 cellsByte:=by kernel_rfl,
 sizeByte:=by kernel_rfl,
 neB5:=by decide }
end Go.Proofs
namespace Go.Eng
open Go Go.Proofs Go.Shelf Go.RowKit
set_option maxHeartbeats 1000000 in
set_option maxRecDepth 100000 in
theorem ab2(b:Nat)(w:World)(h0:w.cell? ⟨b,0,none⟩=some (.pointer (some ⟨b,0,none⟩))):
 Calls Tryd.prog 95 #[.pointer (some ⟨b,0,none⟩)] w fun e w'=>e=.returned (.tuple #[])/\w'=w:=by
 obtain⟨j,hj,_⟩:=Option.map_eq_some_iff.1 Tryd.bldX.sizeBuilder
 have mixed:Tryd.prog.follows Departure.mixedOrders=true:=by kernel_rfl
 go_enter Tryd.func95,Tryd.ntmps95
 go_wp2
 rw[Lib.run_neq_ptr_same w _ Tryd.underlying124 hj]
 go_wp2
 go_end0
 exact⟨rfl,rfl⟩
set_option maxHeartbeats 1000000 in
set_option maxRecDepth 100000 in
theorem ab4(b:Nat)(w:World)(h0:w.cell? ⟨b,0,none⟩=some (.pointer none))(gA:w.shape? b=some (126,2))(p9:w.frozen? ⟨b,0,none⟩=false):
 Calls Tryd.prog 95 #[.pointer (some ⟨b,0,none⟩)] w fun e w'=>e=.returned (.tuple #[])/\w'=w.setCell ⟨b,0,none⟩ (.pointer (some ⟨b,0,none⟩)):=by
 obtain⟨j,hj,fC⟩:=Option.map_eq_some_iff.1 Tryd.bldX.sizeBuilder
 have mixed:Tryd.prog.follows Departure.mixedOrders=true:=by kernel_rfl
 go_enter Tryd.func95,Tryd.ntmps95
 go_wp2
 rw[Lib.run_to_unsafe w ⟨b,0,none⟩ Tryd.underlying124 Tryd.underlying135 hj (by rw[fC];decide) gA (Nat.zero_lt_succ 1)]
 simp only[Result.andThen]
 rw[Oper.upon_value]
 go_wp2
 rw[run_callFunc_extern Tryd.func99 (by kernel_rfl) (by kernel_rfl) (by kernel_rfl) (e:=Extern.AbiNoEscape.same) (by kernel_rfl)]
 rw[Lib.run_noEscape]
 simp only[Result.andThen]
 rw[Oper.upon_value]
 go_wp2
 rw[Lib.run_from_unsafe w ⟨b,0,none⟩ Tryd.underlying135 Tryd.underlying124 hj gA Tryd.bldX.liesBuilder]
 simp only[Result.andThen]
 rw[Oper.upon_value]
 go_wp2
 go_end0
 exact⟨rfl,rfl⟩
theorem ab5(b:Nat)(bs:List Value)(w:World)(h:Lib.IsBuilderF 126 5 b b bs w):
 Calls Tryd.prog 95 #[.pointer (some ⟨b,0,none⟩)] w fun e w'=>e=.returned (.tuple #[])/\(Lib.BuilderAtF 126 5 b b (.pointer (some ⟨b,0,none⟩)) bs w'/\Below b w w'):=by
 rcases h with h | h
 ·refine(ab4 b w h.cell0 h.shape h.frozen0).mono ?_
  rintro e w' ⟨rfl,rfl⟩
  exact⟨rfl,h.used _,(Below.refl b w).setCell (p:=⟨b,0,none⟩) h.1 _⟩
 ·refine(ab2 b w h.cell0).mono ?_
  rintro e w' ⟨rfl,rfl⟩
  exact⟨rfl,h,Below.refl b _⟩
set_option maxHeartbeats 2000000 in
set_option maxRecDepth 100000 in
theorem OL(b:Nat)(bs:List Value)(s:ByteArray)(w:World)(h:Lib.IsBuilderF 126 5 b b bs w)(hlen:bs.length+s.size<=140737488355328)(MB:b<=w.heap.size):
 Calls Tryd.prog 86 #[.pointer (some ⟨b,0,none⟩),.string s] w fun e w'=>e=.returned (.tuple #[.int .i64 s.size,.nilIface])/\(Lib.IsBuilderF 126 5 b b (bs++Lib.strCells s) w'/\Below b w w'):=by
 obtain⟨i0,hi,cA,jj,ma⟩:=info_parts Tryd.bldX.infoByte
 have mixed:Tryd.prog.follows Departure.mixedOrders=true:=by kernel_rfl
 go_enter Tryd.func86,Tryd.ntmps86
 go_wp2_with (go_at_call 95;refine(ab5 b bs _ h).mono ?_)
 rintro e w1 ⟨rfl,h1,fF⟩
 obtain⟨hB,v,Ag,zJ,aj⟩:=h1
 have c0:w1.cell? ⟨b,0,none⟩=some (.pointer (some ⟨b,0,none⟩)):=by rw[Lib.cell_of_heap Ag];rfl
 have c1:w1.cell? ⟨b,1,none⟩=some v:=by rw[Lib.cell_of_heap Ag];rfl
 go_wp2_with (at_builtin;refine Lib.wpList_append_own_stringF _ rfl _ _ 112 9 rfl b 5 i0 Tryd.underlying112 Tryd.underlying9 hi cA jj ma _ _ _ rfl zJ s rfl ?c3 ?c4 ?c5 ?_)
 case c3=>unfold maxLen;omega
 case c4=>omega
 case c5=>have:=fF.size;omega
 intro v' w2 LS Mi _
 have ae:b<w1.heap.size:=by
  rcases Nat.lt_or_ge b w1.heap.size with h' | h'
  ·exact h'
  ·simp[Array.getElem?_eq_none h']at Ag
 have fq:w2.heap[b]?=some (.cells #[.pointer (some ⟨b,0,none⟩),v] 126 (0,0)):=by
  rw[Mi.block b ae (fun e=>aj e.symm)]
  exact Ag
 have d0:w2.cell? ⟨b,0,none⟩=some (.pointer (some ⟨b,0,none⟩)):=by rw[Lib.cell_of_heap fq];rfl
 have d1:w2.cell? ⟨b,1,none⟩=some v:=by rw[Lib.cell_of_heap fq];rfl
 have f1:w2.frozen? ⟨b,1,none⟩=false:=Lib.frozen_of_heap fq 1
 obtain⟨ao,n',cap,rfl⟩:∃ ao n' cap,v'=.slice ao n' cap:=by
  rcases LS.2 with⟨hv,_⟩ | ⟨g,cap,cur,fz,hv,_⟩
  ·exact⟨_,_,_,hv⟩
  ·exact⟨_,_,_,hv⟩
 go_wp2
 go_ret2
 refine⟨rfl,.inr ?_,?_⟩
 ·exact Lib.BuilderAtF.put (T:=126) (e:=5) hB fq (bs':=bs++Lib.strCells s) (by simpa[Lib.strCells_length]using LS) (by decide)
 ·exact(fF.grown Mi (by have:=fF.size;omega) (fun k hk=>(zJ.lt k hk).1)).setCell (p:=⟨b,1,none⟩) hB _
end Go.Eng
set_option linter.unusedVariables false
namespace Go.Eng
open Go Go.Proofs Go.Shelf Go.RowKit
theorem E3(w:World)(k:Nat)(os:Array Obj):w.grownBy (Go.Sort.grow (w.drewN k) os) none:=by
 refine⟨rfl,rfl,rfl,?_,fun b hb _=>?_⟩
 ·show w.heap.size<=(w.heap++os).size
  rw[Array.size_append];omega
 ·show (w.heap++os)[b]?=_
  rw[Array.getElem?_append_left hb]
theorem ab3{b:Nat}{bs:List Value}{w:World}(h:Lib.IsBuilderF 126 5 b b bs w)(k:Nat)(os:Array Obj):Lib.IsBuilderF 126 5 b b bs (Go.Sort.grow (w.drewN k) os):=by
 have key:∀ p,Lib.BuilderAtF 126 5 b b p bs w->Lib.BuilderAtF 126 5 b b p bs (Go.Sort.grow (w.drewN k) os):=by
  intro p h
  have ae:=h.lt
  obtain⟨hB,v,hb,zJ,aj⟩:=h
  refine⟨hB,v,?_,zJ.kept (E3 w k os) ?_,aj⟩
  ·rw[(E3 w k os).block b ae (by simp)];exact hb
  ·cases hv:v.ownBlock with
   |none=>exact .inl rfl
   |some=>exact .inr (by simp)
 exact h.elim (fun h=>.inl (key _ h)) (fun h=>.inr (key _ h))
theorem ace{b:Nat}{w w':World}(h:Below b w w')(hb:b<=w.heap.size)(k:Nat)(os:Array Obj):Below b w (Go.Sort.grow (w'.drewN k) os):=by
 refine h.grown (row:=none) (E3 w' k os) ?_ (fun k hk=>by cases hk)
 have :=h.size
 omega
theorem Ri{w w':World}(h:j7 w)(hb:Below w.heap.size w w'):j7 w':=fun q hq=>by
 obtain⟨T,f,e⟩:=h q hq
 exact⟨T,f,(hb.block _ (Array.getElem?_eq_some_iff.1 e).1).trans e⟩
theorem Rj{w:World}(h:j7 w){name:String}(hn:Tryd.prog.globalNamed name=some 0):Lib.TabIs Tryd.prog w name .u64 Lib.pow10Tab:=by
 obtain⟨T,f,e⟩:=h _ (List.mem_singleton.2 rfl)
 unfold Lib.TabIs World.var?
 rw[hn]
 simp only[Option.bind_some,e]
theorem Xu(n:Int)(h0: -9223372036854775808<=n)(h1:n<=9223372036854775807)(w:World)(ht:j7 w):
 Calls Tryd.prog 87 #[.int .i64 n] w fun e w'=>e=.returned (.string ⟨(Lib.itoa n).toArray⟩)/\∃ k os,w'=Go.Sort.grow (w.drewN k) os:=
 Any.strconv_Itoa Tryd.lays171 n h0 h1 w (Rj ht (by kernel_rfl))
def kf(word:ByteArray)(l:List Int)(k:Nat):List UInt8:=word.data.toList++(l.take k).flatMap fun n=>32::Lib.itoa n
def pJ(word:ByteArray)(l:List Int):List UInt8:=kf word l l.length++[10]
theorem CR(word:ByteArray)(l:List Int){k:Nat}(h:k<l.length):kf word l (k+1)=kf word l k++(32::Lib.itoa l[k]):=by
 unfold kf
 rw[List.take_add_one,List.getElem?_eq_getElem h,List.flatMap_append,List.append_assoc]
 simp
theorem y8(word:ByteArray)(l:List Int)(hr:∀ n∈l,-9223372036854775808<=n/\n<=9223372036854775807):∀ k,k<=l.length->(kf word l k).length<=word.size+22*k
 | 0,_=>by
   unfold kf
   rw[List.take_zero,List.flatMap_nil,List.append_nil,Array.length_toList]
   exact Nat.le_refl _
 |k+1,h=>by
  rw[CR word l (by omega),List.length_append,List.length_cons]
  have h1:=y8 word l hr k (by omega)
  have h2:=hr _ (List.getElem_mem (show k<l.length by omega))
  have h3:=Lib.itoa_length_le l[k] h2.1 h2.2
  omega
set_option maxHeartbeats 4000000 in
set_option maxRecDepth 100000 in
theorem UT(word:ByteArray)(a:Option Addr)(l:List Int)(cap:Nat)(w:World)
 (ha:l=[]\/∃ bl o,a=some ⟨bl,o,none⟩/\bl<w.heap.size/\∀ i (h:i<l.length),w.cell? ⟨bl,o+i,none⟩=some (.int .i64 l[i]))
 (hr:∀ n∈l,-9223372036854775808<=n/\n<=9223372036854775807) (hw:word.size<=1000) (hl:l.length<=1000000) (ht:j7 w):
 Calls Tryd.prog 79 #[.string word,.slice a l.length cap] w fun e w'=>e=.returned (.string ⟨(pJ word l).toArray⟩)/\Below w.heap.size w w':=by
 have mixed:Tryd.prog.follows Departure.mixedOrders=true:=by kernel_rfl
 have h0:Lib.IsBuilderF 126 5 w.heap.size w.heap.size [] (w.alloc (.cells #[.pointer none,.slice none 0 0] 126)):=Lib.IsBuilderF.of (Lib.fresh_isBuilder 126 5 w)
 have b0:Below w.heap.size w (w.alloc (.cells #[.pointer none,.slice none 0 0] 126)):=(Below.refl _ w).alloc (Nat.le_refl _) _
 have hlen:=y8 word l hr
 go_enter Tryd.func79,Tryd.ntmps79
 go_wp2_with (go_at_call 86;refine(OL w.heap.size [] word _ h0 (by simp;omega) b0.size).mono ?_;rintro e W1 ⟨rfl,h1,b1⟩)
 have eW:Lib.IsBuilderF 126 5 w.heap.size w.heap.size (Lib.byteCells (kf word l 0)) W1:=by
  rw[List.nil_append,Lib.strCells_eq]at h1
  unfold kf
  simpa using h1
 have Pb:=b0.trans b1
 clear h0 h1 b0 b1
 go_loopw [12] (fun i wr=>∃ k:Nat,k<=l.length/\i=.int .i64 k/\Lib.IsBuilderF 126 5 w.heap.size w.heap.size (Lib.byteCells (kf word l k)) wr/\Below w.heap.size w wr) (fun i _=>l.length-(intOf i).toNat)
 case atStart=>exact⟨0,Nat.zero_le _,rfl,eW,Pb⟩
 case round=>
  obtain⟨k,hk,rfl,hB,hb⟩:=hrel
  clear eW Pb
  have Yg:=Ri ht hb
  have bh:=hb.size
  by_cases ae:k<l.length
  ·rcases ha with rfl | ⟨bl,o,rfl,ZB,hc⟩
   ·simp at ae
   have agC:wr.cell? ⟨bl,o+k,none⟩=some (.int .i64 l[k]):=by
    rw[<-hc k ae]
    unfold World.cell?
    rw[hb.block bl ZB]
   have zE:=hr _ (List.getElem_mem ae)
   have hL:=hlen k hk
   have hM:=Lib.itoa_length_le l[k] zE.1 zE.2
   have ak:(k:Int)<(l.length:Int):=by omega
   have kT:(⟨#[32]⟩++⟨(Lib.itoa l[k]).toArray⟩:ByteArray)=⟨(32::Lib.itoa l[k]).toArray⟩:=by
    apply ByteArray.ext
    simp
   have Dz:(⟨(32::Lib.itoa l[k]).toArray⟩:ByteArray).size=(Lib.itoa l[k]).length+1:=by
    show ((32::Lib.itoa l[k]).toArray).size=_
    rw[List.size_toArray,List.length_cons]
   go_wp2_with (first
    |(go_at_call 87;refine(Xu l[k] zE.1 zE.2 _ Yg).mono ?_;rintro e W2 ⟨rfl,kk,os,rfl⟩)
    |(go_at_call 86;refine(OL w.heap.size _ _ _ (ab3 hB _ _) ?sz ?le).mono ?_))
   case sz=>rw[Lib.byteCells_length,Dz];omega
   case le=>rw[Go.Sort.size_grow];show w.heap.size<=wr.heap.size+_;omega
   rintro e W3 ⟨rfl,h3,b3⟩
   have uL:Lib.IsBuilderF 126 5 w.heap.size w.heap.size (Lib.byteCells (kf word l (k+1))) W3:=by
    rw[Lib.strCells_eq,<-Lib.byteCells_append]at h3
    rw[CR word l ae]
    exact h3
   have Ai:Below w.heap.size w W3:=(ace hb (Nat.le_refl _) kk os).trans b3
   go_wp2
   go_roundw
   case rel=>exact⟨k+1,ae,by first | (simp[IntKind.wrap_i64];done) | (simp[IntKind.wrap_i64];omega),uL,Ai⟩
   case measure=>
    simp[intOf,IntKind.wrap_i64]
    omega
  ·have sb:k=l.length:=by omega
   subst sb
   have hL:=hlen l.length (Nat.le_refl _)
   go_wp2_with (go_at_call 88;refine(Any.Builder_String_any_k Tryd.lays169 Tryd.bldX w.heap.size w.heap.size _ _ hB hb.size).mono ?_;rintro e W3 ⟨rfl,h3,b3,-⟩)
   go_wp2
   go_ret
   refine⟨?_,hb.trans b3⟩
   have :(⟨(kf word l l.length).toArray⟩++⟨#[10]⟩:ByteArray)=⟨(pJ word l).toArray⟩:=by
    apply ByteArray.ext
    simp[pJ]
   simp[this]
open Go Go.Proofs
def dF(w:ByteArray)(l:List Int):ByteArray:=⟨(pJ w l).toArray⟩
def rL(n:Int):Prop:= -9223372036854775808<=n/\n<=9223372036854775807
noncomputable def P110:PSpec:=p2 uf eO (fun w l=>w.size<=1000/\l.length<=1000000/\∀ n∈l,rL n) (fun w l=>.str (dF w l)) true
noncomputable def S110:Spec:=P110.toSpec
attribute [go_sem] P110 S110
theorem UU{w:ByteArray}{l:List Int}(hw:w.size<=1000)(hl:l.length<=1000000)(hr:∀ n∈l,rL n):(dF w l).size<=23000000:=by
 have h:=y8 w l hr l.length (Nat.le_refl _)
 show (pJ w l).toArray.size<=_
 unfold pJ
 rw[List.size_toArray,List.length_append,List.length_singleton]
 omega
theorem Th:aZ Tryd.prog 79 P110:=by
 refine⟨by decide,js Tryd.func79 rfl (by kernel_rfl),fun h=>IH (fun _ _=>rfl) h,fun m w xs args ht hm hx hp=>?_⟩
 obtain⟨word,l,rfl,⟨h1,h2,h3⟩,hg⟩:=Cp hp
 have hg:P110.fn _=_:=hg
 rw[hg]
 obtain⟨h4,h5⟩:=hx
 have bh:args.size=2:=by simpa using h4.symm
 have e0:=h5 0 (by simp) (by simp[bh])
 have e1:=h5 1 (by simp) (by simp[bh])
 simp only[List.getElem_cons_zero,List.getElem_cons_succ,Array.getElem_toList]at e0 e1
 have mw:args= #[args[0],args[1]]:=by
  apply Array.ext
  ·simp[bh]
  ·intro j a b
   rcases j with _ | _ | j
   ·rfl
   ·rfl
   ·omega
 have key:∀ a0 a1,aB m (.str word) a0->aB m (.sl (l.map vInt)) a1->Calls Tryd.prog 79 #[a0,a1] w fun e w'=>∃ v m',e=.returned v/\RowKit.Below w.heap.size w w'/\Mem.le m m'/\
     (∀ b off c,m' b off=some c->m b off=some c\/(w.heap.size<=b/\w'.cell? ⟨b,off,none⟩=some c))/\aB m' (.str (dF word l)) v:=by
  intro a0 a1 r0 r1
  cases r0
  have fin:∀ a cap,(l=[]\/∃ bl o,a=some ⟨bl,o,none⟩/\bl<w.heap.size/\∀ i (h:i<l.length),w.cell? ⟨bl,o+i,none⟩=some (.int .i64 l[i]))->
      Calls Tryd.prog 79 #[.string word,.slice a l.length cap] w fun e w'=>∃ v m',e=.returned v/\RowKit.Below w.heap.size w w'/\Mem.le m m'/\
   (∀ b off c,m' b off=some c->m b off=some c\/(w.heap.size<=b/\w'.cell? ⟨b,off,none⟩=some c))/\aB m' (.str (dF word l)) v:=by
   intro a cap ha
   refine(UT word a l cap w ha h3 h1 h2 ht).mono ?_
   rintro e w' ⟨rfl,hb⟩
   exact⟨_,m,rfl,hb,Mem.le_refl m,fun b off c h=>.inl h,.str _ (by have:=UU h1 h2 h3;unfold maxLen;omega)⟩
  generalize hL:l.map vInt=L at r1
  cases r1 with
  |slnil a cap=>
   have :l=[]:=List.map_eq_nil_iff.1 hL
   subst this
   exact fin a cap (.inl rfl)
  |sl _ b o cap sz c hn hl jq hs hc hr ho=>
   subst hL
   rw[List.length_map]
   refine fin _ _ (.inr ⟨b,o,rfl,?_,fun i hi=>?_⟩)
   ·have bK:0<l.length:=by
      rcases l with _ | _
      ·simp at hn
      ·simp
    have rU:=hs 0 (by simpa using bK)
    simp only[List.getElem_map,V.cells,List.length_singleton]at rU
    have :=hm _ _ _ (hc 0 0 (by simpa using bK) (by omega))
    exact mI this
   ·have bA:i<(l.map vInt).length:=by simpa using hi
    have rU:=hs i bA
    simp only[List.getElem_map,V.cells,List.length_singleton]at rU
    subst rU
    have h6:=hm _ _ _ (hc i 0 bA (by omega))
    have h7:=hr i 0 bA (by simp[V.cells])
    simp only[List.getElem_map,V.cells,List.getElem_cons_zero]at h7
    have h8:∀ u,aB m (vInt l[i]) u->u=.int .i64 l[i]:=by intro u h;cases h;rfl
    rw[h8 _ h7]at h6
    simpa using h6
 rw[mw]
 exact key _ _ e0 e1
theorem Xn:an Tryd.prog 79 S110:=Th.sound
noncomputable def P98:PSpec:=p3 iI iI iI (fun _ _ _=>True) (fun n lo hi=>.bool (aP n lo hi)) true
noncomputable def S98:Spec:=P98.toSpec
attribute [go_sem] P98 S98
theorem Sr:aZ Tryd.prog 65 P98:=by
 refine w3 (rs:=[.tmp 6]) Tryd.func65 Tryd.ntmps65 (by rfl) (by kernel_rfl) (by decide) (fun _ _ _ _=>rfl) ⟨_,rfl,lb rfl,fun n lo hi hp hw=>?_⟩
 have hP:=bn
 simp only[iI]at hw |-
 have hΓ:=@nk Tryd.prog
 repeat refine sq ?_
 refine rs hΓ [0,1,2] [] ?_
 repeat refine sq ?_
 refine rs hΓ [6] [] ?_
 refine av ?_
 simp only[go_sem]
 all_goals first | rfl | (simp;done) | (simp_all;done)
theorem C3:an Tryd.prog 65 S98:=Sr.sound
noncomputable def P86:PSpec:=p3 iI iI iI (fun _ _ _=>True) (fun n lo hi=>.bool (aP n lo hi)) true
noncomputable def S86:Spec:=P86.toSpec
attribute [go_sem] P86 S86
theorem Sz:aZ Tryd.prog 83 P86:=by
 refine w3 (rs:=[.tmp 6]) Tryd.func83 Tryd.ntmps83 (by rfl) (by kernel_rfl) (by decide) (fun _ _ _ _=>rfl) ⟨_,rfl,lb rfl,fun n lo hi hp hw=>?_⟩
 have hP:=bn
 simp only[iI]at hw |-
 have hΓ:=@nk Tryd.prog
 repeat refine sq ?_
 refine rs hΓ [0,1,2] [] ?_
 repeat refine sq ?_
 refine rs hΓ [6] [] ?_
 refine av ?_
 simp only[go_sem]
 all_goals first | rfl | (simp;done) | (simp_all;done)
theorem C5:an Tryd.prog 83 S86:=Sz.sound
noncomputable def K1:List (Nat×Spec):=[(65,S98),(83,S86)]
theorem vk:∀ f s,tbl K1 f=some s->an Tryd.prog f s:=tc C3<|tc C5<|tn
attribute [go_sem] K1
noncomputable def P82:PSpec:=p1 iI (fun _=>True) (fun n=>.bool (aP n 0 5)) true
noncomputable def S82:Spec:=P82.toSpec
attribute [go_sem] P82 S82
theorem SD:aZ Tryd.prog 34 P82:=by
 refine w1 (rs:=[.tmp 2]) Tryd.func34 Tryd.ntmps34 (by rfl) (by kernel_rfl) (by decide) (fun _ _=>rfl) ⟨_,rfl,lb rfl,fun n hp hw=>?_⟩
 have hP:=bn
 simp only[iI]at hw |-
 have hΓ:=vk
 repeat refine sq ?_
 refine rs hΓ [0] [] ?_
 repeat refine sq ?_
 refine rs hΓ [2] [] ?_
 refine av ?_
 simp only[go_sem]
 all_goals first | rfl | (simp;done) | (simp_all;done)
theorem zf:an Tryd.prog 34 S82:=SD.sound
noncomputable def P84:PSpec:=p1 iI (fun _=>True) (fun n=>.bool (aP n 0 5)) true
noncomputable def S84:Spec:=P84.toSpec
attribute [go_sem] P84 S84
theorem SB:aZ Tryd.prog 90 P84:=by
 refine w1 (rs:=[.tmp 2]) Tryd.func90 Tryd.ntmps90 (by rfl) (by kernel_rfl) (by decide) (fun _ _=>rfl) ⟨_,rfl,lb rfl,fun n hp hw=>?_⟩
 have hP:=bn
 simp only[iI]at hw |-
 have hΓ:=vk
 repeat refine sq ?_
 refine rs hΓ [0] [] ?_
 repeat refine sq ?_
 refine rs hΓ [2] [] ?_
 refine av ?_
 simp only[go_sem]
 all_goals first | rfl | (simp;done) | (simp_all;done)
theorem KQ:an Tryd.prog 90 S84:=SB.sound
noncomputable def P50:PSpec:=p1 iI (fun _=>True) (fun n=>.bool (aP n 1 999)) true
noncomputable def S50:Spec:=P50.toSpec
attribute [go_sem] P50 S50
theorem SX:aZ Tryd.prog 40 P50:=by
 refine w1 (rs:=[.tmp 2]) Tryd.func40 Tryd.ntmps40 (by rfl) (by kernel_rfl) (by decide) (fun _ _=>rfl) ⟨_,rfl,lb rfl,fun n hp hw=>?_⟩
 have hP:=bn
 simp only[iI]at hw |-
 have hΓ:=vk
 repeat refine sq ?_
 refine rs hΓ [0] [] ?_
 repeat refine sq ?_
 refine rs hΓ [2] [] ?_
 refine av ?_
 simp only[go_sem]
 all_goals first | rfl | (simp;done) | (simp_all;done)
theorem C':an Tryd.prog 40 S50:=SX.sound
noncomputable def P55:PSpec:=p1 iI (fun _=>True) (fun n=>.bool (aP n 1 999)) true
noncomputable def S55:Spec:=P55.toSpec
attribute [go_sem] P55 S55
theorem SO:aZ Tryd.prog 76 P55:=by
 refine w1 (rs:=[.tmp 2]) Tryd.func76 Tryd.ntmps76 (by rfl) (by kernel_rfl) (by decide) (fun _ _=>rfl) ⟨_,rfl,lb rfl,fun n hp hw=>?_⟩
 have hP:=bn
 simp only[iI]at hw |-
 have hΓ:=vk
 repeat refine sq ?_
 refine rs hΓ [0] [] ?_
 repeat refine sq ?_
 refine rs hΓ [2] [] ?_
 refine av ?_
 simp only[go_sem]
 all_goals first | rfl | (simp;done) | (simp_all;done)
theorem W7:an Tryd.prog 76 S55:=SO.sound
noncomputable def P79:PSpec:=p1 iI (fun _=>True) (fun n=>.bool (aP n 0 99999)) true
noncomputable def S79:Spec:=P79.toSpec
attribute [go_sem] P79 S79
theorem SF:aZ Tryd.prog 71 P79:=by
 refine w1 (rs:=[.tmp 2]) Tryd.func71 Tryd.ntmps71 (by rfl) (by kernel_rfl) (by decide) (fun _ _=>rfl) ⟨_,rfl,lb rfl,fun n hp hw=>?_⟩
 have hP:=bn
 simp only[iI]at hw |-
 have hΓ:=vk
 repeat refine sq ?_
 refine rs hΓ [0] [] ?_
 repeat refine sq ?_
 refine rs hΓ [2] [] ?_
 refine av ?_
 simp only[go_sem]
 all_goals first | rfl | (simp;done) | (simp_all;done)
theorem C7:an Tryd.prog 71 S79:=SF.sound
noncomputable def P81:PSpec:=p1 iI (fun _=>True) (fun n=>.bool (aP n 0 99999)) true
noncomputable def S81:Spec:=P81.toSpec
attribute [go_sem] P81 S81
theorem SE:aZ Tryd.prog 92 P81:=by
 refine w1 (rs:=[.tmp 2]) Tryd.func92 Tryd.ntmps92 (by rfl) (by kernel_rfl) (by decide) (fun _ _=>rfl) ⟨_,rfl,lb rfl,fun n hp hw=>?_⟩
 have hP:=bn
 simp only[iI]at hw |-
 have hΓ:=vk
 repeat refine sq ?_
 refine rs hΓ [0] [] ?_
 repeat refine sq ?_
 refine rs hΓ [2] [] ?_
 refine av ?_
 simp only[go_sem]
 all_goals first | rfl | (simp;done) | (simp_all;done)
theorem C6:an Tryd.prog 92 S81:=SE.sound
theorem cf{n lo hi:Int}:aP n lo hi=true↔lo<=n/\n<=hi:=by unfold aP;simp
def eH(n:Nat)(f:Nat->Bool):Bool:=(List.range n).all f
theorem gJ{n:Nat}{f:Nat->Bool}:eH n f=true↔∀ j,j<n->f j=true:=by
 unfold eH;rw[List.all_eq_true];exact⟨fun h j hj=>h j (List.mem_range.2 hj),fun h j hj=>h j (List.mem_range.1 hj)⟩
theorem fy{n i:Nat}{f:Nat->Bool}(h:i<n)(hb:f i=false):eH n f=false:=by
 rw[Bool.eq_false_iff];intro k;rw[gJ.1 k i h]at hb;cases hb
theorem jY{n:Nat}{f:Nat->Bool}(h:eH n f=true)(hb:f n=true):eH (n+1) f=true:=gJ.2 fun j hj=>by
 rcases Nat.lt_succ_iff_lt_or_eq.1 hj with h5 | rfl
 ·exact gJ.1 h j h5
 ·exact hb
def kL(l:List Int)(i:Nat):Bool:=aP (l.getD i 0) 1 999&&(i==0||decide (l.getD (i-1) 0<l.getD i 0))
def fX(l:List Int):Bool:=eH l.length (kL l)&&decide (l.length<=40)
def fW(l:List Par)(i:Nat):Bool:=aP (l.getD i default).no 1 99999&&aP (l.getD i default).pa 1 999&&(i==0||(l.getD (i-1) default).no+1==(l.getD i default).no)
def cw(l:List Par):Bool:=eH l.length (fW l)&&decide (l.length<=40)
theorem vG{i n:Nat}(h:i<n)(hn:n<=maxLen):∃ p:Nat,(IntKind.i64.wrap ((i:Int)-1)).toNat=p/\p<n/\p=i-1/\(0<i->0<=IntKind.i64.wrap ((i:Int)-1)/\IntKind.i64.wrap ((i:Int)-1)<n):=by
 unfold maxLen at hn
 rcases Nat.eq_zero_or_pos i with rfl | hp
 ·exact⟨0,by decide,h,rfl,fun h=>by omega⟩
 ·have:IntKind.i64.wrap ((i:Int)-1)=((i-1:Nat):Int):=by rw[wrap_i64 (by omega) (by omega)];omega
  exact⟨i-1,by rw[this];rfl,by omega,rfl,fun _=>by omega⟩
theorem pB{i:Nat}:decide ((i:Int)>0)=!(i==0):=by
 cases i<;>simp
theorem not_lt{a b:Int}:decide (a>=b)=!decide (a<b):=by
 by_cases h:a<b
 ·rw[decide_eq_true h,decide_eq_false (by omega)];rfl
 ·rw[decide_eq_false h,decide_eq_true (by omega)];rfl
noncomputable def Qa:List (Nat×Spec):=[(40,S50),(76,S55),(65,S98),(83,S86)]
theorem Bq:∀ f s,tbl Qa f=some s->an Tryd.prog f s:=tc C'<|tc W7<|tc C3<|tc C5<|tn
attribute [go_sem] Qa
theorem IC{l:List Int}{i p:Nat}(hp:p=i-1)(hi:i<l.length)(bG:p<l.length):(!aP l[i] 1 999||(!(i==0)&&!decide (l[p] <l[i])))=!kL l i:=by
 subst hp
 unfold kL
 rw[getD_at hi,getD_at bG]
 cases aP l[i] 1 999<;>cases (i==0)<;>cases decide (l[i-1] <l[i])<;>rfl
theorem Iz{l:List Par}{i p:Nat}(hp:p=i-1)(hi:i<l.length)(bG:p<l.length):
 (!aP l[i].no 1 99999||(!aP l[i].pa 1 999||(!(i==0)&&(l[p].no+1 != l[i].no))))=!fW l i:=by
 subst hp
 unfold fW
 rw[getD_at hi,getD_at bG]
 have :(l[i-1].no+1 != l[i].no)=!(l[i-1].no+1==l[i].no):=rfl
 rw[this]
 cases aP l[i].no 1 99999<;>cases aP l[i].pa 1 999<;>cases (i==0)<;>cases (l[i-1].no+1==l[i].no)<;>rfl
theorem Ix{l:List Par}{i p:Nat}(hp:p=i-1)(bG:p<l.length)(hR:eH i (fW l)=true)(h0:0<i):IntKind.i64.wrap (l[p].no+1)=l[p].no+1:=by
 have :=gJ.1 hR p (by omega)
 unfold fW at this
 rw[getD_at bG]at this
 simp only[Bool.and_eq_true]at this
 have :=cf.1 this.1.1
 exact wrap_i64 (by omega) (by omega)
noncomputable def P83:PSpec:=p1 eO (fun _=>True) (fun l=>.bool (fX l)) true
noncomputable def S83:Spec:=P83.toSpec
attribute [go_sem] P83 S83
set_option maxHeartbeats 4000000 in
theorem SC:aZ Tryd.prog 35 P83:=by
 refine w1 (rs:=[.tmp 2]) Tryd.func35 Tryd.ntmps35 (by rfl) (by kernel_rfl) (by decide) (fun _ _=>rfl) ⟨_,rfl,lb rfl,fun l hp hw=>?_⟩
 have hP:=bn
 simp only[eO]at hw |-
 have hΓ:=Bq
 have hl:l.length<=maxLen:=by have:=hw.1.1;simpa using this
 repeat refine sq ?_
 refine rs hΓ [0] [] ?_
 repeat refine sq ?_
 refine rs hΓ [0,5,6,7] [] ?_
 repeat refine sq ?_
 refine aL ?_
 repeat refine sq ?_
 refine cN (fun s:Nat=>[(7,⟨true,.v (vInt s)⟩)]) (fun s=>[]) (fun s=>s<=l.length/\eH s (kL l)=true) (fun s=>l.length-s) 0 ?_ ?_ ?_ ?_
 ·exact⟨Nat.zero_le _,rfl⟩
 ·rfl
 ·rfl
 rintro i ⟨hi,hR⟩
 simp only[go_sem]
 repeat refine sq ?_
 refine rs hΓ [0,5,6,7,8] [] ?_
 repeat refine sq ?_
 refine aw rfl rfl (fun hb=>?_) (fun hb=>?_)
 ·have ae:i<l.length:=by simpa using hb
  have ak:(i:Int)<l.length:=by omega
  clear hb
  obtain⟨p,hp,bG,fK,bK⟩:=vG ae hl
  have dz:=IC fK ae bG
  repeat refine sq ?_
  refine aA ?_
  repeat refine sq ?_
  refine aL ?_
  repeat refine sq ?_
  refine rx hΓ [0,3,4,5,6,7] [] (fun K' hK=>by simp only[go_sem,ba ae,Int.toNat_natCast,Int.natCast_nonneg,ak];(repeat (refine⟨ob,?_⟩));exact hK _ (by simp only[go_sem]) (by simp only[go_sem]<;>rfl)) ?_
  repeat refine sq ?_
  refine rx hΓ [0,5,6,7,27] [] (fun K' hK=>by simp only[go_sem,ba ae,Int.toNat_natCast,Int.natCast_nonneg,ak,hp,ba ae,ba bG,Int.toNat_natCast,Int.natCast_nonneg,ak,pB,not_lt];(repeat (refine⟨by first | exact ob | exact fun h=>bK (by simp_all;omega) | (intro h;have:=bK (by simp_all;omega);simp_all;done),?_⟩));exact hK _ (by simp only[go_sem]) (by simp only[go_sem]<;>rfl)) ?_
  repeat refine sq ?_
  refine aw rfl rfl (fun hb=>?_) (fun hb=>?_)
  ·repeat refine sq ?_
   have bt:kL l i=false:=by simpa[dz]using hb
   repeat refine sq ?_
   refine rx hΓ [2] [] (fun K' hK=>by simp only[go_sem,ba ae,Int.toNat_natCast,Int.natCast_nonneg,ak];(repeat (refine⟨ob,?_⟩));exact hK _ (by simp only[go_sem]) (by simp only[go_sem]<;>rfl)) ?_
   refine av ?_
   simp only[go_sem]
   simp only[fX,fy ae bt,Bool.false_and]
  ·repeat refine sq ?_
   have bz:kL l i=true:=by simpa[dz]using hb
   refine aA ?_
   refine dA ?_
   simp only[go_sem]
   refine kp [0,5,6,7] [] ?_
   repeat refine sq ?_
   refine aX hΓ fun K' hK=>?_
   simp only[go_sem,ba ae,Int.toNat_natCast,Int.natCast_nonneg,ak]
   repeat (refine⟨ob,?_⟩)
   refine hK _ ?_
   clear K' hK
   simp only[go_sem]
   refine⟨i+1,⟨ae,?_⟩,by(show l.length-(i+1)<l.length-i;omega),?_⟩
   ·exact jY hR bz
   refine bx [0,5,6,7] [] ?_ ?_
   ·simp only[go_sem,aH ae hl,Int.natCast_add,Int.natCast_one]
   ·simp only[go_sem,aH ae hl,Int.natCast_add,Int.natCast_one]
 ·have bf:i=l.length:=by
   have :¬ (i:Int)<l.length:=by simpa using hb
   omega
  clear hb
  subst bf
  repeat refine sq ?_
  refine cq ?_
  simp only[go_sem]
  refine kp [0] [] ?_
  repeat refine sq ?_
  refine rs hΓ [2] [] ?_
  refine av ?_
  simp only[go_sem]
  simp only[fX,hR,Bool.true_and]
  try (congr 2;apply propext;omega)
theorem KR:an Tryd.prog 35 S83:=SC.sound
noncomputable def P87:PSpec:=p1 lz (fun _=>True) (fun l=>.bool (cw l)) true
noncomputable def S87:Spec:=P87.toSpec
attribute [go_sem] P87 S87
set_option maxHeartbeats 4000000 in
theorem Sy:aZ Tryd.prog 70 P87:=by
 refine w1 (rs:=[.tmp 2]) Tryd.func70 Tryd.ntmps70 (by rfl) (by kernel_rfl) (by decide) (fun _ _=>rfl) ⟨_,rfl,lb rfl,fun l hp hw=>?_⟩
 have hP:=bn
 simp only[lz]at hw |-
 have hΓ:=Bq
 have hl:l.length<=maxLen:=by have:=hw.1.1;simpa using this
 repeat refine sq ?_
 refine rs hΓ [0] [] ?_
 repeat refine sq ?_
 refine rs hΓ [0,5,6,7] [] ?_
 repeat refine sq ?_
 refine aL ?_
 repeat refine sq ?_
 refine cN (fun s:Nat=>[(7,⟨true,.v (vInt s)⟩)]) (fun s=>[]) (fun s=>s<=l.length/\eH s (fW l)=true) (fun s=>l.length-s) 0 ?_ ?_ ?_ ?_
 ·exact⟨Nat.zero_le _,rfl⟩
 ·rfl
 ·rfl
 rintro i ⟨hi,hR⟩
 simp only[go_sem]
 repeat refine sq ?_
 refine rs hΓ [0,5,6,7,8] [] ?_
 repeat refine sq ?_
 refine aw rfl rfl (fun hb=>?_) (fun hb=>?_)
 ·have ae:i<l.length:=by simpa using hb
  have ak:(i:Int)<l.length:=by omega
  clear hb
  obtain⟨p,hp,bG,fK,bK⟩:=vG ae hl
  have dz:=Iz fK ae bG
  repeat refine sq ?_
  refine aA ?_
  repeat refine sq ?_
  refine aL ?_
  repeat refine sq ?_
  refine rx hΓ [0,3,4,5,6,7] [[4,0]] (fun K' hK=>by simp only[go_sem,ba ae,Int.toNat_natCast,Int.natCast_nonneg,ak];(repeat (refine⟨ob,?_⟩));exact hK _ (by simp only[go_sem]) (by simp only[go_sem]<;>rfl)) ?_
  rcases Nat.eq_zero_or_pos i with h0 | h0
  ·have cA:(i==0)=true:=by simp[h0]
   repeat refine sq ?_
   refine dx hΓ hP [[],[0],[0,1],[0,1,2],[0,1,2,3],[0,1,2,3,4],[0,1,2,3,4,5],[0,1,2,3,4,5,6],[0,1,2,3,4,5,6,7],[0,1,2,3,4,5,6,7,8],[0,1,2,3,4,5,6,7,8,9],[0,1,2,3,4,5,6,7,8,9,10],[0,1,2,3,4,5,6,7,8,9,10,11],[0,1,2,3,4,5,6,7,8,9,10,11,12],[0,1,2,3,4,5,6,7,8,9,10,11,12,13],[0,1,2,3,4,5,6,7,8,9,10,11,12,13],[0,1,2,3,4,5,6,7,8,9,10,11,12,13,15],[0,1,2,3,4,5,6,7,8,9,10,11,12,13,14,15,16],[0,1,2,3,4,5,6,7,8,9,10,11,12,13,14,15,16,17],[0,1,2,3,4,5,6,7,8,9,10,11,12,13,14,15,16,17,18],[0,1,2,3,4,5,6,7,8,9,10,11,12,13,14,15,16,17,18,19],[0,1,2,3,4,5,6,7,8,9,10,11,12,13],[0,1,2,3,4,5,6,7,8,9,10,11,12,13,21],[0,1,2,3,4,5,6,7,8,9,10,11,12,13,14,15,16,17,18,19,20,21,22],[0,1,2,3,4,5,6,7,8,9,10,11,12,13,14,15,16,17,18,19,20,21,22,23],[0,1,2,3,4,5,6,7,8,9,10,11,12,13,14,15,16,17,18,19,20,21,22,23,24]] [0,5,6,7,37] [] (by kernel_rfl) (fun K' hK=>by simp only[go_sem,ba ae,Int.toNat_natCast,Int.natCast_nonneg,ak,cA,hp,ba ae,ba bG,Int.toNat_natCast,Int.natCast_nonneg,ak,pB,not_lt];(repeat (refine⟨by first | exact ob | exact fun _=>⟨bZ,cg,rfl⟩ | exact fun _=>⟨bZ,cg⟩,?_⟩));(first | refine⟨by rfl,?_⟩ | skip);exact hK _ (by simp only[go_sem]) (by simp only[go_sem]<;>rfl)) ?_
   repeat refine sq ?_
   refine aw rfl rfl (fun hb=>?_) (fun hb=>?_)
   ·repeat refine sq ?_
    have bt:fW l i=false:=by simpa[cA,hb]using dz.symm
    repeat refine sq ?_
    refine rx hΓ [2] [] (fun K' hK=>by simp only[go_sem,ba ae,Int.toNat_natCast,Int.natCast_nonneg,ak,cA];(repeat (refine⟨ob,?_⟩));exact hK _ (by simp only[go_sem]) (by simp only[go_sem]<;>rfl)) ?_
    refine av ?_
    simp only[go_sem]
    first | simp only[cw,fy ae bt,Bool.false_and] | (simp only[cw,hR,Bool.true_and];done) | (simp only[cw,hR,Bool.true_and];congr 2;apply propext;omega)
   ·repeat refine sq ?_
    have bz:fW l i=true:=by simpa[cA,hb]using dz.symm
    refine aA ?_
    refine dA ?_
    simp only[go_sem]
    refine kp [0,5,6,7] [] ?_
    repeat refine sq ?_
    refine aX hΓ fun K' hK=>?_
    simp only[go_sem,ba ae,Int.toNat_natCast,Int.natCast_nonneg,ak,cA]
    repeat (refine⟨ob,?_⟩)
    refine hK _ ?_
    clear K' hK
    simp only[go_sem]
    refine⟨i+1,⟨ae,?_⟩,by(show l.length-(i+1)<l.length-i;omega),?_⟩
    ·exact jY hR bz
    refine bx [0,5,6,7] [] ?_ ?_
    ·simp only[go_sem,aH ae hl,Int.natCast_add,Int.natCast_one]
    ·simp only[go_sem,aH ae hl,Int.natCast_add,Int.natCast_one]
  ·have oB:=Ix fK bG hR h0
   have cA:(i==0)=false:=by rw[beq_eq_false_iff_ne];omega
   obtain⟨bZ,cg⟩:=bK h0
   repeat refine sq ?_
   refine dx hΓ hP [[],[0],[0,1],[0,1,2],[0,1,2,3],[0,1,2,3,4],[0,1,2,3,4,5],[0,1,2,3,4,5,6],[0,1,2,3,4,5,6,7],[0,1,2,3,4,5,6,7,8],[0,1,2,3,4,5,6,7,8,9],[0,1,2,3,4,5,6,7,8,9,10],[0,1,2,3,4,5,6,7,8,9,10,11],[0,1,2,3,4,5,6,7,8,9,10,11,12],[0,1,2,3,4,5,6,7,8,9,10,11,12,13],[0,1,2,3,4,5,6,7,8,9,10,11,12,13],[0,1,2,3,4,5,6,7,8,9,10,11,12,13,15],[0,1,2,3,4,5,6,7,8,9,10,11,12,13,14,15,16],[0,1,2,3,4,5,6,7,8,9,10,11,12,13,14,15,16,17],[0,1,2,3,4,5,6,7,8,9,10,11,12,13,14,15,16,17,18],[0,1,2,3,4,5,6,7,8,9,10,11,12,13,14,15,16,17,18,19],[0,1,2,3,4,5,6,7,8,9,10,11,12,13],[0,1,2,3,4,5,6,7,8,9,10,11,12,13,21],[0,1,2,3,4,5,6,7,8,9,10,11,12,13,14,15,16,17,18,19,20,21,22],[0,1,2,3,4,5,6,7,8,9,10,11,12,13,14,15,16,17,18,19,20,21,22,23],[0,1,2,3,4,5,6,7,8,9,10,11,12,13,14,15,16,17,18,19,20,21,22,23,24]] [0,5,6,7,37] [] (by kernel_rfl) (fun K' hK=>by simp only[go_sem,ba ae,Int.toNat_natCast,Int.natCast_nonneg,ak,oB,cA,bZ,cg,hp,ba ae,ba bG,Int.toNat_natCast,Int.natCast_nonneg,ak,pB,not_lt];(repeat (refine⟨by first | exact ob | exact fun _=>⟨bZ,cg,rfl⟩ | exact fun _=>⟨bZ,cg⟩,?_⟩));(first | refine⟨by rfl,?_⟩ | skip);exact hK _ (by simp only[go_sem]) (by simp only[go_sem]<;>rfl)) ?_
   repeat refine sq ?_
   refine aw rfl rfl (fun hb=>?_) (fun hb=>?_)
   ·repeat refine sq ?_
    have bt:fW l i=false:=by simpa[cA,<-Bool.or_assoc,hb]using dz.symm
    repeat refine sq ?_
    refine rx hΓ [2] [] (fun K' hK=>by simp only[go_sem,ba ae,Int.toNat_natCast,Int.natCast_nonneg,ak,oB,cA,bZ,cg];(repeat (refine⟨ob,?_⟩));exact hK _ (by simp only[go_sem]) (by simp only[go_sem]<;>rfl)) ?_
    refine av ?_
    simp only[go_sem]
    first | simp only[cw,fy ae bt,Bool.false_and] | (simp only[cw,hR,Bool.true_and];done) | (simp only[cw,hR,Bool.true_and];congr 2;apply propext;omega)
   ·repeat refine sq ?_
    have bz:fW l i=true:=by simpa[cA,<-Bool.or_assoc,hb]using dz.symm
    refine aA ?_
    refine dA ?_
    simp only[go_sem]
    refine kp [0,5,6,7] [] ?_
    repeat refine sq ?_
    refine aX hΓ fun K' hK=>?_
    simp only[go_sem,ba ae,Int.toNat_natCast,Int.natCast_nonneg,ak,oB,cA,bZ,cg]
    repeat (refine⟨ob,?_⟩)
    refine hK _ ?_
    clear K' hK
    simp only[go_sem]
    refine⟨i+1,⟨ae,?_⟩,by(show l.length-(i+1)<l.length-i;omega),?_⟩
    ·exact jY hR bz
    refine bx [0,5,6,7] [] ?_ ?_
    ·simp only[go_sem,aH ae hl,Int.natCast_add,Int.natCast_one]
    ·simp only[go_sem,aH ae hl,Int.natCast_add,Int.natCast_one]
 ·have bf:i=l.length:=by
   have :¬ (i:Int)<l.length:=by simpa using hb
   omega
  clear hb
  subst bf
  repeat refine sq ?_
  refine cq ?_
  simp only[go_sem]
  refine kp [0] [] ?_
  repeat refine sq ?_
  refine rs hΓ [2] [] ?_
  refine av ?_
  simp only[go_sem]
  first | simp only[cw,fy ae bt,Bool.false_and] | (simp only[cw,hR,Bool.true_and];done) | (simp only[cw,hR,Bool.true_and];congr 2;apply propext;omega)
theorem KP:an Tryd.prog 70 S87:=Sy.sound
@[go_sem] theorem ahT{α:Type}(s:aS α)(e:α->V):(s.L e).take 6=s.L e:=rfl
@[go_sem] theorem ahU{α:Type}(s:aS α)(e:α->V):(s.L e).length=6:=rfl
attribute [go_sem] Nat.mul_one
def gv(s:Stk)(i:Nat):Bool:=aP (s.se.get i) 0 99999&&aP (s.ta.get i) 0 99999&&cw (s.un.get i)&&((s.un.get i).length==0||((s.un.get i).getD ((s.un.get i).length-1) default).no==s.se.get i)
def cZ(me:Int)(s:Stk):Bool:=aP me 0 5&&fX s.ho&&((s.un.get me.toNat).length==0)&&(s.se.get me.toNat==0)&&(s.ta.get me.toNat==0)&&eH 6 (gv s)
theorem eu{α:Type}{l:List α}:decide ((l.length:Int)>0)=!(l.length==0):=by
 cases l with
 |nil=>rfl
 |cons a r=>
  have h1:((a::r).length==0)=false:=rfl
  rw[h1]
  simp
theorem Jv{l:List Par}(hl:l.length<=maxLen):∃ p:Nat,(IntKind.i64.wrap ((l.length:Int)-1)).toNat=p/\p=l.length-1/\((l.length==0)=false->p<l.length/\0<=IntKind.i64.wrap ((l.length:Int)-1)/\IntKind.i64.wrap ((l.length:Int)-1)<l.length):=by
 unfold maxLen at hl
 by_cases h:l.length=0
 ·exact⟨0,by rw[h];decide,by omega,fun h2=>by rw[h]at h2;cases h2⟩
 ·have:IntKind.i64.wrap ((l.length:Int)-1)=((l.length-1:Nat):Int):=by rw[wrap_i64 (by omega) (by omega)];omega
  exact⟨l.length-1,by rw[this];rfl,rfl,fun _=>by omega⟩
theorem s7{s:Stk}(h:V.wfL [.agg (aC s)]){i:Nat}(hi:i<6):(s.un.get i).length<=maxLen:=by
 have h1:V.wfL (aC s):=h.1
 have h2:rowP (s.un.get i)∈aC s:=by
  match i,hi with
  | 0,_=>simp[aC,aS.L,aS.get]
  | 1,_=>simp[aC,aS.L,aS.get]
  | 2,_=>simp[aC,aS.L,aS.get]
  | 3,_=>simp[aC,aS.L,aS.get]
  | 4,_=>simp[aC,aS.L,aS.get]
  | 5,_=>simp[aC,aS.L,aS.get]
 have h3:=(G6 h1 _ h2).1
 simpa using h3
theorem TT{l:List Par}{i p:Nat}(hp:p=i-1)(hi:i<l.length)(bG:p<l.length):
 (!aP l[i].pa 1 999||(!aP l[i].no 1 99999||(!(i==0)&&(l[i].no != l[p].no+1))))=!fW l i:=by
 rw[<-Iz hp hi bG]
 have :(l[i].no != l[p].no+1)=(l[p].no+1 != l[i].no):=by
  rw[Bool.eq_iff_iff,bne_iff_ne,bne_iff_ne];exact⟨fun h=>h.symm,fun h=>h.symm⟩
 rw[this]
 cases aP l[i].no 1 99999<;>cases aP l[i].pa 1 999<;>rfl
noncomputable def P85:PSpec:=p1 eO (fun _=>True) (fun l=>.bool (fX l)) true
noncomputable def S85:Spec:=P85.toSpec
attribute [go_sem] P85 S85
set_option maxHeartbeats 4000000 in
theorem SA:aZ Tryd.prog 91 P85:=by
 refine w1 (rs:=[.tmp 2]) Tryd.func91 Tryd.ntmps91 (by rfl) (by kernel_rfl) (by decide) (fun _ _=>rfl) ⟨_,rfl,lb rfl,fun l hp hw=>?_⟩
 have hP:=bn
 simp only[eO]at hw |-
 have hΓ:=Bq
 have hl:l.length<=maxLen:=by have:=hw.1.1;simpa using this
 repeat refine sq ?_
 refine rs hΓ [0] [] ?_
 repeat refine sq ?_
 refine rs hΓ [0,3] [] ?_
 repeat refine sq ?_
 refine aL ?_
 repeat refine sq ?_
 refine cN (fun s:Nat=>[(3,⟨true,.v (vInt s)⟩)]) (fun s=>[]) (fun s=>s<=l.length/\eH s (kL l)=true) (fun s=>l.length-s) 0 ?_ ?_ ?_ ?_
 ·exact⟨Nat.zero_le _,rfl⟩
 ·rfl
 ·rfl
 rintro i ⟨hi,hR⟩
 simp only[go_sem]
 repeat refine sq ?_
 refine rs hΓ [0,3,7] [] ?_
 repeat refine sq ?_
 refine aw rfl rfl (fun hb=>?_) (fun hb=>?_)
 ·have ae:i<l.length:=by simpa using hb
  have ak:(i:Int)<l.length:=by omega
  clear hb
  obtain⟨p,hp,bG,fK,bK⟩:=vG ae hl
  have dz:=IC fK ae bG
  repeat refine sq ?_
  refine aA ?_
  repeat refine sq ?_
  refine aL ?_
  repeat refine sq ?_
  refine dx hΓ hP [[],[],[0,1],[0,1,2],[0,1,2,3],[0,1,2,3,4],[0,1,2,3,4,5],[0,1,2,3,4,5,6],[0,1,2,3,4,5,6,7],[0,1,2,3,4,5,6,7,8],[0,1,2,3,4,5,6,7,8,9],[0,1,2,3,4,5,6,7,8,9],[0,1,2,3,4,5,6,7,8,9,11],[0,1,2,3,4,5,6,7,8,9,10,11,12],[0,1,2,3,4,5,6,7,8,9,10,11,12,13],[0,1,2,3,4,5,6,7,8,9],[0,1,2,3,4,5,6,7,8,9],[0,1,2,3,4,5,6,7,8,9,15,16],[0,1,2,3,4,5,6,7,8,9,15,16,17],[0,1,2,3,4,5,6,7,8,9,10,11,12,13,14,15,16,17,18],[0,1,2,3,4,5,6,7,8,9,10,11,12,13,14,15,16,17,18,19],[0,1,2,3,4,5,6,7,8,9,10,11,12,13,14,15,16,17,18,19,20]] [0,3,31] [] (by kernel_rfl) (fun K' hK=>by simp only[go_sem,ba ae,Int.toNat_natCast,Int.natCast_nonneg,ak,hp,ba ae,ba bG,Int.toNat_natCast,Int.natCast_nonneg,ak,pB,not_lt];(repeat (refine⟨by first | exact ob | exact fun h=>bK (by simp_all;omega) | (intro h;have:=bK (by simp_all;omega);simp_all;done),?_⟩));(first | refine⟨by rfl,?_⟩ | skip);exact hK _ (by simp only[go_sem]) (by simp only[go_sem]<;>rfl)) ?_
  repeat refine sq ?_
  refine aw rfl rfl (fun hb=>?_) (fun hb=>?_)
  ·repeat refine sq ?_
   have bt:kL l i=false:=by simpa[dz]using hb
   repeat refine sq ?_
   refine rx hΓ [2] [] (fun K' hK=>by simp only[go_sem,ba ae,Int.toNat_natCast,Int.natCast_nonneg,ak];(repeat (refine⟨ob,?_⟩));exact hK _ (by simp only[go_sem]) (by simp only[go_sem]<;>rfl)) ?_
   refine av ?_
   simp only[go_sem]
   simp only[fX,fy ae bt,Bool.false_and]
  ·repeat refine sq ?_
   have bz:kL l i=true:=by simpa[dz]using hb
   refine aA ?_
   refine dA ?_
   simp only[go_sem]
   refine kp [0,3] [] ?_
   repeat refine sq ?_
   refine aX hΓ fun K' hK=>?_
   simp only[go_sem,ba ae,Int.toNat_natCast,Int.natCast_nonneg,ak]
   repeat (refine⟨ob,?_⟩)
   refine hK _ ?_
   clear K' hK
   simp only[go_sem]
   refine⟨i+1,⟨ae,?_⟩,by(show l.length-(i+1)<l.length-i;omega),?_⟩
   ·exact jY hR bz
   refine bx [0,3] [] ?_ ?_
   ·simp only[go_sem,aH ae hl,Int.natCast_add,Int.natCast_one]
   ·simp only[go_sem,aH ae hl,Int.natCast_add,Int.natCast_one]
 ·have bf:i=l.length:=by
   have :¬ (i:Int)<l.length:=by simpa using hb
   omega
  clear hb
  subst bf
  repeat refine sq ?_
  refine cq ?_
  simp only[go_sem]
  refine kp [0] [] ?_
  repeat refine sq ?_
  refine rs hΓ [2] [] ?_
  refine av ?_
  simp only[go_sem]
  simp only[fX,hR,Bool.true_and]
  try (congr 2;apply propext;omega)
theorem WQ:an Tryd.prog 91 S85:=SA.sound
noncomputable def P88:PSpec:=p1 lz (fun _=>True) (fun l=>.bool (cw l)) true
noncomputable def S88:Spec:=P88.toSpec
attribute [go_sem] P88 S88
set_option maxHeartbeats 4000000 in
theorem Sw:aZ Tryd.prog 93 P88:=by
 refine w1 (rs:=[.tmp 2]) Tryd.func93 Tryd.ntmps93 (by rfl) (by kernel_rfl) (by decide) (fun _ _=>rfl) ⟨_,rfl,lb rfl,fun l hp hw=>?_⟩
 have hP:=bn
 simp only[lz]at hw |-
 have hΓ:=Bq
 have hl:l.length<=maxLen:=by have:=hw.1.1;simpa using this
 repeat refine sq ?_
 refine rs hΓ [0] [] ?_
 repeat refine sq ?_
 refine rs hΓ [0,3] [] ?_
 repeat refine sq ?_
 refine aL ?_
 repeat refine sq ?_
 refine cN (fun s:Nat=>[(3,⟨true,.v (vInt s)⟩)]) (fun s=>[]) (fun s=>s<=l.length/\eH s (fW l)=true) (fun s=>l.length-s) 0 ?_ ?_ ?_ ?_
 ·exact⟨Nat.zero_le _,rfl⟩
 ·rfl
 ·rfl
 rintro i ⟨hi,hR⟩
 simp only[go_sem]
 repeat refine sq ?_
 refine rs hΓ [0,3,7] [] ?_
 repeat refine sq ?_
 refine aw rfl rfl (fun hb=>?_) (fun hb=>?_)
 ·have ae:i<l.length:=by simpa using hb
  have ak:(i:Int)<l.length:=by omega
  clear hb
  obtain⟨p,hp,bG,fK,bK⟩:=vG ae hl
  have dz:=TT fK ae bG
  repeat refine sq ?_
  refine aA ?_
  repeat refine sq ?_
  refine aL ?_
  repeat refine sq ?_
  rcases Nat.eq_zero_or_pos i with h0 | h0
  ·have cA:(i==0)=true:=by simp[h0]
   repeat refine sq ?_
   refine dx hΓ hP [[],[],[0,1],[0,1,2],[0,1,2,3],[0,1,2,3,4],[0,1,2,3,4,5],[0,1,2,3,4,5,6],[0,1,2,3,4,5,6,7],[0,1,2,3,4,5,6,7],[0,1,2,3,4,5,6,7,8,9],[0,1,2,3,4,5,6,7,8,9,10],[0,1,2,3,4,5,6,7,8,9,10,11],[0,1,2,3,4,5,6,7,8,9,10,11,12],[0,1,2,3,4,5,6,7,8,9,10,11,12,13],[0,1,2,3,4,5,6,7,8,9,10,11,12,13,14],[0,1,2,3,4,5,6,7,8,9,10,11,12,13,14,15],[0,1,2,3,4,5,6,7,8,9,10,11,12,13,14,15,16],[0,1,2,3,4,5,6,7,8,9,10,11,12,13,14,15,16,17],[0,1,2,3,4,5,6,7,8,9,10,11,12,13,14,15,16,17,18],[0,1,2,3,4,5,6,7,8,9,10,11,12,13,14,15,16,17,18,19],[0,1,2,3,4,5,6,7,8,9,10,11,12,13,14,15,16,17,18,19],[0,1,2,3,4,5,6,7,8,9,10,11,12,13,14,15,16,17,18,19,20,21],[0,1,2,3,4,5,6,7,8,9,10,11,12,13,14,15,16,17,18,19,20,21,22],[0,1,2,3,4,5,6,7,8,9,10,11,12,13,14,15,16,17,18,19,20,21,22,23],[0,1,2,3,4,5,6,7,8,9,10,11,12,13,14,15,16,17,18,19],[0,1,2,3,4,5,6,7,8,9,10,11,12,13,14,15,16,17,18,19],[0,1,2,3,4,5,6,7,8,9,10,11,12,13,14,15,16,17,18,19,26],[0,1,2,3,4,5,6,7,8,9,10,11,12,13,14,15,16,17,18,19,25,26,27],[0,1,2,3,4,5,6,7,8,9,10,11,12,13,14,15,16,17,18,19,25,26,27,28],[0,1,2,3,4,5,6,7,8,9,10,11,12,13,14,15,16,17,18,19,25,26,27,28,29],[0,1,2,3,4,5,6,7,8,9,10,11,12,13,14,15,16,17,18,19,25,26,27,28,29,30],[0,1,2,3,4,5,6,7,8,9,10,11,12,13,14,15,16,17,18,19,20,21,22,23,24,25,26,27,28,29,30,31],[0,1,2,3,4,5,6,7,8,9,10,11,12,13,14,15,16,17,18,19,20,21,22,23,24,25,26,27,28,29,30,31,32],[0,1,2,3,4,5,6,7,8,9,10,11,12,13,14,15,16,17,18,19,20,21,22,23,24,25,26,27,28,29,30,31,32,33]] [0,3,44] [] (by kernel_rfl) (fun K' hK=>by simp only[go_sem,ba ae,Int.toNat_natCast,Int.natCast_nonneg,ak,cA,hp,ba ae,ba bG,Int.toNat_natCast,Int.natCast_nonneg,ak,pB,not_lt];(repeat (refine⟨by first | exact ob | exact fun _=>⟨bZ,cg,rfl⟩ | exact fun _=>⟨bZ,cg⟩,?_⟩));(first | refine⟨by rfl,?_⟩ | skip);exact hK _ (by simp only[go_sem]) (by simp only[go_sem]<;>rfl)) ?_
   repeat refine sq ?_
   refine aw rfl rfl (fun hb=>?_) (fun hb=>?_)
   ·repeat refine sq ?_
    have bt:fW l i=false:=by simpa[cA,hb]using dz.symm
    repeat refine sq ?_
    refine rx hΓ [2] [] (fun K' hK=>by simp only[go_sem,ba ae,Int.toNat_natCast,Int.natCast_nonneg,ak,cA];(repeat (refine⟨ob,?_⟩));exact hK _ (by simp only[go_sem]) (by simp only[go_sem]<;>rfl)) ?_
    refine av ?_
    simp only[go_sem]
    first | simp only[cw,fy ae bt,Bool.false_and] | (simp only[cw,hR,Bool.true_and];done) | (simp only[cw,hR,Bool.true_and];congr 2;apply propext;omega)
   ·repeat refine sq ?_
    have bz:fW l i=true:=by simpa[cA,hb]using dz.symm
    refine aA ?_
    refine dA ?_
    simp only[go_sem]
    refine kp [0,3] [] ?_
    repeat refine sq ?_
    refine aX hΓ fun K' hK=>?_
    simp only[go_sem,ba ae,Int.toNat_natCast,Int.natCast_nonneg,ak,cA]
    repeat (refine⟨ob,?_⟩)
    refine hK _ ?_
    clear K' hK
    simp only[go_sem]
    refine⟨i+1,⟨ae,?_⟩,by(show l.length-(i+1)<l.length-i;omega),?_⟩
    ·exact jY hR bz
    refine bx [0,3] [] ?_ ?_
    ·simp only[go_sem,aH ae hl,Int.natCast_add,Int.natCast_one]
    ·simp only[go_sem,aH ae hl,Int.natCast_add,Int.natCast_one]
  ·have oB:=Ix fK bG hR h0
   have cA:(i==0)=false:=by rw[beq_eq_false_iff_ne];omega
   obtain⟨bZ,cg⟩:=bK h0
   repeat refine sq ?_
   refine dx hΓ hP [[],[],[0,1],[0,1,2],[0,1,2,3],[0,1,2,3,4],[0,1,2,3,4,5],[0,1,2,3,4,5,6],[0,1,2,3,4,5,6,7],[0,1,2,3,4,5,6,7],[0,1,2,3,4,5,6,7,8,9],[0,1,2,3,4,5,6,7,8,9,10],[0,1,2,3,4,5,6,7,8,9,10,11],[0,1,2,3,4,5,6,7,8,9,10,11,12],[0,1,2,3,4,5,6,7,8,9,10,11,12,13],[0,1,2,3,4,5,6,7,8,9,10,11,12,13,14],[0,1,2,3,4,5,6,7,8,9,10,11,12,13,14,15],[0,1,2,3,4,5,6,7,8,9,10,11,12,13,14,15,16],[0,1,2,3,4,5,6,7,8,9,10,11,12,13,14,15,16,17],[0,1,2,3,4,5,6,7,8,9,10,11,12,13,14,15,16,17,18],[0,1,2,3,4,5,6,7,8,9,10,11,12,13,14,15,16,17,18,19],[0,1,2,3,4,5,6,7,8,9,10,11,12,13,14,15,16,17,18,19],[0,1,2,3,4,5,6,7,8,9,10,11,12,13,14,15,16,17,18,19,20,21],[0,1,2,3,4,5,6,7,8,9,10,11,12,13,14,15,16,17,18,19,20,21,22],[0,1,2,3,4,5,6,7,8,9,10,11,12,13,14,15,16,17,18,19,20,21,22,23],[0,1,2,3,4,5,6,7,8,9,10,11,12,13,14,15,16,17,18,19],[0,1,2,3,4,5,6,7,8,9,10,11,12,13,14,15,16,17,18,19],[0,1,2,3,4,5,6,7,8,9,10,11,12,13,14,15,16,17,18,19,26],[0,1,2,3,4,5,6,7,8,9,10,11,12,13,14,15,16,17,18,19,25,26,27],[0,1,2,3,4,5,6,7,8,9,10,11,12,13,14,15,16,17,18,19,25,26,27,28],[0,1,2,3,4,5,6,7,8,9,10,11,12,13,14,15,16,17,18,19,25,26,27,28,29],[0,1,2,3,4,5,6,7,8,9,10,11,12,13,14,15,16,17,18,19,25,26,27,28,29,30],[0,1,2,3,4,5,6,7,8,9,10,11,12,13,14,15,16,17,18,19,20,21,22,23,24,25,26,27,28,29,30,31],[0,1,2,3,4,5,6,7,8,9,10,11,12,13,14,15,16,17,18,19,20,21,22,23,24,25,26,27,28,29,30,31,32],[0,1,2,3,4,5,6,7,8,9,10,11,12,13,14,15,16,17,18,19,20,21,22,23,24,25,26,27,28,29,30,31,32,33]] [0,3,44] [] (by kernel_rfl) (fun K' hK=>by simp only[go_sem,ba ae,Int.toNat_natCast,Int.natCast_nonneg,ak,oB,cA,bZ,cg,hp,ba ae,ba bG,Int.toNat_natCast,Int.natCast_nonneg,ak,pB,not_lt];(repeat (refine⟨by first | exact ob | exact fun _=>⟨bZ,cg,rfl⟩ | exact fun _=>⟨bZ,cg⟩,?_⟩));(first | refine⟨by rfl,?_⟩ | skip);exact hK _ (by simp only[go_sem]) (by simp only[go_sem]<;>rfl)) ?_
   repeat refine sq ?_
   refine aw rfl rfl (fun hb=>?_) (fun hb=>?_)
   ·repeat refine sq ?_
    have bt:fW l i=false:=by simpa[cA,<-Bool.or_assoc,hb]using dz.symm
    repeat refine sq ?_
    refine rx hΓ [2] [] (fun K' hK=>by simp only[go_sem,ba ae,Int.toNat_natCast,Int.natCast_nonneg,ak,oB,cA,bZ,cg];(repeat (refine⟨ob,?_⟩));exact hK _ (by simp only[go_sem]) (by simp only[go_sem]<;>rfl)) ?_
    refine av ?_
    simp only[go_sem]
    first | simp only[cw,fy ae bt,Bool.false_and] | (simp only[cw,hR,Bool.true_and];done) | (simp only[cw,hR,Bool.true_and];congr 2;apply propext;omega)
   ·repeat refine sq ?_
    have bz:fW l i=true:=by simpa[cA,<-Bool.or_assoc,hb]using dz.symm
    refine aA ?_
    refine dA ?_
    simp only[go_sem]
    refine kp [0,3] [] ?_
    repeat refine sq ?_
    refine aX hΓ fun K' hK=>?_
    simp only[go_sem,ba ae,Int.toNat_natCast,Int.natCast_nonneg,ak,oB,cA,bZ,cg]
    repeat (refine⟨ob,?_⟩)
    refine hK _ ?_
    clear K' hK
    simp only[go_sem]
    refine⟨i+1,⟨ae,?_⟩,by(show l.length-(i+1)<l.length-i;omega),?_⟩
    ·exact jY hR bz
    refine bx [0,3] [] ?_ ?_
    ·simp only[go_sem,aH ae hl,Int.natCast_add,Int.natCast_one]
    ·simp only[go_sem,aH ae hl,Int.natCast_add,Int.natCast_one]
 ·have bf:i=l.length:=by
   have :¬ (i:Int)<l.length:=by simpa using hb
   omega
  clear hb
  subst bf
  repeat refine sq ?_
  refine cq ?_
  simp only[go_sem]
  refine kp [0] [] ?_
  repeat refine sq ?_
  refine rs hΓ [2] [] ?_
  refine av ?_
  simp only[go_sem]
  first | simp only[cw,fy ae bt,Bool.false_and] | (simp only[cw,hR,Bool.true_and];done) | (simp only[cw,hR,Bool.true_and];congr 2;apply propext;omega)
theorem KO:an Tryd.prog 93 S88:=Sw.sound
noncomputable def K2:List (Nat×Spec):=[(34,S82),(35,S83),(71,S79),(70,S87),(90,S84),(91,S85),(92,S81),(93,S88)]
theorem P5:∀ f s,tbl K2 f=some s->an Tryd.prog f s:=tc zf<|tc KR<|tc C7<|tc KP<|tc KQ<|tc WQ<|tc C6<|tc KO<|tn
attribute [go_sem] K2
theorem Ho{s:Stk}{i p:Nat}(hp:p=(s.un.get i).length-1)(hz:((s.un.get i).length==0)=false)(bG:p<(s.un.get i).length):
 (!aP (s.se.get i) 0 99999||(!aP (s.ta.get i) 0 99999||(!cw (s.un.get i)||(((s.un.get i)[p]).no != s.se.get i))))=!gv s i:=by
 subst hp
 unfold gv
 rw[hz,getD_at bG]
 have :(((s.un.get i)[(s.un.get i).length-1]).no != s.se.get i)=!(((s.un.get i)[(s.un.get i).length-1]).no==s.se.get i):=rfl
 rw[this]
 cases aP (s.se.get i) 0 99999<;>cases aP (s.ta.get i) 0 99999<;>cases cw (s.un.get i)<;>cases ((s.un.get i)[(s.un.get i).length-1].no==s.se.get i)<;>rfl
theorem Hn{s:Stk}{i:Nat}(hz:((s.un.get i).length==0)=true):
 (!aP (s.se.get i) 0 99999||(!aP (s.ta.get i) 0 99999||!cw (s.un.get i)))=!gv s i:=by
 unfold gv
 rw[hz]
 cases aP (s.se.get i) 0 99999<;>cases aP (s.ta.get i) 0 99999<;>cases cw (s.un.get i)<;>rfl
def nA(me:Int)(s:Stk):Bool:=!fX s.ho||(!((s.un.get me.toNat).length==0)||((s.se.get me.toNat != 0)||(s.ta.get me.toNat != 0)))
theorem dM{me:Int}{s:Stk}(aY:aP me 0 5=true):cZ me s=(!nA me s&&eH 6 (gv s)):=by
 unfold cZ nA
 rw[aY]
 have h1:(s.se.get me.toNat != 0)=!(s.se.get me.toNat==0):=rfl
 have h2:(s.ta.get me.toNat != 0)=!(s.ta.get me.toNat==0):=rfl
 rw[h1,h2]
 cases fX s.ho<;>cases ((s.un.get me.toNat).length==0)<;>cases (s.se.get me.toNat==0)<;>cases (s.ta.get me.toNat==0)<;>rfl
noncomputable def P89:PSpec:=p2 iI iQ (fun _ _=>True) (fun me s=>.bool (cZ me s)) true
noncomputable def S89:Spec:=P89.toSpec
attribute [go_sem] P89 S89
set_option maxHeartbeats 4000000 in
theorem Sv:aZ Tryd.prog 78 P89:=by
 refine w2 (rs:=[.tmp 4]) Tryd.func78 Tryd.ntmps78 (by rfl) (by kernel_rfl) (by decide) (fun _ _ _=>rfl) ⟨_,rfl,lb rfl,fun me s hp hw=>?_⟩
 have hP:=bn
 simp only[iI,iQ]at hw |-
 have hΓ:=P5
 repeat refine sq ?_
 refine rs hΓ [0,3] [[3,0]] ?_
 refine aN (cX [3,0] (aC s) rfl [0,3] [[3,0]] ?_ rfl) ?_
 ·simp only[go_sem]
 simp only[go_sem]
 rcases aY:aP me 0 5 with _ | _
 ·repeat refine sq ?_
  refine rx hΓ [3,37] [[3,0]] (fun K' hK=>by simp only[go_sem,aY];(repeat (refine⟨ob,?_⟩));exact hK _ (by simp only[go_sem]) (by simp only[go_sem]<;>rfl)) ?_
  repeat refine sq ?_
  refine aw rfl rfl (fun hb=>?_) (fun hb=>?_)
  ·repeat refine sq ?_
   refine rx hΓ [4] [] (fun K' hK=>by simp only[go_sem,aY];(repeat (refine⟨ob,?_⟩));exact hK _ (by simp only[go_sem]) (by simp only[go_sem]<;>rfl)) ?_
   refine av ?_
   simp only[go_sem]
   first | (simp[cZ,aY];done) | (rw[dM aY,c9];rfl) | (rw[dM aY,c9,fy ae bt];rfl) | (rw[dM aY,c9,hR];rfl)
  ·cases hb
 ·have hm:=cf.1 aY
  have hk:me.toNat<6:=by omega
  have eQ:0<=me:=hm.1
  have ey:me<6:=by omega
  repeat refine sq ?_
  refine rx hΓ [3,37] [[3,0]] (fun K' hK=>by simp only[go_sem,aY,eQ,ey,dt s hk,ee s hk,dN s hk,eu];(repeat (refine⟨ob,?_⟩));exact hK _ (by simp only[go_sem]) (by simp only[go_sem]<;>rfl)) ?_
  repeat refine sq ?_
  refine aw rfl rfl (fun hb=>?_) (fun hb=>?_)
  ·repeat refine sq ?_
   have c9:nA me s=true:=by simpa[nA,<-Bool.or_assoc]using hb
   repeat refine sq ?_
   refine rx hΓ [4] [] (fun K' hK=>by simp only[go_sem,aY,eQ,ey,dt s hk,ee s hk,dN s hk,eu];(repeat (refine⟨ob,?_⟩));exact hK _ (by simp only[go_sem]) (by simp only[go_sem]<;>rfl)) ?_
   refine av ?_
   simp only[go_sem]
   first | (simp[cZ,aY];done) | (rw[dM aY,c9];rfl) | (rw[dM aY,c9,fy ae bt];rfl) | (rw[dM aY,c9,hR];rfl)
  ·repeat refine sq ?_
   have c9:nA me s=false:=by simpa[nA,<-Bool.or_assoc]using hb
   refine aA ?_
   repeat refine sq ?_
   refine rx hΓ [3,39,40] [[3,0]] (fun K' hK=>by simp only[go_sem,aY,eQ,ey,dt s hk,ee s hk,dN s hk,eu];(repeat (refine⟨ob,?_⟩));exact hK _ (by simp only[go_sem]) (by simp only[go_sem]<;>rfl)) ?_
   repeat refine sq ?_
   refine aL ?_
   repeat refine sq ?_
   refine cN (fun z:Nat=>[(40,⟨true,.v (vInt z)⟩)]) (fun z=>[]) (fun z=>z<=6/\eH z (gv s)=true) (fun z=>6-z) 0 ?_ ?_ ?_ ?_
   ·exact⟨Nat.zero_le _,rfl⟩
   ·rfl
   ·rfl
   rintro i ⟨hi,hR⟩
   simp only[go_sem]
   repeat refine sq ?_
   refine rx hΓ [3,39,40,41] [[3,0]] (fun K' hK=>by simp only[go_sem,aY,eQ,ey,dt s hk,ee s hk,dN s hk,eu];(repeat (refine⟨ob,?_⟩));exact hK _ (by simp only[go_sem]) (by simp only[go_sem]<;>rfl)) ?_
   repeat refine sq ?_
   refine aw rfl rfl (fun hb=>?_) (fun hb=>?_)
   ·have ae:i<6:=by have hq:(i:Int)<6:=(by simpa using hb);omega
    have ak:(i:Int)<6:=by omega
    clear hb
    obtain⟨p,hp,fK,bK⟩:=Jv (l:=s.un.get i) (s7 hw.2 ae)
    repeat refine sq ?_
    refine aA ?_
    repeat refine sq ?_
    refine aL ?_
    repeat refine sq ?_
    refine rx hΓ [3,5,6,39,40] [[3,0]] (fun K' hK=>by simp only[go_sem,aY,eQ,ey,dt s hk,ee s hk,dN s hk,eu,Int.toNat_natCast,Int.natCast_nonneg,ak,aS.L_get s.un rowP default ae,Int.toNat_natCast,Int.natCast_nonneg,ak];(repeat (refine⟨ob,?_⟩));exact hK _ (by simp only[go_sem]) (by simp only[go_sem]<;>rfl)) ?_
    rcases hz:((s.un.get i).length==0)with _ | _
    ·obtain⟨bG,bZ,cg⟩:=bK hz
     have dz:=Ho fK hz bG
     repeat refine sq ?_
     refine dx hΓ hP [[],[],[0,1],[0,1,2],[0,1,2,3],[0,1,2,3,4],[0,1,2,3,4,5],[0,1,2,3,4,5,6],[0,1,2,3,4,5,6],[0,1,2,3,4,5,6,7,8],[0,1,2,3,4,5,6,7,8,9],[0,1,2,3,4,5,6,7,8,9,10],[0,1,2,3,4,5,6,7,8,9,10,11],[0,1,2,3,4,5,6,7,8,9,10,11,12],[0,1,2,3,4,5,6,7,8,9,10,11,12,13],[0,1,2,3,4,5,6,7,8,9,10,11,12,13,14],[0,1,2,3,4,5,6,7,8,9,10,11,12,13,14,15],[0,1,2,3,4,5,6,7,8,9,10,11,12,13,14,15,16],[0,1,2,3,4,5,6,7,8,9,10,11,12,13,14,15,16,17],[0,1,2,3,4,5,6,7,8,9,10,11,12,13,14,15,16,17,18],[0,1,2,3,4,5,6,7,8,9,10,11,12,13,14,15,16,17,18,19],[0,1,2,3,4,5,6,7,8,9,10,11,12,13,14,15,16,17,18,19,20],[0,1,2,3,4,5,6,7,8,9,10,11,12,13,14,15,16,17,18,19,20,21],[0,1,2,3,4,5,6,7,8,9,10,11,12,13,14,15,16,17,18,19,20,21,22],[0,1,2,3,4,5,6,7,8,9,10,11,12,13,14,15,16,17,18,19,20,21,22,23],[0,1,2,3,4,5,6,7,8,9,10,11,12,13,14,15,16,17,18,19,20,21,22,23],[0,1,2,3,4,5,6,7,8,9,10,11,12,13,14,15,16,17,18,19,20,21,22,23,25],[0,1,2,3,4,5,6,7,8,9,10,11,12,13,14,15,16,17,18,19,20,21,22,23,25,26],[0,1,2,3,4,5,6,7,8,9,10,11,12,13,14,15,16,17,18,19,20,21,22,23,24,25,26,27],[0,1,2,3,4,5,6,7,8,9,10,11,12,13,14,15,16,17,18,19,20,21,22,23,24,25,26,27,28],[0,1,2,3,4,5,6,7,8,9,10,11,12,13,14,15,16,17,18,19,20,21,22,23,24,25,26,27,28,29],[0,1,2,3,4,5,6,7,8,9,10,11,12,13,14,15,16,17,18,19,20,21,22,23],[0,1,2,3,4,5,6,7,8,9,10,11,12,13,14,15,16,17,18,19,20,21,22,23],[0,1,2,3,4,5,6,7,8,9,10,11,12,13,14,15,16,17,18,19,20,21,22,23,31,32],[0,1,2,3,4,5,6,7,8,9,10,11,12,13,14,15,16,17,18,19,20,21,22,23,31,32,33],[0,1,2,3,4,5,6,7,8,9,10,11,12,13,14,15,16,17,18,19,20,21,22,23,24,25,26,27,28,29,30,31,32,33,34],[0,1,2,3,4,5,6,7,8,9,10,11,12,13,14,15,16,17,18,19,20,21,22,23,24,25,26,27,28,29,30,31,32,33,34,35],[0,1,2,3,4,5,6,7,8,9,10,11,12,13,14,15,16,17,18,19,20,21,22,23,24,25,26,27,28,29,30,31,32,33,34,35,36]] [3,39,40,81] [[3,0]] (by kernel_rfl) (fun K' hK=>by simp only[go_sem,aY,eQ,ey,dt s hk,ee s hk,dN s hk,eu,Int.toNat_natCast,Int.natCast_nonneg,ak,hz,hp,bZ,cg,ba bG,ee s ae,dN s ae,Int.toNat_natCast,Int.natCast_nonneg,ak,eu];(repeat (refine⟨by first | exact ob | exact⟨bZ,cg,rfl⟩ | exact fun _=>⟨bZ,cg,rfl⟩,?_⟩));(first | refine⟨by rfl,?_⟩ | skip);exact hK _ (by simp only[go_sem]) (by simp only[go_sem]<;>rfl)) ?_
     repeat refine sq ?_
     refine aw rfl rfl (fun hb=>?_) (fun hb=>?_)
     ·repeat refine sq ?_
      have bt:gv s i=false:=by simpa[<-Bool.or_assoc,hb]using dz.symm
      repeat refine sq ?_
      refine rx hΓ [4] [] (fun K' hK=>by simp only[go_sem,aY,eQ,ey,dt s hk,ee s hk,dN s hk,eu,Int.toNat_natCast,Int.natCast_nonneg,ak,hz,hp,bZ,cg,ba bG];(repeat (refine⟨ob,?_⟩));exact hK _ (by simp only[go_sem]) (by simp only[go_sem]<;>rfl)) ?_
      refine av ?_
      simp only[go_sem]
      first | (simp[cZ,aY];done) | (rw[dM aY,c9];rfl) | (rw[dM aY,c9,fy ae bt];rfl) | (rw[dM aY,c9,hR];rfl)
     ·repeat refine sq ?_
      have bz:gv s i=true:=by simpa[<-Bool.or_assoc,hb]using dz.symm
      refine aA ?_
      refine dA ?_
      simp only[go_sem]
      refine kp [3,39,40] [[3,0]] ?_
      repeat refine sq ?_
      refine aX hΓ fun K' hK=>?_
      simp only[go_sem,aY,eQ,ey,dt s hk,ee s hk,dN s hk,eu,Int.toNat_natCast,Int.natCast_nonneg,ak,hz,hp,bZ,cg,ba bG]
      repeat (refine⟨ob,?_⟩)
      refine hK _ ?_
      clear K' hK
      simp only[go_sem]
      refine⟨i+1,⟨ae,?_⟩,by(show 6-(i+1)<6-i;omega),?_⟩
      ·exact jY hR bz
      refine bx [3,39,40] [[3,0]] ?_ ?_
      ·simp only[go_sem,aH ae (lb rfl:(6:Nat)<=maxLen),Int.natCast_add,Int.natCast_one]
      ·simp only[go_sem,aH ae (lb rfl:(6:Nat)<=maxLen),Int.natCast_add,Int.natCast_one]
    ·have dz:=Hn hz
     repeat refine sq ?_
     refine dx hΓ hP [[],[],[0,1],[0,1,2],[0,1,2,3],[0,1,2,3,4],[0,1,2,3,4,5],[0,1,2,3,4,5,6],[0,1,2,3,4,5,6],[0,1,2,3,4,5,6,7,8],[0,1,2,3,4,5,6,7,8,9],[0,1,2,3,4,5,6,7,8,9,10],[0,1,2,3,4,5,6,7,8,9,10,11],[0,1,2,3,4,5,6,7,8,9,10,11,12],[0,1,2,3,4,5,6,7,8,9,10,11,12,13],[0,1,2,3,4,5,6,7,8,9,10,11,12,13,14],[0,1,2,3,4,5,6,7,8,9,10,11,12,13,14,15],[0,1,2,3,4,5,6,7,8,9,10,11,12,13,14,15,16],[0,1,2,3,4,5,6,7,8,9,10,11,12,13,14,15,16,17],[0,1,2,3,4,5,6,7,8,9,10,11,12,13,14,15,16,17,18],[0,1,2,3,4,5,6,7,8,9,10,11,12,13,14,15,16,17,18,19],[0,1,2,3,4,5,6,7,8,9,10,11,12,13,14,15,16,17,18,19,20],[0,1,2,3,4,5,6,7,8,9,10,11,12,13,14,15,16,17,18,19,20,21],[0,1,2,3,4,5,6,7,8,9,10,11,12,13,14,15,16,17,18,19,20,21,22],[0,1,2,3,4,5,6,7,8,9,10,11,12,13,14,15,16,17,18,19,20,21,22,23],[0,1,2,3,4,5,6,7,8,9,10,11,12,13,14,15,16,17,18,19,20,21,22,23],[0,1,2,3,4,5,6,7,8,9,10,11,12,13,14,15,16,17,18,19,20,21,22,23,25],[0,1,2,3,4,5,6,7,8,9,10,11,12,13,14,15,16,17,18,19,20,21,22,23,25,26],[0,1,2,3,4,5,6,7,8,9,10,11,12,13,14,15,16,17,18,19,20,21,22,23,24,25,26,27],[0,1,2,3,4,5,6,7,8,9,10,11,12,13,14,15,16,17,18,19,20,21,22,23,24,25,26,27,28],[0,1,2,3,4,5,6,7,8,9,10,11,12,13,14,15,16,17,18,19,20,21,22,23,24,25,26,27,28,29],[0,1,2,3,4,5,6,7,8,9,10,11,12,13,14,15,16,17,18,19,20,21,22,23],[0,1,2,3,4,5,6,7,8,9,10,11,12,13,14,15,16,17,18,19,20,21,22,23],[0,1,2,3,4,5,6,7,8,9,10,11,12,13,14,15,16,17,18,19,20,21,22,23,31,32],[0,1,2,3,4,5,6,7,8,9,10,11,12,13,14,15,16,17,18,19,20,21,22,23,31,32,33],[0,1,2,3,4,5,6,7,8,9,10,11,12,13,14,15,16,17,18,19,20,21,22,23,24,25,26,27,28,29,30,31,32,33,34],[0,1,2,3,4,5,6,7,8,9,10,11,12,13,14,15,16,17,18,19,20,21,22,23,24,25,26,27,28,29,30,31,32,33,34,35],[0,1,2,3,4,5,6,7,8,9,10,11,12,13,14,15,16,17,18,19,20,21,22,23,24,25,26,27,28,29,30,31,32,33,34,35,36]] [3,39,40,81] [[3,0]] (by kernel_rfl) (fun K' hK=>by simp only[go_sem,aY,eQ,ey,dt s hk,ee s hk,dN s hk,eu,Int.toNat_natCast,Int.natCast_nonneg,ak,hz,ee s ae,dN s ae,Int.toNat_natCast,Int.natCast_nonneg,ak,eu];(repeat (refine⟨by first | exact ob | exact⟨bZ,cg,rfl⟩ | exact fun _=>⟨bZ,cg,rfl⟩,?_⟩));(first | refine⟨by rfl,?_⟩ | skip);exact hK _ (by simp only[go_sem]) (by simp only[go_sem]<;>rfl)) ?_
     repeat refine sq ?_
     refine aw rfl rfl (fun hb=>?_) (fun hb=>?_)
     ·repeat refine sq ?_
      have bt:gv s i=false:=by simpa[<-Bool.or_assoc,hb]using dz.symm
      repeat refine sq ?_
      refine rx hΓ [4] [] (fun K' hK=>by simp only[go_sem,aY,eQ,ey,dt s hk,ee s hk,dN s hk,eu,Int.toNat_natCast,Int.natCast_nonneg,ak,hz];(repeat (refine⟨ob,?_⟩));exact hK _ (by simp only[go_sem]) (by simp only[go_sem]<;>rfl)) ?_
      refine av ?_
      simp only[go_sem]
      first | (simp[cZ,aY];done) | (rw[dM aY,c9];rfl) | (rw[dM aY,c9,fy ae bt];rfl) | (rw[dM aY,c9,hR];rfl)
     ·repeat refine sq ?_
      have bz:gv s i=true:=by simpa[<-Bool.or_assoc,hb]using dz.symm
      refine aA ?_
      refine dA ?_
      simp only[go_sem]
      refine kp [3,39,40] [[3,0]] ?_
      repeat refine sq ?_
      refine aX hΓ fun K' hK=>?_
      simp only[go_sem,aY,eQ,ey,dt s hk,ee s hk,dN s hk,eu,Int.toNat_natCast,Int.natCast_nonneg,ak,hz]
      repeat (refine⟨ob,?_⟩)
      refine hK _ ?_
      clear K' hK
      simp only[go_sem]
      refine⟨i+1,⟨ae,?_⟩,by(show 6-(i+1)<6-i;omega),?_⟩
      ·exact jY hR bz
      refine bx [3,39,40] [[3,0]] ?_ ?_
      ·simp only[go_sem,aH ae (lb rfl:(6:Nat)<=maxLen),Int.natCast_add,Int.natCast_one]
      ·simp only[go_sem,aH ae (lb rfl:(6:Nat)<=maxLen),Int.natCast_add,Int.natCast_one]
   ·have bf:i=6:=by
     have :¬ (i:Int)<6:=by simpa using hb
     omega
    clear hb
    subst bf
    repeat refine sq ?_
    refine cq ?_
    simp only[go_sem]
    refine kp [] [] ?_
    repeat refine sq ?_
    refine rx hΓ [4] [] (fun K' hK=>by simp only[go_sem,aY,eQ,ey,dt s hk,ee s hk,dN s hk,eu];(repeat (refine⟨ob,?_⟩));exact hK _ (by simp only[go_sem]) (by simp only[go_sem]<;>rfl)) ?_
    refine av ?_
    simp only[go_sem]
    first | (simp[cZ,aY];done) | (rw[dM aY,c9];rfl) | (rw[dM aY,c9,fy ae bt];rfl) | (rw[dM aY,c9,hR];rfl)
theorem C4:an Tryd.prog 78 S89:=Sv.sound
def fb(me:Int)(s:Stk):Int:=if cZ me s=true then 0 else 90
def vt(s:Stk):Bool:=!eH 6 fun m=>!cZ m s
def fR(b:Bag):Bool:=aP b.fr 0 5&&aP b.to 0 5&&(b.fr != b.to)&&cw b.ps&&aP b.ta 0 99999
def sQ(b:Bag):Int:=if fR b=true then 0 else 93
noncomputable def P43:PSpec:=p2 iI iQ (fun _ _=>True) (fun me s=>vInt (fb me s)) true
noncomputable def S43:Spec:=P43.toSpec
attribute [go_sem] P43 S43
set_option maxHeartbeats 4000000 in
theorem SZ:aZ Tryd.prog 84 P43:=by
 refine w2 (rs:=[.tmp 4]) Tryd.func84 Tryd.ntmps84 (by rfl) (by kernel_rfl) (by decide) (fun _ _ _=>rfl) ⟨_,rfl,lb rfl,fun me s hp hw=>?_⟩
 have hP:=bn
 simp only[iI,iQ]at hw |-
 have hΓ:=P5
 repeat refine sq ?_
 refine rs hΓ [0,3] [[3,0]] ?_
 refine aN (cX [3,0] (aC s) rfl [0,3] [[3,0]] ?_ rfl) ?_
 ·simp only[go_sem]
 simp only[go_sem]
 rcases aY:aP me 0 5 with _ | _
 ·repeat refine sq ?_
  refine rx hΓ [3,37] [[3,0]] (fun K' hK=>by simp only[go_sem,aY];(repeat (refine⟨ob,?_⟩));exact hK _ (by simp only[go_sem]) (by simp only[go_sem]<;>rfl)) ?_
  repeat refine sq ?_
  refine aw rfl rfl (fun hb=>?_) (fun hb=>?_)
  ·repeat refine sq ?_
   refine rx hΓ [4] [] (fun K' hK=>by simp only[go_sem,aY];(repeat (refine⟨ob,?_⟩));exact hK _ (by simp only[go_sem]) (by simp only[go_sem]<;>rfl)) ?_
   refine av ?_
   simp only[go_sem]
   first | (simp[fb,cZ,aY];done) | (unfold fb;rw[dM aY,c9];rfl) | (unfold fb;rw[dM aY,c9,fy ae bt];rfl) | (unfold fb;rw[dM aY,c9,hR];rfl)
  ·cases hb
 ·have hm:=cf.1 aY
  have hk:me.toNat<6:=by omega
  have eQ:0<=me:=hm.1
  have ey:me<6:=by omega
  repeat refine sq ?_
  refine rx hΓ [3,37] [[3,0]] (fun K' hK=>by simp only[go_sem,aY,eQ,ey,dt s hk,ee s hk,dN s hk,eu];(repeat (refine⟨ob,?_⟩));exact hK _ (by simp only[go_sem]) (by simp only[go_sem]<;>rfl)) ?_
  repeat refine sq ?_
  refine aw rfl rfl (fun hb=>?_) (fun hb=>?_)
  ·repeat refine sq ?_
   have c9:nA me s=true:=by simpa[nA,<-Bool.or_assoc]using hb
   repeat refine sq ?_
   refine rx hΓ [4] [] (fun K' hK=>by simp only[go_sem,aY,eQ,ey,dt s hk,ee s hk,dN s hk,eu];(repeat (refine⟨ob,?_⟩));exact hK _ (by simp only[go_sem]) (by simp only[go_sem]<;>rfl)) ?_
   refine av ?_
   simp only[go_sem]
   first | (simp[fb,cZ,aY];done) | (unfold fb;rw[dM aY,c9];rfl) | (unfold fb;rw[dM aY,c9,fy ae bt];rfl) | (unfold fb;rw[dM aY,c9,hR];rfl)
  ·repeat refine sq ?_
   have c9:nA me s=false:=by simpa[nA,<-Bool.or_assoc]using hb
   refine aA ?_
   repeat refine sq ?_
   refine rx hΓ [3,5] [[3,0]] (fun K' hK=>by simp only[go_sem,aY,eQ,ey,dt s hk,ee s hk,dN s hk,eu];(repeat (refine⟨ob,?_⟩));exact hK _ (by simp only[go_sem]) (by simp only[go_sem]<;>rfl)) ?_
   repeat refine sq ?_
   refine aL ?_
   repeat refine sq ?_
   refine cN (fun z:Nat=>[(5,⟨true,.v (vInt z)⟩)]) (fun z=>[]) (fun z=>z<=6/\eH z (gv s)=true) (fun z=>6-z) 0 ?_ ?_ ?_ ?_
   ·exact⟨Nat.zero_le _,rfl⟩
   ·rfl
   ·rfl
   rintro i ⟨hi,hR⟩
   simp only[go_sem]
   repeat refine sq ?_
   refine rx hΓ [3,5,39] [[3,0]] (fun K' hK=>by simp only[go_sem,aY,eQ,ey,dt s hk,ee s hk,dN s hk,eu];(repeat (refine⟨ob,?_⟩));exact hK _ (by simp only[go_sem]) (by simp only[go_sem]<;>rfl)) ?_
   repeat refine sq ?_
   refine aw rfl rfl (fun hb=>?_) (fun hb=>?_)
   ·have ae:i<6:=by have hq:(i:Int)<6:=(by simpa using hb);omega
    have ak:(i:Int)<6:=by omega
    clear hb
    obtain⟨p,hp,fK,bK⟩:=Jv (l:=s.un.get i) (s7 hw.2 ae)
    repeat refine sq ?_
    refine aA ?_
    repeat refine sq ?_
    refine aL ?_
    repeat refine sq ?_
    refine rx hΓ [3,5,6] [[3,0]] (fun K' hK=>by simp only[go_sem,aY,eQ,ey,dt s hk,ee s hk,dN s hk,eu,Int.toNat_natCast,Int.natCast_nonneg,ak,dt s ae,Int.toNat_natCast,Int.natCast_nonneg,ak];(repeat (refine⟨ob,?_⟩));exact hK _ (by simp only[go_sem]) (by simp only[go_sem]<;>rfl)) ?_
    rcases hz:((s.un.get i).length==0)with _ | _
    ·obtain⟨bG,bZ,cg⟩:=bK hz
     have dz:=Ho fK hz bG
     repeat refine sq ?_
     refine dx hΓ hP [[],[],[0,1],[0,1,2],[0,1,2,3],[0,1,2,3,4],[0,1,2,3,4,5],[0,1,2,3,4,5,6],[0,1,2,3,4,5,6],[0,1,2,3,4,5,6,7,8],[0,1,2,3,4,5,6,7,8,9],[0,1,2,3,4,5,6,7,8,9,10],[0,1,2,3,4,5,6,7,8,9,10,11],[0,1,2,3,4,5,6,7,8,9,10,11,12],[0,1,2,3,4,5,6,7,8,9,10,11,12,13],[0,1,2,3,4,5,6,7,8,9,10,11,12,13,14],[0,1,2,3,4,5,6,7,8,9,10,11,12,13,14,15],[0,1,2,3,4,5,6,7,8,9,10,11,12,13,14,15,16],[0,1,2,3,4,5,6,7,8,9,10,11,12,13,14,15,16,17],[0,1,2,3,4,5,6,7,8,9,10,11,12,13,14,15,16,17,18],[0,1,2,3,4,5,6,7,8,9,10,11,12,13,14,15,16,17,18,19],[0,1,2,3,4,5,6,7,8,9,10,11,12,13,14,15,16,17,18,19,20],[0,1,2,3,4,5,6,7,8,9,10,11,12,13,14,15,16,17,18,19,20,21],[0,1,2,3,4,5,6,7,8,9,10,11,12,13,14,15,16,17,18,19,20,21,22],[0,1,2,3,4,5,6,7,8,9,10,11,12,13,14,15,16,17,18,19,20,21,22,23],[0,1,2,3,4,5,6,7,8,9,10,11,12,13,14,15,16,17,18,19,20,21,22,23],[0,1,2,3,4,5,6,7,8,9,10,11,12,13,14,15,16,17,18,19,20,21,22,23,25],[0,1,2,3,4,5,6,7,8,9,10,11,12,13,14,15,16,17,18,19,20,21,22,23,25,26],[0,1,2,3,4,5,6,7,8,9,10,11,12,13,14,15,16,17,18,19,20,21,22,23,24,25,26,27],[0,1,2,3,4,5,6,7,8,9,10,11,12,13,14,15,16,17,18,19,20,21,22,23,24,25,26,27,28],[0,1,2,3,4,5,6,7,8,9,10,11,12,13,14,15,16,17,18,19,20,21,22,23,24,25,26,27,28,29],[0,1,2,3,4,5,6,7,8,9,10,11,12,13,14,15,16,17,18,19,20,21,22,23],[0,1,2,3,4,5,6,7,8,9,10,11,12,13,14,15,16,17,18,19,20,21,22,23],[0,1,2,3,4,5,6,7,8,9,10,11,12,13,14,15,16,17,18,19,20,21,22,23,31,32],[0,1,2,3,4,5,6,7,8,9,10,11,12,13,14,15,16,17,18,19,20,21,22,23,31,32,33],[0,1,2,3,4,5,6,7,8,9,10,11,12,13,14,15,16,17,18,19,20,21,22,23,24,25,26,27,28,29,30,31,32,33,34],[0,1,2,3,4,5,6,7,8,9,10,11,12,13,14,15,16,17,18,19,20,21,22,23,24,25,26,27,28,29,30,31,32,33,34,35],[0,1,2,3,4,5,6,7,8,9,10,11,12,13,14,15,16,17,18,19,20,21,22,23,24,25,26,27,28,29,30,31,32,33,34,35,36]] [3,5,83] [[3,0]] (by kernel_rfl) (fun K' hK=>by simp only[go_sem,aY,eQ,ey,dt s hk,ee s hk,dN s hk,eu,Int.toNat_natCast,Int.natCast_nonneg,ak,hz,hp,bZ,cg,ba bG,ee s ae,dN s ae,Int.toNat_natCast,Int.natCast_nonneg,ak,eu];(repeat (refine⟨by first | exact ob | exact⟨bZ,cg,rfl⟩ | exact fun _=>⟨bZ,cg,rfl⟩,?_⟩));(first | refine⟨by rfl,?_⟩ | skip);exact hK _ (by simp only[go_sem]) (by simp only[go_sem]<;>rfl)) ?_
     repeat refine sq ?_
     refine aw rfl rfl (fun hb=>?_) (fun hb=>?_)
     ·repeat refine sq ?_
      have bt:gv s i=false:=by simpa[<-Bool.or_assoc,hb]using dz.symm
      repeat refine sq ?_
      refine rx hΓ [4] [] (fun K' hK=>by simp only[go_sem,aY,eQ,ey,dt s hk,ee s hk,dN s hk,eu,Int.toNat_natCast,Int.natCast_nonneg,ak,hz,hp,bZ,cg,ba bG];(repeat (refine⟨ob,?_⟩));exact hK _ (by simp only[go_sem]) (by simp only[go_sem]<;>rfl)) ?_
      refine av ?_
      simp only[go_sem]
      first | (simp[fb,cZ,aY];done) | (unfold fb;rw[dM aY,c9];rfl) | (unfold fb;rw[dM aY,c9,fy ae bt];rfl) | (unfold fb;rw[dM aY,c9,hR];rfl)
     ·repeat refine sq ?_
      have bz:gv s i=true:=by simpa[<-Bool.or_assoc,hb]using dz.symm
      refine aA ?_
      refine dA ?_
      simp only[go_sem]
      refine kp [3,5] [[3,0]] ?_
      repeat refine sq ?_
      refine aX hΓ fun K' hK=>?_
      simp only[go_sem,aY,eQ,ey,dt s hk,ee s hk,dN s hk,eu,Int.toNat_natCast,Int.natCast_nonneg,ak,hz,hp,bZ,cg,ba bG]
      repeat (refine⟨ob,?_⟩)
      refine hK _ ?_
      clear K' hK
      simp only[go_sem]
      refine⟨i+1,⟨ae,?_⟩,by(show 6-(i+1)<6-i;omega),?_⟩
      ·exact jY hR bz
      refine bx [3,5] [[3,0]] ?_ ?_
      ·simp only[go_sem,aH ae (lb rfl:(6:Nat)<=maxLen),Int.natCast_add,Int.natCast_one]
      ·simp only[go_sem,aH ae (lb rfl:(6:Nat)<=maxLen),Int.natCast_add,Int.natCast_one]
    ·have dz:=Hn hz
     repeat refine sq ?_
     refine dx hΓ hP [[],[],[0,1],[0,1,2],[0,1,2,3],[0,1,2,3,4],[0,1,2,3,4,5],[0,1,2,3,4,5,6],[0,1,2,3,4,5,6],[0,1,2,3,4,5,6,7,8],[0,1,2,3,4,5,6,7,8,9],[0,1,2,3,4,5,6,7,8,9,10],[0,1,2,3,4,5,6,7,8,9,10,11],[0,1,2,3,4,5,6,7,8,9,10,11,12],[0,1,2,3,4,5,6,7,8,9,10,11,12,13],[0,1,2,3,4,5,6,7,8,9,10,11,12,13,14],[0,1,2,3,4,5,6,7,8,9,10,11,12,13,14,15],[0,1,2,3,4,5,6,7,8,9,10,11,12,13,14,15,16],[0,1,2,3,4,5,6,7,8,9,10,11,12,13,14,15,16,17],[0,1,2,3,4,5,6,7,8,9,10,11,12,13,14,15,16,17,18],[0,1,2,3,4,5,6,7,8,9,10,11,12,13,14,15,16,17,18,19],[0,1,2,3,4,5,6,7,8,9,10,11,12,13,14,15,16,17,18,19,20],[0,1,2,3,4,5,6,7,8,9,10,11,12,13,14,15,16,17,18,19,20,21],[0,1,2,3,4,5,6,7,8,9,10,11,12,13,14,15,16,17,18,19,20,21,22],[0,1,2,3,4,5,6,7,8,9,10,11,12,13,14,15,16,17,18,19,20,21,22,23],[0,1,2,3,4,5,6,7,8,9,10,11,12,13,14,15,16,17,18,19,20,21,22,23],[0,1,2,3,4,5,6,7,8,9,10,11,12,13,14,15,16,17,18,19,20,21,22,23,25],[0,1,2,3,4,5,6,7,8,9,10,11,12,13,14,15,16,17,18,19,20,21,22,23,25,26],[0,1,2,3,4,5,6,7,8,9,10,11,12,13,14,15,16,17,18,19,20,21,22,23,24,25,26,27],[0,1,2,3,4,5,6,7,8,9,10,11,12,13,14,15,16,17,18,19,20,21,22,23,24,25,26,27,28],[0,1,2,3,4,5,6,7,8,9,10,11,12,13,14,15,16,17,18,19,20,21,22,23,24,25,26,27,28,29],[0,1,2,3,4,5,6,7,8,9,10,11,12,13,14,15,16,17,18,19,20,21,22,23],[0,1,2,3,4,5,6,7,8,9,10,11,12,13,14,15,16,17,18,19,20,21,22,23],[0,1,2,3,4,5,6,7,8,9,10,11,12,13,14,15,16,17,18,19,20,21,22,23,31,32],[0,1,2,3,4,5,6,7,8,9,10,11,12,13,14,15,16,17,18,19,20,21,22,23,31,32,33],[0,1,2,3,4,5,6,7,8,9,10,11,12,13,14,15,16,17,18,19,20,21,22,23,24,25,26,27,28,29,30,31,32,33,34],[0,1,2,3,4,5,6,7,8,9,10,11,12,13,14,15,16,17,18,19,20,21,22,23,24,25,26,27,28,29,30,31,32,33,34,35],[0,1,2,3,4,5,6,7,8,9,10,11,12,13,14,15,16,17,18,19,20,21,22,23,24,25,26,27,28,29,30,31,32,33,34,35,36]] [3,5,83] [[3,0]] (by kernel_rfl) (fun K' hK=>by simp only[go_sem,aY,eQ,ey,dt s hk,ee s hk,dN s hk,eu,Int.toNat_natCast,Int.natCast_nonneg,ak,hz,ee s ae,dN s ae,Int.toNat_natCast,Int.natCast_nonneg,ak,eu];(repeat (refine⟨by first | exact ob | exact⟨bZ,cg,rfl⟩ | exact fun _=>⟨bZ,cg,rfl⟩,?_⟩));(first | refine⟨by rfl,?_⟩ | skip);exact hK _ (by simp only[go_sem]) (by simp only[go_sem]<;>rfl)) ?_
     repeat refine sq ?_
     refine aw rfl rfl (fun hb=>?_) (fun hb=>?_)
     ·repeat refine sq ?_
      have bt:gv s i=false:=by simpa[<-Bool.or_assoc,hb]using dz.symm
      repeat refine sq ?_
      refine rx hΓ [4] [] (fun K' hK=>by simp only[go_sem,aY,eQ,ey,dt s hk,ee s hk,dN s hk,eu,Int.toNat_natCast,Int.natCast_nonneg,ak,hz];(repeat (refine⟨ob,?_⟩));exact hK _ (by simp only[go_sem]) (by simp only[go_sem]<;>rfl)) ?_
      refine av ?_
      simp only[go_sem]
      first | (simp[fb,cZ,aY];done) | (unfold fb;rw[dM aY,c9];rfl) | (unfold fb;rw[dM aY,c9,fy ae bt];rfl) | (unfold fb;rw[dM aY,c9,hR];rfl)
     ·repeat refine sq ?_
      have bz:gv s i=true:=by simpa[<-Bool.or_assoc,hb]using dz.symm
      refine aA ?_
      refine dA ?_
      simp only[go_sem]
      refine kp [3,5] [[3,0]] ?_
      repeat refine sq ?_
      refine aX hΓ fun K' hK=>?_
      simp only[go_sem,aY,eQ,ey,dt s hk,ee s hk,dN s hk,eu,Int.toNat_natCast,Int.natCast_nonneg,ak,hz]
      repeat (refine⟨ob,?_⟩)
      refine hK _ ?_
      clear K' hK
      simp only[go_sem]
      refine⟨i+1,⟨ae,?_⟩,by(show 6-(i+1)<6-i;omega),?_⟩
      ·exact jY hR bz
      refine bx [3,5] [[3,0]] ?_ ?_
      ·simp only[go_sem,aH ae (lb rfl:(6:Nat)<=maxLen),Int.natCast_add,Int.natCast_one]
      ·simp only[go_sem,aH ae (lb rfl:(6:Nat)<=maxLen),Int.natCast_add,Int.natCast_one]
   ·have bf:i=6:=by
     have :¬ (i:Int)<6:=by simpa using hb
     omega
    clear hb
    subst bf
    repeat refine sq ?_
    refine cq ?_
    simp only[go_sem]
    refine kp [] [] ?_
    repeat refine sq ?_
    refine rx hΓ [4] [] (fun K' hK=>by simp only[go_sem,aY,eQ,ey,dt s hk,ee s hk,dN s hk,eu];(repeat (refine⟨ob,?_⟩));exact hK _ (by simp only[go_sem]) (by simp only[go_sem]<;>rfl)) ?_
    refine av ?_
    simp only[go_sem]
    first | (simp[fb,cZ,aY];done) | (unfold fb;rw[dM aY,c9];rfl) | (unfold fb;rw[dM aY,c9,fy ae bt];rfl) | (unfold fb;rw[dM aY,c9,hR];rfl)
theorem Da:an Tryd.prog 84 S43:=SZ.sound
noncomputable def K4:List (Nat×Spec):=[(78,S89),(84,S43),(34,S82),(70,S87),(71,S79),(90,S84),(93,S88),(92,S81)]
theorem PY:∀ f s,tbl K4 f=some s->an Tryd.prog f s:=tc C4<|tc Da<|tc zf<|tc KP<|tc C7<|tc KQ<|tc KO<|tc C6<|tn
attribute [go_sem] K4
theorem Hz{s:Stk}{i:Nat}(hi:i<6)(h:cZ i s=true):vt s=true:=by
 unfold vt
 rw[fy hi (by rw[h];rfl)];rfl
noncomputable def P78:PSpec:=p1 iQ (fun _=>True) (fun s=>.bool (vt s)) true
noncomputable def S78:Spec:=P78.toSpec
attribute [go_sem] P78 S78
set_option maxHeartbeats 4000000 in
theorem SG:aZ Tryd.prog 62 P78:=by
 refine w1 (rs:=[.tmp 2]) Tryd.func62 Tryd.ntmps62 (by rfl) (by kernel_rfl) (by decide) (fun _ _=>rfl) ⟨_,rfl,lb rfl,fun s hp hw=>?_⟩
 have hP:=bn
 simp only[iQ]at hw |-
 have hΓ:=PY
 repeat refine sq ?_
 refine rs hΓ [1] [[1,0]] ?_
 refine aN (cX [1,0] (aC s) rfl [1] [[1,0]] ?_ rfl) ?_
 ·simp only[go_sem]
 simp only[go_sem]
 repeat refine sq ?_
 refine rs hΓ [1,4] [[1,0]] ?_
 repeat refine sq ?_
 refine aL ?_
 repeat refine sq ?_
 refine cN (fun z:Nat=>[(4,⟨true,.v (vInt z)⟩)]) (fun z=>[]) (fun z=>z<=6/\eH z (fun m=>!cZ m s)=true) (fun z=>6-z) 0 ?_ ?_ ?_ ?_
 ·exact⟨Nat.zero_le _,rfl⟩
 ·rfl
 ·rfl
 rintro i ⟨hi,hR⟩
 simp only[go_sem]
 repeat refine sq ?_
 refine rs hΓ [1,4,5] [[1,0]] ?_
 repeat refine sq ?_
 refine aw rfl rfl (fun hb=>?_) (fun hb=>?_)
 ·have ae:i<6:=by have hq:(i:Int)<6:=(by simpa using hb);omega
  have ak:(i:Int)<6:=by omega
  clear hb
  repeat refine sq ?_
  refine aA ?_
  repeat refine sq ?_
  refine aL ?_
  repeat refine sq ?_
  refine rx hΓ [1,3,4] [[1,0]] (fun K' hK=>by simp only[go_sem,Int.toNat_natCast,Int.natCast_nonneg,ak];(repeat (refine⟨ob,?_⟩));exact hK _ (by simp only[go_sem]) (by simp only[go_sem]<;>rfl)) ?_
  repeat refine sq ?_
  refine rx hΓ [1,4,9] [[1,0]] (fun K' hK=>by simp only[go_sem,Int.toNat_natCast,Int.natCast_nonneg,ak];(repeat (refine⟨ob,?_⟩));exact hK _ (by simp only[go_sem]) (by simp only[go_sem]<;>rfl)) ?_
  repeat refine sq ?_
  refine aw rfl rfl (fun hb=>?_) (fun hb=>?_)
  ·repeat refine sq ?_
   refine rx hΓ [2] [] (fun K' hK=>by simp only[go_sem,Int.toNat_natCast,Int.natCast_nonneg,ak];(repeat (refine⟨ob,?_⟩));exact hK _ (by simp only[go_sem]) (by simp only[go_sem]<;>rfl)) ?_
   refine av ?_
   simp only[go_sem]
   first | (rw[Hz ae (by simpa using hb)];done) | (unfold vt;rw[hR];rfl)
  ·repeat refine sq ?_
   refine aA ?_
   refine dA ?_
   simp only[go_sem]
   refine kp [1,4] [[1,0]] ?_
   repeat refine sq ?_
   refine aX hΓ fun K' hK=>?_
   simp only[go_sem,Int.toNat_natCast,Int.natCast_nonneg,ak]
   repeat (refine⟨ob,?_⟩)
   refine hK _ ?_
   clear K' hK
   simp only[go_sem]
   refine⟨i+1,⟨ae,?_⟩,by(show 6-(i+1)<6-i;omega),?_⟩
   ·exact jY hR (by simpa using hb)
   refine bx [1,4] [[1,0]] ?_ ?_
   ·simp only[go_sem,aH ae (lb rfl:(6:Nat)<=maxLen),Int.natCast_add,Int.natCast_one]
   ·simp only[go_sem,aH ae (lb rfl:(6:Nat)<=maxLen),Int.natCast_add,Int.natCast_one]
 ·have bf:i=6:=by
   have :¬ (i:Int)<6:=by simpa using hb
   omega
  clear hb
  subst bf
  repeat refine sq ?_
  refine cq ?_
  simp only[go_sem]
  refine kp [] [] ?_
  repeat refine sq ?_
  refine rs hΓ [2] [] ?_
  refine av ?_
  simp only[go_sem]
  first | (rw[Hz ae (by simpa using hb)];done) | (unfold vt;rw[hR];rfl)
theorem WR:an Tryd.prog 62 S78:=SG.sound
theorem OO(b:Bag):(!aP b.fr 0 5||(!aP b.to 0 5||((b.fr==b.to)||(!cw b.ps||!aP b.ta 0 99999))))=!fR b:=by
 unfold fR
 have :(b.fr != b.to)=!(b.fr==b.to):=rfl
 rw[this]
 cases aP b.fr 0 5<;>cases aP b.to 0 5<;>cases (b.fr==b.to)<;>cases cw b.ps<;>cases aP b.ta 0 99999<;>rfl
noncomputable def P40:PSpec:=p1 oz (fun _=>True) (fun b=>vInt (sQ b)) true
noncomputable def S40:Spec:=P40.toSpec
attribute [go_sem] P40 S40
set_option maxHeartbeats 4000000 in
theorem S0:aZ Tryd.prog 47 P40:=by
 refine w1 (rs:=[.tmp 2]) Tryd.func47 Tryd.ntmps47 (by rfl) (by kernel_rfl) (by decide) (fun _ _=>rfl) ⟨_,rfl,lb rfl,fun b hp hw=>?_⟩
 have hP:=bn
 simp only[oz]at hw |-
 have hΓ:=PY
 repeat refine sq ?_
 refine rs hΓ [1] [[1,0]] ?_
 refine aN (cX [1,0] (aT b) rfl [1] [[1,0]] ?_ rfl) ?_
 ·simp only[go_sem]
 simp only[go_sem]
 repeat refine sq ?_
 refine rs hΓ [31] [] ?_
 repeat refine sq ?_
 refine aw rfl rfl (fun hb=>?_) (fun hb=>?_)
 ·repeat refine sq ?_
  have bt:fR b=false:=by simpa[<-Bool.or_assoc,hb]using(OO b).symm
  repeat refine sq ?_
  refine rs hΓ [2] [] ?_
  refine av ?_
  simp only[go_sem]
  first | (unfold sQ;rw[bt];rfl) | (unfold sQ;rw[bz];rfl)
 ·repeat refine sq ?_
  have bz:fR b=true:=by simpa[<-Bool.or_assoc,hb]using(OO b).symm
  refine aA ?_
  repeat refine sq ?_
  refine rs hΓ [2] [] ?_
  refine av ?_
  simp only[go_sem]
  first | (unfold sQ;rw[bt];rfl) | (unfold sQ;rw[bz];rfl)
theorem Xd:an Tryd.prog 47 S40:=S0.sound
def ed(l:List UInt8):ByteArray:=⟨l.toArray⟩
theorem nV(a b:List UInt8):ed a++ed b=ed (a++b):=by
 apply ByteArray.ext
 simp[ed]
theorem tj(x:UInt8):(⟨[x].toArray⟩:ByteArray)=ed [x]:=rfl
theorem pt(l:List UInt8):(ed l).size=l.length:=by
 show l.toArray.size=_
 rw[List.size_toArray]
@[go_sem] theorem un3:(Tryd.prog.underlying 3).isSome=true:=by kernel_rfl
@[go_sem] theorem un5:(Tryd.prog.underlying 5).isSome=true:=by kernel_rfl
@[go_sem] theorem ags:(if (#[]:Array UInt8).size<=maxLen then D.v (.str ⟨#[]⟩)else D.any)=D.v (.str (ed [])):=by
  rw[if_pos (by unfold maxLen;decide)];rfl
theorem UW(w:ByteArray)(l:List Int):dF w l=ed (pJ w l):=rfl
theorem Db{n:Int}(h:0<=n):Lib.itoa n=Lib.decDigits n.toNat:=by
 unfold Lib.itoa
 rw[if_neg (by omega)]
theorem NN{m:Nat}(h:9<m):Lib.decDigits m=Lib.decDigits (m / 10)++[UInt8.ofNat (48+m % 10)]:=by
 rw[Lib.decDigits,dif_neg (by omega)]
theorem aa2(m:Nat)(hm:m<=1000000):(m:Int).tmod 10=((m % 10:Nat):Int)/\(m:Int).tdiv 10=((m / 10:Nat):Int)/\IntKind.i64.wrap (48+((m % 10:Nat):Int))=((48+m % 10:Nat):Int)/\
 IntKind.u8.wrap ((48+m % 10:Nat):Int)=((48+m % 10:Nat):Int)/\IntKind.i64.wrap ((m / 10:Nat):Int)=((m / 10:Nat):Int):=by
 refine⟨rfl,rfl,?_,?_,?_⟩
 ·rw[wrap_i64 (by omega) (by omega)];rfl
 ·have h1:48+m % 10<58:=by omega
  generalize 48+m % 10=k at h1
  simp only[IntKind.wrap,IntKind.signed,IntKind.bits]
  first | omega | (simp;omega)
 ·rw[wrap_i64 (by omega) (by omega)]
theorem te(k:Nat):qP (.int .u8 (k:Int))=UInt8.ofNat k:=rfl
theorem Xz{k:Nat}(h:k<256):rG (.int .u8 (k:Int))=true:=by
 unfold rG
 simp
 omega
noncomputable def P125:PSpec:=p1 iI (fun n=>0<=n/\n<=1000000) (fun n=>.str (ed (Lib.itoa n))) true
noncomputable def S125:Spec:=P125.toSpec
attribute [go_sem] P125 S125
set_option maxHeartbeats 4000000 in
theorem Ta:aZ Tryd.prog 106 P125:=by
 refine w1 (rs:=[.tmp 2]) Tryd.func106 Tryd.ntmps106 (by rfl) (by kernel_rfl) (by decide) (fun _ _=>rfl) ⟨_,rfl,lb rfl,fun n hp hw=>?_⟩
 have hP:=bn
 simp only[iI]at hw |-
 have hΓ:=@nk Tryd.prog
 obtain⟨LQ,DS⟩:=hp
 obtain⟨N,rfl⟩:∃ N:Nat,n=N:=⟨n.toNat,by omega⟩
 have hNl:(Lib.decDigits N).length<=21:=by
  have :=Lib.itoa_length_le (N:Int) (by omega) (by omega)
  rwa [Db (by omega),Int.toNat_natCast]at this
 repeat refine sq ?_
 refine rs hΓ [0] [] ?_
 repeat refine sq ?_
 refine rs hΓ [0,3] [] ?_
 repeat refine sq ?_
 refine aL ?_
 repeat refine sq ?_
 refine cN (fun s:Nat×List UInt8=>[(0,⟨true,.v (vInt s.1)⟩),(3,⟨true,.v (.str (ed s.2))⟩)]) (fun s=>[]) (fun s=>s.1<=N/\Lib.decDigits N=Lib.decDigits s.1++s.2) (fun s=>s.1) (N,[]) ?_ ?_ ?_ ?_
 ·exact⟨Nat.le_refl _,by simp⟩
 ·rfl
 ·rfl
 rintro⟨m,acc⟩ ⟨hi,hR⟩
 simp only[go_sem]
 replace hi:m<=N:=hi
 replace hR:Lib.decDigits N=Lib.decDigits m++acc:=hR
 have hal:acc.length<=21:=by
  have :=congrArg List.length hR
  rw[List.length_append]at this
  omega
 obtain⟨d1,d2,d3,d4,d5⟩:=aa2 m (by omega)
 have si:=Xz (k:=48+m % 10) (by omega)
 repeat refine sq ?_
 refine rs hΓ [0,3,5] [] ?_
 repeat refine sq ?_
 refine aw rfl rfl (fun hb=>?_) (fun hb=>?_)
 ·have oL:9<m:=by
   have :(m:Int)>9:=by simpa using hb
   omega
  repeat refine sq ?_
  refine aA ?_
  repeat refine sq ?_
  refine aL ?_
  repeat refine sq ?_
  refine rx hΓ [0,3] [] (fun K' hK=>by simp only[go_sem,d1,d3,d4,si,te,tj,nV];(repeat (refine⟨by first | (simp only[pt,maxLen,List.length_cons,List.length_nil];omega) | exact ob,?_⟩));exact hK _ (by simp only[go_sem,d1,d3,d4,si,te,tj,nV]) (by simp only[go_sem,d1,d3,d4,si,te,tj,nV]<;>rfl)) ?_
  repeat refine sq ?_
  refine aX hΓ fun K' hK=>?_
  simp only[go_sem,d2,d5]
  repeat (refine⟨ob,?_⟩)
  refine hK _ ?_
  clear K' hK
  simp only[go_sem]
  refine⟨(m / 10,UInt8.ofNat (48+m % 10)::acc),⟨by show m / 10<=N;omega,?_⟩,by show m / 10<m;omega,?_⟩
  ·rw[hR,NN oL,List.append_assoc];rfl
  refine bx [0,3] [] ?_ ?_
  ·simp only[go_sem]
  ·simp only[go_sem]
 ·have hle:m<=9:=by
   have :¬ (m:Int)>9:=by simpa using hb
   omega
  have YP:m % 10=m:=by omega
  rw[YP]at d3 d4 si
  have Ds:IntKind.i64.wrap (48+(m:Int))=((48+m:Nat):Int):=d3
  repeat refine sq ?_
  refine cq ?_
  simp only[go_sem]
  refine kp [0,3] [] ?_
  repeat refine sq ?_
  refine rx hΓ [2] [] (fun K' hK=>by simp only[go_sem,Ds,d4,si,te,tj,nV];(repeat (refine⟨by first | (simp only[pt,maxLen,List.length_cons,List.length_nil];omega) | exact ob,?_⟩));exact hK _ (by simp only[go_sem,Ds,d4,si,te,tj,nV]) (by simp only[go_sem,Ds,d4,si,te,tj,nV]<;>rfl)) ?_
  refine av ?_
  simp only[go_sem]
  have :Lib.decDigits m=[UInt8.ofNat (48+m)]:=Lib.decDigits_one (by omega)
  rw[Db (by omega),Int.toNat_natCast,hR,this]
  all_goals first | rfl | (simp;done)
theorem Xi:an Tryd.prog 106 S125:=Ta.sound
@[go_sem] theorem ago:(if (#[32]:Array UInt8).size<=maxLen then D.v (.str ⟨#[32]⟩)else D.any)=D.v (.str (ed [32])):=by
  rw[if_pos (by unfold maxLen;decide)];rfl
@[go_sem] theorem agq:(if (#[10]:Array UInt8).size<=maxLen then D.v (.str ⟨#[10]⟩)else D.any)=D.v (.str (ed [10])):=by
  rw[if_pos (by unfold maxLen;decide)];rfl
def bR(n:Int):Prop:=0<=n/\n<=1000000
theorem ry{n:Int}(h:bR n):rL n:=⟨by have:=h.1;omega,by have:=h.2;omega⟩
theorem Xv{n:Int}(h:bR n):(Lib.itoa n).length<=21:=Lib.itoa_length_le n (ry h).1 (ry h).2
theorem jS{α:Type}{l:List α}{k:Nat}(h:k<l.length)(z:α):l.getD k z=l[k]:=by
 simp[List.getD,List.getElem?_eq_getElem h]
def l6(w:ByteArray)(l:List Int):Nat->ByteArray
 | 0=>w
 |i+1=>l6 w l i++ed (32::Lib.itoa (l.getD i 0))
theorem Ci(w:ByteArray)(l:List Int):∀ k,k<=l.length->l6 w l k=ed (kf w l k)
 | 0,_=>by
   unfold kf
   rw[List.take_zero,List.flatMap_nil,List.append_nil]
   rfl
 |k+1,h=>by
  rw[l6,Ci w l k (by omega),CR w l (by omega),nV,jS (show k<l.length by omega)]
theorem Ch{w:ByteArray}{l:List Int}(hl:∀ n∈l,bR n){k:Nat}(h:k<=l.length):(l6 w l k).size<=w.size+22*k:=by
 rw[Ci w l k h,pt]
 exact y8 w l (fun n hn=>ry (hl n hn)) k h
theorem Ip{w:ByteArray}{l:List Int}:l6 w l l.length++ed [10]=dF w l:=by
 rw[Ci w l _ (Nat.le_refl _),nV]
 rfl
noncomputable def K6:List (Nat×Spec):=[(106,S125)]
theorem acY:∀ f s,tbl K6 f=some s->an Tryd.prog f s:=tc Xi<|tn
attribute [go_sem] K6
noncomputable def P111:PSpec:=p2 uf eO (fun w l=>w.size<=1000/\l.length<=1000000/\∀ n∈l,bR n) (fun w l=>.str (dF w l)) true
noncomputable def S111:Spec:=P111.toSpec
attribute [go_sem] P111 S111
set_option maxHeartbeats 4000000 in
theorem Tg:aZ Tryd.prog 101 P111:=by
 refine w2 (rs:=[.tmp 4]) Tryd.func101 Tryd.ntmps101 (by rfl) (by kernel_rfl) (by decide) (fun _ _ _=>rfl) ⟨_,rfl,lb rfl,fun w l hp hw=>?_⟩
 have hP:=bn
 simp only[eO,uf]at hw |-
 have hΓ:=acY
 obtain⟨DS,wu,DR⟩:=hp
 have hl:l.length<=maxLen:=by unfold maxLen;omega
 repeat refine sq ?_
 refine rs hΓ [0,1] [] ?_
 repeat refine sq ?_
 refine rs hΓ [0,1,5] [] ?_
 repeat refine sq ?_
 refine aL ?_
 repeat refine sq ?_
 refine cN (fun s:Nat=>[(5,⟨true,.v (vInt s)⟩),(0,⟨true,.v (.str (l6 w l s))⟩)]) (fun s=>[]) (fun s=>s<=l.length) (fun s=>l.length-s) 0 ?_ ?_ ?_ ?_
 ·exact Nat.zero_le _
 ·rfl
 ·rfl
 rintro i hi
 simp only[go_sem]
 repeat refine sq ?_
 refine rs hΓ [0,1,5,9] [] ?_
 repeat refine sq ?_
 refine aw rfl rfl (fun hb=>?_) (fun hb=>?_)
 ·have ae:i<l.length:=by simpa using hb
  have ak:(i:Int)<l.length:=by omega
  clear hb
  have hn:=DR _ (List.getElem_mem ae)
  have L3:=hn.1
  have YL:=hn.2
  have cA:=Xv hn
  have ug:=Ch (w:=w) DR (Nat.le_of_lt ae)
  have jj:(ed [32]).size+(ed (Lib.itoa l[i])).size<=maxLen:=by rw[pt,pt];unfold maxLen;simp only[List.length_cons,List.length_nil];omega
  have ma:(l6 w l i).size+(ed (32::Lib.itoa l[i])).size<=maxLen:=by rw[pt];unfold maxLen;simp only[List.length_cons];omega
  have he:l6 w l i++ed (32::Lib.itoa l[i])=l6 w l (i+1):=by rw[l6,jS ae]
  repeat refine sq ?_
  refine aA ?_
  repeat refine sq ?_
  refine aL ?_
  repeat refine sq ?_
  refine aX hΓ fun K' hK=>?_
  simp only[go_sem,Int.toNat_natCast,Int.natCast_nonneg,ak,ba ae,ba ae,Int.toNat_natCast,Int.natCast_nonneg,ak,jj,ma,nV,he]
  repeat (refine⟨ob,?_⟩)
  refine hK _ ?_
  clear K' hK
  simp only[go_sem]
  refine kp [0,1,5] [] ?_
  repeat refine sq ?_
  refine aX hΓ fun K' hK=>?_
  simp only[go_sem,Int.toNat_natCast,Int.natCast_nonneg,ak,ba ae]
  repeat (refine⟨ob,?_⟩)
  refine hK _ ?_
  clear K' hK
  simp only[go_sem]
  refine⟨i+1,ae,by(show l.length-(i+1)<l.length-i;omega),?_⟩
  refine bx [0,1,5] [] ?_ ?_
  ·simp only[go_sem,aH ae hl,Int.natCast_add,Int.natCast_one]
  ·simp only[go_sem,aH ae hl,Int.natCast_add,Int.natCast_one]
 ·have bf:i=l.length:=by
   have :¬ (i:Int)<l.length:=by simpa using hb
   omega
  clear hb
  subst bf
  have ug:=Ch (w:=w) DR (Nat.le_refl _)
  have rO:(l6 w l l.length).size+(ed [10]).size<=maxLen:=by rw[pt];unfold maxLen;simp only[List.length_cons,List.length_nil];omega
  repeat refine sq ?_
  refine cq ?_
  simp only[go_sem]
  refine kp [0] [] ?_
  repeat refine sq ?_
  refine rx hΓ [4] [] (fun K' hK=>by simp only[go_sem,rO,Ip];(repeat (refine⟨ob,?_⟩));exact hK _ (by simp only[go_sem]) (by simp only[go_sem]<;>rfl)) ?_
  refine av ?_
  simp only[go_sem]
  skip
theorem Xm:an Tryd.prog 101 S111:=Tg.sound
end Go.Eng
