import Derived.Test.YtckmfkgppohnmaaGreatDoorK4
import Derived.Laws.Bits64
import Derived.KernelRfl
import Derived.Test.YtckmfkgppohnmaaGreatDoorProg
import Derived.Shelf.Strings.BuilderK
import Derived.Shelf.Strconv.Itoa3
import Derived.WalkKit
import Derived.BigCall
import Derived.Lib.ItoaLen
/- Texts EngGd to NW3. -/
set_option linter.all false
namespace Go.Eng
open Go
theorem PJ{σ:S}(b nm:Name)(i sz:Nat)(cs:List D)(hb:σ.obj b=some (.box cs))(hi:cs[i]?=some .nilsl)(hn:σ.obj nm=none):
 dq σ ⟨σ.nt,σ.env,upd (upd σ.obj nm (some (.arr sz []))) b (some (.box (cs.set i (.msl nm 0)))),σ.pre,σ.base⟩:=by
 intro G φ m a w hC
 have ar:b≠nm:=fun e=>by subst e;rw[hb]at hn;cases hn
 obtain⟨h1,h2,h3,us,T,f,h4,h5,h6,h7⟩:=hC.objs b _ hb
 obtain⟨fg,DX⟩:=List.getElem?_eq_some_iff.1 hi
 have h0:i<us.size:=by omega
 have h8:=h7 i fg h0
 rw[DX]at h8
 generalize hu:us[i]=u at h8
 cases h8 with
 |nilsl b'=>
 have hx:=Ext.new (φ:=φ) hn ⟨0,0,0,true,b'⟩ (.arr sz [])
 have bW:=hC.chg (w':=w) nm (.arr sz []) ⟨0,0,0,true,b'⟩ hx ⟨rfl,rfl,rfl,Nat.le_refl _⟩ (fun _ _ _=>rfl) (fun h=>by cases h) (.inl ⟨rfl,rfl⟩)
 have cU:(upd σ.obj nm (some (.arr sz []))) b=some (.box cs):=by rw[aN _ _ _ ar];exact hb
 have hφ:(upd φ nm ⟨0,0,0,true,b'⟩) b=φ b:=aN _ _ _ ar
 have jx:=Ext.same (φ:=upd φ nm ⟨0,0,0,true,b'⟩) (o':=.box (cs.set i (.msl nm 0))) cU rfl rfl
 refine⟨_,bW.chg (w':=w) b (.box (cs.set i (.msl nm 0))) _ jx ⟨rfl,rfl,rfl,Nat.le_refl _⟩ (fun _ _ _=>rfl) (fun _=>.inr ⟨⟨_,cU,rfl,by rw[hφ];exact h2⟩,rfl⟩) ?_⟩
 rw[ep,hφ]
 have aq:(upd (upd σ.obj nm (some (.arr sz []))) b (some (.box (cs.set i (.msl nm 0))))) nm=some (.arr sz []):=by rw[aN _ _ _ ar.symm,aH]
 refine⟨h1,h2,fun d hd=>?_,us,T,f,h4,h5,by simpa using h6,fun j hj eA=>?_⟩
 ·rcases List.mem_or_eq_of_mem_set hd with h | h
  ·exact h3 d h
  ·subst h;rfl
 ·simp only[List.length_set]at hj
  rw[List.getElem_set]
  by_cases eI:i=j
  ·subst eI
   rw[if_pos rfl,hu]
   refine .msl _ _ _ ⟨_,_,aq,rfl,by simp,fun _=>?_⟩ rfl
   rw[aH];rfl
  ·rw[if_neg eI]
   have :=h7 j hj eA
   exact(this.ext (Mem.le_refl m) hx).ext (Mem.le_refl m) (by rw[ep]at jx;exact jx)
theorem A7{σ τ:S}(b nm:Name)(i sz:Nat)(cs:List D)(hb:σ.obj b=some (.box cs))(hi:cs[i]?=some .nilsl)(hn:σ.obj nm=none)(ks:List Nat)(ns:List Name)
 (h:fE ks ns ⟨σ.nt,σ.env,upd (upd σ.obj nm (some (.arr sz []))) b (some (.box (cs.set i (.msl nm 0)))),σ.pre,σ.base⟩)
 (hk:fN ks ns ⟨σ.nt,σ.env,upd (upd σ.obj nm (some (.arr sz []))) b (some (.box (cs.set i (.msl nm 0)))),σ.pre,σ.base⟩=τ):dN σ τ:=
 (PJ b nm i sz cs hb hi hn).toM.trans (gL ks ns h hk)
def mH:List D->Option (List V)
 |[]=>some []
 |d::r=>match dM d,mH r with
  |some x,some xs=>some (x::xs)
  |_,_=>none
theorem Oj:∀ {ds:List D} {xs:List V},mH ds=some xs->xs.length=ds.length
 |[],xs,h=>by cases h;rfl
 |d::r,xs,h=>by
  unfold mH at h
  split at h
  ·rename_i h2
   cases h
   simp[Oj h2]
  ·cases h
theorem Oi{φ:Name->Loc}{obj:Name->Option O}{m:Mem}:∀ {ds:List D} {xs:List V},mH ds=some xs->∀ (i:Nat) (h:i<ds.length) (h':i<xs.length) (u:Value),aw φ obj m ds[i] u->aC m xs[i] u
 |[],xs,h,i,hi,_,_,_=>by simp at hi
 |d::r,xs,h,i,hi,bx,u,hr=>by
  unfold mH at h
  split at h
  ·rename_i x ys h1 h2
   cases h
   cases i with
   |zero=>exact nI hr h1
   |succ i=>exact Oi h2 i (by simpa using hi) (by simpa using bx) u hr
  ·cases h
theorem Ce{app:(Name->Option O)->Name->List D->R}{foot:(Name->Option O)->Name->List D->List Name}
 (h:∀ obj obj2 t ds,bq (foot obj t ds) obj obj2->foot obj2 t ds=foot obj t ds/\bE (app obj t ds) (app obj2 t ds) obj obj2 (foot obj t ds)):Spec.Near ⟨app,foot,foot⟩:=
 ⟨fun obj obj2 t ds ha=>(h obj obj2 t ds ha).2,fun obj obj2 t ds ha=>(h obj obj2 t ds ha).1,fun _ _ _ _ hn=>hn,fun obj obj2 t ds ha=>(h obj obj2 t ds ha).1⟩
theorem Bl{P:Program}{f:FuncId}{s s':Spec}(h:al P f s)(hn:s'.Near)(ar:f≠yid)
 (heq:∀ obj t ds,(s'.app obj t ds).ok->∃ mu,mu.length=ds.length/\(∀ (φ:Name->Loc) (m:Mem) (us:Array Value),ds.length=us.size->(∀ i (h:i<ds.length) (h':i<us.size),aw φ obj m ds[i] us[i])->∀ i (h:i<mu.length) (h':i<us.size),aw φ obj m mu[i] us[i])/\
   (s.app obj t mu).ok/\(s.app obj t mu).d=(s'.app obj t ds).d/\(s.app obj t mu).obj=(s'.app obj t ds).obj):al P f s':=by
 refine⟨hn,h.enter,fun ar G φ m σ a w hC t ds us ht hl hr aa=>?_,fun e=>(ar e).elim⟩
 obtain⟨mu,h0,Dp,h1,h2,h3⟩:=heq _ _ _ aa
 have :=h.calls ar G φ m σ a w hC t mu us ht (h0.trans hl) (Dp φ m us hl hr) h1
 rw[h2,h3]at this
 exact this
structure NSpec where
 pre:List V->Prop
 new:List V->List (Name×O)
 d:List V->D
def NSpec.app(s:NSpec)(obj:Name->Option O)(t:Name)(ds:List D):R:=match mH ds with
 |some xs=>⟨fresh obj t (s.new xs)=true/\s.pre xs,(s.d xs).ren (cout [] t),cX [] t (s.new xs) obj⟩
 |none=>.bad obj
def NSpec.foot(s:NSpec)(_:Name->Option O)(t:Name)(ds:List D):List Name:=match mH ds with
 |some xs=>(s.new xs).map fun x=>x.1++t
 |none=>[]
def NSpec.toSpec(s:NSpec):Spec:=⟨s.app,s.foot,s.foot⟩
def NSpec.c(s:NSpec):CSpec where
 pre:=fun os ds=>os=[]/\∃ xs,ds=xs.map .v/\s.pre xs
 out:=fun _ ds=>match mH ds with
  |some xs=>⟨[],s.new xs,s.d xs⟩
  |none=>⟨[],[],.any⟩
theorem FZ:∀ xs:List V,mH (xs.map .v)=some xs
 |[]=>rfl
 |x::r=>by simp[mH,dM,FZ r]
theorem NSpec.near(s:NSpec):s.toSpec.Near:=by
 refine Ce fun obj obj2 t ds ha=>⟨rfl,?_⟩
 unfold NSpec.foot at ha |-
 unfold NSpec.app
 split
 ·rename_i xs h
  simp only[h]at ha
  have ck:fresh obj2 t (s.new xs)=fresh obj t (s.new xs):=zV ha
  have :=Ct (ok:=fresh obj t (s.new xs)=true/\s.pre xs) (ok2:=fresh obj2 t (s.new xs)=true/\s.pre xs) (d:=(s.d xs).ren (cout [] t)) (obj:=obj) (obj2:=obj2) (L:=[]) (t:=t) (o:=⟨[],s.new xs,s.d xs⟩) (by rw[ck]) (by simpa using ha)
  simpa[b9]using this
 ·exact .none _ (fun _ h=>by cases h)
theorem IF:∀ xs:List V,dH (xs.map .v)=[]
 |[]=>rfl
 |x::r=>by simp only[List.map_cons,dH,vt,List.nil_append];exact IF r
theorem HI(obj:Name->Option O)(xs:List V):reach obj (xs.map .v)=[]:=by
 unfold reach
 rw[IF]
 rfl
theorem HA(f:Name->Name):∀ xs:List V,D.renL f (xs.map .v)=xs.map .v
 |[]=>rfl
 |x::r=>by simp only[List.map_cons,D.renL,D.ren];rw[HA f r]
theorem Nq(p:Name->Bool):∀ xs:List V,D.closL p (xs.map .v)=true
 |[]=>rfl
 |x::r=>by simp only[List.map_cons,D.closL,D.clos,Bool.true_and];exact Nq p r
theorem NSpec.sound{P:Program}{f:FuncId}{s:NSpec}(h:al P f s.c.toSpec)(ar:f≠yid):al P f s.toSpec:=by
 refine Bl h s.near ar fun obj t ds aa=>?_
 have iV:(s.app obj t ds).ok:=aa
 show ∃ mu,_/\_/\_/\_=(s.app obj t ds).d/\_=(s.app obj t ds).obj
 unfold NSpec.app at iV |-
 split at iV
 ·rename_i xs hx
  have hlen:=Oj hx
  refine⟨xs.map .v,by simpa using hlen,fun φ m us hl hr i h1 h2=>?_,?_⟩
  ·simp only[List.length_map]at h1
   simp only[List.getElem_map]
   exact .v _ _ (Oi hx i (by omega) h1 _ (hr i (by omega) h2))
  ·have e1:cm obj (xs.map .v)=[]:=by unfold cm;rw[HI];rfl
   have e2:cJ obj (xs.map .v)=xs.map .v:=by unfold cJ;rw[HA]
   have e3:s.c.out [] (xs.map .v)=⟨[],s.new xs,s.d xs⟩:=by simp only[NSpec.c,FZ]
   have e4:s.c.pre [] (xs.map .v):=⟨rfl,xs,rfl,iV.2⟩
   have e5:(shut obj []&&D.closL (cE []) (xs.map .v)&&fresh obj t (s.new xs))=true:=by
    rw[Nq,iV.1];rfl
   simp only[CSpec.toSpec,e1,e2,HI,e3,e4,e5,and_self,b9]
 ·exact iV.elim
theorem yn{P:Program}{f:FuncId}{fn:Func}{c:Code}{s:NSpec}{nt:Nat}{rs:List ResultVar}(hf:P.funcs[f]?=some fn)(hb:fn.body=some c)(eQ:fn.ntmps=nt)(fx:fn.results.toList=rs)
 (hn:(fn.name== "runtime.NumGoroutine")=false) (hy:f<1000000000)
 (h:∀ xs,s.pre xs->xs.length<=nt/\CL P [c] (aU nt [0] (fun _=>none) (eL 0 (xs.map .v)) []) (vf P rs [] ⟨[],s.new xs,s.d xs⟩)):al P f s.toSpec:=by
 have ar:f≠yid:=Nat.ne_of_lt (show f<yid from hy)
 refine NSpec.sound (oS hf hb eQ fx (jb hf hb hn) ar ?_) ar
 rintro os ds ⟨rfl,xs,rfl,hp⟩
 obtain⟨h1,h2⟩:=h xs hp
 have hH:bd []=fun _=>none:=by funext nm;unfold bd;split<;>rfl
 have e3:s.c.out [] (xs.map .v)=⟨[],s.new xs,s.d xs⟩:=by simp only[NSpec.c,FZ]
 rw[hH,e3]
 exact⟨by simpa using h1,ld h2⟩
attribute [go_sem] Nat.reduceLeDiff Nat.le_refl Nat.reduceLT Nat.reduceAdd Nat.reduceEqDiff Nat.reduceSub Nat.reduceMul Nat.reduceBEq reduceIte reduceCtorEq
abbrev vInt (n:Int):V:=.int .i64 n
theorem lb{a b:Nat}(h:Nat.ble a b=true):a<=b:=Nat.le_of_ble_eq_true h
theorem sq{P:Program}{x y:Code}{r:List Code}{σ:S}{K:Exit->S->Prop}(h:CL P (x::y::r) σ K):CL P (.seq x y::r) σ K:=aaG h
theorem ob{p:Prop}(h:p:=by first | exact Bool.or_not_self _ | trivial | (unfold maxLen;omega) | exact Bool.not_or_self _ | exact fun _=>by decide | exact fun h=>⟨h,by decide⟩ | omega | ((repeat' apply And.intro)<;>first | rfl | omega | (unfold maxLen;omega) | trivial) | (simp only[decide_eq_true_eq];omega) | exact⟨_,rfl⟩ | exact fun h=>⟨h,_,rfl⟩ | exact⟨_,_,rfl⟩ | exact fun h=>⟨h,_,_,rfl⟩ | exact fun h=>⟨h,_,_,_,rfl⟩ | exact⟨_,_,_,_,rfl⟩ | exact fun h=>⟨h,_,_,_,_,rfl⟩ | exact⟨[_,_],rfl⟩ | (simp only[Bool.decide_and,Bool.decide_eq_true];exact Bool.not_or_self _) | (simp;done) | (simp_all;done) | (simp_all;omega) | (grind)):p:=h
theorem rs{P:Program}{Γ:FuncId->Option Spec}(hΓ:∀ f s,Γ f=some s->al P f s){id:Nat}{l:List Oper}{c:Code}{r:List Code}{σ τ:S}{K:Exit->S->Prop}(ks:List Nat)(ns:List Name)(h:CL P (c::r) τ K)
 (h':∀ K':S->Prop,(∀ σ',fE ks ns σ'->fN ks ns σ'=τ->K' σ')->nM P Γ l.toArray l σ K':=by intro K' hK;simp only[go_sem];(repeat (refine⟨ob,?_⟩));exact hK _ (by simp only[go_sem]) (by simp only[go_sem]<;>rfl)):CL P (.region id l.toArray false::c::r) σ K:=
 Am hΓ ks ns fun K' hK=>h' K' fun σ' hc he=>hK σ' hc (he▸h)
theorem rx{P:Program}{Γ:FuncId->Option Spec}(hΓ:∀ f s,Γ f=some s->al P f s){id:Nat}{l:List Oper}{c:Code}{r:List Code}{σ τ:S}{K:Exit->S->Prop}(ks:List Nat)(ns:List Name)
 (h':∀ K':S->Prop,(∀ σ',fE ks ns σ'->fN ks ns σ'=τ->K' σ')->nM P Γ l.toArray l σ K') (h:CL P (c::r) τ K):CL P (.region id l.toArray false::c::r) σ K:=
 Am hΓ ks ns fun K' hK=>h' K' fun σ' hc he=>hK σ' hc (he▸h)
theorem dx{P:Program}{Γ:FuncId->Option Spec}(hΓ:∀ f s,Γ f=some s->al P f s)(hP:P.follows .mixedOrders=true)(az:List (List Nat)){id:Nat}{l:List Oper}{c:Code}{r:List Code}{σ τ:S}{K:Exit->S->Prop}(ks:List Nat)(ns:List Name)
 (hs:uY l.toArray az=true) (h':∀ K':S->Prop,(∀ σ',fE ks ns σ'->fN ks ns σ'=τ->K' σ')->qp P Γ l.toArray 0 az l [] σ K') (h:CL P (c::r) τ K):CL P (.region id l.toArray true::c::r) σ K:=
 aaL hΓ hP az ks ns hs fun K' hK=>h' K' fun σ' hc he=>hK σ' hc (he▸h)
theorem kp{P:Program}{c:Code}{r:List Code}{σ τ:S}{K:Exit->S->Prop}(ks:List Nat)(ns:List Name)(hc:CL P (c::r) τ K)(h:fE ks ns σ:=by simp only[go_sem])(he:fN ks ns σ=τ:=by simp only[go_sem]<;>rfl):CL P (c::r) σ K:=
 kj ks ns h (he▸hc)
def tbl:List (Nat×Spec)->FuncId->Option Spec
 |[],_=>none
 |(g,s)::r,f=>if f=g then some s else tbl r f
theorem tn{P:Program}:∀ f s,tbl [] f=some s->al P f s:=fun _ _ h=>by cases h
theorem tc{P:Program}{g:Nat}{s0:Spec}{r:List (Nat×Spec)}(h:al P g s0)(hr:∀ f s,tbl r f=some s->al P f s):∀ f s,tbl ((g,s0)::r) f=some s->al P f s:=by
 intro f s hf
 unfold tbl at hf
 split at hf
 ·rename_i e
  cases hf
  subst e
  exact h
 ·exact hr f s hf
attribute [go_sem] tbl
theorem vj{P:Program}{f:FuncId}{fn:Func}{s:PSpec}{nt:Nat}{rs:List ResultVar}(hf:P.funcs[f]?=some fn)(eQ:fn.ntmps=nt)(fx:fn.results.toList=rs)(hn:(fn.name== "runtime.NumGoroutine")=false)(hy:f<1000000000)
 (fi:s.flat=true->∀ xs,s.pre xs->(s.fn xs).flat=true)
 (hb:∃ c,fn.body=some c/\∀ xs,s.pre xs->V.wfL xs->xs.length<=nt/\CL P [c] (aU nt [0] (fun _=>none) (gh 0 xs) []) (pn P rs (s.fn xs))):aQ P f s:=by
 obtain⟨c,hc,h⟩:=hb
 exact HP hf hc eQ fx (jb hf hc hn) (Nat.ne_of_lt (show f<yid from hy)) fi fun xs hp hw=>⟨(h xs hp hw).1,ld (h xs hp hw).2⟩
structure En (α:Type) where
 enc:α->V
 dec:V->α
def M5{α:Type}(d:V->α):V->List α
 | .sl l=>l.map d
 |_=>[]
def vE{α:Type}(e:En α):En (List α):=⟨fun l=>.sl (l.map e.enc),M5 e.dec⟩
def iC(v:V):En Unit:=⟨fun _=>v,fun _=>()⟩
def iF(n:Nat):En Unit:=iC (.clo (.func n) [] [])
def p1{α:Type}(A:En α)(p:α->Prop)(g:α->V)(fl:Bool):PSpec:=
 ⟨fun xs=>match xs with | [x]=>A.enc (A.dec x)=x/\p (A.dec x) | _=>False,fun xs=>match xs with | [x]=>g (A.dec x) | _=>.bool false,fl⟩
def p2{α β:Type}(A:En α)(B:En β)(p:α->β->Prop)(g:α->β->V)(fl:Bool):PSpec:=
 ⟨fun xs=>match xs with | [x,y]=>A.enc (A.dec x)=x/\B.enc (B.dec y)=y/\p (A.dec x) (B.dec y) | _=>False,fun xs=>match xs with | [x,y]=>g (A.dec x) (B.dec y) | _=>.bool false,fl⟩
def p3{α β γ:Type}(A:En α)(B:En β)(C:En γ)(p:α->β->γ->Prop)(g:α->β->γ->V)(fl:Bool):PSpec:=
 ⟨fun xs=>match xs with | [x,y,z]=>A.enc (A.dec x)=x/\B.enc (B.dec y)=y/\C.enc (C.dec z)=z/\p (A.dec x) (B.dec y) (C.dec z) | _=>False,
  fun xs=>match xs with | [x,y,z]=>g (A.dec x) (B.dec y) (C.dec z) | _=>.bool false,fl⟩
def p4{α β γ δ:Type}(A:En α)(B:En β)(C:En γ)(D:En δ)(p:α->β->γ->δ->Prop)(g:α->β->γ->δ->V)(fl:Bool):PSpec:=
 ⟨fun xs=>match xs with | [x,y,z,u]=>A.enc (A.dec x)=x/\B.enc (B.dec y)=y/\C.enc (C.dec z)=z/\D.enc (D.dec u)=u/\p (A.dec x) (B.dec y) (C.dec z) (D.dec u) | _=>False,
  fun xs=>match xs with | [x,y,z,u]=>g (A.dec x) (B.dec y) (C.dec z) (D.dec u) | _=>.bool false,fl⟩
theorem x9{α:Type}{A:En α}{p:α->Prop}{g:α->V}{fl:Bool}{xs:List V}(h:(p1 A p g fl).pre xs):∃ a,xs=[A.enc a]/\p a/\(p1 A p g fl).fn xs=g a:=by
 unfold p1 at h
 simp only at h
 split at h
 ·exact⟨_,by rw[h.1],h.2,rfl⟩
 ·exact h.elim
theorem BX{α β:Type}{A:En α}{B:En β}{p:α->β->Prop}{g:α->β->V}{fl:Bool}{xs:List V}(h:(p2 A B p g fl).pre xs):∃ a b,xs=[A.enc a,B.enc b]/\p a b/\(p2 A B p g fl).fn xs=g a b:=by
 unfold p2 at h
 simp only at h
 split at h
 ·exact⟨_,_,by rw[h.1,h.2.1],h.2.2,rfl⟩
 ·exact h.elim
theorem H7{α β γ:Type}{A:En α}{B:En β}{C:En γ}{p:α->β->γ->Prop}{g:α->β->γ->V}{fl:Bool}{xs:List V}(h:(p3 A B C p g fl).pre xs):
 ∃ a b c,xs=[A.enc a,B.enc b,C.enc c]/\p a b c/\(p3 A B C p g fl).fn xs=g a b c:=by
 unfold p3 at h
 simp only at h
 split at h
 ·exact⟨_,_,_,by rw[h.1,h.2.1,h.2.2.1],h.2.2.2,rfl⟩
 ·exact h.elim
theorem H6{α β γ δ:Type}{A:En α}{B:En β}{C:En γ}{D:En δ}{p:α->β->γ->δ->Prop}{g:α->β->γ->δ->V}{fl:Bool}{xs:List V}(h:(p4 A B C D p g fl).pre xs):
 ∃ a b c d,xs=[A.enc a,B.enc b,C.enc c,D.enc d]/\p a b c d/\(p4 A B C D p g fl).fn xs=g a b c d:=by
 unfold p4 at h
 simp only at h
 split at h
 ·exact⟨_,_,_,_,by rw[h.1,h.2.1,h.2.2.1,h.2.2.2.1],h.2.2.2.2,rfl⟩
 ·exact h.elim
theorem SY{α:Type}{A:En α}{p:α->Prop}{g:α->V}{fl:Bool}(hg:∀ a,(g a).flat=true):(p1 A p g fl).flat=true->∀ xs,(p1 A p g fl).pre xs->((p1 A p g fl).fn xs).flat=true:=by
 intro _ xs h
 obtain⟨a,_,_,e⟩:=x9 h
 rw[e];exact hg _
theorem H8{α β:Type}{A:En α}{B:En β}{p:α->β->Prop}{g:α->β->V}{fl:Bool}(hg:∀ a b,(g a b).flat=true):(p2 A B p g fl).flat=true->∀ xs,(p2 A B p g fl).pre xs->((p2 A B p g fl).fn xs).flat=true:=by
 intro _ xs h
 obtain⟨a,b,_,_,e⟩:=BX h
 rw[e];exact hg _ _
theorem SX{α β γ:Type}{A:En α}{B:En β}{C:En γ}{p:α->β->γ->Prop}{g:α->β->γ->V}{fl:Bool}(hg:∀ a b c,(g a b c).flat=true):
 (p3 A B C p g fl).flat=true->∀ xs,(p3 A B C p g fl).pre xs->((p3 A B C p g fl).fn xs).flat=true:=by
 intro _ xs h
 obtain⟨a,b,c,_,_,e⟩:=H7 h
 rw[e];exact hg _ _ _
theorem SW{α β γ δ:Type}{A:En α}{B:En β}{C:En γ}{D:En δ}{p:α->β->γ->δ->Prop}{g:α->β->γ->δ->V}{fl:Bool}(hg:∀ a b c d,(g a b c d).flat=true):
 (p4 A B C D p g fl).flat=true->∀ xs,(p4 A B C D p g fl).pre xs->((p4 A B C D p g fl).fn xs).flat=true:=by
 intro _ xs h
 obtain⟨a,b,c,d,_,_,e⟩:=H6 h
 rw[e];exact hg _ _ _ _
attribute [go_sem] p1 p2 p3 p4 M5 vE iC iF PSpec.toSpec yid Option.bind_some Option.bind_none
theorem jY{P:Program}:∀ f s,(fun _=>none:FuncId->Option Spec) f=some s->al P f s:=fun f s h=>by cases h
theorem An{P:Program}{c:Operand}{x y c2:Code}{r:List Code}{σ:S}{K:Exit->S->Prop}{b:Bool}(τ:S)(hc:cz σ c=true)(hd:aj σ c=.v (.bool b))
 (ht:b=true->CL P [x] σ (jk (fun σ'=>dN σ' τ) K)) (hf:b=false->CL P [y] σ (jk (fun σ'=>dN σ' τ) K)) (h:CL P (c2::r) τ K):CL P (.cond c x y::c2::r) σ K:=by
 have key:∀ z,CL P [z] σ (jk (fun σ'=>dN σ' τ) K)->CL P (z::c2::r) σ K:=fun z hz=>
  CW.mono (ld hz) fun e σ' hk=>by
   cases e with
   |normal=>exact aE hk h
   |_=>exact hk
 exact au hc hd (fun hb=>key x (ht hb)) fun hb=>key y (hf hb)
theorem getD_at{α:Type}{l:List α}{i:Nat}{z:α}(h:i<l.length):l.getD i z=l[i]:=by
 simp[List.getD,h]
theorem vn{os:List O}(hc:∀ o∈os,∀ dom:Name->Bool,(∀ i,dom [i,1]=true)->O.clos dom o=true)(hs:List (Name×O)):bT [0] (bM [0] hs) (bd os):=by
 intro nm o hn h
 unfold bd at h
 split at h
 ·rename_i i
  refine hc o (List.mem_of_getElem? h) _ fun i=>?_
  simp only[bM,vm,Bool.not_false,Bool.true_or]
 ·cases h
def n1{α:Type}(A:En α)(p:α->Prop)(new:α->List (Name×O))(d:α->D):NSpec:=
 ⟨fun xs=>match xs with | [x]=>A.enc (A.dec x)=x/\p (A.dec x) | _=>False,fun xs=>match xs with | [x]=>new (A.dec x) | _=>[],fun xs=>match xs with | [x]=>d (A.dec x) | _=>.any⟩
def n2{α β:Type}(A:En α)(B:En β)(p:α->β->Prop)(new:α->β->List (Name×O))(d:α->β->D):NSpec:=
 ⟨fun xs=>match xs with | [x,y]=>A.enc (A.dec x)=x/\B.enc (B.dec y)=y/\p (A.dec x) (B.dec y) | _=>False,fun xs=>match xs with | [x,y]=>new (A.dec x) (B.dec y) | _=>[],fun xs=>match xs with | [x,y]=>d (A.dec x) (B.dec y) | _=>.any⟩
theorem yu{α:Type}{A:En α}{p:α->Prop}{new:α->List (Name×O)}{d:α->D}{xs:List V}(h:(n1 A p new d).pre xs):∃ a,xs=[A.enc a]/\p a/\(n1 A p new d).new xs=new a/\(n1 A p new d).d xs=d a:=by
 unfold n1 at h
 simp only at h
 split at h
 ·exact⟨_,by rw[h.1],h.2,rfl,rfl⟩
 ·exact h.elim
attribute [go_sem] n1 n2 NSpec.toSpec NSpec.app mH cX cout D.ren D.renL O.ren fresh
section
variable {P:Program} {f:FuncId} {fn:Func} {nt:Nat} {rs:List ResultVar}
theorem w1{α:Type}{A:En α}{p:α->Prop}{g:α->V}{fl:Bool}(hf:P.funcs[f]?=some fn)(eQ:fn.ntmps=nt)(fx:fn.results.toList=rs)(hn:(fn.name== "runtime.NumGoroutine")=false)(hy:f<1000000000)
 (fi:fl=true->∀ a,(g a).flat=true) (hb:∃ c,fn.body=some c/\1<=nt/\∀ a,p a->V.wfL [A.enc a]->CL P [c] (aU nt [0] (fun _=>none) (gh 0 [A.enc a]) []) (pn P rs (g a))):aQ P f (p1 A p g fl):=by
 obtain⟨c,hc,h1,h⟩:=hb
 refine vj hf eQ fx hn hy (fun e=>SY (fi e) e) ⟨c,hc,fun xs hp hw=>?_⟩
 obtain⟨a,rfl,hp,hg⟩:=x9 hp
 rw[hg]
 exact⟨h1,h a hp hw⟩
theorem w2{α β:Type}{A:En α}{B:En β}{p:α->β->Prop}{g:α->β->V}{fl:Bool}(hf:P.funcs[f]?=some fn)(eQ:fn.ntmps=nt)(fx:fn.results.toList=rs)(hn:(fn.name== "runtime.NumGoroutine")=false)(hy:f<1000000000)
 (fi:fl=true->∀ a b,(g a b).flat=true) (hb:∃ c,fn.body=some c/\2<=nt/\∀ a b,p a b->V.wfL [A.enc a,B.enc b]->CL P [c] (aU nt [0] (fun _=>none) (gh 0 [A.enc a,B.enc b]) []) (pn P rs (g a b))):aQ P f (p2 A B p g fl):=by
 obtain⟨c,hc,h1,h⟩:=hb
 refine vj hf eQ fx hn hy (fun e=>H8 (fi e) e) ⟨c,hc,fun xs hp hw=>?_⟩
 obtain⟨a,b,rfl,hp,hg⟩:=BX hp
 rw[hg]
 exact⟨h1,h a b hp hw⟩
theorem w3{α β γ:Type}{A:En α}{B:En β}{C:En γ}{p:α->β->γ->Prop}{g:α->β->γ->V}{fl:Bool}(hf:P.funcs[f]?=some fn)(eQ:fn.ntmps=nt)(fx:fn.results.toList=rs)(hn:(fn.name== "runtime.NumGoroutine")=false)(hy:f<1000000000)
 (fi:fl=true->∀ a b c,(g a b c).flat=true) (hb:∃ c,fn.body=some c/\3<=nt/\∀ a b d,p a b d->V.wfL [A.enc a,B.enc b,C.enc d]->CL P [c] (aU nt [0] (fun _=>none) (gh 0 [A.enc a,B.enc b,C.enc d]) []) (pn P rs (g a b d))):aQ P f (p3 A B C p g fl):=by
 obtain⟨c,hc,h1,h⟩:=hb
 refine vj hf eQ fx hn hy (fun e=>SX (fi e) e) ⟨c,hc,fun xs hp hw=>?_⟩
 obtain⟨a,b,d,rfl,hp,hg⟩:=H7 hp
 rw[hg]
 exact⟨h1,h a b d hp hw⟩
theorem w4{α β γ δ:Type}{A:En α}{B:En β}{C:En γ}{E:En δ}{p:α->β->γ->δ->Prop}{g:α->β->γ->δ->V}{fl:Bool}(hf:P.funcs[f]?=some fn)(eQ:fn.ntmps=nt)(fx:fn.results.toList=rs)(hn:(fn.name== "runtime.NumGoroutine")=false)(hy:f<1000000000)
 (fi:fl=true->∀ a b c d,(g a b c d).flat=true) (hb:∃ c,fn.body=some c/\4<=nt/\∀ a b d e,p a b d e->V.wfL [A.enc a,B.enc b,C.enc d,E.enc e]->CL P [c] (aU nt [0] (fun _=>none) (gh 0 [A.enc a,B.enc b,C.enc d,E.enc e]) []) (pn P rs (g a b d e))):aQ P f (p4 A B C E p g fl):=by
 obtain⟨c,hc,h1,h⟩:=hb
 refine vj hf eQ fx hn hy (fun e=>SW (fi e) e) ⟨c,hc,fun xs hp hw=>?_⟩
 obtain⟨a,b,d,e,rfl,hp,hg⟩:=H6 hp
 rw[hg]
 exact⟨h1,h a b d e hp hw⟩
end
open Go Go.Proofs
attribute [go_sem] oX
@[go_sem] theorem ta0:a8 Tryz.prog 0=some (false,1):=by kernel_rfl
@[go_sem] theorem GJ:a8 Tryz.prog 3=some (false,1):=by kernel_rfl
@[go_sem] theorem ti3:lV Tryz.prog 3=some .i64:=by kernel_rfl
@[go_sem] theorem P6:be Tryz.prog 3=some (.int .i64 0):=by kernel_rfl
@[go_sem] theorem ta4:a8 Tryz.prog 4=some (false,1):=by kernel_rfl
@[go_sem] theorem tz4:be Tryz.prog 4=some (.bool false):=by kernel_rfl
@[go_sem] theorem ta5:a8 Tryz.prog 5=some (false,1):=by kernel_rfl
@[go_sem] theorem ti5:lV Tryz.prog 5=some .u8:=by kernel_rfl
@[go_sem] theorem tz5:be Tryz.prog 5=some (.int .u8 0):=by kernel_rfl
@[go_sem] theorem ta9:a8 Tryz.prog 9=some (false,1):=by kernel_rfl
@[go_sem] theorem tl9:dr Tryz.prog 9=some 1:=by kernel_rfl
@[go_sem] theorem tz9:be Tryz.prog 9=some (.string ⟨#[]⟩):=by kernel_rfl
@[go_sem] theorem aeL:a8 Tryz.prog 22=some (false,1):=by kernel_rfl
@[go_sem] theorem Qe:bK Tryz.prog 22=some (3,1,8):=by kernel_rfl
@[go_sem] theorem adG:dr Tryz.prog 22=some 0:=by kernel_rfl
@[go_sem] theorem acZ:be Tryz.prog 22=some (.slice none 0 0):=by kernel_rfl
@[go_sem] theorem aeK:a8 Tryz.prog 23=some (false,1):=by kernel_rfl
@[go_sem] theorem GI:bK Tryz.prog 23=some (91,2,16):=by kernel_rfl
@[go_sem] theorem adF:dr Tryz.prog 23=some 0:=by kernel_rfl
@[go_sem] theorem acY:be Tryz.prog 23=some (.slice none 0 0):=by kernel_rfl
@[go_sem] theorem aeJ:a8 Tryz.prog 24=some (true,6):=by kernel_rfl
@[go_sem] theorem adl:eZ Tryz.prog 24=some (6,1,false):=by kernel_rfl
@[go_sem] theorem adz:gn Tryz.prog 24=some [(0,1),(1,1),(2,1),(3,1),(4,1),(5,1)]:=by kernel_rfl
@[go_sem] theorem acX:be Tryz.prog 24=some (.agg #[(.slice none 0 0),(.slice none 0 0),(.slice none 0 0),(.slice none 0 0),(.slice none 0 0),(.slice none 0 0)]):=by kernel_rfl
@[go_sem] theorem aeI:a8 Tryz.prog 25=some (true,6):=by kernel_rfl
@[go_sem] theorem adk:eZ Tryz.prog 25=some (6,1,false):=by kernel_rfl
@[go_sem] theorem ady:gn Tryz.prog 25=some [(0,1),(1,1),(2,1),(3,1),(4,1),(5,1)]:=by kernel_rfl
@[go_sem] theorem acW:be Tryz.prog 25=some (.agg #[(.int .i64 0),(.int .i64 0),(.int .i64 0),(.int .i64 0),(.int .i64 0),(.int .i64 0)]):=by kernel_rfl
@[go_sem] theorem aeH:a8 Tryz.prog 27=some (true,19):=by kernel_rfl
@[go_sem] theorem adx:gn Tryz.prog 27=some [(0,1),(1,6),(7,6),(13,6)]:=by kernel_rfl
@[go_sem] theorem acV:be Tryz.prog 27=some (.agg #[(.slice none 0 0),(.slice none 0 0),(.slice none 0 0),(.slice none 0 0),(.slice none 0 0),(.slice none 0 0),(.slice none 0 0),(.int .i64 0),(.int .i64 0),(.int .i64 0),(.int .i64 0),(.int .i64 0),(.int .i64 0),(.int .i64 0),(.int .i64 0),(.int .i64 0),(.int .i64 0),(.int .i64 0),(.int .i64 0)]):=by kernel_rfl
@[go_sem] theorem ad4:cM Tryz.prog 27 0=some (0,1,false):=by kernel_rfl
@[go_sem] theorem ad3:cM Tryz.prog 27 1=some (1,6,true):=by kernel_rfl
@[go_sem] theorem ad2:cM Tryz.prog 27 2=some (7,6,true):=by kernel_rfl
@[go_sem] theorem ad1:cM Tryz.prog 27 3=some (13,6,true):=by kernel_rfl
@[go_sem] theorem aeG:a8 Tryz.prog 29=some (true,21):=by kernel_rfl
@[go_sem] theorem adw:gn Tryz.prog 29=some [(0,1),(1,19),(20,1)]:=by kernel_rfl
@[go_sem] theorem acU:be Tryz.prog 29=some (.agg #[(.int .i64 0),(.slice none 0 0),(.slice none 0 0),(.slice none 0 0),(.slice none 0 0),(.slice none 0 0),(.slice none 0 0),(.slice none 0 0),(.int .i64 0),(.int .i64 0),(.int .i64 0),(.int .i64 0),(.int .i64 0),(.int .i64 0),(.int .i64 0),(.int .i64 0),(.int .i64 0),(.int .i64 0),(.int .i64 0),(.int .i64 0),(.int .i64 0)]):=by kernel_rfl
@[go_sem] theorem ad0:cM Tryz.prog 29 0=some (0,1,false):=by kernel_rfl
@[go_sem] theorem adZ:cM Tryz.prog 29 1=some (1,19,true):=by kernel_rfl
@[go_sem] theorem adY:cM Tryz.prog 29 2=some (20,1,false):=by kernel_rfl
@[go_sem] theorem aeF:a8 Tryz.prog 30=some (true,42):=by kernel_rfl
@[go_sem] theorem adj:eZ Tryz.prog 30=some (2,21,true):=by kernel_rfl
@[go_sem] theorem adv:gn Tryz.prog 30=some [(0,21),(21,21)]:=by kernel_rfl
@[go_sem] theorem acT:be Tryz.prog 30=some (.agg #[(.int .i64 0),(.slice none 0 0),(.slice none 0 0),(.slice none 0 0),(.slice none 0 0),(.slice none 0 0),(.slice none 0 0),(.slice none 0 0),(.int .i64 0),(.int .i64 0),(.int .i64 0),(.int .i64 0),(.int .i64 0),(.int .i64 0),(.int .i64 0),(.int .i64 0),(.int .i64 0),(.int .i64 0),(.int .i64 0),(.int .i64 0),(.int .i64 0),(.int .i64 0),(.slice none 0 0),(.slice none 0 0),(.slice none 0 0),(.slice none 0 0),(.slice none 0 0),(.slice none 0 0),(.slice none 0 0),(.int .i64 0),(.int .i64 0),(.int .i64 0),(.int .i64 0),(.int .i64 0),(.int .i64 0),(.int .i64 0),(.int .i64 0),(.int .i64 0),(.int .i64 0),(.int .i64 0),(.int .i64 0),(.int .i64 0)]):=by kernel_rfl
@[go_sem] theorem aeE:a8 Tryz.prog 32=some (true,63):=by kernel_rfl
@[go_sem] theorem adu:gn Tryz.prog 32=some [(0,1),(1,19),(20,42),(62,1)]:=by kernel_rfl
@[go_sem] theorem acS:be Tryz.prog 32=some (.agg #[(.int .i64 0),(.slice none 0 0),(.slice none 0 0),(.slice none 0 0),(.slice none 0 0),(.slice none 0 0),(.slice none 0 0),(.slice none 0 0),(.int .i64 0),(.int .i64 0),(.int .i64 0),(.int .i64 0),(.int .i64 0),(.int .i64 0),(.int .i64 0),(.int .i64 0),(.int .i64 0),(.int .i64 0),(.int .i64 0),(.int .i64 0),(.int .i64 0),(.slice none 0 0),(.slice none 0 0),(.slice none 0 0),(.slice none 0 0),(.slice none 0 0),(.slice none 0 0),(.slice none 0 0),(.int .i64 0),(.int .i64 0),(.int .i64 0),(.int .i64 0),(.int .i64 0),(.int .i64 0),(.int .i64 0),(.int .i64 0),(.int .i64 0),(.int .i64 0),(.int .i64 0),(.int .i64 0),(.int .i64 0),(.int .i64 0),(.slice none 0 0),(.slice none 0 0),(.slice none 0 0),(.slice none 0 0),(.slice none 0 0),(.slice none 0 0),(.slice none 0 0),(.int .i64 0),(.int .i64 0),(.int .i64 0),(.int .i64 0),(.int .i64 0),(.int .i64 0),(.int .i64 0),(.int .i64 0),(.int .i64 0),(.int .i64 0),(.int .i64 0),(.int .i64 0),(.int .i64 0),(.int .i64 0)]):=by kernel_rfl
@[go_sem] theorem adX:cM Tryz.prog 32 0=some (0,1,false):=by kernel_rfl
@[go_sem] theorem adW:cM Tryz.prog 32 1=some (1,19,true):=by kernel_rfl
@[go_sem] theorem adV:cM Tryz.prog 32 2=some (20,42,true):=by kernel_rfl
@[go_sem] theorem adU:cM Tryz.prog 32 3=some (62,1,false):=by kernel_rfl
@[go_sem] theorem aeD:a8 Tryz.prog 34=some (true,4):=by kernel_rfl
@[go_sem] theorem adt:gn Tryz.prog 34=some [(0,1),(1,1),(2,1),(3,1)]:=by kernel_rfl
@[go_sem] theorem acR:be Tryz.prog 34=some (.agg #[(.int .i64 0),(.int .i64 0),(.slice none 0 0),(.int .i64 0)]):=by kernel_rfl
@[go_sem] theorem adT:cM Tryz.prog 34 0=some (0,1,false):=by kernel_rfl
@[go_sem] theorem adS:cM Tryz.prog 34 1=some (1,1,false):=by kernel_rfl
@[go_sem] theorem adR:cM Tryz.prog 34 2=some (2,1,false):=by kernel_rfl
@[go_sem] theorem adQ:cM Tryz.prog 34 3=some (3,1,false):=by kernel_rfl
@[go_sem] theorem aeC:a8 Tryz.prog 35=some (true,3):=by kernel_rfl
@[go_sem] theorem adi:eZ Tryz.prog 35=some (3,1,false):=by kernel_rfl
@[go_sem] theorem ads:gn Tryz.prog 35=some [(0,1),(1,1),(2,1)]:=by kernel_rfl
@[go_sem] theorem acQ:be Tryz.prog 35=some (.agg #[(.int .i64 0),(.int .i64 0),(.int .i64 0)]):=by kernel_rfl
@[go_sem] theorem aeB:a8 Tryz.prog 36=some (false,1):=by kernel_rfl
@[go_sem] theorem adJ:lV Tryz.prog 36=some .i64:=by kernel_rfl
@[go_sem] theorem acP:be Tryz.prog 36=some (.int .i64 0):=by kernel_rfl
@[go_sem] theorem aeA:a8 Tryz.prog 37=some (false,1):=by kernel_rfl
@[go_sem] theorem aez:a8 Tryz.prog 45=some (false,1):=by kernel_rfl
@[go_sem] theorem aed:bK Tryz.prog 45=some (113,5,40):=by kernel_rfl
@[go_sem] theorem adE:dr Tryz.prog 45=some 0:=by kernel_rfl
@[go_sem] theorem acO:be Tryz.prog 45=some (.slice none 0 0):=by kernel_rfl
@[go_sem] theorem aey:a8 Tryz.prog 46=some (true,5):=by kernel_rfl
@[go_sem] theorem adh:eZ Tryz.prog 46=some (5,1,false):=by kernel_rfl
@[go_sem] theorem adr:gn Tryz.prog 46=some [(0,1),(1,1),(2,1),(3,1),(4,1)]:=by kernel_rfl
@[go_sem] theorem acN:be Tryz.prog 46=some (.agg #[(.int .i64 0),(.int .i64 0),(.int .i64 0),(.int .i64 0),(.int .i64 0)]):=by kernel_rfl
@[go_sem] theorem aex:a8 Tryz.prog 47=some (true,378):=by kernel_rfl
@[go_sem] theorem adg:eZ Tryz.prog 47=some (6,63,true):=by kernel_rfl
@[go_sem] theorem adq:gn Tryz.prog 47=some [(0,63),(63,63),(126,63),(189,63),(252,63),(315,63)]:=by kernel_rfl
@[go_sem] theorem acM:be Tryz.prog 47=some (.agg #[(.int .i64 0),(.slice none 0 0),(.slice none 0 0),(.slice none 0 0),(.slice none 0 0),(.slice none 0 0),(.slice none 0 0),(.slice none 0 0),(.int .i64 0),(.int .i64 0),(.int .i64 0),(.int .i64 0),(.int .i64 0),(.int .i64 0),(.int .i64 0),(.int .i64 0),(.int .i64 0),(.int .i64 0),(.int .i64 0),(.int .i64 0),(.int .i64 0),(.slice none 0 0),(.slice none 0 0),(.slice none 0 0),(.slice none 0 0),(.slice none 0 0),(.slice none 0 0),(.slice none 0 0),(.int .i64 0),(.int .i64 0),(.int .i64 0),(.int .i64 0),(.int .i64 0),(.int .i64 0),(.int .i64 0),(.int .i64 0),(.int .i64 0),(.int .i64 0),(.int .i64 0),(.int .i64 0),(.int .i64 0),(.int .i64 0),(.slice none 0 0),(.slice none 0 0),(.slice none 0 0),(.slice none 0 0),(.slice none 0 0),(.slice none 0 0),(.slice none 0 0),(.int .i64 0),(.int .i64 0),(.int .i64 0),(.int .i64 0),(.int .i64 0),(.int .i64 0),(.int .i64 0),(.int .i64 0),(.int .i64 0),(.int .i64 0),(.int .i64 0),(.int .i64 0),(.int .i64 0),(.int .i64 0),(.int .i64 0),(.slice none 0 0),(.slice none 0 0),(.slice none 0 0),(.slice none 0 0),(.slice none 0 0),(.slice none 0 0),(.slice none 0 0),(.int .i64 0),(.int .i64 0),(.int .i64 0),(.int .i64 0),(.int .i64 0),(.int .i64 0),(.int .i64 0),(.int .i64 0),(.int .i64 0),(.int .i64 0),(.int .i64 0),(.int .i64 0),(.int .i64 0),(.slice none 0 0),(.slice none 0 0),(.slice none 0 0),(.slice none 0 0),(.slice none 0 0),(.slice none 0 0),(.slice none 0 0),(.int .i64 0),(.int .i64 0),(.int .i64 0),(.int .i64 0),(.int .i64 0),(.int .i64 0),(.int .i64 0),(.int .i64 0),(.int .i64 0),(.int .i64 0),(.int .i64 0),(.int .i64 0),(.int .i64 0),(.int .i64 0),(.slice none 0 0),(.slice none 0 0),(.slice none 0 0),(.slice none 0 0),(.slice none 0 0),(.slice none 0 0),(.slice none 0 0),(.int .i64 0),(.int .i64 0),(.int .i64 0),(.int .i64 0),(.int .i64 0),(.int .i64 0),(.int .i64 0),(.int .i64 0),(.int .i64 0),(.int .i64 0),(.int .i64 0),(.int .i64 0),(.int .i64 0),(.int .i64 0),(.int .i64 0),(.slice none 0 0),(.slice none 0 0),(.slice none 0 0),(.slice none 0 0),(.slice none 0 0),(.slice none 0 0),(.slice none 0 0),(.int .i64 0),(.int .i64 0),(.int .i64 0),(.int .i64 0),(.int .i64 0),(.int .i64 0),(.int .i64 0),(.int .i64 0),(.int .i64 0),(.int .i64 0),(.int .i64 0),(.int .i64 0),(.int .i64 0),(.slice none 0 0),(.slice none 0 0),(.slice none 0 0),(.slice none 0 0),(.slice none 0 0),(.slice none 0 0),(.slice none 0 0),(.int .i64 0),(.int .i64 0),(.int .i64 0),(.int .i64 0),(.int .i64 0),(.int .i64 0),(.int .i64 0),(.int .i64 0),(.int .i64 0),(.int .i64 0),(.int .i64 0),(.int .i64 0),(.int .i64 0),(.int .i64 0),(.slice none 0 0),(.slice none 0 0),(.slice none 0 0),(.slice none 0 0),(.slice none 0 0),(.slice none 0 0),(.slice none 0 0),(.int .i64 0),(.int .i64 0),(.int .i64 0),(.int .i64 0),(.int .i64 0),(.int .i64 0),(.int .i64 0),(.int .i64 0),(.int .i64 0),(.int .i64 0),(.int .i64 0),(.int .i64 0),(.int .i64 0),(.int .i64 0),(.int .i64 0),(.slice none 0 0),(.slice none 0 0),(.slice none 0 0),(.slice none 0 0),(.slice none 0 0),(.slice none 0 0),(.slice none 0 0),(.int .i64 0),(.int .i64 0),(.int .i64 0),(.int .i64 0),(.int .i64 0),(.int .i64 0),(.int .i64 0),(.int .i64 0),(.int .i64 0),(.int .i64 0),(.int .i64 0),(.int .i64 0),(.int .i64 0),(.slice none 0 0),(.slice none 0 0),(.slice none 0 0),(.slice none 0 0),(.slice none 0 0),(.slice none 0 0),(.slice none 0 0),(.int .i64 0),(.int .i64 0),(.int .i64 0),(.int .i64 0),(.int .i64 0),(.int .i64 0),(.int .i64 0),(.int .i64 0),(.int .i64 0),(.int .i64 0),(.int .i64 0),(.int .i64 0),(.int .i64 0),(.int .i64 0),(.slice none 0 0),(.slice none 0 0),(.slice none 0 0),(.slice none 0 0),(.slice none 0 0),(.slice none 0 0),(.slice none 0 0),(.int .i64 0),(.int .i64 0),(.int .i64 0),(.int .i64 0),(.int .i64 0),(.int .i64 0),(.int .i64 0),(.int .i64 0),(.int .i64 0),(.int .i64 0),(.int .i64 0),(.int .i64 0),(.int .i64 0),(.int .i64 0),(.int .i64 0),(.slice none 0 0),(.slice none 0 0),(.slice none 0 0),(.slice none 0 0),(.slice none 0 0),(.slice none 0 0),(.slice none 0 0),(.int .i64 0),(.int .i64 0),(.int .i64 0),(.int .i64 0),(.int .i64 0),(.int .i64 0),(.int .i64 0),(.int .i64 0),(.int .i64 0),(.int .i64 0),(.int .i64 0),(.int .i64 0),(.int .i64 0),(.slice none 0 0),(.slice none 0 0),(.slice none 0 0),(.slice none 0 0),(.slice none 0 0),(.slice none 0 0),(.slice none 0 0),(.int .i64 0),(.int .i64 0),(.int .i64 0),(.int .i64 0),(.int .i64 0),(.int .i64 0),(.int .i64 0),(.int .i64 0),(.int .i64 0),(.int .i64 0),(.int .i64 0),(.int .i64 0),(.int .i64 0),(.int .i64 0),(.slice none 0 0),(.slice none 0 0),(.slice none 0 0),(.slice none 0 0),(.slice none 0 0),(.slice none 0 0),(.slice none 0 0),(.int .i64 0),(.int .i64 0),(.int .i64 0),(.int .i64 0),(.int .i64 0),(.int .i64 0),(.int .i64 0),(.int .i64 0),(.int .i64 0),(.int .i64 0),(.int .i64 0),(.int .i64 0),(.int .i64 0),(.int .i64 0),(.int .i64 0),(.slice none 0 0),(.slice none 0 0),(.slice none 0 0),(.slice none 0 0),(.slice none 0 0),(.slice none 0 0),(.slice none 0 0),(.int .i64 0),(.int .i64 0),(.int .i64 0),(.int .i64 0),(.int .i64 0),(.int .i64 0),(.int .i64 0),(.int .i64 0),(.int .i64 0),(.int .i64 0),(.int .i64 0),(.int .i64 0),(.int .i64 0),(.slice none 0 0),(.slice none 0 0),(.slice none 0 0),(.slice none 0 0),(.slice none 0 0),(.slice none 0 0),(.slice none 0 0),(.int .i64 0),(.int .i64 0),(.int .i64 0),(.int .i64 0),(.int .i64 0),(.int .i64 0),(.int .i64 0),(.int .i64 0),(.int .i64 0),(.int .i64 0),(.int .i64 0),(.int .i64 0),(.int .i64 0),(.int .i64 0),(.slice none 0 0),(.slice none 0 0),(.slice none 0 0),(.slice none 0 0),(.slice none 0 0),(.slice none 0 0),(.slice none 0 0),(.int .i64 0),(.int .i64 0),(.int .i64 0),(.int .i64 0),(.int .i64 0),(.int .i64 0),(.int .i64 0),(.int .i64 0),(.int .i64 0),(.int .i64 0),(.int .i64 0),(.int .i64 0),(.int .i64 0),(.int .i64 0)]):=by kernel_rfl
@[go_sem] theorem aew:a8 Tryz.prog 48=some (false,1):=by kernel_rfl
@[go_sem] theorem aec:bK Tryz.prog 48=some (34,4,48):=by kernel_rfl
@[go_sem] theorem adD:dr Tryz.prog 48=some 0:=by kernel_rfl
@[go_sem] theorem acK:be Tryz.prog 48=some (.slice none 0 0):=by kernel_rfl
@[go_sem] theorem aev:a8 Tryz.prog 50=some (true,379):=by kernel_rfl
@[go_sem] theorem adp:gn Tryz.prog 50=some [(0,378),(378,1)]:=by kernel_rfl
@[go_sem] theorem acJ:be Tryz.prog 50=some (.agg #[(.int .i64 0),(.slice none 0 0),(.slice none 0 0),(.slice none 0 0),(.slice none 0 0),(.slice none 0 0),(.slice none 0 0),(.slice none 0 0),(.int .i64 0),(.int .i64 0),(.int .i64 0),(.int .i64 0),(.int .i64 0),(.int .i64 0),(.int .i64 0),(.int .i64 0),(.int .i64 0),(.int .i64 0),(.int .i64 0),(.int .i64 0),(.int .i64 0),(.slice none 0 0),(.slice none 0 0),(.slice none 0 0),(.slice none 0 0),(.slice none 0 0),(.slice none 0 0),(.slice none 0 0),(.int .i64 0),(.int .i64 0),(.int .i64 0),(.int .i64 0),(.int .i64 0),(.int .i64 0),(.int .i64 0),(.int .i64 0),(.int .i64 0),(.int .i64 0),(.int .i64 0),(.int .i64 0),(.int .i64 0),(.int .i64 0),(.slice none 0 0),(.slice none 0 0),(.slice none 0 0),(.slice none 0 0),(.slice none 0 0),(.slice none 0 0),(.slice none 0 0),(.int .i64 0),(.int .i64 0),(.int .i64 0),(.int .i64 0),(.int .i64 0),(.int .i64 0),(.int .i64 0),(.int .i64 0),(.int .i64 0),(.int .i64 0),(.int .i64 0),(.int .i64 0),(.int .i64 0),(.int .i64 0),(.int .i64 0),(.slice none 0 0),(.slice none 0 0),(.slice none 0 0),(.slice none 0 0),(.slice none 0 0),(.slice none 0 0),(.slice none 0 0),(.int .i64 0),(.int .i64 0),(.int .i64 0),(.int .i64 0),(.int .i64 0),(.int .i64 0),(.int .i64 0),(.int .i64 0),(.int .i64 0),(.int .i64 0),(.int .i64 0),(.int .i64 0),(.int .i64 0),(.slice none 0 0),(.slice none 0 0),(.slice none 0 0),(.slice none 0 0),(.slice none 0 0),(.slice none 0 0),(.slice none 0 0),(.int .i64 0),(.int .i64 0),(.int .i64 0),(.int .i64 0),(.int .i64 0),(.int .i64 0),(.int .i64 0),(.int .i64 0),(.int .i64 0),(.int .i64 0),(.int .i64 0),(.int .i64 0),(.int .i64 0),(.int .i64 0),(.slice none 0 0),(.slice none 0 0),(.slice none 0 0),(.slice none 0 0),(.slice none 0 0),(.slice none 0 0),(.slice none 0 0),(.int .i64 0),(.int .i64 0),(.int .i64 0),(.int .i64 0),(.int .i64 0),(.int .i64 0),(.int .i64 0),(.int .i64 0),(.int .i64 0),(.int .i64 0),(.int .i64 0),(.int .i64 0),(.int .i64 0),(.int .i64 0),(.int .i64 0),(.slice none 0 0),(.slice none 0 0),(.slice none 0 0),(.slice none 0 0),(.slice none 0 0),(.slice none 0 0),(.slice none 0 0),(.int .i64 0),(.int .i64 0),(.int .i64 0),(.int .i64 0),(.int .i64 0),(.int .i64 0),(.int .i64 0),(.int .i64 0),(.int .i64 0),(.int .i64 0),(.int .i64 0),(.int .i64 0),(.int .i64 0),(.slice none 0 0),(.slice none 0 0),(.slice none 0 0),(.slice none 0 0),(.slice none 0 0),(.slice none 0 0),(.slice none 0 0),(.int .i64 0),(.int .i64 0),(.int .i64 0),(.int .i64 0),(.int .i64 0),(.int .i64 0),(.int .i64 0),(.int .i64 0),(.int .i64 0),(.int .i64 0),(.int .i64 0),(.int .i64 0),(.int .i64 0),(.int .i64 0),(.slice none 0 0),(.slice none 0 0),(.slice none 0 0),(.slice none 0 0),(.slice none 0 0),(.slice none 0 0),(.slice none 0 0),(.int .i64 0),(.int .i64 0),(.int .i64 0),(.int .i64 0),(.int .i64 0),(.int .i64 0),(.int .i64 0),(.int .i64 0),(.int .i64 0),(.int .i64 0),(.int .i64 0),(.int .i64 0),(.int .i64 0),(.int .i64 0),(.int .i64 0),(.slice none 0 0),(.slice none 0 0),(.slice none 0 0),(.slice none 0 0),(.slice none 0 0),(.slice none 0 0),(.slice none 0 0),(.int .i64 0),(.int .i64 0),(.int .i64 0),(.int .i64 0),(.int .i64 0),(.int .i64 0),(.int .i64 0),(.int .i64 0),(.int .i64 0),(.int .i64 0),(.int .i64 0),(.int .i64 0),(.int .i64 0),(.slice none 0 0),(.slice none 0 0),(.slice none 0 0),(.slice none 0 0),(.slice none 0 0),(.slice none 0 0),(.slice none 0 0),(.int .i64 0),(.int .i64 0),(.int .i64 0),(.int .i64 0),(.int .i64 0),(.int .i64 0),(.int .i64 0),(.int .i64 0),(.int .i64 0),(.int .i64 0),(.int .i64 0),(.int .i64 0),(.int .i64 0),(.int .i64 0),(.slice none 0 0),(.slice none 0 0),(.slice none 0 0),(.slice none 0 0),(.slice none 0 0),(.slice none 0 0),(.slice none 0 0),(.int .i64 0),(.int .i64 0),(.int .i64 0),(.int .i64 0),(.int .i64 0),(.int .i64 0),(.int .i64 0),(.int .i64 0),(.int .i64 0),(.int .i64 0),(.int .i64 0),(.int .i64 0),(.int .i64 0),(.int .i64 0),(.int .i64 0),(.slice none 0 0),(.slice none 0 0),(.slice none 0 0),(.slice none 0 0),(.slice none 0 0),(.slice none 0 0),(.slice none 0 0),(.int .i64 0),(.int .i64 0),(.int .i64 0),(.int .i64 0),(.int .i64 0),(.int .i64 0),(.int .i64 0),(.int .i64 0),(.int .i64 0),(.int .i64 0),(.int .i64 0),(.int .i64 0),(.int .i64 0),(.slice none 0 0),(.slice none 0 0),(.slice none 0 0),(.slice none 0 0),(.slice none 0 0),(.slice none 0 0),(.slice none 0 0),(.int .i64 0),(.int .i64 0),(.int .i64 0),(.int .i64 0),(.int .i64 0),(.int .i64 0),(.int .i64 0),(.int .i64 0),(.int .i64 0),(.int .i64 0),(.int .i64 0),(.int .i64 0),(.int .i64 0),(.int .i64 0),(.slice none 0 0),(.slice none 0 0),(.slice none 0 0),(.slice none 0 0),(.slice none 0 0),(.slice none 0 0),(.slice none 0 0),(.int .i64 0),(.int .i64 0),(.int .i64 0),(.int .i64 0),(.int .i64 0),(.int .i64 0),(.int .i64 0),(.int .i64 0),(.int .i64 0),(.int .i64 0),(.int .i64 0),(.int .i64 0),(.int .i64 0),(.int .i64 0),(.int .i64 0),(.slice none 0 0),(.slice none 0 0),(.slice none 0 0),(.slice none 0 0),(.slice none 0 0),(.slice none 0 0),(.slice none 0 0),(.int .i64 0),(.int .i64 0),(.int .i64 0),(.int .i64 0),(.int .i64 0),(.int .i64 0),(.int .i64 0),(.int .i64 0),(.int .i64 0),(.int .i64 0),(.int .i64 0),(.int .i64 0),(.int .i64 0),(.slice none 0 0),(.slice none 0 0),(.slice none 0 0),(.slice none 0 0),(.slice none 0 0),(.slice none 0 0),(.slice none 0 0),(.int .i64 0),(.int .i64 0),(.int .i64 0),(.int .i64 0),(.int .i64 0),(.int .i64 0),(.int .i64 0),(.int .i64 0),(.int .i64 0),(.int .i64 0),(.int .i64 0),(.int .i64 0),(.int .i64 0),(.int .i64 0),(.slice none 0 0),(.slice none 0 0),(.slice none 0 0),(.slice none 0 0),(.slice none 0 0),(.slice none 0 0),(.slice none 0 0),(.int .i64 0),(.int .i64 0),(.int .i64 0),(.int .i64 0),(.int .i64 0),(.int .i64 0),(.int .i64 0),(.int .i64 0),(.int .i64 0),(.int .i64 0),(.int .i64 0),(.int .i64 0),(.int .i64 0),(.int .i64 0),(.slice none 0 0)]):=by kernel_rfl
@[go_sem] theorem adP:cM Tryz.prog 50 0=some (0,378,true):=by kernel_rfl
@[go_sem] theorem adO:cM Tryz.prog 50 1=some (378,1,false):=by kernel_rfl
@[go_sem] theorem aeu:a8 Tryz.prog 53=some (false,1):=by kernel_rfl
@[go_sem] theorem aet:a8 Tryz.prog 56=some (false,1):=by kernel_rfl
@[go_sem] theorem aeb:bK Tryz.prog 56=some (32,63,840):=by kernel_rfl
@[go_sem] theorem adC:dr Tryz.prog 56=some 0:=by kernel_rfl
@[go_sem] theorem acI:be Tryz.prog 56=some (.slice none 0 0):=by kernel_rfl
@[go_sem] theorem aes:a8 Tryz.prog 60=some (false,1):=by kernel_rfl
@[go_sem] theorem aer:a8 Tryz.prog 62=some (false,1):=by kernel_rfl
@[go_sem] theorem aeq:a8 Tryz.prog 68=some (true,2):=by kernel_rfl
@[go_sem] theorem adf:eZ Tryz.prog 68=some (2,1,false):=by kernel_rfl
@[go_sem] theorem ado:gn Tryz.prog 68=some [(0,1),(1,1)]:=by kernel_rfl
@[go_sem] theorem acH:be Tryz.prog 68=some (.agg #[(.int .i64 0),(.int .i64 0)]):=by kernel_rfl
@[go_sem] theorem aep:a8 Tryz.prog 69=some (false,1):=by kernel_rfl
@[go_sem] theorem aeo:a8 Tryz.prog 76=some (false,1):=by kernel_rfl
@[go_sem] theorem aen:a8 Tryz.prog 78=some (false,1):=by kernel_rfl
@[go_sem] theorem aem:a8 Tryz.prog 83=some (false,1):=by kernel_rfl
@[go_sem] theorem ael:a8 Tryz.prog 85=some (false,1):=by kernel_rfl
@[go_sem] theorem acG:be Tryz.prog 85=some (.pointer none):=by kernel_rfl
@[go_sem] theorem aek:a8 Tryz.prog 89=some (true,63):=by kernel_rfl
@[go_sem] theorem adn:gn Tryz.prog 89=some [(0,63)]:=by kernel_rfl
@[go_sem] theorem acF:be Tryz.prog 89=some (.agg #[(.int .i64 0),(.slice none 0 0),(.slice none 0 0),(.slice none 0 0),(.slice none 0 0),(.slice none 0 0),(.slice none 0 0),(.slice none 0 0),(.int .i64 0),(.int .i64 0),(.int .i64 0),(.int .i64 0),(.int .i64 0),(.int .i64 0),(.int .i64 0),(.int .i64 0),(.int .i64 0),(.int .i64 0),(.int .i64 0),(.int .i64 0),(.int .i64 0),(.slice none 0 0),(.slice none 0 0),(.slice none 0 0),(.slice none 0 0),(.slice none 0 0),(.slice none 0 0),(.slice none 0 0),(.int .i64 0),(.int .i64 0),(.int .i64 0),(.int .i64 0),(.int .i64 0),(.int .i64 0),(.int .i64 0),(.int .i64 0),(.int .i64 0),(.int .i64 0),(.int .i64 0),(.int .i64 0),(.int .i64 0),(.int .i64 0),(.slice none 0 0),(.slice none 0 0),(.slice none 0 0),(.slice none 0 0),(.slice none 0 0),(.slice none 0 0),(.slice none 0 0),(.int .i64 0),(.int .i64 0),(.int .i64 0),(.int .i64 0),(.int .i64 0),(.int .i64 0),(.int .i64 0),(.int .i64 0),(.int .i64 0),(.int .i64 0),(.int .i64 0),(.int .i64 0),(.int .i64 0),(.int .i64 0)]):=by kernel_rfl
@[go_sem] theorem adN:cM Tryz.prog 89 0=some (0,63,true):=by kernel_rfl
@[go_sem] theorem aej:a8 Tryz.prog 91=some (true,2):=by kernel_rfl
@[go_sem] theorem adm:gn Tryz.prog 91=some [(0,1),(1,1)]:=by kernel_rfl
@[go_sem] theorem P5:be Tryz.prog 91=some (.agg #[(.int .i64 0),(.int .i64 0)]):=by kernel_rfl
@[go_sem] theorem adM:cM Tryz.prog 91 0=some (0,1,false):=by kernel_rfl
@[go_sem] theorem adL:cM Tryz.prog 91 1=some (1,1,false):=by kernel_rfl
@[go_sem] theorem aei:a8 Tryz.prog 93=some (false,1):=by kernel_rfl
@[go_sem] theorem acE:be Tryz.prog 93=some (.pointer none):=by kernel_rfl
@[go_sem] theorem aeh:a8 Tryz.prog 95=some (false,1):=by kernel_rfl
@[go_sem] theorem acD:be Tryz.prog 95=some (.pointer none):=by kernel_rfl
@[go_sem] theorem aeg:a8 Tryz.prog 99=some (false,1):=by kernel_rfl
@[go_sem] theorem acC:be Tryz.prog 99=some .nilFunc:=by kernel_rfl
@[go_sem] theorem aeW:a8 Tryz.prog 100=some (false,1):=by kernel_rfl
@[go_sem] theorem ac7:be Tryz.prog 100=some .nilFunc:=by kernel_rfl
@[go_sem] theorem aeV:a8 Tryz.prog 102=some (false,1):=by kernel_rfl
@[go_sem] theorem ac6:be Tryz.prog 102=some (.pointer none):=by kernel_rfl
@[go_sem] theorem aeU:a8 Tryz.prog 103=some (false,1):=by kernel_rfl
@[go_sem] theorem aeT:a8 Tryz.prog 105=some (false,1):=by kernel_rfl
@[go_sem] theorem aef:bK Tryz.prog 105=some (68,2,16):=by kernel_rfl
@[go_sem] theorem adI:dr Tryz.prog 105=some 0:=by kernel_rfl
@[go_sem] theorem ac5:be Tryz.prog 105=some (.slice none 0 0):=by kernel_rfl
@[go_sem] theorem aeS:a8 Tryz.prog 106=some (false,1):=by kernel_rfl
@[go_sem] theorem aeR:a8 Tryz.prog 113=some (true,5):=by kernel_rfl
@[go_sem] theorem adB:gn Tryz.prog 113=some [(0,1),(1,1),(2,1),(3,1),(4,1)]:=by kernel_rfl
@[go_sem] theorem ac4:be Tryz.prog 113=some (.agg #[(.int .i64 0),(.int .i64 0),(.int .i64 0),(.int .i64 0),(.int .i64 0)]):=by kernel_rfl
@[go_sem] theorem aea:cM Tryz.prog 113 0=some (0,1,false):=by kernel_rfl
@[go_sem] theorem ad':cM Tryz.prog 113 1=some (1,1,false):=by kernel_rfl
@[go_sem] theorem ad9:cM Tryz.prog 113 2=some (2,1,false):=by kernel_rfl
@[go_sem] theorem ad8:cM Tryz.prog 113 3=some (3,1,false):=by kernel_rfl
@[go_sem] theorem ad7:cM Tryz.prog 113 4=some (4,1,false):=by kernel_rfl
@[go_sem] theorem aeQ:a8 Tryz.prog 114=some (false,1):=by kernel_rfl
@[go_sem] theorem ac3:be Tryz.prog 114=some .nilFunc:=by kernel_rfl
@[go_sem] theorem aeP:a8 Tryz.prog 134=some (false,1):=by kernel_rfl
@[go_sem] theorem adK:lV Tryz.prog 134=some .u64:=by kernel_rfl
@[go_sem] theorem ac2:be Tryz.prog 134=some (.int .u64 0):=by kernel_rfl
@[go_sem] theorem aeO:a8 Tryz.prog 136=some (false,1):=by kernel_rfl
@[go_sem] theorem aee:bK Tryz.prog 136=some (5,1,1):=by kernel_rfl
@[go_sem] theorem adH:dr Tryz.prog 136=some 0:=by kernel_rfl
@[go_sem] theorem ac1:be Tryz.prog 136=some (.slice none 0 0):=by kernel_rfl
@[go_sem] theorem aeN:a8 Tryz.prog 158=some (true,2):=by kernel_rfl
@[go_sem] theorem adA:gn Tryz.prog 158=some [(0,1),(1,1)]:=by kernel_rfl
@[go_sem] theorem ac0:be Tryz.prog 158=some (.agg #[(.pointer none),(.slice none 0 0)]):=by kernel_rfl
@[go_sem] theorem ad6:cM Tryz.prog 158 0=some (0,1,false):=by kernel_rfl
@[go_sem] theorem ad5:cM Tryz.prog 158 1=some (1,1,false):=by kernel_rfl
@[go_sem] theorem aeM:a8 Tryz.prog 161=some (false,1):=by kernel_rfl
@[go_sem] theorem ade:lu Tryz.prog 134 3=0:=by kernel_rfl
@[go_sem] theorem adb:lu Tryz.prog 136 9=2:=by kernel_rfl
@[go_sem] theorem ada:lu Tryz.prog 3 134=0:=by kernel_rfl
@[go_sem] theorem ac':lu Tryz.prog 3 5=0:=by kernel_rfl
@[go_sem] theorem ac9:lu Tryz.prog 5 3=0:=by kernel_rfl
@[go_sem] theorem ac8:lu Tryz.prog 9 136=1:=by kernel_rfl
theorem ba:Tryz.prog.follows .mixedOrders=true:=by kernel_rfl
def dt(obj:Name->Option O):List Name->List O->Prop
 |[],[]=>True
 |x::xs,o::os=>obj x=some o/\dt obj xs os
 |_,_=>False
theorem l5{obj:Name->Option O}:∀ {Ls:List Name} {F:List O},dt obj Ls F↔Ls.map obj=F.map some
 |[],[]=>by simp[dt]
 |x::xs,o::os=>by simp only[dt,List.map_cons,List.cons.injEq,l5]
 |[],_::_=>by simp[dt]
 |_::_,[]=>by simp[dt]
theorem Tu{obj obj2:Name->Option O}{Ls:List Name}{F:List O}(h:dt obj Ls F)(ha:∀ x∈Ls,obj2 x=obj x):dt obj2 Ls F:=by
 rw[l5]at h |-
 rw[<-h]
 exact List.map_congr_left ha
theorem B'{obj:Name->Option O}:∀ {Ls:List Name} {F:List O},dt obj Ls F->∀ i (h:i<Ls.length) (h':i<F.length),obj Ls[i]=some F[i]
 |_::_,_::_,h,0,_,_=>h.1
 |_::_,_::_,h,i+1,h1,h2=>by
  simp only[List.getElem_cons_succ]
  exact B' h.2 i (by simpa using h1) (by simpa using h2)
def vl(K:Exit->S->Prop)(σ:S):Option Code->Prop
 |none=>K .normal σ
 |some .ret=>K .ret σ
 |some (.exit id)=>K (.exit id) σ
 |_=>False
theorem Uo{K:Exit->S->Prop}{obj:Name->Option O}{nm:Name}{σ:S}{env:List E}{ps:List Nat}{a b:Code}(pd:Option Code)(h:obj nm=some (.loop env ps a b (if pd.isNone then .ready else .done) pd))
 (hK:vl K σ pd):pA K obj nm σ:=by
 unfold pA
 rw[h]
 rcases pd with _ | c
 ·exact hK
 ·cases c<;>first | exact hK.elim | exact hK
def LR(m:Nat):List Name:=(List.range m).map fun i=>[i,1]
def LI(m:Nat):List Name:=(List.range m).map fun i=>[i+1,1]
theorem uT(m:Nat):(LR m).length=m:=by simp[LR]
theorem gj(m:Nat):(LI m).length=m:=by simp[LI]
theorem FC{Ls:List Name}(hn:Ls.Nodup):Ls.map (cin Ls)=LR Ls.length:=by
 refine List.ext_getElem (by simp[LR]) fun i h1 h2=>?_
 simp only[List.getElem_map,LR,List.getElem_range,cin]
 rw[CV hn (by simpa using h1)]
theorem FB{R:Name}{Ls:List Name}(hn:Ls.Nodup)(hR:R∉Ls):Ls.map (cin (R::Ls))=LI Ls.length:=by
 refine List.ext_getElem (by simp[LI]) fun i h1 h2=>?_
 simp only[List.getElem_map,LI,List.getElem_range,cin]
 have h3:i<Ls.length:=by simpa using h1
 have h4:=CV (L:=R::Ls) (List.nodup_cons.2 ⟨hR,hn⟩) (i:=i+1) (by simp;omega)
 simp only[List.getElem_cons_succ]at h4
 rw[h4]
theorem aau(Ls:List Name)(t:Name):(LR Ls.length).map (cout Ls t)=Ls:=by
 refine List.ext_getElem (by simp[LR]) fun i h1 h2=>?_
 simp only[List.getElem_map,LR,List.getElem_range,cout]
 exact kS h2
theorem Nn(R:Name)(Ls:List Name)(t:Name):(LI Ls.length).map (cout (R::Ls) t)=Ls:=by
 refine List.ext_getElem (by simp[LI]) fun i h1 h2=>?_
 simp only[List.getElem_map,LI,List.getElem_range,cout]
 rw[kS (by simpa using h2)]
 simp
def dW:List Name->List O->(Name->Option O)->(Name->Option O)
 |x::xs,o::os,obj=>dW xs os (upd obj x (some o))
 |_,_,obj=>obj
theorem va:∀ {Ls:List Name} {F:List O} {obj:Name->Option O} {x:Name},x∉Ls->dW Ls F obj x=obj x
 |[],_,_,_,_=>by simp[dW]
 |_::_,[],_,_,_=>by simp[dW]
 |y::ys,o::os,obj,x,h=>by
  simp only[List.mem_cons,not_or]at h
  simp only[dW]
  rw[va h.2,aN _ _ _ h.1]
theorem G8:∀ {Ls:List Name} {F:List O} {obj:Name->Option O},Ls.Nodup->Ls.length=F.length->dt (dW Ls F obj) Ls F
 |[],[],_,_,_=>trivial
 |[],_::_,_,_,h=>by simp at h
 |_::_,[],_,_,h=>by simp at h
 |y::ys,o::os,obj,hn,h=>by
  rw[List.nodup_cons]at hn
  refine⟨?_,G8 (obj:=upd obj y (some o)) hn.2 (by simpa using h)⟩
  simp only[dW]
  rw[va hn.1,aH]
def eM:Nat->List O->List (Nat×O)
 |_,[]=>[]
 |k,o::r=>(k,o)::eM (k+1) r
theorem BL{t:Name}{L:List Name}:∀ {Ls:List Name} {k:Nat} {F:List O} {obj:Name->Option O},Ls.length=F.length->(∀ i (h:i<Ls.length),L.getD (k+i) []=Ls[i])->
 b9 L t (eM k F) obj=dW Ls (F.map (O.ren (cout L t))) obj
 |[],k,[],obj,_,_=>rfl
 |[],k,_::_,obj,h,_=>by simp at h
 |_::_,k,[],obj,h,_=>by simp at h
 |x::xs,k,o::os,obj,h,hL=>by
  simp only[eM,b9,List.map_cons,dW]
  have h0:=hL 0 (by simp)
  simp only[Nat.add_zero,List.getElem_cons_zero]at h0
  rw[h0]
  exact BL (by simpa using h) fun i hi=>by
   have :=hL (i+1) (by simpa using hi)
   rw[show k+1+i=k+(i+1)by omega]
   simpa using this
theorem Cv:∀ {F:List O} {k i:Nat} {o:O},i<k->ew (eM k F) i o=o
 |[],k,i,o,_=>rfl
 |f::r,k,i,o,h=>by
  simp only[eM,ew]
  rw[if_neg (by omega)]
  exact Cv (by omega)
theorem B8{σ:S}:∀ {F os:List O} {k:Nat} {u:List (Nat×O)},F.length=os.length->(∀ i,k<=i->∀ o,ew u i o=ew (eM k F) i o)->
 (∀ i (h:i<F.length),σ.obj [k+i,1]=some F[i])->qW σ u k os
 |[],[],_,_,_,_,_=>trivial
 |[],_::_,_,_,h,_,_=>by simp at h
 |_::_,[],_,_,h,_,_=>by simp at h
 |f::fs,o::os,k,u,h,hu,hs=>by
  refine⟨?_,B8 (F:=fs) (by simpa using h) (fun i hi x=>?_) fun i hi=>?_⟩
  ·have h0:=hs 0 (by simp)
   simp only[Nat.add_zero,List.getElem_cons_zero]at h0
   rw[h0,hu k (Nat.le_refl _) o]
   simp only[eM,ew,if_true]
   rw[Cv (by omega)]
  ·rw[hu i (by omega) x]
   simp only[eM,ew]
   rw[if_neg (by omega)]
  ·have:=hs (i+1) (by simpa using hi)
   rw[show k+1+i=k+(i+1)by omega]
   simpa using this
structure Lp where
 m:Nat
 env:List Name->List E
 fam:List Name->Nat->List O
 ps:List Nat
 asg:Code
 body:Code
 n:Nat
 vals:Nat->List D
 st:Nat->Option Code
 fu:Nat
structure Lp.Ok (r:Lp):Prop where
 len:∀ Ls s,Ls.length=r.m->(r.fam Ls s).length=r.m
 renE:∀ f Ls,Ls.length=r.m->(r.env Ls).map (E.ren f)=r.env (Ls.map f)
 renF:∀ f Ls s,Ls.length=r.m->(r.fam Ls s).map (O.ren f)=r.fam (Ls.map f) s
 reach:∀ Ls s obj acc k,Ls.length=r.m->Ls.Nodup->(∀ x∈Ls,x∉acc)->dt obj Ls (r.fam Ls s)->dF obj (k+r.fu) (dH ((r.env Ls).map (·.d))) acc=acc++Ls
 closE:∀ dom Ls,Ls.length=r.m->(∀ x∈Ls,dom x=true)->D.closL dom ((r.env Ls).map (·.d))=true
 closF:∀ dom Ls s,Ls.length=r.m->(∀ x∈Ls,dom x=true)->∀ o∈r.fam Ls s,O.clos dom o=true
 psz:∀ Ls,Ls.length=r.m->(r.ps.all fun p=>decide (p<(r.env Ls).length))=true
 args:∀ s,(r.vals s).length=r.ps.length
 fuel:r.fu<=2000
 vnam:∀ s,dH (r.vals s)=[]
 vcl:∀ s dom,D.closL dom (r.vals s)=true
 vren:∀ s f,D.renL f (r.vals s)=r.vals s
 inj:∀ s s',s<r.n->s'<r.n->r.vals s=r.vals s'->s=s'
theorem aay(dom:Name->Bool)(vs:List V):∀ a:List D,D.closL dom (a++vs.map D.v)=D.closL dom a:=by
 have h0:∀ vs:List V,D.closL dom (vs.map D.v)=true:=by
  intro vs
  induction vs with
  |nil=>rfl
  |cons x r ih=>simp only[List.map_cons,D.closL,D.clos,ih,Bool.and_self]
 intro a
 induction a with
 |nil=>simpa[D.closL]using h0 vs
 |cons x r ih=>simp only[List.cons_append,D.closL,ih]
theorem TC(a b:List D):dH (a++b)=dH a++dH b:=by
 induction a with
 |nil=>rfl
 |cons x r ih=>simp only[List.cons_append,dH,ih,List.append_assoc]
theorem Nw(dom:Name->Bool)(a b:List D):D.closL dom (a++b)=(D.closL dom a&&D.closL dom b):=by
 induction a with
 |nil=>simp[D.closL]
 |cons x r ih=>simp only[List.cons_append,D.closL,ih,Bool.and_assoc]
noncomputable def Lp.y(r:Lp):YSpec where
 pre:=fun env ps asg body os ds=>∃ s,s<r.n/\(∀ j,j<s->r.st j=none)/\env=r.env (LR r.m)/\ps=r.ps/\asg=r.asg/\body=r.body/\os=r.fam (LR r.m) s/\ds=r.vals s
 out:=fun _ _ _ _ _ ds=>by
  classical exact if h:∃ s,s<r.n/\ds=r.vals s then(⟨eM 0 (r.fam (LR r.m) (h.choose+1)),[],.v (.bool true)⟩,r.st h.choose)else(⟨[],[],.any⟩,none)
theorem Lp.y_out{r:Lp}(hr:r.Ok){s:Nat}(hs:s<r.n)(env:List E)(ps:List Nat)(asg body:Code)(os:List O):
 r.y.out env ps asg body os (r.vals s)=(⟨eM 0 (r.fam (LR r.m) (s+1)),[],.v (.bool true)⟩,r.st s):=by
 have h:∃ s',s'<r.n/\r.vals s=r.vals s':=⟨s,hs,rfl⟩
 have e:h.choose=s:=(hr.inj _ _ hs h.choose_spec.1 h.choose_spec.2).symm
 simp only[Lp.y]
 rw[dif_pos h,e]
def SC(m:Nat)(F:List O)(p:Option Code):Exit->S->Prop
 | .normal,σ=>p=none/\dt σ.obj (LR m) F
 | .ret,σ=>p=some .ret/\dt σ.obj (LR m) F
 | .exit id,σ=>p=some (.exit id)/\dt σ.obj (LR m) F
 |_,_=>False
theorem ZT{os F:List O}{σ:S}{m:Nat}(h1:os.length=m)(h2:F.length=m)(hc:∀ dom:Name->Bool,(∀ x∈LR m,dom x=true)->∀ o∈F,O.clos dom o=true)(h:dt σ.obj (LR m) F):
 gI os ⟨eM 0 F,[],.v (.bool true)⟩ σ:=by
 have fh:∀ i (hi:i<F.length),σ.obj [i,1]=some F[i]:=by
  rw[l5]at h
  intro i hi
  have h3:=congrArg (fun l=>l[i]?) h
  have bx:i<m:=by omega
  simpa[LR,hi,bx]using h3
 refine⟨B8 (F:=F) (by omega) (fun i _ o=>rfl) fun i hi=>by rw[Nat.zero_add];exact fh i hi,trivial,?_⟩
 have pS:∀ x∈LR m,dd os.length [] x=true:=by
  intro x hx
  obtain⟨i,hi,rfl⟩:=List.mem_map.1 hx
  have :=List.mem_range.1 hi
  simp[dd]
  omega
 have ei:∀ (F':List O) (k:Nat),(∀ o∈F',O.clos (dd os.length []) o=true)->k+F'.length<=os.length->((eM k F').all fun x=>O.clos (dd os.length []) x.2&&decide (x.1<os.length))=true:=by
  intro F'
  induction F' with
  |nil=>intros;rfl
  |cons f fs ih=>
   intro k hf hk
   simp only[List.length_cons]at hk
   simp only[eM,List.all_cons,Bool.and_eq_true,decide_eq_true_eq]
   exact⟨⟨hf f (by simp),by omega⟩,by have:=ih (k+1) (fun o ho=>hf o (by simp[ho])) (by omega);simpa using this⟩
 have :=ei F 0 (hc _ pS) (by omega)
 simp only[D.clos,this,List.all_nil,List.map_nil,distinct,Bool.and_self]
theorem Lp.y_sound{P:Program}{r:Lp}(hr:r.Ok)(h:∀ s,s<r.n->(∀ j,j<s->r.st j=none)->
 CW P r.asg ⟨(r.env (LR r.m)).length,setP (so (r.env (LR r.m))) r.ps (r.vals s),bd (r.fam (LR r.m) s),[0],0⟩ (Ij fun σ1=>CW P r.body σ1 (SC r.m (r.fam (LR r.m) (s+1)) (r.st s)))):al P yid r.y.toSpec:=by
 refine Gj ?_
 rintro env ps asg body os ds ⟨s,hs,hj,rfl,rfl,rfl,rfl,rfl,rfl⟩ _
 rw[Lp.y_out hr hs]
 refine CW.mono (h s hs hj) fun e σ hk=>?_
 cases e with
 |normal=>
  refine CW.mono hk fun e σ hk=>?_
  have fin:dt σ.obj (LR r.m) (r.fam (LR r.m) (s+1))->gI (r.fam (LR r.m) s) ⟨eM 0 (r.fam (LR r.m) (s+1)),[],.v (.bool true)⟩ σ:=
   ZT (hr.len _ _ (uT _)) (hr.len _ _ (uT _)) fun dom hd=>hr.closF dom _ _ (uT _) hd
  cases e with
  |normal=>exact⟨hk.1,fin hk.2⟩
  |ret=>exact⟨hk.1,fin hk.2⟩
  |exit id=>exact⟨hk.1,fin hk.2⟩
  |goto l=>exact hk.elim
  |panic c=>exact hk.elim
  |outgrown=>exact hk.elim
 |ret=>exact hk.elim
 |exit id=>exact hk.elim
 |goto l=>exact hk.elim
 |panic c=>exact hk.elim
 |outgrown=>exact hk.elim
def Lp.rc(r:Lp)(Ls:List Name)(st:LoopState)(pd:Option Code):O:=.loop (r.env Ls) r.ps r.asg r.body st pd
theorem Lp.y_app{r:Lp}(hr:r.Ok){s:Nat}(hs:s<r.n)(hj:∀ j,j<s->r.st j=none){obj:Name->Option O}{t R:Name}{Ls:List Name}(hl:Ls.length=r.m)(hn:Ls.Nodup)(hR:R∉Ls)
 (h0:obj R=some (r.rc Ls .ready none)) (hF:dt obj Ls (r.fam Ls s)):
 r.y.toSpec.app obj t (.yld R::r.vals s)=⟨True,.v (.bool (r.st s).isNone),upd (dW Ls (r.fam Ls (s+1)) obj) R (some (r.rc Ls (if (r.st s).isNone then .ready else .done) (r.st s)))⟩:=by
 have ma:reach obj (roots (r.env Ls) (r.vals s))=Ls:=by
  unfold reach roots
  rw[TC,hr.vnam,List.append_nil]
  have :=hr.reach Ls s obj [] (3000-r.fu) hl hn (fun _ _=>by simp) hF
  rwa [show 3000-r.fu+r.fu=3000 by have:=hr.fuel;omega]at this
 have e1:cm obj (roots (r.env Ls) (r.vals s))=r.fam (LR r.m) s:=by
  unfold cm
  rw[ma]
  have :Ls.map (cl Ls obj)=(r.fam Ls s).map (O.ren (cin Ls)):=by
   rw[l5]at hF
   refine List.ext_getElem (by simp[hr.len _ _ hl,hl]) fun i h1 h2=>?_
   have h3:i<Ls.length:=by simpa using h1
   have h4:i<(r.fam Ls s).length:=by rw[hr.len _ _ hl,<-hl];exact h3
   have h5:=congrArg (fun l=>l[i]?) hF
   have h6:obj Ls[i]=some (r.fam Ls s)[i]:=by simpa[h3,h4]using h5
   simp only[List.getElem_map,cl,h6]
  rw[this,hr.renF _ _ _ hl,FC hn,hl]
 have e2:ir obj (r.env Ls) (r.vals s)=r.env (LR r.m):=by
  unfold ir
  rw[ma,hr.renE _ _ hl,FC hn,hl]
 have e3:ji obj (r.env Ls) (r.vals s)=r.vals s:=by
  unfold ji
  exact hr.vren s _
 have e4:r.y.o obj (r.env Ls) r.ps r.asg r.body (r.vals s)=(⟨eM 0 (r.fam (LR r.m) (s+1)),[],.v (.bool true)⟩,r.st s):=by
  unfold YSpec.o
  rw[e1,e2,e3,Lp.y_out hr hs]
 have cG:r.y.pre (r.env (LR r.m)) r.ps r.asg r.body (r.fam (LR r.m) s) (r.vals s):=⟨s,hs,hj,rfl,rfl,rfl,rfl,rfl,rfl⟩
 have bR:D.closL (cE Ls) (roots (r.env Ls) (r.vals s))=true:=by
  unfold roots
  rw[Nw,hr.vcl,Bool.and_true]
  exact hr.closE _ _ hl fun x hx=>gT.2 hx
 have fY:shut obj Ls=true:=by
  unfold shut
  rw[List.all_eq_true]
  intro x hx
  obtain⟨i,hi,rfl⟩:=List.getElem_of_mem hx
  rw[l5]at hF
  have h4:i<(r.fam Ls s).length:=by rw[hr.len _ _ hl,<-hl];exact hi
  have h5:=congrArg (fun l=>l[i]?) hF
  have h6:obj Ls[i]=some (r.fam Ls s)[i]:=by simpa[hi,h4]using h5
  rw[h6]
  exact hr.closF _ _ _ hl (fun x hx=>gT.2 hx) _ (List.getElem_mem h4)
 have XP:cE Ls R=false:=by
  cases h:cE Ls R with
  |false=>rfl
  |true=>exact(hR (gT.1 h)).elim
 have hp:b9 Ls t (eM 0 (r.fam (LR r.m) (s+1))) obj=dW Ls (r.fam Ls (s+1)) obj:=by
  rw[BL (Ls:=Ls) (by rw[hr.len _ _ (uT _),hl]) fun i hi=>by rw[Nat.zero_add];exact kS hi,hr.renF _ _ _ (uT _)]
  have :(LR r.m).map (cout Ls t)=Ls:=by rw[<-hl];exact aau Ls t
  rw[this]
 unfold Lp.rc at h0
 simp only[YSpec.toSpec,h0,e1,e2,e3,e4,ma,bR,fY,XP,fresh,List.all_nil,Bool.and_self,Bool.not_false,hr.args,decide_true,hr.psz Ls hl,cG,cX,hp,and_self]
 rfl
def Lp.e(r:Lp):Nat:=match (List.range r.n).find? (fun s=>(r.st s).isSome)with | some s=>s+1 | none=>r.n
def Lp.pd(r:Lp):Option Code:=match (List.range r.n).find? (fun s=>(r.st s).isSome)with | some s=>r.st s | none=>none
def Lp.fin(r:Lp)(Ls:List Name):O:=r.rc Ls (if r.pd.isNone then .ready else .done) r.pd
def Lp.it(r:Lp)(dn:List V):CSpec where
 pre:=fun os ds=>os=r.rc (LI r.m) .ready none::r.fam (LI r.m) 0/\ds=.yld [0,1]::dn.map .v
 out:=fun _ _=>⟨(0,r.fin (LI r.m))::eM 1 (r.fam (LI r.m) r.e),[],.tup []⟩
theorem Lp.it_end{P:Program}{r:Lp}(hr:r.Ok){σ:S}(h0:σ.obj [0,1]=some (r.fin (LI r.m)))(h1:dt σ.obj (LI r.m) (r.fam (LI r.m) r.e)):
 (bX P σ []).ok/\(bX P σ []).d=.tup []/\gI (r.rc (LI r.m) .ready none::r.fam (LI r.m) 0) ⟨(0,r.fin (LI r.m))::eM 1 (r.fam (LI r.m) r.e),[],.tup []⟩ σ:=by
 have zq:=hr.len (LI r.m) 0 (gj _)
 have hle:=hr.len (LI r.m) r.e (gj _)
 have fh:∀ i (hi:i<(r.fam (LI r.m) r.e).length),σ.obj [1+i,1]=some (r.fam (LI r.m) r.e)[i]:=by
  intro i hi
  have h3:=B' h1 i (by rw[gj];omega) hi
  rw[Nat.add_comm]
  simpa only[LI,List.getElem_map,List.getElem_range]using h3
 have pS:∀ x∈LI r.m,dd (r.m+1) [] x=true:=by
  intro x hx
  obtain⟨i,hi,rfl⟩:=List.mem_map.1 hx
  have :=List.mem_range.1 hi
  simp[dd]
  omega
 refine⟨fun x hx=>by simp at hx,rfl,⟨⟨?_,B8 (F:=r.fam (LI r.m) r.e) (by omega) (fun i hi o=>by simp only[ew];rw[if_neg (by omega)]) fh⟩,trivial,?_⟩⟩
 ·simp only[ew,if_true]
  rw[h0,Cv (by omega)]
 have ei:∀ (F':List O) (k:Nat),(∀ o∈F',O.clos (dd (r.m+1) []) o=true)->k+F'.length<=r.m+1->((eM k F').all fun x=>O.clos (dd (r.m+1) []) x.2&&decide (x.1<r.m+1))=true:=by
  intro F'
  induction F' with
  |nil=>intros;rfl
  |cons f fs ih=>
   intro k hf hk
   simp only[List.length_cons]at hk
   simp only[eM,List.all_cons,Bool.and_eq_true,decide_eq_true_eq]
   exact⟨⟨hf f (by simp),by omega⟩,by have:=ih (k+1) (fun o ho=>hf o (by simp[ho])) (by omega);simpa using this⟩
 have h5:=ei (r.fam (LI r.m) r.e) 1 (hr.closF _ _ _ (gj _) pS) (by omega)
 have h6:O.clos (dd (r.m+1) []) (r.fin (LI r.m))=true:=hr.closE _ _ (gj _) pS
 have hlen:(r.rc (LI r.m) .ready none::r.fam (LI r.m) 0).length=r.m+1:=by rw[List.length_cons,zq]
 have h7:D.clos (dd (r.m+1) []) (.tup [])=true:=rfl
 simp only[hlen,h7,List.all_cons,h6,h5,List.all_nil,List.map_nil,distinct,Bool.and_self,Bool.true_and,Bool.and_true]
 simp
theorem ZG:∀ (n:Nat) (obj:Name->Option O) (x:V),ax n obj (.v x)=⟨True,x,obj⟩
 | 0,_,_=>rfl
 |_+1,_,_=>rfl
theorem L8(n:Nat)(obj:Name->Option O):∀ l:List V,(aM (ax n) obj (l.map .v)).ok/\(aM (ax n) obj (l.map .v)).xs=l/\(aM (ax n) obj (l.map .v)).obj=obj
 |[]=>⟨trivial,rfl,rfl⟩
 |x::r=>by
  obtain⟨h1,h2,h3⟩:=L8 n obj r
  simp only[List.map_cons,aM,ZG]
  exact⟨⟨trivial,h1⟩,by rw[h2],h3⟩
@[go_sem] theorem qh(dom:Name->Bool)(l:List V):D.closL dom (l.map .v)=true:=by
  have :=aay dom l []
  simpa[D.closL]using this
theorem F1:∀ l:List V,lF (l.map .v)=some l
 |[]=>rfl
 |x::r=>by
  simp only[List.map_cons,lF,qn,F1 r]
attribute [go_sem] F1
theorem PQ{σ:S}(nm:Name)(l:List V)(ho:σ.obj nm=some (.box (l.map .v))):dN σ { σ with obj:=upd σ.obj nm (some (.fbox l)) }:=by
 intro G φ m a w hC
 obtain⟨h1,h2,h3⟩:=L8 0 σ.obj l
 have e:ax 1 σ.obj (.ref nm 0)=⟨(aM (ax 0) σ.obj (l.map .v)).ok/\(aM (ax 0) σ.obj (l.map .v)).obj nm=some (.box (l.map .v)),.ptr ((aM (ax 0) σ.obj (l.map .v)).xs.drop 0),
     upd (aM (ax 0) σ.obj (l.map .v)).obj nm (some (.fbox (aM (ax 0) σ.obj (l.map .v)).xs))⟩:=by
  simp only[ax,ho]
 obtain⟨m',k1,k2,_⟩:=nD 1 G φ m σ a w hC (.ref nm 0) _ (.ref nm 0 ⟨_,ho,rfl⟩) (by rw[e];exact⟨h1,by rw[h3];exact ho⟩)
 rw[e]at k2
 simp only[h2,h3]at k2
 exact⟨φ,m',k2⟩
theorem bz{σ τ:S}(nm:Name)(l:List V)(ho:σ.obj nm=some (.box (l.map .v)))(ks:List Nat)(ns:List Name)
 (h:fE ks ns ⟨σ.nt,σ.env,upd σ.obj nm (some (.fbox l)),σ.pre,σ.base⟩) (hk:fN ks ns ⟨σ.nt,σ.env,upd σ.obj nm (some (.fbox l)),σ.pre,σ.base⟩=τ):dN σ τ:=
 (PQ nm l ho).trans (gL ks ns h hk)
structure bj (α:Type) where
 (a b c d e f:α)
 deriving Inhabited,DecidableEq
def bj.get{α:Type}(s:bj α):Nat->α
 | 0=>s.a
 | 1=>s.b
 | 2=>s.c
 | 3=>s.d
 | 4=>s.e
 |_=>s.f
def fG{α:Type}(g:Nat->α):bj α:=⟨g 0,g 1,g 2,g 3,g 4,g 5⟩
def bj.set{α:Type}(s:bj α)(i:Nat)(x:α):bj α:=fG fun j=>if j=i then x else s.get j
def bj.L{α β:Type}(s:bj α)(e:α->β):List β:=[e s.a,e s.b,e s.c,e s.d,e s.e,e s.f]
theorem bj.L_len{α β:Type}(s:bj α)(e:α->β):(s.L e).length=6:=rfl
theorem bj.L_get{α β:Type}(s:bj α)(e:α->β)(z:β):∀ {i:Nat},i<6->(s.L e).getD i z=e (s.get i)
 | 0,_=>rfl
 | 1,_=>rfl
 | 2,_=>rfl
 | 3,_=>rfl
 | 4,_=>rfl
 | 5,_=>rfl
 |i+6,h=>absurd h (by omega)
theorem bj.get_set{α:Type}(s:bj α){i j:Nat}(x:α)(hi:i<6):(s.set i x).get i=x/\(j<6->j≠i->(s.set i x).get j=s.get j):=by
 constructor
 ·match i,hi with
  | 0,_=>rfl
  | 1,_=>rfl
  | 2,_=>rfl
  | 3,_=>rfl
  | 4,_=>rfl
  | 5,_=>rfl
 ·intro hj ar
  match j,hj with
  | 0,_=>show (if 0=i then _ else _)=_;rw[if_neg ar]
  | 1,_=>show (if 1=i then _ else _)=_;rw[if_neg ar]
  | 2,_=>show (if 2=i then _ else _)=_;rw[if_neg ar]
  | 3,_=>show (if 3=i then _ else _)=_;rw[if_neg ar]
  | 4,_=>show (if 4=i then _ else _)=_;rw[if_neg ar]
  | 5,_=>show (if 5=i then _ else _)=_;rw[if_neg ar]
theorem G2{α:Type}{s t:bj α}(h:∀ i,i<6->s.get i=t.get i):s=t:=by
 obtain⟨a,b,c,d,e,f⟩:=s
 obtain⟨a',b',c',d',e',f'⟩:=t
 have h0:a=a':=h 0 (by omega)
 have h1:b=b':=h 1 (by omega)
 have h2:c=c':=h 2 (by omega)
 have h3:d=d':=h 3 (by omega)
 have h4:e=e':=h 4 (by omega)
 have h5:f=f':=h 5 (by omega)
 subst h0 h1 h2 h3 h4 h5
 rfl
structure Par where
 (no pa:Int)
 deriving Inhabited,DecidableEq
structure Stk where
 ho:List Int
 un:bj (List Par)
 (se ta:bj Int)
 deriving Inhabited,DecidableEq
structure Pg where
 co:Int
 st:Stk
 su:Int
 deriving Inhabited,DecidableEq
structure Dk where
 me:Int
 now:Stk
 (pa pb:Pg)
 wet:Int
 deriving Inhabited,DecidableEq
structure Bag where
 (fr to:Int)
 ps:List Par
 ta:Int
 deriving Inhabited,DecidableEq
def Dk.pg(d:Dk):Nat->Pg
 | 0=>d.pa
 |_=>d.pb
def c7:V->Int
 | .int _ n=>n
 |_=>0
def M8:V->Bool
 | .bool b=>b
 |_=>false
def wS:V->List Int
 | .sl l=>l.map c7
 |_=>[]
def encPa(p:Par):V:=.agg [vInt p.no,vInt p.pa]
def jL:V->Par
 | .agg [.int _ a,.int _ b]=>⟨a,b⟩
 |_=>default
abbrev fV (l:List Int):V:=.sl (l.map vInt)
abbrev rowP (l:List Par):V:=.sl (l.map encPa)
def nH:V->List Par
 | .sl l=>l.map jL
 |_=>[]
def aB(s:Stk):List V:=fV s.ho::(s.un.L rowP++(s.se.L vInt++s.ta.L vInt))
def eW(l:List V):Stk:=⟨wS (l.getD 0 default),fG fun i=>nH (l.getD (1+i) default),fG fun i=>c7 (l.getD (7+i) default),fG fun i=>c7 (l.getD (13+i) default)⟩
def cB(p:Pg):List V:=vInt p.co::(aB p.st++[vInt p.su])
def uI(l:List V):Pg:=⟨c7 (l.getD 0 default),eW ((l.drop 1).take 19),c7 (l.getD 20 default)⟩
def ak(d:Dk):List V:=vInt d.me::(aB d.now++(cB d.pa++(cB d.pb++[vInt d.wet])))
def oR(l:List V):Dk:=⟨c7 (l.getD 0 default),eW ((l.drop 1).take 19),uI ((l.drop 20).take 21),uI ((l.drop 41).take 21),c7 (l.getD 62 default)⟩
def aP(b:Bag):List V:=[vInt b.fr,vInt b.to,rowP b.ps,vInt b.ta]
def V.L:V->List V
 | .agg l=>l
 |_=>[]
def kg(s:Stk):V:=.agg (aB s)
def Fg(v:V):Stk:=eW v.L
def sp(p:Pg):V:=.agg (cB p)
def Fh(v:V):Pg:=uI v.L
def eK(d:Dk):V:=.agg (ak d)
def Af(v:V):Dk:=oR v.L
def fD(b:Bag):V:=.agg (aP b)
def qa:V->Bag
 | .agg [.int _ a,.int _ b,.sl l,.int _ c]=>⟨a,b,l.map jL,c⟩
 |_=>default
theorem vx{α:Type}{e:α->V}{d:V->α}(h:∀ a,d (e a)=a)(l:List α):(l.map e).map d=l:=by
 rw[List.map_map]
 have :d∘e=id:=funext h
 rw[this,List.map_id]
@[go_sem] theorem M6(l:List Int):(l.map vInt).map c7=l:=vx (fun _=>rfl) l
theorem aag(p:Par):jL (encPa p)=p:=rfl
@[go_sem] theorem Fi(l:List Par):(l.map encPa).map jL=l:=vx aag l
theorem aah(l:List Int):wS (fV l)=l:=M6 l
theorem aaf(l:List Par):nH (rowP l)=l:=Fi l
theorem oQ(s:Stk):eW (aB s)=s:=by
 obtain⟨h,u,a,b⟩:=s
 obtain⟨u0,u1,u2,u3,u4,u5⟩:=u
 show (⟨wS (fV h),⟨nH (rowP u0),nH (rowP u1),nH (rowP u2),nH (rowP u3),nH (rowP u4),nH (rowP u5)⟩,a,b⟩:Stk)=_
 simp only[aah,aaf]
theorem Ae(p:Pg):uI (cB p)=p:=by
 show (⟨p.co,eW (aB p.st),p.su⟩:Pg)=p
 rw[oQ]
theorem Fj(d:Dk):oR (ak d)=d:=by
 show (⟨d.me,eW (aB d.now),uI (cB d.pa),uI (cB d.pb),d.wet⟩:Dk)=d
 rw[oQ,Ae,Ae]
@[go_sem] theorem agf(s:Stk):Fg (.agg (aB s))=s:=oQ s
@[go_sem] theorem agi(p:Pg):Fh (.agg (cB p))=p:=Ae p
@[go_sem] theorem agk(d:Dk):Af (.agg (ak d))=d:=Fj d
@[go_sem] theorem age(s:Stk):Fg (kg s)=s:=oQ s
@[go_sem] theorem agh(p:Pg):Fh (sp p)=p:=Ae p
@[go_sem] theorem aai(d:Dk):Af (eK d)=d:=Fj d
theorem uK(b:Bag):qa (fD b)=b:=by
 obtain⟨x,y,l,z⟩:=b
 show (⟨x,y,(l.map encPa).map jL,z⟩:Bag)=_
 rw[Fi]
@[go_sem] theorem agm(b:Bag):qa (.agg (aP b))=b:=uK b
@[go_sem] theorem agl(a b c:Int)(l:List Par):qa (.agg [vInt a,vInt b,rowP l,vInt c])=⟨a,b,l,c⟩:=uK ⟨a,b,l,c⟩
@[go_sem] theorem agj(l:List Dk):(l.map eK).map Af=l:=vx aai l
@[go_sem] theorem afQ(p:Par):(⟨p.no,p.pa⟩:Par)=p:=rfl
@[go_sem] theorem jV(s:Stk):(aB s).length=19:=rfl
@[go_sem] theorem afl(p:Pg):(cB p).length=21:=rfl
@[go_sem] theorem mw(d:Dk):(ak d).length=63:=rfl
@[go_sem] theorem agS(b:Bag):(aP b).length=4:=rfl
@[go_sem] theorem ae7(s:Stk):(aB s).take 19=aB s:=rfl
@[go_sem] theorem afm(p:Pg):(cB p).take 21=cB p:=rfl
@[go_sem] theorem af6(d:Dk):(ak d).take 63=ak d:=rfl
@[go_sem] theorem agT(b:Bag):(aP b).take 4=aP b:=rfl
@[go_sem] theorem ae8(s:Stk):(aB s).getD 0 default=fV s.ho:=rfl
@[go_sem] theorem ae4(s:Stk):((aB s).drop 1).take 6=s.un.L rowP:=rfl
@[go_sem] theorem ae6(s:Stk):((aB s).drop 7).take 6=(s.se.L id).map vInt:=rfl
@[go_sem] theorem ae5(s:Stk):((aB s).drop 13).take 6=(s.ta.L id).map vInt:=rfl
theorem cN(s:Stk){i:Nat}(h:i<6):(aB s).getD (1+i) default=rowP (s.un.get i):=by
 match i,h with
 | 0,_=>rfl
 | 1,_=>rfl
 | 2,_=>rfl
 | 3,_=>rfl
 | 4,_=>rfl
 | 5,_=>rfl
theorem dP(s:Stk){i:Nat}(h:i<6):(aB s).getD (7+i) default=vInt (s.se.get i):=by
 match i,h with
 | 0,_=>rfl
 | 1,_=>rfl
 | 2,_=>rfl
 | 3,_=>rfl
 | 4,_=>rfl
 | 5,_=>rfl
theorem dC(s:Stk){i:Nat}(h:i<6):(aB s).getD (13+i) default=vInt (s.ta.get i):=by
 match i,h with
 | 0,_=>rfl
 | 1,_=>rfl
 | 2,_=>rfl
 | 3,_=>rfl
 | 4,_=>rfl
 | 5,_=>rfl
@[go_sem] theorem afo(p:Pg):(cB p).getD 0 default=vInt p.co:=rfl
@[go_sem] theorem afn(p:Pg):(cB p).getD 20 default=vInt p.su:=rfl
@[go_sem] theorem afk(p:Pg):((cB p).drop 1).take 19=aB p.st:=rfl
@[go_sem] theorem af'(d:Dk):(ak d).getD 0 default=vInt d.me:=rfl
@[go_sem] theorem af7(d:Dk):(ak d).getD 62 default=vInt d.wet:=rfl
@[go_sem] theorem Ab(d:Dk):((ak d).drop 1).take 19=aB d.now:=rfl
@[go_sem] theorem af4(d:Dk):((ak d).drop 20).take 21=cB d.pa:=rfl
@[go_sem] theorem af3(d:Dk):((ak d).drop 41).take 21=cB d.pb:=rfl
@[go_sem] theorem agX(b:Bag):(aP b).getD 0 default=vInt b.fr:=rfl
@[go_sem] theorem agW(b:Bag):(aP b).getD 1 default=vInt b.to:=rfl
@[go_sem] theorem agV(b:Bag):(aP b).getD 2 default=rowP b.ps:=rfl
@[go_sem] theorem agU(b:Bag):(aP b).getD 3 default=vInt b.ta:=rfl
def M4:V->ByteArray
 | .str s=>s
 |_=>.empty
def iI:En Int:=⟨vInt,c7⟩
def iB:En Bool:=⟨.bool,M8⟩
def pD:En ByteArray:=⟨.str,M4⟩
def dY:En (List Int):=⟨fun l=>.sl (l.map vInt),wS⟩
def rp:En Par:=⟨encPa,jL⟩
def jv:En (List Par):=⟨fun l=>.sl (l.map encPa),nH⟩
def fb:En Stk:=⟨kg,Fg⟩
def l7:En Pg:=⟨sp,Fh⟩
def bu:En Dk:=⟨eK,Af⟩
def jw:En Bag:=⟨fD,qa⟩
attribute [go_sem] iI iB pD dY rp jv fb l7 bu jw c7 M8 wS nH M4 encPa jL kg sp eK fD
def aY(n lo hi:Int):Bool:=decide (lo<=n)&&decide (n<=hi)
end Go.Eng
set_option linter.unusedVariables false
namespace Go.Proofs
open Go Go.Shelf Go.RowKit
def Tryz.lays171_ren:Shelf.Ren:=⟨fun | 171=>123 | 243=>133 | 246=>140 | 283=>149 | 284=>150 | 285=>151 | 286=>152 | 129=>161 | 317=>160 | 318=>162 | 319=>163 | 320=>164 | 337=>172 | 338=>173 | n=>n,fun | 3=>3 | 9=>9 | 2=>2 | 4=>4 | 171=>187 | 0=>0 | 53=>188 | 37=>136 | 5=>5 | 173=>191 | 212=>205 | 51=>206 | 20=>20 | 213=>207 | 46=>134 | 232=>221 | 233=>222 | n=>n,fun | 17=>2 | 18=>6 | 19=>7 | n=>n⟩
theorem Tryz.lays171:LaysM.n171 Tryz.prog Tryz.lays171_ren:={
 mixed:=by kernel_rfl,
 f129:=Tryz.func161.trans (congrArg some (by kernel_rfl)),
 f171:=Tryz.func123.trans (congrArg some (by kernel_rfl)),
 f243:=Tryz.func133.trans (congrArg some (by kernel_rfl)),
 f246:=Tryz.func140.trans (congrArg some (by kernel_rfl)),
 f283:=Tryz.func149.trans (congrArg some (by kernel_rfl)),
 f284:=Tryz.func150.trans (congrArg some (by kernel_rfl)),
 f285:=Tryz.func151.trans (congrArg some (by kernel_rfl)),
 f286:=Tryz.func152.trans (congrArg some (by kernel_rfl)),
 f317:=Tryz.func160.trans (congrArg some (by kernel_rfl)),
 f318:=Tryz.func162.trans (congrArg some (by kernel_rfl)),
 f319:=Tryz.func163.trans (congrArg some (by kernel_rfl)),
 f320:=Tryz.func164.trans (congrArg some (by kernel_rfl)),
 f337:=Tryz.func172.trans (congrArg some (by kernel_rfl)),
 f338:=Tryz.func173.trans (congrArg some (by kernel_rfl)),
 t0:=Tryz.underlying0,
 a0:=Tryz.isAgg0,
 z0:=Tryz.sizeOf0,
 v0:=Tryz.zeroValue0,
 t2:=Tryz.underlying2,
 a2:=Tryz.isAgg2,
 z2:=Tryz.sizeOf2,
 v2:=Tryz.zeroValue2,
 t3:=Tryz.underlying3,
 a3:=Tryz.isAgg3,
 z3:=Tryz.sizeOf3,
 v3:=Tryz.zeroValue3,
 t4:=Tryz.underlying4,
 a4:=Tryz.isAgg4,
 z4:=Tryz.sizeOf4,
 v4:=Tryz.zeroValue4,
 t5:=Tryz.underlying5,
 a5:=Tryz.isAgg5,
 z5:=Tryz.sizeOf5,
 v5:=Tryz.zeroValue5,
 t9:=Tryz.underlying9,
 a9:=Tryz.isAgg9,
 z9:=Tryz.sizeOf9,
 v9:=Tryz.zeroValue9,
 t20:=Tryz.underlying20,
 a20:=Tryz.isAgg20,
 z20:=Tryz.sizeOf20,
 v20:=Tryz.zeroValue20,
 t37:=Tryz.underlying136,
 a37:=Tryz.isAgg136,
 z37:=Tryz.sizeOf136,
 v37:=Tryz.zeroValue136,
 t46:=Tryz.underlying134,
 a46:=Tryz.isAgg134,
 z46:=Tryz.sizeOf134,
 v46:=Tryz.zeroValue134,
 t51:=Tryz.underlying206,
 a51:=Tryz.isAgg206,
 z51:=Tryz.sizeOf206,
 v51:=Tryz.zeroValue206,
 t53:=Tryz.underlying188,
 a53:=Tryz.isAgg188,
 z53:=Tryz.sizeOf188,
 v53:=Tryz.zeroValue188,
 t171:=Tryz.underlying187,
 a171:=Tryz.isAgg187,
 z171:=Tryz.sizeOf187,
 v171:=Tryz.zeroValue187,
 t173:=Tryz.underlying191,
 a173:=Tryz.isAgg191,
 z173:=Tryz.sizeOf191,
 v173:=Tryz.zeroValue191,
 t212:=Tryz.underlying205,
 a212:=Tryz.isAgg205,
 z212:=Tryz.sizeOf205,
 v212:=Tryz.zeroValue205,
 t213:=Tryz.underlying207,
 a213:=Tryz.isAgg207,
 z213:=Tryz.sizeOf207,
 t232:=Tryz.underlying221,
 a232:=Tryz.isAgg221,
 z232:=Tryz.sizeOf221,
 v232:=Tryz.zeroValue221,
 t233:=Tryz.underlying222,
 a233:=Tryz.isAgg222,
 z233:=Tryz.sizeOf222,
 v233:=Tryz.zeroValue222,
 g17:=by kernel_rfl,
 g18:=by kernel_rfl,
 g19:=by kernel_rfl,
 i0:=by kernel_rfl,
 i2:=by kernel_rfl,
 i3:=by kernel_rfl,
 i4:=by kernel_rfl,
 i5:=by kernel_rfl,
 i9:=by kernel_rfl,
 i20:=by kernel_rfl,
 i37:=by kernel_rfl,
 i46:=by kernel_rfl,
 i51:=by kernel_rfl,
 i53:=by kernel_rfl,
 i171:=by kernel_rfl,
 i173:=by kernel_rfl,
 i212:=by kernel_rfl,
 i232:=by kernel_rfl,
 i233:=by kernel_rfl,
 m17:=by kernel_rfl,
 m18:=by kernel_rfl,
 m19:=by kernel_rfl }
def Tryz.lays169_ren:Shelf.Ren:=⟨fun | 169=>124 | n=>n,fun | 70=>156 | 9=>9 | 0=>0 | 72=>158 | 37=>136 | 127=>169 | 3=>3 | 5=>5 | n=>n,fun | n=>n⟩
theorem Tryz.lays169:Lays.n169 Tryz.prog Tryz.lays169_ren:={
 mixed:=by kernel_rfl,
 f169:=Tryz.func124.trans (congrArg some (by kernel_rfl)),
 t0:=Tryz.underlying0,
 a0:=Tryz.isAgg0,
 z0:=Tryz.sizeOf0,
 v0:=Tryz.zeroValue0,
 t3:=Tryz.underlying3,
 a3:=Tryz.isAgg3,
 z3:=Tryz.sizeOf3,
 v3:=Tryz.zeroValue3,
 t9:=Tryz.underlying9,
 a9:=Tryz.isAgg9,
 z9:=Tryz.sizeOf9,
 v9:=Tryz.zeroValue9,
 t37:=Tryz.underlying136,
 a37:=Tryz.isAgg136,
 z37:=Tryz.sizeOf136,
 v37:=Tryz.zeroValue136,
 t70:=Tryz.underlying156,
 a70:=Tryz.isAgg156,
 z70:=Tryz.sizeOf156,
 v70:=Tryz.zeroValue156,
 t72:=Tryz.underlying158,
 a72:=Tryz.isAgg158,
 z72:=Tryz.sizeOf158,
 v72:=Tryz.zeroValue158,
 t127:=Tryz.underlying169,
 a127:=Tryz.isAgg169,
 z127:=Tryz.sizeOf169,
 v127:=Tryz.zeroValue169 }
theorem Tryz.bldX:Builder.Extra Tryz.prog Tryz.lays169_ren:={
 sizeBuilder:=by kernel_rfl,
 liesBuilder:=by kernel_rfl,
 t5:=Tryz.underlying5,
 a5:=Tryz.isAgg5,
 z5:=Tryz.sizeOf5,
 v5:=Tryz.zeroValue5,
 infoByte:=by kernel_rfl,
 cellsByte:=by kernel_rfl,
 sizeByte:=by kernel_rfl,
 neB5:=by decide }
end Go.Proofs
namespace Go.Eng
open Go Go.Proofs Go.Shelf Go.RowKit
set_option maxHeartbeats 1000000 in
set_option maxRecDepth 100000 in
theorem aa7(b:Nat)(w:World)(h0:w.cell? ⟨b,0,none⟩=some (.pointer (some ⟨b,0,none⟩))):
 Calls Tryz.prog 132 #[.pointer (some ⟨b,0,none⟩)] w fun e w'=>e=.returned (.tuple #[])/\w'=w:=by
 obtain⟨j,hj,_⟩:=Option.map_eq_some_iff.1 Tryz.bldX.sizeBuilder
 have mixed:Tryz.prog.follows Departure.mixedOrders=true:=by kernel_rfl
 go_enter Tryz.func132,Tryz.ntmps132
 go_wp2
 rw[Lib.run_neq_ptr_same w _ Tryz.underlying156 hj]
 go_wp2
 go_end0
 exact⟨rfl,rfl⟩
set_option maxHeartbeats 1000000 in
set_option maxRecDepth 100000 in
theorem aa9(b:Nat)(w:World)(h0:w.cell? ⟨b,0,none⟩=some (.pointer none))(fY:w.shape? b=some (158,2))(pQ:w.frozen? ⟨b,0,none⟩=false):
 Calls Tryz.prog 132 #[.pointer (some ⟨b,0,none⟩)] w fun e w'=>e=.returned (.tuple #[])/\w'=w.setCell ⟨b,0,none⟩ (.pointer (some ⟨b,0,none⟩)):=by
 obtain⟨j,hj,ff⟩:=Option.map_eq_some_iff.1 Tryz.bldX.sizeBuilder
 have mixed:Tryz.prog.follows Departure.mixedOrders=true:=by kernel_rfl
 go_enter Tryz.func132,Tryz.ntmps132
 go_wp2
 rw[Lib.run_to_unsafe w ⟨b,0,none⟩ Tryz.underlying156 Tryz.underlying176 hj (by rw[ff];decide) fY (Nat.zero_lt_succ 1)]
 simp only[Result.andThen]
 rw[Oper.upon_value]
 go_wp2
 rw[run_callFunc_extern Tryz.func139 (by kernel_rfl) (by kernel_rfl) (by kernel_rfl) (e:=Extern.AbiNoEscape.same) (by kernel_rfl)]
 rw[Lib.run_noEscape]
 simp only[Result.andThen]
 rw[Oper.upon_value]
 go_wp2
 rw[Lib.run_from_unsafe w ⟨b,0,none⟩ Tryz.underlying176 Tryz.underlying156 hj fY Tryz.bldX.liesBuilder]
 simp only[Result.andThen]
 rw[Oper.upon_value]
 go_wp2
 go_end0
 exact⟨rfl,rfl⟩
theorem aa'(b:Nat)(bs:List Value)(w:World)(h:Lib.IsBuilderF 158 5 b b bs w):
 Calls Tryz.prog 132 #[.pointer (some ⟨b,0,none⟩)] w fun e w'=>e=.returned (.tuple #[])/\(Lib.BuilderAtF 158 5 b b (.pointer (some ⟨b,0,none⟩)) bs w'/\Below b w w'):=by
 rcases h with h | h
 ·refine(aa9 b w h.cell0 h.shape h.frozen0).mono ?_
  rintro e w' ⟨rfl,rfl⟩
  exact⟨rfl,h.used _,(Below.refl b w).setCell (p:=⟨b,0,none⟩) h.1 _⟩
 ·refine(aa7 b w h.cell0).mono ?_
  rintro e w' ⟨rfl,rfl⟩
  exact⟨rfl,h,Below.refl b _⟩
set_option maxHeartbeats 2000000 in
set_option maxRecDepth 100000 in
theorem NT(b:Nat)(bs:List Value)(s:ByteArray)(w:World)(h:Lib.IsBuilderF 158 5 b b bs w)(hlen:bs.length+s.size<=140737488355328)(LB:b<=w.heap.size):
 Calls Tryz.prog 122 #[.pointer (some ⟨b,0,none⟩),.string s] w fun e w'=>e=.returned (.tuple #[.int .i64 s.size,.nilIface])/\(Lib.IsBuilderF 158 5 b b (bs++Lib.strCells s) w'/\Below b w w'):=by
 obtain⟨i0,hi,dZ,fP,lx⟩:=info_parts Tryz.bldX.infoByte
 have mixed:Tryz.prog.follows Departure.mixedOrders=true:=by kernel_rfl
 go_enter Tryz.func122,Tryz.ntmps122
 go_wp2_with (go_at_call 132;refine(aa' b bs _ h).mono ?_)
 rintro e w1 ⟨rfl,h1,fA⟩
 obtain⟨hB,v,zN,zf,ar⟩:=h1
 have c0:w1.cell? ⟨b,0,none⟩=some (.pointer (some ⟨b,0,none⟩)):=by rw[Lib.cell_of_heap zN];rfl
 have c1:w1.cell? ⟨b,1,none⟩=some v:=by rw[Lib.cell_of_heap zN];rfl
 go_wp2_with (at_builtin;refine Lib.wpList_append_own_stringF _ rfl _ _ 136 9 rfl b 5 i0 Tryz.underlying136 Tryz.underlying9 hi dZ fP lx _ _ _ rfl zf s rfl ?c3 ?c4 ?c5 ?_)
 case c3=>unfold maxLen;omega
 case c4=>omega
 case c5=>have:=fA.size;omega
 intro v' w2 KR Lj _
 have ae:b<w1.heap.size:=by
  rcases Nat.lt_or_ge b w1.heap.size with h' | h'
  ·exact h'
  ·simp[Array.getElem?_eq_none h']at zN
 have fj:w2.heap[b]?=some (.cells #[.pointer (some ⟨b,0,none⟩),v] 158 (0,0)):=by
  rw[Lj.block b ae (fun e=>ar e.symm)]
  exact zN
 have d0:w2.cell? ⟨b,0,none⟩=some (.pointer (some ⟨b,0,none⟩)):=by rw[Lib.cell_of_heap fj];rfl
 have d1:w2.cell? ⟨b,1,none⟩=some v:=by rw[Lib.cell_of_heap fj];rfl
 have f1:w2.frozen? ⟨b,1,none⟩=false:=Lib.frozen_of_heap fj 1
 obtain⟨ao,n',cap,rfl⟩:∃ ao n' cap,v'=.slice ao n' cap:=by
  rcases KR.2 with⟨hv,_⟩ | ⟨g,cap,cur,fz,hv,_⟩
  ·exact⟨_,_,_,hv⟩
  ·exact⟨_,_,_,hv⟩
 go_wp2
 go_ret2
 refine⟨rfl,.inr ?_,?_⟩
 ·exact Lib.BuilderAtF.put (T:=158) (e:=5) hB fj (bs':=bs++Lib.strCells s) (by simpa[Lib.strCells_length]using KR) (by decide)
 ·exact(fA.grown Lj (by have:=fA.size;omega) (fun k hk=>(zf.lt k hk).1)).setCell (p:=⟨b,1,none⟩) hB _
end Go.Eng
set_option linter.unusedVariables false
namespace Go.Eng
open Go Go.Proofs Go.Shelf Go.RowKit
theorem ED(w:World)(k:Nat)(os:Array Obj):w.grownBy (Go.Sort.grow (w.drewN k) os) none:=by
 refine⟨rfl,rfl,rfl,?_,fun b hb _=>?_⟩
 ·show w.heap.size<=(w.heap++os).size
  rw[Array.size_append];omega
 ·show (w.heap++os)[b]?=_
  rw[Array.getElem?_append_left hb]
theorem aa8{b:Nat}{bs:List Value}{w:World}(h:Lib.IsBuilderF 158 5 b b bs w)(k:Nat)(os:Array Obj):Lib.IsBuilderF 158 5 b b bs (Go.Sort.grow (w.drewN k) os):=by
 have key:∀ p,Lib.BuilderAtF 158 5 b b p bs w->Lib.BuilderAtF 158 5 b b p bs (Go.Sort.grow (w.drewN k) os):=by
  intro p h
  have ae:=h.lt
  obtain⟨hB,v,hb,zf,ar⟩:=h
  refine⟨hB,v,?_,zf.kept (ED w k os) ?_,ar⟩
  ·rw[(ED w k os).block b ae (by simp)];exact hb
  ·cases hv:v.ownBlock with
   |none=>exact .inl rfl
   |some=>exact .inr (by simp)
 exact h.elim (fun h=>.inl (key _ h)) (fun h=>.inr (key _ h))
theorem abe{b:Nat}{w w':World}(h:Below b w w')(hb:b<=w.heap.size)(k:Nat)(os:Array Obj):Below b w (Go.Sort.grow (w'.drewN k) os):=by
 refine h.grown (row:=none) (ED w' k os) ?_ (fun k hk=>by cases hk)
 have :=h.size
 omega
theorem Qi{w w':World}(h:jQ w)(hb:Below w.heap.size w w'):jQ w':=fun q hq=>by
 obtain⟨T,f,e⟩:=h q hq
 exact⟨T,f,(hb.block _ (Array.getElem?_eq_some_iff.1 e).1).trans e⟩
theorem Qj{w:World}(h:jQ w){name:String}(hn:Tryz.prog.globalNamed name=some 2):Lib.TabIs Tryz.prog w name .u64 Lib.pow10Tab:=by
 obtain⟨T,f,e⟩:=h _ (List.mem_singleton.2 rfl)
 unfold Lib.TabIs World.var?
 rw[hn]
 simp only[Option.bind_some,e]
theorem WC(n:Int)(h0: -9223372036854775808<=n)(h1:n<=9223372036854775807)(w:World)(ht:jQ w):
 Calls Tryz.prog 123 #[.int .i64 n] w fun e w'=>e=.returned (.string ⟨(Lib.itoa n).toArray⟩)/\∃ k os,w'=Go.Sort.grow (w.drewN k) os:=
 Any.strconv_Itoa Tryz.lays171 n h0 h1 w (Qj ht (by kernel_rfl))
def j6(word:ByteArray)(l:List Int)(k:Nat):List UInt8:=word.data.toList++(l.take k).flatMap fun n=>32::Lib.itoa n
def pz(word:ByteArray)(l:List Int):List UInt8:=j6 word l l.length++[10]
theorem Cr(word:ByteArray)(l:List Int){k:Nat}(h:k<l.length):j6 word l (k+1)=j6 word l k++(32::Lib.itoa l[k]):=by
 unfold j6
 rw[List.take_add_one,List.getElem?_eq_getElem h,List.flatMap_append,List.append_assoc]
 simp
theorem yC(word:ByteArray)(l:List Int)(hr:∀ n∈l,-9223372036854775808<=n/\n<=9223372036854775807):∀ k,k<=l.length->(j6 word l k).length<=word.size+22*k
 | 0,_=>by
   unfold j6
   rw[List.take_zero,List.flatMap_nil,List.append_nil,Array.length_toList]
   exact Nat.le_refl _
 |k+1,h=>by
  rw[Cr word l (by omega),List.length_append,List.length_cons]
  have h1:=yC word l hr k (by omega)
  have h2:=hr _ (List.getElem_mem (show k<l.length by omega))
  have h3:=Lib.itoa_length_le l[k] h2.1 h2.2
  omega
set_option maxHeartbeats 4000000 in
set_option maxRecDepth 100000 in
theorem TP(word:ByteArray)(a:Option Addr)(l:List Int)(cap:Nat)(w:World)
 (ha:l=[]\/∃ bl o,a=some ⟨bl,o,none⟩/\bl<w.heap.size/\∀ i (h:i<l.length),w.cell? ⟨bl,o+i,none⟩=some (.int .i64 l[i]))
 (hr:∀ n∈l,-9223372036854775808<=n/\n<=9223372036854775807) (hw:word.size<=1000) (hl:l.length<=1000000) (ht:jQ w):
 Calls Tryz.prog 110 #[.string word,.slice a l.length cap] w fun e w'=>e=.returned (.string ⟨(pz word l).toArray⟩)/\Below w.heap.size w w':=by
 have mixed:Tryz.prog.follows Departure.mixedOrders=true:=by kernel_rfl
 have h0:Lib.IsBuilderF 158 5 w.heap.size w.heap.size [] (w.alloc (.cells #[.pointer none,.slice none 0 0] 158)):=Lib.IsBuilderF.of (Lib.fresh_isBuilder 158 5 w)
 have b0:Below w.heap.size w (w.alloc (.cells #[.pointer none,.slice none 0 0] 158)):=(Below.refl _ w).alloc (Nat.le_refl _) _
 have hlen:=yC word l hr
 go_enter Tryz.func110,Tryz.ntmps110
 go_wp2_with (go_at_call 122;refine(NT w.heap.size [] word _ h0 (by simp;omega) b0.size).mono ?_;rintro e W1 ⟨rfl,h1,b1⟩)
 have eJ:Lib.IsBuilderF 158 5 w.heap.size w.heap.size (Lib.byteCells (j6 word l 0)) W1:=by
  rw[List.nil_append,Lib.strCells_eq]at h1
  unfold j6
  simpa using h1
 have Oh:=b0.trans b1
 clear h0 h1 b0 b1
 go_loopw [12] (fun i wr=>∃ k:Nat,k<=l.length/\i=.int .i64 k/\Lib.IsBuilderF 158 5 w.heap.size w.heap.size (Lib.byteCells (j6 word l k)) wr/\Below w.heap.size w wr) (fun i _=>l.length-(intOf i).toNat)
 case atStart=>exact⟨0,Nat.zero_le _,rfl,eJ,Oh⟩
 case round=>
  obtain⟨k,hk,rfl,hB,hb⟩:=hrel
  clear eJ Oh
  have Xn:=Qi ht hb
  have bf:=hb.size
  by_cases ae:k<l.length
  ·rcases ha with rfl | ⟨bl,o,rfl,LD,hc⟩
   ·simp at ae
   have afN:wr.cell? ⟨bl,o+k,none⟩=some (.int .i64 l[k]):=by
    rw[<-hc k ae]
    unfold World.cell?
    rw[hb.block bl LD]
   have zb:=hr _ (List.getElem_mem ae)
   have hL:=hlen k hk
   have gA:=Lib.itoa_length_le l[k] zb.1 zb.2
   have ai:(k:Int)<(l.length:Int):=by omega
   have kM:(⟨#[32]⟩++⟨(Lib.itoa l[k]).toArray⟩:ByteArray)=⟨(32::Lib.itoa l[k]).toArray⟩:=by
    apply ByteArray.ext
    simp
   have Db:(⟨(32::Lib.itoa l[k]).toArray⟩:ByteArray).size=(Lib.itoa l[k]).length+1:=by
    show ((32::Lib.itoa l[k]).toArray).size=_
    rw[List.size_toArray,List.length_cons]
   go_wp2_with (first
    |(go_at_call 123;refine(WC l[k] zb.1 zb.2 _ Xn).mono ?_;rintro e W2 ⟨rfl,kk,os,rfl⟩)
    |(go_at_call 122;refine(NT w.heap.size _ _ _ (aa8 hB _ _) ?sz ?le).mono ?_))
   case sz=>rw[Lib.byteCells_length,Db];omega
   case le=>rw[Go.Sort.size_grow];show w.heap.size<=wr.heap.size+_;omega
   rintro e W3 ⟨rfl,h3,b3⟩
   have uz:Lib.IsBuilderF 158 5 w.heap.size w.heap.size (Lib.byteCells (j6 word l (k+1))) W3:=by
    rw[Lib.strCells_eq,<-Lib.byteCells_append]at h3
    rw[Cr word l ae]
    exact h3
   have Ed:Below w.heap.size w W3:=(abe hb (Nat.le_refl _) kk os).trans b3
   go_wp2
   go_roundw
   case rel=>exact⟨k+1,ae,by first | (simp[IntKind.wrap_i64];done) | (simp[IntKind.wrap_i64];omega),uz,Ed⟩
   case measure=>
    simp[intOf,IntKind.wrap_i64]
    omega
  ·have rU:k=l.length:=by omega
   subst rU
   have hL:=hlen l.length (Nat.le_refl _)
   go_wp2_with (go_at_call 124;refine(Any.Builder_String_any_k Tryz.lays169 Tryz.bldX w.heap.size w.heap.size _ _ hB hb.size).mono ?_;rintro e W3 ⟨rfl,h3,b3,-⟩)
   go_wp2
   go_ret
   refine⟨?_,hb.trans b3⟩
   have :(⟨(j6 word l l.length).toArray⟩++⟨#[10]⟩:ByteArray)=⟨(pz word l).toArray⟩:=by
    apply ByteArray.ext
    simp[pz]
   simp[this]
open Go Go.Proofs
def du(w:ByteArray)(l:List Int):ByteArray:=⟨(pz w l).toArray⟩
def rr(n:Int):Prop:= -9223372036854775808<=n/\n<=9223372036854775807
noncomputable def P110:PSpec:=p2 pD dY (fun w l=>w.size<=1000/\l.length<=1000000/\∀ n∈l,rr n) (fun w l=>.str (du w l)) true
noncomputable def S110:Spec:=P110.toSpec
attribute [go_sem] P110 S110
theorem TQ{w:ByteArray}{l:List Int}(hw:w.size<=1000)(hl:l.length<=1000000)(hr:∀ n∈l,rr n):(du w l).size<=23000000:=by
 have h:=yC w l hr l.length (Nat.le_refl _)
 show (pz w l).toArray.size<=_
 unfold pz
 rw[List.size_toArray,List.length_append,List.length_singleton]
 omega
theorem Sh:aQ Tryz.prog 110 P110:=by
 refine⟨by decide,jb Tryz.func110 rfl (by kernel_rfl),fun h=>H8 (fun _ _=>rfl) h,fun m w xs args ht hm hx hp=>?_⟩
 obtain⟨word,l,rfl,⟨h1,h2,h3⟩,hg⟩:=BX hp
 have hg:P110.fn _=_:=hg
 rw[hg]
 obtain⟨h4,h5⟩:=hx
 have bf:args.size=2:=by simpa using h4.symm
 have e0:=h5 0 (by simp) (by simp[bf])
 have e1:=h5 1 (by simp) (by simp[bf])
 simp only[List.getElem_cons_zero,List.getElem_cons_succ,Array.getElem_toList]at e0 e1
 have mo:args= #[args[0],args[1]]:=by
  apply Array.ext
  ·simp[bf]
  ·intro j a b
   rcases j with _ | _ | j
   ·rfl
   ·rfl
   ·omega
 have key:∀ a0 a1,aC m (.str word) a0->aC m (.sl (l.map vInt)) a1->Calls Tryz.prog 110 #[a0,a1] w fun e w'=>∃ v m',e=.returned v/\RowKit.Below w.heap.size w w'/\Mem.le m m'/\
     (∀ b off c,m' b off=some c->m b off=some c\/(w.heap.size<=b/\w'.cell? ⟨b,off,none⟩=some c))/\aC m' (.str (du word l)) v:=by
  intro a0 a1 r0 r1
  cases r0
  have fin:∀ a cap,(l=[]\/∃ bl o,a=some ⟨bl,o,none⟩/\bl<w.heap.size/\∀ i (h:i<l.length),w.cell? ⟨bl,o+i,none⟩=some (.int .i64 l[i]))->
      Calls Tryz.prog 110 #[.string word,.slice a l.length cap] w fun e w'=>∃ v m',e=.returned v/\RowKit.Below w.heap.size w w'/\Mem.le m m'/\
   (∀ b off c,m' b off=some c->m b off=some c\/(w.heap.size<=b/\w'.cell? ⟨b,off,none⟩=some c))/\aC m' (.str (du word l)) v:=by
   intro a cap ha
   refine(TP word a l cap w ha h3 h1 h2 ht).mono ?_
   rintro e w' ⟨rfl,hb⟩
   exact⟨_,m,rfl,hb,Mem.le_refl m,fun b off c h=>.inl h,.str _ (by have:=TQ h1 h2 h3;unfold maxLen;omega)⟩
  generalize hL:l.map vInt=L at r1
  cases r1 with
  |slnil a cap=>
   have :l=[]:=List.map_eq_nil_iff.1 hL
   subst this
   exact fin a cap (.inl rfl)
  |sl _ b o cap sz c hn hl iZ hs hc hr ho=>
   subst hL
   rw[List.length_map]
   refine fin _ _ (.inr ⟨b,o,rfl,?_,fun i hi=>?_⟩)
   ·have bY:0<l.length:=by
      rcases l with _ | _
      ·simp at hn
      ·simp
    have rE:=hs 0 (by simpa using bY)
    simp only[List.getElem_map,V.cells,List.length_singleton]at rE
    have :=hm _ _ _ (hc 0 0 (by simpa using bY) (by omega))
    exact mD this
   ·have bx:i<(l.map vInt).length:=by simpa using hi
    have rE:=hs i bx
    simp only[List.getElem_map,V.cells,List.length_singleton]at rE
    subst rE
    have h6:=hm _ _ _ (hc i 0 bx (by omega))
    have h7:=hr i 0 bx (by simp[V.cells])
    simp only[List.getElem_map,V.cells,List.getElem_cons_zero]at h7
    have h8:∀ u,aC m (vInt l[i]) u->u=.int .i64 l[i]:=by intro u h;cases h;rfl
    rw[h8 _ h7]at h6
    simpa using h6
 rw[mo]
 exact key _ _ e0 e1
theorem Wu:al Tryz.prog 110 S110:=Sh.sound
noncomputable def P98:PSpec:=p3 iI iI iI (fun _ _ _=>True) (fun n lo hi=>.bool (aY n lo hi)) true
noncomputable def S98:Spec:=P98.toSpec
attribute [go_sem] P98 S98
theorem Rk:aQ Tryz.prog 98 P98:=by
 refine w3 (rs:=[.tmp 6]) Tryz.func98 Tryz.ntmps98 (by rfl) (by kernel_rfl) (by decide) (fun _ _ _ _=>rfl) ⟨_,rfl,lb rfl,fun n lo hi hp hw=>?_⟩
 have hP:=ba
 simp only[iI]at hw |-
 have hΓ:=@jY Tryz.prog
 repeat refine sq ?_
 refine rs hΓ [0,1,2] [] ?_
 repeat refine sq ?_
 refine rs hΓ [6] [] ?_
 refine an ?_
 simp only[go_sem]
 all_goals first | rfl | (simp;done) | (simp_all;done)
theorem CC:al Tryz.prog 98 S98:=Rk.sound
noncomputable def P86:PSpec:=p3 iI iI iI (fun _ _ _=>True) (fun n lo hi=>.bool (aY n lo hi)) true
noncomputable def S86:Spec:=P86.toSpec
attribute [go_sem] P86 S86
theorem Rr:aQ Tryz.prog 86 P86:=by
 refine w3 (rs:=[.tmp 6]) Tryz.func86 Tryz.ntmps86 (by rfl) (by kernel_rfl) (by decide) (fun _ _ _ _=>rfl) ⟨_,rfl,lb rfl,fun n lo hi hp hw=>?_⟩
 have hP:=ba
 simp only[iI]at hw |-
 have hΓ:=@jY Tryz.prog
 repeat refine sq ?_
 refine rs hΓ [0,1,2] [] ?_
 repeat refine sq ?_
 refine rs hΓ [6] [] ?_
 refine an ?_
 simp only[go_sem]
 all_goals first | rfl | (simp;done) | (simp_all;done)
theorem CF:al Tryz.prog 86 S86:=Rr.sound
noncomputable def K1:List (Nat×Spec):=[(98,S98),(86,S86)]
theorem uU:∀ f s,tbl K1 f=some s->al Tryz.prog f s:=tc CC<|tc CF<|tn
attribute [go_sem] K1
noncomputable def P82:PSpec:=p1 iI (fun _=>True) (fun n=>.bool (aY n 0 5)) true
noncomputable def S82:Spec:=P82.toSpec
attribute [go_sem] P82 S82
theorem Rv:aQ Tryz.prog 82 P82:=by
 refine w1 (rs:=[.tmp 2]) Tryz.func82 Tryz.ntmps82 (by rfl) (by kernel_rfl) (by decide) (fun _ _=>rfl) ⟨_,rfl,lb rfl,fun n hp hw=>?_⟩
 have hP:=ba
 simp only[iI]at hw |-
 have hΓ:=uU
 repeat refine sq ?_
 refine rs hΓ [0] [] ?_
 repeat refine sq ?_
 refine rs hΓ [2] [] ?_
 refine an ?_
 simp only[go_sem]
 all_goals first | rfl | (simp;done) | (simp_all;done)
theorem CG:al Tryz.prog 82 S82:=Rv.sound
noncomputable def P84:PSpec:=p1 iI (fun _=>True) (fun n=>.bool (aY n 0 5)) true
noncomputable def S84:Spec:=P84.toSpec
attribute [go_sem] P84 S84
theorem Rt:aQ Tryz.prog 84 P84:=by
 refine w1 (rs:=[.tmp 2]) Tryz.func84 Tryz.ntmps84 (by rfl) (by kernel_rfl) (by decide) (fun _ _=>rfl) ⟨_,rfl,lb rfl,fun n hp hw=>?_⟩
 have hP:=ba
 simp only[iI]at hw |-
 have hΓ:=uU
 repeat refine sq ?_
 refine rs hΓ [0] [] ?_
 repeat refine sq ?_
 refine rs hΓ [2] [] ?_
 refine an ?_
 simp only[go_sem]
 all_goals first | rfl | (simp;done) | (simp_all;done)
theorem yJ:al Tryz.prog 84 S84:=Rt.sound
noncomputable def P50:PSpec:=p1 iI (fun _=>True) (fun n=>.bool (aY n 1 999)) true
noncomputable def S50:Spec:=P50.toSpec
attribute [go_sem] P50 S50
theorem RP:aQ Tryz.prog 50 P50:=by
 refine w1 (rs:=[.tmp 2]) Tryz.func50 Tryz.ntmps50 (by rfl) (by kernel_rfl) (by decide) (fun _ _=>rfl) ⟨_,rfl,lb rfl,fun n hp hw=>?_⟩
 have hP:=ba
 simp only[iI]at hw |-
 have hΓ:=uU
 repeat refine sq ?_
 refine rs hΓ [0] [] ?_
 repeat refine sq ?_
 refine rs hΓ [2] [] ?_
 refine an ?_
 simp only[go_sem]
 all_goals first | rfl | (simp;done) | (simp_all;done)
theorem Kl:al Tryz.prog 50 S50:=RP.sound
noncomputable def P55:PSpec:=p1 iI (fun _=>True) (fun n=>.bool (aY n 1 999)) true
noncomputable def S55:Spec:=P55.toSpec
attribute [go_sem] P55 S55
theorem RM:aQ Tryz.prog 55 P55:=by
 refine w1 (rs:=[.tmp 2]) Tryz.func55 Tryz.ntmps55 (by rfl) (by kernel_rfl) (by decide) (fun _ _=>rfl) ⟨_,rfl,lb rfl,fun n hp hw=>?_⟩
 have hP:=ba
 simp only[iI]at hw |-
 have hΓ:=uU
 repeat refine sq ?_
 refine rs hΓ [0] [] ?_
 repeat refine sq ?_
 refine rs hΓ [2] [] ?_
 refine an ?_
 simp only[go_sem]
 all_goals first | rfl | (simp;done) | (simp_all;done)
theorem Kh:al Tryz.prog 55 S55:=RM.sound
noncomputable def P79:PSpec:=p1 iI (fun _=>True) (fun n=>.bool (aY n 0 99999)) true
noncomputable def S79:Spec:=P79.toSpec
attribute [go_sem] P79 S79
theorem Rx:aQ Tryz.prog 79 P79:=by
 refine w1 (rs:=[.tmp 2]) Tryz.func79 Tryz.ntmps79 (by rfl) (by kernel_rfl) (by decide) (fun _ _=>rfl) ⟨_,rfl,lb rfl,fun n hp hw=>?_⟩
 have hP:=ba
 simp only[iI]at hw |-
 have hΓ:=uU
 repeat refine sq ?_
 refine rs hΓ [0] [] ?_
 repeat refine sq ?_
 refine rs hΓ [2] [] ?_
 refine an ?_
 simp only[go_sem]
 all_goals first | rfl | (simp;done) | (simp_all;done)
theorem CI:al Tryz.prog 79 S79:=Rx.sound
noncomputable def P81:PSpec:=p1 iI (fun _=>True) (fun n=>.bool (aY n 0 99999)) true
noncomputable def S81:Spec:=P81.toSpec
attribute [go_sem] P81 S81
theorem Rw:aQ Tryz.prog 81 P81:=by
 refine w1 (rs:=[.tmp 2]) Tryz.func81 Tryz.ntmps81 (by rfl) (by kernel_rfl) (by decide) (fun _ _=>rfl) ⟨_,rfl,lb rfl,fun n hp hw=>?_⟩
 have hP:=ba
 simp only[iI]at hw |-
 have hΓ:=uU
 repeat refine sq ?_
 refine rs hΓ [0] [] ?_
 repeat refine sq ?_
 refine rs hΓ [2] [] ?_
 refine an ?_
 simp only[go_sem]
 all_goals first | rfl | (simp;done) | (simp_all;done)
theorem CH:al Tryz.prog 81 S81:=Rw.sound
theorem dQ{n lo hi:Int}:aY n lo hi=true↔lo<=n/\n<=hi:=by unfold aY;simp
def iK(n:Nat)(f:Nat->Bool):Bool:=(List.range n).all f
theorem jf{n:Nat}{f:Nat->Bool}:iK n f=true↔∀ j,j<n->f j=true:=by
 unfold iK;rw[List.all_eq_true];exact⟨fun h j hj=>h j (List.mem_range.2 hj),fun h j hj=>h j (List.mem_range.1 hj)⟩
theorem ig{n i:Nat}{f:Nat->Bool}(h:i<n)(hb:f i=false):iK n f=false:=by
 rw[Bool.eq_false_iff];intro k;rw[jf.1 k i h]at hb;cases hb
theorem nJ{n:Nat}{f:Nat->Bool}(h:iK n f=true)(hb:f n=true):iK (n+1) f=true:=jf.2 fun j hj=>by
 rcases Nat.lt_succ_iff_lt_or_eq.1 hj with h5 | rfl
 ·exact jf.1 h j h5
 ·exact hb
def kC(l:List Int)(i:Nat):Bool:=aY (l.getD i 0) 1 999&&(i==0||decide (l.getD (i-1) 0<l.getD i 0))
def fJ(l:List Int):Bool:=iK l.length (kC l)&&decide (l.length<=40)
def fI(l:List Par)(i:Nat):Bool:=aY (l.getD i default).no 1 99999&&aY (l.getD i default).pa 1 999&&(i==0||(l.getD (i-1) default).no+1==(l.getD i default).no)
def cf(l:List Par):Bool:=iK l.length (fI l)&&decide (l.length<=40)
theorem xW{i n:Nat}(h:i<n)(hn:n<=maxLen):∃ p:Nat,(IntKind.i64.wrap ((i:Int)-1)).toNat=p/\p<n/\p=i-1/\(0<i->0<=IntKind.i64.wrap ((i:Int)-1)/\IntKind.i64.wrap ((i:Int)-1)<n):=by
 unfold maxLen at hn
 rcases Nat.eq_zero_or_pos i with rfl | hp
 ·exact⟨0,by decide,h,rfl,fun h=>by omega⟩
 ·have:IntKind.i64.wrap ((i:Int)-1)=((i-1:Nat):Int):=by rw[wrap_i64 (by omega) (by omega)];omega
  exact⟨i-1,by rw[this];rfl,by omega,rfl,fun _=>by omega⟩
theorem tl{i:Nat}:decide ((i:Int)>0)=!(i==0):=by
 cases i<;>simp
theorem not_lt{a b:Int}:decide (a>=b)=!decide (a<b):=by
 by_cases h:a<b
 ·rw[decide_eq_true h,decide_eq_false (by omega)];rfl
 ·rw[decide_eq_false h,decide_eq_true (by omega)];rfl
noncomputable def Pd:List (Nat×Spec):=[(50,S50),(55,S55),(98,S98),(86,S86)]
theorem A3:∀ f s,tbl Pd f=some s->al Tryz.prog f s:=tc Kl<|tc Kh<|tc CC<|tc CF<|tn
attribute [go_sem] Pd
theorem H0{l:List Int}{i p:Nat}(hp:p=i-1)(hi:i<l.length)(bV:p<l.length):(!aY l[i] 1 999||(!(i==0)&&!decide (l[p] <l[i])))=!kC l i:=by
 subst hp
 unfold kC
 rw[getD_at hi,getD_at bV]
 cases aY l[i] 1 999<;>cases (i==0)<;>cases decide (l[i-1] <l[i])<;>rfl
theorem HX{l:List Par}{i p:Nat}(hp:p=i-1)(hi:i<l.length)(bV:p<l.length):
 (!aY l[i].no 1 99999||(!aY l[i].pa 1 999||(!(i==0)&&(l[p].no+1 != l[i].no))))=!fI l i:=by
 subst hp
 unfold fI
 rw[getD_at hi,getD_at bV]
 have :(l[i-1].no+1 != l[i].no)=!(l[i-1].no+1==l[i].no):=rfl
 rw[this]
 cases aY l[i].no 1 99999<;>cases aY l[i].pa 1 999<;>cases (i==0)<;>cases (l[i-1].no+1==l[i].no)<;>rfl
theorem HV{l:List Par}{i p:Nat}(hp:p=i-1)(bV:p<l.length)(hR:iK i (fI l)=true)(h0:0<i):IntKind.i64.wrap (l[p].no+1)=l[p].no+1:=by
 have :=jf.1 hR p (by omega)
 unfold fI at this
 rw[getD_at bV]at this
 simp only[Bool.and_eq_true]at this
 have :=dQ.1 this.1.1
 exact wrap_i64 (by omega) (by omega)
noncomputable def P83:PSpec:=p1 dY (fun _=>True) (fun l=>.bool (fJ l)) true
noncomputable def S83:Spec:=P83.toSpec
attribute [go_sem] P83 S83
set_option maxHeartbeats 4000000 in
theorem Ru:aQ Tryz.prog 83 P83:=by
 refine w1 (rs:=[.tmp 2]) Tryz.func83 Tryz.ntmps83 (by rfl) (by kernel_rfl) (by decide) (fun _ _=>rfl) ⟨_,rfl,lb rfl,fun l hp hw=>?_⟩
 have hP:=ba
 simp only[dY]at hw |-
 have hΓ:=A3
 have hl:l.length<=maxLen:=by have:=hw.1.1;simpa using this
 repeat refine sq ?_
 refine rs hΓ [0] [] ?_
 repeat refine sq ?_
 refine rs hΓ [0,5,6,7] [] ?_
 repeat refine sq ?_
 refine aO ?_
 repeat refine sq ?_
 refine cv (fun s:Nat=>[(7,⟨true,.v (vInt s)⟩)]) (fun s=>[]) (fun s=>s<=l.length/\iK s (kC l)=true) (fun s=>l.length-s) 0 ?_ ?_ ?_ ?_
 ·exact⟨Nat.zero_le _,rfl⟩
 ·rfl
 ·rfl
 rintro i ⟨hi,hR⟩
 simp only[go_sem]
 repeat refine sq ?_
 refine rs hΓ [0,5,6,7,8] [] ?_
 repeat refine sq ?_
 refine au rfl rfl (fun hb=>?_) (fun hb=>?_)
 ·have ae:i<l.length:=by simpa using hb
  have ai:(i:Int)<l.length:=by omega
  clear hb
  obtain⟨p,hp,bV,iA,bY⟩:=xW ae hl
  have eg:=H0 iA ae bV
  repeat refine sq ?_
  refine av ?_
  repeat refine sq ?_
  refine aO ?_
  repeat refine sq ?_
  refine rx hΓ [0,3,4,5,6,7] [] (fun K' hK=>by simp only[go_sem,aI ae,Int.toNat_natCast,Int.natCast_nonneg,ai];(repeat (refine⟨ob,?_⟩));exact hK _ (by simp only[go_sem]) (by simp only[go_sem]<;>rfl)) ?_
  repeat refine sq ?_
  refine rx hΓ [0,5,6,7,27] [] (fun K' hK=>by simp only[go_sem,aI ae,Int.toNat_natCast,Int.natCast_nonneg,ai,hp,aI ae,aI bV,Int.toNat_natCast,Int.natCast_nonneg,ai,tl,not_lt];(repeat (refine⟨by first | exact ob | exact fun h=>bY (by simp_all;omega) | (intro h;have:=bY (by simp_all;omega);simp_all;done),?_⟩));exact hK _ (by simp only[go_sem]) (by simp only[go_sem]<;>rfl)) ?_
  repeat refine sq ?_
  refine au rfl rfl (fun hb=>?_) (fun hb=>?_)
  ·repeat refine sq ?_
   have bC:kC l i=false:=by simpa[eg]using hb
   repeat refine sq ?_
   refine rx hΓ [2] [] (fun K' hK=>by simp only[go_sem,aI ae,Int.toNat_natCast,Int.natCast_nonneg,ai];(repeat (refine⟨ob,?_⟩));exact hK _ (by simp only[go_sem]) (by simp only[go_sem]<;>rfl)) ?_
   refine an ?_
   simp only[go_sem]
   simp only[fJ,ig ae bC,Bool.false_and]
  ·repeat refine sq ?_
   have bH:kC l i=true:=by simpa[eg]using hb
   refine av ?_
   refine ct ?_
   simp only[go_sem]
   refine kp [0,5,6,7] [] ?_
   repeat refine sq ?_
   refine aL hΓ fun K' hK=>?_
   simp only[go_sem,aI ae,Int.toNat_natCast,Int.natCast_nonneg,ai]
   repeat (refine⟨ob,?_⟩)
   refine hK _ ?_
   clear K' hK
   simp only[go_sem]
   refine⟨i+1,⟨ae,?_⟩,by(show l.length-(i+1)<l.length-i;omega),?_⟩
   ·exact nJ hR bH
   refine bk [0,5,6,7] [] ?_ ?_
   ·simp only[go_sem,aD ae hl,Int.natCast_add,Int.natCast_one]
   ·simp only[go_sem,aD ae hl,Int.natCast_add,Int.natCast_one]
 ·have aW:i=l.length:=by
   have :¬ (i:Int)<l.length:=by simpa using hb
   omega
  clear hb
  subst aW
  repeat refine sq ?_
  refine b7 ?_
  simp only[go_sem]
  refine kp [0] [] ?_
  repeat refine sq ?_
  refine rs hΓ [2] [] ?_
  refine an ?_
  simp only[go_sem]
  simp only[fJ,hR,Bool.true_and]
  try (congr 2;apply propext;omega)
theorem VO:al Tryz.prog 83 S83:=Ru.sound
noncomputable def P87:PSpec:=p1 jv (fun _=>True) (fun l=>.bool (cf l)) true
noncomputable def S87:Spec:=P87.toSpec
attribute [go_sem] P87 S87
set_option maxHeartbeats 4000000 in
theorem Rq:aQ Tryz.prog 87 P87:=by
 refine w1 (rs:=[.tmp 2]) Tryz.func87 Tryz.ntmps87 (by rfl) (by kernel_rfl) (by decide) (fun _ _=>rfl) ⟨_,rfl,lb rfl,fun l hp hw=>?_⟩
 have hP:=ba
 simp only[jv]at hw |-
 have hΓ:=A3
 have hl:l.length<=maxLen:=by have:=hw.1.1;simpa using this
 repeat refine sq ?_
 refine rs hΓ [0] [] ?_
 repeat refine sq ?_
 refine rs hΓ [0,5,6,7] [] ?_
 repeat refine sq ?_
 refine aO ?_
 repeat refine sq ?_
 refine cv (fun s:Nat=>[(7,⟨true,.v (vInt s)⟩)]) (fun s=>[]) (fun s=>s<=l.length/\iK s (fI l)=true) (fun s=>l.length-s) 0 ?_ ?_ ?_ ?_
 ·exact⟨Nat.zero_le _,rfl⟩
 ·rfl
 ·rfl
 rintro i ⟨hi,hR⟩
 simp only[go_sem]
 repeat refine sq ?_
 refine rs hΓ [0,5,6,7,8] [] ?_
 repeat refine sq ?_
 refine au rfl rfl (fun hb=>?_) (fun hb=>?_)
 ·have ae:i<l.length:=by simpa using hb
  have ai:(i:Int)<l.length:=by omega
  clear hb
  obtain⟨p,hp,bV,iA,bY⟩:=xW ae hl
  have eg:=HX iA ae bV
  repeat refine sq ?_
  refine av ?_
  repeat refine sq ?_
  refine aO ?_
  repeat refine sq ?_
  refine rx hΓ [0,3,4,5,6,7] [[4,0]] (fun K' hK=>by simp only[go_sem,aI ae,Int.toNat_natCast,Int.natCast_nonneg,ai];(repeat (refine⟨ob,?_⟩));exact hK _ (by simp only[go_sem]) (by simp only[go_sem]<;>rfl)) ?_
  rcases Nat.eq_zero_or_pos i with h0 | h0
  ·have dZ:(i==0)=true:=by simp[h0]
   repeat refine sq ?_
   refine dx hΓ hP [[],[0],[0,1],[0,1,2],[0,1,2,3],[0,1,2,3,4],[0,1,2,3,4,5],[0,1,2,3,4,5,6],[0,1,2,3,4,5,6,7],[0,1,2,3,4,5,6,7,8],[0,1,2,3,4,5,6,7,8,9],[0,1,2,3,4,5,6,7,8,9,10],[0,1,2,3,4,5,6,7,8,9,10,11],[0,1,2,3,4,5,6,7,8,9,10,11,12],[0,1,2,3,4,5,6,7,8,9,10,11,12,13],[0,1,2,3,4,5,6,7,8,9,10,11,12,13],[0,1,2,3,4,5,6,7,8,9,10,11,12,13,15],[0,1,2,3,4,5,6,7,8,9,10,11,12,13,14,15,16],[0,1,2,3,4,5,6,7,8,9,10,11,12,13,14,15,16,17],[0,1,2,3,4,5,6,7,8,9,10,11,12,13,14,15,16,17,18],[0,1,2,3,4,5,6,7,8,9,10,11,12,13,14,15,16,17,18,19],[0,1,2,3,4,5,6,7,8,9,10,11,12,13],[0,1,2,3,4,5,6,7,8,9,10,11,12,13,21],[0,1,2,3,4,5,6,7,8,9,10,11,12,13,14,15,16,17,18,19,20,21,22],[0,1,2,3,4,5,6,7,8,9,10,11,12,13,14,15,16,17,18,19,20,21,22,23],[0,1,2,3,4,5,6,7,8,9,10,11,12,13,14,15,16,17,18,19,20,21,22,23,24]] [0,5,6,7,37] [] (by kernel_rfl) (fun K' hK=>by simp only[go_sem,aI ae,Int.toNat_natCast,Int.natCast_nonneg,ai,dZ,hp,aI ae,aI bV,Int.toNat_natCast,Int.natCast_nonneg,ai,tl,not_lt];(repeat (refine⟨by first | exact ob | exact fun _=>⟨dm,dw,rfl⟩ | exact fun _=>⟨dm,dw⟩,?_⟩));(first | refine⟨by rfl,?_⟩ | skip);exact hK _ (by simp only[go_sem]) (by simp only[go_sem]<;>rfl)) ?_
   repeat refine sq ?_
   refine au rfl rfl (fun hb=>?_) (fun hb=>?_)
   ·repeat refine sq ?_
    have bC:fI l i=false:=by simpa[dZ,hb]using eg.symm
    repeat refine sq ?_
    refine rx hΓ [2] [] (fun K' hK=>by simp only[go_sem,aI ae,Int.toNat_natCast,Int.natCast_nonneg,ai,dZ];(repeat (refine⟨ob,?_⟩));exact hK _ (by simp only[go_sem]) (by simp only[go_sem]<;>rfl)) ?_
    refine an ?_
    simp only[go_sem]
    first | simp only[cf,ig ae bC,Bool.false_and] | (simp only[cf,hR,Bool.true_and];done) | (simp only[cf,hR,Bool.true_and];congr 2;apply propext;omega)
   ·repeat refine sq ?_
    have bH:fI l i=true:=by simpa[dZ,hb]using eg.symm
    refine av ?_
    refine ct ?_
    simp only[go_sem]
    refine kp [0,5,6,7] [] ?_
    repeat refine sq ?_
    refine aL hΓ fun K' hK=>?_
    simp only[go_sem,aI ae,Int.toNat_natCast,Int.natCast_nonneg,ai,dZ]
    repeat (refine⟨ob,?_⟩)
    refine hK _ ?_
    clear K' hK
    simp only[go_sem]
    refine⟨i+1,⟨ae,?_⟩,by(show l.length-(i+1)<l.length-i;omega),?_⟩
    ·exact nJ hR bH
    refine bk [0,5,6,7] [] ?_ ?_
    ·simp only[go_sem,aD ae hl,Int.natCast_add,Int.natCast_one]
    ·simp only[go_sem,aD ae hl,Int.natCast_add,Int.natCast_one]
  ·have rA:=HV iA bV hR h0
   have dZ:(i==0)=false:=by rw[beq_eq_false_iff_ne];omega
   obtain⟨dm,dw⟩:=bY h0
   repeat refine sq ?_
   refine dx hΓ hP [[],[0],[0,1],[0,1,2],[0,1,2,3],[0,1,2,3,4],[0,1,2,3,4,5],[0,1,2,3,4,5,6],[0,1,2,3,4,5,6,7],[0,1,2,3,4,5,6,7,8],[0,1,2,3,4,5,6,7,8,9],[0,1,2,3,4,5,6,7,8,9,10],[0,1,2,3,4,5,6,7,8,9,10,11],[0,1,2,3,4,5,6,7,8,9,10,11,12],[0,1,2,3,4,5,6,7,8,9,10,11,12,13],[0,1,2,3,4,5,6,7,8,9,10,11,12,13],[0,1,2,3,4,5,6,7,8,9,10,11,12,13,15],[0,1,2,3,4,5,6,7,8,9,10,11,12,13,14,15,16],[0,1,2,3,4,5,6,7,8,9,10,11,12,13,14,15,16,17],[0,1,2,3,4,5,6,7,8,9,10,11,12,13,14,15,16,17,18],[0,1,2,3,4,5,6,7,8,9,10,11,12,13,14,15,16,17,18,19],[0,1,2,3,4,5,6,7,8,9,10,11,12,13],[0,1,2,3,4,5,6,7,8,9,10,11,12,13,21],[0,1,2,3,4,5,6,7,8,9,10,11,12,13,14,15,16,17,18,19,20,21,22],[0,1,2,3,4,5,6,7,8,9,10,11,12,13,14,15,16,17,18,19,20,21,22,23],[0,1,2,3,4,5,6,7,8,9,10,11,12,13,14,15,16,17,18,19,20,21,22,23,24]] [0,5,6,7,37] [] (by kernel_rfl) (fun K' hK=>by simp only[go_sem,aI ae,Int.toNat_natCast,Int.natCast_nonneg,ai,rA,dZ,dm,dw,hp,aI ae,aI bV,Int.toNat_natCast,Int.natCast_nonneg,ai,tl,not_lt];(repeat (refine⟨by first | exact ob | exact fun _=>⟨dm,dw,rfl⟩ | exact fun _=>⟨dm,dw⟩,?_⟩));(first | refine⟨by rfl,?_⟩ | skip);exact hK _ (by simp only[go_sem]) (by simp only[go_sem]<;>rfl)) ?_
   repeat refine sq ?_
   refine au rfl rfl (fun hb=>?_) (fun hb=>?_)
   ·repeat refine sq ?_
    have bC:fI l i=false:=by simpa[dZ,<-Bool.or_assoc,hb]using eg.symm
    repeat refine sq ?_
    refine rx hΓ [2] [] (fun K' hK=>by simp only[go_sem,aI ae,Int.toNat_natCast,Int.natCast_nonneg,ai,rA,dZ,dm,dw];(repeat (refine⟨ob,?_⟩));exact hK _ (by simp only[go_sem]) (by simp only[go_sem]<;>rfl)) ?_
    refine an ?_
    simp only[go_sem]
    first | simp only[cf,ig ae bC,Bool.false_and] | (simp only[cf,hR,Bool.true_and];done) | (simp only[cf,hR,Bool.true_and];congr 2;apply propext;omega)
   ·repeat refine sq ?_
    have bH:fI l i=true:=by simpa[dZ,<-Bool.or_assoc,hb]using eg.symm
    refine av ?_
    refine ct ?_
    simp only[go_sem]
    refine kp [0,5,6,7] [] ?_
    repeat refine sq ?_
    refine aL hΓ fun K' hK=>?_
    simp only[go_sem,aI ae,Int.toNat_natCast,Int.natCast_nonneg,ai,rA,dZ,dm,dw]
    repeat (refine⟨ob,?_⟩)
    refine hK _ ?_
    clear K' hK
    simp only[go_sem]
    refine⟨i+1,⟨ae,?_⟩,by(show l.length-(i+1)<l.length-i;omega),?_⟩
    ·exact nJ hR bH
    refine bk [0,5,6,7] [] ?_ ?_
    ·simp only[go_sem,aD ae hl,Int.natCast_add,Int.natCast_one]
    ·simp only[go_sem,aD ae hl,Int.natCast_add,Int.natCast_one]
 ·have aW:i=l.length:=by
   have :¬ (i:Int)<l.length:=by simpa using hb
   omega
  clear hb
  subst aW
  repeat refine sq ?_
  refine b7 ?_
  simp only[go_sem]
  refine kp [0] [] ?_
  repeat refine sq ?_
  refine rs hΓ [2] [] ?_
  refine an ?_
  simp only[go_sem]
  first | simp only[cf,ig ae bC,Bool.false_and] | (simp only[cf,hR,Bool.true_and];done) | (simp only[cf,hR,Bool.true_and];congr 2;apply propext;omega)
theorem Kd:al Tryz.prog 87 S87:=Rq.sound
@[go_sem] theorem ag8{α:Type}(s:bj α)(e:α->V):(s.L e).take 6=s.L e:=rfl
@[go_sem] theorem ag9{α:Type}(s:bj α)(e:α->V):(s.L e).length=6:=rfl
attribute [go_sem] Nat.mul_one
def fU(s:Stk)(i:Nat):Bool:=aY (s.se.get i) 0 99999&&aY (s.ta.get i) 0 99999&&cf (s.un.get i)&&((s.un.get i).length==0||((s.un.get i).getD ((s.un.get i).length-1) default).no==s.se.get i)
def c9(me:Int)(s:Stk):Bool:=aY me 0 5&&fJ s.ho&&((s.un.get me.toNat).length==0)&&(s.se.get me.toNat==0)&&(s.ta.get me.toNat==0)&&iK 6 (fU s)
theorem dX{α:Type}{l:List α}:decide ((l.length:Int)>0)=!(l.length==0):=by
 cases l with
 |nil=>rfl
 |cons a r=>
  have h1:((a::r).length==0)=false:=rfl
  rw[h1]
  simp
theorem IW{l:List Par}(hl:l.length<=maxLen):∃ p:Nat,(IntKind.i64.wrap ((l.length:Int)-1)).toNat=p/\p=l.length-1/\((l.length==0)=false->p<l.length/\0<=IntKind.i64.wrap ((l.length:Int)-1)/\IntKind.i64.wrap ((l.length:Int)-1)<l.length):=by
 unfold maxLen at hl
 by_cases h:l.length=0
 ·exact⟨0,by rw[h];decide,by omega,fun h2=>by rw[h]at h2;cases h2⟩
 ·have:IntKind.i64.wrap ((l.length:Int)-1)=((l.length-1:Nat):Int):=by rw[wrap_i64 (by omega) (by omega)];omega
  exact⟨l.length-1,by rw[this];rfl,rfl,fun _=>by omega⟩
theorem sP{s:Stk}(h:V.wfL [.agg (aB s)]){i:Nat}(hi:i<6):(s.un.get i).length<=maxLen:=by
 have h1:V.wfL (aB s):=h.1
 have h2:rowP (s.un.get i)∈aB s:=by
  match i,hi with
  | 0,_=>simp[aB,bj.L,bj.get]
  | 1,_=>simp[aB,bj.L,bj.get]
  | 2,_=>simp[aB,bj.L,bj.get]
  | 3,_=>simp[aB,bj.L,bj.get]
  | 4,_=>simp[aB,bj.L,bj.get]
  | 5,_=>simp[aB,bj.L,bj.get]
 have h3:=(Gu h1 _ h2).1
 simpa using h3
theorem SQ{l:List Par}{i p:Nat}(hp:p=i-1)(hi:i<l.length)(bV:p<l.length):
 (!aY l[i].pa 1 999||(!aY l[i].no 1 99999||(!(i==0)&&(l[i].no != l[p].no+1))))=!fI l i:=by
 rw[<-HX hp hi bV]
 have :(l[i].no != l[p].no+1)=(l[p].no+1 != l[i].no):=by
  rw[Bool.eq_iff_iff,bne_iff_ne,bne_iff_ne];exact⟨fun h=>h.symm,fun h=>h.symm⟩
 rw[this]
 cases aY l[i].no 1 99999<;>cases aY l[i].pa 1 999<;>rfl
noncomputable def P85:PSpec:=p1 dY (fun _=>True) (fun l=>.bool (fJ l)) true
noncomputable def S85:Spec:=P85.toSpec
attribute [go_sem] P85 S85
set_option maxHeartbeats 4000000 in
theorem Rs:aQ Tryz.prog 85 P85:=by
 refine w1 (rs:=[.tmp 2]) Tryz.func85 Tryz.ntmps85 (by rfl) (by kernel_rfl) (by decide) (fun _ _=>rfl) ⟨_,rfl,lb rfl,fun l hp hw=>?_⟩
 have hP:=ba
 simp only[dY]at hw |-
 have hΓ:=A3
 have hl:l.length<=maxLen:=by have:=hw.1.1;simpa using this
 repeat refine sq ?_
 refine rs hΓ [0] [] ?_
 repeat refine sq ?_
 refine rs hΓ [0,3] [] ?_
 repeat refine sq ?_
 refine aO ?_
 repeat refine sq ?_
 refine cv (fun s:Nat=>[(3,⟨true,.v (vInt s)⟩)]) (fun s=>[]) (fun s=>s<=l.length/\iK s (kC l)=true) (fun s=>l.length-s) 0 ?_ ?_ ?_ ?_
 ·exact⟨Nat.zero_le _,rfl⟩
 ·rfl
 ·rfl
 rintro i ⟨hi,hR⟩
 simp only[go_sem]
 repeat refine sq ?_
 refine rs hΓ [0,3,7] [] ?_
 repeat refine sq ?_
 refine au rfl rfl (fun hb=>?_) (fun hb=>?_)
 ·have ae:i<l.length:=by simpa using hb
  have ai:(i:Int)<l.length:=by omega
  clear hb
  obtain⟨p,hp,bV,iA,bY⟩:=xW ae hl
  have eg:=H0 iA ae bV
  repeat refine sq ?_
  refine av ?_
  repeat refine sq ?_
  refine aO ?_
  repeat refine sq ?_
  refine dx hΓ hP [[],[],[0,1],[0,1,2],[0,1,2,3],[0,1,2,3,4],[0,1,2,3,4,5],[0,1,2,3,4,5,6],[0,1,2,3,4,5,6,7],[0,1,2,3,4,5,6,7,8],[0,1,2,3,4,5,6,7,8,9],[0,1,2,3,4,5,6,7,8,9],[0,1,2,3,4,5,6,7,8,9,11],[0,1,2,3,4,5,6,7,8,9,10,11,12],[0,1,2,3,4,5,6,7,8,9,10,11,12,13],[0,1,2,3,4,5,6,7,8,9],[0,1,2,3,4,5,6,7,8,9],[0,1,2,3,4,5,6,7,8,9,15,16],[0,1,2,3,4,5,6,7,8,9,15,16,17],[0,1,2,3,4,5,6,7,8,9,10,11,12,13,14,15,16,17,18],[0,1,2,3,4,5,6,7,8,9,10,11,12,13,14,15,16,17,18,19],[0,1,2,3,4,5,6,7,8,9,10,11,12,13,14,15,16,17,18,19,20]] [0,3,31] [] (by kernel_rfl) (fun K' hK=>by simp only[go_sem,aI ae,Int.toNat_natCast,Int.natCast_nonneg,ai,hp,aI ae,aI bV,Int.toNat_natCast,Int.natCast_nonneg,ai,tl,not_lt];(repeat (refine⟨by first | exact ob | exact fun h=>bY (by simp_all;omega) | (intro h;have:=bY (by simp_all;omega);simp_all;done),?_⟩));(first | refine⟨by rfl,?_⟩ | skip);exact hK _ (by simp only[go_sem]) (by simp only[go_sem]<;>rfl)) ?_
  repeat refine sq ?_
  refine au rfl rfl (fun hb=>?_) (fun hb=>?_)
  ·repeat refine sq ?_
   have bC:kC l i=false:=by simpa[eg]using hb
   repeat refine sq ?_
   refine rx hΓ [2] [] (fun K' hK=>by simp only[go_sem,aI ae,Int.toNat_natCast,Int.natCast_nonneg,ai];(repeat (refine⟨ob,?_⟩));exact hK _ (by simp only[go_sem]) (by simp only[go_sem]<;>rfl)) ?_
   refine an ?_
   simp only[go_sem]
   simp only[fJ,ig ae bC,Bool.false_and]
  ·repeat refine sq ?_
   have bH:kC l i=true:=by simpa[eg]using hb
   refine av ?_
   refine ct ?_
   simp only[go_sem]
   refine kp [0,3] [] ?_
   repeat refine sq ?_
   refine aL hΓ fun K' hK=>?_
   simp only[go_sem,aI ae,Int.toNat_natCast,Int.natCast_nonneg,ai]
   repeat (refine⟨ob,?_⟩)
   refine hK _ ?_
   clear K' hK
   simp only[go_sem]
   refine⟨i+1,⟨ae,?_⟩,by(show l.length-(i+1)<l.length-i;omega),?_⟩
   ·exact nJ hR bH
   refine bk [0,3] [] ?_ ?_
   ·simp only[go_sem,aD ae hl,Int.natCast_add,Int.natCast_one]
   ·simp only[go_sem,aD ae hl,Int.natCast_add,Int.natCast_one]
 ·have aW:i=l.length:=by
   have :¬ (i:Int)<l.length:=by simpa using hb
   omega
  clear hb
  subst aW
  repeat refine sq ?_
  refine b7 ?_
  simp only[go_sem]
  refine kp [0] [] ?_
  repeat refine sq ?_
  refine rs hΓ [2] [] ?_
  refine an ?_
  simp only[go_sem]
  simp only[fJ,hR,Bool.true_and]
  try (congr 2;apply propext;omega)
theorem Ke:al Tryz.prog 85 S85:=Rs.sound
noncomputable def P88:PSpec:=p1 jv (fun _=>True) (fun l=>.bool (cf l)) true
noncomputable def S88:Spec:=P88.toSpec
attribute [go_sem] P88 S88
set_option maxHeartbeats 4000000 in
theorem Rp:aQ Tryz.prog 88 P88:=by
 refine w1 (rs:=[.tmp 2]) Tryz.func88 Tryz.ntmps88 (by rfl) (by kernel_rfl) (by decide) (fun _ _=>rfl) ⟨_,rfl,lb rfl,fun l hp hw=>?_⟩
 have hP:=ba
 simp only[jv]at hw |-
 have hΓ:=A3
 have hl:l.length<=maxLen:=by have:=hw.1.1;simpa using this
 repeat refine sq ?_
 refine rs hΓ [0] [] ?_
 repeat refine sq ?_
 refine rs hΓ [0,3] [] ?_
 repeat refine sq ?_
 refine aO ?_
 repeat refine sq ?_
 refine cv (fun s:Nat=>[(3,⟨true,.v (vInt s)⟩)]) (fun s=>[]) (fun s=>s<=l.length/\iK s (fI l)=true) (fun s=>l.length-s) 0 ?_ ?_ ?_ ?_
 ·exact⟨Nat.zero_le _,rfl⟩
 ·rfl
 ·rfl
 rintro i ⟨hi,hR⟩
 simp only[go_sem]
 repeat refine sq ?_
 refine rs hΓ [0,3,7] [] ?_
 repeat refine sq ?_
 refine au rfl rfl (fun hb=>?_) (fun hb=>?_)
 ·have ae:i<l.length:=by simpa using hb
  have ai:(i:Int)<l.length:=by omega
  clear hb
  obtain⟨p,hp,bV,iA,bY⟩:=xW ae hl
  have eg:=SQ iA ae bV
  repeat refine sq ?_
  refine av ?_
  repeat refine sq ?_
  refine aO ?_
  repeat refine sq ?_
  rcases Nat.eq_zero_or_pos i with h0 | h0
  ·have dZ:(i==0)=true:=by simp[h0]
   repeat refine sq ?_
   refine dx hΓ hP [[],[],[0,1],[0,1,2],[0,1,2,3],[0,1,2,3,4],[0,1,2,3,4,5],[0,1,2,3,4,5,6],[0,1,2,3,4,5,6,7],[0,1,2,3,4,5,6,7],[0,1,2,3,4,5,6,7,8,9],[0,1,2,3,4,5,6,7,8,9,10],[0,1,2,3,4,5,6,7,8,9,10,11],[0,1,2,3,4,5,6,7,8,9,10,11,12],[0,1,2,3,4,5,6,7,8,9,10,11,12,13],[0,1,2,3,4,5,6,7,8,9,10,11,12,13,14],[0,1,2,3,4,5,6,7,8,9,10,11,12,13,14,15],[0,1,2,3,4,5,6,7,8,9,10,11,12,13,14,15,16],[0,1,2,3,4,5,6,7,8,9,10,11,12,13,14,15,16,17],[0,1,2,3,4,5,6,7,8,9,10,11,12,13,14,15,16,17,18],[0,1,2,3,4,5,6,7,8,9,10,11,12,13,14,15,16,17,18,19],[0,1,2,3,4,5,6,7,8,9,10,11,12,13,14,15,16,17,18,19],[0,1,2,3,4,5,6,7,8,9,10,11,12,13,14,15,16,17,18,19,20,21],[0,1,2,3,4,5,6,7,8,9,10,11,12,13,14,15,16,17,18,19,20,21,22],[0,1,2,3,4,5,6,7,8,9,10,11,12,13,14,15,16,17,18,19,20,21,22,23],[0,1,2,3,4,5,6,7,8,9,10,11,12,13,14,15,16,17,18,19],[0,1,2,3,4,5,6,7,8,9,10,11,12,13,14,15,16,17,18,19],[0,1,2,3,4,5,6,7,8,9,10,11,12,13,14,15,16,17,18,19,26],[0,1,2,3,4,5,6,7,8,9,10,11,12,13,14,15,16,17,18,19,25,26,27],[0,1,2,3,4,5,6,7,8,9,10,11,12,13,14,15,16,17,18,19,25,26,27,28],[0,1,2,3,4,5,6,7,8,9,10,11,12,13,14,15,16,17,18,19,25,26,27,28,29],[0,1,2,3,4,5,6,7,8,9,10,11,12,13,14,15,16,17,18,19,25,26,27,28,29,30],[0,1,2,3,4,5,6,7,8,9,10,11,12,13,14,15,16,17,18,19,20,21,22,23,24,25,26,27,28,29,30,31],[0,1,2,3,4,5,6,7,8,9,10,11,12,13,14,15,16,17,18,19,20,21,22,23,24,25,26,27,28,29,30,31,32],[0,1,2,3,4,5,6,7,8,9,10,11,12,13,14,15,16,17,18,19,20,21,22,23,24,25,26,27,28,29,30,31,32,33]] [0,3,44] [] (by kernel_rfl) (fun K' hK=>by simp only[go_sem,aI ae,Int.toNat_natCast,Int.natCast_nonneg,ai,dZ,hp,aI ae,aI bV,Int.toNat_natCast,Int.natCast_nonneg,ai,tl,not_lt];(repeat (refine⟨by first | exact ob | exact fun _=>⟨dm,dw,rfl⟩ | exact fun _=>⟨dm,dw⟩,?_⟩));(first | refine⟨by rfl,?_⟩ | skip);exact hK _ (by simp only[go_sem]) (by simp only[go_sem]<;>rfl)) ?_
   repeat refine sq ?_
   refine au rfl rfl (fun hb=>?_) (fun hb=>?_)
   ·repeat refine sq ?_
    have bC:fI l i=false:=by simpa[dZ,hb]using eg.symm
    repeat refine sq ?_
    refine rx hΓ [2] [] (fun K' hK=>by simp only[go_sem,aI ae,Int.toNat_natCast,Int.natCast_nonneg,ai,dZ];(repeat (refine⟨ob,?_⟩));exact hK _ (by simp only[go_sem]) (by simp only[go_sem]<;>rfl)) ?_
    refine an ?_
    simp only[go_sem]
    first | simp only[cf,ig ae bC,Bool.false_and] | (simp only[cf,hR,Bool.true_and];done) | (simp only[cf,hR,Bool.true_and];congr 2;apply propext;omega)
   ·repeat refine sq ?_
    have bH:fI l i=true:=by simpa[dZ,hb]using eg.symm
    refine av ?_
    refine ct ?_
    simp only[go_sem]
    refine kp [0,3] [] ?_
    repeat refine sq ?_
    refine aL hΓ fun K' hK=>?_
    simp only[go_sem,aI ae,Int.toNat_natCast,Int.natCast_nonneg,ai,dZ]
    repeat (refine⟨ob,?_⟩)
    refine hK _ ?_
    clear K' hK
    simp only[go_sem]
    refine⟨i+1,⟨ae,?_⟩,by(show l.length-(i+1)<l.length-i;omega),?_⟩
    ·exact nJ hR bH
    refine bk [0,3] [] ?_ ?_
    ·simp only[go_sem,aD ae hl,Int.natCast_add,Int.natCast_one]
    ·simp only[go_sem,aD ae hl,Int.natCast_add,Int.natCast_one]
  ·have rA:=HV iA bV hR h0
   have dZ:(i==0)=false:=by rw[beq_eq_false_iff_ne];omega
   obtain⟨dm,dw⟩:=bY h0
   repeat refine sq ?_
   refine dx hΓ hP [[],[],[0,1],[0,1,2],[0,1,2,3],[0,1,2,3,4],[0,1,2,3,4,5],[0,1,2,3,4,5,6],[0,1,2,3,4,5,6,7],[0,1,2,3,4,5,6,7],[0,1,2,3,4,5,6,7,8,9],[0,1,2,3,4,5,6,7,8,9,10],[0,1,2,3,4,5,6,7,8,9,10,11],[0,1,2,3,4,5,6,7,8,9,10,11,12],[0,1,2,3,4,5,6,7,8,9,10,11,12,13],[0,1,2,3,4,5,6,7,8,9,10,11,12,13,14],[0,1,2,3,4,5,6,7,8,9,10,11,12,13,14,15],[0,1,2,3,4,5,6,7,8,9,10,11,12,13,14,15,16],[0,1,2,3,4,5,6,7,8,9,10,11,12,13,14,15,16,17],[0,1,2,3,4,5,6,7,8,9,10,11,12,13,14,15,16,17,18],[0,1,2,3,4,5,6,7,8,9,10,11,12,13,14,15,16,17,18,19],[0,1,2,3,4,5,6,7,8,9,10,11,12,13,14,15,16,17,18,19],[0,1,2,3,4,5,6,7,8,9,10,11,12,13,14,15,16,17,18,19,20,21],[0,1,2,3,4,5,6,7,8,9,10,11,12,13,14,15,16,17,18,19,20,21,22],[0,1,2,3,4,5,6,7,8,9,10,11,12,13,14,15,16,17,18,19,20,21,22,23],[0,1,2,3,4,5,6,7,8,9,10,11,12,13,14,15,16,17,18,19],[0,1,2,3,4,5,6,7,8,9,10,11,12,13,14,15,16,17,18,19],[0,1,2,3,4,5,6,7,8,9,10,11,12,13,14,15,16,17,18,19,26],[0,1,2,3,4,5,6,7,8,9,10,11,12,13,14,15,16,17,18,19,25,26,27],[0,1,2,3,4,5,6,7,8,9,10,11,12,13,14,15,16,17,18,19,25,26,27,28],[0,1,2,3,4,5,6,7,8,9,10,11,12,13,14,15,16,17,18,19,25,26,27,28,29],[0,1,2,3,4,5,6,7,8,9,10,11,12,13,14,15,16,17,18,19,25,26,27,28,29,30],[0,1,2,3,4,5,6,7,8,9,10,11,12,13,14,15,16,17,18,19,20,21,22,23,24,25,26,27,28,29,30,31],[0,1,2,3,4,5,6,7,8,9,10,11,12,13,14,15,16,17,18,19,20,21,22,23,24,25,26,27,28,29,30,31,32],[0,1,2,3,4,5,6,7,8,9,10,11,12,13,14,15,16,17,18,19,20,21,22,23,24,25,26,27,28,29,30,31,32,33]] [0,3,44] [] (by kernel_rfl) (fun K' hK=>by simp only[go_sem,aI ae,Int.toNat_natCast,Int.natCast_nonneg,ai,rA,dZ,dm,dw,hp,aI ae,aI bV,Int.toNat_natCast,Int.natCast_nonneg,ai,tl,not_lt];(repeat (refine⟨by first | exact ob | exact fun _=>⟨dm,dw,rfl⟩ | exact fun _=>⟨dm,dw⟩,?_⟩));(first | refine⟨by rfl,?_⟩ | skip);exact hK _ (by simp only[go_sem]) (by simp only[go_sem]<;>rfl)) ?_
   repeat refine sq ?_
   refine au rfl rfl (fun hb=>?_) (fun hb=>?_)
   ·repeat refine sq ?_
    have bC:fI l i=false:=by simpa[dZ,<-Bool.or_assoc,hb]using eg.symm
    repeat refine sq ?_
    refine rx hΓ [2] [] (fun K' hK=>by simp only[go_sem,aI ae,Int.toNat_natCast,Int.natCast_nonneg,ai,rA,dZ,dm,dw];(repeat (refine⟨ob,?_⟩));exact hK _ (by simp only[go_sem]) (by simp only[go_sem]<;>rfl)) ?_
    refine an ?_
    simp only[go_sem]
    first | simp only[cf,ig ae bC,Bool.false_and] | (simp only[cf,hR,Bool.true_and];done) | (simp only[cf,hR,Bool.true_and];congr 2;apply propext;omega)
   ·repeat refine sq ?_
    have bH:fI l i=true:=by simpa[dZ,<-Bool.or_assoc,hb]using eg.symm
    refine av ?_
    refine ct ?_
    simp only[go_sem]
    refine kp [0,3] [] ?_
    repeat refine sq ?_
    refine aL hΓ fun K' hK=>?_
    simp only[go_sem,aI ae,Int.toNat_natCast,Int.natCast_nonneg,ai,rA,dZ,dm,dw]
    repeat (refine⟨ob,?_⟩)
    refine hK _ ?_
    clear K' hK
    simp only[go_sem]
    refine⟨i+1,⟨ae,?_⟩,by(show l.length-(i+1)<l.length-i;omega),?_⟩
    ·exact nJ hR bH
    refine bk [0,3] [] ?_ ?_
    ·simp only[go_sem,aD ae hl,Int.natCast_add,Int.natCast_one]
    ·simp only[go_sem,aD ae hl,Int.natCast_add,Int.natCast_one]
 ·have aW:i=l.length:=by
   have :¬ (i:Int)<l.length:=by simpa using hb
   omega
  clear hb
  subst aW
  repeat refine sq ?_
  refine b7 ?_
  simp only[go_sem]
  refine kp [0] [] ?_
  repeat refine sq ?_
  refine rs hΓ [2] [] ?_
  refine an ?_
  simp only[go_sem]
  first | simp only[cf,ig ae bC,Bool.false_and] | (simp only[cf,hR,Bool.true_and];done) | (simp only[cf,hR,Bool.true_and];congr 2;apply propext;omega)
theorem Kc:al Tryz.prog 88 S88:=Rp.sound
noncomputable def K2:List (Nat×Spec):=[(82,S82),(83,S83),(79,S79),(87,S87),(84,S84),(85,S85),(81,S81),(88,S88)]
theorem O4:∀ f s,tbl K2 f=some s->al Tryz.prog f s:=tc CG<|tc VO<|tc CI<|tc Kd<|tc yJ<|tc Ke<|tc CH<|tc Kc<|tn
attribute [go_sem] K2
theorem GR{s:Stk}{i p:Nat}(hp:p=(s.un.get i).length-1)(hz:((s.un.get i).length==0)=false)(bV:p<(s.un.get i).length):
 (!aY (s.se.get i) 0 99999||(!aY (s.ta.get i) 0 99999||(!cf (s.un.get i)||(((s.un.get i)[p]).no != s.se.get i))))=!fU s i:=by
 subst hp
 unfold fU
 rw[hz,getD_at bV]
 have :(((s.un.get i)[(s.un.get i).length-1]).no != s.se.get i)=!(((s.un.get i)[(s.un.get i).length-1]).no==s.se.get i):=rfl
 rw[this]
 cases aY (s.se.get i) 0 99999<;>cases aY (s.ta.get i) 0 99999<;>cases cf (s.un.get i)<;>cases ((s.un.get i)[(s.un.get i).length-1].no==s.se.get i)<;>rfl
theorem GQ{s:Stk}{i:Nat}(hz:((s.un.get i).length==0)=true):
 (!aY (s.se.get i) 0 99999||(!aY (s.ta.get i) 0 99999||!cf (s.un.get i)))=!fU s i:=by
 unfold fU
 rw[hz]
 cases aY (s.se.get i) 0 99999<;>cases aY (s.ta.get i) 0 99999<;>cases cf (s.un.get i)<;>rfl
def nz(me:Int)(s:Stk):Bool:=!fJ s.ho||(!((s.un.get me.toNat).length==0)||((s.se.get me.toNat != 0)||(s.ta.get me.toNat != 0)))
theorem dB{me:Int}{s:Stk}(aZ:aY me 0 5=true):c9 me s=(!nz me s&&iK 6 (fU s)):=by
 unfold c9 nz
 rw[aZ]
 have h1:(s.se.get me.toNat != 0)=!(s.se.get me.toNat==0):=rfl
 have h2:(s.ta.get me.toNat != 0)=!(s.ta.get me.toNat==0):=rfl
 rw[h1,h2]
 cases fJ s.ho<;>cases ((s.un.get me.toNat).length==0)<;>cases (s.se.get me.toNat==0)<;>cases (s.ta.get me.toNat==0)<;>rfl
noncomputable def P89:PSpec:=p2 iI fb (fun _ _=>True) (fun me s=>.bool (c9 me s)) true
noncomputable def S89:Spec:=P89.toSpec
attribute [go_sem] P89 S89
set_option maxHeartbeats 4000000 in
theorem Rn:aQ Tryz.prog 89 P89:=by
 refine w2 (rs:=[.tmp 4]) Tryz.func89 Tryz.ntmps89 (by rfl) (by kernel_rfl) (by decide) (fun _ _ _=>rfl) ⟨_,rfl,lb rfl,fun me s hp hw=>?_⟩
 have hP:=ba
 simp only[iI,fb]at hw |-
 have hΓ:=O4
 repeat refine sq ?_
 refine rs hΓ [0,3] [[3,0]] ?_
 refine aE (bz [3,0] (aB s) rfl [0,3] [[3,0]] ?_ rfl) ?_
 ·simp only[go_sem]
 simp only[go_sem]
 rcases aZ:aY me 0 5 with _ | _
 ·repeat refine sq ?_
  refine rx hΓ [3,37] [[3,0]] (fun K' hK=>by simp only[go_sem,aZ];(repeat (refine⟨ob,?_⟩));exact hK _ (by simp only[go_sem]) (by simp only[go_sem]<;>rfl)) ?_
  repeat refine sq ?_
  refine au rfl rfl (fun hb=>?_) (fun hb=>?_)
  ·repeat refine sq ?_
   refine rx hΓ [4] [] (fun K' hK=>by simp only[go_sem,aZ];(repeat (refine⟨ob,?_⟩));exact hK _ (by simp only[go_sem]) (by simp only[go_sem]<;>rfl)) ?_
   refine an ?_
   simp only[go_sem]
   first | (simp[c9,aZ];done) | (rw[dB aZ,cT];rfl) | (rw[dB aZ,cT,ig ae bC];rfl) | (rw[dB aZ,cT,hR];rfl)
  ·cases hb
 ·have hm:=dQ.1 aZ
  have hk:me.toNat<6:=by omega
  have ez:0<=me:=hm.1
  have dK:me<6:=by omega
  repeat refine sq ?_
  refine rx hΓ [3,37] [[3,0]] (fun K' hK=>by simp only[go_sem,aZ,ez,dK,cN s hk,dP s hk,dC s hk,dX];(repeat (refine⟨ob,?_⟩));exact hK _ (by simp only[go_sem]) (by simp only[go_sem]<;>rfl)) ?_
  repeat refine sq ?_
  refine au rfl rfl (fun hb=>?_) (fun hb=>?_)
  ·repeat refine sq ?_
   have cT:nz me s=true:=by simpa[nz,<-Bool.or_assoc]using hb
   repeat refine sq ?_
   refine rx hΓ [4] [] (fun K' hK=>by simp only[go_sem,aZ,ez,dK,cN s hk,dP s hk,dC s hk,dX];(repeat (refine⟨ob,?_⟩));exact hK _ (by simp only[go_sem]) (by simp only[go_sem]<;>rfl)) ?_
   refine an ?_
   simp only[go_sem]
   first | (simp[c9,aZ];done) | (rw[dB aZ,cT];rfl) | (rw[dB aZ,cT,ig ae bC];rfl) | (rw[dB aZ,cT,hR];rfl)
  ·repeat refine sq ?_
   have cT:nz me s=false:=by simpa[nz,<-Bool.or_assoc]using hb
   refine av ?_
   repeat refine sq ?_
   refine rx hΓ [3,39,40] [[3,0]] (fun K' hK=>by simp only[go_sem,aZ,ez,dK,cN s hk,dP s hk,dC s hk,dX];(repeat (refine⟨ob,?_⟩));exact hK _ (by simp only[go_sem]) (by simp only[go_sem]<;>rfl)) ?_
   repeat refine sq ?_
   refine aO ?_
   repeat refine sq ?_
   refine cv (fun z:Nat=>[(40,⟨true,.v (vInt z)⟩)]) (fun z=>[]) (fun z=>z<=6/\iK z (fU s)=true) (fun z=>6-z) 0 ?_ ?_ ?_ ?_
   ·exact⟨Nat.zero_le _,rfl⟩
   ·rfl
   ·rfl
   rintro i ⟨hi,hR⟩
   simp only[go_sem]
   repeat refine sq ?_
   refine rx hΓ [3,39,40,41] [[3,0]] (fun K' hK=>by simp only[go_sem,aZ,ez,dK,cN s hk,dP s hk,dC s hk,dX];(repeat (refine⟨ob,?_⟩));exact hK _ (by simp only[go_sem]) (by simp only[go_sem]<;>rfl)) ?_
   repeat refine sq ?_
   refine au rfl rfl (fun hb=>?_) (fun hb=>?_)
   ·have ae:i<6:=by have hq:(i:Int)<6:=(by simpa using hb);omega
    have ai:(i:Int)<6:=by omega
    clear hb
    obtain⟨p,hp,iA,bY⟩:=IW (l:=s.un.get i) (sP hw.2 ae)
    repeat refine sq ?_
    refine av ?_
    repeat refine sq ?_
    refine aO ?_
    repeat refine sq ?_
    refine rx hΓ [3,5,6,39,40] [[3,0]] (fun K' hK=>by simp only[go_sem,aZ,ez,dK,cN s hk,dP s hk,dC s hk,dX,Int.toNat_natCast,Int.natCast_nonneg,ai,bj.L_get s.un rowP default ae,Int.toNat_natCast,Int.natCast_nonneg,ai];(repeat (refine⟨ob,?_⟩));exact hK _ (by simp only[go_sem]) (by simp only[go_sem]<;>rfl)) ?_
    rcases hz:((s.un.get i).length==0)with _ | _
    ·obtain⟨bV,dm,dw⟩:=bY hz
     have eg:=GR iA hz bV
     repeat refine sq ?_
     refine dx hΓ hP [[],[],[0,1],[0,1,2],[0,1,2,3],[0,1,2,3,4],[0,1,2,3,4,5],[0,1,2,3,4,5,6],[0,1,2,3,4,5,6],[0,1,2,3,4,5,6,7,8],[0,1,2,3,4,5,6,7,8,9],[0,1,2,3,4,5,6,7,8,9,10],[0,1,2,3,4,5,6,7,8,9,10,11],[0,1,2,3,4,5,6,7,8,9,10,11,12],[0,1,2,3,4,5,6,7,8,9,10,11,12,13],[0,1,2,3,4,5,6,7,8,9,10,11,12,13,14],[0,1,2,3,4,5,6,7,8,9,10,11,12,13,14,15],[0,1,2,3,4,5,6,7,8,9,10,11,12,13,14,15,16],[0,1,2,3,4,5,6,7,8,9,10,11,12,13,14,15,16,17],[0,1,2,3,4,5,6,7,8,9,10,11,12,13,14,15,16,17,18],[0,1,2,3,4,5,6,7,8,9,10,11,12,13,14,15,16,17,18,19],[0,1,2,3,4,5,6,7,8,9,10,11,12,13,14,15,16,17,18,19,20],[0,1,2,3,4,5,6,7,8,9,10,11,12,13,14,15,16,17,18,19,20,21],[0,1,2,3,4,5,6,7,8,9,10,11,12,13,14,15,16,17,18,19,20,21,22],[0,1,2,3,4,5,6,7,8,9,10,11,12,13,14,15,16,17,18,19,20,21,22,23],[0,1,2,3,4,5,6,7,8,9,10,11,12,13,14,15,16,17,18,19,20,21,22,23],[0,1,2,3,4,5,6,7,8,9,10,11,12,13,14,15,16,17,18,19,20,21,22,23,25],[0,1,2,3,4,5,6,7,8,9,10,11,12,13,14,15,16,17,18,19,20,21,22,23,25,26],[0,1,2,3,4,5,6,7,8,9,10,11,12,13,14,15,16,17,18,19,20,21,22,23,24,25,26,27],[0,1,2,3,4,5,6,7,8,9,10,11,12,13,14,15,16,17,18,19,20,21,22,23,24,25,26,27,28],[0,1,2,3,4,5,6,7,8,9,10,11,12,13,14,15,16,17,18,19,20,21,22,23,24,25,26,27,28,29],[0,1,2,3,4,5,6,7,8,9,10,11,12,13,14,15,16,17,18,19,20,21,22,23],[0,1,2,3,4,5,6,7,8,9,10,11,12,13,14,15,16,17,18,19,20,21,22,23],[0,1,2,3,4,5,6,7,8,9,10,11,12,13,14,15,16,17,18,19,20,21,22,23,31,32],[0,1,2,3,4,5,6,7,8,9,10,11,12,13,14,15,16,17,18,19,20,21,22,23,31,32,33],[0,1,2,3,4,5,6,7,8,9,10,11,12,13,14,15,16,17,18,19,20,21,22,23,24,25,26,27,28,29,30,31,32,33,34],[0,1,2,3,4,5,6,7,8,9,10,11,12,13,14,15,16,17,18,19,20,21,22,23,24,25,26,27,28,29,30,31,32,33,34,35],[0,1,2,3,4,5,6,7,8,9,10,11,12,13,14,15,16,17,18,19,20,21,22,23,24,25,26,27,28,29,30,31,32,33,34,35,36]] [3,39,40,81] [[3,0]] (by kernel_rfl) (fun K' hK=>by simp only[go_sem,aZ,ez,dK,cN s hk,dP s hk,dC s hk,dX,Int.toNat_natCast,Int.natCast_nonneg,ai,hz,hp,dm,dw,aI bV,dP s ae,dC s ae,Int.toNat_natCast,Int.natCast_nonneg,ai,dX];(repeat (refine⟨by first | exact ob | exact⟨dm,dw,rfl⟩ | exact fun _=>⟨dm,dw,rfl⟩,?_⟩));(first | refine⟨by rfl,?_⟩ | skip);exact hK _ (by simp only[go_sem]) (by simp only[go_sem]<;>rfl)) ?_
     repeat refine sq ?_
     refine au rfl rfl (fun hb=>?_) (fun hb=>?_)
     ·repeat refine sq ?_
      have bC:fU s i=false:=by simpa[<-Bool.or_assoc,hb]using eg.symm
      repeat refine sq ?_
      refine rx hΓ [4] [] (fun K' hK=>by simp only[go_sem,aZ,ez,dK,cN s hk,dP s hk,dC s hk,dX,Int.toNat_natCast,Int.natCast_nonneg,ai,hz,hp,dm,dw,aI bV];(repeat (refine⟨ob,?_⟩));exact hK _ (by simp only[go_sem]) (by simp only[go_sem]<;>rfl)) ?_
      refine an ?_
      simp only[go_sem]
      first | (simp[c9,aZ];done) | (rw[dB aZ,cT];rfl) | (rw[dB aZ,cT,ig ae bC];rfl) | (rw[dB aZ,cT,hR];rfl)
     ·repeat refine sq ?_
      have bH:fU s i=true:=by simpa[<-Bool.or_assoc,hb]using eg.symm
      refine av ?_
      refine ct ?_
      simp only[go_sem]
      refine kp [3,39,40] [[3,0]] ?_
      repeat refine sq ?_
      refine aL hΓ fun K' hK=>?_
      simp only[go_sem,aZ,ez,dK,cN s hk,dP s hk,dC s hk,dX,Int.toNat_natCast,Int.natCast_nonneg,ai,hz,hp,dm,dw,aI bV]
      repeat (refine⟨ob,?_⟩)
      refine hK _ ?_
      clear K' hK
      simp only[go_sem]
      refine⟨i+1,⟨ae,?_⟩,by(show 6-(i+1)<6-i;omega),?_⟩
      ·exact nJ hR bH
      refine bk [3,39,40] [[3,0]] ?_ ?_
      ·simp only[go_sem,aD ae (lb rfl:(6:Nat)<=maxLen),Int.natCast_add,Int.natCast_one]
      ·simp only[go_sem,aD ae (lb rfl:(6:Nat)<=maxLen),Int.natCast_add,Int.natCast_one]
    ·have eg:=GQ hz
     repeat refine sq ?_
     refine dx hΓ hP [[],[],[0,1],[0,1,2],[0,1,2,3],[0,1,2,3,4],[0,1,2,3,4,5],[0,1,2,3,4,5,6],[0,1,2,3,4,5,6],[0,1,2,3,4,5,6,7,8],[0,1,2,3,4,5,6,7,8,9],[0,1,2,3,4,5,6,7,8,9,10],[0,1,2,3,4,5,6,7,8,9,10,11],[0,1,2,3,4,5,6,7,8,9,10,11,12],[0,1,2,3,4,5,6,7,8,9,10,11,12,13],[0,1,2,3,4,5,6,7,8,9,10,11,12,13,14],[0,1,2,3,4,5,6,7,8,9,10,11,12,13,14,15],[0,1,2,3,4,5,6,7,8,9,10,11,12,13,14,15,16],[0,1,2,3,4,5,6,7,8,9,10,11,12,13,14,15,16,17],[0,1,2,3,4,5,6,7,8,9,10,11,12,13,14,15,16,17,18],[0,1,2,3,4,5,6,7,8,9,10,11,12,13,14,15,16,17,18,19],[0,1,2,3,4,5,6,7,8,9,10,11,12,13,14,15,16,17,18,19,20],[0,1,2,3,4,5,6,7,8,9,10,11,12,13,14,15,16,17,18,19,20,21],[0,1,2,3,4,5,6,7,8,9,10,11,12,13,14,15,16,17,18,19,20,21,22],[0,1,2,3,4,5,6,7,8,9,10,11,12,13,14,15,16,17,18,19,20,21,22,23],[0,1,2,3,4,5,6,7,8,9,10,11,12,13,14,15,16,17,18,19,20,21,22,23],[0,1,2,3,4,5,6,7,8,9,10,11,12,13,14,15,16,17,18,19,20,21,22,23,25],[0,1,2,3,4,5,6,7,8,9,10,11,12,13,14,15,16,17,18,19,20,21,22,23,25,26],[0,1,2,3,4,5,6,7,8,9,10,11,12,13,14,15,16,17,18,19,20,21,22,23,24,25,26,27],[0,1,2,3,4,5,6,7,8,9,10,11,12,13,14,15,16,17,18,19,20,21,22,23,24,25,26,27,28],[0,1,2,3,4,5,6,7,8,9,10,11,12,13,14,15,16,17,18,19,20,21,22,23,24,25,26,27,28,29],[0,1,2,3,4,5,6,7,8,9,10,11,12,13,14,15,16,17,18,19,20,21,22,23],[0,1,2,3,4,5,6,7,8,9,10,11,12,13,14,15,16,17,18,19,20,21,22,23],[0,1,2,3,4,5,6,7,8,9,10,11,12,13,14,15,16,17,18,19,20,21,22,23,31,32],[0,1,2,3,4,5,6,7,8,9,10,11,12,13,14,15,16,17,18,19,20,21,22,23,31,32,33],[0,1,2,3,4,5,6,7,8,9,10,11,12,13,14,15,16,17,18,19,20,21,22,23,24,25,26,27,28,29,30,31,32,33,34],[0,1,2,3,4,5,6,7,8,9,10,11,12,13,14,15,16,17,18,19,20,21,22,23,24,25,26,27,28,29,30,31,32,33,34,35],[0,1,2,3,4,5,6,7,8,9,10,11,12,13,14,15,16,17,18,19,20,21,22,23,24,25,26,27,28,29,30,31,32,33,34,35,36]] [3,39,40,81] [[3,0]] (by kernel_rfl) (fun K' hK=>by simp only[go_sem,aZ,ez,dK,cN s hk,dP s hk,dC s hk,dX,Int.toNat_natCast,Int.natCast_nonneg,ai,hz,dP s ae,dC s ae,Int.toNat_natCast,Int.natCast_nonneg,ai,dX];(repeat (refine⟨by first | exact ob | exact⟨dm,dw,rfl⟩ | exact fun _=>⟨dm,dw,rfl⟩,?_⟩));(first | refine⟨by rfl,?_⟩ | skip);exact hK _ (by simp only[go_sem]) (by simp only[go_sem]<;>rfl)) ?_
     repeat refine sq ?_
     refine au rfl rfl (fun hb=>?_) (fun hb=>?_)
     ·repeat refine sq ?_
      have bC:fU s i=false:=by simpa[<-Bool.or_assoc,hb]using eg.symm
      repeat refine sq ?_
      refine rx hΓ [4] [] (fun K' hK=>by simp only[go_sem,aZ,ez,dK,cN s hk,dP s hk,dC s hk,dX,Int.toNat_natCast,Int.natCast_nonneg,ai,hz];(repeat (refine⟨ob,?_⟩));exact hK _ (by simp only[go_sem]) (by simp only[go_sem]<;>rfl)) ?_
      refine an ?_
      simp only[go_sem]
      first | (simp[c9,aZ];done) | (rw[dB aZ,cT];rfl) | (rw[dB aZ,cT,ig ae bC];rfl) | (rw[dB aZ,cT,hR];rfl)
     ·repeat refine sq ?_
      have bH:fU s i=true:=by simpa[<-Bool.or_assoc,hb]using eg.symm
      refine av ?_
      refine ct ?_
      simp only[go_sem]
      refine kp [3,39,40] [[3,0]] ?_
      repeat refine sq ?_
      refine aL hΓ fun K' hK=>?_
      simp only[go_sem,aZ,ez,dK,cN s hk,dP s hk,dC s hk,dX,Int.toNat_natCast,Int.natCast_nonneg,ai,hz]
      repeat (refine⟨ob,?_⟩)
      refine hK _ ?_
      clear K' hK
      simp only[go_sem]
      refine⟨i+1,⟨ae,?_⟩,by(show 6-(i+1)<6-i;omega),?_⟩
      ·exact nJ hR bH
      refine bk [3,39,40] [[3,0]] ?_ ?_
      ·simp only[go_sem,aD ae (lb rfl:(6:Nat)<=maxLen),Int.natCast_add,Int.natCast_one]
      ·simp only[go_sem,aD ae (lb rfl:(6:Nat)<=maxLen),Int.natCast_add,Int.natCast_one]
   ·have aW:i=6:=by
     have :¬ (i:Int)<6:=by simpa using hb
     omega
    clear hb
    subst aW
    repeat refine sq ?_
    refine b7 ?_
    simp only[go_sem]
    refine kp [] [] ?_
    repeat refine sq ?_
    refine rx hΓ [4] [] (fun K' hK=>by simp only[go_sem,aZ,ez,dK,cN s hk,dP s hk,dC s hk,dX];(repeat (refine⟨ob,?_⟩));exact hK _ (by simp only[go_sem]) (by simp only[go_sem]<;>rfl)) ?_
    refine an ?_
    simp only[go_sem]
    first | (simp[c9,aZ];done) | (rw[dB aZ,cT];rfl) | (rw[dB aZ,cT,ig ae bC];rfl) | (rw[dB aZ,cT,hR];rfl)
theorem CE:al Tryz.prog 89 S89:=Rn.sound
end Go.Eng
