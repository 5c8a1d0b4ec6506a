import Derived.Test.YtckmfkgppohnmaaDoorK16
import Derived.ProofKit
import Derived.Carry
import Derived.Lib.LaidTab
import Derived.LaidMore
import Derived.Stop.LaidErr
import Derived.Stop.Joined
import Derived.OpenShut
import Derived.Test.YtckmfkgppohnmaaDoorRows
import Derived.Test.YtckmfkgppohnmaaDoorChecked
import Derived.MakeChecks
import Derived.SevenTiedAt
import Derived.Test.YtckmfkgppohnmaaDoorCards
import Derived.Test.YtckmfkgppohnmaaDoorTie
/- papers sent to a parish are taken in the order in which they were sent, each just once, whatever bags are opened, in whatever order -/
set_option linter.all false
namespace Go.Eng
open Go Go.RowKit Go.ChangeShapes Go.WideShapes Go.ChangeAt
theorem Uf{P:Program}{n:Nat}{t:TypeId}{W:World}{r:Reach}{base:Nat}{v:Value}(hp:jR P n t=true)(h:Value.okWide P W r base t v):
 v.cells.size=P.cellsOf t/\(gZ P t=true->∃ cs,v=.agg cs)/\(gZ P t=false->v.cells= #[v]/\P.cellsOf t=1):=by
 cases n with
 |zero=>simp[jR]at hp
 |succ n=>
  unfold jR at hp
  unfold gZ
  rcases hu:P.underlying t with _ | u
  ·rw[hu]at hp;simp at hp
  rw[hu]at hp
  cases u with
  |bool=>
   obtain⟨b,rfl⟩:=okWide_bool hu h
   simp only[beq_iff_eq]at hp
   exact⟨by simp[Value.cells,hp],by simp,fun _=>⟨rfl,hp⟩⟩
  |int k=>
   obtain⟨b,rfl⟩:=okWide_int hu h
   simp only[beq_iff_eq]at hp
   exact⟨by simp[Value.cells,hp],by simp,fun _=>⟨rfl,hp⟩⟩
  |string=>
   obtain⟨b,rfl⟩:=okWide_string hu h
   simp only[beq_iff_eq]at hp
   exact⟨by simp[Value.cells,hp],by simp,fun _=>⟨rfl,hp⟩⟩
  |slice e=>
   obtain⟨a,len,cap,rfl⟩:=okWide_slice hu h
   simp only[Bool.and_eq_true,beq_iff_eq]at hp
   exact⟨by simp[Value.cells,hp.1.1.1],by simp,fun _=>⟨rfl,hp.1.1.1⟩⟩
  |struct fs=>
   simp only[Value.okWide,hu]at h
   obtain⟨cs,rfl,h2,_⟩:=h
   exact⟨h2,fun _=>⟨cs,rfl⟩,fun h=>by simp at h⟩
  |array m e=>
   simp only[Value.okWide,hu]at h
   obtain⟨cs,rfl,h2,_⟩:=h
   exact⟨h2,fun _=>⟨cs,rfl⟩,fun h=>by simp at h⟩
  |_=>simp at hp
def vf(P:Program)(n:Nat)(t:TypeId)(x:V):Prop:=∃ xs,c7 P n t xs/\x=l5 (gZ P t) xs
def sM(P:Program)(n:Nat):List TypeId->List V->Prop
 |[],xs=>xs=[]
 |t::r,xs=>∃ x ys,xs=x::ys/\vf P n t x/\sM P n r ys
theorem abR{H:Type}{enc:TypeId×Value->H}{P:Program}{w:World}{b0:Nat}{spare:Nat->Bool}{held:Bool}{n:Nat}{t:TypeId}{r:Reach}{base:Nat}{v:Value}{d:DataW H}{ps:List MemPlace}
 (hp:jR P n t=true) (h:Value.okWide P w r base t v) (ht:DataW.Trod enc P w b0 spare held t v d ps):∃ x,vf P n t x/\ay (jU w) x v:=by
 obtain⟨h1,h2,h3⟩:=Uf hp h
 obtain⟨fuel,hf⟩:=ht
 obtain⟨xs,k1,k2⟩:=xV n fuel t v.cells.toList _ hp (by simpa using h1) hf
 refine⟨l5 (gZ P t) xs,⟨xs,k1,rfl⟩,?_⟩
 cases ha:gZ P t with
 |true=>
  obtain⟨cs,rfl⟩:=h2 ha
  simp only[l5,if_true]
  refine .agg xs cs (by simpa[Value.cells]using k2.len) k2.one fun i h h'=>?_
  have :=k2.rep i h (by simpa[Value.cells]using h')
  simpa[Value.cells]using this
 |false=>
  obtain⟨h4,h5⟩:=h3 ha
  have hl:xs.length=1:=by rw[k2.len];simp[h4]
  match xs,hl with
  |[x],_=>
   have :=k2.rep 0 (by simp) (by simp[h4])
   simp only[l5,Bool.false_eq_true,if_false,List.getD_cons_zero]
   simpa[h4]using this
theorem Gk{H:Type}{enc:TypeId×Value->H}{P:Program}{w:World}{b0:Nat}{spare:Nat->Bool}{held:Bool}{n:Nat}{r:Reach}{base:Nat}:∀ {ts:List TypeId} {vs:List Value} {ds:List (DataW H)} {ps:List MemPlace},
 (∀ t∈ts,jR P n t=true)->(∀ (j:Nat) t v,ts[j]?=some t->vs[j]?=some v->Value.okWide P w r base t v)->DataW.TrodAll enc P w b0 spare held ts vs ds ps->∃ xs,sM P n ts xs/\qu (jU w) xs vs
 |[],vs,ds,ps,_,_,h=>by
  cases vs with
  |nil=>exact⟨[],rfl,rfl,fun i h=>by simp at h⟩
  |cons=>cases ds<;>simp[DataW.TrodAll]at h
 |t::ts,[],ds,ps,_,_,h=>by cases ds<;>simp[DataW.TrodAll]at h
 |t::ts,v::vs,[],ps,_,_,h=>by simp[DataW.TrodAll]at h
 |t::ts,v::vs,d::ds,ps,hp,hv,h=>by
  obtain⟨p,q,h1,h2,_⟩:=h
  obtain⟨x,k1,k2⟩:=abR (hp t (by simp)) (hv 0 t v rfl rfl) h1
  obtain⟨ys,k3,k4,k5⟩:=Gk (fun t ht=>hp t (by simp[ht])) (fun j t v h h'=>hv (j+1) t v (by simpa using h) (by simpa using h')) h2
  refine⟨x::ys,⟨x,ys,rfl,k1,k3⟩,by simp[k4],fun i hi bj=>?_⟩
  cases i with
  |zero=>exact k2
  |succ i=>exact k5 i (by simpa using hi) (by simpa using bj)
theorem Gj{H:Type}{enc:TypeId×Value->H}{P:Program}(hl:laidOutB P=true){W W':World}(hb:Below W.heap.size W W'):∀ {ts:List TypeId} {vs:List Value} {ds:List (DataW H)} {ps:List MemPlace},
 (∀ t∈ts,P.readableRec t=true/\t<P.types.size)->DataW.TrodAll enc P W 0 (fun _=>true) true ts vs ds ps->(∀ x∈ps,x.block<W.heap.size)->DataW.TrodAll enc P W' 0 (fun b=>decide (b<W.heap.size)) true ts vs ds ps
 |[],vs,ds,ps,_,h,_=>by
  cases vs<;>cases ds<;>simp_all[DataW.TrodAll]
 |t::ts,[],ds,ps,_,h,_=>by cases ds<;>simp[DataW.TrodAll]at h
 |t::ts,v::vs,[],ps,_,h,_=>by simp[DataW.TrodAll]at h
 |t::ts,v::vs,d::ds,ps,hr,h,ae=>by
  obtain⟨p,q,h1,h2,rfl⟩:=h
  exact⟨p,q,Below.trod hl (hr t (by simp)).1 (hr t (by simp)).2 h1 hb (fun x hx=>ae x (by simp[hx])),
   Gj hl hb (fun t ht=>hr t (by simp[ht])) h2 (fun x hx=>ae x (by simp[hx])),rfl⟩
theorem Bb{H:Type}{enc:TypeId×Value->H}{P:Program}{w:World}{b0:Nat}{spare:Nat->Bool}{held:Bool}:∀ {ts:List TypeId} {vs:List Value} {ds:List (DataW H)} {ps:List MemPlace},DataW.TrodAll enc P w b0 spare held ts vs ds ps->ds.length=ts.length
 |[],vs,ds,ps,h=>by cases vs<;>cases ds<;>simp_all[DataW.TrodAll]
 |t::ts,[],ds,ps,h=>by cases ds<;>simp[DataW.TrodAll]at h
 |t::ts,v::vs,[],ps,h=>by simp[DataW.TrodAll]at h
 |t::ts,v::vs,d::ds,ps,h=>by
  obtain⟨p,q,_,h2,_⟩:=h
  simp[Bb h2]
theorem af1{H:Type}{enc:TypeId×Value->H}{C:Checked}{os:Os}{f:FuncId}{fn:Func}{s:ChangeSpec}{conds:List PathCond}{n:Nat}{tb:TypeId}
 (own:ownKnob C.prog.godebug=none) (started:os.Started) (Cj:C.prog.inits.idxOf? f=none) (cV:C.prog.funcs[f]?=some fn)
 (witness:∃ (w:World) (tape:Tape) (i:Input),w.os=os/\(w.forCall tape i).Shaped C.prog/\i.vars=[]/\Input.okWide C.prog (w.forCall tape i) .any w.heap.size f i/\
   s.pre6 enc C.prog fn conds false (w.forCall tape i).memory i.args/\({}:Assume).holds C.prog (lone (Frame.enter C.prog f i.args .normal) [] (w.forCall tape i)))
 (hl:laidOutB C.prog=true) (eZ:∀ t∈fn.params.toList,jR C.prog n t=true/\C.prog.readableRec t=true/\t<C.prog.types.size) (ua:fn.resultTypes= #[tb]) (nw:C.prog.underlying tb=some .bool)
 (vV:s.vars=[]) (hs:∀ ds:List (DataW H),ds.length=fn.params.toList.length->(s.fn H ds).results=[.lit (.bool true)]/\(s.fn H ds).args=ds/\(s.fn H ds).vars=[])
 (r7:∀ (W:World) (args:Array Value) (xs:List V),sM C.prog n fn.params.toList xs->qu (jU W) xs args.toList->Calls C.prog f args W fun e W'=>e=.returned (.bool true)/\Below W.heap.size W W'):
 ReturnsInHanded {} C os f .any (s.pre6 enc C.prog fn conds false) (s.post enc C.prog fn false true false false):=by
 refine returnsInHanded_of_change own started Cj cV witness ?_
 intro W base args ds gs before cl hW _ _
 have r9:=hW
 obtain⟨p,q,hA,hV,rfl,_,_⟩:=hW
 rw[vV]at hV
 obtain⟨rfl,rfl⟩:=trodVars_none hV
 simp only[List.append_nil]at r9
 have ae:∀ y∈p,y.block<W.heap.size:=fun y hy=>by simpa using r9.lt y hy
 obtain⟨xs,h1,h2⟩:=Gk (vs:=args.toList) (ts:=fn.params.toList) (fun t ht=>(eZ t ht).1) (fun j t v h h'=>cl j t v (by simpa using h) (by simpa using h')) hA
 obtain⟨e1,e2,e3⟩:=hs ds (Bb hA)
 refine(r7 W args xs h1 h2).mono fun e W' ⟨he,hn⟩=>?_
 subst he
 refine⟨_,rfl,ds,[],p,[],p,[],r9,?_,?_,?_,hn.frame _,fun h=>by cases h⟩
 ·rw[List.append_nil,e1,ua]
  exact trodAll_mk1 (shut_bool nw _)
 ·rw[List.append_nil,e2]
  exact Gj hl hn (fun t ht=>(eZ t ht).2) hA ae
 ·rw[List.append_nil,e3,vV]
  rfl
theorem Va{H:Type}{enc:TypeId×Value->H}{C:Checked}{os:Os}{f:FuncId}{fn:Func}{s:ChangeSpec}{conds:List PathCond}{n:Nat}{tb:TypeId}{laid:List (String×DataW Unit)}
 (own:ownKnob C.prog.godebug=none) (started:os.Started) (Cj:C.prog.inits.idxOf? f=none) (cV:C.prog.funcs[f]?=some fn)
 (witness:∃ (w:World) (tape:Tape) (i:Input),w.os=os/\(w.forCall tape i).Shaped C.prog/\i.vars=[]/\Input.okWide C.prog (w.forCall tape i) .any w.heap.size f i/\
   ((s.pre enc C.prog fn conds false (w.forCall tape i).memory i.args/\laidMetH C.prog laid (w.forCall tape i).memory)/\sizedMet enc C.prog fn (OpenSpec.ofChange s) false (w.forCall tape i).memory i.args)/\({}:Assume).holds C.prog (lone (Frame.enter C.prog f i.args .normal) [] (w.forCall tape i)))
 (hT:∀ W:World,laidMetH C.prog laid W->jL W)
 (hl:laidOutB C.prog=true) (eZ:∀ t∈fn.params.toList,jR C.prog n t=true/\C.prog.readableRec t=true/\t<C.prog.types.size) (ua:fn.resultTypes= #[tb]) (nw:C.prog.underlying tb=some .bool)
 (vV:s.vars=[]) (hs:∀ ds:List (DataW H),ds.length=fn.params.toList.length->(s.fn H ds).results=[.lit (.bool true)]/\(s.fn H ds).args=ds/\(s.fn H ds).vars=[])
 (r7:∀ (W:World) (args:Array Value) (xs:List V),jL W->sM C.prog n fn.params.toList xs->qu (jU W) xs args.toList->Calls C.prog f args W fun e W'=>e=.returned (.bool true)/\Below W.heap.size W W'):
 ReturnsInHanded {} C os f .any (fun w args=>(s.pre enc C.prog fn conds false w args/\laidMetH C.prog laid w)/\sizedMet enc C.prog fn (OpenSpec.ofChange s) false w args) (s.post enc C.prog fn false true false false):=by
 refine returnsInHanded_of_change_and (X:=fun w _=>laidMetH C.prog laid w) (fun _ _ _ hh h=>h.of_heap hh) own started Cj cV witness ?_
 intro W base args ds gs before cl hW _ _ hL _
 have r9:=hW
 obtain⟨p,q,hA,hV,rfl,_,_⟩:=hW
 rw[vV]at hV
 obtain⟨rfl,rfl⟩:=trodVars_none hV
 simp only[List.append_nil]at r9
 have ae:∀ y∈p,y.block<W.heap.size:=fun y hy=>by simpa using r9.lt y hy
 obtain⟨xs,h1,h2⟩:=Gk (vs:=args.toList) (ts:=fn.params.toList) (fun t ht=>(eZ t ht).1) (fun j t v h h'=>cl j t v (by simpa using h) (by simpa using h')) hA
 obtain⟨e1,e2,e3⟩:=hs ds (Bb hA)
 refine(r7 W args xs (hT W hL) h1 h2).mono fun e W' ⟨he,hn⟩=>?_
 subst he
 refine⟨_,rfl,ds,[],p,[],p,[],r9,?_,?_,?_,hn.frame _,fun h=>by cases h⟩
 ·rw[List.append_nil,e1,ua]
  exact trodAll_mk1 (shut_bool nw _)
 ·rw[List.append_nil,e2]
  exact Gj hl hn (fun t ht=>(eZ t ht).2) hA ae
 ·rw[List.append_nil,e3,vV]
  rfl
end Go.Eng
set_option linter.constructorNameAsVariable false
namespace Go.Eng
open Go Go.Proofs Go.Proofs.YtckmfkgppohnmaaDoor Go.RowKit Go.ChangeShapes
theorem Wq:ownKnob Tryd.prog.godebug=none:=by kernel_rfl
theorem Wr:laidOutB Tryd.prog=true:=by kernel_rfl
noncomputable def vL:List (String×DataW Unit):=Rows.lendAllRow.laid
theorem MB:Tryd.prog.globalNamed "internal/strconv.uint64pow10" =some 0:=by kernel_rfl
theorem afw:(Rows.laid_internal_strconv_uint64pow10:DataW Unit)=Lib.tabData .u64 Lib.pow10Tab:=by rfl
theorem U6(W:World)(h:laidMetH Tryd.prog vL W):jL W:=by
 rw[MakeChecks.laidMetH_plain _ _ _ (by kernel_rfl)]at h
 have h2:laidMet Tryd.prog [("internal/strconv.uint64pow10",Lib.tabData .u64 Lib.pow10Tab)] W:=h.tail.tail
 have h3:Lib.TabIs Tryd.prog W "internal/strconv.uint64pow10" .u64 Lib.pow10Tab:=Lib.tabIs_of_head (t:=147) (e:=140) (n:=20) MB (by kernel_rfl) (by kernel_rfl) (by kernel_rfl) (by kernel_rfl) (by kernel_rfl) h2
 unfold Lib.TabIs World.var? at h3
 rw[MB]at h3
 simp only[Option.bind_some]at h3
 intro q hq
 have :q=(0,(Lib.pow10Tab.map fun z=>Value.int .u64 z).toArray):=by simpa[xH]using hq
 subst this
 split at h3
 ·rename_i cs T f hh
  cases h3
  exact⟨_,_,hh⟩
 ·cases h3
def FY:DataW Unit->Array Value
 | .agg l=>(l.map fun d=>match d with | .lit (.int k n)=>Value.int k n | _=>undef).toArray
 |_=> #[]
def putCells(cs:Array Value):Obj->Obj
 | .cells _ t f=>.cells cs t f
 |o=>o
noncomputable def Jf(os:Os):World:=
 let w0:=World.holding Tryd.prog os ⟨#[],#[],[]⟩
 { w0 with heap:=((w0.heap.modify 0 (putCells (FY Rows.laid_internal_strconv_uint64pow10))).modify 1 (putCells (FY Rows.laid_math_bits_deBruijn32tab))).modify 2 (putCells (FY Rows.laid_math_bits_deBruijn64tab)) }
theorem U5(os:Os)(args:Array Value):laidMetH Tryd.prog vL ((Jf os).forCall (fun _ _=>0) ⟨#[],args,[]⟩).memory:=by
 rw[MakeChecks.laidMetH_plain _ _ _ (by kernel_rfl)]
 exact laidMet_of_run' 8 (by kernel_rfl) (by kernel_rfl)
end Go.Eng
set_option linter.constructorNameAsVariable false
set_option maxRecDepth 100000
namespace Go.Eng
open Go Go.Proofs
theorem ib{n:Nat}{xs:List V}(h:c7 Tryd.prog (n+1) 3 xs):∃ k,xs=[vInt k]/\(Lit.int .i64 k).wf=true:=by
 unfold c7 at h
 simp only[Tryd.underlying3]at h
 exact h
theorem abW:gZ Tryd.prog 3=false:=by kernel_rfl
theorem abV:gZ Tryd.prog 75=true:=by kernel_rfl
theorem I7{α β:Type}{f:α->β}{P:β->Prop}(h:∀ y,P y->∃ x,y=f x):∀ {l:List β},(∀ y∈l,P y)->∃ m:List α,l=m.map f
 |[],_=>⟨[],rfl⟩
 |y::r,hl=>by
  obtain⟨x,rfl⟩:=h y (hl y (by simp))
  obtain⟨m,rfl⟩:=I7 h (l:=r) fun z hz=>hl z (by simp[hz])
  exact⟨x::m,rfl⟩
theorem Hk{n:Nat}{T e:TypeId}{xs:List V}{α:Type}{f:α->V}(hu:Tryd.prog.underlying T=some (.slice e))(h:c7 Tryd.prog (n+1) T xs)
 (he:∀ ys,c7 Tryd.prog n e ys->∃ a,l5 (gZ Tryd.prog e) ys=f a):∃ l:List α,xs=[.sl (l.map f)]:=by
 unfold c7 at h
 simp only[hu]at h
 obtain⟨ls,rfl,_,h3⟩:=h
 obtain⟨m,hm⟩:=I7 (f:=f) (P:=fun y=>∃ d,y=f d) (fun y h=>h) (l:=ls.map (l5 (gZ Tryd.prog e))) fun y hy=>by
  obtain⟨z,hz,rfl⟩:=List.mem_map.1 hy
  exact he z (h3 z hz)
 exact⟨m,by rw[hm]⟩
theorem Ho{n:Nat}{xs:List V}(h:c7 Tryd.prog (n+2) 34 xs):∃ l:List Int,xs=[.sl (l.map vInt)]:=
 Hk Tryd.underlying34 h fun ys hy=>by
  obtain⟨k,rfl,_⟩:=ib hy
  rw[abW]
  exact⟨k,rfl⟩
theorem Ru{n:Nat}{xs:List V}(h:c7 Tryd.prog (n+2) 75 xs):∃ p:Par,xs=[vInt p.no,vInt p.pa]:=by
 unfold c7 at h
 simp only[Tryd.underlying75]at h
 obtain⟨x,y,rfl,h1,x2,y2,rfl,h2,rfl⟩:=h
 obtain⟨a,rfl,_⟩:=ib h1
 obtain⟨b,rfl,_⟩:=ib h2
 exact⟨⟨a,b⟩,rfl⟩
theorem qF{n:Nat}{xs:List V}(h:c7 Tryd.prog (n+3) 35 xs):∃ l:List Par,xs=[.sl (l.map encPa)]:=
 Hk Tryd.underlying35 h fun ys hy=>by
  obtain⟨p,rfl⟩:=Ru hy
  rw[abV]
  exact⟨p,rfl⟩
theorem Rz{n:Nat}{xs:List V}(h:c7 Tryd.prog (n+4) 36 xs):∃ u:aR (List Par),xs=u.L rowP:=by
 unfold c7 at h
 simp only[Tryd.underlying36]at h
 obtain⟨x1,y1,rfl,h1,x2,y2,rfl,h2,x3,y3,rfl,h3,x4,y4,rfl,h4,x5,y5,rfl,h5,x6,y6,rfl,h6,rfl⟩:=h
 obtain⟨a,rfl⟩:=qF h1
 obtain⟨b,rfl⟩:=qF h2
 obtain⟨c,rfl⟩:=qF h3
 obtain⟨d,rfl⟩:=qF h4
 obtain⟨e,rfl⟩:=qF h5
 obtain⟨f,rfl⟩:=qF h6
 exact⟨⟨a,b,c,d,e,f⟩,rfl⟩
theorem Hn{n:Nat}{xs:List V}(h:c7 Tryd.prog (n+2) 37 xs):∃ u:aR Int,xs=u.L vInt:=by
 unfold c7 at h
 simp only[Tryd.underlying37]at h
 obtain⟨x1,y1,rfl,h1,x2,y2,rfl,h2,x3,y3,rfl,h3,x4,y4,rfl,h4,x5,y5,rfl,h5,x6,y6,rfl,h6,rfl⟩:=h
 obtain⟨a,rfl,_⟩:=ib h1
 obtain⟨b,rfl,_⟩:=ib h2
 obtain⟨c,rfl,_⟩:=ib h3
 obtain⟨d,rfl,_⟩:=ib h4
 obtain⟨e,rfl,_⟩:=ib h5
 obtain⟨f,rfl,_⟩:=ib h6
 exact⟨⟨a,b,c,d,e,f⟩,rfl⟩
theorem Hm{n:Nat}{xs:List V}(h:c7 Tryd.prog (n+5) 39 xs):∃ s:Stk,xs=aA s:=by
 unfold c7 at h
 simp only[Tryd.underlying39]at h
 obtain⟨x1,y1,rfl,h1,x2,y2,rfl,h2,x3,y3,rfl,h3,x4,y4,rfl,h4,rfl⟩:=h
 obtain⟨a,rfl⟩:=Ho h1
 obtain⟨b,rfl⟩:=Rz h2
 obtain⟨c,rfl⟩:=Hn h3
 obtain⟨d,rfl⟩:=Hn h4
 exact⟨⟨a,b,c,d⟩,by rw[List.append_nil];rfl⟩
theorem Hl{n:Nat}{xs:List V}(h:c7 Tryd.prog (n+6) 41 xs):∃ p:Pg,xs=cC p:=by
 unfold c7 at h
 simp only[Tryd.underlying41]at h
 obtain⟨x1,y1,rfl,h1,x2,y2,rfl,h2,x3,y3,rfl,h3,rfl⟩:=h
 obtain⟨a,rfl,_⟩:=ib h1
 obtain⟨b,rfl⟩:=Hm h2
 obtain⟨c,rfl,_⟩:=ib h3
 exact⟨⟨a,b,c⟩,by rw[List.append_nil];rfl⟩
theorem Ry{n:Nat}{xs:List V}(h:c7 Tryd.prog (n+7) 42 xs):∃ p q:Pg,xs=cC p++cC q:=by
 unfold c7 at h
 simp only[Tryd.underlying42]at h
 obtain⟨x1,y1,rfl,h1,x2,y2,rfl,h2,rfl⟩:=h
 obtain⟨a,rfl⟩:=Hl h1
 obtain⟨b,rfl⟩:=Hl h2
 exact⟨a,b,by rw[List.append_nil]⟩
theorem Rx{n:Nat}{xs:List V}(h:c7 Tryd.prog (n+8) 44 xs):∃ d:Dk,xs=an d:=by
 unfold c7 at h
 simp only[Tryd.underlying44]at h
 obtain⟨x1,y1,rfl,h1,x2,y2,rfl,h2,x3,y3,rfl,h3,x4,y4,rfl,h4,rfl⟩:=h
 obtain⟨a,rfl,_⟩:=ib h1
 obtain⟨b,rfl⟩:=Hm h2
 obtain⟨p,q,rfl⟩:=Ry h3
 obtain⟨c,rfl,_⟩:=ib h4
 exact⟨⟨a,b,p,q,c⟩,by rw[List.append_nil,List.append_assoc];rfl⟩
theorem Rw{n:Nat}{xs:List V}(h:c7 Tryd.prog (n+4) 54 xs):∃ b:Bag,xs=aX b:=by
 unfold c7 at h
 simp only[Tryd.underlying54]at h
 obtain⟨x1,y1,rfl,h1,x2,y2,rfl,h2,x3,y3,rfl,h3,x4,y4,rfl,h4,rfl⟩:=h
 obtain⟨a,rfl,_⟩:=ib h1
 obtain⟨b,rfl,_⟩:=ib h2
 obtain⟨c,rfl⟩:=qF h3
 obtain⟨d,rfl,_⟩:=ib h4
 exact⟨⟨a,b,c,d⟩,by rw[List.append_nil];rfl⟩
theorem Rv{n:Nat}{xs:List V}(h:c7 Tryd.prog (n+2) 76 xs):∃ a b,xs=[vInt a,vInt b]:=by
 unfold c7 at h
 simp only[Tryd.underlying76]at h
 obtain⟨x1,y1,rfl,h1,x2,y2,rfl,h2,rfl⟩:=h
 obtain⟨a,rfl,_⟩:=ib h1
 obtain⟨b,rfl,_⟩:=ib h2
 exact⟨a,b,rfl⟩
theorem ab0:gZ Tryd.prog 44=true:=by kernel_rfl
theorem abZ:gZ Tryd.prog 54=true:=by kernel_rfl
theorem abY:gZ Tryd.prog 76=true:=by kernel_rfl
theorem ah2{x:V}(h:vf Tryd.prog 9 44 x):∃ d:Dk,x=kS d:=by
 obtain⟨xs,h1,rfl⟩:=h
 rw[ab0]
 obtain⟨d,rfl⟩:=Rx h1
 exact⟨d,rfl⟩
theorem ah1{x:V}(h:vf Tryd.prog 9 54 x):∃ b:Bag,x=kT b:=by
 obtain⟨xs,h1,rfl⟩:=h
 rw[abZ]
 obtain⟨b,rfl⟩:=Rw h1
 exact⟨b,rfl⟩
theorem ah0{x:V}(h:vf Tryd.prog 9 76 x):∃ a b,x=.agg [vInt a,vInt b]:=by
 obtain⟨xs,h1,rfl⟩:=h
 rw[abY]
 obtain⟨a,b,rfl⟩:=Rv h1
 exact⟨a,b,rfl⟩
end Go.Eng
set_option linter.constructorNameAsVariable false
set_option maxRecDepth 100000
namespace Go.Eng
open Go Go.Proofs Go.Proofs.YtckmfkgppohnmaaDoor Go.RowKit Go.ChangeShapes
theorem abe{f:FuncId}{s:PSpec}(h:aZ Tryd.prog f s){W:World}{args:Array Value}{xs:List V}(ht:jL W)(hr:qu (jU W) xs args.toList)(hp:s.pre xs)(hv:s.fn xs=.bool true):
 Calls Tryd.prog f args W fun e W'=>e=.returned (.bool true)/\RowKit.Below W.heap.size W W':=by
 refine(h.calls (jU W) W xs args ht (fun b off v hv=>hv) hr hp).mono ?_
 rintro e W' ⟨v,m',rfl,hb,_,_,h⟩
 rw[hv]at h
 cases h
 exact⟨rfl,hb⟩
theorem U8(hc:∀ (W:World) (args:Array Value) (xs:List V),jL W->sM Tryd.prog 9 Tryd.f4.params.toList xs->qu (jU W) xs args.toList->Calls Tryd.prog 4 args W fun e W'=>e=.returned (.bool true)/\Below W.heap.size W W')
 (os:Os) (started:os.Started) (H:Type) (enc:TypeId×Value->H):
 ReturnsInHanded {} Tryd.checked os 4 .any (fun w args=>(Rows.lendOrderSpec.pre enc Tryd.prog Tryd.f4 [] false w args/\laidMetH Tryd.prog vL w)/\sizedMet enc Tryd.prog Tryd.f4 (OpenSpec.ofChange Rows.lendOrderSpec) false w args)
  (Rows.lendOrderSpec.post enc Tryd.prog Tryd.f4 false true false false):=by
 refine Va (C:=Tryd.checked) (n:=9) (tb:=4) (laid:=vL) Wq started (by kernel_rfl) Tryd.func4
  (ChangeSpec.witness_shaped (enc:=enc) (C:=Tryd.checked) (os:=os) (X:=fun w _=>laidMetH Tryd.prog vL w) false (Jf os) #[.slice none 0 0,.slice none 0 0] 8 rfl (World.shaped_of_RefB (by kernel_rfl) (by kernel_rfl)) (by kernel_rfl) (by kernel_rfl) (by kernel_rfl) (U5 os _))
  U6 Wr ?_ (by kernel_rfl) (by kernel_rfl) rfl ?_ hc
 ·have h:(Tryd.f4.params.toList.all fun t=>jR Tryd.prog 9 t&&Tryd.prog.readableRec t&&decide (t<Tryd.prog.types.size))=true:=by kernel_rfl
  intro t ht
  have :=List.all_eq_true.1 h t ht
  simp only[Bool.and_eq_true,decide_eq_true_eq]at this
  exact⟨this.1.1,this.1.2,this.2⟩
 ·intro ds mo
  have hl:Tryd.f4.params.toList.length=2:=by kernel_rfl
  rw[hl]at mo
  match ds,mo with
  |[d1,d2],_=>exact⟨rfl,rfl,rfl⟩
theorem U7(hc:∀ (W:World) (args:Array Value) (xs:List V),jL W->sM Tryd.prog 9 Tryd.f4.params.toList xs->qu (jU W) xs args.toList->Calls Tryd.prog 4 args W fun e W'=>e=.returned (.bool true)/\Below W.heap.size W W'):
 Rows.LendOrderSaid:=
 OpenClaim.holds_of_wide 4 Tryd.f4 rfl rfl rfl rfl rfl rfl rfl ⟨rfl,rfl,rfl,rfl,rfl⟩ rfl rfl rfl rfl rfl (by kernel_rfl) Tryd.func4 (by kernel_rfl)
  (of_decide_eq_true (by kernel_rfl)) (by unfold Func.isWrapper;first | (rw[if_pos (by decide+kernel)];kernel_rfl) | (rw[if_neg (by decide+kernel)];exact⟨rfl,rfl⟩))
  (fun os started H enc _=>U8 hc os started H enc)
theorem U9(h:Rows.LendOrderSaid):Rows.LendOrderCardSaid:=
 Claim7.holds_tied_plain_at .later [] [.data,.data,.data] true (true, "28cfda519c54781c81308c4dc0b3570512b8921263a288a3040a4d524312a115") false
  h (fun _ h=>by cases h) (by kernel_rfl) (fun _ h=>by cases h) lendOrder_row_tie rfl ⟨rfl,rfl⟩ (by kernel_rfl) rfl
  (fun f fn hf cV=>by
    obtain rfl:f=4:=Option.some.inj ((show Tryd.prog.funcNamed "parvise/parviselaw09.LendOrder" =some 4 by kernel_rfl).symm.trans hf)|>.symm
    obtain rfl:fn=Tryd.f4:=(Option.some.inj (Tryd.func4.symm.trans cV)).symm
    exact⟨by kernel_rfl,fun j t ht=>by
     have dP:(Tryd.f4.params.toList.all fun t=>!Tryd.prog.wantsStandIn t)=true:=by kernel_rfl
     have hm:t∈Tryd.f4.params.toList:=by
      obtain⟨hj,e⟩:=Array.getElem?_eq_some_iff.1 ht
      rw[<-e]
      exact Array.getElem_mem_toList hj
     have :=List.all_eq_true.1 dP t hm
     have h1:Tryd.prog.wantsStandIn t=false:=by simpa using this
     exact h1⟩)
  (by kernel_rfl)
end Go.Eng
set_option linter.constructorNameAsVariable false
set_option maxRecDepth 100000
namespace Go.Eng
open Go Go.Proofs Go.Proofs.YtckmfkgppohnmaaDoor
theorem abX:gZ Tryd.prog 34=false:=by kernel_rfl
theorem O2{x:V}(h:vf Tryd.prog 9 34 x):∃ l:List Int,x=.sl (l.map vInt):=by
 obtain⟨xs,h1,rfl⟩:=h
 rw[abX]
 obtain⟨l,rfl⟩:=Ho h1
 exact⟨l,rfl⟩
theorem lendOrder_holds:Rows.LendOrderCardSaid:=
 U9<|U7 fun W args xs ht ha hr=>by
  obtain⟨x,ys,rfl,h1,y,zs,rfl,h2,rfl⟩:=(show sM Tryd.prog 9 [34,34] xs from ha)
  obtain⟨l,rfl⟩:=O2 h1
  obtain⟨pk,rfl⟩:=O2 h2
  exact abe HD ht hr ⟨congrArg dJ.enc (FE l),congrArg dJ.enc (FE pk),trivial⟩ rfl
end Go.Eng
namespace Go.Proofs.YtckmfkgppohnmaaDoor
theorem lendOrderCard_holds : Rows.LendOrderCardSaid := Go.Eng.lendOrder_holds
end Go.Proofs.YtckmfkgppohnmaaDoor
#print axioms Go.Proofs.YtckmfkgppohnmaaDoor.lendOrderCard_holds
