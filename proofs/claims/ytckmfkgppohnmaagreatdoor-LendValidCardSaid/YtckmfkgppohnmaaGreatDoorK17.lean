import Derived.Test.YtckmfkgppohnmaaGreatDoorK16
import Derived.ProofKit
import Derived.Carry
import Derived.Lib.LaidTab
import Derived.LaidMore
import Derived.Stop.LaidErr
import Derived.Stop.Joined
import Derived.OpenShut
import Derived.Test.YtckmfkgppohnmaaGreatDoorRows
import Derived.Test.YtckmfkgppohnmaaGreatDoorChecked
import Derived.MakeChecks
import Derived.SevenTiedAt
import Derived.Test.YtckmfkgppohnmaaGreatDoorCards
import Derived.Test.YtckmfkgppohnmaaGreatDoorTie
/- What is done to a valid desk is one; the firm page changes by Write, Dry and Flood alone, and never to one with a lesser count; a bag that is opened twice changes nothing the second time; no conditions. -/
set_option linter.all false
namespace Go.Eng
open Go Go.RowKit Go.ChangeShapes Go.WideShapes Go.ChangeAt
theorem Tp{P:Program}{n:Nat}{t:TypeId}{W:World}{r:Reach}{base:Nat}{v:Value}(hp:kz P n t=true)(h:Value.okWide P W r base t v):
 v.cells.size=P.cellsOf t/\(im P t=true->∃ cs,v=.agg cs)/\(im P t=false->v.cells= #[v]/\P.cellsOf t=1):=by
 cases n with
 |zero=>simp[kz]at hp
 |succ n=>
  unfold kz at hp
  unfold im
  rcases hu:P.underlying t with _ | u
  ·rw[hu]at hp;simp at hp
  rw[hu]at hp
  cases u with
  |bool=>
   obtain⟨b,rfl⟩:=okWide_bool hu h
   simp only[beq_iff_eq]at hp
   exact⟨by simp[Value.cells,hp],by simp,fun _=>⟨rfl,hp⟩⟩
  |int k=>
   obtain⟨b,rfl⟩:=okWide_int hu h
   simp only[beq_iff_eq]at hp
   exact⟨by simp[Value.cells,hp],by simp,fun _=>⟨rfl,hp⟩⟩
  |string=>
   obtain⟨b,rfl⟩:=okWide_string hu h
   simp only[beq_iff_eq]at hp
   exact⟨by simp[Value.cells,hp],by simp,fun _=>⟨rfl,hp⟩⟩
  |slice e=>
   obtain⟨a,len,cap,rfl⟩:=okWide_slice hu h
   simp only[Bool.and_eq_true,beq_iff_eq]at hp
   exact⟨by simp[Value.cells,hp.1.1.1],by simp,fun _=>⟨rfl,hp.1.1.1⟩⟩
  |struct fs=>
   simp only[Value.okWide,hu]at h
   obtain⟨cs,rfl,h2,_⟩:=h
   exact⟨h2,fun _=>⟨cs,rfl⟩,fun h=>by simp at h⟩
  |array m e=>
   simp only[Value.okWide,hu]at h
   obtain⟨cs,rfl,h2,_⟩:=h
   exact⟨h2,fun _=>⟨cs,rfl⟩,fun h=>by simp at h⟩
  |_=>simp at hp
def xl(P:Program)(n:Nat)(t:TypeId)(x:V):Prop:=∃ xs,eX P n t xs/\x=l4 (im P t) xs
def uV(P:Program)(n:Nat):List TypeId->List V->Prop
 |[],xs=>xs=[]
 |t::r,xs=>∃ x ys,xs=x::ys/\xl P n t x/\uV P n r ys
theorem abo{H:Type}{enc:TypeId×Value->H}{P:Program}{w:World}{b0:Nat}{spare:Nat->Bool}{held:Bool}{n:Nat}{t:TypeId}{r:Reach}{base:Nat}{v:Value}{d:DataW H}{ps:List MemPlace}
 (hp:kz P n t=true) (h:Value.okWide P w r base t v) (ht:DataW.Trod enc P w b0 spare held t v d ps):∃ x,xl P n t x/\aC (kF w) x v:=by
 obtain⟨h1,h2,h3⟩:=Tp hp h
 obtain⟨fuel,hf⟩:=ht
 obtain⟨xs,k1,k2⟩:=xS n fuel t v.cells.toList _ hp (by simpa using h1) hf
 refine⟨l4 (im P t) xs,⟨xs,k1,rfl⟩,?_⟩
 cases ha:im P t with
 |true=>
  obtain⟨cs,rfl⟩:=h2 ha
  simp only[l4,if_true]
  refine .agg xs cs (by simpa[Value.cells]using k2.len) k2.one fun i h h'=>?_
  have :=k2.rep i h (by simpa[Value.cells]using h')
  simpa[Value.cells]using this
 |false=>
  obtain⟨h4,h5⟩:=h3 ha
  have hl:xs.length=1:=by rw[k2.len];simp[h4]
  match xs,hl with
  |[x],_=>
   have :=k2.rep 0 (by simp) (by simp[h4])
   simp only[l4,Bool.false_eq_true,if_false,List.getD_cons_zero]
   simpa[h4]using this
theorem Oq{H:Type}{enc:TypeId×Value->H}{P:Program}{w:World}{b0:Nat}{spare:Nat->Bool}{held:Bool}{n:Nat}{r:Reach}{base:Nat}:∀ {ts:List TypeId} {vs:List Value} {ds:List (DataW H)} {ps:List MemPlace},
 (∀ t∈ts,kz P n t=true)->(∀ (j:Nat) t v,ts[j]?=some t->vs[j]?=some v->Value.okWide P w r base t v)->DataW.TrodAll enc P w b0 spare held ts vs ds ps->∃ xs,uV P n ts xs/\sJ (kF w) xs vs
 |[],vs,ds,ps,_,_,h=>by
  cases vs with
  |nil=>exact⟨[],rfl,rfl,fun i h=>by simp at h⟩
  |cons=>cases ds<;>simp[DataW.TrodAll]at h
 |t::ts,[],ds,ps,_,_,h=>by cases ds<;>simp[DataW.TrodAll]at h
 |t::ts,v::vs,[],ps,_,_,h=>by simp[DataW.TrodAll]at h
 |t::ts,v::vs,d::ds,ps,hp,hv,h=>by
  obtain⟨p,q,h1,h2,_⟩:=h
  obtain⟨x,k1,k2⟩:=abo (hp t (by simp)) (hv 0 t v rfl rfl) h1
  obtain⟨ys,k3,k4,k5⟩:=Oq (fun t ht=>hp t (by simp[ht])) (fun j t v h h'=>hv (j+1) t v (by simpa using h) (by simpa using h')) h2
  refine⟨x::ys,⟨x,ys,rfl,k1,k3⟩,by simp[k4],fun i hi bx=>?_⟩
  cases i with
  |zero=>exact k2
  |succ i=>exact k5 i (by simpa using hi) (by simpa using bx)
theorem Oo{H:Type}{enc:TypeId×Value->H}{P:Program}(hl:laidOutB P=true){W W':World}(hb:Below W.heap.size W W'):∀ {ts:List TypeId} {vs:List Value} {ds:List (DataW H)} {ps:List MemPlace},
 (∀ t∈ts,P.readableRec t=true/\t<P.types.size)->DataW.TrodAll enc P W 0 (fun _=>true) true ts vs ds ps->(∀ x∈ps,x.block<W.heap.size)->DataW.TrodAll enc P W' 0 (fun b=>decide (b<W.heap.size)) true ts vs ds ps
 |[],vs,ds,ps,_,h,_=>by
  cases vs<;>cases ds<;>simp_all[DataW.TrodAll]
 |t::ts,[],ds,ps,_,h,_=>by cases ds<;>simp[DataW.TrodAll]at h
 |t::ts,v::vs,[],ps,_,h,_=>by simp[DataW.TrodAll]at h
 |t::ts,v::vs,d::ds,ps,hr,h,ae=>by
  obtain⟨p,q,h1,h2,rfl⟩:=h
  exact⟨p,q,Below.trod hl (hr t (by simp)).1 (hr t (by simp)).2 h1 hb (fun x hx=>ae x (by simp[hx])),
   Oo hl hb (fun t ht=>hr t (by simp[ht])) h2 (fun x hx=>ae x (by simp[hx])),rfl⟩
theorem GC{H:Type}{enc:TypeId×Value->H}{P:Program}{w:World}{b0:Nat}{spare:Nat->Bool}{held:Bool}:∀ {ts:List TypeId} {vs:List Value} {ds:List (DataW H)} {ps:List MemPlace},DataW.TrodAll enc P w b0 spare held ts vs ds ps->ds.length=ts.length
 |[],vs,ds,ps,h=>by cases vs<;>cases ds<;>simp_all[DataW.TrodAll]
 |t::ts,[],ds,ps,h=>by cases ds<;>simp[DataW.TrodAll]at h
 |t::ts,v::vs,[],ps,h=>by simp[DataW.TrodAll]at h
 |t::ts,v::vs,d::ds,ps,h=>by
  obtain⟨p,q,_,h2,_⟩:=h
  simp[GC h2]
theorem Up{H:Type}{enc:TypeId×Value->H}{C:Checked}{os:Os}{f:FuncId}{fn:Func}{s:ChangeSpec}{conds:List PathCond}{n:Nat}{tb:TypeId}{laid:List (String×DataW Unit)}
 (own:ownKnob C.prog.godebug=none) (started:os.Started) (Tx:C.prog.inits.idxOf? f=none) (dL:C.prog.funcs[f]?=some fn)
 (witness:∃ (w:World) (tape:Tape) (i:Input),w.os=os/\(w.forCall tape i).Shaped C.prog/\i.vars=[]/\Input.okWide C.prog (w.forCall tape i) .any w.heap.size f i/\
   ((s.pre enc C.prog fn conds false (w.forCall tape i).memory i.args/\laidMetH C.prog laid (w.forCall tape i).memory)/\sizedMet enc C.prog fn (OpenSpec.ofChange s) false (w.forCall tape i).memory i.args)/\({}:Assume).holds C.prog (lone (Frame.enter C.prog f i.args .normal) [] (w.forCall tape i)))
 (hT:∀ W:World,laidMetH C.prog laid W->jQ W)
 (hl:laidOutB C.prog=true) (fZ:∀ t∈fn.params.toList,kz C.prog n t=true/\C.prog.readableRec t=true/\t<C.prog.types.size) (zc:fn.resultTypes= #[tb]) (pI:C.prog.underlying tb=some .bool)
 (KC:s.vars=[]) (hs:∀ ds:List (DataW H),ds.length=fn.params.toList.length->(s.fn H ds).results=[.lit (.bool true)]/\(s.fn H ds).args=ds/\(s.fn H ds).vars=[])
 (wu:∀ (W:World) (args:Array Value) (xs:List V),jQ W->uV C.prog n fn.params.toList xs->sJ (kF W) xs args.toList->Calls C.prog f args W fun e W'=>e=.returned (.bool true)/\Below W.heap.size W W'):
 ReturnsInHanded {} C os f .any (fun w args=>(s.pre enc C.prog fn conds false w args/\laidMetH C.prog laid w)/\sizedMet enc C.prog fn (OpenSpec.ofChange s) false w args) (s.post enc C.prog fn false true false false):=by
 refine returnsInHanded_of_change_and (X:=fun w _=>laidMetH C.prog laid w) (fun _ _ _ hh h=>h.of_heap hh) own started Tx dL witness ?_
 intro W base args ds gs before cq hW _ _ hL _
 have Ek:=hW
 obtain⟨p,q,hA,hV,rfl,_,_⟩:=hW
 rw[KC]at hV
 obtain⟨rfl,rfl⟩:=trodVars_none hV
 simp only[List.append_nil]at Ek
 have ae:∀ y∈p,y.block<W.heap.size:=fun y hy=>by simpa using Ek.lt y hy
 obtain⟨xs,h1,h2⟩:=Oq (vs:=args.toList) (ts:=fn.params.toList) (fun t ht=>(fZ t ht).1) (fun j t v h h'=>cq j t v (by simpa using h) (by simpa using h')) hA
 obtain⟨e1,e2,e3⟩:=hs ds (GC hA)
 refine(wu W args xs (hT W hL) h1 h2).mono fun e W' ⟨he,hn⟩=>?_
 subst he
 refine⟨_,rfl,ds,[],p,[],p,[],Ek,?_,?_,?_,hn.frame _,fun h=>by cases h⟩
 ·rw[List.append_nil,e1,zc]
  exact trodAll_mk1 (shut_bool pI _)
 ·rw[List.append_nil,e2]
  exact Oo hl hn (fun t ht=>(fZ t ht).2) hA ae
 ·rw[List.append_nil,e3,KC]
  rfl
end Go.Eng
set_option linter.constructorNameAsVariable false
namespace Go.Eng
open Go Go.Proofs Go.Proofs.YtckmfkgppohnmaaGreatDoor Go.RowKit Go.ChangeShapes
theorem VI:ownKnob Tryz.prog.godebug=none:=by kernel_rfl
theorem VJ:laidOutB Tryz.prog=true:=by kernel_rfl
noncomputable def vA:List (String×DataW Unit):=Rows.lendChecksRow.laid
theorem L6:Tryz.prog.globalNamed "internal/strconv.uint64pow10" =some 2:=by kernel_rfl
theorem Un(W:World)(h:laidMetH Tryz.prog vA W):jQ W:=by
 rw[MakeChecks.laidMetH_plain _ _ _ (by kernel_rfl)]at h
 have h2:laidMet Tryz.prog [("internal/strconv.uint64pow10",Lib.tabData .u64 Lib.pow10Tab)] W:=h.tail.tail
 have h3:Lib.TabIs Tryz.prog W "internal/strconv.uint64pow10" .u64 Lib.pow10Tab:=Lib.tabIs_of_head (t:=205) (e:=188) (n:=20) L6 (by kernel_rfl) (by kernel_rfl) (by kernel_rfl) (by kernel_rfl) (by kernel_rfl) h2
 unfold Lib.TabIs World.var? at h3
 rw[L6]at h3
 simp only[Option.bind_some]at h3
 intro q hq
 have :q=(2,(Lib.pow10Tab.map fun z=>Value.int .u64 z).toArray):=by simpa[xC]using hq
 subst this
 split at h3
 ·rename_i cs T f hh
  cases h3
  exact⟨_,_,hh⟩
 ·cases h3
def FD:DataW Unit->Array Value
 | .agg l=>(l.map fun d=>match d with | .lit (.int k n)=>Value.int k n | _=>undef).toArray
 |_=> #[]
def putCells(cs:Array Value):Obj->Obj
 | .cells _ t f=>.cells cs t f
 |o=>o
noncomputable def IU(os:Os):World:=
 let w0:=World.holding Tryz.prog os ⟨#[],#[],[]⟩
 { w0 with heap:=((w0.heap.modify 2 (putCells (FD Rows.laid_internal_strconv_uint64pow10))).modify 6 (putCells (FD Rows.laid_math_bits_deBruijn32tab))).modify 7 (putCells (FD Rows.laid_math_bits_deBruijn64tab)) }
theorem Uj(os:Os)(args:Array Value):laidMetH Tryz.prog vA ((IU os).forCall (fun _ _=>0) ⟨#[],args,[]⟩).memory:=by
 rw[MakeChecks.laidMetH_plain _ _ _ (by kernel_rfl)]
 exact laidMet_of_run' 8 (by kernel_rfl) (by kernel_rfl)
end Go.Eng
set_option linter.constructorNameAsVariable false
set_option maxRecDepth 100000
namespace Go.Eng
open Go Go.Proofs
theorem jm{n:Nat}{xs:List V}(h:eX Tryz.prog (n+1) 3 xs):∃ k,xs=[vInt k]/\(Lit.int .i64 k).wf=true:=by
 unfold eX at h
 simp only[Tryz.underlying3]at h
 exact h
theorem abw:im Tryz.prog 91=true:=by kernel_rfl
theorem IL{α β:Type}{f:α->β}{P:β->Prop}(h:∀ y,P y->∃ x,y=f x):∀ {l:List β},(∀ y∈l,P y)->∃ m:List α,l=m.map f
 |[],_=>⟨[],rfl⟩
 |y::r,hl=>by
  obtain⟨x,rfl⟩:=h y (hl y (by simp))
  obtain⟨m,rfl⟩:=IL h (l:=r) fun z hz=>hl z (by simp[hz])
  exact⟨x::m,rfl⟩
theorem G4{n:Nat}{T e:TypeId}{xs:List V}{α:Type}{f:α->V}(hu:Tryz.prog.underlying T=some (.slice e))(h:eX Tryz.prog (n+1) T xs)
 (he:∀ ys,eX Tryz.prog n e ys->∃ a,l4 (im Tryz.prog e) ys=f a):∃ l:List α,xs=[.sl (l.map f)]:=by
 unfold eX at h
 simp only[hu]at h
 obtain⟨ls,rfl,_,h3⟩:=h
 obtain⟨m,hm⟩:=IL (f:=f) (P:=fun y=>∃ d,y=f d) (fun y h=>h) (l:=ls.map (l4 (im Tryz.prog e))) fun y hy=>by
  obtain⟨z,hz,rfl⟩:=List.mem_map.1 hy
  exact he z (h3 z hz)
 exact⟨m,by rw[hm]⟩
theorem QG{n:Nat}{xs:List V}(h:eX Tryz.prog (n+2) 91 xs):∃ p:Par,xs=[vInt p.no,vInt p.pa]:=by
 unfold eX at h
 simp only[Tryz.underlying91]at h
 obtain⟨x,y,rfl,h1,x2,y2,rfl,h2,rfl⟩:=h
 obtain⟨a,rfl,_⟩:=jm h1
 obtain⟨b,rfl,_⟩:=jm h2
 exact⟨⟨a,b⟩,rfl⟩
theorem QJ{n:Nat}{xs:List V}(h:eX Tryz.prog (n+3) 23 xs):∃ l:List Par,xs=[.sl (l.map encPa)]:=
 G4 Tryz.underlying23 h fun ys hy=>by
  obtain⟨p,rfl⟩:=QG hy
  rw[abw]
  exact⟨p,rfl⟩
theorem QI{n:Nat}{xs:List V}(h:eX Tryz.prog (n+4) 34 xs):∃ b:Bag,xs=aP b:=by
 unfold eX at h
 simp only[Tryz.underlying34]at h
 obtain⟨x1,y1,rfl,h1,x2,y2,rfl,h2,x3,y3,rfl,h3,x4,y4,rfl,h4,rfl⟩:=h
 obtain⟨a,rfl,_⟩:=jm h1
 obtain⟨b,rfl,_⟩:=jm h2
 obtain⟨c,rfl⟩:=QJ h3
 obtain⟨d,rfl,_⟩:=jm h4
 exact⟨⟨a,b,c,d⟩,by rw[List.append_nil];rfl⟩
theorem abz:im Tryz.prog 34=true:=by kernel_rfl
theorem abr{x:V}(h:xl Tryz.prog 8 34 x):∃ b:Bag,x=fD b:=by
 obtain⟨xs,h1,rfl⟩:=h
 rw[abz]
 obtain⟨b,rfl⟩:=QI h1
 exact⟨b,rfl⟩
end Go.Eng
set_option linter.constructorNameAsVariable false
set_option maxRecDepth 100000
namespace Go.Eng
open Go Go.Proofs Go.Proofs.YtckmfkgppohnmaaGreatDoor Go.RowKit Go.ChangeShapes
theorem aaM{f:FuncId}{s:PSpec}(h:aQ Tryz.prog f s){W:World}{args:Array Value}{xs:List V}(ht:jQ W)(hr:sJ (kF W) xs args.toList)(hp:s.pre xs)(hv:s.fn xs=.bool true):
 Calls Tryz.prog f args W fun e W'=>e=.returned (.bool true)/\RowKit.Below W.heap.size W W':=by
 refine(h.calls (kF W) W xs args ht (fun b off v hv=>hv) hr hp).mono ?_
 rintro e W' ⟨v,m',rfl,hb,_,_,h⟩
 rw[hv]at h
 cases h
 exact⟨rfl,hb⟩
theorem Ul(hc:∀ (W:World) (args:Array Value) (xs:List V),jQ W->uV Tryz.prog 8 Tryz.f4.params.toList xs->sJ (kF W) xs args.toList->Calls Tryz.prog 4 args W fun e W'=>e=.returned (.bool true)/\Below W.heap.size W W')
 (os:Os) (started:os.Started) (H:Type) (enc:TypeId×Value->H):
 ReturnsInHanded {} Tryz.checked os 4 .any (fun w args=>(Rows.lendValidSpec.pre enc Tryz.prog Tryz.f4 [] false w args/\laidMetH Tryz.prog vA w)/\sizedMet enc Tryz.prog Tryz.f4 (OpenSpec.ofChange Rows.lendValidSpec) false w args)
  (Rows.lendValidSpec.post enc Tryz.prog Tryz.f4 false true false false):=by
 refine Up (C:=Tryz.checked) (n:=8) (tb:=4) (laid:=vA) VI started (by kernel_rfl) Tryz.func4
  (ChangeSpec.witness_shaped (enc:=enc) (C:=Tryz.checked) (os:=os) (X:=fun w _=>laidMetH Tryz.prog vA w) false (IU os) #[.slice none 0 0,.agg #[.int .i64 0,.int .i64 0,.slice none 0 0,.int .i64 0],.agg #[.int .i64 0,.int .i64 0,.int .i64 0,.int .i64 0,.int .i64 0]] 8 rfl (World.shaped_of_RefB (by kernel_rfl) (by kernel_rfl)) (by kernel_rfl) (by kernel_rfl) (by kernel_rfl) (Uj os _))
  Un VJ ?_ (by kernel_rfl) (by kernel_rfl) rfl ?_ hc
 ·have h:(Tryz.f4.params.toList.all fun t=>kz Tryz.prog 8 t&&Tryz.prog.readableRec t&&decide (t<Tryz.prog.types.size))=true:=by kernel_rfl
  intro t ht
  have :=List.all_eq_true.1 h t ht
  simp only[Bool.and_eq_true,decide_eq_true_eq]at this
  exact⟨this.1.1,this.1.2,this.2⟩
 ·intro ds dz
  have hl:Tryz.f4.params.toList.length=3:=by kernel_rfl
  rw[hl]at dz
  match ds,dz with
  |[d1,d2,d3],_=>exact⟨rfl,rfl,rfl⟩
theorem Uk(hc:∀ (W:World) (args:Array Value) (xs:List V),jQ W->uV Tryz.prog 8 Tryz.f4.params.toList xs->sJ (kF W) xs args.toList->Calls Tryz.prog 4 args W fun e W'=>e=.returned (.bool true)/\Below W.heap.size W W'):
 Rows.LendValidSaid:=
 OpenClaim.holds_of_wide 4 Tryz.f4 rfl rfl rfl rfl rfl rfl rfl ⟨rfl,rfl,rfl,rfl,rfl⟩ rfl rfl rfl rfl rfl (by kernel_rfl) Tryz.func4 (by kernel_rfl)
  (of_decide_eq_true (by kernel_rfl)) (by unfold Func.isWrapper;first | (rw[if_pos (by decide+kernel)];kernel_rfl) | (rw[if_neg (by decide+kernel)];exact⟨rfl,rfl⟩))
  (fun os started H enc _=>Ul hc os started H enc)
theorem Um(h:Rows.LendValidSaid):Rows.LendValidCardSaid:=
 Claim7.holds_tied_plain_at .later [] [.data,.data,.data] true (true, "58faa61de3eff3aedc16e69c27c048a92a6db18e7103f1e09a0cb20b9d907ff5") true
  h (fun _ h=>by cases h) (by kernel_rfl) (fun _ h=>by cases h) lendValid_row_tie rfl ⟨rfl,rfl⟩ (by kernel_rfl) rfl
  (fun f fn hf dL=>by
    obtain rfl:f=4:=Option.some.inj ((show Tryz.prog.funcNamed "parvise/parviselaw09.LendValid" =some 4 by kernel_rfl).symm.trans hf)|>.symm
    obtain rfl:fn=Tryz.f4:=(Option.some.inj (Tryz.func4.symm.trans dL)).symm
    exact⟨by kernel_rfl,fun j t ht=>by
     have ei:(Tryz.f4.params.toList.all fun t=>!Tryz.prog.wantsStandIn t)=true:=by kernel_rfl
     have hm:t∈Tryz.f4.params.toList:=by
      obtain⟨hj,e⟩:=Array.getElem?_eq_some_iff.1 ht
      rw[<-e]
      exact Array.getElem_mem_toList hj
     have :=List.all_eq_true.1 ei t hm
     have h1:Tryz.prog.wantsStandIn t=false:=by simpa using this
     exact h1⟩)
  (by kernel_rfl)
end Go.Eng
set_option linter.constructorNameAsVariable false
set_option maxRecDepth 100000
namespace Go.Eng
open Go Go.Proofs Go.Proofs.YtckmfkgppohnmaaGreatDoor
theorem QH{n:Nat}{xs:List V}(h:eX Tryz.prog (n+2) 46 xs):∃ k:N5,xs=iy k:=by
 unfold eX at h
 simp only[Tryz.underlying46]at h
 obtain⟨x1,y1,rfl,h1,x2,y2,rfl,h2,x3,y3,rfl,h3,x4,y4,rfl,h4,x5,y5,rfl,h5,rfl⟩:=h
 obtain⟨a,rfl,_⟩:=jm h1
 obtain⟨b,rfl,_⟩:=jm h2
 obtain⟨c,rfl,_⟩:=jm h3
 obtain⟨d,rfl,_⟩:=jm h4
 obtain⟨e,rfl,_⟩:=jm h5
 exact⟨⟨a,b,c,d,e⟩,rfl⟩
theorem abx:im Tryz.prog 46=true:=by kernel_rfl
theorem abp{x:V}(h:xl Tryz.prog 8 46 x):∃ k:N5,x=.agg (iy k):=by
 obtain⟨xs,h1,rfl⟩:=h
 rw[abx]
 obtain⟨k,rfl⟩:=QH h1
 exact⟨k,rfl⟩
theorem QK{n:Nat}{xs:List V}(h:eX Tryz.prog (n+2) 113 xs):∃ a:Act,xs=jO a:=by
 unfold eX at h
 simp only[Tryz.underlying113]at h
 obtain⟨x1,y1,rfl,h1,x2,y2,rfl,h2,x3,y3,rfl,h3,x4,y4,rfl,h4,x5,y5,rfl,h5,rfl⟩:=h
 obtain⟨a,rfl,_⟩:=jm h1
 obtain⟨b,rfl,_⟩:=jm h2
 obtain⟨c,rfl,_⟩:=jm h3
 obtain⟨d,rfl,_⟩:=jm h4
 obtain⟨e,rfl,_⟩:=jm h5
 exact⟨⟨a,b,c,d,e⟩,rfl⟩
theorem abA:im Tryz.prog 113=true:=by kernel_rfl
theorem aby:im Tryz.prog 45=false:=by kernel_rfl
theorem abq{x:V}(h:xl Tryz.prog 8 45 x):∃ l:List Act,x=.sl (l.map sr):=by
 obtain⟨xs,h1,rfl⟩:=h
 rw[aby]
 obtain⟨l,rfl⟩:∃ l:List Act,xs=[.sl (l.map sr)]:=G4 Tryz.underlying45 h1 fun ys hy=>by
  obtain⟨p,rfl⟩:=QK hy
  rw[abA]
  exact⟨p,rfl⟩
 exact⟨l,rfl⟩
theorem lendValid_holds:Rows.LendValidCardSaid:=
 Um<|Uk fun W args xs ht ha hr=>by
  obtain⟨x,ys,rfl,h1,y,zs,rfl,h2,z,us,rfl,h3,rfl⟩:=(show uV Tryz.prog 8 [45,34,46] xs from ha)
  obtain⟨l,rfl⟩:=abq h1
  obtain⟨b,rfl⟩:=abr h2
  obtain⟨n,rfl⟩:=abp h3
  exact aaM s4 ht hr ⟨congrArg tT.enc (W5 l),congrArg fD (uK b),rfl,trivial⟩ rfl
end Go.Eng
namespace Go.Proofs.YtckmfkgppohnmaaGreatDoor
theorem lendValidCard_holds : Rows.LendValidCardSaid := Go.Eng.lendValid_holds
end Go.Proofs.YtckmfkgppohnmaaGreatDoor
#print axioms Go.Proofs.YtckmfkgppohnmaaGreatDoor.lendValidCard_holds
