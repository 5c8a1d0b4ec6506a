import Derived.Test.YtckmfkgppohnmaaDoorK2
/- Texts Eng17 to EngX. -/
set_option linter.all false
namespace Go.Eng
open Go
def bL(Γ:FuncId->Option Spec)(σ:S)(t:Name):Op->List Name
 | .alloc _ | .box _ _ | .makeMap _ _ | .makeSlice _ _ _=>[aM t]
 | .load _ x | .nilCheck x | .fieldAddr _ x _ | .indexAddr _ x _ | .lookup _ x _ _ | .store _ x _ | .mapUpdate _ x _ _ | .insert _ x _ _ | .slice _ x _ _ _=>aH (aj σ x)
 | .binOp _ _ x _ _=>aH (aj σ x)
 | .buildSlice _ _ ps=>ef (fp 4 σ.obj) (ps.toList.map fun p=>aj σ p.2)
 | .call ⟨.value f,args,_⟩=>match (fJ (aj σ f)).bind Γ with
   |some s=>s.foot σ.obj t (eD (aj σ f) (args.toList.map (aj σ)))
   |none=>[]
 | .call ⟨.builtin .append,args,_⟩=>match args.toList with
   |[s,x]=>aH (aj σ s)++aH (aj σ x)++[aM t]
   |_=>[]
 | .call ⟨.builtin .len,args,_⟩=>match args.toList with
   |[x]=>aH (aj σ x)
   |_=>[]
 |_=>[]
def br(Γ:FuncId->Option Spec)(σ:S)(t:Name):Op->List Name
 | .alloc _ | .box _ _ | .makeMap _ _ | .makeSlice _ _ _=>[aM t]
 | .store _ x _ | .mapUpdate _ x _ _ | .insert _ x _ _=>aH (aj σ x)
 | .slice _ x _ _ _=>muts σ.obj (aH (aj σ x))
 | .buildSlice _ _ ps=>muts σ.obj (ef (fp 4 σ.obj) (ps.toList.map fun p=>aj σ p.2))
 | .call ⟨.value f,args,_⟩=>match (fJ (aj σ f)).bind Γ with
   |some s=>s.wrt σ.obj t (eD (aj σ f) (args.toList.map (aj σ)))
   |none=>[]
 | .call ⟨.builtin .append,args,_⟩=>match args.toList with
   |[s,x]=>aH (aj σ s)++aH (aj σ x)++[aM t]
   |_=>[]
 |_=>[]
theorem ac2{P:Program}{obj:Name->Option O}{T:TypeId}{x:D}{lo hi mx:Option D}:Fz obj (jo P obj T x lo hi mx).obj:=by
 unfold jo
 repeat' split
 all_goals first
  |exact .refl obj
  |exact Fz.one (.refl obj) (by assumption) rfl rfl
theorem bH.muts{r r2:R}{obj obj2:Name->Option O}{W:List Name}(h:bH r r2 obj obj2 W)(hz:Fz obj r.obj)(ha:bw W obj obj2):bH r r2 obj obj2 (muts obj W):=by
 refine lG.like (W:=W) ⟨h.ok,fun nm hn=>?_,h.frame,fun nm hn=>?_⟩ h.d hz ha
 ·rw[h.eff nm,if_pos hn]
 ·rw[h.eff nm,if_neg hn]
theorem C5{ok:Prop}{d:D}{obj obj2:Name->Option O}:bH ⟨ok,d,obj⟩ ⟨ok,d,obj2⟩ obj obj2 []:=.same rfl rfl rfl rfl
theorem V6{P:Program}{obj obj2:Name->Option O}{T:TypeId}{ps:List (Nat×D)}:bH (ma P obj T ps) (ma P obj2 T ps) obj obj2 []:=by
 unfold ma
 (repeat' split)<;>exact .same rfl rfl rfl rfl
theorem V5{P:Program}{obj obj2:Name->Option O}{T:TypeId}{n:Nat}{ps:List (Nat×D)}(h:bw (ef (fp 4 obj) (ps.map (·.2))) obj obj2):
 bH (oq P obj T n ps) (oq P obj2 T n ps) obj obj2 (muts obj (ef (fp 4 obj) (ps.map (·.2)))):=by
 have hm:bw (muts obj (ef (fp 4 obj) (ps.map (·.2)))) obj obj2:=fun nm hn=>h nm (List.mem_filter.1 hn).1
 obtain⟨h1,h2⟩:=xt (AA 4) (ps.map (·.2)) obj obj2 _ (fun _ hn=>hn) h
 unfold oq
 split
 ·split
  ·exact .none _ hm
  ·refine lG.like ⟨?_,h2.agr,h2.frame,h2.frame2⟩ (by rw[h1]) (xu (xr 4) _ obj) h
   rw[h1,h2.ok]
 ·exact .none _ hm
theorem V8{P:Program}{obj obj2:Name->Option O}{op:BinOp}{T:TypeId}{x y:D}:bH (nl P obj op T x y) (nl P obj2 op T x y) obj obj2 []:=by
 unfold nl
 (repeat' split)<;>first | exact .same rfl rfl rfl rfl | (exfalso;simp_all;done)
theorem V7{P:Program}{obj obj2:Name->Option O}{op:BinOp}{T:TypeId}{x y:D}{lk:Bool}(h:bw (aH x) obj obj2):bH (mc P obj op T x y lk) (mc P obj2 op T x y lk) obj obj2 []:=by
 unfold mc
 cases lk with
 |true=>
  simp only
  unfold pG
  split
  ·exact .same rfl rfl rfl rfl
  ·rename_i nm k
   have h':obj2 nm=obj nm:=h nm (by simp[aH])
   rw[h']
   exact .same rfl rfl rfl rfl
  ·exact .same rfl rfl rfl rfl
 |false=>
  simp only
  split
  ·unfold l8
   split<;>exact .same rfl rfl rfl rfl
  ·exact V8
theorem VN{obj obj2:Name->Option O}{op:UnOp}{x:D}:bH (lY obj op x) (lY obj2 op x) obj obj2 []:=by
 unfold lY
 (repeat' split)<;>first | exact .same rfl rfl rfl rfl | (exfalso;simp_all;done)
theorem V2{P:Program}{obj obj2:Name->Option O}{T T':TypeId}{x:D}:bH (nk P obj T T' x) (nk P obj2 T T' x) obj obj2 []:=by
 unfold nk pH
 (repeat' split)<;>first | exact .same rfl rfl rfl rfl | (exfalso;simp_all;done)
theorem V0{P:Program}{obj obj2:Name->Option O}{T:TypeId}{x:D}{f:Nat}:bH (l6 P obj T x f) (l6 P obj2 T x f) obj obj2 []:=by
 unfold l6
 (repeat' split)<;>first | exact .same rfl rfl rfl rfl | (exfalso;simp_all;done)
theorem VY{P:Program}{obj obj2:Name->Option O}{T:TypeId}{x y:D}:bH (l5 P obj T x y) (l5 P obj2 T x y) obj obj2 []:=by
 unfold l5
 (repeat' split)<;>first | exact .same rfl rfl rfl rfl | (exfalso;simp_all;done)
theorem V1{obj obj2:Name->Option O}{x:D}{i:Nat}:bH (l7 obj x i) (l7 obj2 x i) obj obj2 []:=by
 unfold l7
 (repeat' split)<;>first | exact .same rfl rfl rfl rfl | (exfalso;simp_all;done)
theorem VQ{obj obj2:Name->Option O}{c x y:D}:bH (jE obj c x y) (jE obj2 c x y) obj obj2 []:=by
 unfold jE
 split<;>exact .same rfl rfl rfl rfl
theorem V4{Γ:FuncId->Option Spec}(hN:∀ f s,Γ f=some s->s.Near){σ σ2:S}{t:Name}{f:D}{args:List D}
 (h:bw (match (fJ f).bind Γ with | some s=>s.foot σ.obj t (eD f args) | none=>[]) σ.obj σ2.obj):
 bH (tD Γ σ t f args) (tD Γ σ2 t f args) σ.obj σ2.obj (match (fJ f).bind Γ with | some s=>s.wrt σ.obj t (eD f args) | none=>[])/\
 (match (fJ f).bind Γ with | some s=>s.foot σ2.obj t (eD f args) | none=>[])=(match (fJ f).bind Γ with | some s=>s.foot σ.obj t (eD f args) | none=>[]):=by
 unfold tD
 rcases hs:(fJ f).bind Γ with _ | s
 ·exact⟨.same rfl rfl rfl rfl,rfl⟩
 ·simp only[hs]at h |-
  obtain⟨g,_,hs⟩:=Option.bind_eq_some_iff.1 hs
  exact⟨(hN g s hs).like _ _ _ _ h,(hN g s hs).foot _ _ _ _ h⟩
theorem G0{P:Program}{Γ:FuncId->Option Spec}(hN:∀ f s,Γ f=some s->s.Near){σ σ2:S}(t:Name)(op:Op)
 (ho:∀ x∈op.operands.toList,aj σ2 x=aj σ x) (h:bw (bL Γ σ t op) σ.obj σ2.obj):
 bH (aU P Γ σ t op) (aU P Γ σ2 t op) σ.obj σ2.obj (br Γ σ t op)/\bL Γ σ2 t op=bL Γ σ t op:=by
 cases op with
 |move x=>exact⟨by simp only[aU,ho x (by simp[Op.operands])];exact C5,rfl⟩
 |assign x=>exact⟨by simp only[aU,ho x (by simp[Op.operands])];exact C5,rfl⟩
 |pick c x y=>exact⟨by simp only[aU,ho c (by simp[Op.operands]),ho x (by simp[Op.operands]),ho y (by simp[Op.operands])];exact VQ,rfl⟩
 |alloc T=>exact⟨V9 h,rfl⟩
 |box T x=>exact⟨by simp only[aU,ho x (by simp[Op.operands])];exact JQ h,rfl⟩
 |build T ps=>
  have hp:(ps.toList.map fun p=>(p.1,aj σ2 p.2))=ps.toList.map fun p=>(p.1,aj σ p.2):=List.map_congr_left fun p hp=>by rw[ho p.2 (by simp only[Op.operands];exact List.mem_map_of_mem hp)]
  exact⟨by simp only[aU,hp];exact V6,rfl⟩
 |buildSlice T n ps=>
  have hp:(ps.toList.map fun p=>(p.1,aj σ2 p.2))=ps.toList.map fun p=>(p.1,aj σ p.2):=List.map_congr_left fun p hp=>by rw[ho p.2 (by simp only[Op.operands];exact List.mem_map_of_mem hp)]
  have sv:(ps.toList.map fun p=>aj σ2 p.2)=ps.toList.map fun p=>aj σ p.2:=List.map_congr_left fun p hp=>by rw[ho p.2 (by simp only[Op.operands];exact List.mem_map_of_mem hp)]
  have hm:(ps.toList.map fun p=>(p.1,aj σ p.2)).map (·.2)=ps.toList.map fun p=>aj σ p.2:=by simp
  simp only[bL,br]at h |-
  rw[sv]
  rw[<-hm]at h |-
  refine⟨?_,xw _ h⟩
  simp only[aU,hp]
  exact V5 h
 |load T x=>
  simp only[bL,br,aU,ho x (by simp[Op.operands])]at h |-
  exact⟨VV h,trivial⟩
 |store T x d=>
  simp only[bL,br,aU,ho x (by simp[Op.operands]),ho d (by simp[Op.operands])]at h |-
  exact⟨VO h,trivial⟩
 |nilCheck x=>
  simp only[bL,br,aU,ho x (by simp[Op.operands])]at h |-
  exact⟨VR h,trivial⟩
 |binOp op T x y c=>
  simp only[bL,br,aU,ho x (by simp[Op.operands]),ho y (by simp[Op.operands])]at h |-
  exact⟨V7 h,trivial⟩
 |unOp op T x=>exact⟨by simp only[aU,ho x (by simp[Op.operands])];exact VN,rfl⟩
 |convert s d x=>exact⟨by simp only[aU,ho x (by simp[Op.operands])];exact V2,rfl⟩
 |makeFunc fn f c=>
  have h1:f.toList.map (aj σ2)=f.toList.map (aj σ):=List.map_congr_left fun x hx=>ho x (by simp only[Op.operands,Array.toList_append];exact List.mem_append_left _ hx)
  have h2:c.toList.map (aj σ2)=c.toList.map (aj σ):=List.map_congr_left fun x hx=>ho x (by simp only[Op.operands,Array.toList_append];exact List.mem_append_right _ hx)
  exact⟨by simp only[aU,h1,h2];exact C5,rfl⟩
 |makeMap T r=>
  have h1:r.map (aj σ2)=r.map (aj σ):=by
   cases r with
   |none=>rfl
   |some x=>simp only[Option.map_some,ho x (by simp[Op.operands])]
  exact⟨by simp only[aU,h1];exact VT h,rfl⟩
 |makeSlice T l c=>exact⟨by simp only[aU,ho l (by simp[Op.operands]),ho c (by simp[Op.operands])];exact VS h,rfl⟩
 |slice T x lo hi mx=>
  have e:∀ r:Option Operand,(∀ y∈r.toList,aj σ2 y=aj σ y)->r.map (aj σ2)=r.map (aj σ):=by
   intro r hr
   cases r with
   |none=>rfl
   |some x=>simp only[Option.map_some,hr x (by simp)]
  have h1:=e lo fun y hy=>ho y (by simp[Op.operands]at hy |-;simp[hy])
  have h2:=e hi fun y hy=>ho y (by simp[Op.operands]at hy |-;simp[hy])
  have h3:=e mx fun y hy=>ho y (by simp[Op.operands]at hy |-;simp[hy])
  simp only[bL,br,aU,ho x (by simp[Op.operands]),h1,h2,h3]at h |-
  exact⟨(VP h).muts ac2 h,trivial⟩
 |fieldAddr T x f=>
  simp only[bL,br,aU,ho x (by simp[Op.operands])]at h |-
  exact⟨VZ h,trivial⟩
 |field T x f=>exact⟨by simp only[aU,ho x (by simp[Op.operands])];exact V0,rfl⟩
 |indexAddr T x i=>
  simp only[bL,br,aU,ho x (by simp[Op.operands]),ho i (by simp[Op.operands])]at h |-
  exact⟨VX h,trivial⟩
 |index T x i=>exact⟨by simp only[aU,ho x (by simp[Op.operands]),ho i (by simp[Op.operands])];exact VY,rfl⟩
 |lookup T x i co=>
  simp only[bL,br,aU,ho x (by simp[Op.operands]),ho i (by simp[Op.operands])]at h |-
  exact⟨VU h,trivial⟩
 |mapUpdate T x k d=>
  simp only[bL,br,aU,ho x (by simp[Op.operands]),ho k (by simp[Op.operands]),ho d (by simp[Op.operands])]at h |-
  exact⟨JN h,trivial⟩
 |insert T x k d=>
  simp only[bL,br,aU,ho x (by simp[Op.operands]),ho k (by simp[Op.operands]),ho d (by simp[Op.operands])]at h |-
  exact⟨JN h,trivial⟩
 |extract x i=>exact⟨by simp only[aU,ho x (by simp[Op.operands])];exact V1,rfl⟩
 |call c=>
  obtain⟨callee,args,ts⟩:=c
  cases callee with
  |value f=>
   have h1:aj σ2 f=aj σ f:=ho f (by simp[Op.operands,Call.operands])
   have h2:args.toList.map (aj σ2)=args.toList.map (aj σ):=List.map_congr_left fun x hx=>ho x (by simp[Op.operands,Call.operands]at hx |-;simp[hx])
   simp only[bL,br,aU,h1,h2]at h |-
   exact V4 hN h
  |builtin b=>
   have h2:args.toList.map (aj σ2)=args.toList.map (aj σ):=List.map_congr_left fun x hx=>ho x (by simp[Op.operands,Call.operands]at hx |-;simp[hx])
   have h3:∀ x∈args.toList,aj σ2 x=aj σ x:=fun x hx=>ho x (by simp[Op.operands,Call.operands]at hx |-;simp[hx])
   simp only[aU,h2]
   obtain⟨args⟩:=args
   obtain⟨ts⟩:=ts
   simp only at *
   cases b with
   |len=>
    rcases args with _ | ⟨x,_ | ⟨y,r⟩⟩
    ·exact⟨by rcases ts with _ | ⟨_,_ | _⟩<;>exact .same rfl rfl rfl rfl,rfl⟩
    ·simp only[bL,br,h3 x (by simp),List.map_cons,List.map_nil]at h |-
     refine⟨?_,trivial⟩
     rcases ts with _ | ⟨T,_ | _⟩<;>first
      |exact .same rfl rfl rfl rfl
      |exact VW h
    ·refine⟨?_,rfl⟩
     rcases ts with _ | ⟨_,_ | _⟩<;>exact .same rfl rfl rfl rfl
   |append=>
    rcases args with _ | ⟨s,_ | ⟨x,_ | ⟨y,r⟩⟩⟩
    ·refine⟨?_,rfl⟩
     rcases ts with _ | ⟨_,_ | ⟨_,_ | _⟩⟩<;>exact .same rfl rfl rfl rfl
    ·refine⟨?_,rfl⟩
     rcases ts with _ | ⟨_,_ | ⟨_,_ | _⟩⟩<;>exact .same rfl rfl rfl rfl
    ·simp only[bL,br,h3 x (by simp),h3 s (by simp),List.map_cons,List.map_nil]at h |-
     refine⟨?_,trivial⟩
     rcases ts with _ | ⟨T1,_ | ⟨T2,_ | _⟩⟩<;>first
      |exact zo h
      |exact .none _ h
    ·refine⟨?_,rfl⟩
     rcases ts with _ | ⟨_,_ | ⟨_,_ | _⟩⟩<;>exact .same rfl rfl rfl rfl
   |_=>
    refine⟨?_,rfl⟩
    show bH _ _ _ _ []
    unfold l9
    (repeat' split)<;>first | exact .same rfl rfl rfl rfl | (exfalso;simp_all;done)
  |invoke r m=>exact⟨.same rfl rfl rfl rfl,rfl⟩
 |_=>exact⟨.same rfl rfl rfl rfl,rfl⟩
theorem acR{Γ:FuncId->Option Spec}(hN:∀ f s,Γ f=some s->s.Near){σ σ2:S}(t:Name)(op:Op)
 (ho:∀ x∈op.operands.toList,aj σ2 x=aj σ x) (h:bw (bL Γ σ t op) σ.obj σ2.obj):br Γ σ2 t op=br Γ σ t op:=by
 cases op with
 |buildSlice T n ps=>
  have sv:(ps.toList.map fun p=>aj σ2 p.2)=ps.toList.map fun p=>aj σ p.2:=List.map_congr_left fun p hp=>by rw[ho p.2 (by simp only[Op.operands];exact List.mem_map_of_mem hp)]
  simp only[bL,br]at h |-
  rw[sv,xw _ h]
  exact CT h
 |store T x d=>simp only[br,ho x (by simp[Op.operands])]
 |mapUpdate T x k d=>simp only[br,ho x (by simp[Op.operands])]
 |insert T x k d=>simp only[br,ho x (by simp[Op.operands])]
 |slice T x lo hi mx=>
  simp only[bL,br,ho x (by simp[Op.operands])]at h |-
  exact CT h
 |call c=>
  obtain⟨callee,args,ts⟩:=c
  cases callee with
  |value f=>
   have h1:aj σ2 f=aj σ f:=ho f (by simp[Op.operands,Call.operands])
   have h2:args.toList.map (aj σ2)=args.toList.map (aj σ):=List.map_congr_left fun x hx=>ho x (by simp[Op.operands,Call.operands]at hx |-;simp[hx])
   simp only[bL,br,h1,h2]at h |-
   cases hq:(fJ (aj σ f)).bind Γ with
   |none=>rfl
   |some s=>
    simp only[hq]at h |-
    obtain⟨g,hg,hs⟩:=Option.bind_eq_some_iff.1 hq
    exact(hN g s hs).wrt _ _ _ _ h
  |builtin b=>
   have h3:∀ x∈args.toList,aj σ2 x=aj σ x:=fun x hx=>ho x (by simp[Op.operands,Call.operands]at hx |-;simp[hx])
   obtain⟨args⟩:=args
   simp only at *
   cases b with
   |append=>
    rcases args with _ | ⟨s,_ | ⟨x,_ | ⟨y,r⟩⟩⟩<;>first
     |rfl
     |simp only[br,h3 x (by simp),h3 s (by simp)]
   |_=>rfl
  |invoke r m=>rfl
 |_=>rfl
theorem Hi{Γ:FuncId->Option Spec}(hN:∀ f s,Γ f=some s->s.Near){σ:S}(t:Name)(op:Op):∀ nm∈br Γ σ t op,nm∈bL Γ σ t op:=by
 intro nm hn
 cases op with
 |buildSlice T n ps=>exact(List.mem_filter.1 hn).1
 |slice T x lo hi mx=>exact(List.mem_filter.1 hn).1
 |call c=>
  obtain⟨callee,args,ts⟩:=c
  cases callee with
  |value f=>
   simp only[bL,br]at hn |-
   cases hq:(fJ (aj σ f)).bind Γ with
   |none=>simp[hq]at hn
   |some s=>
    simp only[hq]at hn |-
    obtain⟨g,hg,hs⟩:=Option.bind_eq_some_iff.1 hq
    exact(hN g s hs).sub _ _ _ _ hn
  |builtin b=>cases b<;>first | exact hn | (simp[br]at hn;done)
  |invoke r m=>simp[br]at hn
 |_=>first | exact hn | (simp[br]at hn;done)
section
variable {P:Program} {Γ:FuncId->Option Spec} {ops:Array Oper}
abbrev Oper.tt (σ:S) (o:Oper):Name:=(σ.base+o.dst.getD 0)::σ.pre
theorem U'{σ σ':S}{x:Operand}(h:∀ t,x=.tmp t->σ'.env t=σ.env t):aj σ' x=aj σ x/\cB σ' x=cB σ x:=by
 cases x with
 |tmp t=>exact⟨by simp only[aj,h t rfl],by simp only[cB,h t rfl]⟩
 |_=>exact⟨rfl,rfl⟩
theorem VJ{o:Oper}{x:Operand}(hx:x∈o.op.operands.toList){t:Nat}(h:x=.tmp t):t∈o.looksAt ops:=
 List.mem_append_left _ (List.mem_filterMap.2 ⟨x,hx,by subst h;rfl⟩)
theorem JL{o:Oper}{j:Nat}{b:Bool}(hg:o.guard=some (j,b)){s:Nat}(h:n4 ops j=some s):s∈o.looksAt ops:=by
 refine List.mem_append_right _ ?_
 unfold n4 at h
 simp[hg,h]
theorem abT{σ σ':S}{op:Op}(h:∀ x∈op.operands.toList,aj σ' x=aj σ x/\cB σ' x=cB σ x):mw σ' op=mw σ op:=by
 have ee:op.operands.toList.all (cB σ')=op.operands.toList.all (cB σ):=by
  refine Bool.eq_iff_iff.2 ?_
  simp only[List.all_eq_true]
  exact⟨fun k x hx=>(h x hx).2▸k x hx,fun k x hx=>(h x hx).2.symm▸k x hx⟩
 cases op with
 |pick c x y=>
  simp only[mw]
  have h1:=h c (by simp[Op.operands])
  have h2:=h x (by simp[Op.operands])
  have h3:=h y (by simp[Op.operands])
  rw[h1.1,h1.2,h2.2,h3.2]
 |_=>exact ee
structure rh (P:Program) (Γ:FuncId->Option Spec) (ops:Array Oper) (σ σ':S) (o:Oper):Prop where
 obl:lh P Γ ops σ' o↔lh P Γ ops σ o
 g:eL ops σ' o=eL ops σ o
 d:(aU P Γ σ' (Oper.tt σ o) o.op).d=(aU P Γ σ (Oper.tt σ o) o.op).d
 eff:∀ nm,(a7 P Γ ops σ' o).obj nm=if nm∈br Γ σ (Oper.tt σ o) o.op then(a7 P Γ ops σ o).obj nm else σ'.obj nm
 frame:∀ nm,nm∉br Γ σ (Oper.tt σ o) o.op->(a7 P Γ ops σ o).obj nm=σ.obj nm
 foot:bL Γ σ' (Oper.tt σ o) o.op=bL Γ σ (Oper.tt σ o) o.op
 wrt:br Γ σ' (Oper.tt σ o) o.op=br Γ σ (Oper.tt σ o) o.op
theorem vR(hN:∀ f s,Γ f=some s->s.Near){σ σ':S}(o:Oper)(eK:σ'.nt=σ.nt)(ss:σ'.pre=σ.pre)(Au:σ'.base=σ.base)(he:∀ t∈o.looksAt ops,σ'.env t=σ.env t)
 (ha:bw (bL Γ σ (Oper.tt σ o) o.op) σ.obj σ'.obj):rh P Γ ops σ σ' o:=by
 have hx:∀ x∈o.op.operands.toList,aj σ' x=aj σ x/\cB σ' x=cB σ x:=fun x hx=>U' fun t ht=>he t (VJ hx ht)
 have hg:eL ops σ' o=eL ops σ o:=by
  unfold eL
  cases EN:o.guard with
  |none=>rfl
  |some p=>
   obtain⟨j,b⟩:=p
   simp only
   cases hs:n4 ops j with
   |none=>rfl
   |some s=>simp only[he s (JL EN hs)]
 have ZP:n5 ops σ' o↔n5 ops σ o:=by
  unfold n5
  cases EN:o.guard with
  |none=>exact Iff.rfl
  |some p=>
   obtain⟨j,b⟩:=p
   simp only
   cases hs:n4 ops j with
   |none=>exact Iff.rfl
   |some s=>simp only[he s (JL EN hs),eK]
 obtain⟨h1,h2⟩:=G0 (P:=P) hN (Oper.tt σ o) o.op (fun x h=>(hx x h).1) ha
 have h3:=acR hN (Oper.tt σ o) o.op (fun x h=>(hx x h).1) ha
 refine⟨?_,hg,h1.d,fun nm=>?_,fun nm hn=>?_,h2,h3⟩
 ·have aa:(aU P Γ σ' ((σ.base+o.dst.getD 0)::σ.pre) o.op).ok=(aU P Γ σ ((σ.base+o.dst.getD 0)::σ.pre) o.op).ok:=h1.ok
  unfold lh
  rw[ZP,hg,eK,ss,Au,abT hx,aa]
 ·unfold a7
  simp only[hg,ss,Au]
  cases hc:eL ops σ o with
  |true=>simp only[if_true];exact h1.eff nm
  |false=>
   simp only[Bool.false_eq_true,if_false]
   split
   ·rename_i hn;exact ha nm (Hi hN _ _ nm hn)
   ·rfl
 ·unfold a7
  cases hc:eL ops σ o with
  |true=>simp only[if_true];exact h1.frame nm hn
  |false=>simp only[Bool.false_eq_true,if_false]
theorem rv{σ:S}{o:Oper}{t:Nat}(h:o.dst≠some t):(a7 P Γ ops σ o).env t=σ.env t:=by
 unfold a7
 cases hd:o.dst with
 |none=>rfl
 |some s=>exact aI _ _ _ (by rintro rfl;exact h hd)
def yh(a b:List Name):Prop:=∀ nm∈a,nm∉b
theorem comm{oi oj:Oper}(hN:∀ f s,Γ f=some s->s.Near){σ:S}(lu:oi.apart ops oj=true)
 (h1:yh (br Γ σ (Oper.tt σ oi) oi.op) (bL Γ (a7 P Γ ops σ oi) (Oper.tt σ oj) oj.op)) (h2:yh (br Γ (a7 P Γ ops σ oi) (Oper.tt σ oj) oj.op) (bL Γ σ (Oper.tt σ oi) oi.op)):
 rh P Γ ops (a7 P Γ ops σ oi) σ oj/\rh P Γ ops σ (a7 P Γ ops σ oj) oi/\a7 P Γ ops (a7 P Γ ops σ oj) oi=a7 P Γ ops (a7 P Γ ops σ oi) oj:=by
 obtain⟨a1,a2,a3⟩:=Oper.apart_spec lu
 have s0:rh P Γ ops σ σ oi:=vR hN oi rfl rfl rfl (fun _ _=>rfl) (fun _ _=>rfl)
 have s1:rh P Γ ops (a7 P Γ ops σ oi) σ oj:=by
  refine vR hN oj rfl rfl rfl (fun t ht=>(rv fun hd=>a1 t hd ht).symm) fun nm hn=>?_
  exact(s0.frame nm fun hw=>h1 nm hw hn).symm
 have s2:rh P Γ ops σ (a7 P Γ ops σ oj) oi:=by
  refine vR hN oi rfl rfl rfl (fun t ht=>rv fun hd=>a3 t hd ht) fun nm hn=>?_
  exact(s1.eff nm).trans (if_neg fun hw=>h2 nm hw hn)
 refine⟨s1,s2,?_⟩
 have e1:(a7 P Γ ops (a7 P Γ ops σ oj) oi).obj=(a7 P Γ ops (a7 P Γ ops σ oi) oj).obj:=by
  funext nm
  rw[s2.eff nm]
  by_cases hi:nm∈br Γ σ (Oper.tt σ oi) oi.op
  ·rw[if_pos hi]
   have :=Hi hN _ _ nm hi
   have s3:rh P Γ ops (a7 P Γ ops σ oi) (a7 P Γ ops σ oi) oj:=vR hN oj rfl rfl rfl (fun _ _=>rfl) (fun _ _=>rfl)
   exact(s3.frame nm fun hw=>h2 nm hw this).symm
  ·rw[if_neg hi,s1.eff nm]
   split
   ·rfl
   ·rename_i hj
    have s3:rh P Γ ops (a7 P Γ ops σ oi) (a7 P Γ ops σ oi) oj:=vR hN oj rfl rfl rfl (fun _ _=>rfl) (fun _ _=>rfl)
    rw[s3.frame nm hj,s0.frame nm hi]
 have e2:(a7 P Γ ops (a7 P Γ ops σ oj) oi).env=(a7 P Γ ops (a7 P Γ ops σ oi) oj).env:=by
  funext x
  by_cases hi:oi.dst=some x
  ·have hj:oj.dst≠some x:=a2 x hi
   rw[rv (σ:=a7 P Γ ops σ oi) hj]
   show (match oi.dst with
    |some t=>upd (a7 P Γ ops σ oj).env t ⟨eL ops (a7 P Γ ops σ oj) oi,(aU P Γ (a7 P Γ ops σ oj) ((σ.base+t)::σ.pre) oi.op).d⟩
    |none=>(a7 P Γ ops σ oj).env) x=(match oi.dst with
    |some t=>upd σ.env t ⟨eL ops σ oi,(aU P Γ σ ((σ.base+t)::σ.pre) oi.op).d⟩
    |none=>σ.env) x
   have d1:=s2.d
   have g1:=s2.g
   unfold Oper.tt at d1
   simp only[hi,Option.getD_some]at d1 |-
   rw[aE,aE,d1,g1]
  ·rw[rv hi]
   by_cases hj:oj.dst=some x
   ·show (match oj.dst with
      |some t=>upd σ.env t ⟨eL ops σ oj,(aU P Γ σ ((σ.base+t)::σ.pre) oj.op).d⟩
      |none=>σ.env) x=(match oj.dst with
      |some t=>upd (a7 P Γ ops σ oi).env t ⟨eL ops (a7 P Γ ops σ oi) oj,(aU P Γ (a7 P Γ ops σ oi) ((σ.base+t)::σ.pre) oj.op).d⟩
      |none=>(a7 P Γ ops σ oi).env) x
    have d1:(aU P Γ σ (Oper.tt σ oj) oj.op).d=(aU P Γ (a7 P Γ ops σ oi) (Oper.tt σ oj) oj.op).d:=s1.d
    have g1:=s1.g
    unfold Oper.tt at d1
    simp only[hj,Option.getD_some]at d1 |-
    rw[aE,aE,d1,g1]
   ·rw[rv hj,rv hj,rv hi]
 have e3:(a7 P Γ ops (a7 P Γ ops σ oj) oi).nt=(a7 P Γ ops (a7 P Γ ops σ oi) oj).nt:=rfl
 have e4:(a7 P Γ ops (a7 P Γ ops σ oj) oi).pre=(a7 P Γ ops (a7 P Γ ops σ oi) oj).pre:=rfl
 have e5:(a7 P Γ ops (a7 P Γ ops σ oj) oi).base=(a7 P Γ ops (a7 P Γ ops σ oi) oj).base:=rfl
 generalize a7 P Γ ops (a7 P Γ ops σ oj) oi=x at *
 generalize a7 P Γ ops (a7 P Γ ops σ oi) oj=y at *
 cases x;cases y
 simp only at e1 e2 e3 e4 e5
 subst e1 e2 e3 e4 e5
 rfl
structure rk where
 on:Nat
 foot:List Name
 wrt:List Name
def yY(anc:List Nat)(foot wrt:List Name)(L:List rk):Prop:=∀ e∈L,e.on∈anc\/(yh e.wrt foot/\yh wrt e.foot)
variable (P Γ ops)in
def rm(anc:Nat->List Nat)(L:List rk)(K:S->Prop):Nat->Array Bool->S->Prop
 | 0,listed,σ=>Region.ready .any ops listed=[]/\K σ
 |fuel+1,listed,σ=>(Region.ready .any ops listed=[]->K σ)/\∀ i∈Region.ready .any ops listed,∀ o,ops[i]?=some o->
    lh P Γ ops σ o/\yY (anc i) (bL Γ σ (Oper.tt σ o) o.op) (br Γ σ (Oper.tt σ o) o.op) L/\rm anc L K fuel (listed.setIfInBounds i true) (a7 P Γ ops σ o)
def yi(ops:Array Oper)(anc:Nat->List Nat):Prop:=∀ j o,ops[j]?=some o->∀ i∈anc j,∃ e∈o.after,Region.binds .any e=true/\(e.on=i\/i∈anc e.on)
def tG(anc:Nat->List Nat)(listed:Array Bool):Prop:=∀ j,listed.getD j false=true->∀ i∈anc j,listed.getD i false=true
theorem tG.ready{anc:Nat->List Nat}{listed:Array Bool}(hA:yi ops anc)(h:tG anc listed){j:Nat}(hj:j∈Region.ready .any ops listed):∀ i∈anc j,listed.getD i false=true:=by
 intro i hi
 obtain⟨_,o,ho,ee⟩:=mem_ready.1 hj
 obtain⟨e,he,hb,h1⟩:=hA j o ho i hi
 have :=ee e he hb
 rcases h1 with h1 | h1
 ·rw[<-h1];exact this
 ·exact h _ this i h1
theorem tG.set{anc:Nat->List Nat}{listed:Array Bool}(hA:yi ops anc)(h:tG anc listed){j:Nat}(hj:j∈Region.ready .any ops listed):tG anc (listed.setIfInBounds j true):=by
 intro k hk i hi
 by_cases MC:j=k
 ·subst MC
  exact getD_set_true (h.ready hA hj i hi)
 ·rw[getD_set_ne false MC]at hk
  exact getD_set_true (h k hk i hi)
theorem pull(hN:∀ f s,Γ f=some s->s.Near){anc:Nat->List Nat}(hA:yi ops anc){K:S->Prop}{i:Nat}{oi:Oper}(hi:ops[i]?=some oi){L:List rk}:
 ∀ (fuel:Nat) (listed:Array Bool) (σ:S),tG anc listed->
   (∀ j oj,ops[j]?=some oj->j≠i->listed.getD j true=false->i∉anc j->oi.apart ops oj=true)->
   i∈Region.ready .any ops listed->lh P Γ ops σ oi->yY (anc i) (bL Γ σ (Oper.tt σ oi) oi.op) (br Γ σ (Oper.tt σ oi) oi.op) L->
   rm P Γ ops anc (⟨i,bL Γ σ (Oper.tt σ oi) oi.op,br Γ σ (Oper.tt σ oi) oi.op⟩::L) K fuel (listed.setIfInBounds i true) (a7 P Γ ops σ oi)->
   rm P Γ ops anc L K (fuel+1) listed σ:=by
 have weaken:∀ (e:rk) (fuel:Nat) (listed:Array Bool) (σ:S),rm P Γ ops anc (e::L) K fuel listed σ->rm P Γ ops anc L K fuel listed σ:=by
  intro e fuel
  induction fuel with
  |zero=>exact fun _ _ h=>h
  |succ n ih=>exact fun listed σ h=>⟨h.1,fun i hi o ho=>⟨(h.2 i hi o ho).1,fun e' mJ=>(h.2 i hi o ho).2.1 e' (List.mem_cons_of_mem _ mJ),ih _ _ (h.2 i hi o ho).2.2⟩⟩
 intro fuel
 induction fuel with
 |zero=>
  intro listed σ bS EP hr dW aa H
  refine⟨fun h=>(by rw[h]at hr;cases hr),fun j hj oj sw=>?_⟩
  by_cases nX:j=i
  ·subst nX
   rw[hi]at sw;cases sw
   exact⟨dW,aa,weaken _ _ _ _ H⟩
  ·have:=ready_mono hj nX
   rw[H.1]at this
   cases this
 |succ fuel ih=>
  intro listed σ bS EP hr dW aa H
  refine⟨fun h=>(by rw[h]at hr;cases hr),fun j hj oj sw=>?_⟩
  by_cases nX:j=i
  ·subst nX
   rw[hi]at sw;cases sw
   exact⟨dW,aa,weaken _ _ _ _ H⟩
  ·obtain⟨g1,g2,g3⟩:=H.2 j (ready_mono hj nX) oj sw
   have qm:listed.getD j true=false:=(mem_ready.1 hj).1
   have Mp:i∉anc j:=fun h=>by
    have h1:=bS.ready hA hj i h
    have h0:=(mem_ready.1 hr).1
    rcases Nat.lt_or_ge i listed.size with h' | h'
    ·simp[h']at h0 h1;rw[h0]at h1;cases h1
    ·simp[Array.getElem?_eq_none h']at h1
   rcases g2 _ List.mem_cons_self with k | ⟨d1,d2⟩
   ·exact(Mp k).elim
   simp only at d1 d2
   obtain⟨s1,s2,s3⟩:=comm hN (EP j oj sw nX qm Mp) d1 d2
   have f1:bL Γ σ (Oper.tt σ oj) oj.op=bL Γ (a7 P Γ ops σ oi) (Oper.tt σ oj) oj.op:=s1.foot
   have f2:br Γ σ (Oper.tt σ oj) oj.op=br Γ (a7 P Γ ops σ oi) (Oper.tt σ oj) oj.op:=s1.wrt
   have f3:bL Γ (a7 P Γ ops σ oj) (Oper.tt σ oi) oi.op=bL Γ σ (Oper.tt σ oi) oi.op:=s2.foot
   have f4:br Γ (a7 P Γ ops σ oj) (Oper.tt σ oi) oi.op=br Γ σ (Oper.tt σ oi) oi.op:=s2.wrt
   refine⟨s1.obl.2 g1,?_,?_⟩
   ·rw[f1,f2]
    exact fun e he=>g2 e (List.mem_cons_of_mem _ he)
   ·refine ih _ _ (bS.set hA hj) (fun k ok hk jV L6 dX=>EP k ok hk jV ?_ dX) (ready_mono hr (Ne.symm nX)) (s2.obl.2 dW) ?_ ?_
    ·by_cases qx:j=k
     ·subst qx;exact qm
     ·rw[getD_set_ne true qx]at L6;exact L6
    ·show yY (anc i) (bL Γ (a7 P Γ ops σ oj) (Oper.tt σ oi) oi.op) (br Γ (a7 P Γ ops σ oj) (Oper.tt σ oi) oi.op) L
     rw[f3,f4];exact aa
    ·show rm P Γ ops anc (⟨i,bL Γ (a7 P Γ ops σ oj) (Oper.tt σ oi) oi.op,br Γ (a7 P Γ ops σ oj) (Oper.tt σ oi) oi.op⟩::L) K fuel _ _
     rw[Array.setIfInBounds_comm _ _ nX,f3,f4,s3]
     exact g3
theorem PJ(hΓ:∀ f s,Γ f=some s->ak P f s){G:Ghost}{Q:Exit->Act->World->Prop}{K:S->Prop}{anc:Nat->List Nat}{L:List rk}:
 ∀ (fuel:Nat) (listed:Array Bool) {φ:Name->Loc} {m:Mem} {σ:S} {a:Act} {w:World},aD G φ m σ a w->rm P Γ ops anc L K fuel listed σ->
   (∀ a' w' φ' m' σ',aD G φ' m' σ' a' w'->K σ'->Q .normal a' w')->wpAnyIn (fb G.rd) 0 P .any ops Q fuel listed a w
 | 0,listed,φ,m,σ,a,w,hC,h,hQ=>⟨h.1,hQ _ _ φ m σ hC h.2⟩
 |fuel+1,listed,φ,m,σ,a,w,hC,h,hQ=>by
  refine⟨fun h0=>hQ _ _ φ m σ hC (h.1 h0),fun i hi=>?_⟩
  obtain⟨_,o,ho,_⟩:=mem_ready.1 hi
  obtain⟨h1,_,h3⟩:=h.2 i hi o ho
  exact BT hΓ hC ho h1 fun a' w' φ' m' bB=>PJ hΓ fuel _ bB h3 hQ
end
section
variable {P:Program} {Γ:FuncId->Option Spec} {ops:Array Oper}
structure tF where
 anc:List Nat
 past:rk
def et:Name->Name->Bool
 |[],[]=>true
 |x::r,y::s=>Nat.beq x y&&et r s
 |_,_=>false
theorem gB:∀ {a b:Name},et a b=true↔a=b
 |[],[]=>by simp[et]
 |[],_::_=>by simp[et]
 |_::_,[]=>by simp[et]
 |x::r,y::s=>by
  simp only[et,Bool.and_eq_true,Nat.beq_eq,List.cons.injEq,gB]
def uE:List Name->Name->Bool
 |[],_=>false
 |x::r,nm=>et x nm||uE r nm
theorem JH:∀ {l:List Name} {nm:Name},uE l nm=true↔nm∈l
 |[],nm=>by simp[uE]
 |x::r,nm=>by
  simp only[uE,Bool.or_eq_true,gB,List.mem_cons,JH]
  exact⟨fun h=>h.imp Eq.symm id,fun h=>h.imp Eq.symm id⟩
def kx:List Nat->Nat->Bool
 |[],_=>false
 |x::r,n=>Nat.beq x n||kx r n
theorem JI:∀ {l:List Nat} {n:Nat},kx l n=true↔n∈l
 |[],n=>by simp[kx]
 |x::r,n=>by
  simp only[kx,Bool.or_eq_true,Nat.beq_eq,List.mem_cons,JI]
  exact⟨fun h=>h.imp Eq.symm id,fun h=>h.imp Eq.symm id⟩
def vr:List Name->List Name->Bool
 |[],_=>true
 |x::r,b=>!uE b x&&vr r b
theorem F9:∀ {a b:List Name},vr a b=true->yh a b
 |[],_,_=>fun nm h=>by cases h
 |x::r,b,h=>by
  simp only[vr,Bool.and_eq_true,Bool.not_eq_true']at h
  intro nm ha hb
  rcases List.mem_cons.1 ha with rfl | ha
  ·rw[JH.2 hb]at h;cases h.1
  ·exact F9 h.2 nm ha hb
def OP(p:tF)(e:tF):Bool:=kx p.anc e.past.on||(vr e.past.wrt p.past.foot&&vr p.past.wrt e.past.foot)
def uo:List tF->Bool
 |[]=>true
 |p::L=>L.all (OP p)&&uo L
variable (P Γ ops)in
def pI:Nat->List (List Nat)->List Oper->List tF->S->(S->Prop)->Prop
 |_,_,[],L,σ,K=>uo L=true/\K σ
 |i,az,o::r,L,σ,K=>lh P Γ ops σ o/\
   pI (i+1) az.tail r (⟨az.headD [],i,bL Γ σ ((σ.base+o.dst.getD 0)::σ.pre) o.op,br Γ σ ((σ.base+o.dst.getD 0)::σ.pre) o.op⟩::L) (a7 P Γ ops σ o) K
variable (P Γ ops)in
def G3(anc:Nat->List Nat):Nat->List Oper->List rk->S->(S->Prop)->Prop
 |_,[],_,σ,K=>K σ
 |i,o::r,L,σ,K=>lh P Γ ops σ o/\yY (anc i) (bL Γ σ (Oper.tt σ o) o.op) (br Γ σ (Oper.tt σ o) o.op) L/\
   G3 anc (i+1) r (⟨i,bL Γ σ (Oper.tt σ o) o.op,br Γ σ (Oper.tt σ o) o.op⟩::L) (a7 P Γ ops σ o) K
theorem IF{anc:Nat->List Nat}{K:S->Prop}:∀ (l:List Oper) (i:Nat) (az:List (List Nat)) (L:List tF) (σ:S),(∀ k,az.getD k []=anc (i+k))->
 pI P Γ ops i az l L σ K->uo L=true/\G3 P Γ ops anc i l (L.map (·.past)) σ K
 |[],i,az,L,σ,_,h=>h
 |o::r,i,az,L,σ,ha,h=>by
  obtain⟨h1,h2⟩:=h
  obtain⟨h3,h4⟩:=IF (anc:=anc) r (i+1) az.tail _ _ (fun k=>by
   have :=ha (k+1)
   rw[show i+(k+1)=i+1+k by omega]at this
   rw[<-this]
   cases az<;>rfl) h2
  simp only[uo,Bool.and_eq_true]at h3
  refine⟨h3.2,h1,?_,h4⟩
  intro e he
  obtain⟨p,hp,rfl⟩:=List.mem_map.1 he
  have :=List.all_eq_true.1 h3.1 p hp
  simp only[OP,Bool.or_eq_true,Bool.and_eq_true]at this
  rcases this with k | ⟨k1,k2⟩
  ·left
   have h0:az.headD []=anc i:=by
    have :=ha 0
    rw[Nat.add_zero]at this
    rw[<-this]
    cases az<;>rfl
   rw[h0]at k
   exact JI.1 k
  ·exact .inr ⟨F9 k1,F9 k2⟩
theorem IG(hN:∀ f s,Γ f=some s->s.Near){anc:Nat->List Nat}(hA:yi ops anc)(lu:∀ i j oi oj,ops[i]?=some oi->ops[j]?=some oj->i<j->i∉anc j->oi.apart ops oj=true)
 (Aw:∀ j o,ops[j]?=some o->∀ e∈o.after,Region.binds .any e=true->e.on<j) {K:S->Prop}:
 ∀ (n k:Nat) (L:List rk) (listed:Array Bool) (σ:S),k+n=ops.size->listed.size=ops.size->(∀ j,listed.getD j false=decide (j<k))->tG anc listed->
   G3 P Γ ops anc k (ops.toList.drop k) L σ K->rm P Γ ops anc L K n listed σ
 | 0,k,L,listed,σ,hk,hs,hl,bS,h=>by
   have :ops.toList.drop k=[]:=List.drop_eq_nil_of_le (by simp;omega)
   rw[this]at h
   refine⟨?_,h⟩
   refine List.eq_nil_iff_forall_not_mem.2 fun j hj=>?_
   obtain⟨h1,o,ho,_⟩:=mem_ready.1 hj
   have ae:j<ops.size:=(Array.getElem?_eq_some_iff.1 ho).1
   have :=hl j
   simp only[Array.getD_eq_getD_getElem?,Array.getElem?_eq_getElem (show j<listed.size by omega),Option.getD_some]at h1 this
   rw[h1]at this
   simp at this
   omega
 |n+1,k,L,listed,σ,hk,hs,hl,bS,h=>by
  have ae:k<ops.size:=by omega
  have hd:ops.toList.drop k=ops[k]::ops.toList.drop (k+1):=by
   rw[List.drop_eq_getElem_cons (by simpa using ae)];simp
  rw[hd]at h
  obtain⟨h1,h2,h3⟩:=h
  have aa:ops[k]?=some ops[k]:=Array.getElem?_eq_getElem ae
  have uU:∀ j,j<listed.size->listed.getD j true=listed.getD j false:=by
   intro j hj
   simp only[Array.getD_eq_getD_getElem?,Array.getElem?_eq_getElem hj,Option.getD_some]
  have hr:k∈Region.ready .any ops listed:=by
   refine mem_ready.2 ⟨?_,_,aa,fun e he hb=>?_⟩
   ·rw[uU k (by omega),hl k];simp
   ·rw[hl];simpa using Aw k _ aa e he hb
  refine pull hN hA aa n listed σ bS (fun j oj hj al qm dX=>?_) hr h1 h2 ?_
  ·have EE:j<ops.size:=(Array.getElem?_eq_some_iff.1 hj).1
   rw[uU j (by omega),hl j]at qm
   simp at qm
   exact lu k j _ oj aa hj (by omega) dX
  ·refine IG hN hA lu Aw n (k+1) _ _ _ (by omega) (by simpa using hs) (fun j=>?_) (bS.set hA hr) h3
   by_cases qx:k=j
   ·subst qx
    simp[show k<listed.size by omega]
   ·rw[getD_set_ne false qx,hl j]
    refine decide_eq_decide.2 ?_
    omega
def tV(ops:Array Oper)(az:List (List Nat)):Bool:=
 (List.range ops.size).all fun j=>match ops[j]? with
   |none=>true
   |some oj=>(oj.after.toList.all fun e=>!Region.binds .any e||decide (e.on<j))&&
      ((az.getD j []).all fun i=>oj.after.toList.any fun e=>Region.binds .any e&&(e.on==i||(az.getD e.on []).contains i))&&
      (List.range j).all fun i=>(az.getD j []).contains i||(match ops[i]? with | some oi=>oi.apart ops oj | none=>true)
theorem AW(hΓ:∀ f s,Γ f=some s->ak P f s)(hP:P.follows .mixedOrders=true){id:Nat}{l:List Oper}{σ:S}{K:Exit->S->Prop}(az:List (List Nat))
 (hs:tV l.toArray az=true) (h:∀ K':S->Prop,(∀ σ',K .normal σ'->K' σ')->pI P Γ l.toArray 0 az l [] σ K'):CW P (.region id l.toArray true) σ K:=by
 intro G φ m a w hC
 have gE:∀ j oj,l.toArray[j]?=some oj->(oj.after.toList.all fun e=>!Region.binds .any e||decide (e.on<j))=true/\
       ((az.getD j []).all fun i=>oj.after.toList.any fun e=>Region.binds .any e&&(e.on==i||(az.getD e.on []).contains i))=true/\
       ((List.range j).all fun i=>(az.getD j []).contains i||(match l.toArray[i]? with | some oi=>oi.apart l.toArray oj | none=>true))=true:=by
  intro j oj hj
  have :=List.all_eq_true.1 hs j (List.mem_range.2 (Array.getElem?_eq_some_iff.1 hj).1)
  simp only[hj,Bool.and_eq_true]at this
  exact⟨this.1.1,this.1.2,this.2⟩
 have hN:∀ f s,Γ f=some s->s.Near:=fun f s h=>(hΓ f s h).near
 have hA:yi l.toArray (fun j=>az.getD j []):=by
  intro j o ho i hi
  have :=List.all_eq_true.1 (gE j o ho).2.1 i hi
  obtain⟨e,he,h1⟩:=List.any_eq_true.1 this
  simp only[Bool.and_eq_true,Bool.or_eq_true,beq_iff_eq,List.contains_iff_mem]at h1
  exact⟨e,by simpa using he,h1.1,h1.2⟩
 have lu:∀ i j oi oj,l.toArray[i]?=some oi->l.toArray[j]?=some oj->i<j->i∉az.getD j []->oi.apart l.toArray oj=true:=by
  intro i j oi oj h1 h2 h3 h4
  have :=List.all_eq_true.1 (gE j oj h2).2.2 i (List.mem_range.2 h3)
  simp only[h1,Bool.or_eq_true]at this
  rcases this with k | k
  ·exact(h4 (by simpa using k)).elim
  ·exact k
 have Aw:∀ j o,l.toArray[j]?=some o->∀ e∈o.after,Region.binds .any e=true->e.on<j:=by
  intro j o ho e he hb
  have :=List.all_eq_true.1 (gE j o ho).1 e (by simpa using he)
  simpa[hb]using this
 refine wpIn_region_any hP ?_
 obtain⟨_,hD⟩:=IF (anc:=fun j=>az.getD j []) l 0 az [] σ (fun k=>by simp) (h (K .normal) fun _ h=>h)
 refine PJ hΓ (K:=K .normal) _ _ (hC.drawn _) (IG hN hA lu Aw l.toArray.size 0 [] _ σ (by simp) (by simp) (fun j=>?_) (fun j hj=>?_) (by simpa using hD)) fun a' w' φ' m' σ' bB hK=>⟨φ',m',σ',bB,hK⟩
 ·by_cases hj:j<l.length<;>simp[hj]
 ·by_cases e7:j<l.length<;>simp[e7]at hj
theorem ab7(hΓ:∀ f s,Γ f=some s->ak P f s)(hP:P.follows .mixedOrders=true){id:Nat}{l:List Oper}{c:Code}{r:List Code}{σ:S}{K:Exit->S->Prop}(az:List (List Nat))(ks:List Nat)(ns:List Name)
 (hs:tV l.toArray az=true) (h:∀ K':S->Prop,(∀ σ',fI ks ns σ'->CL P (c::r) (fP ks ns σ') K->K' σ')->pI P Γ l.toArray 0 az l [] σ K'):CL P (.region id l.toArray true::c::r) σ K:=
 AW hΓ hP az hs fun K' hK=>h K' fun σ' hc hy=>hK σ' (AV ks ns hc hy)
theorem Gy(hΓ:∀ f s,Γ f=some s->ak P f s)(hP:P.follows .mixedOrders=true){id:Nat}{l:List Oper}{σ:S}{K:Exit->S->Prop}(az:List (List Nat))
 (hs:tV l.toArray az=true) (h:∀ K':S->Prop,(∀ σ',K .normal σ'->K' σ')->pI P Γ l.toArray 0 az l [] σ K'):CL P [.region id l.toArray true] σ K:=
 AW hΓ hP az hs fun K' hK=>h K' fun σ' hc=>hK σ' hc
end
attribute [go_sem] et uE kx vr Nat.beq_eq_true_eq pI bL br aH fp ef fJ eD muts O.mut PSpec.toSpec List.headD_cons List.headD_nil List.tail_cons List.tail_nil
mutual
def D.ren(f:Name->Name):D->D
 | .v x=>.v x
 | .nilsl=>.nilsl
 | .nilmap=>.nilmap
 | .ref nm o=>.ref (f nm) o
 | .msl nm k=>.msl (f nm) k
 | .aref nm k i o=>.aref (f nm) k i o
 | .map nm=>.map (f nm)
 | .yld nm=>.yld (f nm)
 | .clo fn a b=>.clo fn (D.renL f a) (D.renL f b)
 | .agg l=>.agg (D.renL f l)
 | .tup l=>.tup (D.renL f l)
 | .any=>.any
def D.renL(f:Name->Name):List D->List D
 |[]=>[]
 |d::r=>D.ren f d::D.renL f r
end
def E.ren(f:Name->Name)(e:E):E:=⟨e.c,e.d.ren f⟩
def O.ren(f:Name->Name):O->O
 | .box cs=>.box (D.renL f cs)
 | .loop env ps asg body st bo=>.loop (env.map (E.ren f)) ps asg body st bo
 | .arr sz l=>.arr sz l
 | .map kd es=>.map kd es
 | .fbox cs=>.fbox cs
 | .farr sz l=>.farr sz l
 | .dead sz n=>.dead sz n
theorem iE(f:Name->Name):∀ l:List D,D.renL f l=l.map (D.ren f)
 |[]=>rfl
 |d::r=>by simp only[D.renL,List.map_cons,iE f r]
theorem D.one_ren(f:Name->Name)(d:D):(d.ren f).one=d.one:=by cases d<;>rfl
theorem O.len_ren(f:Name->Name)(o:O):(o.ren f).len?=o.len?:=by cases o<;>rfl
theorem O.sz_ren(f:Name->Name)(o:O):(o.ren f).sz=o.sz:=by cases o<;>rfl
theorem O.mut_ren(f:Name->Name)(o:O):(o.ren f).mut=o.mut:=by cases o<;>rfl
def vI(f:Name->Name)(φ φ':Name->Loc)(obj obj':Name->Option O)(dom:Name->Bool):Prop:=
 ∀ nm o,dom nm=true->obj nm=some o->∃ o',obj' (f nm)=some o'/\
   ((o'.len?=o.len?/\φ' (f nm)=φ nm/\o'.sz=o.sz)\/(∃ n n',o.len?=some n/\o'.len?=some n'/\n<n'))
theorem aw.renx{f:Name->Name}{φ φ':Name->Loc}{obj obj':Name->Option O}{m m':Mem}{dom:Name->Bool}(hm:Mem.le m m')(hx:vI f φ φ' obj obj' dom){d:D}{u:Value}
 (h:aw φ obj m d u) (hc:D.clos dom d=true):aw φ' obj' m' (d.ren f) u:=by
 induction h with
 |any u=>exact .any u
 |v x u h=>exact .v x u (h.mono hm)
 |nilsl a=>exact .nilsl a
 |nilmap=>exact .nilmap
 |ref nm off h=>
  obtain⟨o,ho,hl⟩:=h
  obtain⟨o',cX,h⟩:=hx nm o hc ho
  rcases h with⟨h1,h2,h3⟩ | ⟨n,n',h1,h2,h3⟩
  ·rw[<-h2];exact .ref (f nm) off ⟨o',cX,h1.trans hl⟩
  ·rw[hl]at h1;cases h1
 |map nm h=>
  obtain⟨o,ho,hl⟩:=h
  obtain⟨o',cX,h⟩:=hx nm o hc ho
  rcases h with⟨h1,h2,h3⟩ | ⟨n,n',h1,h2,h3⟩
  ·rw[<-h2];exact .map (f nm) ⟨o',cX,h1.trans hl⟩
  ·rw[hl]at h1;cases h1
 |yld nm h=>
  obtain⟨o,ho,hl⟩:=h
  obtain⟨o',cX,h⟩:=hx nm o hc ho
  rcases h with⟨h1,h2,h3⟩ | ⟨n,n',h1,h2,h3⟩
  ·rw[<-h2];exact .yld (f nm) ⟨o',cX,h1.trans hl⟩
  ·rw[hl]at h1;cases h1
 |msl nm k u h hu=>
  obtain⟨o,n,ho,hl,hk,he⟩:=h
  obtain⟨o',cX,h⟩:=hx nm o hc ho
  rcases h with⟨h1,h2,h3⟩ | ⟨n1,n',h1,h2,h3⟩
  ·exact .msl (f nm) k u ⟨o',n,cX,h1.trans hl,hk,fun e=>by rw[h2];exact he e⟩ hu
  ·rw[hl]at h1;cases h1
   exact .msl (f nm) k u ⟨o',n',cX,h2,by omega,fun e=>by omega⟩ hu
 |aref nm k i off u h hu=>
  obtain⟨o,n,ho,hl,hk,he⟩:=h
  obtain⟨o',cX,h⟩:=hx nm o hc ho
  rcases h with⟨h1,h2,h3⟩ | ⟨n1,n',h1,h2,h3⟩
  ·exact .aref (f nm) k i off u ⟨o',n,cX,h1.trans hl,hk,fun e=>by rw[h2,h3];exact he e⟩ hu
  ·rw[hl]at h1;cases h1
   exact .aref (f nm) k i off u ⟨o',n',cX,h2,by omega,fun e=>by omega⟩ hu
 |clo fn fs cs us vs h1 h2 b9 dV oZ oY=>
  simp only[D.clos,Bool.and_eq_true]at hc
  simp only[D.ren,iE]
  refine .clo fn _ _ us vs (by simpa using h1) (by simpa using h2) (fun i a b=>?_) (fun i a b=>?_)
  ·simp only[List.getElem_map];exact oZ i (by simpa using a) b (iP _ hc.1)
  ·simp only[List.getElem_map];exact oY i (by simpa using a) b (iP _ hc.2)
 |agg l us h ho hr ih=>
  simp only[D.clos]at hc
  simp only[D.ren,iE]
  refine .agg _ us (by simpa using h) (fun d hd=>?_) (fun i a b=>?_)
  ·obtain⟨d',h1,rfl⟩:=List.mem_map.1 hd
   rw[D.one_ren];exact ho d' h1
  ·simp only[List.getElem_map];exact ih i (by simpa using a) b (iP _ hc)
 |tup l us h hr ih=>
  simp only[D.clos]at hc
  simp only[D.ren,iE]
  refine .tup _ us (by simpa using h) (fun i a b=>?_)
  simp only[List.getElem_map];exact ih i (by simpa using a) b (iP _ hc)
theorem bU.renx{f:Name->Name}{φ φ':Name->Loc}{obj obj':Name->Option O}{m m':Mem}{dom:Name->Bool}(hm:Mem.le m m')(hx:vI f φ φ' obj obj' dom){e:E}{u:Value}
 (h:bU φ obj m e u) (hc:D.clos dom e.d=true):bU φ' obj' m' (e.ren f) u:=by
 unfold bU at *
 have e0:(E.ren f e).c=e.c:=rfl
 have e1:(E.ren f e).d=e.d.ren f:=rfl
 rw[e0,e1]
 by_cases hh:e.c=true
 ·rw[if_pos hh]at h |-;exact h.renx hm hx hc
 ·rw[if_neg hh]at h |-;exact h
theorem gZ.ren{f:Name->Name}{φ φ':Name->Loc}{obj obj':Name->Option O}{m m':Mem}{dom:Name->Bool}{o:O}{p:Loc}{w w':World}(hm:Mem.le m m')(hx:vI f φ φ' obj obj' dom)
 (hc:O.clos dom o=true) (hw:o.mut=true->p.nul=false->w'.heap[p.blk]?=w.heap[p.blk]?) (h:gZ φ obj m o p w):gZ φ' obj' m' (o.ren f) p w':=by
 cases o with
 |box cs=>
  obtain⟨h0,h1,fq,us,T,g,h2,h3,h4,h5⟩:=h
  simp only[O.clos]at hc
  simp only[O.ren,gZ,iE,List.length_map,List.getElem_map,List.mem_map,forall_exists_index,and_imp,forall_apply_eq_imp_iff₂,D.one_ren]
  exact⟨h0,h1,fq,us,T,g,by rw[hw rfl h1];exact h2,h3,h4,fun i a b=>(h5 i a b).renx hm hx (iP a hc)⟩
 |arr sz l=>
  rcases h with⟨h,h'⟩ | ⟨h0,h1,h2,h3,h4,us,T,f,h5,h6,h7,h8⟩
  ·exact .inl ⟨h,h'⟩
  ·exact .inr ⟨h0,h1,h2,h3,h4,us,T,f,by rw[hw rfl h0];exact h5,h6,h7,fun i j a b=>let ⟨c,x,y⟩:=h8 i j a b;⟨c,x,y.mono hm⟩⟩
 |map kd es=>
  obtain⟨h0,h1,fq,us,T,h2,h3,h4⟩:=h
  exact⟨h0,h1,fq,us,T,by rw[hw rfl h1];exact h2,h3,fun i a b=>⟨(h4 i a b).1.mono hm,(h4 i a b).2.mono hm⟩⟩
 |fbox cs=>exact⟨h.1,fun i a=>let ⟨c,x,y⟩:=h.2 i a;⟨c,hm _ _ _ x,y.mono hm⟩⟩
 |farr sz l=>
  rcases h with⟨h,h'⟩ | ⟨h0,h1,h2,h3,h4⟩
  ·exact .inl ⟨h,h'⟩
  ·exact .inr ⟨h0,h1,h2,h3,fun i j a b=>let ⟨c,x,y⟩:=h4 i j a b;⟨c,hm _ _ _ x,y.mono hm⟩⟩
 |dead=>exact h
 |loop env ps asg body st bo=>
  obtain⟨h0,h1,r,h2,h3,h4,h5,h6,h7,h8,h9⟩:=h
  simp only[O.clos]at hc
  simp only[O.ren,gZ,List.length_map,List.getElem_map]
  refine⟨h0,h1,r,by rw[hw rfl h1];exact h2,h3,h4,h5,h6,h7,h8,fun i a=>(h9 i a).renx hm hx ?_⟩
  have :=iP (l:=env.map (·.d)) (i:=i) (by simpa using a) hc
  simpa using this
mutual
theorem D.ren_id{f g:Name->Name}{dom:Name->Bool}(jX:∀ nm,dom nm=true->g (f nm)=nm):∀ d:D,D.clos dom d=true->(d.ren f).ren g=d
 | .v _,_=>rfl
 | .nilsl,_=>rfl
 | .nilmap,_=>rfl
 | .any,_=>rfl
 | .ref nm _,h=>by simp only[D.ren];rw[jX nm h]
 | .msl nm _,h=>by simp only[D.ren];rw[jX nm h]
 | .aref nm _ _ _,h=>by simp only[D.ren];rw[jX nm h]
 | .map nm,h=>by simp only[D.ren];rw[jX nm h]
 | .yld nm,h=>by simp only[D.ren];rw[jX nm h]
 | .clo _ a b,h=>by
   simp only[D.clos,Bool.and_eq_true]at h
   simp only[D.ren];rw[D.renL_id jX a h.1,D.renL_id jX b h.2]
 | .agg l,h=>by simp only[D.clos]at h;simp only[D.ren];rw[D.renL_id jX l h]
 | .tup l,h=>by simp only[D.clos]at h;simp only[D.ren];rw[D.renL_id jX l h]
theorem D.renL_id{f g:Name->Name}{dom:Name->Bool}(jX:∀ nm,dom nm=true->g (f nm)=nm):∀ l:List D,D.closL dom l=true->D.renL g (D.renL f l)=l
 |[],_=>rfl
 |d::r,h=>by
  simp only[D.closL,Bool.and_eq_true]at h
  simp only[D.renL];rw[D.ren_id jX d h.1,D.renL_id jX r h.2]
end
theorem O.ren_id{f g:Name->Name}{dom:Name->Bool}(jX:∀ nm,dom nm=true->g (f nm)=nm)(o:O)(h:O.clos dom o=true):(o.ren f).ren g=o:=by
 cases o with
 |box cs=>simp only[O.clos]at h;simp only[O.ren];rw[D.renL_id jX cs h]
 |loop env ps asg body st bo=>
  simp only[O.clos]at h
  simp only[O.ren,List.map_map,O.loop.injEq,and_true]
  refine List.ext_getElem (by simp) fun i h1 h2=>?_
  have :=iP (l:=env.map (·.d)) (i:=i) (by simpa using h2) h
  simp only[List.getElem_map,Function.comp_apply,E.ren]at this |-
  rw[D.ren_id jX _ this]
 |_=>rfl
mutual
def rX:D->List Name
 | .ref nm _=>[nm]
 | .msl nm _=>[nm]
 | .aref nm _ _ _=>[nm]
 | .map nm=>[nm]
 | .yld nm=>[nm]
 | .clo _ a b=>cU a++cU b
 | .agg l=>cU l
 | .tup l=>cU l
 |_=>[]
def cU:List D->List Name
 |[]=>[]
 |d::r=>rX d++cU r
end
def my:O->List Name
 | .box cs=>cU cs
 | .loop env _ _ _ _ _=>cU (env.map (·.d))
 |_=>[]
def cj(L:List Name)(nm:Name):Bool:=L.any fun x=>x==nm
def dO(obj:Name->Option O):Nat->List Name->List Name->List Name
 | 0,_,acc=>acc
 |_+1,[],acc=>acc
 |n+1,x::todo,acc=>if cj acc x=true then dO obj n todo acc else dO obj n ((match obj x with | some o=>my o | none=>[])++todo) (acc++[x])
def reach(obj:Name->Option O)(ds:List D):List Name:=dO obj 3000 (cU ds) []
theorem ic{L:List Name}{nm:Name}:cj L nm=true↔nm∈L:=by
 simp only[cj,List.any_eq_true,beq_iff_eq]
 exact⟨fun ⟨x,h,e⟩=>e▸h,fun h=>⟨nm,h,rfl⟩⟩
theorem Cj{obj:Name->Option O}:∀ (n:Nat) (todo acc:List Name),∀ nm∈acc,nm∈dO obj n todo acc
 | 0,_,_,_,h=>h
 |_+1,[],_,_,h=>h
 |n+1,x::todo,acc,nm,h=>by
  simp only[dO]
  split
  ·exact Cj n _ _ nm h
  ·exact Cj n _ _ nm (by simp[h])
theorem yH{obj:Name->Option O}:∀ (n:Nat) (todo acc:List Name),acc.Nodup->(dO obj n todo acc).Nodup
 | 0,_,_,h=>h
 |_+1,[],_,h=>h
 |n+1,x::todo,acc,h=>by
  simp only[dO]
  split
  ·exact yH n _ _ h
  ·rename_i hx
   refine yH n _ _ (List.nodup_append.2 ⟨h,by simp,fun a ha b hb=>?_⟩)
   simp only[List.mem_singleton]at hb
   subst hb
   rintro rfl
   exact hx (ic.2 ha)
theorem Ci{obj obj2:Name->Option O}:∀ (n:Nat) (todo acc:List Name),bw (dO obj n todo acc) obj obj2->dO obj2 n todo acc=dO obj n todo acc
 | 0,_,_,_=>rfl
 |_+1,[],_,_=>rfl
 |n+1,x::todo,acc,h=>by
  simp only[dO]at h |-
  split
  ·rename_i hx;rw[if_pos hx]at h;exact Ci n _ _ h
  ·rename_i hx
   rw[if_neg hx]at h
   have a8:obj2 x=obj x:=h x (Cj n _ _ x (by simp))
   rw[a8]
   exact Ci n _ _ h
def idx:List Name->Name->Nat
 |[],_=>0
 |x::r,nm=>if x=nm then 0 else idx r nm+1
def cin(L:List Name)(nm:Name):Name:=[idx L nm,1]
def cout(L:List Name)(t:Name):Name->Name
 |[i,1]=>L.getD i []
 |x=>x++t
def cJ:Name->Bool
 |[_,1]=>true
 |_=>false
theorem uK:∀ {L:List Name} {nm:Name},nm∈L->∃ h:idx L nm<L.length,L[idx L nm]=nm
 |x::r,nm,h=>by
  simp only[idx]
  by_cases e:x=nm
  ·subst e;simp
  ·simp only[if_neg e]
   obtain⟨h1,h2⟩:=uK (L:=r) (nm:=nm) (by rcases List.mem_cons.1 h with h | h; · exact(e h.symm).elim
                                         ·exact h)
   exact⟨by simp;omega,by simpa using h2⟩
theorem abR{L:List Name}{t nm:Name}(h:nm∈L):cout L t (cin L nm)=nm:=by
 obtain⟨h1,h2⟩:=uK h
 show L.getD (idx L nm) []=nm
 rw[List.getD_eq_getElem?_getD,List.getElem?_eq_getElem h1];simpa using h2
theorem vA{L:List Name}{t x:Name}(h:cJ x=false):cout L t x=x++t:=by
 unfold cout
 split
 ·simp[cJ]at h
 ·rfl
theorem uG{x:Name}:cJ x=true↔∃ i,x=[i,1]:=by
 constructor
 ·intro h
  unfold cJ at h
  split at h
  ·exact⟨_,rfl⟩
  ·cases h
 ·rintro⟨i,rfl⟩;rfl
theorem I'(i:Nat):own [0] [i,1]=false:=by simp[own]
theorem DA{L:List Name}(hn:L.Nodup){i:Nat}(h:i<L.length):idx L L[i]=i:=by
 obtain⟨h1,h2⟩:=uK (List.getElem_mem h)
 exact(List.getElem_inj hn).1 h2
structure Out where
 upd:List (Nat×O)
 new:List (Name×O)
 d:D
 deriving Inhabited
def eX:List (Nat×O)->Nat->O->O
 |[],_,o=>o
 |(j,o')::r,i,o=>eX r i (if j=i then o' else o)
def cg(L:List Name)(t:Name):List (Nat×O)->(Name->Option O)->(Name->Option O)
 |[],obj=>obj
 |(i,o)::r,obj=>cg L t r (upd obj (L.getD i []) (some (o.ren (cout L t))))
def dt(L:List Name)(t:Name):List (Name×O)->(Name->Option O)->(Name->Option O)
 |[],obj=>obj
 |(x,o)::r,obj=>dt L t r (upd obj (x++t) (some (o.ren (cout L t))))
theorem IN{L:List Name}{t:Name}(hn:L.Nodup):∀ (l:List (Nat×O)) (obj:Name->Option O) {i:Nat} (h:i<L.length) (o:O) (_:(l.all fun x=>decide (x.1<L.length))=true) (_:obj L[i]=some (o.ren (cout L t))),
 cg L t l obj L[i]=some ((eX l i o).ren (cout L t))
 |[],obj,i,h,o,_,ho=>ho
 |(j,o')::r,obj,i,h,o,hl,ho=>by
  simp only[List.all_cons,Bool.and_eq_true,decide_eq_true_eq]at hl
  simp only[cg,eX]
  refine IN hn r _ h _ hl.2 ?_
  have e:L.getD j []=L[j]:=by rw[List.getD_eq_getElem?_getD,List.getElem?_eq_getElem hl.1];rfl
  rw[e]
  by_cases hj:j=i
  ·subst hj;rw[aE,if_pos rfl]
  ·rw[aI _ _ _ (fun e'=>hj ((List.getElem_inj hn).1 e').symm),if_neg hj];exact ho
theorem Co{L:List Name}{t:Name}:∀ (l:List (Nat×O)) (obj:Name->Option O) {nm:Name} (_:(l.all fun x=>decide (x.1<L.length))=true) (_:nm∉L),cg L t l obj nm=obj nm
 |[],_,_,_,_=>rfl
 |(j,o')::r,obj,nm,hl,hn=>by
  simp only[List.all_cons,Bool.and_eq_true,decide_eq_true_eq]at hl
  simp only[cg]
  rw[Co r _ hl.2 hn]
  refine aI _ _ _ ?_
  rintro rfl
  refine hn ?_
  rw[List.getD_eq_getElem?_getD,List.getElem?_eq_getElem hl.1];simp
theorem wc{L:List Name}{t:Name}:∀ (l:List (Name×O)) (obj:Name->Option O) {nm:Name} (_:∀ x∈l,nm≠x.1++t),dt L t l obj nm=obj nm
 |[],_,_,_=>rfl
 |(x,o')::r,obj,nm,hl=>by
  simp only[dt]
  rw[wc r _ fun y hy=>hl y (by simp[hy])]
  exact aI _ _ _ (hl (x,o') (by simp))
theorem IP{L:List Name}{t:Name}:∀ (l:List (Name×O)) (obj:Name->Option O) (_:(l.map (·.1)).Nodup) {x:Name} {o:O} (_:(x,o)∈l),dt L t l obj (x++t)=some (o.ren (cout L t))
 |(y,o')::r,obj,hn,x,o,h=>by
  simp only[List.map_cons,List.nodup_cons]at hn
  simp only[dt]
  rcases List.mem_cons.1 h with h | h
  ·cases h
   rw[wc r _ fun z hz e=>hn.1 (by
    have :_=z.1:=List.append_cancel_right e
    rw[this];exact List.mem_map_of_mem hz)]
   exact aE _ _ _
  ·exact IP r _ hn.2 h
def dH(n:Nat)(new:List (Name×O)):Name->Bool
 |[i,1]=>decide (i<n)
 |x=>new.any fun y=>y.1==x
section
variable {G:Ghost} {φ:Name->Loc} {m:Mem} {σ:S} {a:Act} {w:World}
def cf(L:List Name)(obj:Name->Option O)(nm:Name):O:=match obj nm with
 |some o=>o.ren (cin L)
 |none=>.fbox []
def shut(obj:Name->Option O)(L:List Name):Bool:=L.all fun nm=>match obj nm with
 |some o=>O.clos (cj L) o
 |none=>false
def jN(L:List Name)(obj:Name->Option O):Name->Option O
 |[i,1]=>if i<L.length then some (cf L obj (L.getD i []))else none
 |_=>none
def mm(L:List Name)(φ:Name->Loc):Name->Loc
 |[i,1]=>φ (L.getD i [])
 |_=>⟨0,0,0,true,none⟩
def ou(L:List Name)(φ:Name->Loc)(obj:Name->Option O)(b:Nat):Prop:=∃ nm∈L,holds φ obj nm/\(φ nm).blk=b
theorem vW{obj:Name->Option O}{L:List Name}(h:shut obj L=true){nm:Name}(hn:nm∈L):∃ o,obj nm=some o/\O.clos (cj L) o=true:=by
 have :=List.all_eq_true.1 h nm hn
 cases ho:obj nm with
 |none=>simp[ho]at this
 |some o=>simp only[ho]at this;exact⟨o,rfl,this⟩
theorem kN{L:List Name}{i:Nat}(h:i<L.length):L.getD i []=L[i]:=by rw[List.getD_eq_getElem?_getD,List.getElem?_eq_getElem h];rfl
theorem Vn{L:List Name}{obj:Name->Option O}{nm:Name}(hn:nm∈L):jN L obj (cin L nm)=some (cf L obj nm):=by
 obtain⟨h1,h2⟩:=uK hn
 show (if idx L nm<L.length then some (cf L obj (L.getD (idx L nm) []))else none)=_
 rw[if_pos h1,kN h1,h2]
theorem Q3{L:List Name}{φ:Name->Loc}{nm:Name}(hn:nm∈L):mm L φ (cin L nm)=φ nm:=by
 obtain⟨h1,h2⟩:=uK hn
 show φ (L.getD (idx L nm) [])=_
 rw[kN h1,h2]
theorem yG{L:List Name}{obj:Name->Option O}:vI (cin L) φ (mm L φ) obj (jN L obj) (cj L):=by
 intro nm o hd ho
 have hn:=ic.1 hd
 refine⟨cf L obj nm,Vn hn,.inl ⟨?_,Q3 hn,?_⟩⟩
 ·simp only[cf,ho];exact O.len_ren _ _
 ·simp only[cf,ho];exact O.sz_ren _ _
theorem CI{L:List Name}{obj:Name->Option O}{x:Name}{o:O}(h:jN L obj x=some o):∃ (i:Nat) (hi:i<L.length),x=[i,1]/\o=cf L obj L[i]:=by
 unfold jN at h
 split at h
 ·rename_i i
  split at h
  ·rename_i hi
   cases h
   exact⟨i,hi,rfl,by rw[kN hi]⟩
  ·cases h
 ·cases h
def vH(w:World)(L:List Name)(φ:Name->Loc)(obj:Name->Option O):Prop:=kf w/\∀ q∈yo,¬ ou L φ obj q.1
def sX(w:World)(m:Mem)(L:List Name)(φ:Name->Loc)(obj:Name->Option O)(rd:Option Nat)(h:∀ l,rd=some l->¬ ou L φ obj l/\∃ r,w.heap[l]?=some (.loop r))(ht:vH w L φ obj):Ghost:=
 ⟨w,m,ou L φ obj,rd,mm L φ,jN L obj,h,ht⟩
theorem yn(hC:aD G φ m σ a w)(L:List Name):vH w L φ σ.obj:=by
 refine⟨hC.fr.tab,fun q hq=>?_⟩
 rintro⟨nm,_,hh,e⟩
 obtain⟨T,f,h1⟩:=G.tab.1 q hq
 have h2:=(Array.getElem?_eq_some_iff.1 h1).1
 rcases hC.own nm hh with h3 | h3
 ·omega
 ·rw[e]at h3;exact G.tab.2 q hq h3
theorem z8{L:List Name}{obj:Name->Option O}(hL:shut obj L=true){x:Name}(h:holds (mm L φ) (jN L obj) x):∃ (i:Nat) (hi:i<L.length),x=[i,1]/\holds φ obj L[i]:=by
 obtain⟨o,h1,h2,h3⟩:=h
 obtain⟨i,hi,rfl,rfl⟩:=CI h1
 obtain⟨o',h4,_⟩:=vW hL (List.getElem_mem hi)
 refine⟨i,hi,rfl,o',h4,?_,?_⟩
 ·simp only[cf,h4,O.mut_ren]at h2;exact h2
 ·have:mm L φ [i,1]=φ L[i]:=by show φ (L.getD i [])=_;rw[kN hi]
  rw[this]at h3;exact h3
theorem Nr(hC:aD G φ m σ a w){L:List Name}(hn:L.Nodup)(hL:shut σ.obj L=true){rd:Option Nat}(mD:∀ l,rd=some l->¬ ou L φ σ.obj l/\∃ r,w.heap[l]?=some (.loop r))
 {nt b0:Nat} {env:Nat->E} {tmps:Array Value} (hs:tmps.size=nt) (he:∀ t,bU (mm L φ) (jN L σ.obj) m (env t) (tmps.getD t undef)):
 aD (sX w m L φ σ.obj rd mD (yn hC L)) (mm L φ) m ⟨nt,env,jN L σ.obj,[0],b0⟩ { tmps:=tmps,defers:=[] } w:=by
 have hφ:∀ (i:Nat) (hi:i<L.length),mm L φ [i,1]=φ L[i]:=fun i hi=>by show φ (L.getD i [])=_;rw[kN hi]
 constructor
 ·exact he
 ·exact hs
 ·exact⟨[],rfl,by simp,by simp⟩
 ·intro x o hx
  obtain⟨i,hi,rfl,rfl⟩:=CI hx
  obtain⟨o',h4,h5⟩:=vW hL (List.getElem_mem hi)
  rw[hφ i hi]
  simp only[cf,h4]
  exact(hC.objs _ _ h4).ren (Mem.le_refl m) yG h5 fun _ _=>rfl
 ·exact hC.mem
 ·intro x hx off
  obtain⟨i,hi,rfl,h⟩:=z8 hL hx
  rw[hφ i hi]
  exact hC.apart _ h off
 ·intro x y hx hy e
  obtain⟨i,hi,rfl,h⟩:=z8 hL hx
  obtain⟨j,hj,rfl,h'⟩:=z8 hL hy
  rw[hφ i hi,hφ j hj]at e
  have :=(List.getElem_inj hn).1 (hC.inj _ _ h h' e)
  rw[this]
 ·intro x hx
  obtain⟨i,hi,rfl,h⟩:=z8 hL hx
  rw[hφ i hi]
  exact .inr ⟨_,List.getElem_mem hi,h,rfl⟩
 ·exact⟨rfl,rfl,rfl,Nat.le_refl _,fun _ _ _=>rfl⟩
 ·intro b off v h;exact .inl h
 ·refine⟨fun x o hx=>?_,Ext.refl _ _⟩
  obtain⟨i,hi,rfl,_⟩:=CI hx
  exact I' i
structure Q2 (σ:S) (os:List O) (o:Out):Prop where
 objs:∀ i (h:i<os.length),σ.obj [i,1]=some (eX o.upd i os[i])
 news:∀ x∈o.new,σ.obj x.1=some x.2
 cd:D.clos (dH os.length o.new) o.d=true
 cu:(o.upd.all fun x=>O.clos (dH os.length o.new) x.2&&decide (x.1<os.length))=true
 cn:(o.new.all fun x=>O.clos (dH os.length o.new) x.2&&!cJ x.1)=true
 nd:(o.new.map (·.1)).Nodup
def fresh(obj:Name->Option O)(t:Name)(new:List (Name×O)):Bool:=new.all fun x=>(obj (x.1++t)).isNone
theorem aa9{n:Nat}{new:List (Name×O)}{x:Name×O}(h:cJ x.1=false)(hx:x∈new):dH n new x.1=true:=by
 have key:∀ nm:Name,cJ nm=false->dH n new nm=new.any fun y=>y.1==nm:=by
  intro nm h
  unfold dH
  split
  ·simp[cJ]at h
  ·rfl
 rw[key _ h]
 exact List.any_eq_true.2 ⟨x,hx,by simp⟩
theorem JY{dom:Name->Bool}:∀ (l:List (Nat×O)) (i:Nat) (o:O),O.clos dom o=true->(∀ x∈l,O.clos dom x.2=true)->O.clos dom (eX l i o)=true
 |[],_,_,h,_=>h
 |(j,o')::r,i,o,h,hl=>by
  simp only[eX]
  refine JY r i _ ?_ fun x hx=>hl x (by simp[hx])
  split
  ·exact hl (j,o') (by simp)
  ·exact h
mutual
theorem clos_ren{f:Name->Name}{dom jl:Name->Bool}(hf:∀ nm,dom nm=true->jl (f nm)=true):∀ d:D,D.clos dom d=true->D.clos jl (d.ren f)=true
 | .v _,_=>by simp only[D.ren,D.clos]
 | .nilsl,_=>by simp only[D.ren,D.clos]
 | .nilmap,_=>by simp only[D.ren,D.clos]
 | .any,_=>by simp only[D.ren,D.clos]
 | .ref nm _,h=>hf nm h
 | .msl nm _,h=>hf nm h
 | .aref nm _ _ _,h=>hf nm h
 | .map nm,h=>hf nm h
 | .yld nm,h=>hf nm h
 | .clo _ a b,h=>by
   simp only[D.clos,Bool.and_eq_true]at h
   simp only[D.ren,D.clos,Bool.and_eq_true]
   exact⟨tk hf a h.1,tk hf b h.2⟩
 | .agg l,h=>by simp only[D.clos]at h;simp only[D.ren,D.clos];exact tk hf l h
 | .tup l,h=>by simp only[D.clos]at h;simp only[D.ren,D.clos];exact tk hf l h
theorem tk{f:Name->Name}{dom jl:Name->Bool}(hf:∀ nm,dom nm=true->jl (f nm)=true):∀ l:List D,D.closL dom l=true->D.closL jl (D.renL f l)=true
 |[],_=>by simp only[D.renL,D.closL]
 |d::r,h=>by
  simp only[D.closL,Bool.and_eq_true]at h
  simp only[D.renL,D.closL,Bool.and_eq_true]
  exact⟨clos_ren hf d h.1,tk hf r h.2⟩
end
theorem O.clos_ren{f:Name->Name}{dom jl:Name->Bool}(hf:∀ nm,dom nm=true->jl (f nm)=true)(o:O)(h:O.clos dom o=true):O.clos jl (o.ren f)=true:=by
 cases o with
 |box cs=>simp only[O.clos]at h;simp only[O.ren,O.clos];exact tk hf cs h
 |loop env ps asg body st bo=>
  simp only[O.clos]at h
  simp only[O.ren,O.clos]
  have :=tk hf _ h
  rw[iE,List.map_map]at this
  rw[List.map_map]
  exact this
 |_=>rfl
theorem Nq(hC:aD G φ m σ a w){L:List Name}(hn:L.Nodup)(hL:shut σ.obj L=true){rd:Option Nat}{mD:∀ l,rd=some l->¬ ou L φ σ.obj l/\∃ r,w.heap[l]?=some (.loop r)}
 {ht:vH w L φ σ.obj} {φ2:Name->Loc} {m2:Mem} {σ2:S} {a2:Act} {w2:World} (fE:aD (sX w m L φ σ.obj rd mD ht) φ2 m2 σ2 a2 w2) {o:Out} (hE:Q2 σ2 (L.map (cf L σ.obj)) o) {t:Name} (hf:fresh σ.obj t o.new=true):
 ∃ φ' m',Mem.le m m'/\aD G φ' m' { σ with obj:=dt L t o.new (cg L t o.upd σ.obj) } a w2/\
   Ext φ φ' σ.obj (dt L t o.new (cg L t o.upd σ.obj))/\
   (∀ d u,aw φ2 σ2.obj m2 d u->D.clos (dH L.length o.new) d=true->aw φ' (dt L t o.new (cg L t o.upd σ.obj)) m' (d.ren (cout L t)) u):=by
 have hlen:(L.map (cf L σ.obj)).length=L.length:=by simp
 obtain⟨h1,h2,h3,h4,h5,h6⟩:=hE
 rw[hlen]at h3 h4 h5
 have hu:(o.upd.all fun x=>decide (x.1<L.length))=true:=List.all_eq_true.2 fun x hx=>by
  have :=List.all_eq_true.1 h4 x hx
  simp only[Bool.and_eq_true]at this;exact this.2
 have zU:∀ x∈o.upd,O.clos (dH L.length o.new) x.2=true:=fun x hx=>by
  have :=List.all_eq_true.1 h4 x hx
  simp only[Bool.and_eq_true]at this;exact this.1
 have Em:∀ x∈o.new,O.clos (dH L.length o.new) x.2=true:=fun x hx=>by
  have :=List.all_eq_true.1 h5 x hx
  simp only[Bool.and_eq_true]at this;exact this.1
 have El:∀ x∈o.new,cJ x.1=false:=fun x hx=>by
  have :=List.all_eq_true.1 h5 x hx
  simp only[Bool.and_eq_true,Bool.not_eq_true']at this;exact this.2
 have cF:∀ x∈o.new,σ.obj (x.1++t)=none:=fun x hx=>by
  have :=List.all_eq_true.1 hf x hx
  simpa using this
 have hLs:∀ nm∈L,∃ o,σ.obj nm=some o:=fun nm h=>let ⟨o,h,_⟩:=vW hL h;⟨o,h⟩
 have n0:∀ nm∈L,∀ x∈o.new,nm≠x.1++t:=fun nm h x hx e=>by
  obtain⟨o',ho⟩:=hLs nm h
  rw[e,cF x hx]at ho;cases ho
 have MT:∀ nm,cj L nm=true->cout L t (cin L nm)=nm:=fun nm h=>abR (ic.1 h)
 generalize dW:dt L t o.new (cg L t o.upd σ.obj)=obj'
 have z':∀ (i:Nat) (hi:i<L.length),obj' L[i]=some ((eX o.upd i (cf L σ.obj L[i])).ren (cout L t)):=fun i hi=>by
  rw[<-dW,wc _ _ (n0 _ (List.getElem_mem hi))]
  refine IN hn _ _ hi _ hu ?_
  obtain⟨o',ho,hc⟩:=vW hL (List.getElem_mem hi)
  simp only[cf,ho]
  rw[O.ren_id MT o' hc]
 have Ei:∀ x∈o.new,obj' (x.1++t)=some (x.2.ren (cout L t)):=fun x hx=>by rw[<-dW];exact IP _ _ h6 hx
 have Eh:∀ nm,nm∉L->(∀ x∈o.new,nm≠x.1++t)->obj' nm=σ.obj nm:=fun nm h h'=>by rw[<-dW,wc _ _ h',Co _ _ hu h]
 let φ':Name->Loc:=fun nm=>if nm∈L then φ2 (cin L nm)else match o.new.find? (fun x=>x.1++t==nm)with
  |some x=>φ2 x.1
  |none=>φ nm
 have wF:∀ (i:Nat) (hi:i<L.length),φ' L[i]=φ2 [i,1]:=fun i hi=>by
  show (if L[i]∈L then φ2 (cin L L[i])else _)=_
  rw[if_pos (List.getElem_mem hi)]
  show φ2 [idx L L[i],1]=_
  rw[DA hn hi]
 have zN:∀ x∈o.new,φ' (x.1++t)=φ2 x.1:=fun x hx=>by
  show (if x.1++t∈L then _ else _)=_
  rw[if_neg fun h=>n0 _ h x hx rfl]
  cases qB:o.new.find? (fun y=>y.1++t==x.1++t)with
  |none=>have:=List.find?_eq_none.1 qB x hx;simp at this
  |some y=>
   have :=List.find?_some qB
   simp only[beq_iff_eq]at this
   simp only[List.append_cancel_right this]
 have zM:∀ nm,nm∉L->(∀ x∈o.new,nm≠x.1++t)->φ' nm=φ nm:=fun nm h h'=>by
  show (if nm∈L then _ else _)=_
  rw[if_neg h]
  cases qB:o.new.find? (fun y=>y.1++t==nm)with
  |none=>rfl
  |some y=>
   have :=List.find?_some qB
   simp only[beq_iff_eq]at this
   exact(h' y (List.mem_of_find?_eq_some qB) this.symm).elim
 let m':Mem:=fun b off=>match m2 b off with | some c=>some c | none=>m b off
 have z1:=fE.own
 have sJ:∀ b,ou L φ σ.obj b->b<w.heap.size:=fun b ⟨nm,h,⟨o',k1,k2,k3⟩,e⟩=>by rw[<-e];exact(hC.objs nm o' k1).lt k2 k3
 have Eu:Mem.le m m':=by
  intro b off v h
  show (match m2 b off with | some c=>some c | none=>m b off)=some v
  cases hq:m2 b off with
  |none=>exact h
  |some c=>
   have k1:=fE.mem b off c hq
   have k2:=hC.mem b off v h
   rw[qY (fE.fr.block b (lV k2) fun ⟨nm,_,k3,e⟩=>by
    have :=hC.apart nm k3 off;rw[e,h]at this;cases this)]at k1
   have k3:World.cell? w ⟨b,off,none⟩=some c:=k1
   rw[k2]at k3;exact k3.symm
 have Et:Mem.le m2 m':=by
  intro b off v h
  show (match m2 b off with | some c=>some c | none=>m b off)=some v
  rw[h]
 have Ae:∀ b off v,m' b off=some v->m2 b off=some v\/(m2 b off=none/\m b off=some v):=by
  intro b off v h
  have h':(match m2 b off with | some c=>some c | none=>m b off)=some v:=h
  cases hq:m2 b off with
  |none=>rw[hq]at h';exact .inr ⟨rfl,h'⟩
  |some c=>rw[hq]at h';exact .inl h'
 have EW:∀ x,dH L.length o.new x=true->(∃ (i:Nat) (hi:i<L.length),x=[i,1])\/(cJ x=false/\∃ y∈o.new,y.1=x):=by
  intro x hx
  unfold dH at hx
  split at hx
  ·rename_i i
   exact .inl ⟨i,by simpa using hx,rfl⟩
  ·obtain⟨y,hy,e⟩:=List.any_eq_true.1 hx
   simp only[beq_iff_eq]at e
   subst e
   exact .inr ⟨El y hy,y,hy,rfl⟩
 have va:∀ (i:Nat) (hi:i<L.length),cout L t [i,1]=L[i]:=fun i hi=>kN hi
 have kH:∀ (i:Nat) (hi:i<L.length),σ2.obj [i,1]=some (eX o.upd i (cf L σ.obj L[i])):=fun i hi=>by
  have :=h1 i (by simpa using hi)
  simpa using this
 have DZ:vI (cout L t) φ2 φ' σ2.obj obj' (dH L.length o.new):=by
  intro x q hd hq
  rcases EW x hd with⟨i,hi,rfl⟩ | ⟨hi,y,hy,rfl⟩
  ·rw[va i hi,z' i hi,wF i hi]
   rw[kH i hi]at hq;cases hq
   exact⟨_,rfl,.inl ⟨O.len_ren _ _,rfl,O.sz_ren _ _⟩⟩
  ·rw[vA hi,Ei y hy,zN y hy]
   rw[h2 y hy]at hq;cases hq
   exact⟨_,rfl,.inl ⟨O.len_ren _ _,rfl,O.sz_ren _ _⟩⟩
 have ZT:∀ (i:Nat) (hi:i<L.length),O.clos (dH L.length o.new) (eX o.upd i (cf L σ.obj L[i]))=true:=by
  intro i hi
  refine JY _ _ _ ?_ zU
  obtain⟨o',ho,hc⟩:=vW hL (List.getElem_mem hi)
  simp only[cf,ho]
  refine O.clos_ren (fun nm hd=>?_) o' hc
  obtain⟨k1,_⟩:=uK (ic.1 hd)
  show decide (idx L nm<L.length)=true
  simpa using k1
 have Am:Ext φ φ' σ.obj obj':=by
  intro nm q hq
  by_cases fC:nm∈L
  ·obtain⟨i,hi,rfl⟩:=List.getElem_of_mem fC
   obtain⟨CM,k1,k2⟩:=fE.kept.2 [i,1] (cf L σ.obj L[i]) (by
    show jN L σ.obj [i,1]=_
    show (if i<L.length then _ else _)=_
    rw[if_pos hi,kN hi])
   have Yg:CM=eX o.upd i (cf L σ.obj L[i]):=by rw[kH i hi]at k1;exact(Option.some.inj k1).symm
   subst Yg
   have YL:mm L φ [i,1]=φ L[i]:=by show φ (L.getD i [])=_;rw[kN hi]
   have bS:(cf L σ.obj L[i]).len?=q.len?/\(cf L σ.obj L[i]).sz=q.sz:=by
    simp only[cf,hq];exact⟨O.len_ren _ _,O.sz_ren _ _⟩
   refine⟨_,z' i hi,?_⟩
   rw[O.len_ren,O.sz_ren,wF i hi]
   rcases k2 with⟨a1,a2,a3⟩ | ⟨n,n',a1,a2,a3⟩
   ·exact .inl ⟨a1.trans bS.1,(a2:φ2 [i,1]=mm L φ [i,1]).trans YL,a3.trans bS.2⟩
   ·exact .inr ⟨n,n',bS.1▸a1,a2,a3⟩
  ·have qq:∀ x∈o.new,nm≠x.1++t:=fun x hx e=>by rw[e,cF x hx]at hq;cases hq
   exact⟨q,by rw[Eh nm fC qq];exact hq,.inl ⟨rfl,zM nm fC qq,rfl⟩⟩
 have ve:∀ nm,holds φ' obj' nm->(∃ x,holds φ2 σ2.obj x/\φ' nm=φ2 x/\nm=cout L t x/\dH L.length o.new x=true)\/(nm∉L/\(∀ x∈o.new,nm≠x.1++t)/\holds φ σ.obj nm/\φ' nm=φ nm):=by
  rintro nm ⟨q,k1,k2,k3⟩
  by_cases fC:nm∈L
  ·obtain⟨i,hi,rfl⟩:=List.getElem_of_mem fC
   left
   rw[z' i hi]at k1;cases k1
   rw[O.mut_ren]at k2
   rw[wF i hi]at k3
   exact⟨[i,1],⟨_,kH i hi,k2,k3⟩,wF i hi,(va i hi).symm,by show decide (i<L.length)=true;simpa using hi⟩
  ·by_cases qq:∃ x∈o.new,nm=x.1++t
   ·obtain⟨x,hx,rfl⟩:=qq
    left
    rw[Ei x hx]at k1;cases k1
    rw[O.mut_ren]at k2
    rw[zN x hx]at k3
    refine⟨x.1,⟨_,h2 x hx,k2,k3⟩,zN x hx,(vA (El x hx)).symm,?_⟩
    exact aa9 (El x hx) hx
   ·have sA:∀ x∈o.new,nm≠x.1++t:=fun x hx e=>qq ⟨x,hx,e⟩
    right
    rw[Eh nm fC sA]at k1
    rw[zM nm fC sA]at k3
    exact⟨fC,sA,⟨q,k1,k2,k3⟩,zM nm fC sA⟩
 have fQ:∀ nm,nm∉L->holds φ σ.obj nm->(φ nm).blk<w.heap.size/\¬ ou L φ σ.obj (φ nm).blk:=by
  intro nm fC hh
  obtain⟨q,k1,k2,k3⟩:=hh
  refine⟨(hC.objs nm q k1).lt k2 k3,fun ⟨x,k4,k5,k6⟩=>?_⟩
  exact fC (hC.inj _ _ k5 ⟨q,k1,k2,k3⟩ k6▸k4)
 have ahC:∀ x y,dH L.length o.new x=true->dH L.length o.new y=true->cout L t x=cout L t y->x=y:=by
  intro x y hx hy e
  rcases EW x hx with⟨i,hi,rfl⟩ | ⟨k1,x',a8,rfl⟩<;>rcases EW y hy with⟨j,hj,rfl⟩ | ⟨k2,y',YR,rfl⟩
  ·rw[va i hi,va j hj]at e
   rw[(List.getElem_inj hn).1 e]
  ·rw[va i hi,vA k2]at e
   exact(n0 _ (List.getElem_mem hi) y' YR e).elim
  ·rw[va j hj,vA k1]at e
   exact(n0 _ (List.getElem_mem hj) x' a8 e.symm).elim
  ·rw[vA k1,vA k2]at e
   exact List.append_cancel_right e
 refine⟨φ',m',Eu,?_,Am,fun d u hd hc=>hd.renx Et DZ hc⟩
 constructor
 ·exact fun x=>(hC.tmps x).ext Eu Am
 ·exact hC.size
 ·obtain⟨ds,k1,k2,k3⟩:=hC.defers
  refine⟨ds,k1,k2,fun D hD=>⟨(k3 D hD).1,?_⟩⟩
  have k4:=(k3 D hD).2
  rw[fE.fr.block D (Array.getElem?_eq_some_iff.1 k4).1 fun ⟨x,_,⟨q,k5,k6,k7⟩,k8⟩=>(hC.objs x q k5).notDef k6 k7 _ (by rw[k8];exact k4)]
  exact k4
 ·intro nm q hq
  by_cases fC:nm∈L
  ·obtain⟨i,hi,rfl⟩:=List.getElem_of_mem fC
   have cK:obj' L[i]=some q:=hq
   rw[z' i hi]at cK;cases cK
   rw[wF i hi]
   exact(fE.objs _ _ (kH i hi)).ren Et DZ (ZT i hi) fun _ _=>rfl
  ·by_cases qq:∃ x∈o.new,nm=x.1++t
   ·obtain⟨x,hx,rfl⟩:=qq
    have cK:obj' (x.1++t)=some q:=hq
    rw[Ei x hx]at cK;cases cK
    rw[zN x hx]
    exact(fE.objs _ _ (h2 x hx)).ren Et DZ (Em x hx) fun _ _=>rfl
   ·have sA:∀ x∈o.new,nm≠x.1++t:=fun x hx e=>qq ⟨x,hx,e⟩
    have cK:obj' nm=some q:=hq
    rw[Eh nm fC sA]at cK
    rw[zM nm fC sA]
    refine(hC.objs nm q cK).ext Eu Am fun k2 k3=>?_
    obtain⟨k4,k5⟩:=fQ nm fC ⟨q,cK,k2,k3⟩
    exact fE.fr.block _ k4 k5
 ·intro b off v h
  rcases Ae b off v h with h | ⟨Er,h⟩
  ·exact fE.mem b off v h
  ·have k2:=hC.mem b off v h
   rw[qY (fE.fr.block b (lV k2) fun ⟨nm,_,k3,e⟩=>by
    have :=hC.apart nm k3 off;rw[e,h]at this;cases this)]
   exact k2
 ·intro nm hh off
  rcases ve nm hh with⟨x,k1,k2,_,_⟩ | ⟨k1,k2,k3,k4⟩
  ·rw[k2]
   cases hq:m' (φ2 x).blk off with
   |none=>rfl
   |some v=>
    rcases Ae _ _ _ hq with h | ⟨_,h⟩
    ·have:=fE.apart x k1 off;rw[h]at this;cases this
    ·rcases z1 x k1 with h' | ⟨jP,k5,k6,k7⟩
     ·have:=lV (hC.mem _ _ _ h)
      have jg:w.heap.size<=(φ2 x).blk:=h'
      omega
     ·have:=hC.apart jP k6 off
      rw[k7,h]at this;cases this
  ·rw[k4]
   obtain⟨k5,k6⟩:=fQ nm k1 k3
   cases hq:m' (φ nm).blk off with
   |none=>rfl
   |some v=>
    rcases Ae _ _ _ hq with h | ⟨_,h⟩
    ·rcases fE.fresh _ _ _ h with h' | h' | h'
     ·have:=hC.apart nm k3 off
      have jg:m (φ nm).blk off=some v:=h'
      rw[jg]at this;cases this
     ·have jg:w.heap.size<=(φ nm).blk:=h'
      omega
     ·exact(k6 h').elim
    ·have:=hC.apart nm k3 off;rw[h]at this;cases this
 ·intro nm jP hh ZO e
  rcases ve nm hh with⟨x,k1,k2,k3,k4⟩ | ⟨k1,k2,k3,k4⟩<;>rcases ve jP ZO with⟨x',j1,j2,j3,j4⟩ | ⟨j1,j2,j3,j4⟩
  ·rw[k2,j2]at e
   rw[k3,j3,fE.inj _ _ k1 j1 e]
  ·exfalso
   rw[k2,j4]at e
   obtain⟨k5,k6⟩:=fQ jP j1 j3
   rcases z1 x k1 with h' | h'
   ·have jg:w.heap.size<=(φ2 x).blk:=h'
    omega
   ·rw[e]at h';exact k6 h'
  ·exfalso
   rw[k4,j2]at e
   obtain⟨k5,k6⟩:=fQ nm k1 k3
   rcases z1 x' j1 with h' | h'
   ·have jg:w.heap.size<=(φ2 x').blk:=h'
    omega
   ·rw[<-e]at h';exact k6 h'
  ·rw[k4,j4]at e
   exact hC.inj _ _ k3 j3 e
 ·intro nm hh
  rcases ve nm hh with⟨x,k1,k2,_,_⟩ | ⟨k1,k2,k3,k4⟩
  ·rw[k2]
   rcases z1 x k1 with h' | ⟨jP,k5,k6,k7⟩
   ·exact .inl (Nat.le_trans hC.fr.size h')
   ·rw[<-k7];exact hC.own jP k6
  ·rw[k4];exact hC.own nm k3
 ·refine⟨fE.fr.os.trans hC.fr.os,fE.fr.tape.trans hC.fr.tape,fE.fr.output.trans hC.fr.output,Nat.le_trans hC.fr.size fE.fr.size,fun b hb ho=>?_⟩
  rw[fE.fr.block b (Nat.lt_of_lt_of_le hb hC.fr.size) fun ⟨nm,_,k3,e⟩=>?_]
  ·exact hC.fr.block b hb ho
  ·rcases hC.own nm k3 with h | h<;>rw[e]at h
   ·omega
   ·exact ho h
 ·intro b off v h
  rcases Ae b off v h with h | ⟨_,h⟩
  ·rcases fE.fresh _ _ _ h with h' | h' | ⟨nm,_,k3,e⟩
   ·exact hC.fresh _ _ _ h'
   ·exact .inr (.inl (Nat.le_trans hC.fr.size h'))
   ·rw[<-e];exact .inr (hC.own nm k3)
  ·exact hC.fresh _ _ _ h
 ·exact⟨hC.kept.1,hC.kept.2.trans Am⟩
end
def ft:Nat->List D->List (Nat×E)
 |_,[]=>[]
 |k,x::r=>(k,⟨true,x⟩)::ft (k+1) r
theorem PG:∀ {k:Nat} {xs:List D} {t:Nat} {e:E},(t,e)∈ft k xs->∃ (i:Nat) (h:i<xs.length),t=k+i/\e=⟨true,xs[i]⟩
 |k,[],t,e,h=>by simp[ft]at h
 |k,x::r,t,e,h=>by
  simp only[ft,List.mem_cons,Prod.mk.injEq]at h
  rcases h with⟨rfl,rfl⟩ | h
  ·exact⟨0,by simp,rfl,rfl⟩
  ·obtain⟨i,hi,h1,h2⟩:=PG h
   exact⟨i+1,by simpa using hi,by omega,by simpa using h2⟩
structure CSpec where
 pre:List O->List D->Prop
 out:List O->List D->Out
def cl(obj:Name->Option O)(ds:List D):List O:=(reach obj ds).map (cf (reach obj ds) obj)
def cO(obj:Name->Option O)(ds:List D):List D:=D.renL (cin (reach obj ds)) ds
def CSpec.toSpec(s:CSpec):Spec where
 app obj t ds:=⟨(shut obj (reach obj ds)&&D.closL (cj (reach obj ds)) ds&&fresh obj t (s.out (cl obj ds) (cO obj ds)).new)=true/\s.pre (cl obj ds) (cO obj ds),
  (s.out (cl obj ds) (cO obj ds)).d.ren (cout (reach obj ds) t),dt (reach obj ds) t (s.out (cl obj ds) (cO obj ds)).new (cg (reach obj ds) t (s.out (cl obj ds) (cO obj ds)).upd obj)⟩
 foot obj t ds:=reach obj ds++((s.out (cl obj ds) (cO obj ds)).upd.map fun x=>(reach obj ds).getD x.1 [])++(s.out (cl obj ds) (cO obj ds)).new.map fun x=>x.1++t
 wrt obj t ds:=((s.out (cl obj ds) (cO obj ds)).upd.map fun x=>(reach obj ds).getD x.1 [])++(s.out (cl obj ds) (cO obj ds)).new.map fun x=>x.1++t
theorem uf{L:List Name}{t:Name}:∀ (l:List (Nat×O)) (obj obj2:Name->Option O) (nm:Name),cg L t l obj2 nm=if nm∈l.map (fun x=>L.getD x.1 [])then cg L t l obj nm else obj2 nm
 |[],obj,obj2,nm=>by simp[cg]
 |(i,o)::r,obj,obj2,nm=>by
  simp only[cg,List.map_cons,List.mem_cons]
  rw[uf r (upd obj (L.getD i []) (some (o.ren (cout L t)))) (upd obj2 (L.getD i []) (some (o.ren (cout L t)))) nm]
  by_cases h:nm∈r.map (fun x=>L.getD x.1 [])
  ·rw[if_pos h,if_pos (.inr h)]
  ·rw[if_neg h]
   by_cases e:nm=L.getD i []
   ·rw[if_pos (.inl e)]
    have hu:cg L t r (upd obj (L.getD i []) (some (o.ren (cout L t)))) nm=(upd obj (L.getD i []) (some (o.ren (cout L t)))) nm:=by
     rw[uf r obj _ nm,if_neg h]
    rw[hu,e,aE,aE]
   ·rw[if_neg (by simp only[not_or];exact⟨e,h⟩)]
    exact aI _ _ _ e
theorem rI{L:List Name}{t:Name}:∀ (l:List (Name×O)) (obj obj2:Name->Option O) (nm:Name),dt L t l obj2 nm=if nm∈l.map (fun x=>x.1++t)then dt L t l obj nm else obj2 nm
 |[],obj,obj2,nm=>by simp[dt]
 |(i,o)::r,obj,obj2,nm=>by
  simp only[dt,List.map_cons,List.mem_cons]
  rw[rI r (upd obj (i++t) (some (o.ren (cout L t)))) (upd obj2 (i++t) (some (o.ren (cout L t)))) nm]
  by_cases h:nm∈r.map (fun x=>x.1++t)
  ·rw[if_pos h,if_pos (.inr h)]
  ·rw[if_neg h]
   by_cases e:nm=i++t
   ·rw[if_pos (.inl e)]
    have hu:dt L t r (upd obj (i++t) (some (o.ren (cout L t)))) nm=(upd obj (i++t) (some (o.ren (cout L t)))) nm:=by
     rw[rI r obj _ nm,if_neg h]
    rw[hu,e,aE,aE]
   ·rw[if_neg (by simp only[not_or];exact⟨e,h⟩)]
    exact aI _ _ _ e
theorem oF{obj obj2:Name->Option O}{ds:List D}(h:bw (reach obj ds) obj obj2):reach obj2 ds=reach obj ds:=Ci _ _ _ h
theorem xO{obj obj2:Name->Option O}{ds:List D}(h:bw (reach obj ds) obj obj2):cl obj2 ds=cl obj ds:=by
 unfold cl
 rw[oF h]
 exact List.map_congr_left fun nm hn=>by simp only[cf];rw[h nm hn]
theorem GC{obj obj2:Name->Option O}{ds:List D}(h:bw (reach obj ds) obj obj2):cO obj2 ds=cO obj ds:=by
 unfold cO
 rw[oF h]
theorem B5{obj obj2:Name->Option O}{L:List Name}(h:bw L obj obj2):shut obj2 L=shut obj L:=by
 unfold shut
 refine Bool.eq_iff_iff.2 ?_
 simp only[List.all_eq_true]
 exact⟨fun k x hx=>by rw[<-h x hx];exact k x hx,fun k x hx=>by rw[h x hx];exact k x hx⟩
theorem AB{obj obj2:Name->Option O}{t:Name}{new:List (Name×O)}(h:bw (new.map fun x=>x.1++t) obj obj2):fresh obj2 t new=fresh obj t new:=by
 unfold fresh
 refine Bool.eq_iff_iff.2 ?_
 simp only[List.all_eq_true]
 exact⟨fun k x hx=>by rw[<-h _ (List.mem_map_of_mem hx)];exact k x hx,fun k x hx=>by rw[h _ (List.mem_map_of_mem hx)];exact k x hx⟩
theorem C6{ok ok2:Prop}{d:D}{obj obj2:Name->Option O}{L:List Name}{t:Name}{o:Out}(aa:ok2=ok)
 (ha:bw ((o.upd.map fun x=>L.getD x.1 [])++o.new.map fun x=>x.1++t) obj obj2):
 bH ⟨ok,d,dt L t o.new (cg L t o.upd obj)⟩ ⟨ok2,d,dt L t o.new (cg L t o.upd obj2)⟩ obj obj2 ((o.upd.map fun x=>L.getD x.1 [])++o.new.map fun x=>x.1++t):=by
 refine⟨aa,rfl,fun nm=>?_,fun nm hn=>?_⟩
 ·show dt L t o.new (cg L t o.upd obj2) nm=if nm∈_ then dt L t o.new (cg L t o.upd obj) nm else obj2 nm
  rw[rI o.new (cg L t o.upd obj) (cg L t o.upd obj2) nm]
  by_cases h1:nm∈o.new.map (fun x=>x.1++t)
  ·rw[if_pos h1,if_pos (List.mem_append_right _ h1)]
  ·rw[if_neg h1,uf o.upd obj obj2 nm]
   by_cases h2:nm∈o.upd.map (fun x=>L.getD x.1 [])
   ·rw[if_pos h2,if_pos (List.mem_append_left _ h2)]
    rw[rI o.new obj (cg L t o.upd obj) nm,if_neg h1]
   ·rw[if_neg h2,if_neg (by simp only[List.mem_append,not_or];exact⟨h2,h1⟩)]
 ·show dt L t o.new (cg L t o.upd obj) nm=obj nm
  simp only[List.mem_append,not_or]at hn
  rw[rI o.new obj (cg L t o.upd obj) nm,if_neg hn.2,uf o.upd obj obj nm,if_neg hn.1]
theorem CSpec.near(s:CSpec):s.toSpec.Near:=by
 have key:∀ {obj obj2:Name->Option O} {t:Name} {ds:List D},bw (s.toSpec.foot obj t ds) obj obj2->bw (reach obj ds) obj obj2/\
     bw (((s.out (cl obj ds) (cO obj ds)).upd.map fun x=>(reach obj ds).getD x.1 [])++(s.out (cl obj ds) (cO obj ds)).new.map fun x=>x.1++t) obj obj2:=by
  intro obj obj2 t ds h
  refine⟨fun nm hn=>h nm ?_,fun nm hn=>h nm ?_⟩
  ·exact List.mem_append_left _ (List.mem_append_left _ hn)
  ·rcases List.mem_append.1 hn with hn | hn
   ·exact List.mem_append_left _ (List.mem_append_right _ hn)
   ·exact List.mem_append_right _ hn
 refine⟨fun obj obj2 t ds h=>?_,fun obj obj2 t ds h=>?_,fun obj t ds nm hn=>?_,fun obj obj2 t ds h=>?_⟩
 ·obtain⟨h1,h2⟩:=key h
  simp only[CSpec.toSpec]
  rw[xO h1,GC h1,oF h1]
  refine C6 ?_ h2
  rw[B5 h1,AB fun nm hn=>h2 nm (List.mem_append_right _ hn)]
 ·obtain⟨h1,h2⟩:=key h
  simp only[CSpec.toSpec]
  rw[xO h1,GC h1,oF h1]
 ·simp only[CSpec.toSpec]at hn |-
  rcases List.mem_append.1 hn with hn | hn
  ·exact List.mem_append_left _ (List.mem_append_right _ hn)
  ·exact List.mem_append_right _ hn
 ·obtain⟨h1,h2⟩:=key h
  simp only[CSpec.toSpec]
  rw[xO h1,GC h1,oF h1]
def rU(σ:S)(u:List (Nat×O)):Nat->List O->Prop
 |_,[]=>True
 |i,o::r=>σ.obj [i,1]=some (eX u i o)/\rU σ u (i+1) r
theorem Ju{σ:S}{u:List (Nat×O)}:∀ {l:List O} {k:Nat},rU σ u k l->∀ i (h:i<l.length),σ.obj [k+i,1]=some (eX u (k+i) l[i])
 |o::r,k,h,0,_=>h.1
 |o::r,k,h,i+1,hi=>by
  have :=Ju h.2 i (by simpa using hi)
  rw[show k+(i+1)=k+1+i by omega]
  simpa using this
def wq(σ:S):List (Name×O)->Prop
 |[]=>True
 |x::r=>σ.obj x.1=some x.2/\wq σ r
theorem JB{σ:S}:∀ {l:List (Name×O)},wq σ l->∀ x∈l,σ.obj x.1=some x.2
 |y::r,h,x,hx=>by
  rcases List.mem_cons.1 hx with rfl | hx
  ·exact h.1
  ·exact JB h.2 x hx
def distinct:List Name->Bool
 |[]=>true
 |x::r=>(r.all fun y=>!(x==y))&&distinct r
theorem N8:∀ {l:List Name},distinct l=true->l.Nodup
 |[],_=>by simp
 |x::r,h=>by
  simp only[distinct,Bool.and_eq_true]at h
  refine List.nodup_cons.2 ⟨fun hx=>?_,N8 h.2⟩
  have :=List.all_eq_true.1 h.1 x hx
  simp at this
def gW(os:List O)(o:Out)(σ:S):Prop:=
 rU σ o.upd 0 os/\wq σ o.new/\
  (D.clos (dH os.length o.new) o.d&&(o.upd.all fun x=>O.clos (dH os.length o.new) x.2&&decide (x.1<os.length))&&(o.new.all fun x=>O.clos (dH os.length o.new) x.2&&!cJ x.1)&&distinct (o.new.map (·.1)))=true
theorem NY{os:List O}{o:Out}{σ:S}(h:gW os o σ):Q2 σ os o:=by
 obtain⟨h1,h2,h3⟩:=h
 simp only[Bool.and_eq_true]at h3
 exact⟨fun i hi=>by simpa using Ju h1 i hi,JB h2,h3.1.1.1,h3.1.1.2,by simpa using h3.1.2,N8 h3.2⟩
def vZ(P:Program)(rs:List ResultVar)(os:List O)(o:Out):Exit->S->Prop
 | .normal,σ=>(bX P σ rs).ok/\(bX P σ rs).d=o.d/\gW os o σ
 | .ret,σ=>(bX P σ rs).ok/\(bX P σ rs).d=o.d/\gW os o σ
 |_,_=>False
def aW(os:List O):Name->Option O
 |[i,1]=>os[i]?
 |_=>none
theorem Vm{L:List Name}{obj:Name->Option O}{x:Name}(h:cJ x=false):jN L obj x=none:=by
 unfold jN
 split
 ·simp[cJ]at h
 ·rfl
theorem wj{os:List O}{x:Name}(h:cJ x=false):aW os x=none:=by
 unfold aW
 split
 ·simp[cJ]at h
 ·rfl
theorem y8{L:List Name}{obj:Name->Option O}:jN L obj=aW (L.map (cf L obj)):=by
 funext x
 cases hx:cJ x with
 |false=>rw[Vm hx,wj hx]
 |true=>
  obtain⟨i,rfl⟩:=uG.1 hx
  show (if i<L.length then some (cf L obj (L.getD i []))else none)=(L.map (cf L obj))[i]?
  by_cases hi:i<L.length
  ·rw[if_pos hi,List.getElem?_eq_getElem (by simpa using hi)]
   rw[kN hi,List.getElem_map]
  ·rw[if_neg hi,List.getElem?_eq_none (by simpa using hi)]
theorem CV{nt:Nat}{l:List (Nat×E)}{os:List O}:aT nt [0] (aW os) l []=⟨nt,dw eAny l,aW os,[0],0⟩:=by
 unfold aT
 congr 1
 funext nm
 split
 ·rename_i h
  have :cJ nm=false:=by
   cases hc:cJ nm with
   |false=>rfl
   |true=>
    obtain⟨i,rfl⟩:=uG.1 hc
    rw[I']at h;cases h
  unfold aW
  split
  ·simp[cJ]at this
  ·rfl
 ·rfl
theorem mV{P:Program}{f:FuncId}{fn:Func}{c:Code}{s:CSpec}{nt:Nat}{rs:List ResultVar}(hf:P.funcs[f]?=some fn)(hb:fn.body=some c)(eK:fn.ntmps=nt)(eZ:fn.results.toList=rs)
 (mI:∀ args w,(callFunc f args).run P w=.ok (.enter f args) w) (al:f≠yid)
 (h:∀ os ds,s.pre os ds->ds.length<=nt/\CW P c (aT nt [0] (aW os) (ft 0 ds) []) (vZ P rs os (s.out os ds))):ak P f s.toSpec:=by
 subst eK
 subst eZ
 refine⟨s.near,fun _=>mI,fun _ G φ m σ a w hC t ds us _ hl hr aa=>?_,fun e=>(al e).elim⟩
 obtain⟨aa,cL⟩:=aa
 simp only[Bool.and_eq_true]at aa
 obtain⟨⟨fZ,bS⟩,cF⟩:=aa
 obtain⟨hlen,mL⟩:=h _ _ cL
 have jc:(reach σ.obj ds).Nodup:=yH _ _ _ (by simp)
 simp only[cO,iE,List.length_map]at hlen
 refine(callsIn_wide (n:=0)).1 (callsIn_of_wp_marks hf hb trivial ?_)
 have ed:=Nr hC (L:=reach σ.obj ds) jc fZ (rd:=none) (fun l h=>by cases h) (b0:=0) (nt:=fn.ntmps) (env:=dw eAny (ft 0 (cO σ.obj ds)))
  (tmps:=us++Array.replicate (fn.ntmps-us.size) undef) (by simp;omega) (fun t=>by
    rcases uz (z:=eAny) (ft 0 (cO σ.obj ds)) t with h1 | h1
    ·rw[h1];unfold bU eAny;simp;exact .any _
    ·obtain⟨i,hi,h2,h3⟩:=PG h1
     rw[h3]
     unfold bU
     simp only[if_true]
     simp only[cO,iE,List.length_map]at hi
     have bp:i<us.size:=by omega
     have e:((us++Array.replicate (fn.ntmps-us.size) undef).getD t undef)=us[i]:=by
      have ai:0+i<(us++Array.replicate (fn.ntmps-us.size) undef).size:=by simp;omega
      rw[h2]
      simp only[Array.getD,ai,dite_true]
      show (us++Array.replicate (fn.ntmps-us.size) undef)[0+i]=us[i]
      simp only[Nat.zero_add]
      exact Array.getElem_append_left bp
     rw[e]
     simp only[cO,iE,List.getElem_map]
     exact(hr i hi bp).renx (Mem.le_refl m) yG (iP hi bS))
 rw[CV]at mL
 rw[y8]at ed
 refine wpIn_mono (mL _ _ m _ w ed) ?_
 rintro e a1 w1 ⟨φ2,m2,σ2,gi,hK⟩
 have fin:(bX P σ2 fn.results.toList).ok/\(bX P σ2 fn.results.toList).d=(s.out (cl σ.obj ds) (cO σ.obj ds)).d/\gW (cl σ.obj ds) (s.out (cl σ.obj ds) (cO σ.obj ds)) σ2->
     LeavesInM Fence.wide 0 P fn a1.tmps (fun e w'=>∃ v φ' m',e=.returned v/\aD G φ' m' { σ with obj:=(s.toSpec.app σ.obj t ds).obj } a w'/\aw φ' (s.toSpec.app σ.obj t ds).obj m' (s.toSpec.app σ.obj t ds).d v/\Ext φ φ' σ.obj (s.toSpec.app σ.obj t ds).obj) a1.defers .returning w1:=by
  rintro⟨h1,h2,h3⟩
  refine C7 a1.defers rfl gi fun a' w' _ bB=>?_
  obtain⟨v,h4,h5⟩:=Iw bB fn h1
  rw[h2]at h5
  have hE:=NY h3
  obtain⟨φ',m',k1,k2,k3,k4⟩:=Nq hC jc fZ bB hE cF
  have vd:=hE.cd
  simp only[cl,List.length_map]at vd
  exact⟨v,h4,v,φ',m',rfl,k2,k4 _ _ h5 vd,k3⟩
 cases e with
 |normal=>exact fin hK
 |ret=>exact fin hK
 |_=>exact hK.elim
theorem bH.more{ok ok2:Prop}{d d2:D}{o1 o2 obj obj2:Name->Option O}{wr:List Name}(nm:Name)(x:Option O)(h:bH ⟨ok,d,o1⟩ ⟨ok2,d2,o2⟩ obj obj2 wr):
 bH ⟨ok,d,upd o1 nm x⟩ ⟨ok2,d2,upd o2 nm x⟩ obj obj2 (nm::wr):=by
 refine⟨h.ok,h.d,fun y=>?_,fun y hy=>?_⟩
 ·show upd o2 nm x y=if y∈nm::wr then upd o1 nm x y else obj2 y
  by_cases e:y=nm
  ·subst e;rw[aE,if_pos (by simp),aE]
  ·rw[aI _ _ _ e,aI _ _ _ e]
   have :=h.eff y
   simp only at this
   rw[this]
   by_cases hy:y∈wr
   ·rw[if_pos hy,if_pos (List.mem_cons_of_mem _ hy)]
   ·rw[if_neg hy,if_neg (by simp[e,hy])]
 ·simp only[List.mem_cons,not_or]at hy
  show upd o1 nm x y=obj y
  rw[aI _ _ _ hy.1]
  exact h.frame y hy.2
structure YSpec where
 pre:List E->List Nat->Code->Code->List O->List D->Prop
 out:List E->List Nat->Code->Code->List O->List D->Out×Option Code
def roots(env:List E)(ds:List D):List D:=env.map (·.d)++ds
def iQ(obj:Name->Option O)(env:List E)(ds:List D):List E:=env.map (E.ren (cin (reach obj (roots env ds))))
def jG(obj:Name->Option O)(env:List E)(ds:List D):List D:=D.renL (cin (reach obj (roots env ds))) ds
def YSpec.o(y:YSpec)(obj:Name->Option O)(env:List E)(ps:List Nat)(asg body:Code)(ds:List D):Out×Option Code:=
 y.out (iQ obj env ds) ps asg body (cl obj (roots env ds)) (jG obj env ds)
def YSpec.toSpec(y:YSpec):Spec where
 app obj t args:=match args with
  | .yld nm::ds=>match obj nm with
    |some (.loop env ps asg body .ready none)=>
     ⟨(shut obj (reach obj (roots env ds))&&D.closL (cj (reach obj (roots env ds))) (roots env ds)&&fresh obj t (y.o obj env ps asg body ds).1.new&&!cj (reach obj (roots env ds)) nm&&
         decide (ds.length=ps.length)&&(ps.all fun p=>decide (p<env.length)))=true/\y.pre (iQ obj env ds) ps asg body (cl obj (roots env ds)) (jG obj env ds),
       .v (.bool (y.o obj env ps asg body ds).2.isNone),
       upd (dt (reach obj (roots env ds)) t (y.o obj env ps asg body ds).1.new (cg (reach obj (roots env ds)) t (y.o obj env ps asg body ds).1.upd obj)) nm
        (some (.loop env ps asg body (if (y.o obj env ps asg body ds).2.isNone then .ready else .done) (y.o obj env ps asg body ds).2))⟩
    |_=>.bad obj
  |_=>.bad obj
 foot obj t args:=match args with
  | .yld nm::ds=>nm::(match obj nm with
    |some (.loop env ps asg body .ready none)=>reach obj (roots env ds)++((y.o obj env ps asg body ds).1.upd.map fun x=>(reach obj (roots env ds)).getD x.1 [])++(y.o obj env ps asg body ds).1.new.map fun x=>x.1++t
    |_=>[])
  |_=>[]
 wrt obj t args:=match args with
  | .yld nm::ds=>nm::(match obj nm with
    |some (.loop env ps asg body .ready none)=>((y.o obj env ps asg body ds).1.upd.map fun x=>(reach obj (roots env ds)).getD x.1 [])++(y.o obj env ps asg body ds).1.new.map fun x=>x.1++t
    |_=>[])
  |_=>[]
theorem YSpec.near(y:YSpec):y.toSpec.Near:=by
 have CJ:∀ {obj obj2:Name->Option O} {env:List E} {ps:List Nat} {asg body:Code} {ds:List D},bw (reach obj (roots env ds)) obj obj2->
     y.o obj2 env ps asg body ds=y.o obj env ps asg body ds/\iQ obj2 env ds=iQ obj env ds/\jG obj2 env ds=jG obj env ds:=by
  intro obj obj2 env ps asg body ds h
  unfold YSpec.o iQ jG
  rw[xO h,oF h]
  exact⟨rfl,rfl,rfl⟩
 have split:∀ {A B C:List Name} {obj obj2:Name->Option O} {nm:Name},bw (nm::(A++B++C)) obj obj2->bw A obj obj2/\bw (B++C) obj obj2:=by
  intro A B C obj obj2 nm h
  refine⟨fun x hx=>h x ?_,fun x hx=>h x ?_⟩
  ·exact List.mem_cons_of_mem _ (List.mem_append_left _ (List.mem_append_left _ hx))
  ·rcases List.mem_append.1 hx with hx | hx
   ·exact List.mem_cons_of_mem _ (List.mem_append_left _ (List.mem_append_right _ hx))
   ·exact List.mem_cons_of_mem _ (List.mem_append_right _ hx)
 have A2:∀ (args:List D),(∃ nm ds,args=.yld nm::ds)\/(∀ obj t,y.toSpec.app obj t args=.bad obj/\y.toSpec.foot obj t args=[]/\y.toSpec.wrt obj t args=[]):=by
  intro args
  rcases args with _ | ⟨d,ds⟩
  ·exact .inr fun _ _=>⟨rfl,rfl,rfl⟩
  ·cases d with
   |yld nm=>exact .inl ⟨nm,ds,rfl⟩
   |_=>exact .inr fun _ _=>⟨rfl,rfl,rfl⟩
 refine⟨fun obj obj2 t args h=>?_,fun obj obj2 t args h=>?_,fun obj t args jP hn=>?_,fun obj obj2 t args h=>?_⟩
 ·rcases A2 args with⟨nm,ds,rfl⟩ | hb
  ·simp only[YSpec.toSpec]at h |-
   have h0:obj2 nm=obj nm:=h nm (by simp)
   rw[h0]
   split
   ·rename_i env ps asg body ho
    simp only[ho]at h
    obtain⟨h1,h2⟩:=split h
    obtain⟨e1,e2,e3⟩:=CJ (ps:=ps) (asg:=asg) (body:=body) h1
    rw[e1,e2,e3,xO h1,oF h1]
    refine bH.more nm _ (C6 ?_ h2)
    rw[B5 h1,AB fun nm hn=>h2 nm (List.mem_append_right _ hn)]
   ·exact .none _ fun x hx=>by simp only[List.mem_singleton]at hx;subst hx;exact h0
  ·rw[(hb obj t).1,(hb obj2 t).1,(hb obj t).2.2]
   exact .same rfl rfl rfl rfl
 ·rcases A2 args with⟨nm,ds,rfl⟩ | hb
  ·simp only[YSpec.toSpec]at h |-
   have h0:obj2 nm=obj nm:=h nm (by simp)
   rw[h0]
   split
   ·rename_i env ps asg body ho
    simp only[ho]at h
    obtain⟨h1,h2⟩:=split h
    obtain⟨e1,e2,e3⟩:=CJ (ps:=ps) (asg:=asg) (body:=body) h1
    rw[e1,oF h1]
   ·rfl
  ·rw[(hb obj t).2.1,(hb obj2 t).2.1]
 ·rcases A2 args with⟨nm,ds,rfl⟩ | hb
  ·simp only[YSpec.toSpec]at hn |-
   rcases List.mem_cons.1 hn with rfl | hn
   ·simp
   ·refine List.mem_cons_of_mem _ ?_
    split at hn
    ·rename_i env ps asg body ho
     try simp only[ho]
     rcases List.mem_append.1 hn with hn | hn
     ·exact List.mem_append_left _ (List.mem_append_right _ hn)
     ·exact List.mem_append_right _ hn
    ·cases hn
  ·rw[(hb obj t).2.2]at hn;cases hn
 ·rcases A2 args with⟨nm,ds,rfl⟩ | hb
  ·simp only[YSpec.toSpec]at h |-
   have h0:obj2 nm=obj nm:=h nm (by simp)
   rw[h0]
   split
   ·rename_i env ps asg body ho
    simp only[ho]at h
    obtain⟨h1,h2⟩:=split h
    obtain⟨e1,e2,e3⟩:=CJ (ps:=ps) (asg:=asg) (body:=body) h1
    rw[e1,oF h1]
   ·rfl
  ·rw[(hb obj t).2.2,(hb obj2 t).2.2]
def s6(env:List E):Nat->E:=fun t=>env.getD t eAny
def setP:(Nat->E)->List Nat->List D->(Nat->E)
 |f,p::ps,d::ds=>setP (upd f p ⟨true,d⟩) ps ds
 |f,_,_=>f
def Ji(k:S->Prop):Exit->S->Prop
 | .normal,σ=>k σ
 |_,_=>False
def Uu(os:List O)(o:Out×Option Code):Exit->S->Prop
 | .normal,σ=>o.2=none/\gW os o.1 σ
 | .ret,σ=>o.2=some .ret/\gW os o.1 σ
 | .exit id,σ=>o.2=some (.exit id)/\gW os o.1 σ
 |_,_=>False
theorem H9{φ:Name->Loc}{obj:Name->Option O}{m:Mem}{n:Nat}:∀ (ps:List Nat) (ds:List D) (us:List Value) (f:Nat->E) (tmps:Array Value),tmps.size=n->ps.length=ds.length->ds.length=us.length->
 (∀ p∈ps,p<n)->(∀ t,bU φ obj m (f t) (tmps.getD t undef))->(∀ i (h:i<ds.length) (h':i<us.length),aw φ obj m ds[i] us[i])->
 (∀ t,bU φ obj m (setP f ps ds t) (((ps.zip us).foldl (fun tmps (p:Nat×Value)=>tmps.setIfInBounds p.1 p.2) tmps).getD t undef))/\((ps.zip us).foldl (fun tmps (p:Nat×Value)=>tmps.setIfInBounds p.1 p.2) tmps).size=n
 |[],ds,us,f,tmps,hs,h1,h2,hp,hf,hr=>by
  have :ds=[]:=List.eq_nil_of_length_eq_zero (by simpa using h1.symm)
  subst this
  exact⟨hf,hs⟩
 |p::ps,[],us,f,tmps,hs,h1,h2,hp,hf,hr=>by simp at h1
 |p::ps,d::ds,[],f,tmps,hs,h1,h2,hp,hf,hr=>by simp at h2
 |p::ps,d::ds,u::us,f,tmps,hs,h1,h2,hp,hf,hr=>by
  simp only[List.zip_cons_cons,List.foldl_cons,setP]
  refine H9 ps ds us _ _ (by simpa using hs) (by simpa using h1) (by simpa using h2) (fun q hq=>hp q (by simp[hq])) (fun t=>?_) fun i a b=>by
   have :=hr (i+1) (by simpa using a) (by simpa using b)
   simpa using this
  have ae:p<tmps.size:=by rw[hs];exact hp p (by simp)
  by_cases ht:t=p
  ·subst ht
   rw[aE]
   have e:(tmps.setIfInBounds t u).getD t undef=u:=by simp[Array.getD,ae]
   rw[e]
   unfold bU
   simp only[if_true]
   exact hr 0 (by simp) (by simp)
  ·rw[aI _ _ _ ht]
   have e:(tmps.setIfInBounds p u).getD t undef=tmps.getD t undef:=by
    simp only[Array.getD_eq_getD_getElem?]
    rw[Array.getElem?_setIfInBounds_ne (fun h=>ht h.symm)]
   rw[e];exact hf t
theorem BP{wa wb:World}{L:List Name}{φ:Name->Loc}{obj:Name->Option O}{l:Nat}(ht:vH wa L φ obj)(h:∃ r,wa.heap[l]?=some (.loop r))(hb:∀ b,b≠l->wb.heap[b]?=wa.heap[b]?):vH wb L φ obj:=by
 refine⟨fun q hq=>?_,ht.2⟩
 obtain⟨T,f,e⟩:=ht.1 q hq
 obtain⟨r,hr⟩:=h
 rw[hb q.1 (fun e'=>by rw[e',hr]at e;cases e)]
 exact⟨T,f,e⟩
theorem OA{wa wb:World}{m:Mem}{L:List Name}{φ:Name->Loc}{obj:Name->Option O}{l:Nat}{h h' ht ht'}{φ1:Name->Loc}{m1:Mem}{σ1:S}{a1:Act}{w1 w2:World}
 (hC:aD (sX wa m L φ obj (some l) h ht) φ1 m1 σ1 a1 w1) (bm:wb.heap.size=wa.heap.size/\w2.heap.size=w1.heap.size) (ho:wb.os=w2.os/\wb.tape=w2.tape/\wb.output=w2.output)
 (hb:∀ b,b≠l->wb.heap[b]?=wa.heap[b]?) (h2:∀ b,b≠l->w2.heap[b]?=w1.heap[b]?) (hl:wb.heap[l]?=w2.heap[l]?):aD (sX wb m L φ obj (some l) h' ht') φ1 m1 σ1 a1 w2:=by
 obtain⟨Mr,r,hr⟩:=h l rfl
 have ae:l<wa.heap.size:=(Array.getElem?_eq_some_iff.1 hr).1
 have b9:w1.heap[l]?=some (.loop r):=(hC.fr.block l ae Mr).trans hr
 constructor
 ·exact hC.tmps
 ·exact hC.size
 ·obtain⟨ds,k1,k2,k3⟩:=hC.defers
  refine⟨ds,k1,k2,fun D hD=>?_⟩
  obtain⟨k4,k5⟩:=k3 D hD
  have al:D≠l:=fun e=>by subst e;rw[b9]at k5;cases k5
  exact⟨by show wb.heap.size<=D;rw[bm.1];exact k4,(h2 D al).trans k5⟩
 ·intro nm o dX
  refine(hC.objs nm o dX).ext (Mem.le_refl _) (Ext.refl _ _) fun k1 k2=>h2 _ fun e=>?_
  rcases hC.own nm ⟨o,dX,k1,k2⟩with h3 | h3
  ·have h4:wa.heap.size<=(φ1 nm).blk:=h3
   omega
  ·rw[e]at h3;exact Mr h3
 ·intro b off v hv
  have h3:=hC.mem b off v hv
  rw[qY (h2 b (fun e=>by subst e;unfold World.cell? at h3;simp[b9]at h3))]
  exact h3
 ·exact hC.apart
 ·exact hC.inj
 ·intro nm hh
  rcases hC.own nm hh with h3 | h3
  ·exact .inl (by show wb.heap.size<=_;rw[bm.1];exact h3)
  ·exact .inr h3
 ·refine⟨ho.1.symm,ho.2.1.symm,ho.2.2.symm,by show wb.heap.size<=_;rw[bm.1,bm.2];exact hC.fr.size,fun b h3 h4=>?_⟩
  show w2.heap[b]?=wb.heap[b]?
  by_cases e:b=l
  ·subst e;exact hl.symm
  ·rw[h2 b e,hb b e]
   exact hC.fr.block b (by have:b<wb.heap.size:=h3;show b<wa.heap.size;omega) h4
 ·intro b off v hv
  rcases hC.fresh b off v hv with h3 | h3 | h3
  ·exact .inl h3
  ·exact .inr (.inl (by show wb.heap.size<=_;rw[bm.1];exact h3))
  ·exact .inr (.inr h3)
 ·exact hC.kept
theorem OQ{L:List Name}{obj:Name->Option O}{nm:Name}{x:Option O}(h:nm∉L){y:Name}(hy:y∈L):cf L (upd obj nm x) y=cf L obj y:=by
 unfold cf
 rw[aI _ _ _ (by rintro rfl;exact h hy)]
theorem Vl{L:List Name}{obj:Name->Option O}{nm:Name}{x:Option O}(h:nm∉L):jN L (upd obj nm x)=jN L obj:=by
 rw[y8,y8]
 congr 1
 exact List.map_congr_left fun y hy=>OQ h hy
theorem EU{L:List Name}{φ:Name->Loc}{obj:Name->Option O}{nm:Name}{x:Option O}(h:nm∉L):ou L φ (upd obj nm x)=ou L φ obj:=by
 funext b
 refine propext ⟨fun ⟨y,h1,⟨o,h2,h3⟩,h4⟩=>?_,fun ⟨y,h1,⟨o,h2,h3⟩,h4⟩=>?_⟩
 ·rw[aI _ _ _ (by rintro rfl;exact h h1)]at h2
  exact⟨y,h1,⟨o,h2,h3⟩,h4⟩
 ·exact⟨y,h1,⟨o,by rw[aI _ _ _ (by rintro rfl;exact h h1)];exact h2,h3⟩,h4⟩
theorem aaL{w:World}{m:Mem}{L:List Name}{φ:Name->Loc}{obj:Name->Option O}{nm:Name}{x:Option O}{rd:Option Nat}(h:nm∉L){h1}{h2}{t1}{t2}:sX w m L φ (upd obj nm x) rd h1 t1=sX w m L φ obj rd h2 t2:=by
 unfold sX
 simp only[Vl h,EU h]
theorem Hd{P:Program}{y:YSpec}(h:∀ env ps asg body os ds,y.pre env ps asg body os ds->ds.length=ps.length->
 CW P asg ⟨env.length,setP (s6 env) ps ds,aW os,[0],0⟩ (Ji fun σ1=>CW P body σ1 (Uu os (y.out env ps asg body os ds)))):ak P yid y.toSpec:=by
 refine⟨y.near,fun e=>(e rfl).elim,fun e=>(e rfl).elim,fun _ G φ m σ a w hC t nm ds us _ hl hr _ aa o ZZ=>?_⟩
 simp only[YSpec.toSpec]at aa |-
 split at aa
 case h_2=>exact aa.elim
 rename_i env ps asg body aq
 try simp only[aq]
 obtain⟨aa,cL⟩:=aa
 simp only[Bool.and_eq_true,Bool.not_eq_true',decide_eq_true_eq]at aa
 obtain⟨⟨⟨⟨⟨fZ,bS⟩,cF⟩,Mt⟩,hlen⟩,fm⟩:=aa
 have fC:nm∉reach σ.obj (roots env ds):=fun h=>by rw[ic.2 h]at Mt;cases Mt
 have jc:(reach σ.obj (roots env ds)).Nodup:=yH _ _ _ (by simp)
 obtain⟨_,db,r,b9,dV,hr3,D2,Mg,Mf,Me,Md⟩:=hC.objs nm _ aq
 have ae:(φ nm).blk<w.heap.size:=(Array.getElem?_eq_some_iff.1 b9).1
 have sJ:¬ ou (reach σ.obj (roots env ds)) φ σ.obj (φ nm).blk:=fun ⟨x,k1,k2,k3⟩=>fC (hC.inj _ _ k2 ⟨_,aq,rfl,db⟩ k3▸k1)
 have bD:r.params.size=ps.length:=by rw[<-D2];simp
 intro next Q sy
 rw[ZZ,run_yield b9 (by omega),Oper.uponIn_round]
 refine⟨fun h=>(by simp[fb,Fence.wide]at h),?_⟩
 rw[Mg,Mf]
 refine roundIn_of_wpIn trivial ?_
 have ahD:=bS
 have aad:∀ i (h:i<env.length),D.clos (cj (reach σ.obj (roots env ds))) env[i].d=true:=fun i hi=>by
  have :=iP (l:=roots env ds) (i:=i) (by simp[roots];omega) bS
  simp only[roots]at this |-
  rw[List.getElem_append_left (by simpa using hi)]at this
  simpa using this
 have EX:∀ i (h:i<ds.length),D.clos (cj (reach σ.obj (roots env ds))) ds[i]=true:=fun i hi=>by
  have :=iP (l:=roots env ds) (i:=env.length+i) (by simp[roots];omega) bS
  simp only[roots]at this |-
  rw[List.getElem_append_right (by simp)]at this
  simpa using this
 obtain⟨q1,q2⟩:=H9 (φ:=mm (reach σ.obj (roots env ds)) φ) (obj:=jN (reach σ.obj (roots env ds)) σ.obj) (m:=m) (n:=env.length) ps (jG σ.obj env ds) us.toList (s6 (iQ σ.obj env ds)) r.tmps Me
  (by simp[jG,iE];omega) (by simp[jG,iE];omega) (fun p hp=>by have:=List.all_eq_true.1 fm p hp;simpa using this)
  (fun t=>by
    unfold s6
    by_cases ht:t<env.length
    ·have:=(Md t ht).renx (Mem.le_refl m) yG (aad t ht)
     have e:(iQ σ.obj env ds).getD t eAny=E.ren (cin (reach σ.obj (roots env ds))) env[t]:=by
      rw[List.getD_eq_getElem?_getD,List.getElem?_eq_getElem (by simpa[iQ]using ht)];simp[iQ]
     rw[e];exact this
    ·have e:(iQ σ.obj env ds).getD t eAny=eAny:=by
       rw[List.getD_eq_getElem?_getD,List.getElem?_eq_none (by simp[iQ];omega)];rfl
     rw[e];unfold bU eAny;simp;exact .any _)
  (fun i a b=>by
    simp only[jG,iE,List.length_map]at a
    have :=(hr i a (by simpa using b)).renx (Mem.le_refl m) yG (EX i a)
    simpa[jG,iE]using this)
 have ed:=Nr hC (L:=reach σ.obj (roots env ds)) jc fZ (rd:=some (φ nm).blk) (fun l e=>by cases e;exact⟨sJ,r,b9⟩) (b0:=0) (nt:=env.length) q2 q1
 have mL:=h _ _ _ _ _ _ cL (by simp[jG,iE];omega)
 have ZS:(r.params.zip us).foldl (fun tmps (p:Nat×Value)=>tmps.setIfInBounds p.1 p.2) r.tmps=(ps.zip us.toList).foldl (fun tmps (p:Nat×Value)=>tmps.setIfInBounds p.1 p.2) r.tmps:=by
  rw[<-D2,<-Array.toList_zip,Array.foldl_toList]
 have eC:(iQ σ.obj env ds).length=env.length:=by simp[iQ]
 rw[eC]at mL
 rw[y8]at ed
 have ZR:(r.params.zip us).foldl (fun tmps (x:Tmp×Value)=>match x with | (t,a)=>tmps.setIfInBounds t a) r.tmps=(ps.zip us.toList).foldl (fun tmps (p:Nat×Value)=>tmps.setIfInBounds p.1 p.2) r.tmps:=ZS
 rw[ZR]
 refine wpIn_mono (mL _ _ m _ w ed) ?_
 rintro e a1 w1 ⟨φ1,m1,σ1,gi,hK⟩
 cases e with
 |normal=>
  have Mh:w1.heap[(φ nm).blk]?=some (.loop r):=(gi.fr.block _ ae sJ).trans b9
  have cR:=(Array.getElem?_eq_some_iff.1 Mh).1
  refine⟨_,run_beginRound Mh dV,?_⟩
  have dW:w1.os=w.os/\w1.tape=w.tape/\w1.output=w.output:=⟨gi.fr.os,gi.fr.tape,gi.fr.output⟩
  have fE:=OA (wb:=w.putObj (φ nm).blk (.loop { r with state:=.busy })) (w2:=w1.putObj (φ nm).blk (.loop { r with state:=.busy }))
   (h':=fun l e=>by cases e;exact⟨sJ,_,World.putObj_heap_same ae⟩) (ht':=BP (yn hC _) ⟨r,b9⟩ fun b hb=>World.putObj_heap_other hb) gi ⟨by simp,by simp⟩ ⟨dW.1.symm,dW.2.1.symm,dW.2.2.symm⟩
   (fun b hb=>World.putObj_heap_other hb) (fun b hb=>World.putObj_heap_other hb) (by rw[World.putObj_heap_same ae,World.putObj_heap_same cR])
  refine wpIn_mono (hK _ _ m1 _ _ fE) ?_
  rintro e a3 w3 ⟨φ3,m3,σ3,sV,pt⟩
  have D3:w3.heap[(φ nm).blk]?=some (.loop { r with state:=.busy }):=(sV.fr.block _ (by show _<(w.putObj _ _).heap.size;simpa using ae) sJ).trans (World.putObj_heap_same ae)
  have ZA:=(Array.getElem?_eq_some_iff.1 D3).1
  have fin:∀ bo:Option Code,(y.o σ.obj env ps asg body ds).2=bo->gW (cl σ.obj (roots env ds)) (y.o σ.obj env ps asg body ds).1 σ3->
      ∃ v w',(Instr.endRound (φ nm).blk bo).run P w3=.ok v w'/\next (a.put o.dst v) w':=by
   intro bo he hE
   refine⟨_,_,run_endRound bo D3,?_⟩
   generalize Ze:({ r with state:=.busy }:Loop)=rb at D3 |-
   let rf:Loop:={ r with state:=if bo.isNone then .ready else .done,pending:=bo }
   have Zd:({ rb with state:=if bo.isNone then .ready else .done,pending:=bo }:Loop)=rf:=by rw[<-Ze]
   rw[Zd]
   have Nb:=OA (wb:=w.putObj (φ nm).blk (.loop rf)) (w2:=w3.putObj (φ nm).blk (.loop rf))
    (h':=fun l e=>by cases e;exact⟨sJ,_,World.putObj_heap_same ae⟩) (ht':=BP (yn hC _) ⟨r,b9⟩ fun b hb=>World.putObj_heap_other hb) sV ⟨by simp,by simp⟩
    ⟨(show (w.putObj (φ nm).blk (.loop rf)).os=(w3.putObj (φ nm).blk (.loop rf)).os from sV.fr.os.symm),(show (w.putObj (φ nm).blk (.loop rf)).tape=(w3.putObj (φ nm).blk (.loop rf)).tape from sV.fr.tape.symm),(show (w.putObj (φ nm).blk (.loop rf)).output=(w3.putObj (φ nm).blk (.loop rf)).output from sV.fr.output.symm)⟩
    (fun b hb=>by rw[World.putObj_heap_other hb,World.putObj_heap_other hb]) (fun b hb=>World.putObj_heap_other hb) (by rw[World.putObj_heap_same ae,World.putObj_heap_same ZA])
   have bB:aD G φ m { σ with obj:=upd σ.obj nm (some (.loop env ps asg body (if bo.isNone then .ready else .done) bo)) } a (w.putObj (φ nm).blk (.loop rf)):=by
    have :=hC.chg (w':=w.putObj (φ nm).blk (.loop rf)) nm (.loop env ps asg body (if bo.isNone then .ready else .done) bo) (φ nm) (Ext.same aq rfl rfl) ⟨rfl,rfl,rfl,by simp⟩
     (fun b _ hb=>World.putObj_heap_other (by rcases hb with h | h; · rw[db]at h;cases h
                                              ·exact h))
     (fun _=>.inr ⟨⟨_,aq,rfl,db⟩,rfl⟩) (by
       rw[eN]
       refine⟨by assumption,db,rf,World.putObj_heap_same ae,rfl,rfl,D2,Mg,Mf,Me,fun i hi=>(Md i hi).ext (Mem.le_refl m) ?_⟩
       have :=Ext.same (φ:=φ) (o':=.loop env ps asg body (if bo.isNone then .ready else .done) bo) aq rfl rfl
       rwa [eN]at this)
    rwa [eN]at this
   have hL':shut (upd σ.obj nm (some (.loop env ps asg body (if bo.isNone then .ready else .done) bo))) (reach σ.obj (roots env ds))=true:=by
    rw[B5 (obj:=σ.obj) fun x hx=>aI _ _ _ (by rintro rfl;exact fC hx)];exact fZ
   have As:(reach σ.obj (roots env ds)).map (cf (reach σ.obj (roots env ds)) (upd σ.obj nm (some (.loop env ps asg body (if bo.isNone then .ready else .done) bo))))=cl σ.obj (roots env ds):=
    List.map_congr_left fun x hx=>OQ fC hx
   have Fh:=NY hE
   rw[<-As]at Fh
   have wX:∀ x∈(y.o σ.obj env ps asg body ds).1.new,nm≠x.1++t:=fun x hx e=>by
    have :=List.all_eq_true.1 cF x hx
    rw[<-e,aq]at this;cases this
   have ZQ:fresh (upd σ.obj nm (some (.loop env ps asg body (if bo.isNone then .ready else .done) bo))) t (y.o σ.obj env ps asg body ds).1.new=true:=by
    rw[AB (obj:=σ.obj) fun x hx=>by
     obtain⟨z,hz,rfl⟩:=List.mem_map.1 hx
     exact aI _ _ _ (wX z hz).symm]
    exact cF
   rw[<-aaL (x:=some (.loop env ps asg body (if bo.isNone then .ready else .done) bo)) fC (h1:=fun l e=>by
    cases e;rw[EU fC];exact⟨sJ,_,World.putObj_heap_same ae⟩) (t1:=by unfold vH;rw[EU fC];exact BP (yn hC _) ⟨r,b9⟩ fun b hb=>World.putObj_heap_other hb)]at Nb
   obtain⟨φ',m',k1,k2,k3,k4⟩:=Nq bB jc hL' Nb Fh ZQ
   refine sy _ φ' m' _ ?_ (.v _ _ ?_)
   ·have:(dt (reach σ.obj (roots env ds)) t (y.o σ.obj env ps asg body ds).1.new (cg (reach σ.obj (roots env ds)) t (y.o σ.obj env ps asg body ds).1.upd (upd σ.obj nm (some (.loop env ps asg body (if bo.isNone then .ready else .done) bo)))))=
      upd (dt (reach σ.obj (roots env ds)) t (y.o σ.obj env ps asg body ds).1.new (cg (reach σ.obj (roots env ds)) t (y.o σ.obj env ps asg body ds).1.upd σ.obj)) nm (some (.loop env ps asg body (if bo.isNone then .ready else .done) bo)):=by
      funext x
      have hu:((y.o σ.obj env ps asg body ds).1.upd.all fun x=>decide (x.1<(reach σ.obj (roots env ds)).length))=true:=List.all_eq_true.2 fun z hz=>by
       have :=List.all_eq_true.1 Fh.cu z hz
       simp only[Bool.and_eq_true,List.length_map]at this;exact this.2
      by_cases e:x=nm
      ·subst e
       rw[aE,wc _ _ wX,Co _ _ hu fC,aE]
      ·rw[aI _ _ _ e]
       rw[rI (y.o σ.obj env ps asg body ds).1.new σ.obj (cg _ _ _ (upd _ _ _)) x,rI (y.o σ.obj env ps asg body ds).1.new σ.obj (cg _ _ _ σ.obj) x]
       by_cases h1:x∈(y.o σ.obj env ps asg body ds).1.new.map (fun x=>x.1++t)
       ·rw[if_pos h1,if_pos h1]
       ·rw[if_neg h1,if_neg h1]
        rw[uf (y.o σ.obj env ps asg body ds).1.upd σ.obj (upd _ _ _) x,uf (y.o σ.obj env ps asg body ds).1.upd σ.obj σ.obj x]
        by_cases h2:x∈(y.o σ.obj env ps asg body ds).1.upd.map (fun x=>(reach σ.obj (roots env ds)).getD x.1 [])
        ·rw[if_pos h2,if_pos h2]
        ·rw[if_neg h2,if_neg h2];exact aI _ _ _ e
    rw[this]at k2
    rw[he]
    exact k2
   ·rw[he];exact .bool _
  cases e with
  |normal=>exact fin none pt.1 pt.2
  |ret=>exact fin (some .ret) pt.1 pt.2
  |exit id=>exact fin (some (.exit id)) pt.1 pt.2
  |goto l=>exact pt.elim
  |panic ch=>exact pt.elim
  |outgrown=>exact pt.elim
 |ret=>exact hK.elim
 |exit id=>exact hK.elim
 |goto l=>exact hK.elim
 |panic ch=>exact hK.elim
 |outgrown=>exact hK.elim
theorem abU{G:Ghost}{φ:Name->Loc}{m:Mem}{σ:S}{a:Act}{w:World}(hC:aD G φ m σ a w):
 aD G φ m σ { a with defers:=[{ target:=.collected w.heap.size,args:= #[] }]++a.defers } (w.alloc (.deferred (some []))):=by
 have hb:∀ b,b<w.heap.size->(w.alloc (.deferred (some []))).heap[b]?=w.heap[b]?:=fun b h=>RowKit.Below.heap_alloc w _ b h
 have h:=hC.imm (w':=w.alloc (.deferred (some []))) (Mem.le_refl m) ⟨rfl,rfl,rfl,by simp⟩ hb (fun _ _ _ h=>.inl h)
 refine⟨h.tmps,h.size,?_,h.objs,h.mem,h.apart,h.inj,h.own,h.fr,h.fresh,h.kept⟩
 obtain⟨ds,h1,h2,h3⟩:=h.defers
 have ae:∀ D∈ds,D<w.heap.size:=fun D hD=>by
  obtain⟨mS,k1,k2,k3⟩:=hC.defers
  have e:mS=ds:=by
   have :=k1.symm.trans h1
   have hi:Function.Injective (fun D:Nat=>({ target:=.collected D,args:= #[] }:Deferred)):=fun x y h=>by simpa using h
   exact(List.map_inj_right hi).1 this
  exact(Array.getElem?_eq_some_iff.1 (k3 D (e▸hD)).2).1
 refine⟨w.heap.size::ds,by rw[h1];rfl,List.nodup_cons.2 ⟨fun hm=>Nat.lt_irrefl _ (ae _ hm),h2⟩,fun D hD=>?_⟩
 rcases List.mem_cons.1 hD with rfl | hD
 ·exact⟨hC.fr.size,World.alloc_heap_new w _⟩
 ·exact h3 D hD
def jJ(obj:Name->Option O)(nm:Name):Name->Option O:=upd obj nm (match obj nm with
 |some (.loop env ps asg body _ bo)=>some (.loop env ps asg body .exhausted bo)
 |o=>o)
def nL(K:Exit->S->Prop)(obj:Name->Option O)(nm:Name)(σ:S):Prop:=match obj nm with
 |some (.loop _ _ _ _ .busy _)=>False
 |some (.loop _ _ _ _ _ none)=>K .normal σ
 |some (.loop _ _ _ _ _ (some .ret))=>K .ret σ
 |some (.loop _ _ _ _ _ (some (.exit id)))=>K (.exit id) σ
 |_=>False
theorem Oj{P:Program}{Γ:FuncId->Option Spec}(hΓ:∀ f s,Γ f=some s->ak P f s){g:Operand}{ps:Array Tmp}{asg body:Code}{σ:S}{K:Exit->S->Prop}(k k':Nat){f:FuncId}{s:Spec}
 (hc:cB σ g=true) (dp:fJ (aj σ g)=some f) (al:f≠yid) (hs:Γ f=some s) (mF:σ.obj (k::σ.pre)=none)
 (aa:(s.app (upd σ.obj (k::σ.pre) (some (.loop ((List.range σ.nt).map σ.env) ps.toList asg body .ready none))) (k'::σ.pre) (eD (aj σ g) [.yld (k::σ.pre)])).ok)
 (hK:nL K (s.app (upd σ.obj (k::σ.pre) (some (.loop ((List.range σ.nt).map σ.env) ps.toList asg body .ready none))) (k'::σ.pre) (eD (aj σ g) [.yld (k::σ.pre)])).obj (k::σ.pre)
   { σ with obj:=jJ (s.app (upd σ.obj (k::σ.pre) (some (.loop ((List.range σ.nt).map σ.env) ps.toList asg body .ready none))) (k'::σ.pre) (eD (aj σ g) [.yld (k::σ.pre)])).obj (k::σ.pre) }):
 CW P (.rangeFunc g ps asg body) σ K:=by
 intro G φ m a w hC
 generalize aq:k::σ.pre=nm at *
 generalize Eg:upd σ.obj nm (some (.loop ((List.range σ.nt).map σ.env) ps.toList asg body .ready none))=p6 at *
 generalize hR:s.app p6 (k'::σ.pre) (eD (aj σ g) [.yld nm])=R at *
 have Ai:=bY hC hc
 obtain⟨us,vs,fs,cs,hu,kK,e1,e2,b9,dV⟩:∃ (us vs:Array Value) (fs cs:List D),a.eval g=.func (.func f) us vs/\(∀ args,eD (aj σ g) args=fs++args++cs)/\fs.length=us.size/\cs.length=vs.size/\
  (∀ i (h:i<fs.length) (h':i<us.size),aw φ σ.obj m fs[i] us[i])/\(∀ i (h:i<cs.length) (h':i<vs.size),aw φ σ.obj m cs[i] vs[i]):=by
  generalize a.eval g=u at *
  generalize aj σ g=d at *
  unfold fJ at dp
  split at dp
  ·rename_i f' fs cs
   split at dp
   ·cases dp
   cases dp
   cases Ai with
   |v _ _ Ai=>
   cases Ai with
   |clo _ _ _ us vs e1 e2 h1 h2=>
   exact⟨us,vs,fs.map .v,cs.map .v,rfl,fun _=>rfl,by simpa using e1,by simpa using e2,fun i a b=>by simpa using .v _ _ (h1 i (by simpa using a) b),fun i a b=>by simpa using .v _ _ (h2 i (by simpa using a) b)⟩
  ·rename_i f' fs cs
   split at dp
   ·cases dp
   cases dp
   cases Ai with
   |clo _ _ _ us vs e1 e2 h1 h2=>exact⟨us,vs,fs,cs,rfl,fun _=>rfl,e1,e2,h1,h2⟩
  ·cases dp;exact(al rfl).elim
  ·cases dp
 refine wpIn_rangeFunc fun fn _=>?_
 have main:∀ (W:World) (a':Act) (D:Nat),aD G φ m σ a' W->a'.tmps=a.tmps->
     ∃ (d:Deferred) (tJ:World) (f':FuncId) (args:Array Value) (w₂:World),
     (resolve a.eval (rangeCall g W.heap.size) 0).run P (W.alloc (.loop { state:=.ready,pending:=none,fn,tmps:=a.tmps,params:=ps,assign:=asg,body,defers:=D }))=.ok d tJ/\
     (invoke d.target d.args).run P tJ=.ok (.enter f' args) w₂/\
     CallsIn (fb G.rd) (0-1) P f' args w₂ (rangePost (fb G.rd) 0 P W.heap.size (fun e a' w'=>∃ φ' m' σ',aD G φ' m' σ' a' w'/\K e σ') a'):=by
  intro W a' D gi jZ
  obtain⟨r,qp⟩:∃ r:Loop,r={ state:=.ready,pending:=none,fn,tmps:=a.tmps,params:=ps,assign:=asg,body,defers:=D }:=⟨_,rfl⟩
  rw[<-qp]
  have hx:=Ext.new (φ:=φ) mF ⟨W.heap.size,0,0,false,none⟩ (.loop ((List.range σ.nt).map σ.env) ps.toList asg body .ready none)
  have fE:=gi.chg (w':=W.alloc (.loop r)) nm (.loop ((List.range σ.nt).map σ.env) ps.toList asg body .ready none) ⟨W.heap.size,0,0,false,none⟩ hx ⟨rfl,rfl,rfl,by simp⟩
   (fun b hb _=>RowKit.Below.heap_alloc W _ b hb) (fun _=>.inl (Nat.le_refl _)) ⟨rfl,rfl,r,World.alloc_heap_new W _,by rw[qp],by rw[qp],by rw[qp],by rw[qp],by rw[qp],by
     rw[qp]
     show a.tmps.size=_
     rw[<-jZ,gi.size];simp,fun i hi=>by
     simp only[List.getElem_map,List.getElem_range]
     rw[qp]
     show bU _ _ m _ (a.tmps.getD i undef)
     rw[<-jZ]
     exact(gi.tmps i).ext (Mem.le_refl m) hx⟩
  rw[Eg]at fE hx
  refine⟨{ target:=.fn (.func f) vs,args:=us++ #[.func (.yield W.heap.size) #[] #[]] },W.alloc (.loop r),f,us++ #[.func (.yield W.heap.size) #[] #[]]++vs,W.alloc (.loop r),?_,?_,?_⟩
  ·have hy:a.eval (.const (.func (.yield W.heap.size) #[] #[]))=.func (.yield W.heap.size) #[] #[]:=rfl
   simp[resolve,Deferred.ofValue,hu,hy]
  ·simp[invoke,(hΓ f s hs).enter al]
  ·refine NL ?_
   have aaf:=(hΓ f s hs).calls al G (upd φ nm ⟨W.heap.size,0,0,false,none⟩) m { σ with obj:=p6 } a' (W.alloc (.loop r)) fE (k'::σ.pre) (eD (aj σ g) [.yld nm]) (us++ #[.func (.yield W.heap.size) #[] #[]]++vs) ⟨k',rfl⟩
   refine(aaf ?_ ?_ ?_).mono ?_
   ·rw[kK];simp only[List.length_append,List.length_singleton,Array.size_append,e1,e2];rfl
   ·intro i h1 h2
    simp only[kK]
    have zQ:aw (upd φ nm ⟨W.heap.size,0,0,false,none⟩) p6 m (.yld nm) (.func (.yield W.heap.size) #[] #[]):=by
     have :=aw.yld (φ:=upd φ nm ⟨W.heap.size,0,0,false,none⟩) (obj:=p6) (m:=m) nm ⟨_,by rw[<-Eg,aE],rfl⟩
     rwa [aE]at this
    simp only[kK,List.length_append,List.length_singleton]at h1
    by_cases k1:i<fs.length
    ·have q1:i<us.size:=by omega
     simp only[List.append_assoc,Array.append_assoc]
     rw[List.getElem_append_left k1,Array.getElem_append_left q1]
     exact(b9 i k1 q1).ext (Mem.le_refl m) hx
    ·by_cases k2:i=fs.length
     ·subst k2
      simp only[List.append_assoc,Array.append_assoc]
      rw[List.getElem_append_right (by omega),Array.getElem_append_right (by omega)]
      simp only[Nat.sub_self,e1,List.cons_append,List.getElem_cons_zero]
      rw[Array.getElem_append_left (by simp)]
      simpa using zQ
     ·rw[List.getElem_append_right (by simp;omega),Array.getElem_append_right (by simp;omega)]
      have :=(dV (i-(fs.length+1)) (by omega) (by omega)).ext (Mem.le_refl m) hx
      simp only[List.length_append,List.length_singleton,Array.size_append,<-e1]
      exact this
   ·show (s.app p6 _ _).ok
    rw[hR];exact aa
   ·rintro e w3 ⟨v,φ',m',rfl,sV,_,YV⟩
    have h9:s.app p6 (k'::σ.pre) (eD (aj σ g) [.yld nm])=R:=hR
    have Nc:aD G φ' m' { σ with obj:=R.obj } a' w3:=by rw[<-h9];exact sV
    have YU:Ext (upd φ nm ⟨W.heap.size,0,0,false,none⟩) φ' p6 R.obj:=by rw[<-h9];exact YV
    have Zp:p6 nm=some (.loop ((List.range σ.nt).map σ.env) ps.toList asg body .ready none):=by rw[<-Eg,aE]
    have Ev:φ' nm=⟨W.heap.size,0,0,false,none⟩:=by
     obtain⟨o',k1,k2⟩:=YU nm _ Zp
     rcases k2 with⟨_,k2,_⟩ | ⟨n,n',k2,_⟩
     ·rw[k2,aE]
     ·cases k2
    unfold nL at hK
    have step:∀ {fW:List E} {fN:List Nat} {a1 b1:Code} {st:LoopState} {bo:Option Code},R.obj nm=some (.loop fW fN a1 b1 st bo)->st≠ .busy->
        ∃ w4,(Instr.endLoop W.heap.size).run P w3=.ok bo w4/\aD G φ' m' { σ with obj:=jJ R.obj nm } a' w4:=by
     intro fW fN a1 b1 st bo ho bG
     obtain⟨q0,q1,r',q2,q3,q4,q5,q6,q7,q8,q9⟩:=Nc.objs nm _ ho
     rw[Ev]at q2
     have Z3:(Instr.endLoop W.heap.size).run P w3=.ok bo (w3.putObj W.heap.size (.loop { r' with state:=.exhausted })):=by
      rw[run_endLoop (P:=P) q2 (by rw[q3];exact bG),q4]
     refine⟨_,Z3,?_⟩
     have ae:=(Array.getElem?_eq_some_iff.1 q2).1
     have lp:jJ R.obj nm=upd R.obj nm (some (.loop fW fN a1 b1 .exhausted bo)):=by unfold jJ;rw[ho]
     rw[lp]
     have :=Nc.chg (w':=w3.putObj W.heap.size (.loop { r' with state:=.exhausted })) nm (.loop fW fN a1 b1 .exhausted bo) (φ' nm) (Ext.same ho rfl rfl) ⟨rfl,rfl,rfl,by simp⟩
      (fun b _ hb=>World.putObj_heap_other (by
        rcases hb with h | h
        ·rw[q1]at h;cases h
        ·rw[Ev]at h;exact h))
      (fun _=>.inr ⟨⟨_,ho,rfl,q1⟩,rfl⟩) (by
        rw[eN]
        refine⟨q0,q1,{ r' with state:=.exhausted },by rw[Ev];exact World.putObj_heap_same ae,rfl,q4,q5,q6,q7,q8,fun i hi=>(q9 i hi).ext (Mem.le_refl _) ?_⟩
        have :=Ext.same (φ:=φ') (o':=.loop fW fN a1 b1 .exhausted bo) ho rfl rfl
        rwa [eN]at this)
     rw[eN]at this
     exact this
    rcases ho:R.obj nm with _ | o
    ·rw[ho]at hK;exact hK.elim
    rw[ho]at hK
    cases o with
    |loop fW fN a1 b1 st bo=>
     have bG:st≠ .busy:=by rintro rfl;exact hK.elim
     obtain⟨w4,h1,h2⟩:=step ho bG
     refine⟨bo,w4,h1,?_⟩
     cases bo with
     |none=>
      refine⟨φ',m',_,h2,?_⟩
      cases st<;>first | exact hK | exact(bG rfl).elim
     |some c=>
      cases c with
      |ret=>exact wpIn_ret ⟨φ',m',_,h2,by cases st<;>first | exact hK | exact(bG rfl).elim⟩
      |exit id=>exact wpIn_exit ⟨φ',m',_,h2,by cases st<;>first | exact hK | exact(bG rfl).elim⟩
      |_=>exfalso;cases st<;>first | exact hK | exact(bG rfl).elim
    |_=>exact hK.elim
 cases mD:G.rd with
 |none=>
  obtain⟨d,tJ,f',args,w₂,h1,h2,h3⟩:=main (w.alloc (.deferred (some []))) _ w.heap.size (abU hC) rfl
  rw[mD]at h3
  have bm:(w.alloc (.deferred (some []))).heap.size=w.heap.size+1:=by simp
  rw[bm]at h1 h3
  exact⟨w.heap.size+1,[{ target:=.collected w.heap.size,args:= #[] }],_,d,tJ,f',args,w₂,run_enterLoop_outer _ _ _ _ _,h1,fun _ _=>trivial,h2,fun h=>(by simp[fb,Fence.wide]at h),h3⟩
 |some l=>
  obtain⟨dX,r0,Mi⟩:=G.rdok l mD
  have Zg:w.heap[l]?=some (.loop r0):=(hC.fr.block l (Array.getElem?_eq_some_iff.1 Mi).1 dX).trans Mi
  obtain⟨d,tJ,f',args,w₂,h1,h2,h3⟩:=main w a r0.defers hC rfl
  rw[mD]at h3
  exact⟨w.heap.size,[],_,d,tJ,f',args,w₂,run_enterLoop_inner Zg _ _ _ _ _,h1,fun _ _=>trivial,h2,fun h=>(by simp[fb,Fence.wide]at h),h3⟩
theorem Gw{P:Program}{Γ:FuncId->Option Spec}(hΓ:∀ f s,Γ f=some s->ak P f s){g:Operand}{ps:Array Tmp}{asg body:Code}{σ:S}{r:List Code}{K:Exit->S->Prop}(k k':Nat){f:FuncId}{s:Spec}
 (hc:cB σ g=true) (dp:fJ (aj σ g)=some f) (al:f≠yid) (hs:Γ f=some s) (mF:σ.obj (k::σ.pre)=none)
 (aa:(s.app (upd σ.obj (k::σ.pre) (some (.loop ((List.range σ.nt).map σ.env) ps.toList asg body .ready none))) (k'::σ.pre) (eD (aj σ g) [.yld (k::σ.pre)])).ok)
 (hK:nL (gr (fun σ'=>CL P r σ' K) K) (s.app (upd σ.obj (k::σ.pre) (some (.loop ((List.range σ.nt).map σ.env) ps.toList asg body .ready none))) (k'::σ.pre) (eD (aj σ g) [.yld (k::σ.pre)])).obj (k::σ.pre)
   { σ with obj:=jJ (s.app (upd σ.obj (k::σ.pre) (some (.loop ((List.range σ.nt).map σ.env) ps.toList asg body .ready none))) (k'::σ.pre) (eD (aj σ g) [.yld (k::σ.pre)])).obj (k::σ.pre) }):
 CL P (.rangeFunc g ps asg body::r) σ K:=Oj hΓ k k' hc dp al hs mF aa hK
theorem dB.refl(σ:S):dB σ σ:=fun _ φ _ _ _ hC=>⟨φ,hC⟩
theorem dB.trans{a b c:S}(h:dB a b)(k:dB b c):dB a c:=fun G φ m x w hC=>by
 obtain⟨φ',h'⟩:=h G φ m x w hC
 exact k G φ' m x w h'
theorem bk{σ τ:S}(ks:List Nat)(ns:List Name)(h:fI ks ns σ)(he:fP ks ns σ=τ):dB σ τ:=he▸BG ks ns h
def kY(l c:List (Nat×E)):List (Nat×E):=l.map fun q=>(q.1,(c.lookup q.1).getD q.2)
def kX(l c:List (Name×O)):List (Name×O):=l.map fun q=>(q.1,(c.lookup q.1).getD q.2)
theorem kS{P:Program}{c:Code}{r:List Code}{σ:S}{K:Exit->S->Prop}(ks:List Nat)(ns:List Name)(h:fI ks ns σ)(hc:CL P (c::r) (fP ks ns σ) K):CL P (c::r) σ K:=
 vx (BG ks ns h) hc
theorem cN{P:Program}{c:Code}{r:List Code}{K:Exit->S->Prop}{nt:Nat}{p:Name}{H:Name->Option O}{l:List (Nat×E)}{h:List (Name×O)}{ι:Type}
 (chg:ι->List (Nat×E)) (ko:ι->List (Name×O)) (R:ι->Prop) (μ:ι->Nat) (i0:ι) (hR:R i0) (he:kY l (chg i0)=l) (ho:kX h (ko i0)=h)
 (round:∀ i,R i->CL P [c] (aT nt p H (kY l (chg i)) (kX h (ko i))) (gr (fun σ'=>∃ i',R i'/\μ i'<μ i/\dB σ' (aT nt p H (kY l (chg i')) (kX h (ko i')))) K)):
 CL P (.loop c::r) (aT nt p H l h) K:=by
 refine Gx (fun i=>aT nt p H (kY l (chg i)) (kX h (ko i))) R μ i0 hR ?_ round
 rw[he,ho]
 exact .refl _
theorem ab5{P:Program}{c:Code}{r:List Code}{K:Exit->S->Prop}{nt:Nat}{p:Name}{H:Name->Option O}{l:List (Nat×E)}{h:List (Name×O)}{ι:Type}
 (Hc:ι->Name->Option O) (chg:ι->List (Nat×E)) (ko:ι->List (Name×O)) (R:ι->Prop) (μ:ι->Nat) (i0:ι) (hR:R i0) (hH:aT nt p (Hc i0) l h=aT nt p H l h) (he:kY l (chg i0)=l) (ho:kX h (ko i0)=h)
 (round:∀ i,R i->CL P [c] (aT nt p (Hc i) (kY l (chg i)) (kX h (ko i))) (gr (fun σ'=>∃ i',R i'/\μ i'<μ i/\dB σ' (aT nt p (Hc i') (kY l (chg i')) (kX h (ko i')))) K)):
 CL P (.loop c::r) (aT nt p H l h) K:=by
 refine Gx (fun i=>aT nt p (Hc i) (kY l (chg i)) (kX h (ko i))) R μ i0 hR ?_ round
 rw[he,ho,hH]
 exact .refl _
attribute [go_sem] kY kX List.lookup_cons List.lookup_nil List.getElem?_toArray List.getElem?_cons_succ List.getElem?_cons_zero beq_true beq_false ite_self Bool.and_self Bool.or_self imp_self Bool.if_true_right Bool.if_false_right Bool.if_true_left Bool.if_false_left Bool.decide_eq_true
attribute [go_sem] vZ gW rU wq distinct eX dH cJ ft aW Bool.and_eq_true
def fy(a b:Nat):Bool:=Nat.ble a b
def gO(a b:Nat):Bool:=Nat.ble (a+1) b
def cC(a b:Nat):Bool:=Nat.beq a b
def cW(a b:Int):Bool:=match b-a with
 | .ofNat _=>true
 | .negSucc _=>false
def kD(a b:Int):Bool:=match b-a-1 with
 | .ofNat _=>true
 | .negSucc _=>false
def uB{α:Type}:Option α->Bool
 |none=>true
 |some _=>false
def oL:Option Nat->Nat->Bool
 |some a,b=>Nat.beq a b
 |none,_=>false
def vE(sz:Nat):List V->Bool
 |[]=>true
 |x::r=>Nat.beq x.cells.length sz&&vE sz r
def vF(sz:Nat):List V->Bool
 |[]=>true
 |x::r=>Nat.beq x.cells.length sz&&x.okc&&vF sz r
def wC(a b:IntKind):Bool:=match a,b with
 | .i64,.i64=>true
 | .u8,.u8=>true
 | .u64,.u64=>true
 | .i32,.i32=>true
 | .u32,.u32=>true
 |_,_=>false
def Dv(P:Program)(T:TypeId):Bool:=match P.underlying T with
 |some .bool=>true
 |_=>false
def isEq:BinOp->Bool
 | .eql=>true
 | .neq=>true
 |_=>false
def r3:Int->Bool
 | .ofNat 0=>true
 |_=>false
theorem rY{a b:Nat}(h:fy a b=true):a<=b:=Nat.le_of_ble_eq_true h
theorem wv{a b:Nat}(h:gO a b=true):a<b:=Nat.le_of_ble_eq_true h
theorem kr{a b:Nat}(h:cC a b=true):a=b:=Nat.eq_of_beq_eq_true h
theorem fA{a b:Int}(h:cW a b=true):a<=b:=by
 unfold cW at h
 split at h
 ·rename_i n hn
  have :(0:Int)<=b-a:=by rw[hn];exact Int.natCast_nonneg n
  omega
 ·cases h
theorem YH{a b:Int}(h:kD a b=true):a<b:=by
 unfold kD at h
 split at h
 ·rename_i n hn
  have :(0:Int)<=b-a-1:=by rw[hn];exact Int.natCast_nonneg n
  omega
 ·cases h
theorem za{α:Type}{o:Option α}(h:uB o=true):o=none:=by cases o<;>simp_all[uB]
theorem p7{o:Option Nat}{b:Nat}(h:oL o b=true):o=some b:=by
 cases o with
 |none=>cases h
 |some a=>rw[Nat.eq_of_beq_eq_true h]
theorem Bo{sz:Nat}:∀ {l:List V},vE sz l=true->∀ x∈l,x.cells.length=sz
 |y::r,h,x,hx=>by
  simp only[vE,Bool.and_eq_true]at h
  rcases List.mem_cons.1 hx with rfl | hx
  ·exact Nat.eq_of_beq_eq_true h.1
  ·exact Bo h.2 x hx
theorem Bp{sz:Nat}:∀ {l:List V},vF sz l=true->∀ x∈l,x.cells.length=sz/\x.okc=true
 |y::r,h,x,hx=>by
  simp only[vF,Bool.and_eq_true]at h
  rcases List.mem_cons.1 hx with rfl | hx
  ·exact⟨Nat.eq_of_beq_eq_true h.1.1,h.1.2⟩
  ·exact Bp h.2 x hx
theorem Lk{a b:IntKind}(h:wC a b=true):a=b:=by unfold wC at h;split at h<;>first | rfl | cases h
theorem Yo{P:Program}{T:TypeId}(h:Dv P T=true):P.underlying T=some .bool:=by unfold Dv at h;split at h<;>first | assumption | cases h
theorem zC{op:BinOp}(h:isEq op=true):op=.eql\/op=.neq:=by cases op<;>first | exact .inl rfl | exact .inr rfl | cases h
theorem Yj{n:Int}(h:r3 n=false):n≠0:=by rintro rfl;cases h
section
variable (P:Program) (obj:Name->Option O)
def xV(T:TypeId)(x:D):Bool:=
 match bd P T with
 |none=>false
 |some (ag,n)=>match x with
  | .v (.ptr cs)=>match ag with
    |true=>fy n cs.length
    |false=>cC n 1&&gO 0 cs.length
  | .ref nm off=>match obj nm with
    |some (.box cs)=>match ag with
     |true=>fy (off+n) cs.length
     |false=>cC n 1&&gO off cs.length
    |some (.fbox cs)=>match ag with
     |true=>fy (off+n) cs.length
     |false=>cC n 1&&gO off cs.length
    |_=>false
  | .aref nm k i off=>match obj nm with
    |some (.arr _ l)=>cC k l.length&&gO i l.length&&(match ag with
     |true=>fy (off+n) (l.getD i default).cells.length
     |false=>cC n 1&&gO off (l.getD i default).cells.length)
    |some (.farr _ l)=>cC k l.length&&gO i l.length&&(match ag with
     |true=>fy (off+n) (l.getD i default).cells.length
     |false=>cC n 1&&gO off (l.getD i default).cells.length)
    |_=>false
  |_=>false
def Bg(T:TypeId)(f:Nat)(x:D):Bool:=
 match dh P T f with
 |none=>false
 |some (off,n,_)=>!cC n 0&&match x with
  | .v (.ptr cs)=>fy (off+n) cs.length
  | .ref _ _=>true
  | .aref nm k _ _=>match obj nm with
    |some o=>oL o.len? k
    |none=>false
  |_=>false
def Be(T:TypeId)(x i:D):Bool:=
 match i with
 | .v (.int _ n)=>match x with
   | .v (.sl l)=>match bM P T with
     |some (_,sz,_)=>cW 0 n&&kD n l.length&&cC (l.getD n.toNat default).cells.length sz
     |none=>false
   | .msl nm k=>match bM P T with
     |some (_,sz,_)=>match obj nm with
      |some (.arr s l)=>cW 0 n&&kD n l.length&&cC k l.length&&cC s sz
      |some (.farr s l)=>cW 0 n&&kD n l.length&&cC k l.length&&cC s sz
      |_=>false
     |none=>false
   | .ref _ _=>match gJ P T with
     |some (len,_,_)=>cW 0 n&&kD n len
     |none=>false
   | .v (.ptr cs)=>match gJ P T with
     |some (len,sz,_)=>cW 0 n&&kD n len&&fy (n.toNat*sz+sz) cs.length
     |none=>false
   |_=>false
 |_=>false
def Pn(op:BinOp)(k k':IntKind)(b:Int):Bool:=
 match op with
 | .quo=>wC k k'&&!r3 b
 | .rem=>wC k k'&&!r3 b
 | .shl=>cW 0 b
 | .shr=>cW 0 b
 |_=>wC k k'
def Pc(op:BinOp)(a b:ByteArray):Bool:=
 match op with
 | .add=>fy (a.size+b.size) maxLen
 | .eql | .neq | .lss | .leq | .gtr | .geq=>true
 |_=>false
def GR(op:BinOp)(T:TypeId)(x y:D):Bool:=
 match x,y with
 | .v (.int k _),.v (.int k' b)=>Pn op k k' b
 | .v (.str a),.v (.str b)=>Pc op a b
 | .v (.bool _),.v (.bool _)=>Dv P T&&isEq op
 |_,_=>false
def GN(op:BinOp)(T:TypeId)(x y:V):Bool:=
 match j5 P Op.maxDepth T x y with
 |some _=>!(P.eqGuardType P.depth T)&&isEq op
 |none=>false
def GJ(op:BinOp)(T:TypeId)(x:D):Bool:=
 match x with
 | .v (.sl (_::_))=>oL (dR P T) 0&&isEq op
 | .msl nm (k+1)=>(match obj nm with | some o=>oL o.len? (k+1) | none=>false)&&oL (dR P T) 0&&isEq op
 |_=>false
def Bl(op:BinOp)(T:TypeId)(x y:D)(lk:Bool):Bool:=
 match lk with
 |true=>GJ P obj op T x
 |false=>match ew x,ew y with
  |some (.agg a),some (.agg b)=>GN P op T (.agg a) (.agg b)
  |_,_=>GR P op T x y
def A4(op:UnOp)(x:D):Bool:=
 match op,x with
 | .not,.v (.bool _)=>true
 | .neg,.v (.int _ _)=>true
 |_,_=>false
def Bj(src dst:TypeId)(x:D):Bool:=
 match lL P src dst with
 | 0=>match mq P dst,x with
   |some _,.v (.int _ _)=>(P.underlying src).isSome
   |_,_=>false
 |_=>false
def Bi(x:D)(i:Nat):Bool:=
 match x with
 | .tup l=>gO i l.length
 | .v (.tup l)=>gO i l.length
 |_=>false
def A8(x:D):Bool:=
 match x with
 | .ref _ _=>true
 | .v (.ptr _)=>true
 | .aref nm k _ _=>match obj nm with
   |some o=>oL o.len? k
   |none=>false
 |_=>false
def xX(t:Name)(x:D):Bool:=uB (obj (aM t))&&x.boxable
def Bm(t:Name)(T:TypeId):Bool:=match bh P T with
 |some z=>xX obj t (ju z)
 |none=>false
def Bk(T:TypeId)(parts:List (Nat×D)):Bool:=
 match jr P T,bh P T with
 |some ps,some z=>match ju z with
  | .agg cs=>match sZ (fun i=>ps[i]?) cs parts with
    |some _=>true
    |none=>false
  |_=>false
 |_,_=>false
def A5(T:TypeId)(x d:D):Bool:=
 match bd P T with
 |none=>false
 |some (_,n)=>match x with
  | .ref nm off=>match obj nm with
    |some (.box cs)=>d.boxable&&cC d.cells.length n&&fy (off+n) cs.length
    |_=>false
  | .aref nm k i off=>match obj nm with
    |some (.arr sz l)=>match ew d with
     |some y=>cC k l.length&&gO i l.length&&cC y.cells.length n&&y.okc&&fy (off+n) sz&&!cC sz 0
     |none=>false
    |_=>false
  |_=>false
def Ba(t:Name)(T:TypeId)(r:Option D):Bool:=
 match mo P T,r with
 |some _,none=>uB (obj (aM t))
 |_,_=>false
def A'(t:Name)(T:TypeId)(l c:D):Bool:=
 match bM P T,l,c with
 |some (e,sz,by_),.v (.int _ n),.v (.int _ n')=>match (bh P e).bind fun z=>ew (ju z)with
  |some zv=>cW n n'&&cW n' n&&cW 0 n&&cW ((by_:Int)*n) 281474976710656&&cW n 9223372036854775807&&cC zv.cells.length sz&&zv.okc&&!cC sz 0&&uB (obj (aM t))
  |none=>false
 |_,_,_=>false
def Bc(T:TypeId)(x:D):Bool:=
 match dR P T,x with
 |some 0,.v (.sl _)=>true
 |some 0,.nilsl=>true
 |some 0,.msl nm k=>match obj nm with
  |some o=>oL o.len? k
  |none=>false
 |some 1,.v (.str _)=>true
 |some 2,.nilmap=>true
 |some 2,.map nm=>match obj nm with
  |some (.map _ _)=>true
  |_=>false
 |_,_=>false
def A6(T:TypeId)(x:D)(lo hi mx:Option D):Bool:=
 match mx with
 |none=>match x with
  | .v (.sl l)=>match bM P T,gP lo,kG l.length hi with
    |some (_,sz,_),some i,some j=>cW 0 i&&cW i j&&cW j l.length&&vE sz l
    |_,_,_=>false
  | .nilsl=>match bM P T,gP lo,kG 0 hi with
    |some (_,_,_),some i,some j=>r3 i&&r3 j
    |_,_,_=>false
  | .msl nm k=>match obj nm,bM P T,gP lo,kG k hi with
    |some (.arr _ l),some (_,sz,_),some i,some j=>cC k l.length&&cW 0 i&&cW i j&&cW j l.length&&vE sz l
    |some (.farr _ l),some (_,sz,_),some i,some j=>cC k l.length&&cW 0 i&&cW i j&&cW j l.length&&vE sz l
    |_,_,_,_=>false
  | .v (.str s)=>match dR P T,gP lo,kG s.size hi with
    |some 1,some i,some j=>cW 0 i&&cW i j&&cW j s.size
    |_,_,_=>false
  |_=>false
 |some (.v (.int _ 0))=>match bM P T,gP lo,hi with
  |some _,some 0,some (.v (.int _ 0))=>match x with
   | .v (.sl _)=>true
   | .nilsl=>true
   | .msl nm k=>match obj nm with
     |some o=>oL o.len? k
     |none=>false
   |_=>false
  |_,_,_=>false
 |some _=>false
def Bh(T:TypeId)(x:D)(f:Nat):Bool:=
 match dh P T f with
 |none=>false
 |some (off,n,ag)=>match x with
  | .agg l=>match ag with
    |true=>fy (off+n) l.length
    |false=>gO off l.length
  | .v (.agg l)=>match ag with
    |true=>fy (off+n) l.length
    |false=>gO off l.length
  |_=>false
def Bf(T:TypeId)(x i:D):Bool:=
 match i with
 | .v (.int _ n)=>match x with
   | .v (.str s)=>oL (dR P T) 1&&cW 0 n&&kD n s.size
   | .agg l=>match gJ P T with
     |some (len,sz,true)=>cW 0 n&&kD n len&&fy (n.toNat*sz+sz) l.length
     |some (len,sz,false)=>cW 0 n&&kD n len&&gO (n.toNat*sz) l.length
     |none=>false
   | .v (.agg l)=>match gJ P T with
     |some (len,sz,true)=>cW 0 n&&kD n len&&fy (n.toNat*sz+sz) l.length
     |some (len,sz,false)=>cW 0 n&&kD n len&&gO (n.toNat*sz) l.length
     |none=>false
   |_=>false
 |_=>false
def Bb(T:TypeId)(x k:D):Bool:=
 match mo P T with
 |some (kd,e)=>match (bh P e).bind fun z=>ew (ju z),ew k with
  |some _,some kv=>match x with
   | .nilmap=>fy kd 2&&eu kd kv
   | .map nm=>match obj nm with
     |some (.map kz _)=>fy kd 2&&eu kd kv&&cC kz kd
     |_=>false
   |_=>false
  |_,_=>false
 |none=>false
def xU(T:TypeId)(x k d:D):Bool:=
 match mo P T,x,ew k,ew d with
 |some (kd,_),.map nm,some kv,some _=>match obj nm with
  |some (.map kz _)=>fy kd 2&&eu kd kv&&cC kz kd
  |_=>false
 |_,_,_,_=>false
def A7(c:D):Bool:=match c with
 | .v (.bool _)=>true
 |_=>false
def xT(x:D):Bool:=match x with
 | .v (.sl _)=>true
 | .nilsl=>true
 | .msl nm k=>match obj nm with
   |some (.arr _ l)=>cC k l.length
   |some (.farr _ l)=>cC k l.length
   |_=>false
 |_=>false
def tz(t:Name)(T1 T2:TypeId)(s x:D):Bool:=
 match bM P T1,bM P T2 with
 |some (e,sz,by_),some _=>match bh P e with
  |some z=>match s with
   | .nilsl=>xT obj x&&vF sz (aA obj x).2&&cC z.cells.size sz&&fy ((aA obj x).2.length*by_) 140737488355328&&fy (aA obj x).2.length maxLen&&uB (obj (aM t))
   | .msl nm k=>match obj nm with
     |some (.arr s' l)=>xT obj x&&vF sz (aA obj x).2&&cC z.cells.size sz&&fy ((l.length+(aA obj x).2.length)*by_) 140737488355328&&
        fy (l.length+(aA obj x).2.length) maxLen&&cC k l.length&&cC s' sz
     |_=>false
   |_=>false
  |none=>false
 |_,_=>false
variable {P obj}
theorem qb{a b:Nat}:fy a b=true↔a<=b:=⟨rY,Nat.ble_eq_true_of_le⟩
theorem wx{a b:Nat}:gO a b=true↔a<b:=⟨wv,Nat.ble_eq_true_of_le⟩
theorem qf{a b:Nat}:cC a b=true↔a=b:=⟨kr,fun h=>by subst h;simp[cC]⟩
theorem zg{a b:Nat}:cC a b=false↔a≠b:=by
 rw[<-Bool.not_eq_true,qf]
theorem LZ{a b:Int}:cW a b=true↔a<=b:=⟨fA,fun h=>by
 unfold cW
 split
 ·rfl
 ·rename_i n hn;have:=Int.negSucc_lt_zero n;omega⟩
theorem LY{a b:Int}:kD a b=true↔a<b:=⟨YH,fun h=>by
 unfold kD
 split
 ·rfl
 ·rename_i n hn;have:=Int.negSucc_lt_zero n;omega⟩
theorem LN{n:Int}:r3 n=true↔n=0:=⟨fun h=>(by unfold r3 at h;split at h<;>first | rfl | cases h),fun h=>(by subst h;rfl)⟩
theorem GL{T:TypeId}{x:D}(h:xV P obj T x=true):(jF P obj T x).ok:=by
 unfold xV at h
 unfold jF
 (repeat' split at h)<;>simp_all[qb,wx,qf,-List.getD_eq_getElem?_getD]
theorem Pr{T:TypeId}{f:Nat}{x:D}(h:Bg P obj T f x=true):(lE P obj T f x).ok:=by
 unfold Bg at h
 unfold lE
 split at h
 ·cases h
 ·simp only[Bool.and_eq_true,Bool.not_eq_true',zg]at h
  obtain⟨h1,h⟩:=h
  (repeat' split at h)<;>simp_all[qb]
  exact p7 h
theorem Pp{T:TypeId}{x i:D}(h:Be P obj T x i=true):(lD P obj T x i).ok:=by
 unfold Be at h
 unfold lD
 (repeat' split at h)<;>simp_all[qb,qf,LZ,LY,-List.getD_eq_getElem?_getD]
theorem acN{op:BinOp}{T:TypeId}{x y:D}(h:GR P op T x y=true):(nl P obj op T x y).ok:=by
 unfold GR at h
 unfold nl
 split at h
 ·simp only
  unfold Pn at h
  unfold Bd
  cases op<;>simp only[Bool.and_eq_true,Bool.not_eq_true']at h |- <;>first
   |exact⟨Lk h.1,Yj h.2⟩
   |exact Lk h
   |exact fA h
 ·simp only
  unfold Pc at h
  unfold xS
  cases op<;>simp only at h |- <;>first | exact rY h | trivial | (cases h;done)
 ·simp only[Bool.and_eq_true]at h
  exact⟨Yo h.1,zC h.2⟩
 ·cases h
theorem acI{op:BinOp}{T:TypeId}{x y:V}(h:GN P op T x y=true):(l8 P obj op T x y).ok:=by
 unfold GN at h
 unfold l8
 split at h
 ·rename_i b hb
  simp only[Bool.and_eq_true,Bool.not_eq_true']at h
  rw[hb]
  exact⟨h.1,zC h.2⟩
 ·cases h
theorem acF{op:BinOp}{T:TypeId}{x:D}(h:GJ P obj op T x=true):(pG P obj op T x).ok:=by
 unfold GJ at h
 unfold pG
 split at h
 ·simp only[Bool.and_eq_true]at h
  exact⟨p7 h.1,zC h.2⟩
 ·rename_i nm k
  simp only[Bool.and_eq_true]at h
  refine⟨?_,p7 h.1.2,zC h.2⟩
  have h1:=h.1.1
  split at h1
  ·rename_i o ho;rw[ho];exact p7 h1
  ·cases h1
 ·cases h
theorem Pw{op:BinOp}{T:TypeId}{x y:D}{n:Bool}(h:Bl P obj op T x y n=true):(mc P obj op T x y n).ok:=by
 unfold Bl at h
 unfold mc
 cases n with
 |true=>exact acF h
 |false=>
  simp only at h |-
  split at h
  ·rename_i h1 h2
   simp only[h1,h2]
   exact acI h
  ·rename_i al
   split
   ·rename_i h1 h2;exact(al _ _ h1 h2).elim
   ·exact acN h
theorem Pb{op:UnOp}{x:D}(h:A4 op x=true):(lY obj op x).ok:=by
 unfold A4 at h
 unfold lY
 split at h<;>first | trivial | cases h
theorem Pu{s d:TypeId}{x:D}(h:Bj P s d x=true):(nk P obj s d x).ok:=by
 unfold Bj at h
 unfold nk
 split at h
 ·rename_i h0
  rw[h0]
  show (pH P obj s d x).ok
  unfold pH
  (repeat' split at h)<;>simp_all
 ·cases h
theorem Ps{x:D}{i:Nat}(h:Bi x i=true):(l7 obj x i).ok:=by
 unfold Bi at h
 unfold l7
 split at h<;>simp_all[wx]
theorem Ph{x:D}(h:A8 obj x=true):(kU obj x).ok:=by
 unfold A8 at h
 unfold kU
 (repeat' split at h)<;>simp_all
 exact p7 h
theorem GQ{t:Name}{x:D}(h:xX obj t x=true):(mb obj t x).ok:=by
 simp only[xX,Bool.and_eq_true]at h
 exact⟨za h.1,h.2⟩
theorem Px{t:Name}{T:TypeId}(h:Bm P obj t T=true):(np P obj t T).ok:=by
 unfold Bm at h
 unfold np
 split at h
 ·rename_i z hz;rw[hz];exact GQ h
 ·cases h
theorem Pv{T:TypeId}{ps:List (Nat×D)}(h:Bk P T ps=true):(ma P obj T ps).ok:=by
 unfold Bk at h
 unfold ma
 (repeat' split at h)<;>simp_all
theorem Pd{T:TypeId}{x d:D}(h:A5 P obj T x d=true):(kT P obj T x d).ok:=by
 unfold A5 at h
 unfold kT
 (repeat' split at h)<;>simp_all[qb,wx,qf,zg]
theorem Pk{t:Name}{T:TypeId}{r:Option D}(h:Ba P obj t T r=true):(nj P obj t T r).ok:=by
 unfold Ba at h
 unfold nj
 (repeat' split at h)<;>simp_all
 exact za h
theorem Pj{t:Name}{T:TypeId}{l c:D}(h:A' P obj t T l c=true):(ni P obj t T l c).ok:=by
 unfold A' at h
 unfold ni
 split at h
 ·rename_i e sz by_ k n k' n' hT
  rw[hT]
  simp only
  split at h
  ·rename_i zv hz
   simp only[Bool.and_eq_true,Bool.not_eq_true',zg]at h
   obtain⟨⟨⟨⟨⟨⟨⟨⟨h1,h2⟩,h3⟩,h4⟩,h5⟩,h6⟩,h7⟩,h8⟩,h9⟩:=h
   rw[hz]
   exact⟨Int.le_antisymm (fA h2) (fA h1),fA h3,fA h4,fA h5,kr h6,h7,h8,za h9⟩
  ·cases h
 ·cases h
theorem Pm{T:TypeId}{x:D}(h:Bc P obj T x=true):(kV P obj T x).ok:=by
 unfold Bc at h
 unfold kV
 (repeat' split at h)<;>simp_all
 exact p7 h
theorem Pe{T:TypeId}{x:D}{lo hi mx:Option D}(h:A6 P obj T x lo hi mx=true):(jo P obj T x lo hi mx).ok:=by
 unfold A6 at h
 unfold jo
 split at h
 ·split at h
  ·split at h
   ·rename_i h1 h2 h3
    simp only[Bool.and_eq_true]at h
    simp only[h1,h2,h3]
    exact⟨fA h.1.1.1,fA h.1.1.2,fA h.1.2,Bo h.2⟩
   ·cases h
  ·split at h
   ·rename_i h1 h2 h3
    simp only[Bool.and_eq_true]at h
    simp only[h1,h2,h3]
    exact⟨LN.1 h.1,LN.1 h.2⟩
   ·cases h
  ·split at h
   ·rename_i h1 h2 h3 h4
    simp only[Bool.and_eq_true]at h
    simp only[h1,h2,h3,h4]
    exact⟨kr h.1.1.1.1,fA h.1.1.1.2,fA h.1.1.2,fA h.1.2,Bo h.2⟩
   ·rename_i h1 h2 h3 h4
    simp only[Bool.and_eq_true]at h
    simp only[h1,h2,h3,h4]
    exact⟨kr h.1.1.1.1,fA h.1.1.1.2,fA h.1.1.2,fA h.1.2,Bo h.2⟩
   ·cases h
  ·split at h
   ·rename_i h1 h2 h3
    simp only[Bool.and_eq_true]at h
    simp only[h1,h2,h3]
    exact⟨fA h.1.1,fA h.1.2,fA h.2⟩
   ·cases h
  ·cases h
 ·split at h
  ·rename_i h1 h2 h3
   split at h
   ·simp only[h2,h3]
   ·simp only[h2,h3]
   ·split at h
    ·rename_i o ho
     simp only[h2,h3,ho]
     exact p7 h
    ·cases h
   ·cases h
  ·cases h
 ·cases h
theorem Pq{T:TypeId}{x:D}{f:Nat}(h:Bh P T x f=true):(l6 P obj T x f).ok:=by
 unfold Bh at h
 unfold l6
 (repeat' split at h)<;>simp_all[qb,wx]
theorem Po{T:TypeId}{x i:D}(h:Bf P T x i=true):(l5 P obj T x i).ok:=by
 unfold Bf at h
 unfold l5
 (repeat' split at h)<;>simp_all[qb,wx,LZ,LY]
 exact p7 h.1.1
theorem Pl{T:TypeId}{x k:D}{c:Bool}(h:Bb P obj T x k=true):(lZ P obj T x k c).ok:=by
 unfold Bb at h
 unfold lZ
 (repeat' split at h)<;>simp_all[qb,qf]
theorem A9{T:TypeId}{x k d:D}(h:xU P obj T x k d=true):(ke P obj T x k d).ok:=by
 unfold xU at h
 unfold ke
 (repeat' split at h)<;>simp_all[qb,qf]
theorem Pf{c x y:D}(h:A7 c=true):(jE obj c x y).ok:=by
 unfold A7 at h
 unfold jE
 split at h<;>first | trivial | cases h
theorem GI{x:D}(h:xT obj x=true):(aA obj x).1:=by
 unfold xT at h
 unfold aA
 (repeat' split at h)<;>simp_all[qf]
theorem xY{t:Name}{T1 T2:TypeId}{s x:D}(h:tz P obj t T1 T2 s x=true):(cv P obj t T1 T2 s x).ok:=by
 unfold tz at h
 unfold cv
 split at h
 ·rename_i e sz by_ p h1 h2
  split at h
  ·rename_i z hz
   split at h
   ·simp only[Bool.and_eq_true]at h
    simp only[h1,h2,hz]
    exact⟨GI h.1.1.1.1.1,Bp h.1.1.1.1.2,kr h.1.1.1.2,rY h.1.1.2,rY h.1.2,za h.2⟩
   ·split at h
    ·rename_i ho
     simp only[Bool.and_eq_true]at h
     simp only[h1,h2,hz,ho]
     exact⟨GI h.1.1.1.1.1.1,Bp h.1.1.1.1.1.2,kr h.1.1.1.1.2,rY h.1.1.1.2,rY h.1.1.2,kr h.1.2,kr h.2⟩
    ·cases h
   ·cases h
  ·cases h
 ·cases h
end
def pz(f:(Name->Option O)->D->Bool)(g:(Name->Option O)->D->FR)(obj:Name->Option O):List D->Bool
 |[]=>true
 |d::r=>f obj d&&pz f g (g obj d).obj r
def kO:Nat->(Name->Option O)->D->Bool
 | 0,obj,d=>match d with
   | .v _=>true
   | .nilsl=>true
   |_=>false
 |n+1,obj,d=>match d with
  | .v _=>true
  | .nilsl=>true
  | .msl nm k=>match obj nm with
    |some (.arr _ l)=>decide (k=l.length)
    |some (.farr _ l)=>decide (k=l.length)
    |_=>false
  | .ref nm _=>match obj nm with
    |some (.box cs)=>pz (kO n) (av n) obj cs&&!cj (ef (fp n obj) cs) nm
    |some (.fbox _)=>true
    |_=>false
  | .agg l=>pz (kO n) (av n) obj l
  | .tup l=>pz (kO n) (av n) obj l
  | .clo _ f c=>pz (kO n) (av n) obj f&&pz (kO n) (av n) (aK (av n) obj f).obj c
  |_=>false
theorem Fu{n:Nat}(ih:∀ obj d,kO n obj d=true->(av n obj d).ok):∀ (l:List D) (obj:Name->Option O),pz (kO n) (av n) obj l=true->(aK (av n) obj l).ok
 |[],_,_=>trivial
 |d::r,obj,h=>by
  simp only[pz,Bool.and_eq_true]at h
  exact⟨ih obj d h.1,Fu ih r _ h.2⟩
theorem Nn:∀ (n:Nat) (obj:Name->Option O) (d:D),kO n obj d=true->(av n obj d).ok
 | 0,obj,d,h=>by cases d<;>first | trivial | (simp[kO]at h)
 |n+1,obj,d,h=>by
  have ih:=Fu (Nn n)
  cases d with
  |v x=>trivial
  |nilsl=>trivial
  |msl nm k=>
   simp only[kO]at h
   unfold av
   rcases ho:obj nm with _ | o
   ·simp[ho]at h
   ·cases o<;>simp[ho]at h |- <;>exact h
  |ref nm off=>
   simp only[kO]at h
   rcases ho:obj nm with _ | o
   ·simp[ho]at h
   ·cases o with
    |box cs=>
     simp only[ho,Bool.and_eq_true,Bool.not_eq_true']at h
     simp only[av,ho]
     refine⟨ih cs obj h.1,?_⟩
     have :=(xt (AA n) cs obj obj (ef (fp n obj) cs) (fun _ hn=>hn) (fun _ _=>rfl)).2.frame nm (fun hn=>by rw[ic.2 hn]at h;cases h.2)
     rw[this,ho]
    |fbox cs=>simp only[av,ho]
    |_=>simp[ho]at h
  |agg l=>exact ih l obj h
  |tup l=>exact ih l obj h
  |clo fn f c=>
   simp only[kO,Bool.and_eq_true]at h
   exact⟨ih f obj h.1,ih c _ h.2⟩
  |_=>simp[kO]at h
def isNil{α:Type}:List α->Bool
 |[]=>true
 |_=>false
theorem Yk{α:Type}{l:List α}:isNil l=true↔l=[]:=by cases l<;>simp[isNil]
def zz:Nat->List Nat->Bool
 |_,[]=>true
 |k,x::r=>cC x k&&zz (k+1) r
theorem LO:∀ {k:Nat} {l:List Nat},zz k l=true->l=List.range' k l.length
 |k,[],_=>rfl
 |k,x::r,h=>by
  simp only[zz,Bool.and_eq_true]at h
  rw[kr h.1,List.length_cons,List.range'_succ]
  congr 1
  exact LO h.2
def GG(P:Program)(obj:Name->Option O)(T:TypeId)(n:Nat)(parts:List (Nat×D)):Bool:=
 match bM P T with
 |some (e,sz,_)=>match cC n 0&&isNil parts with
  |true=>(bh P e).isSome
  |false=>pz (kO 4) (av 4) obj (parts.map fun p=>p.2)&&zz 0 (parts.map fun p=>p.1)&&cC parts.length n&&vF sz (aK (av 4) obj (parts.map fun p=>p.2)).xs&&
     fy (n*sz) 16777216&&!cC sz 0&&(bh P e).isSome&&gO 0 n
 |none=>false
theorem acu{P:Program}{obj:Name->Option O}{T:TypeId}{n:Nat}{parts:List (Nat×D)}(h:GG P obj T n parts=true):(oq P obj T n parts).ok:=by
 unfold GG at h
 unfold oq
 split at h
 ·rename_i e sz by_ hT
  rw[hT]
  simp only
  split at h
  ·rename_i hc
   simp only[Bool.and_eq_true,qf,Yk]at hc
   rw[if_pos hc];exact h
  ·rename_i hc
   have jY:¬ (n=0/\parts=[]):=by
    intro ⟨a,b⟩
    subst a;subst b
    cases hc
   rw[if_neg jY]
   simp only[Bool.and_eq_true,Bool.not_eq_true',zg]at h
   obtain⟨⟨⟨⟨⟨⟨⟨h1,h2⟩,qJ⟩,h3⟩,h4⟩,h5⟩,h6⟩,h7⟩:=h
   refine⟨?_,Fu (Nn 4) _ _ h1,Bp h3,rY h4,h5,h6,wv h7⟩
   have :=LO h2
   rw[List.length_map,kr qJ,<-List.range_eq_range']at this
   exact this
 ·cases h
def GF(P:Program)(σ:S)(t:Name)(b:Builtin)(ts:List TypeId)(args:List D):Bool:=
 match b,ts,args with
 | .len,[T],[x]=>Bc P σ.obj T x
 | .append,[T1,T2],[s,x]=>tz P σ.obj t T1 T2 s x
 | .min,_,[.v (.int _ _),.v (.int _ _)]=>true
 | .max,_,[.v (.int _ _),.v (.int _ _)]=>true
 |_,_,_=>false
def Jh(P:Program)(σ:S)(t:Name):Op->Bool
 | .move _=>true
 | .assign _=>true
 | .pick c _ _=>A7 (aj σ c)
 | .alloc T=>Bm P σ.obj t T
 | .box _ x=>xX σ.obj t (aj σ x)
 | .build T ps=>Bk P T (ps.toList.map fun p=>(p.1,aj σ p.2))
 | .buildSlice T n ps=>GG P σ.obj T n (ps.toList.map fun p=>(p.1,aj σ p.2))
 | .load T x=>xV P σ.obj T (aj σ x)
 | .store T x d=>A5 P σ.obj T (aj σ x) (aj σ d)
 | .nilCheck x=>A8 σ.obj (aj σ x)
 | .binOp op T x y _=>Bl P σ.obj op T (aj σ x) (aj σ y) (zA y)
 | .unOp op _ x=>A4 op (aj σ x)
 | .convert s d x=>Bj P s d (aj σ x)
 | .makeFunc _ _ _=>true
 | .makeMap T r=>Ba P σ.obj t T (r.map (aj σ))
 | .makeSlice T l c=>A' P σ.obj t T (aj σ l) (aj σ c)
 | .slice T x lo hi mx=>A6 P σ.obj T (aj σ x) (lo.map (aj σ)) (hi.map (aj σ)) (mx.map (aj σ))
 | .fieldAddr T x f=>Bg P σ.obj T f (aj σ x)
 | .field T x f=>Bh P T (aj σ x) f
 | .indexAddr T x i=>Be P σ.obj T (aj σ x) (aj σ i)
 | .index T x i=>Bf P T (aj σ x) (aj σ i)
 | .lookup T x i _=>Bb P σ.obj T (aj σ x) (aj σ i)
 | .mapUpdate T x k d=>xU P σ.obj T (aj σ x) (aj σ k) (aj σ d)
 | .insert T x k d=>xU P σ.obj T (aj σ x) (aj σ k) (aj σ d)
 | .extract x i=>Bi (aj σ x) i
 | .call ⟨.builtin b,args,ts⟩=>GF P σ t b ts.toList (args.toList.map (aj σ))
 |_=>false
theorem acs{P:Program}{σ:S}{t:Name}{b:Builtin}{ts:List TypeId}{args:List D}(h:GF P σ t b ts args=true):(l9 P σ t b ts args).ok:=by
 unfold GF at h
 split at h
 ·exact Pm h
 ·exact xY h
 ·trivial
 ·trivial
 ·cases h
theorem Vb{P:Program}{Γ:FuncId->Option Spec}{σ:S}{t:Name}{op:Op}(h:Jh P σ t op=true):(aU P Γ σ t op).ok:=by
 cases op with
 |call c=>
  obtain⟨callee,args,ts⟩:=c
  cases callee with
  |value f=>cases h
  |builtin b=>exact acs h
  |invoke=>cases h
 |move=>trivial
 |assign=>trivial
 |makeFunc=>trivial
 |pick=>exact Pf h
 |alloc=>exact Px h
 |box=>exact GQ h
 |build=>exact Pv h
 |buildSlice=>exact acu h
 |load=>exact GL h
 |store=>exact Pd h
 |nilCheck=>exact Ph h
 |binOp=>exact Pw h
 |unOp=>exact Pb h
 |convert=>exact Pu h
 |makeMap=>exact Pk h
 |makeSlice=>exact Pj h
 |slice=>exact Pe h
 |fieldAddr=>exact Pr h
 |field=>exact Pq h
 |indexAddr=>exact Pp h
 |index=>exact Po h
 |lookup=>exact Pl h
 |mapUpdate=>exact A9 h
 |insert=>exact A9 h
 |extract=>exact Ps h
 |_=>cases h
end Go.Eng
