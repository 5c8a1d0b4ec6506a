import Derived.Test.YtckmfkgppohnmaaDoorK2
/- Texts Eng17 to EngX. -/
set_option linter.all false
namespace Go.Eng
open Go
def bH(Γ:FuncId->Option Spec)(σ:S)(t:Name):Op->List Name
 | .alloc _ | .box _ _ | .makeMap _ _ | .makeSlice _ _ _=>[aM t]
 | .load _ x | .nilCheck x | .fieldAddr _ x _ | .indexAddr _ x _ | .lookup _ x _ _ | .store _ x _ | .mapUpdate _ x _ _ | .insert _ x _ _ | .slice _ x _ _ _=>aI (ai σ x)
 | .binOp _ _ x _ _=>aI (ai σ x)
 | .buildSlice _ _ ps=>dJ (fp 4 σ.obj) (ps.toList.map fun p=>ai σ p.2)
 | .call ⟨.value f,args,_⟩=>match (gr (ai σ f)).bind Γ with
   |some s=>s.foot σ.obj t (eG (ai σ f) (args.toList.map (ai σ)))
   |none=>[]
 | .call ⟨.builtin .append,args,_⟩=>match args.toList with
   |[s,x]=>aI (ai σ s)++aI (ai σ x)++[aM t]
   |_=>[]
 | .call ⟨.builtin .len,args,_⟩=>match args.toList with
   |[x]=>aI (ai σ x)
   |_=>[]
 |_=>[]
def bo(Γ:FuncId->Option Spec)(σ:S)(t:Name):Op->List Name
 | .alloc _ | .box _ _ | .makeMap _ _ | .makeSlice _ _ _=>[aM t]
 | .store _ x _ | .mapUpdate _ x _ _ | .insert _ x _ _=>aI (ai σ x)
 | .slice _ x _ _ _=>muts σ.obj (aI (ai σ x))
 | .buildSlice _ _ ps=>muts σ.obj (dJ (fp 4 σ.obj) (ps.toList.map fun p=>ai σ p.2))
 | .call ⟨.value f,args,_⟩=>match (gr (ai σ f)).bind Γ with
   |some s=>s.wrt σ.obj t (eG (ai σ f) (args.toList.map (ai σ)))
   |none=>[]
 | .call ⟨.builtin .append,args,_⟩=>match args.toList with
   |[s,x]=>aI (ai σ s)++aI (ai σ x)++[aM t]
   |_=>[]
 |_=>[]
theorem acx{P:Program}{obj:Name->Option O}{T:TypeId}{x:D}{lo hi mx:Option D}:Fz obj (iZ P obj T x lo hi mx).obj:=by
 unfold iZ
 repeat' split
 all_goals first
  |exact .refl obj
  |exact Fz.one (.refl obj) (by assumption) rfl rfl
theorem bD.muts{r r2:R}{obj obj2:Name->Option O}{W:List Name}(h:bD r r2 obj obj2 W)(hz:Fz obj r.obj)(ha:bq W obj obj2):bD r r2 obj obj2 (muts obj W):=by
 refine ll.like (W:=W) ⟨h.ok,fun nm hn=>?_,h.frame,fun nm hn=>?_⟩ h.d hz ha
 ·rw[h.eff nm,if_pos hn]
 ·rw[h.eff nm,if_neg hn]
theorem CS{ok:Prop}{d:D}{obj obj2:Name->Option O}:bD ⟨ok,d,obj⟩ ⟨ok,d,obj2⟩ obj obj2 []:=.same rfl rfl rfl rfl
theorem Vg{P:Program}{obj obj2:Name->Option O}{T:TypeId}{ps:List (Nat×D)}:bD (lQ P obj T ps) (lQ P obj2 T ps) obj obj2 []:=by
 unfold lQ
 (repeat' split)<;>exact .same rfl rfl rfl rfl
theorem Vf{P:Program}{obj obj2:Name->Option O}{T:TypeId}{n:Nat}{ps:List (Nat×D)}(h:bq (dJ (fp 4 obj) (ps.map (·.2))) obj obj2):
 bD (nO P obj T n ps) (nO P obj2 T n ps) obj obj2 (muts obj (dJ (fp 4 obj) (ps.map (·.2)))):=by
 have hm:bq (muts obj (dJ (fp 4 obj) (ps.map (·.2)))) obj obj2:=fun nm hn=>h nm (List.mem_filter.1 hn).1
 obtain⟨h1,h2⟩:=xa (Ap 4) (ps.map (·.2)) obj obj2 _ (fun _ hn=>hn) h
 unfold nO
 split
 ·split
  ·exact .none _ hm
  ·refine ll.like ⟨?_,h2.agr,h2.frame,h2.frame2⟩ (by rw[h1]) (xb (w9 4) _ obj) h
   rw[h1,h2.ok]
 ·exact .none _ hm
theorem Vi{P:Program}{obj obj2:Name->Option O}{op:BinOp}{T:TypeId}{x y:D}:bD (mQ P obj op T x y) (mQ P obj2 op T x y) obj obj2 []:=by
 unfold mQ
 (repeat' split)<;>first | exact .same rfl rfl rfl rfl | (exfalso;simp_all;done)
theorem Vh{P:Program}{obj obj2:Name->Option O}{op:BinOp}{T:TypeId}{x y:D}{kN:Bool}(h:bq (aI x) obj obj2):bD (lS P obj op T x y kN) (lS P obj2 op T x y kN) obj obj2 []:=by
 unfold lS
 cases kN with
 |true=>
  simp only
  unfold pc
  split
  ·exact .same rfl rfl rfl rfl
  ·rename_i nm k
   have h':obj2 nm=obj nm:=h nm (by simp[aI])
   rw[h']
   exact .same rfl rfl rfl rfl
  ·exact .same rfl rfl rfl rfl
 |false=>
  simp only
  split
  ·unfold lO
   split<;>exact .same rfl rfl rfl rfl
  ·exact Vi
theorem UX{obj obj2:Name->Option O}{op:UnOp}{x:D}:bD (lJ obj op x) (lJ obj2 op x) obj obj2 []:=by
 unfold lJ
 (repeat' split)<;>first | exact .same rfl rfl rfl rfl | (exfalso;simp_all;done)
theorem Vc{P:Program}{obj obj2:Name->Option O}{T T':TypeId}{x:D}:bD (mP P obj T T' x) (mP P obj2 T T' x) obj obj2 []:=by
 unfold mP pf
 (repeat' split)<;>first | exact .same rfl rfl rfl rfl | (exfalso;simp_all;done)
theorem Va{P:Program}{obj obj2:Name->Option O}{T:TypeId}{x:D}{f:Nat}:bD (lM P obj T x f) (lM P obj2 T x f) obj obj2 []:=by
 unfold lM
 (repeat' split)<;>first | exact .same rfl rfl rfl rfl | (exfalso;simp_all;done)
theorem U9{P:Program}{obj obj2:Name->Option O}{T:TypeId}{x y:D}:bD (lL P obj T x y) (lL P obj2 T x y) obj obj2 []:=by
 unfold lL
 (repeat' split)<;>first | exact .same rfl rfl rfl rfl | (exfalso;simp_all;done)
theorem Vb{obj obj2:Name->Option O}{x:D}{i:Nat}:bD (lN obj x i) (lN obj2 x i) obj obj2 []:=by
 unfold lN
 (repeat' split)<;>first | exact .same rfl rfl rfl rfl | (exfalso;simp_all;done)
theorem U0{obj obj2:Name->Option O}{c x y:D}:bD (jv obj c x y) (jv obj2 c x y) obj obj2 []:=by
 unfold jv
 split<;>exact .same rfl rfl rfl rfl
theorem Ve{Γ:FuncId->Option Spec}(hN:∀ f s,Γ f=some s->s.Near){σ σ2:S}{t:Name}{f:D}{args:List D}
 (h:bq (match (gr f).bind Γ with | some s=>s.foot σ.obj t (eG f args) | none=>[]) σ.obj σ2.obj):
 bD (sS Γ σ t f args) (sS Γ σ2 t f args) σ.obj σ2.obj (match (gr f).bind Γ with | some s=>s.wrt σ.obj t (eG f args) | none=>[])/\
 (match (gr f).bind Γ with | some s=>s.foot σ2.obj t (eG f args) | none=>[])=(match (gr f).bind Γ with | some s=>s.foot σ.obj t (eG f args) | none=>[]):=by
 unfold sS
 rcases hs:(gr f).bind Γ with _ | s
 ·exact⟨.same rfl rfl rfl rfl,rfl⟩
 ·simp only[hs]at h |-
  obtain⟨g,_,hs⟩:=Option.bind_eq_some_iff.1 hs
  exact⟨(hN g s hs).like _ _ _ _ h,(hN g s hs).foot _ _ _ _ h⟩
theorem GA{P:Program}{Γ:FuncId->Option Spec}(hN:∀ f s,Γ f=some s->s.Near){σ σ2:S}(t:Name)(op:Op)
 (ho:∀ x∈op.operands.toList,ai σ2 x=ai σ x) (h:bq (bH Γ σ t op) σ.obj σ2.obj):
 bD (aO P Γ σ t op) (aO P Γ σ2 t op) σ.obj σ2.obj (bo Γ σ t op)/\bH Γ σ2 t op=bH Γ σ t op:=by
 cases op with
 |move x=>exact⟨by simp only[aO,ho x (by simp[Op.operands])];exact CS,rfl⟩
 |assign x=>exact⟨by simp only[aO,ho x (by simp[Op.operands])];exact CS,rfl⟩
 |pick c x y=>exact⟨by simp only[aO,ho c (by simp[Op.operands]),ho x (by simp[Op.operands]),ho y (by simp[Op.operands])];exact U0,rfl⟩
 |alloc T=>exact⟨Vj h,rfl⟩
 |box T x=>exact⟨by simp only[aO,ho x (by simp[Op.operands])];exact Jq h,rfl⟩
 |build T ps=>
  have hp:(ps.toList.map fun p=>(p.1,ai σ2 p.2))=ps.toList.map fun p=>(p.1,ai σ p.2):=List.map_congr_left fun p hp=>by rw[ho p.2 (by simp only[Op.operands];exact List.mem_map_of_mem hp)]
  exact⟨by simp only[aO,hp];exact Vg,rfl⟩
 |buildSlice T n ps=>
  have hp:(ps.toList.map fun p=>(p.1,ai σ2 p.2))=ps.toList.map fun p=>(p.1,ai σ p.2):=List.map_congr_left fun p hp=>by rw[ho p.2 (by simp only[Op.operands];exact List.mem_map_of_mem hp)]
  have wu:(ps.toList.map fun p=>ai σ2 p.2)=ps.toList.map fun p=>ai σ p.2:=List.map_congr_left fun p hp=>by rw[ho p.2 (by simp only[Op.operands];exact List.mem_map_of_mem hp)]
  have hm:(ps.toList.map fun p=>(p.1,ai σ p.2)).map (·.2)=ps.toList.map fun p=>ai σ p.2:=by simp
  simp only[bH,bo]at h |-
  rw[wu]
  rw[<-hm]at h |-
  refine⟨?_,xd _ h⟩
  simp only[aO,hp]
  exact Vf h
 |load T x=>
  simp only[bH,bo,aO,ho x (by simp[Op.operands])]at h |-
  exact⟨U5 h,trivial⟩
 |store T x d=>
  simp only[bH,bo,aO,ho x (by simp[Op.operands]),ho d (by simp[Op.operands])]at h |-
  exact⟨UY h,trivial⟩
 |nilCheck x=>
  simp only[bH,bo,aO,ho x (by simp[Op.operands])]at h |-
  exact⟨U1 h,trivial⟩
 |binOp op T x y c=>
  simp only[bH,bo,aO,ho x (by simp[Op.operands]),ho y (by simp[Op.operands])]at h |-
  exact⟨Vh h,trivial⟩
 |unOp op T x=>exact⟨by simp only[aO,ho x (by simp[Op.operands])];exact UX,rfl⟩
 |convert s d x=>exact⟨by simp only[aO,ho x (by simp[Op.operands])];exact Vc,rfl⟩
 |makeFunc fn f c=>
  have h1:f.toList.map (ai σ2)=f.toList.map (ai σ):=List.map_congr_left fun x hx=>ho x (by simp only[Op.operands,Array.toList_append];exact List.mem_append_left _ hx)
  have h2:c.toList.map (ai σ2)=c.toList.map (ai σ):=List.map_congr_left fun x hx=>ho x (by simp only[Op.operands,Array.toList_append];exact List.mem_append_right _ hx)
  exact⟨by simp only[aO,h1,h2];exact CS,rfl⟩
 |makeMap T r=>
  have h1:r.map (ai σ2)=r.map (ai σ):=by
   cases r with
   |none=>rfl
   |some x=>simp only[Option.map_some,ho x (by simp[Op.operands])]
  exact⟨by simp only[aO,h1];exact U3 h,rfl⟩
 |makeSlice T l c=>exact⟨by simp only[aO,ho l (by simp[Op.operands]),ho c (by simp[Op.operands])];exact U2 h,rfl⟩
 |slice T x lo hi mx=>
  have e:∀ r:Option Operand,(∀ y∈r.toList,ai σ2 y=ai σ y)->r.map (ai σ2)=r.map (ai σ):=by
   intro r hr
   cases r with
   |none=>rfl
   |some x=>simp only[Option.map_some,hr x (by simp)]
  have h1:=e lo fun y hy=>ho y (by simp[Op.operands]at hy |-;simp[hy])
  have h2:=e hi fun y hy=>ho y (by simp[Op.operands]at hy |-;simp[hy])
  have h3:=e mx fun y hy=>ho y (by simp[Op.operands]at hy |-;simp[hy])
  simp only[bH,bo,aO,ho x (by simp[Op.operands]),h1,h2,h3]at h |-
  exact⟨(UZ h).muts acx h,trivial⟩
 |fieldAddr T x f=>
  simp only[bH,bo,aO,ho x (by simp[Op.operands])]at h |-
  exact⟨U' h,trivial⟩
 |field T x f=>exact⟨by simp only[aO,ho x (by simp[Op.operands])];exact Va,rfl⟩
 |indexAddr T x i=>
  simp only[bH,bo,aO,ho x (by simp[Op.operands]),ho i (by simp[Op.operands])]at h |-
  exact⟨U8 h,trivial⟩
 |index T x i=>exact⟨by simp only[aO,ho x (by simp[Op.operands]),ho i (by simp[Op.operands])];exact U9,rfl⟩
 |lookup T x i co=>
  simp only[bH,bo,aO,ho x (by simp[Op.operands]),ho i (by simp[Op.operands])]at h |-
  exact⟨U4 h,trivial⟩
 |mapUpdate T x k d=>
  simp only[bH,bo,aO,ho x (by simp[Op.operands]),ho k (by simp[Op.operands]),ho d (by simp[Op.operands])]at h |-
  exact⟨Jo h,trivial⟩
 |insert T x k d=>
  simp only[bH,bo,aO,ho x (by simp[Op.operands]),ho k (by simp[Op.operands]),ho d (by simp[Op.operands])]at h |-
  exact⟨Jo h,trivial⟩
 |extract x i=>exact⟨by simp only[aO,ho x (by simp[Op.operands])];exact Vb,rfl⟩
 |call c=>
  obtain⟨callee,args,ts⟩:=c
  cases callee with
  |value f=>
   have h1:ai σ2 f=ai σ f:=ho f (by simp[Op.operands,Call.operands])
   have h2:args.toList.map (ai σ2)=args.toList.map (ai σ):=List.map_congr_left fun x hx=>ho x (by simp[Op.operands,Call.operands]at hx |-;simp[hx])
   simp only[bH,bo,aO,h1,h2]at h |-
   exact Ve hN h
  |builtin b=>
   have h2:args.toList.map (ai σ2)=args.toList.map (ai σ):=List.map_congr_left fun x hx=>ho x (by simp[Op.operands,Call.operands]at hx |-;simp[hx])
   have h3:∀ x∈args.toList,ai σ2 x=ai σ x:=fun x hx=>ho x (by simp[Op.operands,Call.operands]at hx |-;simp[hx])
   simp only[aO,h2]
   obtain⟨args⟩:=args
   obtain⟨ts⟩:=ts
   simp only at *
   cases b with
   |len=>
    rcases args with _ | ⟨x,_ | ⟨y,r⟩⟩
    ·exact⟨by rcases ts with _ | ⟨_,_ | _⟩<;>exact .same rfl rfl rfl rfl,rfl⟩
    ·simp only[bH,bo,h3 x (by simp),List.map_cons,List.map_nil]at h |-
     refine⟨?_,trivial⟩
     rcases ts with _ | ⟨T,_ | _⟩<;>first
      |exact .same rfl rfl rfl rfl
      |exact U6 h
    ·refine⟨?_,rfl⟩
     rcases ts with _ | ⟨_,_ | _⟩<;>exact .same rfl rfl rfl rfl
   |append=>
    rcases args with _ | ⟨s,_ | ⟨x,_ | ⟨y,r⟩⟩⟩
    ·refine⟨?_,rfl⟩
     rcases ts with _ | ⟨_,_ | ⟨_,_ | _⟩⟩<;>exact .same rfl rfl rfl rfl
    ·refine⟨?_,rfl⟩
     rcases ts with _ | ⟨_,_ | ⟨_,_ | _⟩⟩<;>exact .same rfl rfl rfl rfl
    ·simp only[bH,bo,h3 x (by simp),h3 s (by simp),List.map_cons,List.map_nil]at h |-
     refine⟨?_,trivial⟩
     rcases ts with _ | ⟨T1,_ | ⟨T2,_ | _⟩⟩<;>first
      |exact za h
      |exact .none _ h
    ·refine⟨?_,rfl⟩
     rcases ts with _ | ⟨_,_ | ⟨_,_ | _⟩⟩<;>exact .same rfl rfl rfl rfl
   |_=>
    refine⟨?_,rfl⟩
    show bD _ _ _ _ []
    unfold lP
    (repeat' split)<;>first | exact .same rfl rfl rfl rfl | (exfalso;simp_all;done)
  |invoke r m=>exact⟨.same rfl rfl rfl rfl,rfl⟩
 |_=>exact⟨.same rfl rfl rfl rfl,rfl⟩
theorem acq{Γ:FuncId->Option Spec}(hN:∀ f s,Γ f=some s->s.Near){σ σ2:S}(t:Name)(op:Op)
 (ho:∀ x∈op.operands.toList,ai σ2 x=ai σ x) (h:bq (bH Γ σ t op) σ.obj σ2.obj):bo Γ σ2 t op=bo Γ σ t op:=by
 cases op with
 |buildSlice T n ps=>
  have wu:(ps.toList.map fun p=>ai σ2 p.2)=ps.toList.map fun p=>ai σ p.2:=List.map_congr_left fun p hp=>by rw[ho p.2 (by simp only[Op.operands];exact List.mem_map_of_mem hp)]
  simp only[bH,bo]at h |-
  rw[wu,xd _ h]
  exact CG h
 |store T x d=>simp only[bo,ho x (by simp[Op.operands])]
 |mapUpdate T x k d=>simp only[bo,ho x (by simp[Op.operands])]
 |insert T x k d=>simp only[bo,ho x (by simp[Op.operands])]
 |slice T x lo hi mx=>
  simp only[bH,bo,ho x (by simp[Op.operands])]at h |-
  exact CG h
 |call c=>
  obtain⟨callee,args,ts⟩:=c
  cases callee with
  |value f=>
   have h1:ai σ2 f=ai σ f:=ho f (by simp[Op.operands,Call.operands])
   have h2:args.toList.map (ai σ2)=args.toList.map (ai σ):=List.map_congr_left fun x hx=>ho x (by simp[Op.operands,Call.operands]at hx |-;simp[hx])
   simp only[bH,bo,h1,h2]at h |-
   cases hq:(gr (ai σ f)).bind Γ with
   |none=>rfl
   |some s=>
    simp only[hq]at h |-
    obtain⟨g,hg,hs⟩:=Option.bind_eq_some_iff.1 hq
    exact(hN g s hs).wrt _ _ _ _ h
  |builtin b=>
   have h3:∀ x∈args.toList,ai σ2 x=ai σ x:=fun x hx=>ho x (by simp[Op.operands,Call.operands]at hx |-;simp[hx])
   obtain⟨args⟩:=args
   simp only at *
   cases b with
   |append=>
    rcases args with _ | ⟨s,_ | ⟨x,_ | ⟨y,r⟩⟩⟩<;>first
     |rfl
     |simp only[bo,h3 x (by simp),h3 s (by simp)]
   |_=>rfl
  |invoke r m=>rfl
 |_=>rfl
theorem GW{Γ:FuncId->Option Spec}(hN:∀ f s,Γ f=some s->s.Near){σ:S}(t:Name)(op:Op):∀ nm∈bo Γ σ t op,nm∈bH Γ σ t op:=by
 intro nm hn
 cases op with
 |buildSlice T n ps=>exact(List.mem_filter.1 hn).1
 |slice T x lo hi mx=>exact(List.mem_filter.1 hn).1
 |call c=>
  obtain⟨callee,args,ts⟩:=c
  cases callee with
  |value f=>
   simp only[bH,bo]at hn |-
   cases hq:(gr (ai σ f)).bind Γ with
   |none=>simp[hq]at hn
   |some s=>
    simp only[hq]at hn |-
    obtain⟨g,hg,hs⟩:=Option.bind_eq_some_iff.1 hq
    exact(hN g s hs).sub _ _ _ _ hn
  |builtin b=>cases b<;>first | exact hn | (simp[bo]at hn;done)
  |invoke r m=>simp[bo]at hn
 |_=>first | exact hn | (simp[bo]at hn;done)
section
variable {P:Program} {Γ:FuncId->Option Spec} {ops:Array Oper}
abbrev Oper.tt (σ:S) (o:Oper):Name:=(σ.base+o.dst.getD 0)::σ.pre
theorem Uj{σ σ':S}{x:Operand}(h:∀ t,x=.tmp t->σ'.env t=σ.env t):ai σ' x=ai σ x/\cH σ' x=cH σ x:=by
 cases x with
 |tmp t=>exact⟨by simp only[ai,h t rfl],by simp only[cH,h t rfl]⟩
 |_=>exact⟨rfl,rfl⟩
theorem US{o:Oper}{x:Operand}(hx:x∈o.op.operands.toList){t:Nat}(h:x=.tmp t):t∈o.looksAt ops:=
 List.mem_append_left _ (List.mem_filterMap.2 ⟨x,hx,by subst h;rfl⟩)
theorem Jm{o:Oper}{j:Nat}{b:Bool}(hg:o.guard=some (j,b)){s:Nat}(h:nC ops j=some s):s∈o.looksAt ops:=by
 refine List.mem_append_right _ ?_
 unfold nC at h
 simp[hg,h]
theorem abq{σ σ':S}{op:Op}(h:∀ x∈op.operands.toList,ai σ' x=ai σ x/\cH σ' x=cH σ x):ni σ' op=ni σ op:=by
 have dI:op.operands.toList.all (cH σ')=op.operands.toList.all (cH σ):=by
  refine Bool.eq_iff_iff.2 ?_
  simp only[List.all_eq_true]
  exact⟨fun k x hx=>(h x hx).2▸k x hx,fun k x hx=>(h x hx).2.symm▸k x hx⟩
 cases op with
 |pick c x y=>
  simp only[ni]
  have h1:=h c (by simp[Op.operands])
  have h2:=h x (by simp[Op.operands])
  have h3:=h y (by simp[Op.operands])
  rw[h1.1,h1.2,h2.2,h3.2]
 |_=>exact dI
structure qF (P:Program) (Γ:FuncId->Option Spec) (ops:Array Oper) (σ σ':S) (o:Oper):Prop where
 obl:kM P Γ ops σ' o↔kM P Γ ops σ o
 g:eF ops σ' o=eF ops σ o
 d:(aO P Γ σ' (Oper.tt σ o) o.op).d=(aO P Γ σ (Oper.tt σ o) o.op).d
 eff:∀ nm,(aV P Γ ops σ' o).obj nm=if nm∈bo Γ σ (Oper.tt σ o) o.op then(aV P Γ ops σ o).obj nm else σ'.obj nm
 frame:∀ nm,nm∉bo Γ σ (Oper.tt σ o) o.op->(aV P Γ ops σ o).obj nm=σ.obj nm
 foot:bH Γ σ' (Oper.tt σ o) o.op=bH Γ σ (Oper.tt σ o) o.op
 wrt:bo Γ σ' (Oper.tt σ o) o.op=bo Γ σ (Oper.tt σ o) o.op
theorem vq(hN:∀ f s,Γ f=some s->s.Near){σ σ':S}(o:Oper)(ff:σ'.nt=σ.nt)(rX:σ'.pre=σ.pre)(Af:σ'.base=σ.base)(he:∀ t∈o.looksAt ops,σ'.env t=σ.env t)
 (ha:bq (bH Γ σ (Oper.tt σ o) o.op) σ.obj σ'.obj):qF P Γ ops σ σ' o:=by
 have hx:∀ x∈o.op.operands.toList,ai σ' x=ai σ x/\cH σ' x=cH σ x:=fun x hx=>Uj fun t ht=>he t (US hx ht)
 have hg:eF ops σ' o=eF ops σ o:=by
  unfold eF
  cases Eu:o.guard with
  |none=>rfl
  |some p=>
   obtain⟨j,b⟩:=p
   simp only
   cases hs:nC ops j with
   |none=>rfl
   |some s=>simp only[he s (Jm Eu hs)]
 have Y7:nD ops σ' o↔nD ops σ o:=by
  unfold nD
  cases Eu:o.guard with
  |none=>exact Iff.rfl
  |some p=>
   obtain⟨j,b⟩:=p
   simp only
   cases hs:nC ops j with
   |none=>exact Iff.rfl
   |some s=>simp only[he s (Jm Eu hs),ff]
 obtain⟨h1,h2⟩:=GA (P:=P) hN (Oper.tt σ o) o.op (fun x h=>(hx x h).1) ha
 have h3:=acq hN (Oper.tt σ o) o.op (fun x h=>(hx x h).1) ha
 refine⟨?_,hg,h1.d,fun nm=>?_,fun nm hn=>?_,h2,h3⟩
 ·have aa:(aO P Γ σ' ((σ.base+o.dst.getD 0)::σ.pre) o.op).ok=(aO P Γ σ ((σ.base+o.dst.getD 0)::σ.pre) o.op).ok:=h1.ok
  unfold kM
  rw[Y7,hg,ff,rX,Af,abq hx,aa]
 ·unfold aV
  simp only[hg,rX,Af]
  cases hc:eF ops σ o with
  |true=>simp only[if_true];exact h1.eff nm
  |false=>
   simp only[Bool.false_eq_true,if_false]
   split
   ·rename_i hn;exact ha nm (GW hN _ _ nm hn)
   ·rfl
 ·unfold aV
  cases hc:eF ops σ o with
  |true=>simp only[if_true];exact h1.frame nm hn
  |false=>simp only[Bool.false_eq_true,if_false]
theorem qQ{σ:S}{o:Oper}{t:Nat}(h:o.dst≠some t):(aV P Γ ops σ o).env t=σ.env t:=by
 unfold aV
 cases hd:o.dst with
 |none=>rfl
 |some s=>exact aK _ _ _ (by rintro rfl;exact h hd)
def xO(a b:List Name):Prop:=∀ nm∈a,nm∉b
theorem comm{oi oj:Oper}(hN:∀ f s,Γ f=some s->s.Near){σ:S}(kU:oi.apart ops oj=true)
 (h1:xO (bo Γ σ (Oper.tt σ oi) oi.op) (bH Γ (aV P Γ ops σ oi) (Oper.tt σ oj) oj.op)) (h2:xO (bo Γ (aV P Γ ops σ oi) (Oper.tt σ oj) oj.op) (bH Γ σ (Oper.tt σ oi) oi.op)):
 qF P Γ ops (aV P Γ ops σ oi) σ oj/\qF P Γ ops σ (aV P Γ ops σ oj) oi/\aV P Γ ops (aV P Γ ops σ oj) oi=aV P Γ ops (aV P Γ ops σ oi) oj:=by
 obtain⟨a1,a2,a3⟩:=Oper.apart_spec kU
 have s0:qF P Γ ops σ σ oi:=vq hN oi rfl rfl rfl (fun _ _=>rfl) (fun _ _=>rfl)
 have s1:qF P Γ ops (aV P Γ ops σ oi) σ oj:=by
  refine vq hN oj rfl rfl rfl (fun t ht=>(qQ fun hd=>a1 t hd ht).symm) fun nm hn=>?_
  exact(s0.frame nm fun hw=>h1 nm hw hn).symm
 have s2:qF P Γ ops σ (aV P Γ ops σ oj) oi:=by
  refine vq hN oi rfl rfl rfl (fun t ht=>qQ fun hd=>a3 t hd ht) fun nm hn=>?_
  exact(s1.eff nm).trans (if_neg fun hw=>h2 nm hw hn)
 refine⟨s1,s2,?_⟩
 have e1:(aV P Γ ops (aV P Γ ops σ oj) oi).obj=(aV P Γ ops (aV P Γ ops σ oi) oj).obj:=by
  funext nm
  rw[s2.eff nm]
  by_cases hi:nm∈bo Γ σ (Oper.tt σ oi) oi.op
  ·rw[if_pos hi]
   have :=GW hN _ _ nm hi
   have s3:qF P Γ ops (aV P Γ ops σ oi) (aV P Γ ops σ oi) oj:=vq hN oj rfl rfl rfl (fun _ _=>rfl) (fun _ _=>rfl)
   exact(s3.frame nm fun hw=>h2 nm hw this).symm
  ·rw[if_neg hi,s1.eff nm]
   split
   ·rfl
   ·rename_i hj
    have s3:qF P Γ ops (aV P Γ ops σ oi) (aV P Γ ops σ oi) oj:=vq hN oj rfl rfl rfl (fun _ _=>rfl) (fun _ _=>rfl)
    rw[s3.frame nm hj,s0.frame nm hi]
 have e2:(aV P Γ ops (aV P Γ ops σ oj) oi).env=(aV P Γ ops (aV P Γ ops σ oi) oj).env:=by
  funext x
  by_cases hi:oi.dst=some x
  ·have hj:oj.dst≠some x:=a2 x hi
   rw[qQ (σ:=aV P Γ ops σ oi) hj]
   show (match oi.dst with
    |some t=>upd (aV P Γ ops σ oj).env t ⟨eF ops (aV P Γ ops σ oj) oi,(aO P Γ (aV P Γ ops σ oj) ((σ.base+t)::σ.pre) oi.op).d⟩
    |none=>(aV P Γ ops σ oj).env) x=(match oi.dst with
    |some t=>upd σ.env t ⟨eF ops σ oi,(aO P Γ σ ((σ.base+t)::σ.pre) oi.op).d⟩
    |none=>σ.env) x
   have d1:=s2.d
   have g1:=s2.g
   unfold Oper.tt at d1
   simp only[hi,Option.getD_some]at d1 |-
   rw[aG,aG,d1,g1]
  ·rw[qQ hi]
   by_cases hj:oj.dst=some x
   ·show (match oj.dst with
      |some t=>upd σ.env t ⟨eF ops σ oj,(aO P Γ σ ((σ.base+t)::σ.pre) oj.op).d⟩
      |none=>σ.env) x=(match oj.dst with
      |some t=>upd (aV P Γ ops σ oi).env t ⟨eF ops (aV P Γ ops σ oi) oj,(aO P Γ (aV P Γ ops σ oi) ((σ.base+t)::σ.pre) oj.op).d⟩
      |none=>(aV P Γ ops σ oi).env) x
    have d1:(aO P Γ σ (Oper.tt σ oj) oj.op).d=(aO P Γ (aV P Γ ops σ oi) (Oper.tt σ oj) oj.op).d:=s1.d
    have g1:=s1.g
    unfold Oper.tt at d1
    simp only[hj,Option.getD_some]at d1 |-
    rw[aG,aG,d1,g1]
   ·rw[qQ hj,qQ hj,qQ hi]
 have e3:(aV P Γ ops (aV P Γ ops σ oj) oi).nt=(aV P Γ ops (aV P Γ ops σ oi) oj).nt:=rfl
 have e4:(aV P Γ ops (aV P Γ ops σ oj) oi).pre=(aV P Γ ops (aV P Γ ops σ oi) oj).pre:=rfl
 have e5:(aV P Γ ops (aV P Γ ops σ oj) oi).base=(aV P Γ ops (aV P Γ ops σ oi) oj).base:=rfl
 generalize aV P Γ ops (aV P Γ ops σ oj) oi=x at *
 generalize aV P Γ ops (aV P Γ ops σ oi) oj=y at *
 cases x;cases y
 simp only at e1 e2 e3 e4 e5
 subst e1 e2 e3 e4 e5
 rfl
structure qH where
 on:Nat
 foot:List Name
 wrt:List Name
def yK(anc:List Nat)(foot wrt:List Name)(L:List qH):Prop:=∀ e∈L,e.on∈anc\/(xO e.wrt foot/\xO wrt e.foot)
variable (P Γ ops)in
def qK(anc:Nat->List Nat)(L:List qH)(K:S->Prop):Nat->Array Bool->S->Prop
 | 0,listed,σ=>Region.ready .any ops listed=[]/\K σ
 |fuel+1,listed,σ=>(Region.ready .any ops listed=[]->K σ)/\∀ i∈Region.ready .any ops listed,∀ o,ops[i]?=some o->
    kM P Γ ops σ o/\yK (anc i) (bH Γ σ (Oper.tt σ o) o.op) (bo Γ σ (Oper.tt σ o) o.op) L/\qK anc L K fuel (listed.setIfInBounds i true) (aV P Γ ops σ o)
def xQ(ops:Array Oper)(anc:Nat->List Nat):Prop:=∀ j o,ops[j]?=some o->∀ i∈anc j,∃ e∈o.after,Region.binds .any e=true/\(e.on=i\/i∈anc e.on)
def sX(anc:Nat->List Nat)(listed:Array Bool):Prop:=∀ j,listed.getD j false=true->∀ i∈anc j,listed.getD i false=true
theorem sX.ready{anc:Nat->List Nat}{listed:Array Bool}(hA:xQ ops anc)(h:sX anc listed){j:Nat}(hj:j∈Region.ready .any ops listed):∀ i∈anc j,listed.getD i false=true:=by
 intro i hi
 obtain⟨_,o,ho,dI⟩:=mem_ready.1 hj
 obtain⟨e,he,hb,h1⟩:=hA j o ho i hi
 have :=dI e he hb
 rcases h1 with h1 | h1
 ·rw[<-h1];exact this
 ·exact h _ this i h1
theorem sX.set{anc:Nat->List Nat}{listed:Array Bool}(hA:xQ ops anc)(h:sX anc listed){j:Nat}(hj:j∈Region.ready .any ops listed):sX anc (listed.setIfInBounds j true):=by
 intro k hk i hi
 by_cases Mc:j=k
 ·subst Mc
  exact getD_set_true (h.ready hA hj i hi)
 ·rw[getD_set_ne false Mc]at hk
  exact getD_set_true (h k hk i hi)
theorem pull(hN:∀ f s,Γ f=some s->s.Near){anc:Nat->List Nat}(hA:xQ ops anc){K:S->Prop}{i:Nat}{oi:Oper}(hi:ops[i]?=some oi){L:List qH}:
 ∀ (fuel:Nat) (listed:Array Bool) (σ:S),sX anc listed->
   (∀ j oj,ops[j]?=some oj->j≠i->listed.getD j true=false->i∉anc j->oi.apart ops oj=true)->
   i∈Region.ready .any ops listed->kM P Γ ops σ oi->yK (anc i) (bH Γ σ (Oper.tt σ oi) oi.op) (bo Γ σ (Oper.tt σ oi) oi.op) L->
   qK P Γ ops anc (⟨i,bH Γ σ (Oper.tt σ oi) oi.op,bo Γ σ (Oper.tt σ oi) oi.op⟩::L) K fuel (listed.setIfInBounds i true) (aV P Γ ops σ oi)->
   qK P Γ ops anc L K (fuel+1) listed σ:=by
 have weaken:∀ (e:qH) (fuel:Nat) (listed:Array Bool) (σ:S),qK P Γ ops anc (e::L) K fuel listed σ->qK P Γ ops anc L K fuel listed σ:=by
  intro e fuel
  induction fuel with
  |zero=>exact fun _ _ h=>h
  |succ n ih=>exact fun listed σ h=>⟨h.1,fun i hi o ho=>⟨(h.2 i hi o ho).1,fun e' mq=>(h.2 i hi o ho).2.1 e' (List.mem_cons_of_mem _ mq),ih _ _ (h.2 i hi o ho).2.2⟩⟩
 intro fuel
 induction fuel with
 |zero=>
  intro listed σ bS Ew hr fL aa H
  refine⟨fun h=>(by rw[h]at hr;cases hr),fun j hj oj rY=>?_⟩
  by_cases p8:j=i
  ·subst p8
   rw[hi]at rY;cases rY
   exact⟨fL,aa,weaken _ _ _ _ H⟩
  ·have:=ready_mono hj p8
   rw[H.1]at this
   cases this
 |succ fuel ih=>
  intro listed σ bS Ew hr fL aa H
  refine⟨fun h=>(by rw[h]at hr;cases hr),fun j hj oj rY=>?_⟩
  by_cases p8:j=i
  ·subst p8
   rw[hi]at rY;cases rY
   exact⟨fL,aa,weaken _ _ _ _ H⟩
  ·obtain⟨g1,g2,g3⟩:=H.2 j (ready_mono hj p8) oj rY
   have mb:listed.getD j true=false:=(mem_ready.1 hj).1
   have LW:i∉anc j:=fun h=>by
    have h1:=bS.ready hA hj i h
    have h0:=(mem_ready.1 hr).1
    rcases Nat.lt_or_ge i listed.size with h' | h'
    ·simp[h']at h0 h1;rw[h0]at h1;cases h1
    ·simp[Array.getElem?_eq_none h']at h1
   rcases g2 _ List.mem_cons_self with k | ⟨d1,d2⟩
   ·exact(LW k).elim
   simp only at d1 d2
   obtain⟨s1,s2,s3⟩:=comm hN (Ew j oj rY p8 mb LW) d1 d2
   have f1:bH Γ σ (Oper.tt σ oj) oj.op=bH Γ (aV P Γ ops σ oi) (Oper.tt σ oj) oj.op:=s1.foot
   have f2:bo Γ σ (Oper.tt σ oj) oj.op=bo Γ (aV P Γ ops σ oi) (Oper.tt σ oj) oj.op:=s1.wrt
   have f3:bH Γ (aV P Γ ops σ oj) (Oper.tt σ oi) oi.op=bH Γ σ (Oper.tt σ oi) oi.op:=s2.foot
   have f4:bo Γ (aV P Γ ops σ oj) (Oper.tt σ oi) oi.op=bo Γ σ (Oper.tt σ oi) oi.op:=s2.wrt
   refine⟨s1.obl.2 g1,?_,?_⟩
   ·rw[f1,f2]
    exact fun e he=>g2 e (List.mem_cons_of_mem _ he)
   ·refine ih _ _ (bS.set hA hj) (fun k ok hk kR wh eE=>Ew k ok hk kR ?_ eE) (ready_mono hr (Ne.symm p8)) (s2.obl.2 fL) ?_ ?_
    ·by_cases p7:j=k
     ·subst p7;exact mb
     ·rw[getD_set_ne true p7]at wh;exact wh
    ·show yK (anc i) (bH Γ (aV P Γ ops σ oj) (Oper.tt σ oi) oi.op) (bo Γ (aV P Γ ops σ oj) (Oper.tt σ oi) oi.op) L
     rw[f3,f4];exact aa
    ·show qK P Γ ops anc (⟨i,bH Γ (aV P Γ ops σ oj) (Oper.tt σ oi) oi.op,bo Γ (aV P Γ ops σ oj) (Oper.tt σ oi) oi.op⟩::L) K fuel _ _
     rw[Array.setIfInBounds_comm _ _ p8,f3,f4,s3]
     exact g3
theorem Pp(hΓ:∀ f s,Γ f=some s->an P f s){G:Ghost}{Q:Exit->Act->World->Prop}{K:S->Prop}{anc:Nat->List Nat}{L:List qH}:
 ∀ (fuel:Nat) (listed:Array Bool) {φ:Name->Loc} {m:Mem} {σ:S} {a:Act} {w:World},aD G φ m σ a w->qK P Γ ops anc L K fuel listed σ->
   (∀ a' w' φ' m' σ',aD G φ' m' σ' a' w'->K σ'->Q .normal a' w')->wpAnyIn (fG G.rd) 0 P .any ops Q fuel listed a w
 | 0,listed,φ,m,σ,a,w,hC,h,hQ=>⟨h.1,hQ _ _ φ m σ hC h.2⟩
 |fuel+1,listed,φ,m,σ,a,w,hC,h,hQ=>by
  refine⟨fun h0=>hQ _ _ φ m σ hC (h.1 h0),fun i hi=>?_⟩
  obtain⟨_,o,ho,_⟩:=mem_ready.1 hi
  obtain⟨h1,_,h3⟩:=h.2 i hi o ho
  exact BI hΓ hC ho h1 fun a' w' φ' m' bW=>Pp hΓ fuel _ bW h3 hQ
end
section
variable {P:Program} {Γ:FuncId->Option Spec} {ops:Array Oper}
structure sW where
 anc:List Nat
 past:qH
def dR:Name->Name->Bool
 |[],[]=>true
 |x::r,y::s=>Nat.beq x y&&dR r s
 |_,_=>false
theorem ga:∀ {a b:Name},dR a b=true↔a=b
 |[],[]=>by simp[dR]
 |[],_::_=>by simp[dR]
 |_::_,[]=>by simp[dR]
 |x::r,y::s=>by
  simp only[dR,Bool.and_eq_true,Nat.beq_eq,List.cons.injEq,ga]
def tX:List Name->Name->Bool
 |[],_=>false
 |x::r,nm=>dR x nm||tX r nm
theorem Jh:∀ {l:List Name} {nm:Name},tX l nm=true↔nm∈l
 |[],nm=>by simp[tX]
 |x::r,nm=>by
  simp only[tX,Bool.or_eq_true,ga,List.mem_cons,Jh]
  exact⟨fun h=>h.imp Eq.symm id,fun h=>h.imp Eq.symm id⟩
def ke:List Nat->Nat->Bool
 |[],_=>false
 |x::r,n=>Nat.beq x n||ke r n
theorem Ji:∀ {l:List Nat} {n:Nat},ke l n=true↔n∈l
 |[],n=>by simp[ke]
 |x::r,n=>by
  simp only[ke,Bool.or_eq_true,Nat.beq_eq,List.mem_cons,Ji]
  exact⟨fun h=>h.imp Eq.symm id,fun h=>h.imp Eq.symm id⟩
def uU:List Name->List Name->Bool
 |[],_=>true
 |x::r,b=>!tX b x&&uU r b
theorem FH:∀ {a b:List Name},uU a b=true->xO a b
 |[],_,_=>fun nm h=>by cases h
 |x::r,b,h=>by
  simp only[uU,Bool.and_eq_true,Bool.not_eq_true']at h
  intro nm ha hb
  rcases List.mem_cons.1 ha with rfl | ha
  ·rw[Jh.2 hb]at h;cases h.1
  ·exact FH h.2 nm ha hb
def Oo(p:sW)(e:sW):Bool:=ke p.anc e.past.on||(uU e.past.wrt p.past.foot&&uU p.past.wrt e.past.foot)
def tL:List sW->Bool
 |[]=>true
 |p::L=>L.all (Oo p)&&tL L
variable (P Γ ops)in
def qG:Nat->List (List Nat)->List Oper->List sW->S->(S->Prop)->Prop
 |_,_,[],L,σ,K=>tL L=true/\K σ
 |i,az,o::r,L,σ,K=>kM P Γ ops σ o/\
   qG (i+1) az.tail r (⟨az.headD [],i,bH Γ σ ((σ.base+o.dst.getD 0)::σ.pre) o.op,bo Γ σ ((σ.base+o.dst.getD 0)::σ.pre) o.op⟩::L) (aV P Γ ops σ o) K
variable (P Γ ops)in
def GG(anc:Nat->List Nat):Nat->List Oper->List qH->S->(S->Prop)->Prop
 |_,[],_,σ,K=>K σ
 |i,o::r,L,σ,K=>kM P Γ ops σ o/\yK (anc i) (bH Γ σ (Oper.tt σ o) o.op) (bo Γ σ (Oper.tt σ o) o.op) L/\
   GG anc (i+1) r (⟨i,bH Γ σ (Oper.tt σ o) o.op,bo Γ σ (Oper.tt σ o) o.op⟩::L) (aV P Γ ops σ o) K
theorem H9{anc:Nat->List Nat}{K:S->Prop}:∀ (l:List Oper) (i:Nat) (az:List (List Nat)) (L:List sW) (σ:S),(∀ k,az.getD k []=anc (i+k))->
 qG P Γ ops i az l L σ K->tL L=true/\GG P Γ ops anc i l (L.map (·.past)) σ K
 |[],i,az,L,σ,_,h=>h
 |o::r,i,az,L,σ,ha,h=>by
  obtain⟨h1,h2⟩:=h
  obtain⟨h3,h4⟩:=H9 (anc:=anc) r (i+1) az.tail _ _ (fun k=>by
   have :=ha (k+1)
   rw[show i+(k+1)=i+1+k by omega]at this
   rw[<-this]
   cases az<;>rfl) h2
  simp only[tL,Bool.and_eq_true]at h3
  refine⟨h3.2,h1,?_,h4⟩
  intro e he
  obtain⟨p,hp,rfl⟩:=List.mem_map.1 he
  have :=List.all_eq_true.1 h3.1 p hp
  simp only[Oo,Bool.or_eq_true,Bool.and_eq_true]at this
  rcases this with k | ⟨k1,k2⟩
  ·left
   have h0:az.headD []=anc i:=by
    have :=ha 0
    rw[Nat.add_zero]at this
    rw[<-this]
    cases az<;>rfl
   rw[h0]at k
   exact Ji.1 k
  ·exact .inr ⟨FH k1,FH k2⟩
theorem Ia(hN:∀ f s,Γ f=some s->s.Near){anc:Nat->List Nat}(hA:xQ ops anc)(kU:∀ i j oi oj,ops[i]?=some oi->ops[j]?=some oj->i<j->i∉anc j->oi.apart ops oj=true)
 (Ah:∀ j o,ops[j]?=some o->∀ e∈o.after,Region.binds .any e=true->e.on<j) {K:S->Prop}:
 ∀ (n k:Nat) (L:List qH) (listed:Array Bool) (σ:S),k+n=ops.size->listed.size=ops.size->(∀ j,listed.getD j false=decide (j<k))->sX anc listed->
   GG P Γ ops anc k (ops.toList.drop k) L σ K->qK P Γ ops anc L K n listed σ
 | 0,k,L,listed,σ,hk,hs,hl,bS,h=>by
   have :ops.toList.drop k=[]:=List.drop_eq_nil_of_le (by simp;omega)
   rw[this]at h
   refine⟨?_,h⟩
   refine List.eq_nil_iff_forall_not_mem.2 fun j hj=>?_
   obtain⟨h1,o,ho,_⟩:=mem_ready.1 hj
   have ae:j<ops.size:=(Array.getElem?_eq_some_iff.1 ho).1
   have :=hl j
   simp only[Array.getD_eq_getD_getElem?,Array.getElem?_eq_getElem (show j<listed.size by omega),Option.getD_some]at h1 this
   rw[h1]at this
   simp at this
   omega
 |n+1,k,L,listed,σ,hk,hs,hl,bS,h=>by
  have ae:k<ops.size:=by omega
  have hd:ops.toList.drop k=ops[k]::ops.toList.drop (k+1):=by
   rw[List.drop_eq_getElem_cons (by simpa using ae)];simp
  rw[hd]at h
  obtain⟨h1,h2,h3⟩:=h
  have aa:ops[k]?=some ops[k]:=Array.getElem?_eq_getElem ae
  have uu:∀ j,j<listed.size->listed.getD j true=listed.getD j false:=by
   intro j hj
   simp only[Array.getD_eq_getD_getElem?,Array.getElem?_eq_getElem hj,Option.getD_some]
  have hr:k∈Region.ready .any ops listed:=by
   refine mem_ready.2 ⟨?_,_,aa,fun e he hb=>?_⟩
   ·rw[uu k (by omega),hl k];simp
   ·rw[hl];simpa using Ah k _ aa e he hb
  refine pull hN hA aa n listed σ bS (fun j oj hj aj mb eE=>?_) hr h1 h2 ?_
  ·have Eh:j<ops.size:=(Array.getElem?_eq_some_iff.1 hj).1
   rw[uu j (by omega),hl j]at mb
   simp at mb
   exact kU k j _ oj aa hj (by omega) eE
  ·refine Ia hN hA kU Ah n (k+1) _ _ _ (by omega) (by simpa using hs) (fun j=>?_) (bS.set hA hr) h3
   by_cases p7:k=j
   ·subst p7
    simp[show k<listed.size by omega]
   ·rw[getD_set_ne false p7,hl j]
    refine decide_eq_decide.2 ?_
    omega
def vr(ops:Array Oper)(az:List (List Nat)):Bool:=
 (List.range ops.size).all fun j=>match ops[j]? with
   |none=>true
   |some oj=>(oj.after.toList.all fun e=>!Region.binds .any e||decide (e.on<j))&&
      ((az.getD j []).all fun i=>oj.after.toList.any fun e=>Region.binds .any e&&(e.on==i||(az.getD e.on []).contains i))&&
      (List.range j).all fun i=>(az.getD j []).contains i||(match ops[i]? with | some oi=>oi.apart ops oj | none=>true)
theorem FT(hΓ:∀ f s,Γ f=some s->an P f s)(hP:P.follows .mixedOrders=true){id:Nat}{l:List Oper}{σ:S}{K:Exit->S->Prop}(az:List (List Nat))
 (hs:vr l.toArray az=true) (h:∀ K':S->Prop,(∀ σ',K .normal σ'->K' σ')->qG P Γ l.toArray 0 az l [] σ K'):CW P (.region id l.toArray true) σ K:=by
 intro G φ m a w hC
 have gh:∀ j oj,l.toArray[j]?=some oj->(oj.after.toList.all fun e=>!Region.binds .any e||decide (e.on<j))=true/\
       ((az.getD j []).all fun i=>oj.after.toList.any fun e=>Region.binds .any e&&(e.on==i||(az.getD e.on []).contains i))=true/\
       ((List.range j).all fun i=>(az.getD j []).contains i||(match l.toArray[i]? with | some oi=>oi.apart l.toArray oj | none=>true))=true:=by
  intro j oj hj
  have :=List.all_eq_true.1 hs j (List.mem_range.2 (Array.getElem?_eq_some_iff.1 hj).1)
  simp only[hj,Bool.and_eq_true]at this
  exact⟨this.1.1,this.1.2,this.2⟩
 have hN:∀ f s,Γ f=some s->s.Near:=fun f s h=>(hΓ f s h).near
 have hA:xQ l.toArray (fun j=>az.getD j []):=by
  intro j o ho i hi
  have :=List.all_eq_true.1 (gh j o ho).2.1 i hi
  obtain⟨e,he,h1⟩:=List.any_eq_true.1 this
  simp only[Bool.and_eq_true,Bool.or_eq_true,beq_iff_eq,List.contains_iff_mem]at h1
  exact⟨e,by simpa using he,h1.1,h1.2⟩
 have kU:∀ i j oi oj,l.toArray[i]?=some oi->l.toArray[j]?=some oj->i<j->i∉az.getD j []->oi.apart l.toArray oj=true:=by
  intro i j oi oj h1 h2 h3 h4
  have :=List.all_eq_true.1 (gh j oj h2).2.2 i (List.mem_range.2 h3)
  simp only[h1,Bool.or_eq_true]at this
  rcases this with k | k
  ·exact(h4 (by simpa using k)).elim
  ·exact k
 have Ah:∀ j o,l.toArray[j]?=some o->∀ e∈o.after,Region.binds .any e=true->e.on<j:=by
  intro j o ho e he hb
  have :=List.all_eq_true.1 (gh j o ho).1 e (by simpa using he)
  simpa[hb]using this
 refine wpIn_region_any hP ?_
 obtain⟨_,hD⟩:=H9 (anc:=fun j=>az.getD j []) l 0 az [] σ (fun k=>by simp) (h (K .normal) fun _ h=>h)
 refine Pp hΓ (K:=K .normal) _ _ (hC.drawn _) (Ia hN hA kU Ah l.toArray.size 0 [] _ σ (by simp) (by simp) (fun j=>?_) (fun j hj=>?_) (by simpa using hD)) fun a' w' φ' m' σ' bW hK=>⟨φ',m',σ',bW,hK⟩
 ·by_cases hj:j<l.length<;>simp[hj]
 ·by_cases gl:j<l.length<;>simp[gl]at hj
theorem abH(hΓ:∀ f s,Γ f=some s->an P f s)(hP:P.follows .mixedOrders=true){id:Nat}{l:List Oper}{c:Code}{r:List Code}{σ:S}{K:Exit->S->Prop}(az:List (List Nat))(ks:List Nat)(ns:List Name)
 (hs:vr l.toArray az=true) (h:∀ K':S->Prop,(∀ σ',gq ks ns σ'->CL P (c::r) (gy ks ns σ') K->K' σ')->qG P Γ l.toArray 0 az l [] σ K'):CL P (.region id l.toArray true::c::r) σ K:=
 FT hΓ hP az hs fun K' hK=>h K' fun σ' hc hy=>hK σ' (FQ ks ns hc hy)
theorem xu(hΓ:∀ f s,Γ f=some s->an P f s)(hP:P.follows .mixedOrders=true){id:Nat}{l:List Oper}{σ:S}{K:Exit->S->Prop}(az:List (List Nat))
 (hs:vr l.toArray az=true) (h:∀ K':S->Prop,(∀ σ',K .normal σ'->K' σ')->qG P Γ l.toArray 0 az l [] σ K'):CL P [.region id l.toArray true] σ K:=
 FT hΓ hP az hs fun K' hK=>h K' fun σ' hc=>hK σ' hc
end
attribute [go_sem] dR tX ke uU Nat.beq_eq_true_eq qG bH bo aI fp dJ gr eG muts O.mut PSpec.toSpec List.headD_cons List.headD_nil List.tail_cons List.tail_nil
mutual
def D.ren(f:Name->Name):D->D
 | .v x=>.v x
 | .nilsl=>.nilsl
 | .nilmap=>.nilmap
 | .ref nm o=>.ref (f nm) o
 | .msl nm k=>.msl (f nm) k
 | .aref nm k i o=>.aref (f nm) k i o
 | .map nm=>.map (f nm)
 | .yld nm=>.yld (f nm)
 | .clo fn a b=>.clo fn (D.renL f a) (D.renL f b)
 | .agg l=>.agg (D.renL f l)
 | .tup l=>.tup (D.renL f l)
 | .any=>.any
def D.renL(f:Name->Name):List D->List D
 |[]=>[]
 |d::r=>D.ren f d::D.renL f r
end
def E.ren(f:Name->Name)(e:E):E:=⟨e.c,e.d.ren f⟩
def O.ren(f:Name->Name):O->O
 | .box cs=>.box (D.renL f cs)
 | .loop env ps asg body st bm=>.loop (env.map (E.ren f)) ps asg body st bm
 | .arr sz l=>.arr sz l
 | .map kd es=>.map kd es
 | .fbox cs=>.fbox cs
 | .farr sz l=>.farr sz l
 | .dead sz n=>.dead sz n
theorem iu(f:Name->Name):∀ l:List D,D.renL f l=l.map (D.ren f)
 |[]=>rfl
 |d::r=>by simp only[D.renL,List.map_cons,iu f r]
theorem D.one_ren(f:Name->Name)(d:D):(d.ren f).one=d.one:=by cases d<;>rfl
theorem O.len_ren(f:Name->Name)(o:O):(o.ren f).len?=o.len?:=by cases o<;>rfl
theorem O.sz_ren(f:Name->Name)(o:O):(o.ren f).sz=o.sz:=by cases o<;>rfl
theorem O.mut_ren(f:Name->Name)(o:O):(o.ren f).mut=o.mut:=by cases o<;>rfl
def vh(f:Name->Name)(φ φ':Name->Loc)(obj obj':Name->Option O)(dom:Name->Bool):Prop:=
 ∀ nm o,dom nm=true->obj nm=some o->∃ o',obj' (f nm)=some o'/\
   ((o'.len?=o.len?/\φ' (f nm)=φ nm/\o'.sz=o.sz)\/(∃ n n',o.len?=some n/\o'.len?=some n'/\n<n'))
theorem ar.renx{f:Name->Name}{φ φ':Name->Loc}{obj obj':Name->Option O}{m m':Mem}{dom:Name->Bool}(hm:Mem.le m m')(hx:vh f φ φ' obj obj' dom){d:D}{u:Value}
 (h:ar φ obj m d u) (hc:D.clos dom d=true):ar φ' obj' m' (d.ren f) u:=by
 induction h with
 |any u=>exact .any u
 |v x u h=>exact .v x u (h.mono hm)
 |nilsl a=>exact .nilsl a
 |nilmap=>exact .nilmap
 |ref nm off h=>
  obtain⟨o,ho,hl⟩:=h
  obtain⟨o',cM,h⟩:=hx nm o hc ho
  rcases h with⟨h1,h2,h3⟩ | ⟨n,n',h1,h2,h3⟩
  ·rw[<-h2];exact .ref (f nm) off ⟨o',cM,h1.trans hl⟩
  ·rw[hl]at h1;cases h1
 |map nm h=>
  obtain⟨o,ho,hl⟩:=h
  obtain⟨o',cM,h⟩:=hx nm o hc ho
  rcases h with⟨h1,h2,h3⟩ | ⟨n,n',h1,h2,h3⟩
  ·rw[<-h2];exact .map (f nm) ⟨o',cM,h1.trans hl⟩
  ·rw[hl]at h1;cases h1
 |yld nm h=>
  obtain⟨o,ho,hl⟩:=h
  obtain⟨o',cM,h⟩:=hx nm o hc ho
  rcases h with⟨h1,h2,h3⟩ | ⟨n,n',h1,h2,h3⟩
  ·rw[<-h2];exact .yld (f nm) ⟨o',cM,h1.trans hl⟩
  ·rw[hl]at h1;cases h1
 |msl nm k u h hu=>
  obtain⟨o,n,ho,hl,hk,he⟩:=h
  obtain⟨o',cM,h⟩:=hx nm o hc ho
  rcases h with⟨h1,h2,h3⟩ | ⟨n1,n',h1,h2,h3⟩
  ·exact .msl (f nm) k u ⟨o',n,cM,h1.trans hl,hk,fun e=>by rw[h2];exact he e⟩ hu
  ·rw[hl]at h1;cases h1
   exact .msl (f nm) k u ⟨o',n',cM,h2,by omega,fun e=>by omega⟩ hu
 |aref nm k i off u h hu=>
  obtain⟨o,n,ho,hl,hk,he⟩:=h
  obtain⟨o',cM,h⟩:=hx nm o hc ho
  rcases h with⟨h1,h2,h3⟩ | ⟨n1,n',h1,h2,h3⟩
  ·exact .aref (f nm) k i off u ⟨o',n,cM,h1.trans hl,hk,fun e=>by rw[h2,h3];exact he e⟩ hu
  ·rw[hl]at h1;cases h1
   exact .aref (f nm) k i off u ⟨o',n',cM,h2,by omega,fun e=>by omega⟩ hu
 |clo fn fs cs us vs h1 h2 bV dG ox ow=>
  simp only[D.clos,Bool.and_eq_true]at hc
  simp only[D.ren,iu]
  refine .clo fn _ _ us vs (by simpa using h1) (by simpa using h2) (fun i a b=>?_) (fun i a b=>?_)
  ·simp only[List.getElem_map];exact ox i (by simpa using a) b (iJ _ hc.1)
  ·simp only[List.getElem_map];exact ow i (by simpa using a) b (iJ _ hc.2)
 |agg l us h ho hr ih=>
  simp only[D.clos]at hc
  simp only[D.ren,iu]
  refine .agg _ us (by simpa using h) (fun d hd=>?_) (fun i a b=>?_)
  ·obtain⟨d',h1,rfl⟩:=List.mem_map.1 hd
   rw[D.one_ren];exact ho d' h1
  ·simp only[List.getElem_map];exact ih i (by simpa using a) b (iJ _ hc)
 |tup l us h hr ih=>
  simp only[D.clos]at hc
  simp only[D.ren,iu]
  refine .tup _ us (by simpa using h) (fun i a b=>?_)
  simp only[List.getElem_map];exact ih i (by simpa using a) b (iJ _ hc)
theorem bT.renx{f:Name->Name}{φ φ':Name->Loc}{obj obj':Name->Option O}{m m':Mem}{dom:Name->Bool}(hm:Mem.le m m')(hx:vh f φ φ' obj obj' dom){e:E}{u:Value}
 (h:bT φ obj m e u) (hc:D.clos dom e.d=true):bT φ' obj' m' (e.ren f) u:=by
 unfold bT at *
 have e0:(E.ren f e).c=e.c:=rfl
 have e1:(E.ren f e).d=e.d.ren f:=rfl
 rw[e0,e1]
 by_cases hh:e.c=true
 ·rw[if_pos hh]at h |-;exact h.renx hm hx hc
 ·rw[if_neg hh]at h |-;exact h
theorem gK.ren{f:Name->Name}{φ φ':Name->Loc}{obj obj':Name->Option O}{m m':Mem}{dom:Name->Bool}{o:O}{p:Loc}{w w':World}(hm:Mem.le m m')(hx:vh f φ φ' obj obj' dom)
 (hc:O.clos dom o=true) (hw:o.mut=true->p.nul=false->w'.heap[p.blk]?=w.heap[p.blk]?) (h:gK φ obj m o p w):gK φ' obj' m' (o.ren f) p w':=by
 cases o with
 |box cs=>
  obtain⟨h0,h1,eW,us,T,g,h2,h3,h4,h5⟩:=h
  simp only[O.clos]at hc
  simp only[O.ren,gK,iu,List.length_map,List.getElem_map,List.mem_map,forall_exists_index,and_imp,forall_apply_eq_imp_iff₂,D.one_ren]
  exact⟨h0,h1,eW,us,T,g,by rw[hw rfl h1];exact h2,h3,h4,fun i a b=>(h5 i a b).renx hm hx (iJ a hc)⟩
 |arr sz l=>
  rcases h with⟨h,h'⟩ | ⟨h0,h1,h2,h3,h4,us,T,f,h5,h6,h7,h8⟩
  ·exact .inl ⟨h,h'⟩
  ·exact .inr ⟨h0,h1,h2,h3,h4,us,T,f,by rw[hw rfl h0];exact h5,h6,h7,fun i j a b=>let ⟨c,x,y⟩:=h8 i j a b;⟨c,x,y.mono hm⟩⟩
 |map kd es=>
  obtain⟨h0,h1,eW,us,T,h2,h3,h4⟩:=h
  exact⟨h0,h1,eW,us,T,by rw[hw rfl h1];exact h2,h3,fun i a b=>⟨(h4 i a b).1.mono hm,(h4 i a b).2.mono hm⟩⟩
 |fbox cs=>exact⟨h.1,fun i a=>let ⟨c,x,y⟩:=h.2 i a;⟨c,hm _ _ _ x,y.mono hm⟩⟩
 |farr sz l=>
  rcases h with⟨h,h'⟩ | ⟨h0,h1,h2,h3,h4⟩
  ·exact .inl ⟨h,h'⟩
  ·exact .inr ⟨h0,h1,h2,h3,fun i j a b=>let ⟨c,x,y⟩:=h4 i j a b;⟨c,hm _ _ _ x,y.mono hm⟩⟩
 |dead=>exact h
 |loop env ps asg body st bm=>
  obtain⟨h0,h1,r,h2,h3,h4,h5,h6,h7,h8,h9⟩:=h
  simp only[O.clos]at hc
  simp only[O.ren,gK,List.length_map,List.getElem_map]
  refine⟨h0,h1,r,by rw[hw rfl h1];exact h2,h3,h4,h5,h6,h7,h8,fun i a=>(h9 i a).renx hm hx ?_⟩
  have :=iJ (l:=env.map (·.d)) (i:=i) (by simpa using a) hc
  simpa using this
mutual
theorem D.ren_id{f g:Name->Name}{dom:Name->Bool}(jP:∀ nm,dom nm=true->g (f nm)=nm):∀ d:D,D.clos dom d=true->(d.ren f).ren g=d
 | .v _,_=>rfl
 | .nilsl,_=>rfl
 | .nilmap,_=>rfl
 | .any,_=>rfl
 | .ref nm _,h=>by simp only[D.ren];rw[jP nm h]
 | .msl nm _,h=>by simp only[D.ren];rw[jP nm h]
 | .aref nm _ _ _,h=>by simp only[D.ren];rw[jP nm h]
 | .map nm,h=>by simp only[D.ren];rw[jP nm h]
 | .yld nm,h=>by simp only[D.ren];rw[jP nm h]
 | .clo _ a b,h=>by
   simp only[D.clos,Bool.and_eq_true]at h
   simp only[D.ren];rw[D.renL_id jP a h.1,D.renL_id jP b h.2]
 | .agg l,h=>by simp only[D.clos]at h;simp only[D.ren];rw[D.renL_id jP l h]
 | .tup l,h=>by simp only[D.clos]at h;simp only[D.ren];rw[D.renL_id jP l h]
theorem D.renL_id{f g:Name->Name}{dom:Name->Bool}(jP:∀ nm,dom nm=true->g (f nm)=nm):∀ l:List D,D.closL dom l=true->D.renL g (D.renL f l)=l
 |[],_=>rfl
 |d::r,h=>by
  simp only[D.closL,Bool.and_eq_true]at h
  simp only[D.renL];rw[D.ren_id jP d h.1,D.renL_id jP r h.2]
end
theorem O.ren_id{f g:Name->Name}{dom:Name->Bool}(jP:∀ nm,dom nm=true->g (f nm)=nm)(o:O)(h:O.clos dom o=true):(o.ren f).ren g=o:=by
 cases o with
 |box cs=>simp only[O.clos]at h;simp only[O.ren];rw[D.renL_id jP cs h]
 |loop env ps asg body st bm=>
  simp only[O.clos]at h
  simp only[O.ren,List.map_map,O.loop.injEq,and_true]
  refine List.ext_getElem (by simp) fun i h1 h2=>?_
  have :=iJ (l:=env.map (·.d)) (i:=i) (by simpa using h2) h
  simp only[List.getElem_map,Function.comp_apply,E.ren]at this |-
  rw[D.ren_id jP _ this]
 |_=>rfl
mutual
def vO:D->List Name
 | .ref nm _=>[nm]
 | .msl nm _=>[nm]
 | .aref nm _ _ _=>[nm]
 | .map nm=>[nm]
 | .yld nm=>[nm]
 | .clo _ a b=>dS a++dS b
 | .agg l=>dS l
 | .tup l=>dS l
 |_=>[]
def dS:List D->List Name
 |[]=>[]
 |d::r=>vO d++dS r
end
def nl:O->List Name
 | .box cs=>dS cs
 | .loop env _ _ _ _ _=>dS (env.map (·.d))
 |_=>[]
def cK(L:List Name)(nm:Name):Bool:=L.any fun x=>x==nm
def dQ(obj:Name->Option O):Nat->List Name->List Name->List Name
 | 0,_,acc=>acc
 |_+1,[],acc=>acc
 |n+1,x::todo,acc=>if cK acc x=true then dQ obj n todo acc else dQ obj n ((match obj x with | some o=>nl o | none=>[])++todo) (acc++[x])
def reach(obj:Name->Option O)(ds:List D):List Name:=dQ obj 3000 (dS ds) []
theorem iw{L:List Name}{nm:Name}:cK L nm=true↔nm∈L:=by
 simp only[cK,List.any_eq_true,beq_iff_eq]
 exact⟨fun ⟨x,h,e⟩=>e▸h,fun h=>⟨nm,h,rfl⟩⟩
theorem B9{obj:Name->Option O}:∀ (n:Nat) (todo acc:List Name),∀ nm∈acc,nm∈dQ obj n todo acc
 | 0,_,_,_,h=>h
 |_+1,[],_,_,h=>h
 |n+1,x::todo,acc,nm,h=>by
  simp only[dQ]
  split
  ·exact B9 n _ _ nm h
  ·exact B9 n _ _ nm (by simp[h])
theorem yn{obj:Name->Option O}:∀ (n:Nat) (todo acc:List Name),acc.Nodup->(dQ obj n todo acc).Nodup
 | 0,_,_,h=>h
 |_+1,[],_,h=>h
 |n+1,x::todo,acc,h=>by
  simp only[dQ]
  split
  ·exact yn n _ _ h
  ·rename_i hx
   refine yn n _ _ (List.nodup_append.2 ⟨h,by simp,fun a ha b hb=>?_⟩)
   simp only[List.mem_singleton]at hb
   subst hb
   rintro rfl
   exact hx (iw.2 ha)
theorem B8{obj obj2:Name->Option O}:∀ (n:Nat) (todo acc:List Name),bq (dQ obj n todo acc) obj obj2->dQ obj2 n todo acc=dQ obj n todo acc
 | 0,_,_,_=>rfl
 |_+1,[],_,_=>rfl
 |n+1,x::todo,acc,h=>by
  simp only[dQ]at h |-
  split
  ·rename_i hx;rw[if_pos hx]at h;exact B8 n _ _ h
  ·rename_i hx
   rw[if_neg hx]at h
   have a7:obj2 x=obj x:=h x (B9 n _ _ x (by simp))
   rw[a7]
   exact B8 n _ _ h
def idx:List Name->Name->Nat
 |[],_=>0
 |x::r,nm=>if x=nm then 0 else idx r nm+1
def cin(L:List Name)(nm:Name):Name:=[idx L nm,1]
def cout(L:List Name)(t:Name):Name->Name
 |[i,1]=>L.getD i []
 |x=>x++t
def cJ:Name->Bool
 |[_,1]=>true
 |_=>false
theorem ub:∀ {L:List Name} {nm:Name},nm∈L->∃ h:idx L nm<L.length,L[idx L nm]=nm
 |x::r,nm,h=>by
  simp only[idx]
  by_cases e:x=nm
  ·subst e;simp
  ·simp only[if_neg e]
   obtain⟨h1,h2⟩:=ub (L:=r) (nm:=nm) (by rcases List.mem_cons.1 h with h | h; · exact(e h.symm).elim
                                         ·exact h)
   exact⟨by simp;omega,by simpa using h2⟩
theorem abo{L:List Name}{t nm:Name}(h:nm∈L):cout L t (cin L nm)=nm:=by
 obtain⟨h1,h2⟩:=ub h
 show L.getD (idx L nm) []=nm
 rw[List.getD_eq_getElem?_getD,List.getElem?_eq_getElem h1];simpa using h2
theorem u7{L:List Name}{t x:Name}(h:cJ x=false):cout L t x=x++t:=by
 unfold cout
 split
 ·simp[cJ]at h
 ·rfl
theorem vW{x:Name}:cJ x=true↔∃ i,x=[i,1]:=by
 constructor
 ·intro h
  unfold cJ at h
  split at h
  ·exact⟨_,rfl⟩
  ·cases h
 ·rintro⟨i,rfl⟩;rfl
theorem II(i:Nat):own [0] [i,1]=false:=by simp[own]
theorem Dh{L:List Name}(hn:L.Nodup){i:Nat}(h:i<L.length):idx L L[i]=i:=by
 obtain⟨h1,h2⟩:=ub (List.getElem_mem h)
 exact(List.getElem_inj hn).1 h2
structure Out where
 upd:List (Nat×O)
 new:List (Name×O)
 d:D
 deriving Inhabited
def eM:List (Nat×O)->Nat->O->O
 |[],_,o=>o
 |(j,o')::r,i,o=>eM r i (if j=i then o' else o)
def cj(L:List Name)(t:Name):List (Nat×O)->(Name->Option O)->(Name->Option O)
 |[],obj=>obj
 |(i,o)::r,obj=>cj L t r (upd obj (L.getD i []) (some (o.ren (cout L t))))
def dd(L:List Name)(t:Name):List (Name×O)->(Name->Option O)->(Name->Option O)
 |[],obj=>obj
 |(x,o)::r,obj=>dd L t r (upd obj (x++t) (some (o.ren (cout L t))))
theorem Il{L:List Name}{t:Name}(hn:L.Nodup):∀ (l:List (Nat×O)) (obj:Name->Option O) {i:Nat} (h:i<L.length) (o:O) (_:(l.all fun x=>decide (x.1<L.length))=true) (_:obj L[i]=some (o.ren (cout L t))),
 cj L t l obj L[i]=some ((eM l i o).ren (cout L t))
 |[],obj,i,h,o,_,ho=>ho
 |(j,o')::r,obj,i,h,o,hl,ho=>by
  simp only[List.all_cons,Bool.and_eq_true,decide_eq_true_eq]at hl
  simp only[cj,eM]
  refine Il hn r _ h _ hl.2 ?_
  have e:L.getD j []=L[j]:=by rw[List.getD_eq_getElem?_getD,List.getElem?_eq_getElem hl.1];rfl
  rw[e]
  by_cases hj:j=i
  ·subst hj;rw[aG,if_pos rfl]
  ·rw[aK _ _ _ (fun e'=>hj ((List.getElem_inj hn).1 e').symm),if_neg hj];exact ho
theorem Ce{L:List Name}{t:Name}:∀ (l:List (Nat×O)) (obj:Name->Option O) {nm:Name} (_:(l.all fun x=>decide (x.1<L.length))=true) (_:nm∉L),cj L t l obj nm=obj nm
 |[],_,_,_,_=>rfl
 |(j,o')::r,obj,nm,hl,hn=>by
  simp only[List.all_cons,Bool.and_eq_true,decide_eq_true_eq]at hl
  simp only[cj]
  rw[Ce r _ hl.2 hn]
  refine aK _ _ _ ?_
  rintro rfl
  refine hn ?_
  rw[List.getD_eq_getElem?_getD,List.getElem?_eq_getElem hl.1];simp
theorem vE{L:List Name}{t:Name}:∀ (l:List (Name×O)) (obj:Name->Option O) {nm:Name} (_:∀ x∈l,nm≠x.1++t),dd L t l obj nm=obj nm
 |[],_,_,_=>rfl
 |(x,o')::r,obj,nm,hl=>by
  simp only[dd]
  rw[vE r _ fun y hy=>hl y (by simp[hy])]
  exact aK _ _ _ (hl (x,o') (by simp))
theorem Im{L:List Name}{t:Name}:∀ (l:List (Name×O)) (obj:Name->Option O) (_:(l.map (·.1)).Nodup) {x:Name} {o:O} (_:(x,o)∈l),dd L t l obj (x++t)=some (o.ren (cout L t))
 |(y,o')::r,obj,hn,x,o,h=>by
  simp only[List.map_cons,List.nodup_cons]at hn
  simp only[dd]
  rcases List.mem_cons.1 h with h | h
  ·cases h
   rw[vE r _ fun z hz e=>hn.1 (by
    have :_=z.1:=List.append_cancel_right e
    rw[this];exact List.mem_map_of_mem hz)]
   exact aG _ _ _
  ·exact Im r _ hn.2 h
def dp(n:Nat)(new:List (Name×O)):Name->Bool
 |[i,1]=>decide (i<n)
 |x=>new.any fun y=>y.1==x
section
variable {G:Ghost} {φ:Name->Loc} {m:Mem} {σ:S} {a:Act} {w:World}
def cr(L:List Name)(obj:Name->Option O)(nm:Name):O:=match obj nm with
 |some o=>o.ren (cin L)
 |none=>.fbox []
def shut(obj:Name->Option O)(L:List Name):Bool:=L.all fun nm=>match obj nm with
 |some o=>O.clos (cK L) o
 |none=>false
def jH(L:List Name)(obj:Name->Option O):Name->Option O
 |[i,1]=>if i<L.length then some (cr L obj (L.getD i []))else none
 |_=>none
def lV(L:List Name)(φ:Name->Loc):Name->Loc
 |[i,1]=>φ (L.getD i [])
 |_=>⟨0,0,0,true,none⟩
def nR(L:List Name)(φ:Name->Loc)(obj:Name->Option O)(b:Nat):Prop:=∃ nm∈L,holds φ obj nm/\(φ nm).blk=b
theorem vx{obj:Name->Option O}{L:List Name}(h:shut obj L=true){nm:Name}(hn:nm∈L):∃ o,obj nm=some o/\O.clos (cK L) o=true:=by
 have :=List.all_eq_true.1 h nm hn
 cases ho:obj nm with
 |none=>simp[ho]at this
 |some o=>simp only[ho]at this;exact⟨o,rfl,this⟩
theorem kY{L:List Name}{i:Nat}(h:i<L.length):L.getD i []=L[i]:=by rw[List.getD_eq_getElem?_getD,List.getElem?_eq_getElem h];rfl
theorem Uv{L:List Name}{obj:Name->Option O}{nm:Name}(hn:nm∈L):jH L obj (cin L nm)=some (cr L obj nm):=by
 obtain⟨h1,h2⟩:=ub hn
 show (if idx L nm<L.length then some (cr L obj (L.getD (idx L nm) []))else none)=_
 rw[if_pos h1,kY h1,h2]
theorem Qo{L:List Name}{φ:Name->Loc}{nm:Name}(hn:nm∈L):lV L φ (cin L nm)=φ nm:=by
 obtain⟨h1,h2⟩:=ub hn
 show φ (L.getD (idx L nm) [])=_
 rw[kY h1,h2]
theorem ym{L:List Name}{obj:Name->Option O}:vh (cin L) φ (lV L φ) obj (jH L obj) (cK L):=by
 intro nm o hd ho
 have hn:=iw.1 hd
 refine⟨cr L obj nm,Uv hn,.inl ⟨?_,Qo hn,?_⟩⟩
 ·simp only[cr,ho];exact O.len_ren _ _
 ·simp only[cr,ho];exact O.sz_ren _ _
theorem Cx{L:List Name}{obj:Name->Option O}{x:Name}{o:O}(h:jH L obj x=some o):∃ (i:Nat) (hi:i<L.length),x=[i,1]/\o=cr L obj L[i]:=by
 unfold jH at h
 split at h
 ·rename_i i
  split at h
  ·rename_i hi
   cases h
   exact⟨i,hi,rfl,by rw[kY hi]⟩
  ·cases h
 ·cases h
def vg(w:World)(L:List Name)(φ:Name->Loc)(obj:Name->Option O):Prop:=j7 w/\∀ q∈xZ,¬ nR L φ obj q.1
def sw(w:World)(m:Mem)(L:List Name)(φ:Name->Loc)(obj:Name->Option O)(rd:Option Nat)(h:∀ l,rd=some l->¬ nR L φ obj l/\∃ r,w.heap[l]?=some (.loop r))(ht:vg w L φ obj):Ghost:=
 ⟨w,m,nR L φ obj,rd,lV L φ,jH L obj,h,ht⟩
theorem xY(hC:aD G φ m σ a w)(L:List Name):vg w L φ σ.obj:=by
 refine⟨hC.fr.tab,fun q hq=>?_⟩
 rintro⟨nm,_,hh,e⟩
 obtain⟨T,f,h1⟩:=G.tab.1 q hq
 have h2:=(Array.getElem?_eq_some_iff.1 h1).1
 rcases hC.own nm hh with h3 | h3
 ·omega
 ·rw[e]at h3;exact G.tab.2 q hq h3
theorem zM{L:List Name}{obj:Name->Option O}(hL:shut obj L=true){x:Name}(h:holds (lV L φ) (jH L obj) x):∃ (i:Nat) (hi:i<L.length),x=[i,1]/\holds φ obj L[i]:=by
 obtain⟨o,h1,h2,h3⟩:=h
 obtain⟨i,hi,rfl,rfl⟩:=Cx h1
 obtain⟨o',h4,_⟩:=vx hL (List.getElem_mem hi)
 refine⟨i,hi,rfl,o',h4,?_,?_⟩
 ·simp only[cr,h4,O.mut_ren]at h2;exact h2
 ·have:lV L φ [i,1]=φ L[i]:=by show φ (L.getD i [])=_;rw[kY hi]
  rw[this]at h3;exact h3
theorem M4(hC:aD G φ m σ a w){L:List Name}(hn:L.Nodup)(hL:shut σ.obj L=true){rd:Option Nat}(mh:∀ l,rd=some l->¬ nR L φ σ.obj l/\∃ r,w.heap[l]?=some (.loop r))
 {nt b0:Nat} {env:Nat->E} {tmps:Array Value} (hs:tmps.size=nt) (he:∀ t,bT (lV L φ) (jH L σ.obj) m (env t) (tmps.getD t undef)):
 aD (sw w m L φ σ.obj rd mh (xY hC L)) (lV L φ) m ⟨nt,env,jH L σ.obj,[0],b0⟩ { tmps:=tmps,defers:=[] } w:=by
 have hφ:∀ (i:Nat) (hi:i<L.length),lV L φ [i,1]=φ L[i]:=fun i hi=>by show φ (L.getD i [])=_;rw[kY hi]
 constructor
 ·exact he
 ·exact hs
 ·exact⟨[],rfl,by simp,by simp⟩
 ·intro x o hx
  obtain⟨i,hi,rfl,rfl⟩:=Cx hx
  obtain⟨o',h4,h5⟩:=vx hL (List.getElem_mem hi)
  rw[hφ i hi]
  simp only[cr,h4]
  exact(hC.objs _ _ h4).ren (Mem.le_refl m) ym h5 fun _ _=>rfl
 ·exact hC.mem
 ·intro x hx off
  obtain⟨i,hi,rfl,h⟩:=zM hL hx
  rw[hφ i hi]
  exact hC.apart _ h off
 ·intro x y hx hy e
  obtain⟨i,hi,rfl,h⟩:=zM hL hx
  obtain⟨j,hj,rfl,h'⟩:=zM hL hy
  rw[hφ i hi,hφ j hj]at e
  have :=(List.getElem_inj hn).1 (hC.inj _ _ h h' e)
  rw[this]
 ·intro x hx
  obtain⟨i,hi,rfl,h⟩:=zM hL hx
  rw[hφ i hi]
  exact .inr ⟨_,List.getElem_mem hi,h,rfl⟩
 ·exact⟨rfl,rfl,rfl,Nat.le_refl _,fun _ _ _=>rfl⟩
 ·intro b off v h;exact .inl h
 ·refine⟨fun x o hx=>?_,Ext.refl _ _⟩
  obtain⟨i,hi,rfl,_⟩:=Cx hx
  exact II i
structure Qn (σ:S) (os:List O) (o:Out):Prop where
 objs:∀ i (h:i<os.length),σ.obj [i,1]=some (eM o.upd i os[i])
 news:∀ x∈o.new,σ.obj x.1=some x.2
 cd:D.clos (dp os.length o.new) o.d=true
 cu:(o.upd.all fun x=>O.clos (dp os.length o.new) x.2&&decide (x.1<os.length))=true
 cn:(o.new.all fun x=>O.clos (dp os.length o.new) x.2&&!cJ x.1)=true
 nd:(o.new.map (·.1)).Nodup
def fresh(obj:Name->Option O)(t:Name)(new:List (Name×O)):Bool:=new.all fun x=>(obj (x.1++t)).isNone
theorem aaM{n:Nat}{new:List (Name×O)}{x:Name×O}(h:cJ x.1=false)(hx:x∈new):dp n new x.1=true:=by
 have key:∀ nm:Name,cJ nm=false->dp n new nm=new.any fun y=>y.1==nm:=by
  intro nm h
  unfold dp
  split
  ·simp[cJ]at h
  ·rfl
 rw[key _ h]
 exact List.any_eq_true.2 ⟨x,hx,by simp⟩
theorem Jy{dom:Name->Bool}:∀ (l:List (Nat×O)) (i:Nat) (o:O),O.clos dom o=true->(∀ x∈l,O.clos dom x.2=true)->O.clos dom (eM l i o)=true
 |[],_,_,h,_=>h
 |(j,o')::r,i,o,h,hl=>by
  simp only[eM]
  refine Jy r i _ ?_ fun x hx=>hl x (by simp[hx])
  split
  ·exact hl (j,o') (by simp)
  ·exact h
mutual
theorem clos_ren{f:Name->Name}{dom iY:Name->Bool}(hf:∀ nm,dom nm=true->iY (f nm)=true):∀ d:D,D.clos dom d=true->D.clos iY (d.ren f)=true
 | .v _,_=>by simp only[D.ren,D.clos]
 | .nilsl,_=>by simp only[D.ren,D.clos]
 | .nilmap,_=>by simp only[D.ren,D.clos]
 | .any,_=>by simp only[D.ren,D.clos]
 | .ref nm _,h=>hf nm h
 | .msl nm _,h=>hf nm h
 | .aref nm _ _ _,h=>hf nm h
 | .map nm,h=>hf nm h
 | .yld nm,h=>hf nm h
 | .clo _ a b,h=>by
   simp only[D.clos,Bool.and_eq_true]at h
   simp only[D.ren,D.clos,Bool.and_eq_true]
   exact⟨sK hf a h.1,sK hf b h.2⟩
 | .agg l,h=>by simp only[D.clos]at h;simp only[D.ren,D.clos];exact sK hf l h
 | .tup l,h=>by simp only[D.clos]at h;simp only[D.ren,D.clos];exact sK hf l h
theorem sK{f:Name->Name}{dom iY:Name->Bool}(hf:∀ nm,dom nm=true->iY (f nm)=true):∀ l:List D,D.closL dom l=true->D.closL iY (D.renL f l)=true
 |[],_=>by simp only[D.renL,D.closL]
 |d::r,h=>by
  simp only[D.closL,Bool.and_eq_true]at h
  simp only[D.renL,D.closL,Bool.and_eq_true]
  exact⟨clos_ren hf d h.1,sK hf r h.2⟩
end
theorem O.clos_ren{f:Name->Name}{dom iY:Name->Bool}(hf:∀ nm,dom nm=true->iY (f nm)=true)(o:O)(h:O.clos dom o=true):O.clos iY (o.ren f)=true:=by
 cases o with
 |box cs=>simp only[O.clos]at h;simp only[O.ren,O.clos];exact sK hf cs h
 |loop env ps asg body st bm=>
  simp only[O.clos]at h
  simp only[O.ren,O.clos]
  have :=sK hf _ h
  rw[iu,List.map_map]at this
  rw[List.map_map]
  exact this
 |_=>rfl
theorem M3(hC:aD G φ m σ a w){L:List Name}(hn:L.Nodup)(hL:shut σ.obj L=true){rd:Option Nat}{mh:∀ l,rd=some l->¬ nR L φ σ.obj l/\∃ r,w.heap[l]?=some (.loop r)}
 {ht:vg w L φ σ.obj} {φ2:Name->Loc} {m2:Mem} {σ2:S} {a2:Act} {w2:World} (ft:aD (sw w m L φ σ.obj rd mh ht) φ2 m2 σ2 a2 w2) {o:Out} (hE:Qn σ2 (L.map (cr L σ.obj)) o) {t:Name} (hf:fresh σ.obj t o.new=true):
 ∃ φ' m',Mem.le m m'/\aD G φ' m' { σ with obj:=dd L t o.new (cj L t o.upd σ.obj) } a w2/\
   Ext φ φ' σ.obj (dd L t o.new (cj L t o.upd σ.obj))/\
   (∀ d u,ar φ2 σ2.obj m2 d u->D.clos (dp L.length o.new) d=true->ar φ' (dd L t o.new (cj L t o.upd σ.obj)) m' (d.ren (cout L t)) u):=by
 have hlen:(L.map (cr L σ.obj)).length=L.length:=by simp
 obtain⟨h1,h2,h3,h4,h5,h6⟩:=hE
 rw[hlen]at h3 h4 h5
 have hu:(o.upd.all fun x=>decide (x.1<L.length))=true:=List.all_eq_true.2 fun x hx=>by
  have :=List.all_eq_true.1 h4 x hx
  simp only[Bool.and_eq_true]at this;exact this.2
 have zA:∀ x∈o.upd,O.clos (dp L.length o.new) x.2=true:=fun x hx=>by
  have :=List.all_eq_true.1 h4 x hx
  simp only[Bool.and_eq_true]at this;exact this.1
 have D2:∀ x∈o.new,O.clos (dp L.length o.new) x.2=true:=fun x hx=>by
  have :=List.all_eq_true.1 h5 x hx
  simp only[Bool.and_eq_true]at this;exact this.1
 have D1:∀ x∈o.new,cJ x.1=false:=fun x hx=>by
  have :=List.all_eq_true.1 h5 x hx
  simp only[Bool.and_eq_true,Bool.not_eq_true']at this;exact this.2
 have cp:∀ x∈o.new,σ.obj (x.1++t)=none:=fun x hx=>by
  have :=List.all_eq_true.1 hf x hx
  simpa using this
 have Z4:∀ nm∈L,∃ o,σ.obj nm=some o:=fun nm h=>let ⟨o,h,_⟩:=vx hL h;⟨o,h⟩
 have so:∀ nm∈L,∀ x∈o.new,nm≠x.1++t:=fun nm h x hx e=>by
  obtain⟨o',ho⟩:=Z4 nm h
  rw[e,cp x hx]at ho;cases ho
 have Mx:∀ nm,cK L nm=true->cout L t (cin L nm)=nm:=fun nm h=>abo (iw.1 h)
 generalize fL:dd L t o.new (cj L t o.upd σ.obj)=obj'
 have zN:∀ (i:Nat) (hi:i<L.length),obj' L[i]=some ((eM o.upd i (cr L σ.obj L[i])).ren (cout L t)):=fun i hi=>by
  rw[<-fL,vE _ _ (so _ (List.getElem_mem hi))]
  refine Il hn _ _ hi _ hu ?_
  obtain⟨o',ho,hc⟩:=vx hL (List.getElem_mem hi)
  simp only[cr,ho]
  rw[O.ren_id Mx o' hc]
 have DZ:∀ x∈o.new,obj' (x.1++t)=some (x.2.ren (cout L t)):=fun x hx=>by rw[<-fL];exact Im _ _ h6 hx
 have DY:∀ nm,nm∉L->(∀ x∈o.new,nm≠x.1++t)->obj' nm=σ.obj nm:=fun nm h h'=>by rw[<-fL,vE _ _ h',Ce _ _ hu h]
 let φ':Name->Loc:=fun nm=>if nm∈L then φ2 (cin L nm)else match o.new.find? (fun x=>x.1++t==nm)with
  |some x=>φ2 x.1
  |none=>φ nm
 have v7:∀ (i:Nat) (hi:i<L.length),φ' L[i]=φ2 [i,1]:=fun i hi=>by
  show (if L[i]∈L then φ2 (cin L L[i])else _)=_
  rw[if_pos (List.getElem_mem hi)]
  show φ2 [idx L L[i],1]=_
  rw[Dh hn hi]
 have zr:∀ x∈o.new,φ' (x.1++t)=φ2 x.1:=fun x hx=>by
  show (if x.1++t∈L then _ else _)=_
  rw[if_neg fun h=>so _ h x hx rfl]
  cases qa:o.new.find? (fun y=>y.1++t==x.1++t)with
  |none=>have:=List.find?_eq_none.1 qa x hx;simp at this
  |some y=>
   have :=List.find?_some qa
   simp only[beq_iff_eq]at this
   simp only[List.append_cancel_right this]
 have zq:∀ nm,nm∉L->(∀ x∈o.new,nm≠x.1++t)->φ' nm=φ nm:=fun nm h h'=>by
  show (if nm∈L then _ else _)=_
  rw[if_neg h]
  cases qa:o.new.find? (fun y=>y.1++t==nm)with
  |none=>rfl
  |some y=>
   have :=List.find?_some qa
   simp only[beq_iff_eq]at this
   exact(h' y (List.mem_of_find?_eq_some qa) this.symm).elim
 let m':Mem:=fun b off=>match m2 b off with | some c=>some c | none=>m b off
 have zH:=ft.own
 have sf:∀ b,nR L φ σ.obj b->b<w.heap.size:=fun b ⟨nm,h,⟨o',k1,k2,k3⟩,e⟩=>by rw[<-e];exact(hC.objs nm o' k1).lt k2 k3
 have D8:Mem.le m m':=by
  intro b off v h
  show (match m2 b off with | some c=>some c | none=>m b off)=some v
  cases hq:m2 b off with
  |none=>exact h
  |some c=>
   have k1:=ft.mem b off c hq
   have k2:=hC.mem b off v h
   rw[qA (ft.fr.block b (mI k2) fun ⟨nm,_,k3,e⟩=>by
    have :=hC.apart nm k3 off;rw[e,h]at this;cases this)]at k1
   have k3:World.cell? w ⟨b,off,none⟩=some c:=k1
   rw[k2]at k3;exact k3.symm
 have D7:Mem.le m2 m':=by
  intro b off v h
  show (match m2 b off with | some c=>some c | none=>m b off)=some v
  rw[h]
 have zU:∀ b off v,m' b off=some v->m2 b off=some v\/(m2 b off=none/\m b off=some v):=by
  intro b off v h
  have h':(match m2 b off with | some c=>some c | none=>m b off)=some v:=h
  cases hq:m2 b off with
  |none=>rw[hq]at h';exact .inr ⟨rfl,h'⟩
  |some c=>rw[hq]at h';exact .inl h'
 have EC:∀ x,dp L.length o.new x=true->(∃ (i:Nat) (hi:i<L.length),x=[i,1])\/(cJ x=false/\∃ y∈o.new,y.1=x):=by
  intro x hx
  unfold dp at hx
  split at hx
  ·rename_i i
   exact .inl ⟨i,by simpa using hx,rfl⟩
  ·obtain⟨y,hy,e⟩:=List.any_eq_true.1 hx
   simp only[beq_iff_eq]at e
   subst e
   exact .inr ⟨D1 y hy,y,hy,rfl⟩
 have uD:∀ (i:Nat) (hi:i<L.length),cout L t [i,1]=L[i]:=fun i hi=>kY hi
 have mm:∀ (i:Nat) (hi:i<L.length),σ2.obj [i,1]=some (eM o.upd i (cr L σ.obj L[i])):=fun i hi=>by
  have :=h1 i (by simpa using hi)
  simpa using this
 have DH:vh (cout L t) φ2 φ' σ2.obj obj' (dp L.length o.new):=by
  intro x q hd hq
  rcases EC x hd with⟨i,hi,rfl⟩ | ⟨hi,y,hy,rfl⟩
  ·rw[uD i hi,zN i hi,v7 i hi]
   rw[mm i hi]at hq;cases hq
   exact⟨_,rfl,.inl ⟨O.len_ren _ _,rfl,O.sz_ren _ _⟩⟩
  ·rw[u7 hi,DZ y hy,zr y hy]
   rw[h2 y hy]at hq;cases hq
   exact⟨_,rfl,.inl ⟨O.len_ren _ _,rfl,O.sz_ren _ _⟩⟩
 have Zb:∀ (i:Nat) (hi:i<L.length),O.clos (dp L.length o.new) (eM o.upd i (cr L σ.obj L[i]))=true:=by
  intro i hi
  refine Jy _ _ _ ?_ zA
  obtain⟨o',ho,hc⟩:=vx hL (List.getElem_mem hi)
  simp only[cr,ho]
  refine O.clos_ren (fun nm hd=>?_) o' hc
  obtain⟨k1,_⟩:=ub (iw.1 hd)
  show decide (idx L nm<L.length)=true
  simpa using k1
 have z7:Ext φ φ' σ.obj obj':=by
  intro nm q hq
  by_cases fg:nm∈L
  ·obtain⟨i,hi,rfl⟩:=List.getElem_of_mem fg
   obtain⟨CB,k1,k2⟩:=ft.kept.2 [i,1] (cr L σ.obj L[i]) (by
    show jH L σ.obj [i,1]=_
    show (if i<L.length then _ else _)=_
    rw[if_pos hi,kY hi])
   have Xt:CB=eM o.upd i (cr L σ.obj L[i]):=by rw[mm i hi]at k1;exact(Option.some.inj k1).symm
   subst Xt
   have XZ:lV L φ [i,1]=φ L[i]:=by show φ (L.getD i [])=_;rw[kY hi]
   have bS:(cr L σ.obj L[i]).len?=q.len?/\(cr L σ.obj L[i]).sz=q.sz:=by
    simp only[cr,hq];exact⟨O.len_ren _ _,O.sz_ren _ _⟩
   refine⟨_,zN i hi,?_⟩
   rw[O.len_ren,O.sz_ren,v7 i hi]
   rcases k2 with⟨a1,a2,a3⟩ | ⟨n,n',a1,a2,a3⟩
   ·exact .inl ⟨a1.trans bS.1,(a2:φ2 [i,1]=lV L φ [i,1]).trans XZ,a3.trans bS.2⟩
   ·exact .inr ⟨n,n',bS.1▸a1,a2,a3⟩
  ·have pX:∀ x∈o.new,nm≠x.1++t:=fun x hx e=>by rw[e,cp x hx]at hq;cases hq
   exact⟨q,by rw[DY nm fg pX];exact hq,.inl ⟨rfl,zq nm fg pX,rfl⟩⟩
 have uF:∀ nm,holds φ' obj' nm->(∃ x,holds φ2 σ2.obj x/\φ' nm=φ2 x/\nm=cout L t x/\dp L.length o.new x=true)\/(nm∉L/\(∀ x∈o.new,nm≠x.1++t)/\holds φ σ.obj nm/\φ' nm=φ nm):=by
  rintro nm ⟨q,k1,k2,k3⟩
  by_cases fg:nm∈L
  ·obtain⟨i,hi,rfl⟩:=List.getElem_of_mem fg
   left
   rw[zN i hi]at k1;cases k1
   rw[O.mut_ren]at k2
   rw[v7 i hi]at k3
   exact⟨[i,1],⟨_,mm i hi,k2,k3⟩,v7 i hi,(uD i hi).symm,by show decide (i<L.length)=true;simpa using hi⟩
  ·by_cases pX:∃ x∈o.new,nm=x.1++t
   ·obtain⟨x,hx,rfl⟩:=pX
    left
    rw[DZ x hx]at k1;cases k1
    rw[O.mut_ren]at k2
    rw[zr x hx]at k3
    refine⟨x.1,⟨_,h2 x hx,k2,k3⟩,zr x hx,(u7 (D1 x hx)).symm,?_⟩
    exact aaM (D1 x hx) hx
   ·have r5:∀ x∈o.new,nm≠x.1++t:=fun x hx e=>pX ⟨x,hx,e⟩
    right
    rw[DY nm fg r5]at k1
    rw[zq nm fg r5]at k3
    exact⟨fg,r5,⟨q,k1,k2,k3⟩,zq nm fg r5⟩
 have gi:∀ nm,nm∉L->holds φ σ.obj nm->(φ nm).blk<w.heap.size/\¬ nR L φ σ.obj (φ nm).blk:=by
  intro nm fg hh
  obtain⟨q,k1,k2,k3⟩:=hh
  refine⟨(hC.objs nm q k1).lt k2 k3,fun ⟨x,k4,k5,k6⟩=>?_⟩
  exact fg (hC.inj _ _ k5 ⟨q,k1,k2,k3⟩ k6▸k4)
 have agA:∀ x y,dp L.length o.new x=true->dp L.length o.new y=true->cout L t x=cout L t y->x=y:=by
  intro x y hx hy e
  rcases EC x hx with⟨i,hi,rfl⟩ | ⟨k1,x',a7,rfl⟩<;>rcases EC y hy with⟨j,hj,rfl⟩ | ⟨k2,y',X6,rfl⟩
  ·rw[uD i hi,uD j hj]at e
   rw[(List.getElem_inj hn).1 e]
  ·rw[uD i hi,u7 k2]at e
   exact(so _ (List.getElem_mem hi) y' X6 e).elim
  ·rw[uD j hj,u7 k1]at e
   exact(so _ (List.getElem_mem hj) x' a7 e.symm).elim
  ·rw[u7 k1,u7 k2]at e
   exact List.append_cancel_right e
 refine⟨φ',m',D8,?_,z7,fun d u hd hc=>hd.renx D7 DH hc⟩
 constructor
 ·exact fun x=>(hC.tmps x).ext D8 z7
 ·exact hC.size
 ·obtain⟨ds,k1,k2,k3⟩:=hC.defers
  refine⟨ds,k1,k2,fun D hD=>⟨(k3 D hD).1,?_⟩⟩
  have k4:=(k3 D hD).2
  rw[ft.fr.block D (Array.getElem?_eq_some_iff.1 k4).1 fun ⟨x,_,⟨q,k5,k6,k7⟩,k8⟩=>(hC.objs x q k5).notDef k6 k7 _ (by rw[k8];exact k4)]
  exact k4
 ·intro nm q hq
  by_cases fg:nm∈L
  ·obtain⟨i,hi,rfl⟩:=List.getElem_of_mem fg
   have cC:obj' L[i]=some q:=hq
   rw[zN i hi]at cC;cases cC
   rw[v7 i hi]
   exact(ft.objs _ _ (mm i hi)).ren D7 DH (Zb i hi) fun _ _=>rfl
  ·by_cases pX:∃ x∈o.new,nm=x.1++t
   ·obtain⟨x,hx,rfl⟩:=pX
    have cC:obj' (x.1++t)=some q:=hq
    rw[DZ x hx]at cC;cases cC
    rw[zr x hx]
    exact(ft.objs _ _ (h2 x hx)).ren D7 DH (D2 x hx) fun _ _=>rfl
   ·have r5:∀ x∈o.new,nm≠x.1++t:=fun x hx e=>pX ⟨x,hx,e⟩
    have cC:obj' nm=some q:=hq
    rw[DY nm fg r5]at cC
    rw[zq nm fg r5]
    refine(hC.objs nm q cC).ext D8 z7 fun k2 k3=>?_
    obtain⟨k4,k5⟩:=gi nm fg ⟨q,cC,k2,k3⟩
    exact ft.fr.block _ k4 k5
 ·intro b off v h
  rcases zU b off v h with h | ⟨D5,h⟩
  ·exact ft.mem b off v h
  ·have k2:=hC.mem b off v h
   rw[qA (ft.fr.block b (mI k2) fun ⟨nm,_,k3,e⟩=>by
    have :=hC.apart nm k3 off;rw[e,h]at this;cases this)]
   exact k2
 ·intro nm hh off
  rcases uF nm hh with⟨x,k1,k2,_,_⟩ | ⟨k1,k2,k3,k4⟩
  ·rw[k2]
   cases hq:m' (φ2 x).blk off with
   |none=>rfl
   |some v=>
    rcases zU _ _ _ hq with h | ⟨_,h⟩
    ·have:=ft.apart x k1 off;rw[h]at this;cases this
    ·rcases zH x k1 with h' | ⟨jI,k5,k6,k7⟩
     ·have:=mI (hC.mem _ _ _ h)
      have iV:w.heap.size<=(φ2 x).blk:=h'
      omega
     ·have:=hC.apart jI k6 off
      rw[k7,h]at this;cases this
  ·rw[k4]
   obtain⟨k5,k6⟩:=gi nm k1 k3
   cases hq:m' (φ nm).blk off with
   |none=>rfl
   |some v=>
    rcases zU _ _ _ hq with h | ⟨_,h⟩
    ·rcases ft.fresh _ _ _ h with h' | h' | h'
     ·have:=hC.apart nm k3 off
      have iV:m (φ nm).blk off=some v:=h'
      rw[iV]at this;cases this
     ·have iV:w.heap.size<=(φ nm).blk:=h'
      omega
     ·exact(k6 h').elim
    ·have:=hC.apart nm k3 off;rw[h]at this;cases this
 ·intro nm jI hh Y6 e
  rcases uF nm hh with⟨x,k1,k2,k3,k4⟩ | ⟨k1,k2,k3,k4⟩<;>rcases uF jI Y6 with⟨x',j1,j2,j3,j4⟩ | ⟨j1,j2,j3,j4⟩
  ·rw[k2,j2]at e
   rw[k3,j3,ft.inj _ _ k1 j1 e]
  ·exfalso
   rw[k2,j4]at e
   obtain⟨k5,k6⟩:=gi jI j1 j3
   rcases zH x k1 with h' | h'
   ·have iV:w.heap.size<=(φ2 x).blk:=h'
    omega
   ·rw[e]at h';exact k6 h'
  ·exfalso
   rw[k4,j2]at e
   obtain⟨k5,k6⟩:=gi nm k1 k3
   rcases zH x' j1 with h' | h'
   ·have iV:w.heap.size<=(φ2 x').blk:=h'
    omega
   ·rw[<-e]at h';exact k6 h'
  ·rw[k4,j4]at e
   exact hC.inj _ _ k3 j3 e
 ·intro nm hh
  rcases uF nm hh with⟨x,k1,k2,_,_⟩ | ⟨k1,k2,k3,k4⟩
  ·rw[k2]
   rcases zH x k1 with h' | ⟨jI,k5,k6,k7⟩
   ·exact .inl (Nat.le_trans hC.fr.size h')
   ·rw[<-k7];exact hC.own jI k6
  ·rw[k4];exact hC.own nm k3
 ·refine⟨ft.fr.os.trans hC.fr.os,ft.fr.tape.trans hC.fr.tape,ft.fr.output.trans hC.fr.output,Nat.le_trans hC.fr.size ft.fr.size,fun b hb ho=>?_⟩
  rw[ft.fr.block b (Nat.lt_of_lt_of_le hb hC.fr.size) fun ⟨nm,_,k3,e⟩=>?_]
  ·exact hC.fr.block b hb ho
  ·rcases hC.own nm k3 with h | h<;>rw[e]at h
   ·omega
   ·exact ho h
 ·intro b off v h
  rcases zU b off v h with h | ⟨_,h⟩
  ·rcases ft.fresh _ _ _ h with h' | h' | ⟨nm,_,k3,e⟩
   ·exact hC.fresh _ _ _ h'
   ·exact .inr (.inl (Nat.le_trans hC.fr.size h'))
   ·rw[<-e];exact .inr (hC.own nm k3)
  ·exact hC.fresh _ _ _ h
 ·exact⟨hC.kept.1,hC.kept.2.trans z7⟩
end
def fH:Nat->List D->List (Nat×E)
 |_,[]=>[]
 |k,x::r=>(k,⟨true,x⟩)::fH (k+1) r
theorem Po:∀ {k:Nat} {xs:List D} {t:Nat} {e:E},(t,e)∈fH k xs->∃ (i:Nat) (h:i<xs.length),t=k+i/\e=⟨true,xs[i]⟩
 |k,[],t,e,h=>by simp[fH]at h
 |k,x::r,t,e,h=>by
  simp only[fH,List.mem_cons,Prod.mk.injEq]at h
  rcases h with⟨rfl,rfl⟩ | h
  ·exact⟨0,by simp,rfl,rfl⟩
  ·obtain⟨i,hi,h1,h2⟩:=Po h
   exact⟨i+1,by simpa using hi,by omega,by simpa using h2⟩
structure CSpec where
 pre:List O->List D->Prop
 out:List O->List D->Out
def cv(obj:Name->Option O)(ds:List D):List O:=(reach obj ds).map (cr (reach obj ds) obj)
def cO(obj:Name->Option O)(ds:List D):List D:=D.renL (cin (reach obj ds)) ds
def CSpec.toSpec(s:CSpec):Spec where
 app obj t ds:=⟨(shut obj (reach obj ds)&&D.closL (cK (reach obj ds)) ds&&fresh obj t (s.out (cv obj ds) (cO obj ds)).new)=true/\s.pre (cv obj ds) (cO obj ds),
  (s.out (cv obj ds) (cO obj ds)).d.ren (cout (reach obj ds) t),dd (reach obj ds) t (s.out (cv obj ds) (cO obj ds)).new (cj (reach obj ds) t (s.out (cv obj ds) (cO obj ds)).upd obj)⟩
 foot obj t ds:=reach obj ds++((s.out (cv obj ds) (cO obj ds)).upd.map fun x=>(reach obj ds).getD x.1 [])++(s.out (cv obj ds) (cO obj ds)).new.map fun x=>x.1++t
 wrt obj t ds:=((s.out (cv obj ds) (cO obj ds)).upd.map fun x=>(reach obj ds).getD x.1 [])++(s.out (cv obj ds) (cO obj ds)).new.map fun x=>x.1++t
theorem tI{L:List Name}{t:Name}:∀ (l:List (Nat×O)) (obj obj2:Name->Option O) (nm:Name),cj L t l obj2 nm=if nm∈l.map (fun x=>L.getD x.1 [])then cj L t l obj nm else obj2 nm
 |[],obj,obj2,nm=>by simp[cj]
 |(i,o)::r,obj,obj2,nm=>by
  simp only[cj,List.map_cons,List.mem_cons]
  rw[tI r (upd obj (L.getD i []) (some (o.ren (cout L t)))) (upd obj2 (L.getD i []) (some (o.ren (cout L t)))) nm]
  by_cases h:nm∈r.map (fun x=>L.getD x.1 [])
  ·rw[if_pos h,if_pos (.inr h)]
  ·rw[if_neg h]
   by_cases e:nm=L.getD i []
   ·rw[if_pos (.inl e)]
    have hu:cj L t r (upd obj (L.getD i []) (some (o.ren (cout L t)))) nm=(upd obj (L.getD i []) (some (o.ren (cout L t)))) nm:=by
     rw[tI r obj _ nm,if_neg h]
    rw[hu,e,aG,aG]
   ·rw[if_neg (by simp only[not_or];exact⟨e,h⟩)]
    exact aK _ _ _ e
theorem rm{L:List Name}{t:Name}:∀ (l:List (Name×O)) (obj obj2:Name->Option O) (nm:Name),dd L t l obj2 nm=if nm∈l.map (fun x=>x.1++t)then dd L t l obj nm else obj2 nm
 |[],obj,obj2,nm=>by simp[dd]
 |(i,o)::r,obj,obj2,nm=>by
  simp only[dd,List.map_cons,List.mem_cons]
  rw[rm r (upd obj (i++t) (some (o.ren (cout L t)))) (upd obj2 (i++t) (some (o.ren (cout L t)))) nm]
  by_cases h:nm∈r.map (fun x=>x.1++t)
  ·rw[if_pos h,if_pos (.inr h)]
  ·rw[if_neg h]
   by_cases e:nm=i++t
   ·rw[if_pos (.inl e)]
    have hu:dd L t r (upd obj (i++t) (some (o.ren (cout L t)))) nm=(upd obj (i++t) (some (o.ren (cout L t)))) nm:=by
     rw[rm r obj _ nm,if_neg h]
    rw[hu,e,aG,aG]
   ·rw[if_neg (by simp only[not_or];exact⟨e,h⟩)]
    exact aK _ _ _ e
theorem n5{obj obj2:Name->Option O}{ds:List D}(h:bq (reach obj ds) obj obj2):reach obj2 ds=reach obj ds:=B8 _ _ _ h
theorem xv{obj obj2:Name->Option O}{ds:List D}(h:bq (reach obj ds) obj obj2):cv obj2 ds=cv obj ds:=by
 unfold cv
 rw[n5 h]
 exact List.map_congr_left fun nm hn=>by simp only[cr];rw[h nm hn]
theorem Gd{obj obj2:Name->Option O}{ds:List D}(h:bq (reach obj ds) obj obj2):cO obj2 ds=cO obj ds:=by
 unfold cO
 rw[n5 h]
theorem BU{obj obj2:Name->Option O}{L:List Name}(h:bq L obj obj2):shut obj2 L=shut obj L:=by
 unfold shut
 refine Bool.eq_iff_iff.2 ?_
 simp only[List.all_eq_true]
 exact⟨fun k x hx=>by rw[<-h x hx];exact k x hx,fun k x hx=>by rw[h x hx];exact k x hx⟩
theorem Aq{obj obj2:Name->Option O}{t:Name}{new:List (Name×O)}(h:bq (new.map fun x=>x.1++t) obj obj2):fresh obj2 t new=fresh obj t new:=by
 unfold fresh
 refine Bool.eq_iff_iff.2 ?_
 simp only[List.all_eq_true]
 exact⟨fun k x hx=>by rw[<-h _ (List.mem_map_of_mem hx)];exact k x hx,fun k x hx=>by rw[h _ (List.mem_map_of_mem hx)];exact k x hx⟩
theorem CT{ok ok2:Prop}{d:D}{obj obj2:Name->Option O}{L:List Name}{t:Name}{o:Out}(aa:ok2=ok)
 (ha:bq ((o.upd.map fun x=>L.getD x.1 [])++o.new.map fun x=>x.1++t) obj obj2):
 bD ⟨ok,d,dd L t o.new (cj L t o.upd obj)⟩ ⟨ok2,d,dd L t o.new (cj L t o.upd obj2)⟩ obj obj2 ((o.upd.map fun x=>L.getD x.1 [])++o.new.map fun x=>x.1++t):=by
 refine⟨aa,rfl,fun nm=>?_,fun nm hn=>?_⟩
 ·show dd L t o.new (cj L t o.upd obj2) nm=if nm∈_ then dd L t o.new (cj L t o.upd obj) nm else obj2 nm
  rw[rm o.new (cj L t o.upd obj) (cj L t o.upd obj2) nm]
  by_cases h1:nm∈o.new.map (fun x=>x.1++t)
  ·rw[if_pos h1,if_pos (List.mem_append_right _ h1)]
  ·rw[if_neg h1,tI o.upd obj obj2 nm]
   by_cases h2:nm∈o.upd.map (fun x=>L.getD x.1 [])
   ·rw[if_pos h2,if_pos (List.mem_append_left _ h2)]
    rw[rm o.new obj (cj L t o.upd obj) nm,if_neg h1]
   ·rw[if_neg h2,if_neg (by simp only[List.mem_append,not_or];exact⟨h2,h1⟩)]
 ·show dd L t o.new (cj L t o.upd obj) nm=obj nm
  simp only[List.mem_append,not_or]at hn
  rw[rm o.new obj (cj L t o.upd obj) nm,if_neg hn.2,tI o.upd obj obj nm,if_neg hn.1]
theorem CSpec.near(s:CSpec):s.toSpec.Near:=by
 have key:∀ {obj obj2:Name->Option O} {t:Name} {ds:List D},bq (s.toSpec.foot obj t ds) obj obj2->bq (reach obj ds) obj obj2/\
     bq (((s.out (cv obj ds) (cO obj ds)).upd.map fun x=>(reach obj ds).getD x.1 [])++(s.out (cv obj ds) (cO obj ds)).new.map fun x=>x.1++t) obj obj2:=by
  intro obj obj2 t ds h
  refine⟨fun nm hn=>h nm ?_,fun nm hn=>h nm ?_⟩
  ·exact List.mem_append_left _ (List.mem_append_left _ hn)
  ·rcases List.mem_append.1 hn with hn | hn
   ·exact List.mem_append_left _ (List.mem_append_right _ hn)
   ·exact List.mem_append_right _ hn
 refine⟨fun obj obj2 t ds h=>?_,fun obj obj2 t ds h=>?_,fun obj t ds nm hn=>?_,fun obj obj2 t ds h=>?_⟩
 ·obtain⟨h1,h2⟩:=key h
  simp only[CSpec.toSpec]
  rw[xv h1,Gd h1,n5 h1]
  refine CT ?_ h2
  rw[BU h1,Aq fun nm hn=>h2 nm (List.mem_append_right _ hn)]
 ·obtain⟨h1,h2⟩:=key h
  simp only[CSpec.toSpec]
  rw[xv h1,Gd h1,n5 h1]
 ·simp only[CSpec.toSpec]at hn |-
  rcases List.mem_append.1 hn with hn | hn
  ·exact List.mem_append_left _ (List.mem_append_right _ hn)
  ·exact List.mem_append_right _ hn
 ·obtain⟨h1,h2⟩:=key h
  simp only[CSpec.toSpec]
  rw[xv h1,Gd h1,n5 h1]
def rz(σ:S)(u:List (Nat×O)):Nat->List O->Prop
 |_,[]=>True
 |i,o::r=>σ.obj [i,1]=some (eM u i o)/\rz σ u (i+1) r
theorem I7{σ:S}{u:List (Nat×O)}:∀ {l:List O} {k:Nat},rz σ u k l->∀ i (h:i<l.length),σ.obj [k+i,1]=some (eM u (k+i) l[i])
 |o::r,k,h,0,_=>h.1
 |o::r,k,h,i+1,hi=>by
  have :=I7 h.2 i (by simpa using hi)
  rw[show k+(i+1)=k+1+i by omega]
  simpa using this
def vN(σ:S):List (Name×O)->Prop
 |[]=>True
 |x::r=>σ.obj x.1=some x.2/\vN σ r
theorem Jb{σ:S}:∀ {l:List (Name×O)},vN σ l->∀ x∈l,σ.obj x.1=some x.2
 |y::r,h,x,hx=>by
  rcases List.mem_cons.1 hx with rfl | hx
  ·exact h.1
  ·exact Jb h.2 x hx
def distinct:List Name->Bool
 |[]=>true
 |x::r=>(r.all fun y=>!(x==y))&&distinct r
theorem NM:∀ {l:List Name},distinct l=true->l.Nodup
 |[],_=>by simp
 |x::r,h=>by
  simp only[distinct,Bool.and_eq_true]at h
  refine List.nodup_cons.2 ⟨fun hx=>?_,NM h.2⟩
  have :=List.all_eq_true.1 h.1 x hx
  simp at this
def ie(os:List O)(o:Out)(σ:S):Prop:=
 rz σ o.upd 0 os/\vN σ o.new/\
  (D.clos (dp os.length o.new) o.d&&(o.upd.all fun x=>O.clos (dp os.length o.new) x.2&&decide (x.1<os.length))&&(o.new.all fun x=>O.clos (dp os.length o.new) x.2&&!cJ x.1)&&distinct (o.new.map (·.1)))=true
theorem NB{os:List O}{o:Out}{σ:S}(h:ie os o σ):Qn σ os o:=by
 obtain⟨h1,h2,h3⟩:=h
 simp only[Bool.and_eq_true]at h3
 exact⟨fun i hi=>by simpa using I7 h1 i hi,Jb h2,h3.1.1.1,h3.1.1.2,by simpa using h3.1.2,NM h3.2⟩
def vB(P:Program)(rs:List ResultVar)(os:List O)(o:Out):Exit->S->Prop
 | .normal,σ=>(bY P σ rs).ok/\(bY P σ rs).d=o.d/\ie os o σ
 | .ret,σ=>(bY P σ rs).ok/\(bY P σ rs).d=o.d/\ie os o σ
 |_,_=>False
def a8(os:List O):Name->Option O
 |[i,1]=>os[i]?
 |_=>none
theorem Uu{L:List Name}{obj:Name->Option O}{x:Name}(h:cJ x=false):jH L obj x=none:=by
 unfold jH
 split
 ·simp[cJ]at h
 ·rfl
theorem yG{os:List O}{x:Name}(h:cJ x=false):a8 os x=none:=by
 unfold a8
 split
 ·simp[cJ]at h
 ·rfl
theorem yO{L:List Name}{obj:Name->Option O}:jH L obj=a8 (L.map (cr L obj)):=by
 funext x
 cases hx:cJ x with
 |false=>rw[Uu hx,yG hx]
 |true=>
  obtain⟨i,rfl⟩:=vW.1 hx
  show (if i<L.length then some (cr L obj (L.getD i []))else none)=(L.map (cr L obj))[i]?
  by_cases hi:i<L.length
  ·rw[if_pos hi,List.getElem?_eq_getElem (by simpa using hi)]
   rw[kY hi,List.getElem_map]
  ·rw[if_neg hi,List.getElem?_eq_none (by simpa using hi)]
theorem CI{nt:Nat}{l:List (Nat×E)}{os:List O}:aW nt [0] (a8 os) l []=⟨nt,dh eAny l,a8 os,[0],0⟩:=by
 unfold aW
 congr 1
 funext nm
 split
 ·rename_i h
  have :cJ nm=false:=by
   cases hc:cJ nm with
   |false=>rfl
   |true=>
    obtain⟨i,rfl⟩:=vW.1 hc
    rw[II]at h;cases h
  unfold a8
  split
  ·simp[cJ]at this
  ·rfl
 ·rfl
theorem o6{P:Program}{f:FuncId}{fn:Func}{c:Code}{s:CSpec}{nt:Nat}{rs:List ResultVar}(hf:P.funcs[f]?=some fn)(hb:fn.body=some c)(ff:fn.ntmps=nt)(fJ:fn.results.toList=rs)
 (mn:∀ args w,(callFunc f args).run P w=.ok (.enter f args) w) (aj:f≠yid)
 (h:∀ os ds,s.pre os ds->ds.length<=nt/\CW P c (aW nt [0] (a8 os) (fH 0 ds) []) (vB P rs os (s.out os ds))):an P f s.toSpec:=by
 subst ff
 subst fJ
 refine⟨s.near,fun _=>mn,fun _ G φ m σ a w hC t ds us _ hl hr aa=>?_,fun e=>(aj e).elim⟩
 obtain⟨aa,cL⟩:=aa
 simp only[Bool.and_eq_true]at aa
 obtain⟨⟨gA,bS⟩,cp⟩:=aa
 obtain⟨hlen,mr⟩:=h _ _ cL
 have iT:(reach σ.obj ds).Nodup:=yn _ _ _ (by simp)
 simp only[cO,iu,List.length_map]at hlen
 refine(callsIn_wide (n:=0)).1 (callsIn_of_wp_marks hf hb trivial ?_)
 have dH:=M4 hC (L:=reach σ.obj ds) iT gA (rd:=none) (fun l h=>by cases h) (b0:=0) (nt:=fn.ntmps) (env:=dh eAny (fH 0 (cO σ.obj ds)))
  (tmps:=us++Array.replicate (fn.ntmps-us.size) undef) (by simp;omega) (fun t=>by
    rcases tQ (z:=eAny) (fH 0 (cO σ.obj ds)) t with h1 | h1
    ·rw[h1];unfold bT eAny;simp;exact .any _
    ·obtain⟨i,hi,h2,h3⟩:=Po h1
     rw[h3]
     unfold bT
     simp only[if_true]
     simp only[cO,iu,List.length_map]at hi
     have bA:i<us.size:=by omega
     have e:((us++Array.replicate (fn.ntmps-us.size) undef).getD t undef)=us[i]:=by
      have ak:0+i<(us++Array.replicate (fn.ntmps-us.size) undef).size:=by simp;omega
      rw[h2]
      simp only[Array.getD,ak,dite_true]
      show (us++Array.replicate (fn.ntmps-us.size) undef)[0+i]=us[i]
      simp only[Nat.zero_add]
      exact Array.getElem_append_left bA
     rw[e]
     simp only[cO,iu,List.getElem_map]
     exact(hr i hi bA).renx (Mem.le_refl m) ym (iJ hi bS))
 rw[CI]at mr
 rw[yO]at dH
 refine wpIn_mono (mr _ _ m _ w dH) ?_
 rintro e a1 w1 ⟨φ2,m2,σ2,fP,hK⟩
 have fin:(bY P σ2 fn.results.toList).ok/\(bY P σ2 fn.results.toList).d=(s.out (cv σ.obj ds) (cO σ.obj ds)).d/\ie (cv σ.obj ds) (s.out (cv σ.obj ds) (cO σ.obj ds)) σ2->
     LeavesInM Fence.wide 0 P fn a1.tmps (fun e w'=>∃ v φ' m',e=.returned v/\aD G φ' m' { σ with obj:=(s.toSpec.app σ.obj t ds).obj } a w'/\ar φ' (s.toSpec.app σ.obj t ds).obj m' (s.toSpec.app σ.obj t ds).d v/\Ext φ φ' σ.obj (s.toSpec.app σ.obj t ds).obj) a1.defers .returning w1:=by
  rintro⟨h1,h2,h3⟩
  refine CU a1.defers rfl fP fun a' w' _ bW=>?_
  obtain⟨v,h4,h5⟩:=HY bW fn h1
  rw[h2]at h5
  have hE:=NB h3
  obtain⟨φ',m',k1,k2,k3,k4⟩:=M3 hC iT gA bW hE cp
  have uE:=hE.cd
  simp only[cv,List.length_map]at uE
  exact⟨v,h4,v,φ',m',rfl,k2,k4 _ _ h5 uE,k3⟩
 cases e with
 |normal=>exact fin hK
 |ret=>exact fin hK
 |_=>exact hK.elim
theorem bD.more{ok ok2:Prop}{d d2:D}{o1 o2 obj obj2:Name->Option O}{wr:List Name}(nm:Name)(x:Option O)(h:bD ⟨ok,d,o1⟩ ⟨ok2,d2,o2⟩ obj obj2 wr):
 bD ⟨ok,d,upd o1 nm x⟩ ⟨ok2,d2,upd o2 nm x⟩ obj obj2 (nm::wr):=by
 refine⟨h.ok,h.d,fun y=>?_,fun y hy=>?_⟩
 ·show upd o2 nm x y=if y∈nm::wr then upd o1 nm x y else obj2 y
  by_cases e:y=nm
  ·subst e;rw[aG,if_pos (by simp),aG]
  ·rw[aK _ _ _ e,aK _ _ _ e]
   have :=h.eff y
   simp only at this
   rw[this]
   by_cases hy:y∈wr
   ·rw[if_pos hy,if_pos (List.mem_cons_of_mem _ hy)]
   ·rw[if_neg hy,if_neg (by simp[e,hy])]
 ·simp only[List.mem_cons,not_or]at hy
  show upd o1 nm x y=obj y
  rw[aK _ _ _ hy.1]
  exact h.frame y hy.2
structure YSpec where
 pre:List E->List Nat->Code->Code->List O->List D->Prop
 out:List E->List Nat->Code->Code->List O->List D->Out×Option Code
def roots(env:List E)(ds:List D):List D:=env.map (·.d)++ds
def iM(obj:Name->Option O)(env:List E)(ds:List D):List E:=env.map (E.ren (cin (reach obj (roots env ds))))
def jx(obj:Name->Option O)(env:List E)(ds:List D):List D:=D.renL (cin (reach obj (roots env ds))) ds
def YSpec.o(y:YSpec)(obj:Name->Option O)(env:List E)(ps:List Nat)(asg body:Code)(ds:List D):Out×Option Code:=
 y.out (iM obj env ds) ps asg body (cv obj (roots env ds)) (jx obj env ds)
def YSpec.toSpec(y:YSpec):Spec where
 app obj t args:=match args with
  | .yld nm::ds=>match obj nm with
    |some (.loop env ps asg body .ready none)=>
     ⟨(shut obj (reach obj (roots env ds))&&D.closL (cK (reach obj (roots env ds))) (roots env ds)&&fresh obj t (y.o obj env ps asg body ds).1.new&&!cK (reach obj (roots env ds)) nm&&
         decide (ds.length=ps.length)&&(ps.all fun p=>decide (p<env.length)))=true/\y.pre (iM obj env ds) ps asg body (cv obj (roots env ds)) (jx obj env ds),
       .v (.bool (y.o obj env ps asg body ds).2.isNone),
       upd (dd (reach obj (roots env ds)) t (y.o obj env ps asg body ds).1.new (cj (reach obj (roots env ds)) t (y.o obj env ps asg body ds).1.upd obj)) nm
        (some (.loop env ps asg body (if (y.o obj env ps asg body ds).2.isNone then .ready else .done) (y.o obj env ps asg body ds).2))⟩
    |_=>.bad obj
  |_=>.bad obj
 foot obj t args:=match args with
  | .yld nm::ds=>nm::(match obj nm with
    |some (.loop env ps asg body .ready none)=>reach obj (roots env ds)++((y.o obj env ps asg body ds).1.upd.map fun x=>(reach obj (roots env ds)).getD x.1 [])++(y.o obj env ps asg body ds).1.new.map fun x=>x.1++t
    |_=>[])
  |_=>[]
 wrt obj t args:=match args with
  | .yld nm::ds=>nm::(match obj nm with
    |some (.loop env ps asg body .ready none)=>((y.o obj env ps asg body ds).1.upd.map fun x=>(reach obj (roots env ds)).getD x.1 [])++(y.o obj env ps asg body ds).1.new.map fun x=>x.1++t
    |_=>[])
  |_=>[]
theorem YSpec.near(y:YSpec):y.toSpec.Near:=by
 have Cz:∀ {obj obj2:Name->Option O} {env:List E} {ps:List Nat} {asg body:Code} {ds:List D},bq (reach obj (roots env ds)) obj obj2->
     y.o obj2 env ps asg body ds=y.o obj env ps asg body ds/\iM obj2 env ds=iM obj env ds/\jx obj2 env ds=jx obj env ds:=by
  intro obj obj2 env ps asg body ds h
  unfold YSpec.o iM jx
  rw[xv h,n5 h]
  exact⟨rfl,rfl,rfl⟩
 have split:∀ {A B C:List Name} {obj obj2:Name->Option O} {nm:Name},bq (nm::(A++B++C)) obj obj2->bq A obj obj2/\bq (B++C) obj obj2:=by
  intro A B C obj obj2 nm h
  refine⟨fun x hx=>h x ?_,fun x hx=>h x ?_⟩
  ·exact List.mem_cons_of_mem _ (List.mem_append_left _ (List.mem_append_left _ hx))
  ·rcases List.mem_append.1 hx with hx | hx
   ·exact List.mem_cons_of_mem _ (List.mem_append_left _ (List.mem_append_right _ hx))
   ·exact List.mem_cons_of_mem _ (List.mem_append_right _ hx)
 have AS:∀ (args:List D),(∃ nm ds,args=.yld nm::ds)\/(∀ obj t,y.toSpec.app obj t args=.bad obj/\y.toSpec.foot obj t args=[]/\y.toSpec.wrt obj t args=[]):=by
  intro args
  rcases args with _ | ⟨d,ds⟩
  ·exact .inr fun _ _=>⟨rfl,rfl,rfl⟩
  ·cases d with
   |yld nm=>exact .inl ⟨nm,ds,rfl⟩
   |_=>exact .inr fun _ _=>⟨rfl,rfl,rfl⟩
 refine⟨fun obj obj2 t args h=>?_,fun obj obj2 t args h=>?_,fun obj t args jI hn=>?_,fun obj obj2 t args h=>?_⟩
 ·rcases AS args with⟨nm,ds,rfl⟩ | hb
  ·simp only[YSpec.toSpec]at h |-
   have h0:obj2 nm=obj nm:=h nm (by simp)
   rw[h0]
   split
   ·rename_i env ps asg body ho
    simp only[ho]at h
    obtain⟨h1,h2⟩:=split h
    obtain⟨e1,e2,e3⟩:=Cz (ps:=ps) (asg:=asg) (body:=body) h1
    rw[e1,e2,e3,xv h1,n5 h1]
    refine bD.more nm _ (CT ?_ h2)
    rw[BU h1,Aq fun nm hn=>h2 nm (List.mem_append_right _ hn)]
   ·exact .none _ fun x hx=>by simp only[List.mem_singleton]at hx;subst hx;exact h0
  ·rw[(hb obj t).1,(hb obj2 t).1,(hb obj t).2.2]
   exact .same rfl rfl rfl rfl
 ·rcases AS args with⟨nm,ds,rfl⟩ | hb
  ·simp only[YSpec.toSpec]at h |-
   have h0:obj2 nm=obj nm:=h nm (by simp)
   rw[h0]
   split
   ·rename_i env ps asg body ho
    simp only[ho]at h
    obtain⟨h1,h2⟩:=split h
    obtain⟨e1,e2,e3⟩:=Cz (ps:=ps) (asg:=asg) (body:=body) h1
    rw[e1,n5 h1]
   ·rfl
  ·rw[(hb obj t).2.1,(hb obj2 t).2.1]
 ·rcases AS args with⟨nm,ds,rfl⟩ | hb
  ·simp only[YSpec.toSpec]at hn |-
   rcases List.mem_cons.1 hn with rfl | hn
   ·simp
   ·refine List.mem_cons_of_mem _ ?_
    split at hn
    ·rename_i env ps asg body ho
     try simp only[ho]
     rcases List.mem_append.1 hn with hn | hn
     ·exact List.mem_append_left _ (List.mem_append_right _ hn)
     ·exact List.mem_append_right _ hn
    ·cases hn
  ·rw[(hb obj t).2.2]at hn;cases hn
 ·rcases AS args with⟨nm,ds,rfl⟩ | hb
  ·simp only[YSpec.toSpec]at h |-
   have h0:obj2 nm=obj nm:=h nm (by simp)
   rw[h0]
   split
   ·rename_i env ps asg body ho
    simp only[ho]at h
    obtain⟨h1,h2⟩:=split h
    obtain⟨e1,e2,e3⟩:=Cz (ps:=ps) (asg:=asg) (body:=body) h1
    rw[e1,n5 h1]
   ·rfl
  ·rw[(hb obj t).2.2,(hb obj2 t).2.2]
def sE(env:List E):Nat->E:=fun t=>env.getD t eAny
def setP:(Nat->E)->List Nat->List D->(Nat->E)
 |f,p::ps,d::ds=>setP (upd f p ⟨true,d⟩) ps ds
 |f,_,_=>f
def IS(k:S->Prop):Exit->S->Prop
 | .normal,σ=>k σ
 |_,_=>False
def TA(os:List O)(o:Out×Option Code):Exit->S->Prop
 | .normal,σ=>o.2=none/\ie os o.1 σ
 | .ret,σ=>o.2=some .ret/\ie os o.1 σ
 | .exit id,σ=>o.2=some (.exit id)/\ie os o.1 σ
 |_,_=>False
theorem HE{φ:Name->Loc}{obj:Name->Option O}{m:Mem}{n:Nat}:∀ (ps:List Nat) (ds:List D) (us:List Value) (f:Nat->E) (tmps:Array Value),tmps.size=n->ps.length=ds.length->ds.length=us.length->
 (∀ p∈ps,p<n)->(∀ t,bT φ obj m (f t) (tmps.getD t undef))->(∀ i (h:i<ds.length) (h':i<us.length),ar φ obj m ds[i] us[i])->
 (∀ t,bT φ obj m (setP f ps ds t) (((ps.zip us).foldl (fun tmps (p:Nat×Value)=>tmps.setIfInBounds p.1 p.2) tmps).getD t undef))/\((ps.zip us).foldl (fun tmps (p:Nat×Value)=>tmps.setIfInBounds p.1 p.2) tmps).size=n
 |[],ds,us,f,tmps,hs,h1,h2,hp,hf,hr=>by
  have :ds=[]:=List.eq_nil_of_length_eq_zero (by simpa using h1.symm)
  subst this
  exact⟨hf,hs⟩
 |p::ps,[],us,f,tmps,hs,h1,h2,hp,hf,hr=>by simp at h1
 |p::ps,d::ds,[],f,tmps,hs,h1,h2,hp,hf,hr=>by simp at h2
 |p::ps,d::ds,u::us,f,tmps,hs,h1,h2,hp,hf,hr=>by
  simp only[List.zip_cons_cons,List.foldl_cons,setP]
  refine HE ps ds us _ _ (by simpa using hs) (by simpa using h1) (by simpa using h2) (fun q hq=>hp q (by simp[hq])) (fun t=>?_) fun i a b=>by
   have :=hr (i+1) (by simpa using a) (by simpa using b)
   simpa using this
  have ae:p<tmps.size:=by rw[hs];exact hp p (by simp)
  by_cases ht:t=p
  ·subst ht
   rw[aG]
   have e:(tmps.setIfInBounds t u).getD t undef=u:=by simp[Array.getD,ae]
   rw[e]
   unfold bT
   simp only[if_true]
   exact hr 0 (by simp) (by simp)
  ·rw[aK _ _ _ ht]
   have e:(tmps.setIfInBounds p u).getD t undef=tmps.getD t undef:=by
    simp only[Array.getD_eq_getD_getElem?]
    rw[Array.getElem?_setIfInBounds_ne (fun h=>ht h.symm)]
   rw[e];exact hf t
theorem BD{wa wb:World}{L:List Name}{φ:Name->Loc}{obj:Name->Option O}{l:Nat}(ht:vg wa L φ obj)(h:∃ r,wa.heap[l]?=some (.loop r))(hb:∀ b,b≠l->wb.heap[b]?=wa.heap[b]?):vg wb L φ obj:=by
 refine⟨fun q hq=>?_,ht.2⟩
 obtain⟨T,f,e⟩:=ht.1 q hq
 obtain⟨r,hr⟩:=h
 rw[hb q.1 (fun e'=>by rw[e',hr]at e;cases e)]
 exact⟨T,f,e⟩
theorem N9{wa wb:World}{m:Mem}{L:List Name}{φ:Name->Loc}{obj:Name->Option O}{l:Nat}{h h' ht ht'}{φ1:Name->Loc}{m1:Mem}{σ1:S}{a1:Act}{w1 w2:World}
 (hC:aD (sw wa m L φ obj (some l) h ht) φ1 m1 σ1 a1 w1) (bh:wb.heap.size=wa.heap.size/\w2.heap.size=w1.heap.size) (ho:wb.os=w2.os/\wb.tape=w2.tape/\wb.output=w2.output)
 (hb:∀ b,b≠l->wb.heap[b]?=wa.heap[b]?) (h2:∀ b,b≠l->w2.heap[b]?=w1.heap[b]?) (hl:wb.heap[l]?=w2.heap[l]?):aD (sw wb m L φ obj (some l) h' ht') φ1 m1 σ1 a1 w2:=by
 obtain⟨LY,r,hr⟩:=h l rfl
 have ae:l<wa.heap.size:=(Array.getElem?_eq_some_iff.1 hr).1
 have bV:w1.heap[l]?=some (.loop r):=(hC.fr.block l ae LY).trans hr
 constructor
 ·exact hC.tmps
 ·exact hC.size
 ·obtain⟨ds,k1,k2,k3⟩:=hC.defers
  refine⟨ds,k1,k2,fun D hD=>?_⟩
  obtain⟨k4,k5⟩:=k3 D hD
  have aj:D≠l:=fun e=>by subst e;rw[bV]at k5;cases k5
  exact⟨by show wb.heap.size<=D;rw[bh.1];exact k4,(h2 D aj).trans k5⟩
 ·intro nm o eE
  refine(hC.objs nm o eE).ext (Mem.le_refl _) (Ext.refl _ _) fun k1 k2=>h2 _ fun e=>?_
  rcases hC.own nm ⟨o,eE,k1,k2⟩with h3 | h3
  ·have h4:wa.heap.size<=(φ1 nm).blk:=h3
   omega
  ·rw[e]at h3;exact LY h3
 ·intro b off v hv
  have h3:=hC.mem b off v hv
  rw[qA (h2 b (fun e=>by subst e;unfold World.cell? at h3;simp[bV]at h3))]
  exact h3
 ·exact hC.apart
 ·exact hC.inj
 ·intro nm hh
  rcases hC.own nm hh with h3 | h3
  ·exact .inl (by show wb.heap.size<=_;rw[bh.1];exact h3)
  ·exact .inr h3
 ·refine⟨ho.1.symm,ho.2.1.symm,ho.2.2.symm,by show wb.heap.size<=_;rw[bh.1,bh.2];exact hC.fr.size,fun b h3 h4=>?_⟩
  show w2.heap[b]?=wb.heap[b]?
  by_cases e:b=l
  ·subst e;exact hl.symm
  ·rw[h2 b e,hb b e]
   exact hC.fr.block b (by have:b<wb.heap.size:=h3;show b<wa.heap.size;omega) h4
 ·intro b off v hv
  rcases hC.fresh b off v hv with h3 | h3 | h3
  ·exact .inl h3
  ·exact .inr (.inl (by show wb.heap.size<=_;rw[bh.1];exact h3))
  ·exact .inr (.inr h3)
 ·exact hC.kept
theorem Oq{L:List Name}{obj:Name->Option O}{nm:Name}{x:Option O}(h:nm∉L){y:Name}(hy:y∈L):cr L (upd obj nm x) y=cr L obj y:=by
 unfold cr
 rw[aK _ _ _ (by rintro rfl;exact h hy)]
theorem Ut{L:List Name}{obj:Name->Option O}{nm:Name}{x:Option O}(h:nm∉L):jH L (upd obj nm x)=jH L obj:=by
 rw[yO,yO]
 congr 1
 exact List.map_congr_left fun y hy=>Oq h hy
theorem EB{L:List Name}{φ:Name->Loc}{obj:Name->Option O}{nm:Name}{x:Option O}(h:nm∉L):nR L φ (upd obj nm x)=nR L φ obj:=by
 funext b
 refine propext ⟨fun ⟨y,h1,⟨o,h2,h3⟩,h4⟩=>?_,fun ⟨y,h1,⟨o,h2,h3⟩,h4⟩=>?_⟩
 ·rw[aK _ _ _ (by rintro rfl;exact h h1)]at h2
  exact⟨y,h1,⟨o,h2,h3⟩,h4⟩
 ·exact⟨y,h1,⟨o,by rw[aK _ _ _ (by rintro rfl;exact h h1)];exact h2,h3⟩,h4⟩
theorem aaq{w:World}{m:Mem}{L:List Name}{φ:Name->Loc}{obj:Name->Option O}{nm:Name}{x:Option O}{rd:Option Nat}(h:nm∉L){h1}{h2}{t1}{t2}:sw w m L φ (upd obj nm x) rd h1 t1=sw w m L φ obj rd h2 t2:=by
 unfold sw
 simp only[Ut h,EB h]
theorem GQ{P:Program}{y:YSpec}(h:∀ env ps asg body os ds,y.pre env ps asg body os ds->ds.length=ps.length->
 CW P asg ⟨env.length,setP (sE env) ps ds,a8 os,[0],0⟩ (IS fun σ1=>CW P body σ1 (TA os (y.out env ps asg body os ds)))):an P yid y.toSpec:=by
 refine⟨y.near,fun e=>(e rfl).elim,fun e=>(e rfl).elim,fun _ G φ m σ a w hC t nm ds us _ hl hr _ aa o Zg=>?_⟩
 simp only[YSpec.toSpec]at aa |-
 split at aa
 case h_2=>exact aa.elim
 rename_i env ps asg body al
 try simp only[al]
 obtain⟨aa,cL⟩:=aa
 simp only[Bool.and_eq_true,Bool.not_eq_true',decide_eq_true_eq]at aa
 obtain⟨⟨⟨⟨⟨gA,bS⟩,cp⟩,L0⟩,hlen⟩,gB⟩:=aa
 have fg:nm∉reach σ.obj (roots env ds):=fun h=>by rw[iw.2 h]at L0;cases L0
 have iT:(reach σ.obj (roots env ds)).Nodup:=yn _ _ _ (by simp)
 obtain⟨_,cR,r,bV,dG,hr3,DK,LL,LK,LJ,LH⟩:=hC.objs nm _ al
 have ae:(φ nm).blk<w.heap.size:=(Array.getElem?_eq_some_iff.1 bV).1
 have sf:¬ nR (reach σ.obj (roots env ds)) φ σ.obj (φ nm).blk:=fun ⟨x,k1,k2,k3⟩=>fg (hC.inj _ _ k2 ⟨_,al,rfl,cR⟩ k3▸k1)
 have bG:r.params.size=ps.length:=by rw[<-DK];simp
 intro next Q r3
 rw[Zg,run_yield bV (by omega),Oper.uponIn_round]
 refine⟨fun h=>(by simp[fG,Fence.wide]at h),?_⟩
 rw[LL,LK]
 refine roundIn_of_wpIn trivial ?_
 have agB:=bS
 have Zu:∀ i (h:i<env.length),D.clos (cK (reach σ.obj (roots env ds))) env[i].d=true:=fun i hi=>by
  have :=iJ (l:=roots env ds) (i:=i) (by simp[roots];omega) bS
  simp only[roots]at this |-
  rw[List.getElem_append_left (by simpa using hi)]at this
  simpa using this
 have ED:∀ i (h:i<ds.length),D.clos (cK (reach σ.obj (roots env ds))) ds[i]=true:=fun i hi=>by
  have :=iJ (l:=roots env ds) (i:=env.length+i) (by simp[roots];omega) bS
  simp only[roots]at this |-
  rw[List.getElem_append_right (by simp)]at this
  simpa using this
 obtain⟨q1,q2⟩:=HE (φ:=lV (reach σ.obj (roots env ds)) φ) (obj:=jH (reach σ.obj (roots env ds)) σ.obj) (m:=m) (n:=env.length) ps (jx σ.obj env ds) us.toList (sE (iM σ.obj env ds)) r.tmps LJ
  (by simp[jx,iu];omega) (by simp[jx,iu];omega) (fun p hp=>by have:=List.all_eq_true.1 gB p hp;simpa using this)
  (fun t=>by
    unfold sE
    by_cases ht:t<env.length
    ·have:=(LH t ht).renx (Mem.le_refl m) ym (Zu t ht)
     have e:(iM σ.obj env ds).getD t eAny=E.ren (cin (reach σ.obj (roots env ds))) env[t]:=by
      rw[List.getD_eq_getElem?_getD,List.getElem?_eq_getElem (by simpa[iM]using ht)];simp[iM]
     rw[e];exact this
    ·have e:(iM σ.obj env ds).getD t eAny=eAny:=by
       rw[List.getD_eq_getElem?_getD,List.getElem?_eq_none (by simp[iM];omega)];rfl
     rw[e];unfold bT eAny;simp;exact .any _)
  (fun i a b=>by
    simp only[jx,iu,List.length_map]at a
    have :=(hr i a (by simpa using b)).renx (Mem.le_refl m) ym (ED i a)
    simpa[jx,iu]using this)
 have dH:=M4 hC (L:=reach σ.obj (roots env ds)) iT gA (rd:=some (φ nm).blk) (fun l e=>by cases e;exact⟨sf,r,bV⟩) (b0:=0) (nt:=env.length) q2 q1
 have mr:=h _ _ _ _ _ _ cL (by simp[jx,iu];omega)
 have Za:(r.params.zip us).foldl (fun tmps (p:Nat×Value)=>tmps.setIfInBounds p.1 p.2) r.tmps=(ps.zip us.toList).foldl (fun tmps (p:Nat×Value)=>tmps.setIfInBounds p.1 p.2) r.tmps:=by
  rw[<-DK,<-Array.toList_zip,Array.foldl_toList]
 have jn:(iM σ.obj env ds).length=env.length:=by simp[iM]
 rw[jn]at mr
 rw[yO]at dH
 have Y':(r.params.zip us).foldl (fun tmps (x:Tmp×Value)=>match x with | (t,a)=>tmps.setIfInBounds t a) r.tmps=(ps.zip us.toList).foldl (fun tmps (p:Nat×Value)=>tmps.setIfInBounds p.1 p.2) r.tmps:=Za
 rw[Y']
 refine wpIn_mono (mr _ _ m _ w dH) ?_
 rintro e a1 w1 ⟨φ1,m1,σ1,fP,hK⟩
 cases e with
 |normal=>
  have LM:w1.heap[(φ nm).blk]?=some (.loop r):=(fP.fr.block _ ae sf).trans bV
  have bJ:=(Array.getElem?_eq_some_iff.1 LM).1
  refine⟨_,run_beginRound LM dG,?_⟩
  have fL:w1.os=w.os/\w1.tape=w.tape/\w1.output=w.output:=⟨fP.fr.os,fP.fr.tape,fP.fr.output⟩
  have ft:=N9 (wb:=w.putObj (φ nm).blk (.loop { r with state:=.busy })) (w2:=w1.putObj (φ nm).blk (.loop { r with state:=.busy }))
   (h':=fun l e=>by cases e;exact⟨sf,_,World.putObj_heap_same ae⟩) (ht':=BD (xY hC _) ⟨r,bV⟩ fun b hb=>World.putObj_heap_other hb) fP ⟨by simp,by simp⟩ ⟨fL.1.symm,fL.2.1.symm,fL.2.2.symm⟩
   (fun b hb=>World.putObj_heap_other hb) (fun b hb=>World.putObj_heap_other hb) (by rw[World.putObj_heap_same ae,World.putObj_heap_same bJ])
  refine wpIn_mono (hK _ _ m1 _ _ ft) ?_
  rintro e a3 w3 ⟨φ3,m3,σ3,sr,oW⟩
  have DL:w3.heap[(φ nm).blk]?=some (.loop { r with state:=.busy }):=(sr.fr.block _ (by show _<(w.putObj _ _).heap.size;simpa using ae) sf).trans (World.putObj_heap_same ae)
  have jl:=(Array.getElem?_eq_some_iff.1 DL).1
  have fin:∀ bm:Option Code,(y.o σ.obj env ps asg body ds).2=bm->ie (cv σ.obj (roots env ds)) (y.o σ.obj env ps asg body ds).1 σ3->
      ∃ v w',(Instr.endRound (φ nm).blk bm).run P w3=.ok v w'/\next (a.put o.dst v) w':=by
   intro bm he hE
   refine⟨_,_,run_endRound bm DL,?_⟩
   generalize Yt:({ r with state:=.busy }:Loop)=rb at DL |-
   let rf:Loop:={ r with state:=if bm.isNone then .ready else .done,pending:=bm }
   have Ys:({ rb with state:=if bm.isNone then .ready else .done,pending:=bm }:Loop)=rf:=by rw[<-Yt]
   rw[Ys]
   have MQ:=N9 (wb:=w.putObj (φ nm).blk (.loop rf)) (w2:=w3.putObj (φ nm).blk (.loop rf))
    (h':=fun l e=>by cases e;exact⟨sf,_,World.putObj_heap_same ae⟩) (ht':=BD (xY hC _) ⟨r,bV⟩ fun b hb=>World.putObj_heap_other hb) sr ⟨by simp,by simp⟩
    ⟨(show (w.putObj (φ nm).blk (.loop rf)).os=(w3.putObj (φ nm).blk (.loop rf)).os from sr.fr.os.symm),(show (w.putObj (φ nm).blk (.loop rf)).tape=(w3.putObj (φ nm).blk (.loop rf)).tape from sr.fr.tape.symm),(show (w.putObj (φ nm).blk (.loop rf)).output=(w3.putObj (φ nm).blk (.loop rf)).output from sr.fr.output.symm)⟩
    (fun b hb=>by rw[World.putObj_heap_other hb,World.putObj_heap_other hb]) (fun b hb=>World.putObj_heap_other hb) (by rw[World.putObj_heap_same ae,World.putObj_heap_same jl])
   have bW:aD G φ m { σ with obj:=upd σ.obj nm (some (.loop env ps asg body (if bm.isNone then .ready else .done) bm)) } a (w.putObj (φ nm).blk (.loop rf)):=by
    have :=hC.chg (w':=w.putObj (φ nm).blk (.loop rf)) nm (.loop env ps asg body (if bm.isNone then .ready else .done) bm) (φ nm) (Ext.same al rfl rfl) ⟨rfl,rfl,rfl,by simp⟩
     (fun b _ hb=>World.putObj_heap_other (by rcases hb with h | h; · rw[cR]at h;cases h
                                              ·exact h))
     (fun _=>.inr ⟨⟨_,al,rfl,cR⟩,rfl⟩) (by
       rw[fa]
       refine⟨by assumption,cR,rf,World.putObj_heap_same ae,rfl,rfl,DK,LL,LK,LJ,fun i hi=>(LH i hi).ext (Mem.le_refl m) ?_⟩
       have :=Ext.same (φ:=φ) (o':=.loop env ps asg body (if bm.isNone then .ready else .done) bm) al rfl rfl
       rwa [fa]at this)
    rwa [fa]at this
   have Z7:shut (upd σ.obj nm (some (.loop env ps asg body (if bm.isNone then .ready else .done) bm))) (reach σ.obj (roots env ds))=true:=by
    rw[BU (obj:=σ.obj) fun x hx=>aK _ _ _ (by rintro rfl;exact fg hx)];exact gA
   have Ae:(reach σ.obj (roots env ds)).map (cr (reach σ.obj (roots env ds)) (upd σ.obj nm (some (.loop env ps asg body (if bm.isNone then .ready else .done) bm))))=cv σ.obj (roots env ds):=
    List.map_congr_left fun x hx=>Oq fg hx
   have ET:=NB hE
   rw[<-Ae]at ET
   have zR:∀ x∈(y.o σ.obj env ps asg body ds).1.new,nm≠x.1++t:=fun x hx e=>by
    have :=List.all_eq_true.1 cp x hx
    rw[<-e,al]at this;cases this
   have Y9:fresh (upd σ.obj nm (some (.loop env ps asg body (if bm.isNone then .ready else .done) bm))) t (y.o σ.obj env ps asg body ds).1.new=true:=by
    rw[Aq (obj:=σ.obj) fun x hx=>by
     obtain⟨z,hz,rfl⟩:=List.mem_map.1 hx
     exact aK _ _ _ (zR z hz).symm]
    exact cp
   rw[<-aaq (x:=some (.loop env ps asg body (if bm.isNone then .ready else .done) bm)) fg (h1:=fun l e=>by
    cases e;rw[EB fg];exact⟨sf,_,World.putObj_heap_same ae⟩) (t1:=by unfold vg;rw[EB fg];exact BD (xY hC _) ⟨r,bV⟩ fun b hb=>World.putObj_heap_other hb)]at MQ
   obtain⟨φ',m',k1,k2,k3,k4⟩:=M3 bW iT Z7 MQ ET Y9
   refine r3 _ φ' m' _ ?_ (.v _ _ ?_)
   ·have:(dd (reach σ.obj (roots env ds)) t (y.o σ.obj env ps asg body ds).1.new (cj (reach σ.obj (roots env ds)) t (y.o σ.obj env ps asg body ds).1.upd (upd σ.obj nm (some (.loop env ps asg body (if bm.isNone then .ready else .done) bm)))))=
      upd (dd (reach σ.obj (roots env ds)) t (y.o σ.obj env ps asg body ds).1.new (cj (reach σ.obj (roots env ds)) t (y.o σ.obj env ps asg body ds).1.upd σ.obj)) nm (some (.loop env ps asg body (if bm.isNone then .ready else .done) bm)):=by
      funext x
      have hu:((y.o σ.obj env ps asg body ds).1.upd.all fun x=>decide (x.1<(reach σ.obj (roots env ds)).length))=true:=List.all_eq_true.2 fun z hz=>by
       have :=List.all_eq_true.1 ET.cu z hz
       simp only[Bool.and_eq_true,List.length_map]at this;exact this.2
      by_cases e:x=nm
      ·subst e
       rw[aG,vE _ _ zR,Ce _ _ hu fg,aG]
      ·rw[aK _ _ _ e]
       rw[rm (y.o σ.obj env ps asg body ds).1.new σ.obj (cj _ _ _ (upd _ _ _)) x,rm (y.o σ.obj env ps asg body ds).1.new σ.obj (cj _ _ _ σ.obj) x]
       by_cases h1:x∈(y.o σ.obj env ps asg body ds).1.new.map (fun x=>x.1++t)
       ·rw[if_pos h1,if_pos h1]
       ·rw[if_neg h1,if_neg h1]
        rw[tI (y.o σ.obj env ps asg body ds).1.upd σ.obj (upd _ _ _) x,tI (y.o σ.obj env ps asg body ds).1.upd σ.obj σ.obj x]
        by_cases h2:x∈(y.o σ.obj env ps asg body ds).1.upd.map (fun x=>(reach σ.obj (roots env ds)).getD x.1 [])
        ·rw[if_pos h2,if_pos h2]
        ·rw[if_neg h2,if_neg h2];exact aK _ _ _ e
    rw[this]at k2
    rw[he]
    exact k2
   ·rw[he];exact .bool _
  cases e with
  |normal=>exact fin none oW.1 oW.2
  |ret=>exact fin (some .ret) oW.1 oW.2
  |exit id=>exact fin (some (.exit id)) oW.1 oW.2
  |goto l=>exact oW.elim
  |panic ch=>exact oW.elim
  |outgrown=>exact oW.elim
 |ret=>exact hK.elim
 |exit id=>exact hK.elim
 |goto l=>exact hK.elim
 |panic ch=>exact hK.elim
 |outgrown=>exact hK.elim
theorem abr{G:Ghost}{φ:Name->Loc}{m:Mem}{σ:S}{a:Act}{w:World}(hC:aD G φ m σ a w):
 aD G φ m σ { a with defers:=[{ target:=.collected w.heap.size,args:= #[] }]++a.defers } (w.alloc (.deferred (some []))):=by
 have hb:∀ b,b<w.heap.size->(w.alloc (.deferred (some []))).heap[b]?=w.heap[b]?:=fun b h=>RowKit.Below.heap_alloc w _ b h
 have h:=hC.imm (w':=w.alloc (.deferred (some []))) (Mem.le_refl m) ⟨rfl,rfl,rfl,by simp⟩ hb (fun _ _ _ h=>.inl h)
 refine⟨h.tmps,h.size,?_,h.objs,h.mem,h.apart,h.inj,h.own,h.fr,h.fresh,h.kept⟩
 obtain⟨ds,h1,h2,h3⟩:=h.defers
 have ae:∀ D∈ds,D<w.heap.size:=fun D hD=>by
  obtain⟨mB,k1,k2,k3⟩:=hC.defers
  have e:mB=ds:=by
   have :=k1.symm.trans h1
   have hi:Function.Injective (fun D:Nat=>({ target:=.collected D,args:= #[] }:Deferred)):=fun x y h=>by simpa using h
   exact(List.map_inj_right hi).1 this
  exact(Array.getElem?_eq_some_iff.1 (k3 D (e▸hD)).2).1
 refine⟨w.heap.size::ds,by rw[h1];rfl,List.nodup_cons.2 ⟨fun hm=>Nat.lt_irrefl _ (ae _ hm),h2⟩,fun D hD=>?_⟩
 rcases List.mem_cons.1 hD with rfl | hD
 ·exact⟨hC.fr.size,World.alloc_heap_new w _⟩
 ·exact h3 D hD
def lZ(obj:Name->Option O)(nm:Name):Name->Option O:=upd obj nm (match obj nm with
 |some (.loop env ps asg body _ bm)=>some (.loop env ps asg body .exhausted bm)
 |o=>o)
def pK(K:Exit->S->Prop)(obj:Name->Option O)(nm:Name)(σ:S):Prop:=match obj nm with
 |some (.loop _ _ _ _ .busy _)=>False
 |some (.loop _ _ _ _ _ none)=>K .normal σ
 |some (.loop _ _ _ _ _ (some .ret))=>K .ret σ
 |some (.loop _ _ _ _ _ (some (.exit id)))=>K (.exit id) σ
 |_=>False
theorem NX{P:Program}{Γ:FuncId->Option Spec}(hΓ:∀ f s,Γ f=some s->an P f s){g:Operand}{ps:Array Tmp}{asg body:Code}{σ:S}{K:Exit->S->Prop}(k k':Nat){f:FuncId}{s:Spec}
 (hc:cH σ g=true) (dW:gr (ai σ g)=some f) (aj:f≠yid) (hs:Γ f=some s) (r4:σ.obj (k::σ.pre)=none)
 (aa:(s.app (upd σ.obj (k::σ.pre) (some (.loop ((List.range σ.nt).map σ.env) ps.toList asg body .ready none))) (k'::σ.pre) (eG (ai σ g) [.yld (k::σ.pre)])).ok)
 (hK:pK K (s.app (upd σ.obj (k::σ.pre) (some (.loop ((List.range σ.nt).map σ.env) ps.toList asg body .ready none))) (k'::σ.pre) (eG (ai σ g) [.yld (k::σ.pre)])).obj (k::σ.pre)
   { σ with obj:=lZ (s.app (upd σ.obj (k::σ.pre) (some (.loop ((List.range σ.nt).map σ.env) ps.toList asg body .ready none))) (k'::σ.pre) (eG (ai σ g) [.yld (k::σ.pre)])).obj (k::σ.pre) }):
 CW P (.rangeFunc g ps asg body) σ K:=by
 intro G φ m a w hC
 generalize al:k::σ.pre=nm at *
 generalize DX:upd σ.obj nm (some (.loop ((List.range σ.nt).map σ.env) ps.toList asg body .ready none))=pD at *
 generalize hR:s.app pD (k'::σ.pre) (eG (ai σ g) [.yld nm])=R at *
 have zY:=bQ hC hc
 obtain⟨us,vs,fs,cs,hu,mw,e1,e2,bV,dG⟩:∃ (us vs:Array Value) (fs cs:List D),a.eval g=.func (.func f) us vs/\(∀ args,eG (ai σ g) args=fs++args++cs)/\fs.length=us.size/\cs.length=vs.size/\
  (∀ i (h:i<fs.length) (h':i<us.size),ar φ σ.obj m fs[i] us[i])/\(∀ i (h:i<cs.length) (h':i<vs.size),ar φ σ.obj m cs[i] vs[i]):=by
  generalize a.eval g=u at *
  generalize ai σ g=d at *
  unfold gr at dW
  split at dW
  ·rename_i f' fs cs
   split at dW
   ·cases dW
   cases dW
   cases zY with
   |v _ _ zY=>
   cases zY with
   |clo _ _ _ us vs e1 e2 h1 h2=>
   exact⟨us,vs,fs.map .v,cs.map .v,rfl,fun _=>rfl,by simpa using e1,by simpa using e2,fun i a b=>by simpa using .v _ _ (h1 i (by simpa using a) b),fun i a b=>by simpa using .v _ _ (h2 i (by simpa using a) b)⟩
  ·rename_i f' fs cs
   split at dW
   ·cases dW
   cases dW
   cases zY with
   |clo _ _ _ us vs e1 e2 h1 h2=>exact⟨us,vs,fs,cs,rfl,fun _=>rfl,e1,e2,h1,h2⟩
  ·cases dW;exact(aj rfl).elim
  ·cases dW
 refine wpIn_rangeFunc fun fn _=>?_
 have main:∀ (W:World) (a':Act) (D:Nat),aD G φ m σ a' W->a'.tmps=a.tmps->
     ∃ (d:Deferred) (s5:World) (f':FuncId) (args:Array Value) (w₂:World),
     (resolve a.eval (rangeCall g W.heap.size) 0).run P (W.alloc (.loop { state:=.ready,pending:=none,fn,tmps:=a.tmps,params:=ps,assign:=asg,body,defers:=D }))=.ok d s5/\
     (invoke d.target d.args).run P s5=.ok (.enter f' args) w₂/\
     CallsIn (fG G.rd) (0-1) P f' args w₂ (rangePost (fG G.rd) 0 P W.heap.size (fun e a' w'=>∃ φ' m' σ',aD G φ' m' σ' a' w'/\K e σ') a'):=by
  intro W a' D fP jR
  obtain⟨r,pU⟩:∃ r:Loop,r={ state:=.ready,pending:=none,fn,tmps:=a.tmps,params:=ps,assign:=asg,body,defers:=D }:=⟨_,rfl⟩
  rw[<-pU]
  have hx:=Ext.new (φ:=φ) r4 ⟨W.heap.size,0,0,false,none⟩ (.loop ((List.range σ.nt).map σ.env) ps.toList asg body .ready none)
  have ft:=fP.chg (w':=W.alloc (.loop r)) nm (.loop ((List.range σ.nt).map σ.env) ps.toList asg body .ready none) ⟨W.heap.size,0,0,false,none⟩ hx ⟨rfl,rfl,rfl,by simp⟩
   (fun b hb _=>RowKit.Below.heap_alloc W _ b hb) (fun _=>.inl (Nat.le_refl _)) ⟨rfl,rfl,r,World.alloc_heap_new W _,by rw[pU],by rw[pU],by rw[pU],by rw[pU],by rw[pU],by
     rw[pU]
     show a.tmps.size=_
     rw[<-jR,fP.size];simp,fun i hi=>by
     simp only[List.getElem_map,List.getElem_range]
     rw[pU]
     show bT _ _ m _ (a.tmps.getD i undef)
     rw[<-jR]
     exact(fP.tmps i).ext (Mem.le_refl m) hx⟩
  rw[DX]at ft hx
  refine⟨{ target:=.fn (.func f) vs,args:=us++ #[.func (.yield W.heap.size) #[] #[]] },W.alloc (.loop r),f,us++ #[.func (.yield W.heap.size) #[] #[]]++vs,W.alloc (.loop r),?_,?_,?_⟩
  ·have hy:a.eval (.const (.func (.yield W.heap.size) #[] #[]))=.func (.yield W.heap.size) #[] #[]:=rfl
   simp[resolve,Deferred.ofValue,hu,hy]
  ·simp[invoke,(hΓ f s hs).enter aj]
  ·refine No ?_
   have Zx:=(hΓ f s hs).calls aj G (upd φ nm ⟨W.heap.size,0,0,false,none⟩) m { σ with obj:=pD } a' (W.alloc (.loop r)) ft (k'::σ.pre) (eG (ai σ g) [.yld nm]) (us++ #[.func (.yield W.heap.size) #[] #[]]++vs) ⟨k',rfl⟩
   refine(Zx ?_ ?_ ?_).mono ?_
   ·rw[mw];simp only[List.length_append,List.length_singleton,Array.size_append,e1,e2];rfl
   ·intro i h1 h2
    simp only[mw]
    have zt:ar (upd φ nm ⟨W.heap.size,0,0,false,none⟩) pD m (.yld nm) (.func (.yield W.heap.size) #[] #[]):=by
     have :=ar.yld (φ:=upd φ nm ⟨W.heap.size,0,0,false,none⟩) (obj:=pD) (m:=m) nm ⟨_,by rw[<-DX,aG],rfl⟩
     rwa [aG]at this
    simp only[mw,List.length_append,List.length_singleton]at h1
    by_cases k1:i<fs.length
    ·have q1:i<us.size:=by omega
     simp only[List.append_assoc,Array.append_assoc]
     rw[List.getElem_append_left k1,Array.getElem_append_left q1]
     exact(bV i k1 q1).ext (Mem.le_refl m) hx
    ·by_cases k2:i=fs.length
     ·subst k2
      simp only[List.append_assoc,Array.append_assoc]
      rw[List.getElem_append_right (by omega),Array.getElem_append_right (by omega)]
      simp only[Nat.sub_self,e1,List.cons_append,List.getElem_cons_zero]
      rw[Array.getElem_append_left (by simp)]
      simpa using zt
     ·rw[List.getElem_append_right (by simp;omega),Array.getElem_append_right (by simp;omega)]
      have :=(dG (i-(fs.length+1)) (by omega) (by omega)).ext (Mem.le_refl m) hx
      simp only[List.length_append,List.length_singleton,Array.size_append,<-e1]
      exact this
   ·show (s.app pD _ _).ok
    rw[hR];exact aa
   ·rintro e w3 ⟨v,φ',m',rfl,sr,_,X9⟩
    have h9:s.app pD (k'::σ.pre) (eG (ai σ g) [.yld nm])=R:=hR
    have MR:aD G φ' m' { σ with obj:=R.obj } a' w3:=by rw[<-h9];exact sr
    have X8:Ext (upd φ nm ⟨W.heap.size,0,0,false,none⟩) φ' pD R.obj:=by rw[<-h9];exact X9
    have YG:pD nm=some (.loop ((List.range σ.nt).map σ.env) ps.toList asg body .ready none):=by rw[<-DX,aG]
    have D9:φ' nm=⟨W.heap.size,0,0,false,none⟩:=by
     obtain⟨o',k1,k2⟩:=X8 nm _ YG
     rcases k2 with⟨_,k2,_⟩ | ⟨n,n',k2,_⟩
     ·rw[k2,aG]
     ·cases k2
    unfold pK at hK
    have step:∀ {ic:List E} {gR:List Nat} {a1 b1:Code} {st:LoopState} {bm:Option Code},R.obj nm=some (.loop ic gR a1 b1 st bm)->st≠ .busy->
        ∃ w4,(Instr.endLoop W.heap.size).run P w3=.ok bm w4/\aD G φ' m' { σ with obj:=lZ R.obj nm } a' w4:=by
     intro ic gR a1 b1 st bm ho cF
     obtain⟨q0,q1,r',q2,q3,q4,q5,q6,q7,q8,q9⟩:=MR.objs nm _ ho
     rw[D9]at q2
     have EA:(Instr.endLoop W.heap.size).run P w3=.ok bm (w3.putObj W.heap.size (.loop { r' with state:=.exhausted })):=by
      rw[run_endLoop (P:=P) q2 (by rw[q3];exact cF),q4]
     refine⟨_,EA,?_⟩
     have ae:=(Array.getElem?_eq_some_iff.1 q2).1
     have mc:lZ R.obj nm=upd R.obj nm (some (.loop ic gR a1 b1 .exhausted bm)):=by unfold lZ;rw[ho]
     rw[mc]
     have :=MR.chg (w':=w3.putObj W.heap.size (.loop { r' with state:=.exhausted })) nm (.loop ic gR a1 b1 .exhausted bm) (φ' nm) (Ext.same ho rfl rfl) ⟨rfl,rfl,rfl,by simp⟩
      (fun b _ hb=>World.putObj_heap_other (by
        rcases hb with h | h
        ·rw[q1]at h;cases h
        ·rw[D9]at h;exact h))
      (fun _=>.inr ⟨⟨_,ho,rfl,q1⟩,rfl⟩) (by
        rw[fa]
        refine⟨q0,q1,{ r' with state:=.exhausted },by rw[D9];exact World.putObj_heap_same ae,rfl,q4,q5,q6,q7,q8,fun i hi=>(q9 i hi).ext (Mem.le_refl _) ?_⟩
        have :=Ext.same (φ:=φ') (o':=.loop ic gR a1 b1 .exhausted bm) ho rfl rfl
        rwa [fa]at this)
     rw[fa]at this
     exact this
    rcases ho:R.obj nm with _ | o
    ·rw[ho]at hK;exact hK.elim
    rw[ho]at hK
    cases o with
    |loop ic gR a1 b1 st bm=>
     have cF:st≠ .busy:=by rintro rfl;exact hK.elim
     obtain⟨w4,h1,h2⟩:=step ho cF
     refine⟨bm,w4,h1,?_⟩
     cases bm with
     |none=>
      refine⟨φ',m',_,h2,?_⟩
      cases st<;>first | exact hK | exact(cF rfl).elim
     |some c=>
      cases c with
      |ret=>exact wpIn_ret ⟨φ',m',_,h2,by cases st<;>first | exact hK | exact(cF rfl).elim⟩
      |exit id=>exact wpIn_exit ⟨φ',m',_,h2,by cases st<;>first | exact hK | exact(cF rfl).elim⟩
      |_=>exfalso;cases st<;>first | exact hK | exact(cF rfl).elim
    |_=>exact hK.elim
 cases mh:G.rd with
 |none=>
  obtain⟨d,s5,f',args,w₂,h1,h2,h3⟩:=main (w.alloc (.deferred (some []))) _ w.heap.size (abr hC) rfl
  rw[mh]at h3
  have bh:(w.alloc (.deferred (some []))).heap.size=w.heap.size+1:=by simp
  rw[bh]at h1 h3
  exact⟨w.heap.size+1,[{ target:=.collected w.heap.size,args:= #[] }],_,d,s5,f',args,w₂,run_enterLoop_outer _ _ _ _ _,h1,fun _ _=>trivial,h2,fun h=>(by simp[fG,Fence.wide]at h),h3⟩
 |some l=>
  obtain⟨eE,r0,LN⟩:=G.rdok l mh
  have Yv:w.heap[l]?=some (.loop r0):=(hC.fr.block l (Array.getElem?_eq_some_iff.1 LN).1 eE).trans LN
  obtain⟨d,s5,f',args,w₂,h1,h2,h3⟩:=main w a r0.defers hC rfl
  rw[mh]at h3
  exact⟨w.heap.size,[],_,d,s5,f',args,w₂,run_enterLoop_inner Yv _ _ _ _ _,h1,fun _ _=>trivial,h2,fun h=>(by simp[fG,Fence.wide]at h),h3⟩
theorem abE{P:Program}{Γ:FuncId->Option Spec}(hΓ:∀ f s,Γ f=some s->an P f s){g:Operand}{ps:Array Tmp}{asg body:Code}{σ:S}{r:List Code}{K:Exit->S->Prop}(k k':Nat){f:FuncId}{s:Spec}
 (hc:cH σ g=true) (dW:gr (ai σ g)=some f) (aj:f≠yid) (hs:Γ f=some s) (r4:σ.obj (k::σ.pre)=none)
 (aa:(s.app (upd σ.obj (k::σ.pre) (some (.loop ((List.range σ.nt).map σ.env) ps.toList asg body .ready none))) (k'::σ.pre) (eG (ai σ g) [.yld (k::σ.pre)])).ok)
 (hK:pK (lu (fun σ'=>CL P r σ' K) K) (s.app (upd σ.obj (k::σ.pre) (some (.loop ((List.range σ.nt).map σ.env) ps.toList asg body .ready none))) (k'::σ.pre) (eG (ai σ g) [.yld (k::σ.pre)])).obj (k::σ.pre)
   { σ with obj:=lZ (s.app (upd σ.obj (k::σ.pre) (some (.loop ((List.range σ.nt).map σ.env) ps.toList asg body .ready none))) (k'::σ.pre) (eG (ai σ g) [.yld (k::σ.pre)])).obj (k::σ.pre) }):
 CL P (.rangeFunc g ps asg body::r) σ K:=NX hΓ k k' hc dW aj hs r4 aa hK
theorem dC.refl(σ:S):dC σ σ:=fun _ φ _ _ _ hC=>⟨φ,hC⟩
theorem dC.trans{a b c:S}(h:dC a b)(k:dC b c):dC a c:=fun G φ m x w hC=>by
 obtain⟨φ',h'⟩:=h G φ m x w hC
 exact k G φ' m x w h'
theorem bx{σ τ:S}(ks:List Nat)(ns:List Name)(h:gq ks ns σ)(he:gy ks ns σ=τ):dC σ τ:=he▸Bt ks ns h
def n0(l c:List (Nat×E)):List (Nat×E):=l.map fun q=>(q.1,(c.lookup q.1).getD q.2)
def nY(l c:List (Name×O)):List (Name×O):=l.map fun q=>(q.1,(c.lookup q.1).getD q.2)
theorem kz{P:Program}{c:Code}{r:List Code}{σ:S}{K:Exit->S->Prop}(ks:List Nat)(ns:List Name)(h:gq ks ns σ)(hc:CL P (c::r) (gy ks ns σ) K):CL P (c::r) σ K:=
 xr (Bt ks ns h) hc
theorem cN{P:Program}{c:Code}{r:List Code}{K:Exit->S->Prop}{nt:Nat}{p:Name}{H:Name->Option O}{l:List (Nat×E)}{h:List (Name×O)}{ι:Type}
 (chg:ι->List (Nat×E)) (oa:ι->List (Name×O)) (R:ι->Prop) (μ:ι->Nat) (i0:ι) (hR:R i0) (he:n0 l (chg i0)=l) (ho:nY h (oa i0)=h)
 (round:∀ i,R i->CL P [c] (aW nt p H (n0 l (chg i)) (nY h (oa i))) (lu (fun σ'=>∃ i',R i'/\μ i'<μ i/\dC σ' (aW nt p H (n0 l (chg i')) (nY h (oa i')))) K)):
 CL P (.loop c::r) (aW nt p H l h) K:=by
 refine F8 (fun i=>aW nt p H (n0 l (chg i)) (nY h (oa i))) R μ i0 hR ?_ round
 rw[he,ho]
 exact .refl _
theorem abF{P:Program}{c:Code}{r:List Code}{K:Exit->S->Prop}{nt:Nat}{p:Name}{H:Name->Option O}{l:List (Nat×E)}{h:List (Name×O)}{ι:Type}
 (Hc:ι->Name->Option O) (chg:ι->List (Nat×E)) (oa:ι->List (Name×O)) (R:ι->Prop) (μ:ι->Nat) (i0:ι) (hR:R i0) (hH:aW nt p (Hc i0) l h=aW nt p H l h) (he:n0 l (chg i0)=l) (ho:nY h (oa i0)=h)
 (round:∀ i,R i->CL P [c] (aW nt p (Hc i) (n0 l (chg i)) (nY h (oa i))) (lu (fun σ'=>∃ i',R i'/\μ i'<μ i/\dC σ' (aW nt p (Hc i') (n0 l (chg i')) (nY h (oa i')))) K)):
 CL P (.loop c::r) (aW nt p H l h) K:=by
 refine F8 (fun i=>aW nt p (Hc i) (n0 l (chg i)) (nY h (oa i))) R μ i0 hR ?_ round
 rw[he,ho,hH]
 exact .refl _
attribute [go_sem] n0 nY List.lookup_cons List.lookup_nil List.getElem?_toArray List.getElem?_cons_succ List.getElem?_cons_zero beq_true beq_false ite_self Bool.and_self Bool.or_self imp_self Bool.if_true_right Bool.if_false_right Bool.if_true_left Bool.if_false_left Bool.decide_eq_true
attribute [go_sem] vB ie rz vN distinct eM dp cJ fH a8 Bool.and_eq_true
def fc(a b:Nat):Bool:=Nat.ble a b
def gU(a b:Nat):Bool:=Nat.ble (a+1) b
def ck(a b:Nat):Bool:=Nat.beq a b
def di(a b:Int):Bool:=match b-a with
 | .ofNat _=>true
 | .negSucc _=>false
def kh(a b:Int):Bool:=match b-a-1 with
 | .ofNat _=>true
 | .negSucc _=>false
def tU{α:Type}:Option α->Bool
 |none=>true
 |some _=>false
def oc:Option Nat->Nat->Bool
 |some a,b=>Nat.beq a b
 |none,_=>false
def vd(sz:Nat):List V->Bool
 |[]=>true
 |x::r=>Nat.beq x.cells.length sz&&vd sz r
def ve(sz:Nat):List V->Bool
 |[]=>true
 |x::r=>Nat.beq x.cells.length sz&&x.okc&&ve sz r
def vV(a b:IntKind):Bool:=match a,b with
 | .i64,.i64=>true
 | .u8,.u8=>true
 | .u64,.u64=>true
 | .i32,.i32=>true
 | .u32,.u32=>true
 |_,_=>false
def Dd(P:Program)(T:TypeId):Bool:=match P.underlying T with
 |some .bool=>true
 |_=>false
def isEq:BinOp->Bool
 | .eql=>true
 | .neq=>true
 |_=>false
def rF:Int->Bool
 | .ofNat 0=>true
 |_=>false
theorem rC{a b:Nat}(h:fc a b=true):a<=b:=Nat.le_of_ble_eq_true h
theorem yX{a b:Nat}(h:gU a b=true):a<b:=Nat.le_of_ble_eq_true h
theorem kb{a b:Nat}(h:ck a b=true):a=b:=Nat.eq_of_beq_eq_true h
theorem gz{a b:Int}(h:di a b=true):a<=b:=by
 unfold di at h
 split at h
 ·rename_i n hn
  have :(0:Int)<=b-a:=by rw[hn];exact Int.natCast_nonneg n
  omega
 ·cases h
theorem XS{a b:Int}(h:kh a b=true):a<b:=by
 unfold kh at h
 split at h
 ·rename_i n hn
  have :(0:Int)<=b-a-1:=by rw[hn];exact Int.natCast_nonneg n
  omega
 ·cases h
theorem yP{α:Type}{o:Option α}(h:tU o=true):o=none:=by cases o<;>simp_all[tU]
theorem pE{o:Option Nat}{b:Nat}(h:oc o b=true):o=some b:=by
 cases o with
 |none=>cases h
 |some a=>rw[Nat.eq_of_beq_eq_true h]
theorem Bg{sz:Nat}:∀ {l:List V},vd sz l=true->∀ x∈l,x.cells.length=sz
 |y::r,h,x,hx=>by
  simp only[vd,Bool.and_eq_true]at h
  rcases List.mem_cons.1 hx with rfl | hx
  ·exact Nat.eq_of_beq_eq_true h.1
  ·exact Bg h.2 x hx
theorem Bh{sz:Nat}:∀ {l:List V},ve sz l=true->∀ x∈l,x.cells.length=sz/\x.okc=true
 |y::r,h,x,hx=>by
  simp only[ve,Bool.and_eq_true]at h
  rcases List.mem_cons.1 hx with rfl | hx
  ·exact⟨Nat.eq_of_beq_eq_true h.1.1,h.1.2⟩
  ·exact Bh h.2 x hx
theorem KL{a b:IntKind}(h:vV a b=true):a=b:=by unfold vV at h;split at h<;>first | rfl | cases h
theorem XA{P:Program}{T:TypeId}(h:Dd P T=true):P.underlying T=some .bool:=by unfold Dd at h;split at h<;>first | assumption | cases h
theorem zk{op:BinOp}(h:isEq op=true):op=.eql\/op=.neq:=by cases op<;>first | exact .inl rfl | exact .inr rfl | cases h
theorem Xw{n:Int}(h:rF n=false):n≠0:=by rintro rfl;cases h
section
variable (P:Program) (obj:Name->Option O)
def xD(T:TypeId)(x:D):Bool:=
 match bd P T with
 |none=>false
 |some (ag,n)=>match x with
  | .v (.ptr cs)=>match ag with
    |true=>fc n cs.length
    |false=>ck n 1&&gU 0 cs.length
  | .ref nm off=>match obj nm with
    |some (.box cs)=>match ag with
     |true=>fc (off+n) cs.length
     |false=>ck n 1&&gU off cs.length
    |some (.fbox cs)=>match ag with
     |true=>fc (off+n) cs.length
     |false=>ck n 1&&gU off cs.length
    |_=>false
  | .aref nm k i off=>match obj nm with
    |some (.arr _ l)=>ck k l.length&&gU i l.length&&(match ag with
     |true=>fc (off+n) (l.getD i default).cells.length
     |false=>ck n 1&&gU off (l.getD i default).cells.length)
    |some (.farr _ l)=>ck k l.length&&gU i l.length&&(match ag with
     |true=>fc (off+n) (l.getD i default).cells.length
     |false=>ck n 1&&gU off (l.getD i default).cells.length)
    |_=>false
  |_=>false
def A7(T:TypeId)(f:Nat)(x:D):Bool:=
 match cT P T f with
 |none=>false
 |some (off,n,_)=>!ck n 0&&match x with
  | .v (.ptr cs)=>fc (off+n) cs.length
  | .ref _ _=>true
  | .aref nm k _ _=>match obj nm with
    |some o=>oc o.len? k
    |none=>false
  |_=>false
def A5(T:TypeId)(x i:D):Bool:=
 match i with
 | .v (.int _ n)=>match x with
   | .v (.sl l)=>match bI P T with
     |some (_,sz,_)=>di 0 n&&kh n l.length&&ck (l.getD n.toNat default).cells.length sz
     |none=>false
   | .msl nm k=>match bI P T with
     |some (_,sz,_)=>match obj nm with
      |some (.arr s l)=>di 0 n&&kh n l.length&&ck k l.length&&ck s sz
      |some (.farr s l)=>di 0 n&&kh n l.length&&ck k l.length&&ck s sz
      |_=>false
     |none=>false
   | .ref _ _=>match gu P T with
     |some (len,_,_)=>di 0 n&&kh n len
     |none=>false
   | .v (.ptr cs)=>match gu P T with
     |some (len,sz,_)=>di 0 n&&kh n len&&fc (n.toNat*sz+sz) cs.length
     |none=>false
   |_=>false
 |_=>false
def OZ(op:BinOp)(k k':IntKind)(b:Int):Bool:=
 match op with
 | .quo=>vV k k'&&!rF b
 | .rem=>vV k k'&&!rF b
 | .shl=>di 0 b
 | .shr=>di 0 b
 |_=>vV k k'
def OQ(op:BinOp)(a b:ByteArray):Bool:=
 match op with
 | .add=>fc (a.size+b.size) maxLen
 | .eql | .neq | .lss | .leq | .gtr | .geq=>true
 |_=>false
def Gt(op:BinOp)(T:TypeId)(x y:D):Bool:=
 match x,y with
 | .v (.int k _),.v (.int k' b)=>OZ op k k' b
 | .v (.str a),.v (.str b)=>OQ op a b
 | .v (.bool _),.v (.bool _)=>Dd P T&&isEq op
 |_,_=>false
def Gp(op:BinOp)(T:TypeId)(x y:V):Bool:=
 match jU P Op.maxDepth T x y with
 |some _=>!(P.eqGuardType P.depth T)&&isEq op
 |none=>false
def Gl(op:BinOp)(T:TypeId)(x:D):Bool:=
 match x with
 | .v (.sl (_::_))=>oc (dD P T) 0&&isEq op
 | .msl nm (k+1)=>(match obj nm with | some o=>oc o.len? (k+1) | none=>false)&&oc (dD P T) 0&&isEq op
 |_=>false
def Bb(op:BinOp)(T:TypeId)(x y:D)(kN:Bool):Bool:=
 match kN with
 |true=>Gl P obj op T x
 |false=>match dX x,dX y with
  |some (.agg a),some (.agg b)=>Gp P op T (.agg a) (.agg b)
  |_,_=>Gt P op T x y
def AU(op:UnOp)(x:D):Bool:=
 match op,x with
 | .not,.v (.bool _)=>true
 | .neg,.v (.int _ _)=>true
 |_,_=>false
def A'(src dst:TypeId)(x:D):Bool:=
 match lv P src dst with
 | 0=>match lY P dst,x with
   |some _,.v (.int _ _)=>(P.underlying src).isSome
   |_,_=>false
 |_=>false
def A9(x:D)(i:Nat):Bool:=
 match x with
 | .tup l=>gU i l.length
 | .v (.tup l)=>gU i l.length
 |_=>false
def AY(x:D):Bool:=
 match x with
 | .ref _ _=>true
 | .v (.ptr _)=>true
 | .aref nm k _ _=>match obj nm with
   |some o=>oc o.len? k
   |none=>false
 |_=>false
def xF(t:Name)(x:D):Bool:=tU (obj (aM t))&&x.boxable
def Bd(t:Name)(T:TypeId):Bool:=match be P T with
 |some z=>xF obj t (jg z)
 |none=>false
def Ba(T:TypeId)(parts:List (Nat×D)):Bool:=
 match jd P T,be P T with
 |some ps,some z=>match jg z with
  | .agg cs=>match sB (fun i=>ps[i]?) cs parts with
    |some _=>true
    |none=>false
  |_=>false
 |_,_=>false
def AV(T:TypeId)(x d:D):Bool:=
 match bd P T with
 |none=>false
 |some (_,n)=>match x with
  | .ref nm off=>match obj nm with
    |some (.box cs)=>d.boxable&&ck d.cells.length n&&fc (off+n) cs.length
    |_=>false
  | .aref nm k i off=>match obj nm with
    |some (.arr sz l)=>match dX d with
     |some y=>ck k l.length&&gU i l.length&&ck y.cells.length n&&y.okc&&fc (off+n) sz&&!ck sz 0
     |none=>false
    |_=>false
  |_=>false
def A1(t:Name)(T:TypeId)(r:Option D):Bool:=
 match lX P T,r with
 |some _,none=>tU (obj (aM t))
 |_,_=>false
def A0(t:Name)(T:TypeId)(l c:D):Bool:=
 match bI P T,l,c with
 |some (e,sz,by_),.v (.int _ n),.v (.int _ n')=>match (be P e).bind fun z=>dX (jg z)with
  |some zv=>di n n'&&di n' n&&di 0 n&&di ((by_:Int)*n) 281474976710656&&di n 9223372036854775807&&ck zv.cells.length sz&&zv.okc&&!ck sz 0&&tU (obj (aM t))
  |none=>false
 |_,_,_=>false
def A3(T:TypeId)(x:D):Bool:=
 match dD P T,x with
 |some 0,.v (.sl _)=>true
 |some 0,.nilsl=>true
 |some 0,.msl nm k=>match obj nm with
  |some o=>oc o.len? k
  |none=>false
 |some 1,.v (.str _)=>true
 |some 2,.nilmap=>true
 |some 2,.map nm=>match obj nm with
  |some (.map _ _)=>true
  |_=>false
 |_,_=>false
def AW(T:TypeId)(x:D)(lo hi mx:Option D):Bool:=
 match mx with
 |none=>match x with
  | .v (.sl l)=>match bI P T,gx lo,km l.length hi with
    |some (_,sz,_),some i,some j=>di 0 i&&di i j&&di j l.length&&vd sz l
    |_,_,_=>false
  | .nilsl=>match bI P T,gx lo,km 0 hi with
    |some (_,_,_),some i,some j=>rF i&&rF j
    |_,_,_=>false
  | .msl nm k=>match obj nm,bI P T,gx lo,km k hi with
    |some (.arr _ l),some (_,sz,_),some i,some j=>ck k l.length&&di 0 i&&di i j&&di j l.length&&vd sz l
    |some (.farr _ l),some (_,sz,_),some i,some j=>ck k l.length&&di 0 i&&di i j&&di j l.length&&vd sz l
    |_,_,_,_=>false
  | .v (.str s)=>match dD P T,gx lo,km s.size hi with
    |some 1,some i,some j=>di 0 i&&di i j&&di j s.size
    |_,_,_=>false
  |_=>false
 |some (.v (.int _ 0))=>match bI P T,gx lo,hi with
  |some _,some 0,some (.v (.int _ 0))=>match x with
   | .v (.sl _)=>true
   | .nilsl=>true
   | .msl nm k=>match obj nm with
     |some o=>oc o.len? k
     |none=>false
   |_=>false
  |_,_,_=>false
 |some _=>false
def A8(T:TypeId)(x:D)(f:Nat):Bool:=
 match cT P T f with
 |none=>false
 |some (off,n,ag)=>match x with
  | .agg l=>match ag with
    |true=>fc (off+n) l.length
    |false=>gU off l.length
  | .v (.agg l)=>match ag with
    |true=>fc (off+n) l.length
    |false=>gU off l.length
  |_=>false
def A6(T:TypeId)(x i:D):Bool:=
 match i with
 | .v (.int _ n)=>match x with
   | .v (.str s)=>oc (dD P T) 1&&di 0 n&&kh n s.size
   | .agg l=>match gu P T with
     |some (len,sz,true)=>di 0 n&&kh n len&&fc (n.toNat*sz+sz) l.length
     |some (len,sz,false)=>di 0 n&&kh n len&&gU (n.toNat*sz) l.length
     |none=>false
   | .v (.agg l)=>match gu P T with
     |some (len,sz,true)=>di 0 n&&kh n len&&fc (n.toNat*sz+sz) l.length
     |some (len,sz,false)=>di 0 n&&kh n len&&gU (n.toNat*sz) l.length
     |none=>false
   |_=>false
 |_=>false
def A2(T:TypeId)(x k:D):Bool:=
 match lX P T with
 |some (kd,e)=>match (be P e).bind fun z=>dX (jg z),dX k with
  |some _,some kv=>match x with
   | .nilmap=>fc kd 2&&dU kd kv
   | .map nm=>match obj nm with
     |some (.map kg _)=>fc kd 2&&dU kd kv&&ck kg kd
     |_=>false
   |_=>false
  |_,_=>false
 |none=>false
def xC(T:TypeId)(x k d:D):Bool:=
 match lX P T,x,dX k,dX d with
 |some (kd,_),.map nm,some kv,some _=>match obj nm with
  |some (.map kg _)=>fc kd 2&&dU kd kv&&ck kg kd
  |_=>false
 |_,_,_,_=>false
def AX(c:D):Bool:=match c with
 | .v (.bool _)=>true
 |_=>false
def xB(x:D):Bool:=match x with
 | .v (.sl _)=>true
 | .nilsl=>true
 | .msl nm k=>match obj nm with
   |some (.arr _ l)=>ck k l.length
   |some (.farr _ l)=>ck k l.length
   |_=>false
 |_=>false
def Bc(t:Name)(T1 T2:TypeId)(s x:D):Bool:=
 match bI P T1,bI P T2 with
 |some (e,sz,by_),some _=>match be P e with
  |some z=>match s with
   | .nilsl=>xB obj x&&ve sz (ax obj x).2&&ck z.cells.size sz&&fc ((ax obj x).2.length*by_) 140737488355328&&fc (ax obj x).2.length maxLen&&tU (obj (aM t))
   | .msl nm k=>match obj nm with
     |some (.arr s' l)=>xB obj x&&ve sz (ax obj x).2&&ck z.cells.size sz&&fc ((l.length+(ax obj x).2.length)*by_) 140737488355328&&
        fc (l.length+(ax obj x).2.length) maxLen&&ck k l.length&&ck s' sz
     |_=>false
   |_=>false
  |none=>false
 |_,_=>false
variable {P obj}
theorem pH{a b:Nat}:fc a b=true↔a<=b:=⟨rC,Nat.ble_eq_true_of_le⟩
theorem vQ{a b:Nat}:gU a b=true↔a<b:=⟨yX,Nat.ble_eq_true_of_le⟩
theorem pI{a b:Nat}:ck a b=true↔a=b:=⟨kb,fun h=>by subst h;simp[ck]⟩
theorem yY{a b:Nat}:ck a b=false↔a≠b:=by
 rw[<-Bool.not_eq_true,pI]
theorem Lq{a b:Int}:di a b=true↔a<=b:=⟨gz,fun h=>by
 unfold di
 split
 ·rfl
 ·rename_i n hn;have:=Int.negSucc_lt_zero n;omega⟩
theorem Lo{a b:Int}:kh a b=true↔a<b:=⟨XS,fun h=>by
 unfold kh
 split
 ·rfl
 ·rename_i n hn;have:=Int.negSucc_lt_zero n;omega⟩
theorem Le{n:Int}:rF n=true↔n=0:=⟨fun h=>(by unfold rF at h;split at h<;>first | rfl | cases h),fun h=>(by subst h;rfl)⟩
theorem Gn{T:TypeId}{x:D}(h:xD P obj T x=true):(jw P obj T x).ok:=by
 unfold xD at h
 unfold jw
 (repeat' split at h)<;>simp_all[pH,vQ,pI,-List.getD_eq_getElem?_getD]
theorem O3{T:TypeId}{f:Nat}{x:D}(h:A7 P obj T f x=true):(lj P obj T f x).ok:=by
 unfold A7 at h
 unfold lj
 split at h
 ·cases h
 ·simp only[Bool.and_eq_true,Bool.not_eq_true',yY]at h
  obtain⟨h1,h⟩:=h
  (repeat' split at h)<;>simp_all[pH]
  exact pE h
theorem O1{T:TypeId}{x i:D}(h:A5 P obj T x i=true):(lh P obj T x i).ok:=by
 unfold A5 at h
 unfold lh
 (repeat' split at h)<;>simp_all[pH,pI,Lq,Lo,-List.getD_eq_getElem?_getD]
theorem acn{op:BinOp}{T:TypeId}{x y:D}(h:Gt P op T x y=true):(mQ P obj op T x y).ok:=by
 unfold Gt at h
 unfold mQ
 split at h
 ·simp only
  unfold OZ at h
  unfold A4
  cases op<;>simp only[Bool.and_eq_true,Bool.not_eq_true']at h |- <;>first
   |exact⟨KL h.1,Xw h.2⟩
   |exact KL h
   |exact gz h
 ·simp only
  unfold OQ at h
  unfold xA
  cases op<;>simp only at h |- <;>first | exact rC h | trivial | (cases h;done)
 ·simp only[Bool.and_eq_true]at h
  exact⟨XA h.1,zk h.2⟩
 ·cases h
theorem aci{op:BinOp}{T:TypeId}{x y:V}(h:Gp P op T x y=true):(lO P obj op T x y).ok:=by
 unfold Gp at h
 unfold lO
 split at h
 ·rename_i b hb
  simp only[Bool.and_eq_true,Bool.not_eq_true']at h
  rw[hb]
  exact⟨h.1,zk h.2⟩
 ·cases h
theorem acg{op:BinOp}{T:TypeId}{x:D}(h:Gl P obj op T x=true):(pc P obj op T x).ok:=by
 unfold Gl at h
 unfold pc
 split at h
 ·simp only[Bool.and_eq_true]at h
  exact⟨pE h.1,zk h.2⟩
 ·rename_i nm k
  simp only[Bool.and_eq_true]at h
  refine⟨?_,pE h.1.2,zk h.2⟩
  have h1:=h.1.1
  split at h1
  ·rename_i o ho;rw[ho];exact pE h1
  ·cases h1
 ·cases h
theorem O8{op:BinOp}{T:TypeId}{x y:D}{n:Bool}(h:Bb P obj op T x y n=true):(lS P obj op T x y n).ok:=by
 unfold Bb at h
 unfold lS
 cases n with
 |true=>exact acg h
 |false=>
  simp only at h |-
  split at h
  ·rename_i h1 h2
   simp only[h1,h2]
   exact aci h
  ·rename_i aj
   split
   ·rename_i h1 h2;exact(aj _ _ h1 h2).elim
   ·exact acn h
theorem OP{op:UnOp}{x:D}(h:AU op x=true):(lJ obj op x).ok:=by
 unfold AU at h
 unfold lJ
 split at h<;>first | trivial | cases h
theorem O6{s d:TypeId}{x:D}(h:A' P s d x=true):(mP P obj s d x).ok:=by
 unfold A' at h
 unfold mP
 split at h
 ·rename_i h0
  rw[h0]
  show (pf P obj s d x).ok
  unfold pf
  (repeat' split at h)<;>simp_all
 ·cases h
theorem O4{x:D}{i:Nat}(h:A9 x i=true):(lN obj x i).ok:=by
 unfold A9 at h
 unfold lN
 split at h<;>simp_all[vQ]
theorem OU{x:D}(h:AY obj x=true):(kD obj x).ok:=by
 unfold AY at h
 unfold kD
 (repeat' split at h)<;>simp_all
 exact pE h
theorem Gs{t:Name}{x:D}(h:xF obj t x=true):(lR obj t x).ok:=by
 simp only[xF,Bool.and_eq_true]at h
 exact⟨yP h.1,h.2⟩
theorem O'{t:Name}{T:TypeId}(h:Bd P obj t T=true):(mR P obj t T).ok:=by
 unfold Bd at h
 unfold mR
 split at h
 ·rename_i z hz;rw[hz];exact Gs h
 ·cases h
theorem O7{T:TypeId}{ps:List (Nat×D)}(h:Ba P T ps=true):(lQ P obj T ps).ok:=by
 unfold Ba at h
 unfold lQ
 (repeat' split at h)<;>simp_all
theorem OR{T:TypeId}{x d:D}(h:AV P obj T x d=true):(kC P obj T x d).ok:=by
 unfold AV at h
 unfold kC
 (repeat' split at h)<;>simp_all[pH,vQ,pI,yY]
theorem OW{t:Name}{T:TypeId}{r:Option D}(h:A1 P obj t T r=true):(mO P obj t T r).ok:=by
 unfold A1 at h
 unfold mO
 (repeat' split at h)<;>simp_all
 exact yP h
theorem OV{t:Name}{T:TypeId}{l c:D}(h:A0 P obj t T l c=true):(mN P obj t T l c).ok:=by
 unfold A0 at h
 unfold mN
 split at h
 ·rename_i e sz by_ k n k' n' hT
  rw[hT]
  simp only
  split at h
  ·rename_i zv hz
   simp only[Bool.and_eq_true,Bool.not_eq_true',yY]at h
   obtain⟨⟨⟨⟨⟨⟨⟨⟨h1,h2⟩,h3⟩,h4⟩,h5⟩,h6⟩,h7⟩,h8⟩,h9⟩:=h
   rw[hz]
   exact⟨Int.le_antisymm (gz h2) (gz h1),gz h3,gz h4,gz h5,kb h6,h7,h8,yP h9⟩
  ·cases h
 ·cases h
theorem OY{T:TypeId}{x:D}(h:A3 P obj T x=true):(kE P obj T x).ok:=by
 unfold A3 at h
 unfold kE
 (repeat' split at h)<;>simp_all
 exact pE h
theorem OS{T:TypeId}{x:D}{lo hi mx:Option D}(h:AW P obj T x lo hi mx=true):(iZ P obj T x lo hi mx).ok:=by
 unfold AW at h
 unfold iZ
 split at h
 ·split at h
  ·split at h
   ·rename_i h1 h2 h3
    simp only[Bool.and_eq_true]at h
    simp only[h1,h2,h3]
    exact⟨gz h.1.1.1,gz h.1.1.2,gz h.1.2,Bg h.2⟩
   ·cases h
  ·split at h
   ·rename_i h1 h2 h3
    simp only[Bool.and_eq_true]at h
    simp only[h1,h2,h3]
    exact⟨Le.1 h.1,Le.1 h.2⟩
   ·cases h
  ·split at h
   ·rename_i h1 h2 h3 h4
    simp only[Bool.and_eq_true]at h
    simp only[h1,h2,h3,h4]
    exact⟨kb h.1.1.1.1,gz h.1.1.1.2,gz h.1.1.2,gz h.1.2,Bg h.2⟩
   ·rename_i h1 h2 h3 h4
    simp only[Bool.and_eq_true]at h
    simp only[h1,h2,h3,h4]
    exact⟨kb h.1.1.1.1,gz h.1.1.1.2,gz h.1.1.2,gz h.1.2,Bg h.2⟩
   ·cases h
  ·split at h
   ·rename_i h1 h2 h3
    simp only[Bool.and_eq_true]at h
    simp only[h1,h2,h3]
    exact⟨gz h.1.1,gz h.1.2,gz h.2⟩
   ·cases h
  ·cases h
 ·split at h
  ·rename_i h1 h2 h3
   split at h
   ·simp only[h2,h3]
   ·simp only[h2,h3]
   ·split at h
    ·rename_i o ho
     simp only[h2,h3,ho]
     exact pE h
    ·cases h
   ·cases h
  ·cases h
 ·cases h
theorem O2{T:TypeId}{x:D}{f:Nat}(h:A8 P T x f=true):(lM P obj T x f).ok:=by
 unfold A8 at h
 unfold lM
 (repeat' split at h)<;>simp_all[pH,vQ]
theorem O0{T:TypeId}{x i:D}(h:A6 P T x i=true):(lL P obj T x i).ok:=by
 unfold A6 at h
 unfold lL
 (repeat' split at h)<;>simp_all[pH,vQ,Lq,Lo]
 exact pE h.1.1
theorem OX{T:TypeId}{x k:D}{c:Bool}(h:A2 P obj T x k=true):(lK P obj T x k c).ok:=by
 unfold A2 at h
 unfold lK
 (repeat' split at h)<;>simp_all[pH,pI]
theorem AZ{T:TypeId}{x k d:D}(h:xC P obj T x k d=true):(j6 P obj T x k d).ok:=by
 unfold xC at h
 unfold j6
 (repeat' split at h)<;>simp_all[pH,pI]
theorem OT{c x y:D}(h:AX c=true):(jv obj c x y).ok:=by
 unfold AX at h
 unfold jv
 split at h<;>first | trivial | cases h
theorem Gk{x:D}(h:xB obj x=true):(ax obj x).1:=by
 unfold xB at h
 unfold ax
 (repeat' split at h)<;>simp_all[pI]
theorem O9{t:Name}{T1 T2:TypeId}{s x:D}(h:Bc P obj t T1 T2 s x=true):(cD P obj t T1 T2 s x).ok:=by
 unfold Bc at h
 unfold cD
 split at h
 ·rename_i e sz by_ p h1 h2
  split at h
  ·rename_i z hz
   split at h
   ·simp only[Bool.and_eq_true]at h
    simp only[h1,h2,hz]
    exact⟨Gk h.1.1.1.1.1,Bh h.1.1.1.1.2,kb h.1.1.1.2,rC h.1.1.2,rC h.1.2,yP h.2⟩
   ·split at h
    ·rename_i ho
     simp only[Bool.and_eq_true]at h
     simp only[h1,h2,hz,ho]
     exact⟨Gk h.1.1.1.1.1.1,Bh h.1.1.1.1.1.2,kb h.1.1.1.1.2,rC h.1.1.1.2,rC h.1.1.2,kb h.1.2,kb h.2⟩
    ·cases h
   ·cases h
  ·cases h
 ·cases h
end
def oY(f:(Name->Option O)->D->Bool)(g:(Name->Option O)->D->FR)(obj:Name->Option O):List D->Bool
 |[]=>true
 |d::r=>f obj d&&oY f g (g obj d).obj r
def kr:Nat->(Name->Option O)->D->Bool
 | 0,obj,d=>match d with
   | .v _=>true
   | .nilsl=>true
   |_=>false
 |n+1,obj,d=>match d with
  | .v _=>true
  | .nilsl=>true
  | .msl nm k=>match obj nm with
    |some (.arr _ l)=>decide (k=l.length)
    |some (.farr _ l)=>decide (k=l.length)
    |_=>false
  | .ref nm _=>match obj nm with
    |some (.box cs)=>oY (kr n) (au n) obj cs&&!cK (dJ (fp n obj) cs) nm
    |some (.fbox _)=>true
    |_=>false
  | .agg l=>oY (kr n) (au n) obj l
  | .tup l=>oY (kr n) (au n) obj l
  | .clo _ f c=>oY (kr n) (au n) obj f&&oY (kr n) (au n) (aJ (au n) obj f).obj c
  |_=>false
theorem E5{n:Nat}(ih:∀ obj d,kr n obj d=true->(au n obj d).ok):∀ (l:List D) (obj:Name->Option O),oY (kr n) (au n) obj l=true->(aJ (au n) obj l).ok
 |[],_,_=>trivial
 |d::r,obj,h=>by
  simp only[oY,Bool.and_eq_true]at h
  exact⟨ih obj d h.1,E5 ih r _ h.2⟩
theorem M0:∀ (n:Nat) (obj:Name->Option O) (d:D),kr n obj d=true->(au n obj d).ok
 | 0,obj,d,h=>by cases d<;>first | trivial | (simp[kr]at h)
 |n+1,obj,d,h=>by
  have ih:=E5 (M0 n)
  cases d with
  |v x=>trivial
  |nilsl=>trivial
  |msl nm k=>
   simp only[kr]at h
   unfold au
   rcases ho:obj nm with _ | o
   ·simp[ho]at h
   ·cases o<;>simp[ho]at h |- <;>exact h
  |ref nm off=>
   simp only[kr]at h
   rcases ho:obj nm with _ | o
   ·simp[ho]at h
   ·cases o with
    |box cs=>
     simp only[ho,Bool.and_eq_true,Bool.not_eq_true']at h
     simp only[au,ho]
     refine⟨ih cs obj h.1,?_⟩
     have :=(xa (Ap n) cs obj obj (dJ (fp n obj) cs) (fun _ hn=>hn) (fun _ _=>rfl)).2.frame nm (fun hn=>by rw[iw.2 hn]at h;cases h.2)
     rw[this,ho]
    |fbox cs=>simp only[au,ho]
    |_=>simp[ho]at h
  |agg l=>exact ih l obj h
  |tup l=>exact ih l obj h
  |clo fn f c=>
   simp only[kr,Bool.and_eq_true]at h
   exact⟨ih f obj h.1,ih c _ h.2⟩
  |_=>simp[kr]at h
def isNil{α:Type}:List α->Bool
 |[]=>true
 |_=>false
theorem Xx{α:Type}{l:List α}:isNil l=true↔l=[]:=by cases l<;>simp[isNil]
def zi:Nat->List Nat->Bool
 |_,[]=>true
 |k,x::r=>ck x k&&zi (k+1) r
theorem Lf:∀ {k:Nat} {l:List Nat},zi k l=true->l=List.range' k l.length
 |k,[],_=>rfl
 |k,x::r,h=>by
  simp only[zi,Bool.and_eq_true]at h
  rw[kb h.1,List.length_cons,List.range'_succ]
  congr 1
  exact Lf h.2
def Gf(P:Program)(obj:Name->Option O)(T:TypeId)(n:Nat)(parts:List (Nat×D)):Bool:=
 match bI P T with
 |some (e,sz,_)=>match ck n 0&&isNil parts with
  |true=>(be P e).isSome
  |false=>oY (kr 4) (au 4) obj (parts.map fun p=>p.2)&&zi 0 (parts.map fun p=>p.1)&&ck parts.length n&&ve sz (aJ (au 4) obj (parts.map fun p=>p.2)).xs&&
     fc (n*sz) 16777216&&!ck sz 0&&(be P e).isSome&&gU 0 n
 |none=>false
theorem ab1{P:Program}{obj:Name->Option O}{T:TypeId}{n:Nat}{parts:List (Nat×D)}(h:Gf P obj T n parts=true):(nO P obj T n parts).ok:=by
 unfold Gf at h
 unfold nO
 split at h
 ·rename_i e sz by_ hT
  rw[hT]
  simp only
  split at h
  ·rename_i hc
   simp only[Bool.and_eq_true,pI,Xx]at hc
   rw[if_pos hc];exact h
  ·rename_i hc
   have jQ:¬ (n=0/\parts=[]):=by
    intro ⟨a,b⟩
    subst a;subst b
    cases hc
   rw[if_neg jQ]
   simp only[Bool.and_eq_true,Bool.not_eq_true',yY]at h
   obtain⟨⟨⟨⟨⟨⟨⟨h1,h2⟩,ql⟩,h3⟩,h4⟩,h5⟩,h6⟩,h7⟩:=h
   refine⟨?_,E5 (M0 4) _ _ h1,Bh h3,rC h4,h5,h6,yX h7⟩
   have :=Lf h2
   rw[List.length_map,kb ql,<-List.range_eq_range']at this
   exact this
 ·cases h
def Ge(P:Program)(σ:S)(t:Name)(b:Builtin)(ts:List TypeId)(args:List D):Bool:=
 match b,ts,args with
 | .len,[T],[x]=>A3 P σ.obj T x
 | .append,[T1,T2],[s,x]=>Bc P σ.obj t T1 T2 s x
 | .min,_,[.v (.int _ _),.v (.int _ _)]=>true
 | .max,_,[.v (.int _ _),.v (.int _ _)]=>true
 |_,_,_=>false
def IQ(P:Program)(σ:S)(t:Name):Op->Bool
 | .move _=>true
 | .assign _=>true
 | .pick c _ _=>AX (ai σ c)
 | .alloc T=>Bd P σ.obj t T
 | .box _ x=>xF σ.obj t (ai σ x)
 | .build T ps=>Ba P T (ps.toList.map fun p=>(p.1,ai σ p.2))
 | .buildSlice T n ps=>Gf P σ.obj T n (ps.toList.map fun p=>(p.1,ai σ p.2))
 | .load T x=>xD P σ.obj T (ai σ x)
 | .store T x d=>AV P σ.obj T (ai σ x) (ai σ d)
 | .nilCheck x=>AY σ.obj (ai σ x)
 | .binOp op T x y _=>Bb P σ.obj op T (ai σ x) (ai σ y) (zj y)
 | .unOp op _ x=>AU op (ai σ x)
 | .convert s d x=>A' P s d (ai σ x)
 | .makeFunc _ _ _=>true
 | .makeMap T r=>A1 P σ.obj t T (r.map (ai σ))
 | .makeSlice T l c=>A0 P σ.obj t T (ai σ l) (ai σ c)
 | .slice T x lo hi mx=>AW P σ.obj T (ai σ x) (lo.map (ai σ)) (hi.map (ai σ)) (mx.map (ai σ))
 | .fieldAddr T x f=>A7 P σ.obj T f (ai σ x)
 | .field T x f=>A8 P T (ai σ x) f
 | .indexAddr T x i=>A5 P σ.obj T (ai σ x) (ai σ i)
 | .index T x i=>A6 P T (ai σ x) (ai σ i)
 | .lookup T x i _=>A2 P σ.obj T (ai σ x) (ai σ i)
 | .mapUpdate T x k d=>xC P σ.obj T (ai σ x) (ai σ k) (ai σ d)
 | .insert T x k d=>xC P σ.obj T (ai σ x) (ai σ k) (ai σ d)
 | .extract x i=>A9 (ai σ x) i
 | .call ⟨.builtin b,args,ts⟩=>Ge P σ t b ts.toList (args.toList.map (ai σ))
 |_=>false
theorem ab0{P:Program}{σ:S}{t:Name}{b:Builtin}{ts:List TypeId}{args:List D}(h:Ge P σ t b ts args=true):(lP P σ t b ts args).ok:=by
 unfold Ge at h
 split at h
 ·exact OY h
 ·exact O9 h
 ·trivial
 ·trivial
 ·cases h
theorem Ul{P:Program}{Γ:FuncId->Option Spec}{σ:S}{t:Name}{op:Op}(h:IQ P σ t op=true):(aO P Γ σ t op).ok:=by
 cases op with
 |call c=>
  obtain⟨callee,args,ts⟩:=c
  cases callee with
  |value f=>cases h
  |builtin b=>exact ab0 h
  |invoke=>cases h
 |move=>trivial
 |assign=>trivial
 |makeFunc=>trivial
 |pick=>exact OT h
 |alloc=>exact O' h
 |box=>exact Gs h
 |build=>exact O7 h
 |buildSlice=>exact ab1 h
 |load=>exact Gn h
 |store=>exact OR h
 |nilCheck=>exact OU h
 |binOp=>exact O8 h
 |unOp=>exact OP h
 |convert=>exact O6 h
 |makeMap=>exact OW h
 |makeSlice=>exact OV h
 |slice=>exact OS h
 |fieldAddr=>exact O3 h
 |field=>exact O2 h
 |indexAddr=>exact O1 h
 |index=>exact O0 h
 |lookup=>exact OX h
 |mapUpdate=>exact AZ h
 |insert=>exact AZ h
 |extract=>exact O4 h
 |_=>cases h
end Go.Eng
