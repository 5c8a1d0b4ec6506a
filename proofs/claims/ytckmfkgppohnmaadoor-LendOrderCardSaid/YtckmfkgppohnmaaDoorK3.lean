import Derived.Test.YtckmfkgppohnmaaDoorK2
/- Texts Eng17 to EngX. -/
set_option linter.all false
namespace Go.Eng
open Go
def bH(Γ:FuncId->Option Spec)(σ:S)(t:Name):Op->List Name
 | .alloc _ | .box _ _ | .makeMap _ _ | .makeSlice _ _ _=>[aL t]
 | .load _ x | .nilCheck x | .fieldAddr _ x _ | .indexAddr _ x _ | .lookup _ x _ _ | .store _ x _ | .mapUpdate _ x _ _ | .insert _ x _ _ | .slice _ x _ _ _=>aG (ah σ x)
 | .binOp _ _ x _ _=>aG (ah σ x)
 | .buildSlice _ _ ps=>dQ (fp 4 σ.obj) (ps.toList.map fun p=>ah σ p.2)
 | .call ⟨.value f,args,_⟩=>match (fw (ah σ f)).bind Γ with
   |some s=>s.foot σ.obj t (ep (ah σ f) (args.toList.map (ah σ)))
   |none=>[]
 | .call ⟨.builtin .append,args,_⟩=>match args.toList with
   |[s,x]=>aG (ah σ s)++aG (ah σ x)++[aL t]
   |_=>[]
 | .call ⟨.builtin .len,args,_⟩=>match args.toList with
   |[x]=>aG (ah σ x)
   |_=>[]
 |_=>[]
def bm(Γ:FuncId->Option Spec)(σ:S)(t:Name):Op->List Name
 | .alloc _ | .box _ _ | .makeMap _ _ | .makeSlice _ _ _=>[aL t]
 | .store _ x _ | .mapUpdate _ x _ _ | .insert _ x _ _=>aG (ah σ x)
 | .slice _ x _ _ _=>muts σ.obj (aG (ah σ x))
 | .buildSlice _ _ ps=>muts σ.obj (dQ (fp 4 σ.obj) (ps.toList.map fun p=>ah σ p.2))
 | .call ⟨.value f,args,_⟩=>match (fw (ah σ f)).bind Γ with
   |some s=>s.wrt σ.obj t (ep (ah σ f) (args.toList.map (ah σ)))
   |none=>[]
 | .call ⟨.builtin .append,args,_⟩=>match args.toList with
   |[s,x]=>aG (ah σ s)++aG (ah σ x)++[aL t]
   |_=>[]
 |_=>[]
theorem ab1{P:Program}{obj:Name->Option O}{T:TypeId}{x:D}{lo hi mx:Option D}:Fz obj (iT P obj T x lo hi mx).obj:=by
 unfold iT
 repeat' split
 all_goals first
  |exact .refl obj
  |exact Fz.one (.refl obj) (by assumption) rfl rfl
theorem bB.muts{r r2:R}{obj obj2:Name->Option O}{W:List Name}(h:bB r r2 obj obj2 W)(hz:Fz obj r.obj)(ha:bu W obj obj2):bB r r2 obj obj2 (muts obj W):=by
 refine k9.like (W:=W) ⟨h.ok,fun nm hn=>?_,h.frame,fun nm hn=>?_⟩ h.d hz ha
 ·rw[h.eff nm,if_pos hn]
 ·rw[h.eff nm,if_neg hn]
theorem CB{ok:Prop}{d:D}{obj obj2:Name->Option O}:bB ⟨ok,d,obj⟩ ⟨ok,d,obj2⟩ obj obj2 []:=.same rfl rfl rfl rfl
theorem U1{P:Program}{obj obj2:Name->Option O}{T:TypeId}{ps:List (Nat×D)}:bB (lN P obj T ps) (lN P obj2 T ps) obj obj2 []:=by
 unfold lN
 (repeat' split)<;>exact .same rfl rfl rfl rfl
theorem U0{P:Program}{obj obj2:Name->Option O}{T:TypeId}{n:Nat}{ps:List (Nat×D)}(h:bu (dQ (fp 4 obj) (ps.map (·.2))) obj obj2):
 bB (nO P obj T n ps) (nO P obj2 T n ps) obj obj2 (muts obj (dQ (fp 4 obj) (ps.map (·.2)))):=by
 have hm:bu (muts obj (dQ (fp 4 obj) (ps.map (·.2)))) obj obj2:=fun nm hn=>h nm (List.mem_filter.1 hn).1
 obtain⟨h1,h2⟩:=wQ (z1 4) (ps.map (·.2)) obj obj2 _ (fun _ hn=>hn) h
 unfold nO
 split
 ·split
  ·exact .none _ hm
  ·refine k9.like ⟨?_,h2.agr,h2.frame,h2.frame2⟩ (by rw[h1]) (wR (wP 4) _ obj) h
   rw[h1,h2.ok]
 ·exact .none _ hm
theorem U3{P:Program}{obj obj2:Name->Option O}{op:BinOp}{T:TypeId}{x y:D}:bB (mP P obj op T x y) (mP P obj2 op T x y) obj obj2 []:=by
 unfold mP
 (repeat' split)<;>first | exact .same rfl rfl rfl rfl | (exfalso;simp_all;done)
theorem U2{P:Program}{obj obj2:Name->Option O}{op:BinOp}{T:TypeId}{x y:D}{kF:Bool}(h:bu (aG x) obj obj2):bB (lP P obj op T x y kF) (lP P obj2 op T x y kF) obj obj2 []:=by
 unfold lP
 cases kF with
 |true=>
  simp only
  unfold o4
  split
  ·exact .same rfl rfl rfl rfl
  ·rename_i nm k
   have h':obj2 nm=obj nm:=h nm (by simp[aG])
   rw[h']
   exact .same rfl rfl rfl rfl
  ·exact .same rfl rfl rfl rfl
 |false=>
  simp only
  split
  ·unfold lL
   split<;>exact .same rfl rfl rfl rfl
  ·exact U3
theorem UH{obj obj2:Name->Option O}{op:UnOp}{x:D}:bB (lG obj op x) (lG obj2 op x) obj obj2 []:=by
 unfold lG
 (repeat' split)<;>first | exact .same rfl rfl rfl rfl | (exfalso;simp_all;done)
theorem UX{P:Program}{obj obj2:Name->Option O}{T T':TypeId}{x:D}:bB (mO P obj T T' x) (mO P obj2 T T' x) obj obj2 []:=by
 unfold mO o5
 (repeat' split)<;>first | exact .same rfl rfl rfl rfl | (exfalso;simp_all;done)
theorem UU{P:Program}{obj obj2:Name->Option O}{T:TypeId}{x:D}{f:Nat}:bB (lJ P obj T x f) (lJ P obj2 T x f) obj obj2 []:=by
 unfold lJ
 (repeat' split)<;>first | exact .same rfl rfl rfl rfl | (exfalso;simp_all;done)
theorem US{P:Program}{obj obj2:Name->Option O}{T:TypeId}{x y:D}:bB (lI P obj T x y) (lI P obj2 T x y) obj obj2 []:=by
 unfold lI
 (repeat' split)<;>first | exact .same rfl rfl rfl rfl | (exfalso;simp_all;done)
theorem UW{obj obj2:Name->Option O}{x:D}{i:Nat}:bB (lK obj x i) (lK obj2 x i) obj obj2 []:=by
 unfold lK
 (repeat' split)<;>first | exact .same rfl rfl rfl rfl | (exfalso;simp_all;done)
theorem UK{obj obj2:Name->Option O}{c x y:D}:bB (jl obj c x y) (jl obj2 c x y) obj obj2 []:=by
 unfold jl
 split<;>exact .same rfl rfl rfl rfl
theorem UZ{Γ:FuncId->Option Spec}(hN:∀ f s,Γ f=some s->s.Near){σ σ2:S}{t:Name}{f:D}{args:List D}
 (h:bu (match (fw f).bind Γ with | some s=>s.foot σ.obj t (ep f args) | none=>[]) σ.obj σ2.obj):
 bB (sJ Γ σ t f args) (sJ Γ σ2 t f args) σ.obj σ2.obj (match (fw f).bind Γ with | some s=>s.wrt σ.obj t (ep f args) | none=>[])/\
 (match (fw f).bind Γ with | some s=>s.foot σ2.obj t (ep f args) | none=>[])=(match (fw f).bind Γ with | some s=>s.foot σ.obj t (ep f args) | none=>[]):=by
 unfold sJ
 rcases hs:(fw f).bind Γ with _ | s
 ·exact⟨.same rfl rfl rfl rfl,rfl⟩
 ·simp only[hs]at h |-
  obtain⟨g,_,hs⟩:=Option.bind_eq_some_iff.1 hs
  exact⟨(hN g s hs).like _ _ _ _ h,(hN g s hs).foot _ _ _ _ h⟩
theorem Gm{P:Program}{Γ:FuncId->Option Spec}(hN:∀ f s,Γ f=some s->s.Near){σ σ2:S}(t:Name)(op:Op)
 (ho:∀ x∈op.operands.toList,ah σ2 x=ah σ x) (h:bu (bH Γ σ t op) σ.obj σ2.obj):
 bB (aP P Γ σ t op) (aP P Γ σ2 t op) σ.obj σ2.obj (bm Γ σ t op)/\bH Γ σ2 t op=bH Γ σ t op:=by
 cases op with
 |move x=>exact⟨by simp only[aP,ho x (by simp[Op.operands])];exact CB,rfl⟩
 |assign x=>exact⟨by simp only[aP,ho x (by simp[Op.operands])];exact CB,rfl⟩
 |pick c x y=>exact⟨by simp only[aP,ho c (by simp[Op.operands]),ho x (by simp[Op.operands]),ho y (by simp[Op.operands])];exact UK,rfl⟩
 |alloc T=>exact⟨U4 h,rfl⟩
 |box T x=>exact⟨by simp only[aP,ho x (by simp[Op.operands])];exact Jc h,rfl⟩
 |build T ps=>
  have hp:(ps.toList.map fun p=>(p.1,ah σ2 p.2))=ps.toList.map fun p=>(p.1,ah σ p.2):=List.map_congr_left fun p hp=>by rw[ho p.2 (by simp only[Op.operands];exact List.mem_map_of_mem hp)]
  exact⟨by simp only[aP,hp];exact U1,rfl⟩
 |buildSlice T n ps=>
  have hp:(ps.toList.map fun p=>(p.1,ah σ2 p.2))=ps.toList.map fun p=>(p.1,ah σ p.2):=List.map_congr_left fun p hp=>by rw[ho p.2 (by simp only[Op.operands];exact List.mem_map_of_mem hp)]
  have rJ:(ps.toList.map fun p=>ah σ2 p.2)=ps.toList.map fun p=>ah σ p.2:=List.map_congr_left fun p hp=>by rw[ho p.2 (by simp only[Op.operands];exact List.mem_map_of_mem hp)]
  have hm:(ps.toList.map fun p=>(p.1,ah σ p.2)).map (·.2)=ps.toList.map fun p=>ah σ p.2:=by simp
  simp only[bH,bm]at h |-
  rw[rJ]
  rw[<-hm]at h |-
  refine⟨?_,wT _ h⟩
  simp only[aP,hp]
  exact U0 h
 |load T x=>
  simp only[bH,bm,aP,ho x (by simp[Op.operands])]at h |-
  exact⟨UP h,trivial⟩
 |store T x d=>
  simp only[bH,bm,aP,ho x (by simp[Op.operands]),ho d (by simp[Op.operands])]at h |-
  exact⟨UI h,trivial⟩
 |nilCheck x=>
  simp only[bH,bm,aP,ho x (by simp[Op.operands])]at h |-
  exact⟨UL h,trivial⟩
 |binOp op T x y c=>
  simp only[bH,bm,aP,ho x (by simp[Op.operands]),ho y (by simp[Op.operands])]at h |-
  exact⟨U2 h,trivial⟩
 |unOp op T x=>exact⟨by simp only[aP,ho x (by simp[Op.operands])];exact UH,rfl⟩
 |convert s d x=>exact⟨by simp only[aP,ho x (by simp[Op.operands])];exact UX,rfl⟩
 |makeFunc fn f c=>
  have h1:f.toList.map (ah σ2)=f.toList.map (ah σ):=List.map_congr_left fun x hx=>ho x (by simp only[Op.operands,Array.toList_append];exact List.mem_append_left _ hx)
  have h2:c.toList.map (ah σ2)=c.toList.map (ah σ):=List.map_congr_left fun x hx=>ho x (by simp only[Op.operands,Array.toList_append];exact List.mem_append_right _ hx)
  exact⟨by simp only[aP,h1,h2];exact CB,rfl⟩
 |makeMap T r=>
  have h1:r.map (ah σ2)=r.map (ah σ):=by
   cases r with
   |none=>rfl
   |some x=>simp only[Option.map_some,ho x (by simp[Op.operands])]
  exact⟨by simp only[aP,h1];exact UN h,rfl⟩
 |makeSlice T l c=>exact⟨by simp only[aP,ho l (by simp[Op.operands]),ho c (by simp[Op.operands])];exact UM h,rfl⟩
 |slice T x lo hi mx=>
  have e:∀ r:Option Operand,(∀ y∈r.toList,ah σ2 y=ah σ y)->r.map (ah σ2)=r.map (ah σ):=by
   intro r hr
   cases r with
   |none=>rfl
   |some x=>simp only[Option.map_some,hr x (by simp)]
  have h1:=e lo fun y hy=>ho y (by simp[Op.operands]at hy |-;simp[hy])
  have h2:=e hi fun y hy=>ho y (by simp[Op.operands]at hy |-;simp[hy])
  have h3:=e mx fun y hy=>ho y (by simp[Op.operands]at hy |-;simp[hy])
  simp only[bH,bm,aP,ho x (by simp[Op.operands]),h1,h2,h3]at h |-
  exact⟨(UJ h).muts ab1 h,trivial⟩
 |fieldAddr T x f=>
  simp only[bH,bm,aP,ho x (by simp[Op.operands])]at h |-
  exact⟨UT h,trivial⟩
 |field T x f=>exact⟨by simp only[aP,ho x (by simp[Op.operands])];exact UU,rfl⟩
 |indexAddr T x i=>
  simp only[bH,bm,aP,ho x (by simp[Op.operands]),ho i (by simp[Op.operands])]at h |-
  exact⟨UR h,trivial⟩
 |index T x i=>exact⟨by simp only[aP,ho x (by simp[Op.operands]),ho i (by simp[Op.operands])];exact US,rfl⟩
 |lookup T x i co=>
  simp only[bH,bm,aP,ho x (by simp[Op.operands]),ho i (by simp[Op.operands])]at h |-
  exact⟨UO h,trivial⟩
 |mapUpdate T x k d=>
  simp only[bH,bm,aP,ho x (by simp[Op.operands]),ho k (by simp[Op.operands]),ho d (by simp[Op.operands])]at h |-
  exact⟨I' h,trivial⟩
 |insert T x k d=>
  simp only[bH,bm,aP,ho x (by simp[Op.operands]),ho k (by simp[Op.operands]),ho d (by simp[Op.operands])]at h |-
  exact⟨I' h,trivial⟩
 |extract x i=>exact⟨by simp only[aP,ho x (by simp[Op.operands])];exact UW,rfl⟩
 |call c=>
  obtain⟨callee,args,ts⟩:=c
  cases callee with
  |value f=>
   have h1:ah σ2 f=ah σ f:=ho f (by simp[Op.operands,Call.operands])
   have h2:args.toList.map (ah σ2)=args.toList.map (ah σ):=List.map_congr_left fun x hx=>ho x (by simp[Op.operands,Call.operands]at hx |-;simp[hx])
   simp only[bH,bm,aP,h1,h2]at h |-
   exact UZ hN h
  |builtin b=>
   have h2:args.toList.map (ah σ2)=args.toList.map (ah σ):=List.map_congr_left fun x hx=>ho x (by simp[Op.operands,Call.operands]at hx |-;simp[hx])
   have h3:∀ x∈args.toList,ah σ2 x=ah σ x:=fun x hx=>ho x (by simp[Op.operands,Call.operands]at hx |-;simp[hx])
   simp only[aP,h2]
   obtain⟨args⟩:=args
   obtain⟨ts⟩:=ts
   simp only at *
   cases b with
   |len=>
    rcases args with _ | ⟨x,_ | ⟨y,r⟩⟩
    ·exact⟨by rcases ts with _ | ⟨_,_ | _⟩<;>exact .same rfl rfl rfl rfl,rfl⟩
    ·simp only[bH,bm,h3 x (by simp),List.map_cons,List.map_nil]at h |-
     refine⟨?_,trivial⟩
     rcases ts with _ | ⟨T,_ | _⟩<;>first
      |exact .same rfl rfl rfl rfl
      |exact UQ h
    ·refine⟨?_,rfl⟩
     rcases ts with _ | ⟨_,_ | _⟩<;>exact .same rfl rfl rfl rfl
   |append=>
    rcases args with _ | ⟨s,_ | ⟨x,_ | ⟨y,r⟩⟩⟩
    ·refine⟨?_,rfl⟩
     rcases ts with _ | ⟨_,_ | ⟨_,_ | _⟩⟩<;>exact .same rfl rfl rfl rfl
    ·refine⟨?_,rfl⟩
     rcases ts with _ | ⟨_,_ | ⟨_,_ | _⟩⟩<;>exact .same rfl rfl rfl rfl
    ·simp only[bH,bm,h3 x (by simp),h3 s (by simp),List.map_cons,List.map_nil]at h |-
     refine⟨?_,trivial⟩
     rcases ts with _ | ⟨T1,_ | ⟨T2,_ | _⟩⟩<;>first
      |exact yL h
      |exact .none _ h
    ·refine⟨?_,rfl⟩
     rcases ts with _ | ⟨_,_ | ⟨_,_ | _⟩⟩<;>exact .same rfl rfl rfl rfl
   |_=>
    refine⟨?_,rfl⟩
    show bB _ _ _ _ []
    unfold lM
    (repeat' split)<;>first | exact .same rfl rfl rfl rfl | (exfalso;simp_all;done)
  |invoke r m=>exact⟨.same rfl rfl rfl rfl,rfl⟩
 |_=>exact⟨.same rfl rfl rfl rfl,rfl⟩
theorem abS{Γ:FuncId->Option Spec}(hN:∀ f s,Γ f=some s->s.Near){σ σ2:S}(t:Name)(op:Op)
 (ho:∀ x∈op.operands.toList,ah σ2 x=ah σ x) (h:bu (bH Γ σ t op) σ.obj σ2.obj):bm Γ σ2 t op=bm Γ σ t op:=by
 cases op with
 |buildSlice T n ps=>
  have rJ:(ps.toList.map fun p=>ah σ2 p.2)=ps.toList.map fun p=>ah σ p.2:=List.map_congr_left fun p hp=>by rw[ho p.2 (by simp only[Op.operands];exact List.mem_map_of_mem hp)]
  simp only[bH,bm]at h |-
  rw[rJ,wT _ h]
  exact Cp h
 |store T x d=>simp only[bm,ho x (by simp[Op.operands])]
 |mapUpdate T x k d=>simp only[bm,ho x (by simp[Op.operands])]
 |insert T x k d=>simp only[bm,ho x (by simp[Op.operands])]
 |slice T x lo hi mx=>
  simp only[bH,bm,ho x (by simp[Op.operands])]at h |-
  exact Cp h
 |call c=>
  obtain⟨callee,args,ts⟩:=c
  cases callee with
  |value f=>
   have h1:ah σ2 f=ah σ f:=ho f (by simp[Op.operands,Call.operands])
   have h2:args.toList.map (ah σ2)=args.toList.map (ah σ):=List.map_congr_left fun x hx=>ho x (by simp[Op.operands,Call.operands]at hx |-;simp[hx])
   simp only[bH,bm,h1,h2]at h |-
   cases hq:(fw (ah σ f)).bind Γ with
   |none=>rfl
   |some s=>
    simp only[hq]at h |-
    obtain⟨g,hg,hs⟩:=Option.bind_eq_some_iff.1 hq
    exact(hN g s hs).wrt _ _ _ _ h
  |builtin b=>
   have h3:∀ x∈args.toList,ah σ2 x=ah σ x:=fun x hx=>ho x (by simp[Op.operands,Call.operands]at hx |-;simp[hx])
   obtain⟨args⟩:=args
   simp only at *
   cases b with
   |append=>
    rcases args with _ | ⟨s,_ | ⟨x,_ | ⟨y,r⟩⟩⟩<;>first
     |rfl
     |simp only[bm,h3 x (by simp),h3 s (by simp)]
   |_=>rfl
  |invoke r m=>rfl
 |_=>rfl
theorem GF{Γ:FuncId->Option Spec}(hN:∀ f s,Γ f=some s->s.Near){σ:S}(t:Name)(op:Op):∀ nm∈bm Γ σ t op,nm∈bH Γ σ t op:=by
 intro nm hn
 cases op with
 |buildSlice T n ps=>exact(List.mem_filter.1 hn).1
 |slice T x lo hi mx=>exact(List.mem_filter.1 hn).1
 |call c=>
  obtain⟨callee,args,ts⟩:=c
  cases callee with
  |value f=>
   simp only[bH,bm]at hn |-
   cases hq:(fw (ah σ f)).bind Γ with
   |none=>simp[hq]at hn
   |some s=>
    simp only[hq]at hn |-
    obtain⟨g,hg,hs⟩:=Option.bind_eq_some_iff.1 hq
    exact(hN g s hs).sub _ _ _ _ hn
  |builtin b=>cases b<;>first | exact hn | (simp[bm]at hn;done)
  |invoke r m=>simp[bm]at hn
 |_=>first | exact hn | (simp[bm]at hn;done)
section
variable {P:Program} {Γ:FuncId->Option Spec} {ops:Array Oper}
abbrev Oper.tt (σ:S) (o:Oper):Name:=(σ.base+o.dst.getD 0)::σ.pre
theorem T6{σ σ':S}{x:Operand}(h:∀ t,x=.tmp t->σ'.env t=σ.env t):ah σ' x=ah σ x/\cr σ' x=cr σ x:=by
 cases x with
 |tmp t=>exact⟨by simp only[ah,h t rfl],by simp only[cr,h t rfl]⟩
 |_=>exact⟨rfl,rfl⟩
theorem UD{o:Oper}{x:Operand}(hx:x∈o.op.operands.toList){t:Nat}(h:x=.tmp t):t∈o.looksAt ops:=
 List.mem_append_left _ (List.mem_filterMap.2 ⟨x,hx,by subst h;rfl⟩)
theorem I8{o:Oper}{j:Nat}{b:Bool}(hg:o.guard=some (j,b)){s:Nat}(h:nE ops j=some s):s∈o.looksAt ops:=by
 refine List.mem_append_right _ ?_
 unfold nE at h
 simp[hg,h]
theorem aaZ{σ σ':S}{op:Op}(h:∀ x∈op.operands.toList,ah σ' x=ah σ x/\cr σ' x=cr σ x):l7 σ' op=l7 σ op:=by
 have dP:op.operands.toList.all (cr σ')=op.operands.toList.all (cr σ):=by
  refine Bool.eq_iff_iff.2 ?_
  simp only[List.all_eq_true]
  exact⟨fun k x hx=>(h x hx).2▸k x hx,fun k x hx=>(h x hx).2.symm▸k x hx⟩
 cases op with
 |pick c x y=>
  simp only[l7]
  have h1:=h c (by simp[Op.operands])
  have h2:=h x (by simp[Op.operands])
  have h3:=h y (by simp[Op.operands])
  rw[h1.1,h1.2,h2.2,h3.2]
 |_=>exact dP
structure qt (P:Program) (Γ:FuncId->Option Spec) (ops:Array Oper) (σ σ':S) (o:Oper):Prop where
 obl:kD P Γ ops σ' o↔kD P Γ ops σ o
 g:eC ops σ' o=eC ops σ o
 d:(aP P Γ σ' (Oper.tt σ o) o.op).d=(aP P Γ σ (Oper.tt σ o) o.op).d
 eff:∀ nm,(aV P Γ ops σ' o).obj nm=if nm∈bm Γ σ (Oper.tt σ o) o.op then(aV P Γ ops σ o).obj nm else σ'.obj nm
 frame:∀ nm,nm∉bm Γ σ (Oper.tt σ o) o.op->(aV P Γ ops σ o).obj nm=σ.obj nm
 foot:bH Γ σ' (Oper.tt σ o) o.op=bH Γ σ (Oper.tt σ o) o.op
 wrt:bm Γ σ' (Oper.tt σ o) o.op=bm Γ σ (Oper.tt σ o) o.op
theorem vj(hN:∀ f s,Γ f=some s->s.Near){σ σ':S}(o:Oper)(eA:σ'.nt=σ.nt)(rI:σ'.pre=σ.pre)(uC:σ'.base=σ.base)(he:∀ t∈o.looksAt ops,σ'.env t=σ.env t)
 (ha:bu (bH Γ σ (Oper.tt σ o) o.op) σ.obj σ'.obj):qt P Γ ops σ σ' o:=by
 have hx:∀ x∈o.op.operands.toList,ah σ' x=ah σ x/\cr σ' x=cr σ x:=fun x hx=>T6 fun t ht=>he t (UD hx ht)
 have hg:eC ops σ' o=eC ops σ o:=by
  unfold eC
  cases Ed:o.guard with
  |none=>rfl
  |some p=>
   obtain⟨j,b⟩:=p
   simp only
   cases hs:nE ops j with
   |none=>rfl
   |some s=>simp only[he s (I8 Ed hs)]
 have YA:nF ops σ' o↔nF ops σ o:=by
  unfold nF
  cases Ed:o.guard with
  |none=>exact Iff.rfl
  |some p=>
   obtain⟨j,b⟩:=p
   simp only
   cases hs:nE ops j with
   |none=>exact Iff.rfl
   |some s=>simp only[he s (I8 Ed hs),eA]
 obtain⟨h1,h2⟩:=Gm (P:=P) hN (Oper.tt σ o) o.op (fun x h=>(hx x h).1) ha
 have h3:=abS hN (Oper.tt σ o) o.op (fun x h=>(hx x h).1) ha
 refine⟨?_,hg,h1.d,fun nm=>?_,fun nm hn=>?_,h2,h3⟩
 ·have aa:(aP P Γ σ' ((σ.base+o.dst.getD 0)::σ.pre) o.op).ok=(aP P Γ σ ((σ.base+o.dst.getD 0)::σ.pre) o.op).ok:=h1.ok
  unfold kD
  rw[YA,hg,eA,rI,uC,aaZ hx,aa]
 ·unfold aV
  simp only[hg,rI,uC]
  cases hc:eC ops σ o with
  |true=>simp only[if_true];exact h1.eff nm
  |false=>
   simp only[Bool.false_eq_true,if_false]
   split
   ·rename_i hn;exact ha nm (GF hN _ _ nm hn)
   ·rfl
 ·unfold aV
  cases hc:eC ops σ o with
  |true=>simp only[if_true];exact h1.frame nm hn
  |false=>simp only[Bool.false_eq_true,if_false]
theorem qB{σ:S}{o:Oper}{t:Nat}(h:o.dst≠some t):(aV P Γ ops σ o).env t=σ.env t:=by
 unfold aV
 cases hd:o.dst with
 |none=>rfl
 |some s=>exact aH _ _ _ (by rintro rfl;exact h hd)
def xz(a b:List Name):Prop:=∀ nm∈a,nm∉b
theorem comm{oi oj:Oper}(hN:∀ f s,Γ f=some s->s.Near){σ:S}(kN:oi.apart ops oj=true)
 (h1:xz (bm Γ σ (Oper.tt σ oi) oi.op) (bH Γ (aV P Γ ops σ oi) (Oper.tt σ oj) oj.op)) (h2:xz (bm Γ (aV P Γ ops σ oi) (Oper.tt σ oj) oj.op) (bH Γ σ (Oper.tt σ oi) oi.op)):
 qt P Γ ops (aV P Γ ops σ oi) σ oj/\qt P Γ ops σ (aV P Γ ops σ oj) oi/\aV P Γ ops (aV P Γ ops σ oj) oi=aV P Γ ops (aV P Γ ops σ oi) oj:=by
 obtain⟨a1,a2,a3⟩:=Oper.apart_spec kN
 have s0:qt P Γ ops σ σ oi:=vj hN oi rfl rfl rfl (fun _ _=>rfl) (fun _ _=>rfl)
 have s1:qt P Γ ops (aV P Γ ops σ oi) σ oj:=by
  refine vj hN oj rfl rfl rfl (fun t ht=>(qB fun hd=>a1 t hd ht).symm) fun nm hn=>?_
  exact(s0.frame nm fun hw=>h1 nm hw hn).symm
 have s2:qt P Γ ops σ (aV P Γ ops σ oj) oi:=by
  refine vj hN oi rfl rfl rfl (fun t ht=>qB fun hd=>a3 t hd ht) fun nm hn=>?_
  exact(s1.eff nm).trans (if_neg fun hw=>h2 nm hw hn)
 refine⟨s1,s2,?_⟩
 have e1:(aV P Γ ops (aV P Γ ops σ oj) oi).obj=(aV P Γ ops (aV P Γ ops σ oi) oj).obj:=by
  funext nm
  rw[s2.eff nm]
  by_cases hi:nm∈bm Γ σ (Oper.tt σ oi) oi.op
  ·rw[if_pos hi]
   have :=GF hN _ _ nm hi
   have s3:qt P Γ ops (aV P Γ ops σ oi) (aV P Γ ops σ oi) oj:=vj hN oj rfl rfl rfl (fun _ _=>rfl) (fun _ _=>rfl)
   exact(s3.frame nm fun hw=>h2 nm hw this).symm
  ·rw[if_neg hi,s1.eff nm]
   split
   ·rfl
   ·rename_i hj
    have s3:qt P Γ ops (aV P Γ ops σ oi) (aV P Γ ops σ oi) oj:=vj hN oj rfl rfl rfl (fun _ _=>rfl) (fun _ _=>rfl)
    rw[s3.frame nm hj,s0.frame nm hi]
 have e2:(aV P Γ ops (aV P Γ ops σ oj) oi).env=(aV P Γ ops (aV P Γ ops σ oi) oj).env:=by
  funext x
  by_cases hi:oi.dst=some x
  ·have hj:oj.dst≠some x:=a2 x hi
   rw[qB (σ:=aV P Γ ops σ oi) hj]
   show (match oi.dst with
    |some t=>upd (aV P Γ ops σ oj).env t ⟨eC ops (aV P Γ ops σ oj) oi,(aP P Γ (aV P Γ ops σ oj) ((σ.base+t)::σ.pre) oi.op).d⟩
    |none=>(aV P Γ ops σ oj).env) x=(match oi.dst with
    |some t=>upd σ.env t ⟨eC ops σ oi,(aP P Γ σ ((σ.base+t)::σ.pre) oi.op).d⟩
    |none=>σ.env) x
   have d1:=s2.d
   have g1:=s2.g
   unfold Oper.tt at d1
   simp only[hi,Option.getD_some]at d1 |-
   rw[aC,aC,d1,g1]
  ·rw[qB hi]
   by_cases hj:oj.dst=some x
   ·show (match oj.dst with
      |some t=>upd σ.env t ⟨eC ops σ oj,(aP P Γ σ ((σ.base+t)::σ.pre) oj.op).d⟩
      |none=>σ.env) x=(match oj.dst with
      |some t=>upd (aV P Γ ops σ oi).env t ⟨eC ops (aV P Γ ops σ oi) oj,(aP P Γ (aV P Γ ops σ oi) ((σ.base+t)::σ.pre) oj.op).d⟩
      |none=>(aV P Γ ops σ oi).env) x
    have d1:(aP P Γ σ (Oper.tt σ oj) oj.op).d=(aP P Γ (aV P Γ ops σ oi) (Oper.tt σ oj) oj.op).d:=s1.d
    have g1:=s1.g
    unfold Oper.tt at d1
    simp only[hj,Option.getD_some]at d1 |-
    rw[aC,aC,d1,g1]
   ·rw[qB hj,qB hj,qB hi]
 have e3:(aV P Γ ops (aV P Γ ops σ oj) oi).nt=(aV P Γ ops (aV P Γ ops σ oi) oj).nt:=rfl
 have e4:(aV P Γ ops (aV P Γ ops σ oj) oi).pre=(aV P Γ ops (aV P Γ ops σ oi) oj).pre:=rfl
 have e5:(aV P Γ ops (aV P Γ ops σ oj) oi).base=(aV P Γ ops (aV P Γ ops σ oi) oj).base:=rfl
 generalize aV P Γ ops (aV P Γ ops σ oj) oi=x at *
 generalize aV P Γ ops (aV P Γ ops σ oi) oj=y at *
 cases x;cases y
 simp only at e1 e2 e3 e4 e5
 subst e1 e2 e3 e4 e5
 rfl
structure qv where
 on:Nat
 foot:List Name
 wrt:List Name
def yn(anc:List Nat)(foot wrt:List Name)(L:List qv):Prop:=∀ e∈L,e.on∈anc\/(xz e.wrt foot/\xz wrt e.foot)
variable (P Γ ops)in
def qx(anc:Nat->List Nat)(L:List qv)(K:S->Prop):Nat->Array Bool->S->Prop
 | 0,listed,σ=>Region.ready .any ops listed=[]/\K σ
 |fuel+1,listed,σ=>(Region.ready .any ops listed=[]->K σ)/\∀ i∈Region.ready .any ops listed,∀ o,ops[i]?=some o->
    kD P Γ ops σ o/\yn (anc i) (bH Γ σ (Oper.tt σ o) o.op) (bm Γ σ (Oper.tt σ o) o.op) L/\qx anc L K fuel (listed.setIfInBounds i true) (aV P Γ ops σ o)
def xA(ops:Array Oper)(anc:Nat->List Nat):Prop:=∀ j o,ops[j]?=some o->∀ i∈anc j,∃ e∈o.after,Region.binds .any e=true/\(e.on=i\/i∈anc e.on)
def sL(anc:Nat->List Nat)(listed:Array Bool):Prop:=∀ j,listed.getD j false=true->∀ i∈anc j,listed.getD i false=true
theorem sL.ready{anc:Nat->List Nat}{listed:Array Bool}(hA:xA ops anc)(h:sL anc listed){j:Nat}(hj:j∈Region.ready .any ops listed):∀ i∈anc j,listed.getD i false=true:=by
 intro i hi
 obtain⟨_,o,ho,dP⟩:=mem_ready.1 hj
 obtain⟨e,he,hb,h1⟩:=hA j o ho i hi
 have :=dP e he hb
 rcases h1 with h1 | h1
 ·rw[<-h1];exact this
 ·exact h _ this i h1
theorem sL.set{anc:Nat->List Nat}{listed:Array Bool}(hA:xA ops anc)(h:sL anc listed){j:Nat}(hj:j∈Region.ready .any ops listed):sL anc (listed.setIfInBounds j true):=by
 intro k hk i hi
 by_cases LN:j=k
 ·subst LN
  exact getD_set_true (h.ready hA hj i hi)
 ·rw[getD_set_ne false LN]at hk
  exact getD_set_true (h k hk i hi)
theorem pull(hN:∀ f s,Γ f=some s->s.Near){anc:Nat->List Nat}(hA:xA ops anc){K:S->Prop}{i:Nat}{oi:Oper}(hi:ops[i]?=some oi){L:List qv}:
 ∀ (fuel:Nat) (listed:Array Bool) (σ:S),sL anc listed->
   (∀ j oj,ops[j]?=some oj->j≠i->listed.getD j true=false->i∉anc j->oi.apart ops oj=true)->
   i∈Region.ready .any ops listed->kD P Γ ops σ oi->yn (anc i) (bH Γ σ (Oper.tt σ oi) oi.op) (bm Γ σ (Oper.tt σ oi) oi.op) L->
   qx P Γ ops anc (⟨i,bH Γ σ (Oper.tt σ oi) oi.op,bm Γ σ (Oper.tt σ oi) oi.op⟩::L) K fuel (listed.setIfInBounds i true) (aV P Γ ops σ oi)->
   qx P Γ ops anc L K (fuel+1) listed σ:=by
 have weaken:∀ (e:qv) (fuel:Nat) (listed:Array Bool) (σ:S),qx P Γ ops anc (e::L) K fuel listed σ->qx P Γ ops anc L K fuel listed σ:=by
  intro e fuel
  induction fuel with
  |zero=>exact fun _ _ h=>h
  |succ n ih=>exact fun listed σ h=>⟨h.1,fun i hi o ho=>⟨(h.2 i hi o ho).1,fun e' mn=>(h.2 i hi o ho).2.1 e' (List.mem_cons_of_mem _ mn),ih _ _ (h.2 i hi o ho).2.2⟩⟩
 intro fuel
 induction fuel with
 |zero=>
  intro listed σ bO Eg hr dN aa H
  refine⟨fun h=>(by rw[h]at hr;cases hr),fun j hj oj rL=>?_⟩
  by_cases nB:j=i
  ·subst nB
   rw[hi]at rL;cases rL
   exact⟨dN,aa,weaken _ _ _ _ H⟩
  ·have:=ready_mono hj nB
   rw[H.1]at this
   cases this
 |succ fuel ih=>
  intro listed σ bO Eg hr dN aa H
  refine⟨fun h=>(by rw[h]at hr;cases hr),fun j hj oj rL=>?_⟩
  by_cases nB:j=i
  ·subst nB
   rw[hi]at rL;cases rL
   exact⟨dN,aa,weaken _ _ _ _ H⟩
  ·obtain⟨g1,g2,g3⟩:=H.2 j (ready_mono hj nB) oj rL
   have pP:listed.getD j true=false:=(mem_ready.1 hj).1
   have LB:i∉anc j:=fun h=>by
    have h1:=bO.ready hA hj i h
    have h0:=(mem_ready.1 hr).1
    rcases Nat.lt_or_ge i listed.size with h' | h'
    ·simp[h']at h0 h1;rw[h0]at h1;cases h1
    ·simp[Array.getElem?_eq_none h']at h1
   rcases g2 _ List.mem_cons_self with k | ⟨d1,d2⟩
   ·exact(LB k).elim
   simp only at d1 d2
   obtain⟨s1,s2,s3⟩:=comm hN (Eg j oj rL nB pP LB) d1 d2
   have f1:bH Γ σ (Oper.tt σ oj) oj.op=bH Γ (aV P Γ ops σ oi) (Oper.tt σ oj) oj.op:=s1.foot
   have f2:bm Γ σ (Oper.tt σ oj) oj.op=bm Γ (aV P Γ ops σ oi) (Oper.tt σ oj) oj.op:=s1.wrt
   have f3:bH Γ (aV P Γ ops σ oj) (Oper.tt σ oi) oi.op=bH Γ σ (Oper.tt σ oi) oi.op:=s2.foot
   have f4:bm Γ (aV P Γ ops σ oj) (Oper.tt σ oi) oi.op=bm Γ σ (Oper.tt σ oi) oi.op:=s2.wrt
   refine⟨s1.obl.2 g1,?_,?_⟩
   ·rw[f1,f2]
    exact fun e he=>g2 e (List.mem_cons_of_mem _ he)
   ·refine ih _ _ (bO.set hA hj) (fun k ok hk kJ Le dO=>Eg k ok hk kJ ?_ dO) (ready_mono hr (Ne.symm nB)) (s2.obl.2 dN) ?_ ?_
    ·by_cases rZ:j=k
     ·subst rZ;exact pP
     ·rw[getD_set_ne true rZ]at Le;exact Le
    ·show yn (anc i) (bH Γ (aV P Γ ops σ oj) (Oper.tt σ oi) oi.op) (bm Γ (aV P Γ ops σ oj) (Oper.tt σ oi) oi.op) L
     rw[f3,f4];exact aa
    ·show qx P Γ ops anc (⟨i,bH Γ (aV P Γ ops σ oj) (Oper.tt σ oi) oi.op,bm Γ (aV P Γ ops σ oj) (Oper.tt σ oi) oi.op⟩::L) K fuel _ _
     rw[Array.setIfInBounds_comm _ _ nB,f3,f4,s3]
     exact g3
theorem O5(hΓ:∀ f s,Γ f=some s->ak P f s){G:Ghost}{Q:Exit->Act->World->Prop}{K:S->Prop}{anc:Nat->List Nat}{L:List qv}:
 ∀ (fuel:Nat) (listed:Array Bool) {φ:Name->Loc} {m:Mem} {σ:S} {a:Act} {w:World},aB G φ m σ a w->qx P Γ ops anc L K fuel listed σ->
   (∀ a' w' φ' m' σ',aB G φ' m' σ' a' w'->K σ'->Q .normal a' w')->wpAnyIn (eU G.rd) 0 P .any ops Q fuel listed a w
 | 0,listed,φ,m,σ,a,w,hC,h,hQ=>⟨h.1,hQ _ _ φ m σ hC h.2⟩
 |fuel+1,listed,φ,m,σ,a,w,hC,h,hQ=>by
  refine⟨fun h0=>hQ _ _ φ m σ hC (h.1 h0),fun i hi=>?_⟩
  obtain⟨_,o,ho,_⟩:=mem_ready.1 hi
  obtain⟨h1,_,h3⟩:=h.2 i hi o ho
  exact Bj hΓ hC ho h1 fun a' w' φ' m' bx=>O5 hΓ fuel _ bx h3 hQ
end
section
variable {P:Program} {Γ:FuncId->Option Spec} {ops:Array Oper}
structure sK where
 anc:List Nat
 past:qv
def dY:Name->Name->Bool
 |[],[]=>true
 |x::r,y::s=>Nat.beq x y&&dY r s
 |_,_=>false
theorem gf:∀ {a b:Name},dY a b=true↔a=b
 |[],[]=>by simp[dY]
 |[],_::_=>by simp[dY]
 |_::_,[]=>by simp[dY]
 |x::r,y::s=>by
  simp only[dY,Bool.and_eq_true,Nat.beq_eq,List.cons.injEq,gf]
def tL:List Name->Name->Bool
 |[],_=>false
 |x::r,nm=>dY x nm||tL r nm
theorem I4:∀ {l:List Name} {nm:Name},tL l nm=true↔nm∈l
 |[],nm=>by simp[tL]
 |x::r,nm=>by
  simp only[tL,Bool.or_eq_true,gf,List.mem_cons,I4]
  exact⟨fun h=>h.imp Eq.symm id,fun h=>h.imp Eq.symm id⟩
def jV:List Nat->Nat->Bool
 |[],_=>false
 |x::r,n=>Nat.beq x n||jV r n
theorem I5:∀ {l:List Nat} {n:Nat},jV l n=true↔n∈l
 |[],n=>by simp[jV]
 |x::r,n=>by
  simp only[jV,Bool.or_eq_true,Nat.beq_eq,List.mem_cons,I5]
  exact⟨fun h=>h.imp Eq.symm id,fun h=>h.imp Eq.symm id⟩
def uO:List Name->List Name->Bool
 |[],_=>true
 |x::r,b=>!tL b x&&uO r b
theorem Fx:∀ {a b:List Name},uO a b=true->xz a b
 |[],_,_=>fun nm h=>by cases h
 |x::r,b,h=>by
  simp only[uO,Bool.and_eq_true,Bool.not_eq_true']at h
  intro nm ha hb
  rcases List.mem_cons.1 ha with rfl | ha
  ·rw[I4.2 hb]at h;cases h.1
  ·exact Fx h.2 nm ha hb
def N9(p:sK)(e:sK):Bool:=jV p.anc e.past.on||(uO e.past.wrt p.past.foot&&uO p.past.wrt e.past.foot)
def tq:List sK->Bool
 |[]=>true
 |p::L=>L.all (N9 p)&&tq L
variable (P Γ ops)in
def o7:Nat->List (List Nat)->List Oper->List sK->S->(S->Prop)->Prop
 |_,_,[],L,σ,K=>tq L=true/\K σ
 |i,az,o::r,L,σ,K=>kD P Γ ops σ o/\
   o7 (i+1) az.tail r (⟨az.headD [],i,bH Γ σ ((σ.base+o.dst.getD 0)::σ.pre) o.op,bm Γ σ ((σ.base+o.dst.getD 0)::σ.pre) o.op⟩::L) (aV P Γ ops σ o) K
variable (P Γ ops)in
def Gq(anc:Nat->List Nat):Nat->List Oper->List qv->S->(S->Prop)->Prop
 |_,[],_,σ,K=>K σ
 |i,o::r,L,σ,K=>kD P Γ ops σ o/\yn (anc i) (bH Γ σ (Oper.tt σ o) o.op) (bm Γ σ (Oper.tt σ o) o.op) L/\
   Gq anc (i+1) r (⟨i,bH Γ σ (Oper.tt σ o) o.op,bm Γ σ (Oper.tt σ o) o.op⟩::L) (aV P Γ ops σ o) K
theorem HW{anc:Nat->List Nat}{K:S->Prop}:∀ (l:List Oper) (i:Nat) (az:List (List Nat)) (L:List sK) (σ:S),(∀ k,az.getD k []=anc (i+k))->
 o7 P Γ ops i az l L σ K->tq L=true/\Gq P Γ ops anc i l (L.map (·.past)) σ K
 |[],i,az,L,σ,_,h=>h
 |o::r,i,az,L,σ,ha,h=>by
  obtain⟨h1,h2⟩:=h
  obtain⟨h3,h4⟩:=HW (anc:=anc) r (i+1) az.tail _ _ (fun k=>by
   have :=ha (k+1)
   rw[show i+(k+1)=i+1+k by omega]at this
   rw[<-this]
   cases az<;>rfl) h2
  simp only[tq,Bool.and_eq_true]at h3
  refine⟨h3.2,h1,?_,h4⟩
  intro e he
  obtain⟨p,hp,rfl⟩:=List.mem_map.1 he
  have :=List.all_eq_true.1 h3.1 p hp
  simp only[N9,Bool.or_eq_true,Bool.and_eq_true]at this
  rcases this with k | ⟨k1,k2⟩
  ·left
   have h0:az.headD []=anc i:=by
    have :=ha 0
    rw[Nat.add_zero]at this
    rw[<-this]
    cases az<;>rfl
   rw[h0]at k
   exact I5.1 k
  ·exact .inr ⟨Fx k1,Fx k2⟩
theorem HX(hN:∀ f s,Γ f=some s->s.Near){anc:Nat->List Nat}(hA:xA ops anc)(kN:∀ i j oi oj,ops[i]?=some oi->ops[j]?=some oj->i<j->i∉anc j->oi.apart ops oj=true)
 (zU:∀ j o,ops[j]?=some o->∀ e∈o.after,Region.binds .any e=true->e.on<j) {K:S->Prop}:
 ∀ (n k:Nat) (L:List qv) (listed:Array Bool) (σ:S),k+n=ops.size->listed.size=ops.size->(∀ j,listed.getD j false=decide (j<k))->sL anc listed->
   Gq P Γ ops anc k (ops.toList.drop k) L σ K->qx P Γ ops anc L K n listed σ
 | 0,k,L,listed,σ,hk,hs,hl,bO,h=>by
   have :ops.toList.drop k=[]:=List.drop_eq_nil_of_le (by simp;omega)
   rw[this]at h
   refine⟨?_,h⟩
   refine List.eq_nil_iff_forall_not_mem.2 fun j hj=>?_
   obtain⟨h1,o,ho,_⟩:=mem_ready.1 hj
   have ae:j<ops.size:=(Array.getElem?_eq_some_iff.1 ho).1
   have :=hl j
   simp only[Array.getD_eq_getD_getElem?,Array.getElem?_eq_getElem (show j<listed.size by omega),Option.getD_some]at h1 this
   rw[h1]at this
   simp at this
   omega
 |n+1,k,L,listed,σ,hk,hs,hl,bO,h=>by
  have ae:k<ops.size:=by omega
  have hd:ops.toList.drop k=ops[k]::ops.toList.drop (k+1):=by
   rw[List.drop_eq_getElem_cons (by simpa using ae)];simp
  rw[hd]at h
  obtain⟨h1,h2,h3⟩:=h
  have aa:ops[k]?=some ops[k]:=Array.getElem?_eq_getElem ae
  have uj:∀ j,j<listed.size->listed.getD j true=listed.getD j false:=by
   intro j hj
   simp only[Array.getD_eq_getD_getElem?,Array.getElem?_eq_getElem hj,Option.getD_some]
  have hr:k∈Region.ready .any ops listed:=by
   refine mem_ready.2 ⟨?_,_,aa,fun e he hb=>?_⟩
   ·rw[uj k (by omega),hl k];simp
   ·rw[hl];simpa using zU k _ aa e he hb
  refine pull hN hA aa n listed σ bO (fun j oj hj aj pP dO=>?_) hr h1 h2 ?_
  ·have D2:j<ops.size:=(Array.getElem?_eq_some_iff.1 hj).1
   rw[uj j (by omega),hl j]at pP
   simp at pP
   exact kN k j _ oj aa hj (by omega) dO
  ·refine HX hN hA kN zU n (k+1) _ _ _ (by omega) (by simpa using hs) (fun j=>?_) (bO.set hA hr) h3
   by_cases rZ:k=j
   ·subst rZ
    simp[show k<listed.size by omega]
   ·rw[getD_set_ne false rZ,hl j]
    refine decide_eq_decide.2 ?_
    omega
def sX(ops:Array Oper)(az:List (List Nat)):Bool:=
 (List.range ops.size).all fun j=>match ops[j]? with
   |none=>true
   |some oj=>(oj.after.toList.all fun e=>!Region.binds .any e||decide (e.on<j))&&
      ((az.getD j []).all fun i=>oj.after.toList.any fun e=>Region.binds .any e&&(e.on==i||(az.getD e.on []).contains i))&&
      (List.range j).all fun i=>(az.getD j []).contains i||(match ops[i]? with | some oi=>oi.apart ops oj | none=>true)
theorem Ap(hΓ:∀ f s,Γ f=some s->ak P f s)(hP:P.follows .mixedOrders=true){id:Nat}{l:List Oper}{σ:S}{K:Exit->S->Prop}(az:List (List Nat))
 (hs:sX l.toArray az=true) (h:∀ K':S->Prop,(∀ σ',K .normal σ'->K' σ')->o7 P Γ l.toArray 0 az l [] σ K'):CW P (.region id l.toArray true) σ K:=by
 intro G φ m a w hC
 have gj:∀ j oj,l.toArray[j]?=some oj->(oj.after.toList.all fun e=>!Region.binds .any e||decide (e.on<j))=true/\
       ((az.getD j []).all fun i=>oj.after.toList.any fun e=>Region.binds .any e&&(e.on==i||(az.getD e.on []).contains i))=true/\
       ((List.range j).all fun i=>(az.getD j []).contains i||(match l.toArray[i]? with | some oi=>oi.apart l.toArray oj | none=>true))=true:=by
  intro j oj hj
  have :=List.all_eq_true.1 hs j (List.mem_range.2 (Array.getElem?_eq_some_iff.1 hj).1)
  simp only[hj,Bool.and_eq_true]at this
  exact⟨this.1.1,this.1.2,this.2⟩
 have hN:∀ f s,Γ f=some s->s.Near:=fun f s h=>(hΓ f s h).near
 have hA:xA l.toArray (fun j=>az.getD j []):=by
  intro j o ho i hi
  have :=List.all_eq_true.1 (gj j o ho).2.1 i hi
  obtain⟨e,he,h1⟩:=List.any_eq_true.1 this
  simp only[Bool.and_eq_true,Bool.or_eq_true,beq_iff_eq,List.contains_iff_mem]at h1
  exact⟨e,by simpa using he,h1.1,h1.2⟩
 have kN:∀ i j oi oj,l.toArray[i]?=some oi->l.toArray[j]?=some oj->i<j->i∉az.getD j []->oi.apart l.toArray oj=true:=by
  intro i j oi oj h1 h2 h3 h4
  have :=List.all_eq_true.1 (gj j oj h2).2.2 i (List.mem_range.2 h3)
  simp only[h1,Bool.or_eq_true]at this
  rcases this with k | k
  ·exact(h4 (by simpa using k)).elim
  ·exact k
 have zU:∀ j o,l.toArray[j]?=some o->∀ e∈o.after,Region.binds .any e=true->e.on<j:=by
  intro j o ho e he hb
  have :=List.all_eq_true.1 (gj j o ho).1 e (by simpa using he)
  simpa[hb]using this
 refine wpIn_region_any hP ?_
 obtain⟨_,hD⟩:=HW (anc:=fun j=>az.getD j []) l 0 az [] σ (fun k=>by simp) (h (K .normal) fun _ h=>h)
 refine O5 hΓ (K:=K .normal) _ _ (hC.drawn _) (HX hN hA kN zU l.toArray.size 0 [] _ σ (by simp) (by simp) (fun j=>?_) (fun j hj=>?_) (by simpa using hD)) fun a' w' φ' m' σ' bx hK=>⟨φ',m',σ',bx,hK⟩
 ·by_cases hj:j<l.length<;>simp[hj]
 ·by_cases eT:j<l.length<;>simp[eT]at hj
theorem abd(hΓ:∀ f s,Γ f=some s->ak P f s)(hP:P.follows .mixedOrders=true){id:Nat}{l:List Oper}{c:Code}{r:List Code}{σ:S}{K:Exit->S->Prop}(az:List (List Nat))(ks:List Nat)(ns:List Name)
 (hs:sX l.toArray az=true) (h:∀ K':S->Prop,(∀ σ',fv ks ns σ'->CL P (c::r) (fD ks ns σ') K->K' σ')->o7 P Γ l.toArray 0 az l [] σ K'):CL P (.region id l.toArray true::c::r) σ K:=
 Ap hΓ hP az hs fun K' hK=>h K' fun σ' hc hy=>hK σ' (Ao ks ns hc hy)
theorem N8(hΓ:∀ f s,Γ f=some s->ak P f s)(hP:P.follows .mixedOrders=true){id:Nat}{l:List Oper}{σ:S}{K:Exit->S->Prop}(az:List (List Nat))
 (hs:sX l.toArray az=true) (h:∀ K':S->Prop,(∀ σ',K .normal σ'->K' σ')->o7 P Γ l.toArray 0 az l [] σ K'):CL P [.region id l.toArray true] σ K:=
 Ap hΓ hP az hs fun K' hK=>h K' fun σ' hc=>hK σ' hc
end
attribute [go_sem] dY tL jV uO Nat.beq_eq_true_eq o7 bH bm aG fp dQ fw ep muts O.mut PSpec.toSpec List.headD_cons List.headD_nil List.tail_cons List.tail_nil
mutual
def D.ren(f:Name->Name):D->D
 | .v x=>.v x
 | .nilsl=>.nilsl
 | .nilmap=>.nilmap
 | .ref nm o=>.ref (f nm) o
 | .msl nm k=>.msl (f nm) k
 | .aref nm k i o=>.aref (f nm) k i o
 | .map nm=>.map (f nm)
 | .yld nm=>.yld (f nm)
 | .clo fn a b=>.clo fn (D.renL f a) (D.renL f b)
 | .agg l=>.agg (D.renL f l)
 | .tup l=>.tup (D.renL f l)
 | .any=>.any
def D.renL(f:Name->Name):List D->List D
 |[]=>[]
 |d::r=>D.ren f d::D.renL f r
end
def E.ren(f:Name->Name)(e:E):E:=⟨e.c,e.d.ren f⟩
def O.ren(f:Name->Name):O->O
 | .box cs=>.box (D.renL f cs)
 | .loop env ps asg body st bh=>.loop (env.map (E.ren f)) ps asg body st bh
 | .arr sz l=>.arr sz l
 | .map kd es=>.map kd es
 | .fbox cs=>.fbox cs
 | .farr sz l=>.farr sz l
 | .dead sz n=>.dead sz n
theorem ic(f:Name->Name):∀ l:List D,D.renL f l=l.map (D.ren f)
 |[]=>rfl
 |d::r=>by simp only[D.renL,List.map_cons,ic f r]
theorem D.one_ren(f:Name->Name)(d:D):(d.ren f).one=d.one:=by cases d<;>rfl
theorem O.len_ren(f:Name->Name)(o:O):(o.ren f).len?=o.len?:=by cases o<;>rfl
theorem O.sz_ren(f:Name->Name)(o:O):(o.ren f).sz=o.sz:=by cases o<;>rfl
theorem O.mut_ren(f:Name->Name)(o:O):(o.ren f).mut=o.mut:=by cases o<;>rfl
def u7(f:Name->Name)(φ φ':Name->Loc)(obj obj':Name->Option O)(dom:Name->Bool):Prop:=
 ∀ nm o,dom nm=true->obj nm=some o->∃ o',obj' (f nm)=some o'/\
   ((o'.len?=o.len?/\φ' (f nm)=φ nm/\o'.sz=o.sz)\/(∃ n n',o.len?=some n/\o'.len?=some n'/\n<n'))
theorem au.renx{f:Name->Name}{φ φ':Name->Loc}{obj obj':Name->Option O}{m m':Mem}{dom:Name->Bool}(hm:Mem.le m m')(hx:u7 f φ φ' obj obj' dom){d:D}{u:Value}
 (h:au φ obj m d u) (hc:D.clos dom d=true):au φ' obj' m' (d.ren f) u:=by
 induction h with
 |any u=>exact .any u
 |v x u h=>exact .v x u (h.mono hm)
 |nilsl a=>exact .nilsl a
 |nilmap=>exact .nilmap
 |ref nm off h=>
  obtain⟨o,ho,hl⟩:=h
  obtain⟨o',cM,h⟩:=hx nm o hc ho
  rcases h with⟨h1,h2,h3⟩ | ⟨n,n',h1,h2,h3⟩
  ·rw[<-h2];exact .ref (f nm) off ⟨o',cM,h1.trans hl⟩
  ·rw[hl]at h1;cases h1
 |map nm h=>
  obtain⟨o,ho,hl⟩:=h
  obtain⟨o',cM,h⟩:=hx nm o hc ho
  rcases h with⟨h1,h2,h3⟩ | ⟨n,n',h1,h2,h3⟩
  ·rw[<-h2];exact .map (f nm) ⟨o',cM,h1.trans hl⟩
  ·rw[hl]at h1;cases h1
 |yld nm h=>
  obtain⟨o,ho,hl⟩:=h
  obtain⟨o',cM,h⟩:=hx nm o hc ho
  rcases h with⟨h1,h2,h3⟩ | ⟨n,n',h1,h2,h3⟩
  ·rw[<-h2];exact .yld (f nm) ⟨o',cM,h1.trans hl⟩
  ·rw[hl]at h1;cases h1
 |msl nm k u h hu=>
  obtain⟨o,n,ho,hl,hk,he⟩:=h
  obtain⟨o',cM,h⟩:=hx nm o hc ho
  rcases h with⟨h1,h2,h3⟩ | ⟨n1,n',h1,h2,h3⟩
  ·exact .msl (f nm) k u ⟨o',n,cM,h1.trans hl,hk,fun e=>by rw[h2];exact he e⟩ hu
  ·rw[hl]at h1;cases h1
   exact .msl (f nm) k u ⟨o',n',cM,h2,by omega,fun e=>by omega⟩ hu
 |aref nm k i off u h hu=>
  obtain⟨o,n,ho,hl,hk,he⟩:=h
  obtain⟨o',cM,h⟩:=hx nm o hc ho
  rcases h with⟨h1,h2,h3⟩ | ⟨n1,n',h1,h2,h3⟩
  ·exact .aref (f nm) k i off u ⟨o',n,cM,h1.trans hl,hk,fun e=>by rw[h2,h3];exact he e⟩ hu
  ·rw[hl]at h1;cases h1
   exact .aref (f nm) k i off u ⟨o',n',cM,h2,by omega,fun e=>by omega⟩ hu
 |clo fn fs cs us vs h1 h2 bY dL ou ot=>
  simp only[D.clos,Bool.and_eq_true]at hc
  simp only[D.ren,ic]
  refine .clo fn _ _ us vs (by simpa using h1) (by simpa using h2) (fun i a b=>?_) (fun i a b=>?_)
  ·simp only[List.getElem_map];exact ou i (by simpa using a) b (iw _ hc.1)
  ·simp only[List.getElem_map];exact ot i (by simpa using a) b (iw _ hc.2)
 |agg l us h ho hr ih=>
  simp only[D.clos]at hc
  simp only[D.ren,ic]
  refine .agg _ us (by simpa using h) (fun d hd=>?_) (fun i a b=>?_)
  ·obtain⟨d',h1,rfl⟩:=List.mem_map.1 hd
   rw[D.one_ren];exact ho d' h1
  ·simp only[List.getElem_map];exact ih i (by simpa using a) b (iw _ hc)
 |tup l us h hr ih=>
  simp only[D.clos]at hc
  simp only[D.ren,ic]
  refine .tup _ us (by simpa using h) (fun i a b=>?_)
  simp only[List.getElem_map];exact ih i (by simpa using a) b (iw _ hc)
theorem bQ.renx{f:Name->Name}{φ φ':Name->Loc}{obj obj':Name->Option O}{m m':Mem}{dom:Name->Bool}(hm:Mem.le m m')(hx:u7 f φ φ' obj obj' dom){e:E}{u:Value}
 (h:bQ φ obj m e u) (hc:D.clos dom e.d=true):bQ φ' obj' m' (e.ren f) u:=by
 unfold bQ at *
 have e0:(E.ren f e).c=e.c:=rfl
 have e1:(E.ren f e).d=e.d.ren f:=rfl
 rw[e0,e1]
 by_cases hh:e.c=true
 ·rw[if_pos hh]at h |-;exact h.renx hm hx hc
 ·rw[if_neg hh]at h |-;exact h
theorem gJ.ren{f:Name->Name}{φ φ':Name->Loc}{obj obj':Name->Option O}{m m':Mem}{dom:Name->Bool}{o:O}{p:Loc}{w w':World}(hm:Mem.le m m')(hx:u7 f φ φ' obj obj' dom)
 (hc:O.clos dom o=true) (hw:o.mut=true->p.nul=false->w'.heap[p.blk]?=w.heap[p.blk]?) (h:gJ φ obj m o p w):gJ φ' obj' m' (o.ren f) p w':=by
 cases o with
 |box cs=>
  obtain⟨h0,h1,fb,us,T,g,h2,h3,h4,h5⟩:=h
  simp only[O.clos]at hc
  simp only[O.ren,gJ,ic,List.length_map,List.getElem_map,List.mem_map,forall_exists_index,and_imp,forall_apply_eq_imp_iff₂,D.one_ren]
  exact⟨h0,h1,fb,us,T,g,by rw[hw rfl h1];exact h2,h3,h4,fun i a b=>(h5 i a b).renx hm hx (iw a hc)⟩
 |arr sz l=>
  rcases h with⟨h,h'⟩ | ⟨h0,h1,h2,h3,h4,us,T,f,h5,h6,h7,h8⟩
  ·exact .inl ⟨h,h'⟩
  ·exact .inr ⟨h0,h1,h2,h3,h4,us,T,f,by rw[hw rfl h0];exact h5,h6,h7,fun i j a b=>let ⟨c,x,y⟩:=h8 i j a b;⟨c,x,y.mono hm⟩⟩
 |map kd es=>
  obtain⟨h0,h1,fb,us,T,h2,h3,h4⟩:=h
  exact⟨h0,h1,fb,us,T,by rw[hw rfl h1];exact h2,h3,fun i a b=>⟨(h4 i a b).1.mono hm,(h4 i a b).2.mono hm⟩⟩
 |fbox cs=>exact⟨h.1,fun i a=>let ⟨c,x,y⟩:=h.2 i a;⟨c,hm _ _ _ x,y.mono hm⟩⟩
 |farr sz l=>
  rcases h with⟨h,h'⟩ | ⟨h0,h1,h2,h3,h4⟩
  ·exact .inl ⟨h,h'⟩
  ·exact .inr ⟨h0,h1,h2,h3,fun i j a b=>let ⟨c,x,y⟩:=h4 i j a b;⟨c,hm _ _ _ x,y.mono hm⟩⟩
 |dead=>exact h
 |loop env ps asg body st bh=>
  obtain⟨h0,h1,r,h2,h3,h4,h5,h6,h7,h8,h9⟩:=h
  simp only[O.clos]at hc
  simp only[O.ren,gJ,List.length_map,List.getElem_map]
  refine⟨h0,h1,r,by rw[hw rfl h1];exact h2,h3,h4,h5,h6,h7,h8,fun i a=>(h9 i a).renx hm hx ?_⟩
  have :=iw (l:=env.map (·.d)) (i:=i) (by simpa using a) hc
  simpa using this
mutual
theorem D.ren_id{f g:Name->Name}{dom:Name->Bool}(jC:∀ nm,dom nm=true->g (f nm)=nm):∀ d:D,D.clos dom d=true->(d.ren f).ren g=d
 | .v _,_=>rfl
 | .nilsl,_=>rfl
 | .nilmap,_=>rfl
 | .any,_=>rfl
 | .ref nm _,h=>by simp only[D.ren];rw[jC nm h]
 | .msl nm _,h=>by simp only[D.ren];rw[jC nm h]
 | .aref nm _ _ _,h=>by simp only[D.ren];rw[jC nm h]
 | .map nm,h=>by simp only[D.ren];rw[jC nm h]
 | .yld nm,h=>by simp only[D.ren];rw[jC nm h]
 | .clo _ a b,h=>by
   simp only[D.clos,Bool.and_eq_true]at h
   simp only[D.ren];rw[D.renL_id jC a h.1,D.renL_id jC b h.2]
 | .agg l,h=>by simp only[D.clos]at h;simp only[D.ren];rw[D.renL_id jC l h]
 | .tup l,h=>by simp only[D.clos]at h;simp only[D.ren];rw[D.renL_id jC l h]
theorem D.renL_id{f g:Name->Name}{dom:Name->Bool}(jC:∀ nm,dom nm=true->g (f nm)=nm):∀ l:List D,D.closL dom l=true->D.renL g (D.renL f l)=l
 |[],_=>rfl
 |d::r,h=>by
  simp only[D.closL,Bool.and_eq_true]at h
  simp only[D.renL];rw[D.ren_id jC d h.1,D.renL_id jC r h.2]
end
theorem O.ren_id{f g:Name->Name}{dom:Name->Bool}(jC:∀ nm,dom nm=true->g (f nm)=nm)(o:O)(h:O.clos dom o=true):(o.ren f).ren g=o:=by
 cases o with
 |box cs=>simp only[O.clos]at h;simp only[O.ren];rw[D.renL_id jC cs h]
 |loop env ps asg body st bh=>
  simp only[O.clos]at h
  simp only[O.ren,List.map_map,O.loop.injEq,and_true]
  refine List.ext_getElem (by simp) fun i h1 h2=>?_
  have :=iw (l:=env.map (·.d)) (i:=i) (by simpa using h2) h
  simp only[List.getElem_map,Function.comp_apply,E.ren]at this |-
  rw[D.ren_id jC _ this]
 |_=>rfl
mutual
def re:D->List Name
 | .ref nm _=>[nm]
 | .msl nm _=>[nm]
 | .aref nm _ _ _=>[nm]
 | .map nm=>[nm]
 | .yld nm=>[nm]
 | .clo _ a b=>cJ a++cJ b
 | .agg l=>cJ l
 | .tup l=>cJ l
 |_=>[]
def cJ:List D->List Name
 |[]=>[]
 |d::r=>re d++cJ r
end
def l9:O->List Name
 | .box cs=>cJ cs
 | .loop env _ _ _ _ _=>cJ (env.map (·.d))
 |_=>[]
def b8(L:List Name)(nm:Name):Bool:=L.any fun x=>x==nm
def dA(obj:Name->Option O):Nat->List Name->List Name->List Name
 | 0,_,acc=>acc
 |_+1,[],acc=>acc
 |n+1,x::todo,acc=>if b8 acc x=true then dA obj n todo acc else dA obj n ((match obj x with | some o=>l9 o | none=>[])++todo) (acc++[x])
def reach(obj:Name->Option O)(ds:List D):List Name:=dA obj 3000 (cJ ds) []
theorem gQ{L:List Name}{nm:Name}:b8 L nm=true↔nm∈L:=by
 simp only[b8,List.any_eq_true,beq_iff_eq]
 exact⟨fun ⟨x,h,e⟩=>e▸h,fun h=>⟨nm,h,rfl⟩⟩
theorem BI{obj:Name->Option O}:∀ (n:Nat) (todo acc:List Name),∀ nm∈acc,nm∈dA obj n todo acc
 | 0,_,_,_,h=>h
 |_+1,[],_,_,h=>h
 |n+1,x::todo,acc,nm,h=>by
  simp only[dA]
  split
  ·exact BI n _ _ nm h
  ·exact BI n _ _ nm (by simp[h])
theorem xX{obj:Name->Option O}:∀ (n:Nat) (todo acc:List Name),acc.Nodup->(dA obj n todo acc).Nodup
 | 0,_,_,h=>h
 |_+1,[],_,h=>h
 |n+1,x::todo,acc,h=>by
  simp only[dA]
  split
  ·exact xX n _ _ h
  ·rename_i hx
   refine xX n _ _ (List.nodup_append.2 ⟨h,by simp,fun a ha b hb=>?_⟩)
   simp only[List.mem_singleton]at hb
   subst hb
   rintro rfl
   exact hx (gQ.2 ha)
theorem BH{obj obj2:Name->Option O}:∀ (n:Nat) (todo acc:List Name),bu (dA obj n todo acc) obj obj2->dA obj2 n todo acc=dA obj n todo acc
 | 0,_,_,_=>rfl
 |_+1,[],_,_=>rfl
 |n+1,x::todo,acc,h=>by
  simp only[dA]at h |-
  split
  ·rename_i hx;rw[if_pos hx]at h;exact BH n _ _ h
  ·rename_i hx
   rw[if_neg hx]at h
   have aW:obj2 x=obj x:=h x (BI n _ _ x (by simp))
   rw[aW]
   exact BH n _ _ h
def idx:List Name->Name->Nat
 |[],_=>0
 |x::r,nm=>if x=nm then 0 else idx r nm+1
def cin(L:List Name)(nm:Name):Name:=[idx L nm,1]
def cout(L:List Name)(t:Name):Name->Name
 |[i,1]=>L.getD i []
 |x=>x++t
def cE:Name->Bool
 |[_,1]=>true
 |_=>false
theorem tQ:∀ {L:List Name} {nm:Name},nm∈L->∃ h:idx L nm<L.length,L[idx L nm]=nm
 |x::r,nm,h=>by
  simp only[idx]
  by_cases e:x=nm
  ·subst e;simp
  ·simp only[if_neg e]
   obtain⟨h1,h2⟩:=tQ (L:=r) (nm:=nm) (by rcases List.mem_cons.1 h with h | h; · exact(e h.symm).elim
                                         ·exact h)
   exact⟨by simp;omega,by simpa using h2⟩
theorem aaX{L:List Name}{t nm:Name}(h:nm∈L):cout L t (cin L nm)=nm:=by
 obtain⟨h1,h2⟩:=tQ h
 show L.getD (idx L nm) []=nm
 rw[List.getD_eq_getElem?_getD,List.getElem?_eq_getElem h1];simpa using h2
theorem uU{L:List Name}{t x:Name}(h:cE x=false):cout L t x=x++t:=by
 unfold cout
 split
 ·simp[cE]at h
 ·rfl
theorem tN{x:Name}:cE x=true↔∃ i,x=[i,1]:=by
 constructor
 ·intro h
  unfold cE at h
  split at h
  ·exact⟨_,rfl⟩
  ·cases h
 ·rintro⟨i,rfl⟩;rfl
theorem Iu(i:Nat):own [0] [i,1]=false:=by simp[own]
theorem C5{L:List Name}(hn:L.Nodup){i:Nat}(h:i<L.length):idx L L[i]=i:=by
 obtain⟨h1,h2⟩:=tQ (List.getElem_mem h)
 exact(List.getElem_inj hn).1 h2
structure Out where
 upd:List (Nat×O)
 new:List (Name×O)
 d:D
 deriving Inhabited
def eO:List (Nat×O)->Nat->O->O
 |[],_,o=>o
 |(j,o')::r,i,o=>eO r i (if j=i then o' else o)
def b7(L:List Name)(t:Name):List (Nat×O)->(Name->Option O)->(Name->Option O)
 |[],obj=>obj
 |(i,o)::r,obj=>b7 L t r (upd obj (L.getD i []) (some (o.ren (cout L t))))
def cY(L:List Name)(t:Name):List (Name×O)->(Name->Option O)->(Name->Option O)
 |[],obj=>obj
 |(x,o)::r,obj=>cY L t r (upd obj (x++t) (some (o.ren (cout L t))))
theorem H7{L:List Name}{t:Name}(hn:L.Nodup):∀ (l:List (Nat×O)) (obj:Name->Option O) {i:Nat} (h:i<L.length) (o:O) (_:(l.all fun x=>decide (x.1<L.length))=true) (_:obj L[i]=some (o.ren (cout L t))),
 b7 L t l obj L[i]=some ((eO l i o).ren (cout L t))
 |[],obj,i,h,o,_,ho=>ho
 |(j,o')::r,obj,i,h,o,hl,ho=>by
  simp only[List.all_cons,Bool.and_eq_true,decide_eq_true_eq]at hl
  simp only[b7,eO]
  refine H7 hn r _ h _ hl.2 ?_
  have e:L.getD j []=L[j]:=by rw[List.getD_eq_getElem?_getD,List.getElem?_eq_getElem hl.1];rfl
  rw[e]
  by_cases hj:j=i
  ·subst hj;rw[aC,if_pos rfl]
  ·rw[aH _ _ _ (fun e'=>hj ((List.getElem_inj hn).1 e').symm),if_neg hj];exact ho
theorem BN{L:List Name}{t:Name}:∀ (l:List (Nat×O)) (obj:Name->Option O) {nm:Name} (_:(l.all fun x=>decide (x.1<L.length))=true) (_:nm∉L),b7 L t l obj nm=obj nm
 |[],_,_,_,_=>rfl
 |(j,o')::r,obj,nm,hl,hn=>by
  simp only[List.all_cons,Bool.and_eq_true,decide_eq_true_eq]at hl
  simp only[b7]
  rw[BN r _ hl.2 hn]
  refine aH _ _ _ ?_
  rintro rfl
  refine hn ?_
  rw[List.getD_eq_getElem?_getD,List.getElem?_eq_getElem hl.1];simp
theorem vw{L:List Name}{t:Name}:∀ (l:List (Name×O)) (obj:Name->Option O) {nm:Name} (_:∀ x∈l,nm≠x.1++t),cY L t l obj nm=obj nm
 |[],_,_,_=>rfl
 |(x,o')::r,obj,nm,hl=>by
  simp only[cY]
  rw[vw r _ fun y hy=>hl y (by simp[hy])]
  exact aH _ _ _ (hl (x,o') (by simp))
theorem H8{L:List Name}{t:Name}:∀ (l:List (Name×O)) (obj:Name->Option O) (_:(l.map (·.1)).Nodup) {x:Name} {o:O} (_:(x,o)∈l),cY L t l obj (x++t)=some (o.ren (cout L t))
 |(y,o')::r,obj,hn,x,o,h=>by
  simp only[List.map_cons,List.nodup_cons]at hn
  simp only[cY]
  rcases List.mem_cons.1 h with h | h
  ·cases h
   rw[vw r _ fun z hz e=>hn.1 (by
    have :_=z.1:=List.append_cancel_right e
    rw[this];exact List.mem_map_of_mem hz)]
   exact aC _ _ _
  ·exact H8 r _ hn.2 h
def dt(n:Nat)(new:List (Name×O)):Name->Bool
 |[i,1]=>decide (i<n)
 |x=>new.any fun y=>y.1==x
section
variable {G:Ghost} {φ:Name->Loc} {m:Mem} {σ:S} {a:Act} {w:World}
def bZ(L:List Name)(obj:Name->Option O)(nm:Name):O:=match obj nm with
 |some o=>o.ren (cin L)
 |none=>.fbox []
def shut(obj:Name->Option O)(L:List Name):Bool:=L.all fun nm=>match obj nm with
 |some o=>O.clos (b8 L) o
 |none=>false
def jv(L:List Name)(obj:Name->Option O):Name->Option O
 |[i,1]=>if i<L.length then some (bZ L obj (L.getD i []))else none
 |_=>none
def lU(L:List Name)(φ:Name->Loc):Name->Loc
 |[i,1]=>φ (L.getD i [])
 |_=>⟨0,0,0,true,none⟩
def nQ(L:List Name)(φ:Name->Loc)(obj:Name->Option O)(b:Nat):Prop:=∃ nm∈L,holds φ obj nm/\(φ nm).blk=b
theorem vp{obj:Name->Option O}{L:List Name}(h:shut obj L=true){nm:Name}(hn:nm∈L):∃ o,obj nm=some o/\O.clos (b8 L) o=true:=by
 have :=List.all_eq_true.1 h nm hn
 cases ho:obj nm with
 |none=>simp[ho]at this
 |some o=>simp only[ho]at this;exact⟨o,rfl,this⟩
theorem kb{L:List Name}{i:Nat}(h:i<L.length):L.getD i []=L[i]:=by rw[List.getD_eq_getElem?_getD,List.getElem?_eq_getElem h];rfl
theorem Uj{L:List Name}{obj:Name->Option O}{nm:Name}(hn:nm∈L):jv L obj (cin L nm)=some (bZ L obj nm):=by
 obtain⟨h1,h2⟩:=tQ hn
 show (if idx L nm<L.length then some (bZ L obj (L.getD (idx L nm) []))else none)=_
 rw[if_pos h1,kb h1,h2]
theorem Qc{L:List Name}{φ:Name->Loc}{nm:Name}(hn:nm∈L):lU L φ (cin L nm)=φ nm:=by
 obtain⟨h1,h2⟩:=tQ hn
 show φ (L.getD (idx L nm) [])=_
 rw[kb h1,h2]
theorem xW{L:List Name}{obj:Name->Option O}:u7 (cin L) φ (lU L φ) obj (jv L obj) (b8 L):=by
 intro nm o hd ho
 have hn:=gQ.1 hd
 refine⟨bZ L obj nm,Uj hn,.inl ⟨?_,Qc hn,?_⟩⟩
 ·simp only[bZ,ho];exact O.len_ren _ _
 ·simp only[bZ,ho];exact O.sz_ren _ _
theorem Ce{L:List Name}{obj:Name->Option O}{x:Name}{o:O}(h:jv L obj x=some o):∃ (i:Nat) (hi:i<L.length),x=[i,1]/\o=bZ L obj L[i]:=by
 unfold jv at h
 split at h
 ·rename_i i
  split at h
  ·rename_i hi
   cases h
   exact⟨i,hi,rfl,by rw[kb hi]⟩
  ·cases h
 ·cases h
def u6(w:World)(L:List Name)(φ:Name->Loc)(obj:Name->Option O):Prop:=jL w/\∀ q∈xH,¬ nQ L φ obj q.1
def si(w:World)(m:Mem)(L:List Name)(φ:Name->Loc)(obj:Name->Option O)(rd:Option Nat)(h:∀ l,rd=some l->¬ nQ L φ obj l/\∃ r,w.heap[l]?=some (.loop r))(ht:u6 w L φ obj):Ghost:=
 ⟨w,m,nQ L φ obj,rd,lU L φ,jv L obj,h,ht⟩
theorem xG(hC:aB G φ m σ a w)(L:List Name):u6 w L φ σ.obj:=by
 refine⟨hC.fr.tab,fun q hq=>?_⟩
 rintro⟨nm,_,hh,e⟩
 obtain⟨T,f,h1⟩:=G.tab.1 q hq
 have h2:=(Array.getElem?_eq_some_iff.1 h1).1
 rcases hC.own nm hh with h3 | h3
 ·omega
 ·rw[e]at h3;exact G.tab.2 q hq h3
theorem zq{L:List Name}{obj:Name->Option O}(hL:shut obj L=true){x:Name}(h:holds (lU L φ) (jv L obj) x):∃ (i:Nat) (hi:i<L.length),x=[i,1]/\holds φ obj L[i]:=by
 obtain⟨o,h1,h2,h3⟩:=h
 obtain⟨i,hi,rfl,rfl⟩:=Ce h1
 obtain⟨o',h4,_⟩:=vp hL (List.getElem_mem hi)
 refine⟨i,hi,rfl,o',h4,?_,?_⟩
 ·simp only[bZ,h4,O.mut_ren]at h2;exact h2
 ·have:lU L φ [i,1]=φ L[i]:=by show φ (L.getD i [])=_;rw[kb hi]
  rw[this]at h3;exact h3
theorem MJ(hC:aB G φ m σ a w){L:List Name}(hn:L.Nodup)(hL:shut σ.obj L=true){rd:Option Nat}(mh:∀ l,rd=some l->¬ nQ L φ σ.obj l/\∃ r,w.heap[l]?=some (.loop r))
 {nt b0:Nat} {env:Nat->E} {tmps:Array Value} (hs:tmps.size=nt) (he:∀ t,bQ (lU L φ) (jv L σ.obj) m (env t) (tmps.getD t undef)):
 aB (si w m L φ σ.obj rd mh (xG hC L)) (lU L φ) m ⟨nt,env,jv L σ.obj,[0],b0⟩ { tmps:=tmps,defers:=[] } w:=by
 have hφ:∀ (i:Nat) (hi:i<L.length),lU L φ [i,1]=φ L[i]:=fun i hi=>by show φ (L.getD i [])=_;rw[kb hi]
 constructor
 ·exact he
 ·exact hs
 ·exact⟨[],rfl,by simp,by simp⟩
 ·intro x o hx
  obtain⟨i,hi,rfl,rfl⟩:=Ce hx
  obtain⟨o',h4,h5⟩:=vp hL (List.getElem_mem hi)
  rw[hφ i hi]
  simp only[bZ,h4]
  exact(hC.objs _ _ h4).ren (Mem.le_refl m) xW h5 fun _ _=>rfl
 ·exact hC.mem
 ·intro x hx off
  obtain⟨i,hi,rfl,h⟩:=zq hL hx
  rw[hφ i hi]
  exact hC.apart _ h off
 ·intro x y hx hy e
  obtain⟨i,hi,rfl,h⟩:=zq hL hx
  obtain⟨j,hj,rfl,h'⟩:=zq hL hy
  rw[hφ i hi,hφ j hj]at e
  have :=(List.getElem_inj hn).1 (hC.inj _ _ h h' e)
  rw[this]
 ·intro x hx
  obtain⟨i,hi,rfl,h⟩:=zq hL hx
  rw[hφ i hi]
  exact .inr ⟨_,List.getElem_mem hi,h,rfl⟩
 ·exact⟨rfl,rfl,rfl,Nat.le_refl _,fun _ _ _=>rfl⟩
 ·intro b off v h;exact .inl h
 ·refine⟨fun x o hx=>?_,Ext.refl _ _⟩
  obtain⟨i,hi,rfl,_⟩:=Ce hx
  exact Iu i
structure Qb (σ:S) (os:List O) (o:Out):Prop where
 objs:∀ i (h:i<os.length),σ.obj [i,1]=some (eO o.upd i os[i])
 news:∀ x∈o.new,σ.obj x.1=some x.2
 cd:D.clos (dt os.length o.new) o.d=true
 cu:(o.upd.all fun x=>O.clos (dt os.length o.new) x.2&&decide (x.1<os.length))=true
 cn:(o.new.all fun x=>O.clos (dt os.length o.new) x.2&&!cE x.1)=true
 nd:(o.new.map (·.1)).Nodup
def fresh(obj:Name->Option O)(t:Name)(new:List (Name×O)):Bool:=new.all fun x=>(obj (x.1++t)).isNone
theorem aap{n:Nat}{new:List (Name×O)}{x:Name×O}(h:cE x.1=false)(hx:x∈new):dt n new x.1=true:=by
 have key:∀ nm:Name,cE nm=false->dt n new nm=new.any fun y=>y.1==nm:=by
  intro nm h
  unfold dt
  split
  ·simp[cE]at h
  ·rfl
 rw[key _ h]
 exact List.any_eq_true.2 ⟨x,hx,by simp⟩
theorem Jl{dom:Name->Bool}:∀ (l:List (Nat×O)) (i:Nat) (o:O),O.clos dom o=true->(∀ x∈l,O.clos dom x.2=true)->O.clos dom (eO l i o)=true
 |[],_,_,h,_=>h
 |(j,o')::r,i,o,h,hl=>by
  simp only[eO]
  refine Jl r i _ ?_ fun x hx=>hl x (by simp[hx])
  split
  ·exact hl (j,o') (by simp)
  ·exact h
mutual
theorem clos_ren{f:Name->Name}{dom iP:Name->Bool}(hf:∀ nm,dom nm=true->iP (f nm)=true):∀ d:D,D.clos dom d=true->D.clos iP (d.ren f)=true
 | .v _,_=>by simp only[D.ren,D.clos]
 | .nilsl,_=>by simp only[D.ren,D.clos]
 | .nilmap,_=>by simp only[D.ren,D.clos]
 | .any,_=>by simp only[D.ren,D.clos]
 | .ref nm _,h=>hf nm h
 | .msl nm _,h=>hf nm h
 | .aref nm _ _ _,h=>hf nm h
 | .map nm,h=>hf nm h
 | .yld nm,h=>hf nm h
 | .clo _ a b,h=>by
   simp only[D.clos,Bool.and_eq_true]at h
   simp only[D.ren,D.clos,Bool.and_eq_true]
   exact⟨sy hf a h.1,sy hf b h.2⟩
 | .agg l,h=>by simp only[D.clos]at h;simp only[D.ren,D.clos];exact sy hf l h
 | .tup l,h=>by simp only[D.clos]at h;simp only[D.ren,D.clos];exact sy hf l h
theorem sy{f:Name->Name}{dom iP:Name->Bool}(hf:∀ nm,dom nm=true->iP (f nm)=true):∀ l:List D,D.closL dom l=true->D.closL iP (D.renL f l)=true
 |[],_=>by simp only[D.renL,D.closL]
 |d::r,h=>by
  simp only[D.closL,Bool.and_eq_true]at h
  simp only[D.renL,D.closL,Bool.and_eq_true]
  exact⟨clos_ren hf d h.1,sy hf r h.2⟩
end
theorem O.clos_ren{f:Name->Name}{dom iP:Name->Bool}(hf:∀ nm,dom nm=true->iP (f nm)=true)(o:O)(h:O.clos dom o=true):O.clos iP (o.ren f)=true:=by
 cases o with
 |box cs=>simp only[O.clos]at h;simp only[O.ren,O.clos];exact sy hf cs h
 |loop env ps asg body st bh=>
  simp only[O.clos]at h
  simp only[O.ren,O.clos]
  have :=sy hf _ h
  rw[ic,List.map_map]at this
  rw[List.map_map]
  exact this
 |_=>rfl
theorem MI(hC:aB G φ m σ a w){L:List Name}(hn:L.Nodup)(hL:shut σ.obj L=true){rd:Option Nat}{mh:∀ l,rd=some l->¬ nQ L φ σ.obj l/\∃ r,w.heap[l]?=some (.loop r)}
 {ht:u6 w L φ σ.obj} {φ2:Name->Loc} {m2:Mem} {σ2:S} {a2:Act} {w2:World} (fo:aB (si w m L φ σ.obj rd mh ht) φ2 m2 σ2 a2 w2) {o:Out} (hE:Qb σ2 (L.map (bZ L σ.obj)) o) {t:Name} (hf:fresh σ.obj t o.new=true):
 ∃ φ' m',Mem.le m m'/\aB G φ' m' { σ with obj:=cY L t o.new (b7 L t o.upd σ.obj) } a w2/\
   Ext φ φ' σ.obj (cY L t o.new (b7 L t o.upd σ.obj))/\
   (∀ d u,au φ2 σ2.obj m2 d u->D.clos (dt L.length o.new) d=true->au φ' (cY L t o.new (b7 L t o.upd σ.obj)) m' (d.ren (cout L t)) u):=by
 have hlen:(L.map (bZ L σ.obj)).length=L.length:=by simp
 obtain⟨h1,h2,h3,h4,h5,h6⟩:=hE
 rw[hlen]at h3 h4 h5
 have hu:(o.upd.all fun x=>decide (x.1<L.length))=true:=List.all_eq_true.2 fun x hx=>by
  have :=List.all_eq_true.1 h4 x hx
  simp only[Bool.and_eq_true]at this;exact this.2
 have zh:∀ x∈o.upd,O.clos (dt L.length o.new) x.2=true:=fun x hx=>by
  have :=List.all_eq_true.1 h4 x hx
  simp only[Bool.and_eq_true]at this;exact this.1
 have DN:∀ x∈o.new,O.clos (dt L.length o.new) x.2=true:=fun x hx=>by
  have :=List.all_eq_true.1 h5 x hx
  simp only[Bool.and_eq_true]at this;exact this.1
 have DM:∀ x∈o.new,cE x.1=false:=fun x hx=>by
  have :=List.all_eq_true.1 h5 x hx
  simp only[Bool.and_eq_true,Bool.not_eq_true']at this;exact this.2
 have cA:∀ x∈o.new,σ.obj (x.1++t)=none:=fun x hx=>by
  have :=List.all_eq_true.1 hf x hx
  simpa using this
 have Zu:∀ nm∈L,∃ o,σ.obj nm=some o:=fun nm h=>let ⟨o,h,_⟩:=vp hL h;⟨o,h⟩
 have nD:∀ nm∈L,∀ x∈o.new,nm≠x.1++t:=fun nm h x hx e=>by
  obtain⟨o',ho⟩:=Zu nm h
  rw[e,cA x hx]at ho;cases ho
 have Mb:∀ nm,b8 L nm=true->cout L t (cin L nm)=nm:=fun nm h=>aaX (gQ.1 h)
 generalize dN:cY L t o.new (b7 L t o.upd σ.obj)=obj'
 have zr:∀ (i:Nat) (hi:i<L.length),obj' L[i]=some ((eO o.upd i (bZ L σ.obj L[i])).ren (cout L t)):=fun i hi=>by
  rw[<-dN,vw _ _ (nD _ (List.getElem_mem hi))]
  refine H7 hn _ _ hi _ hu ?_
  obtain⟨o',ho,hc⟩:=vp hL (List.getElem_mem hi)
  simp only[bZ,ho]
  rw[O.ren_id Mb o' hc]
 have DK:∀ x∈o.new,obj' (x.1++t)=some (x.2.ren (cout L t)):=fun x hx=>by rw[<-dN];exact H8 _ _ h6 hx
 have DJ:∀ nm,nm∉L->(∀ x∈o.new,nm≠x.1++t)->obj' nm=σ.obj nm:=fun nm h h'=>by rw[<-dN,vw _ _ h',BN _ _ hu h]
 let φ':Name->Loc:=fun nm=>if nm∈L then φ2 (cin L nm)else match o.new.find? (fun x=>x.1++t==nm)with
  |some x=>φ2 x.1
  |none=>φ nm
 have vP:∀ (i:Nat) (hi:i<L.length),φ' L[i]=φ2 [i,1]:=fun i hi=>by
  show (if L[i]∈L then φ2 (cin L L[i])else _)=_
  rw[if_pos (List.getElem_mem hi)]
  show φ2 [idx L L[i],1]=_
  rw[C5 hn hi]
 have za:∀ x∈o.new,φ' (x.1++t)=φ2 x.1:=fun x hx=>by
  show (if x.1++t∈L then _ else _)=_
  rw[if_neg fun h=>nD _ h x hx rfl]
  cases pZ:o.new.find? (fun y=>y.1++t==x.1++t)with
  |none=>have:=List.find?_eq_none.1 pZ x hx;simp at this
  |some y=>
   have :=List.find?_some pZ
   simp only[beq_iff_eq]at this
   simp only[List.append_cancel_right this]
 have y9:∀ nm,nm∉L->(∀ x∈o.new,nm≠x.1++t)->φ' nm=φ nm:=fun nm h h'=>by
  show (if nm∈L then _ else _)=_
  rw[if_neg h]
  cases pZ:o.new.find? (fun y=>y.1++t==nm)with
  |none=>rfl
  |some y=>
   have :=List.find?_some pZ
   simp only[beq_iff_eq]at this
   exact(h' y (List.mem_of_find?_eq_some pZ) this.symm).elim
 let m':Mem:=fun b off=>match m2 b off with | some c=>some c | none=>m b off
 have zn:=fo.own
 have r3:∀ b,nQ L φ σ.obj b->b<w.heap.size:=fun b ⟨nm,h,⟨o',k1,k2,k3⟩,e⟩=>by rw[<-e];exact(hC.objs nm o' k1).lt k2 k3
 have DT:Mem.le m m':=by
  intro b off v h
  show (match m2 b off with | some c=>some c | none=>m b off)=some v
  cases hq:m2 b off with
  |none=>exact h
  |some c=>
   have k1:=fo.mem b off c hq
   have k2:=hC.mem b off v h
   rw[qo (fo.fr.block b (lB k2) fun ⟨nm,_,k3,e⟩=>by
    have :=hC.apart nm k3 off;rw[e,h]at this;cases this)]at k1
   have k3:World.cell? w ⟨b,off,none⟩=some c:=k1
   rw[k2]at k3;exact k3.symm
 have DS:Mem.le m2 m':=by
  intro b off v h
  show (match m2 b off with | some c=>some c | none=>m b off)=some v
  rw[h]
 have zx:∀ b off v,m' b off=some v->m2 b off=some v\/(m2 b off=none/\m b off=some v):=by
  intro b off v h
  have h':(match m2 b off with | some c=>some c | none=>m b off)=some v:=h
  cases hq:m2 b off with
  |none=>rw[hq]at h';exact .inr ⟨rfl,h'⟩
  |some c=>rw[hq]at h';exact .inl h'
 have Em:∀ x,dt L.length o.new x=true->(∃ (i:Nat) (hi:i<L.length),x=[i,1])\/(cE x=false/\∃ y∈o.new,y.1=x):=by
  intro x hx
  unfold dt at hx
  split at hx
  ·rename_i i
   exact .inl ⟨i,by simpa using hx,rfl⟩
  ·obtain⟨y,hy,e⟩:=List.any_eq_true.1 hx
   simp only[beq_iff_eq]at e
   subst e
   exact .inr ⟨DM y hy,y,hy,rfl⟩
 have uy:∀ (i:Nat) (hi:i<L.length),cout L t [i,1]=L[i]:=fun i hi=>kb hi
 have j7:∀ (i:Nat) (hi:i<L.length),σ2.obj [i,1]=some (eO o.upd i (bZ L σ.obj L[i])):=fun i hi=>by
  have :=h1 i (by simpa using hi)
  simpa using this
 have Dt:u7 (cout L t) φ2 φ' σ2.obj obj' (dt L.length o.new):=by
  intro x q hd hq
  rcases Em x hd with⟨i,hi,rfl⟩ | ⟨hi,y,hy,rfl⟩
  ·rw[uy i hi,zr i hi,vP i hi]
   rw[j7 i hi]at hq;cases hq
   exact⟨_,rfl,.inl ⟨O.len_ren _ _,rfl,O.sz_ren _ _⟩⟩
  ·rw[uU hi,DK y hy,za y hy]
   rw[h2 y hy]at hq;cases hq
   exact⟨_,rfl,.inl ⟨O.len_ren _ _,rfl,O.sz_ren _ _⟩⟩
 have YE:∀ (i:Nat) (hi:i<L.length),O.clos (dt L.length o.new) (eO o.upd i (bZ L σ.obj L[i]))=true:=by
  intro i hi
  refine Jl _ _ _ ?_ zh
  obtain⟨o',ho,hc⟩:=vp hL (List.getElem_mem hi)
  simp only[bZ,ho]
  refine O.clos_ren (fun nm hd=>?_) o' hc
  obtain⟨k1,_⟩:=tQ (gQ.1 hd)
  show decide (idx L nm<L.length)=true
  simpa using k1
 have zH:Ext φ φ' σ.obj obj':=by
  intro nm q hq
  by_cases fi:nm∈L
  ·obtain⟨i,hi,rfl⟩:=List.getElem_of_mem fi
   obtain⟨Ch,k1,k2⟩:=fo.kept.2 [i,1] (bZ L σ.obj L[i]) (by
    show jv L σ.obj [i,1]=_
    show (if i<L.length then _ else _)=_
    rw[if_pos hi,kb hi])
   have W4:Ch=eO o.upd i (bZ L σ.obj L[i]):=by rw[j7 i hi]at k1;exact(Option.some.inj k1).symm
   subst W4
   have Xw:lU L φ [i,1]=φ L[i]:=by show φ (L.getD i [])=_;rw[kb hi]
   have bO:(bZ L σ.obj L[i]).len?=q.len?/\(bZ L σ.obj L[i]).sz=q.sz:=by
    simp only[bZ,hq];exact⟨O.len_ren _ _,O.sz_ren _ _⟩
   refine⟨_,zr i hi,?_⟩
   rw[O.len_ren,O.sz_ren,vP i hi]
   rcases k2 with⟨a1,a2,a3⟩ | ⟨n,n',a1,a2,a3⟩
   ·exact .inl ⟨a1.trans bO.1,(a2:φ2 [i,1]=lU L φ [i,1]).trans Xw,a3.trans bO.2⟩
   ·exact .inr ⟨n,n',bO.1▸a1,a2,a3⟩
  ·have pT:∀ x∈o.new,nm≠x.1++t:=fun x hx e=>by rw[e,cA x hx]at hq;cases hq
   exact⟨q,by rw[DJ nm fi pT];exact hq,.inl ⟨rfl,y9 nm fi pT,rfl⟩⟩
 have uA:∀ nm,holds φ' obj' nm->(∃ x,holds φ2 σ2.obj x/\φ' nm=φ2 x/\nm=cout L t x/\dt L.length o.new x=true)\/(nm∉L/\(∀ x∈o.new,nm≠x.1++t)/\holds φ σ.obj nm/\φ' nm=φ nm):=by
  rintro nm ⟨q,k1,k2,k3⟩
  by_cases fi:nm∈L
  ·obtain⟨i,hi,rfl⟩:=List.getElem_of_mem fi
   left
   rw[zr i hi]at k1;cases k1
   rw[O.mut_ren]at k2
   rw[vP i hi]at k3
   exact⟨[i,1],⟨_,j7 i hi,k2,k3⟩,vP i hi,(uy i hi).symm,by show decide (i<L.length)=true;simpa using hi⟩
  ·by_cases pT:∃ x∈o.new,nm=x.1++t
   ·obtain⟨x,hx,rfl⟩:=pT
    left
    rw[DK x hx]at k1;cases k1
    rw[O.mut_ren]at k2
    rw[za x hx]at k3
    refine⟨x.1,⟨_,h2 x hx,k2,k3⟩,za x hx,(uU (DM x hx)).symm,?_⟩
    exact aap (DM x hx) hx
   ·have rP:∀ x∈o.new,nm≠x.1++t:=fun x hx e=>pT ⟨x,hx,e⟩
    right
    rw[DJ nm fi rP]at k1
    rw[y9 nm fi rP]at k3
    exact⟨fi,rP,⟨q,k1,k2,k3⟩,y9 nm fi rP⟩
 have fF:∀ nm,nm∉L->holds φ σ.obj nm->(φ nm).blk<w.heap.size/\¬ nQ L φ σ.obj (φ nm).blk:=by
  intro nm fi hh
  obtain⟨q,k1,k2,k3⟩:=hh
  refine⟨(hC.objs nm q k1).lt k2 k3,fun ⟨x,k4,k5,k6⟩=>?_⟩
  exact fi (hC.inj _ _ k5 ⟨q,k1,k2,k3⟩ k6▸k4)
 have agb:∀ x y,dt L.length o.new x=true->dt L.length o.new y=true->cout L t x=cout L t y->x=y:=by
  intro x y hx hy e
  rcases Em x hx with⟨i,hi,rfl⟩ | ⟨k1,x',aW,rfl⟩<;>rcases Em y hy with⟨j,hj,rfl⟩ | ⟨k2,y',XC,rfl⟩
  ·rw[uy i hi,uy j hj]at e
   rw[(List.getElem_inj hn).1 e]
  ·rw[uy i hi,uU k2]at e
   exact(nD _ (List.getElem_mem hi) y' XC e).elim
  ·rw[uy j hj,uU k1]at e
   exact(nD _ (List.getElem_mem hj) x' aW e.symm).elim
  ·rw[uU k1,uU k2]at e
   exact List.append_cancel_right e
 refine⟨φ',m',DT,?_,zH,fun d u hd hc=>hd.renx DS Dt hc⟩
 constructor
 ·exact fun x=>(hC.tmps x).ext DT zH
 ·exact hC.size
 ·obtain⟨ds,k1,k2,k3⟩:=hC.defers
  refine⟨ds,k1,k2,fun D hD=>⟨(k3 D hD).1,?_⟩⟩
  have k4:=(k3 D hD).2
  rw[fo.fr.block D (Array.getElem?_eq_some_iff.1 k4).1 fun ⟨x,_,⟨q,k5,k6,k7⟩,k8⟩=>(hC.objs x q k5).notDef k6 k7 _ (by rw[k8];exact k4)]
  exact k4
 ·intro nm q hq
  by_cases fi:nm∈L
  ·obtain⟨i,hi,rfl⟩:=List.getElem_of_mem fi
   have cF:obj' L[i]=some q:=hq
   rw[zr i hi]at cF;cases cF
   rw[vP i hi]
   exact(fo.objs _ _ (j7 i hi)).ren DS Dt (YE i hi) fun _ _=>rfl
  ·by_cases pT:∃ x∈o.new,nm=x.1++t
   ·obtain⟨x,hx,rfl⟩:=pT
    have cF:obj' (x.1++t)=some q:=hq
    rw[DK x hx]at cF;cases cF
    rw[za x hx]
    exact(fo.objs _ _ (h2 x hx)).ren DS Dt (DN x hx) fun _ _=>rfl
   ·have rP:∀ x∈o.new,nm≠x.1++t:=fun x hx e=>pT ⟨x,hx,e⟩
    have cF:obj' nm=some q:=hq
    rw[DJ nm fi rP]at cF
    rw[y9 nm fi rP]
    refine(hC.objs nm q cF).ext DT zH fun k2 k3=>?_
    obtain⟨k4,k5⟩:=fF nm fi ⟨q,cF,k2,k3⟩
    exact fo.fr.block _ k4 k5
 ·intro b off v h
  rcases zx b off v h with h | ⟨DQ,h⟩
  ·exact fo.mem b off v h
  ·have k2:=hC.mem b off v h
   rw[qo (fo.fr.block b (lB k2) fun ⟨nm,_,k3,e⟩=>by
    have :=hC.apart nm k3 off;rw[e,h]at this;cases this)]
   exact k2
 ·intro nm hh off
  rcases uA nm hh with⟨x,k1,k2,_,_⟩ | ⟨k1,k2,k3,k4⟩
  ·rw[k2]
   cases hq:m' (φ2 x).blk off with
   |none=>rfl
   |some v=>
    rcases zx _ _ _ hq with h | ⟨_,h⟩
    ·have:=fo.apart x k1 off;rw[h]at this;cases this
    ·rcases zn x k1 with h' | ⟨jx,k5,k6,k7⟩
     ·have:=lB (hC.mem _ _ _ h)
      have iL:w.heap.size<=(φ2 x).blk:=h'
      omega
     ·have:=hC.apart jx k6 off
      rw[k7,h]at this;cases this
  ·rw[k4]
   obtain⟨k5,k6⟩:=fF nm k1 k3
   cases hq:m' (φ nm).blk off with
   |none=>rfl
   |some v=>
    rcases zx _ _ _ hq with h | ⟨_,h⟩
    ·rcases fo.fresh _ _ _ h with h' | h' | h'
     ·have:=hC.apart nm k3 off
      have iL:m (φ nm).blk off=some v:=h'
      rw[iL]at this;cases this
     ·have iL:w.heap.size<=(φ nm).blk:=h'
      omega
     ·exact(k6 h').elim
    ·have:=hC.apart nm k3 off;rw[h]at this;cases this
 ·intro nm jx hh Yy e
  rcases uA nm hh with⟨x,k1,k2,k3,k4⟩ | ⟨k1,k2,k3,k4⟩<;>rcases uA jx Yy with⟨x',j1,j2,j3,j4⟩ | ⟨j1,j2,j3,j4⟩
  ·rw[k2,j2]at e
   rw[k3,j3,fo.inj _ _ k1 j1 e]
  ·exfalso
   rw[k2,j4]at e
   obtain⟨k5,k6⟩:=fF jx j1 j3
   rcases zn x k1 with h' | h'
   ·have iL:w.heap.size<=(φ2 x).blk:=h'
    omega
   ·rw[e]at h';exact k6 h'
  ·exfalso
   rw[k4,j2]at e
   obtain⟨k5,k6⟩:=fF nm k1 k3
   rcases zn x' j1 with h' | h'
   ·have iL:w.heap.size<=(φ2 x').blk:=h'
    omega
   ·rw[<-e]at h';exact k6 h'
  ·rw[k4,j4]at e
   exact hC.inj _ _ k3 j3 e
 ·intro nm hh
  rcases uA nm hh with⟨x,k1,k2,_,_⟩ | ⟨k1,k2,k3,k4⟩
  ·rw[k2]
   rcases zn x k1 with h' | ⟨jx,k5,k6,k7⟩
   ·exact .inl (Nat.le_trans hC.fr.size h')
   ·rw[<-k7];exact hC.own jx k6
  ·rw[k4];exact hC.own nm k3
 ·refine⟨fo.fr.os.trans hC.fr.os,fo.fr.tape.trans hC.fr.tape,fo.fr.output.trans hC.fr.output,Nat.le_trans hC.fr.size fo.fr.size,fun b hb ho=>?_⟩
  rw[fo.fr.block b (Nat.lt_of_lt_of_le hb hC.fr.size) fun ⟨nm,_,k3,e⟩=>?_]
  ·exact hC.fr.block b hb ho
  ·rcases hC.own nm k3 with h | h<;>rw[e]at h
   ·omega
   ·exact ho h
 ·intro b off v h
  rcases zx b off v h with h | ⟨_,h⟩
  ·rcases fo.fresh _ _ _ h with h' | h' | ⟨nm,_,k3,e⟩
   ·exact hC.fresh _ _ _ h'
   ·exact .inr (.inl (Nat.le_trans hC.fr.size h'))
   ·rw[<-e];exact .inr (hC.own nm k3)
  ·exact hC.fresh _ _ _ h
 ·exact⟨hC.kept.1,hC.kept.2.trans zH⟩
end
def fc:Nat->List D->List (Nat×E)
 |_,[]=>[]
 |k,x::r=>(k,⟨true,x⟩)::fc (k+1) r
theorem O1:∀ {k:Nat} {xs:List D} {t:Nat} {e:E},(t,e)∈fc k xs->∃ (i:Nat) (h:i<xs.length),t=k+i/\e=⟨true,xs[i]⟩
 |k,[],t,e,h=>by simp[fc]at h
 |k,x::r,t,e,h=>by
  simp only[fc,List.mem_cons,Prod.mk.injEq]at h
  rcases h with⟨rfl,rfl⟩ | h
  ·exact⟨0,by simp,rfl,rfl⟩
  ·obtain⟨i,hi,h1,h2⟩:=O1 h
   exact⟨i+1,by simpa using hi,by omega,by simpa using h2⟩
structure CSpec where
 pre:List O->List D->Prop
 out:List O->List D->Out
def cg(obj:Name->Option O)(ds:List D):List O:=(reach obj ds).map (bZ (reach obj ds) obj)
def cH(obj:Name->Option O)(ds:List D):List D:=D.renL (cin (reach obj ds)) ds
def CSpec.toSpec(s:CSpec):Spec where
 app obj t ds:=⟨(shut obj (reach obj ds)&&D.closL (b8 (reach obj ds)) ds&&fresh obj t (s.out (cg obj ds) (cH obj ds)).new)=true/\s.pre (cg obj ds) (cH obj ds),
  (s.out (cg obj ds) (cH obj ds)).d.ren (cout (reach obj ds) t),cY (reach obj ds) t (s.out (cg obj ds) (cH obj ds)).new (b7 (reach obj ds) t (s.out (cg obj ds) (cH obj ds)).upd obj)⟩
 foot obj t ds:=reach obj ds++((s.out (cg obj ds) (cH obj ds)).upd.map fun x=>(reach obj ds).getD x.1 [])++(s.out (cg obj ds) (cH obj ds)).new.map fun x=>x.1++t
 wrt obj t ds:=((s.out (cg obj ds) (cH obj ds)).upd.map fun x=>(reach obj ds).getD x.1 [])++(s.out (cg obj ds) (cH obj ds)).new.map fun x=>x.1++t
theorem te{L:List Name}{t:Name}:∀ (l:List (Nat×O)) (obj obj2:Name->Option O) (nm:Name),b7 L t l obj2 nm=if nm∈l.map (fun x=>L.getD x.1 [])then b7 L t l obj nm else obj2 nm
 |[],obj,obj2,nm=>by simp[b7]
 |(i,o)::r,obj,obj2,nm=>by
  simp only[b7,List.map_cons,List.mem_cons]
  rw[te r (upd obj (L.getD i []) (some (o.ren (cout L t)))) (upd obj2 (L.getD i []) (some (o.ren (cout L t)))) nm]
  by_cases h:nm∈r.map (fun x=>L.getD x.1 [])
  ·rw[if_pos h,if_pos (.inr h)]
  ·rw[if_neg h]
   by_cases e:nm=L.getD i []
   ·rw[if_pos (.inl e)]
    have hu:b7 L t r (upd obj (L.getD i []) (some (o.ren (cout L t)))) nm=(upd obj (L.getD i []) (some (o.ren (cout L t)))) nm:=by
     rw[te r obj _ nm,if_neg h]
    rw[hu,e,aC,aC]
   ·rw[if_neg (by simp only[not_or];exact⟨e,h⟩)]
    exact aH _ _ _ e
theorem qN{L:List Name}{t:Name}:∀ (l:List (Name×O)) (obj obj2:Name->Option O) (nm:Name),cY L t l obj2 nm=if nm∈l.map (fun x=>x.1++t)then cY L t l obj nm else obj2 nm
 |[],obj,obj2,nm=>by simp[cY]
 |(i,o)::r,obj,obj2,nm=>by
  simp only[cY,List.map_cons,List.mem_cons]
  rw[qN r (upd obj (i++t) (some (o.ren (cout L t)))) (upd obj2 (i++t) (some (o.ren (cout L t)))) nm]
  by_cases h:nm∈r.map (fun x=>x.1++t)
  ·rw[if_pos h,if_pos (.inr h)]
  ·rw[if_neg h]
   by_cases e:nm=i++t
   ·rw[if_pos (.inl e)]
    have hu:cY L t r (upd obj (i++t) (some (o.ren (cout L t)))) nm=(upd obj (i++t) (some (o.ren (cout L t)))) nm:=by
     rw[qN r obj _ nm,if_neg h]
    rw[hu,e,aC,aC]
   ·rw[if_neg (by simp only[not_or];exact⟨e,h⟩)]
    exact aH _ _ _ e
theorem nZ{obj obj2:Name->Option O}{ds:List D}(h:bu (reach obj ds) obj obj2):reach obj2 ds=reach obj ds:=BH _ _ _ h
theorem xc{obj obj2:Name->Option O}{ds:List D}(h:bu (reach obj ds) obj obj2):cg obj2 ds=cg obj ds:=by
 unfold cg
 rw[nZ h]
 exact List.map_congr_left fun nm hn=>by simp only[bZ];rw[h nm hn]
theorem FZ{obj obj2:Name->Option O}{ds:List D}(h:bu (reach obj ds) obj obj2):cH obj2 ds=cH obj ds:=by
 unfold cH
 rw[nZ h]
theorem Bu{obj obj2:Name->Option O}{L:List Name}(h:bu L obj obj2):shut obj2 L=shut obj L:=by
 unfold shut
 refine Bool.eq_iff_iff.2 ?_
 simp only[List.all_eq_true]
 exact⟨fun k x hx=>by rw[<-h x hx];exact k x hx,fun k x hx=>by rw[h x hx];exact k x hx⟩
theorem z6{obj obj2:Name->Option O}{t:Name}{new:List (Name×O)}(h:bu (new.map fun x=>x.1++t) obj obj2):fresh obj2 t new=fresh obj t new:=by
 unfold fresh
 refine Bool.eq_iff_iff.2 ?_
 simp only[List.all_eq_true]
 exact⟨fun k x hx=>by rw[<-h _ (List.mem_map_of_mem hx)];exact k x hx,fun k x hx=>by rw[h _ (List.mem_map_of_mem hx)];exact k x hx⟩
theorem CC{ok ok2:Prop}{d:D}{obj obj2:Name->Option O}{L:List Name}{t:Name}{o:Out}(aa:ok2=ok)
 (ha:bu ((o.upd.map fun x=>L.getD x.1 [])++o.new.map fun x=>x.1++t) obj obj2):
 bB ⟨ok,d,cY L t o.new (b7 L t o.upd obj)⟩ ⟨ok2,d,cY L t o.new (b7 L t o.upd obj2)⟩ obj obj2 ((o.upd.map fun x=>L.getD x.1 [])++o.new.map fun x=>x.1++t):=by
 refine⟨aa,rfl,fun nm=>?_,fun nm hn=>?_⟩
 ·show cY L t o.new (b7 L t o.upd obj2) nm=if nm∈_ then cY L t o.new (b7 L t o.upd obj) nm else obj2 nm
  rw[qN o.new (b7 L t o.upd obj) (b7 L t o.upd obj2) nm]
  by_cases h1:nm∈o.new.map (fun x=>x.1++t)
  ·rw[if_pos h1,if_pos (List.mem_append_right _ h1)]
  ·rw[if_neg h1,te o.upd obj obj2 nm]
   by_cases h2:nm∈o.upd.map (fun x=>L.getD x.1 [])
   ·rw[if_pos h2,if_pos (List.mem_append_left _ h2)]
    rw[qN o.new obj (b7 L t o.upd obj) nm,if_neg h1]
   ·rw[if_neg h2,if_neg (by simp only[List.mem_append,not_or];exact⟨h2,h1⟩)]
 ·show cY L t o.new (b7 L t o.upd obj) nm=obj nm
  simp only[List.mem_append,not_or]at hn
  rw[qN o.new obj (b7 L t o.upd obj) nm,if_neg hn.2,te o.upd obj obj nm,if_neg hn.1]
theorem CSpec.near(s:CSpec):s.toSpec.Near:=by
 have key:∀ {obj obj2:Name->Option O} {t:Name} {ds:List D},bu (s.toSpec.foot obj t ds) obj obj2->bu (reach obj ds) obj obj2/\
     bu (((s.out (cg obj ds) (cH obj ds)).upd.map fun x=>(reach obj ds).getD x.1 [])++(s.out (cg obj ds) (cH obj ds)).new.map fun x=>x.1++t) obj obj2:=by
  intro obj obj2 t ds h
  refine⟨fun nm hn=>h nm ?_,fun nm hn=>h nm ?_⟩
  ·exact List.mem_append_left _ (List.mem_append_left _ hn)
  ·rcases List.mem_append.1 hn with hn | hn
   ·exact List.mem_append_left _ (List.mem_append_right _ hn)
   ·exact List.mem_append_right _ hn
 refine⟨fun obj obj2 t ds h=>?_,fun obj obj2 t ds h=>?_,fun obj t ds nm hn=>?_,fun obj obj2 t ds h=>?_⟩
 ·obtain⟨h1,h2⟩:=key h
  simp only[CSpec.toSpec]
  rw[xc h1,FZ h1,nZ h1]
  refine CC ?_ h2
  rw[Bu h1,z6 fun nm hn=>h2 nm (List.mem_append_right _ hn)]
 ·obtain⟨h1,h2⟩:=key h
  simp only[CSpec.toSpec]
  rw[xc h1,FZ h1,nZ h1]
 ·simp only[CSpec.toSpec]at hn |-
  rcases List.mem_append.1 hn with hn | hn
  ·exact List.mem_append_left _ (List.mem_append_right _ hn)
  ·exact List.mem_append_right _ hn
 ·obtain⟨h1,h2⟩:=key h
  simp only[CSpec.toSpec]
  rw[xc h1,FZ h1,nZ h1]
def qZ(σ:S)(u:List (Nat×O)):Nat->List O->Prop
 |_,[]=>True
 |i,o::r=>σ.obj [i,1]=some (eO u i o)/\qZ σ u (i+1) r
theorem IS{σ:S}{u:List (Nat×O)}:∀ {l:List O} {k:Nat},qZ σ u k l->∀ i (h:i<l.length),σ.obj [k+i,1]=some (eO u (k+i) l[i])
 |o::r,k,h,0,_=>h.1
 |o::r,k,h,i+1,hi=>by
  have :=IS h.2 i (by simpa using hi)
  rw[show k+(i+1)=k+1+i by omega]
  simpa using this
def vE(σ:S):List (Name×O)->Prop
 |[]=>True
 |x::r=>σ.obj x.1=some x.2/\vE σ r
theorem IY{σ:S}:∀ {l:List (Name×O)},vE σ l->∀ x∈l,σ.obj x.1=some x.2
 |y::r,h,x,hx=>by
  rcases List.mem_cons.1 hx with rfl | hx
  ·exact h.1
  ·exact IY h.2 x hx
def distinct:List Name->Bool
 |[]=>true
 |x::r=>(r.all fun y=>!(x==y))&&distinct r
theorem Nv:∀ {l:List Name},distinct l=true->l.Nodup
 |[],_=>by simp
 |x::r,h=>by
  simp only[distinct,Bool.and_eq_true]at h
  refine List.nodup_cons.2 ⟨fun hx=>?_,Nv h.2⟩
  have :=List.all_eq_true.1 h.1 x hx
  simp at this
def gG(os:List O)(o:Out)(σ:S):Prop:=
 qZ σ o.upd 0 os/\vE σ o.new/\
  (D.clos (dt os.length o.new) o.d&&(o.upd.all fun x=>O.clos (dt os.length o.new) x.2&&decide (x.1<os.length))&&(o.new.all fun x=>O.clos (dt os.length o.new) x.2&&!cE x.1)&&distinct (o.new.map (·.1)))=true
theorem Nf{os:List O}{o:Out}{σ:S}(h:gG os o σ):Qb σ os o:=by
 obtain⟨h1,h2,h3⟩:=h
 simp only[Bool.and_eq_true]at h3
 exact⟨fun i hi=>by simpa using IS h1 i hi,IY h2,h3.1.1.1,h3.1.1.2,by simpa using h3.1.2,Nv h3.2⟩
def vt(P:Program)(rs:List ResultVar)(os:List O)(o:Out):Exit->S->Prop
 | .normal,σ=>(bS P σ rs).ok/\(bS P σ rs).d=o.d/\gG os o σ
 | .ret,σ=>(bS P σ rs).ok/\(bS P σ rs).d=o.d/\gG os o σ
 |_,_=>False
def aS(os:List O):Name->Option O
 |[i,1]=>os[i]?
 |_=>none
theorem Ui{L:List Name}{obj:Name->Option O}{x:Name}(h:cE x=false):jv L obj x=none:=by
 unfold jv
 split
 ·simp[cE]at h
 ·rfl
theorem vA{os:List O}{x:Name}(h:cE x=false):aS os x=none:=by
 unfold aS
 split
 ·simp[cE]at h
 ·rfl
theorem yr{L:List Name}{obj:Name->Option O}:jv L obj=aS (L.map (bZ L obj)):=by
 funext x
 cases hx:cE x with
 |false=>rw[Ui hx,vA hx]
 |true=>
  obtain⟨i,rfl⟩:=tN.1 hx
  show (if i<L.length then some (bZ L obj (L.getD i []))else none)=(L.map (bZ L obj))[i]?
  by_cases hi:i<L.length
  ·rw[if_pos hi,List.getElem?_eq_getElem (by simpa using hi)]
   rw[kb hi,List.getElem_map]
  ·rw[if_neg hi,List.getElem?_eq_none (by simpa using hi)]
theorem Cr{nt:Nat}{l:List (Nat×E)}{os:List O}:aO nt [0] (aS os) l []=⟨nt,db eAny l,aS os,[0],0⟩:=by
 unfold aO
 congr 1
 funext nm
 split
 ·rename_i h
  have :cE nm=false:=by
   cases hc:cE nm with
   |false=>rfl
   |true=>
    obtain⟨i,rfl⟩:=tN.1 hc
    rw[Iu]at h;cases h
  unfold aS
  split
  ·simp[cE]at this
  ·rfl
 ·rfl
theorem mF{P:Program}{f:FuncId}{fn:Func}{c:Code}{s:CSpec}{nt:Nat}{rs:List ResultVar}(hf:P.funcs[f]?=some fn)(hb:fn.body=some c)(eA:fn.ntmps=nt)(eP:fn.results.toList=rs)
 (mm:∀ args w,(callFunc f args).run P w=.ok (.enter f args) w) (aj:f≠yid)
 (h:∀ os ds,s.pre os ds->ds.length<=nt/\CW P c (aO nt [0] (aS os) (fc 0 ds) []) (vt P rs os (s.out os ds))):ak P f s.toSpec:=by
 subst eA
 subst eP
 refine⟨s.near,fun _=>mm,fun _ G φ m σ a w hC t ds us _ hl hr aa=>?_,fun e=>(aj e).elim⟩
 obtain⟨aa,cG⟩:=aa
 simp only[Bool.and_eq_true]at aa
 obtain⟨⟨fO,bO⟩,cA⟩:=aa
 obtain⟨hlen,mq⟩:=h _ _ cG
 have ie:(reach σ.obj ds).Nodup:=xX _ _ _ (by simp)
 simp only[cH,ic,List.length_map]at hlen
 refine(callsIn_wide (n:=0)).1 (callsIn_of_wp_marks hf hb trivial ?_)
 have dd:=MJ hC (L:=reach σ.obj ds) ie fO (rd:=none) (fun l h=>by cases h) (b0:=0) (nt:=fn.ntmps) (env:=db eAny (fc 0 (cH σ.obj ds)))
  (tmps:=us++Array.replicate (fn.ntmps-us.size) undef) (by simp;omega) (fun t=>by
    rcases tG (z:=eAny) (fc 0 (cH σ.obj ds)) t with h1 | h1
    ·rw[h1];unfold bQ eAny;simp;exact .any _
    ·obtain⟨i,hi,h2,h3⟩:=O1 h1
     rw[h3]
     unfold bQ
     simp only[if_true]
     simp only[cH,ic,List.length_map]at hi
     have bj:i<us.size:=by omega
     have e:((us++Array.replicate (fn.ntmps-us.size) undef).getD t undef)=us[i]:=by
      have aq:0+i<(us++Array.replicate (fn.ntmps-us.size) undef).size:=by simp;omega
      rw[h2]
      simp only[Array.getD,aq,dite_true]
      show (us++Array.replicate (fn.ntmps-us.size) undef)[0+i]=us[i]
      simp only[Nat.zero_add]
      exact Array.getElem_append_left bj
     rw[e]
     simp only[cH,ic,List.getElem_map]
     exact(hr i hi bj).renx (Mem.le_refl m) xW (iw hi bO))
 rw[Cr]at mq
 rw[yr]at dd
 refine wpIn_mono (mq _ _ m _ w dd) ?_
 rintro e a1 w1 ⟨φ2,m2,σ2,fT,hK⟩
 have fin:(bS P σ2 fn.results.toList).ok/\(bS P σ2 fn.results.toList).d=(s.out (cg σ.obj ds) (cH σ.obj ds)).d/\gG (cg σ.obj ds) (s.out (cg σ.obj ds) (cH σ.obj ds)) σ2->
     LeavesInM Fence.wide 0 P fn a1.tmps (fun e w'=>∃ v φ' m',e=.returned v/\aB G φ' m' { σ with obj:=(s.toSpec.app σ.obj t ds).obj } a w'/\au φ' (s.toSpec.app σ.obj t ds).obj m' (s.toSpec.app σ.obj t ds).d v/\Ext φ φ' σ.obj (s.toSpec.app σ.obj t ds).obj) a1.defers .returning w1:=by
  rintro⟨h1,h2,h3⟩
  refine CD a1.defers rfl fT fun a' w' _ bx=>?_
  obtain⟨v,h4,h5⟩:=HN bx fn h1
  rw[h2]at h5
  have hE:=Nf h3
  obtain⟨φ',m',k1,k2,k3,k4⟩:=MI hC ie fO bx hE cA
  have uz:=hE.cd
  simp only[cg,List.length_map]at uz
  exact⟨v,h4,v,φ',m',rfl,k2,k4 _ _ h5 uz,k3⟩
 cases e with
 |normal=>exact fin hK
 |ret=>exact fin hK
 |_=>exact hK.elim
theorem bB.more{ok ok2:Prop}{d d2:D}{o1 o2 obj obj2:Name->Option O}{wr:List Name}(nm:Name)(x:Option O)(h:bB ⟨ok,d,o1⟩ ⟨ok2,d2,o2⟩ obj obj2 wr):
 bB ⟨ok,d,upd o1 nm x⟩ ⟨ok2,d2,upd o2 nm x⟩ obj obj2 (nm::wr):=by
 refine⟨h.ok,h.d,fun y=>?_,fun y hy=>?_⟩
 ·show upd o2 nm x y=if y∈nm::wr then upd o1 nm x y else obj2 y
  by_cases e:y=nm
  ·subst e;rw[aC,if_pos (by simp),aC]
  ·rw[aH _ _ _ e,aH _ _ _ e]
   have :=h.eff y
   simp only at this
   rw[this]
   by_cases hy:y∈wr
   ·rw[if_pos hy,if_pos (List.mem_cons_of_mem _ hy)]
   ·rw[if_neg hy,if_neg (by simp[e,hy])]
 ·simp only[List.mem_cons,not_or]at hy
  show upd o1 nm x y=obj y
  rw[aH _ _ _ hy.1]
  exact h.frame y hy.2
structure YSpec where
 pre:List E->List Nat->Code->Code->List O->List D->Prop
 out:List E->List Nat->Code->Code->List O->List D->Out×Option Code
def roots(env:List E)(ds:List D):List D:=env.map (·.d)++ds
def ix(obj:Name->Option O)(env:List E)(ds:List D):List E:=env.map (E.ren (cin (reach obj (roots env ds))))
def jn(obj:Name->Option O)(env:List E)(ds:List D):List D:=D.renL (cin (reach obj (roots env ds))) ds
def YSpec.o(y:YSpec)(obj:Name->Option O)(env:List E)(ps:List Nat)(asg body:Code)(ds:List D):Out×Option Code:=
 y.out (ix obj env ds) ps asg body (cg obj (roots env ds)) (jn obj env ds)
def YSpec.toSpec(y:YSpec):Spec where
 app obj t args:=match args with
  | .yld nm::ds=>match obj nm with
    |some (.loop env ps asg body .ready none)=>
     ⟨(shut obj (reach obj (roots env ds))&&D.closL (b8 (reach obj (roots env ds))) (roots env ds)&&fresh obj t (y.o obj env ps asg body ds).1.new&&!b8 (reach obj (roots env ds)) nm&&
         decide (ds.length=ps.length)&&(ps.all fun p=>decide (p<env.length)))=true/\y.pre (ix obj env ds) ps asg body (cg obj (roots env ds)) (jn obj env ds),
       .v (.bool (y.o obj env ps asg body ds).2.isNone),
       upd (cY (reach obj (roots env ds)) t (y.o obj env ps asg body ds).1.new (b7 (reach obj (roots env ds)) t (y.o obj env ps asg body ds).1.upd obj)) nm
        (some (.loop env ps asg body (if (y.o obj env ps asg body ds).2.isNone then .ready else .done) (y.o obj env ps asg body ds).2))⟩
    |_=>.bad obj
  |_=>.bad obj
 foot obj t args:=match args with
  | .yld nm::ds=>nm::(match obj nm with
    |some (.loop env ps asg body .ready none)=>reach obj (roots env ds)++((y.o obj env ps asg body ds).1.upd.map fun x=>(reach obj (roots env ds)).getD x.1 [])++(y.o obj env ps asg body ds).1.new.map fun x=>x.1++t
    |_=>[])
  |_=>[]
 wrt obj t args:=match args with
  | .yld nm::ds=>nm::(match obj nm with
    |some (.loop env ps asg body .ready none)=>((y.o obj env ps asg body ds).1.upd.map fun x=>(reach obj (roots env ds)).getD x.1 [])++(y.o obj env ps asg body ds).1.new.map fun x=>x.1++t
    |_=>[])
  |_=>[]
theorem YSpec.near(y:YSpec):y.toSpec.Near:=by
 have Cf:∀ {obj obj2:Name->Option O} {env:List E} {ps:List Nat} {asg body:Code} {ds:List D},bu (reach obj (roots env ds)) obj obj2->
     y.o obj2 env ps asg body ds=y.o obj env ps asg body ds/\ix obj2 env ds=ix obj env ds/\jn obj2 env ds=jn obj env ds:=by
  intro obj obj2 env ps asg body ds h
  unfold YSpec.o ix jn
  rw[xc h,nZ h]
  exact⟨rfl,rfl,rfl⟩
 have split:∀ {A B C:List Name} {obj obj2:Name->Option O} {nm:Name},bu (nm::(A++B++C)) obj obj2->bu A obj obj2/\bu (B++C) obj obj2:=by
  intro A B C obj obj2 nm h
  refine⟨fun x hx=>h x ?_,fun x hx=>h x ?_⟩
  ·exact List.mem_cons_of_mem _ (List.mem_append_left _ (List.mem_append_left _ hx))
  ·rcases List.mem_append.1 hx with hx | hx
   ·exact List.mem_cons_of_mem _ (List.mem_append_left _ (List.mem_append_right _ hx))
   ·exact List.mem_cons_of_mem _ (List.mem_append_right _ hx)
 have Av:∀ (args:List D),(∃ nm ds,args=.yld nm::ds)\/(∀ obj t,y.toSpec.app obj t args=.bad obj/\y.toSpec.foot obj t args=[]/\y.toSpec.wrt obj t args=[]):=by
  intro args
  rcases args with _ | ⟨d,ds⟩
  ·exact .inr fun _ _=>⟨rfl,rfl,rfl⟩
  ·cases d with
   |yld nm=>exact .inl ⟨nm,ds,rfl⟩
   |_=>exact .inr fun _ _=>⟨rfl,rfl,rfl⟩
 refine⟨fun obj obj2 t args h=>?_,fun obj obj2 t args h=>?_,fun obj t args jx hn=>?_,fun obj obj2 t args h=>?_⟩
 ·rcases Av args with⟨nm,ds,rfl⟩ | hb
  ·simp only[YSpec.toSpec]at h |-
   have h0:obj2 nm=obj nm:=h nm (by simp)
   rw[h0]
   split
   ·rename_i env ps asg body ho
    simp only[ho]at h
    obtain⟨h1,h2⟩:=split h
    obtain⟨e1,e2,e3⟩:=Cf (ps:=ps) (asg:=asg) (body:=body) h1
    rw[e1,e2,e3,xc h1,nZ h1]
    refine bB.more nm _ (CC ?_ h2)
    rw[Bu h1,z6 fun nm hn=>h2 nm (List.mem_append_right _ hn)]
   ·exact .none _ fun x hx=>by simp only[List.mem_singleton]at hx;subst hx;exact h0
  ·rw[(hb obj t).1,(hb obj2 t).1,(hb obj t).2.2]
   exact .same rfl rfl rfl rfl
 ·rcases Av args with⟨nm,ds,rfl⟩ | hb
  ·simp only[YSpec.toSpec]at h |-
   have h0:obj2 nm=obj nm:=h nm (by simp)
   rw[h0]
   split
   ·rename_i env ps asg body ho
    simp only[ho]at h
    obtain⟨h1,h2⟩:=split h
    obtain⟨e1,e2,e3⟩:=Cf (ps:=ps) (asg:=asg) (body:=body) h1
    rw[e1,nZ h1]
   ·rfl
  ·rw[(hb obj t).2.1,(hb obj2 t).2.1]
 ·rcases Av args with⟨nm,ds,rfl⟩ | hb
  ·simp only[YSpec.toSpec]at hn |-
   rcases List.mem_cons.1 hn with rfl | hn
   ·simp
   ·refine List.mem_cons_of_mem _ ?_
    split at hn
    ·rename_i env ps asg body ho
     try simp only[ho]
     rcases List.mem_append.1 hn with hn | hn
     ·exact List.mem_append_left _ (List.mem_append_right _ hn)
     ·exact List.mem_append_right _ hn
    ·cases hn
  ·rw[(hb obj t).2.2]at hn;cases hn
 ·rcases Av args with⟨nm,ds,rfl⟩ | hb
  ·simp only[YSpec.toSpec]at h |-
   have h0:obj2 nm=obj nm:=h nm (by simp)
   rw[h0]
   split
   ·rename_i env ps asg body ho
    simp only[ho]at h
    obtain⟨h1,h2⟩:=split h
    obtain⟨e1,e2,e3⟩:=Cf (ps:=ps) (asg:=asg) (body:=body) h1
    rw[e1,nZ h1]
   ·rfl
  ·rw[(hb obj t).2.2,(hb obj2 t).2.2]
def sp(env:List E):Nat->E:=fun t=>env.getD t eAny
def setP:(Nat->E)->List Nat->List D->(Nat->E)
 |f,p::ps,d::ds=>setP (upd f p ⟨true,d⟩) ps ds
 |f,_,_=>f
def IF(k:S->Prop):Exit->S->Prop
 | .normal,σ=>k σ
 |_,_=>False
def Tk(os:List O)(o:Out×Option Code):Exit->S->Prop
 | .normal,σ=>o.2=none/\gG os o.1 σ
 | .ret,σ=>o.2=some .ret/\gG os o.1 σ
 | .exit id,σ=>o.2=some (.exit id)/\gG os o.1 σ
 |_,_=>False
theorem Hq{φ:Name->Loc}{obj:Name->Option O}{m:Mem}{n:Nat}:∀ (ps:List Nat) (ds:List D) (us:List Value) (f:Nat->E) (tmps:Array Value),tmps.size=n->ps.length=ds.length->ds.length=us.length->
 (∀ p∈ps,p<n)->(∀ t,bQ φ obj m (f t) (tmps.getD t undef))->(∀ i (h:i<ds.length) (h':i<us.length),au φ obj m ds[i] us[i])->
 (∀ t,bQ φ obj m (setP f ps ds t) (((ps.zip us).foldl (fun tmps (p:Nat×Value)=>tmps.setIfInBounds p.1 p.2) tmps).getD t undef))/\((ps.zip us).foldl (fun tmps (p:Nat×Value)=>tmps.setIfInBounds p.1 p.2) tmps).size=n
 |[],ds,us,f,tmps,hs,h1,h2,hp,hf,hr=>by
  have :ds=[]:=List.eq_nil_of_length_eq_zero (by simpa using h1.symm)
  subst this
  exact⟨hf,hs⟩
 |p::ps,[],us,f,tmps,hs,h1,h2,hp,hf,hr=>by simp at h1
 |p::ps,d::ds,[],f,tmps,hs,h1,h2,hp,hf,hr=>by simp at h2
 |p::ps,d::ds,u::us,f,tmps,hs,h1,h2,hp,hf,hr=>by
  simp only[List.zip_cons_cons,List.foldl_cons,setP]
  refine Hq ps ds us _ _ (by simpa using hs) (by simpa using h1) (by simpa using h2) (fun q hq=>hp q (by simp[hq])) (fun t=>?_) fun i a b=>by
   have :=hr (i+1) (by simpa using a) (by simpa using b)
   simpa using this
  have ae:p<tmps.size:=by rw[hs];exact hp p (by simp)
  by_cases ht:t=p
  ·subst ht
   rw[aC]
   have e:(tmps.setIfInBounds t u).getD t undef=u:=by simp[Array.getD,ae]
   rw[e]
   unfold bQ
   simp only[if_true]
   exact hr 0 (by simp) (by simp)
  ·rw[aH _ _ _ ht]
   have e:(tmps.setIfInBounds p u).getD t undef=tmps.getD t undef:=by
    simp only[Array.getD_eq_getD_getElem?]
    rw[Array.getElem?_setIfInBounds_ne (fun h=>ht h.symm)]
   rw[e];exact hf t
theorem Be{wa wb:World}{L:List Name}{φ:Name->Loc}{obj:Name->Option O}{l:Nat}(ht:u6 wa L φ obj)(h:∃ r,wa.heap[l]?=some (.loop r))(hb:∀ b,b≠l->wb.heap[b]?=wa.heap[b]?):u6 wb L φ obj:=by
 refine⟨fun q hq=>?_,ht.2⟩
 obtain⟨T,f,e⟩:=ht.1 q hq
 obtain⟨r,hr⟩:=h
 rw[hb q.1 (fun e'=>by rw[e',hr]at e;cases e)]
 exact⟨T,f,e⟩
theorem NT{wa wb:World}{m:Mem}{L:List Name}{φ:Name->Loc}{obj:Name->Option O}{l:Nat}{h h' ht ht'}{φ1:Name->Loc}{m1:Mem}{σ1:S}{a1:Act}{w1 w2:World}
 (hC:aB (si wa m L φ obj (some l) h ht) φ1 m1 σ1 a1 w1) (bf:wb.heap.size=wa.heap.size/\w2.heap.size=w1.heap.size) (ho:wb.os=w2.os/\wb.tape=w2.tape/\wb.output=w2.output)
 (hb:∀ b,b≠l->wb.heap[b]?=wa.heap[b]?) (h2:∀ b,b≠l->w2.heap[b]?=w1.heap[b]?) (hl:wb.heap[l]?=w2.heap[l]?):aB (si wb m L φ obj (some l) h' ht') φ1 m1 σ1 a1 w2:=by
 obtain⟨LD,r,hr⟩:=h l rfl
 have ae:l<wa.heap.size:=(Array.getElem?_eq_some_iff.1 hr).1
 have bY:w1.heap[l]?=some (.loop r):=(hC.fr.block l ae LD).trans hr
 constructor
 ·exact hC.tmps
 ·exact hC.size
 ·obtain⟨ds,k1,k2,k3⟩:=hC.defers
  refine⟨ds,k1,k2,fun D hD=>?_⟩
  obtain⟨k4,k5⟩:=k3 D hD
  have aj:D≠l:=fun e=>by subst e;rw[bY]at k5;cases k5
  exact⟨by show wb.heap.size<=D;rw[bf.1];exact k4,(h2 D aj).trans k5⟩
 ·intro nm o dO
  refine(hC.objs nm o dO).ext (Mem.le_refl _) (Ext.refl _ _) fun k1 k2=>h2 _ fun e=>?_
  rcases hC.own nm ⟨o,dO,k1,k2⟩with h3 | h3
  ·have h4:wa.heap.size<=(φ1 nm).blk:=h3
   omega
  ·rw[e]at h3;exact LD h3
 ·intro b off v hv
  have h3:=hC.mem b off v hv
  rw[qo (h2 b (fun e=>by subst e;unfold World.cell? at h3;simp[bY]at h3))]
  exact h3
 ·exact hC.apart
 ·exact hC.inj
 ·intro nm hh
  rcases hC.own nm hh with h3 | h3
  ·exact .inl (by show wb.heap.size<=_;rw[bf.1];exact h3)
  ·exact .inr h3
 ·refine⟨ho.1.symm,ho.2.1.symm,ho.2.2.symm,by show wb.heap.size<=_;rw[bf.1,bf.2];exact hC.fr.size,fun b h3 h4=>?_⟩
  show w2.heap[b]?=wb.heap[b]?
  by_cases e:b=l
  ·subst e;exact hl.symm
  ·rw[h2 b e,hb b e]
   exact hC.fr.block b (by have:b<wb.heap.size:=h3;show b<wa.heap.size;omega) h4
 ·intro b off v hv
  rcases hC.fresh b off v hv with h3 | h3 | h3
  ·exact .inl h3
  ·exact .inr (.inl (by show wb.heap.size<=_;rw[bf.1];exact h3))
  ·exact .inr (.inr h3)
 ·exact hC.kept
theorem Oa{L:List Name}{obj:Name->Option O}{nm:Name}{x:Option O}(h:nm∉L){y:Name}(hy:y∈L):bZ L (upd obj nm x) y=bZ L obj y:=by
 unfold bZ
 rw[aH _ _ _ (by rintro rfl;exact h hy)]
theorem Uh{L:List Name}{obj:Name->Option O}{nm:Name}{x:Option O}(h:nm∉L):jv L (upd obj nm x)=jv L obj:=by
 rw[yr,yr]
 congr 1
 exact List.map_congr_left fun y hy=>Oa h hy
theorem Ek{L:List Name}{φ:Name->Loc}{obj:Name->Option O}{nm:Name}{x:Option O}(h:nm∉L):nQ L φ (upd obj nm x)=nQ L φ obj:=by
 funext b
 refine propext ⟨fun ⟨y,h1,⟨o,h2,h3⟩,h4⟩=>?_,fun ⟨y,h1,⟨o,h2,h3⟩,h4⟩=>?_⟩
 ·rw[aH _ _ _ (by rintro rfl;exact h h1)]at h2
  exact⟨y,h1,⟨o,h2,h3⟩,h4⟩
 ·exact⟨y,h1,⟨o,by rw[aH _ _ _ (by rintro rfl;exact h h1)];exact h2,h3⟩,h4⟩
theorem ZY{w:World}{m:Mem}{L:List Name}{φ:Name->Loc}{obj:Name->Option O}{nm:Name}{x:Option O}{rd:Option Nat}(h:nm∉L){h1}{h2}{t1}{t2}:si w m L φ (upd obj nm x) rd h1 t1=si w m L φ obj rd h2 t2:=by
 unfold si
 simp only[Uh h,Ek h]
theorem Gz{P:Program}{y:YSpec}(h:∀ env ps asg body os ds,y.pre env ps asg body os ds->ds.length=ps.length->
 CW P asg ⟨env.length,setP (sp env) ps ds,aS os,[0],0⟩ (IF fun σ1=>CW P body σ1 (Tk os (y.out env ps asg body os ds)))):ak P yid y.toSpec:=by
 refine⟨y.near,fun e=>(e rfl).elim,fun e=>(e rfl).elim,fun _ G φ m σ a w hC t nm ds us _ hl hr _ aa o YK=>?_⟩
 simp only[YSpec.toSpec]at aa |-
 split at aa
 case h_2=>exact aa.elim
 rename_i env ps asg body al
 try simp only[al]
 obtain⟨aa,cG⟩:=aa
 simp only[Bool.and_eq_true,Bool.not_eq_true',decide_eq_true_eq]at aa
 obtain⟨⟨⟨⟨⟨fO,bO⟩,cA⟩,LG⟩,hlen⟩,eZ⟩:=aa
 have fi:nm∉reach σ.obj (roots env ds):=fun h=>by rw[gQ.2 h]at LG;cases LG
 have ie:(reach σ.obj (roots env ds)).Nodup:=xX _ _ _ (by simp)
 obtain⟨_,cP,r,bY,dL,hr3,Dw,Lq,Lo,Ln,Lm⟩:=hC.objs nm _ al
 have ae:(φ nm).blk<w.heap.size:=(Array.getElem?_eq_some_iff.1 bY).1
 have r3:¬ nQ (reach σ.obj (roots env ds)) φ σ.obj (φ nm).blk:=fun ⟨x,k1,k2,k3⟩=>fi (hC.inj _ _ k2 ⟨_,al,rfl,cP⟩ k3▸k1)
 have b9:r.params.size=ps.length:=by rw[<-Dw];simp
 intro next Q rO
 rw[YK,run_yield bY (by omega),Oper.uponIn_round]
 refine⟨fun h=>(by simp[eU,Fence.wide]at h),?_⟩
 rw[Lq,Lo]
 refine roundIn_of_wpIn trivial ?_
 have agc:=bO
 have YX:∀ i (h:i<env.length),D.clos (b8 (reach σ.obj (roots env ds))) env[i].d=true:=fun i hi=>by
  have :=iw (l:=roots env ds) (i:=i) (by simp[roots];omega) bO
  simp only[roots]at this |-
  rw[List.getElem_append_left (by simpa using hi)]at this
  simpa using this
 have Eo:∀ i (h:i<ds.length),D.clos (b8 (reach σ.obj (roots env ds))) ds[i]=true:=fun i hi=>by
  have :=iw (l:=roots env ds) (i:=env.length+i) (by simp[roots];omega) bO
  simp only[roots]at this |-
  rw[List.getElem_append_right (by simp)]at this
  simpa using this
 obtain⟨q1,q2⟩:=Hq (φ:=lU (reach σ.obj (roots env ds)) φ) (obj:=jv (reach σ.obj (roots env ds)) σ.obj) (m:=m) (n:=env.length) ps (jn σ.obj env ds) us.toList (sp (ix σ.obj env ds)) r.tmps Ln
  (by simp[jn,ic];omega) (by simp[jn,ic];omega) (fun p hp=>by have:=List.all_eq_true.1 eZ p hp;simpa using this)
  (fun t=>by
    unfold sp
    by_cases ht:t<env.length
    ·have:=(Lm t ht).renx (Mem.le_refl m) xW (YX t ht)
     have e:(ix σ.obj env ds).getD t eAny=E.ren (cin (reach σ.obj (roots env ds))) env[t]:=by
      rw[List.getD_eq_getElem?_getD,List.getElem?_eq_getElem (by simpa[ix]using ht)];simp[ix]
     rw[e];exact this
    ·have e:(ix σ.obj env ds).getD t eAny=eAny:=by
       rw[List.getD_eq_getElem?_getD,List.getElem?_eq_none (by simp[ix];omega)];rfl
     rw[e];unfold bQ eAny;simp;exact .any _)
  (fun i a b=>by
    simp only[jn,ic,List.length_map]at a
    have :=(hr i a (by simpa using b)).renx (Mem.le_refl m) xW (Eo i a)
    simpa[jn,ic]using this)
 have dd:=MJ hC (L:=reach σ.obj (roots env ds)) ie fO (rd:=some (φ nm).blk) (fun l e=>by cases e;exact⟨r3,r,bY⟩) (b0:=0) (nt:=env.length) q2 q1
 have mq:=h _ _ _ _ _ _ cG (by simp[jn,ic];omega)
 have YD:(r.params.zip us).foldl (fun tmps (p:Nat×Value)=>tmps.setIfInBounds p.1 p.2) r.tmps=(ps.zip us.toList).foldl (fun tmps (p:Nat×Value)=>tmps.setIfInBounds p.1 p.2) r.tmps:=by
  rw[<-Dw,<-Array.toList_zip,Array.foldl_toList]
 have r5:(ix σ.obj env ds).length=env.length:=by simp[ix]
 rw[r5]at mq
 rw[yr]at dd
 have YC:(r.params.zip us).foldl (fun tmps (x:Tmp×Value)=>match x with | (t,a)=>tmps.setIfInBounds t a) r.tmps=(ps.zip us.toList).foldl (fun tmps (p:Nat×Value)=>tmps.setIfInBounds p.1 p.2) r.tmps:=YD
 rw[YC]
 refine wpIn_mono (mq _ _ m _ w dd) ?_
 rintro e a1 w1 ⟨φ1,m1,σ1,fT,hK⟩
 cases e with
 |normal=>
  have Lr:w1.heap[(φ nm).blk]?=some (.loop r):=(fT.fr.block _ ae r3).trans bY
  have eS:=(Array.getElem?_eq_some_iff.1 Lr).1
  refine⟨_,run_beginRound Lr dL,?_⟩
  have dN:w1.os=w.os/\w1.tape=w.tape/\w1.output=w.output:=⟨fT.fr.os,fT.fr.tape,fT.fr.output⟩
  have fo:=NT (wb:=w.putObj (φ nm).blk (.loop { r with state:=.busy })) (w2:=w1.putObj (φ nm).blk (.loop { r with state:=.busy }))
   (h':=fun l e=>by cases e;exact⟨r3,_,World.putObj_heap_same ae⟩) (ht':=Be (xG hC _) ⟨r,bY⟩ fun b hb=>World.putObj_heap_other hb) fT ⟨by simp,by simp⟩ ⟨dN.1.symm,dN.2.1.symm,dN.2.2.symm⟩
   (fun b hb=>World.putObj_heap_other hb) (fun b hb=>World.putObj_heap_other hb) (by rw[World.putObj_heap_same ae,World.putObj_heap_same eS])
  refine wpIn_mono (hK _ _ m1 _ _ fo) ?_
  rintro e a3 w3 ⟨φ3,m3,σ3,sg,oP⟩
  have Dx:w3.heap[(φ nm).blk]?=some (.loop { r with state:=.busy }):=(sg.fr.block _ (by show _<(w.putObj _ _).heap.size;simpa using ae) r3).trans (World.putObj_heap_same ae)
  have Yn:=(Array.getElem?_eq_some_iff.1 Dx).1
  have fin:∀ bh:Option Code,(y.o σ.obj env ps asg body ds).2=bh->gG (cg σ.obj (roots env ds)) (y.o σ.obj env ps asg body ds).1 σ3->
      ∃ v w',(Instr.endRound (φ nm).blk bh).run P w3=.ok v w'/\next (a.put o.dst v) w':=by
   intro bh he hE
   refine⟨_,_,run_endRound bh Dx,?_⟩
   generalize X3:({ r with state:=.busy }:Loop)=rb at Dx |-
   let rf:Loop:={ r with state:=if bh.isNone then .ready else .done,pending:=bh }
   have X2:({ rb with state:=if bh.isNone then .ready else .done,pending:=bh }:Loop)=rf:=by rw[<-X3]
   rw[X2]
   have Mu:=NT (wb:=w.putObj (φ nm).blk (.loop rf)) (w2:=w3.putObj (φ nm).blk (.loop rf))
    (h':=fun l e=>by cases e;exact⟨r3,_,World.putObj_heap_same ae⟩) (ht':=Be (xG hC _) ⟨r,bY⟩ fun b hb=>World.putObj_heap_other hb) sg ⟨by simp,by simp⟩
    ⟨(show (w.putObj (φ nm).blk (.loop rf)).os=(w3.putObj (φ nm).blk (.loop rf)).os from sg.fr.os.symm),(show (w.putObj (φ nm).blk (.loop rf)).tape=(w3.putObj (φ nm).blk (.loop rf)).tape from sg.fr.tape.symm),(show (w.putObj (φ nm).blk (.loop rf)).output=(w3.putObj (φ nm).blk (.loop rf)).output from sg.fr.output.symm)⟩
    (fun b hb=>by rw[World.putObj_heap_other hb,World.putObj_heap_other hb]) (fun b hb=>World.putObj_heap_other hb) (by rw[World.putObj_heap_same ae,World.putObj_heap_same Yn])
   have bx:aB G φ m { σ with obj:=upd σ.obj nm (some (.loop env ps asg body (if bh.isNone then .ready else .done) bh)) } a (w.putObj (φ nm).blk (.loop rf)):=by
    have :=hC.chg (w':=w.putObj (φ nm).blk (.loop rf)) nm (.loop env ps asg body (if bh.isNone then .ready else .done) bh) (φ nm) (Ext.same al rfl rfl) ⟨rfl,rfl,rfl,by simp⟩
     (fun b _ hb=>World.putObj_heap_other (by rcases hb with h | h; · rw[cP]at h;cases h
                                              ·exact h))
     (fun _=>.inr ⟨⟨_,al,rfl,cP⟩,rfl⟩) (by
       rw[eE]
       refine⟨by assumption,cP,rf,World.putObj_heap_same ae,rfl,rfl,Dw,Lq,Lo,Ln,fun i hi=>(Lm i hi).ext (Mem.le_refl m) ?_⟩
       have :=Ext.same (φ:=φ) (o':=.loop env ps asg body (if bh.isNone then .ready else .done) bh) al rfl rfl
       rwa [eE]at this)
    rwa [eE]at this
   have Zx:shut (upd σ.obj nm (some (.loop env ps asg body (if bh.isNone then .ready else .done) bh))) (reach σ.obj (roots env ds))=true:=by
    rw[Bu (obj:=σ.obj) fun x hx=>aH _ _ _ (by rintro rfl;exact fi hx)];exact fO
   have zR:(reach σ.obj (roots env ds)).map (bZ (reach σ.obj (roots env ds)) (upd σ.obj nm (some (.loop env ps asg body (if bh.isNone then .ready else .done) bh))))=cg σ.obj (roots env ds):=
    List.map_congr_left fun x hx=>Oa fi hx
   have EI:=Nf hE
   rw[<-zR]at EI
   have wh:∀ x∈(y.o σ.obj env ps asg body ds).1.new,nm≠x.1++t:=fun x hx e=>by
    have :=List.all_eq_true.1 cA x hx
    rw[<-e,al]at this;cases this
   have YB:fresh (upd σ.obj nm (some (.loop env ps asg body (if bh.isNone then .ready else .done) bh))) t (y.o σ.obj env ps asg body ds).1.new=true:=by
    rw[z6 (obj:=σ.obj) fun x hx=>by
     obtain⟨z,hz,rfl⟩:=List.mem_map.1 hx
     exact aH _ _ _ (wh z hz).symm]
    exact cA
   rw[<-ZY (x:=some (.loop env ps asg body (if bh.isNone then .ready else .done) bh)) fi (h1:=fun l e=>by
    cases e;rw[Ek fi];exact⟨r3,_,World.putObj_heap_same ae⟩) (t1:=by unfold u6;rw[Ek fi];exact Be (xG hC _) ⟨r,bY⟩ fun b hb=>World.putObj_heap_other hb)]at Mu
   obtain⟨φ',m',k1,k2,k3,k4⟩:=MI bx ie Zx Mu EI YB
   refine rO _ φ' m' _ ?_ (.v _ _ ?_)
   ·have:(cY (reach σ.obj (roots env ds)) t (y.o σ.obj env ps asg body ds).1.new (b7 (reach σ.obj (roots env ds)) t (y.o σ.obj env ps asg body ds).1.upd (upd σ.obj nm (some (.loop env ps asg body (if bh.isNone then .ready else .done) bh)))))=
      upd (cY (reach σ.obj (roots env ds)) t (y.o σ.obj env ps asg body ds).1.new (b7 (reach σ.obj (roots env ds)) t (y.o σ.obj env ps asg body ds).1.upd σ.obj)) nm (some (.loop env ps asg body (if bh.isNone then .ready else .done) bh)):=by
      funext x
      have hu:((y.o σ.obj env ps asg body ds).1.upd.all fun x=>decide (x.1<(reach σ.obj (roots env ds)).length))=true:=List.all_eq_true.2 fun z hz=>by
       have :=List.all_eq_true.1 EI.cu z hz
       simp only[Bool.and_eq_true,List.length_map]at this;exact this.2
      by_cases e:x=nm
      ·subst e
       rw[aC,vw _ _ wh,BN _ _ hu fi,aC]
      ·rw[aH _ _ _ e]
       rw[qN (y.o σ.obj env ps asg body ds).1.new σ.obj (b7 _ _ _ (upd _ _ _)) x,qN (y.o σ.obj env ps asg body ds).1.new σ.obj (b7 _ _ _ σ.obj) x]
       by_cases h1:x∈(y.o σ.obj env ps asg body ds).1.new.map (fun x=>x.1++t)
       ·rw[if_pos h1,if_pos h1]
       ·rw[if_neg h1,if_neg h1]
        rw[te (y.o σ.obj env ps asg body ds).1.upd σ.obj (upd _ _ _) x,te (y.o σ.obj env ps asg body ds).1.upd σ.obj σ.obj x]
        by_cases h2:x∈(y.o σ.obj env ps asg body ds).1.upd.map (fun x=>(reach σ.obj (roots env ds)).getD x.1 [])
        ·rw[if_pos h2,if_pos h2]
        ·rw[if_neg h2,if_neg h2];exact aH _ _ _ e
    rw[this]at k2
    rw[he]
    exact k2
   ·rw[he];exact .bool _
  cases e with
  |normal=>exact fin none oP.1 oP.2
  |ret=>exact fin (some .ret) oP.1 oP.2
  |exit id=>exact fin (some (.exit id)) oP.1 oP.2
  |goto l=>exact oP.elim
  |panic ch=>exact oP.elim
  |outgrown=>exact oP.elim
 |ret=>exact hK.elim
 |exit id=>exact hK.elim
 |goto l=>exact hK.elim
 |panic ch=>exact hK.elim
 |outgrown=>exact hK.elim
theorem aa0{G:Ghost}{φ:Name->Loc}{m:Mem}{σ:S}{a:Act}{w:World}(hC:aB G φ m σ a w):
 aB G φ m σ { a with defers:=[{ target:=.collected w.heap.size,args:= #[] }]++a.defers } (w.alloc (.deferred (some []))):=by
 have hb:∀ b,b<w.heap.size->(w.alloc (.deferred (some []))).heap[b]?=w.heap[b]?:=fun b h=>RowKit.Below.heap_alloc w _ b h
 have h:=hC.imm (w':=w.alloc (.deferred (some []))) (Mem.le_refl m) ⟨rfl,rfl,rfl,by simp⟩ hb (fun _ _ _ h=>.inl h)
 refine⟨h.tmps,h.size,?_,h.objs,h.mem,h.apart,h.inj,h.own,h.fr,h.fresh,h.kept⟩
 obtain⟨ds,h1,h2,h3⟩:=h.defers
 have ae:∀ D∈ds,D<w.heap.size:=fun D hD=>by
  obtain⟨mB,k1,k2,k3⟩:=hC.defers
  have e:mB=ds:=by
   have :=k1.symm.trans h1
   have hi:Function.Injective (fun D:Nat=>({ target:=.collected D,args:= #[] }:Deferred)):=fun x y h=>by simpa using h
   exact(List.map_inj_right hi).1 this
  exact(Array.getElem?_eq_some_iff.1 (k3 D (e▸hD)).2).1
 refine⟨w.heap.size::ds,by rw[h1];rfl,List.nodup_cons.2 ⟨fun hm=>Nat.lt_irrefl _ (ae _ hm),h2⟩,fun D hD=>?_⟩
 rcases List.mem_cons.1 hD with rfl | hD
 ·exact⟨hC.fr.size,World.alloc_heap_new w _⟩
 ·exact h3 D hD
def jr(obj:Name->Option O)(nm:Name):Name->Option O:=upd obj nm (match obj nm with
 |some (.loop env ps asg body _ bh)=>some (.loop env ps asg body .exhausted bh)
 |o=>o)
def nq(K:Exit->S->Prop)(obj:Name->Option O)(nm:Name)(σ:S):Prop:=match obj nm with
 |some (.loop _ _ _ _ .busy _)=>False
 |some (.loop _ _ _ _ _ none)=>K .normal σ
 |some (.loop _ _ _ _ _ (some .ret))=>K .ret σ
 |some (.loop _ _ _ _ _ (some (.exit id)))=>K (.exit id) σ
 |_=>False
theorem NK{P:Program}{Γ:FuncId->Option Spec}(hΓ:∀ f s,Γ f=some s->ak P f s){g:Operand}{ps:Array Tmp}{asg body:Code}{σ:S}{K:Exit->S->Prop}(k k':Nat){f:FuncId}{s:Spec}
 (hc:cr σ g=true) (cV:fw (ah σ g)=some f) (aj:f≠yid) (hs:Γ f=some s) (mi:σ.obj (k::σ.pre)=none)
 (aa:(s.app (upd σ.obj (k::σ.pre) (some (.loop ((List.range σ.nt).map σ.env) ps.toList asg body .ready none))) (k'::σ.pre) (ep (ah σ g) [.yld (k::σ.pre)])).ok)
 (hK:nq K (s.app (upd σ.obj (k::σ.pre) (some (.loop ((List.range σ.nt).map σ.env) ps.toList asg body .ready none))) (k'::σ.pre) (ep (ah σ g) [.yld (k::σ.pre)])).obj (k::σ.pre)
   { σ with obj:=jr (s.app (upd σ.obj (k::σ.pre) (some (.loop ((List.range σ.nt).map σ.env) ps.toList asg body .ready none))) (k'::σ.pre) (ep (ah σ g) [.yld (k::σ.pre)])).obj (k::σ.pre) }):
 CW P (.rangeFunc g ps asg body) σ K:=by
 intro G φ m a w hC
 generalize al:k::σ.pre=nm at *
 generalize DI:upd σ.obj nm (some (.loop ((List.range σ.nt).map σ.env) ps.toList asg body .ready none))=pC at *
 generalize hR:s.app pC (k'::σ.pre) (ep (ah σ g) [.yld nm])=R at *
 have zC:=bT hC hc
 obtain⟨us,vs,fs,cs,hu,j9,e1,e2,bY,dL⟩:∃ (us vs:Array Value) (fs cs:List D),a.eval g=.func (.func f) us vs/\(∀ args,ep (ah σ g) args=fs++args++cs)/\fs.length=us.size/\cs.length=vs.size/\
  (∀ i (h:i<fs.length) (h':i<us.size),au φ σ.obj m fs[i] us[i])/\(∀ i (h:i<cs.length) (h':i<vs.size),au φ σ.obj m cs[i] vs[i]):=by
  generalize a.eval g=u at *
  generalize ah σ g=d at *
  unfold fw at cV
  split at cV
  ·rename_i f' fs cs
   split at cV
   ·cases cV
   cases cV
   cases zC with
   |v _ _ zC=>
   cases zC with
   |clo _ _ _ us vs e1 e2 h1 h2=>
   exact⟨us,vs,fs.map .v,cs.map .v,rfl,fun _=>rfl,by simpa using e1,by simpa using e2,fun i a b=>by simpa using .v _ _ (h1 i (by simpa using a) b),fun i a b=>by simpa using .v _ _ (h2 i (by simpa using a) b)⟩
  ·rename_i f' fs cs
   split at cV
   ·cases cV
   cases cV
   cases zC with
   |clo _ _ _ us vs e1 e2 h1 h2=>exact⟨us,vs,fs,cs,rfl,fun _=>rfl,e1,e2,h1,h2⟩
  ·cases cV;exact(aj rfl).elim
  ·cases cV
 refine wpIn_rangeFunc fun fn _=>?_
 have main:∀ (W:World) (a':Act) (D:Nat),aB G φ m σ a' W->a'.tmps=a.tmps->
     ∃ (d:Deferred) (sO:World) (f':FuncId) (args:Array Value) (w₂:World),
     (resolve a.eval (rangeCall g W.heap.size) 0).run P (W.alloc (.loop { state:=.ready,pending:=none,fn,tmps:=a.tmps,params:=ps,assign:=asg,body,defers:=D }))=.ok d sO/\
     (invoke d.target d.args).run P sO=.ok (.enter f' args) w₂/\
     CallsIn (eU G.rd) (0-1) P f' args w₂ (rangePost (eU G.rd) 0 P W.heap.size (fun e a' w'=>∃ φ' m' σ',aB G φ' m' σ' a' w'/\K e σ') a'):=by
  intro W a' D fT jE
  obtain⟨r,pS⟩:∃ r:Loop,r={ state:=.ready,pending:=none,fn,tmps:=a.tmps,params:=ps,assign:=asg,body,defers:=D }:=⟨_,rfl⟩
  rw[<-pS]
  have hx:=Ext.new (φ:=φ) mi ⟨W.heap.size,0,0,false,none⟩ (.loop ((List.range σ.nt).map σ.env) ps.toList asg body .ready none)
  have fo:=fT.chg (w':=W.alloc (.loop r)) nm (.loop ((List.range σ.nt).map σ.env) ps.toList asg body .ready none) ⟨W.heap.size,0,0,false,none⟩ hx ⟨rfl,rfl,rfl,by simp⟩
   (fun b hb _=>RowKit.Below.heap_alloc W _ b hb) (fun _=>.inl (Nat.le_refl _)) ⟨rfl,rfl,r,World.alloc_heap_new W _,by rw[pS],by rw[pS],by rw[pS],by rw[pS],by rw[pS],by
     rw[pS]
     show a.tmps.size=_
     rw[<-jE,fT.size];simp,fun i hi=>by
     simp only[List.getElem_map,List.getElem_range]
     rw[pS]
     show bQ _ _ m _ (a.tmps.getD i undef)
     rw[<-jE]
     exact(fT.tmps i).ext (Mem.le_refl m) hx⟩
  rw[DI]at fo hx
  refine⟨{ target:=.fn (.func f) vs,args:=us++ #[.func (.yield W.heap.size) #[] #[]] },W.alloc (.loop r),f,us++ #[.func (.yield W.heap.size) #[] #[]]++vs,W.alloc (.loop r),?_,?_,?_⟩
  ·have hy:a.eval (.const (.func (.yield W.heap.size) #[] #[]))=.func (.yield W.heap.size) #[] #[]:=rfl
   simp[resolve,Deferred.ofValue,hu,hy]
  ·simp[invoke,(hΓ f s hs).enter aj]
  ·refine M2 ?_
   have YZ:=(hΓ f s hs).calls aj G (upd φ nm ⟨W.heap.size,0,0,false,none⟩) m { σ with obj:=pC } a' (W.alloc (.loop r)) fo (k'::σ.pre) (ep (ah σ g) [.yld nm]) (us++ #[.func (.yield W.heap.size) #[] #[]]++vs) ⟨k',rfl⟩
   refine(YZ ?_ ?_ ?_).mono ?_
   ·rw[j9];simp only[List.length_append,List.length_singleton,Array.size_append,e1,e2];rfl
   ·intro i h1 h2
    simp only[j9]
    have zd:au (upd φ nm ⟨W.heap.size,0,0,false,none⟩) pC m (.yld nm) (.func (.yield W.heap.size) #[] #[]):=by
     have :=au.yld (φ:=upd φ nm ⟨W.heap.size,0,0,false,none⟩) (obj:=pC) (m:=m) nm ⟨_,by rw[<-DI,aC],rfl⟩
     rwa [aC]at this
    simp only[j9,List.length_append,List.length_singleton]at h1
    by_cases k1:i<fs.length
    ·have q1:i<us.size:=by omega
     simp only[List.append_assoc,Array.append_assoc]
     rw[List.getElem_append_left k1,Array.getElem_append_left q1]
     exact(bY i k1 q1).ext (Mem.le_refl m) hx
    ·by_cases k2:i=fs.length
     ·subst k2
      simp only[List.append_assoc,Array.append_assoc]
      rw[List.getElem_append_right (by omega),Array.getElem_append_right (by omega)]
      simp only[Nat.sub_self,e1,List.cons_append,List.getElem_cons_zero]
      rw[Array.getElem_append_left (by simp)]
      simpa using zd
     ·rw[List.getElem_append_right (by simp;omega),Array.getElem_append_right (by simp;omega)]
      have :=(dL (i-(fs.length+1)) (by omega) (by omega)).ext (Mem.le_refl m) hx
      simp only[List.length_append,List.length_singleton,Array.size_append,<-e1]
      exact this
   ·show (s.app pC _ _).ok
    rw[hR];exact aa
   ·rintro e w3 ⟨v,φ',m',rfl,sg,_,XF⟩
    have h9:s.app pC (k'::σ.pre) (ep (ah σ g) [.yld nm])=R:=hR
    have Mv:aB G φ' m' { σ with obj:=R.obj } a' w3:=by rw[<-h9];exact sg
    have XE:Ext (upd φ nm ⟨W.heap.size,0,0,false,none⟩) φ' pC R.obj:=by rw[<-h9];exact XF
    have Yc:pC nm=some (.loop ((List.range σ.nt).map σ.env) ps.toList asg body .ready none):=by rw[<-DI,aC]
    have DV:φ' nm=⟨W.heap.size,0,0,false,none⟩:=by
     obtain⟨o',k1,k2⟩:=XE nm _ Yc
     rcases k2 with⟨_,k2,_⟩ | ⟨n,n',k2,_⟩
     ·rw[k2,aC]
     ·cases k2
    unfold nq at hK
    have step:∀ {fK:List E} {fB:List Nat} {a1 b1:Code} {st:LoopState} {bh:Option Code},R.obj nm=some (.loop fK fB a1 b1 st bh)->st≠ .busy->
        ∃ w4,(Instr.endLoop W.heap.size).run P w3=.ok bh w4/\aB G φ' m' { σ with obj:=jr R.obj nm } a' w4:=by
     intro fK fB a1 b1 st bh ho bF
     obtain⟨q0,q1,r',q2,q3,q4,q5,q6,q7,q8,q9⟩:=Mv.objs nm _ ho
     rw[DV]at q2
     have YO:(Instr.endLoop W.heap.size).run P w3=.ok bh (w3.putObj W.heap.size (.loop { r' with state:=.exhausted })):=by
      rw[run_endLoop (P:=P) q2 (by rw[q3];exact bF),q4]
     refine⟨_,YO,?_⟩
     have ae:=(Array.getElem?_eq_some_iff.1 q2).1
     have kH:jr R.obj nm=upd R.obj nm (some (.loop fK fB a1 b1 .exhausted bh)):=by unfold jr;rw[ho]
     rw[kH]
     have :=Mv.chg (w':=w3.putObj W.heap.size (.loop { r' with state:=.exhausted })) nm (.loop fK fB a1 b1 .exhausted bh) (φ' nm) (Ext.same ho rfl rfl) ⟨rfl,rfl,rfl,by simp⟩
      (fun b _ hb=>World.putObj_heap_other (by
        rcases hb with h | h
        ·rw[q1]at h;cases h
        ·rw[DV]at h;exact h))
      (fun _=>.inr ⟨⟨_,ho,rfl,q1⟩,rfl⟩) (by
        rw[eE]
        refine⟨q0,q1,{ r' with state:=.exhausted },by rw[DV];exact World.putObj_heap_same ae,rfl,q4,q5,q6,q7,q8,fun i hi=>(q9 i hi).ext (Mem.le_refl _) ?_⟩
        have :=Ext.same (φ:=φ') (o':=.loop fK fB a1 b1 .exhausted bh) ho rfl rfl
        rwa [eE]at this)
     rw[eE]at this
     exact this
    rcases ho:R.obj nm with _ | o
    ·rw[ho]at hK;exact hK.elim
    rw[ho]at hK
    cases o with
    |loop fK fB a1 b1 st bh=>
     have bF:st≠ .busy:=by rintro rfl;exact hK.elim
     obtain⟨w4,h1,h2⟩:=step ho bF
     refine⟨bh,w4,h1,?_⟩
     cases bh with
     |none=>
      refine⟨φ',m',_,h2,?_⟩
      cases st<;>first | exact hK | exact(bF rfl).elim
     |some c=>
      cases c with
      |ret=>exact wpIn_ret ⟨φ',m',_,h2,by cases st<;>first | exact hK | exact(bF rfl).elim⟩
      |exit id=>exact wpIn_exit ⟨φ',m',_,h2,by cases st<;>first | exact hK | exact(bF rfl).elim⟩
      |_=>exfalso;cases st<;>first | exact hK | exact(bF rfl).elim
    |_=>exact hK.elim
 cases mh:G.rd with
 |none=>
  obtain⟨d,sO,f',args,w₂,h1,h2,h3⟩:=main (w.alloc (.deferred (some []))) _ w.heap.size (aa0 hC) rfl
  rw[mh]at h3
  have bf:(w.alloc (.deferred (some []))).heap.size=w.heap.size+1:=by simp
  rw[bf]at h1 h3
  exact⟨w.heap.size+1,[{ target:=.collected w.heap.size,args:= #[] }],_,d,sO,f',args,w₂,run_enterLoop_outer _ _ _ _ _,h1,fun _ _=>trivial,h2,fun h=>(by simp[eU,Fence.wide]at h),h3⟩
 |some l=>
  obtain⟨dO,r0,Lt⟩:=G.rdok l mh
  have X5:w.heap[l]?=some (.loop r0):=(hC.fr.block l (Array.getElem?_eq_some_iff.1 Lt).1 dO).trans Lt
  obtain⟨d,sO,f',args,w₂,h1,h2,h3⟩:=main w a r0.defers hC rfl
  rw[mh]at h3
  exact⟨w.heap.size,[],_,d,sO,f',args,w₂,run_enterLoop_inner X5 _ _ _ _ _,h1,fun _ _=>trivial,h2,fun h=>(by simp[eU,Fence.wide]at h),h3⟩
theorem FV{P:Program}{Γ:FuncId->Option Spec}(hΓ:∀ f s,Γ f=some s->ak P f s){g:Operand}{ps:Array Tmp}{asg body:Code}{σ:S}{r:List Code}{K:Exit->S->Prop}(k k':Nat){f:FuncId}{s:Spec}
 (hc:cr σ g=true) (cV:fw (ah σ g)=some f) (aj:f≠yid) (hs:Γ f=some s) (mi:σ.obj (k::σ.pre)=none)
 (aa:(s.app (upd σ.obj (k::σ.pre) (some (.loop ((List.range σ.nt).map σ.env) ps.toList asg body .ready none))) (k'::σ.pre) (ep (ah σ g) [.yld (k::σ.pre)])).ok)
 (hK:nq (fV (fun σ'=>CL P r σ' K) K) (s.app (upd σ.obj (k::σ.pre) (some (.loop ((List.range σ.nt).map σ.env) ps.toList asg body .ready none))) (k'::σ.pre) (ep (ah σ g) [.yld (k::σ.pre)])).obj (k::σ.pre)
   { σ with obj:=jr (s.app (upd σ.obj (k::σ.pre) (some (.loop ((List.range σ.nt).map σ.env) ps.toList asg body .ready none))) (k'::σ.pre) (ep (ah σ g) [.yld (k::σ.pre)])).obj (k::σ.pre) }):
 CL P (.rangeFunc g ps asg body::r) σ K:=NK hΓ k k' hc cV aj hs mi aa hK
theorem dj.refl(σ:S):dj σ σ:=fun _ φ _ _ _ hC=>⟨φ,hC⟩
theorem dj.trans{a b c:S}(h:dj a b)(k:dj b c):dj a c:=fun G φ m x w hC=>by
 obtain⟨φ',h'⟩:=h G φ m x w hC
 exact k G φ' m x w h'
theorem bJ{σ τ:S}(ks:List Nat)(ns:List Name)(h:fv ks ns σ)(he:fD ks ns σ=τ):dj σ τ:=he▸A5 ks ns h
def kx(l c:List (Nat×E)):List (Nat×E):=l.map fun q=>(q.1,(c.lookup q.1).getD q.2)
def ku(l c:List (Name×O)):List (Name×O):=l.map fun q=>(q.1,(c.lookup q.1).getD q.2)
theorem kj{P:Program}{c:Code}{r:List Code}{σ:S}{K:Exit->S->Prop}(ks:List Nat)(ns:List Name)(h:fv ks ns σ)(hc:CL P (c::r) (fD ks ns σ) K):CL P (c::r) σ K:=
 uS (A5 ks ns h) hc
theorem dR{P:Program}{c:Code}{r:List Code}{K:Exit->S->Prop}{nt:Nat}{p:Name}{H:Name->Option O}{l:List (Nat×E)}{h:List (Name×O)}{ι:Type}
 (chg:ι->List (Nat×E)) (jS:ι->List (Name×O)) (R:ι->Prop) (μ:ι->Nat) (i0:ι) (hR:R i0) (he:kx l (chg i0)=l) (ho:ku h (jS i0)=h)
 (round:∀ i,R i->CL P [c] (aO nt p H (kx l (chg i)) (ku h (jS i))) (fV (fun σ'=>∃ i',R i'/\μ i'<μ i/\dj σ' (aO nt p H (kx l (chg i')) (ku h (jS i')))) K)):
 CL P (.loop c::r) (aO nt p H l h) K:=by
 refine FW (fun i=>aO nt p H (kx l (chg i)) (ku h (jS i))) R μ i0 hR ?_ round
 rw[he,ho]
 exact .refl _
theorem aba{P:Program}{c:Code}{r:List Code}{K:Exit->S->Prop}{nt:Nat}{p:Name}{H:Name->Option O}{l:List (Nat×E)}{h:List (Name×O)}{ι:Type}
 (Hc:ι->Name->Option O) (chg:ι->List (Nat×E)) (jS:ι->List (Name×O)) (R:ι->Prop) (μ:ι->Nat) (i0:ι) (hR:R i0) (hH:aO nt p (Hc i0) l h=aO nt p H l h) (he:kx l (chg i0)=l) (ho:ku h (jS i0)=h)
 (round:∀ i,R i->CL P [c] (aO nt p (Hc i) (kx l (chg i)) (ku h (jS i))) (fV (fun σ'=>∃ i',R i'/\μ i'<μ i/\dj σ' (aO nt p (Hc i') (kx l (chg i')) (ku h (jS i')))) K)):
 CL P (.loop c::r) (aO nt p H l h) K:=by
 refine FW (fun i=>aO nt p (Hc i) (kx l (chg i)) (ku h (jS i))) R μ i0 hR ?_ round
 rw[he,ho,hH]
 exact .refl _
attribute [go_sem] kx ku List.lookup_cons List.lookup_nil List.getElem?_toArray List.getElem?_cons_succ List.getElem?_cons_zero beq_true beq_false ite_self Bool.and_self Bool.or_self imp_self Bool.if_true_right Bool.if_false_right Bool.if_true_left Bool.if_false_left Bool.decide_eq_true
attribute [go_sem] vt gG qZ vE distinct eO dt cE fc aS Bool.and_eq_true
def fg(a b:Nat):Bool:=Nat.ble a b
def gz(a b:Nat):Bool:=Nat.ble (a+1) b
def cv(a b:Nat):Bool:=Nat.beq a b
def cL(a b:Int):Bool:=match b-a with
 | .ofNat _=>true
 | .negSucc _=>false
def jZ(a b:Int):Bool:=match b-a-1 with
 | .ofNat _=>true
 | .negSucc _=>false
def tI{α:Type}:Option α->Bool
 |none=>true
 |some _=>false
def n9:Option Nat->Nat->Bool
 |some a,b=>Nat.beq a b
 |none,_=>false
def uX(sz:Nat):List V->Bool
 |[]=>true
 |x::r=>Nat.beq x.cells.length sz&&uX sz r
def uY(sz:Nat):List V->Bool
 |[]=>true
 |x::r=>Nat.beq x.cells.length sz&&x.okc&&uY sz r
def vM(a b:IntKind):Bool:=match a,b with
 | .i64,.i64=>true
 | .u8,.u8=>true
 | .u64,.u64=>true
 | .i32,.i32=>true
 | .u32,.u32=>true
 |_,_=>false
def C1(P:Program)(T:TypeId):Bool:=match P.underlying T with
 |some .bool=>true
 |_=>false
def isEq:BinOp->Bool
 | .eql=>true
 | .neq=>true
 |_=>false
def rk:Int->Bool
 | .ofNat 0=>true
 |_=>false
theorem rh{a b:Nat}(h:fg a b=true):a<=b:=Nat.le_of_ble_eq_true h
theorem vG{a b:Nat}(h:gz a b=true):a<b:=Nat.le_of_ble_eq_true h
theorem jT{a b:Nat}(h:cv a b=true):a=b:=Nat.eq_of_beq_eq_true h
theorem fh{a b:Int}(h:cL a b=true):a<=b:=by
 unfold cL at h
 split at h
 ·rename_i n hn
  have :(0:Int)<=b-a:=by rw[hn];exact Int.natCast_nonneg n
  omega
 ·cases h
theorem Xu{a b:Int}(h:jZ a b=true):a<b:=by
 unfold jZ at h
 split at h
 ·rename_i n hn
  have :(0:Int)<=b-a-1:=by rw[hn];exact Int.natCast_nonneg n
  omega
 ·cases h
theorem yu{α:Type}{o:Option α}(h:tI o=true):o=none:=by cases o<;>simp_all[tI]
theorem pD{o:Option Nat}{b:Nat}(h:n9 o b=true):o=some b:=by
 cases o with
 |none=>cases h
 |some a=>rw[Nat.eq_of_beq_eq_true h]
theorem AT{sz:Nat}:∀ {l:List V},uX sz l=true->∀ x∈l,x.cells.length=sz
 |y::r,h,x,hx=>by
  simp only[uX,Bool.and_eq_true]at h
  rcases List.mem_cons.1 hx with rfl | hx
  ·exact Nat.eq_of_beq_eq_true h.1
  ·exact AT h.2 x hx
theorem AU{sz:Nat}:∀ {l:List V},uY sz l=true->∀ x∈l,x.cells.length=sz/\x.okc=true
 |y::r,h,x,hx=>by
  simp only[uY,Bool.and_eq_true]at h
  rcases List.mem_cons.1 hx with rfl | hx
  ·exact⟨Nat.eq_of_beq_eq_true h.1.1,h.1.2⟩
  ·exact AU h.2 x hx
theorem KA{a b:IntKind}(h:vM a b=true):a=b:=by unfold vM at h;split at h<;>first | rfl | cases h
theorem Xc{P:Program}{T:TypeId}(h:C1 P T=true):P.underlying T=some .bool:=by unfold C1 at h;split at h<;>first | assumption | cases h
theorem yY{op:BinOp}(h:isEq op=true):op=.eql\/op=.neq:=by cases op<;>first | exact .inl rfl | exact .inr rfl | cases h
theorem W7{n:Int}(h:rk n=false):n≠0:=by rintro rfl;cases h
section
variable (P:Program) (obj:Name->Option O)
def xj(T:TypeId)(x:D):Bool:=
 match ba P T with
 |none=>false
 |some (ag,n)=>match x with
  | .v (.ptr cs)=>match ag with
    |true=>fg n cs.length
    |false=>cv n 1&&gz 0 cs.length
  | .ref nm off=>match obj nm with
    |some (.box cs)=>match ag with
     |true=>fg (off+n) cs.length
     |false=>cv n 1&&gz off cs.length
    |some (.fbox cs)=>match ag with
     |true=>fg (off+n) cs.length
     |false=>cv n 1&&gz off cs.length
    |_=>false
  | .aref nm k i off=>match obj nm with
    |some (.arr _ l)=>cv k l.length&&gz i l.length&&(match ag with
     |true=>fg (off+n) (l.getD i default).cells.length
     |false=>cv n 1&&gz off (l.getD i default).cells.length)
    |some (.farr _ l)=>cv k l.length&&gz i l.length&&(match ag with
     |true=>fg (off+n) (l.getD i default).cells.length
     |false=>cv n 1&&gz off (l.getD i default).cells.length)
    |_=>false
  |_=>false
def AL(T:TypeId)(f:Nat)(x:D):Bool:=
 match cQ P T f with
 |none=>false
 |some (off,n,_)=>!cv n 0&&match x with
  | .v (.ptr cs)=>fg (off+n) cs.length
  | .ref _ _=>true
  | .aref nm k _ _=>match obj nm with
    |some o=>n9 o.len? k
    |none=>false
  |_=>false
def AJ(T:TypeId)(x i:D):Bool:=
 match i with
 | .v (.int _ n)=>match x with
   | .v (.sl l)=>match bK P T with
     |some (_,sz,_)=>cL 0 n&&jZ n l.length&&cv (l.getD n.toNat default).cells.length sz
     |none=>false
   | .msl nm k=>match bK P T with
     |some (_,sz,_)=>match obj nm with
      |some (.arr s l)=>cL 0 n&&jZ n l.length&&cv k l.length&&cv s sz
      |some (.farr s l)=>cL 0 n&&jZ n l.length&&cv k l.length&&cv s sz
      |_=>false
     |none=>false
   | .ref _ _=>match gw P T with
     |some (len,_,_)=>cL 0 n&&jZ n len
     |none=>false
   | .v (.ptr cs)=>match gw P T with
     |some (len,sz,_)=>cL 0 n&&jZ n len&&fg (n.toNat*sz+sz) cs.length
     |none=>false
   |_=>false
 |_=>false
def OH(op:BinOp)(k k':IntKind)(b:Int):Bool:=
 match op with
 | .quo=>vM k k'&&!rk b
 | .rem=>vM k k'&&!rk b
 | .shl=>cL 0 b
 | .shr=>cL 0 b
 |_=>vM k k'
def Oy(op:BinOp)(a b:ByteArray):Bool:=
 match op with
 | .add=>fg (a.size+b.size) maxLen
 | .eql | .neq | .lss | .leq | .gtr | .geq=>true
 |_=>false
def Ge(op:BinOp)(T:TypeId)(x y:D):Bool:=
 match x,y with
 | .v (.int k _),.v (.int k' b)=>OH op k k' b
 | .v (.str a),.v (.str b)=>Oy op a b
 | .v (.bool _),.v (.bool _)=>C1 P T&&isEq op
 |_,_=>false
def Ga(op:BinOp)(T:TypeId)(x y:V):Bool:=
 match jG P Op.maxDepth T x y with
 |some _=>!(P.eqGuardType P.depth T)&&isEq op
 |none=>false
def F6(op:BinOp)(T:TypeId)(x:D):Bool:=
 match x with
 | .v (.sl (_::_))=>n9 (dG P T) 0&&isEq op
 | .msl nm (k+1)=>(match obj nm with | some o=>n9 o.len? (k+1) | none=>false)&&n9 (dG P T) 0&&isEq op
 |_=>false
def AQ(op:BinOp)(T:TypeId)(x y:D)(kF:Bool):Bool:=
 match kF with
 |true=>F6 P obj op T x
 |false=>match ee x,ee y with
  |some (.agg a),some (.agg b)=>Ga P op T (.agg a) (.agg b)
  |_,_=>Ge P op T x y
def Ax(op:UnOp)(x:D):Bool:=
 match op,x with
 | .not,.v (.bool _)=>true
 | .neg,.v (.int _ _)=>true
 |_,_=>false
def AO(src dst:TypeId)(x:D):Bool:=
 match lk P src dst with
 | 0=>match lX P dst,x with
   |some _,.v (.int _ _)=>(P.underlying src).isSome
   |_,_=>false
 |_=>false
def AN(x:D)(i:Nat):Bool:=
 match x with
 | .tup l=>gz i l.length
 | .v (.tup l)=>gz i l.length
 |_=>false
def AB(x:D):Bool:=
 match x with
 | .ref _ _=>true
 | .v (.ptr _)=>true
 | .aref nm k _ _=>match obj nm with
   |some o=>n9 o.len? k
   |none=>false
 |_=>false
def xl(t:Name)(x:D):Bool:=tI (obj (aL t))&&x.boxable
def AR(t:Name)(T:TypeId):Bool:=match bb P T with
 |some z=>xl obj t (jb z)
 |none=>false
def AP(T:TypeId)(parts:List (Nat×D)):Bool:=
 match iV P T,bb P T with
 |some ps,some z=>match jb z with
  | .agg cs=>match sk (fun i=>ps[i]?) cs parts with
    |some _=>true
    |none=>false
  |_=>false
 |_,_=>false
def Ay(T:TypeId)(x d:D):Bool:=
 match ba P T with
 |none=>false
 |some (_,n)=>match x with
  | .ref nm off=>match obj nm with
    |some (.box cs)=>d.boxable&&cv d.cells.length n&&fg (off+n) cs.length
    |_=>false
  | .aref nm k i off=>match obj nm with
    |some (.arr sz l)=>match ee d with
     |some y=>cv k l.length&&gz i l.length&&cv y.cells.length n&&y.okc&&fg (off+n) sz&&!cv sz 0
     |none=>false
    |_=>false
  |_=>false
def AF(t:Name)(T:TypeId)(r:Option D):Bool:=
 match lW P T,r with
 |some _,none=>tI (obj (aL t))
 |_,_=>false
def AE(t:Name)(T:TypeId)(l c:D):Bool:=
 match bK P T,l,c with
 |some (e,sz,by_),.v (.int _ n),.v (.int _ n')=>match (bb P e).bind fun z=>ee (jb z)with
  |some zv=>cL n n'&&cL n' n&&cL 0 n&&cL ((by_:Int)*n) 281474976710656&&cL n 9223372036854775807&&cv zv.cells.length sz&&zv.okc&&!cv sz 0&&tI (obj (aL t))
  |none=>false
 |_,_,_=>false
def AH(T:TypeId)(x:D):Bool:=
 match dG P T,x with
 |some 0,.v (.sl _)=>true
 |some 0,.nilsl=>true
 |some 0,.msl nm k=>match obj nm with
  |some o=>n9 o.len? k
  |none=>false
 |some 1,.v (.str _)=>true
 |some 2,.nilmap=>true
 |some 2,.map nm=>match obj nm with
  |some (.map _ _)=>true
  |_=>false
 |_,_=>false
def Az(T:TypeId)(x:D)(lo hi mx:Option D):Bool:=
 match mx with
 |none=>match x with
  | .v (.sl l)=>match bK P T,gA lo,j6 l.length hi with
    |some (_,sz,_),some i,some j=>cL 0 i&&cL i j&&cL j l.length&&uX sz l
    |_,_,_=>false
  | .nilsl=>match bK P T,gA lo,j6 0 hi with
    |some (_,_,_),some i,some j=>rk i&&rk j
    |_,_,_=>false
  | .msl nm k=>match obj nm,bK P T,gA lo,j6 k hi with
    |some (.arr _ l),some (_,sz,_),some i,some j=>cv k l.length&&cL 0 i&&cL i j&&cL j l.length&&uX sz l
    |some (.farr _ l),some (_,sz,_),some i,some j=>cv k l.length&&cL 0 i&&cL i j&&cL j l.length&&uX sz l
    |_,_,_,_=>false
  | .v (.str s)=>match dG P T,gA lo,j6 s.size hi with
    |some 1,some i,some j=>cL 0 i&&cL i j&&cL j s.size
    |_,_,_=>false
  |_=>false
 |some (.v (.int _ 0))=>match bK P T,gA lo,hi with
  |some _,some 0,some (.v (.int _ 0))=>match x with
   | .v (.sl _)=>true
   | .nilsl=>true
   | .msl nm k=>match obj nm with
     |some o=>n9 o.len? k
     |none=>false
   |_=>false
  |_,_,_=>false
 |some _=>false
def AM(T:TypeId)(x:D)(f:Nat):Bool:=
 match cQ P T f with
 |none=>false
 |some (off,n,ag)=>match x with
  | .agg l=>match ag with
    |true=>fg (off+n) l.length
    |false=>gz off l.length
  | .v (.agg l)=>match ag with
    |true=>fg (off+n) l.length
    |false=>gz off l.length
  |_=>false
def AK(T:TypeId)(x i:D):Bool:=
 match i with
 | .v (.int _ n)=>match x with
   | .v (.str s)=>n9 (dG P T) 1&&cL 0 n&&jZ n s.size
   | .agg l=>match gw P T with
     |some (len,sz,true)=>cL 0 n&&jZ n len&&fg (n.toNat*sz+sz) l.length
     |some (len,sz,false)=>cL 0 n&&jZ n len&&gz (n.toNat*sz) l.length
     |none=>false
   | .v (.agg l)=>match gw P T with
     |some (len,sz,true)=>cL 0 n&&jZ n len&&fg (n.toNat*sz+sz) l.length
     |some (len,sz,false)=>cL 0 n&&jZ n len&&gz (n.toNat*sz) l.length
     |none=>false
   |_=>false
 |_=>false
def AG(T:TypeId)(x k:D):Bool:=
 match lW P T with
 |some (kd,e)=>match (bb P e).bind fun z=>ee (jb z),ee k with
  |some _,some kv=>match x with
   | .nilmap=>fg kd 2&&dZ kd kv
   | .map nm=>match obj nm with
     |some (.map jX _)=>fg kd 2&&dZ kd kv&&cv jX kd
     |_=>false
   |_=>false
  |_,_=>false
 |none=>false
def xi(T:TypeId)(x k d:D):Bool:=
 match lW P T,x,ee k,ee d with
 |some (kd,_),.map nm,some kv,some _=>match obj nm with
  |some (.map jX _)=>fg kd 2&&dZ kd kv&&cv jX kd
  |_=>false
 |_,_,_,_=>false
def AA(c:D):Bool:=match c with
 | .v (.bool _)=>true
 |_=>false
def xh(x:D):Bool:=match x with
 | .v (.sl _)=>true
 | .nilsl=>true
 | .msl nm k=>match obj nm with
   |some (.arr _ l)=>cv k l.length
   |some (.farr _ l)=>cv k l.length
   |_=>false
 |_=>false
def sF(t:Name)(T1 T2:TypeId)(s x:D):Bool:=
 match bK P T1,bK P T2 with
 |some (e,sz,by_),some _=>match bb P e with
  |some z=>match s with
   | .nilsl=>xh obj x&&uY sz (aw obj x).2&&cv z.cells.size sz&&fg ((aw obj x).2.length*by_) 140737488355328&&fg (aw obj x).2.length maxLen&&tI (obj (aL t))
   | .msl nm k=>match obj nm with
     |some (.arr s' l)=>xh obj x&&uY sz (aw obj x).2&&cv z.cells.size sz&&fg ((l.length+(aw obj x).2.length)*by_) 140737488355328&&
        fg (l.length+(aw obj x).2.length) maxLen&&cv k l.length&&cv s' sz
     |_=>false
   |_=>false
  |none=>false
 |_,_=>false
variable {P obj}
theorem pH{a b:Nat}:fg a b=true↔a<=b:=⟨rh,Nat.ble_eq_true_of_le⟩
theorem vH{a b:Nat}:gz a b=true↔a<b:=⟨vG,Nat.ble_eq_true_of_le⟩
theorem pI{a b:Nat}:cv a b=true↔a=b:=⟨jT,fun h=>by subst h;simp[cv]⟩
theorem yD{a b:Nat}:cv a b=false↔a≠b:=by
 rw[<-Bool.not_eq_true,pI]
theorem La{a b:Int}:cL a b=true↔a<=b:=⟨fh,fun h=>by
 unfold cL
 split
 ·rfl
 ·rename_i n hn;have:=Int.negSucc_lt_zero n;omega⟩
theorem K8{a b:Int}:jZ a b=true↔a<b:=⟨Xu,fun h=>by
 unfold jZ
 split
 ·rfl
 ·rename_i n hn;have:=Int.negSucc_lt_zero n;omega⟩
theorem KU{n:Int}:rk n=true↔n=0:=⟨fun h=>(by unfold rk at h;split at h<;>first | rfl | cases h),fun h=>(by subst h;rfl)⟩
theorem F8{T:TypeId}{x:D}(h:xj P obj T x=true):(jm P obj T x).ok:=by
 unfold xj at h
 unfold jm
 (repeat' split at h)<;>simp_all[pH,vH,pI,-List.getD_eq_getElem?_getD]
theorem OL{T:TypeId}{f:Nat}{x:D}(h:AL P obj T f x=true):(kX P obj T f x).ok:=by
 unfold AL at h
 unfold kX
 split at h
 ·cases h
 ·simp only[Bool.and_eq_true,Bool.not_eq_true',yD]at h
  obtain⟨h1,h⟩:=h
  (repeat' split at h)<;>simp_all[pH]
  exact pD h
theorem OJ{T:TypeId}{x i:D}(h:AJ P obj T x i=true):(kW P obj T x i).ok:=by
 unfold AJ at h
 unfold kW
 (repeat' split at h)<;>simp_all[pH,pI,La,K8,-List.getD_eq_getElem?_getD]
theorem abQ{op:BinOp}{T:TypeId}{x y:D}(h:Ge P op T x y=true):(mP P obj op T x y).ok:=by
 unfold Ge at h
 unfold mP
 split at h
 ·simp only
  unfold OH at h
  unfold AI
  cases op<;>simp only[Bool.and_eq_true,Bool.not_eq_true']at h |- <;>first
   |exact⟨KA h.1,W7 h.2⟩
   |exact KA h
   |exact fh h
 ·simp only
  unfold Oy at h
  unfold xg
  cases op<;>simp only at h |- <;>first | exact rh h | trivial | (cases h;done)
 ·simp only[Bool.and_eq_true]at h
  exact⟨Xc h.1,yY h.2⟩
 ·cases h
theorem abM{op:BinOp}{T:TypeId}{x y:V}(h:Ga P op T x y=true):(lL P obj op T x y).ok:=by
 unfold Ga at h
 unfold lL
 split at h
 ·rename_i b hb
  simp only[Bool.and_eq_true,Bool.not_eq_true']at h
  rw[hb]
  exact⟨h.1,yY h.2⟩
 ·cases h
theorem abJ{op:BinOp}{T:TypeId}{x:D}(h:F6 P obj op T x=true):(o4 P obj op T x).ok:=by
 unfold F6 at h
 unfold o4
 split at h
 ·simp only[Bool.and_eq_true]at h
  exact⟨pD h.1,yY h.2⟩
 ·rename_i nm k
  simp only[Bool.and_eq_true]at h
  refine⟨?_,pD h.1.2,yY h.2⟩
  have h1:=h.1.1
  split at h1
  ·rename_i o ho;rw[ho];exact pD h1
  ·cases h1
 ·cases h
theorem OQ{op:BinOp}{T:TypeId}{x y:D}{n:Bool}(h:AQ P obj op T x y n=true):(lP P obj op T x y n).ok:=by
 unfold AQ at h
 unfold lP
 cases n with
 |true=>exact abJ h
 |false=>
  simp only at h |-
  split at h
  ·rename_i h1 h2
   simp only[h1,h2]
   exact abM h
  ·rename_i aj
   split
   ·rename_i h1 h2;exact(aj _ _ h1 h2).elim
   ·exact abQ h
theorem Ox{op:UnOp}{x:D}(h:Ax op x=true):(lG obj op x).ok:=by
 unfold Ax at h
 unfold lG
 split at h<;>first | trivial | cases h
theorem OO{s d:TypeId}{x:D}(h:AO P s d x=true):(mO P obj s d x).ok:=by
 unfold AO at h
 unfold mO
 split at h
 ·rename_i h0
  rw[h0]
  show (o5 P obj s d x).ok
  unfold o5
  (repeat' split at h)<;>simp_all
 ·cases h
theorem OM{x:D}{i:Nat}(h:AN x i=true):(lK obj x i).ok:=by
 unfold AN at h
 unfold lK
 split at h<;>simp_all[vH]
theorem OC{x:D}(h:AB obj x=true):(kn obj x).ok:=by
 unfold AB at h
 unfold kn
 (repeat' split at h)<;>simp_all
 exact pD h
theorem Gd{t:Name}{x:D}(h:xl obj t x=true):(lO obj t x).ok:=by
 simp only[xl,Bool.and_eq_true]at h
 exact⟨yu h.1,h.2⟩
theorem OR{t:Name}{T:TypeId}(h:AR P obj t T=true):(mQ P obj t T).ok:=by
 unfold AR at h
 unfold mQ
 split at h
 ·rename_i z hz;rw[hz];exact Gd h
 ·cases h
theorem OP{T:TypeId}{ps:List (Nat×D)}(h:AP P T ps=true):(lN P obj T ps).ok:=by
 unfold AP at h
 unfold lN
 (repeat' split at h)<;>simp_all
theorem Oz{T:TypeId}{x d:D}(h:Ay P obj T x d=true):(km P obj T x d).ok:=by
 unfold Ay at h
 unfold km
 (repeat' split at h)<;>simp_all[pH,vH,pI,yD]
theorem OE{t:Name}{T:TypeId}{r:Option D}(h:AF P obj t T r=true):(mN P obj t T r).ok:=by
 unfold AF at h
 unfold mN
 (repeat' split at h)<;>simp_all
 exact yu h
theorem OD{t:Name}{T:TypeId}{l c:D}(h:AE P obj t T l c=true):(mM P obj t T l c).ok:=by
 unfold AE at h
 unfold mM
 split at h
 ·rename_i e sz by_ k n k' n' hT
  rw[hT]
  simp only
  split at h
  ·rename_i zv hz
   simp only[Bool.and_eq_true,Bool.not_eq_true',yD]at h
   obtain⟨⟨⟨⟨⟨⟨⟨⟨h1,h2⟩,h3⟩,h4⟩,h5⟩,h6⟩,h7⟩,h8⟩,h9⟩:=h
   rw[hz]
   exact⟨Int.le_antisymm (fh h2) (fh h1),fh h3,fh h4,fh h5,jT h6,h7,h8,yu h9⟩
  ·cases h
 ·cases h
theorem OG{T:TypeId}{x:D}(h:AH P obj T x=true):(ko P obj T x).ok:=by
 unfold AH at h
 unfold ko
 (repeat' split at h)<;>simp_all
 exact pD h
theorem OA{T:TypeId}{x:D}{lo hi mx:Option D}(h:Az P obj T x lo hi mx=true):(iT P obj T x lo hi mx).ok:=by
 unfold Az at h
 unfold iT
 split at h
 ·split at h
  ·split at h
   ·rename_i h1 h2 h3
    simp only[Bool.and_eq_true]at h
    simp only[h1,h2,h3]
    exact⟨fh h.1.1.1,fh h.1.1.2,fh h.1.2,AT h.2⟩
   ·cases h
  ·split at h
   ·rename_i h1 h2 h3
    simp only[Bool.and_eq_true]at h
    simp only[h1,h2,h3]
    exact⟨KU.1 h.1,KU.1 h.2⟩
   ·cases h
  ·split at h
   ·rename_i h1 h2 h3 h4
    simp only[Bool.and_eq_true]at h
    simp only[h1,h2,h3,h4]
    exact⟨jT h.1.1.1.1,fh h.1.1.1.2,fh h.1.1.2,fh h.1.2,AT h.2⟩
   ·rename_i h1 h2 h3 h4
    simp only[Bool.and_eq_true]at h
    simp only[h1,h2,h3,h4]
    exact⟨jT h.1.1.1.1,fh h.1.1.1.2,fh h.1.1.2,fh h.1.2,AT h.2⟩
   ·cases h
  ·split at h
   ·rename_i h1 h2 h3
    simp only[Bool.and_eq_true]at h
    simp only[h1,h2,h3]
    exact⟨fh h.1.1,fh h.1.2,fh h.2⟩
   ·cases h
  ·cases h
 ·split at h
  ·rename_i h1 h2 h3
   split at h
   ·simp only[h2,h3]
   ·simp only[h2,h3]
   ·split at h
    ·rename_i o ho
     simp only[h2,h3,ho]
     exact pD h
    ·cases h
   ·cases h
  ·cases h
 ·cases h
theorem OK{T:TypeId}{x:D}{f:Nat}(h:AM P T x f=true):(lJ P obj T x f).ok:=by
 unfold AM at h
 unfold lJ
 (repeat' split at h)<;>simp_all[pH,vH]
theorem OI{T:TypeId}{x i:D}(h:AK P T x i=true):(lI P obj T x i).ok:=by
 unfold AK at h
 unfold lI
 (repeat' split at h)<;>simp_all[pH,vH,La,K8]
 exact pD h.1.1
theorem OF{T:TypeId}{x k:D}{c:Bool}(h:AG P obj T x k=true):(lH P obj T x k c).ok:=by
 unfold AG at h
 unfold lH
 (repeat' split at h)<;>simp_all[pH,pI]
theorem AD{T:TypeId}{x k d:D}(h:xi P obj T x k d=true):(jK P obj T x k d).ok:=by
 unfold xi at h
 unfold jK
 (repeat' split at h)<;>simp_all[pH,pI]
theorem OB{c x y:D}(h:AA c=true):(jl obj c x y).ok:=by
 unfold AA at h
 unfold jl
 split at h<;>first | trivial | cases h
theorem F5{x:D}(h:xh obj x=true):(aw obj x).1:=by
 unfold xh at h
 unfold aw
 (repeat' split at h)<;>simp_all[pI]
theorem xm{t:Name}{T1 T2:TypeId}{s x:D}(h:sF P obj t T1 T2 s x=true):(cm P obj t T1 T2 s x).ok:=by
 unfold sF at h
 unfold cm
 split at h
 ·rename_i e sz by_ p h1 h2
  split at h
  ·rename_i z hz
   split at h
   ·simp only[Bool.and_eq_true]at h
    simp only[h1,h2,hz]
    exact⟨F5 h.1.1.1.1.1,AU h.1.1.1.1.2,jT h.1.1.1.2,rh h.1.1.2,rh h.1.2,yu h.2⟩
   ·split at h
    ·rename_i ho
     simp only[Bool.and_eq_true]at h
     simp only[h1,h2,hz,ho]
     exact⟨F5 h.1.1.1.1.1.1,AU h.1.1.1.1.1.2,jT h.1.1.1.1.2,rh h.1.1.1.2,rh h.1.1.2,jT h.1.2,jT h.2⟩
    ·cases h
   ·cases h
  ·cases h
 ·cases h
end
def oV(f:(Name->Option O)->D->Bool)(g:(Name->Option O)->D->FR)(obj:Name->Option O):List D->Bool
 |[]=>true
 |d::r=>f obj d&&oV f g (g obj d).obj r
def ke:Nat->(Name->Option O)->D->Bool
 | 0,obj,d=>match d with
   | .v _=>true
   | .nilsl=>true
   |_=>false
 |n+1,obj,d=>match d with
  | .v _=>true
  | .nilsl=>true
  | .msl nm k=>match obj nm with
    |some (.arr _ l)=>decide (k=l.length)
    |some (.farr _ l)=>decide (k=l.length)
    |_=>false
  | .ref nm _=>match obj nm with
    |some (.box cs)=>oV (ke n) (ar n) obj cs&&!b8 (dQ (fp n obj) cs) nm
    |some (.fbox _)=>true
    |_=>false
  | .agg l=>oV (ke n) (ar n) obj l
  | .tup l=>oV (ke n) (ar n) obj l
  | .clo _ f c=>oV (ke n) (ar n) obj f&&oV (ke n) (ar n) (aJ (ar n) obj f).obj c
  |_=>false
theorem EW{n:Nat}(ih:∀ obj d,ke n obj d=true->(ar n obj d).ok):∀ (l:List D) (obj:Name->Option O),oV (ke n) (ar n) obj l=true->(aJ (ar n) obj l).ok
 |[],_,_=>trivial
 |d::r,obj,h=>by
  simp only[oV,Bool.and_eq_true]at h
  exact⟨ih obj d h.1,EW ih r _ h.2⟩
theorem MF:∀ (n:Nat) (obj:Name->Option O) (d:D),ke n obj d=true->(ar n obj d).ok
 | 0,obj,d,h=>by cases d<;>first | trivial | (simp[ke]at h)
 |n+1,obj,d,h=>by
  have ih:=EW (MF n)
  cases d with
  |v x=>trivial
  |nilsl=>trivial
  |msl nm k=>
   simp only[ke]at h
   unfold ar
   rcases ho:obj nm with _ | o
   ·simp[ho]at h
   ·cases o<;>simp[ho]at h |- <;>exact h
  |ref nm off=>
   simp only[ke]at h
   rcases ho:obj nm with _ | o
   ·simp[ho]at h
   ·cases o with
    |box cs=>
     simp only[ho,Bool.and_eq_true,Bool.not_eq_true']at h
     simp only[ar,ho]
     refine⟨ih cs obj h.1,?_⟩
     have :=(wQ (z1 n) cs obj obj (dQ (fp n obj) cs) (fun _ hn=>hn) (fun _ _=>rfl)).2.frame nm (fun hn=>by rw[gQ.2 hn]at h;cases h.2)
     rw[this,ho]
    |fbox cs=>simp only[ar,ho]
    |_=>simp[ho]at h
  |agg l=>exact ih l obj h
  |tup l=>exact ih l obj h
  |clo fn f c=>
   simp only[ke,Bool.and_eq_true]at h
   exact⟨ih f obj h.1,ih c _ h.2⟩
  |_=>simp[ke]at h
def isNil{α:Type}:List α->Bool
 |[]=>true
 |_=>false
theorem W8{α:Type}{l:List α}:isNil l=true↔l=[]:=by cases l<;>simp[isNil]
def yV:Nat->List Nat->Bool
 |_,[]=>true
 |k,x::r=>cv x k&&yV (k+1) r
theorem KV:∀ {k:Nat} {l:List Nat},yV k l=true->l=List.range' k l.length
 |k,[],_=>rfl
 |k,x::r,h=>by
  simp only[yV,Bool.and_eq_true]at h
  rw[jT h.1,List.length_cons,List.range'_succ]
  congr 1
  exact KV h.2
def F2(P:Program)(obj:Name->Option O)(T:TypeId)(n:Nat)(parts:List (Nat×D)):Bool:=
 match bK P T with
 |some (e,sz,_)=>match cv n 0&&isNil parts with
  |true=>(bb P e).isSome
  |false=>oV (ke 4) (ar 4) obj (parts.map fun p=>p.2)&&yV 0 (parts.map fun p=>p.1)&&cv parts.length n&&uY sz (aJ (ar 4) obj (parts.map fun p=>p.2)).xs&&
     fg (n*sz) 16777216&&!cv sz 0&&(bb P e).isSome&&gz 0 n
 |none=>false
theorem aby{P:Program}{obj:Name->Option O}{T:TypeId}{n:Nat}{parts:List (Nat×D)}(h:F2 P obj T n parts=true):(nO P obj T n parts).ok:=by
 unfold F2 at h
 unfold nO
 split at h
 ·rename_i e sz by_ hT
  rw[hT]
  simp only
  split at h
  ·rename_i hc
   simp only[Bool.and_eq_true,pI,W8]at hc
   rw[if_pos hc];exact h
  ·rename_i hc
   have jD:¬ (n=0/\parts=[]):=by
    intro ⟨a,b⟩
    subst a;subst b
    cases hc
   rw[if_neg jD]
   simp only[Bool.and_eq_true,Bool.not_eq_true',yD]at h
   obtain⟨⟨⟨⟨⟨⟨⟨h1,h2⟩,qa⟩,h3⟩,h4⟩,h5⟩,h6⟩,h7⟩:=h
   refine⟨?_,EW (MF 4) _ _ h1,AU h3,rh h4,h5,h6,vG h7⟩
   have :=KV h2
   rw[List.length_map,jT qa,<-List.range_eq_range']at this
   exact this
 ·cases h
def F1(P:Program)(σ:S)(t:Name)(b:Builtin)(ts:List TypeId)(args:List D):Bool:=
 match b,ts,args with
 | .len,[T],[x]=>AH P σ.obj T x
 | .append,[T1,T2],[s,x]=>sF P σ.obj t T1 T2 s x
 | .min,_,[.v (.int _ _),.v (.int _ _)]=>true
 | .max,_,[.v (.int _ _),.v (.int _ _)]=>true
 |_,_,_=>false
def IE(P:Program)(σ:S)(t:Name):Op->Bool
 | .move _=>true
 | .assign _=>true
 | .pick c _ _=>AA (ah σ c)
 | .alloc T=>AR P σ.obj t T
 | .box _ x=>xl σ.obj t (ah σ x)
 | .build T ps=>AP P T (ps.toList.map fun p=>(p.1,ah σ p.2))
 | .buildSlice T n ps=>F2 P σ.obj T n (ps.toList.map fun p=>(p.1,ah σ p.2))
 | .load T x=>xj P σ.obj T (ah σ x)
 | .store T x d=>Ay P σ.obj T (ah σ x) (ah σ d)
 | .nilCheck x=>AB σ.obj (ah σ x)
 | .binOp op T x y _=>AQ P σ.obj op T (ah σ x) (ah σ y) (yW y)
 | .unOp op _ x=>Ax op (ah σ x)
 | .convert s d x=>AO P s d (ah σ x)
 | .makeFunc _ _ _=>true
 | .makeMap T r=>AF P σ.obj t T (r.map (ah σ))
 | .makeSlice T l c=>AE P σ.obj t T (ah σ l) (ah σ c)
 | .slice T x lo hi mx=>Az P σ.obj T (ah σ x) (lo.map (ah σ)) (hi.map (ah σ)) (mx.map (ah σ))
 | .fieldAddr T x f=>AL P σ.obj T f (ah σ x)
 | .field T x f=>AM P T (ah σ x) f
 | .indexAddr T x i=>AJ P σ.obj T (ah σ x) (ah σ i)
 | .index T x i=>AK P T (ah σ x) (ah σ i)
 | .lookup T x i _=>AG P σ.obj T (ah σ x) (ah σ i)
 | .mapUpdate T x k d=>xi P σ.obj T (ah σ x) (ah σ k) (ah σ d)
 | .insert T x k d=>xi P σ.obj T (ah σ x) (ah σ k) (ah σ d)
 | .extract x i=>AN (ah σ x) i
 | .call ⟨.builtin b,args,ts⟩=>F1 P σ t b ts.toList (args.toList.map (ah σ))
 |_=>false
theorem abx{P:Program}{σ:S}{t:Name}{b:Builtin}{ts:List TypeId}{args:List D}(h:F1 P σ t b ts args=true):(lM P σ t b ts args).ok:=by
 unfold F1 at h
 split at h
 ·exact OG h
 ·exact xm h
 ·trivial
 ·trivial
 ·cases h
theorem T9{P:Program}{Γ:FuncId->Option Spec}{σ:S}{t:Name}{op:Op}(h:IE P σ t op=true):(aP P Γ σ t op).ok:=by
 cases op with
 |call c=>
  obtain⟨callee,args,ts⟩:=c
  cases callee with
  |value f=>cases h
  |builtin b=>exact abx h
  |invoke=>cases h
 |move=>trivial
 |assign=>trivial
 |makeFunc=>trivial
 |pick=>exact OB h
 |alloc=>exact OR h
 |box=>exact Gd h
 |build=>exact OP h
 |buildSlice=>exact aby h
 |load=>exact F8 h
 |store=>exact Oz h
 |nilCheck=>exact OC h
 |binOp=>exact OQ h
 |unOp=>exact Ox h
 |convert=>exact OO h
 |makeMap=>exact OE h
 |makeSlice=>exact OD h
 |slice=>exact OA h
 |fieldAddr=>exact OL h
 |field=>exact OK h
 |indexAddr=>exact OJ h
 |index=>exact OI h
 |lookup=>exact OF h
 |mapUpdate=>exact AD h
 |insert=>exact AD h
 |extract=>exact OM h
 |_=>cases h
end Go.Eng
