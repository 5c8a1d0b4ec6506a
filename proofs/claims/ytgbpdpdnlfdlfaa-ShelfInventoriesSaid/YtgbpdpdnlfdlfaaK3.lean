import Derived.Test.YtgbpdpdnlfdlfaaK2
/- Texts Eng17 to EngX. -/
set_option linter.all false
namespace Go.Eng
open Go
def bh(Γ:FuncId->Option Spec)(σ:S)(t:Name):Op->List Name
 | .alloc _ | .box _ _ | .makeMap _ _ | .makeSlice _ _ _=>[aI t]
 | .load _ x | .nilCheck x | .fieldAddr _ x _ | .indexAddr _ x _ | .lookup _ x _ _ | .store _ x _ | .mapUpdate _ x _ _ | .insert _ x _ _ | .slice _ x _ _ _=>aB (ah σ x)
 | .binOp _ _ x _ _=>aB (ah σ x)
 | .buildSlice _ _ ps=>cg (fp 4 σ.obj) (ps.toList.map fun p=>ah σ p.2)
 | .call ⟨.value f,args,_⟩=>match (dW (ah σ f)).bind Γ with
   |some s=>s.foot σ.obj t (c5 (ah σ f) (args.toList.map (ah σ)))
   |none=>[]
 | .call ⟨.builtin .append,args,_⟩=>match args.toList with
   |[s,x]=>aB (ah σ s)++aB (ah σ x)++[aI t]
   |_=>[]
 | .call ⟨.builtin .len,args,_⟩=>match args.toList with
   |[x]=>aB (ah σ x)
   |_=>[]
 |_=>[]
def aX(Γ:FuncId->Option Spec)(σ:S)(t:Name):Op->List Name
 | .alloc _ | .box _ _ | .makeMap _ _ | .makeSlice _ _ _=>[aI t]
 | .store _ x _ | .mapUpdate _ x _ _ | .insert _ x _ _=>aB (ah σ x)
 | .slice _ x _ _ _=>muts σ.obj (aB (ah σ x))
 | .buildSlice _ _ ps=>muts σ.obj (cg (fp 4 σ.obj) (ps.toList.map fun p=>ah σ p.2))
 | .call ⟨.value f,args,_⟩=>match (dW (ah σ f)).bind Γ with
   |some s=>s.wrt σ.obj t (c5 (ah σ f) (args.toList.map (ah σ)))
   |none=>[]
 | .call ⟨.builtin .append,args,_⟩=>match args.toList with
   |[s,x]=>aB (ah σ s)++aB (ah σ x)++[aI t]
   |_=>[]
 |_=>[]
theorem Re{P:Program}{obj:Name->Option O}{T:TypeId}{x:D}{lo hi mx:Option D}:Fz obj (er P obj T x lo hi mx).obj:=by
 unfold er
 repeat' split
 all_goals first
  |exact .refl obj
  |exact Fz.one (.refl obj) (by assumption) rfl rfl
theorem bj.muts{r r2:R}{obj obj2:Name->Option O}{W:List Name}(h:bj r r2 obj obj2 W)(hz:Fz obj r.obj)(ha:a7 W obj obj2):bj r r2 obj obj2 (muts obj W):=by
 refine gv.like (W:=W) ⟨h.ok,fun nm hn=>?_,h.frame,fun nm hn=>?_⟩ h.d hz ha
 ·rw[h.eff nm,if_pos hn]
 ·rw[h.eff nm,if_neg hn]
theorem ub{ok:Prop}{d:D}{obj obj2:Name->Option O}:bj ⟨ok,d,obj⟩ ⟨ok,d,obj2⟩ obj obj2 []:=.same rfl rfl rfl rfl
theorem JW{P:Program}{obj obj2:Name->Option O}{T:TypeId}{ps:List (Nat×D)}:bj (gO P obj T ps) (gO P obj2 T ps) obj obj2 []:=by
 unfold gO
 (repeat' split)<;>exact .same rfl rfl rfl rfl
theorem JV{P:Program}{obj obj2:Name->Option O}{T:TypeId}{n:Nat}{ps:List (Nat×D)}(h:a7 (cg (fp 4 obj) (ps.map (·.2))) obj obj2):
 bj (jf P obj T n ps) (jf P obj2 T n ps) obj obj2 (muts obj (cg (fp 4 obj) (ps.map (·.2)))):=by
 have hm:a7 (muts obj (cg (fp 4 obj) (ps.map (·.2)))) obj obj2:=fun nm hn=>h nm (List.mem_filter.1 hn).1
 obtain⟨h1,h2⟩:=px (rV 4) (ps.map (·.2)) obj obj2 _ (fun _ hn=>hn) h
 unfold jf
 split
 ·split
  ·exact .none _ hm
  ·refine gv.like ⟨?_,h2.agr,h2.frame,h2.frame2⟩ (by rw[h1]) (py (pw 4) _ obj) h
   rw[h1,h2.ok]
 ·exact .none _ hm
theorem JY{P:Program}{obj obj2:Name->Option O}{op:BinOp}{T:TypeId}{x y:D}:bj (iy P obj op T x y) (iy P obj2 op T x y) obj obj2 []:=by
 unfold iy
 (repeat' split)<;>first | exact .same rfl rfl rfl rfl | (exfalso;simp_all;done)
theorem JX{P:Program}{obj obj2:Name->Option O}{op:BinOp}{T:TypeId}{x y:D}{fU:Bool}(h:a7 (aB x) obj obj2):bj (gQ P obj op T x y fU) (gQ P obj2 op T x y fU) obj obj2 []:=by
 unfold gQ
 cases fU with
 |true=>
  simp only
  unfold jY
  split
  ·exact .same rfl rfl rfl rfl
  ·rename_i nm k
   have h':obj2 nm=obj nm:=h nm (by simp[aB])
   rw[h']
   exact .same rfl rfl rfl rfl
  ·exact .same rfl rfl rfl rfl
 |false=>
  simp only
  split
  ·unfold kZ
   split<;>exact .same rfl rfl rfl rfl
  ·exact JY
theorem JD{obj obj2:Name->Option O}{op:UnOp}{x:D}:bj (gI obj op x) (gI obj2 op x) obj obj2 []:=by
 unfold gI
 (repeat' split)<;>first | exact .same rfl rfl rfl rfl | (exfalso;simp_all;done)
theorem JT{P:Program}{obj obj2:Name->Option O}{T T':TypeId}{x:D}:bj (ix P obj T T' x) (ix P obj2 T T' x) obj obj2 []:=by
 unfold ix j0
 (repeat' split)<;>first | exact .same rfl rfl rfl rfl | (exfalso;simp_all;done)
theorem JR{P:Program}{obj obj2:Name->Option O}{T:TypeId}{x:D}{f:Nat}:bj (gL P obj T x f) (gL P obj2 T x f) obj obj2 []:=by
 unfold gL
 (repeat' split)<;>first | exact .same rfl rfl rfl rfl | (exfalso;simp_all;done)
theorem JP{P:Program}{obj obj2:Name->Option O}{T:TypeId}{x y:D}:bj (gK P obj T x y) (gK P obj2 T x y) obj obj2 []:=by
 unfold gK
 (repeat' split)<;>first | exact .same rfl rfl rfl rfl | (exfalso;simp_all;done)
theorem JS{obj obj2:Name->Option O}{x:D}{i:Nat}:bj (gM obj x i) (gM obj2 x i) obj obj2 []:=by
 unfold gM
 (repeat' split)<;>first | exact .same rfl rfl rfl rfl | (exfalso;simp_all;done)
theorem JG{obj obj2:Name->Option O}{c x y:D}:bj (eQ obj c x y) (eQ obj2 c x y) obj obj2 []:=by
 unfold eQ
 split<;>exact .same rfl rfl rfl rfl
theorem JU{Γ:FuncId->Option Spec}(hN:∀ f s,Γ f=some s->s.Near){σ σ2:S}{t:Name}{f:D}{args:List D}
 (h:a7 (match (dW f).bind Γ with | some s=>s.foot σ.obj t (c5 f args) | none=>[]) σ.obj σ2.obj):
 bj (mB Γ σ t f args) (mB Γ σ2 t f args) σ.obj σ2.obj (match (dW f).bind Γ with | some s=>s.wrt σ.obj t (c5 f args) | none=>[])/\
 (match (dW f).bind Γ with | some s=>s.foot σ2.obj t (c5 f args) | none=>[])=(match (dW f).bind Γ with | some s=>s.foot σ.obj t (c5 f args) | none=>[]):=by
 unfold mB
 rcases hs:(dW f).bind Γ with _ | s
 ·exact⟨.same rfl rfl rfl rfl,rfl⟩
 ·simp only[hs]at h |-
  obtain⟨g,_,hs⟩:=Option.bind_eq_some_iff.1 hs
  exact⟨(hN g s hs).like _ _ _ _ h,(hN g s hs).foot _ _ _ _ h⟩
theorem xo{P:Program}{Γ:FuncId->Option Spec}(hN:∀ f s,Γ f=some s->s.Near){σ σ2:S}(t:Name)(op:Op)
 (ho:∀ x∈op.operands.toList,ah σ2 x=ah σ x) (h:a7 (bh Γ σ t op) σ.obj σ2.obj):
 bj (aF P Γ σ t op) (aF P Γ σ2 t op) σ.obj σ2.obj (aX Γ σ t op)/\bh Γ σ2 t op=bh Γ σ t op:=by
 cases op with
 |move x=>exact⟨by simp only[aF,ho x (by simp[Op.operands])];exact ub,rfl⟩
 |assign x=>exact⟨by simp only[aF,ho x (by simp[Op.operands])];exact ub,rfl⟩
 |pick c x y=>exact⟨by simp only[aF,ho c (by simp[Op.operands]),ho x (by simp[Op.operands]),ho y (by simp[Op.operands])];exact JG,rfl⟩
 |alloc T=>exact⟨JZ h,rfl⟩
 |box T x=>exact⟨by simp only[aF,ho x (by simp[Op.operands])];exact zh h,rfl⟩
 |build T ps=>
  have hp:(ps.toList.map fun p=>(p.1,ah σ2 p.2))=ps.toList.map fun p=>(p.1,ah σ p.2):=List.map_congr_left fun p hp=>by rw[ho p.2 (by simp only[Op.operands];exact List.mem_map_of_mem hp)]
  exact⟨by simp only[aF,hp];exact JW,rfl⟩
 |buildSlice T n ps=>
  have hp:(ps.toList.map fun p=>(p.1,ah σ2 p.2))=ps.toList.map fun p=>(p.1,ah σ p.2):=List.map_congr_left fun p hp=>by rw[ho p.2 (by simp only[Op.operands];exact List.mem_map_of_mem hp)]
  have lS:(ps.toList.map fun p=>ah σ2 p.2)=ps.toList.map fun p=>ah σ p.2:=List.map_congr_left fun p hp=>by rw[ho p.2 (by simp only[Op.operands];exact List.mem_map_of_mem hp)]
  have hm:(ps.toList.map fun p=>(p.1,ah σ p.2)).map (·.2)=ps.toList.map fun p=>ah σ p.2:=by simp
  simp only[bh,aX]at h |-
  rw[lS]
  rw[<-hm]at h |-
  refine⟨?_,pz _ h⟩
  simp only[aF,hp]
  exact JV h
 |load T x=>
  simp only[bh,aX,aF,ho x (by simp[Op.operands])]at h |-
  exact⟨JL h,trivial⟩
 |store T x d=>
  simp only[bh,aX,aF,ho x (by simp[Op.operands]),ho d (by simp[Op.operands])]at h |-
  exact⟨JE h,trivial⟩
 |nilCheck x=>
  simp only[bh,aX,aF,ho x (by simp[Op.operands])]at h |-
  exact⟨JH h,trivial⟩
 |binOp op T x y c=>
  simp only[bh,aX,aF,ho x (by simp[Op.operands]),ho y (by simp[Op.operands])]at h |-
  exact⟨JX h,trivial⟩
 |unOp op T x=>exact⟨by simp only[aF,ho x (by simp[Op.operands])];exact JD,rfl⟩
 |convert s d x=>exact⟨by simp only[aF,ho x (by simp[Op.operands])];exact JT,rfl⟩
 |makeFunc fn f c=>
  have h1:f.toList.map (ah σ2)=f.toList.map (ah σ):=List.map_congr_left fun x hx=>ho x (by simp only[Op.operands,Array.toList_append];exact List.mem_append_left _ hx)
  have h2:c.toList.map (ah σ2)=c.toList.map (ah σ):=List.map_congr_left fun x hx=>ho x (by simp only[Op.operands,Array.toList_append];exact List.mem_append_right _ hx)
  exact⟨by simp only[aF,h1,h2];exact ub,rfl⟩
 |makeMap T r=>
  have h1:r.map (ah σ2)=r.map (ah σ):=by
   cases r with
   |none=>rfl
   |some x=>simp only[Option.map_some,ho x (by simp[Op.operands])]
  exact⟨by simp only[aF,h1];exact JJ h,rfl⟩
 |makeSlice T l c=>exact⟨by simp only[aF,ho l (by simp[Op.operands]),ho c (by simp[Op.operands])];exact JI h,rfl⟩
 |slice T x lo hi mx=>
  have e:∀ r:Option Operand,(∀ y∈r.toList,ah σ2 y=ah σ y)->r.map (ah σ2)=r.map (ah σ):=by
   intro r hr
   cases r with
   |none=>rfl
   |some x=>simp only[Option.map_some,hr x (by simp)]
  have h1:=e lo fun y hy=>ho y (by simp[Op.operands]at hy |-;simp[hy])
  have h2:=e hi fun y hy=>ho y (by simp[Op.operands]at hy |-;simp[hy])
  have h3:=e mx fun y hy=>ho y (by simp[Op.operands]at hy |-;simp[hy])
  simp only[bh,aX,aF,ho x (by simp[Op.operands]),h1,h2,h3]at h |-
  exact⟨(JF h).muts Re h,trivial⟩
 |fieldAddr T x f=>
  simp only[bh,aX,aF,ho x (by simp[Op.operands])]at h |-
  exact⟨JQ h,trivial⟩
 |field T x f=>exact⟨by simp only[aF,ho x (by simp[Op.operands])];exact JR,rfl⟩
 |indexAddr T x i=>
  simp only[bh,aX,aF,ho x (by simp[Op.operands]),ho i (by simp[Op.operands])]at h |-
  exact⟨JO h,trivial⟩
 |index T x i=>exact⟨by simp only[aF,ho x (by simp[Op.operands]),ho i (by simp[Op.operands])];exact JP,rfl⟩
 |lookup T x i co=>
  simp only[bh,aX,aF,ho x (by simp[Op.operands]),ho i (by simp[Op.operands])]at h |-
  exact⟨JK h,trivial⟩
 |mapUpdate T x k d=>
  simp only[bh,aX,aF,ho x (by simp[Op.operands]),ho k (by simp[Op.operands]),ho d (by simp[Op.operands])]at h |-
  exact⟨zf h,trivial⟩
 |insert T x k d=>
  simp only[bh,aX,aF,ho x (by simp[Op.operands]),ho k (by simp[Op.operands]),ho d (by simp[Op.operands])]at h |-
  exact⟨zf h,trivial⟩
 |extract x i=>exact⟨by simp only[aF,ho x (by simp[Op.operands])];exact JS,rfl⟩
 |call c=>
  obtain⟨callee,args,ts⟩:=c
  cases callee with
  |value f=>
   have h1:ah σ2 f=ah σ f:=ho f (by simp[Op.operands,Call.operands])
   have h2:args.toList.map (ah σ2)=args.toList.map (ah σ):=List.map_congr_left fun x hx=>ho x (by simp[Op.operands,Call.operands]at hx |-;simp[hx])
   simp only[bh,aX,aF,h1,h2]at h |-
   exact JU hN h
  |builtin b=>
   have h2:args.toList.map (ah σ2)=args.toList.map (ah σ):=List.map_congr_left fun x hx=>ho x (by simp[Op.operands,Call.operands]at hx |-;simp[hx])
   have h3:∀ x∈args.toList,ah σ2 x=ah σ x:=fun x hx=>ho x (by simp[Op.operands,Call.operands]at hx |-;simp[hx])
   simp only[aF,h2]
   obtain⟨args⟩:=args
   obtain⟨ts⟩:=ts
   simp only at *
   cases b with
   |len=>
    rcases args with _ | ⟨x,_ | ⟨y,r⟩⟩
    ·exact⟨by rcases ts with _ | ⟨_,_ | _⟩<;>exact .same rfl rfl rfl rfl,rfl⟩
    ·simp only[bh,aX,h3 x (by simp),List.map_cons,List.map_nil]at h |-
     refine⟨?_,trivial⟩
     rcases ts with _ | ⟨T,_ | _⟩<;>first
      |exact .same rfl rfl rfl rfl
      |exact JM h
    ·refine⟨?_,rfl⟩
     rcases ts with _ | ⟨_,_ | _⟩<;>exact .same rfl rfl rfl rfl
   |append=>
    rcases args with _ | ⟨s,_ | ⟨x,_ | ⟨y,r⟩⟩⟩
    ·refine⟨?_,rfl⟩
     rcases ts with _ | ⟨_,_ | ⟨_,_ | _⟩⟩<;>exact .same rfl rfl rfl rfl
    ·refine⟨?_,rfl⟩
     rcases ts with _ | ⟨_,_ | ⟨_,_ | _⟩⟩<;>exact .same rfl rfl rfl rfl
    ·simp only[bh,aX,h3 x (by simp),h3 s (by simp),List.map_cons,List.map_nil]at h |-
     refine⟨?_,trivial⟩
     rcases ts with _ | ⟨T1,_ | ⟨T2,_ | _⟩⟩<;>first
      |exact uf h
      |exact .none _ h
    ·refine⟨?_,rfl⟩
     rcases ts with _ | ⟨_,_ | ⟨_,_ | _⟩⟩<;>exact .same rfl rfl rfl rfl
   |_=>
    refine⟨?_,rfl⟩
    show bj _ _ _ _ []
    unfold gN
    (repeat' split)<;>first | exact .same rfl rfl rfl rfl | (exfalso;simp_all;done)
  |invoke r m=>exact⟨.same rfl rfl rfl rfl,rfl⟩
 |_=>exact⟨.same rfl rfl rfl rfl,rfl⟩
theorem Q9{Γ:FuncId->Option Spec}(hN:∀ f s,Γ f=some s->s.Near){σ σ2:S}(t:Name)(op:Op)
 (ho:∀ x∈op.operands.toList,ah σ2 x=ah σ x) (h:a7 (bh Γ σ t op) σ.obj σ2.obj):aX Γ σ2 t op=aX Γ σ t op:=by
 cases op with
 |buildSlice T n ps=>
  have lS:(ps.toList.map fun p=>ah σ2 p.2)=ps.toList.map fun p=>ah σ p.2:=List.map_congr_left fun p hp=>by rw[ho p.2 (by simp only[Op.operands];exact List.mem_map_of_mem hp)]
  simp only[bh,aX]at h |-
  rw[lS,pz _ h]
  exact tO h
 |store T x d=>simp only[aX,ho x (by simp[Op.operands])]
 |mapUpdate T x k d=>simp only[aX,ho x (by simp[Op.operands])]
 |insert T x k d=>simp only[aX,ho x (by simp[Op.operands])]
 |slice T x lo hi mx=>
  simp only[bh,aX,ho x (by simp[Op.operands])]at h |-
  exact tO h
 |call c=>
  obtain⟨callee,args,ts⟩:=c
  cases callee with
  |value f=>
   have h1:ah σ2 f=ah σ f:=ho f (by simp[Op.operands,Call.operands])
   have h2:args.toList.map (ah σ2)=args.toList.map (ah σ):=List.map_congr_left fun x hx=>ho x (by simp[Op.operands,Call.operands]at hx |-;simp[hx])
   simp only[bh,aX,h1,h2]at h |-
   cases hq:(dW (ah σ f)).bind Γ with
   |none=>rfl
   |some s=>
    simp only[hq]at h |-
    obtain⟨g,hg,hs⟩:=Option.bind_eq_some_iff.1 hq
    exact(hN g s hs).wrt _ _ _ _ h
  |builtin b=>
   have h3:∀ x∈args.toList,ah σ2 x=ah σ x:=fun x hx=>ho x (by simp[Op.operands,Call.operands]at hx |-;simp[hx])
   obtain⟨args⟩:=args
   simp only at *
   cases b with
   |append=>
    rcases args with _ | ⟨s,_ | ⟨x,_ | ⟨y,r⟩⟩⟩<;>first
     |rfl
     |simp only[aX,h3 x (by simp),h3 s (by simp)]
   |_=>rfl
  |invoke r m=>rfl
 |_=>rfl
theorem xu{Γ:FuncId->Option Spec}(hN:∀ f s,Γ f=some s->s.Near){σ:S}(t:Name)(op:Op):∀ nm∈aX Γ σ t op,nm∈bh Γ σ t op:=by
 intro nm hn
 cases op with
 |buildSlice T n ps=>exact(List.mem_filter.1 hn).1
 |slice T x lo hi mx=>exact(List.mem_filter.1 hn).1
 |call c=>
  obtain⟨callee,args,ts⟩:=c
  cases callee with
  |value f=>
   simp only[bh,aX]at hn |-
   cases hq:(dW (ah σ f)).bind Γ with
   |none=>simp[hq]at hn
   |some s=>
    simp only[hq]at hn |-
    obtain⟨g,hg,hs⟩:=Option.bind_eq_some_iff.1 hq
    exact(hN g s hs).sub _ _ _ _ hn
  |builtin b=>cases b<;>first | exact hn | (simp[aX]at hn;done)
  |invoke r m=>simp[aX]at hn
 |_=>first | exact hn | (simp[aX]at hn;done)
section
variable {P:Program} {Γ:FuncId->Option Spec} {ops:Array Oper}
abbrev Oper.tt (σ:S) (o:Oper):Name:=(σ.base+o.dst.getD 0)::σ.pre
theorem Jf{σ σ':S}{x:Operand}(h:∀ t,x=.tmp t->σ'.env t=σ.env t):ah σ' x=ah σ x/\bD σ' x=bD σ x:=by
 cases x with
 |tmp t=>exact⟨by simp only[ah,h t rfl],by simp only[bD,h t rfl]⟩
 |_=>exact⟨rfl,rfl⟩
theorem JC{o:Oper}{x:Operand}(hx:x∈o.op.operands.toList){t:Nat}(h:x=.tmp t):t∈o.looksAt ops:=
 List.mem_append_left _ (List.mem_filterMap.2 ⟨x,hx,by subst h;rfl⟩)
theorem zd{o:Oper}{j:Nat}{b:Bool}(hg:o.guard=some (j,b)){s:Nat}(h:iV ops j=some s):s∈o.looksAt ops:=by
 refine List.mem_append_right _ ?_
 unfold iV at h
 simp[hg,h]
theorem Qq{σ σ':S}{op:Op}(h:∀ x∈op.operands.toList,ah σ' x=ah σ x/\bD σ' x=bD σ x):iJ σ' op=iJ σ op:=by
 have ic:op.operands.toList.all (bD σ')=op.operands.toList.all (bD σ):=by
  refine Bool.eq_iff_iff.2 ?_
  simp only[List.all_eq_true]
  exact⟨fun k x hx=>(h x hx).2▸k x hx,fun k x hx=>(h x hx).2.symm▸k x hx⟩
 cases op with
 |pick c x y=>
  simp only[iJ]
  have h1:=h c (by simp[Op.operands])
  have h2:=h x (by simp[Op.operands])
  have h3:=h y (by simp[Op.operands])
  rw[h1.1,h1.2,h2.2,h3.2]
 |_=>exact ic
structure ld (P:Program) (Γ:FuncId->Option Spec) (ops:Array Oper) (σ σ':S) (o:Oper):Prop where
 obl:gz P Γ ops σ' o↔gz P Γ ops σ o
 g:cA ops σ' o=cA ops σ o
 d:(aF P Γ σ' (Oper.tt σ o) o.op).d=(aF P Γ σ (Oper.tt σ o) o.op).d
 eff:∀ nm,(aN P Γ ops σ' o).obj nm=if nm∈aX Γ σ (Oper.tt σ o) o.op then(aN P Γ ops σ o).obj nm else σ'.obj nm
 frame:∀ nm,nm∉aX Γ σ (Oper.tt σ o) o.op->(aN P Γ ops σ o).obj nm=σ.obj nm
 foot:bh Γ σ' (Oper.tt σ o) o.op=bh Γ σ (Oper.tt σ o) o.op
 wrt:aX Γ σ' (Oper.tt σ o) o.op=aX Γ σ (Oper.tt σ o) o.op
theorem n8(hN:∀ f s,Γ f=some s->s.Near){σ σ':S}(o:Oper)(dS:σ'.nt=σ.nt)(rm:σ'.pre=σ.pre)(rL:σ'.base=σ.base)(he:∀ t∈o.looksAt ops,σ'.env t=σ.env t)
 (ha:a7 (bh Γ σ (Oper.tt σ o) o.op) σ.obj σ'.obj):ld P Γ ops σ σ' o:=by
 have hx:∀ x∈o.op.operands.toList,ah σ' x=ah σ x/\bD σ' x=bD σ x:=fun x hx=>Jf fun t ht=>he t (JC hx ht)
 have hg:cA ops σ' o=cA ops σ o:=by
  unfold cA
  cases eK:o.guard with
  |none=>rfl
  |some p=>
   obtain⟨j,b⟩:=p
   simp only
   cases hs:iV ops j with
   |none=>rfl
   |some s=>simp only[he s (zd eK hs)]
 have OD:iW ops σ' o↔iW ops σ o:=by
  unfold iW
  cases eK:o.guard with
  |none=>exact Iff.rfl
  |some p=>
   obtain⟨j,b⟩:=p
   simp only
   cases hs:iV ops j with
   |none=>exact Iff.rfl
   |some s=>simp only[he s (zd eK hs),dS]
 obtain⟨h1,h2⟩:=xo (P:=P) hN (Oper.tt σ o) o.op (fun x h=>(hx x h).1) ha
 have h3:=Q9 hN (Oper.tt σ o) o.op (fun x h=>(hx x h).1) ha
 refine⟨?_,hg,h1.d,fun nm=>?_,fun nm hn=>?_,h2,h3⟩
 ·have aa:(aF P Γ σ' ((σ.base+o.dst.getD 0)::σ.pre) o.op).ok=(aF P Γ σ ((σ.base+o.dst.getD 0)::σ.pre) o.op).ok:=h1.ok
  unfold gz
  rw[OD,hg,dS,rm,rL,Qq hx,aa]
 ·unfold aN
  simp only[hg,rm,rL]
  cases hc:cA ops σ o with
  |true=>simp only[if_true];exact h1.eff nm
  |false=>
   simp only[Bool.false_eq_true,if_false]
   split
   ·rename_i hn;exact ha nm (xu hN _ _ nm hn)
   ·rfl
 ·unfold aN
  cases hc:cA ops σ o with
  |true=>simp only[if_true];exact h1.frame nm hn
  |false=>simp only[Bool.false_eq_true,if_false]
theorem ln{σ:S}{o:Oper}{t:Nat}(h:o.dst≠some t):(aN P Γ ops σ o).env t=σ.env t:=by
 unfold aN
 cases hd:o.dst with
 |none=>rfl
 |some s=>exact aU _ _ _ (by rintro rfl;exact h hd)
def pT(a b:List Name):Prop:=∀ nm∈a,nm∉b
theorem comm{oi oj:Oper}(hN:∀ f s,Γ f=some s->s.Near){σ:S}(gf:oi.apart ops oj=true)
 (h1:pT (aX Γ σ (Oper.tt σ oi) oi.op) (bh Γ (aN P Γ ops σ oi) (Oper.tt σ oj) oj.op)) (h2:pT (aX Γ (aN P Γ ops σ oi) (Oper.tt σ oj) oj.op) (bh Γ σ (Oper.tt σ oi) oi.op)):
 ld P Γ ops (aN P Γ ops σ oi) σ oj/\ld P Γ ops σ (aN P Γ ops σ oj) oi/\aN P Γ ops (aN P Γ ops σ oj) oi=aN P Γ ops (aN P Γ ops σ oi) oj:=by
 obtain⟨a1,a2,a3⟩:=Oper.apart_spec gf
 have s0:ld P Γ ops σ σ oi:=n8 hN oi rfl rfl rfl (fun _ _=>rfl) (fun _ _=>rfl)
 have s1:ld P Γ ops (aN P Γ ops σ oi) σ oj:=by
  refine n8 hN oj rfl rfl rfl (fun t ht=>(ln fun hd=>a1 t hd ht).symm) fun nm hn=>?_
  exact(s0.frame nm fun hw=>h1 nm hw hn).symm
 have s2:ld P Γ ops σ (aN P Γ ops σ oj) oi:=by
  refine n8 hN oi rfl rfl rfl (fun t ht=>ln fun hd=>a3 t hd ht) fun nm hn=>?_
  exact(s1.eff nm).trans (if_neg fun hw=>h2 nm hw hn)
 refine⟨s1,s2,?_⟩
 have e1:(aN P Γ ops (aN P Γ ops σ oj) oi).obj=(aN P Γ ops (aN P Γ ops σ oi) oj).obj:=by
  funext nm
  rw[s2.eff nm]
  by_cases hi:nm∈aX Γ σ (Oper.tt σ oi) oi.op
  ·rw[if_pos hi]
   have :=xu hN _ _ nm hi
   have s3:ld P Γ ops (aN P Γ ops σ oi) (aN P Γ ops σ oi) oj:=n8 hN oj rfl rfl rfl (fun _ _=>rfl) (fun _ _=>rfl)
   exact(s3.frame nm fun hw=>h2 nm hw this).symm
  ·rw[if_neg hi,s1.eff nm]
   split
   ·rfl
   ·rename_i hj
    have s3:ld P Γ ops (aN P Γ ops σ oi) (aN P Γ ops σ oi) oj:=n8 hN oj rfl rfl rfl (fun _ _=>rfl) (fun _ _=>rfl)
    rw[s3.frame nm hj,s0.frame nm hi]
 have e2:(aN P Γ ops (aN P Γ ops σ oj) oi).env=(aN P Γ ops (aN P Γ ops σ oi) oj).env:=by
  funext x
  by_cases hi:oi.dst=some x
  ·have hj:oj.dst≠some x:=a2 x hi
   rw[ln (σ:=aN P Γ ops σ oi) hj]
   show (match oi.dst with
    |some t=>upd (aN P Γ ops σ oj).env t ⟨cA ops (aN P Γ ops σ oj) oi,(aF P Γ (aN P Γ ops σ oj) ((σ.base+t)::σ.pre) oi.op).d⟩
    |none=>(aN P Γ ops σ oj).env) x=(match oi.dst with
    |some t=>upd σ.env t ⟨cA ops σ oi,(aF P Γ σ ((σ.base+t)::σ.pre) oi.op).d⟩
    |none=>σ.env) x
   have d1:=s2.d
   have g1:=s2.g
   unfold Oper.tt at d1
   simp only[hi,Option.getD_some]at d1 |-
   rw[aD,aD,d1,g1]
  ·rw[ln hi]
   by_cases hj:oj.dst=some x
   ·show (match oj.dst with
      |some t=>upd σ.env t ⟨cA ops σ oj,(aF P Γ σ ((σ.base+t)::σ.pre) oj.op).d⟩
      |none=>σ.env) x=(match oj.dst with
      |some t=>upd (aN P Γ ops σ oi).env t ⟨cA ops (aN P Γ ops σ oi) oj,(aF P Γ (aN P Γ ops σ oi) ((σ.base+t)::σ.pre) oj.op).d⟩
      |none=>(aN P Γ ops σ oi).env) x
    have d1:(aF P Γ σ (Oper.tt σ oj) oj.op).d=(aF P Γ (aN P Γ ops σ oi) (Oper.tt σ oj) oj.op).d:=s1.d
    have g1:=s1.g
    unfold Oper.tt at d1
    simp only[hj,Option.getD_some]at d1 |-
    rw[aD,aD,d1,g1]
   ·rw[ln hj,ln hj,ln hi]
 have e3:(aN P Γ ops (aN P Γ ops σ oj) oi).nt=(aN P Γ ops (aN P Γ ops σ oi) oj).nt:=rfl
 have e4:(aN P Γ ops (aN P Γ ops σ oj) oi).pre=(aN P Γ ops (aN P Γ ops σ oi) oj).pre:=rfl
 have e5:(aN P Γ ops (aN P Γ ops σ oj) oi).base=(aN P Γ ops (aN P Γ ops σ oi) oj).base:=rfl
 generalize aN P Γ ops (aN P Γ ops σ oj) oi=x at *
 generalize aN P Γ ops (aN P Γ ops σ oi) oj=y at *
 cases x;cases y
 simp only at e1 e2 e3 e4 e5
 subst e1 e2 e3 e4 e5
 rfl
structure lg where
 on:Nat
 foot:List Name
 wrt:List Name
def qk(anc:List Nat)(foot wrt:List Name)(L:List lg):Prop:=∀ e∈L,e.on∈anc\/(pT e.wrt foot/\pT wrt e.foot)
variable (P Γ ops)in
def lj(anc:Nat->List Nat)(L:List lg)(K:S->Prop):Nat->Array Bool->S->Prop
 | 0,listed,σ=>Region.ready .any ops listed=[]/\K σ
 |fuel+1,listed,σ=>(Region.ready .any ops listed=[]->K σ)/\∀ i∈Region.ready .any ops listed,∀ o,ops[i]?=some o->
    gz P Γ ops σ o/\qk (anc i) (bh Γ σ (Oper.tt σ o) o.op) (aX Γ σ (Oper.tt σ o) o.op) L/\lj anc L K fuel (listed.setIfInBounds i true) (aN P Γ ops σ o)
def pV(ops:Array Oper)(anc:Nat->List Nat):Prop:=∀ j o,ops[j]?=some o->∀ i∈anc j,∃ e∈o.after,Region.binds .any e=true/\(e.on=i\/i∈anc e.on)
def mF(anc:Nat->List Nat)(listed:Array Bool):Prop:=∀ j,listed.getD j false=true->∀ i∈anc j,listed.getD i false=true
theorem mF.ready{anc:Nat->List Nat}{listed:Array Bool}(hA:pV ops anc)(h:mF anc listed){j:Nat}(hj:j∈Region.ready .any ops listed):∀ i∈anc j,listed.getD i false=true:=by
 intro i hi
 obtain⟨_,o,ho,ic⟩:=mem_ready.1 hj
 obtain⟨e,he,hb,h1⟩:=hA j o ho i hi
 have :=ic e he hb
 rcases h1 with h1 | h1
 ·rw[<-h1];exact this
 ·exact h _ this i h1
theorem mF.set{anc:Nat->List Nat}{listed:Array Bool}(hA:pV ops anc)(h:mF anc listed){j:Nat}(hj:j∈Region.ready .any ops listed):mF anc (listed.setIfInBounds j true):=by
 intro k hk i hi
 by_cases DD:j=k
 ·subst DD
  exact getD_set_true (h.ready hA hj i hi)
 ·rw[getD_set_ne false DD]at hk
  exact getD_set_true (h k hk i hi)
theorem pull(hN:∀ f s,Γ f=some s->s.Near){anc:Nat->List Nat}(hA:pV ops anc){K:S->Prop}{i:Nat}{oi:Oper}(hi:ops[i]?=some oi){L:List lg}:
 ∀ (fuel:Nat) (listed:Array Bool) (σ:S),mF anc listed->
   (∀ j oj,ops[j]?=some oj->j≠i->listed.getD j true=false->i∉anc j->oi.apart ops oj=true)->
   i∈Region.ready .any ops listed->gz P Γ ops σ oi->qk (anc i) (bh Γ σ (Oper.tt σ oi) oi.op) (aX Γ σ (Oper.tt σ oi) oi.op) L->
   lj P Γ ops anc (⟨i,bh Γ σ (Oper.tt σ oi) oi.op,aX Γ σ (Oper.tt σ oi) oi.op⟩::L) K fuel (listed.setIfInBounds i true) (aN P Γ ops σ oi)->
   lj P Γ ops anc L K (fuel+1) listed σ:=by
 have weaken:∀ (e:lg) (fuel:Nat) (listed:Array Bool) (σ:S),lj P Γ ops anc (e::L) K fuel listed σ->lj P Γ ops anc L K fuel listed σ:=by
  intro e fuel
  induction fuel with
  |zero=>exact fun _ _ h=>h
  |succ n ih=>exact fun listed σ h=>⟨h.1,fun i hi o ho=>⟨(h.2 i hi o ho).1,fun e' OW=>(h.2 i hi o ho).2.1 e' (List.mem_cons_of_mem _ OW),ih _ _ (h.2 i hi o ho).2.2⟩⟩
 intro fuel
 induction fuel with
 |zero=>
  intro listed σ bG vM hr dI aa H
  refine⟨fun h=>(by rw[h]at hr;cases hr),fun j hj oj lT=>?_⟩
  by_cases kJ:j=i
  ·subst kJ
   rw[hi]at lT;cases lT
   exact⟨dI,aa,weaken _ _ _ _ H⟩
  ·have:=ready_mono hj kJ
   rw[H.1]at this
   cases this
 |succ fuel ih=>
  intro listed σ bG vM hr dI aa H
  refine⟨fun h=>(by rw[h]at hr;cases hr),fun j hj oj lT=>?_⟩
  by_cases kJ:j=i
  ·subst kJ
   rw[hi]at lT;cases lT
   exact⟨dI,aa,weaken _ _ _ _ H⟩
  ·obtain⟨g1,g2,g3⟩:=H.2 j (ready_mono hj kJ) oj lT
   have oP:listed.getD j true=false:=(mem_ready.1 hj).1
   have rv:i∉anc j:=fun h=>by
    have h1:=bG.ready hA hj i h
    have h0:=(mem_ready.1 hr).1
    rcases Nat.lt_or_ge i listed.size with h' | h'
    ·simp[h']at h0 h1;rw[h0]at h1;cases h1
    ·simp[Array.getElem?_eq_none h']at h1
   rcases g2 _ List.mem_cons_self with k | ⟨d1,d2⟩
   ·exact(rv k).elim
   simp only at d1 d2
   obtain⟨s1,s2,s3⟩:=comm hN (vM j oj lT kJ oP rv) d1 d2
   have f1:bh Γ σ (Oper.tt σ oj) oj.op=bh Γ (aN P Γ ops σ oi) (Oper.tt σ oj) oj.op:=s1.foot
   have f2:aX Γ σ (Oper.tt σ oj) oj.op=aX Γ (aN P Γ ops σ oi) (Oper.tt σ oj) oj.op:=s1.wrt
   have f3:bh Γ (aN P Γ ops σ oj) (Oper.tt σ oi) oi.op=bh Γ σ (Oper.tt σ oi) oi.op:=s2.foot
   have f4:aX Γ (aN P Γ ops σ oj) (Oper.tt σ oi) oi.op=aX Γ σ (Oper.tt σ oi) oi.op:=s2.wrt
   refine⟨s1.obl.2 g1,?_,?_⟩
   ·rw[f1,f2]
    exact fun e he=>g2 e (List.mem_cons_of_mem _ he)
   ·refine ih _ _ (bG.set hA hj) (fun k ok hk g' Dc kE=>vM k ok hk g' ?_ kE) (ready_mono hr (Ne.symm kJ)) (s2.obl.2 dI) ?_ ?_
    ·by_cases jK:j=k
     ·subst jK;exact oP
     ·rw[getD_set_ne true jK]at Dc;exact Dc
    ·show qk (anc i) (bh Γ (aN P Γ ops σ oj) (Oper.tt σ oi) oi.op) (aX Γ (aN P Γ ops σ oj) (Oper.tt σ oi) oi.op) L
     rw[f3,f4];exact aa
    ·show lj P Γ ops anc (⟨i,bh Γ (aN P Γ ops σ oj) (Oper.tt σ oi) oi.op,aX Γ (aN P Γ ops σ oj) (Oper.tt σ oi) oi.op⟩::L) K fuel _ _
     rw[Array.setIfInBounds_comm _ _ kJ,f3,f4,s3]
     exact g3
theorem F3(hΓ:∀ f s,Γ f=some s->an P f s){G:Ghost}{Q:Exit->Act->World->Prop}{K:S->Prop}{anc:Nat->List Nat}{L:List lg}:
 ∀ (fuel:Nat) (listed:Array Bool) {φ:Name->Loc} {m:Mem} {σ:S} {a:Act} {w:World},ay G φ m σ a w->lj P Γ ops anc L K fuel listed σ->
   (∀ a' w' φ' m' σ',ay G φ' m' σ' a' w'->K σ'->Q .normal a' w')->wpAnyIn (c0 G.rd) 0 P .any ops Q fuel listed a w
 | 0,listed,φ,m,σ,a,w,hC,h,hQ=>⟨h.1,hQ _ _ φ m σ hC h.2⟩
 |fuel+1,listed,φ,m,σ,a,w,hC,h,hQ=>by
  refine⟨fun h0=>hQ _ _ φ m σ hC (h.1 h0),fun i hi=>?_⟩
  obtain⟨_,o,ho,_⟩:=mem_ready.1 hi
  obtain⟨h1,_,h3⟩:=h.2 i hi o ho
  exact ta hΓ hC ho h1 fun a' w' φ' m' bp=>F3 hΓ fuel _ bp h3 hQ
end
section
variable {P:Program} {Γ:FuncId->Option Spec} {ops:Array Oper}
structure mE where
 anc:List Nat
 past:lg
def bY:Name->Name->Bool
 |[],[]=>true
 |x::r,y::s=>Nat.beq x y&&bY r s
 |_,_=>false
theorem di:∀ {a b:Name},bY a b=true↔a=b
 |[],[]=>by simp[bY]
 |[],_::_=>by simp[bY]
 |_::_,[]=>by simp[bY]
 |x::r,y::s=>by
  simp only[bY,Bool.and_eq_true,Nat.beq_eq,List.cons.injEq,di]
def m5:List Name->Name->Bool
 |[],_=>false
 |x::r,nm=>bY x nm||m5 r nm
theorem yZ:∀ {l:List Name} {nm:Name},m5 l nm=true↔nm∈l
 |[],nm=>by simp[m5]
 |x::r,nm=>by
  simp only[m5,Bool.or_eq_true,di,List.mem_cons,yZ]
  exact⟨fun h=>h.imp Eq.symm id,fun h=>h.imp Eq.symm id⟩
def fw:List Nat->Nat->Bool
 |[],_=>false
 |x::r,n=>Nat.beq x n||fw r n
theorem y0:∀ {l:List Nat} {n:Nat},fw l n=true↔n∈l
 |[],n=>by simp[fw]
 |x::r,n=>by
  simp only[fw,Bool.or_eq_true,Nat.beq_eq,List.mem_cons,y0]
  exact⟨fun h=>h.imp Eq.symm id,fun h=>h.imp Eq.symm id⟩
def nQ:List Name->List Name->Bool
 |[],_=>true
 |x::r,b=>!m5 b x&&nQ r b
theorem wN:∀ {a b:List Name},nQ a b=true->pT a b
 |[],_,_=>fun nm h=>by cases h
 |x::r,b,h=>by
  simp only[nQ,Bool.and_eq_true,Bool.not_eq_true']at h
  intro nm ha hb
  rcases List.mem_cons.1 ha with rfl | ha
  ·rw[yZ.2 hb]at h;cases h.1
  ·exact wN h.2 nm ha hb
def chk(p:mE)(e:mE):Bool:=fw p.anc e.past.on||(nQ e.past.wrt p.past.foot&&nQ p.past.wrt e.past.foot)
def mT:List mE->Bool
 |[]=>true
 |p::L=>L.all (chk p)&&mT L
variable (P Γ ops)in
def lf:Nat->List (List Nat)->List Oper->List mE->S->(S->Prop)->Prop
 |_,_,[],L,σ,K=>mT L=true/\K σ
 |i,az,o::r,L,σ,K=>gz P Γ ops σ o/\
   lf (i+1) az.tail r (⟨az.headD [],i,bh Γ σ ((σ.base+o.dst.getD 0)::σ.pre) o.op,aX Γ σ ((σ.base+o.dst.getD 0)::σ.pre) o.op⟩::L) (aN P Γ ops σ o) K
variable (P Γ ops)in
def xp(anc:Nat->List Nat):Nat->List Oper->List lg->S->(S->Prop)->Prop
 |_,[],_,σ,K=>K σ
 |i,o::r,L,σ,K=>gz P Γ ops σ o/\qk (anc i) (bh Γ σ (Oper.tt σ o) o.op) (aX Γ σ (Oper.tt σ o) o.op) L/\
   xp anc (i+1) r (⟨i,bh Γ σ (Oper.tt σ o) o.op,aX Γ σ (Oper.tt σ o) o.op⟩::L) (aN P Γ ops σ o) K
theorem yj{anc:Nat->List Nat}{K:S->Prop}:∀ (l:List Oper) (i:Nat) (az:List (List Nat)) (L:List mE) (σ:S),(∀ k,az.getD k []=anc (i+k))->
 lf P Γ ops i az l L σ K->mT L=true/\xp P Γ ops anc i l (L.map (·.past)) σ K
 |[],i,az,L,σ,_,h=>h
 |o::r,i,az,L,σ,ha,h=>by
  obtain⟨h1,h2⟩:=h
  obtain⟨h3,h4⟩:=yj (anc:=anc) r (i+1) az.tail _ _ (fun k=>by
   have :=ha (k+1)
   rw[show i+(k+1)=i+1+k by omega]at this
   rw[<-this]
   cases az<;>rfl) h2
  simp only[mT,Bool.and_eq_true]at h3
  refine⟨h3.2,h1,?_,h4⟩
  intro e he
  obtain⟨p,hp,rfl⟩:=List.mem_map.1 he
  have :=List.all_eq_true.1 h3.1 p hp
  simp only[chk,Bool.or_eq_true,Bool.and_eq_true]at this
  rcases this with k | ⟨k1,k2⟩
  ·left
   have h0:az.headD []=anc i:=by
    have :=ha 0
    rw[Nat.add_zero]at this
    rw[<-this]
    cases az<;>rfl
   rw[h0]at k
   exact y0.1 k
  ·exact .inr ⟨wN k1,wN k2⟩
theorem yk(hN:∀ f s,Γ f=some s->s.Near){anc:Nat->List Nat}(hA:pV ops anc)(gf:∀ i j oi oj,ops[i]?=some oi->ops[j]?=some oj->i<j->i∉anc j->oi.apart ops oj=true)
 (rM:∀ j o,ops[j]?=some o->∀ e∈o.after,Region.binds .any e=true->e.on<j) {K:S->Prop}:
 ∀ (n k:Nat) (L:List lg) (listed:Array Bool) (σ:S),k+n=ops.size->listed.size=ops.size->(∀ j,listed.getD j false=decide (j<k))->mF anc listed->
   xp P Γ ops anc k (ops.toList.drop k) L σ K->lj P Γ ops anc L K n listed σ
 | 0,k,L,listed,σ,hk,hs,hl,bG,h=>by
   have :ops.toList.drop k=[]:=List.drop_eq_nil_of_le (by simp;omega)
   rw[this]at h
   refine⟨?_,h⟩
   refine List.eq_nil_iff_forall_not_mem.2 fun j hj=>?_
   obtain⟨h1,o,ho,_⟩:=mem_ready.1 hj
   have ae:j<ops.size:=(Array.getElem?_eq_some_iff.1 ho).1
   have :=hl j
   simp only[Array.getD_eq_getD_getElem?,Array.getElem?_eq_getElem (show j<listed.size by omega),Option.getD_some]at h1 this
   rw[h1]at this
   simp at this
   omega
 |n+1,k,L,listed,σ,hk,hs,hl,bG,h=>by
  have ae:k<ops.size:=by omega
  have hd:ops.toList.drop k=ops[k]::ops.toList.drop (k+1):=by
   rw[List.drop_eq_getElem_cons (by simpa using ae)];simp
  rw[hd]at h
  obtain⟨h1,h2,h3⟩:=h
  have aa:ops[k]?=some ops[k]:=Array.getElem?_eq_getElem ae
  have jH:∀ j,j<listed.size->listed.getD j true=listed.getD j false:=by
   intro j hj
   simp only[Array.getD_eq_getD_getElem?,Array.getElem?_eq_getElem hj,Option.getD_some]
  have hr:k∈Region.ready .any ops listed:=by
   refine mem_ready.2 ⟨?_,_,aa,fun e he hb=>?_⟩
   ·rw[jH k (by omega),hl k];simp
   ·rw[hl];simpa using rM k _ aa e he hb
  refine pull hN hA aa n listed σ bG (fun j oj hj ar oP kE=>?_) hr h1 h2 ?_
  ·have iS:j<ops.size:=(Array.getElem?_eq_some_iff.1 hj).1
   rw[jH j (by omega),hl j]at oP
   simp at oP
   exact gf k j _ oj aa hj (by omega) kE
  ·refine yk hN hA gf rM n (k+1) _ _ _ (by omega) (by simpa using hs) (fun j=>?_) (bG.set hA hr) h3
   by_cases jK:k=j
   ·subst jK
    simp[show k<listed.size by omega]
   ·rw[getD_set_ne false jK,hl j]
    refine decide_eq_decide.2 ?_
    omega
def n9(ops:Array Oper)(az:List (List Nat)):Bool:=
 (List.range ops.size).all fun j=>match ops[j]? with
   |none=>true
   |some oj=>(oj.after.toList.all fun e=>!Region.binds .any e||decide (e.on<j))&&
      ((az.getD j []).all fun i=>oj.after.toList.any fun e=>Region.binds .any e&&(e.on==i||(az.getD e.on []).contains i))&&
      (List.range j).all fun i=>(az.getD j []).contains i||(match ops[i]? with | some oi=>oi.apart ops oj | none=>true)
theorem wW(hΓ:∀ f s,Γ f=some s->an P f s)(hP:P.follows .mixedOrders=true){id:Nat}{l:List Oper}{σ:S}{K:Exit->S->Prop}(az:List (List Nat))
 (hs:n9 l.toArray az=true) (h:∀ K':S->Prop,(∀ σ',K .normal σ'->K' σ')->lf P Γ l.toArray 0 az l [] σ K'):CW P (.region id l.toArray true) σ K:=by
 intro G φ m a w hC
 have gC:∀ j oj,l.toArray[j]?=some oj->(oj.after.toList.all fun e=>!Region.binds .any e||decide (e.on<j))=true/\
       ((az.getD j []).all fun i=>oj.after.toList.any fun e=>Region.binds .any e&&(e.on==i||(az.getD e.on []).contains i))=true/\
       ((List.range j).all fun i=>(az.getD j []).contains i||(match l.toArray[i]? with | some oi=>oi.apart l.toArray oj | none=>true))=true:=by
  intro j oj hj
  have :=List.all_eq_true.1 hs j (List.mem_range.2 (Array.getElem?_eq_some_iff.1 hj).1)
  simp only[hj,Bool.and_eq_true]at this
  exact⟨this.1.1,this.1.2,this.2⟩
 have hN:∀ f s,Γ f=some s->s.Near:=fun f s h=>(hΓ f s h).near
 have hA:pV l.toArray (fun j=>az.getD j []):=by
  intro j o ho i hi
  have :=List.all_eq_true.1 (gC j o ho).2.1 i hi
  obtain⟨e,he,h1⟩:=List.any_eq_true.1 this
  simp only[Bool.and_eq_true,Bool.or_eq_true,beq_iff_eq,List.contains_iff_mem]at h1
  exact⟨e,by simpa using he,h1.1,h1.2⟩
 have gf:∀ i j oi oj,l.toArray[i]?=some oi->l.toArray[j]?=some oj->i<j->i∉az.getD j []->oi.apart l.toArray oj=true:=by
  intro i j oi oj h1 h2 h3 h4
  have :=List.all_eq_true.1 (gC j oj h2).2.2 i (List.mem_range.2 h3)
  simp only[h1,Bool.or_eq_true]at this
  rcases this with k | k
  ·exact(h4 (by simpa using k)).elim
  ·exact k
 have rM:∀ j o,l.toArray[j]?=some o->∀ e∈o.after,Region.binds .any e=true->e.on<j:=by
  intro j o ho e he hb
  have :=List.all_eq_true.1 (gC j o ho).1 e (by simpa using he)
  simpa[hb]using this
 refine wpIn_region_any hP ?_
 obtain⟨_,hD⟩:=yj (anc:=fun j=>az.getD j []) l 0 az [] σ (fun k=>by simp) (h (K .normal) fun _ h=>h)
 refine F3 hΓ (K:=K .normal) _ _ (hC.drawn _) (yk hN hA gf rM l.toArray.size 0 [] _ σ (by simp) (by simp) (fun j=>?_) (fun j hj=>?_) (by simpa using hD)) fun a' w' φ' m' σ' bp hK=>⟨φ',m',σ',bp,hK⟩
 ·by_cases hj:j<l.length<;>simp[hj]
 ·by_cases fF:j<l.length<;>simp[fF]at hj
theorem QE(hΓ:∀ f s,Γ f=some s->an P f s)(hP:P.follows .mixedOrders=true){id:Nat}{l:List Oper}{c:Code}{r:List Code}{σ:S}{K:Exit->S->Prop}(az:List (List Nat))(ks:List Nat)(ns:List Name)
 (hs:n9 l.toArray az=true) (h:∀ K':S->Prop,(∀ σ',ek ks ns σ'->CL P (c::r) (eB ks ns σ') K->K' σ')->lf P Γ l.toArray 0 az l [] σ K'):CL P (.region id l.toArray true::c::r) σ K:=
 wW hΓ hP az hs fun K' hK=>h K' fun σ' hc hy=>hK σ' (E9 ks ns hc hy)
theorem kU(hΓ:∀ f s,Γ f=some s->an P f s)(hP:P.follows .mixedOrders=true){id:Nat}{l:List Oper}{σ:S}{K:Exit->S->Prop}(az:List (List Nat))
 (hs:n9 l.toArray az=true) (h:∀ K':S->Prop,(∀ σ',K .normal σ'->K' σ')->lf P Γ l.toArray 0 az l [] σ K'):CL P [.region id l.toArray true] σ K:=
 wW hΓ hP az hs fun K' hK=>h K' fun σ' hc=>hK σ' hc
end
attribute [go_sem] bY m5 fw nQ Nat.beq_eq_true_eq lf bh aX aB fp cg dW c5 muts O.mut PSpec.toSpec List.headD_cons List.headD_nil List.tail_cons List.tail_nil
mutual
def D.ren(f:Name->Name):D->D
 | .v x=>.v x
 | .nilsl=>.nilsl
 | .nilmap=>.nilmap
 | .ref nm o=>.ref (f nm) o
 | .msl nm k=>.msl (f nm) k
 | .aref nm k i o=>.aref (f nm) k i o
 | .map nm=>.map (f nm)
 | .yld nm=>.yld (f nm)
 | .clo fn a b=>.clo fn (D.renL f a) (D.renL f b)
 | .agg l=>.agg (D.renL f l)
 | .tup l=>.tup (D.renL f l)
 | .any=>.any
def D.renL(f:Name->Name):List D->List D
 |[]=>[]
 |d::r=>D.ren f d::D.renL f r
end
def E.ren(f:Name->Name)(e:E):E:=⟨e.c,e.d.ren f⟩
def O.ren(f:Name->Name):O->O
 | .box cs=>.box (D.renL f cs)
 | .loop env ps asg body st aW=>.loop (env.map (E.ren f)) ps asg body st aW
 | .arr sz l=>.arr sz l
 | .map kd es=>.map kd es
 | .fbox cs=>.fbox cs
 | .farr sz l=>.farr sz l
 | .dead sz n=>.dead sz n
theorem ft(f:Name->Name):∀ l:List D,D.renL f l=l.map (D.ren f)
 |[]=>rfl
 |d::r=>by simp only[D.renL,List.map_cons,ft f r]
theorem D.one_ren(f:Name->Name)(d:D):(d.ren f).one=d.one:=by cases d<;>rfl
theorem O.len_ren(f:Name->Name)(o:O):(o.ren f).len?=o.len?:=by cases o<;>rfl
theorem O.sz_ren(f:Name->Name)(o:O):(o.ren f).sz=o.sz:=by cases o<;>rfl
theorem O.mut_ren(f:Name->Name)(o:O):(o.ren f).mut=o.mut:=by cases o<;>rfl
def pS(f:Name->Name)(φ φ':Name->Loc)(obj obj':Name->Option O)(dom:Name->Bool):Prop:=
 ∀ nm o,dom nm=true->obj nm=some o->∃ o',obj' (f nm)=some o'/\
   ((o'.len?=o.len?/\φ' (f nm)=φ nm/\o'.sz=o.sz)\/(∃ n n',o.len?=some n/\o'.len?=some n'/\n<n'))
theorem al.renx{f:Name->Name}{φ φ':Name->Loc}{obj obj':Name->Option O}{m m':Mem}{dom:Name->Bool}(hm:Mem.le m m')(hx:pS f φ φ' obj obj' dom){d:D}{u:Value}
 (h:al φ obj m d u) (hc:D.clos dom d=true):al φ' obj' m' (d.ren f) u:=by
 induction h with
 |any u=>exact .any u
 |v x u h=>exact .v x u (h.mono hm)
 |nilsl a=>exact .nilsl a
 |nilmap=>exact .nilmap
 |ref nm off h=>
  obtain⟨o,ho,hl⟩:=h
  obtain⟨o',bA,h⟩:=hx nm o hc ho
  rcases h with⟨h1,h2,h3⟩ | ⟨n,n',h1,h2,h3⟩
  ·rw[<-h2];exact .ref (f nm) off ⟨o',bA,h1.trans hl⟩
  ·rw[hl]at h1;cases h1
 |map nm h=>
  obtain⟨o,ho,hl⟩:=h
  obtain⟨o',bA,h⟩:=hx nm o hc ho
  rcases h with⟨h1,h2,h3⟩ | ⟨n,n',h1,h2,h3⟩
  ·rw[<-h2];exact .map (f nm) ⟨o',bA,h1.trans hl⟩
  ·rw[hl]at h1;cases h1
 |yld nm h=>
  obtain⟨o,ho,hl⟩:=h
  obtain⟨o',bA,h⟩:=hx nm o hc ho
  rcases h with⟨h1,h2,h3⟩ | ⟨n,n',h1,h2,h3⟩
  ·rw[<-h2];exact .yld (f nm) ⟨o',bA,h1.trans hl⟩
  ·rw[hl]at h1;cases h1
 |msl nm k u h hu=>
  obtain⟨o,n,ho,hl,hk,he⟩:=h
  obtain⟨o',bA,h⟩:=hx nm o hc ho
  rcases h with⟨h1,h2,h3⟩ | ⟨n1,n',h1,h2,h3⟩
  ·exact .msl (f nm) k u ⟨o',n,bA,h1.trans hl,hk,fun e=>by rw[h2];exact he e⟩ hu
  ·rw[hl]at h1;cases h1
   exact .msl (f nm) k u ⟨o',n',bA,h2,by omega,fun e=>by omega⟩ hu
 |aref nm k i off u h hu=>
  obtain⟨o,n,ho,hl,hk,he⟩:=h
  obtain⟨o',bA,h⟩:=hx nm o hc ho
  rcases h with⟨h1,h2,h3⟩ | ⟨n1,n',h1,h2,h3⟩
  ·exact .aref (f nm) k i off u ⟨o',n,bA,h1.trans hl,hk,fun e=>by rw[h2,h3];exact he e⟩ hu
  ·rw[hl]at h1;cases h1
   exact .aref (f nm) k i off u ⟨o',n',bA,h2,by omega,fun e=>by omega⟩ hu
 |clo fn fs cs us vs h1 h2 bk bX jA jz=>
  simp only[D.clos,Bool.and_eq_true]at hc
  simp only[D.ren,ft]
  refine .clo fn _ _ us vs (by simpa using h1) (by simpa using h2) (fun i a b=>?_) (fun i a b=>?_)
  ·simp only[List.getElem_map];exact jA i (by simpa using a) b (ej _ hc.1)
  ·simp only[List.getElem_map];exact jz i (by simpa using a) b (ej _ hc.2)
 |agg l us h ho hr ih=>
  simp only[D.clos]at hc
  simp only[D.ren,ft]
  refine .agg _ us (by simpa using h) (fun d hd=>?_) (fun i a b=>?_)
  ·obtain⟨d',h1,rfl⟩:=List.mem_map.1 hd
   rw[D.one_ren];exact ho d' h1
  ·simp only[List.getElem_map];exact ih i (by simpa using a) b (ej _ hc)
 |tup l us h hr ih=>
  simp only[D.clos]at hc
  simp only[D.ren,ft]
  refine .tup _ us (by simpa using h) (fun i a b=>?_)
  simp only[List.getElem_map];exact ih i (by simpa using a) b (ej _ hc)
theorem bn.renx{f:Name->Name}{φ φ':Name->Loc}{obj obj':Name->Option O}{m m':Mem}{dom:Name->Bool}(hm:Mem.le m m')(hx:pS f φ φ' obj obj' dom){e:E}{u:Value}
 (h:bn φ obj m e u) (hc:D.clos dom e.d=true):bn φ' obj' m' (e.ren f) u:=by
 unfold bn at *
 have e0:(E.ren f e).c=e.c:=rfl
 have e1:(E.ren f e).d=e.d.ren f:=rfl
 rw[e0,e1]
 by_cases hh:e.c=true
 ·rw[if_pos hh]at h |-;exact h.renx hm hx hc
 ·rw[if_neg hh]at h |-;exact h
theorem dz.ren{f:Name->Name}{φ φ':Name->Loc}{obj obj':Name->Option O}{m m':Mem}{dom:Name->Bool}{o:O}{p:Loc}{w w':World}(hm:Mem.le m m')(hx:pS f φ φ' obj obj' dom)
 (hc:O.clos dom o=true) (hw:o.mut=true->p.nul=false->w'.heap[p.blk]?=w.heap[p.blk]?) (h:dz φ obj m o p w):dz φ' obj' m' (o.ren f) p w':=by
 cases o with
 |box cs=>
  obtain⟨h0,h1,cZ,us,T,g,h2,h3,h4,h5⟩:=h
  simp only[O.clos]at hc
  simp only[O.ren,dz,ft,List.length_map,List.getElem_map,List.mem_map,forall_exists_index,and_imp,forall_apply_eq_imp_iff₂,D.one_ren]
  exact⟨h0,h1,cZ,us,T,g,by rw[hw rfl h1];exact h2,h3,h4,fun i a b=>(h5 i a b).renx hm hx (ej a hc)⟩
 |arr sz l=>
  rcases h with⟨h,h'⟩ | ⟨h0,h1,h2,h3,h4,us,T,f,h5,h6,h7,h8⟩
  ·exact .inl ⟨h,h'⟩
  ·exact .inr ⟨h0,h1,h2,h3,h4,us,T,f,by rw[hw rfl h0];exact h5,h6,h7,fun i j a b=>let ⟨c,x,y⟩:=h8 i j a b;⟨c,x,y.mono hm⟩⟩
 |map kd es=>
  obtain⟨h0,h1,cZ,us,T,h2,h3,h4⟩:=h
  exact⟨h0,h1,cZ,us,T,by rw[hw rfl h1];exact h2,h3,fun i a b=>⟨(h4 i a b).1.mono hm,(h4 i a b).2.mono hm⟩⟩
 |fbox cs=>exact⟨h.1,fun i a=>let ⟨c,x,y⟩:=h.2 i a;⟨c,hm _ _ _ x,y.mono hm⟩⟩
 |farr sz l=>
  rcases h with⟨h,h'⟩ | ⟨h0,h1,h2,h3,h4⟩
  ·exact .inl ⟨h,h'⟩
  ·exact .inr ⟨h0,h1,h2,h3,fun i j a b=>let ⟨c,x,y⟩:=h4 i j a b;⟨c,hm _ _ _ x,y.mono hm⟩⟩
 |dead=>exact h
 |loop env ps asg body st aW=>
  obtain⟨h0,h1,r,h2,h3,h4,h5,h6,h7,h8,h9⟩:=h
  simp only[O.clos]at hc
  simp only[O.ren,dz,List.length_map,List.getElem_map]
  refine⟨h0,h1,r,by rw[hw rfl h1];exact h2,h3,h4,h5,h6,h7,h8,fun i a=>(h9 i a).renx hm hx ?_⟩
  have :=ej (l:=env.map (·.d)) (i:=i) (by simpa using a) hc
  simpa using this
mutual
theorem D.ren_id{f g:Name->Name}{dom:Name->Bool}(ff:∀ nm,dom nm=true->g (f nm)=nm):∀ d:D,D.clos dom d=true->(d.ren f).ren g=d
 | .v _,_=>rfl
 | .nilsl,_=>rfl
 | .nilmap,_=>rfl
 | .any,_=>rfl
 | .ref nm _,h=>by simp only[D.ren];rw[ff nm h]
 | .msl nm _,h=>by simp only[D.ren];rw[ff nm h]
 | .aref nm _ _ _,h=>by simp only[D.ren];rw[ff nm h]
 | .map nm,h=>by simp only[D.ren];rw[ff nm h]
 | .yld nm,h=>by simp only[D.ren];rw[ff nm h]
 | .clo _ a b,h=>by
   simp only[D.clos,Bool.and_eq_true]at h
   simp only[D.ren];rw[D.renL_id ff a h.1,D.renL_id ff b h.2]
 | .agg l,h=>by simp only[D.clos]at h;simp only[D.ren];rw[D.renL_id ff l h]
 | .tup l,h=>by simp only[D.clos]at h;simp only[D.ren];rw[D.renL_id ff l h]
theorem D.renL_id{f g:Name->Name}{dom:Name->Bool}(ff:∀ nm,dom nm=true->g (f nm)=nm):∀ l:List D,D.closL dom l=true->D.renL g (D.renL f l)=l
 |[],_=>rfl
 |d::r,h=>by
  simp only[D.closL,Bool.and_eq_true]at h
  simp only[D.renL];rw[D.ren_id ff d h.1,D.renL_id ff r h.2]
end
theorem O.ren_id{f g:Name->Name}{dom:Name->Bool}(ff:∀ nm,dom nm=true->g (f nm)=nm)(o:O)(h:O.clos dom o=true):(o.ren f).ren g=o:=by
 cases o with
 |box cs=>simp only[O.clos]at h;simp only[O.ren];rw[D.renL_id ff cs h]
 |loop env ps asg body st aW=>
  simp only[O.clos]at h
  simp only[O.ren,List.map_map,O.loop.injEq,and_true]
  refine List.ext_getElem (by simp) fun i h1 h2=>?_
  have :=ej (l:=env.map (·.d)) (i:=i) (by simpa using h2) h
  simp only[List.getElem_map,Function.comp_apply,E.ren]at this |-
  rw[D.ren_id ff _ this]
 |_=>rfl
mutual
def tN:D->List Name
 | .ref nm _=>[nm]
 | .msl nm _=>[nm]
 | .aref nm _ _ _=>[nm]
 | .map nm=>[nm]
 | .yld nm=>[nm]
 | .clo _ a b=>gA a++gA b
 | .agg l=>gA l
 | .tup l=>gA l
 |_=>[]
def gA:List D->List Name
 |[]=>[]
 |d::r=>tN d++gA r
end
def yS:O->List Name
 | .box cs=>gA cs
 | .loop env _ _ _ _ _=>gA (env.map (·.d))
 |_=>[]
def dG(L:List Name)(nm:Name):Bool:=L.any fun x=>x==nm
def fQ(obj:Name->Option O):Nat->List Name->List Name->List Name
 | 0,_,acc=>acc
 |_+1,[],acc=>acc
 |n+1,x::todo,acc=>if dG acc x=true then fQ obj n todo acc else fQ obj n ((match obj x with | some o=>yS o | none=>[])++todo) (acc++[x])
def reach(obj:Name->Option O)(ds:List D):List Name:=fQ obj 3000 (gA ds) []
theorem lH{L:List Name}{nm:Name}:dG L nm=true↔nm∈L:=by
 simp only[dG,List.any_eq_true,beq_iff_eq]
 exact⟨fun ⟨x,h,e⟩=>e▸h,fun h=>⟨nm,h,rfl⟩⟩
theorem tw{obj:Name->Option O}:∀ (n:Nat) (todo acc:List Name),∀ nm∈acc,nm∈fQ obj n todo acc
 | 0,_,_,_,h=>h
 |_+1,[],_,_,h=>h
 |n+1,x::todo,acc,nm,h=>by
  simp only[fQ]
  split
  ·exact tw n _ _ nm h
  ·exact tw n _ _ nm (by simp[h])
theorem qf{obj:Name->Option O}:∀ (n:Nat) (todo acc:List Name),acc.Nodup->(fQ obj n todo acc).Nodup
 | 0,_,_,h=>h
 |_+1,[],_,h=>h
 |n+1,x::todo,acc,h=>by
  simp only[fQ]
  split
  ·exact qf n _ _ h
  ·rename_i hx
   refine qf n _ _ (List.nodup_append.2 ⟨h,by simp,fun a ha b hb=>?_⟩)
   simp only[List.mem_singleton]at hb
   subst hb
   rintro rfl
   exact hx (lH.2 ha)
theorem tv{obj obj2:Name->Option O}:∀ (n:Nat) (todo acc:List Name),a7 (fQ obj n todo acc) obj obj2->fQ obj2 n todo acc=fQ obj n todo acc
 | 0,_,_,_=>rfl
 |_+1,[],_,_=>rfl
 |n+1,x::todo,acc,h=>by
  simp only[fQ]at h |-
  split
  ·rename_i hx;rw[if_pos hx]at h;exact tv n _ _ h
  ·rename_i hx
   rw[if_neg hx]at h
   have aO:obj2 x=obj x:=h x (tw n _ _ x (by simp))
   rw[aO]
   exact tv n _ _ h
def idx:List Name->Name->Nat
 |[],_=>0
 |x::r,nm=>if x=nm then 0 else idx r nm+1
def cin(L:List Name)(nm:Name):Name:=[idx L nm,1]
def cout(L:List Name)(t:Name):Name->Name
 |[i,1]=>L.getD i []
 |x=>x++t
def bL:Name->Bool
 |[_,1]=>true
 |_=>false
theorem ni:∀ {L:List Name} {nm:Name},nm∈L->∃ h:idx L nm<L.length,L[idx L nm]=nm
 |x::r,nm,h=>by
  simp only[idx]
  by_cases e:x=nm
  ·subst e;simp
  ·simp only[if_neg e]
   obtain⟨h1,h2⟩:=ni (L:=r) (nm:=nm) (by rcases List.mem_cons.1 h with h | h; · exact(e h.symm).elim
                                         ·exact h)
   exact⟨by simp;omega,by simpa using h2⟩
theorem Qp{L:List Name}{t nm:Name}(h:nm∈L):cout L t (cin L nm)=nm:=by
 obtain⟨h1,h2⟩:=ni h
 show L.getD (idx L nm) []=nm
 rw[List.getD_eq_getElem?_getD,List.getElem?_eq_getElem h1];simpa using h2
theorem nU{L:List Name}{t x:Name}(h:bL x=false):cout L t x=x++t:=by
 unfold cout
 split
 ·simp[bL]at h
 ·rfl
theorem CT{x:Name}:bL x=true↔∃ i,x=[i,1]:=by
 constructor
 ·intro h
  unfold bL at h
  split at h
  ·exact⟨_,rfl⟩
  ·cases h
 ·rintro⟨i,rfl⟩;rfl
theorem yD(i:Nat):own [0] [i,1]=false:=by simp[own]
theorem Nr{L:List Name}(hn:L.Nodup){i:Nat}(h:i<L.length):idx L L[i]=i:=by
 obtain⟨h1,h2⟩:=ni (List.getElem_mem h)
 exact(List.getElem_inj hn).1 h2
structure Out where
 upd:List (Nat×O)
 new:List (Name×O)
 d:D
 deriving Inhabited
def dQ:List (Nat×O)->Nat->O->O
 |[],_,o=>o
 |(j,o')::r,i,o=>dQ r i (if j=i then o' else o)
def bP(L:List Name)(t:Name):List (Nat×O)->(Name->Option O)->(Name->Option O)
 |[],obj=>obj
 |(i,o)::r,obj=>bP L t r (upd obj (L.getD i []) (some (o.ren (cout L t))))
def ct(L:List Name)(t:Name):List (Name×O)->(Name->Option O)->(Name->Option O)
 |[],obj=>obj
 |(x,o)::r,obj=>ct L t r (upd obj (x++t) (some (o.ren (cout L t))))
theorem yq{L:List Name}{t:Name}(hn:L.Nodup):∀ (l:List (Nat×O)) (obj:Name->Option O) {i:Nat} (h:i<L.length) (o:O) (_:(l.all fun x=>decide (x.1<L.length))=true) (_:obj L[i]=some (o.ren (cout L t))),
 bP L t l obj L[i]=some ((dQ l i o).ren (cout L t))
 |[],obj,i,h,o,_,ho=>ho
 |(j,o')::r,obj,i,h,o,hl,ho=>by
  simp only[List.all_cons,Bool.and_eq_true,decide_eq_true_eq]at hl
  simp only[bP,dQ]
  refine yq hn r _ h _ hl.2 ?_
  have e:L.getD j []=L[j]:=by rw[List.getD_eq_getElem?_getD,List.getElem?_eq_getElem hl.1];rfl
  rw[e]
  by_cases hj:j=i
  ·subst hj;rw[aD,if_pos rfl]
  ·rw[aU _ _ _ (fun e'=>hj ((List.getElem_inj hn).1 e').symm),if_neg hj];exact ho
theorem tz{L:List Name}{t:Name}:∀ (l:List (Nat×O)) (obj:Name->Option O) {nm:Name} (_:(l.all fun x=>decide (x.1<L.length))=true) (_:nm∉L),bP L t l obj nm=obj nm
 |[],_,_,_,_=>rfl
 |(j,o')::r,obj,nm,hl,hn=>by
  simp only[List.all_cons,Bool.and_eq_true,decide_eq_true_eq]at hl
  simp only[bP]
  rw[tz r _ hl.2 hn]
  refine aU _ _ _ ?_
  rintro rfl
  refine hn ?_
  rw[List.getD_eq_getElem?_getD,List.getElem?_eq_getElem hl.1];simp
theorem ow{L:List Name}{t:Name}:∀ (l:List (Name×O)) (obj:Name->Option O) {nm:Name} (_:∀ x∈l,nm≠x.1++t),ct L t l obj nm=obj nm
 |[],_,_,_=>rfl
 |(x,o')::r,obj,nm,hl=>by
  simp only[ct]
  rw[ow r _ fun y hy=>hl y (by simp[hy])]
  exact aU _ _ _ (hl (x,o') (by simp))
theorem yr{L:List Name}{t:Name}:∀ (l:List (Name×O)) (obj:Name->Option O) (_:(l.map (·.1)).Nodup) {x:Name} {o:O} (_:(x,o)∈l),ct L t l obj (x++t)=some (o.ren (cout L t))
 |(y,o')::r,obj,hn,x,o,h=>by
  simp only[List.map_cons,List.nodup_cons]at hn
  simp only[ct]
  rcases List.mem_cons.1 h with h | h
  ·cases h
   rw[ow r _ fun z hz e=>hn.1 (by
    have :_=z.1:=List.append_cancel_right e
    rw[this];exact List.mem_map_of_mem hz)]
   exact aD _ _ _
  ·exact yr r _ hn.2 h
def c4(n:Nat)(new:List (Name×O)):Name->Bool
 |[i,1]=>decide (i<n)
 |x=>new.any fun y=>y.1==x
section
variable {G:Ghost} {φ:Name->Loc} {m:Mem} {σ:S} {a:Act} {w:World}
def b7(L:List Name)(obj:Name->Option O)(nm:Name):O:=match obj nm with
 |some o=>o.ren (cin L)
 |none=>.fbox []
def shut(obj:Name->Option O)(L:List Name):Bool:=L.all fun nm=>match obj nm with
 |some o=>O.clos (dG L) o
 |none=>false
def eX(L:List Name)(obj:Name->Option O):Name->Option O
 |[i,1]=>if i<L.length then some (b7 L obj (L.getD i []))else none
 |_=>none
def gR(L:List Name)(φ:Name->Loc):Name->Loc
 |[i,1]=>φ (L.getD i [])
 |_=>⟨0,0,0,true,none⟩
def jh(L:List Name)(φ:Name->Loc)(obj:Name->Option O)(b:Nat):Prop:=∃ nm∈L,holds φ obj nm/\(φ nm).blk=b
theorem oa{obj:Name->Option O}{L:List Name}(h:shut obj L=true){nm:Name}(hn:nm∈L):∃ o,obj nm=some o/\O.clos (dG L) o=true:=by
 have :=List.all_eq_true.1 h nm hn
 cases ho:obj nm with
 |none=>simp[ho]at this
 |some o=>simp only[ho]at this;exact⟨o,rfl,this⟩
theorem jP{L:List Name}{i:Nat}(h:i<L.length):L.getD i []=L[i]:=by rw[List.getD_eq_getElem?_getD,List.getElem?_eq_getElem h];rfl
theorem Jl{L:List Name}{obj:Name->Option O}{nm:Name}(hn:nm∈L):eX L obj (cin L nm)=some (b7 L obj nm):=by
 obtain⟨h1,h2⟩:=ni hn
 show (if idx L nm<L.length then some (b7 L obj (L.getD (idx L nm) []))else none)=_
 rw[if_pos h1,jP h1,h2]
theorem GH{L:List Name}{φ:Name->Loc}{nm:Name}(hn:nm∈L):gR L φ (cin L nm)=φ nm:=by
 obtain⟨h1,h2⟩:=ni hn
 show φ (L.getD (idx L nm) [])=_
 rw[jP h1,h2]
theorem qe{L:List Name}{obj:Name->Option O}:pS (cin L) φ (gR L φ) obj (eX L obj) (dG L):=by
 intro nm o hd ho
 have hn:=lH.1 hd
 refine⟨b7 L obj nm,Jl hn,.inl ⟨?_,GH hn,?_⟩⟩
 ·simp only[b7,ho];exact O.len_ren _ _
 ·simp only[b7,ho];exact O.sz_ren _ _
theorem tH{L:List Name}{obj:Name->Option O}{x:Name}{o:O}(h:eX L obj x=some o):∃ (i:Nat) (hi:i<L.length),x=[i,1]/\o=b7 L obj L[i]:=by
 unfold eX at h
 split at h
 ·rename_i i
  split at h
  ·rename_i hi
   cases h
   exact⟨i,hi,rfl,by rw[jP hi]⟩
  ·cases h
 ·cases h
def n3(w:World)(L:List Name)(φ:Name->Loc)(obj:Name->Option O):Prop:=pP w/\∀ q∈s6,¬ jh L φ obj q.1
def mo(w:World)(m:Mem)(L:List Name)(φ:Name->Loc)(obj:Name->Option O)(rd:Option Nat)(h:∀ l,rd=some l->¬ jh L φ obj l/\∃ r,w.heap[l]?=some (.loop r))(ht:n3 w L φ obj):Ghost:=
 ⟨w,m,jh L φ obj,rd,gR L φ,eX L obj,h,ht⟩
theorem p6(hC:ay G φ m σ a w)(L:List Name):n3 w L φ σ.obj:=by
 refine⟨hC.fr.tab,fun q hq=>?_⟩
 rintro⟨nm,_,hh,e⟩
 obtain⟨T,f,h1⟩:=G.tab.1 q hq
 have h2:=(Array.getElem?_eq_some_iff.1 h1).1
 rcases hC.own nm hh with h3 | h3
 ·omega
 ·rw[e]at h3;exact G.tab.2 q hq h3
theorem rr{L:List Name}{obj:Name->Option O}(hL:shut obj L=true){x:Name}(h:holds (gR L φ) (eX L obj) x):∃ (i:Nat) (hi:i<L.length),x=[i,1]/\holds φ obj L[i]:=by
 obtain⟨o,h1,h2,h3⟩:=h
 obtain⟨i,hi,rfl,rfl⟩:=tH h1
 obtain⟨o',h4,_⟩:=oa hL (List.getElem_mem hi)
 refine⟨i,hi,rfl,o',h4,?_,?_⟩
 ·simp only[b7,h4,O.mut_ren]at h2;exact h2
 ·have:gR L φ [i,1]=φ L[i]:=by show φ (L.getD i [])=_;rw[jP hi]
  rw[this]at h3;exact h3
theorem Es(hC:ay G φ m σ a w){L:List Name}(hn:L.Nodup)(hL:shut σ.obj L=true){rd:Option Nat}(jG:∀ l,rd=some l->¬ jh L φ σ.obj l/\∃ r,w.heap[l]?=some (.loop r))
 {nt b0:Nat} {env:Nat->E} {tmps:Array Value} (hs:tmps.size=nt) (he:∀ t,bn (gR L φ) (eX L σ.obj) m (env t) (tmps.getD t undef)):
 ay (mo w m L φ σ.obj rd jG (p6 hC L)) (gR L φ) m ⟨nt,env,eX L σ.obj,[0],b0⟩ { tmps:=tmps,defers:=[] } w:=by
 have hφ:∀ (i:Nat) (hi:i<L.length),gR L φ [i,1]=φ L[i]:=fun i hi=>by show φ (L.getD i [])=_;rw[jP hi]
 constructor
 ·exact he
 ·exact hs
 ·exact⟨[],rfl,by simp,by simp⟩
 ·intro x o hx
  obtain⟨i,hi,rfl,rfl⟩:=tH hx
  obtain⟨o',h4,h5⟩:=oa hL (List.getElem_mem hi)
  rw[hφ i hi]
  simp only[b7,h4]
  exact(hC.objs _ _ h4).ren (Mem.le_refl m) qe h5 fun _ _=>rfl
 ·exact hC.mem
 ·intro x hx off
  obtain⟨i,hi,rfl,h⟩:=rr hL hx
  rw[hφ i hi]
  exact hC.apart _ h off
 ·intro x y hx hy e
  obtain⟨i,hi,rfl,h⟩:=rr hL hx
  obtain⟨j,hj,rfl,h'⟩:=rr hL hy
  rw[hφ i hi,hφ j hj]at e
  have :=(List.getElem_inj hn).1 (hC.inj _ _ h h' e)
  rw[this]
 ·intro x hx
  obtain⟨i,hi,rfl,h⟩:=rr hL hx
  rw[hφ i hi]
  exact .inr ⟨_,List.getElem_mem hi,h,rfl⟩
 ·exact⟨rfl,rfl,rfl,Nat.le_refl _,fun _ _ _=>rfl⟩
 ·intro b off v h;exact .inl h
 ·refine⟨fun x o hx=>?_,Ext.refl _ _⟩
  obtain⟨i,hi,rfl,_⟩:=tH hx
  exact yD i
structure GG (σ:S) (os:List O) (o:Out):Prop where
 objs:∀ i (h:i<os.length),σ.obj [i,1]=some (dQ o.upd i os[i])
 news:∀ x∈o.new,σ.obj x.1=some x.2
 cd:D.clos (c4 os.length o.new) o.d=true
 cu:(o.upd.all fun x=>O.clos (c4 os.length o.new) x.2&&decide (x.1<os.length))=true
 cn:(o.new.all fun x=>O.clos (c4 os.length o.new) x.2&&!bL x.1)=true
 nd:(o.new.map (·.1)).Nodup
def fresh(obj:Name->Option O)(t:Name)(new:List (Name×O)):Bool:=new.all fun x=>(obj (x.1++t)).isNone
theorem P4{n:Nat}{new:List (Name×O)}{x:Name×O}(h:bL x.1=false)(hx:x∈new):c4 n new x.1=true:=by
 have key:∀ nm:Name,bL nm=false->c4 n new nm=new.any fun y=>y.1==nm:=by
  intro nm h
  unfold c4
  split
  ·simp[bL]at h
  ·rfl
 rw[key _ h]
 exact List.any_eq_true.2 ⟨x,hx,by simp⟩
theorem zn{dom:Name->Bool}:∀ (l:List (Nat×O)) (i:Nat) (o:O),O.clos dom o=true->(∀ x∈l,O.clos dom x.2=true)->O.clos dom (dQ l i o)=true
 |[],_,_,h,_=>h
 |(j,o')::r,i,o,h,hl=>by
  simp only[dQ]
  refine zn r i _ ?_ fun x hx=>hl x (by simp[hx])
  split
  ·exact hl (j,o') (by simp)
  ·exact h
mutual
theorem clos_ren{f:Name->Name}{dom ei:Name->Bool}(hf:∀ nm,dom nm=true->ei (f nm)=true):∀ d:D,D.clos dom d=true->D.clos ei (d.ren f)=true
 | .v _,_=>by simp only[D.ren,D.clos]
 | .nilsl,_=>by simp only[D.ren,D.clos]
 | .nilmap,_=>by simp only[D.ren,D.clos]
 | .any,_=>by simp only[D.ren,D.clos]
 | .ref nm _,h=>hf nm h
 | .msl nm _,h=>hf nm h
 | .aref nm _ _ _,h=>hf nm h
 | .map nm,h=>hf nm h
 | .yld nm,h=>hf nm h
 | .clo _ a b,h=>by
   simp only[D.clos,Bool.and_eq_true]at h
   simp only[D.ren,D.clos,Bool.and_eq_true]
   exact⟨mv hf a h.1,mv hf b h.2⟩
 | .agg l,h=>by simp only[D.clos]at h;simp only[D.ren,D.clos];exact mv hf l h
 | .tup l,h=>by simp only[D.clos]at h;simp only[D.ren,D.clos];exact mv hf l h
theorem mv{f:Name->Name}{dom ei:Name->Bool}(hf:∀ nm,dom nm=true->ei (f nm)=true):∀ l:List D,D.closL dom l=true->D.closL ei (D.renL f l)=true
 |[],_=>by simp only[D.renL,D.closL]
 |d::r,h=>by
  simp only[D.closL,Bool.and_eq_true]at h
  simp only[D.renL,D.closL,Bool.and_eq_true]
  exact⟨clos_ren hf d h.1,mv hf r h.2⟩
end
theorem O.clos_ren{f:Name->Name}{dom ei:Name->Bool}(hf:∀ nm,dom nm=true->ei (f nm)=true)(o:O)(h:O.clos dom o=true):O.clos ei (o.ren f)=true:=by
 cases o with
 |box cs=>simp only[O.clos]at h;simp only[O.ren,O.clos];exact mv hf cs h
 |loop env ps asg body st aW=>
  simp only[O.clos]at h
  simp only[O.ren,O.clos]
  have :=mv hf _ h
  rw[ft,List.map_map]at this
  rw[List.map_map]
  exact this
 |_=>rfl
theorem Er(hC:ay G φ m σ a w){L:List Name}(hn:L.Nodup)(hL:shut σ.obj L=true){rd:Option Nat}{jG:∀ l,rd=some l->¬ jh L φ σ.obj l/\∃ r,w.heap[l]?=some (.loop r)}
 {ht:n3 w L φ σ.obj} {φ2:Name->Loc} {m2:Mem} {σ2:S} {a2:Act} {w2:World} (cS:ay (mo w m L φ σ.obj rd jG ht) φ2 m2 σ2 a2 w2) {o:Out} (hE:GG σ2 (L.map (b7 L σ.obj)) o) {t:Name} (hf:fresh σ.obj t o.new=true):
 ∃ φ' m',Mem.le m m'/\ay G φ' m' { σ with obj:=ct L t o.new (bP L t o.upd σ.obj) } a w2/\
   Ext φ φ' σ.obj (ct L t o.new (bP L t o.upd σ.obj))/\
   (∀ d u,al φ2 σ2.obj m2 d u->D.clos (c4 L.length o.new) d=true->al φ' (ct L t o.new (bP L t o.upd σ.obj)) m' (d.ren (cout L t)) u):=by
 have hlen:(L.map (b7 L σ.obj)).length=L.length:=by simp
 obtain⟨h1,h2,h3,h4,h5,h6⟩:=hE
 rw[hlen]at h3 h4 h5
 have hu:(o.upd.all fun x=>decide (x.1<L.length))=true:=List.all_eq_true.2 fun x hx=>by
  have :=List.all_eq_true.1 h4 x hx
  simp only[Bool.and_eq_true]at this;exact this.2
 have ra:∀ x∈o.upd,O.clos (c4 L.length o.new) x.2=true:=fun x hx=>by
  have :=List.all_eq_true.1 h4 x hx
  simp only[Bool.and_eq_true]at this;exact this.1
 have ry:∀ x∈o.new,O.clos (c4 L.length o.new) x.2=true:=fun x hx=>by
  have :=List.all_eq_true.1 h5 x hx
  simp only[Bool.and_eq_true]at this;exact this.1
 have vk:∀ x∈o.new,bL x.1=false:=fun x hx=>by
  have :=List.all_eq_true.1 h5 x hx
  simp only[Bool.and_eq_true,Bool.not_eq_true']at this;exact this.2
 have bF:∀ x∈o.new,σ.obj (x.1++t)=none:=fun x hx=>by
  have :=List.all_eq_true.1 hf x hx
  simpa using this
 have Pu:∀ nm∈L,∃ o,σ.obj nm=some o:=fun nm h=>let ⟨o,h,_⟩:=oa hL h;⟨o,h⟩
 have rO:∀ nm∈L,∀ x∈o.new,nm≠x.1++t:=fun nm h x hx e=>by
  obtain⟨o',ho⟩:=Pu nm h
  rw[e,bF x hx]at ho;cases ho
 have DY:∀ nm,dG L nm=true->cout L t (cin L nm)=nm:=fun nm h=>Qp (lH.1 h)
 generalize dI:ct L t o.new (bP L t o.upd σ.obj)=obj'
 have ru:∀ (i:Nat) (hi:i<L.length),obj' L[i]=some ((dQ o.upd i (b7 L σ.obj L[i])).ren (cout L t)):=fun i hi=>by
  rw[<-dI,ow _ _ (rO _ (List.getElem_mem hi))]
  refine yq hn _ _ hi _ hu ?_
  obtain⟨o',ho,hc⟩:=oa hL (List.getElem_mem hi)
  simp only[b7,ho]
  rw[O.ren_id DY o' hc]
 have vi:∀ x∈o.new,obj' (x.1++t)=some (x.2.ren (cout L t)):=fun x hx=>by rw[<-dI];exact yr _ _ h6 hx
 have vh:∀ nm,nm∉L->(∀ x∈o.new,nm≠x.1++t)->obj' nm=σ.obj nm:=fun nm h h'=>by rw[<-dI,ow _ _ h',tz _ _ hu h]
 let φ':Name->Loc:=fun nm=>if nm∈L then φ2 (cin L nm)else match o.new.find? (fun x=>x.1++t==nm)with
  |some x=>φ2 x.1
  |none=>φ nm
 have oJ:∀ (i:Nat) (hi:i<L.length),φ' L[i]=φ2 [i,1]:=fun i hi=>by
  show (if L[i]∈L then φ2 (cin L L[i])else _)=_
  rw[if_pos (List.getElem_mem hi)]
  show φ2 [idx L L[i],1]=_
  rw[Nr hn hi]
 have qW:∀ x∈o.new,φ' (x.1++t)=φ2 x.1:=fun x hx=>by
  show (if x.1++t∈L then _ else _)=_
  rw[if_neg fun h=>rO _ h x hx rfl]
  cases pc:o.new.find? (fun y=>y.1++t==x.1++t)with
  |none=>have:=List.find?_eq_none.1 pc x hx;simp at this
  |some y=>
   have :=List.find?_some pc
   simp only[beq_iff_eq]at this
   simp only[List.append_cancel_right this]
 have qV:∀ nm,nm∉L->(∀ x∈o.new,nm≠x.1++t)->φ' nm=φ nm:=fun nm h h'=>by
  show (if nm∈L then _ else _)=_
  rw[if_neg h]
  cases pc:o.new.find? (fun y=>y.1++t==nm)with
  |none=>rfl
  |some y=>
   have :=List.find?_some pc
   simp only[beq_iff_eq]at this
   exact(h' y (List.mem_of_find?_eq_some pc) this.symm).elim
 let m':Mem:=fun b off=>match m2 b off with | some c=>some c | none=>m b off
 have rp:=cS.own
 have l7:∀ b,jh L φ σ.obj b->b<w.heap.size:=fun b ⟨nm,h,⟨o',k1,k2,k3⟩,e⟩=>by rw[<-e];exact(hC.objs nm o' k1).lt k2 k3
 have vu:Mem.le m m':=by
  intro b off v h
  show (match m2 b off with | some c=>some c | none=>m b off)=some v
  cases hq:m2 b off with
  |none=>exact h
  |some c=>
   have k1:=cS.mem b off c hq
   have k2:=hC.mem b off v h
   rw[kV (cS.fr.block b (jb k2) fun ⟨nm,_,k3,e⟩=>by
    have :=hC.apart nm k3 off;rw[e,h]at this;cases this)]at k1
   have k3:World.cell? w ⟨b,off,none⟩=some c:=k1
   rw[k2]at k3;exact k3.symm
 have vt:Mem.le m2 m':=by
  intro b off v h
  show (match m2 b off with | some c=>some c | none=>m b off)=some v
  rw[h]
 have rB:∀ b off v,m' b off=some v->m2 b off=some v\/(m2 b off=none/\m b off=some v):=by
  intro b off v h
  have h':(match m2 b off with | some c=>some c | none=>m b off)=some v:=h
  cases hq:m2 b off with
  |none=>rw[hq]at h';exact .inr ⟨rfl,h'⟩
  |some c=>rw[hq]at h';exact .inl h'
 have vQ:∀ x,c4 L.length o.new x=true->(∃ (i:Nat) (hi:i<L.length),x=[i,1])\/(bL x=false/\∃ y∈o.new,y.1=x):=by
  intro x hx
  unfold c4 at hx
  split at hx
  ·rename_i i
   exact .inl ⟨i,by simpa using hx,rfl⟩
  ·obtain⟨y,hy,e⟩:=List.any_eq_true.1 hx
   simp only[beq_iff_eq]at e
   subst e
   exact .inr ⟨vk y hy,y,hy,rfl⟩
 have nD:∀ (i:Nat) (hi:i<L.length),cout L t [i,1]=L[i]:=fun i hi=>jP hi
 have kK:∀ (i:Nat) (hi:i<L.length),σ2.obj [i,1]=some (dQ o.upd i (b7 L σ.obj L[i])):=fun i hi=>by
  have :=h1 i (by simpa using hi)
  simpa using this
 have uX:pS (cout L t) φ2 φ' σ2.obj obj' (c4 L.length o.new):=by
  intro x q hd hq
  rcases vQ x hd with⟨i,hi,rfl⟩ | ⟨hi,y,hy,rfl⟩
  ·rw[nD i hi,ru i hi,oJ i hi]
   rw[kK i hi]at hq;cases hq
   exact⟨_,rfl,.inl ⟨O.len_ren _ _,rfl,O.sz_ren _ _⟩⟩
  ·rw[nU hi,vi y hy,qW y hy]
   rw[h2 y hy]at hq;cases hq
   exact⟨_,rfl,.inl ⟨O.len_ren _ _,rfl,O.sz_ren _ _⟩⟩
 have OM:∀ (i:Nat) (hi:i<L.length),O.clos (c4 L.length o.new) (dQ o.upd i (b7 L σ.obj L[i]))=true:=by
  intro i hi
  refine zn _ _ _ ?_ ra
  obtain⟨o',ho,hc⟩:=oa hL (List.getElem_mem hi)
  simp only[b7,ho]
  refine O.clos_ren (fun nm hd=>?_) o' hc
  obtain⟨k1,_⟩:=ni (lH.1 hd)
  show decide (idx L nm<L.length)=true
  simpa using k1
 have rG:Ext φ φ' σ.obj obj':=by
  intro nm q hq
  by_cases cP:nm∈L
  ·obtain⟨i,hi,rfl⟩:=List.getElem_of_mem cP
   obtain⟨tK,k1,k2⟩:=cS.kept.2 [i,1] (b7 L σ.obj L[i]) (by
    show eX L σ.obj [i,1]=_
    show (if i<L.length then _ else _)=_
    rw[if_pos hi,jP hi])
   have Na:tK=dQ o.upd i (b7 L σ.obj L[i]):=by rw[kK i hi]at k1;exact(Option.some.inj k1).symm
   subst Na
   have Nx:gR L φ [i,1]=φ L[i]:=by show φ (L.getD i [])=_;rw[jP hi]
   have bG:(b7 L σ.obj L[i]).len?=q.len?/\(b7 L σ.obj L[i]).sz=q.sz:=by
    simp only[b7,hq];exact⟨O.len_ren _ _,O.sz_ren _ _⟩
   refine⟨_,ru i hi,?_⟩
   rw[O.len_ren,O.sz_ren,oJ i hi]
   rcases k2 with⟨a1,a2,a3⟩ | ⟨n,n',a1,a2,a3⟩
   ·exact .inl ⟨a1.trans bG.1,(a2:φ2 [i,1]=gR L φ [i,1]).trans Nx,a3.trans bG.2⟩
   ·exact .inr ⟨n,n',bG.1▸a1,a2,a3⟩
  ·have kF:∀ x∈o.new,nm≠x.1++t:=fun x hx e=>by rw[e,bF x hx]at hq;cases hq
   exact⟨q,by rw[vh nm cP kF];exact hq,.inl ⟨rfl,qV nm cP kF,rfl⟩⟩
 have nG:∀ nm,holds φ' obj' nm->(∃ x,holds φ2 σ2.obj x/\φ' nm=φ2 x/\nm=cout L t x/\c4 L.length o.new x=true)\/(nm∉L/\(∀ x∈o.new,nm≠x.1++t)/\holds φ σ.obj nm/\φ' nm=φ nm):=by
  rintro nm ⟨q,k1,k2,k3⟩
  by_cases cP:nm∈L
  ·obtain⟨i,hi,rfl⟩:=List.getElem_of_mem cP
   left
   rw[ru i hi]at k1;cases k1
   rw[O.mut_ren]at k2
   rw[oJ i hi]at k3
   exact⟨[i,1],⟨_,kK i hi,k2,k3⟩,oJ i hi,(nD i hi).symm,by show decide (i<L.length)=true;simpa using hi⟩
  ·by_cases kF:∃ x∈o.new,nm=x.1++t
   ·obtain⟨x,hx,rfl⟩:=kF
    left
    rw[vi x hx]at k1;cases k1
    rw[O.mut_ren]at k2
    rw[qW x hx]at k3
    refine⟨x.1,⟨_,h2 x hx,k2,k3⟩,qW x hx,(nU (vk x hx)).symm,?_⟩
    exact P4 (vk x hx) hx
   ·have lX:∀ x∈o.new,nm≠x.1++t:=fun x hx e=>kF ⟨x,hx,e⟩
    right
    rw[vh nm cP lX]at k1
    rw[qV nm cP lX]at k3
    exact⟨cP,lX,⟨q,k1,k2,k3⟩,qV nm cP lX⟩
 have rq:∀ nm,nm∉L->holds φ σ.obj nm->(φ nm).blk<w.heap.size/\¬ jh L φ σ.obj (φ nm).blk:=by
  intro nm cP hh
  obtain⟨q,k1,k2,k3⟩:=hh
  refine⟨(hC.objs nm q k1).lt k2 k3,fun ⟨x,k4,k5,k6⟩=>?_⟩
  exact cP (hC.inj _ _ k5 ⟨q,k1,k2,k3⟩ k6▸k4)
 have adi:∀ x y,c4 L.length o.new x=true->c4 L.length o.new y=true->cout L t x=cout L t y->x=y:=by
  intro x y hx hy e
  rcases vQ x hx with⟨i,hi,rfl⟩ | ⟨k1,x',aO,rfl⟩<;>rcases vQ y hy with⟨j,hj,rfl⟩ | ⟨k2,y',NF,rfl⟩
  ·rw[nD i hi,nD j hj]at e
   rw[(List.getElem_inj hn).1 e]
  ·rw[nD i hi,nU k2]at e
   exact(rO _ (List.getElem_mem hi) y' NF e).elim
  ·rw[nD j hj,nU k1]at e
   exact(rO _ (List.getElem_mem hj) x' aO e.symm).elim
  ·rw[nU k1,nU k2]at e
   exact List.append_cancel_right e
 refine⟨φ',m',vu,?_,rG,fun d u hd hc=>hd.renx vt uX hc⟩
 constructor
 ·exact fun x=>(hC.tmps x).ext vu rG
 ·exact hC.size
 ·obtain⟨ds,k1,k2,k3⟩:=hC.defers
  refine⟨ds,k1,k2,fun D hD=>⟨(k3 D hD).1,?_⟩⟩
  have k4:=(k3 D hD).2
  rw[cS.fr.block D (Array.getElem?_eq_some_iff.1 k4).1 fun ⟨x,_,⟨q,k5,k6,k7⟩,k8⟩=>(hC.objs x q k5).notDef k6 k7 _ (by rw[k8];exact k4)]
  exact k4
 ·intro nm q hq
  by_cases cP:nm∈L
  ·obtain⟨i,hi,rfl⟩:=List.getElem_of_mem cP
   have bu:obj' L[i]=some q:=hq
   rw[ru i hi]at bu;cases bu
   rw[oJ i hi]
   exact(cS.objs _ _ (kK i hi)).ren vt uX (OM i hi) fun _ _=>rfl
  ·by_cases kF:∃ x∈o.new,nm=x.1++t
   ·obtain⟨x,hx,rfl⟩:=kF
    have bu:obj' (x.1++t)=some q:=hq
    rw[vi x hx]at bu;cases bu
    rw[qW x hx]
    exact(cS.objs _ _ (h2 x hx)).ren vt uX (ry x hx) fun _ _=>rfl
   ·have lX:∀ x∈o.new,nm≠x.1++t:=fun x hx e=>kF ⟨x,hx,e⟩
    have bu:obj' nm=some q:=hq
    rw[vh nm cP lX]at bu
    rw[qV nm cP lX]
    refine(hC.objs nm q bu).ext vu rG fun k2 k3=>?_
    obtain⟨k4,k5⟩:=rq nm cP ⟨q,bu,k2,k3⟩
    exact cS.fr.block _ k4 k5
 ·intro b off v h
  rcases rB b off v h with h | ⟨Dv,h⟩
  ·exact cS.mem b off v h
  ·have k2:=hC.mem b off v h
   rw[kV (cS.fr.block b (jb k2) fun ⟨nm,_,k3,e⟩=>by
    have :=hC.apart nm k3 off;rw[e,h]at this;cases this)]
   exact k2
 ·intro nm hh off
  rcases nG nm hh with⟨x,k1,k2,_,_⟩ | ⟨k1,k2,k3,k4⟩
  ·rw[k2]
   cases hq:m' (φ2 x).blk off with
   |none=>rfl
   |some v=>
    rcases rB _ _ _ hq with h | ⟨_,h⟩
    ·have:=cS.apart x k1 off;rw[h]at this;cases this
    ·rcases rp x k1 with h' | ⟨fT,k5,k6,k7⟩
     ·have:=jb (hC.mem _ _ _ h)
      have eg:w.heap.size<=(φ2 x).blk:=h'
      omega
     ·have:=hC.apart fT k6 off
      rw[k7,h]at this;cases this
  ·rw[k4]
   obtain⟨k5,k6⟩:=rq nm k1 k3
   cases hq:m' (φ nm).blk off with
   |none=>rfl
   |some v=>
    rcases rB _ _ _ hq with h | ⟨_,h⟩
    ·rcases cS.fresh _ _ _ h with h' | h' | h'
     ·have:=hC.apart nm k3 off
      have eg:m (φ nm).blk off=some v:=h'
      rw[eg]at this;cases this
     ·have eg:w.heap.size<=(φ nm).blk:=h'
      omega
     ·exact(k6 h').elim
    ·have:=hC.apart nm k3 off;rw[h]at this;cases this
 ·intro nm fT hh OB e
  rcases nG nm hh with⟨x,k1,k2,k3,k4⟩ | ⟨k1,k2,k3,k4⟩<;>rcases nG fT OB with⟨x',j1,j2,j3,j4⟩ | ⟨j1,j2,j3,j4⟩
  ·rw[k2,j2]at e
   rw[k3,j3,cS.inj _ _ k1 j1 e]
  ·exfalso
   rw[k2,j4]at e
   obtain⟨k5,k6⟩:=rq fT j1 j3
   rcases rp x k1 with h' | h'
   ·have eg:w.heap.size<=(φ2 x).blk:=h'
    omega
   ·rw[e]at h';exact k6 h'
  ·exfalso
   rw[k4,j2]at e
   obtain⟨k5,k6⟩:=rq nm k1 k3
   rcases rp x' j1 with h' | h'
   ·have eg:w.heap.size<=(φ2 x').blk:=h'
    omega
   ·rw[<-e]at h';exact k6 h'
  ·rw[k4,j4]at e
   exact hC.inj _ _ k3 j3 e
 ·intro nm hh
  rcases nG nm hh with⟨x,k1,k2,_,_⟩ | ⟨k1,k2,k3,k4⟩
  ·rw[k2]
   rcases rp x k1 with h' | ⟨fT,k5,k6,k7⟩
   ·exact .inl (Nat.le_trans hC.fr.size h')
   ·rw[<-k7];exact hC.own fT k6
  ·rw[k4];exact hC.own nm k3
 ·refine⟨cS.fr.os.trans hC.fr.os,cS.fr.tape.trans hC.fr.tape,cS.fr.output.trans hC.fr.output,Nat.le_trans hC.fr.size cS.fr.size,fun b hb ho=>?_⟩
  rw[cS.fr.block b (Nat.lt_of_lt_of_le hb hC.fr.size) fun ⟨nm,_,k3,e⟩=>?_]
  ·exact hC.fr.block b hb ho
  ·rcases hC.own nm k3 with h | h<;>rw[e]at h
   ·omega
   ·exact ho h
 ·intro b off v h
  rcases rB b off v h with h | ⟨_,h⟩
  ·rcases cS.fresh _ _ _ h with h' | h' | ⟨nm,_,k3,e⟩
   ·exact hC.fresh _ _ _ h'
   ·exact .inr (.inl (Nat.le_trans hC.fr.size h'))
   ·rw[<-e];exact .inr (hC.own nm k3)
  ·exact hC.fresh _ _ _ h
 ·exact⟨hC.kept.1,hC.kept.2.trans rG⟩
end
def fj:Nat->List D->List (Nat×E)
 |_,[]=>[]
 |k,x::r=>(k,⟨true,x⟩)::fj (k+1) r
theorem F2:∀ {k:Nat} {xs:List D} {t:Nat} {e:E},(t,e)∈fj k xs->∃ (i:Nat) (h:i<xs.length),t=k+i/\e=⟨true,xs[i]⟩
 |k,[],t,e,h=>by simp[fj]at h
 |k,x::r,t,e,h=>by
  simp only[fj,List.mem_cons,Prod.mk.injEq]at h
  rcases h with⟨rfl,rfl⟩ | h
  ·exact⟨0,by simp,rfl,rfl⟩
  ·obtain⟨i,hi,h1,h2⟩:=F2 h
   exact⟨i+1,by simpa using hi,by omega,by simpa using h2⟩
structure CSpec where
 pre:List O->List D->Prop
 out:List O->List D->Out
def cB(obj:Name->Option O)(ds:List D):List O:=(reach obj ds).map (b7 (reach obj ds) obj)
def cT(obj:Name->Option O)(ds:List D):List D:=D.renL (cin (reach obj ds)) ds
def CSpec.toSpec(s:CSpec):Spec where
 app obj t ds:=⟨(shut obj (reach obj ds)&&D.closL (dG (reach obj ds)) ds&&fresh obj t (s.out (cB obj ds) (cT obj ds)).new)=true/\s.pre (cB obj ds) (cT obj ds),
  (s.out (cB obj ds) (cT obj ds)).d.ren (cout (reach obj ds) t),ct (reach obj ds) t (s.out (cB obj ds) (cT obj ds)).new (bP (reach obj ds) t (s.out (cB obj ds) (cT obj ds)).upd obj)⟩
 foot obj t ds:=reach obj ds++((s.out (cB obj ds) (cT obj ds)).upd.map fun x=>(reach obj ds).getD x.1 [])++(s.out (cB obj ds) (cT obj ds)).new.map fun x=>x.1++t
 wrt obj t ds:=((s.out (cB obj ds) (cT obj ds)).upd.map fun x=>(reach obj ds).getD x.1 [])++(s.out (cB obj ds) (cT obj ds)).new.map fun x=>x.1++t
theorem mR{L:List Name}{t:Name}:∀ (l:List (Nat×O)) (obj obj2:Name->Option O) (nm:Name),bP L t l obj2 nm=if nm∈l.map (fun x=>L.getD x.1 [])then bP L t l obj nm else obj2 nm
 |[],obj,obj2,nm=>by simp[bP]
 |(i,o)::r,obj,obj2,nm=>by
  simp only[bP,List.map_cons,List.mem_cons]
  rw[mR r (upd obj (L.getD i []) (some (o.ren (cout L t)))) (upd obj2 (L.getD i []) (some (o.ren (cout L t)))) nm]
  by_cases h:nm∈r.map (fun x=>L.getD x.1 [])
  ·rw[if_pos h,if_pos (.inr h)]
  ·rw[if_neg h]
   by_cases e:nm=L.getD i []
   ·rw[if_pos (.inl e)]
    have hu:bP L t r (upd obj (L.getD i []) (some (o.ren (cout L t)))) nm=(upd obj (L.getD i []) (some (o.ren (cout L t)))) nm:=by
     rw[mR r obj _ nm,if_neg h]
    rw[hu,e,aD,aD]
   ·rw[if_neg (by simp only[not_or];exact⟨e,h⟩)]
    exact aU _ _ _ e
theorem lv{L:List Name}{t:Name}:∀ (l:List (Name×O)) (obj obj2:Name->Option O) (nm:Name),ct L t l obj2 nm=if nm∈l.map (fun x=>x.1++t)then ct L t l obj nm else obj2 nm
 |[],obj,obj2,nm=>by simp[ct]
 |(i,o)::r,obj,obj2,nm=>by
  simp only[ct,List.map_cons,List.mem_cons]
  rw[lv r (upd obj (i++t) (some (o.ren (cout L t)))) (upd obj2 (i++t) (some (o.ren (cout L t)))) nm]
  by_cases h:nm∈r.map (fun x=>x.1++t)
  ·rw[if_pos h,if_pos (.inr h)]
  ·rw[if_neg h]
   by_cases e:nm=i++t
   ·rw[if_pos (.inl e)]
    have hu:ct L t r (upd obj (i++t) (some (o.ren (cout L t)))) nm=(upd obj (i++t) (some (o.ren (cout L t)))) nm:=by
     rw[lv r obj _ nm,if_neg h]
    rw[hu,e,aD,aD]
   ·rw[if_neg (by simp only[not_or];exact⟨e,h⟩)]
    exact aU _ _ _ e
theorem jo{obj obj2:Name->Option O}{ds:List D}(h:a7 (reach obj ds) obj obj2):reach obj2 ds=reach obj ds:=tv _ _ _ h
theorem pG{obj obj2:Name->Option O}{ds:List D}(h:a7 (reach obj ds) obj obj2):cB obj2 ds=cB obj ds:=by
 unfold cB
 rw[jo h]
 exact List.map_congr_left fun nm hn=>by simp only[b7];rw[h nm hn]
theorem xa{obj obj2:Name->Option O}{ds:List D}(h:a7 (reach obj ds) obj obj2):cT obj2 ds=cT obj ds:=by
 unfold cT
 rw[jo h]
theorem th{obj obj2:Name->Option O}{L:List Name}(h:a7 L obj obj2):shut obj2 L=shut obj L:=by
 unfold shut
 refine Bool.eq_iff_iff.2 ?_
 simp only[List.all_eq_true]
 exact⟨fun k x hx=>by rw[<-h x hx];exact k x hx,fun k x hx=>by rw[h x hx];exact k x hx⟩
theorem rX{obj obj2:Name->Option O}{t:Name}{new:List (Name×O)}(h:a7 (new.map fun x=>x.1++t) obj obj2):fresh obj2 t new=fresh obj t new:=by
 unfold fresh
 refine Bool.eq_iff_iff.2 ?_
 simp only[List.all_eq_true]
 exact⟨fun k x hx=>by rw[<-h _ (List.mem_map_of_mem hx)];exact k x hx,fun k x hx=>by rw[h _ (List.mem_map_of_mem hx)];exact k x hx⟩
theorem ue{ok ok2:Prop}{d:D}{obj obj2:Name->Option O}{L:List Name}{t:Name}{o:Out}(aa:ok2=ok)
 (ha:a7 ((o.upd.map fun x=>L.getD x.1 [])++o.new.map fun x=>x.1++t) obj obj2):
 bj ⟨ok,d,ct L t o.new (bP L t o.upd obj)⟩ ⟨ok2,d,ct L t o.new (bP L t o.upd obj2)⟩ obj obj2 ((o.upd.map fun x=>L.getD x.1 [])++o.new.map fun x=>x.1++t):=by
 refine⟨aa,rfl,fun nm=>?_,fun nm hn=>?_⟩
 ·show ct L t o.new (bP L t o.upd obj2) nm=if nm∈_ then ct L t o.new (bP L t o.upd obj) nm else obj2 nm
  rw[lv o.new (bP L t o.upd obj) (bP L t o.upd obj2) nm]
  by_cases h1:nm∈o.new.map (fun x=>x.1++t)
  ·rw[if_pos h1,if_pos (List.mem_append_right _ h1)]
  ·rw[if_neg h1,mR o.upd obj obj2 nm]
   by_cases h2:nm∈o.upd.map (fun x=>L.getD x.1 [])
   ·rw[if_pos h2,if_pos (List.mem_append_left _ h2)]
    rw[lv o.new obj (bP L t o.upd obj) nm,if_neg h1]
   ·rw[if_neg h2,if_neg (by simp only[List.mem_append,not_or];exact⟨h2,h1⟩)]
 ·show ct L t o.new (bP L t o.upd obj) nm=obj nm
  simp only[List.mem_append,not_or]at hn
  rw[lv o.new obj (bP L t o.upd obj) nm,if_neg hn.2,mR o.upd obj obj nm,if_neg hn.1]
theorem CSpec.near(s:CSpec):s.toSpec.Near:=by
 have key:∀ {obj obj2:Name->Option O} {t:Name} {ds:List D},a7 (s.toSpec.foot obj t ds) obj obj2->a7 (reach obj ds) obj obj2/\
     a7 (((s.out (cB obj ds) (cT obj ds)).upd.map fun x=>(reach obj ds).getD x.1 [])++(s.out (cB obj ds) (cT obj ds)).new.map fun x=>x.1++t) obj obj2:=by
  intro obj obj2 t ds h
  refine⟨fun nm hn=>h nm ?_,fun nm hn=>h nm ?_⟩
  ·exact List.mem_append_left _ (List.mem_append_left _ hn)
  ·rcases List.mem_append.1 hn with hn | hn
   ·exact List.mem_append_left _ (List.mem_append_right _ hn)
   ·exact List.mem_append_right _ hn
 refine⟨fun obj obj2 t ds h=>?_,fun obj obj2 t ds h=>?_,fun obj t ds nm hn=>?_,fun obj obj2 t ds h=>?_⟩
 ·obtain⟨h1,h2⟩:=key h
  simp only[CSpec.toSpec]
  rw[pG h1,xa h1,jo h1]
  refine ue ?_ h2
  rw[th h1,rX fun nm hn=>h2 nm (List.mem_append_right _ hn)]
 ·obtain⟨h1,h2⟩:=key h
  simp only[CSpec.toSpec]
  rw[pG h1,xa h1,jo h1]
 ·simp only[CSpec.toSpec]at hn |-
  rcases List.mem_append.1 hn with hn | hn
  ·exact List.mem_append_left _ (List.mem_append_right _ hn)
  ·exact List.mem_append_right _ hn
 ·obtain⟨h1,h2⟩:=key h
  simp only[CSpec.toSpec]
  rw[pG h1,xa h1,jo h1]
def ox(σ:S)(u:List (Nat×O)):Nat->List O->Prop
 |_,[]=>True
 |i,o::r=>σ.obj [i,1]=some (dQ u i o)/\ox σ u (i+1) r
theorem yO{σ:S}{u:List (Nat×O)}:∀ {l:List O} {k:Nat},ox σ u k l->∀ i (h:i<l.length),σ.obj [k+i,1]=some (dQ u (k+i) l[i])
 |o::r,k,h,0,_=>h.1
 |o::r,k,h,i+1,hi=>by
  have :=yO h.2 i (by simpa using hi)
  rw[show k+(i+1)=k+1+i by omega]
  simpa using this
def oy(σ:S):List (Name×O)->Prop
 |[]=>True
 |x::r=>σ.obj x.1=some x.2/\oy σ r
theorem yR{σ:S}:∀ {l:List (Name×O)},oy σ l->∀ x∈l,σ.obj x.1=some x.2
 |y::r,h,x,hx=>by
  rcases List.mem_cons.1 hx with rfl | hx
  ·exact h.1
  ·exact yR h.2 x hx
def distinct:List Name->Bool
 |[]=>true
 |x::r=>(r.all fun y=>!(x==y))&&distinct r
theorem EY:∀ {l:List Name},distinct l=true->l.Nodup
 |[],_=>by simp
 |x::r,h=>by
  simp only[distinct,Bool.and_eq_true]at h
  refine List.nodup_cons.2 ⟨fun hx=>?_,EY h.2⟩
  have :=List.all_eq_true.1 h.1 x hx
  simp at this
def gj(os:List O)(o:Out)(σ:S):Prop:=
 ox σ o.upd 0 os/\oy σ o.new/\
  (D.clos (c4 os.length o.new) o.d&&(o.upd.all fun x=>O.clos (c4 os.length o.new) x.2&&decide (x.1<os.length))&&(o.new.all fun x=>O.clos (c4 os.length o.new) x.2&&!bL x.1)&&distinct (o.new.map (·.1)))=true
theorem EU{os:List O}{o:Out}{σ:S}(h:gj os o σ):GG σ os o:=by
 obtain⟨h1,h2,h3⟩:=h
 simp only[Bool.and_eq_true]at h3
 exact⟨fun i hi=>by simpa using yO h1 i hi,yR h2,h3.1.1.1,h3.1.1.2,by simpa using h3.1.2,EY h3.2⟩
def ou(P:Program)(rs:List ResultVar)(os:List O)(o:Out):Exit->S->Prop
 | .normal,σ=>(bO P σ rs).ok/\(bO P σ rs).d=o.d/\gj os o σ
 | .ret,σ=>(bO P σ rs).ok/\(bO P σ rs).d=o.d/\gj os o σ
 |_,_=>False
def dr(os:List O):Name->Option O
 |[i,1]=>os[i]?
 |_=>none
theorem Jk{L:List Name}{obj:Name->Option O}{x:Name}(h:bL x=false):eX L obj x=none:=by
 unfold eX
 split
 ·simp[bL]at h
 ·rfl
theorem Ja{os:List O}{x:Name}(h:bL x=false):dr os x=none:=by
 unfold dr
 split
 ·simp[bL]at h
 ·rfl
theorem qn{L:List Name}{obj:Name->Option O}:eX L obj=dr (L.map (b7 L obj)):=by
 funext x
 cases hx:bL x with
 |false=>rw[Jk hx,Ja hx]
 |true=>
  obtain⟨i,rfl⟩:=CT.1 hx
  show (if i<L.length then some (b7 L obj (L.getD i []))else none)=(L.map (b7 L obj))[i]?
  by_cases hi:i<L.length
  ·rw[if_pos hi,List.getElem?_eq_getElem (by simpa using hi)]
   rw[jP hi,List.getElem_map]
  ·rw[if_neg hi,List.getElem?_eq_none (by simpa using hi)]
theorem tQ{nt:Nat}{l:List (Nat×E)}{os:List O}:aZ nt [0] (dr os) l []=⟨nt,cm eAny l,dr os,[0],0⟩:=by
 unfold aZ
 congr 1
 funext nm
 split
 ·rename_i h
  have :bL nm=false:=by
   cases hc:bL nm with
   |false=>rfl
   |true=>
    obtain⟨i,rfl⟩:=CT.1 hc
    rw[yD]at h;cases h
  unfold dr
  split
  ·simp[bL]at this
  ·rfl
 ·rfl
theorem w5{P:Program}{f:FuncId}{fn:Func}{c:Code}{s:CSpec}{nt:Nat}{rs:List ResultVar}(hf:P.funcs[f]?=some fn)(hb:fn.body=some c)(dS:fn.ntmps=nt)(eF:fn.results.toList=rs)
 (hS:∀ args w,(callFunc f args).run P w=.ok (.enter f args) w) (ar:f≠yid)
 (h:∀ os ds,s.pre os ds->ds.length<=nt/\CW P c (aZ nt [0] (dr os) (fj 0 ds) []) (ou P rs os (s.out os ds))):an P f s.toSpec:=by
 subst dS
 subst eF
 refine⟨s.near,fun _=>hS,fun _ G φ m σ a w hC t ds us _ hl hr aa=>?_,fun e=>(ar e).elim⟩
 obtain⟨aa,da⟩:=aa
 simp only[Bool.and_eq_true]at aa
 obtain⟨⟨eb,bG⟩,bF⟩:=aa
 obtain⟨hlen,hZ⟩:=h _ _ da
 have lW:(reach σ.obj ds).Nodup:=qf _ _ _ (by simp)
 simp only[cT,ft,List.length_map]at hlen
 refine(callsIn_wide (n:=0)).1 (callsIn_of_wp_marks hf hb trivial ?_)
 have cJ:=Es hC (L:=reach σ.obj ds) lW eb (rd:=none) (fun l h=>by cases h) (b0:=0) (nt:=fn.ntmps) (env:=cm eAny (fj 0 (cT σ.obj ds)))
  (tmps:=us++Array.replicate (fn.ntmps-us.size) undef) (by simp;omega) (fun t=>by
    rcases mW (z:=eAny) (fj 0 (cT σ.obj ds)) t with h1 | h1
    ·rw[h1];unfold bn eAny;simp;exact .any _
    ·obtain⟨i,hi,h2,h3⟩:=F2 h1
     rw[h3]
     unfold bn
     simp only[if_true]
     simp only[cT,ft,List.length_map]at hi
     have bl:i<us.size:=by omega
     have e:((us++Array.replicate (fn.ntmps-us.size) undef).getD t undef)=us[i]:=by
      have ax:0+i<(us++Array.replicate (fn.ntmps-us.size) undef).size:=by simp;omega
      rw[h2]
      simp only[Array.getD,ax,dite_true]
      show (us++Array.replicate (fn.ntmps-us.size) undef)[0+i]=us[i]
      simp only[Nat.zero_add]
      exact Array.getElem_append_left bl
     rw[e]
     simp only[cT,ft,List.getElem_map]
     exact(hr i hi bl).renx (Mem.le_refl m) qe (ej hi bG))
 rw[tQ]at hZ
 rw[qn]at cJ
 refine wpIn_mono (hZ _ _ m _ w cJ) ?_
 rintro e a1 w1 ⟨φ2,m2,σ2,cK,hK⟩
 have fin:(bO P σ2 fn.results.toList).ok/\(bO P σ2 fn.results.toList).d=(s.out (cB σ.obj ds) (cT σ.obj ds)).d/\gj (cB σ.obj ds) (s.out (cB σ.obj ds) (cT σ.obj ds)) σ2->
     LeavesInM Fence.wide 0 P fn a1.tmps (fun e w'=>∃ v φ' m',e=.returned v/\ay G φ' m' { σ with obj:=(s.toSpec.app σ.obj t ds).obj } a w'/\al φ' (s.toSpec.app σ.obj t ds).obj m' (s.toSpec.app σ.obj t ds).d v/\Ext φ φ' σ.obj (s.toSpec.app σ.obj t ds).obj) a1.defers .returning w1:=by
  rintro⟨h1,h2,h3⟩
  refine ug a1.defers rfl cK fun a' w' _ bp=>?_
  obtain⟨v,h4,h5⟩:=yd bp fn h1
  rw[h2]at h5
  have hE:=EU h3
  obtain⟨φ',m',k1,k2,k3,k4⟩:=Er hC lW eb bp hE bF
  have nF:=hE.cd
  simp only[cB,List.length_map]at nF
  exact⟨v,h4,v,φ',m',rfl,k2,k4 _ _ h5 nF,k3⟩
 cases e with
 |normal=>exact fin hK
 |ret=>exact fin hK
 |_=>exact hK.elim
theorem bj.more{ok ok2:Prop}{d d2:D}{o1 o2 obj obj2:Name->Option O}{wr:List Name}(nm:Name)(x:Option O)(h:bj ⟨ok,d,o1⟩ ⟨ok2,d2,o2⟩ obj obj2 wr):
 bj ⟨ok,d,upd o1 nm x⟩ ⟨ok2,d2,upd o2 nm x⟩ obj obj2 (nm::wr):=by
 refine⟨h.ok,h.d,fun y=>?_,fun y hy=>?_⟩
 ·show upd o2 nm x y=if y∈nm::wr then upd o1 nm x y else obj2 y
  by_cases e:y=nm
  ·subst e;rw[aD,if_pos (by simp),aD]
  ·rw[aU _ _ _ e,aU _ _ _ e]
   have :=h.eff y
   simp only at this
   rw[this]
   by_cases hy:y∈wr
   ·rw[if_pos hy,if_pos (List.mem_cons_of_mem _ hy)]
   ·rw[if_neg hy,if_neg (by simp[e,hy])]
 ·simp only[List.mem_cons,not_or]at hy
  show upd o1 nm x y=obj y
  rw[aU _ _ _ hy.1]
  exact h.frame y hy.2
structure YSpec where
 pre:List E->List Nat->Code->Code->List O->List D->Prop
 out:List E->List Nat->Code->Code->List O->List D->Out×Option Code
def roots(env:List E)(ds:List D):List D:=env.map (·.d)++ds
def eT(obj:Name->Option O)(env:List E)(ds:List D):List E:=env.map (E.ren (cin (reach obj (roots env ds))))
def fN(obj:Name->Option O)(env:List E)(ds:List D):List D:=D.renL (cin (reach obj (roots env ds))) ds
def YSpec.o(y:YSpec)(obj:Name->Option O)(env:List E)(ps:List Nat)(asg body:Code)(ds:List D):Out×Option Code:=
 y.out (eT obj env ds) ps asg body (cB obj (roots env ds)) (fN obj env ds)
def YSpec.toSpec(y:YSpec):Spec where
 app obj t args:=match args with
  | .yld nm::ds=>match obj nm with
    |some (.loop env ps asg body .ready none)=>
     ⟨(shut obj (reach obj (roots env ds))&&D.closL (dG (reach obj (roots env ds))) (roots env ds)&&fresh obj t (y.o obj env ps asg body ds).1.new&&!dG (reach obj (roots env ds)) nm&&
         decide (ds.length=ps.length)&&(ps.all fun p=>decide (p<env.length)))=true/\y.pre (eT obj env ds) ps asg body (cB obj (roots env ds)) (fN obj env ds),
       .v (.bool (y.o obj env ps asg body ds).2.isNone),
       upd (ct (reach obj (roots env ds)) t (y.o obj env ps asg body ds).1.new (bP (reach obj (roots env ds)) t (y.o obj env ps asg body ds).1.upd obj)) nm
        (some (.loop env ps asg body (if (y.o obj env ps asg body ds).2.isNone then .ready else .done) (y.o obj env ps asg body ds).2))⟩
    |_=>.bad obj
  |_=>.bad obj
 foot obj t args:=match args with
  | .yld nm::ds=>nm::(match obj nm with
    |some (.loop env ps asg body .ready none)=>reach obj (roots env ds)++((y.o obj env ps asg body ds).1.upd.map fun x=>(reach obj (roots env ds)).getD x.1 [])++(y.o obj env ps asg body ds).1.new.map fun x=>x.1++t
    |_=>[])
  |_=>[]
 wrt obj t args:=match args with
  | .yld nm::ds=>nm::(match obj nm with
    |some (.loop env ps asg body .ready none)=>((y.o obj env ps asg body ds).1.upd.map fun x=>(reach obj (roots env ds)).getD x.1 [])++(y.o obj env ps asg body ds).1.new.map fun x=>x.1++t
    |_=>[])
  |_=>[]
theorem YSpec.near(y:YSpec):y.toSpec.Near:=by
 have tI:∀ {obj obj2:Name->Option O} {env:List E} {ps:List Nat} {asg body:Code} {ds:List D},a7 (reach obj (roots env ds)) obj obj2->
     y.o obj2 env ps asg body ds=y.o obj env ps asg body ds/\eT obj2 env ds=eT obj env ds/\fN obj2 env ds=fN obj env ds:=by
  intro obj obj2 env ps asg body ds h
  unfold YSpec.o eT fN
  rw[pG h,jo h]
  exact⟨rfl,rfl,rfl⟩
 have split:∀ {A B C:List Name} {obj obj2:Name->Option O} {nm:Name},a7 (nm::(A++B++C)) obj obj2->a7 A obj obj2/\a7 (B++C) obj obj2:=by
  intro A B C obj obj2 nm h
  refine⟨fun x hx=>h x ?_,fun x hx=>h x ?_⟩
  ·exact List.mem_cons_of_mem _ (List.mem_append_left _ (List.mem_append_left _ hx))
  ·rcases List.mem_append.1 hx with hx | hx
   ·exact List.mem_cons_of_mem _ (List.mem_append_left _ (List.mem_append_right _ hx))
   ·exact List.mem_cons_of_mem _ (List.mem_append_right _ hx)
 have sg:∀ (args:List D),(∃ nm ds,args=.yld nm::ds)\/(∀ obj t,y.toSpec.app obj t args=.bad obj/\y.toSpec.foot obj t args=[]/\y.toSpec.wrt obj t args=[]):=by
  intro args
  rcases args with _ | ⟨d,ds⟩
  ·exact .inr fun _ _=>⟨rfl,rfl,rfl⟩
  ·cases d with
   |yld nm=>exact .inl ⟨nm,ds,rfl⟩
   |_=>exact .inr fun _ _=>⟨rfl,rfl,rfl⟩
 refine⟨fun obj obj2 t args h=>?_,fun obj obj2 t args h=>?_,fun obj t args fT hn=>?_,fun obj obj2 t args h=>?_⟩
 ·rcases sg args with⟨nm,ds,rfl⟩ | hb
  ·simp only[YSpec.toSpec]at h |-
   have h0:obj2 nm=obj nm:=h nm (by simp)
   rw[h0]
   split
   ·rename_i env ps asg body ho
    simp only[ho]at h
    obtain⟨h1,h2⟩:=split h
    obtain⟨e1,e2,e3⟩:=tI (ps:=ps) (asg:=asg) (body:=body) h1
    rw[e1,e2,e3,pG h1,jo h1]
    refine bj.more nm _ (ue ?_ h2)
    rw[th h1,rX fun nm hn=>h2 nm (List.mem_append_right _ hn)]
   ·exact .none _ fun x hx=>by simp only[List.mem_singleton]at hx;subst hx;exact h0
  ·rw[(hb obj t).1,(hb obj2 t).1,(hb obj t).2.2]
   exact .same rfl rfl rfl rfl
 ·rcases sg args with⟨nm,ds,rfl⟩ | hb
  ·simp only[YSpec.toSpec]at h |-
   have h0:obj2 nm=obj nm:=h nm (by simp)
   rw[h0]
   split
   ·rename_i env ps asg body ho
    simp only[ho]at h
    obtain⟨h1,h2⟩:=split h
    obtain⟨e1,e2,e3⟩:=tI (ps:=ps) (asg:=asg) (body:=body) h1
    rw[e1,jo h1]
   ·rfl
  ·rw[(hb obj t).2.1,(hb obj2 t).2.1]
 ·rcases sg args with⟨nm,ds,rfl⟩ | hb
  ·simp only[YSpec.toSpec]at hn |-
   rcases List.mem_cons.1 hn with rfl | hn
   ·simp
   ·refine List.mem_cons_of_mem _ ?_
    split at hn
    ·rename_i env ps asg body ho
     try simp only[ho]
     rcases List.mem_append.1 hn with hn | hn
     ·exact List.mem_append_left _ (List.mem_append_right _ hn)
     ·exact List.mem_append_right _ hn
    ·cases hn
  ·rw[(hb obj t).2.2]at hn;cases hn
 ·rcases sg args with⟨nm,ds,rfl⟩ | hb
  ·simp only[YSpec.toSpec]at h |-
   have h0:obj2 nm=obj nm:=h nm (by simp)
   rw[h0]
   split
   ·rename_i env ps asg body ho
    simp only[ho]at h
    obtain⟨h1,h2⟩:=split h
    obtain⟨e1,e2,e3⟩:=tI (ps:=ps) (asg:=asg) (body:=body) h1
    rw[e1,jo h1]
   ·rfl
  ·rw[(hb obj t).2.2,(hb obj2 t).2.2]
def nN(env:List E):Nat->E:=fun t=>env.getD t eAny
def lp:(Nat->E)->List Nat->List D->(Nat->E)
 |f,p::ps,d::ds=>lp (upd f p ⟨true,d⟩) ps ds
 |f,_,_=>f
def Jh(k:S->Prop):Exit->S->Prop
 | .normal,σ=>k σ
 |_,_=>False
def IV(os:List O)(o:Out×Option Code):Exit->S->Prop
 | .normal,σ=>o.2=none/\gj os o.1 σ
 | .ret,σ=>o.2=some .ret/\gj os o.1 σ
 | .exit id,σ=>o.2=some (.exit id)/\gj os o.1 σ
 |_,_=>False
theorem xL{φ:Name->Loc}{obj:Name->Option O}{m:Mem}{n:Nat}:∀ (ps:List Nat) (ds:List D) (us:List Value) (f:Nat->E) (tmps:Array Value),tmps.size=n->ps.length=ds.length->ds.length=us.length->
 (∀ p∈ps,p<n)->(∀ t,bn φ obj m (f t) (tmps.getD t undef))->(∀ i (h:i<ds.length) (h':i<us.length),al φ obj m ds[i] us[i])->
 (∀ t,bn φ obj m (lp f ps ds t) (((ps.zip us).foldl (fun tmps (p:Nat×Value)=>tmps.setIfInBounds p.1 p.2) tmps).getD t undef))/\((ps.zip us).foldl (fun tmps (p:Nat×Value)=>tmps.setIfInBounds p.1 p.2) tmps).size=n
 |[],ds,us,f,tmps,hs,h1,h2,hp,hf,hr=>by
  have :ds=[]:=List.eq_nil_of_length_eq_zero (by simpa using h1.symm)
  subst this
  exact⟨hf,hs⟩
 |p::ps,[],us,f,tmps,hs,h1,h2,hp,hf,hr=>by simp at h1
 |p::ps,d::ds,[],f,tmps,hs,h1,h2,hp,hf,hr=>by simp at h2
 |p::ps,d::ds,u::us,f,tmps,hs,h1,h2,hp,hf,hr=>by
  simp only[List.zip_cons_cons,List.foldl_cons,lp]
  refine xL ps ds us _ _ (by simpa using hs) (by simpa using h1) (by simpa using h2) (fun q hq=>hp q (by simp[hq])) (fun t=>?_) fun i a b=>by
   have :=hr (i+1) (by simpa using a) (by simpa using b)
   simpa using this
  have ae:p<tmps.size:=by rw[hs];exact hp p (by simp)
  by_cases ht:t=p
  ·subst ht
   rw[aD]
   have e:(tmps.setIfInBounds t u).getD t undef=u:=by simp[Array.getD,ae]
   rw[e]
   unfold bn
   simp only[if_true]
   exact hr 0 (by simp) (by simp)
  ·rw[aU _ _ _ ht]
   have e:(tmps.setIfInBounds p u).getD t undef=tmps.getD t undef:=by
    simp only[Array.getD_eq_getD_getElem?]
    rw[Array.getElem?_setIfInBounds_ne (fun h=>ht h.symm)]
   rw[e];exact hf t
theorem s5{wa wb:World}{L:List Name}{φ:Name->Loc}{obj:Name->Option O}{l:Nat}(ht:n3 wa L φ obj)(h:∃ r,wa.heap[l]?=some (.loop r))(hb:∀ b,b≠l->wb.heap[b]?=wa.heap[b]?):n3 wb L φ obj:=by
 refine⟨fun q hq=>?_,ht.2⟩
 obtain⟨T,f,e⟩:=ht.1 q hq
 obtain⟨r,hr⟩:=h
 rw[hb q.1 (fun e'=>by rw[e',hr]at e;cases e)]
 exact⟨T,f,e⟩
theorem Fc{wa wb:World}{m:Mem}{L:List Name}{φ:Name->Loc}{obj:Name->Option O}{l:Nat}{h h' ht ht'}{φ1:Name->Loc}{m1:Mem}{σ1:S}{a1:Act}{w1 w2:World}
 (hC:ay (mo wa m L φ obj (some l) h ht) φ1 m1 σ1 a1 w1) (bB:wb.heap.size=wa.heap.size/\w2.heap.size=w1.heap.size) (ho:wb.os=w2.os/\wb.tape=w2.tape/\wb.output=w2.output)
 (hb:∀ b,b≠l->wb.heap[b]?=wa.heap[b]?) (h2:∀ b,b≠l->w2.heap[b]?=w1.heap[b]?) (hl:wb.heap[l]?=w2.heap[l]?):ay (mo wb m L φ obj (some l) h' ht') φ1 m1 σ1 a1 w2:=by
 obtain⟨Dt,r,hr⟩:=h l rfl
 have ae:l<wa.heap.size:=(Array.getElem?_eq_some_iff.1 hr).1
 have bk:w1.heap[l]?=some (.loop r):=(hC.fr.block l ae Dt).trans hr
 constructor
 ·exact hC.tmps
 ·exact hC.size
 ·obtain⟨ds,k1,k2,k3⟩:=hC.defers
  refine⟨ds,k1,k2,fun D hD=>?_⟩
  obtain⟨k4,k5⟩:=k3 D hD
  have ar:D≠l:=fun e=>by subst e;rw[bk]at k5;cases k5
  exact⟨by show wb.heap.size<=D;rw[bB.1];exact k4,(h2 D ar).trans k5⟩
 ·intro nm o kE
  refine(hC.objs nm o kE).ext (Mem.le_refl _) (Ext.refl _ _) fun k1 k2=>h2 _ fun e=>?_
  rcases hC.own nm ⟨o,kE,k1,k2⟩with h3 | h3
  ·have h4:wa.heap.size<=(φ1 nm).blk:=h3
   omega
  ·rw[e]at h3;exact Dt h3
 ·intro b off v hv
  have h3:=hC.mem b off v hv
  rw[kV (h2 b (fun e=>by subst e;unfold World.cell? at h3;simp[bk]at h3))]
  exact h3
 ·exact hC.apart
 ·exact hC.inj
 ·intro nm hh
  rcases hC.own nm hh with h3 | h3
  ·exact .inl (by show wb.heap.size<=_;rw[bB.1];exact h3)
  ·exact .inr h3
 ·refine⟨ho.1.symm,ho.2.1.symm,ho.2.2.symm,by show wb.heap.size<=_;rw[bB.1,bB.2];exact hC.fr.size,fun b h3 h4=>?_⟩
  show w2.heap[b]?=wb.heap[b]?
  by_cases e:b=l
  ·subst e;exact hl.symm
  ·rw[h2 b e,hb b e]
   exact hC.fr.block b (by have:b<wb.heap.size:=h3;show b<wa.heap.size;omega) h4
 ·intro b off v hv
  rcases hC.fresh b off v hv with h3 | h3 | h3
  ·exact .inl h3
  ·exact .inr (.inl (by show wb.heap.size<=_;rw[bB.1];exact h3))
  ·exact .inr (.inr h3)
 ·exact hC.kept
theorem Fl{L:List Name}{obj:Name->Option O}{nm:Name}{x:Option O}(h:nm∉L){y:Name}(hy:y∈L):b7 L (upd obj nm x) y=b7 L obj y:=by
 unfold b7
 rw[aU _ _ _ (by rintro rfl;exact h hy)]
theorem Jj{L:List Name}{obj:Name->Option O}{nm:Name}{x:Option O}(h:nm∉L):eX L (upd obj nm x)=eX L obj:=by
 rw[qn,qn]
 congr 1
 exact List.map_congr_left fun y hy=>Fl h hy
theorem vP{L:List Name}{φ:Name->Loc}{obj:Name->Option O}{nm:Name}{x:Option O}(h:nm∉L):jh L φ (upd obj nm x)=jh L φ obj:=by
 funext b
 refine propext ⟨fun ⟨y,h1,⟨o,h2,h3⟩,h4⟩=>?_,fun ⟨y,h1,⟨o,h2,h3⟩,h4⟩=>?_⟩
 ·rw[aU _ _ _ (by rintro rfl;exact h h1)]at h2
  exact⟨y,h1,⟨o,h2,h3⟩,h4⟩
 ·exact⟨y,h1,⟨o,by rw[aU _ _ _ (by rintro rfl;exact h h1)];exact h2,h3⟩,h4⟩
theorem PV{w:World}{m:Mem}{L:List Name}{φ:Name->Loc}{obj:Name->Option O}{nm:Name}{x:Option O}{rd:Option Nat}(h:nm∉L){h1}{h2}{t1}{t2}:mo w m L φ (upd obj nm x) rd h1 t1=mo w m L φ obj rd h2 t2:=by
 unfold mo
 simp only[Jj h,vP h]
theorem GJ{P:Program}{y:YSpec}(h:∀ env ps asg body os ds,y.pre env ps asg body os ds->ds.length=ps.length->
 CW P asg ⟨env.length,lp (nN env) ps ds,dr os,[0],0⟩ (Jh fun σ1=>CW P body σ1 (IV os (y.out env ps asg body os ds)))):an P yid y.toSpec:=by
 refine⟨y.near,fun e=>(e rfl).elim,fun e=>(e rfl).elim,fun _ G φ m σ a w hC t nm ds us _ hl hr _ aa o OQ=>?_⟩
 simp only[YSpec.toSpec]at aa |-
 split at aa
 case h_2=>exact aa.elim
 rename_i env ps asg body aj
 try simp only[aj]
 obtain⟨aa,da⟩:=aa
 simp only[Bool.and_eq_true,Bool.not_eq_true',decide_eq_true_eq]at aa
 obtain⟨⟨⟨⟨⟨eb,bG⟩,bF⟩,Du⟩,hlen⟩,fa⟩:=aa
 have cP:nm∉reach σ.obj (roots env ds):=fun h=>by rw[lH.2 h]at Du;cases Du
 have lW:(reach σ.obj (roots env ds)).Nodup:=qf _ _ _ (by simp)
 obtain⟨_,bC,r,bk,bX,hr3,uZ,Dk,Dj,Di,Dh⟩:=hC.objs nm _ aj
 have ae:(φ nm).blk<w.heap.size:=(Array.getElem?_eq_some_iff.1 bk).1
 have l7:¬ jh (reach σ.obj (roots env ds)) φ σ.obj (φ nm).blk:=fun ⟨x,k1,k2,k3⟩=>cP (hC.inj _ _ k2 ⟨_,aj,rfl,bC⟩ k3▸k1)
 have eG:r.params.size=ps.length:=by rw[<-uZ];simp
 intro next Q lV
 rw[OQ,run_yield bk (by omega),Oper.uponIn_round]
 refine⟨fun h=>(by simp[c0,Fence.wide]at h),?_⟩
 rw[Dk,Dj]
 refine roundIn_of_wpIn trivial ?_
 have adj:=bG
 have O0:∀ i (h:i<env.length),D.clos (dG (reach σ.obj (roots env ds))) env[i].d=true:=fun i hi=>by
  have :=ej (l:=roots env ds) (i:=i) (by simp[roots];omega) bG
  simp only[roots]at this |-
  rw[List.getElem_append_left (by simpa using hi)]at this
  simpa using this
 have rI:∀ i (h:i<ds.length),D.clos (dG (reach σ.obj (roots env ds))) ds[i]=true:=fun i hi=>by
  have :=ej (l:=roots env ds) (i:=env.length+i) (by simp[roots];omega) bG
  simp only[roots]at this |-
  rw[List.getElem_append_right (by simp)]at this
  simpa using this
 obtain⟨q1,q2⟩:=xL (φ:=gR (reach σ.obj (roots env ds)) φ) (obj:=eX (reach σ.obj (roots env ds)) σ.obj) (m:=m) (n:=env.length) ps (fN σ.obj env ds) us.toList (nN (eT σ.obj env ds)) r.tmps Di
  (by simp[fN,ft];omega) (by simp[fN,ft];omega) (fun p hp=>by have:=List.all_eq_true.1 fa p hp;simpa using this)
  (fun t=>by
    unfold nN
    by_cases ht:t<env.length
    ·have:=(Dh t ht).renx (Mem.le_refl m) qe (O0 t ht)
     have e:(eT σ.obj env ds).getD t eAny=E.ren (cin (reach σ.obj (roots env ds))) env[t]:=by
      rw[List.getD_eq_getElem?_getD,List.getElem?_eq_getElem (by simpa[eT]using ht)];simp[eT]
     rw[e];exact this
    ·have e:(eT σ.obj env ds).getD t eAny=eAny:=by
       rw[List.getD_eq_getElem?_getD,List.getElem?_eq_none (by simp[eT];omega)];rfl
     rw[e];unfold bn eAny;simp;exact .any _)
  (fun i a b=>by
    simp only[fN,ft,List.length_map]at a
    have :=(hr i a (by simpa using b)).renx (Mem.le_refl m) qe (rI i a)
    simpa[fN,ft]using this)
 have cJ:=Es hC (L:=reach σ.obj (roots env ds)) lW eb (rd:=some (φ nm).blk) (fun l e=>by cases e;exact⟨l7,r,bk⟩) (b0:=0) (nt:=env.length) q2 q1
 have hZ:=h _ _ _ _ _ _ da (by simp[fN,ft];omega)
 have OL:(r.params.zip us).foldl (fun tmps (p:Nat×Value)=>tmps.setIfInBounds p.1 p.2) r.tmps=(ps.zip us.toList).foldl (fun tmps (p:Nat×Value)=>tmps.setIfInBounds p.1 p.2) r.tmps:=by
  rw[<-uZ,<-Array.toList_zip,Array.foldl_toList]
 have hU:(eT σ.obj env ds).length=env.length:=by simp[eT]
 rw[hU]at hZ
 rw[qn]at cJ
 have OK:(r.params.zip us).foldl (fun tmps (x:Tmp×Value)=>match x with | (t,a)=>tmps.setIfInBounds t a) r.tmps=(ps.zip us.toList).foldl (fun tmps (p:Nat×Value)=>tmps.setIfInBounds p.1 p.2) r.tmps:=OL
 rw[OK]
 refine wpIn_mono (hZ _ _ m _ w cJ) ?_
 rintro e a1 w1 ⟨φ1,m1,σ1,cK,hK⟩
 cases e with
 |normal=>
  have Dl:w1.heap[(φ nm).blk]?=some (.loop r):=(cK.fr.block _ ae l7).trans bk
  have eH:=(Array.getElem?_eq_some_iff.1 Dl).1
  refine⟨_,run_beginRound Dl bX,?_⟩
  have dI:w1.os=w.os/\w1.tape=w.tape/\w1.output=w.output:=⟨cK.fr.os,cK.fr.tape,cK.fr.output⟩
  have cS:=Fc (wb:=w.putObj (φ nm).blk (.loop { r with state:=.busy })) (w2:=w1.putObj (φ nm).blk (.loop { r with state:=.busy }))
   (h':=fun l e=>by cases e;exact⟨l7,_,World.putObj_heap_same ae⟩) (ht':=s5 (p6 hC _) ⟨r,bk⟩ fun b hb=>World.putObj_heap_other hb) cK ⟨by simp,by simp⟩ ⟨dI.1.symm,dI.2.1.symm,dI.2.2.symm⟩
   (fun b hb=>World.putObj_heap_other hb) (fun b hb=>World.putObj_heap_other hb) (by rw[World.putObj_heap_same ae,World.putObj_heap_same eH])
  refine wpIn_mono (hK _ _ m1 _ _ cS) ?_
  rintro e a3 w3 ⟨φ3,m3,σ3,mi,jN⟩
  have u3:w3.heap[(φ nm).blk]?=some (.loop { r with state:=.busy }):=(mi.fr.block _ (by show _<(w.putObj _ _).heap.size;simpa using ae) l7).trans (World.putObj_heap_same ae)
  have o5:=(Array.getElem?_eq_some_iff.1 u3).1
  have fin:∀ aW:Option Code,(y.o σ.obj env ps asg body ds).2=aW->gj (cB σ.obj (roots env ds)) (y.o σ.obj env ps asg body ds).1 σ3->
      ∃ v w',(Instr.endRound (φ nm).blk aW).run P w3=.ok v w'/\next (a.put o.dst v) w':=by
   intro aW he hE
   refine⟨_,_,run_endRound aW u3,?_⟩
   generalize N5:({ r with state:=.busy }:Loop)=rb at u3 |-
   let rf:Loop:={ r with state:=if aW.isNone then .ready else .done,pending:=aW }
   have N4:({ rb with state:=if aW.isNone then .ready else .done,pending:=aW }:Loop)=rf:=by rw[<-N5]
   rw[N4]
   have Ee:=Fc (wb:=w.putObj (φ nm).blk (.loop rf)) (w2:=w3.putObj (φ nm).blk (.loop rf))
    (h':=fun l e=>by cases e;exact⟨l7,_,World.putObj_heap_same ae⟩) (ht':=s5 (p6 hC _) ⟨r,bk⟩ fun b hb=>World.putObj_heap_other hb) mi ⟨by simp,by simp⟩
    ⟨(show (w.putObj (φ nm).blk (.loop rf)).os=(w3.putObj (φ nm).blk (.loop rf)).os from mi.fr.os.symm),(show (w.putObj (φ nm).blk (.loop rf)).tape=(w3.putObj (φ nm).blk (.loop rf)).tape from mi.fr.tape.symm),(show (w.putObj (φ nm).blk (.loop rf)).output=(w3.putObj (φ nm).blk (.loop rf)).output from mi.fr.output.symm)⟩
    (fun b hb=>by rw[World.putObj_heap_other hb,World.putObj_heap_other hb]) (fun b hb=>World.putObj_heap_other hb) (by rw[World.putObj_heap_same ae,World.putObj_heap_same o5])
   have bp:ay G φ m { σ with obj:=upd σ.obj nm (some (.loop env ps asg body (if aW.isNone then .ready else .done) aW)) } a (w.putObj (φ nm).blk (.loop rf)):=by
    have :=hC.chg (w':=w.putObj (φ nm).blk (.loop rf)) nm (.loop env ps asg body (if aW.isNone then .ready else .done) aW) (φ nm) (Ext.same aj rfl rfl) ⟨rfl,rfl,rfl,by simp⟩
     (fun b _ hb=>World.putObj_heap_other (by rcases hb with h | h; · rw[bC]at h;cases h
                                              ·exact h))
     (fun _=>.inr ⟨⟨_,aj,rfl,bC⟩,rfl⟩) (by
       rw[c8]
       refine⟨by assumption,bC,rf,World.putObj_heap_same ae,rfl,rfl,uZ,Dk,Dj,Di,fun i hi=>(Dh i hi).ext (Mem.le_refl m) ?_⟩
       have :=Ext.same (φ:=φ) (o':=.loop env ps asg body (if aW.isNone then .ready else .done) aW) aj rfl rfl
       rwa [c8]at this)
    rwa [c8]at this
   have Px:shut (upd σ.obj nm (some (.loop env ps asg body (if aW.isNone then .ready else .done) aW))) (reach σ.obj (roots env ds))=true:=by
    rw[th (obj:=σ.obj) fun x hx=>aU _ _ _ (by rintro rfl;exact cP hx)];exact eb
   have O2:(reach σ.obj (roots env ds)).map (b7 (reach σ.obj (roots env ds)) (upd σ.obj nm (some (.loop env ps asg body (if aW.isNone then .ready else .done) aW))))=cB σ.obj (roots env ds):=
    List.map_congr_left fun x hx=>Fl cP hx
   have wh:=EU hE
   rw[<-O2]at wh
   have Ds:∀ x∈(y.o σ.obj env ps asg body ds).1.new,nm≠x.1++t:=fun x hx e=>by
    have :=List.all_eq_true.1 bF x hx
    rw[<-e,aj]at this;cases this
   have OJ:fresh (upd σ.obj nm (some (.loop env ps asg body (if aW.isNone then .ready else .done) aW))) t (y.o σ.obj env ps asg body ds).1.new=true:=by
    rw[rX (obj:=σ.obj) fun x hx=>by
     obtain⟨z,hz,rfl⟩:=List.mem_map.1 hx
     exact aU _ _ _ (Ds z hz).symm]
    exact bF
   rw[<-PV (x:=some (.loop env ps asg body (if aW.isNone then .ready else .done) aW)) cP (h1:=fun l e=>by
    cases e;rw[vP cP];exact⟨l7,_,World.putObj_heap_same ae⟩) (t1:=by unfold n3;rw[vP cP];exact s5 (p6 hC _) ⟨r,bk⟩ fun b hb=>World.putObj_heap_other hb)]at Ee
   obtain⟨φ',m',k1,k2,k3,k4⟩:=Er bp lW Px Ee wh OJ
   refine lV _ φ' m' _ ?_ (.v _ _ ?_)
   ·have:(ct (reach σ.obj (roots env ds)) t (y.o σ.obj env ps asg body ds).1.new (bP (reach σ.obj (roots env ds)) t (y.o σ.obj env ps asg body ds).1.upd (upd σ.obj nm (some (.loop env ps asg body (if aW.isNone then .ready else .done) aW)))))=
      upd (ct (reach σ.obj (roots env ds)) t (y.o σ.obj env ps asg body ds).1.new (bP (reach σ.obj (roots env ds)) t (y.o σ.obj env ps asg body ds).1.upd σ.obj)) nm (some (.loop env ps asg body (if aW.isNone then .ready else .done) aW)):=by
      funext x
      have hu:((y.o σ.obj env ps asg body ds).1.upd.all fun x=>decide (x.1<(reach σ.obj (roots env ds)).length))=true:=List.all_eq_true.2 fun z hz=>by
       have :=List.all_eq_true.1 wh.cu z hz
       simp only[Bool.and_eq_true,List.length_map]at this;exact this.2
      by_cases e:x=nm
      ·subst e
       rw[aD,ow _ _ Ds,tz _ _ hu cP,aD]
      ·rw[aU _ _ _ e]
       rw[lv (y.o σ.obj env ps asg body ds).1.new σ.obj (bP _ _ _ (upd _ _ _)) x,lv (y.o σ.obj env ps asg body ds).1.new σ.obj (bP _ _ _ σ.obj) x]
       by_cases h1:x∈(y.o σ.obj env ps asg body ds).1.new.map (fun x=>x.1++t)
       ·rw[if_pos h1,if_pos h1]
       ·rw[if_neg h1,if_neg h1]
        rw[mR (y.o σ.obj env ps asg body ds).1.upd σ.obj (upd _ _ _) x,mR (y.o σ.obj env ps asg body ds).1.upd σ.obj σ.obj x]
        by_cases h2:x∈(y.o σ.obj env ps asg body ds).1.upd.map (fun x=>(reach σ.obj (roots env ds)).getD x.1 [])
        ·rw[if_pos h2,if_pos h2]
        ·rw[if_neg h2,if_neg h2];exact aU _ _ _ e
    rw[this]at k2
    rw[he]
    exact k2
   ·rw[he];exact .bool _
  cases e with
  |normal=>exact fin none jN.1 jN.2
  |ret=>exact fin (some .ret) jN.1 jN.2
  |exit id=>exact fin (some (.exit id)) jN.1 jN.2
  |goto l=>exact jN.elim
  |panic ch=>exact jN.elim
  |outgrown=>exact jN.elim
 |ret=>exact hK.elim
 |exit id=>exact hK.elim
 |goto l=>exact hK.elim
 |panic ch=>exact hK.elim
 |outgrown=>exact hK.elim
theorem Qr{G:Ghost}{φ:Name->Loc}{m:Mem}{σ:S}{a:Act}{w:World}(hC:ay G φ m σ a w):
 ay G φ m σ { a with defers:=[{ target:=.collected w.heap.size,args:= #[] }]++a.defers } (w.alloc (.deferred (some []))):=by
 have hb:∀ b,b<w.heap.size->(w.alloc (.deferred (some []))).heap[b]?=w.heap[b]?:=fun b h=>RowKit.Below.heap_alloc w _ b h
 have h:=hC.imm (w':=w.alloc (.deferred (some []))) (Mem.le_refl m) ⟨rfl,rfl,rfl,by simp⟩ hb (fun _ _ _ h=>.inl h)
 refine⟨h.tmps,h.size,?_,h.objs,h.mem,h.apart,h.inj,h.own,h.fr,h.fresh,h.kept⟩
 obtain⟨ds,h1,h2,h3⟩:=h.defers
 have ae:∀ D∈ds,D<w.heap.size:=fun D hD=>by
  obtain⟨ig,k1,k2,k3⟩:=hC.defers
  have e:ig=ds:=by
   have :=k1.symm.trans h1
   have hi:Function.Injective (fun D:Nat=>({ target:=.collected D,args:= #[] }:Deferred)):=fun x y h=>by simpa using h
   exact(List.map_inj_right hi).1 this
  exact(Array.getElem?_eq_some_iff.1 (k3 D (e▸hD)).2).1
 refine⟨w.heap.size::ds,by rw[h1];rfl,List.nodup_cons.2 ⟨fun hm=>Nat.lt_irrefl _ (ae _ hm),h2⟩,fun D hD=>?_⟩
 rcases List.mem_cons.1 hD with rfl | hD
 ·exact⟨hC.fr.size,World.alloc_heap_new w _⟩
 ·exact h3 D hD
def j'(obj:Name->Option O)(nm:Name):Name->Option O:=upd obj nm (match obj nm with
 |some (.loop env ps asg body _ aW)=>some (.loop env ps asg body .exhausted aW)
 |o=>o)
def oC(K:Exit->S->Prop)(obj:Name->Option O)(nm:Name)(σ:S):Prop:=match obj nm with
 |some (.loop _ _ _ _ .busy _)=>False
 |some (.loop _ _ _ _ _ none)=>K .normal σ
 |some (.loop _ _ _ _ _ (some .ret))=>K .ret σ
 |some (.loop _ _ _ _ _ (some (.exit id)))=>K (.exit id) σ
 |_=>False
theorem Ql{P:Program}{Γ:FuncId->Option Spec}(hΓ:∀ f s,Γ f=some s->an P f s){g:Operand}{ps:Array Tmp}{asg body:Code}{σ:S}{K:Exit->S->Prop}(k k':Nat){f:FuncId}{s:Spec}
 (hc:bD σ g=true) (dw:dW (ah σ g)=some f) (ar:f≠yid) (hs:Γ f=some s) (vl:σ.obj (k::σ.pre)=none)
 (aa:(s.app (upd σ.obj (k::σ.pre) (some (.loop ((List.range σ.nt).map σ.env) ps.toList asg body .ready none))) (k'::σ.pre) (c5 (ah σ g) [.yld (k::σ.pre)])).ok)
 (hK:oC K (s.app (upd σ.obj (k::σ.pre) (some (.loop ((List.range σ.nt).map σ.env) ps.toList asg body .ready none))) (k'::σ.pre) (c5 (ah σ g) [.yld (k::σ.pre)])).obj (k::σ.pre)
   { σ with obj:=j' (s.app (upd σ.obj (k::σ.pre) (some (.loop ((List.range σ.nt).map σ.env) ps.toList asg body .ready none))) (k'::σ.pre) (c5 (ah σ g) [.yld (k::σ.pre)])).obj (k::σ.pre) }):
 CW P (.rangeFunc g ps asg body) σ K:=by
 intro G φ m a w hC
 generalize aj:k::σ.pre=nm at *
 generalize vg:upd σ.obj nm (some (.loop ((List.range σ.nt).map σ.env) ps.toList asg body .ready none))=kf at *
 generalize hR:s.app kf (k'::σ.pre) (c5 (ah σ g) [.yld nm])=R at *
 have rF:=bm hC hc
 obtain⟨us,vs,fs,cs,hu,nH,e1,e2,bk,bX⟩:∃ (us vs:Array Value) (fs cs:List D),a.eval g=.func (.func f) us vs/\(∀ args,c5 (ah σ g) args=fs++args++cs)/\fs.length=us.size/\cs.length=vs.size/\
  (∀ i (h:i<fs.length) (h':i<us.size),al φ σ.obj m fs[i] us[i])/\(∀ i (h:i<cs.length) (h':i<vs.size),al φ σ.obj m cs[i] vs[i]):=by
  generalize a.eval g=u at *
  generalize ah σ g=d at *
  unfold dW at dw
  split at dw
  ·rename_i f' fs cs
   split at dw
   ·cases dw
   cases dw
   cases rF with
   |v _ _ rF=>
   cases rF with
   |clo _ _ _ us vs e1 e2 h1 h2=>
   exact⟨us,vs,fs.map .v,cs.map .v,rfl,fun _=>rfl,by simpa using e1,by simpa using e2,fun i a b=>by simpa using .v _ _ (h1 i (by simpa using a) b),fun i a b=>by simpa using .v _ _ (h2 i (by simpa using a) b)⟩
  ·rename_i f' fs cs
   split at dw
   ·cases dw
   cases dw
   cases rF with
   |clo _ _ _ us vs e1 e2 h1 h2=>exact⟨us,vs,fs,cs,rfl,fun _=>rfl,e1,e2,h1,h2⟩
  ·cases dw;exact(ar rfl).elim
  ·cases dw
 refine wpIn_rangeFunc fun fn _=>?_
 have main:∀ (W:World) (a':Act) (D:Nat),ay G φ m σ a' W->a'.tmps=a.tmps->
     ∃ (d:Deferred) (mI:World) (f':FuncId) (args:Array Value) (w₂:World),
     (resolve a.eval (rangeCall g W.heap.size) 0).run P (W.alloc (.loop { state:=.ready,pending:=none,fn,tmps:=a.tmps,params:=ps,assign:=asg,body,defers:=D }))=.ok d mI/\
     (invoke d.target d.args).run P mI=.ok (.enter f' args) w₂/\
     CallsIn (c0 G.rd) (0-1) P f' args w₂ (rangePost (c0 G.rd) 0 P W.heap.size (fun e a' w'=>∃ φ' m' σ',ay G φ' m' σ' a' w'/\K e σ') a'):=by
  intro W a' D cK D3
  obtain⟨r,kz⟩:∃ r:Loop,r={ state:=.ready,pending:=none,fn,tmps:=a.tmps,params:=ps,assign:=asg,body,defers:=D }:=⟨_,rfl⟩
  rw[<-kz]
  have hx:=Ext.new (φ:=φ) vl ⟨W.heap.size,0,0,false,none⟩ (.loop ((List.range σ.nt).map σ.env) ps.toList asg body .ready none)
  have cS:=cK.chg (w':=W.alloc (.loop r)) nm (.loop ((List.range σ.nt).map σ.env) ps.toList asg body .ready none) ⟨W.heap.size,0,0,false,none⟩ hx ⟨rfl,rfl,rfl,by simp⟩
   (fun b hb _=>RowKit.Below.heap_alloc W _ b hb) (fun _=>.inl (Nat.le_refl _)) ⟨rfl,rfl,r,World.alloc_heap_new W _,by rw[kz],by rw[kz],by rw[kz],by rw[kz],by rw[kz],by
     rw[kz]
     show a.tmps.size=_
     rw[<-D3,cK.size];simp,fun i hi=>by
     simp only[List.getElem_map,List.getElem_range]
     rw[kz]
     show bn _ _ m _ (a.tmps.getD i undef)
     rw[<-D3]
     exact(cK.tmps i).ext (Mem.le_refl m) hx⟩
  rw[vg]at cS hx
  refine⟨{ target:=.fn (.func f) vs,args:=us++ #[.func (.yield W.heap.size) #[] #[]] },W.alloc (.loop r),f,us++ #[.func (.yield W.heap.size) #[] #[]]++vs,W.alloc (.loop r),?_,?_,?_⟩
  ·have hy:a.eval (.const (.func (.yield W.heap.size) #[] #[]))=.func (.yield W.heap.size) #[] #[]:=rfl
   simp[resolve,Deferred.ofValue,hu,hy]
  ·simp[invoke,(hΓ f s hs).enter ar]
  ·refine EH ?_
   have O3:=(hΓ f s hs).calls ar G (upd φ nm ⟨W.heap.size,0,0,false,none⟩) m { σ with obj:=kf } a' (W.alloc (.loop r)) cS (k'::σ.pre) (c5 (ah σ g) [.yld nm]) (us++ #[.func (.yield W.heap.size) #[] #[]]++vs) ⟨k',rfl⟩
   refine(O3 ?_ ?_ ?_).mono ?_
   ·rw[nH];simp only[List.length_append,List.length_singleton,Array.size_append,e1,e2];rfl
   ·intro i h1 h2
    simp only[nH]
    have qY:al (upd φ nm ⟨W.heap.size,0,0,false,none⟩) kf m (.yld nm) (.func (.yield W.heap.size) #[] #[]):=by
     have :=al.yld (φ:=upd φ nm ⟨W.heap.size,0,0,false,none⟩) (obj:=kf) (m:=m) nm ⟨_,by rw[<-vg,aD],rfl⟩
     rwa [aD]at this
    simp only[nH,List.length_append,List.length_singleton]at h1
    by_cases k1:i<fs.length
    ·have q1:i<us.size:=by omega
     simp only[List.append_assoc,Array.append_assoc]
     rw[List.getElem_append_left k1,Array.getElem_append_left q1]
     exact(bk i k1 q1).ext (Mem.le_refl m) hx
    ·by_cases k2:i=fs.length
     ·subst k2
      simp only[List.append_assoc,Array.append_assoc]
      rw[List.getElem_append_right (by omega),Array.getElem_append_right (by omega)]
      simp only[Nat.sub_self,e1,List.cons_append,List.getElem_cons_zero]
      rw[Array.getElem_append_left (by simp)]
      simpa using qY
     ·rw[List.getElem_append_right (by simp;omega),Array.getElem_append_right (by simp;omega)]
      have :=(bX (i-(fs.length+1)) (by omega) (by omega)).ext (Mem.le_refl m) hx
      simp only[List.length_append,List.length_singleton,Array.size_append,<-e1]
      exact this
   ·show (s.app kf _ _).ok
    rw[hR];exact aa
   ·rintro e w3 ⟨v,φ',m',rfl,mi,_,NK⟩
    have h9:s.app kf (k'::σ.pre) (c5 (ah σ g) [.yld nm])=R:=hR
    have Ef:ay G φ' m' { σ with obj:=R.obj } a' w3:=by rw[<-h9];exact mi
    have NJ:Ext (upd φ nm ⟨W.heap.size,0,0,false,none⟩) φ' kf R.obj:=by rw[<-h9];exact NK
    have Oc:kf nm=some (.loop ((List.range σ.nt).map σ.env) ps.toList asg body .ready none):=by rw[<-vg,aD]
    have vx:φ' nm=⟨W.heap.size,0,0,false,none⟩:=by
     obtain⟨o',k1,k2⟩:=NJ nm _ Oc
     rcases k2 with⟨_,k2,_⟩ | ⟨n,n',k2,_⟩
     ·rw[k2,aD]
     ·cases k2
    unfold oC at hK
    have step:∀ {dL:List E} {dC:List Nat} {a1 b1:Code} {st:LoopState} {aW:Option Code},R.obj nm=some (.loop dL dC a1 b1 st aW)->st≠ .busy->
        ∃ w4,(Instr.endLoop W.heap.size).run P w3=.ok aW w4/\ay G φ' m' { σ with obj:=j' R.obj nm } a' w4:=by
     intro dL dC a1 b1 st aW ho fA
     obtain⟨q0,q1,r',q2,q3,q4,q5,q6,q7,q8,q9⟩:=Ef.objs nm _ ho
     rw[vx]at q2
     have OR:(Instr.endLoop W.heap.size).run P w3=.ok aW (w3.putObj W.heap.size (.loop { r' with state:=.exhausted })):=by
      rw[run_endLoop (P:=P) q2 (by rw[q3];exact fA),q4]
     refine⟨_,OR,?_⟩
     have ae:=(Array.getElem?_eq_some_iff.1 q2).1
     have jF:j' R.obj nm=upd R.obj nm (some (.loop dL dC a1 b1 .exhausted aW)):=by unfold j';rw[ho]
     rw[jF]
     have :=Ef.chg (w':=w3.putObj W.heap.size (.loop { r' with state:=.exhausted })) nm (.loop dL dC a1 b1 .exhausted aW) (φ' nm) (Ext.same ho rfl rfl) ⟨rfl,rfl,rfl,by simp⟩
      (fun b _ hb=>World.putObj_heap_other (by
        rcases hb with h | h
        ·rw[q1]at h;cases h
        ·rw[vx]at h;exact h))
      (fun _=>.inr ⟨⟨_,ho,rfl,q1⟩,rfl⟩) (by
        rw[c8]
        refine⟨q0,q1,{ r' with state:=.exhausted },by rw[vx];exact World.putObj_heap_same ae,rfl,q4,q5,q6,q7,q8,fun i hi=>(q9 i hi).ext (Mem.le_refl _) ?_⟩
        have :=Ext.same (φ:=φ') (o':=.loop dL dC a1 b1 .exhausted aW) ho rfl rfl
        rwa [c8]at this)
     rw[c8]at this
     exact this
    rcases ho:R.obj nm with _ | o
    ·rw[ho]at hK;exact hK.elim
    rw[ho]at hK
    cases o with
    |loop dL dC a1 b1 st aW=>
     have fA:st≠ .busy:=by rintro rfl;exact hK.elim
     obtain⟨w4,h1,h2⟩:=step ho fA
     refine⟨aW,w4,h1,?_⟩
     cases aW with
     |none=>
      refine⟨φ',m',_,h2,?_⟩
      cases st<;>first | exact hK | exact(fA rfl).elim
     |some c=>
      cases c with
      |ret=>exact wpIn_ret ⟨φ',m',_,h2,by cases st<;>first | exact hK | exact(fA rfl).elim⟩
      |exit id=>exact wpIn_exit ⟨φ',m',_,h2,by cases st<;>first | exact hK | exact(fA rfl).elim⟩
      |_=>exfalso;cases st<;>first | exact hK | exact(fA rfl).elim
    |_=>exact hK.elim
 cases jG:G.rd with
 |none=>
  obtain⟨d,mI,f',args,w₂,h1,h2,h3⟩:=main (w.alloc (.deferred (some []))) _ w.heap.size (Qr hC) rfl
  rw[jG]at h3
  have bB:(w.alloc (.deferred (some []))).heap.size=w.heap.size+1:=by simp
  rw[bB]at h1 h3
  exact⟨w.heap.size+1,[{ target:=.collected w.heap.size,args:= #[] }],_,d,mI,f',args,w₂,run_enterLoop_outer _ _ _ _ _,h1,fun _ _=>trivial,h2,fun h=>(by simp[c0,Fence.wide]at h),h3⟩
 |some l=>
  obtain⟨kE,r0,Dm⟩:=G.rdok l jG
  have N7:w.heap[l]?=some (.loop r0):=(hC.fr.block l (Array.getElem?_eq_some_iff.1 Dm).1 kE).trans Dm
  obtain⟨d,mI,f',args,w₂,h1,h2,h3⟩:=main w a r0.defers hC rfl
  rw[jG]at h3
  exact⟨w.heap.size,[],_,d,mI,f',args,w₂,run_enterLoop_inner N7 _ _ _ _ _,h1,fun _ _=>trivial,h2,fun h=>(by simp[c0,Fence.wide]at h),h3⟩
theorem cC.refl(σ:S):cC σ σ:=fun _ φ _ _ _ hC=>⟨φ,hC⟩
theorem cC.trans{a b c:S}(h:cC a b)(k:cC b c):cC a c:=fun G φ m x w hC=>by
 obtain⟨φ',h'⟩:=h G φ m x w hC
 exact k G φ' m x w h'
theorem bN{σ τ:S}(ks:List Nat)(ns:List Name)(h:ek ks ns σ)(he:eB ks ns σ=τ):cC σ τ:=he▸sX ks ns h
def oe(l c:List (Nat×E)):List (Nat×E):=l.map fun q=>(q.1,(c.lookup q.1).getD q.2)
def od(l c:List (Name×O)):List (Name×O):=l.map fun q=>(q.1,(c.lookup q.1).getD q.2)
theorem QD{P:Program}{c:Code}{r:List Code}{σ:S}{K:Exit->S->Prop}(ks:List Nat)(ns:List Name)(h:ek ks ns σ)(hc:CL P (c::r) (eB ks ns σ) K):CL P (c::r) σ K:=
 sb (sX ks ns h) hc
theorem cL{P:Program}{c:Code}{r:List Code}{K:Exit->S->Prop}{nt:Nat}{p:Name}{H:Name->Option O}{l:List (Nat×E)}{h:List (Name×O)}{ι:Type}
 (chg:ι->List (Nat×E)) (qm:ι->List (Name×O)) (R:ι->Prop) (μ:ι->Nat) (i0:ι) (hR:R i0) (he:oe l (chg i0)=l) (ho:od h (qm i0)=h)
 (round:∀ i,R i->CL P [c] (aZ nt p H (oe l (chg i)) (od h (qm i))) (ll (fun σ'=>∃ i',R i'/\μ i'<μ i/\cC σ' (aZ nt p H (oe l (chg i')) (od h (qm i')))) K)):
 CL P (.loop c::r) (aZ nt p H l h) K:=by
 refine QC (fun i=>aZ nt p H (oe l (chg i)) (od h (qm i))) R μ i0 hR ?_ round
 rw[he,ho]
 exact .refl _
attribute [go_sem] oe od List.lookup_cons List.lookup_nil List.getElem?_toArray List.getElem?_cons_succ List.getElem?_cons_zero beq_true beq_false ite_self Bool.and_self Bool.or_self imp_self Bool.if_true_right Bool.if_false_right Bool.if_true_left Bool.if_false_left Bool.decide_eq_true
attribute [go_sem] ou gj ox oy distinct dQ c4 bL fj dr Bool.and_eq_true
def cN(a b:Nat):Bool:=Nat.ble a b
def dD(a b:Nat):Bool:=Nat.ble (a+1) b
def bt(a b:Nat):Bool:=Nat.beq a b
def bM(a b:Int):Bool:=match b-a with
 | .ofNat _=>true
 | .negSucc _=>false
def fz(a b:Int):Bool:=match b-a-1 with
 | .ofNat _=>true
 | .negSucc _=>false
def mY{α:Type}:Option α->Bool
 |none=>true
 |some _=>false
def jr:Option Nat->Nat->Bool
 |some a,b=>Nat.beq a b
 |none,_=>false
def nX(sz:Nat):List V->Bool
 |[]=>true
 |x::r=>Nat.beq x.cells.length sz&&nX sz r
def nY(sz:Nat):List V->Bool
 |[]=>true
 |x::r=>Nat.beq x.cells.length sz&&x.okc&&nY sz r
def oE(a b:IntKind):Bool:=match a,b with
 | .i64,.i64=>true
 | .u8,.u8=>true
 | .u64,.u64=>true
 | .i32,.i32=>true
 | .u32,.u32=>true
 |_,_=>false
def uH(P:Program)(T:TypeId):Bool:=match P.underlying T with
 |some .bool=>true
 |_=>false
def isEq:BinOp->Bool
 | .eql=>true
 | .neq=>true
 |_=>false
def lF:Int->Bool
 | .ofNat 0=>true
 |_=>false
theorem lz{a b:Nat}(h:cN a b=true):a<=b:=Nat.le_of_ble_eq_true h
theorem qq{a b:Nat}(h:dD a b=true):a<b:=Nat.le_of_ble_eq_true h
theorem fv{a b:Nat}(h:bt a b=true):a=b:=Nat.eq_of_beq_eq_true h
theorem du{a b:Int}(h:bM a b=true):a<=b:=by
 unfold bM at h
 split at h
 ·rename_i n hn
  have :(0:Int)<=b-a:=by rw[hn];exact Int.natCast_nonneg n
  omega
 ·cases h
theorem Nu{a b:Int}(h:fz a b=true):a<b:=by
 unfold fz at h
 split at h
 ·rename_i n hn
  have :(0:Int)<=b-a-1:=by rw[hn];exact Int.natCast_nonneg n
  omega
 ·cases h
theorem qo{α:Type}{o:Option α}(h:mY o=true):o=none:=by cases o<;>simp_all[mY]
theorem kg{o:Option Nat}{b:Nat}(h:jr o b=true):o=some b:=by
 cases o with
 |none=>cases h
 |some a=>rw[Nat.eq_of_beq_eq_true h]
theorem sM{sz:Nat}:∀ {l:List V},nX sz l=true->∀ x∈l,x.cells.length=sz
 |y::r,h,x,hx=>by
  simp only[nX,Bool.and_eq_true]at h
  rcases List.mem_cons.1 hx with rfl | hx
  ·exact Nat.eq_of_beq_eq_true h.1
  ·exact sM h.2 x hx
theorem sO{sz:Nat}:∀ {l:List V},nY sz l=true->∀ x∈l,x.cells.length=sz/\x.okc=true
 |y::r,h,x,hx=>by
  simp only[nY,Bool.and_eq_true]at h
  rcases List.mem_cons.1 hx with rfl | hx
  ·exact⟨Nat.eq_of_beq_eq_true h.1.1,h.1.2⟩
  ·exact sO h.2 x hx
theorem Cy{a b:IntKind}(h:oE a b=true):a=b:=by unfold oE at h;split at h<;>first | rfl | cases h
theorem Ng{P:Program}{T:TypeId}(h:uH P T=true):P.underlying T=some .bool:=by unfold uH at h;split at h<;>first | assumption | cases h
theorem qP{op:BinOp}(h:isEq op=true):op=.eql\/op=.neq:=by cases op<;>first | exact .inl rfl | exact .inr rfl | cases h
theorem Nc{n:Int}(h:lF n=false):n≠0:=by rintro rfl;cases h
section
variable (P:Program) (obj:Name->Option O)
def pK(T:TypeId)(x:D):Bool:=
 match aE P T with
 |none=>false
 |some (ag,n)=>match x with
  | .v (.ptr cs)=>match ag with
    |true=>cN n cs.length
    |false=>bt n 1&&dD 0 cs.length
  | .ref nm off=>match obj nm with
    |some (.box cs)=>match ag with
     |true=>cN (off+n) cs.length
     |false=>bt n 1&&dD off cs.length
    |some (.fbox cs)=>match ag with
     |true=>cN (off+n) cs.length
     |false=>bt n 1&&dD off cs.length
    |_=>false
  | .aref nm k i off=>match obj nm with
    |some (.arr _ l)=>bt k l.length&&dD i l.length&&(match ag with
     |true=>cN (off+n) (l.getD i default).cells.length
     |false=>bt n 1&&dD off (l.getD i default).cells.length)
    |some (.farr _ l)=>bt k l.length&&dD i l.length&&(match ag with
     |true=>cN (off+n) (l.getD i default).cells.length
     |false=>bt n 1&&dD off (l.getD i default).cells.length)
    |_=>false
  |_=>false
def sD(T:TypeId)(f:Nat)(x:D):Bool:=
 match be P T f with
 |none=>false
 |some (off,n,_)=>!bt n 0&&match x with
  | .v (.ptr cs)=>cN (off+n) cs.length
  | .ref _ _=>true
  | .aref nm k _ _=>match obj nm with
    |some o=>jr o.len? k
    |none=>false
  |_=>false
def sA(T:TypeId)(x i:D):Bool:=
 match i with
 | .v (.int _ n)=>match x with
   | .v (.sl l)=>match bg P T with
     |some (_,sz,_)=>bM 0 n&&fz n l.length&&bt (l.getD n.toNat default).cells.length sz
     |none=>false
   | .msl nm k=>match bg P T with
     |some (_,sz,_)=>match obj nm with
      |some (.arr s l)=>bM 0 n&&fz n l.length&&bt k l.length&&bt s sz
      |some (.farr s l)=>bM 0 n&&fz n l.length&&bt k l.length&&bt s sz
      |_=>false
     |none=>false
   | .ref _ _=>match dP P T with
     |some (len,_,_)=>bM 0 n&&fz n len
     |none=>false
   | .v (.ptr cs)=>match dP P T with
     |some (len,sz,_)=>bM 0 n&&fz n len&&cN (n.toNat*sz+sz) cs.length
     |none=>false
   |_=>false
 |_=>false
def FH(op:BinOp)(k k':IntKind)(b:Int):Bool:=
 match op with
 | .quo=>oE k k'&&!lF b
 | .rem=>oE k k'&&!lF b
 | .shl=>bM 0 b
 | .shr=>bM 0 b
 |_=>oE k k'
def Fx(op:BinOp)(a b:ByteArray):Bool:=
 match op with
 | .add=>cN (a.size+b.size) maxLen
 | .eql | .neq | .lss | .leq | .gtr | .geq=>true
 |_=>false
def xl(op:BinOp)(T:TypeId)(x y:D):Bool:=
 match x,y with
 | .v (.int k _),.v (.int k' b)=>FH op k k' b
 | .v (.str a),.v (.str b)=>Fx op a b
 | .v (.bool _),.v (.bool _)=>uH P T&&isEq op
 |_,_=>false
def xh(op:BinOp)(T:TypeId)(x y:V):Bool:=
 match jU P Op.maxDepth T x y with
 |some _=>!(P.eqGuardType P.depth T)&&isEq op
 |none=>false
def xf(op:BinOp)(T:TypeId)(x:D):Bool:=
 match x with
 | .v (.sl (_::_))=>jr (bJ P T) 0&&isEq op
 | .msl nm (k+1)=>(match obj nm with | some o=>jr o.len? (k+1) | none=>false)&&jr (bJ P T) 0&&isEq op
 |_=>false
def sI(op:BinOp)(T:TypeId)(x y:D)(fU:Bool):Bool:=
 match fU with
 |true=>xf P obj op T x
 |false=>match ck x,ck y with
  |some (.agg a),some (.agg b)=>xh P op T (.agg a) (.agg b)
  |_,_=>xl P op T x y
def si(op:UnOp)(x:D):Bool:=
 match op,x with
 | .not,.v (.bool _)=>true
 | .neg,.v (.int _ _)=>true
 |_,_=>false
def sG(src dst:TypeId)(x:D):Bool:=
 match j8 P src dst with
 | 0=>match fo P dst,x with
   |some _,.v (.int _ _)=>(P.underlying src).isSome
   |_,_=>false
 |_=>false
def sF(x:D)(i:Nat):Bool:=
 match x with
 | .tup l=>dD i l.length
 | .v (.tup l)=>dD i l.length
 |_=>false
def sp(x:D):Bool:=
 match x with
 | .ref _ _=>true
 | .v (.ptr _)=>true
 | .aref nm k _ _=>match obj nm with
   |some o=>jr o.len? k
   |none=>false
 |_=>false
def pM(t:Name)(x:D):Bool:=mY (obj (aI t))&&x.boxable
def sK(t:Name)(T:TypeId):Bool:=match aH P T with
 |some z=>pM obj t (eW z)
 |none=>false
def sH(T:TypeId)(parts:List (Nat×D)):Bool:=
 match dA P T,aH P T with
 |some ps,some z=>match eW z with
  | .agg cs=>match mq (fun i=>ps[i]?) cs parts with
    |some _=>true
    |none=>false
  |_=>false
 |_,_=>false
def sj(T:TypeId)(x d:D):Bool:=
 match aE P T with
 |none=>false
 |some (_,n)=>match x with
  | .ref nm off=>match obj nm with
    |some (.box cs)=>d.boxable&&bt d.cells.length n&&cN (off+n) cs.length
    |_=>false
  | .aref nm k i off=>match obj nm with
    |some (.arr sz l)=>match ck d with
     |some y=>bt k l.length&&dD i l.length&&bt y.cells.length n&&y.okc&&cN (off+n) sz&&!bt sz 0
     |none=>false
    |_=>false
  |_=>false
def sv(t:Name)(T:TypeId)(r:Option D):Bool:=
 match gw P T,r with
 |some _,none=>mY (obj (aI t))
 |_,_=>false
def su(t:Name)(T:TypeId)(l c:D):Bool:=
 match bg P T,l,c with
 |some (e,sz,by_),.v (.int _ n),.v (.int _ n')=>match (aH P e).bind fun z=>ck (eW z)with
  |some zv=>bM n n'&&bM n' n&&bM 0 n&&bM ((by_:Int)*n) 281474976710656&&bM n 9223372036854775807&&bt zv.cells.length sz&&zv.okc&&!bt sz 0&&mY (obj (aI t))
  |none=>false
 |_,_,_=>false
def sx(T:TypeId)(x:D):Bool:=
 match bJ P T,x with
 |some 0,.v (.sl _)=>true
 |some 0,.nilsl=>true
 |some 0,.msl nm k=>match obj nm with
  |some o=>jr o.len? k
  |none=>false
 |some 1,.v (.str _)=>true
 |some 2,.nilmap=>true
 |some 2,.map nm=>match obj nm with
  |some (.map _ _)=>true
  |_=>false
 |_,_=>false
def sk(T:TypeId)(x:D)(lo hi mx:Option D):Bool:=
 match mx with
 |none=>match x with
  | .v (.sl l)=>match bg P T,dt lo,fG l.length hi with
    |some (_,sz,_),some i,some j=>bM 0 i&&bM i j&&bM j l.length&&nX sz l
    |_,_,_=>false
  | .nilsl=>match bg P T,dt lo,fG 0 hi with
    |some (_,_,_),some i,some j=>lF i&&lF j
    |_,_,_=>false
  | .msl nm k=>match obj nm,bg P T,dt lo,fG k hi with
    |some (.arr _ l),some (_,sz,_),some i,some j=>bt k l.length&&bM 0 i&&bM i j&&bM j l.length&&nX sz l
    |some (.farr _ l),some (_,sz,_),some i,some j=>bt k l.length&&bM 0 i&&bM i j&&bM j l.length&&nX sz l
    |_,_,_,_=>false
  | .v (.str s)=>match bJ P T,dt lo,fG s.size hi with
    |some 1,some i,some j=>bM 0 i&&bM i j&&bM j s.size
    |_,_,_=>false
  |_=>false
 |some (.v (.int _ 0))=>match bg P T,dt lo,hi with
  |some _,some 0,some (.v (.int _ 0))=>match x with
   | .v (.sl _)=>true
   | .nilsl=>true
   | .msl nm k=>match obj nm with
     |some o=>jr o.len? k
     |none=>false
   |_=>false
  |_,_,_=>false
 |some _=>false
def sE(T:TypeId)(x:D)(f:Nat):Bool:=
 match be P T f with
 |none=>false
 |some (off,n,ag)=>match x with
  | .agg l=>match ag with
    |true=>cN (off+n) l.length
    |false=>dD off l.length
  | .v (.agg l)=>match ag with
    |true=>cN (off+n) l.length
    |false=>dD off l.length
  |_=>false
def sC(T:TypeId)(x i:D):Bool:=
 match i with
 | .v (.int _ n)=>match x with
   | .v (.str s)=>jr (bJ P T) 1&&bM 0 n&&fz n s.size
   | .agg l=>match dP P T with
     |some (len,sz,true)=>bM 0 n&&fz n len&&cN (n.toNat*sz+sz) l.length
     |some (len,sz,false)=>bM 0 n&&fz n len&&dD (n.toNat*sz) l.length
     |none=>false
   | .v (.agg l)=>match dP P T with
     |some (len,sz,true)=>bM 0 n&&fz n len&&cN (n.toNat*sz+sz) l.length
     |some (len,sz,false)=>bM 0 n&&fz n len&&dD (n.toNat*sz) l.length
     |none=>false
   |_=>false
 |_=>false
def sw(T:TypeId)(x k:D):Bool:=
 match gw P T with
 |some (kd,e)=>match (aH P e).bind fun z=>ck (eW z),ck k with
  |some _,some kv=>match x with
   | .nilmap=>cN kd 2&&bZ kd kv
   | .map nm=>match obj nm with
     |some (.map fy _)=>cN kd 2&&bZ kd kv&&bt fy kd
     |_=>false
   |_=>false
  |_,_=>false
 |none=>false
def pJ(T:TypeId)(x k d:D):Bool:=
 match gw P T,x,ck k,ck d with
 |some (kd,_),.map nm,some kv,some _=>match obj nm with
  |some (.map fy _)=>cN kd 2&&bZ kd kv&&bt fy kd
  |_=>false
 |_,_,_,_=>false
def sn(c:D):Bool:=match c with
 | .v (.bool _)=>true
 |_=>false
def pI(x:D):Bool:=match x with
 | .v (.sl _)=>true
 | .nilsl=>true
 | .msl nm k=>match obj nm with
   |some (.arr _ l)=>bt k l.length
   |some (.farr _ l)=>bt k l.length
   |_=>false
 |_=>false
def sJ(t:Name)(T1 T2:TypeId)(s x:D):Bool:=
 match bg P T1,bg P T2 with
 |some (e,sz,by_),some _=>match aH P e with
  |some z=>match s with
   | .nilsl=>pI obj x&&nY sz (av obj x).2&&bt z.cells.size sz&&cN ((av obj x).2.length*by_) 140737488355328&&cN (av obj x).2.length maxLen&&mY (obj (aI t))
   | .msl nm k=>match obj nm with
     |some (.arr s' l)=>pI obj x&&nY sz (av obj x).2&&bt z.cells.size sz&&cN ((l.length+(av obj x).2.length)*by_) 140737488355328&&
        cN (l.length+(av obj x).2.length) maxLen&&bt k l.length&&bt s' sz
     |_=>false
   |_=>false
  |none=>false
 |_,_=>false
variable {P obj}
theorem kh{a b:Nat}:cN a b=true↔a<=b:=⟨lz,Nat.ble_eq_true_of_le⟩
theorem oz{a b:Nat}:dD a b=true↔a<b:=⟨qq,Nat.ble_eq_true_of_le⟩
theorem ki{a b:Nat}:bt a b=true↔a=b:=⟨fv,fun h=>by subst h;simp[bt]⟩
theorem qs{a b:Nat}:bt a b=false↔a≠b:=by
 rw[<-Bool.not_eq_true,ki]
theorem C7{a b:Int}:bM a b=true↔a<=b:=⟨du,fun h=>by
 unfold bM
 split
 ·rfl
 ·rename_i n hn;have:=Int.negSucc_lt_zero n;omega⟩
theorem C6{a b:Int}:fz a b=true↔a<b:=⟨Nu,fun h=>by
 unfold fz
 split
 ·rfl
 ·rename_i n hn;have:=Int.negSucc_lt_zero n;omega⟩
theorem CR{n:Int}:lF n=true↔n=0:=⟨fun h=>(by unfold lF at h;split at h<;>first | rfl | cases h),fun h=>(by subst h;rfl)⟩
theorem xg{T:TypeId}{x:D}(h:pK P obj T x=true):(eR P obj T x).ok:=by
 unfold pK at h
 unfold eR
 (repeat' split at h)<;>simp_all[kh,oz,ki,-List.getD_eq_getElem?_getD]
theorem FL{T:TypeId}{f:Nat}{x:D}(h:sD P obj T f x=true):(gq P obj T f x).ok:=by
 unfold sD at h
 unfold gq
 split at h
 ·cases h
 ·simp only[Bool.and_eq_true,Bool.not_eq_true',qs]at h
  obtain⟨h1,h⟩:=h
  (repeat' split at h)<;>simp_all[kh]
  exact kg h
theorem FJ{T:TypeId}{x i:D}(h:sA P obj T x i=true):(gp P obj T x i).ok:=by
 unfold sA at h
 unfold gp
 (repeat' split at h)<;>simp_all[kh,ki,C7,C6,-List.getD_eq_getElem?_getD]
theorem Q1{op:BinOp}{T:TypeId}{x y:D}(h:xl P op T x y=true):(iy P obj op T x y).ok:=by
 unfold xl at h
 unfold iy
 split at h
 ·simp only
  unfold FH at h
  unfold sy
  cases op<;>simp only[Bool.and_eq_true,Bool.not_eq_true']at h |- <;>first
   |exact⟨Cy h.1,Nc h.2⟩
   |exact Cy h
   |exact du h
 ·simp only
  unfold Fx at h
  unfold pH
  cases op<;>simp only at h |- <;>first | exact lz h | trivial | (cases h;done)
 ·simp only[Bool.and_eq_true]at h
  exact⟨Ng h.1,qP h.2⟩
 ·cases h
theorem QX{op:BinOp}{T:TypeId}{x y:V}(h:xh P op T x y=true):(kZ P obj op T x y).ok:=by
 unfold xh at h
 unfold kZ
 split at h
 ·rename_i b hb
  simp only[Bool.and_eq_true,Bool.not_eq_true']at h
  rw[hb]
  exact⟨h.1,qP h.2⟩
 ·cases h
theorem QW{op:BinOp}{T:TypeId}{x:D}(h:xf P obj op T x=true):(jY P obj op T x).ok:=by
 unfold xf at h
 unfold jY
 split at h
 ·simp only[Bool.and_eq_true]at h
  exact⟨kg h.1,qP h.2⟩
 ·rename_i nm k
  simp only[Bool.and_eq_true]at h
  refine⟨?_,kg h.1.2,qP h.2⟩
  have h1:=h.1.1
  split at h1
  ·rename_i o ho;rw[ho];exact kg h1
  ·cases h1
 ·cases h
theorem FQ{op:BinOp}{T:TypeId}{x y:D}{n:Bool}(h:sI P obj op T x y n=true):(gQ P obj op T x y n).ok:=by
 unfold sI at h
 unfold gQ
 cases n with
 |true=>exact QW h
 |false=>
  simp only at h |-
  split at h
  ·rename_i h1 h2
   simp only[h1,h2]
   exact QX h
  ·rename_i ar
   split
   ·rename_i h1 h2;exact(ar _ _ h1 h2).elim
   ·exact Q1 h
theorem Fw{op:UnOp}{x:D}(h:si op x=true):(gI obj op x).ok:=by
 unfold si at h
 unfold gI
 split at h<;>first | trivial | cases h
theorem FO{s d:TypeId}{x:D}(h:sG P s d x=true):(ix P obj s d x).ok:=by
 unfold sG at h
 unfold ix
 split at h
 ·rename_i h0
  rw[h0]
  show (j0 P obj s d x).ok
  unfold j0
  (repeat' split at h)<;>simp_all
 ·cases h
theorem FM{x:D}{i:Nat}(h:sF x i=true):(gM obj x i).ok:=by
 unfold sF at h
 unfold gM
 split at h<;>simp_all[oz]
theorem FC{x:D}(h:sp obj x=true):(fL obj x).ok:=by
 unfold sp at h
 unfold fL
 (repeat' split at h)<;>simp_all
 exact kg h
theorem xk{t:Name}{x:D}(h:pM obj t x=true):(gP obj t x).ok:=by
 simp only[pM,Bool.and_eq_true]at h
 exact⟨qo h.1,h.2⟩
theorem FU{t:Name}{T:TypeId}(h:sK P obj t T=true):(iz P obj t T).ok:=by
 unfold sK at h
 unfold iz
 split at h
 ·rename_i z hz;rw[hz];exact xk h
 ·cases h
theorem FP{T:TypeId}{ps:List (Nat×D)}(h:sH P T ps=true):(gO P obj T ps).ok:=by
 unfold sH at h
 unfold gO
 (repeat' split at h)<;>simp_all
theorem Fy{T:TypeId}{x d:D}(h:sj P obj T x d=true):(fK P obj T x d).ok:=by
 unfold sj at h
 unfold fK
 (repeat' split at h)<;>simp_all[kh,oz,ki,qs]
theorem FE{t:Name}{T:TypeId}{r:Option D}(h:sv P obj t T r=true):(iv P obj t T r).ok:=by
 unfold sv at h
 unfold iv
 (repeat' split at h)<;>simp_all
 exact qo h
theorem FD{t:Name}{T:TypeId}{l c:D}(h:su P obj t T l c=true):(iu P obj t T l c).ok:=by
 unfold su at h
 unfold iu
 split at h
 ·rename_i e sz by_ k n k' n' hT
  rw[hT]
  simp only
  split at h
  ·rename_i zv hz
   simp only[Bool.and_eq_true,Bool.not_eq_true',qs]at h
   obtain⟨⟨⟨⟨⟨⟨⟨⟨h1,h2⟩,h3⟩,h4⟩,h5⟩,h6⟩,h7⟩,h8⟩,h9⟩:=h
   rw[hz]
   exact⟨Int.le_antisymm (du h2) (du h1),du h3,du h4,du h5,fv h6,h7,h8,qo h9⟩
  ·cases h
 ·cases h
theorem FG{T:TypeId}{x:D}(h:sx P obj T x=true):(fM P obj T x).ok:=by
 unfold sx at h
 unfold fM
 (repeat' split at h)<;>simp_all
 exact kg h
theorem FA{T:TypeId}{x:D}{lo hi mx:Option D}(h:sk P obj T x lo hi mx=true):(er P obj T x lo hi mx).ok:=by
 unfold sk at h
 unfold er
 split at h
 ·split at h
  ·split at h
   ·rename_i h1 h2 h3
    simp only[Bool.and_eq_true]at h
    simp only[h1,h2,h3]
    exact⟨du h.1.1.1,du h.1.1.2,du h.1.2,sM h.2⟩
   ·cases h
  ·split at h
   ·rename_i h1 h2 h3
    simp only[Bool.and_eq_true]at h
    simp only[h1,h2,h3]
    exact⟨CR.1 h.1,CR.1 h.2⟩
   ·cases h
  ·split at h
   ·rename_i h1 h2 h3 h4
    simp only[Bool.and_eq_true]at h
    simp only[h1,h2,h3,h4]
    exact⟨fv h.1.1.1.1,du h.1.1.1.2,du h.1.1.2,du h.1.2,sM h.2⟩
   ·rename_i h1 h2 h3 h4
    simp only[Bool.and_eq_true]at h
    simp only[h1,h2,h3,h4]
    exact⟨fv h.1.1.1.1,du h.1.1.1.2,du h.1.1.2,du h.1.2,sM h.2⟩
   ·cases h
  ·split at h
   ·rename_i h1 h2 h3
    simp only[Bool.and_eq_true]at h
    simp only[h1,h2,h3]
    exact⟨du h.1.1,du h.1.2,du h.2⟩
   ·cases h
  ·cases h
 ·split at h
  ·rename_i h1 h2 h3
   split at h
   ·simp only[h2,h3]
   ·simp only[h2,h3]
   ·split at h
    ·rename_i o ho
     simp only[h2,h3,ho]
     exact kg h
    ·cases h
   ·cases h
  ·cases h
 ·cases h
theorem FK{T:TypeId}{x:D}{f:Nat}(h:sE P T x f=true):(gL P obj T x f).ok:=by
 unfold sE at h
 unfold gL
 (repeat' split at h)<;>simp_all[kh,oz]
theorem FI{T:TypeId}{x i:D}(h:sC P T x i=true):(gK P obj T x i).ok:=by
 unfold sC at h
 unfold gK
 (repeat' split at h)<;>simp_all[kh,oz,C7,C6]
 exact kg h.1.1
theorem FF{T:TypeId}{x k:D}{c:Bool}(h:sw P obj T x k=true):(gJ P obj T x k c).ok:=by
 unfold sw at h
 unfold gJ
 (repeat' split at h)<;>simp_all[kh,ki]
theorem sr{T:TypeId}{x k d:D}(h:pJ P obj T x k d=true):(fk P obj T x k d).ok:=by
 unfold pJ at h
 unfold fk
 (repeat' split at h)<;>simp_all[kh,ki]
theorem FB{c x y:D}(h:sn c=true):(eQ obj c x y).ok:=by
 unfold sn at h
 unfold eQ
 split at h<;>first | trivial | cases h
theorem xe{x:D}(h:pI obj x=true):(av obj x).1:=by
 unfold pI at h
 unfold av
 (repeat' split at h)<;>simp_all[ki]
theorem FT{t:Name}{T1 T2:TypeId}{s x:D}(h:sJ P obj t T1 T2 s x=true):(bI P obj t T1 T2 s x).ok:=by
 unfold sJ at h
 unfold bI
 split at h
 ·rename_i e sz by_ p h1 h2
  split at h
  ·rename_i z hz
   split at h
   ·simp only[Bool.and_eq_true]at h
    simp only[h1,h2,hz]
    exact⟨xe h.1.1.1.1.1,sO h.1.1.1.1.2,fv h.1.1.1.2,lz h.1.1.2,lz h.1.2,qo h.2⟩
   ·split at h
    ·rename_i ho
     simp only[Bool.and_eq_true]at h
     simp only[h1,h2,hz,ho]
     exact⟨xe h.1.1.1.1.1.1,sO h.1.1.1.1.1.2,fv h.1.1.1.1.2,lz h.1.1.1.2,lz h.1.1.2,fv h.1.2,fv h.2⟩
    ·cases h
   ·cases h
  ·cases h
 ·cases h
end
def jR(f:(Name->Option O)->D->Bool)(g:(Name->Option O)->D->FR)(obj:Name->Option O):List D->Bool
 |[]=>true
 |d::r=>f obj d&&jR f g (g obj d).obj r
def fH:Nat->(Name->Option O)->D->Bool
 | 0,obj,d=>match d with
   | .v _=>true
   | .nilsl=>true
   |_=>false
 |n+1,obj,d=>match d with
  | .v _=>true
  | .nilsl=>true
  | .msl nm k=>match obj nm with
    |some (.arr _ l)=>decide (k=l.length)
    |some (.farr _ l)=>decide (k=l.length)
    |_=>false
  | .ref nm _=>match obj nm with
    |some (.box cs)=>jR (fH n) (aq n) obj cs&&!dG (cg (fp n obj) cs) nm
    |some (.fbox _)=>true
    |_=>false
  | .agg l=>jR (fH n) (aq n) obj l
  | .tup l=>jR (fH n) (aq n) obj l
  | .clo _ f c=>jR (fH n) (aq n) obj f&&jR (fH n) (aq n) (aG (aq n) obj f).obj c
  |_=>false
theorem wu{n:Nat}(ih:∀ obj d,fH n obj d=true->(aq n obj d).ok):∀ (l:List D) (obj:Name->Option O),jR (fH n) (aq n) obj l=true->(aG (aq n) obj l).ok
 |[],_,_=>trivial
 |d::r,obj,h=>by
  simp only[jR,Bool.and_eq_true]at h
  exact⟨ih obj d h.1,wu ih r _ h.2⟩
theorem Ep:∀ (n:Nat) (obj:Name->Option O) (d:D),fH n obj d=true->(aq n obj d).ok
 | 0,obj,d,h=>by cases d<;>first | trivial | (simp[fH]at h)
 |n+1,obj,d,h=>by
  have ih:=wu (Ep n)
  cases d with
  |v x=>trivial
  |nilsl=>trivial
  |msl nm k=>
   simp only[fH]at h
   unfold aq
   rcases ho:obj nm with _ | o
   ·simp[ho]at h
   ·cases o<;>simp[ho]at h |- <;>exact h
  |ref nm off=>
   simp only[fH]at h
   rcases ho:obj nm with _ | o
   ·simp[ho]at h
   ·cases o with
    |box cs=>
     simp only[ho,Bool.and_eq_true,Bool.not_eq_true']at h
     simp only[aq,ho]
     refine⟨ih cs obj h.1,?_⟩
     have :=(px (rV n) cs obj obj (cg (fp n obj) cs) (fun _ hn=>hn) (fun _ _=>rfl)).2.frame nm (fun hn=>by rw[lH.2 hn]at h;cases h.2)
     rw[this,ho]
    |fbox cs=>simp only[aq,ho]
    |_=>simp[ho]at h
  |agg l=>exact ih l obj h
  |tup l=>exact ih l obj h
  |clo fn f c=>
   simp only[fH,Bool.and_eq_true]at h
   exact⟨ih f obj h.1,ih c _ h.2⟩
  |_=>simp[fH]at h
def isNil{α:Type}:List α->Bool
 |[]=>true
 |_=>false
theorem Nd{α:Type}{l:List α}:isNil l=true↔l=[]:=by cases l<;>simp[isNil]
def qN:Nat->List Nat->Bool
 |_,[]=>true
 |k,x::r=>bt x k&&qN (k+1) r
theorem CS:∀ {k:Nat} {l:List Nat},qN k l=true->l=List.range' k l.length
 |k,[],_=>rfl
 |k,x::r,h=>by
  simp only[qN,Bool.and_eq_true]at h
  rw[fv h.1,List.length_cons,List.range'_succ]
  congr 1
  exact CS h.2
def xc(P:Program)(obj:Name->Option O)(T:TypeId)(n:Nat)(parts:List (Nat×D)):Bool:=
 match bg P T with
 |some (e,sz,_)=>match bt n 0&&isNil parts with
  |true=>(aH P e).isSome
  |false=>jR (fH 4) (aq 4) obj (parts.map fun p=>p.2)&&qN 0 (parts.map fun p=>p.1)&&bt parts.length n&&nY sz (aG (aq 4) obj (parts.map fun p=>p.2)).xs&&
     cN (n*sz) 16777216&&!bt sz 0&&(aH P e).isSome&&dD 0 n
 |none=>false
theorem QM{P:Program}{obj:Name->Option O}{T:TypeId}{n:Nat}{parts:List (Nat×D)}(h:xc P obj T n parts=true):(jf P obj T n parts).ok:=by
 unfold xc at h
 unfold jf
 split at h
 ·rename_i e sz by_ hT
  rw[hT]
  simp only
  split at h
  ·rename_i hc
   simp only[Bool.and_eq_true,ki,Nd]at hc
   rw[if_pos hc];exact h
  ·rename_i hc
   have gd:¬ (n=0/\parts=[]):=by
    intro ⟨a,b⟩
    subst a;subst b
    cases hc
   rw[if_neg gd]
   simp only[Bool.and_eq_true,Bool.not_eq_true',qs]at h
   obtain⟨⟨⟨⟨⟨⟨⟨h1,h2⟩,rP⟩,h3⟩,h4⟩,h5⟩,h6⟩,h7⟩:=h
   refine⟨?_,wu (Ep 4) _ _ h1,sO h3,lz h4,h5,h6,qq h7⟩
   have :=CS h2
   rw[List.length_map,fv rP,<-List.range_eq_range']at this
   exact this
 ·cases h
def xb(P:Program)(σ:S)(t:Name)(b:Builtin)(ts:List TypeId)(args:List D):Bool:=
 match b,ts,args with
 | .len,[T],[x]=>sx P σ.obj T x
 | .append,[T1,T2],[s,x]=>sJ P σ.obj t T1 T2 s x
 | .min,_,[.v (.int _ _),.v (.int _ _)]=>true
 | .max,_,[.v (.int _ _),.v (.int _ _)]=>true
 |_,_,_=>false
def yF(P:Program)(σ:S)(t:Name):Op->Bool
 | .move _=>true
 | .assign _=>true
 | .pick c _ _=>sn (ah σ c)
 | .alloc T=>sK P σ.obj t T
 | .box _ x=>pM σ.obj t (ah σ x)
 | .build T ps=>sH P T (ps.toList.map fun p=>(p.1,ah σ p.2))
 | .buildSlice T n ps=>xc P σ.obj T n (ps.toList.map fun p=>(p.1,ah σ p.2))
 | .load T x=>pK P σ.obj T (ah σ x)
 | .store T x d=>sj P σ.obj T (ah σ x) (ah σ d)
 | .nilCheck x=>sp σ.obj (ah σ x)
 | .binOp op T x y _=>sI P σ.obj op T (ah σ x) (ah σ y) (qO y)
 | .unOp op _ x=>si op (ah σ x)
 | .convert s d x=>sG P s d (ah σ x)
 | .makeFunc _ _ _=>true
 | .makeMap T r=>sv P σ.obj t T (r.map (ah σ))
 | .makeSlice T l c=>su P σ.obj t T (ah σ l) (ah σ c)
 | .slice T x lo hi mx=>sk P σ.obj T (ah σ x) (lo.map (ah σ)) (hi.map (ah σ)) (mx.map (ah σ))
 | .fieldAddr T x f=>sD P σ.obj T f (ah σ x)
 | .field T x f=>sE P T (ah σ x) f
 | .indexAddr T x i=>sA P σ.obj T (ah σ x) (ah σ i)
 | .index T x i=>sC P T (ah σ x) (ah σ i)
 | .lookup T x i _=>sw P σ.obj T (ah σ x) (ah σ i)
 | .mapUpdate T x k d=>pJ P σ.obj T (ah σ x) (ah σ k) (ah σ d)
 | .insert T x k d=>pJ P σ.obj T (ah σ x) (ah σ k) (ah σ d)
 | .extract x i=>sF (ah σ x) i
 | .call ⟨.builtin b,args,ts⟩=>xb P σ t b ts.toList (args.toList.map (ah σ))
 |_=>false
theorem QL{P:Program}{σ:S}{t:Name}{b:Builtin}{ts:List TypeId}{args:List D}(h:xb P σ t b ts args=true):(gN P σ t b ts args).ok:=by
 unfold xb at h
 split at h
 ·exact FG h
 ·exact FT h
 ·trivial
 ·trivial
 ·cases h
theorem Jg{P:Program}{Γ:FuncId->Option Spec}{σ:S}{t:Name}{op:Op}(h:yF P σ t op=true):(aF P Γ σ t op).ok:=by
 cases op with
 |call c=>
  obtain⟨callee,args,ts⟩:=c
  cases callee with
  |value f=>cases h
  |builtin b=>exact QL h
  |invoke=>cases h
 |move=>trivial
 |assign=>trivial
 |makeFunc=>trivial
 |pick=>exact FB h
 |alloc=>exact FU h
 |box=>exact xk h
 |build=>exact FP h
 |buildSlice=>exact QM h
 |load=>exact xg h
 |store=>exact Fy h
 |nilCheck=>exact FC h
 |binOp=>exact FQ h
 |unOp=>exact Fw h
 |convert=>exact FO h
 |makeMap=>exact FE h
 |makeSlice=>exact FD h
 |slice=>exact FA h
 |fieldAddr=>exact FL h
 |field=>exact FK h
 |indexAddr=>exact FJ h
 |index=>exact FI h
 |lookup=>exact FF h
 |mapUpdate=>exact sr h
 |insert=>exact sr h
 |extract=>exact FM h
 |_=>cases h
end Go.Eng
