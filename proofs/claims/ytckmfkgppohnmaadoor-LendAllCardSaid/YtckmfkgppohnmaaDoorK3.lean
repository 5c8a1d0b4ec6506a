import Derived.Test.YtckmfkgppohnmaaDoorK2
/- Texts Eng17 to EngX. -/
set_option linter.all false
namespace Go.Eng
open Go
def bC(Γ:FuncId->Option Spec)(σ:S)(t:Name):Op->List Name
 | .alloc _ | .box _ _ | .makeMap _ _ | .makeSlice _ _ _=>[aK t]
 | .load _ x | .nilCheck x | .fieldAddr _ x _ | .indexAddr _ x _ | .lookup _ x _ _ | .store _ x _ | .mapUpdate _ x _ _ | .insert _ x _ _ | .slice _ x _ _ _=>aG (aj σ x)
 | .binOp _ _ x _ _=>aG (aj σ x)
 | .buildSlice _ _ ps=>dw (fp 4 σ.obj) (ps.toList.map fun p=>aj σ p.2)
 | .call ⟨.value f,args,_⟩=>match (eR (aj σ f)).bind Γ with
   |some s=>s.foot σ.obj t (dM (aj σ f) (args.toList.map (aj σ)))
   |none=>[]
 | .call ⟨.builtin .append,args,_⟩=>match args.toList with
   |[s,x]=>aG (aj σ s)++aG (aj σ x)++[aK t]
   |_=>[]
 | .call ⟨.builtin .len,args,_⟩=>match args.toList with
   |[x]=>aG (aj σ x)
   |_=>[]
 |_=>[]
def bm(Γ:FuncId->Option Spec)(σ:S)(t:Name):Op->List Name
 | .alloc _ | .box _ _ | .makeMap _ _ | .makeSlice _ _ _=>[aK t]
 | .store _ x _ | .mapUpdate _ x _ _ | .insert _ x _ _=>aG (aj σ x)
 | .slice _ x _ _ _=>muts σ.obj (aG (aj σ x))
 | .buildSlice _ _ ps=>muts σ.obj (dw (fp 4 σ.obj) (ps.toList.map fun p=>aj σ p.2))
 | .call ⟨.value f,args,_⟩=>match (eR (aj σ f)).bind Γ with
   |some s=>s.wrt σ.obj t (dM (aj σ f) (args.toList.map (aj σ)))
   |none=>[]
 | .call ⟨.builtin .append,args,_⟩=>match args.toList with
   |[s,x]=>aG (aj σ s)++aG (aj σ x)++[aK t]
   |_=>[]
 |_=>[]
theorem Yh{P:Program}{obj:Name->Option O}{T:TypeId}{x:D}{lo hi mx:Option D}:Fz obj (gJ P obj T x lo hi mx).obj:=by
 unfold gJ
 repeat' split
 all_goals first
  |exact .refl obj
  |exact Fz.one (.refl obj) (by assumption) rfl rfl
theorem bx.muts{r r2:R}{obj obj2:Name->Option O}{W:List Name}(h:bx r r2 obj obj2 W)(hz:Fz obj r.obj)(ha:bo W obj obj2):bx r r2 obj obj2 (muts obj W):=by
 refine jX.like (W:=W) ⟨h.ok,fun nm hn=>?_,h.frame,fun nm hn=>?_⟩ h.d hz ha
 ·rw[h.eff nm,if_pos hn]
 ·rw[h.eff nm,if_neg hn]
theorem As{ok:Prop}{d:D}{obj obj2:Name->Option O}:bx ⟨ok,d,obj⟩ ⟨ok,d,obj2⟩ obj obj2 []:=.same rfl rfl rfl rfl
theorem RL{P:Program}{obj obj2:Name->Option O}{T:TypeId}{ps:List (Nat×D)}:bx (kx P obj T ps) (kx P obj2 T ps) obj obj2 []:=by
 unfold kx
 (repeat' split)<;>exact .same rfl rfl rfl rfl
theorem RK{P:Program}{obj obj2:Name->Option O}{T:TypeId}{n:Nat}{ps:List (Nat×D)}(h:bo (dw (fp 4 obj) (ps.map (·.2))) obj obj2):
 bx (mh P obj T n ps) (mh P obj2 T n ps) obj obj2 (muts obj (dw (fp 4 obj) (ps.map (·.2)))):=by
 have hm:bo (muts obj (dw (fp 4 obj) (ps.map (·.2)))) obj obj2:=fun nm hn=>h nm (List.mem_filter.1 hn).1
 obtain⟨h1,h2⟩:=uO (xQ 4) (ps.map (·.2)) obj obj2 _ (fun _ hn=>hn) h
 unfold mh
 split
 ·split
  ·exact .none _ hm
  ·refine jX.like ⟨?_,h2.agr,h2.frame,h2.frame2⟩ (by rw[h1]) (uP (uN 4) _ obj) h
   rw[h1,h2.ok]
 ·exact .none _ hm
theorem RN{P:Program}{obj obj2:Name->Option O}{op:BinOp}{T:TypeId}{x y:D}:bx (lz P obj op T x y) (lz P obj2 op T x y) obj obj2 []:=by
 unfold lz
 (repeat' split)<;>first | exact .same rfl rfl rfl rfl | (exfalso;simp_all;done)
theorem RM{P:Program}{obj obj2:Name->Option O}{op:BinOp}{T:TypeId}{x y:D}{jE:Bool}(h:bo (aG x) obj obj2):bx (kz P obj op T x y jE) (kz P obj2 op T x y jE) obj obj2 []:=by
 unfold kz
 cases jE with
 |true=>
  simp only
  unfold nC
  split
  ·exact .same rfl rfl rfl rfl
  ·rename_i nm k
   have h':obj2 nm=obj nm:=h nm (by simp[aG])
   rw[h']
   exact .same rfl rfl rfl rfl
  ·exact .same rfl rfl rfl rfl
 |false=>
  simp only
  split
  ·unfold js
   split<;>exact .same rfl rfl rfl rfl
  ·exact RN
theorem Rs{obj obj2:Name->Option O}{op:UnOp}{x:D}:bx (km obj op x) (km obj2 op x) obj obj2 []:=by
 unfold km
 (repeat' split)<;>first | exact .same rfl rfl rfl rfl | (exfalso;simp_all;done)
theorem RH{P:Program}{obj obj2:Name->Option O}{T T':TypeId}{x:D}:bx (ly P obj T T' x) (ly P obj2 T T' x) obj obj2 []:=by
 unfold ly nD
 (repeat' split)<;>first | exact .same rfl rfl rfl rfl | (exfalso;simp_all;done)
theorem RF{P:Program}{obj obj2:Name->Option O}{T:TypeId}{x:D}{f:Nat}:bx (kq P obj T x f) (kq P obj2 T x f) obj obj2 []:=by
 unfold kq
 (repeat' split)<;>first | exact .same rfl rfl rfl rfl | (exfalso;simp_all;done)
theorem RD{P:Program}{obj obj2:Name->Option O}{T:TypeId}{x y:D}:bx (ko P obj T x y) (ko P obj2 T x y) obj obj2 []:=by
 unfold ko
 (repeat' split)<;>first | exact .same rfl rfl rfl rfl | (exfalso;simp_all;done)
theorem RG{obj obj2:Name->Option O}{x:D}{i:Nat}:bx (kr obj x i) (kr obj2 x i) obj obj2 []:=by
 unfold kr
 (repeat' split)<;>first | exact .same rfl rfl rfl rfl | (exfalso;simp_all;done)
theorem Rv{obj obj2:Name->Option O}{c x y:D}:bx (gY obj c x y) (gY obj2 c x y) obj obj2 []:=by
 unfold gY
 split<;>exact .same rfl rfl rfl rfl
theorem RJ{Γ:FuncId->Option Spec}(hN:∀ f s,Γ f=some s->s.Near){σ σ2:S}{t:Name}{f:D}{args:List D}
 (h:bo (match (eR f).bind Γ with | some s=>s.foot σ.obj t (dM f args) | none=>[]) σ.obj σ2.obj):
 bx (qG Γ σ t f args) (qG Γ σ2 t f args) σ.obj σ2.obj (match (eR f).bind Γ with | some s=>s.wrt σ.obj t (dM f args) | none=>[])/\
 (match (eR f).bind Γ with | some s=>s.foot σ2.obj t (dM f args) | none=>[])=(match (eR f).bind Γ with | some s=>s.foot σ.obj t (dM f args) | none=>[]):=by
 unfold qG
 rcases hs:(eR f).bind Γ with _ | s
 ·exact⟨.same rfl rfl rfl rfl,rfl⟩
 ·simp only[hs]at h |-
  obtain⟨g,_,hs⟩:=Option.bind_eq_some_iff.1 hs
  exact⟨(hN g s hs).like _ _ _ _ h,(hN g s hs).foot _ _ _ _ h⟩
theorem DK{P:Program}{Γ:FuncId->Option Spec}(hN:∀ f s,Γ f=some s->s.Near){σ σ2:S}(t:Name)(op:Op)
 (ho:∀ x∈op.operands.toList,aj σ2 x=aj σ x) (h:bo (bC Γ σ t op) σ.obj σ2.obj):
 bx (aO P Γ σ t op) (aO P Γ σ2 t op) σ.obj σ2.obj (bm Γ σ t op)/\bC Γ σ2 t op=bC Γ σ t op:=by
 cases op with
 |move x=>exact⟨by simp only[aO,ho x (by simp[Op.operands])];exact As,rfl⟩
 |assign x=>exact⟨by simp only[aO,ho x (by simp[Op.operands])];exact As,rfl⟩
 |pick c x y=>exact⟨by simp only[aO,ho c (by simp[Op.operands]),ho x (by simp[Op.operands]),ho y (by simp[Op.operands])];exact Rv,rfl⟩
 |alloc T=>exact⟨RO h,rfl⟩
 |box T x=>exact⟨by simp only[aO,ho x (by simp[Op.operands])];exact Gk h,rfl⟩
 |build T ps=>
  have hp:(ps.toList.map fun p=>(p.1,aj σ2 p.2))=ps.toList.map fun p=>(p.1,aj σ p.2):=List.map_congr_left fun p hp=>by rw[ho p.2 (by simp only[Op.operands];exact List.mem_map_of_mem hp)]
  exact⟨by simp only[aO,hp];exact RL,rfl⟩
 |buildSlice T n ps=>
  have hp:(ps.toList.map fun p=>(p.1,aj σ2 p.2))=ps.toList.map fun p=>(p.1,aj σ p.2):=List.map_congr_left fun p hp=>by rw[ho p.2 (by simp only[Op.operands];exact List.mem_map_of_mem hp)]
  have pT:(ps.toList.map fun p=>aj σ2 p.2)=ps.toList.map fun p=>aj σ p.2:=List.map_congr_left fun p hp=>by rw[ho p.2 (by simp only[Op.operands];exact List.mem_map_of_mem hp)]
  have hm:(ps.toList.map fun p=>(p.1,aj σ p.2)).map (·.2)=ps.toList.map fun p=>aj σ p.2:=by simp
  simp only[bC,bm]at h |-
  rw[pT]
  rw[<-hm]at h |-
  refine⟨?_,uQ _ h⟩
  simp only[aO,hp]
  exact RK h
 |load T x=>
  simp only[bC,bm,aO,ho x (by simp[Op.operands])]at h |-
  exact⟨RA h,trivial⟩
 |store T x d=>
  simp only[bC,bm,aO,ho x (by simp[Op.operands]),ho d (by simp[Op.operands])]at h |-
  exact⟨Rt h,trivial⟩
 |nilCheck x=>
  simp only[bC,bm,aO,ho x (by simp[Op.operands])]at h |-
  exact⟨Rw h,trivial⟩
 |binOp op T x y c=>
  simp only[bC,bm,aO,ho x (by simp[Op.operands]),ho y (by simp[Op.operands])]at h |-
  exact⟨RM h,trivial⟩
 |unOp op T x=>exact⟨by simp only[aO,ho x (by simp[Op.operands])];exact Rs,rfl⟩
 |convert s d x=>exact⟨by simp only[aO,ho x (by simp[Op.operands])];exact RH,rfl⟩
 |makeFunc fn f c=>
  have h1:f.toList.map (aj σ2)=f.toList.map (aj σ):=List.map_congr_left fun x hx=>ho x (by simp only[Op.operands,Array.toList_append];exact List.mem_append_left _ hx)
  have h2:c.toList.map (aj σ2)=c.toList.map (aj σ):=List.map_congr_left fun x hx=>ho x (by simp only[Op.operands,Array.toList_append];exact List.mem_append_right _ hx)
  exact⟨by simp only[aO,h1,h2];exact As,rfl⟩
 |makeMap T r=>
  have h1:r.map (aj σ2)=r.map (aj σ):=by
   cases r with
   |none=>rfl
   |some x=>simp only[Option.map_some,ho x (by simp[Op.operands])]
  exact⟨by simp only[aO,h1];exact Ry h,rfl⟩
 |makeSlice T l c=>exact⟨by simp only[aO,ho l (by simp[Op.operands]),ho c (by simp[Op.operands])];exact Rx h,rfl⟩
 |slice T x lo hi mx=>
  have e:∀ r:Option Operand,(∀ y∈r.toList,aj σ2 y=aj σ y)->r.map (aj σ2)=r.map (aj σ):=by
   intro r hr
   cases r with
   |none=>rfl
   |some x=>simp only[Option.map_some,hr x (by simp)]
  have h1:=e lo fun y hy=>ho y (by simp[Op.operands]at hy |-;simp[hy])
  have h2:=e hi fun y hy=>ho y (by simp[Op.operands]at hy |-;simp[hy])
  have h3:=e mx fun y hy=>ho y (by simp[Op.operands]at hy |-;simp[hy])
  simp only[bC,bm,aO,ho x (by simp[Op.operands]),h1,h2,h3]at h |-
  exact⟨(Ru h).muts Yh h,trivial⟩
 |fieldAddr T x f=>
  simp only[bC,bm,aO,ho x (by simp[Op.operands])]at h |-
  exact⟨RE h,trivial⟩
 |field T x f=>exact⟨by simp only[aO,ho x (by simp[Op.operands])];exact RF,rfl⟩
 |indexAddr T x i=>
  simp only[bC,bm,aO,ho x (by simp[Op.operands]),ho i (by simp[Op.operands])]at h |-
  exact⟨RC h,trivial⟩
 |index T x i=>exact⟨by simp only[aO,ho x (by simp[Op.operands]),ho i (by simp[Op.operands])];exact RD,rfl⟩
 |lookup T x i co=>
  simp only[bC,bm,aO,ho x (by simp[Op.operands]),ho i (by simp[Op.operands])]at h |-
  exact⟨Rz h,trivial⟩
 |mapUpdate T x k d=>
  simp only[bC,bm,aO,ho x (by simp[Op.operands]),ho k (by simp[Op.operands]),ho d (by simp[Op.operands])]at h |-
  exact⟨Gh h,trivial⟩
 |insert T x k d=>
  simp only[bC,bm,aO,ho x (by simp[Op.operands]),ho k (by simp[Op.operands]),ho d (by simp[Op.operands])]at h |-
  exact⟨Gh h,trivial⟩
 |extract x i=>exact⟨by simp only[aO,ho x (by simp[Op.operands])];exact RG,rfl⟩
 |call c=>
  obtain⟨callee,args,ts⟩:=c
  cases callee with
  |value f=>
   have h1:aj σ2 f=aj σ f:=ho f (by simp[Op.operands,Call.operands])
   have h2:args.toList.map (aj σ2)=args.toList.map (aj σ):=List.map_congr_left fun x hx=>ho x (by simp[Op.operands,Call.operands]at hx |-;simp[hx])
   simp only[bC,bm,aO,h1,h2]at h |-
   exact RJ hN h
  |builtin b=>
   have h2:args.toList.map (aj σ2)=args.toList.map (aj σ):=List.map_congr_left fun x hx=>ho x (by simp[Op.operands,Call.operands]at hx |-;simp[hx])
   have h3:∀ x∈args.toList,aj σ2 x=aj σ x:=fun x hx=>ho x (by simp[Op.operands,Call.operands]at hx |-;simp[hx])
   simp only[aO,h2]
   obtain⟨args⟩:=args
   obtain⟨ts⟩:=ts
   simp only at *
   cases b with
   |len=>
    rcases args with _ | ⟨x,_ | ⟨y,r⟩⟩
    ·exact⟨by rcases ts with _ | ⟨_,_ | _⟩<;>exact .same rfl rfl rfl rfl,rfl⟩
    ·simp only[bC,bm,h3 x (by simp),List.map_cons,List.map_nil]at h |-
     refine⟨?_,trivial⟩
     rcases ts with _ | ⟨T,_ | _⟩<;>first
      |exact .same rfl rfl rfl rfl
      |exact RB h
    ·refine⟨?_,rfl⟩
     rcases ts with _ | ⟨_,_ | _⟩<;>exact .same rfl rfl rfl rfl
   |append=>
    rcases args with _ | ⟨s,_ | ⟨x,_ | ⟨y,r⟩⟩⟩
    ·refine⟨?_,rfl⟩
     rcases ts with _ | ⟨_,_ | ⟨_,_ | _⟩⟩<;>exact .same rfl rfl rfl rfl
    ·refine⟨?_,rfl⟩
     rcases ts with _ | ⟨_,_ | ⟨_,_ | _⟩⟩<;>exact .same rfl rfl rfl rfl
    ·simp only[bC,bm,h3 x (by simp),h3 s (by simp),List.map_cons,List.map_nil]at h |-
     refine⟨?_,trivial⟩
     rcases ts with _ | ⟨T1,_ | ⟨T2,_ | _⟩⟩<;>first
      |exact wO h
      |exact .none _ h
    ·refine⟨?_,rfl⟩
     rcases ts with _ | ⟨_,_ | ⟨_,_ | _⟩⟩<;>exact .same rfl rfl rfl rfl
   |_=>
    refine⟨?_,rfl⟩
    show bx _ _ _ _ []
    unfold ku
    (repeat' split)<;>first | exact .same rfl rfl rfl rfl | (exfalso;simp_all;done)
  |invoke r m=>exact⟨.same rfl rfl rfl rfl,rfl⟩
 |_=>exact⟨.same rfl rfl rfl rfl,rfl⟩
theorem X9{Γ:FuncId->Option Spec}(hN:∀ f s,Γ f=some s->s.Near){σ σ2:S}(t:Name)(op:Op)
 (ho:∀ x∈op.operands.toList,aj σ2 x=aj σ x) (h:bo (bC Γ σ t op) σ.obj σ2.obj):bm Γ σ2 t op=bm Γ σ t op:=by
 cases op with
 |buildSlice T n ps=>
  have pT:(ps.toList.map fun p=>aj σ2 p.2)=ps.toList.map fun p=>aj σ p.2:=List.map_congr_left fun p hp=>by rw[ho p.2 (by simp only[Op.operands];exact List.mem_map_of_mem hp)]
  simp only[bC,bm]at h |-
  rw[pT,uQ _ h]
  exact Ai h
 |store T x d=>simp only[bm,ho x (by simp[Op.operands])]
 |mapUpdate T x k d=>simp only[bm,ho x (by simp[Op.operands])]
 |insert T x k d=>simp only[bm,ho x (by simp[Op.operands])]
 |slice T x lo hi mx=>
  simp only[bC,bm,ho x (by simp[Op.operands])]at h |-
  exact Ai h
 |call c=>
  obtain⟨callee,args,ts⟩:=c
  cases callee with
  |value f=>
   have h1:aj σ2 f=aj σ f:=ho f (by simp[Op.operands,Call.operands])
   have h2:args.toList.map (aj σ2)=args.toList.map (aj σ):=List.map_congr_left fun x hx=>ho x (by simp[Op.operands,Call.operands]at hx |-;simp[hx])
   simp only[bC,bm,h1,h2]at h |-
   cases hq:(eR (aj σ f)).bind Γ with
   |none=>rfl
   |some s=>
    simp only[hq]at h |-
    obtain⟨g,hg,hs⟩:=Option.bind_eq_some_iff.1 hq
    exact(hN g s hs).wrt _ _ _ _ h
  |builtin b=>
   have h3:∀ x∈args.toList,aj σ2 x=aj σ x:=fun x hx=>ho x (by simp[Op.operands,Call.operands]at hx |-;simp[hx])
   obtain⟨args⟩:=args
   simp only at *
   cases b with
   |append=>
    rcases args with _ | ⟨s,_ | ⟨x,_ | ⟨y,r⟩⟩⟩<;>first
     |rfl
     |simp only[bm,h3 x (by simp),h3 s (by simp)]
   |_=>rfl
  |invoke r m=>rfl
 |_=>rfl
theorem D4{Γ:FuncId->Option Spec}(hN:∀ f s,Γ f=some s->s.Near){σ:S}(t:Name)(op:Op):∀ nm∈bm Γ σ t op,nm∈bC Γ σ t op:=by
 intro nm hn
 cases op with
 |buildSlice T n ps=>exact(List.mem_filter.1 hn).1
 |slice T x lo hi mx=>exact(List.mem_filter.1 hn).1
 |call c=>
  obtain⟨callee,args,ts⟩:=c
  cases callee with
  |value f=>
   simp only[bC,bm]at hn |-
   cases hq:(eR (aj σ f)).bind Γ with
   |none=>simp[hq]at hn
   |some s=>
    simp only[hq]at hn |-
    obtain⟨g,hg,hs⟩:=Option.bind_eq_some_iff.1 hq
    exact(hN g s hs).sub _ _ _ _ hn
  |builtin b=>cases b<;>first | exact hn | (simp[bm]at hn;done)
  |invoke r m=>simp[bm]at hn
 |_=>first | exact hn | (simp[bm]at hn;done)
section
variable {P:Program} {Γ:FuncId->Option Spec} {ops:Array Oper}
abbrev Oper.tt (σ:S) (o:Oper):Name:=(σ.base+o.dst.getD 0)::σ.pre
theorem QV{σ σ':S}{x:Operand}(h:∀ t,x=.tmp t->σ'.env t=σ.env t):aj σ' x=aj σ x/\cg σ' x=cg σ x:=by
 cases x with
 |tmp t=>exact⟨by simp only[aj,h t rfl],by simp only[cg,h t rfl]⟩
 |_=>exact⟨rfl,rfl⟩
theorem Rn{o:Oper}{x:Operand}(hx:x∈o.op.operands.toList){t:Nat}(h:x=.tmp t):t∈o.looksAt ops:=
 List.mem_append_left _ (List.mem_filterMap.2 ⟨x,hx,by subst h;rfl⟩)
theorem Gf{o:Oper}{j:Nat}{b:Bool}(hg:o.guard=some (j,b)){s:Nat}(h:l4 ops j=some s):s∈o.looksAt ops:=by
 refine List.mem_append_right _ ?_
 unfold l4 at h
 simp[hg,h]
theorem Xh{σ σ':S}{op:Op}(h:∀ x∈op.operands.toList,aj σ' x=aj σ x/\cg σ' x=cg σ x):kO σ' op=kO σ op:=by
 have dv:op.operands.toList.all (cg σ')=op.operands.toList.all (cg σ):=by
  refine Bool.eq_iff_iff.2 ?_
  simp only[List.all_eq_true]
  exact⟨fun k x hx=>(h x hx).2▸k x hx,fun k x hx=>(h x hx).2.symm▸k x hx⟩
 cases op with
 |pick c x y=>
  simp only[kO]
  have h1:=h c (by simp[Op.operands])
  have h2:=h x (by simp[Op.operands])
  have h3:=h y (by simp[Op.operands])
  rw[h1.1,h1.2,h2.2,h3.2]
 |_=>exact dv
structure oQ (P:Program) (Γ:FuncId->Option Spec) (ops:Array Oper) (σ σ':S) (o:Oper):Prop where
 obl:jD P Γ ops σ' o↔jD P Γ ops σ o
 g:dW ops σ' o=dW ops σ o
 d:(aO P Γ σ' (Oper.tt σ o) o.op).d=(aO P Γ σ (Oper.tt σ o) o.op).d
 eff:∀ nm,(aU P Γ ops σ' o).obj nm=if nm∈bm Γ σ (Oper.tt σ o) o.op then(aU P Γ ops σ o).obj nm else σ'.obj nm
 frame:∀ nm,nm∉bm Γ σ (Oper.tt σ o) o.op->(aU P Γ ops σ o).obj nm=σ.obj nm
 foot:bC Γ σ' (Oper.tt σ o) o.op=bC Γ σ (Oper.tt σ o) o.op
 wrt:bm Γ σ' (Oper.tt σ o) o.op=bm Γ σ (Oper.tt σ o) o.op
theorem sR(hN:∀ f s,Γ f=some s->s.Near){σ σ':S}(o:Oper)(ek:σ'.nt=σ.nt)(IB:σ'.pre=σ.pre)(xL:σ'.base=σ.base)(he:∀ t∈o.looksAt ops,σ'.env t=σ.env t)
 (ha:bo (bC Γ σ (Oper.tt σ o) o.op) σ.obj σ'.obj):oQ P Γ ops σ σ' o:=by
 have hx:∀ x∈o.op.operands.toList,aj σ' x=aj σ x/\cg σ' x=cg σ x:=fun x hx=>QV fun t ht=>he t (Rn hx ht)
 have hg:dW ops σ' o=dW ops σ o:=by
  unfold dW
  cases BS:o.guard with
  |none=>rfl
  |some p=>
   obtain⟨j,b⟩:=p
   simp only
   cases hs:l4 ops j with
   |none=>rfl
   |some s=>simp only[he s (Gf BS hs)]
 have U6:l5 ops σ' o↔l5 ops σ o:=by
  unfold l5
  cases BS:o.guard with
  |none=>exact Iff.rfl
  |some p=>
   obtain⟨j,b⟩:=p
   simp only
   cases hs:l4 ops j with
   |none=>exact Iff.rfl
   |some s=>simp only[he s (Gf BS hs),ek]
 obtain⟨h1,h2⟩:=DK (P:=P) hN (Oper.tt σ o) o.op (fun x h=>(hx x h).1) ha
 have h3:=X9 hN (Oper.tt σ o) o.op (fun x h=>(hx x h).1) ha
 refine⟨?_,hg,h1.d,fun nm=>?_,fun nm hn=>?_,h2,h3⟩
 ·have aa:(aO P Γ σ' ((σ.base+o.dst.getD 0)::σ.pre) o.op).ok=(aO P Γ σ ((σ.base+o.dst.getD 0)::σ.pre) o.op).ok:=h1.ok
  unfold jD
  rw[U6,hg,ek,IB,xL,Xh hx,aa]
 ·unfold aU
  simp only[hg,IB,xL]
  cases hc:dW ops σ o with
  |true=>simp only[if_true];exact h1.eff nm
  |false=>
   simp only[Bool.false_eq_true,if_false]
   split
   ·rename_i hn;exact ha nm (D4 hN _ _ nm hn)
   ·rfl
 ·unfold aU
  cases hc:dW ops σ o with
  |true=>simp only[if_true];exact h1.frame nm hn
  |false=>simp only[Bool.false_eq_true,if_false]
theorem o6{σ:S}{o:Oper}{t:Nat}(h:o.dst≠some t):(aU P Γ ops σ o).env t=σ.env t:=by
 unfold aU
 cases hd:o.dst with
 |none=>rfl
 |some s=>exact aL _ _ _ (by rintro rfl;exact h hd)
def vy(a b:List Name):Prop:=∀ nm∈a,nm∉b
theorem comm{oi oj:Oper}(hN:∀ f s,Γ f=some s->s.Near){σ:S}(lZ:oi.apart ops oj=true)
 (h1:vy (bm Γ σ (Oper.tt σ oi) oi.op) (bC Γ (aU P Γ ops σ oi) (Oper.tt σ oj) oj.op)) (h2:vy (bm Γ (aU P Γ ops σ oi) (Oper.tt σ oj) oj.op) (bC Γ σ (Oper.tt σ oi) oi.op)):
 oQ P Γ ops (aU P Γ ops σ oi) σ oj/\oQ P Γ ops σ (aU P Γ ops σ oj) oi/\aU P Γ ops (aU P Γ ops σ oj) oi=aU P Γ ops (aU P Γ ops σ oi) oj:=by
 obtain⟨a1,a2,a3⟩:=Oper.apart_spec lZ
 have s0:oQ P Γ ops σ σ oi:=sR hN oi rfl rfl rfl (fun _ _=>rfl) (fun _ _=>rfl)
 have s1:oQ P Γ ops (aU P Γ ops σ oi) σ oj:=by
  refine sR hN oj rfl rfl rfl (fun t ht=>(o6 fun hd=>a1 t hd ht).symm) fun nm hn=>?_
  exact(s0.frame nm fun hw=>h1 nm hw hn).symm
 have s2:oQ P Γ ops σ (aU P Γ ops σ oj) oi:=by
  refine sR hN oi rfl rfl rfl (fun t ht=>o6 fun hd=>a3 t hd ht) fun nm hn=>?_
  exact(s1.eff nm).trans (if_neg fun hw=>h2 nm hw hn)
 refine⟨s1,s2,?_⟩
 have e1:(aU P Γ ops (aU P Γ ops σ oj) oi).obj=(aU P Γ ops (aU P Γ ops σ oi) oj).obj:=by
  funext nm
  rw[s2.eff nm]
  by_cases hi:nm∈bm Γ σ (Oper.tt σ oi) oi.op
  ·rw[if_pos hi]
   have :=D4 hN _ _ nm hi
   have s3:oQ P Γ ops (aU P Γ ops σ oi) (aU P Γ ops σ oi) oj:=sR hN oj rfl rfl rfl (fun _ _=>rfl) (fun _ _=>rfl)
   exact(s3.frame nm fun hw=>h2 nm hw this).symm
  ·rw[if_neg hi,s1.eff nm]
   split
   ·rfl
   ·rename_i hj
    have s3:oQ P Γ ops (aU P Γ ops σ oi) (aU P Γ ops σ oi) oj:=sR hN oj rfl rfl rfl (fun _ _=>rfl) (fun _ _=>rfl)
    rw[s3.frame nm hj,s0.frame nm hi]
 have e2:(aU P Γ ops (aU P Γ ops σ oj) oi).env=(aU P Γ ops (aU P Γ ops σ oi) oj).env:=by
  funext x
  by_cases hi:oi.dst=some x
  ·have hj:oj.dst≠some x:=a2 x hi
   rw[o6 (σ:=aU P Γ ops σ oi) hj]
   show (match oi.dst with
    |some t=>upd (aU P Γ ops σ oj).env t ⟨dW ops (aU P Γ ops σ oj) oi,(aO P Γ (aU P Γ ops σ oj) ((σ.base+t)::σ.pre) oi.op).d⟩
    |none=>(aU P Γ ops σ oj).env) x=(match oi.dst with
    |some t=>upd σ.env t ⟨dW ops σ oi,(aO P Γ σ ((σ.base+t)::σ.pre) oi.op).d⟩
    |none=>σ.env) x
   have d1:=s2.d
   have g1:=s2.g
   unfold Oper.tt at d1
   simp only[hi,Option.getD_some]at d1 |-
   rw[aE,aE,d1,g1]
  ·rw[o6 hi]
   by_cases hj:oj.dst=some x
   ·show (match oj.dst with
      |some t=>upd σ.env t ⟨dW ops σ oj,(aO P Γ σ ((σ.base+t)::σ.pre) oj.op).d⟩
      |none=>σ.env) x=(match oj.dst with
      |some t=>upd (aU P Γ ops σ oi).env t ⟨dW ops (aU P Γ ops σ oi) oj,(aO P Γ (aU P Γ ops σ oi) ((σ.base+t)::σ.pre) oj.op).d⟩
      |none=>(aU P Γ ops σ oi).env) x
    have d1:(aO P Γ σ (Oper.tt σ oj) oj.op).d=(aO P Γ (aU P Γ ops σ oi) (Oper.tt σ oj) oj.op).d:=s1.d
    have g1:=s1.g
    unfold Oper.tt at d1
    simp only[hj,Option.getD_some]at d1 |-
    rw[aE,aE,d1,g1]
   ·rw[o6 hj,o6 hj,o6 hi]
 have e3:(aU P Γ ops (aU P Γ ops σ oj) oi).nt=(aU P Γ ops (aU P Γ ops σ oi) oj).nt:=rfl
 have e4:(aU P Γ ops (aU P Γ ops σ oj) oi).pre=(aU P Γ ops (aU P Γ ops σ oi) oj).pre:=rfl
 have e5:(aU P Γ ops (aU P Γ ops σ oj) oi).base=(aU P Γ ops (aU P Γ ops σ oi) oj).base:=rfl
 generalize aU P Γ ops (aU P Γ ops σ oj) oi=x at *
 generalize aU P Γ ops (aU P Γ ops σ oi) oj=y at *
 cases x;cases y
 simp only at e1 e2 e3 e4 e5
 subst e1 e2 e3 e4 e5
 rfl
structure oS where
 on:Nat
 foot:List Name
 wrt:List Name
def wq(anc:List Nat)(foot wrt:List Name)(L:List oS):Prop:=∀ e∈L,e.on∈anc\/(vy e.wrt foot/\vy wrt e.foot)
variable (P Γ ops)in
def oU(anc:Nat->List Nat)(L:List oS)(K:S->Prop):Nat->Array Bool->S->Prop
 | 0,listed,σ=>Region.ready .any ops listed=[]/\K σ
 |fuel+1,listed,σ=>(Region.ready .any ops listed=[]->K σ)/\∀ i∈Region.ready .any ops listed,∀ o,ops[i]?=some o->
    jD P Γ ops σ o/\wq (anc i) (bC Γ σ (Oper.tt σ o) o.op) (bm Γ σ (Oper.tt σ o) o.op) L/\oU anc L K fuel (listed.setIfInBounds i true) (aU P Γ ops σ o)
def vz(ops:Array Oper)(anc:Nat->List Nat):Prop:=∀ j o,ops[j]?=some o->∀ i∈anc j,∃ e∈o.after,Region.binds .any e=true/\(e.on=i\/i∈anc e.on)
def qJ(anc:Nat->List Nat)(listed:Array Bool):Prop:=∀ j,listed.getD j false=true->∀ i∈anc j,listed.getD i false=true
theorem qJ.ready{anc:Nat->List Nat}{listed:Array Bool}(hA:vz ops anc)(h:qJ anc listed){j:Nat}(hj:j∈Region.ready .any ops listed):∀ i∈anc j,listed.getD i false=true:=by
 intro i hi
 obtain⟨_,o,ho,dv⟩:=mem_ready.1 hj
 obtain⟨e,he,hb,h1⟩:=hA j o ho i hi
 have :=dv e he hb
 rcases h1 with h1 | h1
 ·rw[<-h1];exact this
 ·exact h _ this i h1
theorem qJ.set{anc:Nat->List Nat}{listed:Array Bool}(hA:vz ops anc)(h:qJ anc listed){j:Nat}(hj:j∈Region.ready .any ops listed):qJ anc (listed.setIfInBounds j true):=by
 intro k hk i hi
 by_cases IZ:j=k
 ·subst IZ
  exact getD_set_true (h.ready hA hj i hi)
 ·rw[getD_set_ne false IZ]at hk
  exact getD_set_true (h k hk i hi)
theorem pull(hN:∀ f s,Γ f=some s->s.Near){anc:Nat->List Nat}(hA:vz ops anc){K:S->Prop}{i:Nat}{oi:Oper}(hi:ops[i]?=some oi){L:List oS}:
 ∀ (fuel:Nat) (listed:Array Bool) (σ:S),qJ anc listed->
   (∀ j oj,ops[j]?=some oj->j≠i->listed.getD j true=false->i∉anc j->oi.apart ops oj=true)->
   i∈Region.ready .any ops listed->jD P Γ ops σ oi->wq (anc i) (bC Γ σ (Oper.tt σ oi) oi.op) (bm Γ σ (Oper.tt σ oi) oi.op) L->
   oU P Γ ops anc (⟨i,bC Γ σ (Oper.tt σ oi) oi.op,bm Γ σ (Oper.tt σ oi) oi.op⟩::L) K fuel (listed.setIfInBounds i true) (aU P Γ ops σ oi)->
   oU P Γ ops anc L K (fuel+1) listed σ:=by
 have weaken:∀ (e:oS) (fuel:Nat) (listed:Array Bool) (σ:S),oU P Γ ops anc (e::L) K fuel listed σ->oU P Γ ops anc L K fuel listed σ:=by
  intro e fuel
  induction fuel with
  |zero=>exact fun _ _ h=>h
  |succ n ih=>exact fun listed σ h=>⟨h.1,fun i hi o ho=>⟨(h.2 i hi o ho).1,fun e' kW=>(h.2 i hi o ho).2.1 e' (List.mem_cons_of_mem _ kW),ih _ _ (h.2 i hi o ho).2.2⟩⟩
 intro fuel
 induction fuel with
 |zero=>
  intro listed σ bI BV hr du aa H
  refine⟨fun h=>(by rw[h]at hr;cases hr),fun j hj oj pU=>?_⟩
  by_cases lX:j=i
  ·subst lX
   rw[hi]at pU;cases pU
   exact⟨du,aa,weaken _ _ _ _ H⟩
  ·have:=ready_mono hj lX
   rw[H.1]at this
   cases this
 |succ fuel ih=>
  intro listed σ bI BV hr du aa H
  refine⟨fun h=>(by rw[h]at hr;cases hr),fun j hj oj pU=>?_⟩
  by_cases lX:j=i
  ·subst lX
   rw[hi]at pU;cases pU
   exact⟨du,aa,weaken _ _ _ _ H⟩
  ·obtain⟨g1,g2,g3⟩:=H.2 j (ready_mono hj lX) oj pU
   have tL:listed.getD j true=false:=(mem_ready.1 hj).1
   have IL:i∉anc j:=fun h=>by
    have h1:=bI.ready hA hj i h
    have h0:=(mem_ready.1 hr).1
    rcases Nat.lt_or_ge i listed.size with h' | h'
    ·simp[h']at h0 h1;rw[h0]at h1;cases h1
    ·simp[Array.getElem?_eq_none h']at h1
   rcases g2 _ List.mem_cons_self with k | ⟨d1,d2⟩
   ·exact(IL k).elim
   simp only at d1 d2
   obtain⟨s1,s2,s3⟩:=comm hN (BV j oj pU lX tL IL) d1 d2
   have f1:bC Γ σ (Oper.tt σ oj) oj.op=bC Γ (aU P Γ ops σ oi) (Oper.tt σ oj) oj.op:=s1.foot
   have f2:bm Γ σ (Oper.tt σ oj) oj.op=bm Γ (aU P Γ ops σ oi) (Oper.tt σ oj) oj.op:=s1.wrt
   have f3:bC Γ (aU P Γ ops σ oj) (Oper.tt σ oi) oi.op=bC Γ σ (Oper.tt σ oi) oi.op:=s2.foot
   have f4:bm Γ (aU P Γ ops σ oj) (Oper.tt σ oi) oi.op=bm Γ σ (Oper.tt σ oi) oi.op:=s2.wrt
   refine⟨s1.obl.2 g1,?_,?_⟩
   ·rw[f1,f2]
    exact fun e he=>g2 e (List.mem_cons_of_mem _ he)
   ·refine ih _ _ (bI.set hA hj) (fun k ok hk jH Iq fc=>BV k ok hk jH ?_ fc) (ready_mono hr (Ne.symm lX)) (s2.obl.2 du) ?_ ?_
    ·by_cases uq:j=k
     ·subst uq;exact tL
     ·rw[getD_set_ne true uq]at Iq;exact Iq
    ·show wq (anc i) (bC Γ (aU P Γ ops σ oj) (Oper.tt σ oi) oi.op) (bm Γ (aU P Γ ops σ oj) (Oper.tt σ oi) oi.op) L
     rw[f3,f4];exact aa
    ·show oU P Γ ops anc (⟨i,bC Γ (aU P Γ ops σ oj) (Oper.tt σ oi) oi.op,bm Γ (aU P Γ ops σ oj) (Oper.tt σ oi) oi.op⟩::L) K fuel _ _
     rw[Array.setIfInBounds_comm _ _ lX,f3,f4,s3]
     exact g3
theorem L0(hΓ:∀ f s,Γ f=some s->ak P f s){G:Ghost}{Q:Exit->Act->World->Prop}{K:S->Prop}{anc:Nat->List Nat}{L:List oS}:
 ∀ (fuel:Nat) (listed:Array Bool) {φ:Name->Loc} {m:Mem} {σ:S} {a:Act} {w:World},aD G φ m σ a w->oU P Γ ops anc L K fuel listed σ->
   (∀ a' w' φ' m' σ',aD G φ' m' σ' a' w'->K σ'->Q .normal a' w')->wpAnyIn (eo G.rd) 0 P .any ops Q fuel listed a w
 | 0,listed,φ,m,σ,a,w,hC,h,hQ=>⟨h.1,hQ _ _ φ m σ hC h.2⟩
 |fuel+1,listed,φ,m,σ,a,w,hC,h,hQ=>by
  refine⟨fun h0=>hQ _ _ φ m σ hC (h.1 h0),fun i hi=>?_⟩
  obtain⟨_,o,ho,_⟩:=mem_ready.1 hi
  obtain⟨h1,_,h3⟩:=h.2 i hi o ho
  exact zb hΓ hC ho h1 fun a' w' φ' m' br=>L0 hΓ fuel _ br h3 hQ
end
section
variable {P:Program} {Γ:FuncId->Option Spec} {ops:Array Oper}
structure qH where
 anc:List Nat
 past:oS
def dE:Name->Name->Bool
 |[],[]=>true
 |x::r,y::s=>Nat.beq x y&&dE r s
 |_,_=>false
theorem fx:∀ {a b:Name},dE a b=true↔a=b
 |[],[]=>by simp[dE]
 |[],_::_=>by simp[dE]
 |_::_,[]=>by simp[dE]
 |x::r,y::s=>by
  simp only[dE,Bool.and_eq_true,Nat.beq_eq,List.cons.injEq,fx]
def rL:List Name->Name->Bool
 |[],_=>false
 |x::r,nm=>dE x nm||rL r nm
theorem Gb:∀ {l:List Name} {nm:Name},rL l nm=true↔nm∈l
 |[],nm=>by simp[rL]
 |x::r,nm=>by
  simp only[rL,Bool.or_eq_true,fx,List.mem_cons,Gb]
  exact⟨fun h=>h.imp Eq.symm id,fun h=>h.imp Eq.symm id⟩
def iX:List Nat->Nat->Bool
 |[],_=>false
 |x::r,n=>Nat.beq x n||iX r n
theorem Gc:∀ {l:List Nat} {n:Nat},iX l n=true↔n∈l
 |[],n=>by simp[iX]
 |x::r,n=>by
  simp only[iX,Bool.or_eq_true,Nat.beq_eq,List.mem_cons,Gc]
  exact⟨fun h=>h.imp Eq.symm id,fun h=>h.imp Eq.symm id⟩
def ss:List Name->List Name->Bool
 |[],_=>true
 |x::r,b=>!rL b x&&ss r b
theorem CZ:∀ {a b:List Name},ss a b=true->vy a b
 |[],_,_=>fun nm h=>by cases h
 |x::r,b,h=>by
  simp only[ss,Bool.and_eq_true,Bool.not_eq_true']at h
  intro nm ha hb
  rcases List.mem_cons.1 ha with rfl | ha
  ·rw[Gb.2 hb]at h;cases h.1
  ·exact CZ h.2 nm ha hb
def KY(p:qH)(e:qH):Bool:=iX p.anc e.past.on||(ss e.past.wrt p.past.foot&&ss p.past.wrt e.past.foot)
def rz:List qH->Bool
 |[]=>true
 |p::L=>L.all (KY p)&&rz L
variable (P Γ ops)in
def nE:Nat->List (List Nat)->List Oper->List qH->S->(S->Prop)->Prop
 |_,_,[],L,σ,K=>rz L=true/\K σ
 |i,az,o::r,L,σ,K=>jD P Γ ops σ o/\
   nE (i+1) az.tail r (⟨az.headD [],i,bC Γ σ ((σ.base+o.dst.getD 0)::σ.pre) o.op,bm Γ σ ((σ.base+o.dst.getD 0)::σ.pre) o.op⟩::L) (aU P Γ ops σ o) K
variable (P Γ ops)in
def DO(anc:Nat->List Nat):Nat->List Oper->List oS->S->(S->Prop)->Prop
 |_,[],_,σ,K=>K σ
 |i,o::r,L,σ,K=>jD P Γ ops σ o/\wq (anc i) (bC Γ σ (Oper.tt σ o) o.op) (bm Γ σ (Oper.tt σ o) o.op) L/\
   DO anc (i+1) r (⟨i,bC Γ σ (Oper.tt σ o) o.op,bm Γ σ (Oper.tt σ o) o.op⟩::L) (aU P Γ ops σ o) K
theorem Fb{anc:Nat->List Nat}{K:S->Prop}:∀ (l:List Oper) (i:Nat) (az:List (List Nat)) (L:List qH) (σ:S),(∀ k,az.getD k []=anc (i+k))->
 nE P Γ ops i az l L σ K->rz L=true/\DO P Γ ops anc i l (L.map (·.past)) σ K
 |[],i,az,L,σ,_,h=>h
 |o::r,i,az,L,σ,ha,h=>by
  obtain⟨h1,h2⟩:=h
  obtain⟨h3,h4⟩:=Fb (anc:=anc) r (i+1) az.tail _ _ (fun k=>by
   have :=ha (k+1)
   rw[show i+(k+1)=i+1+k by omega]at this
   rw[<-this]
   cases az<;>rfl) h2
  simp only[rz,Bool.and_eq_true]at h3
  refine⟨h3.2,h1,?_,h4⟩
  intro e he
  obtain⟨p,hp,rfl⟩:=List.mem_map.1 he
  have :=List.all_eq_true.1 h3.1 p hp
  simp only[KY,Bool.or_eq_true,Bool.and_eq_true]at this
  rcases this with k | ⟨k1,k2⟩
  ·left
   have h0:az.headD []=anc i:=by
    have :=ha 0
    rw[Nat.add_zero]at this
    rw[<-this]
    cases az<;>rfl
   rw[h0]at k
   exact Gc.1 k
  ·exact .inr ⟨CZ k1,CZ k2⟩
theorem Fc(hN:∀ f s,Γ f=some s->s.Near){anc:Nat->List Nat}(hA:vz ops anc)(lZ:∀ i j oi oj,ops[i]?=some oi->ops[j]?=some oj->i<j->i∉anc j->oi.apart ops oj=true)
 (xN:∀ j o,ops[j]?=some o->∀ e∈o.after,Region.binds .any e=true->e.on<j) {K:S->Prop}:
 ∀ (n k:Nat) (L:List oS) (listed:Array Bool) (σ:S),k+n=ops.size->listed.size=ops.size->(∀ j,listed.getD j false=decide (j<k))->qJ anc listed->
   DO P Γ ops anc k (ops.toList.drop k) L σ K->oU P Γ ops anc L K n listed σ
 | 0,k,L,listed,σ,hk,hs,hl,bI,h=>by
   have :ops.toList.drop k=[]:=List.drop_eq_nil_of_le (by simp;omega)
   rw[this]at h
   refine⟨?_,h⟩
   refine List.eq_nil_iff_forall_not_mem.2 fun j hj=>?_
   obtain⟨h1,o,ho,_⟩:=mem_ready.1 hj
   have ae:j<ops.size:=(Array.getElem?_eq_some_iff.1 ho).1
   have :=hl j
   simp only[Array.getD_eq_getD_getElem?,Array.getElem?_eq_getElem (show j<listed.size by omega),Option.getD_some]at h1 this
   rw[h1]at this
   simp at this
   omega
 |n+1,k,L,listed,σ,hk,hs,hl,bI,h=>by
  have ae:k<ops.size:=by omega
  have hd:ops.toList.drop k=ops[k]::ops.toList.drop (k+1):=by
   rw[List.drop_eq_getElem_cons (by simpa using ae)];simp
  rw[hd]at h
  obtain⟨h1,h2,h3⟩:=h
  have aa:ops[k]?=some ops[k]:=Array.getElem?_eq_getElem ae
  have r3:∀ j,j<listed.size->listed.getD j true=listed.getD j false:=by
   intro j hj
   simp only[Array.getD_eq_getD_getElem?,Array.getElem?_eq_getElem hj,Option.getD_some]
  have hr:k∈Region.ready .any ops listed:=by
   refine mem_ready.2 ⟨?_,_,aa,fun e he hb=>?_⟩
   ·rw[r3 k (by omega),hl k];simp
   ·rw[hl];simpa using xN k _ aa e he hb
  refine pull hN hA aa n listed σ bI (fun j oj hj an tL fc=>?_) hr h1 h2 ?_
  ·have BM:j<ops.size:=(Array.getElem?_eq_some_iff.1 hj).1
   rw[r3 j (by omega),hl j]at tL
   simp at tL
   exact lZ k j _ oj aa hj (by omega) fc
  ·refine Fc hN hA lZ xN n (k+1) _ _ _ (by omega) (by simpa using hs) (fun j=>?_) (bI.set hA hr) h3
   by_cases uq:k=j
   ·subst uq
    simp[show k<listed.size by omega]
   ·rw[getD_set_ne false uq,hl j]
    refine decide_eq_decide.2 ?_
    omega
def qZ(ops:Array Oper)(az:List (List Nat)):Bool:=
 (List.range ops.size).all fun j=>match ops[j]? with
   |none=>true
   |some oj=>(oj.after.toList.all fun e=>!Region.binds .any e||decide (e.on<j))&&
      ((az.getD j []).all fun i=>oj.after.toList.any fun e=>Region.binds .any e&&(e.on==i||(az.getD e.on []).contains i))&&
      (List.range j).all fun i=>(az.getD j []).contains i||(match ops[i]? with | some oi=>oi.apart ops oj | none=>true)
theorem yg(hΓ:∀ f s,Γ f=some s->ak P f s)(hP:P.follows .mixedOrders=true){id:Nat}{l:List Oper}{σ:S}{K:Exit->S->Prop}(az:List (List Nat))
 (hs:qZ l.toArray az=true) (h:∀ K':S->Prop,(∀ σ',K .normal σ'->K' σ')->nE P Γ l.toArray 0 az l [] σ K'):CW P (.region id l.toArray true) σ K:=by
 intro G φ m a w hC
 have j9:∀ j oj,l.toArray[j]?=some oj->(oj.after.toList.all fun e=>!Region.binds .any e||decide (e.on<j))=true/\
       ((az.getD j []).all fun i=>oj.after.toList.any fun e=>Region.binds .any e&&(e.on==i||(az.getD e.on []).contains i))=true/\
       ((List.range j).all fun i=>(az.getD j []).contains i||(match l.toArray[i]? with | some oi=>oi.apart l.toArray oj | none=>true))=true:=by
  intro j oj hj
  have :=List.all_eq_true.1 hs j (List.mem_range.2 (Array.getElem?_eq_some_iff.1 hj).1)
  simp only[hj,Bool.and_eq_true]at this
  exact⟨this.1.1,this.1.2,this.2⟩
 have hN:∀ f s,Γ f=some s->s.Near:=fun f s h=>(hΓ f s h).near
 have hA:vz l.toArray (fun j=>az.getD j []):=by
  intro j o ho i hi
  have :=List.all_eq_true.1 (j9 j o ho).2.1 i hi
  obtain⟨e,he,h1⟩:=List.any_eq_true.1 this
  simp only[Bool.and_eq_true,Bool.or_eq_true,beq_iff_eq,List.contains_iff_mem]at h1
  exact⟨e,by simpa using he,h1.1,h1.2⟩
 have lZ:∀ i j oi oj,l.toArray[i]?=some oi->l.toArray[j]?=some oj->i<j->i∉az.getD j []->oi.apart l.toArray oj=true:=by
  intro i j oi oj h1 h2 h3 h4
  have :=List.all_eq_true.1 (j9 j oj h2).2.2 i (List.mem_range.2 h3)
  simp only[h1,Bool.or_eq_true]at this
  rcases this with k | k
  ·exact(h4 (by simpa using k)).elim
  ·exact k
 have xN:∀ j o,l.toArray[j]?=some o->∀ e∈o.after,Region.binds .any e=true->e.on<j:=by
  intro j o ho e he hb
  have :=List.all_eq_true.1 (j9 j o ho).1 e (by simpa using he)
  simpa[hb]using this
 refine wpIn_region_any hP ?_
 obtain⟨_,hD⟩:=Fb (anc:=fun j=>az.getD j []) l 0 az [] σ (fun k=>by simp) (h (K .normal) fun _ h=>h)
 refine L0 hΓ (K:=K .normal) _ _ (hC.drawn _) (Fc hN hA lZ xN l.toArray.size 0 [] _ σ (by simp) (by simp) (fun j=>?_) (fun j hj=>?_) (by simpa using hD)) fun a' w' φ' m' σ' br hK=>⟨φ',m',σ',br,hK⟩
 ·by_cases hj:j<l.length<;>simp[hj]
 ·by_cases ew:j<l.length<;>simp[ew]at hj
theorem Xu(hΓ:∀ f s,Γ f=some s->ak P f s)(hP:P.follows .mixedOrders=true){id:Nat}{l:List Oper}{c:Code}{r:List Code}{σ:S}{K:Exit->S->Prop}(az:List (List Nat))(ks:List Nat)(ns:List Name)
 (hs:qZ l.toArray az=true) (h:∀ K':S->Prop,(∀ σ',eQ ks ns σ'->CL P (c::r) (eW ks ns σ') K->K' σ')->nE P Γ l.toArray 0 az l [] σ K'):CL P (.region id l.toArray true::c::r) σ K:=
 yg hΓ hP az hs fun K' hK=>h K' fun σ' hc hy=>hK σ' (yf ks ns hc hy)
theorem Xv(hΓ:∀ f s,Γ f=some s->ak P f s)(hP:P.follows .mixedOrders=true){id:Nat}{l:List Oper}{σ:S}{K:Exit->S->Prop}(az:List (List Nat))
 (hs:qZ l.toArray az=true) (h:∀ K':S->Prop,(∀ σ',K .normal σ'->K' σ')->nE P Γ l.toArray 0 az l [] σ K'):CL P [.region id l.toArray true] σ K:=
 yg hΓ hP az hs fun K' hK=>h K' fun σ' hc=>hK σ' hc
end
attribute [go_sem] dE rL iX ss Nat.beq_eq_true_eq nE bC bm aG fp dw eR dM muts O.mut PSpec.toSpec List.headD_cons List.headD_nil List.tail_cons List.tail_nil
mutual
def D.ren(f:Name->Name):D->D
 | .v x=>.v x
 | .nilsl=>.nilsl
 | .nilmap=>.nilmap
 | .ref nm o=>.ref (f nm) o
 | .msl nm k=>.msl (f nm) k
 | .aref nm k i o=>.aref (f nm) k i o
 | .map nm=>.map (f nm)
 | .yld nm=>.yld (f nm)
 | .clo fn a b=>.clo fn (D.renL f a) (D.renL f b)
 | .agg l=>.agg (D.renL f l)
 | .tup l=>.tup (D.renL f l)
 | .any=>.any
def D.renL(f:Name->Name):List D->List D
 |[]=>[]
 |d::r=>D.ren f d::D.renL f r
end
def E.ren(f:Name->Name)(e:E):E:=⟨e.c,e.d.ren f⟩
def O.ren(f:Name->Name):O->O
 | .box cs=>.box (D.renL f cs)
 | .loop env ps asg body st bf=>.loop (env.map (E.ren f)) ps asg body st bf
 | .arr sz l=>.arr sz l
 | .map kd es=>.map kd es
 | .fbox cs=>.fbox cs
 | .farr sz l=>.farr sz l
 | .dead sz n=>.dead sz n
theorem gl(f:Name->Name):∀ l:List D,D.renL f l=l.map (D.ren f)
 |[]=>rfl
 |d::r=>by simp only[D.renL,List.map_cons,gl f r]
theorem D.one_ren(f:Name->Name)(d:D):(d.ren f).one=d.one:=by cases d<;>rfl
theorem O.len_ren(f:Name->Name)(o:O):(o.ren f).len?=o.len?:=by cases o<;>rfl
theorem O.sz_ren(f:Name->Name)(o:O):(o.ren f).sz=o.sz:=by cases o<;>rfl
theorem O.mut_ren(f:Name->Name)(o:O):(o.ren f).mut=o.mut:=by cases o<;>rfl
def sJ(f:Name->Name)(φ φ':Name->Loc)(obj obj':Name->Option O)(dom:Name->Bool):Prop:=
 ∀ nm o,dom nm=true->obj nm=some o->∃ o',obj' (f nm)=some o'/\
   ((o'.len?=o.len?/\φ' (f nm)=φ nm/\o'.sz=o.sz)\/(∃ n n',o.len?=some n/\o'.len?=some n'/\n<n'))
theorem au.renx{f:Name->Name}{φ φ':Name->Loc}{obj obj':Name->Option O}{m m':Mem}{dom:Name->Bool}(hm:Mem.le m m')(hx:sJ f φ φ' obj obj' dom){d:D}{u:Value}
 (h:au φ obj m d u) (hc:D.clos dom d=true):au φ' obj' m' (d.ren f) u:=by
 induction h with
 |any u=>exact .any u
 |v x u h=>exact .v x u (h.mono hm)
 |nilsl a=>exact .nilsl a
 |nilmap=>exact .nilmap
 |ref nm off h=>
  obtain⟨o,ho,hl⟩:=h
  obtain⟨o',cE,h⟩:=hx nm o hc ho
  rcases h with⟨h1,h2,h3⟩ | ⟨n,n',h1,h2,h3⟩
  ·rw[<-h2];exact .ref (f nm) off ⟨o',cE,h1.trans hl⟩
  ·rw[hl]at h1;cases h1
 |map nm h=>
  obtain⟨o,ho,hl⟩:=h
  obtain⟨o',cE,h⟩:=hx nm o hc ho
  rcases h with⟨h1,h2,h3⟩ | ⟨n,n',h1,h2,h3⟩
  ·rw[<-h2];exact .map (f nm) ⟨o',cE,h1.trans hl⟩
  ·rw[hl]at h1;cases h1
 |yld nm h=>
  obtain⟨o,ho,hl⟩:=h
  obtain⟨o',cE,h⟩:=hx nm o hc ho
  rcases h with⟨h1,h2,h3⟩ | ⟨n,n',h1,h2,h3⟩
  ·rw[<-h2];exact .yld (f nm) ⟨o',cE,h1.trans hl⟩
  ·rw[hl]at h1;cases h1
 |msl nm k u h hu=>
  obtain⟨o,n,ho,hl,hk,he⟩:=h
  obtain⟨o',cE,h⟩:=hx nm o hc ho
  rcases h with⟨h1,h2,h3⟩ | ⟨n1,n',h1,h2,h3⟩
  ·exact .msl (f nm) k u ⟨o',n,cE,h1.trans hl,hk,fun e=>by rw[h2];exact he e⟩ hu
  ·rw[hl]at h1;cases h1
   exact .msl (f nm) k u ⟨o',n',cE,h2,by omega,fun e=>by omega⟩ hu
 |aref nm k i off u h hu=>
  obtain⟨o,n,ho,hl,hk,he⟩:=h
  obtain⟨o',cE,h⟩:=hx nm o hc ho
  rcases h with⟨h1,h2,h3⟩ | ⟨n1,n',h1,h2,h3⟩
  ·exact .aref (f nm) k i off u ⟨o',n,cE,h1.trans hl,hk,fun e=>by rw[h2,h3];exact he e⟩ hu
  ·rw[hl]at h1;cases h1
   exact .aref (f nm) k i off u ⟨o',n',cE,h2,by omega,fun e=>by omega⟩ hu
 |clo fn fs cs us vs h1 h2 bS dt mO mN=>
  simp only[D.clos,Bool.and_eq_true]at hc
  simp only[D.ren,gl]
  refine .clo fn _ _ us vs (by simpa using h1) (by simpa using h2) (fun i a b=>?_) (fun i a b=>?_)
  ·simp only[List.getElem_map];exact mO i (by simpa using a) b (gw _ hc.1)
  ·simp only[List.getElem_map];exact mN i (by simpa using a) b (gw _ hc.2)
 |agg l us h ho hr ih=>
  simp only[D.clos]at hc
  simp only[D.ren,gl]
  refine .agg _ us (by simpa using h) (fun d hd=>?_) (fun i a b=>?_)
  ·obtain⟨d',h1,rfl⟩:=List.mem_map.1 hd
   rw[D.one_ren];exact ho d' h1
  ·simp only[List.getElem_map];exact ih i (by simpa using a) b (gw _ hc)
 |tup l us h hr ih=>
  simp only[D.clos]at hc
  simp only[D.ren,gl]
  refine .tup _ us (by simpa using h) (fun i a b=>?_)
  simp only[List.getElem_map];exact ih i (by simpa using a) b (gw _ hc)
theorem bJ.renx{f:Name->Name}{φ φ':Name->Loc}{obj obj':Name->Option O}{m m':Mem}{dom:Name->Bool}(hm:Mem.le m m')(hx:sJ f φ φ' obj obj' dom){e:E}{u:Value}
 (h:bJ φ obj m e u) (hc:D.clos dom e.d=true):bJ φ' obj' m' (e.ren f) u:=by
 unfold bJ at *
 have e0:(E.ren f e).c=e.c:=rfl
 have e1:(E.ren f e).d=e.d.ren f:=rfl
 rw[e0,e1]
 by_cases hh:e.c=true
 ·rw[if_pos hh]at h |-;exact h.renx hm hx hc
 ·rw[if_neg hh]at h |-;exact h
theorem fO.ren{f:Name->Name}{φ φ':Name->Loc}{obj obj':Name->Option O}{m m':Mem}{dom:Name->Bool}{o:O}{p:Loc}{w w':World}(hm:Mem.le m m')(hx:sJ f φ φ' obj obj' dom)
 (hc:O.clos dom o=true) (hw:o.mut=true->p.nul=false->w'.heap[p.blk]?=w.heap[p.blk]?) (h:fO φ obj m o p w):fO φ' obj' m' (o.ren f) p w':=by
 cases o with
 |box cs=>
  obtain⟨h0,h1,ey,us,T,g,h2,h3,h4,h5⟩:=h
  simp only[O.clos]at hc
  simp only[O.ren,fO,gl,List.length_map,List.getElem_map,List.mem_map,forall_exists_index,and_imp,forall_apply_eq_imp_iff₂,D.one_ren]
  exact⟨h0,h1,ey,us,T,g,by rw[hw rfl h1];exact h2,h3,h4,fun i a b=>(h5 i a b).renx hm hx (gw a hc)⟩
 |arr sz l=>
  rcases h with⟨h,h'⟩ | ⟨h0,h1,h2,h3,h4,us,T,f,h5,h6,h7,h8⟩
  ·exact .inl ⟨h,h'⟩
  ·exact .inr ⟨h0,h1,h2,h3,h4,us,T,f,by rw[hw rfl h0];exact h5,h6,h7,fun i j a b=>let ⟨c,x,y⟩:=h8 i j a b;⟨c,x,y.mono hm⟩⟩
 |map kd es=>
  obtain⟨h0,h1,ey,us,T,h2,h3,h4⟩:=h
  exact⟨h0,h1,ey,us,T,by rw[hw rfl h1];exact h2,h3,fun i a b=>⟨(h4 i a b).1.mono hm,(h4 i a b).2.mono hm⟩⟩
 |fbox cs=>exact⟨h.1,fun i a=>let ⟨c,x,y⟩:=h.2 i a;⟨c,hm _ _ _ x,y.mono hm⟩⟩
 |farr sz l=>
  rcases h with⟨h,h'⟩ | ⟨h0,h1,h2,h3,h4⟩
  ·exact .inl ⟨h,h'⟩
  ·exact .inr ⟨h0,h1,h2,h3,fun i j a b=>let ⟨c,x,y⟩:=h4 i j a b;⟨c,hm _ _ _ x,y.mono hm⟩⟩
 |dead=>exact h
 |loop env ps asg body st bf=>
  obtain⟨h0,h1,r,h2,h3,h4,h5,h6,h7,h8,h9⟩:=h
  simp only[O.clos]at hc
  simp only[O.ren,fO,List.length_map,List.getElem_map]
  refine⟨h0,h1,r,by rw[hw rfl h1];exact h2,h3,h4,h5,h6,h7,h8,fun i a=>(h9 i a).renx hm hx ?_⟩
  have :=gw (l:=env.map (·.d)) (i:=i) (by simpa using a) hc
  simpa using this
mutual
theorem D.ren_id{f g:Name->Name}{dom:Name->Bool}(ix:∀ nm,dom nm=true->g (f nm)=nm):∀ d:D,D.clos dom d=true->(d.ren f).ren g=d
 | .v _,_=>rfl
 | .nilsl,_=>rfl
 | .nilmap,_=>rfl
 | .any,_=>rfl
 | .ref nm _,h=>by simp only[D.ren];rw[ix nm h]
 | .msl nm _,h=>by simp only[D.ren];rw[ix nm h]
 | .aref nm _ _ _,h=>by simp only[D.ren];rw[ix nm h]
 | .map nm,h=>by simp only[D.ren];rw[ix nm h]
 | .yld nm,h=>by simp only[D.ren];rw[ix nm h]
 | .clo _ a b,h=>by
   simp only[D.clos,Bool.and_eq_true]at h
   simp only[D.ren];rw[D.renL_id ix a h.1,D.renL_id ix b h.2]
 | .agg l,h=>by simp only[D.clos]at h;simp only[D.ren];rw[D.renL_id ix l h]
 | .tup l,h=>by simp only[D.clos]at h;simp only[D.ren];rw[D.renL_id ix l h]
theorem D.renL_id{f g:Name->Name}{dom:Name->Bool}(ix:∀ nm,dom nm=true->g (f nm)=nm):∀ l:List D,D.closL dom l=true->D.renL g (D.renL f l)=l
 |[],_=>rfl
 |d::r,h=>by
  simp only[D.closL,Bool.and_eq_true]at h
  simp only[D.renL];rw[D.ren_id ix d h.1,D.renL_id ix r h.2]
end
theorem O.ren_id{f g:Name->Name}{dom:Name->Bool}(ix:∀ nm,dom nm=true->g (f nm)=nm)(o:O)(h:O.clos dom o=true):(o.ren f).ren g=o:=by
 cases o with
 |box cs=>simp only[O.clos]at h;simp only[O.ren];rw[D.renL_id ix cs h]
 |loop env ps asg body st bf=>
  simp only[O.clos]at h
  simp only[O.ren,List.map_map,O.loop.injEq,and_true]
  refine List.ext_getElem (by simp) fun i h1 h2=>?_
  have :=gw (l:=env.map (·.d)) (i:=i) (by simpa using h2) h
  simp only[List.getElem_map,Function.comp_apply,E.ren]at this |-
  rw[D.ren_id ix _ this]
 |_=>rfl
mutual
def ti:D->List Name
 | .ref nm _=>[nm]
 | .msl nm _=>[nm]
 | .aref nm _ _ _=>[nm]
 | .map nm=>[nm]
 | .yld nm=>[nm]
 | .clo _ a b=>c9 a++c9 b
 | .agg l=>c9 l
 | .tup l=>c9 l
 |_=>[]
def c9:List D->List Name
 |[]=>[]
 |d::r=>ti d++c9 r
end
def nW:O->List Name
 | .box cs=>c9 cs
 | .loop env _ _ _ _ _=>c9 (env.map (·.d))
 |_=>[]
def bY(L:List Name)(nm:Name):Bool:=L.any fun x=>x==nm
def ef(obj:Name->Option O):Nat->List Name->List Name->List Name
 | 0,_,acc=>acc
 |_+1,[],acc=>acc
 |n+1,x::todo,acc=>if bY acc x=true then ef obj n todo acc else ef obj n ((match obj x with | some o=>nW o | none=>[])++todo) (acc++[x])
def reach(obj:Name->Option O)(ds:List D):List Name:=ef obj 3000 (c9 ds) []
theorem gS{L:List Name}{nm:Name}:bY L nm=true↔nm∈L:=by
 simp only[bY,List.any_eq_true,beq_iff_eq]
 exact⟨fun ⟨x,h,e⟩=>e▸h,fun h=>⟨nm,h,rfl⟩⟩
theorem zF{obj:Name->Option O}:∀ (n:Nat) (todo acc:List Name),∀ nm∈acc,nm∈ef obj n todo acc
 | 0,_,_,_,h=>h
 |_+1,[],_,_,h=>h
 |n+1,x::todo,acc,nm,h=>by
  simp only[ef]
  split
  ·exact zF n _ _ nm h
  ·exact zF n _ _ nm (by simp[h])
theorem vY{obj:Name->Option O}:∀ (n:Nat) (todo acc:List Name),acc.Nodup->(ef obj n todo acc).Nodup
 | 0,_,_,h=>h
 |_+1,[],_,h=>h
 |n+1,x::todo,acc,h=>by
  simp only[ef]
  split
  ·exact vY n _ _ h
  ·rename_i hx
   refine vY n _ _ (List.nodup_append.2 ⟨h,by simp,fun a ha b hb=>?_⟩)
   simp only[List.mem_singleton]at hb
   subst hb
   rintro rfl
   exact hx (gS.2 ha)
theorem zE{obj obj2:Name->Option O}:∀ (n:Nat) (todo acc:List Name),bo (ef obj n todo acc) obj obj2->ef obj2 n todo acc=ef obj n todo acc
 | 0,_,_,_=>rfl
 |_+1,[],_,_=>rfl
 |n+1,x::todo,acc,h=>by
  simp only[ef]at h |-
  split
  ·rename_i hx;rw[if_pos hx]at h;exact zE n _ _ h
  ·rename_i hx
   rw[if_neg hx]at h
   have aX:obj2 x=obj x:=h x (zF n _ _ x (by simp))
   rw[aX]
   exact zE n _ _ h
def idx:List Name->Name->Nat
 |[],_=>0
 |x::r,nm=>if x=nm then 0 else idx r nm+1
def cin(L:List Name)(nm:Name):Name:=[idx L nm,1]
def cout(L:List Name)(t:Name):Name->Name
 |[i,1]=>L.getD i []
 |x=>x++t
def ct:Name->Bool
 |[_,1]=>true
 |_=>false
theorem rP:∀ {L:List Name} {nm:Name},nm∈L->∃ h:idx L nm<L.length,L[idx L nm]=nm
 |x::r,nm,h=>by
  simp only[idx]
  by_cases e:x=nm
  ·subst e;simp
  ·simp only[if_neg e]
   obtain⟨h1,h2⟩:=rP (L:=r) (nm:=nm) (by rcases List.mem_cons.1 h with h | h; · exact(e h.symm).elim
                                         ·exact h)
   exact⟨by simp;omega,by simpa using h2⟩
theorem Xf{L:List Name}{t nm:Name}(h:nm∈L):cout L t (cin L nm)=nm:=by
 obtain⟨h1,h2⟩:=rP h
 show L.getD (idx L nm) []=nm
 rw[List.getD_eq_getElem?_getD,List.getElem?_eq_getElem h1];simpa using h2
theorem sA{L:List Name}{t x:Name}(h:ct x=false):cout L t x=x++t:=by
 unfold cout
 split
 ·simp[ct]at h
 ·rfl
theorem tz{x:Name}:ct x=true↔∃ i,x=[i,1]:=by
 constructor
 ·intro h
  unfold ct at h
  split at h
  ·exact⟨_,rfl⟩
  ·cases h
 ·rintro⟨i,rfl⟩;rfl
theorem FK(i:Nat):own [0] [i,1]=false:=by simp[own]
theorem AV{L:List Name}(hn:L.Nodup){i:Nat}(h:i<L.length):idx L L[i]=i:=by
 obtain⟨h1,h2⟩:=rP (List.getElem_mem h)
 exact(List.getElem_inj hn).1 h2
structure Out where
 upd:List (Nat×O)
 new:List (Name×O)
 d:D
 deriving Inhabited
def eh:List (Nat×O)->Nat->O->O
 |[],_,o=>o
 |(j,o')::r,i,o=>eh r i (if j=i then o' else o)
def bX(L:List Name)(t:Name):List (Nat×O)->(Name->Option O)->(Name->Option O)
 |[],obj=>obj
 |(i,o)::r,obj=>bX L t r (upd obj (L.getD i []) (some (o.ren (cout L t))))
def cV(L:List Name)(t:Name):List (Name×O)->(Name->Option O)->(Name->Option O)
 |[],obj=>obj
 |(x,o)::r,obj=>cV L t r (upd obj (x++t) (some (o.ren (cout L t))))
theorem Fl{L:List Name}{t:Name}(hn:L.Nodup):∀ (l:List (Nat×O)) (obj:Name->Option O) {i:Nat} (h:i<L.length) (o:O) (_:(l.all fun x=>decide (x.1<L.length))=true) (_:obj L[i]=some (o.ren (cout L t))),
 bX L t l obj L[i]=some ((eh l i o).ren (cout L t))
 |[],obj,i,h,o,_,ho=>ho
 |(j,o')::r,obj,i,h,o,hl,ho=>by
  simp only[List.all_cons,Bool.and_eq_true,decide_eq_true_eq]at hl
  simp only[bX,eh]
  refine Fl hn r _ h _ hl.2 ?_
  have e:L.getD j []=L[j]:=by rw[List.getD_eq_getElem?_getD,List.getElem?_eq_getElem hl.1];rfl
  rw[e]
  by_cases hj:j=i
  ·subst hj;rw[aE,if_pos rfl]
  ·rw[aL _ _ _ (fun e'=>hj ((List.getElem_inj hn).1 e').symm),if_neg hj];exact ho
theorem zM{L:List Name}{t:Name}:∀ (l:List (Nat×O)) (obj:Name->Option O) {nm:Name} (_:(l.all fun x=>decide (x.1<L.length))=true) (_:nm∉L),bX L t l obj nm=obj nm
 |[],_,_,_,_=>rfl
 |(j,o')::r,obj,nm,hl,hn=>by
  simp only[List.all_cons,Bool.and_eq_true,decide_eq_true_eq]at hl
  simp only[bX]
  rw[zM r _ hl.2 hn]
  refine aL _ _ _ ?_
  rintro rfl
  refine hn ?_
  rw[List.getD_eq_getElem?_getD,List.getElem?_eq_getElem hl.1];simp
theorem s7{L:List Name}{t:Name}:∀ (l:List (Name×O)) (obj:Name->Option O) {nm:Name} (_:∀ x∈l,nm≠x.1++t),cV L t l obj nm=obj nm
 |[],_,_,_=>rfl
 |(x,o')::r,obj,nm,hl=>by
  simp only[cV]
  rw[s7 r _ fun y hy=>hl y (by simp[hy])]
  exact aL _ _ _ (hl (x,o') (by simp))
theorem Fm{L:List Name}{t:Name}:∀ (l:List (Name×O)) (obj:Name->Option O) (_:(l.map (·.1)).Nodup) {x:Name} {o:O} (_:(x,o)∈l),cV L t l obj (x++t)=some (o.ren (cout L t))
 |(y,o')::r,obj,hn,x,o,h=>by
  simp only[List.map_cons,List.nodup_cons]at hn
  simp only[cV]
  rcases List.mem_cons.1 h with h | h
  ·cases h
   rw[s7 r _ fun z hz e=>hn.1 (by
    have :_=z.1:=List.append_cancel_right e
    rw[this];exact List.mem_map_of_mem hz)]
   exact aE _ _ _
  ·exact Fm r _ hn.2 h
def da(n:Nat)(new:List (Name×O)):Name->Bool
 |[i,1]=>decide (i<n)
 |x=>new.any fun y=>y.1==x
section
variable {G:Ghost} {φ:Name->Loc} {m:Mem} {σ:S} {a:Act} {w:World}
def bV(L:List Name)(obj:Name->Option O)(nm:Name):O:=match obj nm with
 |some o=>o.ren (cin L)
 |none=>.fbox []
def shut(obj:Name->Option O)(L:List Name):Bool:=L.all fun nm=>match obj nm with
 |some o=>O.clos (bY L) o
 |none=>false
def ic(L:List Name)(obj:Name->Option O):Name->Option O
 |[i,1]=>if i<L.length then some (bV L obj (L.getD i []))else none
 |_=>none
def kF(L:List Name)(φ:Name->Loc):Name->Loc
 |[i,1]=>φ (L.getD i [])
 |_=>⟨0,0,0,true,none⟩
def ml(L:List Name)(φ:Name->Loc)(obj:Name->Option O)(b:Nat):Prop:=∃ nm∈L,holds φ obj nm/\(φ nm).blk=b
theorem sW{obj:Name->Option O}{L:List Name}(h:shut obj L=true){nm:Name}(hn:nm∈L):∃ o,obj nm=some o/\O.clos (bY L) o=true:=by
 have :=List.all_eq_true.1 h nm hn
 cases ho:obj nm with
 |none=>simp[ho]at this
 |some o=>simp only[ho]at this;exact⟨o,rfl,this⟩
theorem jj{L:List Name}{i:Nat}(h:i<L.length):L.getD i []=L[i]:=by rw[List.getD_eq_getElem?_getD,List.getElem?_eq_getElem h];rfl
theorem Q3{L:List Name}{obj:Name->Option O}{nm:Name}(hn:nm∈L):ic L obj (cin L nm)=some (bV L obj nm):=by
 obtain⟨h1,h2⟩:=rP hn
 show (if idx L nm<L.length then some (bV L obj (L.getD (idx L nm) []))else none)=_
 rw[if_pos h1,jj h1,h2]
theorem M9{L:List Name}{φ:Name->Loc}{nm:Name}(hn:nm∈L):kF L φ (cin L nm)=φ nm:=by
 obtain⟨h1,h2⟩:=rP hn
 show φ (L.getD (idx L nm) [])=_
 rw[jj h1,h2]
theorem vX{L:List Name}{obj:Name->Option O}:sJ (cin L) φ (kF L φ) obj (ic L obj) (bY L):=by
 intro nm o hd ho
 have hn:=gS.1 hd
 refine⟨bV L obj nm,Q3 hn,.inl ⟨?_,M9 hn,?_⟩⟩
 ·simp only[bV,ho];exact O.len_ren _ _
 ·simp only[bV,ho];exact O.sz_ren _ _
theorem z8{L:List Name}{obj:Name->Option O}{x:Name}{o:O}(h:ic L obj x=some o):∃ (i:Nat) (hi:i<L.length),x=[i,1]/\o=bV L obj L[i]:=by
 unfold ic at h
 split at h
 ·rename_i i
  split at h
  ·rename_i hi
   cases h
   exact⟨i,hi,rfl,by rw[jj hi]⟩
  ·cases h
 ·cases h
def sH(w:World)(L:List Name)(φ:Name->Loc)(obj:Name->Option O):Prop:=iJ w/\∀ q∈vI,¬ ml L φ obj q.1
def qm(w:World)(m:Mem)(L:List Name)(φ:Name->Loc)(obj:Name->Option O)(rd:Option Nat)(h:∀ l,rd=some l->¬ ml L φ obj l/\∃ r,w.heap[l]?=some (.loop r))(ht:sH w L φ obj):Ghost:=
 ⟨w,m,ml L φ obj,rd,kF L φ,ic L obj,h,ht⟩
theorem vH(hC:aD G φ m σ a w)(L:List Name):sH w L φ σ.obj:=by
 refine⟨hC.fr.tab,fun q hq=>?_⟩
 rintro⟨nm,_,hh,e⟩
 obtain⟨T,f,h1⟩:=G.tab.1 q hq
 have h2:=(Array.getElem?_eq_some_iff.1 h1).1
 rcases hC.own nm hh with h3 | h3
 ·omega
 ·rw[e]at h3;exact G.tab.2 q hq h3
theorem xq{L:List Name}{obj:Name->Option O}(hL:shut obj L=true){x:Name}(h:holds (kF L φ) (ic L obj) x):∃ (i:Nat) (hi:i<L.length),x=[i,1]/\holds φ obj L[i]:=by
 obtain⟨o,h1,h2,h3⟩:=h
 obtain⟨i,hi,rfl,rfl⟩:=z8 h1
 obtain⟨o',h4,_⟩:=sW hL (List.getElem_mem hi)
 refine⟨i,hi,rfl,o',h4,?_,?_⟩
 ·simp only[bV,h4,O.mut_ren]at h2;exact h2
 ·have:kF L φ [i,1]=φ L[i]:=by show φ (L.getD i [])=_;rw[jj hi]
  rw[this]at h3;exact h3
theorem JE(hC:aD G φ m σ a w){L:List Name}(hn:L.Nodup)(hL:shut σ.obj L=true){rd:Option Nat}(mT:∀ l,rd=some l->¬ ml L φ σ.obj l/\∃ r,w.heap[l]?=some (.loop r))
 {nt b0:Nat} {env:Nat->E} {tmps:Array Value} (hs:tmps.size=nt) (he:∀ t,bJ (kF L φ) (ic L σ.obj) m (env t) (tmps.getD t undef)):
 aD (qm w m L φ σ.obj rd mT (vH hC L)) (kF L φ) m ⟨nt,env,ic L σ.obj,[0],b0⟩ { tmps:=tmps,defers:=[] } w:=by
 have hφ:∀ (i:Nat) (hi:i<L.length),kF L φ [i,1]=φ L[i]:=fun i hi=>by show φ (L.getD i [])=_;rw[jj hi]
 constructor
 ·exact he
 ·exact hs
 ·exact⟨[],rfl,by simp,by simp⟩
 ·intro x o hx
  obtain⟨i,hi,rfl,rfl⟩:=z8 hx
  obtain⟨o',h4,h5⟩:=sW hL (List.getElem_mem hi)
  rw[hφ i hi]
  simp only[bV,h4]
  exact(hC.objs _ _ h4).ren (Mem.le_refl m) vX h5 fun _ _=>rfl
 ·exact hC.mem
 ·intro x hx off
  obtain⟨i,hi,rfl,h⟩:=xq hL hx
  rw[hφ i hi]
  exact hC.apart _ h off
 ·intro x y hx hy e
  obtain⟨i,hi,rfl,h⟩:=xq hL hx
  obtain⟨j,hj,rfl,h'⟩:=xq hL hy
  rw[hφ i hi,hφ j hj]at e
  have :=(List.getElem_inj hn).1 (hC.inj _ _ h h' e)
  rw[this]
 ·intro x hx
  obtain⟨i,hi,rfl,h⟩:=xq hL hx
  rw[hφ i hi]
  exact .inr ⟨_,List.getElem_mem hi,h,rfl⟩
 ·exact⟨rfl,rfl,rfl,Nat.le_refl _,fun _ _ _=>rfl⟩
 ·intro b off v h;exact .inl h
 ·refine⟨fun x o hx=>?_,Ext.refl _ _⟩
  obtain⟨i,hi,rfl,_⟩:=z8 hx
  exact FK i
structure M7 (σ:S) (os:List O) (o:Out):Prop where
 objs:∀ i (h:i<os.length),σ.obj [i,1]=some (eh o.upd i os[i])
 news:∀ x∈o.new,σ.obj x.1=some x.2
 cd:D.clos (da os.length o.new) o.d=true
 cu:(o.upd.all fun x=>O.clos (da os.length o.new) x.2&&decide (x.1<os.length))=true
 cn:(o.new.all fun x=>O.clos (da os.length o.new) x.2&&!ct x.1)=true
 nd:(o.new.map (·.1)).Nodup
def fresh(obj:Name->Option O)(t:Name)(new:List (Name×O)):Bool:=new.all fun x=>(obj (x.1++t)).isNone
theorem WC{n:Nat}{new:List (Name×O)}{x:Name×O}(h:ct x.1=false)(hx:x∈new):da n new x.1=true:=by
 have key:∀ nm:Name,ct nm=false->da n new nm=new.any fun y=>y.1==nm:=by
  intro nm h
  unfold da
  split
  ·simp[ct]at h
  ·rfl
 rw[key _ h]
 exact List.any_eq_true.2 ⟨x,hx,by simp⟩
theorem Gt{dom:Name->Bool}:∀ (l:List (Nat×O)) (i:Nat) (o:O),O.clos dom o=true->(∀ x∈l,O.clos dom x.2=true)->O.clos dom (eh l i o)=true
 |[],_,_,h,_=>h
 |(j,o')::r,i,o,h,hl=>by
  simp only[eh]
  refine Gt r i _ ?_ fun x hx=>hl x (by simp[hx])
  split
  ·exact hl (j,o') (by simp)
  ·exact h
mutual
theorem clos_ren{f:Name->Name}{dom gI:Name->Bool}(hf:∀ nm,dom nm=true->gI (f nm)=true):∀ d:D,D.clos dom d=true->D.clos gI (d.ren f)=true
 | .v _,_=>by simp only[D.ren,D.clos]
 | .nilsl,_=>by simp only[D.ren,D.clos]
 | .nilmap,_=>by simp only[D.ren,D.clos]
 | .any,_=>by simp only[D.ren,D.clos]
 | .ref nm _,h=>hf nm h
 | .msl nm _,h=>hf nm h
 | .aref nm _ _ _,h=>hf nm h
 | .map nm,h=>hf nm h
 | .yld nm,h=>hf nm h
 | .clo _ a b,h=>by
   simp only[D.clos,Bool.and_eq_true]at h
   simp only[D.ren,D.clos,Bool.and_eq_true]
   exact⟨qy hf a h.1,qy hf b h.2⟩
 | .agg l,h=>by simp only[D.clos]at h;simp only[D.ren,D.clos];exact qy hf l h
 | .tup l,h=>by simp only[D.clos]at h;simp only[D.ren,D.clos];exact qy hf l h
theorem qy{f:Name->Name}{dom gI:Name->Bool}(hf:∀ nm,dom nm=true->gI (f nm)=true):∀ l:List D,D.closL dom l=true->D.closL gI (D.renL f l)=true
 |[],_=>by simp only[D.renL,D.closL]
 |d::r,h=>by
  simp only[D.closL,Bool.and_eq_true]at h
  simp only[D.renL,D.closL,Bool.and_eq_true]
  exact⟨clos_ren hf d h.1,qy hf r h.2⟩
end
theorem O.clos_ren{f:Name->Name}{dom gI:Name->Bool}(hf:∀ nm,dom nm=true->gI (f nm)=true)(o:O)(h:O.clos dom o=true):O.clos gI (o.ren f)=true:=by
 cases o with
 |box cs=>simp only[O.clos]at h;simp only[O.ren,O.clos];exact qy hf cs h
 |loop env ps asg body st bf=>
  simp only[O.clos]at h
  simp only[O.ren,O.clos]
  have :=qy hf _ h
  rw[gl,List.map_map]at this
  rw[List.map_map]
  exact this
 |_=>rfl
theorem JD(hC:aD G φ m σ a w){L:List Name}(hn:L.Nodup)(hL:shut σ.obj L=true){rd:Option Nat}{mT:∀ l,rd=some l->¬ ml L φ σ.obj l/\∃ r,w.heap[l]?=some (.loop r)}
 {ht:sH w L φ σ.obj} {φ2:Name->Loc} {m2:Mem} {σ2:S} {a2:Act} {w2:World} (eM:aD (qm w m L φ σ.obj rd mT ht) φ2 m2 σ2 a2 w2) {o:Out} (hE:M7 σ2 (L.map (bV L σ.obj)) o) {t:Name} (hf:fresh σ.obj t o.new=true):
 ∃ φ' m',Mem.le m m'/\aD G φ' m' { σ with obj:=cV L t o.new (bX L t o.upd σ.obj) } a w2/\
   Ext φ φ' σ.obj (cV L t o.new (bX L t o.upd σ.obj))/\
   (∀ d u,au φ2 σ2.obj m2 d u->D.clos (da L.length o.new) d=true->au φ' (cV L t o.new (bX L t o.upd σ.obj)) m' (d.ren (cout L t)) u):=by
 have hlen:(L.map (bV L σ.obj)).length=L.length:=by simp
 obtain⟨h1,h2,h3,h4,h5,h6⟩:=hE
 rw[hlen]at h3 h4 h5
 have hu:(o.upd.all fun x=>decide (x.1<L.length))=true:=List.all_eq_true.2 fun x hx=>by
  have :=List.all_eq_true.1 h4 x hx
  simp only[Bool.and_eq_true]at this;exact this.2
 have xh:∀ x∈o.upd,O.clos (da L.length o.new) x.2=true:=fun x hx=>by
  have :=List.all_eq_true.1 h4 x hx
  simp only[Bool.and_eq_true]at this;exact this.1
 have Bz:∀ x∈o.new,O.clos (da L.length o.new) x.2=true:=fun x hx=>by
  have :=List.all_eq_true.1 h5 x hx
  simp only[Bool.and_eq_true]at this;exact this.1
 have By:∀ x∈o.new,ct x.1=false:=fun x hx=>by
  have :=List.all_eq_true.1 h5 x hx
  simp only[Bool.and_eq_true,Bool.not_eq_true']at this;exact this.2
 have cl:∀ x∈o.new,σ.obj (x.1++t)=none:=fun x hx=>by
  have :=List.all_eq_true.1 hf x hx
  simpa using this
 have VP:∀ nm∈L,∃ o,σ.obj nm=some o:=fun nm h=>let ⟨o,h,_⟩:=sW hL h;⟨o,h⟩
 have l3:∀ nm∈L,∀ x∈o.new,nm≠x.1++t:=fun nm h x hx e=>by
  obtain⟨o',ho⟩:=VP nm h
  rw[e,cl x hx]at ho;cases ho
 have Jc:∀ nm,bY L nm=true->cout L t (cin L nm)=nm:=fun nm h=>Xf (gS.1 h)
 generalize du:cV L t o.new (bX L t o.upd σ.obj)=obj'
 have xr:∀ (i:Nat) (hi:i<L.length),obj' L[i]=some ((eh o.upd i (bV L σ.obj L[i])).ren (cout L t)):=fun i hi=>by
  rw[<-du,s7 _ _ (l3 _ (List.getElem_mem hi))]
  refine Fl hn _ _ hi _ hu ?_
  obtain⟨o',ho,hc⟩:=sW hL (List.getElem_mem hi)
  simp only[bV,ho]
  rw[O.ren_id Jc o' hc]
 have Bv:∀ x∈o.new,obj' (x.1++t)=some (x.2.ren (cout L t)):=fun x hx=>by rw[<-du];exact Fm _ _ h6 hx
 have Bu:∀ nm,nm∉L->(∀ x∈o.new,nm≠x.1++t)->obj' nm=σ.obj nm:=fun nm h h'=>by rw[<-du,s7 _ _ h',zM _ _ hu h]
 let φ':Name->Loc:=fun nm=>if nm∈L then φ2 (cin L nm)else match o.new.find? (fun x=>x.1++t==nm)with
  |some x=>φ2 x.1
  |none=>φ nm
 have tD:∀ (i:Nat) (hi:i<L.length),φ' L[i]=φ2 [i,1]:=fun i hi=>by
  show (if L[i]∈L then φ2 (cin L L[i])else _)=_
  rw[if_pos (List.getElem_mem hi)]
  show φ2 [idx L L[i],1]=_
  rw[AV hn hi]
 have xd:∀ x∈o.new,φ' (x.1++t)=φ2 x.1:=fun x hx=>by
  show (if x.1++t∈L then _ else _)=_
  rw[if_neg fun h=>l3 _ h x hx rfl]
  cases ot:o.new.find? (fun y=>y.1++t==x.1++t)with
  |none=>have:=List.find?_eq_none.1 ot x hx;simp at this
  |some y=>
   have :=List.find?_some ot
   simp only[beq_iff_eq]at this
   simp only[List.append_cancel_right this]
 have xc:∀ nm,nm∉L->(∀ x∈o.new,nm≠x.1++t)->φ' nm=φ nm:=fun nm h h'=>by
  show (if nm∈L then _ else _)=_
  rw[if_neg h]
  cases ot:o.new.find? (fun y=>y.1++t==nm)with
  |none=>rfl
  |some y=>
   have :=List.find?_some ot
   simp only[beq_iff_eq]at this
   exact(h' y (List.mem_of_find?_eq_some ot) this.symm).elim
 let m':Mem:=fun b off=>match m2 b off with | some c=>some c | none=>m b off
 have xn:=eM.own
 have p8:∀ b,ml L φ σ.obj b->b<w.heap.size:=fun b ⟨nm,h,⟨o',k1,k2,k3⟩,e⟩=>by rw[<-e];exact(hC.objs nm o' k1).lt k2 k3
 have BE:Mem.le m m':=by
  intro b off v h
  show (match m2 b off with | some c=>some c | none=>m b off)=some v
  cases hq:m2 b off with
  |none=>exact h
  |some c=>
   have k1:=eM.mem b off c hq
   have k2:=hC.mem b off v h
   rw[oN (eM.fr.block b (kh k2) fun ⟨nm,_,k3,e⟩=>by
    have :=hC.apart nm k3 off;rw[e,h]at this;cases this)]at k1
   have k3:World.cell? w ⟨b,off,none⟩=some c:=k1
   rw[k2]at k3;exact k3.symm
 have BD:Mem.le m2 m':=by
  intro b off v h
  show (match m2 b off with | some c=>some c | none=>m b off)=some v
  rw[h]
 have xw:∀ b off v,m' b off=some v->m2 b off=some v\/(m2 b off=none/\m b off=some v):=by
  intro b off v h
  have h':(match m2 b off with | some c=>some c | none=>m b off)=some v:=h
  cases hq:m2 b off with
  |none=>rw[hq]at h';exact .inr ⟨rfl,h'⟩
  |some c=>rw[hq]at h';exact .inl h'
 have B0:∀ x,da L.length o.new x=true->(∃ (i:Nat) (hi:i<L.length),x=[i,1])\/(ct x=false/\∃ y∈o.new,y.1=x):=by
  intro x hx
  unfold da at hx
  split at hx
  ·rename_i i
   exact .inl ⟨i,by simpa using hx,rfl⟩
  ·obtain⟨y,hy,e⟩:=List.any_eq_true.1 hx
   simp only[beq_iff_eq]at e
   subst e
   exact .inr ⟨By y hy,y,hy,rfl⟩
 have r9:∀ (i:Nat) (hi:i<L.length),cout L t [i,1]=L[i]:=fun i hi=>jj hi
 have jg:∀ (i:Nat) (hi:i<L.length),σ2.obj [i,1]=some (eh o.upd i (bV L σ.obj L[i])):=fun i hi=>by
  have :=h1 i (by simpa using hi)
  simpa using this
 have Bf:sJ (cout L t) φ2 φ' σ2.obj obj' (da L.length o.new):=by
  intro x q hd hq
  rcases B0 x hd with⟨i,hi,rfl⟩ | ⟨hi,y,hy,rfl⟩
  ·rw[r9 i hi,xr i hi,tD i hi]
   rw[jg i hi]at hq;cases hq
   exact⟨_,rfl,.inl ⟨O.len_ren _ _,rfl,O.sz_ren _ _⟩⟩
  ·rw[sA hi,Bv y hy,xd y hy]
   rw[h2 y hy]at hq;cases hq
   exact⟨_,rfl,.inl ⟨O.len_ren _ _,rfl,O.sz_ren _ _⟩⟩
 have U':∀ (i:Nat) (hi:i<L.length),O.clos (da L.length o.new) (eh o.upd i (bV L σ.obj L[i]))=true:=by
  intro i hi
  refine Gt _ _ _ ?_ xh
  obtain⟨o',ho,hc⟩:=sW hL (List.getElem_mem hi)
  simp only[bV,ho]
  refine O.clos_ren (fun nm hd=>?_) o' hc
  obtain⟨k1,_⟩:=rP (gS.1 hd)
  show decide (idx L nm<L.length)=true
  simpa using k1
 have xE:Ext φ φ' σ.obj obj':=by
  intro nm q hq
  by_cases eK:nm∈L
  ·obtain⟨i,hi,rfl⟩:=List.getElem_of_mem eK
   obtain⟨Ab,k1,k2⟩:=eM.kept.2 [i,1] (bV L σ.obj L[i]) (by
    show ic L σ.obj [i,1]=_
    show (if i<L.length then _ else _)=_
    rw[if_pos hi,jj hi])
   have TM:Ab=eh o.upd i (bV L σ.obj L[i]):=by rw[jg i hi]at k1;exact(Option.some.inj k1).symm
   subst TM
   have Ue:kF L φ [i,1]=φ L[i]:=by show φ (L.getD i [])=_;rw[jj hi]
   have bI:(bV L σ.obj L[i]).len?=q.len?/\(bV L σ.obj L[i]).sz=q.sz:=by
    simp only[bV,hq];exact⟨O.len_ren _ _,O.sz_ren _ _⟩
   refine⟨_,xr i hi,?_⟩
   rw[O.len_ren,O.sz_ren,tD i hi]
   rcases k2 with⟨a1,a2,a3⟩ | ⟨n,n',a1,a2,a3⟩
   ·exact .inl ⟨a1.trans bI.1,(a2:φ2 [i,1]=kF L φ [i,1]).trans Ue,a3.trans bI.2⟩
   ·exact .inr ⟨n,n',bI.1▸a1,a2,a3⟩
  ·have oa:∀ x∈o.new,nm≠x.1++t:=fun x hx e=>by rw[e,cl x hx]at hq;cases hq
   exact⟨q,by rw[Bu nm eK oa];exact hq,.inl ⟨rfl,xc nm eK oa,rfl⟩⟩
 have sb:∀ nm,holds φ' obj' nm->(∃ x,holds φ2 σ2.obj x/\φ' nm=φ2 x/\nm=cout L t x/\da L.length o.new x=true)\/(nm∉L/\(∀ x∈o.new,nm≠x.1++t)/\holds φ σ.obj nm/\φ' nm=φ nm):=by
  rintro nm ⟨q,k1,k2,k3⟩
  by_cases eK:nm∈L
  ·obtain⟨i,hi,rfl⟩:=List.getElem_of_mem eK
   left
   rw[xr i hi]at k1;cases k1
   rw[O.mut_ren]at k2
   rw[tD i hi]at k3
   exact⟨[i,1],⟨_,jg i hi,k2,k3⟩,tD i hi,(r9 i hi).symm,by show decide (i<L.length)=true;simpa using hi⟩
  ·by_cases oa:∃ x∈o.new,nm=x.1++t
   ·obtain⟨x,hx,rfl⟩:=oa
    left
    rw[Bv x hx]at k1;cases k1
    rw[O.mut_ren]at k2
    rw[xd x hx]at k3
    refine⟨x.1,⟨_,h2 x hx,k2,k3⟩,xd x hx,(sA (By x hx)).symm,?_⟩
    exact WC (By x hx) hx
   ·have pY:∀ x∈o.new,nm≠x.1++t:=fun x hx e=>oa ⟨x,hx,e⟩
    right
    rw[Bu nm eK pY]at k1
    rw[xc nm eK pY]at k3
    exact⟨eK,pY,⟨q,k1,k2,k3⟩,xc nm eK pY⟩
 have fB:∀ nm,nm∉L->holds φ σ.obj nm->(φ nm).blk<w.heap.size/\¬ ml L φ σ.obj (φ nm).blk:=by
  intro nm eK hh
  obtain⟨q,k1,k2,k3⟩:=hh
  refine⟨(hC.objs nm q k1).lt k2 k3,fun ⟨x,k4,k5,k6⟩=>?_⟩
  exact eK (hC.inj _ _ k5 ⟨q,k1,k2,k3⟩ k6▸k4)
 have adM:∀ x y,da L.length o.new x=true->da L.length o.new y=true->cout L t x=cout L t y->x=y:=by
  intro x y hx hy e
  rcases B0 x hx with⟨i,hi,rfl⟩ | ⟨k1,x',aX,rfl⟩<;>rcases B0 y hy with⟨j,hj,rfl⟩ | ⟨k2,y',Uj,rfl⟩
  ·rw[r9 i hi,r9 j hj]at e
   rw[(List.getElem_inj hn).1 e]
  ·rw[r9 i hi,sA k2]at e
   exact(l3 _ (List.getElem_mem hi) y' Uj e).elim
  ·rw[r9 j hj,sA k1]at e
   exact(l3 _ (List.getElem_mem hj) x' aX e.symm).elim
  ·rw[sA k1,sA k2]at e
   exact List.append_cancel_right e
 refine⟨φ',m',BE,?_,xE,fun d u hd hc=>hd.renx BD Bf hc⟩
 constructor
 ·exact fun x=>(hC.tmps x).ext BE xE
 ·exact hC.size
 ·obtain⟨ds,k1,k2,k3⟩:=hC.defers
  refine⟨ds,k1,k2,fun D hD=>⟨(k3 D hD).1,?_⟩⟩
  have k4:=(k3 D hD).2
  rw[eM.fr.block D (Array.getElem?_eq_some_iff.1 k4).1 fun ⟨x,_,⟨q,k5,k6,k7⟩,k8⟩=>(hC.objs x q k5).notDef k6 k7 _ (by rw[k8];exact k4)]
  exact k4
 ·intro nm q hq
  by_cases eK:nm∈L
  ·obtain⟨i,hi,rfl⟩:=List.getElem_of_mem eK
   have cq:obj' L[i]=some q:=hq
   rw[xr i hi]at cq;cases cq
   rw[tD i hi]
   exact(eM.objs _ _ (jg i hi)).ren BD Bf (U' i hi) fun _ _=>rfl
  ·by_cases oa:∃ x∈o.new,nm=x.1++t
   ·obtain⟨x,hx,rfl⟩:=oa
    have cq:obj' (x.1++t)=some q:=hq
    rw[Bv x hx]at cq;cases cq
    rw[xd x hx]
    exact(eM.objs _ _ (h2 x hx)).ren BD Bf (Bz x hx) fun _ _=>rfl
   ·have pY:∀ x∈o.new,nm≠x.1++t:=fun x hx e=>oa ⟨x,hx,e⟩
    have cq:obj' nm=some q:=hq
    rw[Bu nm eK pY]at cq
    rw[xc nm eK pY]
    refine(hC.objs nm q cq).ext BE xE fun k2 k3=>?_
    obtain⟨k4,k5⟩:=fB nm eK ⟨q,cq,k2,k3⟩
    exact eM.fr.block _ k4 k5
 ·intro b off v h
  rcases xw b off v h with h | ⟨IS,h⟩
  ·exact eM.mem b off v h
  ·have k2:=hC.mem b off v h
   rw[oN (eM.fr.block b (kh k2) fun ⟨nm,_,k3,e⟩=>by
    have :=hC.apart nm k3 off;rw[e,h]at this;cases this)]
   exact k2
 ·intro nm hh off
  rcases sb nm hh with⟨x,k1,k2,_,_⟩ | ⟨k1,k2,k3,k4⟩
  ·rw[k2]
   cases hq:m' (φ2 x).blk off with
   |none=>rfl
   |some v=>
    rcases xw _ _ _ hq with h | ⟨_,h⟩
    ·have:=eM.apart x k1 off;rw[h]at this;cases this
    ·rcases xn x k1 with h' | ⟨im,k5,k6,k7⟩
     ·have:=kh (hC.mem _ _ _ h)
      have gE:w.heap.size<=(φ2 x).blk:=h'
      omega
     ·have:=hC.apart im k6 off
      rw[k7,h]at this;cases this
  ·rw[k4]
   obtain⟨k5,k6⟩:=fB nm k1 k3
   cases hq:m' (φ nm).blk off with
   |none=>rfl
   |some v=>
    rcases xw _ _ _ hq with h | ⟨_,h⟩
    ·rcases eM.fresh _ _ _ h with h' | h' | h'
     ·have:=hC.apart nm k3 off
      have gE:m (φ nm).blk off=some v:=h'
      rw[gE]at this;cases this
     ·have gE:w.heap.size<=(φ nm).blk:=h'
      omega
     ·exact(k6 h').elim
    ·have:=hC.apart nm k3 off;rw[h]at this;cases this
 ·intro nm im hh U5 e
  rcases sb nm hh with⟨x,k1,k2,k3,k4⟩ | ⟨k1,k2,k3,k4⟩<;>rcases sb im U5 with⟨x',j1,j2,j3,j4⟩ | ⟨j1,j2,j3,j4⟩
  ·rw[k2,j2]at e
   rw[k3,j3,eM.inj _ _ k1 j1 e]
  ·exfalso
   rw[k2,j4]at e
   obtain⟨k5,k6⟩:=fB im j1 j3
   rcases xn x k1 with h' | h'
   ·have gE:w.heap.size<=(φ2 x).blk:=h'
    omega
   ·rw[e]at h';exact k6 h'
  ·exfalso
   rw[k4,j2]at e
   obtain⟨k5,k6⟩:=fB nm k1 k3
   rcases xn x' j1 with h' | h'
   ·have gE:w.heap.size<=(φ2 x').blk:=h'
    omega
   ·rw[<-e]at h';exact k6 h'
  ·rw[k4,j4]at e
   exact hC.inj _ _ k3 j3 e
 ·intro nm hh
  rcases sb nm hh with⟨x,k1,k2,_,_⟩ | ⟨k1,k2,k3,k4⟩
  ·rw[k2]
   rcases xn x k1 with h' | ⟨im,k5,k6,k7⟩
   ·exact .inl (Nat.le_trans hC.fr.size h')
   ·rw[<-k7];exact hC.own im k6
  ·rw[k4];exact hC.own nm k3
 ·refine⟨eM.fr.os.trans hC.fr.os,eM.fr.tape.trans hC.fr.tape,eM.fr.output.trans hC.fr.output,Nat.le_trans hC.fr.size eM.fr.size,fun b hb ho=>?_⟩
  rw[eM.fr.block b (Nat.lt_of_lt_of_le hb hC.fr.size) fun ⟨nm,_,k3,e⟩=>?_]
  ·exact hC.fr.block b hb ho
  ·rcases hC.own nm k3 with h | h<;>rw[e]at h
   ·omega
   ·exact ho h
 ·intro b off v h
  rcases xw b off v h with h | ⟨_,h⟩
  ·rcases eM.fresh _ _ _ h with h' | h' | ⟨nm,_,k3,e⟩
   ·exact hC.fresh _ _ _ h'
   ·exact .inr (.inl (Nat.le_trans hC.fr.size h'))
   ·rw[<-e];exact .inr (hC.own nm k3)
  ·exact hC.fresh _ _ _ h
 ·exact⟨hC.kept.1,hC.kept.2.trans xE⟩
end
def eA:Nat->List D->List (Nat×E)
 |_,[]=>[]
 |k,x::r=>(k,⟨true,x⟩)::eA (k+1) r
theorem LX:∀ {k:Nat} {xs:List D} {t:Nat} {e:E},(t,e)∈eA k xs->∃ (i:Nat) (h:i<xs.length),t=k+i/\e=⟨true,xs[i]⟩
 |k,[],t,e,h=>by simp[eA]at h
 |k,x::r,t,e,h=>by
  simp only[eA,List.mem_cons,Prod.mk.injEq]at h
  rcases h with⟨rfl,rfl⟩ | h
  ·exact⟨0,by simp,rfl,rfl⟩
  ·obtain⟨i,hi,h1,h2⟩:=LX h
   exact⟨i+1,by simpa using hi,by omega,by simpa using h2⟩
structure CSpec where
 pre:List O->List D->Prop
 out:List O->List D->Out
def bZ(obj:Name->Option O)(ds:List D):List O:=(reach obj ds).map (bV (reach obj ds) obj)
def cG(obj:Name->Option O)(ds:List D):List D:=D.renL (cin (reach obj ds)) ds
def CSpec.toSpec(s:CSpec):Spec where
 app obj t ds:=⟨(shut obj (reach obj ds)&&D.closL (bY (reach obj ds)) ds&&fresh obj t (s.out (bZ obj ds) (cG obj ds)).new)=true/\s.pre (bZ obj ds) (cG obj ds),
  (s.out (bZ obj ds) (cG obj ds)).d.ren (cout (reach obj ds) t),cV (reach obj ds) t (s.out (bZ obj ds) (cG obj ds)).new (bX (reach obj ds) t (s.out (bZ obj ds) (cG obj ds)).upd obj)⟩
 foot obj t ds:=reach obj ds++((s.out (bZ obj ds) (cG obj ds)).upd.map fun x=>(reach obj ds).getD x.1 [])++(s.out (bZ obj ds) (cG obj ds)).new.map fun x=>x.1++t
 wrt obj t ds:=((s.out (bZ obj ds) (cG obj ds)).upd.map fun x=>(reach obj ds).getD x.1 [])++(s.out (bZ obj ds) (cG obj ds)).new.map fun x=>x.1++t
theorem rr{L:List Name}{t:Name}:∀ (l:List (Nat×O)) (obj obj2:Name->Option O) (nm:Name),bX L t l obj2 nm=if nm∈l.map (fun x=>L.getD x.1 [])then bX L t l obj nm else obj2 nm
 |[],obj,obj2,nm=>by simp[bX]
 |(i,o)::r,obj,obj2,nm=>by
  simp only[bX,List.map_cons,List.mem_cons]
  rw[rr r (upd obj (L.getD i []) (some (o.ren (cout L t)))) (upd obj2 (L.getD i []) (some (o.ren (cout L t)))) nm]
  by_cases h:nm∈r.map (fun x=>L.getD x.1 [])
  ·rw[if_pos h,if_pos (.inr h)]
  ·rw[if_neg h]
   by_cases e:nm=L.getD i []
   ·rw[if_pos (.inl e)]
    have hu:bX L t r (upd obj (L.getD i []) (some (o.ren (cout L t)))) nm=(upd obj (L.getD i []) (some (o.ren (cout L t)))) nm:=by
     rw[rr r obj _ nm,if_neg h]
    rw[hu,e,aE,aE]
   ·rw[if_neg (by simp only[not_or];exact⟨e,h⟩)]
    exact aL _ _ _ e
theorem pn{L:List Name}{t:Name}:∀ (l:List (Name×O)) (obj obj2:Name->Option O) (nm:Name),cV L t l obj2 nm=if nm∈l.map (fun x=>x.1++t)then cV L t l obj nm else obj2 nm
 |[],obj,obj2,nm=>by simp[cV]
 |(i,o)::r,obj,obj2,nm=>by
  simp only[cV,List.map_cons,List.mem_cons]
  rw[pn r (upd obj (i++t) (some (o.ren (cout L t)))) (upd obj2 (i++t) (some (o.ren (cout L t)))) nm]
  by_cases h:nm∈r.map (fun x=>x.1++t)
  ·rw[if_pos h,if_pos (.inr h)]
  ·rw[if_neg h]
   by_cases e:nm=i++t
   ·rw[if_pos (.inl e)]
    have hu:cV L t r (upd obj (i++t) (some (o.ren (cout L t)))) nm=(upd obj (i++t) (some (o.ren (cout L t)))) nm:=by
     rw[pn r obj _ nm,if_neg h]
    rw[hu,e,aE,aE]
   ·rw[if_neg (by simp only[not_or];exact⟨e,h⟩)]
    exact aL _ _ _ e
theorem mw{obj obj2:Name->Option O}{ds:List D}(h:bo (reach obj ds) obj obj2):reach obj2 ds=reach obj ds:=zE _ _ _ h
theorem vd{obj obj2:Name->Option O}{ds:List D}(h:bo (reach obj ds) obj obj2):bZ obj2 ds=bZ obj ds:=by
 unfold bZ
 rw[mw h]
 exact List.map_congr_left fun nm hn=>by simp only[bV];rw[h nm hn]
theorem Dn{obj obj2:Name->Option O}{ds:List D}(h:bo (reach obj ds) obj obj2):cG obj2 ds=cG obj ds:=by
 unfold cG
 rw[mw h]
theorem zm{obj obj2:Name->Option O}{L:List Name}(h:bo L obj obj2):shut obj2 L=shut obj L:=by
 unfold shut
 refine Bool.eq_iff_iff.2 ?_
 simp only[List.all_eq_true]
 exact⟨fun k x hx=>by rw[<-h x hx];exact k x hx,fun k x hx=>by rw[h x hx];exact k x hx⟩
theorem xR{obj obj2:Name->Option O}{t:Name}{new:List (Name×O)}(h:bo (new.map fun x=>x.1++t) obj obj2):fresh obj2 t new=fresh obj t new:=by
 unfold fresh
 refine Bool.eq_iff_iff.2 ?_
 simp only[List.all_eq_true]
 exact⟨fun k x hx=>by rw[<-h _ (List.mem_map_of_mem hx)];exact k x hx,fun k x hx=>by rw[h _ (List.mem_map_of_mem hx)];exact k x hx⟩
theorem Au{ok ok2:Prop}{d:D}{obj obj2:Name->Option O}{L:List Name}{t:Name}{o:Out}(aa:ok2=ok)
 (ha:bo ((o.upd.map fun x=>L.getD x.1 [])++o.new.map fun x=>x.1++t) obj obj2):
 bx ⟨ok,d,cV L t o.new (bX L t o.upd obj)⟩ ⟨ok2,d,cV L t o.new (bX L t o.upd obj2)⟩ obj obj2 ((o.upd.map fun x=>L.getD x.1 [])++o.new.map fun x=>x.1++t):=by
 refine⟨aa,rfl,fun nm=>?_,fun nm hn=>?_⟩
 ·show cV L t o.new (bX L t o.upd obj2) nm=if nm∈_ then cV L t o.new (bX L t o.upd obj) nm else obj2 nm
  rw[pn o.new (bX L t o.upd obj) (bX L t o.upd obj2) nm]
  by_cases h1:nm∈o.new.map (fun x=>x.1++t)
  ·rw[if_pos h1,if_pos (List.mem_append_right _ h1)]
  ·rw[if_neg h1,rr o.upd obj obj2 nm]
   by_cases h2:nm∈o.upd.map (fun x=>L.getD x.1 [])
   ·rw[if_pos h2,if_pos (List.mem_append_left _ h2)]
    rw[pn o.new obj (bX L t o.upd obj) nm,if_neg h1]
   ·rw[if_neg h2,if_neg (by simp only[List.mem_append,not_or];exact⟨h2,h1⟩)]
 ·show cV L t o.new (bX L t o.upd obj) nm=obj nm
  simp only[List.mem_append,not_or]at hn
  rw[pn o.new obj (bX L t o.upd obj) nm,if_neg hn.2,rr o.upd obj obj nm,if_neg hn.1]
theorem CSpec.near(s:CSpec):s.toSpec.Near:=by
 have key:∀ {obj obj2:Name->Option O} {t:Name} {ds:List D},bo (s.toSpec.foot obj t ds) obj obj2->bo (reach obj ds) obj obj2/\
     bo (((s.out (bZ obj ds) (cG obj ds)).upd.map fun x=>(reach obj ds).getD x.1 [])++(s.out (bZ obj ds) (cG obj ds)).new.map fun x=>x.1++t) obj obj2:=by
  intro obj obj2 t ds h
  refine⟨fun nm hn=>h nm ?_,fun nm hn=>h nm ?_⟩
  ·exact List.mem_append_left _ (List.mem_append_left _ hn)
  ·rcases List.mem_append.1 hn with hn | hn
   ·exact List.mem_append_left _ (List.mem_append_right _ hn)
   ·exact List.mem_append_right _ hn
 refine⟨fun obj obj2 t ds h=>?_,fun obj obj2 t ds h=>?_,fun obj t ds nm hn=>?_,fun obj obj2 t ds h=>?_⟩
 ·obtain⟨h1,h2⟩:=key h
  simp only[CSpec.toSpec]
  rw[vd h1,Dn h1,mw h1]
  refine Au ?_ h2
  rw[zm h1,xR fun nm hn=>h2 nm (List.mem_append_right _ hn)]
 ·obtain⟨h1,h2⟩:=key h
  simp only[CSpec.toSpec]
  rw[vd h1,Dn h1,mw h1]
 ·simp only[CSpec.toSpec]at hn |-
  rcases List.mem_append.1 hn with hn | hn
  ·exact List.mem_append_left _ (List.mem_append_right _ hn)
  ·exact List.mem_append_right _ hn
 ·obtain⟨h1,h2⟩:=key h
  simp only[CSpec.toSpec]
  rw[vd h1,Dn h1,mw h1]
def pz(σ:S)(u:List (Nat×O)):Nat->List O->Prop
 |_,[]=>True
 |i,o::r=>σ.obj [i,1]=some (eh u i o)/\pz σ u (i+1) r
theorem F1{σ:S}{u:List (Nat×O)}:∀ {l:List O} {k:Nat},pz σ u k l->∀ i (h:i<l.length),σ.obj [k+i,1]=some (eh u (k+i) l[i])
 |o::r,k,h,0,_=>h.1
 |o::r,k,h,i+1,hi=>by
  have :=F1 h.2 i (by simpa using hi)
  rw[show k+(i+1)=k+1+i by omega]
  simpa using this
def th(σ:S):List (Name×O)->Prop
 |[]=>True
 |x::r=>σ.obj x.1=some x.2/\th σ r
theorem F5{σ:S}:∀ {l:List (Name×O)},th σ l->∀ x∈l,σ.obj x.1=some x.2
 |y::r,h,x,hx=>by
  rcases List.mem_cons.1 hx with rfl | hx
  ·exact h.1
  ·exact F5 h.2 x hx
def distinct:List Name->Bool
 |[]=>true
 |x::r=>(r.all fun y=>!(x==y))&&distinct r
theorem Kf:∀ {l:List Name},distinct l=true->l.Nodup
 |[],_=>by simp
 |x::r,h=>by
  simp only[distinct,Bool.and_eq_true]at h
  refine List.nodup_cons.2 ⟨fun hx=>?_,Kf h.2⟩
  have :=List.all_eq_true.1 h.1 x hx
  simp at this
def fL(os:List O)(o:Out)(σ:S):Prop:=
 pz σ o.upd 0 os/\th σ o.new/\
  (D.clos (da os.length o.new) o.d&&(o.upd.all fun x=>O.clos (da os.length o.new) x.2&&decide (x.1<os.length))&&(o.new.all fun x=>O.clos (da os.length o.new) x.2&&!ct x.1)&&distinct (o.new.map (·.1)))=true
theorem J7{os:List O}{o:Out}{σ:S}(h:fL os o σ):M7 σ os o:=by
 obtain⟨h1,h2,h3⟩:=h
 simp only[Bool.and_eq_true]at h3
 exact⟨fun i hi=>by simpa using F1 h1 i hi,F5 h2,h3.1.1.1,h3.1.1.2,by simpa using h3.1.2,Kf h3.2⟩
def sY(P:Program)(rs:List ResultVar)(os:List O)(o:Out):Exit->S->Prop
 | .normal,σ=>(bL P σ rs).ok/\(bL P σ rs).d=o.d/\fL os o σ
 | .ret,σ=>(bL P σ rs).ok/\(bL P σ rs).d=o.d/\fL os o σ
 |_,_=>False
def be(os:List O):Name->Option O
 |[i,1]=>os[i]?
 |_=>none
theorem Q2{L:List Name}{obj:Name->Option O}{x:Name}(h:ct x=false):ic L obj x=none:=by
 unfold ic
 split
 ·simp[ct]at h
 ·rfl
theorem td{os:List O}{x:Name}(h:ct x=false):be os x=none:=by
 unfold be
 split
 ·simp[ct]at h
 ·rfl
theorem wy{L:List Name}{obj:Name->Option O}:ic L obj=be (L.map (bV L obj)):=by
 funext x
 cases hx:ct x with
 |false=>rw[Q2 hx,td hx]
 |true=>
  obtain⟨i,rfl⟩:=tz.1 hx
  show (if i<L.length then some (bV L obj (L.getD i []))else none)=(L.map (bV L obj))[i]?
  by_cases hi:i<L.length
  ·rw[if_pos hi,List.getElem?_eq_getElem (by simpa using hi)]
   rw[jj hi,List.getElem_map]
  ·rw[if_neg hi,List.getElem?_eq_none (by simpa using hi)]
theorem Aj{nt:Nat}{l:List (Nat×E)}{os:List O}:aS nt [0] (be os) l []=⟨nt,dj eAny l,be os,[0],0⟩:=by
 unfold aS
 congr 1
 funext nm
 split
 ·rename_i h
  have :ct nm=false:=by
   cases hc:ct nm with
   |false=>rfl
   |true=>
    obtain⟨i,rfl⟩:=tz.1 hc
    rw[FK]at h;cases h
  unfold be
  split
  ·simp[ct]at this
  ·rfl
 ·rfl
theorem lk{P:Program}{f:FuncId}{fn:Func}{c:Code}{s:CSpec}{nt:Nat}{rs:List ResultVar}(hf:P.funcs[f]?=some fn)(hb:fn.body=some c)(ek:fn.ntmps=nt)(eJ:fn.results.toList=rs)
 (kV:∀ args w,(callFunc f args).run P w=.ok (.enter f args) w) (an:f≠yid)
 (h:∀ os ds,s.pre os ds->ds.length<=nt/\CW P c (aS nt [0] (be os) (eA 0 ds) []) (sY P rs os (s.out os ds))):ak P f s.toSpec:=by
 subst ek
 subst eJ
 refine⟨s.near,fun _=>kV,fun _ G φ m σ a w hC t ds us _ hl hr aa=>?_,fun e=>(an e).elim⟩
 obtain⟨aa,cr⟩:=aa
 simp only[Bool.and_eq_true]at aa
 obtain⟨⟨fb,bI⟩,cl⟩:=aa
 obtain⟨hlen,kX⟩:=h _ _ cr
 have pX:(reach σ.obj ds).Nodup:=vY _ _ _ (by simp)
 simp only[cG,gl,List.length_map]at hlen
 refine(callsIn_wide (n:=0)).1 (callsIn_of_wp_marks hf hb trivial ?_)
 have fY:=JE hC (L:=reach σ.obj ds) pX fb (rd:=none) (fun l h=>by cases h) (b0:=0) (nt:=fn.ntmps) (env:=dj eAny (eA 0 (cG σ.obj ds)))
  (tmps:=us++Array.replicate (fn.ntmps-us.size) undef) (by simp;omega) (fun t=>by
    rcases rF (z:=eAny) (eA 0 (cG σ.obj ds)) t with h1 | h1
    ·rw[h1];unfold bJ eAny;simp;exact .any _
    ·obtain⟨i,hi,h2,h3⟩:=LX h1
     rw[h3]
     unfold bJ
     simp only[if_true]
     simp only[cG,gl,List.length_map]at hi
     have bg:i<us.size:=by omega
     have e:((us++Array.replicate (fn.ntmps-us.size) undef).getD t undef)=us[i]:=by
      have ai:0+i<(us++Array.replicate (fn.ntmps-us.size) undef).size:=by simp;omega
      rw[h2]
      simp only[Array.getD,ai,dite_true]
      show (us++Array.replicate (fn.ntmps-us.size) undef)[0+i]=us[i]
      simp only[Nat.zero_add]
      exact Array.getElem_append_left bg
     rw[e]
     simp only[cG,gl,List.getElem_map]
     exact(hr i hi bg).renx (Mem.le_refl m) vX (gw hi bI))
 rw[Aj]at kX
 rw[wy]at fY
 refine wpIn_mono (kX _ _ m _ w fY) ?_
 rintro e a1 w1 ⟨φ2,m2,σ2,fh,hK⟩
 have fin:(bL P σ2 fn.results.toList).ok/\(bL P σ2 fn.results.toList).d=(s.out (bZ σ.obj ds) (cG σ.obj ds)).d/\fL (bZ σ.obj ds) (s.out (bZ σ.obj ds) (cG σ.obj ds)) σ2->
     LeavesInM Fence.wide 0 P fn a1.tmps (fun e w'=>∃ v φ' m',e=.returned v/\aD G φ' m' { σ with obj:=(s.toSpec.app σ.obj t ds).obj } a w'/\au φ' (s.toSpec.app σ.obj t ds).obj m' (s.toSpec.app σ.obj t ds).d v/\Ext φ φ' σ.obj (s.toSpec.app σ.obj t ds).obj) a1.defers .returning w1:=by
  rintro⟨h1,h2,h3⟩
  refine Av a1.defers rfl fh fun a' w' _ br=>?_
  obtain⟨v,h4,h5⟩:=E3 br fn h1
  rw[h2]at h5
  have hE:=J7 h3
  obtain⟨φ',m',k1,k2,k3,k4⟩:=JD hC pX fb br hE cl
  have sa:=hE.cd
  simp only[bZ,List.length_map]at sa
  exact⟨v,h4,v,φ',m',rfl,k2,k4 _ _ h5 sa,k3⟩
 cases e with
 |normal=>exact fin hK
 |ret=>exact fin hK
 |_=>exact hK.elim
theorem bx.more{ok ok2:Prop}{d d2:D}{o1 o2 obj obj2:Name->Option O}{wr:List Name}(nm:Name)(x:Option O)(h:bx ⟨ok,d,o1⟩ ⟨ok2,d2,o2⟩ obj obj2 wr):
 bx ⟨ok,d,upd o1 nm x⟩ ⟨ok2,d2,upd o2 nm x⟩ obj obj2 (nm::wr):=by
 refine⟨h.ok,h.d,fun y=>?_,fun y hy=>?_⟩
 ·show upd o2 nm x y=if y∈nm::wr then upd o1 nm x y else obj2 y
  by_cases e:y=nm
  ·subst e;rw[aE,if_pos (by simp),aE]
  ·rw[aL _ _ _ e,aL _ _ _ e]
   have :=h.eff y
   simp only at this
   rw[this]
   by_cases hy:y∈wr
   ·rw[if_pos hy,if_pos (List.mem_cons_of_mem _ hy)]
   ·rw[if_neg hy,if_neg (by simp[e,hy])]
 ·simp only[List.mem_cons,not_or]at hy
  show upd o1 nm x y=obj y
  rw[aL _ _ _ hy.1]
  exact h.frame y hy.2
structure YSpec where
 pre:List E->List Nat->Code->Code->List O->List D->Prop
 out:List E->List Nat->Code->Code->List O->List D->Out×Option Code
def roots(env:List E)(ds:List D):List D:=env.map (·.d)++ds
def gy(obj:Name->Option O)(env:List E)(ds:List D):List E:=env.map (E.ren (cin (reach obj (roots env ds))))
def g'(obj:Name->Option O)(env:List E)(ds:List D):List D:=D.renL (cin (reach obj (roots env ds))) ds
def YSpec.o(y:YSpec)(obj:Name->Option O)(env:List E)(ps:List Nat)(asg body:Code)(ds:List D):Out×Option Code:=
 y.out (gy obj env ds) ps asg body (bZ obj (roots env ds)) (g' obj env ds)
def YSpec.toSpec(y:YSpec):Spec where
 app obj t args:=match args with
  | .yld nm::ds=>match obj nm with
    |some (.loop env ps asg body .ready none)=>
     ⟨(shut obj (reach obj (roots env ds))&&D.closL (bY (reach obj (roots env ds))) (roots env ds)&&fresh obj t (y.o obj env ps asg body ds).1.new&&!bY (reach obj (roots env ds)) nm&&
         decide (ds.length=ps.length)&&(ps.all fun p=>decide (p<env.length)))=true/\y.pre (gy obj env ds) ps asg body (bZ obj (roots env ds)) (g' obj env ds),
       .v (.bool (y.o obj env ps asg body ds).2.isNone),
       upd (cV (reach obj (roots env ds)) t (y.o obj env ps asg body ds).1.new (bX (reach obj (roots env ds)) t (y.o obj env ps asg body ds).1.upd obj)) nm
        (some (.loop env ps asg body (if (y.o obj env ps asg body ds).2.isNone then .ready else .done) (y.o obj env ps asg body ds).2))⟩
    |_=>.bad obj
  |_=>.bad obj
 foot obj t args:=match args with
  | .yld nm::ds=>nm::(match obj nm with
    |some (.loop env ps asg body .ready none)=>reach obj (roots env ds)++((y.o obj env ps asg body ds).1.upd.map fun x=>(reach obj (roots env ds)).getD x.1 [])++(y.o obj env ps asg body ds).1.new.map fun x=>x.1++t
    |_=>[])
  |_=>[]
 wrt obj t args:=match args with
  | .yld nm::ds=>nm::(match obj nm with
    |some (.loop env ps asg body .ready none)=>((y.o obj env ps asg body ds).1.upd.map fun x=>(reach obj (roots env ds)).getD x.1 [])++(y.o obj env ps asg body ds).1.new.map fun x=>x.1++t
    |_=>[])
  |_=>[]
theorem YSpec.near(y:YSpec):y.toSpec.Near:=by
 have z':∀ {obj obj2:Name->Option O} {env:List E} {ps:List Nat} {asg body:Code} {ds:List D},bo (reach obj (roots env ds)) obj obj2->
     y.o obj2 env ps asg body ds=y.o obj env ps asg body ds/\gy obj2 env ds=gy obj env ds/\g' obj2 env ds=g' obj env ds:=by
  intro obj obj2 env ps asg body ds h
  unfold YSpec.o gy g'
  rw[vd h,mw h]
  exact⟨rfl,rfl,rfl⟩
 have split:∀ {A B C:List Name} {obj obj2:Name->Option O} {nm:Name},bo (nm::(A++B++C)) obj obj2->bo A obj obj2/\bo (B++C) obj obj2:=by
  intro A B C obj obj2 nm h
  refine⟨fun x hx=>h x ?_,fun x hx=>h x ?_⟩
  ·exact List.mem_cons_of_mem _ (List.mem_append_left _ (List.mem_append_left _ hx))
  ·rcases List.mem_append.1 hx with hx | hx
   ·exact List.mem_cons_of_mem _ (List.mem_append_left _ (List.mem_append_right _ hx))
   ·exact List.mem_cons_of_mem _ (List.mem_append_right _ hx)
 have ym:∀ (args:List D),(∃ nm ds,args=.yld nm::ds)\/(∀ obj t,y.toSpec.app obj t args=.bad obj/\y.toSpec.foot obj t args=[]/\y.toSpec.wrt obj t args=[]):=by
  intro args
  rcases args with _ | ⟨d,ds⟩
  ·exact .inr fun _ _=>⟨rfl,rfl,rfl⟩
  ·cases d with
   |yld nm=>exact .inl ⟨nm,ds,rfl⟩
   |_=>exact .inr fun _ _=>⟨rfl,rfl,rfl⟩
 refine⟨fun obj obj2 t args h=>?_,fun obj obj2 t args h=>?_,fun obj t args im hn=>?_,fun obj obj2 t args h=>?_⟩
 ·rcases ym args with⟨nm,ds,rfl⟩ | hb
  ·simp only[YSpec.toSpec]at h |-
   have h0:obj2 nm=obj nm:=h nm (by simp)
   rw[h0]
   split
   ·rename_i env ps asg body ho
    simp only[ho]at h
    obtain⟨h1,h2⟩:=split h
    obtain⟨e1,e2,e3⟩:=z' (ps:=ps) (asg:=asg) (body:=body) h1
    rw[e1,e2,e3,vd h1,mw h1]
    refine bx.more nm _ (Au ?_ h2)
    rw[zm h1,xR fun nm hn=>h2 nm (List.mem_append_right _ hn)]
   ·exact .none _ fun x hx=>by simp only[List.mem_singleton]at hx;subst hx;exact h0
  ·rw[(hb obj t).1,(hb obj2 t).1,(hb obj t).2.2]
   exact .same rfl rfl rfl rfl
 ·rcases ym args with⟨nm,ds,rfl⟩ | hb
  ·simp only[YSpec.toSpec]at h |-
   have h0:obj2 nm=obj nm:=h nm (by simp)
   rw[h0]
   split
   ·rename_i env ps asg body ho
    simp only[ho]at h
    obtain⟨h1,h2⟩:=split h
    obtain⟨e1,e2,e3⟩:=z' (ps:=ps) (asg:=asg) (body:=body) h1
    rw[e1,mw h1]
   ·rfl
  ·rw[(hb obj t).2.1,(hb obj2 t).2.1]
 ·rcases ym args with⟨nm,ds,rfl⟩ | hb
  ·simp only[YSpec.toSpec]at hn |-
   rcases List.mem_cons.1 hn with rfl | hn
   ·simp
   ·refine List.mem_cons_of_mem _ ?_
    split at hn
    ·rename_i env ps asg body ho
     try simp only[ho]
     rcases List.mem_append.1 hn with hn | hn
     ·exact List.mem_append_left _ (List.mem_append_right _ hn)
     ·exact List.mem_append_right _ hn
    ·cases hn
  ·rw[(hb obj t).2.2]at hn;cases hn
 ·rcases ym args with⟨nm,ds,rfl⟩ | hb
  ·simp only[YSpec.toSpec]at h |-
   have h0:obj2 nm=obj nm:=h nm (by simp)
   rw[h0]
   split
   ·rename_i env ps asg body ho
    simp only[ho]at h
    obtain⟨h1,h2⟩:=split h
    obtain⟨e1,e2,e3⟩:=z' (ps:=ps) (asg:=asg) (body:=body) h1
    rw[e1,mw h1]
   ·rfl
  ·rw[(hb obj t).2.2,(hb obj2 t).2.2]
def qt(env:List E):Nat->E:=fun t=>env.getD t eAny
def setP:(Nat->E)->List Nat->List D->(Nat->E)
 |f,p::ps,d::ds=>setP (upd f p ⟨true,d⟩) ps ds
 |f,_,_=>f
def FO(k:S->Prop):Exit->S->Prop
 | .normal,σ=>k σ
 |_,_=>False
def Qk(os:List O)(o:Out×Option Code):Exit->S->Prop
 | .normal,σ=>o.2=none/\fL os o.1 σ
 | .ret,σ=>o.2=some .ret/\fL os o.1 σ
 | .exit id,σ=>o.2=some (.exit id)/\fL os o.1 σ
 |_,_=>False
theorem EM{φ:Name->Loc}{obj:Name->Option O}{m:Mem}{n:Nat}:∀ (ps:List Nat) (ds:List D) (us:List Value) (f:Nat->E) (tmps:Array Value),tmps.size=n->ps.length=ds.length->ds.length=us.length->
 (∀ p∈ps,p<n)->(∀ t,bJ φ obj m (f t) (tmps.getD t undef))->(∀ i (h:i<ds.length) (h':i<us.length),au φ obj m ds[i] us[i])->
 (∀ t,bJ φ obj m (setP f ps ds t) (((ps.zip us).foldl (fun tmps (p:Nat×Value)=>tmps.setIfInBounds p.1 p.2) tmps).getD t undef))/\((ps.zip us).foldl (fun tmps (p:Nat×Value)=>tmps.setIfInBounds p.1 p.2) tmps).size=n
 |[],ds,us,f,tmps,hs,h1,h2,hp,hf,hr=>by
  have :ds=[]:=List.eq_nil_of_length_eq_zero (by simpa using h1.symm)
  subst this
  exact⟨hf,hs⟩
 |p::ps,[],us,f,tmps,hs,h1,h2,hp,hf,hr=>by simp at h1
 |p::ps,d::ds,[],f,tmps,hs,h1,h2,hp,hf,hr=>by simp at h2
 |p::ps,d::ds,u::us,f,tmps,hs,h1,h2,hp,hf,hr=>by
  simp only[List.zip_cons_cons,List.foldl_cons,setP]
  refine EM ps ds us _ _ (by simpa using hs) (by simpa using h1) (by simpa using h2) (fun q hq=>hp q (by simp[hq])) (fun t=>?_) fun i a b=>by
   have :=hr (i+1) (by simpa using a) (by simpa using b)
   simpa using this
  have ae:p<tmps.size:=by rw[hs];exact hp p (by simp)
  by_cases ht:t=p
  ·subst ht
   rw[aE]
   have e:(tmps.setIfInBounds t u).getD t undef=u:=by simp[Array.getD,ae]
   rw[e]
   unfold bJ
   simp only[if_true]
   exact hr 0 (by simp) (by simp)
  ·rw[aL _ _ _ ht]
   have e:(tmps.setIfInBounds p u).getD t undef=tmps.getD t undef:=by
    simp only[Array.getD_eq_getD_getElem?]
    rw[Array.getElem?_setIfInBounds_ne (fun h=>ht h.symm)]
   rw[e];exact hf t
theorem y7{wa wb:World}{L:List Name}{φ:Name->Loc}{obj:Name->Option O}{l:Nat}(ht:sH wa L φ obj)(h:∃ r,wa.heap[l]?=some (.loop r))(hb:∀ b,b≠l->wb.heap[b]?=wa.heap[b]?):sH wb L φ obj:=by
 refine⟨fun q hq=>?_,ht.2⟩
 obtain⟨T,f,e⟩:=ht.1 q hq
 obtain⟨r,hr⟩:=h
 rw[hb q.1 (fun e'=>by rw[e',hr]at e;cases e)]
 exact⟨T,f,e⟩
theorem KI{wa wb:World}{m:Mem}{L:List Name}{φ:Name->Loc}{obj:Name->Option O}{l:Nat}{h h' ht ht'}{φ1:Name->Loc}{m1:Mem}{σ1:S}{a1:Act}{w1 w2:World}
 (hC:aD (qm wa m L φ obj (some l) h ht) φ1 m1 σ1 a1 w1) (bj:wb.heap.size=wa.heap.size/\w2.heap.size=w1.heap.size) (ho:wb.os=w2.os/\wb.tape=w2.tape/\wb.output=w2.output)
 (hb:∀ b,b≠l->wb.heap[b]?=wa.heap[b]?) (h2:∀ b,b≠l->w2.heap[b]?=w1.heap[b]?) (hl:wb.heap[l]?=w2.heap[l]?):aD (qm wb m L φ obj (some l) h' ht') φ1 m1 σ1 a1 w2:=by
 obtain⟨IN,r,hr⟩:=h l rfl
 have ae:l<wa.heap.size:=(Array.getElem?_eq_some_iff.1 hr).1
 have bS:w1.heap[l]?=some (.loop r):=(hC.fr.block l ae IN).trans hr
 constructor
 ·exact hC.tmps
 ·exact hC.size
 ·obtain⟨ds,k1,k2,k3⟩:=hC.defers
  refine⟨ds,k1,k2,fun D hD=>?_⟩
  obtain⟨k4,k5⟩:=k3 D hD
  have an:D≠l:=fun e=>by subst e;rw[bS]at k5;cases k5
  exact⟨by show wb.heap.size<=D;rw[bj.1];exact k4,(h2 D an).trans k5⟩
 ·intro nm o fc
  refine(hC.objs nm o fc).ext (Mem.le_refl _) (Ext.refl _ _) fun k1 k2=>h2 _ fun e=>?_
  rcases hC.own nm ⟨o,fc,k1,k2⟩with h3 | h3
  ·have h4:wa.heap.size<=(φ1 nm).blk:=h3
   omega
  ·rw[e]at h3;exact IN h3
 ·intro b off v hv
  have h3:=hC.mem b off v hv
  rw[oN (h2 b (fun e=>by subst e;unfold World.cell? at h3;simp[bS]at h3))]
  exact h3
 ·exact hC.apart
 ·exact hC.inj
 ·intro nm hh
  rcases hC.own nm hh with h3 | h3
  ·exact .inl (by show wb.heap.size<=_;rw[bj.1];exact h3)
  ·exact .inr h3
 ·refine⟨ho.1.symm,ho.2.1.symm,ho.2.2.symm,by show wb.heap.size<=_;rw[bj.1,bj.2];exact hC.fr.size,fun b h3 h4=>?_⟩
  show w2.heap[b]?=wb.heap[b]?
  by_cases e:b=l
  ·subst e;exact hl.symm
  ·rw[h2 b e,hb b e]
   exact hC.fr.block b (by have:b<wb.heap.size:=h3;show b<wa.heap.size;omega) h4
 ·intro b off v hv
  rcases hC.fresh b off v hv with h3 | h3 | h3
  ·exact .inl h3
  ·exact .inr (.inl (by show wb.heap.size<=_;rw[bj.1];exact h3))
  ·exact .inr (.inr h3)
 ·exact hC.kept
theorem KZ{L:List Name}{obj:Name->Option O}{nm:Name}{x:Option O}(h:nm∉L){y:Name}(hy:y∈L):bV L (upd obj nm x) y=bV L obj y:=by
 unfold bV
 rw[aL _ _ _ (by rintro rfl;exact h hy)]
theorem Q1{L:List Name}{obj:Name->Option O}{nm:Name}{x:Option O}(h:nm∉L):ic L (upd obj nm x)=ic L obj:=by
 rw[wy,wy]
 congr 1
 exact List.map_congr_left fun y hy=>KZ h hy
theorem BZ{L:List Name}{φ:Name->Loc}{obj:Name->Option O}{nm:Name}{x:Option O}(h:nm∉L):ml L φ (upd obj nm x)=ml L φ obj:=by
 funext b
 refine propext ⟨fun ⟨y,h1,⟨o,h2,h3⟩,h4⟩=>?_,fun ⟨y,h1,⟨o,h2,h3⟩,h4⟩=>?_⟩
 ·rw[aL _ _ _ (by rintro rfl;exact h h1)]at h2
  exact⟨y,h1,⟨o,h2,h3⟩,h4⟩
 ·exact⟨y,h1,⟨o,by rw[aL _ _ _ (by rintro rfl;exact h h1)];exact h2,h3⟩,h4⟩
theorem Wh{w:World}{m:Mem}{L:List Name}{φ:Name->Loc}{obj:Name->Option O}{nm:Name}{x:Option O}{rd:Option Nat}(h:nm∉L){h1}{h2}{t1}{t2}:qm w m L φ (upd obj nm x) rd h1 t1=qm w m L φ obj rd h2 t2:=by
 unfold qm
 simp only[Q1 h,BZ h]
theorem DZ{P:Program}{y:YSpec}(h:∀ env ps asg body os ds,y.pre env ps asg body os ds->ds.length=ps.length->
 CW P asg ⟨env.length,setP (qt env) ps ds,be os,[0],0⟩ (FO fun σ1=>CW P body σ1 (Qk os (y.out env ps asg body os ds)))):ak P yid y.toSpec:=by
 refine⟨y.near,fun e=>(e rfl).elim,fun e=>(e rfl).elim,fun _ G φ m σ a w hC t nm ds us _ hl hr _ aa o Vd=>?_⟩
 simp only[YSpec.toSpec]at aa |-
 split at aa
 case h_2=>exact aa.elim
 rename_i env ps asg body al
 try simp only[al]
 obtain⟨aa,cr⟩:=aa
 simp only[Bool.and_eq_true,Bool.not_eq_true',decide_eq_true_eq]at aa
 obtain⟨⟨⟨⟨⟨fb,bI⟩,cl⟩,IQ⟩,hlen⟩,eu⟩:=aa
 have eK:nm∉reach σ.obj (roots env ds):=fun h=>by rw[gS.2 h]at IQ;cases IQ
 have pX:(reach σ.obj (roots env ds)).Nodup:=vY _ _ _ (by simp)
 obtain⟨_,cL,r,bS,dt,hr3,Bi,Iy,Ix,Iw,Iv⟩:=hC.objs nm _ al
 have ae:(φ nm).blk<w.heap.size:=(Array.getElem?_eq_some_iff.1 bS).1
 have p8:¬ ml (reach σ.obj (roots env ds)) φ σ.obj (φ nm).blk:=fun ⟨x,k1,k2,k3⟩=>eK (hC.inj _ _ k2 ⟨_,al,rfl,cL⟩ k3▸k1)
 have bF:r.params.size=ps.length:=by rw[<-Bi];simp
 intro next Q pW
 rw[Vd,run_yield bS (by omega),Oper.uponIn_round]
 refine⟨fun h=>(by simp[eo,Fence.wide]at h),?_⟩
 rw[Iy,Ix]
 refine roundIn_of_wpIn trivial ?_
 have adN:=bI
 have Vn:∀ i (h:i<env.length),D.clos (bY (reach σ.obj (roots env ds))) env[i].d=true:=fun i hi=>by
  have :=gw (l:=roots env ds) (i:=i) (by simp[roots];omega) bI
  simp only[roots]at this |-
  rw[List.getElem_append_left (by simpa using hi)]at this
  simpa using this
 have B1:∀ i (h:i<ds.length),D.clos (bY (reach σ.obj (roots env ds))) ds[i]=true:=fun i hi=>by
  have :=gw (l:=roots env ds) (i:=env.length+i) (by simp[roots];omega) bI
  simp only[roots]at this |-
  rw[List.getElem_append_right (by simp)]at this
  simpa using this
 obtain⟨q1,q2⟩:=EM (φ:=kF (reach σ.obj (roots env ds)) φ) (obj:=ic (reach σ.obj (roots env ds)) σ.obj) (m:=m) (n:=env.length) ps (g' σ.obj env ds) us.toList (qt (gy σ.obj env ds)) r.tmps Iw
  (by simp[g',gl];omega) (by simp[g',gl];omega) (fun p hp=>by have:=List.all_eq_true.1 eu p hp;simpa using this)
  (fun t=>by
    unfold qt
    by_cases ht:t<env.length
    ·have:=(Iv t ht).renx (Mem.le_refl m) vX (Vn t ht)
     have e:(gy σ.obj env ds).getD t eAny=E.ren (cin (reach σ.obj (roots env ds))) env[t]:=by
      rw[List.getD_eq_getElem?_getD,List.getElem?_eq_getElem (by simpa[gy]using ht)];simp[gy]
     rw[e];exact this
    ·have e:(gy σ.obj env ds).getD t eAny=eAny:=by
       rw[List.getD_eq_getElem?_getD,List.getElem?_eq_none (by simp[gy];omega)];rfl
     rw[e];unfold bJ eAny;simp;exact .any _)
  (fun i a b=>by
    simp only[g',gl,List.length_map]at a
    have :=(hr i a (by simpa using b)).renx (Mem.le_refl m) vX (B1 i a)
    simpa[g',gl]using this)
 have fY:=JE hC (L:=reach σ.obj (roots env ds)) pX fb (rd:=some (φ nm).blk) (fun l e=>by cases e;exact⟨p8,r,bS⟩) (b0:=0) (nt:=env.length) q2 q1
 have kX:=h _ _ _ _ _ _ cr (by simp[g',gl];omega)
 have U9:(r.params.zip us).foldl (fun tmps (p:Nat×Value)=>tmps.setIfInBounds p.1 p.2) r.tmps=(ps.zip us.toList).foldl (fun tmps (p:Nat×Value)=>tmps.setIfInBounds p.1 p.2) r.tmps:=by
  rw[<-Bi,<-Array.toList_zip,Array.foldl_toList]
 have b8:(gy σ.obj env ds).length=env.length:=by simp[gy]
 rw[b8]at kX
 rw[wy]at fY
 have U8:(r.params.zip us).foldl (fun tmps (x:Tmp×Value)=>match x with | (t,a)=>tmps.setIfInBounds t a) r.tmps=(ps.zip us.toList).foldl (fun tmps (p:Nat×Value)=>tmps.setIfInBounds p.1 p.2) r.tmps:=U9
 rw[U8]
 refine wpIn_mono (kX _ _ m _ w fY) ?_
 rintro e a1 w1 ⟨φ1,m1,σ1,fh,hK⟩
 cases e with
 |normal=>
  have Iz:w1.heap[(φ nm).blk]?=some (.loop r):=(fh.fr.block _ ae p8).trans bS
  have a8:=(Array.getElem?_eq_some_iff.1 Iz).1
  refine⟨_,run_beginRound Iz dt,?_⟩
  have du:w1.os=w.os/\w1.tape=w.tape/\w1.output=w.output:=⟨fh.fr.os,fh.fr.tape,fh.fr.output⟩
  have eM:=KI (wb:=w.putObj (φ nm).blk (.loop { r with state:=.busy })) (w2:=w1.putObj (φ nm).blk (.loop { r with state:=.busy }))
   (h':=fun l e=>by cases e;exact⟨p8,_,World.putObj_heap_same ae⟩) (ht':=y7 (vH hC _) ⟨r,bS⟩ fun b hb=>World.putObj_heap_other hb) fh ⟨by simp,by simp⟩ ⟨du.1.symm,du.2.1.symm,du.2.2.symm⟩
   (fun b hb=>World.putObj_heap_other hb) (fun b hb=>World.putObj_heap_other hb) (by rw[World.putObj_heap_same ae,World.putObj_heap_same a8])
  refine wpIn_mono (hK _ _ m1 _ _ eM) ?_
  rintro e a3 w3 ⟨φ3,m3,σ3,qk,ni⟩
  have Bj:w3.heap[(φ nm).blk]?=some (.loop { r with state:=.busy }):=(qk.fr.block _ (by show _<(w.putObj _ _).heap.size;simpa using ae) p8).trans (World.putObj_heap_same ae)
  have UT:=(Array.getElem?_eq_some_iff.1 Bj).1
  have fin:∀ bf:Option Code,(y.o σ.obj env ps asg body ds).2=bf->fL (bZ σ.obj (roots env ds)) (y.o σ.obj env ps asg body ds).1 σ3->
      ∃ v w',(Instr.endRound (φ nm).blk bf).run P w3=.ok v w'/\next (a.put o.dst v) w':=by
   intro bf he hE
   refine⟨_,_,run_endRound bf Bj,?_⟩
   generalize UB:({ r with state:=.busy }:Loop)=rb at Bj |-
   let rf:Loop:={ r with state:=if bf.isNone then .ready else .done,pending:=bf }
   have UA:({ rb with state:=if bf.isNone then .ready else .done,pending:=bf }:Loop)=rf:=by rw[<-UB]
   rw[UA]
   have Ju:=KI (wb:=w.putObj (φ nm).blk (.loop rf)) (w2:=w3.putObj (φ nm).blk (.loop rf))
    (h':=fun l e=>by cases e;exact⟨p8,_,World.putObj_heap_same ae⟩) (ht':=y7 (vH hC _) ⟨r,bS⟩ fun b hb=>World.putObj_heap_other hb) qk ⟨by simp,by simp⟩
    ⟨(show (w.putObj (φ nm).blk (.loop rf)).os=(w3.putObj (φ nm).blk (.loop rf)).os from qk.fr.os.symm),(show (w.putObj (φ nm).blk (.loop rf)).tape=(w3.putObj (φ nm).blk (.loop rf)).tape from qk.fr.tape.symm),(show (w.putObj (φ nm).blk (.loop rf)).output=(w3.putObj (φ nm).blk (.loop rf)).output from qk.fr.output.symm)⟩
    (fun b hb=>by rw[World.putObj_heap_other hb,World.putObj_heap_other hb]) (fun b hb=>World.putObj_heap_other hb) (by rw[World.putObj_heap_same ae,World.putObj_heap_same UT])
   have br:aD G φ m { σ with obj:=upd σ.obj nm (some (.loop env ps asg body (if bf.isNone then .ready else .done) bf)) } a (w.putObj (φ nm).blk (.loop rf)):=by
    have :=hC.chg (w':=w.putObj (φ nm).blk (.loop rf)) nm (.loop env ps asg body (if bf.isNone then .ready else .done) bf) (φ nm) (Ext.same al rfl rfl) ⟨rfl,rfl,rfl,by simp⟩
     (fun b _ hb=>World.putObj_heap_other (by rcases hb with h | h; · rw[cL]at h;cases h
                                              ·exact h))
     (fun _=>.inr ⟨⟨_,al,rfl,cL⟩,rfl⟩) (by
       rw[dY]
       refine⟨by assumption,cL,rf,World.putObj_heap_same ae,rfl,rfl,Bi,Iy,Ix,Iw,fun i hi=>(Iv i hi).ext (Mem.le_refl m) ?_⟩
       have :=Ext.same (φ:=φ) (o':=.loop env ps asg body (if bf.isNone then .ready else .done) bf) al rfl rfl
       rwa [dY]at this)
    rwa [dY]at this
   have VS:shut (upd σ.obj nm (some (.loop env ps asg body (if bf.isNone then .ready else .done) bf))) (reach σ.obj (roots env ds))=true:=by
    rw[zm (obj:=σ.obj) fun x hx=>aL _ _ _ (by rintro rfl;exact eK hx)];exact fb
   have xJ:(reach σ.obj (roots env ds)).map (bV (reach σ.obj (roots env ds)) (upd σ.obj nm (some (.loop env ps asg body (if bf.isNone then .ready else .done) bf))))=bZ σ.obj (roots env ds):=
    List.map_congr_left fun x hx=>KZ eK hx
   have Ci:=J7 hE
   rw[<-xJ]at Ci
   have ub:∀ x∈(y.o σ.obj env ps asg body ds).1.new,nm≠x.1++t:=fun x hx e=>by
    have :=List.all_eq_true.1 cl x hx
    rw[<-e,al]at this;cases this
   have U7:fresh (upd σ.obj nm (some (.loop env ps asg body (if bf.isNone then .ready else .done) bf))) t (y.o σ.obj env ps asg body ds).1.new=true:=by
    rw[xR (obj:=σ.obj) fun x hx=>by
     obtain⟨z,hz,rfl⟩:=List.mem_map.1 hx
     exact aL _ _ _ (ub z hz).symm]
    exact cl
   rw[<-Wh (x:=some (.loop env ps asg body (if bf.isNone then .ready else .done) bf)) eK (h1:=fun l e=>by
    cases e;rw[BZ eK];exact⟨p8,_,World.putObj_heap_same ae⟩) (t1:=by unfold sH;rw[BZ eK];exact y7 (vH hC _) ⟨r,bS⟩ fun b hb=>World.putObj_heap_other hb)]at Ju
   obtain⟨φ',m',k1,k2,k3,k4⟩:=JD br pX VS Ju Ci U7
   refine pW _ φ' m' _ ?_ (.v _ _ ?_)
   ·have:(cV (reach σ.obj (roots env ds)) t (y.o σ.obj env ps asg body ds).1.new (bX (reach σ.obj (roots env ds)) t (y.o σ.obj env ps asg body ds).1.upd (upd σ.obj nm (some (.loop env ps asg body (if bf.isNone then .ready else .done) bf)))))=
      upd (cV (reach σ.obj (roots env ds)) t (y.o σ.obj env ps asg body ds).1.new (bX (reach σ.obj (roots env ds)) t (y.o σ.obj env ps asg body ds).1.upd σ.obj)) nm (some (.loop env ps asg body (if bf.isNone then .ready else .done) bf)):=by
      funext x
      have hu:((y.o σ.obj env ps asg body ds).1.upd.all fun x=>decide (x.1<(reach σ.obj (roots env ds)).length))=true:=List.all_eq_true.2 fun z hz=>by
       have :=List.all_eq_true.1 Ci.cu z hz
       simp only[Bool.and_eq_true,List.length_map]at this;exact this.2
      by_cases e:x=nm
      ·subst e
       rw[aE,s7 _ _ ub,zM _ _ hu eK,aE]
      ·rw[aL _ _ _ e]
       rw[pn (y.o σ.obj env ps asg body ds).1.new σ.obj (bX _ _ _ (upd _ _ _)) x,pn (y.o σ.obj env ps asg body ds).1.new σ.obj (bX _ _ _ σ.obj) x]
       by_cases h1:x∈(y.o σ.obj env ps asg body ds).1.new.map (fun x=>x.1++t)
       ·rw[if_pos h1,if_pos h1]
       ·rw[if_neg h1,if_neg h1]
        rw[rr (y.o σ.obj env ps asg body ds).1.upd σ.obj (upd _ _ _) x,rr (y.o σ.obj env ps asg body ds).1.upd σ.obj σ.obj x]
        by_cases h2:x∈(y.o σ.obj env ps asg body ds).1.upd.map (fun x=>(reach σ.obj (roots env ds)).getD x.1 [])
        ·rw[if_pos h2,if_pos h2]
        ·rw[if_neg h2,if_neg h2];exact aL _ _ _ e
    rw[this]at k2
    rw[he]
    exact k2
   ·rw[he];exact .bool _
  cases e with
  |normal=>exact fin none ni.1 ni.2
  |ret=>exact fin (some .ret) ni.1 ni.2
  |exit id=>exact fin (some (.exit id)) ni.1 ni.2
  |goto l=>exact ni.elim
  |panic ch=>exact ni.elim
  |outgrown=>exact ni.elim
 |ret=>exact hK.elim
 |exit id=>exact hK.elim
 |goto l=>exact hK.elim
 |panic ch=>exact hK.elim
 |outgrown=>exact hK.elim
theorem Xi{G:Ghost}{φ:Name->Loc}{m:Mem}{σ:S}{a:Act}{w:World}(hC:aD G φ m σ a w):
 aD G φ m σ { a with defers:=[{ target:=.collected w.heap.size,args:= #[] }]++a.defers } (w.alloc (.deferred (some []))):=by
 have hb:∀ b,b<w.heap.size->(w.alloc (.deferred (some []))).heap[b]?=w.heap[b]?:=fun b h=>RowKit.Below.heap_alloc w _ b h
 have h:=hC.imm (w':=w.alloc (.deferred (some []))) (Mem.le_refl m) ⟨rfl,rfl,rfl,by simp⟩ hb (fun _ _ _ h=>.inl h)
 refine⟨h.tmps,h.size,?_,h.objs,h.mem,h.apart,h.inj,h.own,h.fr,h.fresh,h.kept⟩
 obtain⟨ds,h1,h2,h3⟩:=h.defers
 have ae:∀ D∈ds,D<w.heap.size:=fun D hD=>by
  obtain⟨lf,k1,k2,k3⟩:=hC.defers
  have e:lf=ds:=by
   have :=k1.symm.trans h1
   have hi:Function.Injective (fun D:Nat=>({ target:=.collected D,args:= #[] }:Deferred)):=fun x y h=>by simpa using h
   exact(List.map_inj_right hi).1 this
  exact(Array.getElem?_eq_some_iff.1 (k3 D (e▸hD)).2).1
 refine⟨w.heap.size::ds,by rw[h1];rfl,List.nodup_cons.2 ⟨fun hm=>Nat.lt_irrefl _ (ae _ hm),h2⟩,fun D hD=>?_⟩
 rcases List.mem_cons.1 hD with rfl | hD
 ·exact⟨hC.fr.size,World.alloc_heap_new w _⟩
 ·exact h3 D hD
def hU(obj:Name->Option O)(nm:Name):Name->Option O:=upd obj nm (match obj nm with
 |some (.loop env ps asg body _ bf)=>some (.loop env ps asg body .exhausted bf)
 |o=>o)
def lP(K:Exit->S->Prop)(obj:Name->Option O)(nm:Name)(σ:S):Prop:=match obj nm with
 |some (.loop _ _ _ _ .busy _)=>False
 |some (.loop _ _ _ _ _ none)=>K .normal σ
 |some (.loop _ _ _ _ _ (some .ret))=>K .ret σ
 |some (.loop _ _ _ _ _ (some (.exit id)))=>K (.exit id) σ
 |_=>False
theorem Kv{P:Program}{Γ:FuncId->Option Spec}(hΓ:∀ f s,Γ f=some s->ak P f s){g:Operand}{ps:Array Tmp}{asg body:Code}{σ:S}{K:Exit->S->Prop}(k k':Nat){f:FuncId}{s:Spec}
 (hc:cg σ g=true) (cS:eR (aj σ g)=some f) (an:f≠yid) (hs:Γ f=some s) (kR:σ.obj (k::σ.pre)=none)
 (aa:(s.app (upd σ.obj (k::σ.pre) (some (.loop ((List.range σ.nt).map σ.env) ps.toList asg body .ready none))) (k'::σ.pre) (dM (aj σ g) [.yld (k::σ.pre)])).ok)
 (hK:lP K (s.app (upd σ.obj (k::σ.pre) (some (.loop ((List.range σ.nt).map σ.env) ps.toList asg body .ready none))) (k'::σ.pre) (dM (aj σ g) [.yld (k::σ.pre)])).obj (k::σ.pre)
   { σ with obj:=hU (s.app (upd σ.obj (k::σ.pre) (some (.loop ((List.range σ.nt).map σ.env) ps.toList asg body .ready none))) (k'::σ.pre) (dM (aj σ g) [.yld (k::σ.pre)])).obj (k::σ.pre) }):
 CW P (.rangeFunc g ps asg body) σ K:=by
 intro G φ m a w hC
 generalize al:k::σ.pre=nm at *
 generalize Bt:upd σ.obj nm (some (.loop ((List.range σ.nt).map σ.env) ps.toList asg body .ready none))=nU at *
 generalize hR:s.app nU (k'::σ.pre) (dM (aj σ g) [.yld nm])=R at *
 have xA:=bM hC hc
 obtain⟨us,vs,fs,cs,hu,ji,e1,e2,bS,dt⟩:∃ (us vs:Array Value) (fs cs:List D),a.eval g=.func (.func f) us vs/\(∀ args,dM (aj σ g) args=fs++args++cs)/\fs.length=us.size/\cs.length=vs.size/\
  (∀ i (h:i<fs.length) (h':i<us.size),au φ σ.obj m fs[i] us[i])/\(∀ i (h:i<cs.length) (h':i<vs.size),au φ σ.obj m cs[i] vs[i]):=by
  generalize a.eval g=u at *
  generalize aj σ g=d at *
  unfold eR at cS
  split at cS
  ·rename_i f' fs cs
   split at cS
   ·cases cS
   cases cS
   cases xA with
   |v _ _ xA=>
   cases xA with
   |clo _ _ _ us vs e1 e2 h1 h2=>
   exact⟨us,vs,fs.map .v,cs.map .v,rfl,fun _=>rfl,by simpa using e1,by simpa using e2,fun i a b=>by simpa using .v _ _ (h1 i (by simpa using a) b),fun i a b=>by simpa using .v _ _ (h2 i (by simpa using a) b)⟩
  ·rename_i f' fs cs
   split at cS
   ·cases cS
   cases cS
   cases xA with
   |clo _ _ _ us vs e1 e2 h1 h2=>exact⟨us,vs,fs,cs,rfl,fun _=>rfl,e1,e2,h1,h2⟩
  ·cases cS;exact(an rfl).elim
  ·cases cS
 refine wpIn_rangeFunc fun fn _=>?_
 have main:∀ (W:World) (a':Act) (D:Nat),aD G φ m σ a' W->a'.tmps=a.tmps->
     ∃ (d:Deferred) (qM:World) (f':FuncId) (args:Array Value) (w₂:World),
     (resolve a.eval (rangeCall g W.heap.size) 0).run P (W.alloc (.loop { state:=.ready,pending:=none,fn,tmps:=a.tmps,params:=ps,assign:=asg,body,defers:=D }))=.ok d qM/\
     (invoke d.target d.args).run P qM=.ok (.enter f' args) w₂/\
     CallsIn (eo G.rd) (0-1) P f' args w₂ (rangePost (eo G.rd) 0 P W.heap.size (fun e a' w'=>∃ φ' m' σ',aD G φ' m' σ' a' w'/\K e σ') a'):=by
  intro W a' D fh iy
  obtain⟨r,n9⟩:∃ r:Loop,r={ state:=.ready,pending:=none,fn,tmps:=a.tmps,params:=ps,assign:=asg,body,defers:=D }:=⟨_,rfl⟩
  rw[<-n9]
  have hx:=Ext.new (φ:=φ) kR ⟨W.heap.size,0,0,false,none⟩ (.loop ((List.range σ.nt).map σ.env) ps.toList asg body .ready none)
  have eM:=fh.chg (w':=W.alloc (.loop r)) nm (.loop ((List.range σ.nt).map σ.env) ps.toList asg body .ready none) ⟨W.heap.size,0,0,false,none⟩ hx ⟨rfl,rfl,rfl,by simp⟩
   (fun b hb _=>RowKit.Below.heap_alloc W _ b hb) (fun _=>.inl (Nat.le_refl _)) ⟨rfl,rfl,r,World.alloc_heap_new W _,by rw[n9],by rw[n9],by rw[n9],by rw[n9],by rw[n9],by
     rw[n9]
     show a.tmps.size=_
     rw[<-iy,fh.size];simp,fun i hi=>by
     simp only[List.getElem_map,List.getElem_range]
     rw[n9]
     show bJ _ _ m _ (a.tmps.getD i undef)
     rw[<-iy]
     exact(fh.tmps i).ext (Mem.le_refl m) hx⟩
  rw[Bt]at eM hx
  refine⟨{ target:=.fn (.func f) vs,args:=us++ #[.func (.yield W.heap.size) #[] #[]] },W.alloc (.loop r),f,us++ #[.func (.yield W.heap.size) #[] #[]]++vs,W.alloc (.loop r),?_,?_,?_⟩
  ·have hy:a.eval (.const (.func (.yield W.heap.size) #[] #[]))=.func (.yield W.heap.size) #[] #[]:=rfl
   simp[resolve,Deferred.ofValue,hu,hy]
  ·simp[invoke,(hΓ f s hs).enter an]
  ·refine JV ?_
   have Vp:=(hΓ f s hs).calls an G (upd φ nm ⟨W.heap.size,0,0,false,none⟩) m { σ with obj:=nU } a' (W.alloc (.loop r)) eM (k'::σ.pre) (dM (aj σ g) [.yld nm]) (us++ #[.func (.yield W.heap.size) #[] #[]]++vs) ⟨k',rfl⟩
   refine(Vp ?_ ?_ ?_).mono ?_
   ·rw[ji];simp only[List.length_append,List.length_singleton,Array.size_append,e1,e2];rfl
   ·intro i h1 h2
    simp only[ji]
    have xf:au (upd φ nm ⟨W.heap.size,0,0,false,none⟩) nU m (.yld nm) (.func (.yield W.heap.size) #[] #[]):=by
     have :=au.yld (φ:=upd φ nm ⟨W.heap.size,0,0,false,none⟩) (obj:=nU) (m:=m) nm ⟨_,by rw[<-Bt,aE],rfl⟩
     rwa [aE]at this
    simp only[ji,List.length_append,List.length_singleton]at h1
    by_cases k1:i<fs.length
    ·have q1:i<us.size:=by omega
     simp only[List.append_assoc,Array.append_assoc]
     rw[List.getElem_append_left k1,Array.getElem_append_left q1]
     exact(bS i k1 q1).ext (Mem.le_refl m) hx
    ·by_cases k2:i=fs.length
     ·subst k2
      simp only[List.append_assoc,Array.append_assoc]
      rw[List.getElem_append_right (by omega),Array.getElem_append_right (by omega)]
      simp only[Nat.sub_self,e1,List.cons_append,List.getElem_cons_zero]
      rw[Array.getElem_append_left (by simp)]
      simpa using xf
     ·rw[List.getElem_append_right (by simp;omega),Array.getElem_append_right (by simp;omega)]
      have :=(dt (i-(fs.length+1)) (by omega) (by omega)).ext (Mem.le_refl m) hx
      simp only[List.length_append,List.length_singleton,Array.size_append,<-e1]
      exact this
   ·show (s.app nU _ _).ok
    rw[hR];exact aa
   ·rintro e w3 ⟨v,φ',m',rfl,qk,_,Un⟩
    have h9:s.app nU (k'::σ.pre) (dM (aj σ g) [.yld nm])=R:=hR
    have Jv:aD G φ' m' { σ with obj:=R.obj } a' w3:=by rw[<-h9];exact qk
    have Um:Ext (upd φ nm ⟨W.heap.size,0,0,false,none⟩) φ' nU R.obj:=by rw[<-h9];exact Un
    have UM:nU nm=some (.loop ((List.range σ.nt).map σ.env) ps.toList asg body .ready none):=by rw[<-Bt,aE]
    have BF:φ' nm=⟨W.heap.size,0,0,false,none⟩:=by
     obtain⟨o',k1,k2⟩:=Um nm _ UM
     rcases k2 with⟨_,k2,_⟩ | ⟨n,n',k2,_⟩
     ·rw[k2,aE]
     ·cases k2
    unfold lP at hK
    have step:∀ {e8:List E} {eT:List Nat} {a1 b1:Code} {st:LoopState} {bf:Option Code},R.obj nm=some (.loop e8 eT a1 b1 st bf)->st≠ .busy->
        ∃ w4,(Instr.endLoop W.heap.size).run P w3=.ok bf w4/\aD G φ' m' { σ with obj:=hU R.obj nm } a' w4:=by
     intro e8 eT a1 b1 st bf ho cC
     obtain⟨q0,q1,r',q2,q3,q4,q5,q6,q7,q8,q9⟩:=Jv.objs nm _ ho
     rw[BF]at q2
     have Ve:(Instr.endLoop W.heap.size).run P w3=.ok bf (w3.putObj W.heap.size (.loop { r' with state:=.exhausted })):=by
      rw[run_endLoop (P:=P) q2 (by rw[q3];exact cC),q4]
     refine⟨_,Ve,?_⟩
     have ae:=(Array.getElem?_eq_some_iff.1 q2).1
     have jG:hU R.obj nm=upd R.obj nm (some (.loop e8 eT a1 b1 .exhausted bf)):=by unfold hU;rw[ho]
     rw[jG]
     have :=Jv.chg (w':=w3.putObj W.heap.size (.loop { r' with state:=.exhausted })) nm (.loop e8 eT a1 b1 .exhausted bf) (φ' nm) (Ext.same ho rfl rfl) ⟨rfl,rfl,rfl,by simp⟩
      (fun b _ hb=>World.putObj_heap_other (by
        rcases hb with h | h
        ·rw[q1]at h;cases h
        ·rw[BF]at h;exact h))
      (fun _=>.inr ⟨⟨_,ho,rfl,q1⟩,rfl⟩) (by
        rw[dY]
        refine⟨q0,q1,{ r' with state:=.exhausted },by rw[BF];exact World.putObj_heap_same ae,rfl,q4,q5,q6,q7,q8,fun i hi=>(q9 i hi).ext (Mem.le_refl _) ?_⟩
        have :=Ext.same (φ:=φ') (o':=.loop e8 eT a1 b1 .exhausted bf) ho rfl rfl
        rwa [dY]at this)
     rw[dY]at this
     exact this
    rcases ho:R.obj nm with _ | o
    ·rw[ho]at hK;exact hK.elim
    rw[ho]at hK
    cases o with
    |loop e8 eT a1 b1 st bf=>
     have cC:st≠ .busy:=by rintro rfl;exact hK.elim
     obtain⟨w4,h1,h2⟩:=step ho cC
     refine⟨bf,w4,h1,?_⟩
     cases bf with
     |none=>
      refine⟨φ',m',_,h2,?_⟩
      cases st<;>first | exact hK | exact(cC rfl).elim
     |some c=>
      cases c with
      |ret=>exact wpIn_ret ⟨φ',m',_,h2,by cases st<;>first | exact hK | exact(cC rfl).elim⟩
      |exit id=>exact wpIn_exit ⟨φ',m',_,h2,by cases st<;>first | exact hK | exact(cC rfl).elim⟩
      |_=>exfalso;cases st<;>first | exact hK | exact(cC rfl).elim
    |_=>exact hK.elim
 cases mT:G.rd with
 |none=>
  obtain⟨d,qM,f',args,w₂,h1,h2,h3⟩:=main (w.alloc (.deferred (some []))) _ w.heap.size (Xi hC) rfl
  rw[mT]at h3
  have bj:(w.alloc (.deferred (some []))).heap.size=w.heap.size+1:=by simp
  rw[bj]at h1 h3
  exact⟨w.heap.size+1,[{ target:=.collected w.heap.size,args:= #[] }],_,d,qM,f',args,w₂,run_enterLoop_outer _ _ _ _ _,h1,fun _ _=>trivial,h2,fun h=>(by simp[eo,Fence.wide]at h),h3⟩
 |some l=>
  obtain⟨fc,r0,IA⟩:=G.rdok l mT
  have UD:w.heap[l]?=some (.loop r0):=(hC.fr.block l (Array.getElem?_eq_some_iff.1 IA).1 fc).trans IA
  obtain⟨d,qM,f',args,w₂,h1,h2,h3⟩:=main w a r0.defers hC rfl
  rw[mT]at h3
  exact⟨w.heap.size,[],_,d,qM,f',args,w₂,run_enterLoop_inner UD _ _ _ _ _,h1,fun _ _=>trivial,h2,fun h=>(by simp[eo,Fence.wide]at h),h3⟩
theorem Dj{P:Program}{Γ:FuncId->Option Spec}(hΓ:∀ f s,Γ f=some s->ak P f s){g:Operand}{ps:Array Tmp}{asg body:Code}{σ:S}{r:List Code}{K:Exit->S->Prop}(k k':Nat){f:FuncId}{s:Spec}
 (hc:cg σ g=true) (cS:eR (aj σ g)=some f) (an:f≠yid) (hs:Γ f=some s) (kR:σ.obj (k::σ.pre)=none)
 (aa:(s.app (upd σ.obj (k::σ.pre) (some (.loop ((List.range σ.nt).map σ.env) ps.toList asg body .ready none))) (k'::σ.pre) (dM (aj σ g) [.yld (k::σ.pre)])).ok)
 (hK:lP (fQ (fun σ'=>CL P r σ' K) K) (s.app (upd σ.obj (k::σ.pre) (some (.loop ((List.range σ.nt).map σ.env) ps.toList asg body .ready none))) (k'::σ.pre) (dM (aj σ g) [.yld (k::σ.pre)])).obj (k::σ.pre)
   { σ with obj:=hU (s.app (upd σ.obj (k::σ.pre) (some (.loop ((List.range σ.nt).map σ.env) ps.toList asg body .ready none))) (k'::σ.pre) (dM (aj σ g) [.yld (k::σ.pre)])).obj (k::σ.pre) }):
 CL P (.rangeFunc g ps asg body::r) σ K:=Kv hΓ k k' hc cS an hs kR aa hK
theorem db.refl(σ:S):db σ σ:=fun _ φ _ _ _ hC=>⟨φ,hC⟩
theorem db.trans{a b c:S}(h:db a b)(k:db b c):db a c:=fun G φ m x w hC=>by
 obtain⟨φ',h'⟩:=h G φ m x w hC
 exact k G φ' m x w h'
theorem bd{σ τ:S}(ks:List Nat)(ns:List Name)(h:eQ ks ns σ)(he:eW ks ns σ=τ):db σ τ:=he▸yV ks ns h
def jz(l c:List (Nat×E)):List (Nat×E):=l.map fun q=>(q.1,(c.lookup q.1).getD q.2)
def jy(l c:List (Name×O)):List (Name×O):=l.map fun q=>(q.1,(c.lookup q.1).getD q.2)
theorem mb{P:Program}{c:Code}{r:List Code}{σ:S}{K:Exit->S->Prop}(ks:List Nat)(ns:List Name)(h:eQ ks ns σ)(hc:CL P (c::r) (eW ks ns σ) K):CL P (c::r) σ K:=
 u7 (yV ks ns h) hc
theorem bR{P:Program}{c:Code}{r:List Code}{K:Exit->S->Prop}{nt:Nat}{p:Name}{H:Name->Option O}{l:List (Nat×E)}{h:List (Name×O)}{ι:Type}
 (chg:ι->List (Nat×E)) (iU:ι->List (Name×O)) (R:ι->Prop) (μ:ι->Nat) (i0:ι) (hR:R i0) (he:jz l (chg i0)=l) (ho:jy h (iU i0)=h)
 (round:∀ i,R i->CL P [c] (aS nt p H (jz l (chg i)) (jy h (iU i))) (fQ (fun σ'=>∃ i',R i'/\μ i'<μ i/\db σ' (aS nt p H (jz l (chg i')) (jy h (iU i')))) K)):
 CL P (.loop c::r) (aS nt p H l h) K:=by
 refine KX (fun i=>aS nt p H (jz l (chg i)) (jy h (iU i))) R μ i0 hR ?_ round
 rw[he,ho]
 exact .refl _
theorem Xt{P:Program}{c:Code}{r:List Code}{K:Exit->S->Prop}{nt:Nat}{p:Name}{H:Name->Option O}{l:List (Nat×E)}{h:List (Name×O)}{ι:Type}
 (Hc:ι->Name->Option O) (chg:ι->List (Nat×E)) (iU:ι->List (Name×O)) (R:ι->Prop) (μ:ι->Nat) (i0:ι) (hR:R i0) (hH:aS nt p (Hc i0) l h=aS nt p H l h) (he:jz l (chg i0)=l) (ho:jy h (iU i0)=h)
 (round:∀ i,R i->CL P [c] (aS nt p (Hc i) (jz l (chg i)) (jy h (iU i))) (fQ (fun σ'=>∃ i',R i'/\μ i'<μ i/\db σ' (aS nt p (Hc i') (jz l (chg i')) (jy h (iU i')))) K)):
 CL P (.loop c::r) (aS nt p H l h) K:=by
 refine KX (fun i=>aS nt p (Hc i) (jz l (chg i)) (jy h (iU i))) R μ i0 hR ?_ round
 rw[he,ho,hH]
 exact .refl _
attribute [go_sem] jz jy List.lookup_cons List.lookup_nil List.getElem?_toArray List.getElem?_cons_succ List.getElem?_cons_zero beq_true beq_false ite_self Bool.and_self Bool.or_self imp_self Bool.if_true_right Bool.if_false_right Bool.if_true_left Bool.if_false_left Bool.decide_eq_true
attribute [go_sem] sY fL pz th distinct eh da ct eA be Bool.and_eq_true
def eG(a b:Nat):Bool:=Nat.ble a b
def fG(a b:Nat):Bool:=Nat.ble (a+1) b
def cj(a b:Nat):Bool:=Nat.beq a b
def cB(a b:Int):Bool:=match b-a with
 | .ofNat _=>true
 | .negSucc _=>false
def jb(a b:Int):Bool:=match b-a-1 with
 | .ofNat _=>true
 | .negSucc _=>false
def rH{α:Type}:Option α->Bool
 |none=>true
 |some _=>false
def mF:Option Nat->Nat->Bool
 |some a,b=>Nat.beq a b
 |none,_=>false
def sD(sz:Nat):List V->Bool
 |[]=>true
 |x::r=>Nat.beq x.cells.length sz&&sD sz r
def sE(sz:Nat):List V->Bool
 |[]=>true
 |x::r=>Nat.beq x.cells.length sz&&x.okc&&sE sz r
def tv(a b:IntKind):Bool:=match a,b with
 | .i64,.i64=>true
 | .u8,.u8=>true
 | .u64,.u64=>true
 | .i32,.i32=>true
 | .u32,.u32=>true
 |_,_=>false
def AS(P:Program)(T:TypeId):Bool:=match P.underlying T with
 |some .bool=>true
 |_=>false
def isEq:BinOp->Bool
 | .eql=>true
 | .neq=>true
 |_=>false
def pC:Int->Bool
 | .ofNat 0=>true
 |_=>false
theorem pB{a b:Nat}(h:eG a b=true):a<=b:=Nat.le_of_ble_eq_true h
theorem tk{a b:Nat}(h:fG a b=true):a<b:=Nat.le_of_ble_eq_true h
theorem iV{a b:Nat}(h:cj a b=true):a=b:=Nat.eq_of_beq_eq_true h
theorem eI{a b:Int}(h:cB a b=true):a<=b:=by
 unfold cB at h
 split at h
 ·rename_i n hn
  have :(0:Int)<=b-a:=by rw[hn];exact Int.natCast_nonneg n
  omega
 ·cases h
theorem Ub{a b:Int}(h:jb a b=true):a<b:=by
 unfold jb at h
 split at h
 ·rename_i n hn
  have :(0:Int)<=b-a-1:=by rw[hn];exact Int.natCast_nonneg n
  omega
 ·cases h
theorem wA{α:Type}{o:Option α}(h:rH o=true):o=none:=by cases o<;>simp_all[rH]
theorem nV{o:Option Nat}{b:Nat}(h:mF o b=true):o=some b:=by
 cases o with
 |none=>cases h
 |some a=>rw[Nat.eq_of_beq_eq_true h]
theorem yK{sz:Nat}:∀ {l:List V},sD sz l=true->∀ x∈l,x.cells.length=sz
 |y::r,h,x,hx=>by
  simp only[sD,Bool.and_eq_true]at h
  rcases List.mem_cons.1 hx with rfl | hx
  ·exact Nat.eq_of_beq_eq_true h.1
  ·exact yK h.2 x hx
theorem yL{sz:Nat}:∀ {l:List V},sE sz l=true->∀ x∈l,x.cells.length=sz/\x.okc=true
 |y::r,h,x,hx=>by
  simp only[sE,Bool.and_eq_true]at h
  rcases List.mem_cons.1 hx with rfl | hx
  ·exact⟨Nat.eq_of_beq_eq_true h.1.1,h.1.2⟩
  ·exact yL h.2 x hx
theorem HN{a b:IntKind}(h:tv a b=true):a=b:=by unfold tv at h;split at h<;>first | rfl | cases h
theorem TU{P:Program}{T:TypeId}(h:AS P T=true):P.underlying T=some .bool:=by unfold AS at h;split at h<;>first | assumption | cases h
theorem w5{op:BinOp}(h:isEq op=true):op=.eql\/op=.neq:=by cases op<;>first | exact .inl rfl | exact .inr rfl | cases h
theorem TP{n:Int}(h:pC n=false):n≠0:=by rintro rfl;cases h
section
variable (P:Program) (obj:Name->Option O)
def vj(T:TypeId)(x:D):Bool:=
 match a7 P T with
 |none=>false
 |some (ag,n)=>match x with
  | .v (.ptr cs)=>match ag with
    |true=>eG n cs.length
    |false=>cj n 1&&fG 0 cs.length
  | .ref nm off=>match obj nm with
    |some (.box cs)=>match ag with
     |true=>eG (off+n) cs.length
     |false=>cj n 1&&fG off cs.length
    |some (.fbox cs)=>match ag with
     |true=>eG (off+n) cs.length
     |false=>cj n 1&&fG off cs.length
    |_=>false
  | .aref nm k i off=>match obj nm with
    |some (.arr _ l)=>cj k l.length&&fG i l.length&&(match ag with
     |true=>eG (off+n) (l.getD i default).cells.length
     |false=>cj n 1&&fG off (l.getD i default).cells.length)
    |some (.farr _ l)=>cj k l.length&&fG i l.length&&(match ag with
     |true=>eG (off+n) (l.getD i default).cells.length
     |false=>cj n 1&&fG off (l.getD i default).cells.length)
    |_=>false
  |_=>false
def yC(T:TypeId)(f:Nat)(x:D):Bool:=
 match cN P T f with
 |none=>false
 |some (off,n,_)=>!cj n 0&&match x with
  | .v (.ptr cs)=>eG (off+n) cs.length
  | .ref _ _=>true
  | .aref nm k _ _=>match obj nm with
    |some o=>mF o.len? k
    |none=>false
  |_=>false
def yz(T:TypeId)(x i:D):Bool:=
 match i with
 | .v (.int _ n)=>match x with
   | .v (.sl l)=>match bD P T with
     |some (_,sz,_)=>cB 0 n&&jb n l.length&&cj (l.getD n.toNat default).cells.length sz
     |none=>false
   | .msl nm k=>match bD P T with
     |some (_,sz,_)=>match obj nm with
      |some (.arr s l)=>cB 0 n&&jb n l.length&&cj k l.length&&cj s sz
      |some (.farr s l)=>cB 0 n&&jb n l.length&&cj k l.length&&cj s sz
      |_=>false
     |none=>false
   | .ref _ _=>match fF P T with
     |some (len,_,_)=>cB 0 n&&jb n len
     |none=>false
   | .v (.ptr cs)=>match fF P T with
     |some (len,sz,_)=>cB 0 n&&jb n len&&eG (n.toNat*sz+sz) cs.length
     |none=>false
   |_=>false
 |_=>false
def LA(op:BinOp)(k k':IntKind)(b:Int):Bool:=
 match op with
 | .quo=>tv k k'&&!pC b
 | .rem=>tv k k'&&!pC b
 | .shl=>cB 0 b
 | .shr=>cB 0 b
 |_=>tv k k'
def Lo(op:BinOp)(a b:ByteArray):Bool:=
 match op with
 | .add=>eG (a.size+b.size) maxLen
 | .eql | .neq | .lss | .leq | .gtr | .geq=>true
 |_=>false
def DC(op:BinOp)(T:TypeId)(x y:D):Bool:=
 match x,y with
 | .v (.int k _),.v (.int k' b)=>LA op k k' b
 | .v (.str a),.v (.str b)=>Lo op a b
 | .v (.bool _),.v (.bool _)=>AS P T&&isEq op
 |_,_=>false
def Dy(op:BinOp)(T:TypeId)(x y:V):Bool:=
 match gH P Op.maxDepth T x y with
 |some _=>!(P.eqGuardType P.depth T)&&isEq op
 |none=>false
def Du(op:BinOp)(T:TypeId)(x:D):Bool:=
 match x with
 | .v (.sl (_::_))=>mF (dp P T) 0&&isEq op
 | .msl nm (k+1)=>(match obj nm with | some o=>mF o.len? (k+1) | none=>false)&&mF (dp P T) 0&&isEq op
 |_=>false
def yH(op:BinOp)(T:TypeId)(x y:D)(jE:Bool):Bool:=
 match jE with
 |true=>Du P obj op T x
 |false=>match dG x,dG y with
  |some (.agg a),some (.agg b)=>Dy P op T (.agg a) (.agg b)
  |_,_=>DC P op T x y
def yn(op:UnOp)(x:D):Bool:=
 match op,x with
 | .not,.v (.bool _)=>true
 | .neg,.v (.int _ _)=>true
 |_,_=>false
def yF(src dst:TypeId)(x:D):Bool:=
 match j5 P src dst with
 | 0=>match kI P dst,x with
   |some _,.v (.int _ _)=>(P.underlying src).isSome
   |_,_=>false
 |_=>false
def yE(x:D)(i:Nat):Bool:=
 match x with
 | .tup l=>fG i l.length
 | .v (.tup l)=>fG i l.length
 |_=>false
def yr(x:D):Bool:=
 match x with
 | .ref _ _=>true
 | .v (.ptr _)=>true
 | .aref nm k _ _=>match obj nm with
   |some o=>mF o.len? k
   |none=>false
 |_=>false
def vl(t:Name)(x:D):Bool:=rH (obj (aK t))&&x.boxable
def yI(t:Name)(T:TypeId):Bool:=match ba P T with
 |some z=>vl obj t (gQ z)
 |none=>false
def yG(T:TypeId)(parts:List (Nat×D)):Bool:=
 match gL P T,ba P T with
 |some ps,some z=>match gQ z with
  | .agg cs=>match qo (fun i=>ps[i]?) cs parts with
    |some _=>true
    |none=>false
  |_=>false
 |_,_=>false
def yo(T:TypeId)(x d:D):Bool:=
 match a7 P T with
 |none=>false
 |some (_,n)=>match x with
  | .ref nm off=>match obj nm with
    |some (.box cs)=>d.boxable&&cj d.cells.length n&&eG (off+n) cs.length
    |_=>false
  | .aref nm k i off=>match obj nm with
    |some (.arr sz l)=>match dG d with
     |some y=>cj k l.length&&fG i l.length&&cj y.cells.length n&&y.okc&&eG (off+n) sz&&!cj sz 0
     |none=>false
    |_=>false
  |_=>false
def yv(t:Name)(T:TypeId)(r:Option D):Bool:=
 match kH P T,r with
 |some _,none=>rH (obj (aK t))
 |_,_=>false
def yu(t:Name)(T:TypeId)(l c:D):Bool:=
 match bD P T,l,c with
 |some (e,sz,by_),.v (.int _ n),.v (.int _ n')=>match (ba P e).bind fun z=>dG (gQ z)with
  |some zv=>cB n n'&&cB n' n&&cB 0 n&&cB ((by_:Int)*n) 281474976710656&&cB n 9223372036854775807&&cj zv.cells.length sz&&zv.okc&&!cj sz 0&&rH (obj (aK t))
  |none=>false
 |_,_,_=>false
def yx(T:TypeId)(x:D):Bool:=
 match dp P T,x with
 |some 0,.v (.sl _)=>true
 |some 0,.nilsl=>true
 |some 0,.msl nm k=>match obj nm with
  |some o=>mF o.len? k
  |none=>false
 |some 1,.v (.str _)=>true
 |some 2,.nilmap=>true
 |some 2,.map nm=>match obj nm with
  |some (.map _ _)=>true
  |_=>false
 |_,_=>false
def yp(T:TypeId)(x:D)(lo hi mx:Option D):Bool:=
 match mx with
 |none=>match x with
  | .v (.sl l)=>match bD P T,fH lo,jf l.length hi with
    |some (_,sz,_),some i,some j=>cB 0 i&&cB i j&&cB j l.length&&sD sz l
    |_,_,_=>false
  | .nilsl=>match bD P T,fH lo,jf 0 hi with
    |some (_,_,_),some i,some j=>pC i&&pC j
    |_,_,_=>false
  | .msl nm k=>match obj nm,bD P T,fH lo,jf k hi with
    |some (.arr _ l),some (_,sz,_),some i,some j=>cj k l.length&&cB 0 i&&cB i j&&cB j l.length&&sD sz l
    |some (.farr _ l),some (_,sz,_),some i,some j=>cj k l.length&&cB 0 i&&cB i j&&cB j l.length&&sD sz l
    |_,_,_,_=>false
  | .v (.str s)=>match dp P T,fH lo,jf s.size hi with
    |some 1,some i,some j=>cB 0 i&&cB i j&&cB j s.size
    |_,_,_=>false
  |_=>false
 |some (.v (.int _ 0))=>match bD P T,fH lo,hi with
  |some _,some 0,some (.v (.int _ 0))=>match x with
   | .v (.sl _)=>true
   | .nilsl=>true
   | .msl nm k=>match obj nm with
     |some o=>mF o.len? k
     |none=>false
   |_=>false
  |_,_,_=>false
 |some _=>false
def yD(T:TypeId)(x:D)(f:Nat):Bool:=
 match cN P T f with
 |none=>false
 |some (off,n,ag)=>match x with
  | .agg l=>match ag with
    |true=>eG (off+n) l.length
    |false=>fG off l.length
  | .v (.agg l)=>match ag with
    |true=>eG (off+n) l.length
    |false=>fG off l.length
  |_=>false
def yA(T:TypeId)(x i:D):Bool:=
 match i with
 | .v (.int _ n)=>match x with
   | .v (.str s)=>mF (dp P T) 1&&cB 0 n&&jb n s.size
   | .agg l=>match fF P T with
     |some (len,sz,true)=>cB 0 n&&jb n len&&eG (n.toNat*sz+sz) l.length
     |some (len,sz,false)=>cB 0 n&&jb n len&&fG (n.toNat*sz) l.length
     |none=>false
   | .v (.agg l)=>match fF P T with
     |some (len,sz,true)=>cB 0 n&&jb n len&&eG (n.toNat*sz+sz) l.length
     |some (len,sz,false)=>cB 0 n&&jb n len&&fG (n.toNat*sz) l.length
     |none=>false
   |_=>false
 |_=>false
def yw(T:TypeId)(x k:D):Bool:=
 match kH P T with
 |some (kd,e)=>match (ba P e).bind fun z=>dG (gQ z),dG k with
  |some _,some kv=>match x with
   | .nilmap=>eG kd 2&&dF kd kv
   | .map nm=>match obj nm with
     |some (.map iZ _)=>eG kd 2&&dF kd kv&&cj iZ kd
     |_=>false
   |_=>false
  |_,_=>false
 |none=>false
def vi(T:TypeId)(x k d:D):Bool:=
 match kH P T,x,dG k,dG d with
 |some (kd,_),.map nm,some kv,some _=>match obj nm with
  |some (.map iZ _)=>eG kd 2&&dF kd kv&&cj iZ kd
  |_=>false
 |_,_,_,_=>false
def yq(c:D):Bool:=match c with
 | .v (.bool _)=>true
 |_=>false
def vh(x:D):Bool:=match x with
 | .v (.sl _)=>true
 | .nilsl=>true
 | .msl nm k=>match obj nm with
   |some (.arr _ l)=>cj k l.length
   |some (.farr _ l)=>cj k l.length
   |_=>false
 |_=>false
def qE(t:Name)(T1 T2:TypeId)(s x:D):Bool:=
 match bD P T1,bD P T2 with
 |some (e,sz,by_),some _=>match ba P e with
  |some z=>match s with
   | .nilsl=>vh obj x&&sE sz (aw obj x).2&&cj z.cells.size sz&&eG ((aw obj x).2.length*by_) 140737488355328&&eG (aw obj x).2.length maxLen&&rH (obj (aK t))
   | .msl nm k=>match obj nm with
     |some (.arr s' l)=>vh obj x&&sE sz (aw obj x).2&&cj z.cells.size sz&&eG ((l.length+(aw obj x).2.length)*by_) 140737488355328&&
        eG (l.length+(aw obj x).2.length) maxLen&&cj k l.length&&cj s' sz
     |_=>false
   |_=>false
  |none=>false
 |_,_=>false
variable {P obj}
theorem nX{a b:Nat}:eG a b=true↔a<=b:=⟨pB,Nat.ble_eq_true_of_le⟩
theorem tl{a b:Nat}:fG a b=true↔a<b:=⟨tk,Nat.ble_eq_true_of_le⟩
theorem nY{a b:Nat}:cj a b=true↔a=b:=⟨iV,fun h=>by subst h;simp[cj]⟩
theorem wG{a b:Nat}:cj a b=false↔a≠b:=by
 rw[<-Bool.not_eq_true,nY]
theorem Im{a b:Int}:cB a b=true↔a<=b:=⟨eI,fun h=>by
 unfold cB
 split
 ·rfl
 ·rename_i n hn;have:=Int.negSucc_lt_zero n;omega⟩
theorem Il{a b:Int}:jb a b=true↔a<b:=⟨Ub,fun h=>by
 unfold jb
 split
 ·rfl
 ·rename_i n hn;have:=Int.negSucc_lt_zero n;omega⟩
theorem Ib{n:Int}:pC n=true↔n=0:=⟨fun h=>(by unfold pC at h;split at h<;>first | rfl | cases h),fun h=>(by subst h;rfl)⟩
theorem Dw{T:TypeId}{x:D}(h:vj P obj T x=true):(gZ P obj T x).ok:=by
 unfold vj at h
 unfold gZ
 (repeat' split at h)<;>simp_all[nX,tl,nY,-List.getD_eq_getElem?_getD]
theorem LF{T:TypeId}{f:Nat}{x:D}(h:yC P obj T f x=true):(jV P obj T f x).ok:=by
 unfold yC at h
 unfold jV
 split at h
 ·cases h
 ·simp only[Bool.and_eq_true,Bool.not_eq_true',wG]at h
  obtain⟨h1,h⟩:=h
  (repeat' split at h)<;>simp_all[nX]
  exact nV h
theorem LC{T:TypeId}{x i:D}(h:yz P obj T x i=true):(jU P obj T x i).ok:=by
 unfold yz at h
 unfold jU
 (repeat' split at h)<;>simp_all[nX,nY,Im,Il,-List.getD_eq_getElem?_getD]
theorem X6{op:BinOp}{T:TypeId}{x y:D}(h:DC P op T x y=true):(lz P obj op T x y).ok:=by
 unfold DC at h
 unfold lz
 split at h
 ·simp only
  unfold LA at h
  unfold yy
  cases op<;>simp only[Bool.and_eq_true,Bool.not_eq_true']at h |- <;>first
   |exact⟨HN h.1,TP h.2⟩
   |exact HN h
   |exact eI h
 ·simp only
  unfold Lo at h
  unfold vg
  cases op<;>simp only at h |- <;>first | exact pB h | trivial | (cases h;done)
 ·simp only[Bool.and_eq_true]at h
  exact⟨TU h.1,w5 h.2⟩
 ·cases h
theorem X2{op:BinOp}{T:TypeId}{x y:V}(h:Dy P op T x y=true):(js P obj op T x y).ok:=by
 unfold Dy at h
 unfold js
 split at h
 ·rename_i b hb
  simp only[Bool.and_eq_true,Bool.not_eq_true']at h
  rw[hb]
  exact⟨h.1,w5 h.2⟩
 ·cases h
theorem XZ{op:BinOp}{T:TypeId}{x:D}(h:Du P obj op T x=true):(nC P obj op T x).ok:=by
 unfold Du at h
 unfold nC
 split at h
 ·simp only[Bool.and_eq_true]at h
  exact⟨nV h.1,w5 h.2⟩
 ·rename_i nm k
  simp only[Bool.and_eq_true]at h
  refine⟨?_,nV h.1.2,w5 h.2⟩
  have h1:=h.1.1
  split at h1
  ·rename_i o ho;rw[ho];exact nV h1
  ·cases h1
 ·cases h
theorem LL{op:BinOp}{T:TypeId}{x y:D}{n:Bool}(h:yH P obj op T x y n=true):(kz P obj op T x y n).ok:=by
 unfold yH at h
 unfold kz
 cases n with
 |true=>exact XZ h
 |false=>
  simp only at h |-
  split at h
  ·rename_i h1 h2
   simp only[h1,h2]
   exact X2 h
  ·rename_i an
   split
   ·rename_i h1 h2;exact(an _ _ h1 h2).elim
   ·exact X6 h
theorem Ln{op:UnOp}{x:D}(h:yn op x=true):(km obj op x).ok:=by
 unfold yn at h
 unfold km
 split at h<;>first | trivial | cases h
theorem LJ{s d:TypeId}{x:D}(h:yF P s d x=true):(ly P obj s d x).ok:=by
 unfold yF at h
 unfold ly
 split at h
 ·rename_i h0
  rw[h0]
  show (nD P obj s d x).ok
  unfold nD
  (repeat' split at h)<;>simp_all
 ·cases h
theorem LG{x:D}{i:Nat}(h:yE x i=true):(kr obj x i).ok:=by
 unfold yE at h
 unfold kr
 split at h<;>simp_all[tl]
theorem Lu{x:D}(h:yr obj x=true):(jq obj x).ok:=by
 unfold yr at h
 unfold jq
 (repeat' split at h)<;>simp_all
 exact nV h
theorem DB{t:Name}{x:D}(h:vl obj t x=true):(ky obj t x).ok:=by
 simp only[vl,Bool.and_eq_true]at h
 exact⟨wA h.1,h.2⟩
theorem LM{t:Name}{T:TypeId}(h:yI P obj t T=true):(lA P obj t T).ok:=by
 unfold yI at h
 unfold lA
 split at h
 ·rename_i z hz;rw[hz];exact DB h
 ·cases h
theorem LK{T:TypeId}{ps:List (Nat×D)}(h:yG P T ps=true):(kx P obj T ps).ok:=by
 unfold yG at h
 unfold kx
 (repeat' split at h)<;>simp_all
theorem Lq{T:TypeId}{x d:D}(h:yo P obj T x d=true):(jo P obj T x d).ok:=by
 unfold yo at h
 unfold jo
 (repeat' split at h)<;>simp_all[nX,tl,nY,wG]
theorem Lw{t:Name}{T:TypeId}{r:Option D}(h:yv P obj t T r=true):(lx P obj t T r).ok:=by
 unfold yv at h
 unfold lx
 (repeat' split at h)<;>simp_all
 exact wA h
theorem Lv{t:Name}{T:TypeId}{l c:D}(h:yu P obj t T l c=true):(lv P obj t T l c).ok:=by
 unfold yu at h
 unfold lv
 split at h
 ·rename_i e sz by_ k n k' n' hT
  rw[hT]
  simp only
  split at h
  ·rename_i zv hz
   simp only[Bool.and_eq_true,Bool.not_eq_true',wG]at h
   obtain⟨⟨⟨⟨⟨⟨⟨⟨h1,h2⟩,h3⟩,h4⟩,h5⟩,h6⟩,h7⟩,h8⟩,h9⟩:=h
   rw[hz]
   exact⟨Int.le_antisymm (eI h2) (eI h1),eI h3,eI h4,eI h5,iV h6,h7,h8,wA h9⟩
  ·cases h
 ·cases h
theorem Ly{T:TypeId}{x:D}(h:yx P obj T x=true):(jr P obj T x).ok:=by
 unfold yx at h
 unfold jr
 (repeat' split at h)<;>simp_all
 exact nV h
theorem Lr{T:TypeId}{x:D}{lo hi mx:Option D}(h:yp P obj T x lo hi mx=true):(gJ P obj T x lo hi mx).ok:=by
 unfold yp at h
 unfold gJ
 split at h
 ·split at h
  ·split at h
   ·rename_i h1 h2 h3
    simp only[Bool.and_eq_true]at h
    simp only[h1,h2,h3]
    exact⟨eI h.1.1.1,eI h.1.1.2,eI h.1.2,yK h.2⟩
   ·cases h
  ·split at h
   ·rename_i h1 h2 h3
    simp only[Bool.and_eq_true]at h
    simp only[h1,h2,h3]
    exact⟨Ib.1 h.1,Ib.1 h.2⟩
   ·cases h
  ·split at h
   ·rename_i h1 h2 h3 h4
    simp only[Bool.and_eq_true]at h
    simp only[h1,h2,h3,h4]
    exact⟨iV h.1.1.1.1,eI h.1.1.1.2,eI h.1.1.2,eI h.1.2,yK h.2⟩
   ·rename_i h1 h2 h3 h4
    simp only[Bool.and_eq_true]at h
    simp only[h1,h2,h3,h4]
    exact⟨iV h.1.1.1.1,eI h.1.1.1.2,eI h.1.1.2,eI h.1.2,yK h.2⟩
   ·cases h
  ·split at h
   ·rename_i h1 h2 h3
    simp only[Bool.and_eq_true]at h
    simp only[h1,h2,h3]
    exact⟨eI h.1.1,eI h.1.2,eI h.2⟩
   ·cases h
  ·cases h
 ·split at h
  ·rename_i h1 h2 h3
   split at h
   ·simp only[h2,h3]
   ·simp only[h2,h3]
   ·split at h
    ·rename_i o ho
     simp only[h2,h3,ho]
     exact nV h
    ·cases h
   ·cases h
  ·cases h
 ·cases h
theorem LD{T:TypeId}{x:D}{f:Nat}(h:yD P T x f=true):(kq P obj T x f).ok:=by
 unfold yD at h
 unfold kq
 (repeat' split at h)<;>simp_all[nX,tl]
theorem LB{T:TypeId}{x i:D}(h:yA P T x i=true):(ko P obj T x i).ok:=by
 unfold yA at h
 unfold ko
 (repeat' split at h)<;>simp_all[nX,tl,Im,Il]
 exact nV h.1.1
theorem Lx{T:TypeId}{x k:D}{c:Bool}(h:yw P obj T x k=true):(kn P obj T x k c).ok:=by
 unfold yw at h
 unfold kn
 (repeat' split at h)<;>simp_all[nX,nY]
theorem yt{T:TypeId}{x k d:D}(h:vi P obj T x k d=true):(iH P obj T x k d).ok:=by
 unfold vi at h
 unfold iH
 (repeat' split at h)<;>simp_all[nX,nY]
theorem Lt{c x y:D}(h:yq c=true):(gY obj c x y).ok:=by
 unfold yq at h
 unfold gY
 split at h<;>first | trivial | cases h
theorem Dt{x:D}(h:vh obj x=true):(aw obj x).1:=by
 unfold vh at h
 unfold aw
 (repeat' split at h)<;>simp_all[nY]
theorem vm{t:Name}{T1 T2:TypeId}{s x:D}(h:qE P obj t T1 T2 s x=true):(b9 P obj t T1 T2 s x).ok:=by
 unfold qE at h
 unfold b9
 split at h
 ·rename_i e sz by_ p h1 h2
  split at h
  ·rename_i z hz
   split at h
   ·simp only[Bool.and_eq_true]at h
    simp only[h1,h2,hz]
    exact⟨Dt h.1.1.1.1.1,yL h.1.1.1.1.2,iV h.1.1.1.2,pB h.1.1.2,pB h.1.2,wA h.2⟩
   ·split at h
    ·rename_i ho
     simp only[Bool.and_eq_true]at h
     simp only[h1,h2,hz,ho]
     exact⟨Dt h.1.1.1.1.1.1,yL h.1.1.1.1.1.2,iV h.1.1.1.1.2,pB h.1.1.1.2,pB h.1.1.2,iV h.1.2,iV h.2⟩
    ·cases h
   ·cases h
  ·cases h
 ·cases h
end
def nq(f:(Name->Option O)->D->Bool)(g:(Name->Option O)->D->FR)(obj:Name->Option O):List D->Bool
 |[]=>true
 |d::r=>f obj d&&nq f g (g obj d).obj r
def jk:Nat->(Name->Option O)->D->Bool
 | 0,obj,d=>match d with
   | .v _=>true
   | .nilsl=>true
   |_=>false
 |n+1,obj,d=>match d with
  | .v _=>true
  | .nilsl=>true
  | .msl nm k=>match obj nm with
    |some (.arr _ l)=>decide (k=l.length)
    |some (.farr _ l)=>decide (k=l.length)
    |_=>false
  | .ref nm _=>match obj nm with
    |some (.box cs)=>nq (jk n) (ar n) obj cs&&!bY (dw (fp n obj) cs) nm
    |some (.fbox _)=>true
    |_=>false
  | .agg l=>nq (jk n) (ar n) obj l
  | .tup l=>nq (jk n) (ar n) obj l
  | .clo _ f c=>nq (jk n) (ar n) obj f&&nq (jk n) (ar n) (aI (ar n) obj f).obj c
  |_=>false
theorem Cv{n:Nat}(ih:∀ obj d,jk n obj d=true->(ar n obj d).ok):∀ (l:List D) (obj:Name->Option O),nq (jk n) (ar n) obj l=true->(aI (ar n) obj l).ok
 |[],_,_=>trivial
 |d::r,obj,h=>by
  simp only[nq,Bool.and_eq_true]at h
  exact⟨ih obj d h.1,Cv ih r _ h.2⟩
theorem JB:∀ (n:Nat) (obj:Name->Option O) (d:D),jk n obj d=true->(ar n obj d).ok
 | 0,obj,d,h=>by cases d<;>first | trivial | (simp[jk]at h)
 |n+1,obj,d,h=>by
  have ih:=Cv (JB n)
  cases d with
  |v x=>trivial
  |nilsl=>trivial
  |msl nm k=>
   simp only[jk]at h
   unfold ar
   rcases ho:obj nm with _ | o
   ·simp[ho]at h
   ·cases o<;>simp[ho]at h |- <;>exact h
  |ref nm off=>
   simp only[jk]at h
   rcases ho:obj nm with _ | o
   ·simp[ho]at h
   ·cases o with
    |box cs=>
     simp only[ho,Bool.and_eq_true,Bool.not_eq_true']at h
     simp only[ar,ho]
     refine⟨ih cs obj h.1,?_⟩
     have :=(uO (xQ n) cs obj obj (dw (fp n obj) cs) (fun _ hn=>hn) (fun _ _=>rfl)).2.frame nm (fun hn=>by rw[gS.2 hn]at h;cases h.2)
     rw[this,ho]
    |fbox cs=>simp only[ar,ho]
    |_=>simp[ho]at h
  |agg l=>exact ih l obj h
  |tup l=>exact ih l obj h
  |clo fn f c=>
   simp only[jk,Bool.and_eq_true]at h
   exact⟨ih f obj h.1,ih c _ h.2⟩
  |_=>simp[jk]at h
def isNil{α:Type}:List α->Bool
 |[]=>true
 |_=>false
theorem TQ{α:Type}{l:List α}:isNil l=true↔l=[]:=by cases l<;>simp[isNil]
def wX:Nat->List Nat->Bool
 |_,[]=>true
 |k,x::r=>cj x k&&wX (k+1) r
theorem Ic:∀ {k:Nat} {l:List Nat},wX k l=true->l=List.range' k l.length
 |k,[],_=>rfl
 |k,x::r,h=>by
  simp only[wX,Bool.and_eq_true]at h
  rw[iV h.1,List.length_cons,List.range'_succ]
  congr 1
  exact Ic h.2
def Dr(P:Program)(obj:Name->Option O)(T:TypeId)(n:Nat)(parts:List (Nat×D)):Bool:=
 match bD P T with
 |some (e,sz,_)=>match cj n 0&&isNil parts with
  |true=>(ba P e).isSome
  |false=>nq (jk 4) (ar 4) obj (parts.map fun p=>p.2)&&wX 0 (parts.map fun p=>p.1)&&cj parts.length n&&sE sz (aI (ar 4) obj (parts.map fun p=>p.2)).xs&&
     eG (n*sz) 16777216&&!cj sz 0&&(ba P e).isSome&&fG 0 n
 |none=>false
theorem XO{P:Program}{obj:Name->Option O}{T:TypeId}{n:Nat}{parts:List (Nat×D)}(h:Dr P obj T n parts=true):(mh P obj T n parts).ok:=by
 unfold Dr at h
 unfold mh
 split at h
 ·rename_i e sz by_ hT
  rw[hT]
  simp only
  split at h
  ·rename_i hc
   simp only[Bool.and_eq_true,nY,TQ]at hc
   rw[if_pos hc];exact h
  ·rename_i hc
   have jL:¬ (n=0/\parts=[]):=by
    intro ⟨a,b⟩
    subst a;subst b
    cases hc
   rw[if_neg jL]
   simp only[Bool.and_eq_true,Bool.not_eq_true',wG]at h
   obtain⟨⟨⟨⟨⟨⟨⟨h1,h2⟩,Cq⟩,h3⟩,h4⟩,h5⟩,h6⟩,h7⟩:=h
   refine⟨?_,Cv (JB 4) _ _ h1,yL h3,pB h4,h5,h6,tk h7⟩
   have :=Ic h2
   rw[List.length_map,iV Cq,<-List.range_eq_range']at this
   exact this
 ·cases h
def Dq(P:Program)(σ:S)(t:Name)(b:Builtin)(ts:List TypeId)(args:List D):Bool:=
 match b,ts,args with
 | .len,[T],[x]=>yx P σ.obj T x
 | .append,[T1,T2],[s,x]=>qE P σ.obj t T1 T2 s x
 | .min,_,[.v (.int _ _),.v (.int _ _)]=>true
 | .max,_,[.v (.int _ _),.v (.int _ _)]=>true
 |_,_,_=>false
def FN(P:Program)(σ:S)(t:Name):Op->Bool
 | .move _=>true
 | .assign _=>true
 | .pick c _ _=>yq (aj σ c)
 | .alloc T=>yI P σ.obj t T
 | .box _ x=>vl σ.obj t (aj σ x)
 | .build T ps=>yG P T (ps.toList.map fun p=>(p.1,aj σ p.2))
 | .buildSlice T n ps=>Dr P σ.obj T n (ps.toList.map fun p=>(p.1,aj σ p.2))
 | .load T x=>vj P σ.obj T (aj σ x)
 | .store T x d=>yo P σ.obj T (aj σ x) (aj σ d)
 | .nilCheck x=>yr σ.obj (aj σ x)
 | .binOp op T x y _=>yH P σ.obj op T (aj σ x) (aj σ y) (wY y)
 | .unOp op _ x=>yn op (aj σ x)
 | .convert s d x=>yF P s d (aj σ x)
 | .makeFunc _ _ _=>true
 | .makeMap T r=>yv P σ.obj t T (r.map (aj σ))
 | .makeSlice T l c=>yu P σ.obj t T (aj σ l) (aj σ c)
 | .slice T x lo hi mx=>yp P σ.obj T (aj σ x) (lo.map (aj σ)) (hi.map (aj σ)) (mx.map (aj σ))
 | .fieldAddr T x f=>yC P σ.obj T f (aj σ x)
 | .field T x f=>yD P T (aj σ x) f
 | .indexAddr T x i=>yz P σ.obj T (aj σ x) (aj σ i)
 | .index T x i=>yA P T (aj σ x) (aj σ i)
 | .lookup T x i _=>yw P σ.obj T (aj σ x) (aj σ i)
 | .mapUpdate T x k d=>vi P σ.obj T (aj σ x) (aj σ k) (aj σ d)
 | .insert T x k d=>vi P σ.obj T (aj σ x) (aj σ k) (aj σ d)
 | .extract x i=>yE (aj σ x) i
 | .call ⟨.builtin b,args,ts⟩=>Dq P σ t b ts.toList (args.toList.map (aj σ))
 |_=>false
theorem XN{P:Program}{σ:S}{t:Name}{b:Builtin}{ts:List TypeId}{args:List D}(h:Dq P σ t b ts args=true):(ku P σ t b ts args).ok:=by
 unfold Dq at h
 split at h
 ·exact Ly h
 ·exact vm h
 ·trivial
 ·trivial
 ·cases h
theorem QW{P:Program}{Γ:FuncId->Option Spec}{σ:S}{t:Name}{op:Op}(h:FN P σ t op=true):(aO P Γ σ t op).ok:=by
 cases op with
 |call c=>
  obtain⟨callee,args,ts⟩:=c
  cases callee with
  |value f=>cases h
  |builtin b=>exact XN h
  |invoke=>cases h
 |move=>trivial
 |assign=>trivial
 |makeFunc=>trivial
 |pick=>exact Lt h
 |alloc=>exact LM h
 |box=>exact DB h
 |build=>exact LK h
 |buildSlice=>exact XO h
 |load=>exact Dw h
 |store=>exact Lq h
 |nilCheck=>exact Lu h
 |binOp=>exact LL h
 |unOp=>exact Ln h
 |convert=>exact LJ h
 |makeMap=>exact Lw h
 |makeSlice=>exact Lv h
 |slice=>exact Lr h
 |fieldAddr=>exact LF h
 |field=>exact LD h
 |indexAddr=>exact LC h
 |index=>exact LB h
 |lookup=>exact Lx h
 |mapUpdate=>exact yt h
 |insert=>exact yt h
 |extract=>exact LG h
 |_=>cases h
end Go.Eng
