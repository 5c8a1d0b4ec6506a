import Derived.Test.YtckmfkgppohnmaaGreatDoorK2
/- Texts Eng17 to EngX. -/
set_option linter.all false
namespace Go.Eng
open Go
def bJ(Γ:FuncId->Option Spec)(σ:S)(t:Name):Op->List Name
 | .alloc _ | .box _ _ | .makeMap _ _ | .makeSlice _ _ _=>[aR t]
 | .load _ x | .nilCheck x | .fieldAddr _ x _ | .indexAddr _ x _ | .lookup _ x _ _ | .store _ x _ | .mapUpdate _ x _ _ | .insert _ x _ _ | .slice _ x _ _ _=>aK (aj σ x)
 | .binOp _ _ x _ _=>aK (aj σ x)
 | .buildSlice _ _ ps=>dA (fp 4 σ.obj) (ps.toList.map fun p=>aj σ p.2)
 | .call ⟨.value f,args,_⟩=>match (fS (aj σ f)).bind Γ with
   |some s=>s.foot σ.obj t (eo (aj σ f) (args.toList.map (aj σ)))
   |none=>[]
 | .call ⟨.builtin .append,args,_⟩=>match args.toList with
   |[s,x]=>aK (aj σ s)++aK (aj σ x)++[aR t]
   |_=>[]
 | .call ⟨.builtin .len,args,_⟩=>match args.toList with
   |[x]=>aK (aj σ x)
   |_=>[]
 |_=>[]
def bn(Γ:FuncId->Option Spec)(σ:S)(t:Name):Op->List Name
 | .alloc _ | .box _ _ | .makeMap _ _ | .makeSlice _ _ _=>[aR t]
 | .store _ x _ | .mapUpdate _ x _ _ | .insert _ x _ _=>aK (aj σ x)
 | .slice _ x _ _ _=>muts σ.obj (aK (aj σ x))
 | .buildSlice _ _ ps=>muts σ.obj (dA (fp 4 σ.obj) (ps.toList.map fun p=>aj σ p.2))
 | .call ⟨.value f,args,_⟩=>match (fS (aj σ f)).bind Γ with
   |some s=>s.wrt σ.obj t (eo (aj σ f) (args.toList.map (aj σ)))
   |none=>[]
 | .call ⟨.builtin .append,args,_⟩=>match args.toList with
   |[s,x]=>aK (aj σ s)++aK (aj σ x)++[aR t]
   |_=>[]
 |_=>[]
theorem abC{P:Program}{obj:Name->Option O}{T:TypeId}{x:D}{lo hi mx:Option D}:Fz obj (iL P obj T x lo hi mx).obj:=by
 unfold iL
 repeat' split
 all_goals first
  |exact .refl obj
  |exact Fz.one (.refl obj) (by assumption) rfl rfl
theorem bE.muts{r r2:R}{obj obj2:Name->Option O}{W:List Name}(h:bE r r2 obj obj2 W)(hz:Fz obj r.obj)(ha:bq W obj obj2):bE r r2 obj obj2 (muts obj W):=by
 refine ll.like (W:=W) ⟨h.ok,fun nm hn=>?_,h.frame,fun nm hn=>?_⟩ h.d hz ha
 ·rw[h.eff nm,if_pos hn]
 ·rw[h.eff nm,if_neg hn]
theorem Cs{ok:Prop}{d:D}{obj obj2:Name->Option O}:bE ⟨ok,d,obj⟩ ⟨ok,d,obj2⟩ obj obj2 []:=.same rfl rfl rfl rfl
theorem Uf{P:Program}{obj obj2:Name->Option O}{T:TypeId}{ps:List (Nat×D)}:bE (lN P obj T ps) (lN P obj2 T ps) obj obj2 []:=by
 unfold lN
 (repeat' split)<;>exact .same rfl rfl rfl rfl
theorem Ue{P:Program}{obj obj2:Name->Option O}{T:TypeId}{n:Nat}{ps:List (Nat×D)}(h:bq (dA (fp 4 obj) (ps.map (·.2))) obj obj2):
 bE (nK P obj T n ps) (nK P obj2 T n ps) obj obj2 (muts obj (dA (fp 4 obj) (ps.map (·.2)))):=by
 have hm:bq (muts obj (dA (fp 4 obj) (ps.map (·.2)))) obj obj2:=fun nm hn=>h nm (List.mem_filter.1 hn).1
 obtain⟨h1,h2⟩:=wF (zU 4) (ps.map (·.2)) obj obj2 _ (fun _ hn=>hn) h
 unfold nK
 split
 ·split
  ·exact .none _ hm
  ·refine ll.like ⟨?_,h2.agr,h2.frame,h2.frame2⟩ (by rw[h1]) (wG (wE 4) _ obj) h
   rw[h1,h2.ok]
 ·exact .none _ hm
theorem Uh{P:Program}{obj obj2:Name->Option O}{op:BinOp}{T:TypeId}{x y:D}:bE (mL P obj op T x y) (mL P obj2 op T x y) obj obj2 []:=by
 unfold mL
 (repeat' split)<;>first | exact .same rfl rfl rfl rfl | (exfalso;simp_all;done)
theorem Ug{P:Program}{obj obj2:Name->Option O}{op:BinOp}{T:TypeId}{x y:D}{kE:Bool}(h:bq (aK x) obj obj2):bE (lP P obj op T x y kE) (lP P obj2 op T x y kE) obj obj2 []:=by
 unfold lP
 cases kE with
 |true=>
  simp only
  unfold oW
  split
  ·exact .same rfl rfl rfl rfl
  ·rename_i nm k
   have h':obj2 nm=obj nm:=h nm (by simp[aK])
   rw[h']
   exact .same rfl rfl rfl rfl
  ·exact .same rfl rfl rfl rfl
 |false=>
  simp only
  split
  ·unfold lL
   split<;>exact .same rfl rfl rfl rfl
  ·exact Uh
theorem TS{obj obj2:Name->Option O}{op:UnOp}{x:D}:bE (lG obj op x) (lG obj2 op x) obj obj2 []:=by
 unfold lG
 (repeat' split)<;>first | exact .same rfl rfl rfl rfl | (exfalso;simp_all;done)
theorem Ub{P:Program}{obj obj2:Name->Option O}{T T':TypeId}{x:D}:bE (mK P obj T T' x) (mK P obj2 T T' x) obj obj2 []:=by
 unfold mK oX
 (repeat' split)<;>first | exact .same rfl rfl rfl rfl | (exfalso;simp_all;done)
theorem T9{P:Program}{obj obj2:Name->Option O}{T:TypeId}{x:D}{f:Nat}:bE (lJ P obj T x f) (lJ P obj2 T x f) obj obj2 []:=by
 unfold lJ
 (repeat' split)<;>first | exact .same rfl rfl rfl rfl | (exfalso;simp_all;done)
theorem T7{P:Program}{obj obj2:Name->Option O}{T:TypeId}{x y:D}:bE (lI P obj T x y) (lI P obj2 T x y) obj obj2 []:=by
 unfold lI
 (repeat' split)<;>first | exact .same rfl rfl rfl rfl | (exfalso;simp_all;done)
theorem Ua{obj obj2:Name->Option O}{x:D}{i:Nat}:bE (lK obj x i) (lK obj2 x i) obj obj2 []:=by
 unfold lK
 (repeat' split)<;>first | exact .same rfl rfl rfl rfl | (exfalso;simp_all;done)
theorem TV{obj obj2:Name->Option O}{c x y:D}:bE (jg obj c x y) (jg obj2 c x y) obj obj2 []:=by
 unfold jg
 split<;>exact .same rfl rfl rfl rfl
theorem Ud{Γ:FuncId->Option Spec}(hN:∀ f s,Γ f=some s->s.Near){σ σ2:S}{t:Name}{f:D}{args:List D}
 (h:bq (match (fS f).bind Γ with | some s=>s.foot σ.obj t (eo f args) | none=>[]) σ.obj σ2.obj):
 bE (sF Γ σ t f args) (sF Γ σ2 t f args) σ.obj σ2.obj (match (fS f).bind Γ with | some s=>s.wrt σ.obj t (eo f args) | none=>[])/\
 (match (fS f).bind Γ with | some s=>s.foot σ2.obj t (eo f args) | none=>[])=(match (fS f).bind Γ with | some s=>s.foot σ.obj t (eo f args) | none=>[]):=by
 unfold sF
 rcases hs:(fS f).bind Γ with _ | s
 ·exact⟨.same rfl rfl rfl rfl,rfl⟩
 ·simp only[hs]at h |-
  obtain⟨g,_,hs⟩:=Option.bind_eq_some_iff.1 hs
  exact⟨(hN g s hs).like _ _ _ _ h,(hN g s hs).foot _ _ _ _ h⟩
theorem F4{P:Program}{Γ:FuncId->Option Spec}(hN:∀ f s,Γ f=some s->s.Near){σ σ2:S}(t:Name)(op:Op)
 (ho:∀ x∈op.operands.toList,aj σ2 x=aj σ x) (h:bq (bJ Γ σ t op) σ.obj σ2.obj):
 bE (aS P Γ σ t op) (aS P Γ σ2 t op) σ.obj σ2.obj (bn Γ σ t op)/\bJ Γ σ2 t op=bJ Γ σ t op:=by
 cases op with
 |move x=>exact⟨by simp only[aS,ho x (by simp[Op.operands])];exact Cs,rfl⟩
 |assign x=>exact⟨by simp only[aS,ho x (by simp[Op.operands])];exact Cs,rfl⟩
 |pick c x y=>exact⟨by simp only[aS,ho c (by simp[Op.operands]),ho x (by simp[Op.operands]),ho y (by simp[Op.operands])];exact TV,rfl⟩
 |alloc T=>exact⟨Ui h,rfl⟩
 |box T x=>exact⟨by simp only[aS,ho x (by simp[Op.operands])];exact IS h,rfl⟩
 |build T ps=>
  have hp:(ps.toList.map fun p=>(p.1,aj σ2 p.2))=ps.toList.map fun p=>(p.1,aj σ p.2):=List.map_congr_left fun p hp=>by rw[ho p.2 (by simp only[Op.operands];exact List.mem_map_of_mem hp)]
  exact⟨by simp only[aS,hp];exact Uf,rfl⟩
 |buildSlice T n ps=>
  have hp:(ps.toList.map fun p=>(p.1,aj σ2 p.2))=ps.toList.map fun p=>(p.1,aj σ p.2):=List.map_congr_left fun p hp=>by rw[ho p.2 (by simp only[Op.operands];exact List.mem_map_of_mem hp)]
  have rH:(ps.toList.map fun p=>aj σ2 p.2)=ps.toList.map fun p=>aj σ p.2:=List.map_congr_left fun p hp=>by rw[ho p.2 (by simp only[Op.operands];exact List.mem_map_of_mem hp)]
  have hm:(ps.toList.map fun p=>(p.1,aj σ p.2)).map (·.2)=ps.toList.map fun p=>aj σ p.2:=by simp
  simp only[bJ,bn]at h |-
  rw[rH]
  rw[<-hm]at h |-
  refine⟨?_,wI _ h⟩
  simp only[aS,hp]
  exact Ue h
 |load T x=>
  simp only[bJ,bn,aS,ho x (by simp[Op.operands])]at h |-
  exact⟨T3 h,trivial⟩
 |store T x d=>
  simp only[bJ,bn,aS,ho x (by simp[Op.operands]),ho d (by simp[Op.operands])]at h |-
  exact⟨TT h,trivial⟩
 |nilCheck x=>
  simp only[bJ,bn,aS,ho x (by simp[Op.operands])]at h |-
  exact⟨TW h,trivial⟩
 |binOp op T x y c=>
  simp only[bJ,bn,aS,ho x (by simp[Op.operands]),ho y (by simp[Op.operands])]at h |-
  exact⟨Ug h,trivial⟩
 |unOp op T x=>exact⟨by simp only[aS,ho x (by simp[Op.operands])];exact TS,rfl⟩
 |convert s d x=>exact⟨by simp only[aS,ho x (by simp[Op.operands])];exact Ub,rfl⟩
 |makeFunc fn f c=>
  have h1:f.toList.map (aj σ2)=f.toList.map (aj σ):=List.map_congr_left fun x hx=>ho x (by simp only[Op.operands,Array.toList_append];exact List.mem_append_left _ hx)
  have h2:c.toList.map (aj σ2)=c.toList.map (aj σ):=List.map_congr_left fun x hx=>ho x (by simp only[Op.operands,Array.toList_append];exact List.mem_append_right _ hx)
  exact⟨by simp only[aS,h1,h2];exact Cs,rfl⟩
 |makeMap T r=>
  have h1:r.map (aj σ2)=r.map (aj σ):=by
   cases r with
   |none=>rfl
   |some x=>simp only[Option.map_some,ho x (by simp[Op.operands])]
  exact⟨by simp only[aS,h1];exact TY h,rfl⟩
 |makeSlice T l c=>exact⟨by simp only[aS,ho l (by simp[Op.operands]),ho c (by simp[Op.operands])];exact TX h,rfl⟩
 |slice T x lo hi mx=>
  have e:∀ r:Option Operand,(∀ y∈r.toList,aj σ2 y=aj σ y)->r.map (aj σ2)=r.map (aj σ):=by
   intro r hr
   cases r with
   |none=>rfl
   |some x=>simp only[Option.map_some,hr x (by simp)]
  have h1:=e lo fun y hy=>ho y (by simp[Op.operands]at hy |-;simp[hy])
  have h2:=e hi fun y hy=>ho y (by simp[Op.operands]at hy |-;simp[hy])
  have h3:=e mx fun y hy=>ho y (by simp[Op.operands]at hy |-;simp[hy])
  simp only[bJ,bn,aS,ho x (by simp[Op.operands]),h1,h2,h3]at h |-
  exact⟨(TU h).muts abC h,trivial⟩
 |fieldAddr T x f=>
  simp only[bJ,bn,aS,ho x (by simp[Op.operands])]at h |-
  exact⟨T8 h,trivial⟩
 |field T x f=>exact⟨by simp only[aS,ho x (by simp[Op.operands])];exact T9,rfl⟩
 |indexAddr T x i=>
  simp only[bJ,bn,aS,ho x (by simp[Op.operands]),ho i (by simp[Op.operands])]at h |-
  exact⟨T6 h,trivial⟩
 |index T x i=>exact⟨by simp only[aS,ho x (by simp[Op.operands]),ho i (by simp[Op.operands])];exact T7,rfl⟩
 |lookup T x i co=>
  simp only[bJ,bn,aS,ho x (by simp[Op.operands]),ho i (by simp[Op.operands])]at h |-
  exact⟨TZ h,trivial⟩
 |mapUpdate T x k d=>
  simp only[bJ,bn,aS,ho x (by simp[Op.operands]),ho k (by simp[Op.operands]),ho d (by simp[Op.operands])]at h |-
  exact⟨IP h,trivial⟩
 |insert T x k d=>
  simp only[bJ,bn,aS,ho x (by simp[Op.operands]),ho k (by simp[Op.operands]),ho d (by simp[Op.operands])]at h |-
  exact⟨IP h,trivial⟩
 |extract x i=>exact⟨by simp only[aS,ho x (by simp[Op.operands])];exact Ua,rfl⟩
 |call c=>
  obtain⟨callee,args,ts⟩:=c
  cases callee with
  |value f=>
   have h1:aj σ2 f=aj σ f:=ho f (by simp[Op.operands,Call.operands])
   have h2:args.toList.map (aj σ2)=args.toList.map (aj σ):=List.map_congr_left fun x hx=>ho x (by simp[Op.operands,Call.operands]at hx |-;simp[hx])
   simp only[bJ,bn,aS,h1,h2]at h |-
   exact Ud hN h
  |builtin b=>
   have h2:args.toList.map (aj σ2)=args.toList.map (aj σ):=List.map_congr_left fun x hx=>ho x (by simp[Op.operands,Call.operands]at hx |-;simp[hx])
   have h3:∀ x∈args.toList,aj σ2 x=aj σ x:=fun x hx=>ho x (by simp[Op.operands,Call.operands]at hx |-;simp[hx])
   simp only[aS,h2]
   obtain⟨args⟩:=args
   obtain⟨ts⟩:=ts
   simp only at *
   cases b with
   |len=>
    rcases args with _ | ⟨x,_ | ⟨y,r⟩⟩
    ·exact⟨by rcases ts with _ | ⟨_,_ | _⟩<;>exact .same rfl rfl rfl rfl,rfl⟩
    ·simp only[bJ,bn,h3 x (by simp),List.map_cons,List.map_nil]at h |-
     refine⟨?_,trivial⟩
     rcases ts with _ | ⟨T,_ | _⟩<;>first
      |exact .same rfl rfl rfl rfl
      |exact T4 h
    ·refine⟨?_,rfl⟩
     rcases ts with _ | ⟨_,_ | _⟩<;>exact .same rfl rfl rfl rfl
   |append=>
    rcases args with _ | ⟨s,_ | ⟨x,_ | ⟨y,r⟩⟩⟩
    ·refine⟨?_,rfl⟩
     rcases ts with _ | ⟨_,_ | ⟨_,_ | _⟩⟩<;>exact .same rfl rfl rfl rfl
    ·refine⟨?_,rfl⟩
     rcases ts with _ | ⟨_,_ | ⟨_,_ | _⟩⟩<;>exact .same rfl rfl rfl rfl
    ·simp only[bJ,bn,h3 x (by simp),h3 s (by simp),List.map_cons,List.map_nil]at h |-
     refine⟨?_,trivial⟩
     rcases ts with _ | ⟨T1,_ | ⟨T2,_ | _⟩⟩<;>first
      |exact yE h
      |exact .none _ h
    ·refine⟨?_,rfl⟩
     rcases ts with _ | ⟨_,_ | ⟨_,_ | _⟩⟩<;>exact .same rfl rfl rfl rfl
   |_=>
    refine⟨?_,rfl⟩
    show bE _ _ _ _ []
    unfold lM
    (repeat' split)<;>first | exact .same rfl rfl rfl rfl | (exfalso;simp_all;done)
  |invoke r m=>exact⟨.same rfl rfl rfl rfl,rfl⟩
 |_=>exact⟨.same rfl rfl rfl rfl,rfl⟩
theorem abt{Γ:FuncId->Option Spec}(hN:∀ f s,Γ f=some s->s.Near){σ σ2:S}(t:Name)(op:Op)
 (ho:∀ x∈op.operands.toList,aj σ2 x=aj σ x) (h:bq (bJ Γ σ t op) σ.obj σ2.obj):bn Γ σ2 t op=bn Γ σ t op:=by
 cases op with
 |buildSlice T n ps=>
  have rH:(ps.toList.map fun p=>aj σ2 p.2)=ps.toList.map fun p=>aj σ p.2:=List.map_congr_left fun p hp=>by rw[ho p.2 (by simp only[Op.operands];exact List.mem_map_of_mem hp)]
  simp only[bJ,bn]at h |-
  rw[rH,wI _ h]
  exact Ch h
 |store T x d=>simp only[bn,ho x (by simp[Op.operands])]
 |mapUpdate T x k d=>simp only[bn,ho x (by simp[Op.operands])]
 |insert T x k d=>simp only[bn,ho x (by simp[Op.operands])]
 |slice T x lo hi mx=>
  simp only[bJ,bn,ho x (by simp[Op.operands])]at h |-
  exact Ch h
 |call c=>
  obtain⟨callee,args,ts⟩:=c
  cases callee with
  |value f=>
   have h1:aj σ2 f=aj σ f:=ho f (by simp[Op.operands,Call.operands])
   have h2:args.toList.map (aj σ2)=args.toList.map (aj σ):=List.map_congr_left fun x hx=>ho x (by simp[Op.operands,Call.operands]at hx |-;simp[hx])
   simp only[bJ,bn,h1,h2]at h |-
   cases hq:(fS (aj σ f)).bind Γ with
   |none=>rfl
   |some s=>
    simp only[hq]at h |-
    obtain⟨g,hg,hs⟩:=Option.bind_eq_some_iff.1 hq
    exact(hN g s hs).wrt _ _ _ _ h
  |builtin b=>
   have h3:∀ x∈args.toList,aj σ2 x=aj σ x:=fun x hx=>ho x (by simp[Op.operands,Call.operands]at hx |-;simp[hx])
   obtain⟨args⟩:=args
   simp only at *
   cases b with
   |append=>
    rcases args with _ | ⟨s,_ | ⟨x,_ | ⟨y,r⟩⟩⟩<;>first
     |rfl
     |simp only[bn,h3 x (by simp),h3 s (by simp)]
   |_=>rfl
  |invoke r m=>rfl
 |_=>rfl
theorem Gm{Γ:FuncId->Option Spec}(hN:∀ f s,Γ f=some s->s.Near){σ:S}(t:Name)(op:Op):∀ nm∈bn Γ σ t op,nm∈bJ Γ σ t op:=by
 intro nm hn
 cases op with
 |buildSlice T n ps=>exact(List.mem_filter.1 hn).1
 |slice T x lo hi mx=>exact(List.mem_filter.1 hn).1
 |call c=>
  obtain⟨callee,args,ts⟩:=c
  cases callee with
  |value f=>
   simp only[bJ,bn]at hn |-
   cases hq:(fS (aj σ f)).bind Γ with
   |none=>simp[hq]at hn
   |some s=>
    simp only[hq]at hn |-
    obtain⟨g,hg,hs⟩:=Option.bind_eq_some_iff.1 hq
    exact(hN g s hs).sub _ _ _ _ hn
  |builtin b=>cases b<;>first | exact hn | (simp[bn]at hn;done)
  |invoke r m=>simp[bn]at hn
 |_=>first | exact hn | (simp[bn]at hn;done)
section
variable {P:Program} {Γ:FuncId->Option Spec} {ops:Array Oper}
abbrev Oper.tt (σ:S) (o:Oper):Name:=(σ.base+o.dst.getD 0)::σ.pre
theorem Tj{σ σ':S}{x:Operand}(h:∀ t,x=.tmp t->σ'.env t=σ.env t):aj σ' x=aj σ x/\cz σ' x=cz σ x:=by
 cases x with
 |tmp t=>exact⟨by simp only[aj,h t rfl],by simp only[cz,h t rfl]⟩
 |_=>exact⟨rfl,rfl⟩
theorem TO{o:Oper}{x:Operand}(hx:x∈o.op.operands.toList){t:Nat}(h:x=.tmp t):t∈o.looksAt ops:=
 List.mem_append_left _ (List.mem_filterMap.2 ⟨x,hx,by subst h;rfl⟩)
theorem IM{o:Oper}{j:Nat}{b:Bool}(hg:o.guard=some (j,b)){s:Nat}(h:nB ops j=some s):s∈o.looksAt ops:=by
 refine List.mem_append_right _ ?_
 unfold nB at h
 simp[hg,h]
theorem aav{σ σ':S}{op:Op}(h:∀ x∈op.operands.toList,aj σ' x=aj σ x/\cz σ' x=cz σ x):mY σ' op=mY σ op:=by
 have ei:op.operands.toList.all (cz σ')=op.operands.toList.all (cz σ):=by
  refine Bool.eq_iff_iff.2 ?_
  simp only[List.all_eq_true]
  exact⟨fun k x hx=>(h x hx).2▸k x hx,fun k x hx=>(h x hx).2.symm▸k x hx⟩
 cases op with
 |pick c x y=>
  simp only[mY]
  have h1:=h c (by simp[Op.operands])
  have h2:=h x (by simp[Op.operands])
  have h3:=h y (by simp[Op.operands])
  rw[h1.1,h1.2,h2.2,h3.2]
 |_=>exact ei
structure qo (P:Program) (Γ:FuncId->Option Spec) (ops:Array Oper) (σ σ':S) (o:Oper):Prop where
 obl:kD P Γ ops σ' o↔kD P Γ ops σ o
 g:ej ops σ' o=ej ops σ o
 d:(aS P Γ σ' (Oper.tt σ o) o.op).d=(aS P Γ σ (Oper.tt σ o) o.op).d
 eff:∀ nm,(aX P Γ ops σ' o).obj nm=if nm∈bn Γ σ (Oper.tt σ o) o.op then(aX P Γ ops σ o).obj nm else σ'.obj nm
 frame:∀ nm,nm∉bn Γ σ (Oper.tt σ o) o.op->(aX P Γ ops σ o).obj nm=σ.obj nm
 foot:bJ Γ σ' (Oper.tt σ o) o.op=bJ Γ σ (Oper.tt σ o) o.op
 wrt:bn Γ σ' (Oper.tt σ o) o.op=bn Γ σ (Oper.tt σ o) o.op
theorem uX(hN:∀ f s,Γ f=some s->s.Near){σ σ':S}(o:Oper)(eQ:σ'.nt=σ.nt)(rG:σ'.pre=σ.pre)(zM:σ'.base=σ.base)(he:∀ t∈o.looksAt ops,σ'.env t=σ.env t)
 (ha:bq (bJ Γ σ (Oper.tt σ o) o.op) σ.obj σ'.obj):qo P Γ ops σ σ' o:=by
 have hx:∀ x∈o.op.operands.toList,aj σ' x=aj σ x/\cz σ' x=cz σ x:=fun x hx=>Tj fun t ht=>he t (TO hx ht)
 have hg:ej ops σ' o=ej ops σ o:=by
  unfold ej
  cases D1:o.guard with
  |none=>rfl
  |some p=>
   obtain⟨j,b⟩:=p
   simp only
   cases hs:nB ops j with
   |none=>rfl
   |some s=>simp only[he s (IM D1 hs)]
 have Ya:nC ops σ' o↔nC ops σ o:=by
  unfold nC
  cases D1:o.guard with
  |none=>exact Iff.rfl
  |some p=>
   obtain⟨j,b⟩:=p
   simp only
   cases hs:nB ops j with
   |none=>exact Iff.rfl
   |some s=>simp only[he s (IM D1 hs),eQ]
 obtain⟨h1,h2⟩:=F4 (P:=P) hN (Oper.tt σ o) o.op (fun x h=>(hx x h).1) ha
 have h3:=abt hN (Oper.tt σ o) o.op (fun x h=>(hx x h).1) ha
 refine⟨?_,hg,h1.d,fun nm=>?_,fun nm hn=>?_,h2,h3⟩
 ·have aa:(aS P Γ σ' ((σ.base+o.dst.getD 0)::σ.pre) o.op).ok=(aS P Γ σ ((σ.base+o.dst.getD 0)::σ.pre) o.op).ok:=h1.ok
  unfold kD
  rw[Ya,hg,eQ,rG,zM,aav hx,aa]
 ·unfold aX
  simp only[hg,rG,zM]
  cases hc:ej ops σ o with
  |true=>simp only[if_true];exact h1.eff nm
  |false=>
   simp only[Bool.false_eq_true,if_false]
   split
   ·rename_i hn;exact ha nm (Gm hN _ _ nm hn)
   ·rfl
 ·unfold aX
  cases hc:ej ops σ o with
  |true=>simp only[if_true];exact h1.frame nm hn
  |false=>simp only[Bool.false_eq_true,if_false]
theorem qB{σ:S}{o:Oper}{t:Nat}(h:o.dst≠some t):(aX P Γ ops σ o).env t=σ.env t:=by
 unfold aX
 cases hd:o.dst with
 |none=>rfl
 |some s=>exact aN _ _ _ (by rintro rfl;exact h hd)
def xj(a b:List Name):Prop:=∀ nm∈a,nm∉b
theorem comm{oi oj:Oper}(hN:∀ f s,Γ f=some s->s.Near){σ:S}(kN:oi.apart ops oj=true)
 (h1:xj (bn Γ σ (Oper.tt σ oi) oi.op) (bJ Γ (aX P Γ ops σ oi) (Oper.tt σ oj) oj.op)) (h2:xj (bn Γ (aX P Γ ops σ oi) (Oper.tt σ oj) oj.op) (bJ Γ σ (Oper.tt σ oi) oi.op)):
 qo P Γ ops (aX P Γ ops σ oi) σ oj/\qo P Γ ops σ (aX P Γ ops σ oj) oi/\aX P Γ ops (aX P Γ ops σ oj) oi=aX P Γ ops (aX P Γ ops σ oi) oj:=by
 obtain⟨a1,a2,a3⟩:=Oper.apart_spec kN
 have s0:qo P Γ ops σ σ oi:=uX hN oi rfl rfl rfl (fun _ _=>rfl) (fun _ _=>rfl)
 have s1:qo P Γ ops (aX P Γ ops σ oi) σ oj:=by
  refine uX hN oj rfl rfl rfl (fun t ht=>(qB fun hd=>a1 t hd ht).symm) fun nm hn=>?_
  exact(s0.frame nm fun hw=>h1 nm hw hn).symm
 have s2:qo P Γ ops σ (aX P Γ ops σ oj) oi:=by
  refine uX hN oi rfl rfl rfl (fun t ht=>qB fun hd=>a3 t hd ht) fun nm hn=>?_
  exact(s1.eff nm).trans (if_neg fun hw=>h2 nm hw hn)
 refine⟨s1,s2,?_⟩
 have e1:(aX P Γ ops (aX P Γ ops σ oj) oi).obj=(aX P Γ ops (aX P Γ ops σ oi) oj).obj:=by
  funext nm
  rw[s2.eff nm]
  by_cases hi:nm∈bn Γ σ (Oper.tt σ oi) oi.op
  ·rw[if_pos hi]
   have :=Gm hN _ _ nm hi
   have s3:qo P Γ ops (aX P Γ ops σ oi) (aX P Γ ops σ oi) oj:=uX hN oj rfl rfl rfl (fun _ _=>rfl) (fun _ _=>rfl)
   exact(s3.frame nm fun hw=>h2 nm hw this).symm
  ·rw[if_neg hi,s1.eff nm]
   split
   ·rfl
   ·rename_i hj
    have s3:qo P Γ ops (aX P Γ ops σ oi) (aX P Γ ops σ oi) oj:=uX hN oj rfl rfl rfl (fun _ _=>rfl) (fun _ _=>rfl)
    rw[s3.frame nm hj,s0.frame nm hi]
 have e2:(aX P Γ ops (aX P Γ ops σ oj) oi).env=(aX P Γ ops (aX P Γ ops σ oi) oj).env:=by
  funext x
  by_cases hi:oi.dst=some x
  ·have hj:oj.dst≠some x:=a2 x hi
   rw[qB (σ:=aX P Γ ops σ oi) hj]
   show (match oi.dst with
    |some t=>upd (aX P Γ ops σ oj).env t ⟨ej ops (aX P Γ ops σ oj) oi,(aS P Γ (aX P Γ ops σ oj) ((σ.base+t)::σ.pre) oi.op).d⟩
    |none=>(aX P Γ ops σ oj).env) x=(match oi.dst with
    |some t=>upd σ.env t ⟨ej ops σ oi,(aS P Γ σ ((σ.base+t)::σ.pre) oi.op).d⟩
    |none=>σ.env) x
   have d1:=s2.d
   have g1:=s2.g
   unfold Oper.tt at d1
   simp only[hi,Option.getD_some]at d1 |-
   rw[aH,aH,d1,g1]
  ·rw[qB hi]
   by_cases hj:oj.dst=some x
   ·show (match oj.dst with
      |some t=>upd σ.env t ⟨ej ops σ oj,(aS P Γ σ ((σ.base+t)::σ.pre) oj.op).d⟩
      |none=>σ.env) x=(match oj.dst with
      |some t=>upd (aX P Γ ops σ oi).env t ⟨ej ops (aX P Γ ops σ oi) oj,(aS P Γ (aX P Γ ops σ oi) ((σ.base+t)::σ.pre) oj.op).d⟩
      |none=>(aX P Γ ops σ oi).env) x
    have d1:(aS P Γ σ (Oper.tt σ oj) oj.op).d=(aS P Γ (aX P Γ ops σ oi) (Oper.tt σ oj) oj.op).d:=s1.d
    have g1:=s1.g
    unfold Oper.tt at d1
    simp only[hj,Option.getD_some]at d1 |-
    rw[aH,aH,d1,g1]
   ·rw[qB hj,qB hj,qB hi]
 have e3:(aX P Γ ops (aX P Γ ops σ oj) oi).nt=(aX P Γ ops (aX P Γ ops σ oi) oj).nt:=rfl
 have e4:(aX P Γ ops (aX P Γ ops σ oj) oi).pre=(aX P Γ ops (aX P Γ ops σ oi) oj).pre:=rfl
 have e5:(aX P Γ ops (aX P Γ ops σ oj) oi).base=(aX P Γ ops (aX P Γ ops σ oi) oj).base:=rfl
 generalize aX P Γ ops (aX P Γ ops σ oj) oi=x at *
 generalize aX P Γ ops (aX P Γ ops σ oi) oj=y at *
 cases x;cases y
 simp only at e1 e2 e3 e4 e5
 subst e1 e2 e3 e4 e5
 rfl
structure qq where
 on:Nat
 foot:List Name
 wrt:List Name
def yg(anc:List Nat)(foot wrt:List Name)(L:List qq):Prop:=∀ e∈L,e.on∈anc\/(xj e.wrt foot/\xj wrt e.foot)
variable (P Γ ops)in
def qt(anc:Nat->List Nat)(L:List qq)(K:S->Prop):Nat->Array Bool->S->Prop
 | 0,listed,σ=>Region.ready .any ops listed=[]/\K σ
 |fuel+1,listed,σ=>(Region.ready .any ops listed=[]->K σ)/\∀ i∈Region.ready .any ops listed,∀ o,ops[i]?=some o->
    kD P Γ ops σ o/\yg (anc i) (bJ Γ σ (Oper.tt σ o) o.op) (bn Γ σ (Oper.tt σ o) o.op) L/\qt anc L K fuel (listed.setIfInBounds i true) (aX P Γ ops σ o)
def xm(ops:Array Oper)(anc:Nat->List Nat):Prop:=∀ j o,ops[j]?=some o->∀ i∈anc j,∃ e∈o.after,Region.binds .any e=true/\(e.on=i\/i∈anc e.on)
def sL(anc:Nat->List Nat)(listed:Array Bool):Prop:=∀ j,listed.getD j false=true->∀ i∈anc j,listed.getD i false=true
theorem sL.ready{anc:Nat->List Nat}{listed:Array Bool}(hA:xm ops anc)(h:sL anc listed){j:Nat}(hj:j∈Region.ready .any ops listed):∀ i∈anc j,listed.getD i false=true:=by
 intro i hi
 obtain⟨_,o,ho,ei⟩:=mem_ready.1 hj
 obtain⟨e,he,hb,h1⟩:=hA j o ho i hi
 have :=ei e he hb
 rcases h1 with h1 | h1
 ·rw[<-h1];exact this
 ·exact h _ this i h1
theorem sL.set{anc:Nat->List Nat}{listed:Array Bool}(hA:xm ops anc)(h:sL anc listed){j:Nat}(hj:j∈Region.ready .any ops listed):sL anc (listed.setIfInBounds j true):=by
 intro k hk i hi
 by_cases Le:j=k
 ·subst Le
  exact getD_set_true (h.ready hA hj i hi)
 ·rw[getD_set_ne false Le]at hk
  exact getD_set_true (h k hk i hi)
theorem pull(hN:∀ f s,Γ f=some s->s.Near){anc:Nat->List Nat}(hA:xm ops anc){K:S->Prop}{i:Nat}{oi:Oper}(hi:ops[i]?=some oi){L:List qq}:
 ∀ (fuel:Nat) (listed:Array Bool) (σ:S),sL anc listed->
   (∀ j oj,ops[j]?=some oj->j≠i->listed.getD j true=false->i∉anc j->oi.apart ops oj=true)->
   i∈Region.ready .any ops listed->kD P Γ ops σ oi->yg (anc i) (bJ Γ σ (Oper.tt σ oi) oi.op) (bn Γ σ (Oper.tt σ oi) oi.op) L->
   qt P Γ ops anc (⟨i,bJ Γ σ (Oper.tt σ oi) oi.op,bn Γ σ (Oper.tt σ oi) oi.op⟩::L) K fuel (listed.setIfInBounds i true) (aX P Γ ops σ oi)->
   qt P Γ ops anc L K (fuel+1) listed σ:=by
 have weaken:∀ (e:qq) (fuel:Nat) (listed:Array Bool) (σ:S),qt P Γ ops anc (e::L) K fuel listed σ->qt P Γ ops anc L K fuel listed σ:=by
  intro e fuel
  induction fuel with
  |zero=>exact fun _ _ h=>h
  |succ n ih=>exact fun listed σ h=>⟨h.1,fun i hi o ho=>⟨(h.2 i hi o ho).1,fun e' mm=>(h.2 i hi o ho).2.1 e' (List.mem_cons_of_mem _ mm),ih _ _ (h.2 i hi o ho).2.2⟩⟩
 intro fuel
 induction fuel with
 |zero=>
  intro listed σ bR D3 hr fy aa H
  refine⟨fun h=>(by rw[h]at hr;cases hr),fun j hj oj rI=>?_⟩
  by_cases nv:j=i
  ·subst nv
   rw[hi]at rI;cases rI
   exact⟨fy,aa,weaken _ _ _ _ H⟩
  ·have:=ready_mono hj nv
   rw[H.1]at this
   cases this
 |succ fuel ih=>
  intro listed σ bR D3 hr fy aa H
  refine⟨fun h=>(by rw[h]at hr;cases hr),fun j hj oj rI=>?_⟩
  by_cases nv:j=i
  ·subst nv
   rw[hi]at rI;cases rI
   exact⟨fy,aa,weaken _ _ _ _ H⟩
  ·obtain⟨g1,g2,g3⟩:=H.2 j (ready_mono hj nv) oj rI
   have vL:listed.getD j true=false:=(mem_ready.1 hj).1
   have KV:i∉anc j:=fun h=>by
    have h1:=bR.ready hA hj i h
    have h0:=(mem_ready.1 hr).1
    rcases Nat.lt_or_ge i listed.size with h' | h'
    ·simp[h']at h0 h1;rw[h0]at h1;cases h1
    ·simp[Array.getElem?_eq_none h']at h1
   rcases g2 _ List.mem_cons_self with k | ⟨d1,d2⟩
   ·exact(KV k).elim
   simp only at d1 d2
   obtain⟨s1,s2,s3⟩:=comm hN (D3 j oj rI nv vL KV) d1 d2
   have f1:bJ Γ σ (Oper.tt σ oj) oj.op=bJ Γ (aX P Γ ops σ oi) (Oper.tt σ oj) oj.op:=s1.foot
   have f2:bn Γ σ (Oper.tt σ oj) oj.op=bn Γ (aX P Γ ops σ oi) (Oper.tt σ oj) oj.op:=s1.wrt
   have f3:bJ Γ (aX P Γ ops σ oj) (Oper.tt σ oi) oi.op=bJ Γ σ (Oper.tt σ oi) oi.op:=s2.foot
   have f4:bn Γ (aX P Γ ops σ oj) (Oper.tt σ oi) oi.op=bn Γ σ (Oper.tt σ oi) oi.op:=s2.wrt
   refine⟨s1.obl.2 g1,?_,?_⟩
   ·rw[f1,f2]
    exact fun e he=>g2 e (List.mem_cons_of_mem _ he)
   ·refine ih _ _ (bR.set hA hj) (fun k ok hk mf KD dJ=>D3 k ok hk mf ?_ dJ) (ready_mono hr (Ne.symm nv)) (s2.obl.2 fy) ?_ ?_
    ·by_cases wg:j=k
     ·subst wg;exact vL
     ·rw[getD_set_ne true wg]at KD;exact KD
    ·show yg (anc i) (bJ Γ (aX P Γ ops σ oj) (Oper.tt σ oi) oi.op) (bn Γ (aX P Γ ops σ oj) (Oper.tt σ oi) oi.op) L
     rw[f3,f4];exact aa
    ·show qt P Γ ops anc (⟨i,bJ Γ (aX P Γ ops σ oj) (Oper.tt σ oi) oi.op,bn Γ (aX P Γ ops σ oj) (Oper.tt σ oi) oi.op⟩::L) K fuel _ _
     rw[Array.setIfInBounds_comm _ _ nv,f3,f4,s3]
     exact g3
theorem Ou(hΓ:∀ f s,Γ f=some s->al P f s){G:Ghost}{Q:Exit->Act->World->Prop}{K:S->Prop}{anc:Nat->List Nat}{L:List qq}:
 ∀ (fuel:Nat) (listed:Array Bool) {φ:Name->Loc} {m:Mem} {σ:S} {a:Act} {w:World},aG G φ m σ a w->qt P Γ ops anc L K fuel listed σ->
   (∀ a' w' φ' m' σ',aG G φ' m' σ' a' w'->K σ'->Q .normal a' w')->wpAnyIn (fo G.rd) 0 P .any ops Q fuel listed a w
 | 0,listed,φ,m,σ,a,w,hC,h,hQ=>⟨h.1,hQ _ _ φ m σ hC h.2⟩
 |fuel+1,listed,φ,m,σ,a,w,hC,h,hQ=>by
  refine⟨fun h0=>hQ _ _ φ m σ hC (h.1 h0),fun i hi=>?_⟩
  obtain⟨_,o,ho,_⟩:=mem_ready.1 hi
  obtain⟨h1,_,h3⟩:=h.2 i hi o ho
  exact Bi hΓ hC ho h1 fun a' w' φ' m' bW=>Ou hΓ fuel _ bW h3 hQ
end
section
variable {P:Program} {Γ:FuncId->Option Spec} {ops:Array Oper}
structure sK where
 anc:List Nat
 past:qq
def dG:Name->Name->Bool
 |[],[]=>true
 |x::r,y::s=>Nat.beq x y&&dG r s
 |_,_=>false
theorem fL:∀ {a b:Name},dG a b=true↔a=b
 |[],[]=>by simp[dG]
 |[],_::_=>by simp[dG]
 |_::_,[]=>by simp[dG]
 |x::r,y::s=>by
  simp only[dG,Bool.and_eq_true,Nat.beq_eq,List.cons.injEq,fL]
def tK:List Name->Name->Bool
 |[],_=>false
 |x::r,nm=>dG x nm||tK r nm
theorem II:∀ {l:List Name} {nm:Name},tK l nm=true↔nm∈l
 |[],nm=>by simp[tK]
 |x::r,nm=>by
  simp only[tK,Bool.or_eq_true,fL,List.mem_cons,II]
  exact⟨fun h=>h.imp Eq.symm id,fun h=>h.imp Eq.symm id⟩
def j5:List Nat->Nat->Bool
 |[],_=>false
 |x::r,n=>Nat.beq x n||j5 r n
theorem IJ:∀ {l:List Nat} {n:Nat},j5 l n=true↔n∈l
 |[],n=>by simp[j5]
 |x::r,n=>by
  simp only[j5,Bool.or_eq_true,Nat.beq_eq,List.mem_cons,IJ]
  exact⟨fun h=>h.imp Eq.symm id,fun h=>h.imp Eq.symm id⟩
def uF:List Name->List Name->Bool
 |[],_=>true
 |x::r,b=>!tK b x&&uF r b
theorem Fc:∀ {a b:List Name},uF a b=true->xj a b
 |[],_,_=>fun nm h=>by cases h
 |x::r,b,h=>by
  simp only[uF,Bool.and_eq_true,Bool.not_eq_true']at h
  intro nm ha hb
  rcases List.mem_cons.1 ha with rfl | ha
  ·rw[II.2 hb]at h;cases h.1
  ·exact Fc h.2 nm ha hb
def NC(p:sK)(e:sK):Bool:=j5 p.anc e.past.on||(uF e.past.wrt p.past.foot&&uF p.past.wrt e.past.foot)
def tr:List sK->Bool
 |[]=>true
 |p::L=>L.all (NC p)&&tr L
variable (P Γ ops)in
def qp:Nat->List (List Nat)->List Oper->List sK->S->(S->Prop)->Prop
 |_,_,[],L,σ,K=>tr L=true/\K σ
 |i,az,o::r,L,σ,K=>kD P Γ ops σ o/\
   qp (i+1) az.tail r (⟨az.headD [],i,bJ Γ σ ((σ.base+o.dst.getD 0)::σ.pre) o.op,bn Γ σ ((σ.base+o.dst.getD 0)::σ.pre) o.op⟩::L) (aX P Γ ops σ o) K
variable (P Γ ops)in
def Ga(anc:Nat->List Nat):Nat->List Oper->List qq->S->(S->Prop)->Prop
 |_,[],_,σ,K=>K σ
 |i,o::r,L,σ,K=>kD P Γ ops σ o/\yg (anc i) (bJ Γ σ (Oper.tt σ o) o.op) (bn Γ σ (Oper.tt σ o) o.op) L/\
   Ga anc (i+1) r (⟨i,bJ Γ σ (Oper.tt σ o) o.op,bn Γ σ (Oper.tt σ o) o.op⟩::L) (aX P Γ ops σ o) K
theorem HE{anc:Nat->List Nat}{K:S->Prop}:∀ (l:List Oper) (i:Nat) (az:List (List Nat)) (L:List sK) (σ:S),(∀ k,az.getD k []=anc (i+k))->
 qp P Γ ops i az l L σ K->tr L=true/\Ga P Γ ops anc i l (L.map (·.past)) σ K
 |[],i,az,L,σ,_,h=>h
 |o::r,i,az,L,σ,ha,h=>by
  obtain⟨h1,h2⟩:=h
  obtain⟨h3,h4⟩:=HE (anc:=anc) r (i+1) az.tail _ _ (fun k=>by
   have :=ha (k+1)
   rw[show i+(k+1)=i+1+k by omega]at this
   rw[<-this]
   cases az<;>rfl) h2
  simp only[tr,Bool.and_eq_true]at h3
  refine⟨h3.2,h1,?_,h4⟩
  intro e he
  obtain⟨p,hp,rfl⟩:=List.mem_map.1 he
  have :=List.all_eq_true.1 h3.1 p hp
  simp only[NC,Bool.or_eq_true,Bool.and_eq_true]at this
  rcases this with k | ⟨k1,k2⟩
  ·left
   have h0:az.headD []=anc i:=by
    have :=ha 0
    rw[Nat.add_zero]at this
    rw[<-this]
    cases az<;>rfl
   rw[h0]at k
   exact IJ.1 k
  ·exact .inr ⟨Fc k1,Fc k2⟩
theorem HG(hN:∀ f s,Γ f=some s->s.Near){anc:Nat->List Nat}(hA:xm ops anc)(kN:∀ i j oi oj,ops[i]?=some oi->ops[j]?=some oj->i<j->i∉anc j->oi.apart ops oj=true)
 (zO:∀ j o,ops[j]?=some o->∀ e∈o.after,Region.binds .any e=true->e.on<j) {K:S->Prop}:
 ∀ (n k:Nat) (L:List qq) (listed:Array Bool) (σ:S),k+n=ops.size->listed.size=ops.size->(∀ j,listed.getD j false=decide (j<k))->sL anc listed->
   Ga P Γ ops anc k (ops.toList.drop k) L σ K->qt P Γ ops anc L K n listed σ
 | 0,k,L,listed,σ,hk,hs,hl,bR,h=>by
   have :ops.toList.drop k=[]:=List.drop_eq_nil_of_le (by simp;omega)
   rw[this]at h
   refine⟨?_,h⟩
   refine List.eq_nil_iff_forall_not_mem.2 fun j hj=>?_
   obtain⟨h1,o,ho,_⟩:=mem_ready.1 hj
   have ae:j<ops.size:=(Array.getElem?_eq_some_iff.1 ho).1
   have :=hl j
   simp only[Array.getD_eq_getD_getElem?,Array.getElem?_eq_getElem (show j<listed.size by omega),Option.getD_some]at h1 this
   rw[h1]at this
   simp at this
   omega
 |n+1,k,L,listed,σ,hk,hs,hl,bR,h=>by
  have ae:k<ops.size:=by omega
  have hd:ops.toList.drop k=ops[k]::ops.toList.drop (k+1):=by
   rw[List.drop_eq_getElem_cons (by simpa using ae)];simp
  rw[hd]at h
  obtain⟨h1,h2,h3⟩:=h
  have aa:ops[k]?=some ops[k]:=Array.getElem?_eq_getElem ae
  have t':∀ j,j<listed.size->listed.getD j true=listed.getD j false:=by
   intro j hj
   simp only[Array.getD_eq_getD_getElem?,Array.getElem?_eq_getElem hj,Option.getD_some]
  have hr:k∈Region.ready .any ops listed:=by
   refine mem_ready.2 ⟨?_,_,aa,fun e he hb=>?_⟩
   ·rw[t' k (by omega),hl k];simp
   ·rw[hl];simpa using zO k _ aa e he hb
  refine pull hN hA aa n listed σ bR (fun j oj hj ar vL dJ=>?_) hr h1 h2 ?_
  ·have DS:j<ops.size:=(Array.getElem?_eq_some_iff.1 hj).1
   rw[t' j (by omega),hl j]at vL
   simp at vL
   exact kN k j _ oj aa hj (by omega) dJ
  ·refine HG hN hA kN zO n (k+1) _ _ _ (by omega) (by simpa using hs) (fun j=>?_) (bR.set hA hr) h3
   by_cases wg:k=j
   ·subst wg
    simp[show k<listed.size by omega]
   ·rw[getD_set_ne false wg,hl j]
    refine decide_eq_decide.2 ?_
    omega
def uY(ops:Array Oper)(az:List (List Nat)):Bool:=
 (List.range ops.size).all fun j=>match ops[j]? with
   |none=>true
   |some oj=>(oj.after.toList.all fun e=>!Region.binds .any e||decide (e.on<j))&&
      ((az.getD j []).all fun i=>oj.after.toList.any fun e=>Region.binds .any e&&(e.on==i||(az.getD e.on []).contains i))&&
      (List.range j).all fun i=>(az.getD j []).contains i||(match ops[i]? with | some oi=>oi.apart ops oj | none=>true)
theorem Fm(hΓ:∀ f s,Γ f=some s->al P f s)(hP:P.follows .mixedOrders=true){id:Nat}{l:List Oper}{σ:S}{K:Exit->S->Prop}(az:List (List Nat))
 (hs:uY l.toArray az=true) (h:∀ K':S->Prop,(∀ σ',K .normal σ'->K' σ')->qp P Γ l.toArray 0 az l [] σ K'):CW P (.region id l.toArray true) σ K:=by
 intro G φ m a w hC
 have jD:∀ j oj,l.toArray[j]?=some oj->(oj.after.toList.all fun e=>!Region.binds .any e||decide (e.on<j))=true/\
       ((az.getD j []).all fun i=>oj.after.toList.any fun e=>Region.binds .any e&&(e.on==i||(az.getD e.on []).contains i))=true/\
       ((List.range j).all fun i=>(az.getD j []).contains i||(match l.toArray[i]? with | some oi=>oi.apart l.toArray oj | none=>true))=true:=by
  intro j oj hj
  have :=List.all_eq_true.1 hs j (List.mem_range.2 (Array.getElem?_eq_some_iff.1 hj).1)
  simp only[hj,Bool.and_eq_true]at this
  exact⟨this.1.1,this.1.2,this.2⟩
 have hN:∀ f s,Γ f=some s->s.Near:=fun f s h=>(hΓ f s h).near
 have hA:xm l.toArray (fun j=>az.getD j []):=by
  intro j o ho i hi
  have :=List.all_eq_true.1 (jD j o ho).2.1 i hi
  obtain⟨e,he,h1⟩:=List.any_eq_true.1 this
  simp only[Bool.and_eq_true,Bool.or_eq_true,beq_iff_eq,List.contains_iff_mem]at h1
  exact⟨e,by simpa using he,h1.1,h1.2⟩
 have kN:∀ i j oi oj,l.toArray[i]?=some oi->l.toArray[j]?=some oj->i<j->i∉az.getD j []->oi.apart l.toArray oj=true:=by
  intro i j oi oj h1 h2 h3 h4
  have :=List.all_eq_true.1 (jD j oj h2).2.2 i (List.mem_range.2 h3)
  simp only[h1,Bool.or_eq_true]at this
  rcases this with k | k
  ·exact(h4 (by simpa using k)).elim
  ·exact k
 have zO:∀ j o,l.toArray[j]?=some o->∀ e∈o.after,Region.binds .any e=true->e.on<j:=by
  intro j o ho e he hb
  have :=List.all_eq_true.1 (jD j o ho).1 e (by simpa using he)
  simpa[hb]using this
 refine wpIn_region_any hP ?_
 obtain⟨_,hD⟩:=HE (anc:=fun j=>az.getD j []) l 0 az [] σ (fun k=>by simp) (h (K .normal) fun _ h=>h)
 refine Ou hΓ (K:=K .normal) _ _ (hC.drawn _) (HG hN hA kN zO l.toArray.size 0 [] _ σ (by simp) (by simp) (fun j=>?_) (fun j hj=>?_) (by simpa using hD)) fun a' w' φ' m' σ' bW hK=>⟨φ',m',σ',bW,hK⟩
 ·by_cases hj:j<l.length<;>simp[hj]
 ·by_cases eA:j<l.length<;>simp[eA]at hj
theorem aaL(hΓ:∀ f s,Γ f=some s->al P f s)(hP:P.follows .mixedOrders=true){id:Nat}{l:List Oper}{c:Code}{r:List Code}{σ:S}{K:Exit->S->Prop}(az:List (List Nat))(ks:List Nat)(ns:List Name)
 (hs:uY l.toArray az=true) (h:∀ K':S->Prop,(∀ σ',fE ks ns σ'->CL P (c::r) (fN ks ns σ') K->K' σ')->qp P Γ l.toArray 0 az l [] σ K'):CL P (.region id l.toArray true::c::r) σ K:=
 Fm hΓ hP az hs fun K' hK=>h K' fun σ' hc hy=>hK σ' (Fl ks ns hc hy)
theorem km(hΓ:∀ f s,Γ f=some s->al P f s)(hP:P.follows .mixedOrders=true){id:Nat}{l:List Oper}{σ:S}{K:Exit->S->Prop}(az:List (List Nat))
 (hs:uY l.toArray az=true) (h:∀ K':S->Prop,(∀ σ',K .normal σ'->K' σ')->qp P Γ l.toArray 0 az l [] σ K'):CL P [.region id l.toArray true] σ K:=
 Fm hΓ hP az hs fun K' hK=>h K' fun σ' hc=>hK σ' hc
end
attribute [go_sem] dG tK j5 uF Nat.beq_eq_true_eq qp bJ bn aK fp dA fS eo muts O.mut PSpec.toSpec List.headD_cons List.headD_nil List.tail_cons List.tail_nil
mutual
def D.ren(f:Name->Name):D->D
 | .v x=>.v x
 | .nilsl=>.nilsl
 | .nilmap=>.nilmap
 | .ref nm o=>.ref (f nm) o
 | .msl nm k=>.msl (f nm) k
 | .aref nm k i o=>.aref (f nm) k i o
 | .map nm=>.map (f nm)
 | .yld nm=>.yld (f nm)
 | .clo fn a b=>.clo fn (D.renL f a) (D.renL f b)
 | .agg l=>.agg (D.renL f l)
 | .tup l=>.tup (D.renL f l)
 | .any=>.any
def D.renL(f:Name->Name):List D->List D
 |[]=>[]
 |d::r=>D.ren f d::D.renL f r
end
def E.ren(f:Name->Name)(e:E):E:=⟨e.c,e.d.ren f⟩
def O.ren(f:Name->Name):O->O
 | .box cs=>.box (D.renL f cs)
 | .loop env ps asg body st bm=>.loop (env.map (E.ren f)) ps asg body st bm
 | .arr sz l=>.arr sz l
 | .map kd es=>.map kd es
 | .fbox cs=>.fbox cs
 | .farr sz l=>.farr sz l
 | .dead sz n=>.dead sz n
theorem gP(f:Name->Name):∀ l:List D,D.renL f l=l.map (D.ren f)
 |[]=>rfl
 |d::r=>by simp only[D.renL,List.map_cons,gP f r]
theorem D.one_ren(f:Name->Name)(d:D):(d.ren f).one=d.one:=by cases d<;>rfl
theorem O.len_ren(f:Name->Name)(o:O):(o.ren f).len?=o.len?:=by cases o<;>rfl
theorem O.sz_ren(f:Name->Name)(o:O):(o.ren f).sz=o.sz:=by cases o<;>rfl
theorem O.mut_ren(f:Name->Name)(o:O):(o.ren f).mut=o.mut:=by cases o<;>rfl
def uS(f:Name->Name)(φ φ':Name->Loc)(obj obj':Name->Option O)(dom:Name->Bool):Prop:=
 ∀ nm o,dom nm=true->obj nm=some o->∃ o',obj' (f nm)=some o'/\
   ((o'.len?=o.len?/\φ' (f nm)=φ nm/\o'.sz=o.sz)\/(∃ n n',o.len?=some n/\o'.len?=some n'/\n<n'))
theorem aw.renx{f:Name->Name}{φ φ':Name->Loc}{obj obj':Name->Option O}{m m':Mem}{dom:Name->Bool}(hm:Mem.le m m')(hx:uS f φ φ' obj obj' dom){d:D}{u:Value}
 (h:aw φ obj m d u) (hc:D.clos dom d=true):aw φ' obj' m' (d.ren f) u:=by
 induction h with
 |any u=>exact .any u
 |v x u h=>exact .v x u (h.mono hm)
 |nilsl a=>exact .nilsl a
 |nilmap=>exact .nilmap
 |ref nm off h=>
  obtain⟨o,ho,hl⟩:=h
  obtain⟨o',cH,h⟩:=hx nm o hc ho
  rcases h with⟨h1,h2,h3⟩ | ⟨n,n',h1,h2,h3⟩
  ·rw[<-h2];exact .ref (f nm) off ⟨o',cH,h1.trans hl⟩
  ·rw[hl]at h1;cases h1
 |map nm h=>
  obtain⟨o,ho,hl⟩:=h
  obtain⟨o',cH,h⟩:=hx nm o hc ho
  rcases h with⟨h1,h2,h3⟩ | ⟨n,n',h1,h2,h3⟩
  ·rw[<-h2];exact .map (f nm) ⟨o',cH,h1.trans hl⟩
  ·rw[hl]at h1;cases h1
 |yld nm h=>
  obtain⟨o,ho,hl⟩:=h
  obtain⟨o',cH,h⟩:=hx nm o hc ho
  rcases h with⟨h1,h2,h3⟩ | ⟨n,n',h1,h2,h3⟩
  ·rw[<-h2];exact .yld (f nm) ⟨o',cH,h1.trans hl⟩
  ·rw[hl]at h1;cases h1
 |msl nm k u h hu=>
  obtain⟨o,n,ho,hl,hk,he⟩:=h
  obtain⟨o',cH,h⟩:=hx nm o hc ho
  rcases h with⟨h1,h2,h3⟩ | ⟨n1,n',h1,h2,h3⟩
  ·exact .msl (f nm) k u ⟨o',n,cH,h1.trans hl,hk,fun e=>by rw[h2];exact he e⟩ hu
  ·rw[hl]at h1;cases h1
   exact .msl (f nm) k u ⟨o',n',cH,h2,by omega,fun e=>by omega⟩ hu
 |aref nm k i off u h hu=>
  obtain⟨o,n,ho,hl,hk,he⟩:=h
  obtain⟨o',cH,h⟩:=hx nm o hc ho
  rcases h with⟨h1,h2,h3⟩ | ⟨n1,n',h1,h2,h3⟩
  ·exact .aref (f nm) k i off u ⟨o',n,cH,h1.trans hl,hk,fun e=>by rw[h2,h3];exact he e⟩ hu
  ·rw[hl]at h1;cases h1
   exact .aref (f nm) k i off u ⟨o',n',cH,h2,by omega,fun e=>by omega⟩ hu
 |clo fn fs cs us vs h1 h2 bU dv oq om=>
  simp only[D.clos,Bool.and_eq_true]at hc
  simp only[D.ren,gP]
  refine .clo fn _ _ us vs (by simpa using h1) (by simpa using h2) (fun i a b=>?_) (fun i a b=>?_)
  ·simp only[List.getElem_map];exact oq i (by simpa using a) b (ic _ hc.1)
  ·simp only[List.getElem_map];exact om i (by simpa using a) b (ic _ hc.2)
 |agg l us h ho hr ih=>
  simp only[D.clos]at hc
  simp only[D.ren,gP]
  refine .agg _ us (by simpa using h) (fun d hd=>?_) (fun i a b=>?_)
  ·obtain⟨d',h1,rfl⟩:=List.mem_map.1 hd
   rw[D.one_ren];exact ho d' h1
  ·simp only[List.getElem_map];exact ih i (by simpa using a) b (ic _ hc)
 |tup l us h hr ih=>
  simp only[D.clos]at hc
  simp only[D.ren,gP]
  refine .tup _ us (by simpa using h) (fun i a b=>?_)
  simp only[List.getElem_map];exact ih i (by simpa using a) b (ic _ hc)
theorem bS.renx{f:Name->Name}{φ φ':Name->Loc}{obj obj':Name->Option O}{m m':Mem}{dom:Name->Bool}(hm:Mem.le m m')(hx:uS f φ φ' obj obj' dom){e:E}{u:Value}
 (h:bS φ obj m e u) (hc:D.clos dom e.d=true):bS φ' obj' m' (e.ren f) u:=by
 unfold bS at *
 have e0:(E.ren f e).c=e.c:=rfl
 have e1:(E.ren f e).d=e.d.ren f:=rfl
 rw[e0,e1]
 by_cases hh:e.c=true
 ·rw[if_pos hh]at h |-;exact h.renx hm hx hc
 ·rw[if_neg hh]at h |-;exact h
theorem gi.ren{f:Name->Name}{φ φ':Name->Loc}{obj obj':Name->Option O}{m m':Mem}{dom:Name->Bool}{o:O}{p:Loc}{w w':World}(hm:Mem.le m m')(hx:uS f φ φ' obj obj' dom)
 (hc:O.clos dom o=true) (hw:o.mut=true->p.nul=false->w'.heap[p.blk]?=w.heap[p.blk]?) (h:gi φ obj m o p w):gi φ' obj' m' (o.ren f) p w':=by
 cases o with
 |box cs=>
  obtain⟨h0,h1,eJ,us,T,g,h2,h3,h4,h5⟩:=h
  simp only[O.clos]at hc
  simp only[O.ren,gi,gP,List.length_map,List.getElem_map,List.mem_map,forall_exists_index,and_imp,forall_apply_eq_imp_iff₂,D.one_ren]
  exact⟨h0,h1,eJ,us,T,g,by rw[hw rfl h1];exact h2,h3,h4,fun i a b=>(h5 i a b).renx hm hx (ic a hc)⟩
 |arr sz l=>
  rcases h with⟨h,h'⟩ | ⟨h0,h1,h2,h3,h4,us,T,f,h5,h6,h7,h8⟩
  ·exact .inl ⟨h,h'⟩
  ·exact .inr ⟨h0,h1,h2,h3,h4,us,T,f,by rw[hw rfl h0];exact h5,h6,h7,fun i j a b=>let ⟨c,x,y⟩:=h8 i j a b;⟨c,x,y.mono hm⟩⟩
 |map kd es=>
  obtain⟨h0,h1,eJ,us,T,h2,h3,h4⟩:=h
  exact⟨h0,h1,eJ,us,T,by rw[hw rfl h1];exact h2,h3,fun i a b=>⟨(h4 i a b).1.mono hm,(h4 i a b).2.mono hm⟩⟩
 |fbox cs=>exact⟨h.1,fun i a=>let ⟨c,x,y⟩:=h.2 i a;⟨c,hm _ _ _ x,y.mono hm⟩⟩
 |farr sz l=>
  rcases h with⟨h,h'⟩ | ⟨h0,h1,h2,h3,h4⟩
  ·exact .inl ⟨h,h'⟩
  ·exact .inr ⟨h0,h1,h2,h3,fun i j a b=>let ⟨c,x,y⟩:=h4 i j a b;⟨c,hm _ _ _ x,y.mono hm⟩⟩
 |dead=>exact h
 |loop env ps asg body st bm=>
  obtain⟨h0,h1,r,h2,h3,h4,h5,h6,h7,h8,h9⟩:=h
  simp only[O.clos]at hc
  simp only[O.ren,gi,List.length_map,List.getElem_map]
  refine⟨h0,h1,r,by rw[hw rfl h1];exact h2,h3,h4,h5,h6,h7,h8,fun i a=>(h9 i a).renx hm hx ?_⟩
  have :=ic (l:=env.map (·.d)) (i:=i) (by simpa using a) hc
  simpa using this
mutual
theorem D.ren_id{f g:Name->Name}{dom:Name->Bool}(jG:∀ nm,dom nm=true->g (f nm)=nm):∀ d:D,D.clos dom d=true->(d.ren f).ren g=d
 | .v _,_=>rfl
 | .nilsl,_=>rfl
 | .nilmap,_=>rfl
 | .any,_=>rfl
 | .ref nm _,h=>by simp only[D.ren];rw[jG nm h]
 | .msl nm _,h=>by simp only[D.ren];rw[jG nm h]
 | .aref nm _ _ _,h=>by simp only[D.ren];rw[jG nm h]
 | .map nm,h=>by simp only[D.ren];rw[jG nm h]
 | .yld nm,h=>by simp only[D.ren];rw[jG nm h]
 | .clo _ a b,h=>by
   simp only[D.clos,Bool.and_eq_true]at h
   simp only[D.ren];rw[D.renL_id jG a h.1,D.renL_id jG b h.2]
 | .agg l,h=>by simp only[D.clos]at h;simp only[D.ren];rw[D.renL_id jG l h]
 | .tup l,h=>by simp only[D.clos]at h;simp only[D.ren];rw[D.renL_id jG l h]
theorem D.renL_id{f g:Name->Name}{dom:Name->Bool}(jG:∀ nm,dom nm=true->g (f nm)=nm):∀ l:List D,D.closL dom l=true->D.renL g (D.renL f l)=l
 |[],_=>rfl
 |d::r,h=>by
  simp only[D.closL,Bool.and_eq_true]at h
  simp only[D.renL];rw[D.ren_id jG d h.1,D.renL_id jG r h.2]
end
theorem O.ren_id{f g:Name->Name}{dom:Name->Bool}(jG:∀ nm,dom nm=true->g (f nm)=nm)(o:O)(h:O.clos dom o=true):(o.ren f).ren g=o:=by
 cases o with
 |box cs=>simp only[O.clos]at h;simp only[O.ren];rw[D.renL_id jG cs h]
 |loop env ps asg body st bm=>
  simp only[O.clos]at h
  simp only[O.ren,List.map_map,O.loop.injEq,and_true]
  refine List.ext_getElem (by simp) fun i h1 h2=>?_
  have :=ic (l:=env.map (·.d)) (i:=i) (by simpa using h2) h
  simp only[List.getElem_map,Function.comp_apply,E.ren]at this |-
  rw[D.ren_id jG _ this]
 |_=>rfl
mutual
def vt:D->List Name
 | .ref nm _=>[nm]
 | .msl nm _=>[nm]
 | .aref nm _ _ _=>[nm]
 | .map nm=>[nm]
 | .yld nm=>[nm]
 | .clo _ a b=>dH a++dH b
 | .agg l=>dH l
 | .tup l=>dH l
 |_=>[]
def dH:List D->List Name
 |[]=>[]
 |d::r=>vt d++dH r
end
def mZ:O->List Name
 | .box cs=>dH cs
 | .loop env _ _ _ _ _=>dH (env.map (·.d))
 |_=>[]
def cE(L:List Name)(nm:Name):Bool:=L.any fun x=>x==nm
def dF(obj:Name->Option O):Nat->List Name->List Name->List Name
 | 0,_,acc=>acc
 |_+1,[],acc=>acc
 |n+1,x::todo,acc=>if cE acc x=true then dF obj n todo acc else dF obj n ((match obj x with | some o=>mZ o | none=>[])++todo) (acc++[x])
def reach(obj:Name->Option O)(ds:List D):List Name:=dF obj 3000 (dH ds) []
theorem gT{L:List Name}{nm:Name}:cE L nm=true↔nm∈L:=by
 simp only[cE,List.any_eq_true,beq_iff_eq]
 exact⟨fun ⟨x,h,e⟩=>e▸h,fun h=>⟨nm,h,rfl⟩⟩
theorem BG{obj:Name->Option O}:∀ (n:Nat) (todo acc:List Name),∀ nm∈acc,nm∈dF obj n todo acc
 | 0,_,_,_,h=>h
 |_+1,[],_,_,h=>h
 |n+1,x::todo,acc,nm,h=>by
  simp only[dF]
  split
  ·exact BG n _ _ nm h
  ·exact BG n _ _ nm (by simp[h])
theorem xU{obj:Name->Option O}:∀ (n:Nat) (todo acc:List Name),acc.Nodup->(dF obj n todo acc).Nodup
 | 0,_,_,h=>h
 |_+1,[],_,h=>h
 |n+1,x::todo,acc,h=>by
  simp only[dF]
  split
  ·exact xU n _ _ h
  ·rename_i hx
   refine xU n _ _ (List.nodup_append.2 ⟨h,by simp,fun a ha b hb=>?_⟩)
   simp only[List.mem_singleton]at hb
   subst hb
   rintro rfl
   exact hx (gT.2 ha)
theorem BF{obj obj2:Name->Option O}:∀ (n:Nat) (todo acc:List Name),bq (dF obj n todo acc) obj obj2->dF obj2 n todo acc=dF obj n todo acc
 | 0,_,_,_=>rfl
 |_+1,[],_,_=>rfl
 |n+1,x::todo,acc,h=>by
  simp only[dF]at h |-
  split
  ·rename_i hx;rw[if_pos hx]at h;exact BF n _ _ h
  ·rename_i hx
   rw[if_neg hx]at h
   have a7:obj2 x=obj x:=h x (BG n _ _ x (by simp))
   rw[a7]
   exact BF n _ _ h
def idx:List Name->Name->Nat
 |[],_=>0
 |x::r,nm=>if x=nm then 0 else idx r nm+1
def cin(L:List Name)(nm:Name):Name:=[idx L nm,1]
def cout(L:List Name)(t:Name):Name->Name
 |[i,1]=>L.getD i []
 |x=>x++t
def cD:Name->Bool
 |[_,1]=>true
 |_=>false
theorem tQ:∀ {L:List Name} {nm:Name},nm∈L->∃ h:idx L nm<L.length,L[idx L nm]=nm
 |x::r,nm,h=>by
  simp only[idx]
  by_cases e:x=nm
  ·subst e;simp
  ·simp only[if_neg e]
   obtain⟨h1,h2⟩:=tQ (L:=r) (nm:=nm) (by rcases List.mem_cons.1 h with h | h; · exact(e h.symm).elim
                                         ·exact h)
   exact⟨by simp;omega,by simpa using h2⟩
theorem aat{L:List Name}{t nm:Name}(h:nm∈L):cout L t (cin L nm)=nm:=by
 obtain⟨h1,h2⟩:=tQ h
 show L.getD (idx L nm) []=nm
 rw[List.getD_eq_getElem?_getD,List.getElem?_eq_getElem h1];simpa using h2
theorem uL{L:List Name}{t x:Name}(h:cD x=false):cout L t x=x++t:=by
 unfold cout
 split
 ·simp[cD]at h
 ·rfl
theorem vC{x:Name}:cD x=true↔∃ i,x=[i,1]:=by
 constructor
 ·intro h
  unfold cD at h
  split at h
  ·exact⟨_,rfl⟩
  ·cases h
 ·rintro⟨i,rfl⟩;rfl
theorem H9(i:Nat):own [0] [i,1]=false:=by simp[own]
theorem CV{L:List Name}(hn:L.Nodup){i:Nat}(h:i<L.length):idx L L[i]=i:=by
 obtain⟨h1,h2⟩:=tQ (List.getElem_mem h)
 exact(List.getElem_inj hn).1 h2
structure Out where
 upd:List (Nat×O)
 new:List (Name×O)
 d:D
 deriving Inhabited
def ew:List (Nat×O)->Nat->O->O
 |[],_,o=>o
 |(j,o')::r,i,o=>ew r i (if j=i then o' else o)
def b9(L:List Name)(t:Name):List (Nat×O)->(Name->Option O)->(Name->Option O)
 |[],obj=>obj
 |(i,o)::r,obj=>b9 L t r (upd obj (L.getD i []) (some (o.ren (cout L t))))
def cX(L:List Name)(t:Name):List (Name×O)->(Name->Option O)->(Name->Option O)
 |[],obj=>obj
 |(x,o)::r,obj=>cX L t r (upd obj (x++t) (some (o.ren (cout L t))))
theorem HN{L:List Name}{t:Name}(hn:L.Nodup):∀ (l:List (Nat×O)) (obj:Name->Option O) {i:Nat} (h:i<L.length) (o:O) (_:(l.all fun x=>decide (x.1<L.length))=true) (_:obj L[i]=some (o.ren (cout L t))),
 b9 L t l obj L[i]=some ((ew l i o).ren (cout L t))
 |[],obj,i,h,o,_,ho=>ho
 |(j,o')::r,obj,i,h,o,hl,ho=>by
  simp only[List.all_cons,Bool.and_eq_true,decide_eq_true_eq]at hl
  simp only[b9,ew]
  refine HN hn r _ h _ hl.2 ?_
  have e:L.getD j []=L[j]:=by rw[List.getD_eq_getElem?_getD,List.getElem?_eq_getElem hl.1];rfl
  rw[e]
  by_cases hj:j=i
  ·subst hj;rw[aH,if_pos rfl]
  ·rw[aN _ _ _ (fun e'=>hj ((List.getElem_inj hn).1 e').symm),if_neg hj];exact ho
theorem BM{L:List Name}{t:Name}:∀ (l:List (Nat×O)) (obj:Name->Option O) {nm:Name} (_:(l.all fun x=>decide (x.1<L.length))=true) (_:nm∉L),b9 L t l obj nm=obj nm
 |[],_,_,_,_=>rfl
 |(j,o')::r,obj,nm,hl,hn=>by
  simp only[List.all_cons,Bool.and_eq_true,decide_eq_true_eq]at hl
  simp only[b9]
  rw[BM r _ hl.2 hn]
  refine aN _ _ _ ?_
  rintro rfl
  refine hn ?_
  rw[List.getD_eq_getElem?_getD,List.getElem?_eq_getElem hl.1];simp
theorem vi{L:List Name}{t:Name}:∀ (l:List (Name×O)) (obj:Name->Option O) {nm:Name} (_:∀ x∈l,nm≠x.1++t),cX L t l obj nm=obj nm
 |[],_,_,_=>rfl
 |(x,o')::r,obj,nm,hl=>by
  simp only[cX]
  rw[vi r _ fun y hy=>hl y (by simp[hy])]
  exact aN _ _ _ (hl (x,o') (by simp))
theorem HO{L:List Name}{t:Name}:∀ (l:List (Name×O)) (obj:Name->Option O) (_:(l.map (·.1)).Nodup) {x:Name} {o:O} (_:(x,o)∈l),cX L t l obj (x++t)=some (o.ren (cout L t))
 |(y,o')::r,obj,hn,x,o,h=>by
  simp only[List.map_cons,List.nodup_cons]at hn
  simp only[cX]
  rcases List.mem_cons.1 h with h | h
  ·cases h
   rw[vi r _ fun z hz e=>hn.1 (by
    have :_=z.1:=List.append_cancel_right e
    rw[this];exact List.mem_map_of_mem hz)]
   exact aH _ _ _
  ·exact HO r _ hn.2 h
def dd(n:Nat)(new:List (Name×O)):Name->Bool
 |[i,1]=>decide (i<n)
 |x=>new.any fun y=>y.1==x
section
variable {G:Ghost} {φ:Name->Loc} {m:Mem} {σ:S} {a:Act} {w:World}
def cl(L:List Name)(obj:Name->Option O)(nm:Name):O:=match obj nm with
 |some o=>o.ren (cin L)
 |none=>.fbox []
def shut(obj:Name->Option O)(L:List Name):Bool:=L.all fun nm=>match obj nm with
 |some o=>O.clos (cE L) o
 |none=>false
def js(L:List Name)(obj:Name->Option O):Name->Option O
 |[i,1]=>if i<L.length then some (cl L obj (L.getD i []))else none
 |_=>none
def lS(L:List Name)(φ:Name->Loc):Name->Loc
 |[i,1]=>φ (L.getD i [])
 |_=>⟨0,0,0,true,none⟩
def nO(L:List Name)(φ:Name->Loc)(obj:Name->Option O)(b:Nat):Prop:=∃ nm∈L,holds φ obj nm/\(φ nm).blk=b
theorem u9{obj:Name->Option O}{L:List Name}(h:shut obj L=true){nm:Name}(hn:nm∈L):∃ o,obj nm=some o/\O.clos (cE L) o=true:=by
 have :=List.all_eq_true.1 h nm hn
 cases ho:obj nm with
 |none=>simp[ho]at this
 |some o=>simp only[ho]at this;exact⟨o,rfl,this⟩
theorem kS{L:List Name}{i:Nat}(h:i<L.length):L.getD i []=L[i]:=by rw[List.getD_eq_getElem?_getD,List.getElem?_eq_getElem h];rfl
theorem Tt{L:List Name}{obj:Name->Option O}{nm:Name}(hn:nm∈L):js L obj (cin L nm)=some (cl L obj nm):=by
 obtain⟨h1,h2⟩:=tQ hn
 show (if idx L nm<L.length then some (cl L obj (L.getD (idx L nm) []))else none)=_
 rw[if_pos h1,kS h1,h2]
theorem Px{L:List Name}{φ:Name->Loc}{nm:Name}(hn:nm∈L):lS L φ (cin L nm)=φ nm:=by
 obtain⟨h1,h2⟩:=tQ hn
 show φ (L.getD (idx L nm) [])=_
 rw[kS h1,h2]
theorem xT{L:List Name}{obj:Name->Option O}:uS (cin L) φ (lS L φ) obj (js L obj) (cE L):=by
 intro nm o hd ho
 have hn:=gT.1 hd
 refine⟨cl L obj nm,Tt hn,.inl ⟨?_,Px hn,?_⟩⟩
 ·simp only[cl,ho];exact O.len_ren _ _
 ·simp only[cl,ho];exact O.sz_ren _ _
theorem B9{L:List Name}{obj:Name->Option O}{x:Name}{o:O}(h:js L obj x=some o):∃ (i:Nat) (hi:i<L.length),x=[i,1]/\o=cl L obj L[i]:=by
 unfold js at h
 split at h
 ·rename_i i
  split at h
  ·rename_i hi
   cases h
   exact⟨i,hi,rfl,by rw[kS hi]⟩
  ·cases h
 ·cases h
def uR(w:World)(L:List Name)(φ:Name->Loc)(obj:Name->Option O):Prop:=jQ w/\∀ q∈xC,¬ nO L φ obj q.1
def sg(w:World)(m:Mem)(L:List Name)(φ:Name->Loc)(obj:Name->Option O)(rd:Option Nat)(h:∀ l,rd=some l->¬ nO L φ obj l/\∃ r,w.heap[l]?=some (.loop r))(ht:uR w L φ obj):Ghost:=
 ⟨w,m,nO L φ obj,rd,lS L φ,js L obj,h,ht⟩
theorem xB(hC:aG G φ m σ a w)(L:List Name):uR w L φ σ.obj:=by
 refine⟨hC.fr.tab,fun q hq=>?_⟩
 rintro⟨nm,_,hh,e⟩
 obtain⟨T,f,h1⟩:=G.tab.1 q hq
 have h2:=(Array.getElem?_eq_some_iff.1 h1).1
 rcases hC.own nm hh with h3 | h3
 ·omega
 ·rw[e]at h3;exact G.tab.2 q hq h3
theorem zh{L:List Name}{obj:Name->Option O}(hL:shut obj L=true){x:Name}(h:holds (lS L φ) (js L obj) x):∃ (i:Nat) (hi:i<L.length),x=[i,1]/\holds φ obj L[i]:=by
 obtain⟨o,h1,h2,h3⟩:=h
 obtain⟨i,hi,rfl,rfl⟩:=B9 h1
 obtain⟨o',h4,_⟩:=u9 hL (List.getElem_mem hi)
 refine⟨i,hi,rfl,o',h4,?_,?_⟩
 ·simp only[cl,h4,O.mut_ren]at h2;exact h2
 ·have:lS L φ [i,1]=φ L[i]:=by show φ (L.getD i [])=_;rw[kS hi]
  rw[this]at h3;exact h3
theorem Md(hC:aG G φ m σ a w){L:List Name}(hn:L.Nodup)(hL:shut σ.obj L=true){rd:Option Nat}(mb:∀ l,rd=some l->¬ nO L φ σ.obj l/\∃ r,w.heap[l]?=some (.loop r))
 {nt b0:Nat} {env:Nat->E} {tmps:Array Value} (hs:tmps.size=nt) (he:∀ t,bS (lS L φ) (js L σ.obj) m (env t) (tmps.getD t undef)):
 aG (sg w m L φ σ.obj rd mb (xB hC L)) (lS L φ) m ⟨nt,env,js L σ.obj,[0],b0⟩ { tmps:=tmps,defers:=[] } w:=by
 have hφ:∀ (i:Nat) (hi:i<L.length),lS L φ [i,1]=φ L[i]:=fun i hi=>by show φ (L.getD i [])=_;rw[kS hi]
 constructor
 ·exact he
 ·exact hs
 ·exact⟨[],rfl,by simp,by simp⟩
 ·intro x o hx
  obtain⟨i,hi,rfl,rfl⟩:=B9 hx
  obtain⟨o',h4,h5⟩:=u9 hL (List.getElem_mem hi)
  rw[hφ i hi]
  simp only[cl,h4]
  exact(hC.objs _ _ h4).ren (Mem.le_refl m) xT h5 fun _ _=>rfl
 ·exact hC.mem
 ·intro x hx off
  obtain⟨i,hi,rfl,h⟩:=zh hL hx
  rw[hφ i hi]
  exact hC.apart _ h off
 ·intro x y hx hy e
  obtain⟨i,hi,rfl,h⟩:=zh hL hx
  obtain⟨j,hj,rfl,h'⟩:=zh hL hy
  rw[hφ i hi,hφ j hj]at e
  have :=(List.getElem_inj hn).1 (hC.inj _ _ h h' e)
  rw[this]
 ·intro x hx
  obtain⟨i,hi,rfl,h⟩:=zh hL hx
  rw[hφ i hi]
  exact .inr ⟨_,List.getElem_mem hi,h,rfl⟩
 ·exact⟨rfl,rfl,rfl,Nat.le_refl _,fun _ _ _=>rfl⟩
 ·intro b off v h;exact .inl h
 ·refine⟨fun x o hx=>?_,Ext.refl _ _⟩
  obtain⟨i,hi,rfl,_⟩:=B9 hx
  exact H9 i
structure Pw (σ:S) (os:List O) (o:Out):Prop where
 objs:∀ i (h:i<os.length),σ.obj [i,1]=some (ew o.upd i os[i])
 news:∀ x∈o.new,σ.obj x.1=some x.2
 cd:D.clos (dd os.length o.new) o.d=true
 cu:(o.upd.all fun x=>O.clos (dd os.length o.new) x.2&&decide (x.1<os.length))=true
 cn:(o.new.all fun x=>O.clos (dd os.length o.new) x.2&&!cD x.1)=true
 nd:(o.new.map (·.1)).Nodup
def fresh(obj:Name->Option O)(t:Name)(new:List (Name×O)):Bool:=new.all fun x=>(obj (x.1++t)).isNone
theorem ZW{n:Nat}{new:List (Name×O)}{x:Name×O}(h:cD x.1=false)(hx:x∈new):dd n new x.1=true:=by
 have key:∀ nm:Name,cD nm=false->dd n new nm=new.any fun y=>y.1==nm:=by
  intro nm h
  unfold dd
  split
  ·simp[cD]at h
  ·rfl
 rw[key _ h]
 exact List.any_eq_true.2 ⟨x,hx,by simp⟩
theorem IZ{dom:Name->Bool}:∀ (l:List (Nat×O)) (i:Nat) (o:O),O.clos dom o=true->(∀ x∈l,O.clos dom x.2=true)->O.clos dom (ew l i o)=true
 |[],_,_,h,_=>h
 |(j,o')::r,i,o,h,hl=>by
  simp only[ew]
  refine IZ r i _ ?_ fun x hx=>hl x (by simp[hx])
  split
  ·exact hl (j,o') (by simp)
  ·exact h
mutual
theorem clos_ren{f:Name->Name}{dom iH:Name->Bool}(hf:∀ nm,dom nm=true->iH (f nm)=true):∀ d:D,D.clos dom d=true->D.clos iH (d.ren f)=true
 | .v _,_=>by simp only[D.ren,D.clos]
 | .nilsl,_=>by simp only[D.ren,D.clos]
 | .nilmap,_=>by simp only[D.ren,D.clos]
 | .any,_=>by simp only[D.ren,D.clos]
 | .ref nm _,h=>hf nm h
 | .msl nm _,h=>hf nm h
 | .aref nm _ _ _,h=>hf nm h
 | .map nm,h=>hf nm h
 | .yld nm,h=>hf nm h
 | .clo _ a b,h=>by
   simp only[D.clos,Bool.and_eq_true]at h
   simp only[D.ren,D.clos,Bool.and_eq_true]
   exact⟨sw hf a h.1,sw hf b h.2⟩
 | .agg l,h=>by simp only[D.clos]at h;simp only[D.ren,D.clos];exact sw hf l h
 | .tup l,h=>by simp only[D.clos]at h;simp only[D.ren,D.clos];exact sw hf l h
theorem sw{f:Name->Name}{dom iH:Name->Bool}(hf:∀ nm,dom nm=true->iH (f nm)=true):∀ l:List D,D.closL dom l=true->D.closL iH (D.renL f l)=true
 |[],_=>by simp only[D.renL,D.closL]
 |d::r,h=>by
  simp only[D.closL,Bool.and_eq_true]at h
  simp only[D.renL,D.closL,Bool.and_eq_true]
  exact⟨clos_ren hf d h.1,sw hf r h.2⟩
end
theorem O.clos_ren{f:Name->Name}{dom iH:Name->Bool}(hf:∀ nm,dom nm=true->iH (f nm)=true)(o:O)(h:O.clos dom o=true):O.clos iH (o.ren f)=true:=by
 cases o with
 |box cs=>simp only[O.clos]at h;simp only[O.ren,O.clos];exact sw hf cs h
 |loop env ps asg body st bm=>
  simp only[O.clos]at h
  simp only[O.ren,O.clos]
  have :=sw hf _ h
  rw[gP,List.map_map]at this
  rw[List.map_map]
  exact this
 |_=>rfl
theorem Mc(hC:aG G φ m σ a w){L:List Name}(hn:L.Nodup)(hL:shut σ.obj L=true){rd:Option Nat}{mb:∀ l,rd=some l->¬ nO L φ σ.obj l/\∃ r,w.heap[l]?=some (.loop r)}
 {ht:uR w L φ σ.obj} {φ2:Name->Loc} {m2:Mem} {σ2:S} {a2:Act} {w2:World} (eU:aG (sg w m L φ σ.obj rd mb ht) φ2 m2 σ2 a2 w2) {o:Out} (hE:Pw σ2 (L.map (cl L σ.obj)) o) {t:Name} (hf:fresh σ.obj t o.new=true):
 ∃ φ' m',Mem.le m m'/\aG G φ' m' { σ with obj:=cX L t o.new (b9 L t o.upd σ.obj) } a w2/\
   Ext φ φ' σ.obj (cX L t o.new (b9 L t o.upd σ.obj))/\
   (∀ d u,aw φ2 σ2.obj m2 d u->D.clos (dd L.length o.new) d=true->aw φ' (cX L t o.new (b9 L t o.upd σ.obj)) m' (d.ren (cout L t)) u):=by
 have hlen:(L.map (cl L σ.obj)).length=L.length:=by simp
 obtain⟨h1,h2,h3,h4,h5,h6⟩:=hE
 rw[hlen]at h3 h4 h5
 have hu:(o.upd.all fun x=>decide (x.1<L.length))=true:=List.all_eq_true.2 fun x hx=>by
  have :=List.all_eq_true.1 h4 x hx
  simp only[Bool.and_eq_true]at this;exact this.2
 have y6:∀ x∈o.upd,O.clos (dd L.length o.new) x.2=true:=fun x hx=>by
  have :=List.all_eq_true.1 h4 x hx
  simp only[Bool.and_eq_true]at this;exact this.1
 have DC:∀ x∈o.new,O.clos (dd L.length o.new) x.2=true:=fun x hx=>by
  have :=List.all_eq_true.1 h5 x hx
  simp only[Bool.and_eq_true]at this;exact this.1
 have DB:∀ x∈o.new,cD x.1=false:=fun x hx=>by
  have :=List.all_eq_true.1 h5 x hx
  simp only[Bool.and_eq_true,Bool.not_eq_true']at this;exact this.2
 have ck:∀ x∈o.new,σ.obj (x.1++t)=none:=fun x hx=>by
  have :=List.all_eq_true.1 hf x hx
  simpa using this
 have Y6:∀ nm∈L,∃ o,σ.obj nm=some o:=fun nm h=>let ⟨o,h,_⟩:=u9 hL h;⟨o,h⟩
 have r8:∀ nm∈L,∀ x∈o.new,nm≠x.1++t:=fun nm h x hx e=>by
  obtain⟨o',ho⟩:=Y6 nm h
  rw[e,ck x hx]at ho;cases ho
 have Lw:∀ nm,cE L nm=true->cout L t (cin L nm)=nm:=fun nm h=>aat (gT.1 h)
 generalize fy:cX L t o.new (b9 L t o.upd σ.obj)=obj'
 have zi:∀ (i:Nat) (hi:i<L.length),obj' L[i]=some ((ew o.upd i (cl L σ.obj L[i])).ren (cout L t)):=fun i hi=>by
  rw[<-fy,vi _ _ (r8 _ (List.getElem_mem hi))]
  refine HN hn _ _ hi _ hu ?_
  obtain⟨o',ho,hc⟩:=u9 hL (List.getElem_mem hi)
  simp only[cl,ho]
  rw[O.ren_id Lw o' hc]
 have Dz:∀ x∈o.new,obj' (x.1++t)=some (x.2.ren (cout L t)):=fun x hx=>by rw[<-fy];exact HO _ _ h6 hx
 have Dy:∀ nm,nm∉L->(∀ x∈o.new,nm≠x.1++t)->obj' nm=σ.obj nm:=fun nm h h'=>by rw[<-fy,vi _ _ h',BM _ _ hu h]
 let φ':Name->Loc:=fun nm=>if nm∈L then φ2 (cin L nm)else match o.new.find? (fun x=>x.1++t==nm)with
  |some x=>φ2 x.1
  |none=>φ nm
 have vF:∀ (i:Nat) (hi:i<L.length),φ' L[i]=φ2 [i,1]:=fun i hi=>by
  show (if L[i]∈L then φ2 (cin L L[i])else _)=_
  rw[if_pos (List.getElem_mem hi)]
  show φ2 [idx L L[i],1]=_
  rw[CV hn hi]
 have yW:∀ x∈o.new,φ' (x.1++t)=φ2 x.1:=fun x hx=>by
  show (if x.1++t∈L then _ else _)=_
  rw[if_neg fun h=>r8 _ h x hx rfl]
  cases pR:o.new.find? (fun y=>y.1++t==x.1++t)with
  |none=>have:=List.find?_eq_none.1 pR x hx;simp at this
  |some y=>
   have :=List.find?_some pR
   simp only[beq_iff_eq]at this
   simp only[List.append_cancel_right this]
 have yV:∀ nm,nm∉L->(∀ x∈o.new,nm≠x.1++t)->φ' nm=φ nm:=fun nm h h'=>by
  show (if nm∈L then _ else _)=_
  rw[if_neg h]
  cases pR:o.new.find? (fun y=>y.1++t==nm)with
  |none=>rfl
  |some y=>
   have :=List.find?_some pR
   simp only[beq_iff_eq]at this
   exact(h' y (List.mem_of_find?_eq_some pR) this.symm).elim
 let m':Mem:=fun b off=>match m2 b off with | some c=>some c | none=>m b off
 have ze:=eU.own
 have rV:∀ b,nO L φ σ.obj b->b<w.heap.size:=fun b ⟨nm,h,⟨o',k1,k2,k3⟩,e⟩=>by rw[<-e];exact(hC.objs nm o' k1).lt k2 k3
 have DH:Mem.le m m':=by
  intro b off v h
  show (match m2 b off with | some c=>some c | none=>m b off)=some v
  cases hq:m2 b off with
  |none=>exact h
  |some c=>
   have k1:=eU.mem b off c hq
   have k2:=hC.mem b off v h
   rw[qj (eU.fr.block b (mD k2) fun ⟨nm,_,k3,e⟩=>by
    have :=hC.apart nm k3 off;rw[e,h]at this;cases this)]at k1
   have k3:World.cell? w ⟨b,off,none⟩=some c:=k1
   rw[k2]at k3;exact k3.symm
 have DG:Mem.le m2 m':=by
  intro b off v h
  show (match m2 b off with | some c=>some c | none=>m b off)=some v
  rw[h]
 have zp:∀ b off v,m' b off=some v->m2 b off=some v\/(m2 b off=none/\m b off=some v):=by
  intro b off v h
  have h':(match m2 b off with | some c=>some c | none=>m b off)=some v:=h
  cases hq:m2 b off with
  |none=>rw[hq]at h';exact .inr ⟨rfl,h'⟩
  |some c=>rw[hq]at h';exact .inl h'
 have D9:∀ x,dd L.length o.new x=true->(∃ (i:Nat) (hi:i<L.length),x=[i,1])\/(cD x=false/\∃ y∈o.new,y.1=x):=by
  intro x hx
  unfold dd at hx
  split at hx
  ·rename_i i
   exact .inl ⟨i,by simpa using hx,rfl⟩
  ·obtain⟨y,hy,e⟩:=List.any_eq_true.1 hx
   simp only[beq_iff_eq]at e
   subst e
   exact .inr ⟨DB y hy,y,hy,rfl⟩
 have um:∀ (i:Nat) (hi:i<L.length),cout L t [i,1]=L[i]:=fun i hi=>kS hi
 have mh:∀ (i:Nat) (hi:i<L.length),σ2.obj [i,1]=some (ew o.upd i (cl L σ.obj L[i])):=fun i hi=>by
  have :=h1 i (by simpa using hi)
  simpa using this
 have Di:uS (cout L t) φ2 φ' σ2.obj obj' (dd L.length o.new):=by
  intro x q hd hq
  rcases D9 x hd with⟨i,hi,rfl⟩ | ⟨hi,y,hy,rfl⟩
  ·rw[um i hi,zi i hi,vF i hi]
   rw[mh i hi]at hq;cases hq
   exact⟨_,rfl,.inl ⟨O.len_ren _ _,rfl,O.sz_ren _ _⟩⟩
  ·rw[uL hi,Dz y hy,yW y hy]
   rw[h2 y hy]at hq;cases hq
   exact⟨_,rfl,.inl ⟨O.len_ren _ _,rfl,O.sz_ren _ _⟩⟩
 have Yf:∀ (i:Nat) (hi:i<L.length),O.clos (dd L.length o.new) (ew o.upd i (cl L σ.obj L[i]))=true:=by
  intro i hi
  refine IZ _ _ _ ?_ y6
  obtain⟨o',ho,hc⟩:=u9 hL (List.getElem_mem hi)
  simp only[cl,ho]
  refine O.clos_ren (fun nm hd=>?_) o' hc
  obtain⟨k1,_⟩:=tQ (gT.1 hd)
  show decide (idx L nm<L.length)=true
  simpa using k1
 have zA:Ext φ φ' σ.obj obj':=by
  intro nm q hq
  by_cases eR:nm∈L
  ·obtain⟨i,hi,rfl⟩:=List.getElem_of_mem eR
   obtain⟨Cc,k1,k2⟩:=eU.kept.2 [i,1] (cl L σ.obj L[i]) (by
    show js L σ.obj [i,1]=_
    show (if i<L.length then _ else _)=_
    rw[if_pos hi,kS hi])
   have WB:Cc=ew o.upd i (cl L σ.obj L[i]):=by rw[mh i hi]at k1;exact(Option.some.inj k1).symm
   subst WB
   have W7:lS L φ [i,1]=φ L[i]:=by show φ (L.getD i [])=_;rw[kS hi]
   have bR:(cl L σ.obj L[i]).len?=q.len?/\(cl L σ.obj L[i]).sz=q.sz:=by
    simp only[cl,hq];exact⟨O.len_ren _ _,O.sz_ren _ _⟩
   refine⟨_,zi i hi,?_⟩
   rw[O.len_ren,O.sz_ren,vF i hi]
   rcases k2 with⟨a1,a2,a3⟩ | ⟨n,n',a1,a2,a3⟩
   ·exact .inl ⟨a1.trans bR.1,(a2:φ2 [i,1]=lS L φ [i,1]).trans W7,a3.trans bR.2⟩
   ·exact .inr ⟨n,n',bR.1▸a1,a2,a3⟩
  ·have pN:∀ x∈o.new,nm≠x.1++t:=fun x hx e=>by rw[e,ck x hx]at hq;cases hq
   exact⟨q,by rw[Dy nm eR pN];exact hq,.inl ⟨rfl,yV nm eR pN,rfl⟩⟩
 have uq:∀ nm,holds φ' obj' nm->(∃ x,holds φ2 σ2.obj x/\φ' nm=φ2 x/\nm=cout L t x/\dd L.length o.new x=true)\/(nm∉L/\(∀ x∈o.new,nm≠x.1++t)/\holds φ σ.obj nm/\φ' nm=φ nm):=by
  rintro nm ⟨q,k1,k2,k3⟩
  by_cases eR:nm∈L
  ·obtain⟨i,hi,rfl⟩:=List.getElem_of_mem eR
   left
   rw[zi i hi]at k1;cases k1
   rw[O.mut_ren]at k2
   rw[vF i hi]at k3
   exact⟨[i,1],⟨_,mh i hi,k2,k3⟩,vF i hi,(um i hi).symm,by show decide (i<L.length)=true;simpa using hi⟩
  ·by_cases pN:∃ x∈o.new,nm=x.1++t
   ·obtain⟨x,hx,rfl⟩:=pN
    left
    rw[Dz x hx]at k1;cases k1
    rw[O.mut_ren]at k2
    rw[yW x hx]at k3
    refine⟨x.1,⟨_,h2 x hx,k2,k3⟩,yW x hx,(uL (DB x hx)).symm,?_⟩
    exact ZW (DB x hx) hx
   ·have rM:∀ x∈o.new,nm≠x.1++t:=fun x hx e=>pN ⟨x,hx,e⟩
    right
    rw[Dy nm eR rM]at k1
    rw[yV nm eR rM]at k3
    exact⟨eR,rM,⟨q,k1,k2,k3⟩,yV nm eR rM⟩
 have fQ:∀ nm,nm∉L->holds φ σ.obj nm->(φ nm).blk<w.heap.size/\¬ nO L φ σ.obj (φ nm).blk:=by
  intro nm eR hh
  obtain⟨q,k1,k2,k3⟩:=hh
  refine⟨(hC.objs nm q k1).lt k2 k3,fun ⟨x,k4,k5,k6⟩=>?_⟩
  exact eR (hC.inj _ _ k5 ⟨q,k1,k2,k3⟩ k6▸k4)
 have afL:∀ x y,dd L.length o.new x=true->dd L.length o.new y=true->cout L t x=cout L t y->x=y:=by
  intro x y hx hy e
  rcases D9 x hx with⟨i,hi,rfl⟩ | ⟨k1,x',a7,rfl⟩<;>rcases D9 y hy with⟨j,hj,rfl⟩ | ⟨k2,y',Xe,rfl⟩
  ·rw[um i hi,um j hj]at e
   rw[(List.getElem_inj hn).1 e]
  ·rw[um i hi,uL k2]at e
   exact(r8 _ (List.getElem_mem hi) y' Xe e).elim
  ·rw[um j hj,uL k1]at e
   exact(r8 _ (List.getElem_mem hj) x' a7 e.symm).elim
  ·rw[uL k1,uL k2]at e
   exact List.append_cancel_right e
 refine⟨φ',m',DH,?_,zA,fun d u hd hc=>hd.renx DG Di hc⟩
 constructor
 ·exact fun x=>(hC.tmps x).ext DH zA
 ·exact hC.size
 ·obtain⟨ds,k1,k2,k3⟩:=hC.defers
  refine⟨ds,k1,k2,fun D hD=>⟨(k3 D hD).1,?_⟩⟩
  have k4:=(k3 D hD).2
  rw[eU.fr.block D (Array.getElem?_eq_some_iff.1 k4).1 fun ⟨x,_,⟨q,k5,k6,k7⟩,k8⟩=>(hC.objs x q k5).notDef k6 k7 _ (by rw[k8];exact k4)]
  exact k4
 ·intro nm q hq
  by_cases eR:nm∈L
  ·obtain⟨i,hi,rfl⟩:=List.getElem_of_mem eR
   have cr:obj' L[i]=some q:=hq
   rw[zi i hi]at cr;cases cr
   rw[vF i hi]
   exact(eU.objs _ _ (mh i hi)).ren DG Di (Yf i hi) fun _ _=>rfl
  ·by_cases pN:∃ x∈o.new,nm=x.1++t
   ·obtain⟨x,hx,rfl⟩:=pN
    have cr:obj' (x.1++t)=some q:=hq
    rw[Dz x hx]at cr;cases cr
    rw[yW x hx]
    exact(eU.objs _ _ (h2 x hx)).ren DG Di (DC x hx) fun _ _=>rfl
   ·have rM:∀ x∈o.new,nm≠x.1++t:=fun x hx e=>pN ⟨x,hx,e⟩
    have cr:obj' nm=some q:=hq
    rw[Dy nm eR rM]at cr
    rw[yV nm eR rM]
    refine(hC.objs nm q cr).ext DH zA fun k2 k3=>?_
    obtain⟨k4,k5⟩:=fQ nm eR ⟨q,cr,k2,k3⟩
    exact eU.fr.block _ k4 k5
 ·intro b off v h
  rcases zp b off v h with h | ⟨zm,h⟩
  ·exact eU.mem b off v h
  ·have k2:=hC.mem b off v h
   rw[qj (eU.fr.block b (mD k2) fun ⟨nm,_,k3,e⟩=>by
    have :=hC.apart nm k3 off;rw[e,h]at this;cases this)]
   exact k2
 ·intro nm hh off
  rcases uq nm hh with⟨x,k1,k2,_,_⟩ | ⟨k1,k2,k3,k4⟩
  ·rw[k2]
   cases hq:m' (φ2 x).blk off with
   |none=>rfl
   |some v=>
    rcases zp _ _ _ hq with h | ⟨_,h⟩
    ·have:=eU.apart x k1 off;rw[h]at this;cases this
    ·rcases ze x k1 with h' | ⟨jt,k5,k6,k7⟩
     ·have:=mD (hC.mem _ _ _ h)
      have iE:w.heap.size<=(φ2 x).blk:=h'
      omega
     ·have:=hC.apart jt k6 off
      rw[k7,h]at this;cases this
  ·rw[k4]
   obtain⟨k5,k6⟩:=fQ nm k1 k3
   cases hq:m' (φ nm).blk off with
   |none=>rfl
   |some v=>
    rcases zp _ _ _ hq with h | ⟨_,h⟩
    ·rcases eU.fresh _ _ _ h with h' | h' | h'
     ·have:=hC.apart nm k3 off
      have iE:m (φ nm).blk off=some v:=h'
      rw[iE]at this;cases this
     ·have iE:w.heap.size<=(φ nm).blk:=h'
      omega
     ·exact(k6 h').elim
    ·have:=hC.apart nm k3 off;rw[h]at this;cases this
 ·intro nm jt hh X' e
  rcases uq nm hh with⟨x,k1,k2,k3,k4⟩ | ⟨k1,k2,k3,k4⟩<;>rcases uq jt X' with⟨x',j1,j2,j3,j4⟩ | ⟨j1,j2,j3,j4⟩
  ·rw[k2,j2]at e
   rw[k3,j3,eU.inj _ _ k1 j1 e]
  ·exfalso
   rw[k2,j4]at e
   obtain⟨k5,k6⟩:=fQ jt j1 j3
   rcases ze x k1 with h' | h'
   ·have iE:w.heap.size<=(φ2 x).blk:=h'
    omega
   ·rw[e]at h';exact k6 h'
  ·exfalso
   rw[k4,j2]at e
   obtain⟨k5,k6⟩:=fQ nm k1 k3
   rcases ze x' j1 with h' | h'
   ·have iE:w.heap.size<=(φ2 x').blk:=h'
    omega
   ·rw[<-e]at h';exact k6 h'
  ·rw[k4,j4]at e
   exact hC.inj _ _ k3 j3 e
 ·intro nm hh
  rcases uq nm hh with⟨x,k1,k2,_,_⟩ | ⟨k1,k2,k3,k4⟩
  ·rw[k2]
   rcases ze x k1 with h' | ⟨jt,k5,k6,k7⟩
   ·exact .inl (Nat.le_trans hC.fr.size h')
   ·rw[<-k7];exact hC.own jt k6
  ·rw[k4];exact hC.own nm k3
 ·refine⟨eU.fr.os.trans hC.fr.os,eU.fr.tape.trans hC.fr.tape,eU.fr.output.trans hC.fr.output,Nat.le_trans hC.fr.size eU.fr.size,fun b hb ho=>?_⟩
  rw[eU.fr.block b (Nat.lt_of_lt_of_le hb hC.fr.size) fun ⟨nm,_,k3,e⟩=>?_]
  ·exact hC.fr.block b hb ho
  ·rcases hC.own nm k3 with h | h<;>rw[e]at h
   ·omega
   ·exact ho h
 ·intro b off v h
  rcases zp b off v h with h | ⟨_,h⟩
  ·rcases eU.fresh _ _ _ h with h' | h' | ⟨nm,_,k3,e⟩
   ·exact hC.fresh _ _ _ h'
   ·exact .inr (.inl (Nat.le_trans hC.fr.size h'))
   ·rw[<-e];exact .inr (hC.own nm k3)
  ·exact hC.fresh _ _ _ h
 ·exact⟨hC.kept.1,hC.kept.2.trans zA⟩
end
def eL:Nat->List D->List (Nat×E)
 |_,[]=>[]
 |k,x::r=>(k,⟨true,x⟩)::eL (k+1) r
theorem Ot:∀ {k:Nat} {xs:List D} {t:Nat} {e:E},(t,e)∈eL k xs->∃ (i:Nat) (h:i<xs.length),t=k+i/\e=⟨true,xs[i]⟩
 |k,[],t,e,h=>by simp[eL]at h
 |k,x::r,t,e,h=>by
  simp only[eL,List.mem_cons,Prod.mk.injEq]at h
  rcases h with⟨rfl,rfl⟩ | h
  ·exact⟨0,by simp,rfl,rfl⟩
  ·obtain⟨i,hi,h1,h2⟩:=Ot h
   exact⟨i+1,by simpa using hi,by omega,by simpa using h2⟩
structure CSpec where
 pre:List O->List D->Prop
 out:List O->List D->Out
def cm(obj:Name->Option O)(ds:List D):List O:=(reach obj ds).map (cl (reach obj ds) obj)
def cJ(obj:Name->Option O)(ds:List D):List D:=D.renL (cin (reach obj ds)) ds
def CSpec.toSpec(s:CSpec):Spec where
 app obj t ds:=⟨(shut obj (reach obj ds)&&D.closL (cE (reach obj ds)) ds&&fresh obj t (s.out (cm obj ds) (cJ obj ds)).new)=true/\s.pre (cm obj ds) (cJ obj ds),
  (s.out (cm obj ds) (cJ obj ds)).d.ren (cout (reach obj ds) t),cX (reach obj ds) t (s.out (cm obj ds) (cJ obj ds)).new (b9 (reach obj ds) t (s.out (cm obj ds) (cJ obj ds)).upd obj)⟩
 foot obj t ds:=reach obj ds++((s.out (cm obj ds) (cJ obj ds)).upd.map fun x=>(reach obj ds).getD x.1 [])++(s.out (cm obj ds) (cJ obj ds)).new.map fun x=>x.1++t
 wrt obj t ds:=((s.out (cm obj ds) (cJ obj ds)).upd.map fun x=>(reach obj ds).getD x.1 [])++(s.out (cm obj ds) (cJ obj ds)).new.map fun x=>x.1++t
theorem tk{L:List Name}{t:Name}:∀ (l:List (Nat×O)) (obj obj2:Name->Option O) (nm:Name),b9 L t l obj2 nm=if nm∈l.map (fun x=>L.getD x.1 [])then b9 L t l obj nm else obj2 nm
 |[],obj,obj2,nm=>by simp[b9]
 |(i,o)::r,obj,obj2,nm=>by
  simp only[b9,List.map_cons,List.mem_cons]
  rw[tk r (upd obj (L.getD i []) (some (o.ren (cout L t)))) (upd obj2 (L.getD i []) (some (o.ren (cout L t)))) nm]
  by_cases h:nm∈r.map (fun x=>L.getD x.1 [])
  ·rw[if_pos h,if_pos (.inr h)]
  ·rw[if_neg h]
   by_cases e:nm=L.getD i []
   ·rw[if_pos (.inl e)]
    have hu:b9 L t r (upd obj (L.getD i []) (some (o.ren (cout L t)))) nm=(upd obj (L.getD i []) (some (o.ren (cout L t)))) nm:=by
     rw[tk r obj _ nm,if_neg h]
    rw[hu,e,aH,aH]
   ·rw[if_neg (by simp only[not_or];exact⟨e,h⟩)]
    exact aN _ _ _ e
theorem qK{L:List Name}{t:Name}:∀ (l:List (Name×O)) (obj obj2:Name->Option O) (nm:Name),cX L t l obj2 nm=if nm∈l.map (fun x=>x.1++t)then cX L t l obj nm else obj2 nm
 |[],obj,obj2,nm=>by simp[cX]
 |(i,o)::r,obj,obj2,nm=>by
  simp only[cX,List.map_cons,List.mem_cons]
  rw[qK r (upd obj (i++t) (some (o.ren (cout L t)))) (upd obj2 (i++t) (some (o.ren (cout L t)))) nm]
  by_cases h:nm∈r.map (fun x=>x.1++t)
  ·rw[if_pos h,if_pos (.inr h)]
  ·rw[if_neg h]
   by_cases e:nm=i++t
   ·rw[if_pos (.inl e)]
    have hu:cX L t r (upd obj (i++t) (some (o.ren (cout L t)))) nm=(upd obj (i++t) (some (o.ren (cout L t)))) nm:=by
     rw[qK r obj _ nm,if_neg h]
    rw[hu,e,aH,aH]
   ·rw[if_neg (by simp only[not_or];exact⟨e,h⟩)]
    exact aN _ _ _ e
theorem nX{obj obj2:Name->Option O}{ds:List D}(h:bq (reach obj ds) obj obj2):reach obj2 ds=reach obj ds:=BF _ _ _ h
theorem wW{obj obj2:Name->Option O}{ds:List D}(h:bq (reach obj ds) obj obj2):cm obj2 ds=cm obj ds:=by
 unfold cm
 rw[nX h]
 exact List.map_congr_left fun nm hn=>by simp only[cl];rw[h nm hn]
theorem FE{obj obj2:Name->Option O}{ds:List D}(h:bq (reach obj ds) obj obj2):cJ obj2 ds=cJ obj ds:=by
 unfold cJ
 rw[nX h]
theorem Bu{obj obj2:Name->Option O}{L:List Name}(h:bq L obj obj2):shut obj2 L=shut obj L:=by
 unfold shut
 refine Bool.eq_iff_iff.2 ?_
 simp only[List.all_eq_true]
 exact⟨fun k x hx=>by rw[<-h x hx];exact k x hx,fun k x hx=>by rw[h x hx];exact k x hx⟩
theorem zV{obj obj2:Name->Option O}{t:Name}{new:List (Name×O)}(h:bq (new.map fun x=>x.1++t) obj obj2):fresh obj2 t new=fresh obj t new:=by
 unfold fresh
 refine Bool.eq_iff_iff.2 ?_
 simp only[List.all_eq_true]
 exact⟨fun k x hx=>by rw[<-h _ (List.mem_map_of_mem hx)];exact k x hx,fun k x hx=>by rw[h _ (List.mem_map_of_mem hx)];exact k x hx⟩
theorem Ct{ok ok2:Prop}{d:D}{obj obj2:Name->Option O}{L:List Name}{t:Name}{o:Out}(aa:ok2=ok)
 (ha:bq ((o.upd.map fun x=>L.getD x.1 [])++o.new.map fun x=>x.1++t) obj obj2):
 bE ⟨ok,d,cX L t o.new (b9 L t o.upd obj)⟩ ⟨ok2,d,cX L t o.new (b9 L t o.upd obj2)⟩ obj obj2 ((o.upd.map fun x=>L.getD x.1 [])++o.new.map fun x=>x.1++t):=by
 refine⟨aa,rfl,fun nm=>?_,fun nm hn=>?_⟩
 ·show cX L t o.new (b9 L t o.upd obj2) nm=if nm∈_ then cX L t o.new (b9 L t o.upd obj) nm else obj2 nm
  rw[qK o.new (b9 L t o.upd obj) (b9 L t o.upd obj2) nm]
  by_cases h1:nm∈o.new.map (fun x=>x.1++t)
  ·rw[if_pos h1,if_pos (List.mem_append_right _ h1)]
  ·rw[if_neg h1,tk o.upd obj obj2 nm]
   by_cases h2:nm∈o.upd.map (fun x=>L.getD x.1 [])
   ·rw[if_pos h2,if_pos (List.mem_append_left _ h2)]
    rw[qK o.new obj (b9 L t o.upd obj) nm,if_neg h1]
   ·rw[if_neg h2,if_neg (by simp only[List.mem_append,not_or];exact⟨h2,h1⟩)]
 ·show cX L t o.new (b9 L t o.upd obj) nm=obj nm
  simp only[List.mem_append,not_or]at hn
  rw[qK o.new obj (b9 L t o.upd obj) nm,if_neg hn.2,tk o.upd obj obj nm,if_neg hn.1]
theorem CSpec.near(s:CSpec):s.toSpec.Near:=by
 have key:∀ {obj obj2:Name->Option O} {t:Name} {ds:List D},bq (s.toSpec.foot obj t ds) obj obj2->bq (reach obj ds) obj obj2/\
     bq (((s.out (cm obj ds) (cJ obj ds)).upd.map fun x=>(reach obj ds).getD x.1 [])++(s.out (cm obj ds) (cJ obj ds)).new.map fun x=>x.1++t) obj obj2:=by
  intro obj obj2 t ds h
  refine⟨fun nm hn=>h nm ?_,fun nm hn=>h nm ?_⟩
  ·exact List.mem_append_left _ (List.mem_append_left _ hn)
  ·rcases List.mem_append.1 hn with hn | hn
   ·exact List.mem_append_left _ (List.mem_append_right _ hn)
   ·exact List.mem_append_right _ hn
 refine⟨fun obj obj2 t ds h=>?_,fun obj obj2 t ds h=>?_,fun obj t ds nm hn=>?_,fun obj obj2 t ds h=>?_⟩
 ·obtain⟨h1,h2⟩:=key h
  simp only[CSpec.toSpec]
  rw[wW h1,FE h1,nX h1]
  refine Ct ?_ h2
  rw[Bu h1,zV fun nm hn=>h2 nm (List.mem_append_right _ hn)]
 ·obtain⟨h1,h2⟩:=key h
  simp only[CSpec.toSpec]
  rw[wW h1,FE h1,nX h1]
 ·simp only[CSpec.toSpec]at hn |-
  rcases List.mem_append.1 hn with hn | hn
  ·exact List.mem_append_left _ (List.mem_append_right _ hn)
  ·exact List.mem_append_right _ hn
 ·obtain⟨h1,h2⟩:=key h
  simp only[CSpec.toSpec]
  rw[wW h1,FE h1,nX h1]
def qW(σ:S)(u:List (Nat×O)):Nat->List O->Prop
 |_,[]=>True
 |i,o::r=>σ.obj [i,1]=some (ew u i o)/\qW σ u (i+1) r
theorem Iz{σ:S}{u:List (Nat×O)}:∀ {l:List O} {k:Nat},qW σ u k l->∀ i (h:i<l.length),σ.obj [k+i,1]=some (ew u (k+i) l[i])
 |o::r,k,h,0,_=>h.1
 |o::r,k,h,i+1,hi=>by
  have :=Iz h.2 i (by simpa using hi)
  rw[show k+(i+1)=k+1+i by omega]
  simpa using this
def vr(σ:S):List (Name×O)->Prop
 |[]=>True
 |x::r=>σ.obj x.1=some x.2/\vr σ r
theorem ID{σ:S}:∀ {l:List (Name×O)},vr σ l->∀ x∈l,σ.obj x.1=some x.2
 |y::r,h,x,hx=>by
  rcases List.mem_cons.1 hx with rfl | hx
  ·exact h.1
  ·exact ID h.2 x hx
def distinct:List Name->Bool
 |[]=>true
 |x::r=>(r.all fun y=>!(x==y))&&distinct r
theorem M1:∀ {l:List Name},distinct l=true->l.Nodup
 |[],_=>by simp
 |x::r,h=>by
  simp only[distinct,Bool.and_eq_true]at h
  refine List.nodup_cons.2 ⟨fun hx=>?_,M1 h.2⟩
  have :=List.all_eq_true.1 h.1 x hx
  simp at this
def gI(os:List O)(o:Out)(σ:S):Prop:=
 qW σ o.upd 0 os/\vr σ o.new/\
  (D.clos (dd os.length o.new) o.d&&(o.upd.all fun x=>O.clos (dd os.length o.new) x.2&&decide (x.1<os.length))&&(o.new.all fun x=>O.clos (dd os.length o.new) x.2&&!cD x.1)&&distinct (o.new.map (·.1)))=true
theorem MM{os:List O}{o:Out}{σ:S}(h:gI os o σ):Pw σ os o:=by
 obtain⟨h1,h2,h3⟩:=h
 simp only[Bool.and_eq_true]at h3
 exact⟨fun i hi=>by simpa using Iz h1 i hi,ID h2,h3.1.1.1,h3.1.1.2,by simpa using h3.1.2,M1 h3.2⟩
def vf(P:Program)(rs:List ResultVar)(os:List O)(o:Out):Exit->S->Prop
 | .normal,σ=>(bX P σ rs).ok/\(bX P σ rs).d=o.d/\gI os o σ
 | .ret,σ=>(bX P σ rs).ok/\(bX P σ rs).d=o.d/\gI os o σ
 |_,_=>False
def bd(os:List O):Name->Option O
 |[i,1]=>os[i]?
 |_=>none
theorem Ts{L:List Name}{obj:Name->Option O}{x:Name}(h:cD x=false):js L obj x=none:=by
 unfold js
 split
 ·simp[cD]at h
 ·rfl
theorem yb{os:List O}{x:Name}(h:cD x=false):bd os x=none:=by
 unfold bd
 split
 ·simp[cD]at h
 ·rfl
theorem yk{L:List Name}{obj:Name->Option O}:js L obj=bd (L.map (cl L obj)):=by
 funext x
 cases hx:cD x with
 |false=>rw[Ts hx,yb hx]
 |true=>
  obtain⟨i,rfl⟩:=vC.1 hx
  show (if i<L.length then some (cl L obj (L.getD i []))else none)=(L.map (cl L obj))[i]?
  by_cases hi:i<L.length
  ·rw[if_pos hi,List.getElem?_eq_getElem (by simpa using hi)]
   rw[kS hi,List.getElem_map]
  ·rw[if_neg hi,List.getElem?_eq_none (by simpa using hi)]
theorem Cj{nt:Nat}{l:List (Nat×E)}{os:List O}:aU nt [0] (bd os) l []=⟨nt,cY eAny l,bd os,[0],0⟩:=by
 unfold aU
 congr 1
 funext nm
 split
 ·rename_i h
  have :cD nm=false:=by
   cases hc:cD nm with
   |false=>rfl
   |true=>
    obtain⟨i,rfl⟩:=vC.1 hc
    rw[H9]at h;cases h
  unfold bd
  split
  ·simp[cD]at this
  ·rfl
 ·rfl
theorem oS{P:Program}{f:FuncId}{fn:Func}{c:Code}{s:CSpec}{nt:Nat}{rs:List ResultVar}(hf:P.funcs[f]?=some fn)(hb:fn.body=some c)(eQ:fn.ntmps=nt)(fx:fn.results.toList=rs)
 (mj:∀ args w,(callFunc f args).run P w=.ok (.enter f args) w) (ar:f≠yid)
 (h:∀ os ds,s.pre os ds->ds.length<=nt/\CW P c (aU nt [0] (bd os) (eL 0 ds) []) (vf P rs os (s.out os ds))):al P f s.toSpec:=by
 subst eQ
 subst fx
 refine⟨s.near,fun _=>mj,fun _ G φ m σ a w hC t ds us _ hl hr aa=>?_,fun e=>(ar e).elim⟩
 obtain⟨aa,cG⟩:=aa
 simp only[Bool.and_eq_true]at aa
 obtain⟨⟨fY,bR⟩,ck⟩:=aa
 obtain⟨hlen,mn⟩:=h _ _ cG
 have kI:(reach σ.obj ds).Nodup:=xU _ _ _ (by simp)
 simp only[cJ,gP,List.length_map]at hlen
 refine(callsIn_wide (n:=0)).1 (callsIn_of_wp_marks hf hb trivial ?_)
 have gB:=Md hC (L:=reach σ.obj ds) kI fY (rd:=none) (fun l h=>by cases h) (b0:=0) (nt:=fn.ntmps) (env:=cY eAny (eL 0 (cJ σ.obj ds)))
  (tmps:=us++Array.replicate (fn.ntmps-us.size) undef) (by simp;omega) (fun t=>by
    rcases tC (z:=eAny) (eL 0 (cJ σ.obj ds)) t with h1 | h1
    ·rw[h1];unfold bS eAny;simp;exact .any _
    ·obtain⟨i,hi,h2,h3⟩:=Ot h1
     rw[h3]
     unfold bS
     simp only[if_true]
     simp only[cJ,gP,List.length_map]at hi
     have bx:i<us.size:=by omega
     have e:((us++Array.replicate (fn.ntmps-us.size) undef).getD t undef)=us[i]:=by
      have ai:0+i<(us++Array.replicate (fn.ntmps-us.size) undef).size:=by simp;omega
      rw[h2]
      simp only[Array.getD,ai,dite_true]
      show (us++Array.replicate (fn.ntmps-us.size) undef)[0+i]=us[i]
      simp only[Nat.zero_add]
      exact Array.getElem_append_left bx
     rw[e]
     simp only[cJ,gP,List.getElem_map]
     exact(hr i hi bx).renx (Mem.le_refl m) xT (ic hi bR))
 rw[Cj]at mn
 rw[yk]at gB
 refine wpIn_mono (mn _ _ m _ w gB) ?_
 rintro e a1 w1 ⟨φ2,m2,σ2,fC,hK⟩
 have fin:(bX P σ2 fn.results.toList).ok/\(bX P σ2 fn.results.toList).d=(s.out (cm σ.obj ds) (cJ σ.obj ds)).d/\gI (cm σ.obj ds) (s.out (cm σ.obj ds) (cJ σ.obj ds)) σ2->
     LeavesInM Fence.wide 0 P fn a1.tmps (fun e w'=>∃ v φ' m',e=.returned v/\aG G φ' m' { σ with obj:=(s.toSpec.app σ.obj t ds).obj } a w'/\aw φ' (s.toSpec.app σ.obj t ds).obj m' (s.toSpec.app σ.obj t ds).d v/\Ext φ φ' σ.obj (s.toSpec.app σ.obj t ds).obj) a1.defers .returning w1:=by
  rintro⟨h1,h2,h3⟩
  refine Cu a1.defers rfl fC fun a' w' _ bW=>?_
  obtain⟨v,h4,h5⟩:=Hv bW fn h1
  rw[h2]at h5
  have hE:=MM h3
  obtain⟨φ',m',k1,k2,k3,k4⟩:=Mc hC kI fY bW hE ck
  have uo:=hE.cd
  simp only[cm,List.length_map]at uo
  exact⟨v,h4,v,φ',m',rfl,k2,k4 _ _ h5 uo,k3⟩
 cases e with
 |normal=>exact fin hK
 |ret=>exact fin hK
 |_=>exact hK.elim
theorem bE.more{ok ok2:Prop}{d d2:D}{o1 o2 obj obj2:Name->Option O}{wr:List Name}(nm:Name)(x:Option O)(h:bE ⟨ok,d,o1⟩ ⟨ok2,d2,o2⟩ obj obj2 wr):
 bE ⟨ok,d,upd o1 nm x⟩ ⟨ok2,d2,upd o2 nm x⟩ obj obj2 (nm::wr):=by
 refine⟨h.ok,h.d,fun y=>?_,fun y hy=>?_⟩
 ·show upd o2 nm x y=if y∈nm::wr then upd o1 nm x y else obj2 y
  by_cases e:y=nm
  ·subst e;rw[aH,if_pos (by simp),aH]
  ·rw[aN _ _ _ e,aN _ _ _ e]
   have :=h.eff y
   simp only at this
   rw[this]
   by_cases hy:y∈wr
   ·rw[if_pos hy,if_pos (List.mem_cons_of_mem _ hy)]
   ·rw[if_neg hy,if_neg (by simp[e,hy])]
 ·simp only[List.mem_cons,not_or]at hy
  show upd o1 nm x y=obj y
  rw[aN _ _ _ hy.1]
  exact h.frame y hy.2
structure YSpec where
 pre:List E->List Nat->Code->Code->List O->List D->Prop
 out:List E->List Nat->Code->Code->List O->List D->Out×Option Code
def roots(env:List E)(ds:List D):List D:=env.map (·.d)++ds
def ir(obj:Name->Option O)(env:List E)(ds:List D):List E:=env.map (E.ren (cin (reach obj (roots env ds))))
def ji(obj:Name->Option O)(env:List E)(ds:List D):List D:=D.renL (cin (reach obj (roots env ds))) ds
def YSpec.o(y:YSpec)(obj:Name->Option O)(env:List E)(ps:List Nat)(asg body:Code)(ds:List D):Out×Option Code:=
 y.out (ir obj env ds) ps asg body (cm obj (roots env ds)) (ji obj env ds)
def YSpec.toSpec(y:YSpec):Spec where
 app obj t args:=match args with
  | .yld nm::ds=>match obj nm with
    |some (.loop env ps asg body .ready none)=>
     ⟨(shut obj (reach obj (roots env ds))&&D.closL (cE (reach obj (roots env ds))) (roots env ds)&&fresh obj t (y.o obj env ps asg body ds).1.new&&!cE (reach obj (roots env ds)) nm&&
         decide (ds.length=ps.length)&&(ps.all fun p=>decide (p<env.length)))=true/\y.pre (ir obj env ds) ps asg body (cm obj (roots env ds)) (ji obj env ds),
       .v (.bool (y.o obj env ps asg body ds).2.isNone),
       upd (cX (reach obj (roots env ds)) t (y.o obj env ps asg body ds).1.new (b9 (reach obj (roots env ds)) t (y.o obj env ps asg body ds).1.upd obj)) nm
        (some (.loop env ps asg body (if (y.o obj env ps asg body ds).2.isNone then .ready else .done) (y.o obj env ps asg body ds).2))⟩
    |_=>.bad obj
  |_=>.bad obj
 foot obj t args:=match args with
  | .yld nm::ds=>nm::(match obj nm with
    |some (.loop env ps asg body .ready none)=>reach obj (roots env ds)++((y.o obj env ps asg body ds).1.upd.map fun x=>(reach obj (roots env ds)).getD x.1 [])++(y.o obj env ps asg body ds).1.new.map fun x=>x.1++t
    |_=>[])
  |_=>[]
 wrt obj t args:=match args with
  | .yld nm::ds=>nm::(match obj nm with
    |some (.loop env ps asg body .ready none)=>((y.o obj env ps asg body ds).1.upd.map fun x=>(reach obj (roots env ds)).getD x.1 [])++(y.o obj env ps asg body ds).1.new.map fun x=>x.1++t
    |_=>[])
  |_=>[]
theorem YSpec.near(y:YSpec):y.toSpec.Near:=by
 have Ca:∀ {obj obj2:Name->Option O} {env:List E} {ps:List Nat} {asg body:Code} {ds:List D},bq (reach obj (roots env ds)) obj obj2->
     y.o obj2 env ps asg body ds=y.o obj env ps asg body ds/\ir obj2 env ds=ir obj env ds/\ji obj2 env ds=ji obj env ds:=by
  intro obj obj2 env ps asg body ds h
  unfold YSpec.o ir ji
  rw[wW h,nX h]
  exact⟨rfl,rfl,rfl⟩
 have split:∀ {A B C:List Name} {obj obj2:Name->Option O} {nm:Name},bq (nm::(A++B++C)) obj obj2->bq A obj obj2/\bq (B++C) obj obj2:=by
  intro A B C obj obj2 nm h
  refine⟨fun x hx=>h x ?_,fun x hx=>h x ?_⟩
  ·exact List.mem_cons_of_mem _ (List.mem_append_left _ (List.mem_append_left _ hx))
  ·rcases List.mem_append.1 hx with hx | hx
   ·exact List.mem_cons_of_mem _ (List.mem_append_left _ (List.mem_append_right _ hx))
   ·exact List.mem_cons_of_mem _ (List.mem_append_right _ hx)
 have Ao:∀ (args:List D),(∃ nm ds,args=.yld nm::ds)\/(∀ obj t,y.toSpec.app obj t args=.bad obj/\y.toSpec.foot obj t args=[]/\y.toSpec.wrt obj t args=[]):=by
  intro args
  rcases args with _ | ⟨d,ds⟩
  ·exact .inr fun _ _=>⟨rfl,rfl,rfl⟩
  ·cases d with
   |yld nm=>exact .inl ⟨nm,ds,rfl⟩
   |_=>exact .inr fun _ _=>⟨rfl,rfl,rfl⟩
 refine⟨fun obj obj2 t args h=>?_,fun obj obj2 t args h=>?_,fun obj t args jt hn=>?_,fun obj obj2 t args h=>?_⟩
 ·rcases Ao args with⟨nm,ds,rfl⟩ | hb
  ·simp only[YSpec.toSpec]at h |-
   have h0:obj2 nm=obj nm:=h nm (by simp)
   rw[h0]
   split
   ·rename_i env ps asg body ho
    simp only[ho]at h
    obtain⟨h1,h2⟩:=split h
    obtain⟨e1,e2,e3⟩:=Ca (ps:=ps) (asg:=asg) (body:=body) h1
    rw[e1,e2,e3,wW h1,nX h1]
    refine bE.more nm _ (Ct ?_ h2)
    rw[Bu h1,zV fun nm hn=>h2 nm (List.mem_append_right _ hn)]
   ·exact .none _ fun x hx=>by simp only[List.mem_singleton]at hx;subst hx;exact h0
  ·rw[(hb obj t).1,(hb obj2 t).1,(hb obj t).2.2]
   exact .same rfl rfl rfl rfl
 ·rcases Ao args with⟨nm,ds,rfl⟩ | hb
  ·simp only[YSpec.toSpec]at h |-
   have h0:obj2 nm=obj nm:=h nm (by simp)
   rw[h0]
   split
   ·rename_i env ps asg body ho
    simp only[ho]at h
    obtain⟨h1,h2⟩:=split h
    obtain⟨e1,e2,e3⟩:=Ca (ps:=ps) (asg:=asg) (body:=body) h1
    rw[e1,nX h1]
   ·rfl
  ·rw[(hb obj t).2.1,(hb obj2 t).2.1]
 ·rcases Ao args with⟨nm,ds,rfl⟩ | hb
  ·simp only[YSpec.toSpec]at hn |-
   rcases List.mem_cons.1 hn with rfl | hn
   ·simp
   ·refine List.mem_cons_of_mem _ ?_
    split at hn
    ·rename_i env ps asg body ho
     try simp only[ho]
     rcases List.mem_append.1 hn with hn | hn
     ·exact List.mem_append_left _ (List.mem_append_right _ hn)
     ·exact List.mem_append_right _ hn
    ·cases hn
  ·rw[(hb obj t).2.2]at hn;cases hn
 ·rcases Ao args with⟨nm,ds,rfl⟩ | hb
  ·simp only[YSpec.toSpec]at h |-
   have h0:obj2 nm=obj nm:=h nm (by simp)
   rw[h0]
   split
   ·rename_i env ps asg body ho
    simp only[ho]at h
    obtain⟨h1,h2⟩:=split h
    obtain⟨e1,e2,e3⟩:=Ca (ps:=ps) (asg:=asg) (body:=body) h1
    rw[e1,nX h1]
   ·rfl
  ·rw[(hb obj t).2.2,(hb obj2 t).2.2]
def so(env:List E):Nat->E:=fun t=>env.getD t eAny
def setP:(Nat->E)->List Nat->List D->(Nat->E)
 |f,p::ps,d::ds=>setP (upd f p ⟨true,d⟩) ps ds
 |f,_,_=>f
def Ij(k:S->Prop):Exit->S->Prop
 | .normal,σ=>k σ
 |_,_=>False
def SB(os:List O)(o:Out×Option Code):Exit->S->Prop
 | .normal,σ=>o.2=none/\gI os o.1 σ
 | .ret,σ=>o.2=some .ret/\gI os o.1 σ
 | .exit id,σ=>o.2=some (.exit id)/\gI os o.1 σ
 |_,_=>False
theorem G5{φ:Name->Loc}{obj:Name->Option O}{m:Mem}{n:Nat}:∀ (ps:List Nat) (ds:List D) (us:List Value) (f:Nat->E) (tmps:Array Value),tmps.size=n->ps.length=ds.length->ds.length=us.length->
 (∀ p∈ps,p<n)->(∀ t,bS φ obj m (f t) (tmps.getD t undef))->(∀ i (h:i<ds.length) (h':i<us.length),aw φ obj m ds[i] us[i])->
 (∀ t,bS φ obj m (setP f ps ds t) (((ps.zip us).foldl (fun tmps (p:Nat×Value)=>tmps.setIfInBounds p.1 p.2) tmps).getD t undef))/\((ps.zip us).foldl (fun tmps (p:Nat×Value)=>tmps.setIfInBounds p.1 p.2) tmps).size=n
 |[],ds,us,f,tmps,hs,h1,h2,hp,hf,hr=>by
  have :ds=[]:=List.eq_nil_of_length_eq_zero (by simpa using h1.symm)
  subst this
  exact⟨hf,hs⟩
 |p::ps,[],us,f,tmps,hs,h1,h2,hp,hf,hr=>by simp at h1
 |p::ps,d::ds,[],f,tmps,hs,h1,h2,hp,hf,hr=>by simp at h2
 |p::ps,d::ds,u::us,f,tmps,hs,h1,h2,hp,hf,hr=>by
  simp only[List.zip_cons_cons,List.foldl_cons,setP]
  refine G5 ps ds us _ _ (by simpa using hs) (by simpa using h1) (by simpa using h2) (fun q hq=>hp q (by simp[hq])) (fun t=>?_) fun i a b=>by
   have :=hr (i+1) (by simpa using a) (by simpa using b)
   simpa using this
  have ae:p<tmps.size:=by rw[hs];exact hp p (by simp)
  by_cases ht:t=p
  ·subst ht
   rw[aH]
   have e:(tmps.setIfInBounds t u).getD t undef=u:=by simp[Array.getD,ae]
   rw[e]
   unfold bS
   simp only[if_true]
   exact hr 0 (by simp) (by simp)
  ·rw[aN _ _ _ ht]
   have e:(tmps.setIfInBounds p u).getD t undef=tmps.getD t undef:=by
    simp only[Array.getD_eq_getD_getElem?]
    rw[Array.getElem?_setIfInBounds_ne (fun h=>ht h.symm)]
   rw[e];exact hf t
theorem Bd{wa wb:World}{L:List Name}{φ:Name->Loc}{obj:Name->Option O}{l:Nat}(ht:uR wa L φ obj)(h:∃ r,wa.heap[l]?=some (.loop r))(hb:∀ b,b≠l->wb.heap[b]?=wa.heap[b]?):uR wb L φ obj:=by
 refine⟨fun q hq=>?_,ht.2⟩
 obtain⟨T,f,e⟩:=ht.1 q hq
 obtain⟨r,hr⟩:=h
 rw[hb q.1 (fun e'=>by rw[e',hr]at e;cases e)]
 exact⟨T,f,e⟩
theorem No{wa wb:World}{m:Mem}{L:List Name}{φ:Name->Loc}{obj:Name->Option O}{l:Nat}{h h' ht ht'}{φ1:Name->Loc}{m1:Mem}{σ1:S}{a1:Act}{w1 w2:World}
 (hC:aG (sg wa m L φ obj (some l) h ht) φ1 m1 σ1 a1 w1) (bf:wb.heap.size=wa.heap.size/\w2.heap.size=w1.heap.size) (ho:wb.os=w2.os/\wb.tape=w2.tape/\wb.output=w2.output)
 (hb:∀ b,b≠l->wb.heap[b]?=wa.heap[b]?) (h2:∀ b,b≠l->w2.heap[b]?=w1.heap[b]?) (hl:wb.heap[l]?=w2.heap[l]?):aG (sg wb m L φ obj (some l) h' ht') φ1 m1 σ1 a1 w2:=by
 obtain⟨KY,r,hr⟩:=h l rfl
 have ae:l<wa.heap.size:=(Array.getElem?_eq_some_iff.1 hr).1
 have bU:w1.heap[l]?=some (.loop r):=(hC.fr.block l ae KY).trans hr
 constructor
 ·exact hC.tmps
 ·exact hC.size
 ·obtain⟨ds,k1,k2,k3⟩:=hC.defers
  refine⟨ds,k1,k2,fun D hD=>?_⟩
  obtain⟨k4,k5⟩:=k3 D hD
  have ar:D≠l:=fun e=>by subst e;rw[bU]at k5;cases k5
  exact⟨by show wb.heap.size<=D;rw[bf.1];exact k4,(h2 D ar).trans k5⟩
 ·intro nm o dJ
  refine(hC.objs nm o dJ).ext (Mem.le_refl _) (Ext.refl _ _) fun k1 k2=>h2 _ fun e=>?_
  rcases hC.own nm ⟨o,dJ,k1,k2⟩with h3 | h3
  ·have h4:wa.heap.size<=(φ1 nm).blk:=h3
   omega
  ·rw[e]at h3;exact KY h3
 ·intro b off v hv
  have h3:=hC.mem b off v hv
  rw[qj (h2 b (fun e=>by subst e;unfold World.cell? at h3;simp[bU]at h3))]
  exact h3
 ·exact hC.apart
 ·exact hC.inj
 ·intro nm hh
  rcases hC.own nm hh with h3 | h3
  ·exact .inl (by show wb.heap.size<=_;rw[bf.1];exact h3)
  ·exact .inr h3
 ·refine⟨ho.1.symm,ho.2.1.symm,ho.2.2.symm,by show wb.heap.size<=_;rw[bf.1,bf.2];exact hC.fr.size,fun b h3 h4=>?_⟩
  show w2.heap[b]?=wb.heap[b]?
  by_cases e:b=l
  ·subst e;exact hl.symm
  ·rw[h2 b e,hb b e]
   exact hC.fr.block b (by have:b<wb.heap.size:=h3;show b<wa.heap.size;omega) h4
 ·intro b off v hv
  rcases hC.fresh b off v hv with h3 | h3 | h3
  ·exact .inl h3
  ·exact .inr (.inl (by show wb.heap.size<=_;rw[bf.1];exact h3))
  ·exact .inr (.inr h3)
 ·exact hC.kept
theorem ND{L:List Name}{obj:Name->Option O}{nm:Name}{x:Option O}(h:nm∉L){y:Name}(hy:y∈L):cl L (upd obj nm x) y=cl L obj y:=by
 unfold cl
 rw[aN _ _ _ (by rintro rfl;exact h hy)]
theorem Tr{L:List Name}{obj:Name->Option O}{nm:Name}{x:Option O}(h:nm∉L):js L (upd obj nm x)=js L obj:=by
 rw[yk,yk]
 congr 1
 exact List.map_congr_left fun y hy=>ND h hy
theorem D8{L:List Name}{φ:Name->Loc}{obj:Name->Option O}{nm:Name}{x:Option O}(h:nm∉L):nO L φ (upd obj nm x)=nO L φ obj:=by
 funext b
 refine propext ⟨fun ⟨y,h1,⟨o,h2,h3⟩,h4⟩=>?_,fun ⟨y,h1,⟨o,h2,h3⟩,h4⟩=>?_⟩
 ·rw[aN _ _ _ (by rintro rfl;exact h h1)]at h2
  exact⟨y,h1,⟨o,h2,h3⟩,h4⟩
 ·exact⟨y,h1,⟨o,by rw[aN _ _ _ (by rintro rfl;exact h h1)];exact h2,h3⟩,h4⟩
theorem ZD{w:World}{m:Mem}{L:List Name}{φ:Name->Loc}{obj:Name->Option O}{nm:Name}{x:Option O}{rd:Option Nat}(h:nm∉L){h1}{h2}{t1}{t2}:sg w m L φ (upd obj nm x) rd h1 t1=sg w m L φ obj rd h2 t2:=by
 unfold sg
 simp only[Tr h,D8 h]
theorem Gj{P:Program}{y:YSpec}(h:∀ env ps asg body os ds,y.pre env ps asg body os ds->ds.length=ps.length->
 CW P asg ⟨env.length,setP (so env) ps ds,bd os,[0],0⟩ (Ij fun σ1=>CW P body σ1 (SB os (y.out env ps asg body os ds)))):al P yid y.toSpec:=by
 refine⟨y.near,fun e=>(e rfl).elim,fun e=>(e rfl).elim,fun _ G φ m σ a w hC t nm ds us _ hl hr _ aa o Yl=>?_⟩
 simp only[YSpec.toSpec]at aa |-
 split at aa
 case h_2=>exact aa.elim
 rename_i env ps asg body aq
 try simp only[aq]
 obtain⟨aa,cG⟩:=aa
 simp only[Bool.and_eq_true,Bool.not_eq_true',decide_eq_true_eq]at aa
 obtain⟨⟨⟨⟨⟨fY,bR⟩,ck⟩,K0⟩,hlen⟩,fZ⟩:=aa
 have eR:nm∉reach σ.obj (roots env ds):=fun h=>by rw[gT.2 h]at K0;cases K0
 have kI:(reach σ.obj (roots env ds)).Nodup:=xU _ _ _ (by simp)
 obtain⟨_,cL,r,bU,dv,hr3,Dm,KM,KL,KJ,KI⟩:=hC.objs nm _ aq
 have ae:(φ nm).blk<w.heap.size:=(Array.getElem?_eq_some_iff.1 bU).1
 have rV:¬ nO (reach σ.obj (roots env ds)) φ σ.obj (φ nm).blk:=fun ⟨x,k1,k2,k3⟩=>eR (hC.inj _ _ k2 ⟨_,aq,rfl,cL⟩ k3▸k1)
 have bV:r.params.size=ps.length:=by rw[<-Dm];simp
 intro next Q rK
 rw[Yl,run_yield bU (by omega),Oper.uponIn_round]
 refine⟨fun h=>(by simp[fo,Fence.wide]at h),?_⟩
 rw[KM,KL]
 refine roundIn_of_wpIn trivial ?_
 have afM:=bR
 have Yy:∀ i (h:i<env.length),D.clos (cE (reach σ.obj (roots env ds))) env[i].d=true:=fun i hi=>by
  have :=ic (l:=roots env ds) (i:=i) (by simp[roots];omega) bR
  simp only[roots]at this |-
  rw[List.getElem_append_left (by simpa using hi)]at this
  simpa using this
 have Ea:∀ i (h:i<ds.length),D.clos (cE (reach σ.obj (roots env ds))) ds[i]=true:=fun i hi=>by
  have :=ic (l:=roots env ds) (i:=env.length+i) (by simp[roots];omega) bR
  simp only[roots]at this |-
  rw[List.getElem_append_right (by simp)]at this
  simpa using this
 obtain⟨q1,q2⟩:=G5 (φ:=lS (reach σ.obj (roots env ds)) φ) (obj:=js (reach σ.obj (roots env ds)) σ.obj) (m:=m) (n:=env.length) ps (ji σ.obj env ds) us.toList (so (ir σ.obj env ds)) r.tmps KJ
  (by simp[ji,gP];omega) (by simp[ji,gP];omega) (fun p hp=>by have:=List.all_eq_true.1 fZ p hp;simpa using this)
  (fun t=>by
    unfold so
    by_cases ht:t<env.length
    ·have:=(KI t ht).renx (Mem.le_refl m) xT (Yy t ht)
     have e:(ir σ.obj env ds).getD t eAny=E.ren (cin (reach σ.obj (roots env ds))) env[t]:=by
      rw[List.getD_eq_getElem?_getD,List.getElem?_eq_getElem (by simpa[ir]using ht)];simp[ir]
     rw[e];exact this
    ·have e:(ir σ.obj env ds).getD t eAny=eAny:=by
       rw[List.getD_eq_getElem?_getD,List.getElem?_eq_none (by simp[ir];omega)];rfl
     rw[e];unfold bS eAny;simp;exact .any _)
  (fun i a b=>by
    simp only[ji,gP,List.length_map]at a
    have :=(hr i a (by simpa using b)).renx (Mem.le_refl m) xT (Ea i a)
    simpa[ji,gP]using this)
 have gB:=Md hC (L:=reach σ.obj (roots env ds)) kI fY (rd:=some (φ nm).blk) (fun l e=>by cases e;exact⟨rV,r,bU⟩) (b0:=0) (nt:=env.length) q2 q1
 have mn:=h _ _ _ _ _ _ cG (by simp[ji,gP];omega)
 have Ye:(r.params.zip us).foldl (fun tmps (p:Nat×Value)=>tmps.setIfInBounds p.1 p.2) r.tmps=(ps.zip us.toList).foldl (fun tmps (p:Nat×Value)=>tmps.setIfInBounds p.1 p.2) r.tmps:=by
  rw[<-Dm,<-Array.toList_zip,Array.foldl_toList]
 have oF:(ir σ.obj env ds).length=env.length:=by simp[ir]
 rw[oF]at mn
 rw[yk]at gB
 have Yd:(r.params.zip us).foldl (fun tmps (x:Tmp×Value)=>match x with | (t,a)=>tmps.setIfInBounds t a) r.tmps=(ps.zip us.toList).foldl (fun tmps (p:Nat×Value)=>tmps.setIfInBounds p.1 p.2) r.tmps:=Ye
 rw[Yd]
 refine wpIn_mono (mn _ _ m _ w gB) ?_
 rintro e a1 w1 ⟨φ1,m1,σ1,fC,hK⟩
 cases e with
 |normal=>
  have KN:w1.heap[(φ nm).blk]?=some (.loop r):=(fC.fr.block _ ae rV).trans bU
  have bL:=(Array.getElem?_eq_some_iff.1 KN).1
  refine⟨_,run_beginRound KN dv,?_⟩
  have fy:w1.os=w.os/\w1.tape=w.tape/\w1.output=w.output:=⟨fC.fr.os,fC.fr.tape,fC.fr.output⟩
  have eU:=No (wb:=w.putObj (φ nm).blk (.loop { r with state:=.busy })) (w2:=w1.putObj (φ nm).blk (.loop { r with state:=.busy }))
   (h':=fun l e=>by cases e;exact⟨rV,_,World.putObj_heap_same ae⟩) (ht':=Bd (xB hC _) ⟨r,bU⟩ fun b hb=>World.putObj_heap_other hb) fC ⟨by simp,by simp⟩ ⟨fy.1.symm,fy.2.1.symm,fy.2.2.symm⟩
   (fun b hb=>World.putObj_heap_other hb) (fun b hb=>World.putObj_heap_other hb) (by rw[World.putObj_heap_same ae,World.putObj_heap_same bL])
  refine wpIn_mono (hK _ _ m1 _ _ eU) ?_
  rintro e a3 w3 ⟨φ3,m3,σ3,sa,oK⟩
  have Dn:w3.heap[(φ nm).blk]?=some (.loop { r with state:=.busy }):=(sa.fr.block _ (by show _<(w.putObj _ _).heap.size;simpa using ae) rV).trans (World.putObj_heap_same ae)
  have XY:=(Array.getElem?_eq_some_iff.1 Dn).1
  have fin:∀ bm:Option Code,(y.o σ.obj env ps asg body ds).2=bm->gI (cm σ.obj (roots env ds)) (y.o σ.obj env ps asg body ds).1 σ3->
      ∃ v w',(Instr.endRound (φ nm).blk bm).run P w3=.ok v w'/\next (a.put o.dst v) w':=by
   intro bm he hE
   refine⟨_,_,run_endRound bm Dn,?_⟩
   generalize Xx:({ r with state:=.busy }:Loop)=rb at Dn |-
   let rf:Loop:={ r with state:=if bm.isNone then .ready else .done,pending:=bm }
   have Xw:({ rb with state:=if bm.isNone then .ready else .done,pending:=bm }:Loop)=rf:=by rw[<-Xx]
   rw[Xw]
   have LW:=No (wb:=w.putObj (φ nm).blk (.loop rf)) (w2:=w3.putObj (φ nm).blk (.loop rf))
    (h':=fun l e=>by cases e;exact⟨rV,_,World.putObj_heap_same ae⟩) (ht':=Bd (xB hC _) ⟨r,bU⟩ fun b hb=>World.putObj_heap_other hb) sa ⟨by simp,by simp⟩
    ⟨(show (w.putObj (φ nm).blk (.loop rf)).os=(w3.putObj (φ nm).blk (.loop rf)).os from sa.fr.os.symm),(show (w.putObj (φ nm).blk (.loop rf)).tape=(w3.putObj (φ nm).blk (.loop rf)).tape from sa.fr.tape.symm),(show (w.putObj (φ nm).blk (.loop rf)).output=(w3.putObj (φ nm).blk (.loop rf)).output from sa.fr.output.symm)⟩
    (fun b hb=>by rw[World.putObj_heap_other hb,World.putObj_heap_other hb]) (fun b hb=>World.putObj_heap_other hb) (by rw[World.putObj_heap_same ae,World.putObj_heap_same XY])
   have bW:aG G φ m { σ with obj:=upd σ.obj nm (some (.loop env ps asg body (if bm.isNone then .ready else .done) bm)) } a (w.putObj (φ nm).blk (.loop rf)):=by
    have :=hC.chg (w':=w.putObj (φ nm).blk (.loop rf)) nm (.loop env ps asg body (if bm.isNone then .ready else .done) bm) (φ nm) (Ext.same aq rfl rfl) ⟨rfl,rfl,rfl,by simp⟩
     (fun b _ hb=>World.putObj_heap_other (by rcases hb with h | h; · rw[cL]at h;cases h
                                              ·exact h))
     (fun _=>.inr ⟨⟨_,aq,rfl,cL⟩,rfl⟩) (by
       rw[ep]
       refine⟨by assumption,cL,rf,World.putObj_heap_same ae,rfl,rfl,Dm,KM,KL,KJ,fun i hi=>(KI i hi).ext (Mem.le_refl m) ?_⟩
       have :=Ext.same (φ:=φ) (o':=.loop env ps asg body (if bm.isNone then .ready else .done) bm) aq rfl rfl
       rwa [ep]at this)
    rwa [ep]at this
   have Y9:shut (upd σ.obj nm (some (.loop env ps asg body (if bm.isNone then .ready else .done) bm))) (reach σ.obj (roots env ds))=true:=by
    rw[Bu (obj:=σ.obj) fun x hx=>aN _ _ _ (by rintro rfl;exact eR hx)];exact fY
   have zJ:(reach σ.obj (roots env ds)).map (cl (reach σ.obj (roots env ds)) (upd σ.obj nm (some (.loop env ps asg body (if bm.isNone then .ready else .done) bm))))=cm σ.obj (roots env ds):=
    List.map_congr_left fun x hx=>ND eR hx
   have Et:=MM hE
   rw[<-zJ]at Et
   have zl:∀ x∈(y.o σ.obj env ps asg body ds).1.new,nm≠x.1++t:=fun x hx e=>by
    have :=List.all_eq_true.1 ck x hx
    rw[<-e,aq]at this;cases this
   have Yc:fresh (upd σ.obj nm (some (.loop env ps asg body (if bm.isNone then .ready else .done) bm))) t (y.o σ.obj env ps asg body ds).1.new=true:=by
    rw[zV (obj:=σ.obj) fun x hx=>by
     obtain⟨z,hz,rfl⟩:=List.mem_map.1 hx
     exact aN _ _ _ (zl z hz).symm]
    exact ck
   rw[<-ZD (x:=some (.loop env ps asg body (if bm.isNone then .ready else .done) bm)) eR (h1:=fun l e=>by
    cases e;rw[D8 eR];exact⟨rV,_,World.putObj_heap_same ae⟩) (t1:=by unfold uR;rw[D8 eR];exact Bd (xB hC _) ⟨r,bU⟩ fun b hb=>World.putObj_heap_other hb)]at LW
   obtain⟨φ',m',k1,k2,k3,k4⟩:=Mc bW kI Y9 LW Et Yc
   refine rK _ φ' m' _ ?_ (.v _ _ ?_)
   ·have:(cX (reach σ.obj (roots env ds)) t (y.o σ.obj env ps asg body ds).1.new (b9 (reach σ.obj (roots env ds)) t (y.o σ.obj env ps asg body ds).1.upd (upd σ.obj nm (some (.loop env ps asg body (if bm.isNone then .ready else .done) bm)))))=
      upd (cX (reach σ.obj (roots env ds)) t (y.o σ.obj env ps asg body ds).1.new (b9 (reach σ.obj (roots env ds)) t (y.o σ.obj env ps asg body ds).1.upd σ.obj)) nm (some (.loop env ps asg body (if bm.isNone then .ready else .done) bm)):=by
      funext x
      have hu:((y.o σ.obj env ps asg body ds).1.upd.all fun x=>decide (x.1<(reach σ.obj (roots env ds)).length))=true:=List.all_eq_true.2 fun z hz=>by
       have :=List.all_eq_true.1 Et.cu z hz
       simp only[Bool.and_eq_true,List.length_map]at this;exact this.2
      by_cases e:x=nm
      ·subst e
       rw[aH,vi _ _ zl,BM _ _ hu eR,aH]
      ·rw[aN _ _ _ e]
       rw[qK (y.o σ.obj env ps asg body ds).1.new σ.obj (b9 _ _ _ (upd _ _ _)) x,qK (y.o σ.obj env ps asg body ds).1.new σ.obj (b9 _ _ _ σ.obj) x]
       by_cases h1:x∈(y.o σ.obj env ps asg body ds).1.new.map (fun x=>x.1++t)
       ·rw[if_pos h1,if_pos h1]
       ·rw[if_neg h1,if_neg h1]
        rw[tk (y.o σ.obj env ps asg body ds).1.upd σ.obj (upd _ _ _) x,tk (y.o σ.obj env ps asg body ds).1.upd σ.obj σ.obj x]
        by_cases h2:x∈(y.o σ.obj env ps asg body ds).1.upd.map (fun x=>(reach σ.obj (roots env ds)).getD x.1 [])
        ·rw[if_pos h2,if_pos h2]
        ·rw[if_neg h2,if_neg h2];exact aN _ _ _ e
    rw[this]at k2
    rw[he]
    exact k2
   ·rw[he];exact .bool _
  cases e with
  |normal=>exact fin none oK.1 oK.2
  |ret=>exact fin (some .ret) oK.1 oK.2
  |exit id=>exact fin (some (.exit id)) oK.1 oK.2
  |goto l=>exact oK.elim
  |panic ch=>exact oK.elim
  |outgrown=>exact oK.elim
 |ret=>exact hK.elim
 |exit id=>exact hK.elim
 |goto l=>exact hK.elim
 |panic ch=>exact hK.elim
 |outgrown=>exact hK.elim
theorem aaw{G:Ghost}{φ:Name->Loc}{m:Mem}{σ:S}{a:Act}{w:World}(hC:aG G φ m σ a w):
 aG G φ m σ { a with defers:=[{ target:=.collected w.heap.size,args:= #[] }]++a.defers } (w.alloc (.deferred (some []))):=by
 have hb:∀ b,b<w.heap.size->(w.alloc (.deferred (some []))).heap[b]?=w.heap[b]?:=fun b h=>RowKit.Below.heap_alloc w _ b h
 have h:=hC.imm (w':=w.alloc (.deferred (some []))) (Mem.le_refl m) ⟨rfl,rfl,rfl,by simp⟩ hb (fun _ _ _ h=>.inl h)
 refine⟨h.tmps,h.size,?_,h.objs,h.mem,h.apart,h.inj,h.own,h.fr,h.fresh,h.kept⟩
 obtain⟨ds,h1,h2,h3⟩:=h.defers
 have ae:∀ D∈ds,D<w.heap.size:=fun D hD=>by
  obtain⟨mu,k1,k2,k3⟩:=hC.defers
  have e:mu=ds:=by
   have :=k1.symm.trans h1
   have hi:Function.Injective (fun D:Nat=>({ target:=.collected D,args:= #[] }:Deferred)):=fun x y h=>by simpa using h
   exact(List.map_inj_right hi).1 this
  exact(Array.getElem?_eq_some_iff.1 (k3 D (e▸hD)).2).1
 refine⟨w.heap.size::ds,by rw[h1];rfl,List.nodup_cons.2 ⟨fun hm=>Nat.lt_irrefl _ (ae _ hm),h2⟩,fun D hD=>?_⟩
 rcases List.mem_cons.1 hD with rfl | hD
 ·exact⟨hC.fr.size,World.alloc_heap_new w _⟩
 ·exact h3 D hD
def lW(obj:Name->Option O)(nm:Name):Name->Option O:=upd obj nm (match obj nm with
 |some (.loop env ps asg body _ bm)=>some (.loop env ps asg body .exhausted bm)
 |o=>o)
def pA(K:Exit->S->Prop)(obj:Name->Option O)(nm:Name)(σ:S):Prop:=match obj nm with
 |some (.loop _ _ _ _ .busy _)=>False
 |some (.loop _ _ _ _ _ none)=>K .normal σ
 |some (.loop _ _ _ _ _ (some .ret))=>K .ret σ
 |some (.loop _ _ _ _ _ (some (.exit id)))=>K (.exit id) σ
 |_=>False
theorem Nb{P:Program}{Γ:FuncId->Option Spec}(hΓ:∀ f s,Γ f=some s->al P f s){g:Operand}{ps:Array Tmp}{asg body:Code}{σ:S}{K:Exit->S->Prop}(k k':Nat){f:FuncId}{s:Spec}
 (hc:cz σ g=true) (dL:fS (aj σ g)=some f) (ar:f≠yid) (hs:Γ f=some s) (rL:σ.obj (k::σ.pre)=none)
 (aa:(s.app (upd σ.obj (k::σ.pre) (some (.loop ((List.range σ.nt).map σ.env) ps.toList asg body .ready none))) (k'::σ.pre) (eo (aj σ g) [.yld (k::σ.pre)])).ok)
 (hK:pA K (s.app (upd σ.obj (k::σ.pre) (some (.loop ((List.range σ.nt).map σ.env) ps.toList asg body .ready none))) (k'::σ.pre) (eo (aj σ g) [.yld (k::σ.pre)])).obj (k::σ.pre)
   { σ with obj:=lW (s.app (upd σ.obj (k::σ.pre) (some (.loop ((List.range σ.nt).map σ.env) ps.toList asg body .ready none))) (k'::σ.pre) (eo (aj σ g) [.yld (k::σ.pre)])).obj (k::σ.pre) }):
 CW P (.rangeFunc g ps asg body) σ K:=by
 intro G φ m a w hC
 generalize aq:k::σ.pre=nm at *
 generalize Dx:upd σ.obj nm (some (.loop ((List.range σ.nt).map σ.env) ps.toList asg body .ready none))=pr at *
 generalize hR:s.app pr (k'::σ.pre) (eo (aj σ g) [.yld nm])=R at *
 have zu:=bP hC hc
 obtain⟨us,vs,fs,cs,hu,mo,e1,e2,bU,dv⟩:∃ (us vs:Array Value) (fs cs:List D),a.eval g=.func (.func f) us vs/\(∀ args,eo (aj σ g) args=fs++args++cs)/\fs.length=us.size/\cs.length=vs.size/\
  (∀ i (h:i<fs.length) (h':i<us.size),aw φ σ.obj m fs[i] us[i])/\(∀ i (h:i<cs.length) (h':i<vs.size),aw φ σ.obj m cs[i] vs[i]):=by
  generalize a.eval g=u at *
  generalize aj σ g=d at *
  unfold fS at dL
  split at dL
  ·rename_i f' fs cs
   split at dL
   ·cases dL
   cases dL
   cases zu with
   |v _ _ zu=>
   cases zu with
   |clo _ _ _ us vs e1 e2 h1 h2=>
   exact⟨us,vs,fs.map .v,cs.map .v,rfl,fun _=>rfl,by simpa using e1,by simpa using e2,fun i a b=>by simpa using .v _ _ (h1 i (by simpa using a) b),fun i a b=>by simpa using .v _ _ (h2 i (by simpa using a) b)⟩
  ·rename_i f' fs cs
   split at dL
   ·cases dL
   cases dL
   cases zu with
   |clo _ _ _ us vs e1 e2 h1 h2=>exact⟨us,vs,fs,cs,rfl,fun _=>rfl,e1,e2,h1,h2⟩
  ·cases dL;exact(ar rfl).elim
  ·cases dL
 refine wpIn_rangeFunc fun fn _=>?_
 have main:∀ (W:World) (a':Act) (D:Nat),aG G φ m σ a' W->a'.tmps=a.tmps->
     ∃ (d:Deferred) (sO:World) (f':FuncId) (args:Array Value) (w₂:World),
     (resolve a.eval (rangeCall g W.heap.size) 0).run P (W.alloc (.loop { state:=.ready,pending:=none,fn,tmps:=a.tmps,params:=ps,assign:=asg,body,defers:=D }))=.ok d sO/\
     (invoke d.target d.args).run P sO=.ok (.enter f' args) w₂/\
     CallsIn (fo G.rd) (0-1) P f' args w₂ (rangePost (fo G.rd) 0 P W.heap.size (fun e a' w'=>∃ φ' m' σ',aG G φ' m' σ' a' w'/\K e σ') a'):=by
  intro W a' D fC jI
  obtain⟨r,pL⟩:∃ r:Loop,r={ state:=.ready,pending:=none,fn,tmps:=a.tmps,params:=ps,assign:=asg,body,defers:=D }:=⟨_,rfl⟩
  rw[<-pL]
  have hx:=Ext.new (φ:=φ) rL ⟨W.heap.size,0,0,false,none⟩ (.loop ((List.range σ.nt).map σ.env) ps.toList asg body .ready none)
  have eU:=fC.chg (w':=W.alloc (.loop r)) nm (.loop ((List.range σ.nt).map σ.env) ps.toList asg body .ready none) ⟨W.heap.size,0,0,false,none⟩ hx ⟨rfl,rfl,rfl,by simp⟩
   (fun b hb _=>RowKit.Below.heap_alloc W _ b hb) (fun _=>.inl (Nat.le_refl _)) ⟨rfl,rfl,r,World.alloc_heap_new W _,by rw[pL],by rw[pL],by rw[pL],by rw[pL],by rw[pL],by
     rw[pL]
     show a.tmps.size=_
     rw[<-jI,fC.size];simp,fun i hi=>by
     simp only[List.getElem_map,List.getElem_range]
     rw[pL]
     show bS _ _ m _ (a.tmps.getD i undef)
     rw[<-jI]
     exact(fC.tmps i).ext (Mem.le_refl m) hx⟩
  rw[Dx]at eU hx
  refine⟨{ target:=.fn (.func f) vs,args:=us++ #[.func (.yield W.heap.size) #[] #[]] },W.alloc (.loop r),f,us++ #[.func (.yield W.heap.size) #[] #[]]++vs,W.alloc (.loop r),?_,?_,?_⟩
  ·have hy:a.eval (.const (.func (.yield W.heap.size) #[] #[]))=.func (.yield W.heap.size) #[] #[]:=rfl
   simp[resolve,Deferred.ofValue,hu,hy]
  ·simp[invoke,(hΓ f s hs).enter ar]
  ·refine MA ?_
   have YB:=(hΓ f s hs).calls ar G (upd φ nm ⟨W.heap.size,0,0,false,none⟩) m { σ with obj:=pr } a' (W.alloc (.loop r)) eU (k'::σ.pre) (eo (aj σ g) [.yld nm]) (us++ #[.func (.yield W.heap.size) #[] #[]]++vs) ⟨k',rfl⟩
   refine(YB ?_ ?_ ?_).mono ?_
   ·rw[mo];simp only[List.length_append,List.length_singleton,Array.size_append,e1,e2];rfl
   ·intro i h1 h2
    simp only[mo]
    have yY:aw (upd φ nm ⟨W.heap.size,0,0,false,none⟩) pr m (.yld nm) (.func (.yield W.heap.size) #[] #[]):=by
     have :=aw.yld (φ:=upd φ nm ⟨W.heap.size,0,0,false,none⟩) (obj:=pr) (m:=m) nm ⟨_,by rw[<-Dx,aH],rfl⟩
     rwa [aH]at this
    simp only[mo,List.length_append,List.length_singleton]at h1
    by_cases k1:i<fs.length
    ·have q1:i<us.size:=by omega
     simp only[List.append_assoc,Array.append_assoc]
     rw[List.getElem_append_left k1,Array.getElem_append_left q1]
     exact(bU i k1 q1).ext (Mem.le_refl m) hx
    ·by_cases k2:i=fs.length
     ·subst k2
      simp only[List.append_assoc,Array.append_assoc]
      rw[List.getElem_append_right (by omega),Array.getElem_append_right (by omega)]
      simp only[Nat.sub_self,e1,List.cons_append,List.getElem_cons_zero]
      rw[Array.getElem_append_left (by simp)]
      simpa using yY
     ·rw[List.getElem_append_right (by simp;omega),Array.getElem_append_right (by simp;omega)]
      have :=(dv (i-(fs.length+1)) (by omega) (by omega)).ext (Mem.le_refl m) hx
      simp only[List.length_append,List.length_singleton,Array.size_append,<-e1]
      exact this
   ·show (s.app pr _ _).ok
    rw[hR];exact aa
   ·rintro e w3 ⟨v,φ',m',rfl,sa,_,Xh⟩
    have h9:s.app pr (k'::σ.pre) (eo (aj σ g) [.yld nm])=R:=hR
    have LX:aG G φ' m' { σ with obj:=R.obj } a' w3:=by rw[<-h9];exact sa
    have Xg:Ext (upd φ nm ⟨W.heap.size,0,0,false,none⟩) φ' pr R.obj:=by rw[<-h9];exact Xh
    have XL:pr nm=some (.loop ((List.range σ.nt).map σ.env) ps.toList asg body .ready none):=by rw[<-Dx,aH]
    have DI:φ' nm=⟨W.heap.size,0,0,false,none⟩:=by
     obtain⟨o',k1,k2⟩:=Xg nm _ XL
     rcases k2 with⟨_,k2,_⟩ | ⟨n,n',k2,_⟩
     ·rw[k2,aH]
     ·cases k2
    unfold pA at hK
    have step:∀ {gH:List E} {gr:List Nat} {a1 b1:Code} {st:LoopState} {bm:Option Code},R.obj nm=some (.loop gH gr a1 b1 st bm)->st≠ .busy->
        ∃ w4,(Instr.endLoop W.heap.size).run P w3=.ok bm w4/\aG G φ' m' { σ with obj:=lW R.obj nm } a' w4:=by
     intro gH gr a1 b1 st bm ho db
     obtain⟨q0,q1,r',q2,q3,q4,q5,q6,q7,q8,q9⟩:=LX.objs nm _ ho
     rw[DI]at q2
     have Yp:(Instr.endLoop W.heap.size).run P w3=.ok bm (w3.putObj W.heap.size (.loop { r' with state:=.exhausted })):=by
      rw[run_endLoop (P:=P) q2 (by rw[q3];exact db),q4]
     refine⟨_,Yp,?_⟩
     have ae:=(Array.getElem?_eq_some_iff.1 q2).1
     have jA:lW R.obj nm=upd R.obj nm (some (.loop gH gr a1 b1 .exhausted bm)):=by unfold lW;rw[ho]
     rw[jA]
     have :=LX.chg (w':=w3.putObj W.heap.size (.loop { r' with state:=.exhausted })) nm (.loop gH gr a1 b1 .exhausted bm) (φ' nm) (Ext.same ho rfl rfl) ⟨rfl,rfl,rfl,by simp⟩
      (fun b _ hb=>World.putObj_heap_other (by
        rcases hb with h | h
        ·rw[q1]at h;cases h
        ·rw[DI]at h;exact h))
      (fun _=>.inr ⟨⟨_,ho,rfl,q1⟩,rfl⟩) (by
        rw[ep]
        refine⟨q0,q1,{ r' with state:=.exhausted },by rw[DI];exact World.putObj_heap_same ae,rfl,q4,q5,q6,q7,q8,fun i hi=>(q9 i hi).ext (Mem.le_refl _) ?_⟩
        have :=Ext.same (φ:=φ') (o':=.loop gH gr a1 b1 .exhausted bm) ho rfl rfl
        rwa [ep]at this)
     rw[ep]at this
     exact this
    rcases ho:R.obj nm with _ | o
    ·rw[ho]at hK;exact hK.elim
    rw[ho]at hK
    cases o with
    |loop gH gr a1 b1 st bm=>
     have db:st≠ .busy:=by rintro rfl;exact hK.elim
     obtain⟨w4,h1,h2⟩:=step ho db
     refine⟨bm,w4,h1,?_⟩
     cases bm with
     |none=>
      refine⟨φ',m',_,h2,?_⟩
      cases st<;>first | exact hK | exact(db rfl).elim
     |some c=>
      cases c with
      |ret=>exact wpIn_ret ⟨φ',m',_,h2,by cases st<;>first | exact hK | exact(db rfl).elim⟩
      |exit id=>exact wpIn_exit ⟨φ',m',_,h2,by cases st<;>first | exact hK | exact(db rfl).elim⟩
      |_=>exfalso;cases st<;>first | exact hK | exact(db rfl).elim
    |_=>exact hK.elim
 cases mb:G.rd with
 |none=>
  obtain⟨d,sO,f',args,w₂,h1,h2,h3⟩:=main (w.alloc (.deferred (some []))) _ w.heap.size (aaw hC) rfl
  rw[mb]at h3
  have bf:(w.alloc (.deferred (some []))).heap.size=w.heap.size+1:=by simp
  rw[bf]at h1 h3
  exact⟨w.heap.size+1,[{ target:=.collected w.heap.size,args:= #[] }],_,d,sO,f',args,w₂,run_enterLoop_outer _ _ _ _ _,h1,fun _ _=>trivial,h2,fun h=>(by simp[fo,Fence.wide]at h),h3⟩
 |some l=>
  obtain⟨dJ,r0,KO⟩:=G.rdok l mb
  have Xz:w.heap[l]?=some (.loop r0):=(hC.fr.block l (Array.getElem?_eq_some_iff.1 KO).1 dJ).trans KO
  obtain⟨d,sO,f',args,w₂,h1,h2,h3⟩:=main w a r0.defers hC rfl
  rw[mb]at h3
  exact⟨w.heap.size,[],_,d,sO,f',args,w₂,run_enterLoop_inner Xz _ _ _ _ _,h1,fun _ _=>trivial,h2,fun h=>(by simp[fo,Fence.wide]at h),h3⟩
theorem aaI{P:Program}{Γ:FuncId->Option Spec}(hΓ:∀ f s,Γ f=some s->al P f s){g:Operand}{ps:Array Tmp}{asg body:Code}{σ:S}{r:List Code}{K:Exit->S->Prop}(k k':Nat){f:FuncId}{s:Spec}
 (hc:cz σ g=true) (dL:fS (aj σ g)=some f) (ar:f≠yid) (hs:Γ f=some s) (rL:σ.obj (k::σ.pre)=none)
 (aa:(s.app (upd σ.obj (k::σ.pre) (some (.loop ((List.range σ.nt).map σ.env) ps.toList asg body .ready none))) (k'::σ.pre) (eo (aj σ g) [.yld (k::σ.pre)])).ok)
 (hK:pA (jk (fun σ'=>CL P r σ' K) K) (s.app (upd σ.obj (k::σ.pre) (some (.loop ((List.range σ.nt).map σ.env) ps.toList asg body .ready none))) (k'::σ.pre) (eo (aj σ g) [.yld (k::σ.pre)])).obj (k::σ.pre)
   { σ with obj:=lW (s.app (upd σ.obj (k::σ.pre) (some (.loop ((List.range σ.nt).map σ.env) ps.toList asg body .ready none))) (k'::σ.pre) (eo (aj σ g) [.yld (k::σ.pre)])).obj (k::σ.pre) }):
 CL P (.rangeFunc g ps asg body::r) σ K:=Nb hΓ k k' hc dL ar hs rL aa hK
theorem dq.refl(σ:S):dq σ σ:=fun _ φ _ _ _ hC=>⟨φ,hC⟩
theorem dq.trans{a b c:S}(h:dq a b)(k:dq b c):dq a c:=fun G φ m x w hC=>by
 obtain⟨φ',h'⟩:=h G φ m x w hC
 exact k G φ' m x w h'
theorem bk{σ τ:S}(ks:List Nat)(ns:List Name)(h:fE ks ns σ)(he:fN ks ns σ=τ):dq σ τ:=he▸A6 ks ns h
def nW(l c:List (Nat×E)):List (Nat×E):=l.map fun q=>(q.1,(c.lookup q.1).getD q.2)
def nU(l c:List (Name×O)):List (Name×O):=l.map fun q=>(q.1,(c.lookup q.1).getD q.2)
theorem kj{P:Program}{c:Code}{r:List Code}{σ:S}{K:Exit->S->Prop}(ks:List Nat)(ns:List Name)(h:fE ks ns σ)(hc:CL P (c::r) (fN ks ns σ) K):CL P (c::r) σ K:=
 wT (A6 ks ns h) hc
theorem cv{P:Program}{c:Code}{r:List Code}{K:Exit->S->Prop}{nt:Nat}{p:Name}{H:Name->Option O}{l:List (Nat×E)}{h:List (Name×O)}{ι:Type}
 (chg:ι->List (Nat×E)) (n7:ι->List (Name×O)) (R:ι->Prop) (μ:ι->Nat) (i0:ι) (hR:R i0) (he:nW l (chg i0)=l) (ho:nU h (n7 i0)=h)
 (round:∀ i,R i->CL P [c] (aU nt p H (nW l (chg i)) (nU h (n7 i))) (jk (fun σ'=>∃ i',R i'/\μ i'<μ i/\dq σ' (aU nt p H (nW l (chg i')) (nU h (n7 i')))) K)):
 CL P (.loop c::r) (aU nt p H l h) K:=by
 refine FA (fun i=>aU nt p H (nW l (chg i)) (nU h (n7 i))) R μ i0 hR ?_ round
 rw[he,ho]
 exact .refl _
theorem aaJ{P:Program}{c:Code}{r:List Code}{K:Exit->S->Prop}{nt:Nat}{p:Name}{H:Name->Option O}{l:List (Nat×E)}{h:List (Name×O)}{ι:Type}
 (Hc:ι->Name->Option O) (chg:ι->List (Nat×E)) (n7:ι->List (Name×O)) (R:ι->Prop) (μ:ι->Nat) (i0:ι) (hR:R i0) (hH:aU nt p (Hc i0) l h=aU nt p H l h) (he:nW l (chg i0)=l) (ho:nU h (n7 i0)=h)
 (round:∀ i,R i->CL P [c] (aU nt p (Hc i) (nW l (chg i)) (nU h (n7 i))) (jk (fun σ'=>∃ i',R i'/\μ i'<μ i/\dq σ' (aU nt p (Hc i') (nW l (chg i')) (nU h (n7 i')))) K)):
 CL P (.loop c::r) (aU nt p H l h) K:=by
 refine FA (fun i=>aU nt p (Hc i) (nW l (chg i)) (nU h (n7 i))) R μ i0 hR ?_ round
 rw[he,ho,hH]
 exact .refl _
attribute [go_sem] nW nU List.lookup_cons List.lookup_nil List.getElem?_toArray List.getElem?_cons_succ List.getElem?_cons_zero beq_true beq_false ite_self Bool.and_self Bool.or_self imp_self Bool.if_true_right Bool.if_false_right Bool.if_true_left Bool.if_false_left Bool.decide_eq_true
attribute [go_sem] vf gI qW vr distinct ew dd cD eL bd Bool.and_eq_true
def eO(a b:Nat):Bool:=Nat.ble a b
def gv(a b:Nat):Bool:=Nat.ble (a+1) b
def cg(a b:Nat):Bool:=Nat.beq a b
def cZ(a b:Int):Bool:=match b-a with
 | .ofNat _=>true
 | .negSucc _=>false
def j8(a b:Int):Bool:=match b-a-1 with
 | .ofNat _=>true
 | .negSucc _=>false
def tF{α:Type}:Option α->Bool
 |none=>true
 |some _=>false
def n8:Option Nat->Nat->Bool
 |some a,b=>Nat.beq a b
 |none,_=>false
def uO(sz:Nat):List V->Bool
 |[]=>true
 |x::r=>Nat.beq x.cells.length sz&&uO sz r
def uP(sz:Nat):List V->Bool
 |[]=>true
 |x::r=>Nat.beq x.cells.length sz&&x.okc&&uP sz r
def vB(a b:IntKind):Bool:=match a,b with
 | .i64,.i64=>true
 | .u8,.u8=>true
 | .u64,.u64=>true
 | .i32,.i32=>true
 | .u32,.u32=>true
 |_,_=>false
def CS(P:Program)(T:TypeId):Bool:=match P.underlying T with
 |some .bool=>true
 |_=>false
def isEq:BinOp->Bool
 | .eql=>true
 | .neq=>true
 |_=>false
def rh:Int->Bool
 | .ofNat 0=>true
 |_=>false
theorem re{a b:Nat}(h:eO a b=true):a<=b:=Nat.le_of_ble_eq_true h
theorem yr{a b:Nat}(h:gv a b=true):a<b:=Nat.le_of_ble_eq_true h
theorem j0{a b:Nat}(h:cg a b=true):a=b:=Nat.eq_of_beq_eq_true h
theorem fX{a b:Int}(h:cZ a b=true):a<=b:=by
 unfold cZ at h
 split at h
 ·rename_i n hn
  have :(0:Int)<=b-a:=by rw[hn];exact Int.natCast_nonneg n
  omega
 ·cases h
theorem W0{a b:Int}(h:j8 a b=true):a<b:=by
 unfold j8 at h
 split at h
 ·rename_i n hn
  have :(0:Int)<=b-a-1:=by rw[hn];exact Int.natCast_nonneg n
  omega
 ·cases h
theorem yl{α:Type}{o:Option α}(h:tF o=true):o=none:=by cases o<;>simp_all[tF]
theorem pt{o:Option Nat}{b:Nat}(h:n8 o b=true):o=some b:=by
 cases o with
 |none=>cases h
 |some a=>rw[Nat.eq_of_beq_eq_true h]
theorem AT{sz:Nat}:∀ {l:List V},uO sz l=true->∀ x∈l,x.cells.length=sz
 |y::r,h,x,hx=>by
  simp only[uO,Bool.and_eq_true]at h
  rcases List.mem_cons.1 hx with rfl | hx
  ·exact Nat.eq_of_beq_eq_true h.1
  ·exact AT h.2 x hx
theorem AU{sz:Nat}:∀ {l:List V},uP sz l=true->∀ x∈l,x.cells.length=sz/\x.okc=true
 |y::r,h,x,hx=>by
  simp only[uP,Bool.and_eq_true]at h
  rcases List.mem_cons.1 hx with rfl | hx
  ·exact⟨Nat.eq_of_beq_eq_true h.1.1,h.1.2⟩
  ·exact AU h.2 x hx
theorem Ka{a b:IntKind}(h:vB a b=true):a=b:=by unfold vB at h;split at h<;>first | rfl | cases h
theorem WJ{P:Program}{T:TypeId}(h:CS P T=true):P.underlying T=some .bool:=by unfold CS at h;split at h<;>first | assumption | cases h
theorem yP{op:BinOp}(h:isEq op=true):op=.eql\/op=.neq:=by cases op<;>first | exact .inl rfl | exact .inr rfl | cases h
theorem WE{n:Int}(h:rh n=false):n≠0:=by rintro rfl;cases h
section
variable (P:Program) (obj:Name->Option O)
def w9(T:TypeId)(x:D):Bool:=
 match a8 P T with
 |none=>false
 |some (ag,n)=>match x with
  | .v (.ptr cs)=>match ag with
    |true=>eO n cs.length
    |false=>cg n 1&&gv 0 cs.length
  | .ref nm off=>match obj nm with
    |some (.box cs)=>match ag with
     |true=>eO (off+n) cs.length
     |false=>cg n 1&&gv off cs.length
    |some (.fbox cs)=>match ag with
     |true=>eO (off+n) cs.length
     |false=>cg n 1&&gv off cs.length
    |_=>false
  | .aref nm k i off=>match obj nm with
    |some (.arr _ l)=>cg k l.length&&gv i l.length&&(match ag with
     |true=>eO (off+n) (l.getD i default).cells.length
     |false=>cg n 1&&gv off (l.getD i default).cells.length)
    |some (.farr _ l)=>cg k l.length&&gv i l.length&&(match ag with
     |true=>eO (off+n) (l.getD i default).cells.length
     |false=>cg n 1&&gv off (l.getD i default).cells.length)
    |_=>false
  |_=>false
def AK(T:TypeId)(f:Nat)(x:D):Bool:=
 match cM P T f with
 |none=>false
 |some (off,n,_)=>!cg n 0&&match x with
  | .v (.ptr cs)=>eO (off+n) cs.length
  | .ref _ _=>true
  | .aref nm k _ _=>match obj nm with
    |some o=>n8 o.len? k
    |none=>false
  |_=>false
def AI(T:TypeId)(x i:D):Bool:=
 match i with
 | .v (.int _ n)=>match x with
   | .v (.sl l)=>match bK P T with
     |some (_,sz,_)=>cZ 0 n&&j8 n l.length&&cg (l.getD n.toNat default).cells.length sz
     |none=>false
   | .msl nm k=>match bK P T with
     |some (_,sz,_)=>match obj nm with
      |some (.arr s l)=>cZ 0 n&&j8 n l.length&&cg k l.length&&cg s sz
      |some (.farr s l)=>cZ 0 n&&j8 n l.length&&cg k l.length&&cg s sz
      |_=>false
     |none=>false
   | .ref _ _=>match eZ P T with
     |some (len,_,_)=>cZ 0 n&&j8 n len
     |none=>false
   | .v (.ptr cs)=>match eZ P T with
     |some (len,sz,_)=>cZ 0 n&&j8 n len&&eO (n.toNat*sz+sz) cs.length
     |none=>false
   |_=>false
 |_=>false
def N6(op:BinOp)(k k':IntKind)(b:Int):Bool:=
 match op with
 | .quo=>vB k k'&&!rh b
 | .rem=>vB k k'&&!rh b
 | .shl=>cZ 0 b
 | .shr=>cZ 0 b
 |_=>vB k k'
def NW(op:BinOp)(a b:ByteArray):Bool:=
 match op with
 | .add=>eO (a.size+b.size) maxLen
 | .eql | .neq | .lss | .leq | .gtr | .geq=>true
 |_=>false
def FW(op:BinOp)(T:TypeId)(x y:D):Bool:=
 match x,y with
 | .v (.int k _),.v (.int k' b)=>N6 op k k' b
 | .v (.str a),.v (.str b)=>NW op a b
 | .v (.bool _),.v (.bool _)=>CS P T&&isEq op
 |_,_=>false
def FQ(op:BinOp)(T:TypeId)(x y:V):Bool:=
 match jJ P Op.maxDepth T x y with
 |some _=>!(P.eqGuardType P.depth T)&&isEq op
 |none=>false
def FN(op:BinOp)(T:TypeId)(x:D):Bool:=
 match x with
 | .v (.sl (_::_))=>n8 (dr P T) 0&&isEq op
 | .msl nm (k+1)=>(match obj nm with | some o=>n8 o.len? (k+1) | none=>false)&&n8 (dr P T) 0&&isEq op
 |_=>false
def AP(op:BinOp)(T:TypeId)(x y:D)(kE:Bool):Bool:=
 match kE with
 |true=>FN P obj op T x
 |false=>match dM x,dM y with
  |some (.agg a),some (.agg b)=>FQ P op T (.agg a) (.agg b)
  |_,_=>FW P op T x y
def Aw(op:UnOp)(x:D):Bool:=
 match op,x with
 | .not,.v (.bool _)=>true
 | .neg,.v (.int _ _)=>true
 |_,_=>false
def AN(src dst:TypeId)(x:D):Bool:=
 match lu P src dst with
 | 0=>match lV P dst,x with
   |some _,.v (.int _ _)=>(P.underlying src).isSome
   |_,_=>false
 |_=>false
def AM(x:D)(i:Nat):Bool:=
 match x with
 | .tup l=>gv i l.length
 | .v (.tup l)=>gv i l.length
 |_=>false
def AA(x:D):Bool:=
 match x with
 | .ref _ _=>true
 | .v (.ptr _)=>true
 | .aref nm k _ _=>match obj nm with
   |some o=>n8 o.len? k
   |none=>false
 |_=>false
def xb(t:Name)(x:D):Bool:=tF (obj (aR t))&&x.boxable
def AR(t:Name)(T:TypeId):Bool:=match be P T with
 |some z=>xb obj t (iS z)
 |none=>false
def AO(T:TypeId)(parts:List (Nat×D)):Bool:=
 match gn P T,be P T with
 |some ps,some z=>match iS z with
  | .agg cs=>match si (fun i=>ps[i]?) cs parts with
    |some _=>true
    |none=>false
  |_=>false
 |_,_=>false
def Ax(T:TypeId)(x d:D):Bool:=
 match a8 P T with
 |none=>false
 |some (_,n)=>match x with
  | .ref nm off=>match obj nm with
    |some (.box cs)=>d.boxable&&cg d.cells.length n&&eO (off+n) cs.length
    |_=>false
  | .aref nm k i off=>match obj nm with
    |some (.arr sz l)=>match dM d with
     |some y=>cg k l.length&&gv i l.length&&cg y.cells.length n&&y.okc&&eO (off+n) sz&&!cg sz 0
     |none=>false
    |_=>false
  |_=>false
def AE(t:Name)(T:TypeId)(r:Option D):Bool:=
 match lU P T,r with
 |some _,none=>tF (obj (aR t))
 |_,_=>false
def AD(t:Name)(T:TypeId)(l c:D):Bool:=
 match bK P T,l,c with
 |some (e,sz,by_),.v (.int _ n),.v (.int _ n')=>match (be P e).bind fun z=>dM (iS z)with
  |some zv=>cZ n n'&&cZ n' n&&cZ 0 n&&cZ ((by_:Int)*n) 281474976710656&&cZ n 9223372036854775807&&cg zv.cells.length sz&&zv.okc&&!cg sz 0&&tF (obj (aR t))
  |none=>false
 |_,_,_=>false
def AG(T:TypeId)(x:D):Bool:=
 match dr P T,x with
 |some 0,.v (.sl _)=>true
 |some 0,.nilsl=>true
 |some 0,.msl nm k=>match obj nm with
  |some o=>n8 o.len? k
  |none=>false
 |some 1,.v (.str _)=>true
 |some 2,.nilmap=>true
 |some 2,.map nm=>match obj nm with
  |some (.map _ _)=>true
  |_=>false
 |_,_=>false
def Ay(T:TypeId)(x:D)(lo hi mx:Option D):Bool:=
 match mx with
 |none=>match x with
  | .v (.sl l)=>match bK P T,fW lo,ka l.length hi with
    |some (_,sz,_),some i,some j=>cZ 0 i&&cZ i j&&cZ j l.length&&uO sz l
    |_,_,_=>false
  | .nilsl=>match bK P T,fW lo,ka 0 hi with
    |some (_,_,_),some i,some j=>rh i&&rh j
    |_,_,_=>false
  | .msl nm k=>match obj nm,bK P T,fW lo,ka k hi with
    |some (.arr _ l),some (_,sz,_),some i,some j=>cg k l.length&&cZ 0 i&&cZ i j&&cZ j l.length&&uO sz l
    |some (.farr _ l),some (_,sz,_),some i,some j=>cg k l.length&&cZ 0 i&&cZ i j&&cZ j l.length&&uO sz l
    |_,_,_,_=>false
  | .v (.str s)=>match dr P T,fW lo,ka s.size hi with
    |some 1,some i,some j=>cZ 0 i&&cZ i j&&cZ j s.size
    |_,_,_=>false
  |_=>false
 |some (.v (.int _ 0))=>match bK P T,fW lo,hi with
  |some _,some 0,some (.v (.int _ 0))=>match x with
   | .v (.sl _)=>true
   | .nilsl=>true
   | .msl nm k=>match obj nm with
     |some o=>n8 o.len? k
     |none=>false
   |_=>false
  |_,_,_=>false
 |some _=>false
def AL(T:TypeId)(x:D)(f:Nat):Bool:=
 match cM P T f with
 |none=>false
 |some (off,n,ag)=>match x with
  | .agg l=>match ag with
    |true=>eO (off+n) l.length
    |false=>gv off l.length
  | .v (.agg l)=>match ag with
    |true=>eO (off+n) l.length
    |false=>gv off l.length
  |_=>false
def AJ(T:TypeId)(x i:D):Bool:=
 match i with
 | .v (.int _ n)=>match x with
   | .v (.str s)=>n8 (dr P T) 1&&cZ 0 n&&j8 n s.size
   | .agg l=>match eZ P T with
     |some (len,sz,true)=>cZ 0 n&&j8 n len&&eO (n.toNat*sz+sz) l.length
     |some (len,sz,false)=>cZ 0 n&&j8 n len&&gv (n.toNat*sz) l.length
     |none=>false
   | .v (.agg l)=>match eZ P T with
     |some (len,sz,true)=>cZ 0 n&&j8 n len&&eO (n.toNat*sz+sz) l.length
     |some (len,sz,false)=>cZ 0 n&&j8 n len&&gv (n.toNat*sz) l.length
     |none=>false
   |_=>false
 |_=>false
def AF(T:TypeId)(x k:D):Bool:=
 match lU P T with
 |some (kd,e)=>match (be P e).bind fun z=>dM (iS z),dM k with
  |some _,some kv=>match x with
   | .nilmap=>eO kd 2&&dI kd kv
   | .map nm=>match obj nm with
     |some (.map j7 _)=>eO kd 2&&dI kd kv&&cg j7 kd
     |_=>false
   |_=>false
  |_,_=>false
 |none=>false
def w8(T:TypeId)(x k d:D):Bool:=
 match lU P T,x,dM k,dM d with
 |some (kd,_),.map nm,some kv,some _=>match obj nm with
  |some (.map j7 _)=>eO kd 2&&dI kd kv&&cg j7 kd
  |_=>false
 |_,_,_,_=>false
def Az(c:D):Bool:=match c with
 | .v (.bool _)=>true
 |_=>false
def w7(x:D):Bool:=match x with
 | .v (.sl _)=>true
 | .nilsl=>true
 | .msl nm k=>match obj nm with
   |some (.arr _ l)=>cg k l.length
   |some (.farr _ l)=>cg k l.length
   |_=>false
 |_=>false
def AQ(t:Name)(T1 T2:TypeId)(s x:D):Bool:=
 match bK P T1,bK P T2 with
 |some (e,sz,by_),some _=>match be P e with
  |some z=>match s with
   | .nilsl=>w7 obj x&&uP sz (aA obj x).2&&cg z.cells.size sz&&eO ((aA obj x).2.length*by_) 140737488355328&&eO (aA obj x).2.length maxLen&&tF (obj (aR t))
   | .msl nm k=>match obj nm with
     |some (.arr s' l)=>w7 obj x&&uP sz (aA obj x).2&&cg z.cells.size sz&&eO ((l.length+(aA obj x).2.length)*by_) 140737488355328&&
        eO (l.length+(aA obj x).2.length) maxLen&&cg k l.length&&cg s' sz
     |_=>false
   |_=>false
  |none=>false
 |_,_=>false
variable {P obj}
theorem pw{a b:Nat}:eO a b=true↔a<=b:=⟨re,Nat.ble_eq_true_of_le⟩
theorem vv{a b:Nat}:gv a b=true↔a<b:=⟨yr,Nat.ble_eq_true_of_le⟩
theorem px{a b:Nat}:cg a b=true↔a=b:=⟨j0,fun h=>by subst h;simp[cg]⟩
theorem yt{a b:Nat}:cg a b=false↔a≠b:=by
 rw[<-Bool.not_eq_true,px]
theorem Kz{a b:Int}:cZ a b=true↔a<=b:=⟨fX,fun h=>by
 unfold cZ
 split
 ·rfl
 ·rename_i n hn;have:=Int.negSucc_lt_zero n;omega⟩
theorem Ky{a b:Int}:j8 a b=true↔a<b:=⟨W0,fun h=>by
 unfold j8
 split
 ·rfl
 ·rename_i n hn;have:=Int.negSucc_lt_zero n;omega⟩
theorem Kp{n:Int}:rh n=true↔n=0:=⟨fun h=>(by unfold rh at h;split at h<;>first | rfl | cases h),fun h=>(by subst h;rfl)⟩
theorem FP{T:TypeId}{x:D}(h:w9 P obj T x=true):(jh P obj T x).ok:=by
 unfold w9 at h
 unfold jh
 (repeat' split at h)<;>simp_all[pw,vv,px,-List.getD_eq_getElem?_getD]
theorem N'{T:TypeId}{f:Nat}{x:D}(h:AK P obj T f x=true):(lj P obj T f x).ok:=by
 unfold AK at h
 unfold lj
 split at h
 ·cases h
 ·simp only[Bool.and_eq_true,Bool.not_eq_true',yt]at h
  obtain⟨h1,h⟩:=h
  (repeat' split at h)<;>simp_all[pw]
  exact pt h
theorem N8{T:TypeId}{x i:D}(h:AI P obj T x i=true):(lh P obj T x i).ok:=by
 unfold AI at h
 unfold lh
 (repeat' split at h)<;>simp_all[pw,px,Kz,Ky,-List.getD_eq_getElem?_getD]
theorem abm{op:BinOp}{T:TypeId}{x y:D}(h:FW P op T x y=true):(mL P obj op T x y).ok:=by
 unfold FW at h
 unfold mL
 split at h
 ·simp only
  unfold N6 at h
  unfold AH
  cases op<;>simp only[Bool.and_eq_true,Bool.not_eq_true']at h |- <;>first
   |exact⟨Ka h.1,WE h.2⟩
   |exact Ka h
   |exact fX h
 ·simp only
  unfold NW at h
  unfold w6
  cases op<;>simp only at h |- <;>first | exact re h | trivial | (cases h;done)
 ·simp only[Bool.and_eq_true]at h
  exact⟨WJ h.1,yP h.2⟩
 ·cases h
theorem abi{op:BinOp}{T:TypeId}{x y:V}(h:FQ P op T x y=true):(lL P obj op T x y).ok:=by
 unfold FQ at h
 unfold lL
 split at h
 ·rename_i b hb
  simp only[Bool.and_eq_true,Bool.not_eq_true']at h
  rw[hb]
  exact⟨h.1,yP h.2⟩
 ·cases h
theorem abg{op:BinOp}{T:TypeId}{x:D}(h:FN P obj op T x=true):(oW P obj op T x).ok:=by
 unfold FN at h
 unfold oW
 split at h
 ·simp only[Bool.and_eq_true]at h
  exact⟨pt h.1,yP h.2⟩
 ·rename_i nm k
  simp only[Bool.and_eq_true]at h
  refine⟨?_,pt h.1.2,yP h.2⟩
  have h1:=h.1.1
  split at h1
  ·rename_i o ho;rw[ho];exact pt h1
  ·cases h1
 ·cases h
theorem Oe{op:BinOp}{T:TypeId}{x y:D}{n:Bool}(h:AP P obj op T x y n=true):(lP P obj op T x y n).ok:=by
 unfold AP at h
 unfold lP
 cases n with
 |true=>exact abg h
 |false=>
  simp only at h |-
  split at h
  ·rename_i h1 h2
   simp only[h1,h2]
   exact abi h
  ·rename_i ar
   split
   ·rename_i h1 h2;exact(ar _ _ h1 h2).elim
   ·exact abm h
theorem NV{op:UnOp}{x:D}(h:Aw op x=true):(lG obj op x).ok:=by
 unfold Aw at h
 unfold lG
 split at h<;>first | trivial | cases h
theorem Oc{s d:TypeId}{x:D}(h:AN P s d x=true):(mK P obj s d x).ok:=by
 unfold AN at h
 unfold mK
 split at h
 ·rename_i h0
  rw[h0]
  show (oX P obj s d x).ok
  unfold oX
  (repeat' split at h)<;>simp_all
 ·cases h
theorem Oa{x:D}{i:Nat}(h:AM x i=true):(lK obj x i).ok:=by
 unfold AM at h
 unfold lK
 split at h<;>simp_all[vv]
theorem N0{x:D}(h:AA obj x=true):(ko obj x).ok:=by
 unfold AA at h
 unfold ko
 (repeat' split at h)<;>simp_all
 exact pt h
theorem FV{t:Name}{x:D}(h:xb obj t x=true):(lO obj t x).ok:=by
 simp only[xb,Bool.and_eq_true]at h
 exact⟨yl h.1,h.2⟩
theorem Og{t:Name}{T:TypeId}(h:AR P obj t T=true):(mM P obj t T).ok:=by
 unfold AR at h
 unfold mM
 split at h
 ·rename_i z hz;rw[hz];exact FV h
 ·cases h
theorem Od{T:TypeId}{ps:List (Nat×D)}(h:AO P T ps=true):(lN P obj T ps).ok:=by
 unfold AO at h
 unfold lN
 (repeat' split at h)<;>simp_all
theorem NX{T:TypeId}{x d:D}(h:Ax P obj T x d=true):(kn P obj T x d).ok:=by
 unfold Ax at h
 unfold kn
 (repeat' split at h)<;>simp_all[pw,vv,px,yt]
theorem N2{t:Name}{T:TypeId}{r:Option D}(h:AE P obj t T r=true):(mJ P obj t T r).ok:=by
 unfold AE at h
 unfold mJ
 (repeat' split at h)<;>simp_all
 exact yl h
theorem N1{t:Name}{T:TypeId}{l c:D}(h:AD P obj t T l c=true):(mI P obj t T l c).ok:=by
 unfold AD at h
 unfold mI
 split at h
 ·rename_i e sz by_ k n k' n' hT
  rw[hT]
  simp only
  split at h
  ·rename_i zv hz
   simp only[Bool.and_eq_true,Bool.not_eq_true',yt]at h
   obtain⟨⟨⟨⟨⟨⟨⟨⟨h1,h2⟩,h3⟩,h4⟩,h5⟩,h6⟩,h7⟩,h8⟩,h9⟩:=h
   rw[hz]
   exact⟨Int.le_antisymm (fX h2) (fX h1),fX h3,fX h4,fX h5,j0 h6,h7,h8,yl h9⟩
  ·cases h
 ·cases h
theorem N4{T:TypeId}{x:D}(h:AG P obj T x=true):(kq P obj T x).ok:=by
 unfold AG at h
 unfold kq
 (repeat' split at h)<;>simp_all
 exact pt h
theorem NY{T:TypeId}{x:D}{lo hi mx:Option D}(h:Ay P obj T x lo hi mx=true):(iL P obj T x lo hi mx).ok:=by
 unfold Ay at h
 unfold iL
 split at h
 ·split at h
  ·split at h
   ·rename_i h1 h2 h3
    simp only[Bool.and_eq_true]at h
    simp only[h1,h2,h3]
    exact⟨fX h.1.1.1,fX h.1.1.2,fX h.1.2,AT h.2⟩
   ·cases h
  ·split at h
   ·rename_i h1 h2 h3
    simp only[Bool.and_eq_true]at h
    simp only[h1,h2,h3]
    exact⟨Kp.1 h.1,Kp.1 h.2⟩
   ·cases h
  ·split at h
   ·rename_i h1 h2 h3 h4
    simp only[Bool.and_eq_true]at h
    simp only[h1,h2,h3,h4]
    exact⟨j0 h.1.1.1.1,fX h.1.1.1.2,fX h.1.1.2,fX h.1.2,AT h.2⟩
   ·rename_i h1 h2 h3 h4
    simp only[Bool.and_eq_true]at h
    simp only[h1,h2,h3,h4]
    exact⟨j0 h.1.1.1.1,fX h.1.1.1.2,fX h.1.1.2,fX h.1.2,AT h.2⟩
   ·cases h
  ·split at h
   ·rename_i h1 h2 h3
    simp only[Bool.and_eq_true]at h
    simp only[h1,h2,h3]
    exact⟨fX h.1.1,fX h.1.2,fX h.2⟩
   ·cases h
  ·cases h
 ·split at h
  ·rename_i h1 h2 h3
   split at h
   ·simp only[h2,h3]
   ·simp only[h2,h3]
   ·split at h
    ·rename_i o ho
     simp only[h2,h3,ho]
     exact pt h
    ·cases h
   ·cases h
  ·cases h
 ·cases h
theorem N9{T:TypeId}{x:D}{f:Nat}(h:AL P T x f=true):(lJ P obj T x f).ok:=by
 unfold AL at h
 unfold lJ
 (repeat' split at h)<;>simp_all[pw,vv]
theorem N7{T:TypeId}{x i:D}(h:AJ P T x i=true):(lI P obj T x i).ok:=by
 unfold AJ at h
 unfold lI
 (repeat' split at h)<;>simp_all[pw,vv,Kz,Ky]
 exact pt h.1.1
theorem N3{T:TypeId}{x k:D}{c:Bool}(h:AF P obj T x k=true):(lH P obj T x k c).ok:=by
 unfold AF at h
 unfold lH
 (repeat' split at h)<;>simp_all[pw,px]
theorem AB{T:TypeId}{x k d:D}(h:w8 P obj T x k d=true):(jP P obj T x k d).ok:=by
 unfold w8 at h
 unfold jP
 (repeat' split at h)<;>simp_all[pw,px]
theorem NZ{c x y:D}(h:Az c=true):(jg obj c x y).ok:=by
 unfold Az at h
 unfold jg
 split at h<;>first | trivial | cases h
theorem FM{x:D}(h:w7 obj x=true):(aA obj x).1:=by
 unfold w7 at h
 unfold aA
 (repeat' split at h)<;>simp_all[px]
theorem Of{t:Name}{T1 T2:TypeId}{s x:D}(h:AQ P obj t T1 T2 s x=true):(cw P obj t T1 T2 s x).ok:=by
 unfold AQ at h
 unfold cw
 split at h
 ·rename_i e sz by_ p h1 h2
  split at h
  ·rename_i z hz
   split at h
   ·simp only[Bool.and_eq_true]at h
    simp only[h1,h2,hz]
    exact⟨FM h.1.1.1.1.1,AU h.1.1.1.1.2,j0 h.1.1.1.2,re h.1.1.2,re h.1.2,yl h.2⟩
   ·split at h
    ·rename_i ho
     simp only[Bool.and_eq_true]at h
     simp only[h1,h2,hz,ho]
     exact⟨FM h.1.1.1.1.1.1,AU h.1.1.1.1.1.2,j0 h.1.1.1.1.2,re h.1.1.1.2,re h.1.1.2,j0 h.1.2,j0 h.2⟩
    ·cases h
   ·cases h
  ·cases h
 ·cases h
end
def oM(f:(Name->Option O)->D->Bool)(g:(Name->Option O)->D->FR)(obj:Name->Option O):List D->Bool
 |[]=>true
 |d::r=>f obj d&&oM f g (g obj d).obj r
def kf:Nat->(Name->Option O)->D->Bool
 | 0,obj,d=>match d with
   | .v _=>true
   | .nilsl=>true
   |_=>false
 |n+1,obj,d=>match d with
  | .v _=>true
  | .nilsl=>true
  | .msl nm k=>match obj nm with
    |some (.arr _ l)=>decide (k=l.length)
    |some (.farr _ l)=>decide (k=l.length)
    |_=>false
  | .ref nm _=>match obj nm with
    |some (.box cs)=>oM (kf n) (ax n) obj cs&&!cE (dA (fp n obj) cs) nm
    |some (.fbox _)=>true
    |_=>false
  | .agg l=>oM (kf n) (ax n) obj l
  | .tup l=>oM (kf n) (ax n) obj l
  | .clo _ f c=>oM (kf n) (ax n) obj f&&oM (kf n) (ax n) (aM (ax n) obj f).obj c
  |_=>false
theorem EF{n:Nat}(ih:∀ obj d,kf n obj d=true->(ax n obj d).ok):∀ (l:List D) (obj:Name->Option O),oM (kf n) (ax n) obj l=true->(aM (ax n) obj l).ok
 |[],_,_=>trivial
 |d::r,obj,h=>by
  simp only[oM,Bool.and_eq_true]at h
  exact⟨ih obj d h.1,EF ih r _ h.2⟩
theorem L9:∀ (n:Nat) (obj:Name->Option O) (d:D),kf n obj d=true->(ax n obj d).ok
 | 0,obj,d,h=>by cases d<;>first | trivial | (simp[kf]at h)
 |n+1,obj,d,h=>by
  have ih:=EF (L9 n)
  cases d with
  |v x=>trivial
  |nilsl=>trivial
  |msl nm k=>
   simp only[kf]at h
   unfold ax
   rcases ho:obj nm with _ | o
   ·simp[ho]at h
   ·cases o<;>simp[ho]at h |- <;>exact h
  |ref nm off=>
   simp only[kf]at h
   rcases ho:obj nm with _ | o
   ·simp[ho]at h
   ·cases o with
    |box cs=>
     simp only[ho,Bool.and_eq_true,Bool.not_eq_true']at h
     simp only[ax,ho]
     refine⟨ih cs obj h.1,?_⟩
     have :=(wF (zU n) cs obj obj (dA (fp n obj) cs) (fun _ hn=>hn) (fun _ _=>rfl)).2.frame nm (fun hn=>by rw[gT.2 hn]at h;cases h.2)
     rw[this,ho]
    |fbox cs=>simp only[ax,ho]
    |_=>simp[ho]at h
  |agg l=>exact ih l obj h
  |tup l=>exact ih l obj h
  |clo fn f c=>
   simp only[kf,Bool.and_eq_true]at h
   exact⟨ih f obj h.1,ih c _ h.2⟩
  |_=>simp[kf]at h
def isNil{α:Type}:List α->Bool
 |[]=>true
 |_=>false
theorem WG{α:Type}{l:List α}:isNil l=true↔l=[]:=by cases l<;>simp[isNil]
def yN:Nat->List Nat->Bool
 |_,[]=>true
 |k,x::r=>cg x k&&yN (k+1) r
theorem Kq:∀ {k:Nat} {l:List Nat},yN k l=true->l=List.range' k l.length
 |k,[],_=>rfl
 |k,x::r,h=>by
  simp only[yN,Bool.and_eq_true]at h
  rw[j0 h.1,List.length_cons,List.range'_succ]
  congr 1
  exact Kq h.2
def FJ(P:Program)(obj:Name->Option O)(T:TypeId)(n:Nat)(parts:List (Nat×D)):Bool:=
 match bK P T with
 |some (e,sz,_)=>match cg n 0&&isNil parts with
  |true=>(be P e).isSome
  |false=>oM (kf 4) (ax 4) obj (parts.map fun p=>p.2)&&yN 0 (parts.map fun p=>p.1)&&cg parts.length n&&uP sz (aM (ax 4) obj (parts.map fun p=>p.2)).xs&&
     eO (n*sz) 16777216&&!cg sz 0&&(be P e).isSome&&gv 0 n
 |none=>false
theorem aa4{P:Program}{obj:Name->Option O}{T:TypeId}{n:Nat}{parts:List (Nat×D)}(h:FJ P obj T n parts=true):(nK P obj T n parts).ok:=by
 unfold FJ at h
 unfold nK
 split at h
 ·rename_i e sz by_ hT
  rw[hT]
  simp only
  split at h
  ·rename_i hc
   simp only[Bool.and_eq_true,px,WG]at hc
   rw[if_pos hc];exact h
  ·rename_i hc
   have jH:¬ (n=0/\parts=[]):=by
    intro ⟨a,b⟩
    subst a;subst b
    cases hc
   rw[if_neg jH]
   simp only[Bool.and_eq_true,Bool.not_eq_true',yt]at h
   obtain⟨⟨⟨⟨⟨⟨⟨h1,h2⟩,EA⟩,h3⟩,h4⟩,h5⟩,h6⟩,h7⟩:=h
   refine⟨?_,EF (L9 4) _ _ h1,AU h3,re h4,h5,h6,yr h7⟩
   have :=Kq h2
   rw[List.length_map,j0 EA,<-List.range_eq_range']at this
   exact this
 ·cases h
def FI(P:Program)(σ:S)(t:Name)(b:Builtin)(ts:List TypeId)(args:List D):Bool:=
 match b,ts,args with
 | .len,[T],[x]=>AG P σ.obj T x
 | .append,[T1,T2],[s,x]=>AQ P σ.obj t T1 T2 s x
 | .min,_,[.v (.int _ _),.v (.int _ _)]=>true
 | .max,_,[.v (.int _ _),.v (.int _ _)]=>true
 |_,_,_=>false
def Ii(P:Program)(σ:S)(t:Name):Op->Bool
 | .move _=>true
 | .assign _=>true
 | .pick c _ _=>Az (aj σ c)
 | .alloc T=>AR P σ.obj t T
 | .box _ x=>xb σ.obj t (aj σ x)
 | .build T ps=>AO P T (ps.toList.map fun p=>(p.1,aj σ p.2))
 | .buildSlice T n ps=>FJ P σ.obj T n (ps.toList.map fun p=>(p.1,aj σ p.2))
 | .load T x=>w9 P σ.obj T (aj σ x)
 | .store T x d=>Ax P σ.obj T (aj σ x) (aj σ d)
 | .nilCheck x=>AA σ.obj (aj σ x)
 | .binOp op T x y _=>AP P σ.obj op T (aj σ x) (aj σ y) (yO y)
 | .unOp op _ x=>Aw op (aj σ x)
 | .convert s d x=>AN P s d (aj σ x)
 | .makeFunc _ _ _=>true
 | .makeMap T r=>AE P σ.obj t T (r.map (aj σ))
 | .makeSlice T l c=>AD P σ.obj t T (aj σ l) (aj σ c)
 | .slice T x lo hi mx=>Ay P σ.obj T (aj σ x) (lo.map (aj σ)) (hi.map (aj σ)) (mx.map (aj σ))
 | .fieldAddr T x f=>AK P σ.obj T f (aj σ x)
 | .field T x f=>AL P T (aj σ x) f
 | .indexAddr T x i=>AI P σ.obj T (aj σ x) (aj σ i)
 | .index T x i=>AJ P T (aj σ x) (aj σ i)
 | .lookup T x i _=>AF P σ.obj T (aj σ x) (aj σ i)
 | .mapUpdate T x k d=>w8 P σ.obj T (aj σ x) (aj σ k) (aj σ d)
 | .insert T x k d=>w8 P σ.obj T (aj σ x) (aj σ k) (aj σ d)
 | .extract x i=>AM (aj σ x) i
 | .call ⟨.builtin b,args,ts⟩=>FI P σ t b ts.toList (args.toList.map (aj σ))
 |_=>false
theorem aa3{P:Program}{σ:S}{t:Name}{b:Builtin}{ts:List TypeId}{args:List D}(h:FI P σ t b ts args=true):(lM P σ t b ts args).ok:=by
 unfold FI at h
 split at h
 ·exact N4 h
 ·exact Of h
 ·trivial
 ·trivial
 ·cases h
theorem Tl{P:Program}{Γ:FuncId->Option Spec}{σ:S}{t:Name}{op:Op}(h:Ii P σ t op=true):(aS P Γ σ t op).ok:=by
 cases op with
 |call c=>
  obtain⟨callee,args,ts⟩:=c
  cases callee with
  |value f=>cases h
  |builtin b=>exact aa3 h
  |invoke=>cases h
 |move=>trivial
 |assign=>trivial
 |makeFunc=>trivial
 |pick=>exact NZ h
 |alloc=>exact Og h
 |box=>exact FV h
 |build=>exact Od h
 |buildSlice=>exact aa4 h
 |load=>exact FP h
 |store=>exact NX h
 |nilCheck=>exact N0 h
 |binOp=>exact Oe h
 |unOp=>exact NV h
 |convert=>exact Oc h
 |makeMap=>exact N2 h
 |makeSlice=>exact N1 h
 |slice=>exact NY h
 |fieldAddr=>exact N' h
 |field=>exact N9 h
 |indexAddr=>exact N8 h
 |index=>exact N7 h
 |lookup=>exact N3 h
 |mapUpdate=>exact AB h
 |insert=>exact AB h
 |extract=>exact Oa h
 |_=>cases h
end Go.Eng
