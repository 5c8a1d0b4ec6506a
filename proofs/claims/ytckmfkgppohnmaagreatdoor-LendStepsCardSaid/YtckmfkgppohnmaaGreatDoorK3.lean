import Derived.Test.YtckmfkgppohnmaaGreatDoorK2
/- Texts Eng17 to EngX. -/
set_option linter.all false
namespace Go.Eng
open Go
def bE(Γ:FuncId->Option Spec)(σ:S)(t:Name):Op->List Name
 | .alloc _ | .box _ _ | .makeMap _ _ | .makeSlice _ _ _=>[aM t]
 | .load _ x | .nilCheck x | .fieldAddr _ x _ | .indexAddr _ x _ | .lookup _ x _ _ | .store _ x _ | .mapUpdate _ x _ _ | .insert _ x _ _ | .slice _ x _ _ _=>aH (ai σ x)
 | .binOp _ _ x _ _=>aH (ai σ x)
 | .buildSlice _ _ ps=>dB (fp 4 σ.obj) (ps.toList.map fun p=>ai σ p.2)
 | .call ⟨.value f,args,_⟩=>match (eO (ai σ f)).bind Γ with
   |some s=>s.foot σ.obj t (dN (ai σ f) (args.toList.map (ai σ)))
   |none=>[]
 | .call ⟨.builtin .append,args,_⟩=>match args.toList with
   |[s,x]=>aH (ai σ s)++aH (ai σ x)++[aM t]
   |_=>[]
 | .call ⟨.builtin .len,args,_⟩=>match args.toList with
   |[x]=>aH (ai σ x)
   |_=>[]
 |_=>[]
def bn(Γ:FuncId->Option Spec)(σ:S)(t:Name):Op->List Name
 | .alloc _ | .box _ _ | .makeMap _ _ | .makeSlice _ _ _=>[aM t]
 | .store _ x _ | .mapUpdate _ x _ _ | .insert _ x _ _=>aH (ai σ x)
 | .slice _ x _ _ _=>muts σ.obj (aH (ai σ x))
 | .buildSlice _ _ ps=>muts σ.obj (dB (fp 4 σ.obj) (ps.toList.map fun p=>ai σ p.2))
 | .call ⟨.value f,args,_⟩=>match (eO (ai σ f)).bind Γ with
   |some s=>s.wrt σ.obj t (dN (ai σ f) (args.toList.map (ai σ)))
   |none=>[]
 | .call ⟨.builtin .append,args,_⟩=>match args.toList with
   |[s,x]=>aH (ai σ s)++aH (ai σ x)++[aM t]
   |_=>[]
 |_=>[]
theorem ZV{P:Program}{obj:Name->Option O}{T:TypeId}{x:D}{lo hi mx:Option D}:Fz obj (ia P obj T x lo hi mx).obj:=by
 unfold ia
 repeat' split
 all_goals first
  |exact .refl obj
  |exact Fz.one (.refl obj) (by assumption) rfl rfl
theorem bx.muts{r r2:R}{obj obj2:Name->Option O}{W:List Name}(h:bx r r2 obj obj2 W)(hz:Fz obj r.obj)(ha:bq W obj obj2):bx r r2 obj obj2 (muts obj W):=by
 refine kz.like (W:=W) ⟨h.ok,fun nm hn=>?_,h.frame,fun nm hn=>?_⟩ h.d hz ha
 ·rw[h.eff nm,if_pos hn]
 ·rw[h.eff nm,if_neg hn]
theorem BN{ok:Prop}{d:D}{obj obj2:Name->Option O}:bx ⟨ok,d,obj⟩ ⟨ok,d,obj2⟩ obj obj2 []:=.same rfl rfl rfl rfl
theorem SV{P:Program}{obj obj2:Name->Option O}{T:TypeId}{ps:List (Nat×D)}:bx (lg P obj T ps) (lg P obj2 T ps) obj obj2 []:=by
 unfold lg
 (repeat' split)<;>exact .same rfl rfl rfl rfl
theorem SU{P:Program}{obj obj2:Name->Option O}{T:TypeId}{n:Nat}{ps:List (Nat×D)}(h:bq (dB (fp 4 obj) (ps.map (·.2))) obj obj2):
 bx (np P obj T n ps) (np P obj2 T n ps) obj obj2 (muts obj (dB (fp 4 obj) (ps.map (·.2)))):=by
 have hm:bq (muts obj (dB (fp 4 obj) (ps.map (·.2)))) obj obj2:=fun nm hn=>h nm (List.mem_filter.1 hn).1
 obtain⟨h1,h2⟩:=vQ (zd 4) (ps.map (·.2)) obj obj2 _ (fun _ hn=>hn) h
 unfold np
 split
 ·split
  ·exact .none _ hm
  ·refine kz.like ⟨?_,h2.agr,h2.frame,h2.frame2⟩ (by rw[h1]) (vR (vP 4) _ obj) h
   rw[h1,h2.ok]
 ·exact .none _ hm
theorem SX{P:Program}{obj obj2:Name->Option O}{op:BinOp}{T:TypeId}{x y:D}:bx (mq P obj op T x y) (mq P obj2 op T x y) obj obj2 []:=by
 unfold mq
 (repeat' split)<;>first | exact .same rfl rfl rfl rfl | (exfalso;simp_all;done)
theorem SW{P:Program}{obj obj2:Name->Option O}{op:BinOp}{T:TypeId}{x y:D}{j':Bool}(h:bq (aH x) obj obj2):bx (lj P obj op T x y j') (lj P obj2 op T x y j') obj obj2 []:=by
 unfold lj
 cases j' with
 |true=>
  simp only
  unfold ov
  split
  ·exact .same rfl rfl rfl rfl
  ·rename_i nm k
   have h':obj2 nm=obj nm:=h nm (by simp[aH])
   rw[h']
   exact .same rfl rfl rfl rfl
  ·exact .same rfl rfl rfl rfl
 |false=>
  simp only
  split
  ·unfold ld
   split<;>exact .same rfl rfl rfl rfl
  ·exact SX
theorem SB{obj obj2:Name->Option O}{op:UnOp}{x:D}:bx (kV obj op x) (kV obj2 op x) obj obj2 []:=by
 unfold kV
 (repeat' split)<;>first | exact .same rfl rfl rfl rfl | (exfalso;simp_all;done)
theorem SQ{P:Program}{obj obj2:Name->Option O}{T T':TypeId}{x:D}:bx (mo P obj T T' x) (mo P obj2 T T' x) obj obj2 []:=by
 unfold mo ow
 (repeat' split)<;>first | exact .same rfl rfl rfl rfl | (exfalso;simp_all;done)
theorem SO{P:Program}{obj obj2:Name->Option O}{T:TypeId}{x:D}{f:Nat}:bx (kY P obj T x f) (kY P obj2 T x f) obj obj2 []:=by
 unfold kY
 (repeat' split)<;>first | exact .same rfl rfl rfl rfl | (exfalso;simp_all;done)
theorem SM{P:Program}{obj obj2:Name->Option O}{T:TypeId}{x y:D}:bx (kX P obj T x y) (kX P obj2 T x y) obj obj2 []:=by
 unfold kX
 (repeat' split)<;>first | exact .same rfl rfl rfl rfl | (exfalso;simp_all;done)
theorem SP{obj obj2:Name->Option O}{x:D}{i:Nat}:bx (kZ obj x i) (kZ obj2 x i) obj obj2 []:=by
 unfold kZ
 (repeat' split)<;>first | exact .same rfl rfl rfl rfl | (exfalso;simp_all;done)
theorem SE{obj obj2:Name->Option O}{c x y:D}:bx (iD obj c x y) (iD obj2 c x y) obj obj2 []:=by
 unfold iD
 split<;>exact .same rfl rfl rfl rfl
theorem SS{Γ:FuncId->Option Spec}(hN:∀ f s,Γ f=some s->s.Near){σ σ2:S}{t:Name}{f:D}{args:List D}
 (h:bq (match (eO f).bind Γ with | some s=>s.foot σ.obj t (dN f args) | none=>[]) σ.obj σ2.obj):
 bx (rR Γ σ t f args) (rR Γ σ2 t f args) σ.obj σ2.obj (match (eO f).bind Γ with | some s=>s.wrt σ.obj t (dN f args) | none=>[])/\
 (match (eO f).bind Γ with | some s=>s.foot σ2.obj t (dN f args) | none=>[])=(match (eO f).bind Γ with | some s=>s.foot σ.obj t (dN f args) | none=>[]):=by
 unfold rR
 rcases hs:(eO f).bind Γ with _ | s
 ·exact⟨.same rfl rfl rfl rfl,rfl⟩
 ·simp only[hs]at h |-
  obtain⟨g,_,hs⟩:=Option.bind_eq_some_iff.1 hs
  exact⟨(hN g s hs).like _ _ _ _ h,(hN g s hs).foot _ _ _ _ h⟩
theorem E'{P:Program}{Γ:FuncId->Option Spec}(hN:∀ f s,Γ f=some s->s.Near){σ σ2:S}(t:Name)(op:Op)
 (ho:∀ x∈op.operands.toList,ai σ2 x=ai σ x) (h:bq (bE Γ σ t op) σ.obj σ2.obj):
 bx (aQ P Γ σ t op) (aQ P Γ σ2 t op) σ.obj σ2.obj (bn Γ σ t op)/\bE Γ σ2 t op=bE Γ σ t op:=by
 cases op with
 |move x=>exact⟨by simp only[aQ,ho x (by simp[Op.operands])];exact BN,rfl⟩
 |assign x=>exact⟨by simp only[aQ,ho x (by simp[Op.operands])];exact BN,rfl⟩
 |pick c x y=>exact⟨by simp only[aQ,ho c (by simp[Op.operands]),ho x (by simp[Op.operands]),ho y (by simp[Op.operands])];exact SE,rfl⟩
 |alloc T=>exact⟨SY h,rfl⟩
 |box T x=>exact⟨by simp only[aQ,ho x (by simp[Op.operands])];exact HX h,rfl⟩
 |build T ps=>
  have hp:(ps.toList.map fun p=>(p.1,ai σ2 p.2))=ps.toList.map fun p=>(p.1,ai σ p.2):=List.map_congr_left fun p hp=>by rw[ho p.2 (by simp only[Op.operands];exact List.mem_map_of_mem hp)]
  exact⟨by simp only[aQ,hp];exact SV,rfl⟩
 |buildSlice T n ps=>
  have hp:(ps.toList.map fun p=>(p.1,ai σ2 p.2))=ps.toList.map fun p=>(p.1,ai σ p.2):=List.map_congr_left fun p hp=>by rw[ho p.2 (by simp only[Op.operands];exact List.mem_map_of_mem hp)]
  have qQ:(ps.toList.map fun p=>ai σ2 p.2)=ps.toList.map fun p=>ai σ p.2:=List.map_congr_left fun p hp=>by rw[ho p.2 (by simp only[Op.operands];exact List.mem_map_of_mem hp)]
  have hm:(ps.toList.map fun p=>(p.1,ai σ p.2)).map (·.2)=ps.toList.map fun p=>ai σ p.2:=by simp
  simp only[bE,bn]at h |-
  rw[qQ]
  rw[<-hm]at h |-
  refine⟨?_,vT _ h⟩
  simp only[aQ,hp]
  exact SU h
 |load T x=>
  simp only[bE,bn,aQ,ho x (by simp[Op.operands])]at h |-
  exact⟨SJ h,trivial⟩
 |store T x d=>
  simp only[bE,bn,aQ,ho x (by simp[Op.operands]),ho d (by simp[Op.operands])]at h |-
  exact⟨SC h,trivial⟩
 |nilCheck x=>
  simp only[bE,bn,aQ,ho x (by simp[Op.operands])]at h |-
  exact⟨SF h,trivial⟩
 |binOp op T x y c=>
  simp only[bE,bn,aQ,ho x (by simp[Op.operands]),ho y (by simp[Op.operands])]at h |-
  exact⟨SW h,trivial⟩
 |unOp op T x=>exact⟨by simp only[aQ,ho x (by simp[Op.operands])];exact SB,rfl⟩
 |convert s d x=>exact⟨by simp only[aQ,ho x (by simp[Op.operands])];exact SQ,rfl⟩
 |makeFunc fn f c=>
  have h1:f.toList.map (ai σ2)=f.toList.map (ai σ):=List.map_congr_left fun x hx=>ho x (by simp only[Op.operands,Array.toList_append];exact List.mem_append_left _ hx)
  have h2:c.toList.map (ai σ2)=c.toList.map (ai σ):=List.map_congr_left fun x hx=>ho x (by simp only[Op.operands,Array.toList_append];exact List.mem_append_right _ hx)
  exact⟨by simp only[aQ,h1,h2];exact BN,rfl⟩
 |makeMap T r=>
  have h1:r.map (ai σ2)=r.map (ai σ):=by
   cases r with
   |none=>rfl
   |some x=>simp only[Option.map_some,ho x (by simp[Op.operands])]
  exact⟨by simp only[aQ,h1];exact SH h,rfl⟩
 |makeSlice T l c=>exact⟨by simp only[aQ,ho l (by simp[Op.operands]),ho c (by simp[Op.operands])];exact SG h,rfl⟩
 |slice T x lo hi mx=>
  have e:∀ r:Option Operand,(∀ y∈r.toList,ai σ2 y=ai σ y)->r.map (ai σ2)=r.map (ai σ):=by
   intro r hr
   cases r with
   |none=>rfl
   |some x=>simp only[Option.map_some,hr x (by simp)]
  have h1:=e lo fun y hy=>ho y (by simp[Op.operands]at hy |-;simp[hy])
  have h2:=e hi fun y hy=>ho y (by simp[Op.operands]at hy |-;simp[hy])
  have h3:=e mx fun y hy=>ho y (by simp[Op.operands]at hy |-;simp[hy])
  simp only[bE,bn,aQ,ho x (by simp[Op.operands]),h1,h2,h3]at h |-
  exact⟨(SD h).muts ZV h,trivial⟩
 |fieldAddr T x f=>
  simp only[bE,bn,aQ,ho x (by simp[Op.operands])]at h |-
  exact⟨SN h,trivial⟩
 |field T x f=>exact⟨by simp only[aQ,ho x (by simp[Op.operands])];exact SO,rfl⟩
 |indexAddr T x i=>
  simp only[bE,bn,aQ,ho x (by simp[Op.operands]),ho i (by simp[Op.operands])]at h |-
  exact⟨SL h,trivial⟩
 |index T x i=>exact⟨by simp only[aQ,ho x (by simp[Op.operands]),ho i (by simp[Op.operands])];exact SM,rfl⟩
 |lookup T x i co=>
  simp only[bE,bn,aQ,ho x (by simp[Op.operands]),ho i (by simp[Op.operands])]at h |-
  exact⟨SI h,trivial⟩
 |mapUpdate T x k d=>
  simp only[bE,bn,aQ,ho x (by simp[Op.operands]),ho k (by simp[Op.operands]),ho d (by simp[Op.operands])]at h |-
  exact⟨HU h,trivial⟩
 |insert T x k d=>
  simp only[bE,bn,aQ,ho x (by simp[Op.operands]),ho k (by simp[Op.operands]),ho d (by simp[Op.operands])]at h |-
  exact⟨HU h,trivial⟩
 |extract x i=>exact⟨by simp only[aQ,ho x (by simp[Op.operands])];exact SP,rfl⟩
 |call c=>
  obtain⟨callee,args,ts⟩:=c
  cases callee with
  |value f=>
   have h1:ai σ2 f=ai σ f:=ho f (by simp[Op.operands,Call.operands])
   have h2:args.toList.map (ai σ2)=args.toList.map (ai σ):=List.map_congr_left fun x hx=>ho x (by simp[Op.operands,Call.operands]at hx |-;simp[hx])
   simp only[bE,bn,aQ,h1,h2]at h |-
   exact SS hN h
  |builtin b=>
   have h2:args.toList.map (ai σ2)=args.toList.map (ai σ):=List.map_congr_left fun x hx=>ho x (by simp[Op.operands,Call.operands]at hx |-;simp[hx])
   have h3:∀ x∈args.toList,ai σ2 x=ai σ x:=fun x hx=>ho x (by simp[Op.operands,Call.operands]at hx |-;simp[hx])
   simp only[aQ,h2]
   obtain⟨args⟩:=args
   obtain⟨ts⟩:=ts
   simp only at *
   cases b with
   |len=>
    rcases args with _ | ⟨x,_ | ⟨y,r⟩⟩
    ·exact⟨by rcases ts with _ | ⟨_,_ | _⟩<;>exact .same rfl rfl rfl rfl,rfl⟩
    ·simp only[bE,bn,h3 x (by simp),List.map_cons,List.map_nil]at h |-
     refine⟨?_,trivial⟩
     rcases ts with _ | ⟨T,_ | _⟩<;>first
      |exact .same rfl rfl rfl rfl
      |exact SK h
    ·refine⟨?_,rfl⟩
     rcases ts with _ | ⟨_,_ | _⟩<;>exact .same rfl rfl rfl rfl
   |append=>
    rcases args with _ | ⟨s,_ | ⟨x,_ | ⟨y,r⟩⟩⟩
    ·refine⟨?_,rfl⟩
     rcases ts with _ | ⟨_,_ | ⟨_,_ | _⟩⟩<;>exact .same rfl rfl rfl rfl
    ·refine⟨?_,rfl⟩
     rcases ts with _ | ⟨_,_ | ⟨_,_ | _⟩⟩<;>exact .same rfl rfl rfl rfl
    ·simp only[bE,bn,h3 x (by simp),h3 s (by simp),List.map_cons,List.map_nil]at h |-
     refine⟨?_,trivial⟩
     rcases ts with _ | ⟨T1,_ | ⟨T2,_ | _⟩⟩<;>first
      |exact x8 h
      |exact .none _ h
    ·refine⟨?_,rfl⟩
     rcases ts with _ | ⟨_,_ | ⟨_,_ | _⟩⟩<;>exact .same rfl rfl rfl rfl
   |_=>
    refine⟨?_,rfl⟩
    show bx _ _ _ _ []
    unfold lf
    (repeat' split)<;>first | exact .same rfl rfl rfl rfl | (exfalso;simp_all;done)
  |invoke r m=>exact⟨.same rfl rfl rfl rfl,rfl⟩
 |_=>exact⟨.same rfl rfl rfl rfl,rfl⟩
theorem ZM{Γ:FuncId->Option Spec}(hN:∀ f s,Γ f=some s->s.Near){σ σ2:S}(t:Name)(op:Op)
 (ho:∀ x∈op.operands.toList,ai σ2 x=ai σ x) (h:bq (bE Γ σ t op) σ.obj σ2.obj):bn Γ σ2 t op=bn Γ σ t op:=by
 cases op with
 |buildSlice T n ps=>
  have qQ:(ps.toList.map fun p=>ai σ2 p.2)=ps.toList.map fun p=>ai σ p.2:=List.map_congr_left fun p hp=>by rw[ho p.2 (by simp only[Op.operands];exact List.mem_map_of_mem hp)]
  simp only[bE,bn]at h |-
  rw[qQ,vT _ h]
  exact BA h
 |store T x d=>simp only[bn,ho x (by simp[Op.operands])]
 |mapUpdate T x k d=>simp only[bn,ho x (by simp[Op.operands])]
 |insert T x k d=>simp only[bn,ho x (by simp[Op.operands])]
 |slice T x lo hi mx=>
  simp only[bE,bn,ho x (by simp[Op.operands])]at h |-
  exact BA h
 |call c=>
  obtain⟨callee,args,ts⟩:=c
  cases callee with
  |value f=>
   have h1:ai σ2 f=ai σ f:=ho f (by simp[Op.operands,Call.operands])
   have h2:args.toList.map (ai σ2)=args.toList.map (ai σ):=List.map_congr_left fun x hx=>ho x (by simp[Op.operands,Call.operands]at hx |-;simp[hx])
   simp only[bE,bn,h1,h2]at h |-
   cases hq:(eO (ai σ f)).bind Γ with
   |none=>rfl
   |some s=>
    simp only[hq]at h |-
    obtain⟨g,hg,hs⟩:=Option.bind_eq_some_iff.1 hq
    exact(hN g s hs).wrt _ _ _ _ h
  |builtin b=>
   have h3:∀ x∈args.toList,ai σ2 x=ai σ x:=fun x hx=>ho x (by simp[Op.operands,Call.operands]at hx |-;simp[hx])
   obtain⟨args⟩:=args
   simp only at *
   cases b with
   |append=>
    rcases args with _ | ⟨s,_ | ⟨x,_ | ⟨y,r⟩⟩⟩<;>first
     |rfl
     |simp only[bn,h3 x (by simp),h3 s (by simp)]
   |_=>rfl
  |invoke r m=>rfl
 |_=>rfl
theorem Ft{Γ:FuncId->Option Spec}(hN:∀ f s,Γ f=some s->s.Near){σ:S}(t:Name)(op:Op):∀ nm∈bn Γ σ t op,nm∈bE Γ σ t op:=by
 intro nm hn
 cases op with
 |buildSlice T n ps=>exact(List.mem_filter.1 hn).1
 |slice T x lo hi mx=>exact(List.mem_filter.1 hn).1
 |call c=>
  obtain⟨callee,args,ts⟩:=c
  cases callee with
  |value f=>
   simp only[bE,bn]at hn |-
   cases hq:(eO (ai σ f)).bind Γ with
   |none=>simp[hq]at hn
   |some s=>
    simp only[hq]at hn |-
    obtain⟨g,hg,hs⟩:=Option.bind_eq_some_iff.1 hq
    exact(hN g s hs).sub _ _ _ _ hn
  |builtin b=>cases b<;>first | exact hn | (simp[bn]at hn;done)
  |invoke r m=>simp[bn]at hn
 |_=>first | exact hn | (simp[bn]at hn;done)
section
variable {P:Program} {Γ:FuncId->Option Spec} {ops:Array Oper}
abbrev Oper.tt (σ:S) (o:Oper):Name:=(σ.base+o.dst.getD 0)::σ.pre
theorem R8{σ σ':S}{x:Operand}(h:∀ t,x=.tmp t->σ'.env t=σ.env t):ai σ' x=ai σ x/\ck σ' x=ck σ x:=by
 cases x with
 |tmp t=>exact⟨by simp only[ai,h t rfl],by simp only[ck,h t rfl]⟩
 |_=>exact⟨rfl,rfl⟩
theorem Sx{o:Oper}{x:Operand}(hx:x∈o.op.operands.toList){t:Nat}(h:x=.tmp t):t∈o.looksAt ops:=
 List.mem_append_left _ (List.mem_filterMap.2 ⟨x,hx,by subst h;rfl⟩)
theorem HS{o:Oper}{j:Nat}{b:Bool}(hg:o.guard=some (j,b)){s:Nat}(h:mZ ops j=some s):s∈o.looksAt ops:=by
 refine List.mem_append_right _ ?_
 unfold mZ at h
 simp[hg,h]
theorem YO{σ σ':S}{op:Op}(h:∀ x∈op.operands.toList,ai σ' x=ai σ x/\ck σ' x=ck σ x):lG σ' op=lG σ op:=by
 have dM:op.operands.toList.all (ck σ')=op.operands.toList.all (ck σ):=by
  refine Bool.eq_iff_iff.2 ?_
  simp only[List.all_eq_true]
  exact⟨fun k x hx=>(h x hx).2▸k x hx,fun k x hx=>(h x hx).2.symm▸k x hx⟩
 cases op with
 |pick c x y=>
  simp only[lG]
  have h1:=h c (by simp[Op.operands])
  have h2:=h x (by simp[Op.operands])
  have h3:=h y (by simp[Op.operands])
  rw[h1.1,h1.2,h2.2,h3.2]
 |_=>exact dM
structure pR (P:Program) (Γ:FuncId->Option Spec) (ops:Array Oper) (σ σ':S) (o:Oper):Prop where
 obl:j8 P Γ ops σ' o↔j8 P Γ ops σ o
 g:dV ops σ' o=dV ops σ o
 d:(aQ P Γ σ' (Oper.tt σ o) o.op).d=(aQ P Γ σ (Oper.tt σ o) o.op).d
 eff:∀ nm,(aY P Γ ops σ' o).obj nm=if nm∈bn Γ σ (Oper.tt σ o) o.op then(aY P Γ ops σ o).obj nm else σ'.obj nm
 frame:∀ nm,nm∉bn Γ σ (Oper.tt σ o) o.op->(aY P Γ ops σ o).obj nm=σ.obj nm
 foot:bE Γ σ' (Oper.tt σ o) o.op=bE Γ σ (Oper.tt σ o) o.op
 wrt:bn Γ σ' (Oper.tt σ o) o.op=bn Γ σ (Oper.tt σ o) o.op
theorem uh(hN:∀ f s,Γ f=some s->s.Near){σ σ':S}(o:Oper)(ei:σ'.nt=σ.nt)(qP:σ'.pre=σ.pre)(y8:σ'.base=σ.base)(he:∀ t∈o.looksAt ops,σ'.env t=σ.env t)
 (ha:bq (bE Γ σ (Oper.tt σ o) o.op) σ.obj σ'.obj):pR P Γ ops σ σ' o:=by
 have hx:∀ x∈o.op.operands.toList,ai σ' x=ai σ x/\ck σ' x=ck σ x:=fun x hx=>R8 fun t ht=>he t (Sx hx ht)
 have hg:dV ops σ' o=dV ops σ o:=by
  unfold dV
  cases Dh:o.guard with
  |none=>rfl
  |some p=>
   obtain⟨j,b⟩:=p
   simp only
   cases hs:mZ ops j with
   |none=>rfl
   |some s=>simp only[he s (HS Dh hs)]
 have Wu:na ops σ' o↔na ops σ o:=by
  unfold na
  cases Dh:o.guard with
  |none=>exact Iff.rfl
  |some p=>
   obtain⟨j,b⟩:=p
   simp only
   cases hs:mZ ops j with
   |none=>exact Iff.rfl
   |some s=>simp only[he s (HS Dh hs),ei]
 obtain⟨h1,h2⟩:=E' (P:=P) hN (Oper.tt σ o) o.op (fun x h=>(hx x h).1) ha
 have h3:=ZM hN (Oper.tt σ o) o.op (fun x h=>(hx x h).1) ha
 refine⟨?_,hg,h1.d,fun nm=>?_,fun nm hn=>?_,h2,h3⟩
 ·have aa:(aQ P Γ σ' ((σ.base+o.dst.getD 0)::σ.pre) o.op).ok=(aQ P Γ σ ((σ.base+o.dst.getD 0)::σ.pre) o.op).ok:=h1.ok
  unfold j8
  rw[Wu,hg,ei,qP,y8,YO hx,aa]
 ·unfold aY
  simp only[hg,qP,y8]
  cases hc:dV ops σ o with
  |true=>simp only[if_true];exact h1.eff nm
  |false=>
   simp only[Bool.false_eq_true,if_false]
   split
   ·rename_i hn;exact ha nm (Ft hN _ _ nm hn)
   ·rfl
 ·unfold aY
  cases hc:dV ops σ o with
  |true=>simp only[if_true];exact h1.frame nm hn
  |false=>simp only[Bool.false_eq_true,if_false]
theorem p5{σ:S}{o:Oper}{t:Nat}(h:o.dst≠some t):(aY P Γ ops σ o).env t=σ.env t:=by
 unfold aY
 cases hd:o.dst with
 |none=>rfl
 |some s=>exact aI _ _ _ (by rintro rfl;exact h hd)
def wR(a b:List Name):Prop:=∀ nm∈a,nm∉b
theorem comm{oi oj:Oper}(hN:∀ f s,Γ f=some s->s.Near){σ:S}(kg:oi.apart ops oj=true)
 (h1:wR (bn Γ σ (Oper.tt σ oi) oi.op) (bE Γ (aY P Γ ops σ oi) (Oper.tt σ oj) oj.op)) (h2:wR (bn Γ (aY P Γ ops σ oi) (Oper.tt σ oj) oj.op) (bE Γ σ (Oper.tt σ oi) oi.op)):
 pR P Γ ops (aY P Γ ops σ oi) σ oj/\pR P Γ ops σ (aY P Γ ops σ oj) oi/\aY P Γ ops (aY P Γ ops σ oj) oi=aY P Γ ops (aY P Γ ops σ oi) oj:=by
 obtain⟨a1,a2,a3⟩:=Oper.apart_spec kg
 have s0:pR P Γ ops σ σ oi:=uh hN oi rfl rfl rfl (fun _ _=>rfl) (fun _ _=>rfl)
 have s1:pR P Γ ops (aY P Γ ops σ oi) σ oj:=by
  refine uh hN oj rfl rfl rfl (fun t ht=>(p5 fun hd=>a1 t hd ht).symm) fun nm hn=>?_
  exact(s0.frame nm fun hw=>h1 nm hw hn).symm
 have s2:pR P Γ ops σ (aY P Γ ops σ oj) oi:=by
  refine uh hN oi rfl rfl rfl (fun t ht=>p5 fun hd=>a3 t hd ht) fun nm hn=>?_
  exact(s1.eff nm).trans (if_neg fun hw=>h2 nm hw hn)
 refine⟨s1,s2,?_⟩
 have e1:(aY P Γ ops (aY P Γ ops σ oj) oi).obj=(aY P Γ ops (aY P Γ ops σ oi) oj).obj:=by
  funext nm
  rw[s2.eff nm]
  by_cases hi:nm∈bn Γ σ (Oper.tt σ oi) oi.op
  ·rw[if_pos hi]
   have :=Ft hN _ _ nm hi
   have s3:pR P Γ ops (aY P Γ ops σ oi) (aY P Γ ops σ oi) oj:=uh hN oj rfl rfl rfl (fun _ _=>rfl) (fun _ _=>rfl)
   exact(s3.frame nm fun hw=>h2 nm hw this).symm
  ·rw[if_neg hi,s1.eff nm]
   split
   ·rfl
   ·rename_i hj
    have s3:pR P Γ ops (aY P Γ ops σ oi) (aY P Γ ops σ oi) oj:=uh hN oj rfl rfl rfl (fun _ _=>rfl) (fun _ _=>rfl)
    rw[s3.frame nm hj,s0.frame nm hi]
 have e2:(aY P Γ ops (aY P Γ ops σ oj) oi).env=(aY P Γ ops (aY P Γ ops σ oi) oj).env:=by
  funext x
  by_cases hi:oi.dst=some x
  ·have hj:oj.dst≠some x:=a2 x hi
   rw[p5 (σ:=aY P Γ ops σ oi) hj]
   show (match oi.dst with
    |some t=>upd (aY P Γ ops σ oj).env t ⟨dV ops (aY P Γ ops σ oj) oi,(aQ P Γ (aY P Γ ops σ oj) ((σ.base+t)::σ.pre) oi.op).d⟩
    |none=>(aY P Γ ops σ oj).env) x=(match oi.dst with
    |some t=>upd σ.env t ⟨dV ops σ oi,(aQ P Γ σ ((σ.base+t)::σ.pre) oi.op).d⟩
    |none=>σ.env) x
   have d1:=s2.d
   have g1:=s2.g
   unfold Oper.tt at d1
   simp only[hi,Option.getD_some]at d1 |-
   rw[aD,aD,d1,g1]
  ·rw[p5 hi]
   by_cases hj:oj.dst=some x
   ·show (match oj.dst with
      |some t=>upd σ.env t ⟨dV ops σ oj,(aQ P Γ σ ((σ.base+t)::σ.pre) oj.op).d⟩
      |none=>σ.env) x=(match oj.dst with
      |some t=>upd (aY P Γ ops σ oi).env t ⟨dV ops (aY P Γ ops σ oi) oj,(aQ P Γ (aY P Γ ops σ oi) ((σ.base+t)::σ.pre) oj.op).d⟩
      |none=>(aY P Γ ops σ oi).env) x
    have d1:(aQ P Γ σ (Oper.tt σ oj) oj.op).d=(aQ P Γ (aY P Γ ops σ oi) (Oper.tt σ oj) oj.op).d:=s1.d
    have g1:=s1.g
    unfold Oper.tt at d1
    simp only[hj,Option.getD_some]at d1 |-
    rw[aD,aD,d1,g1]
   ·rw[p5 hj,p5 hj,p5 hi]
 have e3:(aY P Γ ops (aY P Γ ops σ oj) oi).nt=(aY P Γ ops (aY P Γ ops σ oi) oj).nt:=rfl
 have e4:(aY P Γ ops (aY P Γ ops σ oj) oi).pre=(aY P Γ ops (aY P Γ ops σ oi) oj).pre:=rfl
 have e5:(aY P Γ ops (aY P Γ ops σ oj) oi).base=(aY P Γ ops (aY P Γ ops σ oi) oj).base:=rfl
 generalize aY P Γ ops (aY P Γ ops σ oj) oi=x at *
 generalize aY P Γ ops (aY P Γ ops σ oi) oj=y at *
 cases x;cases y
 simp only at e1 e2 e3 e4 e5
 subst e1 e2 e3 e4 e5
 rfl
structure pS where
 on:Nat
 foot:List Name
 wrt:List Name
def xF(anc:List Nat)(foot wrt:List Name)(L:List pS):Prop:=∀ e∈L,e.on∈anc\/(wR e.wrt foot/\wR wrt e.foot)
variable (P Γ ops)in
def pT(anc:Nat->List Nat)(L:List pS)(K:S->Prop):Nat->Array Bool->S->Prop
 | 0,listed,σ=>Region.ready .any ops listed=[]/\K σ
 |fuel+1,listed,σ=>(Region.ready .any ops listed=[]->K σ)/\∀ i∈Region.ready .any ops listed,∀ o,ops[i]?=some o->
    j8 P Γ ops σ o/\xF (anc i) (bE Γ σ (Oper.tt σ o) o.op) (bn Γ σ (Oper.tt σ o) o.op) L/\pT anc L K fuel (listed.setIfInBounds i true) (aY P Γ ops σ o)
def wS(ops:Array Oper)(anc:Nat->List Nat):Prop:=∀ j o,ops[j]?=some o->∀ i∈anc j,∃ e∈o.after,Region.binds .any e=true/\(e.on=i\/i∈anc e.on)
def rT(anc:Nat->List Nat)(listed:Array Bool):Prop:=∀ j,listed.getD j false=true->∀ i∈anc j,listed.getD i false=true
theorem rT.ready{anc:Nat->List Nat}{listed:Array Bool}(hA:wS ops anc)(h:rT anc listed){j:Nat}(hj:j∈Region.ready .any ops listed):∀ i∈anc j,listed.getD i false=true:=by
 intro i hi
 obtain⟨_,o,ho,dM⟩:=mem_ready.1 hj
 obtain⟨e,he,hb,h1⟩:=hA j o ho i hi
 have :=dM e he hb
 rcases h1 with h1 | h1
 ·rw[<-h1];exact this
 ·exact h _ this i h1
theorem rT.set{anc:Nat->List Nat}{listed:Array Bool}(hA:wS ops anc)(h:rT anc listed){j:Nat}(hj:j∈Region.ready .any ops listed):rT anc (listed.setIfInBounds j true):=by
 intro k hk i hi
 by_cases Kj:j=k
 ·subst Kj
  exact getD_set_true (h.ready hA hj i hi)
 ·rw[getD_set_ne false Kj]at hk
  exact getD_set_true (h k hk i hi)
theorem pull(hN:∀ f s,Γ f=some s->s.Near){anc:Nat->List Nat}(hA:wS ops anc){K:S->Prop}{i:Nat}{oi:Oper}(hi:ops[i]?=some oi){L:List pS}:
 ∀ (fuel:Nat) (listed:Array Bool) (σ:S),rT anc listed->
   (∀ j oj,ops[j]?=some oj->j≠i->listed.getD j true=false->i∉anc j->oi.apart ops oj=true)->
   i∈Region.ready .any ops listed->j8 P Γ ops σ oi->xF (anc i) (bE Γ σ (Oper.tt σ oi) oi.op) (bn Γ σ (Oper.tt σ oi) oi.op) L->
   pT P Γ ops anc (⟨i,bE Γ σ (Oper.tt σ oi) oi.op,bn Γ σ (Oper.tt σ oi) oi.op⟩::L) K fuel (listed.setIfInBounds i true) (aY P Γ ops σ oi)->
   pT P Γ ops anc L K (fuel+1) listed σ:=by
 have weaken:∀ (e:pS) (fuel:Nat) (listed:Array Bool) (σ:S),pT P Γ ops anc (e::L) K fuel listed σ->pT P Γ ops anc L K fuel listed σ:=by
  intro e fuel
  induction fuel with
  |zero=>exact fun _ _ h=>h
  |succ n ih=>exact fun listed σ h=>⟨h.1,fun i hi o ho=>⟨(h.2 i hi o ho).1,fun e' s4=>(h.2 i hi o ho).2.1 e' (List.mem_cons_of_mem _ s4),ih _ _ (h.2 i hi o ho).2.2⟩⟩
 intro fuel
 induction fuel with
 |zero=>
  intro listed σ bH Dj hr dA aa H
  refine⟨fun h=>(by rw[h]at hr;cases hr),fun j hj oj qR=>?_⟩
  by_cases mV:j=i
  ·subst mV
   rw[hi]at qR;cases qR
   exact⟨dA,aa,weaken _ _ _ _ H⟩
  ·have:=ready_mono hj mV
   rw[H.1]at this
   cases this
 |succ fuel ih=>
  intro listed σ bH Dj hr dA aa H
  refine⟨fun h=>(by rw[h]at hr;cases hr),fun j hj oj qR=>?_⟩
  by_cases mV:j=i
  ·subst mV
   rw[hi]at qR;cases qR
   exact⟨dA,aa,weaken _ _ _ _ H⟩
  ·obtain⟨g1,g2,g3⟩:=H.2 j (ready_mono hj mV) oj qR
   have va:listed.getD j true=false:=(mem_ready.1 hj).1
   have J9:i∉anc j:=fun h=>by
    have h1:=bH.ready hA hj i h
    have h0:=(mem_ready.1 hr).1
    rcases Nat.lt_or_ge i listed.size with h' | h'
    ·simp[h']at h0 h1;rw[h0]at h1;cases h1
    ·simp[Array.getElem?_eq_none h']at h1
   rcases g2 _ List.mem_cons_self with k | ⟨d1,d2⟩
   ·exact(J9 k).elim
   simp only at d1 d2
   obtain⟨s1,s2,s3⟩:=comm hN (Dj j oj qR mV va J9) d1 d2
   have f1:bE Γ σ (Oper.tt σ oj) oj.op=bE Γ (aY P Γ ops σ oi) (Oper.tt σ oj) oj.op:=s1.foot
   have f2:bn Γ σ (Oper.tt σ oj) oj.op=bn Γ (aY P Γ ops σ oi) (Oper.tt σ oj) oj.op:=s1.wrt
   have f3:bE Γ (aY P Γ ops σ oj) (Oper.tt σ oi) oi.op=bE Γ σ (Oper.tt σ oi) oi.op:=s2.foot
   have f4:bn Γ (aY P Γ ops σ oj) (Oper.tt σ oi) oi.op=bn Γ σ (Oper.tt σ oi) oi.op:=s2.wrt
   refine⟨s1.obl.2 g1,?_,?_⟩
   ·rw[f1,f2]
    exact fun e he=>g2 e (List.mem_cons_of_mem _ he)
   ·refine ih _ _ (bH.set hA hj) (fun k ok hk lR JT fx=>Dj k ok hk lR ?_ fx) (ready_mono hr (Ne.symm mV)) (s2.obl.2 dA) ?_ ?_
    ·by_cases vA:j=k
     ·subst vA;exact va
     ·rw[getD_set_ne true vA]at JT;exact JT
    ·show xF (anc i) (bE Γ (aY P Γ ops σ oj) (Oper.tt σ oi) oi.op) (bn Γ (aY P Γ ops σ oj) (Oper.tt σ oi) oi.op) L
     rw[f3,f4];exact aa
    ·show pT P Γ ops anc (⟨i,bE Γ (aY P Γ ops σ oj) (Oper.tt σ oi) oi.op,bn Γ (aY P Γ ops σ oj) (Oper.tt σ oi) oi.op⟩::L) K fuel _ _
     rw[Array.setIfInBounds_comm _ _ mV,f3,f4,s3]
     exact g3
theorem Nn(hΓ:∀ f s,Γ f=some s->ak P f s){G:Ghost}{Q:Exit->Act->World->Prop}{K:S->Prop}{anc:Nat->List Nat}{L:List pS}:
 ∀ (fuel:Nat) (listed:Array Bool) {φ:Name->Loc} {m:Mem} {σ:S} {a:Act} {w:World},aC G φ m σ a w->pT P Γ ops anc L K fuel listed σ->
   (∀ a' w' φ' m' σ',aC G φ' m' σ' a' w'->K σ'->Q .normal a' w')->wpAnyIn (eo G.rd) 0 P .any ops Q fuel listed a w
 | 0,listed,φ,m,σ,a,w,hC,h,hQ=>⟨h.1,hQ _ _ φ m σ hC h.2⟩
 |fuel+1,listed,φ,m,σ,a,w,hC,h,hQ=>by
  refine⟨fun h0=>hQ _ _ φ m σ hC (h.1 h0),fun i hi=>?_⟩
  obtain⟨_,o,ho,_⟩:=mem_ready.1 hi
  obtain⟨h1,_,h3⟩:=h.2 i hi o ho
  exact AB hΓ hC ho h1 fun a' w' φ' m' bt=>Nn hΓ fuel _ bt h3 hQ
end
section
variable {P:Program} {Γ:FuncId->Option Spec} {ops:Array Oper}
structure rS where
 anc:List Nat
 past:pS
def dF:Name->Name->Bool
 |[],[]=>true
 |x::r,y::s=>Nat.beq x y&&dF r s
 |_,_=>false
theorem ft:∀ {a b:Name},dF a b=true↔a=b
 |[],[]=>by simp[dF]
 |[],_::_=>by simp[dF]
 |_::_,[]=>by simp[dF]
 |x::r,y::s=>by
  simp only[dF,Bool.and_eq_true,Nat.beq_eq,List.cons.injEq,ft]
def sE:List Name->Name->Bool
 |[],_=>false
 |x::r,nm=>dF x nm||sE r nm
theorem HO:∀ {l:List Name} {nm:Name},sE l nm=true↔nm∈l
 |[],nm=>by simp[sE]
 |x::r,nm=>by
  simp only[sE,Bool.or_eq_true,ft,List.mem_cons,HO]
  exact⟨fun h=>h.imp Eq.symm id,fun h=>h.imp Eq.symm id⟩
def jA:List Nat->Nat->Bool
 |[],_=>false
 |x::r,n=>Nat.beq x n||jA r n
theorem HP:∀ {l:List Nat} {n:Nat},jA l n=true↔n∈l
 |[],n=>by simp[jA]
 |x::r,n=>by
  simp only[jA,Bool.or_eq_true,Nat.beq_eq,List.mem_cons,HP]
  exact⟨fun h=>h.imp Eq.symm id,fun h=>h.imp Eq.symm id⟩
def tw:List Name->List Name->Bool
 |[],_=>true
 |x::r,b=>!sE b x&&tw r b
theorem Em:∀ {a b:List Name},tw a b=true->wR a b
 |[],_,_=>fun nm h=>by cases h
 |x::r,b,h=>by
  simp only[tw,Bool.and_eq_true,Bool.not_eq_true']at h
  intro nm ha hb
  rcases List.mem_cons.1 ha with rfl | ha
  ·rw[HO.2 hb]at h;cases h.1
  ·exact Em h.2 nm ha hb
def My(p:rS)(e:rS):Bool:=jA p.anc e.past.on||(tw e.past.wrt p.past.foot&&tw p.past.wrt e.past.foot)
def so:List rS->Bool
 |[]=>true
 |p::L=>L.all (My p)&&so L
variable (P Γ ops)in
def ox:Nat->List (List Nat)->List Oper->List rS->S->(S->Prop)->Prop
 |_,_,[],L,σ,K=>so L=true/\K σ
 |i,az,o::r,L,σ,K=>j8 P Γ ops σ o/\
   ox (i+1) az.tail r (⟨az.headD [],i,bE Γ σ ((σ.base+o.dst.getD 0)::σ.pre) o.op,bn Γ σ ((σ.base+o.dst.getD 0)::σ.pre) o.op⟩::L) (aY P Γ ops σ o) K
variable (P Γ ops)in
def Fg(anc:Nat->List Nat):Nat->List Oper->List pS->S->(S->Prop)->Prop
 |_,[],_,σ,K=>K σ
 |i,o::r,L,σ,K=>j8 P Γ ops σ o/\xF (anc i) (bE Γ σ (Oper.tt σ o) o.op) (bn Γ σ (Oper.tt σ o) o.op) L/\
   Fg anc (i+1) r (⟨i,bE Γ σ (Oper.tt σ o) o.op,bn Γ σ (Oper.tt σ o) o.op⟩::L) (aY P Γ ops σ o) K
theorem GN{anc:Nat->List Nat}{K:S->Prop}:∀ (l:List Oper) (i:Nat) (az:List (List Nat)) (L:List rS) (σ:S),(∀ k,az.getD k []=anc (i+k))->
 ox P Γ ops i az l L σ K->so L=true/\Fg P Γ ops anc i l (L.map (·.past)) σ K
 |[],i,az,L,σ,_,h=>h
 |o::r,i,az,L,σ,ha,h=>by
  obtain⟨h1,h2⟩:=h
  obtain⟨h3,h4⟩:=GN (anc:=anc) r (i+1) az.tail _ _ (fun k=>by
   have :=ha (k+1)
   rw[show i+(k+1)=i+1+k by omega]at this
   rw[<-this]
   cases az<;>rfl) h2
  simp only[so,Bool.and_eq_true]at h3
  refine⟨h3.2,h1,?_,h4⟩
  intro e he
  obtain⟨p,hp,rfl⟩:=List.mem_map.1 he
  have :=List.all_eq_true.1 h3.1 p hp
  simp only[My,Bool.or_eq_true,Bool.and_eq_true]at this
  rcases this with k | ⟨k1,k2⟩
  ·left
   have h0:az.headD []=anc i:=by
    have :=ha 0
    rw[Nat.add_zero]at this
    rw[<-this]
    cases az<;>rfl
   rw[h0]at k
   exact HP.1 k
  ·exact .inr ⟨Em k1,Em k2⟩
theorem GO(hN:∀ f s,Γ f=some s->s.Near){anc:Nat->List Nat}(hA:wS ops anc)(kg:∀ i j oi oj,ops[i]?=some oi->ops[j]?=some oj->i<j->i∉anc j->oi.apart ops oj=true)
 (za:∀ j o,ops[j]?=some o->∀ e∈o.after,Region.binds .any e=true->e.on<j) {K:S->Prop}:
 ∀ (n k:Nat) (L:List pS) (listed:Array Bool) (σ:S),k+n=ops.size->listed.size=ops.size->(∀ j,listed.getD j false=decide (j<k))->rT anc listed->
   Fg P Γ ops anc k (ops.toList.drop k) L σ K->pT P Γ ops anc L K n listed σ
 | 0,k,L,listed,σ,hk,hs,hl,bH,h=>by
   have :ops.toList.drop k=[]:=List.drop_eq_nil_of_le (by simp;omega)
   rw[this]at h
   refine⟨?_,h⟩
   refine List.eq_nil_iff_forall_not_mem.2 fun j hj=>?_
   obtain⟨h1,o,ho,_⟩:=mem_ready.1 hj
   have ae:j<ops.size:=(Array.getElem?_eq_some_iff.1 ho).1
   have :=hl j
   simp only[Array.getD_eq_getD_getElem?,Array.getElem?_eq_getElem (show j<listed.size by omega),Option.getD_some]at h1 this
   rw[h1]at this
   simp at this
   omega
 |n+1,k,L,listed,σ,hk,hs,hl,bH,h=>by
  have ae:k<ops.size:=by omega
  have hd:ops.toList.drop k=ops[k]::ops.toList.drop (k+1):=by
   rw[List.drop_eq_getElem_cons (by simpa using ae)];simp
  rw[hd]at h
  obtain⟨h1,h2,h3⟩:=h
  have aa:ops[k]?=some ops[k]:=Array.getElem?_eq_getElem ae
  have sS:∀ j,j<listed.size->listed.getD j true=listed.getD j false:=by
   intro j hj
   simp only[Array.getD_eq_getD_getElem?,Array.getElem?_eq_getElem hj,Option.getD_some]
  have hr:k∈Region.ready .any ops listed:=by
   refine mem_ready.2 ⟨?_,_,aa,fun e he hb=>?_⟩
   ·rw[sS k (by omega),hl k];simp
   ·rw[hl];simpa using za k _ aa e he hb
  refine pull hN hA aa n listed σ bH (fun j oj hj aq va fx=>?_) hr h1 h2 ?_
  ·have C':j<ops.size:=(Array.getElem?_eq_some_iff.1 hj).1
   rw[sS j (by omega),hl j]at va
   simp at va
   exact kg k j _ oj aa hj (by omega) fx
  ·refine GO hN hA kg za n (k+1) _ _ _ (by omega) (by simpa using hs) (fun j=>?_) (bH.set hA hr) h3
   by_cases vA:k=j
   ·subst vA
    simp[show k<listed.size by omega]
   ·rw[getD_set_ne false vA,hl j]
    refine decide_eq_decide.2 ?_
    omega
def r8(ops:Array Oper)(az:List (List Nat)):Bool:=
 (List.range ops.size).all fun j=>match ops[j]? with
   |none=>true
   |some oj=>(oj.after.toList.all fun e=>!Region.binds .any e||decide (e.on<j))&&
      ((az.getD j []).all fun i=>oj.after.toList.any fun e=>Region.binds .any e&&(e.on==i||(az.getD e.on []).contains i))&&
      (List.range j).all fun i=>(az.getD j []).contains i||(match ops[i]? with | some oi=>oi.apart ops oj | none=>true)
theorem zw(hΓ:∀ f s,Γ f=some s->ak P f s)(hP:P.follows .mixedOrders=true){id:Nat}{l:List Oper}{σ:S}{K:Exit->S->Prop}(az:List (List Nat))
 (hs:r8 l.toArray az=true) (h:∀ K':S->Prop,(∀ σ',K .normal σ'->K' σ')->ox P Γ l.toArray 0 az l [] σ K'):CW P (.region id l.toArray true) σ K:=by
 intro G φ m a w hC
 have iX:∀ j oj,l.toArray[j]?=some oj->(oj.after.toList.all fun e=>!Region.binds .any e||decide (e.on<j))=true/\
       ((az.getD j []).all fun i=>oj.after.toList.any fun e=>Region.binds .any e&&(e.on==i||(az.getD e.on []).contains i))=true/\
       ((List.range j).all fun i=>(az.getD j []).contains i||(match l.toArray[i]? with | some oi=>oi.apart l.toArray oj | none=>true))=true:=by
  intro j oj hj
  have :=List.all_eq_true.1 hs j (List.mem_range.2 (Array.getElem?_eq_some_iff.1 hj).1)
  simp only[hj,Bool.and_eq_true]at this
  exact⟨this.1.1,this.1.2,this.2⟩
 have hN:∀ f s,Γ f=some s->s.Near:=fun f s h=>(hΓ f s h).near
 have hA:wS l.toArray (fun j=>az.getD j []):=by
  intro j o ho i hi
  have :=List.all_eq_true.1 (iX j o ho).2.1 i hi
  obtain⟨e,he,h1⟩:=List.any_eq_true.1 this
  simp only[Bool.and_eq_true,Bool.or_eq_true,beq_iff_eq,List.contains_iff_mem]at h1
  exact⟨e,by simpa using he,h1.1,h1.2⟩
 have kg:∀ i j oi oj,l.toArray[i]?=some oi->l.toArray[j]?=some oj->i<j->i∉az.getD j []->oi.apart l.toArray oj=true:=by
  intro i j oi oj h1 h2 h3 h4
  have :=List.all_eq_true.1 (iX j oj h2).2.2 i (List.mem_range.2 h3)
  simp only[h1,Bool.or_eq_true]at this
  rcases this with k | k
  ·exact(h4 (by simpa using k)).elim
  ·exact k
 have za:∀ j o,l.toArray[j]?=some o->∀ e∈o.after,Region.binds .any e=true->e.on<j:=by
  intro j o ho e he hb
  have :=List.all_eq_true.1 (iX j o ho).1 e (by simpa using he)
  simpa[hb]using this
 refine wpIn_region_any hP ?_
 obtain⟨_,hD⟩:=GN (anc:=fun j=>az.getD j []) l 0 az [] σ (fun k=>by simp) (h (K .normal) fun _ h=>h)
 refine Nn hΓ (K:=K .normal) _ _ (hC.drawn _) (GO hN hA kg za l.toArray.size 0 [] _ σ (by simp) (by simp) (fun j=>?_) (fun j hj=>?_) (by simpa using hD)) fun a' w' φ' m' σ' bt hK=>⟨φ',m',σ',bt,hK⟩
 ·by_cases hj:j<l.length<;>simp[hj]
 ·by_cases ej:j<l.length<;>simp[ej]at hj
theorem Y2(hΓ:∀ f s,Γ f=some s->ak P f s)(hP:P.follows .mixedOrders=true){id:Nat}{l:List Oper}{c:Code}{r:List Code}{σ:S}{K:Exit->S->Prop}(az:List (List Nat))(ks:List Nat)(ns:List Name)
 (hs:r8 l.toArray az=true) (h:∀ K':S->Prop,(∀ σ',eN ks ns σ'->CL P (c::r) (eT ks ns σ') K->K' σ')->ox P Γ l.toArray 0 az l [] σ K'):CL P (.region id l.toArray true::c::r) σ K:=
 zw hΓ hP az hs fun K' hK=>h K' fun σ' hc hy=>hK σ' (zu ks ns hc hy)
theorem tI(hΓ:∀ f s,Γ f=some s->ak P f s)(hP:P.follows .mixedOrders=true){id:Nat}{l:List Oper}{σ:S}{K:Exit->S->Prop}(az:List (List Nat))
 (hs:r8 l.toArray az=true) (h:∀ K':S->Prop,(∀ σ',K .normal σ'->K' σ')->ox P Γ l.toArray 0 az l [] σ K'):CL P [.region id l.toArray true] σ K:=
 zw hΓ hP az hs fun K' hK=>h K' fun σ' hc=>hK σ' hc
end
attribute [go_sem] dF sE jA tw Nat.beq_eq_true_eq ox bE bn aH fp dB eO dN muts O.mut PSpec.toSpec List.headD_cons List.headD_nil List.tail_cons List.tail_nil
mutual
def D.ren(f:Name->Name):D->D
 | .v x=>.v x
 | .nilsl=>.nilsl
 | .nilmap=>.nilmap
 | .ref nm o=>.ref (f nm) o
 | .msl nm k=>.msl (f nm) k
 | .aref nm k i o=>.aref (f nm) k i o
 | .map nm=>.map (f nm)
 | .yld nm=>.yld (f nm)
 | .clo fn a b=>.clo fn (D.renL f a) (D.renL f b)
 | .agg l=>.agg (D.renL f l)
 | .tup l=>.tup (D.renL f l)
 | .any=>.any
def D.renL(f:Name->Name):List D->List D
 |[]=>[]
 |d::r=>D.ren f d::D.renL f r
end
def E.ren(f:Name->Name)(e:E):E:=⟨e.c,e.d.ren f⟩
def O.ren(f:Name->Name):O->O
 | .box cs=>.box (D.renL f cs)
 | .loop env ps asg body st bh=>.loop (env.map (E.ren f)) ps asg body st bh
 | .arr sz l=>.arr sz l
 | .map kd es=>.map kd es
 | .fbox cs=>.fbox cs
 | .farr sz l=>.farr sz l
 | .dead sz n=>.dead sz n
theorem gr(f:Name->Name):∀ l:List D,D.renL f l=l.map (D.ren f)
 |[]=>rfl
 |d::r=>by simp only[D.renL,List.map_cons,gr f r]
theorem D.one_ren(f:Name->Name)(d:D):(d.ren f).one=d.one:=by cases d<;>rfl
theorem O.len_ren(f:Name->Name)(o:O):(o.ren f).len?=o.len?:=by cases o<;>rfl
theorem O.sz_ren(f:Name->Name)(o:O):(o.ren f).sz=o.sz:=by cases o<;>rfl
theorem O.mut_ren(f:Name->Name)(o:O):(o.ren f).mut=o.mut:=by cases o<;>rfl
def tT(f:Name->Name)(φ φ':Name->Loc)(obj obj':Name->Option O)(dom:Name->Bool):Prop:=
 ∀ nm o,dom nm=true->obj nm=some o->∃ o',obj' (f nm)=some o'/\
   ((o'.len?=o.len?/\φ' (f nm)=φ nm/\o'.sz=o.sz)\/(∃ n n',o.len?=some n/\o'.len?=some n'/\n<n'))
theorem av.renx{f:Name->Name}{φ φ':Name->Loc}{obj obj':Name->Option O}{m m':Mem}{dom:Name->Bool}(hm:Mem.le m m')(hx:tT f φ φ' obj obj' dom){d:D}{u:Value}
 (h:av φ obj m d u) (hc:D.clos dom d=true):av φ' obj' m' (d.ren f) u:=by
 induction h with
 |any u=>exact .any u
 |v x u h=>exact .v x u (h.mono hm)
 |nilsl a=>exact .nilsl a
 |nilmap=>exact .nilmap
 |ref nm off h=>
  obtain⟨o,ho,hl⟩:=h
  obtain⟨o',cI,h⟩:=hx nm o hc ho
  rcases h with⟨h1,h2,h3⟩ | ⟨n,n',h1,h2,h3⟩
  ·rw[<-h2];exact .ref (f nm) off ⟨o',cI,h1.trans hl⟩
  ·rw[hl]at h1;cases h1
 |map nm h=>
  obtain⟨o,ho,hl⟩:=h
  obtain⟨o',cI,h⟩:=hx nm o hc ho
  rcases h with⟨h1,h2,h3⟩ | ⟨n,n',h1,h2,h3⟩
  ·rw[<-h2];exact .map (f nm) ⟨o',cI,h1.trans hl⟩
  ·rw[hl]at h1;cases h1
 |yld nm h=>
  obtain⟨o,ho,hl⟩:=h
  obtain⟨o',cI,h⟩:=hx nm o hc ho
  rcases h with⟨h1,h2,h3⟩ | ⟨n,n',h1,h2,h3⟩
  ·rw[<-h2];exact .yld (f nm) ⟨o',cI,h1.trans hl⟩
  ·rw[hl]at h1;cases h1
 |msl nm k u h hu=>
  obtain⟨o,n,ho,hl,hk,he⟩:=h
  obtain⟨o',cI,h⟩:=hx nm o hc ho
  rcases h with⟨h1,h2,h3⟩ | ⟨n1,n',h1,h2,h3⟩
  ·exact .msl (f nm) k u ⟨o',n,cI,h1.trans hl,hk,fun e=>by rw[h2];exact he e⟩ hu
  ·rw[hl]at h1;cases h1
   exact .msl (f nm) k u ⟨o',n',cI,h2,by omega,fun e=>by omega⟩ hu
 |aref nm k i off u h hu=>
  obtain⟨o,n,ho,hl,hk,he⟩:=h
  obtain⟨o',cI,h⟩:=hx nm o hc ho
  rcases h with⟨h1,h2,h3⟩ | ⟨n1,n',h1,h2,h3⟩
  ·exact .aref (f nm) k i off u ⟨o',n,cI,h1.trans hl,hk,fun e=>by rw[h2,h3];exact he e⟩ hu
  ·rw[hl]at h1;cases h1
   exact .aref (f nm) k i off u ⟨o',n',cI,h2,by omega,fun e=>by omega⟩ hu
 |clo fn fs cs us vs h1 h2 bT dw nP nO=>
  simp only[D.clos,Bool.and_eq_true]at hc
  simp only[D.ren,gr]
  refine .clo fn _ _ us vs (by simpa using h1) (by simpa using h2) (fun i a b=>?_) (fun i a b=>?_)
  ·simp only[List.getElem_map];exact nP i (by simpa using a) b (gH _ hc.1)
  ·simp only[List.getElem_map];exact nO i (by simpa using a) b (gH _ hc.2)
 |agg l us h ho hr ih=>
  simp only[D.clos]at hc
  simp only[D.ren,gr]
  refine .agg _ us (by simpa using h) (fun d hd=>?_) (fun i a b=>?_)
  ·obtain⟨d',h1,rfl⟩:=List.mem_map.1 hd
   rw[D.one_ren];exact ho d' h1
  ·simp only[List.getElem_map];exact ih i (by simpa using a) b (gH _ hc)
 |tup l us h hr ih=>
  simp only[D.clos]at hc
  simp only[D.ren,gr]
  refine .tup _ us (by simpa using h) (fun i a b=>?_)
  simp only[List.getElem_map];exact ih i (by simpa using a) b (gH _ hc)
theorem bL.renx{f:Name->Name}{φ φ':Name->Loc}{obj obj':Name->Option O}{m m':Mem}{dom:Name->Bool}(hm:Mem.le m m')(hx:tT f φ φ' obj obj' dom){e:E}{u:Value}
 (h:bL φ obj m e u) (hc:D.clos dom e.d=true):bL φ' obj' m' (e.ren f) u:=by
 unfold bL at *
 have e0:(E.ren f e).c=e.c:=rfl
 have e1:(E.ren f e).d=e.d.ren f:=rfl
 rw[e0,e1]
 by_cases hh:e.c=true
 ·rw[if_pos hh]at h |-;exact h.renx hm hx hc
 ·rw[if_neg hh]at h |-;exact h
theorem fQ.ren{f:Name->Name}{φ φ':Name->Loc}{obj obj':Name->Option O}{m m':Mem}{dom:Name->Bool}{o:O}{p:Loc}{w w':World}(hm:Mem.le m m')(hx:tT f φ φ' obj obj' dom)
 (hc:O.clos dom o=true) (hw:o.mut=true->p.nul=false->w'.heap[p.blk]?=w.heap[p.blk]?) (h:fQ φ obj m o p w):fQ φ' obj' m' (o.ren f) p w':=by
 cases o with
 |box cs=>
  obtain⟨h0,h1,eD,us,T,g,h2,h3,h4,h5⟩:=h
  simp only[O.clos]at hc
  simp only[O.ren,fQ,gr,List.length_map,List.getElem_map,List.mem_map,forall_exists_index,and_imp,forall_apply_eq_imp_iff₂,D.one_ren]
  exact⟨h0,h1,eD,us,T,g,by rw[hw rfl h1];exact h2,h3,h4,fun i a b=>(h5 i a b).renx hm hx (gH a hc)⟩
 |arr sz l=>
  rcases h with⟨h,h'⟩ | ⟨h0,h1,h2,h3,h4,us,T,f,h5,h6,h7,h8⟩
  ·exact .inl ⟨h,h'⟩
  ·exact .inr ⟨h0,h1,h2,h3,h4,us,T,f,by rw[hw rfl h0];exact h5,h6,h7,fun i j a b=>let ⟨c,x,y⟩:=h8 i j a b;⟨c,x,y.mono hm⟩⟩
 |map kd es=>
  obtain⟨h0,h1,eD,us,T,h2,h3,h4⟩:=h
  exact⟨h0,h1,eD,us,T,by rw[hw rfl h1];exact h2,h3,fun i a b=>⟨(h4 i a b).1.mono hm,(h4 i a b).2.mono hm⟩⟩
 |fbox cs=>exact⟨h.1,fun i a=>let ⟨c,x,y⟩:=h.2 i a;⟨c,hm _ _ _ x,y.mono hm⟩⟩
 |farr sz l=>
  rcases h with⟨h,h'⟩ | ⟨h0,h1,h2,h3,h4⟩
  ·exact .inl ⟨h,h'⟩
  ·exact .inr ⟨h0,h1,h2,h3,fun i j a b=>let ⟨c,x,y⟩:=h4 i j a b;⟨c,hm _ _ _ x,y.mono hm⟩⟩
 |dead=>exact h
 |loop env ps asg body st bh=>
  obtain⟨h0,h1,r,h2,h3,h4,h5,h6,h7,h8,h9⟩:=h
  simp only[O.clos]at hc
  simp only[O.ren,fQ,List.length_map,List.getElem_map]
  refine⟨h0,h1,r,by rw[hw rfl h1];exact h2,h3,h4,h5,h6,h7,h8,fun i a=>(h9 i a).renx hm hx ?_⟩
  have :=gH (l:=env.map (·.d)) (i:=i) (by simpa using a) hc
  simpa using this
mutual
theorem D.ren_id{f g:Name->Name}{dom:Name->Bool}(jc:∀ nm,dom nm=true->g (f nm)=nm):∀ d:D,D.clos dom d=true->(d.ren f).ren g=d
 | .v _,_=>rfl
 | .nilsl,_=>rfl
 | .nilmap,_=>rfl
 | .any,_=>rfl
 | .ref nm _,h=>by simp only[D.ren];rw[jc nm h]
 | .msl nm _,h=>by simp only[D.ren];rw[jc nm h]
 | .aref nm _ _ _,h=>by simp only[D.ren];rw[jc nm h]
 | .map nm,h=>by simp only[D.ren];rw[jc nm h]
 | .yld nm,h=>by simp only[D.ren];rw[jc nm h]
 | .clo _ a b,h=>by
   simp only[D.clos,Bool.and_eq_true]at h
   simp only[D.ren];rw[D.renL_id jc a h.1,D.renL_id jc b h.2]
 | .agg l,h=>by simp only[D.clos]at h;simp only[D.ren];rw[D.renL_id jc l h]
 | .tup l,h=>by simp only[D.clos]at h;simp only[D.ren];rw[D.renL_id jc l h]
theorem D.renL_id{f g:Name->Name}{dom:Name->Bool}(jc:∀ nm,dom nm=true->g (f nm)=nm):∀ l:List D,D.closL dom l=true->D.renL g (D.renL f l)=l
 |[],_=>rfl
 |d::r,h=>by
  simp only[D.closL,Bool.and_eq_true]at h
  simp only[D.renL];rw[D.ren_id jc d h.1,D.renL_id jc r h.2]
end
theorem O.ren_id{f g:Name->Name}{dom:Name->Bool}(jc:∀ nm,dom nm=true->g (f nm)=nm)(o:O)(h:O.clos dom o=true):(o.ren f).ren g=o:=by
 cases o with
 |box cs=>simp only[O.clos]at h;simp only[O.ren];rw[D.renL_id jc cs h]
 |loop env ps asg body st bh=>
  simp only[O.clos]at h
  simp only[O.ren,List.map_map,O.loop.injEq,and_true]
  refine List.ext_getElem (by simp) fun i h1 h2=>?_
  have :=gH (l:=env.map (·.d)) (i:=i) (by simpa using h2) h
  simp only[List.getElem_map,Function.comp_apply,E.ren]at this |-
  rw[D.ren_id jc _ this]
 |_=>rfl
mutual
def qt:D->List Name
 | .ref nm _=>[nm]
 | .msl nm _=>[nm]
 | .aref nm _ _ _=>[nm]
 | .map nm=>[nm]
 | .yld nm=>[nm]
 | .clo _ a b=>cE a++cE b
 | .agg l=>cE l
 | .tup l=>cE l
 |_=>[]
def cE:List D->List Name
 |[]=>[]
 |d::r=>qt d++cE r
end
def lH:O->List Name
 | .box cs=>cE cs
 | .loop env _ _ _ _ _=>cE (env.map (·.d))
 |_=>[]
def bX(L:List Name)(nm:Name):Bool:=L.any fun x=>x==nm
def dm(obj:Name->Option O):Nat->List Name->List Name->List Name
 | 0,_,acc=>acc
 |_+1,[],acc=>acc
 |n+1,x::todo,acc=>if bX acc x=true then dm obj n todo acc else dm obj n ((match obj x with | some o=>lH o | none=>[])++todo) (acc++[x])
def reach(obj:Name->Option O)(ds:List D):List Name:=dm obj 3000 (cE ds) []
theorem fW{L:List Name}{nm:Name}:bX L nm=true↔nm∈L:=by
 simp only[bX,List.any_eq_true,beq_iff_eq]
 exact⟨fun ⟨x,h,e⟩=>e▸h,fun h=>⟨nm,h,rfl⟩⟩
theorem A2{obj:Name->Option O}:∀ (n:Nat) (todo acc:List Name),∀ nm∈acc,nm∈dm obj n todo acc
 | 0,_,_,_,h=>h
 |_+1,[],_,_,h=>h
 |n+1,x::todo,acc,nm,h=>by
  simp only[dm]
  split
  ·exact A2 n _ _ nm h
  ·exact A2 n _ _ nm (by simp[h])
theorem xt{obj:Name->Option O}:∀ (n:Nat) (todo acc:List Name),acc.Nodup->(dm obj n todo acc).Nodup
 | 0,_,_,h=>h
 |_+1,[],_,h=>h
 |n+1,x::todo,acc,h=>by
  simp only[dm]
  split
  ·exact xt n _ _ h
  ·rename_i hx
   refine xt n _ _ (List.nodup_append.2 ⟨h,by simp,fun a ha b hb=>?_⟩)
   simp only[List.mem_singleton]at hb
   subst hb
   rintro rfl
   exact hx (fW.2 ha)
theorem A1{obj obj2:Name->Option O}:∀ (n:Nat) (todo acc:List Name),bq (dm obj n todo acc) obj obj2->dm obj2 n todo acc=dm obj n todo acc
 | 0,_,_,_=>rfl
 |_+1,[],_,_=>rfl
 |n+1,x::todo,acc,h=>by
  simp only[dm]at h |-
  split
  ·rename_i hx;rw[if_pos hx]at h;exact A1 n _ _ h
  ·rename_i hx
   rw[if_neg hx]at h
   have a7:obj2 x=obj x:=h x (A2 n _ _ x (by simp))
   rw[a7]
   exact A1 n _ _ h
def idx:List Name->Name->Nat
 |[],_=>0
 |x::r,nm=>if x=nm then 0 else idx r nm+1
def cin(L:List Name)(nm:Name):Name:=[idx L nm,1]
def cout(L:List Name)(t:Name):Name->Name
 |[i,1]=>L.getD i []
 |x=>x++t
def cv:Name->Bool
 |[_,1]=>true
 |_=>false
theorem sL:∀ {L:List Name} {nm:Name},nm∈L->∃ h:idx L nm<L.length,L[idx L nm]=nm
 |x::r,nm,h=>by
  simp only[idx]
  by_cases e:x=nm
  ·subst e;simp
  ·simp only[if_neg e]
   obtain⟨h1,h2⟩:=sL (L:=r) (nm:=nm) (by rcases List.mem_cons.1 h with h | h; · exact(e h.symm).elim
                                         ·exact h)
   exact⟨by simp;omega,by simpa using h2⟩
theorem YM{L:List Name}{t nm:Name}(h:nm∈L):cout L t (cin L nm)=nm:=by
 obtain⟨h1,h2⟩:=sL h
 show L.getD (idx L nm) []=nm
 rw[List.getD_eq_getElem?_getD,List.getElem?_eq_getElem h1];simpa using h2
theorem tH{L:List Name}{t x:Name}(h:cv x=false):cout L t x=x++t:=by
 unfold cout
 split
 ·simp[cv]at h
 ·rfl
theorem sH{x:Name}:cv x=true↔∃ i,x=[i,1]:=by
 constructor
 ·intro h
  unfold cv at h
  split at h
  ·exact⟨_,rfl⟩
  ·cases h
 ·rintro⟨i,rfl⟩;rfl
theorem Hg(i:Nat):own [0] [i,1]=false:=by simp[own]
theorem Ce{L:List Name}(hn:L.Nodup){i:Nat}(h:i<L.length):idx L L[i]=i:=by
 obtain⟨h1,h2⟩:=sL (List.getElem_mem h)
 exact(List.getElem_inj hn).1 h2
structure Out where
 upd:List (Nat×O)
 new:List (Name×O)
 d:D
 deriving Inhabited
def eg:List (Nat×O)->Nat->O->O
 |[],_,o=>o
 |(j,o')::r,i,o=>eg r i (if j=i then o' else o)
def bW(L:List Name)(t:Name):List (Nat×O)->(Name->Option O)->(Name->Option O)
 |[],obj=>obj
 |(i,o)::r,obj=>bW L t r (upd obj (L.getD i []) (some (o.ren (cout L t))))
def cX(L:List Name)(t:Name):List (Name×O)->(Name->Option O)->(Name->Option O)
 |[],obj=>obj
 |(x,o)::r,obj=>cX L t r (upd obj (x++t) (some (o.ren (cout L t))))
theorem GW{L:List Name}{t:Name}(hn:L.Nodup):∀ (l:List (Nat×O)) (obj:Name->Option O) {i:Nat} (h:i<L.length) (o:O) (_:(l.all fun x=>decide (x.1<L.length))=true) (_:obj L[i]=some (o.ren (cout L t))),
 bW L t l obj L[i]=some ((eg l i o).ren (cout L t))
 |[],obj,i,h,o,_,ho=>ho
 |(j,o')::r,obj,i,h,o,hl,ho=>by
  simp only[List.all_cons,Bool.and_eq_true,decide_eq_true_eq]at hl
  simp only[bW,eg]
  refine GW hn r _ h _ hl.2 ?_
  have e:L.getD j []=L[j]:=by rw[List.getD_eq_getElem?_getD,List.getElem?_eq_getElem hl.1];rfl
  rw[e]
  by_cases hj:j=i
  ·subst hj;rw[aD,if_pos rfl]
  ·rw[aI _ _ _ (fun e'=>hj ((List.getElem_inj hn).1 e').symm),if_neg hj];exact ho
theorem A7{L:List Name}{t:Name}:∀ (l:List (Nat×O)) (obj:Name->Option O) {nm:Name} (_:(l.all fun x=>decide (x.1<L.length))=true) (_:nm∉L),bW L t l obj nm=obj nm
 |[],_,_,_,_=>rfl
 |(j,o')::r,obj,nm,hl,hn=>by
  simp only[List.all_cons,Bool.and_eq_true,decide_eq_true_eq]at hl
  simp only[bW]
  rw[A7 r _ hl.2 hn]
  refine aI _ _ _ ?_
  rintro rfl
  refine hn ?_
  rw[List.getD_eq_getElem?_getD,List.getElem?_eq_getElem hl.1];simp
theorem uC{L:List Name}{t:Name}:∀ (l:List (Name×O)) (obj:Name->Option O) {nm:Name} (_:∀ x∈l,nm≠x.1++t),cX L t l obj nm=obj nm
 |[],_,_,_=>rfl
 |(x,o')::r,obj,nm,hl=>by
  simp only[cX]
  rw[uC r _ fun y hy=>hl y (by simp[hy])]
  exact aI _ _ _ (hl (x,o') (by simp))
theorem GX{L:List Name}{t:Name}:∀ (l:List (Name×O)) (obj:Name->Option O) (_:(l.map (·.1)).Nodup) {x:Name} {o:O} (_:(x,o)∈l),cX L t l obj (x++t)=some (o.ren (cout L t))
 |(y,o')::r,obj,hn,x,o,h=>by
  simp only[List.map_cons,List.nodup_cons]at hn
  simp only[cX]
  rcases List.mem_cons.1 h with h | h
  ·cases h
   rw[uC r _ fun z hz e=>hn.1 (by
    have :_=z.1:=List.append_cancel_right e
    rw[this];exact List.mem_map_of_mem hz)]
   exact aD _ _ _
  ·exact GX r _ hn.2 h
def dh(n:Nat)(new:List (Name×O)):Name->Bool
 |[i,1]=>decide (i<n)
 |x=>new.any fun y=>y.1==x
section
variable {G:Ghost} {φ:Name->Loc} {m:Mem} {σ:S} {a:Act} {w:World}
def bV(L:List Name)(obj:Name->Option O)(nm:Name):O:=match obj nm with
 |some o=>o.ren (cin L)
 |none=>.fbox []
def shut(obj:Name->Option O)(L:List Name):Bool:=L.all fun nm=>match obj nm with
 |some o=>O.clos (bX L) o
 |none=>false
def iP(L:List Name)(obj:Name->Option O):Name->Option O
 |[i,1]=>if i<L.length then some (bV L obj (L.getD i []))else none
 |_=>none
def lq(L:List Name)(φ:Name->Loc):Name->Loc
 |[i,1]=>φ (L.getD i [])
 |_=>⟨0,0,0,true,none⟩
def nv(L:List Name)(φ:Name->Loc)(obj:Name->Option O)(b:Nat):Prop:=∃ nm∈L,holds φ obj nm/\(φ nm).blk=b
theorem uv{obj:Name->Option O}{L:List Name}(h:shut obj L=true){nm:Name}(hn:nm∈L):∃ o,obj nm=some o/\O.clos (bX L) o=true:=by
 have :=List.all_eq_true.1 h nm hn
 cases ho:obj nm with
 |none=>simp[ho]at this
 |some o=>simp only[ho]at this;exact⟨o,rfl,this⟩
theorem jP{L:List Name}{i:Nat}(h:i<L.length):L.getD i []=L[i]:=by rw[List.getD_eq_getElem?_getD,List.getElem?_eq_getElem h];rfl
theorem Se{L:List Name}{obj:Name->Option O}{nm:Name}(hn:nm∈L):iP L obj (cin L nm)=some (bV L obj nm):=by
 obtain⟨h1,h2⟩:=sL hn
 show (if idx L nm<L.length then some (bV L obj (L.getD (idx L nm) []))else none)=_
 rw[if_pos h1,jP h1,h2]
theorem Ol{L:List Name}{φ:Name->Loc}{nm:Name}(hn:nm∈L):lq L φ (cin L nm)=φ nm:=by
 obtain⟨h1,h2⟩:=sL hn
 show φ (L.getD (idx L nm) [])=_
 rw[jP h1,h2]
theorem xr{L:List Name}{obj:Name->Option O}:tT (cin L) φ (lq L φ) obj (iP L obj) (bX L):=by
 intro nm o hd ho
 have hn:=fW.1 hd
 refine⟨bV L obj nm,Se hn,.inl ⟨?_,Ol hn,?_⟩⟩
 ·simp only[bV,ho];exact O.len_ren _ _
 ·simp only[bV,ho];exact O.sz_ren _ _
theorem Bt{L:List Name}{obj:Name->Option O}{x:Name}{o:O}(h:iP L obj x=some o):∃ (i:Nat) (hi:i<L.length),x=[i,1]/\o=bV L obj L[i]:=by
 unfold iP at h
 split at h
 ·rename_i i
  split at h
  ·rename_i hi
   cases h
   exact⟨i,hi,rfl,by rw[jP hi]⟩
  ·cases h
 ·cases h
def tQ(w:World)(L:List Name)(φ:Name->Loc)(obj:Name->Option O):Prop:=ib w/\∀ q∈xc,¬ nv L φ obj q.1
def rz(w:World)(m:Mem)(L:List Name)(φ:Name->Loc)(obj:Name->Option O)(rd:Option Nat)(h:∀ l,rd=some l->¬ nv L φ obj l/\∃ r,w.heap[l]?=some (.loop r))(ht:tQ w L φ obj):Ghost:=
 ⟨w,m,nv L φ obj,rd,lq L φ,iP L obj,h,ht⟩
theorem xb(hC:aC G φ m σ a w)(L:List Name):tQ w L φ σ.obj:=by
 refine⟨hC.fr.tab,fun q hq=>?_⟩
 rintro⟨nm,_,hh,e⟩
 obtain⟨T,f,h1⟩:=G.tab.1 q hq
 have h2:=(Array.getElem?_eq_some_iff.1 h1).1
 rcases hC.own nm hh with h3 | h3
 ·omega
 ·rw[e]at h3;exact G.tab.2 q hq h3
theorem yI{L:List Name}{obj:Name->Option O}(hL:shut obj L=true){x:Name}(h:holds (lq L φ) (iP L obj) x):∃ (i:Nat) (hi:i<L.length),x=[i,1]/\holds φ obj L[i]:=by
 obtain⟨o,h1,h2,h3⟩:=h
 obtain⟨i,hi,rfl,rfl⟩:=Bt h1
 obtain⟨o',h4,_⟩:=uv hL (List.getElem_mem hi)
 refine⟨i,hi,rfl,o',h4,?_,?_⟩
 ·simp only[bV,h4,O.mut_ren]at h2;exact h2
 ·have:lq L φ [i,1]=φ L[i]:=by show φ (L.getD i [])=_;rw[jP hi]
  rw[this]at h3;exact h3
theorem Ld(hC:aC G φ m σ a w){L:List Name}(hn:L.Nodup)(hL:shut σ.obj L=true){rd:Option Nat}(lO:∀ l,rd=some l->¬ nv L φ σ.obj l/\∃ r,w.heap[l]?=some (.loop r))
 {nt b0:Nat} {env:Nat->E} {tmps:Array Value} (hs:tmps.size=nt) (he:∀ t,bL (lq L φ) (iP L σ.obj) m (env t) (tmps.getD t undef)):
 aC (rz w m L φ σ.obj rd lO (xb hC L)) (lq L φ) m ⟨nt,env,iP L σ.obj,[0],b0⟩ { tmps:=tmps,defers:=[] } w:=by
 have hφ:∀ (i:Nat) (hi:i<L.length),lq L φ [i,1]=φ L[i]:=fun i hi=>by show φ (L.getD i [])=_;rw[jP hi]
 constructor
 ·exact he
 ·exact hs
 ·exact⟨[],rfl,by simp,by simp⟩
 ·intro x o hx
  obtain⟨i,hi,rfl,rfl⟩:=Bt hx
  obtain⟨o',h4,h5⟩:=uv hL (List.getElem_mem hi)
  rw[hφ i hi]
  simp only[bV,h4]
  exact(hC.objs _ _ h4).ren (Mem.le_refl m) xr h5 fun _ _=>rfl
 ·exact hC.mem
 ·intro x hx off
  obtain⟨i,hi,rfl,h⟩:=yI hL hx
  rw[hφ i hi]
  exact hC.apart _ h off
 ·intro x y hx hy e
  obtain⟨i,hi,rfl,h⟩:=yI hL hx
  obtain⟨j,hj,rfl,h'⟩:=yI hL hy
  rw[hφ i hi,hφ j hj]at e
  have :=(List.getElem_inj hn).1 (hC.inj _ _ h h' e)
  rw[this]
 ·intro x hx
  obtain⟨i,hi,rfl,h⟩:=yI hL hx
  rw[hφ i hi]
  exact .inr ⟨_,List.getElem_mem hi,h,rfl⟩
 ·exact⟨rfl,rfl,rfl,Nat.le_refl _,fun _ _ _=>rfl⟩
 ·intro b off v h;exact .inl h
 ·refine⟨fun x o hx=>?_,Ext.refl _ _⟩
  obtain⟨i,hi,rfl,_⟩:=Bt hx
  exact Hg i
structure Oj (σ:S) (os:List O) (o:Out):Prop where
 objs:∀ i (h:i<os.length),σ.obj [i,1]=some (eg o.upd i os[i])
 news:∀ x∈o.new,σ.obj x.1=some x.2
 cd:D.clos (dh os.length o.new) o.d=true
 cu:(o.upd.all fun x=>O.clos (dh os.length o.new) x.2&&decide (x.1<os.length))=true
 cn:(o.new.all fun x=>O.clos (dh os.length o.new) x.2&&!cv x.1)=true
 nd:(o.new.map (·.1)).Nodup
def fresh(obj:Name->Option O)(t:Name)(new:List (Name×O)):Bool:=new.all fun x=>(obj (x.1++t)).isNone
theorem Yh{n:Nat}{new:List (Name×O)}{x:Name×O}(h:cv x.1=false)(hx:x∈new):dh n new x.1=true:=by
 have key:∀ nm:Name,cv nm=false->dh n new nm=new.any fun y=>y.1==nm:=by
  intro nm h
  unfold dh
  split
  ·simp[cv]at h
  ·rfl
 rw[key _ h]
 exact List.any_eq_true.2 ⟨x,hx,by simp⟩
theorem H8{dom:Name->Bool}:∀ (l:List (Nat×O)) (i:Nat) (o:O),O.clos dom o=true->(∀ x∈l,O.clos dom x.2=true)->O.clos dom (eg l i o)=true
 |[],_,_,h,_=>h
 |(j,o')::r,i,o,h,hl=>by
  simp only[eg]
  refine H8 r i _ ?_ fun x hx=>hl x (by simp[hx])
  split
  ·exact hl (j,o') (by simp)
  ·exact h
mutual
theorem clos_ren{f:Name->Name}{dom gZ:Name->Bool}(hf:∀ nm,dom nm=true->gZ (f nm)=true):∀ d:D,D.clos dom d=true->D.clos gZ (d.ren f)=true
 | .v _,_=>by simp only[D.ren,D.clos]
 | .nilsl,_=>by simp only[D.ren,D.clos]
 | .nilmap,_=>by simp only[D.ren,D.clos]
 | .any,_=>by simp only[D.ren,D.clos]
 | .ref nm _,h=>hf nm h
 | .msl nm _,h=>hf nm h
 | .aref nm _ _ _,h=>hf nm h
 | .map nm,h=>hf nm h
 | .yld nm,h=>hf nm h
 | .clo _ a b,h=>by
   simp only[D.clos,Bool.and_eq_true]at h
   simp only[D.ren,D.clos,Bool.and_eq_true]
   exact⟨rI hf a h.1,rI hf b h.2⟩
 | .agg l,h=>by simp only[D.clos]at h;simp only[D.ren,D.clos];exact rI hf l h
 | .tup l,h=>by simp only[D.clos]at h;simp only[D.ren,D.clos];exact rI hf l h
theorem rI{f:Name->Name}{dom gZ:Name->Bool}(hf:∀ nm,dom nm=true->gZ (f nm)=true):∀ l:List D,D.closL dom l=true->D.closL gZ (D.renL f l)=true
 |[],_=>by simp only[D.renL,D.closL]
 |d::r,h=>by
  simp only[D.closL,Bool.and_eq_true]at h
  simp only[D.renL,D.closL,Bool.and_eq_true]
  exact⟨clos_ren hf d h.1,rI hf r h.2⟩
end
theorem O.clos_ren{f:Name->Name}{dom gZ:Name->Bool}(hf:∀ nm,dom nm=true->gZ (f nm)=true)(o:O)(h:O.clos dom o=true):O.clos gZ (o.ren f)=true:=by
 cases o with
 |box cs=>simp only[O.clos]at h;simp only[O.ren,O.clos];exact rI hf cs h
 |loop env ps asg body st bh=>
  simp only[O.clos]at h
  simp only[O.ren,O.clos]
  have :=rI hf _ h
  rw[gr,List.map_map]at this
  rw[List.map_map]
  exact this
 |_=>rfl
theorem Lc(hC:aC G φ m σ a w){L:List Name}(hn:L.Nodup)(hL:shut σ.obj L=true){rd:Option Nat}{lO:∀ l,rd=some l->¬ nv L φ σ.obj l/\∃ r,w.heap[l]?=some (.loop r)}
 {ht:tQ w L φ σ.obj} {φ2:Name->Loc} {m2:Mem} {σ2:S} {a2:Act} {w2:World} (eL:aC (rz w m L φ σ.obj rd lO ht) φ2 m2 σ2 a2 w2) {o:Out} (hE:Oj σ2 (L.map (bV L σ.obj)) o) {t:Name} (hf:fresh σ.obj t o.new=true):
 ∃ φ' m',Mem.le m m'/\aC G φ' m' { σ with obj:=cX L t o.new (bW L t o.upd σ.obj) } a w2/\
   Ext φ φ' σ.obj (cX L t o.new (bW L t o.upd σ.obj))/\
   (∀ d u,av φ2 σ2.obj m2 d u->D.clos (dh L.length o.new) d=true->av φ' (cX L t o.new (bW L t o.upd σ.obj)) m' (d.ren (cout L t)) u):=by
 have hlen:(L.map (bV L σ.obj)).length=L.length:=by simp
 obtain⟨h1,h2,h3,h4,h5,h6⟩:=hE
 rw[hlen]at h3 h4 h5
 have hu:(o.upd.all fun x=>decide (x.1<L.length))=true:=List.all_eq_true.2 fun x hx=>by
  have :=List.all_eq_true.1 h4 x hx
  simp only[Bool.and_eq_true]at this;exact this.2
 have yx:∀ x∈o.upd,O.clos (dh L.length o.new) x.2=true:=fun x hx=>by
  have :=List.all_eq_true.1 h4 x hx
  simp only[Bool.and_eq_true]at this;exact this.1
 have CV:∀ x∈o.new,O.clos (dh L.length o.new) x.2=true:=fun x hx=>by
  have :=List.all_eq_true.1 h5 x hx
  simp only[Bool.and_eq_true]at this;exact this.1
 have CU:∀ x∈o.new,cv x.1=false:=fun x hx=>by
  have :=List.all_eq_true.1 h5 x hx
  simp only[Bool.and_eq_true,Bool.not_eq_true']at this;exact this.2
 have cq:∀ x∈o.new,σ.obj (x.1++t)=none:=fun x hx=>by
  have :=List.all_eq_true.1 hf x hx
  simpa using this
 have Xq:∀ nm∈L,∃ o,σ.obj nm=some o:=fun nm h=>let ⟨o,h,_⟩:=uv hL h;⟨o,h⟩
 have mX:∀ nm∈L,∀ x∈o.new,nm≠x.1++t:=fun nm h x hx e=>by
  obtain⟨o',ho⟩:=Xq nm h
  rw[e,cq x hx]at ho;cases ho
 have KA:∀ nm,bX L nm=true->cout L t (cin L nm)=nm:=fun nm h=>YM (fW.1 h)
 generalize dA:cX L t o.new (bW L t o.upd σ.obj)=obj'
 have yJ:∀ (i:Nat) (hi:i<L.length),obj' L[i]=some ((eg o.upd i (bV L σ.obj L[i])).ren (cout L t)):=fun i hi=>by
  rw[<-dA,uC _ _ (mX _ (List.getElem_mem hi))]
  refine GW hn _ _ hi _ hu ?_
  obtain⟨o',ho,hc⟩:=uv hL (List.getElem_mem hi)
  simp only[bV,ho]
  rw[O.ren_id KA o' hc]
 have CS:∀ x∈o.new,obj' (x.1++t)=some (x.2.ren (cout L t)):=fun x hx=>by rw[<-dA];exact GX _ _ h6 hx
 have CR:∀ nm,nm∉L->(∀ x∈o.new,nm≠x.1++t)->obj' nm=σ.obj nm:=fun nm h h'=>by rw[<-dA,uC _ _ h',A7 _ _ hu h]
 let φ':Name->Loc:=fun nm=>if nm∈L then φ2 (cin L nm)else match o.new.find? (fun x=>x.1++t==nm)with
  |some x=>φ2 x.1
  |none=>φ nm
 have uX:∀ (i:Nat) (hi:i<L.length),φ' L[i]=φ2 [i,1]:=fun i hi=>by
  show (if L[i]∈L then φ2 (cin L L[i])else _)=_
  rw[if_pos (List.getElem_mem hi)]
  show φ2 [idx L L[i],1]=_
  rw[Ce hn hi]
 have yr:∀ x∈o.new,φ' (x.1++t)=φ2 x.1:=fun x hx=>by
  show (if x.1++t∈L then _ else _)=_
  rw[if_neg fun h=>mX _ h x hx rfl]
  cases pw:o.new.find? (fun y=>y.1++t==x.1++t)with
  |none=>have:=List.find?_eq_none.1 pw x hx;simp at this
  |some y=>
   have :=List.find?_some pw
   simp only[beq_iff_eq]at this
   simp only[List.append_cancel_right this]
 have yq:∀ nm,nm∉L->(∀ x∈o.new,nm≠x.1++t)->φ' nm=φ nm:=fun nm h h'=>by
  show (if nm∈L then _ else _)=_
  rw[if_neg h]
  cases pw:o.new.find? (fun y=>y.1++t==nm)with
  |none=>rfl
  |some y=>
   have :=List.find?_some pw
   simp only[beq_iff_eq]at this
   exact(h' y (List.mem_of_find?_eq_some pw) this.symm).elim
 let m':Mem:=fun b off=>match m2 b off with | some c=>some c | none=>m b off
 have yF:=eL.own
 have rj:∀ b,nv L φ σ.obj b->b<w.heap.size:=fun b ⟨nm,h,⟨o',k1,k2,k3⟩,e⟩=>by rw[<-e];exact(hC.objs nm o' k1).lt k2 k3
 have C1:Mem.le m m':=by
  intro b off v h
  show (match m2 b off with | some c=>some c | none=>m b off)=some v
  cases hq:m2 b off with
  |none=>exact h
  |some c=>
   have k1:=eL.mem b off c hq
   have k2:=hC.mem b off v h
   rw[pP (eL.fr.block b (kP k2) fun ⟨nm,_,k3,e⟩=>by
    have :=hC.apart nm k3 off;rw[e,h]at this;cases this)]at k1
   have k3:World.cell? w ⟨b,off,none⟩=some c:=k1
   rw[k2]at k3;exact k3.symm
 have C0:Mem.le m2 m':=by
  intro b off v h
  show (match m2 b off with | some c=>some c | none=>m b off)=some v
  rw[h]
 have yP:∀ b off v,m' b off=some v->m2 b off=some v\/(m2 b off=none/\m b off=some v):=by
  intro b off v h
  have h':(match m2 b off with | some c=>some c | none=>m b off)=some v:=h
  cases hq:m2 b off with
  |none=>rw[hq]at h';exact .inr ⟨rfl,h'⟩
  |some c=>rw[hq]at h';exact .inl h'
 have Dq:∀ x,dh L.length o.new x=true->(∃ (i:Nat) (hi:i<L.length),x=[i,1])\/(cv x=false/\∃ y∈o.new,y.1=x):=by
  intro x hx
  unfold dh at hx
  split at hx
  ·rename_i i
   exact .inl ⟨i,by simpa using hx,rfl⟩
  ·obtain⟨y,hy,e⟩:=List.any_eq_true.1 hx
   simp only[beq_iff_eq]at e
   subst e
   exact .inr ⟨CU y hy,y,hy,rfl⟩
 have s7:∀ (i:Nat) (hi:i<L.length),cout L t [i,1]=L[i]:=fun i hi=>jP hi
 have jJ:∀ (i:Nat) (hi:i<L.length),σ2.obj [i,1]=some (eg o.upd i (bV L σ.obj L[i])):=fun i hi=>by
  have :=h1 i (by simpa using hi)
  simpa using this
 have CA:tT (cout L t) φ2 φ' σ2.obj obj' (dh L.length o.new):=by
  intro x q hd hq
  rcases Dq x hd with⟨i,hi,rfl⟩ | ⟨hi,y,hy,rfl⟩
  ·rw[s7 i hi,yJ i hi,uX i hi]
   rw[jJ i hi]at hq;cases hq
   exact⟨_,rfl,.inl ⟨O.len_ren _ _,rfl,O.sz_ren _ _⟩⟩
  ·rw[tH hi,CS y hy,yr y hy]
   rw[h2 y hy]at hq;cases hq
   exact⟨_,rfl,.inl ⟨O.len_ren _ _,rfl,O.sz_ren _ _⟩⟩
 have Wz:∀ (i:Nat) (hi:i<L.length),O.clos (dh L.length o.new) (eg o.upd i (bV L σ.obj L[i]))=true:=by
  intro i hi
  refine H8 _ _ _ ?_ yx
  obtain⟨o',ho,hc⟩:=uv hL (List.getElem_mem hi)
  simp only[bV,ho]
  refine O.clos_ren (fun nm hd=>?_) o' hc
  obtain⟨k1,_⟩:=sL (fW.1 hd)
  show decide (idx L nm<L.length)=true
  simpa using k1
 have yV:Ext φ φ' σ.obj obj':=by
  intro nm q hq
  by_cases eJ:nm∈L
  ·obtain⟨i,hi,rfl⟩:=List.getElem_of_mem eJ
   obtain⟨Bw,k1,k2⟩:=eL.kept.2 [i,1] (bV L σ.obj L[i]) (by
    show iP L σ.obj [i,1]=_
    show (if i<L.length then _ else _)=_
    rw[if_pos hi,jP hi])
   have Va:Bw=eg o.upd i (bV L σ.obj L[i]):=by rw[jJ i hi]at k1;exact(Option.some.inj k1).symm
   subst Va
   have Vy:lq L φ [i,1]=φ L[i]:=by show φ (L.getD i [])=_;rw[jP hi]
   have bH:(bV L σ.obj L[i]).len?=q.len?/\(bV L σ.obj L[i]).sz=q.sz:=by
    simp only[bV,hq];exact⟨O.len_ren _ _,O.sz_ren _ _⟩
   refine⟨_,yJ i hi,?_⟩
   rw[O.len_ren,O.sz_ren,uX i hi]
   rcases k2 with⟨a1,a2,a3⟩ | ⟨n,n',a1,a2,a3⟩
   ·exact .inl ⟨a1.trans bH.1,(a2:φ2 [i,1]=lq L φ [i,1]).trans Vy,a3.trans bH.2⟩
   ·exact .inr ⟨n,n',bH.1▸a1,a2,a3⟩
  ·have po:∀ x∈o.new,nm≠x.1++t:=fun x hx e=>by rw[e,cq x hx]at hq;cases hq
   exact⟨q,by rw[CR nm eJ po];exact hq,.inl ⟨rfl,yq nm eJ po,rfl⟩⟩
 have te:∀ nm,holds φ' obj' nm->(∃ x,holds φ2 σ2.obj x/\φ' nm=φ2 x/\nm=cout L t x/\dh L.length o.new x=true)\/(nm∉L/\(∀ x∈o.new,nm≠x.1++t)/\holds φ σ.obj nm/\φ' nm=φ nm):=by
  rintro nm ⟨q,k1,k2,k3⟩
  by_cases eJ:nm∈L
  ·obtain⟨i,hi,rfl⟩:=List.getElem_of_mem eJ
   left
   rw[yJ i hi]at k1;cases k1
   rw[O.mut_ren]at k2
   rw[uX i hi]at k3
   exact⟨[i,1],⟨_,jJ i hi,k2,k3⟩,uX i hi,(s7 i hi).symm,by show decide (i<L.length)=true;simpa using hi⟩
  ·by_cases po:∃ x∈o.new,nm=x.1++t
   ·obtain⟨x,hx,rfl⟩:=po
    left
    rw[CS x hx]at k1;cases k1
    rw[O.mut_ren]at k2
    rw[yr x hx]at k3
    refine⟨x.1,⟨_,h2 x hx,k2,k3⟩,yr x hx,(tH (CU x hx)).symm,?_⟩
    exact Yh (CU x hx) hx
   ·have qX:∀ x∈o.new,nm≠x.1++t:=fun x hx e=>po ⟨x,hx,e⟩
    right
    rw[CR nm eJ qX]at k1
    rw[yq nm eJ qX]at k3
    exact⟨eJ,qX,⟨q,k1,k2,k3⟩,yq nm eJ qX⟩
 have eV:∀ nm,nm∉L->holds φ σ.obj nm->(φ nm).blk<w.heap.size/\¬ nv L φ σ.obj (φ nm).blk:=by
  intro nm eJ hh
  obtain⟨q,k1,k2,k3⟩:=hh
  refine⟨(hC.objs nm q k1).lt k2 k3,fun ⟨x,k4,k5,k6⟩=>?_⟩
  exact eJ (hC.inj _ _ k5 ⟨q,k1,k2,k3⟩ k6▸k4)
 have ad':∀ x y,dh L.length o.new x=true->dh L.length o.new y=true->cout L t x=cout L t y->x=y:=by
  intro x y hx hy e
  rcases Dq x hx with⟨i,hi,rfl⟩ | ⟨k1,x',a7,rfl⟩<;>rcases Dq y hy with⟨j,hj,rfl⟩ | ⟨k2,y',VE,rfl⟩
  ·rw[s7 i hi,s7 j hj]at e
   rw[(List.getElem_inj hn).1 e]
  ·rw[s7 i hi,tH k2]at e
   exact(mX _ (List.getElem_mem hi) y' VE e).elim
  ·rw[s7 j hj,tH k1]at e
   exact(mX _ (List.getElem_mem hj) x' a7 e.symm).elim
  ·rw[tH k1,tH k2]at e
   exact List.append_cancel_right e
 refine⟨φ',m',C1,?_,yV,fun d u hd hc=>hd.renx C0 CA hc⟩
 constructor
 ·exact fun x=>(hC.tmps x).ext C1 yV
 ·exact hC.size
 ·obtain⟨ds,k1,k2,k3⟩:=hC.defers
  refine⟨ds,k1,k2,fun D hD=>⟨(k3 D hD).1,?_⟩⟩
  have k4:=(k3 D hD).2
  rw[eL.fr.block D (Array.getElem?_eq_some_iff.1 k4).1 fun ⟨x,_,⟨q,k5,k6,k7⟩,k8⟩=>(hC.objs x q k5).notDef k6 k7 _ (by rw[k8];exact k4)]
  exact k4
 ·intro nm q hq
  by_cases eJ:nm∈L
  ·obtain⟨i,hi,rfl⟩:=List.getElem_of_mem eJ
   have cw:obj' L[i]=some q:=hq
   rw[yJ i hi]at cw;cases cw
   rw[uX i hi]
   exact(eL.objs _ _ (jJ i hi)).ren C0 CA (Wz i hi) fun _ _=>rfl
  ·by_cases po:∃ x∈o.new,nm=x.1++t
   ·obtain⟨x,hx,rfl⟩:=po
    have cw:obj' (x.1++t)=some q:=hq
    rw[CS x hx]at cw;cases cw
    rw[yr x hx]
    exact(eL.objs _ _ (h2 x hx)).ren C0 CA (CV x hx) fun _ _=>rfl
   ·have qX:∀ x∈o.new,nm≠x.1++t:=fun x hx e=>po ⟨x,hx,e⟩
    have cw:obj' nm=some q:=hq
    rw[CR nm eJ qX]at cw
    rw[yq nm eJ qX]
    refine(hC.objs nm q cw).ext C1 yV fun k2 k3=>?_
    obtain⟨k4,k5⟩:=eV nm eJ ⟨q,cw,k2,k3⟩
    exact eL.fr.block _ k4 k5
 ·intro b off v h
  rcases yP b off v h with h | ⟨Kd,h⟩
  ·exact eL.mem b off v h
  ·have k2:=hC.mem b off v h
   rw[pP (eL.fr.block b (kP k2) fun ⟨nm,_,k3,e⟩=>by
    have :=hC.apart nm k3 off;rw[e,h]at this;cases this)]
   exact k2
 ·intro nm hh off
  rcases te nm hh with⟨x,k1,k2,_,_⟩ | ⟨k1,k2,k3,k4⟩
  ·rw[k2]
   cases hq:m' (φ2 x).blk off with
   |none=>rfl
   |some v=>
    rcases yP _ _ _ hq with h | ⟨_,h⟩
    ·have:=eL.apart x k1 off;rw[h]at this;cases this
    ·rcases yF x k1 with h' | ⟨iR,k5,k6,k7⟩
     ·have:=kP (hC.mem _ _ _ h)
      have gX:w.heap.size<=(φ2 x).blk:=h'
      omega
     ·have:=hC.apart iR k6 off
      rw[k7,h]at this;cases this
  ·rw[k4]
   obtain⟨k5,k6⟩:=eV nm k1 k3
   cases hq:m' (φ nm).blk off with
   |none=>rfl
   |some v=>
    rcases yP _ _ _ hq with h | ⟨_,h⟩
    ·rcases eL.fresh _ _ _ h with h' | h' | h'
     ·have:=hC.apart nm k3 off
      have gX:m (φ nm).blk off=some v:=h'
      rw[gX]at this;cases this
     ·have gX:w.heap.size<=(φ nm).blk:=h'
      omega
     ·exact(k6 h').elim
    ·have:=hC.apart nm k3 off;rw[h]at this;cases this
 ·intro nm iR hh Wt e
  rcases te nm hh with⟨x,k1,k2,k3,k4⟩ | ⟨k1,k2,k3,k4⟩<;>rcases te iR Wt with⟨x',j1,j2,j3,j4⟩ | ⟨j1,j2,j3,j4⟩
  ·rw[k2,j2]at e
   rw[k3,j3,eL.inj _ _ k1 j1 e]
  ·exfalso
   rw[k2,j4]at e
   obtain⟨k5,k6⟩:=eV iR j1 j3
   rcases yF x k1 with h' | h'
   ·have gX:w.heap.size<=(φ2 x).blk:=h'
    omega
   ·rw[e]at h';exact k6 h'
  ·exfalso
   rw[k4,j2]at e
   obtain⟨k5,k6⟩:=eV nm k1 k3
   rcases yF x' j1 with h' | h'
   ·have gX:w.heap.size<=(φ2 x').blk:=h'
    omega
   ·rw[<-e]at h';exact k6 h'
  ·rw[k4,j4]at e
   exact hC.inj _ _ k3 j3 e
 ·intro nm hh
  rcases te nm hh with⟨x,k1,k2,_,_⟩ | ⟨k1,k2,k3,k4⟩
  ·rw[k2]
   rcases yF x k1 with h' | ⟨iR,k5,k6,k7⟩
   ·exact .inl (Nat.le_trans hC.fr.size h')
   ·rw[<-k7];exact hC.own iR k6
  ·rw[k4];exact hC.own nm k3
 ·refine⟨eL.fr.os.trans hC.fr.os,eL.fr.tape.trans hC.fr.tape,eL.fr.output.trans hC.fr.output,Nat.le_trans hC.fr.size eL.fr.size,fun b hb ho=>?_⟩
  rw[eL.fr.block b (Nat.lt_of_lt_of_le hb hC.fr.size) fun ⟨nm,_,k3,e⟩=>?_]
  ·exact hC.fr.block b hb ho
  ·rcases hC.own nm k3 with h | h<;>rw[e]at h
   ·omega
   ·exact ho h
 ·intro b off v h
  rcases yP b off v h with h | ⟨_,h⟩
  ·rcases eL.fresh _ _ _ h with h' | h' | ⟨nm,_,k3,e⟩
   ·exact hC.fresh _ _ _ h'
   ·exact .inr (.inl (Nat.le_trans hC.fr.size h'))
   ·rw[<-e];exact .inr (hC.own nm k3)
  ·exact hC.fresh _ _ _ h
 ·exact⟨hC.kept.1,hC.kept.2.trans yV⟩
end
def ef:Nat->List D->List (Nat×E)
 |_,[]=>[]
 |k,x::r=>(k,⟨true,x⟩)::ef (k+1) r
theorem Nj:∀ {k:Nat} {xs:List D} {t:Nat} {e:E},(t,e)∈ef k xs->∃ (i:Nat) (h:i<xs.length),t=k+i/\e=⟨true,xs[i]⟩
 |k,[],t,e,h=>by simp[ef]at h
 |k,x::r,t,e,h=>by
  simp only[ef,List.mem_cons,Prod.mk.injEq]at h
  rcases h with⟨rfl,rfl⟩ | h
  ·exact⟨0,by simp,rfl,rfl⟩
  ·obtain⟨i,hi,h1,h2⟩:=Nj h
   exact⟨i+1,by simpa using hi,by omega,by simpa using h2⟩
structure CSpec where
 pre:List O->List D->Prop
 out:List O->List D->Out
def b8(obj:Name->Option O)(ds:List D):List O:=(reach obj ds).map (bV (reach obj ds) obj)
def cC(obj:Name->Option O)(ds:List D):List D:=D.renL (cin (reach obj ds)) ds
def CSpec.toSpec(s:CSpec):Spec where
 app obj t ds:=⟨(shut obj (reach obj ds)&&D.closL (bX (reach obj ds)) ds&&fresh obj t (s.out (b8 obj ds) (cC obj ds)).new)=true/\s.pre (b8 obj ds) (cC obj ds),
  (s.out (b8 obj ds) (cC obj ds)).d.ren (cout (reach obj ds) t),cX (reach obj ds) t (s.out (b8 obj ds) (cC obj ds)).new (bW (reach obj ds) t (s.out (b8 obj ds) (cC obj ds)).upd obj)⟩
 foot obj t ds:=reach obj ds++((s.out (b8 obj ds) (cC obj ds)).upd.map fun x=>(reach obj ds).getD x.1 [])++(s.out (b8 obj ds) (cC obj ds)).new.map fun x=>x.1++t
 wrt obj t ds:=((s.out (b8 obj ds) (cC obj ds)).upd.map fun x=>(reach obj ds).getD x.1 [])++(s.out (b8 obj ds) (cC obj ds)).new.map fun x=>x.1++t
theorem si{L:List Name}{t:Name}:∀ (l:List (Nat×O)) (obj obj2:Name->Option O) (nm:Name),bW L t l obj2 nm=if nm∈l.map (fun x=>L.getD x.1 [])then bW L t l obj nm else obj2 nm
 |[],obj,obj2,nm=>by simp[bW]
 |(i,o)::r,obj,obj2,nm=>by
  simp only[bW,List.map_cons,List.mem_cons]
  rw[si r (upd obj (L.getD i []) (some (o.ren (cout L t)))) (upd obj2 (L.getD i []) (some (o.ren (cout L t)))) nm]
  by_cases h:nm∈r.map (fun x=>L.getD x.1 [])
  ·rw[if_pos h,if_pos (.inr h)]
  ·rw[if_neg h]
   by_cases e:nm=L.getD i []
   ·rw[if_pos (.inl e)]
    have hu:bW L t r (upd obj (L.getD i []) (some (o.ren (cout L t)))) nm=(upd obj (L.getD i []) (some (o.ren (cout L t)))) nm:=by
     rw[si r obj _ nm,if_neg h]
    rw[hu,e,aD,aD]
   ·rw[if_neg (by simp only[not_or];exact⟨e,h⟩)]
    exact aI _ _ _ e
theorem qj{L:List Name}{t:Name}:∀ (l:List (Name×O)) (obj obj2:Name->Option O) (nm:Name),cX L t l obj2 nm=if nm∈l.map (fun x=>x.1++t)then cX L t l obj nm else obj2 nm
 |[],obj,obj2,nm=>by simp[cX]
 |(i,o)::r,obj,obj2,nm=>by
  simp only[cX,List.map_cons,List.mem_cons]
  rw[qj r (upd obj (i++t) (some (o.ren (cout L t)))) (upd obj2 (i++t) (some (o.ren (cout L t)))) nm]
  by_cases h:nm∈r.map (fun x=>x.1++t)
  ·rw[if_pos h,if_pos (.inr h)]
  ·rw[if_neg h]
   by_cases e:nm=i++t
   ·rw[if_pos (.inl e)]
    have hu:cX L t r (upd obj (i++t) (some (o.ren (cout L t)))) nm=(upd obj (i++t) (some (o.ren (cout L t)))) nm:=by
     rw[qj r obj _ nm,if_neg h]
    rw[hu,e,aD,aD]
   ·rw[if_neg (by simp only[not_or];exact⟨e,h⟩)]
    exact aI _ _ _ e
theorem nB{obj obj2:Name->Option O}{ds:List D}(h:bq (reach obj ds) obj obj2):reach obj2 ds=reach obj ds:=A1 _ _ _ h
theorem wu{obj obj2:Name->Option O}{ds:List D}(h:bq (reach obj ds) obj obj2):b8 obj2 ds=b8 obj ds:=by
 unfold b8
 rw[nB h]
 exact List.map_congr_left fun nm hn=>by simp only[bV];rw[h nm hn]
theorem EM{obj obj2:Name->Option O}{ds:List D}(h:bq (reach obj ds) obj obj2):cC obj2 ds=cC obj ds:=by
 unfold cC
 rw[nB h]
theorem AP{obj obj2:Name->Option O}{L:List Name}(h:bq L obj obj2):shut obj2 L=shut obj L:=by
 unfold shut
 refine Bool.eq_iff_iff.2 ?_
 simp only[List.all_eq_true]
 exact⟨fun k x hx=>by rw[<-h x hx];exact k x hx,fun k x hx=>by rw[h x hx];exact k x hx⟩
theorem ze{obj obj2:Name->Option O}{t:Name}{new:List (Name×O)}(h:bq (new.map fun x=>x.1++t) obj obj2):fresh obj2 t new=fresh obj t new:=by
 unfold fresh
 refine Bool.eq_iff_iff.2 ?_
 simp only[List.all_eq_true]
 exact⟨fun k x hx=>by rw[<-h _ (List.mem_map_of_mem hx)];exact k x hx,fun k x hx=>by rw[h _ (List.mem_map_of_mem hx)];exact k x hx⟩
theorem BO{ok ok2:Prop}{d:D}{obj obj2:Name->Option O}{L:List Name}{t:Name}{o:Out}(aa:ok2=ok)
 (ha:bq ((o.upd.map fun x=>L.getD x.1 [])++o.new.map fun x=>x.1++t) obj obj2):
 bx ⟨ok,d,cX L t o.new (bW L t o.upd obj)⟩ ⟨ok2,d,cX L t o.new (bW L t o.upd obj2)⟩ obj obj2 ((o.upd.map fun x=>L.getD x.1 [])++o.new.map fun x=>x.1++t):=by
 refine⟨aa,rfl,fun nm=>?_,fun nm hn=>?_⟩
 ·show cX L t o.new (bW L t o.upd obj2) nm=if nm∈_ then cX L t o.new (bW L t o.upd obj) nm else obj2 nm
  rw[qj o.new (bW L t o.upd obj) (bW L t o.upd obj2) nm]
  by_cases h1:nm∈o.new.map (fun x=>x.1++t)
  ·rw[if_pos h1,if_pos (List.mem_append_right _ h1)]
  ·rw[if_neg h1,si o.upd obj obj2 nm]
   by_cases h2:nm∈o.upd.map (fun x=>L.getD x.1 [])
   ·rw[if_pos h2,if_pos (List.mem_append_left _ h2)]
    rw[qj o.new obj (bW L t o.upd obj) nm,if_neg h1]
   ·rw[if_neg h2,if_neg (by simp only[List.mem_append,not_or];exact⟨h2,h1⟩)]
 ·show cX L t o.new (bW L t o.upd obj) nm=obj nm
  simp only[List.mem_append,not_or]at hn
  rw[qj o.new obj (bW L t o.upd obj) nm,if_neg hn.2,si o.upd obj obj nm,if_neg hn.1]
theorem CSpec.near(s:CSpec):s.toSpec.Near:=by
 have key:∀ {obj obj2:Name->Option O} {t:Name} {ds:List D},bq (s.toSpec.foot obj t ds) obj obj2->bq (reach obj ds) obj obj2/\
     bq (((s.out (b8 obj ds) (cC obj ds)).upd.map fun x=>(reach obj ds).getD x.1 [])++(s.out (b8 obj ds) (cC obj ds)).new.map fun x=>x.1++t) obj obj2:=by
  intro obj obj2 t ds h
  refine⟨fun nm hn=>h nm ?_,fun nm hn=>h nm ?_⟩
  ·exact List.mem_append_left _ (List.mem_append_left _ hn)
  ·rcases List.mem_append.1 hn with hn | hn
   ·exact List.mem_append_left _ (List.mem_append_right _ hn)
   ·exact List.mem_append_right _ hn
 refine⟨fun obj obj2 t ds h=>?_,fun obj obj2 t ds h=>?_,fun obj t ds nm hn=>?_,fun obj obj2 t ds h=>?_⟩
 ·obtain⟨h1,h2⟩:=key h
  simp only[CSpec.toSpec]
  rw[wu h1,EM h1,nB h1]
  refine BO ?_ h2
  rw[AP h1,ze fun nm hn=>h2 nm (List.mem_append_right _ hn)]
 ·obtain⟨h1,h2⟩:=key h
  simp only[CSpec.toSpec]
  rw[wu h1,EM h1,nB h1]
 ·simp only[CSpec.toSpec]at hn |-
  rcases List.mem_append.1 hn with hn | hn
  ·exact List.mem_append_left _ (List.mem_append_right _ hn)
  ·exact List.mem_append_right _ hn
 ·obtain⟨h1,h2⟩:=key h
  simp only[CSpec.toSpec]
  rw[wu h1,EM h1,nB h1]
def qo(σ:S)(u:List (Nat×O)):Nat->List O->Prop
 |_,[]=>True
 |i,o::r=>σ.obj [i,1]=some (eg u i o)/\qo σ u (i+1) r
theorem HH{σ:S}{u:List (Nat×O)}:∀ {l:List O} {k:Nat},qo σ u k l->∀ i (h:i<l.length),σ.obj [k+i,1]=some (eg u (k+i) l[i])
 |o::r,k,h,0,_=>h.1
 |o::r,k,h,i+1,hi=>by
  have :=HH h.2 i (by simpa using hi)
  rw[show k+(i+1)=k+1+i by omega]
  simpa using this
def uK(σ:S):List (Name×O)->Prop
 |[]=>True
 |x::r=>σ.obj x.1=some x.2/\uK σ r
theorem HK{σ:S}:∀ {l:List (Name×O)},uK σ l->∀ x∈l,σ.obj x.1=some x.2
 |y::r,h,x,hx=>by
  rcases List.mem_cons.1 hx with rfl | hx
  ·exact h.1
  ·exact HK h.2 x hx
def distinct:List Name->Bool
 |[]=>true
 |x::r=>(r.all fun y=>!(x==y))&&distinct r
theorem LS:∀ {l:List Name},distinct l=true->l.Nodup
 |[],_=>by simp
 |x::r,h=>by
  simp only[distinct,Bool.and_eq_true]at h
  refine List.nodup_cons.2 ⟨fun hx=>?_,LS h.2⟩
  have :=List.all_eq_true.1 h.1 x hx
  simp at this
def fL(os:List O)(o:Out)(σ:S):Prop:=
 qo σ o.upd 0 os/\uK σ o.new/\
  (D.clos (dh os.length o.new) o.d&&(o.upd.all fun x=>O.clos (dh os.length o.new) x.2&&decide (x.1<os.length))&&(o.new.all fun x=>O.clos (dh os.length o.new) x.2&&!cv x.1)&&distinct (o.new.map (·.1)))=true
theorem LJ{os:List O}{o:Out}{σ:S}(h:fL os o σ):Oj σ os o:=by
 obtain⟨h1,h2,h3⟩:=h
 simp only[Bool.and_eq_true]at h3
 exact⟨fun i hi=>by simpa using HH h1 i hi,HK h2,h3.1.1.1,h3.1.1.2,by simpa using h3.1.2,LS h3.2⟩
def uz(P:Program)(rs:List ResultVar)(os:List O)(o:Out):Exit->S->Prop
 | .normal,σ=>(bP P σ rs).ok/\(bP P σ rs).d=o.d/\fL os o σ
 | .ret,σ=>(bP P σ rs).ok/\(bP P σ rs).d=o.d/\fL os o σ
 |_,_=>False
def aT(os:List O):Name->Option O
 |[i,1]=>os[i]?
 |_=>none
theorem Sd{L:List Name}{obj:Name->Option O}{x:Name}(h:cv x=false):iP L obj x=none:=by
 unfold iP
 split
 ·simp[cv]at h
 ·rfl
theorem uF{os:List O}{x:Name}(h:cv x=false):aT os x=none:=by
 unfold aT
 split
 ·simp[cv]at h
 ·rfl
theorem xJ{L:List Name}{obj:Name->Option O}:iP L obj=aT (L.map (bV L obj)):=by
 funext x
 cases hx:cv x with
 |false=>rw[Sd hx,uF hx]
 |true=>
  obtain⟨i,rfl⟩:=sH.1 hx
  show (if i<L.length then some (bV L obj (L.getD i []))else none)=(L.map (bV L obj))[i]?
  by_cases hi:i<L.length
  ·rw[if_pos hi,List.getElem?_eq_getElem (by simpa using hi)]
   rw[jP hi,List.getElem_map]
  ·rw[if_neg hi,List.getElem?_eq_none (by simpa using hi)]
theorem BC{nt:Nat}{l:List (Nat×E)}{os:List O}:aO nt [0] (aT os) l []=⟨nt,c7 eAny l,aT os,[0],0⟩:=by
 unfold aO
 congr 1
 funext nm
 split
 ·rename_i h
  have :cv nm=false:=by
   cases hc:cv nm with
   |false=>rfl
   |true=>
    obtain⟨i,rfl⟩:=sH.1 hc
    rw[Hg]at h;cases h
  unfold aT
  split
  ·simp[cv]at this
  ·rfl
 ·rfl
theorem mf{P:Program}{f:FuncId}{fn:Func}{c:Code}{s:CSpec}{nt:Nat}{rs:List ResultVar}(hf:P.funcs[f]?=some fn)(hb:fn.body=some c)(ei:fn.ntmps=nt)(eH:fn.results.toList=rs)
 (lU:∀ args w,(callFunc f args).run P w=.ok (.enter f args) w) (aq:f≠yid)
 (h:∀ os ds,s.pre os ds->ds.length<=nt/\CW P c (aO nt [0] (aT os) (ef 0 ds) []) (uz P rs os (s.out os ds))):ak P f s.toSpec:=by
 subst ei
 subst eH
 refine⟨s.near,fun _=>lU,fun _ G φ m σ a w hC t ds us _ hl hr aa=>?_,fun e=>(aq e).elim⟩
 obtain⟨aa,cz⟩:=aa
 simp only[Bool.and_eq_true]at aa
 obtain⟨⟨fb,bH⟩,cq⟩:=aa
 obtain⟨hlen,lV⟩:=h _ _ cz
 have ka:(reach σ.obj ds).Nodup:=xt _ _ _ (by simp)
 simp only[cC,gr,List.length_map]at hlen
 refine(callsIn_wide (n:=0)).1 (callsIn_of_wp_marks hf hb trivial ?_)
 have gb:=Ld hC (L:=reach σ.obj ds) ka fb (rd:=none) (fun l h=>by cases h) (b0:=0) (nt:=fn.ntmps) (env:=c7 eAny (ef 0 (cC σ.obj ds)))
  (tmps:=us++Array.replicate (fn.ntmps-us.size) undef) (by simp;omega) (fun t=>by
    rcases sy (z:=eAny) (ef 0 (cC σ.obj ds)) t with h1 | h1
    ·rw[h1];unfold bL eAny;simp;exact .any _
    ·obtain⟨i,hi,h2,h3⟩:=Nj h1
     rw[h3]
     unfold bL
     simp only[if_true]
     simp only[cC,gr,List.length_map]at hi
     have bj:i<us.size:=by omega
     have e:((us++Array.replicate (fn.ntmps-us.size) undef).getD t undef)=us[i]:=by
      have aj:0+i<(us++Array.replicate (fn.ntmps-us.size) undef).size:=by simp;omega
      rw[h2]
      simp only[Array.getD,aj,dite_true]
      show (us++Array.replicate (fn.ntmps-us.size) undef)[0+i]=us[i]
      simp only[Nat.zero_add]
      exact Array.getElem_append_left bj
     rw[e]
     simp only[cC,gr,List.getElem_map]
     exact(hr i hi bj).renx (Mem.le_refl m) xr (gH hi bH))
 rw[BC]at lV
 rw[xJ]at gb
 refine wpIn_mono (lV _ _ m _ w gb) ?_
 rintro e a1 w1 ⟨φ2,m2,σ2,ff,hK⟩
 have fin:(bP P σ2 fn.results.toList).ok/\(bP P σ2 fn.results.toList).d=(s.out (b8 σ.obj ds) (cC σ.obj ds)).d/\fL (b8 σ.obj ds) (s.out (b8 σ.obj ds) (cC σ.obj ds)) σ2->
     LeavesInM Fence.wide 0 P fn a1.tmps (fun e w'=>∃ v φ' m',e=.returned v/\aC G φ' m' { σ with obj:=(s.toSpec.app σ.obj t ds).obj } a w'/\av φ' (s.toSpec.app σ.obj t ds).obj m' (s.toSpec.app σ.obj t ds).d v/\Ext φ φ' σ.obj (s.toSpec.app σ.obj t ds).obj) a1.defers .returning w1:=by
  rintro⟨h1,h2,h3⟩
  refine BP a1.defers rfl ff fun a' w' _ bt=>?_
  obtain⟨v,h4,h5⟩:=GD bt fn h1
  rw[h2]at h5
  have hE:=LJ h3
  obtain⟨φ',m',k1,k2,k3,k4⟩:=Lc hC ka fb bt hE cq
  have td:=hE.cd
  simp only[b8,List.length_map]at td
  exact⟨v,h4,v,φ',m',rfl,k2,k4 _ _ h5 td,k3⟩
 cases e with
 |normal=>exact fin hK
 |ret=>exact fin hK
 |_=>exact hK.elim
theorem bx.more{ok ok2:Prop}{d d2:D}{o1 o2 obj obj2:Name->Option O}{wr:List Name}(nm:Name)(x:Option O)(h:bx ⟨ok,d,o1⟩ ⟨ok2,d2,o2⟩ obj obj2 wr):
 bx ⟨ok,d,upd o1 nm x⟩ ⟨ok2,d2,upd o2 nm x⟩ obj obj2 (nm::wr):=by
 refine⟨h.ok,h.d,fun y=>?_,fun y hy=>?_⟩
 ·show upd o2 nm x y=if y∈nm::wr then upd o1 nm x y else obj2 y
  by_cases e:y=nm
  ·subst e;rw[aD,if_pos (by simp),aD]
  ·rw[aI _ _ _ e,aI _ _ _ e]
   have :=h.eff y
   simp only at this
   rw[this]
   by_cases hy:y∈wr
   ·rw[if_pos hy,if_pos (List.mem_cons_of_mem _ hy)]
   ·rw[if_neg hy,if_neg (by simp[e,hy])]
 ·simp only[List.mem_cons,not_or]at hy
  show upd o1 nm x y=obj y
  rw[aI _ _ _ hy.1]
  exact h.frame y hy.2
structure YSpec where
 pre:List E->List Nat->Code->Code->List O->List D->Prop
 out:List E->List Nat->Code->Code->List O->List D->Out×Option Code
def roots(env:List E)(ds:List D):List D:=env.map (·.d)++ds
def gI(obj:Name->Option O)(env:List E)(ds:List D):List E:=env.map (E.ren (cin (reach obj (roots env ds))))
def iG(obj:Name->Option O)(env:List E)(ds:List D):List D:=D.renL (cin (reach obj (roots env ds))) ds
def YSpec.o(y:YSpec)(obj:Name->Option O)(env:List E)(ps:List Nat)(asg body:Code)(ds:List D):Out×Option Code:=
 y.out (gI obj env ds) ps asg body (b8 obj (roots env ds)) (iG obj env ds)
def YSpec.toSpec(y:YSpec):Spec where
 app obj t args:=match args with
  | .yld nm::ds=>match obj nm with
    |some (.loop env ps asg body .ready none)=>
     ⟨(shut obj (reach obj (roots env ds))&&D.closL (bX (reach obj (roots env ds))) (roots env ds)&&fresh obj t (y.o obj env ps asg body ds).1.new&&!bX (reach obj (roots env ds)) nm&&
         decide (ds.length=ps.length)&&(ps.all fun p=>decide (p<env.length)))=true/\y.pre (gI obj env ds) ps asg body (b8 obj (roots env ds)) (iG obj env ds),
       .v (.bool (y.o obj env ps asg body ds).2.isNone),
       upd (cX (reach obj (roots env ds)) t (y.o obj env ps asg body ds).1.new (bW (reach obj (roots env ds)) t (y.o obj env ps asg body ds).1.upd obj)) nm
        (some (.loop env ps asg body (if (y.o obj env ps asg body ds).2.isNone then .ready else .done) (y.o obj env ps asg body ds).2))⟩
    |_=>.bad obj
  |_=>.bad obj
 foot obj t args:=match args with
  | .yld nm::ds=>nm::(match obj nm with
    |some (.loop env ps asg body .ready none)=>reach obj (roots env ds)++((y.o obj env ps asg body ds).1.upd.map fun x=>(reach obj (roots env ds)).getD x.1 [])++(y.o obj env ps asg body ds).1.new.map fun x=>x.1++t
    |_=>[])
  |_=>[]
 wrt obj t args:=match args with
  | .yld nm::ds=>nm::(match obj nm with
    |some (.loop env ps asg body .ready none)=>((y.o obj env ps asg body ds).1.upd.map fun x=>(reach obj (roots env ds)).getD x.1 [])++(y.o obj env ps asg body ds).1.new.map fun x=>x.1++t
    |_=>[])
  |_=>[]
theorem YSpec.near(y:YSpec):y.toSpec.Near:=by
 have Bu:∀ {obj obj2:Name->Option O} {env:List E} {ps:List Nat} {asg body:Code} {ds:List D},bq (reach obj (roots env ds)) obj obj2->
     y.o obj2 env ps asg body ds=y.o obj env ps asg body ds/\gI obj2 env ds=gI obj env ds/\iG obj2 env ds=iG obj env ds:=by
  intro obj obj2 env ps asg body ds h
  unfold YSpec.o gI iG
  rw[wu h,nB h]
  exact⟨rfl,rfl,rfl⟩
 have split:∀ {A B C:List Name} {obj obj2:Name->Option O} {nm:Name},bq (nm::(A++B++C)) obj obj2->bq A obj obj2/\bq (B++C) obj obj2:=by
  intro A B C obj obj2 nm h
  refine⟨fun x hx=>h x ?_,fun x hx=>h x ?_⟩
  ·exact List.mem_cons_of_mem _ (List.mem_append_left _ (List.mem_append_left _ hx))
  ·rcases List.mem_append.1 hx with hx | hx
   ·exact List.mem_cons_of_mem _ (List.mem_append_left _ (List.mem_append_right _ hx))
   ·exact List.mem_cons_of_mem _ (List.mem_append_right _ hx)
 have zB:∀ (args:List D),(∃ nm ds,args=.yld nm::ds)\/(∀ obj t,y.toSpec.app obj t args=.bad obj/\y.toSpec.foot obj t args=[]/\y.toSpec.wrt obj t args=[]):=by
  intro args
  rcases args with _ | ⟨d,ds⟩
  ·exact .inr fun _ _=>⟨rfl,rfl,rfl⟩
  ·cases d with
   |yld nm=>exact .inl ⟨nm,ds,rfl⟩
   |_=>exact .inr fun _ _=>⟨rfl,rfl,rfl⟩
 refine⟨fun obj obj2 t args h=>?_,fun obj obj2 t args h=>?_,fun obj t args iR hn=>?_,fun obj obj2 t args h=>?_⟩
 ·rcases zB args with⟨nm,ds,rfl⟩ | hb
  ·simp only[YSpec.toSpec]at h |-
   have h0:obj2 nm=obj nm:=h nm (by simp)
   rw[h0]
   split
   ·rename_i env ps asg body ho
    simp only[ho]at h
    obtain⟨h1,h2⟩:=split h
    obtain⟨e1,e2,e3⟩:=Bu (ps:=ps) (asg:=asg) (body:=body) h1
    rw[e1,e2,e3,wu h1,nB h1]
    refine bx.more nm _ (BO ?_ h2)
    rw[AP h1,ze fun nm hn=>h2 nm (List.mem_append_right _ hn)]
   ·exact .none _ fun x hx=>by simp only[List.mem_singleton]at hx;subst hx;exact h0
  ·rw[(hb obj t).1,(hb obj2 t).1,(hb obj t).2.2]
   exact .same rfl rfl rfl rfl
 ·rcases zB args with⟨nm,ds,rfl⟩ | hb
  ·simp only[YSpec.toSpec]at h |-
   have h0:obj2 nm=obj nm:=h nm (by simp)
   rw[h0]
   split
   ·rename_i env ps asg body ho
    simp only[ho]at h
    obtain⟨h1,h2⟩:=split h
    obtain⟨e1,e2,e3⟩:=Bu (ps:=ps) (asg:=asg) (body:=body) h1
    rw[e1,nB h1]
   ·rfl
  ·rw[(hb obj t).2.1,(hb obj2 t).2.1]
 ·rcases zB args with⟨nm,ds,rfl⟩ | hb
  ·simp only[YSpec.toSpec]at hn |-
   rcases List.mem_cons.1 hn with rfl | hn
   ·simp
   ·refine List.mem_cons_of_mem _ ?_
    split at hn
    ·rename_i env ps asg body ho
     try simp only[ho]
     rcases List.mem_append.1 hn with hn | hn
     ·exact List.mem_append_left _ (List.mem_append_right _ hn)
     ·exact List.mem_append_right _ hn
    ·cases hn
  ·rw[(hb obj t).2.2]at hn;cases hn
 ·rcases zB args with⟨nm,ds,rfl⟩ | hb
  ·simp only[YSpec.toSpec]at h |-
   have h0:obj2 nm=obj nm:=h nm (by simp)
   rw[h0]
   split
   ·rename_i env ps asg body ho
    simp only[ho]at h
    obtain⟨h1,h2⟩:=split h
    obtain⟨e1,e2,e3⟩:=Bu (ps:=ps) (asg:=asg) (body:=body) h1
    rw[e1,nB h1]
   ·rfl
  ·rw[(hb obj t).2.2,(hb obj2 t).2.2]
def rE(env:List E):Nat->E:=fun t=>env.getD t eAny
def setP:(Nat->E)->List Nat->List D->(Nat->E)
 |f,p::ps,d::ds=>setP (upd f p ⟨true,d⟩) ps ds
 |f,_,_=>f
def Hp(k:S->Prop):Exit->S->Prop
 | .normal,σ=>k σ
 |_,_=>False
def Rv(os:List O)(o:Out×Option Code):Exit->S->Prop
 | .normal,σ=>o.2=none/\fL os o.1 σ
 | .ret,σ=>o.2=some .ret/\fL os o.1 σ
 | .exit id,σ=>o.2=some (.exit id)/\fL os o.1 σ
 |_,_=>False
theorem Gd{φ:Name->Loc}{obj:Name->Option O}{m:Mem}{n:Nat}:∀ (ps:List Nat) (ds:List D) (us:List Value) (f:Nat->E) (tmps:Array Value),tmps.size=n->ps.length=ds.length->ds.length=us.length->
 (∀ p∈ps,p<n)->(∀ t,bL φ obj m (f t) (tmps.getD t undef))->(∀ i (h:i<ds.length) (h':i<us.length),av φ obj m ds[i] us[i])->
 (∀ t,bL φ obj m (setP f ps ds t) (((ps.zip us).foldl (fun tmps (p:Nat×Value)=>tmps.setIfInBounds p.1 p.2) tmps).getD t undef))/\((ps.zip us).foldl (fun tmps (p:Nat×Value)=>tmps.setIfInBounds p.1 p.2) tmps).size=n
 |[],ds,us,f,tmps,hs,h1,h2,hp,hf,hr=>by
  have :ds=[]:=List.eq_nil_of_length_eq_zero (by simpa using h1.symm)
  subst this
  exact⟨hf,hs⟩
 |p::ps,[],us,f,tmps,hs,h1,h2,hp,hf,hr=>by simp at h1
 |p::ps,d::ds,[],f,tmps,hs,h1,h2,hp,hf,hr=>by simp at h2
 |p::ps,d::ds,u::us,f,tmps,hs,h1,h2,hp,hf,hr=>by
  simp only[List.zip_cons_cons,List.foldl_cons,setP]
  refine Gd ps ds us _ _ (by simpa using hs) (by simpa using h1) (by simpa using h2) (fun q hq=>hp q (by simp[hq])) (fun t=>?_) fun i a b=>by
   have :=hr (i+1) (by simpa using a) (by simpa using b)
   simpa using this
  have ae:p<tmps.size:=by rw[hs];exact hp p (by simp)
  by_cases ht:t=p
  ·subst ht
   rw[aD]
   have e:(tmps.setIfInBounds t u).getD t undef=u:=by simp[Array.getD,ae]
   rw[e]
   unfold bL
   simp only[if_true]
   exact hr 0 (by simp) (by simp)
  ·rw[aI _ _ _ ht]
   have e:(tmps.setIfInBounds p u).getD t undef=tmps.getD t undef:=by
    simp only[Array.getD_eq_getD_getElem?]
    rw[Array.getElem?_setIfInBounds_ne (fun h=>ht h.symm)]
   rw[e];exact hf t
theorem Ax{wa wb:World}{L:List Name}{φ:Name->Loc}{obj:Name->Option O}{l:Nat}(ht:tQ wa L φ obj)(h:∃ r,wa.heap[l]?=some (.loop r))(hb:∀ b,b≠l->wb.heap[b]?=wa.heap[b]?):tQ wb L φ obj:=by
 refine⟨fun q hq=>?_,ht.2⟩
 obtain⟨T,f,e⟩:=ht.1 q hq
 obtain⟨r,hr⟩:=h
 rw[hb q.1 (fun e'=>by rw[e',hr]at e;cases e)]
 exact⟨T,f,e⟩
theorem Mj{wa wb:World}{m:Mem}{L:List Name}{φ:Name->Loc}{obj:Name->Option O}{l:Nat}{h h' ht ht'}{φ1:Name->Loc}{m1:Mem}{σ1:S}{a1:Act}{w1 w2:World}
 (hC:aC (rz wa m L φ obj (some l) h ht) φ1 m1 σ1 a1 w1) (a8:wb.heap.size=wa.heap.size/\w2.heap.size=w1.heap.size) (ho:wb.os=w2.os/\wb.tape=w2.tape/\wb.output=w2.output)
 (hb:∀ b,b≠l->wb.heap[b]?=wa.heap[b]?) (h2:∀ b,b≠l->w2.heap[b]?=w1.heap[b]?) (hl:wb.heap[l]?=w2.heap[l]?):aC (rz wb m L φ obj (some l) h' ht') φ1 m1 σ1 a1 w2:=by
 obtain⟨Ka,r,hr⟩:=h l rfl
 have ae:l<wa.heap.size:=(Array.getElem?_eq_some_iff.1 hr).1
 have bT:w1.heap[l]?=some (.loop r):=(hC.fr.block l ae Ka).trans hr
 constructor
 ·exact hC.tmps
 ·exact hC.size
 ·obtain⟨ds,k1,k2,k3⟩:=hC.defers
  refine⟨ds,k1,k2,fun D hD=>?_⟩
  obtain⟨k4,k5⟩:=k3 D hD
  have aq:D≠l:=fun e=>by subst e;rw[bT]at k5;cases k5
  exact⟨by show wb.heap.size<=D;rw[a8.1];exact k4,(h2 D aq).trans k5⟩
 ·intro nm o fx
  refine(hC.objs nm o fx).ext (Mem.le_refl _) (Ext.refl _ _) fun k1 k2=>h2 _ fun e=>?_
  rcases hC.own nm ⟨o,fx,k1,k2⟩with h3 | h3
  ·have h4:wa.heap.size<=(φ1 nm).blk:=h3
   omega
  ·rw[e]at h3;exact Ka h3
 ·intro b off v hv
  have h3:=hC.mem b off v hv
  rw[pP (h2 b (fun e=>by subst e;unfold World.cell? at h3;simp[bT]at h3))]
  exact h3
 ·exact hC.apart
 ·exact hC.inj
 ·intro nm hh
  rcases hC.own nm hh with h3 | h3
  ·exact .inl (by show wb.heap.size<=_;rw[a8.1];exact h3)
  ·exact .inr h3
 ·refine⟨ho.1.symm,ho.2.1.symm,ho.2.2.symm,by show wb.heap.size<=_;rw[a8.1,a8.2];exact hC.fr.size,fun b h3 h4=>?_⟩
  show w2.heap[b]?=wb.heap[b]?
  by_cases e:b=l
  ·subst e;exact hl.symm
  ·rw[h2 b e,hb b e]
   exact hC.fr.block b (by have:b<wb.heap.size:=h3;show b<wa.heap.size;omega) h4
 ·intro b off v hv
  rcases hC.fresh b off v hv with h3 | h3 | h3
  ·exact .inl h3
  ·exact .inr (.inl (by show wb.heap.size<=_;rw[a8.1];exact h3))
  ·exact .inr (.inr h3)
 ·exact hC.kept
theorem Mz{L:List Name}{obj:Name->Option O}{nm:Name}{x:Option O}(h:nm∉L){y:Name}(hy:y∈L):bV L (upd obj nm x) y=bV L obj y:=by
 unfold bV
 rw[aI _ _ _ (by rintro rfl;exact h hy)]
theorem Sc{L:List Name}{obj:Name->Option O}{nm:Name}{x:Option O}(h:nm∉L):iP L (upd obj nm x)=iP L obj:=by
 rw[xJ,xJ]
 congr 1
 exact List.map_congr_left fun y hy=>Mz h hy
theorem Dp{L:List Name}{φ:Name->Loc}{obj:Name->Option O}{nm:Name}{x:Option O}(h:nm∉L):nv L φ (upd obj nm x)=nv L φ obj:=by
 funext b
 refine propext ⟨fun ⟨y,h1,⟨o,h2,h3⟩,h4⟩=>?_,fun ⟨y,h1,⟨o,h2,h3⟩,h4⟩=>?_⟩
 ·rw[aI _ _ _ (by rintro rfl;exact h h1)]at h2
  exact⟨y,h1,⟨o,h2,h3⟩,h4⟩
 ·exact⟨y,h1,⟨o,by rw[aI _ _ _ (by rintro rfl;exact h h1)];exact h2,h3⟩,h4⟩
theorem XW{w:World}{m:Mem}{L:List Name}{φ:Name->Loc}{obj:Name->Option O}{nm:Name}{x:Option O}{rd:Option Nat}(h:nm∉L){h1}{h2}{t1}{t2}:rz w m L φ (upd obj nm x) rd h1 t1=rz w m L φ obj rd h2 t2:=by
 unfold rz
 simp only[Sc h,Dp h]
theorem Fp{P:Program}{y:YSpec}(h:∀ env ps asg body os ds,y.pre env ps asg body os ds->ds.length=ps.length->
 CW P asg ⟨env.length,setP (rE env) ps ds,aT os,[0],0⟩ (Hp fun σ1=>CW P body σ1 (Rv os (y.out env ps asg body os ds)))):ak P yid y.toSpec:=by
 refine⟨y.near,fun e=>(e rfl).elim,fun e=>(e rfl).elim,fun _ G φ m σ a w hC t nm ds us _ hl hr _ aa o WE=>?_⟩
 simp only[YSpec.toSpec]at aa |-
 split at aa
 case h_2=>exact aa.elim
 rename_i env ps asg body an
 try simp only[an]
 obtain⟨aa,cz⟩:=aa
 simp only[Bool.and_eq_true,Bool.not_eq_true',decide_eq_true_eq]at aa
 obtain⟨⟨⟨⟨⟨fb,bH⟩,cq⟩,Kc⟩,hlen⟩,dU⟩:=aa
 have eJ:nm∉reach σ.obj (roots env ds):=fun h=>by rw[fW.2 h]at Kc;cases Kc
 have ka:(reach σ.obj (roots env ds)).Nodup:=xt _ _ _ (by simp)
 obtain⟨_,cN,r,bT,dw,hr3,CD,J0,JZ,JY,JX⟩:=hC.objs nm _ an
 have ae:(φ nm).blk<w.heap.size:=(Array.getElem?_eq_some_iff.1 bT).1
 have rj:¬ nv (reach σ.obj (roots env ds)) φ σ.obj (φ nm).blk:=fun ⟨x,k1,k2,k3⟩=>eJ (hC.inj _ _ k2 ⟨_,an,rfl,cN⟩ k3▸k1)
 have bU:r.params.size=ps.length:=by rw[<-CD];simp
 intro next Q qW
 rw[WE,run_yield bT (by omega),Oper.uponIn_round]
 refine⟨fun h=>(by simp[eo,Fence.wide]at h),?_⟩
 rw[J0,JZ]
 refine roundIn_of_wpIn trivial ?_
 have aea:=bH
 have WS:∀ i (h:i<env.length),D.clos (bX (reach σ.obj (roots env ds))) env[i].d=true:=fun i hi=>by
  have :=gH (l:=roots env ds) (i:=i) (by simp[roots];omega) bH
  simp only[roots]at this |-
  rw[List.getElem_append_left (by simpa using hi)]at this
  simpa using this
 have Dr:∀ i (h:i<ds.length),D.clos (bX (reach σ.obj (roots env ds))) ds[i]=true:=fun i hi=>by
  have :=gH (l:=roots env ds) (i:=env.length+i) (by simp[roots];omega) bH
  simp only[roots]at this |-
  rw[List.getElem_append_right (by simp)]at this
  simpa using this
 obtain⟨q1,q2⟩:=Gd (φ:=lq (reach σ.obj (roots env ds)) φ) (obj:=iP (reach σ.obj (roots env ds)) σ.obj) (m:=m) (n:=env.length) ps (iG σ.obj env ds) us.toList (rE (gI σ.obj env ds)) r.tmps JY
  (by simp[iG,gr];omega) (by simp[iG,gr];omega) (fun p hp=>by have:=List.all_eq_true.1 dU p hp;simpa using this)
  (fun t=>by
    unfold rE
    by_cases ht:t<env.length
    ·have:=(JX t ht).renx (Mem.le_refl m) xr (WS t ht)
     have e:(gI σ.obj env ds).getD t eAny=E.ren (cin (reach σ.obj (roots env ds))) env[t]:=by
      rw[List.getD_eq_getElem?_getD,List.getElem?_eq_getElem (by simpa[gI]using ht)];simp[gI]
     rw[e];exact this
    ·have e:(gI σ.obj env ds).getD t eAny=eAny:=by
       rw[List.getD_eq_getElem?_getD,List.getElem?_eq_none (by simp[gI];omega)];rfl
     rw[e];unfold bL eAny;simp;exact .any _)
  (fun i a b=>by
    simp only[iG,gr,List.length_map]at a
    have :=(hr i a (by simpa using b)).renx (Mem.le_refl m) xr (Dr i a)
    simpa[iG,gr]using this)
 have gb:=Ld hC (L:=reach σ.obj (roots env ds)) ka fb (rd:=some (φ nm).blk) (fun l e=>by cases e;exact⟨rj,r,bT⟩) (b0:=0) (nt:=env.length) q2 q1
 have lV:=h _ _ _ _ _ _ cz (by simp[iG,gr];omega)
 have Wy:(r.params.zip us).foldl (fun tmps (p:Nat×Value)=>tmps.setIfInBounds p.1 p.2) r.tmps=(ps.zip us.toList).foldl (fun tmps (p:Nat×Value)=>tmps.setIfInBounds p.1 p.2) r.tmps:=by
  rw[<-CD,<-Array.toList_zip,Array.foldl_toList]
 have n4:(gI σ.obj env ds).length=env.length:=by simp[gI]
 rw[n4]at lV
 rw[xJ]at gb
 have Wx:(r.params.zip us).foldl (fun tmps (x:Tmp×Value)=>match x with | (t,a)=>tmps.setIfInBounds t a) r.tmps=(ps.zip us.toList).foldl (fun tmps (p:Nat×Value)=>tmps.setIfInBounds p.1 p.2) r.tmps:=Wy
 rw[Wx]
 refine wpIn_mono (lV _ _ m _ w gb) ?_
 rintro e a1 w1 ⟨φ1,m1,σ1,ff,hK⟩
 cases e with
 |normal=>
  have J1:w1.heap[(φ nm).blk]?=some (.loop r):=(ff.fr.block _ ae rj).trans bT
  have bI:=(Array.getElem?_eq_some_iff.1 J1).1
  refine⟨_,run_beginRound J1 dw,?_⟩
  have dA:w1.os=w.os/\w1.tape=w.tape/\w1.output=w.output:=⟨ff.fr.os,ff.fr.tape,ff.fr.output⟩
  have eL:=Mj (wb:=w.putObj (φ nm).blk (.loop { r with state:=.busy })) (w2:=w1.putObj (φ nm).blk (.loop { r with state:=.busy }))
   (h':=fun l e=>by cases e;exact⟨rj,_,World.putObj_heap_same ae⟩) (ht':=Ax (xb hC _) ⟨r,bT⟩ fun b hb=>World.putObj_heap_other hb) ff ⟨by simp,by simp⟩ ⟨dA.1.symm,dA.2.1.symm,dA.2.2.symm⟩
   (fun b hb=>World.putObj_heap_other hb) (fun b hb=>World.putObj_heap_other hb) (by rw[World.putObj_heap_same ae,World.putObj_heap_same bI])
  refine wpIn_mono (hK _ _ m1 _ _ eL) ?_
  rintro e a3 w3 ⟨φ3,m3,σ3,rv,n8⟩
  have CE:w3.heap[(φ nm).blk]?=some (.loop { r with state:=.busy }):=(rv.fr.block _ (by show _<(w.putObj _ _).heap.size;simpa using ae) rj).trans (World.putObj_heap_same ae)
  have Wh:=(Array.getElem?_eq_some_iff.1 CE).1
  have fin:∀ bh:Option Code,(y.o σ.obj env ps asg body ds).2=bh->fL (b8 σ.obj (roots env ds)) (y.o σ.obj env ps asg body ds).1 σ3->
      ∃ v w',(Instr.endRound (φ nm).blk bh).run P w3=.ok v w'/\next (a.put o.dst v) w':=by
   intro bh he hE
   refine⟨_,_,run_endRound bh CE,?_⟩
   generalize VX:({ r with state:=.busy }:Loop)=rb at CE |-
   let rf:Loop:={ r with state:=if bh.isNone then .ready else .done,pending:=bh }
   have VW:({ rb with state:=if bh.isNone then .ready else .done,pending:=bh }:Loop)=rf:=by rw[<-VX]
   rw[VW]
   have KV:=Mj (wb:=w.putObj (φ nm).blk (.loop rf)) (w2:=w3.putObj (φ nm).blk (.loop rf))
    (h':=fun l e=>by cases e;exact⟨rj,_,World.putObj_heap_same ae⟩) (ht':=Ax (xb hC _) ⟨r,bT⟩ fun b hb=>World.putObj_heap_other hb) rv ⟨by simp,by simp⟩
    ⟨(show (w.putObj (φ nm).blk (.loop rf)).os=(w3.putObj (φ nm).blk (.loop rf)).os from rv.fr.os.symm),(show (w.putObj (φ nm).blk (.loop rf)).tape=(w3.putObj (φ nm).blk (.loop rf)).tape from rv.fr.tape.symm),(show (w.putObj (φ nm).blk (.loop rf)).output=(w3.putObj (φ nm).blk (.loop rf)).output from rv.fr.output.symm)⟩
    (fun b hb=>by rw[World.putObj_heap_other hb,World.putObj_heap_other hb]) (fun b hb=>World.putObj_heap_other hb) (by rw[World.putObj_heap_same ae,World.putObj_heap_same Wh])
   have bt:aC G φ m { σ with obj:=upd σ.obj nm (some (.loop env ps asg body (if bh.isNone then .ready else .done) bh)) } a (w.putObj (φ nm).blk (.loop rf)):=by
    have :=hC.chg (w':=w.putObj (φ nm).blk (.loop rf)) nm (.loop env ps asg body (if bh.isNone then .ready else .done) bh) (φ nm) (Ext.same an rfl rfl) ⟨rfl,rfl,rfl,by simp⟩
     (fun b _ hb=>World.putObj_heap_other (by rcases hb with h | h; · rw[cN]at h;cases h
                                              ·exact h))
     (fun _=>.inr ⟨⟨_,an,rfl,cN⟩,rfl⟩) (by
       rw[dX]
       refine⟨by assumption,cN,rf,World.putObj_heap_same ae,rfl,rfl,CD,J0,JZ,JY,fun i hi=>(JX i hi).ext (Mem.le_refl m) ?_⟩
       have :=Ext.same (φ:=φ) (o':=.loop env ps asg body (if bh.isNone then .ready else .done) bh) an rfl rfl
       rwa [dX]at this)
    rwa [dX]at this
   have Xt:shut (upd σ.obj nm (some (.loop env ps asg body (if bh.isNone then .ready else .done) bh))) (reach σ.obj (roots env ds))=true:=by
    rw[AP (obj:=σ.obj) fun x hx=>aI _ _ _ (by rintro rfl;exact eJ hx)];exact fb
   have y0:(reach σ.obj (roots env ds)).map (bV (reach σ.obj (roots env ds)) (upd σ.obj nm (some (.loop env ps asg body (if bh.isNone then .ready else .done) bh))))=b8 σ.obj (roots env ds):=
    List.map_congr_left fun x hx=>Mz eJ hx
   have DK:=LJ hE
   rw[<-y0]at DK
   have vp:∀ x∈(y.o σ.obj env ps asg body ds).1.new,nm≠x.1++t:=fun x hx e=>by
    have :=List.all_eq_true.1 cq x hx
    rw[<-e,an]at this;cases this
   have Ww:fresh (upd σ.obj nm (some (.loop env ps asg body (if bh.isNone then .ready else .done) bh))) t (y.o σ.obj env ps asg body ds).1.new=true:=by
    rw[ze (obj:=σ.obj) fun x hx=>by
     obtain⟨z,hz,rfl⟩:=List.mem_map.1 hx
     exact aI _ _ _ (vp z hz).symm]
    exact cq
   rw[<-XW (x:=some (.loop env ps asg body (if bh.isNone then .ready else .done) bh)) eJ (h1:=fun l e=>by
    cases e;rw[Dp eJ];exact⟨rj,_,World.putObj_heap_same ae⟩) (t1:=by unfold tQ;rw[Dp eJ];exact Ax (xb hC _) ⟨r,bT⟩ fun b hb=>World.putObj_heap_other hb)]at KV
   obtain⟨φ',m',k1,k2,k3,k4⟩:=Lc bt ka Xt KV DK Ww
   refine qW _ φ' m' _ ?_ (.v _ _ ?_)
   ·have:(cX (reach σ.obj (roots env ds)) t (y.o σ.obj env ps asg body ds).1.new (bW (reach σ.obj (roots env ds)) t (y.o σ.obj env ps asg body ds).1.upd (upd σ.obj nm (some (.loop env ps asg body (if bh.isNone then .ready else .done) bh)))))=
      upd (cX (reach σ.obj (roots env ds)) t (y.o σ.obj env ps asg body ds).1.new (bW (reach σ.obj (roots env ds)) t (y.o σ.obj env ps asg body ds).1.upd σ.obj)) nm (some (.loop env ps asg body (if bh.isNone then .ready else .done) bh)):=by
      funext x
      have hu:((y.o σ.obj env ps asg body ds).1.upd.all fun x=>decide (x.1<(reach σ.obj (roots env ds)).length))=true:=List.all_eq_true.2 fun z hz=>by
       have :=List.all_eq_true.1 DK.cu z hz
       simp only[Bool.and_eq_true,List.length_map]at this;exact this.2
      by_cases e:x=nm
      ·subst e
       rw[aD,uC _ _ vp,A7 _ _ hu eJ,aD]
      ·rw[aI _ _ _ e]
       rw[qj (y.o σ.obj env ps asg body ds).1.new σ.obj (bW _ _ _ (upd _ _ _)) x,qj (y.o σ.obj env ps asg body ds).1.new σ.obj (bW _ _ _ σ.obj) x]
       by_cases h1:x∈(y.o σ.obj env ps asg body ds).1.new.map (fun x=>x.1++t)
       ·rw[if_pos h1,if_pos h1]
       ·rw[if_neg h1,if_neg h1]
        rw[si (y.o σ.obj env ps asg body ds).1.upd σ.obj (upd _ _ _) x,si (y.o σ.obj env ps asg body ds).1.upd σ.obj σ.obj x]
        by_cases h2:x∈(y.o σ.obj env ps asg body ds).1.upd.map (fun x=>(reach σ.obj (roots env ds)).getD x.1 [])
        ·rw[if_pos h2,if_pos h2]
        ·rw[if_neg h2,if_neg h2];exact aI _ _ _ e
    rw[this]at k2
    rw[he]
    exact k2
   ·rw[he];exact .bool _
  cases e with
  |normal=>exact fin none n8.1 n8.2
  |ret=>exact fin (some .ret) n8.1 n8.2
  |exit id=>exact fin (some (.exit id)) n8.1 n8.2
  |goto l=>exact n8.elim
  |panic ch=>exact n8.elim
  |outgrown=>exact n8.elim
 |ret=>exact hK.elim
 |exit id=>exact hK.elim
 |goto l=>exact hK.elim
 |panic ch=>exact hK.elim
 |outgrown=>exact hK.elim
theorem YP{G:Ghost}{φ:Name->Loc}{m:Mem}{σ:S}{a:Act}{w:World}(hC:aC G φ m σ a w):
 aC G φ m σ { a with defers:=[{ target:=.collected w.heap.size,args:= #[] }]++a.defers } (w.alloc (.deferred (some []))):=by
 have hb:∀ b,b<w.heap.size->(w.alloc (.deferred (some []))).heap[b]?=w.heap[b]?:=fun b h=>RowKit.Below.heap_alloc w _ b h
 have h:=hC.imm (w':=w.alloc (.deferred (some []))) (Mem.le_refl m) ⟨rfl,rfl,rfl,by simp⟩ hb (fun _ _ _ h=>.inl h)
 refine⟨h.tmps,h.size,?_,h.objs,h.mem,h.apart,h.inj,h.own,h.fr,h.fresh,h.kept⟩
 obtain⟨ds,h1,h2,h3⟩:=h.defers
 have ae:∀ D∈ds,D<w.heap.size:=fun D hD=>by
  obtain⟨l8,k1,k2,k3⟩:=hC.defers
  have e:l8=ds:=by
   have :=k1.symm.trans h1
   have hi:Function.Injective (fun D:Nat=>({ target:=.collected D,args:= #[] }:Deferred)):=fun x y h=>by simpa using h
   exact(List.map_inj_right hi).1 this
  exact(Array.getElem?_eq_some_iff.1 (k3 D (e▸hD)).2).1
 refine⟨w.heap.size::ds,by rw[h1];rfl,List.nodup_cons.2 ⟨fun hm=>Nat.lt_irrefl _ (ae _ hm),h2⟩,fun D hD=>?_⟩
 rcases List.mem_cons.1 hD with rfl | hD
 ·exact⟨hC.fr.size,World.alloc_heap_new w _⟩
 ·exact h3 D hD
def iL(obj:Name->Option O)(nm:Name):Name->Option O:=upd obj nm (match obj nm with
 |some (.loop env ps asg body _ bh)=>some (.loop env ps asg body .exhausted bh)
 |o=>o)
def mJ(K:Exit->S->Prop)(obj:Name->Option O)(nm:Name)(σ:S):Prop:=match obj nm with
 |some (.loop _ _ _ _ .busy _)=>False
 |some (.loop _ _ _ _ _ none)=>K .normal σ
 |some (.loop _ _ _ _ _ (some .ret))=>K .ret σ
 |some (.loop _ _ _ _ _ (some (.exit id)))=>K (.exit id) σ
 |_=>False
theorem L9{P:Program}{Γ:FuncId->Option Spec}(hΓ:∀ f s,Γ f=some s->ak P f s){g:Operand}{ps:Array Tmp}{asg body:Code}{σ:S}{K:Exit->S->Prop}(k k':Nat){f:FuncId}{s:Spec}
 (hc:ck σ g=true) (cA:eO (ai σ g)=some f) (aq:f≠yid) (hs:Γ f=some s) (lP:σ.obj (k::σ.pre)=none)
 (aa:(s.app (upd σ.obj (k::σ.pre) (some (.loop ((List.range σ.nt).map σ.env) ps.toList asg body .ready none))) (k'::σ.pre) (dN (ai σ g) [.yld (k::σ.pre)])).ok)
 (hK:mJ K (s.app (upd σ.obj (k::σ.pre) (some (.loop ((List.range σ.nt).map σ.env) ps.toList asg body .ready none))) (k'::σ.pre) (dN (ai σ g) [.yld (k::σ.pre)])).obj (k::σ.pre)
   { σ with obj:=iL (s.app (upd σ.obj (k::σ.pre) (some (.loop ((List.range σ.nt).map σ.env) ps.toList asg body .ready none))) (k'::σ.pre) (dN (ai σ g) [.yld (k::σ.pre)])).obj (k::σ.pre) }):
 CW P (.rangeFunc g ps asg body) σ K:=by
 intro G φ m a w hC
 generalize an:k::σ.pre=nm at *
 generalize CQ:upd σ.obj nm (some (.loop ((List.range σ.nt).map σ.env) ps.toList asg body .ready none))=oV at *
 generalize hR:s.app oV (k'::σ.pre) (dN (ai σ g) [.yld nm])=R at *
 have yS:=bQ hC hc
 obtain⟨us,vs,fs,cs,hu,jM,e1,e2,bT,dw⟩:∃ (us vs:Array Value) (fs cs:List D),a.eval g=.func (.func f) us vs/\(∀ args,dN (ai σ g) args=fs++args++cs)/\fs.length=us.size/\cs.length=vs.size/\
  (∀ i (h:i<fs.length) (h':i<us.size),av φ σ.obj m fs[i] us[i])/\(∀ i (h:i<cs.length) (h':i<vs.size),av φ σ.obj m cs[i] vs[i]):=by
  generalize a.eval g=u at *
  generalize ai σ g=d at *
  unfold eO at cA
  split at cA
  ·rename_i f' fs cs
   split at cA
   ·cases cA
   cases cA
   cases yS with
   |v _ _ yS=>
   cases yS with
   |clo _ _ _ us vs e1 e2 h1 h2=>
   exact⟨us,vs,fs.map .v,cs.map .v,rfl,fun _=>rfl,by simpa using e1,by simpa using e2,fun i a b=>by simpa using .v _ _ (h1 i (by simpa using a) b),fun i a b=>by simpa using .v _ _ (h2 i (by simpa using a) b)⟩
  ·rename_i f' fs cs
   split at cA
   ·cases cA
   cases cA
   cases yS with
   |clo _ _ _ us vs e1 e2 h1 h2=>exact⟨us,vs,fs,cs,rfl,fun _=>rfl,e1,e2,h1,h2⟩
  ·cases cA;exact(aq rfl).elim
  ·cases cA
 refine wpIn_rangeFunc fun fn _=>?_
 have main:∀ (W:World) (a':Act) (D:Nat),aC G φ m σ a' W->a'.tmps=a.tmps->
     ∃ (d:Deferred) (rV:World) (f':FuncId) (args:Array Value) (w₂:World),
     (resolve a.eval (rangeCall g W.heap.size) 0).run P (W.alloc (.loop { state:=.ready,pending:=none,fn,tmps:=a.tmps,params:=ps,assign:=asg,body,defers:=D }))=.ok d rV/\
     (invoke d.target d.args).run P rV=.ok (.enter f' args) w₂/\
     CallsIn (eo G.rd) (0-1) P f' args w₂ (rangePost (eo G.rd) 0 P W.heap.size (fun e a' w'=>∃ φ' m' σ',aC G φ' m' σ' a' w'/\K e σ') a'):=by
  intro W a' D ff kK
  obtain⟨r,pk⟩:∃ r:Loop,r={ state:=.ready,pending:=none,fn,tmps:=a.tmps,params:=ps,assign:=asg,body,defers:=D }:=⟨_,rfl⟩
  rw[<-pk]
  have hx:=Ext.new (φ:=φ) lP ⟨W.heap.size,0,0,false,none⟩ (.loop ((List.range σ.nt).map σ.env) ps.toList asg body .ready none)
  have eL:=ff.chg (w':=W.alloc (.loop r)) nm (.loop ((List.range σ.nt).map σ.env) ps.toList asg body .ready none) ⟨W.heap.size,0,0,false,none⟩ hx ⟨rfl,rfl,rfl,by simp⟩
   (fun b hb _=>RowKit.Below.heap_alloc W _ b hb) (fun _=>.inl (Nat.le_refl _)) ⟨rfl,rfl,r,World.alloc_heap_new W _,by rw[pk],by rw[pk],by rw[pk],by rw[pk],by rw[pk],by
     rw[pk]
     show a.tmps.size=_
     rw[<-kK,ff.size];simp,fun i hi=>by
     simp only[List.getElem_map,List.getElem_range]
     rw[pk]
     show bL _ _ m _ (a.tmps.getD i undef)
     rw[<-kK]
     exact(ff.tmps i).ext (Mem.le_refl m) hx⟩
  rw[CQ]at eL hx
  refine⟨{ target:=.fn (.func f) vs,args:=us++ #[.func (.yield W.heap.size) #[] #[]] },W.alloc (.loop r),f,us++ #[.func (.yield W.heap.size) #[] #[]]++vs,W.alloc (.loop r),?_,?_,?_⟩
  ·have hy:a.eval (.const (.func (.yield W.heap.size) #[] #[]))=.func (.yield W.heap.size) #[] #[]:=rfl
   simp[resolve,Deferred.ofValue,hu,hy]
  ·simp[invoke,(hΓ f s hs).enter aq]
  ·refine Lu ?_
   have WU:=(hΓ f s hs).calls aq G (upd φ nm ⟨W.heap.size,0,0,false,none⟩) m { σ with obj:=oV } a' (W.alloc (.loop r)) eL (k'::σ.pre) (dN (ai σ g) [.yld nm]) (us++ #[.func (.yield W.heap.size) #[] #[]]++vs) ⟨k',rfl⟩
   refine(WU ?_ ?_ ?_).mono ?_
   ·rw[jM];simp only[List.length_append,List.length_singleton,Array.size_append,e1,e2];rfl
   ·intro i h1 h2
    simp only[jM]
    have yu:av (upd φ nm ⟨W.heap.size,0,0,false,none⟩) oV m (.yld nm) (.func (.yield W.heap.size) #[] #[]):=by
     have :=av.yld (φ:=upd φ nm ⟨W.heap.size,0,0,false,none⟩) (obj:=oV) (m:=m) nm ⟨_,by rw[<-CQ,aD],rfl⟩
     rwa [aD]at this
    simp only[jM,List.length_append,List.length_singleton]at h1
    by_cases k1:i<fs.length
    ·have q1:i<us.size:=by omega
     simp only[List.append_assoc,Array.append_assoc]
     rw[List.getElem_append_left k1,Array.getElem_append_left q1]
     exact(bT i k1 q1).ext (Mem.le_refl m) hx
    ·by_cases k2:i=fs.length
     ·subst k2
      simp only[List.append_assoc,Array.append_assoc]
      rw[List.getElem_append_right (by omega),Array.getElem_append_right (by omega)]
      simp only[Nat.sub_self,e1,List.cons_append,List.getElem_cons_zero]
      rw[Array.getElem_append_left (by simp)]
      simpa using yu
     ·rw[List.getElem_append_right (by simp;omega),Array.getElem_append_right (by simp;omega)]
      have :=(dw (i-(fs.length+1)) (by omega) (by omega)).ext (Mem.le_refl m) hx
      simp only[List.length_append,List.length_singleton,Array.size_append,<-e1]
      exact this
   ·show (s.app oV _ _).ok
    rw[hR];exact aa
   ·rintro e w3 ⟨v,φ',m',rfl,rv,_,VI⟩
    have h9:s.app oV (k'::σ.pre) (dN (ai σ g) [.yld nm])=R:=hR
    have KW:aC G φ' m' { σ with obj:=R.obj } a' w3:=by rw[<-h9];exact rv
    have VH:Ext (upd φ nm ⟨W.heap.size,0,0,false,none⟩) φ' oV R.obj:=by rw[<-h9];exact VI
    have V9:oV nm=some (.loop ((List.range σ.nt).map σ.env) ps.toList asg body .ready none):=by rw[<-CQ,aD]
    have C2:φ' nm=⟨W.heap.size,0,0,false,none⟩:=by
     obtain⟨o',k1,k2⟩:=VH nm _ V9
     rcases k2 with⟨_,k2,_⟩ | ⟨n,n',k2,_⟩
     ·rw[k2,aD]
     ·cases k2
    unfold mJ at hK
    have step:∀ {eZ:List E} {eR:List Nat} {a1 b1:Code} {st:LoopState} {bh:Option Code},R.obj nm=some (.loop eZ eR a1 b1 st bh)->st≠ .busy->
        ∃ w4,(Instr.endLoop W.heap.size).run P w3=.ok bh w4/\aC G φ' m' { σ with obj:=iL R.obj nm } a' w4:=by
     intro eZ eR a1 b1 st bh ho bY
     obtain⟨q0,q1,r',q2,q3,q4,q5,q6,q7,q8,q9⟩:=KW.objs nm _ ho
     rw[C2]at q2
     have WJ:(Instr.endLoop W.heap.size).run P w3=.ok bh (w3.putObj W.heap.size (.loop { r' with state:=.exhausted })):=by
      rw[run_endLoop (P:=P) q2 (by rw[q3];exact bY),q4]
     refine⟨_,WJ,?_⟩
     have ae:=(Array.getElem?_eq_some_iff.1 q2).1
     have gP:iL R.obj nm=upd R.obj nm (some (.loop eZ eR a1 b1 .exhausted bh)):=by unfold iL;rw[ho]
     rw[gP]
     have :=KW.chg (w':=w3.putObj W.heap.size (.loop { r' with state:=.exhausted })) nm (.loop eZ eR a1 b1 .exhausted bh) (φ' nm) (Ext.same ho rfl rfl) ⟨rfl,rfl,rfl,by simp⟩
      (fun b _ hb=>World.putObj_heap_other (by
        rcases hb with h | h
        ·rw[q1]at h;cases h
        ·rw[C2]at h;exact h))
      (fun _=>.inr ⟨⟨_,ho,rfl,q1⟩,rfl⟩) (by
        rw[dX]
        refine⟨q0,q1,{ r' with state:=.exhausted },by rw[C2];exact World.putObj_heap_same ae,rfl,q4,q5,q6,q7,q8,fun i hi=>(q9 i hi).ext (Mem.le_refl _) ?_⟩
        have :=Ext.same (φ:=φ') (o':=.loop eZ eR a1 b1 .exhausted bh) ho rfl rfl
        rwa [dX]at this)
     rw[dX]at this
     exact this
    rcases ho:R.obj nm with _ | o
    ·rw[ho]at hK;exact hK.elim
    rw[ho]at hK
    cases o with
    |loop eZ eR a1 b1 st bh=>
     have bY:st≠ .busy:=by rintro rfl;exact hK.elim
     obtain⟨w4,h1,h2⟩:=step ho bY
     refine⟨bh,w4,h1,?_⟩
     cases bh with
     |none=>
      refine⟨φ',m',_,h2,?_⟩
      cases st<;>first | exact hK | exact(bY rfl).elim
     |some c=>
      cases c with
      |ret=>exact wpIn_ret ⟨φ',m',_,h2,by cases st<;>first | exact hK | exact(bY rfl).elim⟩
      |exit id=>exact wpIn_exit ⟨φ',m',_,h2,by cases st<;>first | exact hK | exact(bY rfl).elim⟩
      |_=>exfalso;cases st<;>first | exact hK | exact(bY rfl).elim
    |_=>exact hK.elim
 cases lO:G.rd with
 |none=>
  obtain⟨d,rV,f',args,w₂,h1,h2,h3⟩:=main (w.alloc (.deferred (some []))) _ w.heap.size (YP hC) rfl
  rw[lO]at h3
  have a8:(w.alloc (.deferred (some []))).heap.size=w.heap.size+1:=by simp
  rw[a8]at h1 h3
  exact⟨w.heap.size+1,[{ target:=.collected w.heap.size,args:= #[] }],_,d,rV,f',args,w₂,run_enterLoop_outer _ _ _ _ _,h1,fun _ _=>trivial,h2,fun h=>(by simp[eo,Fence.wide]at h),h3⟩
 |some l=>
  obtain⟨fx,r0,J2⟩:=G.rdok l lO
  have VZ:w.heap[l]?=some (.loop r0):=(hC.fr.block l (Array.getElem?_eq_some_iff.1 J2).1 fx).trans J2
  obtain⟨d,rV,f',args,w₂,h1,h2,h3⟩:=main w a r0.defers hC rfl
  rw[lO]at h3
  exact⟨w.heap.size,[],_,d,rV,f',args,w₂,run_enterLoop_inner VZ _ _ _ _ _,h1,fun _ _=>trivial,h2,fun h=>(by simp[eo,Fence.wide]at h),h3⟩
theorem EI{P:Program}{Γ:FuncId->Option Spec}(hΓ:∀ f s,Γ f=some s->ak P f s){g:Operand}{ps:Array Tmp}{asg body:Code}{σ:S}{r:List Code}{K:Exit->S->Prop}(k k':Nat){f:FuncId}{s:Spec}
 (hc:ck σ g=true) (cA:eO (ai σ g)=some f) (aq:f≠yid) (hs:Γ f=some s) (lP:σ.obj (k::σ.pre)=none)
 (aa:(s.app (upd σ.obj (k::σ.pre) (some (.loop ((List.range σ.nt).map σ.env) ps.toList asg body .ready none))) (k'::σ.pre) (dN (ai σ g) [.yld (k::σ.pre)])).ok)
 (hK:mJ (fi (fun σ'=>CL P r σ' K) K) (s.app (upd σ.obj (k::σ.pre) (some (.loop ((List.range σ.nt).map σ.env) ps.toList asg body .ready none))) (k'::σ.pre) (dN (ai σ g) [.yld (k::σ.pre)])).obj (k::σ.pre)
   { σ with obj:=iL (s.app (upd σ.obj (k::σ.pre) (some (.loop ((List.range σ.nt).map σ.env) ps.toList asg body .ready none))) (k'::σ.pre) (dN (ai σ g) [.yld (k::σ.pre)])).obj (k::σ.pre) }):
 CL P (.rangeFunc g ps asg body::r) σ K:=L9 hΓ k k' hc cA aq hs lP aa hK
theorem da.refl(σ:S):da σ σ:=fun _ φ _ _ _ hC=>⟨φ,hC⟩
theorem da.trans{a b c:S}(h:da a b)(k:da b c):da a c:=fun G φ m x w hC=>by
 obtain⟨φ',h'⟩:=h G φ m x w hC
 exact k G φ' m x w h'
theorem bk{σ τ:S}(ks:List Nat)(ns:List Name)(h:eN ks ns σ)(he:eT ks ns σ=τ):da σ τ:=he▸Ap ks ns h
def j5(l c:List (Nat×E)):List (Nat×E):=l.map fun q=>(q.1,(c.lookup q.1).getD q.2)
def j0(l c:List (Name×O)):List (Name×O):=l.map fun q=>(q.1,(c.lookup q.1).getD q.2)
theorem jT{P:Program}{c:Code}{r:List Code}{σ:S}{K:Exit->S->Prop}(ks:List Nat)(ns:List Name)(h:eN ks ns σ)(hc:CL P (c::r) (eT ks ns σ) K):CL P (c::r) σ K:=
 tF (Ap ks ns h) hc
theorem cB{P:Program}{c:Code}{r:List Code}{K:Exit->S->Prop}{nt:Nat}{p:Name}{H:Name->Option O}{l:List (Nat×E)}{h:List (Name×O)}{ι:Type}
 (chg:ι->List (Nat×E)) (jy:ι->List (Name×O)) (R:ι->Prop) (μ:ι->Nat) (i0:ι) (hR:R i0) (he:j5 l (chg i0)=l) (ho:j0 h (jy i0)=h)
 (round:∀ i,R i->CL P [c] (aO nt p H (j5 l (chg i)) (j0 h (jy i))) (fi (fun σ'=>∃ i',R i'/\μ i'<μ i/\da σ' (aO nt p H (j5 l (chg i')) (j0 h (jy i')))) K)):
 CL P (.loop c::r) (aO nt p H l h) K:=by
 refine EJ (fun i=>aO nt p H (j5 l (chg i)) (j0 h (jy i))) R μ i0 hR ?_ round
 rw[he,ho]
 exact .refl _
theorem Y0{P:Program}{c:Code}{r:List Code}{K:Exit->S->Prop}{nt:Nat}{p:Name}{H:Name->Option O}{l:List (Nat×E)}{h:List (Name×O)}{ι:Type}
 (Hc:ι->Name->Option O) (chg:ι->List (Nat×E)) (jy:ι->List (Name×O)) (R:ι->Prop) (μ:ι->Nat) (i0:ι) (hR:R i0) (hH:aO nt p (Hc i0) l h=aO nt p H l h) (he:j5 l (chg i0)=l) (ho:j0 h (jy i0)=h)
 (round:∀ i,R i->CL P [c] (aO nt p (Hc i) (j5 l (chg i)) (j0 h (jy i))) (fi (fun σ'=>∃ i',R i'/\μ i'<μ i/\da σ' (aO nt p (Hc i') (j5 l (chg i')) (j0 h (jy i')))) K)):
 CL P (.loop c::r) (aO nt p H l h) K:=by
 refine EJ (fun i=>aO nt p (Hc i) (j5 l (chg i)) (j0 h (jy i))) R μ i0 hR ?_ round
 rw[he,ho,hH]
 exact .refl _
attribute [go_sem] j5 j0 List.lookup_cons List.lookup_nil List.getElem?_toArray List.getElem?_cons_succ List.getElem?_cons_zero beq_true beq_false ite_self Bool.and_self Bool.or_self imp_self Bool.if_true_right Bool.if_false_right Bool.if_true_left Bool.if_false_left Bool.decide_eq_true
attribute [go_sem] uz fL qo uK distinct eg dh cv ef aT Bool.and_eq_true
def eF(a b:Nat):Bool:=Nat.ble a b
def fE(a b:Nat):Bool:=Nat.ble (a+1) b
def cl(a b:Nat):Bool:=Nat.beq a b
def cG(a b:Int):Bool:=match b-a with
 | .ofNat _=>true
 | .negSucc _=>false
def jE(a b:Int):Bool:=match b-a-1 with
 | .ofNat _=>true
 | .negSucc _=>false
def sB{α:Type}:Option α->Bool
 |none=>true
 |some _=>false
def nH:Option Nat->Nat->Bool
 |some a,b=>Nat.beq a b
 |none,_=>false
def tN(sz:Nat):List V->Bool
 |[]=>true
 |x::r=>Nat.beq x.cells.length sz&&tN sz r
def tO(sz:Nat):List V->Bool
 |[]=>true
 |x::r=>Nat.beq x.cells.length sz&&x.okc&&tO sz r
def uU(a b:IntKind):Bool:=match a,b with
 | .i64,.i64=>true
 | .u8,.u8=>true
 | .u64,.u64=>true
 | .i32,.i32=>true
 | .u32,.u32=>true
 |_,_=>false
def Cb(P:Program)(T:TypeId):Bool:=match P.underlying T with
 |some .bool=>true
 |_=>false
def isEq:BinOp->Bool
 | .eql=>true
 | .neq=>true
 |_=>false
def qx:Int->Bool
 | .ofNat 0=>true
 |_=>false
theorem qu{a b:Nat}(h:eF a b=true):a<=b:=Nat.le_of_ble_eq_true h
theorem uO{a b:Nat}(h:fE a b=true):a<b:=Nat.le_of_ble_eq_true h
theorem jz{a b:Nat}(h:cl a b=true):a=b:=Nat.eq_of_beq_eq_true h
theorem eG{a b:Int}(h:cG a b=true):a<=b:=by
 unfold cG at h
 split at h
 ·rename_i n hn
  have :(0:Int)<=b-a:=by rw[hn];exact Int.natCast_nonneg n
  omega
 ·cases h
theorem Vw{a b:Int}(h:jE a b=true):a<b:=by
 unfold jE at h
 split at h
 ·rename_i n hn
  have :(0:Int)<=b-a-1:=by rw[hn];exact Int.natCast_nonneg n
  omega
 ·cases h
theorem xL{α:Type}{o:Option α}(h:sB o=true):o=none:=by cases o<;>simp_all[sB]
theorem oW{o:Option Nat}{b:Nat}(h:nH o b=true):o=some b:=by
 cases o with
 |none=>cases h
 |some a=>rw[Nat.eq_of_beq_eq_true h]
theorem Ac{sz:Nat}:∀ {l:List V},tN sz l=true->∀ x∈l,x.cells.length=sz
 |y::r,h,x,hx=>by
  simp only[tN,Bool.and_eq_true]at h
  rcases List.mem_cons.1 hx with rfl | hx
  ·exact Nat.eq_of_beq_eq_true h.1
  ·exact Ac h.2 x hx
theorem Ad{sz:Nat}:∀ {l:List V},tO sz l=true->∀ x∈l,x.cells.length=sz/\x.okc=true
 |y::r,h,x,hx=>by
  simp only[tO,Bool.and_eq_true]at h
  rcases List.mem_cons.1 hx with rfl | hx
  ·exact⟨Nat.eq_of_beq_eq_true h.1.1,h.1.2⟩
  ·exact Ad h.2 x hx
theorem Jr{a b:IntKind}(h:uU a b=true):a=b:=by unfold uU at h;split at h<;>first | rfl | cases h
theorem Vi{P:Program}{T:TypeId}(h:Cb P T=true):P.underlying T=some .bool:=by unfold Cb at h;split at h<;>first | assumption | cases h
theorem ym{op:BinOp}(h:isEq op=true):op=.eql\/op=.neq:=by cases op<;>first | exact .inl rfl | exact .inr rfl | cases h
theorem Vd{n:Int}(h:qx n=false):n≠0:=by rintro rfl;cases h
section
variable (P:Program) (obj:Name->Option O)
def wD(T:TypeId)(x:D):Bool:=
 match ba P T with
 |none=>false
 |some (ag,n)=>match x with
  | .v (.ptr cs)=>match ag with
    |true=>eF n cs.length
    |false=>cl n 1&&fE 0 cs.length
  | .ref nm off=>match obj nm with
    |some (.box cs)=>match ag with
     |true=>eF (off+n) cs.length
     |false=>cl n 1&&fE off cs.length
    |some (.fbox cs)=>match ag with
     |true=>eF (off+n) cs.length
     |false=>cl n 1&&fE off cs.length
    |_=>false
  | .aref nm k i off=>match obj nm with
    |some (.arr _ l)=>cl k l.length&&fE i l.length&&(match ag with
     |true=>eF (off+n) (l.getD i default).cells.length
     |false=>cl n 1&&fE off (l.getD i default).cells.length)
    |some (.farr _ l)=>cl k l.length&&fE i l.length&&(match ag with
     |true=>eF (off+n) (l.getD i default).cells.length
     |false=>cl n 1&&fE off (l.getD i default).cells.length)
    |_=>false
  |_=>false
def z1(T:TypeId)(f:Nat)(x:D):Bool:=
 match cP P T f with
 |none=>false
 |some (off,n,_)=>!cl n 0&&match x with
  | .v (.ptr cs)=>eF (off+n) cs.length
  | .ref _ _=>true
  | .aref nm k _ _=>match obj nm with
    |some o=>nH o.len? k
    |none=>false
  |_=>false
def zY(T:TypeId)(x i:D):Bool:=
 match i with
 | .v (.int _ n)=>match x with
   | .v (.sl l)=>match bF P T with
     |some (_,sz,_)=>cG 0 n&&jE n l.length&&cl (l.getD n.toNat default).cells.length sz
     |none=>false
   | .msl nm k=>match bF P T with
     |some (_,sz,_)=>match obj nm with
      |some (.arr s l)=>cG 0 n&&jE n l.length&&cl k l.length&&cl s sz
      |some (.farr s l)=>cG 0 n&&jE n l.length&&cl k l.length&&cl s sz
      |_=>false
     |none=>false
   | .ref _ _=>match eQ P T with
     |some (len,_,_)=>cG 0 n&&jE n len
     |none=>false
   | .v (.ptr cs)=>match eQ P T with
     |some (len,sz,_)=>cG 0 n&&jE n len&&eF (n.toNat*sz+sz) cs.length
     |none=>false
   |_=>false
 |_=>false
def M2(op:BinOp)(k k':IntKind)(b:Int):Bool:=
 match op with
 | .quo=>uU k k'&&!qx b
 | .rem=>uU k k'&&!qx b
 | .shl=>cG 0 b
 | .shr=>cG 0 b
 |_=>uU k k'
def MT(op:BinOp)(a b:ByteArray):Bool:=
 match op with
 | .add=>eF (a.size+b.size) maxLen
 | .eql | .neq | .lss | .leq | .gtr | .geq=>true
 |_=>false
def E4(op:BinOp)(T:TypeId)(x y:D):Bool:=
 match x,y with
 | .v (.int k _),.v (.int k' b)=>M2 op k k' b
 | .v (.str a),.v (.str b)=>MT op a b
 | .v (.bool _),.v (.bool _)=>Cb P T&&isEq op
 |_,_=>false
def EZ(op:BinOp)(T:TypeId)(x y:V):Bool:=
 match jf P Op.maxDepth T x y with
 |some _=>!(P.eqGuardType P.depth T)&&isEq op
 |none=>false
def EU(op:BinOp)(T:TypeId)(x:D):Bool:=
 match x with
 | .v (.sl (_::_))=>nH (dr P T) 0&&isEq op
 | .msl nm (k+1)=>(match obj nm with | some o=>nH o.len? (k+1) | none=>false)&&nH (dr P T) 0&&isEq op
 |_=>false
def Aa(op:BinOp)(T:TypeId)(x y:D)(j':Bool):Bool:=
 match j' with
 |true=>EU P obj op T x
 |false=>match dI x,dI y with
  |some (.agg a),some (.agg b)=>EZ P op T (.agg a) (.agg b)
  |_,_=>E4 P op T x y
def zL(op:UnOp)(x:D):Bool:=
 match op,x with
 | .not,.v (.bool _)=>true
 | .neg,.v (.int _ _)=>true
 |_,_=>false
def z8(src dst:TypeId)(x:D):Bool:=
 match kE P src dst with
 | 0=>match ly P dst,x with
   |some _,.v (.int _ _)=>(P.underlying src).isSome
   |_,_=>false
 |_=>false
def z7(x:D)(i:Nat):Bool:=
 match x with
 | .tup l=>fE i l.length
 | .v (.tup l)=>fE i l.length
 |_=>false
def zQ(x:D):Bool:=
 match x with
 | .ref _ _=>true
 | .v (.ptr _)=>true
 | .aref nm k _ _=>match obj nm with
   |some o=>nH o.len? k
   |none=>false
 |_=>false
def wF(t:Name)(x:D):Bool:=sB (obj (aM t))&&x.boxable
def Ab(t:Name)(T:TypeId):Bool:=match bd P T with
 |some z=>wF obj t (iq z)
 |none=>false
def z'(T:TypeId)(parts:List (Nat×D)):Bool:=
 match fS P T,bd P T with
 |some ps,some z=>match iq z with
  | .agg cs=>match rB (fun i=>ps[i]?) cs parts with
    |some _=>true
    |none=>false
  |_=>false
 |_,_=>false
def zM(T:TypeId)(x d:D):Bool:=
 match ba P T with
 |none=>false
 |some (_,n)=>match x with
  | .ref nm off=>match obj nm with
    |some (.box cs)=>d.boxable&&cl d.cells.length n&&eF (off+n) cs.length
    |_=>false
  | .aref nm k i off=>match obj nm with
    |some (.arr sz l)=>match dI d with
     |some y=>cl k l.length&&fE i l.length&&cl y.cells.length n&&y.okc&&eF (off+n) sz&&!cl sz 0
     |none=>false
    |_=>false
  |_=>false
def zU(t:Name)(T:TypeId)(r:Option D):Bool:=
 match lx P T,r with
 |some _,none=>sB (obj (aM t))
 |_,_=>false
def zT(t:Name)(T:TypeId)(l c:D):Bool:=
 match bF P T,l,c with
 |some (e,sz,by_),.v (.int _ n),.v (.int _ n')=>match (bd P e).bind fun z=>dI (iq z)with
  |some zv=>cG n n'&&cG n' n&&cG 0 n&&cG ((by_:Int)*n) 281474976710656&&cG n 9223372036854775807&&cl zv.cells.length sz&&zv.okc&&!cl sz 0&&sB (obj (aM t))
  |none=>false
 |_,_,_=>false
def zW(T:TypeId)(x:D):Bool:=
 match dr P T,x with
 |some 0,.v (.sl _)=>true
 |some 0,.nilsl=>true
 |some 0,.msl nm k=>match obj nm with
  |some o=>nH o.len? k
  |none=>false
 |some 1,.v (.str _)=>true
 |some 2,.nilmap=>true
 |some 2,.map nm=>match obj nm with
  |some (.map _ _)=>true
  |_=>false
 |_,_=>false
def zN(T:TypeId)(x:D)(lo hi mx:Option D):Bool:=
 match mx with
 |none=>match x with
  | .v (.sl l)=>match bF P T,fF lo,jI l.length hi with
    |some (_,sz,_),some i,some j=>cG 0 i&&cG i j&&cG j l.length&&tN sz l
    |_,_,_=>false
  | .nilsl=>match bF P T,fF lo,jI 0 hi with
    |some (_,_,_),some i,some j=>qx i&&qx j
    |_,_,_=>false
  | .msl nm k=>match obj nm,bF P T,fF lo,jI k hi with
    |some (.arr _ l),some (_,sz,_),some i,some j=>cl k l.length&&cG 0 i&&cG i j&&cG j l.length&&tN sz l
    |some (.farr _ l),some (_,sz,_),some i,some j=>cl k l.length&&cG 0 i&&cG i j&&cG j l.length&&tN sz l
    |_,_,_,_=>false
  | .v (.str s)=>match dr P T,fF lo,jI s.size hi with
    |some 1,some i,some j=>cG 0 i&&cG i j&&cG j s.size
    |_,_,_=>false
  |_=>false
 |some (.v (.int _ 0))=>match bF P T,fF lo,hi with
  |some _,some 0,some (.v (.int _ 0))=>match x with
   | .v (.sl _)=>true
   | .nilsl=>true
   | .msl nm k=>match obj nm with
     |some o=>nH o.len? k
     |none=>false
   |_=>false
  |_,_,_=>false
 |some _=>false
def z6(T:TypeId)(x:D)(f:Nat):Bool:=
 match cP P T f with
 |none=>false
 |some (off,n,ag)=>match x with
  | .agg l=>match ag with
    |true=>eF (off+n) l.length
    |false=>fE off l.length
  | .v (.agg l)=>match ag with
    |true=>eF (off+n) l.length
    |false=>fE off l.length
  |_=>false
def zZ(T:TypeId)(x i:D):Bool:=
 match i with
 | .v (.int _ n)=>match x with
   | .v (.str s)=>nH (dr P T) 1&&cG 0 n&&jE n s.size
   | .agg l=>match eQ P T with
     |some (len,sz,true)=>cG 0 n&&jE n len&&eF (n.toNat*sz+sz) l.length
     |some (len,sz,false)=>cG 0 n&&jE n len&&fE (n.toNat*sz) l.length
     |none=>false
   | .v (.agg l)=>match eQ P T with
     |some (len,sz,true)=>cG 0 n&&jE n len&&eF (n.toNat*sz+sz) l.length
     |some (len,sz,false)=>cG 0 n&&jE n len&&fE (n.toNat*sz) l.length
     |none=>false
   |_=>false
 |_=>false
def zV(T:TypeId)(x k:D):Bool:=
 match lx P T with
 |some (kd,e)=>match (bd P e).bind fun z=>dI (iq z),dI k with
  |some _,some kv=>match x with
   | .nilmap=>eF kd 2&&dG kd kv
   | .map nm=>match obj nm with
     |some (.map jC _)=>eF kd 2&&dG kd kv&&cl jC kd
     |_=>false
   |_=>false
  |_,_=>false
 |none=>false
def wC(T:TypeId)(x k d:D):Bool:=
 match lx P T,x,dI k,dI d with
 |some (kd,_),.map nm,some kv,some _=>match obj nm with
  |some (.map jC _)=>eF kd 2&&dG kd kv&&cl jC kd
  |_=>false
 |_,_,_,_=>false
def zO(c:D):Bool:=match c with
 | .v (.bool _)=>true
 |_=>false
def wB(x:D):Bool:=match x with
 | .v (.sl _)=>true
 | .nilsl=>true
 | .msl nm k=>match obj nm with
   |some (.arr _ l)=>cl k l.length
   |some (.farr _ l)=>cl k l.length
   |_=>false
 |_=>false
def rN(t:Name)(T1 T2:TypeId)(s x:D):Bool:=
 match bF P T1,bF P T2 with
 |some (e,sz,by_),some _=>match bd P e with
  |some z=>match s with
   | .nilsl=>wB obj x&&tO sz (aA obj x).2&&cl z.cells.size sz&&eF ((aA obj x).2.length*by_) 140737488355328&&eF (aA obj x).2.length maxLen&&sB (obj (aM t))
   | .msl nm k=>match obj nm with
     |some (.arr s' l)=>wB obj x&&tO sz (aA obj x).2&&cl z.cells.size sz&&eF ((l.length+(aA obj x).2.length)*by_) 140737488355328&&
        eF (l.length+(aA obj x).2.length) maxLen&&cl k l.length&&cl s' sz
     |_=>false
   |_=>false
  |none=>false
 |_,_=>false
variable {P obj}
theorem oZ{a b:Nat}:eF a b=true↔a<=b:=⟨qu,Nat.ble_eq_true_of_le⟩
theorem uP{a b:Nat}:fE a b=true↔a<b:=⟨uO,Nat.ble_eq_true_of_le⟩
theorem o0{a b:Nat}:cl a b=true↔a=b:=⟨jz,fun h=>by subst h;simp[cl]⟩
theorem xR{a b:Nat}:cl a b=false↔a≠b:=by
 rw[<-Bool.not_eq_true,o0]
theorem JQ{a b:Int}:cG a b=true↔a<=b:=⟨eG,fun h=>by
 unfold cG
 split
 ·rfl
 ·rename_i n hn;have:=Int.negSucc_lt_zero n;omega⟩
theorem JP{a b:Int}:jE a b=true↔a<b:=⟨Vw,fun h=>by
 unfold jE
 split
 ·rfl
 ·rename_i n hn;have:=Int.negSucc_lt_zero n;omega⟩
theorem JH{n:Int}:qx n=true↔n=0:=⟨fun h=>(by unfold qx at h;split at h<;>first | rfl | cases h),fun h=>(by subst h;rfl)⟩
theorem EX{T:TypeId}{x:D}(h:wD P obj T x=true):(iE P obj T x).ok:=by
 unfold wD at h
 unfold iE
 (repeat' split at h)<;>simp_all[oZ,uP,o0,-List.getD_eq_getElem?_getD]
theorem M6{T:TypeId}{f:Nat}{x:D}(h:z1 P obj T f x=true):(kx P obj T f x).ok:=by
 unfold z1 at h
 unfold kx
 split at h
 ·cases h
 ·simp only[Bool.and_eq_true,Bool.not_eq_true',xR]at h
  obtain⟨h1,h⟩:=h
  (repeat' split at h)<;>simp_all[oZ]
  exact oW h
theorem M4{T:TypeId}{x i:D}(h:zY P obj T x i=true):(ku P obj T x i).ok:=by
 unfold zY at h
 unfold ku
 (repeat' split at h)<;>simp_all[oZ,o0,JQ,JP,-List.getD_eq_getElem?_getD]
theorem ZF{op:BinOp}{T:TypeId}{x y:D}(h:E4 P op T x y=true):(mq P obj op T x y).ok:=by
 unfold E4 at h
 unfold mq
 split at h
 ·simp only
  unfold M2 at h
  unfold zX
  cases op<;>simp only[Bool.and_eq_true,Bool.not_eq_true']at h |- <;>first
   |exact⟨Jr h.1,Vd h.2⟩
   |exact Jr h
   |exact eG h
 ·simp only
  unfold MT at h
  unfold wA
  cases op<;>simp only at h |- <;>first | exact qu h | trivial | (cases h;done)
 ·simp only[Bool.and_eq_true]at h
  exact⟨Vi h.1,ym h.2⟩
 ·cases h
theorem ZB{op:BinOp}{T:TypeId}{x y:V}(h:EZ P op T x y=true):(ld P obj op T x y).ok:=by
 unfold EZ at h
 unfold ld
 split at h
 ·rename_i b hb
  simp only[Bool.and_eq_true,Bool.not_eq_true']at h
  rw[hb]
  exact⟨h.1,ym h.2⟩
 ·cases h
theorem Zy{op:BinOp}{T:TypeId}{x:D}(h:EU P obj op T x=true):(ov P obj op T x).ok:=by
 unfold EU at h
 unfold ov
 split at h
 ·simp only[Bool.and_eq_true]at h
  exact⟨oW h.1,ym h.2⟩
 ·rename_i nm k
  simp only[Bool.and_eq_true]at h
  refine⟨?_,oW h.1.2,ym h.2⟩
  have h1:=h.1.1
  split at h1
  ·rename_i o ho;rw[ho];exact oW h1
  ·cases h1
 ·cases h
theorem Na{op:BinOp}{T:TypeId}{x y:D}{n:Bool}(h:Aa P obj op T x y n=true):(lj P obj op T x y n).ok:=by
 unfold Aa at h
 unfold lj
 cases n with
 |true=>exact Zy h
 |false=>
  simp only at h |-
  split at h
  ·rename_i h1 h2
   simp only[h1,h2]
   exact ZB h
  ·rename_i aq
   split
   ·rename_i h1 h2;exact(aq _ _ h1 h2).elim
   ·exact ZF h
theorem MS{op:UnOp}{x:D}(h:zL op x=true):(kV obj op x).ok:=by
 unfold zL at h
 unfold kV
 split at h<;>first | trivial | cases h
theorem M9{s d:TypeId}{x:D}(h:z8 P s d x=true):(mo P obj s d x).ok:=by
 unfold z8 at h
 unfold mo
 split at h
 ·rename_i h0
  rw[h0]
  show (ow P obj s d x).ok
  unfold ow
  (repeat' split at h)<;>simp_all
 ·cases h
theorem M7{x:D}{i:Nat}(h:z7 x i=true):(kZ obj x i).ok:=by
 unfold z7 at h
 unfold kZ
 split at h<;>simp_all[uP]
theorem MX{x:D}(h:zQ obj x=true):(jV obj x).ok:=by
 unfold zQ at h
 unfold jV
 (repeat' split at h)<;>simp_all
 exact oW h
theorem E3{t:Name}{x:D}(h:wF obj t x=true):(lh obj t x).ok:=by
 simp only[wF,Bool.and_eq_true]at h
 exact⟨xL h.1,h.2⟩
theorem Nb{t:Name}{T:TypeId}(h:Ab P obj t T=true):(mr P obj t T).ok:=by
 unfold Ab at h
 unfold mr
 split at h
 ·rename_i z hz;rw[hz];exact E3 h
 ·cases h
theorem M'{T:TypeId}{ps:List (Nat×D)}(h:z' P T ps=true):(lg P obj T ps).ok:=by
 unfold z' at h
 unfold lg
 (repeat' split at h)<;>simp_all
theorem MU{T:TypeId}{x d:D}(h:zM P obj T x d=true):(jU P obj T x d).ok:=by
 unfold zM at h
 unfold jU
 (repeat' split at h)<;>simp_all[oZ,uP,o0,xR]
theorem MZ{t:Name}{T:TypeId}{r:Option D}(h:zU P obj t T r=true):(mn P obj t T r).ok:=by
 unfold zU at h
 unfold mn
 (repeat' split at h)<;>simp_all
 exact xL h
theorem MY{t:Name}{T:TypeId}{l c:D}(h:zT P obj t T l c=true):(mm P obj t T l c).ok:=by
 unfold zT at h
 unfold mm
 split at h
 ·rename_i e sz by_ k n k' n' hT
  rw[hT]
  simp only
  split at h
  ·rename_i zv hz
   simp only[Bool.and_eq_true,Bool.not_eq_true',xR]at h
   obtain⟨⟨⟨⟨⟨⟨⟨⟨h1,h2⟩,h3⟩,h4⟩,h5⟩,h6⟩,h7⟩,h8⟩,h9⟩:=h
   rw[hz]
   exact⟨Int.le_antisymm (eG h2) (eG h1),eG h3,eG h4,eG h5,jz h6,h7,h8,xL h9⟩
  ·cases h
 ·cases h
theorem M1{T:TypeId}{x:D}(h:zW P obj T x=true):(jW P obj T x).ok:=by
 unfold zW at h
 unfold jW
 (repeat' split at h)<;>simp_all
 exact oW h
theorem MV{T:TypeId}{x:D}{lo hi mx:Option D}(h:zN P obj T x lo hi mx=true):(ia P obj T x lo hi mx).ok:=by
 unfold zN at h
 unfold ia
 split at h
 ·split at h
  ·split at h
   ·rename_i h1 h2 h3
    simp only[Bool.and_eq_true]at h
    simp only[h1,h2,h3]
    exact⟨eG h.1.1.1,eG h.1.1.2,eG h.1.2,Ac h.2⟩
   ·cases h
  ·split at h
   ·rename_i h1 h2 h3
    simp only[Bool.and_eq_true]at h
    simp only[h1,h2,h3]
    exact⟨JH.1 h.1,JH.1 h.2⟩
   ·cases h
  ·split at h
   ·rename_i h1 h2 h3 h4
    simp only[Bool.and_eq_true]at h
    simp only[h1,h2,h3,h4]
    exact⟨jz h.1.1.1.1,eG h.1.1.1.2,eG h.1.1.2,eG h.1.2,Ac h.2⟩
   ·rename_i h1 h2 h3 h4
    simp only[Bool.and_eq_true]at h
    simp only[h1,h2,h3,h4]
    exact⟨jz h.1.1.1.1,eG h.1.1.1.2,eG h.1.1.2,eG h.1.2,Ac h.2⟩
   ·cases h
  ·split at h
   ·rename_i h1 h2 h3
    simp only[Bool.and_eq_true]at h
    simp only[h1,h2,h3]
    exact⟨eG h.1.1,eG h.1.2,eG h.2⟩
   ·cases h
  ·cases h
 ·split at h
  ·rename_i h1 h2 h3
   split at h
   ·simp only[h2,h3]
   ·simp only[h2,h3]
   ·split at h
    ·rename_i o ho
     simp only[h2,h3,ho]
     exact oW h
    ·cases h
   ·cases h
  ·cases h
 ·cases h
theorem M5{T:TypeId}{x:D}{f:Nat}(h:z6 P T x f=true):(kY P obj T x f).ok:=by
 unfold z6 at h
 unfold kY
 (repeat' split at h)<;>simp_all[oZ,uP]
theorem M3{T:TypeId}{x i:D}(h:zZ P T x i=true):(kX P obj T x i).ok:=by
 unfold zZ at h
 unfold kX
 (repeat' split at h)<;>simp_all[oZ,uP,JQ,JP]
 exact oW h.1.1
theorem M0{T:TypeId}{x k:D}{c:Bool}(h:zV P obj T x k=true):(kW P obj T x k c).ok:=by
 unfold zV at h
 unfold kW
 (repeat' split at h)<;>simp_all[oZ,o0]
theorem zR{T:TypeId}{x k d:D}(h:wC P obj T x k d=true):(jl P obj T x k d).ok:=by
 unfold wC at h
 unfold jl
 (repeat' split at h)<;>simp_all[oZ,o0]
theorem MW{c x y:D}(h:zO c=true):(iD obj c x y).ok:=by
 unfold zO at h
 unfold iD
 split at h<;>first | trivial | cases h
theorem ET{x:D}(h:wB obj x=true):(aA obj x).1:=by
 unfold wB at h
 unfold aA
 (repeat' split at h)<;>simp_all[o0]
theorem wG{t:Name}{T1 T2:TypeId}{s x:D}(h:rN P obj t T1 T2 s x=true):(cf P obj t T1 T2 s x).ok:=by
 unfold rN at h
 unfold cf
 split at h
 ·rename_i e sz by_ p h1 h2
  split at h
  ·rename_i z hz
   split at h
   ·simp only[Bool.and_eq_true]at h
    simp only[h1,h2,hz]
    exact⟨ET h.1.1.1.1.1,Ad h.1.1.1.1.2,jz h.1.1.1.2,qu h.1.1.2,qu h.1.2,xL h.2⟩
   ·split at h
    ·rename_i ho
     simp only[Bool.and_eq_true]at h
     simp only[h1,h2,hz,ho]
     exact⟨ET h.1.1.1.1.1.1,Ad h.1.1.1.1.1.2,jz h.1.1.1.1.2,qu h.1.1.1.2,qu h.1.1.2,jz h.1.2,jz h.2⟩
    ·cases h
   ·cases h
  ·cases h
 ·cases h
end
def oe(f:(Name->Option O)->D->Bool)(g:(Name->Option O)->D->FR)(obj:Name->Option O):List D->Bool
 |[]=>true
 |d::r=>f obj d&&oe f g (g obj d).obj r
def jQ:Nat->(Name->Option O)->D->Bool
 | 0,obj,d=>match d with
   | .v _=>true
   | .nilsl=>true
   |_=>false
 |n+1,obj,d=>match d with
  | .v _=>true
  | .nilsl=>true
  | .msl nm k=>match obj nm with
    |some (.arr _ l)=>decide (k=l.length)
    |some (.farr _ l)=>decide (k=l.length)
    |_=>false
  | .ref nm _=>match obj nm with
    |some (.box cs)=>oe (jQ n) (au n) obj cs&&!bX (dB (fp n obj) cs) nm
    |some (.fbox _)=>true
    |_=>false
  | .agg l=>oe (jQ n) (au n) obj l
  | .tup l=>oe (jQ n) (au n) obj l
  | .clo _ f c=>oe (jQ n) (au n) obj f&&oe (jQ n) (au n) (aK (au n) obj f).obj c
  |_=>false
theorem DX{n:Nat}(ih:∀ obj d,jQ n obj d=true->(au n obj d).ok):∀ (l:List D) (obj:Name->Option O),oe (jQ n) (au n) obj l=true->(aK (au n) obj l).ok
 |[],_,_=>trivial
 |d::r,obj,h=>by
  simp only[oe,Bool.and_eq_true]at h
  exact⟨ih obj d h.1,DX ih r _ h.2⟩
theorem K8:∀ (n:Nat) (obj:Name->Option O) (d:D),jQ n obj d=true->(au n obj d).ok
 | 0,obj,d,h=>by cases d<;>first | trivial | (simp[jQ]at h)
 |n+1,obj,d,h=>by
  have ih:=DX (K8 n)
  cases d with
  |v x=>trivial
  |nilsl=>trivial
  |msl nm k=>
   simp only[jQ]at h
   unfold au
   rcases ho:obj nm with _ | o
   ·simp[ho]at h
   ·cases o<;>simp[ho]at h |- <;>exact h
  |ref nm off=>
   simp only[jQ]at h
   rcases ho:obj nm with _ | o
   ·simp[ho]at h
   ·cases o with
    |box cs=>
     simp only[ho,Bool.and_eq_true,Bool.not_eq_true']at h
     simp only[au,ho]
     refine⟨ih cs obj h.1,?_⟩
     have :=(vQ (zd n) cs obj obj (dB (fp n obj) cs) (fun _ hn=>hn) (fun _ _=>rfl)).2.frame nm (fun hn=>by rw[fW.2 hn]at h;cases h.2)
     rw[this,ho]
    |fbox cs=>simp only[au,ho]
    |_=>simp[ho]at h
  |agg l=>exact ih l obj h
  |tup l=>exact ih l obj h
  |clo fn f c=>
   simp only[jQ,Bool.and_eq_true]at h
   exact⟨ih f obj h.1,ih c _ h.2⟩
  |_=>simp[jQ]at h
def isNil{α:Type}:List α->Bool
 |[]=>true
 |_=>false
theorem Ve{α:Type}{l:List α}:isNil l=true↔l=[]:=by cases l<;>simp[isNil]
def yj:Nat->List Nat->Bool
 |_,[]=>true
 |k,x::r=>cl x k&&yj (k+1) r
theorem JI:∀ {k:Nat} {l:List Nat},yj k l=true->l=List.range' k l.length
 |k,[],_=>rfl
 |k,x::r,h=>by
  simp only[yj,Bool.and_eq_true]at h
  rw[jz h.1,List.length_cons,List.range'_succ]
  congr 1
  exact JI h.2
def ER(P:Program)(obj:Name->Option O)(T:TypeId)(n:Nat)(parts:List (Nat×D)):Bool:=
 match bF P T with
 |some (e,sz,_)=>match cl n 0&&isNil parts with
  |true=>(bd P e).isSome
  |false=>oe (jQ 4) (au 4) obj (parts.map fun p=>p.2)&&yj 0 (parts.map fun p=>p.1)&&cl parts.length n&&tO sz (aK (au 4) obj (parts.map fun p=>p.2)).xs&&
     eF (n*sz) 16777216&&!cl sz 0&&(bd P e).isSome&&fE 0 n
 |none=>false
theorem Zm{P:Program}{obj:Name->Option O}{T:TypeId}{n:Nat}{parts:List (Nat×D)}(h:ER P obj T n parts=true):(np P obj T n parts).ok:=by
 unfold ER at h
 unfold np
 split at h
 ·rename_i e sz by_ hT
  rw[hT]
  simp only
  split at h
  ·rename_i hc
   simp only[Bool.and_eq_true,o0,Ve]at hc
   rw[if_pos hc];exact h
  ·rename_i hc
   have kf:¬ (n=0/\parts=[]):=by
    intro ⟨a,b⟩
    subst a;subst b
    cases hc
   rw[if_neg kf]
   simp only[Bool.and_eq_true,Bool.not_eq_true',xR]at h
   obtain⟨⟨⟨⟨⟨⟨⟨h1,h2⟩,DS⟩,h3⟩,h4⟩,h5⟩,h6⟩,h7⟩:=h
   refine⟨?_,DX (K8 4) _ _ h1,Ad h3,qu h4,h5,h6,uO h7⟩
   have :=JI h2
   rw[List.length_map,jz DS,<-List.range_eq_range']at this
   exact this
 ·cases h
def EP(P:Program)(σ:S)(t:Name)(b:Builtin)(ts:List TypeId)(args:List D):Bool:=
 match b,ts,args with
 | .len,[T],[x]=>zW P σ.obj T x
 | .append,[T1,T2],[s,x]=>rN P σ.obj t T1 T2 s x
 | .min,_,[.v (.int _ _),.v (.int _ _)]=>true
 | .max,_,[.v (.int _ _),.v (.int _ _)]=>true
 |_,_,_=>false
def Ho(P:Program)(σ:S)(t:Name):Op->Bool
 | .move _=>true
 | .assign _=>true
 | .pick c _ _=>zO (ai σ c)
 | .alloc T=>Ab P σ.obj t T
 | .box _ x=>wF σ.obj t (ai σ x)
 | .build T ps=>z' P T (ps.toList.map fun p=>(p.1,ai σ p.2))
 | .buildSlice T n ps=>ER P σ.obj T n (ps.toList.map fun p=>(p.1,ai σ p.2))
 | .load T x=>wD P σ.obj T (ai σ x)
 | .store T x d=>zM P σ.obj T (ai σ x) (ai σ d)
 | .nilCheck x=>zQ σ.obj (ai σ x)
 | .binOp op T x y _=>Aa P σ.obj op T (ai σ x) (ai σ y) (yk y)
 | .unOp op _ x=>zL op (ai σ x)
 | .convert s d x=>z8 P s d (ai σ x)
 | .makeFunc _ _ _=>true
 | .makeMap T r=>zU P σ.obj t T (r.map (ai σ))
 | .makeSlice T l c=>zT P σ.obj t T (ai σ l) (ai σ c)
 | .slice T x lo hi mx=>zN P σ.obj T (ai σ x) (lo.map (ai σ)) (hi.map (ai σ)) (mx.map (ai σ))
 | .fieldAddr T x f=>z1 P σ.obj T f (ai σ x)
 | .field T x f=>z6 P T (ai σ x) f
 | .indexAddr T x i=>zY P σ.obj T (ai σ x) (ai σ i)
 | .index T x i=>zZ P T (ai σ x) (ai σ i)
 | .lookup T x i _=>zV P σ.obj T (ai σ x) (ai σ i)
 | .mapUpdate T x k d=>wC P σ.obj T (ai σ x) (ai σ k) (ai σ d)
 | .insert T x k d=>wC P σ.obj T (ai σ x) (ai σ k) (ai σ d)
 | .extract x i=>z7 (ai σ x) i
 | .call ⟨.builtin b,args,ts⟩=>EP P σ t b ts.toList (args.toList.map (ai σ))
 |_=>false
theorem Zl{P:Program}{σ:S}{t:Name}{b:Builtin}{ts:List TypeId}{args:List D}(h:EP P σ t b ts args=true):(lf P σ t b ts args).ok:=by
 unfold EP at h
 split at h
 ·exact M1 h
 ·exact wG h
 ·trivial
 ·trivial
 ·cases h
theorem R'{P:Program}{Γ:FuncId->Option Spec}{σ:S}{t:Name}{op:Op}(h:Ho P σ t op=true):(aQ P Γ σ t op).ok:=by
 cases op with
 |call c=>
  obtain⟨callee,args,ts⟩:=c
  cases callee with
  |value f=>cases h
  |builtin b=>exact Zl h
  |invoke=>cases h
 |move=>trivial
 |assign=>trivial
 |makeFunc=>trivial
 |pick=>exact MW h
 |alloc=>exact Nb h
 |box=>exact E3 h
 |build=>exact M' h
 |buildSlice=>exact Zm h
 |load=>exact EX h
 |store=>exact MU h
 |nilCheck=>exact MX h
 |binOp=>exact Na h
 |unOp=>exact MS h
 |convert=>exact M9 h
 |makeMap=>exact MZ h
 |makeSlice=>exact MY h
 |slice=>exact MV h
 |fieldAddr=>exact M6 h
 |field=>exact M5 h
 |indexAddr=>exact M4 h
 |index=>exact M3 h
 |lookup=>exact M0 h
 |mapUpdate=>exact zR h
 |insert=>exact zR h
 |extract=>exact M7 h
 |_=>cases h
end Go.Eng
