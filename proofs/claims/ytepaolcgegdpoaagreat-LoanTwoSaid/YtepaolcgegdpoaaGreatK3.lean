import Derived.Test.YtepaolcgegdpoaaGreatK2
/- Texts Eng19 to EngK. -/
set_option linter.all false
namespace Go.Eng
open Go
section
variable {P:Program} {Γ:FuncId->Option Spec} {ops:Array Oper}
structure rq where
 anc:List Nat
 past:pH
def dI:Name->Name->Bool
 |[],[]=>true
 |x::r,y::s=>Nat.beq x y&&dI r s
 |_,_=>false
theorem fj:∀ {a b:Name},dI a b=true↔a=b
 |[],[]=>by simp[dI]
 |[],_::_=>by simp[dI]
 |_::_,[]=>by simp[dI]
 |x::r,y::s=>by
  simp only[dI,Bool.and_eq_true,Nat.beq_eq,List.cons.injEq,fj]
def sj:List Name->Name->Bool
 |[],_=>false
 |x::r,nm=>dI x nm||sj r nm
theorem Gi:∀ {l:List Name} {nm:Name},sj l nm=true↔nm∈l
 |[],nm=>by simp[sj]
 |x::r,nm=>by
  simp only[sj,Bool.or_eq_true,fj,List.mem_cons,Gi]
  exact⟨fun h=>h.imp Eq.symm id,fun h=>h.imp Eq.symm id⟩
def jt:List Nat->Nat->Bool
 |[],_=>false
 |x::r,n=>Nat.beq x n||jt r n
theorem Gj:∀ {l:List Nat} {n:Nat},jt l n=true↔n∈l
 |[],n=>by simp[jt]
 |x::r,n=>by
  simp only[jt,Bool.or_eq_true,Nat.beq_eq,List.mem_cons,Gj]
  exact⟨fun h=>h.imp Eq.symm id,fun h=>h.imp Eq.symm id⟩
def sS:List Name->List Name->Bool
 |[],_=>true
 |x::r,b=>!sj b x&&sS r b
theorem CU:∀ {a b:List Name},sS a b=true->vS a b
 |[],_,_=>fun nm h=>by cases h
 |x::r,b,h=>by
  simp only[sS,Bool.and_eq_true,Bool.not_eq_true']at h
  intro nm ha hb
  rcases List.mem_cons.1 ha with rfl | ha
  ·rw[Gi.2 hb]at h;cases h.1
  ·exact CU h.2 nm ha hb
def eE(p:rq)(e:rq):Bool:=jt p.anc e.past.on||(sS e.past.wrt p.past.foot&&sS p.past.wrt e.past.foot)
def rY:List rq->Bool
 |[]=>true
 |p::L=>L.all (eE p)&&rY L
variable (P Γ ops)in
def pF:Nat->List (List Nat)->List Oper->List rq->S->(S->Prop)->Prop
 |_,_,[],L,σ,K=>rY L=true/\K σ
 |i,az,o::r,L,σ,K=>jS P Γ ops σ o/\
   pF (i+1) az.tail r (⟨az.headD [],i,bT Γ σ ((σ.base+o.dst.getD 0)::σ.pre) o.op,bC Γ σ ((σ.base+o.dst.getD 0)::σ.pre) o.op⟩::L) (be P Γ ops σ o) K
variable (P Γ ops)in
def DM(anc:Nat->List Nat):Nat->List Oper->List pH->S->(S->Prop)->Prop
 |_,[],_,σ,K=>K σ
 |i,o::r,L,σ,K=>jS P Γ ops σ o/\wL (anc i) (bT Γ σ (Oper.tt σ o) o.op) (bC Γ σ (Oper.tt σ o) o.op) L/\
   DM anc (i+1) r (⟨i,bT Γ σ (Oper.tt σ o) o.op,bC Γ σ (Oper.tt σ o) o.op⟩::L) (be P Γ ops σ o) K
theorem E7{anc:Nat->List Nat}{K:S->Prop}:∀ (l:List Oper) (i:Nat) (az:List (List Nat)) (L:List rq) (σ:S),(∀ k,az.getD k []=anc (i+k))->
 pF P Γ ops i az l L σ K->rY L=true/\DM P Γ ops anc i l (L.map (·.past)) σ K
 |[],i,az,L,σ,_,h=>h
 |o::r,i,az,L,σ,ha,h=>by
  obtain⟨h1,h2⟩:=h
  obtain⟨h3,h4⟩:=E7 (anc:=anc) r (i+1) az.tail _ _ (fun k=>by
   have :=ha (k+1)
   rw[show i+(k+1)=i+1+k by omega]at this
   rw[<-this]
   cases az<;>rfl) h2
  simp only[rY,Bool.and_eq_true]at h3
  refine⟨h3.2,h1,?_,h4⟩
  intro e he
  obtain⟨p,hp,rfl⟩:=List.mem_map.1 he
  have :=List.all_eq_true.1 h3.1 p hp
  simp only[eE,Bool.or_eq_true,Bool.and_eq_true]at this
  rcases this with k | ⟨k1,k2⟩
  ·left
   have h0:az.headD []=anc i:=by
    have :=ha 0
    rw[Nat.add_zero]at this
    rw[<-this]
    cases az<;>rfl
   rw[h0]at k
   exact Gj.1 k
  ·exact .inr ⟨CU k1,CU k2⟩
theorem E8(hN:∀ f s,Γ f=some s->s.Near){anc:Nat->List Nat}(hA:vU ops anc)(l7:∀ i j oi oj,ops[i]?=some oi->ops[j]?=some oj->i<j->i∉anc j->oi.apart ops oj=true)
 (xU:∀ j o,ops[j]?=some o->∀ e∈o.after,Region.binds .any e=true->e.on<j) {K:S->Prop}:
 ∀ (n k:Nat) (L:List pH) (listed:Array Bool) (σ:S),k+n=ops.size->listed.size=ops.size->(∀ j,listed.getD j false=decide (j<k))->rv anc listed->
   DM P Γ ops anc k (ops.toList.drop k) L σ K->pK P Γ ops anc L K n listed σ
 | 0,k,L,listed,σ,hk,hs,hl,cb,h=>by
   have :ops.toList.drop k=[]:=List.drop_eq_nil_of_le (by simp;omega)
   rw[this]at h
   refine⟨?_,h⟩
   refine List.eq_nil_iff_forall_not_mem.2 fun j hj=>?_
   obtain⟨h1,o,ho,_⟩:=mem_ready.1 hj
   have ab:j<ops.size:=(Array.getElem?_eq_some_iff.1 ho).1
   have :=hl j
   simp only[Array.getD_eq_getD_getElem?,Array.getElem?_eq_getElem (show j<listed.size by omega),Option.getD_some]at h1 this
   rw[h1]at this
   simp at this
   omega
 |n+1,k,L,listed,σ,hk,hs,hl,cb,h=>by
  have ab:k<ops.size:=by omega
  have hd:ops.toList.drop k=ops[k]::ops.toList.drop (k+1):=by
   rw[List.drop_eq_getElem_cons (by simpa using ab)];simp
  rw[hd]at h
  obtain⟨h1,h2,h3⟩:=h
  have aa:ops[k]?=some ops[k]:=Array.getElem?_eq_getElem ab
  have sC:∀ j,j<listed.size->listed.getD j true=listed.getD j false:=by
   intro j hj
   simp only[Array.getD_eq_getD_getElem?,Array.getElem?_eq_getElem hj,Option.getD_some]
  have hr:k∈Region.ready .any ops listed:=by
   refine mem_ready.2 ⟨?_,_,aa,fun e he hb=>?_⟩
   ·rw[sC k (by omega),hl k];simp
   ·rw[hl];simpa using xU k _ aa e he hb
  refine pull hN hA aa n listed σ cb (fun j oj hj aC uL fJ=>?_) hr h1 h2 ?_
  ·have lX:j<ops.size:=(Array.getElem?_eq_some_iff.1 hj).1
   rw[sC j (by omega),hl j]at uL
   simp at uL
   exact l7 k j _ oj aa hj (by omega) fJ
  ·refine E8 hN hA l7 xU n (k+1) _ _ _ (by omega) (by simpa using hs) (fun j=>?_) (cb.set hA hr) h3
   by_cases lY:k=j
   ·subst lY
    simp[show k<listed.size by omega]
   ·rw[getD_set_ne false lY,hl j]
    refine decide_eq_decide.2 ?_
    omega
def tJ(ops:Array Oper)(az:List (List Nat)):Bool:=
 (List.range ops.size).all fun j=>match ops[j]? with
   |none=>true
   |some oj=>(oj.after.toList.all fun e=>!Region.binds .any e||decide (e.on<j))&&
      ((az.getD j []).all fun i=>oj.after.toList.any fun e=>Region.binds .any e&&(e.on==i||(az.getD e.on []).contains i))&&
      (List.range j).all fun i=>(az.getD j []).contains i||(match ops[i]? with | some oi=>oi.apart ops oj | none=>true)
theorem C5(hΓ:∀ f s,Γ f=some s->aK P f s)(hP:P.follows .mixedOrders=true){id:Nat}{l:List Oper}{σ:S}{K:Exit->S->Prop}(az:List (List Nat))
 (hs:tJ l.toArray az=true) (h:∀ K':S->Prop,(∀ σ',K .normal σ'->K' σ')->pF P Γ l.toArray 0 az l [] σ K'):CW P (.region id l.toArray true) σ K:=by
 intro G φ m a w hC
 have gj:∀ j oj,l.toArray[j]?=some oj->(oj.after.toList.all fun e=>!Region.binds .any e||decide (e.on<j))=true/\
       ((az.getD j []).all fun i=>oj.after.toList.any fun e=>Region.binds .any e&&(e.on==i||(az.getD e.on []).contains i))=true/\
       ((List.range j).all fun i=>(az.getD j []).contains i||(match l.toArray[i]? with | some oi=>oi.apart l.toArray oj | none=>true))=true:=by
  intro j oj hj
  have :=List.all_eq_true.1 hs j (List.mem_range.2 (Array.getElem?_eq_some_iff.1 hj).1)
  simp only[hj,Bool.and_eq_true]at this
  exact⟨this.1.1,this.1.2,this.2⟩
 have hN:∀ f s,Γ f=some s->s.Near:=fun f s h=>(hΓ f s h).near
 have hA:vU l.toArray (fun j=>az.getD j []):=by
  intro j o ho i hi
  have :=List.all_eq_true.1 (gj j o ho).2.1 i hi
  obtain⟨e,he,h1⟩:=List.any_eq_true.1 this
  simp only[Bool.and_eq_true,Bool.or_eq_true,beq_iff_eq,List.contains_iff_mem]at h1
  exact⟨e,by simpa using he,h1.1,h1.2⟩
 have l7:∀ i j oi oj,l.toArray[i]?=some oi->l.toArray[j]?=some oj->i<j->i∉az.getD j []->oi.apart l.toArray oj=true:=by
  intro i j oi oj h1 h2 h3 h4
  have :=List.all_eq_true.1 (gj j oj h2).2.2 i (List.mem_range.2 h3)
  simp only[h1,Bool.or_eq_true]at this
  rcases this with k | k
  ·exact(h4 (by simpa using k)).elim
  ·exact k
 have xU:∀ j o,l.toArray[j]?=some o->∀ e∈o.after,Region.binds .any e=true->e.on<j:=by
  intro j o ho e he hb
  have :=List.all_eq_true.1 (gj j o ho).1 e (by simpa using he)
  simpa[hb]using this
 refine wpIn_region_any hP ?_
 obtain⟨_,hD⟩:=E7 (anc:=fun j=>az.getD j []) l 0 az [] σ (fun k=>by simp) (h (K .normal) fun _ h=>h)
 refine LU hΓ (K:=K .normal) _ _ (hC.drawn _) (E8 hN hA l7 xU l.toArray.size 0 [] _ σ (by simp) (by simp) (fun j=>?_) (fun j hj=>?_) (by simpa using hD)) fun a' w' φ' m' σ' cf hK=>⟨φ',m',σ',cf,hK⟩
 ·by_cases hj:j<l.length<;>simp[hj]
 ·by_cases fK:j<l.length<;>simp[fK]at hj
theorem WJ(hΓ:∀ f s,Γ f=some s->aK P f s)(hP:P.follows .mixedOrders=true){id:Nat}{l:List Oper}{c:Code}{r:List Code}{σ:S}{K:Exit->S->Prop}(az:List (List Nat))(ks:List Nat)(ns:List Name)
 (hs:tJ l.toArray az=true) (h:∀ K':S->Prop,(∀ σ',gp ks ns σ'->CL P (c::r) (gJ ks ns σ') K->K' σ')->pF P Γ l.toArray 0 az l [] σ K'):CL P (.region id l.toArray true::c::r) σ K:=
 C5 hΓ hP az hs fun K' hK=>h K' fun σ' hc hy=>hK σ' (C4 ks ns hc hy)
theorem s9(hΓ:∀ f s,Γ f=some s->aK P f s)(hP:P.follows .mixedOrders=true){id:Nat}{l:List Oper}{σ:S}{K:Exit->S->Prop}(az:List (List Nat))
 (hs:tJ l.toArray az=true) (h:∀ K':S->Prop,(∀ σ',K .normal σ'->K' σ')->pF P Γ l.toArray 0 az l [] σ K'):CL P [.region id l.toArray true] σ K:=
 C5 hΓ hP az hs fun K' hK=>h K' fun σ' hc=>hK σ' hc
end
attribute [go_sem] dI sj jt sS Nat.beq_eq_true_eq pF bT bC aR fp dV fy er muts O.mut PSpec.toSpec List.headD_cons List.headD_nil List.tail_cons List.tail_nil
mutual
def D.ren(f:Name->Name):D->D
 | .v x=>.v x
 | .nilsl=>.nilsl
 | .nilmap=>.nilmap
 | .ref nm o=>.ref (f nm) o
 | .msl nm k=>.msl (f nm) k
 | .aref nm k i o=>.aref (f nm) k i o
 | .map nm=>.map (f nm)
 | .yld nm=>.yld (f nm)
 | .clo fn a b=>.clo fn (D.renL f a) (D.renL f b)
 | .agg l=>.agg (D.renL f l)
 | .tup l=>.tup (D.renL f l)
 | .any=>.any
def D.renL(f:Name->Name):List D->List D
 |[]=>[]
 |d::r=>D.ren f d::D.renL f r
end
def E.ren(f:Name->Name)(e:E):E:=⟨e.c,e.d.ren f⟩
def O.ren(f:Name->Name):O->O
 | .box cs=>.box (D.renL f cs)
 | .loop env ps asg body st bz=>.loop (env.map (E.ren f)) ps asg body st bz
 | .arr sz l=>.arr sz l
 | .map kd es=>.map kd es
 | .fbox cs=>.fbox cs
 | .farr sz l=>.farr sz l
 | .dead sz n=>.dead sz n
theorem jq(f:Name->Name):∀ l:List D,D.renL f l=l.map (D.ren f)
 |[]=>rfl
 |d::r=>by simp only[D.renL,List.map_cons,jq f r]
theorem D.one_ren(f:Name->Name)(d:D):(d.ren f).one=d.one:=by cases d<;>rfl
theorem O.len_ren(f:Name->Name)(o:O):(o.ren f).len?=o.len?:=by cases o<;>rfl
theorem O.sz_ren(f:Name->Name)(o:O):(o.ren f).sz=o.sz:=by cases o<;>rfl
theorem O.mut_ren(f:Name->Name)(o:O):(o.ren f).mut=o.mut:=by cases o<;>rfl
def vR(f:Name->Name)(φ φ':Name->Loc)(obj obj':Name->Option O)(dom:Name->Bool):Prop:=
 ∀ nm o,dom nm=true->obj nm=some o->∃ o',obj' (f nm)=some o'/\
   ((o'.len?=o.len?/\φ' (f nm)=φ nm/\o'.sz=o.sz)\/(∃ n n',o.len?=some n/\o'.len?=some n'/\n<n'))
theorem aA.renx{f:Name->Name}{φ φ':Name->Loc}{obj obj':Name->Option O}{m m':Mem}{dom:Name->Bool}(hm:Mem.le m m')(hx:vR f φ φ' obj obj' dom){d:D}{u:Value}
 (h:aA φ obj m d u) (hc:D.clos dom d=true):aA φ' obj' m' (d.ren f) u:=by
 induction h with
 |any u=>exact .any u
 |v x u h=>exact .v x u (h.mono hm)
 |nilsl a=>exact .nilsl a
 |nilmap=>exact .nilmap
 |ref nm off h=>
  obtain⟨o,ho,hl⟩:=h
  obtain⟨o',cI,h⟩:=hx nm o hc ho
  rcases h with⟨h1,h2,h3⟩ | ⟨n,n',h1,h2,h3⟩
  ·rw[<-h2];exact .ref (f nm) off ⟨o',cI,h1.trans hl⟩
  ·rw[hl]at h1;cases h1
 |map nm h=>
  obtain⟨o,ho,hl⟩:=h
  obtain⟨o',cI,h⟩:=hx nm o hc ho
  rcases h with⟨h1,h2,h3⟩ | ⟨n,n',h1,h2,h3⟩
  ·rw[<-h2];exact .map (f nm) ⟨o',cI,h1.trans hl⟩
  ·rw[hl]at h1;cases h1
 |yld nm h=>
  obtain⟨o,ho,hl⟩:=h
  obtain⟨o',cI,h⟩:=hx nm o hc ho
  rcases h with⟨h1,h2,h3⟩ | ⟨n,n',h1,h2,h3⟩
  ·rw[<-h2];exact .yld (f nm) ⟨o',cI,h1.trans hl⟩
  ·rw[hl]at h1;cases h1
 |msl nm k u h hu=>
  obtain⟨o,n,ho,hl,hk,he⟩:=h
  obtain⟨o',cI,h⟩:=hx nm o hc ho
  rcases h with⟨h1,h2,h3⟩ | ⟨n1,n',h1,h2,h3⟩
  ·exact .msl (f nm) k u ⟨o',n,cI,h1.trans hl,hk,fun e=>by rw[h2];exact he e⟩ hu
  ·rw[hl]at h1;cases h1
   exact .msl (f nm) k u ⟨o',n',cI,h2,by omega,fun e=>by omega⟩ hu
 |aref nm k i off u h hu=>
  obtain⟨o,n,ho,hl,hk,he⟩:=h
  obtain⟨o',cI,h⟩:=hx nm o hc ho
  rcases h with⟨h1,h2,h3⟩ | ⟨n1,n',h1,h2,h3⟩
  ·exact .aref (f nm) k i off u ⟨o',n,cI,h1.trans hl,hk,fun e=>by rw[h2,h3];exact he e⟩ hu
  ·rw[hl]at h1;cases h1
   exact .aref (f nm) k i off u ⟨o',n',cI,h2,by omega,fun e=>by omega⟩ hu
 |clo fn fs cs us vs h1 h2 dq fg nL nK=>
  simp only[D.clos,Bool.and_eq_true]at hc
  simp only[D.ren,jq]
  refine .clo fn _ _ us vs (by simpa using h1) (by simpa using h2) (fun i a b=>?_) (fun i a b=>?_)
  ·simp only[List.getElem_map];exact nL i (by simpa using a) b (gR _ hc.1)
  ·simp only[List.getElem_map];exact nK i (by simpa using a) b (gR _ hc.2)
 |agg l us h ho hr ih=>
  simp only[D.clos]at hc
  simp only[D.ren,jq]
  refine .agg _ us (by simpa using h) (fun d hd=>?_) (fun i a b=>?_)
  ·obtain⟨d',h1,rfl⟩:=List.mem_map.1 hd
   rw[D.one_ren];exact ho d' h1
  ·simp only[List.getElem_map];exact ih i (by simpa using a) b (gR _ hc)
 |tup l us h hr ih=>
  simp only[D.clos]at hc
  simp only[D.ren,jq]
  refine .tup _ us (by simpa using h) (fun i a b=>?_)
  simp only[List.getElem_map];exact ih i (by simpa using a) b (gR _ hc)
theorem ca.renx{f:Name->Name}{φ φ':Name->Loc}{obj obj':Name->Option O}{m m':Mem}{dom:Name->Bool}(hm:Mem.le m m')(hx:vR f φ φ' obj obj' dom){e:E}{u:Value}
 (h:ca φ obj m e u) (hc:D.clos dom e.d=true):ca φ' obj' m' (e.ren f) u:=by
 unfold ca at *
 have e0:(E.ren f e).c=e.c:=rfl
 have e1:(E.ren f e).d=e.d.ren f:=rfl
 rw[e0,e1]
 by_cases hh:e.c=true
 ·rw[if_pos hh]at h |-;exact h.renx hm hx hc
 ·rw[if_neg hh]at h |-;exact h
theorem fO.ren{f:Name->Name}{φ φ':Name->Loc}{obj obj':Name->Option O}{m m':Mem}{dom:Name->Bool}{o:O}{p:Loc}{w w':World}(hm:Mem.le m m')(hx:vR f φ φ' obj obj' dom)
 (hc:O.clos dom o=true) (hw:o.mut=true->p.nul=false->w'.heap[p.blk]?=w.heap[p.blk]?) (h:fO φ obj m o p w):fO φ' obj' m' (o.ren f) p w':=by
 cases o with
 |box cs=>
  obtain⟨h0,h1,eB,us,T,g,h2,h3,h4,h5⟩:=h
  simp only[O.clos]at hc
  simp only[O.ren,fO,jq,List.length_map,List.getElem_map,List.mem_map,forall_exists_index,and_imp,forall_apply_eq_imp_iff₂,D.one_ren]
  exact⟨h0,h1,eB,us,T,g,by rw[hw rfl h1];exact h2,h3,h4,fun i a b=>(h5 i a b).renx hm hx (gR a hc)⟩
 |arr sz l=>
  rcases h with⟨h,h'⟩ | ⟨h0,h1,h2,h3,h4,us,T,f,h5,h6,h7,h8⟩
  ·exact .inl ⟨h,h'⟩
  ·exact .inr ⟨h0,h1,h2,h3,h4,us,T,f,by rw[hw rfl h0];exact h5,h6,h7,fun i j a b=>let ⟨c,x,y⟩:=h8 i j a b;⟨c,x,y.mono hm⟩⟩
 |map kd es=>
  obtain⟨h0,h1,eB,us,T,h2,h3,h4⟩:=h
  exact⟨h0,h1,eB,us,T,by rw[hw rfl h1];exact h2,h3,fun i a b=>⟨(h4 i a b).1.mono hm,(h4 i a b).2.mono hm⟩⟩
 |fbox cs=>exact⟨h.1,fun i a=>let ⟨c,x,y⟩:=h.2 i a;⟨c,hm _ _ _ x,y.mono hm⟩⟩
 |farr sz l=>
  rcases h with⟨h,h'⟩ | ⟨h0,h1,h2,h3,h4⟩
  ·exact .inl ⟨h,h'⟩
  ·exact .inr ⟨h0,h1,h2,h3,fun i j a b=>let ⟨c,x,y⟩:=h4 i j a b;⟨c,hm _ _ _ x,y.mono hm⟩⟩
 |dead=>exact h
 |loop env ps asg body st bz=>
  obtain⟨h0,h1,r,h2,h3,h4,h5,h6,h7,h8,h9⟩:=h
  simp only[O.clos]at hc
  simp only[O.ren,fO,List.length_map,List.getElem_map]
  refine⟨h0,h1,r,by rw[hw rfl h1];exact h2,h3,h4,h5,h6,h7,h8,fun i a=>(h9 i a).renx hm hx ?_⟩
  have :=gR (l:=env.map (·.d)) (i:=i) (by simpa using a) hc
  simpa using this
mutual
theorem D.ren_id{f g:Name->Name}{dom:Name->Bool}(iZ:∀ nm,dom nm=true->g (f nm)=nm):∀ d:D,D.clos dom d=true->(d.ren f).ren g=d
 | .v _,_=>rfl
 | .nilsl,_=>rfl
 | .nilmap,_=>rfl
 | .any,_=>rfl
 | .ref nm _,h=>by simp only[D.ren];rw[iZ nm h]
 | .msl nm _,h=>by simp only[D.ren];rw[iZ nm h]
 | .aref nm _ _ _,h=>by simp only[D.ren];rw[iZ nm h]
 | .map nm,h=>by simp only[D.ren];rw[iZ nm h]
 | .yld nm,h=>by simp only[D.ren];rw[iZ nm h]
 | .clo _ a b,h=>by
   simp only[D.clos,Bool.and_eq_true]at h
   simp only[D.ren];rw[D.renL_id iZ a h.1,D.renL_id iZ b h.2]
 | .agg l,h=>by simp only[D.clos]at h;simp only[D.ren];rw[D.renL_id iZ l h]
 | .tup l,h=>by simp only[D.clos]at h;simp only[D.ren];rw[D.renL_id iZ l h]
theorem D.renL_id{f g:Name->Name}{dom:Name->Bool}(iZ:∀ nm,dom nm=true->g (f nm)=nm):∀ l:List D,D.closL dom l=true->D.renL g (D.renL f l)=l
 |[],_=>rfl
 |d::r,h=>by
  simp only[D.closL,Bool.and_eq_true]at h
  simp only[D.renL];rw[D.ren_id iZ d h.1,D.renL_id iZ r h.2]
end
theorem O.ren_id{f g:Name->Name}{dom:Name->Bool}(iZ:∀ nm,dom nm=true->g (f nm)=nm)(o:O)(h:O.clos dom o=true):(o.ren f).ren g=o:=by
 cases o with
 |box cs=>simp only[O.clos]at h;simp only[O.ren];rw[D.renL_id iZ cs h]
 |loop env ps asg body st bz=>
  simp only[O.clos]at h
  simp only[O.ren,List.map_map,O.loop.injEq,and_true]
  refine List.ext_getElem (by simp) fun i h1 h2=>?_
  have :=gR (l:=env.map (·.d)) (i:=i) (by simpa using h2) h
  simp only[List.getElem_map,Function.comp_apply,E.ren]at this |-
  rw[D.ren_id iZ _ this]
 |_=>rfl
mutual
def kL:D->List Name
 | .ref nm _=>[nm]
 | .msl nm _=>[nm]
 | .aref nm _ _ _=>[nm]
 | .map nm=>[nm]
 | .yld nm=>[nm]
 | .clo _ a b=>cP a++cP b
 | .agg l=>cP l
 | .tup l=>cP l
 |_=>[]
def cP:List D->List Name
 |[]=>[]
 |d::r=>kL d++cP r
end
def kK:O->List Name
 | .box cs=>cP cs
 | .loop env _ _ _ _ _=>cP (env.map (·.d))
 |_=>[]
def cG(L:List Name)(nm:Name):Bool:=L.any fun x=>x==nm
def dd(obj:Name->Option O):Nat->List Name->List Name->List Name
 | 0,_,acc=>acc
 |_+1,[],acc=>acc
 |n+1,x::todo,acc=>if cG acc x=true then dd obj n todo acc else dd obj n ((match obj x with | some o=>kK o | none=>[])++todo) (acc++[x])
def reach(obj:Name->Option O)(ds:List D):List Name:=dd obj 3000 (cP ds) []
theorem fG{L:List Name}{nm:Name}:cG L nm=true↔nm∈L:=by
 simp only[cG,List.any_eq_true,beq_iff_eq]
 exact⟨fun ⟨x,h,e⟩=>e▸h,fun h=>⟨nm,h,rfl⟩⟩
theorem Ad{obj:Name->Option O}:∀ (n:Nat) (todo acc:List Name),∀ nm∈acc,nm∈dd obj n todo acc
 | 0,_,_,_,h=>h
 |_+1,[],_,_,h=>h
 |n+1,x::todo,acc,nm,h=>by
  simp only[dd]
  split
  ·exact Ad n _ _ nm h
  ·exact Ad n _ _ nm (by simp[h])
theorem wE{obj:Name->Option O}:∀ (n:Nat) (todo acc:List Name),acc.Nodup->(dd obj n todo acc).Nodup
 | 0,_,_,h=>h
 |_+1,[],_,h=>h
 |n+1,x::todo,acc,h=>by
  simp only[dd]
  split
  ·exact wE n _ _ h
  ·rename_i hx
   refine wE n _ _ (List.nodup_append.2 ⟨h,by simp,fun a ha b hb=>?_⟩)
   simp only[List.mem_singleton]at hb
   subst hb
   rintro rfl
   exact hx (fG.2 ha)
theorem Ac{obj obj2:Name->Option O}:∀ (n:Nat) (todo acc:List Name),bE (dd obj n todo acc) obj obj2->dd obj2 n todo acc=dd obj n todo acc
 | 0,_,_,_=>rfl
 |_+1,[],_,_=>rfl
 |n+1,x::todo,acc,h=>by
  simp only[dd]at h |-
  split
  ·rename_i hx;rw[if_pos hx]at h;exact Ac n _ _ h
  ·rename_i hx
   rw[if_neg hx]at h
   have bm:obj2 x=obj x:=h x (Ad n _ _ x (by simp))
   rw[bm]
   exact Ac n _ _ h
def idx:List Name->Name->Nat
 |[],_=>0
 |x::r,nm=>if x=nm then 0 else idx r nm+1
def cin(L:List Name)(nm:Name):Name:=[idx L nm,1]
def cout(L:List Name)(t:Name):Name->Name
 |[i,1]=>L.getD i []
 |x=>x++t
def cQ:Name->Bool
 |[_,1]=>true
 |_=>false
theorem su:∀ {L:List Name} {nm:Name},nm∈L->∃ h:idx L nm<L.length,L[idx L nm]=nm
 |x::r,nm,h=>by
  simp only[idx]
  by_cases e:x=nm
  ·subst e;simp
  ·simp only[if_neg e]
   obtain⟨h1,h2⟩:=su (L:=r) (nm:=nm) (by rcases List.mem_cons.1 h with h | h; · exact(e h.symm).elim
                                         ·exact h)
   exact⟨by simp;omega,by simpa using h2⟩
theorem Wd{L:List Name}{t nm:Name}(h:nm∈L):cout L t (cin L nm)=nm:=by
 obtain⟨h1,h2⟩:=su h
 show L.getD (idx L nm) []=nm
 rw[List.getD_eq_getElem?_getD,List.getElem?_eq_getElem h1];simpa using h2
theorem s6{L:List Name}{t x:Name}(h:cQ x=false):cout L t x=x++t:=by
 unfold cout
 split
 ·simp[cQ]at h
 ·rfl
theorem uz{x:Name}:cQ x=true↔∃ i,x=[i,1]:=by
 constructor
 ·intro h
  unfold cQ at h
  split at h
  ·exact⟨_,rfl⟩
  ·cases h
 ·rintro⟨i,rfl⟩;rfl
theorem FO(i:Nat):own [0] [i,1]=false:=by simp[own]
theorem Bi{L:List Name}(hn:L.Nodup){i:Nat}(h:i<L.length):idx L L[i]=i:=by
 obtain⟨h1,h2⟩:=su (List.getElem_mem h)
 exact(List.getElem_inj hn).1 h2
structure Out where
 upd:List (Nat×O)
 new:List (Name×O)
 d:D
 deriving Inhabited
def eu:List (Nat×O)->Nat->O->O
 |[],_,o=>o
 |(j,o')::r,i,o=>eu r i (if j=i then o' else o)
def cj(L:List Name)(t:Name):List (Nat×O)->(Name->Option O)->(Name->Option O)
 |[],obj=>obj
 |(i,o)::r,obj=>cj L t r (upd obj (L.getD i []) (some (o.ren (cout L t))))
def c9(L:List Name)(t:Name):List (Name×O)->(Name->Option O)->(Name->Option O)
 |[],obj=>obj
 |(x,o)::r,obj=>c9 L t r (upd obj (x++t) (some (o.ren (cout L t))))
theorem Ft{L:List Name}{t:Name}(hn:L.Nodup):∀ (l:List (Nat×O)) (obj:Name->Option O) {i:Nat} (h:i<L.length) (o:O) (_:(l.all fun x=>decide (x.1<L.length))=true) (_:obj L[i]=some (o.ren (cout L t))),
 cj L t l obj L[i]=some ((eu l i o).ren (cout L t))
 |[],obj,i,h,o,_,ho=>ho
 |(j,o')::r,obj,i,h,o,hl,ho=>by
  simp only[List.all_cons,Bool.and_eq_true,decide_eq_true_eq]at hl
  simp only[cj,eu]
  refine Ft hn r _ h _ hl.2 ?_
  have e:L.getD j []=L[j]:=by rw[List.getD_eq_getElem?_getD,List.getElem?_eq_getElem hl.1];rfl
  rw[e]
  by_cases hj:j=i
  ·subst hj;rw[aM,if_pos rfl]
  ·rw[aU _ _ _ (fun e'=>hj ((List.getElem_inj hn).1 e').symm),if_neg hj];exact ho
theorem Ah{L:List Name}{t:Name}:∀ (l:List (Nat×O)) (obj:Name->Option O) {nm:Name} (_:(l.all fun x=>decide (x.1<L.length))=true) (_:nm∉L),cj L t l obj nm=obj nm
 |[],_,_,_,_=>rfl
 |(j,o')::r,obj,nm,hl,hn=>by
  simp only[List.all_cons,Bool.and_eq_true,decide_eq_true_eq]at hl
  simp only[cj]
  rw[Ah r _ hl.2 hn]
  refine aU _ _ _ ?_
  rintro rfl
  refine hn ?_
  rw[List.getD_eq_getElem?_getD,List.getElem?_eq_getElem hl.1];simp
theorem tU{L:List Name}{t:Name}:∀ (l:List (Name×O)) (obj:Name->Option O) {nm:Name} (_:∀ x∈l,nm≠x.1++t),c9 L t l obj nm=obj nm
 |[],_,_,_=>rfl
 |(x,o')::r,obj,nm,hl=>by
  simp only[c9]
  rw[tU r _ fun y hy=>hl y (by simp[hy])]
  exact aU _ _ _ (hl (x,o') (by simp))
theorem Fu{L:List Name}{t:Name}:∀ (l:List (Name×O)) (obj:Name->Option O) (_:(l.map (·.1)).Nodup) {x:Name} {o:O} (_:(x,o)∈l),c9 L t l obj (x++t)=some (o.ren (cout L t))
 |(y,o')::r,obj,hn,x,o,h=>by
  simp only[List.map_cons,List.nodup_cons]at hn
  simp only[c9]
  rcases List.mem_cons.1 h with h | h
  ·cases h
   rw[tU r _ fun z hz e=>hn.1 (by
    have :_=z.1:=List.append_cancel_right e
    rw[this];exact List.mem_map_of_mem hz)]
   exact aM _ _ _
  ·exact Fu r _ hn.2 h
def cS(n:Nat)(new:List (Name×O)):Name->Bool
 |[i,1]=>decide (i<n)
 |x=>new.any fun y=>y.1==x
section
variable {G:Ghost} {φ:Name->Loc} {m:Mem} {σ:S} {a:Act} {w:World}
def cm(L:List Name)(obj:Name->Option O)(nm:Name):O:=match obj nm with
 |some o=>o.ren (cin L)
 |none=>.fbox []
def shut(obj:Name->Option O)(L:List Name):Bool:=L.all fun nm=>match obj nm with
 |some o=>O.clos (cG L) o
 |none=>false
def iM(L:List Name)(obj:Name->Option O):Name->Option O
 |[i,1]=>if i<L.length then some (cm L obj (L.getD i []))else none
 |_=>none
def lu(L:List Name)(φ:Name->Loc):Name->Loc
 |[i,1]=>φ (L.getD i [])
 |_=>⟨0,0,0,true,none⟩
def ow(L:List Name)(φ:Name->Loc)(obj:Name->Option O)(b:Nat):Prop:=∃ nm∈L,holds φ obj nm/\(φ nm).blk=b
theorem tN{obj:Name->Option O}{L:List Name}(h:shut obj L=true){nm:Name}(hn:nm∈L):∃ o,obj nm=some o/\O.clos (cG L) o=true:=by
 have :=List.all_eq_true.1 h nm hn
 cases ho:obj nm with
 |none=>simp[ho]at this
 |some o=>simp only[ho]at this;exact⟨o,rfl,this⟩
theorem ke{L:List Name}{i:Nat}(h:i<L.length):L.getD i []=L[i]:=by rw[List.getD_eq_getElem?_getD,List.getElem?_eq_getElem h];rfl
theorem PS{L:List Name}{obj:Name->Option O}{nm:Name}(hn:nm∈L):iM L obj (cin L nm)=some (cm L obj nm):=by
 obtain⟨h1,h2⟩:=su hn
 show (if idx L nm<L.length then some (cm L obj (L.getD (idx L nm) []))else none)=_
 rw[if_pos h1,ke h1,h2]
theorem MB{L:List Name}{φ:Name->Loc}{nm:Name}(hn:nm∈L):lu L φ (cin L nm)=φ nm:=by
 obtain⟨h1,h2⟩:=su hn
 show φ (L.getD (idx L nm) [])=_
 rw[ke h1,h2]
theorem wD{L:List Name}{obj:Name->Option O}:vR (cin L) φ (lu L φ) obj (iM L obj) (cG L):=by
 intro nm o hd ho
 have hn:=fG.1 hd
 refine⟨cm L obj nm,PS hn,.inl ⟨?_,MB hn,?_⟩⟩
 ·simp only[cm,ho];exact O.len_ren _ _
 ·simp only[cm,ho];exact O.sz_ren _ _
theorem Ay{L:List Name}{obj:Name->Option O}{x:Name}{o:O}(h:iM L obj x=some o):∃ (i:Nat) (hi:i<L.length),x=[i,1]/\o=cm L obj L[i]:=by
 unfold iM at h
 split at h
 ·rename_i i
  split at h
  ·rename_i hi
   cases h
   exact⟨i,hi,rfl,by rw[ke hi]⟩
  ·cases h
 ·cases h
def qJ(w:World)(m:Mem)(L:List Name)(φ:Name->Loc)(obj:Name->Option O)(rd:Option Nat)(h:∀ l,rd=some l->¬ ow L φ obj l/\∃ r,w.heap[l]?=some (.loop r)):Ghost:=
 ⟨w,m,ow L φ obj,rd,lu L φ,iM L obj,h⟩
theorem xy{L:List Name}{obj:Name->Option O}(hL:shut obj L=true){x:Name}(h:holds (lu L φ) (iM L obj) x):∃ (i:Nat) (hi:i<L.length),x=[i,1]/\holds φ obj L[i]:=by
 obtain⟨o,h1,h2,h3⟩:=h
 obtain⟨i,hi,rfl,rfl⟩:=Ay h1
 obtain⟨o',h4,_⟩:=tN hL (List.getElem_mem hi)
 refine⟨i,hi,rfl,o',h4,?_,?_⟩
 ·simp only[cm,h4,O.mut_ren]at h2;exact h2
 ·have:lu L φ [i,1]=φ L[i]:=by show φ (L.getD i [])=_;rw[ke hi]
  rw[this]at h3;exact h3
theorem J3(hC:aL G φ m σ a w){L:List Name}(hn:L.Nodup)(hL:shut σ.obj L=true){rd:Option Nat}(lS:∀ l,rd=some l->¬ ow L φ σ.obj l/\∃ r,w.heap[l]?=some (.loop r))
 {nt b0:Nat} {env:Nat->E} {tmps:Array Value} (hs:tmps.size=nt) (he:∀ t,ca (lu L φ) (iM L σ.obj) m (env t) (tmps.getD t undef)):
 aL (qJ w m L φ σ.obj rd lS) (lu L φ) m ⟨nt,env,iM L σ.obj,[0],b0⟩ { tmps:=tmps,defers:=[] } w:=by
 have hφ:∀ (i:Nat) (hi:i<L.length),lu L φ [i,1]=φ L[i]:=fun i hi=>by show φ (L.getD i [])=_;rw[ke hi]
 constructor
 ·exact he
 ·exact hs
 ·exact⟨[],rfl,by simp,by simp⟩
 ·intro x o hx
  obtain⟨i,hi,rfl,rfl⟩:=Ay hx
  obtain⟨o',h4,h5⟩:=tN hL (List.getElem_mem hi)
  rw[hφ i hi]
  simp only[cm,h4]
  exact(hC.objs _ _ h4).ren (Mem.le_refl m) wD h5 fun _ _=>rfl
 ·exact hC.mem
 ·intro x hx off
  obtain⟨i,hi,rfl,h⟩:=xy hL hx
  rw[hφ i hi]
  exact hC.apart _ h off
 ·intro x y hx hy e
  obtain⟨i,hi,rfl,h⟩:=xy hL hx
  obtain⟨j,hj,rfl,h'⟩:=xy hL hy
  rw[hφ i hi,hφ j hj]at e
  have :=(List.getElem_inj hn).1 (hC.inj _ _ h h' e)
  rw[this]
 ·intro x hx
  obtain⟨i,hi,rfl,h⟩:=xy hL hx
  rw[hφ i hi]
  exact .inr ⟨_,List.getElem_mem hi,h,rfl⟩
 ·exact⟨rfl,rfl,rfl,Nat.le_refl _,fun _ _ _=>rfl⟩
 ·intro b off v h;exact .inl h
 ·refine⟨fun x o hx=>?_,Ext.refl _ _⟩
  obtain⟨i,hi,rfl,_⟩:=Ay hx
  exact FO i
structure MA (σ:S) (os:List O) (o:Out):Prop where
 objs:∀ i (h:i<os.length),σ.obj [i,1]=some (eu o.upd i os[i])
 news:∀ x∈o.new,σ.obj x.1=some x.2
 cd:D.clos (cS os.length o.new) o.d=true
 cu:(o.upd.all fun x=>O.clos (cS os.length o.new) x.2&&decide (x.1<os.length))=true
 cn:(o.new.all fun x=>O.clos (cS os.length o.new) x.2&&!cQ x.1)=true
 nd:(o.new.map (·.1)).Nodup
def fresh(obj:Name->Option O)(t:Name)(new:List (Name×O)):Bool:=new.all fun x=>(obj (x.1++t)).isNone
theorem VM{n:Nat}{new:List (Name×O)}{x:Name×O}(h:cQ x.1=false)(hx:x∈new):cS n new x.1=true:=by
 have key:∀ nm:Name,cQ nm=false->cS n new nm=new.any fun y=>y.1==nm:=by
  intro nm h
  unfold cS
  split
  ·simp[cQ]at h
  ·rfl
 rw[key _ h]
 exact List.any_eq_true.2 ⟨x,hx,by simp⟩
theorem GD{dom:Name->Bool}:∀ (l:List (Nat×O)) (i:Nat) (o:O),O.clos dom o=true->(∀ x∈l,O.clos dom x.2=true)->O.clos dom (eu l i o)=true
 |[],_,_,h,_=>h
 |(j,o')::r,i,o,h,hl=>by
  simp only[eu]
  refine GD r i _ ?_ fun x hx=>hl x (by simp[hx])
  split
  ·exact hl (j,o') (by simp)
  ·exact h
mutual
theorem clos_ren{f:Name->Name}{dom dom':Name->Bool}(hf:∀ nm,dom nm=true->dom' (f nm)=true):∀ d:D,D.clos dom d=true->D.clos dom' (d.ren f)=true
 | .v _,_=>by simp only[D.ren,D.clos]
 | .nilsl,_=>by simp only[D.ren,D.clos]
 | .nilmap,_=>by simp only[D.ren,D.clos]
 | .any,_=>by simp only[D.ren,D.clos]
 | .ref nm _,h=>hf nm h
 | .msl nm _,h=>hf nm h
 | .aref nm _ _ _,h=>hf nm h
 | .map nm,h=>hf nm h
 | .yld nm,h=>hf nm h
 | .clo _ a b,h=>by
   simp only[D.clos,Bool.and_eq_true]at h
   simp only[D.ren,D.clos,Bool.and_eq_true]
   exact⟨qW hf a h.1,qW hf b h.2⟩
 | .agg l,h=>by simp only[D.clos]at h;simp only[D.ren,D.clos];exact qW hf l h
 | .tup l,h=>by simp only[D.clos]at h;simp only[D.ren,D.clos];exact qW hf l h
theorem qW{f:Name->Name}{dom dom':Name->Bool}(hf:∀ nm,dom nm=true->dom' (f nm)=true):∀ l:List D,D.closL dom l=true->D.closL dom' (D.renL f l)=true
 |[],_=>by simp only[D.renL,D.closL]
 |d::r,h=>by
  simp only[D.closL,Bool.and_eq_true]at h
  simp only[D.renL,D.closL,Bool.and_eq_true]
  exact⟨clos_ren hf d h.1,qW hf r h.2⟩
end
theorem O.clos_ren{f:Name->Name}{dom dom':Name->Bool}(hf:∀ nm,dom nm=true->dom' (f nm)=true)(o:O)(h:O.clos dom o=true):O.clos dom' (o.ren f)=true:=by
 cases o with
 |box cs=>simp only[O.clos]at h;simp only[O.ren,O.clos];exact qW hf cs h
 |loop env ps asg body st bz=>
  simp only[O.clos]at h
  simp only[O.ren,O.clos]
  have :=qW hf _ h
  rw[jq,List.map_map]at this
  rw[List.map_map]
  exact this
 |_=>rfl
theorem J2(hC:aL G φ m σ a w){L:List Name}(hn:L.Nodup)(hL:shut σ.obj L=true){rd:Option Nat}{lS:∀ l,rd=some l->¬ ow L φ σ.obj l/\∃ r,w.heap[l]?=some (.loop r)}
 {φ2:Name->Loc} {m2:Mem} {σ2:S} {a2:Act} {w2:World} (eQ:aL (qJ w m L φ σ.obj rd lS) φ2 m2 σ2 a2 w2) {o:Out} (hE:MA σ2 (L.map (cm L σ.obj)) o) {t:Name} (hf:fresh σ.obj t o.new=true):
 ∃ φ' m',Mem.le m m'/\aL G φ' m' { σ with obj:=c9 L t o.new (cj L t o.upd σ.obj) } a w2/\
   Ext φ φ' σ.obj (c9 L t o.new (cj L t o.upd σ.obj))/\
   (∀ d u,aA φ2 σ2.obj m2 d u->D.clos (cS L.length o.new) d=true->aA φ' (c9 L t o.new (cj L t o.upd σ.obj)) m' (d.ren (cout L t)) u):=by
 have hlen:(L.map (cm L σ.obj)).length=L.length:=by simp
 obtain⟨h1,h2,h3,h4,h5,h6⟩:=hE
 rw[hlen]at h3 h4 h5
 have hu:(o.upd.all fun x=>decide (x.1<L.length))=true:=List.all_eq_true.2 fun x hx=>by
  have :=List.all_eq_true.1 h4 x hx
  simp only[Bool.and_eq_true]at this;exact this.2
 have xp:∀ x∈o.upd,O.clos (cS L.length o.new) x.2=true:=fun x hx=>by
  have :=List.all_eq_true.1 h4 x hx
  simp only[Bool.and_eq_true]at this;exact this.1
 have I9:∀ x∈o.new,O.clos (cS L.length o.new) x.2=true:=fun x hx=>by
  have :=List.all_eq_true.1 h5 x hx
  simp only[Bool.and_eq_true]at this;exact this.1
 have BM:∀ x∈o.new,cQ x.1=false:=fun x hx=>by
  have :=List.all_eq_true.1 h5 x hx
  simp only[Bool.and_eq_true,Bool.not_eq_true']at this;exact this.2
 have cD:∀ x∈o.new,σ.obj (x.1++t)=none:=fun x hx=>by
  have :=List.all_eq_true.1 hf x hx
  simpa using this
 have U0:∀ nm∈L,∃ o,σ.obj nm=some o:=fun nm h=>let ⟨o,h,_⟩:=tN hL h;⟨o,h⟩
 have qE:∀ nm∈L,∀ x∈o.new,nm≠x.1++t:=fun nm h x hx e=>by
  obtain⟨o',ho⟩:=U0 nm h
  rw[e,cD x hx]at ho;cases ho
 have Uu:∀ nm,cG L nm=true->cout L t (cin L nm)=nm:=fun nm h=>Wd (fG.1 h)
 generalize eA:c9 L t o.new (cj L t o.upd σ.obj)=obj'
 have xz:∀ (i:Nat) (hi:i<L.length),obj' L[i]=some ((eu o.upd i (cm L σ.obj L[i])).ren (cout L t)):=fun i hi=>by
  rw[<-eA,tU _ _ (qE _ (List.getElem_mem hi))]
  refine Ft hn _ _ hi _ hu ?_
  obtain⟨o',ho,hc⟩:=tN hL (List.getElem_mem hi)
  simp only[cm,ho]
  rw[O.ren_id Uu o' hc]
 have BK:∀ x∈o.new,obj' (x.1++t)=some (x.2.ren (cout L t)):=fun x hx=>by rw[<-eA];exact Fu _ _ h6 hx
 have BJ:∀ nm,nm∉L->(∀ x∈o.new,nm≠x.1++t)->obj' nm=σ.obj nm:=fun nm h h'=>by rw[<-eA,tU _ _ h',Ah _ _ hu h]
 let φ':Name->Loc:=fun nm=>if nm∈L then φ2 (cin L nm)else match o.new.find? (fun x=>x.1++t==nm)with
  |some x=>φ2 x.1
  |none=>φ nm
 have uE:∀ (i:Nat) (hi:i<L.length),φ' L[i]=φ2 [i,1]:=fun i hi=>by
  show (if L[i]∈L then φ2 (cin L L[i])else _)=_
  rw[if_pos (List.getElem_mem hi)]
  show φ2 [idx L L[i],1]=_
  rw[Bi hn hi]
 have xk:∀ x∈o.new,φ' (x.1++t)=φ2 x.1:=fun x hx=>by
  show (if x.1++t∈L then _ else _)=_
  rw[if_neg fun h=>qE _ h x hx rfl]
  cases pf:o.new.find? (fun y=>y.1++t==x.1++t)with
  |none=>have:=List.find?_eq_none.1 pf x hx;simp at this
  |some y=>
   have :=List.find?_some pf
   simp only[beq_iff_eq]at this
   simp only[List.append_cancel_right this]
 have xj:∀ nm,nm∉L->(∀ x∈o.new,nm≠x.1++t)->φ' nm=φ nm:=fun nm h h'=>by
  show (if nm∈L then _ else _)=_
  rw[if_neg h]
  cases pf:o.new.find? (fun y=>y.1++t==nm)with
  |none=>rfl
  |some y=>
   have :=List.find?_some pf
   simp only[beq_iff_eq]at this
   exact(h' y (List.mem_of_find?_eq_some pf) this.symm).elim
 let m':Mem:=fun b off=>match m2 b off with | some c=>some c | none=>m b off
 have xw:=eQ.own
 have qz:∀ b,ow L φ σ.obj b->b<w.heap.size:=fun b ⟨nm,h,⟨o',k1,k2,k3⟩,e⟩=>by rw[<-e];exact(hC.objs nm o' k1).lt k2 k3
 have BQ:Mem.le m m':=by
  intro b off v h
  show (match m2 b off with | some c=>some c | none=>m b off)=some v
  cases hq:m2 b off with
  |none=>exact h
  |some c=>
   have k1:=eQ.mem b off c hq
   have k2:=hC.mem b off v h
   rw[pA (eQ.fr.block b (mW k2) fun ⟨nm,_,k3,e⟩=>by
    have :=hC.apart nm k3 off;rw[e,h]at this;cases this)]at k1
   have k3:World.cell? w ⟨b,off,none⟩=some c:=k1
   rw[k2]at k3;exact k3.symm
 have BP:Mem.le m2 m':=by
  intro b off v h
  show (match m2 b off with | some c=>some c | none=>m b off)=some v
  rw[h]
 have xF:∀ b off v,m' b off=some v->m2 b off=some v\/(m2 b off=none/\m b off=some v):=by
  intro b off v h
  have h':(match m2 b off with | some c=>some c | none=>m b off)=some v:=h
  cases hq:m2 b off with
  |none=>rw[hq]at h';exact .inr ⟨rfl,h'⟩
  |some c=>rw[hq]at h';exact .inl h'
 have Ce:∀ x,cS L.length o.new x=true->(∃ (i:Nat) (hi:i<L.length),x=[i,1])\/(cQ x=false/\∃ y∈o.new,y.1=x):=by
  intro x hx
  unfold cS at hx
  split at hx
  ·rename_i i
   exact .inl ⟨i,by simpa using hx,rfl⟩
  ·obtain⟨y,hy,e⟩:=List.any_eq_true.1 hx
   simp only[beq_iff_eq]at e
   subst e
   exact .inr ⟨BM y hy,y,hy,rfl⟩
 have sH:∀ (i:Nat) (hi:i<L.length),cout L t [i,1]=L[i]:=fun i hi=>ke hi
 have l5:∀ (i:Nat) (hi:i<L.length),σ2.obj [i,1]=some (eu o.upd i (cm L σ.obj L[i])):=fun i hi=>by
  have :=h1 i (by simpa using hi)
  simpa using this
 have Bx:vR (cout L t) φ2 φ' σ2.obj obj' (cS L.length o.new):=by
  intro x q hd hq
  rcases Ce x hd with⟨i,hi,rfl⟩ | ⟨hi,y,hy,rfl⟩
  ·rw[sH i hi,xz i hi,uE i hi]
   rw[l5 i hi]at hq;cases hq
   exact⟨_,rfl,.inl ⟨O.len_ren _ _,rfl,O.sz_ren _ _⟩⟩
  ·rw[s6 hi,BK y hy,xk y hy]
   rw[h2 y hy]at hq;cases hq
   exact⟨_,rfl,.inl ⟨O.len_ren _ _,rfl,O.sz_ren _ _⟩⟩
 have T8:∀ (i:Nat) (hi:i<L.length),O.clos (cS L.length o.new) (eu o.upd i (cm L σ.obj L[i]))=true:=by
  intro i hi
  refine GD _ _ _ ?_ xp
  obtain⟨o',ho,hc⟩:=tN hL (List.getElem_mem hi)
  simp only[cm,ho]
  refine O.clos_ren (fun nm hd=>?_) o' hc
  obtain⟨k1,_⟩:=su (fG.1 hd)
  show decide (idx L nm<L.length)=true
  simpa using k1
 have xO:Ext φ φ' σ.obj obj':=by
  intro nm q hq
  by_cases eY:nm∈L
  ·obtain⟨i,hi,rfl⟩:=List.getElem_of_mem eY
   obtain⟨AE,k1,k2⟩:=eQ.kept.2 [i,1] (cm L σ.obj L[i]) (by
    show iM L σ.obj [i,1]=_
    show (if i<L.length then _ else _)=_
    rw[if_pos hi,ke hi])
   have SA:AE=eu o.upd i (cm L σ.obj L[i]):=by rw[l5 i hi]at k1;exact(Option.some.inj k1).symm
   subst SA
   have SN:lu L φ [i,1]=φ L[i]:=by show φ (L.getD i [])=_;rw[ke hi]
   have cb:(cm L σ.obj L[i]).len?=q.len?/\(cm L σ.obj L[i]).sz=q.sz:=by
    simp only[cm,hq];exact⟨O.len_ren _ _,O.sz_ren _ _⟩
   refine⟨_,xz i hi,?_⟩
   rw[O.len_ren,O.sz_ren,uE i hi]
   rcases k2 with⟨a1,a2,a3⟩ | ⟨n,n',a1,a2,a3⟩
   ·exact .inl ⟨a1.trans cb.1,(a2:φ2 [i,1]=lu L φ [i,1]).trans SN,a3.trans cb.2⟩
   ·exact .inr ⟨n,n',cb.1▸a1,a2,a3⟩
  ·have o5:∀ x∈o.new,nm≠x.1++t:=fun x hx e=>by rw[e,cD x hx]at hq;cases hq
   exact⟨q,by rw[BJ nm eY o5];exact hq,.inl ⟨rfl,xj nm eY o5,rfl⟩⟩
 have sK:∀ nm,holds φ' obj' nm->(∃ x,holds φ2 σ2.obj x/\φ' nm=φ2 x/\nm=cout L t x/\cS L.length o.new x=true)\/(nm∉L/\(∀ x∈o.new,nm≠x.1++t)/\holds φ σ.obj nm/\φ' nm=φ nm):=by
  rintro nm ⟨q,k1,k2,k3⟩
  by_cases eY:nm∈L
  ·obtain⟨i,hi,rfl⟩:=List.getElem_of_mem eY
   left
   rw[xz i hi]at k1;cases k1
   rw[O.mut_ren]at k2
   rw[uE i hi]at k3
   exact⟨[i,1],⟨_,l5 i hi,k2,k3⟩,uE i hi,(sH i hi).symm,by show decide (i<L.length)=true;simpa using hi⟩
  ·by_cases o5:∃ x∈o.new,nm=x.1++t
   ·obtain⟨x,hx,rfl⟩:=o5
    left
    rw[BK x hx]at k1;cases k1
    rw[O.mut_ren]at k2
    rw[xk x hx]at k3
    refine⟨x.1,⟨_,h2 x hx,k2,k3⟩,xk x hx,(s6 (BM x hx)).symm,?_⟩
    exact VM (BM x hx) hx
   ·have qu:∀ x∈o.new,nm≠x.1++t:=fun x hx e=>o5 ⟨x,hx,e⟩
    right
    rw[BJ nm eY qu]at k1
    rw[xj nm eY qu]at k3
    exact⟨eY,qu,⟨q,k1,k2,k3⟩,xj nm eY qu⟩
 have ie:∀ nm,nm∉L->holds φ σ.obj nm->(φ nm).blk<w.heap.size/\¬ ow L φ σ.obj (φ nm).blk:=by
  intro nm eY hh
  obtain⟨q,k1,k2,k3⟩:=hh
  refine⟨(hC.objs nm q k1).lt k2 k3,fun ⟨x,k4,k5,k6⟩=>?_⟩
  exact eY (hC.inj _ _ k5 ⟨q,k1,k2,k3⟩ k6▸k4)
 have adk:∀ x y,cS L.length o.new x=true->cS L.length o.new y=true->cout L t x=cout L t y->x=y:=by
  intro x y hx hy e
  rcases Ce x hx with⟨i,hi,rfl⟩ | ⟨k1,x',bm,rfl⟩<;>rcases Ce y hy with⟨j,hj,rfl⟩ | ⟨k2,y',SS,rfl⟩
  ·rw[sH i hi,sH j hj]at e
   rw[(List.getElem_inj hn).1 e]
  ·rw[sH i hi,s6 k2]at e
   exact(qE _ (List.getElem_mem hi) y' SS e).elim
  ·rw[sH j hj,s6 k1]at e
   exact(qE _ (List.getElem_mem hj) x' bm e.symm).elim
  ·rw[s6 k1,s6 k2]at e
   exact List.append_cancel_right e
 refine⟨φ',m',BQ,?_,xO,fun d u hd hc=>hd.renx BP Bx hc⟩
 constructor
 ·exact fun x=>(hC.tmps x).ext BQ xO
 ·exact hC.size
 ·obtain⟨ds,k1,k2,k3⟩:=hC.defers
  refine⟨ds,k1,k2,fun D hD=>⟨(k3 D hD).1,?_⟩⟩
  have k4:=(k3 D hD).2
  rw[eQ.fr.block D (Array.getElem?_eq_some_iff.1 k4).1 fun ⟨x,_,⟨q,k5,k6,k7⟩,k8⟩=>(hC.objs x q k5).notDef k6 k7 _ (by rw[k8];exact k4)]
  exact k4
 ·intro nm q hq
  by_cases eY:nm∈L
  ·obtain⟨i,hi,rfl⟩:=List.getElem_of_mem eY
   have bZ:obj' L[i]=some q:=hq
   rw[xz i hi]at bZ;cases bZ
   rw[uE i hi]
   exact(eQ.objs _ _ (l5 i hi)).ren BP Bx (T8 i hi) fun _ _=>rfl
  ·by_cases o5:∃ x∈o.new,nm=x.1++t
   ·obtain⟨x,hx,rfl⟩:=o5
    have bZ:obj' (x.1++t)=some q:=hq
    rw[BK x hx]at bZ;cases bZ
    rw[xk x hx]
    exact(eQ.objs _ _ (h2 x hx)).ren BP Bx (I9 x hx) fun _ _=>rfl
   ·have qu:∀ x∈o.new,nm≠x.1++t:=fun x hx e=>o5 ⟨x,hx,e⟩
    have bZ:obj' nm=some q:=hq
    rw[BJ nm eY qu]at bZ
    rw[xj nm eY qu]
    refine(hC.objs nm q bZ).ext BQ xO fun k2 k3=>?_
    obtain⟨k4,k5⟩:=ie nm eY ⟨q,bZ,k2,k3⟩
    exact eQ.fr.block _ k4 k5
 ·intro b off v h
  rcases xF b off v h with h | ⟨sA,h⟩
  ·exact eQ.mem b off v h
  ·have k2:=hC.mem b off v h
   rw[pA (eQ.fr.block b (mW k2) fun ⟨nm,_,k3,e⟩=>by
    have :=hC.apart nm k3 off;rw[e,h]at this;cases this)]
   exact k2
 ·intro nm hh off
  rcases sK nm hh with⟨x,k1,k2,_,_⟩ | ⟨k1,k2,k3,k4⟩
  ·rw[k2]
   cases hq:m' (φ2 x).blk off with
   |none=>rfl
   |some v=>
    rcases xF _ _ _ hq with h | ⟨_,h⟩
    ·have:=eQ.apart x k1 off;rw[h]at this;cases this
    ·rcases xw x k1 with h' | ⟨jr,k5,k6,k7⟩
     ·have:=mW (hC.mem _ _ _ h)
      have fN:w.heap.size<=(φ2 x).blk:=h'
      omega
     ·have:=hC.apart jr k6 off
      rw[k7,h]at this;cases this
  ·rw[k4]
   obtain⟨k5,k6⟩:=ie nm k1 k3
   cases hq:m' (φ nm).blk off with
   |none=>rfl
   |some v=>
    rcases xF _ _ _ hq with h | ⟨_,h⟩
    ·rcases eQ.fresh _ _ _ h with h' | h' | h'
     ·have:=hC.apart nm k3 off
      have fN:m (φ nm).blk off=some v:=h'
      rw[fN]at this;cases this
     ·have fN:w.heap.size<=(φ nm).blk:=h'
      omega
     ·exact(k6 h').elim
    ·have:=hC.apart nm k3 off;rw[h]at this;cases this
 ·intro nm jr hh TU e
  rcases sK nm hh with⟨x,k1,k2,k3,k4⟩ | ⟨k1,k2,k3,k4⟩<;>rcases sK jr TU with⟨x',j1,j2,j3,j4⟩ | ⟨j1,j2,j3,j4⟩
  ·rw[k2,j2]at e
   rw[k3,j3,eQ.inj _ _ k1 j1 e]
  ·exfalso
   rw[k2,j4]at e
   obtain⟨k5,k6⟩:=ie jr j1 j3
   rcases xw x k1 with h' | h'
   ·have fN:w.heap.size<=(φ2 x).blk:=h'
    omega
   ·rw[e]at h';exact k6 h'
  ·exfalso
   rw[k4,j2]at e
   obtain⟨k5,k6⟩:=ie nm k1 k3
   rcases xw x' j1 with h' | h'
   ·have fN:w.heap.size<=(φ2 x').blk:=h'
    omega
   ·rw[<-e]at h';exact k6 h'
  ·rw[k4,j4]at e
   exact hC.inj _ _ k3 j3 e
 ·intro nm hh
  rcases sK nm hh with⟨x,k1,k2,_,_⟩ | ⟨k1,k2,k3,k4⟩
  ·rw[k2]
   rcases xw x k1 with h' | ⟨jr,k5,k6,k7⟩
   ·exact .inl (Nat.le_trans hC.fr.size h')
   ·rw[<-k7];exact hC.own jr k6
  ·rw[k4];exact hC.own nm k3
 ·refine⟨eQ.fr.os.trans hC.fr.os,eQ.fr.tape.trans hC.fr.tape,eQ.fr.output.trans hC.fr.output,Nat.le_trans hC.fr.size eQ.fr.size,fun b hb ho=>?_⟩
  rw[eQ.fr.block b (Nat.lt_of_lt_of_le hb hC.fr.size) fun ⟨nm,_,k3,e⟩=>?_]
  ·exact hC.fr.block b hb ho
  ·rcases hC.own nm k3 with h | h<;>rw[e]at h
   ·omega
   ·exact ho h
 ·intro b off v h
  rcases xF b off v h with h | ⟨_,h⟩
  ·rcases eQ.fresh _ _ _ h with h' | h' | ⟨nm,_,k3,e⟩
   ·exact hC.fresh _ _ _ h'
   ·exact .inr (.inl (Nat.le_trans hC.fr.size h'))
   ·rw[<-e];exact .inr (hC.own nm k3)
  ·exact hC.fresh _ _ _ h
 ·exact⟨hC.kept.1,hC.kept.2.trans xO⟩
end
def cY:Nat->List D->List (Nat×E)
 |_,[]=>[]
 |k,x::r=>(k,⟨true,x⟩)::cY (k+1) r
theorem LQ:∀ {k:Nat} {xs:List D} {t:Nat} {e:E},(t,e)∈cY k xs->∃ (i:Nat) (h:i<xs.length),t=k+i/\e=⟨true,xs[i]⟩
 |k,[],t,e,h=>by simp[cY]at h
 |k,x::r,t,e,h=>by
  simp only[cY,List.mem_cons,Prod.mk.injEq]at h
  rcases h with⟨rfl,rfl⟩ | h
  ·exact⟨0,by simp,rfl,rfl⟩
  ·obtain⟨i,hi,h1,h2⟩:=LQ h
   exact⟨i+1,by simpa using hi,by omega,by simpa using h2⟩
structure CSpec where
 pre:List O->List D->Prop
 out:List O->List D->Out
def cg(obj:Name->Option O)(ds:List D):List O:=(reach obj ds).map (cm (reach obj ds) obj)
def cN(obj:Name->Option O)(ds:List D):List D:=D.renL (cin (reach obj ds)) ds
def CSpec.toSpec(s:CSpec):Spec where
 app obj t ds:=⟨(shut obj (reach obj ds)&&D.closL (cG (reach obj ds)) ds&&fresh obj t (s.out (cg obj ds) (cN obj ds)).new)=true/\s.pre (cg obj ds) (cN obj ds),
  (s.out (cg obj ds) (cN obj ds)).d.ren (cout (reach obj ds) t),c9 (reach obj ds) t (s.out (cg obj ds) (cN obj ds)).new (cj (reach obj ds) t (s.out (cg obj ds) (cN obj ds)).upd obj)⟩
 foot obj t ds:=reach obj ds++((s.out (cg obj ds) (cN obj ds)).upd.map fun x=>(reach obj ds).getD x.1 [])++(s.out (cg obj ds) (cN obj ds)).new.map fun x=>x.1++t
 wrt obj t ds:=((s.out (cg obj ds) (cN obj ds)).upd.map fun x=>(reach obj ds).getD x.1 [])++(s.out (cg obj ds) (cN obj ds)).new.map fun x=>x.1++t
theorem rU{L:List Name}{t:Name}:∀ (l:List (Nat×O)) (obj obj2:Name->Option O) (nm:Name),cj L t l obj2 nm=if nm∈l.map (fun x=>L.getD x.1 [])then cj L t l obj nm else obj2 nm
 |[],obj,obj2,nm=>by simp[cj]
 |(i,o)::r,obj,obj2,nm=>by
  simp only[cj,List.map_cons,List.mem_cons]
  rw[rU r (upd obj (L.getD i []) (some (o.ren (cout L t)))) (upd obj2 (L.getD i []) (some (o.ren (cout L t)))) nm]
  by_cases h:nm∈r.map (fun x=>L.getD x.1 [])
  ·rw[if_pos h,if_pos (.inr h)]
  ·rw[if_neg h]
   by_cases e:nm=L.getD i []
   ·rw[if_pos (.inl e)]
    have hu:cj L t r (upd obj (L.getD i []) (some (o.ren (cout L t)))) nm=(upd obj (L.getD i []) (some (o.ren (cout L t)))) nm:=by
     rw[rU r obj _ nm,if_neg h]
    rw[hu,e,aM,aM]
   ·rw[if_neg (by simp only[not_or];exact⟨e,h⟩)]
    exact aU _ _ _ e
theorem pR{L:List Name}{t:Name}:∀ (l:List (Name×O)) (obj obj2:Name->Option O) (nm:Name),c9 L t l obj2 nm=if nm∈l.map (fun x=>x.1++t)then c9 L t l obj nm else obj2 nm
 |[],obj,obj2,nm=>by simp[c9]
 |(i,o)::r,obj,obj2,nm=>by
  simp only[c9,List.map_cons,List.mem_cons]
  rw[pR r (upd obj (i++t) (some (o.ren (cout L t)))) (upd obj2 (i++t) (some (o.ren (cout L t)))) nm]
  by_cases h:nm∈r.map (fun x=>x.1++t)
  ·rw[if_pos h,if_pos (.inr h)]
  ·rw[if_neg h]
   by_cases e:nm=i++t
   ·rw[if_pos (.inl e)]
    have hu:c9 L t r (upd obj (i++t) (some (o.ren (cout L t)))) nm=(upd obj (i++t) (some (o.ren (cout L t)))) nm:=by
     rw[pR r obj _ nm,if_neg h]
    rw[hu,e,aM,aM]
   ·rw[if_neg (by simp only[not_or];exact⟨e,h⟩)]
    exact aU _ _ _ e
theorem nw{obj obj2:Name->Option O}{ds:List D}(h:bE (reach obj ds) obj obj2):reach obj2 ds=reach obj ds:=Ac _ _ _ h
theorem vA{obj obj2:Name->Option O}{ds:List D}(h:bE (reach obj ds) obj obj2):cg obj2 ds=cg obj ds:=by
 unfold cg
 rw[nw h]
 exact List.map_congr_left fun nm hn=>by simp only[cm];rw[h nm hn]
theorem De{obj obj2:Name->Option O}{ds:List D}(h:bE (reach obj ds) obj obj2):cN obj2 ds=cN obj ds:=by
 unfold cN
 rw[nw h]
theorem zN{obj obj2:Name->Option O}{L:List Name}(h:bE L obj obj2):shut obj2 L=shut obj L:=by
 unfold shut
 refine Bool.eq_iff_iff.2 ?_
 simp only[List.all_eq_true]
 exact⟨fun k x hx=>by rw[<-h x hx];exact k x hx,fun k x hx=>by rw[h x hx];exact k x hx⟩
theorem ye{obj obj2:Name->Option O}{t:Name}{new:List (Name×O)}(h:bE (new.map fun x=>x.1++t) obj obj2):fresh obj2 t new=fresh obj t new:=by
 unfold fresh
 refine Bool.eq_iff_iff.2 ?_
 simp only[List.all_eq_true]
 exact⟨fun k x hx=>by rw[<-h _ (List.mem_map_of_mem hx)];exact k x hx,fun k x hx=>by rw[h _ (List.mem_map_of_mem hx)];exact k x hx⟩
theorem AY{ok ok2:Prop}{d:D}{obj obj2:Name->Option O}{L:List Name}{t:Name}{o:Out}(aa:ok2=ok)
 (ha:bE ((o.upd.map fun x=>L.getD x.1 [])++o.new.map fun x=>x.1++t) obj obj2):
 bK ⟨ok,d,c9 L t o.new (cj L t o.upd obj)⟩ ⟨ok2,d,c9 L t o.new (cj L t o.upd obj2)⟩ obj obj2 ((o.upd.map fun x=>L.getD x.1 [])++o.new.map fun x=>x.1++t):=by
 refine⟨aa,rfl,fun nm=>?_,fun nm hn=>?_⟩
 ·show c9 L t o.new (cj L t o.upd obj2) nm=if nm∈_ then c9 L t o.new (cj L t o.upd obj) nm else obj2 nm
  rw[pR o.new (cj L t o.upd obj) (cj L t o.upd obj2) nm]
  by_cases h1:nm∈o.new.map (fun x=>x.1++t)
  ·rw[if_pos h1,if_pos (List.mem_append_right _ h1)]
  ·rw[if_neg h1,rU o.upd obj obj2 nm]
   by_cases h2:nm∈o.upd.map (fun x=>L.getD x.1 [])
   ·rw[if_pos h2,if_pos (List.mem_append_left _ h2)]
    rw[pR o.new obj (cj L t o.upd obj) nm,if_neg h1]
   ·rw[if_neg h2,if_neg (by simp only[List.mem_append,not_or];exact⟨h2,h1⟩)]
 ·show c9 L t o.new (cj L t o.upd obj) nm=obj nm
  simp only[List.mem_append,not_or]at hn
  rw[pR o.new obj (cj L t o.upd obj) nm,if_neg hn.2,rU o.upd obj obj nm,if_neg hn.1]
theorem CSpec.near(s:CSpec):s.toSpec.Near:=by
 have key:∀ {obj obj2:Name->Option O} {t:Name} {ds:List D},bE (s.toSpec.foot obj t ds) obj obj2->bE (reach obj ds) obj obj2/\
     bE (((s.out (cg obj ds) (cN obj ds)).upd.map fun x=>(reach obj ds).getD x.1 [])++(s.out (cg obj ds) (cN obj ds)).new.map fun x=>x.1++t) obj obj2:=by
  intro obj obj2 t ds h
  refine⟨fun nm hn=>h nm ?_,fun nm hn=>h nm ?_⟩
  ·exact List.mem_append_left _ (List.mem_append_left _ hn)
  ·rcases List.mem_append.1 hn with hn | hn
   ·exact List.mem_append_left _ (List.mem_append_right _ hn)
   ·exact List.mem_append_right _ hn
 refine⟨fun obj obj2 t ds h=>?_,fun obj obj2 t ds h=>?_,fun obj t ds nm hn=>?_,fun obj obj2 t ds h=>?_⟩
 ·obtain⟨h1,h2⟩:=key h
  simp only[CSpec.toSpec]
  rw[vA h1,De h1,nw h1]
  refine AY ?_ h2
  rw[zN h1,ye fun nm hn=>h2 nm (List.mem_append_right _ hn)]
 ·obtain⟨h1,h2⟩:=key h
  simp only[CSpec.toSpec]
  rw[vA h1,De h1,nw h1]
 ·simp only[CSpec.toSpec]at hn |-
  rcases List.mem_append.1 hn with hn | hn
  ·exact List.mem_append_left _ (List.mem_append_right _ hn)
  ·exact List.mem_append_right _ hn
 ·obtain⟨h1,h2⟩:=key h
  simp only[CSpec.toSpec]
  rw[vA h1,De h1,nw h1]
def pU(σ:S)(u:List (Nat×O)):Nat->List O->Prop
 |_,[]=>True
 |i,o::r=>σ.obj [i,1]=some (eu u i o)/\pU σ u (i+1) r
theorem F7{σ:S}{u:List (Nat×O)}:∀ {l:List O} {k:Nat},pU σ u k l->∀ i (h:i<l.length),σ.obj [k+i,1]=some (eu u (k+i) l[i])
 |o::r,k,h,0,_=>h.1
 |o::r,k,h,i+1,hi=>by
  have :=F7 h.2 i (by simpa using hi)
  rw[show k+(i+1)=k+1+i by omega]
  simpa using this
def tY(σ:S):List (Name×O)->Prop
 |[]=>True
 |x::r=>σ.obj x.1=some x.2/\tY σ r
theorem Gc{σ:S}:∀ {l:List (Name×O)},tY σ l->∀ x∈l,σ.obj x.1=some x.2
 |y::r,h,x,hx=>by
  rcases List.mem_cons.1 hx with rfl | hx
  ·exact h.1
  ·exact Gc h.2 x hx
def distinct:List Name->Bool
 |[]=>true
 |x::r=>(r.all fun y=>!(x==y))&&distinct r
theorem Kt:∀ {l:List Name},distinct l=true->l.Nodup
 |[],_=>by simp
 |x::r,h=>by
  simp only[distinct,Bool.and_eq_true]at h
  refine List.nodup_cons.2 ⟨fun hx=>?_,Kt h.2⟩
  have :=List.all_eq_true.1 h.1 x hx
  simp at this
def fx(os:List O)(o:Out)(σ:S):Prop:=
 pU σ o.upd 0 os/\tY σ o.new/\
  (D.clos (cS os.length o.new) o.d&&(o.upd.all fun x=>O.clos (cS os.length o.new) x.2&&decide (x.1<os.length))&&(o.new.all fun x=>O.clos (cS os.length o.new) x.2&&!cQ x.1)&&distinct (o.new.map (·.1)))=true
theorem Kq{os:List O}{o:Out}{σ:S}(h:fx os o σ):MA σ os o:=by
 obtain⟨h1,h2,h3⟩:=h
 simp only[Bool.and_eq_true]at h3
 exact⟨fun i hi=>by simpa using F7 h1 i hi,Gc h2,h3.1.1.1,h3.1.1.2,by simpa using h3.1.2,Kt h3.2⟩
def tR(P:Program)(rs:List ResultVar)(os:List O)(o:Out):Exit->S->Prop
 | .normal,σ=>(bI P σ rs).ok/\(bI P σ rs).d=o.d/\fx os o σ
 | .ret,σ=>(bI P σ rs).ok/\(bI P σ rs).d=o.d/\fx os o σ
 |_,_=>False
def aQ(os:List O):Name->Option O
 |[i,1]=>os[i]?
 |_=>none
theorem PR{L:List Name}{obj:Name->Option O}{x:Name}(h:cQ x=false):iM L obj x=none:=by
 unfold iM
 split
 ·simp[cQ]at h
 ·rfl
theorem wJ{os:List O}{x:Name}(h:cQ x=false):aQ os x=none:=by
 unfold aQ
 split
 ·simp[cQ]at h
 ·rfl
theorem wR{L:List Name}{obj:Name->Option O}:iM L obj=aQ (L.map (cm L obj)):=by
 funext x
 cases hx:cQ x with
 |false=>rw[PR hx,wJ hx]
 |true=>
  obtain⟨i,rfl⟩:=uz.1 hx
  show (if i<L.length then some (cm L obj (L.getD i []))else none)=(L.map (cm L obj))[i]?
  by_cases hi:i<L.length
  ·rw[if_pos hi,List.getElem?_eq_getElem (by simpa using hi)]
   rw[ke hi,List.getElem_map]
  ·rw[if_neg hi,List.getElem?_eq_none (by simpa using hi)]
theorem AM{nt:Nat}{l:List (Nat×E)}{os:List O}:bb nt [0] (aQ os) l []=⟨nt,dn eAny l,aQ os,[0],0⟩:=by
 unfold bb
 congr 1
 funext nm
 split
 ·rename_i h
  have :cQ nm=false:=by
   cases hc:cQ nm with
   |false=>rfl
   |true=>
    obtain⟨i,rfl⟩:=uz.1 hc
    rw[FO]at h;cases h
  unfold aQ
  split
  ·simp[cQ]at this
  ·rfl
 ·rfl
theorem mS{P:Program}{f:FuncId}{fn:Func}{c:Code}{s:CSpec}{nt:Nat}{rs:List ResultVar}(hf:P.funcs[f]?=some fn)(hb:fn.body=some c)(cJ:fn.ntmps=nt)(bY:fn.results.toList=rs)
 (j':∀ args w,(callFunc f args).run P w=.ok (.enter f args) w) (aC:f≠yid)
 (h:∀ os ds,s.pre os ds->ds.length<=nt/\CW P c (bb nt [0] (aQ os) (cY 0 ds) []) (tR P rs os (s.out os ds))):aK P f s.toSpec:=by
 subst cJ
 subst bY
 refine⟨s.near,fun _=>j',fun _ G φ m σ a w hC t ds us _ hl hr aa=>?_,fun e=>(aC e).elim⟩
 obtain⟨aa,dr⟩:=aa
 simp only[Bool.and_eq_true]at aa
 obtain⟨⟨iU,cb⟩,cD⟩:=aa
 obtain⟨hlen,l6⟩:=h _ _ dr
 have b7:(reach σ.obj ds).Nodup:=wE _ _ _ (by simp)
 simp only[cN,jq,List.length_map]at hlen
 refine(callsIn_wide (n:=0)).1 (callsIn_of_wp_marks hf hb trivial ?_)
 have jC:=J3 hC (L:=reach σ.obj ds) b7 iU (rd:=none) (fun l h=>by cases h) (b0:=0) (nt:=fn.ntmps) (env:=dn eAny (cY 0 (cN σ.obj ds)))
  (tmps:=us++Array.replicate (fn.ntmps-us.size) undef) (by simp;omega) (fun t=>by
    rcases sa (z:=eAny) (cY 0 (cN σ.obj ds)) t with h1 | h1
    ·rw[h1];unfold ca eAny;simp;exact .any _
    ·obtain⟨i,hi,h2,h3⟩:=LQ h1
     rw[h3]
     unfold ca
     simp only[if_true]
     simp only[cN,jq,List.length_map]at hi
     have bA:i<us.size:=by omega
     have e:((us++Array.replicate (fn.ntmps-us.size) undef).getD t undef)=us[i]:=by
      have aq:0+i<(us++Array.replicate (fn.ntmps-us.size) undef).size:=by simp;omega
      rw[h2]
      simp only[Array.getD,aq,dite_true]
      show (us++Array.replicate (fn.ntmps-us.size) undef)[0+i]=us[i]
      simp only[Nat.zero_add]
      exact Array.getElem_append_left bA
     rw[e]
     simp only[cN,jq,List.getElem_map]
     exact(hr i hi bA).renx (Mem.le_refl m) wD (gR hi cb))
 rw[AM]at l6
 rw[wR]at jC
 refine wpIn_mono (l6 _ _ m _ w jC) ?_
 rintro e a1 w1 ⟨φ2,m2,σ2,fh,hK⟩
 have fin:(bI P σ2 fn.results.toList).ok/\(bI P σ2 fn.results.toList).d=(s.out (cg σ.obj ds) (cN σ.obj ds)).d/\fx (cg σ.obj ds) (s.out (cg σ.obj ds) (cN σ.obj ds)) σ2->
     LeavesInM Fence.wide 0 P fn a1.tmps (fun e w'=>∃ v φ' m',e=.returned v/\aL G φ' m' { σ with obj:=(s.toSpec.app σ.obj t ds).obj } a w'/\aA φ' (s.toSpec.app σ.obj t ds).obj m' (s.toSpec.app σ.obj t ds).d v/\Ext φ φ' σ.obj (s.toSpec.app σ.obj t ds).obj) a1.defers .returning w1:=by
  rintro⟨h1,h2,h3⟩
  refine A0 a1.defers rfl fh fun a' w' _ cf=>?_
  obtain⟨v,h4,h5⟩:=E1 cf fn h1
  rw[h2]at h5
  have hE:=Kq h3
  obtain⟨φ',m',k1,k2,k3,k4⟩:=J2 hC b7 iU cf hE cD
  have sJ:=hE.cd
  simp only[cg,List.length_map]at sJ
  exact⟨v,h4,v,φ',m',rfl,k2,k4 _ _ h5 sJ,k3⟩
 cases e with
 |normal=>exact fin hK
 |ret=>exact fin hK
 |_=>exact hK.elim
theorem bK.more{ok ok2:Prop}{d d2:D}{o1 o2 obj obj2:Name->Option O}{wr:List Name}(nm:Name)(x:Option O)(h:bK ⟨ok,d,o1⟩ ⟨ok2,d2,o2⟩ obj obj2 wr):
 bK ⟨ok,d,upd o1 nm x⟩ ⟨ok2,d2,upd o2 nm x⟩ obj obj2 (nm::wr):=by
 refine⟨h.ok,h.d,fun y=>?_,fun y hy=>?_⟩
 ·show upd o2 nm x y=if y∈nm::wr then upd o1 nm x y else obj2 y
  by_cases e:y=nm
  ·subst e;rw[aM,if_pos (by simp),aM]
  ·rw[aU _ _ _ e,aU _ _ _ e]
   have :=h.eff y
   simp only at this
   rw[this]
   by_cases hy:y∈wr
   ·rw[if_pos hy,if_pos (List.mem_cons_of_mem _ hy)]
   ·rw[if_neg hy,if_neg (by simp[e,hy])]
 ·simp only[List.mem_cons,not_or]at hy
  show upd o1 nm x y=obj y
  rw[aU _ _ _ hy.1]
  exact h.frame y hy.2
structure YSpec where
 pre:List E->List Nat->Code->Code->List O->List D->Prop
 out:List E->List Nat->Code->Code->List O->List D->Out×Option Code
def roots(env:List E)(ds:List D):List D:=env.map (·.d)++ds
def gw(obj:Name->Option O)(env:List E)(ds:List D):List E:=env.map (E.ren (cin (reach obj (roots env ds))))
def iD(obj:Name->Option O)(env:List E)(ds:List D):List D:=D.renL (cin (reach obj (roots env ds))) ds
def YSpec.o(y:YSpec)(obj:Name->Option O)(env:List E)(ps:List Nat)(asg body:Code)(ds:List D):Out×Option Code:=
 y.out (gw obj env ds) ps asg body (cg obj (roots env ds)) (iD obj env ds)
def YSpec.toSpec(y:YSpec):Spec where
 app obj t args:=match args with
  | .yld nm::ds=>match obj nm with
    |some (.loop env ps asg body .ready none)=>
     ⟨(shut obj (reach obj (roots env ds))&&D.closL (cG (reach obj (roots env ds))) (roots env ds)&&fresh obj t (y.o obj env ps asg body ds).1.new&&!cG (reach obj (roots env ds)) nm&&
         decide (ds.length=ps.length)&&(ps.all fun p=>decide (p<env.length)))=true/\y.pre (gw obj env ds) ps asg body (cg obj (roots env ds)) (iD obj env ds),
       .v (.bool (y.o obj env ps asg body ds).2.isNone),
       upd (c9 (reach obj (roots env ds)) t (y.o obj env ps asg body ds).1.new (cj (reach obj (roots env ds)) t (y.o obj env ps asg body ds).1.upd obj)) nm
        (some (.loop env ps asg body (if (y.o obj env ps asg body ds).2.isNone then .ready else .done) (y.o obj env ps asg body ds).2))⟩
    |_=>.bad obj
  |_=>.bad obj
 foot obj t args:=match args with
  | .yld nm::ds=>nm::(match obj nm with
    |some (.loop env ps asg body .ready none)=>reach obj (roots env ds)++((y.o obj env ps asg body ds).1.upd.map fun x=>(reach obj (roots env ds)).getD x.1 [])++(y.o obj env ps asg body ds).1.new.map fun x=>x.1++t
    |_=>[])
  |_=>[]
 wrt obj t args:=match args with
  | .yld nm::ds=>nm::(match obj nm with
    |some (.loop env ps asg body .ready none)=>((y.o obj env ps asg body ds).1.upd.map fun x=>(reach obj (roots env ds)).getD x.1 [])++(y.o obj env ps asg body ds).1.new.map fun x=>x.1++t
    |_=>[])
  |_=>[]
theorem YSpec.near(y:YSpec):y.toSpec.Near:=by
 have AB:∀ {obj obj2:Name->Option O} {env:List E} {ps:List Nat} {asg body:Code} {ds:List D},bE (reach obj (roots env ds)) obj obj2->
     y.o obj2 env ps asg body ds=y.o obj env ps asg body ds/\gw obj2 env ds=gw obj env ds/\iD obj2 env ds=iD obj env ds:=by
  intro obj obj2 env ps asg body ds h
  unfold YSpec.o gw iD
  rw[vA h,nw h]
  exact⟨rfl,rfl,rfl⟩
 have split:∀ {A B C:List Name} {obj obj2:Name->Option O} {nm:Name},bE (nm::(A++B++C)) obj obj2->bE A obj obj2/\bE (B++C) obj obj2:=by
  intro A B C obj obj2 nm h
  refine⟨fun x hx=>h x ?_,fun x hx=>h x ?_⟩
  ·exact List.mem_cons_of_mem _ (List.mem_append_left _ (List.mem_append_left _ hx))
  ·rcases List.mem_append.1 hx with hx | hx
   ·exact List.mem_cons_of_mem _ (List.mem_append_left _ (List.mem_append_right _ hx))
   ·exact List.mem_cons_of_mem _ (List.mem_append_right _ hx)
 have yD:∀ (args:List D),(∃ nm ds,args=.yld nm::ds)\/(∀ obj t,y.toSpec.app obj t args=.bad obj/\y.toSpec.foot obj t args=[]/\y.toSpec.wrt obj t args=[]):=by
  intro args
  rcases args with _ | ⟨d,ds⟩
  ·exact .inr fun _ _=>⟨rfl,rfl,rfl⟩
  ·cases d with
   |yld nm=>exact .inl ⟨nm,ds,rfl⟩
   |_=>exact .inr fun _ _=>⟨rfl,rfl,rfl⟩
 refine⟨fun obj obj2 t args h=>?_,fun obj obj2 t args h=>?_,fun obj t args jr hn=>?_,fun obj obj2 t args h=>?_⟩
 ·rcases yD args with⟨nm,ds,rfl⟩ | hb
  ·simp only[YSpec.toSpec]at h |-
   have h0:obj2 nm=obj nm:=h nm (by simp)
   rw[h0]
   split
   ·rename_i env ps asg body ho
    simp only[ho]at h
    obtain⟨h1,h2⟩:=split h
    obtain⟨e1,e2,e3⟩:=AB (ps:=ps) (asg:=asg) (body:=body) h1
    rw[e1,e2,e3,vA h1,nw h1]
    refine bK.more nm _ (AY ?_ h2)
    rw[zN h1,ye fun nm hn=>h2 nm (List.mem_append_right _ hn)]
   ·exact .none _ fun x hx=>by simp only[List.mem_singleton]at hx;subst hx;exact h0
  ·rw[(hb obj t).1,(hb obj2 t).1,(hb obj t).2.2]
   exact .same rfl rfl rfl rfl
 ·rcases yD args with⟨nm,ds,rfl⟩ | hb
  ·simp only[YSpec.toSpec]at h |-
   have h0:obj2 nm=obj nm:=h nm (by simp)
   rw[h0]
   split
   ·rename_i env ps asg body ho
    simp only[ho]at h
    obtain⟨h1,h2⟩:=split h
    obtain⟨e1,e2,e3⟩:=AB (ps:=ps) (asg:=asg) (body:=body) h1
    rw[e1,nw h1]
   ·rfl
  ·rw[(hb obj t).2.1,(hb obj2 t).2.1]
 ·rcases yD args with⟨nm,ds,rfl⟩ | hb
  ·simp only[YSpec.toSpec]at hn |-
   rcases List.mem_cons.1 hn with rfl | hn
   ·simp
   ·refine List.mem_cons_of_mem _ ?_
    split at hn
    ·rename_i env ps asg body ho
     try simp only[ho]
     rcases List.mem_append.1 hn with hn | hn
     ·exact List.mem_append_left _ (List.mem_append_right _ hn)
     ·exact List.mem_append_right _ hn
    ·cases hn
  ·rw[(hb obj t).2.2]at hn;cases hn
 ·rcases yD args with⟨nm,ds,rfl⟩ | hb
  ·simp only[YSpec.toSpec]at h |-
   have h0:obj2 nm=obj nm:=h nm (by simp)
   rw[h0]
   split
   ·rename_i env ps asg body ho
    simp only[ho]at h
    obtain⟨h1,h2⟩:=split h
    obtain⟨e1,e2,e3⟩:=AB (ps:=ps) (asg:=asg) (body:=body) h1
    rw[e1,nw h1]
   ·rfl
  ·rw[(hb obj t).2.2,(hb obj2 t).2.2]
def qM(env:List E):Nat->E:=fun t=>env.getD t eAny
def oC:(Nat->E)->List Nat->List D->(Nat->E)
 |f,p::ps,d::ds=>oC (upd f p ⟨true,d⟩) ps ds
 |f,_,_=>f
def FT(k:S->Prop):Exit->S->Prop
 | .normal,σ=>k σ
 |_,_=>False
def Pd(os:List O)(o:Out×Option Code):Exit->S->Prop
 | .normal,σ=>o.2=none/\fx os o.1 σ
 | .ret,σ=>o.2=some .ret/\fx os o.1 σ
 | .exit id,σ=>o.2=some (.exit id)/\fx os o.1 σ
 |_,_=>False
theorem EB{φ:Name->Loc}{obj:Name->Option O}{m:Mem}{n:Nat}:∀ (ps:List Nat) (ds:List D) (us:List Value) (f:Nat->E) (tmps:Array Value),tmps.size=n->ps.length=ds.length->ds.length=us.length->
 (∀ p∈ps,p<n)->(∀ t,ca φ obj m (f t) (tmps.getD t undef))->(∀ i (h:i<ds.length) (h':i<us.length),aA φ obj m ds[i] us[i])->
 (∀ t,ca φ obj m (oC f ps ds t) (((ps.zip us).foldl (fun tmps (p:Nat×Value)=>tmps.setIfInBounds p.1 p.2) tmps).getD t undef))/\((ps.zip us).foldl (fun tmps (p:Nat×Value)=>tmps.setIfInBounds p.1 p.2) tmps).size=n
 |[],ds,us,f,tmps,hs,h1,h2,hp,hf,hr=>by
  have :ds=[]:=List.eq_nil_of_length_eq_zero (by simpa using h1.symm)
  subst this
  exact⟨hf,hs⟩
 |p::ps,[],us,f,tmps,hs,h1,h2,hp,hf,hr=>by simp at h1
 |p::ps,d::ds,[],f,tmps,hs,h1,h2,hp,hf,hr=>by simp at h2
 |p::ps,d::ds,u::us,f,tmps,hs,h1,h2,hp,hf,hr=>by
  simp only[List.zip_cons_cons,List.foldl_cons,oC]
  refine EB ps ds us _ _ (by simpa using hs) (by simpa using h1) (by simpa using h2) (fun q hq=>hp q (by simp[hq])) (fun t=>?_) fun i a b=>by
   have :=hr (i+1) (by simpa using a) (by simpa using b)
   simpa using this
  have ab:p<tmps.size:=by rw[hs];exact hp p (by simp)
  by_cases ht:t=p
  ·subst ht
   rw[aM]
   have e:(tmps.setIfInBounds t u).getD t undef=u:=by simp[Array.getD,ab]
   rw[e]
   unfold ca
   simp only[if_true]
   exact hr 0 (by simp) (by simp)
  ·rw[aU _ _ _ ht]
   have e:(tmps.setIfInBounds p u).getD t undef=tmps.getD t undef:=by
    simp only[Array.getD_eq_getD_getElem?]
    rw[Array.getElem?_setIfInBounds_ne (fun h=>ht h.symm)]
   rw[e];exact hf t
theorem KT{wa wb:World}{m:Mem}{L:List Name}{φ:Name->Loc}{obj:Name->Option O}{l:Nat}{h h'}{φ1:Name->Loc}{m1:Mem}{σ1:S}{a1:Act}{w1 w2:World}
 (hC:aL (qJ wa m L φ obj (some l) h) φ1 m1 σ1 a1 w1) (db:wb.heap.size=wa.heap.size/\w2.heap.size=w1.heap.size) (ho:wb.os=w2.os/\wb.tape=w2.tape/\wb.output=w2.output)
 (hb:∀ b,b≠l->wb.heap[b]?=wa.heap[b]?) (h2:∀ b,b≠l->w2.heap[b]?=w1.heap[b]?) (hl:wb.heap[l]?=w2.heap[l]?):aL (qJ wb m L φ obj (some l) h') φ1 m1 σ1 a1 w2:=by
 obtain⟨I7,r,hr⟩:=h l rfl
 have ab:l<wa.heap.size:=(Array.getElem?_eq_some_iff.1 hr).1
 have dq:w1.heap[l]?=some (.loop r):=(hC.fr.block l ab I7).trans hr
 constructor
 ·exact hC.tmps
 ·exact hC.size
 ·obtain⟨ds,k1,k2,k3⟩:=hC.defers
  refine⟨ds,k1,k2,fun D hD=>?_⟩
  obtain⟨k4,k5⟩:=k3 D hD
  have aC:D≠l:=fun e=>by subst e;rw[dq]at k5;cases k5
  exact⟨by show wb.heap.size<=D;rw[db.1];exact k4,(h2 D aC).trans k5⟩
 ·intro nm o fJ
  refine(hC.objs nm o fJ).ext (Mem.le_refl _) (Ext.refl _ _) fun k1 k2=>h2 _ fun e=>?_
  rcases hC.own nm ⟨o,fJ,k1,k2⟩with h3 | h3
  ·have h4:wa.heap.size<=(φ1 nm).blk:=h3
   omega
  ·rw[e]at h3;exact I7 h3
 ·intro b off v hv
  have h3:=hC.mem b off v hv
  rw[pA (h2 b (fun e=>by subst e;unfold World.cell? at h3;simp[dq]at h3))]
  exact h3
 ·exact hC.apart
 ·exact hC.inj
 ·intro nm hh
  rcases hC.own nm hh with h3 | h3
  ·exact .inl (by show wb.heap.size<=_;rw[db.1];exact h3)
  ·exact .inr h3
 ·refine⟨ho.1.symm,ho.2.1.symm,ho.2.2.symm,by show wb.heap.size<=_;rw[db.1,db.2];exact hC.fr.size,fun b h3 h4=>?_⟩
  show w2.heap[b]?=wb.heap[b]?
  by_cases e:b=l
  ·subst e;exact hl.symm
  ·rw[h2 b e,hb b e]
   exact hC.fr.block b (by have:b<wb.heap.size:=h3;show b<wa.heap.size;omega) h4
 ·intro b off v hv
  rcases hC.fresh b off v hv with h3 | h3 | h3
  ·exact .inl h3
  ·exact .inr (.inl (by show wb.heap.size<=_;rw[db.1];exact h3))
  ·exact .inr (.inr h3)
 ·exact hC.kept
theorem La{L:List Name}{obj:Name->Option O}{nm:Name}{x:Option O}(h:nm∉L){y:Name}(hy:y∈L):cm L (upd obj nm x) y=cm L obj y:=by
 unfold cm
 rw[aU _ _ _ (by rintro rfl;exact h hy)]
theorem PQ{L:List Name}{obj:Name->Option O}{nm:Name}{x:Option O}(h:nm∉L):iM L (upd obj nm x)=iM L obj:=by
 rw[wR,wR]
 congr 1
 exact List.map_congr_left fun y hy=>La h hy
theorem Jv{L:List Name}{φ:Name->Loc}{obj:Name->Option O}{nm:Name}{x:Option O}(h:nm∉L):ow L φ (upd obj nm x)=ow L φ obj:=by
 funext b
 refine propext ⟨fun ⟨y,h1,⟨o,h2,h3⟩,h4⟩=>?_,fun ⟨y,h1,⟨o,h2,h3⟩,h4⟩=>?_⟩
 ·rw[aU _ _ _ (by rintro rfl;exact h h1)]at h2
  exact⟨y,h1,⟨o,h2,h3⟩,h4⟩
 ·exact⟨y,h1,⟨o,by rw[aU _ _ _ (by rintro rfl;exact h h1)];exact h2,h3⟩,h4⟩
theorem Vp{w:World}{m:Mem}{L:List Name}{φ:Name->Loc}{obj:Name->Option O}{nm:Name}{x:Option O}{rd:Option Nat}(h:nm∉L){h1}{h2}:qJ w m L φ (upd obj nm x) rd h1=qJ w m L φ obj rd h2:=by
 unfold qJ
 simp only[PQ h,Jv h]
theorem D0{P:Program}{y:YSpec}(h:∀ env ps asg body os ds,y.pre env ps asg body os ds->ds.length=ps.length->
 CW P asg ⟨env.length,oC (qM env) ps ds,aQ os,[0],0⟩ (FT fun σ1=>CW P body σ1 (Pd os (y.out env ps asg body os ds)))):aK P yid y.toSpec:=by
 refine⟨y.near,fun e=>(e rfl).elim,fun e=>(e rfl).elim,fun _ G φ m σ a w hC t nm ds us _ hl hr _ aa o Ub=>?_⟩
 simp only[YSpec.toSpec]at aa |-
 split at aa
 case h_2=>exact aa.elim
 rename_i env ps asg body au
 try simp only[au]
 obtain⟨aa,dr⟩:=aa
 simp only[Bool.and_eq_true,Bool.not_eq_true',decide_eq_true_eq]at aa
 obtain⟨⟨⟨⟨⟨iU,cb⟩,cD⟩,I'⟩,hlen⟩,fI⟩:=aa
 have eY:nm∉reach σ.obj (roots env ds):=fun h=>by rw[fG.2 h]at I';cases I'
 have b7:(reach σ.obj (roots env ds)).Nodup:=wE _ _ _ (by simp)
 obtain⟨_,dg,r,dq,fg,hr3,By,IW,IV,IU,IT⟩:=hC.objs nm _ au
 have ab:(φ nm).blk<w.heap.size:=(Array.getElem?_eq_some_iff.1 dq).1
 have qz:¬ ow (reach σ.obj (roots env ds)) φ σ.obj (φ nm).blk:=fun ⟨x,k1,k2,k3⟩=>eY (hC.inj _ _ k2 ⟨_,au,rfl,dg⟩ k3▸k1)
 have lT:r.params.size=ps.length:=by rw[<-By];simp
 intro next Q qs
 rw[Ub,run_yield dq (by omega),Oper.uponIn_round]
 refine⟨fun h=>(by simp[eZ,Fence.wide]at h),?_⟩
 rw[IW,IV]
 refine roundIn_of_wpIn trivial ?_
 have adm:=cb
 have Ut:∀ i (h:i<env.length),D.clos (cG (reach σ.obj (roots env ds))) env[i].d=true:=fun i hi=>by
  have :=gR (l:=roots env ds) (i:=i) (by simp[roots];omega) cb
  simp only[roots]at this |-
  rw[List.getElem_append_left (by simpa using hi)]at this
  simpa using this
 have JA:∀ i (h:i<ds.length),D.clos (cG (reach σ.obj (roots env ds))) ds[i]=true:=fun i hi=>by
  have :=gR (l:=roots env ds) (i:=env.length+i) (by simp[roots];omega) cb
  simp only[roots]at this |-
  rw[List.getElem_append_right (by simp)]at this
  simpa using this
 obtain⟨q1,q2⟩:=EB (φ:=lu (reach σ.obj (roots env ds)) φ) (obj:=iM (reach σ.obj (roots env ds)) σ.obj) (m:=m) (n:=env.length) ps (iD σ.obj env ds) us.toList (qM (gw σ.obj env ds)) r.tmps IU
  (by simp[iD,jq];omega) (by simp[iD,jq];omega) (fun p hp=>by have:=List.all_eq_true.1 fI p hp;simpa using this)
  (fun t=>by
    unfold qM
    by_cases ht:t<env.length
    ·have:=(IT t ht).renx (Mem.le_refl m) wD (Ut t ht)
     have e:(gw σ.obj env ds).getD t eAny=E.ren (cin (reach σ.obj (roots env ds))) env[t]:=by
      rw[List.getD_eq_getElem?_getD,List.getElem?_eq_getElem (by simpa[gw]using ht)];simp[gw]
     rw[e];exact this
    ·have e:(gw σ.obj env ds).getD t eAny=eAny:=by
       rw[List.getD_eq_getElem?_getD,List.getElem?_eq_none (by simp[gw];omega)];rfl
     rw[e];unfold ca eAny;simp;exact .any _)
  (fun i a b=>by
    simp only[iD,jq,List.length_map]at a
    have :=(hr i a (by simpa using b)).renx (Mem.le_refl m) wD (JA i a)
    simpa[iD,jq]using this)
 have jC:=J3 hC (L:=reach σ.obj (roots env ds)) b7 iU (rd:=some (φ nm).blk) (fun l e=>by cases e;exact⟨qz,r,dq⟩) (b0:=0) (nt:=env.length) q2 q1
 have l6:=h _ _ _ _ _ _ dr (by simp[iD,jq];omega)
 have T6:(r.params.zip us).foldl (fun tmps (p:Nat×Value)=>tmps.setIfInBounds p.1 p.2) r.tmps=(ps.zip us.toList).foldl (fun tmps (p:Nat×Value)=>tmps.setIfInBounds p.1 p.2) r.tmps:=by
  rw[<-By,<-Array.toList_zip,Array.foldl_toList]
 have nV:(gw σ.obj env ds).length=env.length:=by simp[gw]
 rw[nV]at l6
 rw[wR]at jC
 have T5:(r.params.zip us).foldl (fun tmps (x:Tmp×Value)=>match x with | (t,a)=>tmps.setIfInBounds t a) r.tmps=(ps.zip us.toList).foldl (fun tmps (p:Nat×Value)=>tmps.setIfInBounds p.1 p.2) r.tmps:=T6
 rw[T5]
 refine wpIn_mono (l6 _ _ m _ w jC) ?_
 rintro e a1 w1 ⟨φ1,m1,σ1,fh,hK⟩
 cases e with
 |normal=>
  have IX:w1.heap[(φ nm).blk]?=some (.loop r):=(fh.fr.block _ ab qz).trans dq
  have aI:=(Array.getElem?_eq_some_iff.1 IX).1
  refine⟨_,run_beginRound IX fg,?_⟩
  have eA:w1.os=w.os/\w1.tape=w.tape/\w1.output=w.output:=⟨fh.fr.os,fh.fr.tape,fh.fr.output⟩
  have eQ:=KT (wb:=w.putObj (φ nm).blk (.loop { r with state:=.busy })) (w2:=w1.putObj (φ nm).blk (.loop { r with state:=.busy }))
   (h':=fun l e=>by cases e;exact⟨qz,_,World.putObj_heap_same ab⟩) fh ⟨by simp,by simp⟩ ⟨eA.1.symm,eA.2.1.symm,eA.2.2.symm⟩
   (fun b hb=>World.putObj_heap_other hb) (fun b hb=>World.putObj_heap_other hb) (by rw[World.putObj_heap_same ab,World.putObj_heap_same aI])
  refine wpIn_mono (hK _ _ m1 _ _ eQ) ?_
  rintro e a3 w3 ⟨φ3,m3,σ3,qF,n7⟩
  have Bz:w3.heap[(φ nm).blk]?=some (.loop { r with state:=.busy }):=(qF.fr.block _ (by show _<(w.putObj _ _).heap.size;simpa using ab) qz).trans (World.putObj_heap_same ab)
  have mK:=(Array.getElem?_eq_some_iff.1 Bz).1
  have fin:∀ bz:Option Code,(y.o σ.obj env ps asg body ds).2=bz->fx (cg σ.obj (roots env ds)) (y.o σ.obj env ps asg body ds).1 σ3->
      ∃ v w',(Instr.endRound (φ nm).blk bz).run P w3=.ok v w'/\next (a.put o.dst v) w':=by
   intro bz he hE
   refine⟨_,_,run_endRound bz Bz,?_⟩
   generalize Tg:({ r with state:=.busy }:Loop)=rb at Bz |-
   let rf:Loop:={ r with state:=if bz.isNone then .ready else .done,pending:=bz }
   have Tf:({ rb with state:=if bz.isNone then .ready else .done,pending:=bz }:Loop)=rf:=by rw[<-Tg]
   rw[Tf]
   have JT:=KT (wb:=w.putObj (φ nm).blk (.loop rf)) (w2:=w3.putObj (φ nm).blk (.loop rf))
    (h':=fun l e=>by cases e;exact⟨qz,_,World.putObj_heap_same ab⟩) qF ⟨by simp,by simp⟩
    ⟨(show (w.putObj (φ nm).blk (.loop rf)).os=(w3.putObj (φ nm).blk (.loop rf)).os from qF.fr.os.symm),(show (w.putObj (φ nm).blk (.loop rf)).tape=(w3.putObj (φ nm).blk (.loop rf)).tape from qF.fr.tape.symm),(show (w.putObj (φ nm).blk (.loop rf)).output=(w3.putObj (φ nm).blk (.loop rf)).output from qF.fr.output.symm)⟩
    (fun b hb=>by rw[World.putObj_heap_other hb,World.putObj_heap_other hb]) (fun b hb=>World.putObj_heap_other hb) (by rw[World.putObj_heap_same ab,World.putObj_heap_same mK])
   have cf:aL G φ m { σ with obj:=upd σ.obj nm (some (.loop env ps asg body (if bz.isNone then .ready else .done) bz)) } a (w.putObj (φ nm).blk (.loop rf)):=by
    have :=hC.chg (w':=w.putObj (φ nm).blk (.loop rf)) nm (.loop env ps asg body (if bz.isNone then .ready else .done) bz) (φ nm) (Ext.same au rfl rfl) ⟨rfl,rfl,rfl,by simp⟩
     (fun b _ hb=>World.putObj_heap_other (by rcases hb with h | h; · rw[dg]at h;cases h
                                              ·exact h))
     (fun _=>.inr ⟨⟨_,au,rfl,dg⟩,rfl⟩) (by
       rw[fb]
       refine⟨by assumption,dg,rf,World.putObj_heap_same ab,rfl,rfl,By,IW,IV,IU,fun i hi=>(IT i hi).ext (Mem.le_refl m) ?_⟩
       have :=Ext.same (φ:=φ) (o':=.loop env ps asg body (if bz.isNone then .ready else .done) bz) au rfl rfl
       rwa [fb]at this)
    rwa [fb]at this
   have U3:shut (upd σ.obj nm (some (.loop env ps asg body (if bz.isNone then .ready else .done) bz))) (reach σ.obj (roots env ds))=true:=by
    rw[zN (obj:=σ.obj) fun x hx=>aU _ _ _ (by rintro rfl;exact eY hx)];exact iU
   have qB:(reach σ.obj (roots env ds)).map (cm (reach σ.obj (roots env ds)) (upd σ.obj nm (some (.loop env ps asg body (if bz.isNone then .ready else .done) bz))))=cg σ.obj (roots env ds):=
    List.map_congr_left fun x hx=>La eY hx
   have Cu:=Kq hE
   rw[<-qB]at Cu
   have xE:∀ x∈(y.o σ.obj env ps asg body ds).1.new,nm≠x.1++t:=fun x hx e=>by
    have :=List.all_eq_true.1 cD x hx
    rw[<-e,au]at this;cases this
   have T4:fresh (upd σ.obj nm (some (.loop env ps asg body (if bz.isNone then .ready else .done) bz))) t (y.o σ.obj env ps asg body ds).1.new=true:=by
    rw[ye (obj:=σ.obj) fun x hx=>by
     obtain⟨z,hz,rfl⟩:=List.mem_map.1 hx
     exact aU _ _ _ (xE z hz).symm]
    exact cD
   rw[<-Vp (x:=some (.loop env ps asg body (if bz.isNone then .ready else .done) bz)) eY (h1:=fun l e=>by
    cases e;rw[Jv eY];exact⟨qz,_,World.putObj_heap_same ab⟩)]at JT
   obtain⟨φ',m',k1,k2,k3,k4⟩:=J2 cf b7 U3 JT Cu T4
   refine qs _ φ' m' _ ?_ (.v _ _ ?_)
   ·have:(c9 (reach σ.obj (roots env ds)) t (y.o σ.obj env ps asg body ds).1.new (cj (reach σ.obj (roots env ds)) t (y.o σ.obj env ps asg body ds).1.upd (upd σ.obj nm (some (.loop env ps asg body (if bz.isNone then .ready else .done) bz)))))=
      upd (c9 (reach σ.obj (roots env ds)) t (y.o σ.obj env ps asg body ds).1.new (cj (reach σ.obj (roots env ds)) t (y.o σ.obj env ps asg body ds).1.upd σ.obj)) nm (some (.loop env ps asg body (if bz.isNone then .ready else .done) bz)):=by
      funext x
      have hu:((y.o σ.obj env ps asg body ds).1.upd.all fun x=>decide (x.1<(reach σ.obj (roots env ds)).length))=true:=List.all_eq_true.2 fun z hz=>by
       have :=List.all_eq_true.1 Cu.cu z hz
       simp only[Bool.and_eq_true,List.length_map]at this;exact this.2
      by_cases e:x=nm
      ·subst e
       rw[aM,tU _ _ xE,Ah _ _ hu eY,aM]
      ·rw[aU _ _ _ e]
       rw[pR (y.o σ.obj env ps asg body ds).1.new σ.obj (cj _ _ _ (upd _ _ _)) x,pR (y.o σ.obj env ps asg body ds).1.new σ.obj (cj _ _ _ σ.obj) x]
       by_cases h1:x∈(y.o σ.obj env ps asg body ds).1.new.map (fun x=>x.1++t)
       ·rw[if_pos h1,if_pos h1]
       ·rw[if_neg h1,if_neg h1]
        rw[rU (y.o σ.obj env ps asg body ds).1.upd σ.obj (upd _ _ _) x,rU (y.o σ.obj env ps asg body ds).1.upd σ.obj σ.obj x]
        by_cases h2:x∈(y.o σ.obj env ps asg body ds).1.upd.map (fun x=>(reach σ.obj (roots env ds)).getD x.1 [])
        ·rw[if_pos h2,if_pos h2]
        ·rw[if_neg h2,if_neg h2];exact aU _ _ _ e
    rw[this]at k2
    rw[he]
    exact k2
   ·rw[he];exact .bool _
  cases e with
  |normal=>exact fin none n7.1 n7.2
  |ret=>exact fin (some .ret) n7.1 n7.2
  |exit id=>exact fin (some (.exit id)) n7.1 n7.2
  |goto l=>exact n7.elim
  |panic ch=>exact n7.elim
  |outgrown=>exact n7.elim
 |ret=>exact hK.elim
 |exit id=>exact hK.elim
 |goto l=>exact hK.elim
 |panic ch=>exact hK.elim
 |outgrown=>exact hK.elim
theorem Wh{G:Ghost}{φ:Name->Loc}{m:Mem}{σ:S}{a:Act}{w:World}(hC:aL G φ m σ a w):
 aL G φ m σ { a with defers:=[{ target:=.collected w.heap.size,args:= #[] }]++a.defers } (w.alloc (.deferred (some []))):=by
 have hb:∀ b,b<w.heap.size->(w.alloc (.deferred (some []))).heap[b]?=w.heap[b]?:=fun b h=>RowKit.Below.heap_alloc w _ b h
 have h:=hC.imm (w':=w.alloc (.deferred (some []))) (Mem.le_refl m) ⟨rfl,rfl,rfl,by simp⟩ hb (fun _ _ _ h=>.inl h)
 refine⟨h.tmps,h.size,?_,h.objs,h.mem,h.apart,h.inj,h.own,h.fr,h.fresh,h.kept⟩
 obtain⟨ds,h1,h2,h3⟩:=h.defers
 have ab:∀ D∈ds,D<w.heap.size:=fun D hD=>by
  obtain⟨kW,k1,k2,k3⟩:=hC.defers
  have e:kW=ds:=by
   have :=k1.symm.trans h1
   have hi:Function.Injective (fun D:Nat=>({ target:=.collected D,args:= #[] }:Deferred)):=fun x y h=>by simpa using h
   exact(List.map_inj_right hi).1 this
  exact(Array.getElem?_eq_some_iff.1 (k3 D (e▸hD)).2).1
 refine⟨w.heap.size::ds,by rw[h1];rfl,List.nodup_cons.2 ⟨fun hm=>Nat.lt_irrefl _ (ab _ hm),h2⟩,fun D hD=>?_⟩
 rcases List.mem_cons.1 hD with rfl | hD
 ·exact⟨hC.fr.size,World.alloc_heap_new w _⟩
 ·exact h3 D hD
def lA(obj:Name->Option O)(nm:Name):Name->Option O:=upd obj nm (match obj nm with
 |some (.loop env ps asg body _ bz)=>some (.loop env ps asg body .exhausted bz)
 |o=>o)
def oS(K:Exit->S->Prop)(obj:Name->Option O)(nm:Name)(σ:S):Prop:=match obj nm with
 |some (.loop _ _ _ _ .busy _)=>False
 |some (.loop _ _ _ _ _ none)=>K .normal σ
 |some (.loop _ _ _ _ _ (some .ret))=>K .ret σ
 |some (.loop _ _ _ _ _ (some (.exit id)))=>K (.exit id) σ
 |_=>False
theorem KN{P:Program}{Γ:FuncId->Option Spec}(hΓ:∀ f s,Γ f=some s->aK P f s){g:Operand}{ps:Array Tmp}{asg body:Code}{σ:S}{K:Exit->S->Prop}(k k':Nat){f:FuncId}{s:Spec}
 (hc:cE σ g=true) (eP:fy (ao σ g)=some f) (aC:f≠yid) (hs:Γ f=some s) (qt:σ.obj (k::σ.pre)=none)
 (aa:(s.app (upd σ.obj (k::σ.pre) (some (.loop ((List.range σ.nt).map σ.env) ps.toList asg body .ready none))) (k'::σ.pre) (er (ao σ g) [.yld (k::σ.pre)])).ok)
 (hK:oS K (s.app (upd σ.obj (k::σ.pre) (some (.loop ((List.range σ.nt).map σ.env) ps.toList asg body .ready none))) (k'::σ.pre) (er (ao σ g) [.yld (k::σ.pre)])).obj (k::σ.pre)
   { σ with obj:=lA (s.app (upd σ.obj (k::σ.pre) (some (.loop ((List.range σ.nt).map σ.env) ps.toList asg body .ready none))) (k'::σ.pre) (er (ao σ g) [.yld (k::σ.pre)])).obj (k::σ.pre) }):
 CW P (.rangeFunc g ps asg body) σ K:=by
 intro G φ m a w hC
 generalize au:k::σ.pre=nm at *
 generalize BI:upd σ.obj nm (some (.loop ((List.range σ.nt).map σ.env) ps.toList asg body .ready none))=oJ at *
 generalize hR:s.app oJ (k'::σ.pre) (er (ao σ g) [.yld nm])=R at *
 have xL:=b8 hC hc
 obtain⟨us,vs,fs,cs,hu,nZ,e1,e2,dq,fg⟩:∃ (us vs:Array Value) (fs cs:List D),a.eval g=.func (.func f) us vs/\(∀ args,er (ao σ g) args=fs++args++cs)/\fs.length=us.size/\cs.length=vs.size/\
  (∀ i (h:i<fs.length) (h':i<us.size),aA φ σ.obj m fs[i] us[i])/\(∀ i (h:i<cs.length) (h':i<vs.size),aA φ σ.obj m cs[i] vs[i]):=by
  generalize a.eval g=u at *
  generalize ao σ g=d at *
  unfold fy at eP
  split at eP
  ·rename_i f' fs cs
   split at eP
   ·cases eP
   cases eP
   cases xL with
   |v _ _ xL=>
   cases xL with
   |clo _ _ _ us vs e1 e2 h1 h2=>
   exact⟨us,vs,fs.map .v,cs.map .v,rfl,fun _=>rfl,by simpa using e1,by simpa using e2,fun i a b=>by simpa using .v _ _ (h1 i (by simpa using a) b),fun i a b=>by simpa using .v _ _ (h2 i (by simpa using a) b)⟩
  ·rename_i f' fs cs
   split at eP
   ·cases eP
   cases eP
   cases xL with
   |clo _ _ _ us vs e1 e2 h1 h2=>exact⟨us,vs,fs,cs,rfl,fun _=>rfl,e1,e2,h1,h2⟩
  ·cases eP;exact(aC rfl).elim
  ·cases eP
 refine wpIn_rangeFunc fun fn _=>?_
 have main:∀ (W:World) (a':Act) (D:Nat),aL G φ m σ a' W->a'.tmps=a.tmps->
     ∃ (d:Deferred) (rA:World) (f':FuncId) (args:Array Value) (w₂:World),
     (resolve a.eval (rangeCall g W.heap.size) 0).run P (W.alloc (.loop { state:=.ready,pending:=none,fn,tmps:=a.tmps,params:=ps,assign:=asg,body,defers:=D }))=.ok d rA/\
     (invoke d.target d.args).run P rA=.ok (.enter f' args) w₂/\
     CallsIn (eZ G.rd) (0-1) P f' args w₂ (rangePost (eZ G.rd) 0 P W.heap.size (fun e a' w'=>∃ φ' m' σ',aL G φ' m' σ' a' w'/\K e σ') a'):=by
  intro W a' D fh aw
  obtain⟨r,lP⟩:∃ r:Loop,r={ state:=.ready,pending:=none,fn,tmps:=a.tmps,params:=ps,assign:=asg,body,defers:=D }:=⟨_,rfl⟩
  rw[<-lP]
  have hx:=Ext.new (φ:=φ) qt ⟨W.heap.size,0,0,false,none⟩ (.loop ((List.range σ.nt).map σ.env) ps.toList asg body .ready none)
  have eQ:=fh.chg (w':=W.alloc (.loop r)) nm (.loop ((List.range σ.nt).map σ.env) ps.toList asg body .ready none) ⟨W.heap.size,0,0,false,none⟩ hx ⟨rfl,rfl,rfl,by simp⟩
   (fun b hb _=>RowKit.Below.heap_alloc W _ b hb) (fun _=>.inl (Nat.le_refl _)) ⟨rfl,rfl,r,World.alloc_heap_new W _,by rw[lP],by rw[lP],by rw[lP],by rw[lP],by rw[lP],by
     rw[lP]
     show a.tmps.size=_
     rw[<-aw,fh.size];simp,fun i hi=>by
     simp only[List.getElem_map,List.getElem_range]
     rw[lP]
     show ca _ _ m _ (a.tmps.getD i undef)
     rw[<-aw]
     exact(fh.tmps i).ext (Mem.le_refl m) hx⟩
  rw[BI]at eQ hx
  refine⟨{ target:=.fn (.func f) vs,args:=us++ #[.func (.yield W.heap.size) #[] #[]] },W.alloc (.loop r),f,us++ #[.func (.yield W.heap.size) #[] #[]]++vs,W.alloc (.loop r),?_,?_,?_⟩
  ·have hy:a.eval (.const (.func (.yield W.heap.size) #[] #[]))=.func (.yield W.heap.size) #[] #[]:=rfl
   simp[resolve,Deferred.ofValue,hu,hy]
  ·simp[invoke,(hΓ f s hs).enter aC]
  ·refine Kf ?_
   have nW:=(hΓ f s hs).calls aC G (upd φ nm ⟨W.heap.size,0,0,false,none⟩) m { σ with obj:=oJ } a' (W.alloc (.loop r)) eQ (k'::σ.pre) (er (ao σ g) [.yld nm]) (us++ #[.func (.yield W.heap.size) #[] #[]]++vs) ⟨k',rfl⟩
   refine(nW ?_ ?_ ?_).mono ?_
   ·rw[nZ];simp only[List.length_append,List.length_singleton,Array.size_append,e1,e2];rfl
   ·intro i h1 h2
    simp only[nZ]
    have xm:aA (upd φ nm ⟨W.heap.size,0,0,false,none⟩) oJ m (.yld nm) (.func (.yield W.heap.size) #[] #[]):=by
     have :=aA.yld (φ:=upd φ nm ⟨W.heap.size,0,0,false,none⟩) (obj:=oJ) (m:=m) nm ⟨_,by rw[<-BI,aM],rfl⟩
     rwa [aM]at this
    simp only[nZ,List.length_append,List.length_singleton]at h1
    by_cases k1:i<fs.length
    ·have q1:i<us.size:=by omega
     simp only[List.append_assoc,Array.append_assoc]
     rw[List.getElem_append_left k1,Array.getElem_append_left q1]
     exact(dq i k1 q1).ext (Mem.le_refl m) hx
    ·by_cases k2:i=fs.length
     ·subst k2
      simp only[List.append_assoc,Array.append_assoc]
      rw[List.getElem_append_right (by omega),Array.getElem_append_right (by omega)]
      simp only[Nat.sub_self,e1,List.cons_append,List.getElem_cons_zero]
      rw[Array.getElem_append_left (by simp)]
      simpa using xm
     ·rw[List.getElem_append_right (by simp;omega),Array.getElem_append_right (by simp;omega)]
      have :=(fg (i-(fs.length+1)) (by omega) (by omega)).ext (Mem.le_refl m) hx
      simp only[List.length_append,List.length_singleton,Array.size_append,<-e1]
      exact this
   ·show (s.app oJ _ _).ok
    rw[hR];exact aa
   ·rintro e w3 ⟨v,φ',m',rfl,qF,_,SW⟩
    have h9:s.app oJ (k'::σ.pre) (er (ao σ g) [.yld nm])=R:=hR
    have JU:aL G φ' m' { σ with obj:=R.obj } a' w3:=by rw[<-h9];exact qF
    have SV:Ext (upd φ nm ⟨W.heap.size,0,0,false,none⟩) φ' oJ R.obj:=by rw[<-h9];exact SW
    have Tr:oJ nm=some (.loop ((List.range σ.nt).map σ.env) ps.toList asg body .ready none):=by rw[<-BI,aM]
    have BT:φ' nm=⟨W.heap.size,0,0,false,none⟩:=by
     obtain⟨o',k1,k2⟩:=SV nm _ Tr
     rcases k2 with⟨_,k2,_⟩ | ⟨n,n',k2,_⟩
     ·rw[k2,aM]
     ·cases k2
    unfold oS at hK
    have step:∀ {fX:List E} {fP:List Nat} {a1 b1:Code} {st:LoopState} {bz:Option Code},R.obj nm=some (.loop fX fP a1 b1 st bz)->st≠ .busy->
        ∃ w4,(Instr.endLoop W.heap.size).run P w3=.ok bz w4/\aL G φ' m' { σ with obj:=lA R.obj nm } a' w4:=by
     intro fX fP a1 b1 st bz ho cH
     obtain⟨q0,q1,r',q2,q3,q4,q5,q6,q7,q8,q9⟩:=JU.objs nm _ ho
     rw[BT]at q2
     have Ju:(Instr.endLoop W.heap.size).run P w3=.ok bz (w3.putObj W.heap.size (.loop { r' with state:=.exhausted })):=by
      rw[run_endLoop (P:=P) q2 (by rw[q3];exact cH),q4]
     refine⟨_,Ju,?_⟩
     have ab:=(Array.getElem?_eq_some_iff.1 q2).1
     have qm:lA R.obj nm=upd R.obj nm (some (.loop fX fP a1 b1 .exhausted bz)):=by unfold lA;rw[ho]
     rw[qm]
     have :=JU.chg (w':=w3.putObj W.heap.size (.loop { r' with state:=.exhausted })) nm (.loop fX fP a1 b1 .exhausted bz) (φ' nm) (Ext.same ho rfl rfl) ⟨rfl,rfl,rfl,by simp⟩
      (fun b _ hb=>World.putObj_heap_other (by
        rcases hb with h | h
        ·rw[q1]at h;cases h
        ·rw[BT]at h;exact h))
      (fun _=>.inr ⟨⟨_,ho,rfl,q1⟩,rfl⟩) (by
        rw[fb]
        refine⟨q0,q1,{ r' with state:=.exhausted },by rw[BT];exact World.putObj_heap_same ab,rfl,q4,q5,q6,q7,q8,fun i hi=>(q9 i hi).ext (Mem.le_refl _) ?_⟩
        have :=Ext.same (φ:=φ') (o':=.loop fX fP a1 b1 .exhausted bz) ho rfl rfl
        rwa [fb]at this)
     rw[fb]at this
     exact this
    rcases ho:R.obj nm with _ | o
    ·rw[ho]at hK;exact hK.elim
    rw[ho]at hK
    cases o with
    |loop fX fP a1 b1 st bz=>
     have cH:st≠ .busy:=by rintro rfl;exact hK.elim
     obtain⟨w4,h1,h2⟩:=step ho cH
     refine⟨bz,w4,h1,?_⟩
     cases bz with
     |none=>
      refine⟨φ',m',_,h2,?_⟩
      cases st<;>first | exact hK | exact(cH rfl).elim
     |some c=>
      cases c with
      |ret=>exact wpIn_ret ⟨φ',m',_,h2,by cases st<;>first | exact hK | exact(cH rfl).elim⟩
      |exit id=>exact wpIn_exit ⟨φ',m',_,h2,by cases st<;>first | exact hK | exact(cH rfl).elim⟩
      |_=>exfalso;cases st<;>first | exact hK | exact(cH rfl).elim
    |_=>exact hK.elim
 cases lS:G.rd with
 |none=>
  obtain⟨d,rA,f',args,w₂,h1,h2,h3⟩:=main (w.alloc (.deferred (some []))) _ w.heap.size (Wh hC) rfl
  rw[lS]at h3
  have db:(w.alloc (.deferred (some []))).heap.size=w.heap.size+1:=by simp
  rw[db]at h1 h3
  exact⟨w.heap.size+1,[{ target:=.collected w.heap.size,args:= #[] }],_,d,rA,f',args,w₂,run_enterLoop_outer _ _ _ _ _,h1,fun _ _=>trivial,h2,fun h=>(by simp[eZ,Fence.wide]at h),h3⟩
 |some l=>
  obtain⟨fJ,r0,IY⟩:=G.rdok l lS
  have Ti:w.heap[l]?=some (.loop r0):=(hC.fr.block l (Array.getElem?_eq_some_iff.1 IY).1 fJ).trans IY
  obtain⟨d,rA,f',args,w₂,h1,h2,h3⟩:=main w a r0.defers hC rfl
  rw[lS]at h3
  exact⟨w.heap.size,[],_,d,rA,f',args,w₂,run_enterLoop_inner Ti _ _ _ _ _,h1,fun _ _=>trivial,h2,fun h=>(by simp[eZ,Fence.wide]at h),h3⟩
theorem WG{P:Program}{Γ:FuncId->Option Spec}(hΓ:∀ f s,Γ f=some s->aK P f s){g:Operand}{ps:Array Tmp}{asg body:Code}{σ:S}{r:List Code}{K:Exit->S->Prop}(k k':Nat){f:FuncId}{s:Spec}
 (hc:cE σ g=true) (eP:fy (ao σ g)=some f) (aC:f≠yid) (hs:Γ f=some s) (qt:σ.obj (k::σ.pre)=none)
 (aa:(s.app (upd σ.obj (k::σ.pre) (some (.loop ((List.range σ.nt).map σ.env) ps.toList asg body .ready none))) (k'::σ.pre) (er (ao σ g) [.yld (k::σ.pre)])).ok)
 (hK:oS (iE (fun σ'=>CL P r σ' K) K) (s.app (upd σ.obj (k::σ.pre) (some (.loop ((List.range σ.nt).map σ.env) ps.toList asg body .ready none))) (k'::σ.pre) (er (ao σ g) [.yld (k::σ.pre)])).obj (k::σ.pre)
   { σ with obj:=lA (s.app (upd σ.obj (k::σ.pre) (some (.loop ((List.range σ.nt).map σ.env) ps.toList asg body .ready none))) (k'::σ.pre) (er (ao σ g) [.yld (k::σ.pre)])).obj (k::σ.pre) }):
 CL P (.rangeFunc g ps asg body::r) σ K:=KN hΓ k k' hc eP aC hs qt aa hK
theorem dG.refl(σ:S):dG σ σ:=fun _ φ _ _ _ hC=>⟨φ,hC⟩
theorem dG.trans{a b c:S}(h:dG a b)(k:dG b c):dG a c:=fun G φ m x w hC=>by
 obtain⟨φ',h'⟩:=h G φ m x w hC
 exact k G φ' m x w h'
theorem bu{σ τ:S}(ks:List Nat)(ns:List Name)(h:gp ks ns σ)(he:gJ ks ns σ=τ):dG σ τ:=he▸zw ks ns h
def nu(l c:List (Nat×E)):List (Nat×E):=l.map fun q=>(q.1,(c.lookup q.1).getD q.2)
def np(l c:List (Name×O)):List (Name×O):=l.map fun q=>(q.1,(c.lookup q.1).getD q.2)
theorem eo{P:Program}{c:Code}{r:List Code}{σ:S}{K:Exit->S->Prop}(ks:List Nat)(ns:List Name)(h:gp ks ns σ)(hc:CL P (c::r) (gJ ks ns σ) K):CL P (c::r) σ K:=
 s5 (zw ks ns h) hc
theorem cM{P:Program}{c:Code}{r:List Code}{K:Exit->S->Prop}{nt:Nat}{p:Name}{H:Name->Option O}{l:List (Nat×E)}{h:List (Name×O)}{ι:Type}
 (chg:ι->List (Nat×E)) (nC:ι->List (Name×O)) (R:ι->Prop) (μ:ι->Nat) (i0:ι) (hR:R i0) (he:nu l (chg i0)=l) (ho:np h (nC i0)=h)
 (round:∀ i,R i->CL P [c] (bb nt p H (nu l (chg i)) (np h (nC i))) (iE (fun σ'=>∃ i',R i'/\μ i'<μ i/\dG σ' (bb nt p H (nu l (chg i')) (np h (nC i')))) K)):
 CL P (.loop c::r) (bb nt p H l h) K:=by
 refine Dc (fun i=>bb nt p H (nu l (chg i)) (np h (nC i))) R μ i0 hR ?_ round
 rw[he,ho]
 exact .refl _
theorem KY{P:Program}{c:Code}{r:List Code}{K:Exit->S->Prop}{nt:Nat}{p:Name}{H:Name->Option O}{l:List (Nat×E)}{h:List (Name×O)}{ι:Type}
 (Hc:ι->Name->Option O) (chg:ι->List (Nat×E)) (nC:ι->List (Name×O)) (R:ι->Prop) (μ:ι->Nat) (i0:ι) (hR:R i0) (hH:bb nt p (Hc i0) l h=bb nt p H l h) (he:nu l (chg i0)=l) (ho:np h (nC i0)=h)
 (round:∀ i,R i->CL P [c] (bb nt p (Hc i) (nu l (chg i)) (np h (nC i))) (iE (fun σ'=>∃ i',R i'/\μ i'<μ i/\dG σ' (bb nt p (Hc i') (nu l (chg i')) (np h (nC i')))) K)):
 CL P (.loop c::r) (bb nt p H l h) K:=by
 refine Dc (fun i=>bb nt p (Hc i) (nu l (chg i)) (np h (nC i))) R μ i0 hR ?_ round
 rw[he,ho,hH]
 exact .refl _
attribute [go_sem] nu np List.lookup_cons List.lookup_nil List.getElem?_toArray List.getElem?_cons_succ List.getElem?_cons_zero beq_true beq_false ite_self Bool.and_self Bool.or_self imp_self Bool.if_true_right Bool.if_false_right Bool.if_true_left Bool.if_false_left Bool.decide_eq_true
attribute [go_sem] tR fx pU tY distinct eu cS cQ cY aQ Bool.and_eq_true
def eH(a b:Nat):Bool:=Nat.ble a b
def fR(a b:Nat):Bool:=Nat.ble (a+1) b
def cA(a b:Nat):Bool:=Nat.beq a b
def de(a b:Int):Bool:=match b-a with
 | .ofNat _=>true
 | .negSucc _=>false
def jv(a b:Int):Bool:=match b-a-1 with
 | .ofNat _=>true
 | .negSucc _=>false
def sc{α:Type}:Option α->Bool
 |none=>true
 |some _=>false
def nD:Option Nat->Nat->Bool
 |some a,b=>Nat.beq a b
 |none,_=>false
def tj(sz:Nat):List V->Bool
 |[]=>true
 |x::r=>Nat.beq x.cells.length sz&&tj sz r
def tk(sz:Nat):List V->Bool
 |[]=>true
 |x::r=>Nat.beq x.cells.length sz&&x.okc&&tk sz r
def uy(a b:IntKind):Bool:=match a,b with
 | .i64,.i64=>true
 | .u8,.u8=>true
 | .u64,.u64=>true
 | .i32,.i32=>true
 | .u32,.u32=>true
 |_,_=>false
def Bf(P:Program)(T:TypeId):Bool:=match P.underlying T with
 |some .bool=>true
 |_=>false
def isEq:BinOp->Bool
 | .eql=>true
 | .neq=>true
 |_=>false
def qa:Int->Bool
 | .ofNat 0=>true
 |_=>false
theorem pX{a b:Nat}(h:eH a b=true):a<=b:=Nat.le_of_ble_eq_true h
theorem wX{a b:Nat}(h:fR a b=true):a<b:=Nat.le_of_ble_eq_true h
theorem js{a b:Nat}(h:cA a b=true):a=b:=Nat.eq_of_beq_eq_true h
theorem fH{a b:Int}(h:de a b=true):a<=b:=by
 unfold de at h
 split at h
 ·rename_i n hn
  have :(0:Int)<=b-a:=by rw[hn];exact Int.natCast_nonneg n
  omega
 ·cases h
theorem SK{a b:Int}(h:jv a b=true):a<b:=by
 unfold jv at h
 split at h
 ·rename_i n hn
  have :(0:Int)<=b-a-1:=by rw[hn];exact Int.natCast_nonneg n
  omega
 ·cases h
theorem wS{α:Type}{o:Option α}(h:sc o=true):o=none:=by cases o<;>simp_all[sc]
theorem oK{o:Option Nat}{b:Nat}(h:nD o b=true):o=some b:=by
 cases o with
 |none=>cases h
 |some a=>rw[Nat.eq_of_beq_eq_true h]
theorem za{sz:Nat}:∀ {l:List V},tj sz l=true->∀ x∈l,x.cells.length=sz
 |y::r,h,x,hx=>by
  simp only[tj,Bool.and_eq_true]at h
  rcases List.mem_cons.1 hx with rfl | hx
  ·exact Nat.eq_of_beq_eq_true h.1
  ·exact za h.2 x hx
theorem zb{sz:Nat}:∀ {l:List V},tk sz l=true->∀ x∈l,x.cells.length=sz/\x.okc=true
 |y::r,h,x,hx=>by
  simp only[tk,Bool.and_eq_true]at h
  rcases List.mem_cons.1 hx with rfl | hx
  ·exact⟨Nat.eq_of_beq_eq_true h.1.1,h.1.2⟩
  ·exact zb h.2 x hx
theorem Il{a b:IntKind}(h:uy a b=true):a=b:=by unfold uy at h;split at h<;>first | rfl | cases h
theorem SE{P:Program}{T:TypeId}(h:Bf P T=true):P.underlying T=some .bool:=by unfold Bf at h;split at h<;>first | assumption | cases h
theorem xf{op:BinOp}(h:isEq op=true):op=.eql\/op=.neq:=by cases op<;>first | exact .inl rfl | exact .inr rfl | cases h
theorem SB{n:Int}(h:qa n=false):n≠0:=by rintro rfl;cases h
section
variable (P:Program) (obj:Name->Option O)
def vF(T:TypeId)(x:D):Bool:=
 match aY P T with
 |none=>false
 |some (ag,n)=>match x with
  | .v (.ptr cs)=>match ag with
    |true=>eH n cs.length
    |false=>cA n 1&&fR 0 cs.length
  | .ref nm off=>match obj nm with
    |some (.box cs)=>match ag with
     |true=>eH (off+n) cs.length
     |false=>cA n 1&&fR off cs.length
    |some (.fbox cs)=>match ag with
     |true=>eH (off+n) cs.length
     |false=>cA n 1&&fR off cs.length
    |_=>false
  | .aref nm k i off=>match obj nm with
    |some (.arr _ l)=>cA k l.length&&fR i l.length&&(match ag with
     |true=>eH (off+n) (l.getD i default).cells.length
     |false=>cA n 1&&fR off (l.getD i default).cells.length)
    |some (.farr _ l)=>cA k l.length&&fR i l.length&&(match ag with
     |true=>eH (off+n) (l.getD i default).cells.length
     |false=>cA n 1&&fR off (l.getD i default).cells.length)
    |_=>false
  |_=>false
def yS(T:TypeId)(f:Nat)(x:D):Bool:=
 match bH P T f with
 |none=>false
 |some (off,n,_)=>!cA n 0&&match x with
  | .v (.ptr cs)=>eH (off+n) cs.length
  | .ref _ _=>true
  | .aref nm k _ _=>match obj nm with
    |some o=>nD o.len? k
    |none=>false
  |_=>false
def yQ(T:TypeId)(x i:D):Bool:=
 match i with
 | .v (.int _ n)=>match x with
   | .v (.sl l)=>match bR P T with
     |some (_,sz,_)=>de 0 n&&jv n l.length&&cA (l.getD n.toNat default).cells.length sz
     |none=>false
   | .msl nm k=>match bR P T with
     |some (_,sz,_)=>match obj nm with
      |some (.arr s l)=>de 0 n&&jv n l.length&&cA k l.length&&cA s sz
      |some (.farr s l)=>de 0 n&&jv n l.length&&cA k l.length&&cA s sz
      |_=>false
     |none=>false
   | .ref _ _=>match jj P T with
     |some (len,_,_)=>de 0 n&&jv n len
     |none=>false
   | .v (.ptr cs)=>match jj P T with
     |some (len,sz,_)=>de 0 n&&jv n len&&eH (n.toNat*sz+sz) cs.length
     |none=>false
   |_=>false
 |_=>false
def Lx(op:BinOp)(k k':IntKind)(b:Int):Bool:=
 match op with
 | .quo=>uy k k'&&!qa b
 | .rem=>uy k k'&&!qa b
 | .shl=>de 0 b
 | .shr=>de 0 b
 |_=>uy k k'
def Lm(op:BinOp)(a b:ByteArray):Bool:=
 match op with
 | .add=>eH (a.size+b.size) maxLen
 | .eql | .neq | .lss | .leq | .gtr | .geq=>true
 |_=>false
def Dv(op:BinOp)(T:TypeId)(x y:D):Bool:=
 match x,y with
 | .v (.int k _),.v (.int k' b)=>Lx op k k' b
 | .v (.str a),.v (.str b)=>Lm op a b
 | .v (.bool _),.v (.bool _)=>Bf P T&&isEq op
 |_,_=>false
def Dq(op:BinOp)(T:TypeId)(x y:V):Bool:=
 match gP P Op.maxDepth T x y with
 |some _=>!(P.eqGuardType P.depth T)&&isEq op
 |none=>false
def Dn(op:BinOp)(T:TypeId)(x:D):Bool:=
 match x with
 | .v (.sl (_::_))=>nD (cZ P T) 0&&isEq op
 | .msl nm (k+1)=>(match obj nm with | some o=>nD o.len? (k+1) | none=>false)&&nD (cZ P T) 0&&isEq op
 |_=>false
def yY(op:BinOp)(T:TypeId)(x y:D)(jV:Bool):Bool:=
 match jV with
 |true=>Dn P obj op T x
 |false=>match dO x,dO y with
  |some (.agg a),some (.agg b)=>Dq P op T (.agg a) (.agg b)
  |_,_=>Dv P op T x y
def yF(op:UnOp)(x:D):Bool:=
 match op,x with
 | .not,.v (.bool _)=>true
 | .neg,.v (.int _ _)=>true
 |_,_=>false
def yW(src dst:TypeId)(x:D):Bool:=
 match lz P dst,x with
 |some _,.v (.int _ _)=>(P.underlying src).isSome
 |_,_=>false
def yV(x:D)(i:Nat):Bool:=
 match x with
 | .tup l=>fR i l.length
 | .v (.tup l)=>fR i l.length
 |_=>false
def yJ(x:D):Bool:=
 match x with
 | .ref _ _=>true
 | .v (.ptr _)=>true
 | .aref nm k _ _=>match obj nm with
   |some o=>nD o.len? k
   |none=>false
 |_=>false
def vH(t:Name)(x:D):Bool:=sc (obj (aZ t))&&x.boxable
def y0(t:Name)(T:TypeId):Bool:=match a8 P T with
 |some z=>vH obj t (hJ z)
 |none=>false
def yX(T:TypeId)(parts:List (Nat×D)):Bool:=
 match gA P T,a8 P T with
 |some ps,some z=>match hJ z with
  | .agg cs=>match qK (fun i=>ps[i]?) cs parts with
    |some _=>true
    |none=>false
  |_=>false
 |_,_=>false
def yG(T:TypeId)(x d:D):Bool:=
 match aY P T with
 |none=>false
 |some (_,n)=>match x with
  | .ref nm off=>match obj nm with
    |some (.box cs)=>d.boxable&&cA d.cells.length n&&eH (off+n) cs.length
    |_=>false
  | .aref nm k i off=>match obj nm with
    |some (.arr sz l)=>match dO d with
     |some y=>cA k l.length&&fR i l.length&&cA y.cells.length n&&y.okc&&eH (off+n) sz&&!cA sz 0
     |none=>false
    |_=>false
  |_=>false
def yM(t:Name)(T:TypeId)(r:Option D):Bool:=
 match ji P T,r with
 |some _,none=>sc (obj (aZ t))
 |_,_=>false
def yL(t:Name)(T:TypeId)(l c:D):Bool:=
 match bR P T,l,c with
 |some (e,sz,by_),.v (.int _ n),.v (.int _ n')=>match (a8 P e).bind fun z=>dO (hJ z)with
  |some zv=>de n n'&&de n' n&&de 0 n&&de ((by_:Int)*n) 281474976710656&&de n 9223372036854775807&&cA zv.cells.length sz&&zv.okc&&!cA sz 0&&sc (obj (aZ t))
  |none=>false
 |_,_,_=>false
def yO(T:TypeId)(x:D):Bool:=
 match cZ P T,x with
 |some 0,.v (.sl _)=>true
 |some 0,.nilsl=>true
 |some 0,.msl nm k=>match obj nm with
  |some o=>nD o.len? k
  |none=>false
 |some 1,.v (.str _)=>true
 |some 2,.nilmap=>true
 |some 2,.map nm=>match obj nm with
  |some (.map _ _)=>true
  |_=>false
 |_,_=>false
def yH(T:TypeId)(x:D)(lo hi mx:Option D):Bool:=
 match mx with
 |none=>match x with
  | .v (.sl l)=>match bR P T,fF lo,jD l.length hi with
    |some (_,sz,_),some i,some j=>de 0 i&&de i j&&de j l.length&&tj sz l
    |_,_,_=>false
  | .nilsl=>match bR P T,fF lo,jD 0 hi with
    |some (_,_,_),some i,some j=>qa i&&qa j
    |_,_,_=>false
  | .msl nm k=>match obj nm,bR P T,fF lo,jD k hi with
    |some (.arr _ l),some (_,sz,_),some i,some j=>cA k l.length&&de 0 i&&de i j&&de j l.length&&tj sz l
    |some (.farr _ l),some (_,sz,_),some i,some j=>cA k l.length&&de 0 i&&de i j&&de j l.length&&tj sz l
    |_,_,_,_=>false
  | .v (.str s)=>match cZ P T,fF lo,jD s.size hi with
    |some 1,some i,some j=>de 0 i&&de i j&&de j s.size
    |_,_,_=>false
  |_=>false
 |some (.v (.int _ 0))=>match bR P T,fF lo,hi with
  |some _,some 0,some (.v (.int _ 0))=>match x with
   | .v (.sl _)=>true
   | .nilsl=>true
   | .msl nm k=>match obj nm with
     |some o=>nD o.len? k
     |none=>false
   |_=>false
  |_,_,_=>false
 |some _=>false
def yU(T:TypeId)(x:D)(f:Nat):Bool:=
 match bH P T f with
 |none=>false
 |some (off,n,ag)=>match x with
  | .agg l=>match ag with
    |true=>eH (off+n) l.length
    |false=>fR off l.length
  | .v (.agg l)=>match ag with
    |true=>eH (off+n) l.length
    |false=>fR off l.length
  |_=>false
def yR(T:TypeId)(x i:D):Bool:=
 match i with
 | .v (.int _ n)=>match x with
   | .v (.str s)=>nD (cZ P T) 1&&de 0 n&&jv n s.size
   | .agg l=>match jj P T with
     |some (len,sz,true)=>de 0 n&&jv n len&&eH (n.toNat*sz+sz) l.length
     |some (len,sz,false)=>de 0 n&&jv n len&&fR (n.toNat*sz) l.length
     |none=>false
   | .v (.agg l)=>match jj P T with
     |some (len,sz,true)=>de 0 n&&jv n len&&eH (n.toNat*sz+sz) l.length
     |some (len,sz,false)=>de 0 n&&jv n len&&fR (n.toNat*sz) l.length
     |none=>false
   |_=>false
 |_=>false
def yN(T:TypeId)(x k:D):Bool:=
 match ji P T with
 |some (kd,e)=>match (a8 P e).bind fun z=>dO (hJ z),dO k with
  |some _,some kv=>match x with
   | .nilmap=>eH kd 2&&dJ kd kv
   | .map nm=>match obj nm with
     |some (.map ju _)=>eH kd 2&&dJ kd kv&&cA ju kd
     |_=>false
   |_=>false
  |_,_=>false
 |none=>false
def vE(T:TypeId)(x k d:D):Bool:=
 match ji P T,x,dO k,dO d with
 |some (kd,_),.map nm,some kv,some _=>match obj nm with
  |some (.map ju _)=>eH kd 2&&dJ kd kv&&cA ju kd
  |_=>false
 |_,_,_,_=>false
def yI(c:D):Bool:=match c with
 | .v (.bool _)=>true
 |_=>false
def vD(x:D):Bool:=match x with
 | .v (.sl _)=>true
 | .nilsl=>true
 | .msl nm k=>match obj nm with
   |some (.arr _ l)=>cA k l.length
   |some (.farr _ l)=>cA k l.length
   |_=>false
 |_=>false
def yZ(t:Name)(T1 T2:TypeId)(s x:D):Bool:=
 match bR P T1,bR P T2 with
 |some (e,sz,by_),some _=>match a8 P e with
  |some z=>match s with
   | .nilsl=>vD obj x&&tk sz (aE obj x).2&&cA z.cells.size sz&&eH ((aE obj x).2.length*by_) 140737488355328&&eH (aE obj x).2.length maxLen&&sc (obj (aZ t))
   | .msl nm k=>match obj nm with
     |some (.arr s' l)=>vD obj x&&tk sz (aE obj x).2&&cA z.cells.size sz&&eH ((l.length+(aE obj x).2.length)*by_) 140737488355328&&
        eH (l.length+(aE obj x).2.length) maxLen&&cA k l.length&&cA s' sz
     |_=>false
   |_=>false
  |none=>false
 |_,_=>false
variable {P obj}
theorem oM{a b:Nat}:eH a b=true↔a<=b:=⟨pX,Nat.ble_eq_true_of_le⟩
theorem ub{a b:Nat}:fR a b=true↔a<b:=⟨wX,Nat.ble_eq_true_of_le⟩
theorem oN{a b:Nat}:cA a b=true↔a=b:=⟨js,fun h=>by subst h;simp[cA]⟩
theorem wY{a b:Nat}:cA a b=false↔a≠b:=by
 rw[<-Bool.not_eq_true,oN]
theorem IE{a b:Int}:de a b=true↔a<=b:=⟨fH,fun h=>by
 unfold de
 split
 ·rfl
 ·rename_i n hn;have:=Int.negSucc_lt_zero n;omega⟩
theorem ID{a b:Int}:jv a b=true↔a<b:=⟨SK,fun h=>by
 unfold jv
 split
 ·rfl
 ·rename_i n hn;have:=Int.negSucc_lt_zero n;omega⟩
theorem Iv{n:Int}:qa n=true↔n=0:=⟨fun h=>(by unfold qa at h;split at h<;>first | rfl | cases h),fun h=>(by subst h;rfl)⟩
theorem Dp{T:TypeId}{x:D}(h:vF P obj T x=true):(iz P obj T x).ok:=by
 unfold vF at h
 unfold iz
 (repeat' split at h)<;>simp_all[oM,ub,oN,-List.getD_eq_getElem?_getD]
theorem LC{T:TypeId}{f:Nat}{x:D}(h:yS P obj T f x=true):(kx P obj T f x).ok:=by
 unfold yS at h
 unfold kx
 split at h
 ·cases h
 ·simp only[Bool.and_eq_true,Bool.not_eq_true',wY]at h
  obtain⟨h1,h⟩:=h
  (repeat' split at h)<;>simp_all[oM]
  exact oK h
theorem LA{T:TypeId}{x i:D}(h:yQ P obj T x i=true):(ku P obj T x i).ok:=by
 unfold yQ at h
 unfold ku
 (repeat' split at h)<;>simp_all[oM,oN,IE,ID,-List.getD_eq_getElem?_getD]
theorem Xe{op:BinOp}{T:TypeId}{x y:D}(h:Dv P op T x y=true):(mj P obj op T x y).ok:=by
 unfold Dv at h
 unfold mj
 split at h
 ·simp only
  unfold Lx at h
  unfold yP
  cases op<;>simp only[Bool.and_eq_true,Bool.not_eq_true']at h |- <;>first
   |exact⟨Il h.1,SB h.2⟩
   |exact Il h
   |exact fH h
 ·simp only
  unfold Lm at h
  unfold vC
  cases op<;>simp only at h |- <;>first | exact pX h | trivial | (cases h;done)
 ·simp only[Bool.and_eq_true]at h
  exact⟨SE h.1,xf h.2⟩
 ·cases h
theorem Xa{op:BinOp}{T:TypeId}{x y:V}(h:Dq P op T x y=true):(iA P obj op T x y).ok:=by
 unfold Dq at h
 unfold iA
 split at h
 ·rename_i b hb
  simp only[Bool.and_eq_true,Bool.not_eq_true']at h
  rw[hb]
  exact⟨h.1,xf h.2⟩
 ·cases h
theorem W9{op:BinOp}{T:TypeId}{x:D}(h:Dn P obj op T x=true):(ou P obj op T x).ok:=by
 unfold Dn at h
 unfold ou
 split at h
 ·simp only[Bool.and_eq_true]at h
  exact⟨oK h.1,xf h.2⟩
 ·rename_i nm k
  simp only[Bool.and_eq_true]at h
  refine⟨?_,oK h.1.2,xf h.2⟩
  have h1:=h.1.1
  split at h1
  ·rename_i o ho;rw[ho];exact oK h1
  ·cases h1
 ·cases h
theorem LJ{op:BinOp}{T:TypeId}{x y:D}{n:Bool}(h:yY P obj op T x y n=true):(lq P obj op T x y n).ok:=by
 unfold yY at h
 unfold lq
 cases n with
 |true=>exact W9 h
 |false=>
  simp only at h |-
  split at h
  ·rename_i h1 h2
   simp only[h1,h2]
   exact Xa h
  ·rename_i aC
   split
   ·rename_i h1 h2;exact(aC _ _ h1 h2).elim
   ·exact Xe h
theorem Ll{op:UnOp}{x:D}(h:yF op x=true):(la obj op x).ok:=by
 unfold yF at h
 unfold la
 split at h<;>first | trivial | cases h
theorem LG{s d:TypeId}{x:D}(h:yW P s d x=true):(lj P obj s d x).ok:=by
 unfold yW at h
 unfold lj
 (repeat' split at h)<;>simp_all
theorem LD{x:D}{i:Nat}(h:yV x i=true):(lh obj x i).ok:=by
 unfold yV at h
 unfold lh
 split at h<;>simp_all[ub]
theorem Lr{x:D}(h:yJ obj x=true):(jL obj x).ok:=by
 unfold yJ at h
 unfold jL
 (repeat' split at h)<;>simp_all
 exact oK h
theorem Du{t:Name}{x:D}(h:vH obj t x=true):(ln obj t x).ok:=by
 simp only[vH,Bool.and_eq_true]at h
 exact⟨wS h.1,h.2⟩
theorem LL{t:Name}{T:TypeId}(h:y0 P obj t T=true):(mn P obj t T).ok:=by
 unfold y0 at h
 unfold mn
 split at h
 ·rename_i z hz;rw[hz];exact Du h
 ·cases h
theorem LH{T:TypeId}{ps:List (Nat×D)}(h:yX P T ps=true):(ll P obj T ps).ok:=by
 unfold yX at h
 unfold ll
 (repeat' split at h)<;>simp_all
theorem Ln{T:TypeId}{x d:D}(h:yG P obj T x d=true):(jK P obj T x d).ok:=by
 unfold yG at h
 unfold jK
 (repeat' split at h)<;>simp_all[oM,ub,oN,wY]
theorem Lu{t:Name}{T:TypeId}{r:Option D}(h:yM P obj t T r=true):(mi P obj t T r).ok:=by
 unfold yM at h
 unfold mi
 (repeat' split at h)<;>simp_all
 exact wS h
theorem Lt{t:Name}{T:TypeId}{l c:D}(h:yL P obj t T l c=true):(mh P obj t T l c).ok:=by
 unfold yL at h
 unfold mh
 split at h
 ·rename_i e sz by_ k n k' n' hT
  rw[hT]
  simp only
  split at h
  ·rename_i zv hz
   simp only[Bool.and_eq_true,Bool.not_eq_true',wY]at h
   obtain⟨⟨⟨⟨⟨⟨⟨⟨h1,h2⟩,h3⟩,h4⟩,h5⟩,h6⟩,h7⟩,h8⟩,h9⟩:=h
   rw[hz]
   exact⟨Int.le_antisymm (fH h2) (fH h1),fH h3,fH h4,fH h5,js h6,h7,h8,wS h9⟩
  ·cases h
 ·cases h
theorem Lw{T:TypeId}{x:D}(h:yO P obj T x=true):(jM P obj T x).ok:=by
 unfold yO at h
 unfold jM
 (repeat' split at h)<;>simp_all
 exact oK h
theorem Lo{T:TypeId}{x:D}{lo hi mx:Option D}(h:yH P obj T x lo hi mx=true):(jf P obj T x lo hi mx).ok:=by
 unfold yH at h
 unfold jf
 split at h
 ·split at h
  ·split at h
   ·rename_i h1 h2 h3
    simp only[Bool.and_eq_true]at h
    simp only[h1,h2,h3]
    exact⟨fH h.1.1.1,fH h.1.1.2,fH h.1.2,za h.2⟩
   ·cases h
  ·split at h
   ·rename_i h1 h2 h3
    simp only[Bool.and_eq_true]at h
    simp only[h1,h2,h3]
    exact⟨Iv.1 h.1,Iv.1 h.2⟩
   ·cases h
  ·split at h
   ·rename_i h1 h2 h3 h4
    simp only[Bool.and_eq_true]at h
    simp only[h1,h2,h3,h4]
    exact⟨js h.1.1.1.1,fH h.1.1.1.2,fH h.1.1.2,fH h.1.2,za h.2⟩
   ·rename_i h1 h2 h3 h4
    simp only[Bool.and_eq_true]at h
    simp only[h1,h2,h3,h4]
    exact⟨js h.1.1.1.1,fH h.1.1.1.2,fH h.1.1.2,fH h.1.2,za h.2⟩
   ·cases h
  ·split at h
   ·rename_i h1 h2 h3
    simp only[Bool.and_eq_true]at h
    simp only[h1,h2,h3]
    exact⟨fH h.1.1,fH h.1.2,fH h.2⟩
   ·cases h
  ·cases h
 ·split at h
  ·rename_i h1 h2 h3
   split at h
   ·simp only[h2,h3]
   ·simp only[h2,h3]
   ·split at h
    ·rename_i o ho
     simp only[h2,h3,ho]
     exact oK h
    ·cases h
   ·cases h
  ·cases h
 ·cases h
theorem LB{T:TypeId}{x:D}{f:Nat}(h:yU P T x f=true):(lg P obj T x f).ok:=by
 unfold yU at h
 unfold lg
 (repeat' split at h)<;>simp_all[oM,ub]
theorem Ly{T:TypeId}{x i:D}(h:yR P T x i=true):(lf P obj T x i).ok:=by
 unfold yR at h
 unfold lf
 (repeat' split at h)<;>simp_all[oM,ub,IE,ID]
 exact oK h.1.1
theorem Lv{T:TypeId}{x k:D}{c:Bool}(h:yN P obj T x k=true):(ld P obj T x k c).ok:=by
 unfold yN at h
 unfold ld
 (repeat' split at h)<;>simp_all[oM,oN]
theorem yK{T:TypeId}{x k d:D}(h:vE P obj T x k d=true):(jg P obj T x k d).ok:=by
 unfold vE at h
 unfold jg
 (repeat' split at h)<;>simp_all[oM,oN]
theorem Lq{c x y:D}(h:yI c=true):(iy obj c x y).ok:=by
 unfold yI at h
 unfold iy
 split at h<;>first | trivial | cases h
theorem Dm{x:D}(h:vD obj x=true):(aE obj x).1:=by
 unfold vD at h
 unfold aE
 (repeat' split at h)<;>simp_all[oN]
theorem LK{t:Name}{T1 T2:TypeId}{s x:D}(h:yZ P obj t T1 T2 s x=true):(dF P obj t T1 T2 s x).ok:=by
 unfold yZ at h
 unfold dF
 split at h
 ·rename_i e sz by_ p h1 h2
  split at h
  ·rename_i z hz
   split at h
   ·simp only[Bool.and_eq_true]at h
    simp only[h1,h2,hz]
    exact⟨Dm h.1.1.1.1.1,zb h.1.1.1.1.2,js h.1.1.1.2,pX h.1.1.2,pX h.1.2,wS h.2⟩
   ·split at h
    ·rename_i ho
     simp only[Bool.and_eq_true]at h
     simp only[h1,h2,hz,ho]
     exact⟨Dm h.1.1.1.1.1.1,zb h.1.1.1.1.1.2,js h.1.1.1.1.2,pX h.1.1.1.2,pX h.1.1.2,js h.1.2,js h.2⟩
    ·cases h
   ·cases h
  ·cases h
 ·cases h
end
def oa(f:(Name->Option O)->D->Bool)(g:(Name->Option O)->D->FR)(obj:Name->Option O):List D->Bool
 |[]=>true
 |d::r=>f obj d&&oa f g (g obj d).obj r
def jG:Nat->(Name->Option O)->D->Bool
 | 0,obj,d=>match d with
   | .v _=>true
   | .nilsl=>true
   |_=>false
 |n+1,obj,d=>match d with
  | .v _=>true
  | .nilsl=>true
  | .msl nm k=>match obj nm with
    |some (.arr _ l)=>decide (k=l.length)
    |some (.farr _ l)=>decide (k=l.length)
    |_=>false
  | .ref nm _=>match obj nm with
    |some (.box cs)=>oa (jG n) (aH n) obj cs&&!cG (dV (fp n obj) cs) nm
    |some (.fbox _)=>true
    |_=>false
  | .agg l=>oa (jG n) (aH n) obj l
  | .tup l=>oa (jG n) (aH n) obj l
  | .clo _ f c=>oa (jG n) (aH n) obj f&&oa (jG n) (aH n) (bf (aH n) obj f).obj c
  |_=>false
theorem Cz{n:Nat}(ih:∀ obj d,jG n obj d=true->(aH n obj d).ok):∀ (l:List D) (obj:Name->Option O),oa (jG n) (aH n) obj l=true->(bf (aH n) obj l).ok
 |[],_,_=>trivial
 |d::r,obj,h=>by
  simp only[oa,Bool.and_eq_true]at h
  exact⟨ih obj d h.1,Cz ih r _ h.2⟩
theorem J0:∀ (n:Nat) (obj:Name->Option O) (d:D),jG n obj d=true->(aH n obj d).ok
 | 0,obj,d,h=>by cases d<;>first | trivial | (simp[jG]at h)
 |n+1,obj,d,h=>by
  have ih:=Cz (J0 n)
  cases d with
  |v x=>trivial
  |nilsl=>trivial
  |msl nm k=>
   simp only[jG]at h
   unfold aH
   rcases ho:obj nm with _ | o
   ·simp[ho]at h
   ·cases o<;>simp[ho]at h |- <;>exact h
  |ref nm off=>
   simp only[jG]at h
   rcases ho:obj nm with _ | o
   ·simp[ho]at h
   ·cases o with
    |box cs=>
     simp only[ho,Bool.and_eq_true,Bool.not_eq_true']at h
     simp only[aH,ho]
     refine⟨ih cs obj h.1,?_⟩
     have :=(vm (yd n) cs obj obj (dV (fp n obj) cs) (fun _ hn=>hn) (fun _ _=>rfl)).2.frame nm (fun hn=>by rw[fG.2 hn]at h;cases h.2)
     rw[this,ho]
    |fbox cs=>simp only[aH,ho]
    |_=>simp[ho]at h
  |agg l=>exact ih l obj h
  |tup l=>exact ih l obj h
  |clo fn f c=>
   simp only[jG,Bool.and_eq_true]at h
   exact⟨ih f obj h.1,ih c _ h.2⟩
  |_=>simp[jG]at h
def isNil{α:Type}:List α->Bool
 |[]=>true
 |_=>false
theorem SC{α:Type}{l:List α}:isNil l=true↔l=[]:=by cases l<;>simp[isNil]
def xc:Nat->List Nat->Bool
 |_,[]=>true
 |k,x::r=>cA x k&&xc (k+1) r
theorem Iw:∀ {k:Nat} {l:List Nat},xc k l=true->l=List.range' k l.length
 |k,[],_=>rfl
 |k,x::r,h=>by
  simp only[xc,Bool.and_eq_true]at h
  rw[js h.1,List.length_cons,List.range'_succ]
  congr 1
  exact Iw h.2
def Dh(P:Program)(obj:Name->Option O)(T:TypeId)(n:Nat)(parts:List (Nat×D)):Bool:=
 match bR P T with
 |some (e,sz,_)=>match cA n 0&&isNil parts with
  |true=>(a8 P e).isSome
  |false=>oa (jG 4) (aH 4) obj (parts.map fun p=>p.2)&&xc 0 (parts.map fun p=>p.1)&&cA parts.length n&&tk sz (bf (aH 4) obj (parts.map fun p=>p.2)).xs&&
     eH (n*sz) 16777216&&!cA sz 0&&(a8 P e).isSome&&fR 0 n
 |none=>false
theorem WZ{P:Program}{obj:Name->Option O}{T:TypeId}{n:Nat}{parts:List (Nat×D)}(h:Dh P obj T n parts=true):(m6 P obj T n parts).ok:=by
 unfold Dh at h
 unfold m6
 split at h
 ·rename_i e sz by_ hT
  rw[hT]
  simp only
  split at h
  ·rename_i hc
   simp only[Bool.and_eq_true,oN,SC]at hc
   rw[if_pos hc];exact h
  ·rename_i hc
   have fW:¬ (n=0/\parts=[]):=by
    intro ⟨a,b⟩
    subst a;subst b
    cases hc
   rw[if_neg fW]
   simp only[Bool.and_eq_true,Bool.not_eq_true',wY]at h
   obtain⟨⟨⟨⟨⟨⟨⟨h1,h2⟩,po⟩,h3⟩,h4⟩,h5⟩,h6⟩,h7⟩:=h
   refine⟨?_,Cz (J0 4) _ _ h1,zb h3,pX h4,h5,h6,wX h7⟩
   have :=Iw h2
   rw[List.length_map,js po,<-List.range_eq_range']at this
   exact this
 ·cases h
def Dg(P:Program)(σ:S)(t:Name)(b:Builtin)(ts:List TypeId)(args:List D):Bool:=
 match b,ts,args with
 | .len,[T],[x]=>yO P σ.obj T x
 | .append,[T1,T2],[s,x]=>yZ P σ.obj t T1 T2 s x
 | .min,_,[.v (.int _ _),.v (.int _ _)]=>true
 | .max,_,[.v (.int _ _),.v (.int _ _)]=>true
 |_,_,_=>false
def FQ(P:Program)(σ:S)(t:Name):Op->Bool
 | .move _=>true
 | .assign _=>true
 | .pick c _ _=>yI (ao σ c)
 | .alloc T=>y0 P σ.obj t T
 | .box _ x=>vH σ.obj t (ao σ x)
 | .build T ps=>yX P T (ps.toList.map fun p=>(p.1,ao σ p.2))
 | .buildSlice T n ps=>Dh P σ.obj T n (ps.toList.map fun p=>(p.1,ao σ p.2))
 | .load T x=>vF P σ.obj T (ao σ x)
 | .store T x d=>yG P σ.obj T (ao σ x) (ao σ d)
 | .nilCheck x=>yJ σ.obj (ao σ x)
 | .binOp op T x y _=>yY P σ.obj op T (ao σ x) (ao σ y) (xd y)
 | .unOp op _ x=>yF op (ao σ x)
 | .convert s d x=>yW P s d (ao σ x)
 | .makeFunc _ _ _=>true
 | .makeMap T r=>yM P σ.obj t T (r.map (ao σ))
 | .makeSlice T l c=>yL P σ.obj t T (ao σ l) (ao σ c)
 | .slice T x lo hi mx=>yH P σ.obj T (ao σ x) (lo.map (ao σ)) (hi.map (ao σ)) (mx.map (ao σ))
 | .fieldAddr T x f=>yS P σ.obj T f (ao σ x)
 | .field T x f=>yU P T (ao σ x) f
 | .indexAddr T x i=>yQ P σ.obj T (ao σ x) (ao σ i)
 | .index T x i=>yR P T (ao σ x) (ao σ i)
 | .lookup T x i _=>yN P σ.obj T (ao σ x) (ao σ i)
 | .mapUpdate T x k d=>vE P σ.obj T (ao σ x) (ao σ k) (ao σ d)
 | .insert T x k d=>vE P σ.obj T (ao σ x) (ao σ k) (ao σ d)
 | .extract x i=>yV (ao σ x) i
 | .call ⟨.builtin b,args,ts⟩=>Dg P σ t b ts.toList (args.toList.map (ao σ))
 |_=>false
theorem WY{P:Program}{σ:S}{t:Name}{b:Builtin}{ts:List TypeId}{args:List D}(h:Dg P σ t b ts args=true):(lk P σ t b ts args).ok:=by
 unfold Dg at h
 split at h
 ·exact Lw h
 ·exact LK h
 ·trivial
 ·trivial
 ·cases h
theorem PG{P:Program}{Γ:FuncId->Option Spec}{σ:S}{t:Name}{op:Op}(h:FQ P σ t op=true):(aX P Γ σ t op).ok:=by
 cases op with
 |call c=>
  obtain⟨callee,args,ts⟩:=c
  cases callee with
  |value f=>cases h
  |builtin b=>exact WY h
  |invoke=>cases h
 |move=>trivial
 |assign=>trivial
 |makeFunc=>trivial
 |pick=>exact Lq h
 |alloc=>exact LL h
 |box=>exact Du h
 |build=>exact LH h
 |buildSlice=>exact WZ h
 |load=>exact Dp h
 |store=>exact Ln h
 |nilCheck=>exact Lr h
 |binOp=>exact LJ h
 |unOp=>exact Ll h
 |convert=>exact LG h
 |makeMap=>exact Lu h
 |makeSlice=>exact Lt h
 |slice=>exact Lo h
 |fieldAddr=>exact LC h
 |field=>exact LB h
 |indexAddr=>exact LA h
 |index=>exact Ly h
 |lookup=>exact Lv h
 |mapUpdate=>exact yK h
 |insert=>exact yK h
 |extract=>exact LD h
 |_=>cases h
def xh(o:Oper):Option (TypeId×Operand×Operand×Nat):=
 match o.op with
 | .slice T x (some lo) none none=>match o.guard,o.dst with
   |none,some c=>some (T,x,lo,c)
   |_,_=>none
 |_=>none
def xg(c:Nat)(o:Oper):Bool:=
 match o.op with
 | .call ⟨.builtin .clear,args,ts⟩=>match args.toList,ts.toList,o.guard,o.dst with
   |[.tmp c'],[_],none,none=>Nat.beq c' c
   |_,_,_,_=>false
 |_=>false
def mc(o:Oper):TypeId:=match o.op with
 | .call ⟨.builtin .clear,_,ts⟩=>ts.getD 0 0
 |_=>0
def ky(P:Program)(obj:Name->Option O)(T T2:TypeId)(x lo:D):R:=
 match x,lo,bR P T,bR P T2 with
 | .msl nm k,.v (.int _ i),some (e,sz,_),some (e2,_,_)=>match obj nm,(a8 P e).bind fun z=>dO (hJ z)with
   |some (.arr s l),some zv=>⟨k=l.length/\0<=i/\i.toNat<l.length/\s=sz/\zv.cells.length=sz/\zv.okc=true/\e2=e/\0<sz,.any,upd obj nm (some (.arr sz (l.take i.toNat++List.replicate (l.length-i.toNat) zv)))⟩
   |_,_=>.bad obj
 |_,_,_,_=>.bad obj
def py(P:Program)(σ:S)(T:TypeId)(x lo:Operand)(c:Nat)(o2:Oper):S:=
 { σ with env:=upd σ.env c ⟨true,.any⟩,obj:=(ky P σ.obj T (mc o2) (ao σ x) (ao σ lo)).obj }
inductive lr (P:Program) (Γ:FuncId->Option Spec) (ops:Array Oper):List Oper->S->(S->Prop)->Prop
 |nil {σ:S} {K:S->Prop}:K σ->lr P Γ ops [] σ K
 |step {o:Oper} {r:List Oper} {σ:S} {K:S->Prop}:jS P Γ ops σ o->lr P Γ ops r (be P Γ ops σ o) K->lr P Γ ops (o::r) σ K
 |cut {o o2:Oper} {r:List Oper} {σ:S} {K:S->Prop} {T:TypeId} {x lo:Operand} {c:Nat}:xh o=some (T,x,lo,c)->xg c o2=true->c<σ.nt->cE σ x=true->cE σ lo=true->
    (ky P σ.obj T (mc o2) (ao σ x) (ao σ lo)).ok->lr P Γ ops r (py P σ T x lo c o2) K->lr P Γ ops (o::o2::r) σ K
theorem E4{m:Mem}{zv:V}{z:Value}{sz:Nat}(h:aJ m zv z)(hs:zv.cells.length=sz)(cv:0<sz)(n k:Nat)(hk:k<n*sz):
 (Builtin.zeroCells z.cells n)[k]?=z.cells[k % sz]?:=by
 have hz:z.cells.size=sz:=by rw[<-h.cells];exact hs
 have hm:=Nat.mod_lt k cv
 unfold Builtin.zeroCells
 rw[hz]
 simp only[Array.getElem?_map,Array.getElem?_range,hk,if_true,Option.map_some]
 rw[Array.getElem?_eq_getElem (by omega),getElem!_pos z.cells (k % sz) (by omega)]
theorem C7{l:List V}{zv:V}{i q:Nat}(hi:i<=l.length)(hq:q<(l.take i++List.replicate (l.length-i) zv).length):
 (q<i/\∃ h:q<l.length,(l.take i++List.replicate (l.length-i) zv)[q]=l[q])\/(i<=q/\q<l.length/\(l.take i++List.replicate (l.length-i) zv)[q]=zv):=by
 have hlen:(l.take i).length=i:=by simp;omega
 have bZ:=hq
 simp only[List.length_append,List.length_replicate,hlen]at bZ
 by_cases h1:q<i
 ·refine .inl ⟨h1,by omega,?_⟩
  rw[List.getElem_append_left (by omega),List.getElem_take]
 ·refine .inr ⟨by omega,by omega,?_⟩
  rw[List.getElem_append_right (by omega),List.getElem_replicate]
theorem Gg{K a b:Nat}(h:a<b):a*K+K<=b*K:=by
 have :=Nat.mul_le_mul_right K (show a+1<=b by omega)
 rwa [Nat.add_mul,Nat.one_mul]at this
set_option maxHeartbeats 1000000 in
theorem Wb{P:Program}{G:Ghost}{φ:Name->Loc}{m:Mem}{σ:S}{a:Act}{w:World}(hC:aL G φ m σ a w)
 {ops:Array Oper} {i:Nat} {o o2:Oper} (hi:ops[i]?=some o) (j9:ops[i+1]?=some o2) {T:TypeId} {x lo:Operand} {c:Nat} (hA:xh o=some (T,x,lo,c)) (hB:xg c o2=true) (hc:c<σ.nt)
 (hx:cE σ x=true) (eg:cE σ lo=true) (aa:(ky P σ.obj T (mc o2) (ao σ x) (ao σ lo)).ok) {K:Act->World->Prop} {Q:Exit->Act->World->Prop}
 (hK:∀ a' w' φ' m',aL G φ' m' (py P σ T x lo c o2) a' w'->K a' w'):
 wpOpIn (eZ G.rd) 0 P ops Q i (fun a1 w1=>wpOpIn (eZ G.rd) 0 P ops Q (i+1) K a1 w1) a w:=by
 unfold xh at hA
 split at hA
 case h_2=>cases hA
 rename_i T0 x0 AU I3
 split at hA
 case h_2=>cases hA
 rename_i hg hd
 simp only[Option.some.injEq,Prod.mk.injEq]at hA
 obtain⟨rfl,rfl,rfl,rfl⟩:=hA
 unfold xg at hB
 split at hB
 case h_2=>cases hB
 rename_i args ts BF
 split at hB
 case h_2=>cases hB
 rename_i c' T2 nZ qh ft ka
 have JB:=Nat.eq_of_beq_eq_true hB
 subst JB
 have l8:mc o2=T2:=by
  unfold mc
  rw[BF]
  simp only
  have :ts= #[T2]:=by rw[<-Array.toArray_toList (xs:=ts),qh]
  rw[this];rfl
 have UI:args= #[.tmp c']:=by rw[<-Array.toArray_toList (xs:=args),nZ]
 have S9:ts= #[T2]:=by rw[<-Array.toArray_toList (xs:=ts),qh]
 rw[l8]at aa
 have Jy:py P σ T0 x0 AU c' o2={ σ with env:=upd σ.env c' ⟨true,.any⟩,obj:=(ky P σ.obj T0 T2 (ao σ x0) (ao σ AU)).obj }:=by unfold py;rw[l8]
 rw[Jy]at hK
 clear Jy hB nZ qh l8
 have rx:=b8 hC hx
 have rl:=b8 hC eg
 unfold ky at aa hK
 split at aa
 case h_2=>exact aa.elim
 rename_i nm k kd ii e sz by_ e2 Er Ld xQ ph xY JJ
 split at aa
 case h_2=>exact aa.elim
 rename_i s l zv au qd
 obtain⟨h1,h2,h3,h4,h5,h6,h7,cv⟩:=aa
 subst h7
 subst h4
 obtain⟨n,rfl⟩:∃ n:Nat,ii=(n:Int):=⟨ii.toNat,by omega⟩
 simp only[xQ,ph,xY,JJ,au,qd,Int.toNat_natCast]at hK h3
 obtain⟨hu,it,fL,Jk,_⟩:=gY xY
 obtain⟨eK,_⟩:=gY JJ
 obtain⟨z,hz,SO⟩:=Option.bind_eq_some_iff.1 qd
 have fo:aJ m zv z:=mX (r9 (φ:=φ) (obj:=σ.obj) (m:=m) z) SO
 rw[xQ]at rx
 rw[ph]at rl
 cases rl with
 |v _ _ rl=>
 cases o8:a.eval AU with
 |int kd2 n2=>
  rw[o8]at rl
  cases rl
  cases rx with
  |msl _ _ _ hh _=>
  obtain⟨oo,nn,cR,hlen,hk,cL⟩:=hh
  rw[au]at cR;cases cR
  simp only[O.len?,Option.some.injEq]at hlen
  subst hlen
  subst h1
  have hv:=cL rfl
  rcases hC.objs nm _ au with⟨_,lW⟩ | ⟨g0,g1,g2,g3,g4,us,T',f,g5,g6,g7,g8⟩
  ·subst lW;simp at h3
  have qf:a.eval x0=.slice (some ⟨(φ nm).blk,(φ nm).off,none⟩) l.length (φ nm).cap:=by rw[hv];simp only[Loc.slice,g0];rfl
  have i4:(φ nm).blk<w.heap.size:=(Array.getElem?_eq_some_iff.1 g5).1
  have jw:(Instr.sliceAt T0 (.slice (some ⟨(φ nm).blk,(φ nm).off,none⟩) l.length (φ nm).cap) (some (.int kd n)) none none).run P w=
      .ok (.slice (some ⟨(φ nm).blk,(φ nm).off+n*s,none⟩) (l.length-n) ((φ nm).cap-n)) w:=by
   have hb:=wy (P:=P) (φ:=φ) (obj:=σ.obj) (m:=m) (lo:=some (.v (.int kd n))) (hi:=none) (ulo:=some (.int kd n)) (uhi:=none) (len:=l.length) (cap:=(φ nm).cap) (n:=0) (i:=n) (j:=l.length) true (.v _ _ (.int _ _)) trivial rfl rfl (by omega) (by omega) (by omega) g1 w
   rw[wq hu]
   have aC:¬ ((φ nm).cap=n):=by omega
   simp[Instr.slice,run_underlying hu,hb,sizeOf,typeInfo,fL,Jk,aC,mg]
  have b7:∀ cc,o.op≠ .defer cc:=fun cc h=>by rw[I3]at h;cases h
  have Tu:∀ cc,o2.op≠ .defer cc:=fun cc h=>by rw[BF]at h;cases h
  have mI:Region.wanted o (yielded ops a.tmps)=true:=by unfold Region.wanted;rw[hg]
  have cC:(execOp a.eval o).run P w=.ok (.value (.slice (some ⟨(φ nm).blk,(φ nm).off+n*s,none⟩) (l.length-n) ((φ nm).cap-n))) w:=by
   unfold execOp
   rw[I3]
   simp only[qf,Option.map_some,Option.map_none,o8,Sem.run_bind,jw,Result.andThen_ok,Sem.run_pure]
  have key:∀ KK:Act->World->Prop,KK (a.put (some c') (.slice (some ⟨(φ nm).blk,(φ nm).off+n*s,none⟩) (l.length-n) ((φ nm).cap-n))) w->wpOpIn (eZ G.rd) 0 P ops Q i KK a w:=by
   intro KK JR
   unfold wpOpIn
   simp only[hi,mI,if_true]
   refine⟨fun _ _=>trivial,?_⟩
   rw[Oper.semAt_eq _ _ _ b7,cC]
   rw[<-hd]at JR
   exact JR
  refine key _ ?_
  have fh:=hC.put (t:=c') (e:=⟨true,.any⟩) (v:=.slice (some ⟨(φ nm).blk,(φ nm).off+n*s,none⟩) (l.length-n) ((φ nm).cap-n)) hc (by unfold ca;simp;exact .any _)
  have Jt:(a.put (some c') (.slice (some ⟨(φ nm).blk,(φ nm).off+n*s,none⟩) (l.length-n) ((φ nm).cap-n))).eval (.tmp c')=.slice (some ⟨(φ nm).blk,(φ nm).off+n*s,none⟩) (l.length-n) ((φ nm).cap-n):=by
   have hs:c'<a.tmps.size:=by rw[hC.size];exact hc
   simp[Act.put,Act.eval,Array.getD,hs]
  generalize hga:a.put (some c') (.slice (some ⟨(φ nm).blk,(φ nm).off+n*s,none⟩) (l.length-n) ((φ nm).cap-n))=a1 at fh Jt |-
  have fV:n*s<=l.length*s:=Nat.mul_le_mul_right _ (by omega)
  have iq:l.length*s<=(φ nm).cap*s:=Nat.mul_le_mul_right _ g1
  have nO:(Builtin.zeroCells z.cells (l.length-n)).toList.length=l.length*s-n*s:=by
   have uF:z.cells.size=s:=by rw[<-fo.cells];exact h5
   simp[Builtin.zeroCells,uF,Nat.sub_mul]
  obtain⟨gV,k1,k2,k3⟩:=tP P (φ nm).blk ((φ nm).off+n*s) T' f g6 (Builtin.zeroCells z.cells (l.length-n)).toList 0 us w g5 (by rw[nO];omega)
   (fun v hv=>by
     obtain⟨k,hk,rfl⟩:=List.getElem_of_mem hv
     rw[nO,<-Nat.sub_mul]at hk
     have h0:=E4 fo h5 cv (l.length-n) k hk
     have Jd:k % s<z.cells.size:=by rw[<-fo.cells,h5];exact Nat.mod_lt _ cv
     rw[Array.getElem?_eq_getElem Jd]at h0
     have h1:(Builtin.zeroCells z.cells (l.length-n)).toList[k]=z.cells[k % s]:=by
      have :=h0
      rw[<-Array.getElem?_toList]at this
      exact(List.getElem?_eq_some_iff.1 this).2
     rw[h1]
     have qw:k % s<zv.cells.length:=by rw[h5];exact Nat.mod_lt _ cv
     exact Ao ((fo.cell (k % s) qw Jd).one (fo.ones h6 _ (List.getElem_mem _))))
  simp only[Nat.add_zero]at k2
  have Bq:Region.wanted o2 (yielded ops a1.tmps)=true:=by unfold Region.wanted;rw[ft]
  show wpOpIn (eZ G.rd) 0 P ops Q (i+1) K a1 w
  unfold wpOpIn
  simp only[j9,Bq,if_true]
  refine⟨fun _ _=>trivial,?_⟩
  rw[Oper.semAt_eq _ _ _ Tu]
  have Te:(execOp a1.eval o2).run P w=.ok (.value (.tuple #[])) (bQ w (φ nm).blk (.cells gV T' f)):=by
   have aC:l.length-n≠0:=by omega
   unfold execOp
   rw[BF,UI,S9]
   simp only[resolve,invoke,builtin,Sem.run_bind,Sem.run_pure,Result.andThen_ok,List.map_toArray,List.map_cons,List.map_nil,Jt]
   have S7:Sem.run P (underlying T2) w=.ok (TypeDesc.slice e2) w:=run_underlying eK w
   have cb:(Builtin.clear_ #[T2] o2.type #[.slice (some ⟨(φ nm).blk,(φ nm).off+n*s,none⟩) (l.length-n) ((φ nm).cap-n)]).run P w=.ok (.tuple #[]) (bQ w (φ nm).blk (.cells gV T' f)):=by
    obtain⟨q,hq⟩:∃ q,l.length-n=q+1:=⟨l.length-n-1,by omega⟩
    rw[hq]at k3 |-
    simp[Builtin.clear_,S7,rN hz,k3]
   simp only[cb,Result.andThen_ok]
  rw[Te]
  have uX:(l.take n++List.replicate (l.length-n) zv).length=l.length:=by simp;omega
  have bm:=Ext.same (φ:=φ) (o':=.arr s (l.take n++List.replicate (l.length-n) zv)) au (by simp only[O.len?,uX]) rfl
  have T9:=fh.chg (w':=bQ w (φ nm).blk (.cells gV T' f)) nm (.arr s (l.take n++List.replicate (l.length-n) zv)) (φ nm) bm ⟨rfl,rfl,rfl,by simp[bQ]⟩
   (fun b hb hn=>nh (by rcases hn with h | h; · rw[g0]at h;cases h
                        ·exact h))
   (fun _=>.inr ⟨⟨_,au,rfl,g0⟩,rfl⟩) (by
     refine .inr ⟨g0,by rw[uX];exact g1,g2,fun q hq=>?_,fun q hq=>?_,gV,T',f,lx i4,g6,by rw[k1];exact g7,fun q j hq hj=>?_⟩
     ·rcases C7 (by omega) hq with⟨_,bZ,e3⟩ | ⟨_,_,e3⟩<;>rw[e3]
      ·exact g3 q bZ
      ·exact h5
     ·rcases C7 (by omega) hq with⟨_,bZ,e3⟩ | ⟨_,_,e3⟩<;>rw[e3]
      ·exact g4 q bZ
      ·exact fo.ones h6
     ·rw[k2,nO]
      rcases C7 (by omega) hq with⟨BA,bZ,e3⟩ | ⟨BA,bZ,e3⟩
      ·simp only[e3]at hj |-
       have fq:j<s:=by rw[<-g3 q bZ];exact hj
       have hm:=Gg (K:=s) BA
       rw[if_neg (by omega)]
       exact g8 q j bZ hj
      ·simp only[e3]at hj |-
       have fq:j<s:=by rw[<-h5];exact hj
       have hm:=Gg (K:=s) bZ
       have gk:n*s<=q*s:=Nat.mul_le_mul_right _ BA
       rw[if_pos (by omega)]
       refine⟨z.cells[j]'(by rw[<-fo.cells,h5];exact fq),?_,fo.cell j hj _⟩
       rw[show (φ nm).off+q*s+j-((φ nm).off+n*s)=(q-n)*s+j by rw[Nat.sub_mul];omega,Array.getElem?_toList]
       have ab:(q-n)*s+j<(l.length-n)*s:=by rw[Nat.sub_mul,Nat.sub_mul];omega
       rw[E4 fo h5 cv _ _ ab]
       have :((q-n)*s+j) % s=j:=by rw[Nat.mul_comm,Nat.mul_add_mod,Nat.mod_eq_of_lt fq]
       rw[this,Array.getElem?_eq_getElem])
  have l5:=hK _ _ _ m T9
  show K (a1.put o2.dst (.tuple #[])) _
  rw[ka]
  exact l5
 |_=>rw[o8]at rl;cases rl
theorem Pl{P:Program}{Γ:FuncId->Option Spec}(hΓ:∀ f s,Γ f=some s->aK P f s){G:Ghost}{ops:Array Oper}{Q:Exit->Act->World->Prop}{K:S->Prop}{l:List Oper}{σ:S}(hr:lr P Γ ops l σ K):
 ∀ (k:Nat) {φ:Name->Loc} {m:Mem} {a:Act} {w:World},k+l.length=ops.size->ops.toList.drop k=l->aL G φ m σ a w->
   (∀ a' w' φ' m' σ',aL G φ' m' σ' a' w'->K σ'->Q .normal a' w')->wpOpsIn (eZ G.rd) 0 P ops Q (List.range' k l.length) a w:=by
 have l4:∀ (k:Nat) (o:Oper) (r:List Oper),ops.toList.drop k=o::r->ops[k]?=some o/\ops.toList.drop (k+1)=r:=by
  intro k o r h
  have h0:(ops.toList.drop k)[0]?=some o:=by rw[h];rfl
  rw[List.getElem?_drop,Nat.add_zero,Array.getElem?_toList]at h0
  refine⟨h0,?_⟩
  have h1:(ops.toList.drop k).drop 1=r:=by rw[h];rfl
  rw[List.drop_drop]at h1
  exact h1
 induction hr with
 |nil hk=>exact fun k φ m a w _ _ hC hQ=>hQ _ _ φ m _ hC hk
 |step h1 _ ih=>
  intro k φ m a w hs hd hC hQ
  obtain⟨hi,pj⟩:=l4 k _ _ hd
  rw[List.length_cons]at hs |-
  rw[List.range'_succ,wpOpsIn_cons]
  exact zG hΓ hC hi h1 fun a' w' φ' m' cf=>ih (k+1) (by omega) pj cf hQ
 |cut hA hB hc hx eg aa _ ih=>
  intro k φ m a w hs hd hC hQ
  obtain⟨hi,pj⟩:=l4 k _ _ hd
  obtain⟨j9,ka⟩:=l4 (k+1) _ _ pj
  rw[List.length_cons,List.length_cons]at hs |-
  rw[List.range'_succ,wpOpsIn_cons,List.range'_succ]
  rename_i o1 o2 r' _ _ _ _ _ _ _
  have :=Wb (ops:=ops) (Q:=Q) hC hi j9 hA hB hc hx eg aa (K:=fun a' w'=>wpOpsIn (eZ G.rd) 0 P ops Q (List.range' (k+1+1) r'.length) a' w') fun a' w' φ' m' cf=>ih (k+2) (by omega) ka cf hQ
  have e:wpOpsIn (eZ G.rd) 0 P ops Q ((k+1)::List.range' (k+1+1) r'.length)=fun a1 w1=>wpOpIn (eZ G.rd) 0 P ops Q (k+1) (fun a' w'=>wpOpsIn (eZ G.rd) 0 P ops Q (List.range' (k+1+1) r'.length) a' w') a1 w1:=by
   funext a1 w1
   rw[wpOpsIn_cons]
  rw[e]
  exact this
theorem KM{P:Program}{Γ:FuncId->Option Spec}(hΓ:∀ f s,Γ f=some s->aK P f s){id:Nat}{ops:Array Oper}{σ:S}{K:Exit->S->Prop}
 (h:lr P Γ ops ops.toList σ (K .normal)):CW P (.region id ops false) σ K:=by
 intro G φ m a w hC
 refine wpIn_region ?_
 rw[List.range_eq_range']
 have :=Pl hΓ h 0 (Q:=fun e a' w'=>∃ φ' m' σ',aL G φ' m' σ' a' w'/\K e σ') (by simp) (by simp) hC fun a' w' φ' m' σ' cf hK=>⟨φ',m',σ',cf,hK⟩
 simpa using this
def Dr(P:Program)(obj:Name->Option O)(T T2:TypeId)(x lo:D):Bool:=
 match x,lo,bR P T,bR P T2 with
 | .msl nm k,.v (.int _ i),some (e,sz,_),some (e2,_,_)=>match obj nm,(a8 P e).bind fun z=>dO (hJ z)with
   |some (.arr s l),some zv=>cA k l.length&&de 0 i&&fR i.toNat l.length&&cA s sz&&cA zv.cells.length sz&&zv.okc&&cA e2 e&&fR 0 sz
   |_,_=>false
 |_,_,_,_=>false
theorem Xc{P:Program}{obj:Name->Option O}{T T2:TypeId}{x lo:D}(h:Dr P obj T T2 x lo=true):(ky P obj T T2 x lo).ok:=by
 unfold Dr at h
 unfold ky
 split at h
 ·split at h
  ·simp only[Bool.and_eq_true]at h
   obtain⟨⟨⟨⟨⟨⟨⟨h1,h2⟩,h3⟩,h4⟩,h5⟩,h6⟩,h7⟩,h8⟩:=h
   exact⟨js h1,fH h2,wX h3,js h4,js h5,h6,js h7,wX h8⟩
  ·cases h
 ·cases h
theorem XL{P:Program}{obj:Name->Option O}{T T2:TypeId}{x lo:D}{nm:Name}(h:nm∉aR x):(ky P obj T T2 x lo).obj nm=obj nm:=by
 unfold ky
 split
 ·split
  ·simp only[aR,List.mem_singleton]at h
   exact aU _ _ _ h
  ·rfl
 ·rfl
end Go.Eng
