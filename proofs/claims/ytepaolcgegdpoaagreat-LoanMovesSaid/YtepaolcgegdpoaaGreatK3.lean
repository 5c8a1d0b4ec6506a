import Derived.Test.YtepaolcgegdpoaaGreatK2
/- Texts Eng19 to EngK. -/
set_option linter.all false
namespace Go.Eng
open Go
section
variable {P:Program} {Γ:FuncId->Option Spec} {ops:Array Oper}
structure si where
 anc:List Nat
 past:qk
def dX:Name->Name->Bool
 |[],[]=>true
 |x::r,y::s=>Nat.beq x y&&dX r s
 |_,_=>false
theorem fQ:∀ {a b:Name},dX a b=true↔a=b
 |[],[]=>by simp[dX]
 |[],_::_=>by simp[dX]
 |_::_,[]=>by simp[dX]
 |x::r,y::s=>by
  simp only[dX,Bool.and_eq_true,Nat.beq_eq,List.cons.injEq,fQ]
def s9:List Name->Name->Bool
 |[],_=>false
 |x::r,nm=>dX x nm||s9 r nm
theorem Hi:∀ {l:List Name} {nm:Name},s9 l nm=true↔nm∈l
 |[],nm=>by simp[s9]
 |x::r,nm=>by
  simp only[s9,Bool.or_eq_true,fQ,List.mem_cons,Hi]
  exact⟨fun h=>h.imp Eq.symm id,fun h=>h.imp Eq.symm id⟩
def jP:List Nat->Nat->Bool
 |[],_=>false
 |x::r,n=>Nat.beq x n||jP r n
theorem Hj:∀ {l:List Nat} {n:Nat},jP l n=true↔n∈l
 |[],n=>by simp[jP]
 |x::r,n=>by
  simp only[jP,Bool.or_eq_true,Nat.beq_eq,List.mem_cons,Hj]
  exact⟨fun h=>h.imp Eq.symm id,fun h=>h.imp Eq.symm id⟩
def tS:List Name->List Name->Bool
 |[],_=>true
 |x::r,b=>!s9 b x&&tS r b
theorem DV:∀ {a b:List Name},tS a b=true->wV a b
 |[],_,_=>fun nm h=>by cases h
 |x::r,b,h=>by
  simp only[tS,Bool.and_eq_true,Bool.not_eq_true']at h
  intro nm ha hb
  rcases List.mem_cons.1 ha with rfl | ha
  ·rw[Hi.2 hb]at h;cases h.1
  ·exact DV h.2 nm ha hb
def eU(p:si)(e:si):Bool:=jP p.anc e.past.on||(tS e.past.wrt p.past.foot&&tS p.past.wrt e.past.foot)
def sR:List si->Bool
 |[]=>true
 |p::L=>L.all (eU p)&&sR L
variable (P Γ ops)in
def qj:Nat->List (List Nat)->List Oper->List si->S->(S->Prop)->Prop
 |_,_,[],L,σ,K=>sR L=true/\K σ
 |i,az,o::r,L,σ,K=>kz P Γ ops σ o/\
   qj (i+1) az.tail r (⟨az.headD [],i,cf Γ σ ((σ.base+o.dst.getD 0)::σ.pre) o.op,bK Γ σ ((σ.base+o.dst.getD 0)::σ.pre) o.op⟩::L) (bn P Γ ops σ o) K
variable (P Γ ops)in
def EP(anc:Nat->List Nat):Nat->List Oper->List qk->S->(S->Prop)->Prop
 |_,[],_,σ,K=>K σ
 |i,o::r,L,σ,K=>kz P Γ ops σ o/\xG (anc i) (cf Γ σ (Oper.tt σ o) o.op) (bK Γ σ (Oper.tt σ o) o.op) L/\
   EP anc (i+1) r (⟨i,cf Γ σ (Oper.tt σ o) o.op,bK Γ σ (Oper.tt σ o) o.op⟩::L) (bn P Γ ops σ o) K
theorem Gi{anc:Nat->List Nat}{K:S->Prop}:∀ (l:List Oper) (i:Nat) (az:List (List Nat)) (L:List si) (σ:S),(∀ k,az.getD k []=anc (i+k))->
 qj P Γ ops i az l L σ K->sR L=true/\EP P Γ ops anc i l (L.map (·.past)) σ K
 |[],i,az,L,σ,_,h=>h
 |o::r,i,az,L,σ,ha,h=>by
  obtain⟨h1,h2⟩:=h
  obtain⟨h3,h4⟩:=Gi (anc:=anc) r (i+1) az.tail _ _ (fun k=>by
   have :=ha (k+1)
   rw[show i+(k+1)=i+1+k by omega]at this
   rw[<-this]
   cases az<;>rfl) h2
  simp only[sR,Bool.and_eq_true]at h3
  refine⟨h3.2,h1,?_,h4⟩
  intro e he
  obtain⟨p,hp,rfl⟩:=List.mem_map.1 he
  have :=List.all_eq_true.1 h3.1 p hp
  simp only[eU,Bool.or_eq_true,Bool.and_eq_true]at this
  rcases this with k | ⟨k1,k2⟩
  ·left
   have h0:az.headD []=anc i:=by
    have :=ha 0
    rw[Nat.add_zero]at this
    rw[<-this]
    cases az<;>rfl
   rw[h0]at k
   exact Hj.1 k
  ·exact .inr ⟨DV k1,DV k2⟩
theorem Gj(hN:∀ f s,Γ f=some s->s.Near){anc:Nat->List Nat}(hA:wW ops anc)(j7:∀ i j oi oj,ops[i]?=some oi->ops[j]?=some oj->i<j->i∉anc j->oi.apart ops oj=true)
 (yZ:∀ j o,ops[j]?=some o->∀ e∈o.after,Region.binds .any e=true->e.on<j) {K:S->Prop}:
 ∀ (n k:Nat) (L:List qk) (listed:Array Bool) (σ:S),k+n=ops.size->listed.size=ops.size->(∀ j,listed.getD j false=decide (j<k))->sj anc listed->
   EP P Γ ops anc k (ops.toList.drop k) L σ K->qn P Γ ops anc L K n listed σ
 | 0,k,L,listed,σ,hk,hs,hl,cF,h=>by
   have :ops.toList.drop k=[]:=List.drop_eq_nil_of_le (by simp;omega)
   rw[this]at h
   refine⟨?_,h⟩
   refine List.eq_nil_iff_forall_not_mem.2 fun j hj=>?_
   obtain⟨h1,o,ho,_⟩:=mem_ready.1 hj
   have ab:j<ops.size:=(Array.getElem?_eq_some_iff.1 ho).1
   have :=hl j
   simp only[Array.getD_eq_getD_getElem?,Array.getElem?_eq_getElem (show j<listed.size by omega),Option.getD_some]at h1 this
   rw[h1]at this
   simp at this
   omega
 |n+1,k,L,listed,σ,hk,hs,hl,cF,h=>by
  have ab:k<ops.size:=by omega
  have hd:ops.toList.drop k=ops[k]::ops.toList.drop (k+1):=by
   rw[List.drop_eq_getElem_cons (by simpa using ab)];simp
  rw[hd]at h
  obtain⟨h1,h2,h3⟩:=h
  have aa:ops[k]?=some ops[k]:=Array.getElem?_eq_getElem ab
  have tD:∀ j,j<listed.size->listed.getD j true=listed.getD j false:=by
   intro j hj
   simp only[Array.getD_eq_getD_getElem?,Array.getElem?_eq_getElem hj,Option.getD_some]
  have hr:k∈Region.ready .any ops listed:=by
   refine mem_ready.2 ⟨?_,_,aa,fun e he hb=>?_⟩
   ·rw[tD k (by omega),hl k];simp
   ·rw[hl];simpa using yZ k _ aa e he hb
  refine pull hN hA aa n listed σ cF (fun j oj hj aB vp eQ=>?_) hr h1 h2 ?_
  ·have kM:j<ops.size:=(Array.getElem?_eq_some_iff.1 hj).1
   rw[tD j (by omega),hl j]at vp
   simp at vp
   exact j7 k j _ oj aa hj (by omega) eQ
  ·refine Gj hN hA j7 yZ n (k+1) _ _ _ (by omega) (by simpa using hs) (fun j=>?_) (cF.set hA hr) h3
   by_cases mw:k=j
   ·subst mw
    simp[show k<listed.size by omega]
   ·rw[getD_set_ne false mw,hl j]
    refine decide_eq_decide.2 ?_
    omega
def uD(ops:Array Oper)(az:List (List Nat)):Bool:=
 (List.range ops.size).all fun j=>match ops[j]? with
   |none=>true
   |some oj=>(oj.after.toList.all fun e=>!Region.binds .any e||decide (e.on<j))&&
      ((az.getD j []).all fun i=>oj.after.toList.any fun e=>Region.binds .any e&&(e.on==i||(az.getD e.on []).contains i))&&
      (List.range j).all fun i=>(az.getD j []).contains i||(match ops[i]? with | some oi=>oi.apart ops oj | none=>true)
theorem D3(hΓ:∀ f s,Γ f=some s->aF P f s)(hP:P.follows .mixedOrders=true){id:Nat}{l:List Oper}{σ:S}{K:Exit->S->Prop}(az:List (List Nat))
 (hs:uD l.toArray az=true) (h:∀ K':S->Prop,(∀ σ',K .normal σ'->K' σ')->qj P Γ l.toArray 0 az l [] σ K'):CW P (.region id l.toArray true) σ K:=by
 intro G φ m a w hC
 have fg:∀ j oj,l.toArray[j]?=some oj->(oj.after.toList.all fun e=>!Region.binds .any e||decide (e.on<j))=true/\
       ((az.getD j []).all fun i=>oj.after.toList.any fun e=>Region.binds .any e&&(e.on==i||(az.getD e.on []).contains i))=true/\
       ((List.range j).all fun i=>(az.getD j []).contains i||(match l.toArray[i]? with | some oi=>oi.apart l.toArray oj | none=>true))=true:=by
  intro j oj hj
  have :=List.all_eq_true.1 hs j (List.mem_range.2 (Array.getElem?_eq_some_iff.1 hj).1)
  simp only[hj,Bool.and_eq_true]at this
  exact⟨this.1.1,this.1.2,this.2⟩
 have hN:∀ f s,Γ f=some s->s.Near:=fun f s h=>(hΓ f s h).near
 have hA:wW l.toArray (fun j=>az.getD j []):=by
  intro j o ho i hi
  have :=List.all_eq_true.1 (fg j o ho).2.1 i hi
  obtain⟨e,he,h1⟩:=List.any_eq_true.1 this
  simp only[Bool.and_eq_true,Bool.or_eq_true,beq_iff_eq,List.contains_iff_mem]at h1
  exact⟨e,by simpa using he,h1.1,h1.2⟩
 have j7:∀ i j oi oj,l.toArray[i]?=some oi->l.toArray[j]?=some oj->i<j->i∉az.getD j []->oi.apart l.toArray oj=true:=by
  intro i j oi oj h1 h2 h3 h4
  have :=List.all_eq_true.1 (fg j oj h2).2.2 i (List.mem_range.2 h3)
  simp only[h1,Bool.or_eq_true]at this
  rcases this with k | k
  ·exact(h4 (by simpa using k)).elim
  ·exact k
 have yZ:∀ j o,l.toArray[j]?=some o->∀ e∈o.after,Region.binds .any e=true->e.on<j:=by
  intro j o ho e he hb
  have :=List.all_eq_true.1 (fg j o ho).1 e (by simpa using he)
  simpa[hb]using this
 refine wpIn_region_any hP ?_
 obtain⟨_,hD⟩:=Gi (anc:=fun j=>az.getD j []) l 0 az [] σ (fun k=>by simp) (h (K .normal) fun _ h=>h)
 refine MM hΓ (K:=K .normal) _ _ (hC.drawn _) (Gj hN hA j7 yZ l.toArray.size 0 [] _ σ (by simp) (by simp) (fun j=>?_) (fun j hj=>?_) (by simpa using hD)) fun a' w' φ' m' σ' cG hK=>⟨φ',m',σ',cG,hK⟩
 ·by_cases hj:j<l.length<;>simp[hj]
 ·by_cases dL:j<l.length<;>simp[dL]at hj
theorem YK(hΓ:∀ f s,Γ f=some s->aF P f s)(hP:P.follows .mixedOrders=true){id:Nat}{l:List Oper}{c:Code}{r:List Code}{σ:S}{K:Exit->S->Prop}(az:List (List Nat))(ks:List Nat)(ns:List Name)
 (hs:uD l.toArray az=true) (h:∀ K':S->Prop,(∀ σ',gR ks ns σ'->CL P (c::r) (hS ks ns σ') K->K' σ')->qj P Γ l.toArray 0 az l [] σ K'):CL P (.region id l.toArray true::c::r) σ K:=
 D3 hΓ hP az hs fun K' hK=>h K' fun σ' hc hy=>hK σ' (D2 ks ns hc hy)
theorem mO(hΓ:∀ f s,Γ f=some s->aF P f s)(hP:P.follows .mixedOrders=true){id:Nat}{l:List Oper}{σ:S}{K:Exit->S->Prop}(az:List (List Nat))
 (hs:uD l.toArray az=true) (h:∀ K':S->Prop,(∀ σ',K .normal σ'->K' σ')->qj P Γ l.toArray 0 az l [] σ K'):CL P [.region id l.toArray true] σ K:=
 D3 hΓ hP az hs fun K' hK=>h K' fun σ' hc=>hK σ' hc
end
attribute [go_sem] dX s9 jP tS Nat.beq_eq_true_eq qj cf bK aZ fp ej fF eA muts O.mut PSpec.toSpec List.headD_cons List.headD_nil List.tail_cons List.tail_nil
mutual
def D.ren(f:Name->Name):D->D
 | .v x=>.v x
 | .nilsl=>.nilsl
 | .nilmap=>.nilmap
 | .ref nm o=>.ref (f nm) o
 | .msl nm k=>.msl (f nm) k
 | .aref nm k i o=>.aref (f nm) k i o
 | .map nm=>.map (f nm)
 | .yld nm=>.yld (f nm)
 | .clo fn a b=>.clo fn (D.renL f a) (D.renL f b)
 | .agg l=>.agg (D.renL f l)
 | .tup l=>.tup (D.renL f l)
 | .any=>.any
def D.renL(f:Name->Name):List D->List D
 |[]=>[]
 |d::r=>D.ren f d::D.renL f r
end
def E.ren(f:Name->Name)(e:E):E:=⟨e.c,e.d.ren f⟩
def O.ren(f:Name->Name):O->O
 | .box cs=>.box (D.renL f cs)
 | .loop env ps asg body st bI=>.loop (env.map (E.ren f)) ps asg body st bI
 | .arr sz l=>.arr sz l
 | .map kd es=>.map kd es
 | .fbox cs=>.fbox cs
 | .farr sz l=>.farr sz l
 | .dead sz n=>.dead sz n
theorem jK(f:Name->Name):∀ l:List D,D.renL f l=l.map (D.ren f)
 |[]=>rfl
 |d::r=>by simp only[D.renL,List.map_cons,jK f r]
theorem D.one_ren(f:Name->Name)(d:D):(d.ren f).one=d.one:=by cases d<;>rfl
theorem O.len_ren(f:Name->Name)(o:O):(o.ren f).len?=o.len?:=by cases o<;>rfl
theorem O.sz_ren(f:Name->Name)(o:O):(o.ren f).sz=o.sz:=by cases o<;>rfl
theorem O.mut_ren(f:Name->Name)(o:O):(o.ren f).mut=o.mut:=by cases o<;>rfl
def wT(f:Name->Name)(φ φ':Name->Loc)(obj obj':Name->Option O)(dom:Name->Bool):Prop:=
 ∀ nm o,dom nm=true->obj nm=some o->∃ o',obj' (f nm)=some o'/\
   ((o'.len?=o.len?/\φ' (f nm)=φ nm/\o'.sz=o.sz)\/(∃ n n',o.len?=some n/\o'.len?=some n'/\n<n'))
theorem aD.renx{f:Name->Name}{φ φ':Name->Loc}{obj obj':Name->Option O}{m m':Mem}{dom:Name->Bool}(hm:Mem.le m m')(hx:wT f φ φ' obj obj' dom){d:D}{u:Value}
 (h:aD φ obj m d u) (hc:D.clos dom d=true):aD φ' obj' m' (d.ren f) u:=by
 induction h with
 |any u=>exact .any u
 |v x u h=>exact .v x u (h.mono hm)
 |nilsl a=>exact .nilsl a
 |nilmap=>exact .nilmap
 |ref nm off h=>
  obtain⟨o,ho,hl⟩:=h
  obtain⟨o',cX,h⟩:=hx nm o hc ho
  rcases h with⟨h1,h2,h3⟩ | ⟨n,n',h1,h2,h3⟩
  ·rw[<-h2];exact .ref (f nm) off ⟨o',cX,h1.trans hl⟩
  ·rw[hl]at h1;cases h1
 |map nm h=>
  obtain⟨o,ho,hl⟩:=h
  obtain⟨o',cX,h⟩:=hx nm o hc ho
  rcases h with⟨h1,h2,h3⟩ | ⟨n,n',h1,h2,h3⟩
  ·rw[<-h2];exact .map (f nm) ⟨o',cX,h1.trans hl⟩
  ·rw[hl]at h1;cases h1
 |yld nm h=>
  obtain⟨o,ho,hl⟩:=h
  obtain⟨o',cX,h⟩:=hx nm o hc ho
  rcases h with⟨h1,h2,h3⟩ | ⟨n,n',h1,h2,h3⟩
  ·rw[<-h2];exact .yld (f nm) ⟨o',cX,h1.trans hl⟩
  ·rw[hl]at h1;cases h1
 |msl nm k u h hu=>
  obtain⟨o,n,ho,hl,hk,he⟩:=h
  obtain⟨o',cX,h⟩:=hx nm o hc ho
  rcases h with⟨h1,h2,h3⟩ | ⟨n1,n',h1,h2,h3⟩
  ·exact .msl (f nm) k u ⟨o',n,cX,h1.trans hl,hk,fun e=>by rw[h2];exact he e⟩ hu
  ·rw[hl]at h1;cases h1
   exact .msl (f nm) k u ⟨o',n',cX,h2,by omega,fun e=>by omega⟩ hu
 |aref nm k i off u h hu=>
  obtain⟨o,n,ho,hl,hk,he⟩:=h
  obtain⟨o',cX,h⟩:=hx nm o hc ho
  rcases h with⟨h1,h2,h3⟩ | ⟨n1,n',h1,h2,h3⟩
  ·exact .aref (f nm) k i off u ⟨o',n,cX,h1.trans hl,hk,fun e=>by rw[h2,h3];exact he e⟩ hu
  ·rw[hl]at h1;cases h1
   exact .aref (f nm) k i off u ⟨o',n',cX,h2,by omega,fun e=>by omega⟩ hu
 |clo fn fs cs us vs h1 h2 et fJ oy ox=>
  simp only[D.clos,Bool.and_eq_true]at hc
  simp only[D.ren,jK]
  refine .clo fn _ _ us vs (by simpa using h1) (by simpa using h2) (fun i a b=>?_) (fun i a b=>?_)
  ·simp only[List.getElem_map];exact oy i (by simpa using a) b (iw _ hc.1)
  ·simp only[List.getElem_map];exact ox i (by simpa using a) b (iw _ hc.2)
 |agg l us h ho hr ih=>
  simp only[D.clos]at hc
  simp only[D.ren,jK]
  refine .agg _ us (by simpa using h) (fun d hd=>?_) (fun i a b=>?_)
  ·obtain⟨d',h1,rfl⟩:=List.mem_map.1 hd
   rw[D.one_ren];exact ho d' h1
  ·simp only[List.getElem_map];exact ih i (by simpa using a) b (iw _ hc)
 |tup l us h hr ih=>
  simp only[D.clos]at hc
  simp only[D.ren,jK]
  refine .tup _ us (by simpa using h) (fun i a b=>?_)
  simp only[List.getElem_map];exact ih i (by simpa using a) b (iw _ hc)
theorem cD.renx{f:Name->Name}{φ φ':Name->Loc}{obj obj':Name->Option O}{m m':Mem}{dom:Name->Bool}(hm:Mem.le m m')(hx:wT f φ φ' obj obj' dom){e:E}{u:Value}
 (h:cD φ obj m e u) (hc:D.clos dom e.d=true):cD φ' obj' m' (e.ren f) u:=by
 unfold cD at *
 have e0:(E.ren f e).c=e.c:=rfl
 have e1:(E.ren f e).d=e.d.ren f:=rfl
 rw[e0,e1]
 by_cases hh:e.c=true
 ·rw[if_pos hh]at h |-;exact h.renx hm hx hc
 ·rw[if_neg hh]at h |-;exact h
theorem gp.ren{f:Name->Name}{φ φ':Name->Loc}{obj obj':Name->Option O}{m m':Mem}{dom:Name->Bool}{o:O}{p:Loc}{w w':World}(hm:Mem.le m m')(hx:wT f φ φ' obj obj' dom)
 (hc:O.clos dom o=true) (hw:o.mut=true->p.nul=false->w'.heap[p.blk]?=w.heap[p.blk]?) (h:gp φ obj m o p w):gp φ' obj' m' (o.ren f) p w':=by
 cases o with
 |box cs=>
  obtain⟨h0,h1,fK,us,T,g,h2,h3,h4,h5⟩:=h
  simp only[O.clos]at hc
  simp only[O.ren,gp,jK,List.length_map,List.getElem_map,List.mem_map,forall_exists_index,and_imp,forall_apply_eq_imp_iff₂,D.one_ren]
  exact⟨h0,h1,fK,us,T,g,by rw[hw rfl h1];exact h2,h3,h4,fun i a b=>(h5 i a b).renx hm hx (iw a hc)⟩
 |arr sz l=>
  rcases h with⟨h,h'⟩ | ⟨h0,h1,h2,h3,h4,us,T,f,h5,h6,h7,h8⟩
  ·exact .inl ⟨h,h'⟩
  ·exact .inr ⟨h0,h1,h2,h3,h4,us,T,f,by rw[hw rfl h0];exact h5,h6,h7,fun i j a b=>let ⟨c,x,y⟩:=h8 i j a b;⟨c,x,y.mono hm⟩⟩
 |map kd es=>
  obtain⟨h0,h1,fK,us,T,h2,h3,h4⟩:=h
  exact⟨h0,h1,fK,us,T,by rw[hw rfl h1];exact h2,h3,fun i a b=>⟨(h4 i a b).1.mono hm,(h4 i a b).2.mono hm⟩⟩
 |fbox cs=>exact⟨h.1,fun i a=>let ⟨c,x,y⟩:=h.2 i a;⟨c,hm _ _ _ x,y.mono hm⟩⟩
 |farr sz l=>
  rcases h with⟨h,h'⟩ | ⟨h0,h1,h2,h3,h4⟩
  ·exact .inl ⟨h,h'⟩
  ·exact .inr ⟨h0,h1,h2,h3,fun i j a b=>let ⟨c,x,y⟩:=h4 i j a b;⟨c,hm _ _ _ x,y.mono hm⟩⟩
 |dead=>exact h
 |loop env ps asg body st bI=>
  obtain⟨h0,h1,r,h2,h3,h4,h5,h6,h7,h8,h9⟩:=h
  simp only[O.clos]at hc
  simp only[O.ren,gp,List.length_map,List.getElem_map]
  refine⟨h0,h1,r,by rw[hw rfl h1];exact h2,h3,h4,h5,h6,h7,h8,fun i a=>(h9 i a).renx hm hx ?_⟩
  have :=iw (l:=env.map (·.d)) (i:=i) (by simpa using a) hc
  simpa using this
mutual
theorem D.ren_id{f g:Name->Name}{dom:Name->Bool}(jA:∀ nm,dom nm=true->g (f nm)=nm):∀ d:D,D.clos dom d=true->(d.ren f).ren g=d
 | .v _,_=>rfl
 | .nilsl,_=>rfl
 | .nilmap,_=>rfl
 | .any,_=>rfl
 | .ref nm _,h=>by simp only[D.ren];rw[jA nm h]
 | .msl nm _,h=>by simp only[D.ren];rw[jA nm h]
 | .aref nm _ _ _,h=>by simp only[D.ren];rw[jA nm h]
 | .map nm,h=>by simp only[D.ren];rw[jA nm h]
 | .yld nm,h=>by simp only[D.ren];rw[jA nm h]
 | .clo _ a b,h=>by
   simp only[D.clos,Bool.and_eq_true]at h
   simp only[D.ren];rw[D.renL_id jA a h.1,D.renL_id jA b h.2]
 | .agg l,h=>by simp only[D.clos]at h;simp only[D.ren];rw[D.renL_id jA l h]
 | .tup l,h=>by simp only[D.clos]at h;simp only[D.ren];rw[D.renL_id jA l h]
theorem D.renL_id{f g:Name->Name}{dom:Name->Bool}(jA:∀ nm,dom nm=true->g (f nm)=nm):∀ l:List D,D.closL dom l=true->D.renL g (D.renL f l)=l
 |[],_=>rfl
 |d::r,h=>by
  simp only[D.closL,Bool.and_eq_true]at h
  simp only[D.renL];rw[D.ren_id jA d h.1,D.renL_id jA r h.2]
end
theorem O.ren_id{f g:Name->Name}{dom:Name->Bool}(jA:∀ nm,dom nm=true->g (f nm)=nm)(o:O)(h:O.clos dom o=true):(o.ren f).ren g=o:=by
 cases o with
 |box cs=>simp only[O.clos]at h;simp only[O.ren];rw[D.renL_id jA cs h]
 |loop env ps asg body st bI=>
  simp only[O.clos]at h
  simp only[O.ren,List.map_map,O.loop.injEq,and_true]
  refine List.ext_getElem (by simp) fun i h1 h2=>?_
  have :=iw (l:=env.map (·.d)) (i:=i) (by simpa using h2) h
  simp only[List.getElem_map,Function.comp_apply,E.ren]at this |-
  rw[D.ren_id jA _ this]
 |_=>rfl
mutual
def iU:D->List Name
 | .ref nm _=>[nm]
 | .msl nm _=>[nm]
 | .aref nm _ _ _=>[nm]
 | .map nm=>[nm]
 | .yld nm=>[nm]
 | .clo _ a b=>b8 a++b8 b
 | .agg l=>b8 l
 | .tup l=>b8 l
 |_=>[]
def b8:List D->List Name
 |[]=>[]
 |d::r=>iU d++b8 r
end
def gZ:O->List Name
 | .box cs=>b8 cs
 | .loop env _ _ _ _ _=>b8 (env.map (·.d))
 |_=>[]
def bZ(L:List Name)(nm:Name):Bool:=L.any fun x=>x==nm
def cE(obj:Name->Option O):Nat->List Name->List Name->List Name
 | 0,_,acc=>acc
 |_+1,[],acc=>acc
 |n+1,x::todo,acc=>if bZ acc x=true then cE obj n todo acc else cE obj n ((match obj x with | some o=>gZ o | none=>[])++todo) (acc++[x])
def reach(obj:Name->Option O)(ds:List D):List Name:=cE obj 3000 (b8 ds) []
theorem fx{L:List Name}{nm:Name}:bZ L nm=true↔nm∈L:=by
 simp only[bZ,List.any_eq_true,beq_iff_eq]
 exact⟨fun ⟨x,h,e⟩=>e▸h,fun h=>⟨nm,h,rfl⟩⟩
theorem Bb{obj:Name->Option O}:∀ (n:Nat) (todo acc:List Name),∀ nm∈acc,nm∈cE obj n todo acc
 | 0,_,_,_,h=>h
 |_+1,[],_,_,h=>h
 |n+1,x::todo,acc,nm,h=>by
  simp only[cE]
  split
  ·exact Bb n _ _ nm h
  ·exact Bb n _ _ nm (by simp[h])
theorem xy{obj:Name->Option O}:∀ (n:Nat) (todo acc:List Name),acc.Nodup->(cE obj n todo acc).Nodup
 | 0,_,_,h=>h
 |_+1,[],_,h=>h
 |n+1,x::todo,acc,h=>by
  simp only[cE]
  split
  ·exact xy n _ _ h
  ·rename_i hx
   refine xy n _ _ (List.nodup_append.2 ⟨h,by simp,fun a ha b hb=>?_⟩)
   simp only[List.mem_singleton]at hb
   subst hb
   rintro rfl
   exact hx (fx.2 ha)
theorem Ba{obj obj2:Name->Option O}:∀ (n:Nat) (todo acc:List Name),bJ (cE obj n todo acc) obj obj2->cE obj2 n todo acc=cE obj n todo acc
 | 0,_,_,_=>rfl
 |_+1,[],_,_=>rfl
 |n+1,x::todo,acc,h=>by
  simp only[cE]at h |-
  split
  ·rename_i hx;rw[if_pos hx]at h;exact Ba n _ _ h
  ·rename_i hx
   rw[if_neg hx]at h
   have bz:obj2 x=obj x:=h x (Bb n _ _ x (by simp))
   rw[bz]
   exact Ba n _ _ h
def idx:List Name->Name->Nat
 |[],_=>0
 |x::r,nm=>if x=nm then 0 else idx r nm+1
def cin(L:List Name)(nm:Name):Name:=[idx L nm,1]
def cout(L:List Name)(t:Name):Name->Name
 |[i,1]=>L.getD i []
 |x=>x++t
def c9:Name->Bool
 |[_,1]=>true
 |_=>false
theorem tp:∀ {L:List Name} {nm:Name},nm∈L->∃ h:idx L nm<L.length,L[idx L nm]=nm
 |x::r,nm,h=>by
  simp only[idx]
  by_cases e:x=nm
  ·subst e;simp
  ·simp only[if_neg e]
   obtain⟨h1,h2⟩:=tp (L:=r) (nm:=nm) (by rcases List.mem_cons.1 h with h | h; · exact(e h.symm).elim
                                         ·exact h)
   exact⟨by simp;omega,by simpa using h2⟩
theorem Yo{L:List Name}{t nm:Name}(h:nm∈L):cout L t (cin L nm)=nm:=by
 obtain⟨h1,h2⟩:=tp h
 show L.getD (idx L nm) []=nm
 rw[List.getD_eq_getElem?_getD,List.getElem?_eq_getElem h1];simpa using h2
theorem tY{L:List Name}{t x:Name}(h:c9 x=false):cout L t x=x++t:=by
 unfold cout
 split
 ·simp[c9]at h
 ·rfl
theorem th{x:Name}:c9 x=true↔∃ i,x=[i,1]:=by
 constructor
 ·intro h
  unfold c9 at h
  split at h
  ·exact⟨_,rfl⟩
  ·cases h
 ·rintro⟨i,rfl⟩;rfl
theorem GM(i:Nat):own [0] [i,1]=false:=by simp[own]
theorem Cf{L:List Name}(hn:L.Nodup){i:Nat}(h:i<L.length):idx L L[i]=i:=by
 obtain⟨h1,h2⟩:=tp (List.getElem_mem h)
 exact(List.getElem_inj hn).1 h2
structure Out where
 upd:List (Nat×O)
 new:List (Name×O)
 d:D
 deriving Inhabited
def eO:List (Nat×O)->Nat->O->O
 |[],_,o=>o
 |(j,o')::r,i,o=>eO r i (if j=i then o' else o)
def cA(L:List Name)(t:Name):List (Nat×O)->(Name->Option O)->(Name->Option O)
 |[],obj=>obj
 |(i,o)::r,obj=>cA L t r (upd obj (L.getD i []) (some (o.ren (cout L t))))
def de(L:List Name)(t:Name):List (Name×O)->(Name->Option O)->(Name->Option O)
 |[],obj=>obj
 |(x,o)::r,obj=>de L t r (upd obj (x++t) (some (o.ren (cout L t))))
theorem GA{L:List Name}{t:Name}(hn:L.Nodup):∀ (l:List (Nat×O)) (obj:Name->Option O) {i:Nat} (h:i<L.length) (o:O) (_:(l.all fun x=>decide (x.1<L.length))=true) (_:obj L[i]=some (o.ren (cout L t))),
 cA L t l obj L[i]=some ((eO l i o).ren (cout L t))
 |[],obj,i,h,o,_,ho=>ho
 |(j,o')::r,obj,i,h,o,hl,ho=>by
  simp only[List.all_cons,Bool.and_eq_true,decide_eq_true_eq]at hl
  simp only[cA,eO]
  refine GA hn r _ h _ hl.2 ?_
  have e:L.getD j []=L[j]:=by rw[List.getD_eq_getElem?_getD,List.getElem?_eq_getElem hl.1];rfl
  rw[e]
  by_cases hj:j=i
  ·subst hj;rw[aO,if_pos rfl]
  ·rw[aW _ _ _ (fun e'=>hj ((List.getElem_inj hn).1 e').symm),if_neg hj];exact ho
theorem Bf{L:List Name}{t:Name}:∀ (l:List (Nat×O)) (obj:Name->Option O) {nm:Name} (_:(l.all fun x=>decide (x.1<L.length))=true) (_:nm∉L),cA L t l obj nm=obj nm
 |[],_,_,_,_=>rfl
 |(j,o')::r,obj,nm,hl,hn=>by
  simp only[List.all_cons,Bool.and_eq_true,decide_eq_true_eq]at hl
  simp only[cA]
  rw[Bf r _ hl.2 hn]
  refine aW _ _ _ ?_
  rintro rfl
  refine hn ?_
  rw[List.getD_eq_getElem?_getD,List.getElem?_eq_getElem hl.1];simp
theorem uN{L:List Name}{t:Name}:∀ (l:List (Name×O)) (obj:Name->Option O) {nm:Name} (_:∀ x∈l,nm≠x.1++t),de L t l obj nm=obj nm
 |[],_,_,_=>rfl
 |(x,o')::r,obj,nm,hl=>by
  simp only[de]
  rw[uN r _ fun y hy=>hl y (by simp[hy])]
  exact aW _ _ _ (hl (x,o') (by simp))
theorem GB{L:List Name}{t:Name}:∀ (l:List (Name×O)) (obj:Name->Option O) (_:(l.map (·.1)).Nodup) {x:Name} {o:O} (_:(x,o)∈l),de L t l obj (x++t)=some (o.ren (cout L t))
 |(y,o')::r,obj,hn,x,o,h=>by
  simp only[List.map_cons,List.nodup_cons]at hn
  simp only[de]
  rcases List.mem_cons.1 h with h | h
  ·cases h
   rw[uN r _ fun z hz e=>hn.1 (by
    have :_=z.1:=List.append_cancel_right e
    rw[this];exact List.mem_map_of_mem hz)]
   exact aO _ _ _
  ·exact GB r _ hn.2 h
def dh(n:Nat)(new:List (Name×O)):Name->Bool
 |[i,1]=>decide (i<n)
 |x=>new.any fun y=>y.1==x
section
variable {G:Ghost} {φ:Name->Loc} {m:Mem} {σ:S} {a:Act} {w:World}
def cm(L:List Name)(obj:Name->Option O)(nm:Name):O:=match obj nm with
 |some o=>o.ren (cin L)
 |none=>.fbox []
def shut(obj:Name->Option O)(L:List Name):Bool:=L.all fun nm=>match obj nm with
 |some o=>O.clos (bZ L) o
 |none=>false
def jr(L:List Name)(obj:Name->Option O):Name->Option O
 |[i,1]=>if i<L.length then some (cm L obj (L.getD i []))else none
 |_=>none
def lZ(L:List Name)(φ:Name->Loc):Name->Loc
 |[i,1]=>φ (L.getD i [])
 |_=>⟨0,0,0,true,none⟩
def o3(L:List Name)(φ:Name->Loc)(obj:Name->Option O)(b:Nat):Prop:=∃ nm∈L,holds φ obj nm/\(φ nm).blk=b
theorem uE{obj:Name->Option O}{L:List Name}(h:shut obj L=true){nm:Name}(hn:nm∈L):∃ o,obj nm=some o/\O.clos (bZ L) o=true:=by
 have :=List.all_eq_true.1 h nm hn
 cases ho:obj nm with
 |none=>simp[ho]at this
 |some o=>simp only[ho]at this;exact⟨o,rfl,this⟩
theorem j9{L:List Name}{i:Nat}(h:i<L.length):L.getD i []=L[i]:=by rw[List.getD_eq_getElem?_getD,List.getElem?_eq_getElem h];rfl
theorem Rh{L:List Name}{obj:Name->Option O}{nm:Name}(hn:nm∈L):jr L obj (cin L nm)=some (cm L obj nm):=by
 obtain⟨h1,h2⟩:=tp hn
 show (if idx L nm<L.length then some (cm L obj (L.getD (idx L nm) []))else none)=_
 rw[if_pos h1,j9 h1,h2]
theorem Nw{L:List Name}{φ:Name->Loc}{nm:Name}(hn:nm∈L):lZ L φ (cin L nm)=φ nm:=by
 obtain⟨h1,h2⟩:=tp hn
 show φ (L.getD (idx L nm) [])=_
 rw[j9 h1,h2]
theorem xw{L:List Name}{obj:Name->Option O}:wT (cin L) φ (lZ L φ) obj (jr L obj) (bZ L):=by
 intro nm o hd ho
 have hn:=fx.1 hd
 refine⟨cm L obj nm,Rh hn,.inl ⟨?_,Nw hn,?_⟩⟩
 ·simp only[cm,ho];exact O.len_ren _ _
 ·simp only[cm,ho];exact O.sz_ren _ _
theorem Bs{L:List Name}{obj:Name->Option O}{x:Name}{o:O}(h:jr L obj x=some o):∃ (i:Nat) (hi:i<L.length),x=[i,1]/\o=cm L obj L[i]:=by
 unfold jr at h
 split at h
 ·rename_i i
  split at h
  ·rename_i hi
   cases h
   exact⟨i,hi,rfl,by rw[j9 hi]⟩
  ·cases h
 ·cases h
def rI(w:World)(m:Mem)(L:List Name)(φ:Name->Loc)(obj:Name->Option O)(rd:Option Nat)(h:∀ l,rd=some l->¬ o3 L φ obj l/\∃ r,w.heap[l]?=some (.loop r)):Ghost:=
 ⟨w,m,o3 L φ obj,rd,lZ L φ,jr L obj,h⟩
theorem yE{L:List Name}{obj:Name->Option O}(hL:shut obj L=true){x:Name}(h:holds (lZ L φ) (jr L obj) x):∃ (i:Nat) (hi:i<L.length),x=[i,1]/\holds φ obj L[i]:=by
 obtain⟨o,h1,h2,h3⟩:=h
 obtain⟨i,hi,rfl,rfl⟩:=Bs h1
 obtain⟨o',h4,_⟩:=uE hL (List.getElem_mem hi)
 refine⟨i,hi,rfl,o',h4,?_,?_⟩
 ·simp only[cm,h4,O.mut_ren]at h2;exact h2
 ·have:lZ L φ [i,1]=φ L[i]:=by show φ (L.getD i [])=_;rw[j9 hi]
  rw[this]at h3;exact h3
theorem KV(hC:aQ G φ m σ a w){L:List Name}(hn:L.Nodup)(hL:shut σ.obj L=true){rd:Option Nat}(mq:∀ l,rd=some l->¬ o3 L φ σ.obj l/\∃ r,w.heap[l]?=some (.loop r))
 {nt b0:Nat} {env:Nat->E} {tmps:Array Value} (hs:tmps.size=nt) (he:∀ t,cD (lZ L φ) (jr L σ.obj) m (env t) (tmps.getD t undef)):
 aQ (rI w m L φ σ.obj rd mq) (lZ L φ) m ⟨nt,env,jr L σ.obj,[0],b0⟩ { tmps:=tmps,defers:=[] } w:=by
 have hφ:∀ (i:Nat) (hi:i<L.length),lZ L φ [i,1]=φ L[i]:=fun i hi=>by show φ (L.getD i [])=_;rw[j9 hi]
 constructor
 ·exact he
 ·exact hs
 ·exact⟨[],rfl,by simp,by simp⟩
 ·intro x o hx
  obtain⟨i,hi,rfl,rfl⟩:=Bs hx
  obtain⟨o',h4,h5⟩:=uE hL (List.getElem_mem hi)
  rw[hφ i hi]
  simp only[cm,h4]
  exact(hC.objs _ _ h4).ren (Mem.le_refl m) xw h5 fun _ _=>rfl
 ·exact hC.mem
 ·intro x hx off
  obtain⟨i,hi,rfl,h⟩:=yE hL hx
  rw[hφ i hi]
  exact hC.apart _ h off
 ·intro x y hx hy e
  obtain⟨i,hi,rfl,h⟩:=yE hL hx
  obtain⟨j,hj,rfl,h'⟩:=yE hL hy
  rw[hφ i hi,hφ j hj]at e
  have :=(List.getElem_inj hn).1 (hC.inj _ _ h h' e)
  rw[this]
 ·intro x hx
  obtain⟨i,hi,rfl,h⟩:=yE hL hx
  rw[hφ i hi]
  exact .inr ⟨_,List.getElem_mem hi,h,rfl⟩
 ·exact⟨rfl,rfl,rfl,Nat.le_refl _,fun _ _ _=>rfl⟩
 ·intro b off v h;exact .inl h
 ·refine⟨fun x o hx=>?_,Ext.refl _ _⟩
  obtain⟨i,hi,rfl,_⟩:=Bs hx
  exact GM i
structure Nv (σ:S) (os:List O) (o:Out):Prop where
 objs:∀ i (h:i<os.length),σ.obj [i,1]=some (eO o.upd i os[i])
 news:∀ x∈o.new,σ.obj x.1=some x.2
 cd:D.clos (dh os.length o.new) o.d=true
 cu:(o.upd.all fun x=>O.clos (dh os.length o.new) x.2&&decide (x.1<os.length))=true
 cn:(o.new.all fun x=>O.clos (dh os.length o.new) x.2&&!c9 x.1)=true
 nd:(o.new.map (·.1)).Nodup
def fresh(obj:Name->Option O)(t:Name)(new:List (Name×O)):Bool:=new.all fun x=>(obj (x.1++t)).isNone
theorem X0{n:Nat}{new:List (Name×O)}{x:Name×O}(h:c9 x.1=false)(hx:x∈new):dh n new x.1=true:=by
 have key:∀ nm:Name,c9 nm=false->dh n new nm=new.any fun y=>y.1==nm:=by
  intro nm h
  unfold dh
  split
  ·simp[c9]at h
  ·rfl
 rw[key _ h]
 exact List.any_eq_true.2 ⟨x,hx,by simp⟩
theorem HI{dom:Name->Bool}:∀ (l:List (Nat×O)) (i:Nat) (o:O),O.clos dom o=true->(∀ x∈l,O.clos dom x.2=true)->O.clos dom (eO l i o)=true
 |[],_,_,h,_=>h
 |(j,o')::r,i,o,h,hl=>by
  simp only[eO]
  refine HI r i _ ?_ fun x hx=>hl x (by simp[hx])
  split
  ·exact hl (j,o') (by simp)
  ·exact h
mutual
theorem clos_ren{f:Name->Name}{dom dom':Name->Bool}(hf:∀ nm,dom nm=true->dom' (f nm)=true):∀ d:D,D.clos dom d=true->D.clos dom' (d.ren f)=true
 | .v _,_=>by simp only[D.ren,D.clos]
 | .nilsl,_=>by simp only[D.ren,D.clos]
 | .nilmap,_=>by simp only[D.ren,D.clos]
 | .any,_=>by simp only[D.ren,D.clos]
 | .ref nm _,h=>hf nm h
 | .msl nm _,h=>hf nm h
 | .aref nm _ _ _,h=>hf nm h
 | .map nm,h=>hf nm h
 | .yld nm,h=>hf nm h
 | .clo _ a b,h=>by
   simp only[D.clos,Bool.and_eq_true]at h
   simp only[D.ren,D.clos,Bool.and_eq_true]
   exact⟨rZ hf a h.1,rZ hf b h.2⟩
 | .agg l,h=>by simp only[D.clos]at h;simp only[D.ren,D.clos];exact rZ hf l h
 | .tup l,h=>by simp only[D.clos]at h;simp only[D.ren,D.clos];exact rZ hf l h
theorem rZ{f:Name->Name}{dom dom':Name->Bool}(hf:∀ nm,dom nm=true->dom' (f nm)=true):∀ l:List D,D.closL dom l=true->D.closL dom' (D.renL f l)=true
 |[],_=>by simp only[D.renL,D.closL]
 |d::r,h=>by
  simp only[D.closL,Bool.and_eq_true]at h
  simp only[D.renL,D.closL,Bool.and_eq_true]
  exact⟨clos_ren hf d h.1,rZ hf r h.2⟩
end
theorem O.clos_ren{f:Name->Name}{dom dom':Name->Bool}(hf:∀ nm,dom nm=true->dom' (f nm)=true)(o:O)(h:O.clos dom o=true):O.clos dom' (o.ren f)=true:=by
 cases o with
 |box cs=>simp only[O.clos]at h;simp only[O.ren,O.clos];exact rZ hf cs h
 |loop env ps asg body st bI=>
  simp only[O.clos]at h
  simp only[O.ren,O.clos]
  have :=rZ hf _ h
  rw[jK,List.map_map]at this
  rw[List.map_map]
  exact this
 |_=>rfl
theorem KU(hC:aQ G φ m σ a w){L:List Name}(hn:L.Nodup)(hL:shut σ.obj L=true){rd:Option Nat}{mq:∀ l,rd=some l->¬ o3 L φ σ.obj l/\∃ r,w.heap[l]?=some (.loop r)}
 {φ2:Name->Loc} {m2:Mem} {σ2:S} {a2:Act} {w2:World} (fi:aQ (rI w m L φ σ.obj rd mq) φ2 m2 σ2 a2 w2) {o:Out} (hE:Nv σ2 (L.map (cm L σ.obj)) o) {t:Name} (hf:fresh σ.obj t o.new=true):
 ∃ φ' m',Mem.le m m'/\aQ G φ' m' { σ with obj:=de L t o.new (cA L t o.upd σ.obj) } a w2/\
   Ext φ φ' σ.obj (de L t o.new (cA L t o.upd σ.obj))/\
   (∀ d u,aD φ2 σ2.obj m2 d u->D.clos (dh L.length o.new) d=true->aD φ' (de L t o.new (cA L t o.upd σ.obj)) m' (d.ren (cout L t)) u):=by
 have hlen:(L.map (cm L σ.obj)).length=L.length:=by simp
 obtain⟨h1,h2,h3,h4,h5,h6⟩:=hE
 rw[hlen]at h3 h4 h5
 have hu:(o.upd.all fun x=>decide (x.1<L.length))=true:=List.all_eq_true.2 fun x hx=>by
  have :=List.all_eq_true.1 h4 x hx
  simp only[Bool.and_eq_true]at this;exact this.2
 have yu:∀ x∈o.upd,O.clos (dh L.length o.new) x.2=true:=fun x hx=>by
  have :=List.all_eq_true.1 h4 x hx
  simp only[Bool.and_eq_true]at this;exact this.1
 have V0:∀ x∈o.new,O.clos (dh L.length o.new) x.2=true:=fun x hx=>by
  have :=List.all_eq_true.1 h5 x hx
  simp only[Bool.and_eq_true]at this;exact this.1
 have CP:∀ x∈o.new,c9 x.1=false:=fun x hx=>by
  have :=List.all_eq_true.1 h5 x hx
  simp only[Bool.and_eq_true,Bool.not_eq_true']at this;exact this.2
 have cT:∀ x∈o.new,σ.obj (x.1++t)=none:=fun x hx=>by
  have :=List.all_eq_true.1 hf x hx
  simpa using this
 have Xc:∀ nm∈L,∃ o,σ.obj nm=some o:=fun nm h=>let ⟨o,h,_⟩:=uE hL h;⟨o,h⟩
 have rE:∀ nm∈L,∀ x∈o.new,nm≠x.1++t:=fun nm h x hx e=>by
  obtain⟨o',ho⟩:=Xc nm h
  rw[e,cT x hx]at ho;cases ho
 have WN:∀ nm,bZ L nm=true->cout L t (cin L nm)=nm:=fun nm h=>Yo (fx.1 h)
 generalize eu:de L t o.new (cA L t o.upd σ.obj)=obj'
 have yF:∀ (i:Nat) (hi:i<L.length),obj' L[i]=some ((eO o.upd i (cm L σ.obj L[i])).ren (cout L t)):=fun i hi=>by
  rw[<-eu,uN _ _ (rE _ (List.getElem_mem hi))]
  refine GA hn _ _ hi _ hu ?_
  obtain⟨o',ho,hc⟩:=uE hL (List.getElem_mem hi)
  simp only[cm,ho]
  rw[O.ren_id WN o' hc]
 have CN:∀ x∈o.new,obj' (x.1++t)=some (x.2.ren (cout L t)):=fun x hx=>by rw[<-eu];exact GB _ _ h6 hx
 have CM:∀ nm,nm∉L->(∀ x∈o.new,nm≠x.1++t)->obj' nm=σ.obj nm:=fun nm h h'=>by rw[<-eu,uN _ _ h',Bf _ _ hu h]
 let φ':Name->Loc:=fun nm=>if nm∈L then φ2 (cin L nm)else match o.new.find? (fun x=>x.1++t==nm)with
  |some x=>φ2 x.1
  |none=>φ nm
 have vj:∀ (i:Nat) (hi:i<L.length),φ' L[i]=φ2 [i,1]:=fun i hi=>by
  show (if L[i]∈L then φ2 (cin L L[i])else _)=_
  rw[if_pos (List.getElem_mem hi)]
  show φ2 [idx L L[i],1]=_
  rw[Cf hn hi]
 have yo:∀ x∈o.new,φ' (x.1++t)=φ2 x.1:=fun x hx=>by
  show (if x.1++t∈L then _ else _)=_
  rw[if_neg fun h=>rE _ h x hx rfl]
  cases j6:o.new.find? (fun y=>y.1++t==x.1++t)with
  |none=>have:=List.find?_eq_none.1 j6 x hx;simp at this
  |some y=>
   have :=List.find?_some j6
   simp only[beq_iff_eq]at this
   simp only[List.append_cancel_right this]
 have yn:∀ nm,nm∉L->(∀ x∈o.new,nm≠x.1++t)->φ' nm=φ nm:=fun nm h h'=>by
  show (if nm∈L then _ else _)=_
  rw[if_neg h]
  cases j6:o.new.find? (fun y=>y.1++t==nm)with
  |none=>rfl
  |some y=>
   have :=List.find?_some j6
   simp only[beq_iff_eq]at this
   exact(h' y (List.mem_of_find?_eq_some j6) this.symm).elim
 let m':Mem:=fun b off=>match m2 b off with | some c=>some c | none=>m b off
 have yD:=fi.own
 have rm:∀ b,o3 L φ σ.obj b->b<w.heap.size:=fun b ⟨nm,h,⟨o',k1,k2,k3⟩,e⟩=>by rw[<-e];exact(hC.objs nm o' k1).lt k2 k3
 have CU:Mem.le m m':=by
  intro b off v h
  show (match m2 b off with | some c=>some c | none=>m b off)=some v
  cases hq:m2 b off with
  |none=>exact h
  |some c=>
   have k1:=fi.mem b off c hq
   have k2:=hC.mem b off v h
   rw[qe (fi.fr.block b (nH k2) fun ⟨nm,_,k3,e⟩=>by
    have :=hC.apart nm k3 off;rw[e,h]at this;cases this)]at k1
   have k3:World.cell? w ⟨b,off,none⟩=some c:=k1
   rw[k2]at k3;exact k3.symm
 have CT:Mem.le m2 m':=by
  intro b off v h
  show (match m2 b off with | some c=>some c | none=>m b off)=some v
  rw[h]
 have yO:∀ b off v,m' b off=some v->m2 b off=some v\/(m2 b off=none/\m b off=some v):=by
  intro b off v h
  have h':(match m2 b off with | some c=>some c | none=>m b off)=some v:=h
  cases hq:m2 b off with
  |none=>rw[hq]at h';exact .inr ⟨rfl,h'⟩
  |some c=>rw[hq]at h';exact .inl h'
 have Df:∀ x,dh L.length o.new x=true->(∃ (i:Nat) (hi:i<L.length),x=[i,1])\/(c9 x=false/\∃ y∈o.new,y.1=x):=by
  intro x hx
  unfold dh at hx
  split at hx
  ·rename_i i
   exact .inl ⟨i,by simpa using hx,rfl⟩
  ·obtain⟨y,hy,e⟩:=List.any_eq_true.1 hx
   simp only[beq_iff_eq]at e
   subst e
   exact .inr ⟨CP y hy,y,hy,rfl⟩
 have tJ:∀ (i:Nat) (hi:i<L.length),cout L t [i,1]=L[i]:=fun i hi=>j9 hi
 have j5:∀ (i:Nat) (hi:i<L.length),σ2.obj [i,1]=some (eO o.upd i (cm L σ.obj L[i])):=fun i hi=>by
  have :=h1 i (by simpa using hi)
  simpa using this
 have Cz:wT (cout L t) φ2 φ' σ2.obj obj' (dh L.length o.new):=by
  intro x q hd hq
  rcases Df x hd with⟨i,hi,rfl⟩ | ⟨hi,y,hy,rfl⟩
  ·rw[tJ i hi,yF i hi,vj i hi]
   rw[j5 i hi]at hq;cases hq
   exact⟨_,rfl,.inl ⟨O.len_ren _ _,rfl,O.sz_ren _ _⟩⟩
  ·rw[tY hi,CN y hy,yo y hy]
   rw[h2 y hy]at hq;cases hq
   exact⟨_,rfl,.inl ⟨O.len_ren _ _,rfl,O.sz_ren _ _⟩⟩
 have Wt:∀ (i:Nat) (hi:i<L.length),O.clos (dh L.length o.new) (eO o.upd i (cm L σ.obj L[i]))=true:=by
  intro i hi
  refine HI _ _ _ ?_ yu
  obtain⟨o',ho,hc⟩:=uE hL (List.getElem_mem hi)
  simp only[cm,ho]
  refine O.clos_ren (fun nm hd=>?_) o' hc
  obtain⟨k1,_⟩:=tp (fx.1 hd)
  show decide (idx L nm<L.length)=true
  simpa using k1
 have yV:Ext φ φ' σ.obj obj':=by
  intro nm q hq
  by_cases fy:nm∈L
  ·obtain⟨i,hi,rfl⟩:=List.getElem_of_mem fy
   obtain⟨Bw,k1,k2⟩:=fi.kept.2 [i,1] (cm L σ.obj L[i]) (by
    show jr L σ.obj [i,1]=_
    show (if i<L.length then _ else _)=_
    rw[if_pos hi,j9 hi])
   have U9:Bw=eO o.upd i (cm L σ.obj L[i]):=by rw[j5 i hi]at k1;exact(Option.some.inj k1).symm
   subst U9
   have Vl:lZ L φ [i,1]=φ L[i]:=by show φ (L.getD i [])=_;rw[j9 hi]
   have cF:(cm L σ.obj L[i]).len?=q.len?/\(cm L σ.obj L[i]).sz=q.sz:=by
    simp only[cm,hq];exact⟨O.len_ren _ _,O.sz_ren _ _⟩
   refine⟨_,yF i hi,?_⟩
   rw[O.len_ren,O.sz_ren,vj i hi]
   rcases k2 with⟨a1,a2,a3⟩ | ⟨n,n',a1,a2,a3⟩
   ·exact .inl ⟨a1.trans cF.1,(a2:φ2 [i,1]=lZ L φ [i,1]).trans Vl,a3.trans cF.2⟩
   ·exact .inr ⟨n,n',cF.1▸a1,a2,a3⟩
  ·have pP:∀ x∈o.new,nm≠x.1++t:=fun x hx e=>by rw[e,cT x hx]at hq;cases hq
   exact⟨q,by rw[CM nm fy pP];exact hq,.inl ⟨rfl,yn nm fy pP,rfl⟩⟩
 have tK:∀ nm,holds φ' obj' nm->(∃ x,holds φ2 σ2.obj x/\φ' nm=φ2 x/\nm=cout L t x/\dh L.length o.new x=true)\/(nm∉L/\(∀ x∈o.new,nm≠x.1++t)/\holds φ σ.obj nm/\φ' nm=φ nm):=by
  rintro nm ⟨q,k1,k2,k3⟩
  by_cases fy:nm∈L
  ·obtain⟨i,hi,rfl⟩:=List.getElem_of_mem fy
   left
   rw[yF i hi]at k1;cases k1
   rw[O.mut_ren]at k2
   rw[vj i hi]at k3
   exact⟨[i,1],⟨_,j5 i hi,k2,k3⟩,vj i hi,(tJ i hi).symm,by show decide (i<L.length)=true;simpa using hi⟩
  ·by_cases pP:∃ x∈o.new,nm=x.1++t
   ·obtain⟨x,hx,rfl⟩:=pP
    left
    rw[CN x hx]at k1;cases k1
    rw[O.mut_ren]at k2
    rw[yo x hx]at k3
    refine⟨x.1,⟨_,h2 x hx,k2,k3⟩,yo x hx,(tY (CP x hx)).symm,?_⟩
    exact X0 (CP x hx) hx
   ·have ra:∀ x∈o.new,nm≠x.1++t:=fun x hx e=>pP ⟨x,hx,e⟩
    right
    rw[CM nm fy ra]at k1
    rw[yn nm fy ra]at k3
    exact⟨fy,ra,⟨q,k1,k2,k3⟩,yn nm fy ra⟩
 have eP:∀ nm,nm∉L->holds φ σ.obj nm->(φ nm).blk<w.heap.size/\¬ o3 L φ σ.obj (φ nm).blk:=by
  intro nm fy hh
  obtain⟨q,k1,k2,k3⟩:=hh
  refine⟨(hC.objs nm q k1).lt k2 k3,fun ⟨x,k4,k5,k6⟩=>?_⟩
  exact fy (hC.inj _ _ k5 ⟨q,k1,k2,k3⟩ k6▸k4)
 have aet:∀ x y,dh L.length o.new x=true->dh L.length o.new y=true->cout L t x=cout L t y->x=y:=by
  intro x y hx hy e
  rcases Df x hx with⟨i,hi,rfl⟩ | ⟨k1,x',bz,rfl⟩<;>rcases Df y hy with⟨j,hj,rfl⟩ | ⟨k2,y',Vq,rfl⟩
  ·rw[tJ i hi,tJ j hj]at e
   rw[(List.getElem_inj hn).1 e]
  ·rw[tJ i hi,tY k2]at e
   exact(rE _ (List.getElem_mem hi) y' Vq e).elim
  ·rw[tJ j hj,tY k1]at e
   exact(rE _ (List.getElem_mem hj) x' bz e.symm).elim
  ·rw[tY k1,tY k2]at e
   exact List.append_cancel_right e
 refine⟨φ',m',CU,?_,yV,fun d u hd hc=>hd.renx CT Cz hc⟩
 constructor
 ·exact fun x=>(hC.tmps x).ext CU yV
 ·exact hC.size
 ·obtain⟨ds,k1,k2,k3⟩:=hC.defers
  refine⟨ds,k1,k2,fun D hD=>⟨(k3 D hD).1,?_⟩⟩
  have k4:=(k3 D hD).2
  rw[fi.fr.block D (Array.getElem?_eq_some_iff.1 k4).1 fun ⟨x,_,⟨q,k5,k6,k7⟩,k8⟩=>(hC.objs x q k5).notDef k6 k7 _ (by rw[k8];exact k4)]
  exact k4
 ·intro nm q hq
  by_cases fy:nm∈L
  ·obtain⟨i,hi,rfl⟩:=List.getElem_of_mem fy
   have cz:obj' L[i]=some q:=hq
   rw[yF i hi]at cz;cases cz
   rw[vj i hi]
   exact(fi.objs _ _ (j5 i hi)).ren CT Cz (Wt i hi) fun _ _=>rfl
  ·by_cases pP:∃ x∈o.new,nm=x.1++t
   ·obtain⟨x,hx,rfl⟩:=pP
    have cz:obj' (x.1++t)=some q:=hq
    rw[CN x hx]at cz;cases cz
    rw[yo x hx]
    exact(fi.objs _ _ (h2 x hx)).ren CT Cz (V0 x hx) fun _ _=>rfl
   ·have ra:∀ x∈o.new,nm≠x.1++t:=fun x hx e=>pP ⟨x,hx,e⟩
    have cz:obj' nm=some q:=hq
    rw[CM nm fy ra]at cz
    rw[yn nm fy ra]
    refine(hC.objs nm q cz).ext CU yV fun k2 k3=>?_
    obtain⟨k4,k5⟩:=eP nm fy ⟨q,cz,k2,k3⟩
    exact fi.fr.block _ k4 k5
 ·intro b off v h
  rcases yO b off v h with h | ⟨pQ,h⟩
  ·exact fi.mem b off v h
  ·have k2:=hC.mem b off v h
   rw[qe (fi.fr.block b (nH k2) fun ⟨nm,_,k3,e⟩=>by
    have :=hC.apart nm k3 off;rw[e,h]at this;cases this)]
   exact k2
 ·intro nm hh off
  rcases tK nm hh with⟨x,k1,k2,_,_⟩ | ⟨k1,k2,k3,k4⟩
  ·rw[k2]
   cases hq:m' (φ2 x).blk off with
   |none=>rfl
   |some v=>
    rcases yO _ _ _ hq with h | ⟨_,h⟩
    ·have:=fi.apart x k1 off;rw[h]at this;cases this
    ·rcases yD x k1 with h' | ⟨jM,k5,k6,k7⟩
     ·have:=nH (hC.mem _ _ _ h)
      have gl:w.heap.size<=(φ2 x).blk:=h'
      omega
     ·have:=hC.apart jM k6 off
      rw[k7,h]at this;cases this
  ·rw[k4]
   obtain⟨k5,k6⟩:=eP nm k1 k3
   cases hq:m' (φ nm).blk off with
   |none=>rfl
   |some v=>
    rcases yO _ _ _ hq with h | ⟨_,h⟩
    ·rcases fi.fresh _ _ _ h with h' | h' | h'
     ·have:=hC.apart nm k3 off
      have gl:m (φ nm).blk off=some v:=h'
      rw[gl]at this;cases this
     ·have gl:w.heap.size<=(φ nm).blk:=h'
      omega
     ·exact(k6 h').elim
    ·have:=hC.apart nm k3 off;rw[h]at this;cases this
 ·intro nm jM hh Wk e
  rcases tK nm hh with⟨x,k1,k2,k3,k4⟩ | ⟨k1,k2,k3,k4⟩<;>rcases tK jM Wk with⟨x',j1,j2,j3,j4⟩ | ⟨j1,j2,j3,j4⟩
  ·rw[k2,j2]at e
   rw[k3,j3,fi.inj _ _ k1 j1 e]
  ·exfalso
   rw[k2,j4]at e
   obtain⟨k5,k6⟩:=eP jM j1 j3
   rcases yD x k1 with h' | h'
   ·have gl:w.heap.size<=(φ2 x).blk:=h'
    omega
   ·rw[e]at h';exact k6 h'
  ·exfalso
   rw[k4,j2]at e
   obtain⟨k5,k6⟩:=eP nm k1 k3
   rcases yD x' j1 with h' | h'
   ·have gl:w.heap.size<=(φ2 x').blk:=h'
    omega
   ·rw[<-e]at h';exact k6 h'
  ·rw[k4,j4]at e
   exact hC.inj _ _ k3 j3 e
 ·intro nm hh
  rcases tK nm hh with⟨x,k1,k2,_,_⟩ | ⟨k1,k2,k3,k4⟩
  ·rw[k2]
   rcases yD x k1 with h' | ⟨jM,k5,k6,k7⟩
   ·exact .inl (Nat.le_trans hC.fr.size h')
   ·rw[<-k7];exact hC.own jM k6
  ·rw[k4];exact hC.own nm k3
 ·refine⟨fi.fr.os.trans hC.fr.os,fi.fr.tape.trans hC.fr.tape,fi.fr.output.trans hC.fr.output,Nat.le_trans hC.fr.size fi.fr.size,fun b hb ho=>?_⟩
  rw[fi.fr.block b (Nat.lt_of_lt_of_le hb hC.fr.size) fun ⟨nm,_,k3,e⟩=>?_]
  ·exact hC.fr.block b hb ho
  ·rcases hC.own nm k3 with h | h<;>rw[e]at h
   ·omega
   ·exact ho h
 ·intro b off v h
  rcases yO b off v h with h | ⟨_,h⟩
  ·rcases fi.fresh _ _ _ h with h' | h' | ⟨nm,_,k3,e⟩
   ·exact hC.fresh _ _ _ h'
   ·exact .inr (.inl (Nat.le_trans hC.fr.size h'))
   ·rw[<-e];exact .inr (hC.own nm k3)
  ·exact hC.fresh _ _ _ h
 ·exact⟨hC.kept.1,hC.kept.2.trans yV⟩
end
def cZ:Nat->List D->List (Nat×E)
 |_,[]=>[]
 |k,x::r=>(k,⟨true,x⟩)::cZ (k+1) r
theorem ML:∀ {k:Nat} {xs:List D} {t:Nat} {e:E},(t,e)∈cZ k xs->∃ (i:Nat) (h:i<xs.length),t=k+i/\e=⟨true,xs[i]⟩
 |k,[],t,e,h=>by simp[cZ]at h
 |k,x::r,t,e,h=>by
  simp only[cZ,List.mem_cons,Prod.mk.injEq]at h
  rcases h with⟨rfl,rfl⟩ | h
  ·exact⟨0,by simp,rfl,rfl⟩
  ·obtain⟨i,hi,h1,h2⟩:=ML h
   exact⟨i+1,by simpa using hi,by omega,by simpa using h2⟩
structure CSpec where
 pre:List O->List D->Prop
 out:List O->List D->Out
def ca(obj:Name->Option O)(ds:List D):List O:=(reach obj ds).map (cm (reach obj ds) obj)
def cC(obj:Name->Option O)(ds:List D):List D:=D.renL (cin (reach obj ds)) ds
def CSpec.toSpec(s:CSpec):Spec where
 app obj t ds:=⟨(shut obj (reach obj ds)&&D.closL (bZ (reach obj ds)) ds&&fresh obj t (s.out (ca obj ds) (cC obj ds)).new)=true/\s.pre (ca obj ds) (cC obj ds),
  (s.out (ca obj ds) (cC obj ds)).d.ren (cout (reach obj ds) t),de (reach obj ds) t (s.out (ca obj ds) (cC obj ds)).new (cA (reach obj ds) t (s.out (ca obj ds) (cC obj ds)).upd obj)⟩
 foot obj t ds:=reach obj ds++((s.out (ca obj ds) (cC obj ds)).upd.map fun x=>(reach obj ds).getD x.1 [])++(s.out (ca obj ds) (cC obj ds)).new.map fun x=>x.1++t
 wrt obj t ds:=((s.out (ca obj ds) (cC obj ds)).upd.map fun x=>(reach obj ds).getD x.1 [])++(s.out (ca obj ds) (cC obj ds)).new.map fun x=>x.1++t
theorem sQ{L:List Name}{t:Name}:∀ (l:List (Nat×O)) (obj obj2:Name->Option O) (nm:Name),cA L t l obj2 nm=if nm∈l.map (fun x=>L.getD x.1 [])then cA L t l obj nm else obj2 nm
 |[],obj,obj2,nm=>by simp[cA]
 |(i,o)::r,obj,obj2,nm=>by
  simp only[cA,List.map_cons,List.mem_cons]
  rw[sQ r (upd obj (L.getD i []) (some (o.ren (cout L t)))) (upd obj2 (L.getD i []) (some (o.ren (cout L t)))) nm]
  by_cases h:nm∈r.map (fun x=>L.getD x.1 [])
  ·rw[if_pos h,if_pos (.inr h)]
  ·rw[if_neg h]
   by_cases e:nm=L.getD i []
   ·rw[if_pos (.inl e)]
    have hu:cA L t r (upd obj (L.getD i []) (some (o.ren (cout L t)))) nm=(upd obj (L.getD i []) (some (o.ren (cout L t)))) nm:=by
     rw[sQ r obj _ nm,if_neg h]
    rw[hu,e,aO,aO]
   ·rw[if_neg (by simp only[not_or];exact⟨e,h⟩)]
    exact aW _ _ _ e
theorem qA{L:List Name}{t:Name}:∀ (l:List (Name×O)) (obj obj2:Name->Option O) (nm:Name),de L t l obj2 nm=if nm∈l.map (fun x=>x.1++t)then de L t l obj nm else obj2 nm
 |[],obj,obj2,nm=>by simp[de]
 |(i,o)::r,obj,obj2,nm=>by
  simp only[de,List.map_cons,List.mem_cons]
  rw[qA r (upd obj (i++t) (some (o.ren (cout L t)))) (upd obj2 (i++t) (some (o.ren (cout L t)))) nm]
  by_cases h:nm∈r.map (fun x=>x.1++t)
  ·rw[if_pos h,if_pos (.inr h)]
  ·rw[if_neg h]
   by_cases e:nm=i++t
   ·rw[if_pos (.inl e)]
    have hu:de L t r (upd obj (i++t) (some (o.ren (cout L t)))) nm=(upd obj (i++t) (some (o.ren (cout L t)))) nm:=by
     rw[qA r obj _ nm,if_neg h]
    rw[hu,e,aO,aO]
   ·rw[if_neg (by simp only[not_or];exact⟨e,h⟩)]
    exact aW _ _ _ e
theorem nX{obj obj2:Name->Option O}{ds:List D}(h:bJ (reach obj ds) obj obj2):reach obj2 ds=reach obj ds:=Ba _ _ _ h
theorem wz{obj obj2:Name->Option O}{ds:List D}(h:bJ (reach obj ds) obj obj2):ca obj2 ds=ca obj ds:=by
 unfold ca
 rw[nX h]
 exact List.map_congr_left fun nm hn=>by simp only[cm];rw[h nm hn]
theorem Ef{obj obj2:Name->Option O}{ds:List D}(h:bJ (reach obj ds) obj obj2):cC obj2 ds=cC obj ds:=by
 unfold cC
 rw[nX h]
theorem AS{obj obj2:Name->Option O}{L:List Name}(h:bJ L obj obj2):shut obj2 L=shut obj L:=by
 unfold shut
 refine Bool.eq_iff_iff.2 ?_
 simp only[List.all_eq_true]
 exact⟨fun k x hx=>by rw[<-h x hx];exact k x hx,fun k x hx=>by rw[h x hx];exact k x hx⟩
theorem zd{obj obj2:Name->Option O}{t:Name}{new:List (Name×O)}(h:bJ (new.map fun x=>x.1++t) obj obj2):fresh obj2 t new=fresh obj t new:=by
 unfold fresh
 refine Bool.eq_iff_iff.2 ?_
 simp only[List.all_eq_true]
 exact⟨fun k x hx=>by rw[<-h _ (List.mem_map_of_mem hx)];exact k x hx,fun k x hx=>by rw[h _ (List.mem_map_of_mem hx)];exact k x hx⟩
theorem BX{ok ok2:Prop}{d:D}{obj obj2:Name->Option O}{L:List Name}{t:Name}{o:Out}(aa:ok2=ok)
 (ha:bJ ((o.upd.map fun x=>L.getD x.1 [])++o.new.map fun x=>x.1++t) obj obj2):
 bP ⟨ok,d,de L t o.new (cA L t o.upd obj)⟩ ⟨ok2,d,de L t o.new (cA L t o.upd obj2)⟩ obj obj2 ((o.upd.map fun x=>L.getD x.1 [])++o.new.map fun x=>x.1++t):=by
 refine⟨aa,rfl,fun nm=>?_,fun nm hn=>?_⟩
 ·show de L t o.new (cA L t o.upd obj2) nm=if nm∈_ then de L t o.new (cA L t o.upd obj) nm else obj2 nm
  rw[qA o.new (cA L t o.upd obj) (cA L t o.upd obj2) nm]
  by_cases h1:nm∈o.new.map (fun x=>x.1++t)
  ·rw[if_pos h1,if_pos (List.mem_append_right _ h1)]
  ·rw[if_neg h1,sQ o.upd obj obj2 nm]
   by_cases h2:nm∈o.upd.map (fun x=>L.getD x.1 [])
   ·rw[if_pos h2,if_pos (List.mem_append_left _ h2)]
    rw[qA o.new obj (cA L t o.upd obj) nm,if_neg h1]
   ·rw[if_neg h2,if_neg (by simp only[List.mem_append,not_or];exact⟨h2,h1⟩)]
 ·show de L t o.new (cA L t o.upd obj) nm=obj nm
  simp only[List.mem_append,not_or]at hn
  rw[qA o.new obj (cA L t o.upd obj) nm,if_neg hn.2,sQ o.upd obj obj nm,if_neg hn.1]
theorem CSpec.near(s:CSpec):s.toSpec.Near:=by
 have key:∀ {obj obj2:Name->Option O} {t:Name} {ds:List D},bJ (s.toSpec.foot obj t ds) obj obj2->bJ (reach obj ds) obj obj2/\
     bJ (((s.out (ca obj ds) (cC obj ds)).upd.map fun x=>(reach obj ds).getD x.1 [])++(s.out (ca obj ds) (cC obj ds)).new.map fun x=>x.1++t) obj obj2:=by
  intro obj obj2 t ds h
  refine⟨fun nm hn=>h nm ?_,fun nm hn=>h nm ?_⟩
  ·exact List.mem_append_left _ (List.mem_append_left _ hn)
  ·rcases List.mem_append.1 hn with hn | hn
   ·exact List.mem_append_left _ (List.mem_append_right _ hn)
   ·exact List.mem_append_right _ hn
 refine⟨fun obj obj2 t ds h=>?_,fun obj obj2 t ds h=>?_,fun obj t ds nm hn=>?_,fun obj obj2 t ds h=>?_⟩
 ·obtain⟨h1,h2⟩:=key h
  simp only[CSpec.toSpec]
  rw[wz h1,Ef h1,nX h1]
  refine BX ?_ h2
  rw[AS h1,zd fun nm hn=>h2 nm (List.mem_append_right _ hn)]
 ·obtain⟨h1,h2⟩:=key h
  simp only[CSpec.toSpec]
  rw[wz h1,Ef h1,nX h1]
 ·simp only[CSpec.toSpec]at hn |-
  rcases List.mem_append.1 hn with hn | hn
  ·exact List.mem_append_left _ (List.mem_append_right _ hn)
  ·exact List.mem_append_right _ hn
 ·obtain⟨h1,h2⟩:=key h
  simp only[CSpec.toSpec]
  rw[wz h1,Ef h1,nX h1]
def qC(σ:S)(u:List (Nat×O)):Nat->List O->Prop
 |_,[]=>True
 |i,o::r=>σ.obj [i,1]=some (eO u i o)/\qC σ u (i+1) r
theorem G8{σ:S}{u:List (Nat×O)}:∀ {l:List O} {k:Nat},qC σ u k l->∀ i (h:i<l.length),σ.obj [k+i,1]=some (eO u (k+i) l[i])
 |o::r,k,h,0,_=>h.1
 |o::r,k,h,i+1,hi=>by
  have :=G8 h.2 i (by simpa using hi)
  rw[show k+(i+1)=k+1+i by omega]
  simpa using this
def uR(σ:S):List (Name×O)->Prop
 |[]=>True
 |x::r=>σ.obj x.1=some x.2/\uR σ r
theorem Hd{σ:S}:∀ {l:List (Name×O)},uR σ l->∀ x∈l,σ.obj x.1=some x.2
 |y::r,h,x,hx=>by
  rcases List.mem_cons.1 hx with rfl | hx
  ·exact h.1
  ·exact Hd h.2 x hx
def distinct:List Name->Bool
 |[]=>true
 |x::r=>(r.all fun y=>!(x==y))&&distinct r
theorem LD:∀ {l:List Name},distinct l=true->l.Nodup
 |[],_=>by simp
 |x::r,h=>by
  simp only[distinct,Bool.and_eq_true]at h
  refine List.nodup_cons.2 ⟨fun hx=>?_,LD h.2⟩
  have :=List.all_eq_true.1 h.1 x hx
  simp at this
def fC(os:List O)(o:Out)(σ:S):Prop:=
 qC σ o.upd 0 os/\uR σ o.new/\
  (D.clos (dh os.length o.new) o.d&&(o.upd.all fun x=>O.clos (dh os.length o.new) x.2&&decide (x.1<os.length))&&(o.new.all fun x=>O.clos (dh os.length o.new) x.2&&!c9 x.1)&&distinct (o.new.map (·.1)))=true
theorem Ly{os:List O}{o:Out}{σ:S}(h:fC os o σ):Nv σ os o:=by
 obtain⟨h1,h2,h3⟩:=h
 simp only[Bool.and_eq_true]at h3
 exact⟨fun i hi=>by simpa using G8 h1 i hi,Hd h2,h3.1.1.1,h3.1.1.2,by simpa using h3.1.2,LD h3.2⟩
def uK(P:Program)(rs:List ResultVar)(os:List O)(o:Out):Exit->S->Prop
 | .normal,σ=>(bL P σ rs).ok/\(bL P σ rs).d=o.d/\fC os o σ
 | .ret,σ=>(bL P σ rs).ok/\(bL P σ rs).d=o.d/\fC os o σ
 |_,_=>False
def aM(os:List O):Name->Option O
 |[i,1]=>os[i]?
 |_=>none
theorem Rf{L:List Name}{obj:Name->Option O}{x:Name}(h:c9 x=false):jr L obj x=none:=by
 unfold jr
 split
 ·simp[c9]at h
 ·rfl
theorem xE{os:List O}{x:Name}(h:c9 x=false):aM os x=none:=by
 unfold aM
 split
 ·simp[c9]at h
 ·rfl
theorem xN{L:List Name}{obj:Name->Option O}:jr L obj=aM (L.map (cm L obj)):=by
 funext x
 cases hx:c9 x with
 |false=>rw[Rf hx,xE hx]
 |true=>
  obtain⟨i,rfl⟩:=th.1 hx
  show (if i<L.length then some (cm L obj (L.getD i []))else none)=(L.map (cm L obj))[i]?
  by_cases hi:i<L.length
  ·rw[if_pos hi,List.getElem?_eq_getElem (by simpa using hi)]
   rw[j9 hi,List.getElem_map]
  ·rw[if_neg hi,List.getElem?_eq_none (by simpa using hi)]
theorem BI{nt:Nat}{l:List (Nat×E)}{os:List O}:be nt [0] (aM os) l []=⟨nt,dm eAny l,aM os,[0],0⟩:=by
 unfold be
 congr 1
 funext nm
 split
 ·rename_i h
  have :c9 nm=false:=by
   cases hc:c9 nm with
   |false=>rfl
   |true=>
    obtain⟨i,rfl⟩:=th.1 hc
    rw[GM]at h;cases h
  unfold aM
  split
  ·simp[c9]at this
  ·rfl
 ·rfl
theorem kV{P:Program}{f:FuncId}{fn:Func}{c:Code}{s:CSpec}{nt:Nat}{rs:List ResultVar}(hf:P.funcs[f]?=some fn)(hb:fn.body=some c)(cM:fn.ntmps=nt)(ck:fn.results.toList=rs)
 (kO:∀ args w,(callFunc f args).run P w=.ok (.enter f args) w) (aB:f≠yid)
 (h:∀ os ds,s.pre os ds->ds.length<=nt/\CW P c (be nt [0] (aM os) (cZ 0 ds) []) (uK P rs os (s.out os ds))):aF P f s.toSpec:=by
 subst cM
 subst ck
 refine⟨s.near,fun _=>kO,fun _ G φ m σ a w hC t ds us _ hl hr aa=>?_,fun e=>(aB e).elim⟩
 obtain⟨aa,dg⟩:=aa
 simp only[Bool.and_eq_true]at aa
 obtain⟨⟨gw,cF⟩,cT⟩:=aa
 obtain⟨hlen,mB⟩:=h _ _ dg
 have bR:(reach σ.obj ds).Nodup:=xy _ _ _ (by simp)
 simp only[cC,jK,List.length_map]at hlen
 refine(callsIn_wide (n:=0)).1 (callsIn_of_wp_marks hf hb trivial ?_)
 have jY:=KV hC (L:=reach σ.obj ds) bR gw (rd:=none) (fun l h=>by cases h) (b0:=0) (nt:=fn.ntmps) (env:=dm eAny (cZ 0 (cC σ.obj ds)))
  (tmps:=us++Array.replicate (fn.ntmps-us.size) undef) (by simp;omega) (fun t=>by
    rcases sU (z:=eAny) (cZ 0 (cC σ.obj ds)) t with h1 | h1
    ·rw[h1];unfold cD eAny;simp;exact .any _
    ·obtain⟨i,hi,h2,h3⟩:=ML h1
     rw[h3]
     unfold cD
     simp only[if_true]
     simp only[cC,jK,List.length_map]at hi
     have bE:i<us.size:=by omega
     have e:((us++Array.replicate (fn.ntmps-us.size) undef).getD t undef)=us[i]:=by
      have ao:0+i<(us++Array.replicate (fn.ntmps-us.size) undef).size:=by simp;omega
      rw[h2]
      simp only[Array.getD,ao,dite_true]
      show (us++Array.replicate (fn.ntmps-us.size) undef)[0+i]=us[i]
      simp only[Nat.zero_add]
      exact Array.getElem_append_left bE
     rw[e]
     simp only[cC,jK,List.getElem_map]
     exact(hr i hi bE).renx (Mem.le_refl m) xw (iw hi cF))
 rw[BI]at mB
 rw[xN]at jY
 refine wpIn_mono (mB _ _ m _ w jY) ?_
 rintro e a1 w1 ⟨φ2,m2,σ2,gB,hK⟩
 have fin:(bL P σ2 fn.results.toList).ok/\(bL P σ2 fn.results.toList).d=(s.out (ca σ.obj ds) (cC σ.obj ds)).d/\fC (ca σ.obj ds) (s.out (ca σ.obj ds) (cC σ.obj ds)) σ2->
     LeavesInM Fence.wide 0 P fn a1.tmps (fun e w'=>∃ v φ' m',e=.returned v/\aQ G φ' m' { σ with obj:=(s.toSpec.app σ.obj t ds).obj } a w'/\aD φ' (s.toSpec.app σ.obj t ds).obj m' (s.toSpec.app σ.obj t ds).d v/\Ext φ φ' σ.obj (s.toSpec.app σ.obj t ds).obj) a1.defers .returning w1:=by
  rintro⟨h1,h2,h3⟩
  refine B0 a1.defers rfl gB fun a' w' _ cG=>?_
  obtain⟨v,h4,h5⟩:=Gd cG fn h1
  rw[h2]at h5
  have hE:=Ly h3
  obtain⟨φ',m',k1,k2,k3,k4⟩:=KU hC bR gw cG hE cT
  have nz:=hE.cd
  simp only[ca,List.length_map]at nz
  exact⟨v,h4,v,φ',m',rfl,k2,k4 _ _ h5 nz,k3⟩
 cases e with
 |normal=>exact fin hK
 |ret=>exact fin hK
 |_=>exact hK.elim
theorem bP.more{ok ok2:Prop}{d d2:D}{o1 o2 obj obj2:Name->Option O}{wr:List Name}(nm:Name)(x:Option O)(h:bP ⟨ok,d,o1⟩ ⟨ok2,d2,o2⟩ obj obj2 wr):
 bP ⟨ok,d,upd o1 nm x⟩ ⟨ok2,d2,upd o2 nm x⟩ obj obj2 (nm::wr):=by
 refine⟨h.ok,h.d,fun y=>?_,fun y hy=>?_⟩
 ·show upd o2 nm x y=if y∈nm::wr then upd o1 nm x y else obj2 y
  by_cases e:y=nm
  ·subst e;rw[aO,if_pos (by simp),aO]
  ·rw[aW _ _ _ e,aW _ _ _ e]
   have :=h.eff y
   simp only at this
   rw[this]
   by_cases hy:y∈wr
   ·rw[if_pos hy,if_pos (List.mem_cons_of_mem _ hy)]
   ·rw[if_neg hy,if_neg (by simp[e,hy])]
 ·simp only[List.mem_cons,not_or]at hy
  show upd o1 nm x y=obj y
  rw[aW _ _ _ hy.1]
  exact h.frame y hy.2
structure YSpec where
 pre:List E->List Nat->Code->Code->List O->List D->Prop
 out:List E->List Nat->Code->Code->List O->List D->Out×Option Code
def roots(env:List E)(ds:List D):List D:=env.map (·.d)++ds
def gV(obj:Name->Option O)(env:List E)(ds:List D):List E:=env.map (E.ren (cin (reach obj (roots env ds))))
def jh(obj:Name->Option O)(env:List E)(ds:List D):List D:=D.renL (cin (reach obj (roots env ds))) ds
def YSpec.o(y:YSpec)(obj:Name->Option O)(env:List E)(ps:List Nat)(asg body:Code)(ds:List D):Out×Option Code:=
 y.out (gV obj env ds) ps asg body (ca obj (roots env ds)) (jh obj env ds)
def YSpec.toSpec(y:YSpec):Spec where
 app obj t args:=match args with
  | .yld nm::ds=>match obj nm with
    |some (.loop env ps asg body .ready none)=>
     ⟨(shut obj (reach obj (roots env ds))&&D.closL (bZ (reach obj (roots env ds))) (roots env ds)&&fresh obj t (y.o obj env ps asg body ds).1.new&&!bZ (reach obj (roots env ds)) nm&&
         decide (ds.length=ps.length)&&(ps.all fun p=>decide (p<env.length)))=true/\y.pre (gV obj env ds) ps asg body (ca obj (roots env ds)) (jh obj env ds),
       .v (.bool (y.o obj env ps asg body ds).2.isNone),
       upd (de (reach obj (roots env ds)) t (y.o obj env ps asg body ds).1.new (cA (reach obj (roots env ds)) t (y.o obj env ps asg body ds).1.upd obj)) nm
        (some (.loop env ps asg body (if (y.o obj env ps asg body ds).2.isNone then .ready else .done) (y.o obj env ps asg body ds).2))⟩
    |_=>.bad obj
  |_=>.bad obj
 foot obj t args:=match args with
  | .yld nm::ds=>nm::(match obj nm with
    |some (.loop env ps asg body .ready none)=>reach obj (roots env ds)++((y.o obj env ps asg body ds).1.upd.map fun x=>(reach obj (roots env ds)).getD x.1 [])++(y.o obj env ps asg body ds).1.new.map fun x=>x.1++t
    |_=>[])
  |_=>[]
 wrt obj t args:=match args with
  | .yld nm::ds=>nm::(match obj nm with
    |some (.loop env ps asg body .ready none)=>((y.o obj env ps asg body ds).1.upd.map fun x=>(reach obj (roots env ds)).getD x.1 [])++(y.o obj env ps asg body ds).1.new.map fun x=>x.1++t
    |_=>[])
  |_=>[]
theorem YSpec.near(y:YSpec):y.toSpec.Near:=by
 have Bu:∀ {obj obj2:Name->Option O} {env:List E} {ps:List Nat} {asg body:Code} {ds:List D},bJ (reach obj (roots env ds)) obj obj2->
     y.o obj2 env ps asg body ds=y.o obj env ps asg body ds/\gV obj2 env ds=gV obj env ds/\jh obj2 env ds=jh obj env ds:=by
  intro obj obj2 env ps asg body ds h
  unfold YSpec.o gV jh
  rw[wz h,nX h]
  exact⟨rfl,rfl,rfl⟩
 have split:∀ {A B C:List Name} {obj obj2:Name->Option O} {nm:Name},bJ (nm::(A++B++C)) obj obj2->bJ A obj obj2/\bJ (B++C) obj obj2:=by
  intro A B C obj obj2 nm h
  refine⟨fun x hx=>h x ?_,fun x hx=>h x ?_⟩
  ·exact List.mem_cons_of_mem _ (List.mem_append_left _ (List.mem_append_left _ hx))
  ·rcases List.mem_append.1 hx with hx | hx
   ·exact List.mem_cons_of_mem _ (List.mem_append_left _ (List.mem_append_right _ hx))
   ·exact List.mem_cons_of_mem _ (List.mem_append_right _ hx)
 have zL:∀ (args:List D),(∃ nm ds,args=.yld nm::ds)\/(∀ obj t,y.toSpec.app obj t args=.bad obj/\y.toSpec.foot obj t args=[]/\y.toSpec.wrt obj t args=[]):=by
  intro args
  rcases args with _ | ⟨d,ds⟩
  ·exact .inr fun _ _=>⟨rfl,rfl,rfl⟩
  ·cases d with
   |yld nm=>exact .inl ⟨nm,ds,rfl⟩
   |_=>exact .inr fun _ _=>⟨rfl,rfl,rfl⟩
 refine⟨fun obj obj2 t args h=>?_,fun obj obj2 t args h=>?_,fun obj t args jM hn=>?_,fun obj obj2 t args h=>?_⟩
 ·rcases zL args with⟨nm,ds,rfl⟩ | hb
  ·simp only[YSpec.toSpec]at h |-
   have h0:obj2 nm=obj nm:=h nm (by simp)
   rw[h0]
   split
   ·rename_i env ps asg body ho
    simp only[ho]at h
    obtain⟨h1,h2⟩:=split h
    obtain⟨e1,e2,e3⟩:=Bu (ps:=ps) (asg:=asg) (body:=body) h1
    rw[e1,e2,e3,wz h1,nX h1]
    refine bP.more nm _ (BX ?_ h2)
    rw[AS h1,zd fun nm hn=>h2 nm (List.mem_append_right _ hn)]
   ·exact .none _ fun x hx=>by simp only[List.mem_singleton]at hx;subst hx;exact h0
  ·rw[(hb obj t).1,(hb obj2 t).1,(hb obj t).2.2]
   exact .same rfl rfl rfl rfl
 ·rcases zL args with⟨nm,ds,rfl⟩ | hb
  ·simp only[YSpec.toSpec]at h |-
   have h0:obj2 nm=obj nm:=h nm (by simp)
   rw[h0]
   split
   ·rename_i env ps asg body ho
    simp only[ho]at h
    obtain⟨h1,h2⟩:=split h
    obtain⟨e1,e2,e3⟩:=Bu (ps:=ps) (asg:=asg) (body:=body) h1
    rw[e1,nX h1]
   ·rfl
  ·rw[(hb obj t).2.1,(hb obj2 t).2.1]
 ·rcases zL args with⟨nm,ds,rfl⟩ | hb
  ·simp only[YSpec.toSpec]at hn |-
   rcases List.mem_cons.1 hn with rfl | hn
   ·simp
   ·refine List.mem_cons_of_mem _ ?_
    split at hn
    ·rename_i env ps asg body ho
     try simp only[ho]
     rcases List.mem_append.1 hn with hn | hn
     ·exact List.mem_append_left _ (List.mem_append_right _ hn)
     ·exact List.mem_append_right _ hn
    ·cases hn
  ·rw[(hb obj t).2.2]at hn;cases hn
 ·rcases zL args with⟨nm,ds,rfl⟩ | hb
  ·simp only[YSpec.toSpec]at h |-
   have h0:obj2 nm=obj nm:=h nm (by simp)
   rw[h0]
   split
   ·rename_i env ps asg body ho
    simp only[ho]at h
    obtain⟨h1,h2⟩:=split h
    obtain⟨e1,e2,e3⟩:=Bu (ps:=ps) (asg:=asg) (body:=body) h1
    rw[e1,nX h1]
   ·rfl
  ·rw[(hb obj t).2.2,(hb obj2 t).2.2]
def rM(env:List E):Nat->E:=fun t=>env.getD t eAny
def ph:(Nat->E)->List Nat->List D->(Nat->E)
 |f,p::ps,d::ds=>ph (upd f p ⟨true,d⟩) ps ds
 |f,_,_=>f
def GP(k:S->Prop):Exit->S->Prop
 | .normal,σ=>k σ
 |_,_=>False
def Qs(os:List O)(o:Out×Option Code):Exit->S->Prop
 | .normal,σ=>o.2=none/\fC os o.1 σ
 | .ret,σ=>o.2=some .ret/\fC os o.1 σ
 | .exit id,σ=>o.2=some (.exit id)/\fC os o.1 σ
 |_,_=>False
theorem FN{φ:Name->Loc}{obj:Name->Option O}{m:Mem}{n:Nat}:∀ (ps:List Nat) (ds:List D) (us:List Value) (f:Nat->E) (tmps:Array Value),tmps.size=n->ps.length=ds.length->ds.length=us.length->
 (∀ p∈ps,p<n)->(∀ t,cD φ obj m (f t) (tmps.getD t undef))->(∀ i (h:i<ds.length) (h':i<us.length),aD φ obj m ds[i] us[i])->
 (∀ t,cD φ obj m (ph f ps ds t) (((ps.zip us).foldl (fun tmps (p:Nat×Value)=>tmps.setIfInBounds p.1 p.2) tmps).getD t undef))/\((ps.zip us).foldl (fun tmps (p:Nat×Value)=>tmps.setIfInBounds p.1 p.2) tmps).size=n
 |[],ds,us,f,tmps,hs,h1,h2,hp,hf,hr=>by
  have :ds=[]:=List.eq_nil_of_length_eq_zero (by simpa using h1.symm)
  subst this
  exact⟨hf,hs⟩
 |p::ps,[],us,f,tmps,hs,h1,h2,hp,hf,hr=>by simp at h1
 |p::ps,d::ds,[],f,tmps,hs,h1,h2,hp,hf,hr=>by simp at h2
 |p::ps,d::ds,u::us,f,tmps,hs,h1,h2,hp,hf,hr=>by
  simp only[List.zip_cons_cons,List.foldl_cons,ph]
  refine FN ps ds us _ _ (by simpa using hs) (by simpa using h1) (by simpa using h2) (fun q hq=>hp q (by simp[hq])) (fun t=>?_) fun i a b=>by
   have :=hr (i+1) (by simpa using a) (by simpa using b)
   simpa using this
  have ab:p<tmps.size:=by rw[hs];exact hp p (by simp)
  by_cases ht:t=p
  ·subst ht
   rw[aO]
   have e:(tmps.setIfInBounds t u).getD t undef=u:=by simp[Array.getD,ab]
   rw[e]
   unfold cD
   simp only[if_true]
   exact hr 0 (by simp) (by simp)
  ·rw[aW _ _ _ ht]
   have e:(tmps.setIfInBounds p u).getD t undef=tmps.getD t undef:=by
    simp only[Array.getD_eq_getD_getElem?]
    rw[Array.getElem?_setIfInBounds_ne (fun h=>ht h.symm)]
   rw[e];exact hf t
theorem LY{wa wb:World}{m:Mem}{L:List Name}{φ:Name->Loc}{obj:Name->Option O}{l:Nat}{h h'}{φ1:Name->Loc}{m1:Mem}{σ1:S}{a1:Act}{w1 w2:World}
 (hC:aQ (rI wa m L φ obj (some l) h) φ1 m1 σ1 a1 w1) (dD:wb.heap.size=wa.heap.size/\w2.heap.size=w1.heap.size) (ho:wb.os=w2.os/\wb.tape=w2.tape/\wb.output=w2.output)
 (hb:∀ b,b≠l->wb.heap[b]?=wa.heap[b]?) (h2:∀ b,b≠l->w2.heap[b]?=w1.heap[b]?) (hl:wb.heap[l]?=w2.heap[l]?):aQ (rI wb m L φ obj (some l) h') φ1 m1 σ1 a1 w2:=by
 obtain⟨J7,r,hr⟩:=h l rfl
 have ab:l<wa.heap.size:=(Array.getElem?_eq_some_iff.1 hr).1
 have et:w1.heap[l]?=some (.loop r):=(hC.fr.block l ab J7).trans hr
 constructor
 ·exact hC.tmps
 ·exact hC.size
 ·obtain⟨ds,k1,k2,k3⟩:=hC.defers
  refine⟨ds,k1,k2,fun D hD=>?_⟩
  obtain⟨k4,k5⟩:=k3 D hD
  have aB:D≠l:=fun e=>by subst e;rw[et]at k5;cases k5
  exact⟨by show wb.heap.size<=D;rw[dD.1];exact k4,(h2 D aB).trans k5⟩
 ·intro nm o eQ
  refine(hC.objs nm o eQ).ext (Mem.le_refl _) (Ext.refl _ _) fun k1 k2=>h2 _ fun e=>?_
  rcases hC.own nm ⟨o,eQ,k1,k2⟩with h3 | h3
  ·have h4:wa.heap.size<=(φ1 nm).blk:=h3
   omega
  ·rw[e]at h3;exact J7 h3
 ·intro b off v hv
  have h3:=hC.mem b off v hv
  rw[qe (h2 b (fun e=>by subst e;unfold World.cell? at h3;simp[et]at h3))]
  exact h3
 ·exact hC.apart
 ·exact hC.inj
 ·intro nm hh
  rcases hC.own nm hh with h3 | h3
  ·exact .inl (by show wb.heap.size<=_;rw[dD.1];exact h3)
  ·exact .inr h3
 ·refine⟨ho.1.symm,ho.2.1.symm,ho.2.2.symm,by show wb.heap.size<=_;rw[dD.1,dD.2];exact hC.fr.size,fun b h3 h4=>?_⟩
  show w2.heap[b]?=wb.heap[b]?
  by_cases e:b=l
  ·subst e;exact hl.symm
  ·rw[h2 b e,hb b e]
   exact hC.fr.block b (by have:b<wb.heap.size:=h3;show b<wa.heap.size;omega) h4
 ·intro b off v hv
  rcases hC.fresh b off v hv with h3 | h3 | h3
  ·exact .inl h3
  ·exact .inr (.inl (by show wb.heap.size<=_;rw[dD.1];exact h3))
  ·exact .inr (.inr h3)
 ·exact hC.kept
theorem Md{L:List Name}{obj:Name->Option O}{nm:Name}{x:Option O}(h:nm∉L){y:Name}(hy:y∈L):cm L (upd obj nm x) y=cm L obj y:=by
 unfold cm
 rw[aW _ _ _ (by rintro rfl;exact h hy)]
theorem Re{L:List Name}{obj:Name->Option O}{nm:Name}{x:Option O}(h:nm∉L):jr L (upd obj nm x)=jr L obj:=by
 rw[xN,xN]
 congr 1
 exact List.map_congr_left fun y hy=>Md h hy
theorem Kq{L:List Name}{φ:Name->Loc}{obj:Name->Option O}{nm:Name}{x:Option O}(h:nm∉L):o3 L φ (upd obj nm x)=o3 L φ obj:=by
 funext b
 refine propext ⟨fun ⟨y,h1,⟨o,h2,h3⟩,h4⟩=>?_,fun ⟨y,h1,⟨o,h2,h3⟩,h4⟩=>?_⟩
 ·rw[aW _ _ _ (by rintro rfl;exact h h1)]at h2
  exact⟨y,h1,⟨o,h2,h3⟩,h4⟩
 ·exact⟨y,h1,⟨o,by rw[aW _ _ _ (by rintro rfl;exact h h1)];exact h2,h3⟩,h4⟩
theorem XA{w:World}{m:Mem}{L:List Name}{φ:Name->Loc}{obj:Name->Option O}{nm:Name}{x:Option O}{rd:Option Nat}(h:nm∉L){h1}{h2}:rI w m L φ (upd obj nm x) rd h1=rI w m L φ obj rd h2:=by
 unfold rI
 simp only[Re h,Kq h]
theorem E6{P:Program}{y:YSpec}(h:∀ env ps asg body os ds,y.pre env ps asg body os ds->ds.length=ps.length->
 CW P asg ⟨env.length,ph (rM env) ps ds,aM os,[0],0⟩ (GP fun σ1=>CW P body σ1 (Qs os (y.out env ps asg body os ds)))):aF P yid y.toSpec:=by
 refine⟨y.near,fun e=>(e rfl).elim,fun e=>(e rfl).elim,fun _ G φ m σ a w hC t nm ds us _ hl hr _ aa o Ww=>?_⟩
 simp only[YSpec.toSpec]at aa |-
 split at aa
 case h_2=>exact aa.elim
 rename_i env ps asg body aA
 try simp only[aA]
 obtain⟨aa,dg⟩:=aa
 simp only[Bool.and_eq_true,Bool.not_eq_true',decide_eq_true_eq]at aa
 obtain⟨⟨⟨⟨⟨gw,cF⟩,cT⟩,J8⟩,hlen⟩,fh⟩:=aa
 have fy:nm∉reach σ.obj (roots env ds):=fun h=>by rw[fx.2 h]at J8;cases J8
 have bR:(reach σ.obj (roots env ds)).Nodup:=xy _ _ _ (by simp)
 obtain⟨_,dB,r,et,fJ,hr3,CB,JW,JV,JU,JT⟩:=hC.objs nm _ aA
 have ab:(φ nm).blk<w.heap.size:=(Array.getElem?_eq_some_iff.1 et).1
 have rm:¬ o3 (reach σ.obj (roots env ds)) φ σ.obj (φ nm).blk:=fun ⟨x,k1,k2,k3⟩=>fy (hC.inj _ _ k2 ⟨_,aA,rfl,dB⟩ k3▸k1)
 have mr:r.params.size=ps.length:=by rw[<-CB];simp
 intro next Q qZ
 rw[Ww,run_yield et (by omega),Oper.uponIn_round]
 refine⟨fun h=>(by simp[fB,Fence.wide]at h),?_⟩
 rw[JW,JV]
 refine roundIn_of_wpIn trivial ?_
 have aeu:=cF
 have WM:∀ i (h:i<env.length),D.clos (bZ (reach σ.obj (roots env ds))) env[i].d=true:=fun i hi=>by
  have :=iw (l:=roots env ds) (i:=i) (by simp[roots];omega) cF
  simp only[roots]at this |-
  rw[List.getElem_append_left (by simpa using hi)]at this
  simpa using this
 have WL:∀ i (h:i<ds.length),D.clos (bZ (reach σ.obj (roots env ds))) ds[i]=true:=fun i hi=>by
  have :=iw (l:=roots env ds) (i:=env.length+i) (by simp[roots];omega) cF
  simp only[roots]at this |-
  rw[List.getElem_append_right (by simp)]at this
  simpa using this
 obtain⟨q1,q2⟩:=FN (φ:=lZ (reach σ.obj (roots env ds)) φ) (obj:=jr (reach σ.obj (roots env ds)) σ.obj) (m:=m) (n:=env.length) ps (jh σ.obj env ds) us.toList (rM (gV σ.obj env ds)) r.tmps JU
  (by simp[jh,jK];omega) (by simp[jh,jK];omega) (fun p hp=>by have:=List.all_eq_true.1 fh p hp;simpa using this)
  (fun t=>by
    unfold rM
    by_cases ht:t<env.length
    ·have:=(JT t ht).renx (Mem.le_refl m) xw (WM t ht)
     have e:(gV σ.obj env ds).getD t eAny=E.ren (cin (reach σ.obj (roots env ds))) env[t]:=by
      rw[List.getD_eq_getElem?_getD,List.getElem?_eq_getElem (by simpa[gV]using ht)];simp[gV]
     rw[e];exact this
    ·have e:(gV σ.obj env ds).getD t eAny=eAny:=by
       rw[List.getD_eq_getElem?_getD,List.getElem?_eq_none (by simp[gV];omega)];rfl
     rw[e];unfold cD eAny;simp;exact .any _)
  (fun i a b=>by
    simp only[jh,jK,List.length_map]at a
    have :=(hr i a (by simpa using b)).renx (Mem.le_refl m) xw (WL i a)
    simpa[jh,jK]using this)
 have jY:=KV hC (L:=reach σ.obj (roots env ds)) bR gw (rd:=some (φ nm).blk) (fun l e=>by cases e;exact⟨rm,r,et⟩) (b0:=0) (nt:=env.length) q2 q1
 have mB:=h _ _ _ _ _ _ dg (by simp[jh,jK];omega)
 have Ws:(r.params.zip us).foldl (fun tmps (p:Nat×Value)=>tmps.setIfInBounds p.1 p.2) r.tmps=(ps.zip us.toList).foldl (fun tmps (p:Nat×Value)=>tmps.setIfInBounds p.1 p.2) r.tmps:=by
  rw[<-CB,<-Array.toList_zip,Array.foldl_toList]
 have De:(gV σ.obj env ds).length=env.length:=by simp[gV]
 rw[De]at mB
 rw[xN]at jY
 have Wr:(r.params.zip us).foldl (fun tmps (x:Tmp×Value)=>match x with | (t,a)=>tmps.setIfInBounds t a) r.tmps=(ps.zip us.toList).foldl (fun tmps (p:Nat×Value)=>tmps.setIfInBounds p.1 p.2) r.tmps:=Ws
 rw[Wr]
 refine wpIn_mono (mB _ _ m _ w jY) ?_
 rintro e a1 w1 ⟨φ1,m1,σ1,gB,hK⟩
 cases e with
 |normal=>
  have JX:w1.heap[(φ nm).blk]?=some (.loop r):=(gB.fr.block _ ab rm).trans et
  have aJ:=(Array.getElem?_eq_some_iff.1 JX).1
  refine⟨_,run_beginRound JX fJ,?_⟩
  have eu:w1.os=w.os/\w1.tape=w.tape/\w1.output=w.output:=⟨gB.fr.os,gB.fr.tape,gB.fr.output⟩
  have fi:=LY (wb:=w.putObj (φ nm).blk (.loop { r with state:=.busy })) (w2:=w1.putObj (φ nm).blk (.loop { r with state:=.busy }))
   (h':=fun l e=>by cases e;exact⟨rm,_,World.putObj_heap_same ab⟩) gB ⟨by simp,by simp⟩ ⟨eu.1.symm,eu.2.1.symm,eu.2.2.symm⟩
   (fun b hb=>World.putObj_heap_other hb) (fun b hb=>World.putObj_heap_other hb) (by rw[World.putObj_heap_same ab,World.putObj_heap_same aJ])
  refine wpIn_mono (hK _ _ m1 _ _ fi) ?_
  rintro e a3 w3 ⟨φ3,m3,σ3,rF,oN⟩
  have CC:w3.heap[(φ nm).blk]?=some (.loop { r with state:=.busy }):=(rF.fr.block _ (by show _<(w.putObj _ _).heap.size;simpa using ab) rm).trans (World.putObj_heap_same ab)
  have nu:=(Array.getElem?_eq_some_iff.1 CC).1
  have fin:∀ bI:Option Code,(y.o σ.obj env ps asg body ds).2=bI->fC (ca σ.obj (roots env ds)) (y.o σ.obj env ps asg body ds).1 σ3->
      ∃ v w',(Instr.endRound (φ nm).blk bI).run P w3=.ok v w'/\next (a.put o.dst v) w':=by
   intro bI he hE
   refine⟨_,_,run_endRound bI CC,?_⟩
   generalize VO:({ r with state:=.busy }:Loop)=rb at CC |-
   let rf:Loop:={ r with state:=if bI.isNone then .ready else .done,pending:=bI }
   have VN:({ rb with state:=if bI.isNone then .ready else .done,pending:=bI }:Loop)=rf:=by rw[<-VO]
   rw[VN]
   have KN:=LY (wb:=w.putObj (φ nm).blk (.loop rf)) (w2:=w3.putObj (φ nm).blk (.loop rf))
    (h':=fun l e=>by cases e;exact⟨rm,_,World.putObj_heap_same ab⟩) rF ⟨by simp,by simp⟩
    ⟨(show (w.putObj (φ nm).blk (.loop rf)).os=(w3.putObj (φ nm).blk (.loop rf)).os from rF.fr.os.symm),(show (w.putObj (φ nm).blk (.loop rf)).tape=(w3.putObj (φ nm).blk (.loop rf)).tape from rF.fr.tape.symm),(show (w.putObj (φ nm).blk (.loop rf)).output=(w3.putObj (φ nm).blk (.loop rf)).output from rF.fr.output.symm)⟩
    (fun b hb=>by rw[World.putObj_heap_other hb,World.putObj_heap_other hb]) (fun b hb=>World.putObj_heap_other hb) (by rw[World.putObj_heap_same ab,World.putObj_heap_same nu])
   have cG:aQ G φ m { σ with obj:=upd σ.obj nm (some (.loop env ps asg body (if bI.isNone then .ready else .done) bI)) } a (w.putObj (φ nm).blk (.loop rf)):=by
    have :=hC.chg (w':=w.putObj (φ nm).blk (.loop rf)) nm (.loop env ps asg body (if bI.isNone then .ready else .done) bI) (φ nm) (Ext.same aA rfl rfl) ⟨rfl,rfl,rfl,by simp⟩
     (fun b _ hb=>World.putObj_heap_other (by rcases hb with h | h; · rw[dB]at h;cases h
                                              ·exact h))
     (fun _=>.inr ⟨⟨_,aA,rfl,dB⟩,rfl⟩) (by
       rw[fY]
       refine⟨by assumption,dB,rf,World.putObj_heap_same ab,rfl,rfl,CB,JW,JV,JU,fun i hi=>(JT i hi).ext (Mem.le_refl m) ?_⟩
       have :=Ext.same (φ:=φ) (o':=.loop env ps asg body (if bI.isNone then .ready else .done) bI) aA rfl rfl
       rwa [fY]at this)
    rwa [fY]at this
   have Xf:shut (upd σ.obj nm (some (.loop env ps asg body (if bI.isNone then .ready else .done) bI))) (reach σ.obj (roots env ds))=true:=by
    rw[AS (obj:=σ.obj) fun x hx=>aW _ _ _ (by rintro rfl;exact fy hx)];exact gw
   have rA:(reach σ.obj (roots env ds)).map (cm (reach σ.obj (roots env ds)) (upd σ.obj nm (some (.loop env ps asg body (if bI.isNone then .ready else .done) bI))))=ca σ.obj (roots env ds):=
    List.map_congr_left fun x hx=>Md fy hx
   have Dr:=Ly hE
   rw[<-rA]at Dr
   have vH:∀ x∈(y.o σ.obj env ps asg body ds).1.new,nm≠x.1++t:=fun x hx e=>by
    have :=List.all_eq_true.1 cT x hx
    rw[<-e,aA]at this;cases this
   have Wq:fresh (upd σ.obj nm (some (.loop env ps asg body (if bI.isNone then .ready else .done) bI))) t (y.o σ.obj env ps asg body ds).1.new=true:=by
    rw[zd (obj:=σ.obj) fun x hx=>by
     obtain⟨z,hz,rfl⟩:=List.mem_map.1 hx
     exact aW _ _ _ (vH z hz).symm]
    exact cT
   rw[<-XA (x:=some (.loop env ps asg body (if bI.isNone then .ready else .done) bI)) fy (h1:=fun l e=>by
    cases e;rw[Kq fy];exact⟨rm,_,World.putObj_heap_same ab⟩)]at KN
   obtain⟨φ',m',k1,k2,k3,k4⟩:=KU cG bR Xf KN Dr Wq
   refine qZ _ φ' m' _ ?_ (.v _ _ ?_)
   ·have:(de (reach σ.obj (roots env ds)) t (y.o σ.obj env ps asg body ds).1.new (cA (reach σ.obj (roots env ds)) t (y.o σ.obj env ps asg body ds).1.upd (upd σ.obj nm (some (.loop env ps asg body (if bI.isNone then .ready else .done) bI)))))=
      upd (de (reach σ.obj (roots env ds)) t (y.o σ.obj env ps asg body ds).1.new (cA (reach σ.obj (roots env ds)) t (y.o σ.obj env ps asg body ds).1.upd σ.obj)) nm (some (.loop env ps asg body (if bI.isNone then .ready else .done) bI)):=by
      funext x
      have hu:((y.o σ.obj env ps asg body ds).1.upd.all fun x=>decide (x.1<(reach σ.obj (roots env ds)).length))=true:=List.all_eq_true.2 fun z hz=>by
       have :=List.all_eq_true.1 Dr.cu z hz
       simp only[Bool.and_eq_true,List.length_map]at this;exact this.2
      by_cases e:x=nm
      ·subst e
       rw[aO,uN _ _ vH,Bf _ _ hu fy,aO]
      ·rw[aW _ _ _ e]
       rw[qA (y.o σ.obj env ps asg body ds).1.new σ.obj (cA _ _ _ (upd _ _ _)) x,qA (y.o σ.obj env ps asg body ds).1.new σ.obj (cA _ _ _ σ.obj) x]
       by_cases h1:x∈(y.o σ.obj env ps asg body ds).1.new.map (fun x=>x.1++t)
       ·rw[if_pos h1,if_pos h1]
       ·rw[if_neg h1,if_neg h1]
        rw[sQ (y.o σ.obj env ps asg body ds).1.upd σ.obj (upd _ _ _) x,sQ (y.o σ.obj env ps asg body ds).1.upd σ.obj σ.obj x]
        by_cases h2:x∈(y.o σ.obj env ps asg body ds).1.upd.map (fun x=>(reach σ.obj (roots env ds)).getD x.1 [])
        ·rw[if_pos h2,if_pos h2]
        ·rw[if_neg h2,if_neg h2];exact aW _ _ _ e
    rw[this]at k2
    rw[he]
    exact k2
   ·rw[he];exact .bool _
  cases e with
  |normal=>exact fin none oN.1 oN.2
  |ret=>exact fin (some .ret) oN.1 oN.2
  |exit id=>exact fin (some (.exit id)) oN.1 oN.2
  |goto l=>exact oN.elim
  |panic ch=>exact oN.elim
  |outgrown=>exact oN.elim
 |ret=>exact hK.elim
 |exit id=>exact hK.elim
 |goto l=>exact hK.elim
 |panic ch=>exact hK.elim
 |outgrown=>exact hK.elim
theorem Yq{G:Ghost}{φ:Name->Loc}{m:Mem}{σ:S}{a:Act}{w:World}(hC:aQ G φ m σ a w):
 aQ G φ m σ { a with defers:=[{ target:=.collected w.heap.size,args:= #[] }]++a.defers } (w.alloc (.deferred (some []))):=by
 have hb:∀ b,b<w.heap.size->(w.alloc (.deferred (some []))).heap[b]?=w.heap[b]?:=fun b h=>RowKit.Below.heap_alloc w _ b h
 have h:=hC.imm (w':=w.alloc (.deferred (some []))) (Mem.le_refl m) ⟨rfl,rfl,rfl,by simp⟩ hb (fun _ _ _ h=>.inl h)
 refine⟨h.tmps,h.size,?_,h.objs,h.mem,h.apart,h.inj,h.own,h.fr,h.fresh,h.kept⟩
 obtain⟨ds,h1,h2,h3⟩:=h.defers
 have ab:∀ D∈ds,D<w.heap.size:=fun D hD=>by
  obtain⟨lI,k1,k2,k3⟩:=hC.defers
  have e:lI=ds:=by
   have :=k1.symm.trans h1
   have hi:Function.Injective (fun D:Nat=>({ target:=.collected D,args:= #[] }:Deferred)):=fun x y h=>by simpa using h
   exact(List.map_inj_right hi).1 this
  exact(Array.getElem?_eq_some_iff.1 (k3 D (e▸hD)).2).1
 refine⟨w.heap.size::ds,by rw[h1];rfl,List.nodup_cons.2 ⟨fun hm=>Nat.lt_irrefl _ (ab _ hm),h2⟩,fun D hD=>?_⟩
 rcases List.mem_cons.1 hD with rfl | hD
 ·exact⟨hC.fr.size,World.alloc_heap_new w _⟩
 ·exact h3 D hD
def ko(obj:Name->Option O)(nm:Name):Name->Option O:=upd obj nm (match obj nm with
 |some (.loop env ps asg body _ bI)=>some (.loop env ps asg body .exhausted bI)
 |o=>o)
def pD(K:Exit->S->Prop)(obj:Name->Option O)(nm:Name)(σ:S):Prop:=match obj nm with
 |some (.loop _ _ _ _ .busy _)=>False
 |some (.loop _ _ _ _ _ none)=>K .normal σ
 |some (.loop _ _ _ _ _ (some .ret))=>K .ret σ
 |some (.loop _ _ _ _ _ (some (.exit id)))=>K (.exit id) σ
 |_=>False
theorem LQ{P:Program}{Γ:FuncId->Option Spec}(hΓ:∀ f s,Γ f=some s->aF P f s){g:Operand}{ps:Array Tmp}{asg body:Code}{σ:S}{K:Exit->S->Prop}(k k':Nat){f:FuncId}{s:Spec}
 (hc:cI σ g=true) (eR:fF (aq σ g)=some f) (aB:f≠yid) (hs:Γ f=some s) (mv:σ.obj (k::σ.pre)=none)
 (aa:(s.app (upd σ.obj (k::σ.pre) (some (.loop ((List.range σ.nt).map σ.env) ps.toList asg body .ready none))) (k'::σ.pre) (eA (aq σ g) [.yld (k::σ.pre)])).ok)
 (hK:pD K (s.app (upd σ.obj (k::σ.pre) (some (.loop ((List.range σ.nt).map σ.env) ps.toList asg body .ready none))) (k'::σ.pre) (eA (aq σ g) [.yld (k::σ.pre)])).obj (k::σ.pre)
   { σ with obj:=ko (s.app (upd σ.obj (k::σ.pre) (some (.loop ((List.range σ.nt).map σ.env) ps.toList asg body .ready none))) (k'::σ.pre) (eA (aq σ g) [.yld (k::σ.pre)])).obj (k::σ.pre) }):
 CW P (.rangeFunc g ps asg body) σ K:=by
 intro G φ m a w hC
 generalize aA:k::σ.pre=nm at *
 generalize CK:upd σ.obj nm (some (.loop ((List.range σ.nt).map σ.env) ps.toList asg body .ready none))=pt at *
 generalize hR:s.app pt (k'::σ.pre) (eA (aq σ g) [.yld nm])=R at *
 have yU:=cB hC hc
 obtain⟨us,vs,fs,cs,hu,lE,e1,e2,et,fJ⟩:∃ (us vs:Array Value) (fs cs:List D),a.eval g=.func (.func f) us vs/\(∀ args,eA (aq σ g) args=fs++args++cs)/\fs.length=us.size/\cs.length=vs.size/\
  (∀ i (h:i<fs.length) (h':i<us.size),aD φ σ.obj m fs[i] us[i])/\(∀ i (h:i<cs.length) (h':i<vs.size),aD φ σ.obj m cs[i] vs[i]):=by
  generalize a.eval g=u at *
  generalize aq σ g=d at *
  unfold fF at eR
  split at eR
  ·rename_i f' fs cs
   split at eR
   ·cases eR
   cases eR
   cases yU with
   |v _ _ yU=>
   cases yU with
   |clo _ _ _ us vs e1 e2 h1 h2=>
   exact⟨us,vs,fs.map .v,cs.map .v,rfl,fun _=>rfl,by simpa using e1,by simpa using e2,fun i a b=>by simpa using .v _ _ (h1 i (by simpa using a) b),fun i a b=>by simpa using .v _ _ (h2 i (by simpa using a) b)⟩
  ·rename_i f' fs cs
   split at eR
   ·cases eR
   cases eR
   cases yU with
   |clo _ _ _ us vs e1 e2 h1 h2=>exact⟨us,vs,fs,cs,rfl,fun _=>rfl,e1,e2,h1,h2⟩
  ·cases eR;exact(aB rfl).elim
  ·cases eR
 refine wpIn_rangeFunc fun fn _=>?_
 have main:∀ (W:World) (a':Act) (D:Nat),aQ G φ m σ a' W->a'.tmps=a.tmps->
     ∃ (d:Deferred) (sp:World) (f':FuncId) (args:Array Value) (w₂:World),
     (resolve a.eval (rangeCall g W.heap.size) 0).run P (W.alloc (.loop { state:=.ready,pending:=none,fn,tmps:=a.tmps,params:=ps,assign:=asg,body,defers:=D }))=.ok d sp/\
     (invoke d.target d.args).run P sp=.ok (.enter f' args) w₂/\
     CallsIn (fB G.rd) (0-1) P f' args w₂ (rangePost (fB G.rd) 0 P W.heap.size (fun e a' w'=>∃ φ' m' σ',aQ G φ' m' σ' a' w'/\K e σ') a'):=by
  intro W a' D gB au
  obtain⟨r,mn⟩:∃ r:Loop,r={ state:=.ready,pending:=none,fn,tmps:=a.tmps,params:=ps,assign:=asg,body,defers:=D }:=⟨_,rfl⟩
  rw[<-mn]
  have hx:=Ext.new (φ:=φ) mv ⟨W.heap.size,0,0,false,none⟩ (.loop ((List.range σ.nt).map σ.env) ps.toList asg body .ready none)
  have fi:=gB.chg (w':=W.alloc (.loop r)) nm (.loop ((List.range σ.nt).map σ.env) ps.toList asg body .ready none) ⟨W.heap.size,0,0,false,none⟩ hx ⟨rfl,rfl,rfl,by simp⟩
   (fun b hb _=>RowKit.Below.heap_alloc W _ b hb) (fun _=>.inl (Nat.le_refl _)) ⟨rfl,rfl,r,World.alloc_heap_new W _,by rw[mn],by rw[mn],by rw[mn],by rw[mn],by rw[mn],by
     rw[mn]
     show a.tmps.size=_
     rw[<-au,gB.size];simp,fun i hi=>by
     simp only[List.getElem_map,List.getElem_range]
     rw[mn]
     show cD _ _ m _ (a.tmps.getD i undef)
     rw[<-au]
     exact(gB.tmps i).ext (Mem.le_refl m) hx⟩
  rw[CK]at fi hx
  refine⟨{ target:=.fn (.func f) vs,args:=us++ #[.func (.yield W.heap.size) #[] #[]] },W.alloc (.loop r),f,us++ #[.func (.yield W.heap.size) #[] #[]]++vs,W.alloc (.loop r),?_,?_,?_⟩
  ·have hy:a.eval (.const (.func (.yield W.heap.size) #[] #[]))=.func (.yield W.heap.size) #[] #[]:=rfl
   simp[resolve,Deferred.ofValue,hu,hy]
  ·simp[invoke,(hΓ f s hs).enter aB]
  ·refine Lm ?_
   have oI:=(hΓ f s hs).calls aB G (upd φ nm ⟨W.heap.size,0,0,false,none⟩) m { σ with obj:=pt } a' (W.alloc (.loop r)) fi (k'::σ.pre) (eA (aq σ g) [.yld nm]) (us++ #[.func (.yield W.heap.size) #[] #[]]++vs) ⟨k',rfl⟩
   refine(oI ?_ ?_ ?_).mono ?_
   ·rw[lE];simp only[List.length_append,List.length_singleton,Array.size_append,e1,e2];rfl
   ·intro i h1 h2
    simp only[lE]
    have yq:aD (upd φ nm ⟨W.heap.size,0,0,false,none⟩) pt m (.yld nm) (.func (.yield W.heap.size) #[] #[]):=by
     have :=aD.yld (φ:=upd φ nm ⟨W.heap.size,0,0,false,none⟩) (obj:=pt) (m:=m) nm ⟨_,by rw[<-CK,aO],rfl⟩
     rwa [aO]at this
    simp only[lE,List.length_append,List.length_singleton]at h1
    by_cases k1:i<fs.length
    ·have q1:i<us.size:=by omega
     simp only[List.append_assoc,Array.append_assoc]
     rw[List.getElem_append_left k1,Array.getElem_append_left q1]
     exact(et i k1 q1).ext (Mem.le_refl m) hx
    ·by_cases k2:i=fs.length
     ·subst k2
      simp only[List.append_assoc,Array.append_assoc]
      rw[List.getElem_append_right (by omega),Array.getElem_append_right (by omega)]
      simp only[Nat.sub_self,e1,List.cons_append,List.getElem_cons_zero]
      rw[Array.getElem_append_left (by simp)]
      simpa using yq
     ·rw[List.getElem_append_right (by simp;omega),Array.getElem_append_right (by simp;omega)]
      have :=(fJ (i-(fs.length+1)) (by omega) (by omega)).ext (Mem.le_refl m) hx
      simp only[List.length_append,List.length_singleton,Array.size_append,<-e1]
      exact this
   ·show (s.app pt _ _).ok
    rw[hR];exact aa
   ·rintro e w3 ⟨v,φ',m',rfl,rF,_,Vt⟩
    have h9:s.app pt (k'::σ.pre) (eA (aq σ g) [.yld nm])=R:=hR
    have KO:aQ G φ' m' { σ with obj:=R.obj } a' w3:=by rw[<-h9];exact rF
    have Vs:Ext (upd φ nm ⟨W.heap.size,0,0,false,none⟩) φ' pt R.obj:=by rw[<-h9];exact Vt
    have VW:pt nm=some (.loop ((List.range σ.nt).map σ.env) ps.toList asg body .ready none):=by rw[<-CK,aO]
    have CY:φ' nm=⟨W.heap.size,0,0,false,none⟩:=by
     obtain⟨o',k1,k2⟩:=Vs nm _ VW
     rcases k2 with⟨_,k2,_⟩ | ⟨n,n',k2,_⟩
     ·rw[k2,aO]
     ·cases k2
    unfold pD at hK
    have step:∀ {gE:List E} {gq:List Nat} {a1 b1:Code} {st:LoopState} {bI:Option Code},R.obj nm=some (.loop gE gq a1 b1 st bI)->st≠ .busy->
        ∃ w4,(Instr.endLoop W.heap.size).run P w3=.ok bI w4/\aQ G φ' m' { σ with obj:=ko R.obj nm } a' w4:=by
     intro gE gq a1 b1 st bI ho cq
     obtain⟨q0,q1,r',q2,q3,q4,q5,q6,q7,q8,q9⟩:=KO.objs nm _ ho
     rw[CY]at q2
     have Kp:(Instr.endLoop W.heap.size).run P w3=.ok bI (w3.putObj W.heap.size (.loop { r' with state:=.exhausted })):=by
      rw[run_endLoop (P:=P) q2 (by rw[q3];exact cq),q4]
     refine⟨_,Kp,?_⟩
     have ab:=(Array.getElem?_eq_some_iff.1 q2).1
     have oC:ko R.obj nm=upd R.obj nm (some (.loop gE gq a1 b1 .exhausted bI)):=by unfold ko;rw[ho]
     rw[oC]
     have :=KO.chg (w':=w3.putObj W.heap.size (.loop { r' with state:=.exhausted })) nm (.loop gE gq a1 b1 .exhausted bI) (φ' nm) (Ext.same ho rfl rfl) ⟨rfl,rfl,rfl,by simp⟩
      (fun b _ hb=>World.putObj_heap_other (by
        rcases hb with h | h
        ·rw[q1]at h;cases h
        ·rw[CY]at h;exact h))
      (fun _=>.inr ⟨⟨_,ho,rfl,q1⟩,rfl⟩) (by
        rw[fY]
        refine⟨q0,q1,{ r' with state:=.exhausted },by rw[CY];exact World.putObj_heap_same ab,rfl,q4,q5,q6,q7,q8,fun i hi=>(q9 i hi).ext (Mem.le_refl _) ?_⟩
        have :=Ext.same (φ:=φ') (o':=.loop gE gq a1 b1 .exhausted bI) ho rfl rfl
        rwa [fY]at this)
     rw[fY]at this
     exact this
    rcases ho:R.obj nm with _ | o
    ·rw[ho]at hK;exact hK.elim
    rw[ho]at hK
    cases o with
    |loop gE gq a1 b1 st bI=>
     have cq:st≠ .busy:=by rintro rfl;exact hK.elim
     obtain⟨w4,h1,h2⟩:=step ho cq
     refine⟨bI,w4,h1,?_⟩
     cases bI with
     |none=>
      refine⟨φ',m',_,h2,?_⟩
      cases st<;>first | exact hK | exact(cq rfl).elim
     |some c=>
      cases c with
      |ret=>exact wpIn_ret ⟨φ',m',_,h2,by cases st<;>first | exact hK | exact(cq rfl).elim⟩
      |exit id=>exact wpIn_exit ⟨φ',m',_,h2,by cases st<;>first | exact hK | exact(cq rfl).elim⟩
      |_=>exfalso;cases st<;>first | exact hK | exact(cq rfl).elim
    |_=>exact hK.elim
 cases mq:G.rd with
 |none=>
  obtain⟨d,sp,f',args,w₂,h1,h2,h3⟩:=main (w.alloc (.deferred (some []))) _ w.heap.size (Yq hC) rfl
  rw[mq]at h3
  have dD:(w.alloc (.deferred (some []))).heap.size=w.heap.size+1:=by simp
  rw[dD]at h1 h3
  exact⟨w.heap.size+1,[{ target:=.collected w.heap.size,args:= #[] }],_,d,sp,f',args,w₂,run_enterLoop_outer _ _ _ _ _,h1,fun _ _=>trivial,h2,fun h=>(by simp[fB,Fence.wide]at h),h3⟩
 |some l=>
  obtain⟨eQ,r0,JY⟩:=G.rdok l mq
  have VQ:w.heap[l]?=some (.loop r0):=(hC.fr.block l (Array.getElem?_eq_some_iff.1 JY).1 eQ).trans JY
  obtain⟨d,sp,f',args,w₂,h1,h2,h3⟩:=main w a r0.defers hC rfl
  rw[mq]at h3
  exact⟨w.heap.size,[],_,d,sp,f',args,w₂,run_enterLoop_inner VQ _ _ _ _ _,h1,fun _ _=>trivial,h2,fun h=>(by simp[fB,Fence.wide]at h),h3⟩
theorem L'{P:Program}{Γ:FuncId->Option Spec}(hΓ:∀ f s,Γ f=some s->aF P f s){g:Operand}{ps:Array Tmp}{asg body:Code}{σ:S}{r:List Code}{K:Exit->S->Prop}(k k':Nat){f:FuncId}{s:Spec}
 (hc:cI σ g=true) (eR:fF (aq σ g)=some f) (aB:f≠yid) (hs:Γ f=some s) (mv:σ.obj (k::σ.pre)=none)
 (aa:(s.app (upd σ.obj (k::σ.pre) (some (.loop ((List.range σ.nt).map σ.env) ps.toList asg body .ready none))) (k'::σ.pre) (eA (aq σ g) [.yld (k::σ.pre)])).ok)
 (hK:pD (fN (fun σ'=>CL P r σ' K) K) (s.app (upd σ.obj (k::σ.pre) (some (.loop ((List.range σ.nt).map σ.env) ps.toList asg body .ready none))) (k'::σ.pre) (eA (aq σ g) [.yld (k::σ.pre)])).obj (k::σ.pre)
   { σ with obj:=ko (s.app (upd σ.obj (k::σ.pre) (some (.loop ((List.range σ.nt).map σ.env) ps.toList asg body .ready none))) (k'::σ.pre) (eA (aq σ g) [.yld (k::σ.pre)])).obj (k::σ.pre) }):
 CL P (.rangeFunc g ps asg body::r) σ K:=LQ hΓ k k' hc eR aB hs mv aa hK
theorem dG.refl(σ:S):dG σ σ:=fun _ φ _ _ _ hC=>⟨φ,hC⟩
theorem dG.trans{a b c:S}(h:dG a b)(k:dG b c):dG a c:=fun G φ m x w hC=>by
 obtain⟨φ',h'⟩:=h G φ m x w hC
 exact k G φ' m x w h'
theorem bd{σ τ:S}(ks:List Nat)(ns:List Name)(h:gR ks ns σ)(he:hS ks ns σ=τ):dG σ τ:=he▸AA ks ns h
def nW(l c:List (Nat×E)):List (Nat×E):=l.map fun q=>(q.1,(c.lookup q.1).getD q.2)
def nU(l c:List (Name×O)):List (Name×O):=l.map fun q=>(q.1,(c.lookup q.1).getD q.2)
theorem dd{P:Program}{c:Code}{r:List Code}{σ:S}{K:Exit->S->Prop}(ks:List Nat)(ns:List Name)(h:gR ks ns σ)(hc:CL P (c::r) (hS ks ns σ) K):CL P (c::r) σ K:=
 qa (AA ks ns h) hc
theorem bT{P:Program}{c:Code}{r:List Code}{K:Exit->S->Prop}{nt:Nat}{p:Name}{H:Name->Option O}{l:List (Nat×E)}{h:List (Name×O)}{ι:Type}
 (chg:ι->List (Nat×E)) (n9:ι->List (Name×O)) (R:ι->Prop) (μ:ι->Nat) (i0:ι) (hR:R i0) (he:nW l (chg i0)=l) (ho:nU h (n9 i0)=h)
 (round:∀ i,R i->CL P [c] (be nt p H (nW l (chg i)) (nU h (n9 i))) (fN (fun σ'=>∃ i',R i'/\μ i'<μ i/\dG σ' (be nt p H (nW l (chg i')) (nU h (n9 i')))) K)):
 CL P (.loop c::r) (be nt p H l h) K:=by
 refine wv (fun i=>be nt p H (nW l (chg i)) (nU h (n9 i))) R μ i0 hR ?_ round
 rw[he,ho]
 exact .refl _
theorem zG{P:Program}{c:Code}{r:List Code}{K:Exit->S->Prop}{nt:Nat}{p:Name}{H:Name->Option O}{l:List (Nat×E)}{h:List (Name×O)}{ι:Type}
 (Hc:ι->Name->Option O) (chg:ι->List (Nat×E)) (n9:ι->List (Name×O)) (R:ι->Prop) (μ:ι->Nat) (i0:ι) (hR:R i0) (hH:be nt p (Hc i0) l h=be nt p H l h) (he:nW l (chg i0)=l) (ho:nU h (n9 i0)=h)
 (round:∀ i,R i->CL P [c] (be nt p (Hc i) (nW l (chg i)) (nU h (n9 i))) (fN (fun σ'=>∃ i',R i'/\μ i'<μ i/\dG σ' (be nt p (Hc i') (nW l (chg i')) (nU h (n9 i')))) K)):
 CL P (.loop c::r) (be nt p H l h) K:=by
 refine wv (fun i=>be nt p (Hc i) (nW l (chg i)) (nU h (n9 i))) R μ i0 hR ?_ round
 rw[he,ho,hH]
 exact .refl _
attribute [go_sem] nW nU List.lookup_cons List.lookup_nil List.getElem?_toArray List.getElem?_cons_succ List.getElem?_cons_zero beq_true beq_false ite_self Bool.and_self Bool.or_self imp_self Bool.if_true_right Bool.if_false_right Bool.if_true_left Bool.if_false_left Bool.decide_eq_true
attribute [go_sem] uK fC qC uR distinct eO dh c9 cZ aM Bool.and_eq_true
def fa(a b:Nat):Bool:=Nat.ble a b
def gr(a b:Nat):Bool:=Nat.ble (a+1) b
def cQ(a b:Nat):Bool:=Nat.beq a b
def dA(a b:Int):Bool:=match b-a with
 | .ofNat _=>true
 | .negSucc _=>false
def jS(a b:Int):Bool:=match b-a-1 with
 | .ofNat _=>true
 | .negSucc _=>false
def sW{α:Type}:Option α->Bool
 |none=>true
 |some _=>false
def oa:Option Nat->Nat->Bool
 |some a,b=>Nat.beq a b
 |none,_=>false
def ug(sz:Nat):List V->Bool
 |[]=>true
 |x::r=>Nat.beq x.cells.length sz&&ug sz r
def uh(sz:Nat):List V->Bool
 |[]=>true
 |x::r=>Nat.beq x.cells.length sz&&x.okc&&uh sz r
def vg(a b:IntKind):Bool:=match a,b with
 | .i64,.i64=>true
 | .u8,.u8=>true
 | .u64,.u64=>true
 | .i32,.i32=>true
 | .u32,.u32=>true
 |_,_=>false
def Cc(P:Program)(T:TypeId):Bool:=match P.underlying T with
 |some .bool=>true
 |_=>false
def isEq:BinOp->Bool
 | .eql=>true
 | .neq=>true
 |_=>false
def qM:Int->Bool
 | .ofNat 0=>true
 |_=>false
theorem qG{a b:Nat}(h:fa a b=true):a<=b:=Nat.le_of_ble_eq_true h
theorem xW{a b:Nat}(h:gr a b=true):a<b:=Nat.le_of_ble_eq_true h
theorem jN{a b:Nat}(h:cQ a b=true):a=b:=Nat.eq_of_beq_eq_true h
theorem gf{a b:Int}(h:dA a b=true):a<=b:=by
 unfold dA at h
 split at h
 ·rename_i n hn
  have :(0:Int)<=b-a:=by rw[hn];exact Int.natCast_nonneg n
  omega
 ·cases h
theorem Vi{a b:Int}(h:jS a b=true):a<b:=by
 unfold jS at h
 split at h
 ·rename_i n hn
  have :(0:Int)<=b-a-1:=by rw[hn];exact Int.natCast_nonneg n
  omega
 ·cases h
theorem xP{α:Type}{o:Option α}(h:sW o=true):o=none:=by cases o<;>simp_all[sW]
theorem pv{o:Option Nat}{b:Nat}(h:oa o b=true):o=some b:=by
 cases o with
 |none=>cases h
 |some a=>rw[Nat.eq_of_beq_eq_true h]
theorem Af{sz:Nat}:∀ {l:List V},ug sz l=true->∀ x∈l,x.cells.length=sz
 |y::r,h,x,hx=>by
  simp only[ug,Bool.and_eq_true]at h
  rcases List.mem_cons.1 hx with rfl | hx
  ·exact Nat.eq_of_beq_eq_true h.1
  ·exact Af h.2 x hx
theorem Ag{sz:Nat}:∀ {l:List V},uh sz l=true->∀ x∈l,x.cells.length=sz/\x.okc=true
 |y::r,h,x,hx=>by
  simp only[uh,Bool.and_eq_true]at h
  rcases List.mem_cons.1 hx with rfl | hx
  ·exact⟨Nat.eq_of_beq_eq_true h.1.1,h.1.2⟩
  ·exact Ag h.2 x hx
theorem Jp{a b:IntKind}(h:vg a b=true):a=b:=by unfold vg at h;split at h<;>first | rfl | cases h
theorem Vc{P:Program}{T:TypeId}(h:Cc P T=true):P.underlying T=some .bool:=by unfold Cc at h;split at h<;>first | assumption | cases h
theorem yj{op:BinOp}(h:isEq op=true):op=.eql\/op=.neq:=by cases op<;>first | exact .inl rfl | exact .inr rfl | cases h
theorem U'{n:Int}(h:qM n=false):n≠0:=by rintro rfl;cases h
section
variable (P:Program) (obj:Name->Option O)
def wD(T:TypeId)(x:D):Bool:=
 match bb P T with
 |none=>false
 |some (ag,n)=>match x with
  | .v (.ptr cs)=>match ag with
    |true=>fa n cs.length
    |false=>cQ n 1&&gr 0 cs.length
  | .ref nm off=>match obj nm with
    |some (.box cs)=>match ag with
     |true=>fa (off+n) cs.length
     |false=>cQ n 1&&gr off cs.length
    |some (.fbox cs)=>match ag with
     |true=>fa (off+n) cs.length
     |false=>cQ n 1&&gr off cs.length
    |_=>false
  | .aref nm k i off=>match obj nm with
    |some (.arr _ l)=>cQ k l.length&&gr i l.length&&(match ag with
     |true=>fa (off+n) (l.getD i default).cells.length
     |false=>cQ n 1&&gr off (l.getD i default).cells.length)
    |some (.farr _ l)=>cQ k l.length&&gr i l.length&&(match ag with
     |true=>fa (off+n) (l.getD i default).cells.length
     |false=>cQ n 1&&gr off (l.getD i default).cells.length)
    |_=>false
  |_=>false
def z2(T:TypeId)(f:Nat)(x:D):Bool:=
 match bQ P T f with
 |none=>false
 |some (off,n,_)=>!cQ n 0&&match x with
  | .v (.ptr cs)=>fa (off+n) cs.length
  | .ref _ _=>true
  | .aref nm k _ _=>match obj nm with
    |some o=>oa o.len? k
    |none=>false
  |_=>false
def zZ(T:TypeId)(x i:D):Bool:=
 match i with
 | .v (.int _ n)=>match x with
   | .v (.sl l)=>match cg P T with
     |some (_,sz,_)=>dA 0 n&&jS n l.length&&cQ (l.getD n.toNat default).cells.length sz
     |none=>false
   | .msl nm k=>match cg P T with
     |some (_,sz,_)=>match obj nm with
      |some (.arr s l)=>dA 0 n&&jS n l.length&&cQ k l.length&&cQ s sz
      |some (.farr s l)=>dA 0 n&&jS n l.length&&cQ k l.length&&cQ s sz
      |_=>false
     |none=>false
   | .ref _ _=>match jk P T with
     |some (len,_,_)=>dA 0 n&&jS n len
     |none=>false
   | .v (.ptr cs)=>match jk P T with
     |some (len,sz,_)=>dA 0 n&&jS n len&&fa (n.toNat*sz+sz) cs.length
     |none=>false
   |_=>false
 |_=>false
def Mu(op:BinOp)(k k':IntKind)(b:Int):Bool:=
 match op with
 | .quo=>vg k k'&&!qM b
 | .rem=>vg k k'&&!qM b
 | .shl=>dA 0 b
 | .shr=>dA 0 b
 |_=>vg k k'
def Ml(op:BinOp)(a b:ByteArray):Bool:=
 match op with
 | .add=>fa (a.size+b.size) maxLen
 | .eql | .neq | .lss | .leq | .gtr | .geq=>true
 |_=>false
def Eu(op:BinOp)(T:TypeId)(x y:D):Bool:=
 match x,y with
 | .v (.int k _),.v (.int k' b)=>Mu op k k' b
 | .v (.str a),.v (.str b)=>Ml op a b
 | .v (.bool _),.v (.bool _)=>Cc P T&&isEq op
 |_,_=>false
def Ep(op:BinOp)(T:TypeId)(x y:V):Bool:=
 match iu P Op.maxDepth T x y with
 |some _=>!(P.eqGuardType P.depth T)&&isEq op
 |none=>false
def Em(op:BinOp)(T:TypeId)(x:D):Bool:=
 match x with
 | .v (.sl (_::_))=>oa (dr P T) 0&&isEq op
 | .msl nm (k+1)=>(match obj nm with | some o=>oa o.len? (k+1) | none=>false)&&oa (dr P T) 0&&isEq op
 |_=>false
def z'(op:BinOp)(T:TypeId)(x y:D)(kD:Bool):Bool:=
 match kD with
 |true=>Em P obj op T x
 |false=>match dN x,dN y with
  |some (.agg a),some (.agg b)=>Ep P op T (.agg a) (.agg b)
  |_,_=>Eu P op T x y
def zO(op:UnOp)(x:D):Bool:=
 match op,x with
 | .not,.v (.bool _)=>true
 | .neg,.v (.int _ _)=>true
 |_,_=>false
def z7(src dst:TypeId)(x:D):Bool:=
 match l4 P dst,x with
 |some _,.v (.int _ _)=>(P.underlying src).isSome
 |_,_=>false
def z6(x:D)(i:Nat):Bool:=
 match x with
 | .tup l=>gr i l.length
 | .v (.tup l)=>gr i l.length
 |_=>false
def zS(x:D):Bool:=
 match x with
 | .ref _ _=>true
 | .v (.ptr _)=>true
 | .aref nm k _ _=>match obj nm with
   |some o=>oa o.len? k
   |none=>false
 |_=>false
def wF(t:Name)(x:D):Bool:=sW (obj (bh t))&&x.boxable
def Ab(t:Name)(T:TypeId):Bool:=match bg P T with
 |some z=>wF obj t (gK z)
 |none=>false
def z8(T:TypeId)(parts:List (Nat×D)):Bool:=
 match gI P T,bg P T with
 |some ps,some z=>match gK z with
  | .agg cs=>match rK (fun i=>ps[i]?) cs parts with
    |some _=>true
    |none=>false
  |_=>false
 |_,_=>false
def zP(T:TypeId)(x d:D):Bool:=
 match bb P T with
 |none=>false
 |some (_,n)=>match x with
  | .ref nm off=>match obj nm with
    |some (.box cs)=>d.boxable&&cQ d.cells.length n&&fa (off+n) cs.length
    |_=>false
  | .aref nm k i off=>match obj nm with
    |some (.arr sz l)=>match dN d with
     |some y=>cQ k l.length&&gr i l.length&&cQ y.cells.length n&&y.okc&&fa (off+n) sz&&!cQ sz 0
     |none=>false
    |_=>false
  |_=>false
def zV(t:Name)(T:TypeId)(r:Option D):Bool:=
 match jJ P T,r with
 |some _,none=>sW (obj (bh t))
 |_,_=>false
def zU(t:Name)(T:TypeId)(l c:D):Bool:=
 match cg P T,l,c with
 |some (e,sz,by_),.v (.int _ n),.v (.int _ n')=>match (bg P e).bind fun z=>dN (gK z)with
  |some zv=>dA n n'&&dA n' n&&dA 0 n&&dA ((by_:Int)*n) 281474976710656&&dA n 9223372036854775807&&cQ zv.cells.length sz&&zv.okc&&!cQ sz 0&&sW (obj (bh t))
  |none=>false
 |_,_,_=>false
def zX(T:TypeId)(x:D):Bool:=
 match dr P T,x with
 |some 0,.v (.sl _)=>true
 |some 0,.nilsl=>true
 |some 0,.msl nm k=>match obj nm with
  |some o=>oa o.len? k
  |none=>false
 |some 1,.v (.str _)=>true
 |some 2,.nilmap=>true
 |some 2,.map nm=>match obj nm with
  |some (.map _ _)=>true
  |_=>false
 |_,_=>false
def zQ(T:TypeId)(x:D)(lo hi mx:Option D):Bool:=
 match mx with
 |none=>match x with
  | .v (.sl l)=>match cg P T,gd lo,jZ l.length hi with
    |some (_,sz,_),some i,some j=>dA 0 i&&dA i j&&dA j l.length&&ug sz l
    |_,_,_=>false
  | .nilsl=>match cg P T,gd lo,jZ 0 hi with
    |some (_,_,_),some i,some j=>qM i&&qM j
    |_,_,_=>false
  | .msl nm k=>match obj nm,cg P T,gd lo,jZ k hi with
    |some (.arr _ l),some (_,sz,_),some i,some j=>cQ k l.length&&dA 0 i&&dA i j&&dA j l.length&&ug sz l
    |some (.farr _ l),some (_,sz,_),some i,some j=>cQ k l.length&&dA 0 i&&dA i j&&dA j l.length&&ug sz l
    |_,_,_,_=>false
  | .v (.str s)=>match dr P T,gd lo,jZ s.size hi with
    |some 1,some i,some j=>dA 0 i&&dA i j&&dA j s.size
    |_,_,_=>false
  |_=>false
 |some (.v (.int _ 0))=>match cg P T,gd lo,hi with
  |some _,some 0,some (.v (.int _ 0))=>match x with
   | .v (.sl _)=>true
   | .nilsl=>true
   | .msl nm k=>match obj nm with
     |some o=>oa o.len? k
     |none=>false
   |_=>false
  |_,_,_=>false
 |some _=>false
def z5(T:TypeId)(x:D)(f:Nat):Bool:=
 match bQ P T f with
 |none=>false
 |some (off,n,ag)=>match x with
  | .agg l=>match ag with
    |true=>fa (off+n) l.length
    |false=>gr off l.length
  | .v (.agg l)=>match ag with
    |true=>fa (off+n) l.length
    |false=>gr off l.length
  |_=>false
def z1(T:TypeId)(x i:D):Bool:=
 match i with
 | .v (.int _ n)=>match x with
   | .v (.str s)=>oa (dr P T) 1&&dA 0 n&&jS n s.size
   | .agg l=>match jk P T with
     |some (len,sz,true)=>dA 0 n&&jS n len&&fa (n.toNat*sz+sz) l.length
     |some (len,sz,false)=>dA 0 n&&jS n len&&gr (n.toNat*sz) l.length
     |none=>false
   | .v (.agg l)=>match jk P T with
     |some (len,sz,true)=>dA 0 n&&jS n len&&fa (n.toNat*sz+sz) l.length
     |some (len,sz,false)=>dA 0 n&&jS n len&&gr (n.toNat*sz) l.length
     |none=>false
   |_=>false
 |_=>false
def zW(T:TypeId)(x k:D):Bool:=
 match jJ P T with
 |some (kd,e)=>match (bg P e).bind fun z=>dN (gK z),dN k with
  |some _,some kv=>match x with
   | .nilmap=>fa kd 2&&dY kd kv
   | .map nm=>match obj nm with
     |some (.map jR _)=>fa kd 2&&dY kd kv&&cQ jR kd
     |_=>false
   |_=>false
  |_,_=>false
 |none=>false
def wC(T:TypeId)(x k d:D):Bool:=
 match jJ P T,x,dN k,dN d with
 |some (kd,_),.map nm,some kv,some _=>match obj nm with
  |some (.map jR _)=>fa kd 2&&dY kd kv&&cQ jR kd
  |_=>false
 |_,_,_,_=>false
def zR(c:D):Bool:=match c with
 | .v (.bool _)=>true
 |_=>false
def wB(x:D):Bool:=match x with
 | .v (.sl _)=>true
 | .nilsl=>true
 | .msl nm k=>match obj nm with
   |some (.arr _ l)=>cQ k l.length
   |some (.farr _ l)=>cQ k l.length
   |_=>false
 |_=>false
def Aa(t:Name)(T1 T2:TypeId)(s x:D):Bool:=
 match cg P T1,cg P T2 with
 |some (e,sz,by_),some _=>match bg P e with
  |some z=>match s with
   | .nilsl=>wB obj x&&uh sz (aG obj x).2&&cQ z.cells.size sz&&fa ((aG obj x).2.length*by_) 140737488355328&&fa (aG obj x).2.length maxLen&&sW (obj (bh t))
   | .msl nm k=>match obj nm with
     |some (.arr s' l)=>wB obj x&&uh sz (aG obj x).2&&cQ z.cells.size sz&&fa ((l.length+(aG obj x).2.length)*by_) 140737488355328&&
        fa (l.length+(aG obj x).2.length) maxLen&&cQ k l.length&&cQ s' sz
     |_=>false
   |_=>false
  |none=>false
 |_,_=>false
variable {P obj}
theorem px{a b:Nat}:fa a b=true↔a<=b:=⟨qG,Nat.ble_eq_true_of_le⟩
theorem uV{a b:Nat}:gr a b=true↔a<b:=⟨xW,Nat.ble_eq_true_of_le⟩
theorem py{a b:Nat}:cQ a b=true↔a=b:=⟨jN,fun h=>by subst h;simp[cQ]⟩
theorem xX{a b:Nat}:cQ a b=false↔a≠b:=by
 rw[<-Bool.not_eq_true,py]
theorem JH{a b:Int}:dA a b=true↔a<=b:=⟨gf,fun h=>by
 unfold dA
 split
 ·rfl
 ·rename_i n hn;have:=Int.negSucc_lt_zero n;omega⟩
theorem JG{a b:Int}:jS a b=true↔a<b:=⟨Vi,fun h=>by
 unfold jS
 split
 ·rfl
 ·rename_i n hn;have:=Int.negSucc_lt_zero n;omega⟩
theorem Jy{n:Int}:qM n=true↔n=0:=⟨fun h=>(by unfold qM at h;split at h<;>first | rfl | cases h),fun h=>(by subst h;rfl)⟩
theorem Eo{T:TypeId}{x:D}(h:wD P obj T x=true):(jf P obj T x).ok:=by
 unfold wD at h
 unfold jf
 (repeat' split at h)<;>simp_all[px,uV,py,-List.getD_eq_getElem?_getD]
theorem My{T:TypeId}{f:Nat}{x:D}(h:z2 P obj T f x=true):(k9 P obj T f x).ok:=by
 unfold z2 at h
 unfold k9
 split at h
 ·cases h
 ·simp only[Bool.and_eq_true,Bool.not_eq_true',xX]at h
  obtain⟨h1,h⟩:=h
  (repeat' split at h)<;>simp_all[px]
  exact pv h
theorem Mw{T:TypeId}{x i:D}(h:zZ P obj T x i=true):(kZ P obj T x i).ok:=by
 unfold zZ at h
 unfold kZ
 (repeat' split at h)<;>simp_all[px,py,JH,JG,-List.getD_eq_getElem?_getD]
theorem Y4{op:BinOp}{T:TypeId}{x y:D}(h:Eu P op T x y=true):(mR P obj op T x y).ok:=by
 unfold Eu at h
 unfold mR
 split at h
 ·simp only
  unfold Mu at h
  unfold zY
  cases op<;>simp only[Bool.and_eq_true,Bool.not_eq_true']at h |- <;>first
   |exact⟨Jp h.1,U' h.2⟩
   |exact Jp h
   |exact gf h
 ·simp only
  unfold Ml at h
  unfold wA
  cases op<;>simp only at h |- <;>first | exact qG h | trivial | (cases h;done)
 ·simp only[Bool.and_eq_true]at h
  exact⟨Vc h.1,yj h.2⟩
 ·cases h
theorem Y0{op:BinOp}{T:TypeId}{x y:V}(h:Ep P op T x y=true):(jg P obj op T x y).ok:=by
 unfold Ep at h
 unfold jg
 split at h
 ·rename_i b hb
  simp only[Bool.and_eq_true,Bool.not_eq_true']at h
  rw[hb]
  exact⟨h.1,yj h.2⟩
 ·cases h
theorem YZ{op:BinOp}{T:TypeId}{x:D}(h:Em P obj op T x=true):(oY P obj op T x).ok:=by
 unfold Em at h
 unfold oY
 split at h
 ·simp only[Bool.and_eq_true]at h
  exact⟨pv h.1,yj h.2⟩
 ·rename_i nm k
  simp only[Bool.and_eq_true]at h
  refine⟨?_,pv h.1.2,yj h.2⟩
  have h1:=h.1.1
  split at h1
  ·rename_i o ho;rw[ho];exact pv h1
  ·cases h1
 ·cases h
theorem MD{op:BinOp}{T:TypeId}{x y:D}{n:Bool}(h:z' P obj op T x y n=true):(lX P obj op T x y n).ok:=by
 unfold z' at h
 unfold lX
 cases n with
 |true=>exact YZ h
 |false=>
  simp only at h |-
  split at h
  ·rename_i h1 h2
   simp only[h1,h2]
   exact Y0 h
  ·rename_i aB
   split
   ·rename_i h1 h2;exact(aB _ _ h1 h2).elim
   ·exact Y4 h
theorem Mk{op:UnOp}{x:D}(h:zO op x=true):(lO obj op x).ok:=by
 unfold zO at h
 unfold lO
 split at h<;>first | trivial | cases h
theorem MB{s d:TypeId}{x:D}(h:z7 P s d x=true):(lT P obj s d x).ok:=by
 unfold z7 at h
 unfold lT
 (repeat' split at h)<;>simp_all
theorem Mz{x:D}{i:Nat}(h:z6 x i=true):(lS obj x i).ok:=by
 unfold z6 at h
 unfold lS
 split at h<;>simp_all[uV]
theorem Mp{x:D}(h:zS obj x=true):(ki obj x).ok:=by
 unfold zS at h
 unfold ki
 (repeat' split at h)<;>simp_all
 exact pv h
theorem Et{t:Name}{x:D}(h:wF obj t x=true):(lW obj t x).ok:=by
 simp only[wF,Bool.and_eq_true]at h
 exact⟨xP h.1,h.2⟩
theorem MF{t:Name}{T:TypeId}(h:Ab P obj t T=true):(mS P obj t T).ok:=by
 unfold Ab at h
 unfold mS
 split at h
 ·rename_i z hz;rw[hz];exact Et h
 ·cases h
theorem MC{T:TypeId}{ps:List (Nat×D)}(h:z8 P T ps=true):(lV P obj T ps).ok:=by
 unfold z8 at h
 unfold lV
 (repeat' split at h)<;>simp_all
theorem Mm{T:TypeId}{x d:D}(h:zP P obj T x d=true):(kh P obj T x d).ok:=by
 unfold zP at h
 unfold kh
 (repeat' split at h)<;>simp_all[px,uV,py,xX]
theorem Mr{t:Name}{T:TypeId}{r:Option D}(h:zV P obj t T r=true):(mQ P obj t T r).ok:=by
 unfold zV at h
 unfold mQ
 (repeat' split at h)<;>simp_all
 exact xP h
theorem Mq{t:Name}{T:TypeId}{l c:D}(h:zU P obj t T l c=true):(mP P obj t T l c).ok:=by
 unfold zU at h
 unfold mP
 split at h
 ·rename_i e sz by_ k n k' n' hT
  rw[hT]
  simp only
  split at h
  ·rename_i zv hz
   simp only[Bool.and_eq_true,Bool.not_eq_true',xX]at h
   obtain⟨⟨⟨⟨⟨⟨⟨⟨h1,h2⟩,h3⟩,h4⟩,h5⟩,h6⟩,h7⟩,h8⟩,h9⟩:=h
   rw[hz]
   exact⟨Int.le_antisymm (gf h2) (gf h1),gf h3,gf h4,gf h5,jN h6,h7,h8,xP h9⟩
  ·cases h
 ·cases h
theorem Mt{T:TypeId}{x:D}(h:zX P obj T x=true):(kj P obj T x).ok:=by
 unfold zX at h
 unfold kj
 (repeat' split at h)<;>simp_all
 exact pv h
theorem Mn{T:TypeId}{x:D}{lo hi mx:Option D}(h:zQ P obj T x lo hi mx=true):(jE P obj T x lo hi mx).ok:=by
 unfold zQ at h
 unfold jE
 split at h
 ·split at h
  ·split at h
   ·rename_i h1 h2 h3
    simp only[Bool.and_eq_true]at h
    simp only[h1,h2,h3]
    exact⟨gf h.1.1.1,gf h.1.1.2,gf h.1.2,Af h.2⟩
   ·cases h
  ·split at h
   ·rename_i h1 h2 h3
    simp only[Bool.and_eq_true]at h
    simp only[h1,h2,h3]
    exact⟨Jy.1 h.1,Jy.1 h.2⟩
   ·cases h
  ·split at h
   ·rename_i h1 h2 h3 h4
    simp only[Bool.and_eq_true]at h
    simp only[h1,h2,h3,h4]
    exact⟨jN h.1.1.1.1,gf h.1.1.1.2,gf h.1.1.2,gf h.1.2,Af h.2⟩
   ·rename_i h1 h2 h3 h4
    simp only[Bool.and_eq_true]at h
    simp only[h1,h2,h3,h4]
    exact⟨jN h.1.1.1.1,gf h.1.1.1.2,gf h.1.1.2,gf h.1.2,Af h.2⟩
   ·cases h
  ·split at h
   ·rename_i h1 h2 h3
    simp only[Bool.and_eq_true]at h
    simp only[h1,h2,h3]
    exact⟨gf h.1.1,gf h.1.2,gf h.2⟩
   ·cases h
  ·cases h
 ·split at h
  ·rename_i h1 h2 h3
   split at h
   ·simp only[h2,h3]
   ·simp only[h2,h3]
   ·split at h
    ·rename_i o ho
     simp only[h2,h3,ho]
     exact pv h
    ·cases h
   ·cases h
  ·cases h
 ·cases h
theorem Mx{T:TypeId}{x:D}{f:Nat}(h:z5 P T x f=true):(lR P obj T x f).ok:=by
 unfold z5 at h
 unfold lR
 (repeat' split at h)<;>simp_all[px,uV]
theorem Mv{T:TypeId}{x i:D}(h:z1 P T x i=true):(lQ P obj T x i).ok:=by
 unfold z1 at h
 unfold lQ
 (repeat' split at h)<;>simp_all[px,uV,JH,JG]
 exact pv h.1.1
theorem Ms{T:TypeId}{x k:D}{c:Bool}(h:zW P obj T x k=true):(lP P obj T x k c).ok:=by
 unfold zW at h
 unfold lP
 (repeat' split at h)<;>simp_all[px,py]
theorem zT{T:TypeId}{x k d:D}(h:wC P obj T x k d=true):(jF P obj T x k d).ok:=by
 unfold wC at h
 unfold jF
 (repeat' split at h)<;>simp_all[px,py]
theorem Mo{c x y:D}(h:zR c=true):(je obj c x y).ok:=by
 unfold zR at h
 unfold je
 split at h<;>first | trivial | cases h
theorem El{x:D}(h:wB obj x=true):(aG obj x).1:=by
 unfold wB at h
 unfold aG
 (repeat' split at h)<;>simp_all[py]
theorem ME{t:Name}{T1 T2:TypeId}{s x:D}(h:Aa P obj t T1 T2 s x=true):(dV P obj t T1 T2 s x).ok:=by
 unfold Aa at h
 unfold dV
 split at h
 ·rename_i e sz by_ p h1 h2
  split at h
  ·rename_i z hz
   split at h
   ·simp only[Bool.and_eq_true]at h
    simp only[h1,h2,hz]
    exact⟨El h.1.1.1.1.1,Ag h.1.1.1.1.2,jN h.1.1.1.2,qG h.1.1.2,qG h.1.2,xP h.2⟩
   ·split at h
    ·rename_i ho
     simp only[Bool.and_eq_true]at h
     simp only[h1,h2,hz,ho]
     exact⟨El h.1.1.1.1.1.1,Ag h.1.1.1.1.1.2,jN h.1.1.1.1.2,qG h.1.1.1.2,qG h.1.1.2,jN h.1.2,jN h.2⟩
    ·cases h
   ·cases h
  ·cases h
 ·cases h
end
def oS(f:(Name->Option O)->D->Bool)(g:(Name->Option O)->D->FR)(obj:Name->Option O):List D->Bool
 |[]=>true
 |d::r=>f obj d&&oS f g (g obj d).obj r
def ke:Nat->(Name->Option O)->D->Bool
 | 0,obj,d=>match d with
   | .v _=>true
   | .nilsl=>true
   |_=>false
 |n+1,obj,d=>match d with
  | .v _=>true
  | .nilsl=>true
  | .msl nm k=>match obj nm with
    |some (.arr _ l)=>decide (k=l.length)
    |some (.farr _ l)=>decide (k=l.length)
    |_=>false
  | .ref nm _=>match obj nm with
    |some (.box cs)=>oS (ke n) (aL n) obj cs&&!bZ (ej (fp n obj) cs) nm
    |some (.fbox _)=>true
    |_=>false
  | .agg l=>oS (ke n) (aL n) obj l
  | .tup l=>oS (ke n) (aL n) obj l
  | .clo _ f c=>oS (ke n) (aL n) obj f&&oS (ke n) (aL n) (br (aL n) obj f).obj c
  |_=>false
theorem Dx{n:Nat}(ih:∀ obj d,ke n obj d=true->(aL n obj d).ok):∀ (l:List D) (obj:Name->Option O),oS (ke n) (aL n) obj l=true->(br (aL n) obj l).ok
 |[],_,_=>trivial
 |d::r,obj,h=>by
  simp only[oS,Bool.and_eq_true]at h
  exact⟨ih obj d h.1,Dx ih r _ h.2⟩
theorem KT:∀ (n:Nat) (obj:Name->Option O) (d:D),ke n obj d=true->(aL n obj d).ok
 | 0,obj,d,h=>by cases d<;>first | trivial | (simp[ke]at h)
 |n+1,obj,d,h=>by
  have ih:=Dx (KT n)
  cases d with
  |v x=>trivial
  |nilsl=>trivial
  |msl nm k=>
   simp only[ke]at h
   unfold aL
   rcases ho:obj nm with _ | o
   ·simp[ho]at h
   ·cases o<;>simp[ho]at h |- <;>exact h
  |ref nm off=>
   simp only[ke]at h
   rcases ho:obj nm with _ | o
   ·simp[ho]at h
   ·cases o with
    |box cs=>
     simp only[ho,Bool.and_eq_true,Bool.not_eq_true']at h
     simp only[aL,ho]
     refine⟨ih cs obj h.1,?_⟩
     have :=(wc (zc n) cs obj obj (ej (fp n obj) cs) (fun _ hn=>hn) (fun _ _=>rfl)).2.frame nm (fun hn=>by rw[fx.2 hn]at h;cases h.2)
     rw[this,ho]
    |fbox cs=>simp only[aL,ho]
    |_=>simp[ho]at h
  |agg l=>exact ih l obj h
  |tup l=>exact ih l obj h
  |clo fn f c=>
   simp only[ke,Bool.and_eq_true]at h
   exact⟨ih f obj h.1,ih c _ h.2⟩
  |_=>simp[ke]at h
def isNil{α:Type}:List α->Bool
 |[]=>true
 |_=>false
theorem Va{α:Type}{l:List α}:isNil l=true↔l=[]:=by cases l<;>simp[isNil]
def yh:Nat->List Nat->Bool
 |_,[]=>true
 |k,x::r=>cQ x k&&yh (k+1) r
theorem Jz:∀ {k:Nat} {l:List Nat},yh k l=true->l=List.range' k l.length
 |k,[],_=>rfl
 |k,x::r,h=>by
  simp only[yh,Bool.and_eq_true]at h
  rw[jN h.1,List.length_cons,List.range'_succ]
  congr 1
  exact Jz h.2
def Eh(P:Program)(obj:Name->Option O)(T:TypeId)(n:Nat)(parts:List (Nat×D)):Bool:=
 match cg P T with
 |some (e,sz,_)=>match cQ n 0&&isNil parts with
  |true=>(bg P e).isSome
  |false=>oS (ke 4) (aL 4) obj (parts.map fun p=>p.2)&&yh 0 (parts.map fun p=>p.1)&&cQ parts.length n&&uh sz (br (aL 4) obj (parts.map fun p=>p.2)).xs&&
     fa (n*sz) 16777216&&!cQ sz 0&&(bg P e).isSome&&gr 0 n
 |none=>false
theorem YR{P:Program}{obj:Name->Option O}{T:TypeId}{n:Nat}{parts:List (Nat×D)}(h:Eh P obj T n parts=true):(nK P obj T n parts).ok:=by
 unfold Eh at h
 unfold nK
 split at h
 ·rename_i e sz by_ hT
  rw[hT]
  simp only
  split at h
  ·rename_i hc
   simp only[Bool.and_eq_true,py,Va]at hc
   rw[if_pos hc];exact h
  ·rename_i hc
   have fz:¬ (n=0/\parts=[]):=by
    intro ⟨a,b⟩
    subst a;subst b
    cases hc
   rw[if_neg fz]
   simp only[Bool.and_eq_true,Bool.not_eq_true',xX]at h
   obtain⟨⟨⟨⟨⟨⟨⟨h1,h2⟩,Dv⟩,h3⟩,h4⟩,h5⟩,h6⟩,h7⟩:=h
   refine⟨?_,Dx (KT 4) _ _ h1,Ag h3,qG h4,h5,h6,xW h7⟩
   have :=Jz h2
   rw[List.length_map,jN Dv,<-List.range_eq_range']at this
   exact this
 ·cases h
def Eg(P:Program)(σ:S)(t:Name)(b:Builtin)(ts:List TypeId)(args:List D):Bool:=
 match b,ts,args with
 | .len,[T],[x]=>zX P σ.obj T x
 | .append,[T1,T2],[s,x]=>Aa P σ.obj t T1 T2 s x
 | .min,_,[.v (.int _ _),.v (.int _ _)]=>true
 | .max,_,[.v (.int _ _),.v (.int _ _)]=>true
 |_,_,_=>false
def GO(P:Program)(σ:S)(t:Name):Op->Bool
 | .move _=>true
 | .assign _=>true
 | .pick c _ _=>zR (aq σ c)
 | .alloc T=>Ab P σ.obj t T
 | .box _ x=>wF σ.obj t (aq σ x)
 | .build T ps=>z8 P T (ps.toList.map fun p=>(p.1,aq σ p.2))
 | .buildSlice T n ps=>Eh P σ.obj T n (ps.toList.map fun p=>(p.1,aq σ p.2))
 | .load T x=>wD P σ.obj T (aq σ x)
 | .store T x d=>zP P σ.obj T (aq σ x) (aq σ d)
 | .nilCheck x=>zS σ.obj (aq σ x)
 | .binOp op T x y _=>z' P σ.obj op T (aq σ x) (aq σ y) (yi y)
 | .unOp op _ x=>zO op (aq σ x)
 | .convert s d x=>z7 P s d (aq σ x)
 | .makeFunc _ _ _=>true
 | .makeMap T r=>zV P σ.obj t T (r.map (aq σ))
 | .makeSlice T l c=>zU P σ.obj t T (aq σ l) (aq σ c)
 | .slice T x lo hi mx=>zQ P σ.obj T (aq σ x) (lo.map (aq σ)) (hi.map (aq σ)) (mx.map (aq σ))
 | .fieldAddr T x f=>z2 P σ.obj T f (aq σ x)
 | .field T x f=>z5 P T (aq σ x) f
 | .indexAddr T x i=>zZ P σ.obj T (aq σ x) (aq σ i)
 | .index T x i=>z1 P T (aq σ x) (aq σ i)
 | .lookup T x i _=>zW P σ.obj T (aq σ x) (aq σ i)
 | .mapUpdate T x k d=>wC P σ.obj T (aq σ x) (aq σ k) (aq σ d)
 | .insert T x k d=>wC P σ.obj T (aq σ x) (aq σ k) (aq σ d)
 | .extract x i=>z6 (aq σ x) i
 | .call ⟨.builtin b,args,ts⟩=>Eg P σ t b ts.toList (args.toList.map (aq σ))
 |_=>false
theorem YQ{P:Program}{σ:S}{t:Name}{b:Builtin}{ts:List TypeId}{args:List D}(h:Eg P σ t b ts args=true):(lU P σ t b ts args).ok:=by
 unfold Eg at h
 split at h
 ·exact Mt h
 ·exact ME h
 ·trivial
 ·trivial
 ·cases h
theorem Q5{P:Program}{Γ:FuncId->Option Spec}{σ:S}{t:Name}{op:Op}(h:GO P σ t op=true):(bf P Γ σ t op).ok:=by
 cases op with
 |call c=>
  obtain⟨callee,args,ts⟩:=c
  cases callee with
  |value f=>cases h
  |builtin b=>exact YQ h
  |invoke=>cases h
 |move=>trivial
 |assign=>trivial
 |makeFunc=>trivial
 |pick=>exact Mo h
 |alloc=>exact MF h
 |box=>exact Et h
 |build=>exact MC h
 |buildSlice=>exact YR h
 |load=>exact Eo h
 |store=>exact Mm h
 |nilCheck=>exact Mp h
 |binOp=>exact MD h
 |unOp=>exact Mk h
 |convert=>exact MB h
 |makeMap=>exact Mr h
 |makeSlice=>exact Mq h
 |slice=>exact Mn h
 |fieldAddr=>exact My h
 |field=>exact Mx h
 |indexAddr=>exact Mw h
 |index=>exact Mv h
 |lookup=>exact Ms h
 |mapUpdate=>exact zT h
 |insert=>exact zT h
 |extract=>exact Mz h
 |_=>cases h
def yl(o:Oper):Option (TypeId×Operand×Operand×Nat):=
 match o.op with
 | .slice T x (some lo) none none=>match o.guard,o.dst with
   |none,some c=>some (T,x,lo,c)
   |_,_=>none
 |_=>none
def yk(c:Nat)(o:Oper):Bool:=
 match o.op with
 | .call ⟨.builtin .clear,args,ts⟩=>match args.toList,ts.toList,o.guard,o.dst with
   |[.tmp c'],[_],none,none=>Nat.beq c' c
   |_,_,_,_=>false
 |_=>false
def iy(o:Oper):TypeId:=match o.op with
 | .call ⟨.builtin .clear,_,ts⟩=>ts.getD 0 0
 |_=>0
def iE(P:Program)(obj:Name->Option O)(T T2:TypeId)(x lo:D):R:=
 match x,lo,cg P T,cg P T2 with
 | .msl nm k,.v (.int _ i),some (e,sz,_),some (e2,_,_)=>match obj nm,(bg P e).bind fun z=>dN (gK z)with
   |some (.arr s l),some zv=>⟨k=l.length/\0<=i/\i.toNat<l.length/\s=sz/\zv.cells.length=sz/\zv.okc=true/\e2=e/\0<sz,.any,upd obj nm (some (.arr sz (l.take i.toNat++List.replicate (l.length-i.toNat) zv)))⟩
   |_,_=>.bad obj
 |_,_,_,_=>.bad obj
def lJ(P:Program)(σ:S)(T:TypeId)(x lo:Operand)(c:Nat)(o2:Oper):S:=
 { σ with env:=upd σ.env c ⟨true,.any⟩,obj:=(iE P σ.obj T (iy o2) (aq σ x) (aq σ lo)).obj }
inductive lY (P:Program) (Γ:FuncId->Option Spec) (ops:Array Oper):List Oper->S->(S->Prop)->Prop
 |nil {σ:S} {K:S->Prop}:K σ->lY P Γ ops [] σ K
 |step {o:Oper} {r:List Oper} {σ:S} {K:S->Prop}:kz P Γ ops σ o->lY P Γ ops r (bn P Γ ops σ o) K->lY P Γ ops (o::r) σ K
 |cut {o o2:Oper} {r:List Oper} {σ:S} {K:S->Prop} {T:TypeId} {x lo:Operand} {c:Nat}:yl o=some (T,x,lo,c)->yk c o2=true->c<σ.nt->cI σ x=true->cI σ lo=true->
    (iE P σ.obj T (iy o2) (aq σ x) (aq σ lo)).ok->lY P Γ ops r (lJ P σ T x lo c o2) K->lY P Γ ops (o::o2::r) σ K
theorem Gg{m:Mem}{zv:V}{z:Value}{sz:Nat}(h:aP m zv z)(hs:zv.cells.length=sz)(cL:0<sz)(n k:Nat)(hk:k<n*sz):
 (Builtin.zeroCells z.cells n)[k]?=z.cells[k % sz]?:=by
 have hz:z.cells.size=sz:=by rw[<-h.cells];exact hs
 have hm:=Nat.mod_lt k cL
 unfold Builtin.zeroCells
 rw[hz]
 simp only[Array.getElem?_map,Array.getElem?_range,hk,if_true,Option.map_some]
 rw[Array.getElem?_eq_getElem (by omega),getElem!_pos z.cells (k % sz) (by omega)]
theorem D5{l:List V}{zv:V}{i q:Nat}(hi:i<=l.length)(hq:q<(l.take i++List.replicate (l.length-i) zv).length):
 (q<i/\∃ h:q<l.length,(l.take i++List.replicate (l.length-i) zv)[q]=l[q])\/(i<=q/\q<l.length/\(l.take i++List.replicate (l.length-i) zv)[q]=zv):=by
 have hlen:(l.take i).length=i:=by simp;omega
 have cz:=hq
 simp only[List.length_append,List.length_replicate,hlen]at cz
 by_cases h1:q<i
 ·refine .inl ⟨h1,by omega,?_⟩
  rw[List.getElem_append_left (by omega),List.getElem_take]
 ·refine .inr ⟨by omega,by omega,?_⟩
  rw[List.getElem_append_right (by omega),List.getElem_replicate]
theorem Hg{K a b:Nat}(h:a<b):a*K+K<=b*K:=by
 have :=Nat.mul_le_mul_right K (show a+1<=b by omega)
 rwa [Nat.add_mul,Nat.one_mul]at this
set_option maxHeartbeats 1000000 in
theorem Ym{P:Program}{G:Ghost}{φ:Name->Loc}{m:Mem}{σ:S}{a:Act}{w:World}(hC:aQ G φ m σ a w)
 {ops:Array Oper} {i:Nat} {o o2:Oper} (hi:ops[i]?=some o) (kN:ops[i+1]?=some o2) {T:TypeId} {x lo:Operand} {c:Nat} (hA:yl o=some (T,x,lo,c)) (hB:yk c o2=true) (hc:c<σ.nt)
 (hx:cI σ x=true) (eF:cI σ lo=true) (aa:(iE P σ.obj T (iy o2) (aq σ x) (aq σ lo)).ok) {K:Act->World->Prop} {Q:Exit->Act->World->Prop}
 (hK:∀ a' w' φ' m',aQ G φ' m' (lJ P σ T x lo c o2) a' w'->K a' w'):
 wpOpIn (fB G.rd) 0 P ops Q i (fun a1 w1=>wpOpIn (fB G.rd) 0 P ops Q (i+1) K a1 w1) a w:=by
 unfold yl at hA
 split at hA
 case h_2=>cases hA
 rename_i T0 x0 BT J4
 split at hA
 case h_2=>cases hA
 rename_i hg hd
 simp only[Option.some.injEq,Prod.mk.injEq]at hA
 obtain⟨rfl,rfl,rfl,rfl⟩:=hA
 unfold yk at hB
 split at hB
 case h_2=>cases hB
 rename_i args ts CH
 split at hB
 case h_2=>cases hB
 rename_i c' T2 lE nl dz ny
 have WQ:=Nat.eq_of_beq_eq_true hB
 subst WQ
 have mF:iy o2=T2:=by
  unfold iy
  rw[CH]
  simp only
  have :ts= #[T2]:=by rw[<-Array.toArray_toList (xs:=ts),nl]
  rw[this];rfl
 have W1:args= #[.tmp c']:=by rw[<-Array.toArray_toList (xs:=args),lE]
 have VF:ts= #[T2]:=by rw[<-Array.toArray_toList (xs:=ts),nl]
 rw[mF]at aa
 have Kt:lJ P σ T0 x0 BT c' o2={ σ with env:=upd σ.env c' ⟨true,.any⟩,obj:=(iE P σ.obj T0 T2 (aq σ x0) (aq σ BT)).obj }:=by unfold lJ;rw[mF]
 rw[Kt]at hK
 clear Kt hB lE nl mF
 have rx:=cB hC hx
 have rl:=cB hC eF
 unfold iE at aa hK
 split at aa
 case h_2=>exact aa.elim
 rename_i nm k kd ii e sz by_ e2 FB Mg pU ry KC KB
 split at aa
 case h_2=>exact aa.elim
 rename_i s l zv aA qO
 obtain⟨h1,h2,h3,h4,h5,h6,h7,cL⟩:=aa
 subst h7
 subst h4
 obtain⟨n,rfl⟩:∃ n:Nat,ii=(n:Int):=⟨ii.toNat,by omega⟩
 simp only[pU,ry,KC,KB,aA,qO,Int.toNat_natCast]at hK h3
 obtain⟨hu,it,ev,Ki,_⟩:=jj KC
 obtain⟨ff,_⟩:=jj KB
 obtain⟨z,hz,Vm⟩:=Option.bind_eq_some_iff.1 qO
 have fT:aP m zv z:=nI (sT (φ:=φ) (obj:=σ.obj) (m:=m) z) Vm
 rw[pU]at rx
 rw[ry]at rl
 cases rl with
 |v _ _ rl=>
 cases ri:a.eval BT with
 |int kd2 n2=>
  rw[ri]at rl
  cases rl
  cases rx with
  |msl _ _ _ hh _=>
  obtain⟨oo,nn,dv,hlen,hk,dj⟩:=hh
  rw[aA]at dv;cases dv
  simp only[O.len?,Option.some.injEq]at hlen
  subst hlen
  subst h1
  have hv:=dj rfl
  rcases hC.objs nm _ aA with⟨_,oE⟩ | ⟨g0,g1,g2,g3,g4,us,T',f,g5,g6,g7,g8⟩
  ·subst oE;simp at h3
  have qR:a.eval x0=.slice (some ⟨(φ nm).blk,(φ nm).off,none⟩) l.length (φ nm).cap:=by rw[hv];simp only[Loc.slice,g0];rfl
  have mC:(φ nm).blk<w.heap.size:=(Array.getElem?_eq_some_iff.1 g5).1
  have jU:(Instr.sliceAt T0 (.slice (some ⟨(φ nm).blk,(φ nm).off,none⟩) l.length (φ nm).cap) (some (.int kd n)) none none).run P w=
      .ok (.slice (some ⟨(φ nm).blk,(φ nm).off+n*s,none⟩) (l.length-n) ((φ nm).cap-n)) w:=by
   have hb:=xq (P:=P) (φ:=φ) (obj:=σ.obj) (m:=m) (lo:=some (.v (.int kd n))) (hi:=none) (ulo:=some (.int kd n)) (uhi:=none) (len:=l.length) (cap:=(φ nm).cap) (n:=0) (i:=n) (j:=l.length) true (.v _ _ (.int _ _)) trivial rfl rfl (by omega) (by omega) (by omega) g1 w
   rw[xl hu]
   have aB:¬ ((φ nm).cap=n):=by omega
   simp[Instr.slice,run_underlying hu,hb,sizeOf,typeInfo,ev,Ki,aB,nJ]
  have bR:∀ cc,o.op≠ .defer cc:=fun cc h=>by rw[J4]at h;cases h
  have tw:∀ cc,o2.op≠ .defer cc:=fun cc h=>by rw[CH]at h;cases h
  have kI:Region.wanted o (yielded ops a.tmps)=true:=by unfold Region.wanted;rw[hg]
  have cR:(execOp a.eval o).run P w=.ok (.value (.slice (some ⟨(φ nm).blk,(φ nm).off+n*s,none⟩) (l.length-n) ((φ nm).cap-n))) w:=by
   unfold execOp
   rw[J4]
   simp only[qR,Option.map_some,Option.map_none,ri,Sem.run_bind,jU,Result.andThen_ok,Sem.run_pure]
  have key:∀ KK:Act->World->Prop,KK (a.put (some c') (.slice (some ⟨(φ nm).blk,(φ nm).off+n*s,none⟩) (l.length-n) ((φ nm).cap-n))) w->wpOpIn (fB G.rd) 0 P ops Q i KK a w:=by
   intro KK KL
   unfold wpOpIn
   simp only[hi,kI,if_true]
   refine⟨fun _ _=>trivial,?_⟩
   rw[Oper.semAt_eq _ _ _ bR,cR]
   rw[<-hd]at KL
   exact KL
  refine key _ ?_
  have gB:=hC.put (t:=c') (e:=⟨true,.any⟩) (v:=.slice (some ⟨(φ nm).blk,(φ nm).off+n*s,none⟩) (l.length-n) ((φ nm).cap-n)) hc (by unfold cD;simp;exact .any _)
  have Ko:(a.put (some c') (.slice (some ⟨(φ nm).blk,(φ nm).off+n*s,none⟩) (l.length-n) ((φ nm).cap-n))).eval (.tmp c')=.slice (some ⟨(φ nm).blk,(φ nm).off+n*s,none⟩) (l.length-n) ((φ nm).cap-n):=by
   have hs:c'<a.tmps.size:=by rw[hC.size];exact hc
   simp[Act.put,Act.eval,Array.getD,hs]
  generalize hga:a.put (some c') (.slice (some ⟨(φ nm).blk,(φ nm).off+n*s,none⟩) (l.length-n) ((φ nm).cap-n))=a1 at gB Ko |-
  have i7:n*s<=l.length*s:=Nat.mul_le_mul_right _ (by omega)
  have jb:l.length*s<=(φ nm).cap*s:=Nat.mul_le_mul_right _ g1
  have qP:(Builtin.zeroCells z.cells (l.length-n)).toList.length=l.length*s-n*s:=by
   have Ck:z.cells.size=s:=by rw[<-fT.cells];exact h5
   simp[Builtin.zeroCells,Ck,Nat.sub_mul]
  obtain⟨iH,k1,k2,k3⟩:=uI P (φ nm).blk ((φ nm).off+n*s) T' f g6 (Builtin.zeroCells z.cells (l.length-n)).toList 0 us w g5 (by rw[qP];omega)
   (fun v hv=>by
     obtain⟨k,hk,rfl⟩:=List.getElem_of_mem hv
     rw[qP,<-Nat.sub_mul]at hk
     have h0:=Gg fT h5 cL (l.length-n) k hk
     have Kb:k % s<z.cells.size:=by rw[<-fT.cells,h5];exact Nat.mod_lt _ cL
     rw[Array.getElem?_eq_getElem Kb]at h0
     have h1:(Builtin.zeroCells z.cells (l.length-n)).toList[k]=z.cells[k % s]:=by
      have :=h0
      rw[<-Array.getElem?_toList]at this
      exact(List.getElem?_eq_some_iff.1 this).2
     rw[h1]
     have rj:k % s<zv.cells.length:=by rw[h5];exact Nat.mod_lt _ cL
     exact GQ ((fT.cell (k % s) rj Kb).one (fT.ones h6 _ (List.getElem_mem _))))
  simp only[Nat.add_zero]at k2
  have Co:Region.wanted o2 (yielded ops a1.tmps)=true:=by unfold Region.wanted;rw[dz]
  show wpOpIn (fB G.rd) 0 P ops Q (i+1) K a1 w
  unfold wpOpIn
  simp only[kN,Co,if_true]
  refine⟨fun _ _=>trivial,?_⟩
  rw[Oper.semAt_eq _ _ _ tw]
  have VM:(execOp a1.eval o2).run P w=.ok (.value (.tuple #[])) (cO w (φ nm).blk (.cells iH T' f)):=by
   have aB:l.length-n≠0:=by omega
   unfold execOp
   rw[CH,W1,VF]
   simp only[resolve,invoke,builtin,Sem.run_bind,Sem.run_pure,Result.andThen_ok,List.map_toArray,List.map_cons,List.map_nil,Ko]
   have VE:Sem.run P (underlying T2) w=.ok (TypeDesc.slice e2) w:=run_underlying ff w
   have cF:(Builtin.clear_ #[T2] o2.type #[.slice (some ⟨(φ nm).blk,(φ nm).off+n*s,none⟩) (l.length-n) ((φ nm).cap-n)]).run P w=.ok (.tuple #[]) (cO w (φ nm).blk (.cells iH T' f)):=by
    obtain⟨q,hq⟩:∃ q,l.length-n=q+1:=⟨l.length-n-1,by omega⟩
    rw[hq]at k3 |-
    simp[Builtin.clear_,VE,uH hz,k3]
   simp only[cF,Result.andThen_ok]
  rw[VM]
  have vK:(l.take n++List.replicate (l.length-n) zv).length=l.length:=by simp;omega
  have bz:=Ext.same (φ:=φ) (o':=.arr s (l.take n++List.replicate (l.length-n) zv)) aA (by simp only[O.len?,vK]) rfl
  have Wu:=gB.chg (w':=cO w (φ nm).blk (.cells iH T' f)) nm (.arr s (l.take n++List.replicate (l.length-n) zv)) (φ nm) bz ⟨rfl,rfl,rfl,by simp[cO]⟩
   (fun b hb hn=>o4 (by rcases hn with h | h; · rw[g0]at h;cases h
                        ·exact h))
   (fun _=>.inr ⟨⟨_,aA,rfl,g0⟩,rfl⟩) (by
     refine .inr ⟨g0,by rw[vK];exact g1,g2,fun q hq=>?_,fun q hq=>?_,iH,T',f,qo mC,g6,by rw[k1];exact g7,fun q j hq hj=>?_⟩
     ·rcases D5 (by omega) hq with⟨_,cz,e3⟩ | ⟨_,_,e3⟩<;>rw[e3]
      ·exact g3 q cz
      ·exact h5
     ·rcases D5 (by omega) hq with⟨_,cz,e3⟩ | ⟨_,_,e3⟩<;>rw[e3]
      ·exact g4 q cz
      ·exact fT.ones h6
     ·rw[k2,qP]
      rcases D5 (by omega) hq with⟨CD,cz,e3⟩ | ⟨CD,cz,e3⟩
      ·simp only[e3]at hj |-
       have fV:j<s:=by rw[<-g3 q cz];exact hj
       have hm:=Hg (K:=s) CD
       rw[if_neg (by omega)]
       exact g8 q j cz hj
      ·simp only[e3]at hj |-
       have fV:j<s:=by rw[<-h5];exact hj
       have hm:=Hg (K:=s) cz
       have gO:n*s<=q*s:=Nat.mul_le_mul_right _ CD
       rw[if_pos (by omega)]
       refine⟨z.cells[j]'(by rw[<-fT.cells,h5];exact fV),?_,fT.cell j hj _⟩
       rw[show (φ nm).off+q*s+j-((φ nm).off+n*s)=(q-n)*s+j by rw[Nat.sub_mul];omega,Array.getElem?_toList]
       have ab:(q-n)*s+j<(l.length-n)*s:=by rw[Nat.sub_mul,Nat.sub_mul];omega
       rw[Gg fT h5 cL _ _ ab]
       have :((q-n)*s+j) % s=j:=by rw[Nat.mul_comm,Nat.mul_add_mod,Nat.mod_eq_of_lt fV]
       rw[this,Array.getElem?_eq_getElem])
  have j5:=hK _ _ _ m Wu
  show K (a1.put o2.dst (.tuple #[])) _
  rw[ny]
  exact j5
 |_=>rw[ri]at rl;cases rl
theorem QC{P:Program}{Γ:FuncId->Option Spec}(hΓ:∀ f s,Γ f=some s->aF P f s){G:Ghost}{ops:Array Oper}{Q:Exit->Act->World->Prop}{K:S->Prop}{l:List Oper}{σ:S}(hr:lY P Γ ops l σ K):
 ∀ (k:Nat) {φ:Name->Loc} {m:Mem} {a:Act} {w:World},k+l.length=ops.size->ops.toList.drop k=l->aQ G φ m σ a w->
   (∀ a' w' φ' m' σ',aQ G φ' m' σ' a' w'->K σ'->Q .normal a' w')->wpOpsIn (fB G.rd) 0 P ops Q (List.range' k l.length) a w:=by
 have rp:∀ (k:Nat) (o:Oper) (r:List Oper),ops.toList.drop k=o::r->ops[k]?=some o/\ops.toList.drop (k+1)=r:=by
  intro k o r h
  have h0:(ops.toList.drop k)[0]?=some o:=by rw[h];rfl
  rw[List.getElem?_drop,Nat.add_zero,Array.getElem?_toList]at h0
  refine⟨h0,?_⟩
  have h1:(ops.toList.drop k).drop 1=r:=by rw[h];rfl
  rw[List.drop_drop]at h1
  exact h1
 induction hr with
 |nil hk=>exact fun k φ m a w _ _ hC hQ=>hQ _ _ φ m _ hC hk
 |step h1 _ ih=>
  intro k φ m a w hs hd hC hQ
  obtain⟨hi,pW⟩:=rp k _ _ hd
  rw[List.length_cons]at hs |-
  rw[List.range'_succ,wpOpsIn_cons]
  exact AK hΓ hC hi h1 fun a' w' φ' m' cG=>ih (k+1) (by omega) pW cG hQ
 |cut hA hB hc hx eF aa _ ih=>
  intro k φ m a w hs hd hC hQ
  obtain⟨hi,pW⟩:=rp k _ _ hd
  obtain⟨kN,ny⟩:=rp (k+1) _ _ pW
  rw[List.length_cons,List.length_cons]at hs |-
  rw[List.range'_succ,wpOpsIn_cons,List.range'_succ]
  rename_i o1 o2 r' _ _ _ _ _ _ _
  have :=Ym (ops:=ops) (Q:=Q) hC hi kN hA hB hc hx eF aa (K:=fun a' w'=>wpOpsIn (fB G.rd) 0 P ops Q (List.range' (k+1+1) r'.length) a' w') fun a' w' φ' m' cG=>ih (k+2) (by omega) ny cG hQ
  have e:wpOpsIn (fB G.rd) 0 P ops Q ((k+1)::List.range' (k+1+1) r'.length)=fun a1 w1=>wpOpIn (fB G.rd) 0 P ops Q (k+1) (fun a' w'=>wpOpsIn (fB G.rd) 0 P ops Q (List.range' (k+1+1) r'.length) a' w') a1 w1:=by
   funext a1 w1
   rw[wpOpsIn_cons]
  rw[e]
  exact this
theorem LP{P:Program}{Γ:FuncId->Option Spec}(hΓ:∀ f s,Γ f=some s->aF P f s){id:Nat}{ops:Array Oper}{σ:S}{K:Exit->S->Prop}
 (h:lY P Γ ops ops.toList σ (K .normal)):CW P (.region id ops false) σ K:=by
 intro G φ m a w hC
 refine wpIn_region ?_
 rw[List.range_eq_range']
 have :=QC hΓ h 0 (Q:=fun e a' w'=>∃ φ' m' σ',aQ G φ' m' σ' a' w'/\K e σ') (by simp) (by simp) hC fun a' w' φ' m' σ' cG hK=>⟨φ',m',σ',cG,hK⟩
 simpa using this
def Er(P:Program)(obj:Name->Option O)(T T2:TypeId)(x lo:D):Bool:=
 match x,lo,cg P T,cg P T2 with
 | .msl nm k,.v (.int _ i),some (e,sz,_),some (e2,_,_)=>match obj nm,(bg P e).bind fun z=>dN (gK z)with
   |some (.arr s l),some zv=>cQ k l.length&&dA 0 i&&gr i.toNat l.length&&cQ s sz&&cQ zv.cells.length sz&&zv.okc&&cQ e2 e&&gr 0 sz
   |_,_=>false
 |_,_,_,_=>false
theorem Y2{P:Program}{obj:Name->Option O}{T T2:TypeId}{x lo:D}(h:Er P obj T T2 x lo=true):(iE P obj T T2 x lo).ok:=by
 unfold Er at h
 unfold iE
 split at h
 ·split at h
  ·simp only[Bool.and_eq_true]at h
   obtain⟨⟨⟨⟨⟨⟨⟨h1,h2⟩,h3⟩,h4⟩,h5⟩,h6⟩,h7⟩,h8⟩:=h
   exact⟨jN h1,gf h2,xW h3,jN h4,jN h5,h6,jN h7,xW h8⟩
  ·cases h
 ·cases h
theorem Zw{P:Program}{obj:Name->Option O}{T T2:TypeId}{x lo:D}{nm:Name}(h:nm∉aZ x):(iE P obj T T2 x lo).obj nm=obj nm:=by
 unfold iE
 split
 ·split
  ·simp only[aZ,List.mem_singleton]at h
   exact aW _ _ _ h
  ·rfl
 ·rfl
end Go.Eng
