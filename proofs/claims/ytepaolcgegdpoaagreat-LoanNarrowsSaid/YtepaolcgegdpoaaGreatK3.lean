import Derived.Test.YtepaolcgegdpoaaGreatK2
/- Texts Eng19 to EngK. -/
set_option linter.all false
namespace Go.Eng
open Go
section
variable {P:Program} {Γ:FuncId->Option Spec} {ops:Array Oper}
structure va where
 anc:List Nat
 past:sF
def eQ:Name->Name->Bool
 |[],[]=>true
 |x::r,y::s=>Nat.beq x y&&eQ r s
 |_,_=>false
theorem gO:∀ {a b:Name},eQ a b=true↔a=b
 |[],[]=>by simp[eQ]
 |[],_::_=>by simp[eQ]
 |_::_,[]=>by simp[eQ]
 |x::r,y::s=>by
  simp only[eQ,Bool.and_eq_true,Nat.beq_eq,List.cons.injEq,gO]
def vY:List Name->Name->Bool
 |[],_=>false
 |x::r,nm=>eQ x nm||vY r nm
theorem LS:∀ {l:List Name} {nm:Name},vY l nm=true↔nm∈l
 |[],nm=>by simp[vY]
 |x::r,nm=>by
  simp only[vY,Bool.or_eq_true,gO,List.mem_cons,LS]
  exact⟨fun h=>h.imp Eq.symm id,fun h=>h.imp Eq.symm id⟩
def lf:List Nat->Nat->Bool
 |[],_=>false
 |x::r,n=>Nat.beq x n||lf r n
theorem LU:∀ {l:List Nat} {n:Nat},lf l n=true↔n∈l
 |[],n=>by simp[lf]
 |x::r,n=>by
  simp only[lf,Bool.or_eq_true,Nat.beq_eq,List.mem_cons,LU]
  exact⟨fun h=>h.imp Eq.symm id,fun h=>h.imp Eq.symm id⟩
def wR:List Name->List Name->Bool
 |[],_=>true
 |x::r,b=>!vY b x&&wR r b
theorem HK:∀ {a b:List Name},wR a b=true->zU a b
 |[],_,_=>fun nm h=>by cases h
 |x::r,b,h=>by
  simp only[wR,Bool.and_eq_true,Bool.not_eq_true']at h
  intro nm ha hb
  rcases List.mem_cons.1 ha with rfl | ha
  ·rw[LS.2 hb]at h;cases h.1
  ·exact HK h.2 nm ha hb
def fR(p:va)(e:va):Bool:=lf p.anc e.past.on||(wR e.past.wrt p.past.foot&&wR p.past.wrt e.past.foot)
def vK:List va->Bool
 |[]=>true
 |p::L=>L.all (fR p)&&vK L
variable (P Γ ops)in
def sE:Nat->List (List Nat)->List Oper->List va->S->(S->Prop)->Prop
 |_,_,[],L,σ,K=>vK L=true/\K σ
 |i,az,o::r,L,σ,K=>lZ P Γ ops σ o/\
   sE (i+1) az.tail r (⟨az.headD [],i,cE Γ σ ((σ.base+o.dst.getD 0)::σ.pre) o.op,bV Γ σ ((σ.base+o.dst.getD 0)::σ.pre) o.op⟩::L) (bz P Γ ops σ o) K
variable (P Γ ops)in
def IQ(anc:Nat->List Nat):Nat->List Oper->List sF->S->(S->Prop)->Prop
 |_,[],_,σ,K=>K σ
 |i,o::r,L,σ,K=>lZ P Γ ops σ o/\AT (anc i) (cE Γ σ (Oper.tt σ o) o.op) (bV Γ σ (Oper.tt σ o) o.op) L/\
   IQ anc (i+1) r (⟨i,cE Γ σ (Oper.tt σ o) o.op,bV Γ σ (Oper.tt σ o) o.op⟩::L) (bz P Γ ops σ o) K
theorem Kw{anc:Nat->List Nat}{K:S->Prop}:∀ (l:List Oper) (i:Nat) (az:List (List Nat)) (L:List va) (σ:S),(∀ k,az.getD k []=anc (i+k))->
 sE P Γ ops i az l L σ K->vK L=true/\IQ P Γ ops anc i l (L.map (·.past)) σ K
 |[],i,az,L,σ,_,h=>h
 |o::r,i,az,L,σ,ha,h=>by
  obtain⟨h1,h2⟩:=h
  obtain⟨h3,h4⟩:=Kw (anc:=anc) r (i+1) az.tail _ _ (fun k=>by
   have :=ha (k+1)
   rw[show i+(k+1)=i+1+k by omega]at this
   rw[<-this]
   cases az<;>rfl) h2
  simp only[vK,Bool.and_eq_true]at h3
  refine⟨h3.2,h1,?_,h4⟩
  intro e he
  obtain⟨p,hp,rfl⟩:=List.mem_map.1 he
  have :=List.all_eq_true.1 h3.1 p hp
  simp only[fR,Bool.or_eq_true,Bool.and_eq_true]at this
  rcases this with k | ⟨k1,k2⟩
  ·left
   have h0:az.headD []=anc i:=by
    have :=ha 0
    rw[Nat.add_zero]at this
    rw[<-this]
    cases az<;>rfl
   rw[h0]at k
   exact LU.1 k
  ·exact .inr ⟨HK k1,HK k2⟩
theorem Kx(hN:∀ f s,Γ f=some s->s.Near){anc:Nat->List Nat}(hA:zV ops anc)(kb:∀ i j oi oj,ops[i]?=some oi->ops[j]?=some oj->i<j->i∉anc j->oi.apart ops oj=true)
 (B5:∀ j o,ops[j]?=some o->∀ e∈o.after,Region.binds .any e=true->e.on<j) {K:S->Prop}:
 ∀ (n k:Nat) (L:List sF) (listed:Array Bool) (σ:S),k+n=ops.size->listed.size=ops.size->(∀ j,listed.getD j false=decide (j<k))->vf anc listed->
   IQ P Γ ops anc k (ops.toList.drop k) L σ K->sK P Γ ops anc L K n listed σ
 | 0,k,L,listed,σ,hk,hs,hl,cA,h=>by
   have :ops.toList.drop k=[]:=List.drop_eq_nil_of_le (by simp;omega)
   rw[this]at h
   refine⟨?_,h⟩
   refine List.eq_nil_iff_forall_not_mem.2 fun j hj=>?_
   obtain⟨h1,o,ho,_⟩:=mem_ready.1 hj
   have ae:j<ops.size:=(Array.getElem?_eq_some_iff.1 ho).1
   have :=hl j
   simp only[Array.getD_eq_getD_getElem?,Array.getElem?_eq_getElem (show j<listed.size by omega),Option.getD_some]at h1 this
   rw[h1]at this
   simp at this
   omega
 |n+1,k,L,listed,σ,hk,hs,hl,cA,h=>by
  have ae:k<ops.size:=by omega
  have hd:ops.toList.drop k=ops[k]::ops.toList.drop (k+1):=by
   rw[List.drop_eq_getElem_cons (by simpa using ae)];simp
  rw[hd]at h
  obtain⟨h1,h2,h3⟩:=h
  have aa:ops[k]?=some ops[k]:=Array.getElem?_eq_getElem ae
  have wB:∀ j,j<listed.size->listed.getD j true=listed.getD j false:=by
   intro j hj
   simp only[Array.getD_eq_getD_getElem?,Array.getElem?_eq_getElem hj,Option.getD_some]
  have hr:k∈Region.ready .any ops listed:=by
   refine mem_ready.2 ⟨?_,_,aa,fun e he hb=>?_⟩
   ·rw[wB k (by omega),hl k];simp
   ·rw[hl];simpa using B5 k _ aa e he hb
  refine pull hN hA aa n listed σ cA (fun j oj hj aH yx iq=>?_) hr h1 h2 ?_
  ·have ft:j<ops.size:=(Array.getElem?_eq_some_iff.1 hj).1
   rw[wB j (by omega),hl j]at yx
   simp at yx
   exact kb k j _ oj aa hj (by omega) iq
  ·refine Kx hN hA kb B5 n (k+1) _ _ _ (by omega) (by simpa using hs) (fun j=>?_) (cA.set hA hr) h3
   by_cases oJ:k=j
   ·subst oJ
    simp[show k<listed.size by omega]
   ·rw[getD_set_ne false oJ,hl j]
    refine decide_eq_decide.2 ?_
    omega
def xv(ops:Array Oper)(az:List (List Nat)):Bool:=
 (List.range ops.size).all fun j=>match ops[j]? with
   |none=>true
   |some oj=>(oj.after.toList.all fun e=>!Region.binds .any e||decide (e.on<j))&&
      ((az.getD j []).all fun i=>oj.after.toList.any fun e=>Region.binds .any e&&(e.on==i||(az.getD e.on []).contains i))&&
      (List.range j).all fun i=>(az.getD j []).contains i||(match ops[i]? with | some oi=>oi.apart ops oj | none=>true)
theorem HZ(hΓ:∀ f s,Γ f=some s->aT P f s)(hP:P.follows .mixedOrders=true){id:Nat}{l:List Oper}{σ:S}{K:Exit->S->Prop}(az:List (List Nat))
 (hs:xv l.toArray az=true) (h:∀ K':S->Prop,(∀ σ',K .normal σ'->K' σ')->sE P Γ l.toArray 0 az l [] σ K'):CW P (.region id l.toArray true) σ K:=by
 intro G φ m a w hC
 have i7:∀ j oj,l.toArray[j]?=some oj->(oj.after.toList.all fun e=>!Region.binds .any e||decide (e.on<j))=true/\
       ((az.getD j []).all fun i=>oj.after.toList.any fun e=>Region.binds .any e&&(e.on==i||(az.getD e.on []).contains i))=true/\
       ((List.range j).all fun i=>(az.getD j []).contains i||(match l.toArray[i]? with | some oi=>oi.apart l.toArray oj | none=>true))=true:=by
  intro j oj hj
  have :=List.all_eq_true.1 hs j (List.mem_range.2 (Array.getElem?_eq_some_iff.1 hj).1)
  simp only[hj,Bool.and_eq_true]at this
  exact⟨this.1.1,this.1.2,this.2⟩
 have hN:∀ f s,Γ f=some s->s.Near:=fun f s h=>(hΓ f s h).near
 have hA:zV l.toArray (fun j=>az.getD j []):=by
  intro j o ho i hi
  have :=List.all_eq_true.1 (i7 j o ho).2.1 i hi
  obtain⟨e,he,h1⟩:=List.any_eq_true.1 this
  simp only[Bool.and_eq_true,Bool.or_eq_true,beq_iff_eq,List.contains_iff_mem]at h1
  exact⟨e,by simpa using he,h1.1,h1.2⟩
 have kb:∀ i j oi oj,l.toArray[i]?=some oi->l.toArray[j]?=some oj->i<j->i∉az.getD j []->oi.apart l.toArray oj=true:=by
  intro i j oi oj h1 h2 h3 h4
  have :=List.all_eq_true.1 (i7 j oj h2).2.2 i (List.mem_range.2 h3)
  simp only[h1,Bool.or_eq_true]at this
  rcases this with k | k
  ·exact(h4 (by simpa using k)).elim
  ·exact k
 have B5:∀ j o,l.toArray[j]?=some o->∀ e∈o.after,Region.binds .any e=true->e.on<j:=by
  intro j o ho e he hb
  have :=List.all_eq_true.1 (i7 j o ho).1 e (by simpa using he)
  simpa[hb]using this
 refine wpIn_region_any hP ?_
 obtain⟨_,hD⟩:=Kw (anc:=fun j=>az.getD j []) l 0 az [] σ (fun k=>by simp) (h (K .normal) fun _ h=>h)
 refine Sn hΓ (K:=K .normal) _ _ (hC.drawn _) (Kx hN hA kb B5 l.toArray.size 0 [] _ σ (by simp) (by simp) (fun j=>?_) (fun j hj=>?_) (by simpa using hD)) fun a' w' φ' m' σ' cR hK=>⟨φ',m',σ',cR,hK⟩
 ·by_cases hj:j<l.length<;>simp[hj]
 ·by_cases eW:j<l.length<;>simp[eW]at hj
theorem ada(hΓ:∀ f s,Γ f=some s->aT P f s)(hP:P.follows .mixedOrders=true){id:Nat}{l:List Oper}{c:Code}{r:List Code}{σ:S}{K:Exit->S->Prop}(az:List (List Nat))(ks:List Nat)(ns:List Name)
 (hs:xv l.toArray az=true) (h:∀ K':S->Prop,(∀ σ',je ks ns σ'->CL P (c::r) (jq ks ns σ') K->K' σ')->sE P Γ l.toArray 0 az l [] σ K'):CL P (.region id l.toArray true::c::r) σ K:=
 HZ hΓ hP az hs fun K' hK=>h K' fun σ' hc hy=>hK σ' (HY ks ns hc hy)
theorem oZ(hΓ:∀ f s,Γ f=some s->aT P f s)(hP:P.follows .mixedOrders=true){id:Nat}{l:List Oper}{σ:S}{K:Exit->S->Prop}(az:List (List Nat))
 (hs:xv l.toArray az=true) (h:∀ K':S->Prop,(∀ σ',K .normal σ'->K' σ')->sE P Γ l.toArray 0 az l [] σ K'):CL P [.region id l.toArray true] σ K:=
 HZ hΓ hP az hs fun K' hK=>h K' fun σ' hc=>hK σ' hc
end
attribute [go_sem] eQ vY lf wR Nat.beq_eq_true_eq sE cE bV a7 fp fg hJ fA muts O.mut PSpec.toSpec List.headD_cons List.headD_nil List.tail_cons List.tail_nil
mutual
def D.ren(f:Name->Name):D->D
 | .v x=>.v x
 | .nilsl=>.nilsl
 | .nilmap=>.nilmap
 | .ref nm o=>.ref (f nm) o
 | .msl nm k=>.msl (f nm) k
 | .aref nm k i o=>.aref (f nm) k i o
 | .map nm=>.map (f nm)
 | .yld nm=>.yld (f nm)
 | .clo fn a b=>.clo fn (D.renL f a) (D.renL f b)
 | .agg l=>.agg (D.renL f l)
 | .tup l=>.tup (D.renL f l)
 | .any=>.any
def D.renL(f:Name->Name):List D->List D
 |[]=>[]
 |d::r=>D.ren f d::D.renL f r
end
def E.ren(f:Name->Name)(e:E):E:=⟨e.c,e.d.ren f⟩
def O.ren(f:Name->Name):O->O
 | .box cs=>.box (D.renL f cs)
 | .loop env ps asg body st bS=>.loop (env.map (E.ren f)) ps asg body st bS
 | .arr sz l=>.arr sz l
 | .map kd es=>.map kd es
 | .fbox cs=>.fbox cs
 | .farr sz l=>.farr sz l
 | .dead sz n=>.dead sz n
theorem kZ(f:Name->Name):∀ l:List D,D.renL f l=l.map (D.ren f)
 |[]=>rfl
 |d::r=>by simp only[D.renL,List.map_cons,kZ f r]
theorem D.one_ren(f:Name->Name)(d:D):(d.ren f).one=d.one:=by cases d<;>rfl
theorem O.len_ren(f:Name->Name)(o:O):(o.ren f).len?=o.len?:=by cases o<;>rfl
theorem O.sz_ren(f:Name->Name)(o:O):(o.ren f).sz=o.sz:=by cases o<;>rfl
theorem O.mut_ren(f:Name->Name)(o:O):(o.ren f).mut=o.mut:=by cases o<;>rfl
def zT(f:Name->Name)(φ φ':Name->Loc)(obj obj':Name->Option O)(dom:Name->Bool):Prop:=
 ∀ nm o,dom nm=true->obj nm=some o->∃ o',obj' (f nm)=some o'/\
   ((o'.len?=o.len?/\φ' (f nm)=φ nm/\o'.sz=o.sz)\/(∃ n n',o.len?=some n/\o'.len?=some n'/\n<n'))
theorem aI.renx{f:Name->Name}{φ φ':Name->Loc}{obj obj':Name->Option O}{m m':Mem}{dom:Name->Bool}(hm:Mem.le m m')(hx:zT f φ φ' obj obj' dom){d:D}{u:Value}
 (h:aI φ obj m d u) (hc:D.clos dom d=true):aI φ' obj' m' (d.ren f) u:=by
 induction h with
 |any u=>exact .any u
 |v x u h=>exact .v x u (h.mono hm)
 |nilsl a=>exact .nilsl a
 |nilmap=>exact .nilmap
 |ref nm off h=>
  obtain⟨o,ho,hl⟩:=h
  obtain⟨o',dk,h⟩:=hx nm o hc ho
  rcases h with⟨h1,h2,h3⟩ | ⟨n,n',h1,h2,h3⟩
  ·rw[<-h2];exact .ref (f nm) off ⟨o',dk,h1.trans hl⟩
  ·rw[hl]at h1;cases h1
 |map nm h=>
  obtain⟨o,ho,hl⟩:=h
  obtain⟨o',dk,h⟩:=hx nm o hc ho
  rcases h with⟨h1,h2,h3⟩ | ⟨n,n',h1,h2,h3⟩
  ·rw[<-h2];exact .map (f nm) ⟨o',dk,h1.trans hl⟩
  ·rw[hl]at h1;cases h1
 |yld nm h=>
  obtain⟨o,ho,hl⟩:=h
  obtain⟨o',dk,h⟩:=hx nm o hc ho
  rcases h with⟨h1,h2,h3⟩ | ⟨n,n',h1,h2,h3⟩
  ·rw[<-h2];exact .yld (f nm) ⟨o',dk,h1.trans hl⟩
  ·rw[hl]at h1;cases h1
 |msl nm k u h hu=>
  obtain⟨o,n,ho,hl,hk,he⟩:=h
  obtain⟨o',dk,h⟩:=hx nm o hc ho
  rcases h with⟨h1,h2,h3⟩ | ⟨n1,n',h1,h2,h3⟩
  ·exact .msl (f nm) k u ⟨o',n,dk,h1.trans hl,hk,fun e=>by rw[h2];exact he e⟩ hu
  ·rw[hl]at h1;cases h1
   exact .msl (f nm) k u ⟨o',n',dk,h2,by omega,fun e=>by omega⟩ hu
 |aref nm k i off u h hu=>
  obtain⟨o,n,ho,hl,hk,he⟩:=h
  obtain⟨o',dk,h⟩:=hx nm o hc ho
  rcases h with⟨h1,h2,h3⟩ | ⟨n1,n',h1,h2,h3⟩
  ·exact .aref (f nm) k i off u ⟨o',n,dk,h1.trans hl,hk,fun e=>by rw[h2,h3];exact he e⟩ hu
  ·rw[hl]at h1;cases h1
   exact .aref (f nm) k i off u ⟨o',n',dk,h2,by omega,fun e=>by omega⟩ hu
 |clo fn fs cs us vs h1 h2 dS eH qo qn=>
  simp only[D.clos,Bool.and_eq_true]at hc
  simp only[D.ren,kZ]
  refine .clo fn _ _ us vs (by simpa using h1) (by simpa using h2) (fun i a b=>?_) (fun i a b=>?_)
  ·simp only[List.getElem_map];exact qo i (by simpa using a) b (jF _ hc.1)
  ·simp only[List.getElem_map];exact qn i (by simpa using a) b (jF _ hc.2)
 |agg l us h ho hr ih=>
  simp only[D.clos]at hc
  simp only[D.ren,kZ]
  refine .agg _ us (by simpa using h) (fun d hd=>?_) (fun i a b=>?_)
  ·obtain⟨d',h1,rfl⟩:=List.mem_map.1 hd
   rw[D.one_ren];exact ho d' h1
  ·simp only[List.getElem_map];exact ih i (by simpa using a) b (jF _ hc)
 |tup l us h hr ih=>
  simp only[D.clos]at hc
  simp only[D.ren,kZ]
  refine .tup _ us (by simpa using h) (fun i a b=>?_)
  simp only[List.getElem_map];exact ih i (by simpa using a) b (jF _ hc)
theorem cN.renx{f:Name->Name}{φ φ':Name->Loc}{obj obj':Name->Option O}{m m':Mem}{dom:Name->Bool}(hm:Mem.le m m')(hx:zT f φ φ' obj obj' dom){e:E}{u:Value}
 (h:cN φ obj m e u) (hc:D.clos dom e.d=true):cN φ' obj' m' (e.ren f) u:=by
 unfold cN at *
 have e0:(E.ren f e).c=e.c:=rfl
 have e1:(E.ren f e).d=e.d.ren f:=rfl
 rw[e0,e1]
 by_cases hh:e.c=true
 ·rw[if_pos hh]at h |-;exact h.renx hm hx hc
 ·rw[if_neg hh]at h |-;exact h
theorem iD.ren{f:Name->Name}{φ φ':Name->Loc}{obj obj':Name->Option O}{m m':Mem}{dom:Name->Bool}{o:O}{p:Loc}{w w':World}(hm:Mem.le m m')(hx:zT f φ φ' obj obj' dom)
 (hc:O.clos dom o=true) (hw:o.mut=true->p.nul=false->w'.heap[p.blk]?=w.heap[p.blk]?) (h:iD φ obj m o p w):iD φ' obj' m' (o.ren f) p w':=by
 cases o with
 |box cs=>
  obtain⟨h0,h1,fZ,us,T,g,h2,h3,h4,h5⟩:=h
  simp only[O.clos]at hc
  simp only[O.ren,iD,kZ,List.length_map,List.getElem_map,List.mem_map,forall_exists_index,and_imp,forall_apply_eq_imp_iff₂,D.one_ren]
  exact⟨h0,h1,fZ,us,T,g,by rw[hw rfl h1];exact h2,h3,h4,fun i a b=>(h5 i a b).renx hm hx (jF a hc)⟩
 |arr sz l=>
  rcases h with⟨h,h'⟩ | ⟨h0,h1,h2,h3,h4,us,T,f,h5,h6,h7,h8⟩
  ·exact .inl ⟨h,h'⟩
  ·exact .inr ⟨h0,h1,h2,h3,h4,us,T,f,by rw[hw rfl h0];exact h5,h6,h7,fun i j a b=>let ⟨c,x,y⟩:=h8 i j a b;⟨c,x,y.mono hm⟩⟩
 |map kd es=>
  obtain⟨h0,h1,fZ,us,T,h2,h3,h4⟩:=h
  exact⟨h0,h1,fZ,us,T,by rw[hw rfl h1];exact h2,h3,fun i a b=>⟨(h4 i a b).1.mono hm,(h4 i a b).2.mono hm⟩⟩
 |fbox cs=>exact⟨h.1,fun i a=>let ⟨c,x,y⟩:=h.2 i a;⟨c,hm _ _ _ x,y.mono hm⟩⟩
 |farr sz l=>
  rcases h with⟨h,h'⟩ | ⟨h0,h1,h2,h3,h4⟩
  ·exact .inl ⟨h,h'⟩
  ·exact .inr ⟨h0,h1,h2,h3,fun i j a b=>let ⟨c,x,y⟩:=h4 i j a b;⟨c,hm _ _ _ x,y.mono hm⟩⟩
 |dead=>exact h
 |loop env ps asg body st bS=>
  obtain⟨h0,h1,r,h2,h3,h4,h5,h6,h7,h8,h9⟩:=h
  simp only[O.clos]at hc
  simp only[O.ren,iD,List.length_map,List.getElem_map]
  refine⟨h0,h1,r,by rw[hw rfl h1];exact h2,h3,h4,h5,h6,h7,h8,fun i a=>(h9 i a).renx hm hx ?_⟩
  have :=jF (l:=env.map (·.d)) (i:=i) (by simpa using a) hc
  simpa using this
mutual
theorem D.ren_id{f g:Name->Name}{dom:Name->Bool}(kO:∀ nm,dom nm=true->g (f nm)=nm):∀ d:D,D.clos dom d=true->(d.ren f).ren g=d
 | .v _,_=>rfl
 | .nilsl,_=>rfl
 | .nilmap,_=>rfl
 | .any,_=>rfl
 | .ref nm _,h=>by simp only[D.ren];rw[kO nm h]
 | .msl nm _,h=>by simp only[D.ren];rw[kO nm h]
 | .aref nm _ _ _,h=>by simp only[D.ren];rw[kO nm h]
 | .map nm,h=>by simp only[D.ren];rw[kO nm h]
 | .yld nm,h=>by simp only[D.ren];rw[kO nm h]
 | .clo _ a b,h=>by
   simp only[D.clos,Bool.and_eq_true]at h
   simp only[D.ren];rw[D.renL_id kO a h.1,D.renL_id kO b h.2]
 | .agg l,h=>by simp only[D.clos]at h;simp only[D.ren];rw[D.renL_id kO l h]
 | .tup l,h=>by simp only[D.clos]at h;simp only[D.ren];rw[D.renL_id kO l h]
theorem D.renL_id{f g:Name->Name}{dom:Name->Bool}(kO:∀ nm,dom nm=true->g (f nm)=nm):∀ l:List D,D.closL dom l=true->D.renL g (D.renL f l)=l
 |[],_=>rfl
 |d::r,h=>by
  simp only[D.closL,Bool.and_eq_true]at h
  simp only[D.renL];rw[D.ren_id kO d h.1,D.renL_id kO r h.2]
end
theorem O.ren_id{f g:Name->Name}{dom:Name->Bool}(kO:∀ nm,dom nm=true->g (f nm)=nm)(o:O)(h:O.clos dom o=true):(o.ren f).ren g=o:=by
 cases o with
 |box cs=>simp only[O.clos]at h;simp only[O.ren];rw[D.renL_id kO cs h]
 |loop env ps asg body st bS=>
  simp only[O.clos]at h
  simp only[O.ren,List.map_map,O.loop.injEq,and_true]
  refine List.ext_getElem (by simp) fun i h1 h2=>?_
  have :=jF (l:=env.map (·.d)) (i:=i) (by simpa using h2) h
  simp only[List.getElem_map,Function.comp_apply,E.ren]at this |-
  rw[D.ren_id kO _ this]
 |_=>rfl
mutual
def mX:D->List Name
 | .ref nm _=>[nm]
 | .msl nm _=>[nm]
 | .aref nm _ _ _=>[nm]
 | .map nm=>[nm]
 | .yld nm=>[nm]
 | .clo _ a b=>dw a++dw b
 | .agg l=>dw l
 | .tup l=>dw l
 |_=>[]
def dw:List D->List Name
 |[]=>[]
 |d::r=>mX d++dw r
end
def mW:O->List Name
 | .box cs=>dw cs
 | .loop env _ _ _ _ _=>dw (env.map (·.d))
 |_=>[]
def dj(L:List Name)(nm:Name):Bool:=L.any fun x=>x==nm
def dW(obj:Name->Option O):Nat->List Name->List Name->List Name
 | 0,_,acc=>acc
 |_+1,[],acc=>acc
 |n+1,x::todo,acc=>if dj acc x=true then dW obj n todo acc else dW obj n ((match obj x with | some o=>mW o | none=>[])++todo) (acc++[x])
def reach(obj:Name->Option O)(ds:List D):List Name:=dW obj 3000 (dw ds) []
theorem ig{L:List Name}{nm:Name}:dj L nm=true↔nm∈L:=by
 simp only[dj,List.any_eq_true,beq_iff_eq]
 exact⟨fun ⟨x,h,e⟩=>e▸h,fun h=>⟨nm,h,rfl⟩⟩
theorem Ej{obj:Name->Option O}:∀ (n:Nat) (todo acc:List Name),∀ nm∈acc,nm∈dW obj n todo acc
 | 0,_,_,_,h=>h
 |_+1,[],_,_,h=>h
 |n+1,x::todo,acc,nm,h=>by
  simp only[dW]
  split
  ·exact Ej n _ _ nm h
  ·exact Ej n _ _ nm (by simp[h])
theorem AG{obj:Name->Option O}:∀ (n:Nat) (todo acc:List Name),acc.Nodup->(dW obj n todo acc).Nodup
 | 0,_,_,h=>h
 |_+1,[],_,h=>h
 |n+1,x::todo,acc,h=>by
  simp only[dW]
  split
  ·exact AG n _ _ h
  ·rename_i hx
   refine AG n _ _ (List.nodup_append.2 ⟨h,by simp,fun a ha b hb=>?_⟩)
   simp only[List.mem_singleton]at hb
   subst hb
   rintro rfl
   exact hx (ig.2 ha)
theorem Ei{obj obj2:Name->Option O}:∀ (n:Nat) (todo acc:List Name),bX (dW obj n todo acc) obj obj2->dW obj2 n todo acc=dW obj n todo acc
 | 0,_,_,_=>rfl
 |_+1,[],_,_=>rfl
 |n+1,x::todo,acc,h=>by
  simp only[dW]at h |-
  split
  ·rename_i hx;rw[if_pos hx]at h;exact Ei n _ _ h
  ·rename_i hx
   rw[if_neg hx]at h
   have bB:obj2 x=obj x:=h x (Ej n _ _ x (by simp))
   rw[bB]
   exact Ei n _ _ h
def idx:List Name->Name->Nat
 |[],_=>0
 |x::r,nm=>if x=nm then 0 else idx r nm+1
def cin(L:List Name)(nm:Name):Name:=[idx L nm,1]
def cout(L:List Name)(t:Name):Name->Name
 |[i,1]=>L.getD i []
 |x=>x++t
def dz:Name->Bool
 |[_,1]=>true
 |_=>false
theorem wj:∀ {L:List Name} {nm:Name},nm∈L->∃ h:idx L nm<L.length,L[idx L nm]=nm
 |x::r,nm,h=>by
  simp only[idx]
  by_cases e:x=nm
  ·subst e;simp
  ·simp only[if_neg e]
   obtain⟨h1,h2⟩:=wj (L:=r) (nm:=nm) (by rcases List.mem_cons.1 h with h | h; · exact(e h.symm).elim
                                         ·exact h)
   exact⟨by simp;omega,by simpa using h2⟩
theorem acR{L:List Name}{t nm:Name}(h:nm∈L):cout L t (cin L nm)=nm:=by
 obtain⟨h1,h2⟩:=wj h
 show L.getD (idx L nm) []=nm
 rw[List.getD_eq_getElem?_getD,List.getElem?_eq_getElem h1];simpa using h2
theorem w6{L:List Name}{t x:Name}(h:dz x=false):cout L t x=x++t:=by
 unfold cout
 split
 ·simp[dz]at h
 ·rfl
theorem yl{x:Name}:dz x=true↔∃ i,x=[i,1]:=by
 constructor
 ·intro h
  unfold dz at h
  split at h
  ·exact⟨_,rfl⟩
  ·cases h
 ·rintro⟨i,rfl⟩;rfl
theorem Lg(i:Nat):own [0] [i,1]=false:=by simp[own]
theorem FG{L:List Name}(hn:L.Nodup){i:Nat}(h:i<L.length):idx L L[i]=i:=by
 obtain⟨h1,h2⟩:=wj (List.getElem_mem h)
 exact(List.getElem_inj hn).1 h2
structure Out where
 upd:List (Nat×O)
 new:List (Name×O)
 d:D
 deriving Inhabited
def fG:List (Nat×O)->Nat->O->O
 |[],_,o=>o
 |(j,o')::r,i,o=>fG r i (if j=i then o' else o)
def cU(L:List Name)(t:Name):List (Nat×O)->(Name->Option O)->(Name->Option O)
 |[],obj=>obj
 |(i,o)::r,obj=>cU L t r (upd obj (L.getD i []) (some (o.ren (cout L t))))
def dQ(L:List Name)(t:Name):List (Name×O)->(Name->Option O)->(Name->Option O)
 |[],obj=>obj
 |(x,o)::r,obj=>dQ L t r (upd obj (x++t) (some (o.ren (cout L t))))
theorem KP{L:List Name}{t:Name}(hn:L.Nodup):∀ (l:List (Nat×O)) (obj:Name->Option O) {i:Nat} (h:i<L.length) (o:O) (_:(l.all fun x=>decide (x.1<L.length))=true) (_:obj L[i]=some (o.ren (cout L t))),
 cU L t l obj L[i]=some ((fG l i o).ren (cout L t))
 |[],obj,i,h,o,_,ho=>ho
 |(j,o')::r,obj,i,h,o,hl,ho=>by
  simp only[List.all_cons,Bool.and_eq_true,decide_eq_true_eq]at hl
  simp only[cU,fG]
  refine KP hn r _ h _ hl.2 ?_
  have e:L.getD j []=L[j]:=by rw[List.getD_eq_getElem?_getD,List.getElem?_eq_getElem hl.1];rfl
  rw[e]
  by_cases hj:j=i
  ·subst hj;rw[aX,if_pos rfl]
  ·rw[bm _ _ _ (fun e'=>hj ((List.getElem_inj hn).1 e').symm),if_neg hj];exact ho
theorem Ev{L:List Name}{t:Name}:∀ (l:List (Nat×O)) (obj:Name->Option O) {nm:Name} (_:(l.all fun x=>decide (x.1<L.length))=true) (_:nm∉L),cU L t l obj nm=obj nm
 |[],_,_,_,_=>rfl
 |(j,o')::r,obj,nm,hl,hn=>by
  simp only[List.all_cons,Bool.and_eq_true,decide_eq_true_eq]at hl
  simp only[cU]
  rw[Ev r _ hl.2 hn]
  refine bm _ _ _ ?_
  rintro rfl
  refine hn ?_
  rw[List.getD_eq_getElem?_getD,List.getElem?_eq_getElem hl.1];simp
theorem xO{L:List Name}{t:Name}:∀ (l:List (Name×O)) (obj:Name->Option O) {nm:Name} (_:∀ x∈l,nm≠x.1++t),dQ L t l obj nm=obj nm
 |[],_,_,_=>rfl
 |(x,o')::r,obj,nm,hl=>by
  simp only[dQ]
  rw[xO r _ fun y hy=>hl y (by simp[hy])]
  exact bm _ _ _ (hl (x,o') (by simp))
theorem KQ{L:List Name}{t:Name}:∀ (l:List (Name×O)) (obj:Name->Option O) (_:(l.map (·.1)).Nodup) {x:Name} {o:O} (_:(x,o)∈l),dQ L t l obj (x++t)=some (o.ren (cout L t))
 |(y,o')::r,obj,hn,x,o,h=>by
  simp only[List.map_cons,List.nodup_cons]at hn
  simp only[dQ]
  rcases List.mem_cons.1 h with h | h
  ·cases h
   rw[xO r _ fun z hz e=>hn.1 (by
    have :_=z.1:=List.append_cancel_right e
    rw[this];exact List.mem_map_of_mem hz)]
   exact aX _ _ _
  ·exact KQ r _ hn.2 h
def dC(n:Nat)(new:List (Name×O)):Name->Bool
 |[i,1]=>decide (i<n)
 |x=>new.any fun y=>y.1==x
section
variable {G:Ghost} {φ:Name->Loc} {m:Mem} {σ:S} {a:Act} {w:World}
def cX(L:List Name)(obj:Name->Option O)(nm:Name):O:=match obj nm with
 |some o=>o.ren (cin L)
 |none=>.fbox []
def shut(obj:Name->Option O)(L:List Name):Bool:=L.all fun nm=>match obj nm with
 |some o=>O.clos (dj L) o
 |none=>false
def kC(L:List Name)(obj:Name->Option O):Name->Option O
 |[i,1]=>if i<L.length then some (cX L obj (L.getD i []))else none
 |_=>none
def nV(L:List Name)(φ:Name->Loc):Name->Loc
 |[i,1]=>φ (L.getD i [])
 |_=>⟨0,0,0,true,none⟩
def qY(L:List Name)(φ:Name->Loc)(obj:Name->Option O)(b:Nat):Prop:=∃ nm∈L,holds φ obj nm/\(φ nm).blk=b
theorem xB{obj:Name->Option O}{L:List Name}(h:shut obj L=true){nm:Name}(hn:nm∈L):∃ o,obj nm=some o/\O.clos (dj L) o=true:=by
 have :=List.all_eq_true.1 h nm hn
 cases ho:obj nm with
 |none=>simp[ho]at this
 |some o=>simp only[ho]at this;exact⟨o,rfl,this⟩
theorem mu{L:List Name}{i:Nat}(h:i<L.length):L.getD i []=L[i]:=by rw[List.getD_eq_getElem?_getD,List.getElem?_eq_getElem h];rfl
theorem W3{L:List Name}{obj:Name->Option O}{nm:Name}(hn:nm∈L):kC L obj (cin L nm)=some (cX L obj nm):=by
 obtain⟨h1,h2⟩:=wj hn
 show (if idx L nm<L.length then some (cX L obj (L.getD (idx L nm) []))else none)=_
 rw[if_pos h1,mu h1,h2]
theorem Te{L:List Name}{φ:Name->Loc}{nm:Name}(hn:nm∈L):nV L φ (cin L nm)=φ nm:=by
 obtain⟨h1,h2⟩:=wj hn
 show φ (L.getD (idx L nm) [])=_
 rw[mu h1,h2]
theorem AF{L:List Name}{obj:Name->Option O}:zT (cin L) φ (nV L φ) obj (kC L obj) (dj L):=by
 intro nm o hd ho
 have hn:=ig.1 hd
 refine⟨cX L obj nm,W3 hn,.inl ⟨?_,Te hn,?_⟩⟩
 ·simp only[cX,ho];exact O.len_ren _ _
 ·simp only[cX,ho];exact O.sz_ren _ _
theorem EM{L:List Name}{obj:Name->Option O}{x:Name}{o:O}(h:kC L obj x=some o):∃ (i:Nat) (hi:i<L.length),x=[i,1]/\o=cX L obj L[i]:=by
 unfold kC at h
 split at h
 ·rename_i i
  split at h
  ·rename_i hi
   cases h
   exact⟨i,hi,rfl,by rw[mu hi]⟩
  ·cases h
 ·cases h
def uE(w:World)(m:Mem)(L:List Name)(φ:Name->Loc)(obj:Name->Option O)(rd:Option Nat)(h:∀ l,rd=some l->¬ qY L φ obj l/\∃ r,w.heap[l]?=some (.loop r)):Ghost:=
 ⟨w,m,qY L φ obj,rd,nV L φ,kC L obj,h⟩
theorem BE{L:List Name}{obj:Name->Option O}(hL:shut obj L=true){x:Name}(h:holds (nV L φ) (kC L obj) x):∃ (i:Nat) (hi:i<L.length),x=[i,1]/\holds φ obj L[i]:=by
 obtain⟨o,h1,h2,h3⟩:=h
 obtain⟨i,hi,rfl,rfl⟩:=EM h1
 obtain⟨o',h4,_⟩:=xB hL (List.getElem_mem hi)
 refine⟨i,hi,rfl,o',h4,?_,?_⟩
 ·simp only[cX,h4,O.mut_ren]at h2;exact h2
 ·have:nV L φ [i,1]=φ L[i]:=by show φ (L.getD i [])=_;rw[mu hi]
  rw[this]at h3;exact h3
theorem Ql(hC:aV G φ m σ a w){L:List Name}(hn:L.Nodup)(hL:shut σ.obj L=true){rd:Option Nat}(oG:∀ l,rd=some l->¬ qY L φ σ.obj l/\∃ r,w.heap[l]?=some (.loop r))
 {nt b0:Nat} {env:Nat->E} {tmps:Array Value} (hs:tmps.size=nt) (he:∀ t,cN (nV L φ) (kC L σ.obj) m (env t) (tmps.getD t undef)):
 aV (uE w m L φ σ.obj rd oG) (nV L φ) m ⟨nt,env,kC L σ.obj,[0],b0⟩ { tmps:=tmps,defers:=[] } w:=by
 have hφ:∀ (i:Nat) (hi:i<L.length),nV L φ [i,1]=φ L[i]:=fun i hi=>by show φ (L.getD i [])=_;rw[mu hi]
 constructor
 ·exact he
 ·exact hs
 ·exact⟨[],rfl,by simp,by simp⟩
 ·intro x o hx
  obtain⟨i,hi,rfl,rfl⟩:=EM hx
  obtain⟨o',h4,h5⟩:=xB hL (List.getElem_mem hi)
  rw[hφ i hi]
  simp only[cX,h4]
  exact(hC.objs _ _ h4).ren (Mem.le_refl m) AF h5 fun _ _=>rfl
 ·exact hC.mem
 ·intro x hx off
  obtain⟨i,hi,rfl,h⟩:=BE hL hx
  rw[hφ i hi]
  exact hC.apart _ h off
 ·intro x y hx hy e
  obtain⟨i,hi,rfl,h⟩:=BE hL hx
  obtain⟨j,hj,rfl,h'⟩:=BE hL hy
  rw[hφ i hi,hφ j hj]at e
  have :=(List.getElem_inj hn).1 (hC.inj _ _ h h' e)
  rw[this]
 ·intro x hx
  obtain⟨i,hi,rfl,h⟩:=BE hL hx
  rw[hφ i hi]
  exact .inr ⟨_,List.getElem_mem hi,h,rfl⟩
 ·exact⟨rfl,rfl,rfl,Nat.le_refl _,fun _ _ _=>rfl⟩
 ·intro b off v h;exact .inl h
 ·refine⟨fun x o hx=>?_,Ext.refl _ _⟩
  obtain⟨i,hi,rfl,_⟩:=EM hx
  exact Lg i
structure Td (σ:S) (os:List O) (o:Out):Prop where
 objs:∀ i (h:i<os.length),σ.obj [i,1]=some (fG o.upd i os[i])
 news:∀ x∈o.new,σ.obj x.1=some x.2
 cd:D.clos (dC os.length o.new) o.d=true
 cu:(o.upd.all fun x=>O.clos (dC os.length o.new) x.2&&decide (x.1<os.length))=true
 cn:(o.new.all fun x=>O.clos (dC os.length o.new) x.2&&!dz x.1)=true
 nd:(o.new.map (·.1)).Nodup
def fresh(obj:Name->Option O)(t:Name)(new:List (Name×O)):Bool:=new.all fun x=>(obj (x.1++t)).isNone
theorem aco{n:Nat}{new:List (Name×O)}{x:Name×O}(h:dz x.1=false)(hx:x∈new):dC n new x.1=true:=by
 have key:∀ nm:Name,dz nm=false->dC n new nm=new.any fun y=>y.1==nm:=by
  intro nm h
  unfold dC
  split
  ·simp[dz]at h
  ·rfl
 rw[key _ h]
 exact List.any_eq_true.2 ⟨x,hx,by simp⟩
theorem Mm{dom:Name->Bool}:∀ (l:List (Nat×O)) (i:Nat) (o:O),O.clos dom o=true->(∀ x∈l,O.clos dom x.2=true)->O.clos dom (fG l i o)=true
 |[],_,_,h,_=>h
 |(j,o')::r,i,o,h,hl=>by
  simp only[fG]
  refine Mm r i _ ?_ fun x hx=>hl x (by simp[hx])
  split
  ·exact hl (j,o') (by simp)
  ·exact h
mutual
theorem clos_ren{f:Name->Name}{dom dom':Name->Bool}(hf:∀ nm,dom nm=true->dom' (f nm)=true):∀ d:D,D.clos dom d=true->D.clos dom' (d.ren f)=true
 | .v _,_=>by simp only[D.ren,D.clos]
 | .nilsl,_=>by simp only[D.ren,D.clos]
 | .nilmap,_=>by simp only[D.ren,D.clos]
 | .any,_=>by simp only[D.ren,D.clos]
 | .ref nm _,h=>hf nm h
 | .msl nm _,h=>hf nm h
 | .aref nm _ _ _,h=>hf nm h
 | .map nm,h=>hf nm h
 | .yld nm,h=>hf nm h
 | .clo _ a b,h=>by
   simp only[D.clos,Bool.and_eq_true]at h
   simp only[D.ren,D.clos,Bool.and_eq_true]
   exact⟨uO hf a h.1,uO hf b h.2⟩
 | .agg l,h=>by simp only[D.clos]at h;simp only[D.ren,D.clos];exact uO hf l h
 | .tup l,h=>by simp only[D.clos]at h;simp only[D.ren,D.clos];exact uO hf l h
theorem uO{f:Name->Name}{dom dom':Name->Bool}(hf:∀ nm,dom nm=true->dom' (f nm)=true):∀ l:List D,D.closL dom l=true->D.closL dom' (D.renL f l)=true
 |[],_=>by simp only[D.renL,D.closL]
 |d::r,h=>by
  simp only[D.closL,Bool.and_eq_true]at h
  simp only[D.renL,D.closL,Bool.and_eq_true]
  exact⟨clos_ren hf d h.1,uO hf r h.2⟩
end
theorem O.clos_ren{f:Name->Name}{dom dom':Name->Bool}(hf:∀ nm,dom nm=true->dom' (f nm)=true)(o:O)(h:O.clos dom o=true):O.clos dom' (o.ren f)=true:=by
 cases o with
 |box cs=>simp only[O.clos]at h;simp only[O.ren,O.clos];exact uO hf cs h
 |loop env ps asg body st bS=>
  simp only[O.clos]at h
  simp only[O.ren,O.clos]
  have :=uO hf _ h
  rw[kZ,List.map_map]at this
  rw[List.map_map]
  exact this
 |_=>rfl
theorem Qk(hC:aV G φ m σ a w){L:List Name}(hn:L.Nodup)(hL:shut σ.obj L=true){rd:Option Nat}{oG:∀ l,rd=some l->¬ qY L φ σ.obj l/\∃ r,w.heap[l]?=some (.loop r)}
 {φ2:Name->Loc} {m2:Mem} {σ2:S} {a2:Act} {w2:World} (fY:aV (uE w m L φ σ.obj rd oG) φ2 m2 σ2 a2 w2) {o:Out} (hE:Td σ2 (L.map (cX L σ.obj)) o) {t:Name} (hf:fresh σ.obj t o.new=true):
 ∃ φ' m',Mem.le m m'/\aV G φ' m' { σ with obj:=dQ L t o.new (cU L t o.upd σ.obj) } a w2/\
   Ext φ φ' σ.obj (dQ L t o.new (cU L t o.upd σ.obj))/\
   (∀ d u,aI φ2 σ2.obj m2 d u->D.clos (dC L.length o.new) d=true->aI φ' (dQ L t o.new (cU L t o.upd σ.obj)) m' (d.ren (cout L t)) u):=by
 have hlen:(L.map (cX L σ.obj)).length=L.length:=by simp
 obtain⟨h1,h2,h3,h4,h5,h6⟩:=hE
 rw[hlen]at h3 h4 h5
 have hu:(o.upd.all fun x=>decide (x.1<L.length))=true:=List.all_eq_true.2 fun x hx=>by
  have :=List.all_eq_true.1 h4 x hx
  simp only[Bool.and_eq_true]at this;exact this.2
 have Bv:∀ x∈o.upd,O.clos (dC L.length o.new) x.2=true:=fun x hx=>by
  have :=List.all_eq_true.1 h4 x hx
  simp only[Bool.and_eq_true]at this;exact this.1
 have O9:∀ x∈o.new,O.clos (dC L.length o.new) x.2=true:=fun x hx=>by
  have :=List.all_eq_true.1 h5 x hx
  simp only[Bool.and_eq_true]at this;exact this.1
 have Gg:∀ x∈o.new,dz x.1=false:=fun x hx=>by
  have :=List.all_eq_true.1 h5 x hx
  simp only[Bool.and_eq_true,Bool.not_eq_true']at this;exact this.2
 have de:∀ x∈o.new,σ.obj (x.1++t)=none:=fun x hx=>by
  have :=List.all_eq_true.1 hf x hx
  simpa using this
 have hLs:∀ nm∈L,∃ o,σ.obj nm=some o:=fun nm h=>let ⟨o,h,_⟩:=xB hL h;⟨o,h⟩
 have uz:∀ nm∈L,∀ x∈o.new,nm≠x.1++t:=fun nm h x hx e=>by
  obtain⟨o',ho⟩:=hLs nm h
  rw[e,de x hx]at ho;cases ho
 have PS:∀ nm,dj L nm=true->cout L t (cin L nm)=nm:=fun nm h=>acR (ig.1 h)
 generalize fN:dQ L t o.new (cU L t o.upd σ.obj)=obj'
 have BF:∀ (i:Nat) (hi:i<L.length),obj' L[i]=some ((fG o.upd i (cX L σ.obj L[i])).ren (cout L t)):=fun i hi=>by
  rw[<-fN,xO _ _ (uz _ (List.getElem_mem hi))]
  refine KP hn _ _ hi _ hu ?_
  obtain⟨o',ho,hc⟩:=xB hL (List.getElem_mem hi)
  simp only[cX,ho]
  rw[O.ren_id PS o' hc]
 have Gb:∀ x∈o.new,obj' (x.1++t)=some (x.2.ren (cout L t)):=fun x hx=>by rw[<-fN];exact KQ _ _ h6 hx
 have Ga:∀ nm,nm∉L->(∀ x∈o.new,nm≠x.1++t)->obj' nm=σ.obj nm:=fun nm h h'=>by rw[<-fN,xO _ _ h',Ev _ _ hu h]
 let φ':Name->Loc:=fun nm=>if nm∈L then φ2 (cin L nm)else match o.new.find? (fun x=>x.1++t==nm)with
  |some x=>φ2 x.1
  |none=>φ nm
 have yn:∀ (i:Nat) (hi:i<L.length),φ' L[i]=φ2 [i,1]:=fun i hi=>by
  show (if L[i]∈L then φ2 (cin L L[i])else _)=_
  rw[if_pos (List.getElem_mem hi)]
  show φ2 [idx L L[i],1]=_
  rw[FG hn hi]
 have Bq:∀ x∈o.new,φ' (x.1++t)=φ2 x.1:=fun x hx=>by
  show (if x.1++t∈L then _ else _)=_
  rw[if_neg fun h=>uz _ h x hx rfl]
  cases oP:o.new.find? (fun y=>y.1++t==x.1++t)with
  |none=>have:=List.find?_eq_none.1 oP x hx;simp at this
  |some y=>
   have :=List.find?_some oP
   simp only[beq_iff_eq]at this
   simp only[List.append_cancel_right this]
 have Bp:∀ nm,nm∉L->(∀ x∈o.new,nm≠x.1++t)->φ' nm=φ nm:=fun nm h h'=>by
  show (if nm∈L then _ else _)=_
  rw[if_neg h]
  cases oP:o.new.find? (fun y=>y.1++t==nm)with
  |none=>rfl
  |some y=>
   have :=List.find?_some oP
   simp only[beq_iff_eq]at this
   exact(h' y (List.mem_of_find?_eq_some oP) this.symm).elim
 let m':Mem:=fun b off=>match m2 b off with | some c=>some c | none=>m b off
 have BD:=fY.own
 have ug:∀ b,qY L φ σ.obj b->b<w.heap.size:=fun b ⟨nm,h,⟨o',k1,k2,k3⟩,e⟩=>by rw[<-e];exact(hC.objs nm o' k1).lt k2 k3
 have yK:Mem.le m m':=by
  intro b off v h
  show (match m2 b off with | some c=>some c | none=>m b off)=some v
  cases hq:m2 b off with
  |none=>exact h
  |some c=>
   have k1:=fY.mem b off c hq
   have k2:=hC.mem b off v h
   rw[sx (fY.fr.block b (pL k2) fun ⟨nm,_,k3,e⟩=>by
    have :=hC.apart nm k3 off;rw[e,h]at this;cases this)]at k1
   have k3:World.cell? w ⟨b,off,none⟩=some c:=k1
   rw[k2]at k3;exact k3.symm
 have Gk:Mem.le m2 m':=by
  intro b off v h
  show (match m2 b off with | some c=>some c | none=>m b off)=some v
  rw[h]
 have BO:∀ b off v,m' b off=some v->m2 b off=some v\/(m2 b off=none/\m b off=some v):=by
  intro b off v h
  have h':(match m2 b off with | some c=>some c | none=>m b off)=some v:=h
  cases hq:m2 b off with
  |none=>rw[hq]at h';exact .inr ⟨rfl,h'⟩
  |some c=>rw[hq]at h';exact .inl h'
 have GS:∀ x,dC L.length o.new x=true->(∃ (i:Nat) (hi:i<L.length),x=[i,1])\/(dz x=false/\∃ y∈o.new,y.1=x):=by
  intro x hx
  unfold dC at hx
  split at hx
  ·rename_i i
   exact .inl ⟨i,by simpa using hx,rfl⟩
  ·obtain⟨y,hy,e⟩:=List.any_eq_true.1 hx
   simp only[beq_iff_eq]at e
   subst e
   exact .inr ⟨Gg y hy,y,hy,rfl⟩
 have wF:∀ (i:Nat) (hi:i<L.length),cout L t [i,1]=L[i]:=fun i hi=>mu hi
 have oO:∀ (i:Nat) (hi:i<L.length),σ2.obj [i,1]=some (fG o.upd i (cX L σ.obj L[i])):=fun i hi=>by
  have :=h1 i (by simpa using hi)
  simpa using this
 have FX:zT (cout L t) φ2 φ' σ2.obj obj' (dC L.length o.new):=by
  intro x q hd hq
  rcases GS x hd with⟨i,hi,rfl⟩ | ⟨hi,y,hy,rfl⟩
  ·rw[wF i hi,BF i hi,yn i hi]
   rw[oO i hi]at hq;cases hq
   exact⟨_,rfl,.inl ⟨O.len_ren _ _,rfl,O.sz_ren _ _⟩⟩
  ·rw[w6 hi,Gb y hy,Bq y hy]
   rw[h2 y hy]at hq;cases hq
   exact⟨_,rfl,.inl ⟨O.len_ren _ _,rfl,O.sz_ren _ _⟩⟩
 have abh:∀ (i:Nat) (hi:i<L.length),O.clos (dC L.length o.new) (fG o.upd i (cX L σ.obj L[i]))=true:=by
  intro i hi
  refine Mm _ _ _ ?_ Bv
  obtain⟨o',ho,hc⟩:=xB hL (List.getElem_mem hi)
  simp only[cX,ho]
  refine O.clos_ren (fun nm hd=>?_) o' hc
  obtain⟨k1,_⟩:=wj (ig.1 hd)
  show decide (idx L nm<L.length)=true
  simpa using k1
 have B0:Ext φ φ' σ.obj obj':=by
  intro nm q hq
  by_cases gq:nm∈L
  ·obtain⟨i,hi,rfl⟩:=List.getElem_of_mem gq
   obtain⟨ES,k1,k2⟩:=fY.kept.2 [i,1] (cX L σ.obj L[i]) (by
    show kC L σ.obj [i,1]=_
    show (if i<L.length then _ else _)=_
    rw[if_pos hi,mu hi])
   have Z6:ES=fG o.upd i (cX L σ.obj L[i]):=by rw[oO i hi]at k1;exact(Option.some.inj k1).symm
   subst Z6
   have hφi:nV L φ [i,1]=φ L[i]:=by show φ (L.getD i [])=_;rw[mu hi]
   have cA:(cX L σ.obj L[i]).len?=q.len?/\(cX L σ.obj L[i]).sz=q.sz:=by
    simp only[cX,hq];exact⟨O.len_ren _ _,O.sz_ren _ _⟩
   refine⟨_,BF i hi,?_⟩
   rw[O.len_ren,O.sz_ren,yn i hi]
   rcases k2 with⟨a1,a2,a3⟩ | ⟨n,n',a1,a2,a3⟩
   ·exact .inl ⟨a1.trans cA.1,(a2:φ2 [i,1]=nV L φ [i,1]).trans hφi,a3.trans cA.2⟩
   ·exact .inr ⟨n,n',cA.1▸a1,a2,a3⟩
  ·have r9:∀ x∈o.new,nm≠x.1++t:=fun x hx e=>by rw[e,de x hx]at hq;cases hq
   exact⟨q,by rw[Ga nm gq r9];exact hq,.inl ⟨rfl,Bp nm gq r9,rfl⟩⟩
 have wH:∀ nm,holds φ' obj' nm->(∃ x,holds φ2 σ2.obj x/\φ' nm=φ2 x/\nm=cout L t x/\dC L.length o.new x=true)\/(nm∉L/\(∀ x∈o.new,nm≠x.1++t)/\holds φ σ.obj nm/\φ' nm=φ nm):=by
  rintro nm ⟨q,k1,k2,k3⟩
  by_cases gq:nm∈L
  ·obtain⟨i,hi,rfl⟩:=List.getElem_of_mem gq
   left
   rw[BF i hi]at k1;cases k1
   rw[O.mut_ren]at k2
   rw[yn i hi]at k3
   exact⟨[i,1],⟨_,oO i hi,k2,k3⟩,yn i hi,(wF i hi).symm,by show decide (i<L.length)=true;simpa using hi⟩
  ·by_cases r9:∃ x∈o.new,nm=x.1++t
   ·obtain⟨x,hx,rfl⟩:=r9
    left
    rw[Gb x hx]at k1;cases k1
    rw[O.mut_ren]at k2
    rw[Bq x hx]at k3
    refine⟨x.1,⟨_,h2 x hx,k2,k3⟩,Bq x hx,(w6 (Gg x hx)).symm,?_⟩
    exact aco (Gg x hx) hx
   ·have tT:∀ x∈o.new,nm≠x.1++t:=fun x hx e=>r9 ⟨x,hx,e⟩
    right
    rw[Ga nm gq tT]at k1
    rw[Bp nm gq tT]at k3
    exact⟨gq,tT,⟨q,k1,k2,k3⟩,Bp nm gq tT⟩
 have j7:∀ nm,nm∉L->holds φ σ.obj nm->(φ nm).blk<w.heap.size/\¬ qY L φ σ.obj (φ nm).blk:=by
  intro nm gq hh
  obtain⟨q,k1,k2,k3⟩:=hh
  refine⟨(hC.objs nm q k1).lt k2 k3,fun ⟨x,k4,k5,k6⟩=>?_⟩
  exact gq (hC.inj _ _ k5 ⟨q,k1,k2,k3⟩ k6▸k4)
 have aiZ:∀ x y,dC L.length o.new x=true->dC L.length o.new y=true->cout L t x=cout L t y->x=y:=by
  intro x y hx hy e
  rcases GS x hx with⟨i,hi,rfl⟩ | ⟨k1,x',bB,rfl⟩<;>rcases GS y hy with⟨j,hj,rfl⟩ | ⟨k2,y',hy',rfl⟩
  ·rw[wF i hi,wF j hj]at e
   rw[(List.getElem_inj hn).1 e]
  ·rw[wF i hi,w6 k2]at e
   exact(uz _ (List.getElem_mem hi) y' hy' e).elim
  ·rw[wF j hj,w6 k1]at e
   exact(uz _ (List.getElem_mem hj) x' bB e.symm).elim
  ·rw[w6 k1,w6 k2]at e
   exact List.append_cancel_right e
 refine⟨φ',m',yK,?_,B0,fun d u hd hc=>hd.renx Gk FX hc⟩
 constructor
 ·exact fun x=>(hC.tmps x).ext yK B0
 ·exact hC.size
 ·obtain⟨ds,k1,k2,k3⟩:=hC.defers
  refine⟨ds,k1,k2,fun D hD=>⟨(k3 D hD).1,?_⟩⟩
  have k4:=(k3 D hD).2
  rw[fY.fr.block D (Array.getElem?_eq_some_iff.1 k4).1 fun ⟨x,_,⟨q,k5,k6,k7⟩,k8⟩=>(hC.objs x q k5).notDef k6 k7 _ (by rw[k8];exact k4)]
  exact k4
 ·intro nm q hq
  by_cases gq:nm∈L
  ·obtain⟨i,hi,rfl⟩:=List.getElem_of_mem gq
   have bI:obj' L[i]=some q:=hq
   rw[BF i hi]at bI;cases bI
   rw[yn i hi]
   exact(fY.objs _ _ (oO i hi)).ren Gk FX (abh i hi) fun _ _=>rfl
  ·by_cases r9:∃ x∈o.new,nm=x.1++t
   ·obtain⟨x,hx,rfl⟩:=r9
    have bI:obj' (x.1++t)=some q:=hq
    rw[Gb x hx]at bI;cases bI
    rw[Bq x hx]
    exact(fY.objs _ _ (h2 x hx)).ren Gk FX (O9 x hx) fun _ _=>rfl
   ·have tT:∀ x∈o.new,nm≠x.1++t:=fun x hx e=>r9 ⟨x,hx,e⟩
    have bI:obj' nm=some q:=hq
    rw[Ga nm gq tT]at bI
    rw[Bp nm gq tT]
    refine(hC.objs nm q bI).ext yK B0 fun k2 k3=>?_
    obtain⟨k4,k5⟩:=j7 nm gq ⟨q,bI,k2,k3⟩
    exact fY.fr.block _ k4 k5
 ·intro b off v h
  rcases BO b off v h with h | ⟨qu,h⟩
  ·exact fY.mem b off v h
  ·have k2:=hC.mem b off v h
   rw[sx (fY.fr.block b (pL k2) fun ⟨nm,_,k3,e⟩=>by
    have :=hC.apart nm k3 off;rw[e,h]at this;cases this)]
   exact k2
 ·intro nm hh off
  rcases wH nm hh with⟨x,k1,k2,_,_⟩ | ⟨k1,k2,k3,k4⟩
  ·rw[k2]
   cases hq:m' (φ2 x).blk off with
   |none=>rfl
   |some v=>
    rcases BO _ _ _ hq with h | ⟨_,h⟩
    ·have:=fY.apart x k1 off;rw[h]at this;cases this
    ·rcases BD x k1 with h' | ⟨k9,k5,k6,k7⟩
     ·have:=pL (hC.mem _ _ _ h)
      have iy:w.heap.size<=(φ2 x).blk:=h'
      omega
     ·have:=hC.apart k9 k6 off
      rw[k7,h]at this;cases this
  ·rw[k4]
   obtain⟨k5,k6⟩:=j7 nm k1 k3
   cases hq:m' (φ nm).blk off with
   |none=>rfl
   |some v=>
    rcases BO _ _ _ hq with h | ⟨_,h⟩
    ·rcases fY.fresh _ _ _ h with h' | h' | h'
     ·have:=hC.apart nm k3 off
      have iy:m (φ nm).blk off=some v:=h'
      rw[iy]at this;cases this
     ·have iy:w.heap.size<=(φ nm).blk:=h'
      omega
     ·exact(k6 h').elim
    ·have:=hC.apart nm k3 off;rw[h]at this;cases this
 ·intro nm k9 hh hh' e
  rcases wH nm hh with⟨x,k1,k2,k3,k4⟩ | ⟨k1,k2,k3,k4⟩<;>rcases wH k9 hh' with⟨x',j1,j2,j3,j4⟩ | ⟨j1,j2,j3,j4⟩
  ·rw[k2,j2]at e
   rw[k3,j3,fY.inj _ _ k1 j1 e]
  ·exfalso
   rw[k2,j4]at e
   obtain⟨k5,k6⟩:=j7 k9 j1 j3
   rcases BD x k1 with h' | h'
   ·have iy:w.heap.size<=(φ2 x).blk:=h'
    omega
   ·rw[e]at h';exact k6 h'
  ·exfalso
   rw[k4,j2]at e
   obtain⟨k5,k6⟩:=j7 nm k1 k3
   rcases BD x' j1 with h' | h'
   ·have iy:w.heap.size<=(φ2 x').blk:=h'
    omega
   ·rw[<-e]at h';exact k6 h'
  ·rw[k4,j4]at e
   exact hC.inj _ _ k3 j3 e
 ·intro nm hh
  rcases wH nm hh with⟨x,k1,k2,_,_⟩ | ⟨k1,k2,k3,k4⟩
  ·rw[k2]
   rcases BD x k1 with h' | ⟨k9,k5,k6,k7⟩
   ·exact .inl (Nat.le_trans hC.fr.size h')
   ·rw[<-k7];exact hC.own k9 k6
  ·rw[k4];exact hC.own nm k3
 ·refine⟨fY.fr.os.trans hC.fr.os,fY.fr.tape.trans hC.fr.tape,fY.fr.output.trans hC.fr.output,Nat.le_trans hC.fr.size fY.fr.size,fun b hb ho=>?_⟩
  rw[fY.fr.block b (Nat.lt_of_lt_of_le hb hC.fr.size) fun ⟨nm,_,k3,e⟩=>?_]
  ·exact hC.fr.block b hb ho
  ·rcases hC.own nm k3 with h | h<;>rw[e]at h
   ·omega
   ·exact ho h
 ·intro b off v h
  rcases BO b off v h with h | ⟨_,h⟩
  ·rcases fY.fresh _ _ _ h with h' | h' | ⟨nm,_,k3,e⟩
   ·exact hC.fresh _ _ _ h'
   ·exact .inr (.inl (Nat.le_trans hC.fr.size h'))
   ·rw[<-e];exact .inr (hC.own nm k3)
  ·exact hC.fresh _ _ _ h
 ·exact⟨hC.kept.1,hC.kept.2.trans B0⟩
end
def dt:Nat->List D->List (Nat×E)
 |_,[]=>[]
 |k,x::r=>(k,⟨true,x⟩)::dt (k+1) r
theorem Sm:∀ {k:Nat} {xs:List D} {t:Nat} {e:E},(t,e)∈dt k xs->∃ (i:Nat) (h:i<xs.length),t=k+i/\e=⟨true,xs[i]⟩
 |k,[],t,e,h=>by simp[dt]at h
 |k,x::r,t,e,h=>by
  simp only[dt,List.mem_cons,Prod.mk.injEq]at h
  rcases h with⟨rfl,rfl⟩ | h
  ·exact⟨0,by simp,rfl,rfl⟩
  ·obtain⟨i,hi,h1,h2⟩:=Sm h
   exact⟨i+1,by simpa using hi,by omega,by simpa using h2⟩
structure CSpec where
 pre:List O->List D->Prop
 out:List O->List D->Out
def cS(obj:Name->Option O)(ds:List D):List O:=(reach obj ds).map (cX (reach obj ds) obj)
def dr(obj:Name->Option O)(ds:List D):List D:=D.renL (cin (reach obj ds)) ds
def CSpec.toSpec(s:CSpec):Spec where
 app obj t ds:=⟨(shut obj (reach obj ds)&&D.closL (dj (reach obj ds)) ds&&fresh obj t (s.out (cS obj ds) (dr obj ds)).new)=true/\s.pre (cS obj ds) (dr obj ds),
  (s.out (cS obj ds) (dr obj ds)).d.ren (cout (reach obj ds) t),dQ (reach obj ds) t (s.out (cS obj ds) (dr obj ds)).new (cU (reach obj ds) t (s.out (cS obj ds) (dr obj ds)).upd obj)⟩
 foot obj t ds:=reach obj ds++((s.out (cS obj ds) (dr obj ds)).upd.map fun x=>(reach obj ds).getD x.1 [])++(s.out (cS obj ds) (dr obj ds)).new.map fun x=>x.1++t
 wrt obj t ds:=((s.out (cS obj ds) (dr obj ds)).upd.map fun x=>(reach obj ds).getD x.1 [])++(s.out (cS obj ds) (dr obj ds)).new.map fun x=>x.1++t
theorem vJ{L:List Name}{t:Name}:∀ (l:List (Nat×O)) (obj obj2:Name->Option O) (nm:Name),cU L t l obj2 nm=if nm∈l.map (fun x=>L.getD x.1 [])then cU L t l obj nm else obj2 nm
 |[],obj,obj2,nm=>by simp[cU]
 |(i,o)::r,obj,obj2,nm=>by
  simp only[cU,List.map_cons,List.mem_cons]
  rw[vJ r (upd obj (L.getD i []) (some (o.ren (cout L t)))) (upd obj2 (L.getD i []) (some (o.ren (cout L t)))) nm]
  by_cases h:nm∈r.map (fun x=>L.getD x.1 [])
  ·rw[if_pos h,if_pos (.inr h)]
  ·rw[if_neg h]
   by_cases e:nm=L.getD i []
   ·rw[if_pos (.inl e)]
    have hu:cU L t r (upd obj (L.getD i []) (some (o.ren (cout L t)))) nm=(upd obj (L.getD i []) (some (o.ren (cout L t)))) nm:=by
     rw[vJ r obj _ nm,if_neg h]
    rw[hu,e,aX,aX]
   ·rw[if_neg (by simp only[not_or];exact⟨e,h⟩)]
    exact bm _ _ _ e
theorem sW{L:List Name}{t:Name}:∀ (l:List (Name×O)) (obj obj2:Name->Option O) (nm:Name),dQ L t l obj2 nm=if nm∈l.map (fun x=>x.1++t)then dQ L t l obj nm else obj2 nm
 |[],obj,obj2,nm=>by simp[dQ]
 |(i,o)::r,obj,obj2,nm=>by
  simp only[dQ,List.map_cons,List.mem_cons]
  rw[sW r (upd obj (i++t) (some (o.ren (cout L t)))) (upd obj2 (i++t) (some (o.ren (cout L t)))) nm]
  by_cases h:nm∈r.map (fun x=>x.1++t)
  ·rw[if_pos h,if_pos (.inr h)]
  ·rw[if_neg h]
   by_cases e:nm=i++t
   ·rw[if_pos (.inl e)]
    have hu:dQ L t r (upd obj (i++t) (some (o.ren (cout L t)))) nm=(upd obj (i++t) (some (o.ren (cout L t)))) nm:=by
     rw[sW r obj _ nm,if_neg h]
    rw[hu,e,aX,aX]
   ·rw[if_neg (by simp only[not_or];exact⟨e,h⟩)]
    exact bm _ _ _ e
theorem p0{obj obj2:Name->Option O}{ds:List D}(h:bX (reach obj ds) obj obj2):reach obj2 ds=reach obj ds:=Ei _ _ _ h
theorem zA{obj obj2:Name->Option O}{ds:List D}(h:bX (reach obj ds) obj obj2):cS obj2 ds=cS obj ds:=by
 unfold cS
 rw[p0 h]
 exact List.map_congr_left fun nm hn=>by simp only[cX];rw[h nm hn]
theorem If{obj obj2:Name->Option O}{ds:List D}(h:bX (reach obj ds) obj obj2):dr obj2 ds=dr obj ds:=by
 unfold dr
 rw[p0 h]
theorem DU{obj obj2:Name->Option O}{L:List Name}(h:bX L obj obj2):shut obj2 L=shut obj L:=by
 unfold shut
 refine Bool.eq_iff_iff.2 ?_
 simp only[List.all_eq_true]
 exact⟨fun k x hx=>by rw[<-h x hx];exact k x hx,fun k x hx=>by rw[h x hx];exact k x hx⟩
theorem Cl{obj obj2:Name->Option O}{t:Name}{new:List (Name×O)}(h:bX (new.map fun x=>x.1++t) obj obj2):fresh obj2 t new=fresh obj t new:=by
 unfold fresh
 refine Bool.eq_iff_iff.2 ?_
 simp only[List.all_eq_true]
 exact⟨fun k x hx=>by rw[<-h _ (List.mem_map_of_mem hx)];exact k x hx,fun k x hx=>by rw[h _ (List.mem_map_of_mem hx)];exact k x hx⟩
theorem Fg{ok ok2:Prop}{d:D}{obj obj2:Name->Option O}{L:List Name}{t:Name}{o:Out}(aa:ok2=ok)
 (ha:bX ((o.upd.map fun x=>L.getD x.1 [])++o.new.map fun x=>x.1++t) obj obj2):
 b8 ⟨ok,d,dQ L t o.new (cU L t o.upd obj)⟩ ⟨ok2,d,dQ L t o.new (cU L t o.upd obj2)⟩ obj obj2 ((o.upd.map fun x=>L.getD x.1 [])++o.new.map fun x=>x.1++t):=by
 refine⟨aa,rfl,fun nm=>?_,fun nm hn=>?_⟩
 ·show dQ L t o.new (cU L t o.upd obj2) nm=if nm∈_ then dQ L t o.new (cU L t o.upd obj) nm else obj2 nm
  rw[sW o.new (cU L t o.upd obj) (cU L t o.upd obj2) nm]
  by_cases h1:nm∈o.new.map (fun x=>x.1++t)
  ·rw[if_pos h1,if_pos (List.mem_append_right _ h1)]
  ·rw[if_neg h1,vJ o.upd obj obj2 nm]
   by_cases h2:nm∈o.upd.map (fun x=>L.getD x.1 [])
   ·rw[if_pos h2,if_pos (List.mem_append_left _ h2)]
    rw[sW o.new obj (cU L t o.upd obj) nm,if_neg h1]
   ·rw[if_neg h2,if_neg (by simp only[List.mem_append,not_or];exact⟨h2,h1⟩)]
 ·show dQ L t o.new (cU L t o.upd obj) nm=obj nm
  simp only[List.mem_append,not_or]at hn
  rw[sW o.new obj (cU L t o.upd obj) nm,if_neg hn.2,vJ o.upd obj obj nm,if_neg hn.1]
theorem CSpec.near(s:CSpec):s.toSpec.Near:=by
 have key:∀ {obj obj2:Name->Option O} {t:Name} {ds:List D},bX (s.toSpec.foot obj t ds) obj obj2->bX (reach obj ds) obj obj2/\
     bX (((s.out (cS obj ds) (dr obj ds)).upd.map fun x=>(reach obj ds).getD x.1 [])++(s.out (cS obj ds) (dr obj ds)).new.map fun x=>x.1++t) obj obj2:=by
  intro obj obj2 t ds h
  refine⟨fun nm hn=>h nm ?_,fun nm hn=>h nm ?_⟩
  ·exact List.mem_append_left _ (List.mem_append_left _ hn)
  ·rcases List.mem_append.1 hn with hn | hn
   ·exact List.mem_append_left _ (List.mem_append_right _ hn)
   ·exact List.mem_append_right _ hn
 refine⟨fun obj obj2 t ds h=>?_,fun obj obj2 t ds h=>?_,fun obj t ds nm hn=>?_,fun obj obj2 t ds h=>?_⟩
 ·obtain⟨h1,h2⟩:=key h
  simp only[CSpec.toSpec]
  rw[zA h1,If h1,p0 h1]
  refine Fg ?_ h2
  rw[DU h1,Cl fun nm hn=>h2 nm (List.mem_append_right _ hn)]
 ·obtain⟨h1,h2⟩:=key h
  simp only[CSpec.toSpec]
  rw[zA h1,If h1,p0 h1]
 ·simp only[CSpec.toSpec]at hn |-
  rcases List.mem_append.1 hn with hn | hn
  ·exact List.mem_append_left _ (List.mem_append_right _ hn)
  ·exact List.mem_append_right _ hn
 ·obtain⟨h1,h2⟩:=key h
  simp only[CSpec.toSpec]
  rw[zA h1,If h1,p0 h1]
def s8(σ:S)(u:List (Nat×O)):Nat->List O->Prop
 |_,[]=>True
 |i,o::r=>σ.obj [i,1]=some (fG u i o)/\s8 σ u (i+1) r
theorem LC{σ:S}{u:List (Nat×O)}:∀ {l:List O} {k:Nat},s8 σ u k l->∀ i (h:i<l.length),σ.obj [k+i,1]=some (fG u (k+i) l[i])
 |o::r,k,h,0,_=>h.1
 |o::r,k,h,i+1,hi=>by
  have :=LC h.2 i (by simpa using hi)
  rw[show k+(i+1)=k+1+i by omega]
  simpa using this
def xW(σ:S):List (Name×O)->Prop
 |[]=>True
 |x::r=>σ.obj x.1=some x.2/\xW σ r
theorem LJ{σ:S}:∀ {l:List (Name×O)},xW σ l->∀ x∈l,σ.obj x.1=some x.2
 |y::r,h,x,hx=>by
  rcases List.mem_cons.1 hx with rfl | hx
  ·exact h.1
  ·exact LJ h.2 x hx
def distinct:List Name->Bool
 |[]=>true
 |x::r=>(r.all fun y=>!(x==y))&&distinct r
theorem QT:∀ {l:List Name},distinct l=true->l.Nodup
 |[],_=>by simp
 |x::r,h=>by
  simp only[distinct,Bool.and_eq_true]at h
  refine List.nodup_cons.2 ⟨fun hx=>?_,QT h.2⟩
  have :=List.all_eq_true.1 h.1 x hx
  simp at this
def gZ(os:List O)(o:Out)(σ:S):Prop:=
 s8 σ o.upd 0 os/\xW σ o.new/\
  (D.clos (dC os.length o.new) o.d&&(o.upd.all fun x=>O.clos (dC os.length o.new) x.2&&decide (x.1<os.length))&&(o.new.all fun x=>O.clos (dC os.length o.new) x.2&&!dz x.1)&&distinct (o.new.map (·.1)))=true
theorem QK{os:List O}{o:Out}{σ:S}(h:gZ os o σ):Td σ os o:=by
 obtain⟨h1,h2,h3⟩:=h
 simp only[Bool.and_eq_true]at h3
 exact⟨fun i hi=>by simpa using LC h1 i hi,LJ h2,h3.1.1.1,h3.1.1.2,by simpa using h3.1.2,QT h3.2⟩
def xM(P:Program)(rs:List ResultVar)(os:List O)(o:Out):Exit->S->Prop
 | .normal,σ=>(cf P σ rs).ok/\(cf P σ rs).d=o.d/\gZ os o σ
 | .ret,σ=>(cf P σ rs).ok/\(cf P σ rs).d=o.d/\gZ os o σ
 |_,_=>False
def ba(os:List O):Name->Option O
 |[i,1]=>os[i]?
 |_=>none
theorem W2{L:List Name}{obj:Name->Option O}{x:Name}(h:dz x=false):kC L obj x=none:=by
 unfold kC
 split
 ·simp[dz]at h
 ·rfl
theorem AQ{os:List O}{x:Name}(h:dz x=false):ba os x=none:=by
 unfold ba
 split
 ·simp[dz]at h
 ·rfl
theorem AZ{L:List Name}{obj:Name->Option O}:kC L obj=ba (L.map (cX L obj)):=by
 funext x
 cases hx:dz x with
 |false=>rw[W2 hx,AQ hx]
 |true=>
  obtain⟨i,rfl⟩:=yl.1 hx
  show (if i<L.length then some (cX L obj (L.getD i []))else none)=(L.map (cX L obj))[i]?
  by_cases hi:i<L.length
  ·rw[if_pos hi,List.getElem?_eq_getElem (by simpa using hi)]
   rw[mu hi,List.getElem_map]
  ·rw[if_neg hi,List.getElem?_eq_none (by simpa using hi)]
theorem E5{nt:Nat}{l:List (Nat×E)}{os:List O}:bu nt [0] (ba os) l []=⟨nt,ey eAny l,ba os,[0],0⟩:=by
 unfold bu
 congr 1
 funext nm
 split
 ·rename_i h
  have :dz nm=false:=by
   cases hc:dz nm with
   |false=>rfl
   |true=>
    obtain⟨i,rfl⟩:=yl.1 hc
    rw[Lg]at h;cases h
  unfold ba
  split
  ·simp[dz]at this
  ·rfl
 ·rfl
theorem pI{P:Program}{f:FuncId}{fn:Func}{c:Code}{s:CSpec}{nt:Nat}{rs:List ResultVar}(hf:P.funcs[f]?=some fn)(hb:fn.body=some c)(cM:fn.ntmps=nt)(cg:fn.results.toList=rs)
 (mo:∀ args w,(callFunc f args).run P w=.ok (.enter f args) w) (aH:f≠yid)
 (h:∀ os ds,s.pre os ds->ds.length<=nt/\CW P c (bu nt [0] (ba os) (dt 0 ds) []) (xM P rs os (s.out os ds))):aT P f s.toSpec:=by
 subst cM
 subst cg
 refine⟨s.near,fun _=>mo,fun _ G φ m σ a w hC t ds us _ hl hr aa=>?_,fun e=>(aH e).elim⟩
 obtain⟨aa,eB⟩:=aa
 simp only[Bool.and_eq_true]at aa
 obtain⟨⟨js,cA⟩,de⟩:=aa
 obtain⟨hlen,oS⟩:=h _ _ eB
 have cz:(reach σ.obj ds).Nodup:=AG _ _ _ (by simp)
 simp only[dr,kZ,List.length_map]at hlen
 refine(callsIn_wide (n:=0)).1 (callsIn_of_wp_marks hf hb trivial ?_)
 have dL:=Ql hC (L:=reach σ.obj ds) cz js (rd:=none) (fun l h=>by cases h) (b0:=0) (nt:=fn.ntmps) (env:=ey eAny (dt 0 (dr σ.obj ds)))
  (tmps:=us++Array.replicate (fn.ntmps-us.size) undef) (by simp;omega) (fun t=>by
    rcases vO (z:=eAny) (dt 0 (dr σ.obj ds)) t with h1 | h1
    ·rw[h1];unfold cN eAny;simp;exact .any _
    ·obtain⟨i,hi,h2,h3⟩:=Sm h1
     rw[h3]
     unfold cN
     simp only[if_true]
     simp only[dr,kZ,List.length_map]at hi
     have bP:i<us.size:=by omega
     have e:((us++Array.replicate (fn.ntmps-us.size) undef).getD t undef)=us[i]:=by
      have aw:0+i<(us++Array.replicate (fn.ntmps-us.size) undef).size:=by simp;omega
      rw[h2]
      simp only[Array.getD,aw,dite_true]
      show (us++Array.replicate (fn.ntmps-us.size) undef)[0+i]=us[i]
      simp only[Nat.zero_add]
      exact Array.getElem_append_left bP
     rw[e]
     simp only[dr,kZ,List.getElem_map]
     exact(hr i hi bP).renx (Mem.le_refl m) AF (jF hi cA))
 rw[E5]at oS
 rw[AZ]at dL
 refine wpIn_mono (oS _ _ m _ w dL) ?_
 rintro e a1 w1 ⟨φ2,m2,σ2,iQ,hK⟩
 have fin:(cf P σ2 fn.results.toList).ok/\(cf P σ2 fn.results.toList).d=(s.out (cS σ.obj ds) (dr σ.obj ds)).d/\gZ (cS σ.obj ds) (s.out (cS σ.obj ds) (dr σ.obj ds)) σ2->
     LeavesInM Fence.wide 0 P fn a1.tmps (fun e w'=>∃ v φ' m',e=.returned v/\aV G φ' m' { σ with obj:=(s.toSpec.app σ.obj t ds).obj } a w'/\aI φ' (s.toSpec.app σ.obj t ds).obj m' (s.toSpec.app σ.obj t ds).d v/\Ext φ φ' σ.obj (s.toSpec.app σ.obj t ds).obj) a1.defers .returning w1:=by
  rintro⟨h1,h2,h3⟩
  refine Fh a1.defers rfl iQ fun a' w' _ cR=>?_
  obtain⟨v,h4,h5⟩:=Kp cR fn h1
  rw[h2]at h5
  have hE:=QK h3
  obtain⟨φ',m',k1,k2,k3,k4⟩:=Qk hC cz js cR hE de
  have wG:=hE.cd
  simp only[cS,List.length_map]at wG
  exact⟨v,h4,v,φ',m',rfl,k2,k4 _ _ h5 wG,k3⟩
 cases e with
 |normal=>exact fin hK
 |ret=>exact fin hK
 |_=>exact hK.elim
theorem b8.more{ok ok2:Prop}{d d2:D}{o1 o2 obj obj2:Name->Option O}{wr:List Name}(nm:Name)(x:Option O)(h:b8 ⟨ok,d,o1⟩ ⟨ok2,d2,o2⟩ obj obj2 wr):
 b8 ⟨ok,d,upd o1 nm x⟩ ⟨ok2,d2,upd o2 nm x⟩ obj obj2 (nm::wr):=by
 refine⟨h.ok,h.d,fun y=>?_,fun y hy=>?_⟩
 ·show upd o2 nm x y=if y∈nm::wr then upd o1 nm x y else obj2 y
  by_cases e:y=nm
  ·subst e;rw[aX,if_pos (by simp),aX]
  ·rw[bm _ _ _ e,bm _ _ _ e]
   have :=h.eff y
   simp only at this
   rw[this]
   by_cases hy:y∈wr
   ·rw[if_pos hy,if_pos (List.mem_cons_of_mem _ hy)]
   ·rw[if_neg hy,if_neg (by simp[e,hy])]
 ·simp only[List.mem_cons,not_or]at hy
  show upd o1 nm x y=obj y
  rw[bm _ _ _ hy.1]
  exact h.frame y hy.2
structure YSpec where
 pre:List E->List Nat->Code->Code->List O->List D->Prop
 out:List E->List Nat->Code->Code->List O->List D->Out×Option Code
def roots(env:List E)(ds:List D):List D:=env.map (·.d)++ds
def jh(obj:Name->Option O)(env:List E)(ds:List D):List E:=env.map (E.ren (cin (reach obj (roots env ds))))
def kq(obj:Name->Option O)(env:List E)(ds:List D):List D:=D.renL (cin (reach obj (roots env ds))) ds
def YSpec.o(y:YSpec)(obj:Name->Option O)(env:List E)(ps:List Nat)(asg body:Code)(ds:List D):Out×Option Code:=
 y.out (jh obj env ds) ps asg body (cS obj (roots env ds)) (kq obj env ds)
def YSpec.toSpec(y:YSpec):Spec where
 app obj t args:=match args with
  | .yld nm::ds=>match obj nm with
    |some (.loop env ps asg body .ready none)=>
     ⟨(shut obj (reach obj (roots env ds))&&D.closL (dj (reach obj (roots env ds))) (roots env ds)&&fresh obj t (y.o obj env ps asg body ds).1.new&&!dj (reach obj (roots env ds)) nm&&
         decide (ds.length=ps.length)&&(ps.all fun p=>decide (p<env.length)))=true/\y.pre (jh obj env ds) ps asg body (cS obj (roots env ds)) (kq obj env ds),
       .v (.bool (y.o obj env ps asg body ds).2.isNone),
       upd (dQ (reach obj (roots env ds)) t (y.o obj env ps asg body ds).1.new (cU (reach obj (roots env ds)) t (y.o obj env ps asg body ds).1.upd obj)) nm
        (some (.loop env ps asg body (if (y.o obj env ps asg body ds).2.isNone then .ready else .done) (y.o obj env ps asg body ds).2))⟩
    |_=>.bad obj
  |_=>.bad obj
 foot obj t args:=match args with
  | .yld nm::ds=>nm::(match obj nm with
    |some (.loop env ps asg body .ready none)=>reach obj (roots env ds)++((y.o obj env ps asg body ds).1.upd.map fun x=>(reach obj (roots env ds)).getD x.1 [])++(y.o obj env ps asg body ds).1.new.map fun x=>x.1++t
    |_=>[])
  |_=>[]
 wrt obj t args:=match args with
  | .yld nm::ds=>nm::(match obj nm with
    |some (.loop env ps asg body .ready none)=>((y.o obj env ps asg body ds).1.upd.map fun x=>(reach obj (roots env ds)).getD x.1 [])++(y.o obj env ps asg body ds).1.new.map fun x=>x.1++t
    |_=>[])
  |_=>[]
theorem YSpec.near(y:YSpec):y.toSpec.Near:=by
 have EP:∀ {obj obj2:Name->Option O} {env:List E} {ps:List Nat} {asg body:Code} {ds:List D},bX (reach obj (roots env ds)) obj obj2->
     y.o obj2 env ps asg body ds=y.o obj env ps asg body ds/\jh obj2 env ds=jh obj env ds/\kq obj2 env ds=kq obj env ds:=by
  intro obj obj2 env ps asg body ds h
  unfold YSpec.o jh kq
  rw[zA h,p0 h]
  exact⟨rfl,rfl,rfl⟩
 have split:∀ {A B C:List Name} {obj obj2:Name->Option O} {nm:Name},bX (nm::(A++B++C)) obj obj2->bX A obj obj2/\bX (B++C) obj obj2:=by
  intro A B C obj obj2 nm h
  refine⟨fun x hx=>h x ?_,fun x hx=>h x ?_⟩
  ·exact List.mem_cons_of_mem _ (List.mem_append_left _ (List.mem_append_left _ hx))
  ·rcases List.mem_append.1 hx with hx | hx
   ·exact List.mem_cons_of_mem _ (List.mem_append_left _ (List.mem_append_right _ hx))
   ·exact List.mem_cons_of_mem _ (List.mem_append_right _ hx)
 have CO:∀ (args:List D),(∃ nm ds,args=.yld nm::ds)\/(∀ obj t,y.toSpec.app obj t args=.bad obj/\y.toSpec.foot obj t args=[]/\y.toSpec.wrt obj t args=[]):=by
  intro args
  rcases args with _ | ⟨d,ds⟩
  ·exact .inr fun _ _=>⟨rfl,rfl,rfl⟩
  ·cases d with
   |yld nm=>exact .inl ⟨nm,ds,rfl⟩
   |_=>exact .inr fun _ _=>⟨rfl,rfl,rfl⟩
 refine⟨fun obj obj2 t args h=>?_,fun obj obj2 t args h=>?_,fun obj t args k9 hn=>?_,fun obj obj2 t args h=>?_⟩
 ·rcases CO args with⟨nm,ds,rfl⟩ | hb
  ·simp only[YSpec.toSpec]at h |-
   have h0:obj2 nm=obj nm:=h nm (by simp)
   rw[h0]
   split
   ·rename_i env ps asg body ho
    simp only[ho]at h
    obtain⟨h1,h2⟩:=split h
    obtain⟨e1,e2,e3⟩:=EP (ps:=ps) (asg:=asg) (body:=body) h1
    rw[e1,e2,e3,zA h1,p0 h1]
    refine b8.more nm _ (Fg ?_ h2)
    rw[DU h1,Cl fun nm hn=>h2 nm (List.mem_append_right _ hn)]
   ·exact .none _ fun x hx=>by simp only[List.mem_singleton]at hx;subst hx;exact h0
  ·rw[(hb obj t).1,(hb obj2 t).1,(hb obj t).2.2]
   exact .same rfl rfl rfl rfl
 ·rcases CO args with⟨nm,ds,rfl⟩ | hb
  ·simp only[YSpec.toSpec]at h |-
   have h0:obj2 nm=obj nm:=h nm (by simp)
   rw[h0]
   split
   ·rename_i env ps asg body ho
    simp only[ho]at h
    obtain⟨h1,h2⟩:=split h
    obtain⟨e1,e2,e3⟩:=EP (ps:=ps) (asg:=asg) (body:=body) h1
    rw[e1,p0 h1]
   ·rfl
  ·rw[(hb obj t).2.1,(hb obj2 t).2.1]
 ·rcases CO args with⟨nm,ds,rfl⟩ | hb
  ·simp only[YSpec.toSpec]at hn |-
   rcases List.mem_cons.1 hn with rfl | hn
   ·simp
   ·refine List.mem_cons_of_mem _ ?_
    split at hn
    ·rename_i env ps asg body ho
     try simp only[ho]
     rcases List.mem_append.1 hn with hn | hn
     ·exact List.mem_append_left _ (List.mem_append_right _ hn)
     ·exact List.mem_append_right _ hn
    ·cases hn
  ·rw[(hb obj t).2.2]at hn;cases hn
 ·rcases CO args with⟨nm,ds,rfl⟩ | hb
  ·simp only[YSpec.toSpec]at h |-
   have h0:obj2 nm=obj nm:=h nm (by simp)
   rw[h0]
   split
   ·rename_i env ps asg body ho
    simp only[ho]at h
    obtain⟨h1,h2⟩:=split h
    obtain⟨e1,e2,e3⟩:=EP (ps:=ps) (asg:=asg) (body:=body) h1
    rw[e1,p0 h1]
   ·rfl
  ·rw[(hb obj t).2.2,(hb obj2 t).2.2]
def uH(env:List E):Nat->E:=fun t=>env.getD t eAny
def rm:(Nat->E)->List Nat->List D->(Nat->E)
 |f,p::ps,d::ds=>rm (upd f p ⟨true,d⟩) ps ds
 |f,_,_=>f
def Ll(k:S->Prop):Exit->S->Prop
 | .normal,σ=>k σ
 |_,_=>False
def V0(os:List O)(o:Out×Option Code):Exit->S->Prop
 | .normal,σ=>o.2=none/\gZ os o.1 σ
 | .ret,σ=>o.2=some .ret/\gZ os o.1 σ
 | .exit id,σ=>o.2=some (.exit id)/\gZ os o.1 σ
 |_,_=>False
theorem JT{φ:Name->Loc}{obj:Name->Option O}{m:Mem}{n:Nat}:∀ (ps:List Nat) (ds:List D) (us:List Value) (f:Nat->E) (tmps:Array Value),tmps.size=n->ps.length=ds.length->ds.length=us.length->
 (∀ p∈ps,p<n)->(∀ t,cN φ obj m (f t) (tmps.getD t undef))->(∀ i (h:i<ds.length) (h':i<us.length),aI φ obj m ds[i] us[i])->
 (∀ t,cN φ obj m (rm f ps ds t) (((ps.zip us).foldl (fun tmps (p:Nat×Value)=>tmps.setIfInBounds p.1 p.2) tmps).getD t undef))/\((ps.zip us).foldl (fun tmps (p:Nat×Value)=>tmps.setIfInBounds p.1 p.2) tmps).size=n
 |[],ds,us,f,tmps,hs,h1,h2,hp,hf,hr=>by
  have :ds=[]:=List.eq_nil_of_length_eq_zero (by simpa using h1.symm)
  subst this
  exact⟨hf,hs⟩
 |p::ps,[],us,f,tmps,hs,h1,h2,hp,hf,hr=>by simp at h1
 |p::ps,d::ds,[],f,tmps,hs,h1,h2,hp,hf,hr=>by simp at h2
 |p::ps,d::ds,u::us,f,tmps,hs,h1,h2,hp,hf,hr=>by
  simp only[List.zip_cons_cons,List.foldl_cons,rm]
  refine JT ps ds us _ _ (by simpa using hs) (by simpa using h1) (by simpa using h2) (fun q hq=>hp q (by simp[hq])) (fun t=>?_) fun i a b=>by
   have :=hr (i+1) (by simpa using a) (by simpa using b)
   simpa using this
  have ae:p<tmps.size:=by rw[hs];exact hp p (by simp)
  by_cases ht:t=p
  ·subst ht
   rw[aX]
   have e:(tmps.setIfInBounds t u).getD t undef=u:=by simp[Array.getD,ae]
   rw[e]
   unfold cN
   simp only[if_true]
   exact hr 0 (by simp) (by simp)
  ·rw[bm _ _ _ ht]
   have e:(tmps.setIfInBounds p u).getD t undef=tmps.getD t undef:=by
    simp only[Array.getD_eq_getD_getElem?]
    rw[Array.getElem?_setIfInBounds_ne (fun h=>ht h.symm)]
   rw[e];exact hf t
theorem Rk{wa wb:World}{m:Mem}{L:List Name}{φ:Name->Loc}{obj:Name->Option O}{l:Nat}{h h'}{φ1:Name->Loc}{m1:Mem}{σ1:S}{a1:Act}{w1 w2:World}
 (hC:aV (uE wa m L φ obj (some l) h) φ1 m1 σ1 a1 w1) (ef:wb.heap.size=wa.heap.size/\w2.heap.size=w1.heap.size) (ho:wb.os=w2.os/\wb.tape=w2.tape/\wb.output=w2.output)
 (hb:∀ b,b≠l->wb.heap[b]?=wa.heap[b]?) (h2:∀ b,b≠l->w2.heap[b]?=w1.heap[b]?) (hl:wb.heap[l]?=w2.heap[l]?):aV (uE wb m L φ obj (some l) h') φ1 m1 σ1 a1 w2:=by
 obtain⟨O7,r,hr⟩:=h l rfl
 have ae:l<wa.heap.size:=(Array.getElem?_eq_some_iff.1 hr).1
 have dS:w1.heap[l]?=some (.loop r):=(hC.fr.block l ae O7).trans hr
 constructor
 ·exact hC.tmps
 ·exact hC.size
 ·obtain⟨ds,k1,k2,k3⟩:=hC.defers
  refine⟨ds,k1,k2,fun D hD=>?_⟩
  obtain⟨k4,k5⟩:=k3 D hD
  have aH:D≠l:=fun e=>by subst e;rw[dS]at k5;cases k5
  exact⟨by show wb.heap.size<=D;rw[ef.1];exact k4,(h2 D aH).trans k5⟩
 ·intro nm o iq
  refine(hC.objs nm o iq).ext (Mem.le_refl _) (Ext.refl _ _) fun k1 k2=>h2 _ fun e=>?_
  rcases hC.own nm ⟨o,iq,k1,k2⟩with h3 | h3
  ·have h4:wa.heap.size<=(φ1 nm).blk:=h3
   omega
  ·rw[e]at h3;exact O7 h3
 ·intro b off v hv
  have h3:=hC.mem b off v hv
  rw[sx (h2 b (fun e=>by subst e;unfold World.cell? at h3;simp[dS]at h3))]
  exact h3
 ·exact hC.apart
 ·exact hC.inj
 ·intro nm hh
  rcases hC.own nm hh with h3 | h3
  ·exact .inl (by show wb.heap.size<=_;rw[ef.1];exact h3)
  ·exact .inr h3
 ·refine⟨ho.1.symm,ho.2.1.symm,ho.2.2.symm,by show wb.heap.size<=_;rw[ef.1,ef.2];exact hC.fr.size,fun b h3 h4=>?_⟩
  show w2.heap[b]?=wb.heap[b]?
  by_cases e:b=l
  ·subst e;exact hl.symm
  ·rw[h2 b e,hb b e]
   exact hC.fr.block b (by have:b<wb.heap.size:=h3;show b<wa.heap.size;omega) h4
 ·intro b off v hv
  rcases hC.fresh b off v hv with h3 | h3 | h3
  ·exact .inl h3
  ·exact .inr (.inl (by show wb.heap.size<=_;rw[ef.1];exact h3))
  ·exact .inr (.inr h3)
 ·exact hC.kept
theorem RG{L:List Name}{obj:Name->Option O}{nm:Name}{x:Option O}(h:nm∉L){y:Name}(hy:y∈L):cX L (upd obj nm x) y=cX L obj y:=by
 unfold cX
 rw[bm _ _ _ (by rintro rfl;exact h hy)]
theorem W0{L:List Name}{obj:Name->Option O}{nm:Name}{x:Option O}(h:nm∉L):kC L (upd obj nm x)=kC L obj:=by
 rw[AZ,AZ]
 congr 1
 exact List.map_congr_left fun y hy=>RG h hy
theorem PI{L:List Name}{φ:Name->Loc}{obj:Name->Option O}{nm:Name}{x:Option O}(h:nm∉L):qY L φ (upd obj nm x)=qY L φ obj:=by
 funext b
 refine propext ⟨fun ⟨y,h1,⟨o,h2,h3⟩,h4⟩=>?_,fun ⟨y,h1,⟨o,h2,h3⟩,h4⟩=>?_⟩
 ·rw[bm _ _ _ (by rintro rfl;exact h h1)]at h2
  exact⟨y,h1,⟨o,h2,h3⟩,h4⟩
 ·exact⟨y,h1,⟨o,by rw[bm _ _ _ (by rintro rfl;exact h h1)];exact h2,h3⟩,h4⟩
theorem ab6{w:World}{m:Mem}{L:List Name}{φ:Name->Loc}{obj:Name->Option O}{nm:Name}{x:Option O}{rd:Option Nat}(h:nm∉L){h1}{h2}:uE w m L φ (upd obj nm x) rd h1=uE w m L φ obj rd h2:=by
 unfold uE
 simp only[W0 h,PI h]
theorem I7{P:Program}{y:YSpec}(h:∀ env ps asg body os ds,y.pre env ps asg body os ds->ds.length=ps.length->
 CW P asg ⟨env.length,rm (uH env) ps ds,ba os,[0],0⟩ (Ll fun σ1=>CW P body σ1 (V0 os (y.out env ps asg body os ds)))):aT P yid y.toSpec:=by
 refine⟨y.near,fun e=>(e rfl).elim,fun e=>(e rfl).elim,fun _ G φ m σ a w hC t nm ds us _ hl hr _ aa o abk=>?_⟩
 simp only[YSpec.toSpec]at aa |-
 split at aa
 case h_2=>exact aa.elim
 rename_i env ps asg body aD
 try simp only[aD]
 obtain⟨aa,eB⟩:=aa
 simp only[Bool.and_eq_true,Bool.not_eq_true',decide_eq_true_eq]at aa
 obtain⟨⟨⟨⟨⟨js,cA⟩,de⟩,O'⟩,hlen⟩,fH⟩:=aa
 have gq:nm∉reach σ.obj (roots env ds):=fun h=>by rw[ig.2 h]at O';cases O'
 have cz:(reach σ.obj (roots env ds)).Nodup:=AG _ _ _ (by simp)
 obtain⟨_,dD,r,dS,eH,hr3,FZ,OP,OO,ON,OM⟩:=hC.objs nm _ aD
 have ae:(φ nm).blk<w.heap.size:=(Array.getElem?_eq_some_iff.1 dS).1
 have ug:¬ qY (reach σ.obj (roots env ds)) φ σ.obj (φ nm).blk:=fun ⟨x,k1,k2,k3⟩=>gq (hC.inj _ _ k2 ⟨_,aD,rfl,dD⟩ k3▸k1)
 have mg:r.params.size=ps.length:=by rw[<-FZ];simp
 intro next Q tP
 rw[abk,run_yield dS (by omega),Oper.uponIn_round]
 refine⟨fun h=>(by simp[gr,Fence.wide]at h),?_⟩
 rw[OP,OO]
 refine roundIn_of_wpIn trivial ?_
 have ai2:=cA
 have abv:∀ i (h:i<env.length),D.clos (dj (reach σ.obj (roots env ds))) env[i].d=true:=fun i hi=>by
  have :=jF (l:=roots env ds) (i:=i) (by simp[roots];omega) cA
  simp only[roots]at this |-
  rw[List.getElem_append_left (by simpa using hi)]at this
  simpa using this
 have abu:∀ i (h:i<ds.length),D.clos (dj (reach σ.obj (roots env ds))) ds[i]=true:=fun i hi=>by
  have :=jF (l:=roots env ds) (i:=env.length+i) (by simp[roots];omega) cA
  simp only[roots]at this |-
  rw[List.getElem_append_right (by simp)]at this
  simpa using this
 obtain⟨q1,q2⟩:=JT (φ:=nV (reach σ.obj (roots env ds)) φ) (obj:=kC (reach σ.obj (roots env ds)) σ.obj) (m:=m) (n:=env.length) ps (kq σ.obj env ds) us.toList (uH (jh σ.obj env ds)) r.tmps ON
  (by simp[kq,kZ];omega) (by simp[kq,kZ];omega) (fun p hp=>by have:=List.all_eq_true.1 fH p hp;simpa using this)
  (fun t=>by
    unfold uH
    by_cases ht:t<env.length
    ·have:=(OM t ht).renx (Mem.le_refl m) AF (abv t ht)
     have e:(jh σ.obj env ds).getD t eAny=E.ren (cin (reach σ.obj (roots env ds))) env[t]:=by
      rw[List.getD_eq_getElem?_getD,List.getElem?_eq_getElem (by simpa[jh]using ht)];simp[jh]
     rw[e];exact this
    ·have e:(jh σ.obj env ds).getD t eAny=eAny:=by
       rw[List.getD_eq_getElem?_getD,List.getElem?_eq_none (by simp[jh];omega)];rfl
     rw[e];unfold cN eAny;simp;exact .any _)
  (fun i a b=>by
    simp only[kq,kZ,List.length_map]at a
    have :=(hr i a (by simpa using b)).renx (Mem.le_refl m) AF (abu i a)
    simpa[kq,kZ]using this)
 have dL:=Ql hC (L:=reach σ.obj (roots env ds)) cz js (rd:=some (φ nm).blk) (fun l e=>by cases e;exact⟨ug,r,dS⟩) (b0:=0) (nt:=env.length) q2 q1
 have oS:=h _ _ _ _ _ _ eB (by simp[kq,kZ];omega)
 have abg:(r.params.zip us).foldl (fun tmps (p:Nat×Value)=>tmps.setIfInBounds p.1 p.2) r.tmps=(ps.zip us.toList).foldl (fun tmps (p:Nat×Value)=>tmps.setIfInBounds p.1 p.2) r.tmps:=by
  rw[<-FZ,<-Array.toList_zip,Array.foldl_toList]
 have GR:(jh σ.obj env ds).length=env.length:=by simp[jh]
 rw[GR]at oS
 rw[AZ]at dL
 have abf:(r.params.zip us).foldl (fun tmps (x:Tmp×Value)=>match x with | (t,a)=>tmps.setIfInBounds t a) r.tmps=(ps.zip us.toList).foldl (fun tmps (p:Nat×Value)=>tmps.setIfInBounds p.1 p.2) r.tmps:=abg
 rw[abf]
 refine wpIn_mono (oS _ _ m _ w dL) ?_
 rintro e a1 w1 ⟨φ1,m1,σ1,iQ,hK⟩
 cases e with
 |normal=>
  have OQ:w1.heap[(φ nm).blk]?=some (.loop r):=(iQ.fr.block _ ae ug).trans dS
  have aS:=(Array.getElem?_eq_some_iff.1 OQ).1
  refine⟨_,run_beginRound OQ eH,?_⟩
  have fN:w1.os=w.os/\w1.tape=w.tape/\w1.output=w.output:=⟨iQ.fr.os,iQ.fr.tape,iQ.fr.output⟩
  have fY:=Rk (wb:=w.putObj (φ nm).blk (.loop { r with state:=.busy })) (w2:=w1.putObj (φ nm).blk (.loop { r with state:=.busy }))
   (h':=fun l e=>by cases e;exact⟨ug,_,World.putObj_heap_same ae⟩) iQ ⟨by simp,by simp⟩ ⟨fN.1.symm,fN.2.1.symm,fN.2.2.symm⟩
   (fun b hb=>World.putObj_heap_other hb) (fun b hb=>World.putObj_heap_other hb) (by rw[World.putObj_heap_same ae,World.putObj_heap_same aS])
  refine wpIn_mono (hK _ _ m1 _ _ fY) ?_
  rintro e a3 w3 ⟨φ3,m3,σ3,uA,qC⟩
  have F0:w3.heap[(φ nm).blk]?=some (.loop { r with state:=.busy }):=(uA.fr.block _ (by show _<(w.putObj _ _).heap.size;simpa using ae) ug).trans (World.putObj_heap_same ae)
  have kM:=(Array.getElem?_eq_some_iff.1 F0).1
  have fin:∀ bS:Option Code,(y.o σ.obj env ps asg body ds).2=bS->gZ (cS σ.obj (roots env ds)) (y.o σ.obj env ps asg body ds).1 σ3->
      ∃ v w',(Instr.endRound (φ nm).blk bS).run P w3=.ok v w'/\next (a.put o.dst v) w':=by
   intro bS he hE
   refine⟨_,_,run_endRound bS F0,?_⟩
   generalize hrf:({ r with state:=.busy }:Loop)=rb at F0 |-
   let rf:Loop:={ r with state:=if bS.isNone then .ready else .done,pending:=bS }
   have aaI:({ rb with state:=if bS.isNone then .ready else .done,pending:=bS }:Loop)=rf:=by rw[<-hrf]
   rw[aaI]
   have Qd:=Rk (wb:=w.putObj (φ nm).blk (.loop rf)) (w2:=w3.putObj (φ nm).blk (.loop rf))
    (h':=fun l e=>by cases e;exact⟨ug,_,World.putObj_heap_same ae⟩) uA ⟨by simp,by simp⟩
    ⟨(show (w.putObj (φ nm).blk (.loop rf)).os=(w3.putObj (φ nm).blk (.loop rf)).os from uA.fr.os.symm),(show (w.putObj (φ nm).blk (.loop rf)).tape=(w3.putObj (φ nm).blk (.loop rf)).tape from uA.fr.tape.symm),(show (w.putObj (φ nm).blk (.loop rf)).output=(w3.putObj (φ nm).blk (.loop rf)).output from uA.fr.output.symm)⟩
    (fun b hb=>by rw[World.putObj_heap_other hb,World.putObj_heap_other hb]) (fun b hb=>World.putObj_heap_other hb) (by rw[World.putObj_heap_same ae,World.putObj_heap_same kM])
   have cR:aV G φ m { σ with obj:=upd σ.obj nm (some (.loop env ps asg body (if bS.isNone then .ready else .done) bS)) } a (w.putObj (φ nm).blk (.loop rf)):=by
    have :=hC.chg (w':=w.putObj (φ nm).blk (.loop rf)) nm (.loop env ps asg body (if bS.isNone then .ready else .done) bS) (φ nm) (Ext.same aD rfl rfl) ⟨rfl,rfl,rfl,by simp⟩
     (fun b _ hb=>World.putObj_heap_other (by rcases hb with h | h; · rw[dD]at h;cases h
                                              ·exact h))
     (fun _=>.inr ⟨⟨_,aD,rfl,dD⟩,rfl⟩) (by
       rw[hM]
       refine⟨by assumption,dD,rf,World.putObj_heap_same ae,rfl,rfl,FZ,OP,OO,ON,fun i hi=>(OM i hi).ext (Mem.le_refl m) ?_⟩
       have :=Ext.same (φ:=φ) (o':=.loop env ps asg body (if bS.isNone then .ready else .done) bS) aD rfl rfl
       rwa [hM]at this)
    rwa [hM]at this
   have hL':shut (upd σ.obj nm (some (.loop env ps asg body (if bS.isNone then .ready else .done) bS))) (reach σ.obj (roots env ds))=true:=by
    rw[DU (obj:=σ.obj) fun x hx=>bm _ _ _ (by rintro rfl;exact gq hx)];exact js
   have uu:(reach σ.obj (roots env ds)).map (cX (reach σ.obj (roots env ds)) (upd σ.obj nm (some (.loop env ps asg body (if bS.isNone then .ready else .done) bS))))=cS σ.obj (roots env ds):=
    List.map_congr_left fun x hx=>RG gq hx
   have Hb:=QK hE
   rw[<-uu]at Hb
   have wy:∀ x∈(y.o σ.obj env ps asg body ds).1.new,nm≠x.1++t:=fun x hx e=>by
    have :=List.all_eq_true.1 de x hx
    rw[<-e,aD]at this;cases this
   have abe:fresh (upd σ.obj nm (some (.loop env ps asg body (if bS.isNone then .ready else .done) bS))) t (y.o σ.obj env ps asg body ds).1.new=true:=by
    rw[Cl (obj:=σ.obj) fun x hx=>by
     obtain⟨z,hz,rfl⟩:=List.mem_map.1 hx
     exact bm _ _ _ (wy z hz).symm]
    exact de
   rw[<-ab6 (x:=some (.loop env ps asg body (if bS.isNone then .ready else .done) bS)) gq (h1:=fun l e=>by
    cases e;rw[PI gq];exact⟨ug,_,World.putObj_heap_same ae⟩)]at Qd
   obtain⟨φ',m',k1,k2,k3,k4⟩:=Qk cR cz hL' Qd Hb abe
   refine tP _ φ' m' _ ?_ (.v _ _ ?_)
   ·have:(dQ (reach σ.obj (roots env ds)) t (y.o σ.obj env ps asg body ds).1.new (cU (reach σ.obj (roots env ds)) t (y.o σ.obj env ps asg body ds).1.upd (upd σ.obj nm (some (.loop env ps asg body (if bS.isNone then .ready else .done) bS)))))=
      upd (dQ (reach σ.obj (roots env ds)) t (y.o σ.obj env ps asg body ds).1.new (cU (reach σ.obj (roots env ds)) t (y.o σ.obj env ps asg body ds).1.upd σ.obj)) nm (some (.loop env ps asg body (if bS.isNone then .ready else .done) bS)):=by
      funext x
      have hu:((y.o σ.obj env ps asg body ds).1.upd.all fun x=>decide (x.1<(reach σ.obj (roots env ds)).length))=true:=List.all_eq_true.2 fun z hz=>by
       have :=List.all_eq_true.1 Hb.cu z hz
       simp only[Bool.and_eq_true,List.length_map]at this;exact this.2
      by_cases e:x=nm
      ·subst e
       rw[aX,xO _ _ wy,Ev _ _ hu gq,aX]
      ·rw[bm _ _ _ e]
       rw[sW (y.o σ.obj env ps asg body ds).1.new σ.obj (cU _ _ _ (upd _ _ _)) x,sW (y.o σ.obj env ps asg body ds).1.new σ.obj (cU _ _ _ σ.obj) x]
       by_cases h1:x∈(y.o σ.obj env ps asg body ds).1.new.map (fun x=>x.1++t)
       ·rw[if_pos h1,if_pos h1]
       ·rw[if_neg h1,if_neg h1]
        rw[vJ (y.o σ.obj env ps asg body ds).1.upd σ.obj (upd _ _ _) x,vJ (y.o σ.obj env ps asg body ds).1.upd σ.obj σ.obj x]
        by_cases h2:x∈(y.o σ.obj env ps asg body ds).1.upd.map (fun x=>(reach σ.obj (roots env ds)).getD x.1 [])
        ·rw[if_pos h2,if_pos h2]
        ·rw[if_neg h2,if_neg h2];exact bm _ _ _ e
    rw[this]at k2
    rw[he]
    exact k2
   ·rw[he];exact .bool _
  cases e with
  |normal=>exact fin none qC.1 qC.2
  |ret=>exact fin (some .ret) qC.1 qC.2
  |exit id=>exact fin (some (.exit id)) qC.1 qC.2
  |goto l=>exact qC.elim
  |panic ch=>exact qC.elim
  |outgrown=>exact qC.elim
 |ret=>exact hK.elim
 |exit id=>exact hK.elim
 |goto l=>exact hK.elim
 |panic ch=>exact hK.elim
 |outgrown=>exact hK.elim
theorem acT{G:Ghost}{φ:Name->Loc}{m:Mem}{σ:S}{a:Act}{w:World}(hC:aV G φ m σ a w):
 aV G φ m σ { a with defers:=[{ target:=.collected w.heap.size,args:= #[] }]++a.defers } (w.alloc (.deferred (some []))):=by
 have hb:∀ b,b<w.heap.size->(w.alloc (.deferred (some []))).heap[b]?=w.heap[b]?:=fun b h=>RowKit.Below.heap_alloc w _ b h
 have h:=hC.imm (w':=w.alloc (.deferred (some []))) (Mem.le_refl m) ⟨rfl,rfl,rfl,by simp⟩ hb (fun _ _ _ h=>.inl h)
 refine⟨h.tmps,h.size,?_,h.objs,h.mem,h.apart,h.inj,h.own,h.fr,h.fresh,h.kept⟩
 obtain⟨ds,h1,h2,h3⟩:=h.defers
 have ae:∀ D∈ds,D<w.heap.size:=fun D hD=>by
  obtain⟨nA,k1,k2,k3⟩:=hC.defers
  have e:nA=ds:=by
   have :=k1.symm.trans h1
   have hi:Function.Injective (fun D:Nat=>({ target:=.collected D,args:= #[] }:Deferred)):=fun x y h=>by simpa using h
   exact(List.map_inj_right hi).1 this
  exact(Array.getElem?_eq_some_iff.1 (k3 D (e▸hD)).2).1
 refine⟨w.heap.size::ds,by rw[h1];rfl,List.nodup_cons.2 ⟨fun hm=>Nat.lt_irrefl _ (ae _ hm),h2⟩,fun D hD=>?_⟩
 rcases List.mem_cons.1 hD with rfl | hD
 ·exact⟨hC.fr.size,World.alloc_heap_new w _⟩
 ·exact h3 D hD
def oa(obj:Name->Option O)(nm:Name):Name->Option O:=upd obj nm (match obj nm with
 |some (.loop env ps asg body _ bS)=>some (.loop env ps asg body .exhausted bS)
 |o=>o)
def rM(K:Exit->S->Prop)(obj:Name->Option O)(nm:Name)(σ:S):Prop:=match obj nm with
 |some (.loop _ _ _ _ .busy _)=>False
 |some (.loop _ _ _ _ _ none)=>K .normal σ
 |some (.loop _ _ _ _ _ (some .ret))=>K .ret σ
 |some (.loop _ _ _ _ _ (some (.exit id)))=>K (.exit id) σ
 |_=>False
theorem Rc{P:Program}{Γ:FuncId->Option Spec}(hΓ:∀ f s,Γ f=some s->aT P f s){g:Operand}{ps:Array Tmp}{asg body:Code}{σ:S}{K:Exit->S->Prop}(k k':Nat){f:FuncId}{s:Spec}
 (hc:dh σ g=true) (eK:hJ (ax σ g)=some f) (aH:f≠yid) (hs:Γ f=some s) (tQ:σ.obj (k::σ.pre)=none)
 (aa:(s.app (upd σ.obj (k::σ.pre) (some (.loop ((List.range σ.nt).map σ.env) ps.toList asg body .ready none))) (k'::σ.pre) (fA (ax σ g) [.yld (k::σ.pre)])).ok)
 (hK:rM K (s.app (upd σ.obj (k::σ.pre) (some (.loop ((List.range σ.nt).map σ.env) ps.toList asg body .ready none))) (k'::σ.pre) (fA (ax σ g) [.yld (k::σ.pre)])).obj (k::σ.pre)
   { σ with obj:=oa (s.app (upd σ.obj (k::σ.pre) (some (.loop ((List.range σ.nt).map σ.env) ps.toList asg body .ready none))) (k'::σ.pre) (fA (ax σ g) [.yld (k::σ.pre)])).obj (k::σ.pre) }):
 CW P (.rangeFunc g ps asg body) σ K:=by
 intro G φ m a w hC
 generalize aD:k::σ.pre=nm at *
 generalize F9:upd σ.obj nm (some (.loop ((List.range σ.nt).map σ.env) ps.toList asg body .ready none))=rD at *
 generalize hR:s.app rD (k'::σ.pre) (fA (ax σ g) [.yld nm])=R at *
 have BU:=cL hC hc
 obtain⟨us,vs,fs,cs,hu,qA,e1,e2,dS,eH⟩:∃ (us vs:Array Value) (fs cs:List D),a.eval g=.func (.func f) us vs/\(∀ args,fA (ax σ g) args=fs++args++cs)/\fs.length=us.size/\cs.length=vs.size/\
  (∀ i (h:i<fs.length) (h':i<us.size),aI φ σ.obj m fs[i] us[i])/\(∀ i (h:i<cs.length) (h':i<vs.size),aI φ σ.obj m cs[i] vs[i]):=by
  generalize a.eval g=u at *
  generalize ax σ g=d at *
  unfold hJ at eK
  split at eK
  ·rename_i f' fs cs
   split at eK
   ·cases eK
   cases eK
   cases BU with
   |v _ _ BU=>
   cases BU with
   |clo _ _ _ us vs e1 e2 h1 h2=>
   exact⟨us,vs,fs.map .v,cs.map .v,rfl,fun _=>rfl,by simpa using e1,by simpa using e2,fun i a b=>by simpa using .v _ _ (h1 i (by simpa using a) b),fun i a b=>by simpa using .v _ _ (h2 i (by simpa using a) b)⟩
  ·rename_i f' fs cs
   split at eK
   ·cases eK
   cases eK
   cases BU with
   |clo _ _ _ us vs e1 e2 h1 h2=>exact⟨us,vs,fs,cs,rfl,fun _=>rfl,e1,e2,h1,h2⟩
  ·cases eK;exact(aH rfl).elim
  ·cases eK
 refine wpIn_rangeFunc fun fn _=>?_
 have main:∀ (W:World) (a':Act) (D:Nat),aV G φ m σ a' W->a'.tmps=a.tmps->
     ∃ (d:Deferred) (vj:World) (f':FuncId) (args:Array Value) (w₂:World),
     (resolve a.eval (rangeCall g W.heap.size) 0).run P (W.alloc (.loop { state:=.ready,pending:=none,fn,tmps:=a.tmps,params:=ps,assign:=asg,body,defers:=D }))=.ok d vj/\
     (invoke d.target d.args).run P vj=.ok (.enter f' args) w₂/\
     CallsIn (gr G.rd) (0-1) P f' args w₂ (rangePost (gr G.rd) 0 P W.heap.size (fun e a' w'=>∃ φ' m' σ',aV G φ' m' σ' a' w'/\K e σ') a'):=by
  intro W a' D iQ ay
  obtain⟨r,oE⟩:∃ r:Loop,r={ state:=.ready,pending:=none,fn,tmps:=a.tmps,params:=ps,assign:=asg,body,defers:=D }:=⟨_,rfl⟩
  rw[<-oE]
  have hx:=Ext.new (φ:=φ) tQ ⟨W.heap.size,0,0,false,none⟩ (.loop ((List.range σ.nt).map σ.env) ps.toList asg body .ready none)
  have fY:=iQ.chg (w':=W.alloc (.loop r)) nm (.loop ((List.range σ.nt).map σ.env) ps.toList asg body .ready none) ⟨W.heap.size,0,0,false,none⟩ hx ⟨rfl,rfl,rfl,by simp⟩
   (fun b hb _=>RowKit.Below.heap_alloc W _ b hb) (fun _=>.inl (Nat.le_refl _)) ⟨rfl,rfl,r,World.alloc_heap_new W _,by rw[oE],by rw[oE],by rw[oE],by rw[oE],by rw[oE],by
     rw[oE]
     show a.tmps.size=_
     rw[<-ay,iQ.size];simp,fun i hi=>by
     simp only[List.getElem_map,List.getElem_range]
     rw[oE]
     show cN _ _ m _ (a.tmps.getD i undef)
     rw[<-ay]
     exact(iQ.tmps i).ext (Mem.le_refl m) hx⟩
  rw[F9]at fY hx
  refine⟨{ target:=.fn (.func f) vs,args:=us++ #[.func (.yield W.heap.size) #[] #[]] },W.alloc (.loop r),f,us++ #[.func (.yield W.heap.size) #[] #[]]++vs,W.alloc (.loop r),?_,?_,?_⟩
  ·have hy:a.eval (.const (.func (.yield W.heap.size) #[] #[]))=.func (.yield W.heap.size) #[] #[]:=rfl
   simp[resolve,Deferred.ofValue,hu,hy]
  ·simp[invoke,(hΓ f s hs).enter aH]
  ·refine Qz ?_
   have qz:=(hΓ f s hs).calls aH G (upd φ nm ⟨W.heap.size,0,0,false,none⟩) m { σ with obj:=rD } a' (W.alloc (.loop r)) fY (k'::σ.pre) (fA (ax σ g) [.yld nm]) (us++ #[.func (.yield W.heap.size) #[] #[]]++vs) ⟨k',rfl⟩
   refine(qz ?_ ?_ ?_).mono ?_
   ·rw[qA];simp only[List.length_append,List.length_singleton,Array.size_append,e1,e2];rfl
   ·intro i h1 h2
    simp only[qA]
    have Bs:aI (upd φ nm ⟨W.heap.size,0,0,false,none⟩) rD m (.yld nm) (.func (.yield W.heap.size) #[] #[]):=by
     have :=aI.yld (φ:=upd φ nm ⟨W.heap.size,0,0,false,none⟩) (obj:=rD) (m:=m) nm ⟨_,by rw[<-F9,aX],rfl⟩
     rwa [aX]at this
    simp only[qA,List.length_append,List.length_singleton]at h1
    by_cases k1:i<fs.length
    ·have q1:i<us.size:=by omega
     simp only[List.append_assoc,Array.append_assoc]
     rw[List.getElem_append_left k1,Array.getElem_append_left q1]
     exact(dS i k1 q1).ext (Mem.le_refl m) hx
    ·by_cases k2:i=fs.length
     ·subst k2
      simp only[List.append_assoc,Array.append_assoc]
      rw[List.getElem_append_right (by omega),Array.getElem_append_right (by omega)]
      simp only[Nat.sub_self,e1,List.cons_append,List.getElem_cons_zero]
      rw[Array.getElem_append_left (by simp)]
      simpa using Bs
     ·rw[List.getElem_append_right (by simp;omega),Array.getElem_append_right (by simp;omega)]
      have :=(eH (i-(fs.length+1)) (by omega) (by omega)).ext (Mem.le_refl m) hx
      simp only[List.length_append,List.length_singleton,Array.size_append,<-e1]
      exact this
   ·show (s.app rD _ _).ok
    rw[hR];exact aa
   ·rintro e w3 ⟨v,φ',m',rfl,uA,_,hx3⟩
    have h9:s.app rD (k'::σ.pre) (fA (ax σ g) [.yld nm])=R:=hR
    have Qe:aV G φ' m' { σ with obj:=R.obj } a' w3:=by rw[<-h9];exact uA
    have aaq:Ext (upd φ nm ⟨W.heap.size,0,0,false,none⟩) φ' rD R.obj:=by rw[<-h9];exact hx3
    have aaX:rD nm=some (.loop ((List.range σ.nt).map σ.env) ps.toList asg body .ready none):=by rw[<-F9,aX]
    have Gm:φ' nm=⟨W.heap.size,0,0,false,none⟩:=by
     obtain⟨o',k1,k2⟩:=aaq nm _ aaX
     rcases k2 with⟨_,k2,_⟩ | ⟨n,n',k2,_⟩
     ·rw[k2,aX]
     ·cases k2
    unfold rM at hK
    have step:∀ {iU:List E} {iG:List Nat} {a1 b1:Code} {st:LoopState} {bS:Option Code},R.obj nm=some (.loop iU iG a1 b1 st bS)->st≠ .busy->
        ∃ w4,(Instr.endLoop W.heap.size).run P w3=.ok bS w4/\aV G φ' m' { σ with obj:=oa R.obj nm } a' w4:=by
     intro iU iG a1 b1 st bS ho dq
     obtain⟨q0,q1,r',q2,q3,q4,q5,q6,q7,q8,q9⟩:=Qe.objs nm _ ho
     rw[Gm]at q2
     have PH:(Instr.endLoop W.heap.size).run P w3=.ok bS (w3.putObj W.heap.size (.loop { r' with state:=.exhausted })):=by
      rw[run_endLoop (P:=P) q2 (by rw[q3];exact dq),q4]
     refine⟨_,PH,?_⟩
     have ae:=(Array.getElem?_eq_some_iff.1 q2).1
     have oC:oa R.obj nm=upd R.obj nm (some (.loop iU iG a1 b1 .exhausted bS)):=by unfold oa;rw[ho]
     rw[oC]
     have :=Qe.chg (w':=w3.putObj W.heap.size (.loop { r' with state:=.exhausted })) nm (.loop iU iG a1 b1 .exhausted bS) (φ' nm) (Ext.same ho rfl rfl) ⟨rfl,rfl,rfl,by simp⟩
      (fun b _ hb=>World.putObj_heap_other (by
        rcases hb with h | h
        ·rw[q1]at h;cases h
        ·rw[Gm]at h;exact h))
      (fun _=>.inr ⟨⟨_,ho,rfl,q1⟩,rfl⟩) (by
        rw[hM]
        refine⟨q0,q1,{ r' with state:=.exhausted },by rw[Gm];exact World.putObj_heap_same ae,rfl,q4,q5,q6,q7,q8,fun i hi=>(q9 i hi).ext (Mem.le_refl _) ?_⟩
        have :=Ext.same (φ:=φ') (o':=.loop iU iG a1 b1 .exhausted bS) ho rfl rfl
        rwa [hM]at this)
     rw[hM]at this
     exact this
    rcases ho:R.obj nm with _ | o
    ·rw[ho]at hK;exact hK.elim
    rw[ho]at hK
    cases o with
    |loop iU iG a1 b1 st bS=>
     have dq:st≠ .busy:=by rintro rfl;exact hK.elim
     obtain⟨w4,h1,h2⟩:=step ho dq
     refine⟨bS,w4,h1,?_⟩
     cases bS with
     |none=>
      refine⟨φ',m',_,h2,?_⟩
      cases st<;>first | exact hK | exact(dq rfl).elim
     |some c=>
      cases c with
      |ret=>exact wpIn_ret ⟨φ',m',_,h2,by cases st<;>first | exact hK | exact(dq rfl).elim⟩
      |exit id=>exact wpIn_exit ⟨φ',m',_,h2,by cases st<;>first | exact hK | exact(dq rfl).elim⟩
      |_=>exfalso;cases st<;>first | exact hK | exact(dq rfl).elim
    |_=>exact hK.elim
 cases oG:G.rd with
 |none=>
  obtain⟨d,vj,f',args,w₂,h1,h2,h3⟩:=main (w.alloc (.deferred (some []))) _ w.heap.size (acT hC) rfl
  rw[oG]at h3
  have ef:(w.alloc (.deferred (some []))).heap.size=w.heap.size+1:=by simp
  rw[ef]at h1 h3
  exact⟨w.heap.size+1,[{ target:=.collected w.heap.size,args:= #[] }],_,d,vj,f',args,w₂,run_enterLoop_outer _ _ _ _ _,h1,fun _ _=>trivial,h2,fun h=>(by simp[gr,Fence.wide]at h),h3⟩
 |some l=>
  obtain⟨iq,r0,OR⟩:=G.rdok l oG
  have aaL:w.heap[l]?=some (.loop r0):=(hC.fr.block l (Array.getElem?_eq_some_iff.1 OR).1 iq).trans OR
  obtain⟨d,vj,f',args,w₂,h1,h2,h3⟩:=main w a r0.defers hC rfl
  rw[oG]at h3
  exact⟨w.heap.size,[],_,d,vj,f',args,w₂,run_enterLoop_inner aaL _ _ _ _ _,h1,fun _ _=>trivial,h2,fun h=>(by simp[gr,Fence.wide]at h),h3⟩
theorem ac'{P:Program}{Γ:FuncId->Option Spec}(hΓ:∀ f s,Γ f=some s->aT P f s){g:Operand}{ps:Array Tmp}{asg body:Code}{σ:S}{r:List Code}{K:Exit->S->Prop}(k k':Nat){f:FuncId}{s:Spec}
 (hc:dh σ g=true) (eK:hJ (ax σ g)=some f) (aH:f≠yid) (hs:Γ f=some s) (tQ:σ.obj (k::σ.pre)=none)
 (aa:(s.app (upd σ.obj (k::σ.pre) (some (.loop ((List.range σ.nt).map σ.env) ps.toList asg body .ready none))) (k'::σ.pre) (fA (ax σ g) [.yld (k::σ.pre)])).ok)
 (hK:rM (kr (fun σ'=>CL P r σ' K) K) (s.app (upd σ.obj (k::σ.pre) (some (.loop ((List.range σ.nt).map σ.env) ps.toList asg body .ready none))) (k'::σ.pre) (fA (ax σ g) [.yld (k::σ.pre)])).obj (k::σ.pre)
   { σ with obj:=oa (s.app (upd σ.obj (k::σ.pre) (some (.loop ((List.range σ.nt).map σ.env) ps.toList asg body .ready none))) (k'::σ.pre) (fA (ax σ g) [.yld (k::σ.pre)])).obj (k::σ.pre) }):
 CL P (.rangeFunc g ps asg body::r) σ K:=Rc hΓ k k' hc eK aH hs tQ aa hK
theorem eN.refl(σ:S):eN σ σ:=fun _ φ _ _ _ hC=>⟨φ,hC⟩
theorem eN.trans{a b c:S}(h:eN a b)(k:eN b c):eN a c:=fun G φ m x w hC=>by
 obtain⟨φ',h'⟩:=h G φ m x w hC
 exact k G φ' m x w h'
theorem bh{σ τ:S}(ks:List Nat)(ns:List Name)(h:je ks ns σ)(he:jq ks ns σ=τ):eN σ τ:=he▸DD ks ns h
def pZ(l c:List (Nat×E)):List (Nat×E):=l.map fun q=>(q.1,(c.lookup q.1).getD q.2)
def pX(l c:List (Name×O)):List (Name×O):=l.map fun q=>(q.1,(c.lookup q.1).getD q.2)
theorem fz{P:Program}{c:Code}{r:List Code}{σ:S}{K:Exit->S->Prop}(ks:List Nat)(ns:List Name)(h:je ks ns σ)(hc:CL P (c::r) (jq ks ns σ) K):CL P (c::r) σ K:=
 w5 (DD ks ns h) hc
theorem cp{P:Program}{c:Code}{r:List Code}{K:Exit->S->Prop}{nt:Nat}{p:Name}{H:Name->Option O}{l:List (Nat×E)}{h:List (Name×O)}{ι:Type}
 (chg:ι->List (Nat×E)) (qb:ι->List (Name×O)) (R:ι->Prop) (μ:ι->Nat) (i0:ι) (hR:R i0) (he:pZ l (chg i0)=l) (ho:pX h (qb i0)=h)
 (round:∀ i,R i->CL P [c] (bu nt p H (pZ l (chg i)) (pX h (qb i))) (kr (fun σ'=>∃ i',R i'/\μ i'<μ i/\eN σ' (bu nt p H (pZ l (chg i')) (pX h (qb i')))) K)):
 CL P (.loop c::r) (bu nt p H l h) K:=by
 refine Ia (fun i=>bu nt p H (pZ l (chg i)) (pX h (qb i))) R μ i0 hR ?_ round
 rw[he,ho]
 exact .refl _
theorem Ry{P:Program}{c:Code}{r:List Code}{K:Exit->S->Prop}{nt:Nat}{p:Name}{H:Name->Option O}{l:List (Nat×E)}{h:List (Name×O)}{ι:Type}
 (Hc:ι->Name->Option O) (chg:ι->List (Nat×E)) (qb:ι->List (Name×O)) (R:ι->Prop) (μ:ι->Nat) (i0:ι) (hR:R i0) (hH:bu nt p (Hc i0) l h=bu nt p H l h) (he:pZ l (chg i0)=l) (ho:pX h (qb i0)=h)
 (round:∀ i,R i->CL P [c] (bu nt p (Hc i) (pZ l (chg i)) (pX h (qb i))) (kr (fun σ'=>∃ i',R i'/\μ i'<μ i/\eN σ' (bu nt p (Hc i') (pZ l (chg i')) (pX h (qb i')))) K)):
 CL P (.loop c::r) (bu nt p H l h) K:=by
 refine Ia (fun i=>bu nt p (Hc i) (pZ l (chg i)) (pX h (qb i))) R μ i0 hR ?_ round
 rw[he,ho,hH]
 exact .refl _
attribute [go_sem] pZ pX List.lookup_cons List.lookup_nil List.getElem?_toArray List.getElem?_cons_succ List.getElem?_cons_zero beq_true beq_false ite_self Bool.and_self Bool.or_self imp_self Bool.if_true_right Bool.if_false_right Bool.if_true_left Bool.if_false_left Bool.decide_eq_true
attribute [go_sem] xM gZ s8 xW distinct fG dC dz dt ba Bool.and_eq_true
def fU(a b:Nat):Bool:=Nat.ble a b
def iJ(a b:Nat):Bool:=Nat.ble (a+1) b
def dd(a b:Nat):Bool:=Nat.beq a b
def dY(a b:Int):Bool:=match b-a with
 | .ofNat _=>true
 | .negSucc _=>false
def lj(a b:Int):Bool:=match b-a-1 with
 | .ofNat _=>true
 | .negSucc _=>false
def vQ{α:Type}:Option α->Bool
 |none=>true
 |some _=>false
def qc:Option Nat->Nat->Bool
 |some a,b=>Nat.beq a b
 |none,_=>false
def xe(sz:Nat):List V->Bool
 |[]=>true
 |x::r=>Nat.beq x.cells.length sz&&xe sz r
def xf(sz:Nat):List V->Bool
 |[]=>true
 |x::r=>Nat.beq x.cells.length sz&&x.okc&&xf sz r
def yk(a b:IntKind):Bool:=match a,b with
 | .i64,.i64=>true
 | .u8,.u8=>true
 | .u64,.u64=>true
 | .i32,.i32=>true
 | .u32,.u32=>true
 |_,_=>false
def FB(P:Program)(T:TypeId):Bool:=match P.underlying T with
 |some .bool=>true
 |_=>false
def isEq:BinOp->Bool
 | .eql=>true
 | .neq=>true
 |_=>false
def ti:Int->Bool
 | .ofNat 0=>true
 |_=>false
theorem td{a b:Nat}(h:fU a b=true):a<=b:=Nat.le_of_ble_eq_true h
theorem A5{a b:Nat}(h:iJ a b=true):a<b:=Nat.le_of_ble_eq_true h
theorem ld{a b:Nat}(h:dd a b=true):a=b:=Nat.eq_of_beq_eq_true h
theorem il{a b:Int}(h:dY a b=true):a<=b:=by
 unfold dY at h
 split at h
 ·rename_i n hn
  have :(0:Int)<=b-a:=by rw[hn];exact Int.natCast_nonneg n
  omega
 ·cases h
theorem aal{a b:Int}(h:lj a b=true):a<b:=by
 unfold lj at h
 split at h
 ·rename_i n hn
  have :(0:Int)<=b-a-1:=by rw[hn];exact Int.natCast_nonneg n
  omega
 ·cases h
theorem A0{α:Type}{o:Option α}(h:vQ o=true):o=none:=by cases o<;>simp_all[vQ]
theorem rE{o:Option Nat}{b:Nat}(h:qc o b=true):o=some b:=by
 cases o with
 |none=>cases h
 |some a=>rw[Nat.eq_of_beq_eq_true h]
theorem Df{sz:Nat}:∀ {l:List V},xe sz l=true->∀ x∈l,x.cells.length=sz
 |y::r,h,x,hx=>by
  simp only[xe,Bool.and_eq_true]at h
  rcases List.mem_cons.1 hx with rfl | hx
  ·exact Nat.eq_of_beq_eq_true h.1
  ·exact Df h.2 x hx
theorem Dg{sz:Nat}:∀ {l:List V},xf sz l=true->∀ x∈l,x.cells.length=sz/\x.okc=true
 |y::r,h,x,hx=>by
  simp only[xf,Bool.and_eq_true]at h
  rcases List.mem_cons.1 hx with rfl | hx
  ·exact⟨Nat.eq_of_beq_eq_true h.1.1,h.1.2⟩
  ·exact Dg h.2 x hx
theorem N1{a b:IntKind}(h:yk a b=true):a=b:=by unfold yk at h;split at h<;>first | rfl | cases h
theorem Z'{P:Program}{T:TypeId}(h:FB P T=true):P.underlying T=some .bool:=by unfold FB at h;split at h<;>first | assumption | cases h
theorem Bl{op:BinOp}(h:isEq op=true):op=.eql\/op=.neq:=by cases op<;>first | exact .inl rfl | exact .inr rfl | cases h
theorem Z7{n:Int}(h:ti n=false):n≠0:=by rintro rfl;cases h
section
variable (P:Program) (obj:Name->Option O)
def zF(T:TypeId)(x:D):Bool:=
 match bf P T with
 |none=>false
 |some (ag,n)=>match x with
  | .v (.ptr cs)=>match ag with
    |true=>fU n cs.length
    |false=>dd n 1&&iJ 0 cs.length
  | .ref nm off=>match obj nm with
    |some (.box cs)=>match ag with
     |true=>fU (off+n) cs.length
     |false=>dd n 1&&iJ off cs.length
    |some (.fbox cs)=>match ag with
     |true=>fU (off+n) cs.length
     |false=>dd n 1&&iJ off cs.length
    |_=>false
  | .aref nm k i off=>match obj nm with
    |some (.arr _ l)=>dd k l.length&&iJ i l.length&&(match ag with
     |true=>fU (off+n) (l.getD i default).cells.length
     |false=>dd n 1&&iJ off (l.getD i default).cells.length)
    |some (.farr _ l)=>dd k l.length&&iJ i l.length&&(match ag with
     |true=>fU (off+n) (l.getD i default).cells.length
     |false=>dd n 1&&iJ off (l.getD i default).cells.length)
    |_=>false
  |_=>false
def C5(T:TypeId)(f:Nat)(x:D):Bool:=
 match b9 P T f with
 |none=>false
 |some (off,n,_)=>!dd n 0&&match x with
  | .v (.ptr cs)=>fU (off+n) cs.length
  | .ref _ _=>true
  | .aref nm k _ _=>match obj nm with
    |some o=>qc o.len? k
    |none=>false
  |_=>false
def C3(T:TypeId)(x i:D):Bool:=
 match i with
 | .v (.int _ n)=>match x with
   | .v (.sl l)=>match cC P T with
     |some (_,sz,_)=>dY 0 n&&lj n l.length&&dd (l.getD n.toNat default).cells.length sz
     |none=>false
   | .msl nm k=>match cC P T with
     |some (_,sz,_)=>match obj nm with
      |some (.arr s l)=>dY 0 n&&lj n l.length&&dd k l.length&&dd s sz
      |some (.farr s l)=>dY 0 n&&lj n l.length&&dd k l.length&&dd s sz
      |_=>false
     |none=>false
   | .ref _ _=>match ku P T with
     |some (len,_,_)=>dY 0 n&&lj n len
     |none=>false
   | .v (.ptr cs)=>match ku P T with
     |some (len,sz,_)=>dY 0 n&&lj n len&&fU (n.toNat*sz+sz) cs.length
     |none=>false
   |_=>false
 |_=>false
def R6(op:BinOp)(k k':IntKind)(b:Int):Bool:=
 match op with
 | .quo=>yk k k'&&!ti b
 | .rem=>yk k k'&&!ti b
 | .shl=>dY 0 b
 | .shr=>dY 0 b
 |_=>yk k k'
def RW(op:BinOp)(a b:ByteArray):Bool:=
 match op with
 | .add=>fU (a.size+b.size) maxLen
 | .eql | .neq | .lss | .leq | .gtr | .geq=>true
 |_=>false
def Iu(op:BinOp)(T:TypeId)(x y:D):Bool:=
 match x,y with
 | .v (.int k _),.v (.int k' b)=>R6 op k k' b
 | .v (.str a),.v (.str b)=>RW op a b
 | .v (.bool _),.v (.bool _)=>FB P T&&isEq op
 |_,_=>false
def Iq(op:BinOp)(T:TypeId)(x y:V):Bool:=
 match jD P Op.maxDepth T x y with
 |some _=>!(P.eqGuardType P.depth T)&&isEq op
 |none=>false
def Io(op:BinOp)(T:TypeId)(x:D):Bool:=
 match x with
 | .v (.sl (_::_))=>qc (dM P T) 0&&isEq op
 | .msl nm (k+1)=>(match obj nm with | some o=>qc o.len? (k+1) | none=>false)&&qc (dM P T) 0&&isEq op
 |_=>false
def C'(op:BinOp)(T:TypeId)(x y:D)(l4:Bool):Bool:=
 match l4 with
 |true=>Io P obj op T x
 |false=>match eX x,eX y with
  |some (.agg a),some (.agg b)=>Iq P op T (.agg a) (.agg b)
  |_,_=>Iu P op T x y
def CR(op:UnOp)(x:D):Bool:=
 match op,x with
 | .not,.v (.bool _)=>true
 | .neg,.v (.int _ _)=>true
 |_,_=>false
def C8(src dst:TypeId)(x:D):Bool:=
 match n9 P dst,x with
 |some _,.v (.int _ _)=>(P.underlying src).isSome
 |_,_=>false
def C7(x:D)(i:Nat):Bool:=
 match x with
 | .tup l=>iJ i l.length
 | .v (.tup l)=>iJ i l.length
 |_=>false
def CV(x:D):Bool:=
 match x with
 | .ref _ _=>true
 | .v (.ptr _)=>true
 | .aref nm k _ _=>match obj nm with
   |some o=>qc o.len? k
   |none=>false
 |_=>false
def zH(t:Name)(x:D):Bool:=vQ (obj (bj t))&&x.boxable
def Db(t:Name)(T:TypeId):Bool:=match bp P T with
 |some z=>zH obj t (jV z)
 |none=>false
def C9(T:TypeId)(parts:List (Nat×D)):Bool:=
 match iZ P T,bp P T with
 |some ps,some z=>match jV z with
  | .agg cs=>match uF (fun i=>ps[i]?) cs parts with
    |some _=>true
    |none=>false
  |_=>false
 |_,_=>false
def CS(T:TypeId)(x d:D):Bool:=
 match bf P T with
 |none=>false
 |some (_,n)=>match x with
  | .ref nm off=>match obj nm with
    |some (.box cs)=>d.boxable&&dd d.cells.length n&&fU (off+n) cs.length
    |_=>false
  | .aref nm k i off=>match obj nm with
    |some (.arr sz l)=>match eX d with
     |some y=>dd k l.length&&iJ i l.length&&dd y.cells.length n&&y.okc&&fU (off+n) sz&&!dd sz 0
     |none=>false
    |_=>false
  |_=>false
def CZ(t:Name)(T:TypeId)(r:Option D):Bool:=
 match kW P T,r with
 |some _,none=>vQ (obj (bj t))
 |_,_=>false
def CY(t:Name)(T:TypeId)(l c:D):Bool:=
 match cC P T,l,c with
 |some (e,sz,by_),.v (.int _ n),.v (.int _ n')=>match (bp P e).bind fun z=>eX (jV z)with
  |some zv=>dY n n'&&dY n' n&&dY 0 n&&dY ((by_:Int)*n) 281474976710656&&dY n 9223372036854775807&&dd zv.cells.length sz&&zv.okc&&!dd sz 0&&vQ (obj (bj t))
  |none=>false
 |_,_,_=>false
def C1(T:TypeId)(x:D):Bool:=
 match dM P T,x with
 |some 0,.v (.sl _)=>true
 |some 0,.nilsl=>true
 |some 0,.msl nm k=>match obj nm with
  |some o=>qc o.len? k
  |none=>false
 |some 1,.v (.str _)=>true
 |some 2,.nilmap=>true
 |some 2,.map nm=>match obj nm with
  |some (.map _ _)=>true
  |_=>false
 |_,_=>false
def CT(T:TypeId)(x:D)(lo hi mx:Option D):Bool:=
 match mx with
 |none=>match x with
  | .v (.sl l)=>match cC P T,ie lo,lB l.length hi with
    |some (_,sz,_),some i,some j=>dY 0 i&&dY i j&&dY j l.length&&xe sz l
    |_,_,_=>false
  | .nilsl=>match cC P T,ie lo,lB 0 hi with
    |some (_,_,_),some i,some j=>ti i&&ti j
    |_,_,_=>false
  | .msl nm k=>match obj nm,cC P T,ie lo,lB k hi with
    |some (.arr _ l),some (_,sz,_),some i,some j=>dd k l.length&&dY 0 i&&dY i j&&dY j l.length&&xe sz l
    |some (.farr _ l),some (_,sz,_),some i,some j=>dd k l.length&&dY 0 i&&dY i j&&dY j l.length&&xe sz l
    |_,_,_,_=>false
  | .v (.str s)=>match dM P T,ie lo,lB s.size hi with
    |some 1,some i,some j=>dY 0 i&&dY i j&&dY j s.size
    |_,_,_=>false
  |_=>false
 |some (.v (.int _ 0))=>match cC P T,ie lo,hi with
  |some _,some 0,some (.v (.int _ 0))=>match x with
   | .v (.sl _)=>true
   | .nilsl=>true
   | .msl nm k=>match obj nm with
     |some o=>qc o.len? k
     |none=>false
   |_=>false
  |_,_,_=>false
 |some _=>false
def C6(T:TypeId)(x:D)(f:Nat):Bool:=
 match b9 P T f with
 |none=>false
 |some (off,n,ag)=>match x with
  | .agg l=>match ag with
    |true=>fU (off+n) l.length
    |false=>iJ off l.length
  | .v (.agg l)=>match ag with
    |true=>fU (off+n) l.length
    |false=>iJ off l.length
  |_=>false
def C4(T:TypeId)(x i:D):Bool:=
 match i with
 | .v (.int _ n)=>match x with
   | .v (.str s)=>qc (dM P T) 1&&dY 0 n&&lj n s.size
   | .agg l=>match ku P T with
     |some (len,sz,true)=>dY 0 n&&lj n len&&fU (n.toNat*sz+sz) l.length
     |some (len,sz,false)=>dY 0 n&&lj n len&&iJ (n.toNat*sz) l.length
     |none=>false
   | .v (.agg l)=>match ku P T with
     |some (len,sz,true)=>dY 0 n&&lj n len&&fU (n.toNat*sz+sz) l.length
     |some (len,sz,false)=>dY 0 n&&lj n len&&iJ (n.toNat*sz) l.length
     |none=>false
   |_=>false
 |_=>false
def C0(T:TypeId)(x k:D):Bool:=
 match kW P T with
 |some (kd,e)=>match (bp P e).bind fun z=>eX (jV z),eX k with
  |some _,some kv=>match x with
   | .nilmap=>fU kd 2&&eT kd kv
   | .map nm=>match obj nm with
     |some (.map lh _)=>fU kd 2&&eT kd kv&&dd lh kd
     |_=>false
   |_=>false
  |_,_=>false
 |none=>false
def zE(T:TypeId)(x k d:D):Bool:=
 match kW P T,x,eX k,eX d with
 |some (kd,_),.map nm,some kv,some _=>match obj nm with
  |some (.map lh _)=>fU kd 2&&eT kd kv&&dd lh kd
  |_=>false
 |_,_,_,_=>false
def CU(c:D):Bool:=match c with
 | .v (.bool _)=>true
 |_=>false
def zD(x:D):Bool:=match x with
 | .v (.sl _)=>true
 | .nilsl=>true
 | .msl nm k=>match obj nm with
   |some (.arr _ l)=>dd k l.length
   |some (.farr _ l)=>dd k l.length
   |_=>false
 |_=>false
def Da(t:Name)(T1 T2:TypeId)(s x:D):Bool:=
 match cC P T1,cC P T2 with
 |some (e,sz,by_),some _=>match bp P e with
  |some z=>match s with
   | .nilsl=>zD obj x&&xf sz (aO obj x).2&&dd z.cells.size sz&&fU ((aO obj x).2.length*by_) 140737488355328&&fU (aO obj x).2.length maxLen&&vQ (obj (bj t))
   | .msl nm k=>match obj nm with
     |some (.arr s' l)=>zD obj x&&xf sz (aO obj x).2&&dd z.cells.size sz&&fU ((l.length+(aO obj x).2.length)*by_) 140737488355328&&
        fU (l.length+(aO obj x).2.length) maxLen&&dd k l.length&&dd s' sz
     |_=>false
   |_=>false
  |none=>false
 |_,_=>false
variable {P obj}
theorem rH{a b:Nat}:fU a b=true↔a<=b:=⟨td,Nat.ble_eq_true_of_le⟩
theorem xZ{a b:Nat}:iJ a b=true↔a<b:=⟨A5,Nat.ble_eq_true_of_le⟩
theorem rI{a b:Nat}:dd a b=true↔a=b:=⟨ld,fun h=>by subst h;simp[dd]⟩
theorem A6{a b:Nat}:dd a b=false↔a≠b:=by
 rw[<-Bool.not_eq_true,rI]
theorem Ou{a b:Int}:dY a b=true↔a<=b:=⟨il,fun h=>by
 unfold dY
 split
 ·rfl
 ·rename_i n hn;have:=Int.negSucc_lt_zero n;omega⟩
theorem Ot{a b:Int}:lj a b=true↔a<b:=⟨aal,fun h=>by
 unfold lj
 split
 ·rfl
 ·rename_i n hn;have:=Int.negSucc_lt_zero n;omega⟩
theorem Oe{n:Int}:ti n=true↔n=0:=⟨fun h=>(by unfold ti at h;split at h<;>first | rfl | cases h),fun h=>(by subst h;rfl)⟩
theorem Ip{T:TypeId}{x:D}(h:zF P obj T x=true):(km P obj T x).ok:=by
 unfold zF at h
 unfold km
 (repeat' split at h)<;>simp_all[rH,xZ,rI,-List.getD_eq_getElem?_getD]
theorem Sa{T:TypeId}{f:Nat}{x:D}(h:C5 P obj T f x=true):(mH P obj T f x).ok:=by
 unfold C5 at h
 unfold mH
 split at h
 ·cases h
 ·simp only[Bool.and_eq_true,Bool.not_eq_true',A6]at h
  obtain⟨h1,h⟩:=h
  (repeat' split at h)<;>simp_all[rH]
  exact rE h
theorem R9{T:TypeId}{x i:D}(h:C3 P obj T x i=true):(mG P obj T x i).ok:=by
 unfold C3 at h
 unfold mG
 (repeat' split at h)<;>simp_all[rH,rI,Ou,Ot,-List.getD_eq_getElem?_getD]
theorem adC{op:BinOp}{T:TypeId}{x y:D}(h:Iu P op T x y=true):(o5 P obj op T x y).ok:=by
 unfold Iu at h
 unfold o5
 split at h
 ·simp only
  unfold R6 at h
  unfold C2
  cases op<;>simp only[Bool.and_eq_true,Bool.not_eq_true']at h |- <;>first
   |exact⟨N1 h.1,Z7 h.2⟩
   |exact N1 h
   |exact il h
 ·simp only
  unfold RW at h
  unfold zC
  cases op<;>simp only at h |- <;>first | exact td h | trivial | (cases h;done)
 ·simp only[Bool.and_eq_true]at h
  exact⟨Z' h.1,Bl h.2⟩
 ·cases h
theorem ady{op:BinOp}{T:TypeId}{x y:V}(h:Iq P op T x y=true):(ko P obj op T x y).ok:=by
 unfold Iq at h
 unfold ko
 split at h
 ·rename_i b hb
  simp only[Bool.and_eq_true,Bool.not_eq_true']at h
  rw[hb]
  exact⟨h.1,Bl h.2⟩
 ·cases h
theorem adx{op:BinOp}{T:TypeId}{x:D}(h:Io P obj op T x=true):(qU P obj op T x).ok:=by
 unfold Io at h
 unfold qU
 split at h
 ·simp only[Bool.and_eq_true]at h
  exact⟨rE h.1,Bl h.2⟩
 ·rename_i nm k
  simp only[Bool.and_eq_true]at h
  refine⟨?_,rE h.1.2,Bl h.2⟩
  have h1:=h.1.1
  split at h1
  ·rename_i o ho;rw[ho];exact rE h1
  ·cases h1
 ·cases h
theorem Sf{op:BinOp}{T:TypeId}{x y:D}{n:Bool}(h:C' P obj op T x y n=true):(nQ P obj op T x y n).ok:=by
 unfold C' at h
 unfold nQ
 cases n with
 |true=>exact adx h
 |false=>
  simp only at h |-
  split at h
  ·rename_i h1 h2
   simp only[h1,h2]
   exact ady h
  ·rename_i aH
   split
   ·rename_i h1 h2;exact(aH _ _ h1 h2).elim
   ·exact adC h
theorem RU{op:UnOp}{x:D}(h:CR op x=true):(nH obj op x).ok:=by
 unfold CR at h
 unfold nH
 split at h<;>first | trivial | cases h
theorem Sd{s d:TypeId}{x:D}(h:C8 P s d x=true):(nM P obj s d x).ok:=by
 unfold C8 at h
 unfold nM
 (repeat' split at h)<;>simp_all
theorem Sb{x:D}{i:Nat}(h:C7 x i=true):(nL obj x i).ok:=by
 unfold C7 at h
 unfold nL
 split at h<;>simp_all[xZ]
theorem R0{x:D}(h:CV obj x=true):(lP obj x).ok:=by
 unfold CV at h
 unfold lP
 (repeat' split at h)<;>simp_all
 exact rE h
theorem It{t:Name}{x:D}(h:zH obj t x=true):(nP obj t x).ok:=by
 simp only[zH,Bool.and_eq_true]at h
 exact⟨A0 h.1,h.2⟩
theorem Sh{t:Name}{T:TypeId}(h:Db P obj t T=true):(o6 P obj t T).ok:=by
 unfold Db at h
 unfold o6
 split at h
 ·rename_i z hz;rw[hz];exact It h
 ·cases h
theorem Se{T:TypeId}{ps:List (Nat×D)}(h:C9 P T ps=true):(nO P obj T ps).ok:=by
 unfold C9 at h
 unfold nO
 (repeat' split at h)<;>simp_all
theorem RX{T:TypeId}{x d:D}(h:CS P obj T x d=true):(lO P obj T x d).ok:=by
 unfold CS at h
 unfold lO
 (repeat' split at h)<;>simp_all[rH,xZ,rI,A6]
theorem R2{t:Name}{T:TypeId}{r:Option D}(h:CZ P obj t T r=true):(o4 P obj t T r).ok:=by
 unfold CZ at h
 unfold o4
 (repeat' split at h)<;>simp_all
 exact A0 h
theorem R1{t:Name}{T:TypeId}{l c:D}(h:CY P obj t T l c=true):(o3 P obj t T l c).ok:=by
 unfold CY at h
 unfold o3
 split at h
 ·rename_i e sz by_ k n k' n' hT
  rw[hT]
  simp only
  split at h
  ·rename_i zv hz
   simp only[Bool.and_eq_true,Bool.not_eq_true',A6]at h
   obtain⟨⟨⟨⟨⟨⟨⟨⟨h1,h2⟩,h3⟩,h4⟩,h5⟩,h6⟩,h7⟩,h8⟩,h9⟩:=h
   rw[hz]
   exact⟨Int.le_antisymm (il h2) (il h1),il h3,il h4,il h5,ld h6,h7,h8,A0 h9⟩
  ·cases h
 ·cases h
theorem R4{T:TypeId}{x:D}(h:C1 P obj T x=true):(lQ P obj T x).ok:=by
 unfold C1 at h
 unfold lQ
 (repeat' split at h)<;>simp_all
 exact rE h
theorem RY{T:TypeId}{x:D}{lo hi mx:Option D}(h:CT P obj T x lo hi mx=true):(kS P obj T x lo hi mx).ok:=by
 unfold CT at h
 unfold kS
 split at h
 ·split at h
  ·split at h
   ·rename_i h1 h2 h3
    simp only[Bool.and_eq_true]at h
    simp only[h1,h2,h3]
    exact⟨il h.1.1.1,il h.1.1.2,il h.1.2,Df h.2⟩
   ·cases h
  ·split at h
   ·rename_i h1 h2 h3
    simp only[Bool.and_eq_true]at h
    simp only[h1,h2,h3]
    exact⟨Oe.1 h.1,Oe.1 h.2⟩
   ·cases h
  ·split at h
   ·rename_i h1 h2 h3 h4
    simp only[Bool.and_eq_true]at h
    simp only[h1,h2,h3,h4]
    exact⟨ld h.1.1.1.1,il h.1.1.1.2,il h.1.1.2,il h.1.2,Df h.2⟩
   ·rename_i h1 h2 h3 h4
    simp only[Bool.and_eq_true]at h
    simp only[h1,h2,h3,h4]
    exact⟨ld h.1.1.1.1,il h.1.1.1.2,il h.1.1.2,il h.1.2,Df h.2⟩
   ·cases h
  ·split at h
   ·rename_i h1 h2 h3
    simp only[Bool.and_eq_true]at h
    simp only[h1,h2,h3]
    exact⟨il h.1.1,il h.1.2,il h.2⟩
   ·cases h
  ·cases h
 ·split at h
  ·rename_i h1 h2 h3
   split at h
   ·simp only[h2,h3]
   ·simp only[h2,h3]
   ·split at h
    ·rename_i o ho
     simp only[h2,h3,ho]
     exact rE h
    ·cases h
   ·cases h
  ·cases h
 ·cases h
theorem R'{T:TypeId}{x:D}{f:Nat}(h:C6 P T x f=true):(nK P obj T x f).ok:=by
 unfold C6 at h
 unfold nK
 (repeat' split at h)<;>simp_all[rH,xZ]
theorem R8{T:TypeId}{x i:D}(h:C4 P T x i=true):(nJ P obj T x i).ok:=by
 unfold C4 at h
 unfold nJ
 (repeat' split at h)<;>simp_all[rH,xZ,Ou,Ot]
 exact rE h.1.1
theorem R3{T:TypeId}{x k:D}{c:Bool}(h:C0 P obj T x k=true):(nI P obj T x k c).ok:=by
 unfold C0 at h
 unfold nI
 (repeat' split at h)<;>simp_all[rH,rI]
theorem CX{T:TypeId}{x k d:D}(h:zE P obj T x k d=true):(kT P obj T x k d).ok:=by
 unfold zE at h
 unfold kT
 (repeat' split at h)<;>simp_all[rH,rI]
theorem RZ{c x y:D}(h:CU c=true):(kj obj c x y).ok:=by
 unfold CU at h
 unfold kj
 split at h<;>first | trivial | cases h
theorem Im{x:D}(h:zD obj x=true):(aO obj x).1:=by
 unfold zD at h
 unfold aO
 (repeat' split at h)<;>simp_all[rI]
theorem Sg{t:Name}{T1 T2:TypeId}{s x:D}(h:Da P obj t T1 T2 s x=true):(dm P obj t T1 T2 s x).ok:=by
 unfold Da at h
 unfold dm
 split at h
 ·rename_i e sz by_ p h1 h2
  split at h
  ·rename_i z hz
   split at h
   ·simp only[Bool.and_eq_true]at h
    simp only[h1,h2,hz]
    exact⟨Im h.1.1.1.1.1,Dg h.1.1.1.1.2,ld h.1.1.1.2,td h.1.1.2,td h.1.2,A0 h.2⟩
   ·split at h
    ·rename_i ho
     simp only[Bool.and_eq_true]at h
     simp only[h1,h2,hz,ho]
     exact⟨Im h.1.1.1.1.1.1,Dg h.1.1.1.1.1.2,ld h.1.1.1.1.2,td h.1.1.1.2,td h.1.1.2,ld h.1.2,ld h.2⟩
    ·cases h
   ·cases h
  ·cases h
 ·cases h
end
def qG(f:(Name->Option O)->D->Bool)(g:(Name->Option O)->D->FR)(obj:Name->Option O):List D->Bool
 |[]=>true
 |d::r=>f obj d&&qG f g (g obj d).obj r
def lG:Nat->(Name->Option O)->D->Bool
 | 0,obj,d=>match d with
   | .v _=>true
   | .nilsl=>true
   |_=>false
 |n+1,obj,d=>match d with
  | .v _=>true
  | .nilsl=>true
  | .msl nm k=>match obj nm with
    |some (.arr _ l)=>decide (k=l.length)
    |some (.farr _ l)=>decide (k=l.length)
    |_=>false
  | .ref nm _=>match obj nm with
    |some (.box cs)=>qG (lG n) (aQ n) obj cs&&!dj (fg (fp n obj) cs) nm
    |some (.fbox _)=>true
    |_=>false
  | .agg l=>qG (lG n) (aQ n) obj l
  | .tup l=>qG (lG n) (aQ n) obj l
  | .clo _ f c=>qG (lG n) (aQ n) obj f&&qG (lG n) (aQ n) (bD (aQ n) obj f).obj c
  |_=>false
theorem Hn{n:Nat}(ih:∀ obj d,lG n obj d=true->(aQ n obj d).ok):∀ (l:List D) (obj:Name->Option O),qG (lG n) (aQ n) obj l=true->(bD (aQ n) obj l).ok
 |[],_,_=>trivial
 |d::r,obj,h=>by
  simp only[qG,Bool.and_eq_true]at h
  exact⟨ih obj d h.1,Hn ih r _ h.2⟩
theorem Qj:∀ (n:Nat) (obj:Name->Option O) (d:D),lG n obj d=true->(aQ n obj d).ok
 | 0,obj,d,h=>by cases d<;>first | trivial | (simp[lG]at h)
 |n+1,obj,d,h=>by
  have ih:=Hn (Qj n)
  cases d with
  |v x=>trivial
  |nilsl=>trivial
  |msl nm k=>
   simp only[lG]at h
   unfold aQ
   rcases ho:obj nm with _ | o
   ·simp[ho]at h
   ·cases o<;>simp[ho]at h |- <;>exact h
  |ref nm off=>
   simp only[lG]at h
   rcases ho:obj nm with _ | o
   ·simp[ho]at h
   ·cases o with
    |box cs=>
     simp only[ho,Bool.and_eq_true,Bool.not_eq_true']at h
     simp only[aQ,ho]
     refine⟨ih cs obj h.1,?_⟩
     have :=(zn (Ck n) cs obj obj (fg (fp n obj) cs) (fun _ hn=>hn) (fun _ _=>rfl)).2.frame nm (fun hn=>by rw[ig.2 hn]at h;cases h.2)
     rw[this,ho]
    |fbox cs=>simp only[aQ,ho]
    |_=>simp[ho]at h
  |agg l=>exact ih l obj h
  |tup l=>exact ih l obj h
  |clo fn f c=>
   simp only[lG,Bool.and_eq_true]at h
   exact⟨ih f obj h.1,ih c _ h.2⟩
  |_=>simp[lG]at h
def isNil{α:Type}:List α->Bool
 |[]=>true
 |_=>false
theorem Z8{α:Type}{l:List α}:isNil l=true↔l=[]:=by cases l<;>simp[isNil]
def Bi:Nat->List Nat->Bool
 |_,[]=>true
 |k,x::r=>dd x k&&Bi (k+1) r
theorem Of:∀ {k:Nat} {l:List Nat},Bi k l=true->l=List.range' k l.length
 |k,[],_=>rfl
 |k,x::r,h=>by
  simp only[Bi,Bool.and_eq_true]at h
  rw[ld h.1,List.length_cons,List.range'_succ]
  congr 1
  exact Of h.2
def Ih(P:Program)(obj:Name->Option O)(T:TypeId)(n:Nat)(parts:List (Nat×D)):Bool:=
 match cC P T with
 |some (e,sz,_)=>match dd n 0&&isNil parts with
  |true=>(bp P e).isSome
  |false=>qG (lG 4) (aQ 4) obj (parts.map fun p=>p.2)&&Bi 0 (parts.map fun p=>p.1)&&dd parts.length n&&xf sz (bD (aQ 4) obj (parts.map fun p=>p.2)).xs&&
     fU (n*sz) 16777216&&!dd sz 0&&(bp P e).isSome&&iJ 0 n
 |none=>false
theorem adn{P:Program}{obj:Name->Option O}{T:TypeId}{n:Nat}{parts:List (Nat×D)}(h:Ih P obj T n parts=true):(pO P obj T n parts).ok:=by
 unfold Ih at h
 unfold pO
 split at h
 ·rename_i e sz by_ hT
  rw[hT]
  simp only
  split at h
  ·rename_i hc
   simp only[Bool.and_eq_true,rI,Z8]at hc
   rw[if_pos hc];exact h
  ·rename_i hc
   have iN:¬ (n=0/\parts=[]):=by
    intro ⟨a,b⟩
    subst a;subst b
    cases hc
   rw[if_neg iN]
   simp only[Bool.and_eq_true,Bool.not_eq_true',A6]at h
   obtain⟨⟨⟨⟨⟨⟨⟨h1,h2⟩,qE⟩,h3⟩,h4⟩,h5⟩,h6⟩,h7⟩:=h
   refine⟨?_,Hn (Qj 4) _ _ h1,Dg h3,td h4,h5,h6,A5 h7⟩
   have :=Of h2
   rw[List.length_map,ld qE,<-List.range_eq_range']at this
   exact this
 ·cases h
def Ig(P:Program)(σ:S)(t:Name)(b:Builtin)(ts:List TypeId)(args:List D):Bool:=
 match b,ts,args with
 | .len,[T],[x]=>C1 P σ.obj T x
 | .append,[T1,T2],[s,x]=>Da P σ.obj t T1 T2 s x
 | .min,_,[.v (.int _ _),.v (.int _ _)]=>true
 | .max,_,[.v (.int _ _),.v (.int _ _)]=>true
 |_,_,_=>false
def Lk(P:Program)(σ:S)(t:Name):Op->Bool
 | .move _=>true
 | .assign _=>true
 | .pick c _ _=>CU (ax σ c)
 | .alloc T=>Db P σ.obj t T
 | .box _ x=>zH σ.obj t (ax σ x)
 | .build T ps=>C9 P T (ps.toList.map fun p=>(p.1,ax σ p.2))
 | .buildSlice T n ps=>Ih P σ.obj T n (ps.toList.map fun p=>(p.1,ax σ p.2))
 | .load T x=>zF P σ.obj T (ax σ x)
 | .store T x d=>CS P σ.obj T (ax σ x) (ax σ d)
 | .nilCheck x=>CV σ.obj (ax σ x)
 | .binOp op T x y _=>C' P σ.obj op T (ax σ x) (ax σ y) (Bj y)
 | .unOp op _ x=>CR op (ax σ x)
 | .convert s d x=>C8 P s d (ax σ x)
 | .makeFunc _ _ _=>true
 | .makeMap T r=>CZ P σ.obj t T (r.map (ax σ))
 | .makeSlice T l c=>CY P σ.obj t T (ax σ l) (ax σ c)
 | .slice T x lo hi mx=>CT P σ.obj T (ax σ x) (lo.map (ax σ)) (hi.map (ax σ)) (mx.map (ax σ))
 | .fieldAddr T x f=>C5 P σ.obj T f (ax σ x)
 | .field T x f=>C6 P T (ax σ x) f
 | .indexAddr T x i=>C3 P σ.obj T (ax σ x) (ax σ i)
 | .index T x i=>C4 P T (ax σ x) (ax σ i)
 | .lookup T x i _=>C0 P σ.obj T (ax σ x) (ax σ i)
 | .mapUpdate T x k d=>zE P σ.obj T (ax σ x) (ax σ k) (ax σ d)
 | .insert T x k d=>zE P σ.obj T (ax σ x) (ax σ k) (ax σ d)
 | .extract x i=>C7 (ax σ x) i
 | .call ⟨.builtin b,args,ts⟩=>Ig P σ t b ts.toList (args.toList.map (ax σ))
 |_=>false
theorem adm{P:Program}{σ:S}{t:Name}{b:Builtin}{ts:List TypeId}{args:List D}(h:Ig P σ t b ts args=true):(nN P σ t b ts args).ok:=by
 unfold Ig at h
 split at h
 ·exact R4 h
 ·exact Sg h
 ·trivial
 ·trivial
 ·cases h
theorem WQ{P:Program}{Γ:FuncId->Option Spec}{σ:S}{t:Name}{op:Op}(h:Lk P σ t op=true):(bn P Γ σ t op).ok:=by
 cases op with
 |call c=>
  obtain⟨callee,args,ts⟩:=c
  cases callee with
  |value f=>cases h
  |builtin b=>exact adm h
  |invoke=>cases h
 |move=>trivial
 |assign=>trivial
 |makeFunc=>trivial
 |pick=>exact RZ h
 |alloc=>exact Sh h
 |box=>exact It h
 |build=>exact Se h
 |buildSlice=>exact adn h
 |load=>exact Ip h
 |store=>exact RX h
 |nilCheck=>exact R0 h
 |binOp=>exact Sf h
 |unOp=>exact RU h
 |convert=>exact Sd h
 |makeMap=>exact R2 h
 |makeSlice=>exact R1 h
 |slice=>exact RY h
 |fieldAddr=>exact Sa h
 |field=>exact R' h
 |indexAddr=>exact R9 h
 |index=>exact R8 h
 |lookup=>exact R3 h
 |mapUpdate=>exact CX h
 |insert=>exact CX h
 |extract=>exact Sb h
 |_=>cases h
def Bn(o:Oper):Option (TypeId×Operand×Operand×Nat):=
 match o.op with
 | .slice T x (some lo) none none=>match o.guard,o.dst with
   |none,some c=>some (T,x,lo,c)
   |_,_=>none
 |_=>none
def Bm(c:Nat)(o:Oper):Bool:=
 match o.op with
 | .call ⟨.builtin .clear,args,ts⟩=>match args.toList,ts.toList,o.guard,o.dst with
   |[.tmp c'],[_],none,none=>Nat.beq c' c
   |_,_,_,_=>false
 |_=>false
def oX(o:Oper):TypeId:=match o.op with
 | .call ⟨.builtin .clear,_,ts⟩=>ts.getD 0 0
 |_=>0
def mI(P:Program)(obj:Name->Option O)(T T2:TypeId)(x lo:D):R:=
 match x,lo,cC P T,cC P T2 with
 | .msl nm k,.v (.int _ i),some (e,sz,_),some (e2,_,_)=>match obj nm,(bp P e).bind fun z=>eX (jV z)with
   |some (.arr s l),some zv=>⟨k=l.length/\0<=i/\i.toNat<l.length/\s=sz/\zv.cells.length=sz/\zv.okc=true/\e2=e/\0<sz,.any,upd obj nm (some (.arr sz (l.take i.toNat++List.replicate (l.length-i.toNat) zv)))⟩
   |_,_=>.bad obj
 |_,_,_,_=>.bad obj
def sv(P:Program)(σ:S)(T:TypeId)(x lo:Operand)(c:Nat)(o2:Oper):S:=
 { σ with env:=upd σ.env c ⟨true,.any⟩,obj:=(mI P σ.obj T (oX o2) (ax σ x) (ax σ lo)).obj }
inductive nU (P:Program) (Γ:FuncId->Option Spec) (ops:Array Oper):List Oper->S->(S->Prop)->Prop
 |nil {σ:S} {K:S->Prop}:K σ->nU P Γ ops [] σ K
 |step {o:Oper} {r:List Oper} {σ:S} {K:S->Prop}:lZ P Γ ops σ o->nU P Γ ops r (bz P Γ ops σ o) K->nU P Γ ops (o::r) σ K
 |cut {o o2:Oper} {r:List Oper} {σ:S} {K:S->Prop} {T:TypeId} {x lo:Operand} {c:Nat}:Bn o=some (T,x,lo,c)->Bm c o2=true->c<σ.nt->dh σ x=true->dh σ lo=true->
    (mI P σ.obj T (oX o2) (ax σ x) (ax σ lo)).ok->nU P Γ ops r (sv P σ T x lo c o2) K->nU P Γ ops (o::o2::r) σ K
theorem Ks{m:Mem}{zv:V}{z:Value}{sz:Nat}(h:aU m zv z)(hs:zv.cells.length=sz)(cQ:0<sz)(n k:Nat)(hk:k<n*sz):
 (Builtin.zeroCells z.cells n)[k]?=z.cells[k % sz]?:=by
 have hz:z.cells.size=sz:=by rw[<-h.cells];exact hs
 have hm:=Nat.mod_lt k cQ
 unfold Builtin.zeroCells
 rw[hz]
 simp only[Array.getElem?_map,Array.getElem?_range,hk,if_true,Option.map_some]
 rw[Array.getElem?_eq_getElem (by omega),getElem!_pos z.cells (k % sz) (by omega)]
theorem H4{l:List V}{zv:V}{i q:Nat}(hi:i<=l.length)(hq:q<(l.take i++List.replicate (l.length-i) zv).length):
 (q<i/\∃ h:q<l.length,(l.take i++List.replicate (l.length-i) zv)[q]=l[q])\/(i<=q/\q<l.length/\(l.take i++List.replicate (l.length-i) zv)[q]=zv):=by
 have hlen:(l.take i).length=i:=by simp;omega
 have bI:=hq
 simp only[List.length_append,List.length_replicate,hlen]at bI
 by_cases h1:q<i
 ·refine .inl ⟨h1,by omega,?_⟩
  rw[List.getElem_append_left (by omega),List.getElem_take]
 ·refine .inr ⟨by omega,by omega,?_⟩
  rw[List.getElem_append_right (by omega),List.getElem_replicate]
theorem LN{K a b:Nat}(h:a<b):a*K+K<=b*K:=by
 have :=Nat.mul_le_mul_right K (show a+1<=b by omega)
 rwa [Nat.add_mul,Nat.one_mul]at this
set_option maxHeartbeats 1000000 in
theorem acP{P:Program}{G:Ghost}{φ:Name->Loc}{m:Mem}{σ:S}{a:Act}{w:World}(hC:aV G φ m σ a w)
 {ops:Array Oper} {i:Nat} {o o2:Oper} (hi:ops[i]?=some o) (j9:ops[i+1]?=some o2) {T:TypeId} {x lo:Operand} {c:Nat} (hA:Bn o=some (T,x,lo,c)) (hB:Bm c o2=true) (hc:c<σ.nt)
 (hx:dh σ x=true) (eg:dh σ lo=true) (aa:(mI P σ.obj T (oX o2) (ax σ x) (ax σ lo)).ok) {K:Act->World->Prop} {Q:Exit->Act->World->Prop}
 (hK:∀ a' w' φ' m',aV G φ' m' (sv P σ T x lo c o2) a' w'->K a' w'):
 wpOpIn (gr G.rd) 0 P ops Q i (fun a1 w1=>wpOpIn (gr G.rd) 0 P ops Q (i+1) K a1 w1) a w:=by
 unfold Bn at hA
 split at hA
 case h_2=>cases hA
 rename_i T0 x0 Fc OY
 split at hA
 case h_2=>cases hA
 rename_i hg hd
 simp only[Option.some.injEq,Prod.mk.injEq]at hA
 obtain⟨rfl,rfl,rfl,rfl⟩:=hA
 unfold Bm at hB
 split at hB
 case h_2=>cases hB
 rename_i args ts F5
 split at hB
 case h_2=>cases hB
 rename_i c' T2 qA qq eI lC
 have hcc:=Nat.eq_of_beq_eq_true hB
 subst hcc
 have oU:oX o2=T2:=by
  unfold oX
  rw[F5]
  simp only
  have :ts= #[T2]:=by rw[<-Array.toArray_toList (xs:=ts),qq]
  rw[this];rfl
 have abE:args= #[.tmp c']:=by rw[<-Array.toArray_toList (xs:=args),qA]
 have aax:ts= #[T2]:=by rw[<-Array.toArray_toList (xs:=ts),qq]
 rw[oU]at aa
 have PN:sv P σ T0 x0 Fc c' o2={ σ with env:=upd σ.env c' ⟨true,.any⟩,obj:=(mI P σ.obj T0 T2 (ax σ x0) (ax σ Fc)).obj }:=by unfold sv;rw[oU]
 rw[PN]at hK
 clear PN hB qA qq oU
 have rx:=cL hC hx
 have rl:=cL hC eg
 unfold mI at aa hK
 split at aa
 case h_2=>exact aa.elim
 rename_i nm k kd ii e sz by_ e2 sz2 RL B1 np Cc P2
 split at aa
 case h_2=>exact aa.elim
 rename_i s l zv aD tq
 obtain⟨h1,h2,h3,h4,h5,h6,h7,cQ⟩:=aa
 subst h7
 subst h4
 obtain⟨n,rfl⟩:∃ n:Nat,ii=(n:Int):=⟨ii.toNat,by omega⟩
 simp only[B1,np,Cc,P2,aD,tq,Int.toNat_natCast]at hK h3
 obtain⟨hu,it,iw,Ps,_⟩:=jN Cc
 obtain⟨fX,_⟩:=jN P2
 obtain⟨z,hz,hzz⟩:=Option.bind_eq_some_iff.1 tq
 have gS:aU m zv z:=pM (vN (φ:=φ) (obj:=σ.obj) (m:=m) z) hzz
 rw[B1]at rx
 rw[np]at rl
 cases rl with
 |v _ _ rl=>
 cases kL:a.eval Fc with
 |int kd2 n2=>
  rw[kL]at rl
  cases rl
  cases rx with
  |msl _ _ _ hh _=>
  obtain⟨oo,nn,dB,hlen,hk,cV⟩:=hh
  rw[aD]at dB;cases dB
  simp only[O.len?,Option.some.injEq]at hlen
  subst hlen
  subst h1
  have hv:=cV rfl
  rcases hC.objs nm _ aD with⟨_,mn⟩ | ⟨g0,g1,g2,g3,g4,us,T',f,g5,g6,g7,g8⟩
  ·subst mn;simp at h3
  have tz:a.eval x0=.slice (some ⟨(φ nm).blk,(φ nm).off,none⟩) l.length (φ nm).cap:=by rw[hv];simp only[Loc.slice,g0];rfl
  have lD:(φ nm).blk<w.heap.size:=(Array.getElem?_eq_some_iff.1 g5).1
  have i6:(Instr.sliceAt T0 (.slice (some ⟨(φ nm).blk,(φ nm).off,none⟩) l.length (φ nm).cap) (some (.int kd n)) none none).run P w=
      .ok (.slice (some ⟨(φ nm).blk,(φ nm).off+n*s,none⟩) (l.length-n) ((φ nm).cap-n)) w:=by
   have hb:=Ay (P:=P) (φ:=φ) (obj:=σ.obj) (m:=m) (lo:=some (.v (.int kd n))) (hi:=none) (ulo:=some (.int kd n)) (uhi:=none) (len:=l.length) (cap:=(φ nm).cap) (n:=0) (i:=n) (j:=l.length) true (.v _ _ (.int _ _)) trivial rfl rfl (by omega) (by omega) (by omega) g1 w
   rw[Aq hu]
   have aH:¬ ((φ nm).cap=n):=by omega
   simp[Instr.slice,run_underlying hu,hb,sizeOf,typeInfo,iw,Ps,aH,nG]
  have cz:∀ cc,o.op≠ .defer cc:=fun cc h=>by rw[OY]at h;cases h
  have aa0:∀ cc,o2.op≠ .defer cc:=fun cc h=>by rw[F5]at h;cases h
  have kG:Region.wanted o (yielded ops a.tmps)=true:=by unfold Region.wanted;rw[hg]
  have cP:(execOp a.eval o).run P w=.ok (.value (.slice (some ⟨(φ nm).blk,(φ nm).off+n*s,none⟩) (l.length-n) ((φ nm).cap-n))) w:=by
   unfold execOp
   rw[OY]
   simp only[tz,Option.map_some,Option.map_none,kL,Sem.run_bind,i6,Result.andThen_ok,Sem.run_pure]
  have key:∀ KK:Act->World->Prop,KK (a.put (some c') (.slice (some ⟨(φ nm).blk,(φ nm).off+n*s,none⟩) (l.length-n) ((φ nm).cap-n))) w->wpOpIn (gr G.rd) 0 P ops Q i KK a w:=by
   intro KK Qb
   unfold wpOpIn
   simp only[hi,kG,if_true]
   refine⟨fun _ _=>trivial,?_⟩
   rw[Oper.semAt_eq _ _ _ cz,cP]
   rw[<-hd]at Qb
   exact Qb
  refine key _ ?_
  have iQ:=hC.put (t:=c') (e:=⟨true,.any⟩) (v:=.slice (some ⟨(φ nm).blk,(φ nm).off+n*s,none⟩) (l.length-n) ((φ nm).cap-n)) hc (by unfold cN;simp;exact .any _)
  have PG:(a.put (some c') (.slice (some ⟨(φ nm).blk,(φ nm).off+n*s,none⟩) (l.length-n) ((φ nm).cap-n))).eval (.tmp c')=.slice (some ⟨(φ nm).blk,(φ nm).off+n*s,none⟩) (l.length-n) ((φ nm).cap-n):=by
   have hs:c'<a.tmps.size:=by rw[hC.size];exact hc
   simp[Act.put,Act.eval,Array.getD,hs]
  generalize hga:a.put (some c') (.slice (some ⟨(φ nm).blk,(φ nm).off+n*s,none⟩) (l.length-n) ((φ nm).cap-n))=a1 at iQ PG |-
  have gF:n*s<=l.length*s:=Nat.mul_le_mul_right _ (by omega)
  have ka:l.length*s<=(φ nm).cap*s:=Nat.mul_le_mul_right _ g1
  have tr:(Builtin.zeroCells z.cells (l.length-n)).toList.length=l.length*s-n*s:=by
   have yo:z.cells.size=s:=by rw[<-gS.cells];exact h5
   simp[Builtin.zeroCells,yo,Nat.sub_mul]
  obtain⟨us2,k1,k2,k3⟩:=xJ P (φ nm).blk ((φ nm).off+n*s) T' f g6 (Builtin.zeroCells z.cells (l.length-n)).toList 0 us w g5 (by rw[tr];omega)
   (fun v hv=>by
     obtain⟨k,hk,rfl⟩:=List.getElem_of_mem hv
     rw[tr,<-Nat.sub_mul]at hk
     have h0:=Ks gS h5 cQ (l.length-n) k hk
     have Pj:k % s<z.cells.size:=by rw[<-gS.cells,h5];exact Nat.mod_lt _ cQ
     rw[Array.getElem?_eq_getElem Pj]at h0
     have h1:(Builtin.zeroCells z.cells (l.length-n)).toList[k]=z.cells[k % s]:=by
      have :=h0
      rw[<-Array.getElem?_toList]at this
      exact(List.getElem?_eq_some_iff.1 this).2
     rw[h1]
     have tY:k % s<zv.cells.length:=by rw[h5];exact Nat.mod_lt _ cQ
     exact AS ((gS.cell (k % s) tY Pj).one (gS.ones h6 _ (List.getElem_mem _))))
  simp only[Nat.add_zero]at k2
  have FP:Region.wanted o2 (yielded ops a1.tmps)=true:=by unfold Region.wanted;rw[eI]
  show wpOpIn (gr G.rd) 0 P ops Q (i+1) K a1 w
  unfold wpOpIn
  simp only[j9,FP,if_true]
  refine⟨fun _ _=>trivial,?_⟩
  rw[Oper.semAt_eq _ _ _ aa0]
  have aaG:(execOp a1.eval o2).run P w=.ok (.value (.tuple #[])) (bZ w (φ nm).blk (.cells us2 T' f)):=by
   have aH:l.length-n≠0:=by omega
   unfold execOp
   rw[F5,abE,aax]
   simp only[resolve,invoke,builtin,Sem.run_bind,Sem.run_pure,Result.andThen_ok,List.map_toArray,List.map_cons,List.map_nil,PG]
   have aaw:Sem.run P (underlying T2) w=.ok (TypeDesc.slice e2) w:=run_underlying fX w
   have cA:(Builtin.clear_ #[T2] o2.type #[.slice (some ⟨(φ nm).blk,(φ nm).off+n*s,none⟩) (l.length-n) ((φ nm).cap-n)]).run P w=.ok (.tuple #[]) (bZ w (φ nm).blk (.cells us2 T' f)):=by
    obtain⟨q,hq⟩:∃ q,l.length-n=q+1:=⟨l.length-n-1,by omega⟩
    rw[hq]at k3 |-
    simp[Builtin.clear_,aaw,xI hz,k3]
   simp only[cA,Result.andThen_ok]
  rw[aaG]
  have qx:(l.take n++List.replicate (l.length-n) zv).length=l.length:=by simp;omega
  have bB:=Ext.same (φ:=φ) (o':=.arr s (l.take n++List.replicate (l.length-n) zv)) aD (by simp only[O.len?,qx]) rfl
  have abi:=iQ.chg (w':=bZ w (φ nm).blk (.cells us2 T' f)) nm (.arr s (l.take n++List.replicate (l.length-n) zv)) (φ nm) bB ⟨rfl,rfl,rfl,by simp[bZ]⟩
   (fun b hb hn=>nW (by rcases hn with h | h; · rw[g0]at h;cases h
                        ·exact h))
   (fun _=>.inr ⟨⟨_,aD,rfl,g0⟩,rfl⟩) (by
     refine .inr ⟨g0,by rw[qx];exact g1,g2,fun q hq=>?_,fun q hq=>?_,us2,T',f,mK lD,g6,by rw[k1];exact g7,fun q j hq hj=>?_⟩
     ·rcases H4 (by omega) hq with⟨_,bI,e3⟩ | ⟨_,_,e3⟩<;>rw[e3]
      ·exact g3 q bI
      ·exact h5
     ·rcases H4 (by omega) hq with⟨_,bI,e3⟩ | ⟨_,_,e3⟩<;>rw[e3]
      ·exact g4 q bI
      ·exact gS.ones h6
     ·rw[k2,tr]
      rcases H4 (by omega) hq with⟨na,bI,e3⟩ | ⟨na,bI,e3⟩
      ·simp only[e3]at hj |-
       have gV:j<s:=by rw[<-g3 q bI];exact hj
       have hm:=LN (K:=s) na
       rw[if_neg (by omega)]
       exact g8 q j bI hj
      ·simp only[e3]at hj |-
       have gV:j<s:=by rw[<-h5];exact hj
       have hm:=LN (K:=s) bI
       have gD:n*s<=q*s:=Nat.mul_le_mul_right _ na
       rw[if_pos (by omega)]
       refine⟨z.cells[j]'(by rw[<-gS.cells,h5];exact gV),?_,gS.cell j hj _⟩
       rw[show (φ nm).off+q*s+j-((φ nm).off+n*s)=(q-n)*s+j by rw[Nat.sub_mul];omega,Array.getElem?_toList]
       have ae:(q-n)*s+j<(l.length-n)*s:=by rw[Nat.sub_mul,Nat.sub_mul];omega
       rw[Ks gS h5 cQ _ _ ae]
       have :((q-n)*s+j) % s=j:=by rw[Nat.mul_comm,Nat.mul_add_mod,Nat.mod_eq_of_lt gV]
       rw[this,Array.getElem?_eq_getElem])
  have oO:=hK _ _ _ m abi
  show K (a1.put o2.dst (.tuple #[])) _
  rw[lC]
  exact oO
 |_=>rw[kL]at rl;cases rl
theorem V8{P:Program}{Γ:FuncId->Option Spec}(hΓ:∀ f s,Γ f=some s->aT P f s){G:Ghost}{ops:Array Oper}{Q:Exit->Act->World->Prop}{K:S->Prop}{l:List Oper}{σ:S}(hr:nU P Γ ops l σ K):
 ∀ (k:Nat) {φ:Name->Loc} {m:Mem} {a:Act} {w:World},k+l.length=ops.size->ops.toList.drop k=l->aV G φ m σ a w->
   (∀ a' w' φ' m' σ',aV G φ' m' σ' a' w'->K σ'->Q .normal a' w')->wpOpsIn (gr G.rd) 0 P ops Q (List.range' k l.length) a w:=by
 have kN:∀ (k:Nat) (o:Oper) (r:List Oper),ops.toList.drop k=o::r->ops[k]?=some o/\ops.toList.drop (k+1)=r:=by
  intro k o r h
  have h0:(ops.toList.drop k)[0]?=some o:=by rw[h];rfl
  rw[List.getElem?_drop,Nat.add_zero,Array.getElem?_toList]at h0
  refine⟨h0,?_⟩
  have h1:(ops.toList.drop k).drop 1=r:=by rw[h];rfl
  rw[List.drop_drop]at h1
  exact h1
 induction hr with
 |nil hk=>exact fun k φ m a w _ _ hC hQ=>hQ _ _ φ m _ hC hk
 |step h1 _ ih=>
  intro k φ m a w hs hd hC hQ
  obtain⟨hi,kP⟩:=kN k _ _ hd
  rw[List.length_cons]at hs |-
  rw[List.range'_succ,wpOpsIn_cons]
  exact DM hΓ hC hi h1 fun a' w' φ' m' cR=>ih (k+1) (by omega) kP cR hQ
 |cut hA hB hc hx eg aa _ ih=>
  intro k φ m a w hs hd hC hQ
  obtain⟨hi,kP⟩:=kN k _ _ hd
  obtain⟨j9,lC⟩:=kN (k+1) _ _ kP
  rw[List.length_cons,List.length_cons]at hs |-
  rw[List.range'_succ,wpOpsIn_cons,List.range'_succ]
  rename_i o1 o2 r' _ _ _ _ _ _ _
  have :=acP (ops:=ops) (Q:=Q) hC hi j9 hA hB hc hx eg aa (K:=fun a' w'=>wpOpsIn (gr G.rd) 0 P ops Q (List.range' (k+1+1) r'.length) a' w') fun a' w' φ' m' cR=>ih (k+2) (by omega) lC cR hQ
  have e:wpOpsIn (gr G.rd) 0 P ops Q ((k+1)::List.range' (k+1+1) r'.length)=fun a1 w1=>wpOpIn (gr G.rd) 0 P ops Q (k+1) (fun a' w'=>wpOpsIn (gr G.rd) 0 P ops Q (List.range' (k+1+1) r'.length) a' w') a1 w1:=by
   funext a1 w1
   rw[wpOpsIn_cons]
  rw[e]
  exact this
theorem Rb{P:Program}{Γ:FuncId->Option Spec}(hΓ:∀ f s,Γ f=some s->aT P f s){id:Nat}{ops:Array Oper}{σ:S}{K:Exit->S->Prop}
 (h:nU P Γ ops ops.toList σ (K .normal)):CW P (.region id ops false) σ K:=by
 intro G φ m a w hC
 refine wpIn_region ?_
 rw[List.range_eq_range']
 have :=V8 hΓ h 0 (Q:=fun e a' w'=>∃ φ' m' σ',aV G φ' m' σ' a' w'/\K e σ') (by simp) (by simp) hC fun a' w' φ' m' σ' cR hK=>⟨φ',m',σ',cR,hK⟩
 simpa using this
def Ir(P:Program)(obj:Name->Option O)(T T2:TypeId)(x lo:D):Bool:=
 match x,lo,cC P T,cC P T2 with
 | .msl nm k,.v (.int _ i),some (e,sz,_),some (e2,_,_)=>match obj nm,(bp P e).bind fun z=>eX (jV z)with
   |some (.arr s l),some zv=>dd k l.length&&dY 0 i&&iJ i.toNat l.length&&dd s sz&&dd zv.cells.length sz&&zv.okc&&dd e2 e&&iJ 0 sz
   |_,_=>false
 |_,_,_,_=>false
theorem adA{P:Program}{obj:Name->Option O}{T T2:TypeId}{x lo:D}(h:Ir P obj T T2 x lo=true):(mI P obj T T2 x lo).ok:=by
 unfold Ir at h
 unfold mI
 split at h
 ·split at h
  ·simp only[Bool.and_eq_true]at h
   obtain⟨⟨⟨⟨⟨⟨⟨h1,h2⟩,h3⟩,h4⟩,h5⟩,h6⟩,h7⟩,h8⟩:=h
   exact⟨ld h1,il h2,A5 h3,ld h4,ld h5,h6,ld h7,A5 h8⟩
  ·cases h
 ·cases h
theorem ad8{P:Program}{obj:Name->Option O}{T T2:TypeId}{x lo:D}{nm:Name}(h:nm∉a7 x):(mI P obj T T2 x lo).obj nm=obj nm:=by
 unfold mI
 split
 ·split
  ·simp only[a7,List.mem_singleton]at h
   exact bm _ _ _ h
  ·rfl
 ·rfl
end Go.Eng
