import Derived.Test.YtepaolcgegdpoaaGreatK2
/- Texts Eng19 to EngK. -/
set_option linter.all false
namespace Go.Eng
open Go
section
variable {P:Program} {Γ:FuncId->Option Spec} {ops:Array Oper}
structure tJ where
 anc:List Nat
 past:rH
def ey:Name->Name->Bool
 |[],[]=>true
 |x::r,y::s=>Nat.beq x y&&ey r s
 |_,_=>false
theorem gA:∀ {a b:Name},ey a b=true↔a=b
 |[],[]=>by simp[ey]
 |[],_::_=>by simp[ey]
 |_::_,[]=>by simp[ey]
 |x::r,y::s=>by
  simp only[ey,Bool.and_eq_true,Nat.beq_eq,List.cons.injEq,gA]
def uL:List Name->Name->Bool
 |[],_=>false
 |x::r,nm=>ey x nm||uL r nm
theorem Jh:∀ {l:List Name} {nm:Name},uL l nm=true↔nm∈l
 |[],nm=>by simp[uL]
 |x::r,nm=>by
  simp only[uL,Bool.or_eq_true,gA,List.mem_cons,Jh]
  exact⟨fun h=>h.imp Eq.symm id,fun h=>h.imp Eq.symm id⟩
def kQ:List Nat->Nat->Bool
 |[],_=>false
 |x::r,n=>Nat.beq x n||kQ r n
theorem Ji:∀ {l:List Nat} {n:Nat},kQ l n=true↔n∈l
 |[],n=>by simp[kQ]
 |x::r,n=>by
  simp only[kQ,Bool.or_eq_true,Nat.beq_eq,List.mem_cons,Ji]
  exact⟨fun h=>h.imp Eq.symm id,fun h=>h.imp Eq.symm id⟩
def vp:List Name->List Name->Bool
 |[],_=>true
 |x::r,b=>!uL b x&&vp r b
theorem Fg:∀ {a b:List Name},vp a b=true->yc a b
 |[],_,_=>fun nm h=>by cases h
 |x::r,b,h=>by
  simp only[vp,Bool.and_eq_true,Bool.not_eq_true']at h
  intro nm ha hb
  rcases List.mem_cons.1 ha with rfl | ha
  ·rw[Jh.2 hb]at h;cases h.1
  ·exact Fg h.2 nm ha hb
def fB(p:tJ)(e:tJ):Bool:=kQ p.anc e.past.on||(vp e.past.wrt p.past.foot&&vp p.past.wrt e.past.foot)
def uA:List tJ->Bool
 |[]=>true
 |p::L=>L.all (fB p)&&uA L
variable (P Γ ops)in
def rG:Nat->List (List Nat)->List Oper->List tJ->S->(S->Prop)->Prop
 |_,_,[],L,σ,K=>uA L=true/\K σ
 |i,az,o::r,L,σ,K=>lF P Γ ops σ o/\
   rG (i+1) az.tail r (⟨az.headD [],i,cE Γ σ ((σ.base+o.dst.getD 0)::σ.pre) o.op,bS Γ σ ((σ.base+o.dst.getD 0)::σ.pre) o.op⟩::L) (bx P Γ ops σ o) K
variable (P Γ ops)in
def Gn(anc:Nat->List Nat):Nat->List Oper->List rH->S->(S->Prop)->Prop
 |_,[],_,σ,K=>K σ
 |i,o::r,L,σ,K=>lF P Γ ops σ o/\yV (anc i) (cE Γ σ (Oper.tt σ o) o.op) (bS Γ σ (Oper.tt σ o) o.op) L/\
   Gn anc (i+1) r (⟨i,cE Γ σ (Oper.tt σ o) o.op,bS Γ σ (Oper.tt σ o) o.op⟩::L) (bx P Γ ops σ o) K
theorem HV{anc:Nat->List Nat}{K:S->Prop}:∀ (l:List Oper) (i:Nat) (az:List (List Nat)) (L:List tJ) (σ:S),(∀ k,az.getD k []=anc (i+k))->
 rG P Γ ops i az l L σ K->uA L=true/\Gn P Γ ops anc i l (L.map (·.past)) σ K
 |[],i,az,L,σ,_,h=>h
 |o::r,i,az,L,σ,ha,h=>by
  obtain⟨h1,h2⟩:=h
  obtain⟨h3,h4⟩:=HV (anc:=anc) r (i+1) az.tail _ _ (fun k=>by
   have :=ha (k+1)
   rw[show i+(k+1)=i+1+k by omega]at this
   rw[<-this]
   cases az<;>rfl) h2
  simp only[uA,Bool.and_eq_true]at h3
  refine⟨h3.2,h1,?_,h4⟩
  intro e he
  obtain⟨p,hp,rfl⟩:=List.mem_map.1 he
  have :=List.all_eq_true.1 h3.1 p hp
  simp only[fB,Bool.or_eq_true,Bool.and_eq_true]at this
  rcases this with k | ⟨k1,k2⟩
  ·left
   have h0:az.headD []=anc i:=by
    have :=ha 0
    rw[Nat.add_zero]at this
    rw[<-this]
    cases az<;>rfl
   rw[h0]at k
   exact Ji.1 k
  ·exact .inr ⟨Fg k1,Fg k2⟩
theorem HW(hN:∀ f s,Γ f=some s->s.Near){anc:Nat->List Nat}(hA:ye ops anc)(k9:∀ i j oi oj,ops[i]?=some oi->ops[j]?=some oj->i<j->i∉anc j->oi.apart ops oj=true)
 (z5:∀ j o,ops[j]?=some o->∀ e∈o.after,Region.binds .any e=true->e.on<j) {K:S->Prop}:
 ∀ (n k:Nat) (L:List rH) (listed:Array Bool) (σ:S),k+n=ops.size->listed.size=ops.size->(∀ j,listed.getD j false=decide (j<k))->tK anc listed->
   Gn P Γ ops anc k (ops.toList.drop k) L σ K->rM P Γ ops anc L K n listed σ
 | 0,k,L,listed,σ,hk,hs,hl,cT,h=>by
   have :ops.toList.drop k=[]:=List.drop_eq_nil_of_le (by simp;omega)
   rw[this]at h
   refine⟨?_,h⟩
   refine List.eq_nil_iff_forall_not_mem.2 fun j hj=>?_
   obtain⟨h1,o,ho,_⟩:=mem_ready.1 hj
   have aa:j<ops.size:=(Array.getElem?_eq_some_iff.1 ho).1
   have :=hl j
   simp only[Array.getD_eq_getD_getElem?,Array.getElem?_eq_getElem (show j<listed.size by omega),Option.getD_some]at h1 this
   rw[h1]at this
   simp at this
   omega
 |n+1,k,L,listed,σ,hk,hs,hl,cT,h=>by
  have aa:k<ops.size:=by omega
  have hd:ops.toList.drop k=ops[k]::ops.toList.drop (k+1):=by
   rw[List.drop_eq_getElem_cons (by simpa using aa)];simp
  rw[hd]at h
  obtain⟨h1,h2,h3⟩:=h
  have ab:ops[k]?=some ops[k]:=Array.getElem?_eq_getElem aa
  have uZ:∀ j,j<listed.size->listed.getD j true=listed.getD j false:=by
   intro j hj
   simp only[Array.getD_eq_getD_getElem?,Array.getElem?_eq_getElem hj,Option.getD_some]
  have hr:k∈Region.ready .any ops listed:=by
   refine mem_ready.2 ⟨?_,_,ab,fun e he hb=>?_⟩
   ·rw[uZ k (by omega),hl k];simp
   ·rw[hl];simpa using z5 k _ ab e he hb
  refine pull hN hA ab n listed σ cT (fun j oj hj aG wR fx=>?_) hr h1 h2 ?_
  ·have fF:j<ops.size:=(Array.getElem?_eq_some_iff.1 hj).1
   rw[uZ j (by omega),hl j]at wR
   simp at wR
   exact k9 k j _ oj ab hj (by omega) fx
  ·refine HW hN hA k9 z5 n (k+1) _ _ _ (by omega) (by simpa using hs) (fun j=>?_) (cT.set hA hr) h3
   by_cases nD:k=j
   ·subst nD
    simp[show k<listed.size by omega]
   ·rw[getD_set_ne false nD,hl j]
    refine decide_eq_decide.2 ?_
    omega
def vU(ops:Array Oper)(az:List (List Nat)):Bool:=
 (List.range ops.size).all fun j=>match ops[j]? with
   |none=>true
   |some oj=>(oj.after.toList.all fun e=>!Region.binds .any e||decide (e.on<j))&&
      ((az.getD j []).all fun i=>oj.after.toList.any fun e=>Region.binds .any e&&(e.on==i||(az.getD e.on []).contains i))&&
      (List.range j).all fun i=>(az.getD j []).contains i||(match ops[i]? with | some oi=>oi.apart ops oj | none=>true)
theorem Fq(hΓ:∀ f s,Γ f=some s->aM P f s)(hP:P.follows .mixedOrders=true){id:Nat}{l:List Oper}{σ:S}{K:Exit->S->Prop}(az:List (List Nat))
 (hs:vU l.toArray az=true) (h:∀ K':S->Prop,(∀ σ',K .normal σ'->K' σ')->rG P Γ l.toArray 0 az l [] σ K'):CW P (.region id l.toArray true) σ K:=by
 intro G φ m a w hC
 have fN:∀ j oj,l.toArray[j]?=some oj->(oj.after.toList.all fun e=>!Region.binds .any e||decide (e.on<j))=true/\
       ((az.getD j []).all fun i=>oj.after.toList.any fun e=>Region.binds .any e&&(e.on==i||(az.getD e.on []).contains i))=true/\
       ((List.range j).all fun i=>(az.getD j []).contains i||(match l.toArray[i]? with | some oi=>oi.apart l.toArray oj | none=>true))=true:=by
  intro j oj hj
  have :=List.all_eq_true.1 hs j (List.mem_range.2 (Array.getElem?_eq_some_iff.1 hj).1)
  simp only[hj,Bool.and_eq_true]at this
  exact⟨this.1.1,this.1.2,this.2⟩
 have hN:∀ f s,Γ f=some s->s.Near:=fun f s h=>(hΓ f s h).near
 have hA:ye l.toArray (fun j=>az.getD j []):=by
  intro j o ho i hi
  have :=List.all_eq_true.1 (fN j o ho).2.1 i hi
  obtain⟨e,he,h1⟩:=List.any_eq_true.1 this
  simp only[Bool.and_eq_true,Bool.or_eq_true,beq_iff_eq,List.contains_iff_mem]at h1
  exact⟨e,by simpa using he,h1.1,h1.2⟩
 have k9:∀ i j oi oj,l.toArray[i]?=some oi->l.toArray[j]?=some oj->i<j->i∉az.getD j []->oi.apart l.toArray oj=true:=by
  intro i j oi oj h1 h2 h3 h4
  have :=List.all_eq_true.1 (fN j oj h2).2.2 i (List.mem_range.2 h3)
  simp only[h1,Bool.or_eq_true]at this
  rcases this with k | k
  ·exact(h4 (by simpa using k)).elim
  ·exact k
 have z5:∀ j o,l.toArray[j]?=some o->∀ e∈o.after,Region.binds .any e=true->e.on<j:=by
  intro j o ho e he hb
  have :=List.all_eq_true.1 (fN j o ho).1 e (by simpa using he)
  simpa[hb]using this
 refine wpIn_region_any hP ?_
 obtain⟨_,hD⟩:=HV (anc:=fun j=>az.getD j []) l 0 az [] σ (fun k=>by simp) (h (K .normal) fun _ h=>h)
 refine OG hΓ (K:=K .normal) _ _ (hC.drawn _) (HW hN hA k9 z5 l.toArray.size 0 [] _ σ (by simp) (by simp) (fun j=>?_) (fun j hj=>?_) (by simpa using hD)) fun a' w' φ' m' σ' cU hK=>⟨φ',m',σ',cU,hK⟩
 ·by_cases hj:j<l.length<;>simp[hj]
 ·by_cases dp:j<l.length<;>simp[dp]at hj
theorem aaw(hΓ:∀ f s,Γ f=some s->aM P f s)(hP:P.follows .mixedOrders=true){id:Nat}{l:List Oper}{c:Code}{r:List Code}{σ:S}{K:Exit->S->Prop}(az:List (List Nat))(ks:List Nat)(ns:List Name)
 (hs:vU l.toArray az=true) (h:∀ K':S->Prop,(∀ σ',i6 ks ns σ'->CL P (c::r) (jl ks ns σ') K->K' σ')->rG P Γ l.toArray 0 az l [] σ K'):CL P (.region id l.toArray true::c::r) σ K:=
 Fq hΓ hP az hs fun K' hK=>h K' fun σ' hc hy=>hK σ' (Fp ks ns hc hy)
theorem mK(hΓ:∀ f s,Γ f=some s->aM P f s)(hP:P.follows .mixedOrders=true){id:Nat}{l:List Oper}{σ:S}{K:Exit->S->Prop}(az:List (List Nat))
 (hs:vU l.toArray az=true) (h:∀ K':S->Prop,(∀ σ',K .normal σ'->K' σ')->rG P Γ l.toArray 0 az l [] σ K'):CL P [.region id l.toArray true] σ K:=
 Fq hΓ hP az hs fun K' hK=>h K' fun σ' hc=>hK σ' hc
end
attribute [go_sem] ey uL kQ vp Nat.beq_eq_true_eq rG cE bS bd fp eP gg ff muts O.mut PSpec.toSpec List.headD_cons List.headD_nil List.tail_cons List.tail_nil
mutual
def D.ren(f:Name->Name):D->D
 | .v x=>.v x
 | .nilsl=>.nilsl
 | .nilmap=>.nilmap
 | .ref nm o=>.ref (f nm) o
 | .msl nm k=>.msl (f nm) k
 | .aref nm k i o=>.aref (f nm) k i o
 | .map nm=>.map (f nm)
 | .yld nm=>.yld (f nm)
 | .clo fn a b=>.clo fn (D.renL f a) (D.renL f b)
 | .agg l=>.agg (D.renL f l)
 | .tup l=>.tup (D.renL f l)
 | .any=>.any
def D.renL(f:Name->Name):List D->List D
 |[]=>[]
 |d::r=>D.ren f d::D.renL f r
end
def E.ren(f:Name->Name)(e:E):E:=⟨e.c,e.d.ren f⟩
def O.ren(f:Name->Name):O->O
 | .box cs=>.box (D.renL f cs)
 | .loop env ps asg body st bR=>.loop (env.map (E.ren f)) ps asg body st bR
 | .arr sz l=>.arr sz l
 | .map kd es=>.map kd es
 | .fbox cs=>.fbox cs
 | .farr sz l=>.farr sz l
 | .dead sz n=>.dead sz n
theorem kJ(f:Name->Name):∀ l:List D,D.renL f l=l.map (D.ren f)
 |[]=>rfl
 |d::r=>by simp only[D.renL,List.map_cons,kJ f r]
theorem D.one_ren(f:Name->Name)(d:D):(d.ren f).one=d.one:=by cases d<;>rfl
theorem O.len_ren(f:Name->Name)(o:O):(o.ren f).len?=o.len?:=by cases o<;>rfl
theorem O.sz_ren(f:Name->Name)(o:O):(o.ren f).sz=o.sz:=by cases o<;>rfl
theorem O.mut_ren(f:Name->Name)(o:O):(o.ren f).mut=o.mut:=by cases o<;>rfl
def yb(f:Name->Name)(φ φ':Name->Loc)(obj obj':Name->Option O)(dom:Name->Bool):Prop:=
 ∀ nm o,dom nm=true->obj nm=some o->∃ o',obj' (f nm)=some o'/\
   ((o'.len?=o.len?/\φ' (f nm)=φ nm/\o'.sz=o.sz)\/(∃ n n',o.len?=some n/\o'.len?=some n'/\n<n'))
theorem aH.renx{f:Name->Name}{φ φ':Name->Loc}{obj obj':Name->Option O}{m m':Mem}{dom:Name->Bool}(hm:Mem.le m m')(hx:yb f φ φ' obj obj' dom){d:D}{u:Value}
 (h:aH φ obj m d u) (hc:D.clos dom d=true):aH φ' obj' m' (d.ren f) u:=by
 induction h with
 |any u=>exact .any u
 |v x u h=>exact .v x u (h.mono hm)
 |nilsl a=>exact .nilsl a
 |nilmap=>exact .nilmap
 |ref nm off h=>
  obtain⟨o,ho,hl⟩:=h
  obtain⟨o',dA,h⟩:=hx nm o hc ho
  rcases h with⟨h1,h2,h3⟩ | ⟨n,n',h1,h2,h3⟩
  ·rw[<-h2];exact .ref (f nm) off ⟨o',dA,h1.trans hl⟩
  ·rw[hl]at h1;cases h1
 |map nm h=>
  obtain⟨o,ho,hl⟩:=h
  obtain⟨o',dA,h⟩:=hx nm o hc ho
  rcases h with⟨h1,h2,h3⟩ | ⟨n,n',h1,h2,h3⟩
  ·rw[<-h2];exact .map (f nm) ⟨o',dA,h1.trans hl⟩
  ·rw[hl]at h1;cases h1
 |yld nm h=>
  obtain⟨o,ho,hl⟩:=h
  obtain⟨o',dA,h⟩:=hx nm o hc ho
  rcases h with⟨h1,h2,h3⟩ | ⟨n,n',h1,h2,h3⟩
  ·rw[<-h2];exact .yld (f nm) ⟨o',dA,h1.trans hl⟩
  ·rw[hl]at h1;cases h1
 |msl nm k u h hu=>
  obtain⟨o,n,ho,hl,hk,he⟩:=h
  obtain⟨o',dA,h⟩:=hx nm o hc ho
  rcases h with⟨h1,h2,h3⟩ | ⟨n1,n',h1,h2,h3⟩
  ·exact .msl (f nm) k u ⟨o',n,dA,h1.trans hl,hk,fun e=>by rw[h2];exact he e⟩ hu
  ·rw[hl]at h1;cases h1
   exact .msl (f nm) k u ⟨o',n',dA,h2,by omega,fun e=>by omega⟩ hu
 |aref nm k i off u h hu=>
  obtain⟨o,n,ho,hl,hk,he⟩:=h
  obtain⟨o',dA,h⟩:=hx nm o hc ho
  rcases h with⟨h1,h2,h3⟩ | ⟨n1,n',h1,h2,h3⟩
  ·exact .aref (f nm) k i off u ⟨o',n,dA,h1.trans hl,hk,fun e=>by rw[h2,h3];exact he e⟩ hu
  ·rw[hl]at h1;cases h1
   exact .aref (f nm) k i off u ⟨o',n',dA,h2,by omega,fun e=>by omega⟩ hu
 |clo fn fs cs us vs h1 h2 dZ ga pD pC=>
  simp only[D.clos,Bool.and_eq_true]at hc
  simp only[D.ren,kJ]
  refine .clo fn _ _ us vs (by simpa using h1) (by simpa using h2) (fun i a b=>?_) (fun i a b=>?_)
  ·simp only[List.getElem_map];exact pD i (by simpa using a) b (jy _ hc.1)
  ·simp only[List.getElem_map];exact pC i (by simpa using a) b (jy _ hc.2)
 |agg l us h ho hr ih=>
  simp only[D.clos]at hc
  simp only[D.ren,kJ]
  refine .agg _ us (by simpa using h) (fun d hd=>?_) (fun i a b=>?_)
  ·obtain⟨d',h1,rfl⟩:=List.mem_map.1 hd
   rw[D.one_ren];exact ho d' h1
  ·simp only[List.getElem_map];exact ih i (by simpa using a) b (jy _ hc)
 |tup l us h hr ih=>
  simp only[D.clos]at hc
  simp only[D.ren,kJ]
  refine .tup _ us (by simpa using h) (fun i a b=>?_)
  simp only[List.getElem_map];exact ih i (by simpa using a) b (jy _ hc)
theorem cR.renx{f:Name->Name}{φ φ':Name->Loc}{obj obj':Name->Option O}{m m':Mem}{dom:Name->Bool}(hm:Mem.le m m')(hx:yb f φ φ' obj obj' dom){e:E}{u:Value}
 (h:cR φ obj m e u) (hc:D.clos dom e.d=true):cR φ' obj' m' (e.ren f) u:=by
 unfold cR at *
 have e0:(E.ren f e).c=e.c:=rfl
 have e1:(E.ren f e).d=e.d.ren f:=rfl
 rw[e0,e1]
 by_cases hh:e.c=true
 ·rw[if_pos hh]at h |-;exact h.renx hm hx hc
 ·rw[if_neg hh]at h |-;exact h
theorem hJ.ren{f:Name->Name}{φ φ':Name->Loc}{obj obj':Name->Option O}{m m':Mem}{dom:Name->Bool}{o:O}{p:Loc}{w w':World}(hm:Mem.le m m')(hx:yb f φ φ' obj obj' dom)
 (hc:O.clos dom o=true) (hw:o.mut=true->p.nul=false->w'.heap[p.blk]?=w.heap[p.blk]?) (h:hJ φ obj m o p w):hJ φ' obj' m' (o.ren f) p w':=by
 cases o with
 |box cs=>
  obtain⟨h0,h1,fe,us,T,g,h2,h3,h4,h5⟩:=h
  simp only[O.clos]at hc
  simp only[O.ren,hJ,kJ,List.length_map,List.getElem_map,List.mem_map,forall_exists_index,and_imp,forall_apply_eq_imp_iff₂,D.one_ren]
  exact⟨h0,h1,fe,us,T,g,by rw[hw rfl h1];exact h2,h3,h4,fun i a b=>(h5 i a b).renx hm hx (jy a hc)⟩
 |arr sz l=>
  rcases h with⟨h,h'⟩ | ⟨h0,h1,h2,h3,h4,us,T,f,h5,h6,h7,h8⟩
  ·exact .inl ⟨h,h'⟩
  ·exact .inr ⟨h0,h1,h2,h3,h4,us,T,f,by rw[hw rfl h0];exact h5,h6,h7,fun i j a b=>let ⟨c,x,y⟩:=h8 i j a b;⟨c,x,y.mono hm⟩⟩
 |map kd es=>
  obtain⟨h0,h1,fe,us,T,h2,h3,h4⟩:=h
  exact⟨h0,h1,fe,us,T,by rw[hw rfl h1];exact h2,h3,fun i a b=>⟨(h4 i a b).1.mono hm,(h4 i a b).2.mono hm⟩⟩
 |fbox cs=>exact⟨h.1,fun i a=>let ⟨c,x,y⟩:=h.2 i a;⟨c,hm _ _ _ x,y.mono hm⟩⟩
 |farr sz l=>
  rcases h with⟨h,h'⟩ | ⟨h0,h1,h2,h3,h4⟩
  ·exact .inl ⟨h,h'⟩
  ·exact .inr ⟨h0,h1,h2,h3,fun i j a b=>let ⟨c,x,y⟩:=h4 i j a b;⟨c,hm _ _ _ x,y.mono hm⟩⟩
 |dead=>exact h
 |loop env ps asg body st bR=>
  obtain⟨h0,h1,r,h2,h3,h4,h5,h6,h7,h8,h9⟩:=h
  simp only[O.clos]at hc
  simp only[O.ren,hJ,List.length_map,List.getElem_map]
  refine⟨h0,h1,r,by rw[hw rfl h1];exact h2,h3,h4,h5,h6,h7,h8,fun i a=>(h9 i a).renx hm hx ?_⟩
  have :=jy (l:=env.map (·.d)) (i:=i) (by simpa using a) hc
  simpa using this
mutual
theorem D.ren_id{f g:Name->Name}{dom:Name->Bool}(kr:∀ nm,dom nm=true->g (f nm)=nm):∀ d:D,D.clos dom d=true->(d.ren f).ren g=d
 | .v _,_=>rfl
 | .nilsl,_=>rfl
 | .nilmap,_=>rfl
 | .any,_=>rfl
 | .ref nm _,h=>by simp only[D.ren];rw[kr nm h]
 | .msl nm _,h=>by simp only[D.ren];rw[kr nm h]
 | .aref nm _ _ _,h=>by simp only[D.ren];rw[kr nm h]
 | .map nm,h=>by simp only[D.ren];rw[kr nm h]
 | .yld nm,h=>by simp only[D.ren];rw[kr nm h]
 | .clo _ a b,h=>by
   simp only[D.clos,Bool.and_eq_true]at h
   simp only[D.ren];rw[D.renL_id kr a h.1,D.renL_id kr b h.2]
 | .agg l,h=>by simp only[D.clos]at h;simp only[D.ren];rw[D.renL_id kr l h]
 | .tup l,h=>by simp only[D.clos]at h;simp only[D.ren];rw[D.renL_id kr l h]
theorem D.renL_id{f g:Name->Name}{dom:Name->Bool}(kr:∀ nm,dom nm=true->g (f nm)=nm):∀ l:List D,D.closL dom l=true->D.renL g (D.renL f l)=l
 |[],_=>rfl
 |d::r,h=>by
  simp only[D.closL,Bool.and_eq_true]at h
  simp only[D.renL];rw[D.ren_id kr d h.1,D.renL_id kr r h.2]
end
theorem O.ren_id{f g:Name->Name}{dom:Name->Bool}(kr:∀ nm,dom nm=true->g (f nm)=nm)(o:O)(h:O.clos dom o=true):(o.ren f).ren g=o:=by
 cases o with
 |box cs=>simp only[O.clos]at h;simp only[O.ren];rw[D.renL_id kr cs h]
 |loop env ps asg body st bR=>
  simp only[O.clos]at h
  simp only[O.ren,List.map_map,O.loop.injEq,and_true]
  refine List.ext_getElem (by simp) fun i h1 h2=>?_
  have :=jy (l:=env.map (·.d)) (i:=i) (by simpa using h2) h
  simp only[List.getElem_map,Function.comp_apply,E.ren]at this |-
  rw[D.ren_id kr _ this]
 |_=>rfl
mutual
def jL:D->List Name
 | .ref nm _=>[nm]
 | .msl nm _=>[nm]
 | .aref nm _ _ _=>[nm]
 | .map nm=>[nm]
 | .yld nm=>[nm]
 | .clo _ a b=>cA a++cA b
 | .agg l=>cA l
 | .tup l=>cA l
 |_=>[]
def cA:List D->List Name
 |[]=>[]
 |d::r=>jL d++cA r
end
def jK:O->List Name
 | .box cs=>cA cs
 | .loop env _ _ _ _ _=>cA (env.map (·.d))
 |_=>[]
def cv(L:List Name)(nm:Name):Bool:=L.any fun x=>x==nm
def c6(obj:Name->Option O):Nat->List Name->List Name->List Name
 | 0,_,acc=>acc
 |_+1,[],acc=>acc
 |n+1,x::todo,acc=>if cv acc x=true then c6 obj n todo acc else c6 obj n ((match obj x with | some o=>jK o | none=>[])++todo) (acc++[x])
def reach(obj:Name->Option O)(ds:List D):List Name:=c6 obj 3000 (cA ds) []
theorem gD{L:List Name}{nm:Name}:cv L nm=true↔nm∈L:=by
 simp only[cv,List.any_eq_true,beq_iff_eq]
 exact⟨fun ⟨x,h,e⟩=>e▸h,fun h=>⟨nm,h,rfl⟩⟩
theorem Ch{obj:Name->Option O}:∀ (n:Nat) (todo acc:List Name),∀ nm∈acc,nm∈c6 obj n todo acc
 | 0,_,_,_,h=>h
 |_+1,[],_,_,h=>h
 |n+1,x::todo,acc,nm,h=>by
  simp only[c6]
  split
  ·exact Ch n _ _ nm h
  ·exact Ch n _ _ nm (by simp[h])
theorem yN{obj:Name->Option O}:∀ (n:Nat) (todo acc:List Name),acc.Nodup->(c6 obj n todo acc).Nodup
 | 0,_,_,h=>h
 |_+1,[],_,h=>h
 |n+1,x::todo,acc,h=>by
  simp only[c6]
  split
  ·exact yN n _ _ h
  ·rename_i hx
   refine yN n _ _ (List.nodup_append.2 ⟨h,by simp,fun a ha b hb=>?_⟩)
   simp only[List.mem_singleton]at hb
   subst hb
   rintro rfl
   exact hx (gD.2 ha)
theorem Cg{obj obj2:Name->Option O}:∀ (n:Nat) (todo acc:List Name),bX (c6 obj n todo acc) obj obj2->c6 obj2 n todo acc=c6 obj n todo acc
 | 0,_,_,_=>rfl
 |_+1,[],_,_=>rfl
 |n+1,x::todo,acc,h=>by
  simp only[c6]at h |-
  split
  ·rename_i hx;rw[if_pos hx]at h;exact Cg n _ _ h
  ·rename_i hx
   rw[if_neg hx]at h
   have bF:obj2 x=obj x:=h x (Ch n _ _ x (by simp))
   rw[bF]
   exact Cg n _ _ h
def idx:List Name->Name->Nat
 |[],_=>0
 |x::r,nm=>if x=nm then 0 else idx r nm+1
def cin(L:List Name)(nm:Name):Name:=[idx L nm,1]
def cout(L:List Name)(t:Name):Name->Name
 |[i,1]=>L.getD i []
 |x=>x++t
def dt:Name->Bool
 |[_,1]=>true
 |_=>false
theorem uT:∀ {L:List Name} {nm:Name},nm∈L->∃ h:idx L nm<L.length,L[idx L nm]=nm
 |x::r,nm,h=>by
  simp only[idx]
  by_cases e:x=nm
  ·subst e;simp
  ·simp only[if_neg e]
   obtain⟨h1,h2⟩:=uT (L:=r) (nm:=nm) (by rcases List.mem_cons.1 h with h | h; · exact(e h.symm).elim
                                         ·exact h)
   exact⟨by simp;omega,by simpa using h2⟩
theorem Z'{L:List Name}{t nm:Name}(h:nm∈L):cout L t (cin L nm)=nm:=by
 obtain⟨h1,h2⟩:=uT h
 show L.getD (idx L nm) []=nm
 rw[List.getD_eq_getElem?_getD,List.getElem?_eq_getElem h1];simpa using h2
theorem vy{L:List Name}{t x:Name}(h:dt x=false):cout L t x=x++t:=by
 unfold cout
 split
 ·simp[dt]at h
 ·rfl
theorem uP{x:Name}:dt x=true↔∃ i,x=[i,1]:=by
 constructor
 ·intro h
  unfold dt at h
  split at h
  ·exact⟨_,rfl⟩
  ·cases h
 ·rintro⟨i,rfl⟩;rfl
theorem IC(i:Nat):own [0] [i,1]=false:=by simp[own]
theorem Dm{L:List Name}(hn:L.Nodup){i:Nat}(h:i<L.length):idx L L[i]=i:=by
 obtain⟨h1,h2⟩:=uT (List.getElem_mem h)
 exact(List.getElem_inj hn).1 h2
structure Out where
 upd:List (Nat×O)
 new:List (Name×O)
 d:D
 deriving Inhabited
def fv:List (Nat×O)->Nat->O->O
 |[],_,o=>o
 |(j,o')::r,i,o=>fv r i (if j=i then o' else o)
def cS(L:List Name)(t:Name):List (Nat×O)->(Name->Option O)->(Name->Option O)
 |[],obj=>obj
 |(i,o)::r,obj=>cS L t r (upd obj (L.getD i []) (some (o.ren (cout L t))))
def dE(L:List Name)(t:Name):List (Name×O)->(Name->Option O)->(Name->Option O)
 |[],obj=>obj
 |(x,o)::r,obj=>dE L t r (upd obj (x++t) (some (o.ren (cout L t))))
theorem Ij{L:List Name}{t:Name}(hn:L.Nodup):∀ (l:List (Nat×O)) (obj:Name->Option O) {i:Nat} (h:i<L.length) (o:O) (_:(l.all fun x=>decide (x.1<L.length))=true) (_:obj L[i]=some (o.ren (cout L t))),
 cS L t l obj L[i]=some ((fv l i o).ren (cout L t))
 |[],obj,i,h,o,_,ho=>ho
 |(j,o')::r,obj,i,h,o,hl,ho=>by
  simp only[List.all_cons,Bool.and_eq_true,decide_eq_true_eq]at hl
  simp only[cS,fv]
  refine Ij hn r _ h _ hl.2 ?_
  have e:L.getD j []=L[j]:=by rw[List.getD_eq_getElem?_getD,List.getElem?_eq_getElem hl.1];rfl
  rw[e]
  by_cases hj:j=i
  ·subst hj;rw[aU,if_pos rfl]
  ·rw[ba _ _ _ (fun e'=>hj ((List.getElem_inj hn).1 e').symm),if_neg hj];exact ho
theorem Cl{L:List Name}{t:Name}:∀ (l:List (Nat×O)) (obj:Name->Option O) {nm:Name} (_:(l.all fun x=>decide (x.1<L.length))=true) (_:nm∉L),cS L t l obj nm=obj nm
 |[],_,_,_,_=>rfl
 |(j,o')::r,obj,nm,hl,hn=>by
  simp only[List.all_cons,Bool.and_eq_true,decide_eq_true_eq]at hl
  simp only[cS]
  rw[Cl r _ hl.2 hn]
  refine ba _ _ _ ?_
  rintro rfl
  refine hn ?_
  rw[List.getD_eq_getElem?_getD,List.getElem?_eq_getElem hl.1];simp
theorem wk{L:List Name}{t:Name}:∀ (l:List (Name×O)) (obj:Name->Option O) {nm:Name} (_:∀ x∈l,nm≠x.1++t),dE L t l obj nm=obj nm
 |[],_,_,_=>rfl
 |(x,o')::r,obj,nm,hl=>by
  simp only[dE]
  rw[wk r _ fun y hy=>hl y (by simp[hy])]
  exact ba _ _ _ (hl (x,o') (by simp))
theorem Ik{L:List Name}{t:Name}:∀ (l:List (Name×O)) (obj:Name->Option O) (_:(l.map (·.1)).Nodup) {x:Name} {o:O} (_:(x,o)∈l),dE L t l obj (x++t)=some (o.ren (cout L t))
 |(y,o')::r,obj,hn,x,o,h=>by
  simp only[List.map_cons,List.nodup_cons]at hn
  simp only[dE]
  rcases List.mem_cons.1 h with h | h
  ·cases h
   rw[wk r _ fun z hz e=>hn.1 (by
    have :_=z.1:=List.append_cancel_right e
    rw[this];exact List.mem_map_of_mem hz)]
   exact aU _ _ _
  ·exact Ik r _ hn.2 h
def dL(n:Nat)(new:List (Name×O)):Name->Bool
 |[i,1]=>decide (i<n)
 |x=>new.any fun y=>y.1==x
section
variable {G:Ghost} {φ:Name->Loc} {m:Mem} {σ:S} {a:Act} {w:World}
def cP(L:List Name)(obj:Name->Option O)(nm:Name):O:=match obj nm with
 |some o=>o.ren (cin L)
 |none=>.fbox []
def shut(obj:Name->Option O)(L:List Name):Bool:=L.all fun nm=>match obj nm with
 |some o=>O.clos (cv L) o
 |none=>false
def kb(L:List Name)(obj:Name->Option O):Name->Option O
 |[i,1]=>if i<L.length then some (cP L obj (L.getD i []))else none
 |_=>none
def mZ(L:List Name)(φ:Name->Loc):Name->Loc
 |[i,1]=>φ (L.getD i [])
 |_=>⟨0,0,0,true,none⟩
def qi(L:List Name)(φ:Name->Loc)(obj:Name->Option O)(b:Nat):Prop:=∃ nm∈L,holds φ obj nm/\(φ nm).blk=b
theorem vY{obj:Name->Option O}{L:List Name}(h:shut obj L=true){nm:Name}(hn:nm∈L):∃ o,obj nm=some o/\O.clos (cv L) o=true:=by
 have :=List.all_eq_true.1 h nm hn
 cases ho:obj nm with
 |none=>simp[ho]at this
 |some o=>simp only[ho]at this;exact⟨o,rfl,this⟩
theorem lf{L:List Name}{i:Nat}(h:i<L.length):L.getD i []=L[i]:=by rw[List.getD_eq_getElem?_getD,List.getElem?_eq_getElem h];rfl
theorem Tq{L:List Name}{obj:Name->Option O}{nm:Name}(hn:nm∈L):kb L obj (cin L nm)=some (cP L obj nm):=by
 obtain⟨h1,h2⟩:=uT hn
 show (if idx L nm<L.length then some (cP L obj (L.getD (idx L nm) []))else none)=_
 rw[if_pos h1,lf h1,h2]
theorem Pw{L:List Name}{φ:Name->Loc}{nm:Name}(hn:nm∈L):mZ L φ (cin L nm)=φ nm:=by
 obtain⟨h1,h2⟩:=uT hn
 show φ (L.getD (idx L nm) [])=_
 rw[lf h1,h2]
theorem yM{L:List Name}{obj:Name->Option O}:yb (cin L) φ (mZ L φ) obj (kb L obj) (cv L):=by
 intro nm o hd ho
 have hn:=gD.1 hd
 refine⟨cP L obj nm,Tq hn,.inl ⟨?_,Pw hn,?_⟩⟩
 ·simp only[cP,ho];exact O.len_ren _ _
 ·simp only[cP,ho];exact O.sz_ren _ _
theorem Cw{L:List Name}{obj:Name->Option O}{x:Name}{o:O}(h:kb L obj x=some o):∃ (i:Nat) (hi:i<L.length),x=[i,1]/\o=cP L obj L[i]:=by
 unfold kb at h
 split at h
 ·rename_i i
  split at h
  ·rename_i hi
   cases h
   exact⟨i,hi,rfl,by rw[lf hi]⟩
  ·cases h
 ·cases h
def sX(w:World)(m:Mem)(L:List Name)(φ:Name->Loc)(obj:Name->Option O)(rd:Option Nat)(h:∀ l,rd=some l->¬ qi L φ obj l/\∃ r,w.heap[l]?=some (.loop r)):Ghost:=
 ⟨w,m,qi L φ obj,rd,mZ L φ,kb L obj,h⟩
theorem zE{L:List Name}{obj:Name->Option O}(hL:shut obj L=true){x:Name}(h:holds (mZ L φ) (kb L obj) x):∃ (i:Nat) (hi:i<L.length),x=[i,1]/\holds φ obj L[i]:=by
 obtain⟨o,h1,h2,h3⟩:=h
 obtain⟨i,hi,rfl,rfl⟩:=Cw h1
 obtain⟨o',h4,_⟩:=vY hL (List.getElem_mem hi)
 refine⟨i,hi,rfl,o',h4,?_,?_⟩
 ·simp only[cP,h4,O.mut_ren]at h2;exact h2
 ·have:mZ L φ [i,1]=φ L[i]:=by show φ (L.getD i [])=_;rw[lf hi]
  rw[this]at h3;exact h3
theorem MR(hC:aZ G φ m σ a w){L:List Name}(hn:L.Nodup)(hL:shut σ.obj L=true){rd:Option Nat}(nA:∀ l,rd=some l->¬ qi L φ σ.obj l/\∃ r,w.heap[l]?=some (.loop r))
 {nt b0:Nat} {env:Nat->E} {tmps:Array Value} (hs:tmps.size=nt) (he:∀ t,cR (mZ L φ) (kb L σ.obj) m (env t) (tmps.getD t undef)):
 aZ (sX w m L φ σ.obj rd nA) (mZ L φ) m ⟨nt,env,kb L σ.obj,[0],b0⟩ { tmps:=tmps,defers:=[] } w:=by
 have hφ:∀ (i:Nat) (hi:i<L.length),mZ L φ [i,1]=φ L[i]:=fun i hi=>by show φ (L.getD i [])=_;rw[lf hi]
 constructor
 ·exact he
 ·exact hs
 ·exact⟨[],rfl,by simp,by simp⟩
 ·intro x o hx
  obtain⟨i,hi,rfl,rfl⟩:=Cw hx
  obtain⟨o',h4,h5⟩:=vY hL (List.getElem_mem hi)
  rw[hφ i hi]
  simp only[cP,h4]
  exact(hC.objs _ _ h4).ren (Mem.le_refl m) yM h5 fun _ _=>rfl
 ·exact hC.mem
 ·intro x hx off
  obtain⟨i,hi,rfl,h⟩:=zE hL hx
  rw[hφ i hi]
  exact hC.apart _ h off
 ·intro x y hx hy e
  obtain⟨i,hi,rfl,h⟩:=zE hL hx
  obtain⟨j,hj,rfl,h'⟩:=zE hL hy
  rw[hφ i hi,hφ j hj]at e
  have :=(List.getElem_inj hn).1 (hC.inj _ _ h h' e)
  rw[this]
 ·intro x hx
  obtain⟨i,hi,rfl,h⟩:=zE hL hx
  rw[hφ i hi]
  exact .inr ⟨_,List.getElem_mem hi,h,rfl⟩
 ·exact⟨rfl,rfl,rfl,Nat.le_refl _,fun _ _ _=>rfl⟩
 ·intro b off v h;exact .inl h
 ·refine⟨fun x o hx=>?_,Ext.refl _ _⟩
  obtain⟨i,hi,rfl,_⟩:=Cw hx
  exact IC i
structure Pv (σ:S) (os:List O) (o:Out):Prop where
 objs:∀ i (h:i<os.length),σ.obj [i,1]=some (fv o.upd i os[i])
 news:∀ x∈o.new,σ.obj x.1=some x.2
 cd:D.clos (dL os.length o.new) o.d=true
 cu:(o.upd.all fun x=>O.clos (dL os.length o.new) x.2&&decide (x.1<os.length))=true
 cn:(o.new.all fun x=>O.clos (dL os.length o.new) x.2&&!dt x.1)=true
 nd:(o.new.map (·.1)).Nodup
def fresh(obj:Name->Option O)(t:Name)(new:List (Name×O)):Bool:=new.all fun x=>(obj (x.1++t)).isNone
theorem ZN{n:Nat}{new:List (Name×O)}{x:Name×O}(h:dt x.1=false)(hx:x∈new):dL n new x.1=true:=by
 have key:∀ nm:Name,dt nm=false->dL n new nm=new.any fun y=>y.1==nm:=by
  intro nm h
  unfold dL
  split
  ·simp[dt]at h
  ·rfl
 rw[key _ h]
 exact List.any_eq_true.2 ⟨x,hx,by simp⟩
theorem JB{dom:Name->Bool}:∀ (l:List (Nat×O)) (i:Nat) (o:O),O.clos dom o=true->(∀ x∈l,O.clos dom x.2=true)->O.clos dom (fv l i o)=true
 |[],_,_,h,_=>h
 |(j,o')::r,i,o,h,hl=>by
  simp only[fv]
  refine JB r i _ ?_ fun x hx=>hl x (by simp[hx])
  split
  ·exact hl (j,o') (by simp)
  ·exact h
mutual
theorem clos_ren{f:Name->Name}{dom dom':Name->Bool}(hf:∀ nm,dom nm=true->dom' (f nm)=true):∀ d:D,D.clos dom d=true->D.clos dom' (d.ren f)=true
 | .v _,_=>by simp only[D.ren,D.clos]
 | .nilsl,_=>by simp only[D.ren,D.clos]
 | .nilmap,_=>by simp only[D.ren,D.clos]
 | .any,_=>by simp only[D.ren,D.clos]
 | .ref nm _,h=>hf nm h
 | .msl nm _,h=>hf nm h
 | .aref nm _ _ _,h=>hf nm h
 | .map nm,h=>hf nm h
 | .yld nm,h=>hf nm h
 | .clo _ a b,h=>by
   simp only[D.clos,Bool.and_eq_true]at h
   simp only[D.ren,D.clos,Bool.and_eq_true]
   exact⟨tk hf a h.1,tk hf b h.2⟩
 | .agg l,h=>by simp only[D.clos]at h;simp only[D.ren,D.clos];exact tk hf l h
 | .tup l,h=>by simp only[D.clos]at h;simp only[D.ren,D.clos];exact tk hf l h
theorem tk{f:Name->Name}{dom dom':Name->Bool}(hf:∀ nm,dom nm=true->dom' (f nm)=true):∀ l:List D,D.closL dom l=true->D.closL dom' (D.renL f l)=true
 |[],_=>by simp only[D.renL,D.closL]
 |d::r,h=>by
  simp only[D.closL,Bool.and_eq_true]at h
  simp only[D.renL,D.closL,Bool.and_eq_true]
  exact⟨clos_ren hf d h.1,tk hf r h.2⟩
end
theorem O.clos_ren{f:Name->Name}{dom dom':Name->Bool}(hf:∀ nm,dom nm=true->dom' (f nm)=true)(o:O)(h:O.clos dom o=true):O.clos dom' (o.ren f)=true:=by
 cases o with
 |box cs=>simp only[O.clos]at h;simp only[O.ren,O.clos];exact tk hf cs h
 |loop env ps asg body st bR=>
  simp only[O.clos]at h
  simp only[O.ren,O.clos]
  have :=tk hf _ h
  rw[kJ,List.map_map]at this
  rw[List.map_map]
  exact this
 |_=>rfl
theorem MQ(hC:aZ G φ m σ a w){L:List Name}(hn:L.Nodup)(hL:shut σ.obj L=true){rd:Option Nat}{nA:∀ l,rd=some l->¬ qi L φ σ.obj l/\∃ r,w.heap[l]?=some (.loop r)}
 {φ2:Name->Loc} {m2:Mem} {σ2:S} {a2:Act} {w2:World} (fQ:aZ (sX w m L φ σ.obj rd nA) φ2 m2 σ2 a2 w2) {o:Out} (hE:Pv σ2 (L.map (cP L σ.obj)) o) {t:Name} (hf:fresh σ.obj t o.new=true):
 ∃ φ' m',Mem.le m m'/\aZ G φ' m' { σ with obj:=dE L t o.new (cS L t o.upd σ.obj) } a w2/\
   Ext φ φ' σ.obj (dE L t o.new (cS L t o.upd σ.obj))/\
   (∀ d u,aH φ2 σ2.obj m2 d u->D.clos (dL L.length o.new) d=true->aH φ' (dE L t o.new (cS L t o.upd σ.obj)) m' (d.ren (cout L t)) u):=by
 have hlen:(L.map (cP L σ.obj)).length=L.length:=by simp
 obtain⟨h1,h2,h3,h4,h5,h6⟩:=hE
 rw[hlen]at h3 h4 h5
 have hu:(o.upd.all fun x=>decide (x.1<L.length))=true:=List.all_eq_true.2 fun x hx=>by
  have :=List.all_eq_true.1 h4 x hx
  simp only[Bool.and_eq_true]at this;exact this.2
 have zu:∀ x∈o.upd,O.clos (dL L.length o.new) x.2=true:=fun x hx=>by
  have :=List.all_eq_true.1 h4 x hx
  simp only[Bool.and_eq_true]at this;exact this.1
 have XY:∀ x∈o.new,O.clos (dL L.length o.new) x.2=true:=fun x hx=>by
  have :=List.all_eq_true.1 h5 x hx
  simp only[Bool.and_eq_true]at this;exact this.1
 have D1:∀ x∈o.new,dt x.1=false:=fun x hx=>by
  have :=List.all_eq_true.1 h5 x hx
  simp only[Bool.and_eq_true,Bool.not_eq_true']at this;exact this.2
 have dj:∀ x∈o.new,σ.obj (x.1++t)=none:=fun x hx=>by
  have :=List.all_eq_true.1 hf x hx
  simpa using this
 have Y1:∀ nm∈L,∃ o,σ.obj nm=some o:=fun nm h=>let ⟨o,h,_⟩:=vY hL h;⟨o,h⟩
 have sT:∀ nm∈L,∀ x∈o.new,nm≠x.1++t:=fun nm h x hx e=>by
  obtain⟨o',ho⟩:=Y1 nm h
  rw[e,dj x hx]at ho;cases ho
 have YD:∀ nm,cv L nm=true->cout L t (cin L nm)=nm:=fun nm h=>Z' (gD.1 h)
 generalize fa:dE L t o.new (cS L t o.upd σ.obj)=obj'
 have zF:∀ (i:Nat) (hi:i<L.length),obj' L[i]=some ((fv o.upd i (cP L σ.obj L[i])).ren (cout L t)):=fun i hi=>by
  rw[<-fa,wk _ _ (sT _ (List.getElem_mem hi))]
  refine Ij hn _ _ hi _ hu ?_
  obtain⟨o',ho,hc⟩:=vY hL (List.getElem_mem hi)
  simp only[cP,ho]
  rw[O.ren_id YD o' hc]
 have DZ:∀ x∈o.new,obj' (x.1++t)=some (x.2.ren (cout L t)):=fun x hx=>by rw[<-fa];exact Ik _ _ h6 hx
 have DY:∀ nm,nm∉L->(∀ x∈o.new,nm≠x.1++t)->obj' nm=σ.obj nm:=fun nm h h'=>by rw[<-fa,wk _ _ h',Cl _ _ hu h]
 let φ':Name->Loc:=fun nm=>if nm∈L then φ2 (cin L nm)else match o.new.find? (fun x=>x.1++t==nm)with
  |some x=>φ2 x.1
  |none=>φ nm
 have wM:∀ (i:Nat) (hi:i<L.length),φ' L[i]=φ2 [i,1]:=fun i hi=>by
  show (if L[i]∈L then φ2 (cin L L[i])else _)=_
  rw[if_pos (List.getElem_mem hi)]
  show φ2 [idx L L[i],1]=_
  rw[Dm hn hi]
 have zn:∀ x∈o.new,φ' (x.1++t)=φ2 x.1:=fun x hx=>by
  show (if x.1++t∈L then _ else _)=_
  rw[if_neg fun h=>sT _ h x hx rfl]
  cases im:o.new.find? (fun y=>y.1++t==x.1++t)with
  |none=>have:=List.find?_eq_none.1 im x hx;simp at this
  |some y=>
   have :=List.find?_some im
   simp only[beq_iff_eq]at this
   simp only[List.append_cancel_right this]
 have zm:∀ nm,nm∉L->(∀ x∈o.new,nm≠x.1++t)->φ' nm=φ nm:=fun nm h h'=>by
  show (if nm∈L then _ else _)=_
  rw[if_neg h]
  cases im:o.new.find? (fun y=>y.1++t==nm)with
  |none=>rfl
  |some y=>
   have :=List.find?_some im
   simp only[beq_iff_eq]at this
   exact(h' y (List.mem_of_find?_eq_some im) this.symm).elim
 let m':Mem:=fun b off=>match m2 b off with | some c=>some c | none=>m b off
 have zD:=fQ.own
 have sL:∀ b,qi L φ σ.obj b->b<w.heap.size:=fun b ⟨nm,h,⟨o',k1,k2,k3⟩,e⟩=>by rw[<-e];exact(hC.objs nm o' k1).lt k2 k3
 have D7:Mem.le m m':=by
  intro b off v h
  show (match m2 b off with | some c=>some c | none=>m b off)=some v
  cases hq:m2 b off with
  |none=>exact h
  |some c=>
   have k1:=fQ.mem b off c hq
   have k2:=hC.mem b off v h
   rw[rz (fQ.fr.block b (qb k2) fun ⟨nm,_,k3,e⟩=>by
    have :=hC.apart nm k3 off;rw[e,h]at this;cases this)]at k1
   have k3:World.cell? w ⟨b,off,none⟩=some c:=k1
   rw[k2]at k3;exact k3.symm
 have D6:Mem.le m2 m':=by
  intro b off v h
  show (match m2 b off with | some c=>some c | none=>m b off)=some v
  rw[h]
 have zP:∀ b off v,m' b off=some v->m2 b off=some v\/(m2 b off=none/\m b off=some v):=by
  intro b off v h
  have h':(match m2 b off with | some c=>some c | none=>m b off)=some v:=h
  cases hq:m2 b off with
  |none=>rw[hq]at h';exact .inr ⟨rfl,h'⟩
  |some c=>rw[hq]at h';exact .inl h'
 have EC:∀ x,dL L.length o.new x=true->(∃ (i:Nat) (hi:i<L.length),x=[i,1])\/(dt x=false/\∃ y∈o.new,y.1=x):=by
  intro x hx
  unfold dL at hx
  split at hx
  ·rename_i i
   exact .inl ⟨i,by simpa using hx,rfl⟩
  ·obtain⟨y,hy,e⟩:=List.any_eq_true.1 hx
   simp only[beq_iff_eq]at e
   subst e
   exact .inr ⟨D1 y hy,y,hy,rfl⟩
 have vg:∀ (i:Nat) (hi:i<L.length),cout L t [i,1]=L[i]:=fun i hi=>lf hi
 have kX:∀ (i:Nat) (hi:i<L.length),σ2.obj [i,1]=some (fv o.upd i (cP L σ.obj L[i])):=fun i hi=>by
  have :=h1 i (by simpa using hi)
  simpa using this
 have DH:yb (cout L t) φ2 φ' σ2.obj obj' (dL L.length o.new):=by
  intro x q hd hq
  rcases EC x hd with⟨i,hi,rfl⟩ | ⟨hi,y,hy,rfl⟩
  ·rw[vg i hi,zF i hi,wM i hi]
   rw[kX i hi]at hq;cases hq
   exact⟨_,rfl,.inl ⟨O.len_ren _ _,rfl,O.sz_ren _ _⟩⟩
  ·rw[vy hi,DZ y hy,zn y hy]
   rw[h2 y hy]at hq;cases hq
   exact⟨_,rfl,.inl ⟨O.len_ren _ _,rfl,O.sz_ren _ _⟩⟩
 have Yk:∀ (i:Nat) (hi:i<L.length),O.clos (dL L.length o.new) (fv o.upd i (cP L σ.obj L[i]))=true:=by
  intro i hi
  refine JB _ _ _ ?_ zu
  obtain⟨o',ho,hc⟩:=vY hL (List.getElem_mem hi)
  simp only[cP,ho]
  refine O.clos_ren (fun nm hd=>?_) o' hc
  obtain⟨k1,_⟩:=uT (gD.1 hd)
  show decide (idx L nm<L.length)=true
  simpa using k1
 have zW:Ext φ φ' σ.obj obj':=by
  intro nm q hq
  by_cases gb:nm∈L
  ·obtain⟨i,hi,rfl⟩:=List.getElem_of_mem gb
   obtain⟨CA,k1,k2⟩:=fQ.kept.2 [i,1] (cP L σ.obj L[i]) (by
    show kb L σ.obj [i,1]=_
    show (if i<L.length then _ else _)=_
    rw[if_pos hi,lf hi])
   have Xb:CA=fv o.upd i (cP L σ.obj L[i]):=by rw[kX i hi]at k1;exact(Option.some.inj k1).symm
   subst Xb
   have Xn:mZ L φ [i,1]=φ L[i]:=by show φ (L.getD i [])=_;rw[lf hi]
   have cT:(cP L σ.obj L[i]).len?=q.len?/\(cP L σ.obj L[i]).sz=q.sz:=by
    simp only[cP,hq];exact⟨O.len_ren _ _,O.sz_ren _ _⟩
   refine⟨_,zF i hi,?_⟩
   rw[O.len_ren,O.sz_ren,wM i hi]
   rcases k2 with⟨a1,a2,a3⟩ | ⟨n,n',a1,a2,a3⟩
   ·exact .inl ⟨a1.trans cT.1,(a2:φ2 [i,1]=mZ L φ [i,1]).trans Xn,a3.trans cT.2⟩
   ·exact .inr ⟨n,n',cT.1▸a1,a2,a3⟩
  ·have qV:∀ x∈o.new,nm≠x.1++t:=fun x hx e=>by rw[e,dj x hx]at hq;cases hq
   exact⟨q,by rw[DY nm gb qV];exact hq,.inl ⟨rfl,zm nm gb qV,rfl⟩⟩
 have vi:∀ nm,holds φ' obj' nm->(∃ x,holds φ2 σ2.obj x/\φ' nm=φ2 x/\nm=cout L t x/\dL L.length o.new x=true)\/(nm∉L/\(∀ x∈o.new,nm≠x.1++t)/\holds φ σ.obj nm/\φ' nm=φ nm):=by
  rintro nm ⟨q,k1,k2,k3⟩
  by_cases gb:nm∈L
  ·obtain⟨i,hi,rfl⟩:=List.getElem_of_mem gb
   left
   rw[zF i hi]at k1;cases k1
   rw[O.mut_ren]at k2
   rw[wM i hi]at k3
   exact⟨[i,1],⟨_,kX i hi,k2,k3⟩,wM i hi,(vg i hi).symm,by show decide (i<L.length)=true;simpa using hi⟩
  ·by_cases qV:∃ x∈o.new,nm=x.1++t
   ·obtain⟨x,hx,rfl⟩:=qV
    left
    rw[DZ x hx]at k1;cases k1
    rw[O.mut_ren]at k2
    rw[zn x hx]at k3
    refine⟨x.1,⟨_,h2 x hx,k2,k3⟩,zn x hx,(vy (D1 x hx)).symm,?_⟩
    exact ZN (D1 x hx) hx
   ·have sH:∀ x∈o.new,nm≠x.1++t:=fun x hx e=>qV ⟨x,hx,e⟩
    right
    rw[DY nm gb sH]at k1
    rw[zm nm gb sH]at k3
    exact⟨gb,sH,⟨q,k1,k2,k3⟩,zm nm gb sH⟩
 have fw:∀ nm,nm∉L->holds φ σ.obj nm->(φ nm).blk<w.heap.size/\¬ qi L φ σ.obj (φ nm).blk:=by
  intro nm gb hh
  obtain⟨q,k1,k2,k3⟩:=hh
  refine⟨(hC.objs nm q k1).lt k2 k3,fun ⟨x,k4,k5,k6⟩=>?_⟩
  exact gb (hC.inj _ _ k5 ⟨q,k1,k2,k3⟩ k6▸k4)
 have agp:∀ x y,dL L.length o.new x=true->dL L.length o.new y=true->cout L t x=cout L t y->x=y:=by
  intro x y hx hy e
  rcases EC x hx with⟨i,hi,rfl⟩ | ⟨k1,x',bF,rfl⟩<;>rcases EC y hy with⟨j,hj,rfl⟩ | ⟨k2,y',Xs,rfl⟩
  ·rw[vg i hi,vg j hj]at e
   rw[(List.getElem_inj hn).1 e]
  ·rw[vg i hi,vy k2]at e
   exact(sT _ (List.getElem_mem hi) y' Xs e).elim
  ·rw[vg j hj,vy k1]at e
   exact(sT _ (List.getElem_mem hj) x' bF e.symm).elim
  ·rw[vy k1,vy k2]at e
   exact List.append_cancel_right e
 refine⟨φ',m',D7,?_,zW,fun d u hd hc=>hd.renx D6 DH hc⟩
 constructor
 ·exact fun x=>(hC.tmps x).ext D7 zW
 ·exact hC.size
 ·obtain⟨ds,k1,k2,k3⟩:=hC.defers
  refine⟨ds,k1,k2,fun D hD=>⟨(k3 D hD).1,?_⟩⟩
  have k4:=(k3 D hD).2
  rw[fQ.fr.block D (Array.getElem?_eq_some_iff.1 k4).1 fun ⟨x,_,⟨q,k5,k6,k7⟩,k8⟩=>(hC.objs x q k5).notDef k6 k7 _ (by rw[k8];exact k4)]
  exact k4
 ·intro nm q hq
  by_cases gb:nm∈L
  ·obtain⟨i,hi,rfl⟩:=List.getElem_of_mem gb
   have bZ:obj' L[i]=some q:=hq
   rw[zF i hi]at bZ;cases bZ
   rw[wM i hi]
   exact(fQ.objs _ _ (kX i hi)).ren D6 DH (Yk i hi) fun _ _=>rfl
  ·by_cases qV:∃ x∈o.new,nm=x.1++t
   ·obtain⟨x,hx,rfl⟩:=qV
    have bZ:obj' (x.1++t)=some q:=hq
    rw[DZ x hx]at bZ;cases bZ
    rw[zn x hx]
    exact(fQ.objs _ _ (h2 x hx)).ren D6 DH (XY x hx) fun _ _=>rfl
   ·have sH:∀ x∈o.new,nm≠x.1++t:=fun x hx e=>qV ⟨x,hx,e⟩
    have bZ:obj' nm=some q:=hq
    rw[DY nm gb sH]at bZ
    rw[zm nm gb sH]
    refine(hC.objs nm q bZ).ext D7 zW fun k2 k3=>?_
    obtain⟨k4,k5⟩:=fw nm gb ⟨q,bZ,k2,k3⟩
    exact fQ.fr.block _ k4 k5
 ·intro b off v h
  rcases zP b off v h with h | ⟨mu,h⟩
  ·exact fQ.mem b off v h
  ·have k2:=hC.mem b off v h
   rw[rz (fQ.fr.block b (qb k2) fun ⟨nm,_,k3,e⟩=>by
    have :=hC.apart nm k3 off;rw[e,h]at this;cases this)]
   exact k2
 ·intro nm hh off
  rcases vi nm hh with⟨x,k1,k2,_,_⟩ | ⟨k1,k2,k3,k4⟩
  ·rw[k2]
   cases hq:m' (φ2 x).blk off with
   |none=>rfl
   |some v=>
    rcases zP _ _ _ hq with h | ⟨_,h⟩
    ·have:=fQ.apart x k1 off;rw[h]at this;cases this
    ·rcases zD x k1 with h' | ⟨kM,k5,k6,k7⟩
     ·have:=qb (hC.mem _ _ _ h)
      have hG:w.heap.size<=(φ2 x).blk:=h'
      omega
     ·have:=hC.apart kM k6 off
      rw[k7,h]at this;cases this
  ·rw[k4]
   obtain⟨k5,k6⟩:=fw nm k1 k3
   cases hq:m' (φ nm).blk off with
   |none=>rfl
   |some v=>
    rcases zP _ _ _ hq with h | ⟨_,h⟩
    ·rcases fQ.fresh _ _ _ h with h' | h' | h'
     ·have:=hC.apart nm k3 off
      have hG:m (φ nm).blk off=some v:=h'
      rw[hG]at this;cases this
     ·have hG:w.heap.size<=(φ nm).blk:=h'
      omega
     ·exact(k6 h').elim
    ·have:=hC.apart nm k3 off;rw[h]at this;cases this
 ·intro nm kM hh Yb e
  rcases vi nm hh with⟨x,k1,k2,k3,k4⟩ | ⟨k1,k2,k3,k4⟩<;>rcases vi kM Yb with⟨x',j1,j2,j3,j4⟩ | ⟨j1,j2,j3,j4⟩
  ·rw[k2,j2]at e
   rw[k3,j3,fQ.inj _ _ k1 j1 e]
  ·exfalso
   rw[k2,j4]at e
   obtain⟨k5,k6⟩:=fw kM j1 j3
   rcases zD x k1 with h' | h'
   ·have hG:w.heap.size<=(φ2 x).blk:=h'
    omega
   ·rw[e]at h';exact k6 h'
  ·exfalso
   rw[k4,j2]at e
   obtain⟨k5,k6⟩:=fw nm k1 k3
   rcases zD x' j1 with h' | h'
   ·have hG:w.heap.size<=(φ2 x').blk:=h'
    omega
   ·rw[<-e]at h';exact k6 h'
  ·rw[k4,j4]at e
   exact hC.inj _ _ k3 j3 e
 ·intro nm hh
  rcases vi nm hh with⟨x,k1,k2,_,_⟩ | ⟨k1,k2,k3,k4⟩
  ·rw[k2]
   rcases zD x k1 with h' | ⟨kM,k5,k6,k7⟩
   ·exact .inl (Nat.le_trans hC.fr.size h')
   ·rw[<-k7];exact hC.own kM k6
  ·rw[k4];exact hC.own nm k3
 ·refine⟨fQ.fr.os.trans hC.fr.os,fQ.fr.tape.trans hC.fr.tape,fQ.fr.output.trans hC.fr.output,Nat.le_trans hC.fr.size fQ.fr.size,fun b hb ho=>?_⟩
  rw[fQ.fr.block b (Nat.lt_of_lt_of_le hb hC.fr.size) fun ⟨nm,_,k3,e⟩=>?_]
  ·exact hC.fr.block b hb ho
  ·rcases hC.own nm k3 with h | h<;>rw[e]at h
   ·omega
   ·exact ho h
 ·intro b off v h
  rcases zP b off v h with h | ⟨_,h⟩
  ·rcases fQ.fresh _ _ _ h with h' | h' | ⟨nm,_,k3,e⟩
   ·exact hC.fresh _ _ _ h'
   ·exact .inr (.inl (Nat.le_trans hC.fr.size h'))
   ·rw[<-e];exact .inr (hC.own nm k3)
  ·exact hC.fresh _ _ _ h
 ·exact⟨hC.kept.1,hC.kept.2.trans zW⟩
end
def dD:Nat->List D->List (Nat×E)
 |_,[]=>[]
 |k,x::r=>(k,⟨true,x⟩)::dD (k+1) r
theorem OF:∀ {k:Nat} {xs:List D} {t:Nat} {e:E},(t,e)∈dD k xs->∃ (i:Nat) (h:i<xs.length),t=k+i/\e=⟨true,xs[i]⟩
 |k,[],t,e,h=>by simp[dD]at h
 |k,x::r,t,e,h=>by
  simp only[dD,List.mem_cons,Prod.mk.injEq]at h
  rcases h with⟨rfl,rfl⟩ | h
  ·exact⟨0,by simp,rfl,rfl⟩
  ·obtain⟨i,hi,h1,h2⟩:=OF h
   exact⟨i+1,by simpa using hi,by omega,by simpa using h2⟩
structure CSpec where
 pre:List O->List D->Prop
 out:List O->List D->Out
def cJ(obj:Name->Option O)(ds:List D):List O:=(reach obj ds).map (cP (reach obj ds) obj)
def cY(obj:Name->Option O)(ds:List D):List D:=D.renL (cin (reach obj ds)) ds
def CSpec.toSpec(s:CSpec):Spec where
 app obj t ds:=⟨(shut obj (reach obj ds)&&D.closL (cv (reach obj ds)) ds&&fresh obj t (s.out (cJ obj ds) (cY obj ds)).new)=true/\s.pre (cJ obj ds) (cY obj ds),
  (s.out (cJ obj ds) (cY obj ds)).d.ren (cout (reach obj ds) t),dE (reach obj ds) t (s.out (cJ obj ds) (cY obj ds)).new (cS (reach obj ds) t (s.out (cJ obj ds) (cY obj ds)).upd obj)⟩
 foot obj t ds:=reach obj ds++((s.out (cJ obj ds) (cY obj ds)).upd.map fun x=>(reach obj ds).getD x.1 [])++(s.out (cJ obj ds) (cY obj ds)).new.map fun x=>x.1++t
 wrt obj t ds:=((s.out (cJ obj ds) (cY obj ds)).upd.map fun x=>(reach obj ds).getD x.1 [])++(s.out (cJ obj ds) (cY obj ds)).new.map fun x=>x.1++t
theorem uz{L:List Name}{t:Name}:∀ (l:List (Nat×O)) (obj obj2:Name->Option O) (nm:Name),cS L t l obj2 nm=if nm∈l.map (fun x=>L.getD x.1 [])then cS L t l obj nm else obj2 nm
 |[],obj,obj2,nm=>by simp[cS]
 |(i,o)::r,obj,obj2,nm=>by
  simp only[cS,List.map_cons,List.mem_cons]
  rw[uz r (upd obj (L.getD i []) (some (o.ren (cout L t)))) (upd obj2 (L.getD i []) (some (o.ren (cout L t)))) nm]
  by_cases h:nm∈r.map (fun x=>L.getD x.1 [])
  ·rw[if_pos h,if_pos (.inr h)]
  ·rw[if_neg h]
   by_cases e:nm=L.getD i []
   ·rw[if_pos (.inl e)]
    have hu:cS L t r (upd obj (L.getD i []) (some (o.ren (cout L t)))) nm=(upd obj (L.getD i []) (some (o.ren (cout L t)))) nm:=by
     rw[uz r obj _ nm,if_neg h]
    rw[hu,e,aU,aU]
   ·rw[if_neg (by simp only[not_or];exact⟨e,h⟩)]
    exact ba _ _ _ e
theorem rY{L:List Name}{t:Name}:∀ (l:List (Name×O)) (obj obj2:Name->Option O) (nm:Name),dE L t l obj2 nm=if nm∈l.map (fun x=>x.1++t)then dE L t l obj nm else obj2 nm
 |[],obj,obj2,nm=>by simp[dE]
 |(i,o)::r,obj,obj2,nm=>by
  simp only[dE,List.map_cons,List.mem_cons]
  rw[rY r (upd obj (i++t) (some (o.ren (cout L t)))) (upd obj2 (i++t) (some (o.ren (cout L t)))) nm]
  by_cases h:nm∈r.map (fun x=>x.1++t)
  ·rw[if_pos h,if_pos (.inr h)]
  ·rw[if_neg h]
   by_cases e:nm=i++t
   ·rw[if_pos (.inl e)]
    have hu:dE L t r (upd obj (i++t) (some (o.ren (cout L t)))) nm=(upd obj (i++t) (some (o.ren (cout L t)))) nm:=by
     rw[rY r obj _ nm,if_neg h]
    rw[hu,e,aU,aU]
   ·rw[if_neg (by simp only[not_or];exact⟨e,h⟩)]
    exact ba _ _ _ e
theorem pc{obj obj2:Name->Option O}{ds:List D}(h:bX (reach obj ds) obj obj2):reach obj2 ds=reach obj ds:=Cg _ _ _ h
theorem xL{obj obj2:Name->Option O}{ds:List D}(h:bX (reach obj ds) obj obj2):cJ obj2 ds=cJ obj ds:=by
 unfold cJ
 rw[pc h]
 exact List.map_congr_left fun nm hn=>by simp only[cP];rw[h nm hn]
theorem FF{obj obj2:Name->Option O}{ds:List D}(h:bX (reach obj ds) obj obj2):cY obj2 ds=cY obj ds:=by
 unfold cY
 rw[pc h]
theorem BP{obj obj2:Name->Option O}{L:List Name}(h:bX L obj obj2):shut obj2 L=shut obj L:=by
 unfold shut
 refine Bool.eq_iff_iff.2 ?_
 simp only[List.all_eq_true]
 exact⟨fun k x hx=>by rw[<-h x hx];exact k x hx,fun k x hx=>by rw[h x hx];exact k x hx⟩
theorem Af{obj obj2:Name->Option O}{t:Name}{new:List (Name×O)}(h:bX (new.map fun x=>x.1++t) obj obj2):fresh obj2 t new=fresh obj t new:=by
 unfold fresh
 refine Bool.eq_iff_iff.2 ?_
 simp only[List.all_eq_true]
 exact⟨fun k x hx=>by rw[<-h _ (List.mem_map_of_mem hx)];exact k x hx,fun k x hx=>by rw[h _ (List.mem_map_of_mem hx)];exact k x hx⟩
theorem CZ{ok ok2:Prop}{d:D}{obj obj2:Name->Option O}{L:List Name}{t:Name}{o:Out}(ab:ok2=ok)
 (ha:bX ((o.upd.map fun x=>L.getD x.1 [])++o.new.map fun x=>x.1++t) obj obj2):
 cb ⟨ok,d,dE L t o.new (cS L t o.upd obj)⟩ ⟨ok2,d,dE L t o.new (cS L t o.upd obj2)⟩ obj obj2 ((o.upd.map fun x=>L.getD x.1 [])++o.new.map fun x=>x.1++t):=by
 refine⟨ab,rfl,fun nm=>?_,fun nm hn=>?_⟩
 ·show dE L t o.new (cS L t o.upd obj2) nm=if nm∈_ then dE L t o.new (cS L t o.upd obj) nm else obj2 nm
  rw[rY o.new (cS L t o.upd obj) (cS L t o.upd obj2) nm]
  by_cases h1:nm∈o.new.map (fun x=>x.1++t)
  ·rw[if_pos h1,if_pos (List.mem_append_right _ h1)]
  ·rw[if_neg h1,uz o.upd obj obj2 nm]
   by_cases h2:nm∈o.upd.map (fun x=>L.getD x.1 [])
   ·rw[if_pos h2,if_pos (List.mem_append_left _ h2)]
    rw[rY o.new obj (cS L t o.upd obj) nm,if_neg h1]
   ·rw[if_neg h2,if_neg (by simp only[List.mem_append,not_or];exact⟨h2,h1⟩)]
 ·show dE L t o.new (cS L t o.upd obj) nm=obj nm
  simp only[List.mem_append,not_or]at hn
  rw[rY o.new obj (cS L t o.upd obj) nm,if_neg hn.2,uz o.upd obj obj nm,if_neg hn.1]
theorem CSpec.near(s:CSpec):s.toSpec.Near:=by
 have key:∀ {obj obj2:Name->Option O} {t:Name} {ds:List D},bX (s.toSpec.foot obj t ds) obj obj2->bX (reach obj ds) obj obj2/\
     bX (((s.out (cJ obj ds) (cY obj ds)).upd.map fun x=>(reach obj ds).getD x.1 [])++(s.out (cJ obj ds) (cY obj ds)).new.map fun x=>x.1++t) obj obj2:=by
  intro obj obj2 t ds h
  refine⟨fun nm hn=>h nm ?_,fun nm hn=>h nm ?_⟩
  ·exact List.mem_append_left _ (List.mem_append_left _ hn)
  ·rcases List.mem_append.1 hn with hn | hn
   ·exact List.mem_append_left _ (List.mem_append_right _ hn)
   ·exact List.mem_append_right _ hn
 refine⟨fun obj obj2 t ds h=>?_,fun obj obj2 t ds h=>?_,fun obj t ds nm hn=>?_,fun obj obj2 t ds h=>?_⟩
 ·obtain⟨h1,h2⟩:=key h
  simp only[CSpec.toSpec]
  rw[xL h1,FF h1,pc h1]
  refine CZ ?_ h2
  rw[BP h1,Af fun nm hn=>h2 nm (List.mem_append_right _ hn)]
 ·obtain⟨h1,h2⟩:=key h
  simp only[CSpec.toSpec]
  rw[xL h1,FF h1,pc h1]
 ·simp only[CSpec.toSpec]at hn |-
  rcases List.mem_append.1 hn with hn | hn
  ·exact List.mem_append_left _ (List.mem_append_right _ hn)
  ·exact List.mem_append_right _ hn
 ·obtain⟨h1,h2⟩:=key h
  simp only[CSpec.toSpec]
  rw[xL h1,FF h1,pc h1]
def r9(σ:S)(u:List (Nat×O)):Nat->List O->Prop
 |_,[]=>True
 |i,o::r=>σ.obj [i,1]=some (fv u i o)/\r9 σ u (i+1) r
theorem I2{σ:S}{u:List (Nat×O)}:∀ {l:List O} {k:Nat},r9 σ u k l->∀ i (h:i<l.length),σ.obj [k+i,1]=some (fv u (k+i) l[i])
 |o::r,k,h,0,_=>h.1
 |o::r,k,h,i+1,hi=>by
  have :=I2 h.2 i (by simpa using hi)
  rw[show k+(i+1)=k+1+i by omega]
  simpa using this
def wv(σ:S):List (Name×O)->Prop
 |[]=>True
 |x::r=>σ.obj x.1=some x.2/\wv σ r
theorem Jb{σ:S}:∀ {l:List (Name×O)},wv σ l->∀ x∈l,σ.obj x.1=some x.2
 |y::r,h,x,hx=>by
  rcases List.mem_cons.1 hx with rfl | hx
  ·exact h.1
  ·exact Jb h.2 x hx
def distinct:List Name->Bool
 |[]=>true
 |x::r=>(r.all fun y=>!(x==y))&&distinct r
theorem Nt:∀ {l:List Name},distinct l=true->l.Nodup
 |[],_=>by simp
 |x::r,h=>by
  simp only[distinct,Bool.and_eq_true]at h
  refine List.nodup_cons.2 ⟨fun hx=>?_,Nt h.2⟩
  have :=List.all_eq_true.1 h.1 x hx
  simp at this
def gq(os:List O)(o:Out)(σ:S):Prop:=
 r9 σ o.upd 0 os/\wv σ o.new/\
  (D.clos (dL os.length o.new) o.d&&(o.upd.all fun x=>O.clos (dL os.length o.new) x.2&&decide (x.1<os.length))&&(o.new.all fun x=>O.clos (dL os.length o.new) x.2&&!dt x.1)&&distinct (o.new.map (·.1)))=true
theorem Nl{os:List O}{o:Out}{σ:S}(h:gq os o σ):Pv σ os o:=by
 obtain⟨h1,h2,h3⟩:=h
 simp only[Bool.and_eq_true]at h3
 exact⟨fun i hi=>by simpa using I2 h1 i hi,Jb h2,h3.1.1.1,h3.1.1.2,by simpa using h3.1.2,Nt h3.2⟩
def wi(P:Program)(rs:List ResultVar)(os:List O)(o:Out):Exit->S->Prop
 | .normal,σ=>(b9 P σ rs).ok/\(b9 P σ rs).d=o.d/\gq os o σ
 | .ret,σ=>(b9 P σ rs).ok/\(b9 P σ rs).d=o.d/\gq os o σ
 |_,_=>False
def aS(os:List O):Name->Option O
 |[i,1]=>os[i]?
 |_=>none
theorem Tp{L:List Name}{obj:Name->Option O}{x:Name}(h:dt x=false):kb L obj x=none:=by
 unfold kb
 split
 ·simp[dt]at h
 ·rfl
theorem yS{os:List O}{x:Name}(h:dt x=false):aS os x=none:=by
 unfold aS
 split
 ·simp[dt]at h
 ·rfl
theorem yX{L:List Name}{obj:Name->Option O}:kb L obj=aS (L.map (cP L obj)):=by
 funext x
 cases hx:dt x with
 |false=>rw[Tp hx,yS hx]
 |true=>
  obtain⟨i,rfl⟩:=uP.1 hx
  show (if i<L.length then some (cP L obj (L.getD i []))else none)=(L.map (cP L obj))[i]?
  by_cases hi:i<L.length
  ·rw[if_pos hi,List.getElem?_eq_getElem (by simpa using hi)]
   rw[lf hi,List.getElem_map]
  ·rw[if_neg hi,List.getElem?_eq_none (by simpa using hi)]
theorem CN{nt:Nat}{l:List (Nat×E)}{os:List O}:bm nt [0] (aS os) l []=⟨nt,dH eAny l,aS os,[0],0⟩:=by
 unfold bm
 congr 1
 funext nm
 split
 ·rename_i h
  have :dt nm=false:=by
   cases hc:dt nm with
   |false=>rfl
   |true=>
    obtain⟨i,rfl⟩:=uP.1 hc
    rw[IC]at h;cases h
  unfold aS
  split
  ·simp[dt]at this
  ·rfl
 ·rfl
theorem mI{P:Program}{f:FuncId}{fn:Func}{c:Code}{s:CSpec}{nt:Nat}{rs:List ResultVar}(hf:P.funcs[f]?=some fn)(hb:fn.body=some c)(cB:fn.ntmps=nt)(cg:fn.results.toList=rs)
 (nJ:∀ args w,(callFunc f args).run P w=.ok (.enter f args) w) (aG:f≠yid)
 (h:∀ os ds,s.pre os ds->ds.length<=nt/\CW P c (bm nt [0] (aS os) (dD 0 ds) []) (wi P rs os (s.out os ds))):aM P f s.toSpec:=by
 subst cB
 subst cg
 refine⟨s.near,fun _=>nJ,fun _ G φ m σ a w hC t ds us _ hl hr ab=>?_,fun e=>(aG e).elim⟩
 obtain⟨ab,dJ⟩:=ab
 simp only[Bool.and_eq_true]at ab
 obtain⟨⟨ie,cT⟩,dj⟩:=ab
 obtain⟨hlen,nL⟩:=h _ _ dJ
 have ca:(reach σ.obj ds).Nodup:=yN _ _ _ (by simp)
 simp only[cY,kJ,List.length_map]at hlen
 refine(callsIn_wide (n:=0)).1 (callsIn_of_wp_marks hf hb trivial ?_)
 have mB:=MR hC (L:=reach σ.obj ds) ca ie (rd:=none) (fun l h=>by cases h) (b0:=0) (nt:=fn.ntmps) (env:=dH eAny (dD 0 (cY σ.obj ds)))
  (tmps:=us++Array.replicate (fn.ntmps-us.size) undef) (by simp;omega) (fun t=>by
    rcases uD (z:=eAny) (dD 0 (cY σ.obj ds)) t with h1 | h1
    ·rw[h1];unfold cR eAny;simp;exact .any _
    ·obtain⟨i,hi,h2,h3⟩:=OF h1
     rw[h3]
     unfold cR
     simp only[if_true]
     simp only[cY,kJ,List.length_map]at hi
     have bU:i<us.size:=by omega
     have e:((us++Array.replicate (fn.ntmps-us.size) undef).getD t undef)=us[i]:=by
      have an:0+i<(us++Array.replicate (fn.ntmps-us.size) undef).size:=by simp;omega
      rw[h2]
      simp only[Array.getD,an,dite_true]
      show (us++Array.replicate (fn.ntmps-us.size) undef)[0+i]=us[i]
      simp only[Nat.zero_add]
      exact Array.getElem_append_left bU
     rw[e]
     simp only[cY,kJ,List.getElem_map]
     exact(hr i hi bU).renx (Mem.le_refl m) yM (jy hi cT))
 rw[CN]at nL
 rw[yX]at mB
 refine wpIn_mono (nL _ _ m _ w mB) ?_
 rintro e a1 w1 ⟨φ2,m2,σ2,iu,hK⟩
 have fin:(b9 P σ2 fn.results.toList).ok/\(b9 P σ2 fn.results.toList).d=(s.out (cJ σ.obj ds) (cY σ.obj ds)).d/\gq (cJ σ.obj ds) (s.out (cJ σ.obj ds) (cY σ.obj ds)) σ2->
     LeavesInM Fence.wide 0 P fn a1.tmps (fun e w'=>∃ v φ' m',e=.returned v/\aZ G φ' m' { σ with obj:=(s.toSpec.app σ.obj t ds).obj } a w'/\aH φ' (s.toSpec.app σ.obj t ds).obj m' (s.toSpec.app σ.obj t ds).d v/\Ext φ φ' σ.obj (s.toSpec.app σ.obj t ds).obj) a1.defers .returning w1:=by
  rintro⟨h1,h2,h3⟩
  refine C1 a1.defers rfl iu fun a' w' _ cU=>?_
  obtain⟨v,h4,h5⟩:=HP cU fn h1
  rw[h2]at h5
  have hE:=Nl h3
  obtain⟨φ',m',k1,k2,k3,k4⟩:=MQ hC ca ie cU hE dj
  have vh:=hE.cd
  simp only[cJ,List.length_map]at vh
  exact⟨v,h4,v,φ',m',rfl,k2,k4 _ _ h5 vh,k3⟩
 cases e with
 |normal=>exact fin hK
 |ret=>exact fin hK
 |_=>exact hK.elim
theorem cb.more{ok ok2:Prop}{d d2:D}{o1 o2 obj obj2:Name->Option O}{wr:List Name}(nm:Name)(x:Option O)(h:cb ⟨ok,d,o1⟩ ⟨ok2,d2,o2⟩ obj obj2 wr):
 cb ⟨ok,d,upd o1 nm x⟩ ⟨ok2,d2,upd o2 nm x⟩ obj obj2 (nm::wr):=by
 refine⟨h.ok,h.d,fun y=>?_,fun y hy=>?_⟩
 ·show upd o2 nm x y=if y∈nm::wr then upd o1 nm x y else obj2 y
  by_cases e:y=nm
  ·subst e;rw[aU,if_pos (by simp),aU]
  ·rw[ba _ _ _ e,ba _ _ _ e]
   have :=h.eff y
   simp only at this
   rw[this]
   by_cases hy:y∈wr
   ·rw[if_pos hy,if_pos (List.mem_cons_of_mem _ hy)]
   ·rw[if_neg hy,if_neg (by simp[e,hy])]
 ·simp only[List.mem_cons,not_or]at hy
  show upd o1 nm x y=obj y
  rw[ba _ _ _ hy.1]
  exact h.frame y hy.2
structure YSpec where
 pre:List E->List Nat->Code->Code->List O->List D->Prop
 out:List E->List Nat->Code->Code->List O->List D->Out×Option Code
def roots(env:List E)(ds:List D):List D:=env.map (·.d)++ds
def jd(obj:Name->Option O)(env:List E)(ds:List D):List E:=env.map (E.ren (cin (reach obj (roots env ds))))
def j5(obj:Name->Option O)(env:List E)(ds:List D):List D:=D.renL (cin (reach obj (roots env ds))) ds
def YSpec.o(y:YSpec)(obj:Name->Option O)(env:List E)(ps:List Nat)(asg body:Code)(ds:List D):Out×Option Code:=
 y.out (jd obj env ds) ps asg body (cJ obj (roots env ds)) (j5 obj env ds)
def YSpec.toSpec(y:YSpec):Spec where
 app obj t args:=match args with
  | .yld nm::ds=>match obj nm with
    |some (.loop env ps asg body .ready none)=>
     ⟨(shut obj (reach obj (roots env ds))&&D.closL (cv (reach obj (roots env ds))) (roots env ds)&&fresh obj t (y.o obj env ps asg body ds).1.new&&!cv (reach obj (roots env ds)) nm&&
         decide (ds.length=ps.length)&&(ps.all fun p=>decide (p<env.length)))=true/\y.pre (jd obj env ds) ps asg body (cJ obj (roots env ds)) (j5 obj env ds),
       .v (.bool (y.o obj env ps asg body ds).2.isNone),
       upd (dE (reach obj (roots env ds)) t (y.o obj env ps asg body ds).1.new (cS (reach obj (roots env ds)) t (y.o obj env ps asg body ds).1.upd obj)) nm
        (some (.loop env ps asg body (if (y.o obj env ps asg body ds).2.isNone then .ready else .done) (y.o obj env ps asg body ds).2))⟩
    |_=>.bad obj
  |_=>.bad obj
 foot obj t args:=match args with
  | .yld nm::ds=>nm::(match obj nm with
    |some (.loop env ps asg body .ready none)=>reach obj (roots env ds)++((y.o obj env ps asg body ds).1.upd.map fun x=>(reach obj (roots env ds)).getD x.1 [])++(y.o obj env ps asg body ds).1.new.map fun x=>x.1++t
    |_=>[])
  |_=>[]
 wrt obj t args:=match args with
  | .yld nm::ds=>nm::(match obj nm with
    |some (.loop env ps asg body .ready none)=>((y.o obj env ps asg body ds).1.upd.map fun x=>(reach obj (roots env ds)).getD x.1 [])++(y.o obj env ps asg body ds).1.new.map fun x=>x.1++t
    |_=>[])
  |_=>[]
theorem YSpec.near(y:YSpec):y.toSpec.Near:=by
 have Cy:∀ {obj obj2:Name->Option O} {env:List E} {ps:List Nat} {asg body:Code} {ds:List D},bX (reach obj (roots env ds)) obj obj2->
     y.o obj2 env ps asg body ds=y.o obj env ps asg body ds/\jd obj2 env ds=jd obj env ds/\j5 obj2 env ds=j5 obj env ds:=by
  intro obj obj2 env ps asg body ds h
  unfold YSpec.o jd j5
  rw[xL h,pc h]
  exact⟨rfl,rfl,rfl⟩
 have split:∀ {A B C:List Name} {obj obj2:Name->Option O} {nm:Name},bX (nm::(A++B++C)) obj obj2->bX A obj obj2/\bX (B++C) obj obj2:=by
  intro A B C obj obj2 nm h
  refine⟨fun x hx=>h x ?_,fun x hx=>h x ?_⟩
  ·exact List.mem_cons_of_mem _ (List.mem_append_left _ (List.mem_append_left _ hx))
  ·rcases List.mem_append.1 hx with hx | hx
   ·exact List.mem_cons_of_mem _ (List.mem_append_left _ (List.mem_append_right _ hx))
   ·exact List.mem_cons_of_mem _ (List.mem_append_right _ hx)
 have AM:∀ (args:List D),(∃ nm ds,args=.yld nm::ds)\/(∀ obj t,y.toSpec.app obj t args=.bad obj/\y.toSpec.foot obj t args=[]/\y.toSpec.wrt obj t args=[]):=by
  intro args
  rcases args with _ | ⟨d,ds⟩
  ·exact .inr fun _ _=>⟨rfl,rfl,rfl⟩
  ·cases d with
   |yld nm=>exact .inl ⟨nm,ds,rfl⟩
   |_=>exact .inr fun _ _=>⟨rfl,rfl,rfl⟩
 refine⟨fun obj obj2 t args h=>?_,fun obj obj2 t args h=>?_,fun obj t args kM hn=>?_,fun obj obj2 t args h=>?_⟩
 ·rcases AM args with⟨nm,ds,rfl⟩ | hb
  ·simp only[YSpec.toSpec]at h |-
   have h0:obj2 nm=obj nm:=h nm (by simp)
   rw[h0]
   split
   ·rename_i env ps asg body ho
    simp only[ho]at h
    obtain⟨h1,h2⟩:=split h
    obtain⟨e1,e2,e3⟩:=Cy (ps:=ps) (asg:=asg) (body:=body) h1
    rw[e1,e2,e3,xL h1,pc h1]
    refine cb.more nm _ (CZ ?_ h2)
    rw[BP h1,Af fun nm hn=>h2 nm (List.mem_append_right _ hn)]
   ·exact .none _ fun x hx=>by simp only[List.mem_singleton]at hx;subst hx;exact h0
  ·rw[(hb obj t).1,(hb obj2 t).1,(hb obj t).2.2]
   exact .same rfl rfl rfl rfl
 ·rcases AM args with⟨nm,ds,rfl⟩ | hb
  ·simp only[YSpec.toSpec]at h |-
   have h0:obj2 nm=obj nm:=h nm (by simp)
   rw[h0]
   split
   ·rename_i env ps asg body ho
    simp only[ho]at h
    obtain⟨h1,h2⟩:=split h
    obtain⟨e1,e2,e3⟩:=Cy (ps:=ps) (asg:=asg) (body:=body) h1
    rw[e1,pc h1]
   ·rfl
  ·rw[(hb obj t).2.1,(hb obj2 t).2.1]
 ·rcases AM args with⟨nm,ds,rfl⟩ | hb
  ·simp only[YSpec.toSpec]at hn |-
   rcases List.mem_cons.1 hn with rfl | hn
   ·simp
   ·refine List.mem_cons_of_mem _ ?_
    split at hn
    ·rename_i env ps asg body ho
     try simp only[ho]
     rcases List.mem_append.1 hn with hn | hn
     ·exact List.mem_append_left _ (List.mem_append_right _ hn)
     ·exact List.mem_append_right _ hn
    ·cases hn
  ·rw[(hb obj t).2.2]at hn;cases hn
 ·rcases AM args with⟨nm,ds,rfl⟩ | hb
  ·simp only[YSpec.toSpec]at h |-
   have h0:obj2 nm=obj nm:=h nm (by simp)
   rw[h0]
   split
   ·rename_i env ps asg body ho
    simp only[ho]at h
    obtain⟨h1,h2⟩:=split h
    obtain⟨e1,e2,e3⟩:=Cy (ps:=ps) (asg:=asg) (body:=body) h1
    rw[e1,pc h1]
   ·rfl
  ·rw[(hb obj t).2.2,(hb obj2 t).2.2]
def s5(env:List E):Nat->E:=fun t=>env.getD t eAny
def qu:(Nat->E)->List Nat->List D->(Nat->E)
 |f,p::ps,d::ds=>qu (upd f p ⟨true,d⟩) ps ds
 |f,_,_=>f
def IF(k:S->Prop):Exit->S->Prop
 | .normal,σ=>k σ
 |_,_=>False
def SC(os:List O)(o:Out×Option Code):Exit->S->Prop
 | .normal,σ=>o.2=none/\gq os o.1 σ
 | .ret,σ=>o.2=some .ret/\gq os o.1 σ
 | .exit id,σ=>o.2=some (.exit id)/\gq os o.1 σ
 |_,_=>False
theorem Hf{φ:Name->Loc}{obj:Name->Option O}{m:Mem}{n:Nat}:∀ (ps:List Nat) (ds:List D) (us:List Value) (f:Nat->E) (tmps:Array Value),tmps.size=n->ps.length=ds.length->ds.length=us.length->
 (∀ p∈ps,p<n)->(∀ t,cR φ obj m (f t) (tmps.getD t undef))->(∀ i (h:i<ds.length) (h':i<us.length),aH φ obj m ds[i] us[i])->
 (∀ t,cR φ obj m (qu f ps ds t) (((ps.zip us).foldl (fun tmps (p:Nat×Value)=>tmps.setIfInBounds p.1 p.2) tmps).getD t undef))/\((ps.zip us).foldl (fun tmps (p:Nat×Value)=>tmps.setIfInBounds p.1 p.2) tmps).size=n
 |[],ds,us,f,tmps,hs,h1,h2,hp,hf,hr=>by
  have :ds=[]:=List.eq_nil_of_length_eq_zero (by simpa using h1.symm)
  subst this
  exact⟨hf,hs⟩
 |p::ps,[],us,f,tmps,hs,h1,h2,hp,hf,hr=>by simp at h1
 |p::ps,d::ds,[],f,tmps,hs,h1,h2,hp,hf,hr=>by simp at h2
 |p::ps,d::ds,u::us,f,tmps,hs,h1,h2,hp,hf,hr=>by
  simp only[List.zip_cons_cons,List.foldl_cons,qu]
  refine Hf ps ds us _ _ (by simpa using hs) (by simpa using h1) (by simpa using h2) (fun q hq=>hp q (by simp[hq])) (fun t=>?_) fun i a b=>by
   have :=hr (i+1) (by simpa using a) (by simpa using b)
   simpa using this
  have aa:p<tmps.size:=by rw[hs];exact hp p (by simp)
  by_cases ht:t=p
  ·subst ht
   rw[aU]
   have e:(tmps.setIfInBounds t u).getD t undef=u:=by simp[Array.getD,aa]
   rw[e]
   unfold cR
   simp only[if_true]
   exact hr 0 (by simp) (by simp)
  ·rw[ba _ _ _ ht]
   have e:(tmps.setIfInBounds p u).getD t undef=tmps.getD t undef:=by
    simp only[Array.getD_eq_getD_getElem?]
    rw[Array.getElem?_setIfInBounds_ne (fun h=>ht h.symm)]
   rw[e];exact hf t
theorem NN{wa wb:World}{m:Mem}{L:List Name}{φ:Name->Loc}{obj:Name->Option O}{l:Nat}{h h'}{φ1:Name->Loc}{m1:Mem}{σ1:S}{a1:Act}{w1 w2:World}
 (hC:aZ (sX wa m L φ obj (some l) h) φ1 m1 σ1 a1 w1) (er:wb.heap.size=wa.heap.size/\w2.heap.size=w1.heap.size) (ho:wb.os=w2.os/\wb.tape=w2.tape/\wb.output=w2.output)
 (hb:∀ b,b≠l->wb.heap[b]?=wa.heap[b]?) (h2:∀ b,b≠l->w2.heap[b]?=w1.heap[b]?) (hl:wb.heap[l]?=w2.heap[l]?):aZ (sX wb m L φ obj (some l) h') φ1 m1 σ1 a1 w2:=by
 obtain⟨L3,r,hr⟩:=h l rfl
 have aa:l<wa.heap.size:=(Array.getElem?_eq_some_iff.1 hr).1
 have dZ:w1.heap[l]?=some (.loop r):=(hC.fr.block l aa L3).trans hr
 constructor
 ·exact hC.tmps
 ·exact hC.size
 ·obtain⟨ds,k1,k2,k3⟩:=hC.defers
  refine⟨ds,k1,k2,fun D hD=>?_⟩
  obtain⟨k4,k5⟩:=k3 D hD
  have aG:D≠l:=fun e=>by subst e;rw[dZ]at k5;cases k5
  exact⟨by show wb.heap.size<=D;rw[er.1];exact k4,(h2 D aG).trans k5⟩
 ·intro nm o fx
  refine(hC.objs nm o fx).ext (Mem.le_refl _) (Ext.refl _ _) fun k1 k2=>h2 _ fun e=>?_
  rcases hC.own nm ⟨o,fx,k1,k2⟩with h3 | h3
  ·have h4:wa.heap.size<=(φ1 nm).blk:=h3
   omega
  ·rw[e]at h3;exact L3 h3
 ·intro b off v hv
  have h3:=hC.mem b off v hv
  rw[rz (h2 b (fun e=>by subst e;unfold World.cell? at h3;simp[dZ]at h3))]
  exact h3
 ·exact hC.apart
 ·exact hC.inj
 ·intro nm hh
  rcases hC.own nm hh with h3 | h3
  ·exact .inl (by show wb.heap.size<=_;rw[er.1];exact h3)
  ·exact .inr h3
 ·refine⟨ho.1.symm,ho.2.1.symm,ho.2.2.symm,by show wb.heap.size<=_;rw[er.1,er.2];exact hC.fr.size,fun b h3 h4=>?_⟩
  show w2.heap[b]?=wb.heap[b]?
  by_cases e:b=l
  ·subst e;exact hl.symm
  ·rw[h2 b e,hb b e]
   exact hC.fr.block b (by have:b<wb.heap.size:=h3;show b<wa.heap.size;omega) h4
 ·intro b off v hv
  rcases hC.fresh b off v hv with h3 | h3 | h3
  ·exact .inl h3
  ·exact .inr (.inl (by show wb.heap.size<=_;rw[er.1];exact h3))
  ·exact .inr (.inr h3)
 ·exact hC.kept
theorem N3{L:List Name}{obj:Name->Option O}{nm:Name}{x:Option O}(h:nm∉L){y:Name}(hy:y∈L):cP L (upd obj nm x) y=cP L obj y:=by
 unfold cP
 rw[ba _ _ _ (by rintro rfl;exact h hy)]
theorem To{L:List Name}{obj:Name->Option O}{nm:Name}{x:Option O}(h:nm∉L):kb L (upd obj nm x)=kb L obj:=by
 rw[yX,yX]
 congr 1
 exact List.map_congr_left fun y hy=>N3 h hy
theorem Mq{L:List Name}{φ:Name->Loc}{obj:Name->Option O}{nm:Name}{x:Option O}(h:nm∉L):qi L φ (upd obj nm x)=qi L φ obj:=by
 funext b
 refine propext ⟨fun ⟨y,h1,⟨o,h2,h3⟩,h4⟩=>?_,fun ⟨y,h1,⟨o,h2,h3⟩,h4⟩=>?_⟩
 ·rw[ba _ _ _ (by rintro rfl;exact h h1)]at h2
  exact⟨y,h1,⟨o,h2,h3⟩,h4⟩
 ·exact⟨y,h1,⟨o,by rw[ba _ _ _ (by rintro rfl;exact h h1)];exact h2,h3⟩,h4⟩
theorem Zp{w:World}{m:Mem}{L:List Name}{φ:Name->Loc}{obj:Name->Option O}{nm:Name}{x:Option O}{rd:Option Nat}(h:nm∉L){h1}{h2}:sX w m L φ (upd obj nm x) rd h1=sX w m L φ obj rd h2:=by
 unfold sX
 simp only[To h,Mq h]
theorem GC{P:Program}{y:YSpec}(h:∀ env ps asg body os ds,y.pre env ps asg body os ds->ds.length=ps.length->
 CW P asg ⟨env.length,qu (s5 env) ps ds,aS os,[0],0⟩ (IF fun σ1=>CW P body σ1 (SC os (y.out env ps asg body os ds)))):aM P yid y.toSpec:=by
 refine⟨y.near,fun e=>(e rfl).elim,fun e=>(e rfl).elim,fun _ G φ m σ a w hC t nm ds us _ hl hr _ ab o Yn=>?_⟩
 simp only[YSpec.toSpec]at ab |-
 split at ab
 case h_2=>exact ab.elim
 rename_i env ps asg body aD
 try simp only[aD]
 obtain⟨ab,dJ⟩:=ab
 simp only[Bool.and_eq_true,Bool.not_eq_true',decide_eq_true_eq]at ab
 obtain⟨⟨⟨⟨⟨ie,cT⟩,dj⟩,L4⟩,hlen⟩,fO⟩:=ab
 have gb:nm∉reach σ.obj (roots env ds):=fun h=>by rw[gD.2 h]at L4;cases L4
 have ca:(reach σ.obj (roots env ds)).Nodup:=yN _ _ _ (by simp)
 obtain⟨_,dV,r,dZ,ga,XO,DK,LP,LO,LN,LM⟩:=hC.objs nm _ aD
 have aa:(φ nm).blk<w.heap.size:=(Array.getElem?_eq_some_iff.1 dZ).1
 have sL:¬ qi (reach σ.obj (roots env ds)) φ σ.obj (φ nm).blk:=fun ⟨x,k1,k2,k3⟩=>gb (hC.inj _ _ k2 ⟨_,aD,rfl,dV⟩ k3▸k1)
 have gW:r.params.size=ps.length:=by rw[<-DK];simp
 intro next Q sF
 rw[Yn,run_yield dZ (by omega),Oper.uponIn_round]
 refine⟨fun h=>(by simp[gd,Fence.wide]at h),?_⟩
 rw[LP,LO]
 refine roundIn_of_wpIn trivial ?_
 have agt:=cT
 have YC:∀ i (h:i<env.length),D.clos (cv (reach σ.obj (roots env ds))) env[i].d=true:=fun i hi=>by
  have :=jy (l:=roots env ds) (i:=i) (by simp[roots];omega) cT
  simp only[roots]at this |-
  rw[List.getElem_append_left (by simpa using hi)]at this
  simpa using this
 have YB:∀ i (h:i<ds.length),D.clos (cv (reach σ.obj (roots env ds))) ds[i]=true:=fun i hi=>by
  have :=jy (l:=roots env ds) (i:=env.length+i) (by simp[roots];omega) cT
  simp only[roots]at this |-
  rw[List.getElem_append_right (by simp)]at this
  simpa using this
 obtain⟨q1,q2⟩:=Hf (φ:=mZ (reach σ.obj (roots env ds)) φ) (obj:=kb (reach σ.obj (roots env ds)) σ.obj) (m:=m) (n:=env.length) ps (j5 σ.obj env ds) us.toList (s5 (jd σ.obj env ds)) r.tmps LN
  (by simp[j5,kJ];omega) (by simp[j5,kJ];omega) (fun p hp=>by have:=List.all_eq_true.1 fO p hp;simpa using this)
  (fun t=>by
    unfold s5
    by_cases ht:t<env.length
    ·have:=(LM t ht).renx (Mem.le_refl m) yM (YC t ht)
     have e:(jd σ.obj env ds).getD t eAny=E.ren (cin (reach σ.obj (roots env ds))) env[t]:=by
      rw[List.getD_eq_getElem?_getD,List.getElem?_eq_getElem (by simpa[jd]using ht)];simp[jd]
     rw[e];exact this
    ·have e:(jd σ.obj env ds).getD t eAny=eAny:=by
       rw[List.getD_eq_getElem?_getD,List.getElem?_eq_none (by simp[jd];omega)];rfl
     rw[e];unfold cR eAny;simp;exact .any _)
  (fun i a b=>by
    simp only[j5,kJ,List.length_map]at a
    have :=(hr i a (by simpa using b)).renx (Mem.le_refl m) yM (YB i a)
    simpa[j5,kJ]using this)
 have mB:=MR hC (L:=reach σ.obj (roots env ds)) ca ie (rd:=some (φ nm).blk) (fun l e=>by cases e;exact⟨sL,r,dZ⟩) (b0:=0) (nt:=env.length) q2 q1
 have nL:=h _ _ _ _ _ _ dJ (by simp[j5,kJ];omega)
 have Yi:(r.params.zip us).foldl (fun tmps (p:Nat×Value)=>tmps.setIfInBounds p.1 p.2) r.tmps=(ps.zip us.toList).foldl (fun tmps (p:Nat×Value)=>tmps.setIfInBounds p.1 p.2) r.tmps:=by
  rw[<-DK,<-Array.toList_zip,Array.foldl_toList]
 have zX:(jd σ.obj env ds).length=env.length:=by simp[jd]
 rw[zX]at nL
 rw[yX]at mB
 have Yh:(r.params.zip us).foldl (fun tmps (x:Tmp×Value)=>match x with | (t,a)=>tmps.setIfInBounds t a) r.tmps=(ps.zip us.toList).foldl (fun tmps (p:Nat×Value)=>tmps.setIfInBounds p.1 p.2) r.tmps:=Yi
 rw[Yh]
 refine wpIn_mono (nL _ _ m _ w mB) ?_
 rintro e a1 w1 ⟨φ1,m1,σ1,iu,hK⟩
 cases e with
 |normal=>
  have LQ:w1.heap[(φ nm).blk]?=some (.loop r):=(iu.fr.block _ aa sL).trans dZ
  have aE:=(Array.getElem?_eq_some_iff.1 LQ).1
  refine⟨_,run_beginRound LQ ga,?_⟩
  have fa:w1.os=w.os/\w1.tape=w.tape/\w1.output=w.output:=⟨iu.fr.os,iu.fr.tape,iu.fr.output⟩
  have fQ:=NN (wb:=w.putObj (φ nm).blk (.loop { r with state:=.busy })) (w2:=w1.putObj (φ nm).blk (.loop { r with state:=.busy }))
   (h':=fun l e=>by cases e;exact⟨sL,_,World.putObj_heap_same aa⟩) iu ⟨by simp,by simp⟩ ⟨fa.1.symm,fa.2.1.symm,fa.2.2.symm⟩
   (fun b hb=>World.putObj_heap_other hb) (fun b hb=>World.putObj_heap_other hb) (by rw[World.putObj_heap_same aa,World.putObj_heap_same aE])
  refine wpIn_mono (hK _ _ m1 _ _ fQ) ?_
  rintro e a3 w3 ⟨φ3,m3,σ3,sU,pV⟩
  have DL:w3.heap[(φ nm).blk]?=some (.loop { r with state:=.busy }):=(sU.fr.block _ (by show _<(w.putObj _ _).heap.size;simpa using aa) sL).trans (World.putObj_heap_same aa)
  have gn:=(Array.getElem?_eq_some_iff.1 DL).1
  have fin:∀ bR:Option Code,(y.o σ.obj env ps asg body ds).2=bR->gq (cJ σ.obj (roots env ds)) (y.o σ.obj env ps asg body ds).1 σ3->
      ∃ v w',(Instr.endRound (φ nm).blk bR).run P w3=.ok v w'/\next (a.put o.dst v) w':=by
   intro bR he hE
   refine⟨_,_,run_endRound bR DL,?_⟩
   generalize XL:({ r with state:=.busy }:Loop)=rb at DL |-
   let rf:Loop:={ r with state:=if bR.isNone then .ready else .done,pending:=bR }
   have XK:({ rb with state:=if bR.isNone then .ready else .done,pending:=bR }:Loop)=rf:=by rw[<-XL]
   rw[XK]
   have MK:=NN (wb:=w.putObj (φ nm).blk (.loop rf)) (w2:=w3.putObj (φ nm).blk (.loop rf))
    (h':=fun l e=>by cases e;exact⟨sL,_,World.putObj_heap_same aa⟩) sU ⟨by simp,by simp⟩
    ⟨(show (w.putObj (φ nm).blk (.loop rf)).os=(w3.putObj (φ nm).blk (.loop rf)).os from sU.fr.os.symm),(show (w.putObj (φ nm).blk (.loop rf)).tape=(w3.putObj (φ nm).blk (.loop rf)).tape from sU.fr.tape.symm),(show (w.putObj (φ nm).blk (.loop rf)).output=(w3.putObj (φ nm).blk (.loop rf)).output from sU.fr.output.symm)⟩
    (fun b hb=>by rw[World.putObj_heap_other hb,World.putObj_heap_other hb]) (fun b hb=>World.putObj_heap_other hb) (by rw[World.putObj_heap_same aa,World.putObj_heap_same gn])
   have cU:aZ G φ m { σ with obj:=upd σ.obj nm (some (.loop env ps asg body (if bR.isNone then .ready else .done) bR)) } a (w.putObj (φ nm).blk (.loop rf)):=by
    have :=hC.chg (w':=w.putObj (φ nm).blk (.loop rf)) nm (.loop env ps asg body (if bR.isNone then .ready else .done) bR) (φ nm) (Ext.same aD rfl rfl) ⟨rfl,rfl,rfl,by simp⟩
     (fun b _ hb=>World.putObj_heap_other (by rcases hb with h | h; · rw[dV]at h;cases h
                                              ·exact h))
     (fun _=>.inr ⟨⟨_,aD,rfl,dV⟩,rfl⟩) (by
       rw[gM]
       refine⟨by assumption,dV,rf,World.putObj_heap_same aa,rfl,rfl,DK,LP,LO,LN,fun i hi=>(LM i hi).ext (Mem.le_refl m) ?_⟩
       have :=Ext.same (φ:=φ) (o':=.loop env ps asg body (if bR.isNone then .ready else .done) bR) aD rfl rfl
       rwa [gM]at this)
    rwa [gM]at this
   have Y4:shut (upd σ.obj nm (some (.loop env ps asg body (if bR.isNone then .ready else .done) bR))) (reach σ.obj (roots env ds))=true:=by
    rw[BP (obj:=σ.obj) fun x hx=>ba _ _ _ (by rintro rfl;exact gb hx)];exact ie
   have z1:(reach σ.obj (roots env ds)).map (cP (reach σ.obj (roots env ds)) (upd σ.obj nm (some (.loop env ps asg body (if bR.isNone then .ready else .done) bR))))=cJ σ.obj (roots env ds):=
    List.map_congr_left fun x hx=>N3 gb hx
   have EP:=Nl hE
   rw[<-z1]at EP
   have mq:∀ x∈(y.o σ.obj env ps asg body ds).1.new,nm≠x.1++t:=fun x hx e=>by
    have :=List.all_eq_true.1 dj x hx
    rw[<-e,aD]at this;cases this
   have Yg:fresh (upd σ.obj nm (some (.loop env ps asg body (if bR.isNone then .ready else .done) bR))) t (y.o σ.obj env ps asg body ds).1.new=true:=by
    rw[Af (obj:=σ.obj) fun x hx=>by
     obtain⟨z,hz,rfl⟩:=List.mem_map.1 hx
     exact ba _ _ _ (mq z hz).symm]
    exact dj
   rw[<-Zp (x:=some (.loop env ps asg body (if bR.isNone then .ready else .done) bR)) gb (h1:=fun l e=>by
    cases e;rw[Mq gb];exact⟨sL,_,World.putObj_heap_same aa⟩)]at MK
   obtain⟨φ',m',k1,k2,k3,k4⟩:=MQ cU ca Y4 MK EP Yg
   refine sF _ φ' m' _ ?_ (.v _ _ ?_)
   ·have:(dE (reach σ.obj (roots env ds)) t (y.o σ.obj env ps asg body ds).1.new (cS (reach σ.obj (roots env ds)) t (y.o σ.obj env ps asg body ds).1.upd (upd σ.obj nm (some (.loop env ps asg body (if bR.isNone then .ready else .done) bR)))))=
      upd (dE (reach σ.obj (roots env ds)) t (y.o σ.obj env ps asg body ds).1.new (cS (reach σ.obj (roots env ds)) t (y.o σ.obj env ps asg body ds).1.upd σ.obj)) nm (some (.loop env ps asg body (if bR.isNone then .ready else .done) bR)):=by
      funext x
      have hu:((y.o σ.obj env ps asg body ds).1.upd.all fun x=>decide (x.1<(reach σ.obj (roots env ds)).length))=true:=List.all_eq_true.2 fun z hz=>by
       have :=List.all_eq_true.1 EP.cu z hz
       simp only[Bool.and_eq_true,List.length_map]at this;exact this.2
      by_cases e:x=nm
      ·subst e
       rw[aU,wk _ _ mq,Cl _ _ hu gb,aU]
      ·rw[ba _ _ _ e]
       rw[rY (y.o σ.obj env ps asg body ds).1.new σ.obj (cS _ _ _ (upd _ _ _)) x,rY (y.o σ.obj env ps asg body ds).1.new σ.obj (cS _ _ _ σ.obj) x]
       by_cases h1:x∈(y.o σ.obj env ps asg body ds).1.new.map (fun x=>x.1++t)
       ·rw[if_pos h1,if_pos h1]
       ·rw[if_neg h1,if_neg h1]
        rw[uz (y.o σ.obj env ps asg body ds).1.upd σ.obj (upd _ _ _) x,uz (y.o σ.obj env ps asg body ds).1.upd σ.obj σ.obj x]
        by_cases h2:x∈(y.o σ.obj env ps asg body ds).1.upd.map (fun x=>(reach σ.obj (roots env ds)).getD x.1 [])
        ·rw[if_pos h2,if_pos h2]
        ·rw[if_neg h2,if_neg h2];exact ba _ _ _ e
    rw[this]at k2
    rw[he]
    exact k2
   ·rw[he];exact .bool _
  cases e with
  |normal=>exact fin none pV.1 pV.2
  |ret=>exact fin (some .ret) pV.1 pV.2
  |exit id=>exact fin (some (.exit id)) pV.1 pV.2
  |goto l=>exact pV.elim
  |panic ch=>exact pV.elim
  |outgrown=>exact pV.elim
 |ret=>exact hK.elim
 |exit id=>exact hK.elim
 |goto l=>exact hK.elim
 |panic ch=>exact hK.elim
 |outgrown=>exact hK.elim
theorem aad{G:Ghost}{φ:Name->Loc}{m:Mem}{σ:S}{a:Act}{w:World}(hC:aZ G φ m σ a w):
 aZ G φ m σ { a with defers:=[{ target:=.collected w.heap.size,args:= #[] }]++a.defers } (w.alloc (.deferred (some []))):=by
 have hb:∀ b,b<w.heap.size->(w.alloc (.deferred (some []))).heap[b]?=w.heap[b]?:=fun b h=>RowKit.Below.heap_alloc w _ b h
 have h:=hC.imm (w':=w.alloc (.deferred (some []))) (Mem.le_refl m) ⟨rfl,rfl,rfl,by simp⟩ hb (fun _ _ _ h=>.inl h)
 refine⟨h.tmps,h.size,?_,h.objs,h.mem,h.apart,h.inj,h.own,h.fr,h.fresh,h.kept⟩
 obtain⟨ds,h1,h2,h3⟩:=h.defers
 have aa:∀ D∈ds,D<w.heap.size:=fun D hD=>by
  obtain⟨mF,k1,k2,k3⟩:=hC.defers
  have e:mF=ds:=by
   have :=k1.symm.trans h1
   have hi:Function.Injective (fun D:Nat=>({ target:=.collected D,args:= #[] }:Deferred)):=fun x y h=>by simpa using h
   exact(List.map_inj_right hi).1 this
  exact(Array.getElem?_eq_some_iff.1 (k3 D (e▸hD)).2).1
 refine⟨w.heap.size::ds,by rw[h1];rfl,List.nodup_cons.2 ⟨fun hm=>Nat.lt_irrefl _ (aa _ hm),h2⟩,fun D hD=>?_⟩
 rcases List.mem_cons.1 hD with rfl | hD
 ·exact⟨hC.fr.size,World.alloc_heap_new w _⟩
 ·exact h3 D hD
def lz(obj:Name->Option O)(nm:Name):Name->Option O:=upd obj nm (match obj nm with
 |some (.loop env ps asg body _ bR)=>some (.loop env ps asg body .exhausted bR)
 |o=>o)
def qK(K:Exit->S->Prop)(obj:Name->Option O)(nm:Name)(σ:S):Prop:=match obj nm with
 |some (.loop _ _ _ _ .busy _)=>False
 |some (.loop _ _ _ _ _ none)=>K .normal σ
 |some (.loop _ _ _ _ _ (some .ret))=>K .ret σ
 |some (.loop _ _ _ _ _ (some (.exit id)))=>K (.exit id) σ
 |_=>False
theorem NI{P:Program}{Γ:FuncId->Option Spec}(hΓ:∀ f s,Γ f=some s->aM P f s){g:Operand}{ps:Array Tmp}{asg body:Code}{σ:S}{K:Exit->S->Prop}(k k':Nat){f:FuncId}{s:Spec}
 (hc:c7 σ g=true) (fy:gg (av σ g)=some f) (aG:f≠yid) (hs:Γ f=some s) (nC:σ.obj (k::σ.pre)=none)
 (ab:(s.app (upd σ.obj (k::σ.pre) (some (.loop ((List.range σ.nt).map σ.env) ps.toList asg body .ready none))) (k'::σ.pre) (ff (av σ g) [.yld (k::σ.pre)])).ok)
 (hK:qK K (s.app (upd σ.obj (k::σ.pre) (some (.loop ((List.range σ.nt).map σ.env) ps.toList asg body .ready none))) (k'::σ.pre) (ff (av σ g) [.yld (k::σ.pre)])).obj (k::σ.pre)
   { σ with obj:=lz (s.app (upd σ.obj (k::σ.pre) (some (.loop ((List.range σ.nt).map σ.env) ps.toList asg body .ready none))) (k'::σ.pre) (ff (av σ g) [.yld (k::σ.pre)])).obj (k::σ.pre) }):
 CW P (.rangeFunc g ps asg body) σ K:=by
 intro G φ m a w hC
 generalize aD:k::σ.pre=nm at *
 generalize DX:upd σ.obj nm (some (.loop ((List.range σ.nt).map σ.env) ps.toList asg body .ready none))=qC at *
 generalize hR:s.app qC (k'::σ.pre) (ff (av σ g) [.yld nm])=R at *
 have zU:=cQ hC hc
 obtain⟨us,vs,fs,cs,hu,mD,e1,e2,dZ,ga⟩:∃ (us vs:Array Value) (fs cs:List D),a.eval g=.func (.func f) us vs/\(∀ args,ff (av σ g) args=fs++args++cs)/\fs.length=us.size/\cs.length=vs.size/\
  (∀ i (h:i<fs.length) (h':i<us.size),aH φ σ.obj m fs[i] us[i])/\(∀ i (h:i<cs.length) (h':i<vs.size),aH φ σ.obj m cs[i] vs[i]):=by
  generalize a.eval g=u at *
  generalize av σ g=d at *
  unfold gg at fy
  split at fy
  ·rename_i f' fs cs
   split at fy
   ·cases fy
   cases fy
   cases zU with
   |v _ _ zU=>
   cases zU with
   |clo _ _ _ us vs e1 e2 h1 h2=>
   exact⟨us,vs,fs.map .v,cs.map .v,rfl,fun _=>rfl,by simpa using e1,by simpa using e2,fun i a b=>by simpa using .v _ _ (h1 i (by simpa using a) b),fun i a b=>by simpa using .v _ _ (h2 i (by simpa using a) b)⟩
  ·rename_i f' fs cs
   split at fy
   ·cases fy
   cases fy
   cases zU with
   |clo _ _ _ us vs e1 e2 h1 h2=>exact⟨us,vs,fs,cs,rfl,fun _=>rfl,e1,e2,h1,h2⟩
  ·cases fy;exact(aG rfl).elim
  ·cases fy
 refine wpIn_rangeFunc fun fn _=>?_
 have main:∀ (W:World) (a':Act) (D:Nat),aZ G φ m σ a' W->a'.tmps=a.tmps->
     ∃ (d:Deferred) (tN:World) (f':FuncId) (args:Array Value) (w₂:World),
     (resolve a.eval (rangeCall g W.heap.size) 0).run P (W.alloc (.loop { state:=.ready,pending:=none,fn,tmps:=a.tmps,params:=ps,assign:=asg,body,defers:=D }))=.ok d tN/\
     (invoke d.target d.args).run P tN=.ok (.enter f' args) w₂/\
     CallsIn (gd G.rd) (0-1) P f' args w₂ (rangePost (gd G.rd) 0 P W.heap.size (fun e a' w'=>∃ φ' m' σ',aZ G φ' m' σ' a' w'/\K e σ') a'):=by
  intro W a' D iu aw
  obtain⟨r,nz⟩:∃ r:Loop,r={ state:=.ready,pending:=none,fn,tmps:=a.tmps,params:=ps,assign:=asg,body,defers:=D }:=⟨_,rfl⟩
  rw[<-nz]
  have hx:=Ext.new (φ:=φ) nC ⟨W.heap.size,0,0,false,none⟩ (.loop ((List.range σ.nt).map σ.env) ps.toList asg body .ready none)
  have fQ:=iu.chg (w':=W.alloc (.loop r)) nm (.loop ((List.range σ.nt).map σ.env) ps.toList asg body .ready none) ⟨W.heap.size,0,0,false,none⟩ hx ⟨rfl,rfl,rfl,by simp⟩
   (fun b hb _=>RowKit.Below.heap_alloc W _ b hb) (fun _=>.inl (Nat.le_refl _)) ⟨rfl,rfl,r,World.alloc_heap_new W _,by rw[nz],by rw[nz],by rw[nz],by rw[nz],by rw[nz],by
     rw[nz]
     show a.tmps.size=_
     rw[<-aw,iu.size];simp,fun i hi=>by
     simp only[List.getElem_map,List.getElem_range]
     rw[nz]
     show cR _ _ m _ (a.tmps.getD i undef)
     rw[<-aw]
     exact(iu.tmps i).ext (Mem.le_refl m) hx⟩
  rw[DX]at fQ hx
  refine⟨{ target:=.fn (.func f) vs,args:=us++ #[.func (.yield W.heap.size) #[] #[]] },W.alloc (.loop r),f,us++ #[.func (.yield W.heap.size) #[] #[]]++vs,W.alloc (.loop r),?_,?_,?_⟩
  ·have hy:a.eval (.const (.func (.yield W.heap.size) #[] #[]))=.func (.yield W.heap.size) #[] #[]:=rfl
   simp[resolve,Deferred.ofValue,hu,hy]
  ·simp[invoke,(hΓ f s hs).enter aG]
  ·refine Na ?_
   have pR:=(hΓ f s hs).calls aG G (upd φ nm ⟨W.heap.size,0,0,false,none⟩) m { σ with obj:=qC } a' (W.alloc (.loop r)) fQ (k'::σ.pre) (ff (av σ g) [.yld nm]) (us++ #[.func (.yield W.heap.size) #[] #[]]++vs) ⟨k',rfl⟩
   refine(pR ?_ ?_ ?_).mono ?_
   ·rw[mD];simp only[List.length_append,List.length_singleton,Array.size_append,e1,e2];rfl
   ·intro i h1 h2
    simp only[mD]
    have zp:aH (upd φ nm ⟨W.heap.size,0,0,false,none⟩) qC m (.yld nm) (.func (.yield W.heap.size) #[] #[]):=by
     have :=aH.yld (φ:=upd φ nm ⟨W.heap.size,0,0,false,none⟩) (obj:=qC) (m:=m) nm ⟨_,by rw[<-DX,aU],rfl⟩
     rwa [aU]at this
    simp only[mD,List.length_append,List.length_singleton]at h1
    by_cases k1:i<fs.length
    ·have q1:i<us.size:=by omega
     simp only[List.append_assoc,Array.append_assoc]
     rw[List.getElem_append_left k1,Array.getElem_append_left q1]
     exact(dZ i k1 q1).ext (Mem.le_refl m) hx
    ·by_cases k2:i=fs.length
     ·subst k2
      simp only[List.append_assoc,Array.append_assoc]
      rw[List.getElem_append_right (by omega),Array.getElem_append_right (by omega)]
      simp only[Nat.sub_self,e1,List.cons_append,List.getElem_cons_zero]
      rw[Array.getElem_append_left (by simp)]
      simpa using zp
     ·rw[List.getElem_append_right (by simp;omega),Array.getElem_append_right (by simp;omega)]
      have :=(ga (i-(fs.length+1)) (by omega) (by omega)).ext (Mem.le_refl m) hx
      simp only[List.length_append,List.length_singleton,Array.size_append,<-e1]
      exact this
   ·show (s.app qC _ _).ok
    rw[hR];exact ab
   ·rintro e w3 ⟨v,φ',m',rfl,sU,_,Xw⟩
    have h9:s.app qC (k'::σ.pre) (ff (av σ g) [.yld nm])=R:=hR
    have ML:aZ G φ' m' { σ with obj:=R.obj } a' w3:=by rw[<-h9];exact sU
    have Xv:Ext (upd φ nm ⟨W.heap.size,0,0,false,none⟩) φ' qC R.obj:=by rw[<-h9];exact Xw
    have XU:qC nm=some (.loop ((List.range σ.nt).map σ.env) ps.toList asg body .ready none):=by rw[<-DX,aU]
    have Eb:φ' nm=⟨W.heap.size,0,0,false,none⟩:=by
     obtain⟨o',k1,k2⟩:=Xv nm _ XU
     rcases k2 with⟨_,k2,_⟩ | ⟨n,n',k2,_⟩
     ·rw[k2,aU]
     ·cases k2
    unfold qK at hK
    have step:∀ {iy:List E} {hS:List Nat} {a1 b1:Code} {st:LoopState} {bR:Option Code},R.obj nm=some (.loop iy hS a1 b1 st bR)->st≠ .busy->
        ∃ w4,(Instr.endLoop W.heap.size).run P w3=.ok bR w4/\aZ G φ' m' { σ with obj:=lz R.obj nm } a' w4:=by
     intro iy hS a1 b1 st bR ho cL
     obtain⟨q0,q1,r',q2,q3,q4,q5,q6,q7,q8,q9⟩:=ML.objs nm _ ho
     rw[Eb]at q2
     have Mp:(Instr.endLoop W.heap.size).run P w3=.ok bR (w3.putObj W.heap.size (.loop { r' with state:=.exhausted })):=by
      rw[run_endLoop (P:=P) q2 (by rw[q3];exact cL),q4]
     refine⟨_,Mp,?_⟩
     have aa:=(Array.getElem?_eq_some_iff.1 q2).1
     have pH:lz R.obj nm=upd R.obj nm (some (.loop iy hS a1 b1 .exhausted bR)):=by unfold lz;rw[ho]
     rw[pH]
     have :=ML.chg (w':=w3.putObj W.heap.size (.loop { r' with state:=.exhausted })) nm (.loop iy hS a1 b1 .exhausted bR) (φ' nm) (Ext.same ho rfl rfl) ⟨rfl,rfl,rfl,by simp⟩
      (fun b _ hb=>World.putObj_heap_other (by
        rcases hb with h | h
        ·rw[q1]at h;cases h
        ·rw[Eb]at h;exact h))
      (fun _=>.inr ⟨⟨_,ho,rfl,q1⟩,rfl⟩) (by
        rw[gM]
        refine⟨q0,q1,{ r' with state:=.exhausted },by rw[Eb];exact World.putObj_heap_same aa,rfl,q4,q5,q6,q7,q8,fun i hi=>(q9 i hi).ext (Mem.le_refl _) ?_⟩
        have :=Ext.same (φ:=φ') (o':=.loop iy hS a1 b1 .exhausted bR) ho rfl rfl
        rwa [gM]at this)
     rw[gM]at this
     exact this
    rcases ho:R.obj nm with _ | o
    ·rw[ho]at hK;exact hK.elim
    rw[ho]at hK
    cases o with
    |loop iy hS a1 b1 st bR=>
     have cL:st≠ .busy:=by rintro rfl;exact hK.elim
     obtain⟨w4,h1,h2⟩:=step ho cL
     refine⟨bR,w4,h1,?_⟩
     cases bR with
     |none=>
      refine⟨φ',m',_,h2,?_⟩
      cases st<;>first | exact hK | exact(cL rfl).elim
     |some c=>
      cases c with
      |ret=>exact wpIn_ret ⟨φ',m',_,h2,by cases st<;>first | exact hK | exact(cL rfl).elim⟩
      |exit id=>exact wpIn_exit ⟨φ',m',_,h2,by cases st<;>first | exact hK | exact(cL rfl).elim⟩
      |_=>exfalso;cases st<;>first | exact hK | exact(cL rfl).elim
    |_=>exact hK.elim
 cases nA:G.rd with
 |none=>
  obtain⟨d,tN,f',args,w₂,h1,h2,h3⟩:=main (w.alloc (.deferred (some []))) _ w.heap.size (aad hC) rfl
  rw[nA]at h3
  have er:(w.alloc (.deferred (some []))).heap.size=w.heap.size+1:=by simp
  rw[er]at h1 h3
  exact⟨w.heap.size+1,[{ target:=.collected w.heap.size,args:= #[] }],_,d,tN,f',args,w₂,run_enterLoop_outer _ _ _ _ _,h1,fun _ _=>trivial,h2,fun h=>(by simp[gd,Fence.wide]at h),h3⟩
 |some l=>
  obtain⟨fx,r0,zA⟩:=G.rdok l nA
  have XP:w.heap[l]?=some (.loop r0):=(hC.fr.block l (Array.getElem?_eq_some_iff.1 zA).1 fx).trans zA
  obtain⟨d,tN,f',args,w₂,h1,h2,h3⟩:=main w a r0.defers hC rfl
  rw[nA]at h3
  exact⟨w.heap.size,[],_,d,tN,f',args,w₂,run_enterLoop_inner XP _ _ _ _ _,h1,fun _ _=>trivial,h2,fun h=>(by simp[gd,Fence.wide]at h),h3⟩
theorem NY{P:Program}{Γ:FuncId->Option Spec}(hΓ:∀ f s,Γ f=some s->aM P f s){g:Operand}{ps:Array Tmp}{asg body:Code}{σ:S}{r:List Code}{K:Exit->S->Prop}(k k':Nat){f:FuncId}{s:Spec}
 (hc:c7 σ g=true) (fy:gg (av σ g)=some f) (aG:f≠yid) (hs:Γ f=some s) (nC:σ.obj (k::σ.pre)=none)
 (ab:(s.app (upd σ.obj (k::σ.pre) (some (.loop ((List.range σ.nt).map σ.env) ps.toList asg body .ready none))) (k'::σ.pre) (ff (av σ g) [.yld (k::σ.pre)])).ok)
 (hK:qK (gx (fun σ'=>CL P r σ' K) K) (s.app (upd σ.obj (k::σ.pre) (some (.loop ((List.range σ.nt).map σ.env) ps.toList asg body .ready none))) (k'::σ.pre) (ff (av σ g) [.yld (k::σ.pre)])).obj (k::σ.pre)
   { σ with obj:=lz (s.app (upd σ.obj (k::σ.pre) (some (.loop ((List.range σ.nt).map σ.env) ps.toList asg body .ready none))) (k'::σ.pre) (ff (av σ g) [.yld (k::σ.pre)])).obj (k::σ.pre) }):
 CL P (.rangeFunc g ps asg body::r) σ K:=NI hΓ k k' hc fy aG hs nC ab hK
theorem ef.refl(σ:S):ef σ σ:=fun _ φ _ _ _ hC=>⟨φ,hC⟩
theorem ef.trans{a b c:S}(h:ef a b)(k:ef b c):ef a c:=fun G φ m x w hC=>by
 obtain⟨φ',h'⟩:=h G φ m x w hC
 exact k G φ' m x w h'
theorem aT{σ τ:S}(ks:List Nat)(ns:List Name)(h:i6 ks ns σ)(he:jl ks ns σ=τ):ef σ τ:=he▸Bw ks ns h
def pb(l c:List (Nat×E)):List (Nat×E):=l.map fun q=>(q.1,(c.lookup q.1).getD q.2)
def o8(l c:List (Name×O)):List (Name×O):=l.map fun q=>(q.1,(c.lookup q.1).getD q.2)
theorem dv{P:Program}{c:Code}{r:List Code}{σ:S}{K:Exit->S->Prop}(ks:List Nat)(ns:List Name)(h:i6 ks ns σ)(hc:CL P (c::r) (jl ks ns σ) K):CL P (c::r) σ K:=
 rr (Bw ks ns h) hc
theorem bA{P:Program}{c:Code}{r:List Code}{K:Exit->S->Prop}{nt:Nat}{p:Name}{H:Name->Option O}{l:List (Nat×E)}{h:List (Name×O)}{ι:Type}
 (chg:ι->List (Nat×E)) (po:ι->List (Name×O)) (R:ι->Prop) (μ:ι->Nat) (i0:ι) (hR:R i0) (he:pb l (chg i0)=l) (ho:o8 h (po i0)=h)
 (round:∀ i,R i->CL P [c] (bm nt p H (pb l (chg i)) (o8 h (po i))) (gx (fun σ'=>∃ i',R i'/\μ i'<μ i/\ef σ' (bm nt p H (pb l (chg i')) (o8 h (po i')))) K)):
 CL P (.loop c::r) (bm nt p H l h) K:=by
 refine xJ (fun i=>bm nt p H (pb l (chg i)) (o8 h (po i))) R μ i0 hR ?_ round
 rw[he,ho]
 exact .refl _
theorem AJ{P:Program}{c:Code}{r:List Code}{K:Exit->S->Prop}{nt:Nat}{p:Name}{H:Name->Option O}{l:List (Nat×E)}{h:List (Name×O)}{ι:Type}
 (Hc:ι->Name->Option O) (chg:ι->List (Nat×E)) (po:ι->List (Name×O)) (R:ι->Prop) (μ:ι->Nat) (i0:ι) (hR:R i0) (hH:bm nt p (Hc i0) l h=bm nt p H l h) (he:pb l (chg i0)=l) (ho:o8 h (po i0)=h)
 (round:∀ i,R i->CL P [c] (bm nt p (Hc i) (pb l (chg i)) (o8 h (po i))) (gx (fun σ'=>∃ i',R i'/\μ i'<μ i/\ef σ' (bm nt p (Hc i') (pb l (chg i')) (o8 h (po i')))) K)):
 CL P (.loop c::r) (bm nt p H l h) K:=by
 refine xJ (fun i=>bm nt p (Hc i) (pb l (chg i)) (o8 h (po i))) R μ i0 hR ?_ round
 rw[he,ho,hH]
 exact .refl _
attribute [go_sem] pb o8 List.lookup_cons List.lookup_nil List.getElem?_toArray List.getElem?_cons_succ List.getElem?_cons_zero beq_true beq_false ite_self Bool.and_self Bool.or_self imp_self Bool.if_true_right Bool.if_false_right Bool.if_true_left Bool.if_false_left Bool.decide_eq_true
attribute [go_sem] wi gq r9 wv distinct fv dL dt dD aS Bool.and_eq_true
def fK(a b:Nat):Bool:=Nat.ble a b
def hU(a b:Nat):Bool:=Nat.ble (a+1) b
def dh(a b:Nat):Bool:=Nat.beq a b
def dU(a b:Int):Bool:=match b-a with
 | .ofNat _=>true
 | .negSucc _=>false
def kS(a b:Int):Bool:=match b-a-1 with
 | .ofNat _=>true
 | .negSucc _=>false
def uF{α:Type}:Option α->Bool
 |none=>true
 |some _=>false
def pq:Option Nat->Nat->Bool
 |some a,b=>Nat.beq a b
 |none,_=>false
def vE(sz:Nat):List V->Bool
 |[]=>true
 |x::r=>Nat.beq x.cells.length sz&&vE sz r
def vF(sz:Nat):List V->Bool
 |[]=>true
 |x::r=>Nat.beq x.cells.length sz&&x.okc&&vF sz r
def wI(a b:IntKind):Bool:=match a,b with
 | .i64,.i64=>true
 | .u8,.u8=>true
 | .u64,.u64=>true
 | .i32,.i32=>true
 | .u32,.u32=>true
 |_,_=>false
def Dj(P:Program)(T:TypeId):Bool:=match P.underlying T with
 |some .bool=>true
 |_=>false
def isEq:BinOp->Bool
 | .eql=>true
 | .neq=>true
 |_=>false
def si:Int->Bool
 | .ofNat 0=>true
 |_=>false
theorem sc{a b:Nat}(h:fK a b=true):a<=b:=Nat.le_of_ble_eq_true h
theorem y9{a b:Nat}(h:hU a b=true):a<b:=Nat.le_of_ble_eq_true h
theorem kO{a b:Nat}(h:dh a b=true):a=b:=Nat.eq_of_beq_eq_true h
theorem gV{a b:Int}(h:dU a b=true):a<=b:=by
 unfold dU at h
 split at h
 ·rename_i n hn
  have :(0:Int)<=b-a:=by rw[hn];exact Int.natCast_nonneg n
  omega
 ·cases h
theorem Xl{a b:Int}(h:kS a b=true):a<b:=by
 unfold kS at h
 split at h
 ·rename_i n hn
  have :(0:Int)<=b-a-1:=by rw[hn];exact Int.natCast_nonneg n
  omega
 ·cases h
theorem yZ{α:Type}{o:Option α}(h:uF o=true):o=none:=by cases o<;>simp_all[uF]
theorem qD{o:Option Nat}{b:Nat}(h:pq o b=true):o=some b:=by
 cases o with
 |none=>cases h
 |some a=>rw[Nat.eq_of_beq_eq_true h]
theorem Bd{sz:Nat}:∀ {l:List V},vE sz l=true->∀ x∈l,x.cells.length=sz
 |y::r,h,x,hx=>by
  simp only[vE,Bool.and_eq_true]at h
  rcases List.mem_cons.1 hx with rfl | hx
  ·exact Nat.eq_of_beq_eq_true h.1
  ·exact Bd h.2 x hx
theorem Be{sz:Nat}:∀ {l:List V},vF sz l=true->∀ x∈l,x.cells.length=sz/\x.okc=true
 |y::r,h,x,hx=>by
  simp only[vF,Bool.and_eq_true]at h
  rcases List.mem_cons.1 hx with rfl | hx
  ·exact⟨Nat.eq_of_beq_eq_true h.1.1,h.1.2⟩
  ·exact Be h.2 x hx
theorem Lm{a b:IntKind}(h:wI a b=true):a=b:=by unfold wI at h;split at h<;>first | rfl | cases h
theorem Xf{P:Program}{T:TypeId}(h:Dj P T=true):P.underlying T=some .bool:=by unfold Dj at h;split at h<;>first | assumption | cases h
theorem zj{op:BinOp}(h:isEq op=true):op=.eql\/op=.neq:=by cases op<;>first | exact .inl rfl | exact .inr rfl | cases h
theorem Xc{n:Int}(h:si n=false):n≠0:=by rintro rfl;cases h
section
variable (P:Program) (obj:Name->Option O)
def xP(T:TypeId)(x:D):Bool:=
 match bh P T with
 |none=>false
 |some (ag,n)=>match x with
  | .v (.ptr cs)=>match ag with
    |true=>fK n cs.length
    |false=>dh n 1&&hU 0 cs.length
  | .ref nm off=>match obj nm with
    |some (.box cs)=>match ag with
     |true=>fK (off+n) cs.length
     |false=>dh n 1&&hU off cs.length
    |some (.fbox cs)=>match ag with
     |true=>fK (off+n) cs.length
     |false=>dh n 1&&hU off cs.length
    |_=>false
  | .aref nm k i off=>match obj nm with
    |some (.arr _ l)=>dh k l.length&&hU i l.length&&(match ag with
     |true=>fK (off+n) (l.getD i default).cells.length
     |false=>dh n 1&&hU off (l.getD i default).cells.length)
    |some (.farr _ l)=>dh k l.length&&hU i l.length&&(match ag with
     |true=>fK (off+n) (l.getD i default).cells.length
     |false=>dh n 1&&hU off (l.getD i default).cells.length)
    |_=>false
  |_=>false
def A1(T:TypeId)(f:Nat)(x:D):Bool:=
 match bY P T f with
 |none=>false
 |some (off,n,_)=>!dh n 0&&match x with
  | .v (.ptr cs)=>fK (off+n) cs.length
  | .ref _ _=>true
  | .aref nm k _ _=>match obj nm with
    |some o=>pq o.len? k
    |none=>false
  |_=>false
def AZ(T:TypeId)(x i:D):Bool:=
 match i with
 | .v (.int _ n)=>match x with
   | .v (.sl l)=>match cH P T with
     |some (_,sz,_)=>dU 0 n&&kS n l.length&&dh (l.getD n.toNat default).cells.length sz
     |none=>false
   | .msl nm k=>match cH P T with
     |some (_,sz,_)=>match obj nm with
      |some (.arr s l)=>dU 0 n&&kS n l.length&&dh k l.length&&dh s sz
      |some (.farr s l)=>dU 0 n&&kS n l.length&&dh k l.length&&dh s sz
      |_=>false
     |none=>false
   | .ref _ _=>match l8 P T with
     |some (len,_,_)=>dU 0 n&&kS n len
     |none=>false
   | .v (.ptr cs)=>match l8 P T with
     |some (len,sz,_)=>dU 0 n&&kS n len&&fK (n.toNat*sz+sz) cs.length
     |none=>false
   |_=>false
 |_=>false
def Om(op:BinOp)(k k':IntKind)(b:Int):Bool:=
 match op with
 | .quo=>wI k k'&&!si b
 | .rem=>wI k k'&&!si b
 | .shl=>dU 0 b
 | .shr=>dU 0 b
 |_=>wI k k'
def Oc(op:BinOp)(a b:ByteArray):Bool:=
 match op with
 | .add=>fK (a.size+b.size) maxLen
 | .eql | .neq | .lss | .leq | .gtr | .geq=>true
 |_=>false
def FU(op:BinOp)(T:TypeId)(x y:D):Bool:=
 match x,y with
 | .v (.int k _),.v (.int k' b)=>Om op k k' b
 | .v (.str a),.v (.str b)=>Oc op a b
 | .v (.bool _),.v (.bool _)=>Dj P T&&isEq op
 |_,_=>false
def FO(op:BinOp)(T:TypeId)(x y:V):Bool:=
 match jx P Op.maxDepth T x y with
 |some _=>!(P.eqGuardType P.depth T)&&isEq op
 |none=>false
def FM(op:BinOp)(T:TypeId)(x:D):Bool:=
 match x with
 | .v (.sl (_::_))=>pq (dM P T) 0&&isEq op
 | .msl nm (k+1)=>(match obj nm with | some o=>pq o.len? (k+1) | none=>false)&&pq (dM P T) 0&&isEq op
 |_=>false
def A6(op:BinOp)(T:TypeId)(x y:D)(lI:Bool):Bool:=
 match lI with
 |true=>FM P obj op T x
 |false=>match el x,el y with
  |some (.agg a),some (.agg b)=>FO P op T (.agg a) (.agg b)
  |_,_=>FU P op T x y
def AO(op:UnOp)(x:D):Bool:=
 match op,x with
 | .not,.v (.bool _)=>true
 | .neg,.v (.int _ _)=>true
 |_,_=>false
def A4(src dst:TypeId)(x:D):Bool:=
 match m6 P dst,x with
 |some _,.v (.int _ _)=>(P.underlying src).isSome
 |_,_=>false
def A3(x:D)(i:Nat):Bool:=
 match x with
 | .tup l=>hU i l.length
 | .v (.tup l)=>hU i l.length
 |_=>false
def AS(x:D):Bool:=
 match x with
 | .ref _ _=>true
 | .v (.ptr _)=>true
 | .aref nm k _ _=>match obj nm with
   |some o=>pq o.len? k
   |none=>false
 |_=>false
def xR(t:Name)(x:D):Bool:=uF (obj (bq t))&&x.boxable
def A8(t:Name)(T:TypeId):Bool:=match bu P T with
 |some z=>xR obj t (iN z)
 |none=>false
def A5(T:TypeId)(parts:List (Nat×D)):Bool:=
 match j7 P T,bu P T with
 |some ps,some z=>match iN z with
  | .agg cs=>match sZ (fun i=>ps[i]?) cs parts with
    |some _=>true
    |none=>false
  |_=>false
 |_,_=>false
def AP(T:TypeId)(x d:D):Bool:=
 match bh P T with
 |none=>false
 |some (_,n)=>match x with
  | .ref nm off=>match obj nm with
    |some (.box cs)=>d.boxable&&dh d.cells.length n&&fK (off+n) cs.length
    |_=>false
  | .aref nm k i off=>match obj nm with
    |some (.arr sz l)=>match el d with
     |some y=>dh k l.length&&hU i l.length&&dh y.cells.length n&&y.okc&&fK (off+n) sz&&!dh sz 0
     |none=>false
    |_=>false
  |_=>false
def AV(t:Name)(T:TypeId)(r:Option D):Bool:=
 match kH P T,r with
 |some _,none=>uF (obj (bq t))
 |_,_=>false
def AU(t:Name)(T:TypeId)(l c:D):Bool:=
 match cH P T,l,c with
 |some (e,sz,by_),.v (.int _ n),.v (.int _ n')=>match (bu P e).bind fun z=>el (iN z)with
  |some zv=>dU n n'&&dU n' n&&dU 0 n&&dU ((by_:Int)*n) 281474976710656&&dU n 9223372036854775807&&dh zv.cells.length sz&&zv.okc&&!dh sz 0&&uF (obj (bq t))
  |none=>false
 |_,_,_=>false
def AX(T:TypeId)(x:D):Bool:=
 match dM P T,x with
 |some 0,.v (.sl _)=>true
 |some 0,.nilsl=>true
 |some 0,.msl nm k=>match obj nm with
  |some o=>pq o.len? k
  |none=>false
 |some 1,.v (.str _)=>true
 |some 2,.nilmap=>true
 |some 2,.map nm=>match obj nm with
  |some (.map _ _)=>true
  |_=>false
 |_,_=>false
def AQ(T:TypeId)(x:D)(lo hi mx:Option D):Bool:=
 match mx with
 |none=>match x with
  | .v (.sl l)=>match cH P T,gU lo,kV l.length hi with
    |some (_,sz,_),some i,some j=>dU 0 i&&dU i j&&dU j l.length&&vE sz l
    |_,_,_=>false
  | .nilsl=>match cH P T,gU lo,kV 0 hi with
    |some (_,_,_),some i,some j=>si i&&si j
    |_,_,_=>false
  | .msl nm k=>match obj nm,cH P T,gU lo,kV k hi with
    |some (.arr _ l),some (_,sz,_),some i,some j=>dh k l.length&&dU 0 i&&dU i j&&dU j l.length&&vE sz l
    |some (.farr _ l),some (_,sz,_),some i,some j=>dh k l.length&&dU 0 i&&dU i j&&dU j l.length&&vE sz l
    |_,_,_,_=>false
  | .v (.str s)=>match dM P T,gU lo,kV s.size hi with
    |some 1,some i,some j=>dU 0 i&&dU i j&&dU j s.size
    |_,_,_=>false
  |_=>false
 |some (.v (.int _ 0))=>match cH P T,gU lo,hi with
  |some _,some 0,some (.v (.int _ 0))=>match x with
   | .v (.sl _)=>true
   | .nilsl=>true
   | .msl nm k=>match obj nm with
     |some o=>pq o.len? k
     |none=>false
   |_=>false
  |_,_,_=>false
 |some _=>false
def A2(T:TypeId)(x:D)(f:Nat):Bool:=
 match bY P T f with
 |none=>false
 |some (off,n,ag)=>match x with
  | .agg l=>match ag with
    |true=>fK (off+n) l.length
    |false=>hU off l.length
  | .v (.agg l)=>match ag with
    |true=>fK (off+n) l.length
    |false=>hU off l.length
  |_=>false
def A0(T:TypeId)(x i:D):Bool:=
 match i with
 | .v (.int _ n)=>match x with
   | .v (.str s)=>pq (dM P T) 1&&dU 0 n&&kS n s.size
   | .agg l=>match l8 P T with
     |some (len,sz,true)=>dU 0 n&&kS n len&&fK (n.toNat*sz+sz) l.length
     |some (len,sz,false)=>dU 0 n&&kS n len&&hU (n.toNat*sz) l.length
     |none=>false
   | .v (.agg l)=>match l8 P T with
     |some (len,sz,true)=>dU 0 n&&kS n len&&fK (n.toNat*sz+sz) l.length
     |some (len,sz,false)=>dU 0 n&&kS n len&&hU (n.toNat*sz) l.length
     |none=>false
   |_=>false
 |_=>false
def AW(T:TypeId)(x k:D):Bool:=
 match kH P T with
 |some (kd,e)=>match (bu P e).bind fun z=>el (iN z),el k with
  |some _,some kv=>match x with
   | .nilmap=>fK kd 2&&eA kd kv
   | .map nm=>match obj nm with
     |some (.map kR _)=>fK kd 2&&eA kd kv&&dh kR kd
     |_=>false
   |_=>false
  |_,_=>false
 |none=>false
def xO(T:TypeId)(x k d:D):Bool:=
 match kH P T,x,el k,el d with
 |some (kd,_),.map nm,some kv,some _=>match obj nm with
  |some (.map kR _)=>fK kd 2&&eA kd kv&&dh kR kd
  |_=>false
 |_,_,_,_=>false
def AR(c:D):Bool:=match c with
 | .v (.bool _)=>true
 |_=>false
def xN(x:D):Bool:=match x with
 | .v (.sl _)=>true
 | .nilsl=>true
 | .msl nm k=>match obj nm with
   |some (.arr _ l)=>dh k l.length
   |some (.farr _ l)=>dh k l.length
   |_=>false
 |_=>false
def A7(t:Name)(T1 T2:TypeId)(s x:D):Bool:=
 match cH P T1,cH P T2 with
 |some (e,sz,by_),some _=>match bu P e with
  |some z=>match s with
   | .nilsl=>xN obj x&&vF sz (aN obj x).2&&dh z.cells.size sz&&fK ((aN obj x).2.length*by_) 140737488355328&&fK (aN obj x).2.length maxLen&&uF (obj (bq t))
   | .msl nm k=>match obj nm with
     |some (.arr s' l)=>xN obj x&&vF sz (aN obj x).2&&dh z.cells.size sz&&fK ((l.length+(aN obj x).2.length)*by_) 140737488355328&&
        fK (l.length+(aN obj x).2.length) maxLen&&dh k l.length&&dh s' sz
     |_=>false
   |_=>false
  |none=>false
 |_,_=>false
variable {P obj}
theorem qF{a b:Nat}:fK a b=true↔a<=b:=⟨sc,Nat.ble_eq_true_of_le⟩
theorem wA{a b:Nat}:hU a b=true↔a<b:=⟨y9,Nat.ble_eq_true_of_le⟩
theorem qG{a b:Nat}:dh a b=true↔a=b:=⟨kO,fun h=>by subst h;simp[dh]⟩
theorem za{a b:Nat}:dh a b=false↔a≠b:=by
 rw[<-Bool.not_eq_true,qG]
theorem LB{a b:Int}:dU a b=true↔a<=b:=⟨gV,fun h=>by
 unfold dU
 split
 ·rfl
 ·rename_i n hn;have:=Int.negSucc_lt_zero n;omega⟩
theorem LA{a b:Int}:kS a b=true↔a<b:=⟨Xl,fun h=>by
 unfold kS
 split
 ·rfl
 ·rename_i n hn;have:=Int.negSucc_lt_zero n;omega⟩
theorem Lt{n:Int}:si n=true↔n=0:=⟨fun h=>(by unfold si at h;split at h<;>first | rfl | cases h),fun h=>(by subst h;rfl)⟩
theorem FN{T:TypeId}{x:D}(h:xP P obj T x=true):(jY P obj T x).ok:=by
 unfold xP at h
 unfold jY
 (repeat' split at h)<;>simp_all[qF,wA,qG,-List.getD_eq_getElem?_getD]
theorem Ot{T:TypeId}{f:Nat}{x:D}(h:A1 P obj T f x=true):(l3 P obj T f x).ok:=by
 unfold A1 at h
 unfold l3
 split at h
 ·cases h
 ·simp only[Bool.and_eq_true,Bool.not_eq_true',za]at h
  obtain⟨h1,h⟩:=h
  (repeat' split at h)<;>simp_all[qF]
  exact qD h
theorem Oo{T:TypeId}{x i:D}(h:AZ P obj T x i=true):(lZ P obj T x i).ok:=by
 unfold AZ at h
 unfold lZ
 (repeat' split at h)<;>simp_all[qF,qG,LB,LA,-List.getD_eq_getElem?_getD]
theorem aaS{op:BinOp}{T:TypeId}{x y:D}(h:FU P op T x y=true):(oa P obj op T x y).ok:=by
 unfold FU at h
 unfold oa
 split at h
 ·simp only
  unfold Om at h
  unfold AY
  cases op<;>simp only[Bool.and_eq_true,Bool.not_eq_true']at h |- <;>first
   |exact⟨Lm h.1,Xc h.2⟩
   |exact Lm h
   |exact gV h
 ·simp only
  unfold Oc at h
  unfold xM
  cases op<;>simp only at h |- <;>first | exact sc h | trivial | (cases h;done)
 ·simp only[Bool.and_eq_true]at h
  exact⟨Xf h.1,zj h.2⟩
 ·cases h
theorem aaO{op:BinOp}{T:TypeId}{x y:V}(h:FO P op T x y=true):(jZ P obj op T x y).ok:=by
 unfold FO at h
 unfold jZ
 split at h
 ·rename_i b hb
  simp only[Bool.and_eq_true,Bool.not_eq_true']at h
  rw[hb]
  exact⟨h.1,zj h.2⟩
 ·cases h
theorem aaN{op:BinOp}{T:TypeId}{x:D}(h:FM P obj op T x=true):(qf P obj op T x).ok:=by
 unfold FM at h
 unfold qf
 split at h
 ·simp only[Bool.and_eq_true]at h
  exact⟨qD h.1,zj h.2⟩
 ·rename_i nm k
  simp only[Bool.and_eq_true]at h
  refine⟨?_,qD h.1.2,zj h.2⟩
  have h1:=h.1.1
  split at h1
  ·rename_i o ho;rw[ho];exact qD h1
  ·cases h1
 ·cases h
theorem Oy{op:BinOp}{T:TypeId}{x y:D}{n:Bool}(h:A6 P obj op T x y n=true):(mX P obj op T x y n).ok:=by
 unfold A6 at h
 unfold mX
 cases n with
 |true=>exact aaN h
 |false=>
  simp only at h |-
  split at h
  ·rename_i h1 h2
   simp only[h1,h2]
   exact aaO h
  ·rename_i aG
   split
   ·rename_i h1 h2;exact(aG _ _ h1 h2).elim
   ·exact aaS h
theorem Ob{op:UnOp}{x:D}(h:AO op x=true):(mO obj op x).ok:=by
 unfold AO at h
 unfold mO
 split at h<;>first | trivial | cases h
theorem Ow{s d:TypeId}{x:D}(h:A4 P s d x=true):(mT P obj s d x).ok:=by
 unfold A4 at h
 unfold mT
 (repeat' split at h)<;>simp_all
theorem Ou{x:D}{i:Nat}(h:A3 x i=true):(mS obj x i).ok:=by
 unfold A3 at h
 unfold mS
 split at h<;>simp_all[wA]
theorem Og{x:D}(h:AS obj x=true):(ln obj x).ok:=by
 unfold AS at h
 unfold ln
 (repeat' split at h)<;>simp_all
 exact qD h
theorem FT{t:Name}{x:D}(h:xR obj t x=true):(mW obj t x).ok:=by
 simp only[xR,Bool.and_eq_true]at h
 exact⟨yZ h.1,h.2⟩
theorem OA{t:Name}{T:TypeId}(h:A8 P obj t T=true):(oc P obj t T).ok:=by
 unfold A8 at h
 unfold oc
 split at h
 ·rename_i z hz;rw[hz];exact FT h
 ·cases h
theorem Ox{T:TypeId}{ps:List (Nat×D)}(h:A5 P T ps=true):(mV P obj T ps).ok:=by
 unfold A5 at h
 unfold mV
 (repeat' split at h)<;>simp_all
theorem Od{T:TypeId}{x d:D}(h:AP P obj T x d=true):(ll P obj T x d).ok:=by
 unfold AP at h
 unfold ll
 (repeat' split at h)<;>simp_all[qF,wA,qG,za]
theorem Oi{t:Name}{T:TypeId}{r:Option D}(h:AV P obj t T r=true):(n9 P obj t T r).ok:=by
 unfold AV at h
 unfold n9
 (repeat' split at h)<;>simp_all
 exact yZ h
theorem Oh{t:Name}{T:TypeId}{l c:D}(h:AU P obj t T l c=true):(n8 P obj t T l c).ok:=by
 unfold AU at h
 unfold n8
 split at h
 ·rename_i e sz by_ k n k' n' hT
  rw[hT]
  simp only
  split at h
  ·rename_i zv hz
   simp only[Bool.and_eq_true,Bool.not_eq_true',za]at h
   obtain⟨⟨⟨⟨⟨⟨⟨⟨h1,h2⟩,h3⟩,h4⟩,h5⟩,h6⟩,h7⟩,h8⟩,h9⟩:=h
   rw[hz]
   exact⟨Int.le_antisymm (gV h2) (gV h1),gV h3,gV h4,gV h5,kO h6,h7,h8,yZ h9⟩
  ·cases h
 ·cases h
theorem Ol{T:TypeId}{x:D}(h:AX P obj T x=true):(lq P obj T x).ok:=by
 unfold AX at h
 unfold lq
 (repeat' split at h)<;>simp_all
 exact qD h
theorem Oe{T:TypeId}{x:D}{lo hi mx:Option D}(h:AQ P obj T x lo hi mx=true):(kE P obj T x lo hi mx).ok:=by
 unfold AQ at h
 unfold kE
 split at h
 ·split at h
  ·split at h
   ·rename_i h1 h2 h3
    simp only[Bool.and_eq_true]at h
    simp only[h1,h2,h3]
    exact⟨gV h.1.1.1,gV h.1.1.2,gV h.1.2,Bd h.2⟩
   ·cases h
  ·split at h
   ·rename_i h1 h2 h3
    simp only[Bool.and_eq_true]at h
    simp only[h1,h2,h3]
    exact⟨Lt.1 h.1,Lt.1 h.2⟩
   ·cases h
  ·split at h
   ·rename_i h1 h2 h3 h4
    simp only[Bool.and_eq_true]at h
    simp only[h1,h2,h3,h4]
    exact⟨kO h.1.1.1.1,gV h.1.1.1.2,gV h.1.1.2,gV h.1.2,Bd h.2⟩
   ·rename_i h1 h2 h3 h4
    simp only[Bool.and_eq_true]at h
    simp only[h1,h2,h3,h4]
    exact⟨kO h.1.1.1.1,gV h.1.1.1.2,gV h.1.1.2,gV h.1.2,Bd h.2⟩
   ·cases h
  ·split at h
   ·rename_i h1 h2 h3
    simp only[Bool.and_eq_true]at h
    simp only[h1,h2,h3]
    exact⟨gV h.1.1,gV h.1.2,gV h.2⟩
   ·cases h
  ·cases h
 ·split at h
  ·rename_i h1 h2 h3
   split at h
   ·simp only[h2,h3]
   ·simp only[h2,h3]
   ·split at h
    ·rename_i o ho
     simp only[h2,h3,ho]
     exact qD h
    ·cases h
   ·cases h
  ·cases h
 ·cases h
theorem Oq{T:TypeId}{x:D}{f:Nat}(h:A2 P T x f=true):(mR P obj T x f).ok:=by
 unfold A2 at h
 unfold mR
 (repeat' split at h)<;>simp_all[qF,wA]
theorem On{T:TypeId}{x i:D}(h:A0 P T x i=true):(mQ P obj T x i).ok:=by
 unfold A0 at h
 unfold mQ
 (repeat' split at h)<;>simp_all[qF,wA,LB,LA]
 exact qD h.1.1
theorem Oj{T:TypeId}{x k:D}{c:Bool}(h:AW P obj T x k=true):(mP P obj T x k c).ok:=by
 unfold AW at h
 unfold mP
 (repeat' split at h)<;>simp_all[qF,qG]
theorem AT{T:TypeId}{x k d:D}(h:xO P obj T x k d=true):(kF P obj T x k d).ok:=by
 unfold xO at h
 unfold kF
 (repeat' split at h)<;>simp_all[qF,qG]
theorem Of{c x y:D}(h:AR c=true):(jX obj c x y).ok:=by
 unfold AR at h
 unfold jX
 split at h<;>first | trivial | cases h
theorem FL{x:D}(h:xN obj x=true):(aN obj x).1:=by
 unfold xN at h
 unfold aN
 (repeat' split at h)<;>simp_all[qG]
theorem Oz{t:Name}{T1 T2:TypeId}{s x:D}(h:A7 P obj t T1 T2 s x=true):(ev P obj t T1 T2 s x).ok:=by
 unfold A7 at h
 unfold ev
 split at h
 ·rename_i e sz by_ p h1 h2
  split at h
  ·rename_i z hz
   split at h
   ·simp only[Bool.and_eq_true]at h
    simp only[h1,h2,hz]
    exact⟨FL h.1.1.1.1.1,Be h.1.1.1.1.2,kO h.1.1.1.2,sc h.1.1.2,sc h.1.2,yZ h.2⟩
   ·split at h
    ·rename_i ho
     simp only[Bool.and_eq_true]at h
     simp only[h1,h2,hz,ho]
     exact⟨FL h.1.1.1.1.1.1,Be h.1.1.1.1.1.2,kO h.1.1.1.1.2,sc h.1.1.1.2,sc h.1.1.2,kO h.1.2,kO h.2⟩
    ·cases h
   ·cases h
  ·cases h
 ·cases h
end
def p0(f:(Name->Option O)->D->Bool)(g:(Name->Option O)->D->FR)(obj:Name->Option O):List D->Bool
 |[]=>true
 |d::r=>f obj d&&p0 f g (g obj d).obj r
def lh:Nat->(Name->Option O)->D->Bool
 | 0,obj,d=>match d with
   | .v _=>true
   | .nilsl=>true
   |_=>false
 |n+1,obj,d=>match d with
  | .v _=>true
  | .nilsl=>true
  | .msl nm k=>match obj nm with
    |some (.arr _ l)=>decide (k=l.length)
    |some (.farr _ l)=>decide (k=l.length)
    |_=>false
  | .ref nm _=>match obj nm with
    |some (.box cs)=>p0 (lh n) (aR n) obj cs&&!cv (eP (fp n obj) cs) nm
    |some (.fbox _)=>true
    |_=>false
  | .agg l=>p0 (lh n) (aR n) obj l
  | .tup l=>p0 (lh n) (aR n) obj l
  | .clo _ f c=>p0 (lh n) (aR n) obj f&&p0 (lh n) (aR n) (bB (aR n) obj f).obj c
  |_=>false
theorem EU{n:Nat}(ih:∀ obj d,lh n obj d=true->(aR n obj d).ok):∀ (l:List D) (obj:Name->Option O),p0 (lh n) (aR n) obj l=true->(bB (aR n) obj l).ok
 |[],_,_=>trivial
 |d::r,obj,h=>by
  simp only[p0,Bool.and_eq_true]at h
  exact⟨ih obj d h.1,EU ih r _ h.2⟩
theorem MP:∀ (n:Nat) (obj:Name->Option O) (d:D),lh n obj d=true->(aR n obj d).ok
 | 0,obj,d,h=>by cases d<;>first | trivial | (simp[lh]at h)
 |n+1,obj,d,h=>by
  have ih:=EU (MP n)
  cases d with
  |v x=>trivial
  |nilsl=>trivial
  |msl nm k=>
   simp only[lh]at h
   unfold aR
   rcases ho:obj nm with _ | o
   ·simp[ho]at h
   ·cases o<;>simp[ho]at h |- <;>exact h
  |ref nm off=>
   simp only[lh]at h
   rcases ho:obj nm with _ | o
   ·simp[ho]at h
   ·cases o with
    |box cs=>
     simp only[ho,Bool.and_eq_true,Bool.not_eq_true']at h
     simp only[aR,ho]
     refine⟨ih cs obj h.1,?_⟩
     have :=(xz (Ae n) cs obj obj (eP (fp n obj) cs) (fun _ hn=>hn) (fun _ _=>rfl)).2.frame nm (fun hn=>by rw[gD.2 hn]at h;cases h.2)
     rw[this,ho]
    |fbox cs=>simp only[aR,ho]
    |_=>simp[ho]at h
  |agg l=>exact ih l obj h
  |tup l=>exact ih l obj h
  |clo fn f c=>
   simp only[lh,Bool.and_eq_true]at h
   exact⟨ih f obj h.1,ih c _ h.2⟩
  |_=>simp[lh]at h
def isNil{α:Type}:List α->Bool
 |[]=>true
 |_=>false
theorem Xd{α:Type}{l:List α}:isNil l=true↔l=[]:=by cases l<;>simp[isNil]
def zh:Nat->List Nat->Bool
 |_,[]=>true
 |k,x::r=>dh x k&&zh (k+1) r
theorem Lu:∀ {k:Nat} {l:List Nat},zh k l=true->l=List.range' k l.length
 |k,[],_=>rfl
 |k,x::r,h=>by
  simp only[zh,Bool.and_eq_true]at h
  rw[kO h.1,List.length_cons,List.range'_succ]
  congr 1
  exact Lu h.2
def FI(P:Program)(obj:Name->Option O)(T:TypeId)(n:Nat)(parts:List (Nat×D)):Bool:=
 match cH P T with
 |some (e,sz,_)=>match dh n 0&&isNil parts with
  |true=>(bu P e).isSome
  |false=>p0 (lh 4) (aR 4) obj (parts.map fun p=>p.2)&&zh 0 (parts.map fun p=>p.1)&&dh parts.length n&&vF sz (bB (aR 4) obj (parts.map fun p=>p.2)).xs&&
     fK (n*sz) 16777216&&!dh sz 0&&(bu P e).isSome&&hU 0 n
 |none=>false
theorem aaE{P:Program}{obj:Name->Option O}{T:TypeId}{n:Nat}{parts:List (Nat×D)}(h:FI P obj T n parts=true):(oX P obj T n parts).ok:=by
 unfold FI at h
 unfold oX
 split at h
 ·rename_i e sz by_ hT
  rw[hT]
  simp only
  split at h
  ·rename_i hc
   simp only[Bool.and_eq_true,qG,Xd]at hc
   rw[if_pos hc];exact h
  ·rename_i hc
   have jr:¬ (n=0/\parts=[]):=by
    intro ⟨a,b⟩
    subst a;subst b
    cases hc
   rw[if_neg jr]
   simp only[Bool.and_eq_true,Bool.not_eq_true',za]at h
   obtain⟨⟨⟨⟨⟨⟨⟨h1,h2⟩,ri⟩,h3⟩,h4⟩,h5⟩,h6⟩,h7⟩:=h
   refine⟨?_,EU (MP 4) _ _ h1,Be h3,sc h4,h5,h6,y9 h7⟩
   have :=Lu h2
   rw[List.length_map,kO ri,<-List.range_eq_range']at this
   exact this
 ·cases h
def FH(P:Program)(σ:S)(t:Name)(b:Builtin)(ts:List TypeId)(args:List D):Bool:=
 match b,ts,args with
 | .len,[T],[x]=>AX P σ.obj T x
 | .append,[T1,T2],[s,x]=>A7 P σ.obj t T1 T2 s x
 | .min,_,[.v (.int _ _),.v (.int _ _)]=>true
 | .max,_,[.v (.int _ _),.v (.int _ _)]=>true
 |_,_,_=>false
def IE(P:Program)(σ:S)(t:Name):Op->Bool
 | .move _=>true
 | .assign _=>true
 | .pick c _ _=>AR (av σ c)
 | .alloc T=>A8 P σ.obj t T
 | .box _ x=>xR σ.obj t (av σ x)
 | .build T ps=>A5 P T (ps.toList.map fun p=>(p.1,av σ p.2))
 | .buildSlice T n ps=>FI P σ.obj T n (ps.toList.map fun p=>(p.1,av σ p.2))
 | .load T x=>xP P σ.obj T (av σ x)
 | .store T x d=>AP P σ.obj T (av σ x) (av σ d)
 | .nilCheck x=>AS σ.obj (av σ x)
 | .binOp op T x y _=>A6 P σ.obj op T (av σ x) (av σ y) (zi y)
 | .unOp op _ x=>AO op (av σ x)
 | .convert s d x=>A4 P s d (av σ x)
 | .makeFunc _ _ _=>true
 | .makeMap T r=>AV P σ.obj t T (r.map (av σ))
 | .makeSlice T l c=>AU P σ.obj t T (av σ l) (av σ c)
 | .slice T x lo hi mx=>AQ P σ.obj T (av σ x) (lo.map (av σ)) (hi.map (av σ)) (mx.map (av σ))
 | .fieldAddr T x f=>A1 P σ.obj T f (av σ x)
 | .field T x f=>A2 P T (av σ x) f
 | .indexAddr T x i=>AZ P σ.obj T (av σ x) (av σ i)
 | .index T x i=>A0 P T (av σ x) (av σ i)
 | .lookup T x i _=>AW P σ.obj T (av σ x) (av σ i)
 | .mapUpdate T x k d=>xO P σ.obj T (av σ x) (av σ k) (av σ d)
 | .insert T x k d=>xO P σ.obj T (av σ x) (av σ k) (av σ d)
 | .extract x i=>A3 (av σ x) i
 | .call ⟨.builtin b,args,ts⟩=>FH P σ t b ts.toList (args.toList.map (av σ))
 |_=>false
theorem aaD{P:Program}{σ:S}{t:Name}{b:Builtin}{ts:List TypeId}{args:List D}(h:FH P σ t b ts args=true):(mU P σ t b ts args).ok:=by
 unfold FH at h
 split at h
 ·exact Ol h
 ·exact Oz h
 ·trivial
 ·trivial
 ·cases h
theorem Tc{P:Program}{Γ:FuncId->Option Spec}{σ:S}{t:Name}{op:Op}(h:IE P σ t op=true):(bn P Γ σ t op).ok:=by
 cases op with
 |call c=>
  obtain⟨callee,args,ts⟩:=c
  cases callee with
  |value f=>cases h
  |builtin b=>exact aaD h
  |invoke=>cases h
 |move=>trivial
 |assign=>trivial
 |makeFunc=>trivial
 |pick=>exact Of h
 |alloc=>exact OA h
 |box=>exact FT h
 |build=>exact Ox h
 |buildSlice=>exact aaE h
 |load=>exact FN h
 |store=>exact Od h
 |nilCheck=>exact Og h
 |binOp=>exact Oy h
 |unOp=>exact Ob h
 |convert=>exact Ow h
 |makeMap=>exact Oi h
 |makeSlice=>exact Oh h
 |slice=>exact Oe h
 |fieldAddr=>exact Ot h
 |field=>exact Oq h
 |indexAddr=>exact Oo h
 |index=>exact On h
 |lookup=>exact Oj h
 |mapUpdate=>exact AT h
 |insert=>exact AT h
 |extract=>exact Ou h
 |_=>cases h
def zl(o:Oper):Option (TypeId×Operand×Operand×Nat):=
 match o.op with
 | .slice T x (some lo) none none=>match o.guard,o.dst with
   |none,some c=>some (T,x,lo,c)
   |_,_=>none
 |_=>none
def zk(c:Nat)(o:Oper):Bool:=
 match o.op with
 | .call ⟨.builtin .clear,args,ts⟩=>match args.toList,ts.toList,o.guard,o.dst with
   |[.tmp c'],[_],none,none=>Nat.beq c' c
   |_,_,_,_=>false
 |_=>false
def jz(o:Oper):TypeId:=match o.op with
 | .call ⟨.builtin .clear,_,ts⟩=>ts.getD 0 0
 |_=>0
def jD(P:Program)(obj:Name->Option O)(T T2:TypeId)(x lo:D):R:=
 match x,lo,cH P T,cH P T2 with
 | .msl nm k,.v (.int _ i),some (e,sz,_),some (e2,_,_)=>match obj nm,(bu P e).bind fun z=>el (iN z)with
   |some (.arr s l),some zv=>⟨k=l.length/\0<=i/\i.toNat<l.length/\s=sz/\zv.cells.length=sz/\zv.okc=true/\e2=e/\0<sz,.any,upd obj nm (some (.arr sz (l.take i.toNat++List.replicate (l.length-i.toNat) zv)))⟩
   |_,_=>.bad obj
 |_,_,_,_=>.bad obj
def mH(P:Program)(σ:S)(T:TypeId)(x lo:Operand)(c:Nat)(o2:Oper):S:=
 { σ with env:=upd σ.env c ⟨true,.any⟩,obj:=(jD P σ.obj T (jz o2) (av σ x) (av σ lo)).obj }
inductive mY (P:Program) (Γ:FuncId->Option Spec) (ops:Array Oper):List Oper->S->(S->Prop)->Prop
 |nil {σ:S} {K:S->Prop}:K σ->mY P Γ ops [] σ K
 |step {o:Oper} {r:List Oper} {σ:S} {K:S->Prop}:lF P Γ ops σ o->mY P Γ ops r (bx P Γ ops σ o) K->mY P Γ ops (o::r) σ K
 |cut {o o2:Oper} {r:List Oper} {σ:S} {K:S->Prop} {T:TypeId} {x lo:Operand} {c:Nat}:zl o=some (T,x,lo,c)->zk c o2=true->c<σ.nt->c7 σ x=true->c7 σ lo=true->
    (jD P σ.obj T (jz o2) (av σ x) (av σ lo)).ok->mY P Γ ops r (mH P σ T x lo c o2) K->mY P Γ ops (o::o2::r) σ K
theorem HS{m:Mem}{zv:V}{z:Value}{sz:Nat}(h:aY m zv z)(hs:zv.cells.length=sz)(bW:0<sz)(n k:Nat)(hk:k<n*sz):
 (Builtin.zeroCells z.cells n)[k]?=z.cells[k % sz]?:=by
 have hz:z.cells.size=sz:=by rw[<-h.cells];exact hs
 have hm:=Nat.mod_lt k bW
 unfold Builtin.zeroCells
 rw[hz]
 simp only[Array.getElem?_map,Array.getElem?_range,hk,if_true,Option.map_some]
 rw[Array.getElem?_eq_getElem (by omega),getElem!_pos z.cells (k % sz) (by omega)]
theorem Ft{l:List V}{zv:V}{i q:Nat}(hi:i<=l.length)(hq:q<(l.take i++List.replicate (l.length-i) zv).length):
 (q<i/\∃ h:q<l.length,(l.take i++List.replicate (l.length-i) zv)[q]=l[q])\/(i<=q/\q<l.length/\(l.take i++List.replicate (l.length-i) zv)[q]=zv):=by
 have hlen:(l.take i).length=i:=by simp;omega
 have bZ:=hq
 simp only[List.length_append,List.length_replicate,hlen]at bZ
 by_cases h1:q<i
 ·refine .inl ⟨h1,by omega,?_⟩
  rw[List.getElem_append_left (by omega),List.getElem_take]
 ·refine .inr ⟨by omega,by omega,?_⟩
  rw[List.getElem_append_right (by omega),List.getElem_replicate]
theorem Jd{K a b:Nat}(h:a<b):a*K+K<=b*K:=by
 have :=Nat.mul_le_mul_right K (show a+1<=b by omega)
 rwa [Nat.add_mul,Nat.one_mul]at this
set_option maxHeartbeats 1000000 in
theorem Z8{P:Program}{G:Ghost}{φ:Name->Loc}{m:Mem}{σ:S}{a:Act}{w:World}(hC:aZ G φ m σ a w)
 {ops:Array Oper} {i:Nat} {o o2:Oper} (hi:ops[i]?=some o) (kW:ops[i+1]?=some o2) {T:TypeId} {x lo:Operand} {c:Nat} (hA:zl o=some (T,x,lo,c)) (hB:zk c o2=true) (hc:c<σ.nt)
 (hx:c7 σ x=true) (eB:c7 σ lo=true) (ab:(jD P σ.obj T (jz o2) (av σ x) (av σ lo)).ok) {K:Act->World->Prop} {Q:Exit->Act->World->Prop}
 (hK:∀ a' w' φ' m',aZ G φ' m' (mH P σ T x lo c o2) a' w'->K a' w'):
 wpOpIn (gd G.rd) 0 P ops Q i (fun a1 w1=>wpOpIn (gd G.rd) 0 P ops Q (i+1) K a1 w1) a w:=by
 unfold zl at hA
 split at hA
 case h_2=>cases hA
 rename_i T0 x0 CU LY
 split at hA
 case h_2=>cases hA
 rename_i hg hd
 simp only[Option.some.injEq,Prod.mk.injEq]at hA
 obtain⟨rfl,rfl,rfl,rfl⟩:=hA
 unfold zk at hB
 split at hB
 case h_2=>cases hB
 rename_i args ts DS
 split at hB
 case h_2=>cases hB
 rename_i c' T2 mD pF dP nK
 have YF:=Nat.eq_of_beq_eq_true hB
 subst YF
 have nO:jz o2=T2:=by
  unfold jz
  rw[DS]
  simp only
  have :ts= #[T2]:=by rw[<-Array.toArray_toList (xs:=ts),pF]
  rw[this];rfl
 have YR:args= #[.tmp c']:=by rw[<-Array.toArray_toList (xs:=args),mD]
 have XA:ts= #[T2]:=by rw[<-Array.toArray_toList (xs:=ts),pF]
 rw[nO]at ab
 have Ms:mH P σ T0 x0 CU c' o2={ σ with env:=upd σ.env c' ⟨true,.any⟩,obj:=(jD P σ.obj T0 T2 (av σ x0) (av σ CU)).obj }:=by unfold mH;rw[nO]
 rw[Ms]at hK
 clear Ms hB mD pF nO
 have rx:=cQ hC hx
 have rl:=cQ hC eB
 unfold jD at ab hK
 split at ab
 case h_2=>exact ab.elim
 rename_i nm k kd ii e sz by_ e2 G2 N7 qY mC MA Mz
 split at ab
 case h_2=>exact ab.elim
 rename_i s l zv aD sk
 obtain⟨h1,h2,h3,h4,h5,h6,h7,bW⟩:=ab
 subst h7
 subst h4
 obtain⟨n,rfl⟩:∃ n:Nat,ii=(n:Int):=⟨ii.toNat,by omega⟩
 simp only[qY,mC,MA,Mz,aD,sk,Int.toNat_natCast]at hK h3
 obtain⟨hu,it,fb,zS,_⟩:=j8 MA
 obtain⟨fM,_⟩:=j8 Mz
 obtain⟨z,hz,Xo⟩:=Option.bind_eq_some_iff.1 sk
 have gE:aY m zv z:=oV (uC (φ:=φ) (obj:=σ.obj) (m:=m) z) Xo
 rw[qY]at rx
 rw[mC]at rl
 cases rl with
 |v _ _ rl=>
 cases pL:a.eval CU with
 |int kd2 n2=>
  rw[pL]at rl
  cases rl
  cases rx with
  |msl _ _ _ hh _=>
  obtain⟨oo,nn,dO,hlen,hk,dz⟩:=hh
  rw[aD]at dO;cases dO
  simp only[O.len?,Option.some.injEq]at hlen
  subst hlen
  subst h1
  have hv:=dz rfl
  rcases hC.objs nm _ aD with⟨_,pO⟩ | ⟨g0,g1,g2,g3,g4,us,T',f,g5,g6,g7,g8⟩
  ·subst pO;simp at h3
  have su:a.eval x0=.slice (some ⟨(φ nm).blk,(φ nm).off,none⟩) l.length (φ nm).cap:=by rw[hv];simp only[Loc.slice,g0];rfl
  have nM:(φ nm).blk<w.heap.size:=(Array.getElem?_eq_some_iff.1 g5).1
  have iU:(Instr.sliceAt T0 (.slice (some ⟨(φ nm).blk,(φ nm).off,none⟩) l.length (φ nm).cap) (some (.int kd n)) none none).run P w=
      .ok (.slice (some ⟨(φ nm).blk,(φ nm).off+n*s,none⟩) (l.length-n) ((φ nm).cap-n)) w:=by
   have hb:=yG (P:=P) (φ:=φ) (obj:=σ.obj) (m:=m) (lo:=some (.v (.int kd n))) (hi:=none) (ulo:=some (.int kd n)) (uhi:=none) (len:=l.length) (cap:=(φ nm).cap) (n:=0) (i:=n) (j:=l.length) true (.v _ _ (.int _ _)) trivial rfl rfl (by omega) (by omega) (by omega) g1 w
   rw[yw hu]
   have aG:¬ ((φ nm).cap=n):=by omega
   simp[Instr.slice,run_underlying hu,hb,sizeOf,typeInfo,fb,zS,aG,oW]
  have ca:∀ cc,o.op≠ .defer cc:=fun cc h=>by rw[LY]at h;cases h
  have uX:∀ cc,o2.op≠ .defer cc:=fun cc h=>by rw[DS]at h;cases h
  have lP:Region.wanted o (yielded ops a.tmps)=true:=by unfold Region.wanted;rw[hg]
  have di:(execOp a.eval o).run P w=.ok (.value (.slice (some ⟨(φ nm).blk,(φ nm).off+n*s,none⟩) (l.length-n) ((φ nm).cap-n))) w:=by
   unfold execOp
   rw[LY]
   simp only[su,Option.map_some,Option.map_none,pL,Sem.run_bind,iU,Result.andThen_ok,Sem.run_pure]
  have key:∀ KK:Act->World->Prop,KK (a.put (some c') (.slice (some ⟨(φ nm).blk,(φ nm).off+n*s,none⟩) (l.length-n) ((φ nm).cap-n))) w->wpOpIn (gd G.rd) 0 P ops Q i KK a w:=by
   intro KK MI
   unfold wpOpIn
   simp only[hi,lP,if_true]
   refine⟨fun _ _=>trivial,?_⟩
   rw[Oper.semAt_eq _ _ _ ca,di]
   rw[<-hd]at MI
   exact MI
  refine key _ ?_
  have iu:=hC.put (t:=c') (e:=⟨true,.any⟩) (v:=.slice (some ⟨(φ nm).blk,(φ nm).off+n*s,none⟩) (l.length-n) ((φ nm).cap-n)) hc (by unfold cR;simp;exact .any _)
  have Mo:(a.put (some c') (.slice (some ⟨(φ nm).blk,(φ nm).off+n*s,none⟩) (l.length-n) ((φ nm).cap-n))).eval (.tmp c')=.slice (some ⟨(φ nm).blk,(φ nm).off+n*s,none⟩) (l.length-n) ((φ nm).cap-n):=by
   have hs:c'<a.tmps.size:=by rw[hC.size];exact hc
   simp[Act.put,Act.eval,Array.getD,hs]
  generalize hga:a.put (some c') (.slice (some ⟨(φ nm).blk,(φ nm).off+n*s,none⟩) (l.length-n) ((φ nm).cap-n))=a1 at iu Mo |-
  have iX:n*s<=l.length*s:=Nat.mul_le_mul_right _ (by omega)
  have kZ:l.length*s<=(φ nm).cap*s:=Nat.mul_le_mul_right _ g1
  have sm:(Builtin.zeroCells z.cells (l.length-n)).toList.length=l.length*s-n*s:=by
   have Dq:z.cells.size=s:=by rw[<-gE.cells];exact h5
   simp[Builtin.zeroCells,Dq,Nat.sub_mul]
  obtain⟨jF,k1,k2,k3⟩:=we P (φ nm).blk ((φ nm).off+n*s) T' f g6 (Builtin.zeroCells z.cells (l.length-n)).toList 0 us w g5 (by rw[sm];omega)
   (fun v hv=>by
     obtain⟨k,hk,rfl⟩:=List.getElem_of_mem hv
     rw[sm,<-Nat.sub_mul]at hk
     have h0:=HS gE h5 bW (l.length-n) k hk
     have L':k % s<z.cells.size:=by rw[<-gE.cells,h5];exact Nat.mod_lt _ bW
     rw[Array.getElem?_eq_getElem L']at h0
     have h1:(Builtin.zeroCells z.cells (l.length-n)).toList[k]=z.cells[k % s]:=by
      have :=h0
      rw[<-Array.getElem?_toList]at this
      exact(List.getElem?_eq_some_iff.1 this).2
     rw[h1]
     have sK:k % s<zv.cells.length:=by rw[h5];exact Nat.mod_lt _ bW
     exact IG ((gE.cell (k % s) sK L').one (gE.ones h6 _ (List.getElem_mem _))))
  simp only[Nat.add_zero]at k2
  have Dt:Region.wanted o2 (yielded ops a1.tmps)=true:=by unfold Region.wanted;rw[dP]
  show wpOpIn (gd G.rd) 0 P ops Q (i+1) K a1 w
  unfold wpOpIn
  simp only[kW,Dt,if_true]
  refine⟨fun _ _=>trivial,?_⟩
  rw[Oper.semAt_eq _ _ _ uX]
  have XH:(execOp a1.eval o2).run P w=.ok (.value (.tuple #[])) (de w (φ nm).blk (.cells jF T' f)):=by
   have aG:l.length-n≠0:=by omega
   unfold execOp
   rw[DS,YR,XA]
   simp only[resolve,invoke,builtin,Sem.run_bind,Sem.run_pure,Result.andThen_ok,List.map_toArray,List.map_cons,List.map_nil,Mo]
   have Xz:Sem.run P (underlying T2) w=.ok (TypeDesc.slice e2) w:=run_underlying fM w
   have cT:(Builtin.clear_ #[T2] o2.type #[.slice (some ⟨(φ nm).blk,(φ nm).off+n*s,none⟩) (l.length-n) ((φ nm).cap-n)]).run P w=.ok (.tuple #[]) (de w (φ nm).blk (.cells jF T' f)):=by
    obtain⟨q,hq⟩:∃ q,l.length-n=q+1:=⟨l.length-n-1,by omega⟩
    rw[hq]at k3 |-
    simp[Builtin.clear_,Xz,wc hz,k3]
   simp only[cT,Result.andThen_ok]
  rw[XH]
  have xa:(l.take n++List.replicate (l.length-n) zv).length=l.length:=by simp;omega
  have bF:=Ext.same (φ:=φ) (o':=.arr s (l.take n++List.replicate (l.length-n) zv)) aD (by simp only[O.len?,xa]) rfl
  have Yl:=iu.chg (w':=de w (φ nm).blk (.cells jF T' f)) nm (.arr s (l.take n++List.replicate (l.length-n) zv)) (φ nm) bF ⟨rfl,rfl,rfl,by simp[de]⟩
   (fun b hb hn=>qj (by rcases hn with h | h; · rw[g0]at h;cases h
                        ·exact h))
   (fun _=>.inr ⟨⟨_,aD,rfl,g0⟩,rfl⟩) (by
     refine .inr ⟨g0,by rw[xa];exact g1,g2,fun q hq=>?_,fun q hq=>?_,jF,T',f,rN nM,g6,by rw[k1];exact g7,fun q j hq hj=>?_⟩
     ·rcases Ft (by omega) hq with⟨_,bZ,e3⟩ | ⟨_,_,e3⟩<;>rw[e3]
      ·exact g3 q bZ
      ·exact h5
     ·rcases Ft (by omega) hq with⟨_,bZ,e3⟩ | ⟨_,_,e3⟩<;>rw[e3]
      ·exact g4 q bZ
      ·exact gE.ones h6
     ·rw[k2,sm]
      rcases Ft (by omega) hq with⟨DM,bZ,e3⟩ | ⟨DM,bZ,e3⟩
      ·simp only[e3]at hj |-
       have gG:j<s:=by rw[<-g3 q bZ];exact hj
       have hm:=Jd (K:=s) DM
       rw[if_neg (by omega)]
       exact g8 q j bZ hj
      ·simp only[e3]at hj |-
       have gG:j<s:=by rw[<-h5];exact hj
       have hm:=Jd (K:=s) bZ
       have iW:n*s<=q*s:=Nat.mul_le_mul_right _ DM
       rw[if_pos (by omega)]
       refine⟨z.cells[j]'(by rw[<-gE.cells,h5];exact gG),?_,gE.cell j hj _⟩
       rw[show (φ nm).off+q*s+j-((φ nm).off+n*s)=(q-n)*s+j by rw[Nat.sub_mul];omega,Array.getElem?_toList]
       have aa:(q-n)*s+j<(l.length-n)*s:=by rw[Nat.sub_mul,Nat.sub_mul];omega
       rw[HS gE h5 bW _ _ aa]
       have :((q-n)*s+j) % s=j:=by rw[Nat.mul_comm,Nat.mul_add_mod,Nat.mod_eq_of_lt gG]
       rw[this,Array.getElem?_eq_getElem])
  have kX:=hK _ _ _ m Yl
  show K (a1.put o2.dst (.tuple #[])) _
  rw[nK]
  exact kX
 |_=>rw[pL]at rl;cases rl
theorem SL{P:Program}{Γ:FuncId->Option Spec}(hΓ:∀ f s,Γ f=some s->aM P f s){G:Ghost}{ops:Array Oper}{Q:Exit->Act->World->Prop}{K:S->Prop}{l:List Oper}{σ:S}(hr:mY P Γ ops l σ K):
 ∀ (k:Nat) {φ:Name->Loc} {m:Mem} {a:Act} {w:World},k+l.length=ops.size->ops.toList.drop k=l->aZ G φ m σ a w->
   (∀ a' w' φ' m' σ',aZ G φ' m' σ' a' w'->K σ'->Q .normal a' w')->wpOpsIn (gd G.rd) 0 P ops Q (List.range' k l.length) a w:=by
 have sM:∀ (k:Nat) (o:Oper) (r:List Oper),ops.toList.drop k=o::r->ops[k]?=some o/\ops.toList.drop (k+1)=r:=by
  intro k o r h
  have h0:(ops.toList.drop k)[0]?=some o:=by rw[h];rfl
  rw[List.getElem?_drop,Nat.add_zero,Array.getElem?_toList]at h0
  refine⟨h0,?_⟩
  have h1:(ops.toList.drop k).drop 1=r:=by rw[h];rfl
  rw[List.drop_drop]at h1
  exact h1
 induction hr with
 |nil hk=>exact fun k φ m a w _ _ hC hQ=>hQ _ _ φ m _ hC hk
 |step h1 _ ih=>
  intro k φ m a w hs hd hC hQ
  obtain⟨hi,kY⟩:=sM k _ _ hd
  rw[List.length_cons]at hs |-
  rw[List.range'_succ,wpOpsIn_cons]
  exact BG hΓ hC hi h1 fun a' w' φ' m' cU=>ih (k+1) (by omega) kY cU hQ
 |cut hA hB hc hx eB ab _ ih=>
  intro k φ m a w hs hd hC hQ
  obtain⟨hi,kY⟩:=sM k _ _ hd
  obtain⟨kW,nK⟩:=sM (k+1) _ _ kY
  rw[List.length_cons,List.length_cons]at hs |-
  rw[List.range'_succ,wpOpsIn_cons,List.range'_succ]
  rename_i o1 o2 r' _ _ _ _ _ _ _
  have :=Z8 (ops:=ops) (Q:=Q) hC hi kW hA hB hc hx eB ab (K:=fun a' w'=>wpOpsIn (gd G.rd) 0 P ops Q (List.range' (k+1+1) r'.length) a' w') fun a' w' φ' m' cU=>ih (k+2) (by omega) nK cU hQ
  have e:wpOpsIn (gd G.rd) 0 P ops Q ((k+1)::List.range' (k+1+1) r'.length)=fun a1 w1=>wpOpIn (gd G.rd) 0 P ops Q (k+1) (fun a' w'=>wpOpsIn (gd G.rd) 0 P ops Q (List.range' (k+1+1) r'.length) a' w') a1 w1:=by
   funext a1 w1
   rw[wpOpsIn_cons]
  rw[e]
  exact this
theorem NH{P:Program}{Γ:FuncId->Option Spec}(hΓ:∀ f s,Γ f=some s->aM P f s){id:Nat}{ops:Array Oper}{σ:S}{K:Exit->S->Prop}
 (h:mY P Γ ops ops.toList σ (K .normal)):CW P (.region id ops false) σ K:=by
 intro G φ m a w hC
 refine wpIn_region ?_
 rw[List.range_eq_range']
 have :=SL hΓ h 0 (Q:=fun e a' w'=>∃ φ' m' σ',aZ G φ' m' σ' a' w'/\K e σ') (by simp) (by simp) hC fun a' w' φ' m' σ' cU hK=>⟨φ',m',σ',cU,hK⟩
 simpa using this
def FP(P:Program)(obj:Name->Option O)(T T2:TypeId)(x lo:D):Bool:=
 match x,lo,cH P T,cH P T2 with
 | .msl nm k,.v (.int _ i),some (e,sz,_),some (e2,_,_)=>match obj nm,(bu P e).bind fun z=>el (iN z)with
   |some (.arr s l),some zv=>dh k l.length&&dU 0 i&&hU i.toNat l.length&&dh s sz&&dh zv.cells.length sz&&zv.okc&&dh e2 e&&hU 0 sz
   |_,_=>false
 |_,_,_,_=>false
theorem aaQ{P:Program}{obj:Name->Option O}{T T2:TypeId}{x lo:D}(h:FP P obj T T2 x lo=true):(jD P obj T T2 x lo).ok:=by
 unfold FP at h
 unfold jD
 split at h
 ·split at h
  ·simp only[Bool.and_eq_true]at h
   obtain⟨⟨⟨⟨⟨⟨⟨h1,h2⟩,h3⟩,h4⟩,h5⟩,h6⟩,h7⟩,h8⟩:=h
   exact⟨kO h1,gV h2,y9 h3,kO h4,kO h5,h6,kO h7,y9 h8⟩
  ·cases h
 ·cases h
theorem abu{P:Program}{obj:Name->Option O}{T T2:TypeId}{x lo:D}{nm:Name}(h:nm∉bd x):(jD P obj T T2 x lo).obj nm=obj nm:=by
 unfold jD
 split
 ·split
  ·simp only[bd,List.mem_singleton]at h
   exact ba _ _ _ h
  ·rfl
 ·rfl
end Go.Eng
