import Derived.Test.YtepaolcgegdpoaaGreatK2
/- Texts Eng19 to EngK. -/
set_option linter.all false
namespace Go.Eng
open Go
section
variable {P:Program} {Γ:FuncId->Option Spec} {ops:Array Oper}
structure uu where
 anc:List Nat
 past:sc
def eA:Name->Name->Bool
 |[],[]=>true
 |x::r,y::s=>Nat.beq x y&&eA r s
 |_,_=>false
theorem gF:∀ {a b:Name},eA a b=true↔a=b
 |[],[]=>by simp[eA]
 |[],_::_=>by simp[eA]
 |_::_,[]=>by simp[eA]
 |x::r,y::s=>by
  simp only[eA,Bool.and_eq_true,Nat.beq_eq,List.cons.injEq,gF]
def vl:List Name->Name->Bool
 |[],_=>false
 |x::r,nm=>eA x nm||vl r nm
theorem Kx:∀ {l:List Name} {nm:Name},vl l nm=true↔nm∈l
 |[],nm=>by simp[vl]
 |x::r,nm=>by
  simp only[vl,Bool.or_eq_true,gF,List.mem_cons,Kx]
  exact⟨fun h=>h.imp Eq.symm id,fun h=>h.imp Eq.symm id⟩
def kS:List Nat->Nat->Bool
 |[],_=>false
 |x::r,n=>Nat.beq x n||kS r n
theorem Ky:∀ {l:List Nat} {n:Nat},kS l n=true↔n∈l
 |[],n=>by simp[kS]
 |x::r,n=>by
  simp only[kS,Bool.or_eq_true,Nat.beq_eq,List.mem_cons,Ky]
  exact⟨fun h=>h.imp Eq.symm id,fun h=>h.imp Eq.symm id⟩
def vU:List Name->List Name->Bool
 |[],_=>true
 |x::r,b=>!vl b x&&vU r b
theorem GM:∀ {a b:List Name},vU a b=true->y8 a b
 |[],_,_=>fun nm h=>by cases h
 |x::r,b,h=>by
  simp only[vU,Bool.and_eq_true,Bool.not_eq_true']at h
  intro nm ha hb
  rcases List.mem_cons.1 ha with rfl | ha
  ·rw[Kx.2 hb]at h;cases h.1
  ·exact GM h.2 nm ha hb
def fI(p:uu)(e:uu):Bool:=kS p.anc e.past.on||(vU e.past.wrt p.past.foot&&vU p.past.wrt e.past.foot)
def uY:List uu->Bool
 |[]=>true
 |p::L=>L.all (fI p)&&uY L
variable (P Γ ops)in
def sb:Nat->List (List Nat)->List Oper->List uu->S->(S->Prop)->Prop
 |_,_,[],L,σ,K=>uY L=true/\K σ
 |i,az,o::r,L,σ,K=>lJ P Γ ops σ o/\
   sb (i+1) az.tail r (⟨az.headD [],i,cp Γ σ ((σ.base+o.dst.getD 0)::σ.pre) o.op,bR Γ σ ((σ.base+o.dst.getD 0)::σ.pre) o.op⟩::L) (bx P Γ ops σ o) K
variable (P Γ ops)in
def HJ(anc:Nat->List Nat):Nat->List Oper->List sc->S->(S->Prop)->Prop
 |_,[],_,σ,K=>K σ
 |i,o::r,L,σ,K=>lJ P Γ ops σ o/\zU (anc i) (cp Γ σ (Oper.tt σ o) o.op) (bR Γ σ (Oper.tt σ o) o.op) L/\
   HJ anc (i+1) r (⟨i,cp Γ σ (Oper.tt σ o) o.op,bR Γ σ (Oper.tt σ o) o.op⟩::L) (bx P Γ ops σ o) K
theorem Jn{anc:Nat->List Nat}{K:S->Prop}:∀ (l:List Oper) (i:Nat) (az:List (List Nat)) (L:List uu) (σ:S),(∀ k,az.getD k []=anc (i+k))->
 sb P Γ ops i az l L σ K->uY L=true/\HJ P Γ ops anc i l (L.map (·.past)) σ K
 |[],i,az,L,σ,_,h=>h
 |o::r,i,az,L,σ,ha,h=>by
  obtain⟨h1,h2⟩:=h
  obtain⟨h3,h4⟩:=Jn (anc:=anc) r (i+1) az.tail _ _ (fun k=>by
   have :=ha (k+1)
   rw[show i+(k+1)=i+1+k by omega]at this
   rw[<-this]
   cases az<;>rfl) h2
  simp only[uY,Bool.and_eq_true]at h3
  refine⟨h3.2,h1,?_,h4⟩
  intro e he
  obtain⟨p,hp,rfl⟩:=List.mem_map.1 he
  have :=List.all_eq_true.1 h3.1 p hp
  simp only[fI,Bool.or_eq_true,Bool.and_eq_true]at this
  rcases this with k | ⟨k1,k2⟩
  ·left
   have h0:az.headD []=anc i:=by
    have :=ha 0
    rw[Nat.add_zero]at this
    rw[<-this]
    cases az<;>rfl
   rw[h0]at k
   exact Ky.1 k
  ·exact .inr ⟨GM k1,GM k2⟩
theorem Jo(hN:∀ f s,Γ f=some s->s.Near){anc:Nat->List Nat}(hA:y9 ops anc)(lf:∀ i j oi oj,ops[i]?=some oi->ops[j]?=some oj->i<j->i∉anc j->oi.apart ops oj=true)
 (A':∀ j o,ops[j]?=some o->∀ e∈o.after,Region.binds .any e=true->e.on<j) {K:S->Prop}:
 ∀ (n k:Nat) (L:List sc) (listed:Array Bool) (σ:S),k+n=ops.size->listed.size=ops.size->(∀ j,listed.getD j false=decide (j<k))->uw anc listed->
   HJ P Γ ops anc k (ops.toList.drop k) L σ K->sf P Γ ops anc L K n listed σ
 | 0,k,L,listed,σ,hk,hs,hl,cl,h=>by
   have :ops.toList.drop k=[]:=List.drop_eq_nil_of_le (by simp;omega)
   rw[this]at h
   refine⟨?_,h⟩
   refine List.eq_nil_iff_forall_not_mem.2 fun j hj=>?_
   obtain⟨h1,o,ho,_⟩:=mem_ready.1 hj
   have ab:j<ops.size:=(Array.getElem?_eq_some_iff.1 ho).1
   have :=hl j
   simp only[Array.getD_eq_getD_getElem?,Array.getElem?_eq_getElem (show j<listed.size by omega),Option.getD_some]at h1 this
   rw[h1]at this
   simp at this
   omega
 |n+1,k,L,listed,σ,hk,hs,hl,cl,h=>by
  have ab:k<ops.size:=by omega
  have hd:ops.toList.drop k=ops[k]::ops.toList.drop (k+1):=by
   rw[List.drop_eq_getElem_cons (by simpa using ab)];simp
  rw[hd]at h
  obtain⟨h1,h2,h3⟩:=h
  have aa:ops[k]?=some ops[k]:=Array.getElem?_eq_getElem ab
  have vF:∀ j,j<listed.size->listed.getD j true=listed.getD j false:=by
   intro j hj
   simp only[Array.getD_eq_getD_getElem?,Array.getElem?_eq_getElem hj,Option.getD_some]
  have hr:k∈Region.ready .any ops listed:=by
   refine mem_ready.2 ⟨?_,_,aa,fun e he hb=>?_⟩
   ·rw[vF k (by omega),hl k];simp
   ·rw[hl];simpa using A' k _ aa e he hb
  refine pull hN hA aa n listed σ cl (fun j oj hj aF xH hJ=>?_) hr h1 h2 ?_
  ·have iz:j<ops.size:=(Array.getElem?_eq_some_iff.1 hj).1
   rw[vF j (by omega),hl j]at xH
   simp at xH
   exact lf k j _ oj aa hj (by omega) hJ
  ·refine Jo hN hA lf A' n (k+1) _ _ _ (by omega) (by simpa using hs) (fun j=>?_) (cl.set hA hr) h3
   by_cases od:k=j
   ·subst od
    simp[show k<listed.size by omega]
   ·rw[getD_set_ne false od,hl j]
    refine decide_eq_decide.2 ?_
    omega
def wH(ops:Array Oper)(az:List (List Nat)):Bool:=
 (List.range ops.size).all fun j=>match ops[j]? with
   |none=>true
   |some oj=>(oj.after.toList.all fun e=>!Region.binds .any e||decide (e.on<j))&&
      ((az.getD j []).all fun i=>oj.after.toList.any fun e=>Region.binds .any e&&(e.on==i||(az.getD e.on []).contains i))&&
      (List.range j).all fun i=>(az.getD j []).contains i||(match ops[i]? with | some oi=>oi.apart ops oj | none=>true)
theorem G0(hΓ:∀ f s,Γ f=some s->aL P f s)(hP:P.follows .mixedOrders=true){id:Nat}{l:List Oper}{σ:S}{K:Exit->S->Prop}(az:List (List Nat))
 (hs:wH l.toArray az=true) (h:∀ K':S->Prop,(∀ σ',K .normal σ'->K' σ')->sb P Γ l.toArray 0 az l [] σ K'):CW P (.region id l.toArray true) σ K:=by
 intro G φ m a w hC
 have gL:∀ j oj,l.toArray[j]?=some oj->(oj.after.toList.all fun e=>!Region.binds .any e||decide (e.on<j))=true/\
       ((az.getD j []).all fun i=>oj.after.toList.any fun e=>Region.binds .any e&&(e.on==i||(az.getD e.on []).contains i))=true/\
       ((List.range j).all fun i=>(az.getD j []).contains i||(match l.toArray[i]? with | some oi=>oi.apart l.toArray oj | none=>true))=true:=by
  intro j oj hj
  have :=List.all_eq_true.1 hs j (List.mem_range.2 (Array.getElem?_eq_some_iff.1 hj).1)
  simp only[hj,Bool.and_eq_true]at this
  exact⟨this.1.1,this.1.2,this.2⟩
 have hN:∀ f s,Γ f=some s->s.Near:=fun f s h=>(hΓ f s h).near
 have hA:y9 l.toArray (fun j=>az.getD j []):=by
  intro j o ho i hi
  have :=List.all_eq_true.1 (gL j o ho).2.1 i hi
  obtain⟨e,he,h1⟩:=List.any_eq_true.1 this
  simp only[Bool.and_eq_true,Bool.or_eq_true,beq_iff_eq,List.contains_iff_mem]at h1
  exact⟨e,by simpa using he,h1.1,h1.2⟩
 have lf:∀ i j oi oj,l.toArray[i]?=some oi->l.toArray[j]?=some oj->i<j->i∉az.getD j []->oi.apart l.toArray oj=true:=by
  intro i j oi oj h1 h2 h3 h4
  have :=List.all_eq_true.1 (gL j oj h2).2.2 i (List.mem_range.2 h3)
  simp only[h1,Bool.or_eq_true]at this
  rcases this with k | k
  ·exact(h4 (by simpa using k)).elim
  ·exact k
 have A':∀ j o,l.toArray[j]?=some o->∀ e∈o.after,Region.binds .any e=true->e.on<j:=by
  intro j o ho e he hb
  have :=List.all_eq_true.1 (gL j o ho).1 e (by simpa using he)
  simpa[hb]using this
 refine wpIn_region_any hP ?_
 obtain⟨_,hD⟩:=Jn (anc:=fun j=>az.getD j []) l 0 az [] σ (fun k=>by simp) (h (K .normal) fun _ h=>h)
 refine QF hΓ (K:=K .normal) _ _ (hC.drawn _) (Jo hN hA lf A' l.toArray.size 0 [] _ σ (by simp) (by simp) (fun j=>?_) (fun j hj=>?_) (by simpa using hD)) fun a' w' φ' m' σ' cO hK=>⟨φ',m',σ',cO,hK⟩
 ·by_cases hj:j<l.length<;>simp[hj]
 ·by_cases fS:j<l.length<;>simp[fS]at hj
theorem ab8(hΓ:∀ f s,Γ f=some s->aL P f s)(hP:P.follows .mixedOrders=true){id:Nat}{l:List Oper}{c:Code}{r:List Code}{σ:S}{K:Exit->S->Prop}(az:List (List Nat))(ks:List Nat)(ns:List Name)
 (hs:wH l.toArray az=true) (h:∀ K':S->Prop,(∀ σ',iZ ks ns σ'->CL P (c::r) (ji ks ns σ') K->K' σ')->sb P Γ l.toArray 0 az l [] σ K'):CL P (.region id l.toArray true::c::r) σ K:=
 G0 hΓ hP az hs fun K' hK=>h K' fun σ' hc hy=>hK σ' (GZ ks ns hc hy)
theorem qq(hΓ:∀ f s,Γ f=some s->aL P f s)(hP:P.follows .mixedOrders=true){id:Nat}{l:List Oper}{σ:S}{K:Exit->S->Prop}(az:List (List Nat))
 (hs:wH l.toArray az=true) (h:∀ K':S->Prop,(∀ σ',K .normal σ'->K' σ')->sb P Γ l.toArray 0 az l [] σ K'):CL P [.region id l.toArray true] σ K:=
 G0 hΓ hP az hs fun K' hK=>h K' fun σ' hc=>hK σ' hc
end
attribute [go_sem] eA vl kS vU Nat.beq_eq_true_eq sb cp bR aZ fp eP gm eY muts O.mut PSpec.toSpec List.headD_cons List.headD_nil List.tail_cons List.tail_nil
mutual
def D.ren(f:Name->Name):D->D
 | .v x=>.v x
 | .nilsl=>.nilsl
 | .nilmap=>.nilmap
 | .ref nm o=>.ref (f nm) o
 | .msl nm k=>.msl (f nm) k
 | .aref nm k i o=>.aref (f nm) k i o
 | .map nm=>.map (f nm)
 | .yld nm=>.yld (f nm)
 | .clo fn a b=>.clo fn (D.renL f a) (D.renL f b)
 | .agg l=>.agg (D.renL f l)
 | .tup l=>.tup (D.renL f l)
 | .any=>.any
def D.renL(f:Name->Name):List D->List D
 |[]=>[]
 |d::r=>D.ren f d::D.renL f r
end
def E.ren(f:Name->Name)(e:E):E:=⟨e.c,e.d.ren f⟩
def O.ren(f:Name->Name):O->O
 | .box cs=>.box (D.renL f cs)
 | .loop env ps asg body st bM=>.loop (env.map (E.ren f)) ps asg body st bM
 | .arr sz l=>.arr sz l
 | .map kd es=>.map kd es
 | .fbox cs=>.fbox cs
 | .farr sz l=>.farr sz l
 | .dead sz n=>.dead sz n
theorem kO(f:Name->Name):∀ l:List D,D.renL f l=l.map (D.ren f)
 |[]=>rfl
 |d::r=>by simp only[D.renL,List.map_cons,kO f r]
theorem D.one_ren(f:Name->Name)(d:D):(d.ren f).one=d.one:=by cases d<;>rfl
theorem O.len_ren(f:Name->Name)(o:O):(o.ren f).len?=o.len?:=by cases o<;>rfl
theorem O.sz_ren(f:Name->Name)(o:O):(o.ren f).sz=o.sz:=by cases o<;>rfl
theorem O.mut_ren(f:Name->Name)(o:O):(o.ren f).mut=o.mut:=by cases o<;>rfl
def y0(f:Name->Name)(φ φ':Name->Loc)(obj obj':Name->Option O)(dom:Name->Bool):Prop:=
 ∀ nm o,dom nm=true->obj nm=some o->∃ o',obj' (f nm)=some o'/\
   ((o'.len?=o.len?/\φ' (f nm)=φ nm/\o'.sz=o.sz)\/(∃ n n',o.len?=some n/\o'.len?=some n'/\n<n'))
theorem aH.renx{f:Name->Name}{φ φ':Name->Loc}{obj obj':Name->Option O}{m m':Mem}{dom:Name->Bool}(hm:Mem.le m m')(hx:y0 f φ φ' obj obj' dom){d:D}{u:Value}
 (h:aH φ obj m d u) (hc:D.clos dom d=true):aH φ' obj' m' (d.ren f) u:=by
 induction h with
 |any u=>exact .any u
 |v x u h=>exact .v x u (h.mono hm)
 |nilsl a=>exact .nilsl a
 |nilmap=>exact .nilmap
 |ref nm off h=>
  obtain⟨o,ho,hl⟩:=h
  obtain⟨o',dg,h⟩:=hx nm o hc ho
  rcases h with⟨h1,h2,h3⟩ | ⟨n,n',h1,h2,h3⟩
  ·rw[<-h2];exact .ref (f nm) off ⟨o',dg,h1.trans hl⟩
  ·rw[hl]at h1;cases h1
 |map nm h=>
  obtain⟨o,ho,hl⟩:=h
  obtain⟨o',dg,h⟩:=hx nm o hc ho
  rcases h with⟨h1,h2,h3⟩ | ⟨n,n',h1,h2,h3⟩
  ·rw[<-h2];exact .map (f nm) ⟨o',dg,h1.trans hl⟩
  ·rw[hl]at h1;cases h1
 |yld nm h=>
  obtain⟨o,ho,hl⟩:=h
  obtain⟨o',dg,h⟩:=hx nm o hc ho
  rcases h with⟨h1,h2,h3⟩ | ⟨n,n',h1,h2,h3⟩
  ·rw[<-h2];exact .yld (f nm) ⟨o',dg,h1.trans hl⟩
  ·rw[hl]at h1;cases h1
 |msl nm k u h hu=>
  obtain⟨o,n,ho,hl,hk,he⟩:=h
  obtain⟨o',dg,h⟩:=hx nm o hc ho
  rcases h with⟨h1,h2,h3⟩ | ⟨n1,n',h1,h2,h3⟩
  ·exact .msl (f nm) k u ⟨o',n,dg,h1.trans hl,hk,fun e=>by rw[h2];exact he e⟩ hu
  ·rw[hl]at h1;cases h1
   exact .msl (f nm) k u ⟨o',n',dg,h2,by omega,fun e=>by omega⟩ hu
 |aref nm k i off u h hu=>
  obtain⟨o,n,ho,hl,hk,he⟩:=h
  obtain⟨o',dg,h⟩:=hx nm o hc ho
  rcases h with⟨h1,h2,h3⟩ | ⟨n1,n',h1,h2,h3⟩
  ·exact .aref (f nm) k i off u ⟨o',n,dg,h1.trans hl,hk,fun e=>by rw[h2,h3];exact he e⟩ hu
  ·rw[hl]at h1;cases h1
   exact .aref (f nm) k i off u ⟨o',n',dg,h2,by omega,fun e=>by omega⟩ hu
 |clo fn fs cs us vs h1 h2 ew gh pT pS=>
  simp only[D.clos,Bool.and_eq_true]at hc
  simp only[D.ren,kO]
  refine .clo fn _ _ us vs (by simpa using h1) (by simpa using h2) (fun i a b=>?_) (fun i a b=>?_)
  ·simp only[List.getElem_map];exact pT i (by simpa using a) b (ju _ hc.1)
  ·simp only[List.getElem_map];exact pS i (by simpa using a) b (ju _ hc.2)
 |agg l us h ho hr ih=>
  simp only[D.clos]at hc
  simp only[D.ren,kO]
  refine .agg _ us (by simpa using h) (fun d hd=>?_) (fun i a b=>?_)
  ·obtain⟨d',h1,rfl⟩:=List.mem_map.1 hd
   rw[D.one_ren];exact ho d' h1
  ·simp only[List.getElem_map];exact ih i (by simpa using a) b (ju _ hc)
 |tup l us h hr ih=>
  simp only[D.clos]at hc
  simp only[D.ren,kO]
  refine .tup _ us (by simpa using h) (fun i a b=>?_)
  simp only[List.getElem_map];exact ih i (by simpa using a) b (ju _ hc)
theorem cL.renx{f:Name->Name}{φ φ':Name->Loc}{obj obj':Name->Option O}{m m':Mem}{dom:Name->Bool}(hm:Mem.le m m')(hx:y0 f φ φ' obj obj' dom){e:E}{u:Value}
 (h:cL φ obj m e u) (hc:D.clos dom e.d=true):cL φ' obj' m' (e.ren f) u:=by
 unfold cL at *
 have e0:(E.ren f e).c=e.c:=rfl
 have e1:(E.ren f e).d=e.d.ren f:=rfl
 rw[e0,e1]
 by_cases hh:e.c=true
 ·rw[if_pos hh]at h |-;exact h.renx hm hx hc
 ·rw[if_neg hh]at h |-;exact h
theorem ig.ren{f:Name->Name}{φ φ':Name->Loc}{obj obj':Name->Option O}{m m':Mem}{dom:Name->Bool}{o:O}{p:Loc}{w w':World}(hm:Mem.le m m')(hx:y0 f φ φ' obj obj' dom)
 (hc:O.clos dom o=true) (hw:o.mut=true->p.nul=false->w'.heap[p.blk]?=w.heap[p.blk]?) (h:ig φ obj m o p w):ig φ' obj' m' (o.ren f) p w':=by
 cases o with
 |box cs=>
  obtain⟨h0,h1,fU,us,T,g,h2,h3,h4,h5⟩:=h
  simp only[O.clos]at hc
  simp only[O.ren,ig,kO,List.length_map,List.getElem_map,List.mem_map,forall_exists_index,and_imp,forall_apply_eq_imp_iff₂,D.one_ren]
  exact⟨h0,h1,fU,us,T,g,by rw[hw rfl h1];exact h2,h3,h4,fun i a b=>(h5 i a b).renx hm hx (ju a hc)⟩
 |arr sz l=>
  rcases h with⟨h,h'⟩ | ⟨h0,h1,h2,h3,h4,us,T,f,h5,h6,h7,h8⟩
  ·exact .inl ⟨h,h'⟩
  ·exact .inr ⟨h0,h1,h2,h3,h4,us,T,f,by rw[hw rfl h0];exact h5,h6,h7,fun i j a b=>let ⟨c,x,y⟩:=h8 i j a b;⟨c,x,y.mono hm⟩⟩
 |map kd es=>
  obtain⟨h0,h1,fU,us,T,h2,h3,h4⟩:=h
  exact⟨h0,h1,fU,us,T,by rw[hw rfl h1];exact h2,h3,fun i a b=>⟨(h4 i a b).1.mono hm,(h4 i a b).2.mono hm⟩⟩
 |fbox cs=>exact⟨h.1,fun i a=>let ⟨c,x,y⟩:=h.2 i a;⟨c,hm _ _ _ x,y.mono hm⟩⟩
 |farr sz l=>
  rcases h with⟨h,h'⟩ | ⟨h0,h1,h2,h3,h4⟩
  ·exact .inl ⟨h,h'⟩
  ·exact .inr ⟨h0,h1,h2,h3,fun i j a b=>let ⟨c,x,y⟩:=h4 i j a b;⟨c,hm _ _ _ x,y.mono hm⟩⟩
 |dead=>exact h
 |loop env ps asg body st bM=>
  obtain⟨h0,h1,r,h2,h3,h4,h5,h6,h7,h8,h9⟩:=h
  simp only[O.clos]at hc
  simp only[O.ren,ig,List.length_map,List.getElem_map]
  refine⟨h0,h1,r,by rw[hw rfl h1];exact h2,h3,h4,h5,h6,h7,h8,fun i a=>(h9 i a).renx hm hx ?_⟩
  have :=ju (l:=env.map (·.d)) (i:=i) (by simpa using a) hc
  simpa using this
mutual
theorem D.ren_id{f g:Name->Name}{dom:Name->Bool}(ky:∀ nm,dom nm=true->g (f nm)=nm):∀ d:D,D.clos dom d=true->(d.ren f).ren g=d
 | .v _,_=>rfl
 | .nilsl,_=>rfl
 | .nilmap,_=>rfl
 | .any,_=>rfl
 | .ref nm _,h=>by simp only[D.ren];rw[ky nm h]
 | .msl nm _,h=>by simp only[D.ren];rw[ky nm h]
 | .aref nm _ _ _,h=>by simp only[D.ren];rw[ky nm h]
 | .map nm,h=>by simp only[D.ren];rw[ky nm h]
 | .yld nm,h=>by simp only[D.ren];rw[ky nm h]
 | .clo _ a b,h=>by
   simp only[D.clos,Bool.and_eq_true]at h
   simp only[D.ren];rw[D.renL_id ky a h.1,D.renL_id ky b h.2]
 | .agg l,h=>by simp only[D.clos]at h;simp only[D.ren];rw[D.renL_id ky l h]
 | .tup l,h=>by simp only[D.clos]at h;simp only[D.ren];rw[D.renL_id ky l h]
theorem D.renL_id{f g:Name->Name}{dom:Name->Bool}(ky:∀ nm,dom nm=true->g (f nm)=nm):∀ l:List D,D.closL dom l=true->D.renL g (D.renL f l)=l
 |[],_=>rfl
 |d::r,h=>by
  simp only[D.closL,Bool.and_eq_true]at h
  simp only[D.renL];rw[D.ren_id ky d h.1,D.renL_id ky r h.2]
end
theorem O.ren_id{f g:Name->Name}{dom:Name->Bool}(ky:∀ nm,dom nm=true->g (f nm)=nm)(o:O)(h:O.clos dom o=true):(o.ren f).ren g=o:=by
 cases o with
 |box cs=>simp only[O.clos]at h;simp only[O.ren];rw[D.renL_id ky cs h]
 |loop env ps asg body st bM=>
  simp only[O.clos]at h
  simp only[O.ren,List.map_map,O.loop.injEq,and_true]
  refine List.ext_getElem (by simp) fun i h1 h2=>?_
  have :=ju (l:=env.map (·.d)) (i:=i) (by simpa using h2) h
  simp only[List.getElem_map,Function.comp_apply,E.ren]at this |-
  rw[D.ren_id ky _ this]
 |_=>rfl
mutual
def ki:D->List Name
 | .ref nm _=>[nm]
 | .msl nm _=>[nm]
 | .aref nm _ _ _=>[nm]
 | .map nm=>[nm]
 | .yld nm=>[nm]
 | .clo _ a b=>cw a++cw b
 | .agg l=>cw l
 | .tup l=>cw l
 |_=>[]
def cw:List D->List Name
 |[]=>[]
 |d::r=>ki d++cw r
end
def kQ:O->List Name
 | .box cs=>cw cs
 | .loop env _ _ _ _ _=>cw (env.map (·.d))
 |_=>[]
def cJ(L:List Name)(nm:Name):Bool:=L.any fun x=>x==nm
def dk(obj:Name->Option O):Nat->List Name->List Name->List Name
 | 0,_,acc=>acc
 |_+1,[],acc=>acc
 |n+1,x::todo,acc=>if cJ acc x=true then dk obj n todo acc else dk obj n ((match obj x with | some o=>kQ o | none=>[])++todo) (acc++[x])
def reach(obj:Name->Option O)(ds:List D):List Name:=dk obj 3000 (cw ds) []
theorem gv{L:List Name}{nm:Name}:cJ L nm=true↔nm∈L:=by
 simp only[cJ,List.any_eq_true,beq_iff_eq]
 exact⟨fun ⟨x,h,e⟩=>e▸h,fun h=>⟨nm,h,rfl⟩⟩
theorem De{obj:Name->Option O}:∀ (n:Nat) (todo acc:List Name),∀ nm∈acc,nm∈dk obj n todo acc
 | 0,_,_,_,h=>h
 |_+1,[],_,_,h=>h
 |n+1,x::todo,acc,nm,h=>by
  simp only[dk]
  split
  ·exact De n _ _ nm h
  ·exact De n _ _ nm (by simp[h])
theorem zI{obj:Name->Option O}:∀ (n:Nat) (todo acc:List Name),acc.Nodup->(dk obj n todo acc).Nodup
 | 0,_,_,h=>h
 |_+1,[],_,h=>h
 |n+1,x::todo,acc,h=>by
  simp only[dk]
  split
  ·exact zI n _ _ h
  ·rename_i hx
   refine zI n _ _ (List.nodup_append.2 ⟨h,by simp,fun a ha b hb=>?_⟩)
   simp only[List.mem_singleton]at hb
   subst hb
   rintro rfl
   exact hx (gv.2 ha)
theorem Dd{obj obj2:Name->Option O}:∀ (n:Nat) (todo acc:List Name),bU (dk obj n todo acc) obj obj2->dk obj2 n todo acc=dk obj n todo acc
 | 0,_,_,_=>rfl
 |_+1,[],_,_=>rfl
 |n+1,x::todo,acc,h=>by
  simp only[dk]at h |-
  split
  ·rename_i hx;rw[if_pos hx]at h;exact Dd n _ _ h
  ·rename_i hx
   rw[if_neg hx]at h
   have bC:obj2 x=obj x:=h x (De n _ _ x (by simp))
   rw[bC]
   exact Dd n _ _ h
def idx:List Name->Name->Nat
 |[],_=>0
 |x::r,nm=>if x=nm then 0 else idx r nm+1
def cin(L:List Name)(nm:Name):Name:=[idx L nm,1]
def cout(L:List Name)(t:Name):Name->Name
 |[i,1]=>L.getD i []
 |x=>x++t
def di:Name->Bool
 |[_,1]=>true
 |_=>false
theorem vu:∀ {L:List Name} {nm:Name},nm∈L->∃ h:idx L nm<L.length,L[idx L nm]=nm
 |x::r,nm,h=>by
  simp only[idx]
  by_cases e:x=nm
  ·subst e;simp
  ·simp only[if_neg e]
   obtain⟨h1,h2⟩:=vu (L:=r) (nm:=nm) (by rcases List.mem_cons.1 h with h | h; · exact(e h.symm).elim
                                         ·exact h)
   exact⟨by simp;omega,by simpa using h2⟩
theorem abD{L:List Name}{t nm:Name}(h:nm∈L):cout L t (cin L nm)=nm:=by
 obtain⟨h1,h2⟩:=vu h
 show L.getD (idx L nm) []=nm
 rw[List.getD_eq_getElem?_getD,List.getElem?_eq_getElem h1];simpa using h2
theorem v8{L:List Name}{t x:Name}(h:di x=false):cout L t x=x++t:=by
 unfold cout
 split
 ·simp[di]at h
 ·rfl
theorem vq{x:Name}:di x=true↔∃ i,x=[i,1]:=by
 constructor
 ·intro h
  unfold di at h
  split at h
  ·exact⟨_,rfl⟩
  ·cases h
 ·rintro⟨i,rfl⟩;rfl
theorem J2(i:Nat):own [0] [i,1]=false:=by simp[own]
theorem EA{L:List Name}(hn:L.Nodup){i:Nat}(h:i<L.length):idx L L[i]=i:=by
 obtain⟨h1,h2⟩:=vu (List.getElem_mem h)
 exact(List.getElem_inj hn).1 h2
structure Out where
 upd:List (Nat×O)
 new:List (Name×O)
 d:D
 deriving Inhabited
def fm:List (Nat×O)->Nat->O->O
 |[],_,o=>o
 |(j,o')::r,i,o=>fm r i (if j=i then o' else o)
def cH(L:List Name)(t:Name):List (Nat×O)->(Name->Option O)->(Name->Option O)
 |[],obj=>obj
 |(i,o)::r,obj=>cH L t r (upd obj (L.getD i []) (some (o.ren (cout L t))))
def dv(L:List Name)(t:Name):List (Name×O)->(Name->Option O)->(Name->Option O)
 |[],obj=>obj
 |(x,o)::r,obj=>dv L t r (upd obj (x++t) (some (o.ren (cout L t))))
theorem JG{L:List Name}{t:Name}(hn:L.Nodup):∀ (l:List (Nat×O)) (obj:Name->Option O) {i:Nat} (h:i<L.length) (o:O) (_:(l.all fun x=>decide (x.1<L.length))=true) (_:obj L[i]=some (o.ren (cout L t))),
 cH L t l obj L[i]=some ((fm l i o).ren (cout L t))
 |[],obj,i,h,o,_,ho=>ho
 |(j,o')::r,obj,i,h,o,hl,ho=>by
  simp only[List.all_cons,Bool.and_eq_true,decide_eq_true_eq]at hl
  simp only[cH,fm]
  refine JG hn r _ h _ hl.2 ?_
  have e:L.getD j []=L[j]:=by rw[List.getD_eq_getElem?_getD,List.getElem?_eq_getElem hl.1];rfl
  rw[e]
  by_cases hj:j=i
  ·subst hj;rw[aS,if_pos rfl]
  ·rw[aY _ _ _ (fun e'=>hj ((List.getElem_inj hn).1 e').symm),if_neg hj];exact ho
theorem Dn{L:List Name}{t:Name}:∀ (l:List (Nat×O)) (obj:Name->Option O) {nm:Name} (_:(l.all fun x=>decide (x.1<L.length))=true) (_:nm∉L),cH L t l obj nm=obj nm
 |[],_,_,_,_=>rfl
 |(j,o')::r,obj,nm,hl,hn=>by
  simp only[List.all_cons,Bool.and_eq_true,decide_eq_true_eq]at hl
  simp only[cH]
  rw[Dn r _ hl.2 hn]
  refine aY _ _ _ ?_
  rintro rfl
  refine hn ?_
  rw[List.getD_eq_getElem?_getD,List.getElem?_eq_getElem hl.1];simp
theorem wV{L:List Name}{t:Name}:∀ (l:List (Name×O)) (obj:Name->Option O) {nm:Name} (_:∀ x∈l,nm≠x.1++t),dv L t l obj nm=obj nm
 |[],_,_,_=>rfl
 |(x,o')::r,obj,nm,hl=>by
  simp only[dv]
  rw[wV r _ fun y hy=>hl y (by simp[hy])]
  exact aY _ _ _ (hl (x,o') (by simp))
theorem JH{L:List Name}{t:Name}:∀ (l:List (Name×O)) (obj:Name->Option O) (_:(l.map (·.1)).Nodup) {x:Name} {o:O} (_:(x,o)∈l),dv L t l obj (x++t)=some (o.ren (cout L t))
 |(y,o')::r,obj,hn,x,o,h=>by
  simp only[List.map_cons,List.nodup_cons]at hn
  simp only[dv]
  rcases List.mem_cons.1 h with h | h
  ·cases h
   rw[wV r _ fun z hz e=>hn.1 (by
    have :_=z.1:=List.append_cancel_right e
    rw[this];exact List.mem_map_of_mem hz)]
   exact aS _ _ _
  ·exact JH r _ hn.2 h
def dp(n:Nat)(new:List (Name×O)):Name->Bool
 |[i,1]=>decide (i<n)
 |x=>new.any fun y=>y.1==x
section
variable {G:Ghost} {φ:Name->Loc} {m:Mem} {σ:S} {a:Act} {w:World}
def cE(L:List Name)(obj:Name->Option O)(nm:Name):O:=match obj nm with
 |some o=>o.ren (cin L)
 |none=>.fbox []
def shut(obj:Name->Option O)(L:List Name):Bool:=L.all fun nm=>match obj nm with
 |some o=>O.clos (cJ L) o
 |none=>false
def kb(L:List Name)(obj:Name->Option O):Name->Option O
 |[i,1]=>if i<L.length then some (cE L obj (L.getD i []))else none
 |_=>none
def nC(L:List Name)(φ:Name->Loc):Name->Loc
 |[i,1]=>φ (L.getD i [])
 |_=>⟨0,0,0,true,none⟩
def qx(L:List Name)(φ:Name->Loc)(obj:Name->Option O)(b:Nat):Prop:=∃ nm∈L,holds φ obj nm/\(φ nm).blk=b
theorem wL{obj:Name->Option O}{L:List Name}(h:shut obj L=true){nm:Name}(hn:nm∈L):∃ o,obj nm=some o/\O.clos (cJ L) o=true:=by
 have :=List.all_eq_true.1 h nm hn
 cases ho:obj nm with
 |none=>simp[ho]at this
 |some o=>simp only[ho]at this;exact⟨o,rfl,this⟩
theorem lh{L:List Name}{i:Nat}(h:i<L.length):L.getD i []=L[i]:=by rw[List.getD_eq_getElem?_getD,List.getElem?_eq_getElem h];rfl
theorem Vl{L:List Name}{obj:Name->Option O}{nm:Name}(hn:nm∈L):kb L obj (cin L nm)=some (cE L obj nm):=by
 obtain⟨h1,h2⟩:=vu hn
 show (if idx L nm<L.length then some (cE L obj (L.getD (idx L nm) []))else none)=_
 rw[if_pos h1,lh h1,h2]
theorem Rt{L:List Name}{φ:Name->Loc}{nm:Name}(hn:nm∈L):nC L φ (cin L nm)=φ nm:=by
 obtain⟨h1,h2⟩:=vu hn
 show φ (L.getD (idx L nm) [])=_
 rw[lh h1,h2]
theorem zH{L:List Name}{obj:Name->Option O}:y0 (cin L) φ (nC L φ) obj (kb L obj) (cJ L):=by
 intro nm o hd ho
 have hn:=gv.1 hd
 refine⟨cE L obj nm,Vl hn,.inl ⟨?_,Rt hn,?_⟩⟩
 ·simp only[cE,ho];exact O.len_ren _ _
 ·simp only[cE,ho];exact O.sz_ren _ _
theorem DF{L:List Name}{obj:Name->Option O}{x:Name}{o:O}(h:kb L obj x=some o):∃ (i:Nat) (hi:i<L.length),x=[i,1]/\o=cE L obj L[i]:=by
 unfold kb at h
 split at h
 ·rename_i i
  split at h
  ·rename_i hi
   cases h
   exact⟨i,hi,rfl,by rw[lh hi]⟩
  ·cases h
 ·cases h
def tK(w:World)(m:Mem)(L:List Name)(φ:Name->Loc)(obj:Name->Option O)(rd:Option Nat)(h:∀ l,rd=some l->¬ qx L φ obj l/\∃ r,w.heap[l]?=some (.loop r)):Ghost:=
 ⟨w,m,qx L φ obj,rd,nC L φ,kb L obj,h⟩
theorem AK{L:List Name}{obj:Name->Option O}(hL:shut obj L=true){x:Name}(h:holds (nC L φ) (kb L obj) x):∃ (i:Nat) (hi:i<L.length),x=[i,1]/\holds φ obj L[i]:=by
 obtain⟨o,h1,h2,h3⟩:=h
 obtain⟨i,hi,rfl,rfl⟩:=DF h1
 obtain⟨o',h4,_⟩:=wL hL (List.getElem_mem hi)
 refine⟨i,hi,rfl,o',h4,?_,?_⟩
 ·simp only[cE,h4,O.mut_ren]at h2;exact h2
 ·have:nC L φ [i,1]=φ L[i]:=by show φ (L.getD i [])=_;rw[lh hi]
  rw[this]at h3;exact h3
theorem OG(hC:aQ G φ m σ a w){L:List Name}(hn:L.Nodup)(hL:shut σ.obj L=true){rd:Option Nat}(n8:∀ l,rd=some l->¬ qx L φ σ.obj l/\∃ r,w.heap[l]?=some (.loop r))
 {nt b0:Nat} {env:Nat->E} {tmps:Array Value} (hs:tmps.size=nt) (he:∀ t,cL (nC L φ) (kb L σ.obj) m (env t) (tmps.getD t undef)):
 aQ (tK w m L φ σ.obj rd n8) (nC L φ) m ⟨nt,env,kb L σ.obj,[0],b0⟩ { tmps:=tmps,defers:=[] } w:=by
 have hφ:∀ (i:Nat) (hi:i<L.length),nC L φ [i,1]=φ L[i]:=fun i hi=>by show φ (L.getD i [])=_;rw[lh hi]
 constructor
 ·exact he
 ·exact hs
 ·exact⟨[],rfl,by simp,by simp⟩
 ·intro x o hx
  obtain⟨i,hi,rfl,rfl⟩:=DF hx
  obtain⟨o',h4,h5⟩:=wL hL (List.getElem_mem hi)
  rw[hφ i hi]
  simp only[cE,h4]
  exact(hC.objs _ _ h4).ren (Mem.le_refl m) zH h5 fun _ _=>rfl
 ·exact hC.mem
 ·intro x hx off
  obtain⟨i,hi,rfl,h⟩:=AK hL hx
  rw[hφ i hi]
  exact hC.apart _ h off
 ·intro x y hx hy e
  obtain⟨i,hi,rfl,h⟩:=AK hL hx
  obtain⟨j,hj,rfl,h'⟩:=AK hL hy
  rw[hφ i hi,hφ j hj]at e
  have :=(List.getElem_inj hn).1 (hC.inj _ _ h h' e)
  rw[this]
 ·intro x hx
  obtain⟨i,hi,rfl,h⟩:=AK hL hx
  rw[hφ i hi]
  exact .inr ⟨_,List.getElem_mem hi,h,rfl⟩
 ·exact⟨rfl,rfl,rfl,Nat.le_refl _,fun _ _ _=>rfl⟩
 ·intro b off v h;exact .inl h
 ·refine⟨fun x o hx=>?_,Ext.refl _ _⟩
  obtain⟨i,hi,rfl,_⟩:=DF hx
  exact J2 i
structure Rs (σ:S) (os:List O) (o:Out):Prop where
 objs:∀ i (h:i<os.length),σ.obj [i,1]=some (fm o.upd i os[i])
 news:∀ x∈o.new,σ.obj x.1=some x.2
 cd:D.clos (dp os.length o.new) o.d=true
 cu:(o.upd.all fun x=>O.clos (dp os.length o.new) x.2&&decide (x.1<os.length))=true
 cn:(o.new.all fun x=>O.clos (dp os.length o.new) x.2&&!di x.1)=true
 nd:(o.new.map (·.1)).Nodup
def fresh(obj:Name->Option O)(t:Name)(new:List (Name×O)):Bool:=new.all fun x=>(obj (x.1++t)).isNone
theorem aa9{n:Nat}{new:List (Name×O)}{x:Name×O}(h:di x.1=false)(hx:x∈new):dp n new x.1=true:=by
 have key:∀ nm:Name,di nm=false->dp n new nm=new.any fun y=>y.1==nm:=by
  intro nm h
  unfold dp
  split
  ·simp[di]at h
  ·rfl
 rw[key _ h]
 exact List.any_eq_true.2 ⟨x,hx,by simp⟩
theorem K0{dom:Name->Bool}:∀ (l:List (Nat×O)) (i:Nat) (o:O),O.clos dom o=true->(∀ x∈l,O.clos dom x.2=true)->O.clos dom (fm l i o)=true
 |[],_,_,h,_=>h
 |(j,o')::r,i,o,h,hl=>by
  simp only[fm]
  refine K0 r i _ ?_ fun x hx=>hl x (by simp[hx])
  split
  ·exact hl (j,o') (by simp)
  ·exact h
mutual
theorem clos_ren{f:Name->Name}{dom dom':Name->Bool}(hf:∀ nm,dom nm=true->dom' (f nm)=true):∀ d:D,D.clos dom d=true->D.clos dom' (d.ren f)=true
 | .v _,_=>by simp only[D.ren,D.clos]
 | .nilsl,_=>by simp only[D.ren,D.clos]
 | .nilmap,_=>by simp only[D.ren,D.clos]
 | .any,_=>by simp only[D.ren,D.clos]
 | .ref nm _,h=>hf nm h
 | .msl nm _,h=>hf nm h
 | .aref nm _ _ _,h=>hf nm h
 | .map nm,h=>hf nm h
 | .yld nm,h=>hf nm h
 | .clo _ a b,h=>by
   simp only[D.clos,Bool.and_eq_true]at h
   simp only[D.ren,D.clos,Bool.and_eq_true]
   exact⟨tX hf a h.1,tX hf b h.2⟩
 | .agg l,h=>by simp only[D.clos]at h;simp only[D.ren,D.clos];exact tX hf l h
 | .tup l,h=>by simp only[D.clos]at h;simp only[D.ren,D.clos];exact tX hf l h
theorem tX{f:Name->Name}{dom dom':Name->Bool}(hf:∀ nm,dom nm=true->dom' (f nm)=true):∀ l:List D,D.closL dom l=true->D.closL dom' (D.renL f l)=true
 |[],_=>by simp only[D.renL,D.closL]
 |d::r,h=>by
  simp only[D.closL,Bool.and_eq_true]at h
  simp only[D.renL,D.closL,Bool.and_eq_true]
  exact⟨clos_ren hf d h.1,tX hf r h.2⟩
end
theorem O.clos_ren{f:Name->Name}{dom dom':Name->Bool}(hf:∀ nm,dom nm=true->dom' (f nm)=true)(o:O)(h:O.clos dom o=true):O.clos dom' (o.ren f)=true:=by
 cases o with
 |box cs=>simp only[O.clos]at h;simp only[O.ren,O.clos];exact tX hf cs h
 |loop env ps asg body st bM=>
  simp only[O.clos]at h
  simp only[O.ren,O.clos]
  have :=tX hf _ h
  rw[kO,List.map_map]at this
  rw[List.map_map]
  exact this
 |_=>rfl
theorem OF(hC:aQ G φ m σ a w){L:List Name}(hn:L.Nodup)(hL:shut σ.obj L=true){rd:Option Nat}{n8:∀ l,rd=some l->¬ qx L φ σ.obj l/\∃ r,w.heap[l]?=some (.loop r)}
 {φ2:Name->Loc} {m2:Mem} {σ2:S} {a2:Act} {w2:World} (fT:aQ (tK w m L φ σ.obj rd n8) φ2 m2 σ2 a2 w2) {o:Out} (hE:Rs σ2 (L.map (cE L σ.obj)) o) {t:Name} (hf:fresh σ.obj t o.new=true):
 ∃ φ' m',Mem.le m m'/\aQ G φ' m' { σ with obj:=dv L t o.new (cH L t o.upd σ.obj) } a w2/\
   Ext φ φ' σ.obj (dv L t o.new (cH L t o.upd σ.obj))/\
   (∀ d u,aH φ2 σ2.obj m2 d u->D.clos (dp L.length o.new) d=true->aH φ' (dv L t o.new (cH L t o.upd σ.obj)) m' (d.ren (cout L t)) u):=by
 have hlen:(L.map (cE L σ.obj)).length=L.length:=by simp
 obtain⟨h1,h2,h3,h4,h5,h6⟩:=hE
 rw[hlen]at h3 h4 h5
 have hu:(o.upd.all fun x=>decide (x.1<L.length))=true:=List.all_eq_true.2 fun x hx=>by
  have :=List.all_eq_true.1 h4 x hx
  simp only[Bool.and_eq_true]at this;exact this.2
 have AA:∀ x∈o.upd,O.clos (dp L.length o.new) x.2=true:=fun x hx=>by
  have :=List.all_eq_true.1 h4 x hx
  simp only[Bool.and_eq_true]at this;exact this.1
 have Zm:∀ x∈o.new,O.clos (dp L.length o.new) x.2=true:=fun x hx=>by
  have :=List.all_eq_true.1 h5 x hx
  simp only[Bool.and_eq_true]at this;exact this.1
 have Fj:∀ x∈o.new,di x.1=false:=fun x hx=>by
  have :=List.all_eq_true.1 h5 x hx
  simp only[Bool.and_eq_true,Bool.not_eq_true']at this;exact this.2
 have c0:∀ x∈o.new,σ.obj (x.1++t)=none:=fun x hx=>by
  have :=List.all_eq_true.1 hf x hx
  simpa using this
 have hLs:∀ nm∈L,∃ o,σ.obj nm=some o:=fun nm h=>let ⟨o,h,_⟩:=wL hL h;⟨o,h⟩
 have tF:∀ nm∈L,∀ x∈o.new,nm≠x.1++t:=fun nm h x hx e=>by
  obtain⟨o',ho⟩:=hLs nm h
  rw[e,c0 x hx]at ho;cases ho
 have hci:∀ nm,cJ L nm=true->cout L t (cin L nm)=nm:=fun nm h=>abD (gv.1 h)
 generalize eW:dv L t o.new (cH L t o.upd σ.obj)=obj'
 have AL:∀ (i:Nat) (hi:i<L.length),obj' L[i]=some ((fm o.upd i (cE L σ.obj L[i])).ren (cout L t)):=fun i hi=>by
  rw[<-eW,wV _ _ (tF _ (List.getElem_mem hi))]
  refine JG hn _ _ hi _ hu ?_
  obtain⟨o',ho,hc⟩:=wL hL (List.getElem_mem hi)
  simp only[cE,ho]
  rw[O.ren_id hci o' hc]
 have E9:∀ x∈o.new,obj' (x.1++t)=some (x.2.ren (cout L t)):=fun x hx=>by rw[<-eW];exact JH _ _ h6 hx
 have E8:∀ nm,nm∉L->(∀ x∈o.new,nm≠x.1++t)->obj' nm=σ.obj nm:=fun nm h h'=>by rw[<-eW,wV _ _ h',Dn _ _ hu h]
 let φ':Name->Loc:=fun nm=>if nm∈L then φ2 (cin L nm)else match o.new.find? (fun x=>x.1++t==nm)with
  |some x=>φ2 x.1
  |none=>φ nm
 have xA:∀ (i:Nat) (hi:i<L.length),φ' L[i]=φ2 [i,1]:=fun i hi=>by
  show (if L[i]∈L then φ2 (cin L L[i])else _)=_
  rw[if_pos (List.getElem_mem hi)]
  show φ2 [idx L L[i],1]=_
  rw[EA hn hi]
 have As:∀ x∈o.new,φ' (x.1++t)=φ2 x.1:=fun x hx=>by
  show (if x.1++t∈L then _ else _)=_
  rw[if_neg fun h=>tF _ h x hx rfl]
  cases rE:o.new.find? (fun y=>y.1++t==x.1++t)with
  |none=>have:=List.find?_eq_none.1 rE x hx;simp at this
  |some y=>
   have :=List.find?_some rE
   simp only[beq_iff_eq]at this
   simp only[List.append_cancel_right this]
 have Ar:∀ nm,nm∉L->(∀ x∈o.new,nm≠x.1++t)->φ' nm=φ nm:=fun nm h h'=>by
  show (if nm∈L then _ else _)=_
  rw[if_neg h]
  cases rE:o.new.find? (fun y=>y.1++t==nm)with
  |none=>rfl
  |some y=>
   have :=List.find?_some rE
   simp only[beq_iff_eq]at this
   exact(h' y (List.mem_of_find?_eq_some rE) this.symm).elim
 let m':Mem:=fun b off=>match m2 b off with | some c=>some c | none=>m b off
 have AJ:=fT.own
 have tp:∀ b,qx L φ σ.obj b->b<w.heap.size:=fun b ⟨nm,h,⟨o',k1,k2,k3⟩,e⟩=>by rw[<-e];exact(hC.objs nm o' k1).lt k2 k3
 have Fp:Mem.le m m':=by
  intro b off v h
  show (match m2 b off with | some c=>some c | none=>m b off)=some v
  cases hq:m2 b off with
  |none=>exact h
  |some c=>
   have k1:=fT.mem b off c hq
   have k2:=hC.mem b off v h
   rw[rV (fT.fr.block b (o9 k2) fun ⟨nm,_,k3,e⟩=>by
    have :=hC.apart nm k3 off;rw[e,h]at this;cases this)]at k1
   have k3:World.cell? w ⟨b,off,none⟩=some c:=k1
   rw[k2]at k3;exact k3.symm
 have Fo:Mem.le m2 m':=by
  intro b off v h
  show (match m2 b off with | some c=>some c | none=>m b off)=some v
  rw[h]
 have AP:∀ b off v,m' b off=some v->m2 b off=some v\/(m2 b off=none/\m b off=some v):=by
  intro b off v h
  have h':(match m2 b off with | some c=>some c | none=>m b off)=some v:=h
  cases hq:m2 b off with
  |none=>rw[hq]at h';exact .inr ⟨rfl,h'⟩
  |some c=>rw[hq]at h';exact .inl h'
 have FU:∀ x,dp L.length o.new x=true->(∃ (i:Nat) (hi:i<L.length),x=[i,1])\/(di x=false/\∃ y∈o.new,y.1=x):=by
  intro x hx
  unfold dp at hx
  split at hx
  ·rename_i i
   exact .inl ⟨i,by simpa using hx,rfl⟩
  ·obtain⟨y,hy,e⟩:=List.any_eq_true.1 hx
   simp only[beq_iff_eq]at e
   subst e
   exact .inr ⟨Fj y hy,y,hy,rfl⟩
 have vL:∀ (i:Nat) (hi:i<L.length),cout L t [i,1]=L[i]:=fun i hi=>lh hi
 have ld:∀ (i:Nat) (hi:i<L.length),σ2.obj [i,1]=some (fm o.upd i (cE L σ.obj L[i])):=fun i hi=>by
  have :=h1 i (by simpa using hi)
  simpa using this
 have EU:y0 (cout L t) φ2 φ' σ2.obj obj' (dp L.length o.new):=by
  intro x q hd hq
  rcases FU x hd with⟨i,hi,rfl⟩ | ⟨hi,y,hy,rfl⟩
  ·rw[vL i hi,AL i hi,xA i hi]
   rw[ld i hi]at hq;cases hq
   exact⟨_,rfl,.inl ⟨O.len_ren _ _,rfl,O.sz_ren _ _⟩⟩
  ·rw[v8 hi,E9 y hy,As y hy]
   rw[h2 y hy]at hq;cases hq
   exact⟨_,rfl,.inl ⟨O.len_ren _ _,rfl,O.sz_ren _ _⟩⟩
 have ZX:∀ (i:Nat) (hi:i<L.length),O.clos (dp L.length o.new) (fm o.upd i (cE L σ.obj L[i]))=true:=by
  intro i hi
  refine K0 _ _ _ ?_ AA
  obtain⟨o',ho,hc⟩:=wL hL (List.getElem_mem hi)
  simp only[cE,ho]
  refine O.clos_ren (fun nm hd=>?_) o' hc
  obtain⟨k1,_⟩:=vu (gv.1 hd)
  show decide (idx L nm<L.length)=true
  simpa using k1
 have A3:Ext φ φ' σ.obj obj':=by
  intro nm q hq
  by_cases gi:nm∈L
  ·obtain⟨i,hi,rfl⟩:=List.getElem_of_mem gi
   obtain⟨DJ,k1,k2⟩:=fT.kept.2 [i,1] (cE L σ.obj L[i]) (by
    show kb L σ.obj [i,1]=_
    show (if i<L.length then _ else _)=_
    rw[if_pos hi,lh hi])
   have Yh:DJ=fm o.upd i (cE L σ.obj L[i]):=by rw[ld i hi]at k1;exact(Option.some.inj k1).symm
   subst Yh
   have Yw:nC L φ [i,1]=φ L[i]:=by show φ (L.getD i [])=_;rw[lh hi]
   have cl:(cE L σ.obj L[i]).len?=q.len?/\(cE L σ.obj L[i]).sz=q.sz:=by
    simp only[cE,hq];exact⟨O.len_ren _ _,O.sz_ren _ _⟩
   refine⟨_,AL i hi,?_⟩
   rw[O.len_ren,O.sz_ren,xA i hi]
   rcases k2 with⟨a1,a2,a3⟩ | ⟨n,n',a1,a2,a3⟩
   ·exact .inl ⟨a1.trans cl.1,(a2:φ2 [i,1]=nC L φ [i,1]).trans Yw,a3.trans cl.2⟩
   ·exact .inr ⟨n,n',cl.1▸a1,a2,a3⟩
  ·have rB:∀ x∈o.new,nm≠x.1++t:=fun x hx e=>by rw[e,c0 x hx]at hq;cases hq
   exact⟨q,by rw[E8 nm gi rB];exact hq,.inl ⟨rfl,Ar nm gi rB,rfl⟩⟩
 have vM:∀ nm,holds φ' obj' nm->(∃ x,holds φ2 σ2.obj x/\φ' nm=φ2 x/\nm=cout L t x/\dp L.length o.new x=true)\/(nm∉L/\(∀ x∈o.new,nm≠x.1++t)/\holds φ σ.obj nm/\φ' nm=φ nm):=by
  rintro nm ⟨q,k1,k2,k3⟩
  by_cases gi:nm∈L
  ·obtain⟨i,hi,rfl⟩:=List.getElem_of_mem gi
   left
   rw[AL i hi]at k1;cases k1
   rw[O.mut_ren]at k2
   rw[xA i hi]at k3
   exact⟨[i,1],⟨_,ld i hi,k2,k3⟩,xA i hi,(vL i hi).symm,by show decide (i<L.length)=true;simpa using hi⟩
  ·by_cases rB:∃ x∈o.new,nm=x.1++t
   ·obtain⟨x,hx,rfl⟩:=rB
    left
    rw[E9 x hx]at k1;cases k1
    rw[O.mut_ren]at k2
    rw[As x hx]at k3
    refine⟨x.1,⟨_,h2 x hx,k2,k3⟩,As x hx,(v8 (Fj x hx)).symm,?_⟩
    exact aa9 (Fj x hx) hx
   ·have td:∀ x∈o.new,nm≠x.1++t:=fun x hx e=>rB ⟨x,hx,e⟩
    right
    rw[E8 nm gi td]at k1
    rw[Ar nm gi td]at k3
    exact⟨gi,td,⟨q,k1,k2,k3⟩,Ar nm gi td⟩
 have gN:∀ nm,nm∉L->holds φ σ.obj nm->(φ nm).blk<w.heap.size/\¬ qx L φ σ.obj (φ nm).blk:=by
  intro nm gi hh
  obtain⟨q,k1,k2,k3⟩:=hh
  refine⟨(hC.objs nm q k1).lt k2 k3,fun ⟨x,k4,k5,k6⟩=>?_⟩
  exact gi (hC.inj _ _ k5 ⟨q,k1,k2,k3⟩ k6▸k4)
 have ah1:∀ x y,dp L.length o.new x=true->dp L.length o.new y=true->cout L t x=cout L t y->x=y:=by
  intro x y hx hy e
  rcases FU x hx with⟨i,hi,rfl⟩ | ⟨k1,x',bC,rfl⟩<;>rcases FU y hy with⟨j,hj,rfl⟩ | ⟨k2,y',YC,rfl⟩
  ·rw[vL i hi,vL j hj]at e
   rw[(List.getElem_inj hn).1 e]
  ·rw[vL i hi,v8 k2]at e
   exact(tF _ (List.getElem_mem hi) y' YC e).elim
  ·rw[vL j hj,v8 k1]at e
   exact(tF _ (List.getElem_mem hj) x' bC e.symm).elim
  ·rw[v8 k1,v8 k2]at e
   exact List.append_cancel_right e
 refine⟨φ',m',Fp,?_,A3,fun d u hd hc=>hd.renx Fo EU hc⟩
 constructor
 ·exact fun x=>(hC.tmps x).ext Fp A3
 ·exact hC.size
 ·obtain⟨ds,k1,k2,k3⟩:=hC.defers
  refine⟨ds,k1,k2,fun D hD=>⟨(k3 D hD).1,?_⟩⟩
  have k4:=(k3 D hD).2
  rw[fT.fr.block D (Array.getElem?_eq_some_iff.1 k4).1 fun ⟨x,_,⟨q,k5,k6,k7⟩,k8⟩=>(hC.objs x q k5).notDef k6 k7 _ (by rw[k8];exact k4)]
  exact k4
 ·intro nm q hq
  by_cases gi:nm∈L
  ·obtain⟨i,hi,rfl⟩:=List.getElem_of_mem gi
   have bL:obj' L[i]=some q:=hq
   rw[AL i hi]at bL;cases bL
   rw[xA i hi]
   exact(fT.objs _ _ (ld i hi)).ren Fo EU (ZX i hi) fun _ _=>rfl
  ·by_cases rB:∃ x∈o.new,nm=x.1++t
   ·obtain⟨x,hx,rfl⟩:=rB
    have bL:obj' (x.1++t)=some q:=hq
    rw[E9 x hx]at bL;cases bL
    rw[As x hx]
    exact(fT.objs _ _ (h2 x hx)).ren Fo EU (Zm x hx) fun _ _=>rfl
   ·have td:∀ x∈o.new,nm≠x.1++t:=fun x hx e=>rB ⟨x,hx,e⟩
    have bL:obj' nm=some q:=hq
    rw[E8 nm gi td]at bL
    rw[Ar nm gi td]
    refine(hC.objs nm q bL).ext Fp A3 fun k2 k3=>?_
    obtain⟨k4,k5⟩:=gN nm gi ⟨q,bL,k2,k3⟩
    exact fT.fr.block _ k4 k5
 ·intro b off v h
  rcases AP b off v h with h | ⟨vD,h⟩
  ·exact fT.mem b off v h
  ·have k2:=hC.mem b off v h
   rw[rV (fT.fr.block b (o9 k2) fun ⟨nm,_,k3,e⟩=>by
    have :=hC.apart nm k3 off;rw[e,h]at this;cases this)]
   exact k2
 ·intro nm hh off
  rcases vM nm hh with⟨x,k1,k2,_,_⟩ | ⟨k1,k2,k3,k4⟩
  ·rw[k2]
   cases hq:m' (φ2 x).blk off with
   |none=>rfl
   |some v=>
    rcases AP _ _ _ hq with h | ⟨_,h⟩
    ·have:=fT.apart x k1 off;rw[h]at this;cases this
    ·rcases AJ x k1 with h' | ⟨kP,k5,k6,k7⟩
     ·have:=o9 (hC.mem _ _ _ h)
      have hU:w.heap.size<=(φ2 x).blk:=h'
      omega
     ·have:=hC.apart kP k6 off
      rw[k7,h]at this;cases this
  ·rw[k4]
   obtain⟨k5,k6⟩:=gN nm k1 k3
   cases hq:m' (φ nm).blk off with
   |none=>rfl
   |some v=>
    rcases AP _ _ _ hq with h | ⟨_,h⟩
    ·rcases fT.fresh _ _ _ h with h' | h' | h'
     ·have:=hC.apart nm k3 off
      have hU:m (φ nm).blk off=some v:=h'
      rw[hU]at this;cases this
     ·have hU:w.heap.size<=(φ nm).blk:=h'
      omega
     ·exact(k6 h').elim
    ·have:=hC.apart nm k3 off;rw[h]at this;cases this
 ·intro nm kP hh ZL e
  rcases vM nm hh with⟨x,k1,k2,k3,k4⟩ | ⟨k1,k2,k3,k4⟩<;>rcases vM kP ZL with⟨x',j1,j2,j3,j4⟩ | ⟨j1,j2,j3,j4⟩
  ·rw[k2,j2]at e
   rw[k3,j3,fT.inj _ _ k1 j1 e]
  ·exfalso
   rw[k2,j4]at e
   obtain⟨k5,k6⟩:=gN kP j1 j3
   rcases AJ x k1 with h' | h'
   ·have hU:w.heap.size<=(φ2 x).blk:=h'
    omega
   ·rw[e]at h';exact k6 h'
  ·exfalso
   rw[k4,j2]at e
   obtain⟨k5,k6⟩:=gN nm k1 k3
   rcases AJ x' j1 with h' | h'
   ·have hU:w.heap.size<=(φ2 x').blk:=h'
    omega
   ·rw[<-e]at h';exact k6 h'
  ·rw[k4,j4]at e
   exact hC.inj _ _ k3 j3 e
 ·intro nm hh
  rcases vM nm hh with⟨x,k1,k2,_,_⟩ | ⟨k1,k2,k3,k4⟩
  ·rw[k2]
   rcases AJ x k1 with h' | ⟨kP,k5,k6,k7⟩
   ·exact .inl (Nat.le_trans hC.fr.size h')
   ·rw[<-k7];exact hC.own kP k6
  ·rw[k4];exact hC.own nm k3
 ·refine⟨fT.fr.os.trans hC.fr.os,fT.fr.tape.trans hC.fr.tape,fT.fr.output.trans hC.fr.output,Nat.le_trans hC.fr.size fT.fr.size,fun b hb ho=>?_⟩
  rw[fT.fr.block b (Nat.lt_of_lt_of_le hb hC.fr.size) fun ⟨nm,_,k3,e⟩=>?_]
  ·exact hC.fr.block b hb ho
  ·rcases hC.own nm k3 with h | h<;>rw[e]at h
   ·omega
   ·exact ho h
 ·intro b off v h
  rcases AP b off v h with h | ⟨_,h⟩
  ·rcases fT.fresh _ _ _ h with h' | h' | ⟨nm,_,k3,e⟩
   ·exact hC.fresh _ _ _ h'
   ·exact .inr (.inl (Nat.le_trans hC.fr.size h'))
   ·rw[<-e];exact .inr (hC.own nm k3)
  ·exact hC.fresh _ _ _ h
 ·exact⟨hC.kept.1,hC.kept.2.trans A3⟩
end
def dj:Nat->List D->List (Nat×E)
 |_,[]=>[]
 |k,x::r=>(k,⟨true,x⟩)::dj (k+1) r
theorem QE:∀ {k:Nat} {xs:List D} {t:Nat} {e:E},(t,e)∈dj k xs->∃ (i:Nat) (h:i<xs.length),t=k+i/\e=⟨true,xs[i]⟩
 |k,[],t,e,h=>by simp[dj]at h
 |k,x::r,t,e,h=>by
  simp only[dj,List.mem_cons,Prod.mk.injEq]at h
  rcases h with⟨rfl,rfl⟩ | h
  ·exact⟨0,by simp,rfl,rfl⟩
  ·obtain⟨i,hi,h1,h2⟩:=QE h
   exact⟨i+1,by simpa using hi,by omega,by simpa using h2⟩
structure CSpec where
 pre:List O->List D->Prop
 out:List O->List D->Out
def cF(obj:Name->Option O)(ds:List D):List O:=(reach obj ds).map (cE (reach obj ds) obj)
def db(obj:Name->Option O)(ds:List D):List D:=D.renL (cin (reach obj ds)) ds
def CSpec.toSpec(s:CSpec):Spec where
 app obj t ds:=⟨(shut obj (reach obj ds)&&D.closL (cJ (reach obj ds)) ds&&fresh obj t (s.out (cF obj ds) (db obj ds)).new)=true/\s.pre (cF obj ds) (db obj ds),
  (s.out (cF obj ds) (db obj ds)).d.ren (cout (reach obj ds) t),dv (reach obj ds) t (s.out (cF obj ds) (db obj ds)).new (cH (reach obj ds) t (s.out (cF obj ds) (db obj ds)).upd obj)⟩
 foot obj t ds:=reach obj ds++((s.out (cF obj ds) (db obj ds)).upd.map fun x=>(reach obj ds).getD x.1 [])++(s.out (cF obj ds) (db obj ds)).new.map fun x=>x.1++t
 wrt obj t ds:=((s.out (cF obj ds) (db obj ds)).upd.map fun x=>(reach obj ds).getD x.1 [])++(s.out (cF obj ds) (db obj ds)).new.map fun x=>x.1++t
theorem uX{L:List Name}{t:Name}:∀ (l:List (Nat×O)) (obj obj2:Name->Option O) (nm:Name),cH L t l obj2 nm=if nm∈l.map (fun x=>L.getD x.1 [])then cH L t l obj nm else obj2 nm
 |[],obj,obj2,nm=>by simp[cH]
 |(i,o)::r,obj,obj2,nm=>by
  simp only[cH,List.map_cons,List.mem_cons]
  rw[uX r (upd obj (L.getD i []) (some (o.ren (cout L t)))) (upd obj2 (L.getD i []) (some (o.ren (cout L t)))) nm]
  by_cases h:nm∈r.map (fun x=>L.getD x.1 [])
  ·rw[if_pos h,if_pos (.inr h)]
  ·rw[if_neg h]
   by_cases e:nm=L.getD i []
   ·rw[if_pos (.inl e)]
    have hu:cH L t r (upd obj (L.getD i []) (some (o.ren (cout L t)))) nm=(upd obj (L.getD i []) (some (o.ren (cout L t)))) nm:=by
     rw[uX r obj _ nm,if_neg h]
    rw[hu,e,aS,aS]
   ·rw[if_neg (by simp only[not_or];exact⟨e,h⟩)]
    exact aY _ _ _ e
theorem sy{L:List Name}{t:Name}:∀ (l:List (Name×O)) (obj obj2:Name->Option O) (nm:Name),dv L t l obj2 nm=if nm∈l.map (fun x=>x.1++t)then dv L t l obj nm else obj2 nm
 |[],obj,obj2,nm=>by simp[dv]
 |(i,o)::r,obj,obj2,nm=>by
  simp only[dv,List.map_cons,List.mem_cons]
  rw[sy r (upd obj (i++t) (some (o.ren (cout L t)))) (upd obj2 (i++t) (some (o.ren (cout L t)))) nm]
  by_cases h:nm∈r.map (fun x=>x.1++t)
  ·rw[if_pos h,if_pos (.inr h)]
  ·rw[if_neg h]
   by_cases e:nm=i++t
   ·rw[if_pos (.inl e)]
    have hu:dv L t r (upd obj (i++t) (some (o.ren (cout L t)))) nm=(upd obj (i++t) (some (o.ren (cout L t)))) nm:=by
     rw[sy r obj _ nm,if_neg h]
    rw[hu,e,aS,aS]
   ·rw[if_neg (by simp only[not_or];exact⟨e,h⟩)]
    exact aY _ _ _ e
theorem pB{obj obj2:Name->Option O}{ds:List D}(h:bU (reach obj ds) obj obj2):reach obj2 ds=reach obj ds:=Dd _ _ _ h
theorem yG{obj obj2:Name->Option O}{ds:List D}(h:bU (reach obj ds) obj obj2):cF obj2 ds=cF obj ds:=by
 unfold cF
 rw[pB h]
 exact List.map_congr_left fun nm hn=>by simp only[cE];rw[h nm hn]
theorem Ha{obj obj2:Name->Option O}{ds:List D}(h:bU (reach obj ds) obj obj2):db obj2 ds=db obj ds:=by
 unfold db
 rw[pB h]
theorem CP{obj obj2:Name->Option O}{L:List Name}(h:bU L obj obj2):shut obj2 L=shut obj L:=by
 unfold shut
 refine Bool.eq_iff_iff.2 ?_
 simp only[List.all_eq_true]
 exact⟨fun k x hx=>by rw[<-h x hx];exact k x hx,fun k x hx=>by rw[h x hx];exact k x hx⟩
theorem Bl{obj obj2:Name->Option O}{t:Name}{new:List (Name×O)}(h:bU (new.map fun x=>x.1++t) obj obj2):fresh obj2 t new=fresh obj t new:=by
 unfold fresh
 refine Bool.eq_iff_iff.2 ?_
 simp only[List.all_eq_true]
 exact⟨fun k x hx=>by rw[<-h _ (List.mem_map_of_mem hx)];exact k x hx,fun k x hx=>by rw[h _ (List.mem_map_of_mem hx)];exact k x hx⟩
theorem D8{ok ok2:Prop}{d:D}{obj obj2:Name->Option O}{L:List Name}{t:Name}{o:Out}(aa:ok2=ok)
 (ha:bU ((o.upd.map fun x=>L.getD x.1 [])++o.new.map fun x=>x.1++t) obj obj2):
 b8 ⟨ok,d,dv L t o.new (cH L t o.upd obj)⟩ ⟨ok2,d,dv L t o.new (cH L t o.upd obj2)⟩ obj obj2 ((o.upd.map fun x=>L.getD x.1 [])++o.new.map fun x=>x.1++t):=by
 refine⟨aa,rfl,fun nm=>?_,fun nm hn=>?_⟩
 ·show dv L t o.new (cH L t o.upd obj2) nm=if nm∈_ then dv L t o.new (cH L t o.upd obj) nm else obj2 nm
  rw[sy o.new (cH L t o.upd obj) (cH L t o.upd obj2) nm]
  by_cases h1:nm∈o.new.map (fun x=>x.1++t)
  ·rw[if_pos h1,if_pos (List.mem_append_right _ h1)]
  ·rw[if_neg h1,uX o.upd obj obj2 nm]
   by_cases h2:nm∈o.upd.map (fun x=>L.getD x.1 [])
   ·rw[if_pos h2,if_pos (List.mem_append_left _ h2)]
    rw[sy o.new obj (cH L t o.upd obj) nm,if_neg h1]
   ·rw[if_neg h2,if_neg (by simp only[List.mem_append,not_or];exact⟨h2,h1⟩)]
 ·show dv L t o.new (cH L t o.upd obj) nm=obj nm
  simp only[List.mem_append,not_or]at hn
  rw[sy o.new obj (cH L t o.upd obj) nm,if_neg hn.2,uX o.upd obj obj nm,if_neg hn.1]
theorem CSpec.near(s:CSpec):s.toSpec.Near:=by
 have key:∀ {obj obj2:Name->Option O} {t:Name} {ds:List D},bU (s.toSpec.foot obj t ds) obj obj2->bU (reach obj ds) obj obj2/\
     bU (((s.out (cF obj ds) (db obj ds)).upd.map fun x=>(reach obj ds).getD x.1 [])++(s.out (cF obj ds) (db obj ds)).new.map fun x=>x.1++t) obj obj2:=by
  intro obj obj2 t ds h
  refine⟨fun nm hn=>h nm ?_,fun nm hn=>h nm ?_⟩
  ·exact List.mem_append_left _ (List.mem_append_left _ hn)
  ·rcases List.mem_append.1 hn with hn | hn
   ·exact List.mem_append_left _ (List.mem_append_right _ hn)
   ·exact List.mem_append_right _ hn
 refine⟨fun obj obj2 t ds h=>?_,fun obj obj2 t ds h=>?_,fun obj t ds nm hn=>?_,fun obj obj2 t ds h=>?_⟩
 ·obtain⟨h1,h2⟩:=key h
  simp only[CSpec.toSpec]
  rw[yG h1,Ha h1,pB h1]
  refine D8 ?_ h2
  rw[CP h1,Bl fun nm hn=>h2 nm (List.mem_append_right _ hn)]
 ·obtain⟨h1,h2⟩:=key h
  simp only[CSpec.toSpec]
  rw[yG h1,Ha h1,pB h1]
 ·simp only[CSpec.toSpec]at hn |-
  rcases List.mem_append.1 hn with hn | hn
  ·exact List.mem_append_left _ (List.mem_append_right _ hn)
  ·exact List.mem_append_right _ hn
 ·obtain⟨h1,h2⟩:=key h
  simp only[CSpec.toSpec]
  rw[yG h1,Ha h1,pB h1]
def sC(σ:S)(u:List (Nat×O)):Nat->List O->Prop
 |_,[]=>True
 |i,o::r=>σ.obj [i,1]=some (fm u i o)/\sC σ u (i+1) r
theorem Kn{σ:S}{u:List (Nat×O)}:∀ {l:List O} {k:Nat},sC σ u k l->∀ i (h:i<l.length),σ.obj [k+i,1]=some (fm u (k+i) l[i])
 |o::r,k,h,0,_=>h.1
 |o::r,k,h,i+1,hi=>by
  have :=Kn h.2 i (by simpa using hi)
  rw[show k+(i+1)=k+1+i by omega]
  simpa using this
def xd(σ:S):List (Name×O)->Prop
 |[]=>True
 |x::r=>σ.obj x.1=some x.2/\xd σ r
theorem Ks{σ:S}:∀ {l:List (Name×O)},xd σ l->∀ x∈l,σ.obj x.1=some x.2
 |y::r,h,x,hx=>by
  rcases List.mem_cons.1 hx with rfl | hx
  ·exact h.1
  ·exact Ks h.2 x hx
def distinct:List Name->Bool
 |[]=>true
 |x::r=>(r.all fun y=>!(x==y))&&distinct r
theorem Pk:∀ {l:List Name},distinct l=true->l.Nodup
 |[],_=>by simp
 |x::r,h=>by
  simp only[distinct,Bool.and_eq_true]at h
  refine List.nodup_cons.2 ⟨fun hx=>?_,Pk h.2⟩
  have :=List.all_eq_true.1 h.1 x hx
  simp at this
def gQ(os:List O)(o:Out)(σ:S):Prop:=
 sC σ o.upd 0 os/\xd σ o.new/\
  (D.clos (dp os.length o.new) o.d&&(o.upd.all fun x=>O.clos (dp os.length o.new) x.2&&decide (x.1<os.length))&&(o.new.all fun x=>O.clos (dp os.length o.new) x.2&&!di x.1)&&distinct (o.new.map (·.1)))=true
theorem O'{os:List O}{o:Out}{σ:S}(h:gQ os o σ):Rs σ os o:=by
 obtain⟨h1,h2,h3⟩:=h
 simp only[Bool.and_eq_true]at h3
 exact⟨fun i hi=>by simpa using Kn h1 i hi,Ks h2,h3.1.1.1,h3.1.1.2,by simpa using h3.1.2,Pk h3.2⟩
def wT(P:Program)(rs:List ResultVar)(os:List O)(o:Out):Exit->S->Prop
 | .normal,σ=>(bX P σ rs).ok/\(bX P σ rs).d=o.d/\gQ os o σ
 | .ret,σ=>(bX P σ rs).ok/\(bX P σ rs).d=o.d/\gQ os o σ
 |_,_=>False
def aR(os:List O):Name->Option O
 |[i,1]=>os[i]?
 |_=>none
theorem Vk{L:List Name}{obj:Name->Option O}{x:Name}(h:di x=false):kb L obj x=none:=by
 unfold kb
 split
 ·simp[di]at h
 ·rfl
theorem zR{os:List O}{x:Name}(h:di x=false):aR os x=none:=by
 unfold aR
 split
 ·simp[di]at h
 ·rfl
theorem zZ{L:List Name}{obj:Name->Option O}:kb L obj=aR (L.map (cE L obj)):=by
 funext x
 cases hx:di x with
 |false=>rw[Vk hx,zR hx]
 |true=>
  obtain⟨i,rfl⟩:=vq.1 hx
  show (if i<L.length then some (cE L obj (L.getD i []))else none)=(L.map (cE L obj))[i]?
  by_cases hi:i<L.length
  ·rw[if_pos hi,List.getElem?_eq_getElem (by simpa using hi)]
   rw[lh hi,List.getElem_map]
  ·rw[if_neg hi,List.getElem?_eq_none (by simpa using hi)]
theorem DU{nt:Nat}{l:List (Nat×E)}{os:List O}:bg nt [0] (aR os) l []=⟨nt,dH eAny l,aR os,[0],0⟩:=by
 unfold bg
 congr 1
 funext nm
 split
 ·rename_i h
  have :di nm=false:=by
   cases hc:di nm with
   |false=>rfl
   |true=>
    obtain⟨i,rfl⟩:=vq.1 hc
    rw[J2]at h;cases h
  unfold aR
  split
  ·simp[di]at this
  ·rfl
 ·rfl
theorem oy{P:Program}{f:FuncId}{fn:Func}{c:Code}{s:CSpec}{nt:Nat}{rs:List ResultVar}(hf:P.funcs[f]?=some fn)(hb:fn.body=some c)(cN:fn.ntmps=nt)(bP:fn.results.toList=rs)
 (l3:∀ args w,(callFunc f args).run P w=.ok (.enter f args) w) (aF:f≠yid)
 (h:∀ os ds,s.pre os ds->ds.length<=nt/\CW P c (bg nt [0] (aR os) (dj 0 ds) []) (wT P rs os (s.out os ds))):aL P f s.toSpec:=by
 subst cN
 subst bP
 refine⟨s.near,fun _=>l3,fun _ G φ m σ a w hC t ds us _ hl hr aa=>?_,fun e=>(aF e).elim⟩
 obtain⟨aa,dM⟩:=aa
 simp only[Bool.and_eq_true]at aa
 obtain⟨⟨jl,cl⟩,c0⟩:=aa
 obtain⟨hlen,oq⟩:=h _ _ dM
 have bZ:(reach σ.obj ds).Nodup:=zI _ _ _ (by simp)
 simp only[db,kO,List.length_map]at hlen
 refine(callsIn_wide (n:=0)).1 (callsIn_of_wp_marks hf hb trivial ?_)
 have fC:=OG hC (L:=reach σ.obj ds) bZ jl (rd:=none) (fun l h=>by cases h) (b0:=0) (nt:=fn.ntmps) (env:=dH eAny (dj 0 (db σ.obj ds)))
  (tmps:=us++Array.replicate (fn.ntmps-us.size) undef) (by simp;omega) (fun t=>by
    rcases u3 (z:=eAny) (dj 0 (db σ.obj ds)) t with h1 | h1
    ·rw[h1];unfold cL eAny;simp;exact .any _
    ·obtain⟨i,hi,h2,h3⟩:=QE h1
     rw[h3]
     unfold cL
     simp only[if_true]
     simp only[db,kO,List.length_map]at hi
     have bK:i<us.size:=by omega
     have e:((us++Array.replicate (fn.ntmps-us.size) undef).getD t undef)=us[i]:=by
      have au:0+i<(us++Array.replicate (fn.ntmps-us.size) undef).size:=by simp;omega
      rw[h2]
      simp only[Array.getD,au,dite_true]
      show (us++Array.replicate (fn.ntmps-us.size) undef)[0+i]=us[i]
      simp only[Nat.zero_add]
      exact Array.getElem_append_left bK
     rw[e]
     simp only[db,kO,List.getElem_map]
     exact(hr i hi bK).renx (Mem.le_refl m) zH (ju hi cl))
 rw[DU]at oq
 rw[zZ]at fC
 refine wpIn_mono (oq _ _ m _ w fC) ?_
 rintro e a1 w1 ⟨φ2,m2,σ2,iD,hK⟩
 have fin:(bX P σ2 fn.results.toList).ok/\(bX P σ2 fn.results.toList).d=(s.out (cF σ.obj ds) (db σ.obj ds)).d/\gQ (cF σ.obj ds) (s.out (cF σ.obj ds) (db σ.obj ds)) σ2->
     LeavesInM Fence.wide 0 P fn a1.tmps (fun e w'=>∃ v φ' m',e=.returned v/\aQ G φ' m' { σ with obj:=(s.toSpec.app σ.obj t ds).obj } a w'/\aH φ' (s.toSpec.app σ.obj t ds).obj m' (s.toSpec.app σ.obj t ds).d v/\Ext φ φ' σ.obj (s.toSpec.app σ.obj t ds).obj) a1.defers .returning w1:=by
  rintro⟨h1,h2,h3⟩
  refine Ea a1.defers rfl iD fun a' w' _ cO=>?_
  obtain⟨v,h4,h5⟩:=Jg cO fn h1
  rw[h2]at h5
  have hE:=O' h3
  obtain⟨φ',m',k1,k2,k3,k4⟩:=OF hC bZ jl cO hE c0
  have qb:=hE.cd
  simp only[cF,List.length_map]at qb
  exact⟨v,h4,v,φ',m',rfl,k2,k4 _ _ h5 qb,k3⟩
 cases e with
 |normal=>exact fin hK
 |ret=>exact fin hK
 |_=>exact hK.elim
theorem b8.more{ok ok2:Prop}{d d2:D}{o1 o2 obj obj2:Name->Option O}{wr:List Name}(nm:Name)(x:Option O)(h:b8 ⟨ok,d,o1⟩ ⟨ok2,d2,o2⟩ obj obj2 wr):
 b8 ⟨ok,d,upd o1 nm x⟩ ⟨ok2,d2,upd o2 nm x⟩ obj obj2 (nm::wr):=by
 refine⟨h.ok,h.d,fun y=>?_,fun y hy=>?_⟩
 ·show upd o2 nm x y=if y∈nm::wr then upd o1 nm x y else obj2 y
  by_cases e:y=nm
  ·subst e;rw[aS,if_pos (by simp),aS]
  ·rw[aY _ _ _ e,aY _ _ _ e]
   have :=h.eff y
   simp only at this
   rw[this]
   by_cases hy:y∈wr
   ·rw[if_pos hy,if_pos (List.mem_cons_of_mem _ hy)]
   ·rw[if_neg hy,if_neg (by simp[e,hy])]
 ·simp only[List.mem_cons,not_or]at hy
  show upd o1 nm x y=obj y
  rw[aY _ _ _ hy.1]
  exact h.frame y hy.2
structure YSpec where
 pre:List E->List Nat->Code->Code->List O->List D->Prop
 out:List E->List Nat->Code->Code->List O->List D->Out×Option Code
def roots(env:List E)(ds:List D):List D:=env.map (·.d)++ds
def ja(obj:Name->Option O)(env:List E)(ds:List D):List E:=env.map (E.ren (cin (reach obj (roots env ds))))
def jX(obj:Name->Option O)(env:List E)(ds:List D):List D:=D.renL (cin (reach obj (roots env ds))) ds
def YSpec.o(y:YSpec)(obj:Name->Option O)(env:List E)(ps:List Nat)(asg body:Code)(ds:List D):Out×Option Code:=
 y.out (ja obj env ds) ps asg body (cF obj (roots env ds)) (jX obj env ds)
def YSpec.toSpec(y:YSpec):Spec where
 app obj t args:=match args with
  | .yld nm::ds=>match obj nm with
    |some (.loop env ps asg body .ready none)=>
     ⟨(shut obj (reach obj (roots env ds))&&D.closL (cJ (reach obj (roots env ds))) (roots env ds)&&fresh obj t (y.o obj env ps asg body ds).1.new&&!cJ (reach obj (roots env ds)) nm&&
         decide (ds.length=ps.length)&&(ps.all fun p=>decide (p<env.length)))=true/\y.pre (ja obj env ds) ps asg body (cF obj (roots env ds)) (jX obj env ds),
       .v (.bool (y.o obj env ps asg body ds).2.isNone),
       upd (dv (reach obj (roots env ds)) t (y.o obj env ps asg body ds).1.new (cH (reach obj (roots env ds)) t (y.o obj env ps asg body ds).1.upd obj)) nm
        (some (.loop env ps asg body (if (y.o obj env ps asg body ds).2.isNone then .ready else .done) (y.o obj env ps asg body ds).2))⟩
    |_=>.bad obj
  |_=>.bad obj
 foot obj t args:=match args with
  | .yld nm::ds=>nm::(match obj nm with
    |some (.loop env ps asg body .ready none)=>reach obj (roots env ds)++((y.o obj env ps asg body ds).1.upd.map fun x=>(reach obj (roots env ds)).getD x.1 [])++(y.o obj env ps asg body ds).1.new.map fun x=>x.1++t
    |_=>[])
  |_=>[]
 wrt obj t args:=match args with
  | .yld nm::ds=>nm::(match obj nm with
    |some (.loop env ps asg body .ready none)=>((y.o obj env ps asg body ds).1.upd.map fun x=>(reach obj (roots env ds)).getD x.1 [])++(y.o obj env ps asg body ds).1.new.map fun x=>x.1++t
    |_=>[])
  |_=>[]
theorem YSpec.near(y:YSpec):y.toSpec.Near:=by
 have DH:∀ {obj obj2:Name->Option O} {env:List E} {ps:List Nat} {asg body:Code} {ds:List D},bU (reach obj (roots env ds)) obj obj2->
     y.o obj2 env ps asg body ds=y.o obj env ps asg body ds/\ja obj2 env ds=ja obj env ds/\jX obj2 env ds=jX obj env ds:=by
  intro obj obj2 env ps asg body ds h
  unfold YSpec.o ja jX
  rw[yG h,pB h]
  exact⟨rfl,rfl,rfl⟩
 have split:∀ {A B C:List Name} {obj obj2:Name->Option O} {nm:Name},bU (nm::(A++B++C)) obj obj2->bU A obj obj2/\bU (B++C) obj obj2:=by
  intro A B C obj obj2 nm h
  refine⟨fun x hx=>h x ?_,fun x hx=>h x ?_⟩
  ·exact List.mem_cons_of_mem _ (List.mem_append_left _ (List.mem_append_left _ hx))
  ·rcases List.mem_append.1 hx with hx | hx
   ·exact List.mem_cons_of_mem _ (List.mem_append_left _ (List.mem_append_right _ hx))
   ·exact List.mem_cons_of_mem _ (List.mem_append_right _ hx)
 have BM:∀ (args:List D),(∃ nm ds,args=.yld nm::ds)\/(∀ obj t,y.toSpec.app obj t args=.bad obj/\y.toSpec.foot obj t args=[]/\y.toSpec.wrt obj t args=[]):=by
  intro args
  rcases args with _ | ⟨d,ds⟩
  ·exact .inr fun _ _=>⟨rfl,rfl,rfl⟩
  ·cases d with
   |yld nm=>exact .inl ⟨nm,ds,rfl⟩
   |_=>exact .inr fun _ _=>⟨rfl,rfl,rfl⟩
 refine⟨fun obj obj2 t args h=>?_,fun obj obj2 t args h=>?_,fun obj t args kP hn=>?_,fun obj obj2 t args h=>?_⟩
 ·rcases BM args with⟨nm,ds,rfl⟩ | hb
  ·simp only[YSpec.toSpec]at h |-
   have h0:obj2 nm=obj nm:=h nm (by simp)
   rw[h0]
   split
   ·rename_i env ps asg body ho
    simp only[ho]at h
    obtain⟨h1,h2⟩:=split h
    obtain⟨e1,e2,e3⟩:=DH (ps:=ps) (asg:=asg) (body:=body) h1
    rw[e1,e2,e3,yG h1,pB h1]
    refine b8.more nm _ (D8 ?_ h2)
    rw[CP h1,Bl fun nm hn=>h2 nm (List.mem_append_right _ hn)]
   ·exact .none _ fun x hx=>by simp only[List.mem_singleton]at hx;subst hx;exact h0
  ·rw[(hb obj t).1,(hb obj2 t).1,(hb obj t).2.2]
   exact .same rfl rfl rfl rfl
 ·rcases BM args with⟨nm,ds,rfl⟩ | hb
  ·simp only[YSpec.toSpec]at h |-
   have h0:obj2 nm=obj nm:=h nm (by simp)
   rw[h0]
   split
   ·rename_i env ps asg body ho
    simp only[ho]at h
    obtain⟨h1,h2⟩:=split h
    obtain⟨e1,e2,e3⟩:=DH (ps:=ps) (asg:=asg) (body:=body) h1
    rw[e1,pB h1]
   ·rfl
  ·rw[(hb obj t).2.1,(hb obj2 t).2.1]
 ·rcases BM args with⟨nm,ds,rfl⟩ | hb
  ·simp only[YSpec.toSpec]at hn |-
   rcases List.mem_cons.1 hn with rfl | hn
   ·simp
   ·refine List.mem_cons_of_mem _ ?_
    split at hn
    ·rename_i env ps asg body ho
     try simp only[ho]
     rcases List.mem_append.1 hn with hn | hn
     ·exact List.mem_append_left _ (List.mem_append_right _ hn)
     ·exact List.mem_append_right _ hn
    ·cases hn
  ·rw[(hb obj t).2.2]at hn;cases hn
 ·rcases BM args with⟨nm,ds,rfl⟩ | hb
  ·simp only[YSpec.toSpec]at h |-
   have h0:obj2 nm=obj nm:=h nm (by simp)
   rw[h0]
   split
   ·rename_i env ps asg body ho
    simp only[ho]at h
    obtain⟨h1,h2⟩:=split h
    obtain⟨e1,e2,e3⟩:=DH (ps:=ps) (asg:=asg) (body:=body) h1
    rw[e1,pB h1]
   ·rfl
  ·rw[(hb obj t).2.2,(hb obj2 t).2.2]
def tO(env:List E):Nat->E:=fun t=>env.getD t eAny
def qD:(Nat->E)->List Nat->List D->(Nat->E)
 |f,p::ps,d::ds=>qD (upd f p ⟨true,d⟩) ps ds
 |f,_,_=>f
def J8(k:S->Prop):Exit->S->Prop
 | .normal,σ=>k σ
 |_,_=>False
def Ub(os:List O)(o:Out×Option Code):Exit->S->Prop
 | .normal,σ=>o.2=none/\gQ os o.1 σ
 | .ret,σ=>o.2=some .ret/\gQ os o.1 σ
 | .exit id,σ=>o.2=some (.exit id)/\gQ os o.1 σ
 |_,_=>False
theorem IQ{φ:Name->Loc}{obj:Name->Option O}{m:Mem}{n:Nat}:∀ (ps:List Nat) (ds:List D) (us:List Value) (f:Nat->E) (tmps:Array Value),tmps.size=n->ps.length=ds.length->ds.length=us.length->
 (∀ p∈ps,p<n)->(∀ t,cL φ obj m (f t) (tmps.getD t undef))->(∀ i (h:i<ds.length) (h':i<us.length),aH φ obj m ds[i] us[i])->
 (∀ t,cL φ obj m (qD f ps ds t) (((ps.zip us).foldl (fun tmps (p:Nat×Value)=>tmps.setIfInBounds p.1 p.2) tmps).getD t undef))/\((ps.zip us).foldl (fun tmps (p:Nat×Value)=>tmps.setIfInBounds p.1 p.2) tmps).size=n
 |[],ds,us,f,tmps,hs,h1,h2,hp,hf,hr=>by
  have :ds=[]:=List.eq_nil_of_length_eq_zero (by simpa using h1.symm)
  subst this
  exact⟨hf,hs⟩
 |p::ps,[],us,f,tmps,hs,h1,h2,hp,hf,hr=>by simp at h1
 |p::ps,d::ds,[],f,tmps,hs,h1,h2,hp,hf,hr=>by simp at h2
 |p::ps,d::ds,u::us,f,tmps,hs,h1,h2,hp,hf,hr=>by
  simp only[List.zip_cons_cons,List.foldl_cons,qD]
  refine IQ ps ds us _ _ (by simpa using hs) (by simpa using h1) (by simpa using h2) (fun q hq=>hp q (by simp[hq])) (fun t=>?_) fun i a b=>by
   have :=hr (i+1) (by simpa using a) (by simpa using b)
   simpa using this
  have ab:p<tmps.size:=by rw[hs];exact hp p (by simp)
  by_cases ht:t=p
  ·subst ht
   rw[aS]
   have e:(tmps.setIfInBounds t u).getD t undef=u:=by simp[Array.getD,ab]
   rw[e]
   unfold cL
   simp only[if_true]
   exact hr 0 (by simp) (by simp)
  ·rw[aY _ _ _ ht]
   have e:(tmps.setIfInBounds p u).getD t undef=tmps.getD t undef:=by
    simp only[Array.getD_eq_getD_getElem?]
    rw[Array.getElem?_setIfInBounds_ne (fun h=>ht h.symm)]
   rw[e];exact hf t
theorem PJ{wa wb:World}{m:Mem}{L:List Name}{φ:Name->Loc}{obj:Name->Option O}{l:Nat}{h h'}{φ1:Name->Loc}{m1:Mem}{σ1:S}{a1:Act}{w1 w2:World}
 (hC:aQ (tK wa m L φ obj (some l) h) φ1 m1 σ1 a1 w1) (dS:wb.heap.size=wa.heap.size/\w2.heap.size=w1.heap.size) (ho:wb.os=w2.os/\wb.tape=w2.tape/\wb.output=w2.output)
 (hb:∀ b,b≠l->wb.heap[b]?=wa.heap[b]?) (h2:∀ b,b≠l->w2.heap[b]?=w1.heap[b]?) (hl:wb.heap[l]?=w2.heap[l]?):aQ (tK wb m L φ obj (some l) h') φ1 m1 σ1 a1 w2:=by
 obtain⟨NB,r,hr⟩:=h l rfl
 have ab:l<wa.heap.size:=(Array.getElem?_eq_some_iff.1 hr).1
 have ew:w1.heap[l]?=some (.loop r):=(hC.fr.block l ab NB).trans hr
 constructor
 ·exact hC.tmps
 ·exact hC.size
 ·obtain⟨ds,k1,k2,k3⟩:=hC.defers
  refine⟨ds,k1,k2,fun D hD=>?_⟩
  obtain⟨k4,k5⟩:=k3 D hD
  have aF:D≠l:=fun e=>by subst e;rw[ew]at k5;cases k5
  exact⟨by show wb.heap.size<=D;rw[dS.1];exact k4,(h2 D aF).trans k5⟩
 ·intro nm o hJ
  refine(hC.objs nm o hJ).ext (Mem.le_refl _) (Ext.refl _ _) fun k1 k2=>h2 _ fun e=>?_
  rcases hC.own nm ⟨o,hJ,k1,k2⟩with h3 | h3
  ·have h4:wa.heap.size<=(φ1 nm).blk:=h3
   omega
  ·rw[e]at h3;exact NB h3
 ·intro b off v hv
  have h3:=hC.mem b off v hv
  rw[rV (h2 b (fun e=>by subst e;unfold World.cell? at h3;simp[ew]at h3))]
  exact h3
 ·exact hC.apart
 ·exact hC.inj
 ·intro nm hh
  rcases hC.own nm hh with h3 | h3
  ·exact .inl (by show wb.heap.size<=_;rw[dS.1];exact h3)
  ·exact .inr h3
 ·refine⟨ho.1.symm,ho.2.1.symm,ho.2.2.symm,by show wb.heap.size<=_;rw[dS.1,dS.2];exact hC.fr.size,fun b h3 h4=>?_⟩
  show w2.heap[b]?=wb.heap[b]?
  by_cases e:b=l
  ·subst e;exact hl.symm
  ·rw[h2 b e,hb b e]
   exact hC.fr.block b (by have:b<wb.heap.size:=h3;show b<wa.heap.size;omega) h4
 ·intro b off v hv
  rcases hC.fresh b off v hv with h3 | h3 | h3
  ·exact .inl h3
  ·exact .inr (.inl (by show wb.heap.size<=_;rw[dS.1];exact h3))
  ·exact .inr (.inr h3)
 ·exact hC.kept
theorem PZ{L:List Name}{obj:Name->Option O}{nm:Name}{x:Option O}(h:nm∉L){y:Name}(hy:y∈L):cE L (upd obj nm x) y=cE L obj y:=by
 unfold cE
 rw[aY _ _ _ (by rintro rfl;exact h hy)]
theorem Vj{L:List Name}{obj:Name->Option O}{nm:Name}{x:Option O}(h:nm∉L):kb L (upd obj nm x)=kb L obj:=by
 rw[zZ,zZ]
 congr 1
 exact List.map_congr_left fun y hy=>PZ h hy
theorem N9{L:List Name}{φ:Name->Loc}{obj:Name->Option O}{nm:Name}{x:Option O}(h:nm∉L):qx L φ (upd obj nm x)=qx L φ obj:=by
 funext b
 refine propext ⟨fun ⟨y,h1,⟨o,h2,h3⟩,h4⟩=>?_,fun ⟨y,h1,⟨o,h2,h3⟩,h4⟩=>?_⟩
 ·rw[aY _ _ _ (by rintro rfl;exact h h1)]at h2
  exact⟨y,h1,⟨o,h2,h3⟩,h4⟩
 ·exact⟨y,h1,⟨o,by rw[aY _ _ _ (by rintro rfl;exact h h1)];exact h2,h3⟩,h4⟩
theorem aaL{w:World}{m:Mem}{L:List Name}{φ:Name->Loc}{obj:Name->Option O}{nm:Name}{x:Option O}{rd:Option Nat}(h:nm∉L){h1}{h2}:tK w m L φ (upd obj nm x) rd h1=tK w m L φ obj rd h2:=by
 unfold tK
 simp only[Vj h,N9 h]
theorem HW{P:Program}{y:YSpec}(h:∀ env ps asg body os ds,y.pre env ps asg body os ds->ds.length=ps.length->
 CW P asg ⟨env.length,qD (tO env) ps ds,aR os,[0],0⟩ (J8 fun σ1=>CW P body σ1 (Ub os (y.out env ps asg body os ds)))):aL P yid y.toSpec:=by
 refine⟨y.near,fun e=>(e rfl).elim,fun e=>(e rfl).elim,fun _ G φ m σ a w hC t nm ds us _ hl hr _ aa o Z1=>?_⟩
 simp only[YSpec.toSpec]at aa |-
 split at aa
 case h_2=>exact aa.elim
 rename_i env ps asg body aB
 try simp only[aB]
 obtain⟨aa,dM⟩:=aa
 simp only[Bool.and_eq_true,Bool.not_eq_true',decide_eq_true_eq]at aa
 obtain⟨⟨⟨⟨⟨jl,cl⟩,c0⟩,ND⟩,hlen⟩,fR⟩:=aa
 have gi:nm∉reach σ.obj (roots env ds):=fun h=>by rw[gv.2 h]at ND;cases ND
 have bZ:(reach σ.obj (roots env ds)).Nodup:=zI _ _ _ (by simp)
 obtain⟨_,dN,r,ew,gh,Y2,EW,Nn,Nm,Nl,Nk⟩:=hC.objs nm _ aB
 have ab:(φ nm).blk<w.heap.size:=(Array.getElem?_eq_some_iff.1 ew).1
 have tp:¬ qx (reach σ.obj (roots env ds)) φ σ.obj (φ nm).blk:=fun ⟨x,k1,k2,k3⟩=>gi (hC.inj _ _ k2 ⟨_,aB,rfl,dN⟩ k3▸k1)
 have kW:r.params.size=ps.length:=by rw[<-EW];simp
 intro next Q ta
 rw[Z1,run_yield ew (by omega),Oper.uponIn_round]
 refine⟨fun h=>(by simp[gj,Fence.wide]at h),?_⟩
 rw[Nn,Nm]
 refine roundIn_of_wpIn trivial ?_
 have ah5:=cl
 have aae:∀ i (h:i<env.length),D.clos (cJ (reach σ.obj (roots env ds))) env[i].d=true:=fun i hi=>by
  have :=ju (l:=roots env ds) (i:=i) (by simp[roots];omega) cl
  simp only[roots]at this |-
  rw[List.getElem_append_left (by simpa using hi)]at this
  simpa using this
 have aad:∀ i (h:i<ds.length),D.clos (cJ (reach σ.obj (roots env ds))) ds[i]=true:=fun i hi=>by
  have :=ju (l:=roots env ds) (i:=env.length+i) (by simp[roots];omega) cl
  simp only[roots]at this |-
  rw[List.getElem_append_right (by simp)]at this
  simpa using this
 obtain⟨q1,q2⟩:=IQ (φ:=nC (reach σ.obj (roots env ds)) φ) (obj:=kb (reach σ.obj (roots env ds)) σ.obj) (m:=m) (n:=env.length) ps (jX σ.obj env ds) us.toList (tO (ja σ.obj env ds)) r.tmps Nl
  (by simp[jX,kO];omega) (by simp[jX,kO];omega) (fun p hp=>by have:=List.all_eq_true.1 fR p hp;simpa using this)
  (fun t=>by
    unfold tO
    by_cases ht:t<env.length
    ·have:=(Nk t ht).renx (Mem.le_refl m) zH (aae t ht)
     have e:(ja σ.obj env ds).getD t eAny=E.ren (cin (reach σ.obj (roots env ds))) env[t]:=by
      rw[List.getD_eq_getElem?_getD,List.getElem?_eq_getElem (by simpa[ja]using ht)];simp[ja]
     rw[e];exact this
    ·have e:(ja σ.obj env ds).getD t eAny=eAny:=by
       rw[List.getD_eq_getElem?_getD,List.getElem?_eq_none (by simp[ja];omega)];rfl
     rw[e];unfold cL eAny;simp;exact .any _)
  (fun i a b=>by
    simp only[jX,kO,List.length_map]at a
    have :=(hr i a (by simpa using b)).renx (Mem.le_refl m) zH (aad i a)
    simpa[jX,kO]using this)
 have fC:=OG hC (L:=reach σ.obj (roots env ds)) bZ jl (rd:=some (φ nm).blk) (fun l e=>by cases e;exact⟨tp,r,ew⟩) (b0:=0) (nt:=env.length) q2 q1
 have oq:=h _ _ _ _ _ _ dM (by simp[jX,kO];omega)
 have ZV:(r.params.zip us).foldl (fun tmps (p:Nat×Value)=>tmps.setIfInBounds p.1 p.2) r.tmps=(ps.zip us.toList).foldl (fun tmps (p:Nat×Value)=>tmps.setIfInBounds p.1 p.2) r.tmps:=by
  rw[<-EW,<-Array.toList_zip,Array.foldl_toList]
 have FT:(ja σ.obj env ds).length=env.length:=by simp[ja]
 rw[FT]at oq
 rw[zZ]at fC
 have ZU:(r.params.zip us).foldl (fun tmps (x:Tmp×Value)=>match x with | (t,a)=>tmps.setIfInBounds t a) r.tmps=(ps.zip us.toList).foldl (fun tmps (p:Nat×Value)=>tmps.setIfInBounds p.1 p.2) r.tmps:=ZV
 rw[ZU]
 refine wpIn_mono (oq _ _ m _ w fC) ?_
 rintro e a1 w1 ⟨φ1,m1,σ1,iD,hK⟩
 cases e with
 |normal=>
  have No:w1.heap[(φ nm).blk]?=some (.loop r):=(iD.fr.block _ ab tp).trans ew
  have aT:=(Array.getElem?_eq_some_iff.1 No).1
  refine⟨_,run_beginRound No gh,?_⟩
  have eW:w1.os=w.os/\w1.tape=w.tape/\w1.output=w.output:=⟨iD.fr.os,iD.fr.tape,iD.fr.output⟩
  have fT:=PJ (wb:=w.putObj (φ nm).blk (.loop { r with state:=.busy })) (w2:=w1.putObj (φ nm).blk (.loop { r with state:=.busy }))
   (h':=fun l e=>by cases e;exact⟨tp,_,World.putObj_heap_same ab⟩) iD ⟨by simp,by simp⟩ ⟨eW.1.symm,eW.2.1.symm,eW.2.2.symm⟩
   (fun b hb=>World.putObj_heap_other hb) (fun b hb=>World.putObj_heap_other hb) (by rw[World.putObj_heap_same ab,World.putObj_heap_same aT])
  refine wpIn_mono (hK _ _ m1 _ _ fT) ?_
  rintro e a3 w3 ⟨φ3,m3,σ3,tG,qj⟩
  have EX:w3.heap[(φ nm).blk]?=some (.loop { r with state:=.busy }):=(tG.fr.block _ (by show _<(w.putObj _ _).heap.size;simpa using ab) tp).trans (World.putObj_heap_same ab)
  have kx:=(Array.getElem?_eq_some_iff.1 EX).1
  have fin:∀ bM:Option Code,(y.o σ.obj env ps asg body ds).2=bM->gQ (cF σ.obj (roots env ds)) (y.o σ.obj env ps asg body ds).1 σ3->
      ∃ v w',(Instr.endRound (φ nm).blk bM).run P w3=.ok v w'/\next (a.put o.dst v) w':=by
   intro bM he hE
   refine⟨_,_,run_endRound bM EX,?_⟩
   generalize Y0:({ r with state:=.busy }:Loop)=rb at EX |-
   let rf:Loop:={ r with state:=if bM.isNone then .ready else .done,pending:=bM }
   have YZ:({ rb with state:=if bM.isNone then .ready else .done,pending:=bM }:Loop)=rf:=by rw[<-Y0]
   rw[YZ]
   have Oz:=PJ (wb:=w.putObj (φ nm).blk (.loop rf)) (w2:=w3.putObj (φ nm).blk (.loop rf))
    (h':=fun l e=>by cases e;exact⟨tp,_,World.putObj_heap_same ab⟩) tG ⟨by simp,by simp⟩
    ⟨(show (w.putObj (φ nm).blk (.loop rf)).os=(w3.putObj (φ nm).blk (.loop rf)).os from tG.fr.os.symm),(show (w.putObj (φ nm).blk (.loop rf)).tape=(w3.putObj (φ nm).blk (.loop rf)).tape from tG.fr.tape.symm),(show (w.putObj (φ nm).blk (.loop rf)).output=(w3.putObj (φ nm).blk (.loop rf)).output from tG.fr.output.symm)⟩
    (fun b hb=>by rw[World.putObj_heap_other hb,World.putObj_heap_other hb]) (fun b hb=>World.putObj_heap_other hb) (by rw[World.putObj_heap_same ab,World.putObj_heap_same kx])
   have cO:aQ G φ m { σ with obj:=upd σ.obj nm (some (.loop env ps asg body (if bM.isNone then .ready else .done) bM)) } a (w.putObj (φ nm).blk (.loop rf)):=by
    have :=hC.chg (w':=w.putObj (φ nm).blk (.loop rf)) nm (.loop env ps asg body (if bM.isNone then .ready else .done) bM) (φ nm) (Ext.same aB rfl rfl) ⟨rfl,rfl,rfl,by simp⟩
     (fun b _ hb=>World.putObj_heap_other (by rcases hb with h | h; · rw[dN]at h;cases h
                                              ·exact h))
     (fun _=>.inr ⟨⟨_,aB,rfl,dN⟩,rfl⟩) (by
       rw[gR]
       refine⟨by assumption,dN,rf,World.putObj_heap_same ab,rfl,rfl,EW,Nn,Nm,Nl,fun i hi=>(Nk i hi).ext (Mem.le_refl m) ?_⟩
       have :=Ext.same (φ:=φ) (o':=.loop env ps asg body (if bM.isNone then .ready else .done) bM) aB rfl rfl
       rwa [gR]at this)
    rwa [gR]at this
   have hL':shut (upd σ.obj nm (some (.loop env ps asg body (if bM.isNone then .ready else .done) bM))) (reach σ.obj (roots env ds))=true:=by
    rw[CP (obj:=σ.obj) fun x hx=>aY _ _ _ (by rintro rfl;exact gi hx)];exact jl
   have tw:(reach σ.obj (roots env ds)).map (cE (reach σ.obj (roots env ds)) (upd σ.obj nm (some (.loop env ps asg body (if bM.isNone then .ready else .done) bM))))=cF σ.obj (roots env ds):=
    List.map_congr_left fun x hx=>PZ gi hx
   have Gh:=O' hE
   rw[<-tw]at Gh
   have rA:∀ x∈(y.o σ.obj env ps asg body ds).1.new,nm≠x.1++t:=fun x hx e=>by
    have :=List.all_eq_true.1 c0 x hx
    rw[<-e,aB]at this;cases this
   have ZT:fresh (upd σ.obj nm (some (.loop env ps asg body (if bM.isNone then .ready else .done) bM))) t (y.o σ.obj env ps asg body ds).1.new=true:=by
    rw[Bl (obj:=σ.obj) fun x hx=>by
     obtain⟨z,hz,rfl⟩:=List.mem_map.1 hx
     exact aY _ _ _ (rA z hz).symm]
    exact c0
   rw[<-aaL (x:=some (.loop env ps asg body (if bM.isNone then .ready else .done) bM)) gi (h1:=fun l e=>by
    cases e;rw[N9 gi];exact⟨tp,_,World.putObj_heap_same ab⟩)]at Oz
   obtain⟨φ',m',k1,k2,k3,k4⟩:=OF cO bZ hL' Oz Gh ZT
   refine ta _ φ' m' _ ?_ (.v _ _ ?_)
   ·have:(dv (reach σ.obj (roots env ds)) t (y.o σ.obj env ps asg body ds).1.new (cH (reach σ.obj (roots env ds)) t (y.o σ.obj env ps asg body ds).1.upd (upd σ.obj nm (some (.loop env ps asg body (if bM.isNone then .ready else .done) bM)))))=
      upd (dv (reach σ.obj (roots env ds)) t (y.o σ.obj env ps asg body ds).1.new (cH (reach σ.obj (roots env ds)) t (y.o σ.obj env ps asg body ds).1.upd σ.obj)) nm (some (.loop env ps asg body (if bM.isNone then .ready else .done) bM)):=by
      funext x
      have hu:((y.o σ.obj env ps asg body ds).1.upd.all fun x=>decide (x.1<(reach σ.obj (roots env ds)).length))=true:=List.all_eq_true.2 fun z hz=>by
       have :=List.all_eq_true.1 Gh.cu z hz
       simp only[Bool.and_eq_true,List.length_map]at this;exact this.2
      by_cases e:x=nm
      ·subst e
       rw[aS,wV _ _ rA,Dn _ _ hu gi,aS]
      ·rw[aY _ _ _ e]
       rw[sy (y.o σ.obj env ps asg body ds).1.new σ.obj (cH _ _ _ (upd _ _ _)) x,sy (y.o σ.obj env ps asg body ds).1.new σ.obj (cH _ _ _ σ.obj) x]
       by_cases h1:x∈(y.o σ.obj env ps asg body ds).1.new.map (fun x=>x.1++t)
       ·rw[if_pos h1,if_pos h1]
       ·rw[if_neg h1,if_neg h1]
        rw[uX (y.o σ.obj env ps asg body ds).1.upd σ.obj (upd _ _ _) x,uX (y.o σ.obj env ps asg body ds).1.upd σ.obj σ.obj x]
        by_cases h2:x∈(y.o σ.obj env ps asg body ds).1.upd.map (fun x=>(reach σ.obj (roots env ds)).getD x.1 [])
        ·rw[if_pos h2,if_pos h2]
        ·rw[if_neg h2,if_neg h2];exact aY _ _ _ e
    rw[this]at k2
    rw[he]
    exact k2
   ·rw[he];exact .bool _
  cases e with
  |normal=>exact fin none qj.1 qj.2
  |ret=>exact fin (some .ret) qj.1 qj.2
  |exit id=>exact fin (some (.exit id)) qj.1 qj.2
  |goto l=>exact qj.elim
  |panic ch=>exact qj.elim
  |outgrown=>exact qj.elim
 |ret=>exact hK.elim
 |exit id=>exact hK.elim
 |goto l=>exact hK.elim
 |panic ch=>exact hK.elim
 |outgrown=>exact hK.elim
theorem abH{G:Ghost}{φ:Name->Loc}{m:Mem}{σ:S}{a:Act}{w:World}(hC:aQ G φ m σ a w):
 aQ G φ m σ { a with defers:=[{ target:=.collected w.heap.size,args:= #[] }]++a.defers } (w.alloc (.deferred (some []))):=by
 have hb:∀ b,b<w.heap.size->(w.alloc (.deferred (some []))).heap[b]?=w.heap[b]?:=fun b h=>RowKit.Below.heap_alloc w _ b h
 have h:=hC.imm (w':=w.alloc (.deferred (some []))) (Mem.le_refl m) ⟨rfl,rfl,rfl,by simp⟩ hb (fun _ _ _ h=>.inl h)
 refine⟨h.tmps,h.size,?_,h.objs,h.mem,h.apart,h.inj,h.own,h.fr,h.fresh,h.kept⟩
 obtain⟨ds,h1,h2,h3⟩:=h.defers
 have ab:∀ D∈ds,D<w.heap.size:=fun D hD=>by
  obtain⟨mZ,k1,k2,k3⟩:=hC.defers
  have e:mZ=ds:=by
   have :=k1.symm.trans h1
   have hi:Function.Injective (fun D:Nat=>({ target:=.collected D,args:= #[] }:Deferred)):=fun x y h=>by simpa using h
   exact(List.map_inj_right hi).1 this
  exact(Array.getElem?_eq_some_iff.1 (k3 D (e▸hD)).2).1
 refine⟨w.heap.size::ds,by rw[h1];rfl,List.nodup_cons.2 ⟨fun hm=>Nat.lt_irrefl _ (ab _ hm),h2⟩,fun D hD=>?_⟩
 rcases List.mem_cons.1 hD with rfl | hD
 ·exact⟨hC.fr.size,World.alloc_heap_new w _⟩
 ·exact h3 D hD
def lC(obj:Name->Option O)(nm:Name):Name->Option O:=upd obj nm (match obj nm with
 |some (.loop env ps asg body _ bM)=>some (.loop env ps asg body .exhausted bM)
 |o=>o)
def qX(K:Exit->S->Prop)(obj:Name->Option O)(nm:Name)(σ:S):Prop:=match obj nm with
 |some (.loop _ _ _ _ .busy _)=>False
 |some (.loop _ _ _ _ _ none)=>K .normal σ
 |some (.loop _ _ _ _ _ (some .ret))=>K .ret σ
 |some (.loop _ _ _ _ _ (some (.exit id)))=>K (.exit id) σ
 |_=>False
theorem PF{P:Program}{Γ:FuncId->Option Spec}(hΓ:∀ f s,Γ f=some s->aL P f s){g:Operand}{ps:Array Tmp}{asg body:Code}{σ:S}{K:Exit->S->Prop}(k k':Nat){f:FuncId}{s:Spec}
 (hc:cQ σ g=true) (dT:gm (aw σ g)=some f) (aF:f≠yid) (hs:Γ f=some s) (oc:σ.obj (k::σ.pre)=none)
 (aa:(s.app (upd σ.obj (k::σ.pre) (some (.loop ((List.range σ.nt).map σ.env) ps.toList asg body .ready none))) (k'::σ.pre) (eY (aw σ g) [.yld (k::σ.pre)])).ok)
 (hK:qX K (s.app (upd σ.obj (k::σ.pre) (some (.loop ((List.range σ.nt).map σ.env) ps.toList asg body .ready none))) (k'::σ.pre) (eY (aw σ g) [.yld (k::σ.pre)])).obj (k::σ.pre)
   { σ with obj:=lC (s.app (upd σ.obj (k::σ.pre) (some (.loop ((List.range σ.nt).map σ.env) ps.toList asg body .ready none))) (k'::σ.pre) (eY (aw σ g) [.yld (k::σ.pre)])).obj (k::σ.pre) }):
 CW P (.rangeFunc g ps asg body) σ K:=by
 intro G φ m a w hC
 generalize aB:k::σ.pre=nm at *
 generalize E7:upd σ.obj nm (some (.loop ((List.range σ.nt).map σ.env) ps.toList asg body .ready none))=qO at *
 generalize hR:s.app qO (k'::σ.pre) (eY (aw σ g) [.yld nm])=R at *
 have AZ:=cI hC hc
 obtain⟨us,vs,fs,cs,hu,mU,e1,e2,ew,gh⟩:∃ (us vs:Array Value) (fs cs:List D),a.eval g=.func (.func f) us vs/\(∀ args,eY (aw σ g) args=fs++args++cs)/\fs.length=us.size/\cs.length=vs.size/\
  (∀ i (h:i<fs.length) (h':i<us.size),aH φ σ.obj m fs[i] us[i])/\(∀ i (h:i<cs.length) (h':i<vs.size),aH φ σ.obj m cs[i] vs[i]):=by
  generalize a.eval g=u at *
  generalize aw σ g=d at *
  unfold gm at dT
  split at dT
  ·rename_i f' fs cs
   split at dT
   ·cases dT
   cases dT
   cases AZ with
   |v _ _ AZ=>
   cases AZ with
   |clo _ _ _ us vs e1 e2 h1 h2=>
   exact⟨us,vs,fs.map .v,cs.map .v,rfl,fun _=>rfl,by simpa using e1,by simpa using e2,fun i a b=>by simpa using .v _ _ (h1 i (by simpa using a) b),fun i a b=>by simpa using .v _ _ (h2 i (by simpa using a) b)⟩
  ·rename_i f' fs cs
   split at dT
   ·cases dT
   cases dT
   cases AZ with
   |clo _ _ _ us vs e1 e2 h1 h2=>exact⟨us,vs,fs,cs,rfl,fun _=>rfl,e1,e2,h1,h2⟩
  ·cases dT;exact(aF rfl).elim
  ·cases dT
 refine wpIn_rangeFunc fun fn _=>?_
 have main:∀ (W:World) (a':Act) (D:Nat),aQ G φ m σ a' W->a'.tmps=a.tmps->
     ∃ (d:Deferred) (uA:World) (f':FuncId) (args:Array Value) (w₂:World),
     (resolve a.eval (rangeCall g W.heap.size) 0).run P (W.alloc (.loop { state:=.ready,pending:=none,fn,tmps:=a.tmps,params:=ps,assign:=asg,body,defers:=D }))=.ok d uA/\
     (invoke d.target d.args).run P uA=.ok (.enter f' args) w₂/\
     CallsIn (gj G.rd) (0-1) P f' args w₂ (rangePost (gj G.rd) 0 P W.heap.size (fun e a' w'=>∃ φ' m' σ',aQ G φ' m' σ' a' w'/\K e σ') a'):=by
  intro W a' D iD av
  obtain⟨r,n7⟩:∃ r:Loop,r={ state:=.ready,pending:=none,fn,tmps:=a.tmps,params:=ps,assign:=asg,body,defers:=D }:=⟨_,rfl⟩
  rw[<-n7]
  have hx:=Ext.new (φ:=φ) oc ⟨W.heap.size,0,0,false,none⟩ (.loop ((List.range σ.nt).map σ.env) ps.toList asg body .ready none)
  have fT:=iD.chg (w':=W.alloc (.loop r)) nm (.loop ((List.range σ.nt).map σ.env) ps.toList asg body .ready none) ⟨W.heap.size,0,0,false,none⟩ hx ⟨rfl,rfl,rfl,by simp⟩
   (fun b hb _=>RowKit.Below.heap_alloc W _ b hb) (fun _=>.inl (Nat.le_refl _)) ⟨rfl,rfl,r,World.alloc_heap_new W _,by rw[n7],by rw[n7],by rw[n7],by rw[n7],by rw[n7],by
     rw[n7]
     show a.tmps.size=_
     rw[<-av,iD.size];simp,fun i hi=>by
     simp only[List.getElem_map,List.getElem_range]
     rw[n7]
     show cL _ _ m _ (a.tmps.getD i undef)
     rw[<-av]
     exact(iD.tmps i).ext (Mem.le_refl m) hx⟩
  rw[E7]at fT hx
  refine⟨{ target:=.fn (.func f) vs,args:=us++ #[.func (.yield W.heap.size) #[] #[]] },W.alloc (.loop r),f,us++ #[.func (.yield W.heap.size) #[] #[]]++vs,W.alloc (.loop r),?_,?_,?_⟩
  ·have hy:a.eval (.const (.func (.yield W.heap.size) #[] #[]))=.func (.yield W.heap.size) #[] #[]:=rfl
   simp[resolve,Deferred.ofValue,hu,hy]
  ·simp[invoke,(hΓ f s hs).enter aF]
  ·refine OW ?_
   have qc:=(hΓ f s hs).calls aF G (upd φ nm ⟨W.heap.size,0,0,false,none⟩) m { σ with obj:=qO } a' (W.alloc (.loop r)) fT (k'::σ.pre) (eY (aw σ g) [.yld nm]) (us++ #[.func (.yield W.heap.size) #[] #[]]++vs) ⟨k',rfl⟩
   refine(qc ?_ ?_ ?_).mono ?_
   ·rw[mU];simp only[List.length_append,List.length_singleton,Array.size_append,e1,e2];rfl
   ·intro i h1 h2
    simp only[mU]
    have Av:aH (upd φ nm ⟨W.heap.size,0,0,false,none⟩) qO m (.yld nm) (.func (.yield W.heap.size) #[] #[]):=by
     have :=aH.yld (φ:=upd φ nm ⟨W.heap.size,0,0,false,none⟩) (obj:=qO) (m:=m) nm ⟨_,by rw[<-E7,aS],rfl⟩
     rwa [aS]at this
    simp only[mU,List.length_append,List.length_singleton]at h1
    by_cases k1:i<fs.length
    ·have q1:i<us.size:=by omega
     simp only[List.append_assoc,Array.append_assoc]
     rw[List.getElem_append_left k1,Array.getElem_append_left q1]
     exact(ew i k1 q1).ext (Mem.le_refl m) hx
    ·by_cases k2:i=fs.length
     ·subst k2
      simp only[List.append_assoc,Array.append_assoc]
      rw[List.getElem_append_right (by omega),Array.getElem_append_right (by omega)]
      simp only[Nat.sub_self,e1,List.cons_append,List.getElem_cons_zero]
      rw[Array.getElem_append_left (by simp)]
      simpa using Av
     ·rw[List.getElem_append_right (by simp;omega),Array.getElem_append_right (by simp;omega)]
      have :=(gh (i-(fs.length+1)) (by omega) (by omega)).ext (Mem.le_refl m) hx
      simp only[List.length_append,List.length_singleton,Array.size_append,<-e1]
      exact this
   ·show (s.app qO _ _).ok
    rw[hR];exact aa
   ·rintro e w3 ⟨v,φ',m',rfl,tG,_,YF⟩
    have h9:s.app qO (k'::σ.pre) (eY (aw σ g) [.yld nm])=R:=hR
    have OA:aQ G φ' m' { σ with obj:=R.obj } a' w3:=by rw[<-h9];exact tG
    have YE:Ext (upd φ nm ⟨W.heap.size,0,0,false,none⟩) φ' qO R.obj:=by rw[<-h9];exact YF
    have Zh:qO nm=some (.loop ((List.range σ.nt).map σ.env) ps.toList asg body .ready none):=by rw[<-E7,aS]
    have Fu:φ' nm=⟨W.heap.size,0,0,false,none⟩:=by
     obtain⟨o',k1,k2⟩:=YE nm _ Zh
     rcases k2 with⟨_,k2,_⟩ | ⟨n,n',k2,_⟩
     ·rw[k2,aS]
     ·cases k2
    unfold qX at hK
    have step:∀ {iE:List E} {ir:List Nat} {a1 b1:Code} {st:LoopState} {bM:Option Code},R.obj nm=some (.loop iE ir a1 b1 st bM)->st≠ .busy->
        ∃ w4,(Instr.endLoop W.heap.size).run P w3=.ok bM w4/\aQ G φ' m' { σ with obj:=lC R.obj nm } a' w4:=by
     intro iE ir a1 b1 st bM ho cK
     obtain⟨q0,q1,r',q2,q3,q4,q5,q6,q7,q8,q9⟩:=OA.objs nm _ ho
     rw[Fu]at q2
     have N8:(Instr.endLoop W.heap.size).run P w3=.ok bM (w3.putObj W.heap.size (.loop { r' with state:=.exhausted })):=by
      rw[run_endLoop (P:=P) q2 (by rw[q3];exact cK),q4]
     refine⟨_,N8,?_⟩
     have ab:=(Array.getElem?_eq_some_iff.1 q2).1
     have pV:lC R.obj nm=upd R.obj nm (some (.loop iE ir a1 b1 .exhausted bM)):=by unfold lC;rw[ho]
     rw[pV]
     have :=OA.chg (w':=w3.putObj W.heap.size (.loop { r' with state:=.exhausted })) nm (.loop iE ir a1 b1 .exhausted bM) (φ' nm) (Ext.same ho rfl rfl) ⟨rfl,rfl,rfl,by simp⟩
      (fun b _ hb=>World.putObj_heap_other (by
        rcases hb with h | h
        ·rw[q1]at h;cases h
        ·rw[Fu]at h;exact h))
      (fun _=>.inr ⟨⟨_,ho,rfl,q1⟩,rfl⟩) (by
        rw[gR]
        refine⟨q0,q1,{ r' with state:=.exhausted },by rw[Fu];exact World.putObj_heap_same ab,rfl,q4,q5,q6,q7,q8,fun i hi=>(q9 i hi).ext (Mem.le_refl _) ?_⟩
        have :=Ext.same (φ:=φ') (o':=.loop iE ir a1 b1 .exhausted bM) ho rfl rfl
        rwa [gR]at this)
     rw[gR]at this
     exact this
    rcases ho:R.obj nm with _ | o
    ·rw[ho]at hK;exact hK.elim
    rw[ho]at hK
    cases o with
    |loop iE ir a1 b1 st bM=>
     have cK:st≠ .busy:=by rintro rfl;exact hK.elim
     obtain⟨w4,h1,h2⟩:=step ho cK
     refine⟨bM,w4,h1,?_⟩
     cases bM with
     |none=>
      refine⟨φ',m',_,h2,?_⟩
      cases st<;>first | exact hK | exact(cK rfl).elim
     |some c=>
      cases c with
      |ret=>exact wpIn_ret ⟨φ',m',_,h2,by cases st<;>first | exact hK | exact(cK rfl).elim⟩
      |exit id=>exact wpIn_exit ⟨φ',m',_,h2,by cases st<;>first | exact hK | exact(cK rfl).elim⟩
      |_=>exfalso;cases st<;>first | exact hK | exact(cK rfl).elim
    |_=>exact hK.elim
 cases n8:G.rd with
 |none=>
  obtain⟨d,uA,f',args,w₂,h1,h2,h3⟩:=main (w.alloc (.deferred (some []))) _ w.heap.size (abH hC) rfl
  rw[n8]at h3
  have dS:(w.alloc (.deferred (some []))).heap.size=w.heap.size+1:=by simp
  rw[dS]at h1 h3
  exact⟨w.heap.size+1,[{ target:=.collected w.heap.size,args:= #[] }],_,d,uA,f',args,w₂,run_enterLoop_outer _ _ _ _ _,h1,fun _ _=>trivial,h2,fun h=>(by simp[gj,Fence.wide]at h),h3⟩
 |some l=>
  obtain⟨hJ,r0,Np⟩:=G.rdok l n8
  have Y3:w.heap[l]?=some (.loop r0):=(hC.fr.block l (Array.getElem?_eq_some_iff.1 Np).1 hJ).trans Np
  obtain⟨d,uA,f',args,w₂,h1,h2,h3⟩:=main w a r0.defers hC rfl
  rw[n8]at h3
  exact⟨w.heap.size,[],_,d,uA,f',args,w₂,run_enterLoop_inner Y3 _ _ _ _ _,h1,fun _ _=>trivial,h2,fun h=>(by simp[gj,Fence.wide]at h),h3⟩
theorem PQ{P:Program}{Γ:FuncId->Option Spec}(hΓ:∀ f s,Γ f=some s->aL P f s){g:Operand}{ps:Array Tmp}{asg body:Code}{σ:S}{r:List Code}{K:Exit->S->Prop}(k k':Nat){f:FuncId}{s:Spec}
 (hc:cQ σ g=true) (dT:gm (aw σ g)=some f) (aF:f≠yid) (hs:Γ f=some s) (oc:σ.obj (k::σ.pre)=none)
 (aa:(s.app (upd σ.obj (k::σ.pre) (some (.loop ((List.range σ.nt).map σ.env) ps.toList asg body .ready none))) (k'::σ.pre) (eY (aw σ g) [.yld (k::σ.pre)])).ok)
 (hK:qX (iN (fun σ'=>CL P r σ' K) K) (s.app (upd σ.obj (k::σ.pre) (some (.loop ((List.range σ.nt).map σ.env) ps.toList asg body .ready none))) (k'::σ.pre) (eY (aw σ g) [.yld (k::σ.pre)])).obj (k::σ.pre)
   { σ with obj:=lC (s.app (upd σ.obj (k::σ.pre) (some (.loop ((List.range σ.nt).map σ.env) ps.toList asg body .ready none))) (k'::σ.pre) (eY (aw σ g) [.yld (k::σ.pre)])).obj (k::σ.pre) }):
 CL P (.rangeFunc g ps asg body::r) σ K:=PF hΓ k k' hc dT aF hs oc aa hK
theorem dW.refl(σ:S):dW σ σ:=fun _ φ _ _ _ hC=>⟨φ,hC⟩
theorem dW.trans{a b c:S}(h:dW a b)(k:dW b c):dW a c:=fun G φ m x w hC=>by
 obtain⟨φ',h'⟩:=h G φ m x w hC
 exact k G φ' m x w h'
theorem bd{σ τ:S}(ks:List Nat)(ns:List Name)(h:iZ ks ns σ)(he:ji ks ns σ=τ):dW σ τ:=he▸Cw ks ns h
def pA(l c:List (Nat×E)):List (Nat×E):=l.map fun q=>(q.1,(c.lookup q.1).getD q.2)
def py(l c:List (Name×O)):List (Name×O):=l.map fun q=>(q.1,(c.lookup q.1).getD q.2)
theorem eG{P:Program}{c:Code}{r:List Code}{σ:S}{K:Exit->S->Prop}(ks:List Nat)(ns:List Name)(h:iZ ks ns σ)(hc:CL P (c::r) (ji ks ns σ) K):CL P (c::r) σ K:=
 tW (Cw ks ns h) hc
theorem cB{P:Program}{c:Code}{r:List Code}{K:Exit->S->Prop}{nt:Nat}{p:Name}{H:Name->Option O}{l:List (Nat×E)}{h:List (Name×O)}{ι:Type}
 (chg:ι->List (Nat×E)) (pF:ι->List (Name×O)) (R:ι->Prop) (μ:ι->Nat) (i0:ι) (hR:R i0) (he:pA l (chg i0)=l) (ho:py h (pF i0)=h)
 (round:∀ i,R i->CL P [c] (bg nt p H (pA l (chg i)) (py h (pF i))) (iN (fun σ'=>∃ i',R i'/\μ i'<μ i/\dW σ' (bg nt p H (pA l (chg i')) (py h (pF i')))) K)):
 CL P (.loop c::r) (bg nt p H l h) K:=by
 refine yC (fun i=>bg nt p H (pA l (chg i)) (py h (pF i))) R μ i0 hR ?_ round
 rw[he,ho]
 exact .refl _
theorem PR{P:Program}{c:Code}{r:List Code}{K:Exit->S->Prop}{nt:Nat}{p:Name}{H:Name->Option O}{l:List (Nat×E)}{h:List (Name×O)}{ι:Type}
 (Hc:ι->Name->Option O) (chg:ι->List (Nat×E)) (pF:ι->List (Name×O)) (R:ι->Prop) (μ:ι->Nat) (i0:ι) (hR:R i0) (hH:bg nt p (Hc i0) l h=bg nt p H l h) (he:pA l (chg i0)=l) (ho:py h (pF i0)=h)
 (round:∀ i,R i->CL P [c] (bg nt p (Hc i) (pA l (chg i)) (py h (pF i))) (iN (fun σ'=>∃ i',R i'/\μ i'<μ i/\dW σ' (bg nt p (Hc i') (pA l (chg i')) (py h (pF i')))) K)):
 CL P (.loop c::r) (bg nt p H l h) K:=by
 refine yC (fun i=>bg nt p (Hc i) (pA l (chg i)) (py h (pF i))) R μ i0 hR ?_ round
 rw[he,ho,hH]
 exact .refl _
attribute [go_sem] pA py List.lookup_cons List.lookup_nil List.getElem?_toArray List.getElem?_cons_succ List.getElem?_cons_zero beq_true beq_false ite_self Bool.and_self Bool.or_self imp_self Bool.if_true_right Bool.if_false_right Bool.if_true_left Bool.if_false_left Bool.decide_eq_true
attribute [go_sem] wT gQ sC xd distinct fm dp di dj aR Bool.and_eq_true
def fM(a b:Nat):Bool:=Nat.ble a b
def iu(a b:Nat):Bool:=Nat.ble (a+1) b
def cY(a b:Nat):Bool:=Nat.beq a b
def dK(a b:Int):Bool:=match b-a with
 | .ofNat _=>true
 | .negSucc _=>false
def kU(a b:Int):Bool:=match b-a-1 with
 | .ofNat _=>true
 | .negSucc _=>false
def vd{α:Type}:Option α->Bool
 |none=>true
 |some _=>false
def pH:Option Nat->Nat->Bool
 |some a,b=>Nat.beq a b
 |none,_=>false
def wk(sz:Nat):List V->Bool
 |[]=>true
 |x::r=>Nat.beq x.cells.length sz&&wk sz r
def wm(sz:Nat):List V->Bool
 |[]=>true
 |x::r=>Nat.beq x.cells.length sz&&x.okc&&wm sz r
def xu(a b:IntKind):Bool:=match a,b with
 | .i64,.i64=>true
 | .u8,.u8=>true
 | .u64,.u64=>true
 | .i32,.i32=>true
 | .u32,.u32=>true
 |_,_=>false
def Ew(P:Program)(T:TypeId):Bool:=match P.underlying T with
 |some .bool=>true
 |_=>false
def isEq:BinOp->Bool
 | .eql=>true
 | .neq=>true
 |_=>false
def sL:Int->Bool
 | .ofNat 0=>true
 |_=>false
theorem sE{a b:Nat}(h:fM a b=true):a<=b:=Nat.le_of_ble_eq_true h
theorem Aa{a b:Nat}(h:iu a b=true):a<b:=Nat.le_of_ble_eq_true h
theorem kR{a b:Nat}(h:cY a b=true):a=b:=Nat.eq_of_beq_eq_true h
theorem gZ{a b:Int}(h:dK a b=true):a<=b:=by
 unfold dK at h
 split at h
 ·rename_i n hn
  have :(0:Int)<=b-a:=by rw[hn];exact Int.natCast_nonneg n
  omega
 ·cases h
theorem Yt{a b:Int}(h:kU a b=true):a<b:=by
 unfold kU at h
 split at h
 ·rename_i n hn
  have :(0:Int)<=b-a-1:=by rw[hn];exact Int.natCast_nonneg n
  omega
 ·cases h
theorem z6{α:Type}{o:Option α}(h:vd o=true):o=none:=by cases o<;>simp_all[vd]
theorem qP{o:Option Nat}{b:Nat}(h:pH o b=true):o=some b:=by
 cases o with
 |none=>cases h
 |some a=>rw[Nat.eq_of_beq_eq_true h]
theorem Cb{sz:Nat}:∀ {l:List V},wk sz l=true->∀ x∈l,x.cells.length=sz
 |y::r,h,x,hx=>by
  simp only[wk,Bool.and_eq_true]at h
  rcases List.mem_cons.1 hx with rfl | hx
  ·exact Nat.eq_of_beq_eq_true h.1
  ·exact Cb h.2 x hx
theorem Cc{sz:Nat}:∀ {l:List V},wm sz l=true->∀ x∈l,x.cells.length=sz/\x.okc=true
 |y::r,h,x,hx=>by
  simp only[wm,Bool.and_eq_true]at h
  rcases List.mem_cons.1 hx with rfl | hx
  ·exact⟨Nat.eq_of_beq_eq_true h.1.1,h.1.2⟩
  ·exact Cc h.2 x hx
theorem MT{a b:IntKind}(h:xu a b=true):a=b:=by unfold xu at h;split at h<;>first | rfl | cases h
theorem Ym{P:Program}{T:TypeId}(h:Ew P T=true):P.underlying T=some .bool:=by unfold Ew at h;split at h<;>first | assumption | cases h
theorem An{op:BinOp}(h:isEq op=true):op=.eql\/op=.neq:=by cases op<;>first | exact .inl rfl | exact .inr rfl | cases h
theorem Yj{n:Int}(h:sL n=false):n≠0:=by rintro rfl;cases h
section
variable (P:Program) (obj:Name->Option O)
def yM(T:TypeId)(x:D):Bool:=
 match bc P T with
 |none=>false
 |some (ag,n)=>match x with
  | .v (.ptr cs)=>match ag with
    |true=>fM n cs.length
    |false=>cY n 1&&iu 0 cs.length
  | .ref nm off=>match obj nm with
    |some (.box cs)=>match ag with
     |true=>fM (off+n) cs.length
     |false=>cY n 1&&iu off cs.length
    |some (.fbox cs)=>match ag with
     |true=>fM (off+n) cs.length
     |false=>cY n 1&&iu off cs.length
    |_=>false
  | .aref nm k i off=>match obj nm with
    |some (.arr _ l)=>cY k l.length&&iu i l.length&&(match ag with
     |true=>fM (off+n) (l.getD i default).cells.length
     |false=>cY n 1&&iu off (l.getD i default).cells.length)
    |some (.farr _ l)=>cY k l.length&&iu i l.length&&(match ag with
     |true=>fM (off+n) (l.getD i default).cells.length
     |false=>cY n 1&&iu off (l.getD i default).cells.length)
    |_=>false
  |_=>false
def B2(T:TypeId)(f:Nat)(x:D):Bool:=
 match bW P T f with
 |none=>false
 |some (off,n,_)=>!cY n 0&&match x with
  | .v (.ptr cs)=>fM (off+n) cs.length
  | .ref _ _=>true
  | .aref nm k _ _=>match obj nm with
    |some o=>pH o.len? k
    |none=>false
  |_=>false
def B0(T:TypeId)(x i:D):Bool:=
 match i with
 | .v (.int _ n)=>match x with
   | .v (.sl l)=>match cr P T with
     |some (_,sz,_)=>dK 0 n&&kU n l.length&&cY (l.getD n.toNat default).cells.length sz
     |none=>false
   | .msl nm k=>match cr P T with
     |some (_,sz,_)=>match obj nm with
      |some (.arr s l)=>dK 0 n&&kU n l.length&&cY k l.length&&cY s sz
      |some (.farr s l)=>dK 0 n&&kU n l.length&&cY k l.length&&cY s sz
      |_=>false
     |none=>false
   | .ref _ _=>match jC P T with
     |some (len,_,_)=>dK 0 n&&kU n len
     |none=>false
   | .v (.ptr cs)=>match jC P T with
     |some (len,sz,_)=>dK 0 n&&kU n len&&fM (n.toNat*sz+sz) cs.length
     |none=>false
   |_=>false
 |_=>false
def Qn(op:BinOp)(k k':IntKind)(b:Int):Bool:=
 match op with
 | .quo=>xu k k'&&!sL b
 | .rem=>xu k k'&&!sL b
 | .shl=>dK 0 b
 | .shr=>dK 0 b
 |_=>xu k k'
def Qe(op:BinOp)(a b:ByteArray):Bool:=
 match op with
 | .add=>fM (a.size+b.size) maxLen
 | .eql | .neq | .lss | .leq | .gtr | .geq=>true
 |_=>false
def Hp(op:BinOp)(T:TypeId)(x y:D):Bool:=
 match x,y with
 | .v (.int k _),.v (.int k' b)=>Qn op k k' b
 | .v (.str a),.v (.str b)=>Qe op a b
 | .v (.bool _),.v (.bool _)=>Ew P T&&isEq op
 |_,_=>false
def Hl(op:BinOp)(T:TypeId)(x y:V):Bool:=
 match jt P Op.maxDepth T x y with
 |some _=>!(P.eqGuardType P.depth T)&&isEq op
 |none=>false
def Hj(op:BinOp)(T:TypeId)(x:D):Bool:=
 match x with
 | .v (.sl (_::_))=>pH (dB P T) 0&&isEq op
 | .msl nm (k+1)=>(match obj nm with | some o=>pH o.len? (k+1) | none=>false)&&pH (dB P T) 0&&isEq op
 |_=>false
def B7(op:BinOp)(T:TypeId)(x y:D)(lK:Bool):Bool:=
 match lK with
 |true=>Hj P obj op T x
 |false=>match eH x,eH y with
  |some (.agg a),some (.agg b)=>Hl P op T (.agg a) (.agg b)
  |_,_=>Hp P op T x y
def BO(op:UnOp)(x:D):Bool:=
 match op,x with
 | .not,.v (.bool _)=>true
 | .neg,.v (.int _ _)=>true
 |_,_=>false
def B5(src dst:TypeId)(x:D):Bool:=
 match nG P dst,x with
 |some _,.v (.int _ _)=>(P.underlying src).isSome
 |_,_=>false
def B4(x:D)(i:Nat):Bool:=
 match x with
 | .tup l=>iu i l.length
 | .v (.tup l)=>iu i l.length
 |_=>false
def BS(x:D):Bool:=
 match x with
 | .ref _ _=>true
 | .v (.ptr _)=>true
 | .aref nm k _ _=>match obj nm with
   |some o=>pH o.len? k
   |none=>false
 |_=>false
def yO(t:Name)(x:D):Bool:=vd (obj (bj t))&&x.boxable
def B9(t:Name)(T:TypeId):Bool:=match bh P T with
 |some z=>yO obj t (jI z)
 |none=>false
def B6(T:TypeId)(parts:List (Nat×D)):Bool:=
 match iq P T,bh P T with
 |some ps,some z=>match jI z with
  | .agg cs=>match tL (fun i=>ps[i]?) cs parts with
    |some _=>true
    |none=>false
  |_=>false
 |_,_=>false
def BP(T:TypeId)(x d:D):Bool:=
 match bc P T with
 |none=>false
 |some (_,n)=>match x with
  | .ref nm off=>match obj nm with
    |some (.box cs)=>d.boxable&&cY d.cells.length n&&fM (off+n) cs.length
    |_=>false
  | .aref nm k i off=>match obj nm with
    |some (.arr sz l)=>match eH d with
     |some y=>cY k l.length&&iu i l.length&&cY y.cells.length n&&y.okc&&fM (off+n) sz&&!cY sz 0
     |none=>false
    |_=>false
  |_=>false
def BV(t:Name)(T:TypeId)(r:Option D):Bool:=
 match kL P T,r with
 |some _,none=>vd (obj (bj t))
 |_,_=>false
def BU(t:Name)(T:TypeId)(l c:D):Bool:=
 match cr P T,l,c with
 |some (e,sz,by_),.v (.int _ n),.v (.int _ n')=>match (bh P e).bind fun z=>eH (jI z)with
  |some zv=>dK n n'&&dK n' n&&dK 0 n&&dK ((by_:Int)*n) 281474976710656&&dK n 9223372036854775807&&cY zv.cells.length sz&&zv.okc&&!cY sz 0&&vd (obj (bj t))
  |none=>false
 |_,_,_=>false
def BX(T:TypeId)(x:D):Bool:=
 match dB P T,x with
 |some 0,.v (.sl _)=>true
 |some 0,.nilsl=>true
 |some 0,.msl nm k=>match obj nm with
  |some o=>pH o.len? k
  |none=>false
 |some 1,.v (.str _)=>true
 |some 2,.nilmap=>true
 |some 2,.map nm=>match obj nm with
  |some (.map _ _)=>true
  |_=>false
 |_,_=>false
def BQ(T:TypeId)(x:D)(lo hi mx:Option D):Bool:=
 match mx with
 |none=>match x with
  | .v (.sl l)=>match cr P T,gY lo,k9 l.length hi with
    |some (_,sz,_),some i,some j=>dK 0 i&&dK i j&&dK j l.length&&wk sz l
    |_,_,_=>false
  | .nilsl=>match cr P T,gY lo,k9 0 hi with
    |some (_,_,_),some i,some j=>sL i&&sL j
    |_,_,_=>false
  | .msl nm k=>match obj nm,cr P T,gY lo,k9 k hi with
    |some (.arr _ l),some (_,sz,_),some i,some j=>cY k l.length&&dK 0 i&&dK i j&&dK j l.length&&wk sz l
    |some (.farr _ l),some (_,sz,_),some i,some j=>cY k l.length&&dK 0 i&&dK i j&&dK j l.length&&wk sz l
    |_,_,_,_=>false
  | .v (.str s)=>match dB P T,gY lo,k9 s.size hi with
    |some 1,some i,some j=>dK 0 i&&dK i j&&dK j s.size
    |_,_,_=>false
  |_=>false
 |some (.v (.int _ 0))=>match cr P T,gY lo,hi with
  |some _,some 0,some (.v (.int _ 0))=>match x with
   | .v (.sl _)=>true
   | .nilsl=>true
   | .msl nm k=>match obj nm with
     |some o=>pH o.len? k
     |none=>false
   |_=>false
  |_,_,_=>false
 |some _=>false
def B3(T:TypeId)(x:D)(f:Nat):Bool:=
 match bW P T f with
 |none=>false
 |some (off,n,ag)=>match x with
  | .agg l=>match ag with
    |true=>fM (off+n) l.length
    |false=>iu off l.length
  | .v (.agg l)=>match ag with
    |true=>fM (off+n) l.length
    |false=>iu off l.length
  |_=>false
def B1(T:TypeId)(x i:D):Bool:=
 match i with
 | .v (.int _ n)=>match x with
   | .v (.str s)=>pH (dB P T) 1&&dK 0 n&&kU n s.size
   | .agg l=>match jC P T with
     |some (len,sz,true)=>dK 0 n&&kU n len&&fM (n.toNat*sz+sz) l.length
     |some (len,sz,false)=>dK 0 n&&kU n len&&iu (n.toNat*sz) l.length
     |none=>false
   | .v (.agg l)=>match jC P T with
     |some (len,sz,true)=>dK 0 n&&kU n len&&fM (n.toNat*sz+sz) l.length
     |some (len,sz,false)=>dK 0 n&&kU n len&&iu (n.toNat*sz) l.length
     |none=>false
   |_=>false
 |_=>false
def BW(T:TypeId)(x k:D):Bool:=
 match kL P T with
 |some (kd,e)=>match (bh P e).bind fun z=>eH (jI z),eH k with
  |some _,some kv=>match x with
   | .nilmap=>fM kd 2&&eB kd kv
   | .map nm=>match obj nm with
     |some (.map kT _)=>fM kd 2&&eB kd kv&&cY kT kd
     |_=>false
   |_=>false
  |_,_=>false
 |none=>false
def yL(T:TypeId)(x k d:D):Bool:=
 match kL P T,x,eH k,eH d with
 |some (kd,_),.map nm,some kv,some _=>match obj nm with
  |some (.map kT _)=>fM kd 2&&eB kd kv&&cY kT kd
  |_=>false
 |_,_,_,_=>false
def BR(c:D):Bool:=match c with
 | .v (.bool _)=>true
 |_=>false
def yK(x:D):Bool:=match x with
 | .v (.sl _)=>true
 | .nilsl=>true
 | .msl nm k=>match obj nm with
   |some (.arr _ l)=>cY k l.length
   |some (.farr _ l)=>cY k l.length
   |_=>false
 |_=>false
def B8(t:Name)(T1 T2:TypeId)(s x:D):Bool:=
 match cr P T1,cr P T2 with
 |some (e,sz,by_),some _=>match bh P e with
  |some z=>match s with
   | .nilsl=>yK obj x&&wm sz (aJ obj x).2&&cY z.cells.size sz&&fM ((aJ obj x).2.length*by_) 140737488355328&&fM (aJ obj x).2.length maxLen&&vd (obj (bj t))
   | .msl nm k=>match obj nm with
     |some (.arr s' l)=>yK obj x&&wm sz (aJ obj x).2&&cY z.cells.size sz&&fM ((l.length+(aJ obj x).2.length)*by_) 140737488355328&&
        fM (l.length+(aJ obj x).2.length) maxLen&&cY k l.length&&cY s' sz
     |_=>false
   |_=>false
  |none=>false
 |_,_=>false
variable {P obj}
theorem qR{a b:Nat}:fM a b=true↔a<=b:=⟨sE,Nat.ble_eq_true_of_le⟩
theorem xh{a b:Nat}:iu a b=true↔a<b:=⟨Aa,Nat.ble_eq_true_of_le⟩
theorem qS{a b:Nat}:cY a b=true↔a=b:=⟨kR,fun h=>by subst h;simp[cY]⟩
theorem Ab{a b:Nat}:cY a b=false↔a≠b:=by
 rw[<-Bool.not_eq_true,qS]
theorem M7{a b:Int}:dK a b=true↔a<=b:=⟨gZ,fun h=>by
 unfold dK
 split
 ·rfl
 ·rename_i n hn;have:=Int.negSucc_lt_zero n;omega⟩
theorem M6{a b:Int}:kU a b=true↔a<b:=⟨Yt,fun h=>by
 unfold kU
 split
 ·rfl
 ·rename_i n hn;have:=Int.negSucc_lt_zero n;omega⟩
theorem MY{n:Int}:sL n=true↔n=0:=⟨fun h=>(by unfold sL at h;split at h<;>first | rfl | cases h),fun h=>(by subst h;rfl)⟩
theorem Hk{T:TypeId}{x:D}(h:yM P obj T x=true):(jV P obj T x).ok:=by
 unfold yM at h
 unfold jV
 (repeat' split at h)<;>simp_all[qR,xh,qS,-List.getD_eq_getElem?_getD]
theorem Qr{T:TypeId}{f:Nat}{x:D}(h:B2 P obj T f x=true):(mi P obj T f x).ok:=by
 unfold B2 at h
 unfold mi
 split at h
 ·cases h
 ·simp only[Bool.and_eq_true,Bool.not_eq_true',Ab]at h
  obtain⟨h1,h⟩:=h
  (repeat' split at h)<;>simp_all[qR]
  exact qP h
theorem Qp{T:TypeId}{x i:D}(h:B0 P obj T x i=true):(mh P obj T x i).ok:=by
 unfold B0 at h
 unfold mh
 (repeat' split at h)<;>simp_all[qR,qS,M7,M6,-List.getD_eq_getElem?_getD]
theorem acz{op:BinOp}{T:TypeId}{x y:D}(h:Hp P op T x y=true):(oD P obj op T x y).ok:=by
 unfold Hp at h
 unfold oD
 split at h
 ·simp only
  unfold Qn at h
  unfold BZ
  cases op<;>simp only[Bool.and_eq_true,Bool.not_eq_true']at h |- <;>first
   |exact⟨MT h.1,Yj h.2⟩
   |exact MT h
   |exact gZ h
 ·simp only
  unfold Qe at h
  unfold yJ
  cases op<;>simp only at h |- <;>first | exact sE h | trivial | (cases h;done)
 ·simp only[Bool.and_eq_true]at h
  exact⟨Ym h.1,An h.2⟩
 ·cases h
theorem acv{op:BinOp}{T:TypeId}{x y:V}(h:Hl P op T x y=true):(jW P obj op T x y).ok:=by
 unfold Hl at h
 unfold jW
 split at h
 ·rename_i b hb
  simp only[Bool.and_eq_true,Bool.not_eq_true']at h
  rw[hb]
  exact⟨h.1,An h.2⟩
 ·cases h
theorem acu{op:BinOp}{T:TypeId}{x:D}(h:Hj P obj op T x=true):(qv P obj op T x).ok:=by
 unfold Hj at h
 unfold qv
 split at h
 ·simp only[Bool.and_eq_true]at h
  exact⟨qP h.1,An h.2⟩
 ·rename_i nm k
  simp only[Bool.and_eq_true]at h
  refine⟨?_,qP h.1.2,An h.2⟩
  have h1:=h.1.1
  split at h1
  ·rename_i o ho;rw[ho];exact qP h1
  ·cases h1
 ·cases h
theorem Qw{op:BinOp}{T:TypeId}{x y:D}{n:Bool}(h:B7 P obj op T x y n=true):(nz P obj op T x y n).ok:=by
 unfold B7 at h
 unfold nz
 cases n with
 |true=>exact acu h
 |false=>
  simp only at h |-
  split at h
  ·rename_i h1 h2
   simp only[h1,h2]
   exact acv h
  ·rename_i aF
   split
   ·rename_i h1 h2;exact(aF _ _ h1 h2).elim
   ·exact acz h
theorem Qd{op:UnOp}{x:D}(h:BO op x=true):(nj obj op x).ok:=by
 unfold BO at h
 unfold nj
 split at h<;>first | trivial | cases h
theorem Qu{s d:TypeId}{x:D}(h:B5 P s d x=true):(nu P obj s d x).ok:=by
 unfold B5 at h
 unfold nu
 (repeat' split at h)<;>simp_all
theorem Qs{x:D}{i:Nat}(h:B4 x i=true):(nq obj x i).ok:=by
 unfold B4 at h
 unfold nq
 split at h<;>simp_all[xh]
theorem Qi{x:D}(h:BS obj x=true):(lx obj x).ok:=by
 unfold BS at h
 unfold lx
 (repeat' split at h)<;>simp_all
 exact qP h
theorem Ho{t:Name}{x:D}(h:yO obj t x=true):(ny obj t x).ok:=by
 simp only[yO,Bool.and_eq_true]at h
 exact⟨z6 h.1,h.2⟩
theorem Qy{t:Name}{T:TypeId}(h:B9 P obj t T=true):(oE P obj t T).ok:=by
 unfold B9 at h
 unfold oE
 split at h
 ·rename_i z hz;rw[hz];exact Ho h
 ·cases h
theorem Qv{T:TypeId}{ps:List (Nat×D)}(h:B6 P T ps=true):(nx P obj T ps).ok:=by
 unfold B6 at h
 unfold nx
 (repeat' split at h)<;>simp_all
theorem Qf{T:TypeId}{x d:D}(h:BP P obj T x d=true):(lu P obj T x d).ok:=by
 unfold BP at h
 unfold lu
 (repeat' split at h)<;>simp_all[qR,xh,qS,Ab]
theorem Qk{t:Name}{T:TypeId}{r:Option D}(h:BV P obj t T r=true):(oC P obj t T r).ok:=by
 unfold BV at h
 unfold oC
 (repeat' split at h)<;>simp_all
 exact z6 h
theorem Qj{t:Name}{T:TypeId}{l c:D}(h:BU P obj t T l c=true):(oB P obj t T l c).ok:=by
 unfold BU at h
 unfold oB
 split at h
 ·rename_i e sz by_ k n k' n' hT
  rw[hT]
  simp only
  split at h
  ·rename_i zv hz
   simp only[Bool.and_eq_true,Bool.not_eq_true',Ab]at h
   obtain⟨⟨⟨⟨⟨⟨⟨⟨h1,h2⟩,h3⟩,h4⟩,h5⟩,h6⟩,h7⟩,h8⟩,h9⟩:=h
   rw[hz]
   exact⟨Int.le_antisymm (gZ h2) (gZ h1),gZ h3,gZ h4,gZ h5,kR h6,h7,h8,z6 h9⟩
  ·cases h
 ·cases h
theorem Qm{T:TypeId}{x:D}(h:BX P obj T x=true):(ly P obj T x).ok:=by
 unfold BX at h
 unfold ly
 (repeat' split at h)<;>simp_all
 exact qP h
theorem Qg{T:TypeId}{x:D}{lo hi mx:Option D}(h:BQ P obj T x lo hi mx=true):(kI P obj T x lo hi mx).ok:=by
 unfold BQ at h
 unfold kI
 split at h
 ·split at h
  ·split at h
   ·rename_i h1 h2 h3
    simp only[Bool.and_eq_true]at h
    simp only[h1,h2,h3]
    exact⟨gZ h.1.1.1,gZ h.1.1.2,gZ h.1.2,Cb h.2⟩
   ·cases h
  ·split at h
   ·rename_i h1 h2 h3
    simp only[Bool.and_eq_true]at h
    simp only[h1,h2,h3]
    exact⟨MY.1 h.1,MY.1 h.2⟩
   ·cases h
  ·split at h
   ·rename_i h1 h2 h3 h4
    simp only[Bool.and_eq_true]at h
    simp only[h1,h2,h3,h4]
    exact⟨kR h.1.1.1.1,gZ h.1.1.1.2,gZ h.1.1.2,gZ h.1.2,Cb h.2⟩
   ·rename_i h1 h2 h3 h4
    simp only[Bool.and_eq_true]at h
    simp only[h1,h2,h3,h4]
    exact⟨kR h.1.1.1.1,gZ h.1.1.1.2,gZ h.1.1.2,gZ h.1.2,Cb h.2⟩
   ·cases h
  ·split at h
   ·rename_i h1 h2 h3
    simp only[Bool.and_eq_true]at h
    simp only[h1,h2,h3]
    exact⟨gZ h.1.1,gZ h.1.2,gZ h.2⟩
   ·cases h
  ·cases h
 ·split at h
  ·rename_i h1 h2 h3
   split at h
   ·simp only[h2,h3]
   ·simp only[h2,h3]
   ·split at h
    ·rename_i o ho
     simp only[h2,h3,ho]
     exact qP h
    ·cases h
   ·cases h
  ·cases h
 ·cases h
theorem Qq{T:TypeId}{x:D}{f:Nat}(h:B3 P T x f=true):(np P obj T x f).ok:=by
 unfold B3 at h
 unfold np
 (repeat' split at h)<;>simp_all[qR,xh]
theorem Qo{T:TypeId}{x i:D}(h:B1 P T x i=true):(nl P obj T x i).ok:=by
 unfold B1 at h
 unfold nl
 (repeat' split at h)<;>simp_all[qR,xh,M7,M6]
 exact qP h.1.1
theorem Ql{T:TypeId}{x k:D}{c:Bool}(h:BW P obj T x k=true):(nk P obj T x k c).ok:=by
 unfold BW at h
 unfold nk
 (repeat' split at h)<;>simp_all[qR,qS]
theorem BT{T:TypeId}{x k d:D}(h:yL P obj T x k d=true):(kJ P obj T x k d).ok:=by
 unfold yL at h
 unfold kJ
 (repeat' split at h)<;>simp_all[qR,qS]
theorem Qh{c x y:D}(h:BR c=true):(jU obj c x y).ok:=by
 unfold BR at h
 unfold jU
 split at h<;>first | trivial | cases h
theorem Hi{x:D}(h:yK obj x=true):(aJ obj x).1:=by
 unfold yK at h
 unfold aJ
 (repeat' split at h)<;>simp_all[qS]
theorem Qx{t:Name}{T1 T2:TypeId}{s x:D}(h:B8 P obj t T1 T2 s x=true):(ey P obj t T1 T2 s x).ok:=by
 unfold B8 at h
 unfold ey
 split at h
 ·rename_i e sz by_ p h1 h2
  split at h
  ·rename_i z hz
   split at h
   ·simp only[Bool.and_eq_true]at h
    simp only[h1,h2,hz]
    exact⟨Hi h.1.1.1.1.1,Cc h.1.1.1.1.2,kR h.1.1.1.2,sE h.1.1.2,sE h.1.2,z6 h.2⟩
   ·split at h
    ·rename_i ho
     simp only[Bool.and_eq_true]at h
     simp only[h1,h2,hz,ho]
     exact⟨Hi h.1.1.1.1.1.1,Cc h.1.1.1.1.1.2,kR h.1.1.1.1.2,sE h.1.1.1.2,sE h.1.1.2,kR h.1.2,kR h.2⟩
    ·cases h
   ·cases h
  ·cases h
 ·cases h
end
def qn(f:(Name->Option O)->D->Bool)(g:(Name->Option O)->D->FR)(obj:Name->Option O):List D->Bool
 |[]=>true
 |d::r=>f obj d&&qn f g (g obj d).obj r
def lk:Nat->(Name->Option O)->D->Bool
 | 0,obj,d=>match d with
   | .v _=>true
   | .nilsl=>true
   |_=>false
 |n+1,obj,d=>match d with
  | .v _=>true
  | .nilsl=>true
  | .msl nm k=>match obj nm with
    |some (.arr _ l)=>decide (k=l.length)
    |some (.farr _ l)=>decide (k=l.length)
    |_=>false
  | .ref nm _=>match obj nm with
    |some (.box cs)=>qn (lk n) (aK n) obj cs&&!cJ (eP (fp n obj) cs) nm
    |some (.fbox _)=>true
    |_=>false
  | .agg l=>qn (lk n) (aK n) obj l
  | .tup l=>qn (lk n) (aK n) obj l
  | .clo _ f c=>qn (lk n) (aK n) obj f&&qn (lk n) (aK n) (bz (aK n) obj f).obj c
  |_=>false
theorem Gq{n:Nat}(ih:∀ obj d,lk n obj d=true->(aK n obj d).ok):∀ (l:List D) (obj:Name->Option O),qn (lk n) (aK n) obj l=true->(bz (aK n) obj l).ok
 |[],_,_=>trivial
 |d::r,obj,h=>by
  simp only[qn,Bool.and_eq_true]at h
  exact⟨ih obj d h.1,Gq ih r _ h.2⟩
theorem OE:∀ (n:Nat) (obj:Name->Option O) (d:D),lk n obj d=true->(aK n obj d).ok
 | 0,obj,d,h=>by cases d<;>first | trivial | (simp[lk]at h)
 |n+1,obj,d,h=>by
  have ih:=Gq (OE n)
  cases d with
  |v x=>trivial
  |nilsl=>trivial
  |msl nm k=>
   simp only[lk]at h
   unfold aK
   rcases ho:obj nm with _ | o
   ·simp[ho]at h
   ·cases o<;>simp[ho]at h |- <;>exact h
  |ref nm off=>
   simp only[lk]at h
   rcases ho:obj nm with _ | o
   ·simp[ho]at h
   ·cases o with
    |box cs=>
     simp only[ho,Bool.and_eq_true,Bool.not_eq_true']at h
     simp only[aK,ho]
     refine⟨ih cs obj h.1,?_⟩
     have :=(yp (Bj n) cs obj obj (eP (fp n obj) cs) (fun _ hn=>hn) (fun _ _=>rfl)).2.frame nm (fun hn=>by rw[gv.2 hn]at h;cases h.2)
     rw[this,ho]
    |fbox cs=>simp only[aK,ho]
    |_=>simp[ho]at h
  |agg l=>exact ih l obj h
  |tup l=>exact ih l obj h
  |clo fn f c=>
   simp only[lk,Bool.and_eq_true]at h
   exact⟨ih f obj h.1,ih c _ h.2⟩
  |_=>simp[lk]at h
def isNil{α:Type}:List α->Bool
 |[]=>true
 |_=>false
theorem Yk{α:Type}{l:List α}:isNil l=true↔l=[]:=by cases l<;>simp[isNil]
def Ak:Nat->List Nat->Bool
 |_,[]=>true
 |k,x::r=>cY x k&&Ak (k+1) r
theorem MZ:∀ {k:Nat} {l:List Nat},Ak k l=true->l=List.range' k l.length
 |k,[],_=>rfl
 |k,x::r,h=>by
  simp only[Ak,Bool.and_eq_true]at h
  rw[kR h.1,List.length_cons,List.range'_succ]
  congr 1
  exact MZ h.2
def Hd(P:Program)(obj:Name->Option O)(T:TypeId)(n:Nat)(parts:List (Nat×D)):Bool:=
 match cr P T with
 |some (e,sz,_)=>match cY n 0&&isNil parts with
  |true=>(bh P e).isSome
  |false=>qn (lk 4) (aK 4) obj (parts.map fun p=>p.2)&&Ak 0 (parts.map fun p=>p.1)&&cY parts.length n&&wm sz (bz (aK 4) obj (parts.map fun p=>p.2)).xs&&
     fM (n*sz) 16777216&&!cY sz 0&&(bh P e).isSome&&iu 0 n
 |none=>false
theorem aci{P:Program}{obj:Name->Option O}{T:TypeId}{n:Nat}{parts:List (Nat×D)}(h:Hd P obj T n parts=true):(pg P obj T n parts).ok:=by
 unfold Hd at h
 unfold pg
 split at h
 ·rename_i e sz by_ hT
  rw[hT]
  simp only
  split at h
  ·rename_i hc
   simp only[Bool.and_eq_true,qS,Yk]at hc
   rw[if_pos hc];exact h
  ·rename_i hc
   have iA:¬ (n=0/\parts=[]):=by
    intro ⟨a,b⟩
    subst a;subst b
    cases hc
   rw[if_neg iA]
   simp only[Bool.and_eq_true,Bool.not_eq_true',Ab]at h
   obtain⟨⟨⟨⟨⟨⟨⟨h1,h2⟩,ql⟩,h3⟩,h4⟩,h5⟩,h6⟩,h7⟩:=h
   refine⟨?_,Gq (OE 4) _ _ h1,Cc h3,sE h4,h5,h6,Aa h7⟩
   have :=MZ h2
   rw[List.length_map,kR ql,<-List.range_eq_range']at this
   exact this
 ·cases h
def Hb(P:Program)(σ:S)(t:Name)(b:Builtin)(ts:List TypeId)(args:List D):Bool:=
 match b,ts,args with
 | .len,[T],[x]=>BX P σ.obj T x
 | .append,[T1,T2],[s,x]=>B8 P σ.obj t T1 T2 s x
 | .min,_,[.v (.int _ _),.v (.int _ _)]=>true
 | .max,_,[.v (.int _ _),.v (.int _ _)]=>true
 |_,_,_=>false
def J7(P:Program)(σ:S)(t:Name):Op->Bool
 | .move _=>true
 | .assign _=>true
 | .pick c _ _=>BR (aw σ c)
 | .alloc T=>B9 P σ.obj t T
 | .box _ x=>yO σ.obj t (aw σ x)
 | .build T ps=>B6 P T (ps.toList.map fun p=>(p.1,aw σ p.2))
 | .buildSlice T n ps=>Hd P σ.obj T n (ps.toList.map fun p=>(p.1,aw σ p.2))
 | .load T x=>yM P σ.obj T (aw σ x)
 | .store T x d=>BP P σ.obj T (aw σ x) (aw σ d)
 | .nilCheck x=>BS σ.obj (aw σ x)
 | .binOp op T x y _=>B7 P σ.obj op T (aw σ x) (aw σ y) (Al y)
 | .unOp op _ x=>BO op (aw σ x)
 | .convert s d x=>B5 P s d (aw σ x)
 | .makeFunc _ _ _=>true
 | .makeMap T r=>BV P σ.obj t T (r.map (aw σ))
 | .makeSlice T l c=>BU P σ.obj t T (aw σ l) (aw σ c)
 | .slice T x lo hi mx=>BQ P σ.obj T (aw σ x) (lo.map (aw σ)) (hi.map (aw σ)) (mx.map (aw σ))
 | .fieldAddr T x f=>B2 P σ.obj T f (aw σ x)
 | .field T x f=>B3 P T (aw σ x) f
 | .indexAddr T x i=>B0 P σ.obj T (aw σ x) (aw σ i)
 | .index T x i=>B1 P T (aw σ x) (aw σ i)
 | .lookup T x i _=>BW P σ.obj T (aw σ x) (aw σ i)
 | .mapUpdate T x k d=>yL P σ.obj T (aw σ x) (aw σ k) (aw σ d)
 | .insert T x k d=>yL P σ.obj T (aw σ x) (aw σ k) (aw σ d)
 | .extract x i=>B4 (aw σ x) i
 | .call ⟨.builtin b,args,ts⟩=>Hb P σ t b ts.toList (args.toList.map (aw σ))
 |_=>false
theorem ach{P:Program}{σ:S}{t:Name}{b:Builtin}{ts:List TypeId}{args:List D}(h:Hb P σ t b ts args=true):(nw P σ t b ts args).ok:=by
 unfold Hb at h
 split at h
 ·exact Qm h
 ·exact Qx h
 ·trivial
 ·trivial
 ·cases h
theorem U8{P:Program}{Γ:FuncId->Option Spec}{σ:S}{t:Name}{op:Op}(h:J7 P σ t op=true):(bf P Γ σ t op).ok:=by
 cases op with
 |call c=>
  obtain⟨callee,args,ts⟩:=c
  cases callee with
  |value f=>cases h
  |builtin b=>exact ach h
  |invoke=>cases h
 |move=>trivial
 |assign=>trivial
 |makeFunc=>trivial
 |pick=>exact Qh h
 |alloc=>exact Qy h
 |box=>exact Ho h
 |build=>exact Qv h
 |buildSlice=>exact aci h
 |load=>exact Hk h
 |store=>exact Qf h
 |nilCheck=>exact Qi h
 |binOp=>exact Qw h
 |unOp=>exact Qd h
 |convert=>exact Qu h
 |makeMap=>exact Qk h
 |makeSlice=>exact Qj h
 |slice=>exact Qg h
 |fieldAddr=>exact Qr h
 |field=>exact Qq h
 |indexAddr=>exact Qp h
 |index=>exact Qo h
 |lookup=>exact Ql h
 |mapUpdate=>exact BT h
 |insert=>exact BT h
 |extract=>exact Qs h
 |_=>cases h
def Ap(o:Oper):Option (TypeId×Operand×Operand×Nat):=
 match o.op with
 | .slice T x (some lo) none none=>match o.guard,o.dst with
   |none,some c=>some (T,x,lo,c)
   |_,_=>none
 |_=>none
def Ao(c:Nat)(o:Oper):Bool:=
 match o.op with
 | .call ⟨.builtin .clear,args,ts⟩=>match args.toList,ts.toList,o.guard,o.dst with
   |[.tmp c'],[_],none,none=>Nat.beq c' c
   |_,_,_,_=>false
 |_=>false
def oz(o:Oper):TypeId:=match o.op with
 | .call ⟨.builtin .clear,_,ts⟩=>ts.getD 0 0
 |_=>0
def mj(P:Program)(obj:Name->Option O)(T T2:TypeId)(x lo:D):R:=
 match x,lo,cr P T,cr P T2 with
 | .msl nm k,.v (.int _ i),some (e,sz,_),some (e2,_,_)=>match obj nm,(bh P e).bind fun z=>eH (jI z)with
   |some (.arr s l),some zv=>⟨k=l.length/\0<=i/\i.toNat<l.length/\s=sz/\zv.cells.length=sz/\zv.okc=true/\e2=e/\0<sz,.any,upd obj nm (some (.arr sz (l.take i.toNat++List.replicate (l.length-i.toNat) zv)))⟩
   |_,_=>.bad obj
 |_,_,_,_=>.bad obj
def rR(P:Program)(σ:S)(T:TypeId)(x lo:Operand)(c:Nat)(o2:Oper):S:=
 { σ with env:=upd σ.env c ⟨true,.any⟩,obj:=(mj P σ.obj T (oz o2) (aw σ x) (aw σ lo)).obj }
inductive nB (P:Program) (Γ:FuncId->Option Spec) (ops:Array Oper):List Oper->S->(S->Prop)->Prop
 |nil {σ:S} {K:S->Prop}:K σ->nB P Γ ops [] σ K
 |step {o:Oper} {r:List Oper} {σ:S} {K:S->Prop}:lJ P Γ ops σ o->nB P Γ ops r (bx P Γ ops σ o) K->nB P Γ ops (o::r) σ K
 |cut {o o2:Oper} {r:List Oper} {σ:S} {K:S->Prop} {T:TypeId} {x lo:Operand} {c:Nat}:Ap o=some (T,x,lo,c)->Ao c o2=true->c<σ.nt->cQ σ x=true->cQ σ lo=true->
    (mj P σ.obj T (oz o2) (aw σ x) (aw σ lo)).ok->nB P Γ ops r (rR P σ T x lo c o2) K->nB P Γ ops (o::o2::r) σ K
theorem Jj{m:Mem}{zv:V}{z:Value}{sz:Nat}(h:aO m zv z)(hs:zv.cells.length=sz)(cT:0<sz)(n k:Nat)(hk:k<n*sz):
 (Builtin.zeroCells z.cells n)[k]?=z.cells[k % sz]?:=by
 have hz:z.cells.size=sz:=by rw[<-h.cells];exact hs
 have hm:=Nat.mod_lt k cT
 unfold Builtin.zeroCells
 rw[hz]
 simp only[Array.getElem?_map,Array.getElem?_range,hk,if_true,Option.map_some]
 rw[Array.getElem?_eq_getElem (by omega),getElem!_pos z.cells (k % sz) (by omega)]
theorem G2{l:List V}{zv:V}{i q:Nat}(hi:i<=l.length)(hq:q<(l.take i++List.replicate (l.length-i) zv).length):
 (q<i/\∃ h:q<l.length,(l.take i++List.replicate (l.length-i) zv)[q]=l[q])\/(i<=q/\q<l.length/\(l.take i++List.replicate (l.length-i) zv)[q]=zv):=by
 have hlen:(l.take i).length=i:=by simp;omega
 have bL:=hq
 simp only[List.length_append,List.length_replicate,hlen]at bL
 by_cases h1:q<i
 ·refine .inl ⟨h1,by omega,?_⟩
  rw[List.getElem_append_left (by omega),List.getElem_take]
 ·refine .inr ⟨by omega,by omega,?_⟩
  rw[List.getElem_append_right (by omega),List.getElem_replicate]
theorem Kv{K a b:Nat}(h:a<b):a*K+K<=b*K:=by
 have :=Nat.mul_le_mul_right K (show a+1<=b by omega)
 rwa [Nat.add_mul,Nat.one_mul]at this
set_option maxHeartbeats 1000000 in
theorem abB{P:Program}{G:Ghost}{φ:Name->Loc}{m:Mem}{σ:S}{a:Act}{w:World}(hC:aQ G φ m σ a w)
 {ops:Array Oper} {i:Nat} {o o2:Oper} (hi:ops[i]?=some o) (lX:ops[i+1]?=some o2) {T:TypeId} {x lo:Operand} {c:Nat} (hA:Ap o=some (T,x,lo,c)) (hB:Ao c o2=true) (hc:c<σ.nt)
 (hx:cQ σ x=true) (fc:cQ σ lo=true) (aa:(mj P σ.obj T (oz o2) (aw σ x) (aw σ lo)).ok) {K:Act->World->Prop} {Q:Exit->Act->World->Prop}
 (hK:∀ a' w' φ' m',aQ G φ' m' (rR P σ T x lo c o2) a' w'->K a' w'):
 wpOpIn (gj G.rd) 0 P ops Q i (fun a1 w1=>wpOpIn (gj G.rd) 0 P ops Q (i+1) K a1 w1) a w:=by
 unfold Ap at hA
 split at hA
 case h_2=>cases hA
 rename_i T0 x0 D4 Nw
 split at hA
 case h_2=>cases hA
 rename_i hg hd
 simp only[Option.some.injEq,Prod.mk.injEq]at hA
 obtain⟨rfl,rfl,rfl,rfl⟩:=hA
 unfold Ao at hB
 split at hB
 case h_2=>cases hB
 rename_i args ts E4
 split at hB
 case h_2=>cases hB
 rename_i c' T2 mU sU dP om
 have hcc:=Nat.eq_of_beq_eq_true hB
 subst hcc
 have ov:oz o2=T2:=by
  unfold oz
  rw[E4]
  simp only
  have :ts= #[T2]:=by rw[<-Array.toArray_toList (xs:=ts),sU]
  rw[this];rfl
 have aak:args= #[.tmp c']:=by rw[<-Array.toArray_toList (xs:=args),mU]
 have YS:ts= #[T2]:=by rw[<-Array.toArray_toList (xs:=ts),sU]
 rw[ov]at aa
 have Oc:rR P σ T0 x0 D4 c' o2={ σ with env:=upd σ.env c' ⟨true,.any⟩,obj:=(mj P σ.obj T0 T2 (aw σ x0) (aw σ D4)).obj }:=by unfold rR;rw[ov]
 rw[Oc]at hK
 clear Oc hB mU sU ov
 have rx:=cI hC hx
 have rl:=cI hC fc
 unfold mj at aa hK
 split at aa
 case h_2=>exact aa.elim
 rename_i nm k kd ii e sz by_ e2 Iw P3 A5 rG Ol Oj
 split at aa
 case h_2=>exact aa.elim
 rename_i s l zv aB sP
 obtain⟨h1,h2,h3,h4,h5,h6,h7,cT⟩:=aa
 subst h7
 subst h4
 obtain⟨n,rfl⟩:∃ n:Nat,ii=(n:Int):=⟨ii.toNat,by omega⟩
 simp only[A5,rG,Ol,Oj,aB,sP,Int.toNat_natCast]at hK h3
 obtain⟨hu,it,gy,NR,_⟩:=j6 Ol
 obtain⟨fQ,_⟩:=j6 Oj
 obtain⟨z,hz,Yx⟩:=Option.bind_eq_some_iff.1 sP
 have gK:aO m zv z:=pb (u2 (φ:=φ) (obj:=σ.obj) (m:=m) z) Yx
 rw[A5]at rx
 rw[rG]at rl
 cases rl with
 |v _ _ rl=>
 cases kZ:a.eval D4 with
 |int kd2 n2=>
  rw[kZ]at rl
  cases rl
  cases rx with
  |msl _ _ _ hh _=>
  obtain⟨oo,nn,dF,hlen,hk,dt⟩:=hh
  rw[aB]at dF;cases dF
  simp only[O.len?,Option.some.injEq]at hlen
  subst hlen
  subst h1
  have hv:=dt rfl
  rcases hC.objs nm _ aB with⟨_,p7⟩ | ⟨g0,g1,g2,g3,g4,us,T',f,g5,g6,g7,g8⟩
  ·subst p7;simp at h3
  have sT:a.eval x0=.slice (some ⟨(φ nm).blk,(φ nm).off,none⟩) l.length (φ nm).cap:=by rw[hv];simp only[Loc.slice,g0];rfl
  have ot:(φ nm).blk<w.heap.size:=(Array.getElem?_eq_some_iff.1 g5).1
  have iU:(Instr.sliceAt T0 (.slice (some ⟨(φ nm).blk,(φ nm).off,none⟩) l.length (φ nm).cap) (some (.int kd n)) none none).run P w=
      .ok (.slice (some ⟨(φ nm).blk,(φ nm).off+n*s,none⟩) (l.length-n) ((φ nm).cap-n)) w:=by
   have hb:=zB (P:=P) (φ:=φ) (obj:=σ.obj) (m:=m) (lo:=some (.v (.int kd n))) (hi:=none) (ulo:=some (.int kd n)) (uhi:=none) (len:=l.length) (cap:=(φ nm).cap) (n:=0) (i:=n) (j:=l.length) true (.v _ _ (.int _ _)) trivial rfl rfl (by omega) (by omega) (by omega) g1 w
   rw[zx hu]
   have aF:¬ ((φ nm).cap=n):=by omega
   simp[Instr.slice,run_underlying hu,hb,sizeOf,typeInfo,gy,NR,aF,pc]
  have bZ:∀ cc,o.op≠ .defer cc:=fun cc h=>by rw[Nw]at h;cases h
  have Zl:∀ cc,o2.op≠ .defer cc:=fun cc h=>by rw[E4]at h;cases h
  have lT:Region.wanted o (yielded ops a.tmps)=true:=by unfold Region.wanted;rw[hg]
  have cZ:(execOp a.eval o).run P w=.ok (.value (.slice (some ⟨(φ nm).blk,(φ nm).off+n*s,none⟩) (l.length-n) ((φ nm).cap-n))) w:=by
   unfold execOp
   rw[Nw]
   simp only[sT,Option.map_some,Option.map_none,kZ,Sem.run_bind,iU,Result.andThen_ok,Sem.run_pure]
  have key:∀ KK:Act->World->Prop,KK (a.put (some c') (.slice (some ⟨(φ nm).blk,(φ nm).off+n*s,none⟩) (l.length-n) ((φ nm).cap-n))) w->wpOpIn (gj G.rd) 0 P ops Q i KK a w:=by
   intro KK Ox
   unfold wpOpIn
   simp only[hi,lT,if_true]
   refine⟨fun _ _=>trivial,?_⟩
   rw[Oper.semAt_eq _ _ _ bZ,cZ]
   rw[<-hd]at Ox
   exact Ox
  refine key _ ?_
  have iD:=hC.put (t:=c') (e:=⟨true,.any⟩) (v:=.slice (some ⟨(φ nm).blk,(φ nm).off+n*s,none⟩) (l.length-n) ((φ nm).cap-n)) hc (by unfold cL;simp;exact .any _)
  have N7:(a.put (some c') (.slice (some ⟨(φ nm).blk,(φ nm).off+n*s,none⟩) (l.length-n) ((φ nm).cap-n))).eval (.tmp c')=.slice (some ⟨(φ nm).blk,(φ nm).off+n*s,none⟩) (l.length-n) ((φ nm).cap-n):=by
   have hs:c'<a.tmps.size:=by rw[hC.size];exact hc
   simp[Act.put,Act.eval,Array.getD,hs]
  generalize hga:a.put (some c') (.slice (some ⟨(φ nm).blk,(φ nm).off+n*s,none⟩) (l.length-n) ((φ nm).cap-n))=a1 at iD N7 |-
  have jP:n*s<=l.length*s:=Nat.mul_le_mul_right _ (by omega)
  have jR:l.length*s<=(φ nm).cap*s:=Nat.mul_le_mul_right _ g1
  have sR:(Builtin.zeroCells z.cells (l.length-n)).toList.length=l.length*s-n*s:=by
   have EF:z.cells.size=s:=by rw[<-gK.cells];exact h5
   simp[Builtin.zeroCells,EF,Nat.sub_mul]
  obtain⟨jA,k1,k2,k3⟩:=wQ P (φ nm).blk ((φ nm).off+n*s) T' f g6 (Builtin.zeroCells z.cells (l.length-n)).toList 0 us w g5 (by rw[sR];omega)
   (fun v hv=>by
     obtain⟨k,hk,rfl⟩:=List.getElem_of_mem hv
     rw[sR,<-Nat.sub_mul]at hk
     have h0:=Jj gK h5 cT (l.length-n) k hk
     have NI:k % s<z.cells.size:=by rw[<-gK.cells,h5];exact Nat.mod_lt _ cT
     rw[Array.getElem?_eq_getElem NI]at h0
     have h1:(Builtin.zeroCells z.cells (l.length-n)).toList[k]=z.cells[k % s]:=by
      have :=h0
      rw[<-Array.getElem?_toList]at this
      exact(List.getElem?_eq_some_iff.1 this).2
     rw[h1]
     have tj:k % s<zv.cells.length:=by rw[h5];exact Nat.mod_lt _ cT
     exact J9 ((gK.cell (k % s) tj NI).one (gK.ones h6 _ (List.getElem_mem _))))
  simp only[Nat.add_zero]at k2
  have EJ:Region.wanted o2 (yielded ops a1.tmps)=true:=by unfold Region.wanted;rw[dP]
  show wpOpIn (gj G.rd) 0 P ops Q (i+1) K a1 w
  unfold wpOpIn
  simp only[lX,EJ,if_true]
  refine⟨fun _ _=>trivial,?_⟩
  rw[Oper.semAt_eq _ _ _ Zl]
  have YY:(execOp a1.eval o2).run P w=.ok (.value (.tuple #[])) (cV w (φ nm).blk (.cells jA T' f)):=by
   have aF:l.length-n≠0:=by omega
   unfold execOp
   rw[E4,aak,YS]
   simp only[resolve,invoke,builtin,Sem.run_bind,Sem.run_pure,Result.andThen_ok,List.map_toArray,List.map_cons,List.map_nil,N7]
   have YR:Sem.run P (underlying T2) w=.ok (TypeDesc.slice e2) w:=run_underlying fQ w
   have cl:(Builtin.clear_ #[T2] o2.type #[.slice (some ⟨(φ nm).blk,(φ nm).off+n*s,none⟩) (l.length-n) ((φ nm).cap-n)]).run P w=.ok (.tuple #[]) (cV w (φ nm).blk (.cells jA T' f)):=by
    obtain⟨q,hq⟩:∃ q,l.length-n=q+1:=⟨l.length-n-1,by omega⟩
    rw[hq]at k3 |-
    simp[Builtin.clear_,YR,wP hz,k3]
   simp only[cl,Result.andThen_ok]
  rw[YY]
  have xW:(l.take n++List.replicate (l.length-n) zv).length=l.length:=by simp;omega
  have bC:=Ext.same (φ:=φ) (o':=.arr s (l.take n++List.replicate (l.length-n) zv)) aB (by simp only[O.len?,xW]) rfl
  have ZY:=iD.chg (w':=cV w (φ nm).blk (.cells jA T' f)) nm (.arr s (l.take n++List.replicate (l.length-n) zv)) (φ nm) bC ⟨rfl,rfl,rfl,by simp[cV]⟩
   (fun b hb hn=>qy (by rcases hn with h | h; · rw[g0]at h;cases h
                        ·exact h))
   (fun _=>.inr ⟨⟨_,aB,rfl,g0⟩,rfl⟩) (by
     refine .inr ⟨g0,by rw[xW];exact g1,g2,fun q hq=>?_,fun q hq=>?_,jA,T',f,sg ot,g6,by rw[k1];exact g7,fun q j hq hj=>?_⟩
     ·rcases G2 (by omega) hq with⟨_,bL,e3⟩ | ⟨_,_,e3⟩<;>rw[e3]
      ·exact g3 q bL
      ·exact h5
     ·rcases G2 (by omega) hq with⟨_,bL,e3⟩ | ⟨_,_,e3⟩<;>rw[e3]
      ·exact g4 q bL
      ·exact gK.ones h6
     ·rw[k2,sR]
      rcases G2 (by omega) hq with⟨jm,bL,e3⟩ | ⟨jm,bL,e3⟩
      ·simp only[e3]at hj |-
       have gO:j<s:=by rw[<-g3 q bL];exact hj
       have hm:=Kv (K:=s) jm
       rw[if_neg (by omega)]
       exact g8 q j bL hj
      ·simp only[e3]at hj |-
       have gO:j<s:=by rw[<-h5];exact hj
       have hm:=Kv (K:=s) bL
       have iV:n*s<=q*s:=Nat.mul_le_mul_right _ jm
       rw[if_pos (by omega)]
       refine⟨z.cells[j]'(by rw[<-gK.cells,h5];exact gO),?_,gK.cell j hj _⟩
       rw[show (φ nm).off+q*s+j-((φ nm).off+n*s)=(q-n)*s+j by rw[Nat.sub_mul];omega,Array.getElem?_toList]
       have ab:(q-n)*s+j<(l.length-n)*s:=by rw[Nat.sub_mul,Nat.sub_mul];omega
       rw[Jj gK h5 cT _ _ ab]
       have :((q-n)*s+j) % s=j:=by rw[Nat.mul_comm,Nat.mul_add_mod,Nat.mod_eq_of_lt gO]
       rw[this,Array.getElem?_eq_getElem])
  have ld:=hK _ _ _ m ZY
  show K (a1.put o2.dst (.tuple #[])) _
  rw[om]
  exact ld
 |_=>rw[kZ]at rl;cases rl
theorem Uk{P:Program}{Γ:FuncId->Option Spec}(hΓ:∀ f s,Γ f=some s->aL P f s){G:Ghost}{ops:Array Oper}{Q:Exit->Act->World->Prop}{K:S->Prop}{l:List Oper}{σ:S}(hr:nB P Γ ops l σ K):
 ∀ (k:Nat) {φ:Name->Loc} {m:Mem} {a:Act} {w:World},k+l.length=ops.size->ops.toList.drop k=l->aQ G φ m σ a w->
   (∀ a' w' φ' m' σ',aQ G φ' m' σ' a' w'->K σ'->Q .normal a' w')->wpOpsIn (gj G.rd) 0 P ops Q (List.range' k l.length) a w:=by
 have tr:∀ (k:Nat) (o:Oper) (r:List Oper),ops.toList.drop k=o::r->ops[k]?=some o/\ops.toList.drop (k+1)=r:=by
  intro k o r h
  have h0:(ops.toList.drop k)[0]?=some o:=by rw[h];rfl
  rw[List.getElem?_drop,Nat.add_zero,Array.getElem?_toList]at h0
  refine⟨h0,?_⟩
  have h1:(ops.toList.drop k).drop 1=r:=by rw[h];rfl
  rw[List.drop_drop]at h1
  exact h1
 induction hr with
 |nil hk=>exact fun k φ m a w _ _ hC hQ=>hQ _ _ φ m _ hC hk
 |step h1 _ ih=>
  intro k φ m a w hs hd hC hQ
  obtain⟨hi,kz⟩:=tr k _ _ hd
  rw[List.length_cons]at hs |-
  rw[List.range'_succ,wpOpsIn_cons]
  exact CF hΓ hC hi h1 fun a' w' φ' m' cO=>ih (k+1) (by omega) kz cO hQ
 |cut hA hB hc hx fc aa _ ih=>
  intro k φ m a w hs hd hC hQ
  obtain⟨hi,kz⟩:=tr k _ _ hd
  obtain⟨lX,om⟩:=tr (k+1) _ _ kz
  rw[List.length_cons,List.length_cons]at hs |-
  rw[List.range'_succ,wpOpsIn_cons,List.range'_succ]
  rename_i o1 o2 r' _ _ _ _ _ _ _
  have :=abB (ops:=ops) (Q:=Q) hC hi lX hA hB hc hx fc aa (K:=fun a' w'=>wpOpsIn (gj G.rd) 0 P ops Q (List.range' (k+1+1) r'.length) a' w') fun a' w' φ' m' cO=>ih (k+2) (by omega) om cO hQ
  have e:wpOpsIn (gj G.rd) 0 P ops Q ((k+1)::List.range' (k+1+1) r'.length)=fun a1 w1=>wpOpIn (gj G.rd) 0 P ops Q (k+1) (fun a' w'=>wpOpsIn (gj G.rd) 0 P ops Q (List.range' (k+1+1) r'.length) a' w') a1 w1:=by
   funext a1 w1
   rw[wpOpsIn_cons]
  rw[e]
  exact this
theorem PE{P:Program}{Γ:FuncId->Option Spec}(hΓ:∀ f s,Γ f=some s->aL P f s){id:Nat}{ops:Array Oper}{σ:S}{K:Exit->S->Prop}
 (h:nB P Γ ops ops.toList σ (K .normal)):CW P (.region id ops false) σ K:=by
 intro G φ m a w hC
 refine wpIn_region ?_
 rw[List.range_eq_range']
 have :=Uk hΓ h 0 (Q:=fun e a' w'=>∃ φ' m' σ',aQ G φ' m' σ' a' w'/\K e σ') (by simp) (by simp) hC fun a' w' φ' m' σ' cO hK=>⟨φ',m',σ',cO,hK⟩
 simpa using this
def Hm(P:Program)(obj:Name->Option O)(T T2:TypeId)(x lo:D):Bool:=
 match x,lo,cr P T,cr P T2 with
 | .msl nm k,.v (.int _ i),some (e,sz,_),some (e2,_,_)=>match obj nm,(bh P e).bind fun z=>eH (jI z)with
   |some (.arr s l),some zv=>cY k l.length&&dK 0 i&&iu i.toNat l.length&&cY s sz&&cY zv.cells.length sz&&zv.okc&&cY e2 e&&iu 0 sz
   |_,_=>false
 |_,_,_,_=>false
theorem acx{P:Program}{obj:Name->Option O}{T T2:TypeId}{x lo:D}(h:Hm P obj T T2 x lo=true):(mj P obj T T2 x lo).ok:=by
 unfold Hm at h
 unfold mj
 split at h
 ·split at h
  ·simp only[Bool.and_eq_true]at h
   obtain⟨⟨⟨⟨⟨⟨⟨h1,h2⟩,h3⟩,h4⟩,h5⟩,h6⟩,h7⟩,h8⟩:=h
   exact⟨kR h1,gZ h2,Aa h3,kR h4,kR h5,h6,kR h7,Aa h8⟩
  ·cases h
 ·cases h
theorem ac7{P:Program}{obj:Name->Option O}{T T2:TypeId}{x lo:D}{nm:Name}(h:nm∉aZ x):(mj P obj T T2 x lo).obj nm=obj nm:=by
 unfold mj
 split
 ·split
  ·simp only[aZ,List.mem_singleton]at h
   exact aY _ _ _ h
  ·rfl
 ·rfl
end Go.Eng
