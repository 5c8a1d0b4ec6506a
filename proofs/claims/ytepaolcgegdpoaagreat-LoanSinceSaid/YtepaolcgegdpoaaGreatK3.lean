import Derived.Test.YtepaolcgegdpoaaGreatK2
/- Texts Eng19 to EngK. -/
set_option linter.all false
namespace Go.Eng
open Go
section
variable {P:Program} {Γ:FuncId->Option Spec} {ops:Array Oper}
structure rh where
 anc:List Nat
 past:pz
def dD:Name->Name->Bool
 |[],[]=>true
 |x::r,y::s=>Nat.beq x y&&dD r s
 |_,_=>false
theorem fg:∀ {a b:Name},dD a b=true↔a=b
 |[],[]=>by simp[dD]
 |[],_::_=>by simp[dD]
 |_::_,[]=>by simp[dD]
 |x::r,y::s=>by
  simp only[dD,Bool.and_eq_true,Nat.beq_eq,List.cons.injEq,fg]
def sf:List Name->Name->Bool
 |[],_=>false
 |x::r,nm=>dD x nm||sf r nm
theorem F4:∀ {l:List Name} {nm:Name},sf l nm=true↔nm∈l
 |[],nm=>by simp[sf]
 |x::r,nm=>by
  simp only[sf,Bool.or_eq_true,fg,List.mem_cons,F4]
  exact⟨fun h=>h.imp Eq.symm id,fun h=>h.imp Eq.symm id⟩
def je:List Nat->Nat->Bool
 |[],_=>false
 |x::r,n=>Nat.beq x n||je r n
theorem F5:∀ {l:List Nat} {n:Nat},je l n=true↔n∈l
 |[],n=>by simp[je]
 |x::r,n=>by
  simp only[je,Bool.or_eq_true,Nat.beq_eq,List.mem_cons,F5]
  exact⟨fun h=>h.imp Eq.symm id,fun h=>h.imp Eq.symm id⟩
def sM:List Name->List Name->Bool
 |[],_=>true
 |x::r,b=>!sf b x&&sM r b
theorem CX:∀ {a b:List Name},sM a b=true->vJ a b
 |[],_,_=>fun nm h=>by cases h
 |x::r,b,h=>by
  simp only[sM,Bool.and_eq_true,Bool.not_eq_true']at h
  intro nm ha hb
  rcases List.mem_cons.1 ha with rfl | ha
  ·rw[F4.2 hb]at h;cases h.1
  ·exact CX h.2 nm ha hb
def eu(p:rh)(e:rh):Bool:=je p.anc e.past.on||(sM e.past.wrt p.past.foot&&sM p.past.wrt e.past.foot)
def rU:List rh->Bool
 |[]=>true
 |p::L=>L.all (eu p)&&rU L
variable (P Γ ops)in
def py:Nat->List (List Nat)->List Oper->List rh->S->(S->Prop)->Prop
 |_,_,[],L,σ,K=>rU L=true/\K σ
 |i,az,o::r,L,σ,K=>jD P Γ ops σ o/\
   py (i+1) az.tail r (⟨az.headD [],i,bO Γ σ ((σ.base+o.dst.getD 0)::σ.pre) o.op,bA Γ σ ((σ.base+o.dst.getD 0)::σ.pre) o.op⟩::L) (bc P Γ ops σ o) K
variable (P Γ ops)in
def DO(anc:Nat->List Nat):Nat->List Oper->List pz->S->(S->Prop)->Prop
 |_,[],_,σ,K=>K σ
 |i,o::r,L,σ,K=>jD P Γ ops σ o/\wE (anc i) (bO Γ σ (Oper.tt σ o) o.op) (bA Γ σ (Oper.tt σ o) o.op) L/\
   DO anc (i+1) r (⟨i,bO Γ σ (Oper.tt σ o) o.op,bA Γ σ (Oper.tt σ o) o.op⟩::L) (bc P Γ ops σ o) K
theorem E3{anc:Nat->List Nat}{K:S->Prop}:∀ (l:List Oper) (i:Nat) (az:List (List Nat)) (L:List rh) (σ:S),(∀ k,az.getD k []=anc (i+k))->
 py P Γ ops i az l L σ K->rU L=true/\DO P Γ ops anc i l (L.map (·.past)) σ K
 |[],i,az,L,σ,_,h=>h
 |o::r,i,az,L,σ,ha,h=>by
  obtain⟨h1,h2⟩:=h
  obtain⟨h3,h4⟩:=E3 (anc:=anc) r (i+1) az.tail _ _ (fun k=>by
   have :=ha (k+1)
   rw[show i+(k+1)=i+1+k by omega]at this
   rw[<-this]
   cases az<;>rfl) h2
  simp only[rU,Bool.and_eq_true]at h3
  refine⟨h3.2,h1,?_,h4⟩
  intro e he
  obtain⟨p,hp,rfl⟩:=List.mem_map.1 he
  have :=List.all_eq_true.1 h3.1 p hp
  simp only[eu,Bool.or_eq_true,Bool.and_eq_true]at this
  rcases this with k | ⟨k1,k2⟩
  ·left
   have h0:az.headD []=anc i:=by
    have :=ha 0
    rw[Nat.add_zero]at this
    rw[<-this]
    cases az<;>rfl
   rw[h0]at k
   exact F5.1 k
  ·exact .inr ⟨CX k1,CX k2⟩
theorem E4(hN:∀ f s,Γ f=some s->s.Near){anc:Nat->List Nat}(hA:vK ops anc)(lV:∀ i j oi oj,ops[i]?=some oi->ops[j]?=some oj->i<j->i∉anc j->oi.apart ops oj=true)
 (xU:∀ j o,ops[j]?=some o->∀ e∈o.after,Region.binds .any e=true->e.on<j) {K:S->Prop}:
 ∀ (n k:Nat) (L:List pz) (listed:Array Bool) (σ:S),k+n=ops.size->listed.size=ops.size->(∀ j,listed.getD j false=decide (j<k))->rj anc listed->
   DO P Γ ops anc k (ops.toList.drop k) L σ K->pC P Γ ops anc L K n listed σ
 | 0,k,L,listed,σ,hk,hs,hl,cq,h=>by
   have :ops.toList.drop k=[]:=List.drop_eq_nil_of_le (by simp;omega)
   rw[this]at h
   refine⟨?_,h⟩
   refine List.eq_nil_iff_forall_not_mem.2 fun j hj=>?_
   obtain⟨h1,o,ho,_⟩:=mem_ready.1 hj
   have ae:j<ops.size:=(Array.getElem?_eq_some_iff.1 ho).1
   have :=hl j
   simp only[Array.getD_eq_getD_getElem?,Array.getElem?_eq_getElem (show j<listed.size by omega),Option.getD_some]at h1 this
   rw[h1]at this
   simp at this
   omega
 |n+1,k,L,listed,σ,hk,hs,hl,cq,h=>by
  have ae:k<ops.size:=by omega
  have hd:ops.toList.drop k=ops[k]::ops.toList.drop (k+1):=by
   rw[List.drop_eq_getElem_cons (by simpa using ae)];simp
  rw[hd]at h
  obtain⟨h1,h2,h3⟩:=h
  have aa:ops[k]?=some ops[k]:=Array.getElem?_eq_getElem ae
  have sx:∀ j,j<listed.size->listed.getD j true=listed.getD j false:=by
   intro j hj
   simp only[Array.getD_eq_getD_getElem?,Array.getElem?_eq_getElem hj,Option.getD_some]
  have hr:k∈Region.ready .any ops listed:=by
   refine mem_ready.2 ⟨?_,_,aa,fun e he hb=>?_⟩
   ·rw[sx k (by omega),hl k];simp
   ·rw[hl];simpa using xU k _ aa e he hb
  refine pull hN hA aa n listed σ cq (fun j oj hj aD uF fG=>?_) hr h1 h2 ?_
  ·have lO:j<ops.size:=(Array.getElem?_eq_some_iff.1 hj).1
   rw[sx j (by omega),hl j]at uF
   simp at uF
   exact lV k j _ oj aa hj (by omega) fG
  ·refine E4 hN hA lV xU n (k+1) _ _ _ (by omega) (by simpa using hs) (fun j=>?_) (cq.set hA hr) h3
   by_cases lP:k=j
   ·subst lP
    simp[show k<listed.size by omega]
   ·rw[getD_set_ne false lP,hl j]
    refine decide_eq_decide.2 ?_
    omega
def tr(ops:Array Oper)(az:List (List Nat)):Bool:=
 (List.range ops.size).all fun j=>match ops[j]? with
   |none=>true
   |some oj=>(oj.after.toList.all fun e=>!Region.binds .any e||decide (e.on<j))&&
      ((az.getD j []).all fun i=>oj.after.toList.any fun e=>Region.binds .any e&&(e.on==i||(az.getD e.on []).contains i))&&
      (List.range j).all fun i=>(az.getD j []).contains i||(match ops[i]? with | some oi=>oi.apart ops oj | none=>true)
theorem C6(hΓ:∀ f s,Γ f=some s->aL P f s)(hP:P.follows .mixedOrders=true){id:Nat}{l:List Oper}{σ:S}{K:Exit->S->Prop}(az:List (List Nat))
 (hs:tr l.toArray az=true) (h:∀ K':S->Prop,(∀ σ',K .normal σ'->K' σ')->py P Γ l.toArray 0 az l [] σ K'):CW P (.region id l.toArray true) σ K:=by
 intro G φ m a w hC
 have gk:∀ j oj,l.toArray[j]?=some oj->(oj.after.toList.all fun e=>!Region.binds .any e||decide (e.on<j))=true/\
       ((az.getD j []).all fun i=>oj.after.toList.any fun e=>Region.binds .any e&&(e.on==i||(az.getD e.on []).contains i))=true/\
       ((List.range j).all fun i=>(az.getD j []).contains i||(match l.toArray[i]? with | some oi=>oi.apart l.toArray oj | none=>true))=true:=by
  intro j oj hj
  have :=List.all_eq_true.1 hs j (List.mem_range.2 (Array.getElem?_eq_some_iff.1 hj).1)
  simp only[hj,Bool.and_eq_true]at this
  exact⟨this.1.1,this.1.2,this.2⟩
 have hN:∀ f s,Γ f=some s->s.Near:=fun f s h=>(hΓ f s h).near
 have hA:vK l.toArray (fun j=>az.getD j []):=by
  intro j o ho i hi
  have :=List.all_eq_true.1 (gk j o ho).2.1 i hi
  obtain⟨e,he,h1⟩:=List.any_eq_true.1 this
  simp only[Bool.and_eq_true,Bool.or_eq_true,beq_iff_eq,List.contains_iff_mem]at h1
  exact⟨e,by simpa using he,h1.1,h1.2⟩
 have lV:∀ i j oi oj,l.toArray[i]?=some oi->l.toArray[j]?=some oj->i<j->i∉az.getD j []->oi.apart l.toArray oj=true:=by
  intro i j oi oj h1 h2 h3 h4
  have :=List.all_eq_true.1 (gk j oj h2).2.2 i (List.mem_range.2 h3)
  simp only[h1,Bool.or_eq_true]at this
  rcases this with k | k
  ·exact(h4 (by simpa using k)).elim
  ·exact k
 have xU:∀ j o,l.toArray[j]?=some o->∀ e∈o.after,Region.binds .any e=true->e.on<j:=by
  intro j o ho e he hb
  have :=List.all_eq_true.1 (gk j o ho).1 e (by simpa using he)
  simpa[hb]using this
 refine wpIn_region_any hP ?_
 obtain⟨_,hD⟩:=E3 (anc:=fun j=>az.getD j []) l 0 az [] σ (fun k=>by simp) (h (K .normal) fun _ h=>h)
 refine LB hΓ (K:=K .normal) _ _ (hC.drawn _) (E4 hN hA lV xU l.toArray.size 0 [] _ σ (by simp) (by simp) (fun j=>?_) (fun j hj=>?_) (by simpa using hD)) fun a' w' φ' m' σ' ca hK=>⟨φ',m',σ',ca,hK⟩
 ·by_cases hj:j<l.length<;>simp[hj]
 ·by_cases eA:j<l.length<;>simp[eA]at hj
theorem WB(hΓ:∀ f s,Γ f=some s->aL P f s)(hP:P.follows .mixedOrders=true){id:Nat}{l:List Oper}{c:Code}{r:List Code}{σ:S}{K:Exit->S->Prop}(az:List (List Nat))(ks:List Nat)(ns:List Name)
 (hs:tr l.toArray az=true) (h:∀ K':S->Prop,(∀ σ',gp ks ns σ'->CL P (c::r) (gB ks ns σ') K->K' σ')->py P Γ l.toArray 0 az l [] σ K'):CL P (.region id l.toArray true::c::r) σ K:=
 C6 hΓ hP az hs fun K' hK=>h K' fun σ' hc hy=>hK σ' (C5 ks ns hc hy)
theorem nY(hΓ:∀ f s,Γ f=some s->aL P f s)(hP:P.follows .mixedOrders=true){id:Nat}{l:List Oper}{σ:S}{K:Exit->S->Prop}(az:List (List Nat))
 (hs:tr l.toArray az=true) (h:∀ K':S->Prop,(∀ σ',K .normal σ'->K' σ')->py P Γ l.toArray 0 az l [] σ K'):CL P [.region id l.toArray true] σ K:=
 C6 hΓ hP az hs fun K' hK=>h K' fun σ' hc=>hK σ' hc
end
attribute [go_sem] dD sf je sM Nat.beq_eq_true_eq py bO bA aT fp dP fv eh muts O.mut PSpec.toSpec List.headD_cons List.headD_nil List.tail_cons List.tail_nil
mutual
def D.ren(f:Name->Name):D->D
 | .v x=>.v x
 | .nilsl=>.nilsl
 | .nilmap=>.nilmap
 | .ref nm o=>.ref (f nm) o
 | .msl nm k=>.msl (f nm) k
 | .aref nm k i o=>.aref (f nm) k i o
 | .map nm=>.map (f nm)
 | .yld nm=>.yld (f nm)
 | .clo fn a b=>.clo fn (D.renL f a) (D.renL f b)
 | .agg l=>.agg (D.renL f l)
 | .tup l=>.tup (D.renL f l)
 | .any=>.any
def D.renL(f:Name->Name):List D->List D
 |[]=>[]
 |d::r=>D.ren f d::D.renL f r
end
def E.ren(f:Name->Name)(e:E):E:=⟨e.c,e.d.ren f⟩
def O.ren(f:Name->Name):O->O
 | .box cs=>.box (D.renL f cs)
 | .loop env ps asg body st bx=>.loop (env.map (E.ren f)) ps asg body st bx
 | .arr sz l=>.arr sz l
 | .map kd es=>.map kd es
 | .fbox cs=>.fbox cs
 | .farr sz l=>.farr sz l
 | .dead sz n=>.dead sz n
theorem ja(f:Name->Name):∀ l:List D,D.renL f l=l.map (D.ren f)
 |[]=>rfl
 |d::r=>by simp only[D.renL,List.map_cons,ja f r]
theorem D.one_ren(f:Name->Name)(d:D):(d.ren f).one=d.one:=by cases d<;>rfl
theorem O.len_ren(f:Name->Name)(o:O):(o.ren f).len?=o.len?:=by cases o<;>rfl
theorem O.sz_ren(f:Name->Name)(o:O):(o.ren f).sz=o.sz:=by cases o<;>rfl
theorem O.mut_ren(f:Name->Name)(o:O):(o.ren f).mut=o.mut:=by cases o<;>rfl
def vH(f:Name->Name)(φ φ':Name->Loc)(obj obj':Name->Option O)(dom:Name->Bool):Prop:=
 ∀ nm o,dom nm=true->obj nm=some o->∃ o',obj' (f nm)=some o'/\
   ((o'.len?=o.len?/\φ' (f nm)=φ nm/\o'.sz=o.sz)\/(∃ n n',o.len?=some n/\o'.len?=some n'/\n<n'))
theorem aA.renx{f:Name->Name}{φ φ':Name->Loc}{obj obj':Name->Option O}{m m':Mem}{dom:Name->Bool}(hm:Mem.le m m')(hx:vH f φ φ' obj obj' dom){d:D}{u:Value}
 (h:aA φ obj m d u) (hc:D.clos dom d=true):aA φ' obj' m' (d.ren f) u:=by
 induction h with
 |any u=>exact .any u
 |v x u h=>exact .v x u (h.mono hm)
 |nilsl a=>exact .nilsl a
 |nilmap=>exact .nilmap
 |ref nm off h=>
  obtain⟨o,ho,hl⟩:=h
  obtain⟨o',cF,h⟩:=hx nm o hc ho
  rcases h with⟨h1,h2,h3⟩ | ⟨n,n',h1,h2,h3⟩
  ·rw[<-h2];exact .ref (f nm) off ⟨o',cF,h1.trans hl⟩
  ·rw[hl]at h1;cases h1
 |map nm h=>
  obtain⟨o,ho,hl⟩:=h
  obtain⟨o',cF,h⟩:=hx nm o hc ho
  rcases h with⟨h1,h2,h3⟩ | ⟨n,n',h1,h2,h3⟩
  ·rw[<-h2];exact .map (f nm) ⟨o',cF,h1.trans hl⟩
  ·rw[hl]at h1;cases h1
 |yld nm h=>
  obtain⟨o,ho,hl⟩:=h
  obtain⟨o',cF,h⟩:=hx nm o hc ho
  rcases h with⟨h1,h2,h3⟩ | ⟨n,n',h1,h2,h3⟩
  ·rw[<-h2];exact .yld (f nm) ⟨o',cF,h1.trans hl⟩
  ·rw[hl]at h1;cases h1
 |msl nm k u h hu=>
  obtain⟨o,n,ho,hl,hk,he⟩:=h
  obtain⟨o',cF,h⟩:=hx nm o hc ho
  rcases h with⟨h1,h2,h3⟩ | ⟨n1,n',h1,h2,h3⟩
  ·exact .msl (f nm) k u ⟨o',n,cF,h1.trans hl,hk,fun e=>by rw[h2];exact he e⟩ hu
  ·rw[hl]at h1;cases h1
   exact .msl (f nm) k u ⟨o',n',cF,h2,by omega,fun e=>by omega⟩ hu
 |aref nm k i off u h hu=>
  obtain⟨o,n,ho,hl,hk,he⟩:=h
  obtain⟨o',cF,h⟩:=hx nm o hc ho
  rcases h with⟨h1,h2,h3⟩ | ⟨n1,n',h1,h2,h3⟩
  ·exact .aref (f nm) k i off u ⟨o',n,cF,h1.trans hl,hk,fun e=>by rw[h2,h3];exact he e⟩ hu
  ·rw[hl]at h1;cases h1
   exact .aref (f nm) k i off u ⟨o',n',cF,h2,by omega,fun e=>by omega⟩ hu
 |clo fn fs cs us vs h1 h2 dS fa nF nE=>
  simp only[D.clos,Bool.and_eq_true]at hc
  simp only[D.ren,ja]
  refine .clo fn _ _ us vs (by simpa using h1) (by simpa using h2) (fun i a b=>?_) (fun i a b=>?_)
  ·simp only[List.getElem_map];exact nF i (by simpa using a) b (gL _ hc.1)
  ·simp only[List.getElem_map];exact nE i (by simpa using a) b (gL _ hc.2)
 |agg l us h ho hr ih=>
  simp only[D.clos]at hc
  simp only[D.ren,ja]
  refine .agg _ us (by simpa using h) (fun d hd=>?_) (fun i a b=>?_)
  ·obtain⟨d',h1,rfl⟩:=List.mem_map.1 hd
   rw[D.one_ren];exact ho d' h1
  ·simp only[List.getElem_map];exact ih i (by simpa using a) b (gL _ hc)
 |tup l us h hr ih=>
  simp only[D.clos]at hc
  simp only[D.ren,ja]
  refine .tup _ us (by simpa using h) (fun i a b=>?_)
  simp only[List.getElem_map];exact ih i (by simpa using a) b (gL _ hc)
theorem bZ.renx{f:Name->Name}{φ φ':Name->Loc}{obj obj':Name->Option O}{m m':Mem}{dom:Name->Bool}(hm:Mem.le m m')(hx:vH f φ φ' obj obj' dom){e:E}{u:Value}
 (h:bZ φ obj m e u) (hc:D.clos dom e.d=true):bZ φ' obj' m' (e.ren f) u:=by
 unfold bZ at *
 have e0:(E.ren f e).c=e.c:=rfl
 have e1:(E.ren f e).d=e.d.ren f:=rfl
 rw[e0,e1]
 by_cases hh:e.c=true
 ·rw[if_pos hh]at h |-;exact h.renx hm hx hc
 ·rw[if_neg hh]at h |-;exact h
theorem fN.ren{f:Name->Name}{φ φ':Name->Loc}{obj obj':Name->Option O}{m m':Mem}{dom:Name->Bool}{o:O}{p:Loc}{w w':World}(hm:Mem.le m m')(hx:vH f φ φ' obj obj' dom)
 (hc:O.clos dom o=true) (hw:o.mut=true->p.nul=false->w'.heap[p.blk]?=w.heap[p.blk]?) (h:fN φ obj m o p w):fN φ' obj' m' (o.ren f) p w':=by
 cases o with
 |box cs=>
  obtain⟨h0,h1,fc,us,T,g,h2,h3,h4,h5⟩:=h
  simp only[O.clos]at hc
  simp only[O.ren,fN,ja,List.length_map,List.getElem_map,List.mem_map,forall_exists_index,and_imp,forall_apply_eq_imp_iff₂,D.one_ren]
  exact⟨h0,h1,fc,us,T,g,by rw[hw rfl h1];exact h2,h3,h4,fun i a b=>(h5 i a b).renx hm hx (gL a hc)⟩
 |arr sz l=>
  rcases h with⟨h,h'⟩ | ⟨h0,h1,h2,h3,h4,us,T,f,h5,h6,h7,h8⟩
  ·exact .inl ⟨h,h'⟩
  ·exact .inr ⟨h0,h1,h2,h3,h4,us,T,f,by rw[hw rfl h0];exact h5,h6,h7,fun i j a b=>let ⟨c,x,y⟩:=h8 i j a b;⟨c,x,y.mono hm⟩⟩
 |map kd es=>
  obtain⟨h0,h1,fc,us,T,h2,h3,h4⟩:=h
  exact⟨h0,h1,fc,us,T,by rw[hw rfl h1];exact h2,h3,fun i a b=>⟨(h4 i a b).1.mono hm,(h4 i a b).2.mono hm⟩⟩
 |fbox cs=>exact⟨h.1,fun i a=>let ⟨c,x,y⟩:=h.2 i a;⟨c,hm _ _ _ x,y.mono hm⟩⟩
 |farr sz l=>
  rcases h with⟨h,h'⟩ | ⟨h0,h1,h2,h3,h4⟩
  ·exact .inl ⟨h,h'⟩
  ·exact .inr ⟨h0,h1,h2,h3,fun i j a b=>let ⟨c,x,y⟩:=h4 i j a b;⟨c,hm _ _ _ x,y.mono hm⟩⟩
 |dead=>exact h
 |loop env ps asg body st bx=>
  obtain⟨h0,h1,r,h2,h3,h4,h5,h6,h7,h8,h9⟩:=h
  simp only[O.clos]at hc
  simp only[O.ren,fN,List.length_map,List.getElem_map]
  refine⟨h0,h1,r,by rw[hw rfl h1];exact h2,h3,h4,h5,h6,h7,h8,fun i a=>(h9 i a).renx hm hx ?_⟩
  have :=gL (l:=env.map (·.d)) (i:=i) (by simpa using a) hc
  simpa using this
mutual
theorem D.ren_id{f g:Name->Name}{dom:Name->Bool}(iU:∀ nm,dom nm=true->g (f nm)=nm):∀ d:D,D.clos dom d=true->(d.ren f).ren g=d
 | .v _,_=>rfl
 | .nilsl,_=>rfl
 | .nilmap,_=>rfl
 | .any,_=>rfl
 | .ref nm _,h=>by simp only[D.ren];rw[iU nm h]
 | .msl nm _,h=>by simp only[D.ren];rw[iU nm h]
 | .aref nm _ _ _,h=>by simp only[D.ren];rw[iU nm h]
 | .map nm,h=>by simp only[D.ren];rw[iU nm h]
 | .yld nm,h=>by simp only[D.ren];rw[iU nm h]
 | .clo _ a b,h=>by
   simp only[D.clos,Bool.and_eq_true]at h
   simp only[D.ren];rw[D.renL_id iU a h.1,D.renL_id iU b h.2]
 | .agg l,h=>by simp only[D.clos]at h;simp only[D.ren];rw[D.renL_id iU l h]
 | .tup l,h=>by simp only[D.clos]at h;simp only[D.ren];rw[D.renL_id iU l h]
theorem D.renL_id{f g:Name->Name}{dom:Name->Bool}(iU:∀ nm,dom nm=true->g (f nm)=nm):∀ l:List D,D.closL dom l=true->D.renL g (D.renL f l)=l
 |[],_=>rfl
 |d::r,h=>by
  simp only[D.closL,Bool.and_eq_true]at h
  simp only[D.renL];rw[D.ren_id iU d h.1,D.renL_id iU r h.2]
end
theorem O.ren_id{f g:Name->Name}{dom:Name->Bool}(iU:∀ nm,dom nm=true->g (f nm)=nm)(o:O)(h:O.clos dom o=true):(o.ren f).ren g=o:=by
 cases o with
 |box cs=>simp only[O.clos]at h;simp only[O.ren];rw[D.renL_id iU cs h]
 |loop env ps asg body st bx=>
  simp only[O.clos]at h
  simp only[O.ren,List.map_map,O.loop.injEq,and_true]
  refine List.ext_getElem (by simp) fun i h1 h2=>?_
  have :=gL (l:=env.map (·.d)) (i:=i) (by simpa using h2) h
  simp only[List.getElem_map,Function.comp_apply,E.ren]at this |-
  rw[D.ren_id iU _ this]
 |_=>rfl
mutual
def ky:D->List Name
 | .ref nm _=>[nm]
 | .msl nm _=>[nm]
 | .aref nm _ _ _=>[nm]
 | .map nm=>[nm]
 | .yld nm=>[nm]
 | .clo _ a b=>cI a++cI b
 | .agg l=>cI l
 | .tup l=>cI l
 |_=>[]
def cI:List D->List Name
 |[]=>[]
 |d::r=>ky d++cI r
end
def kx:O->List Name
 | .box cs=>cI cs
 | .loop env _ _ _ _ _=>cI (env.map (·.d))
 |_=>[]
def cE(L:List Name)(nm:Name):Bool:=L.any fun x=>x==nm
def cY(obj:Name->Option O):Nat->List Name->List Name->List Name
 | 0,_,acc=>acc
 |_+1,[],acc=>acc
 |n+1,x::todo,acc=>if cE acc x=true then cY obj n todo acc else cY obj n ((match obj x with | some o=>kx o | none=>[])++todo) (acc++[x])
def reach(obj:Name->Option O)(ds:List D):List Name:=cY obj 3000 (cI ds) []
theorem fD{L:List Name}{nm:Name}:cE L nm=true↔nm∈L:=by
 simp only[cE,List.any_eq_true,beq_iff_eq]
 exact⟨fun ⟨x,h,e⟩=>e▸h,fun h=>⟨nm,h,rfl⟩⟩
theorem Ad{obj:Name->Option O}:∀ (n:Nat) (todo acc:List Name),∀ nm∈acc,nm∈cY obj n todo acc
 | 0,_,_,_,h=>h
 |_+1,[],_,_,h=>h
 |n+1,x::todo,acc,nm,h=>by
  simp only[cY]
  split
  ·exact Ad n _ _ nm h
  ·exact Ad n _ _ nm (by simp[h])
theorem wu{obj:Name->Option O}:∀ (n:Nat) (todo acc:List Name),acc.Nodup->(cY obj n todo acc).Nodup
 | 0,_,_,h=>h
 |_+1,[],_,h=>h
 |n+1,x::todo,acc,h=>by
  simp only[cY]
  split
  ·exact wu n _ _ h
  ·rename_i hx
   refine wu n _ _ (List.nodup_append.2 ⟨h,by simp,fun a ha b hb=>?_⟩)
   simp only[List.mem_singleton]at hb
   subst hb
   rintro rfl
   exact hx (fD.2 ha)
theorem Ac{obj obj2:Name->Option O}:∀ (n:Nat) (todo acc:List Name),bC (cY obj n todo acc) obj obj2->cY obj2 n todo acc=cY obj n todo acc
 | 0,_,_,_=>rfl
 |_+1,[],_,_=>rfl
 |n+1,x::todo,acc,h=>by
  simp only[cY]at h |-
  split
  ·rename_i hx;rw[if_pos hx]at h;exact Ac n _ _ h
  ·rename_i hx
   rw[if_neg hx]at h
   have bn:obj2 x=obj x:=h x (Ad n _ _ x (by simp))
   rw[bn]
   exact Ac n _ _ h
def idx:List Name->Name->Nat
 |[],_=>0
 |x::r,nm=>if x=nm then 0 else idx r nm+1
def cin(L:List Name)(nm:Name):Name:=[idx L nm,1]
def cout(L:List Name)(t:Name):Name->Name
 |[i,1]=>L.getD i []
 |x=>x++t
def cJ:Name->Bool
 |[_,1]=>true
 |_=>false
theorem sk:∀ {L:List Name} {nm:Name},nm∈L->∃ h:idx L nm<L.length,L[idx L nm]=nm
 |x::r,nm,h=>by
  simp only[idx]
  by_cases e:x=nm
  ·subst e;simp
  ·simp only[if_neg e]
   obtain⟨h1,h2⟩:=sk (L:=r) (nm:=nm) (by rcases List.mem_cons.1 h with h | h; · exact(e h.symm).elim
                                         ·exact h)
   exact⟨by simp;omega,by simpa using h2⟩
theorem V9{L:List Name}{t nm:Name}(h:nm∈L):cout L t (cin L nm)=nm:=by
 obtain⟨h1,h2⟩:=sk h
 show L.getD (idx L nm) []=nm
 rw[List.getD_eq_getElem?_getD,List.getElem?_eq_getElem h1];simpa using h2
theorem sT{L:List Name}{t x:Name}(h:cJ x=false):cout L t x=x++t:=by
 unfold cout
 split
 ·simp[cJ]at h
 ·rfl
theorem um{x:Name}:cJ x=true↔∃ i,x=[i,1]:=by
 constructor
 ·intro h
  unfold cJ at h
  split at h
  ·exact⟨_,rfl⟩
  ·cases h
 ·rintro⟨i,rfl⟩;rfl
theorem FB(i:Nat):own [0] [i,1]=false:=by simp[own]
theorem Bm{L:List Name}(hn:L.Nodup){i:Nat}(h:i<L.length):idx L L[i]=i:=by
 obtain⟨h1,h2⟩:=sk (List.getElem_mem h)
 exact(List.getElem_inj hn).1 h2
structure Out where
 upd:List (Nat×O)
 new:List (Name×O)
 d:D
 deriving Inhabited
def eo:List (Nat×O)->Nat->O->O
 |[],_,o=>o
 |(j,o')::r,i,o=>eo r i (if j=i then o' else o)
def cf(L:List Name)(t:Name):List (Nat×O)->(Name->Option O)->(Name->Option O)
 |[],obj=>obj
 |(i,o)::r,obj=>cf L t r (upd obj (L.getD i []) (some (o.ren (cout L t))))
def cV(L:List Name)(t:Name):List (Name×O)->(Name->Option O)->(Name->Option O)
 |[],obj=>obj
 |(x,o)::r,obj=>cV L t r (upd obj (x++t) (some (o.ren (cout L t))))
theorem Fl{L:List Name}{t:Name}(hn:L.Nodup):∀ (l:List (Nat×O)) (obj:Name->Option O) {i:Nat} (h:i<L.length) (o:O) (_:(l.all fun x=>decide (x.1<L.length))=true) (_:obj L[i]=some (o.ren (cout L t))),
 cf L t l obj L[i]=some ((eo l i o).ren (cout L t))
 |[],obj,i,h,o,_,ho=>ho
 |(j,o')::r,obj,i,h,o,hl,ho=>by
  simp only[List.all_cons,Bool.and_eq_true,decide_eq_true_eq]at hl
  simp only[cf,eo]
  refine Fl hn r _ h _ hl.2 ?_
  have e:L.getD j []=L[j]:=by rw[List.getD_eq_getElem?_getD,List.getElem?_eq_getElem hl.1];rfl
  rw[e]
  by_cases hj:j=i
  ·subst hj;rw[aN,if_pos rfl]
  ·rw[aV _ _ _ (fun e'=>hj ((List.getElem_inj hn).1 e').symm),if_neg hj];exact ho
theorem Ag{L:List Name}{t:Name}:∀ (l:List (Nat×O)) (obj:Name->Option O) {nm:Name} (_:(l.all fun x=>decide (x.1<L.length))=true) (_:nm∉L),cf L t l obj nm=obj nm
 |[],_,_,_,_=>rfl
 |(j,o')::r,obj,nm,hl,hn=>by
  simp only[List.all_cons,Bool.and_eq_true,decide_eq_true_eq]at hl
  simp only[cf]
  rw[Ag r _ hl.2 hn]
  refine aV _ _ _ ?_
  rintro rfl
  refine hn ?_
  rw[List.getD_eq_getElem?_getD,List.getElem?_eq_getElem hl.1];simp
theorem tL{L:List Name}{t:Name}:∀ (l:List (Name×O)) (obj:Name->Option O) {nm:Name} (_:∀ x∈l,nm≠x.1++t),cV L t l obj nm=obj nm
 |[],_,_,_=>rfl
 |(x,o')::r,obj,nm,hl=>by
  simp only[cV]
  rw[tL r _ fun y hy=>hl y (by simp[hy])]
  exact aV _ _ _ (hl (x,o') (by simp))
theorem Fm{L:List Name}{t:Name}:∀ (l:List (Name×O)) (obj:Name->Option O) (_:(l.map (·.1)).Nodup) {x:Name} {o:O} (_:(x,o)∈l),cV L t l obj (x++t)=some (o.ren (cout L t))
 |(y,o')::r,obj,hn,x,o,h=>by
  simp only[List.map_cons,List.nodup_cons]at hn
  simp only[cV]
  rcases List.mem_cons.1 h with h | h
  ·cases h
   rw[tL r _ fun z hz e=>hn.1 (by
    have :_=z.1:=List.append_cancel_right e
    rw[this];exact List.mem_map_of_mem hz)]
   exact aN _ _ _
  ·exact Fm r _ hn.2 h
def cL(n:Nat)(new:List (Name×O)):Name->Bool
 |[i,1]=>decide (i<n)
 |x=>new.any fun y=>y.1==x
section
variable {G:Ghost} {φ:Name->Loc} {m:Mem} {σ:S} {a:Act} {w:World}
def ck(L:List Name)(obj:Name->Option O)(nm:Name):O:=match obj nm with
 |some o=>o.ren (cin L)
 |none=>.fbox []
def shut(obj:Name->Option O)(L:List Name):Bool:=L.all fun nm=>match obj nm with
 |some o=>O.clos (cE L) o
 |none=>false
def iE(L:List Name)(obj:Name->Option O):Name->Option O
 |[i,1]=>if i<L.length then some (ck L obj (L.getD i []))else none
 |_=>none
def la(L:List Name)(φ:Name->Loc):Name->Loc
 |[i,1]=>φ (L.getD i [])
 |_=>⟨0,0,0,true,none⟩
def oc(L:List Name)(φ:Name->Loc)(obj:Name->Option O)(b:Nat):Prop:=∃ nm∈L,holds φ obj nm/\(φ nm).blk=b
theorem tz{obj:Name->Option O}{L:List Name}(h:shut obj L=true){nm:Name}(hn:nm∈L):∃ o,obj nm=some o/\O.clos (cE L) o=true:=by
 have :=List.all_eq_true.1 h nm hn
 cases ho:obj nm with
 |none=>simp[ho]at this
 |some o=>simp only[ho]at this;exact⟨o,rfl,this⟩
theorem jU{L:List Name}{i:Nat}(h:i<L.length):L.getD i []=L[i]:=by rw[List.getD_eq_getElem?_getD,List.getElem?_eq_getElem h];rfl
theorem PO{L:List Name}{obj:Name->Option O}{nm:Name}(hn:nm∈L):iE L obj (cin L nm)=some (ck L obj nm):=by
 obtain⟨h1,h2⟩:=sk hn
 show (if idx L nm<L.length then some (ck L obj (L.getD (idx L nm) []))else none)=_
 rw[if_pos h1,jU h1,h2]
theorem Mn{L:List Name}{φ:Name->Loc}{nm:Name}(hn:nm∈L):la L φ (cin L nm)=φ nm:=by
 obtain⟨h1,h2⟩:=sk hn
 show φ (L.getD (idx L nm) [])=_
 rw[jU h1,h2]
theorem wt{L:List Name}{obj:Name->Option O}:vH (cin L) φ (la L φ) obj (iE L obj) (cE L):=by
 intro nm o hd ho
 have hn:=fD.1 hd
 refine⟨ck L obj nm,PO hn,.inl ⟨?_,Mn hn,?_⟩⟩
 ·simp only[ck,ho];exact O.len_ren _ _
 ·simp only[ck,ho];exact O.sz_ren _ _
theorem Ar{L:List Name}{obj:Name->Option O}{x:Name}{o:O}(h:iE L obj x=some o):∃ (i:Nat) (hi:i<L.length),x=[i,1]/\o=ck L obj L[i]:=by
 unfold iE at h
 split at h
 ·rename_i i
  split at h
  ·rename_i hi
   cases h
   exact⟨i,hi,rfl,by rw[jU hi]⟩
  ·cases h
 ·cases h
def qD(w:World)(m:Mem)(L:List Name)(φ:Name->Loc)(obj:Name->Option O)(rd:Option Nat)(h:∀ l,rd=some l->¬ oc L φ obj l/\∃ r,w.heap[l]?=some (.loop r)):Ghost:=
 ⟨w,m,oc L φ obj,rd,la L φ,iE L obj,h⟩
theorem xv{L:List Name}{obj:Name->Option O}(hL:shut obj L=true){x:Name}(h:holds (la L φ) (iE L obj) x):∃ (i:Nat) (hi:i<L.length),x=[i,1]/\holds φ obj L[i]:=by
 obtain⟨o,h1,h2,h3⟩:=h
 obtain⟨i,hi,rfl,rfl⟩:=Ar h1
 obtain⟨o',h4,_⟩:=tz hL (List.getElem_mem hi)
 refine⟨i,hi,rfl,o',h4,?_,?_⟩
 ·simp only[ck,h4,O.mut_ren]at h2;exact h2
 ·have:la L φ [i,1]=φ L[i]:=by show φ (L.getD i [])=_;rw[jU hi]
  rw[this]at h3;exact h3
theorem JV(hC:aM G φ m σ a w){L:List Name}(hn:L.Nodup)(hL:shut σ.obj L=true){rd:Option Nat}(lL:∀ l,rd=some l->¬ oc L φ σ.obj l/\∃ r,w.heap[l]?=some (.loop r))
 {nt b0:Nat} {env:Nat->E} {tmps:Array Value} (hs:tmps.size=nt) (he:∀ t,bZ (la L φ) (iE L σ.obj) m (env t) (tmps.getD t undef)):
 aM (qD w m L φ σ.obj rd lL) (la L φ) m ⟨nt,env,iE L σ.obj,[0],b0⟩ { tmps:=tmps,defers:=[] } w:=by
 have hφ:∀ (i:Nat) (hi:i<L.length),la L φ [i,1]=φ L[i]:=fun i hi=>by show φ (L.getD i [])=_;rw[jU hi]
 constructor
 ·exact he
 ·exact hs
 ·exact⟨[],rfl,by simp,by simp⟩
 ·intro x o hx
  obtain⟨i,hi,rfl,rfl⟩:=Ar hx
  obtain⟨o',h4,h5⟩:=tz hL (List.getElem_mem hi)
  rw[hφ i hi]
  simp only[ck,h4]
  exact(hC.objs _ _ h4).ren (Mem.le_refl m) wt h5 fun _ _=>rfl
 ·exact hC.mem
 ·intro x hx off
  obtain⟨i,hi,rfl,h⟩:=xv hL hx
  rw[hφ i hi]
  exact hC.apart _ h off
 ·intro x y hx hy e
  obtain⟨i,hi,rfl,h⟩:=xv hL hx
  obtain⟨j,hj,rfl,h'⟩:=xv hL hy
  rw[hφ i hi,hφ j hj]at e
  have :=(List.getElem_inj hn).1 (hC.inj _ _ h h' e)
  rw[this]
 ·intro x hx
  obtain⟨i,hi,rfl,h⟩:=xv hL hx
  rw[hφ i hi]
  exact .inr ⟨_,List.getElem_mem hi,h,rfl⟩
 ·exact⟨rfl,rfl,rfl,Nat.le_refl _,fun _ _ _=>rfl⟩
 ·intro b off v h;exact .inl h
 ·refine⟨fun x o hx=>?_,Ext.refl _ _⟩
  obtain⟨i,hi,rfl,_⟩:=Ar hx
  exact FB i
structure Mm (σ:S) (os:List O) (o:Out):Prop where
 objs:∀ i (h:i<os.length),σ.obj [i,1]=some (eo o.upd i os[i])
 news:∀ x∈o.new,σ.obj x.1=some x.2
 cd:D.clos (cL os.length o.new) o.d=true
 cu:(o.upd.all fun x=>O.clos (cL os.length o.new) x.2&&decide (x.1<os.length))=true
 cn:(o.new.all fun x=>O.clos (cL os.length o.new) x.2&&!cJ x.1)=true
 nd:(o.new.map (·.1)).Nodup
def fresh(obj:Name->Option O)(t:Name)(new:List (Name×O)):Bool:=new.all fun x=>(obj (x.1++t)).isNone
theorem VK{n:Nat}{new:List (Name×O)}{x:Name×O}(h:cJ x.1=false)(hx:x∈new):cL n new x.1=true:=by
 have key:∀ nm:Name,cJ nm=false->cL n new nm=new.any fun y=>y.1==nm:=by
  intro nm h
  unfold cL
  split
  ·simp[cJ]at h
  ·rfl
 rw[key _ h]
 exact List.any_eq_true.2 ⟨x,hx,by simp⟩
theorem Gv{dom:Name->Bool}:∀ (l:List (Nat×O)) (i:Nat) (o:O),O.clos dom o=true->(∀ x∈l,O.clos dom x.2=true)->O.clos dom (eo l i o)=true
 |[],_,_,h,_=>h
 |(j,o')::r,i,o,h,hl=>by
  simp only[eo]
  refine Gv r i _ ?_ fun x hx=>hl x (by simp[hx])
  split
  ·exact hl (j,o') (by simp)
  ·exact h
mutual
theorem clos_ren{f:Name->Name}{dom dom':Name->Bool}(hf:∀ nm,dom nm=true->dom' (f nm)=true):∀ d:D,D.clos dom d=true->D.clos dom' (d.ren f)=true
 | .v _,_=>by simp only[D.ren,D.clos]
 | .nilsl,_=>by simp only[D.ren,D.clos]
 | .nilmap,_=>by simp only[D.ren,D.clos]
 | .any,_=>by simp only[D.ren,D.clos]
 | .ref nm _,h=>hf nm h
 | .msl nm _,h=>hf nm h
 | .aref nm _ _ _,h=>hf nm h
 | .map nm,h=>hf nm h
 | .yld nm,h=>hf nm h
 | .clo _ a b,h=>by
   simp only[D.clos,Bool.and_eq_true]at h
   simp only[D.ren,D.clos,Bool.and_eq_true]
   exact⟨qP hf a h.1,qP hf b h.2⟩
 | .agg l,h=>by simp only[D.clos]at h;simp only[D.ren,D.clos];exact qP hf l h
 | .tup l,h=>by simp only[D.clos]at h;simp only[D.ren,D.clos];exact qP hf l h
theorem qP{f:Name->Name}{dom dom':Name->Bool}(hf:∀ nm,dom nm=true->dom' (f nm)=true):∀ l:List D,D.closL dom l=true->D.closL dom' (D.renL f l)=true
 |[],_=>by simp only[D.renL,D.closL]
 |d::r,h=>by
  simp only[D.closL,Bool.and_eq_true]at h
  simp only[D.renL,D.closL,Bool.and_eq_true]
  exact⟨clos_ren hf d h.1,qP hf r h.2⟩
end
theorem O.clos_ren{f:Name->Name}{dom dom':Name->Bool}(hf:∀ nm,dom nm=true->dom' (f nm)=true)(o:O)(h:O.clos dom o=true):O.clos dom' (o.ren f)=true:=by
 cases o with
 |box cs=>simp only[O.clos]at h;simp only[O.ren,O.clos];exact qP hf cs h
 |loop env ps asg body st bx=>
  simp only[O.clos]at h
  simp only[O.ren,O.clos]
  have :=qP hf _ h
  rw[ja,List.map_map]at this
  rw[List.map_map]
  exact this
 |_=>rfl
theorem JU(hC:aM G φ m σ a w){L:List Name}(hn:L.Nodup)(hL:shut σ.obj L=true){rd:Option Nat}{lL:∀ l,rd=some l->¬ oc L φ σ.obj l/\∃ r,w.heap[l]?=some (.loop r)}
 {φ2:Name->Loc} {m2:Mem} {σ2:S} {a2:Act} {w2:World} (eP:aM (qD w m L φ σ.obj rd lL) φ2 m2 σ2 a2 w2) {o:Out} (hE:Mm σ2 (L.map (ck L σ.obj)) o) {t:Name} (hf:fresh σ.obj t o.new=true):
 ∃ φ' m',Mem.le m m'/\aM G φ' m' { σ with obj:=cV L t o.new (cf L t o.upd σ.obj) } a w2/\
   Ext φ φ' σ.obj (cV L t o.new (cf L t o.upd σ.obj))/\
   (∀ d u,aA φ2 σ2.obj m2 d u->D.clos (cL L.length o.new) d=true->aA φ' (cV L t o.new (cf L t o.upd σ.obj)) m' (d.ren (cout L t)) u):=by
 have hlen:(L.map (ck L σ.obj)).length=L.length:=by simp
 obtain⟨h1,h2,h3,h4,h5,h6⟩:=hE
 rw[hlen]at h3 h4 h5
 have hu:(o.upd.all fun x=>decide (x.1<L.length))=true:=List.all_eq_true.2 fun x hx=>by
  have :=List.all_eq_true.1 h4 x hx
  simp only[Bool.and_eq_true]at this;exact this.2
 have xk:∀ x∈o.upd,O.clos (cL L.length o.new) x.2=true:=fun x hx=>by
  have :=List.all_eq_true.1 h4 x hx
  simp only[Bool.and_eq_true]at this;exact this.1
 have Tq:∀ x∈o.new,O.clos (cL L.length o.new) x.2=true:=fun x hx=>by
  have :=List.all_eq_true.1 h5 x hx
  simp only[Bool.and_eq_true]at this;exact this.1
 have BQ:∀ x∈o.new,cJ x.1=false:=fun x hx=>by
  have :=List.all_eq_true.1 h5 x hx
  simp only[Bool.and_eq_true,Bool.not_eq_true']at this;exact this.2
 have cB:∀ x∈o.new,σ.obj (x.1++t)=none:=fun x hx=>by
  have :=List.all_eq_true.1 hf x hx
  simpa using this
 have US:∀ nm∈L,∃ o,σ.obj nm=some o:=fun nm h=>let ⟨o,h,_⟩:=tz hL h;⟨o,h⟩
 have qy:∀ nm∈L,∀ x∈o.new,nm≠x.1++t:=fun nm h x hx e=>by
  obtain⟨o',ho⟩:=US nm h
  rw[e,cB x hx]at ho;cases ho
 have Un:∀ nm,cE L nm=true->cout L t (cin L nm)=nm:=fun nm h=>V9 (fD.1 h)
 generalize ez:cV L t o.new (cf L t o.upd σ.obj)=obj'
 have xw:∀ (i:Nat) (hi:i<L.length),obj' L[i]=some ((eo o.upd i (ck L σ.obj L[i])).ren (cout L t)):=fun i hi=>by
  rw[<-ez,tL _ _ (qy _ (List.getElem_mem hi))]
  refine Fl hn _ _ hi _ hu ?_
  obtain⟨o',ho,hc⟩:=tz hL (List.getElem_mem hi)
  simp only[ck,ho]
  rw[O.ren_id Un o' hc]
 have BO:∀ x∈o.new,obj' (x.1++t)=some (x.2.ren (cout L t)):=fun x hx=>by rw[<-ez];exact Fm _ _ h6 hx
 have BN:∀ nm,nm∉L->(∀ x∈o.new,nm≠x.1++t)->obj' nm=σ.obj nm:=fun nm h h'=>by rw[<-ez,tL _ _ h',Ag _ _ hu h]
 let φ':Name->Loc:=fun nm=>if nm∈L then φ2 (cin L nm)else match o.new.find? (fun x=>x.1++t==nm)with
  |some x=>φ2 x.1
  |none=>φ nm
 have uw:∀ (i:Nat) (hi:i<L.length),φ' L[i]=φ2 [i,1]:=fun i hi=>by
  show (if L[i]∈L then φ2 (cin L L[i])else _)=_
  rw[if_pos (List.getElem_mem hi)]
  show φ2 [idx L L[i],1]=_
  rw[Bm hn hi]
 have xe:∀ x∈o.new,φ' (x.1++t)=φ2 x.1:=fun x hx=>by
  show (if x.1++t∈L then _ else _)=_
  rw[if_neg fun h=>qy _ h x hx rfl]
  cases oZ:o.new.find? (fun y=>y.1++t==x.1++t)with
  |none=>have:=List.find?_eq_none.1 oZ x hx;simp at this
  |some y=>
   have :=List.find?_some oZ
   simp only[beq_iff_eq]at this
   simp only[List.append_cancel_right this]
 have xd:∀ nm,nm∉L->(∀ x∈o.new,nm≠x.1++t)->φ' nm=φ nm:=fun nm h h'=>by
  show (if nm∈L then _ else _)=_
  rw[if_neg h]
  cases oZ:o.new.find? (fun y=>y.1++t==nm)with
  |none=>rfl
  |some y=>
   have :=List.find?_some oZ
   simp only[beq_iff_eq]at this
   exact(h' y (List.mem_of_find?_eq_some oZ) this.symm).elim
 let m':Mem:=fun b off=>match m2 b off with | some c=>some c | none=>m b off
 have xu:=eP.own
 have qp:∀ b,oc L φ σ.obj b->b<w.heap.size:=fun b ⟨nm,h,⟨o',k1,k2,k3⟩,e⟩=>by rw[<-e];exact(hC.objs nm o' k1).lt k2 k3
 have BU:Mem.le m m':=by
  intro b off v h
  show (match m2 b off with | some c=>some c | none=>m b off)=some v
  cases hq:m2 b off with
  |none=>exact h
  |some c=>
   have k1:=eP.mem b off c hq
   have k2:=hC.mem b off v h
   rw[pn (eP.fr.block b (mQ k2) fun ⟨nm,_,k3,e⟩=>by
    have :=hC.apart nm k3 off;rw[e,h]at this;cases this)]at k1
   have k3:World.cell? w ⟨b,off,none⟩=some c:=k1
   rw[k2]at k3;exact k3.symm
 have BT:Mem.le m2 m':=by
  intro b off v h
  show (match m2 b off with | some c=>some c | none=>m b off)=some v
  rw[h]
 have xF:∀ b off v,m' b off=some v->m2 b off=some v\/(m2 b off=none/\m b off=some v):=by
  intro b off v h
  have h':(match m2 b off with | some c=>some c | none=>m b off)=some v:=h
  cases hq:m2 b off with
  |none=>rw[hq]at h';exact .inr ⟨rfl,h'⟩
  |some c=>rw[hq]at h';exact .inl h'
 have Cg:∀ x,cL L.length o.new x=true->(∃ (i:Nat) (hi:i<L.length),x=[i,1])\/(cJ x=false/\∃ y∈o.new,y.1=x):=by
  intro x hx
  unfold cL at hx
  split at hx
  ·rename_i i
   exact .inl ⟨i,by simpa using hx,rfl⟩
  ·obtain⟨y,hy,e⟩:=List.any_eq_true.1 hx
   simp only[beq_iff_eq]at e
   subst e
   exact .inr ⟨BQ y hy,y,hy,rfl⟩
 have sB:∀ (i:Nat) (hi:i<L.length),cout L t [i,1]=L[i]:=fun i hi=>jU hi
 have lS:∀ (i:Nat) (hi:i<L.length),σ2.obj [i,1]=some (eo o.upd i (ck L σ.obj L[i])):=fun i hi=>by
  have :=h1 i (by simpa using hi)
  simpa using this
 have BA:vH (cout L t) φ2 φ' σ2.obj obj' (cL L.length o.new):=by
  intro x q hd hq
  rcases Cg x hd with⟨i,hi,rfl⟩ | ⟨hi,y,hy,rfl⟩
  ·rw[sB i hi,xw i hi,uw i hi]
   rw[lS i hi]at hq;cases hq
   exact⟨_,rfl,.inl ⟨O.len_ren _ _,rfl,O.sz_ren _ _⟩⟩
  ·rw[sT hi,BO y hy,xe y hy]
   rw[h2 y hy]at hq;cases hq
   exact⟨_,rfl,.inl ⟨O.len_ren _ _,rfl,O.sz_ren _ _⟩⟩
 have TZ:∀ (i:Nat) (hi:i<L.length),O.clos (cL L.length o.new) (eo o.upd i (ck L σ.obj L[i]))=true:=by
  intro i hi
  refine Gv _ _ _ ?_ xk
  obtain⟨o',ho,hc⟩:=tz hL (List.getElem_mem hi)
  simp only[ck,ho]
  refine O.clos_ren (fun nm hd=>?_) o' hc
  obtain⟨k1,_⟩:=sk (fD.1 hd)
  show decide (idx L nm<L.length)=true
  simpa using k1
 have xO:Ext φ φ' σ.obj obj':=by
  intro nm q hq
  by_cases eX:nm∈L
  ·obtain⟨i,hi,rfl⟩:=List.getElem_of_mem eX
   obtain⟨Ax,k1,k2⟩:=eP.kept.2 [i,1] (ck L σ.obj L[i]) (by
    show iE L σ.obj [i,1]=_
    show (if i<L.length then _ else _)=_
    rw[if_pos hi,jU hi])
   have Sx:Ax=eo o.upd i (ck L σ.obj L[i]):=by rw[lS i hi]at k1;exact(Option.some.inj k1).symm
   subst Sx
   have SK:la L φ [i,1]=φ L[i]:=by show φ (L.getD i [])=_;rw[jU hi]
   have cq:(ck L σ.obj L[i]).len?=q.len?/\(ck L σ.obj L[i]).sz=q.sz:=by
    simp only[ck,hq];exact⟨O.len_ren _ _,O.sz_ren _ _⟩
   refine⟨_,xw i hi,?_⟩
   rw[O.len_ren,O.sz_ren,uw i hi]
   rcases k2 with⟨a1,a2,a3⟩ | ⟨n,n',a1,a2,a3⟩
   ·exact .inl ⟨a1.trans cq.1,(a2:φ2 [i,1]=la L φ [i,1]).trans SK,a3.trans cq.2⟩
   ·exact .inr ⟨n,n',cq.1▸a1,a2,a3⟩
  ·have oU:∀ x∈o.new,nm≠x.1++t:=fun x hx e=>by rw[e,cB x hx]at hq;cases hq
   exact⟨q,by rw[BN nm eX oU];exact hq,.inl ⟨rfl,xd nm eX oU,rfl⟩⟩
 have sD:∀ nm,holds φ' obj' nm->(∃ x,holds φ2 σ2.obj x/\φ' nm=φ2 x/\nm=cout L t x/\cL L.length o.new x=true)\/(nm∉L/\(∀ x∈o.new,nm≠x.1++t)/\holds φ σ.obj nm/\φ' nm=φ nm):=by
  rintro nm ⟨q,k1,k2,k3⟩
  by_cases eX:nm∈L
  ·obtain⟨i,hi,rfl⟩:=List.getElem_of_mem eX
   left
   rw[xw i hi]at k1;cases k1
   rw[O.mut_ren]at k2
   rw[uw i hi]at k3
   exact⟨[i,1],⟨_,lS i hi,k2,k3⟩,uw i hi,(sB i hi).symm,by show decide (i<L.length)=true;simpa using hi⟩
  ·by_cases oU:∃ x∈o.new,nm=x.1++t
   ·obtain⟨x,hx,rfl⟩:=oU
    left
    rw[BO x hx]at k1;cases k1
    rw[O.mut_ren]at k2
    rw[xe x hx]at k3
    refine⟨x.1,⟨_,h2 x hx,k2,k3⟩,xe x hx,(sT (BQ x hx)).symm,?_⟩
    exact VK (BQ x hx) hx
   ·have qj:∀ x∈o.new,nm≠x.1++t:=fun x hx e=>oU ⟨x,hx,e⟩
    right
    rw[BN nm eX qj]at k1
    rw[xd nm eX qj]at k3
    exact⟨eX,qj,⟨q,k1,k2,k3⟩,xd nm eX qj⟩
 have hG:∀ nm,nm∉L->holds φ σ.obj nm->(φ nm).blk<w.heap.size/\¬ oc L φ σ.obj (φ nm).blk:=by
  intro nm eX hh
  obtain⟨q,k1,k2,k3⟩:=hh
  refine⟨(hC.objs nm q k1).lt k2 k3,fun ⟨x,k4,k5,k6⟩=>?_⟩
  exact eX (hC.inj _ _ k5 ⟨q,k1,k2,k3⟩ k6▸k4)
 have adn:∀ x y,cL L.length o.new x=true->cL L.length o.new y=true->cout L t x=cout L t y->x=y:=by
  intro x y hx hy e
  rcases Cg x hx with⟨i,hi,rfl⟩ | ⟨k1,x',bn,rfl⟩<;>rcases Cg y hy with⟨j,hj,rfl⟩ | ⟨k2,y',SP,rfl⟩
  ·rw[sB i hi,sB j hj]at e
   rw[(List.getElem_inj hn).1 e]
  ·rw[sB i hi,sT k2]at e
   exact(qy _ (List.getElem_mem hi) y' SP e).elim
  ·rw[sB j hj,sT k1]at e
   exact(qy _ (List.getElem_mem hj) x' bn e.symm).elim
  ·rw[sT k1,sT k2]at e
   exact List.append_cancel_right e
 refine⟨φ',m',BU,?_,xO,fun d u hd hc=>hd.renx BT BA hc⟩
 constructor
 ·exact fun x=>(hC.tmps x).ext BU xO
 ·exact hC.size
 ·obtain⟨ds,k1,k2,k3⟩:=hC.defers
  refine⟨ds,k1,k2,fun D hD=>⟨(k3 D hD).1,?_⟩⟩
  have k4:=(k3 D hD).2
  rw[eP.fr.block D (Array.getElem?_eq_some_iff.1 k4).1 fun ⟨x,_,⟨q,k5,k6,k7⟩,k8⟩=>(hC.objs x q k5).notDef k6 k7 _ (by rw[k8];exact k4)]
  exact k4
 ·intro nm q hq
  by_cases eX:nm∈L
  ·obtain⟨i,hi,rfl⟩:=List.getElem_of_mem eX
   have bX:obj' L[i]=some q:=hq
   rw[xw i hi]at bX;cases bX
   rw[uw i hi]
   exact(eP.objs _ _ (lS i hi)).ren BT BA (TZ i hi) fun _ _=>rfl
  ·by_cases oU:∃ x∈o.new,nm=x.1++t
   ·obtain⟨x,hx,rfl⟩:=oU
    have bX:obj' (x.1++t)=some q:=hq
    rw[BO x hx]at bX;cases bX
    rw[xe x hx]
    exact(eP.objs _ _ (h2 x hx)).ren BT BA (Tq x hx) fun _ _=>rfl
   ·have qj:∀ x∈o.new,nm≠x.1++t:=fun x hx e=>oU ⟨x,hx,e⟩
    have bX:obj' nm=some q:=hq
    rw[BN nm eX qj]at bX
    rw[xd nm eX qj]
    refine(hC.objs nm q bX).ext BU xO fun k2 k3=>?_
    obtain⟨k4,k5⟩:=hG nm eX ⟨q,bX,k2,k3⟩
    exact eP.fr.block _ k4 k5
 ·intro b off v h
  rcases xF b off v h with h | ⟨xE,h⟩
  ·exact eP.mem b off v h
  ·have k2:=hC.mem b off v h
   rw[pn (eP.fr.block b (mQ k2) fun ⟨nm,_,k3,e⟩=>by
    have :=hC.apart nm k3 off;rw[e,h]at this;cases this)]
   exact k2
 ·intro nm hh off
  rcases sD nm hh with⟨x,k1,k2,_,_⟩ | ⟨k1,k2,k3,k4⟩
  ·rw[k2]
   cases hq:m' (φ2 x).blk off with
   |none=>rfl
   |some v=>
    rcases xF _ _ _ hq with h | ⟨_,h⟩
    ·have:=eP.apart x k1 off;rw[h]at this;cases this
    ·rcases xu x k1 with h' | ⟨jb,k5,k6,k7⟩
     ·have:=mQ (hC.mem _ _ _ h)
      have fL:w.heap.size<=(φ2 x).blk:=h'
      omega
     ·have:=hC.apart jb k6 off
      rw[k7,h]at this;cases this
  ·rw[k4]
   obtain⟨k5,k6⟩:=hG nm k1 k3
   cases hq:m' (φ nm).blk off with
   |none=>rfl
   |some v=>
    rcases xF _ _ _ hq with h | ⟨_,h⟩
    ·rcases eP.fresh _ _ _ h with h' | h' | h'
     ·have:=hC.apart nm k3 off
      have fL:m (φ nm).blk off=some v:=h'
      rw[fL]at this;cases this
     ·have fL:w.heap.size<=(φ nm).blk:=h'
      omega
     ·exact(k6 h').elim
    ·have:=hC.apart nm k3 off;rw[h]at this;cases this
 ·intro nm jb hh TP e
  rcases sD nm hh with⟨x,k1,k2,k3,k4⟩ | ⟨k1,k2,k3,k4⟩<;>rcases sD jb TP with⟨x',j1,j2,j3,j4⟩ | ⟨j1,j2,j3,j4⟩
  ·rw[k2,j2]at e
   rw[k3,j3,eP.inj _ _ k1 j1 e]
  ·exfalso
   rw[k2,j4]at e
   obtain⟨k5,k6⟩:=hG jb j1 j3
   rcases xu x k1 with h' | h'
   ·have fL:w.heap.size<=(φ2 x).blk:=h'
    omega
   ·rw[e]at h';exact k6 h'
  ·exfalso
   rw[k4,j2]at e
   obtain⟨k5,k6⟩:=hG nm k1 k3
   rcases xu x' j1 with h' | h'
   ·have fL:w.heap.size<=(φ2 x').blk:=h'
    omega
   ·rw[<-e]at h';exact k6 h'
  ·rw[k4,j4]at e
   exact hC.inj _ _ k3 j3 e
 ·intro nm hh
  rcases sD nm hh with⟨x,k1,k2,_,_⟩ | ⟨k1,k2,k3,k4⟩
  ·rw[k2]
   rcases xu x k1 with h' | ⟨jb,k5,k6,k7⟩
   ·exact .inl (Nat.le_trans hC.fr.size h')
   ·rw[<-k7];exact hC.own jb k6
  ·rw[k4];exact hC.own nm k3
 ·refine⟨eP.fr.os.trans hC.fr.os,eP.fr.tape.trans hC.fr.tape,eP.fr.output.trans hC.fr.output,Nat.le_trans hC.fr.size eP.fr.size,fun b hb ho=>?_⟩
  rw[eP.fr.block b (Nat.lt_of_lt_of_le hb hC.fr.size) fun ⟨nm,_,k3,e⟩=>?_]
  ·exact hC.fr.block b hb ho
  ·rcases hC.own nm k3 with h | h<;>rw[e]at h
   ·omega
   ·exact ho h
 ·intro b off v h
  rcases xF b off v h with h | ⟨_,h⟩
  ·rcases eP.fresh _ _ _ h with h' | h' | ⟨nm,_,k3,e⟩
   ·exact hC.fresh _ _ _ h'
   ·exact .inr (.inl (Nat.le_trans hC.fr.size h'))
   ·rw[<-e];exact .inr (hC.own nm k3)
  ·exact hC.fresh _ _ _ h
 ·exact⟨hC.kept.1,hC.kept.2.trans xO⟩
end
def cN:Nat->List D->List (Nat×E)
 |_,[]=>[]
 |k,x::r=>(k,⟨true,x⟩)::cN (k+1) r
theorem LA:∀ {k:Nat} {xs:List D} {t:Nat} {e:E},(t,e)∈cN k xs->∃ (i:Nat) (h:i<xs.length),t=k+i/\e=⟨true,xs[i]⟩
 |k,[],t,e,h=>by simp[cN]at h
 |k,x::r,t,e,h=>by
  simp only[cN,List.mem_cons,Prod.mk.injEq]at h
  rcases h with⟨rfl,rfl⟩ | h
  ·exact⟨0,by simp,rfl,rfl⟩
  ·obtain⟨i,hi,h1,h2⟩:=LA h
   exact⟨i+1,by simpa using hi,by omega,by simpa using h2⟩
structure CSpec where
 pre:List O->List D->Prop
 out:List O->List D->Out
def cb(obj:Name->Option O)(ds:List D):List O:=(reach obj ds).map (ck (reach obj ds) obj)
def cH(obj:Name->Option O)(ds:List D):List D:=D.renL (cin (reach obj ds)) ds
def CSpec.toSpec(s:CSpec):Spec where
 app obj t ds:=⟨(shut obj (reach obj ds)&&D.closL (cE (reach obj ds)) ds&&fresh obj t (s.out (cb obj ds) (cH obj ds)).new)=true/\s.pre (cb obj ds) (cH obj ds),
  (s.out (cb obj ds) (cH obj ds)).d.ren (cout (reach obj ds) t),cV (reach obj ds) t (s.out (cb obj ds) (cH obj ds)).new (cf (reach obj ds) t (s.out (cb obj ds) (cH obj ds)).upd obj)⟩
 foot obj t ds:=reach obj ds++((s.out (cb obj ds) (cH obj ds)).upd.map fun x=>(reach obj ds).getD x.1 [])++(s.out (cb obj ds) (cH obj ds)).new.map fun x=>x.1++t
 wrt obj t ds:=((s.out (cb obj ds) (cH obj ds)).upd.map fun x=>(reach obj ds).getD x.1 [])++(s.out (cb obj ds) (cH obj ds)).new.map fun x=>x.1++t
theorem rT{L:List Name}{t:Name}:∀ (l:List (Nat×O)) (obj obj2:Name->Option O) (nm:Name),cf L t l obj2 nm=if nm∈l.map (fun x=>L.getD x.1 [])then cf L t l obj nm else obj2 nm
 |[],obj,obj2,nm=>by simp[cf]
 |(i,o)::r,obj,obj2,nm=>by
  simp only[cf,List.map_cons,List.mem_cons]
  rw[rT r (upd obj (L.getD i []) (some (o.ren (cout L t)))) (upd obj2 (L.getD i []) (some (o.ren (cout L t)))) nm]
  by_cases h:nm∈r.map (fun x=>L.getD x.1 [])
  ·rw[if_pos h,if_pos (.inr h)]
  ·rw[if_neg h]
   by_cases e:nm=L.getD i []
   ·rw[if_pos (.inl e)]
    have hu:cf L t r (upd obj (L.getD i []) (some (o.ren (cout L t)))) nm=(upd obj (L.getD i []) (some (o.ren (cout L t)))) nm:=by
     rw[rT r obj _ nm,if_neg h]
    rw[hu,e,aN,aN]
   ·rw[if_neg (by simp only[not_or];exact⟨e,h⟩)]
    exact aV _ _ _ e
theorem pN{L:List Name}{t:Name}:∀ (l:List (Name×O)) (obj obj2:Name->Option O) (nm:Name),cV L t l obj2 nm=if nm∈l.map (fun x=>x.1++t)then cV L t l obj nm else obj2 nm
 |[],obj,obj2,nm=>by simp[cV]
 |(i,o)::r,obj,obj2,nm=>by
  simp only[cV,List.map_cons,List.mem_cons]
  rw[pN r (upd obj (i++t) (some (o.ren (cout L t)))) (upd obj2 (i++t) (some (o.ren (cout L t)))) nm]
  by_cases h:nm∈r.map (fun x=>x.1++t)
  ·rw[if_pos h,if_pos (.inr h)]
  ·rw[if_neg h]
   by_cases e:nm=i++t
   ·rw[if_pos (.inl e)]
    have hu:cV L t r (upd obj (i++t) (some (o.ren (cout L t)))) nm=(upd obj (i++t) (some (o.ren (cout L t)))) nm:=by
     rw[pN r obj _ nm,if_neg h]
    rw[hu,e,aN,aN]
   ·rw[if_neg (by simp only[not_or];exact⟨e,h⟩)]
    exact aV _ _ _ e
theorem nc{obj obj2:Name->Option O}{ds:List D}(h:bC (reach obj ds) obj obj2):reach obj2 ds=reach obj ds:=Ac _ _ _ h
theorem vp{obj obj2:Name->Option O}{ds:List D}(h:bC (reach obj ds) obj obj2):cb obj2 ds=cb obj ds:=by
 unfold cb
 rw[nc h]
 exact List.map_congr_left fun nm hn=>by simp only[ck];rw[h nm hn]
theorem Df{obj obj2:Name->Option O}{ds:List D}(h:bC (reach obj ds) obj obj2):cH obj2 ds=cH obj ds:=by
 unfold cH
 rw[nc h]
theorem zO{obj obj2:Name->Option O}{L:List Name}(h:bC L obj obj2):shut obj2 L=shut obj L:=by
 unfold shut
 refine Bool.eq_iff_iff.2 ?_
 simp only[List.all_eq_true]
 exact⟨fun k x hx=>by rw[<-h x hx];exact k x hx,fun k x hx=>by rw[h x hx];exact k x hx⟩
theorem yd{obj obj2:Name->Option O}{t:Name}{new:List (Name×O)}(h:bC (new.map fun x=>x.1++t) obj obj2):fresh obj2 t new=fresh obj t new:=by
 unfold fresh
 refine Bool.eq_iff_iff.2 ?_
 simp only[List.all_eq_true]
 exact⟨fun k x hx=>by rw[<-h _ (List.mem_map_of_mem hx)];exact k x hx,fun k x hx=>by rw[h _ (List.mem_map_of_mem hx)];exact k x hx⟩
theorem A0{ok ok2:Prop}{d:D}{obj obj2:Name->Option O}{L:List Name}{t:Name}{o:Out}(aa:ok2=ok)
 (ha:bC ((o.upd.map fun x=>L.getD x.1 [])++o.new.map fun x=>x.1++t) obj obj2):
 bG ⟨ok,d,cV L t o.new (cf L t o.upd obj)⟩ ⟨ok2,d,cV L t o.new (cf L t o.upd obj2)⟩ obj obj2 ((o.upd.map fun x=>L.getD x.1 [])++o.new.map fun x=>x.1++t):=by
 refine⟨aa,rfl,fun nm=>?_,fun nm hn=>?_⟩
 ·show cV L t o.new (cf L t o.upd obj2) nm=if nm∈_ then cV L t o.new (cf L t o.upd obj) nm else obj2 nm
  rw[pN o.new (cf L t o.upd obj) (cf L t o.upd obj2) nm]
  by_cases h1:nm∈o.new.map (fun x=>x.1++t)
  ·rw[if_pos h1,if_pos (List.mem_append_right _ h1)]
  ·rw[if_neg h1,rT o.upd obj obj2 nm]
   by_cases h2:nm∈o.upd.map (fun x=>L.getD x.1 [])
   ·rw[if_pos h2,if_pos (List.mem_append_left _ h2)]
    rw[pN o.new obj (cf L t o.upd obj) nm,if_neg h1]
   ·rw[if_neg h2,if_neg (by simp only[List.mem_append,not_or];exact⟨h2,h1⟩)]
 ·show cV L t o.new (cf L t o.upd obj) nm=obj nm
  simp only[List.mem_append,not_or]at hn
  rw[pN o.new obj (cf L t o.upd obj) nm,if_neg hn.2,rT o.upd obj obj nm,if_neg hn.1]
theorem CSpec.near(s:CSpec):s.toSpec.Near:=by
 have key:∀ {obj obj2:Name->Option O} {t:Name} {ds:List D},bC (s.toSpec.foot obj t ds) obj obj2->bC (reach obj ds) obj obj2/\
     bC (((s.out (cb obj ds) (cH obj ds)).upd.map fun x=>(reach obj ds).getD x.1 [])++(s.out (cb obj ds) (cH obj ds)).new.map fun x=>x.1++t) obj obj2:=by
  intro obj obj2 t ds h
  refine⟨fun nm hn=>h nm ?_,fun nm hn=>h nm ?_⟩
  ·exact List.mem_append_left _ (List.mem_append_left _ hn)
  ·rcases List.mem_append.1 hn with hn | hn
   ·exact List.mem_append_left _ (List.mem_append_right _ hn)
   ·exact List.mem_append_right _ hn
 refine⟨fun obj obj2 t ds h=>?_,fun obj obj2 t ds h=>?_,fun obj t ds nm hn=>?_,fun obj obj2 t ds h=>?_⟩
 ·obtain⟨h1,h2⟩:=key h
  simp only[CSpec.toSpec]
  rw[vp h1,Df h1,nc h1]
  refine A0 ?_ h2
  rw[zO h1,yd fun nm hn=>h2 nm (List.mem_append_right _ hn)]
 ·obtain⟨h1,h2⟩:=key h
  simp only[CSpec.toSpec]
  rw[vp h1,Df h1,nc h1]
 ·simp only[CSpec.toSpec]at hn |-
  rcases List.mem_append.1 hn with hn | hn
  ·exact List.mem_append_left _ (List.mem_append_right _ hn)
  ·exact List.mem_append_right _ hn
 ·obtain⟨h1,h2⟩:=key h
  simp only[CSpec.toSpec]
  rw[vp h1,Df h1,nc h1]
def pP(σ:S)(u:List (Nat×O)):Nat->List O->Prop
 |_,[]=>True
 |i,o::r=>σ.obj [i,1]=some (eo u i o)/\pP σ u (i+1) r
theorem FU{σ:S}{u:List (Nat×O)}:∀ {l:List O} {k:Nat},pP σ u k l->∀ i (h:i<l.length),σ.obj [k+i,1]=some (eo u (k+i) l[i])
 |o::r,k,h,0,_=>h.1
 |o::r,k,h,i+1,hi=>by
  have :=FU h.2 i (by simpa using hi)
  rw[show k+(i+1)=k+1+i by omega]
  simpa using this
def tR(σ:S):List (Name×O)->Prop
 |[]=>True
 |x::r=>σ.obj x.1=some x.2/\tR σ r
theorem FY{σ:S}:∀ {l:List (Name×O)},tR σ l->∀ x∈l,σ.obj x.1=some x.2
 |y::r,h,x,hx=>by
  rcases List.mem_cons.1 hx with rfl | hx
  ·exact h.1
  ·exact FY h.2 x hx
def distinct:List Name->Bool
 |[]=>true
 |x::r=>(r.all fun y=>!(x==y))&&distinct r
theorem Km:∀ {l:List Name},distinct l=true->l.Nodup
 |[],_=>by simp
 |x::r,h=>by
  simp only[distinct,Bool.and_eq_true]at h
  refine List.nodup_cons.2 ⟨fun hx=>?_,Km h.2⟩
  have :=List.all_eq_true.1 h.1 x hx
  simp at this
def ft(os:List O)(o:Out)(σ:S):Prop:=
 pP σ o.upd 0 os/\tR σ o.new/\
  (D.clos (cL os.length o.new) o.d&&(o.upd.all fun x=>O.clos (cL os.length o.new) x.2&&decide (x.1<os.length))&&(o.new.all fun x=>O.clos (cL os.length o.new) x.2&&!cJ x.1)&&distinct (o.new.map (·.1)))=true
theorem Ki{os:List O}{o:Out}{σ:S}(h:ft os o σ):Mm σ os o:=by
 obtain⟨h1,h2,h3⟩:=h
 simp only[Bool.and_eq_true]at h3
 exact⟨fun i hi=>by simpa using FU h1 i hi,FY h2,h3.1.1.1,h3.1.1.2,by simpa using h3.1.2,Km h3.2⟩
def tI(P:Program)(rs:List ResultVar)(os:List O)(o:Out):Exit->S->Prop
 | .normal,σ=>(bF P σ rs).ok/\(bF P σ rs).d=o.d/\ft os o σ
 | .ret,σ=>(bF P σ rs).ok/\(bF P σ rs).d=o.d/\ft os o σ
 |_,_=>False
def aS(os:List O):Name->Option O
 |[i,1]=>os[i]?
 |_=>none
theorem PN{L:List Name}{obj:Name->Option O}{x:Name}(h:cJ x=false):iE L obj x=none:=by
 unfold iE
 split
 ·simp[cJ]at h
 ·rfl
theorem wC{os:List O}{x:Name}(h:cJ x=false):aS os x=none:=by
 unfold aS
 split
 ·simp[cJ]at h
 ·rfl
theorem wL{L:List Name}{obj:Name->Option O}:iE L obj=aS (L.map (ck L obj)):=by
 funext x
 cases hx:cJ x with
 |false=>rw[PN hx,wC hx]
 |true=>
  obtain⟨i,rfl⟩:=um.1 hx
  show (if i<L.length then some (ck L obj (L.getD i []))else none)=(L.map (ck L obj))[i]?
  by_cases hi:i<L.length
  ·rw[if_pos hi,List.getElem?_eq_getElem (by simpa using hi)]
   rw[jU hi,List.getElem_map]
  ·rw[if_neg hi,List.getElem?_eq_none (by simpa using hi)]
theorem AJ{nt:Nat}{l:List (Nat×E)}{os:List O}:ba nt [0] (aS os) l []=⟨nt,di eAny l,aS os,[0],0⟩:=by
 unfold ba
 congr 1
 funext nm
 split
 ·rename_i h
  have :cJ nm=false:=by
   cases hc:cJ nm with
   |false=>rfl
   |true=>
    obtain⟨i,rfl⟩:=um.1 hc
    rw[FB]at h;cases h
  unfold aS
  split
  ·simp[cJ]at this
  ·rfl
 ·rfl
theorem mM{P:Program}{f:FuncId}{fn:Func}{c:Code}{s:CSpec}{nt:Nat}{rs:List ResultVar}(hf:P.funcs[f]?=some fn)(hb:fn.body=some c)(cG:fn.ntmps=nt)(bW:fn.results.toList=rs)
 (jQ:∀ args w,(callFunc f args).run P w=.ok (.enter f args) w) (aD:f≠yid)
 (h:∀ os ds,s.pre os ds->ds.length<=nt/\CW P c (ba nt [0] (aS os) (cN 0 ds) []) (tI P rs os (s.out os ds))):aL P f s.toSpec:=by
 subst cG
 subst bW
 refine⟨s.near,fun _=>jQ,fun _ G φ m σ a w hC t ds us _ hl hr aa=>?_,fun e=>(aD e).elim⟩
 obtain⟨aa,dn⟩:=aa
 simp only[Bool.and_eq_true]at aa
 obtain⟨⟨iM,cq⟩,cB⟩:=aa
 obtain⟨hlen,lT⟩:=h _ _ dn
 have b9:(reach σ.obj ds).Nodup:=wu _ _ _ (by simp)
 simp only[cH,ja,List.length_map]at hlen
 refine(callsIn_wide (n:=0)).1 (callsIn_of_wp_marks hf hb trivial ?_)
 have jm:=JV hC (L:=reach σ.obj ds) b9 iM (rd:=none) (fun l h=>by cases h) (b0:=0) (nt:=fn.ntmps) (env:=di eAny (cN 0 (cH σ.obj ds)))
  (tmps:=us++Array.replicate (fn.ntmps-us.size) undef) (by simp;omega) (fun t=>by
    rcases rZ (z:=eAny) (cN 0 (cH σ.obj ds)) t with h1 | h1
    ·rw[h1];unfold bZ eAny;simp;exact .any _
    ·obtain⟨i,hi,h2,h3⟩:=LA h1
     rw[h3]
     unfold bZ
     simp only[if_true]
     simp only[cH,ja,List.length_map]at hi
     have bu:i<us.size:=by omega
     have e:((us++Array.replicate (fn.ntmps-us.size) undef).getD t undef)=us[i]:=by
      have au:0+i<(us++Array.replicate (fn.ntmps-us.size) undef).size:=by simp;omega
      rw[h2]
      simp only[Array.getD,au,dite_true]
      show (us++Array.replicate (fn.ntmps-us.size) undef)[0+i]=us[i]
      simp only[Nat.zero_add]
      exact Array.getElem_append_left bu
     rw[e]
     simp only[cH,ja,List.getElem_map]
     exact(hr i hi bu).renx (Mem.le_refl m) wt (gL hi cq))
 rw[AJ]at lT
 rw[wL]at jm
 refine wpIn_mono (lT _ _ m _ w jm) ?_
 rintro e a1 w1 ⟨φ2,m2,σ2,fV,hK⟩
 have fin:(bF P σ2 fn.results.toList).ok/\(bF P σ2 fn.results.toList).d=(s.out (cb σ.obj ds) (cH σ.obj ds)).d/\ft (cb σ.obj ds) (s.out (cb σ.obj ds) (cH σ.obj ds)) σ2->
     LeavesInM Fence.wide 0 P fn a1.tmps (fun e w'=>∃ v φ' m',e=.returned v/\aM G φ' m' { σ with obj:=(s.toSpec.app σ.obj t ds).obj } a w'/\aA φ' (s.toSpec.app σ.obj t ds).obj m' (s.toSpec.app σ.obj t ds).d v/\Ext φ φ' σ.obj (s.toSpec.app σ.obj t ds).obj) a1.defers .returning w1:=by
  rintro⟨h1,h2,h3⟩
  refine A2 a1.defers rfl fV fun a' w' _ ca=>?_
  obtain⟨v,h4,h5⟩:=EX ca fn h1
  rw[h2]at h5
  have hE:=Ki h3
  obtain⟨φ',m',k1,k2,k3,k4⟩:=JU hC b9 iM ca hE cB
  have sC:=hE.cd
  simp only[cb,List.length_map]at sC
  exact⟨v,h4,v,φ',m',rfl,k2,k4 _ _ h5 sC,k3⟩
 cases e with
 |normal=>exact fin hK
 |ret=>exact fin hK
 |_=>exact hK.elim
theorem bG.more{ok ok2:Prop}{d d2:D}{o1 o2 obj obj2:Name->Option O}{wr:List Name}(nm:Name)(x:Option O)(h:bG ⟨ok,d,o1⟩ ⟨ok2,d2,o2⟩ obj obj2 wr):
 bG ⟨ok,d,upd o1 nm x⟩ ⟨ok2,d2,upd o2 nm x⟩ obj obj2 (nm::wr):=by
 refine⟨h.ok,h.d,fun y=>?_,fun y hy=>?_⟩
 ·show upd o2 nm x y=if y∈nm::wr then upd o1 nm x y else obj2 y
  by_cases e:y=nm
  ·subst e;rw[aN,if_pos (by simp),aN]
  ·rw[aV _ _ _ e,aV _ _ _ e]
   have :=h.eff y
   simp only at this
   rw[this]
   by_cases hy:y∈wr
   ·rw[if_pos hy,if_pos (List.mem_cons_of_mem _ hy)]
   ·rw[if_neg hy,if_neg (by simp[e,hy])]
 ·simp only[List.mem_cons,not_or]at hy
  show upd o1 nm x y=obj y
  rw[aV _ _ _ hy.1]
  exact h.frame y hy.2
structure YSpec where
 pre:List E->List Nat->Code->Code->List O->List D->Prop
 out:List E->List Nat->Code->Code->List O->List D->Out×Option Code
def roots(env:List E)(ds:List D):List D:=env.map (·.d)++ds
def gw(obj:Name->Option O)(env:List E)(ds:List D):List E:=env.map (E.ren (cin (reach obj (roots env ds))))
def iu(obj:Name->Option O)(env:List E)(ds:List D):List D:=D.renL (cin (reach obj (roots env ds))) ds
def YSpec.o(y:YSpec)(obj:Name->Option O)(env:List E)(ps:List Nat)(asg body:Code)(ds:List D):Out×Option Code:=
 y.out (gw obj env ds) ps asg body (cb obj (roots env ds)) (iu obj env ds)
def YSpec.toSpec(y:YSpec):Spec where
 app obj t args:=match args with
  | .yld nm::ds=>match obj nm with
    |some (.loop env ps asg body .ready none)=>
     ⟨(shut obj (reach obj (roots env ds))&&D.closL (cE (reach obj (roots env ds))) (roots env ds)&&fresh obj t (y.o obj env ps asg body ds).1.new&&!cE (reach obj (roots env ds)) nm&&
         decide (ds.length=ps.length)&&(ps.all fun p=>decide (p<env.length)))=true/\y.pre (gw obj env ds) ps asg body (cb obj (roots env ds)) (iu obj env ds),
       .v (.bool (y.o obj env ps asg body ds).2.isNone),
       upd (cV (reach obj (roots env ds)) t (y.o obj env ps asg body ds).1.new (cf (reach obj (roots env ds)) t (y.o obj env ps asg body ds).1.upd obj)) nm
        (some (.loop env ps asg body (if (y.o obj env ps asg body ds).2.isNone then .ready else .done) (y.o obj env ps asg body ds).2))⟩
    |_=>.bad obj
  |_=>.bad obj
 foot obj t args:=match args with
  | .yld nm::ds=>nm::(match obj nm with
    |some (.loop env ps asg body .ready none)=>reach obj (roots env ds)++((y.o obj env ps asg body ds).1.upd.map fun x=>(reach obj (roots env ds)).getD x.1 [])++(y.o obj env ps asg body ds).1.new.map fun x=>x.1++t
    |_=>[])
  |_=>[]
 wrt obj t args:=match args with
  | .yld nm::ds=>nm::(match obj nm with
    |some (.loop env ps asg body .ready none)=>((y.o obj env ps asg body ds).1.upd.map fun x=>(reach obj (roots env ds)).getD x.1 [])++(y.o obj env ps asg body ds).1.new.map fun x=>x.1++t
    |_=>[])
  |_=>[]
theorem YSpec.near(y:YSpec):y.toSpec.Near:=by
 have Av:∀ {obj obj2:Name->Option O} {env:List E} {ps:List Nat} {asg body:Code} {ds:List D},bC (reach obj (roots env ds)) obj obj2->
     y.o obj2 env ps asg body ds=y.o obj env ps asg body ds/\gw obj2 env ds=gw obj env ds/\iu obj2 env ds=iu obj env ds:=by
  intro obj obj2 env ps asg body ds h
  unfold YSpec.o gw iu
  rw[vp h,nc h]
  exact⟨rfl,rfl,rfl⟩
 have split:∀ {A B C:List Name} {obj obj2:Name->Option O} {nm:Name},bC (nm::(A++B++C)) obj obj2->bC A obj obj2/\bC (B++C) obj obj2:=by
  intro A B C obj obj2 nm h
  refine⟨fun x hx=>h x ?_,fun x hx=>h x ?_⟩
  ·exact List.mem_cons_of_mem _ (List.mem_append_left _ (List.mem_append_left _ hx))
  ·rcases List.mem_append.1 hx with hx | hx
   ·exact List.mem_cons_of_mem _ (List.mem_append_left _ (List.mem_append_right _ hx))
   ·exact List.mem_cons_of_mem _ (List.mem_append_right _ hx)
 have yC:∀ (args:List D),(∃ nm ds,args=.yld nm::ds)\/(∀ obj t,y.toSpec.app obj t args=.bad obj/\y.toSpec.foot obj t args=[]/\y.toSpec.wrt obj t args=[]):=by
  intro args
  rcases args with _ | ⟨d,ds⟩
  ·exact .inr fun _ _=>⟨rfl,rfl,rfl⟩
  ·cases d with
   |yld nm=>exact .inl ⟨nm,ds,rfl⟩
   |_=>exact .inr fun _ _=>⟨rfl,rfl,rfl⟩
 refine⟨fun obj obj2 t args h=>?_,fun obj obj2 t args h=>?_,fun obj t args jb hn=>?_,fun obj obj2 t args h=>?_⟩
 ·rcases yC args with⟨nm,ds,rfl⟩ | hb
  ·simp only[YSpec.toSpec]at h |-
   have h0:obj2 nm=obj nm:=h nm (by simp)
   rw[h0]
   split
   ·rename_i env ps asg body ho
    simp only[ho]at h
    obtain⟨h1,h2⟩:=split h
    obtain⟨e1,e2,e3⟩:=Av (ps:=ps) (asg:=asg) (body:=body) h1
    rw[e1,e2,e3,vp h1,nc h1]
    refine bG.more nm _ (A0 ?_ h2)
    rw[zO h1,yd fun nm hn=>h2 nm (List.mem_append_right _ hn)]
   ·exact .none _ fun x hx=>by simp only[List.mem_singleton]at hx;subst hx;exact h0
  ·rw[(hb obj t).1,(hb obj2 t).1,(hb obj t).2.2]
   exact .same rfl rfl rfl rfl
 ·rcases yC args with⟨nm,ds,rfl⟩ | hb
  ·simp only[YSpec.toSpec]at h |-
   have h0:obj2 nm=obj nm:=h nm (by simp)
   rw[h0]
   split
   ·rename_i env ps asg body ho
    simp only[ho]at h
    obtain⟨h1,h2⟩:=split h
    obtain⟨e1,e2,e3⟩:=Av (ps:=ps) (asg:=asg) (body:=body) h1
    rw[e1,nc h1]
   ·rfl
  ·rw[(hb obj t).2.1,(hb obj2 t).2.1]
 ·rcases yC args with⟨nm,ds,rfl⟩ | hb
  ·simp only[YSpec.toSpec]at hn |-
   rcases List.mem_cons.1 hn with rfl | hn
   ·simp
   ·refine List.mem_cons_of_mem _ ?_
    split at hn
    ·rename_i env ps asg body ho
     try simp only[ho]
     rcases List.mem_append.1 hn with hn | hn
     ·exact List.mem_append_left _ (List.mem_append_right _ hn)
     ·exact List.mem_append_right _ hn
    ·cases hn
  ·rw[(hb obj t).2.2]at hn;cases hn
 ·rcases yC args with⟨nm,ds,rfl⟩ | hb
  ·simp only[YSpec.toSpec]at h |-
   have h0:obj2 nm=obj nm:=h nm (by simp)
   rw[h0]
   split
   ·rename_i env ps asg body ho
    simp only[ho]at h
    obtain⟨h1,h2⟩:=split h
    obtain⟨e1,e2,e3⟩:=Av (ps:=ps) (asg:=asg) (body:=body) h1
    rw[e1,nc h1]
   ·rfl
  ·rw[(hb obj t).2.2,(hb obj2 t).2.2]
def qH(env:List E):Nat->E:=fun t=>env.getD t eAny
def ov:(Nat->E)->List Nat->List D->(Nat->E)
 |f,p::ps,d::ds=>ov (upd f p ⟨true,d⟩) ps ds
 |f,_,_=>f
def FE(k:S->Prop):Exit->S->Prop
 | .normal,σ=>k σ
 |_,_=>False
def OZ(os:List O)(o:Out×Option Code):Exit->S->Prop
 | .normal,σ=>o.2=none/\ft os o.1 σ
 | .ret,σ=>o.2=some .ret/\ft os o.1 σ
 | .exit id,σ=>o.2=some (.exit id)/\ft os o.1 σ
 |_,_=>False
theorem EC{φ:Name->Loc}{obj:Name->Option O}{m:Mem}{n:Nat}:∀ (ps:List Nat) (ds:List D) (us:List Value) (f:Nat->E) (tmps:Array Value),tmps.size=n->ps.length=ds.length->ds.length=us.length->
 (∀ p∈ps,p<n)->(∀ t,bZ φ obj m (f t) (tmps.getD t undef))->(∀ i (h:i<ds.length) (h':i<us.length),aA φ obj m ds[i] us[i])->
 (∀ t,bZ φ obj m (ov f ps ds t) (((ps.zip us).foldl (fun tmps (p:Nat×Value)=>tmps.setIfInBounds p.1 p.2) tmps).getD t undef))/\((ps.zip us).foldl (fun tmps (p:Nat×Value)=>tmps.setIfInBounds p.1 p.2) tmps).size=n
 |[],ds,us,f,tmps,hs,h1,h2,hp,hf,hr=>by
  have :ds=[]:=List.eq_nil_of_length_eq_zero (by simpa using h1.symm)
  subst this
  exact⟨hf,hs⟩
 |p::ps,[],us,f,tmps,hs,h1,h2,hp,hf,hr=>by simp at h1
 |p::ps,d::ds,[],f,tmps,hs,h1,h2,hp,hf,hr=>by simp at h2
 |p::ps,d::ds,u::us,f,tmps,hs,h1,h2,hp,hf,hr=>by
  simp only[List.zip_cons_cons,List.foldl_cons,ov]
  refine EC ps ds us _ _ (by simpa using hs) (by simpa using h1) (by simpa using h2) (fun q hq=>hp q (by simp[hq])) (fun t=>?_) fun i a b=>by
   have :=hr (i+1) (by simpa using a) (by simpa using b)
   simpa using this
  have ae:p<tmps.size:=by rw[hs];exact hp p (by simp)
  by_cases ht:t=p
  ·subst ht
   rw[aN]
   have e:(tmps.setIfInBounds t u).getD t undef=u:=by simp[Array.getD,ae]
   rw[e]
   unfold bZ
   simp only[if_true]
   exact hr 0 (by simp) (by simp)
  ·rw[aV _ _ _ ht]
   have e:(tmps.setIfInBounds p u).getD t undef=tmps.getD t undef:=by
    simp only[Array.getD_eq_getD_getElem?]
    rw[Array.getElem?_setIfInBounds_ne (fun h=>ht h.symm)]
   rw[e];exact hf t
theorem KG{wa wb:World}{m:Mem}{L:List Name}{φ:Name->Loc}{obj:Name->Option O}{l:Nat}{h h'}{φ1:Name->Loc}{m1:Mem}{σ1:S}{a1:Act}{w1 w2:World}
 (hC:aM (qD wa m L φ obj (some l) h) φ1 m1 σ1 a1 w1) (dd:wb.heap.size=wa.heap.size/\w2.heap.size=w1.heap.size) (ho:wb.os=w2.os/\wb.tape=w2.tape/\wb.output=w2.output)
 (hb:∀ b,b≠l->wb.heap[b]?=wa.heap[b]?) (h2:∀ b,b≠l->w2.heap[b]?=w1.heap[b]?) (hl:wb.heap[l]?=w2.heap[l]?):aM (qD wb m L φ obj (some l) h') φ1 m1 σ1 a1 w2:=by
 obtain⟨I3,r,hr⟩:=h l rfl
 have ae:l<wa.heap.size:=(Array.getElem?_eq_some_iff.1 hr).1
 have dS:w1.heap[l]?=some (.loop r):=(hC.fr.block l ae I3).trans hr
 constructor
 ·exact hC.tmps
 ·exact hC.size
 ·obtain⟨ds,k1,k2,k3⟩:=hC.defers
  refine⟨ds,k1,k2,fun D hD=>?_⟩
  obtain⟨k4,k5⟩:=k3 D hD
  have aD:D≠l:=fun e=>by subst e;rw[dS]at k5;cases k5
  exact⟨by show wb.heap.size<=D;rw[dd.1];exact k4,(h2 D aD).trans k5⟩
 ·intro nm o fG
  refine(hC.objs nm o fG).ext (Mem.le_refl _) (Ext.refl _ _) fun k1 k2=>h2 _ fun e=>?_
  rcases hC.own nm ⟨o,fG,k1,k2⟩with h3 | h3
  ·have h4:wa.heap.size<=(φ1 nm).blk:=h3
   omega
  ·rw[e]at h3;exact I3 h3
 ·intro b off v hv
  have h3:=hC.mem b off v hv
  rw[pn (h2 b (fun e=>by subst e;unfold World.cell? at h3;simp[dS]at h3))]
  exact h3
 ·exact hC.apart
 ·exact hC.inj
 ·intro nm hh
  rcases hC.own nm hh with h3 | h3
  ·exact .inl (by show wb.heap.size<=_;rw[dd.1];exact h3)
  ·exact .inr h3
 ·refine⟨ho.1.symm,ho.2.1.symm,ho.2.2.symm,by show wb.heap.size<=_;rw[dd.1,dd.2];exact hC.fr.size,fun b h3 h4=>?_⟩
  show w2.heap[b]?=wb.heap[b]?
  by_cases e:b=l
  ·subst e;exact hl.symm
  ·rw[h2 b e,hb b e]
   exact hC.fr.block b (by have:b<wb.heap.size:=h3;show b<wa.heap.size;omega) h4
 ·intro b off v hv
  rcases hC.fresh b off v hv with h3 | h3 | h3
  ·exact .inl h3
  ·exact .inr (.inl (by show wb.heap.size<=_;rw[dd.1];exact h3))
  ·exact .inr (.inr h3)
 ·exact hC.kept
theorem KQ{L:List Name}{obj:Name->Option O}{nm:Name}{x:Option O}(h:nm∉L){y:Name}(hy:y∈L):ck L (upd obj nm x) y=ck L obj y:=by
 unfold ck
 rw[aV _ _ _ (by rintro rfl;exact h hy)]
theorem PM{L:List Name}{obj:Name->Option O}{nm:Name}{x:Option O}(h:nm∉L):iE L (upd obj nm x)=iE L obj:=by
 rw[wL,wL]
 congr 1
 exact List.map_congr_left fun y hy=>KQ h hy
theorem Jp{L:List Name}{φ:Name->Loc}{obj:Name->Option O}{nm:Name}{x:Option O}(h:nm∉L):oc L φ (upd obj nm x)=oc L φ obj:=by
 funext b
 refine propext ⟨fun ⟨y,h1,⟨o,h2,h3⟩,h4⟩=>?_,fun ⟨y,h1,⟨o,h2,h3⟩,h4⟩=>?_⟩
 ·rw[aV _ _ _ (by rintro rfl;exact h h1)]at h2
  exact⟨y,h1,⟨o,h2,h3⟩,h4⟩
 ·exact⟨y,h1,⟨o,by rw[aV _ _ _ (by rintro rfl;exact h h1)];exact h2,h3⟩,h4⟩
theorem Vg{w:World}{m:Mem}{L:List Name}{φ:Name->Loc}{obj:Name->Option O}{nm:Name}{x:Option O}{rd:Option Nat}(h:nm∉L){h1}{h2}:qD w m L φ (upd obj nm x) rd h1=qD w m L φ obj rd h2:=by
 unfold qD
 simp only[PM h,Jp h]
theorem D0{P:Program}{y:YSpec}(h:∀ env ps asg body os ds,y.pre env ps asg body os ds->ds.length=ps.length->
 CW P asg ⟨env.length,ov (qH env) ps ds,aS os,[0],0⟩ (FE fun σ1=>CW P body σ1 (OZ os (y.out env ps asg body os ds)))):aL P yid y.toSpec:=by
 refine⟨y.near,fun e=>(e rfl).elim,fun e=>(e rfl).elim,fun _ G φ m σ a w hC t nm ds us _ hl hr _ aa o T5=>?_⟩
 simp only[YSpec.toSpec]at aa |-
 split at aa
 case h_2=>exact aa.elim
 rename_i env ps asg body ax
 try simp only[ax]
 obtain⟨aa,dn⟩:=aa
 simp only[Bool.and_eq_true,Bool.not_eq_true',decide_eq_true_eq]at aa
 obtain⟨⟨⟨⟨⟨iM,cq⟩,cB⟩,I5⟩,hlen⟩,fF⟩:=aa
 have eX:nm∉reach σ.obj (roots env ds):=fun h=>by rw[fD.2 h]at I5;cases I5
 have b9:(reach σ.obj (roots env ds)).Nodup:=wu _ _ _ (by simp)
 obtain⟨_,c0,r,dS,fa,hr3,BC,IS,IQ,IP,IN⟩:=hC.objs nm _ ax
 have ae:(φ nm).blk<w.heap.size:=(Array.getElem?_eq_some_iff.1 dS).1
 have qp:¬ oc (reach σ.obj (roots env ds)) φ σ.obj (φ nm).blk:=fun ⟨x,k1,k2,k3⟩=>eX (hC.inj _ _ k2 ⟨_,ax,rfl,c0⟩ k3▸k1)
 have nI:r.params.size=ps.length:=by rw[<-BC];simp
 intro next Q qh
 rw[T5,run_yield dS (by omega),Oper.uponIn_round]
 refine⟨fun h=>(by simp[eY,Fence.wide]at h),?_⟩
 rw[IS,IQ]
 refine roundIn_of_wpIn trivial ?_
 have ado:=cq
 have Um:∀ i (h:i<env.length),D.clos (cE (reach σ.obj (roots env ds))) env[i].d=true:=fun i hi=>by
  have :=gL (l:=roots env ds) (i:=i) (by simp[roots];omega) cq
  simp only[roots]at this |-
  rw[List.getElem_append_left (by simpa using hi)]at this
  simpa using this
 have Ul:∀ i (h:i<ds.length),D.clos (cE (reach σ.obj (roots env ds))) ds[i]=true:=fun i hi=>by
  have :=gL (l:=roots env ds) (i:=env.length+i) (by simp[roots];omega) cq
  simp only[roots]at this |-
  rw[List.getElem_append_right (by simp)]at this
  simpa using this
 obtain⟨q1,q2⟩:=EC (φ:=la (reach σ.obj (roots env ds)) φ) (obj:=iE (reach σ.obj (roots env ds)) σ.obj) (m:=m) (n:=env.length) ps (iu σ.obj env ds) us.toList (qH (gw σ.obj env ds)) r.tmps IP
  (by simp[iu,ja];omega) (by simp[iu,ja];omega) (fun p hp=>by have:=List.all_eq_true.1 fF p hp;simpa using this)
  (fun t=>by
    unfold qH
    by_cases ht:t<env.length
    ·have:=(IN t ht).renx (Mem.le_refl m) wt (Um t ht)
     have e:(gw σ.obj env ds).getD t eAny=E.ren (cin (reach σ.obj (roots env ds))) env[t]:=by
      rw[List.getD_eq_getElem?_getD,List.getElem?_eq_getElem (by simpa[gw]using ht)];simp[gw]
     rw[e];exact this
    ·have e:(gw σ.obj env ds).getD t eAny=eAny:=by
       rw[List.getD_eq_getElem?_getD,List.getElem?_eq_none (by simp[gw];omega)];rfl
     rw[e];unfold bZ eAny;simp;exact .any _)
  (fun i a b=>by
    simp only[iu,ja,List.length_map]at a
    have :=(hr i a (by simpa using b)).renx (Mem.le_refl m) wt (Ul i a)
    simpa[iu,ja]using this)
 have jm:=JV hC (L:=reach σ.obj (roots env ds)) b9 iM (rd:=some (φ nm).blk) (fun l e=>by cases e;exact⟨qp,r,dS⟩) (b0:=0) (nt:=env.length) q2 q1
 have lT:=h _ _ _ _ _ _ dn (by simp[iu,ja];omega)
 have TY:(r.params.zip us).foldl (fun tmps (p:Nat×Value)=>tmps.setIfInBounds p.1 p.2) r.tmps=(ps.zip us.toList).foldl (fun tmps (p:Nat×Value)=>tmps.setIfInBounds p.1 p.2) r.tmps:=by
  rw[<-BC,<-Array.toList_zip,Array.foldl_toList]
 have Cf:(gw σ.obj env ds).length=env.length:=by simp[gw]
 rw[Cf]at lT
 rw[wL]at jm
 have TX:(r.params.zip us).foldl (fun tmps (x:Tmp×Value)=>match x with | (t,a)=>tmps.setIfInBounds t a) r.tmps=(ps.zip us.toList).foldl (fun tmps (p:Nat×Value)=>tmps.setIfInBounds p.1 p.2) r.tmps:=TY
 rw[TX]
 refine wpIn_mono (lT _ _ m _ w jm) ?_
 rintro e a1 w1 ⟨φ1,m1,σ1,fV,hK⟩
 cases e with
 |normal=>
  have IT:w1.heap[(φ nm).blk]?=some (.loop r):=(fV.fr.block _ ae qp).trans dS
  have aJ:=(Array.getElem?_eq_some_iff.1 IT).1
  refine⟨_,run_beginRound IT fa,?_⟩
  have ez:w1.os=w.os/\w1.tape=w.tape/\w1.output=w.output:=⟨fV.fr.os,fV.fr.tape,fV.fr.output⟩
  have eP:=KG (wb:=w.putObj (φ nm).blk (.loop { r with state:=.busy })) (w2:=w1.putObj (φ nm).blk (.loop { r with state:=.busy }))
   (h':=fun l e=>by cases e;exact⟨qp,_,World.putObj_heap_same ae⟩) fV ⟨by simp,by simp⟩ ⟨ez.1.symm,ez.2.1.symm,ez.2.2.symm⟩
   (fun b hb=>World.putObj_heap_other hb) (fun b hb=>World.putObj_heap_other hb) (by rw[World.putObj_heap_same ae,World.putObj_heap_same aJ])
  refine wpIn_mono (hK _ _ m1 _ _ eP) ?_
  rintro e a3 w3 ⟨φ3,m3,σ3,qz,nP⟩
  have BD:w3.heap[(φ nm).blk]?=some (.loop { r with state:=.busy }):=(qz.fr.block _ (by show _<(w.putObj _ _).heap.size;simpa using ae) qp).trans (World.putObj_heap_same ae)
  have mE:=(Array.getElem?_eq_some_iff.1 BD).1
  have fin:∀ bx:Option Code,(y.o σ.obj env ps asg body ds).2=bx->ft (cb σ.obj (roots env ds)) (y.o σ.obj env ps asg body ds).1 σ3->
      ∃ v w',(Instr.endRound (φ nm).blk bx).run P w3=.ok v w'/\next (a.put o.dst v) w':=by
   intro bx he hE
   refine⟨_,_,run_endRound bx BD,?_⟩
   generalize Td:({ r with state:=.busy }:Loop)=rb at BD |-
   let rf:Loop:={ r with state:=if bx.isNone then .ready else .done,pending:=bx }
   have Tc:({ rb with state:=if bx.isNone then .ready else .done,pending:=bx }:Loop)=rf:=by rw[<-Td]
   rw[Tc]
   have JK:=KG (wb:=w.putObj (φ nm).blk (.loop rf)) (w2:=w3.putObj (φ nm).blk (.loop rf))
    (h':=fun l e=>by cases e;exact⟨qp,_,World.putObj_heap_same ae⟩) qz ⟨by simp,by simp⟩
    ⟨(show (w.putObj (φ nm).blk (.loop rf)).os=(w3.putObj (φ nm).blk (.loop rf)).os from qz.fr.os.symm),(show (w.putObj (φ nm).blk (.loop rf)).tape=(w3.putObj (φ nm).blk (.loop rf)).tape from qz.fr.tape.symm),(show (w.putObj (φ nm).blk (.loop rf)).output=(w3.putObj (φ nm).blk (.loop rf)).output from qz.fr.output.symm)⟩
    (fun b hb=>by rw[World.putObj_heap_other hb,World.putObj_heap_other hb]) (fun b hb=>World.putObj_heap_other hb) (by rw[World.putObj_heap_same ae,World.putObj_heap_same mE])
   have ca:aM G φ m { σ with obj:=upd σ.obj nm (some (.loop env ps asg body (if bx.isNone then .ready else .done) bx)) } a (w.putObj (φ nm).blk (.loop rf)):=by
    have :=hC.chg (w':=w.putObj (φ nm).blk (.loop rf)) nm (.loop env ps asg body (if bx.isNone then .ready else .done) bx) (φ nm) (Ext.same ax rfl rfl) ⟨rfl,rfl,rfl,by simp⟩
     (fun b _ hb=>World.putObj_heap_other (by rcases hb with h | h; · rw[c0]at h;cases h
                                              ·exact h))
     (fun _=>.inr ⟨⟨_,ax,rfl,c0⟩,rfl⟩) (by
       rw[fx]
       refine⟨by assumption,c0,rf,World.putObj_heap_same ae,rfl,rfl,BC,IS,IQ,IP,fun i hi=>(IN i hi).ext (Mem.le_refl m) ?_⟩
       have :=Ext.same (φ:=φ) (o':=.loop env ps asg body (if bx.isNone then .ready else .done) bx) ax rfl rfl
       rwa [fx]at this)
    rwa [fx]at this
   have UW:shut (upd σ.obj nm (some (.loop env ps asg body (if bx.isNone then .ready else .done) bx))) (reach σ.obj (roots env ds))=true:=by
    rw[zO (obj:=σ.obj) fun x hx=>aV _ _ _ (by rintro rfl;exact eX hx)];exact iM
   have qu:(reach σ.obj (roots env ds)).map (ck (reach σ.obj (roots env ds)) (upd σ.obj nm (some (.loop env ps asg body (if bx.isNone then .ready else .done) bx))))=cb σ.obj (roots env ds):=
    List.map_congr_left fun x hx=>KQ eX hx
   have Ct:=Ki hE
   rw[<-qu]at Ct
   have xC:∀ x∈(y.o σ.obj env ps asg body ds).1.new,nm≠x.1++t:=fun x hx e=>by
    have :=List.all_eq_true.1 cB x hx
    rw[<-e,ax]at this;cases this
   have TW:fresh (upd σ.obj nm (some (.loop env ps asg body (if bx.isNone then .ready else .done) bx))) t (y.o σ.obj env ps asg body ds).1.new=true:=by
    rw[yd (obj:=σ.obj) fun x hx=>by
     obtain⟨z,hz,rfl⟩:=List.mem_map.1 hx
     exact aV _ _ _ (xC z hz).symm]
    exact cB
   rw[<-Vg (x:=some (.loop env ps asg body (if bx.isNone then .ready else .done) bx)) eX (h1:=fun l e=>by
    cases e;rw[Jp eX];exact⟨qp,_,World.putObj_heap_same ae⟩)]at JK
   obtain⟨φ',m',k1,k2,k3,k4⟩:=JU ca b9 UW JK Ct TW
   refine qh _ φ' m' _ ?_ (.v _ _ ?_)
   ·have:(cV (reach σ.obj (roots env ds)) t (y.o σ.obj env ps asg body ds).1.new (cf (reach σ.obj (roots env ds)) t (y.o σ.obj env ps asg body ds).1.upd (upd σ.obj nm (some (.loop env ps asg body (if bx.isNone then .ready else .done) bx)))))=
      upd (cV (reach σ.obj (roots env ds)) t (y.o σ.obj env ps asg body ds).1.new (cf (reach σ.obj (roots env ds)) t (y.o σ.obj env ps asg body ds).1.upd σ.obj)) nm (some (.loop env ps asg body (if bx.isNone then .ready else .done) bx)):=by
      funext x
      have hu:((y.o σ.obj env ps asg body ds).1.upd.all fun x=>decide (x.1<(reach σ.obj (roots env ds)).length))=true:=List.all_eq_true.2 fun z hz=>by
       have :=List.all_eq_true.1 Ct.cu z hz
       simp only[Bool.and_eq_true,List.length_map]at this;exact this.2
      by_cases e:x=nm
      ·subst e
       rw[aN,tL _ _ xC,Ag _ _ hu eX,aN]
      ·rw[aV _ _ _ e]
       rw[pN (y.o σ.obj env ps asg body ds).1.new σ.obj (cf _ _ _ (upd _ _ _)) x,pN (y.o σ.obj env ps asg body ds).1.new σ.obj (cf _ _ _ σ.obj) x]
       by_cases h1:x∈(y.o σ.obj env ps asg body ds).1.new.map (fun x=>x.1++t)
       ·rw[if_pos h1,if_pos h1]
       ·rw[if_neg h1,if_neg h1]
        rw[rT (y.o σ.obj env ps asg body ds).1.upd σ.obj (upd _ _ _) x,rT (y.o σ.obj env ps asg body ds).1.upd σ.obj σ.obj x]
        by_cases h2:x∈(y.o σ.obj env ps asg body ds).1.upd.map (fun x=>(reach σ.obj (roots env ds)).getD x.1 [])
        ·rw[if_pos h2,if_pos h2]
        ·rw[if_neg h2,if_neg h2];exact aV _ _ _ e
    rw[this]at k2
    rw[he]
    exact k2
   ·rw[he];exact .bool _
  cases e with
  |normal=>exact fin none nP.1 nP.2
  |ret=>exact fin (some .ret) nP.1 nP.2
  |exit id=>exact fin (some (.exit id)) nP.1 nP.2
  |goto l=>exact nP.elim
  |panic ch=>exact nP.elim
  |outgrown=>exact nP.elim
 |ret=>exact hK.elim
 |exit id=>exact hK.elim
 |goto l=>exact hK.elim
 |panic ch=>exact hK.elim
 |outgrown=>exact hK.elim
theorem Wc{G:Ghost}{φ:Name->Loc}{m:Mem}{σ:S}{a:Act}{w:World}(hC:aM G φ m σ a w):
 aM G φ m σ { a with defers:=[{ target:=.collected w.heap.size,args:= #[] }]++a.defers } (w.alloc (.deferred (some []))):=by
 have hb:∀ b,b<w.heap.size->(w.alloc (.deferred (some []))).heap[b]?=w.heap[b]?:=fun b h=>RowKit.Below.heap_alloc w _ b h
 have h:=hC.imm (w':=w.alloc (.deferred (some []))) (Mem.le_refl m) ⟨rfl,rfl,rfl,by simp⟩ hb (fun _ _ _ h=>.inl h)
 refine⟨h.tmps,h.size,?_,h.objs,h.mem,h.apart,h.inj,h.own,h.fr,h.fresh,h.kept⟩
 obtain⟨ds,h1,h2,h3⟩:=h.defers
 have ae:∀ D∈ds,D<w.heap.size:=fun D hD=>by
  obtain⟨kK,k1,k2,k3⟩:=hC.defers
  have e:kK=ds:=by
   have :=k1.symm.trans h1
   have hi:Function.Injective (fun D:Nat=>({ target:=.collected D,args:= #[] }:Deferred)):=fun x y h=>by simpa using h
   exact(List.map_inj_right hi).1 this
  exact(Array.getElem?_eq_some_iff.1 (k3 D (e▸hD)).2).1
 refine⟨w.heap.size::ds,by rw[h1];rfl,List.nodup_cons.2 ⟨fun hm=>Nat.lt_irrefl _ (ae _ hm),h2⟩,fun D hD=>?_⟩
 rcases List.mem_cons.1 hD with rfl | hD
 ·exact⟨hC.fr.size,World.alloc_heap_new w _⟩
 ·exact h3 D hD
def lk(obj:Name->Option O)(nm:Name):Name->Option O:=upd obj nm (match obj nm with
 |some (.loop env ps asg body _ bx)=>some (.loop env ps asg body .exhausted bx)
 |o=>o)
def oL(K:Exit->S->Prop)(obj:Name->Option O)(nm:Name)(σ:S):Prop:=match obj nm with
 |some (.loop _ _ _ _ .busy _)=>False
 |some (.loop _ _ _ _ _ none)=>K .normal σ
 |some (.loop _ _ _ _ _ (some .ret))=>K .ret σ
 |some (.loop _ _ _ _ _ (some (.exit id)))=>K (.exit id) σ
 |_=>False
theorem KA{P:Program}{Γ:FuncId->Option Spec}(hΓ:∀ f s,Γ f=some s->aL P f s){g:Operand}{ps:Array Tmp}{asg body:Code}{σ:S}{K:Exit->S->Prop}(k k':Nat){f:FuncId}{s:Spec}
 (hc:cC σ g=true) (eO:fv (an σ g)=some f) (aD:f≠yid) (hs:Γ f=some s) (qi:σ.obj (k::σ.pre)=none)
 (aa:(s.app (upd σ.obj (k::σ.pre) (some (.loop ((List.range σ.nt).map σ.env) ps.toList asg body .ready none))) (k'::σ.pre) (eh (an σ g) [.yld (k::σ.pre)])).ok)
 (hK:oL K (s.app (upd σ.obj (k::σ.pre) (some (.loop ((List.range σ.nt).map σ.env) ps.toList asg body .ready none))) (k'::σ.pre) (eh (an σ g) [.yld (k::σ.pre)])).obj (k::σ.pre)
   { σ with obj:=lk (s.app (upd σ.obj (k::σ.pre) (some (.loop ((List.range σ.nt).map σ.env) ps.toList asg body .ready none))) (k'::σ.pre) (eh (an σ g) [.yld (k::σ.pre)])).obj (k::σ.pre) }):
 CW P (.rangeFunc g ps asg body) σ K:=by
 intro G φ m a w hC
 generalize ax:k::σ.pre=nm at *
 generalize BM:upd σ.obj nm (some (.loop ((List.range σ.nt).map σ.env) ps.toList asg body .ready none))=oC at *
 generalize hR:s.app oC (k'::σ.pre) (eh (an σ g) [.yld nm])=R at *
 have xM:=bY hC hc
 obtain⟨us,vs,fs,cs,hu,nO,e1,e2,dS,fa⟩:∃ (us vs:Array Value) (fs cs:List D),a.eval g=.func (.func f) us vs/\(∀ args,eh (an σ g) args=fs++args++cs)/\fs.length=us.size/\cs.length=vs.size/\
  (∀ i (h:i<fs.length) (h':i<us.size),aA φ σ.obj m fs[i] us[i])/\(∀ i (h:i<cs.length) (h':i<vs.size),aA φ σ.obj m cs[i] vs[i]):=by
  generalize a.eval g=u at *
  generalize an σ g=d at *
  unfold fv at eO
  split at eO
  ·rename_i f' fs cs
   split at eO
   ·cases eO
   cases eO
   cases xM with
   |v _ _ xM=>
   cases xM with
   |clo _ _ _ us vs e1 e2 h1 h2=>
   exact⟨us,vs,fs.map .v,cs.map .v,rfl,fun _=>rfl,by simpa using e1,by simpa using e2,fun i a b=>by simpa using .v _ _ (h1 i (by simpa using a) b),fun i a b=>by simpa using .v _ _ (h2 i (by simpa using a) b)⟩
  ·rename_i f' fs cs
   split at eO
   ·cases eO
   cases eO
   cases xM with
   |clo _ _ _ us vs e1 e2 h1 h2=>exact⟨us,vs,fs,cs,rfl,fun _=>rfl,e1,e2,h1,h2⟩
  ·cases eO;exact(aD rfl).elim
  ·cases eO
 refine wpIn_rangeFunc fun fn _=>?_
 have main:∀ (W:World) (a':Act) (D:Nat),aM G φ m σ a' W->a'.tmps=a.tmps->
     ∃ (d:Deferred) (rp:World) (f':FuncId) (args:Array Value) (w₂:World),
     (resolve a.eval (rangeCall g W.heap.size) 0).run P (W.alloc (.loop { state:=.ready,pending:=none,fn,tmps:=a.tmps,params:=ps,assign:=asg,body,defers:=D }))=.ok d rp/\
     (invoke d.target d.args).run P rp=.ok (.enter f' args) w₂/\
     CallsIn (eY G.rd) (0-1) P f' args w₂ (rangePost (eY G.rd) 0 P W.heap.size (fun e a' w'=>∃ φ' m' σ',aM G φ' m' σ' a' w'/\K e σ') a'):=by
  intro W a' D fV aq
  obtain⟨r,lI⟩:∃ r:Loop,r={ state:=.ready,pending:=none,fn,tmps:=a.tmps,params:=ps,assign:=asg,body,defers:=D }:=⟨_,rfl⟩
  rw[<-lI]
  have hx:=Ext.new (φ:=φ) qi ⟨W.heap.size,0,0,false,none⟩ (.loop ((List.range σ.nt).map σ.env) ps.toList asg body .ready none)
  have eP:=fV.chg (w':=W.alloc (.loop r)) nm (.loop ((List.range σ.nt).map σ.env) ps.toList asg body .ready none) ⟨W.heap.size,0,0,false,none⟩ hx ⟨rfl,rfl,rfl,by simp⟩
   (fun b hb _=>RowKit.Below.heap_alloc W _ b hb) (fun _=>.inl (Nat.le_refl _)) ⟨rfl,rfl,r,World.alloc_heap_new W _,by rw[lI],by rw[lI],by rw[lI],by rw[lI],by rw[lI],by
     rw[lI]
     show a.tmps.size=_
     rw[<-aq,fV.size];simp,fun i hi=>by
     simp only[List.getElem_map,List.getElem_range]
     rw[lI]
     show bZ _ _ m _ (a.tmps.getD i undef)
     rw[<-aq]
     exact(fV.tmps i).ext (Mem.le_refl m) hx⟩
  rw[BM]at eP hx
  refine⟨{ target:=.fn (.func f) vs,args:=us++ #[.func (.yield W.heap.size) #[] #[]] },W.alloc (.loop r),f,us++ #[.func (.yield W.heap.size) #[] #[]]++vs,W.alloc (.loop r),?_,?_,?_⟩
  ·have hy:a.eval (.const (.func (.yield W.heap.size) #[] #[]))=.func (.yield W.heap.size) #[] #[]:=rfl
   simp[resolve,Deferred.ofValue,hu,hy]
  ·simp[invoke,(hΓ f s hs).enter aD]
  ·refine J9 ?_
   have nL:=(hΓ f s hs).calls aD G (upd φ nm ⟨W.heap.size,0,0,false,none⟩) m { σ with obj:=oC } a' (W.alloc (.loop r)) eP (k'::σ.pre) (eh (an σ g) [.yld nm]) (us++ #[.func (.yield W.heap.size) #[] #[]]++vs) ⟨k',rfl⟩
   refine(nL ?_ ?_ ?_).mono ?_
   ·rw[nO];simp only[List.length_append,List.length_singleton,Array.size_append,e1,e2];rfl
   ·intro i h1 h2
    simp only[nO]
    have xg:aA (upd φ nm ⟨W.heap.size,0,0,false,none⟩) oC m (.yld nm) (.func (.yield W.heap.size) #[] #[]):=by
     have :=aA.yld (φ:=upd φ nm ⟨W.heap.size,0,0,false,none⟩) (obj:=oC) (m:=m) nm ⟨_,by rw[<-BM,aN],rfl⟩
     rwa [aN]at this
    simp only[nO,List.length_append,List.length_singleton]at h1
    by_cases k1:i<fs.length
    ·have q1:i<us.size:=by omega
     simp only[List.append_assoc,Array.append_assoc]
     rw[List.getElem_append_left k1,Array.getElem_append_left q1]
     exact(dS i k1 q1).ext (Mem.le_refl m) hx
    ·by_cases k2:i=fs.length
     ·subst k2
      simp only[List.append_assoc,Array.append_assoc]
      rw[List.getElem_append_right (by omega),Array.getElem_append_right (by omega)]
      simp only[Nat.sub_self,e1,List.cons_append,List.getElem_cons_zero]
      rw[Array.getElem_append_left (by simp)]
      simpa using xg
     ·rw[List.getElem_append_right (by simp;omega),Array.getElem_append_right (by simp;omega)]
      have :=(fa (i-(fs.length+1)) (by omega) (by omega)).ext (Mem.le_refl m) hx
      simp only[List.length_append,List.length_singleton,Array.size_append,<-e1]
      exact this
   ·show (s.app oC _ _).ok
    rw[hR];exact aa
   ·rintro e w3 ⟨v,φ',m',rfl,qz,_,SS⟩
    have h9:s.app oC (k'::σ.pre) (eh (an σ g) [.yld nm])=R:=hR
    have JL:aM G φ' m' { σ with obj:=R.obj } a' w3:=by rw[<-h9];exact qz
    have SR:Ext (upd φ nm ⟨W.heap.size,0,0,false,none⟩) φ' oC R.obj:=by rw[<-h9];exact SS
    have Tm:oC nm=some (.loop ((List.range σ.nt).map σ.env) ps.toList asg body .ready none):=by rw[<-BM,aN]
    have BW:φ' nm=⟨W.heap.size,0,0,false,none⟩:=by
     obtain⟨o',k1,k2⟩:=SR nm _ Tm
     rcases k2 with⟨_,k2,_⟩ | ⟨n,n',k2,_⟩
     ·rw[k2,aN]
     ·cases k2
    unfold oL at hK
    have step:∀ {fX:List E} {fP:List Nat} {a1 b1:Code} {st:LoopState} {bx:Option Code},R.obj nm=some (.loop fX fP a1 b1 st bx)->st≠ .busy->
        ∃ w4,(Instr.endLoop W.heap.size).run P w3=.ok bx w4/\aM G φ' m' { σ with obj:=lk R.obj nm } a' w4:=by
     intro fX fP a1 b1 st bx ho cP
     obtain⟨q0,q1,r',q2,q3,q4,q5,q6,q7,q8,q9⟩:=JL.objs nm _ ho
     rw[BW]at q2
     have Jo:(Instr.endLoop W.heap.size).run P w3=.ok bx (w3.putObj W.heap.size (.loop { r' with state:=.exhausted })):=by
      rw[run_endLoop (P:=P) q2 (by rw[q3];exact cP),q4]
     refine⟨_,Jo,?_⟩
     have ae:=(Array.getElem?_eq_some_iff.1 q2).1
     have qd:lk R.obj nm=upd R.obj nm (some (.loop fX fP a1 b1 .exhausted bx)):=by unfold lk;rw[ho]
     rw[qd]
     have :=JL.chg (w':=w3.putObj W.heap.size (.loop { r' with state:=.exhausted })) nm (.loop fX fP a1 b1 .exhausted bx) (φ' nm) (Ext.same ho rfl rfl) ⟨rfl,rfl,rfl,by simp⟩
      (fun b _ hb=>World.putObj_heap_other (by
        rcases hb with h | h
        ·rw[q1]at h;cases h
        ·rw[BW]at h;exact h))
      (fun _=>.inr ⟨⟨_,ho,rfl,q1⟩,rfl⟩) (by
        rw[fx]
        refine⟨q0,q1,{ r' with state:=.exhausted },by rw[BW];exact World.putObj_heap_same ae,rfl,q4,q5,q6,q7,q8,fun i hi=>(q9 i hi).ext (Mem.le_refl _) ?_⟩
        have :=Ext.same (φ:=φ') (o':=.loop fX fP a1 b1 .exhausted bx) ho rfl rfl
        rwa [fx]at this)
     rw[fx]at this
     exact this
    rcases ho:R.obj nm with _ | o
    ·rw[ho]at hK;exact hK.elim
    rw[ho]at hK
    cases o with
    |loop fX fP a1 b1 st bx=>
     have cP:st≠ .busy:=by rintro rfl;exact hK.elim
     obtain⟨w4,h1,h2⟩:=step ho cP
     refine⟨bx,w4,h1,?_⟩
     cases bx with
     |none=>
      refine⟨φ',m',_,h2,?_⟩
      cases st<;>first | exact hK | exact(cP rfl).elim
     |some c=>
      cases c with
      |ret=>exact wpIn_ret ⟨φ',m',_,h2,by cases st<;>first | exact hK | exact(cP rfl).elim⟩
      |exit id=>exact wpIn_exit ⟨φ',m',_,h2,by cases st<;>first | exact hK | exact(cP rfl).elim⟩
      |_=>exfalso;cases st<;>first | exact hK | exact(cP rfl).elim
    |_=>exact hK.elim
 cases lL:G.rd with
 |none=>
  obtain⟨d,rp,f',args,w₂,h1,h2,h3⟩:=main (w.alloc (.deferred (some []))) _ w.heap.size (Wc hC) rfl
  rw[lL]at h3
  have dd:(w.alloc (.deferred (some []))).heap.size=w.heap.size+1:=by simp
  rw[dd]at h1 h3
  exact⟨w.heap.size+1,[{ target:=.collected w.heap.size,args:= #[] }],_,d,rp,f',args,w₂,run_enterLoop_outer _ _ _ _ _,h1,fun _ _=>trivial,h2,fun h=>(by simp[eY,Fence.wide]at h),h3⟩
 |some l=>
  obtain⟨fG,r0,IU⟩:=G.rdok l lL
  have Tf:w.heap[l]?=some (.loop r0):=(hC.fr.block l (Array.getElem?_eq_some_iff.1 IU).1 fG).trans IU
  obtain⟨d,rp,f',args,w₂,h1,h2,h3⟩:=main w a r0.defers hC rfl
  rw[lL]at h3
  exact⟨w.heap.size,[],_,d,rp,f',args,w₂,run_enterLoop_inner Tf _ _ _ _ _,h1,fun _ _=>trivial,h2,fun h=>(by simp[eY,Fence.wide]at h),h3⟩
theorem WA{P:Program}{Γ:FuncId->Option Spec}(hΓ:∀ f s,Γ f=some s->aL P f s){g:Operand}{ps:Array Tmp}{asg body:Code}{σ:S}{r:List Code}{K:Exit->S->Prop}(k k':Nat){f:FuncId}{s:Spec}
 (hc:cC σ g=true) (eO:fv (an σ g)=some f) (aD:f≠yid) (hs:Γ f=some s) (qi:σ.obj (k::σ.pre)=none)
 (aa:(s.app (upd σ.obj (k::σ.pre) (some (.loop ((List.range σ.nt).map σ.env) ps.toList asg body .ready none))) (k'::σ.pre) (eh (an σ g) [.yld (k::σ.pre)])).ok)
 (hK:oL (iv (fun σ'=>CL P r σ' K) K) (s.app (upd σ.obj (k::σ.pre) (some (.loop ((List.range σ.nt).map σ.env) ps.toList asg body .ready none))) (k'::σ.pre) (eh (an σ g) [.yld (k::σ.pre)])).obj (k::σ.pre)
   { σ with obj:=lk (s.app (upd σ.obj (k::σ.pre) (some (.loop ((List.range σ.nt).map σ.env) ps.toList asg body .ready none))) (k'::σ.pre) (eh (an σ g) [.yld (k::σ.pre)])).obj (k::σ.pre) }):
 CL P (.rangeFunc g ps asg body::r) σ K:=KA hΓ k k' hc eO aD hs qi aa hK
theorem dz.refl(σ:S):dz σ σ:=fun _ φ _ _ _ hC=>⟨φ,hC⟩
theorem dz.trans{a b c:S}(h:dz a b)(k:dz b c):dz a c:=fun G φ m x w hC=>by
 obtain⟨φ',h'⟩:=h G φ m x w hC
 exact k G φ' m x w h'
theorem bq{σ τ:S}(ks:List Nat)(ns:List Name)(h:gp ks ns σ)(he:gB ks ns σ=τ):dz σ τ:=he▸zx ks ns h
def na(l c:List (Nat×E)):List (Nat×E):=l.map fun q=>(q.1,(c.lookup q.1).getD q.2)
def m7(l c:List (Name×O)):List (Name×O):=l.map fun q=>(q.1,(c.lookup q.1).getD q.2)
theorem eg{P:Program}{c:Code}{r:List Code}{σ:S}{K:Exit->S->Prop}(ks:List Nat)(ns:List Name)(h:gp ks ns σ)(hc:CL P (c::r) (gB ks ns σ) K):CL P (c::r) σ K:=
 sS (zx ks ns h) hc
theorem cr{P:Program}{c:Code}{r:List Code}{K:Exit->S->Prop}{nt:Nat}{p:Name}{H:Name->Option O}{l:List (Nat×E)}{h:List (Name×O)}{ι:Type}
 (chg:ι->List (Nat×E)) (np:ι->List (Name×O)) (R:ι->Prop) (μ:ι->Nat) (i0:ι) (hR:R i0) (he:na l (chg i0)=l) (ho:m7 h (np i0)=h)
 (round:∀ i,R i->CL P [c] (ba nt p H (na l (chg i)) (m7 h (np i))) (iv (fun σ'=>∃ i',R i'/\μ i'<μ i/\dz σ' (ba nt p H (na l (chg i')) (m7 h (np i')))) K)):
 CL P (.loop c::r) (ba nt p H l h) K:=by
 refine Dd (fun i=>ba nt p H (na l (chg i)) (m7 h (np i))) R μ i0 hR ?_ round
 rw[he,ho]
 exact .refl _
theorem KM{P:Program}{c:Code}{r:List Code}{K:Exit->S->Prop}{nt:Nat}{p:Name}{H:Name->Option O}{l:List (Nat×E)}{h:List (Name×O)}{ι:Type}
 (Hc:ι->Name->Option O) (chg:ι->List (Nat×E)) (np:ι->List (Name×O)) (R:ι->Prop) (μ:ι->Nat) (i0:ι) (hR:R i0) (hH:ba nt p (Hc i0) l h=ba nt p H l h) (he:na l (chg i0)=l) (ho:m7 h (np i0)=h)
 (round:∀ i,R i->CL P [c] (ba nt p (Hc i) (na l (chg i)) (m7 h (np i))) (iv (fun σ'=>∃ i',R i'/\μ i'<μ i/\dz σ' (ba nt p (Hc i') (na l (chg i')) (m7 h (np i')))) K)):
 CL P (.loop c::r) (ba nt p H l h) K:=by
 refine Dd (fun i=>ba nt p (Hc i) (na l (chg i)) (m7 h (np i))) R μ i0 hR ?_ round
 rw[he,ho,hH]
 exact .refl _
attribute [go_sem] na m7 List.lookup_cons List.lookup_nil List.getElem?_toArray List.getElem?_cons_succ List.getElem?_cons_zero beq_true beq_false ite_self Bool.and_self Bool.or_self imp_self Bool.if_true_right Bool.if_false_right Bool.if_true_left Bool.if_false_left Bool.decide_eq_true
attribute [go_sem] tI ft pP tR distinct eo cL cJ cN aS Bool.and_eq_true
def eI(a b:Nat):Bool:=Nat.ble a b
def fQ(a b:Nat):Bool:=Nat.ble (a+1) b
def cz(a b:Nat):Bool:=Nat.beq a b
def cZ(a b:Int):Bool:=match b-a with
 | .ofNat _=>true
 | .negSucc _=>false
def jg(a b:Int):Bool:=match b-a-1 with
 | .ofNat _=>true
 | .negSucc _=>false
def r9{α:Type}:Option α->Bool
 |none=>true
 |some _=>false
def nq:Option Nat->Nat->Bool
 |some a,b=>Nat.beq a b
 |none,_=>false
def s5(sz:Nat):List V->Bool
 |[]=>true
 |x::r=>Nat.beq x.cells.length sz&&s5 sz r
def s6(sz:Nat):List V->Bool
 |[]=>true
 |x::r=>Nat.beq x.cells.length sz&&x.okc&&s6 sz r
def uj(a b:IntKind):Bool:=match a,b with
 | .i64,.i64=>true
 | .u8,.u8=>true
 | .u64,.u64=>true
 | .i32,.i32=>true
 | .u32,.u32=>true
 |_,_=>false
def Bi(P:Program)(T:TypeId):Bool:=match P.underlying T with
 |some .bool=>true
 |_=>false
def isEq:BinOp->Bool
 | .eql=>true
 | .neq=>true
 |_=>false
def pY:Int->Bool
 | .ofNat 0=>true
 |_=>false
theorem pS{a b:Nat}(h:eI a b=true):a<=b:=Nat.le_of_ble_eq_true h
theorem wR{a b:Nat}(h:fQ a b=true):a<b:=Nat.le_of_ble_eq_true h
theorem jd{a b:Nat}(h:cz a b=true):a=b:=Nat.eq_of_beq_eq_true h
theorem fE{a b:Int}(h:cZ a b=true):a<=b:=by
 unfold cZ at h
 split at h
 ·rename_i n hn
  have :(0:Int)<=b-a:=by rw[hn];exact Int.natCast_nonneg n
  omega
 ·cases h
theorem SH{a b:Int}(h:jg a b=true):a<b:=by
 unfold jg at h
 split at h
 ·rename_i n hn
  have :(0:Int)<=b-a-1:=by rw[hn];exact Int.natCast_nonneg n
  omega
 ·cases h
theorem wM{α:Type}{o:Option α}(h:r9 o=true):o=none:=by cases o<;>simp_all[r9]
theorem oD{o:Option Nat}{b:Nat}(h:nq o b=true):o=some b:=by
 cases o with
 |none=>cases h
 |some a=>rw[Nat.eq_of_beq_eq_true h]
theorem zb{sz:Nat}:∀ {l:List V},s5 sz l=true->∀ x∈l,x.cells.length=sz
 |y::r,h,x,hx=>by
  simp only[s5,Bool.and_eq_true]at h
  rcases List.mem_cons.1 hx with rfl | hx
  ·exact Nat.eq_of_beq_eq_true h.1
  ·exact zb h.2 x hx
theorem zc{sz:Nat}:∀ {l:List V},s6 sz l=true->∀ x∈l,x.cells.length=sz/\x.okc=true
 |y::r,h,x,hx=>by
  simp only[s6,Bool.and_eq_true]at h
  rcases List.mem_cons.1 hx with rfl | hx
  ·exact⟨Nat.eq_of_beq_eq_true h.1.1,h.1.2⟩
  ·exact zc h.2 x hx
theorem Ih{a b:IntKind}(h:uj a b=true):a=b:=by unfold uj at h;split at h<;>first | rfl | cases h
theorem SB{P:Program}{T:TypeId}(h:Bi P T=true):P.underlying T=some .bool:=by unfold Bi at h;split at h<;>first | assumption | cases h
theorem w9{op:BinOp}(h:isEq op=true):op=.eql\/op=.neq:=by cases op<;>first | exact .inl rfl | exact .inr rfl | cases h
theorem Sy{n:Int}(h:pY n=false):n≠0:=by rintro rfl;cases h
section
variable (P:Program) (obj:Name->Option O)
def vu(T:TypeId)(x:D):Bool:=
 match aX P T with
 |none=>false
 |some (ag,n)=>match x with
  | .v (.ptr cs)=>match ag with
    |true=>eI n cs.length
    |false=>cz n 1&&fQ 0 cs.length
  | .ref nm off=>match obj nm with
    |some (.box cs)=>match ag with
     |true=>eI (off+n) cs.length
     |false=>cz n 1&&fQ off cs.length
    |some (.fbox cs)=>match ag with
     |true=>eI (off+n) cs.length
     |false=>cz n 1&&fQ off cs.length
    |_=>false
  | .aref nm k i off=>match obj nm with
    |some (.arr _ l)=>cz k l.length&&fQ i l.length&&(match ag with
     |true=>eI (off+n) (l.getD i default).cells.length
     |false=>cz n 1&&fQ off (l.getD i default).cells.length)
    |some (.farr _ l)=>cz k l.length&&fQ i l.length&&(match ag with
     |true=>eI (off+n) (l.getD i default).cells.length
     |false=>cz n 1&&fQ off (l.getD i default).cells.length)
    |_=>false
  |_=>false
def yS(T:TypeId)(f:Nat)(x:D):Bool:=
 match bE P T f with
 |none=>false
 |some (off,n,_)=>!cz n 0&&match x with
  | .v (.ptr cs)=>eI (off+n) cs.length
  | .ref _ _=>true
  | .aref nm k _ _=>match obj nm with
    |some o=>nq o.len? k
    |none=>false
  |_=>false
def yQ(T:TypeId)(x i:D):Bool:=
 match i with
 | .v (.int _ n)=>match x with
   | .v (.sl l)=>match bQ P T with
     |some (_,sz,_)=>cZ 0 n&&jg n l.length&&cz (l.getD n.toNat default).cells.length sz
     |none=>false
   | .msl nm k=>match bQ P T with
     |some (_,sz,_)=>match obj nm with
      |some (.arr s l)=>cZ 0 n&&jg n l.length&&cz k l.length&&cz s sz
      |some (.farr s l)=>cZ 0 n&&jg n l.length&&cz k l.length&&cz s sz
      |_=>false
     |none=>false
   | .ref _ _=>match iy P T with
     |some (len,_,_)=>cZ 0 n&&jg n len
     |none=>false
   | .v (.ptr cs)=>match iy P T with
     |some (len,sz,_)=>cZ 0 n&&jg n len&&eI (n.toNat*sz+sz) cs.length
     |none=>false
   |_=>false
 |_=>false
def Lg(op:BinOp)(k k':IntKind)(b:Int):Bool:=
 match op with
 | .quo=>uj k k'&&!pY b
 | .rem=>uj k k'&&!pY b
 | .shl=>cZ 0 b
 | .shr=>cZ 0 b
 |_=>uj k k'
def KZ(op:BinOp)(a b:ByteArray):Bool:=
 match op with
 | .add=>eI (a.size+b.size) maxLen
 | .eql | .neq | .lss | .leq | .gtr | .geq=>true
 |_=>false
def Du(op:BinOp)(T:TypeId)(x y:D):Bool:=
 match x,y with
 | .v (.int k _),.v (.int k' b)=>Lg op k k' b
 | .v (.str a),.v (.str b)=>KZ op a b
 | .v (.bool _),.v (.bool _)=>Bi P T&&isEq op
 |_,_=>false
def Dp(op:BinOp)(T:TypeId)(x y:V):Bool:=
 match gJ P Op.maxDepth T x y with
 |some _=>!(P.eqGuardType P.depth T)&&isEq op
 |none=>false
def Dm(op:BinOp)(T:TypeId)(x:D):Bool:=
 match x with
 | .v (.sl (_::_))=>nq (cT P T) 0&&isEq op
 | .msl nm (k+1)=>(match obj nm with | some o=>nq o.len? (k+1) | none=>false)&&nq (cT P T) 0&&isEq op
 |_=>false
def yY(op:BinOp)(T:TypeId)(x y:D)(jG:Bool):Bool:=
 match jG with
 |true=>Dm P obj op T x
 |false=>match dG x,dG y with
  |some (.agg a),some (.agg b)=>Dp P op T (.agg a) (.agg b)
  |_,_=>Du P op T x y
def yF(op:UnOp)(x:D):Bool:=
 match op,x with
 | .not,.v (.bool _)=>true
 | .neg,.v (.int _ _)=>true
 |_,_=>false
def yW(src dst:TypeId)(x:D):Bool:=
 match lj P dst,x with
 |some _,.v (.int _ _)=>(P.underlying src).isSome
 |_,_=>false
def yV(x:D)(i:Nat):Bool:=
 match x with
 | .tup l=>fQ i l.length
 | .v (.tup l)=>fQ i l.length
 |_=>false
def yJ(x:D):Bool:=
 match x with
 | .ref _ _=>true
 | .v (.ptr _)=>true
 | .aref nm k _ _=>match obj nm with
   |some o=>nq o.len? k
   |none=>false
 |_=>false
def vw(t:Name)(x:D):Bool:=r9 (obj (aZ t))&&x.boxable
def y0(t:Name)(T:TypeId):Bool:=match a8 P T with
 |some z=>vw obj t (gV z)
 |none=>false
def yX(T:TypeId)(parts:List (Nat×D)):Bool:=
 match gg P T,a8 P T with
 |some ps,some z=>match gV z with
  | .agg cs=>match qF (fun i=>ps[i]?) cs parts with
    |some _=>true
    |none=>false
  |_=>false
 |_,_=>false
def yG(T:TypeId)(x d:D):Bool:=
 match aX P T with
 |none=>false
 |some (_,n)=>match x with
  | .ref nm off=>match obj nm with
    |some (.box cs)=>d.boxable&&cz d.cells.length n&&eI (off+n) cs.length
    |_=>false
  | .aref nm k i off=>match obj nm with
    |some (.arr sz l)=>match dG d with
     |some y=>cz k l.length&&fQ i l.length&&cz y.cells.length n&&y.okc&&eI (off+n) sz&&!cz sz 0
     |none=>false
    |_=>false
  |_=>false
def yM(t:Name)(T:TypeId)(r:Option D):Bool:=
 match i5 P T,r with
 |some _,none=>r9 (obj (aZ t))
 |_,_=>false
def yL(t:Name)(T:TypeId)(l c:D):Bool:=
 match bQ P T,l,c with
 |some (e,sz,by_),.v (.int _ n),.v (.int _ n')=>match (a8 P e).bind fun z=>dG (gV z)with
  |some zv=>cZ n n'&&cZ n' n&&cZ 0 n&&cZ ((by_:Int)*n) 281474976710656&&cZ n 9223372036854775807&&cz zv.cells.length sz&&zv.okc&&!cz sz 0&&r9 (obj (aZ t))
  |none=>false
 |_,_,_=>false
def yO(T:TypeId)(x:D):Bool:=
 match cT P T,x with
 |some 0,.v (.sl _)=>true
 |some 0,.nilsl=>true
 |some 0,.msl nm k=>match obj nm with
  |some o=>nq o.len? k
  |none=>false
 |some 1,.v (.str _)=>true
 |some 2,.nilmap=>true
 |some 2,.map nm=>match obj nm with
  |some (.map _ _)=>true
  |_=>false
 |_,_=>false
def yH(T:TypeId)(x:D)(lo hi mx:Option D):Bool:=
 match mx with
 |none=>match x with
  | .v (.sl l)=>match bQ P T,fC lo,jn l.length hi with
    |some (_,sz,_),some i,some j=>cZ 0 i&&cZ i j&&cZ j l.length&&s5 sz l
    |_,_,_=>false
  | .nilsl=>match bQ P T,fC lo,jn 0 hi with
    |some (_,_,_),some i,some j=>pY i&&pY j
    |_,_,_=>false
  | .msl nm k=>match obj nm,bQ P T,fC lo,jn k hi with
    |some (.arr _ l),some (_,sz,_),some i,some j=>cz k l.length&&cZ 0 i&&cZ i j&&cZ j l.length&&s5 sz l
    |some (.farr _ l),some (_,sz,_),some i,some j=>cz k l.length&&cZ 0 i&&cZ i j&&cZ j l.length&&s5 sz l
    |_,_,_,_=>false
  | .v (.str s)=>match cT P T,fC lo,jn s.size hi with
    |some 1,some i,some j=>cZ 0 i&&cZ i j&&cZ j s.size
    |_,_,_=>false
  |_=>false
 |some (.v (.int _ 0))=>match bQ P T,fC lo,hi with
  |some _,some 0,some (.v (.int _ 0))=>match x with
   | .v (.sl _)=>true
   | .nilsl=>true
   | .msl nm k=>match obj nm with
     |some o=>nq o.len? k
     |none=>false
   |_=>false
  |_,_,_=>false
 |some _=>false
def yU(T:TypeId)(x:D)(f:Nat):Bool:=
 match bE P T f with
 |none=>false
 |some (off,n,ag)=>match x with
  | .agg l=>match ag with
    |true=>eI (off+n) l.length
    |false=>fQ off l.length
  | .v (.agg l)=>match ag with
    |true=>eI (off+n) l.length
    |false=>fQ off l.length
  |_=>false
def yR(T:TypeId)(x i:D):Bool:=
 match i with
 | .v (.int _ n)=>match x with
   | .v (.str s)=>nq (cT P T) 1&&cZ 0 n&&jg n s.size
   | .agg l=>match iy P T with
     |some (len,sz,true)=>cZ 0 n&&jg n len&&eI (n.toNat*sz+sz) l.length
     |some (len,sz,false)=>cZ 0 n&&jg n len&&fQ (n.toNat*sz) l.length
     |none=>false
   | .v (.agg l)=>match iy P T with
     |some (len,sz,true)=>cZ 0 n&&jg n len&&eI (n.toNat*sz+sz) l.length
     |some (len,sz,false)=>cZ 0 n&&jg n len&&fQ (n.toNat*sz) l.length
     |none=>false
   |_=>false
 |_=>false
def yN(T:TypeId)(x k:D):Bool:=
 match i5 P T with
 |some (kd,e)=>match (a8 P e).bind fun z=>dG (gV z),dG k with
  |some _,some kv=>match x with
   | .nilmap=>eI kd 2&&dE kd kv
   | .map nm=>match obj nm with
     |some (.map jf _)=>eI kd 2&&dE kd kv&&cz jf kd
     |_=>false
   |_=>false
  |_,_=>false
 |none=>false
def vt(T:TypeId)(x k d:D):Bool:=
 match i5 P T,x,dG k,dG d with
 |some (kd,_),.map nm,some kv,some _=>match obj nm with
  |some (.map jf _)=>eI kd 2&&dE kd kv&&cz jf kd
  |_=>false
 |_,_,_,_=>false
def yI(c:D):Bool:=match c with
 | .v (.bool _)=>true
 |_=>false
def vr(x:D):Bool:=match x with
 | .v (.sl _)=>true
 | .nilsl=>true
 | .msl nm k=>match obj nm with
   |some (.arr _ l)=>cz k l.length
   |some (.farr _ l)=>cz k l.length
   |_=>false
 |_=>false
def yZ(t:Name)(T1 T2:TypeId)(s x:D):Bool:=
 match bQ P T1,bQ P T2 with
 |some (e,sz,by_),some _=>match a8 P e with
  |some z=>match s with
   | .nilsl=>vr obj x&&s6 sz (aE obj x).2&&cz z.cells.size sz&&eI ((aE obj x).2.length*by_) 140737488355328&&eI (aE obj x).2.length maxLen&&r9 (obj (aZ t))
   | .msl nm k=>match obj nm with
     |some (.arr s' l)=>vr obj x&&s6 sz (aE obj x).2&&cz z.cells.size sz&&eI ((l.length+(aE obj x).2.length)*by_) 140737488355328&&
        eI (l.length+(aE obj x).2.length) maxLen&&cz k l.length&&cz s' sz
     |_=>false
   |_=>false
  |none=>false
 |_,_=>false
variable {P obj}
theorem oF{a b:Nat}:eI a b=true↔a<=b:=⟨pS,Nat.ble_eq_true_of_le⟩
theorem tU{a b:Nat}:fQ a b=true↔a<b:=⟨wR,Nat.ble_eq_true_of_le⟩
theorem oG{a b:Nat}:cz a b=true↔a=b:=⟨jd,fun h=>by subst h;simp[cz]⟩
theorem wS{a b:Nat}:cz a b=false↔a≠b:=by
 rw[<-Bool.not_eq_true,oG]
theorem Iz{a b:Int}:cZ a b=true↔a<=b:=⟨fE,fun h=>by
 unfold cZ
 split
 ·rfl
 ·rename_i n hn;have:=Int.negSucc_lt_zero n;omega⟩
theorem Iy{a b:Int}:jg a b=true↔a<b:=⟨SH,fun h=>by
 unfold jg
 split
 ·rfl
 ·rename_i n hn;have:=Int.negSucc_lt_zero n;omega⟩
theorem Iq{n:Int}:pY n=true↔n=0:=⟨fun h=>(by unfold pY at h;split at h<;>first | rfl | cases h),fun h=>(by subst h;rfl)⟩
theorem Dn{T:TypeId}{x:D}(h:vu P obj T x=true):(iq P obj T x).ok:=by
 unfold vu at h
 unfold iq
 (repeat' split at h)<;>simp_all[oF,tU,oG,-List.getD_eq_getElem?_getD]
theorem Lk{T:TypeId}{f:Nat}{x:D}(h:yS P obj T f x=true):(j9 P obj T f x).ok:=by
 unfold yS at h
 unfold j9
 split at h
 ·cases h
 ·simp only[Bool.and_eq_true,Bool.not_eq_true',wS]at h
  obtain⟨h1,h⟩:=h
  (repeat' split at h)<;>simp_all[oF]
  exact oD h
theorem Li{T:TypeId}{x i:D}(h:yQ P obj T x i=true):(j8 P obj T x i).ok:=by
 unfold yQ at h
 unfold j8
 (repeat' split at h)<;>simp_all[oF,oG,Iz,Iy,-List.getD_eq_getElem?_getD]
theorem WX{op:BinOp}{T:TypeId}{x y:D}(h:Du P op T x y=true):(l7 P obj op T x y).ok:=by
 unfold Du at h
 unfold l7
 split at h
 ·simp only
  unfold Lg at h
  unfold yP
  cases op<;>simp only[Bool.and_eq_true,Bool.not_eq_true']at h |- <;>first
   |exact⟨Ih h.1,Sy h.2⟩
   |exact Ih h
   |exact fE h
 ·simp only
  unfold KZ at h
  unfold vq
  cases op<;>simp only at h |- <;>first | exact pS h | trivial | (cases h;done)
 ·simp only[Bool.and_eq_true]at h
  exact⟨SB h.1,w9 h.2⟩
 ·cases h
theorem WT{op:BinOp}{T:TypeId}{x y:V}(h:Dp P op T x y=true):(ir P obj op T x y).ok:=by
 unfold Dp at h
 unfold ir
 split at h
 ·rename_i b hb
  simp only[Bool.and_eq_true,Bool.not_eq_true']at h
  rw[hb]
  exact⟨h.1,w9 h.2⟩
 ·cases h
theorem WS{op:BinOp}{T:TypeId}{x:D}(h:Dm P obj op T x=true):(n9 P obj op T x).ok:=by
 unfold Dm at h
 unfold n9
 split at h
 ·simp only[Bool.and_eq_true]at h
  exact⟨oD h.1,w9 h.2⟩
 ·rename_i nm k
  simp only[Bool.and_eq_true]at h
  refine⟨?_,oD h.1.2,w9 h.2⟩
  have h1:=h.1.1
  split at h1
  ·rename_i o ho;rw[ho];exact oD h1
  ·cases h1
 ·cases h
theorem Lq{op:BinOp}{T:TypeId}{x y:D}{n:Bool}(h:yY P obj op T x y n=true):(kZ P obj op T x y n).ok:=by
 unfold yY at h
 unfold kZ
 cases n with
 |true=>exact WS h
 |false=>
  simp only at h |-
  split at h
  ·rename_i h1 h2
   simp only[h1,h2]
   exact WT h
  ·rename_i aD
   split
   ·rename_i h1 h2;exact(aD _ _ h1 h2).elim
   ·exact WX h
theorem KY{op:UnOp}{x:D}(h:yF op x=true):(kQ obj op x).ok:=by
 unfold yF at h
 unfold kQ
 split at h<;>first | trivial | cases h
theorem Ln{s d:TypeId}{x:D}(h:yW P s d x=true):(kV P obj s d x).ok:=by
 unfold yW at h
 unfold kV
 (repeat' split at h)<;>simp_all
theorem Ll{x:D}{i:Nat}(h:yV x i=true):(kU obj x i).ok:=by
 unfold yV at h
 unfold kU
 split at h<;>simp_all[tU]
theorem Lb{x:D}(h:yJ obj x=true):(jw obj x).ok:=by
 unfold yJ at h
 unfold jw
 (repeat' split at h)<;>simp_all
 exact oD h
theorem Dt{t:Name}{x:D}(h:vw obj t x=true):(kY obj t x).ok:=by
 simp only[vw,Bool.and_eq_true]at h
 exact⟨wM h.1,h.2⟩
theorem Lt{t:Name}{T:TypeId}(h:y0 P obj t T=true):(l8 P obj t T).ok:=by
 unfold y0 at h
 unfold l8
 split at h
 ·rename_i z hz;rw[hz];exact Dt h
 ·cases h
theorem Lo{T:TypeId}{ps:List (Nat×D)}(h:yX P T ps=true):(kX P obj T ps).ok:=by
 unfold yX at h
 unfold kX
 (repeat' split at h)<;>simp_all
theorem K0{T:TypeId}{x d:D}(h:yG P obj T x d=true):(jv P obj T x d).ok:=by
 unfold yG at h
 unfold jv
 (repeat' split at h)<;>simp_all[oF,tU,oG,wS]
theorem Ld{t:Name}{T:TypeId}{r:Option D}(h:yM P obj t T r=true):(l6 P obj t T r).ok:=by
 unfold yM at h
 unfold l6
 (repeat' split at h)<;>simp_all
 exact wM h
theorem Lc{t:Name}{T:TypeId}{l c:D}(h:yL P obj t T l c=true):(l5 P obj t T l c).ok:=by
 unfold yL at h
 unfold l5
 split at h
 ·rename_i e sz by_ k n k' n' hT
  rw[hT]
  simp only
  split at h
  ·rename_i zv hz
   simp only[Bool.and_eq_true,Bool.not_eq_true',wS]at h
   obtain⟨⟨⟨⟨⟨⟨⟨⟨h1,h2⟩,h3⟩,h4⟩,h5⟩,h6⟩,h7⟩,h8⟩,h9⟩:=h
   rw[hz]
   exact⟨Int.le_antisymm (fE h2) (fE h1),fE h3,fE h4,fE h5,jd h6,h7,h8,wM h9⟩
  ·cases h
 ·cases h
theorem Lf{T:TypeId}{x:D}(h:yO P obj T x=true):(jx P obj T x).ok:=by
 unfold yO at h
 unfold jx
 (repeat' split at h)<;>simp_all
 exact oD h
theorem K8{T:TypeId}{x:D}{lo hi mx:Option D}(h:yH P obj T x lo hi mx=true):(iY P obj T x lo hi mx).ok:=by
 unfold yH at h
 unfold iY
 split at h
 ·split at h
  ·split at h
   ·rename_i h1 h2 h3
    simp only[Bool.and_eq_true]at h
    simp only[h1,h2,h3]
    exact⟨fE h.1.1.1,fE h.1.1.2,fE h.1.2,zb h.2⟩
   ·cases h
  ·split at h
   ·rename_i h1 h2 h3
    simp only[Bool.and_eq_true]at h
    simp only[h1,h2,h3]
    exact⟨Iq.1 h.1,Iq.1 h.2⟩
   ·cases h
  ·split at h
   ·rename_i h1 h2 h3 h4
    simp only[Bool.and_eq_true]at h
    simp only[h1,h2,h3,h4]
    exact⟨jd h.1.1.1.1,fE h.1.1.1.2,fE h.1.1.2,fE h.1.2,zb h.2⟩
   ·rename_i h1 h2 h3 h4
    simp only[Bool.and_eq_true]at h
    simp only[h1,h2,h3,h4]
    exact⟨jd h.1.1.1.1,fE h.1.1.1.2,fE h.1.1.2,fE h.1.2,zb h.2⟩
   ·cases h
  ·split at h
   ·rename_i h1 h2 h3
    simp only[Bool.and_eq_true]at h
    simp only[h1,h2,h3]
    exact⟨fE h.1.1,fE h.1.2,fE h.2⟩
   ·cases h
  ·cases h
 ·split at h
  ·rename_i h1 h2 h3
   split at h
   ·simp only[h2,h3]
   ·simp only[h2,h3]
   ·split at h
    ·rename_i o ho
     simp only[h2,h3,ho]
     exact oD h
    ·cases h
   ·cases h
  ·cases h
 ·cases h
theorem Lj{T:TypeId}{x:D}{f:Nat}(h:yU P T x f=true):(kT P obj T x f).ok:=by
 unfold yU at h
 unfold kT
 (repeat' split at h)<;>simp_all[oF,tU]
theorem Lh{T:TypeId}{x i:D}(h:yR P T x i=true):(kS P obj T x i).ok:=by
 unfold yR at h
 unfold kS
 (repeat' split at h)<;>simp_all[oF,tU,Iz,Iy]
 exact oD h.1.1
theorem Le{T:TypeId}{x k:D}{c:Bool}(h:yN P obj T x k=true):(kR P obj T x k c).ok:=by
 unfold yN at h
 unfold kR
 (repeat' split at h)<;>simp_all[oF,oG]
theorem yK{T:TypeId}{x k d:D}(h:vt P obj T x k d=true):(iZ P obj T x k d).ok:=by
 unfold vt at h
 unfold iZ
 (repeat' split at h)<;>simp_all[oF,oG]
theorem La{c x y:D}(h:yI c=true):(im obj c x y).ok:=by
 unfold yI at h
 unfold im
 split at h<;>first | trivial | cases h
theorem Dl{x:D}(h:vr obj x=true):(aE obj x).1:=by
 unfold vr at h
 unfold aE
 (repeat' split at h)<;>simp_all[oG]
theorem Lr{t:Name}{T1 T2:TypeId}{s x:D}(h:yZ P obj t T1 T2 s x=true):(dw P obj t T1 T2 s x).ok:=by
 unfold yZ at h
 unfold dw
 split at h
 ·rename_i e sz by_ p h1 h2
  split at h
  ·rename_i z hz
   split at h
   ·simp only[Bool.and_eq_true]at h
    simp only[h1,h2,hz]
    exact⟨Dl h.1.1.1.1.1,zc h.1.1.1.1.2,jd h.1.1.1.2,pS h.1.1.2,pS h.1.2,wM h.2⟩
   ·split at h
    ·rename_i ho
     simp only[Bool.and_eq_true]at h
     simp only[h1,h2,hz,ho]
     exact⟨Dl h.1.1.1.1.1.1,zc h.1.1.1.1.1.2,jd h.1.1.1.1.2,pS h.1.1.1.2,pS h.1.1.2,jd h.1.2,jd h.2⟩
    ·cases h
   ·cases h
  ·cases h
 ·cases h
end
def nW(f:(Name->Option O)->D->Bool)(g:(Name->Option O)->D->FR)(obj:Name->Option O):List D->Bool
 |[]=>true
 |d::r=>f obj d&&nW f g (g obj d).obj r
def jr:Nat->(Name->Option O)->D->Bool
 | 0,obj,d=>match d with
   | .v _=>true
   | .nilsl=>true
   |_=>false
 |n+1,obj,d=>match d with
  | .v _=>true
  | .nilsl=>true
  | .msl nm k=>match obj nm with
    |some (.arr _ l)=>decide (k=l.length)
    |some (.farr _ l)=>decide (k=l.length)
    |_=>false
  | .ref nm _=>match obj nm with
    |some (.box cs)=>nW (jr n) (aH n) obj cs&&!cE (dP (fp n obj) cs) nm
    |some (.fbox _)=>true
    |_=>false
  | .agg l=>nW (jr n) (aH n) obj l
  | .tup l=>nW (jr n) (aH n) obj l
  | .clo _ f c=>nW (jr n) (aH n) obj f&&nW (jr n) (aH n) (bd (aH n) obj f).obj c
  |_=>false
theorem Cz{n:Nat}(ih:∀ obj d,jr n obj d=true->(aH n obj d).ok):∀ (l:List D) (obj:Name->Option O),nW (jr n) (aH n) obj l=true->(bd (aH n) obj l).ok
 |[],_,_=>trivial
 |d::r,obj,h=>by
  simp only[nW,Bool.and_eq_true]at h
  exact⟨ih obj d h.1,Cz ih r _ h.2⟩
theorem JT:∀ (n:Nat) (obj:Name->Option O) (d:D),jr n obj d=true->(aH n obj d).ok
 | 0,obj,d,h=>by cases d<;>first | trivial | (simp[jr]at h)
 |n+1,obj,d,h=>by
  have ih:=Cz (JT n)
  cases d with
  |v x=>trivial
  |nilsl=>trivial
  |msl nm k=>
   simp only[jr]at h
   unfold aH
   rcases ho:obj nm with _ | o
   ·simp[ho]at h
   ·cases o<;>simp[ho]at h |- <;>exact h
  |ref nm off=>
   simp only[jr]at h
   rcases ho:obj nm with _ | o
   ·simp[ho]at h
   ·cases o with
    |box cs=>
     simp only[ho,Bool.and_eq_true,Bool.not_eq_true']at h
     simp only[aH,ho]
     refine⟨ih cs obj h.1,?_⟩
     have :=(u3 (yc n) cs obj obj (dP (fp n obj) cs) (fun _ hn=>hn) (fun _ _=>rfl)).2.frame nm (fun hn=>by rw[fD.2 hn]at h;cases h.2)
     rw[this,ho]
    |fbox cs=>simp only[aH,ho]
    |_=>simp[ho]at h
  |agg l=>exact ih l obj h
  |tup l=>exact ih l obj h
  |clo fn f c=>
   simp only[jr,Bool.and_eq_true]at h
   exact⟨ih f obj h.1,ih c _ h.2⟩
  |_=>simp[jr]at h
def isNil{α:Type}:List α->Bool
 |[]=>true
 |_=>false
theorem Sz{α:Type}{l:List α}:isNil l=true↔l=[]:=by cases l<;>simp[isNil]
def w6:Nat->List Nat->Bool
 |_,[]=>true
 |k,x::r=>cz x k&&w6 (k+1) r
theorem Ir:∀ {k:Nat} {l:List Nat},w6 k l=true->l=List.range' k l.length
 |k,[],_=>rfl
 |k,x::r,h=>by
  simp only[w6,Bool.and_eq_true]at h
  rw[jd h.1,List.length_cons,List.range'_succ]
  congr 1
  exact Ir h.2
def Dh(P:Program)(obj:Name->Option O)(T:TypeId)(n:Nat)(parts:List (Nat×D)):Bool:=
 match bQ P T with
 |some (e,sz,_)=>match cz n 0&&isNil parts with
  |true=>(a8 P e).isSome
  |false=>nW (jr 4) (aH 4) obj (parts.map fun p=>p.2)&&w6 0 (parts.map fun p=>p.1)&&cz parts.length n&&s6 sz (bd (aH 4) obj (parts.map fun p=>p.2)).xs&&
     eI (n*sz) 16777216&&!cz sz 0&&(a8 P e).isSome&&fQ 0 n
 |none=>false
theorem WJ{P:Program}{obj:Name->Option O}{T:TypeId}{n:Nat}{parts:List (Nat×D)}(h:Dh P obj T n parts=true):(mT P obj T n parts).ok:=by
 unfold Dh at h
 unfold mT
 split at h
 ·rename_i e sz by_ hT
  rw[hT]
  simp only
  split at h
  ·rename_i hc
   simp only[Bool.and_eq_true,oG,Sz]at hc
   rw[if_pos hc];exact h
  ·rename_i hc
   have gE:¬ (n=0/\parts=[]):=by
    intro ⟨a,b⟩
    subst a;subst b
    cases hc
   rw[if_neg gE]
   simp only[Bool.and_eq_true,Bool.not_eq_true',wS]at h
   obtain⟨⟨⟨⟨⟨⟨⟨h1,h2⟩,Cx⟩,h3⟩,h4⟩,h5⟩,h6⟩,h7⟩:=h
   refine⟨?_,Cz (JT 4) _ _ h1,zc h3,pS h4,h5,h6,wR h7⟩
   have :=Ir h2
   rw[List.length_map,jd Cx,<-List.range_eq_range']at this
   exact this
 ·cases h
def Dg(P:Program)(σ:S)(t:Name)(b:Builtin)(ts:List TypeId)(args:List D):Bool:=
 match b,ts,args with
 | .len,[T],[x]=>yO P σ.obj T x
 | .append,[T1,T2],[s,x]=>yZ P σ.obj t T1 T2 s x
 | .min,_,[.v (.int _ _),.v (.int _ _)]=>true
 | .max,_,[.v (.int _ _),.v (.int _ _)]=>true
 |_,_,_=>false
def FD(P:Program)(σ:S)(t:Name):Op->Bool
 | .move _=>true
 | .assign _=>true
 | .pick c _ _=>yI (an σ c)
 | .alloc T=>y0 P σ.obj t T
 | .box _ x=>vw σ.obj t (an σ x)
 | .build T ps=>yX P T (ps.toList.map fun p=>(p.1,an σ p.2))
 | .buildSlice T n ps=>Dh P σ.obj T n (ps.toList.map fun p=>(p.1,an σ p.2))
 | .load T x=>vu P σ.obj T (an σ x)
 | .store T x d=>yG P σ.obj T (an σ x) (an σ d)
 | .nilCheck x=>yJ σ.obj (an σ x)
 | .binOp op T x y _=>yY P σ.obj op T (an σ x) (an σ y) (w7 y)
 | .unOp op _ x=>yF op (an σ x)
 | .convert s d x=>yW P s d (an σ x)
 | .makeFunc _ _ _=>true
 | .makeMap T r=>yM P σ.obj t T (r.map (an σ))
 | .makeSlice T l c=>yL P σ.obj t T (an σ l) (an σ c)
 | .slice T x lo hi mx=>yH P σ.obj T (an σ x) (lo.map (an σ)) (hi.map (an σ)) (mx.map (an σ))
 | .fieldAddr T x f=>yS P σ.obj T f (an σ x)
 | .field T x f=>yU P T (an σ x) f
 | .indexAddr T x i=>yQ P σ.obj T (an σ x) (an σ i)
 | .index T x i=>yR P T (an σ x) (an σ i)
 | .lookup T x i _=>yN P σ.obj T (an σ x) (an σ i)
 | .mapUpdate T x k d=>vt P σ.obj T (an σ x) (an σ k) (an σ d)
 | .insert T x k d=>vt P σ.obj T (an σ x) (an σ k) (an σ d)
 | .extract x i=>yV (an σ x) i
 | .call ⟨.builtin b,args,ts⟩=>Dg P σ t b ts.toList (args.toList.map (an σ))
 |_=>false
theorem WI{P:Program}{σ:S}{t:Name}{b:Builtin}{ts:List TypeId}{args:List D}(h:Dg P σ t b ts args=true):(kW P σ t b ts args).ok:=by
 unfold Dg at h
 split at h
 ·exact Lf h
 ·exact Lr h
 ·trivial
 ·trivial
 ·cases h
theorem PD{P:Program}{Γ:FuncId->Option Spec}{σ:S}{t:Name}{op:Op}(h:FD P σ t op=true):(aW P Γ σ t op).ok:=by
 cases op with
 |call c=>
  obtain⟨callee,args,ts⟩:=c
  cases callee with
  |value f=>cases h
  |builtin b=>exact WI h
  |invoke=>cases h
 |move=>trivial
 |assign=>trivial
 |makeFunc=>trivial
 |pick=>exact La h
 |alloc=>exact Lt h
 |box=>exact Dt h
 |build=>exact Lo h
 |buildSlice=>exact WJ h
 |load=>exact Dn h
 |store=>exact K0 h
 |nilCheck=>exact Lb h
 |binOp=>exact Lq h
 |unOp=>exact KY h
 |convert=>exact Ln h
 |makeMap=>exact Ld h
 |makeSlice=>exact Lc h
 |slice=>exact K8 h
 |fieldAddr=>exact Lk h
 |field=>exact Lj h
 |indexAddr=>exact Li h
 |index=>exact Lh h
 |lookup=>exact Le h
 |mapUpdate=>exact yK h
 |insert=>exact yK h
 |extract=>exact Ll h
 |_=>cases h
def xb(o:Oper):Option (TypeId×Operand×Operand×Nat):=
 match o.op with
 | .slice T x (some lo) none none=>match o.guard,o.dst with
   |none,some c=>some (T,x,lo,c)
   |_,_=>none
 |_=>none
def xa(c:Nat)(o:Oper):Bool:=
 match o.op with
 | .call ⟨.builtin .clear,args,ts⟩=>match args.toList,ts.toList,o.guard,o.dst with
   |[.tmp c'],[_],none,none=>Nat.beq c' c
   |_,_,_,_=>false
 |_=>false
def l3(o:Oper):TypeId:=match o.op with
 | .call ⟨.builtin .clear,_,ts⟩=>ts.getD 0 0
 |_=>0
def j'(P:Program)(obj:Name->Option O)(T T2:TypeId)(x lo:D):R:=
 match x,lo,bQ P T,bQ P T2 with
 | .msl nm k,.v (.int _ i),some (e,sz,_),some (e2,_,_)=>match obj nm,(a8 P e).bind fun z=>dG (gV z)with
   |some (.arr s l),some zv=>⟨k=l.length/\0<=i/\i.toNat<l.length/\s=sz/\zv.cells.length=sz/\zv.okc=true/\e2=e/\0<sz,.any,upd obj nm (some (.arr sz (l.take i.toNat++List.replicate (l.length-i.toNat) zv)))⟩
   |_,_=>.bad obj
 |_,_,_,_=>.bad obj
def ph(P:Program)(σ:S)(T:TypeId)(x lo:Operand)(c:Nat)(o2:Oper):S:=
 { σ with env:=upd σ.env c ⟨true,.any⟩,obj:=(j' P σ.obj T (l3 o2) (an σ x) (an σ lo)).obj }
inductive k9 (P:Program) (Γ:FuncId->Option Spec) (ops:Array Oper):List Oper->S->(S->Prop)->Prop
 |nil {σ:S} {K:S->Prop}:K σ->k9 P Γ ops [] σ K
 |step {o:Oper} {r:List Oper} {σ:S} {K:S->Prop}:jD P Γ ops σ o->k9 P Γ ops r (bc P Γ ops σ o) K->k9 P Γ ops (o::r) σ K
 |cut {o o2:Oper} {r:List Oper} {σ:S} {K:S->Prop} {T:TypeId} {x lo:Operand} {c:Nat}:xb o=some (T,x,lo,c)->xa c o2=true->c<σ.nt->cC σ x=true->cC σ lo=true->
    (j' P σ.obj T (l3 o2) (an σ x) (an σ lo)).ok->k9 P Γ ops r (ph P σ T x lo c o2) K->k9 P Γ ops (o::o2::r) σ K
theorem E0{m:Mem}{zv:V}{z:Value}{sz:Nat}(h:aK m zv z)(hs:zv.cells.length=sz)(cp:0<sz)(n k:Nat)(hk:k<n*sz):
 (Builtin.zeroCells z.cells n)[k]?=z.cells[k % sz]?:=by
 have hz:z.cells.size=sz:=by rw[<-h.cells];exact hs
 have hm:=Nat.mod_lt k cp
 unfold Builtin.zeroCells
 rw[hz]
 simp only[Array.getElem?_map,Array.getElem?_range,hk,if_true,Option.map_some]
 rw[Array.getElem?_eq_getElem (by omega),getElem!_pos z.cells (k % sz) (by omega)]
theorem C8{l:List V}{zv:V}{i q:Nat}(hi:i<=l.length)(hq:q<(l.take i++List.replicate (l.length-i) zv).length):
 (q<i/\∃ h:q<l.length,(l.take i++List.replicate (l.length-i) zv)[q]=l[q])\/(i<=q/\q<l.length/\(l.take i++List.replicate (l.length-i) zv)[q]=zv):=by
 have hlen:(l.take i).length=i:=by simp;omega
 have bX:=hq
 simp only[List.length_append,List.length_replicate,hlen]at bX
 by_cases h1:q<i
 ·refine .inl ⟨h1,by omega,?_⟩
  rw[List.getElem_append_left (by omega),List.getElem_take]
 ·refine .inr ⟨by omega,by omega,?_⟩
  rw[List.getElem_append_right (by omega),List.getElem_replicate]
theorem F2{K a b:Nat}(h:a<b):a*K+K<=b*K:=by
 have :=Nat.mul_le_mul_right K (show a+1<=b by omega)
 rwa [Nat.add_mul,Nat.one_mul]at this
set_option maxHeartbeats 1000000 in
theorem V7{P:Program}{G:Ghost}{φ:Name->Loc}{m:Mem}{σ:S}{a:Act}{w:World}(hC:aM G φ m σ a w)
 {ops:Array Oper} {i:Nat} {o o2:Oper} (hi:ops[i]?=some o) (jP:ops[i+1]?=some o2) {T:TypeId} {x lo:Operand} {c:Nat} (hA:xb o=some (T,x,lo,c)) (hB:xa c o2=true) (hc:c<σ.nt)
 (hx:cC σ x=true) (dX:cC σ lo=true) (aa:(j' P σ.obj T (l3 o2) (an σ x) (an σ lo)).ok) {K:Act->World->Prop} {Q:Exit->Act->World->Prop}
 (hK:∀ a' w' φ' m',aM G φ' m' (ph P σ T x lo c o2) a' w'->K a' w'):
 wpOpIn (eY G.rd) 0 P ops Q i (fun a1 w1=>wpOpIn (eY G.rd) 0 P ops Q (i+1) K a1 w1) a w:=by
 unfold xb at hA
 split at hA
 case h_2=>cases hA
 rename_i T0 x0 AW I0
 split at hA
 case h_2=>cases hA
 rename_i hg hd
 simp only[Option.some.injEq,Prod.mk.injEq]at hA
 obtain⟨rfl,rfl,rfl,rfl⟩:=hA
 unfold xa at hB
 split at hB
 case h_2=>cases hB
 rename_i args ts BJ
 split at hB
 case h_2=>cases hB
 rename_i c' T2 nO my er jS
 have Up:=Nat.eq_of_beq_eq_true hB
 subst Up
 have lW:l3 o2=T2:=by
  unfold l3
  rw[BJ]
  simp only
  have :ts= #[T2]:=by rw[<-Array.toArray_toList (xs:=ts),my]
  rw[this];rfl
 have UC:args= #[.tmp c']:=by rw[<-Array.toArray_toList (xs:=args),nO]
 have S5:ts= #[T2]:=by rw[<-Array.toArray_toList (xs:=ts),my]
 rw[lW]at aa
 have Jt:ph P σ T0 x0 AW c' o2={ σ with env:=upd σ.env c' ⟨true,.any⟩,obj:=(j' P σ.obj T0 T2 (an σ x0) (an σ AW)).obj }:=by unfold ph;rw[lW]
 rw[Jt]at hK
 clear Jt hB nO my lW
 have rx:=bY hC hx
 have rl:=bY hC dX
 unfold j' at aa hK
 split at aa
 case h_2=>exact aa.elim
 rename_i nm k kd ii e sz by_ e2 Eo KU xQ o3 JA Jz
 split at aa
 case h_2=>exact aa.elim
 rename_i s l zv ax p6
 obtain⟨h1,h2,h3,h4,h5,h6,h7,cp⟩:=aa
 subst h7
 subst h4
 obtain⟨n,rfl⟩:∃ n:Nat,ii=(n:Int):=⟨ii.toNat,by omega⟩
 simp only[xQ,o3,JA,Jz,ax,p6,Int.toNat_natCast]at hK h3
 obtain⟨hu,it,fJ,Jh,_⟩:=iw JA
 obtain⟨eN,_⟩:=iw Jz
 obtain⟨z,hz,SL⟩:=Option.bind_eq_some_iff.1 p6
 have fj:aK m zv z:=mR (rY (φ:=φ) (obj:=σ.obj) (m:=m) z) SL
 rw[xQ]at rx
 rw[o3]at rl
 cases rl with
 |v _ _ rl=>
 cases qm:a.eval AW with
 |int kd2 n2=>
  rw[qm]at rl
  cases rl
  cases rx with
  |msl _ _ _ hh _=>
  obtain⟨oo,nn,cW,hlen,hk,cO⟩:=hh
  rw[ax]at cW;cases cW
  simp only[O.len?,Option.some.injEq]at hlen
  subst hlen
  subst h1
  have hv:=cO rfl
  rcases hC.objs nm _ ax with⟨_,nJ⟩ | ⟨g0,g1,g2,g3,g4,us,T',f,g5,g6,g7,g8⟩
  ·subst nJ;simp at h3
  have p8:a.eval x0=.slice (some ⟨(φ nm).blk,(φ nm).off,none⟩) l.length (φ nm).cap:=by rw[hv];simp only[Loc.slice,g0];rfl
  have lU:(φ nm).blk<w.heap.size:=(Array.getElem?_eq_some_iff.1 g5).1
  have ji:(Instr.sliceAt T0 (.slice (some ⟨(φ nm).blk,(φ nm).off,none⟩) l.length (φ nm).cap) (some (.int kd n)) none none).run P w=
      .ok (.slice (some ⟨(φ nm).blk,(φ nm).off+n*s,none⟩) (l.length-n) ((φ nm).cap-n)) w:=by
   have hb:=wj (P:=P) (φ:=φ) (obj:=σ.obj) (m:=m) (lo:=some (.v (.int kd n))) (hi:=none) (ulo:=some (.int kd n)) (uhi:=none) (len:=l.length) (cap:=(φ nm).cap) (n:=0) (i:=n) (j:=l.length) true (.v _ _ (.int _ _)) trivial rfl rfl (by omega) (by omega) (by omega) g1 w
   rw[v8 hu]
   have aD:¬ ((φ nm).cap=n):=by omega
   simp[Instr.slice,run_underlying hu,hb,sizeOf,typeInfo,fJ,Jh,aD,mS]
  have b9:∀ cc,o.op≠ .defer cc:=fun cc h=>by rw[I0]at h;cases h
  have Tp:∀ cc,o2.op≠ .defer cc:=fun cc h=>by rw[BJ]at h;cases h
  have jM:Region.wanted o (yielded ops a.tmps)=true:=by unfold Region.wanted;rw[hg]
  have cA:(execOp a.eval o).run P w=.ok (.value (.slice (some ⟨(φ nm).blk,(φ nm).off+n*s,none⟩) (l.length-n) ((φ nm).cap-n))) w:=by
   unfold execOp
   rw[I0]
   simp only[p8,Option.map_some,Option.map_none,qm,Sem.run_bind,ji,Result.andThen_ok,Sem.run_pure]
  have key:∀ KK:Act->World->Prop,KK (a.put (some c') (.slice (some ⟨(φ nm).blk,(φ nm).off+n*s,none⟩) (l.length-n) ((φ nm).cap-n))) w->wpOpIn (eY G.rd) 0 P ops Q i KK a w:=by
   intro KK JI
   unfold wpOpIn
   simp only[hi,jM,if_true]
   refine⟨fun _ _=>trivial,?_⟩
   rw[Oper.semAt_eq _ _ _ b9,cA]
   rw[<-hd]at JI
   exact JI
  refine key _ ?_
  have fV:=hC.put (t:=c') (e:=⟨true,.any⟩) (v:=.slice (some ⟨(φ nm).blk,(φ nm).off+n*s,none⟩) (l.length-n) ((φ nm).cap-n)) hc (by unfold bZ;simp;exact .any _)
  have Jn:(a.put (some c') (.slice (some ⟨(φ nm).blk,(φ nm).off+n*s,none⟩) (l.length-n) ((φ nm).cap-n))).eval (.tmp c')=.slice (some ⟨(φ nm).blk,(φ nm).off+n*s,none⟩) (l.length-n) ((φ nm).cap-n):=by
   have hs:c'<a.tmps.size:=by rw[hC.size];exact hc
   simp[Act.put,Act.eval,Array.getD,hs]
  generalize hga:a.put (some c') (.slice (some ⟨(φ nm).blk,(φ nm).off+n*s,none⟩) (l.length-n) ((φ nm).cap-n))=a1 at fV Jn |-
  have hM:n*s<=l.length*s:=Nat.mul_le_mul_right _ (by omega)
  have hU:l.length*s<=(φ nm).cap*s:=Nat.mul_le_mul_right _ g1
  have p7:(Builtin.zeroCells z.cells (l.length-n)).toList.length=l.length*s-n*s:=by
   have Br:z.cells.size=s:=by rw[<-fj.cells];exact h5
   simp[Builtin.zeroCells,Br,Nat.sub_mul]
  obtain⟨gQ,k1,k2,k3⟩:=tG P (φ nm).blk ((φ nm).off+n*s) T' f g6 (Builtin.zeroCells z.cells (l.length-n)).toList 0 us w g5 (by rw[p7];omega)
   (fun v hv=>by
     obtain⟨k,hk,rfl⟩:=List.getElem_of_mem hv
     rw[p7,<-Nat.sub_mul]at hk
     have h0:=E0 fj h5 cp (l.length-n) k hk
     have Ja:k % s<z.cells.size:=by rw[<-fj.cells,h5];exact Nat.mod_lt _ cp
     rw[Array.getElem?_eq_getElem Ja]at h0
     have h1:(Builtin.zeroCells z.cells (l.length-n)).toList[k]=z.cells[k % s]:=by
      have :=h0
      rw[<-Array.getElem?_toList]at this
      exact(List.getElem?_eq_some_iff.1 this).2
     rw[h1]
     have qn:k % s<zv.cells.length:=by rw[h5];exact Nat.mod_lt _ cp
     exact FF ((fj.cell (k % s) qn Ja).one (fj.ones h6 _ (List.getElem_mem _))))
  simp only[Nat.add_zero]at k2
  have Bu:Region.wanted o2 (yielded ops a1.tmps)=true:=by unfold Region.wanted;rw[er]
  show wpOpIn (eY G.rd) 0 P ops Q (i+1) K a1 w
  unfold wpOpIn
  simp only[jP,Bu,if_true]
  refine⟨fun _ _=>trivial,?_⟩
  rw[Oper.semAt_eq _ _ _ Tp]
  have Tb:(execOp a1.eval o2).run P w=.ok (.value (.tuple #[])) (cv w (φ nm).blk (.cells gQ T' f)):=by
   have aD:l.length-n≠0:=by omega
   unfold execOp
   rw[BJ,UC,S5]
   simp only[resolve,invoke,builtin,Sem.run_bind,Sem.run_pure,Result.andThen_ok,List.map_toArray,List.map_cons,List.map_nil,Jn]
   have S4:Sem.run P (underlying T2) w=.ok (TypeDesc.slice e2) w:=run_underlying eN w
   have cq:(Builtin.clear_ #[T2] o2.type #[.slice (some ⟨(φ nm).blk,(φ nm).off+n*s,none⟩) (l.length-n) ((φ nm).cap-n)]).run P w=.ok (.tuple #[]) (cv w (φ nm).blk (.cells gQ T' f)):=by
    obtain⟨q,hq⟩:∃ q,l.length-n=q+1:=⟨l.length-n-1,by omega⟩
    rw[hq]at k3 |-
    simp[Builtin.clear_,S4,tF hz,k3]
   simp only[cq,Result.andThen_ok]
  rw[Tb]
  have uO:(l.take n++List.replicate (l.length-n) zv).length=l.length:=by simp;omega
  have bn:=Ext.same (φ:=φ) (o':=.arr s (l.take n++List.replicate (l.length-n) zv)) ax (by simp only[O.len?,uO]) rfl
  have T3:=fV.chg (w':=cv w (φ nm).blk (.cells gQ T' f)) nm (.arr s (l.take n++List.replicate (l.length-n) zv)) (φ nm) bn ⟨rfl,rfl,rfl,by simp[cv]⟩
   (fun b hb hn=>od (by rcases hn with h | h; · rw[g0]at h;cases h
                        ·exact h))
   (fun _=>.inr ⟨⟨_,ax,rfl,g0⟩,rfl⟩) (by
     refine .inr ⟨g0,by rw[uO];exact g1,g2,fun q hq=>?_,fun q hq=>?_,gQ,T',f,pD lU,g6,by rw[k1];exact g7,fun q j hq hj=>?_⟩
     ·rcases C8 (by omega) hq with⟨_,bX,e3⟩ | ⟨_,_,e3⟩<;>rw[e3]
      ·exact g3 q bX
      ·exact h5
     ·rcases C8 (by omega) hq with⟨_,bX,e3⟩ | ⟨_,_,e3⟩<;>rw[e3]
      ·exact g4 q bX
      ·exact fj.ones h6
     ·rw[k2,p7]
      rcases C8 (by omega) hq with⟨BE,bX,e3⟩ | ⟨BE,bX,e3⟩
      ·simp only[e3]at hj |-
       have fm:j<s:=by rw[<-g3 q bX];exact hj
       have hm:=F2 (K:=s) BE
       rw[if_neg (by omega)]
       exact g8 q j bX hj
      ·simp only[e3]at hj |-
       have fm:j<s:=by rw[<-h5];exact hj
       have hm:=F2 (K:=s) bX
       have gl:n*s<=q*s:=Nat.mul_le_mul_right _ BE
       rw[if_pos (by omega)]
       refine⟨z.cells[j]'(by rw[<-fj.cells,h5];exact fm),?_,fj.cell j hj _⟩
       rw[show (φ nm).off+q*s+j-((φ nm).off+n*s)=(q-n)*s+j by rw[Nat.sub_mul];omega,Array.getElem?_toList]
       have ae:(q-n)*s+j<(l.length-n)*s:=by rw[Nat.sub_mul,Nat.sub_mul];omega
       rw[E0 fj h5 cp _ _ ae]
       have :((q-n)*s+j) % s=j:=by rw[Nat.mul_comm,Nat.mul_add_mod,Nat.mod_eq_of_lt fm]
       rw[this,Array.getElem?_eq_getElem])
  have lS:=hK _ _ _ m T3
  show K (a1.put o2.dst (.tuple #[])) _
  rw[jS]
  exact lS
 |_=>rw[qm]at rl;cases rl
theorem O8{P:Program}{Γ:FuncId->Option Spec}(hΓ:∀ f s,Γ f=some s->aL P f s){G:Ghost}{ops:Array Oper}{Q:Exit->Act->World->Prop}{K:S->Prop}{l:List Oper}{σ:S}(hr:k9 P Γ ops l σ K):
 ∀ (k:Nat) {φ:Name->Loc} {m:Mem} {a:Act} {w:World},k+l.length=ops.size->ops.toList.drop k=l->aM G φ m σ a w->
   (∀ a' w' φ' m' σ',aM G φ' m' σ' a' w'->K σ'->Q .normal a' w')->wpOpsIn (eY G.rd) 0 P ops Q (List.range' k l.length) a w:=by
 have qq:∀ (k:Nat) (o:Oper) (r:List Oper),ops.toList.drop k=o::r->ops[k]?=some o/\ops.toList.drop (k+1)=r:=by
  intro k o r h
  have h0:(ops.toList.drop k)[0]?=some o:=by rw[h];rfl
  rw[List.getElem?_drop,Nat.add_zero,Array.getElem?_toList]at h0
  refine⟨h0,?_⟩
  have h1:(ops.toList.drop k).drop 1=r:=by rw[h];rfl
  rw[List.drop_drop]at h1
  exact h1
 induction hr with
 |nil hk=>exact fun k φ m a w _ _ hC hQ=>hQ _ _ φ m _ hC hk
 |step h1 _ ih=>
  intro k φ m a w hs hd hC hQ
  obtain⟨hi,o4⟩:=qq k _ _ hd
  rw[List.length_cons]at hs |-
  rw[List.range'_succ,wpOpsIn_cons]
  exact zG hΓ hC hi h1 fun a' w' φ' m' ca=>ih (k+1) (by omega) o4 ca hQ
 |cut hA hB hc hx dX aa _ ih=>
  intro k φ m a w hs hd hC hQ
  obtain⟨hi,o4⟩:=qq k _ _ hd
  obtain⟨jP,jS⟩:=qq (k+1) _ _ o4
  rw[List.length_cons,List.length_cons]at hs |-
  rw[List.range'_succ,wpOpsIn_cons,List.range'_succ]
  rename_i o1 o2 r' _ _ _ _ _ _ _
  have :=V7 (ops:=ops) (Q:=Q) hC hi jP hA hB hc hx dX aa (K:=fun a' w'=>wpOpsIn (eY G.rd) 0 P ops Q (List.range' (k+1+1) r'.length) a' w') fun a' w' φ' m' ca=>ih (k+2) (by omega) jS ca hQ
  have e:wpOpsIn (eY G.rd) 0 P ops Q ((k+1)::List.range' (k+1+1) r'.length)=fun a1 w1=>wpOpIn (eY G.rd) 0 P ops Q (k+1) (fun a' w'=>wpOpsIn (eY G.rd) 0 P ops Q (List.range' (k+1+1) r'.length) a' w') a1 w1:=by
   funext a1 w1
   rw[wpOpsIn_cons]
  rw[e]
  exact this
theorem Kz{P:Program}{Γ:FuncId->Option Spec}(hΓ:∀ f s,Γ f=some s->aL P f s){id:Nat}{ops:Array Oper}{σ:S}{K:Exit->S->Prop}
 (h:k9 P Γ ops ops.toList σ (K .normal)):CW P (.region id ops false) σ K:=by
 intro G φ m a w hC
 refine wpIn_region ?_
 rw[List.range_eq_range']
 have :=O8 hΓ h 0 (Q:=fun e a' w'=>∃ φ' m' σ',aM G φ' m' σ' a' w'/\K e σ') (by simp) (by simp) hC fun a' w' φ' m' σ' ca hK=>⟨φ',m',σ',ca,hK⟩
 simpa using this
def Dq(P:Program)(obj:Name->Option O)(T T2:TypeId)(x lo:D):Bool:=
 match x,lo,bQ P T,bQ P T2 with
 | .msl nm k,.v (.int _ i),some (e,sz,_),some (e2,_,_)=>match obj nm,(a8 P e).bind fun z=>dG (gV z)with
   |some (.arr s l),some zv=>cz k l.length&&cZ 0 i&&fQ i.toNat l.length&&cz s sz&&cz zv.cells.length sz&&zv.okc&&cz e2 e&&fQ 0 sz
   |_,_=>false
 |_,_,_,_=>false
theorem WV{P:Program}{obj:Name->Option O}{T T2:TypeId}{x lo:D}(h:Dq P obj T T2 x lo=true):(j' P obj T T2 x lo).ok:=by
 unfold Dq at h
 unfold j'
 split at h
 ·split at h
  ·simp only[Bool.and_eq_true]at h
   obtain⟨⟨⟨⟨⟨⟨⟨h1,h2⟩,h3⟩,h4⟩,h5⟩,h6⟩,h7⟩,h8⟩:=h
   exact⟨jd h1,fE h2,wR h3,jd h4,jd h5,h6,jd h7,wR h8⟩
  ·cases h
 ·cases h
theorem Xp{P:Program}{obj:Name->Option O}{T T2:TypeId}{x lo:D}{nm:Name}(h:nm∉aT x):(j' P obj T T2 x lo).obj nm=obj nm:=by
 unfold j'
 split
 ·split
  ·simp only[aT,List.mem_singleton]at h
   exact aV _ _ _ h
  ·rfl
 ·rfl
end Go.Eng
