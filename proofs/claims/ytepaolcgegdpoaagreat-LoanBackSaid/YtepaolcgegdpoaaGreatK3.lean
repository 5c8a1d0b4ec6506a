import Derived.Test.YtepaolcgegdpoaaGreatK2
/- Texts Eng19 to EngK. -/
set_option linter.all false
namespace Go.Eng
open Go
section
variable {P:Program} {Γ:FuncId->Option Spec} {ops:Array Oper}
structure tI where
 anc:List Nat
 past:rq
def er:Name->Name->Bool
 |[],[]=>true
 |x::r,y::s=>Nat.beq x y&&er r s
 |_,_=>false
theorem gi:∀ {a b:Name},er a b=true↔a=b
 |[],[]=>by simp[er]
 |[],_::_=>by simp[er]
 |_::_,[]=>by simp[er]
 |x::r,y::s=>by
  simp only[er,Bool.and_eq_true,Nat.beq_eq,List.cons.injEq,gi]
def uK:List Name->Name->Bool
 |[],_=>false
 |x::r,nm=>er x nm||uK r nm
theorem Jy:∀ {l:List Name} {nm:Name},uK l nm=true↔nm∈l
 |[],nm=>by simp[uK]
 |x::r,nm=>by
  simp only[uK,Bool.or_eq_true,gi,List.mem_cons,Jy]
  exact⟨fun h=>h.imp Eq.symm id,fun h=>h.imp Eq.symm id⟩
def kH:List Nat->Nat->Bool
 |[],_=>false
 |x::r,n=>Nat.beq x n||kH r n
theorem Jz:∀ {l:List Nat} {n:Nat},kH l n=true↔n∈l
 |[],n=>by simp[kH]
 |x::r,n=>by
  simp only[kH,Bool.or_eq_true,Nat.beq_eq,List.mem_cons,Jz]
  exact⟨fun h=>h.imp Eq.symm id,fun h=>h.imp Eq.symm id⟩
def vq:List Name->List Name->Bool
 |[],_=>true
 |x::r,b=>!uK b x&&vq r b
theorem FL:∀ {a b:List Name},vq a b=true->yq a b
 |[],_,_=>fun nm h=>by cases h
 |x::r,b,h=>by
  simp only[vq,Bool.and_eq_true,Bool.not_eq_true']at h
  intro nm ha hb
  rcases List.mem_cons.1 ha with rfl | ha
  ·rw[Jy.2 hb]at h;cases h.1
  ·exact FL h.2 nm ha hb
def fj(p:tI)(e:tI):Bool:=kH p.anc e.past.on||(vq e.past.wrt p.past.foot&&vq p.past.wrt e.past.foot)
def uv:List tI->Bool
 |[]=>true
 |p::L=>L.all (fj p)&&uv L
variable (P Γ ops)in
def rp:Nat->List (List Nat)->List Oper->List tI->S->(S->Prop)->Prop
 |_,_,[],L,σ,K=>uv L=true/\K σ
 |i,az,o::r,L,σ,K=>lj P Γ ops σ o/\
   rp (i+1) az.tail r (⟨az.headD [],i,cg Γ σ ((σ.base+o.dst.getD 0)::σ.pre) o.op,bM Γ σ ((σ.base+o.dst.getD 0)::σ.pre) o.op⟩::L) (bx P Γ ops σ o) K
variable (P Γ ops)in
def GN(anc:Nat->List Nat):Nat->List Oper->List rq->S->(S->Prop)->Prop
 |_,[],_,σ,K=>K σ
 |i,o::r,L,σ,K=>lj P Γ ops σ o/\ze (anc i) (cg Γ σ (Oper.tt σ o) o.op) (bM Γ σ (Oper.tt σ o) o.op) L/\
   GN anc (i+1) r (⟨i,cg Γ σ (Oper.tt σ o) o.op,bM Γ σ (Oper.tt σ o) o.op⟩::L) (bx P Γ ops σ o) K
theorem Iu{anc:Nat->List Nat}{K:S->Prop}:∀ (l:List Oper) (i:Nat) (az:List (List Nat)) (L:List tI) (σ:S),(∀ k,az.getD k []=anc (i+k))->
 rp P Γ ops i az l L σ K->uv L=true/\GN P Γ ops anc i l (L.map (·.past)) σ K
 |[],i,az,L,σ,_,h=>h
 |o::r,i,az,L,σ,ha,h=>by
  obtain⟨h1,h2⟩:=h
  obtain⟨h3,h4⟩:=Iu (anc:=anc) r (i+1) az.tail _ _ (fun k=>by
   have :=ha (k+1)
   rw[show i+(k+1)=i+1+k by omega]at this
   rw[<-this]
   cases az<;>rfl) h2
  simp only[uv,Bool.and_eq_true]at h3
  refine⟨h3.2,h1,?_,h4⟩
  intro e he
  obtain⟨p,hp,rfl⟩:=List.mem_map.1 he
  have :=List.all_eq_true.1 h3.1 p hp
  simp only[fj,Bool.or_eq_true,Bool.and_eq_true]at this
  rcases this with k | ⟨k1,k2⟩
  ·left
   have h0:az.headD []=anc i:=by
    have :=ha 0
    rw[Nat.add_zero]at this
    rw[<-this]
    cases az<;>rfl
   rw[h0]at k
   exact Jz.1 k
  ·exact .inr ⟨FL k1,FL k2⟩
theorem Iv(hN:∀ f s,Γ f=some s->s.Near){anc:Nat->List Nat}(hA:yr ops anc)(nI:∀ i j oi oj,ops[i]?=some oi->ops[j]?=some oj->i<j->i∉anc j->oi.apart ops oj=true)
 (Au:∀ j o,ops[j]?=some o->∀ e∈o.after,Region.binds .any e=true->e.on<j) {K:S->Prop}:
 ∀ (n k:Nat) (L:List rq) (listed:Array Bool) (σ:S),k+n=ops.size->listed.size=ops.size->(∀ j,listed.getD j false=decide (j<k))->tK anc listed->
   GN P Γ ops anc k (ops.toList.drop k) L σ K->ry P Γ ops anc L K n listed σ
 | 0,k,L,listed,σ,hk,hs,hl,cp,h=>by
   have :ops.toList.drop k=[]:=List.drop_eq_nil_of_le (by simp;omega)
   rw[this]at h
   refine⟨?_,h⟩
   refine List.eq_nil_iff_forall_not_mem.2 fun j hj=>?_
   obtain⟨h1,o,ho,_⟩:=mem_ready.1 hj
   have ab:j<ops.size:=(Array.getElem?_eq_some_iff.1 ho).1
   have :=hl j
   simp only[Array.getD_eq_getD_getElem?,Array.getElem?_eq_getElem (show j<listed.size by omega),Option.getD_some]at h1 this
   rw[h1]at this
   simp at this
   omega
 |n+1,k,L,listed,σ,hk,hs,hl,cp,h=>by
  have ab:k<ops.size:=by omega
  have hd:ops.toList.drop k=ops[k]::ops.toList.drop (k+1):=by
   rw[List.drop_eq_getElem_cons (by simpa using ab)];simp
  rw[hd]at h
  obtain⟨h1,h2,h3⟩:=h
  have aa:ops[k]?=some ops[k]:=Array.getElem?_eq_getElem ab
  have u3:∀ j,j<listed.size->listed.getD j true=listed.getD j false:=by
   intro j hj
   simp only[Array.getD_eq_getD_getElem?,Array.getElem?_eq_getElem hj,Option.getD_some]
  have hr:k∈Region.ready .any ops listed:=by
   refine mem_ready.2 ⟨?_,_,aa,fun e he hb=>?_⟩
   ·rw[u3 k (by omega),hl k];simp
   ·rw[hl];simpa using Au k _ aa e he hb
  refine pull hN hA aa n listed σ cp (fun j oj hj aG w8 gG=>?_) hr h1 h2 ?_
  ·have gJ:j<ops.size:=(Array.getElem?_eq_some_iff.1 hj).1
   rw[u3 j (by omega),hl j]at w8
   simp at w8
   exact nI k j _ oj aa hj (by omega) gG
  ·refine Iv hN hA nI Au n (k+1) _ _ _ (by omega) (by simpa using hs) (fun j=>?_) (cp.set hA hr) h3
   by_cases nA:k=j
   ·subst nA
    simp[show k<listed.size by omega]
   ·rw[getD_set_ne false nA,hl j]
    refine decide_eq_decide.2 ?_
    omega
def v5(ops:Array Oper)(az:List (List Nat)):Bool:=
 (List.range ops.size).all fun j=>match ops[j]? with
   |none=>true
   |some oj=>(oj.after.toList.all fun e=>!Region.binds .any e||decide (e.on<j))&&
      ((az.getD j []).all fun i=>oj.after.toList.any fun e=>Region.binds .any e&&(e.on==i||(az.getD e.on []).contains i))&&
      (List.range j).all fun i=>(az.getD j []).contains i||(match ops[i]? with | some oi=>oi.apart ops oj | none=>true)
theorem FZ(hΓ:∀ f s,Γ f=some s->aN P f s)(hP:P.follows .mixedOrders=true){id:Nat}{l:List Oper}{σ:S}{K:Exit->S->Prop}(az:List (List Nat))
 (hs:v5 l.toArray az=true) (h:∀ K':S->Prop,(∀ σ',K .normal σ'->K' σ')->rp P Γ l.toArray 0 az l [] σ K'):CW P (.region id l.toArray true) σ K:=by
 intro G φ m a w hC
 have il:∀ j oj,l.toArray[j]?=some oj->(oj.after.toList.all fun e=>!Region.binds .any e||decide (e.on<j))=true/\
       ((az.getD j []).all fun i=>oj.after.toList.any fun e=>Region.binds .any e&&(e.on==i||(az.getD e.on []).contains i))=true/\
       ((List.range j).all fun i=>(az.getD j []).contains i||(match l.toArray[i]? with | some oi=>oi.apart l.toArray oj | none=>true))=true:=by
  intro j oj hj
  have :=List.all_eq_true.1 hs j (List.mem_range.2 (Array.getElem?_eq_some_iff.1 hj).1)
  simp only[hj,Bool.and_eq_true]at this
  exact⟨this.1.1,this.1.2,this.2⟩
 have hN:∀ f s,Γ f=some s->s.Near:=fun f s h=>(hΓ f s h).near
 have hA:yr l.toArray (fun j=>az.getD j []):=by
  intro j o ho i hi
  have :=List.all_eq_true.1 (il j o ho).2.1 i hi
  obtain⟨e,he,h1⟩:=List.any_eq_true.1 this
  simp only[Bool.and_eq_true,Bool.or_eq_true,beq_iff_eq,List.contains_iff_mem]at h1
  exact⟨e,by simpa using he,h1.1,h1.2⟩
 have nI:∀ i j oi oj,l.toArray[i]?=some oi->l.toArray[j]?=some oj->i<j->i∉az.getD j []->oi.apart l.toArray oj=true:=by
  intro i j oi oj h1 h2 h3 h4
  have :=List.all_eq_true.1 (il j oj h2).2.2 i (List.mem_range.2 h3)
  simp only[h1,Bool.or_eq_true]at this
  rcases this with k | k
  ·exact(h4 (by simpa using k)).elim
  ·exact k
 have Au:∀ j o,l.toArray[j]?=some o->∀ e∈o.after,Region.binds .any e=true->e.on<j:=by
  intro j o ho e he hb
  have :=List.all_eq_true.1 (il j o ho).1 e (by simpa using he)
  simpa[hb]using this
 refine wpIn_region_any hP ?_
 obtain⟨_,hD⟩:=Iu (anc:=fun j=>az.getD j []) l 0 az [] σ (fun k=>by simp) (h (K .normal) fun _ h=>h)
 refine PB hΓ (K:=K .normal) _ _ (hC.drawn _) (Iv hN hA nI Au l.toArray.size 0 [] _ σ (by simp) (by simp) (fun j=>?_) (fun j hj=>?_) (by simpa using hD)) fun a' w' φ' m' σ' cC hK=>⟨φ',m',σ',cC,hK⟩
 ·by_cases hj:j<l.length<;>simp[hj]
 ·by_cases fy:j<l.length<;>simp[fy]at hj
theorem aa2(hΓ:∀ f s,Γ f=some s->aN P f s)(hP:P.follows .mixedOrders=true){id:Nat}{l:List Oper}{c:Code}{r:List Code}{σ:S}{K:Exit->S->Prop}(az:List (List Nat))(ks:List Nat)(ns:List Name)
 (hs:v5 l.toArray az=true) (h:∀ K':S->Prop,(∀ σ',iu ks ns σ'->CL P (c::r) (iH ks ns σ') K->K' σ')->rp P Γ l.toArray 0 az l [] σ K'):CL P (.region id l.toArray true::c::r) σ K:=
 FZ hΓ hP az hs fun K' hK=>h K' fun σ' hc hy=>hK σ' (FY ks ns hc hy)
theorem oM(hΓ:∀ f s,Γ f=some s->aN P f s)(hP:P.follows .mixedOrders=true){id:Nat}{l:List Oper}{σ:S}{K:Exit->S->Prop}(az:List (List Nat))
 (hs:v5 l.toArray az=true) (h:∀ K':S->Prop,(∀ σ',K .normal σ'->K' σ')->rp P Γ l.toArray 0 az l [] σ K'):CL P [.region id l.toArray true] σ K:=
 FZ hΓ hP az hs fun K' hK=>h K' fun σ' hc=>hK σ' hc
end
attribute [go_sem] er uK kH vq Nat.beq_eq_true_eq rp cg bM aY fp eH gx eT muts O.mut PSpec.toSpec List.headD_cons List.headD_nil List.tail_cons List.tail_nil
mutual
def D.ren(f:Name->Name):D->D
 | .v x=>.v x
 | .nilsl=>.nilsl
 | .nilmap=>.nilmap
 | .ref nm o=>.ref (f nm) o
 | .msl nm k=>.msl (f nm) k
 | .aref nm k i o=>.aref (f nm) k i o
 | .map nm=>.map (f nm)
 | .yld nm=>.yld (f nm)
 | .clo fn a b=>.clo fn (D.renL f a) (D.renL f b)
 | .agg l=>.agg (D.renL f l)
 | .tup l=>.tup (D.renL f l)
 | .any=>.any
def D.renL(f:Name->Name):List D->List D
 |[]=>[]
 |d::r=>D.ren f d::D.renL f r
end
def E.ren(f:Name->Name)(e:E):E:=⟨e.c,e.d.ren f⟩
def O.ren(f:Name->Name):O->O
 | .box cs=>.box (D.renL f cs)
 | .loop env ps asg body st bJ=>.loop (env.map (E.ren f)) ps asg body st bJ
 | .arr sz l=>.arr sz l
 | .map kd es=>.map kd es
 | .fbox cs=>.fbox cs
 | .farr sz l=>.farr sz l
 | .dead sz n=>.dead sz n
theorem kE(f:Name->Name):∀ l:List D,D.renL f l=l.map (D.ren f)
 |[]=>rfl
 |d::r=>by simp only[D.renL,List.map_cons,kE f r]
theorem D.one_ren(f:Name->Name)(d:D):(d.ren f).one=d.one:=by cases d<;>rfl
theorem O.len_ren(f:Name->Name)(o:O):(o.ren f).len?=o.len?:=by cases o<;>rfl
theorem O.sz_ren(f:Name->Name)(o:O):(o.ren f).sz=o.sz:=by cases o<;>rfl
theorem O.mut_ren(f:Name->Name)(o:O):(o.ren f).mut=o.mut:=by cases o<;>rfl
def yp(f:Name->Name)(φ φ':Name->Loc)(obj obj':Name->Option O)(dom:Name->Bool):Prop:=
 ∀ nm o,dom nm=true->obj nm=some o->∃ o',obj' (f nm)=some o'/\
   ((o'.len?=o.len?/\φ' (f nm)=φ nm/\o'.sz=o.sz)\/(∃ n n',o.len?=some n/\o'.len?=some n'/\n<n'))
theorem aF.renx{f:Name->Name}{φ φ':Name->Loc}{obj obj':Name->Option O}{m m':Mem}{dom:Name->Bool}(hm:Mem.le m m')(hx:yp f φ φ' obj obj' dom){d:D}{u:Value}
 (h:aF φ obj m d u) (hc:D.clos dom d=true):aF φ' obj' m' (d.ren f) u:=by
 induction h with
 |any u=>exact .any u
 |v x u h=>exact .v x u (h.mono hm)
 |nilsl a=>exact .nilsl a
 |nilmap=>exact .nilmap
 |ref nm off h=>
  obtain⟨o,ho,hl⟩:=h
  obtain⟨o',cY,h⟩:=hx nm o hc ho
  rcases h with⟨h1,h2,h3⟩ | ⟨n,n',h1,h2,h3⟩
  ·rw[<-h2];exact .ref (f nm) off ⟨o',cY,h1.trans hl⟩
  ·rw[hl]at h1;cases h1
 |map nm h=>
  obtain⟨o,ho,hl⟩:=h
  obtain⟨o',cY,h⟩:=hx nm o hc ho
  rcases h with⟨h1,h2,h3⟩ | ⟨n,n',h1,h2,h3⟩
  ·rw[<-h2];exact .map (f nm) ⟨o',cY,h1.trans hl⟩
  ·rw[hl]at h1;cases h1
 |yld nm h=>
  obtain⟨o,ho,hl⟩:=h
  obtain⟨o',cY,h⟩:=hx nm o hc ho
  rcases h with⟨h1,h2,h3⟩ | ⟨n,n',h1,h2,h3⟩
  ·rw[<-h2];exact .yld (f nm) ⟨o',cY,h1.trans hl⟩
  ·rw[hl]at h1;cases h1
 |msl nm k u h hu=>
  obtain⟨o,n,ho,hl,hk,he⟩:=h
  obtain⟨o',cY,h⟩:=hx nm o hc ho
  rcases h with⟨h1,h2,h3⟩ | ⟨n1,n',h1,h2,h3⟩
  ·exact .msl (f nm) k u ⟨o',n,cY,h1.trans hl,hk,fun e=>by rw[h2];exact he e⟩ hu
  ·rw[hl]at h1;cases h1
   exact .msl (f nm) k u ⟨o',n',cY,h2,by omega,fun e=>by omega⟩ hu
 |aref nm k i off u h hu=>
  obtain⟨o,n,ho,hl,hk,he⟩:=h
  obtain⟨o',cY,h⟩:=hx nm o hc ho
  rcases h with⟨h1,h2,h3⟩ | ⟨n1,n',h1,h2,h3⟩
  ·exact .aref (f nm) k i off u ⟨o',n,cY,h1.trans hl,hk,fun e=>by rw[h2,h3];exact he e⟩ hu
  ·rw[hl]at h1;cases h1
   exact .aref (f nm) k i off u ⟨o',n',cY,h2,by omega,fun e=>by omega⟩ hu
 |clo fn fs cs us vs h1 h2 dY fJ pr pq=>
  simp only[D.clos,Bool.and_eq_true]at hc
  simp only[D.ren,kE]
  refine .clo fn _ _ us vs (by simpa using h1) (by simpa using h2) (fun i a b=>?_) (fun i a b=>?_)
  ·simp only[List.getElem_map];exact pr i (by simpa using a) b (i7 _ hc.1)
  ·simp only[List.getElem_map];exact pq i (by simpa using a) b (i7 _ hc.2)
 |agg l us h ho hr ih=>
  simp only[D.clos]at hc
  simp only[D.ren,kE]
  refine .agg _ us (by simpa using h) (fun d hd=>?_) (fun i a b=>?_)
  ·obtain⟨d',h1,rfl⟩:=List.mem_map.1 hd
   rw[D.one_ren];exact ho d' h1
  ·simp only[List.getElem_map];exact ih i (by simpa using a) b (i7 _ hc)
 |tup l us h hr ih=>
  simp only[D.clos]at hc
  simp only[D.ren,kE]
  refine .tup _ us (by simpa using h) (fun i a b=>?_)
  simp only[List.getElem_map];exact ih i (by simpa using a) b (i7 _ hc)
theorem cA.renx{f:Name->Name}{φ φ':Name->Loc}{obj obj':Name->Option O}{m m':Mem}{dom:Name->Bool}(hm:Mem.le m m')(hx:yp f φ φ' obj obj' dom){e:E}{u:Value}
 (h:cA φ obj m e u) (hc:D.clos dom e.d=true):cA φ' obj' m' (e.ren f) u:=by
 unfold cA at *
 have e0:(E.ren f e).c=e.c:=rfl
 have e1:(E.ren f e).d=e.d.ren f:=rfl
 rw[e0,e1]
 by_cases hh:e.c=true
 ·rw[if_pos hh]at h |-;exact h.renx hm hx hc
 ·rw[if_neg hh]at h |-;exact h
theorem gP.ren{f:Name->Name}{φ φ':Name->Loc}{obj obj':Name->Option O}{m m':Mem}{dom:Name->Bool}{o:O}{p:Loc}{w w':World}(hm:Mem.le m m')(hx:yp f φ φ' obj obj' dom)
 (hc:O.clos dom o=true) (hw:o.mut=true->p.nul=false->w'.heap[p.blk]?=w.heap[p.blk]?) (h:gP φ obj m o p w):gP φ' obj' m' (o.ren f) p w':=by
 cases o with
 |box cs=>
  obtain⟨h0,h1,fA,us,T,g,h2,h3,h4,h5⟩:=h
  simp only[O.clos]at hc
  simp only[O.ren,gP,kE,List.length_map,List.getElem_map,List.mem_map,forall_exists_index,and_imp,forall_apply_eq_imp_iff₂,D.one_ren]
  exact⟨h0,h1,fA,us,T,g,by rw[hw rfl h1];exact h2,h3,h4,fun i a b=>(h5 i a b).renx hm hx (i7 a hc)⟩
 |arr sz l=>
  rcases h with⟨h,h'⟩ | ⟨h0,h1,h2,h3,h4,us,T,f,h5,h6,h7,h8⟩
  ·exact .inl ⟨h,h'⟩
  ·exact .inr ⟨h0,h1,h2,h3,h4,us,T,f,by rw[hw rfl h0];exact h5,h6,h7,fun i j a b=>let ⟨c,x,y⟩:=h8 i j a b;⟨c,x,y.mono hm⟩⟩
 |map kd es=>
  obtain⟨h0,h1,fA,us,T,h2,h3,h4⟩:=h
  exact⟨h0,h1,fA,us,T,by rw[hw rfl h1];exact h2,h3,fun i a b=>⟨(h4 i a b).1.mono hm,(h4 i a b).2.mono hm⟩⟩
 |fbox cs=>exact⟨h.1,fun i a=>let ⟨c,x,y⟩:=h.2 i a;⟨c,hm _ _ _ x,y.mono hm⟩⟩
 |farr sz l=>
  rcases h with⟨h,h'⟩ | ⟨h0,h1,h2,h3,h4⟩
  ·exact .inl ⟨h,h'⟩
  ·exact .inr ⟨h0,h1,h2,h3,fun i j a b=>let ⟨c,x,y⟩:=h4 i j a b;⟨c,hm _ _ _ x,y.mono hm⟩⟩
 |dead=>exact h
 |loop env ps asg body st bJ=>
  obtain⟨h0,h1,r,h2,h3,h4,h5,h6,h7,h8,h9⟩:=h
  simp only[O.clos]at hc
  simp only[O.ren,gP,List.length_map,List.getElem_map]
  refine⟨h0,h1,r,by rw[hw rfl h1];exact h2,h3,h4,h5,h6,h7,h8,fun i a=>(h9 i a).renx hm hx ?_⟩
  have :=i7 (l:=env.map (·.d)) (i:=i) (by simpa using a) hc
  simpa using this
mutual
theorem D.ren_id{f g:Name->Name}{dom:Name->Bool}(kf:∀ nm,dom nm=true->g (f nm)=nm):∀ d:D,D.clos dom d=true->(d.ren f).ren g=d
 | .v _,_=>rfl
 | .nilsl,_=>rfl
 | .nilmap,_=>rfl
 | .any,_=>rfl
 | .ref nm _,h=>by simp only[D.ren];rw[kf nm h]
 | .msl nm _,h=>by simp only[D.ren];rw[kf nm h]
 | .aref nm _ _ _,h=>by simp only[D.ren];rw[kf nm h]
 | .map nm,h=>by simp only[D.ren];rw[kf nm h]
 | .yld nm,h=>by simp only[D.ren];rw[kf nm h]
 | .clo _ a b,h=>by
   simp only[D.clos,Bool.and_eq_true]at h
   simp only[D.ren];rw[D.renL_id kf a h.1,D.renL_id kf b h.2]
 | .agg l,h=>by simp only[D.clos]at h;simp only[D.ren];rw[D.renL_id kf l h]
 | .tup l,h=>by simp only[D.clos]at h;simp only[D.ren];rw[D.renL_id kf l h]
theorem D.renL_id{f g:Name->Name}{dom:Name->Bool}(kf:∀ nm,dom nm=true->g (f nm)=nm):∀ l:List D,D.closL dom l=true->D.renL g (D.renL f l)=l
 |[],_=>rfl
 |d::r,h=>by
  simp only[D.closL,Bool.and_eq_true]at h
  simp only[D.renL];rw[D.ren_id kf d h.1,D.renL_id kf r h.2]
end
theorem O.ren_id{f g:Name->Name}{dom:Name->Bool}(kf:∀ nm,dom nm=true->g (f nm)=nm)(o:O)(h:O.clos dom o=true):(o.ren f).ren g=o:=by
 cases o with
 |box cs=>simp only[O.clos]at h;simp only[O.ren];rw[D.renL_id kf cs h]
 |loop env ps asg body st bJ=>
  simp only[O.clos]at h
  simp only[O.ren,List.map_map,O.loop.injEq,and_true]
  refine List.ext_getElem (by simp) fun i h1 h2=>?_
  have :=i7 (l:=env.map (·.d)) (i:=i) (by simpa using h2) h
  simp only[List.getElem_map,Function.comp_apply,E.ren]at this |-
  rw[D.ren_id kf _ this]
 |_=>rfl
mutual
def lZ:D->List Name
 | .ref nm _=>[nm]
 | .msl nm _=>[nm]
 | .aref nm _ _ _=>[nm]
 | .map nm=>[nm]
 | .yld nm=>[nm]
 | .clo _ a b=>de a++de b
 | .agg l=>de l
 | .tup l=>de l
 |_=>[]
def de:List D->List Name
 |[]=>[]
 |d::r=>lZ d++de r
end
def lY:O->List Name
 | .box cs=>de cs
 | .loop env _ _ _ _ _=>de (env.map (·.d))
 |_=>[]
def cX(L:List Name)(nm:Name):Bool:=L.any fun x=>x==nm
def dC(obj:Name->Option O):Nat->List Name->List Name->List Name
 | 0,_,acc=>acc
 |_+1,[],acc=>acc
 |n+1,x::todo,acc=>if cX acc x=true then dC obj n todo acc else dC obj n ((match obj x with | some o=>lY o | none=>[])++todo) (acc++[x])
def reach(obj:Name->Option O)(ds:List D):List Name:=dC obj 3000 (de ds) []
theorem gD{L:List Name}{nm:Name}:cX L nm=true↔nm∈L:=by
 simp only[cX,List.any_eq_true,beq_iff_eq]
 exact⟨fun ⟨x,h,e⟩=>e▸h,fun h=>⟨nm,h,rfl⟩⟩
theorem Cv{obj:Name->Option O}:∀ (n:Nat) (todo acc:List Name),∀ nm∈acc,nm∈dC obj n todo acc
 | 0,_,_,_,h=>h
 |_+1,[],_,_,h=>h
 |n+1,x::todo,acc,nm,h=>by
  simp only[dC]
  split
  ·exact Cv n _ _ nm h
  ·exact Cv n _ _ nm (by simp[h])
theorem yW{obj:Name->Option O}:∀ (n:Nat) (todo acc:List Name),acc.Nodup->(dC obj n todo acc).Nodup
 | 0,_,_,h=>h
 |_+1,[],_,h=>h
 |n+1,x::todo,acc,h=>by
  simp only[dC]
  split
  ·exact yW n _ _ h
  ·rename_i hx
   refine yW n _ _ (List.nodup_append.2 ⟨h,by simp,fun a ha b hb=>?_⟩)
   simp only[List.mem_singleton]at hb
   subst hb
   rintro rfl
   exact hx (gD.2 ha)
theorem Cu{obj obj2:Name->Option O}:∀ (n:Nat) (todo acc:List Name),bQ (dC obj n todo acc) obj obj2->dC obj2 n todo acc=dC obj n todo acc
 | 0,_,_,_=>rfl
 |_+1,[],_,_=>rfl
 |n+1,x::todo,acc,h=>by
  simp only[dC]at h |-
  split
  ·rename_i hx;rw[if_pos hx]at h;exact Cu n _ _ h
  ·rename_i hx
   rw[if_neg hx]at h
   have bB:obj2 x=obj x:=h x (Cv n _ _ x (by simp))
   rw[bB]
   exact Cu n _ _ h
def idx:List Name->Name->Nat
 |[],_=>0
 |x::r,nm=>if x=nm then 0 else idx r nm+1
def cin(L:List Name)(nm:Name):Name:=[idx L nm,1]
def cout(L:List Name)(t:Name):Name->Name
 |[i,1]=>L.getD i []
 |x=>x++t
def di:Name->Bool
 |[_,1]=>true
 |_=>false
theorem uR:∀ {L:List Name} {nm:Name},nm∈L->∃ h:idx L nm<L.length,L[idx L nm]=nm
 |x::r,nm,h=>by
  simp only[idx]
  by_cases e:x=nm
  ·subst e;simp
  ·simp only[if_neg e]
   obtain⟨h1,h2⟩:=uR (L:=r) (nm:=nm) (by rcases List.mem_cons.1 h with h | h; · exact(e h.symm).elim
                                         ·exact h)
   exact⟨by simp;omega,by simpa using h2⟩
theorem aaz{L:List Name}{t nm:Name}(h:nm∈L):cout L t (cin L nm)=nm:=by
 obtain⟨h1,h2⟩:=uR h
 show L.getD (idx L nm) []=nm
 rw[List.getD_eq_getElem?_getD,List.getElem?_eq_getElem h1];simpa using h2
theorem vA{L:List Name}{t x:Name}(h:di x=false):cout L t x=x++t:=by
 unfold cout
 split
 ·simp[di]at h
 ·rfl
theorem wR{x:Name}:di x=true↔∃ i,x=[i,1]:=by
 constructor
 ·intro h
  unfold di at h
  split at h
  ·exact⟨_,rfl⟩
  ·cases h
 ·rintro⟨i,rfl⟩;rfl
theorem I6(i:Nat):own [0] [i,1]=false:=by simp[own]
theorem DM{L:List Name}(hn:L.Nodup){i:Nat}(h:i<L.length):idx L L[i]=i:=by
 obtain⟨h1,h2⟩:=uR (List.getElem_mem h)
 exact(List.getElem_inj hn).1 h2
structure Out where
 upd:List (Nat×O)
 new:List (Name×O)
 d:D
 deriving Inhabited
def eX:List (Nat×O)->Nat->O->O
 |[],_,o=>o
 |(j,o')::r,i,o=>eX r i (if j=i then o' else o)
def cF(L:List Name)(t:Name):List (Nat×O)->(Name->Option O)->(Name->Option O)
 |[],obj=>obj
 |(i,o)::r,obj=>cF L t r (upd obj (L.getD i []) (some (o.ren (cout L t))))
def dz(L:List Name)(t:Name):List (Name×O)->(Name->Option O)->(Name->Option O)
 |[],obj=>obj
 |(x,o)::r,obj=>dz L t r (upd obj (x++t) (some (o.ren (cout L t))))
theorem IM{L:List Name}{t:Name}(hn:L.Nodup):∀ (l:List (Nat×O)) (obj:Name->Option O) {i:Nat} (h:i<L.length) (o:O) (_:(l.all fun x=>decide (x.1<L.length))=true) (_:obj L[i]=some (o.ren (cout L t))),
 cF L t l obj L[i]=some ((eX l i o).ren (cout L t))
 |[],obj,i,h,o,_,ho=>ho
 |(j,o')::r,obj,i,h,o,hl,ho=>by
  simp only[List.all_cons,Bool.and_eq_true,decide_eq_true_eq]at hl
  simp only[cF,eX]
  refine IM hn r _ h _ hl.2 ?_
  have e:L.getD j []=L[j]:=by rw[List.getD_eq_getElem?_getD,List.getElem?_eq_getElem hl.1];rfl
  rw[e]
  by_cases hj:j=i
  ·subst hj;rw[aT,if_pos rfl]
  ·rw[bc _ _ _ (fun e'=>hj ((List.getElem_inj hn).1 e').symm),if_neg hj];exact ho
theorem CF{L:List Name}{t:Name}:∀ (l:List (Nat×O)) (obj:Name->Option O) {nm:Name} (_:(l.all fun x=>decide (x.1<L.length))=true) (_:nm∉L),cF L t l obj nm=obj nm
 |[],_,_,_,_=>rfl
 |(j,o')::r,obj,nm,hl,hn=>by
  simp only[List.all_cons,Bool.and_eq_true,decide_eq_true_eq]at hl
  simp only[cF]
  rw[CF r _ hl.2 hn]
  refine bc _ _ _ ?_
  rintro rfl
  refine hn ?_
  rw[List.getD_eq_getElem?_getD,List.getElem?_eq_getElem hl.1];simp
theorem wu{L:List Name}{t:Name}:∀ (l:List (Name×O)) (obj:Name->Option O) {nm:Name} (_:∀ x∈l,nm≠x.1++t),dz L t l obj nm=obj nm
 |[],_,_,_=>rfl
 |(x,o')::r,obj,nm,hl=>by
  simp only[dz]
  rw[wu r _ fun y hy=>hl y (by simp[hy])]
  exact bc _ _ _ (hl (x,o') (by simp))
theorem IN{L:List Name}{t:Name}:∀ (l:List (Name×O)) (obj:Name->Option O) (_:(l.map (·.1)).Nodup) {x:Name} {o:O} (_:(x,o)∈l),dz L t l obj (x++t)=some (o.ren (cout L t))
 |(y,o')::r,obj,hn,x,o,h=>by
  simp only[List.map_cons,List.nodup_cons]at hn
  simp only[dz]
  rcases List.mem_cons.1 h with h | h
  ·cases h
   rw[wu r _ fun z hz e=>hn.1 (by
    have :_=z.1:=List.append_cancel_right e
    rw[this];exact List.mem_map_of_mem hz)]
   exact aT _ _ _
  ·exact IN r _ hn.2 h
def dj(n:Nat)(new:List (Name×O)):Name->Bool
 |[i,1]=>decide (i<n)
 |x=>new.any fun y=>y.1==x
section
variable {G:Ghost} {φ:Name->Loc} {m:Mem} {σ:S} {a:Act} {w:World}
def cH(L:List Name)(obj:Name->Option O)(nm:Name):O:=match obj nm with
 |some o=>o.ren (cin L)
 |none=>.fbox []
def shut(obj:Name->Option O)(L:List Name):Bool:=L.all fun nm=>match obj nm with
 |some o=>O.clos (cX L) o
 |none=>false
def jT(L:List Name)(obj:Name->Option O):Name->Option O
 |[i,1]=>if i<L.length then some (cH L obj (L.getD i []))else none
 |_=>none
def mM(L:List Name)(φ:Name->Loc):Name->Loc
 |[i,1]=>φ (L.getD i [])
 |_=>⟨0,0,0,true,none⟩
def pT(L:List Name)(φ:Name->Loc)(obj:Name->Option O)(b:Nat):Prop:=∃ nm∈L,holds φ obj nm/\(φ nm).blk=b
theorem v8{obj:Name->Option O}{L:List Name}(h:shut obj L=true){nm:Name}(hn:nm∈L):∃ o,obj nm=some o/\O.clos (cX L) o=true:=by
 have :=List.all_eq_true.1 h nm hn
 cases ho:obj nm with
 |none=>simp[ho]at this
 |some o=>simp only[ho]at this;exact⟨o,rfl,this⟩
theorem lE{L:List Name}{i:Nat}(h:i<L.length):L.getD i []=L[i]:=by rw[List.getD_eq_getElem?_getD,List.getElem?_eq_getElem h];rfl
theorem TP{L:List Name}{obj:Name->Option O}{nm:Name}(hn:nm∈L):jT L obj (cin L nm)=some (cH L obj nm):=by
 obtain⟨h1,h2⟩:=uR hn
 show (if idx L nm<L.length then some (cH L obj (L.getD (idx L nm) []))else none)=_
 rw[if_pos h1,lE h1,h2]
theorem Qh{L:List Name}{φ:Name->Loc}{nm:Name}(hn:nm∈L):mM L φ (cin L nm)=φ nm:=by
 obtain⟨h1,h2⟩:=uR hn
 show φ (L.getD (idx L nm) [])=_
 rw[lE h1,h2]
theorem yV{L:List Name}{obj:Name->Option O}:yp (cin L) φ (mM L φ) obj (jT L obj) (cX L):=by
 intro nm o hd ho
 have hn:=gD.1 hd
 refine⟨cH L obj nm,TP hn,.inl ⟨?_,Qh hn,?_⟩⟩
 ·simp only[cH,ho];exact O.len_ren _ _
 ·simp only[cH,ho];exact O.sz_ren _ _
theorem CX{L:List Name}{obj:Name->Option O}{x:Name}{o:O}(h:jT L obj x=some o):∃ (i:Nat) (hi:i<L.length),x=[i,1]/\o=cH L obj L[i]:=by
 unfold jT at h
 split at h
 ·rename_i i
  split at h
  ·rename_i hi
   cases h
   exact⟨i,hi,rfl,by rw[lE hi]⟩
  ·cases h
 ·cases h
def s4(w:World)(m:Mem)(L:List Name)(φ:Name->Loc)(obj:Name->Option O)(rd:Option Nat)(h:∀ l,rd=some l->¬ pT L φ obj l/\∃ r,w.heap[l]?=some (.loop r)):Ghost:=
 ⟨w,m,pT L φ obj,rd,mM L φ,jT L obj,h⟩
theorem zZ{L:List Name}{obj:Name->Option O}(hL:shut obj L=true){x:Name}(h:holds (mM L φ) (jT L obj) x):∃ (i:Nat) (hi:i<L.length),x=[i,1]/\holds φ obj L[i]:=by
 obtain⟨o,h1,h2,h3⟩:=h
 obtain⟨i,hi,rfl,rfl⟩:=CX h1
 obtain⟨o',h4,_⟩:=v8 hL (List.getElem_mem hi)
 refine⟨i,hi,rfl,o',h4,?_,?_⟩
 ·simp only[cH,h4,O.mut_ren]at h2;exact h2
 ·have:mM L φ [i,1]=φ L[i]:=by show φ (L.getD i [])=_;rw[lE hi]
  rw[this]at h3;exact h3
theorem Nz(hC:aP G φ m σ a w){L:List Name}(hn:L.Nodup)(hL:shut σ.obj L=true){rd:Option Nat}(ny:∀ l,rd=some l->¬ pT L φ σ.obj l/\∃ r,w.heap[l]?=some (.loop r))
 {nt b0:Nat} {env:Nat->E} {tmps:Array Value} (hs:tmps.size=nt) (he:∀ t,cA (mM L φ) (jT L σ.obj) m (env t) (tmps.getD t undef)):
 aP (s4 w m L φ σ.obj rd ny) (mM L φ) m ⟨nt,env,jT L σ.obj,[0],b0⟩ { tmps:=tmps,defers:=[] } w:=by
 have hφ:∀ (i:Nat) (hi:i<L.length),mM L φ [i,1]=φ L[i]:=fun i hi=>by show φ (L.getD i [])=_;rw[lE hi]
 constructor
 ·exact he
 ·exact hs
 ·exact⟨[],rfl,by simp,by simp⟩
 ·intro x o hx
  obtain⟨i,hi,rfl,rfl⟩:=CX hx
  obtain⟨o',h4,h5⟩:=v8 hL (List.getElem_mem hi)
  rw[hφ i hi]
  simp only[cH,h4]
  exact(hC.objs _ _ h4).ren (Mem.le_refl m) yV h5 fun _ _=>rfl
 ·exact hC.mem
 ·intro x hx off
  obtain⟨i,hi,rfl,h⟩:=zZ hL hx
  rw[hφ i hi]
  exact hC.apart _ h off
 ·intro x y hx hy e
  obtain⟨i,hi,rfl,h⟩:=zZ hL hx
  obtain⟨j,hj,rfl,h'⟩:=zZ hL hy
  rw[hφ i hi,hφ j hj]at e
  have :=(List.getElem_inj hn).1 (hC.inj _ _ h h' e)
  rw[this]
 ·intro x hx
  obtain⟨i,hi,rfl,h⟩:=zZ hL hx
  rw[hφ i hi]
  exact .inr ⟨_,List.getElem_mem hi,h,rfl⟩
 ·exact⟨rfl,rfl,rfl,Nat.le_refl _,fun _ _ _=>rfl⟩
 ·intro b off v h;exact .inl h
 ·refine⟨fun x o hx=>?_,Ext.refl _ _⟩
  obtain⟨i,hi,rfl,_⟩:=CX hx
  exact I6 i
structure Qg (σ:S) (os:List O) (o:Out):Prop where
 objs:∀ i (h:i<os.length),σ.obj [i,1]=some (eX o.upd i os[i])
 news:∀ x∈o.new,σ.obj x.1=some x.2
 cd:D.clos (dj os.length o.new) o.d=true
 cu:(o.upd.all fun x=>O.clos (dj os.length o.new) x.2&&decide (x.1<os.length))=true
 cn:(o.new.all fun x=>O.clos (dj os.length o.new) x.2&&!di x.1)=true
 nd:(o.new.map (·.1)).Nodup
def fresh(obj:Name->Option O)(t:Name)(new:List (Name×O)):Bool:=new.all fun x=>(obj (x.1++t)).isNone
theorem Z7{n:Nat}{new:List (Name×O)}{x:Name×O}(h:di x.1=false)(hx:x∈new):dj n new x.1=true:=by
 have key:∀ nm:Name,di nm=false->dj n new nm=new.any fun y=>y.1==nm:=by
  intro nm h
  unfold dj
  split
  ·simp[di]at h
  ·rfl
 rw[key _ h]
 exact List.any_eq_true.2 ⟨x,hx,by simp⟩
theorem JW{dom:Name->Bool}:∀ (l:List (Nat×O)) (i:Nat) (o:O),O.clos dom o=true->(∀ x∈l,O.clos dom x.2=true)->O.clos dom (eX l i o)=true
 |[],_,_,h,_=>h
 |(j,o')::r,i,o,h,hl=>by
  simp only[eX]
  refine JW r i _ ?_ fun x hx=>hl x (by simp[hx])
  split
  ·exact hl (j,o') (by simp)
  ·exact h
mutual
theorem clos_ren{f:Name->Name}{dom dom':Name->Bool}(hf:∀ nm,dom nm=true->dom' (f nm)=true):∀ d:D,D.clos dom d=true->D.clos dom' (d.ren f)=true
 | .v _,_=>by simp only[D.ren,D.clos]
 | .nilsl,_=>by simp only[D.ren,D.clos]
 | .nilmap,_=>by simp only[D.ren,D.clos]
 | .any,_=>by simp only[D.ren,D.clos]
 | .ref nm _,h=>hf nm h
 | .msl nm _,h=>hf nm h
 | .aref nm _ _ _,h=>hf nm h
 | .map nm,h=>hf nm h
 | .yld nm,h=>hf nm h
 | .clo _ a b,h=>by
   simp only[D.clos,Bool.and_eq_true]at h
   simp only[D.ren,D.clos,Bool.and_eq_true]
   exact⟨tj hf a h.1,tj hf b h.2⟩
 | .agg l,h=>by simp only[D.clos]at h;simp only[D.ren,D.clos];exact tj hf l h
 | .tup l,h=>by simp only[D.clos]at h;simp only[D.ren,D.clos];exact tj hf l h
theorem tj{f:Name->Name}{dom dom':Name->Bool}(hf:∀ nm,dom nm=true->dom' (f nm)=true):∀ l:List D,D.closL dom l=true->D.closL dom' (D.renL f l)=true
 |[],_=>by simp only[D.renL,D.closL]
 |d::r,h=>by
  simp only[D.closL,Bool.and_eq_true]at h
  simp only[D.renL,D.closL,Bool.and_eq_true]
  exact⟨clos_ren hf d h.1,tj hf r h.2⟩
end
theorem O.clos_ren{f:Name->Name}{dom dom':Name->Bool}(hf:∀ nm,dom nm=true->dom' (f nm)=true)(o:O)(h:O.clos dom o=true):O.clos dom' (o.ren f)=true:=by
 cases o with
 |box cs=>simp only[O.clos]at h;simp only[O.ren,O.clos];exact tj hf cs h
 |loop env ps asg body st bJ=>
  simp only[O.clos]at h
  simp only[O.ren,O.clos]
  have :=tj hf _ h
  rw[kE,List.map_map]at this
  rw[List.map_map]
  exact this
 |_=>rfl
theorem Ny(hC:aP G φ m σ a w){L:List Name}(hn:L.Nodup)(hL:shut σ.obj L=true){rd:Option Nat}{ny:∀ l,rd=some l->¬ pT L φ σ.obj l/\∃ r,w.heap[l]?=some (.loop r)}
 {φ2:Name->Loc} {m2:Mem} {σ2:S} {a2:Act} {w2:World} (fz:aP (s4 w m L φ σ.obj rd ny) φ2 m2 σ2 a2 w2) {o:Out} (hE:Qg σ2 (L.map (cH L σ.obj)) o) {t:Name} (hf:fresh σ.obj t o.new=true):
 ∃ φ' m',Mem.le m m'/\aP G φ' m' { σ with obj:=dz L t o.new (cF L t o.upd σ.obj) } a w2/\
   Ext φ φ' σ.obj (dz L t o.new (cF L t o.upd σ.obj))/\
   (∀ d u,aF φ2 σ2.obj m2 d u->D.clos (dj L.length o.new) d=true->aF φ' (dz L t o.new (cF L t o.upd σ.obj)) m' (d.ren (cout L t)) u):=by
 have hlen:(L.map (cH L σ.obj)).length=L.length:=by simp
 obtain⟨h1,h2,h3,h4,h5,h6⟩:=hE
 rw[hlen]at h3 h4 h5
 have hu:(o.upd.all fun x=>decide (x.1<L.length))=true:=List.all_eq_true.2 fun x hx=>by
  have :=List.all_eq_true.1 h4 x hx
  simp only[Bool.and_eq_true]at this;exact this.2
 have zP:∀ x∈o.upd,O.clos (dj L.length o.new) x.2=true:=fun x hx=>by
  have :=List.all_eq_true.1 h4 x hx
  simp only[Bool.and_eq_true]at this;exact this.1
 have XT:∀ x∈o.new,O.clos (dj L.length o.new) x.2=true:=fun x hx=>by
  have :=List.all_eq_true.1 h5 x hx
  simp only[Bool.and_eq_true]at this;exact this.1
 have Er:∀ x∈o.new,di x.1=false:=fun x hx=>by
  have :=List.all_eq_true.1 h5 x hx
  simp only[Bool.and_eq_true,Bool.not_eq_true']at this;exact this.2
 have cS:∀ x∈o.new,σ.obj (x.1++t)=none:=fun x hx=>by
  have :=List.all_eq_true.1 hf x hx
  simpa using this
 have Zo:∀ nm∈L,∃ o,σ.obj nm=some o:=fun nm h=>let ⟨o,h,_⟩:=v8 hL h;⟨o,h⟩
 have sU:∀ nm∈L,∀ x∈o.new,nm≠x.1++t:=fun nm h x hx e=>by
  obtain⟨o',ho⟩:=Zo nm h
  rw[e,cS x hx]at ho;cases ho
 have YT:∀ nm,cX L nm=true->cout L t (cin L nm)=nm:=fun nm h=>aaz (gD.1 h)
 generalize fg:dz L t o.new (cF L t o.upd σ.obj)=obj'
 have z1:∀ (i:Nat) (hi:i<L.length),obj' L[i]=some ((eX o.upd i (cH L σ.obj L[i])).ren (cout L t)):=fun i hi=>by
  rw[<-fg,wu _ _ (sU _ (List.getElem_mem hi))]
  refine IM hn _ _ hi _ hu ?_
  obtain⟨o',ho,hc⟩:=v8 hL (List.getElem_mem hi)
  simp only[cH,ho]
  rw[O.ren_id YT o' hc]
 have Ei:∀ x∈o.new,obj' (x.1++t)=some (x.2.ren (cout L t)):=fun x hx=>by rw[<-fg];exact IN _ _ h6 hx
 have Eh:∀ nm,nm∉L->(∀ x∈o.new,nm≠x.1++t)->obj' nm=σ.obj nm:=fun nm h h'=>by rw[<-fg,wu _ _ h',CF _ _ hu h]
 let φ':Name->Loc:=fun nm=>if nm∈L then φ2 (cin L nm)else match o.new.find? (fun x=>x.1++t==nm)with
  |some x=>φ2 x.1
  |none=>φ nm
 have wV:∀ (i:Nat) (hi:i<L.length),φ' L[i]=φ2 [i,1]:=fun i hi=>by
  show (if L[i]∈L then φ2 (cin L L[i])else _)=_
  rw[if_pos (List.getElem_mem hi)]
  show φ2 [idx L L[i],1]=_
  rw[DM hn hi]
 have zH:∀ x∈o.new,φ' (x.1++t)=φ2 x.1:=fun x hx=>by
  show (if x.1++t∈L then _ else _)=_
  rw[if_neg fun h=>sU _ h x hx rfl]
  cases qG:o.new.find? (fun y=>y.1++t==x.1++t)with
  |none=>have:=List.find?_eq_none.1 qG x hx;simp at this
  |some y=>
   have :=List.find?_some qG
   simp only[beq_iff_eq]at this
   simp only[List.append_cancel_right this]
 have zG:∀ nm,nm∉L->(∀ x∈o.new,nm≠x.1++t)->φ' nm=φ nm:=fun nm h h'=>by
  show (if nm∈L then _ else _)=_
  rw[if_neg h]
  cases qG:o.new.find? (fun y=>y.1++t==nm)with
  |none=>rfl
  |some y=>
   have :=List.find?_some qG
   simp only[beq_iff_eq]at this
   exact(h' y (List.mem_of_find?_eq_some qG) this.symm).elim
 let m':Mem:=fun b off=>match m2 b off with | some c=>some c | none=>m b off
 have zY:=fz.own
 have sL:∀ b,pT L φ σ.obj b->b<w.heap.size:=fun b ⟨nm,h,⟨o',k1,k2,k3⟩,e⟩=>by rw[<-e];exact(hC.objs nm o' k1).lt k2 k3
 have Ew:Mem.le m m':=by
  intro b off v h
  show (match m2 b off with | some c=>some c | none=>m b off)=some v
  cases hq:m2 b off with
  |none=>exact h
  |some c=>
   have k1:=fz.mem b off c hq
   have k2:=hC.mem b off v h
   rw[qZ (fz.fr.block b (oO k2) fun ⟨nm,_,k3,e⟩=>by
    have :=hC.apart nm k3 off;rw[e,h]at this;cases this)]at k1
   have k3:World.cell? w ⟨b,off,none⟩=some c:=k1
   rw[k2]at k3;exact k3.symm
 have Ev:Mem.le m2 m':=by
  intro b off v h
  show (match m2 b off with | some c=>some c | none=>m b off)=some v
  rw[h]
 have Ab:∀ b off v,m' b off=some v->m2 b off=some v\/(m2 b off=none/\m b off=some v):=by
  intro b off v h
  have h':(match m2 b off with | some c=>some c | none=>m b off)=some v:=h
  cases hq:m2 b off with
  |none=>rw[hq]at h';exact .inr ⟨rfl,h'⟩
  |some c=>rw[hq]at h';exact .inl h'
 have EY:∀ x,dj L.length o.new x=true->(∃ (i:Nat) (hi:i<L.length),x=[i,1])\/(di x=false/\∃ y∈o.new,y.1=x):=by
  intro x hx
  unfold dj at hx
  split at hx
  ·rename_i i
   exact .inl ⟨i,by simpa using hx,rfl⟩
  ·obtain⟨y,hy,e⟩:=List.any_eq_true.1 hx
   simp only[beq_iff_eq]at e
   subst e
   exact .inr ⟨Er y hy,y,hy,rfl⟩
 have ve:∀ (i:Nat) (hi:i<L.length),cout L t [i,1]=L[i]:=fun i hi=>lE hi
 have nE:∀ (i:Nat) (hi:i<L.length),σ2.obj [i,1]=some (eX o.upd i (cH L σ.obj L[i])):=fun i hi=>by
  have :=h1 i (by simpa using hi)
  simpa using this
 have D4:yp (cout L t) φ2 φ' σ2.obj obj' (dj L.length o.new):=by
  intro x q hd hq
  rcases EY x hd with⟨i,hi,rfl⟩ | ⟨hi,y,hy,rfl⟩
  ·rw[ve i hi,z1 i hi,wV i hi]
   rw[nE i hi]at hq;cases hq
   exact⟨_,rfl,.inl ⟨O.len_ren _ _,rfl,O.sz_ren _ _⟩⟩
  ·rw[vA hi,Ei y hy,zH y hy]
   rw[h2 y hy]at hq;cases hq
   exact⟨_,rfl,.inl ⟨O.len_ren _ _,rfl,O.sz_ren _ _⟩⟩
 have Yy:∀ (i:Nat) (hi:i<L.length),O.clos (dj L.length o.new) (eX o.upd i (cH L σ.obj L[i]))=true:=by
  intro i hi
  refine JW _ _ _ ?_ zP
  obtain⟨o',ho,hc⟩:=v8 hL (List.getElem_mem hi)
  simp only[cH,ho]
  refine O.clos_ren (fun nm hd=>?_) o' hc
  obtain⟨k1,_⟩:=uR (gD.1 hd)
  show decide (idx L nm<L.length)=true
  simpa using k1
 have An:Ext φ φ' σ.obj obj':=by
  intro nm q hq
  by_cases fK:nm∈L
  ·obtain⟨i,hi,rfl⟩:=List.getElem_of_mem fK
   obtain⟨C2,k1,k2⟩:=fz.kept.2 [i,1] (cH L σ.obj L[i]) (by
    show jT L σ.obj [i,1]=_
    show (if i<L.length then _ else _)=_
    rw[if_pos hi,lE hi])
   have WM:C2=eX o.upd i (cH L σ.obj L[i]):=by rw[nE i hi]at k1;exact(Option.some.inj k1).symm
   subst WM
   have W1:mM L φ [i,1]=φ L[i]:=by show φ (L.getD i [])=_;rw[lE hi]
   have cp:(cH L σ.obj L[i]).len?=q.len?/\(cH L σ.obj L[i]).sz=q.sz:=by
    simp only[cH,hq];exact⟨O.len_ren _ _,O.sz_ren _ _⟩
   refine⟨_,z1 i hi,?_⟩
   rw[O.len_ren,O.sz_ren,wV i hi]
   rcases k2 with⟨a1,a2,a3⟩ | ⟨n,n',a1,a2,a3⟩
   ·exact .inl ⟨a1.trans cp.1,(a2:φ2 [i,1]=mM L φ [i,1]).trans W1,a3.trans cp.2⟩
   ·exact .inr ⟨n,n',cp.1▸a1,a2,a3⟩
  ·have qB:∀ x∈o.new,nm≠x.1++t:=fun x hx e=>by rw[e,cS x hx]at hq;cases hq
   exact⟨q,by rw[Eh nm fK qB];exact hq,.inl ⟨rfl,zG nm fK qB,rfl⟩⟩
 have vg:∀ nm,holds φ' obj' nm->(∃ x,holds φ2 σ2.obj x/\φ' nm=φ2 x/\nm=cout L t x/\dj L.length o.new x=true)\/(nm∉L/\(∀ x∈o.new,nm≠x.1++t)/\holds φ σ.obj nm/\φ' nm=φ nm):=by
  rintro nm ⟨q,k1,k2,k3⟩
  by_cases fK:nm∈L
  ·obtain⟨i,hi,rfl⟩:=List.getElem_of_mem fK
   left
   rw[z1 i hi]at k1;cases k1
   rw[O.mut_ren]at k2
   rw[wV i hi]at k3
   exact⟨[i,1],⟨_,nE i hi,k2,k3⟩,wV i hi,(ve i hi).symm,by show decide (i<L.length)=true;simpa using hi⟩
  ·by_cases qB:∃ x∈o.new,nm=x.1++t
   ·obtain⟨x,hx,rfl⟩:=qB
    left
    rw[Ei x hx]at k1;cases k1
    rw[O.mut_ren]at k2
    rw[zH x hx]at k3
    refine⟨x.1,⟨_,h2 x hx,k2,k3⟩,zH x hx,(vA (Er x hx)).symm,?_⟩
    exact Z7 (Er x hx) hx
   ·have sC:∀ x∈o.new,nm≠x.1++t:=fun x hx e=>qB ⟨x,hx,e⟩
    right
    rw[Eh nm fK sC]at k1
    rw[zG nm fK sC]at k3
    exact⟨fK,sC,⟨q,k1,k2,k3⟩,zG nm fK sC⟩
 have ju:∀ nm,nm∉L->holds φ σ.obj nm->(φ nm).blk<w.heap.size/\¬ pT L φ σ.obj (φ nm).blk:=by
  intro nm fK hh
  obtain⟨q,k1,k2,k3⟩:=hh
  refine⟨(hC.objs nm q k1).lt k2 k3,fun ⟨x,k4,k5,k6⟩=>?_⟩
  exact fK (hC.inj _ _ k5 ⟨q,k1,k2,k3⟩ k6▸k4)
 have agJ:∀ x y,dj L.length o.new x=true->dj L.length o.new y=true->cout L t x=cout L t y->x=y:=by
  intro x y hx hy e
  rcases EY x hx with⟨i,hi,rfl⟩ | ⟨k1,x',bB,rfl⟩<;>rcases EY y hy with⟨j,hj,rfl⟩ | ⟨k2,y',W6,rfl⟩
  ·rw[ve i hi,ve j hj]at e
   rw[(List.getElem_inj hn).1 e]
  ·rw[ve i hi,vA k2]at e
   exact(sU _ (List.getElem_mem hi) y' W6 e).elim
  ·rw[ve j hj,vA k1]at e
   exact(sU _ (List.getElem_mem hj) x' bB e.symm).elim
  ·rw[vA k1,vA k2]at e
   exact List.append_cancel_right e
 refine⟨φ',m',Ew,?_,An,fun d u hd hc=>hd.renx Ev D4 hc⟩
 constructor
 ·exact fun x=>(hC.tmps x).ext Ew An
 ·exact hC.size
 ·obtain⟨ds,k1,k2,k3⟩:=hC.defers
  refine⟨ds,k1,k2,fun D hD=>⟨(k3 D hD).1,?_⟩⟩
  have k4:=(k3 D hD).2
  rw[fz.fr.block D (Array.getElem?_eq_some_iff.1 k4).1 fun ⟨x,_,⟨q,k5,k6,k7⟩,k8⟩=>(hC.objs x q k5).notDef k6 k7 _ (by rw[k8];exact k4)]
  exact k4
 ·intro nm q hq
  by_cases fK:nm∈L
  ·obtain⟨i,hi,rfl⟩:=List.getElem_of_mem fK
   have bO:obj' L[i]=some q:=hq
   rw[z1 i hi]at bO;cases bO
   rw[wV i hi]
   exact(fz.objs _ _ (nE i hi)).ren Ev D4 (Yy i hi) fun _ _=>rfl
  ·by_cases qB:∃ x∈o.new,nm=x.1++t
   ·obtain⟨x,hx,rfl⟩:=qB
    have bO:obj' (x.1++t)=some q:=hq
    rw[Ei x hx]at bO;cases bO
    rw[zH x hx]
    exact(fz.objs _ _ (h2 x hx)).ren Ev D4 (XT x hx) fun _ _=>rfl
   ·have sC:∀ x∈o.new,nm≠x.1++t:=fun x hx e=>qB ⟨x,hx,e⟩
    have bO:obj' nm=some q:=hq
    rw[Eh nm fK sC]at bO
    rw[zG nm fK sC]
    refine(hC.objs nm q bO).ext Ew An fun k2 k3=>?_
    obtain⟨k4,k5⟩:=ju nm fK ⟨q,bO,k2,k3⟩
    exact fz.fr.block _ k4 k5
 ·intro b off v h
  rcases Ab b off v h with h | ⟨Aa,h⟩
  ·exact fz.mem b off v h
  ·have k2:=hC.mem b off v h
   rw[qZ (fz.fr.block b (oO k2) fun ⟨nm,_,k3,e⟩=>by
    have :=hC.apart nm k3 off;rw[e,h]at this;cases this)]
   exact k2
 ·intro nm hh off
  rcases vg nm hh with⟨x,k1,k2,_,_⟩ | ⟨k1,k2,k3,k4⟩
  ·rw[k2]
   cases hq:m' (φ2 x).blk off with
   |none=>rfl
   |some v=>
    rcases Ab _ _ _ hq with h | ⟨_,h⟩
    ·have:=fz.apart x k1 off;rw[h]at this;cases this
    ·rcases zY x k1 with h' | ⟨kF,k5,k6,k7⟩
     ·have:=oO (hC.mem _ _ _ h)
      have gL:w.heap.size<=(φ2 x).blk:=h'
      omega
     ·have:=hC.apart kF k6 off
      rw[k7,h]at this;cases this
  ·rw[k4]
   obtain⟨k5,k6⟩:=ju nm k1 k3
   cases hq:m' (φ nm).blk off with
   |none=>rfl
   |some v=>
    rcases Ab _ _ _ hq with h | ⟨_,h⟩
    ·rcases fz.fresh _ _ _ h with h' | h' | h'
     ·have:=hC.apart nm k3 off
      have gL:m (φ nm).blk off=some v:=h'
      rw[gL]at this;cases this
     ·have gL:w.heap.size<=(φ nm).blk:=h'
      omega
     ·exact(k6 h').elim
    ·have:=hC.apart nm k3 off;rw[h]at this;cases this
 ·intro nm kF hh Yl e
  rcases vg nm hh with⟨x,k1,k2,k3,k4⟩ | ⟨k1,k2,k3,k4⟩<;>rcases vg kF Yl with⟨x',j1,j2,j3,j4⟩ | ⟨j1,j2,j3,j4⟩
  ·rw[k2,j2]at e
   rw[k3,j3,fz.inj _ _ k1 j1 e]
  ·exfalso
   rw[k2,j4]at e
   obtain⟨k5,k6⟩:=ju kF j1 j3
   rcases zY x k1 with h' | h'
   ·have gL:w.heap.size<=(φ2 x).blk:=h'
    omega
   ·rw[e]at h';exact k6 h'
  ·exfalso
   rw[k4,j2]at e
   obtain⟨k5,k6⟩:=ju nm k1 k3
   rcases zY x' j1 with h' | h'
   ·have gL:w.heap.size<=(φ2 x').blk:=h'
    omega
   ·rw[<-e]at h';exact k6 h'
  ·rw[k4,j4]at e
   exact hC.inj _ _ k3 j3 e
 ·intro nm hh
  rcases vg nm hh with⟨x,k1,k2,_,_⟩ | ⟨k1,k2,k3,k4⟩
  ·rw[k2]
   rcases zY x k1 with h' | ⟨kF,k5,k6,k7⟩
   ·exact .inl (Nat.le_trans hC.fr.size h')
   ·rw[<-k7];exact hC.own kF k6
  ·rw[k4];exact hC.own nm k3
 ·refine⟨fz.fr.os.trans hC.fr.os,fz.fr.tape.trans hC.fr.tape,fz.fr.output.trans hC.fr.output,Nat.le_trans hC.fr.size fz.fr.size,fun b hb ho=>?_⟩
  rw[fz.fr.block b (Nat.lt_of_lt_of_le hb hC.fr.size) fun ⟨nm,_,k3,e⟩=>?_]
  ·exact hC.fr.block b hb ho
  ·rcases hC.own nm k3 with h | h<;>rw[e]at h
   ·omega
   ·exact ho h
 ·intro b off v h
  rcases Ab b off v h with h | ⟨_,h⟩
  ·rcases fz.fresh _ _ _ h with h' | h' | ⟨nm,_,k3,e⟩
   ·exact hC.fresh _ _ _ h'
   ·exact .inr (.inl (Nat.le_trans hC.fr.size h'))
   ·rw[<-e];exact .inr (hC.own nm k3)
  ·exact hC.fresh _ _ _ h
 ·exact⟨hC.kept.1,hC.kept.2.trans An⟩
end
def dm:Nat->List D->List (Nat×E)
 |_,[]=>[]
 |k,x::r=>(k,⟨true,x⟩)::dm (k+1) r
theorem PA:∀ {k:Nat} {xs:List D} {t:Nat} {e:E},(t,e)∈dm k xs->∃ (i:Nat) (h:i<xs.length),t=k+i/\e=⟨true,xs[i]⟩
 |k,[],t,e,h=>by simp[dm]at h
 |k,x::r,t,e,h=>by
  simp only[dm,List.mem_cons,Prod.mk.injEq]at h
  rcases h with⟨rfl,rfl⟩ | h
  ·exact⟨0,by simp,rfl,rfl⟩
  ·obtain⟨i,hi,h1,h2⟩:=PA h
   exact⟨i+1,by simpa using hi,by omega,by simpa using h2⟩
structure CSpec where
 pre:List O->List D->Prop
 out:List O->List D->Out
def cD(obj:Name->Option O)(ds:List D):List O:=(reach obj ds).map (cH (reach obj ds) obj)
def dd(obj:Name->Option O)(ds:List D):List D:=D.renL (cin (reach obj ds)) ds
def CSpec.toSpec(s:CSpec):Spec where
 app obj t ds:=⟨(shut obj (reach obj ds)&&D.closL (cX (reach obj ds)) ds&&fresh obj t (s.out (cD obj ds) (dd obj ds)).new)=true/\s.pre (cD obj ds) (dd obj ds),
  (s.out (cD obj ds) (dd obj ds)).d.ren (cout (reach obj ds) t),dz (reach obj ds) t (s.out (cD obj ds) (dd obj ds)).new (cF (reach obj ds) t (s.out (cD obj ds) (dd obj ds)).upd obj)⟩
 foot obj t ds:=reach obj ds++((s.out (cD obj ds) (dd obj ds)).upd.map fun x=>(reach obj ds).getD x.1 [])++(s.out (cD obj ds) (dd obj ds)).new.map fun x=>x.1++t
 wrt obj t ds:=((s.out (cD obj ds) (dd obj ds)).upd.map fun x=>(reach obj ds).getD x.1 [])++(s.out (cD obj ds) (dd obj ds)).new.map fun x=>x.1++t
theorem uu{L:List Name}{t:Name}:∀ (l:List (Nat×O)) (obj obj2:Name->Option O) (nm:Name),cF L t l obj2 nm=if nm∈l.map (fun x=>L.getD x.1 [])then cF L t l obj nm else obj2 nm
 |[],obj,obj2,nm=>by simp[cF]
 |(i,o)::r,obj,obj2,nm=>by
  simp only[cF,List.map_cons,List.mem_cons]
  rw[uu r (upd obj (L.getD i []) (some (o.ren (cout L t)))) (upd obj2 (L.getD i []) (some (o.ren (cout L t)))) nm]
  by_cases h:nm∈r.map (fun x=>L.getD x.1 [])
  ·rw[if_pos h,if_pos (.inr h)]
  ·rw[if_neg h]
   by_cases e:nm=L.getD i []
   ·rw[if_pos (.inl e)]
    have hu:cF L t r (upd obj (L.getD i []) (some (o.ren (cout L t)))) nm=(upd obj (L.getD i []) (some (o.ren (cout L t)))) nm:=by
     rw[uu r obj _ nm,if_neg h]
    rw[hu,e,aT,aT]
   ·rw[if_neg (by simp only[not_or];exact⟨e,h⟩)]
    exact bc _ _ _ e
theorem rN{L:List Name}{t:Name}:∀ (l:List (Name×O)) (obj obj2:Name->Option O) (nm:Name),dz L t l obj2 nm=if nm∈l.map (fun x=>x.1++t)then dz L t l obj nm else obj2 nm
 |[],obj,obj2,nm=>by simp[dz]
 |(i,o)::r,obj,obj2,nm=>by
  simp only[dz,List.map_cons,List.mem_cons]
  rw[rN r (upd obj (i++t) (some (o.ren (cout L t)))) (upd obj2 (i++t) (some (o.ren (cout L t)))) nm]
  by_cases h:nm∈r.map (fun x=>x.1++t)
  ·rw[if_pos h,if_pos (.inr h)]
  ·rw[if_neg h]
   by_cases e:nm=i++t
   ·rw[if_pos (.inl e)]
    have hu:dz L t r (upd obj (i++t) (some (o.ren (cout L t)))) nm=(upd obj (i++t) (some (o.ren (cout L t)))) nm:=by
     rw[rN r obj _ nm,if_neg h]
    rw[hu,e,aT,aT]
   ·rw[if_neg (by simp only[not_or];exact⟨e,h⟩)]
    exact bc _ _ _ e
theorem o6{obj obj2:Name->Option O}{ds:List D}(h:bQ (reach obj ds) obj obj2):reach obj2 ds=reach obj ds:=Cu _ _ _ h
theorem xV{obj obj2:Name->Option O}{ds:List D}(h:bQ (reach obj ds) obj obj2):cD obj2 ds=cD obj ds:=by
 unfold cD
 rw[o6 h]
 exact List.map_congr_left fun nm hn=>by simp only[cH];rw[h nm hn]
theorem Gc{obj obj2:Name->Option O}{ds:List D}(h:bQ (reach obj ds) obj obj2):dd obj2 ds=dd obj ds:=by
 unfold dd
 rw[o6 h]
theorem B9{obj obj2:Name->Option O}{L:List Name}(h:bQ L obj obj2):shut obj2 L=shut obj L:=by
 unfold shut
 refine Bool.eq_iff_iff.2 ?_
 simp only[List.all_eq_true]
 exact⟨fun k x hx=>by rw[<-h x hx];exact k x hx,fun k x hx=>by rw[h x hx];exact k x hx⟩
theorem AI{obj obj2:Name->Option O}{t:Name}{new:List (Name×O)}(h:bQ (new.map fun x=>x.1++t) obj obj2):fresh obj2 t new=fresh obj t new:=by
 unfold fresh
 refine Bool.eq_iff_iff.2 ?_
 simp only[List.all_eq_true]
 exact⟨fun k x hx=>by rw[<-h _ (List.mem_map_of_mem hx)];exact k x hx,fun k x hx=>by rw[h _ (List.mem_map_of_mem hx)];exact k x hx⟩
theorem Dr{ok ok2:Prop}{d:D}{obj obj2:Name->Option O}{L:List Name}{t:Name}{o:Out}(aa:ok2=ok)
 (ha:bQ ((o.upd.map fun x=>L.getD x.1 [])++o.new.map fun x=>x.1++t) obj obj2):
 bX ⟨ok,d,dz L t o.new (cF L t o.upd obj)⟩ ⟨ok2,d,dz L t o.new (cF L t o.upd obj2)⟩ obj obj2 ((o.upd.map fun x=>L.getD x.1 [])++o.new.map fun x=>x.1++t):=by
 refine⟨aa,rfl,fun nm=>?_,fun nm hn=>?_⟩
 ·show dz L t o.new (cF L t o.upd obj2) nm=if nm∈_ then dz L t o.new (cF L t o.upd obj) nm else obj2 nm
  rw[rN o.new (cF L t o.upd obj) (cF L t o.upd obj2) nm]
  by_cases h1:nm∈o.new.map (fun x=>x.1++t)
  ·rw[if_pos h1,if_pos (List.mem_append_right _ h1)]
  ·rw[if_neg h1,uu o.upd obj obj2 nm]
   by_cases h2:nm∈o.upd.map (fun x=>L.getD x.1 [])
   ·rw[if_pos h2,if_pos (List.mem_append_left _ h2)]
    rw[rN o.new obj (cF L t o.upd obj) nm,if_neg h1]
   ·rw[if_neg h2,if_neg (by simp only[List.mem_append,not_or];exact⟨h2,h1⟩)]
 ·show dz L t o.new (cF L t o.upd obj) nm=obj nm
  simp only[List.mem_append,not_or]at hn
  rw[rN o.new obj (cF L t o.upd obj) nm,if_neg hn.2,uu o.upd obj obj nm,if_neg hn.1]
theorem CSpec.near(s:CSpec):s.toSpec.Near:=by
 have key:∀ {obj obj2:Name->Option O} {t:Name} {ds:List D},bQ (s.toSpec.foot obj t ds) obj obj2->bQ (reach obj ds) obj obj2/\
     bQ (((s.out (cD obj ds) (dd obj ds)).upd.map fun x=>(reach obj ds).getD x.1 [])++(s.out (cD obj ds) (dd obj ds)).new.map fun x=>x.1++t) obj obj2:=by
  intro obj obj2 t ds h
  refine⟨fun nm hn=>h nm ?_,fun nm hn=>h nm ?_⟩
  ·exact List.mem_append_left _ (List.mem_append_left _ hn)
  ·rcases List.mem_append.1 hn with hn | hn
   ·exact List.mem_append_left _ (List.mem_append_right _ hn)
   ·exact List.mem_append_right _ hn
 refine⟨fun obj obj2 t ds h=>?_,fun obj obj2 t ds h=>?_,fun obj t ds nm hn=>?_,fun obj obj2 t ds h=>?_⟩
 ·obtain⟨h1,h2⟩:=key h
  simp only[CSpec.toSpec]
  rw[xV h1,Gc h1,o6 h1]
  refine Dr ?_ h2
  rw[B9 h1,AI fun nm hn=>h2 nm (List.mem_append_right _ hn)]
 ·obtain⟨h1,h2⟩:=key h
  simp only[CSpec.toSpec]
  rw[xV h1,Gc h1,o6 h1]
 ·simp only[CSpec.toSpec]at hn |-
  rcases List.mem_append.1 hn with hn | hn
  ·exact List.mem_append_left _ (List.mem_append_right _ hn)
  ·exact List.mem_append_right _ hn
 ·obtain⟨h1,h2⟩:=key h
  simp only[CSpec.toSpec]
  rw[xV h1,Gc h1,o6 h1]
def rR(σ:S)(u:List (Nat×O)):Nat->List O->Prop
 |_,[]=>True
 |i,o::r=>σ.obj [i,1]=some (eX u i o)/\rR σ u (i+1) r
theorem Jp{σ:S}{u:List (Nat×O)}:∀ {l:List O} {k:Nat},rR σ u k l->∀ i (h:i<l.length),σ.obj [k+i,1]=some (eX u (k+i) l[i])
 |o::r,k,h,0,_=>h.1
 |o::r,k,h,i+1,hi=>by
  have :=Jp h.2 i (by simpa using hi)
  rw[show k+(i+1)=k+1+i by omega]
  simpa using this
def wB(σ:S):List (Name×O)->Prop
 |[]=>True
 |x::r=>σ.obj x.1=some x.2/\wB σ r
theorem Jt{σ:S}:∀ {l:List (Name×O)},wB σ l->∀ x∈l,σ.obj x.1=some x.2
 |y::r,h,x,hx=>by
  rcases List.mem_cons.1 hx with rfl | hx
  ·exact h.1
  ·exact Jt h.2 x hx
def distinct:List Name->Bool
 |[]=>true
 |x::r=>(r.all fun y=>!(x==y))&&distinct r
theorem Oc:∀ {l:List Name},distinct l=true->l.Nodup
 |[],_=>by simp
 |x::r,h=>by
  simp only[distinct,Bool.and_eq_true]at h
  refine List.nodup_cons.2 ⟨fun hx=>?_,Oc h.2⟩
  have :=List.all_eq_true.1 h.1 x hx
  simp at this
def gw(os:List O)(o:Out)(σ:S):Prop:=
 rR σ o.upd 0 os/\wB σ o.new/\
  (D.clos (dj os.length o.new) o.d&&(o.upd.all fun x=>O.clos (dj os.length o.new) x.2&&decide (x.1<os.length))&&(o.new.all fun x=>O.clos (dj os.length o.new) x.2&&!di x.1)&&distinct (o.new.map (·.1)))=true
theorem N3{os:List O}{o:Out}{σ:S}(h:gw os o σ):Qg σ os o:=by
 obtain⟨h1,h2,h3⟩:=h
 simp only[Bool.and_eq_true]at h3
 exact⟨fun i hi=>by simpa using Jp h1 i hi,Jt h2,h3.1.1.1,h3.1.1.2,by simpa using h3.1.2,Oc h3.2⟩
def wq(P:Program)(rs:List ResultVar)(os:List O)(o:Out):Exit->S->Prop
 | .normal,σ=>(bU P σ rs).ok/\(bU P σ rs).d=o.d/\gw os o σ
 | .ret,σ=>(bU P σ rs).ok/\(bU P σ rs).d=o.d/\gw os o σ
 |_,_=>False
def aX(os:List O):Name->Option O
 |[i,1]=>os[i]?
 |_=>none
theorem TO{L:List Name}{obj:Name->Option O}{x:Name}(h:di x=false):jT L obj x=none:=by
 unfold jT
 split
 ·simp[di]at h
 ·rfl
theorem zc{os:List O}{x:Name}(h:di x=false):aX os x=none:=by
 unfold aX
 split
 ·simp[di]at h
 ·rfl
theorem zk{L:List Name}{obj:Name->Option O}:jT L obj=aX (L.map (cH L obj)):=by
 funext x
 cases hx:di x with
 |false=>rw[TO hx,zc hx]
 |true=>
  obtain⟨i,rfl⟩:=wR.1 hx
  show (if i<L.length then some (cH L obj (L.getD i []))else none)=(L.map (cH L obj))[i]?
  by_cases hi:i<L.length
  ·rw[if_pos hi,List.getElem?_eq_getElem (by simpa using hi)]
   rw[lE hi,List.getElem_map]
  ·rw[if_neg hi,List.getElem?_eq_none (by simpa using hi)]
theorem Dd{nt:Nat}{l:List (Nat×E)}{os:List O}:bt nt [0] (aX os) l []=⟨nt,dQ eAny l,aX os,[0],0⟩:=by
 unfold bt
 congr 1
 funext nm
 split
 ·rename_i h
  have :di nm=false:=by
   cases hc:di nm with
   |false=>rfl
   |true=>
    obtain⟨i,rfl⟩:=wR.1 hc
    rw[I6]at h;cases h
  unfold aX
  split
  ·simp[di]at this
  ·rfl
 ·rfl
theorem oK{P:Program}{f:FuncId}{fn:Func}{c:Code}{s:CSpec}{nt:Nat}{rs:List ResultVar}(hf:P.funcs[f]?=some fn)(hb:fn.body=some c)(cZ:fn.ntmps=nt)(cf:fn.results.toList=rs)
 (lC:∀ args w,(callFunc f args).run P w=.ok (.enter f args) w) (aG:f≠yid)
 (h:∀ os ds,s.pre os ds->ds.length<=nt/\CW P c (bt nt [0] (aX os) (dm 0 ds) []) (wq P rs os (s.out os ds))):aN P f s.toSpec:=by
 subst cZ
 subst cf
 refine⟨s.near,fun _=>lC,fun _ G φ m σ a w hC t ds us _ hl hr aa=>?_,fun e=>(aG e).elim⟩
 obtain⟨aa,dT⟩:=aa
 simp only[Bool.and_eq_true]at aa
 obtain⟨⟨j6,cp⟩,cS⟩:=aa
 obtain⟨hlen,nG⟩:=h _ _ dT
 have cM:(reach σ.obj ds).Nodup:=yW _ _ _ (by simp)
 simp only[dd,kE,List.length_map]at hlen
 refine(callsIn_wide (n:=0)).1 (callsIn_of_wp_marks hf hb trivial ?_)
 have iU:=Nz hC (L:=reach σ.obj ds) cM j6 (rd:=none) (fun l h=>by cases h) (b0:=0) (nt:=fn.ntmps) (env:=dQ eAny (dm 0 (dd σ.obj ds)))
  (tmps:=us++Array.replicate (fn.ntmps-us.size) undef) (by simp;omega) (fun t=>by
    rcases uB (z:=eAny) (dm 0 (dd σ.obj ds)) t with h1 | h1
    ·rw[h1];unfold cA eAny;simp;exact .any _
    ·obtain⟨i,hi,h2,h3⟩:=PA h1
     rw[h3]
     unfold cA
     simp only[if_true]
     simp only[dd,kE,List.length_map]at hi
     have bK:i<us.size:=by omega
     have e:((us++Array.replicate (fn.ntmps-us.size) undef).getD t undef)=us[i]:=by
      have ao:0+i<(us++Array.replicate (fn.ntmps-us.size) undef).size:=by simp;omega
      rw[h2]
      simp only[Array.getD,ao,dite_true]
      show (us++Array.replicate (fn.ntmps-us.size) undef)[0+i]=us[i]
      simp only[Nat.zero_add]
      exact Array.getElem_append_left bK
     rw[e]
     simp only[dd,kE,List.getElem_map]
     exact(hr i hi bK).renx (Mem.le_refl m) yV (i7 hi cp))
 rw[Dd]at nG
 rw[zk]at iU
 refine wpIn_mono (nG _ _ m _ w iU) ?_
 rintro e a1 w1 ⟨φ2,m2,σ2,gX,hK⟩
 have fin:(bU P σ2 fn.results.toList).ok/\(bU P σ2 fn.results.toList).d=(s.out (cD σ.obj ds) (dd σ.obj ds)).d/\gw (cD σ.obj ds) (s.out (cD σ.obj ds) (dd σ.obj ds)) σ2->
     LeavesInM Fence.wide 0 P fn a1.tmps (fun e w'=>∃ v φ' m',e=.returned v/\aP G φ' m' { σ with obj:=(s.toSpec.app σ.obj t ds).obj } a w'/\aF φ' (s.toSpec.app σ.obj t ds).obj m' (s.toSpec.app σ.obj t ds).d v/\Ext φ φ' σ.obj (s.toSpec.app σ.obj t ds).obj) a1.defers .returning w1:=by
  rintro⟨h1,h2,h3⟩
  refine Du a1.defers rfl gX fun a' w' _ cC=>?_
  obtain⟨v,h4,h5⟩:=Im cC fn h1
  rw[h2]at h5
  have hE:=N3 h3
  obtain⟨φ',m',k1,k2,k3,k4⟩:=Ny hC cM j6 cC hE cS
  have vf:=hE.cd
  simp only[cD,List.length_map]at vf
  exact⟨v,h4,v,φ',m',rfl,k2,k4 _ _ h5 vf,k3⟩
 cases e with
 |normal=>exact fin hK
 |ret=>exact fin hK
 |_=>exact hK.elim
theorem bX.more{ok ok2:Prop}{d d2:D}{o1 o2 obj obj2:Name->Option O}{wr:List Name}(nm:Name)(x:Option O)(h:bX ⟨ok,d,o1⟩ ⟨ok2,d2,o2⟩ obj obj2 wr):
 bX ⟨ok,d,upd o1 nm x⟩ ⟨ok2,d2,upd o2 nm x⟩ obj obj2 (nm::wr):=by
 refine⟨h.ok,h.d,fun y=>?_,fun y hy=>?_⟩
 ·show upd o2 nm x y=if y∈nm::wr then upd o1 nm x y else obj2 y
  by_cases e:y=nm
  ·subst e;rw[aT,if_pos (by simp),aT]
  ·rw[bc _ _ _ e,bc _ _ _ e]
   have :=h.eff y
   simp only at this
   rw[this]
   by_cases hy:y∈wr
   ·rw[if_pos hy,if_pos (List.mem_cons_of_mem _ hy)]
   ·rw[if_neg hy,if_neg (by simp[e,hy])]
 ·simp only[List.mem_cons,not_or]at hy
  show upd o1 nm x y=obj y
  rw[bc _ _ _ hy.1]
  exact h.frame y hy.2
structure YSpec where
 pre:List E->List Nat->Code->Code->List O->List D->Prop
 out:List E->List Nat->Code->Code->List O->List D->Out×Option Code
def roots(env:List E)(ds:List D):List D:=env.map (·.d)++ds
def iy(obj:Name->Option O)(env:List E)(ds:List D):List E:=env.map (E.ren (cin (reach obj (roots env ds))))
def jJ(obj:Name->Option O)(env:List E)(ds:List D):List D:=D.renL (cin (reach obj (roots env ds))) ds
def YSpec.o(y:YSpec)(obj:Name->Option O)(env:List E)(ps:List Nat)(asg body:Code)(ds:List D):Out×Option Code:=
 y.out (iy obj env ds) ps asg body (cD obj (roots env ds)) (jJ obj env ds)
def YSpec.toSpec(y:YSpec):Spec where
 app obj t args:=match args with
  | .yld nm::ds=>match obj nm with
    |some (.loop env ps asg body .ready none)=>
     ⟨(shut obj (reach obj (roots env ds))&&D.closL (cX (reach obj (roots env ds))) (roots env ds)&&fresh obj t (y.o obj env ps asg body ds).1.new&&!cX (reach obj (roots env ds)) nm&&
         decide (ds.length=ps.length)&&(ps.all fun p=>decide (p<env.length)))=true/\y.pre (iy obj env ds) ps asg body (cD obj (roots env ds)) (jJ obj env ds),
       .v (.bool (y.o obj env ps asg body ds).2.isNone),
       upd (dz (reach obj (roots env ds)) t (y.o obj env ps asg body ds).1.new (cF (reach obj (roots env ds)) t (y.o obj env ps asg body ds).1.upd obj)) nm
        (some (.loop env ps asg body (if (y.o obj env ps asg body ds).2.isNone then .ready else .done) (y.o obj env ps asg body ds).2))⟩
    |_=>.bad obj
  |_=>.bad obj
 foot obj t args:=match args with
  | .yld nm::ds=>nm::(match obj nm with
    |some (.loop env ps asg body .ready none)=>reach obj (roots env ds)++((y.o obj env ps asg body ds).1.upd.map fun x=>(reach obj (roots env ds)).getD x.1 [])++(y.o obj env ps asg body ds).1.new.map fun x=>x.1++t
    |_=>[])
  |_=>[]
 wrt obj t args:=match args with
  | .yld nm::ds=>nm::(match obj nm with
    |some (.loop env ps asg body .ready none)=>((y.o obj env ps asg body ds).1.upd.map fun x=>(reach obj (roots env ds)).getD x.1 [])++(y.o obj env ps asg body ds).1.new.map fun x=>x.1++t
    |_=>[])
  |_=>[]
theorem YSpec.near(y:YSpec):y.toSpec.Near:=by
 have C0:∀ {obj obj2:Name->Option O} {env:List E} {ps:List Nat} {asg body:Code} {ds:List D},bQ (reach obj (roots env ds)) obj obj2->
     y.o obj2 env ps asg body ds=y.o obj env ps asg body ds/\iy obj2 env ds=iy obj env ds/\jJ obj2 env ds=jJ obj env ds:=by
  intro obj obj2 env ps asg body ds h
  unfold YSpec.o iy jJ
  rw[xV h,o6 h]
  exact⟨rfl,rfl,rfl⟩
 have split:∀ {A B C:List Name} {obj obj2:Name->Option O} {nm:Name},bQ (nm::(A++B++C)) obj obj2->bQ A obj obj2/\bQ (B++C) obj obj2:=by
  intro A B C obj obj2 nm h
  refine⟨fun x hx=>h x ?_,fun x hx=>h x ?_⟩
  ·exact List.mem_cons_of_mem _ (List.mem_append_left _ (List.mem_append_left _ hx))
  ·rcases List.mem_append.1 hx with hx | hx
   ·exact List.mem_cons_of_mem _ (List.mem_append_left _ (List.mem_append_right _ hx))
   ·exact List.mem_cons_of_mem _ (List.mem_append_right _ hx)
 have A8:∀ (args:List D),(∃ nm ds,args=.yld nm::ds)\/(∀ obj t,y.toSpec.app obj t args=.bad obj/\y.toSpec.foot obj t args=[]/\y.toSpec.wrt obj t args=[]):=by
  intro args
  rcases args with _ | ⟨d,ds⟩
  ·exact .inr fun _ _=>⟨rfl,rfl,rfl⟩
  ·cases d with
   |yld nm=>exact .inl ⟨nm,ds,rfl⟩
   |_=>exact .inr fun _ _=>⟨rfl,rfl,rfl⟩
 refine⟨fun obj obj2 t args h=>?_,fun obj obj2 t args h=>?_,fun obj t args kF hn=>?_,fun obj obj2 t args h=>?_⟩
 ·rcases A8 args with⟨nm,ds,rfl⟩ | hb
  ·simp only[YSpec.toSpec]at h |-
   have h0:obj2 nm=obj nm:=h nm (by simp)
   rw[h0]
   split
   ·rename_i env ps asg body ho
    simp only[ho]at h
    obtain⟨h1,h2⟩:=split h
    obtain⟨e1,e2,e3⟩:=C0 (ps:=ps) (asg:=asg) (body:=body) h1
    rw[e1,e2,e3,xV h1,o6 h1]
    refine bX.more nm _ (Dr ?_ h2)
    rw[B9 h1,AI fun nm hn=>h2 nm (List.mem_append_right _ hn)]
   ·exact .none _ fun x hx=>by simp only[List.mem_singleton]at hx;subst hx;exact h0
  ·rw[(hb obj t).1,(hb obj2 t).1,(hb obj t).2.2]
   exact .same rfl rfl rfl rfl
 ·rcases A8 args with⟨nm,ds,rfl⟩ | hb
  ·simp only[YSpec.toSpec]at h |-
   have h0:obj2 nm=obj nm:=h nm (by simp)
   rw[h0]
   split
   ·rename_i env ps asg body ho
    simp only[ho]at h
    obtain⟨h1,h2⟩:=split h
    obtain⟨e1,e2,e3⟩:=C0 (ps:=ps) (asg:=asg) (body:=body) h1
    rw[e1,o6 h1]
   ·rfl
  ·rw[(hb obj t).2.1,(hb obj2 t).2.1]
 ·rcases A8 args with⟨nm,ds,rfl⟩ | hb
  ·simp only[YSpec.toSpec]at hn |-
   rcases List.mem_cons.1 hn with rfl | hn
   ·simp
   ·refine List.mem_cons_of_mem _ ?_
    split at hn
    ·rename_i env ps asg body ho
     try simp only[ho]
     rcases List.mem_append.1 hn with hn | hn
     ·exact List.mem_append_left _ (List.mem_append_right _ hn)
     ·exact List.mem_append_right _ hn
    ·cases hn
  ·rw[(hb obj t).2.2]at hn;cases hn
 ·rcases A8 args with⟨nm,ds,rfl⟩ | hb
  ·simp only[YSpec.toSpec]at h |-
   have h0:obj2 nm=obj nm:=h nm (by simp)
   rw[h0]
   split
   ·rename_i env ps asg body ho
    simp only[ho]at h
    obtain⟨h1,h2⟩:=split h
    obtain⟨e1,e2,e3⟩:=C0 (ps:=ps) (asg:=asg) (body:=body) h1
    rw[e1,o6 h1]
   ·rfl
  ·rw[(hb obj t).2.2,(hb obj2 t).2.2]
def s7(env:List E):Nat->E:=fun t=>env.getD t eAny
def pY:(Nat->E)->List Nat->List D->(Nat->E)
 |f,p::ps,d::ds=>pY (upd f p ⟨true,d⟩) ps ds
 |f,_,_=>f
def Ja(k:S->Prop):Exit->S->Prop
 | .normal,σ=>k σ
 |_,_=>False
def SP(os:List O)(o:Out×Option Code):Exit->S->Prop
 | .normal,σ=>o.2=none/\gw os o.1 σ
 | .ret,σ=>o.2=some .ret/\gw os o.1 σ
 | .exit id,σ=>o.2=some (.exit id)/\gw os o.1 σ
 |_,_=>False
theorem HQ{φ:Name->Loc}{obj:Name->Option O}{m:Mem}{n:Nat}:∀ (ps:List Nat) (ds:List D) (us:List Value) (f:Nat->E) (tmps:Array Value),tmps.size=n->ps.length=ds.length->ds.length=us.length->
 (∀ p∈ps,p<n)->(∀ t,cA φ obj m (f t) (tmps.getD t undef))->(∀ i (h:i<ds.length) (h':i<us.length),aF φ obj m ds[i] us[i])->
 (∀ t,cA φ obj m (pY f ps ds t) (((ps.zip us).foldl (fun tmps (p:Nat×Value)=>tmps.setIfInBounds p.1 p.2) tmps).getD t undef))/\((ps.zip us).foldl (fun tmps (p:Nat×Value)=>tmps.setIfInBounds p.1 p.2) tmps).size=n
 |[],ds,us,f,tmps,hs,h1,h2,hp,hf,hr=>by
  have :ds=[]:=List.eq_nil_of_length_eq_zero (by simpa using h1.symm)
  subst this
  exact⟨hf,hs⟩
 |p::ps,[],us,f,tmps,hs,h1,h2,hp,hf,hr=>by simp at h1
 |p::ps,d::ds,[],f,tmps,hs,h1,h2,hp,hf,hr=>by simp at h2
 |p::ps,d::ds,u::us,f,tmps,hs,h1,h2,hp,hf,hr=>by
  simp only[List.zip_cons_cons,List.foldl_cons,pY]
  refine HQ ps ds us _ _ (by simpa using hs) (by simpa using h1) (by simpa using h2) (fun q hq=>hp q (by simp[hq])) (fun t=>?_) fun i a b=>by
   have :=hr (i+1) (by simpa using a) (by simpa using b)
   simpa using this
  have ab:p<tmps.size:=by rw[hs];exact hp p (by simp)
  by_cases ht:t=p
  ·subst ht
   rw[aT]
   have e:(tmps.setIfInBounds t u).getD t undef=u:=by simp[Array.getD,ab]
   rw[e]
   unfold cA
   simp only[if_true]
   exact hr 0 (by simp) (by simp)
  ·rw[bc _ _ _ ht]
   have e:(tmps.setIfInBounds p u).getD t undef=tmps.getD t undef:=by
    simp only[Array.getD_eq_getD_getElem?]
    rw[Array.getElem?_setIfInBounds_ne (fun h=>ht h.symm)]
   rw[e];exact hf t
theorem OG{wa wb:World}{m:Mem}{L:List Name}{φ:Name->Loc}{obj:Name->Option O}{l:Nat}{h h'}{φ1:Name->Loc}{m1:Mem}{σ1:S}{a1:Act}{w1 w2:World}
 (hC:aP (s4 wa m L φ obj (some l) h) φ1 m1 σ1 a1 w1) (dL:wb.heap.size=wa.heap.size/\w2.heap.size=w1.heap.size) (ho:wb.os=w2.os/\wb.tape=w2.tape/\wb.output=w2.output)
 (hb:∀ b,b≠l->wb.heap[b]?=wa.heap[b]?) (h2:∀ b,b≠l->w2.heap[b]?=w1.heap[b]?) (hl:wb.heap[l]?=w2.heap[l]?):aP (s4 wb m L φ obj (some l) h') φ1 m1 σ1 a1 w2:=by
 obtain⟨MD,r,hr⟩:=h l rfl
 have ab:l<wa.heap.size:=(Array.getElem?_eq_some_iff.1 hr).1
 have dY:w1.heap[l]?=some (.loop r):=(hC.fr.block l ab MD).trans hr
 constructor
 ·exact hC.tmps
 ·exact hC.size
 ·obtain⟨ds,k1,k2,k3⟩:=hC.defers
  refine⟨ds,k1,k2,fun D hD=>?_⟩
  obtain⟨k4,k5⟩:=k3 D hD
  have aG:D≠l:=fun e=>by subst e;rw[dY]at k5;cases k5
  exact⟨by show wb.heap.size<=D;rw[dL.1];exact k4,(h2 D aG).trans k5⟩
 ·intro nm o gG
  refine(hC.objs nm o gG).ext (Mem.le_refl _) (Ext.refl _ _) fun k1 k2=>h2 _ fun e=>?_
  rcases hC.own nm ⟨o,gG,k1,k2⟩with h3 | h3
  ·have h4:wa.heap.size<=(φ1 nm).blk:=h3
   omega
  ·rw[e]at h3;exact MD h3
 ·intro b off v hv
  have h3:=hC.mem b off v hv
  rw[qZ (h2 b (fun e=>by subst e;unfold World.cell? at h3;simp[dY]at h3))]
  exact h3
 ·exact hC.apart
 ·exact hC.inj
 ·intro nm hh
  rcases hC.own nm hh with h3 | h3
  ·exact .inl (by show wb.heap.size<=_;rw[dL.1];exact h3)
  ·exact .inr h3
 ·refine⟨ho.1.symm,ho.2.1.symm,ho.2.2.symm,by show wb.heap.size<=_;rw[dL.1,dL.2];exact hC.fr.size,fun b h3 h4=>?_⟩
  show w2.heap[b]?=wb.heap[b]?
  by_cases e:b=l
  ·subst e;exact hl.symm
  ·rw[h2 b e,hb b e]
   exact hC.fr.block b (by have:b<wb.heap.size:=h3;show b<wa.heap.size;omega) h4
 ·intro b off v hv
  rcases hC.fresh b off v hv with h3 | h3 | h3
  ·exact .inl h3
  ·exact .inr (.inl (by show wb.heap.size<=_;rw[dL.1];exact h3))
  ·exact .inr (.inr h3)
 ·exact hC.kept
theorem OU{L:List Name}{obj:Name->Option O}{nm:Name}{x:Option O}(h:nm∉L){y:Name}(hy:y∈L):cH L (upd obj nm x) y=cH L obj y:=by
 unfold cH
 rw[bc _ _ _ (by rintro rfl;exact h hy)]
theorem TN{L:List Name}{obj:Name->Option O}{nm:Name}{x:Option O}(h:nm∉L):jT L (upd obj nm x)=jT L obj:=by
 rw[zk,zk]
 congr 1
 exact List.map_congr_left fun y hy=>OU h hy
theorem M5{L:List Name}{φ:Name->Loc}{obj:Name->Option O}{nm:Name}{x:Option O}(h:nm∉L):pT L φ (upd obj nm x)=pT L φ obj:=by
 funext b
 refine propext ⟨fun ⟨y,h1,⟨o,h2,h3⟩,h4⟩=>?_,fun ⟨y,h1,⟨o,h2,h3⟩,h4⟩=>?_⟩
 ·rw[bc _ _ _ (by rintro rfl;exact h h1)]at h2
  exact⟨y,h1,⟨o,h2,h3⟩,h4⟩
 ·exact⟨y,h1,⟨o,by rw[bc _ _ _ (by rintro rfl;exact h h1)];exact h2,h3⟩,h4⟩
theorem ZN{w:World}{m:Mem}{L:List Name}{φ:Name->Loc}{obj:Name->Option O}{nm:Name}{x:Option O}{rd:Option Nat}(h:nm∉L){h1}{h2}:s4 w m L φ (upd obj nm x) rd h1=s4 w m L φ obj rd h2:=by
 unfold s4
 simp only[TN h,M5 h]
theorem G2{P:Program}{y:YSpec}(h:∀ env ps asg body os ds,y.pre env ps asg body os ds->ds.length=ps.length->
 CW P asg ⟨env.length,pY (s7 env) ps ds,aX os,[0],0⟩ (Ja fun σ1=>CW P body σ1 (SP os (y.out env ps asg body os ds)))):aN P yid y.toSpec:=by
 refine⟨y.near,fun e=>(e rfl).elim,fun e=>(e rfl).elim,fun _ G φ m σ a w hC t nm ds us _ hl hr _ aa o YC=>?_⟩
 simp only[YSpec.toSpec]at aa |-
 split at aa
 case h_2=>exact aa.elim
 rename_i env ps asg body aA
 try simp only[aA]
 obtain⟨aa,dT⟩:=aa
 simp only[Bool.and_eq_true,Bool.not_eq_true',decide_eq_true_eq]at aa
 obtain⟨⟨⟨⟨⟨j6,cp⟩,cS⟩,MF⟩,hlen⟩,gF⟩:=aa
 have fK:nm∉reach σ.obj (roots env ds):=fun h=>by rw[gD.2 h]at MF;cases MF
 have cM:(reach σ.obj (roots env ds)).Nodup:=yW _ _ _ (by simp)
 obtain⟨_,dG,r,dY,fJ,Xx,D6,Mp,Mo,Mn,Mm⟩:=hC.objs nm _ aA
 have ab:(φ nm).blk<w.heap.size:=(Array.getElem?_eq_some_iff.1 dY).1
 have sL:¬ pT (reach σ.obj (roots env ds)) φ σ.obj (φ nm).blk:=fun ⟨x,k1,k2,k3⟩=>fK (hC.inj _ _ k2 ⟨_,aA,rfl,dG⟩ k3▸k1)
 have qx:r.params.size=ps.length:=by rw[<-D6];simp
 intro next Q sA
 rw[YC,run_yield dY (by omega),Oper.uponIn_round]
 refine⟨fun h=>(by simp[fL,Fence.wide]at h),?_⟩
 rw[Mp,Mo]
 refine roundIn_of_wpIn trivial ?_
 have agM:=cp
 have YS:∀ i (h:i<env.length),D.clos (cX (reach σ.obj (roots env ds))) env[i].d=true:=fun i hi=>by
  have :=i7 (l:=roots env ds) (i:=i) (by simp[roots];omega) cp
  simp only[roots]at this |-
  rw[List.getElem_append_left (by simpa using hi)]at this
  simpa using this
 have YR:∀ i (h:i<ds.length),D.clos (cX (reach σ.obj (roots env ds))) ds[i]=true:=fun i hi=>by
  have :=i7 (l:=roots env ds) (i:=env.length+i) (by simp[roots];omega) cp
  simp only[roots]at this |-
  rw[List.getElem_append_right (by simp)]at this
  simpa using this
 obtain⟨q1,q2⟩:=HQ (φ:=mM (reach σ.obj (roots env ds)) φ) (obj:=jT (reach σ.obj (roots env ds)) σ.obj) (m:=m) (n:=env.length) ps (jJ σ.obj env ds) us.toList (s7 (iy σ.obj env ds)) r.tmps Mn
  (by simp[jJ,kE];omega) (by simp[jJ,kE];omega) (fun p hp=>by have:=List.all_eq_true.1 gF p hp;simpa using this)
  (fun t=>by
    unfold s7
    by_cases ht:t<env.length
    ·have:=(Mm t ht).renx (Mem.le_refl m) yV (YS t ht)
     have e:(iy σ.obj env ds).getD t eAny=E.ren (cin (reach σ.obj (roots env ds))) env[t]:=by
      rw[List.getD_eq_getElem?_getD,List.getElem?_eq_getElem (by simpa[iy]using ht)];simp[iy]
     rw[e];exact this
    ·have e:(iy σ.obj env ds).getD t eAny=eAny:=by
       rw[List.getD_eq_getElem?_getD,List.getElem?_eq_none (by simp[iy];omega)];rfl
     rw[e];unfold cA eAny;simp;exact .any _)
  (fun i a b=>by
    simp only[jJ,kE,List.length_map]at a
    have :=(hr i a (by simpa using b)).renx (Mem.le_refl m) yV (YR i a)
    simpa[jJ,kE]using this)
 have iU:=Nz hC (L:=reach σ.obj (roots env ds)) cM j6 (rd:=some (φ nm).blk) (fun l e=>by cases e;exact⟨sL,r,dY⟩) (b0:=0) (nt:=env.length) q2 q1
 have nG:=h _ _ _ _ _ _ dT (by simp[jJ,kE];omega)
 have Yv:(r.params.zip us).foldl (fun tmps (p:Nat×Value)=>tmps.setIfInBounds p.1 p.2) r.tmps=(ps.zip us.toList).foldl (fun tmps (p:Nat×Value)=>tmps.setIfInBounds p.1 p.2) r.tmps:=by
  rw[<-D6,<-Array.toList_zip,Array.foldl_toList]
 have EX:(iy σ.obj env ds).length=env.length:=by simp[iy]
 rw[EX]at nG
 rw[zk]at iU
 have Yu:(r.params.zip us).foldl (fun tmps (x:Tmp×Value)=>match x with | (t,a)=>tmps.setIfInBounds t a) r.tmps=(ps.zip us.toList).foldl (fun tmps (p:Nat×Value)=>tmps.setIfInBounds p.1 p.2) r.tmps:=Yv
 rw[Yu]
 refine wpIn_mono (nG _ _ m _ w iU) ?_
 rintro e a1 w1 ⟨φ1,m1,σ1,gX,hK⟩
 cases e with
 |normal=>
  have Mq:w1.heap[(φ nm).blk]?=some (.loop r):=(gX.fr.block _ ab sL).trans dY
  have aK:=(Array.getElem?_eq_some_iff.1 Mq).1
  refine⟨_,run_beginRound Mq fJ,?_⟩
  have fg:w1.os=w.os/\w1.tape=w.tape/\w1.output=w.output:=⟨gX.fr.os,gX.fr.tape,gX.fr.output⟩
  have fz:=OG (wb:=w.putObj (φ nm).blk (.loop { r with state:=.busy })) (w2:=w1.putObj (φ nm).blk (.loop { r with state:=.busy }))
   (h':=fun l e=>by cases e;exact⟨sL,_,World.putObj_heap_same ab⟩) gX ⟨by simp,by simp⟩ ⟨fg.1.symm,fg.2.1.symm,fg.2.2.symm⟩
   (fun b hb=>World.putObj_heap_other hb) (fun b hb=>World.putObj_heap_other hb) (by rw[World.putObj_heap_same ab,World.putObj_heap_same aK])
  refine wpIn_mono (hK _ _ m1 _ _ fz) ?_
  rintro e a3 w3 ⟨φ3,m3,σ3,sV,pF⟩
  have D7:w3.heap[(φ nm).blk]?=some (.loop { r with state:=.busy }):=(sV.fr.block _ (by show _<(w.putObj _ _).heap.size;simpa using ab) sL).trans (World.putObj_heap_same ab)
  have fX:=(Array.getElem?_eq_some_iff.1 D7).1
  have fin:∀ bJ:Option Code,(y.o σ.obj env ps asg body ds).2=bJ->gw (cD σ.obj (roots env ds)) (y.o σ.obj env ps asg body ds).1 σ3->
      ∃ v w',(Instr.endRound (φ nm).blk bJ).run P w3=.ok v w'/\next (a.put o.dst v) w':=by
   intro bJ he hE
   refine⟨_,_,run_endRound bJ D7,?_⟩
   generalize Xv:({ r with state:=.busy }:Loop)=rb at D7 |-
   let rf:Loop:={ r with state:=if bJ.isNone then .ready else .done,pending:=bJ }
   have Xu:({ rb with state:=if bJ.isNone then .ready else .done,pending:=bJ }:Loop)=rf:=by rw[<-Xv]
   rw[Xu]
   have Ns:=OG (wb:=w.putObj (φ nm).blk (.loop rf)) (w2:=w3.putObj (φ nm).blk (.loop rf))
    (h':=fun l e=>by cases e;exact⟨sL,_,World.putObj_heap_same ab⟩) sV ⟨by simp,by simp⟩
    ⟨(show (w.putObj (φ nm).blk (.loop rf)).os=(w3.putObj (φ nm).blk (.loop rf)).os from sV.fr.os.symm),(show (w.putObj (φ nm).blk (.loop rf)).tape=(w3.putObj (φ nm).blk (.loop rf)).tape from sV.fr.tape.symm),(show (w.putObj (φ nm).blk (.loop rf)).output=(w3.putObj (φ nm).blk (.loop rf)).output from sV.fr.output.symm)⟩
    (fun b hb=>by rw[World.putObj_heap_other hb,World.putObj_heap_other hb]) (fun b hb=>World.putObj_heap_other hb) (by rw[World.putObj_heap_same ab,World.putObj_heap_same fX])
   have cC:aP G φ m { σ with obj:=upd σ.obj nm (some (.loop env ps asg body (if bJ.isNone then .ready else .done) bJ)) } a (w.putObj (φ nm).blk (.loop rf)):=by
    have :=hC.chg (w':=w.putObj (φ nm).blk (.loop rf)) nm (.loop env ps asg body (if bJ.isNone then .ready else .done) bJ) (φ nm) (Ext.same aA rfl rfl) ⟨rfl,rfl,rfl,by simp⟩
     (fun b _ hb=>World.putObj_heap_other (by rcases hb with h | h; · rw[dG]at h;cases h
                                              ·exact h))
     (fun _=>.inr ⟨⟨_,aA,rfl,dG⟩,rfl⟩) (by
       rw[gy]
       refine⟨by assumption,dG,rf,World.putObj_heap_same ab,rfl,rfl,D6,Mp,Mo,Mn,fun i hi=>(Mm i hi).ext (Mem.le_refl m) ?_⟩
       have :=Ext.same (φ:=φ) (o':=.loop env ps asg body (if bJ.isNone then .ready else .done) bJ) aA rfl rfl
       rwa [gy]at this)
    rwa [gy]at this
   have Zr:shut (upd σ.obj nm (some (.loop env ps asg body (if bJ.isNone then .ready else .done) bJ))) (reach σ.obj (roots env ds))=true:=by
    rw[B9 (obj:=σ.obj) fun x hx=>bc _ _ _ (by rintro rfl;exact fK hx)];exact j6
   have sQ:(reach σ.obj (roots env ds)).map (cH (reach σ.obj (roots env ds)) (upd σ.obj nm (some (.loop env ps asg body (if bJ.isNone then .ready else .done) bJ))))=cD σ.obj (roots env ds):=
    List.map_congr_left fun x hx=>OU fK hx
   have Ff:=N3 hE
   rw[<-sQ]at Ff
   have uZ:∀ x∈(y.o σ.obj env ps asg body ds).1.new,nm≠x.1++t:=fun x hx e=>by
    have :=List.all_eq_true.1 cS x hx
    rw[<-e,aA]at this;cases this
   have Yt:fresh (upd σ.obj nm (some (.loop env ps asg body (if bJ.isNone then .ready else .done) bJ))) t (y.o σ.obj env ps asg body ds).1.new=true:=by
    rw[AI (obj:=σ.obj) fun x hx=>by
     obtain⟨z,hz,rfl⟩:=List.mem_map.1 hx
     exact bc _ _ _ (uZ z hz).symm]
    exact cS
   rw[<-ZN (x:=some (.loop env ps asg body (if bJ.isNone then .ready else .done) bJ)) fK (h1:=fun l e=>by
    cases e;rw[M5 fK];exact⟨sL,_,World.putObj_heap_same ab⟩)]at Ns
   obtain⟨φ',m',k1,k2,k3,k4⟩:=Ny cC cM Zr Ns Ff Yt
   refine sA _ φ' m' _ ?_ (.v _ _ ?_)
   ·have:(dz (reach σ.obj (roots env ds)) t (y.o σ.obj env ps asg body ds).1.new (cF (reach σ.obj (roots env ds)) t (y.o σ.obj env ps asg body ds).1.upd (upd σ.obj nm (some (.loop env ps asg body (if bJ.isNone then .ready else .done) bJ)))))=
      upd (dz (reach σ.obj (roots env ds)) t (y.o σ.obj env ps asg body ds).1.new (cF (reach σ.obj (roots env ds)) t (y.o σ.obj env ps asg body ds).1.upd σ.obj)) nm (some (.loop env ps asg body (if bJ.isNone then .ready else .done) bJ)):=by
      funext x
      have hu:((y.o σ.obj env ps asg body ds).1.upd.all fun x=>decide (x.1<(reach σ.obj (roots env ds)).length))=true:=List.all_eq_true.2 fun z hz=>by
       have :=List.all_eq_true.1 Ff.cu z hz
       simp only[Bool.and_eq_true,List.length_map]at this;exact this.2
      by_cases e:x=nm
      ·subst e
       rw[aT,wu _ _ uZ,CF _ _ hu fK,aT]
      ·rw[bc _ _ _ e]
       rw[rN (y.o σ.obj env ps asg body ds).1.new σ.obj (cF _ _ _ (upd _ _ _)) x,rN (y.o σ.obj env ps asg body ds).1.new σ.obj (cF _ _ _ σ.obj) x]
       by_cases h1:x∈(y.o σ.obj env ps asg body ds).1.new.map (fun x=>x.1++t)
       ·rw[if_pos h1,if_pos h1]
       ·rw[if_neg h1,if_neg h1]
        rw[uu (y.o σ.obj env ps asg body ds).1.upd σ.obj (upd _ _ _) x,uu (y.o σ.obj env ps asg body ds).1.upd σ.obj σ.obj x]
        by_cases h2:x∈(y.o σ.obj env ps asg body ds).1.upd.map (fun x=>(reach σ.obj (roots env ds)).getD x.1 [])
        ·rw[if_pos h2,if_pos h2]
        ·rw[if_neg h2,if_neg h2];exact bc _ _ _ e
    rw[this]at k2
    rw[he]
    exact k2
   ·rw[he];exact .bool _
  cases e with
  |normal=>exact fin none pF.1 pF.2
  |ret=>exact fin (some .ret) pF.1 pF.2
  |exit id=>exact fin (some (.exit id)) pF.1 pF.2
  |goto l=>exact pF.elim
  |panic ch=>exact pF.elim
  |outgrown=>exact pF.elim
 |ret=>exact hK.elim
 |exit id=>exact hK.elim
 |goto l=>exact hK.elim
 |panic ch=>exact hK.elim
 |outgrown=>exact hK.elim
theorem aaD{G:Ghost}{φ:Name->Loc}{m:Mem}{σ:S}{a:Act}{w:World}(hC:aP G φ m σ a w):
 aP G φ m σ { a with defers:=[{ target:=.collected w.heap.size,args:= #[] }]++a.defers } (w.alloc (.deferred (some []))):=by
 have hb:∀ b,b<w.heap.size->(w.alloc (.deferred (some []))).heap[b]?=w.heap[b]?:=fun b h=>RowKit.Below.heap_alloc w _ b h
 have h:=hC.imm (w':=w.alloc (.deferred (some []))) (Mem.le_refl m) ⟨rfl,rfl,rfl,by simp⟩ hb (fun _ _ _ h=>.inl h)
 refine⟨h.tmps,h.size,?_,h.objs,h.mem,h.apart,h.inj,h.own,h.fr,h.fresh,h.kept⟩
 obtain⟨ds,h1,h2,h3⟩:=h.defers
 have ab:∀ D∈ds,D<w.heap.size:=fun D hD=>by
  obtain⟨mq,k1,k2,k3⟩:=hC.defers
  have e:mq=ds:=by
   have :=k1.symm.trans h1
   have hi:Function.Injective (fun D:Nat=>({ target:=.collected D,args:= #[] }:Deferred)):=fun x y h=>by simpa using h
   exact(List.map_inj_right hi).1 this
  exact(Array.getElem?_eq_some_iff.1 (k3 D (e▸hD)).2).1
 refine⟨w.heap.size::ds,by rw[h1];rfl,List.nodup_cons.2 ⟨fun hm=>Nat.lt_irrefl _ (ab _ hm),h2⟩,fun D hD=>?_⟩
 rcases List.mem_cons.1 hD with rfl | hD
 ·exact⟨hC.fr.size,World.alloc_heap_new w _⟩
 ·exact h3 D hD
def mT(obj:Name->Option O)(nm:Name):Name->Option O:=upd obj nm (match obj nm with
 |some (.loop env ps asg body _ bJ)=>some (.loop env ps asg body .exhausted bJ)
 |o=>o)
def qn(K:Exit->S->Prop)(obj:Name->Option O)(nm:Name)(σ:S):Prop:=match obj nm with
 |some (.loop _ _ _ _ .busy _)=>False
 |some (.loop _ _ _ _ _ none)=>K .normal σ
 |some (.loop _ _ _ _ _ (some .ret))=>K .ret σ
 |some (.loop _ _ _ _ _ (some (.exit id)))=>K (.exit id) σ
 |_=>False
theorem OB{P:Program}{Γ:FuncId->Option Spec}(hΓ:∀ f s,Γ f=some s->aN P f s){g:Operand}{ps:Array Tmp}{asg body:Code}{σ:S}{K:Exit->S->Prop}(k k':Nat){f:FuncId}{s:Spec}
 (hc:cV σ g=true) (ee:gx (au σ g)=some f) (aG:f≠yid) (hs:Γ f=some s) (sB:σ.obj (k::σ.pre)=none)
 (aa:(s.app (upd σ.obj (k::σ.pre) (some (.loop ((List.range σ.nt).map σ.env) ps.toList asg body .ready none))) (k'::σ.pre) (eT (au σ g) [.yld (k::σ.pre)])).ok)
 (hK:qn K (s.app (upd σ.obj (k::σ.pre) (some (.loop ((List.range σ.nt).map σ.env) ps.toList asg body .ready none))) (k'::σ.pre) (eT (au σ g) [.yld (k::σ.pre)])).obj (k::σ.pre)
   { σ with obj:=mT (s.app (upd σ.obj (k::σ.pre) (some (.loop ((List.range σ.nt).map σ.env) ps.toList asg body .ready none))) (k'::σ.pre) (eT (au σ g) [.yld (k::σ.pre)])).obj (k::σ.pre) }):
 CW P (.rangeFunc g ps asg body) σ K:=by
 intro G φ m a w hC
 generalize aA:k::σ.pre=nm at *
 generalize Eg:upd σ.obj nm (some (.loop ((List.range σ.nt).map σ.env) ps.toList asg body .ready none))=qf at *
 generalize hR:s.app qf (k'::σ.pre) (eT (au σ g) [.yld nm])=R at *
 have Aj:=cw hC hc
 obtain⟨us,vs,fs,cs,hu,pE,e1,e2,dY,fJ⟩:∃ (us vs:Array Value) (fs cs:List D),a.eval g=.func (.func f) us vs/\(∀ args,eT (au σ g) args=fs++args++cs)/\fs.length=us.size/\cs.length=vs.size/\
  (∀ i (h:i<fs.length) (h':i<us.size),aF φ σ.obj m fs[i] us[i])/\(∀ i (h:i<cs.length) (h':i<vs.size),aF φ σ.obj m cs[i] vs[i]):=by
  generalize a.eval g=u at *
  generalize au σ g=d at *
  unfold gx at ee
  split at ee
  ·rename_i f' fs cs
   split at ee
   ·cases ee
   cases ee
   cases Aj with
   |v _ _ Aj=>
   cases Aj with
   |clo _ _ _ us vs e1 e2 h1 h2=>
   exact⟨us,vs,fs.map .v,cs.map .v,rfl,fun _=>rfl,by simpa using e1,by simpa using e2,fun i a b=>by simpa using .v _ _ (h1 i (by simpa using a) b),fun i a b=>by simpa using .v _ _ (h2 i (by simpa using a) b)⟩
  ·rename_i f' fs cs
   split at ee
   ·cases ee
   cases ee
   cases Aj with
   |clo _ _ _ us vs e1 e2 h1 h2=>exact⟨us,vs,fs,cs,rfl,fun _=>rfl,e1,e2,h1,h2⟩
  ·cases ee;exact(aG rfl).elim
  ·cases ee
 refine wpIn_rangeFunc fun fn _=>?_
 have main:∀ (W:World) (a':Act) (D:Nat),aP G φ m σ a' W->a'.tmps=a.tmps->
     ∃ (d:Deferred) (tO:World) (f':FuncId) (args:Array Value) (w₂:World),
     (resolve a.eval (rangeCall g W.heap.size) 0).run P (W.alloc (.loop { state:=.ready,pending:=none,fn,tmps:=a.tmps,params:=ps,assign:=asg,body,defers:=D }))=.ok d tO/\
     (invoke d.target d.args).run P tO=.ok (.enter f' args) w₂/\
     CallsIn (fL G.rd) (0-1) P f' args w₂ (rangePost (fL G.rd) 0 P W.heap.size (fun e a' w'=>∃ φ' m' σ',aP G φ' m' σ' a' w'/\K e σ') a'):=by
  intro W a' D gX av
  obtain⟨r,nw⟩:∃ r:Loop,r={ state:=.ready,pending:=none,fn,tmps:=a.tmps,params:=ps,assign:=asg,body,defers:=D }:=⟨_,rfl⟩
  rw[<-nw]
  have hx:=Ext.new (φ:=φ) sB ⟨W.heap.size,0,0,false,none⟩ (.loop ((List.range σ.nt).map σ.env) ps.toList asg body .ready none)
  have fz:=gX.chg (w':=W.alloc (.loop r)) nm (.loop ((List.range σ.nt).map σ.env) ps.toList asg body .ready none) ⟨W.heap.size,0,0,false,none⟩ hx ⟨rfl,rfl,rfl,by simp⟩
   (fun b hb _=>RowKit.Below.heap_alloc W _ b hb) (fun _=>.inl (Nat.le_refl _)) ⟨rfl,rfl,r,World.alloc_heap_new W _,by rw[nw],by rw[nw],by rw[nw],by rw[nw],by rw[nw],by
     rw[nw]
     show a.tmps.size=_
     rw[<-av,gX.size];simp,fun i hi=>by
     simp only[List.getElem_map,List.getElem_range]
     rw[nw]
     show cA _ _ m _ (a.tmps.getD i undef)
     rw[<-av]
     exact(gX.tmps i).ext (Mem.le_refl m) hx⟩
  rw[Eg]at fz hx
  refine⟨{ target:=.fn (.func f) vs,args:=us++ #[.func (.yield W.heap.size) #[] #[]] },W.alloc (.loop r),f,us++ #[.func (.yield W.heap.size) #[] #[]]++vs,W.alloc (.loop r),?_,?_,?_⟩
  ·have hy:a.eval (.const (.func (.yield W.heap.size) #[] #[]))=.func (.yield W.heap.size) #[] #[]:=rfl
   simp[resolve,Deferred.ofValue,hu,hy]
  ·simp[invoke,(hΓ f s hs).enter aG]
  ·refine NP ?_
   have pB:=(hΓ f s hs).calls aG G (upd φ nm ⟨W.heap.size,0,0,false,none⟩) m { σ with obj:=qf } a' (W.alloc (.loop r)) fz (k'::σ.pre) (eT (au σ g) [.yld nm]) (us++ #[.func (.yield W.heap.size) #[] #[]]++vs) ⟨k',rfl⟩
   refine(pB ?_ ?_ ?_).mono ?_
   ·rw[pE];simp only[List.length_append,List.length_singleton,Array.size_append,e1,e2];rfl
   ·intro i h1 h2
    simp only[pE]
    have zJ:aF (upd φ nm ⟨W.heap.size,0,0,false,none⟩) qf m (.yld nm) (.func (.yield W.heap.size) #[] #[]):=by
     have :=aF.yld (φ:=upd φ nm ⟨W.heap.size,0,0,false,none⟩) (obj:=qf) (m:=m) nm ⟨_,by rw[<-Eg,aT],rfl⟩
     rwa [aT]at this
    simp only[pE,List.length_append,List.length_singleton]at h1
    by_cases k1:i<fs.length
    ·have q1:i<us.size:=by omega
     simp only[List.append_assoc,Array.append_assoc]
     rw[List.getElem_append_left k1,Array.getElem_append_left q1]
     exact(dY i k1 q1).ext (Mem.le_refl m) hx
    ·by_cases k2:i=fs.length
     ·subst k2
      simp only[List.append_assoc,Array.append_assoc]
      rw[List.getElem_append_right (by omega),Array.getElem_append_right (by omega)]
      simp only[Nat.sub_self,e1,List.cons_append,List.getElem_cons_zero]
      rw[Array.getElem_append_left (by simp)]
      simpa using zJ
     ·rw[List.getElem_append_right (by simp;omega),Array.getElem_append_right (by simp;omega)]
      have :=(fJ (i-(fs.length+1)) (by omega) (by omega)).ext (Mem.le_refl m) hx
      simp only[List.length_append,List.length_singleton,Array.size_append,<-e1]
      exact this
   ·show (s.app qf _ _).ok
    rw[hR];exact aa
   ·rintro e w3 ⟨v,φ',m',rfl,sV,_,W9⟩
    have h9:s.app qf (k'::σ.pre) (eT (au σ g) [.yld nm])=R:=hR
    have Nt:aP G φ' m' { σ with obj:=R.obj } a' w3:=by rw[<-h9];exact sV
    have W8:Ext (upd φ nm ⟨W.heap.size,0,0,false,none⟩) φ' qf R.obj:=by rw[<-h9];exact W9
    have XO:qf nm=some (.loop ((List.range σ.nt).map σ.env) ps.toList asg body .ready none):=by rw[<-Eg,aT]
    have Ez:φ' nm=⟨W.heap.size,0,0,false,none⟩:=by
     obtain⟨o',k1,k2⟩:=W8 nm _ XO
     rcases k2 with⟨_,k2,_⟩ | ⟨n,n',k2,_⟩
     ·rw[k2,aT]
     ·cases k2
    unfold qn at hK
    have step:∀ {gZ:List E} {gS:List Nat} {a1 b1:Code} {st:LoopState} {bJ:Option Code},R.obj nm=some (.loop gZ gS a1 b1 st bJ)->st≠ .busy->
        ∃ w4,(Instr.endLoop W.heap.size).run P w3=.ok bJ w4/\aP G φ' m' { σ with obj:=mT R.obj nm } a' w4:=by
     intro gZ gS a1 b1 st bJ ho dq
     obtain⟨q0,q1,r',q2,q3,q4,q5,q6,q7,q8,q9⟩:=Nt.objs nm _ ho
     rw[Ez]at q2
     have M4:(Instr.endLoop W.heap.size).run P w3=.ok bJ (w3.putObj W.heap.size (.loop { r' with state:=.exhausted })):=by
      rw[run_endLoop (P:=P) q2 (by rw[q3];exact dq),q4]
     refine⟨_,M4,?_⟩
     have ab:=(Array.getElem?_eq_some_iff.1 q2).1
     have sp:mT R.obj nm=upd R.obj nm (some (.loop gZ gS a1 b1 .exhausted bJ)):=by unfold mT;rw[ho]
     rw[sp]
     have :=Nt.chg (w':=w3.putObj W.heap.size (.loop { r' with state:=.exhausted })) nm (.loop gZ gS a1 b1 .exhausted bJ) (φ' nm) (Ext.same ho rfl rfl) ⟨rfl,rfl,rfl,by simp⟩
      (fun b _ hb=>World.putObj_heap_other (by
        rcases hb with h | h
        ·rw[q1]at h;cases h
        ·rw[Ez]at h;exact h))
      (fun _=>.inr ⟨⟨_,ho,rfl,q1⟩,rfl⟩) (by
        rw[gy]
        refine⟨q0,q1,{ r' with state:=.exhausted },by rw[Ez];exact World.putObj_heap_same ab,rfl,q4,q5,q6,q7,q8,fun i hi=>(q9 i hi).ext (Mem.le_refl _) ?_⟩
        have :=Ext.same (φ:=φ') (o':=.loop gZ gS a1 b1 .exhausted bJ) ho rfl rfl
        rwa [gy]at this)
     rw[gy]at this
     exact this
    rcases ho:R.obj nm with _ | o
    ·rw[ho]at hK;exact hK.elim
    rw[ho]at hK
    cases o with
    |loop gZ gS a1 b1 st bJ=>
     have dq:st≠ .busy:=by rintro rfl;exact hK.elim
     obtain⟨w4,h1,h2⟩:=step ho dq
     refine⟨bJ,w4,h1,?_⟩
     cases bJ with
     |none=>
      refine⟨φ',m',_,h2,?_⟩
      cases st<;>first | exact hK | exact(dq rfl).elim
     |some c=>
      cases c with
      |ret=>exact wpIn_ret ⟨φ',m',_,h2,by cases st<;>first | exact hK | exact(dq rfl).elim⟩
      |exit id=>exact wpIn_exit ⟨φ',m',_,h2,by cases st<;>first | exact hK | exact(dq rfl).elim⟩
      |_=>exfalso;cases st<;>first | exact hK | exact(dq rfl).elim
    |_=>exact hK.elim
 cases ny:G.rd with
 |none=>
  obtain⟨d,tO,f',args,w₂,h1,h2,h3⟩:=main (w.alloc (.deferred (some []))) _ w.heap.size (aaD hC) rfl
  rw[ny]at h3
  have dL:(w.alloc (.deferred (some []))).heap.size=w.heap.size+1:=by simp
  rw[dL]at h1 h3
  exact⟨w.heap.size+1,[{ target:=.collected w.heap.size,args:= #[] }],_,d,tO,f',args,w₂,run_enterLoop_outer _ _ _ _ _,h1,fun _ _=>trivial,h2,fun h=>(by simp[fL,Fence.wide]at h),h3⟩
 |some l=>
  obtain⟨gG,r0,Mr⟩:=G.rdok l ny
  have Xy:w.heap[l]?=some (.loop r0):=(hC.fr.block l (Array.getElem?_eq_some_iff.1 Mr).1 gG).trans Mr
  obtain⟨d,tO,f',args,w₂,h1,h2,h3⟩:=main w a r0.defers hC rfl
  rw[ny]at h3
  exact⟨w.heap.size,[],_,d,tO,f',args,w₂,run_enterLoop_inner Xy _ _ _ _ _,h1,fun _ _=>trivial,h2,fun h=>(by simp[fL,Fence.wide]at h),h3⟩
theorem aa1{P:Program}{Γ:FuncId->Option Spec}(hΓ:∀ f s,Γ f=some s->aN P f s){g:Operand}{ps:Array Tmp}{asg body:Code}{σ:S}{r:List Code}{K:Exit->S->Prop}(k k':Nat){f:FuncId}{s:Spec}
 (hc:cV σ g=true) (ee:gx (au σ g)=some f) (aG:f≠yid) (hs:Γ f=some s) (sB:σ.obj (k::σ.pre)=none)
 (aa:(s.app (upd σ.obj (k::σ.pre) (some (.loop ((List.range σ.nt).map σ.env) ps.toList asg body .ready none))) (k'::σ.pre) (eT (au σ g) [.yld (k::σ.pre)])).ok)
 (hK:qn (jM (fun σ'=>CL P r σ' K) K) (s.app (upd σ.obj (k::σ.pre) (some (.loop ((List.range σ.nt).map σ.env) ps.toList asg body .ready none))) (k'::σ.pre) (eT (au σ g) [.yld (k::σ.pre)])).obj (k::σ.pre)
   { σ with obj:=mT (s.app (upd σ.obj (k::σ.pre) (some (.loop ((List.range σ.nt).map σ.env) ps.toList asg body .ready none))) (k'::σ.pre) (eT (au σ g) [.yld (k::σ.pre)])).obj (k::σ.pre) }):
 CL P (.rangeFunc g ps asg body::r) σ K:=OB hΓ k k' hc ee aG hs sB aa hK
theorem eh.refl(σ:S):eh σ σ:=fun _ φ _ _ _ hC=>⟨φ,hC⟩
theorem eh.trans{a b c:S}(h:eh a b)(k:eh b c):eh a c:=fun G φ m x w hC=>by
 obtain⟨φ',h'⟩:=h G φ m x w hC
 exact k G φ' m x w h'
theorem bg{σ τ:S}(ks:List Nat)(ns:List Name)(h:iu ks ns σ)(he:iH ks ns σ=τ):eh σ τ:=he▸BP ks ns h
def o5(l c:List (Nat×E)):List (Nat×E):=l.map fun q=>(q.1,(c.lookup q.1).getD q.2)
def o3(l c:List (Name×O)):List (Name×O):=l.map fun q=>(q.1,(c.lookup q.1).getD q.2)
theorem eR{P:Program}{c:Code}{r:List Code}{σ:S}{K:Exit->S->Prop}(ks:List Nat)(ns:List Name)(h:iu ks ns σ)(hc:CL P (c::r) (iH ks ns σ) K):CL P (c::r) σ K:=
 vz (BP ks ns h) hc
theorem cr{P:Program}{c:Code}{r:List Code}{K:Exit->S->Prop}{nt:Nat}{p:Name}{H:Name->Option O}{l:List (Nat×E)}{h:List (Name×O)}{ι:Type}
 (chg:ι->List (Nat×E)) (pf:ι->List (Name×O)) (R:ι->Prop) (μ:ι->Nat) (i0:ι) (hR:R i0) (he:o5 l (chg i0)=l) (ho:o3 h (pf i0)=h)
 (round:∀ i,R i->CL P [c] (bt nt p H (o5 l (chg i)) (o3 h (pf i))) (jM (fun σ'=>∃ i',R i'/\μ i'<μ i/\eh σ' (bt nt p H (o5 l (chg i')) (o3 h (pf i')))) K)):
 CL P (.loop c::r) (bt nt p H l h) K:=by
 refine F8 (fun i=>bt nt p H (o5 l (chg i)) (o3 h (pf i))) R μ i0 hR ?_ round
 rw[he,ho]
 exact .refl _
theorem ON{P:Program}{c:Code}{r:List Code}{K:Exit->S->Prop}{nt:Nat}{p:Name}{H:Name->Option O}{l:List (Nat×E)}{h:List (Name×O)}{ι:Type}
 (Hc:ι->Name->Option O) (chg:ι->List (Nat×E)) (pf:ι->List (Name×O)) (R:ι->Prop) (μ:ι->Nat) (i0:ι) (hR:R i0) (hH:bt nt p (Hc i0) l h=bt nt p H l h) (he:o5 l (chg i0)=l) (ho:o3 h (pf i0)=h)
 (round:∀ i,R i->CL P [c] (bt nt p (Hc i) (o5 l (chg i)) (o3 h (pf i))) (jM (fun σ'=>∃ i',R i'/\μ i'<μ i/\eh σ' (bt nt p (Hc i') (o5 l (chg i')) (o3 h (pf i')))) K)):
 CL P (.loop c::r) (bt nt p H l h) K:=by
 refine F8 (fun i=>bt nt p (Hc i) (o5 l (chg i)) (o3 h (pf i))) R μ i0 hR ?_ round
 rw[he,ho,hH]
 exact .refl _
attribute [go_sem] o5 o3 List.lookup_cons List.lookup_nil List.getElem?_toArray List.getElem?_cons_succ List.getElem?_cons_zero beq_true beq_false ite_self Bool.and_self Bool.or_self imp_self Bool.if_true_right Bool.if_false_right Bool.if_true_left Bool.if_false_left Bool.decide_eq_true
attribute [go_sem] wq gw rR wB distinct eX dj di dm aX Bool.and_eq_true
def fq(a b:Nat):Bool:=Nat.ble a b
def gT(a b:Nat):Bool:=Nat.ble (a+1) b
def cQ(a b:Nat):Bool:=Nat.beq a b
def dF(a b:Int):Bool:=match b-a with
 | .ofNat _=>true
 | .negSucc _=>false
def kJ(a b:Int):Bool:=match b-a-1 with
 | .ofNat _=>true
 | .negSucc _=>false
def uD{α:Type}:Option α->Bool
 |none=>true
 |some _=>false
def pg:Option Nat->Nat->Bool
 |some a,b=>Nat.beq a b
 |none,_=>false
def vH(sz:Nat):List V->Bool
 |[]=>true
 |x::r=>Nat.beq x.cells.length sz&&vH sz r
def vI(sz:Nat):List V->Bool
 |[]=>true
 |x::r=>Nat.beq x.cells.length sz&&x.okc&&vI sz r
def wQ(a b:IntKind):Bool:=match a,b with
 | .i64,.i64=>true
 | .u8,.u8=>true
 | .u64,.u64=>true
 | .i32,.i32=>true
 | .u32,.u32=>true
 |_,_=>false
def DJ(P:Program)(T:TypeId):Bool:=match P.underlying T with
 |some .bool=>true
 |_=>false
def isEq:BinOp->Bool
 | .eql=>true
 | .neq=>true
 |_=>false
def sa:Int->Bool
 | .ofNat 0=>true
 |_=>false
theorem rU{a b:Nat}(h:fq a b=true):a<=b:=Nat.le_of_ble_eq_true h
theorem zo{a b:Nat}(h:gT a b=true):a<b:=Nat.le_of_ble_eq_true h
theorem kG{a b:Nat}(h:cQ a b=true):a=b:=Nat.eq_of_beq_eq_true h
theorem gE{a b:Int}(h:dF a b=true):a<=b:=by
 unfold dF at h
 split at h
 ·rename_i n hn
  have :(0:Int)<=b-a:=by rw[hn];exact Int.natCast_nonneg n
  omega
 ·cases h
theorem WY{a b:Int}(h:kJ a b=true):a<b:=by
 unfold kJ at h
 split at h
 ·rename_i n hn
  have :(0:Int)<=b-a-1:=by rw[hn];exact Int.natCast_nonneg n
  omega
 ·cases h
theorem zl{α:Type}{o:Option α}(h:uD o=true):o=none:=by cases o<;>simp_all[uD]
theorem qg{o:Option Nat}{b:Nat}(h:pg o b=true):o=some b:=by
 cases o with
 |none=>cases h
 |some a=>rw[Nat.eq_of_beq_eq_true h]
theorem By{sz:Nat}:∀ {l:List V},vH sz l=true->∀ x∈l,x.cells.length=sz
 |y::r,h,x,hx=>by
  simp only[vH,Bool.and_eq_true]at h
  rcases List.mem_cons.1 hx with rfl | hx
  ·exact Nat.eq_of_beq_eq_true h.1
  ·exact By h.2 x hx
theorem Bz{sz:Nat}:∀ {l:List V},vI sz l=true->∀ x∈l,x.cells.length=sz/\x.okc=true
 |y::r,h,x,hx=>by
  simp only[vI,Bool.and_eq_true]at h
  rcases List.mem_cons.1 hx with rfl | hx
  ·exact⟨Nat.eq_of_beq_eq_true h.1.1,h.1.2⟩
  ·exact Bz h.2 x hx
theorem LO{a b:IntKind}(h:wQ a b=true):a=b:=by unfold wQ at h;split at h<;>first | rfl | cases h
theorem WR{P:Program}{T:TypeId}(h:DJ P T=true):P.underlying T=some .bool:=by unfold DJ at h;split at h<;>first | assumption | cases h
theorem zC{op:BinOp}(h:isEq op=true):op=.eql\/op=.neq:=by cases op<;>first | exact .inl rfl | exact .inr rfl | cases h
theorem WN{n:Int}(h:sa n=false):n≠0:=by rintro rfl;cases h
section
variable (P:Program) (obj:Name->Option O)
def yb(T:TypeId)(x:D):Bool:=
 match bh P T with
 |none=>false
 |some (ag,n)=>match x with
  | .v (.ptr cs)=>match ag with
    |true=>fq n cs.length
    |false=>cQ n 1&&gT 0 cs.length
  | .ref nm off=>match obj nm with
    |some (.box cs)=>match ag with
     |true=>fq (off+n) cs.length
     |false=>cQ n 1&&gT off cs.length
    |some (.fbox cs)=>match ag with
     |true=>fq (off+n) cs.length
     |false=>cQ n 1&&gT off cs.length
    |_=>false
  | .aref nm k i off=>match obj nm with
    |some (.arr _ l)=>cQ k l.length&&gT i l.length&&(match ag with
     |true=>fq (off+n) (l.getD i default).cells.length
     |false=>cQ n 1&&gT off (l.getD i default).cells.length)
    |some (.farr _ l)=>cQ k l.length&&gT i l.length&&(match ag with
     |true=>fq (off+n) (l.getD i default).cells.length
     |false=>cQ n 1&&gT off (l.getD i default).cells.length)
    |_=>false
  |_=>false
def Bo(T:TypeId)(f:Nat)(x:D):Bool:=
 match bT P T f with
 |none=>false
 |some (off,n,_)=>!cQ n 0&&match x with
  | .v (.ptr cs)=>fq (off+n) cs.length
  | .ref _ _=>true
  | .aref nm k _ _=>match obj nm with
    |some o=>pg o.len? k
    |none=>false
  |_=>false
def Bm(T:TypeId)(x i:D):Bool:=
 match i with
 | .v (.int _ n)=>match x with
   | .v (.sl l)=>match cl P T with
     |some (_,sz,_)=>dF 0 n&&kJ n l.length&&cQ (l.getD n.toNat default).cells.length sz
     |none=>false
   | .msl nm k=>match cl P T with
     |some (_,sz,_)=>match obj nm with
      |some (.arr s l)=>dF 0 n&&kJ n l.length&&cQ k l.length&&cQ s sz
      |some (.farr s l)=>dF 0 n&&kJ n l.length&&cQ k l.length&&cQ s sz
      |_=>false
     |none=>false
   | .ref _ _=>match jP P T with
     |some (len,_,_)=>dF 0 n&&kJ n len
     |none=>false
   | .v (.ptr cs)=>match jP P T with
     |some (len,sz,_)=>dF 0 n&&kJ n len&&fq (n.toNat*sz+sz) cs.length
     |none=>false
   |_=>false
 |_=>false
def Pj(op:BinOp)(k k':IntKind)(b:Int):Bool:=
 match op with
 | .quo=>wQ k k'&&!sa b
 | .rem=>wQ k k'&&!sa b
 | .shl=>dF 0 b
 | .shr=>dF 0 b
 |_=>wQ k k'
def O9(op:BinOp)(a b:ByteArray):Bool:=
 match op with
 | .add=>fq (a.size+b.size) maxLen
 | .eql | .neq | .lss | .leq | .gtr | .geq=>true
 |_=>false
def Gq(op:BinOp)(T:TypeId)(x y:D):Bool:=
 match x,y with
 | .v (.int k _),.v (.int k' b)=>Pj op k k' b
 | .v (.str a),.v (.str b)=>O9 op a b
 | .v (.bool _),.v (.bool _)=>DJ P T&&isEq op
 |_,_=>false
def Gl(op:BinOp)(T:TypeId)(x y:V):Bool:=
 match iZ P Op.maxDepth T x y with
 |some _=>!(P.eqGuardType P.depth T)&&isEq op
 |none=>false
def Gj(op:BinOp)(T:TypeId)(x:D):Bool:=
 match x with
 | .v (.sl (_::_))=>pg (dv P T) 0&&isEq op
 | .msl nm (k+1)=>(match obj nm with | some o=>pg o.len? (k+1) | none=>false)&&pg (dv P T) 0&&isEq op
 |_=>false
def Bt(op:BinOp)(T:TypeId)(x y:D)(ll:Bool):Bool:=
 match ll with
 |true=>Gj P obj op T x
 |false=>match eA x,eA y with
  |some (.agg a),some (.agg b)=>Gl P op T (.agg a) (.agg b)
  |_,_=>Gq P op T x y
def Ba(op:UnOp)(x:D):Bool:=
 match op,x with
 | .not,.v (.bool _)=>true
 | .neg,.v (.int _ _)=>true
 |_,_=>false
def Br(src dst:TypeId)(x:D):Bool:=
 match mS P dst,x with
 |some _,.v (.int _ _)=>(P.underlying src).isSome
 |_,_=>false
def Bq(x:D)(i:Nat):Bool:=
 match x with
 | .tup l=>gT i l.length
 | .v (.tup l)=>gT i l.length
 |_=>false
def Be(x:D):Bool:=
 match x with
 | .ref _ _=>true
 | .v (.ptr _)=>true
 | .aref nm k _ _=>match obj nm with
   |some o=>pg o.len? k
   |none=>false
 |_=>false
def yd(t:Name)(x:D):Bool:=uD (obj (bm t))&&x.boxable
def Bv(t:Name)(T:TypeId):Bool:=match br P T with
 |some z=>yd obj t (jo z)
 |none=>false
def Bs(T:TypeId)(parts:List (Nat×D)):Bool:=
 match ie P T,br P T with
 |some ps,some z=>match jo z with
  | .agg cs=>match s5 (fun i=>ps[i]?) cs parts with
    |some _=>true
    |none=>false
  |_=>false
 |_,_=>false
def Bb(T:TypeId)(x d:D):Bool:=
 match bh P T with
 |none=>false
 |some (_,n)=>match x with
  | .ref nm off=>match obj nm with
    |some (.box cs)=>d.boxable&&cQ d.cells.length n&&fq (off+n) cs.length
    |_=>false
  | .aref nm k i off=>match obj nm with
    |some (.arr sz l)=>match eA d with
     |some y=>cQ k l.length&&gT i l.length&&cQ y.cells.length n&&y.okc&&fq (off+n) sz&&!cQ sz 0
     |none=>false
    |_=>false
  |_=>false
def Bh(t:Name)(T:TypeId)(r:Option D):Bool:=
 match ky P T,r with
 |some _,none=>uD (obj (bm t))
 |_,_=>false
def Bg(t:Name)(T:TypeId)(l c:D):Bool:=
 match cl P T,l,c with
 |some (e,sz,by_),.v (.int _ n),.v (.int _ n')=>match (br P e).bind fun z=>eA (jo z)with
  |some zv=>dF n n'&&dF n' n&&dF 0 n&&dF ((by_:Int)*n) 281474976710656&&dF n 9223372036854775807&&cQ zv.cells.length sz&&zv.okc&&!cQ sz 0&&uD (obj (bm t))
  |none=>false
 |_,_,_=>false
def Bj(T:TypeId)(x:D):Bool:=
 match dv P T,x with
 |some 0,.v (.sl _)=>true
 |some 0,.nilsl=>true
 |some 0,.msl nm k=>match obj nm with
  |some o=>pg o.len? k
  |none=>false
 |some 1,.v (.str _)=>true
 |some 2,.nilmap=>true
 |some 2,.map nm=>match obj nm with
  |some (.map _ _)=>true
  |_=>false
 |_,_=>false
def Bc(T:TypeId)(x:D)(lo hi mx:Option D):Bool:=
 match mx with
 |none=>match x with
  | .v (.sl l)=>match cl P T,gC lo,kO l.length hi with
    |some (_,sz,_),some i,some j=>dF 0 i&&dF i j&&dF j l.length&&vH sz l
    |_,_,_=>false
  | .nilsl=>match cl P T,gC lo,kO 0 hi with
    |some (_,_,_),some i,some j=>sa i&&sa j
    |_,_,_=>false
  | .msl nm k=>match obj nm,cl P T,gC lo,kO k hi with
    |some (.arr _ l),some (_,sz,_),some i,some j=>cQ k l.length&&dF 0 i&&dF i j&&dF j l.length&&vH sz l
    |some (.farr _ l),some (_,sz,_),some i,some j=>cQ k l.length&&dF 0 i&&dF i j&&dF j l.length&&vH sz l
    |_,_,_,_=>false
  | .v (.str s)=>match dv P T,gC lo,kO s.size hi with
    |some 1,some i,some j=>dF 0 i&&dF i j&&dF j s.size
    |_,_,_=>false
  |_=>false
 |some (.v (.int _ 0))=>match cl P T,gC lo,hi with
  |some _,some 0,some (.v (.int _ 0))=>match x with
   | .v (.sl _)=>true
   | .nilsl=>true
   | .msl nm k=>match obj nm with
     |some o=>pg o.len? k
     |none=>false
   |_=>false
  |_,_,_=>false
 |some _=>false
def Bp(T:TypeId)(x:D)(f:Nat):Bool:=
 match bT P T f with
 |none=>false
 |some (off,n,ag)=>match x with
  | .agg l=>match ag with
    |true=>fq (off+n) l.length
    |false=>gT off l.length
  | .v (.agg l)=>match ag with
    |true=>fq (off+n) l.length
    |false=>gT off l.length
  |_=>false
def Bn(T:TypeId)(x i:D):Bool:=
 match i with
 | .v (.int _ n)=>match x with
   | .v (.str s)=>pg (dv P T) 1&&dF 0 n&&kJ n s.size
   | .agg l=>match jP P T with
     |some (len,sz,true)=>dF 0 n&&kJ n len&&fq (n.toNat*sz+sz) l.length
     |some (len,sz,false)=>dF 0 n&&kJ n len&&gT (n.toNat*sz) l.length
     |none=>false
   | .v (.agg l)=>match jP P T with
     |some (len,sz,true)=>dF 0 n&&kJ n len&&fq (n.toNat*sz+sz) l.length
     |some (len,sz,false)=>dF 0 n&&kJ n len&&gT (n.toNat*sz) l.length
     |none=>false
   |_=>false
 |_=>false
def Bi(T:TypeId)(x k:D):Bool:=
 match ky P T with
 |some (kd,e)=>match (br P e).bind fun z=>eA (jo z),eA k with
  |some _,some kv=>match x with
   | .nilmap=>fq kd 2&&ew kd kv
   | .map nm=>match obj nm with
     |some (.map kI _)=>fq kd 2&&ew kd kv&&cQ kI kd
     |_=>false
   |_=>false
  |_,_=>false
 |none=>false
def ya(T:TypeId)(x k d:D):Bool:=
 match ky P T,x,eA k,eA d with
 |some (kd,_),.map nm,some kv,some _=>match obj nm with
  |some (.map kI _)=>fq kd 2&&ew kd kv&&cQ kI kd
  |_=>false
 |_,_,_,_=>false
def Bd(c:D):Bool:=match c with
 | .v (.bool _)=>true
 |_=>false
def x9(x:D):Bool:=match x with
 | .v (.sl _)=>true
 | .nilsl=>true
 | .msl nm k=>match obj nm with
   |some (.arr _ l)=>cQ k l.length
   |some (.farr _ l)=>cQ k l.length
   |_=>false
 |_=>false
def Bu(t:Name)(T1 T2:TypeId)(s x:D):Bool:=
 match cl P T1,cl P T2 with
 |some (e,sz,by_),some _=>match br P e with
  |some z=>match s with
   | .nilsl=>x9 obj x&&vI sz (aL obj x).2&&cQ z.cells.size sz&&fq ((aL obj x).2.length*by_) 140737488355328&&fq (aL obj x).2.length maxLen&&uD (obj (bm t))
   | .msl nm k=>match obj nm with
     |some (.arr s' l)=>x9 obj x&&vI sz (aL obj x).2&&cQ z.cells.size sz&&fq ((l.length+(aL obj x).2.length)*by_) 140737488355328&&
        fq (l.length+(aL obj x).2.length) maxLen&&cQ k l.length&&cQ s' sz
     |_=>false
   |_=>false
  |none=>false
 |_,_=>false
variable {P obj}
theorem qi{a b:Nat}:fq a b=true↔a<=b:=⟨rU,Nat.ble_eq_true_of_le⟩
theorem wF{a b:Nat}:gT a b=true↔a<b:=⟨zo,Nat.ble_eq_true_of_le⟩
theorem qj{a b:Nat}:cQ a b=true↔a=b:=⟨kG,fun h=>by subst h;simp[cQ]⟩
theorem zp{a b:Nat}:cQ a b=false↔a≠b:=by
 rw[<-Bool.not_eq_true,qj]
theorem L9{a b:Int}:dF a b=true↔a<=b:=⟨gE,fun h=>by
 unfold dF
 split
 ·rfl
 ·rename_i n hn;have:=Int.negSucc_lt_zero n;omega⟩
theorem L8{a b:Int}:kJ a b=true↔a<b:=⟨WY,fun h=>by
 unfold kJ
 split
 ·rfl
 ·rename_i n hn;have:=Int.negSucc_lt_zero n;omega⟩
theorem LY{n:Int}:sa n=true↔n=0:=⟨fun h=>(by unfold sa at h;split at h<;>first | rfl | cases h),fun h=>(by subst h;rfl)⟩
theorem Gk{T:TypeId}{x:D}(h:yb P obj T x=true):(jH P obj T x).ok:=by
 unfold yb at h
 unfold jH
 (repeat' split at h)<;>simp_all[qi,wF,qj,-List.getD_eq_getElem?_getD]
theorem Pn{T:TypeId}{f:Nat}{x:D}(h:Bo P obj T f x=true):(lO P obj T f x).ok:=by
 unfold Bo at h
 unfold lO
 split at h
 ·cases h
 ·simp only[Bool.and_eq_true,Bool.not_eq_true',zp]at h
  obtain⟨h1,h⟩:=h
  (repeat' split at h)<;>simp_all[qi]
  exact qg h
theorem Pl{T:TypeId}{x i:D}(h:Bm P obj T x i=true):(lN P obj T x i).ok:=by
 unfold Bm at h
 unfold lN
 (repeat' split at h)<;>simp_all[qi,qj,L9,L8,-List.getD_eq_getElem?_getD]
theorem abt{op:BinOp}{T:TypeId}{x y:D}(h:Gq P op T x y=true):(nU P obj op T x y).ok:=by
 unfold Gq at h
 unfold nU
 split at h
 ·simp only
  unfold Pj at h
  unfold Bl
  cases op<;>simp only[Bool.and_eq_true,Bool.not_eq_true']at h |- <;>first
   |exact⟨LO h.1,WN h.2⟩
   |exact LO h
   |exact gE h
 ·simp only
  unfold O9 at h
  unfold xZ
  cases op<;>simp only at h |- <;>first | exact rU h | trivial | (cases h;done)
 ·simp only[Bool.and_eq_true]at h
  exact⟨WR h.1,zC h.2⟩
 ·cases h
theorem abo{op:BinOp}{T:TypeId}{x y:V}(h:Gl P op T x y=true):(jI P obj op T x y).ok:=by
 unfold Gl at h
 unfold jI
 split at h
 ·rename_i b hb
  simp only[Bool.and_eq_true,Bool.not_eq_true']at h
  rw[hb]
  exact⟨h.1,zC h.2⟩
 ·cases h
theorem abn{op:BinOp}{T:TypeId}{x:D}(h:Gj P obj op T x=true):(pQ P obj op T x).ok:=by
 unfold Gj at h
 unfold pQ
 split at h
 ·simp only[Bool.and_eq_true]at h
  exact⟨qg h.1,zC h.2⟩
 ·rename_i nm k
  simp only[Bool.and_eq_true]at h
  refine⟨?_,qg h.1.2,zC h.2⟩
  have h1:=h.1.1
  split at h1
  ·rename_i o ho;rw[ho];exact qg h1
  ·cases h1
 ·cases h
theorem Pt{op:BinOp}{T:TypeId}{x y:D}{n:Bool}(h:Bt P obj op T x y n=true):(mK P obj op T x y n).ok:=by
 unfold Bt at h
 unfold mK
 cases n with
 |true=>exact abn h
 |false=>
  simp only at h |-
  split at h
  ·rename_i h1 h2
   simp only[h1,h2]
   exact abo h
  ·rename_i aG
   split
   ·rename_i h1 h2;exact(aG _ _ h1 h2).elim
   ·exact abt h
theorem O8{op:UnOp}{x:D}(h:Ba op x=true):(mB obj op x).ok:=by
 unfold Ba at h
 unfold mB
 split at h<;>first | trivial | cases h
theorem Pr{s d:TypeId}{x:D}(h:Br P s d x=true):(mG P obj s d x).ok:=by
 unfold Br at h
 unfold mG
 (repeat' split at h)<;>simp_all
theorem Po{x:D}{i:Nat}(h:Bq x i=true):(mF obj x i).ok:=by
 unfold Bq at h
 unfold mF
 split at h<;>simp_all[wF]
theorem Pd{x:D}(h:Be obj x=true):(kX obj x).ok:=by
 unfold Be at h
 unfold kX
 (repeat' split at h)<;>simp_all
 exact qg h
theorem Gp{t:Name}{x:D}(h:yd obj t x=true):(mJ obj t x).ok:=by
 simp only[yd,Bool.and_eq_true]at h
 exact⟨zl h.1,h.2⟩
theorem Pv{t:Name}{T:TypeId}(h:Bv P obj t T=true):(nV P obj t T).ok:=by
 unfold Bv at h
 unfold nV
 split at h
 ·rename_i z hz;rw[hz];exact Gp h
 ·cases h
theorem Ps{T:TypeId}{ps:List (Nat×D)}(h:Bs P T ps=true):(mI P obj T ps).ok:=by
 unfold Bs at h
 unfold mI
 (repeat' split at h)<;>simp_all
theorem O'{T:TypeId}{x d:D}(h:Bb P obj T x d=true):(kW P obj T x d).ok:=by
 unfold Bb at h
 unfold kW
 (repeat' split at h)<;>simp_all[qi,wF,qj,zp]
theorem Pf{t:Name}{T:TypeId}{r:Option D}(h:Bh P obj t T r=true):(nQ P obj t T r).ok:=by
 unfold Bh at h
 unfold nQ
 (repeat' split at h)<;>simp_all
 exact zl h
theorem Pe{t:Name}{T:TypeId}{l c:D}(h:Bg P obj t T l c=true):(nP P obj t T l c).ok:=by
 unfold Bg at h
 unfold nP
 split at h
 ·rename_i e sz by_ k n k' n' hT
  rw[hT]
  simp only
  split at h
  ·rename_i zv hz
   simp only[Bool.and_eq_true,Bool.not_eq_true',zp]at h
   obtain⟨⟨⟨⟨⟨⟨⟨⟨h1,h2⟩,h3⟩,h4⟩,h5⟩,h6⟩,h7⟩,h8⟩,h9⟩:=h
   rw[hz]
   exact⟨Int.le_antisymm (gE h2) (gE h1),gE h3,gE h4,gE h5,kG h6,h7,h8,zl h9⟩
  ·cases h
 ·cases h
theorem Ph{T:TypeId}{x:D}(h:Bj P obj T x=true):(kY P obj T x).ok:=by
 unfold Bj at h
 unfold kY
 (repeat' split at h)<;>simp_all
 exact qg h
theorem Pb{T:TypeId}{x:D}{lo hi mx:Option D}(h:Bc P obj T x lo hi mx=true):(kr P obj T x lo hi mx).ok:=by
 unfold Bc at h
 unfold kr
 split at h
 ·split at h
  ·split at h
   ·rename_i h1 h2 h3
    simp only[Bool.and_eq_true]at h
    simp only[h1,h2,h3]
    exact⟨gE h.1.1.1,gE h.1.1.2,gE h.1.2,By h.2⟩
   ·cases h
  ·split at h
   ·rename_i h1 h2 h3
    simp only[Bool.and_eq_true]at h
    simp only[h1,h2,h3]
    exact⟨LY.1 h.1,LY.1 h.2⟩
   ·cases h
  ·split at h
   ·rename_i h1 h2 h3 h4
    simp only[Bool.and_eq_true]at h
    simp only[h1,h2,h3,h4]
    exact⟨kG h.1.1.1.1,gE h.1.1.1.2,gE h.1.1.2,gE h.1.2,By h.2⟩
   ·rename_i h1 h2 h3 h4
    simp only[Bool.and_eq_true]at h
    simp only[h1,h2,h3,h4]
    exact⟨kG h.1.1.1.1,gE h.1.1.1.2,gE h.1.1.2,gE h.1.2,By h.2⟩
   ·cases h
  ·split at h
   ·rename_i h1 h2 h3
    simp only[Bool.and_eq_true]at h
    simp only[h1,h2,h3]
    exact⟨gE h.1.1,gE h.1.2,gE h.2⟩
   ·cases h
  ·cases h
 ·split at h
  ·rename_i h1 h2 h3
   split at h
   ·simp only[h2,h3]
   ·simp only[h2,h3]
   ·split at h
    ·rename_i o ho
     simp only[h2,h3,ho]
     exact qg h
    ·cases h
   ·cases h
  ·cases h
 ·cases h
theorem Pm{T:TypeId}{x:D}{f:Nat}(h:Bp P T x f=true):(mE P obj T x f).ok:=by
 unfold Bp at h
 unfold mE
 (repeat' split at h)<;>simp_all[qi,wF]
theorem Pk{T:TypeId}{x i:D}(h:Bn P T x i=true):(mD P obj T x i).ok:=by
 unfold Bn at h
 unfold mD
 (repeat' split at h)<;>simp_all[qi,wF,L9,L8]
 exact qg h.1.1
theorem Pg{T:TypeId}{x k:D}{c:Bool}(h:Bi P obj T x k=true):(mC P obj T x k c).ok:=by
 unfold Bi at h
 unfold mC
 (repeat' split at h)<;>simp_all[qi,qj]
theorem Bf{T:TypeId}{x k d:D}(h:ya P obj T x k d=true):(ku P obj T x k d).ok:=by
 unfold ya at h
 unfold ku
 (repeat' split at h)<;>simp_all[qi,qj]
theorem Pc{c x y:D}(h:Bd c=true):(jG obj c x y).ok:=by
 unfold Bd at h
 unfold jG
 split at h<;>first | trivial | cases h
theorem Gi{x:D}(h:x9 obj x=true):(aL obj x).1:=by
 unfold x9 at h
 unfold aL
 (repeat' split at h)<;>simp_all[qj]
theorem Pu{t:Name}{T1 T2:TypeId}{s x:D}(h:Bu P obj t T1 T2 s x=true):(eg P obj t T1 T2 s x).ok:=by
 unfold Bu at h
 unfold eg
 split at h
 ·rename_i e sz by_ p h1 h2
  split at h
  ·rename_i z hz
   split at h
   ·simp only[Bool.and_eq_true]at h
    simp only[h1,h2,hz]
    exact⟨Gi h.1.1.1.1.1,Bz h.1.1.1.1.2,kG h.1.1.1.2,rU h.1.1.2,rU h.1.2,zl h.2⟩
   ·split at h
    ·rename_i ho
     simp only[Bool.and_eq_true]at h
     simp only[h1,h2,hz,ho]
     exact⟨Gi h.1.1.1.1.1.1,Bz h.1.1.1.1.1.2,kG h.1.1.1.1.2,rU h.1.1.1.2,rU h.1.1.2,kG h.1.2,kG h.2⟩
    ·cases h
   ·cases h
  ·cases h
 ·cases h
end
def pK(f:(Name->Option O)->D->Bool)(g:(Name->Option O)->D->FR)(obj:Name->Option O):List D->Bool
 |[]=>true
 |d::r=>f obj d&&pK f g (g obj d).obj r
def kS:Nat->(Name->Option O)->D->Bool
 | 0,obj,d=>match d with
   | .v _=>true
   | .nilsl=>true
   |_=>false
 |n+1,obj,d=>match d with
  | .v _=>true
  | .nilsl=>true
  | .msl nm k=>match obj nm with
    |some (.arr _ l)=>decide (k=l.length)
    |some (.farr _ l)=>decide (k=l.length)
    |_=>false
  | .ref nm _=>match obj nm with
    |some (.box cs)=>pK (kS n) (aM n) obj cs&&!cX (eH (fp n obj) cs) nm
    |some (.fbox _)=>true
    |_=>false
  | .agg l=>pK (kS n) (aM n) obj l
  | .tup l=>pK (kS n) (aM n) obj l
  | .clo _ f c=>pK (kS n) (aM n) obj f&&pK (kS n) (aM n) (bA (aM n) obj f).obj c
  |_=>false
theorem Fo{n:Nat}(ih:∀ obj d,kS n obj d=true->(aM n obj d).ok):∀ (l:List D) (obj:Name->Option O),pK (kS n) (aM n) obj l=true->(bA (aM n) obj l).ok
 |[],_,_=>trivial
 |d::r,obj,h=>by
  simp only[pK,Bool.and_eq_true]at h
  exact⟨ih obj d h.1,Fo ih r _ h.2⟩
theorem Nx:∀ (n:Nat) (obj:Name->Option O) (d:D),kS n obj d=true->(aM n obj d).ok
 | 0,obj,d,h=>by cases d<;>first | trivial | (simp[kS]at h)
 |n+1,obj,d,h=>by
  have ih:=Fo (Nx n)
  cases d with
  |v x=>trivial
  |nilsl=>trivial
  |msl nm k=>
   simp only[kS]at h
   unfold aM
   rcases ho:obj nm with _ | o
   ·simp[ho]at h
   ·cases o<;>simp[ho]at h |- <;>exact h
  |ref nm off=>
   simp only[kS]at h
   rcases ho:obj nm with _ | o
   ·simp[ho]at h
   ·cases o with
    |box cs=>
     simp only[ho,Bool.and_eq_true,Bool.not_eq_true']at h
     simp only[aM,ho]
     refine⟨ih cs obj h.1,?_⟩
     have :=(xG (AH n) cs obj obj (eH (fp n obj) cs) (fun _ hn=>hn) (fun _ _=>rfl)).2.frame nm (fun hn=>by rw[gD.2 hn]at h;cases h.2)
     rw[this,ho]
    |fbox cs=>simp only[aM,ho]
    |_=>simp[ho]at h
  |agg l=>exact ih l obj h
  |tup l=>exact ih l obj h
  |clo fn f c=>
   simp only[kS,Bool.and_eq_true]at h
   exact⟨ih f obj h.1,ih c _ h.2⟩
  |_=>simp[kS]at h
def isNil{α:Type}:List α->Bool
 |[]=>true
 |_=>false
theorem WO{α:Type}{l:List α}:isNil l=true↔l=[]:=by cases l<;>simp[isNil]
def zz:Nat->List Nat->Bool
 |_,[]=>true
 |k,x::r=>cQ x k&&zz (k+1) r
theorem LZ:∀ {k:Nat} {l:List Nat},zz k l=true->l=List.range' k l.length
 |k,[],_=>rfl
 |k,x::r,h=>by
  simp only[zz,Bool.and_eq_true]at h
  rw[kG h.1,List.length_cons,List.range'_succ]
  congr 1
  exact LZ h.2
def Ge(P:Program)(obj:Name->Option O)(T:TypeId)(n:Nat)(parts:List (Nat×D)):Bool:=
 match cl P T with
 |some (e,sz,_)=>match cQ n 0&&isNil parts with
  |true=>(br P e).isSome
  |false=>pK (kS 4) (aM 4) obj (parts.map fun p=>p.2)&&zz 0 (parts.map fun p=>p.1)&&cQ parts.length n&&vI sz (bA (aM 4) obj (parts.map fun p=>p.2)).xs&&
     fq (n*sz) 16777216&&!cQ sz 0&&(br P e).isSome&&gT 0 n
 |none=>false
theorem abd{P:Program}{obj:Name->Option O}{T:TypeId}{n:Nat}{parts:List (Nat×D)}(h:Ge P obj T n parts=true):(oS P obj T n parts).ok:=by
 unfold Ge at h
 unfold oS
 split at h
 ·rename_i e sz by_ hT
  rw[hT]
  simp only
  split at h
  ·rename_i hc
   simp only[Bool.and_eq_true,qj,WO]at hc
   rw[if_pos hc];exact h
  ·rename_i hc
   have gW:¬ (n=0/\parts=[]):=by
    intro ⟨a,b⟩
    subst a;subst b
    cases hc
   rw[if_neg gW]
   simp only[Bool.and_eq_true,Bool.not_eq_true',zp]at h
   obtain⟨⟨⟨⟨⟨⟨⟨h1,h2⟩,pI⟩,h3⟩,h4⟩,h5⟩,h6⟩,h7⟩:=h
   refine⟨?_,Fo (Nx 4) _ _ h1,Bz h3,rU h4,h5,h6,zo h7⟩
   have :=LZ h2
   rw[List.length_map,kG pI,<-List.range_eq_range']at this
   exact this
 ·cases h
def Gd(P:Program)(σ:S)(t:Name)(b:Builtin)(ts:List TypeId)(args:List D):Bool:=
 match b,ts,args with
 | .len,[T],[x]=>Bj P σ.obj T x
 | .append,[T1,T2],[s,x]=>Bu P σ.obj t T1 T2 s x
 | .min,_,[.v (.int _ _),.v (.int _ _)]=>true
 | .max,_,[.v (.int _ _),.v (.int _ _)]=>true
 |_,_,_=>false
def I'(P:Program)(σ:S)(t:Name):Op->Bool
 | .move _=>true
 | .assign _=>true
 | .pick c _ _=>Bd (au σ c)
 | .alloc T=>Bv P σ.obj t T
 | .box _ x=>yd σ.obj t (au σ x)
 | .build T ps=>Bs P T (ps.toList.map fun p=>(p.1,au σ p.2))
 | .buildSlice T n ps=>Ge P σ.obj T n (ps.toList.map fun p=>(p.1,au σ p.2))
 | .load T x=>yb P σ.obj T (au σ x)
 | .store T x d=>Bb P σ.obj T (au σ x) (au σ d)
 | .nilCheck x=>Be σ.obj (au σ x)
 | .binOp op T x y _=>Bt P σ.obj op T (au σ x) (au σ y) (zA y)
 | .unOp op _ x=>Ba op (au σ x)
 | .convert s d x=>Br P s d (au σ x)
 | .makeFunc _ _ _=>true
 | .makeMap T r=>Bh P σ.obj t T (r.map (au σ))
 | .makeSlice T l c=>Bg P σ.obj t T (au σ l) (au σ c)
 | .slice T x lo hi mx=>Bc P σ.obj T (au σ x) (lo.map (au σ)) (hi.map (au σ)) (mx.map (au σ))
 | .fieldAddr T x f=>Bo P σ.obj T f (au σ x)
 | .field T x f=>Bp P T (au σ x) f
 | .indexAddr T x i=>Bm P σ.obj T (au σ x) (au σ i)
 | .index T x i=>Bn P T (au σ x) (au σ i)
 | .lookup T x i _=>Bi P σ.obj T (au σ x) (au σ i)
 | .mapUpdate T x k d=>ya P σ.obj T (au σ x) (au σ k) (au σ d)
 | .insert T x k d=>ya P σ.obj T (au σ x) (au σ k) (au σ d)
 | .extract x i=>Bq (au σ x) i
 | .call ⟨.builtin b,args,ts⟩=>Gd P σ t b ts.toList (args.toList.map (au σ))
 |_=>false
theorem abb{P:Program}{σ:S}{t:Name}{b:Builtin}{ts:List TypeId}{args:List D}(h:Gd P σ t b ts args=true):(mH P σ t b ts args).ok:=by
 unfold Gd at h
 split at h
 ·exact Ph h
 ·exact Pu h
 ·trivial
 ·trivial
 ·cases h
theorem TD{P:Program}{Γ:FuncId->Option Spec}{σ:S}{t:Name}{op:Op}(h:I' P σ t op=true):(bf P Γ σ t op).ok:=by
 cases op with
 |call c=>
  obtain⟨callee,args,ts⟩:=c
  cases callee with
  |value f=>cases h
  |builtin b=>exact abb h
  |invoke=>cases h
 |move=>trivial
 |assign=>trivial
 |makeFunc=>trivial
 |pick=>exact Pc h
 |alloc=>exact Pv h
 |box=>exact Gp h
 |build=>exact Ps h
 |buildSlice=>exact abd h
 |load=>exact Gk h
 |store=>exact O' h
 |nilCheck=>exact Pd h
 |binOp=>exact Pt h
 |unOp=>exact O8 h
 |convert=>exact Pr h
 |makeMap=>exact Pf h
 |makeSlice=>exact Pe h
 |slice=>exact Pb h
 |fieldAddr=>exact Pn h
 |field=>exact Pm h
 |indexAddr=>exact Pl h
 |index=>exact Pk h
 |lookup=>exact Pg h
 |mapUpdate=>exact Bf h
 |insert=>exact Bf h
 |extract=>exact Po h
 |_=>cases h
def zE(o:Oper):Option (TypeId×Operand×Operand×Nat):=
 match o.op with
 | .slice T x (some lo) none none=>match o.guard,o.dst with
   |none,some c=>some (T,x,lo,c)
   |_,_=>none
 |_=>none
def zD(c:Nat)(o:Oper):Bool:=
 match o.op with
 | .call ⟨.builtin .clear,args,ts⟩=>match args.toList,ts.toList,o.guard,o.dst with
   |[.tmp c'],[_],none,none=>Nat.beq c' c
   |_,_,_,_=>false
 |_=>false
def nN(o:Oper):TypeId:=match o.op with
 | .call ⟨.builtin .clear,_,ts⟩=>ts.getD 0 0
 |_=>0
def lP(P:Program)(obj:Name->Option O)(T T2:TypeId)(x lo:D):R:=
 match x,lo,cl P T,cl P T2 with
 | .msl nm k,.v (.int _ i),some (e,sz,_),some (e2,_,_)=>match obj nm,(br P e).bind fun z=>eA (jo z)with
   |some (.arr s l),some zv=>⟨k=l.length/\0<=i/\i.toNat<l.length/\s=sz/\zv.cells.length=sz/\zv.okc=true/\e2=e/\0<sz,.any,upd obj nm (some (.arr sz (l.take i.toNat++List.replicate (l.length-i.toNat) zv)))⟩
   |_,_=>.bad obj
 |_,_,_,_=>.bad obj
def qW(P:Program)(σ:S)(T:TypeId)(x lo:Operand)(c:Nat)(o2:Oper):S:=
 { σ with env:=upd σ.env c ⟨true,.any⟩,obj:=(lP P σ.obj T (nN o2) (au σ x) (au σ lo)).obj }
inductive mL (P:Program) (Γ:FuncId->Option Spec) (ops:Array Oper):List Oper->S->(S->Prop)->Prop
 |nil {σ:S} {K:S->Prop}:K σ->mL P Γ ops [] σ K
 |step {o:Oper} {r:List Oper} {σ:S} {K:S->Prop}:lj P Γ ops σ o->mL P Γ ops r (bx P Γ ops σ o) K->mL P Γ ops (o::r) σ K
 |cut {o o2:Oper} {r:List Oper} {σ:S} {K:S->Prop} {T:TypeId} {x lo:Operand} {c:Nat}:zE o=some (T,x,lo,c)->zD c o2=true->c<σ.nt->cV σ x=true->cV σ lo=true->
    (lP P σ.obj T (nN o2) (au σ x) (au σ lo)).ok->mL P Γ ops r (qW P σ T x lo c o2) K->mL P Γ ops (o::o2::r) σ K
theorem Iq{m:Mem}{zv:V}{z:Value}{sz:Nat}(h:aO m zv z)(hs:zv.cells.length=sz)(cL:0<sz)(n k:Nat)(hk:k<n*sz):
 (Builtin.zeroCells z.cells n)[k]?=z.cells[k % sz]?:=by
 have hz:z.cells.size=sz:=by rw[<-h.cells];exact hs
 have hm:=Nat.mod_lt k cL
 unfold Builtin.zeroCells
 rw[hz]
 simp only[Array.getElem?_map,Array.getElem?_range,hk,if_true,Option.map_some]
 rw[Array.getElem?_eq_getElem (by omega),getElem!_pos z.cells (k % sz) (by omega)]
theorem F1{l:List V}{zv:V}{i q:Nat}(hi:i<=l.length)(hq:q<(l.take i++List.replicate (l.length-i) zv).length):
 (q<i/\∃ h:q<l.length,(l.take i++List.replicate (l.length-i) zv)[q]=l[q])\/(i<=q/\q<l.length/\(l.take i++List.replicate (l.length-i) zv)[q]=zv):=by
 have hlen:(l.take i).length=i:=by simp;omega
 have bO:=hq
 simp only[List.length_append,List.length_replicate,hlen]at bO
 by_cases h1:q<i
 ·refine .inl ⟨h1,by omega,?_⟩
  rw[List.getElem_append_left (by omega),List.getElem_take]
 ·refine .inr ⟨by omega,by omega,?_⟩
  rw[List.getElem_append_right (by omega),List.getElem_replicate]
theorem Jw{K a b:Nat}(h:a<b):a*K+K<=b*K:=by
 have :=Nat.mul_le_mul_right K (show a+1<=b by omega)
 rwa [Nat.add_mul,Nat.one_mul]at this
set_option maxHeartbeats 1000000 in
theorem aax{P:Program}{G:Ghost}{φ:Name->Loc}{m:Mem}{σ:S}{a:Act}{w:World}(hC:aP G φ m σ a w)
 {ops:Array Oper} {i:Nat} {o o2:Oper} (hi:ops[i]?=some o) (lA:ops[i+1]?=some o2) {T:TypeId} {x lo:Operand} {c:Nat} (hA:zE o=some (T,x,lo,c)) (hB:zD c o2=true) (hc:c<σ.nt)
 (hx:cV σ x=true) (eP:cV σ lo=true) (aa:(lP P σ.obj T (nN o2) (au σ x) (au σ lo)).ok) {K:Act->World->Prop} {Q:Exit->Act->World->Prop}
 (hK:∀ a' w' φ' m',aP G φ' m' (qW P σ T x lo c o2) a' w'->K a' w'):
 wpOpIn (fL G.rd) 0 P ops Q i (fun a1 w1=>wpOpIn (fL G.rd) 0 P ops Q (i+1) K a1 w1) a w:=by
 unfold zE at hA
 split at hA
 case h_2=>cases hA
 rename_i T0 x0 Dm My
 split at hA
 case h_2=>cases hA
 rename_i hg hd
 simp only[Option.some.injEq,Prod.mk.injEq]at hA
 obtain⟨rfl,rfl,rfl,rfl⟩:=hA
 unfold zD at hB
 split at hB
 case h_2=>cases hB
 rename_i args ts Ed
 split at hB
 case h_2=>cases hB
 rename_i c' T2 pE si eY nF
 have YV:=Nat.eq_of_beq_eq_true hB
 subst YV
 have nJ:nN o2=T2:=by
  unfold nN
  rw[Ed]
  simp only
  have :ts= #[T2]:=by rw[<-Array.toArray_toList (xs:=ts),si]
  rw[this];rfl
 have Y7:args= #[.tmp c']:=by rw[<-Array.toArray_toList (xs:=args),pE]
 have Xm:ts= #[T2]:=by rw[<-Array.toArray_toList (xs:=ts),si]
 rw[nJ]at aa
 have M9:qW P σ T0 x0 Dm c' o2={ σ with env:=upd σ.env c' ⟨true,.any⟩,obj:=(lP P σ.obj T0 T2 (au σ x0) (au σ Dm)).obj }:=by unfold qW;rw[nJ]
 rw[M9]at hK
 clear M9 hB pE si nJ
 have rx:=cw hC hx
 have rl:=cw hC eP
 unfold lP at aa hK
 split at aa
 case h_2=>exact aa.elim
 rename_i nm k kd ii e sz by_ e2 Hy OY Ap qI Nh Ng
 split at aa
 case h_2=>exact aa.elim
 rename_i s l zv aA se
 obtain⟨h1,h2,h3,h4,h5,h6,h7,cL⟩:=aa
 subst h7
 subst h4
 obtain⟨n,rfl⟩:∃ n:Nat,ii=(n:Int):=⟨ii.toNat,by omega⟩
 simp only[Ap,qI,Nh,Ng,aA,se,Int.toNat_natCast]at hK h3
 obtain⟨hu,it,gK,MR,_⟩:=jO Nh
 obtain⟨fx,_⟩:=jO Ng
 obtain⟨z,hz,W2⟩:=Option.bind_eq_some_iff.1 se
 have gn:aO m zv z:=oQ (uA (φ:=φ) (obj:=σ.obj) (m:=m) z) W2
 rw[Ap]at rx
 rw[qI]at rl
 cases rl with
 |v _ _ rl=>
 cases ka:a.eval Dm with
 |int kd2 n2=>
  rw[ka]at rl
  cases rl
  cases rx with
  |msl _ _ _ hh _=>
  obtain⟨oo,nn,dB,hlen,hk,dp⟩:=hh
  rw[aA]at dB;cases dB
  simp only[O.len?,Option.some.injEq]at hlen
  subst hlen
  subst h1
  have hv:=dp rfl
  rcases hC.objs nm _ aA with⟨_,pz⟩ | ⟨g0,g1,g2,g3,g4,us,T',f,g5,g6,g7,g8⟩
  ·subst pz;simp at h3
  have sh:a.eval x0=.slice (some ⟨(φ nm).blk,(φ nm).off,none⟩) l.length (φ nm).cap:=by rw[hv];simp only[Loc.slice,g0];rfl
  have nH:(φ nm).blk<w.heap.size:=(Array.getElem?_eq_some_iff.1 g5).1
  have ig:(Instr.sliceAt T0 (.slice (some ⟨(φ nm).blk,(φ nm).off,none⟩) l.length (φ nm).cap) (some (.int kd n)) none none).run P w=
      .ok (.slice (some ⟨(φ nm).blk,(φ nm).off+n*s,none⟩) (l.length-n) ((φ nm).cap-n)) w:=by
   have hb:=yP (P:=P) (φ:=φ) (obj:=σ.obj) (m:=m) (lo:=some (.v (.int kd n))) (hi:=none) (ulo:=some (.int kd n)) (uhi:=none) (len:=l.length) (cap:=(φ nm).cap) (n:=0) (i:=n) (j:=l.length) true (.v _ _ (.int _ _)) trivial rfl rfl (by omega) (by omega) (by omega) g1 w
   rw[yL hu]
   have aG:¬ ((φ nm).cap=n):=by omega
   simp[Instr.slice,run_underlying hu,hb,sizeOf,typeInfo,gK,MR,aG,oR]
  have cM:∀ cc,o.op≠ .defer cc:=fun cc h=>by rw[My]at h;cases h
  have XS:∀ cc,o2.op≠ .defer cc:=fun cc h=>by rw[Ed]at h;cases h
  have lx:Region.wanted o (yielded ops a.tmps)=true:=by unfold Region.wanted;rw[hg]
  have cR:(execOp a.eval o).run P w=.ok (.value (.slice (some ⟨(φ nm).blk,(φ nm).off+n*s,none⟩) (l.length-n) ((φ nm).cap-n))) w:=by
   unfold execOp
   rw[My]
   simp only[sh,Option.map_some,Option.map_none,ka,Sem.run_bind,ig,Result.andThen_ok,Sem.run_pure]
  have key:∀ KK:Act->World->Prop,KK (a.put (some c') (.slice (some ⟨(φ nm).blk,(φ nm).off+n*s,none⟩) (l.length-n) ((φ nm).cap-n))) w->wpOpIn (fL G.rd) 0 P ops Q i KK a w:=by
   intro KK Nq
   unfold wpOpIn
   simp only[hi,lx,if_true]
   refine⟨fun _ _=>trivial,?_⟩
   rw[Oper.semAt_eq _ _ _ cM,cR]
   rw[<-hd]at Nq
   exact Nq
  refine key _ ?_
  have gX:=hC.put (t:=c') (e:=⟨true,.any⟩) (v:=.slice (some ⟨(φ nm).blk,(φ nm).off+n*s,none⟩) (l.length-n) ((φ nm).cap-n)) hc (by unfold cA;simp;exact .any _)
  have M3:(a.put (some c') (.slice (some ⟨(φ nm).blk,(φ nm).off+n*s,none⟩) (l.length-n) ((φ nm).cap-n))).eval (.tmp c')=.slice (some ⟨(φ nm).blk,(φ nm).off+n*s,none⟩) (l.length-n) ((φ nm).cap-n):=by
   have hs:c'<a.tmps.size:=by rw[hC.size];exact hc
   simp[Act.put,Act.eval,Array.getD,hs]
  generalize hga:a.put (some c') (.slice (some ⟨(φ nm).blk,(φ nm).off+n*s,none⟩) (l.length-n) ((φ nm).cap-n))=a1 at gX M3 |-
  have jy:n*s<=l.length*s:=Nat.mul_le_mul_right _ (by omega)
  have jA:l.length*s<=(φ nm).cap*s:=Nat.mul_le_mul_right _ g1
  have sf:(Builtin.zeroCells z.cells (l.length-n)).toList.length=l.length*s-n*s:=by
   have DR:z.cells.size=s:=by rw[<-gn.cells];exact h5
   simp[Builtin.zeroCells,DR,Nat.sub_mul]
  obtain⟨jf,k1,k2,k3⟩:=wj P (φ nm).blk ((φ nm).off+n*s) T' f g6 (Builtin.zeroCells z.cells (l.length-n)).toList 0 us w g5 (by rw[sf];omega)
   (fun v hv=>by
     obtain⟨k,hk,rfl⟩:=List.getElem_of_mem hv
     rw[sf,<-Nat.sub_mul]at hk
     have h0:=Iq gn h5 cL (l.length-n) k hk
     have MJ:k % s<z.cells.size:=by rw[<-gn.cells,h5];exact Nat.mod_lt _ cL
     rw[Array.getElem?_eq_getElem MJ]at h0
     have h1:(Builtin.zeroCells z.cells (l.length-n)).toList[k]=z.cells[k % s]:=by
      have :=h0
      rw[<-Array.getElem?_toList]at this
      exact(List.getElem?_eq_some_iff.1 this).2
     rw[h1]
     have sJ:k % s<zv.cells.length:=by rw[h5];exact Nat.mod_lt _ cL
     exact Jb ((gn.cell (k % s) sJ MJ).one (gn.ones h6 _ (List.getElem_mem _))))
  simp only[Nat.add_zero]at k2
  have DV:Region.wanted o2 (yielded ops a1.tmps)=true:=by unfold Region.wanted;rw[eY]
  show wpOpIn (fL G.rd) 0 P ops Q (i+1) K a1 w
  unfold wpOpIn
  simp only[lA,DV,if_true]
  refine⟨fun _ _=>trivial,?_⟩
  rw[Oper.semAt_eq _ _ _ XS]
  have Xt:(execOp a1.eval o2).run P w=.ok (.value (.tuple #[])) (cN w (φ nm).blk (.cells jf T' f)):=by
   have aG:l.length-n≠0:=by omega
   unfold execOp
   rw[Ed,Y7,Xm]
   simp only[resolve,invoke,builtin,Sem.run_bind,Sem.run_pure,Result.andThen_ok,List.map_toArray,List.map_cons,List.map_nil,M3]
   have Xl:Sem.run P (underlying T2) w=.ok (TypeDesc.slice e2) w:=run_underlying fx w
   have cp:(Builtin.clear_ #[T2] o2.type #[.slice (some ⟨(φ nm).blk,(φ nm).off+n*s,none⟩) (l.length-n) ((φ nm).cap-n)]).run P w=.ok (.tuple #[]) (cN w (φ nm).blk (.cells jf T' f)):=by
    obtain⟨q,hq⟩:∃ q,l.length-n=q+1:=⟨l.length-n-1,by omega⟩
    rw[hq]at k3 |-
    simp[Builtin.clear_,Xl,wi hz,k3]
   simp only[cp,Result.andThen_ok]
  rw[Xt]
  have xj:(l.take n++List.replicate (l.length-n) zv).length=l.length:=by simp;omega
  have bB:=Ext.same (φ:=φ) (o':=.arr s (l.take n++List.replicate (l.length-n) zv)) aA (by simp only[O.len?,xj]) rfl
  have Yz:=gX.chg (w':=cN w (φ nm).blk (.cells jf T' f)) nm (.arr s (l.take n++List.replicate (l.length-n) zv)) (φ nm) bB ⟨rfl,rfl,rfl,by simp[cN]⟩
   (fun b hb hn=>pU (by rcases hn with h | h; · rw[g0]at h;cases h
                        ·exact h))
   (fun _=>.inr ⟨⟨_,aA,rfl,g0⟩,rfl⟩) (by
     refine .inr ⟨g0,by rw[xj];exact g1,g2,fun q hq=>?_,fun q hq=>?_,jf,T',f,rz nH,g6,by rw[k1];exact g7,fun q j hq hj=>?_⟩
     ·rcases F1 (by omega) hq with⟨_,bO,e3⟩ | ⟨_,_,e3⟩<;>rw[e3]
      ·exact g3 q bO
      ·exact h5
     ·rcases F1 (by omega) hq with⟨_,bO,e3⟩ | ⟨_,_,e3⟩<;>rw[e3]
      ·exact g4 q bO
      ·exact gn.ones h6
     ·rw[k2,sf]
      rcases F1 (by omega) hq with⟨l9,bO,e3⟩ | ⟨l9,bO,e3⟩
      ·simp only[e3]at hj |-
       have gr:j<s:=by rw[<-g3 q bO];exact hj
       have hm:=Jw (K:=s) l9
       rw[if_neg (by omega)]
       exact g8 q j bO hj
      ·simp only[e3]at hj |-
       have gr:j<s:=by rw[<-h5];exact hj
       have hm:=Jw (K:=s) bO
       have im:n*s<=q*s:=Nat.mul_le_mul_right _ l9
       rw[if_pos (by omega)]
       refine⟨z.cells[j]'(by rw[<-gn.cells,h5];exact gr),?_,gn.cell j hj _⟩
       rw[show (φ nm).off+q*s+j-((φ nm).off+n*s)=(q-n)*s+j by rw[Nat.sub_mul];omega,Array.getElem?_toList]
       have ab:(q-n)*s+j<(l.length-n)*s:=by rw[Nat.sub_mul,Nat.sub_mul];omega
       rw[Iq gn h5 cL _ _ ab]
       have :((q-n)*s+j) % s=j:=by rw[Nat.mul_comm,Nat.mul_add_mod,Nat.mod_eq_of_lt gr]
       rw[this,Array.getElem?_eq_getElem])
  have nE:=hK _ _ _ m Yz
  show K (a1.put o2.dst (.tuple #[])) _
  rw[nF]
  exact nE
 |_=>rw[ka]at rl;cases rl
theorem SY{P:Program}{Γ:FuncId->Option Spec}(hΓ:∀ f s,Γ f=some s->aN P f s){G:Ghost}{ops:Array Oper}{Q:Exit->Act->World->Prop}{K:S->Prop}{l:List Oper}{σ:S}(hr:mL P Γ ops l σ K):
 ∀ (k:Nat) {φ:Name->Loc} {m:Mem} {a:Act} {w:World},k+l.length=ops.size->ops.toList.drop k=l->aP G φ m σ a w->
   (∀ a' w' φ' m' σ',aP G φ' m' σ' a' w'->K σ'->Q .normal a' w')->wpOpsIn (fL G.rd) 0 P ops Q (List.range' k l.length) a w:=by
 have sM:∀ (k:Nat) (o:Oper) (r:List Oper),ops.toList.drop k=o::r->ops[k]?=some o/\ops.toList.drop (k+1)=r:=by
  intro k o r h
  have h0:(ops.toList.drop k)[0]?=some o:=by rw[h];rfl
  rw[List.getElem?_drop,Nat.add_zero,Array.getElem?_toList]at h0
  refine⟨h0,?_⟩
  have h1:(ops.toList.drop k).drop 1=r:=by rw[h];rfl
  rw[List.drop_drop]at h1
  exact h1
 induction hr with
 |nil hk=>exact fun k φ m a w _ _ hC hQ=>hQ _ _ φ m _ hC hk
 |step h1 _ ih=>
  intro k φ m a w hs hd hC hQ
  obtain⟨hi,kg⟩:=sM k _ _ hd
  rw[List.length_cons]at hs |-
  rw[List.range'_succ,wpOpsIn_cons]
  exact BX hΓ hC hi h1 fun a' w' φ' m' cC=>ih (k+1) (by omega) kg cC hQ
 |cut hA hB hc hx eP aa _ ih=>
  intro k φ m a w hs hd hC hQ
  obtain⟨hi,kg⟩:=sM k _ _ hd
  obtain⟨lA,nF⟩:=sM (k+1) _ _ kg
  rw[List.length_cons,List.length_cons]at hs |-
  rw[List.range'_succ,wpOpsIn_cons,List.range'_succ]
  rename_i o1 o2 r' _ _ _ _ _ _ _
  have :=aax (ops:=ops) (Q:=Q) hC hi lA hA hB hc hx eP aa (K:=fun a' w'=>wpOpsIn (fL G.rd) 0 P ops Q (List.range' (k+1+1) r'.length) a' w') fun a' w' φ' m' cC=>ih (k+2) (by omega) nF cC hQ
  have e:wpOpsIn (fL G.rd) 0 P ops Q ((k+1)::List.range' (k+1+1) r'.length)=fun a1 w1=>wpOpIn (fL G.rd) 0 P ops Q (k+1) (fun a' w'=>wpOpsIn (fL G.rd) 0 P ops Q (List.range' (k+1+1) r'.length) a' w') a1 w1:=by
   funext a1 w1
   rw[wpOpsIn_cons]
  rw[e]
  exact this
theorem OA{P:Program}{Γ:FuncId->Option Spec}(hΓ:∀ f s,Γ f=some s->aN P f s){id:Nat}{ops:Array Oper}{σ:S}{K:Exit->S->Prop}
 (h:mL P Γ ops ops.toList σ (K .normal)):CW P (.region id ops false) σ K:=by
 intro G φ m a w hC
 refine wpIn_region ?_
 rw[List.range_eq_range']
 have :=SY hΓ h 0 (Q:=fun e a' w'=>∃ φ' m' σ',aP G φ' m' σ' a' w'/\K e σ') (by simp) (by simp) hC fun a' w' φ' m' σ' cC hK=>⟨φ',m',σ',cC,hK⟩
 simpa using this
def Gm(P:Program)(obj:Name->Option O)(T T2:TypeId)(x lo:D):Bool:=
 match x,lo,cl P T,cl P T2 with
 | .msl nm k,.v (.int _ i),some (e,sz,_),some (e2,_,_)=>match obj nm,(br P e).bind fun z=>eA (jo z)with
   |some (.arr s l),some zv=>cQ k l.length&&dF 0 i&&gT i.toNat l.length&&cQ s sz&&cQ zv.cells.length sz&&zv.okc&&cQ e2 e&&gT 0 sz
   |_,_=>false
 |_,_,_,_=>false
theorem abq{P:Program}{obj:Name->Option O}{T T2:TypeId}{x lo:D}(h:Gm P obj T T2 x lo=true):(lP P obj T T2 x lo).ok:=by
 unfold Gm at h
 unfold lP
 split at h
 ·split at h
  ·simp only[Bool.and_eq_true]at h
   obtain⟨⟨⟨⟨⟨⟨⟨h1,h2⟩,h3⟩,h4⟩,h5⟩,h6⟩,h7⟩,h8⟩:=h
   exact⟨kG h1,gE h2,zo h3,kG h4,kG h5,h6,kG h7,zo h8⟩
  ·cases h
 ·cases h
theorem ab0{P:Program}{obj:Name->Option O}{T T2:TypeId}{x lo:D}{nm:Name}(h:nm∉aY x):(lP P obj T T2 x lo).obj nm=obj nm:=by
 unfold lP
 split
 ·split
  ·simp only[aY,List.mem_singleton]at h
   exact bc _ _ _ h
  ·rfl
 ·rfl
end Go.Eng
