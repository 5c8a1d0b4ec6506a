import Derived.Test.YtepaolcgegdpoaaGreatK2
/- Texts Eng19 to EngK. -/
set_option linter.all false
namespace Go.Eng
open Go
section
variable {P:Program} {Γ:FuncId->Option Spec} {ops:Array Oper}
structure sE where
 anc:List Nat
 past:qF
def dW:Name->Name->Bool
 |[],[]=>true
 |x::r,y::s=>Nat.beq x y&&dW r s
 |_,_=>false
theorem fS:∀ {a b:Name},dW a b=true↔a=b
 |[],[]=>by simp[dW]
 |[],_::_=>by simp[dW]
 |_::_,[]=>by simp[dW]
 |x::r,y::s=>by
  simp only[dW,Bool.and_eq_true,Nat.beq_eq,List.cons.injEq,fS]
def tz:List Name->Name->Bool
 |[],_=>false
 |x::r,nm=>dW x nm||tz r nm
theorem HF:∀ {l:List Name} {nm:Name},tz l nm=true↔nm∈l
 |[],nm=>by simp[tz]
 |x::r,nm=>by
  simp only[tz,Bool.or_eq_true,fS,List.mem_cons,HF]
  exact⟨fun h=>h.imp Eq.symm id,fun h=>h.imp Eq.symm id⟩
def j5:List Nat->Nat->Bool
 |[],_=>false
 |x::r,n=>Nat.beq x n||j5 r n
theorem HG:∀ {l:List Nat} {n:Nat},j5 l n=true↔n∈l
 |[],n=>by simp[j5]
 |x::r,n=>by
  simp only[j5,Bool.or_eq_true,Nat.beq_eq,List.mem_cons,HG]
  exact⟨fun h=>h.imp Eq.symm id,fun h=>h.imp Eq.symm id⟩
def ue:List Name->List Name->Bool
 |[],_=>true
 |x::r,b=>!tz b x&&ue r b
theorem Dy:∀ {a b:List Name},ue a b=true->wS a b
 |[],_,_=>fun nm h=>by cases h
 |x::r,b,h=>by
  simp only[ue,Bool.and_eq_true,Bool.not_eq_true']at h
  intro nm ha hb
  rcases List.mem_cons.1 ha with rfl | ha
  ·rw[HF.2 hb]at h;cases h.1
  ·exact Dy h.2 nm ha hb
def fO(p:sE)(e:sE):Bool:=j5 p.anc e.past.on||(ue e.past.wrt p.past.foot&&ue p.past.wrt e.past.foot)
def td:List sE->Bool
 |[]=>true
 |p::L=>L.all (fO p)&&td L
variable (P Γ ops)in
def qE:Nat->List (List Nat)->List Oper->List sE->S->(S->Prop)->Prop
 |_,_,[],L,σ,K=>td L=true/\K σ
 |i,az,o::r,L,σ,K=>kF P Γ ops σ o/\
   qE (i+1) az.tail r (⟨az.headD [],i,cb Γ σ ((σ.base+o.dst.getD 0)::σ.pre) o.op,bL Γ σ ((σ.base+o.dst.getD 0)::σ.pre) o.op⟩::L) (bj P Γ ops σ o) K
variable (P Γ ops)in
def EF(anc:Nat->List Nat):Nat->List Oper->List qF->S->(S->Prop)->Prop
 |_,[],_,σ,K=>K σ
 |i,o::r,L,σ,K=>kF P Γ ops σ o/\xx (anc i) (cb Γ σ (Oper.tt σ o) o.op) (bL Γ σ (Oper.tt σ o) o.op) L/\
   EF anc (i+1) r (⟨i,cb Γ σ (Oper.tt σ o) o.op,bL Γ σ (Oper.tt σ o) o.op⟩::L) (bj P Γ ops σ o) K
theorem Gm{anc:Nat->List Nat}{K:S->Prop}:∀ (l:List Oper) (i:Nat) (az:List (List Nat)) (L:List sE) (σ:S),(∀ k,az.getD k []=anc (i+k))->
 qE P Γ ops i az l L σ K->td L=true/\EF P Γ ops anc i l (L.map (·.past)) σ K
 |[],i,az,L,σ,_,h=>h
 |o::r,i,az,L,σ,ha,h=>by
  obtain⟨h1,h2⟩:=h
  obtain⟨h3,h4⟩:=Gm (anc:=anc) r (i+1) az.tail _ _ (fun k=>by
   have :=ha (k+1)
   rw[show i+(k+1)=i+1+k by omega]at this
   rw[<-this]
   cases az<;>rfl) h2
  simp only[td,Bool.and_eq_true]at h3
  refine⟨h3.2,h1,?_,h4⟩
  intro e he
  obtain⟨p,hp,rfl⟩:=List.mem_map.1 he
  have :=List.all_eq_true.1 h3.1 p hp
  simp only[fO,Bool.or_eq_true,Bool.and_eq_true]at this
  rcases this with k | ⟨k1,k2⟩
  ·left
   have h0:az.headD []=anc i:=by
    have :=ha 0
    rw[Nat.add_zero]at this
    rw[<-this]
    cases az<;>rfl
   rw[h0]at k
   exact HG.1 k
  ·exact .inr ⟨Dy k1,Dy k2⟩
theorem Gn(hN:∀ f s,Γ f=some s->s.Near){anc:Nat->List Nat}(hA:wU ops anc)(mH:∀ i j oi oj,ops[i]?=some oi->ops[j]?=some oj->i<j->i∉anc j->oi.apart ops oj=true)
 (yx:∀ j o,ops[j]?=some o->∀ e∈o.after,Region.binds .any e=true->e.on<j) {K:S->Prop}:
 ∀ (n k:Nat) (L:List qF) (listed:Array Bool) (σ:S),k+n=ops.size->listed.size=ops.size->(∀ j,listed.getD j false=decide (j<k))->sH anc listed->
   EF P Γ ops anc k (ops.toList.drop k) L σ K->qK P Γ ops anc L K n listed σ
 | 0,k,L,listed,σ,hk,hs,hl,cw,h=>by
   have :ops.toList.drop k=[]:=List.drop_eq_nil_of_le (by simp;omega)
   rw[this]at h
   refine⟨?_,h⟩
   refine List.eq_nil_iff_forall_not_mem.2 fun j hj=>?_
   obtain⟨h1,o,ho,_⟩:=mem_ready.1 hj
   have ab:j<ops.size:=(Array.getElem?_eq_some_iff.1 ho).1
   have :=hl j
   simp only[Array.getD_eq_getD_getElem?,Array.getElem?_eq_getElem (show j<listed.size by omega),Option.getD_some]at h1 this
   rw[h1]at this
   simp at this
   omega
 |n+1,k,L,listed,σ,hk,hs,hl,cw,h=>by
  have ab:k<ops.size:=by omega
  have hd:ops.toList.drop k=ops[k]::ops.toList.drop (k+1):=by
   rw[List.drop_eq_getElem_cons (by simpa using ab)];simp
  rw[hd]at h
  obtain⟨h1,h2,h3⟩:=h
  have aa:ops[k]?=some ops[k]:=Array.getElem?_eq_getElem ab
  have tP:∀ j,j<listed.size->listed.getD j true=listed.getD j false:=by
   intro j hj
   simp only[Array.getD_eq_getD_getElem?,Array.getElem?_eq_getElem hj,Option.getD_some]
  have hr:k∈Region.ready .any ops listed:=by
   refine mem_ready.2 ⟨?_,_,aa,fun e he hb=>?_⟩
   ·rw[tP k (by omega),hl k];simp
   ·rw[hl];simpa using yx k _ aa e he hb
  refine pull hN hA aa n listed σ cw (fun j oj hj aE jv gm=>?_) hr h1 h2 ?_
  ·have iz:j<ops.size:=(Array.getElem?_eq_some_iff.1 hj).1
   rw[tP j (by omega),hl j]at jv
   simp at jv
   exact mH k j _ oj aa hj (by omega) gm
  ·refine Gn hN hA mH yx n (k+1) _ _ _ (by omega) (by simpa using hs) (fun j=>?_) (cw.set hA hr) h3
   by_cases mA:k=j
   ·subst mA
    simp[show k<listed.size by omega]
   ·rw[getD_set_ne false mA,hl j]
    refine decide_eq_decide.2 ?_
    omega
def uX(ops:Array Oper)(az:List (List Nat)):Bool:=
 (List.range ops.size).all fun j=>match ops[j]? with
   |none=>true
   |some oj=>(oj.after.toList.all fun e=>!Region.binds .any e||decide (e.on<j))&&
      ((az.getD j []).all fun i=>oj.after.toList.any fun e=>Region.binds .any e&&(e.on==i||(az.getD e.on []).contains i))&&
      (List.range j).all fun i=>(az.getD j []).contains i||(match ops[i]? with | some oi=>oi.apart ops oj | none=>true)
theorem DL(hΓ:∀ f s,Γ f=some s->aR P f s)(hP:P.follows .mixedOrders=true){id:Nat}{l:List Oper}{σ:S}{K:Exit->S->Prop}(az:List (List Nat))
 (hs:uX l.toArray az=true) (h:∀ K':S->Prop,(∀ σ',K .normal σ'->K' σ')->qE P Γ l.toArray 0 az l [] σ K'):CW P (.region id l.toArray true) σ K:=by
 intro G φ m a w hC
 have gU:∀ j oj,l.toArray[j]?=some oj->(oj.after.toList.all fun e=>!Region.binds .any e||decide (e.on<j))=true/\
       ((az.getD j []).all fun i=>oj.after.toList.any fun e=>Region.binds .any e&&(e.on==i||(az.getD e.on []).contains i))=true/\
       ((List.range j).all fun i=>(az.getD j []).contains i||(match l.toArray[i]? with | some oi=>oi.apart l.toArray oj | none=>true))=true:=by
  intro j oj hj
  have :=List.all_eq_true.1 hs j (List.mem_range.2 (Array.getElem?_eq_some_iff.1 hj).1)
  simp only[hj,Bool.and_eq_true]at this
  exact⟨this.1.1,this.1.2,this.2⟩
 have hN:∀ f s,Γ f=some s->s.Near:=fun f s h=>(hΓ f s h).near
 have hA:wU l.toArray (fun j=>az.getD j []):=by
  intro j o ho i hi
  have :=List.all_eq_true.1 (gU j o ho).2.1 i hi
  obtain⟨e,he,h1⟩:=List.any_eq_true.1 this
  simp only[Bool.and_eq_true,Bool.or_eq_true,beq_iff_eq,List.contains_iff_mem]at h1
  exact⟨e,by simpa using he,h1.1,h1.2⟩
 have mH:∀ i j oi oj,l.toArray[i]?=some oi->l.toArray[j]?=some oj->i<j->i∉az.getD j []->oi.apart l.toArray oj=true:=by
  intro i j oi oj h1 h2 h3 h4
  have :=List.all_eq_true.1 (gU j oj h2).2.2 i (List.mem_range.2 h3)
  simp only[h1,Bool.or_eq_true]at this
  rcases this with k | k
  ·exact(h4 (by simpa using k)).elim
  ·exact k
 have yx:∀ j o,l.toArray[j]?=some o->∀ e∈o.after,Region.binds .any e=true->e.on<j:=by
  intro j o ho e he hb
  have :=List.all_eq_true.1 (gU j o ho).1 e (by simpa using he)
  simpa[hb]using this
 refine wpIn_region_any hP ?_
 obtain⟨_,hD⟩:=Gm (anc:=fun j=>az.getD j []) l 0 az [] σ (fun k=>by simp) (h (K .normal) fun _ h=>h)
 refine M5 hΓ (K:=K .normal) _ _ (hC.drawn _) (Gn hN hA mH yx l.toArray.size 0 [] _ σ (by simp) (by simp) (fun j=>?_) (fun j hj=>?_) (by simpa using hD)) fun a' w' φ' m' σ' cz hK=>⟨φ',m',σ',cz,hK⟩
 ·by_cases hj:j<l.length<;>simp[hj]
 ·by_cases eB:j<l.length<;>simp[eB]at hj
theorem X'(hΓ:∀ f s,Γ f=some s->aR P f s)(hP:P.follows .mixedOrders=true){id:Nat}{l:List Oper}{c:Code}{r:List Code}{σ:S}{K:Exit->S->Prop}(az:List (List Nat))(ks:List Nat)(ns:List Name)
 (hs:uX l.toArray az=true) (h:∀ K':S->Prop,(∀ σ',gY ks ns σ'->CL P (c::r) (iw ks ns σ') K->K' σ')->qE P Γ l.toArray 0 az l [] σ K'):CL P (.region id l.toArray true::c::r) σ K:=
 DL hΓ hP az hs fun K' hK=>h K' fun σ' hc hy=>hK σ' (DK ks ns hc hy)
theorem uz(hΓ:∀ f s,Γ f=some s->aR P f s)(hP:P.follows .mixedOrders=true){id:Nat}{l:List Oper}{σ:S}{K:Exit->S->Prop}(az:List (List Nat))
 (hs:uX l.toArray az=true) (h:∀ K':S->Prop,(∀ σ',K .normal σ'->K' σ')->qE P Γ l.toArray 0 az l [] σ K'):CL P [.region id l.toArray true] σ K:=
 DL hΓ hP az hs fun K' hK=>h K' fun σ' hc=>hK σ' hc
end
attribute [go_sem] dW tz j5 ue Nat.beq_eq_true_eq qE cb bL aZ fp eh ga eK muts O.mut PSpec.toSpec List.headD_cons List.headD_nil List.tail_cons List.tail_nil
mutual
def D.ren(f:Name->Name):D->D
 | .v x=>.v x
 | .nilsl=>.nilsl
 | .nilmap=>.nilmap
 | .ref nm o=>.ref (f nm) o
 | .msl nm k=>.msl (f nm) k
 | .aref nm k i o=>.aref (f nm) k i o
 | .map nm=>.map (f nm)
 | .yld nm=>.yld (f nm)
 | .clo fn a b=>.clo fn (D.renL f a) (D.renL f b)
 | .agg l=>.agg (D.renL f l)
 | .tup l=>.tup (D.renL f l)
 | .any=>.any
def D.renL(f:Name->Name):List D->List D
 |[]=>[]
 |d::r=>D.ren f d::D.renL f r
end
def E.ren(f:Name->Name)(e:E):E:=⟨e.c,e.d.ren f⟩
def O.ren(f:Name->Name):O->O
 | .box cs=>.box (D.renL f cs)
 | .loop env ps asg body st bG=>.loop (env.map (E.ren f)) ps asg body st bG
 | .arr sz l=>.arr sz l
 | .map kd es=>.map kd es
 | .fbox cs=>.fbox cs
 | .farr sz l=>.farr sz l
 | .dead sz n=>.dead sz n
theorem jV(f:Name->Name):∀ l:List D,D.renL f l=l.map (D.ren f)
 |[]=>rfl
 |d::r=>by simp only[D.renL,List.map_cons,jV f r]
theorem D.one_ren(f:Name->Name)(d:D):(d.ren f).one=d.one:=by cases d<;>rfl
theorem O.len_ren(f:Name->Name)(o:O):(o.ren f).len?=o.len?:=by cases o<;>rfl
theorem O.sz_ren(f:Name->Name)(o:O):(o.ren f).sz=o.sz:=by cases o<;>rfl
theorem O.mut_ren(f:Name->Name)(o:O):(o.ren f).mut=o.mut:=by cases o<;>rfl
def wR(f:Name->Name)(φ φ':Name->Loc)(obj obj':Name->Option O)(dom:Name->Bool):Prop:=
 ∀ nm o,dom nm=true->obj nm=some o->∃ o',obj' (f nm)=some o'/\
   ((o'.len?=o.len?/\φ' (f nm)=φ nm/\o'.sz=o.sz)\/(∃ n n',o.len?=some n/\o'.len?=some n'/\n<n'))
theorem aD.renx{f:Name->Name}{φ φ':Name->Loc}{obj obj':Name->Option O}{m m':Mem}{dom:Name->Bool}(hm:Mem.le m m')(hx:wR f φ φ' obj obj' dom){d:D}{u:Value}
 (h:aD φ obj m d u) (hc:D.clos dom d=true):aD φ' obj' m' (d.ren f) u:=by
 induction h with
 |any u=>exact .any u
 |v x u h=>exact .v x u (h.mono hm)
 |nilsl a=>exact .nilsl a
 |nilmap=>exact .nilmap
 |ref nm off h=>
  obtain⟨o,ho,hl⟩:=h
  obtain⟨o',c0,h⟩:=hx nm o hc ho
  rcases h with⟨h1,h2,h3⟩ | ⟨n,n',h1,h2,h3⟩
  ·rw[<-h2];exact .ref (f nm) off ⟨o',c0,h1.trans hl⟩
  ·rw[hl]at h1;cases h1
 |map nm h=>
  obtain⟨o,ho,hl⟩:=h
  obtain⟨o',c0,h⟩:=hx nm o hc ho
  rcases h with⟨h1,h2,h3⟩ | ⟨n,n',h1,h2,h3⟩
  ·rw[<-h2];exact .map (f nm) ⟨o',c0,h1.trans hl⟩
  ·rw[hl]at h1;cases h1
 |yld nm h=>
  obtain⟨o,ho,hl⟩:=h
  obtain⟨o',c0,h⟩:=hx nm o hc ho
  rcases h with⟨h1,h2,h3⟩ | ⟨n,n',h1,h2,h3⟩
  ·rw[<-h2];exact .yld (f nm) ⟨o',c0,h1.trans hl⟩
  ·rw[hl]at h1;cases h1
 |msl nm k u h hu=>
  obtain⟨o,n,ho,hl,hk,he⟩:=h
  obtain⟨o',c0,h⟩:=hx nm o hc ho
  rcases h with⟨h1,h2,h3⟩ | ⟨n1,n',h1,h2,h3⟩
  ·exact .msl (f nm) k u ⟨o',n,c0,h1.trans hl,hk,fun e=>by rw[h2];exact he e⟩ hu
  ·rw[hl]at h1;cases h1
   exact .msl (f nm) k u ⟨o',n',c0,h2,by omega,fun e=>by omega⟩ hu
 |aref nm k i off u h hu=>
  obtain⟨o,n,ho,hl,hk,he⟩:=h
  obtain⟨o',c0,h⟩:=hx nm o hc ho
  rcases h with⟨h1,h2,h3⟩ | ⟨n1,n',h1,h2,h3⟩
  ·exact .aref (f nm) k i off u ⟨o',n,c0,h1.trans hl,hk,fun e=>by rw[h2,h3];exact he e⟩ hu
  ·rw[hl]at h1;cases h1
   exact .aref (f nm) k i off u ⟨o',n',c0,h2,by omega,fun e=>by omega⟩ hu
 |clo fn fs cs us vs h1 h2 dm fB ox ow=>
  simp only[D.clos,Bool.and_eq_true]at hc
  simp only[D.ren,jV]
  refine .clo fn _ _ us vs (by simpa using h1) (by simpa using h2) (fun i a b=>?_) (fun i a b=>?_)
  ·simp only[List.getElem_map];exact ox i (by simpa using a) b (iM _ hc.1)
  ·simp only[List.getElem_map];exact ow i (by simpa using a) b (iM _ hc.2)
 |agg l us h ho hr ih=>
  simp only[D.clos]at hc
  simp only[D.ren,jV]
  refine .agg _ us (by simpa using h) (fun d hd=>?_) (fun i a b=>?_)
  ·obtain⟨d',h1,rfl⟩:=List.mem_map.1 hd
   rw[D.one_ren];exact ho d' h1
  ·simp only[List.getElem_map];exact ih i (by simpa using a) b (iM _ hc)
 |tup l us h hr ih=>
  simp only[D.clos]at hc
  simp only[D.ren,jV]
  refine .tup _ us (by simpa using h) (fun i a b=>?_)
  simp only[List.getElem_map];exact ih i (by simpa using a) b (iM _ hc)
theorem cv.renx{f:Name->Name}{φ φ':Name->Loc}{obj obj':Name->Option O}{m m':Mem}{dom:Name->Bool}(hm:Mem.le m m')(hx:wR f φ φ' obj obj' dom){e:E}{u:Value}
 (h:cv φ obj m e u) (hc:D.clos dom e.d=true):cv φ' obj' m' (e.ren f) u:=by
 unfold cv at *
 have e0:(E.ren f e).c=e.c:=rfl
 have e1:(E.ren f e).d=e.d.ren f:=rfl
 rw[e0,e1]
 by_cases hh:e.c=true
 ·rw[if_pos hh]at h |-;exact h.renx hm hx hc
 ·rw[if_neg hh]at h |-;exact h
theorem gx.ren{f:Name->Name}{φ φ':Name->Loc}{obj obj':Name->Option O}{m m':Mem}{dom:Name->Bool}{o:O}{p:Loc}{w w':World}(hm:Mem.le m m')(hx:wR f φ φ' obj obj' dom)
 (hc:O.clos dom o=true) (hw:o.mut=true->p.nul=false->w'.heap[p.blk]?=w.heap[p.blk]?) (h:gx φ obj m o p w):gx φ' obj' m' (o.ren f) p w':=by
 cases o with
 |box cs=>
  obtain⟨h0,h1,eQ,us,T,g,h2,h3,h4,h5⟩:=h
  simp only[O.clos]at hc
  simp only[O.ren,gx,jV,List.length_map,List.getElem_map,List.mem_map,forall_exists_index,and_imp,forall_apply_eq_imp_iff₂,D.one_ren]
  exact⟨h0,h1,eQ,us,T,g,by rw[hw rfl h1];exact h2,h3,h4,fun i a b=>(h5 i a b).renx hm hx (iM a hc)⟩
 |arr sz l=>
  rcases h with⟨h,h'⟩ | ⟨h0,h1,h2,h3,h4,us,T,f,h5,h6,h7,h8⟩
  ·exact .inl ⟨h,h'⟩
  ·exact .inr ⟨h0,h1,h2,h3,h4,us,T,f,by rw[hw rfl h0];exact h5,h6,h7,fun i j a b=>let ⟨c,x,y⟩:=h8 i j a b;⟨c,x,y.mono hm⟩⟩
 |map kd es=>
  obtain⟨h0,h1,eQ,us,T,h2,h3,h4⟩:=h
  exact⟨h0,h1,eQ,us,T,by rw[hw rfl h1];exact h2,h3,fun i a b=>⟨(h4 i a b).1.mono hm,(h4 i a b).2.mono hm⟩⟩
 |fbox cs=>exact⟨h.1,fun i a=>let ⟨c,x,y⟩:=h.2 i a;⟨c,hm _ _ _ x,y.mono hm⟩⟩
 |farr sz l=>
  rcases h with⟨h,h'⟩ | ⟨h0,h1,h2,h3,h4⟩
  ·exact .inl ⟨h,h'⟩
  ·exact .inr ⟨h0,h1,h2,h3,fun i j a b=>let ⟨c,x,y⟩:=h4 i j a b;⟨c,hm _ _ _ x,y.mono hm⟩⟩
 |dead=>exact h
 |loop env ps asg body st bG=>
  obtain⟨h0,h1,r,h2,h3,h4,h5,h6,h7,h8,h9⟩:=h
  simp only[O.clos]at hc
  simp only[O.ren,gx,List.length_map,List.getElem_map]
  refine⟨h0,h1,r,by rw[hw rfl h1];exact h2,h3,h4,h5,h6,h7,h8,fun i a=>(h9 i a).renx hm hx ?_⟩
  have :=iM (l:=env.map (·.d)) (i:=i) (by simpa using a) hc
  simpa using this
mutual
theorem D.ren_id{f g:Name->Name}{dom:Name->Bool}(jC:∀ nm,dom nm=true->g (f nm)=nm):∀ d:D,D.clos dom d=true->(d.ren f).ren g=d
 | .v _,_=>rfl
 | .nilsl,_=>rfl
 | .nilmap,_=>rfl
 | .any,_=>rfl
 | .ref nm _,h=>by simp only[D.ren];rw[jC nm h]
 | .msl nm _,h=>by simp only[D.ren];rw[jC nm h]
 | .aref nm _ _ _,h=>by simp only[D.ren];rw[jC nm h]
 | .map nm,h=>by simp only[D.ren];rw[jC nm h]
 | .yld nm,h=>by simp only[D.ren];rw[jC nm h]
 | .clo _ a b,h=>by
   simp only[D.clos,Bool.and_eq_true]at h
   simp only[D.ren];rw[D.renL_id jC a h.1,D.renL_id jC b h.2]
 | .agg l,h=>by simp only[D.clos]at h;simp only[D.ren];rw[D.renL_id jC l h]
 | .tup l,h=>by simp only[D.clos]at h;simp only[D.ren];rw[D.renL_id jC l h]
theorem D.renL_id{f g:Name->Name}{dom:Name->Bool}(jC:∀ nm,dom nm=true->g (f nm)=nm):∀ l:List D,D.closL dom l=true->D.renL g (D.renL f l)=l
 |[],_=>rfl
 |d::r,h=>by
  simp only[D.closL,Bool.and_eq_true]at h
  simp only[D.renL];rw[D.ren_id jC d h.1,D.renL_id jC r h.2]
end
theorem O.ren_id{f g:Name->Name}{dom:Name->Bool}(jC:∀ nm,dom nm=true->g (f nm)=nm)(o:O)(h:O.clos dom o=true):(o.ren f).ren g=o:=by
 cases o with
 |box cs=>simp only[O.clos]at h;simp only[O.ren];rw[D.renL_id jC cs h]
 |loop env ps asg body st bG=>
  simp only[O.clos]at h
  simp only[O.ren,List.map_map,O.loop.injEq,and_true]
  refine List.ext_getElem (by simp) fun i h1 h2=>?_
  have :=iM (l:=env.map (·.d)) (i:=i) (by simpa using h2) h
  simp only[List.getElem_map,Function.comp_apply,E.ren]at this |-
  rw[D.ren_id jC _ this]
 |_=>rfl
mutual
def ly:D->List Name
 | .ref nm _=>[nm]
 | .msl nm _=>[nm]
 | .aref nm _ _ _=>[nm]
 | .map nm=>[nm]
 | .yld nm=>[nm]
 | .clo _ a b=>c7 a++c7 b
 | .agg l=>c7 l
 | .tup l=>c7 l
 |_=>[]
def c7:List D->List Name
 |[]=>[]
 |d::r=>ly d++c7 r
end
def mi:O->List Name
 | .box cs=>c7 cs
 | .loop env _ _ _ _ _=>c7 (env.map (·.d))
 |_=>[]
def cW(L:List Name)(nm:Name):Bool:=L.any fun x=>x==nm
def dJ(obj:Name->Option O):Nat->List Name->List Name->List Name
 | 0,_,acc=>acc
 |_+1,[],acc=>acc
 |n+1,x::todo,acc=>if cW acc x=true then dJ obj n todo acc else dJ obj n ((match obj x with | some o=>mi o | none=>[])++todo) (acc++[x])
def reach(obj:Name->Option O)(ds:List D):List Name:=dJ obj 3000 (c7 ds) []
theorem gS{L:List Name}{nm:Name}:cW L nm=true↔nm∈L:=by
 simp only[cW,List.any_eq_true,beq_iff_eq]
 exact⟨fun ⟨x,h,e⟩=>e▸h,fun h=>⟨nm,h,rfl⟩⟩
theorem AP{obj:Name->Option O}:∀ (n:Nat) (todo acc:List Name),∀ nm∈acc,nm∈dJ obj n todo acc
 | 0,_,_,_,h=>h
 |_+1,[],_,_,h=>h
 |n+1,x::todo,acc,nm,h=>by
  simp only[dJ]
  split
  ·exact AP n _ _ nm h
  ·exact AP n _ _ nm (by simp[h])
theorem xo{obj:Name->Option O}:∀ (n:Nat) (todo acc:List Name),acc.Nodup->(dJ obj n todo acc).Nodup
 | 0,_,_,h=>h
 |_+1,[],_,h=>h
 |n+1,x::todo,acc,h=>by
  simp only[dJ]
  split
  ·exact xo n _ _ h
  ·rename_i hx
   refine xo n _ _ (List.nodup_append.2 ⟨h,by simp,fun a ha b hb=>?_⟩)
   simp only[List.mem_singleton]at hb
   subst hb
   rintro rfl
   exact hx (gS.2 ha)
theorem AO{obj obj2:Name->Option O}:∀ (n:Nat) (todo acc:List Name),bQ (dJ obj n todo acc) obj obj2->dJ obj2 n todo acc=dJ obj n todo acc
 | 0,_,_,_=>rfl
 |_+1,[],_,_=>rfl
 |n+1,x::todo,acc,h=>by
  simp only[dJ]at h |-
  split
  ·rename_i hx;rw[if_pos hx]at h;exact AO n _ _ h
  ·rename_i hx
   rw[if_neg hx]at h
   have bt:obj2 x=obj x:=h x (AP n _ _ x (by simp))
   rw[bt]
   exact AO n _ _ h
def idx:List Name->Name->Nat
 |[],_=>0
 |x::r,nm=>if x=nm then 0 else idx r nm+1
def cin(L:List Name)(nm:Name):Name:=[idx L nm,1]
def cout(L:List Name)(t:Name):Name->Name
 |[i,1]=>L.getD i []
 |x=>x++t
def cZ:Name->Bool
 |[_,1]=>true
 |_=>false
theorem tI:∀ {L:List Name} {nm:Name},nm∈L->∃ h:idx L nm<L.length,L[idx L nm]=nm
 |x::r,nm,h=>by
  simp only[idx]
  by_cases e:x=nm
  ·subst e;simp
  ·simp only[if_neg e]
   obtain⟨h1,h2⟩:=tI (L:=r) (nm:=nm) (by rcases List.mem_cons.1 h with h | h; · exact(e h.symm).elim
                                         ·exact h)
   exact⟨by simp;omega,by simpa using h2⟩
theorem XD{L:List Name}{t nm:Name}(h:nm∈L):cout L t (cin L nm)=nm:=by
 obtain⟨h1,h2⟩:=tI h
 show L.getD (idx L nm) []=nm
 rw[List.getD_eq_getElem?_getD,List.getElem?_eq_getElem h1];simpa using h2
theorem uu{L:List Name}{t x:Name}(h:cZ x=false):cout L t x=x++t:=by
 unfold cout
 split
 ·simp[cZ]at h
 ·rfl
theorem vB{x:Name}:cZ x=true↔∃ i,x=[i,1]:=by
 constructor
 ·intro h
  unfold cZ at h
  split at h
  ·exact⟨_,rfl⟩
  ·cases h
 ·rintro⟨i,rfl⟩;rfl
theorem G4(i:Nat):own [0] [i,1]=false:=by simp[own]
theorem BP{L:List Name}(hn:L.Nodup){i:Nat}(h:i<L.length):idx L L[i]=i:=by
 obtain⟨h1,h2⟩:=tI (List.getElem_mem h)
 exact(List.getElem_inj hn).1 h2
structure Out where
 upd:List (Nat×O)
 new:List (Name×O)
 d:D
 deriving Inhabited
def eN:List (Nat×O)->Nat->O->O
 |[],_,o=>o
 |(j,o')::r,i,o=>eN r i (if j=i then o' else o)
def cE(L:List Name)(t:Name):List (Nat×O)->(Name->Option O)->(Name->Option O)
 |[],obj=>obj
 |(i,o)::r,obj=>cE L t r (upd obj (L.getD i []) (some (o.ren (cout L t))))
def du(L:List Name)(t:Name):List (Name×O)->(Name->Option O)->(Name->Option O)
 |[],obj=>obj
 |(x,o)::r,obj=>du L t r (upd obj (x++t) (some (o.ren (cout L t))))
theorem GH{L:List Name}{t:Name}(hn:L.Nodup):∀ (l:List (Nat×O)) (obj:Name->Option O) {i:Nat} (h:i<L.length) (o:O) (_:(l.all fun x=>decide (x.1<L.length))=true) (_:obj L[i]=some (o.ren (cout L t))),
 cE L t l obj L[i]=some ((eN l i o).ren (cout L t))
 |[],obj,i,h,o,_,ho=>ho
 |(j,o')::r,obj,i,h,o,hl,ho=>by
  simp only[List.all_cons,Bool.and_eq_true,decide_eq_true_eq]at hl
  simp only[cE,eN]
  refine GH hn r _ h _ hl.2 ?_
  have e:L.getD j []=L[j]:=by rw[List.getD_eq_getElem?_getD,List.getElem?_eq_getElem hl.1];rfl
  rw[e]
  by_cases hj:j=i
  ·subst hj;rw[aS,if_pos rfl]
  ·rw[a8 _ _ _ (fun e'=>hj ((List.getElem_inj hn).1 e').symm),if_neg hj];exact ho
theorem AT{L:List Name}{t:Name}:∀ (l:List (Nat×O)) (obj:Name->Option O) {nm:Name} (_:(l.all fun x=>decide (x.1<L.length))=true) (_:nm∉L),cE L t l obj nm=obj nm
 |[],_,_,_,_=>rfl
 |(j,o')::r,obj,nm,hl,hn=>by
  simp only[List.all_cons,Bool.and_eq_true,decide_eq_true_eq]at hl
  simp only[cE]
  rw[AT r _ hl.2 hn]
  refine a8 _ _ _ ?_
  rintro rfl
  refine hn ?_
  rw[List.getD_eq_getElem?_getD,List.getElem?_eq_getElem hl.1];simp
theorem vj{L:List Name}{t:Name}:∀ (l:List (Name×O)) (obj:Name->Option O) {nm:Name} (_:∀ x∈l,nm≠x.1++t),du L t l obj nm=obj nm
 |[],_,_,_=>rfl
 |(x,o')::r,obj,nm,hl=>by
  simp only[du]
  rw[vj r _ fun y hy=>hl y (by simp[hy])]
  exact a8 _ _ _ (hl (x,o') (by simp))
theorem GI{L:List Name}{t:Name}:∀ (l:List (Name×O)) (obj:Name->Option O) (_:(l.map (·.1)).Nodup) {x:Name} {o:O} (_:(x,o)∈l),du L t l obj (x++t)=some (o.ren (cout L t))
 |(y,o')::r,obj,hn,x,o,h=>by
  simp only[List.map_cons,List.nodup_cons]at hn
  simp only[du]
  rcases List.mem_cons.1 h with h | h
  ·cases h
   rw[vj r _ fun z hz e=>hn.1 (by
    have :_=z.1:=List.append_cancel_right e
    rw[this];exact List.mem_map_of_mem hz)]
   exact aS _ _ _
  ·exact GI r _ hn.2 h
def di(n:Nat)(new:List (Name×O)):Name->Bool
 |[i,1]=>decide (i<n)
 |x=>new.any fun y=>y.1==x
section
variable {G:Ghost} {φ:Name->Loc} {m:Mem} {σ:S} {a:Act} {w:World}
def cQ(L:List Name)(obj:Name->Option O)(nm:Name):O:=match obj nm with
 |some o=>o.ren (cin L)
 |none=>.fbox []
def shut(obj:Name->Option O)(L:List Name):Bool:=L.all fun nm=>match obj nm with
 |some o=>O.clos (cW L) o
 |none=>false
def jr(L:List Name)(obj:Name->Option O):Name->Option O
 |[i,1]=>if i<L.length then some (cQ L obj (L.getD i []))else none
 |_=>none
def lZ(L:List Name)(φ:Name->Loc):Name->Loc
 |[i,1]=>φ (L.getD i [])
 |_=>⟨0,0,0,true,none⟩
def pg(L:List Name)(φ:Name->Loc)(obj:Name->Option O)(b:Nat):Prop:=∃ nm∈L,holds φ obj nm/\(φ nm).blk=b
theorem u3{obj:Name->Option O}{L:List Name}(h:shut obj L=true){nm:Name}(hn:nm∈L):∃ o,obj nm=some o/\O.clos (cW L) o=true:=by
 have :=List.all_eq_true.1 h nm hn
 cases ho:obj nm with
 |none=>simp[ho]at this
 |some o=>simp only[ho]at this;exact⟨o,rfl,this⟩
theorem kS{L:List Name}{i:Nat}(h:i<L.length):L.getD i []=L[i]:=by rw[List.getD_eq_getElem?_getD,List.getElem?_eq_getElem h];rfl
theorem Ru{L:List Name}{obj:Name->Option O}{nm:Name}(hn:nm∈L):jr L obj (cin L nm)=some (cQ L obj nm):=by
 obtain⟨h1,h2⟩:=tI hn
 show (if idx L nm<L.length then some (cQ L obj (L.getD (idx L nm) []))else none)=_
 rw[if_pos h1,kS h1,h2]
theorem NT{L:List Name}{φ:Name->Loc}{nm:Name}(hn:nm∈L):lZ L φ (cin L nm)=φ nm:=by
 obtain⟨h1,h2⟩:=tI hn
 show φ (L.getD (idx L nm) [])=_
 rw[kS h1,h2]
theorem xn{L:List Name}{obj:Name->Option O}:wR (cin L) φ (lZ L φ) obj (jr L obj) (cW L):=by
 intro nm o hd ho
 have hn:=gS.1 hd
 refine⟨cQ L obj nm,Ru hn,.inl ⟨?_,NT hn,?_⟩⟩
 ·simp only[cQ,ho];exact O.len_ren _ _
 ·simp only[cQ,ho];exact O.sz_ren _ _
theorem A8{L:List Name}{obj:Name->Option O}{x:Name}{o:O}(h:jr L obj x=some o):∃ (i:Nat) (hi:i<L.length),x=[i,1]/\o=cQ L obj L[i]:=by
 unfold jr at h
 split at h
 ·rename_i i
  split at h
  ·rename_i hi
   cases h
   exact⟨i,hi,rfl,by rw[kS hi]⟩
  ·cases h
 ·cases h
def r9(w:World)(m:Mem)(L:List Name)(φ:Name->Loc)(obj:Name->Option O)(rd:Option Nat)(h:∀ l,rd=some l->¬ pg L φ obj l/\∃ r,w.heap[l]?=some (.loop r)):Ghost:=
 ⟨w,m,pg L φ obj,rd,lZ L φ,jr L obj,h⟩
theorem yb{L:List Name}{obj:Name->Option O}(hL:shut obj L=true){x:Name}(h:holds (lZ L φ) (jr L obj) x):∃ (i:Nat) (hi:i<L.length),x=[i,1]/\holds φ obj L[i]:=by
 obtain⟨o,h1,h2,h3⟩:=h
 obtain⟨i,hi,rfl,rfl⟩:=A8 h1
 obtain⟨o',h4,_⟩:=u3 hL (List.getElem_mem hi)
 refine⟨i,hi,rfl,o',h4,?_,?_⟩
 ·simp only[cQ,h4,O.mut_ren]at h2;exact h2
 ·have:lZ L φ [i,1]=φ L[i]:=by show φ (L.getD i [])=_;rw[kS hi]
  rw[this]at h3;exact h3
theorem Lm(hC:aP G φ m σ a w){L:List Name}(hn:L.Nodup)(hL:shut σ.obj L=true){rd:Option Nat}(mw:∀ l,rd=some l->¬ pg L φ σ.obj l/\∃ r,w.heap[l]?=some (.loop r))
 {nt b0:Nat} {env:Nat->E} {tmps:Array Value} (hs:tmps.size=nt) (he:∀ t,cv (lZ L φ) (jr L σ.obj) m (env t) (tmps.getD t undef)):
 aP (r9 w m L φ σ.obj rd mw) (lZ L φ) m ⟨nt,env,jr L σ.obj,[0],b0⟩ { tmps:=tmps,defers:=[] } w:=by
 have hφ:∀ (i:Nat) (hi:i<L.length),lZ L φ [i,1]=φ L[i]:=fun i hi=>by show φ (L.getD i [])=_;rw[kS hi]
 constructor
 ·exact he
 ·exact hs
 ·exact⟨[],rfl,by simp,by simp⟩
 ·intro x o hx
  obtain⟨i,hi,rfl,rfl⟩:=A8 hx
  obtain⟨o',h4,h5⟩:=u3 hL (List.getElem_mem hi)
  rw[hφ i hi]
  simp only[cQ,h4]
  exact(hC.objs _ _ h4).ren (Mem.le_refl m) xn h5 fun _ _=>rfl
 ·exact hC.mem
 ·intro x hx off
  obtain⟨i,hi,rfl,h⟩:=yb hL hx
  rw[hφ i hi]
  exact hC.apart _ h off
 ·intro x y hx hy e
  obtain⟨i,hi,rfl,h⟩:=yb hL hx
  obtain⟨j,hj,rfl,h'⟩:=yb hL hy
  rw[hφ i hi,hφ j hj]at e
  have :=(List.getElem_inj hn).1 (hC.inj _ _ h h' e)
  rw[this]
 ·intro x hx
  obtain⟨i,hi,rfl,h⟩:=yb hL hx
  rw[hφ i hi]
  exact .inr ⟨_,List.getElem_mem hi,h,rfl⟩
 ·exact⟨rfl,rfl,rfl,Nat.le_refl _,fun _ _ _=>rfl⟩
 ·intro b off v h;exact .inl h
 ·refine⟨fun x o hx=>?_,Ext.refl _ _⟩
  obtain⟨i,hi,rfl,_⟩:=A8 hx
  exact G4 i
structure NS (σ:S) (os:List O) (o:Out):Prop where
 objs:∀ i (h:i<os.length),σ.obj [i,1]=some (eN o.upd i os[i])
 news:∀ x∈o.new,σ.obj x.1=some x.2
 cd:D.clos (di os.length o.new) o.d=true
 cu:(o.upd.all fun x=>O.clos (di os.length o.new) x.2&&decide (x.1<os.length))=true
 cn:(o.new.all fun x=>O.clos (di os.length o.new) x.2&&!cZ x.1)=true
 nd:(o.new.map (·.1)).Nodup
def fresh(obj:Name->Option O)(t:Name)(new:List (Name×O)):Bool:=new.all fun x=>(obj (x.1++t)).isNone
theorem Xb{n:Nat}{new:List (Name×O)}{x:Name×O}(h:cZ x.1=false)(hx:x∈new):di n new x.1=true:=by
 have key:∀ nm:Name,cZ nm=false->di n new nm=new.any fun y=>y.1==nm:=by
  intro nm h
  unfold di
  split
  ·simp[cZ]at h
  ·rfl
 rw[key _ h]
 exact List.any_eq_true.2 ⟨x,hx,by simp⟩
theorem HY{dom:Name->Bool}:∀ (l:List (Nat×O)) (i:Nat) (o:O),O.clos dom o=true->(∀ x∈l,O.clos dom x.2=true)->O.clos dom (eN l i o)=true
 |[],_,_,h,_=>h
 |(j,o')::r,i,o,h,hl=>by
  simp only[eN]
  refine HY r i _ ?_ fun x hx=>hl x (by simp[hx])
  split
  ·exact hl (j,o') (by simp)
  ·exact h
mutual
theorem clos_ren{f:Name->Name}{dom dom':Name->Bool}(hf:∀ nm,dom nm=true->dom' (f nm)=true):∀ d:D,D.clos dom d=true->D.clos dom' (d.ren f)=true
 | .v _,_=>by simp only[D.ren,D.clos]
 | .nilsl,_=>by simp only[D.ren,D.clos]
 | .nilmap,_=>by simp only[D.ren,D.clos]
 | .any,_=>by simp only[D.ren,D.clos]
 | .ref nm _,h=>hf nm h
 | .msl nm _,h=>hf nm h
 | .aref nm _ _ _,h=>hf nm h
 | .map nm,h=>hf nm h
 | .yld nm,h=>hf nm h
 | .clo _ a b,h=>by
   simp only[D.clos,Bool.and_eq_true]at h
   simp only[D.ren,D.clos,Bool.and_eq_true]
   exact⟨sk hf a h.1,sk hf b h.2⟩
 | .agg l,h=>by simp only[D.clos]at h;simp only[D.ren,D.clos];exact sk hf l h
 | .tup l,h=>by simp only[D.clos]at h;simp only[D.ren,D.clos];exact sk hf l h
theorem sk{f:Name->Name}{dom dom':Name->Bool}(hf:∀ nm,dom nm=true->dom' (f nm)=true):∀ l:List D,D.closL dom l=true->D.closL dom' (D.renL f l)=true
 |[],_=>by simp only[D.renL,D.closL]
 |d::r,h=>by
  simp only[D.closL,Bool.and_eq_true]at h
  simp only[D.renL,D.closL,Bool.and_eq_true]
  exact⟨clos_ren hf d h.1,sk hf r h.2⟩
end
theorem O.clos_ren{f:Name->Name}{dom dom':Name->Bool}(hf:∀ nm,dom nm=true->dom' (f nm)=true)(o:O)(h:O.clos dom o=true):O.clos dom' (o.ren f)=true:=by
 cases o with
 |box cs=>simp only[O.clos]at h;simp only[O.ren,O.clos];exact sk hf cs h
 |loop env ps asg body st bG=>
  simp only[O.clos]at h
  simp only[O.ren,O.clos]
  have :=sk hf _ h
  rw[jV,List.map_map]at this
  rw[List.map_map]
  exact this
 |_=>rfl
theorem Ll(hC:aP G φ m σ a w){L:List Name}(hn:L.Nodup)(hL:shut σ.obj L=true){rd:Option Nat}{mw:∀ l,rd=some l->¬ pg L φ σ.obj l/\∃ r,w.heap[l]?=some (.loop r)}
 {φ2:Name->Loc} {m2:Mem} {σ2:S} {a2:Act} {w2:World} (fq:aP (r9 w m L φ σ.obj rd mw) φ2 m2 σ2 a2 w2) {o:Out} (hE:NS σ2 (L.map (cQ L σ.obj)) o) {t:Name} (hf:fresh σ.obj t o.new=true):
 ∃ φ' m',Mem.le m m'/\aP G φ' m' { σ with obj:=du L t o.new (cE L t o.upd σ.obj) } a w2/\
   Ext φ φ' σ.obj (du L t o.new (cE L t o.upd σ.obj))/\
   (∀ d u,aD φ2 σ2.obj m2 d u->D.clos (di L.length o.new) d=true->aD φ' (du L t o.new (cE L t o.upd σ.obj)) m' (d.ren (cout L t)) u):=by
 have hlen:(L.map (cQ L σ.obj)).length=L.length:=by simp
 obtain⟨h1,h2,h3,h4,h5,h6⟩:=hE
 rw[hlen]at h3 h4 h5
 have hu:(o.upd.all fun x=>decide (x.1<L.length))=true:=List.all_eq_true.2 fun x hx=>by
  have :=List.all_eq_true.1 h4 x hx
  simp only[Bool.and_eq_true]at this;exact this.2
 have xX:∀ x∈o.upd,O.clos (di L.length o.new) x.2=true:=fun x hx=>by
  have :=List.all_eq_true.1 h4 x hx
  simp only[Bool.and_eq_true]at this;exact this.1
 have Kp:∀ x∈o.new,O.clos (di L.length o.new) x.2=true:=fun x hx=>by
  have :=List.all_eq_true.1 h5 x hx
  simp only[Bool.and_eq_true]at this;exact this.1
 have Ch:∀ x∈o.new,cZ x.1=false:=fun x hx=>by
  have :=List.all_eq_true.1 h5 x hx
  simp only[Bool.and_eq_true,Bool.not_eq_true']at this;exact this.2
 have cP:∀ x∈o.new,σ.obj (x.1++t)=none:=fun x hx=>by
  have :=List.all_eq_true.1 hf x hx
  simpa using this
 have Wk:∀ nm∈L,∃ o,σ.obj nm=some o:=fun nm h=>let ⟨o,h,_⟩:=u3 hL h;⟨o,h⟩
 have rV:∀ nm∈L,∀ x∈o.new,nm≠x.1++t:=fun nm h x hx e=>by
  obtain⟨o',ho⟩:=Wk nm h
  rw[e,cP x hx]at ho;cases ho
 have VN:∀ nm,cW L nm=true->cout L t (cin L nm)=nm:=fun nm h=>XD (gS.1 h)
 generalize eZ:du L t o.new (cE L t o.upd σ.obj)=obj'
 have yc:∀ (i:Nat) (hi:i<L.length),obj' L[i]=some ((eN o.upd i (cQ L σ.obj L[i])).ren (cout L t)):=fun i hi=>by
  rw[<-eZ,vj _ _ (rV _ (List.getElem_mem hi))]
  refine GH hn _ _ hi _ hu ?_
  obtain⟨o',ho,hc⟩:=u3 hL (List.getElem_mem hi)
  simp only[cQ,ho]
  rw[O.ren_id VN o' hc]
 have Cg:∀ x∈o.new,obj' (x.1++t)=some (x.2.ren (cout L t)):=fun x hx=>by rw[<-eZ];exact GI _ _ h6 hx
 have Cf:∀ nm,nm∉L->(∀ x∈o.new,nm≠x.1++t)->obj' nm=σ.obj nm:=fun nm h h'=>by rw[<-eZ,vj _ _ h',AT _ _ hu h]
 let φ':Name->Loc:=fun nm=>if nm∈L then φ2 (cin L nm)else match o.new.find? (fun x=>x.1++t==nm)with
  |some x=>φ2 x.1
  |none=>φ nm
 have vG:∀ (i:Nat) (hi:i<L.length),φ' L[i]=φ2 [i,1]:=fun i hi=>by
  show (if L[i]∈L then φ2 (cin L L[i])else _)=_
  rw[if_pos (List.getElem_mem hi)]
  show φ2 [idx L L[i],1]=_
  rw[BP hn hi]
 have xT:∀ x∈o.new,φ' (x.1++t)=φ2 x.1:=fun x hx=>by
  show (if x.1++t∈L then _ else _)=_
  rw[if_neg fun h=>rV _ h x hx rfl]
  cases qh:o.new.find? (fun y=>y.1++t==x.1++t)with
  |none=>have:=List.find?_eq_none.1 qh x hx;simp at this
  |some y=>
   have :=List.find?_some qh
   simp only[beq_iff_eq]at this
   simp only[List.append_cancel_right this]
 have xS:∀ nm,nm∉L->(∀ x∈o.new,nm≠x.1++t)->φ' nm=φ nm:=fun nm h h'=>by
  show (if nm∈L then _ else _)=_
  rw[if_neg h]
  cases qh:o.new.find? (fun y=>y.1++t==nm)with
  |none=>rfl
  |some y=>
   have :=List.find?_some qh
   simp only[beq_iff_eq]at this
   exact(h' y (List.mem_of_find?_eq_some qh) this.symm).elim
 let m':Mem:=fun b off=>match m2 b off with | some c=>some c | none=>m b off
 have ya:=fq.own
 have rP:∀ b,pg L φ σ.obj b->b<w.heap.size:=fun b ⟨nm,h,⟨o',k1,k2,k3⟩,e⟩=>by rw[<-e];exact(hC.objs nm o' k1).lt k2 k3
 have Cm:Mem.le m m':=by
  intro b off v h
  show (match m2 b off with | some c=>some c | none=>m b off)=some v
  cases hq:m2 b off with
  |none=>exact h
  |some c=>
   have k1:=fq.mem b off c hq
   have k2:=hC.mem b off v h
   rw[qw (fq.fr.block b (o6 k2) fun ⟨nm,_,k3,e⟩=>by
    have :=hC.apart nm k3 off;rw[e,h]at this;cases this)]at k1
   have k3:World.cell? w ⟨b,off,none⟩=some c:=k1
   rw[k2]at k3;exact k3.symm
 have Cl:Mem.le m2 m':=by
  intro b off v h
  show (match m2 b off with | some c=>some c | none=>m b off)=some v
  rw[h]
 have yj:∀ b off v,m' b off=some v->m2 b off=some v\/(m2 b off=none/\m b off=some v):=by
  intro b off v h
  have h':(match m2 b off with | some c=>some c | none=>m b off)=some v:=h
  cases hq:m2 b off with
  |none=>rw[hq]at h';exact .inr ⟨rfl,h'⟩
  |some c=>rw[hq]at h';exact .inl h'
 have CN:∀ x,di L.length o.new x=true->(∃ (i:Nat) (hi:i<L.length),x=[i,1])\/(cZ x=false/\∃ y∈o.new,y.1=x):=by
  intro x hx
  unfold di at hx
  split at hx
  ·rename_i i
   exact .inl ⟨i,by simpa using hx,rfl⟩
  ·obtain⟨y,hy,e⟩:=List.any_eq_true.1 hx
   simp only[beq_iff_eq]at e
   subst e
   exact .inr ⟨Ch y hy,y,hy,rfl⟩
 have tU:∀ (i:Nat) (hi:i<L.length),cout L t [i,1]=L[i]:=fun i hi=>kS hi
 have mE:∀ (i:Nat) (hi:i<L.length),σ2.obj [i,1]=some (eN o.upd i (cQ L σ.obj L[i])):=fun i hi=>by
  have :=h1 i (by simpa using hi)
  simpa using this
 have B1:wR (cout L t) φ2 φ' σ2.obj obj' (di L.length o.new):=by
  intro x q hd hq
  rcases CN x hd with⟨i,hi,rfl⟩ | ⟨hi,y,hy,rfl⟩
  ·rw[tU i hi,yc i hi,vG i hi]
   rw[mE i hi]at hq;cases hq
   exact⟨_,rfl,.inl ⟨O.len_ren _ _,rfl,O.sz_ren _ _⟩⟩
  ·rw[uu hi,Cg y hy,xT y hy]
   rw[h2 y hy]at hq;cases hq
   exact⟨_,rfl,.inl ⟨O.len_ren _ _,rfl,O.sz_ren _ _⟩⟩
 have Vs:∀ (i:Nat) (hi:i<L.length),O.clos (di L.length o.new) (eN o.upd i (cQ L σ.obj L[i]))=true:=by
  intro i hi
  refine HY _ _ _ ?_ xX
  obtain⟨o',ho,hc⟩:=u3 hL (List.getElem_mem hi)
  simp only[cQ,ho]
  refine O.clos_ren (fun nm hd=>?_) o' hc
  obtain⟨k1,_⟩:=tI (gS.1 hd)
  show decide (idx L nm<L.length)=true
  simpa using k1
 have yq:Ext φ φ' σ.obj obj':=by
  intro nm q hq
  by_cases fC:nm∈L
  ·obtain⟨i,hi,rfl⟩:=List.getElem_of_mem fC
   obtain⟨Bc,k1,k2⟩:=fq.kept.2 [i,1] (cQ L σ.obj L[i]) (by
    show jr L σ.obj [i,1]=_
    show (if i<L.length then _ else _)=_
    rw[if_pos hi,kS hi])
   have Ua:Bc=eN o.upd i (cQ L σ.obj L[i]):=by rw[mE i hi]at k1;exact(Option.some.inj k1).symm
   subst Ua
   have Ul:lZ L φ [i,1]=φ L[i]:=by show φ (L.getD i [])=_;rw[kS hi]
   have cw:(cQ L σ.obj L[i]).len?=q.len?/\(cQ L σ.obj L[i]).sz=q.sz:=by
    simp only[cQ,hq];exact⟨O.len_ren _ _,O.sz_ren _ _⟩
   refine⟨_,yc i hi,?_⟩
   rw[O.len_ren,O.sz_ren,vG i hi]
   rcases k2 with⟨a1,a2,a3⟩ | ⟨n,n',a1,a2,a3⟩
   ·exact .inl ⟨a1.trans cw.1,(a2:φ2 [i,1]=lZ L φ [i,1]).trans Ul,a3.trans cw.2⟩
   ·exact .inr ⟨n,n',cw.1▸a1,a2,a3⟩
  ·have qc:∀ x∈o.new,nm≠x.1++t:=fun x hx e=>by rw[e,cP x hx]at hq;cases hq
   exact⟨q,by rw[Cf nm fC qc];exact hq,.inl ⟨rfl,xS nm fC qc,rfl⟩⟩
 have tW:∀ nm,holds φ' obj' nm->(∃ x,holds φ2 σ2.obj x/\φ' nm=φ2 x/\nm=cout L t x/\di L.length o.new x=true)\/(nm∉L/\(∀ x∈o.new,nm≠x.1++t)/\holds φ σ.obj nm/\φ' nm=φ nm):=by
  rintro nm ⟨q,k1,k2,k3⟩
  by_cases fC:nm∈L
  ·obtain⟨i,hi,rfl⟩:=List.getElem_of_mem fC
   left
   rw[yc i hi]at k1;cases k1
   rw[O.mut_ren]at k2
   rw[vG i hi]at k3
   exact⟨[i,1],⟨_,mE i hi,k2,k3⟩,vG i hi,(tU i hi).symm,by show decide (i<L.length)=true;simpa using hi⟩
  ·by_cases qc:∃ x∈o.new,nm=x.1++t
   ·obtain⟨x,hx,rfl⟩:=qc
    left
    rw[Cg x hx]at k1;cases k1
    rw[O.mut_ren]at k2
    rw[xT x hx]at k3
    refine⟨x.1,⟨_,h2 x hx,k2,k3⟩,xT x hx,(uu (Ch x hx)).symm,?_⟩
    exact Xb (Ch x hx) hx
   ·have rK:∀ x∈o.new,nm≠x.1++t:=fun x hx e=>qc ⟨x,hx,e⟩
    right
    rw[Cf nm fC rK]at k1
    rw[xS nm fC rK]at k3
    exact⟨fC,rK,⟨q,k1,k2,k3⟩,xS nm fC rK⟩
 have i5:∀ nm,nm∉L->holds φ σ.obj nm->(φ nm).blk<w.heap.size/\¬ pg L φ σ.obj (φ nm).blk:=by
  intro nm fC hh
  obtain⟨q,k1,k2,k3⟩:=hh
  refine⟨(hC.objs nm q k1).lt k2 k3,fun ⟨x,k4,k5,k6⟩=>?_⟩
  exact fC (hC.inj _ _ k5 ⟨q,k1,k2,k3⟩ k6▸k4)
 have ad4:∀ x y,di L.length o.new x=true->di L.length o.new y=true->cout L t x=cout L t y->x=y:=by
  intro x y hx hy e
  rcases CN x hx with⟨i,hi,rfl⟩ | ⟨k1,x',bt,rfl⟩<;>rcases CN y hy with⟨j,hj,rfl⟩ | ⟨k2,y',Up,rfl⟩
  ·rw[tU i hi,tU j hj]at e
   rw[(List.getElem_inj hn).1 e]
  ·rw[tU i hi,uu k2]at e
   exact(rV _ (List.getElem_mem hi) y' Up e).elim
  ·rw[tU j hj,uu k1]at e
   exact(rV _ (List.getElem_mem hj) x' bt e.symm).elim
  ·rw[uu k1,uu k2]at e
   exact List.append_cancel_right e
 refine⟨φ',m',Cm,?_,yq,fun d u hd hc=>hd.renx Cl B1 hc⟩
 constructor
 ·exact fun x=>(hC.tmps x).ext Cm yq
 ·exact hC.size
 ·obtain⟨ds,k1,k2,k3⟩:=hC.defers
  refine⟨ds,k1,k2,fun D hD=>⟨(k3 D hD).1,?_⟩⟩
  have k4:=(k3 D hD).2
  rw[fq.fr.block D (Array.getElem?_eq_some_iff.1 k4).1 fun ⟨x,_,⟨q,k5,k6,k7⟩,k8⟩=>(hC.objs x q k5).notDef k6 k7 _ (by rw[k8];exact k4)]
  exact k4
 ·intro nm q hq
  by_cases fC:nm∈L
  ·obtain⟨i,hi,rfl⟩:=List.getElem_of_mem fC
   have cp:obj' L[i]=some q:=hq
   rw[yc i hi]at cp;cases cp
   rw[vG i hi]
   exact(fq.objs _ _ (mE i hi)).ren Cl B1 (Vs i hi) fun _ _=>rfl
  ·by_cases qc:∃ x∈o.new,nm=x.1++t
   ·obtain⟨x,hx,rfl⟩:=qc
    have cp:obj' (x.1++t)=some q:=hq
    rw[Cg x hx]at cp;cases cp
    rw[xT x hx]
    exact(fq.objs _ _ (h2 x hx)).ren Cl B1 (Kp x hx) fun _ _=>rfl
   ·have rK:∀ x∈o.new,nm≠x.1++t:=fun x hx e=>qc ⟨x,hx,e⟩
    have cp:obj' nm=some q:=hq
    rw[Cf nm fC rK]at cp
    rw[xS nm fC rK]
    refine(hC.objs nm q cp).ext Cm yq fun k2 k3=>?_
    obtain⟨k4,k5⟩:=i5 nm fC ⟨q,cp,k2,k3⟩
    exact fq.fr.block _ k4 k5
 ·intro b off v h
  rcases yj b off v h with h | ⟨oC,h⟩
  ·exact fq.mem b off v h
  ·have k2:=hC.mem b off v h
   rw[qw (fq.fr.block b (o6 k2) fun ⟨nm,_,k3,e⟩=>by
    have :=hC.apart nm k3 off;rw[e,h]at this;cases this)]
   exact k2
 ·intro nm hh off
  rcases tW nm hh with⟨x,k1,k2,_,_⟩ | ⟨k1,k2,k3,k4⟩
  ·rw[k2]
   cases hq:m' (φ2 x).blk off with
   |none=>rfl
   |some v=>
    rcases yj _ _ _ hq with h | ⟨_,h⟩
    ·have:=fq.apart x k1 off;rw[h]at this;cases this
    ·rcases ya x k1 with h' | ⟨jX,k5,k6,k7⟩
     ·have:=o6 (hC.mem _ _ _ h)
      have gu:w.heap.size<=(φ2 x).blk:=h'
      omega
     ·have:=hC.apart jX k6 off
      rw[k7,h]at this;cases this
  ·rw[k4]
   obtain⟨k5,k6⟩:=i5 nm k1 k3
   cases hq:m' (φ nm).blk off with
   |none=>rfl
   |some v=>
    rcases yj _ _ _ hq with h | ⟨_,h⟩
    ·rcases fq.fresh _ _ _ h with h' | h' | h'
     ·have:=hC.apart nm k3 off
      have gu:m (φ nm).blk off=some v:=h'
      rw[gu]at this;cases this
     ·have gu:w.heap.size<=(φ nm).blk:=h'
      omega
     ·exact(k6 h').elim
    ·have:=hC.apart nm k3 off;rw[h]at this;cases this
 ·intro nm jX hh Vk e
  rcases tW nm hh with⟨x,k1,k2,k3,k4⟩ | ⟨k1,k2,k3,k4⟩<;>rcases tW jX Vk with⟨x',j1,j2,j3,j4⟩ | ⟨j1,j2,j3,j4⟩
  ·rw[k2,j2]at e
   rw[k3,j3,fq.inj _ _ k1 j1 e]
  ·exfalso
   rw[k2,j4]at e
   obtain⟨k5,k6⟩:=i5 jX j1 j3
   rcases ya x k1 with h' | h'
   ·have gu:w.heap.size<=(φ2 x).blk:=h'
    omega
   ·rw[e]at h';exact k6 h'
  ·exfalso
   rw[k4,j2]at e
   obtain⟨k5,k6⟩:=i5 nm k1 k3
   rcases ya x' j1 with h' | h'
   ·have gu:w.heap.size<=(φ2 x').blk:=h'
    omega
   ·rw[<-e]at h';exact k6 h'
  ·rw[k4,j4]at e
   exact hC.inj _ _ k3 j3 e
 ·intro nm hh
  rcases tW nm hh with⟨x,k1,k2,_,_⟩ | ⟨k1,k2,k3,k4⟩
  ·rw[k2]
   rcases ya x k1 with h' | ⟨jX,k5,k6,k7⟩
   ·exact .inl (Nat.le_trans hC.fr.size h')
   ·rw[<-k7];exact hC.own jX k6
  ·rw[k4];exact hC.own nm k3
 ·refine⟨fq.fr.os.trans hC.fr.os,fq.fr.tape.trans hC.fr.tape,fq.fr.output.trans hC.fr.output,Nat.le_trans hC.fr.size fq.fr.size,fun b hb ho=>?_⟩
  rw[fq.fr.block b (Nat.lt_of_lt_of_le hb hC.fr.size) fun ⟨nm,_,k3,e⟩=>?_]
  ·exact hC.fr.block b hb ho
  ·rcases hC.own nm k3 with h | h<;>rw[e]at h
   ·omega
   ·exact ho h
 ·intro b off v h
  rcases yj b off v h with h | ⟨_,h⟩
  ·rcases fq.fresh _ _ _ h with h' | h' | ⟨nm,_,k3,e⟩
   ·exact hC.fresh _ _ _ h'
   ·exact .inr (.inl (Nat.le_trans hC.fr.size h'))
   ·rw[<-e];exact .inr (hC.own nm k3)
  ·exact hC.fresh _ _ _ h
 ·exact⟨hC.kept.1,hC.kept.2.trans yq⟩
end
def dC:Nat->List D->List (Nat×E)
 |_,[]=>[]
 |k,x::r=>(k,⟨true,x⟩)::dC (k+1) r
theorem M4:∀ {k:Nat} {xs:List D} {t:Nat} {e:E},(t,e)∈dC k xs->∃ (i:Nat) (h:i<xs.length),t=k+i/\e=⟨true,xs[i]⟩
 |k,[],t,e,h=>by simp[dC]at h
 |k,x::r,t,e,h=>by
  simp only[dC,List.mem_cons,Prod.mk.injEq]at h
  rcases h with⟨rfl,rfl⟩ | h
  ·exact⟨0,by simp,rfl,rfl⟩
  ·obtain⟨i,hi,h1,h2⟩:=M4 h
   exact⟨i+1,by simpa using hi,by omega,by simpa using h2⟩
structure CSpec where
 pre:List O->List D->Prop
 out:List O->List D->Out
def cJ(obj:Name->Option O)(ds:List D):List O:=(reach obj ds).map (cQ (reach obj ds) obj)
def db(obj:Name->Option O)(ds:List D):List D:=D.renL (cin (reach obj ds)) ds
def CSpec.toSpec(s:CSpec):Spec where
 app obj t ds:=⟨(shut obj (reach obj ds)&&D.closL (cW (reach obj ds)) ds&&fresh obj t (s.out (cJ obj ds) (db obj ds)).new)=true/\s.pre (cJ obj ds) (db obj ds),
  (s.out (cJ obj ds) (db obj ds)).d.ren (cout (reach obj ds) t),du (reach obj ds) t (s.out (cJ obj ds) (db obj ds)).new (cE (reach obj ds) t (s.out (cJ obj ds) (db obj ds)).upd obj)⟩
 foot obj t ds:=reach obj ds++((s.out (cJ obj ds) (db obj ds)).upd.map fun x=>(reach obj ds).getD x.1 [])++(s.out (cJ obj ds) (db obj ds)).new.map fun x=>x.1++t
 wrt obj t ds:=((s.out (cJ obj ds) (db obj ds)).upd.map fun x=>(reach obj ds).getD x.1 [])++(s.out (cJ obj ds) (db obj ds)).new.map fun x=>x.1++t
theorem s8{L:List Name}{t:Name}:∀ (l:List (Nat×O)) (obj obj2:Name->Option O) (nm:Name),cE L t l obj2 nm=if nm∈l.map (fun x=>L.getD x.1 [])then cE L t l obj nm else obj2 nm
 |[],obj,obj2,nm=>by simp[cE]
 |(i,o)::r,obj,obj2,nm=>by
  simp only[cE,List.map_cons,List.mem_cons]
  rw[s8 r (upd obj (L.getD i []) (some (o.ren (cout L t)))) (upd obj2 (L.getD i []) (some (o.ren (cout L t)))) nm]
  by_cases h:nm∈r.map (fun x=>L.getD x.1 [])
  ·rw[if_pos h,if_pos (.inr h)]
  ·rw[if_neg h]
   by_cases e:nm=L.getD i []
   ·rw[if_pos (.inl e)]
    have hu:cE L t r (upd obj (L.getD i []) (some (o.ren (cout L t)))) nm=(upd obj (L.getD i []) (some (o.ren (cout L t)))) nm:=by
     rw[s8 r obj _ nm,if_neg h]
    rw[hu,e,aS,aS]
   ·rw[if_neg (by simp only[not_or];exact⟨e,h⟩)]
    exact a8 _ _ _ e
theorem qS{L:List Name}{t:Name}:∀ (l:List (Name×O)) (obj obj2:Name->Option O) (nm:Name),du L t l obj2 nm=if nm∈l.map (fun x=>x.1++t)then du L t l obj nm else obj2 nm
 |[],obj,obj2,nm=>by simp[du]
 |(i,o)::r,obj,obj2,nm=>by
  simp only[du,List.map_cons,List.mem_cons]
  rw[qS r (upd obj (i++t) (some (o.ren (cout L t)))) (upd obj2 (i++t) (some (o.ren (cout L t)))) nm]
  by_cases h:nm∈r.map (fun x=>x.1++t)
  ·rw[if_pos h,if_pos (.inr h)]
  ·rw[if_neg h]
   by_cases e:nm=i++t
   ·rw[if_pos (.inl e)]
    have hu:du L t r (upd obj (i++t) (some (o.ren (cout L t)))) nm=(upd obj (i++t) (some (o.ren (cout L t)))) nm:=by
     rw[qS r obj _ nm,if_neg h]
    rw[hu,e,aS,aS]
   ·rw[if_neg (by simp only[not_or];exact⟨e,h⟩)]
    exact a8 _ _ _ e
theorem n3{obj obj2:Name->Option O}{ds:List D}(h:bQ (reach obj ds) obj obj2):reach obj2 ds=reach obj ds:=AO _ _ _ h
theorem wC{obj obj2:Name->Option O}{ds:List D}(h:bQ (reach obj ds) obj obj2):cJ obj2 ds=cJ obj ds:=by
 unfold cJ
 rw[n3 h]
 exact List.map_congr_left fun nm hn=>by simp only[cQ];rw[h nm hn]
theorem DX{obj obj2:Name->Option O}{ds:List D}(h:bQ (reach obj ds) obj obj2):db obj2 ds=db obj ds:=by
 unfold db
 rw[n3 h]
theorem Al{obj obj2:Name->Option O}{L:List Name}(h:bQ L obj obj2):shut obj2 L=shut obj L:=by
 unfold shut
 refine Bool.eq_iff_iff.2 ?_
 simp only[List.all_eq_true]
 exact⟨fun k x hx=>by rw[<-h x hx];exact k x hx,fun k x hx=>by rw[h x hx];exact k x hx⟩
theorem yL{obj obj2:Name->Option O}{t:Name}{new:List (Name×O)}(h:bQ (new.map fun x=>x.1++t) obj obj2):fresh obj2 t new=fresh obj t new:=by
 unfold fresh
 refine Bool.eq_iff_iff.2 ?_
 simp only[List.all_eq_true]
 exact⟨fun k x hx=>by rw[<-h _ (List.mem_map_of_mem hx)];exact k x hx,fun k x hx=>by rw[h _ (List.mem_map_of_mem hx)];exact k x hx⟩
theorem Bv{ok ok2:Prop}{d:D}{obj obj2:Name->Option O}{L:List Name}{t:Name}{o:Out}(aa:ok2=ok)
 (ha:bQ ((o.upd.map fun x=>L.getD x.1 [])++o.new.map fun x=>x.1++t) obj obj2):
 bT ⟨ok,d,du L t o.new (cE L t o.upd obj)⟩ ⟨ok2,d,du L t o.new (cE L t o.upd obj2)⟩ obj obj2 ((o.upd.map fun x=>L.getD x.1 [])++o.new.map fun x=>x.1++t):=by
 refine⟨aa,rfl,fun nm=>?_,fun nm hn=>?_⟩
 ·show du L t o.new (cE L t o.upd obj2) nm=if nm∈_ then du L t o.new (cE L t o.upd obj) nm else obj2 nm
  rw[qS o.new (cE L t o.upd obj) (cE L t o.upd obj2) nm]
  by_cases h1:nm∈o.new.map (fun x=>x.1++t)
  ·rw[if_pos h1,if_pos (List.mem_append_right _ h1)]
  ·rw[if_neg h1,s8 o.upd obj obj2 nm]
   by_cases h2:nm∈o.upd.map (fun x=>L.getD x.1 [])
   ·rw[if_pos h2,if_pos (List.mem_append_left _ h2)]
    rw[qS o.new obj (cE L t o.upd obj) nm,if_neg h1]
   ·rw[if_neg h2,if_neg (by simp only[List.mem_append,not_or];exact⟨h2,h1⟩)]
 ·show du L t o.new (cE L t o.upd obj) nm=obj nm
  simp only[List.mem_append,not_or]at hn
  rw[qS o.new obj (cE L t o.upd obj) nm,if_neg hn.2,s8 o.upd obj obj nm,if_neg hn.1]
theorem CSpec.near(s:CSpec):s.toSpec.Near:=by
 have key:∀ {obj obj2:Name->Option O} {t:Name} {ds:List D},bQ (s.toSpec.foot obj t ds) obj obj2->bQ (reach obj ds) obj obj2/\
     bQ (((s.out (cJ obj ds) (db obj ds)).upd.map fun x=>(reach obj ds).getD x.1 [])++(s.out (cJ obj ds) (db obj ds)).new.map fun x=>x.1++t) obj obj2:=by
  intro obj obj2 t ds h
  refine⟨fun nm hn=>h nm ?_,fun nm hn=>h nm ?_⟩
  ·exact List.mem_append_left _ (List.mem_append_left _ hn)
  ·rcases List.mem_append.1 hn with hn | hn
   ·exact List.mem_append_left _ (List.mem_append_right _ hn)
   ·exact List.mem_append_right _ hn
 refine⟨fun obj obj2 t ds h=>?_,fun obj obj2 t ds h=>?_,fun obj t ds nm hn=>?_,fun obj obj2 t ds h=>?_⟩
 ·obtain⟨h1,h2⟩:=key h
  simp only[CSpec.toSpec]
  rw[wC h1,DX h1,n3 h1]
  refine Bv ?_ h2
  rw[Al h1,yL fun nm hn=>h2 nm (List.mem_append_right _ hn)]
 ·obtain⟨h1,h2⟩:=key h
  simp only[CSpec.toSpec]
  rw[wC h1,DX h1,n3 h1]
 ·simp only[CSpec.toSpec]at hn |-
  rcases List.mem_append.1 hn with hn | hn
  ·exact List.mem_append_left _ (List.mem_append_right _ hn)
  ·exact List.mem_append_right _ hn
 ·obtain⟨h1,h2⟩:=key h
  simp only[CSpec.toSpec]
  rw[wC h1,DX h1,n3 h1]
def qX(σ:S)(u:List (Nat×O)):Nat->List O->Prop
 |_,[]=>True
 |i,o::r=>σ.obj [i,1]=some (eN u i o)/\qX σ u (i+1) r
theorem Hp{σ:S}{u:List (Nat×O)}:∀ {l:List O} {k:Nat},qX σ u k l->∀ i (h:i<l.length),σ.obj [k+i,1]=some (eN u (k+i) l[i])
 |o::r,k,h,0,_=>h.1
 |o::r,k,h,i+1,hi=>by
  have :=Hp h.2 i (by simpa using hi)
  rw[show k+(i+1)=k+1+i by omega]
  simpa using this
def vo(σ:S):List (Name×O)->Prop
 |[]=>True
 |x::r=>σ.obj x.1=some x.2/\vo σ r
theorem Hz{σ:S}:∀ {l:List (Name×O)},vo σ l->∀ x∈l,σ.obj x.1=some x.2
 |y::r,h,x,hx=>by
  rcases List.mem_cons.1 hx with rfl | hx
  ·exact h.1
  ·exact Hz h.2 x hx
def distinct:List Name->Bool
 |[]=>true
 |x::r=>(r.all fun y=>!(x==y))&&distinct r
theorem LW:∀ {l:List Name},distinct l=true->l.Nodup
 |[],_=>by simp
 |x::r,h=>by
  simp only[distinct,Bool.and_eq_true]at h
  refine List.nodup_cons.2 ⟨fun hx=>?_,LW h.2⟩
  have :=List.all_eq_true.1 h.1 x hx
  simp at this
def gv(os:List O)(o:Out)(σ:S):Prop:=
 qX σ o.upd 0 os/\vo σ o.new/\
  (D.clos (di os.length o.new) o.d&&(o.upd.all fun x=>O.clos (di os.length o.new) x.2&&decide (x.1<os.length))&&(o.new.all fun x=>O.clos (di os.length o.new) x.2&&!cZ x.1)&&distinct (o.new.map (·.1)))=true
theorem LQ{os:List O}{o:Out}{σ:S}(h:gv os o σ):NS σ os o:=by
 obtain⟨h1,h2,h3⟩:=h
 simp only[Bool.and_eq_true]at h3
 exact⟨fun i hi=>by simpa using Hp h1 i hi,Hz h2,h3.1.1.1,h3.1.1.2,by simpa using h3.1.2,LW h3.2⟩
def vh(P:Program)(rs:List ResultVar)(os:List O)(o:Out):Exit->S->Prop
 | .normal,σ=>(bW P σ rs).ok/\(bW P σ rs).d=o.d/\gv os o σ
 | .ret,σ=>(bW P σ rs).ok/\(bW P σ rs).d=o.d/\gv os o σ
 |_,_=>False
def a7(os:List O):Name->Option O
 |[i,1]=>os[i]?
 |_=>none
theorem Rt{L:List Name}{obj:Name->Option O}{x:Name}(h:cZ x=false):jr L obj x=none:=by
 unfold jr
 split
 ·simp[cZ]at h
 ·rfl
theorem xv{os:List O}{x:Name}(h:cZ x=false):a7 os x=none:=by
 unfold a7
 split
 ·simp[cZ]at h
 ·rfl
theorem xA{L:List Name}{obj:Name->Option O}:jr L obj=a7 (L.map (cQ L obj)):=by
 funext x
 cases hx:cZ x with
 |false=>rw[Rt hx,xv hx]
 |true=>
  obtain⟨i,rfl⟩:=vB.1 hx
  show (if i<L.length then some (cQ L obj (L.getD i []))else none)=(L.map (cQ L obj))[i]?
  by_cases hi:i<L.length
  ·rw[if_pos hi,List.getElem?_eq_getElem (by simpa using hi)]
   rw[kS hi,List.getElem_map]
  ·rw[if_neg hi,List.getElem?_eq_none (by simpa using hi)]
theorem Bl{nt:Nat}{l:List (Nat×E)}{os:List O}:bh nt [0] (a7 os) l []=⟨nt,dK eAny l,a7 os,[0],0⟩:=by
 unfold bh
 congr 1
 funext nm
 split
 ·rename_i h
  have :cZ nm=false:=by
   cases hc:cZ nm with
   |false=>rfl
   |true=>
    obtain⟨i,rfl⟩:=vB.1 hc
    rw[G4]at h;cases h
  unfold a7
  split
  ·simp[cZ]at this
  ·rfl
 ·rfl
theorem oZ{P:Program}{f:FuncId}{fn:Func}{c:Code}{s:CSpec}{nt:Nat}{rs:List ResultVar}(hf:P.funcs[f]?=some fn)(hb:fn.body=some c)(cT:fn.ntmps=nt)(ca:fn.results.toList=rs)
 (mF:∀ args w,(callFunc f args).run P w=.ok (.enter f args) w) (aE:f≠yid)
 (h:∀ os ds,s.pre os ds->ds.length<=nt/\CW P c (bh nt [0] (a7 os) (dC 0 ds) []) (vh P rs os (s.out os ds))):aR P f s.toSpec:=by
 subst cT
 subst ca
 refine⟨s.near,fun _=>mF,fun _ G φ m σ a w hC t ds us _ hl hr aa=>?_,fun e=>(aE e).elim⟩
 obtain⟨aa,dZ⟩:=aa
 simp only[Bool.and_eq_true]at aa
 obtain⟨⟨jx,cw⟩,cP⟩:=aa
 obtain⟨hlen,mG⟩:=h _ _ dZ
 have cq:(reach σ.obj ds).Nodup:=xo _ _ _ (by simp)
 simp only[db,jV,List.length_map]at hlen
 refine(callsIn_wide (n:=0)).1 (callsIn_of_wp_marks hf hb trivial ?_)
 have lD:=Lm hC (L:=reach σ.obj ds) cq jx (rd:=none) (fun l h=>by cases h) (b0:=0) (nt:=fn.ntmps) (env:=dK eAny (dC 0 (db σ.obj ds)))
  (tmps:=us++Array.replicate (fn.ntmps-us.size) undef) (by simp;omega) (fun t=>by
    rcases tj (z:=eAny) (dC 0 (db σ.obj ds)) t with h1 | h1
    ·rw[h1];unfold cv eAny;simp;exact .any _
    ·obtain⟨i,hi,h2,h3⟩:=M4 h1
     rw[h3]
     unfold cv
     simp only[if_true]
     simp only[db,jV,List.length_map]at hi
     have bM:i<us.size:=by omega
     have e:((us++Array.replicate (fn.ntmps-us.size) undef).getD t undef)=us[i]:=by
      have an:0+i<(us++Array.replicate (fn.ntmps-us.size) undef).size:=by simp;omega
      rw[h2]
      simp only[Array.getD,an,dite_true]
      show (us++Array.replicate (fn.ntmps-us.size) undef)[0+i]=us[i]
      simp only[Nat.zero_add]
      exact Array.getElem_append_left bM
     rw[e]
     simp only[db,jV,List.getElem_map]
     exact(hr i hi bM).renx (Mem.le_refl m) xn (iM hi cw))
 rw[Bl]at mG
 rw[xA]at lD
 refine wpIn_mono (mG _ _ m _ w lD) ?_
 rintro e a1 w1 ⟨φ2,m2,σ2,fN,hK⟩
 have fin:(bW P σ2 fn.results.toList).ok/\(bW P σ2 fn.results.toList).d=(s.out (cJ σ.obj ds) (db σ.obj ds)).d/\gv (cJ σ.obj ds) (s.out (cJ σ.obj ds) (db σ.obj ds)) σ2->
     LeavesInM Fence.wide 0 P fn a1.tmps (fun e w'=>∃ v φ' m',e=.returned v/\aP G φ' m' { σ with obj:=(s.toSpec.app σ.obj t ds).obj } a w'/\aD φ' (s.toSpec.app σ.obj t ds).obj m' (s.toSpec.app σ.obj t ds).d v/\Ext φ φ' σ.obj (s.toSpec.app σ.obj t ds).obj) a1.defers .returning w1:=by
  rintro⟨h1,h2,h3⟩
  refine Bx a1.defers rfl fN fun a' w' _ cz=>?_
  obtain⟨v,h4,h5⟩:=Gf cz fn h1
  rw[h2]at h5
  have hE:=LQ h3
  obtain⟨φ',m',k1,k2,k3,k4⟩:=Ll hC cq jx cz hE cP
  have tV:=hE.cd
  simp only[cJ,List.length_map]at tV
  exact⟨v,h4,v,φ',m',rfl,k2,k4 _ _ h5 tV,k3⟩
 cases e with
 |normal=>exact fin hK
 |ret=>exact fin hK
 |_=>exact hK.elim
theorem bT.more{ok ok2:Prop}{d d2:D}{o1 o2 obj obj2:Name->Option O}{wr:List Name}(nm:Name)(x:Option O)(h:bT ⟨ok,d,o1⟩ ⟨ok2,d2,o2⟩ obj obj2 wr):
 bT ⟨ok,d,upd o1 nm x⟩ ⟨ok2,d2,upd o2 nm x⟩ obj obj2 (nm::wr):=by
 refine⟨h.ok,h.d,fun y=>?_,fun y hy=>?_⟩
 ·show upd o2 nm x y=if y∈nm::wr then upd o1 nm x y else obj2 y
  by_cases e:y=nm
  ·subst e;rw[aS,if_pos (by simp),aS]
  ·rw[a8 _ _ _ e,a8 _ _ _ e]
   have :=h.eff y
   simp only at this
   rw[this]
   by_cases hy:y∈wr
   ·rw[if_pos hy,if_pos (List.mem_cons_of_mem _ hy)]
   ·rw[if_neg hy,if_neg (by simp[e,hy])]
 ·simp only[List.mem_cons,not_or]at hy
  show upd o1 nm x y=obj y
  rw[a8 _ _ _ hy.1]
  exact h.frame y hy.2
structure YSpec where
 pre:List E->List Nat->Code->Code->List O->List D->Prop
 out:List E->List Nat->Code->Code->List O->List D->Out×Option Code
def roots(env:List E)(ds:List D):List D:=env.map (·.d)++ds
def hU(obj:Name->Option O)(env:List E)(ds:List D):List E:=env.map (E.ren (cin (reach obj (roots env ds))))
def jj(obj:Name->Option O)(env:List E)(ds:List D):List D:=D.renL (cin (reach obj (roots env ds))) ds
def YSpec.o(y:YSpec)(obj:Name->Option O)(env:List E)(ps:List Nat)(asg body:Code)(ds:List D):Out×Option Code:=
 y.out (hU obj env ds) ps asg body (cJ obj (roots env ds)) (jj obj env ds)
def YSpec.toSpec(y:YSpec):Spec where
 app obj t args:=match args with
  | .yld nm::ds=>match obj nm with
    |some (.loop env ps asg body .ready none)=>
     ⟨(shut obj (reach obj (roots env ds))&&D.closL (cW (reach obj (roots env ds))) (roots env ds)&&fresh obj t (y.o obj env ps asg body ds).1.new&&!cW (reach obj (roots env ds)) nm&&
         decide (ds.length=ps.length)&&(ps.all fun p=>decide (p<env.length)))=true/\y.pre (hU obj env ds) ps asg body (cJ obj (roots env ds)) (jj obj env ds),
       .v (.bool (y.o obj env ps asg body ds).2.isNone),
       upd (du (reach obj (roots env ds)) t (y.o obj env ps asg body ds).1.new (cE (reach obj (roots env ds)) t (y.o obj env ps asg body ds).1.upd obj)) nm
        (some (.loop env ps asg body (if (y.o obj env ps asg body ds).2.isNone then .ready else .done) (y.o obj env ps asg body ds).2))⟩
    |_=>.bad obj
  |_=>.bad obj
 foot obj t args:=match args with
  | .yld nm::ds=>nm::(match obj nm with
    |some (.loop env ps asg body .ready none)=>reach obj (roots env ds)++((y.o obj env ps asg body ds).1.upd.map fun x=>(reach obj (roots env ds)).getD x.1 [])++(y.o obj env ps asg body ds).1.new.map fun x=>x.1++t
    |_=>[])
  |_=>[]
 wrt obj t args:=match args with
  | .yld nm::ds=>nm::(match obj nm with
    |some (.loop env ps asg body .ready none)=>((y.o obj env ps asg body ds).1.upd.map fun x=>(reach obj (roots env ds)).getD x.1 [])++(y.o obj env ps asg body ds).1.new.map fun x=>x.1++t
    |_=>[])
  |_=>[]
theorem YSpec.near(y:YSpec):y.toSpec.Near:=by
 have Ba:∀ {obj obj2:Name->Option O} {env:List E} {ps:List Nat} {asg body:Code} {ds:List D},bQ (reach obj (roots env ds)) obj obj2->
     y.o obj2 env ps asg body ds=y.o obj env ps asg body ds/\hU obj2 env ds=hU obj env ds/\jj obj2 env ds=jj obj env ds:=by
  intro obj obj2 env ps asg body ds h
  unfold YSpec.o hU jj
  rw[wC h,n3 h]
  exact⟨rfl,rfl,rfl⟩
 have split:∀ {A B C:List Name} {obj obj2:Name->Option O} {nm:Name},bQ (nm::(A++B++C)) obj obj2->bQ A obj obj2/\bQ (B++C) obj obj2:=by
  intro A B C obj obj2 nm h
  refine⟨fun x hx=>h x ?_,fun x hx=>h x ?_⟩
  ·exact List.mem_cons_of_mem _ (List.mem_append_left _ (List.mem_append_left _ hx))
  ·rcases List.mem_append.1 hx with hx | hx
   ·exact List.mem_cons_of_mem _ (List.mem_append_left _ (List.mem_append_right _ hx))
   ·exact List.mem_cons_of_mem _ (List.mem_append_right _ hx)
 have zh:∀ (args:List D),(∃ nm ds,args=.yld nm::ds)\/(∀ obj t,y.toSpec.app obj t args=.bad obj/\y.toSpec.foot obj t args=[]/\y.toSpec.wrt obj t args=[]):=by
  intro args
  rcases args with _ | ⟨d,ds⟩
  ·exact .inr fun _ _=>⟨rfl,rfl,rfl⟩
  ·cases d with
   |yld nm=>exact .inl ⟨nm,ds,rfl⟩
   |_=>exact .inr fun _ _=>⟨rfl,rfl,rfl⟩
 refine⟨fun obj obj2 t args h=>?_,fun obj obj2 t args h=>?_,fun obj t args jX hn=>?_,fun obj obj2 t args h=>?_⟩
 ·rcases zh args with⟨nm,ds,rfl⟩ | hb
  ·simp only[YSpec.toSpec]at h |-
   have h0:obj2 nm=obj nm:=h nm (by simp)
   rw[h0]
   split
   ·rename_i env ps asg body ho
    simp only[ho]at h
    obtain⟨h1,h2⟩:=split h
    obtain⟨e1,e2,e3⟩:=Ba (ps:=ps) (asg:=asg) (body:=body) h1
    rw[e1,e2,e3,wC h1,n3 h1]
    refine bT.more nm _ (Bv ?_ h2)
    rw[Al h1,yL fun nm hn=>h2 nm (List.mem_append_right _ hn)]
   ·exact .none _ fun x hx=>by simp only[List.mem_singleton]at hx;subst hx;exact h0
  ·rw[(hb obj t).1,(hb obj2 t).1,(hb obj t).2.2]
   exact .same rfl rfl rfl rfl
 ·rcases zh args with⟨nm,ds,rfl⟩ | hb
  ·simp only[YSpec.toSpec]at h |-
   have h0:obj2 nm=obj nm:=h nm (by simp)
   rw[h0]
   split
   ·rename_i env ps asg body ho
    simp only[ho]at h
    obtain⟨h1,h2⟩:=split h
    obtain⟨e1,e2,e3⟩:=Ba (ps:=ps) (asg:=asg) (body:=body) h1
    rw[e1,n3 h1]
   ·rfl
  ·rw[(hb obj t).2.1,(hb obj2 t).2.1]
 ·rcases zh args with⟨nm,ds,rfl⟩ | hb
  ·simp only[YSpec.toSpec]at hn |-
   rcases List.mem_cons.1 hn with rfl | hn
   ·simp
   ·refine List.mem_cons_of_mem _ ?_
    split at hn
    ·rename_i env ps asg body ho
     try simp only[ho]
     rcases List.mem_append.1 hn with hn | hn
     ·exact List.mem_append_left _ (List.mem_append_right _ hn)
     ·exact List.mem_append_right _ hn
    ·cases hn
  ·rw[(hb obj t).2.2]at hn;cases hn
 ·rcases zh args with⟨nm,ds,rfl⟩ | hb
  ·simp only[YSpec.toSpec]at h |-
   have h0:obj2 nm=obj nm:=h nm (by simp)
   rw[h0]
   split
   ·rename_i env ps asg body ho
    simp only[ho]at h
    obtain⟨h1,h2⟩:=split h
    obtain⟨e1,e2,e3⟩:=Ba (ps:=ps) (asg:=asg) (body:=body) h1
    rw[e1,n3 h1]
   ·rfl
  ·rw[(hb obj t).2.2,(hb obj2 t).2.2]
def sc(env:List E):Nat->E:=fun t=>env.getD t eAny
def pA:(Nat->E)->List Nat->List D->(Nat->E)
 |f,p::ps,d::ds=>pA (upd f p ⟨true,d⟩) ps ds
 |f,_,_=>f
def G7(k:S->Prop):Exit->S->Prop
 | .normal,σ=>k σ
 |_,_=>False
def QL(os:List O)(o:Out×Option Code):Exit->S->Prop
 | .normal,σ=>o.2=none/\gv os o.1 σ
 | .ret,σ=>o.2=some .ret/\gv os o.1 σ
 | .exit id,σ=>o.2=some (.exit id)/\gv os o.1 σ
 |_,_=>False
theorem FE{φ:Name->Loc}{obj:Name->Option O}{m:Mem}{n:Nat}:∀ (ps:List Nat) (ds:List D) (us:List Value) (f:Nat->E) (tmps:Array Value),tmps.size=n->ps.length=ds.length->ds.length=us.length->
 (∀ p∈ps,p<n)->(∀ t,cv φ obj m (f t) (tmps.getD t undef))->(∀ i (h:i<ds.length) (h':i<us.length),aD φ obj m ds[i] us[i])->
 (∀ t,cv φ obj m (pA f ps ds t) (((ps.zip us).foldl (fun tmps (p:Nat×Value)=>tmps.setIfInBounds p.1 p.2) tmps).getD t undef))/\((ps.zip us).foldl (fun tmps (p:Nat×Value)=>tmps.setIfInBounds p.1 p.2) tmps).size=n
 |[],ds,us,f,tmps,hs,h1,h2,hp,hf,hr=>by
  have :ds=[]:=List.eq_nil_of_length_eq_zero (by simpa using h1.symm)
  subst this
  exact⟨hf,hs⟩
 |p::ps,[],us,f,tmps,hs,h1,h2,hp,hf,hr=>by simp at h1
 |p::ps,d::ds,[],f,tmps,hs,h1,h2,hp,hf,hr=>by simp at h2
 |p::ps,d::ds,u::us,f,tmps,hs,h1,h2,hp,hf,hr=>by
  simp only[List.zip_cons_cons,List.foldl_cons,pA]
  refine FE ps ds us _ _ (by simpa using hs) (by simpa using h1) (by simpa using h2) (fun q hq=>hp q (by simp[hq])) (fun t=>?_) fun i a b=>by
   have :=hr (i+1) (by simpa using a) (by simpa using b)
   simpa using this
  have ab:p<tmps.size:=by rw[hs];exact hp p (by simp)
  by_cases ht:t=p
  ·subst ht
   rw[aS]
   have e:(tmps.setIfInBounds t u).getD t undef=u:=by simp[Array.getD,ab]
   rw[e]
   unfold cv
   simp only[if_true]
   exact hr 0 (by simp) (by simp)
  ·rw[a8 _ _ _ ht]
   have e:(tmps.setIfInBounds p u).getD t undef=tmps.getD t undef:=by
    simp only[Array.getD_eq_getD_getElem?]
    rw[Array.getElem?_setIfInBounds_ne (fun h=>ht h.symm)]
   rw[e];exact hf t
theorem Mh{wa wb:World}{m:Mem}{L:List Name}{φ:Name->Loc}{obj:Name->Option O}{l:Nat}{h h'}{φ1:Name->Loc}{m1:Mem}{σ1:S}{a1:Act}{w1 w2:World}
 (hC:aP (r9 wa m L φ obj (some l) h) φ1 m1 σ1 a1 w1) (dF:wb.heap.size=wa.heap.size/\w2.heap.size=w1.heap.size) (ho:wb.os=w2.os/\wb.tape=w2.tape/\wb.output=w2.output)
 (hb:∀ b,b≠l->wb.heap[b]?=wa.heap[b]?) (h2:∀ b,b≠l->w2.heap[b]?=w1.heap[b]?) (hl:wb.heap[l]?=w2.heap[l]?):aP (r9 wb m L φ obj (some l) h') φ1 m1 σ1 a1 w2:=by
 obtain⟨Kn,r,hr⟩:=h l rfl
 have ab:l<wa.heap.size:=(Array.getElem?_eq_some_iff.1 hr).1
 have dm:w1.heap[l]?=some (.loop r):=(hC.fr.block l ab Kn).trans hr
 constructor
 ·exact hC.tmps
 ·exact hC.size
 ·obtain⟨ds,k1,k2,k3⟩:=hC.defers
  refine⟨ds,k1,k2,fun D hD=>?_⟩
  obtain⟨k4,k5⟩:=k3 D hD
  have aE:D≠l:=fun e=>by subst e;rw[dm]at k5;cases k5
  exact⟨by show wb.heap.size<=D;rw[dF.1];exact k4,(h2 D aE).trans k5⟩
 ·intro nm o gm
  refine(hC.objs nm o gm).ext (Mem.le_refl _) (Ext.refl _ _) fun k1 k2=>h2 _ fun e=>?_
  rcases hC.own nm ⟨o,gm,k1,k2⟩with h3 | h3
  ·have h4:wa.heap.size<=(φ1 nm).blk:=h3
   omega
  ·rw[e]at h3;exact Kn h3
 ·intro b off v hv
  have h3:=hC.mem b off v hv
  rw[qw (h2 b (fun e=>by subst e;unfold World.cell? at h3;simp[dm]at h3))]
  exact h3
 ·exact hC.apart
 ·exact hC.inj
 ·intro nm hh
  rcases hC.own nm hh with h3 | h3
  ·exact .inl (by show wb.heap.size<=_;rw[dF.1];exact h3)
  ·exact .inr h3
 ·refine⟨ho.1.symm,ho.2.1.symm,ho.2.2.symm,by show wb.heap.size<=_;rw[dF.1,dF.2];exact hC.fr.size,fun b h3 h4=>?_⟩
  show w2.heap[b]?=wb.heap[b]?
  by_cases e:b=l
  ·subst e;exact hl.symm
  ·rw[h2 b e,hb b e]
   exact hC.fr.block b (by have:b<wb.heap.size:=h3;show b<wa.heap.size;omega) h4
 ·intro b off v hv
  rcases hC.fresh b off v hv with h3 | h3 | h3
  ·exact .inl h3
  ·exact .inr (.inl (by show wb.heap.size<=_;rw[dF.1];exact h3))
  ·exact .inr (.inr h3)
 ·exact hC.kept
theorem Mt{L:List Name}{obj:Name->Option O}{nm:Name}{x:Option O}(h:nm∉L){y:Name}(hy:y∈L):cQ L (upd obj nm x) y=cQ L obj y:=by
 unfold cQ
 rw[a8 _ _ _ (by rintro rfl;exact h hy)]
theorem Rs{L:List Name}{obj:Name->Option O}{nm:Name}{x:Option O}(h:nm∉L):jr L (upd obj nm x)=jr L obj:=by
 rw[xA,xA]
 congr 1
 exact List.map_congr_left fun y hy=>Mt h hy
theorem KJ{L:List Name}{φ:Name->Loc}{obj:Name->Option O}{nm:Name}{x:Option O}(h:nm∉L):pg L φ (upd obj nm x)=pg L φ obj:=by
 funext b
 refine propext ⟨fun ⟨y,h1,⟨o,h2,h3⟩,h4⟩=>?_,fun ⟨y,h1,⟨o,h2,h3⟩,h4⟩=>?_⟩
 ·rw[a8 _ _ _ (by rintro rfl;exact h h1)]at h2
  exact⟨y,h1,⟨o,h2,h3⟩,h4⟩
 ·exact⟨y,h1,⟨o,by rw[a8 _ _ _ (by rintro rfl;exact h h1)];exact h2,h3⟩,h4⟩
theorem WL{w:World}{m:Mem}{L:List Name}{φ:Name->Loc}{obj:Name->Option O}{nm:Name}{x:Option O}{rd:Option Nat}(h:nm∉L){h1}{h2}:r9 w m L φ (upd obj nm x) rd h1=r9 w m L φ obj rd h2:=by
 unfold r9
 simp only[Rs h,KJ h]
theorem ER{P:Program}{y:YSpec}(h:∀ env ps asg body os ds,y.pre env ps asg body os ds->ds.length=ps.length->
 CW P asg ⟨env.length,pA (sc env) ps ds,a7 os,[0],0⟩ (G7 fun σ1=>CW P body σ1 (QL os (y.out env ps asg body os ds)))):aR P yid y.toSpec:=by
 refine⟨y.near,fun e=>(e rfl).elim,fun e=>(e rfl).elim,fun _ G φ m σ a w hC t nm ds us _ hl hr _ aa o Vv=>?_⟩
 simp only[YSpec.toSpec]at aa |-
 split at aa
 case h_2=>exact aa.elim
 rename_i env ps asg body aA
 try simp only[aA]
 obtain⟨aa,dZ⟩:=aa
 simp only[Bool.and_eq_true,Bool.not_eq_true',decide_eq_true_eq]at aa
 obtain⟨⟨⟨⟨⟨jx,cw⟩,cP⟩,Kq⟩,hlen⟩,gl⟩:=aa
 have fC:nm∉reach σ.obj (roots env ds):=fun h=>by rw[gS.2 h]at Kq;cases Kq
 have cq:(reach σ.obj (roots env ds)).Nodup:=xo _ _ _ (by simp)
 obtain⟨_,dz,r,dm,fB,UJ,B3,Kc,Kb,Ka,J'⟩:=hC.objs nm _ aA
 have ab:(φ nm).blk<w.heap.size:=(Array.getElem?_eq_some_iff.1 dm).1
 have rP:¬ pg (reach σ.obj (roots env ds)) φ σ.obj (φ nm).blk:=fun ⟨x,k1,k2,k3⟩=>fC (hC.inj _ _ k2 ⟨_,aA,rfl,dz⟩ k3▸k1)
 have fW:r.params.size=ps.length:=by rw[<-B3];simp
 intro next Q rI
 rw[Vv,run_yield dm (by omega),Oper.uponIn_round]
 refine⟨fun h=>(by simp[fF,Fence.wide]at h),?_⟩
 rw[Kc,Kb]
 refine roundIn_of_wpIn trivial ?_
 have ad7:=cw
 have VM:∀ i (h:i<env.length),D.clos (cW (reach σ.obj (roots env ds))) env[i].d=true:=fun i hi=>by
  have :=iM (l:=roots env ds) (i:=i) (by simp[roots];omega) cw
  simp only[roots]at this |-
  rw[List.getElem_append_left (by simpa using hi)]at this
  simpa using this
 have KO:∀ i (h:i<ds.length),D.clos (cW (reach σ.obj (roots env ds))) ds[i]=true:=fun i hi=>by
  have :=iM (l:=roots env ds) (i:=env.length+i) (by simp[roots];omega) cw
  simp only[roots]at this |-
  rw[List.getElem_append_right (by simp)]at this
  simpa using this
 obtain⟨q1,q2⟩:=FE (φ:=lZ (reach σ.obj (roots env ds)) φ) (obj:=jr (reach σ.obj (roots env ds)) σ.obj) (m:=m) (n:=env.length) ps (jj σ.obj env ds) us.toList (sc (hU σ.obj env ds)) r.tmps Ka
  (by simp[jj,jV];omega) (by simp[jj,jV];omega) (fun p hp=>by have:=List.all_eq_true.1 gl p hp;simpa using this)
  (fun t=>by
    unfold sc
    by_cases ht:t<env.length
    ·have:=(J' t ht).renx (Mem.le_refl m) xn (VM t ht)
     have e:(hU σ.obj env ds).getD t eAny=E.ren (cin (reach σ.obj (roots env ds))) env[t]:=by
      rw[List.getD_eq_getElem?_getD,List.getElem?_eq_getElem (by simpa[hU]using ht)];simp[hU]
     rw[e];exact this
    ·have e:(hU σ.obj env ds).getD t eAny=eAny:=by
       rw[List.getD_eq_getElem?_getD,List.getElem?_eq_none (by simp[hU];omega)];rfl
     rw[e];unfold cv eAny;simp;exact .any _)
  (fun i a b=>by
    simp only[jj,jV,List.length_map]at a
    have :=(hr i a (by simpa using b)).renx (Mem.le_refl m) xn (KO i a)
    simpa[jj,jV]using this)
 have lD:=Lm hC (L:=reach σ.obj (roots env ds)) cq jx (rd:=some (φ nm).blk) (fun l e=>by cases e;exact⟨rP,r,dm⟩) (b0:=0) (nt:=env.length) q2 q1
 have mG:=h _ _ _ _ _ _ dZ (by simp[jj,jV];omega)
 have Vq:(r.params.zip us).foldl (fun tmps (p:Nat×Value)=>tmps.setIfInBounds p.1 p.2) r.tmps=(ps.zip us.toList).foldl (fun tmps (p:Nat×Value)=>tmps.setIfInBounds p.1 p.2) r.tmps:=by
  rw[<-B3,<-Array.toList_zip,Array.foldl_toList]
 have oJ:(hU σ.obj env ds).length=env.length:=by simp[hU]
 rw[oJ]at mG
 rw[xA]at lD
 have Vp:(r.params.zip us).foldl (fun tmps (x:Tmp×Value)=>match x with | (t,a)=>tmps.setIfInBounds t a) r.tmps=(ps.zip us.toList).foldl (fun tmps (p:Nat×Value)=>tmps.setIfInBounds p.1 p.2) r.tmps:=Vq
 rw[Vp]
 refine wpIn_mono (mG _ _ m _ w lD) ?_
 rintro e a1 w1 ⟨φ1,m1,σ1,fN,hK⟩
 cases e with
 |normal=>
  have Kd:w1.heap[(φ nm).blk]?=some (.loop r):=(fN.fr.block _ ab rP).trans dm
  have ay:=(Array.getElem?_eq_some_iff.1 Kd).1
  refine⟨_,run_beginRound Kd fB,?_⟩
  have eZ:w1.os=w.os/\w1.tape=w.tape/\w1.output=w.output:=⟨fN.fr.os,fN.fr.tape,fN.fr.output⟩
  have fq:=Mh (wb:=w.putObj (φ nm).blk (.loop { r with state:=.busy })) (w2:=w1.putObj (φ nm).blk (.loop { r with state:=.busy }))
   (h':=fun l e=>by cases e;exact⟨rP,_,World.putObj_heap_same ab⟩) fN ⟨by simp,by simp⟩ ⟨eZ.1.symm,eZ.2.1.symm,eZ.2.2.symm⟩
   (fun b hb=>World.putObj_heap_other hb) (fun b hb=>World.putObj_heap_other hb) (by rw[World.putObj_heap_same ab,World.putObj_heap_same ay])
  refine wpIn_mono (hK _ _ m1 _ _ fq) ?_
  rintro e a3 w3 ⟨φ3,m3,σ3,rX,oO⟩
  have B4:w3.heap[(φ nm).blk]?=some (.loop { r with state:=.busy }):=(rX.fr.block _ (by show _<(w.putObj _ _).heap.size;simpa using ab) rP).trans (World.putObj_heap_same ab)
  have dN:=(Array.getElem?_eq_some_iff.1 B4).1
  have fin:∀ bG:Option Code,(y.o σ.obj env ps asg body ds).2=bG->gv (cJ σ.obj (roots env ds)) (y.o σ.obj env ps asg body ds).1 σ3->
      ∃ v w',(Instr.endRound (φ nm).blk bG).run P w3=.ok v w'/\next (a.put o.dst v) w':=by
   intro bG he hE
   refine⟨_,_,run_endRound bG B4,?_⟩
   generalize UH:({ r with state:=.busy }:Loop)=rb at B4 |-
   let rf:Loop:={ r with state:=if bG.isNone then .ready else .done,pending:=bG }
   have UG:({ rb with state:=if bG.isNone then .ready else .done,pending:=bG }:Loop)=rf:=by rw[<-UH]
   rw[UG]
   have Ld:=Mh (wb:=w.putObj (φ nm).blk (.loop rf)) (w2:=w3.putObj (φ nm).blk (.loop rf))
    (h':=fun l e=>by cases e;exact⟨rP,_,World.putObj_heap_same ab⟩) rX ⟨by simp,by simp⟩
    ⟨(show (w.putObj (φ nm).blk (.loop rf)).os=(w3.putObj (φ nm).blk (.loop rf)).os from rX.fr.os.symm),(show (w.putObj (φ nm).blk (.loop rf)).tape=(w3.putObj (φ nm).blk (.loop rf)).tape from rX.fr.tape.symm),(show (w.putObj (φ nm).blk (.loop rf)).output=(w3.putObj (φ nm).blk (.loop rf)).output from rX.fr.output.symm)⟩
    (fun b hb=>by rw[World.putObj_heap_other hb,World.putObj_heap_other hb]) (fun b hb=>World.putObj_heap_other hb) (by rw[World.putObj_heap_same ab,World.putObj_heap_same dN])
   have cz:aP G φ m { σ with obj:=upd σ.obj nm (some (.loop env ps asg body (if bG.isNone then .ready else .done) bG)) } a (w.putObj (φ nm).blk (.loop rf)):=by
    have :=hC.chg (w':=w.putObj (φ nm).blk (.loop rf)) nm (.loop env ps asg body (if bG.isNone then .ready else .done) bG) (φ nm) (Ext.same aA rfl rfl) ⟨rfl,rfl,rfl,by simp⟩
     (fun b _ hb=>World.putObj_heap_other (by rcases hb with h | h; · rw[dz]at h;cases h
                                              ·exact h))
     (fun _=>.inr ⟨⟨_,aA,rfl,dz⟩,rfl⟩) (by
       rw[fJ]
       refine⟨by assumption,dz,rf,World.putObj_heap_same ab,rfl,rfl,B3,Kc,Kb,Ka,fun i hi=>(J' i hi).ext (Mem.le_refl m) ?_⟩
       have :=Ext.same (φ:=φ) (o':=.loop env ps asg body (if bG.isNone then .ready else .done) bG) aA rfl rfl
       rwa [fJ]at this)
    rwa [fJ]at this
   have Wn:shut (upd σ.obj nm (some (.loop env ps asg body (if bG.isNone then .ready else .done) bG))) (reach σ.obj (roots env ds))=true:=by
    rw[Al (obj:=σ.obj) fun x hx=>a8 _ _ _ (by rintro rfl;exact fC hx)];exact jx
   have yv:(reach σ.obj (roots env ds)).map (cQ (reach σ.obj (roots env ds)) (upd σ.obj nm (some (.loop env ps asg body (if bG.isNone then .ready else .done) bG))))=cJ σ.obj (roots env ds):=
    List.map_congr_left fun x hx=>Mt fC hx
   have C5:=LQ hE
   rw[<-yv]at C5
   have yh:∀ x∈(y.o σ.obj env ps asg body ds).1.new,nm≠x.1++t:=fun x hx e=>by
    have :=List.all_eq_true.1 cP x hx
    rw[<-e,aA]at this;cases this
   have Vo:fresh (upd σ.obj nm (some (.loop env ps asg body (if bG.isNone then .ready else .done) bG))) t (y.o σ.obj env ps asg body ds).1.new=true:=by
    rw[yL (obj:=σ.obj) fun x hx=>by
     obtain⟨z,hz,rfl⟩:=List.mem_map.1 hx
     exact a8 _ _ _ (yh z hz).symm]
    exact cP
   rw[<-WL (x:=some (.loop env ps asg body (if bG.isNone then .ready else .done) bG)) fC (h1:=fun l e=>by
    cases e;rw[KJ fC];exact⟨rP,_,World.putObj_heap_same ab⟩)]at Ld
   obtain⟨φ',m',k1,k2,k3,k4⟩:=Ll cz cq Wn Ld C5 Vo
   refine rI _ φ' m' _ ?_ (.v _ _ ?_)
   ·have:(du (reach σ.obj (roots env ds)) t (y.o σ.obj env ps asg body ds).1.new (cE (reach σ.obj (roots env ds)) t (y.o σ.obj env ps asg body ds).1.upd (upd σ.obj nm (some (.loop env ps asg body (if bG.isNone then .ready else .done) bG)))))=
      upd (du (reach σ.obj (roots env ds)) t (y.o σ.obj env ps asg body ds).1.new (cE (reach σ.obj (roots env ds)) t (y.o σ.obj env ps asg body ds).1.upd σ.obj)) nm (some (.loop env ps asg body (if bG.isNone then .ready else .done) bG)):=by
      funext x
      have hu:((y.o σ.obj env ps asg body ds).1.upd.all fun x=>decide (x.1<(reach σ.obj (roots env ds)).length))=true:=List.all_eq_true.2 fun z hz=>by
       have :=List.all_eq_true.1 C5.cu z hz
       simp only[Bool.and_eq_true,List.length_map]at this;exact this.2
      by_cases e:x=nm
      ·subst e
       rw[aS,vj _ _ yh,AT _ _ hu fC,aS]
      ·rw[a8 _ _ _ e]
       rw[qS (y.o σ.obj env ps asg body ds).1.new σ.obj (cE _ _ _ (upd _ _ _)) x,qS (y.o σ.obj env ps asg body ds).1.new σ.obj (cE _ _ _ σ.obj) x]
       by_cases h1:x∈(y.o σ.obj env ps asg body ds).1.new.map (fun x=>x.1++t)
       ·rw[if_pos h1,if_pos h1]
       ·rw[if_neg h1,if_neg h1]
        rw[s8 (y.o σ.obj env ps asg body ds).1.upd σ.obj (upd _ _ _) x,s8 (y.o σ.obj env ps asg body ds).1.upd σ.obj σ.obj x]
        by_cases h2:x∈(y.o σ.obj env ps asg body ds).1.upd.map (fun x=>(reach σ.obj (roots env ds)).getD x.1 [])
        ·rw[if_pos h2,if_pos h2]
        ·rw[if_neg h2,if_neg h2];exact a8 _ _ _ e
    rw[this]at k2
    rw[he]
    exact k2
   ·rw[he];exact .bool _
  cases e with
  |normal=>exact fin none oO.1 oO.2
  |ret=>exact fin (some .ret) oO.1 oO.2
  |exit id=>exact fin (some (.exit id)) oO.1 oO.2
  |goto l=>exact oO.elim
  |panic ch=>exact oO.elim
  |outgrown=>exact oO.elim
 |ret=>exact hK.elim
 |exit id=>exact hK.elim
 |goto l=>exact hK.elim
 |panic ch=>exact hK.elim
 |outgrown=>exact hK.elim
theorem XI{G:Ghost}{φ:Name->Loc}{m:Mem}{σ:S}{a:Act}{w:World}(hC:aP G φ m σ a w):
 aP G φ m σ { a with defers:=[{ target:=.collected w.heap.size,args:= #[] }]++a.defers } (w.alloc (.deferred (some []))):=by
 have hb:∀ b,b<w.heap.size->(w.alloc (.deferred (some []))).heap[b]?=w.heap[b]?:=fun b h=>RowKit.Below.heap_alloc w _ b h
 have h:=hC.imm (w':=w.alloc (.deferred (some []))) (Mem.le_refl m) ⟨rfl,rfl,rfl,by simp⟩ hb (fun _ _ _ h=>.inl h)
 refine⟨h.tmps,h.size,?_,h.objs,h.mem,h.apart,h.inj,h.own,h.fr,h.fresh,h.kept⟩
 obtain⟨ds,h1,h2,h3⟩:=h.defers
 have ab:∀ D∈ds,D<w.heap.size:=fun D hD=>by
  obtain⟨lI,k1,k2,k3⟩:=hC.defers
  have e:lI=ds:=by
   have :=k1.symm.trans h1
   have hi:Function.Injective (fun D:Nat=>({ target:=.collected D,args:= #[] }:Deferred)):=fun x y h=>by simpa using h
   exact(List.map_inj_right hi).1 this
  exact(Array.getElem?_eq_some_iff.1 (k3 D (e▸hD)).2).1
 refine⟨w.heap.size::ds,by rw[h1];rfl,List.nodup_cons.2 ⟨fun hm=>Nat.lt_irrefl _ (ab _ hm),h2⟩,fun D hD=>?_⟩
 rcases List.mem_cons.1 hD with rfl | hD
 ·exact⟨hC.fr.size,World.alloc_heap_new w _⟩
 ·exact h3 D hD
def l7(obj:Name->Option O)(nm:Name):Name->Option O:=upd obj nm (match obj nm with
 |some (.loop env ps asg body _ bG)=>some (.loop env ps asg body .exhausted bG)
 |o=>o)
def pS(K:Exit->S->Prop)(obj:Name->Option O)(nm:Name)(σ:S):Prop:=match obj nm with
 |some (.loop _ _ _ _ .busy _)=>False
 |some (.loop _ _ _ _ _ none)=>K .normal σ
 |some (.loop _ _ _ _ _ (some .ret))=>K .ret σ
 |some (.loop _ _ _ _ _ (some (.exit id)))=>K (.exit id) σ
 |_=>False
theorem Md{P:Program}{Γ:FuncId->Option Spec}(hΓ:∀ f s,Γ f=some s->aR P f s){g:Operand}{ps:Array Tmp}{asg body:Code}{σ:S}{K:Exit->S->Prop}(k k':Nat){f:FuncId}{s:Spec}
 (hc:cR σ g=true) (fo:ga (aq σ g)=some f) (aE:f≠yid) (hs:Γ f=some s) (rJ:σ.obj (k::σ.pre)=none)
 (aa:(s.app (upd σ.obj (k::σ.pre) (some (.loop ((List.range σ.nt).map σ.env) ps.toList asg body .ready none))) (k'::σ.pre) (eK (aq σ g) [.yld (k::σ.pre)])).ok)
 (hK:pS K (s.app (upd σ.obj (k::σ.pre) (some (.loop ((List.range σ.nt).map σ.env) ps.toList asg body .ready none))) (k'::σ.pre) (eK (aq σ g) [.yld (k::σ.pre)])).obj (k::σ.pre)
   { σ with obj:=l7 (s.app (upd σ.obj (k::σ.pre) (some (.loop ((List.range σ.nt).map σ.env) ps.toList asg body .ready none))) (k'::σ.pre) (eK (aq σ g) [.yld (k::σ.pre)])).obj (k::σ.pre) }):
 CW P (.rangeFunc g ps asg body) σ K:=by
 intro G φ m a w hC
 generalize aA:k::σ.pre=nm at *
 generalize Ce:upd σ.obj nm (some (.loop ((List.range σ.nt).map σ.env) ps.toList asg body .ready none))=pL at *
 generalize hR:s.app pL (k'::σ.pre) (eK (aq σ g) [.yld nm])=R at *
 have yo:=cr hC hc
 obtain⟨us,vs,fs,cs,hu,oM,e1,e2,dm,fB⟩:∃ (us vs:Array Value) (fs cs:List D),a.eval g=.func (.func f) us vs/\(∀ args,eK (aq σ g) args=fs++args++cs)/\fs.length=us.size/\cs.length=vs.size/\
  (∀ i (h:i<fs.length) (h':i<us.size),aD φ σ.obj m fs[i] us[i])/\(∀ i (h:i<cs.length) (h':i<vs.size),aD φ σ.obj m cs[i] vs[i]):=by
  generalize a.eval g=u at *
  generalize aq σ g=d at *
  unfold ga at fo
  split at fo
  ·rename_i f' fs cs
   split at fo
   ·cases fo
   cases fo
   cases yo with
   |v _ _ yo=>
   cases yo with
   |clo _ _ _ us vs e1 e2 h1 h2=>
   exact⟨us,vs,fs.map .v,cs.map .v,rfl,fun _=>rfl,by simpa using e1,by simpa using e2,fun i a b=>by simpa using .v _ _ (h1 i (by simpa using a) b),fun i a b=>by simpa using .v _ _ (h2 i (by simpa using a) b)⟩
  ·rename_i f' fs cs
   split at fo
   ·cases fo
   cases fo
   cases yo with
   |clo _ _ _ us vs e1 e2 h1 h2=>exact⟨us,vs,fs,cs,rfl,fun _=>rfl,e1,e2,h1,h2⟩
  ·cases fo;exact(aE rfl).elim
  ·cases fo
 refine wpIn_rangeFunc fun fn _=>?_
 have main:∀ (W:World) (a':Act) (D:Nat),aP G φ m σ a' W->a'.tmps=a.tmps->
     ∃ (d:Deferred) (sL:World) (f':FuncId) (args:Array Value) (w₂:World),
     (resolve a.eval (rangeCall g W.heap.size) 0).run P (W.alloc (.loop { state:=.ready,pending:=none,fn,tmps:=a.tmps,params:=ps,assign:=asg,body,defers:=D }))=.ok d sL/\
     (invoke d.target d.args).run P sL=.ok (.enter f' args) w₂/\
     CallsIn (fF G.rd) (0-1) P f' args w₂ (rangePost (fF G.rd) 0 P W.heap.size (fun e a' w'=>∃ φ' m' σ',aP G φ' m' σ' a' w'/\K e σ') a'):=by
  intro W a' D fN aC
  obtain⟨r,j9⟩:∃ r:Loop,r={ state:=.ready,pending:=none,fn,tmps:=a.tmps,params:=ps,assign:=asg,body,defers:=D }:=⟨_,rfl⟩
  rw[<-j9]
  have hx:=Ext.new (φ:=φ) rJ ⟨W.heap.size,0,0,false,none⟩ (.loop ((List.range σ.nt).map σ.env) ps.toList asg body .ready none)
  have fq:=fN.chg (w':=W.alloc (.loop r)) nm (.loop ((List.range σ.nt).map σ.env) ps.toList asg body .ready none) ⟨W.heap.size,0,0,false,none⟩ hx ⟨rfl,rfl,rfl,by simp⟩
   (fun b hb _=>RowKit.Below.heap_alloc W _ b hb) (fun _=>.inl (Nat.le_refl _)) ⟨rfl,rfl,r,World.alloc_heap_new W _,by rw[j9],by rw[j9],by rw[j9],by rw[j9],by rw[j9],by
     rw[j9]
     show a.tmps.size=_
     rw[<-aC,fN.size];simp,fun i hi=>by
     simp only[List.getElem_map,List.getElem_range]
     rw[j9]
     show cv _ _ m _ (a.tmps.getD i undef)
     rw[<-aC]
     exact(fN.tmps i).ext (Mem.le_refl m) hx⟩
  rw[Ce]at fq hx
  refine⟨{ target:=.fn (.func f) vs,args:=us++ #[.func (.yield W.heap.size) #[] #[]] },W.alloc (.loop r),f,us++ #[.func (.yield W.heap.size) #[] #[]]++vs,W.alloc (.loop r),?_,?_,?_⟩
  ·have hy:a.eval (.const (.func (.yield W.heap.size) #[] #[]))=.func (.yield W.heap.size) #[] #[]:=rfl
   simp[resolve,Deferred.ofValue,hu,hy]
  ·simp[invoke,(hΓ f s hs).enter aE]
  ·refine LD ?_
   have oK:=(hΓ f s hs).calls aE G (upd φ nm ⟨W.heap.size,0,0,false,none⟩) m { σ with obj:=pL } a' (W.alloc (.loop r)) fq (k'::σ.pre) (eK (aq σ g) [.yld nm]) (us++ #[.func (.yield W.heap.size) #[] #[]]++vs) ⟨k',rfl⟩
   refine(oK ?_ ?_ ?_).mono ?_
   ·rw[oM];simp only[List.length_append,List.length_singleton,Array.size_append,e1,e2];rfl
   ·intro i h1 h2
    simp only[oM]
    have xV:aD (upd φ nm ⟨W.heap.size,0,0,false,none⟩) pL m (.yld nm) (.func (.yield W.heap.size) #[] #[]):=by
     have :=aD.yld (φ:=upd φ nm ⟨W.heap.size,0,0,false,none⟩) (obj:=pL) (m:=m) nm ⟨_,by rw[<-Ce,aS],rfl⟩
     rwa [aS]at this
    simp only[oM,List.length_append,List.length_singleton]at h1
    by_cases k1:i<fs.length
    ·have q1:i<us.size:=by omega
     simp only[List.append_assoc,Array.append_assoc]
     rw[List.getElem_append_left k1,Array.getElem_append_left q1]
     exact(dm i k1 q1).ext (Mem.le_refl m) hx
    ·by_cases k2:i=fs.length
     ·subst k2
      simp only[List.append_assoc,Array.append_assoc]
      rw[List.getElem_append_right (by omega),Array.getElem_append_right (by omega)]
      simp only[Nat.sub_self,e1,List.cons_append,List.getElem_cons_zero]
      rw[Array.getElem_append_left (by simp)]
      simpa using xV
     ·rw[List.getElem_append_right (by simp;omega),Array.getElem_append_right (by simp;omega)]
      have :=(fB (i-(fs.length+1)) (by omega) (by omega)).ext (Mem.le_refl m) hx
      simp only[List.length_append,List.length_singleton,Array.size_append,<-e1]
      exact this
   ·show (s.app pL _ _).ok
    rw[hR];exact aa
   ·rintro e w3 ⟨v,φ',m',rfl,rX,_,Us⟩
    have h9:s.app pL (k'::σ.pre) (eK (aq σ g) [.yld nm])=R:=hR
    have Le:aP G φ' m' { σ with obj:=R.obj } a' w3:=by rw[<-h9];exact rX
    have Ur:Ext (upd φ nm ⟨W.heap.size,0,0,false,none⟩) φ' pL R.obj:=by rw[<-h9];exact Us
    have UT:pL nm=some (.loop ((List.range σ.nt).map σ.env) ps.toList asg body .ready none):=by rw[<-Ce,aS]
    have Co:φ' nm=⟨W.heap.size,0,0,false,none⟩:=by
     obtain⟨o',k1,k2⟩:=Ur nm _ UT
     rcases k2 with⟨_,k2,_⟩ | ⟨n,n',k2,_⟩
     ·rw[k2,aS]
     ·cases k2
    unfold pS at hK
    have step:∀ {gI:List E} {gB:List Nat} {a1 b1:Code} {st:LoopState} {bG:Option Code},R.obj nm=some (.loop gI gB a1 b1 st bG)->st≠ .busy->
        ∃ w4,(Instr.endLoop W.heap.size).run P w3=.ok bG w4/\aP G φ' m' { σ with obj:=l7 R.obj nm } a' w4:=by
     intro gI gB a1 b1 st bG ho cS
     obtain⟨q0,q1,r',q2,q3,q4,q5,q6,q7,q8,q9⟩:=Le.objs nm _ ho
     rw[Co]at q2
     have KI:(Instr.endLoop W.heap.size).run P w3=.ok bG (w3.putObj W.heap.size (.loop { r' with state:=.exhausted })):=by
      rw[run_endLoop (P:=P) q2 (by rw[q3];exact cS),q4]
     refine⟨_,KI,?_⟩
     have ab:=(Array.getElem?_eq_some_iff.1 q2).1
     have rD:l7 R.obj nm=upd R.obj nm (some (.loop gI gB a1 b1 .exhausted bG)):=by unfold l7;rw[ho]
     rw[rD]
     have :=Le.chg (w':=w3.putObj W.heap.size (.loop { r' with state:=.exhausted })) nm (.loop gI gB a1 b1 .exhausted bG) (φ' nm) (Ext.same ho rfl rfl) ⟨rfl,rfl,rfl,by simp⟩
      (fun b _ hb=>World.putObj_heap_other (by
        rcases hb with h | h
        ·rw[q1]at h;cases h
        ·rw[Co]at h;exact h))
      (fun _=>.inr ⟨⟨_,ho,rfl,q1⟩,rfl⟩) (by
        rw[fJ]
        refine⟨q0,q1,{ r' with state:=.exhausted },by rw[Co];exact World.putObj_heap_same ab,rfl,q4,q5,q6,q7,q8,fun i hi=>(q9 i hi).ext (Mem.le_refl _) ?_⟩
        have :=Ext.same (φ:=φ') (o':=.loop gI gB a1 b1 .exhausted bG) ho rfl rfl
        rwa [fJ]at this)
     rw[fJ]at this
     exact this
    rcases ho:R.obj nm with _ | o
    ·rw[ho]at hK;exact hK.elim
    rw[ho]at hK
    cases o with
    |loop gI gB a1 b1 st bG=>
     have cS:st≠ .busy:=by rintro rfl;exact hK.elim
     obtain⟨w4,h1,h2⟩:=step ho cS
     refine⟨bG,w4,h1,?_⟩
     cases bG with
     |none=>
      refine⟨φ',m',_,h2,?_⟩
      cases st<;>first | exact hK | exact(cS rfl).elim
     |some c=>
      cases c with
      |ret=>exact wpIn_ret ⟨φ',m',_,h2,by cases st<;>first | exact hK | exact(cS rfl).elim⟩
      |exit id=>exact wpIn_exit ⟨φ',m',_,h2,by cases st<;>first | exact hK | exact(cS rfl).elim⟩
      |_=>exfalso;cases st<;>first | exact hK | exact(cS rfl).elim
    |_=>exact hK.elim
 cases mw:G.rd with
 |none=>
  obtain⟨d,sL,f',args,w₂,h1,h2,h3⟩:=main (w.alloc (.deferred (some []))) _ w.heap.size (XI hC) rfl
  rw[mw]at h3
  have dF:(w.alloc (.deferred (some []))).heap.size=w.heap.size+1:=by simp
  rw[dF]at h1 h3
  exact⟨w.heap.size+1,[{ target:=.collected w.heap.size,args:= #[] }],_,d,sL,f',args,w₂,run_enterLoop_outer _ _ _ _ _,h1,fun _ _=>trivial,h2,fun h=>(by simp[fF,Fence.wide]at h),h3⟩
 |some l=>
  obtain⟨gm,r0,Ke⟩:=G.rdok l mw
  have UK:w.heap[l]?=some (.loop r0):=(hC.fr.block l (Array.getElem?_eq_some_iff.1 Ke).1 gm).trans Ke
  obtain⟨d,sL,f',args,w₂,h1,h2,h3⟩:=main w a r0.defers hC rfl
  rw[mw]at h3
  exact⟨w.heap.size,[],_,d,sL,f',args,w₂,run_enterLoop_inner UK _ _ _ _ _,h1,fun _ _=>trivial,h2,fun h=>(by simp[fF,Fence.wide]at h),h3⟩
theorem X9{P:Program}{Γ:FuncId->Option Spec}(hΓ:∀ f s,Γ f=some s->aR P f s){g:Operand}{ps:Array Tmp}{asg body:Code}{σ:S}{r:List Code}{K:Exit->S->Prop}(k k':Nat){f:FuncId}{s:Spec}
 (hc:cR σ g=true) (fo:ga (aq σ g)=some f) (aE:f≠yid) (hs:Γ f=some s) (rJ:σ.obj (k::σ.pre)=none)
 (aa:(s.app (upd σ.obj (k::σ.pre) (some (.loop ((List.range σ.nt).map σ.env) ps.toList asg body .ready none))) (k'::σ.pre) (eK (aq σ g) [.yld (k::σ.pre)])).ok)
 (hK:pS (jl (fun σ'=>CL P r σ' K) K) (s.app (upd σ.obj (k::σ.pre) (some (.loop ((List.range σ.nt).map σ.env) ps.toList asg body .ready none))) (k'::σ.pre) (eK (aq σ g) [.yld (k::σ.pre)])).obj (k::σ.pre)
   { σ with obj:=l7 (s.app (upd σ.obj (k::σ.pre) (some (.loop ((List.range σ.nt).map σ.env) ps.toList asg body .ready none))) (k'::σ.pre) (eK (aq σ g) [.yld (k::σ.pre)])).obj (k::σ.pre) }):
 CL P (.rangeFunc g ps asg body::r) σ K:=Md hΓ k k' hc fo aE hs rJ aa hK
theorem dU.refl(σ:S):dU σ σ:=fun _ φ _ _ _ hC=>⟨φ,hC⟩
theorem dU.trans{a b c:S}(h:dU a b)(k:dU b c):dU a c:=fun G φ m x w hC=>by
 obtain⟨φ',h'⟩:=h G φ m x w hC
 exact k G φ' m x w h'
theorem aY{σ τ:S}(ks:List Nat)(ns:List Name)(h:gY ks ns σ)(he:iw ks ns σ=τ):dU σ τ:=he▸z2 ks ns h
def nY(l c:List (Nat×E)):List (Nat×E):=l.map fun q=>(q.1,(c.lookup q.1).getD q.2)
def nW(l c:List (Name×O)):List (Name×O):=l.map fun q=>(q.1,(c.lookup q.1).getD q.2)
theorem eJ{P:Program}{c:Code}{r:List Code}{σ:S}{K:Exit->S->Prop}(ks:List Nat)(ns:List Name)(h:gY ks ns σ)(hc:CL P (c::r) (iw ks ns σ) K):CL P (c::r) σ K:=
 uq (z2 ks ns h) hc
theorem bB{P:Program}{c:Code}{r:List Code}{K:Exit->S->Prop}{nt:Nat}{p:Name}{H:Name->Option O}{l:List (Nat×E)}{h:List (Name×O)}{ι:Type}
 (chg:ι->List (Nat×E)) (oc:ι->List (Name×O)) (R:ι->Prop) (μ:ι->Nat) (i0:ι) (hR:R i0) (he:nY l (chg i0)=l) (ho:nW h (oc i0)=h)
 (round:∀ i,R i->CL P [c] (bh nt p H (nY l (chg i)) (nW h (oc i))) (jl (fun σ'=>∃ i',R i'/\μ i'<μ i/\dU σ' (bh nt p H (nY l (chg i')) (nW h (oc i')))) K)):
 CL P (.loop c::r) (bh nt p H l h) K:=by
 refine DU (fun i=>bh nt p H (nY l (chg i)) (nW h (oc i))) R μ i0 hR ?_ round
 rw[he,ho]
 exact .refl _
theorem Mn{P:Program}{c:Code}{r:List Code}{K:Exit->S->Prop}{nt:Nat}{p:Name}{H:Name->Option O}{l:List (Nat×E)}{h:List (Name×O)}{ι:Type}
 (Hc:ι->Name->Option O) (chg:ι->List (Nat×E)) (oc:ι->List (Name×O)) (R:ι->Prop) (μ:ι->Nat) (i0:ι) (hR:R i0) (hH:bh nt p (Hc i0) l h=bh nt p H l h) (he:nY l (chg i0)=l) (ho:nW h (oc i0)=h)
 (round:∀ i,R i->CL P [c] (bh nt p (Hc i) (nY l (chg i)) (nW h (oc i))) (jl (fun σ'=>∃ i',R i'/\μ i'<μ i/\dU σ' (bh nt p (Hc i') (nY l (chg i')) (nW h (oc i')))) K)):
 CL P (.loop c::r) (bh nt p H l h) K:=by
 refine DU (fun i=>bh nt p (Hc i) (nY l (chg i)) (nW h (oc i))) R μ i0 hR ?_ round
 rw[he,ho,hH]
 exact .refl _
attribute [go_sem] nY nW List.lookup_cons List.lookup_nil List.getElem?_toArray List.getElem?_cons_succ List.getElem?_cons_zero beq_true beq_false ite_self Bool.and_self Bool.or_self imp_self Bool.if_true_right Bool.if_false_right Bool.if_true_left Bool.if_false_left Bool.decide_eq_true
attribute [go_sem] vh gv qX vo distinct eN di cZ dC a7 Bool.and_eq_true
def fh(a b:Nat):Bool:=Nat.ble a b
def gC(a b:Nat):Bool:=Nat.ble (a+1) b
def cM(a b:Nat):Bool:=Nat.beq a b
def dv(a b:Int):Bool:=match b-a with
 | .ofNat _=>true
 | .negSucc _=>false
def j7(a b:Int):Bool:=match b-a-1 with
 | .ofNat _=>true
 | .negSucc _=>false
def tp{α:Type}:Option α->Bool
 |none=>true
 |some _=>false
def od:Option Nat->Nat->Bool
 |some a,b=>Nat.beq a b
 |none,_=>false
def uF(sz:Nat):List V->Bool
 |[]=>true
 |x::r=>Nat.beq x.cells.length sz&&uF sz r
def uG(sz:Nat):List V->Bool
 |[]=>true
 |x::r=>Nat.beq x.cells.length sz&&x.okc&&uG sz r
def vA(a b:IntKind):Bool:=match a,b with
 | .i64,.i64=>true
 | .u8,.u8=>true
 | .u64,.u64=>true
 | .i32,.i32=>true
 | .u32,.u32=>true
 |_,_=>false
def BN(P:Program)(T:TypeId):Bool:=match P.underlying T with
 |some .bool=>true
 |_=>false
def isEq:BinOp->Bool
 | .eql=>true
 | .neq=>true
 |_=>false
def rj:Int->Bool
 | .ofNat 0=>true
 |_=>false
theorem qZ{a b:Nat}(h:fh a b=true):a<=b:=Nat.le_of_ble_eq_true h
theorem xD{a b:Nat}(h:gC a b=true):a<b:=Nat.le_of_ble_eq_true h
theorem jZ{a b:Nat}(h:cM a b=true):a=b:=Nat.eq_of_beq_eq_true h
theorem gk{a b:Int}(h:dv a b=true):a<=b:=by
 unfold dv at h
 split at h
 ·rename_i n hn
  have :(0:Int)<=b-a:=by rw[hn];exact Int.natCast_nonneg n
  omega
 ·cases h
theorem Ui{a b:Int}(h:j7 a b=true):a<b:=by
 unfold j7 at h
 split at h
 ·rename_i n hn
  have :(0:Int)<=b-a-1:=by rw[hn];exact Int.natCast_nonneg n
  omega
 ·cases h
theorem xB{α:Type}{o:Option α}(h:tp o=true):o=none:=by cases o<;>simp_all[tp]
theorem pM{o:Option Nat}{b:Nat}(h:od o b=true):o=some b:=by
 cases o with
 |none=>cases h
 |some a=>rw[Nat.eq_of_beq_eq_true h]
theorem zH{sz:Nat}:∀ {l:List V},uF sz l=true->∀ x∈l,x.cells.length=sz
 |y::r,h,x,hx=>by
  simp only[uF,Bool.and_eq_true]at h
  rcases List.mem_cons.1 hx with rfl | hx
  ·exact Nat.eq_of_beq_eq_true h.1
  ·exact zH h.2 x hx
theorem zI{sz:Nat}:∀ {l:List V},uG sz l=true->∀ x∈l,x.cells.length=sz/\x.okc=true
 |y::r,h,x,hx=>by
  simp only[uG,Bool.and_eq_true]at h
  rcases List.mem_cons.1 hx with rfl | hx
  ·exact⟨Nat.eq_of_beq_eq_true h.1.1,h.1.2⟩
  ·exact zI h.2 x hx
theorem JF{a b:IntKind}(h:vA a b=true):a=b:=by unfold vA at h;split at h<;>first | rfl | cases h
theorem Ue{P:Program}{T:TypeId}(h:BN P T=true):P.underlying T=some .bool:=by unfold BN at h;split at h<;>first | assumption | cases h
theorem xP{op:BinOp}(h:isEq op=true):op=.eql\/op=.neq:=by cases op<;>first | exact .inl rfl | exact .inr rfl | cases h
theorem Ub{n:Int}(h:rj n=false):n≠0:=by rintro rfl;cases h
section
variable (P:Program) (obj:Name->Option O)
def wG(T:TypeId)(x:D):Bool:=
 match bc P T with
 |none=>false
 |some (ag,n)=>match x with
  | .v (.ptr cs)=>match ag with
    |true=>fh n cs.length
    |false=>cM n 1&&gC 0 cs.length
  | .ref nm off=>match obj nm with
    |some (.box cs)=>match ag with
     |true=>fh (off+n) cs.length
     |false=>cM n 1&&gC off cs.length
    |some (.fbox cs)=>match ag with
     |true=>fh (off+n) cs.length
     |false=>cM n 1&&gC off cs.length
    |_=>false
  | .aref nm k i off=>match obj nm with
    |some (.arr _ l)=>cM k l.length&&gC i l.length&&(match ag with
     |true=>fh (off+n) (l.getD i default).cells.length
     |false=>cM n 1&&gC off (l.getD i default).cells.length)
    |some (.farr _ l)=>cM k l.length&&gC i l.length&&(match ag with
     |true=>fh (off+n) (l.getD i default).cells.length
     |false=>cM n 1&&gC off (l.getD i default).cells.length)
    |_=>false
  |_=>false
def zx(T:TypeId)(f:Nat)(x:D):Bool:=
 match bU P T f with
 |none=>false
 |some (off,n,_)=>!cM n 0&&match x with
  | .v (.ptr cs)=>fh (off+n) cs.length
  | .ref _ _=>true
  | .aref nm k _ _=>match obj nm with
    |some o=>od o.len? k
    |none=>false
  |_=>false
def zu(T:TypeId)(x i:D):Bool:=
 match i with
 | .v (.int _ n)=>match x with
   | .v (.sl l)=>match cf P T with
     |some (_,sz,_)=>dv 0 n&&j7 n l.length&&cM (l.getD n.toNat default).cells.length sz
     |none=>false
   | .msl nm k=>match cf P T with
     |some (_,sz,_)=>match obj nm with
      |some (.arr s l)=>dv 0 n&&j7 n l.length&&cM k l.length&&cM s sz
      |some (.farr s l)=>dv 0 n&&j7 n l.length&&cM k l.length&&cM s sz
      |_=>false
     |none=>false
   | .ref _ _=>match ll P T with
     |some (len,_,_)=>dv 0 n&&j7 n len
     |none=>false
   | .v (.ptr cs)=>match ll P T with
     |some (len,sz,_)=>dv 0 n&&j7 n len&&fh (n.toNat*sz+sz) cs.length
     |none=>false
   |_=>false
 |_=>false
def MO(op:BinOp)(k k':IntKind)(b:Int):Bool:=
 match op with
 | .quo=>vA k k'&&!rj b
 | .rem=>vA k k'&&!rj b
 | .shl=>dv 0 b
 | .shr=>dv 0 b
 |_=>vA k k'
def MF(op:BinOp)(a b:ByteArray):Bool:=
 match op with
 | .add=>fh (a.size+b.size) maxLen
 | .eql | .neq | .lss | .leq | .gtr | .geq=>true
 |_=>false
def Eb(op:BinOp)(T:TypeId)(x y:D):Bool:=
 match x,y with
 | .v (.int k _),.v (.int k' b)=>MO op k k' b
 | .v (.str a),.v (.str b)=>MF op a b
 | .v (.bool _),.v (.bool _)=>BN P T&&isEq op
 |_,_=>false
def D7(op:BinOp)(T:TypeId)(x y:V):Bool:=
 match iJ P Op.maxDepth T x y with
 |some _=>!(P.eqGuardType P.depth T)&&isEq op
 |none=>false
def D5(op:BinOp)(T:TypeId)(x:D):Bool:=
 match x with
 | .v (.sl (_::_))=>od (dr P T) 0&&isEq op
 | .msl nm (k+1)=>(match obj nm with | some o=>od o.len? (k+1) | none=>false)&&od (dr P T) 0&&isEq op
 |_=>false
def zC(op:BinOp)(T:TypeId)(x y:D)(kH:Bool):Bool:=
 match kH with
 |true=>D5 P obj op T x
 |false=>match ea x,ea y with
  |some (.agg a),some (.agg b)=>D7 P op T (.agg a) (.agg b)
  |_,_=>Eb P op T x y
def zi(op:UnOp)(x:D):Bool:=
 match op,x with
 | .not,.v (.bool _)=>true
 | .neg,.v (.int _ _)=>true
 |_,_=>false
def zA(src dst:TypeId)(x:D):Bool:=
 match l6 P dst,x with
 |some _,.v (.int _ _)=>(P.underlying src).isSome
 |_,_=>false
def zz(x:D)(i:Nat):Bool:=
 match x with
 | .tup l=>gC i l.length
 | .v (.tup l)=>gC i l.length
 |_=>false
def zm(x:D):Bool:=
 match x with
 | .ref _ _=>true
 | .v (.ptr _)=>true
 | .aref nm k _ _=>match obj nm with
   |some o=>od o.len? k
   |none=>false
 |_=>false
def wI(t:Name)(x:D):Bool:=tp (obj (bb t))&&x.boxable
def zE(t:Name)(T:TypeId):Bool:=match bm P T with
 |some z=>wI obj t (iW z)
 |none=>false
def zB(T:TypeId)(parts:List (Nat×D)):Bool:=
 match jR P T,bm P T with
 |some ps,some z=>match iW z with
  | .agg cs=>match sa (fun i=>ps[i]?) cs parts with
    |some _=>true
    |none=>false
  |_=>false
 |_,_=>false
def zj(T:TypeId)(x d:D):Bool:=
 match bc P T with
 |none=>false
 |some (_,n)=>match x with
  | .ref nm off=>match obj nm with
    |some (.box cs)=>d.boxable&&cM d.cells.length n&&fh (off+n) cs.length
    |_=>false
  | .aref nm k i off=>match obj nm with
    |some (.arr sz l)=>match ea d with
     |some y=>cM k l.length&&gC i l.length&&cM y.cells.length n&&y.okc&&fh (off+n) sz&&!cM sz 0
     |none=>false
    |_=>false
  |_=>false
def zp(t:Name)(T:TypeId)(r:Option D):Bool:=
 match jS P T,r with
 |some _,none=>tp (obj (bb t))
 |_,_=>false
def zo(t:Name)(T:TypeId)(l c:D):Bool:=
 match cf P T,l,c with
 |some (e,sz,by_),.v (.int _ n),.v (.int _ n')=>match (bm P e).bind fun z=>ea (iW z)with
  |some zv=>dv n n'&&dv n' n&&dv 0 n&&dv ((by_:Int)*n) 281474976710656&&dv n 9223372036854775807&&cM zv.cells.length sz&&zv.okc&&!cM sz 0&&tp (obj (bb t))
  |none=>false
 |_,_,_=>false
def zr(T:TypeId)(x:D):Bool:=
 match dr P T,x with
 |some 0,.v (.sl _)=>true
 |some 0,.nilsl=>true
 |some 0,.msl nm k=>match obj nm with
  |some o=>od o.len? k
  |none=>false
 |some 1,.v (.str _)=>true
 |some 2,.nilmap=>true
 |some 2,.map nm=>match obj nm with
  |some (.map _ _)=>true
  |_=>false
 |_,_=>false
def zk(T:TypeId)(x:D)(lo hi mx:Option D):Bool:=
 match mx with
 |none=>match x with
  | .v (.sl l)=>match cf P T,gj lo,ke l.length hi with
    |some (_,sz,_),some i,some j=>dv 0 i&&dv i j&&dv j l.length&&uF sz l
    |_,_,_=>false
  | .nilsl=>match cf P T,gj lo,ke 0 hi with
    |some (_,_,_),some i,some j=>rj i&&rj j
    |_,_,_=>false
  | .msl nm k=>match obj nm,cf P T,gj lo,ke k hi with
    |some (.arr _ l),some (_,sz,_),some i,some j=>cM k l.length&&dv 0 i&&dv i j&&dv j l.length&&uF sz l
    |some (.farr _ l),some (_,sz,_),some i,some j=>cM k l.length&&dv 0 i&&dv i j&&dv j l.length&&uF sz l
    |_,_,_,_=>false
  | .v (.str s)=>match dr P T,gj lo,ke s.size hi with
    |some 1,some i,some j=>dv 0 i&&dv i j&&dv j s.size
    |_,_,_=>false
  |_=>false
 |some (.v (.int _ 0))=>match cf P T,gj lo,hi with
  |some _,some 0,some (.v (.int _ 0))=>match x with
   | .v (.sl _)=>true
   | .nilsl=>true
   | .msl nm k=>match obj nm with
     |some o=>od o.len? k
     |none=>false
   |_=>false
  |_,_,_=>false
 |some _=>false
def zy(T:TypeId)(x:D)(f:Nat):Bool:=
 match bU P T f with
 |none=>false
 |some (off,n,ag)=>match x with
  | .agg l=>match ag with
    |true=>fh (off+n) l.length
    |false=>gC off l.length
  | .v (.agg l)=>match ag with
    |true=>fh (off+n) l.length
    |false=>gC off l.length
  |_=>false
def zw(T:TypeId)(x i:D):Bool:=
 match i with
 | .v (.int _ n)=>match x with
   | .v (.str s)=>od (dr P T) 1&&dv 0 n&&j7 n s.size
   | .agg l=>match ll P T with
     |some (len,sz,true)=>dv 0 n&&j7 n len&&fh (n.toNat*sz+sz) l.length
     |some (len,sz,false)=>dv 0 n&&j7 n len&&gC (n.toNat*sz) l.length
     |none=>false
   | .v (.agg l)=>match ll P T with
     |some (len,sz,true)=>dv 0 n&&j7 n len&&fh (n.toNat*sz+sz) l.length
     |some (len,sz,false)=>dv 0 n&&j7 n len&&gC (n.toNat*sz) l.length
     |none=>false
   |_=>false
 |_=>false
def zq(T:TypeId)(x k:D):Bool:=
 match jS P T with
 |some (kd,e)=>match (bm P e).bind fun z=>ea (iW z),ea k with
  |some _,some kv=>match x with
   | .nilmap=>fh kd 2&&dX kd kv
   | .map nm=>match obj nm with
     |some (.map j6 _)=>fh kd 2&&dX kd kv&&cM j6 kd
     |_=>false
   |_=>false
  |_,_=>false
 |none=>false
def wF(T:TypeId)(x k d:D):Bool:=
 match jS P T,x,ea k,ea d with
 |some (kd,_),.map nm,some kv,some _=>match obj nm with
  |some (.map j6 _)=>fh kd 2&&dX kd kv&&cM j6 kd
  |_=>false
 |_,_,_,_=>false
def zl(c:D):Bool:=match c with
 | .v (.bool _)=>true
 |_=>false
def wE(x:D):Bool:=match x with
 | .v (.sl _)=>true
 | .nilsl=>true
 | .msl nm k=>match obj nm with
   |some (.arr _ l)=>cM k l.length
   |some (.farr _ l)=>cM k l.length
   |_=>false
 |_=>false
def zD(t:Name)(T1 T2:TypeId)(s x:D):Bool:=
 match cf P T1,cf P T2 with
 |some (e,sz,by_),some _=>match bm P e with
  |some z=>match s with
   | .nilsl=>wE obj x&&uG sz (aJ obj x).2&&cM z.cells.size sz&&fh ((aJ obj x).2.length*by_) 140737488355328&&fh (aJ obj x).2.length maxLen&&tp (obj (bb t))
   | .msl nm k=>match obj nm with
     |some (.arr s' l)=>wE obj x&&uG sz (aJ obj x).2&&cM z.cells.size sz&&fh ((l.length+(aJ obj x).2.length)*by_) 140737488355328&&
        fh (l.length+(aJ obj x).2.length) maxLen&&cM k l.length&&cM s' sz
     |_=>false
   |_=>false
  |none=>false
 |_,_=>false
variable {P obj}
theorem pO{a b:Nat}:fh a b=true↔a<=b:=⟨qZ,Nat.ble_eq_true_of_le⟩
theorem vr{a b:Nat}:gC a b=true↔a<b:=⟨xD,Nat.ble_eq_true_of_le⟩
theorem pP{a b:Nat}:cM a b=true↔a=b:=⟨jZ,fun h=>by subst h;simp[cM]⟩
theorem xE{a b:Nat}:cM a b=false↔a≠b:=by
 rw[<-Bool.not_eq_true,pP]
theorem JV{a b:Int}:dv a b=true↔a<=b:=⟨gk,fun h=>by
 unfold dv
 split
 ·rfl
 ·rename_i n hn;have:=Int.negSucc_lt_zero n;omega⟩
theorem JU{a b:Int}:j7 a b=true↔a<b:=⟨Ui,fun h=>by
 unfold j7
 split
 ·rfl
 ·rename_i n hn;have:=Int.negSucc_lt_zero n;omega⟩
theorem JO{n:Int}:rj n=true↔n=0:=⟨fun h=>(by unfold rj at h;split at h<;>first | rfl | cases h),fun h=>(by subst h;rfl)⟩
theorem D6{T:TypeId}{x:D}(h:wG P obj T x=true):(jh P obj T x).ok:=by
 unfold wG at h
 unfold jh
 (repeat' split at h)<;>simp_all[pO,vr,pP,-List.getD_eq_getElem?_getD]
theorem MS{T:TypeId}{f:Nat}{x:D}(h:zx P obj T f x=true):(lg P obj T f x).ok:=by
 unfold zx at h
 unfold lg
 split at h
 ·cases h
 ·simp only[Bool.and_eq_true,Bool.not_eq_true',xE]at h
  obtain⟨h1,h⟩:=h
  (repeat' split at h)<;>simp_all[pO]
  exact pM h
theorem MQ{T:TypeId}{x i:D}(h:zu P obj T x i=true):(lf P obj T x i).ok:=by
 unfold zu at h
 unfold lf
 (repeat' split at h)<;>simp_all[pO,pP,JV,JU,-List.getD_eq_getElem?_getD]
theorem YC{op:BinOp}{T:TypeId}{x y:D}(h:Eb P op T x y=true):(mY P obj op T x y).ok:=by
 unfold Eb at h
 unfold mY
 split at h
 ·simp only
  unfold MO at h
  unfold zt
  cases op<;>simp only[Bool.and_eq_true,Bool.not_eq_true']at h |- <;>first
   |exact⟨JF h.1,Ub h.2⟩
   |exact JF h
   |exact gk h
 ·simp only
  unfold MF at h
  unfold wD
  cases op<;>simp only at h |- <;>first | exact qZ h | trivial | (cases h;done)
 ·simp only[Bool.and_eq_true]at h
  exact⟨Ue h.1,xP h.2⟩
 ·cases h
theorem Yy{op:BinOp}{T:TypeId}{x y:V}(h:D7 P op T x y=true):(ji P obj op T x y).ok:=by
 unfold D7 at h
 unfold ji
 split at h
 ·rename_i b hb
  simp only[Bool.and_eq_true,Bool.not_eq_true']at h
  rw[hb]
  exact⟨h.1,xP h.2⟩
 ·cases h
theorem Yx{op:BinOp}{T:TypeId}{x:D}(h:D5 P obj op T x=true):(pb P obj op T x).ok:=by
 unfold D5 at h
 unfold pb
 split at h
 ·simp only[Bool.and_eq_true]at h
  exact⟨pM h.1,xP h.2⟩
 ·rename_i nm k
  simp only[Bool.and_eq_true]at h
  refine⟨?_,pM h.1.2,xP h.2⟩
  have h1:=h.1.1
  split at h1
  ·rename_i o ho;rw[ho];exact pM h1
  ·cases h1
 ·cases h
theorem MX{op:BinOp}{T:TypeId}{x y:D}{n:Bool}(h:zC P obj op T x y n=true):(lX P obj op T x y n).ok:=by
 unfold zC at h
 unfold lX
 cases n with
 |true=>exact Yx h
 |false=>
  simp only at h |-
  split at h
  ·rename_i h1 h2
   simp only[h1,h2]
   exact Yy h
  ·rename_i aE
   split
   ·rename_i h1 h2;exact(aE _ _ h1 h2).elim
   ·exact YC h
theorem ME{op:UnOp}{x:D}(h:zi op x=true):(lO obj op x).ok:=by
 unfold zi at h
 unfold lO
 split at h<;>first | trivial | cases h
theorem MV{s d:TypeId}{x:D}(h:zA P s d x=true):(lT P obj s d x).ok:=by
 unfold zA at h
 unfold lT
 (repeat' split at h)<;>simp_all
theorem MT{x:D}{i:Nat}(h:zz x i=true):(lS obj x i).ok:=by
 unfold zz at h
 unfold lS
 split at h<;>simp_all[vr]
theorem MJ{x:D}(h:zm obj x=true):(ku obj x).ok:=by
 unfold zm at h
 unfold ku
 (repeat' split at h)<;>simp_all
 exact pM h
theorem Ea{t:Name}{x:D}(h:wI obj t x=true):(lW obj t x).ok:=by
 simp only[wI,Bool.and_eq_true]at h
 exact⟨xB h.1,h.2⟩
theorem MZ{t:Name}{T:TypeId}(h:zE P obj t T=true):(mZ P obj t T).ok:=by
 unfold zE at h
 unfold mZ
 split at h
 ·rename_i z hz;rw[hz];exact Ea h
 ·cases h
theorem MW{T:TypeId}{ps:List (Nat×D)}(h:zB P T ps=true):(lV P obj T ps).ok:=by
 unfold zB at h
 unfold lV
 (repeat' split at h)<;>simp_all
theorem MG{T:TypeId}{x d:D}(h:zj P obj T x d=true):(kr P obj T x d).ok:=by
 unfold zj at h
 unfold kr
 (repeat' split at h)<;>simp_all[pO,vr,pP,xE]
theorem ML{t:Name}{T:TypeId}{r:Option D}(h:zp P obj t T r=true):(mX P obj t T r).ok:=by
 unfold zp at h
 unfold mX
 (repeat' split at h)<;>simp_all
 exact xB h
theorem MK{t:Name}{T:TypeId}{l c:D}(h:zo P obj t T l c=true):(mW P obj t T l c).ok:=by
 unfold zo at h
 unfold mW
 split at h
 ·rename_i e sz by_ k n k' n' hT
  rw[hT]
  simp only
  split at h
  ·rename_i zv hz
   simp only[Bool.and_eq_true,Bool.not_eq_true',xE]at h
   obtain⟨⟨⟨⟨⟨⟨⟨⟨h1,h2⟩,h3⟩,h4⟩,h5⟩,h6⟩,h7⟩,h8⟩,h9⟩:=h
   rw[hz]
   exact⟨Int.le_antisymm (gk h2) (gk h1),gk h3,gk h4,gk h5,jZ h6,h7,h8,xB h9⟩
  ·cases h
 ·cases h
theorem MN{T:TypeId}{x:D}(h:zr P obj T x=true):(kx P obj T x).ok:=by
 unfold zr at h
 unfold kx
 (repeat' split at h)<;>simp_all
 exact pM h
theorem MH{T:TypeId}{x:D}{lo hi mx:Option D}(h:zk P obj T x lo hi mx=true):(jN P obj T x lo hi mx).ok:=by
 unfold zk at h
 unfold jN
 split at h
 ·split at h
  ·split at h
   ·rename_i h1 h2 h3
    simp only[Bool.and_eq_true]at h
    simp only[h1,h2,h3]
    exact⟨gk h.1.1.1,gk h.1.1.2,gk h.1.2,zH h.2⟩
   ·cases h
  ·split at h
   ·rename_i h1 h2 h3
    simp only[Bool.and_eq_true]at h
    simp only[h1,h2,h3]
    exact⟨JO.1 h.1,JO.1 h.2⟩
   ·cases h
  ·split at h
   ·rename_i h1 h2 h3 h4
    simp only[Bool.and_eq_true]at h
    simp only[h1,h2,h3,h4]
    exact⟨jZ h.1.1.1.1,gk h.1.1.1.2,gk h.1.1.2,gk h.1.2,zH h.2⟩
   ·rename_i h1 h2 h3 h4
    simp only[Bool.and_eq_true]at h
    simp only[h1,h2,h3,h4]
    exact⟨jZ h.1.1.1.1,gk h.1.1.1.2,gk h.1.1.2,gk h.1.2,zH h.2⟩
   ·cases h
  ·split at h
   ·rename_i h1 h2 h3
    simp only[Bool.and_eq_true]at h
    simp only[h1,h2,h3]
    exact⟨gk h.1.1,gk h.1.2,gk h.2⟩
   ·cases h
  ·cases h
 ·split at h
  ·rename_i h1 h2 h3
   split at h
   ·simp only[h2,h3]
   ·simp only[h2,h3]
   ·split at h
    ·rename_i o ho
     simp only[h2,h3,ho]
     exact pM h
    ·cases h
   ·cases h
  ·cases h
 ·cases h
theorem MR{T:TypeId}{x:D}{f:Nat}(h:zy P T x f=true):(lR P obj T x f).ok:=by
 unfold zy at h
 unfold lR
 (repeat' split at h)<;>simp_all[pO,vr]
theorem MP{T:TypeId}{x i:D}(h:zw P T x i=true):(lQ P obj T x i).ok:=by
 unfold zw at h
 unfold lQ
 (repeat' split at h)<;>simp_all[pO,vr,JV,JU]
 exact pM h.1.1
theorem MM{T:TypeId}{x k:D}{c:Bool}(h:zq P obj T x k=true):(lP P obj T x k c).ok:=by
 unfold zq at h
 unfold lP
 (repeat' split at h)<;>simp_all[pO,pP]
theorem zn{T:TypeId}{x k d:D}(h:wF P obj T x k d=true):(jO P obj T x k d).ok:=by
 unfold wF at h
 unfold jO
 (repeat' split at h)<;>simp_all[pO,pP]
theorem MI{c x y:D}(h:zl c=true):(jg obj c x y).ok:=by
 unfold zl at h
 unfold jg
 split at h<;>first | trivial | cases h
theorem D4{x:D}(h:wE obj x=true):(aJ obj x).1:=by
 unfold wE at h
 unfold aJ
 (repeat' split at h)<;>simp_all[pP]
theorem MY{t:Name}{T1 T2:TypeId}{s x:D}(h:zD P obj t T1 T2 s x=true):(dT P obj t T1 T2 s x).ok:=by
 unfold zD at h
 unfold dT
 split at h
 ·rename_i e sz by_ p h1 h2
  split at h
  ·rename_i z hz
   split at h
   ·simp only[Bool.and_eq_true]at h
    simp only[h1,h2,hz]
    exact⟨D4 h.1.1.1.1.1,zI h.1.1.1.1.2,jZ h.1.1.1.2,qZ h.1.1.2,qZ h.1.2,xB h.2⟩
   ·split at h
    ·rename_i ho
     simp only[Bool.and_eq_true]at h
     simp only[h1,h2,hz,ho]
     exact⟨D4 h.1.1.1.1.1.1,zI h.1.1.1.1.1.2,jZ h.1.1.1.1.2,qZ h.1.1.1.2,qZ h.1.1.2,jZ h.1.2,jZ h.2⟩
    ·cases h
   ·cases h
  ·cases h
 ·cases h
end
def oS(f:(Name->Option O)->D->Bool)(g:(Name->Option O)->D->FR)(obj:Name->Option O):List D->Bool
 |[]=>true
 |d::r=>f obj d&&oS f g (g obj d).obj r
def km:Nat->(Name->Option O)->D->Bool
 | 0,obj,d=>match d with
   | .v _=>true
   | .nilsl=>true
   |_=>false
 |n+1,obj,d=>match d with
  | .v _=>true
  | .nilsl=>true
  | .msl nm k=>match obj nm with
    |some (.arr _ l)=>decide (k=l.length)
    |some (.farr _ l)=>decide (k=l.length)
    |_=>false
  | .ref nm _=>match obj nm with
    |some (.box cs)=>oS (km n) (aL n) obj cs&&!cW (eh (fp n obj) cs) nm
    |some (.fbox _)=>true
    |_=>false
  | .agg l=>oS (km n) (aL n) obj l
  | .tup l=>oS (km n) (aL n) obj l
  | .clo _ f c=>oS (km n) (aL n) obj f&&oS (km n) (aL n) (bn (aL n) obj f).obj c
  |_=>false
theorem Da{n:Nat}(ih:∀ obj d,km n obj d=true->(aL n obj d).ok):∀ (l:List D) (obj:Name->Option O),oS (km n) (aL n) obj l=true->(bn (aL n) obj l).ok
 |[],_,_=>trivial
 |d::r,obj,h=>by
  simp only[oS,Bool.and_eq_true]at h
  exact⟨ih obj d h.1,Da ih r _ h.2⟩
theorem Lj:∀ (n:Nat) (obj:Name->Option O) (d:D),km n obj d=true->(aL n obj d).ok
 | 0,obj,d,h=>by cases d<;>first | trivial | (simp[km]at h)
 |n+1,obj,d,h=>by
  have ih:=Da (Lj n)
  cases d with
  |v x=>trivial
  |nilsl=>trivial
  |msl nm k=>
   simp only[km]at h
   unfold aL
   rcases ho:obj nm with _ | o
   ·simp[ho]at h
   ·cases o<;>simp[ho]at h |- <;>exact h
  |ref nm off=>
   simp only[km]at h
   rcases ho:obj nm with _ | o
   ·simp[ho]at h
   ·cases o with
    |box cs=>
     simp only[ho,Bool.and_eq_true,Bool.not_eq_true']at h
     simp only[aL,ho]
     refine⟨ih cs obj h.1,?_⟩
     have :=(wo (yK n) cs obj obj (eh (fp n obj) cs) (fun _ hn=>hn) (fun _ _=>rfl)).2.frame nm (fun hn=>by rw[gS.2 hn]at h;cases h.2)
     rw[this,ho]
    |fbox cs=>simp only[aL,ho]
    |_=>simp[ho]at h
  |agg l=>exact ih l obj h
  |tup l=>exact ih l obj h
  |clo fn f c=>
   simp only[km,Bool.and_eq_true]at h
   exact⟨ih f obj h.1,ih c _ h.2⟩
  |_=>simp[km]at h
def isNil{α:Type}:List α->Bool
 |[]=>true
 |_=>false
theorem Uc{α:Type}{l:List α}:isNil l=true↔l=[]:=by cases l<;>simp[isNil]
def xM:Nat->List Nat->Bool
 |_,[]=>true
 |k,x::r=>cM x k&&xM (k+1) r
theorem JP:∀ {k:Nat} {l:List Nat},xM k l=true->l=List.range' k l.length
 |k,[],_=>rfl
 |k,x::r,h=>by
  simp only[xM,Bool.and_eq_true]at h
  rw[jZ h.1,List.length_cons,List.range'_succ]
  congr 1
  exact JP h.2
def D1(P:Program)(obj:Name->Option O)(T:TypeId)(n:Nat)(parts:List (Nat×D)):Bool:=
 match cf P T with
 |some (e,sz,_)=>match cM n 0&&isNil parts with
  |true=>(bm P e).isSome
  |false=>oS (km 4) (aL 4) obj (parts.map fun p=>p.2)&&xM 0 (parts.map fun p=>p.1)&&cM parts.length n&&uG sz (bn (aL 4) obj (parts.map fun p=>p.2)).xs&&
     fh (n*sz) 16777216&&!cM sz 0&&(bm P e).isSome&&gC 0 n
 |none=>false
theorem Yp{P:Program}{obj:Name->Option O}{T:TypeId}{n:Nat}{parts:List (Nat×D)}(h:D1 P obj T n parts=true):(nO P obj T n parts).ok:=by
 unfold D1 at h
 unfold nO
 split at h
 ·rename_i e sz by_ hT
  rw[hT]
  simp only
  split at h
  ·rename_i hc
   simp only[Bool.and_eq_true,pP,Uc]at hc
   rw[if_pos hc];exact h
  ·rename_i hc
   have gG:¬ (n=0/\parts=[]):=by
    intro ⟨a,b⟩
    subst a;subst b
    cases hc
   rw[if_neg gG]
   simp only[Bool.and_eq_true,Bool.not_eq_true',xE]at h
   obtain⟨⟨⟨⟨⟨⟨⟨h1,h2⟩,oQ⟩,h3⟩,h4⟩,h5⟩,h6⟩,h7⟩:=h
   refine⟨?_,Da (Lj 4) _ _ h1,zI h3,qZ h4,h5,h6,xD h7⟩
   have :=JP h2
   rw[List.length_map,jZ oQ,<-List.range_eq_range']at this
   exact this
 ·cases h
def DZ(P:Program)(σ:S)(t:Name)(b:Builtin)(ts:List TypeId)(args:List D):Bool:=
 match b,ts,args with
 | .len,[T],[x]=>zr P σ.obj T x
 | .append,[T1,T2],[s,x]=>zD P σ.obj t T1 T2 s x
 | .min,_,[.v (.int _ _),.v (.int _ _)]=>true
 | .max,_,[.v (.int _ _),.v (.int _ _)]=>true
 |_,_,_=>false
def G6(P:Program)(σ:S)(t:Name):Op->Bool
 | .move _=>true
 | .assign _=>true
 | .pick c _ _=>zl (aq σ c)
 | .alloc T=>zE P σ.obj t T
 | .box _ x=>wI σ.obj t (aq σ x)
 | .build T ps=>zB P T (ps.toList.map fun p=>(p.1,aq σ p.2))
 | .buildSlice T n ps=>D1 P σ.obj T n (ps.toList.map fun p=>(p.1,aq σ p.2))
 | .load T x=>wG P σ.obj T (aq σ x)
 | .store T x d=>zj P σ.obj T (aq σ x) (aq σ d)
 | .nilCheck x=>zm σ.obj (aq σ x)
 | .binOp op T x y _=>zC P σ.obj op T (aq σ x) (aq σ y) (xN y)
 | .unOp op _ x=>zi op (aq σ x)
 | .convert s d x=>zA P s d (aq σ x)
 | .makeFunc _ _ _=>true
 | .makeMap T r=>zp P σ.obj t T (r.map (aq σ))
 | .makeSlice T l c=>zo P σ.obj t T (aq σ l) (aq σ c)
 | .slice T x lo hi mx=>zk P σ.obj T (aq σ x) (lo.map (aq σ)) (hi.map (aq σ)) (mx.map (aq σ))
 | .fieldAddr T x f=>zx P σ.obj T f (aq σ x)
 | .field T x f=>zy P T (aq σ x) f
 | .indexAddr T x i=>zu P σ.obj T (aq σ x) (aq σ i)
 | .index T x i=>zw P T (aq σ x) (aq σ i)
 | .lookup T x i _=>zq P σ.obj T (aq σ x) (aq σ i)
 | .mapUpdate T x k d=>wF P σ.obj T (aq σ x) (aq σ k) (aq σ d)
 | .insert T x k d=>wF P σ.obj T (aq σ x) (aq σ k) (aq σ d)
 | .extract x i=>zz (aq σ x) i
 | .call ⟨.builtin b,args,ts⟩=>DZ P σ t b ts.toList (args.toList.map (aq σ))
 |_=>false
theorem Yo{P:Program}{σ:S}{t:Name}{b:Builtin}{ts:List TypeId}{args:List D}(h:DZ P σ t b ts args=true):(lU P σ t b ts args).ok:=by
 unfold DZ at h
 split at h
 ·exact MN h
 ·exact MY h
 ·trivial
 ·trivial
 ·cases h
theorem Re{P:Program}{Γ:FuncId->Option Spec}{σ:S}{t:Name}{op:Op}(h:G6 P σ t op=true):(ba P Γ σ t op).ok:=by
 cases op with
 |call c=>
  obtain⟨callee,args,ts⟩:=c
  cases callee with
  |value f=>cases h
  |builtin b=>exact Yo h
  |invoke=>cases h
 |move=>trivial
 |assign=>trivial
 |makeFunc=>trivial
 |pick=>exact MI h
 |alloc=>exact MZ h
 |box=>exact Ea h
 |build=>exact MW h
 |buildSlice=>exact Yp h
 |load=>exact D6 h
 |store=>exact MG h
 |nilCheck=>exact MJ h
 |binOp=>exact MX h
 |unOp=>exact ME h
 |convert=>exact MV h
 |makeMap=>exact ML h
 |makeSlice=>exact MK h
 |slice=>exact MH h
 |fieldAddr=>exact MS h
 |field=>exact MR h
 |indexAddr=>exact MQ h
 |index=>exact MP h
 |lookup=>exact MM h
 |mapUpdate=>exact zn h
 |insert=>exact zn h
 |extract=>exact MT h
 |_=>cases h
def xR(o:Oper):Option (TypeId×Operand×Operand×Nat):=
 match o.op with
 | .slice T x (some lo) none none=>match o.guard,o.dst with
   |none,some c=>some (T,x,lo,c)
   |_,_=>none
 |_=>none
def xQ(c:Nat)(o:Oper):Bool:=
 match o.op with
 | .call ⟨.builtin .clear,args,ts⟩=>match args.toList,ts.toList,o.guard,o.dst with
   |[.tmp c'],[_],none,none=>Nat.beq c' c
   |_,_,_,_=>false
 |_=>false
def mN(o:Oper):TypeId:=match o.op with
 | .call ⟨.builtin .clear,_,ts⟩=>ts.getD 0 0
 |_=>0
def lh(P:Program)(obj:Name->Option O)(T T2:TypeId)(x lo:D):R:=
 match x,lo,cf P T,cf P T2 with
 | .msl nm k,.v (.int _ i),some (e,sz,_),some (e2,_,_)=>match obj nm,(bm P e).bind fun z=>ea (iW z)with
   |some (.arr s l),some zv=>⟨k=l.length/\0<=i/\i.toNat<l.length/\s=sz/\zv.cells.length=sz/\zv.okc=true/\e2=e/\0<sz,.any,upd obj nm (some (.arr sz (l.take i.toNat++List.replicate (l.length-i.toNat) zv)))⟩
   |_,_=>.bad obj
 |_,_,_,_=>.bad obj
def qt(P:Program)(σ:S)(T:TypeId)(x lo:Operand)(c:Nat)(o2:Oper):S:=
 { σ with env:=upd σ.env c ⟨true,.any⟩,obj:=(lh P σ.obj T (mN o2) (aq σ x) (aq σ lo)).obj }
inductive lY (P:Program) (Γ:FuncId->Option Spec) (ops:Array Oper):List Oper->S->(S->Prop)->Prop
 |nil {σ:S} {K:S->Prop}:K σ->lY P Γ ops [] σ K
 |step {o:Oper} {r:List Oper} {σ:S} {K:S->Prop}:kF P Γ ops σ o->lY P Γ ops r (bj P Γ ops σ o) K->lY P Γ ops (o::r) σ K
 |cut {o o2:Oper} {r:List Oper} {σ:S} {K:S->Prop} {T:TypeId} {x lo:Operand} {c:Nat}:xR o=some (T,x,lo,c)->xQ c o2=true->c<σ.nt->cR σ x=true->cR σ lo=true->
    (lh P σ.obj T (mN o2) (aq σ x) (aq σ lo)).ok->lY P Γ ops r (qt P σ T x lo c o2) K->lY P Γ ops (o::o2::r) σ K
theorem Gi{m:Mem}{zv:V}{z:Value}{sz:Nat}(h:aO m zv z)(hs:zv.cells.length=sz)(bN:0<sz)(n k:Nat)(hk:k<n*sz):
 (Builtin.zeroCells z.cells n)[k]?=z.cells[k % sz]?:=by
 have hz:z.cells.size=sz:=by rw[<-h.cells];exact hs
 have hm:=Nat.mod_lt k bN
 unfold Builtin.zeroCells
 rw[hz]
 simp only[Array.getElem?_map,Array.getElem?_range,hk,if_true,Option.map_some]
 rw[Array.getElem?_eq_getElem (by omega),getElem!_pos z.cells (k % sz) (by omega)]
theorem DN{l:List V}{zv:V}{i q:Nat}(hi:i<=l.length)(hq:q<(l.take i++List.replicate (l.length-i) zv).length):
 (q<i/\∃ h:q<l.length,(l.take i++List.replicate (l.length-i) zv)[q]=l[q])\/(i<=q/\q<l.length/\(l.take i++List.replicate (l.length-i) zv)[q]=zv):=by
 have hlen:(l.take i).length=i:=by simp;omega
 have cp:=hq
 simp only[List.length_append,List.length_replicate,hlen]at cp
 by_cases h1:q<i
 ·refine .inl ⟨h1,by omega,?_⟩
  rw[List.getElem_append_left (by omega),List.getElem_take]
 ·refine .inr ⟨by omega,by omega,?_⟩
  rw[List.getElem_append_right (by omega),List.getElem_replicate]
theorem HD{K a b:Nat}(h:a<b):a*K+K<=b*K:=by
 have :=Nat.mul_le_mul_right K (show a+1<=b by omega)
 rwa [Nat.add_mul,Nat.one_mul]at this
set_option maxHeartbeats 1000000 in
theorem XB{P:Program}{G:Ghost}{φ:Name->Loc}{m:Mem}{σ:S}{a:Act}{w:World}(hC:aP G φ m σ a w)
 {ops:Array Oper} {i:Nat} {o o2:Oper} (hi:ops[i]?=some o) (kf:ops[i+1]?=some o2) {T:TypeId} {x lo:Operand} {c:Nat} (hA:xR o=some (T,x,lo,c)) (hB:xQ c o2=true) (hc:c<σ.nt)
 (hx:cR σ x=true) (ey:cR σ lo=true) (aa:(lh P σ.obj T (mN o2) (aq σ x) (aq σ lo)).ok) {K:Act->World->Prop} {Q:Exit->Act->World->Prop}
 (hK:∀ a' w' φ' m',aP G φ' m' (qt P σ T x lo c o2) a' w'->K a' w'):
 wpOpIn (fF G.rd) 0 P ops Q i (fun a1 w1=>wpOpIn (fF G.rd) 0 P ops Q (i+1) K a1 w1) a w:=by
 unfold xR at hA
 split at hA
 case h_2=>cases hA
 rename_i T0 x0 Bs Kk
 split at hA
 case h_2=>cases hA
 rename_i hg hd
 simp only[Option.some.injEq,Prod.mk.injEq]at hA
 obtain⟨rfl,rfl,rfl,rfl⟩:=hA
 unfold xQ at hB
 split at hB
 case h_2=>cases hB
 rename_i args ts Ca
 split at hB
 case h_2=>cases hB
 rename_i c' T2 oM ry fY kQ
 have VQ:=Nat.eq_of_beq_eq_true hB
 subst VQ
 have mI:mN o2=T2:=by
  unfold mN
  rw[Ca]
  simp only
  have :ts= #[T2]:=by rw[<-Array.toArray_toList (xs:=ts),ry]
  rw[this];rfl
 have V3:args= #[.tmp c']:=by rw[<-Array.toArray_toList (xs:=args),oM]
 have Uy:ts= #[T2]:=by rw[<-Array.toArray_toList (xs:=ts),ry]
 rw[mI]at aa
 have KM:qt P σ T0 x0 Bs c' o2={ σ with env:=upd σ.env c' ⟨true,.any⟩,obj:=(lh P σ.obj T0 T2 (aq σ x0) (aq σ Bs)).obj }:=by unfold qt;rw[mI]
 rw[KM]at hK
 clear KM hB oM ry mI
 have rx:=cr hC hx
 have rl:=cr hC ey
 unfold lh at aa hK
 split at aa
 case h_2=>exact aa.elim
 rename_i nm k kd ii e sz by_ e2 Fh Mx yt rT yE KU
 split at aa
 case h_2=>exact aa.elim
 rename_i s l zv aA rp
 obtain⟨h1,h2,h3,h4,h5,h6,h7,bN⟩:=aa
 subst h7
 subst h4
 obtain⟨n,rfl⟩:∃ n:Nat,ii=(n:Int):=⟨ii.toNat,by omega⟩
 simp only[yt,rT,yE,KU,aA,rp,Int.toNat_natCast]at hK h3
 obtain⟨hu,it,gq,vV,_⟩:=iQ yE
 obtain⟨fk,_⟩:=iQ KU
 obtain⟨z,hz,mq⟩:=Option.bind_eq_some_iff.1 rp
 have fV:aO m zv z:=nK (ti (φ:=φ) (obj:=σ.obj) (m:=m) z) mq
 rw[yt]at rx
 rw[rT]at rl
 cases rl with
 |v _ _ rl=>
 cases qd:a.eval Bs with
 |int kd2 n2=>
  rw[qd]at rl
  cases rl
  cases rx with
  |msl _ _ _ hh _=>
  obtain⟨oo,nn,c5,hlen,hk,c8⟩:=hh
  rw[aA]at c5;cases c5
  simp only[O.len?,Option.some.injEq]at hlen
  subst hlen
  subst h1
  have hv:=c8 rfl
  rcases hC.objs nm _ aA with⟨_,mz⟩ | ⟨g0,g1,g2,g3,g4,us,T',f,g5,g6,g7,g8⟩
  ·subst mz;simp at h3
  have ru:a.eval x0=.slice (some ⟨(φ nm).blk,(φ nm).off,none⟩) l.length (φ nm).cap:=by rw[hv];simp only[Loc.slice,g0];rfl
  have jD:(φ nm).blk<w.heap.size:=(Array.getElem?_eq_some_iff.1 g5).1
  have ep:(Instr.sliceAt T0 (.slice (some ⟨(φ nm).blk,(φ nm).off,none⟩) l.length (φ nm).cap) (some (.int kd n)) none none).run P w=
      .ok (.slice (some ⟨(φ nm).blk,(φ nm).off+n*s,none⟩) (l.length-n) ((φ nm).cap-n)) w:=by
   have hb:=xi (P:=P) (φ:=φ) (obj:=σ.obj) (m:=m) (lo:=some (.v (.int kd n))) (hi:=none) (ulo:=some (.int kd n)) (uhi:=none) (len:=l.length) (cap:=(φ nm).cap) (n:=0) (i:=n) (j:=l.length) true (.v _ _ (.int _ _)) trivial rfl rfl (by omega) (by omega) (by omega) g1 w
   rw[xb hu]
   have aE:¬ ((φ nm).cap=n):=by omega
   simp[Instr.slice,run_underlying hu,hb,sizeOf,typeInfo,gq,vV,aE,mV]
  have cq:∀ cc,o.op≠ .defer cc:=fun cc h=>by rw[Kk]at h;cases h
  have UY:∀ cc,o2.op≠ .defer cc:=fun cc h=>by rw[Ca]at h;cases h
  have jt:Region.wanted o (yielded ops a.tmps)=true:=by unfold Region.wanted;rw[hg]
  have cN:(execOp a.eval o).run P w=.ok (.value (.slice (some ⟨(φ nm).blk,(φ nm).off+n*s,none⟩) (l.length-n) ((φ nm).cap-n))) w:=by
   unfold execOp
   rw[Kk]
   simp only[ru,Option.map_some,Option.map_none,qd,Sem.run_bind,ep,Result.andThen_ok,Sem.run_pure]
  have key:∀ KK:Act->World->Prop,KK (a.put (some c') (.slice (some ⟨(φ nm).blk,(φ nm).off+n*s,none⟩) (l.length-n) ((φ nm).cap-n))) w->wpOpIn (fF G.rd) 0 P ops Q i KK a w:=by
   intro KK Lb
   unfold wpOpIn
   simp only[hi,jt,if_true]
   refine⟨fun _ _=>trivial,?_⟩
   rw[Oper.semAt_eq _ _ _ cq,cN]
   rw[<-hd]at Lb
   exact Lb
  refine key _ ?_
  have fN:=hC.put (t:=c') (e:=⟨true,.any⟩) (v:=.slice (some ⟨(φ nm).blk,(φ nm).off+n*s,none⟩) (l.length-n) ((φ nm).cap-n)) hc (by unfold cv;simp;exact .any _)
  have KH:(a.put (some c') (.slice (some ⟨(φ nm).blk,(φ nm).off+n*s,none⟩) (l.length-n) ((φ nm).cap-n))).eval (.tmp c')=.slice (some ⟨(φ nm).blk,(φ nm).off+n*s,none⟩) (l.length-n) ((φ nm).cap-n):=by
   have hs:c'<a.tmps.size:=by rw[hC.size];exact hc
   simp[Act.put,Act.eval,Array.getD,hs]
  generalize hga:a.put (some c') (.slice (some ⟨(φ nm).blk,(φ nm).off+n*s,none⟩) (l.length-n) ((φ nm).cap-n))=a1 at fN KH |-
  have gF:n*s<=l.length*s:=Nat.mul_le_mul_right _ (by omega)
  have kh:l.length*s<=(φ nm).cap*s:=Nat.mul_le_mul_right _ g1
  have oA:(Builtin.zeroCells z.cells (l.length-n)).toList.length=l.length*s-n*s:=by
   have vH:z.cells.size=s:=by rw[<-fV.cells];exact h5
   simp[Builtin.zeroCells,vH,Nat.sub_mul]
  obtain⟨iO,k1,k2,k3⟩:=vf P (φ nm).blk ((φ nm).off+n*s) T' f g6 (Builtin.zeroCells z.cells (l.length-n)).toList 0 us w g5 (by rw[oA];omega)
   (fun v hv=>by
     obtain⟨k,hk,rfl⟩:=List.getElem_of_mem hv
     rw[oA,<-Nat.sub_mul]at hk
     have h0:=Gi fV h5 bN (l.length-n) k hk
     have Kv:k % s<z.cells.size:=by rw[<-fV.cells,h5];exact Nat.mod_lt _ bN
     rw[Array.getElem?_eq_getElem Kv]at h0
     have h1:(Builtin.zeroCells z.cells (l.length-n)).toList[k]=z.cells[k % s]:=by
      have :=h0
      rw[<-Array.getElem?_toList]at this
      exact(List.getElem?_eq_some_iff.1 this).2
     rw[h1]
     have rN:k % s<zv.cells.length:=by rw[h5];exact Nat.mod_lt _ bN
     exact AZ ((fV.cell (k % s) rN Kv).one (fV.ones h6 _ (List.getElem_mem _))))
  simp only[Nat.add_zero]at k2
  have BU:Region.wanted o2 (yielded ops a1.tmps)=true:=by unfold Region.wanted;rw[fY]
  show wpOpIn (fF G.rd) 0 P ops Q (i+1) K a1 w
  unfold wpOpIn
  simp only[kf,BU,if_true]
  refine⟨fun _ _=>trivial,?_⟩
  rw[Oper.semAt_eq _ _ _ UY]
  have UF:(execOp a1.eval o2).run P w=.ok (.value (.tuple #[])) (bZ w (φ nm).blk (.cells iO T' f)):=by
   have aE:l.length-n≠0:=by omega
   unfold execOp
   rw[Ca,V3,Uy]
   simp only[resolve,invoke,builtin,Sem.run_bind,Sem.run_pure,Result.andThen_ok,List.map_toArray,List.map_cons,List.map_nil,KH]
   have Uw:Sem.run P (underlying T2) w=.ok (TypeDesc.slice e2) w:=run_underlying fk w
   have cw:(Builtin.clear_ #[T2] o2.type #[.slice (some ⟨(φ nm).blk,(φ nm).off+n*s,none⟩) (l.length-n) ((φ nm).cap-n)]).run P w=.ok (.tuple #[]) (bZ w (φ nm).blk (.cells iO T' f)):=by
    obtain⟨q,hq⟩:∃ q,l.length-n=q+1:=⟨l.length-n-1,by omega⟩
    rw[hq]at k3 |-
    simp[Builtin.clear_,Uw,sZ hz,k3]
   simp only[cw,Result.andThen_ok]
  rw[UF]
  have vS:(l.take n++List.replicate (l.length-n) zv).length=l.length:=by simp;omega
  have bt:=Ext.same (φ:=φ) (o':=.arr s (l.take n++List.replicate (l.length-n) zv)) aA (by simp only[O.len?,vS]) rfl
  have Vt:=fN.chg (w':=bZ w (φ nm).blk (.cells iO T' f)) nm (.arr s (l.take n++List.replicate (l.length-n) zv)) (φ nm) bt ⟨rfl,rfl,rfl,by simp[bZ]⟩
   (fun b hb hn=>nS (by rcases hn with h | h; · rw[g0]at h;cases h
                        ·exact h))
   (fun _=>.inr ⟨⟨_,aA,rfl,g0⟩,rfl⟩) (by
     refine .inr ⟨g0,by rw[vS];exact g1,g2,fun q hq=>?_,fun q hq=>?_,iO,T',f,l3 jD,g6,by rw[k1];exact g7,fun q j hq hj=>?_⟩
     ·rcases DN (by omega) hq with⟨_,cp,e3⟩ | ⟨_,_,e3⟩<;>rw[e3]
      ·exact g3 q cp
      ·exact h5
     ·rcases DN (by omega) hq with⟨_,cp,e3⟩ | ⟨_,_,e3⟩<;>rw[e3]
      ·exact g4 q cp
      ·exact fV.ones h6
     ·rw[k2,oA]
      rcases DN (by omega) hq with⟨kO,cp,e3⟩ | ⟨kO,cp,e3⟩
      ·simp only[e3]at hj |-
       have fX:j<s:=by rw[<-g3 q cp];exact hj
       have hm:=HD (K:=s) kO
       rw[if_neg (by omega)]
       exact g8 q j cp hj
      ·simp only[e3]at hj |-
       have fX:j<s:=by rw[<-h5];exact hj
       have hm:=HD (K:=s) cp
       have gV:n*s<=q*s:=Nat.mul_le_mul_right _ kO
       rw[if_pos (by omega)]
       refine⟨z.cells[j]'(by rw[<-fV.cells,h5];exact fX),?_,fV.cell j hj _⟩
       rw[show (φ nm).off+q*s+j-((φ nm).off+n*s)=(q-n)*s+j by rw[Nat.sub_mul];omega,Array.getElem?_toList]
       have ab:(q-n)*s+j<(l.length-n)*s:=by rw[Nat.sub_mul,Nat.sub_mul];omega
       rw[Gi fV h5 bN _ _ ab]
       have :((q-n)*s+j) % s=j:=by rw[Nat.mul_comm,Nat.mul_add_mod,Nat.mod_eq_of_lt fX]
       rw[this,Array.getElem?_eq_getElem])
  have mE:=hK _ _ _ m Vt
  show K (a1.put o2.dst (.tuple #[])) _
  rw[kQ]
  exact mE
 |_=>rw[qd]at rl;cases rl
theorem QS{P:Program}{Γ:FuncId->Option Spec}(hΓ:∀ f s,Γ f=some s->aR P f s){G:Ghost}{ops:Array Oper}{Q:Exit->Act->World->Prop}{K:S->Prop}{l:List Oper}{σ:S}(hr:lY P Γ ops l σ K):
 ∀ (k:Nat) {φ:Name->Loc} {m:Mem} {a:Act} {w:World},k+l.length=ops.size->ops.toList.drop k=l->aP G φ m σ a w->
   (∀ a' w' φ' m' σ',aP G φ' m' σ' a' w'->K σ'->Q .normal a' w')->wpOpsIn (fF G.rd) 0 P ops Q (List.range' k l.length) a w:=by
 have mD:∀ (k:Nat) (o:Oper) (r:List Oper),ops.toList.drop k=o::r->ops[k]?=some o/\ops.toList.drop (k+1)=r:=by
  intro k o r h
  have h0:(ops.toList.drop k)[0]?=some o:=by rw[h];rfl
  rw[List.getElem?_drop,Nat.add_zero,Array.getElem?_toList]at h0
  refine⟨h0,?_⟩
  have h1:(ops.toList.drop k).drop 1=r:=by rw[h];rfl
  rw[List.drop_drop]at h1
  exact h1
 induction hr with
 |nil hk=>exact fun k φ m a w _ _ hC hQ=>hQ _ _ φ m _ hC hk
 |step h1 _ ih=>
  intro k φ m a w hs hd hC hQ
  obtain⟨hi,kg⟩:=mD k _ _ hd
  rw[List.length_cons]at hs |-
  rw[List.range'_succ,wpOpsIn_cons]
  exact Ag hΓ hC hi h1 fun a' w' φ' m' cz=>ih (k+1) (by omega) kg cz hQ
 |cut hA hB hc hx ey aa _ ih=>
  intro k φ m a w hs hd hC hQ
  obtain⟨hi,kg⟩:=mD k _ _ hd
  obtain⟨kf,kQ⟩:=mD (k+1) _ _ kg
  rw[List.length_cons,List.length_cons]at hs |-
  rw[List.range'_succ,wpOpsIn_cons,List.range'_succ]
  rename_i o1 o2 r' _ _ _ _ _ _ _
  have :=XB (ops:=ops) (Q:=Q) hC hi kf hA hB hc hx ey aa (K:=fun a' w'=>wpOpsIn (fF G.rd) 0 P ops Q (List.range' (k+1+1) r'.length) a' w') fun a' w' φ' m' cz=>ih (k+2) (by omega) kQ cz hQ
  have e:wpOpsIn (fF G.rd) 0 P ops Q ((k+1)::List.range' (k+1+1) r'.length)=fun a1 w1=>wpOpIn (fF G.rd) 0 P ops Q (k+1) (fun a' w'=>wpOpsIn (fF G.rd) 0 P ops Q (List.range' (k+1+1) r'.length) a' w') a1 w1:=by
   funext a1 w1
   rw[wpOpsIn_cons]
  rw[e]
  exact this
theorem Mc{P:Program}{Γ:FuncId->Option Spec}(hΓ:∀ f s,Γ f=some s->aR P f s){id:Nat}{ops:Array Oper}{σ:S}{K:Exit->S->Prop}
 (h:lY P Γ ops ops.toList σ (K .normal)):CW P (.region id ops false) σ K:=by
 intro G φ m a w hC
 refine wpIn_region ?_
 rw[List.range_eq_range']
 have :=QS hΓ h 0 (Q:=fun e a' w'=>∃ φ' m' σ',aP G φ' m' σ' a' w'/\K e σ') (by simp) (by simp) hC fun a' w' φ' m' σ' cz hK=>⟨φ',m',σ',cz,hK⟩
 simpa using this
def D8(P:Program)(obj:Name->Option O)(T T2:TypeId)(x lo:D):Bool:=
 match x,lo,cf P T,cf P T2 with
 | .msl nm k,.v (.int _ i),some (e,sz,_),some (e2,_,_)=>match obj nm,(bm P e).bind fun z=>ea (iW z)with
   |some (.arr s l),some zv=>cM k l.length&&dv 0 i&&gC i.toNat l.length&&cM s sz&&cM zv.cells.length sz&&zv.okc&&cM e2 e&&gC 0 sz
   |_,_=>false
 |_,_,_,_=>false
theorem YA{P:Program}{obj:Name->Option O}{T T2:TypeId}{x lo:D}(h:D8 P obj T T2 x lo=true):(lh P obj T T2 x lo).ok:=by
 unfold D8 at h
 unfold lh
 split at h
 ·split at h
  ·simp only[Bool.and_eq_true]at h
   obtain⟨⟨⟨⟨⟨⟨⟨h1,h2⟩,h3⟩,h4⟩,h5⟩,h6⟩,h7⟩,h8⟩:=h
   exact⟨jZ h1,gk h2,xD h3,jZ h4,jZ h5,h6,jZ h7,xD h8⟩
  ·cases h
 ·cases h
theorem Y'{P:Program}{obj:Name->Option O}{T T2:TypeId}{x lo:D}{nm:Name}(h:nm∉aZ x):(lh P obj T T2 x lo).obj nm=obj nm:=by
 unfold lh
 split
 ·split
  ·simp only[aZ,List.mem_singleton]at h
   exact a8 _ _ _ h
  ·rfl
 ·rfl
end Go.Eng
