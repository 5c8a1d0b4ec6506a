import Derived.Test.YtepaolcgegdpoaaGreatK2
/- Texts Eng19 to EngK. -/
set_option linter.all false
namespace Go.Eng
open Go
section
variable {P:Program} {Γ:FuncId->Option Spec} {ops:Array Oper}
structure r8 where
 anc:List Nat
 past:qd
def dQ:Name->Name->Bool
 |[],[]=>true
 |x::r,y::s=>Nat.beq x y&&dQ r s
 |_,_=>false
theorem fK:∀ {a b:Name},dQ a b=true↔a=b
 |[],[]=>by simp[dQ]
 |[],_::_=>by simp[dQ]
 |_::_,[]=>by simp[dQ]
 |x::r,y::s=>by
  simp only[dQ,Bool.and_eq_true,Nat.beq_eq,List.cons.injEq,fK]
def sV:List Name->Name->Bool
 |[],_=>false
 |x::r,nm=>dQ x nm||sV r nm
theorem Hh:∀ {l:List Name} {nm:Name},sV l nm=true↔nm∈l
 |[],nm=>by simp[sV]
 |x::r,nm=>by
  simp only[sV,Bool.or_eq_true,fK,List.mem_cons,Hh]
  exact⟨fun h=>h.imp Eq.symm id,fun h=>h.imp Eq.symm id⟩
def jM:List Nat->Nat->Bool
 |[],_=>false
 |x::r,n=>Nat.beq x n||jM r n
theorem Hi:∀ {l:List Nat} {n:Nat},jM l n=true↔n∈l
 |[],n=>by simp[jM]
 |x::r,n=>by
  simp only[jM,Bool.or_eq_true,Nat.beq_eq,List.mem_cons,Hi]
  exact⟨fun h=>h.imp Eq.symm id,fun h=>h.imp Eq.symm id⟩
def tH:List Name->List Name->Bool
 |[],_=>true
 |x::r,b=>!sV b x&&tH r b
theorem DO:∀ {a b:List Name},tH a b=true->wH a b
 |[],_,_=>fun nm h=>by cases h
 |x::r,b,h=>by
  simp only[tH,Bool.and_eq_true,Bool.not_eq_true']at h
  intro nm ha hb
  rcases List.mem_cons.1 ha with rfl | ha
  ·rw[Hh.2 hb]at h;cases h.1
  ·exact DO h.2 nm ha hb
def fA(p:r8)(e:r8):Bool:=jM p.anc e.past.on||(tH e.past.wrt p.past.foot&&tH p.past.wrt e.past.foot)
def sJ:List r8->Bool
 |[]=>true
 |p::L=>L.all (fA p)&&sJ L
variable (P Γ ops)in
def qc:Nat->List (List Nat)->List Oper->List r8->S->(S->Prop)->Prop
 |_,_,[],L,σ,K=>sJ L=true/\K σ
 |i,az,o::r,L,σ,K=>ko P Γ ops σ o/\
   qc (i+1) az.tail r (⟨az.headD [],i,bX Γ σ ((σ.base+o.dst.getD 0)::σ.pre) o.op,bE Γ σ ((σ.base+o.dst.getD 0)::σ.pre) o.op⟩::L) (bg P Γ ops σ o) K
variable (P Γ ops)in
def EJ(anc:Nat->List Nat):Nat->List Oper->List qd->S->(S->Prop)->Prop
 |_,[],_,σ,K=>K σ
 |i,o::r,L,σ,K=>ko P Γ ops σ o/\xu (anc i) (bX Γ σ (Oper.tt σ o) o.op) (bE Γ σ (Oper.tt σ o) o.op) L/\
   EJ anc (i+1) r (⟨i,bX Γ σ (Oper.tt σ o) o.op,bE Γ σ (Oper.tt σ o) o.op⟩::L) (bg P Γ ops σ o) K
theorem Gb{anc:Nat->List Nat}{K:S->Prop}:∀ (l:List Oper) (i:Nat) (az:List (List Nat)) (L:List r8) (σ:S),(∀ k,az.getD k []=anc (i+k))->
 qc P Γ ops i az l L σ K->sJ L=true/\EJ P Γ ops anc i l (L.map (·.past)) σ K
 |[],i,az,L,σ,_,h=>h
 |o::r,i,az,L,σ,ha,h=>by
  obtain⟨h1,h2⟩:=h
  obtain⟨h3,h4⟩:=Gb (anc:=anc) r (i+1) az.tail _ _ (fun k=>by
   have :=ha (k+1)
   rw[show i+(k+1)=i+1+k by omega]at this
   rw[<-this]
   cases az<;>rfl) h2
  simp only[sJ,Bool.and_eq_true]at h3
  refine⟨h3.2,h1,?_,h4⟩
  intro e he
  obtain⟨p,hp,rfl⟩:=List.mem_map.1 he
  have :=List.all_eq_true.1 h3.1 p hp
  simp only[fA,Bool.or_eq_true,Bool.and_eq_true]at this
  rcases this with k | ⟨k1,k2⟩
  ·left
   have h0:az.headD []=anc i:=by
    have :=ha 0
    rw[Nat.add_zero]at this
    rw[<-this]
    cases az<;>rfl
   rw[h0]at k
   exact Hi.1 k
  ·exact .inr ⟨DO k1,DO k2⟩
theorem Gc(hN:∀ f s,Γ f=some s->s.Near){anc:Nat->List Nat}(hA:wI ops anc)(mE:∀ i j oi oj,ops[i]?=some oi->ops[j]?=some oj->i<j->i∉anc j->oi.apart ops oj=true)
 (yM:∀ j o,ops[j]?=some o->∀ e∈o.after,Region.binds .any e=true->e.on<j) {K:S->Prop}:
 ∀ (n k:Nat) (L:List qd) (listed:Array Bool) (σ:S),k+n=ops.size->listed.size=ops.size->(∀ j,listed.getD j false=decide (j<k))->sa anc listed->
   EJ P Γ ops anc k (ops.toList.drop k) L σ K->qg P Γ ops anc L K n listed σ
 | 0,k,L,listed,σ,hk,hs,hl,cC,h=>by
   have :ops.toList.drop k=[]:=List.drop_eq_nil_of_le (by simp;omega)
   rw[this]at h
   refine⟨?_,h⟩
   refine List.eq_nil_iff_forall_not_mem.2 fun j hj=>?_
   obtain⟨h1,o,ho,_⟩:=mem_ready.1 hj
   have ab:j<ops.size:=(Array.getElem?_eq_some_iff.1 ho).1
   have :=hl j
   simp only[Array.getD_eq_getD_getElem?,Array.getElem?_eq_getElem (show j<listed.size by omega),Option.getD_some]at h1 this
   rw[h1]at this
   simp at this
   omega
 |n+1,k,L,listed,σ,hk,hs,hl,cC,h=>by
  have ab:k<ops.size:=by omega
  have hd:ops.toList.drop k=ops[k]::ops.toList.drop (k+1):=by
   rw[List.drop_eq_getElem_cons (by simpa using ab)];simp
  rw[hd]at h
  obtain⟨h1,h2,h3⟩:=h
  have aa:ops[k]?=some ops[k]:=Array.getElem?_eq_getElem ab
  have tj:∀ j,j<listed.size->listed.getD j true=listed.getD j false:=by
   intro j hj
   simp only[Array.getD_eq_getD_getElem?,Array.getElem?_eq_getElem hj,Option.getD_some]
  have hr:k∈Region.ready .any ops listed:=by
   refine mem_ready.2 ⟨?_,_,aa,fun e he hb=>?_⟩
   ·rw[tj k (by omega),hl k];simp
   ·rw[hl];simpa using yM k _ aa e he hb
  refine pull hN hA aa n listed σ cC (fun j oj hj aG vA gf=>?_) hr h1 h2 ?_
  ·have fy:j<ops.size:=(Array.getElem?_eq_some_iff.1 hj).1
   rw[tj j (by omega),hl j]at vA
   simp at vA
   exact mE k j _ oj aa hj (by omega) gf
  ·refine Gc hN hA mE yM n (k+1) _ _ _ (by omega) (by simpa using hs) (fun j=>?_) (cC.set hA hr) h3
   by_cases mw:k=j
   ·subst mw
    simp[show k<listed.size by omega]
   ·rw[getD_set_ne false mw,hl j]
    refine decide_eq_decide.2 ?_
    omega
def uA(ops:Array Oper)(az:List (List Nat)):Bool:=
 (List.range ops.size).all fun j=>match ops[j]? with
   |none=>true
   |some oj=>(oj.after.toList.all fun e=>!Region.binds .any e||decide (e.on<j))&&
      ((az.getD j []).all fun i=>oj.after.toList.any fun e=>Region.binds .any e&&(e.on==i||(az.getD e.on []).contains i))&&
      (List.range j).all fun i=>(az.getD j []).contains i||(match ops[i]? with | some oi=>oi.apart ops oj | none=>true)
theorem DY(hΓ:∀ f s,Γ f=some s->aM P f s)(hP:P.follows .mixedOrders=true){id:Nat}{l:List Oper}{σ:S}{K:Exit->S->Prop}(az:List (List Nat))
 (hs:uA l.toArray az=true) (h:∀ K':S->Prop,(∀ σ',K .normal σ'->K' σ')->qc P Γ l.toArray 0 az l [] σ K'):CW P (.region id l.toArray true) σ K:=by
 intro G φ m a w hC
 have gH:∀ j oj,l.toArray[j]?=some oj->(oj.after.toList.all fun e=>!Region.binds .any e||decide (e.on<j))=true/\
       ((az.getD j []).all fun i=>oj.after.toList.any fun e=>Region.binds .any e&&(e.on==i||(az.getD e.on []).contains i))=true/\
       ((List.range j).all fun i=>(az.getD j []).contains i||(match l.toArray[i]? with | some oi=>oi.apart l.toArray oj | none=>true))=true:=by
  intro j oj hj
  have :=List.all_eq_true.1 hs j (List.mem_range.2 (Array.getElem?_eq_some_iff.1 hj).1)
  simp only[hj,Bool.and_eq_true]at this
  exact⟨this.1.1,this.1.2,this.2⟩
 have hN:∀ f s,Γ f=some s->s.Near:=fun f s h=>(hΓ f s h).near
 have hA:wI l.toArray (fun j=>az.getD j []):=by
  intro j o ho i hi
  have :=List.all_eq_true.1 (gH j o ho).2.1 i hi
  obtain⟨e,he,h1⟩:=List.any_eq_true.1 this
  simp only[Bool.and_eq_true,Bool.or_eq_true,beq_iff_eq,List.contains_iff_mem]at h1
  exact⟨e,by simpa using he,h1.1,h1.2⟩
 have mE:∀ i j oi oj,l.toArray[i]?=some oi->l.toArray[j]?=some oj->i<j->i∉az.getD j []->oi.apart l.toArray oj=true:=by
  intro i j oi oj h1 h2 h3 h4
  have :=List.all_eq_true.1 (gH j oj h2).2.2 i (List.mem_range.2 h3)
  simp only[h1,Bool.or_eq_true]at this
  rcases this with k | k
  ·exact(h4 (by simpa using k)).elim
  ·exact k
 have yM:∀ j o,l.toArray[j]?=some o->∀ e∈o.after,Region.binds .any e=true->e.on<j:=by
  intro j o ho e he hb
  have :=List.all_eq_true.1 (gH j o ho).1 e (by simpa using he)
  simpa[hb]using this
 refine wpIn_region_any hP ?_
 obtain⟨_,hD⟩:=Gb (anc:=fun j=>az.getD j []) l 0 az [] σ (fun k=>by simp) (h (K .normal) fun _ h=>h)
 refine MV hΓ (K:=K .normal) _ _ (hC.drawn _) (Gc hN hA mE yM l.toArray.size 0 [] _ σ (by simp) (by simp) (fun j=>?_) (fun j hj=>?_) (by simpa using hD)) fun a' w' φ' m' σ' cm hK=>⟨φ',m',σ',cm,hK⟩
 ·by_cases hj:j<l.length<;>simp[hj]
 ·by_cases er:j<l.length<;>simp[er]at hj
theorem X3(hΓ:∀ f s,Γ f=some s->aM P f s)(hP:P.follows .mixedOrders=true){id:Nat}{l:List Oper}{c:Code}{r:List Code}{σ:S}{K:Exit->S->Prop}(az:List (List Nat))(ks:List Nat)(ns:List Name)
 (hs:uA l.toArray az=true) (h:∀ K':S->Prop,(∀ σ',gM ks ns σ'->CL P (c::r) (gV ks ns σ') K->K' σ')->qc P Γ l.toArray 0 az l [] σ K'):CL P (.region id l.toArray true::c::r) σ K:=
 DY hΓ hP az hs fun K' hK=>h K' fun σ' hc hy=>hK σ' (DX ks ns hc hy)
theorem tU(hΓ:∀ f s,Γ f=some s->aM P f s)(hP:P.follows .mixedOrders=true){id:Nat}{l:List Oper}{σ:S}{K:Exit->S->Prop}(az:List (List Nat))
 (hs:uA l.toArray az=true) (h:∀ K':S->Prop,(∀ σ',K .normal σ'->K' σ')->qc P Γ l.toArray 0 az l [] σ K'):CL P [.region id l.toArray true] σ K:=
 DY hΓ hP az hs fun K' hK=>h K' fun σ' hc=>hK σ' hc
end
attribute [go_sem] dQ sV jM tH Nat.beq_eq_true_eq qc bX bE aX fp dZ fU ew muts O.mut PSpec.toSpec List.headD_cons List.headD_nil List.tail_cons List.tail_nil
mutual
def D.ren(f:Name->Name):D->D
 | .v x=>.v x
 | .nilsl=>.nilsl
 | .nilmap=>.nilmap
 | .ref nm o=>.ref (f nm) o
 | .msl nm k=>.msl (f nm) k
 | .aref nm k i o=>.aref (f nm) k i o
 | .map nm=>.map (f nm)
 | .yld nm=>.yld (f nm)
 | .clo fn a b=>.clo fn (D.renL f a) (D.renL f b)
 | .agg l=>.agg (D.renL f l)
 | .tup l=>.tup (D.renL f l)
 | .any=>.any
def D.renL(f:Name->Name):List D->List D
 |[]=>[]
 |d::r=>D.ren f d::D.renL f r
end
def E.ren(f:Name->Name)(e:E):E:=⟨e.c,e.d.ren f⟩
def O.ren(f:Name->Name):O->O
 | .box cs=>.box (D.renL f cs)
 | .loop env ps asg body st bA=>.loop (env.map (E.ren f)) ps asg body st bA
 | .arr sz l=>.arr sz l
 | .map kd es=>.map kd es
 | .fbox cs=>.fbox cs
 | .farr sz l=>.farr sz l
 | .dead sz n=>.dead sz n
theorem jI(f:Name->Name):∀ l:List D,D.renL f l=l.map (D.ren f)
 |[]=>rfl
 |d::r=>by simp only[D.renL,List.map_cons,jI f r]
theorem D.one_ren(f:Name->Name)(d:D):(d.ren f).one=d.one:=by cases d<;>rfl
theorem O.len_ren(f:Name->Name)(o:O):(o.ren f).len?=o.len?:=by cases o<;>rfl
theorem O.sz_ren(f:Name->Name)(o:O):(o.ren f).sz=o.sz:=by cases o<;>rfl
theorem O.mut_ren(f:Name->Name)(o:O):(o.ren f).mut=o.mut:=by cases o<;>rfl
def wG(f:Name->Name)(φ φ':Name->Loc)(obj obj':Name->Option O)(dom:Name->Bool):Prop:=
 ∀ nm o,dom nm=true->obj nm=some o->∃ o',obj' (f nm)=some o'/\
   ((o'.len?=o.len?/\φ' (f nm)=φ nm/\o'.sz=o.sz)\/(∃ n n',o.len?=some n/\o'.len?=some n'/\n<n'))
theorem aD.renx{f:Name->Name}{φ φ':Name->Loc}{obj obj':Name->Option O}{m m':Mem}{dom:Name->Bool}(hm:Mem.le m m')(hx:wG f φ φ' obj obj' dom){d:D}{u:Value}
 (h:aD φ obj m d u) (hc:D.clos dom d=true):aD φ' obj' m' (d.ren f) u:=by
 induction h with
 |any u=>exact .any u
 |v x u h=>exact .v x u (h.mono hm)
 |nilsl a=>exact .nilsl a
 |nilmap=>exact .nilmap
 |ref nm off h=>
  obtain⟨o,ho,hl⟩:=h
  obtain⟨o',cO,h⟩:=hx nm o hc ho
  rcases h with⟨h1,h2,h3⟩ | ⟨n,n',h1,h2,h3⟩
  ·rw[<-h2];exact .ref (f nm) off ⟨o',cO,h1.trans hl⟩
  ·rw[hl]at h1;cases h1
 |map nm h=>
  obtain⟨o,ho,hl⟩:=h
  obtain⟨o',cO,h⟩:=hx nm o hc ho
  rcases h with⟨h1,h2,h3⟩ | ⟨n,n',h1,h2,h3⟩
  ·rw[<-h2];exact .map (f nm) ⟨o',cO,h1.trans hl⟩
  ·rw[hl]at h1;cases h1
 |yld nm h=>
  obtain⟨o,ho,hl⟩:=h
  obtain⟨o',cO,h⟩:=hx nm o hc ho
  rcases h with⟨h1,h2,h3⟩ | ⟨n,n',h1,h2,h3⟩
  ·rw[<-h2];exact .yld (f nm) ⟨o',cO,h1.trans hl⟩
  ·rw[hl]at h1;cases h1
 |msl nm k u h hu=>
  obtain⟨o,n,ho,hl,hk,he⟩:=h
  obtain⟨o',cO,h⟩:=hx nm o hc ho
  rcases h with⟨h1,h2,h3⟩ | ⟨n1,n',h1,h2,h3⟩
  ·exact .msl (f nm) k u ⟨o',n,cO,h1.trans hl,hk,fun e=>by rw[h2];exact he e⟩ hu
  ·rw[hl]at h1;cases h1
   exact .msl (f nm) k u ⟨o',n',cO,h2,by omega,fun e=>by omega⟩ hu
 |aref nm k i off u h hu=>
  obtain⟨o,n,ho,hl,hk,he⟩:=h
  obtain⟨o',cO,h⟩:=hx nm o hc ho
  rcases h with⟨h1,h2,h3⟩ | ⟨n1,n',h1,h2,h3⟩
  ·exact .aref (f nm) k i off u ⟨o',n,cO,h1.trans hl,hk,fun e=>by rw[h2,h3];exact he e⟩ hu
  ·rw[hl]at h1;cases h1
   exact .aref (f nm) k i off u ⟨o',n',cO,h2,by omega,fun e=>by omega⟩ hu
 |clo fn fs cs us vs h1 h2 dw ft oA oz=>
  simp only[D.clos,Bool.and_eq_true]at hc
  simp only[D.ren,jI]
  refine .clo fn _ _ us vs (by simpa using h1) (by simpa using h2) (fun i a b=>?_) (fun i a b=>?_)
  ·simp only[List.getElem_map];exact oA i (by simpa using a) b (ig _ hc.1)
  ·simp only[List.getElem_map];exact oz i (by simpa using a) b (ig _ hc.2)
 |agg l us h ho hr ih=>
  simp only[D.clos]at hc
  simp only[D.ren,jI]
  refine .agg _ us (by simpa using h) (fun d hd=>?_) (fun i a b=>?_)
  ·obtain⟨d',h1,rfl⟩:=List.mem_map.1 hd
   rw[D.one_ren];exact ho d' h1
  ·simp only[List.getElem_map];exact ih i (by simpa using a) b (ig _ hc)
 |tup l us h hr ih=>
  simp only[D.clos]at hc
  simp only[D.ren,jI]
  refine .tup _ us (by simpa using h) (fun i a b=>?_)
  simp only[List.getElem_map];exact ih i (by simpa using a) b (ig _ hc)
theorem cl.renx{f:Name->Name}{φ φ':Name->Loc}{obj obj':Name->Option O}{m m':Mem}{dom:Name->Bool}(hm:Mem.le m m')(hx:wG f φ φ' obj obj' dom){e:E}{u:Value}
 (h:cl φ obj m e u) (hc:D.clos dom e.d=true):cl φ' obj' m' (e.ren f) u:=by
 unfold cl at *
 have e0:(E.ren f e).c=e.c:=rfl
 have e1:(E.ren f e).d=e.d.ren f:=rfl
 rw[e0,e1]
 by_cases hh:e.c=true
 ·rw[if_pos hh]at h |-;exact h.renx hm hx hc
 ·rw[if_neg hh]at h |-;exact h
theorem gk.ren{f:Name->Name}{φ φ':Name->Loc}{obj obj':Name->Option O}{m m':Mem}{dom:Name->Bool}{o:O}{p:Loc}{w w':World}(hm:Mem.le m m')(hx:wG f φ φ' obj obj' dom)
 (hc:O.clos dom o=true) (hw:o.mut=true->p.nul=false->w'.heap[p.blk]?=w.heap[p.blk]?) (h:gk φ obj m o p w):gk φ' obj' m' (o.ren f) p w':=by
 cases o with
 |box cs=>
  obtain⟨h0,h1,fb,us,T,g,h2,h3,h4,h5⟩:=h
  simp only[O.clos]at hc
  simp only[O.ren,gk,jI,List.length_map,List.getElem_map,List.mem_map,forall_exists_index,and_imp,forall_apply_eq_imp_iff₂,D.one_ren]
  exact⟨h0,h1,fb,us,T,g,by rw[hw rfl h1];exact h2,h3,h4,fun i a b=>(h5 i a b).renx hm hx (ig a hc)⟩
 |arr sz l=>
  rcases h with⟨h,h'⟩ | ⟨h0,h1,h2,h3,h4,us,T,f,h5,h6,h7,h8⟩
  ·exact .inl ⟨h,h'⟩
  ·exact .inr ⟨h0,h1,h2,h3,h4,us,T,f,by rw[hw rfl h0];exact h5,h6,h7,fun i j a b=>let ⟨c,x,y⟩:=h8 i j a b;⟨c,x,y.mono hm⟩⟩
 |map kd es=>
  obtain⟨h0,h1,fb,us,T,h2,h3,h4⟩:=h
  exact⟨h0,h1,fb,us,T,by rw[hw rfl h1];exact h2,h3,fun i a b=>⟨(h4 i a b).1.mono hm,(h4 i a b).2.mono hm⟩⟩
 |fbox cs=>exact⟨h.1,fun i a=>let ⟨c,x,y⟩:=h.2 i a;⟨c,hm _ _ _ x,y.mono hm⟩⟩
 |farr sz l=>
  rcases h with⟨h,h'⟩ | ⟨h0,h1,h2,h3,h4⟩
  ·exact .inl ⟨h,h'⟩
  ·exact .inr ⟨h0,h1,h2,h3,fun i j a b=>let ⟨c,x,y⟩:=h4 i j a b;⟨c,hm _ _ _ x,y.mono hm⟩⟩
 |dead=>exact h
 |loop env ps asg body st bA=>
  obtain⟨h0,h1,r,h2,h3,h4,h5,h6,h7,h8,h9⟩:=h
  simp only[O.clos]at hc
  simp only[O.ren,gk,List.length_map,List.getElem_map]
  refine⟨h0,h1,r,by rw[hw rfl h1];exact h2,h3,h4,h5,h6,h7,h8,fun i a=>(h9 i a).renx hm hx ?_⟩
  have :=ig (l:=env.map (·.d)) (i:=i) (by simpa using a) hc
  simpa using this
mutual
theorem D.ren_id{f g:Name->Name}{dom:Name->Bool}(ju:∀ nm,dom nm=true->g (f nm)=nm):∀ d:D,D.clos dom d=true->(d.ren f).ren g=d
 | .v _,_=>rfl
 | .nilsl,_=>rfl
 | .nilmap,_=>rfl
 | .any,_=>rfl
 | .ref nm _,h=>by simp only[D.ren];rw[ju nm h]
 | .msl nm _,h=>by simp only[D.ren];rw[ju nm h]
 | .aref nm _ _ _,h=>by simp only[D.ren];rw[ju nm h]
 | .map nm,h=>by simp only[D.ren];rw[ju nm h]
 | .yld nm,h=>by simp only[D.ren];rw[ju nm h]
 | .clo _ a b,h=>by
   simp only[D.clos,Bool.and_eq_true]at h
   simp only[D.ren];rw[D.renL_id ju a h.1,D.renL_id ju b h.2]
 | .agg l,h=>by simp only[D.clos]at h;simp only[D.ren];rw[D.renL_id ju l h]
 | .tup l,h=>by simp only[D.clos]at h;simp only[D.ren];rw[D.renL_id ju l h]
theorem D.renL_id{f g:Name->Name}{dom:Name->Bool}(ju:∀ nm,dom nm=true->g (f nm)=nm):∀ l:List D,D.closL dom l=true->D.renL g (D.renL f l)=l
 |[],_=>rfl
 |d::r,h=>by
  simp only[D.closL,Bool.and_eq_true]at h
  simp only[D.renL];rw[D.ren_id ju d h.1,D.renL_id ju r h.2]
end
theorem O.ren_id{f g:Name->Name}{dom:Name->Bool}(ju:∀ nm,dom nm=true->g (f nm)=nm)(o:O)(h:O.clos dom o=true):(o.ren f).ren g=o:=by
 cases o with
 |box cs=>simp only[O.clos]at h;simp only[O.ren];rw[D.renL_id ju cs h]
 |loop env ps asg body st bA=>
  simp only[O.clos]at h
  simp only[O.ren,List.map_map,O.loop.injEq,and_true]
  refine List.ext_getElem (by simp) fun i h1 h2=>?_
  have :=ig (l:=env.map (·.d)) (i:=i) (by simpa using h2) h
  simp only[List.getElem_map,Function.comp_apply,E.ren]at this |-
  rw[D.ren_id ju _ this]
 |_=>rfl
mutual
def lq:D->List Name
 | .ref nm _=>[nm]
 | .msl nm _=>[nm]
 | .aref nm _ _ _=>[nm]
 | .map nm=>[nm]
 | .yld nm=>[nm]
 | .clo _ a b=>cS a++cS b
 | .agg l=>cS l
 | .tup l=>cS l
 |_=>[]
def cS:List D->List Name
 |[]=>[]
 |d::r=>lq d++cS r
end
def ln:O->List Name
 | .box cs=>cS cs
 | .loop env _ _ _ _ _=>cS (env.map (·.d))
 |_=>[]
def cM(L:List Name)(nm:Name):Bool:=L.any fun x=>x==nm
def dn(obj:Name->Option O):Nat->List Name->List Name->List Name
 | 0,_,acc=>acc
 |_+1,[],acc=>acc
 |n+1,x::todo,acc=>if cM acc x=true then dn obj n todo acc else dn obj n ((match obj x with | some o=>ln o | none=>[])++todo) (acc++[x])
def reach(obj:Name->Option O)(ds:List D):List Name:=dn obj 3000 (cS ds) []
theorem gb{L:List Name}{nm:Name}:cM L nm=true↔nm∈L:=by
 simp only[cM,List.any_eq_true,beq_iff_eq]
 exact⟨fun ⟨x,h,e⟩=>e▸h,fun h=>⟨nm,h,rfl⟩⟩
theorem A6{obj:Name->Option O}:∀ (n:Nat) (todo acc:List Name),∀ nm∈acc,nm∈dn obj n todo acc
 | 0,_,_,_,h=>h
 |_+1,[],_,_,h=>h
 |n+1,x::todo,acc,nm,h=>by
  simp only[dn]
  split
  ·exact A6 n _ _ nm h
  ·exact A6 n _ _ nm (by simp[h])
theorem xn{obj:Name->Option O}:∀ (n:Nat) (todo acc:List Name),acc.Nodup->(dn obj n todo acc).Nodup
 | 0,_,_,h=>h
 |_+1,[],_,h=>h
 |n+1,x::todo,acc,h=>by
  simp only[dn]
  split
  ·exact xn n _ _ h
  ·rename_i hx
   refine xn n _ _ (List.nodup_append.2 ⟨h,by simp,fun a ha b hb=>?_⟩)
   simp only[List.mem_singleton]at hb
   subst hb
   rintro rfl
   exact hx (gb.2 ha)
theorem A5{obj obj2:Name->Option O}:∀ (n:Nat) (todo acc:List Name),bG (dn obj n todo acc) obj obj2->dn obj2 n todo acc=dn obj n todo acc
 | 0,_,_,_=>rfl
 |_+1,[],_,_=>rfl
 |n+1,x::todo,acc,h=>by
  simp only[dn]at h |-
  split
  ·rename_i hx;rw[if_pos hx]at h;exact A5 n _ _ h
  ·rename_i hx
   rw[if_neg hx]at h
   have br:obj2 x=obj x:=h x (A6 n _ _ x (by simp))
   rw[br]
   exact A5 n _ _ h
def idx:List Name->Name->Nat
 |[],_=>0
 |x::r,nm=>if x=nm then 0 else idx r nm+1
def cin(L:List Name)(nm:Name):Name:=[idx L nm,1]
def cout(L:List Name)(t:Name):Name->Name
 |[i,1]=>L.getD i []
 |x=>x++t
def cT:Name->Bool
 |[_,1]=>true
 |_=>false
theorem s5:∀ {L:List Name} {nm:Name},nm∈L->∃ h:idx L nm<L.length,L[idx L nm]=nm
 |x::r,nm,h=>by
  simp only[idx]
  by_cases e:x=nm
  ·subst e;simp
  ·simp only[if_neg e]
   obtain⟨h1,h2⟩:=s5 (L:=r) (nm:=nm) (by rcases List.mem_cons.1 h with h | h; · exact(e h.symm).elim
                                         ·exact h)
   exact⟨by simp;omega,by simpa using h2⟩
theorem Xz{L:List Name}{t nm:Name}(h:nm∈L):cout L t (cin L nm)=nm:=by
 obtain⟨h1,h2⟩:=s5 h
 show L.getD (idx L nm) []=nm
 rw[List.getD_eq_getElem?_getD,List.getElem?_eq_getElem h1];simpa using h2
theorem tR{L:List Name}{t x:Name}(h:cT x=false):cout L t x=x++t:=by
 unfold cout
 split
 ·simp[cT]at h
 ·rfl
theorem vo{x:Name}:cT x=true↔∃ i,x=[i,1]:=by
 constructor
 ·intro h
  unfold cT at h
  split at h
  ·exact⟨_,rfl⟩
  ·cases h
 ·rintro⟨i,rfl⟩;rfl
theorem GN(i:Nat):own [0] [i,1]=false:=by simp[own]
theorem B9{L:List Name}(hn:L.Nodup){i:Nat}(h:i<L.length):idx L L[i]=i:=by
 obtain⟨h1,h2⟩:=s5 (List.getElem_mem h)
 exact(List.getElem_inj hn).1 h2
structure Out where
 upd:List (Nat×O)
 new:List (Name×O)
 d:D
 deriving Inhabited
def eB:List (Nat×O)->Nat->O->O
 |[],_,o=>o
 |(j,o')::r,i,o=>eB r i (if j=i then o' else o)
def cr(L:List Name)(t:Name):List (Nat×O)->(Name->Option O)->(Name->Option O)
 |[],obj=>obj
 |(i,o)::r,obj=>cr L t r (upd obj (L.getD i []) (some (o.ren (cout L t))))
def di(L:List Name)(t:Name):List (Name×O)->(Name->Option O)->(Name->Option O)
 |[],obj=>obj
 |(x,o)::r,obj=>di L t r (upd obj (x++t) (some (o.ren (cout L t))))
theorem Gu{L:List Name}{t:Name}(hn:L.Nodup):∀ (l:List (Nat×O)) (obj:Name->Option O) {i:Nat} (h:i<L.length) (o:O) (_:(l.all fun x=>decide (x.1<L.length))=true) (_:obj L[i]=some (o.ren (cout L t))),
 cr L t l obj L[i]=some ((eB l i o).ren (cout L t))
 |[],obj,i,h,o,_,ho=>ho
 |(j,o')::r,obj,i,h,o,hl,ho=>by
  simp only[List.all_cons,Bool.and_eq_true,decide_eq_true_eq]at hl
  simp only[cr,eB]
  refine Gu hn r _ h _ hl.2 ?_
  have e:L.getD j []=L[j]:=by rw[List.getD_eq_getElem?_getD,List.getElem?_eq_getElem hl.1];rfl
  rw[e]
  by_cases hj:j=i
  ·subst hj;rw[aQ,if_pos rfl]
  ·rw[aZ _ _ _ (fun e'=>hj ((List.getElem_inj hn).1 e').symm),if_neg hj];exact ho
theorem Ba{L:List Name}{t:Name}:∀ (l:List (Nat×O)) (obj:Name->Option O) {nm:Name} (_:(l.all fun x=>decide (x.1<L.length))=true) (_:nm∉L),cr L t l obj nm=obj nm
 |[],_,_,_,_=>rfl
 |(j,o')::r,obj,nm,hl,hn=>by
  simp only[List.all_cons,Bool.and_eq_true,decide_eq_true_eq]at hl
  simp only[cr]
  rw[Ba r _ hl.2 hn]
  refine aZ _ _ _ ?_
  rintro rfl
  refine hn ?_
  rw[List.getD_eq_getElem?_getD,List.getElem?_eq_getElem hl.1];simp
theorem uQ{L:List Name}{t:Name}:∀ (l:List (Name×O)) (obj:Name->Option O) {nm:Name} (_:∀ x∈l,nm≠x.1++t),di L t l obj nm=obj nm
 |[],_,_,_=>rfl
 |(x,o')::r,obj,nm,hl=>by
  simp only[di]
  rw[uQ r _ fun y hy=>hl y (by simp[hy])]
  exact aZ _ _ _ (hl (x,o') (by simp))
theorem Gv{L:List Name}{t:Name}:∀ (l:List (Name×O)) (obj:Name->Option O) (_:(l.map (·.1)).Nodup) {x:Name} {o:O} (_:(x,o)∈l),di L t l obj (x++t)=some (o.ren (cout L t))
 |(y,o')::r,obj,hn,x,o,h=>by
  simp only[List.map_cons,List.nodup_cons]at hn
  simp only[di]
  rcases List.mem_cons.1 h with h | h
  ·cases h
   rw[uQ r _ fun z hz e=>hn.1 (by
    have :_=z.1:=List.append_cancel_right e
    rw[this];exact List.mem_map_of_mem hz)]
   exact aQ _ _ _
  ·exact Gv r _ hn.2 h
def cV(n:Nat)(new:List (Name×O)):Name->Bool
 |[i,1]=>decide (i<n)
 |x=>new.any fun y=>y.1==x
section
variable {G:Ghost} {φ:Name->Loc} {m:Mem} {σ:S} {a:Act} {w:World}
def cw(L:List Name)(obj:Name->Option O)(nm:Name):O:=match obj nm with
 |some o=>o.ren (cin L)
 |none=>.fbox []
def shut(obj:Name->Option O)(L:List Name):Bool:=L.all fun nm=>match obj nm with
 |some o=>O.clos (cM L) o
 |none=>false
def jl(L:List Name)(obj:Name->Option O):Name->Option O
 |[i,1]=>if i<L.length then some (cw L obj (L.getD i []))else none
 |_=>none
def lV(L:List Name)(φ:Name->Loc):Name->Loc
 |[i,1]=>φ (L.getD i [])
 |_=>⟨0,0,0,true,none⟩
def o0(L:List Name)(φ:Name->Loc)(obj:Name->Option O)(b:Nat):Prop:=∃ nm∈L,holds φ obj nm/\(φ nm).blk=b
theorem uF{obj:Name->Option O}{L:List Name}(h:shut obj L=true){nm:Name}(hn:nm∈L):∃ o,obj nm=some o/\O.clos (cM L) o=true:=by
 have :=List.all_eq_true.1 h nm hn
 cases ho:obj nm with
 |none=>simp[ho]at this
 |some o=>simp only[ho]at this;exact⟨o,rfl,this⟩
theorem kL{L:List Name}{i:Nat}(h:i<L.length):L.getD i []=L[i]:=by rw[List.getD_eq_getElem?_getD,List.getElem?_eq_getElem h];rfl
theorem Q6{L:List Name}{obj:Name->Option O}{nm:Name}(hn:nm∈L):jl L obj (cin L nm)=some (cw L obj nm):=by
 obtain⟨h1,h2⟩:=s5 hn
 show (if idx L nm<L.length then some (cw L obj (L.getD (idx L nm) []))else none)=_
 rw[if_pos h1,kL h1,h2]
theorem NF{L:List Name}{φ:Name->Loc}{nm:Name}(hn:nm∈L):lV L φ (cin L nm)=φ nm:=by
 obtain⟨h1,h2⟩:=s5 hn
 show φ (L.getD (idx L nm) [])=_
 rw[kL h1,h2]
theorem xm{L:List Name}{obj:Name->Option O}:wG (cin L) φ (lV L φ) obj (jl L obj) (cM L):=by
 intro nm o hd ho
 have hn:=gb.1 hd
 refine⟨cw L obj nm,Q6 hn,.inl ⟨?_,NF hn,?_⟩⟩
 ·simp only[cw,ho];exact O.len_ren _ _
 ·simp only[cw,ho];exact O.sz_ren _ _
theorem Bl{L:List Name}{obj:Name->Option O}{x:Name}{o:O}(h:jl L obj x=some o):∃ (i:Nat) (hi:i<L.length),x=[i,1]/\o=cw L obj L[i]:=by
 unfold jl at h
 split at h
 ·rename_i i
  split at h
  ·rename_i hi
   cases h
   exact⟨i,hi,rfl,by rw[kL hi]⟩
  ·cases h
 ·cases h
def rB(w:World)(m:Mem)(L:List Name)(φ:Name->Loc)(obj:Name->Option O)(rd:Option Nat)(h:∀ l,rd=some l->¬ o0 L φ obj l/\∃ r,w.heap[l]?=some (.loop r)):Ghost:=
 ⟨w,m,o0 L φ obj,rd,lV L φ,jl L obj,h⟩
theorem yo{L:List Name}{obj:Name->Option O}(hL:shut obj L=true){x:Name}(h:holds (lV L φ) (jl L obj) x):∃ (i:Nat) (hi:i<L.length),x=[i,1]/\holds φ obj L[i]:=by
 obtain⟨o,h1,h2,h3⟩:=h
 obtain⟨i,hi,rfl,rfl⟩:=Bl h1
 obtain⟨o',h4,_⟩:=uF hL (List.getElem_mem hi)
 refine⟨i,hi,rfl,o',h4,?_,?_⟩
 ·simp only[cw,h4,O.mut_ren]at h2;exact h2
 ·have:lV L φ [i,1]=φ L[i]:=by show φ (L.getD i [])=_;rw[kL hi]
  rw[this]at h3;exact h3
theorem KY(hC:aN G φ m σ a w){L:List Name}(hn:L.Nodup)(hL:shut σ.obj L=true){rd:Option Nat}(mr:∀ l,rd=some l->¬ o0 L φ σ.obj l/\∃ r,w.heap[l]?=some (.loop r))
 {nt b0:Nat} {env:Nat->E} {tmps:Array Value} (hs:tmps.size=nt) (he:∀ t,cl (lV L φ) (jl L σ.obj) m (env t) (tmps.getD t undef)):
 aN (rB w m L φ σ.obj rd mr) (lV L φ) m ⟨nt,env,jl L σ.obj,[0],b0⟩ { tmps:=tmps,defers:=[] } w:=by
 have hφ:∀ (i:Nat) (hi:i<L.length),lV L φ [i,1]=φ L[i]:=fun i hi=>by show φ (L.getD i [])=_;rw[kL hi]
 constructor
 ·exact he
 ·exact hs
 ·exact⟨[],rfl,by simp,by simp⟩
 ·intro x o hx
  obtain⟨i,hi,rfl,rfl⟩:=Bl hx
  obtain⟨o',h4,h5⟩:=uF hL (List.getElem_mem hi)
  rw[hφ i hi]
  simp only[cw,h4]
  exact(hC.objs _ _ h4).ren (Mem.le_refl m) xm h5 fun _ _=>rfl
 ·exact hC.mem
 ·intro x hx off
  obtain⟨i,hi,rfl,h⟩:=yo hL hx
  rw[hφ i hi]
  exact hC.apart _ h off
 ·intro x y hx hy e
  obtain⟨i,hi,rfl,h⟩:=yo hL hx
  obtain⟨j,hj,rfl,h'⟩:=yo hL hy
  rw[hφ i hi,hφ j hj]at e
  have :=(List.getElem_inj hn).1 (hC.inj _ _ h h' e)
  rw[this]
 ·intro x hx
  obtain⟨i,hi,rfl,h⟩:=yo hL hx
  rw[hφ i hi]
  exact .inr ⟨_,List.getElem_mem hi,h,rfl⟩
 ·exact⟨rfl,rfl,rfl,Nat.le_refl _,fun _ _ _=>rfl⟩
 ·intro b off v h;exact .inl h
 ·refine⟨fun x o hx=>?_,Ext.refl _ _⟩
  obtain⟨i,hi,rfl,_⟩:=Bl hx
  exact GN i
structure ND (σ:S) (os:List O) (o:Out):Prop where
 objs:∀ i (h:i<os.length),σ.obj [i,1]=some (eB o.upd i os[i])
 news:∀ x∈o.new,σ.obj x.1=some x.2
 cd:D.clos (cV os.length o.new) o.d=true
 cu:(o.upd.all fun x=>O.clos (cV os.length o.new) x.2&&decide (x.1<os.length))=true
 cn:(o.new.all fun x=>O.clos (cV os.length o.new) x.2&&!cT x.1)=true
 nd:(o.new.map (·.1)).Nodup
def fresh(obj:Name->Option O)(t:Name)(new:List (Name×O)):Bool:=new.all fun x=>(obj (x.1++t)).isNone
theorem Xa{n:Nat}{new:List (Name×O)}{x:Name×O}(h:cT x.1=false)(hx:x∈new):cV n new x.1=true:=by
 have key:∀ nm:Name,cT nm=false->cV n new nm=new.any fun y=>y.1==nm:=by
  intro nm h
  unfold cV
  split
  ·simp[cT]at h
  ·rfl
 rw[key _ h]
 exact List.any_eq_true.2 ⟨x,hx,by simp⟩
theorem HC{dom:Name->Bool}:∀ (l:List (Nat×O)) (i:Nat) (o:O),O.clos dom o=true->(∀ x∈l,O.clos dom x.2=true)->O.clos dom (eB l i o)=true
 |[],_,_,h,_=>h
 |(j,o')::r,i,o,h,hl=>by
  simp only[eB]
  refine HC r i _ ?_ fun x hx=>hl x (by simp[hx])
  split
  ·exact hl (j,o') (by simp)
  ·exact h
mutual
theorem clos_ren{f:Name->Name}{dom dom':Name->Bool}(hf:∀ nm,dom nm=true->dom' (f nm)=true):∀ d:D,D.clos dom d=true->D.clos dom' (d.ren f)=true
 | .v _,_=>by simp only[D.ren,D.clos]
 | .nilsl,_=>by simp only[D.ren,D.clos]
 | .nilmap,_=>by simp only[D.ren,D.clos]
 | .any,_=>by simp only[D.ren,D.clos]
 | .ref nm _,h=>hf nm h
 | .msl nm _,h=>hf nm h
 | .aref nm _ _ _,h=>hf nm h
 | .map nm,h=>hf nm h
 | .yld nm,h=>hf nm h
 | .clo _ a b,h=>by
   simp only[D.clos,Bool.and_eq_true]at h
   simp only[D.ren,D.clos,Bool.and_eq_true]
   exact⟨rK hf a h.1,rK hf b h.2⟩
 | .agg l,h=>by simp only[D.clos]at h;simp only[D.ren,D.clos];exact rK hf l h
 | .tup l,h=>by simp only[D.clos]at h;simp only[D.ren,D.clos];exact rK hf l h
theorem rK{f:Name->Name}{dom dom':Name->Bool}(hf:∀ nm,dom nm=true->dom' (f nm)=true):∀ l:List D,D.closL dom l=true->D.closL dom' (D.renL f l)=true
 |[],_=>by simp only[D.renL,D.closL]
 |d::r,h=>by
  simp only[D.closL,Bool.and_eq_true]at h
  simp only[D.renL,D.closL,Bool.and_eq_true]
  exact⟨clos_ren hf d h.1,rK hf r h.2⟩
end
theorem O.clos_ren{f:Name->Name}{dom dom':Name->Bool}(hf:∀ nm,dom nm=true->dom' (f nm)=true)(o:O)(h:O.clos dom o=true):O.clos dom' (o.ren f)=true:=by
 cases o with
 |box cs=>simp only[O.clos]at h;simp only[O.ren,O.clos];exact rK hf cs h
 |loop env ps asg body st bA=>
  simp only[O.clos]at h
  simp only[O.ren,O.clos]
  have :=rK hf _ h
  rw[jI,List.map_map]at this
  rw[List.map_map]
  exact this
 |_=>rfl
theorem KX(hC:aN G φ m σ a w){L:List Name}(hn:L.Nodup)(hL:shut σ.obj L=true){rd:Option Nat}{mr:∀ l,rd=some l->¬ o0 L φ σ.obj l/\∃ r,w.heap[l]?=some (.loop r)}
 {φ2:Name->Loc} {m2:Mem} {σ2:S} {a2:Act} {w2:World} (fa:aN (rB w m L φ σ.obj rd mr) φ2 m2 σ2 a2 w2) {o:Out} (hE:ND σ2 (L.map (cw L σ.obj)) o) {t:Name} (hf:fresh σ.obj t o.new=true):
 ∃ φ' m',Mem.le m m'/\aN G φ' m' { σ with obj:=di L t o.new (cr L t o.upd σ.obj) } a w2/\
   Ext φ φ' σ.obj (di L t o.new (cr L t o.upd σ.obj))/\
   (∀ d u,aD φ2 σ2.obj m2 d u->D.clos (cV L.length o.new) d=true->aD φ' (di L t o.new (cr L t o.upd σ.obj)) m' (d.ren (cout L t)) u):=by
 have hlen:(L.map (cw L σ.obj)).length=L.length:=by simp
 obtain⟨h1,h2,h3,h4,h5,h6⟩:=hE
 rw[hlen]at h3 h4 h5
 have hu:(o.upd.all fun x=>decide (x.1<L.length))=true:=List.all_eq_true.2 fun x hx=>by
  have :=List.all_eq_true.1 h4 x hx
  simp only[Bool.and_eq_true]at this;exact this.2
 have yf:∀ x∈o.upd,O.clos (cV L.length o.new) x.2=true:=fun x hx=>by
  have :=List.all_eq_true.1 h4 x hx
  simp only[Bool.and_eq_true]at this;exact this.1
 have U2:∀ x∈o.new,O.clos (cV L.length o.new) x.2=true:=fun x hx=>by
  have :=List.all_eq_true.1 h5 x hx
  simp only[Bool.and_eq_true]at this;exact this.1
 have CG:∀ x∈o.new,cT x.1=false:=fun x hx=>by
  have :=List.all_eq_true.1 h5 x hx
  simp only[Bool.and_eq_true,Bool.not_eq_true']at this;exact this.2
 have cI:∀ x∈o.new,σ.obj (x.1++t)=none:=fun x hx=>by
  have :=List.all_eq_true.1 hf x hx
  simpa using this
 have Wr:∀ nm∈L,∃ o,σ.obj nm=some o:=fun nm h=>let ⟨o,h,_⟩:=uF hL h;⟨o,h⟩
 have ru:∀ nm∈L,∀ x∈o.new,nm≠x.1++t:=fun nm h x hx e=>by
  obtain⟨o',ho⟩:=Wr nm h
  rw[e,cI x hx]at ho;cases ho
 have VY:∀ nm,cM L nm=true->cout L t (cin L nm)=nm:=fun nm h=>Xz (gb.1 h)
 generalize eM:di L t o.new (cr L t o.upd σ.obj)=obj'
 have yp:∀ (i:Nat) (hi:i<L.length),obj' L[i]=some ((eB o.upd i (cw L σ.obj L[i])).ren (cout L t)):=fun i hi=>by
  rw[<-eM,uQ _ _ (ru _ (List.getElem_mem hi))]
  refine Gu hn _ _ hi _ hu ?_
  obtain⟨o',ho,hc⟩:=uF hL (List.getElem_mem hi)
  simp only[cw,ho]
  rw[O.ren_id VY o' hc]
 have CE:∀ x∈o.new,obj' (x.1++t)=some (x.2.ren (cout L t)):=fun x hx=>by rw[<-eM];exact Gv _ _ h6 hx
 have CD:∀ nm,nm∉L->(∀ x∈o.new,nm≠x.1++t)->obj' nm=σ.obj nm:=fun nm h h'=>by rw[<-eM,uQ _ _ h',Ba _ _ hu h]
 let φ':Name->Loc:=fun nm=>if nm∈L then φ2 (cin L nm)else match o.new.find? (fun x=>x.1++t==nm)with
  |some x=>φ2 x.1
  |none=>φ nm
 have vt:∀ (i:Nat) (hi:i<L.length),φ' L[i]=φ2 [i,1]:=fun i hi=>by
  show (if L[i]∈L then φ2 (cin L L[i])else _)=_
  rw[if_pos (List.getElem_mem hi)]
  show φ2 [idx L L[i],1]=_
  rw[B9 hn hi]
 have xZ:∀ x∈o.new,φ' (x.1++t)=φ2 x.1:=fun x hx=>by
  show (if x.1++t∈L then _ else _)=_
  rw[if_neg fun h=>ru _ h x hx rfl]
  cases mB:o.new.find? (fun y=>y.1++t==x.1++t)with
  |none=>have:=List.find?_eq_none.1 mB x hx;simp at this
  |some y=>
   have :=List.find?_some mB
   simp only[beq_iff_eq]at this
   simp only[List.append_cancel_right this]
 have xY:∀ nm,nm∉L->(∀ x∈o.new,nm≠x.1++t)->φ' nm=φ nm:=fun nm h h'=>by
  show (if nm∈L then _ else _)=_
  rw[if_neg h]
  cases mB:o.new.find? (fun y=>y.1++t==nm)with
  |none=>rfl
  |some y=>
   have :=List.find?_some mB
   simp only[beq_iff_eq]at this
   exact(h' y (List.mem_of_find?_eq_some mB) this.symm).elim
 let m':Mem:=fun b off=>match m2 b off with | some c=>some c | none=>m b off
 have yn:=fa.own
 have qZ:∀ b,o0 L φ σ.obj b->b<w.heap.size:=fun b ⟨nm,h,⟨o',k1,k2,k3⟩,e⟩=>by rw[<-e];exact(hC.objs nm o' k1).lt k2 k3
 have CM:Mem.le m m':=by
  intro b off v h
  show (match m2 b off with | some c=>some c | none=>m b off)=some v
  cases hq:m2 b off with
  |none=>exact h
  |some c=>
   have k1:=fa.mem b off c hq
   have k2:=hC.mem b off v h
   rw[p6 (fa.fr.block b (nL k2) fun ⟨nm,_,k3,e⟩=>by
    have :=hC.apart nm k3 off;rw[e,h]at this;cases this)]at k1
   have k3:World.cell? w ⟨b,off,none⟩=some c:=k1
   rw[k2]at k3;exact k3.symm
 have CK:Mem.le m2 m':=by
  intro b off v h
  show (match m2 b off with | some c=>some c | none=>m b off)=some v
  rw[h]
 have yw:∀ b off v,m' b off=some v->m2 b off=some v\/(m2 b off=none/\m b off=some v):=by
  intro b off v h
  have h':(match m2 b off with | some c=>some c | none=>m b off)=some v:=h
  cases hq:m2 b off with
  |none=>rw[hq]at h';exact .inr ⟨rfl,h'⟩
  |some c=>rw[hq]at h';exact .inl h'
 have C':∀ x,cV L.length o.new x=true->(∃ (i:Nat) (hi:i<L.length),x=[i,1])\/(cT x=false/\∃ y∈o.new,y.1=x):=by
  intro x hx
  unfold cV at hx
  split at hx
  ·rename_i i
   exact .inl ⟨i,by simpa using hx,rfl⟩
  ·obtain⟨y,hy,e⟩:=List.any_eq_true.1 hx
   simp only[beq_iff_eq]at e
   subst e
   exact .inr ⟨CG y hy,y,hy,rfl⟩
 have tq:∀ (i:Nat) (hi:i<L.length),cout L t [i,1]=L[i]:=fun i hi=>kL hi
 have mA:∀ (i:Nat) (hi:i<L.length),σ2.obj [i,1]=some (eB o.upd i (cw L σ.obj L[i])):=fun i hi=>by
  have :=h1 i (by simpa using hi)
  simpa using this
 have Cp:wG (cout L t) φ2 φ' σ2.obj obj' (cV L.length o.new):=by
  intro x q hd hq
  rcases C' x hd with⟨i,hi,rfl⟩ | ⟨hi,y,hy,rfl⟩
  ·rw[tq i hi,yp i hi,vt i hi]
   rw[mA i hi]at hq;cases hq
   exact⟨_,rfl,.inl ⟨O.len_ren _ _,rfl,O.sz_ren _ _⟩⟩
  ·rw[tR hi,CE y hy,xZ y hy]
   rw[h2 y hy]at hq;cases hq
   exact⟨_,rfl,.inl ⟨O.len_ren _ _,rfl,O.sz_ren _ _⟩⟩
 have VD:∀ (i:Nat) (hi:i<L.length),O.clos (cV L.length o.new) (eB o.upd i (cw L σ.obj L[i]))=true:=by
  intro i hi
  refine HC _ _ _ ?_ yf
  obtain⟨o',ho,hc⟩:=uF hL (List.getElem_mem hi)
  simp only[cw,ho]
  refine O.clos_ren (fun nm hd=>?_) o' hc
  obtain⟨k1,_⟩:=s5 (gb.1 hd)
  show decide (idx L nm<L.length)=true
  simpa using k1
 have yH:Ext φ φ' σ.obj obj':=by
  intro nm q hq
  by_cases fw:nm∈L
  ·obtain⟨i,hi,rfl⟩:=List.getElem_of_mem fw
   obtain⟨Bq,k1,k2⟩:=fa.kept.2 [i,1] (cw L σ.obj L[i]) (by
    show jl L σ.obj [i,1]=_
    show (if i<L.length then _ else _)=_
    rw[if_pos hi,kL hi])
   have T4:Bq=eB o.upd i (cw L σ.obj L[i]):=by rw[mA i hi]at k1;exact(Option.some.inj k1).symm
   subst T4
   have Uh:lV L φ [i,1]=φ L[i]:=by show φ (L.getD i [])=_;rw[kL hi]
   have cC:(cw L σ.obj L[i]).len?=q.len?/\(cw L σ.obj L[i]).sz=q.sz:=by
    simp only[cw,hq];exact⟨O.len_ren _ _,O.sz_ren _ _⟩
   refine⟨_,yp i hi,?_⟩
   rw[O.len_ren,O.sz_ren,vt i hi]
   rcases k2 with⟨a1,a2,a3⟩ | ⟨n,n',a1,a2,a3⟩
   ·exact .inl ⟨a1.trans cC.1,(a2:φ2 [i,1]=lV L φ [i,1]).trans Uh,a3.trans cC.2⟩
   ·exact .inr ⟨n,n',cC.1▸a1,a2,a3⟩
  ·have pL:∀ x∈o.new,nm≠x.1++t:=fun x hx e=>by rw[e,cI x hx]at hq;cases hq
   exact⟨q,by rw[CD nm fw pL];exact hq,.inl ⟨rfl,xY nm fw pL,rfl⟩⟩
 have tu:∀ nm,holds φ' obj' nm->(∃ x,holds φ2 σ2.obj x/\φ' nm=φ2 x/\nm=cout L t x/\cV L.length o.new x=true)\/(nm∉L/\(∀ x∈o.new,nm≠x.1++t)/\holds φ σ.obj nm/\φ' nm=φ nm):=by
  rintro nm ⟨q,k1,k2,k3⟩
  by_cases fw:nm∈L
  ·obtain⟨i,hi,rfl⟩:=List.getElem_of_mem fw
   left
   rw[yp i hi]at k1;cases k1
   rw[O.mut_ren]at k2
   rw[vt i hi]at k3
   exact⟨[i,1],⟨_,mA i hi,k2,k3⟩,vt i hi,(tq i hi).symm,by show decide (i<L.length)=true;simpa using hi⟩
  ·by_cases pL:∃ x∈o.new,nm=x.1++t
   ·obtain⟨x,hx,rfl⟩:=pL
    left
    rw[CE x hx]at k1;cases k1
    rw[O.mut_ren]at k2
    rw[xZ x hx]at k3
    refine⟨x.1,⟨_,h2 x hx,k2,k3⟩,xZ x hx,(tR (CG x hx)).symm,?_⟩
    exact Xa (CG x hx) hx
   ·have qS:∀ x∈o.new,nm≠x.1++t:=fun x hx e=>pL ⟨x,hx,e⟩
    right
    rw[CD nm fw qS]at k1
    rw[xY nm fw qS]at k3
    exact⟨fw,qS,⟨q,k1,k2,k3⟩,xY nm fw qS⟩
 have iK:∀ nm,nm∉L->holds φ σ.obj nm->(φ nm).blk<w.heap.size/\¬ o0 L φ σ.obj (φ nm).blk:=by
  intro nm fw hh
  obtain⟨q,k1,k2,k3⟩:=hh
  refine⟨(hC.objs nm q k1).lt k2 k3,fun ⟨x,k4,k5,k6⟩=>?_⟩
  exact fw (hC.inj _ _ k5 ⟨q,k1,k2,k3⟩ k6▸k4)
 have ad6:∀ x y,cV L.length o.new x=true->cV L.length o.new y=true->cout L t x=cout L t y->x=y:=by
  intro x y hx hy e
  rcases C' x hx with⟨i,hi,rfl⟩ | ⟨k1,x',br,rfl⟩<;>rcases C' y hy with⟨j,hj,rfl⟩ | ⟨k2,y',Um,rfl⟩
  ·rw[tq i hi,tq j hj]at e
   rw[(List.getElem_inj hn).1 e]
  ·rw[tq i hi,tR k2]at e
   exact(ru _ (List.getElem_mem hi) y' Um e).elim
  ·rw[tq j hj,tR k1]at e
   exact(ru _ (List.getElem_mem hj) x' br e.symm).elim
  ·rw[tR k1,tR k2]at e
   exact List.append_cancel_right e
 refine⟨φ',m',CM,?_,yH,fun d u hd hc=>hd.renx CK Cp hc⟩
 constructor
 ·exact fun x=>(hC.tmps x).ext CM yH
 ·exact hC.size
 ·obtain⟨ds,k1,k2,k3⟩:=hC.defers
  refine⟨ds,k1,k2,fun D hD=>⟨(k3 D hD).1,?_⟩⟩
  have k4:=(k3 D hD).2
  rw[fa.fr.block D (Array.getElem?_eq_some_iff.1 k4).1 fun ⟨x,_,⟨q,k5,k6,k7⟩,k8⟩=>(hC.objs x q k5).notDef k6 k7 _ (by rw[k8];exact k4)]
  exact k4
 ·intro nm q hq
  by_cases fw:nm∈L
  ·obtain⟨i,hi,rfl⟩:=List.getElem_of_mem fw
   have cj:obj' L[i]=some q:=hq
   rw[yp i hi]at cj;cases cj
   rw[vt i hi]
   exact(fa.objs _ _ (mA i hi)).ren CK Cp (VD i hi) fun _ _=>rfl
  ·by_cases pL:∃ x∈o.new,nm=x.1++t
   ·obtain⟨x,hx,rfl⟩:=pL
    have cj:obj' (x.1++t)=some q:=hq
    rw[CE x hx]at cj;cases cj
    rw[xZ x hx]
    exact(fa.objs _ _ (h2 x hx)).ren CK Cp (U2 x hx) fun _ _=>rfl
   ·have qS:∀ x∈o.new,nm≠x.1++t:=fun x hx e=>pL ⟨x,hx,e⟩
    have cj:obj' nm=some q:=hq
    rw[CD nm fw qS]at cj
    rw[xY nm fw qS]
    refine(hC.objs nm q cj).ext CM yH fun k2 k3=>?_
    obtain⟨k4,k5⟩:=iK nm fw ⟨q,cj,k2,k3⟩
    exact fa.fr.block _ k4 k5
 ·intro b off v h
  rcases yw b off v h with h | ⟨yv,h⟩
  ·exact fa.mem b off v h
  ·have k2:=hC.mem b off v h
   rw[p6 (fa.fr.block b (nL k2) fun ⟨nm,_,k3,e⟩=>by
    have :=hC.apart nm k3 off;rw[e,h]at this;cases this)]
   exact k2
 ·intro nm hh off
  rcases tu nm hh with⟨x,k1,k2,_,_⟩ | ⟨k1,k2,k3,k4⟩
  ·rw[k2]
   cases hq:m' (φ2 x).blk off with
   |none=>rfl
   |some v=>
    rcases yw _ _ _ hq with h | ⟨_,h⟩
    ·have:=fa.apart x k1 off;rw[h]at this;cases this
    ·rcases yn x k1 with h' | ⟨jJ,k5,k6,k7⟩
     ·have:=nL (hC.mem _ _ _ h)
      have gj:w.heap.size<=(φ2 x).blk:=h'
      omega
     ·have:=hC.apart jJ k6 off
      rw[k7,h]at this;cases this
  ·rw[k4]
   obtain⟨k5,k6⟩:=iK nm k1 k3
   cases hq:m' (φ nm).blk off with
   |none=>rfl
   |some v=>
    rcases yw _ _ _ hq with h | ⟨_,h⟩
    ·rcases fa.fresh _ _ _ h with h' | h' | h'
     ·have:=hC.apart nm k3 off
      have gj:m (φ nm).blk off=some v:=h'
      rw[gj]at this;cases this
     ·have gj:w.heap.size<=(φ nm).blk:=h'
      omega
     ·exact(k6 h').elim
    ·have:=hC.apart nm k3 off;rw[h]at this;cases this
 ·intro nm jJ hh Vq e
  rcases tu nm hh with⟨x,k1,k2,k3,k4⟩ | ⟨k1,k2,k3,k4⟩<;>rcases tu jJ Vq with⟨x',j1,j2,j3,j4⟩ | ⟨j1,j2,j3,j4⟩
  ·rw[k2,j2]at e
   rw[k3,j3,fa.inj _ _ k1 j1 e]
  ·exfalso
   rw[k2,j4]at e
   obtain⟨k5,k6⟩:=iK jJ j1 j3
   rcases yn x k1 with h' | h'
   ·have gj:w.heap.size<=(φ2 x).blk:=h'
    omega
   ·rw[e]at h';exact k6 h'
  ·exfalso
   rw[k4,j2]at e
   obtain⟨k5,k6⟩:=iK nm k1 k3
   rcases yn x' j1 with h' | h'
   ·have gj:w.heap.size<=(φ2 x').blk:=h'
    omega
   ·rw[<-e]at h';exact k6 h'
  ·rw[k4,j4]at e
   exact hC.inj _ _ k3 j3 e
 ·intro nm hh
  rcases tu nm hh with⟨x,k1,k2,_,_⟩ | ⟨k1,k2,k3,k4⟩
  ·rw[k2]
   rcases yn x k1 with h' | ⟨jJ,k5,k6,k7⟩
   ·exact .inl (Nat.le_trans hC.fr.size h')
   ·rw[<-k7];exact hC.own jJ k6
  ·rw[k4];exact hC.own nm k3
 ·refine⟨fa.fr.os.trans hC.fr.os,fa.fr.tape.trans hC.fr.tape,fa.fr.output.trans hC.fr.output,Nat.le_trans hC.fr.size fa.fr.size,fun b hb ho=>?_⟩
  rw[fa.fr.block b (Nat.lt_of_lt_of_le hb hC.fr.size) fun ⟨nm,_,k3,e⟩=>?_]
  ·exact hC.fr.block b hb ho
  ·rcases hC.own nm k3 with h | h<;>rw[e]at h
   ·omega
   ·exact ho h
 ·intro b off v h
  rcases yw b off v h with h | ⟨_,h⟩
  ·rcases fa.fresh _ _ _ h with h' | h' | ⟨nm,_,k3,e⟩
   ·exact hC.fresh _ _ _ h'
   ·exact .inr (.inl (Nat.le_trans hC.fr.size h'))
   ·rw[<-e];exact .inr (hC.own nm k3)
  ·exact hC.fresh _ _ _ h
 ·exact⟨hC.kept.1,hC.kept.2.trans yH⟩
end
def cW:Nat->List D->List (Nat×E)
 |_,[]=>[]
 |k,x::r=>(k,⟨true,x⟩)::cW (k+1) r
theorem MU:∀ {k:Nat} {xs:List D} {t:Nat} {e:E},(t,e)∈cW k xs->∃ (i:Nat) (h:i<xs.length),t=k+i/\e=⟨true,xs[i]⟩
 |k,[],t,e,h=>by simp[cW]at h
 |k,x::r,t,e,h=>by
  simp only[cW,List.mem_cons,Prod.mk.injEq]at h
  rcases h with⟨rfl,rfl⟩ | h
  ·exact⟨0,by simp,rfl,rfl⟩
  ·obtain⟨i,hi,h1,h2⟩:=MU h
   exact⟨i+1,by simpa using hi,by omega,by simpa using h2⟩
structure CSpec where
 pre:List O->List D->Prop
 out:List O->List D->Out
def cp(obj:Name->Option O)(ds:List D):List O:=(reach obj ds).map (cw (reach obj ds) obj)
def cQ(obj:Name->Option O)(ds:List D):List D:=D.renL (cin (reach obj ds)) ds
def CSpec.toSpec(s:CSpec):Spec where
 app obj t ds:=⟨(shut obj (reach obj ds)&&D.closL (cM (reach obj ds)) ds&&fresh obj t (s.out (cp obj ds) (cQ obj ds)).new)=true/\s.pre (cp obj ds) (cQ obj ds),
  (s.out (cp obj ds) (cQ obj ds)).d.ren (cout (reach obj ds) t),di (reach obj ds) t (s.out (cp obj ds) (cQ obj ds)).new (cr (reach obj ds) t (s.out (cp obj ds) (cQ obj ds)).upd obj)⟩
 foot obj t ds:=reach obj ds++((s.out (cp obj ds) (cQ obj ds)).upd.map fun x=>(reach obj ds).getD x.1 [])++(s.out (cp obj ds) (cQ obj ds)).new.map fun x=>x.1++t
 wrt obj t ds:=((s.out (cp obj ds) (cQ obj ds)).upd.map fun x=>(reach obj ds).getD x.1 [])++(s.out (cp obj ds) (cQ obj ds)).new.map fun x=>x.1++t
theorem sH{L:List Name}{t:Name}:∀ (l:List (Nat×O)) (obj obj2:Name->Option O) (nm:Name),cr L t l obj2 nm=if nm∈l.map (fun x=>L.getD x.1 [])then cr L t l obj nm else obj2 nm
 |[],obj,obj2,nm=>by simp[cr]
 |(i,o)::r,obj,obj2,nm=>by
  simp only[cr,List.map_cons,List.mem_cons]
  rw[sH r (upd obj (L.getD i []) (some (o.ren (cout L t)))) (upd obj2 (L.getD i []) (some (o.ren (cout L t)))) nm]
  by_cases h:nm∈r.map (fun x=>L.getD x.1 [])
  ·rw[if_pos h,if_pos (.inr h)]
  ·rw[if_neg h]
   by_cases e:nm=L.getD i []
   ·rw[if_pos (.inl e)]
    have hu:cr L t r (upd obj (L.getD i []) (some (o.ren (cout L t)))) nm=(upd obj (L.getD i []) (some (o.ren (cout L t)))) nm:=by
     rw[sH r obj _ nm,if_neg h]
    rw[hu,e,aQ,aQ]
   ·rw[if_neg (by simp only[not_or];exact⟨e,h⟩)]
    exact aZ _ _ _ e
theorem qo{L:List Name}{t:Name}:∀ (l:List (Name×O)) (obj obj2:Name->Option O) (nm:Name),di L t l obj2 nm=if nm∈l.map (fun x=>x.1++t)then di L t l obj nm else obj2 nm
 |[],obj,obj2,nm=>by simp[di]
 |(i,o)::r,obj,obj2,nm=>by
  simp only[di,List.map_cons,List.mem_cons]
  rw[qo r (upd obj (i++t) (some (o.ren (cout L t)))) (upd obj2 (i++t) (some (o.ren (cout L t)))) nm]
  by_cases h:nm∈r.map (fun x=>x.1++t)
  ·rw[if_pos h,if_pos (.inr h)]
  ·rw[if_neg h]
   by_cases e:nm=i++t
   ·rw[if_pos (.inl e)]
    have hu:di L t r (upd obj (i++t) (some (o.ren (cout L t)))) nm=(upd obj (i++t) (some (o.ren (cout L t)))) nm:=by
     rw[qo r obj _ nm,if_neg h]
    rw[hu,e,aQ,aQ]
   ·rw[if_neg (by simp only[not_or];exact⟨e,h⟩)]
    exact aZ _ _ _ e
theorem oa{obj obj2:Name->Option O}{ds:List D}(h:bG (reach obj ds) obj obj2):reach obj2 ds=reach obj ds:=A5 _ _ _ h
theorem wk{obj obj2:Name->Option O}{ds:List D}(h:bG (reach obj ds) obj obj2):cp obj2 ds=cp obj ds:=by
 unfold cp
 rw[oa h]
 exact List.map_congr_left fun nm hn=>by simp only[cw];rw[h nm hn]
theorem D9{obj obj2:Name->Option O}{ds:List D}(h:bG (reach obj ds) obj obj2):cQ obj2 ds=cQ obj ds:=by
 unfold cQ
 rw[oa h]
theorem AM{obj obj2:Name->Option O}{L:List Name}(h:bG L obj obj2):shut obj2 L=shut obj L:=by
 unfold shut
 refine Bool.eq_iff_iff.2 ?_
 simp only[List.all_eq_true]
 exact⟨fun k x hx=>by rw[<-h x hx];exact k x hx,fun k x hx=>by rw[h x hx];exact k x hx⟩
theorem yX{obj obj2:Name->Option O}{t:Name}{new:List (Name×O)}(h:bG (new.map fun x=>x.1++t) obj obj2):fresh obj2 t new=fresh obj t new:=by
 unfold fresh
 refine Bool.eq_iff_iff.2 ?_
 simp only[List.all_eq_true]
 exact⟨fun k x hx=>by rw[<-h _ (List.mem_map_of_mem hx)];exact k x hx,fun k x hx=>by rw[h _ (List.mem_map_of_mem hx)];exact k x hx⟩
theorem BO{ok ok2:Prop}{d:D}{obj obj2:Name->Option O}{L:List Name}{t:Name}{o:Out}(aa:ok2=ok)
 (ha:bG ((o.upd.map fun x=>L.getD x.1 [])++o.new.map fun x=>x.1++t) obj obj2):
 bO ⟨ok,d,di L t o.new (cr L t o.upd obj)⟩ ⟨ok2,d,di L t o.new (cr L t o.upd obj2)⟩ obj obj2 ((o.upd.map fun x=>L.getD x.1 [])++o.new.map fun x=>x.1++t):=by
 refine⟨aa,rfl,fun nm=>?_,fun nm hn=>?_⟩
 ·show di L t o.new (cr L t o.upd obj2) nm=if nm∈_ then di L t o.new (cr L t o.upd obj) nm else obj2 nm
  rw[qo o.new (cr L t o.upd obj) (cr L t o.upd obj2) nm]
  by_cases h1:nm∈o.new.map (fun x=>x.1++t)
  ·rw[if_pos h1,if_pos (List.mem_append_right _ h1)]
  ·rw[if_neg h1,sH o.upd obj obj2 nm]
   by_cases h2:nm∈o.upd.map (fun x=>L.getD x.1 [])
   ·rw[if_pos h2,if_pos (List.mem_append_left _ h2)]
    rw[qo o.new obj (cr L t o.upd obj) nm,if_neg h1]
   ·rw[if_neg h2,if_neg (by simp only[List.mem_append,not_or];exact⟨h2,h1⟩)]
 ·show di L t o.new (cr L t o.upd obj) nm=obj nm
  simp only[List.mem_append,not_or]at hn
  rw[qo o.new obj (cr L t o.upd obj) nm,if_neg hn.2,sH o.upd obj obj nm,if_neg hn.1]
theorem CSpec.near(s:CSpec):s.toSpec.Near:=by
 have key:∀ {obj obj2:Name->Option O} {t:Name} {ds:List D},bG (s.toSpec.foot obj t ds) obj obj2->bG (reach obj ds) obj obj2/\
     bG (((s.out (cp obj ds) (cQ obj ds)).upd.map fun x=>(reach obj ds).getD x.1 [])++(s.out (cp obj ds) (cQ obj ds)).new.map fun x=>x.1++t) obj obj2:=by
  intro obj obj2 t ds h
  refine⟨fun nm hn=>h nm ?_,fun nm hn=>h nm ?_⟩
  ·exact List.mem_append_left _ (List.mem_append_left _ hn)
  ·rcases List.mem_append.1 hn with hn | hn
   ·exact List.mem_append_left _ (List.mem_append_right _ hn)
   ·exact List.mem_append_right _ hn
 refine⟨fun obj obj2 t ds h=>?_,fun obj obj2 t ds h=>?_,fun obj t ds nm hn=>?_,fun obj obj2 t ds h=>?_⟩
 ·obtain⟨h1,h2⟩:=key h
  simp only[CSpec.toSpec]
  rw[wk h1,D9 h1,oa h1]
  refine BO ?_ h2
  rw[AM h1,yX fun nm hn=>h2 nm (List.mem_append_right _ hn)]
 ·obtain⟨h1,h2⟩:=key h
  simp only[CSpec.toSpec]
  rw[wk h1,D9 h1,oa h1]
 ·simp only[CSpec.toSpec]at hn |-
  rcases List.mem_append.1 hn with hn | hn
  ·exact List.mem_append_left _ (List.mem_append_right _ hn)
  ·exact List.mem_append_right _ hn
 ·obtain⟨h1,h2⟩:=key h
  simp only[CSpec.toSpec]
  rw[wk h1,D9 h1,oa h1]
def qq(σ:S)(u:List (Nat×O)):Nat->List O->Prop
 |_,[]=>True
 |i,o::r=>σ.obj [i,1]=some (eB u i o)/\qq σ u (i+1) r
theorem G7{σ:S}{u:List (Nat×O)}:∀ {l:List O} {k:Nat},qq σ u k l->∀ i (h:i<l.length),σ.obj [k+i,1]=some (eB u (k+i) l[i])
 |o::r,k,h,0,_=>h.1
 |o::r,k,h,i+1,hi=>by
  have :=G7 h.2 i (by simpa using hi)
  rw[show k+(i+1)=k+1+i by omega]
  simpa using this
def uY(σ:S):List (Name×O)->Prop
 |[]=>True
 |x::r=>σ.obj x.1=some x.2/\uY σ r
theorem Hb{σ:S}:∀ {l:List (Name×O)},uY σ l->∀ x∈l,σ.obj x.1=some x.2
 |y::r,h,x,hx=>by
  rcases List.mem_cons.1 hx with rfl | hx
  ·exact h.1
  ·exact Hb h.2 x hx
def distinct:List Name->Bool
 |[]=>true
 |x::r=>(r.all fun y=>!(x==y))&&distinct r
theorem LG:∀ {l:List Name},distinct l=true->l.Nodup
 |[],_=>by simp
 |x::r,h=>by
  simp only[distinct,Bool.and_eq_true]at h
  refine List.nodup_cons.2 ⟨fun hx=>?_,LG h.2⟩
  have :=List.all_eq_true.1 h.1 x hx
  simp at this
def fT(os:List O)(o:Out)(σ:S):Prop:=
 qq σ o.upd 0 os/\uY σ o.new/\
  (D.clos (cV os.length o.new) o.d&&(o.upd.all fun x=>O.clos (cV os.length o.new) x.2&&decide (x.1<os.length))&&(o.new.all fun x=>O.clos (cV os.length o.new) x.2&&!cT x.1)&&distinct (o.new.map (·.1)))=true
theorem Lx{os:List O}{o:Out}{σ:S}(h:fT os o σ):ND σ os o:=by
 obtain⟨h1,h2,h3⟩:=h
 simp only[Bool.and_eq_true]at h3
 exact⟨fun i hi=>by simpa using G7 h1 i hi,Hb h2,h3.1.1.1,h3.1.1.2,by simpa using h3.1.2,LG h3.2⟩
def uN(P:Program)(rs:List ResultVar)(os:List O)(o:Out):Exit->S->Prop
 | .normal,σ=>(bL P σ rs).ok/\(bL P σ rs).d=o.d/\fT os o σ
 | .ret,σ=>(bL P σ rs).ok/\(bL P σ rs).d=o.d/\fT os o σ
 |_,_=>False
def aV(os:List O):Name->Option O
 |[i,1]=>os[i]?
 |_=>none
theorem Q5{L:List Name}{obj:Name->Option O}{x:Name}(h:cT x=false):jl L obj x=none:=by
 unfold jl
 split
 ·simp[cT]at h
 ·rfl
theorem xr{os:List O}{x:Name}(h:cT x=false):aV os x=none:=by
 unfold aV
 split
 ·simp[cT]at h
 ·rfl
theorem xA{L:List Name}{obj:Name->Option O}:jl L obj=aV (L.map (cw L obj)):=by
 funext x
 cases hx:cT x with
 |false=>rw[Q5 hx,xr hx]
 |true=>
  obtain⟨i,rfl⟩:=vo.1 hx
  show (if i<L.length then some (cw L obj (L.getD i []))else none)=(L.map (cw L obj))[i]?
  by_cases hi:i<L.length
  ·rw[if_pos hi,List.getElem?_eq_getElem (by simpa using hi)]
   rw[kL hi,List.getElem_map]
  ·rw[if_neg hi,List.getElem?_eq_none (by simpa using hi)]
theorem BB{nt:Nat}{l:List (Nat×E)}{os:List O}:bc nt [0] (aV os) l []=⟨nt,dE eAny l,aV os,[0],0⟩:=by
 unfold bc
 congr 1
 funext nm
 split
 ·rename_i h
  have :cT nm=false:=by
   cases hc:cT nm with
   |false=>rfl
   |true=>
    obtain⟨i,rfl⟩:=vo.1 hc
    rw[GN]at h;cases h
  unfold aV
  split
  ·simp[cT]at this
  ·rfl
 ·rfl
theorem nI{P:Program}{f:FuncId}{fn:Func}{c:Code}{s:CSpec}{nt:Nat}{rs:List ResultVar}(hf:P.funcs[f]?=some fn)(hb:fn.body=some c)(ca:fn.ntmps=nt)(bQ:fn.results.toList=rs)
 (kJ:∀ args w,(callFunc f args).run P w=.ok (.enter f args) w) (aG:f≠yid)
 (h:∀ os ds,s.pre os ds->ds.length<=nt/\CW P c (bc nt [0] (aV os) (cW 0 ds) []) (uN P rs os (s.out os ds))):aM P f s.toSpec:=by
 subst ca
 subst bQ
 refine⟨s.near,fun _=>kJ,fun _ G φ m σ a w hC t ds us _ hl hr aa=>?_,fun e=>(aG e).elim⟩
 obtain⟨aa,dI⟩:=aa
 simp only[Bool.and_eq_true]at aa
 obtain⟨⟨jq,cC⟩,cI⟩:=aa
 obtain⟨hlen,mC⟩:=h _ _ dI
 have bN:(reach σ.obj ds).Nodup:=xn _ _ _ (by simp)
 simp only[cQ,jI,List.length_map]at hlen
 refine(callsIn_wide (n:=0)).1 (callsIn_of_wp_marks hf hb trivial ?_)
 have iN:=KY hC (L:=reach σ.obj ds) bN jq (rd:=none) (fun l h=>by cases h) (b0:=0) (nt:=fn.ntmps) (env:=dE eAny (cW 0 (cQ σ.obj ds)))
  (tmps:=us++Array.replicate (fn.ntmps-us.size) undef) (by simp;omega) (fun t=>by
    rcases sN (z:=eAny) (cW 0 (cQ σ.obj ds)) t with h1 | h1
    ·rw[h1];unfold cl eAny;simp;exact .any _
    ·obtain⟨i,hi,h2,h3⟩:=MU h1
     rw[h3]
     unfold cl
     simp only[if_true]
     simp only[cQ,jI,List.length_map]at hi
     have bC:i<us.size:=by omega
     have e:((us++Array.replicate (fn.ntmps-us.size) undef).getD t undef)=us[i]:=by
      have aq:0+i<(us++Array.replicate (fn.ntmps-us.size) undef).size:=by simp;omega
      rw[h2]
      simp only[Array.getD,aq,dite_true]
      show (us++Array.replicate (fn.ntmps-us.size) undef)[0+i]=us[i]
      simp only[Nat.zero_add]
      exact Array.getElem_append_left bC
     rw[e]
     simp only[cQ,jI,List.getElem_map]
     exact(hr i hi bC).renx (Mem.le_refl m) xm (ig hi cC))
 rw[BB]at mC
 rw[xA]at iN
 refine wpIn_mono (mC _ _ m _ w iN) ?_
 rintro e a1 w1 ⟨φ2,m2,σ2,gy,hK⟩
 have fin:(bL P σ2 fn.results.toList).ok/\(bL P σ2 fn.results.toList).d=(s.out (cp σ.obj ds) (cQ σ.obj ds)).d/\fT (cp σ.obj ds) (s.out (cp σ.obj ds) (cQ σ.obj ds)) σ2->
     LeavesInM Fence.wide 0 P fn a1.tmps (fun e w'=>∃ v φ' m',e=.returned v/\aN G φ' m' { σ with obj:=(s.toSpec.app σ.obj t ds).obj } a w'/\aD φ' (s.toSpec.app σ.obj t ds).obj m' (s.toSpec.app σ.obj t ds).d v/\Ext φ φ' σ.obj (s.toSpec.app σ.obj t ds).obj) a1.defers .returning w1:=by
  rintro⟨h1,h2,h3⟩
  refine BQ a1.defers rfl gy fun a' w' _ cm=>?_
  obtain⟨v,h4,h5⟩:=F4 cm fn h1
  rw[h2]at h5
  have hE:=Lx h3
  obtain⟨φ',m',k1,k2,k3,k4⟩:=KX hC bN jq cm hE cI
  have tr:=hE.cd
  simp only[cp,List.length_map]at tr
  exact⟨v,h4,v,φ',m',rfl,k2,k4 _ _ h5 tr,k3⟩
 cases e with
 |normal=>exact fin hK
 |ret=>exact fin hK
 |_=>exact hK.elim
theorem bO.more{ok ok2:Prop}{d d2:D}{o1 o2 obj obj2:Name->Option O}{wr:List Name}(nm:Name)(x:Option O)(h:bO ⟨ok,d,o1⟩ ⟨ok2,d2,o2⟩ obj obj2 wr):
 bO ⟨ok,d,upd o1 nm x⟩ ⟨ok2,d2,upd o2 nm x⟩ obj obj2 (nm::wr):=by
 refine⟨h.ok,h.d,fun y=>?_,fun y hy=>?_⟩
 ·show upd o2 nm x y=if y∈nm::wr then upd o1 nm x y else obj2 y
  by_cases e:y=nm
  ·subst e;rw[aQ,if_pos (by simp),aQ]
  ·rw[aZ _ _ _ e,aZ _ _ _ e]
   have :=h.eff y
   simp only at this
   rw[this]
   by_cases hy:y∈wr
   ·rw[if_pos hy,if_pos (List.mem_cons_of_mem _ hy)]
   ·rw[if_neg hy,if_neg (by simp[e,hy])]
 ·simp only[List.mem_cons,not_or]at hy
  show upd o1 nm x y=obj y
  rw[aZ _ _ _ hy.1]
  exact h.frame y hy.2
structure YSpec where
 pre:List E->List Nat->Code->Code->List O->List D->Prop
 out:List E->List Nat->Code->Code->List O->List D->Out×Option Code
def roots(env:List E)(ds:List D):List D:=env.map (·.d)++ds
def gP(obj:Name->Option O)(env:List E)(ds:List D):List E:=env.map (E.ren (cin (reach obj (roots env ds))))
def ja(obj:Name->Option O)(env:List E)(ds:List D):List D:=D.renL (cin (reach obj (roots env ds))) ds
def YSpec.o(y:YSpec)(obj:Name->Option O)(env:List E)(ps:List Nat)(asg body:Code)(ds:List D):Out×Option Code:=
 y.out (gP obj env ds) ps asg body (cp obj (roots env ds)) (ja obj env ds)
def YSpec.toSpec(y:YSpec):Spec where
 app obj t args:=match args with
  | .yld nm::ds=>match obj nm with
    |some (.loop env ps asg body .ready none)=>
     ⟨(shut obj (reach obj (roots env ds))&&D.closL (cM (reach obj (roots env ds))) (roots env ds)&&fresh obj t (y.o obj env ps asg body ds).1.new&&!cM (reach obj (roots env ds)) nm&&
         decide (ds.length=ps.length)&&(ps.all fun p=>decide (p<env.length)))=true/\y.pre (gP obj env ds) ps asg body (cp obj (roots env ds)) (ja obj env ds),
       .v (.bool (y.o obj env ps asg body ds).2.isNone),
       upd (di (reach obj (roots env ds)) t (y.o obj env ps asg body ds).1.new (cr (reach obj (roots env ds)) t (y.o obj env ps asg body ds).1.upd obj)) nm
        (some (.loop env ps asg body (if (y.o obj env ps asg body ds).2.isNone then .ready else .done) (y.o obj env ps asg body ds).2))⟩
    |_=>.bad obj
  |_=>.bad obj
 foot obj t args:=match args with
  | .yld nm::ds=>nm::(match obj nm with
    |some (.loop env ps asg body .ready none)=>reach obj (roots env ds)++((y.o obj env ps asg body ds).1.upd.map fun x=>(reach obj (roots env ds)).getD x.1 [])++(y.o obj env ps asg body ds).1.new.map fun x=>x.1++t
    |_=>[])
  |_=>[]
 wrt obj t args:=match args with
  | .yld nm::ds=>nm::(match obj nm with
    |some (.loop env ps asg body .ready none)=>((y.o obj env ps asg body ds).1.upd.map fun x=>(reach obj (roots env ds)).getD x.1 [])++(y.o obj env ps asg body ds).1.new.map fun x=>x.1++t
    |_=>[])
  |_=>[]
theorem YSpec.near(y:YSpec):y.toSpec.Near:=by
 have Bo:∀ {obj obj2:Name->Option O} {env:List E} {ps:List Nat} {asg body:Code} {ds:List D},bG (reach obj (roots env ds)) obj obj2->
     y.o obj2 env ps asg body ds=y.o obj env ps asg body ds/\gP obj2 env ds=gP obj env ds/\ja obj2 env ds=ja obj env ds:=by
  intro obj obj2 env ps asg body ds h
  unfold YSpec.o gP ja
  rw[wk h,oa h]
  exact⟨rfl,rfl,rfl⟩
 have split:∀ {A B C:List Name} {obj obj2:Name->Option O} {nm:Name},bG (nm::(A++B++C)) obj obj2->bG A obj obj2/\bG (B++C) obj obj2:=by
  intro A B C obj obj2 nm h
  refine⟨fun x hx=>h x ?_,fun x hx=>h x ?_⟩
  ·exact List.mem_cons_of_mem _ (List.mem_append_left _ (List.mem_append_left _ hx))
  ·rcases List.mem_append.1 hx with hx | hx
   ·exact List.mem_cons_of_mem _ (List.mem_append_left _ (List.mem_append_right _ hx))
   ·exact List.mem_cons_of_mem _ (List.mem_append_right _ hx)
 have zy:∀ (args:List D),(∃ nm ds,args=.yld nm::ds)\/(∀ obj t,y.toSpec.app obj t args=.bad obj/\y.toSpec.foot obj t args=[]/\y.toSpec.wrt obj t args=[]):=by
  intro args
  rcases args with _ | ⟨d,ds⟩
  ·exact .inr fun _ _=>⟨rfl,rfl,rfl⟩
  ·cases d with
   |yld nm=>exact .inl ⟨nm,ds,rfl⟩
   |_=>exact .inr fun _ _=>⟨rfl,rfl,rfl⟩
 refine⟨fun obj obj2 t args h=>?_,fun obj obj2 t args h=>?_,fun obj t args jJ hn=>?_,fun obj obj2 t args h=>?_⟩
 ·rcases zy args with⟨nm,ds,rfl⟩ | hb
  ·simp only[YSpec.toSpec]at h |-
   have h0:obj2 nm=obj nm:=h nm (by simp)
   rw[h0]
   split
   ·rename_i env ps asg body ho
    simp only[ho]at h
    obtain⟨h1,h2⟩:=split h
    obtain⟨e1,e2,e3⟩:=Bo (ps:=ps) (asg:=asg) (body:=body) h1
    rw[e1,e2,e3,wk h1,oa h1]
    refine bO.more nm _ (BO ?_ h2)
    rw[AM h1,yX fun nm hn=>h2 nm (List.mem_append_right _ hn)]
   ·exact .none _ fun x hx=>by simp only[List.mem_singleton]at hx;subst hx;exact h0
  ·rw[(hb obj t).1,(hb obj2 t).1,(hb obj t).2.2]
   exact .same rfl rfl rfl rfl
 ·rcases zy args with⟨nm,ds,rfl⟩ | hb
  ·simp only[YSpec.toSpec]at h |-
   have h0:obj2 nm=obj nm:=h nm (by simp)
   rw[h0]
   split
   ·rename_i env ps asg body ho
    simp only[ho]at h
    obtain⟨h1,h2⟩:=split h
    obtain⟨e1,e2,e3⟩:=Bo (ps:=ps) (asg:=asg) (body:=body) h1
    rw[e1,oa h1]
   ·rfl
  ·rw[(hb obj t).2.1,(hb obj2 t).2.1]
 ·rcases zy args with⟨nm,ds,rfl⟩ | hb
  ·simp only[YSpec.toSpec]at hn |-
   rcases List.mem_cons.1 hn with rfl | hn
   ·simp
   ·refine List.mem_cons_of_mem _ ?_
    split at hn
    ·rename_i env ps asg body ho
     try simp only[ho]
     rcases List.mem_append.1 hn with hn | hn
     ·exact List.mem_append_left _ (List.mem_append_right _ hn)
     ·exact List.mem_append_right _ hn
    ·cases hn
  ·rw[(hb obj t).2.2]at hn;cases hn
 ·rcases zy args with⟨nm,ds,rfl⟩ | hb
  ·simp only[YSpec.toSpec]at h |-
   have h0:obj2 nm=obj nm:=h nm (by simp)
   rw[h0]
   split
   ·rename_i env ps asg body ho
    simp only[ho]at h
    obtain⟨h1,h2⟩:=split h
    obtain⟨e1,e2,e3⟩:=Bo (ps:=ps) (asg:=asg) (body:=body) h1
    rw[e1,oa h1]
   ·rfl
  ·rw[(hb obj t).2.2,(hb obj2 t).2.2]
def rE(env:List E):Nat->E:=fun t=>env.getD t eAny
def pc:(Nat->E)->List Nat->List D->(Nat->E)
 |f,p::ps,d::ds=>pc (upd f p ⟨true,d⟩) ps ds
 |f,_,_=>f
def GQ(k:S->Prop):Exit->S->Prop
 | .normal,σ=>k σ
 |_,_=>False
def Qm(os:List O)(o:Out×Option Code):Exit->S->Prop
 | .normal,σ=>o.2=none/\fT os o.1 σ
 | .ret,σ=>o.2=some .ret/\fT os o.1 σ
 | .exit id,σ=>o.2=some (.exit id)/\fT os o.1 σ
 |_,_=>False
theorem FE{φ:Name->Loc}{obj:Name->Option O}{m:Mem}{n:Nat}:∀ (ps:List Nat) (ds:List D) (us:List Value) (f:Nat->E) (tmps:Array Value),tmps.size=n->ps.length=ds.length->ds.length=us.length->
 (∀ p∈ps,p<n)->(∀ t,cl φ obj m (f t) (tmps.getD t undef))->(∀ i (h:i<ds.length) (h':i<us.length),aD φ obj m ds[i] us[i])->
 (∀ t,cl φ obj m (pc f ps ds t) (((ps.zip us).foldl (fun tmps (p:Nat×Value)=>tmps.setIfInBounds p.1 p.2) tmps).getD t undef))/\((ps.zip us).foldl (fun tmps (p:Nat×Value)=>tmps.setIfInBounds p.1 p.2) tmps).size=n
 |[],ds,us,f,tmps,hs,h1,h2,hp,hf,hr=>by
  have :ds=[]:=List.eq_nil_of_length_eq_zero (by simpa using h1.symm)
  subst this
  exact⟨hf,hs⟩
 |p::ps,[],us,f,tmps,hs,h1,h2,hp,hf,hr=>by simp at h1
 |p::ps,d::ds,[],f,tmps,hs,h1,h2,hp,hf,hr=>by simp at h2
 |p::ps,d::ds,u::us,f,tmps,hs,h1,h2,hp,hf,hr=>by
  simp only[List.zip_cons_cons,List.foldl_cons,pc]
  refine FE ps ds us _ _ (by simpa using hs) (by simpa using h1) (by simpa using h2) (fun q hq=>hp q (by simp[hq])) (fun t=>?_) fun i a b=>by
   have :=hr (i+1) (by simpa using a) (by simpa using b)
   simpa using this
  have ab:p<tmps.size:=by rw[hs];exact hp p (by simp)
  by_cases ht:t=p
  ·subst ht
   rw[aQ]
   have e:(tmps.setIfInBounds t u).getD t undef=u:=by simp[Array.getD,ab]
   rw[e]
   unfold cl
   simp only[if_true]
   exact hr 0 (by simp) (by simp)
  ·rw[aZ _ _ _ ht]
   have e:(tmps.setIfInBounds p u).getD t undef=tmps.getD t undef:=by
    simp only[Array.getD_eq_getD_getElem?]
    rw[Array.getElem?_setIfInBounds_ne (fun h=>ht h.symm)]
   rw[e];exact hf t
theorem L9{wa wb:World}{m:Mem}{L:List Name}{φ:Name->Loc}{obj:Name->Option O}{l:Nat}{h h'}{φ1:Name->Loc}{m1:Mem}{σ1:S}{a1:Act}{w1 w2:World}
 (hC:aN (rB wa m L φ obj (some l) h) φ1 m1 σ1 a1 w1) (dv:wb.heap.size=wa.heap.size/\w2.heap.size=w1.heap.size) (ho:wb.os=w2.os/\wb.tape=w2.tape/\wb.output=w2.output)
 (hb:∀ b,b≠l->wb.heap[b]?=wa.heap[b]?) (h2:∀ b,b≠l->w2.heap[b]?=w1.heap[b]?) (hl:wb.heap[l]?=w2.heap[l]?):aN (rB wb m L φ obj (some l) h') φ1 m1 σ1 a1 w2:=by
 obtain⟨J4,r,hr⟩:=h l rfl
 have ab:l<wa.heap.size:=(Array.getElem?_eq_some_iff.1 hr).1
 have dw:w1.heap[l]?=some (.loop r):=(hC.fr.block l ab J4).trans hr
 constructor
 ·exact hC.tmps
 ·exact hC.size
 ·obtain⟨ds,k1,k2,k3⟩:=hC.defers
  refine⟨ds,k1,k2,fun D hD=>?_⟩
  obtain⟨k4,k5⟩:=k3 D hD
  have aG:D≠l:=fun e=>by subst e;rw[dw]at k5;cases k5
  exact⟨by show wb.heap.size<=D;rw[dv.1];exact k4,(h2 D aG).trans k5⟩
 ·intro nm o gf
  refine(hC.objs nm o gf).ext (Mem.le_refl _) (Ext.refl _ _) fun k1 k2=>h2 _ fun e=>?_
  rcases hC.own nm ⟨o,gf,k1,k2⟩with h3 | h3
  ·have h4:wa.heap.size<=(φ1 nm).blk:=h3
   omega
  ·rw[e]at h3;exact J4 h3
 ·intro b off v hv
  have h3:=hC.mem b off v hv
  rw[p6 (h2 b (fun e=>by subst e;unfold World.cell? at h3;simp[dw]at h3))]
  exact h3
 ·exact hC.apart
 ·exact hC.inj
 ·intro nm hh
  rcases hC.own nm hh with h3 | h3
  ·exact .inl (by show wb.heap.size<=_;rw[dv.1];exact h3)
  ·exact .inr h3
 ·refine⟨ho.1.symm,ho.2.1.symm,ho.2.2.symm,by show wb.heap.size<=_;rw[dv.1,dv.2];exact hC.fr.size,fun b h3 h4=>?_⟩
  show w2.heap[b]?=wb.heap[b]?
  by_cases e:b=l
  ·subst e;exact hl.symm
  ·rw[h2 b e,hb b e]
   exact hC.fr.block b (by have:b<wb.heap.size:=h3;show b<wa.heap.size;omega) h4
 ·intro b off v hv
  rcases hC.fresh b off v hv with h3 | h3 | h3
  ·exact .inl h3
  ·exact .inr (.inl (by show wb.heap.size<=_;rw[dv.1];exact h3))
  ·exact .inr (.inr h3)
 ·exact hC.kept
theorem Mh{L:List Name}{obj:Name->Option O}{nm:Name}{x:Option O}(h:nm∉L){y:Name}(hy:y∈L):cw L (upd obj nm x) y=cw L obj y:=by
 unfold cw
 rw[aZ _ _ _ (by rintro rfl;exact h hy)]
theorem Q4{L:List Name}{obj:Name->Option O}{nm:Name}{x:Option O}(h:nm∉L):jl L (upd obj nm x)=jl L obj:=by
 rw[xA,xA]
 congr 1
 exact List.map_congr_left fun y hy=>Mh h hy
theorem Ks{L:List Name}{φ:Name->Loc}{obj:Name->Option O}{nm:Name}{x:Option O}(h:nm∉L):o0 L φ (upd obj nm x)=o0 L φ obj:=by
 funext b
 refine propext ⟨fun ⟨y,h1,⟨o,h2,h3⟩,h4⟩=>?_,fun ⟨y,h1,⟨o,h2,h3⟩,h4⟩=>?_⟩
 ·rw[aZ _ _ _ (by rintro rfl;exact h h1)]at h2
  exact⟨y,h1,⟨o,h2,h3⟩,h4⟩
 ·exact⟨y,h1,⟨o,by rw[aZ _ _ _ (by rintro rfl;exact h h1)];exact h2,h3⟩,h4⟩
theorem WS{w:World}{m:Mem}{L:List Name}{φ:Name->Loc}{obj:Name->Option O}{nm:Name}{x:Option O}{rd:Option Nat}(h:nm∉L){h1}{h2}:rB w m L φ (upd obj nm x) rd h1=rB w m L φ obj rd h2:=by
 unfold rB
 simp only[Q4 h,Ks h]
theorem EW{P:Program}{y:YSpec}(h:∀ env ps asg body os ds,y.pre env ps asg body os ds->ds.length=ps.length->
 CW P asg ⟨env.length,pc (rE env) ps ds,aV os,[0],0⟩ (GQ fun σ1=>CW P body σ1 (Qm os (y.out env ps asg body os ds)))):aM P yid y.toSpec:=by
 refine⟨y.near,fun e=>(e rfl).elim,fun e=>(e rfl).elim,fun _ G φ m σ a w hC t nm ds us _ hl hr _ aa o VG=>?_⟩
 simp only[YSpec.toSpec]at aa |-
 split at aa
 case h_2=>exact aa.elim
 rename_i env ps asg body ay
 try simp only[ay]
 obtain⟨aa,dI⟩:=aa
 simp only[Bool.and_eq_true,Bool.not_eq_true',decide_eq_true_eq]at aa
 obtain⟨⟨⟨⟨⟨jq,cC⟩,cI⟩,J6⟩,hlen⟩,fF⟩:=aa
 have fw:nm∉reach σ.obj (roots env ds):=fun h=>by rw[gb.2 h]at J6;cases J6
 have bN:(reach σ.obj (roots env ds)).Nodup:=xn _ _ _ (by simp)
 obtain⟨_,dr,r,dw,ft,UP,Cs,JT,JS,JR,JQ⟩:=hC.objs nm _ ay
 have ab:(φ nm).blk<w.heap.size:=(Array.getElem?_eq_some_iff.1 dw).1
 have qZ:¬ o0 (reach σ.obj (roots env ds)) φ σ.obj (φ nm).blk:=fun ⟨x,k1,k2,k3⟩=>fw (hC.inj _ _ k2 ⟨_,ay,rfl,dr⟩ k3▸k1)
 have pI:r.params.size=ps.length:=by rw[<-Cs];simp
 intro next Q qQ
 rw[VG,run_yield dw (by omega),Oper.uponIn_round]
 refine⟨fun h=>(by simp[fz,Fence.wide]at h),?_⟩
 rw[JT,JS]
 refine roundIn_of_wpIn trivial ?_
 have ad8:=cC
 have VX:∀ i (h:i<env.length),D.clos (cM (reach σ.obj (roots env ds))) env[i].d=true:=fun i hi=>by
  have :=ig (l:=roots env ds) (i:=i) (by simp[roots];omega) cC
  simp only[roots]at this |-
  rw[List.getElem_append_left (by simpa using hi)]at this
  simpa using this
 have VW:∀ i (h:i<ds.length),D.clos (cM (reach σ.obj (roots env ds))) ds[i]=true:=fun i hi=>by
  have :=ig (l:=roots env ds) (i:=env.length+i) (by simp[roots];omega) cC
  simp only[roots]at this |-
  rw[List.getElem_append_right (by simp)]at this
  simpa using this
 obtain⟨q1,q2⟩:=FE (φ:=lV (reach σ.obj (roots env ds)) φ) (obj:=jl (reach σ.obj (roots env ds)) σ.obj) (m:=m) (n:=env.length) ps (ja σ.obj env ds) us.toList (rE (gP σ.obj env ds)) r.tmps JR
  (by simp[ja,jI];omega) (by simp[ja,jI];omega) (fun p hp=>by have:=List.all_eq_true.1 fF p hp;simpa using this)
  (fun t=>by
    unfold rE
    by_cases ht:t<env.length
    ·have:=(JQ t ht).renx (Mem.le_refl m) xm (VX t ht)
     have e:(gP σ.obj env ds).getD t eAny=E.ren (cin (reach σ.obj (roots env ds))) env[t]:=by
      rw[List.getD_eq_getElem?_getD,List.getElem?_eq_getElem (by simpa[gP]using ht)];simp[gP]
     rw[e];exact this
    ·have e:(gP σ.obj env ds).getD t eAny=eAny:=by
       rw[List.getD_eq_getElem?_getD,List.getElem?_eq_none (by simp[gP];omega)];rfl
     rw[e];unfold cl eAny;simp;exact .any _)
  (fun i a b=>by
    simp only[ja,jI,List.length_map]at a
    have :=(hr i a (by simpa using b)).renx (Mem.le_refl m) xm (VW i a)
    simpa[ja,jI]using this)
 have iN:=KY hC (L:=reach σ.obj (roots env ds)) bN jq (rd:=some (φ nm).blk) (fun l e=>by cases e;exact⟨qZ,r,dw⟩) (b0:=0) (nt:=env.length) q2 q1
 have mC:=h _ _ _ _ _ _ dI (by simp[ja,jI];omega)
 have VB:(r.params.zip us).foldl (fun tmps (p:Nat×Value)=>tmps.setIfInBounds p.1 p.2) r.tmps=(ps.zip us.toList).foldl (fun tmps (p:Nat×Value)=>tmps.setIfInBounds p.1 p.2) r.tmps:=by
  rw[<-Cs,<-Array.toList_zip,Array.foldl_toList]
 have C9:(gP σ.obj env ds).length=env.length:=by simp[gP]
 rw[C9]at mC
 rw[xA]at iN
 have VA:(r.params.zip us).foldl (fun tmps (x:Tmp×Value)=>match x with | (t,a)=>tmps.setIfInBounds t a) r.tmps=(ps.zip us.toList).foldl (fun tmps (p:Nat×Value)=>tmps.setIfInBounds p.1 p.2) r.tmps:=VB
 rw[VA]
 refine wpIn_mono (mC _ _ m _ w iN) ?_
 rintro e a1 w1 ⟨φ1,m1,σ1,gy,hK⟩
 cases e with
 |normal=>
  have JU:w1.heap[(φ nm).blk]?=some (.loop r):=(gy.fr.block _ ab qZ).trans dw
  have aU:=(Array.getElem?_eq_some_iff.1 JU).1
  refine⟨_,run_beginRound JU ft,?_⟩
  have eM:w1.os=w.os/\w1.tape=w.tape/\w1.output=w.output:=⟨gy.fr.os,gy.fr.tape,gy.fr.output⟩
  have fa:=L9 (wb:=w.putObj (φ nm).blk (.loop { r with state:=.busy })) (w2:=w1.putObj (φ nm).blk (.loop { r with state:=.busy }))
   (h':=fun l e=>by cases e;exact⟨qZ,_,World.putObj_heap_same ab⟩) gy ⟨by simp,by simp⟩ ⟨eM.1.symm,eM.2.1.symm,eM.2.2.symm⟩
   (fun b hb=>World.putObj_heap_other hb) (fun b hb=>World.putObj_heap_other hb) (by rw[World.putObj_heap_same ab,World.putObj_heap_same aU])
  refine wpIn_mono (hK _ _ m1 _ _ fa) ?_
  rintro e a3 w3 ⟨φ3,m3,σ3,rv,oL⟩
  have Ct:w3.heap[(φ nm).blk]?=some (.loop { r with state:=.busy }):=(rv.fr.block _ (by show _<(w.putObj _ _).heap.size;simpa using ab) qZ).trans (World.putObj_heap_same ab)
  have nw:=(Array.getElem?_eq_some_iff.1 Ct).1
  have fin:∀ bA:Option Code,(y.o σ.obj env ps asg body ds).2=bA->fT (cp σ.obj (roots env ds)) (y.o σ.obj env ps asg body ds).1 σ3->
      ∃ v w',(Instr.endRound (φ nm).blk bA).run P w3=.ok v w'/\next (a.put o.dst v) w':=by
   intro bA he hE
   refine⟨_,_,run_endRound bA Ct,?_⟩
   generalize UM:({ r with state:=.busy }:Loop)=rb at Ct |-
   let rf:Loop:={ r with state:=if bA.isNone then .ready else .done,pending:=bA }
   have UL:({ rb with state:=if bA.isNone then .ready else .done,pending:=bA }:Loop)=rf:=by rw[<-UM]
   rw[UL]
   have KP:=L9 (wb:=w.putObj (φ nm).blk (.loop rf)) (w2:=w3.putObj (φ nm).blk (.loop rf))
    (h':=fun l e=>by cases e;exact⟨qZ,_,World.putObj_heap_same ab⟩) rv ⟨by simp,by simp⟩
    ⟨(show (w.putObj (φ nm).blk (.loop rf)).os=(w3.putObj (φ nm).blk (.loop rf)).os from rv.fr.os.symm),(show (w.putObj (φ nm).blk (.loop rf)).tape=(w3.putObj (φ nm).blk (.loop rf)).tape from rv.fr.tape.symm),(show (w.putObj (φ nm).blk (.loop rf)).output=(w3.putObj (φ nm).blk (.loop rf)).output from rv.fr.output.symm)⟩
    (fun b hb=>by rw[World.putObj_heap_other hb,World.putObj_heap_other hb]) (fun b hb=>World.putObj_heap_other hb) (by rw[World.putObj_heap_same ab,World.putObj_heap_same nw])
   have cm:aN G φ m { σ with obj:=upd σ.obj nm (some (.loop env ps asg body (if bA.isNone then .ready else .done) bA)) } a (w.putObj (φ nm).blk (.loop rf)):=by
    have :=hC.chg (w':=w.putObj (φ nm).blk (.loop rf)) nm (.loop env ps asg body (if bA.isNone then .ready else .done) bA) (φ nm) (Ext.same ay rfl rfl) ⟨rfl,rfl,rfl,by simp⟩
     (fun b _ hb=>World.putObj_heap_other (by rcases hb with h | h; · rw[dr]at h;cases h
                                              ·exact h))
     (fun _=>.inr ⟨⟨_,ay,rfl,dr⟩,rfl⟩) (by
       rw[fW]
       refine⟨by assumption,dr,rf,World.putObj_heap_same ab,rfl,rfl,Cs,JT,JS,JR,fun i hi=>(JQ i hi).ext (Mem.le_refl m) ?_⟩
       have :=Ext.same (φ:=φ) (o':=.loop env ps asg body (if bA.isNone then .ready else .done) bA) ay rfl rfl
       rwa [fW]at this)
    rwa [fW]at this
   have Wu:shut (upd σ.obj nm (some (.loop env ps asg body (if bA.isNone then .ready else .done) bA))) (reach σ.obj (roots env ds))=true:=by
    rw[AM (obj:=σ.obj) fun x hx=>aZ _ _ _ (by rintro rfl;exact fw hx)];exact jq
   have rm:(reach σ.obj (roots env ds)).map (cw (reach σ.obj (roots env ds)) (upd σ.obj nm (some (.loop env ps asg body (if bA.isNone then .ready else .done) bA))))=cp σ.obj (roots env ds):=
    List.map_congr_left fun x hx=>Mh fw hx
   have Dp:=Lx hE
   rw[<-rm]at Dp
   have qP:∀ x∈(y.o σ.obj env ps asg body ds).1.new,nm≠x.1++t:=fun x hx e=>by
    have :=List.all_eq_true.1 cI x hx
    rw[<-e,ay]at this;cases this
   have Vz:fresh (upd σ.obj nm (some (.loop env ps asg body (if bA.isNone then .ready else .done) bA))) t (y.o σ.obj env ps asg body ds).1.new=true:=by
    rw[yX (obj:=σ.obj) fun x hx=>by
     obtain⟨z,hz,rfl⟩:=List.mem_map.1 hx
     exact aZ _ _ _ (qP z hz).symm]
    exact cI
   rw[<-WS (x:=some (.loop env ps asg body (if bA.isNone then .ready else .done) bA)) fw (h1:=fun l e=>by
    cases e;rw[Ks fw];exact⟨qZ,_,World.putObj_heap_same ab⟩)]at KP
   obtain⟨φ',m',k1,k2,k3,k4⟩:=KX cm bN Wu KP Dp Vz
   refine qQ _ φ' m' _ ?_ (.v _ _ ?_)
   ·have:(di (reach σ.obj (roots env ds)) t (y.o σ.obj env ps asg body ds).1.new (cr (reach σ.obj (roots env ds)) t (y.o σ.obj env ps asg body ds).1.upd (upd σ.obj nm (some (.loop env ps asg body (if bA.isNone then .ready else .done) bA)))))=
      upd (di (reach σ.obj (roots env ds)) t (y.o σ.obj env ps asg body ds).1.new (cr (reach σ.obj (roots env ds)) t (y.o σ.obj env ps asg body ds).1.upd σ.obj)) nm (some (.loop env ps asg body (if bA.isNone then .ready else .done) bA)):=by
      funext x
      have hu:((y.o σ.obj env ps asg body ds).1.upd.all fun x=>decide (x.1<(reach σ.obj (roots env ds)).length))=true:=List.all_eq_true.2 fun z hz=>by
       have :=List.all_eq_true.1 Dp.cu z hz
       simp only[Bool.and_eq_true,List.length_map]at this;exact this.2
      by_cases e:x=nm
      ·subst e
       rw[aQ,uQ _ _ qP,Ba _ _ hu fw,aQ]
      ·rw[aZ _ _ _ e]
       rw[qo (y.o σ.obj env ps asg body ds).1.new σ.obj (cr _ _ _ (upd _ _ _)) x,qo (y.o σ.obj env ps asg body ds).1.new σ.obj (cr _ _ _ σ.obj) x]
       by_cases h1:x∈(y.o σ.obj env ps asg body ds).1.new.map (fun x=>x.1++t)
       ·rw[if_pos h1,if_pos h1]
       ·rw[if_neg h1,if_neg h1]
        rw[sH (y.o σ.obj env ps asg body ds).1.upd σ.obj (upd _ _ _) x,sH (y.o σ.obj env ps asg body ds).1.upd σ.obj σ.obj x]
        by_cases h2:x∈(y.o σ.obj env ps asg body ds).1.upd.map (fun x=>(reach σ.obj (roots env ds)).getD x.1 [])
        ·rw[if_pos h2,if_pos h2]
        ·rw[if_neg h2,if_neg h2];exact aZ _ _ _ e
    rw[this]at k2
    rw[he]
    exact k2
   ·rw[he];exact .bool _
  cases e with
  |normal=>exact fin none oL.1 oL.2
  |ret=>exact fin (some .ret) oL.1 oL.2
  |exit id=>exact fin (some (.exit id)) oL.1 oL.2
  |goto l=>exact oL.elim
  |panic ch=>exact oL.elim
  |outgrown=>exact oL.elim
 |ret=>exact hK.elim
 |exit id=>exact hK.elim
 |goto l=>exact hK.elim
 |panic ch=>exact hK.elim
 |outgrown=>exact hK.elim
theorem XD{G:Ghost}{φ:Name->Loc}{m:Mem}{σ:S}{a:Act}{w:World}(hC:aN G φ m σ a w):
 aN G φ m σ { a with defers:=[{ target:=.collected w.heap.size,args:= #[] }]++a.defers } (w.alloc (.deferred (some []))):=by
 have hb:∀ b,b<w.heap.size->(w.alloc (.deferred (some []))).heap[b]?=w.heap[b]?:=fun b h=>RowKit.Below.heap_alloc w _ b h
 have h:=hC.imm (w':=w.alloc (.deferred (some []))) (Mem.le_refl m) ⟨rfl,rfl,rfl,by simp⟩ hb (fun _ _ _ h=>.inl h)
 refine⟨h.tmps,h.size,?_,h.objs,h.mem,h.apart,h.inj,h.own,h.fr,h.fresh,h.kept⟩
 obtain⟨ds,h1,h2,h3⟩:=h.defers
 have ab:∀ D∈ds,D<w.heap.size:=fun D hD=>by
  obtain⟨lF,k1,k2,k3⟩:=hC.defers
  have e:lF=ds:=by
   have :=k1.symm.trans h1
   have hi:Function.Injective (fun D:Nat=>({ target:=.collected D,args:= #[] }:Deferred)):=fun x y h=>by simpa using h
   exact(List.map_inj_right hi).1 this
  exact(Array.getElem?_eq_some_iff.1 (k3 D (e▸hD)).2).1
 refine⟨w.heap.size::ds,by rw[h1];rfl,List.nodup_cons.2 ⟨fun hm=>Nat.lt_irrefl _ (ab _ hm),h2⟩,fun D hD=>?_⟩
 rcases List.mem_cons.1 hD with rfl | hD
 ·exact⟨hC.fr.size,World.alloc_heap_new w _⟩
 ·exact h3 D hD
def lZ(obj:Name->Option O)(nm:Name):Name->Option O:=upd obj nm (match obj nm with
 |some (.loop env ps asg body _ bA)=>some (.loop env ps asg body .exhausted bA)
 |o=>o)
def py(K:Exit->S->Prop)(obj:Name->Option O)(nm:Name)(σ:S):Prop:=match obj nm with
 |some (.loop _ _ _ _ .busy _)=>False
 |some (.loop _ _ _ _ _ none)=>K .normal σ
 |some (.loop _ _ _ _ _ (some .ret))=>K .ret σ
 |some (.loop _ _ _ _ _ (some (.exit id)))=>K (.exit id) σ
 |_=>False
theorem L4{P:Program}{Γ:FuncId->Option Spec}(hΓ:∀ f s,Γ f=some s->aM P f s){g:Operand}{ps:Array Tmp}{asg body:Code}{σ:S}{K:Exit->S->Prop}(k k':Nat){f:FuncId}{s:Spec}
 (hc:cJ σ g=true) (e8:fU (av σ g)=some f) (aG:f≠yid) (hs:Γ f=some s) (qR:σ.obj (k::σ.pre)=none)
 (aa:(s.app (upd σ.obj (k::σ.pre) (some (.loop ((List.range σ.nt).map σ.env) ps.toList asg body .ready none))) (k'::σ.pre) (ew (av σ g) [.yld (k::σ.pre)])).ok)
 (hK:py K (s.app (upd σ.obj (k::σ.pre) (some (.loop ((List.range σ.nt).map σ.env) ps.toList asg body .ready none))) (k'::σ.pre) (ew (av σ g) [.yld (k::σ.pre)])).obj (k::σ.pre)
   { σ with obj:=lZ (s.app (upd σ.obj (k::σ.pre) (some (.loop ((List.range σ.nt).map σ.env) ps.toList asg body .ready none))) (k'::σ.pre) (ew (av σ g) [.yld (k::σ.pre)])).obj (k::σ.pre) }):
 CW P (.rangeFunc g ps asg body) σ K:=by
 intro G φ m a w hC
 generalize ay:k::σ.pre=nm at *
 generalize CC:upd σ.obj nm (some (.loop ((List.range σ.nt).map σ.env) ps.toList asg body .ready none))=pn at *
 generalize hR:s.app pn (k'::σ.pre) (ew (av σ g) [.yld nm])=R at *
 have yF:=ck hC hc
 obtain⟨us,vs,fs,cs,hu,oK,e1,e2,dw,ft⟩:∃ (us vs:Array Value) (fs cs:List D),a.eval g=.func (.func f) us vs/\(∀ args,ew (av σ g) args=fs++args++cs)/\fs.length=us.size/\cs.length=vs.size/\
  (∀ i (h:i<fs.length) (h':i<us.size),aD φ σ.obj m fs[i] us[i])/\(∀ i (h:i<cs.length) (h':i<vs.size),aD φ σ.obj m cs[i] vs[i]):=by
  generalize a.eval g=u at *
  generalize av σ g=d at *
  unfold fU at e8
  split at e8
  ·rename_i f' fs cs
   split at e8
   ·cases e8
   cases e8
   cases yF with
   |v _ _ yF=>
   cases yF with
   |clo _ _ _ us vs e1 e2 h1 h2=>
   exact⟨us,vs,fs.map .v,cs.map .v,rfl,fun _=>rfl,by simpa using e1,by simpa using e2,fun i a b=>by simpa using .v _ _ (h1 i (by simpa using a) b),fun i a b=>by simpa using .v _ _ (h2 i (by simpa using a) b)⟩
  ·rename_i f' fs cs
   split at e8
   ·cases e8
   cases e8
   cases yF with
   |clo _ _ _ us vs e1 e2 h1 h2=>exact⟨us,vs,fs,cs,rfl,fun _=>rfl,e1,e2,h1,h2⟩
  ·cases e8;exact(aG rfl).elim
  ·cases e8
 refine wpIn_rangeFunc fun fn _=>?_
 have main:∀ (W:World) (a':Act) (D:Nat),aN G φ m σ a' W->a'.tmps=a.tmps->
     ∃ (d:Deferred) (sd:World) (f':FuncId) (args:Array Value) (w₂:World),
     (resolve a.eval (rangeCall g W.heap.size) 0).run P (W.alloc (.loop { state:=.ready,pending:=none,fn,tmps:=a.tmps,params:=ps,assign:=asg,body,defers:=D }))=.ok d sd/\
     (invoke d.target d.args).run P sd=.ok (.enter f' args) w₂/\
     CallsIn (fz G.rd) (0-1) P f' args w₂ (rangePost (fz G.rd) 0 P W.heap.size (fun e a' w'=>∃ φ' m' σ',aN G φ' m' σ' a' w'/\K e σ') a'):=by
  intro W a' D gy au
  obtain⟨r,mo⟩:∃ r:Loop,r={ state:=.ready,pending:=none,fn,tmps:=a.tmps,params:=ps,assign:=asg,body,defers:=D }:=⟨_,rfl⟩
  rw[<-mo]
  have hx:=Ext.new (φ:=φ) qR ⟨W.heap.size,0,0,false,none⟩ (.loop ((List.range σ.nt).map σ.env) ps.toList asg body .ready none)
  have fa:=gy.chg (w':=W.alloc (.loop r)) nm (.loop ((List.range σ.nt).map σ.env) ps.toList asg body .ready none) ⟨W.heap.size,0,0,false,none⟩ hx ⟨rfl,rfl,rfl,by simp⟩
   (fun b hb _=>RowKit.Below.heap_alloc W _ b hb) (fun _=>.inl (Nat.le_refl _)) ⟨rfl,rfl,r,World.alloc_heap_new W _,by rw[mo],by rw[mo],by rw[mo],by rw[mo],by rw[mo],by
     rw[mo]
     show a.tmps.size=_
     rw[<-au,gy.size];simp,fun i hi=>by
     simp only[List.getElem_map,List.getElem_range]
     rw[mo]
     show cl _ _ m _ (a.tmps.getD i undef)
     rw[<-au]
     exact(gy.tmps i).ext (Mem.le_refl m) hx⟩
  rw[CC]at fa hx
  refine⟨{ target:=.fn (.func f) vs,args:=us++ #[.func (.yield W.heap.size) #[] #[]] },W.alloc (.loop r),f,us++ #[.func (.yield W.heap.size) #[] #[]]++vs,W.alloc (.loop r),?_,?_,?_⟩
  ·have hy:a.eval (.const (.func (.yield W.heap.size) #[] #[]))=.func (.yield W.heap.size) #[] #[]:=rfl
   simp[resolve,Deferred.ofValue,hu,hy]
  ·simp[invoke,(hΓ f s hs).enter aG]
  ·refine Ll ?_
   have oH:=(hΓ f s hs).calls aG G (upd φ nm ⟨W.heap.size,0,0,false,none⟩) m { σ with obj:=pn } a' (W.alloc (.loop r)) fa (k'::σ.pre) (ew (av σ g) [.yld nm]) (us++ #[.func (.yield W.heap.size) #[] #[]]++vs) ⟨k',rfl⟩
   refine(oH ?_ ?_ ?_).mono ?_
   ·rw[oK];simp only[List.length_append,List.length_singleton,Array.size_append,e1,e2];rfl
   ·intro i h1 h2
    simp only[oK]
    have yb:aD (upd φ nm ⟨W.heap.size,0,0,false,none⟩) pn m (.yld nm) (.func (.yield W.heap.size) #[] #[]):=by
     have :=aD.yld (φ:=upd φ nm ⟨W.heap.size,0,0,false,none⟩) (obj:=pn) (m:=m) nm ⟨_,by rw[<-CC,aQ],rfl⟩
     rwa [aQ]at this
    simp only[oK,List.length_append,List.length_singleton]at h1
    by_cases k1:i<fs.length
    ·have q1:i<us.size:=by omega
     simp only[List.append_assoc,Array.append_assoc]
     rw[List.getElem_append_left k1,Array.getElem_append_left q1]
     exact(dw i k1 q1).ext (Mem.le_refl m) hx
    ·by_cases k2:i=fs.length
     ·subst k2
      simp only[List.append_assoc,Array.append_assoc]
      rw[List.getElem_append_right (by omega),Array.getElem_append_right (by omega)]
      simp only[Nat.sub_self,e1,List.cons_append,List.getElem_cons_zero]
      rw[Array.getElem_append_left (by simp)]
      simpa using yb
     ·rw[List.getElem_append_right (by simp;omega),Array.getElem_append_right (by simp;omega)]
      have :=(ft (i-(fs.length+1)) (by omega) (by omega)).ext (Mem.le_refl m) hx
      simp only[List.length_append,List.length_singleton,Array.size_append,<-e1]
      exact this
   ·show (s.app pn _ _).ok
    rw[hR];exact aa
   ·rintro e w3 ⟨v,φ',m',rfl,rv,_,Uq⟩
    have h9:s.app pn (k'::σ.pre) (ew (av σ g) [.yld nm])=R:=hR
    have KQ:aN G φ' m' { σ with obj:=R.obj } a' w3:=by rw[<-h9];exact rv
    have Up:Ext (upd φ nm ⟨W.heap.size,0,0,false,none⟩) φ' pn R.obj:=by rw[<-h9];exact Uq
    have UY:pn nm=some (.loop ((List.range σ.nt).map σ.env) ps.toList asg body .ready none):=by rw[<-CC,aQ]
    have CQ:φ' nm=⟨W.heap.size,0,0,false,none⟩:=by
     obtain⟨o',k1,k2⟩:=Up nm _ UY
     rcases k2 with⟨_,k2,_⟩ | ⟨n,n',k2,_⟩
     ·rw[k2,aQ]
     ·cases k2
    unfold py at hK
    have step:∀ {gz:List E} {gn:List Nat} {a1 b1:Code} {st:LoopState} {bA:Option Code},R.obj nm=some (.loop gz gn a1 b1 st bA)->st≠ .busy->
        ∃ w4,(Instr.endLoop W.heap.size).run P w3=.ok bA w4/\aN G φ' m' { σ with obj:=lZ R.obj nm } a' w4:=by
     intro gz gn a1 b1 st bA ho cY
     obtain⟨q0,q1,r',q2,q3,q4,q5,q6,q7,q8,q9⟩:=KQ.objs nm _ ho
     rw[CQ]at q2
     have Kr:(Instr.endLoop W.heap.size).run P w3=.ok bA (w3.putObj W.heap.size (.loop { r' with state:=.exhausted })):=by
      rw[run_endLoop (P:=P) q2 (by rw[q3];exact cY),q4]
     refine⟨_,Kr,?_⟩
     have ab:=(Array.getElem?_eq_some_iff.1 q2).1
     have qJ:lZ R.obj nm=upd R.obj nm (some (.loop gz gn a1 b1 .exhausted bA)):=by unfold lZ;rw[ho]
     rw[qJ]
     have :=KQ.chg (w':=w3.putObj W.heap.size (.loop { r' with state:=.exhausted })) nm (.loop gz gn a1 b1 .exhausted bA) (φ' nm) (Ext.same ho rfl rfl) ⟨rfl,rfl,rfl,by simp⟩
      (fun b _ hb=>World.putObj_heap_other (by
        rcases hb with h | h
        ·rw[q1]at h;cases h
        ·rw[CQ]at h;exact h))
      (fun _=>.inr ⟨⟨_,ho,rfl,q1⟩,rfl⟩) (by
        rw[fW]
        refine⟨q0,q1,{ r' with state:=.exhausted },by rw[CQ];exact World.putObj_heap_same ab,rfl,q4,q5,q6,q7,q8,fun i hi=>(q9 i hi).ext (Mem.le_refl _) ?_⟩
        have :=Ext.same (φ:=φ') (o':=.loop gz gn a1 b1 .exhausted bA) ho rfl rfl
        rwa [fW]at this)
     rw[fW]at this
     exact this
    rcases ho:R.obj nm with _ | o
    ·rw[ho]at hK;exact hK.elim
    rw[ho]at hK
    cases o with
    |loop gz gn a1 b1 st bA=>
     have cY:st≠ .busy:=by rintro rfl;exact hK.elim
     obtain⟨w4,h1,h2⟩:=step ho cY
     refine⟨bA,w4,h1,?_⟩
     cases bA with
     |none=>
      refine⟨φ',m',_,h2,?_⟩
      cases st<;>first | exact hK | exact(cY rfl).elim
     |some c=>
      cases c with
      |ret=>exact wpIn_ret ⟨φ',m',_,h2,by cases st<;>first | exact hK | exact(cY rfl).elim⟩
      |exit id=>exact wpIn_exit ⟨φ',m',_,h2,by cases st<;>first | exact hK | exact(cY rfl).elim⟩
      |_=>exfalso;cases st<;>first | exact hK | exact(cY rfl).elim
    |_=>exact hK.elim
 cases mr:G.rd with
 |none=>
  obtain⟨d,sd,f',args,w₂,h1,h2,h3⟩:=main (w.alloc (.deferred (some []))) _ w.heap.size (XD hC) rfl
  rw[mr]at h3
  have dv:(w.alloc (.deferred (some []))).heap.size=w.heap.size+1:=by simp
  rw[dv]at h1 h3
  exact⟨w.heap.size+1,[{ target:=.collected w.heap.size,args:= #[] }],_,d,sd,f',args,w₂,run_enterLoop_outer _ _ _ _ _,h1,fun _ _=>trivial,h2,fun h=>(by simp[fz,Fence.wide]at h),h3⟩
 |some l=>
  obtain⟨gf,r0,yj⟩:=G.rdok l mr
  have UQ:w.heap[l]?=some (.loop r0):=(hC.fr.block l (Array.getElem?_eq_some_iff.1 yj).1 gf).trans yj
  obtain⟨d,sd,f',args,w₂,h1,h2,h3⟩:=main w a r0.defers hC rfl
  rw[mr]at h3
  exact⟨w.heap.size,[],_,d,sd,f',args,w₂,run_enterLoop_inner UQ _ _ _ _ _,h1,fun _ _=>trivial,h2,fun h=>(by simp[fz,Fence.wide]at h),h3⟩
theorem X2{P:Program}{Γ:FuncId->Option Spec}(hΓ:∀ f s,Γ f=some s->aM P f s){g:Operand}{ps:Array Tmp}{asg body:Code}{σ:S}{r:List Code}{K:Exit->S->Prop}(k k':Nat){f:FuncId}{s:Spec}
 (hc:cJ σ g=true) (e8:fU (av σ g)=some f) (aG:f≠yid) (hs:Γ f=some s) (qR:σ.obj (k::σ.pre)=none)
 (aa:(s.app (upd σ.obj (k::σ.pre) (some (.loop ((List.range σ.nt).map σ.env) ps.toList asg body .ready none))) (k'::σ.pre) (ew (av σ g) [.yld (k::σ.pre)])).ok)
 (hK:py (jb (fun σ'=>CL P r σ' K) K) (s.app (upd σ.obj (k::σ.pre) (some (.loop ((List.range σ.nt).map σ.env) ps.toList asg body .ready none))) (k'::σ.pre) (ew (av σ g) [.yld (k::σ.pre)])).obj (k::σ.pre)
   { σ with obj:=lZ (s.app (upd σ.obj (k::σ.pre) (some (.loop ((List.range σ.nt).map σ.env) ps.toList asg body .ready none))) (k'::σ.pre) (ew (av σ g) [.yld (k::σ.pre)])).obj (k::σ.pre) }):
 CL P (.rangeFunc g ps asg body::r) σ K:=L4 hΓ k k' hc e8 aG hs qR aa hK
theorem dN.refl(σ:S):dN σ σ:=fun _ φ _ _ _ hC=>⟨φ,hC⟩
theorem dN.trans{a b c:S}(h:dN a b)(k:dN b c):dN a c:=fun G φ m x w hC=>by
 obtain⟨φ',h'⟩:=h G φ m x w hC
 exact k G φ' m x w h'
theorem bq{σ τ:S}(ks:List Nat)(ns:List Name)(h:gM ks ns σ)(he:gV ks ns σ=τ):dN σ τ:=he▸An ks ns h
def n9(l c:List (Nat×E)):List (Nat×E):=l.map fun q=>(q.1,(c.lookup q.1).getD q.2)
def n7(l c:List (Name×O)):List (Name×O):=l.map fun q=>(q.1,(c.lookup q.1).getD q.2)
theorem ev{P:Program}{c:Code}{r:List Code}{σ:S}{K:Exit->S->Prop}(ks:List Nat)(ns:List Name)(h:gM ks ns σ)(hc:CL P (c::r) (gV ks ns σ) K):CL P (c::r) σ K:=
 tQ (An ks ns h) hc
theorem cv{P:Program}{c:Code}{r:List Code}{K:Exit->S->Prop}{nt:Nat}{p:Name}{H:Name->Option O}{l:List (Nat×E)}{h:List (Name×O)}{ι:Type}
 (chg:ι->List (Nat×E)) (om:ι->List (Name×O)) (R:ι->Prop) (μ:ι->Nat) (i0:ι) (hR:R i0) (he:n9 l (chg i0)=l) (ho:n7 h (om i0)=h)
 (round:∀ i,R i->CL P [c] (bc nt p H (n9 l (chg i)) (n7 h (om i))) (jb (fun σ'=>∃ i',R i'/\μ i'<μ i/\dN σ' (bc nt p H (n9 l (chg i')) (n7 h (om i')))) K)):
 CL P (.loop c::r) (bc nt p H l h) K:=by
 refine D7 (fun i=>bc nt p H (n9 l (chg i)) (n7 h (om i))) R μ i0 hR ?_ round
 rw[he,ho]
 exact .refl _
theorem Md{P:Program}{c:Code}{r:List Code}{K:Exit->S->Prop}{nt:Nat}{p:Name}{H:Name->Option O}{l:List (Nat×E)}{h:List (Name×O)}{ι:Type}
 (Hc:ι->Name->Option O) (chg:ι->List (Nat×E)) (om:ι->List (Name×O)) (R:ι->Prop) (μ:ι->Nat) (i0:ι) (hR:R i0) (hH:bc nt p (Hc i0) l h=bc nt p H l h) (he:n9 l (chg i0)=l) (ho:n7 h (om i0)=h)
 (round:∀ i,R i->CL P [c] (bc nt p (Hc i) (n9 l (chg i)) (n7 h (om i))) (jb (fun σ'=>∃ i',R i'/\μ i'<μ i/\dN σ' (bc nt p (Hc i') (n9 l (chg i')) (n7 h (om i')))) K)):
 CL P (.loop c::r) (bc nt p H l h) K:=by
 refine D7 (fun i=>bc nt p (Hc i) (n9 l (chg i)) (n7 h (om i))) R μ i0 hR ?_ round
 rw[he,ho,hH]
 exact .refl _
attribute [go_sem] n9 n7 List.lookup_cons List.lookup_nil List.getElem?_toArray List.getElem?_cons_succ List.getElem?_cons_zero beq_true beq_false ite_self Bool.and_self Bool.or_self imp_self Bool.if_true_right Bool.if_false_right Bool.if_true_left Bool.if_false_left Bool.decide_eq_true
attribute [go_sem] uN fT qq uY distinct eB cV cT cW aV Bool.and_eq_true
def eW(a b:Nat):Bool:=Nat.ble a b
def gq(a b:Nat):Bool:=Nat.ble (a+1) b
def cG(a b:Nat):Bool:=Nat.beq a b
def dq(a b:Int):Bool:=match b-a with
 | .ofNat _=>true
 | .negSucc _=>false
def jP(a b:Int):Bool:=match b-a-1 with
 | .ofNat _=>true
 | .negSucc _=>false
def sP{α:Type}:Option α->Bool
 |none=>true
 |some _=>false
def oq:Option Nat->Nat->Bool
 |some a,b=>Nat.beq a b
 |none,_=>false
def ua(sz:Nat):List V->Bool
 |[]=>true
 |x::r=>Nat.beq x.cells.length sz&&ua sz r
def ub(sz:Nat):List V->Bool
 |[]=>true
 |x::r=>Nat.beq x.cells.length sz&&x.okc&&ub sz r
def vn(a b:IntKind):Bool:=match a,b with
 | .i64,.i64=>true
 | .u8,.u8=>true
 | .u64,.u64=>true
 | .i32,.i32=>true
 | .u32,.u32=>true
 |_,_=>false
def B6(P:Program)(T:TypeId):Bool:=match P.underlying T with
 |some .bool=>true
 |_=>false
def isEq:BinOp->Bool
 | .eql=>true
 | .neq=>true
 |_=>false
def qA:Int->Bool
 | .ofNat 0=>true
 |_=>false
theorem qu{a b:Nat}(h:eW a b=true):a<=b:=Nat.le_of_ble_eq_true h
theorem xG{a b:Nat}(h:gq a b=true):a<b:=Nat.le_of_ble_eq_true h
theorem jL{a b:Nat}(h:cG a b=true):a=b:=Nat.eq_of_beq_eq_true h
theorem gd{a b:Int}(h:dq a b=true):a<=b:=by
 unfold dq at h
 split at h
 ·rename_i n hn
  have :(0:Int)<=b-a:=by rw[hn];exact Int.natCast_nonneg n
  omega
 ·cases h
theorem Ue{a b:Int}(h:jP a b=true):a<b:=by
 unfold jP at h
 split at h
 ·rename_i n hn
  have :(0:Int)<=b-a-1:=by rw[hn];exact Int.natCast_nonneg n
  omega
 ·cases h
theorem xB{α:Type}{o:Option α}(h:sP o=true):o=none:=by cases o<;>simp_all[sP]
theorem po{o:Option Nat}{b:Nat}(h:oq o b=true):o=some b:=by
 cases o with
 |none=>cases h
 |some a=>rw[Nat.eq_of_beq_eq_true h]
theorem zZ{sz:Nat}:∀ {l:List V},ua sz l=true->∀ x∈l,x.cells.length=sz
 |y::r,h,x,hx=>by
  simp only[ua,Bool.and_eq_true]at h
  rcases List.mem_cons.1 hx with rfl | hx
  ·exact Nat.eq_of_beq_eq_true h.1
  ·exact zZ h.2 x hx
theorem z2{sz:Nat}:∀ {l:List V},ub sz l=true->∀ x∈l,x.cells.length=sz/\x.okc=true
 |y::r,h,x,hx=>by
  simp only[ub,Bool.and_eq_true]at h
  rcases List.mem_cons.1 hx with rfl | hx
  ·exact⟨Nat.eq_of_beq_eq_true h.1.1,h.1.2⟩
  ·exact z2 h.2 x hx
theorem Jj{a b:IntKind}(h:vn a b=true):a=b:=by unfold vn at h;split at h<;>first | rfl | cases h
theorem T8{P:Program}{T:TypeId}(h:B6 P T=true):P.underlying T=some .bool:=by unfold B6 at h;split at h<;>first | assumption | cases h
theorem xU{op:BinOp}(h:isEq op=true):op=.eql\/op=.neq:=by cases op<;>first | exact .inl rfl | exact .inr rfl | cases h
theorem T5{n:Int}(h:qA n=false):n≠0:=by rintro rfl;cases h
section
variable (P:Program) (obj:Name->Option O)
def wu(T:TypeId)(x:D):Bool:=
 match a7 P T with
 |none=>false
 |some (ag,n)=>match x with
  | .v (.ptr cs)=>match ag with
    |true=>eW n cs.length
    |false=>cG n 1&&gq 0 cs.length
  | .ref nm off=>match obj nm with
    |some (.box cs)=>match ag with
     |true=>eW (off+n) cs.length
     |false=>cG n 1&&gq off cs.length
    |some (.fbox cs)=>match ag with
     |true=>eW (off+n) cs.length
     |false=>cG n 1&&gq off cs.length
    |_=>false
  | .aref nm k i off=>match obj nm with
    |some (.arr _ l)=>cG k l.length&&gq i l.length&&(match ag with
     |true=>eW (off+n) (l.getD i default).cells.length
     |false=>cG n 1&&gq off (l.getD i default).cells.length)
    |some (.farr _ l)=>cG k l.length&&gq i l.length&&(match ag with
     |true=>eW (off+n) (l.getD i default).cells.length
     |false=>cG n 1&&gq off (l.getD i default).cells.length)
    |_=>false
  |_=>false
def zO(T:TypeId)(f:Nat)(x:D):Bool:=
 match bK P T f with
 |none=>false
 |some (off,n,_)=>!cG n 0&&match x with
  | .v (.ptr cs)=>eW (off+n) cs.length
  | .ref _ _=>true
  | .aref nm k _ _=>match obj nm with
    |some o=>oq o.len? k
    |none=>false
  |_=>false
def zM(T:TypeId)(x i:D):Bool:=
 match i with
 | .v (.int _ n)=>match x with
   | .v (.sl l)=>match b8 P T with
     |some (_,sz,_)=>dq 0 n&&jP n l.length&&cG (l.getD n.toNat default).cells.length sz
     |none=>false
   | .msl nm k=>match b8 P T with
     |some (_,sz,_)=>match obj nm with
      |some (.arr s l)=>dq 0 n&&jP n l.length&&cG k l.length&&cG s sz
      |some (.farr s l)=>dq 0 n&&jP n l.length&&cG k l.length&&cG s sz
      |_=>false
     |none=>false
   | .ref _ _=>match jf P T with
     |some (len,_,_)=>dq 0 n&&jP n len
     |none=>false
   | .v (.ptr cs)=>match jf P T with
     |some (len,sz,_)=>dq 0 n&&jP n len&&eW (n.toNat*sz+sz) cs.length
     |none=>false
   |_=>false
 |_=>false
def ME(op:BinOp)(k k':IntKind)(b:Int):Bool:=
 match op with
 | .quo=>vn k k'&&!qA b
 | .rem=>vn k k'&&!qA b
 | .shl=>dq 0 b
 | .shr=>dq 0 b
 |_=>vn k k'
def Mv(op:BinOp)(a b:ByteArray):Bool:=
 match op with
 | .add=>eW (a.size+b.size) maxLen
 | .eql | .neq | .lss | .leq | .gtr | .geq=>true
 |_=>false
def Ep(op:BinOp)(T:TypeId)(x y:D):Bool:=
 match x,y with
 | .v (.int k _),.v (.int k' b)=>ME op k k' b
 | .v (.str a),.v (.str b)=>Mv op a b
 | .v (.bool _),.v (.bool _)=>B6 P T&&isEq op
 |_,_=>false
def Ek(op:BinOp)(T:TypeId)(x y:V):Bool:=
 match hU P Op.maxDepth T x y with
 |some _=>!(P.eqGuardType P.depth T)&&isEq op
 |none=>false
def Ei(op:BinOp)(T:TypeId)(x:D):Bool:=
 match x with
 | .v (.sl (_::_))=>oq (de P T) 0&&isEq op
 | .msl nm (k+1)=>(match obj nm with | some o=>oq o.len? (k+1) | none=>false)&&oq (de P T) 0&&isEq op
 |_=>false
def zU(op:BinOp)(T:TypeId)(x y:D)(ku:Bool):Bool:=
 match ku with
 |true=>Ei P obj op T x
 |false=>match dS x,dS y with
  |some (.agg a),some (.agg b)=>Ek P op T (.agg a) (.agg b)
  |_,_=>Ep P op T x y
def zA(op:UnOp)(x:D):Bool:=
 match op,x with
 | .not,.v (.bool _)=>true
 | .neg,.v (.int _ _)=>true
 |_,_=>false
def zR(src dst:TypeId)(x:D):Bool:=
 match lY P dst,x with
 |some _,.v (.int _ _)=>(P.underlying src).isSome
 |_,_=>false
def zQ(x:D)(i:Nat):Bool:=
 match x with
 | .tup l=>gq i l.length
 | .v (.tup l)=>gq i l.length
 |_=>false
def zE(x:D):Bool:=
 match x with
 | .ref _ _=>true
 | .v (.ptr _)=>true
 | .aref nm k _ _=>match obj nm with
   |some o=>oq o.len? k
   |none=>false
 |_=>false
def wx(t:Name)(x:D):Bool:=sP (obj (bb t))&&x.boxable
def zW(t:Name)(T:TypeId):Bool:=match be P T with
 |some z=>wx obj t (iA z)
 |none=>false
def zT(T:TypeId)(parts:List (Nat×D)):Bool:=
 match gF P T,be P T with
 |some ps,some z=>match iA z with
  | .agg cs=>match rC (fun i=>ps[i]?) cs parts with
    |some _=>true
    |none=>false
  |_=>false
 |_,_=>false
def zB(T:TypeId)(x d:D):Bool:=
 match a7 P T with
 |none=>false
 |some (_,n)=>match x with
  | .ref nm off=>match obj nm with
    |some (.box cs)=>d.boxable&&cG d.cells.length n&&eW (off+n) cs.length
    |_=>false
  | .aref nm k i off=>match obj nm with
    |some (.arr sz l)=>match dS d with
     |some y=>cG k l.length&&gq i l.length&&cG y.cells.length n&&y.okc&&eW (off+n) sz&&!cG sz 0
     |none=>false
    |_=>false
  |_=>false
def zH(t:Name)(T:TypeId)(r:Option D):Bool:=
 match jG P T,r with
 |some _,none=>sP (obj (bb t))
 |_,_=>false
def zG(t:Name)(T:TypeId)(l c:D):Bool:=
 match b8 P T,l,c with
 |some (e,sz,by_),.v (.int _ n),.v (.int _ n')=>match (be P e).bind fun z=>dS (iA z)with
  |some zv=>dq n n'&&dq n' n&&dq 0 n&&dq ((by_:Int)*n) 281474976710656&&dq n 9223372036854775807&&cG zv.cells.length sz&&zv.okc&&!cG sz 0&&sP (obj (bb t))
  |none=>false
 |_,_,_=>false
def zJ(T:TypeId)(x:D):Bool:=
 match de P T,x with
 |some 0,.v (.sl _)=>true
 |some 0,.nilsl=>true
 |some 0,.msl nm k=>match obj nm with
  |some o=>oq o.len? k
  |none=>false
 |some 1,.v (.str _)=>true
 |some 2,.nilmap=>true
 |some 2,.map nm=>match obj nm with
  |some (.map _ _)=>true
  |_=>false
 |_,_=>false
def zC(T:TypeId)(x:D)(lo hi mx:Option D):Bool:=
 match mx with
 |none=>match x with
  | .v (.sl l)=>match b8 P T,ga lo,jT l.length hi with
    |some (_,sz,_),some i,some j=>dq 0 i&&dq i j&&dq j l.length&&ua sz l
    |_,_,_=>false
  | .nilsl=>match b8 P T,ga lo,jT 0 hi with
    |some (_,_,_),some i,some j=>qA i&&qA j
    |_,_,_=>false
  | .msl nm k=>match obj nm,b8 P T,ga lo,jT k hi with
    |some (.arr _ l),some (_,sz,_),some i,some j=>cG k l.length&&dq 0 i&&dq i j&&dq j l.length&&ua sz l
    |some (.farr _ l),some (_,sz,_),some i,some j=>cG k l.length&&dq 0 i&&dq i j&&dq j l.length&&ua sz l
    |_,_,_,_=>false
  | .v (.str s)=>match de P T,ga lo,jT s.size hi with
    |some 1,some i,some j=>dq 0 i&&dq i j&&dq j s.size
    |_,_,_=>false
  |_=>false
 |some (.v (.int _ 0))=>match b8 P T,ga lo,hi with
  |some _,some 0,some (.v (.int _ 0))=>match x with
   | .v (.sl _)=>true
   | .nilsl=>true
   | .msl nm k=>match obj nm with
     |some o=>oq o.len? k
     |none=>false
   |_=>false
  |_,_,_=>false
 |some _=>false
def zP(T:TypeId)(x:D)(f:Nat):Bool:=
 match bK P T f with
 |none=>false
 |some (off,n,ag)=>match x with
  | .agg l=>match ag with
    |true=>eW (off+n) l.length
    |false=>gq off l.length
  | .v (.agg l)=>match ag with
    |true=>eW (off+n) l.length
    |false=>gq off l.length
  |_=>false
def zN(T:TypeId)(x i:D):Bool:=
 match i with
 | .v (.int _ n)=>match x with
   | .v (.str s)=>oq (de P T) 1&&dq 0 n&&jP n s.size
   | .agg l=>match jf P T with
     |some (len,sz,true)=>dq 0 n&&jP n len&&eW (n.toNat*sz+sz) l.length
     |some (len,sz,false)=>dq 0 n&&jP n len&&gq (n.toNat*sz) l.length
     |none=>false
   | .v (.agg l)=>match jf P T with
     |some (len,sz,true)=>dq 0 n&&jP n len&&eW (n.toNat*sz+sz) l.length
     |some (len,sz,false)=>dq 0 n&&jP n len&&gq (n.toNat*sz) l.length
     |none=>false
   |_=>false
 |_=>false
def zI(T:TypeId)(x k:D):Bool:=
 match jG P T with
 |some (kd,e)=>match (be P e).bind fun z=>dS (iA z),dS k with
  |some _,some kv=>match x with
   | .nilmap=>eW kd 2&&dR kd kv
   | .map nm=>match obj nm with
     |some (.map jO _)=>eW kd 2&&dR kd kv&&cG jO kd
     |_=>false
   |_=>false
  |_,_=>false
 |none=>false
def wt(T:TypeId)(x k d:D):Bool:=
 match jG P T,x,dS k,dS d with
 |some (kd,_),.map nm,some kv,some _=>match obj nm with
  |some (.map jO _)=>eW kd 2&&dR kd kv&&cG jO kd
  |_=>false
 |_,_,_,_=>false
def zD(c:D):Bool:=match c with
 | .v (.bool _)=>true
 |_=>false
def wq(x:D):Bool:=match x with
 | .v (.sl _)=>true
 | .nilsl=>true
 | .msl nm k=>match obj nm with
   |some (.arr _ l)=>cG k l.length
   |some (.farr _ l)=>cG k l.length
   |_=>false
 |_=>false
def zV(t:Name)(T1 T2:TypeId)(s x:D):Bool:=
 match b8 P T1,b8 P T2 with
 |some (e,sz,by_),some _=>match be P e with
  |some z=>match s with
   | .nilsl=>wq obj x&&ub sz (aI obj x).2&&cG z.cells.size sz&&eW ((aI obj x).2.length*by_) 140737488355328&&eW (aI obj x).2.length maxLen&&sP (obj (bb t))
   | .msl nm k=>match obj nm with
     |some (.arr s' l)=>wq obj x&&ub sz (aI obj x).2&&cG z.cells.size sz&&eW ((l.length+(aI obj x).2.length)*by_) 140737488355328&&
        eW (l.length+(aI obj x).2.length) maxLen&&cG k l.length&&cG s' sz
     |_=>false
   |_=>false
  |none=>false
 |_,_=>false
variable {P obj}
theorem pr{a b:Nat}:eW a b=true↔a<=b:=⟨qu,Nat.ble_eq_true_of_le⟩
theorem u3{a b:Nat}:gq a b=true↔a<b:=⟨xG,Nat.ble_eq_true_of_le⟩
theorem pt{a b:Nat}:cG a b=true↔a=b:=⟨jL,fun h=>by subst h;simp[cG]⟩
theorem xH{a b:Nat}:cG a b=false↔a≠b:=by
 rw[<-Bool.not_eq_true,pt]
theorem JB{a b:Int}:dq a b=true↔a<=b:=⟨gd,fun h=>by
 unfold dq
 split
 ·rfl
 ·rename_i n hn;have:=Int.negSucc_lt_zero n;omega⟩
theorem JA{a b:Int}:jP a b=true↔a<b:=⟨Ue,fun h=>by
 unfold jP
 split
 ·rfl
 ·rename_i n hn;have:=Int.negSucc_lt_zero n;omega⟩
theorem Js{n:Int}:qA n=true↔n=0:=⟨fun h=>(by unfold qA at h;split at h<;>first | rfl | cases h),fun h=>(by subst h;rfl)⟩
theorem Ej{T:TypeId}{x:D}(h:wu P obj T x=true):(i6 P obj T x).ok:=by
 unfold wu at h
 unfold i6
 (repeat' split at h)<;>simp_all[pr,u3,pt,-List.getD_eq_getElem?_getD]
theorem MI{T:TypeId}{f:Nat}{x:D}(h:zO P obj T f x=true):(kU P obj T f x).ok:=by
 unfold zO at h
 unfold kU
 split at h
 ·cases h
 ·simp only[Bool.and_eq_true,Bool.not_eq_true',xH]at h
  obtain⟨h1,h⟩:=h
  (repeat' split at h)<;>simp_all[pr]
  exact po h
theorem MG{T:TypeId}{x i:D}(h:zM P obj T x i=true):(kT P obj T x i).ok:=by
 unfold zM at h
 unfold kT
 (repeat' split at h)<;>simp_all[pr,pt,JB,JA,-List.getD_eq_getElem?_getD]
theorem Yo{op:BinOp}{T:TypeId}{x y:D}(h:Ep P op T x y=true):(mN P obj op T x y).ok:=by
 unfold Ep at h
 unfold mN
 split at h
 ·simp only
  unfold ME at h
  unfold zL
  cases op<;>simp only[Bool.and_eq_true,Bool.not_eq_true']at h |- <;>first
   |exact⟨Jj h.1,T5 h.2⟩
   |exact Jj h
   |exact gd h
 ·simp only
  unfold Mv at h
  unfold wo
  cases op<;>simp only at h |- <;>first | exact qu h | trivial | (cases h;done)
 ·simp only[Bool.and_eq_true]at h
  exact⟨T8 h.1,xU h.2⟩
 ·cases h
theorem Yk{op:BinOp}{T:TypeId}{x y:V}(h:Ek P op T x y=true):(i7 P obj op T x y).ok:=by
 unfold Ek at h
 unfold i7
 split at h
 ·rename_i b hb
  simp only[Bool.and_eq_true,Bool.not_eq_true']at h
  rw[hb]
  exact⟨h.1,xU h.2⟩
 ·cases h
theorem Yj{op:BinOp}{T:TypeId}{x:D}(h:Ei P obj op T x=true):(oY P obj op T x).ok:=by
 unfold Ei at h
 unfold oY
 split at h
 ·simp only[Bool.and_eq_true]at h
  exact⟨po h.1,xU h.2⟩
 ·rename_i nm k
  simp only[Bool.and_eq_true]at h
  refine⟨?_,po h.1.2,xU h.2⟩
  have h1:=h.1.1
  split at h1
  ·rename_i o ho;rw[ho];exact po h1
  ·cases h1
 ·cases h
theorem MN{op:BinOp}{T:TypeId}{x y:D}{n:Bool}(h:zU P obj op T x y n=true):(lT P obj op T x y n).ok:=by
 unfold zU at h
 unfold lT
 cases n with
 |true=>exact Yj h
 |false=>
  simp only at h |-
  split at h
  ·rename_i h1 h2
   simp only[h1,h2]
   exact Yk h
  ·rename_i aG
   split
   ·rename_i h1 h2;exact(aG _ _ h1 h2).elim
   ·exact Yo h
theorem Mu{op:UnOp}{x:D}(h:zA op x=true):(lK obj op x).ok:=by
 unfold zA at h
 unfold lK
 split at h<;>first | trivial | cases h
theorem ML{s d:TypeId}{x:D}(h:zR P s d x=true):(lP P obj s d x).ok:=by
 unfold zR at h
 unfold lP
 (repeat' split at h)<;>simp_all
theorem MJ{x:D}{i:Nat}(h:zQ x i=true):(lO obj x i).ok:=by
 unfold zQ at h
 unfold lO
 split at h<;>simp_all[u3]
theorem Mz{x:D}(h:zE obj x=true):(kb obj x).ok:=by
 unfold zE at h
 unfold kb
 (repeat' split at h)<;>simp_all
 exact po h
theorem Eo{t:Name}{x:D}(h:wx obj t x=true):(lS obj t x).ok:=by
 simp only[wx,Bool.and_eq_true]at h
 exact⟨xB h.1,h.2⟩
theorem MP{t:Name}{T:TypeId}(h:zW P obj t T=true):(mO P obj t T).ok:=by
 unfold zW at h
 unfold mO
 split at h
 ·rename_i z hz;rw[hz];exact Eo h
 ·cases h
theorem MM{T:TypeId}{ps:List (Nat×D)}(h:zT P T ps=true):(lR P obj T ps).ok:=by
 unfold zT at h
 unfold lR
 (repeat' split at h)<;>simp_all
theorem Mw{T:TypeId}{x d:D}(h:zB P obj T x d=true):(ka P obj T x d).ok:=by
 unfold zB at h
 unfold ka
 (repeat' split at h)<;>simp_all[pr,u3,pt,xH]
theorem MB{t:Name}{T:TypeId}{r:Option D}(h:zH P obj t T r=true):(mM P obj t T r).ok:=by
 unfold zH at h
 unfold mM
 (repeat' split at h)<;>simp_all
 exact xB h
theorem MA{t:Name}{T:TypeId}{l c:D}(h:zG P obj t T l c=true):(mL P obj t T l c).ok:=by
 unfold zG at h
 unfold mL
 split at h
 ·rename_i e sz by_ k n k' n' hT
  rw[hT]
  simp only
  split at h
  ·rename_i zv hz
   simp only[Bool.and_eq_true,Bool.not_eq_true',xH]at h
   obtain⟨⟨⟨⟨⟨⟨⟨⟨h1,h2⟩,h3⟩,h4⟩,h5⟩,h6⟩,h7⟩,h8⟩,h9⟩:=h
   rw[hz]
   exact⟨Int.le_antisymm (gd h2) (gd h1),gd h3,gd h4,gd h5,jL h6,h7,h8,xB h9⟩
  ·cases h
 ·cases h
theorem MD{T:TypeId}{x:D}(h:zJ P obj T x=true):(ke P obj T x).ok:=by
 unfold zJ at h
 unfold ke
 (repeat' split at h)<;>simp_all
 exact po h
theorem Mx{T:TypeId}{x:D}{lo hi mx:Option D}(h:zC P obj T x lo hi mx=true):(jB P obj T x lo hi mx).ok:=by
 unfold zC at h
 unfold jB
 split at h
 ·split at h
  ·split at h
   ·rename_i h1 h2 h3
    simp only[Bool.and_eq_true]at h
    simp only[h1,h2,h3]
    exact⟨gd h.1.1.1,gd h.1.1.2,gd h.1.2,zZ h.2⟩
   ·cases h
  ·split at h
   ·rename_i h1 h2 h3
    simp only[Bool.and_eq_true]at h
    simp only[h1,h2,h3]
    exact⟨Js.1 h.1,Js.1 h.2⟩
   ·cases h
  ·split at h
   ·rename_i h1 h2 h3 h4
    simp only[Bool.and_eq_true]at h
    simp only[h1,h2,h3,h4]
    exact⟨jL h.1.1.1.1,gd h.1.1.1.2,gd h.1.1.2,gd h.1.2,zZ h.2⟩
   ·rename_i h1 h2 h3 h4
    simp only[Bool.and_eq_true]at h
    simp only[h1,h2,h3,h4]
    exact⟨jL h.1.1.1.1,gd h.1.1.1.2,gd h.1.1.2,gd h.1.2,zZ h.2⟩
   ·cases h
  ·split at h
   ·rename_i h1 h2 h3
    simp only[Bool.and_eq_true]at h
    simp only[h1,h2,h3]
    exact⟨gd h.1.1,gd h.1.2,gd h.2⟩
   ·cases h
  ·cases h
 ·split at h
  ·rename_i h1 h2 h3
   split at h
   ·simp only[h2,h3]
   ·simp only[h2,h3]
   ·split at h
    ·rename_i o ho
     simp only[h2,h3,ho]
     exact po h
    ·cases h
   ·cases h
  ·cases h
 ·cases h
theorem MH{T:TypeId}{x:D}{f:Nat}(h:zP P T x f=true):(lN P obj T x f).ok:=by
 unfold zP at h
 unfold lN
 (repeat' split at h)<;>simp_all[pr,u3]
theorem MF{T:TypeId}{x i:D}(h:zN P T x i=true):(lM P obj T x i).ok:=by
 unfold zN at h
 unfold lM
 (repeat' split at h)<;>simp_all[pr,u3,JB,JA]
 exact po h.1.1
theorem MC{T:TypeId}{x k:D}{c:Bool}(h:zI P obj T x k=true):(lL P obj T x k c).ok:=by
 unfold zI at h
 unfold lL
 (repeat' split at h)<;>simp_all[pr,pt]
theorem zF{T:TypeId}{x k d:D}(h:wt P obj T x k d=true):(jC P obj T x k d).ok:=by
 unfold wt at h
 unfold jC
 (repeat' split at h)<;>simp_all[pr,pt]
theorem My{c x y:D}(h:zD c=true):(i5 obj c x y).ok:=by
 unfold zD at h
 unfold i5
 split at h<;>first | trivial | cases h
theorem Eh{x:D}(h:wq obj x=true):(aI obj x).1:=by
 unfold wq at h
 unfold aI
 (repeat' split at h)<;>simp_all[pt]
theorem MO{t:Name}{T1 T2:TypeId}{s x:D}(h:zV P obj t T1 T2 s x=true):(dM P obj t T1 T2 s x).ok:=by
 unfold zV at h
 unfold dM
 split at h
 ·rename_i e sz by_ p h1 h2
  split at h
  ·rename_i z hz
   split at h
   ·simp only[Bool.and_eq_true]at h
    simp only[h1,h2,hz]
    exact⟨Eh h.1.1.1.1.1,z2 h.1.1.1.1.2,jL h.1.1.1.2,qu h.1.1.2,qu h.1.2,xB h.2⟩
   ·split at h
    ·rename_i ho
     simp only[Bool.and_eq_true]at h
     simp only[h1,h2,hz,ho]
     exact⟨Eh h.1.1.1.1.1.1,z2 h.1.1.1.1.1.2,jL h.1.1.1.1.2,qu h.1.1.1.2,qu h.1.1.2,jL h.1.2,jL h.2⟩
    ·cases h
   ·cases h
  ·cases h
 ·cases h
end
def oO(f:(Name->Option O)->D->Bool)(g:(Name->Option O)->D->FR)(obj:Name->Option O):List D->Bool
 |[]=>true
 |d::r=>f obj d&&oO f g (g obj d).obj r
def jZ:Nat->(Name->Option O)->D->Bool
 | 0,obj,d=>match d with
   | .v _=>true
   | .nilsl=>true
   |_=>false
 |n+1,obj,d=>match d with
  | .v _=>true
  | .nilsl=>true
  | .msl nm k=>match obj nm with
    |some (.arr _ l)=>decide (k=l.length)
    |some (.farr _ l)=>decide (k=l.length)
    |_=>false
  | .ref nm _=>match obj nm with
    |some (.box cs)=>oO (jZ n) (aJ n) obj cs&&!cM (dZ (fp n obj) cs) nm
    |some (.fbox _)=>true
    |_=>false
  | .agg l=>oO (jZ n) (aJ n) obj l
  | .tup l=>oO (jZ n) (aJ n) obj l
  | .clo _ f c=>oO (jZ n) (aJ n) obj f&&oO (jZ n) (aJ n) (bm (aJ n) obj f).obj c
  |_=>false
theorem Dv{n:Nat}(ih:∀ obj d,jZ n obj d=true->(aJ n obj d).ok):∀ (l:List D) (obj:Name->Option O),oO (jZ n) (aJ n) obj l=true->(bm (aJ n) obj l).ok
 |[],_,_=>trivial
 |d::r,obj,h=>by
  simp only[oO,Bool.and_eq_true]at h
  exact⟨ih obj d h.1,Dv ih r _ h.2⟩
theorem KW:∀ (n:Nat) (obj:Name->Option O) (d:D),jZ n obj d=true->(aJ n obj d).ok
 | 0,obj,d,h=>by cases d<;>first | trivial | (simp[jZ]at h)
 |n+1,obj,d,h=>by
  have ih:=Dv (KW n)
  cases d with
  |v x=>trivial
  |nilsl=>trivial
  |msl nm k=>
   simp only[jZ]at h
   unfold aJ
   rcases ho:obj nm with _ | o
   ·simp[ho]at h
   ·cases o<;>simp[ho]at h |- <;>exact h
  |ref nm off=>
   simp only[jZ]at h
   rcases ho:obj nm with _ | o
   ·simp[ho]at h
   ·cases o with
    |box cs=>
     simp only[ho,Bool.and_eq_true,Bool.not_eq_true']at h
     simp only[aJ,ho]
     refine⟨ih cs obj h.1,?_⟩
     have :=(vZ (yW n) cs obj obj (dZ (fp n obj) cs) (fun _ hn=>hn) (fun _ _=>rfl)).2.frame nm (fun hn=>by rw[gb.2 hn]at h;cases h.2)
     rw[this,ho]
    |fbox cs=>simp only[aJ,ho]
    |_=>simp[ho]at h
  |agg l=>exact ih l obj h
  |tup l=>exact ih l obj h
  |clo fn f c=>
   simp only[jZ,Bool.and_eq_true]at h
   exact⟨ih f obj h.1,ih c _ h.2⟩
  |_=>simp[jZ]at h
def isNil{α:Type}:List α->Bool
 |[]=>true
 |_=>false
theorem T6{α:Type}{l:List α}:isNil l=true↔l=[]:=by cases l<;>simp[isNil]
def xQ:Nat->List Nat->Bool
 |_,[]=>true
 |k,x::r=>cG x k&&xQ (k+1) r
theorem Jt:∀ {k:Nat} {l:List Nat},xQ k l=true->l=List.range' k l.length
 |k,[],_=>rfl
 |k,x::r,h=>by
  simp only[xQ,Bool.and_eq_true]at h
  rw[jL h.1,List.length_cons,List.range'_succ]
  congr 1
  exact Jt h.2
def Eb(P:Program)(obj:Name->Option O)(T:TypeId)(n:Nat)(parts:List (Nat×D)):Bool:=
 match b8 P T with
 |some (e,sz,_)=>match cG n 0&&isNil parts with
  |true=>(be P e).isSome
  |false=>oO (jZ 4) (aJ 4) obj (parts.map fun p=>p.2)&&xQ 0 (parts.map fun p=>p.1)&&cG parts.length n&&ub sz (bm (aJ 4) obj (parts.map fun p=>p.2)).xs&&
     eW (n*sz) 16777216&&!cG sz 0&&(be P e).isSome&&gq 0 n
 |none=>false
theorem X'{P:Program}{obj:Name->Option O}{T:TypeId}{n:Nat}{parts:List (Nat×D)}(h:Eb P obj T n parts=true):(nO P obj T n parts).ok:=by
 unfold Eb at h
 unfold nO
 split at h
 ·rename_i e sz by_ hT
  rw[hT]
  simp only
  split at h
  ·rename_i hc
   simp only[Bool.and_eq_true,pt,T6]at hc
   rw[if_pos hc];exact h
  ·rename_i hc
   have gZ:¬ (n=0/\parts=[]):=by
    intro ⟨a,b⟩
    subst a;subst b
    cases hc
   rw[if_neg gZ]
   simp only[Bool.and_eq_true,Bool.not_eq_true',xH]at h
   obtain⟨⟨⟨⟨⟨⟨⟨h1,h2⟩,tz⟩,h3⟩,h4⟩,h5⟩,h6⟩,h7⟩:=h
   refine⟨?_,Dv (KW 4) _ _ h1,z2 h3,qu h4,h5,h6,xG h7⟩
   have :=Jt h2
   rw[List.length_map,jL tz,<-List.range_eq_range']at this
   exact this
 ·cases h
def Ea(P:Program)(σ:S)(t:Name)(b:Builtin)(ts:List TypeId)(args:List D):Bool:=
 match b,ts,args with
 | .len,[T],[x]=>zJ P σ.obj T x
 | .append,[T1,T2],[s,x]=>zV P σ.obj t T1 T2 s x
 | .min,_,[.v (.int _ _),.v (.int _ _)]=>true
 | .max,_,[.v (.int _ _),.v (.int _ _)]=>true
 |_,_,_=>false
def GP(P:Program)(σ:S)(t:Name):Op->Bool
 | .move _=>true
 | .assign _=>true
 | .pick c _ _=>zD (av σ c)
 | .alloc T=>zW P σ.obj t T
 | .box _ x=>wx σ.obj t (av σ x)
 | .build T ps=>zT P T (ps.toList.map fun p=>(p.1,av σ p.2))
 | .buildSlice T n ps=>Eb P σ.obj T n (ps.toList.map fun p=>(p.1,av σ p.2))
 | .load T x=>wu P σ.obj T (av σ x)
 | .store T x d=>zB P σ.obj T (av σ x) (av σ d)
 | .nilCheck x=>zE σ.obj (av σ x)
 | .binOp op T x y _=>zU P σ.obj op T (av σ x) (av σ y) (xR y)
 | .unOp op _ x=>zA op (av σ x)
 | .convert s d x=>zR P s d (av σ x)
 | .makeFunc _ _ _=>true
 | .makeMap T r=>zH P σ.obj t T (r.map (av σ))
 | .makeSlice T l c=>zG P σ.obj t T (av σ l) (av σ c)
 | .slice T x lo hi mx=>zC P σ.obj T (av σ x) (lo.map (av σ)) (hi.map (av σ)) (mx.map (av σ))
 | .fieldAddr T x f=>zO P σ.obj T f (av σ x)
 | .field T x f=>zP P T (av σ x) f
 | .indexAddr T x i=>zM P σ.obj T (av σ x) (av σ i)
 | .index T x i=>zN P T (av σ x) (av σ i)
 | .lookup T x i _=>zI P σ.obj T (av σ x) (av σ i)
 | .mapUpdate T x k d=>wt P σ.obj T (av σ x) (av σ k) (av σ d)
 | .insert T x k d=>wt P σ.obj T (av σ x) (av σ k) (av σ d)
 | .extract x i=>zQ (av σ x) i
 | .call ⟨.builtin b,args,ts⟩=>Ea P σ t b ts.toList (args.toList.map (av σ))
 |_=>false
theorem X9{P:Program}{σ:S}{t:Name}{b:Builtin}{ts:List TypeId}{args:List D}(h:Ea P σ t b ts args=true):(lQ P σ t b ts args).ok:=by
 unfold Ea at h
 split at h
 ·exact MD h
 ·exact MO h
 ·trivial
 ·trivial
 ·cases h
theorem QV{P:Program}{Γ:FuncId->Option Spec}{σ:S}{t:Name}{op:Op}(h:GP P σ t op=true):(a8 P Γ σ t op).ok:=by
 cases op with
 |call c=>
  obtain⟨callee,args,ts⟩:=c
  cases callee with
  |value f=>cases h
  |builtin b=>exact X9 h
  |invoke=>cases h
 |move=>trivial
 |assign=>trivial
 |makeFunc=>trivial
 |pick=>exact My h
 |alloc=>exact MP h
 |box=>exact Eo h
 |build=>exact MM h
 |buildSlice=>exact X' h
 |load=>exact Ej h
 |store=>exact Mw h
 |nilCheck=>exact Mz h
 |binOp=>exact MN h
 |unOp=>exact Mu h
 |convert=>exact ML h
 |makeMap=>exact MB h
 |makeSlice=>exact MA h
 |slice=>exact Mx h
 |fieldAddr=>exact MI h
 |field=>exact MH h
 |indexAddr=>exact MG h
 |index=>exact MF h
 |lookup=>exact MC h
 |mapUpdate=>exact zF h
 |insert=>exact zF h
 |extract=>exact MJ h
 |_=>cases h
def xW(o:Oper):Option (TypeId×Operand×Operand×Nat):=
 match o.op with
 | .slice T x (some lo) none none=>match o.guard,o.dst with
   |none,some c=>some (T,x,lo,c)
   |_,_=>none
 |_=>none
def xV(c:Nat)(o:Oper):Bool:=
 match o.op with
 | .call ⟨.builtin .clear,args,ts⟩=>match args.toList,ts.toList,o.guard,o.dst with
   |[.tmp c'],[_],none,none=>Nat.beq c' c
   |_,_,_,_=>false
 |_=>false
def mJ(o:Oper):TypeId:=match o.op with
 | .call ⟨.builtin .clear,_,ts⟩=>ts.getD 0 0
 |_=>0
def kV(P:Program)(obj:Name->Option O)(T T2:TypeId)(x lo:D):R:=
 match x,lo,b8 P T,b8 P T2 with
 | .msl nm k,.v (.int _ i),some (e,sz,_),some (e2,_,_)=>match obj nm,(be P e).bind fun z=>dS (iA z)with
   |some (.arr s l),some zv=>⟨k=l.length/\0<=i/\i.toNat<l.length/\s=sz/\zv.cells.length=sz/\zv.okc=true/\e2=e/\0<sz,.any,upd obj nm (some (.arr sz (l.take i.toNat++List.replicate (l.length-i.toNat) zv)))⟩
   |_,_=>.bad obj
 |_,_,_,_=>.bad obj
def pY(P:Program)(σ:S)(T:TypeId)(x lo:Operand)(c:Nat)(o2:Oper):S:=
 { σ with env:=upd σ.env c ⟨true,.any⟩,obj:=(kV P σ.obj T (mJ o2) (av σ x) (av σ lo)).obj }
inductive lU (P:Program) (Γ:FuncId->Option Spec) (ops:Array Oper):List Oper->S->(S->Prop)->Prop
 |nil {σ:S} {K:S->Prop}:K σ->lU P Γ ops [] σ K
 |step {o:Oper} {r:List Oper} {σ:S} {K:S->Prop}:ko P Γ ops σ o->lU P Γ ops r (bg P Γ ops σ o) K->lU P Γ ops (o::r) σ K
 |cut {o o2:Oper} {r:List Oper} {σ:S} {K:S->Prop} {T:TypeId} {x lo:Operand} {c:Nat}:xW o=some (T,x,lo,c)->xV c o2=true->c<σ.nt->cJ σ x=true->cJ σ lo=true->
    (kV P σ.obj T (mJ o2) (av σ x) (av σ lo)).ok->lU P Γ ops r (pY P σ T x lo c o2) K->lU P Γ ops (o::o2::r) σ K
theorem F7{m:Mem}{zv:V}{z:Value}{sz:Nat}(h:aL m zv z)(hs:zv.cells.length=sz)(cB:0<sz)(n k:Nat)(hk:k<n*sz):
 (Builtin.zeroCells z.cells n)[k]?=z.cells[k % sz]?:=by
 have hz:z.cells.size=sz:=by rw[<-h.cells];exact hs
 have hm:=Nat.mod_lt k cB
 unfold Builtin.zeroCells
 rw[hz]
 simp only[Array.getElem?_map,Array.getElem?_range,hk,if_true,Option.map_some]
 rw[Array.getElem?_eq_getElem (by omega),getElem!_pos z.cells (k % sz) (by omega)]
theorem D1{l:List V}{zv:V}{i q:Nat}(hi:i<=l.length)(hq:q<(l.take i++List.replicate (l.length-i) zv).length):
 (q<i/\∃ h:q<l.length,(l.take i++List.replicate (l.length-i) zv)[q]=l[q])\/(i<=q/\q<l.length/\(l.take i++List.replicate (l.length-i) zv)[q]=zv):=by
 have hlen:(l.take i).length=i:=by simp;omega
 have cj:=hq
 simp only[List.length_append,List.length_replicate,hlen]at cj
 by_cases h1:q<i
 ·refine .inl ⟨h1,by omega,?_⟩
  rw[List.getElem_append_left (by omega),List.getElem_take]
 ·refine .inr ⟨by omega,by omega,?_⟩
  rw[List.getElem_append_right (by omega),List.getElem_replicate]
theorem Hf{K a b:Nat}(h:a<b):a*K+K<=b*K:=by
 have :=Nat.mul_le_mul_right K (show a+1<=b by omega)
 rwa [Nat.add_mul,Nat.one_mul]at this
set_option maxHeartbeats 1000000 in
theorem Xx{P:Program}{G:Ghost}{φ:Name->Loc}{m:Mem}{σ:S}{a:Act}{w:World}(hC:aN G φ m σ a w)
 {ops:Array Oper} {i:Nat} {o o2:Oper} (hi:ops[i]?=some o) (kH:ops[i+1]?=some o2) {T:TypeId} {x lo:Operand} {c:Nat} (hA:xW o=some (T,x,lo,c)) (hB:xV c o2=true) (hc:c<σ.nt)
 (hx:cJ σ x=true) (el:cJ σ lo=true) (aa:(kV P σ.obj T (mJ o2) (av σ x) (av σ lo)).ok) {K:Act->World->Prop} {Q:Exit->Act->World->Prop}
 (hK:∀ a' w' φ' m',aN G φ' m' (pY P σ T x lo c o2) a' w'->K a' w'):
 wpOpIn (fz G.rd) 0 P ops Q i (fun a1 w1=>wpOpIn (fz G.rd) 0 P ops Q (i+1) K a1 w1) a w:=by
 unfold xW at hA
 split at hA
 case h_2=>cases hA
 rename_i T0 x0 BK J0
 split at hA
 case h_2=>cases hA
 rename_i hg hd
 simp only[Option.some.injEq,Prod.mk.injEq]at hA
 obtain⟨rfl,rfl,rfl,rfl⟩:=hA
 unfold xV at hB
 split at hB
 case h_2=>cases hB
 rename_i args ts Cz
 split at hB
 case h_2=>cases hB
 rename_i c' T2 oK oD eE jV
 have V0:=Nat.eq_of_beq_eq_true hB
 subst V0
 have mF:mJ o2=T2:=by
  unfold mJ
  rw[Cz]
  simp only
  have :ts= #[T2]:=by rw[<-Array.toArray_toList (xs:=ts),oD]
  rw[this];rfl
 have Wc:args= #[.tmp c']:=by rw[<-Array.toArray_toList (xs:=args),oK]
 have UC:ts= #[T2]:=by rw[<-Array.toArray_toList (xs:=ts),oD]
 rw[mF]at aa
 have Kv:pY P σ T0 x0 BK c' o2={ σ with env:=upd σ.env c' ⟨true,.any⟩,obj:=(kV P σ.obj T0 T2 (av σ x0) (av σ BK)).obj }:=by unfold pY;rw[mF]
 rw[Kv]at hK
 clear Kv hB oK oD mF
 have rx:=ck hC hx
 have rl:=ck hC el
 unfold kV at aa hK
 split at aa
 case h_2=>exact aa.elim
 rename_i nm k kd ii e sz by_ e2 Fo Mm yJ rj KE KD
 split at aa
 case h_2=>exact aa.elim
 rename_i s l zv ay qC
 obtain⟨h1,h2,h3,h4,h5,h6,h7,cB⟩:=aa
 subst h7
 subst h4
 obtain⟨n,rfl⟩:∃ n:Nat,ii=(n:Int):=⟨ii.toNat,by omega⟩
 simp only[yJ,rj,KE,KD,ay,qC,Int.toNat_natCast]at hK h3
 obtain⟨hu,it,gh,Ki,_⟩:=je KE
 obtain⟨eZ,_⟩:=je KD
 obtain⟨z,hz,Ui⟩:=Option.bind_eq_some_iff.1 qC
 have fO:aL m zv z:=nM (sM (φ:=φ) (obj:=σ.obj) (m:=m) z) Ui
 rw[yJ]at rx
 rw[rj]at rl
 cases rl with
 |v _ _ rl=>
 cases nu:a.eval BK with
 |int kd2 n2=>
  rw[nu]at rl
  cases rl
  cases rx with
  |msl _ _ _ hh _=>
  obtain⟨oo,nn,dj,hlen,hk,cN⟩:=hh
  rw[ay]at dj;cases dj
  simp only[O.len?,Option.some.injEq]at hlen
  subst hlen
  subst h1
  have hv:=cN rfl
  rcases hC.objs nm _ ay with⟨_,oE⟩ | ⟨g0,g1,g2,g3,g4,us,T',f,g5,g6,g7,g8⟩
  ·subst oE;simp at h3
  have qE:a.eval x0=.slice (some ⟨(φ nm).blk,(φ nm).off,none⟩) l.length (φ nm).cap:=by rw[hv];simp only[Loc.slice,g0];rfl
  have mD:(φ nm).blk<w.heap.size:=(Array.getElem?_eq_some_iff.1 g5).1
  have gG:(Instr.sliceAt T0 (.slice (some ⟨(φ nm).blk,(φ nm).off,none⟩) l.length (φ nm).cap) (some (.int kd n)) none none).run P w=
      .ok (.slice (some ⟨(φ nm).blk,(φ nm).off+n*s,none⟩) (l.length-n) ((φ nm).cap-n)) w:=by
   have hb:=xg (P:=P) (φ:=φ) (obj:=σ.obj) (m:=m) (lo:=some (.v (.int kd n))) (hi:=none) (ulo:=some (.int kd n)) (uhi:=none) (len:=l.length) (cap:=(φ nm).cap) (n:=0) (i:=n) (j:=l.length) true (.v _ _ (.int _ _)) trivial rfl rfl (by omega) (by omega) (by omega) g1 w
   rw[xb hu]
   have aG:¬ ((φ nm).cap=n):=by omega
   simp[Instr.slice,run_underlying hu,hb,sizeOf,typeInfo,gh,Ki,aG,nN]
  have bN:∀ cc,o.op≠ .defer cc:=fun cc h=>by rw[J0]at h;cases h
  have U1:∀ cc,o2.op≠ .defer cc:=fun cc h=>by rw[Cz]at h;cases h
  have kE:Region.wanted o (yielded ops a.tmps)=true:=by unfold Region.wanted;rw[hg]
  have cH:(execOp a.eval o).run P w=.ok (.value (.slice (some ⟨(φ nm).blk,(φ nm).off+n*s,none⟩) (l.length-n) ((φ nm).cap-n))) w:=by
   unfold execOp
   rw[J0]
   simp only[qE,Option.map_some,Option.map_none,nu,Sem.run_bind,gG,Result.andThen_ok,Sem.run_pure]
  have key:∀ KK:Act->World->Prop,KK (a.put (some c') (.slice (some ⟨(φ nm).blk,(φ nm).off+n*s,none⟩) (l.length-n) ((φ nm).cap-n))) w->wpOpIn (fz G.rd) 0 P ops Q i KK a w:=by
   intro KK KN
   unfold wpOpIn
   simp only[hi,kE,if_true]
   refine⟨fun _ _=>trivial,?_⟩
   rw[Oper.semAt_eq _ _ _ bN,cH]
   rw[<-hd]at KN
   exact KN
  refine key _ ?_
  have gy:=hC.put (t:=c') (e:=⟨true,.any⟩) (v:=.slice (some ⟨(φ nm).blk,(φ nm).off+n*s,none⟩) (l.length-n) ((φ nm).cap-n)) hc (by unfold cl;simp;exact .any _)
  have Kq:(a.put (some c') (.slice (some ⟨(φ nm).blk,(φ nm).off+n*s,none⟩) (l.length-n) ((φ nm).cap-n))).eval (.tmp c')=.slice (some ⟨(φ nm).blk,(φ nm).off+n*s,none⟩) (l.length-n) ((φ nm).cap-n):=by
   have hs:c'<a.tmps.size:=by rw[hC.size];exact hc
   simp[Act.put,Act.eval,Array.getD,hs]
  generalize hga:a.put (some c') (.slice (some ⟨(φ nm).blk,(φ nm).off+n*s,none⟩) (l.length-n) ((φ nm).cap-n))=a1 at gy Kq |-
  have iO:n*s<=l.length*s:=Nat.mul_le_mul_right _ (by omega)
  have iU:l.length*s<=(φ nm).cap*s:=Nat.mul_le_mul_right _ g1
  have qD:(Builtin.zeroCells z.cells (l.length-n)).toList.length=l.length*s-n*s:=by
   have Cd:z.cells.size=s:=by rw[<-fO.cells];exact h5
   simp[Builtin.zeroCells,Cd,Nat.sub_mul]
  obtain⟨iu,k1,k2,k3⟩:=uL P (φ nm).blk ((φ nm).off+n*s) T' f g6 (Builtin.zeroCells z.cells (l.length-n)).toList 0 us w g5 (by rw[qD];omega)
   (fun v hv=>by
     obtain⟨k,hk,rfl⟩:=List.getElem_of_mem hv
     rw[qD,<-Nat.sub_mul]at hk
     have h0:=F7 fO h5 cB (l.length-n) k hk
     have Kb:k % s<z.cells.size:=by rw[<-fO.cells,h5];exact Nat.mod_lt _ cB
     rw[Array.getElem?_eq_getElem Kb]at h0
     have h1:(Builtin.zeroCells z.cells (l.length-n)).toList[k]=z.cells[k % s]:=by
      have :=h0
      rw[<-Array.getElem?_toList]at this
      exact(List.getElem?_eq_some_iff.1 this).2
     rw[h1]
     have qX:k % s<zv.cells.length:=by rw[h5];exact Nat.mod_lt _ cB
     exact GR ((fO.cell (k % s) qX Kb).one (fO.ones h6 _ (List.getElem_mem _))))
  simp only[Nat.add_zero]at k2
  have vz:Region.wanted o2 (yielded ops a1.tmps)=true:=by unfold Region.wanted;rw[eE]
  show wpOpIn (fz G.rd) 0 P ops Q (i+1) K a1 w
  unfold wpOpIn
  simp only[kH,vz,if_true]
  refine⟨fun _ _=>trivial,?_⟩
  rw[Oper.semAt_eq _ _ _ U1]
  have UI:(execOp a1.eval o2).run P w=.ok (.value (.tuple #[])) (cD w (φ nm).blk (.cells iu T' f)):=by
   have aG:l.length-n≠0:=by omega
   unfold execOp
   rw[Cz,Wc,UC]
   simp only[resolve,invoke,builtin,Sem.run_bind,Sem.run_pure,Result.andThen_ok,List.map_toArray,List.map_cons,List.map_nil,Kq]
   have UA:Sem.run P (underlying T2) w=.ok (TypeDesc.slice e2) w:=run_underlying eZ w
   have cC:(Builtin.clear_ #[T2] o2.type #[.slice (some ⟨(φ nm).blk,(φ nm).off+n*s,none⟩) (l.length-n) ((φ nm).cap-n)]).run P w=.ok (.tuple #[]) (cD w (φ nm).blk (.cells iu T' f)):=by
    obtain⟨q,hq⟩:∃ q,l.length-n=q+1:=⟨l.length-n-1,by omega⟩
    rw[hq]at k3 |-
    simp[Builtin.clear_,UA,uK hz,k3]
   simp only[cC,Result.andThen_ok]
  rw[UI]
  have vK:(l.take n++List.replicate (l.length-n) zv).length=l.length:=by simp;omega
  have br:=Ext.same (φ:=φ) (o':=.arr s (l.take n++List.replicate (l.length-n) zv)) ay (by simp only[O.len?,vK]) rfl
  have VE:=gy.chg (w':=cD w (φ nm).blk (.cells iu T' f)) nm (.arr s (l.take n++List.replicate (l.length-n) zv)) (φ nm) br ⟨rfl,rfl,rfl,by simp[cD]⟩
   (fun b hb hn=>o3 (by rcases hn with h | h; · rw[g0]at h;cases h
                        ·exact h))
   (fun _=>.inr ⟨⟨_,ay,rfl,g0⟩,rfl⟩) (by
     refine .inr ⟨g0,by rw[vK];exact g1,g2,fun q hq=>?_,fun q hq=>?_,iu,T',f,qh mD,g6,by rw[k1];exact g7,fun q j hq hj=>?_⟩
     ·rcases D1 (by omega) hq with⟨_,cj,e3⟩ | ⟨_,_,e3⟩<;>rw[e3]
      ·exact g3 q cj
      ·exact h5
     ·rcases D1 (by omega) hq with⟨_,cj,e3⟩ | ⟨_,_,e3⟩<;>rw[e3]
      ·exact g4 q cj
      ·exact fO.ones h6
     ·rw[k2,qD]
      rcases D1 (by omega) hq with⟨Cu,cj,e3⟩ | ⟨Cu,cj,e3⟩
      ·simp only[e3]at hj |-
       have fP:j<s:=by rw[<-g3 q cj];exact hj
       have hm:=Hf (K:=s) Cu
       rw[if_neg (by omega)]
       exact g8 q j cj hj
      ·simp only[e3]at hj |-
       have fP:j<s:=by rw[<-h5];exact hj
       have hm:=Hf (K:=s) cj
       have gI:n*s<=q*s:=Nat.mul_le_mul_right _ Cu
       rw[if_pos (by omega)]
       refine⟨z.cells[j]'(by rw[<-fO.cells,h5];exact fP),?_,fO.cell j hj _⟩
       rw[show (φ nm).off+q*s+j-((φ nm).off+n*s)=(q-n)*s+j by rw[Nat.sub_mul];omega,Array.getElem?_toList]
       have ab:(q-n)*s+j<(l.length-n)*s:=by rw[Nat.sub_mul,Nat.sub_mul];omega
       rw[F7 fO h5 cB _ _ ab]
       have :((q-n)*s+j) % s=j:=by rw[Nat.mul_comm,Nat.mul_add_mod,Nat.mod_eq_of_lt fP]
       rw[this,Array.getElem?_eq_getElem])
  have mA:=hK _ _ _ m VE
  show K (a1.put o2.dst (.tuple #[])) _
  rw[jV]
  exact mA
 |_=>rw[nu]at rl;cases rl
theorem Qt{P:Program}{Γ:FuncId->Option Spec}(hΓ:∀ f s,Γ f=some s->aM P f s){G:Ghost}{ops:Array Oper}{Q:Exit->Act->World->Prop}{K:S->Prop}{l:List Oper}{σ:S}(hr:lU P Γ ops l σ K):
 ∀ (k:Nat) {φ:Name->Loc} {m:Mem} {a:Act} {w:World},k+l.length=ops.size->ops.toList.drop k=l->aN G φ m σ a w->
   (∀ a' w' φ' m' σ',aN G φ' m' σ' a' w'->K σ'->Q .normal a' w')->wpOpsIn (fz G.rd) 0 P ops Q (List.range' k l.length) a w:=by
 have ra:∀ (k:Nat) (o:Oper) (r:List Oper),ops.toList.drop k=o::r->ops[k]?=some o/\ops.toList.drop (k+1)=r:=by
  intro k o r h
  have h0:(ops.toList.drop k)[0]?=some o:=by rw[h];rfl
  rw[List.getElem?_drop,Nat.add_zero,Array.getElem?_toList]at h0
  refine⟨h0,?_⟩
  have h1:(ops.toList.drop k).drop 1=r:=by rw[h];rfl
  rw[List.drop_drop]at h1
  exact h1
 induction hr with
 |nil hk=>exact fun k φ m a w _ _ hC hQ=>hQ _ _ φ m _ hC hk
 |step h1 _ ih=>
  intro k φ m a w hs hd hC hQ
  obtain⟨hi,jW⟩:=ra k _ _ hd
  rw[List.length_cons]at hs |-
  rw[List.range'_succ,wpOpsIn_cons]
  exact AB hΓ hC hi h1 fun a' w' φ' m' cm=>ih (k+1) (by omega) jW cm hQ
 |cut hA hB hc hx el aa _ ih=>
  intro k φ m a w hs hd hC hQ
  obtain⟨hi,jW⟩:=ra k _ _ hd
  obtain⟨kH,jV⟩:=ra (k+1) _ _ jW
  rw[List.length_cons,List.length_cons]at hs |-
  rw[List.range'_succ,wpOpsIn_cons,List.range'_succ]
  rename_i o1 o2 r' _ _ _ _ _ _ _
  have :=Xx (ops:=ops) (Q:=Q) hC hi kH hA hB hc hx el aa (K:=fun a' w'=>wpOpsIn (fz G.rd) 0 P ops Q (List.range' (k+1+1) r'.length) a' w') fun a' w' φ' m' cm=>ih (k+2) (by omega) jV cm hQ
  have e:wpOpsIn (fz G.rd) 0 P ops Q ((k+1)::List.range' (k+1+1) r'.length)=fun a1 w1=>wpOpIn (fz G.rd) 0 P ops Q (k+1) (fun a' w'=>wpOpsIn (fz G.rd) 0 P ops Q (List.range' (k+1+1) r'.length) a' w') a1 w1:=by
   funext a1 w1
   rw[wpOpsIn_cons]
  rw[e]
  exact this
theorem L3{P:Program}{Γ:FuncId->Option Spec}(hΓ:∀ f s,Γ f=some s->aM P f s){id:Nat}{ops:Array Oper}{σ:S}{K:Exit->S->Prop}
 (h:lU P Γ ops ops.toList σ (K .normal)):CW P (.region id ops false) σ K:=by
 intro G φ m a w hC
 refine wpIn_region ?_
 rw[List.range_eq_range']
 have :=Qt hΓ h 0 (Q:=fun e a' w'=>∃ φ' m' σ',aN G φ' m' σ' a' w'/\K e σ') (by simp) (by simp) hC fun a' w' φ' m' σ' cm hK=>⟨φ',m',σ',cm,hK⟩
 simpa using this
def El(P:Program)(obj:Name->Option O)(T T2:TypeId)(x lo:D):Bool:=
 match x,lo,b8 P T,b8 P T2 with
 | .msl nm k,.v (.int _ i),some (e,sz,_),some (e2,_,_)=>match obj nm,(be P e).bind fun z=>dS (iA z)with
   |some (.arr s l),some zv=>cG k l.length&&dq 0 i&&gq i.toNat l.length&&cG s sz&&cG zv.cells.length sz&&zv.okc&&cG e2 e&&gq 0 sz
   |_,_=>false
 |_,_,_,_=>false
theorem Ym{P:Program}{obj:Name->Option O}{T T2:TypeId}{x lo:D}(h:El P obj T T2 x lo=true):(kV P obj T T2 x lo).ok:=by
 unfold El at h
 unfold kV
 split at h
 ·split at h
  ·simp only[Bool.and_eq_true]at h
   obtain⟨⟨⟨⟨⟨⟨⟨h1,h2⟩,h3⟩,h4⟩,h5⟩,h6⟩,h7⟩,h8⟩:=h
   exact⟨jL h1,gd h2,xG h3,jL h4,jL h5,h6,jL h7,xG h8⟩
  ·cases h
 ·cases h
theorem YT{P:Program}{obj:Name->Option O}{T T2:TypeId}{x lo:D}{nm:Name}(h:nm∉aX x):(kV P obj T T2 x lo).obj nm=obj nm:=by
 unfold kV
 split
 ·split
  ·simp only[aX,List.mem_singleton]at h
   exact aZ _ _ _ h
  ·rfl
 ·rfl
end Go.Eng
