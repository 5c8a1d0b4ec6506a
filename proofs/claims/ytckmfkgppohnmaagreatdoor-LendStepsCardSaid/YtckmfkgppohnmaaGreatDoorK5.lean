import Derived.Test.YtckmfkgppohnmaaGreatDoorK4
import Derived.Laws.Bits64
import Derived.KernelRfl
import Derived.Test.YtckmfkgppohnmaaGreatDoorProg
import Derived.Shelf.Strings.BuilderK
import Derived.Shelf.Strconv.Itoa3
import Derived.WalkKit
import Derived.BigCall
import Derived.Lib.ItoaLen
/- Texts EngB to NW1. -/
set_option linter.all false
namespace Go.Eng
open Go
def wL(P:Program)(obj:Name->Option O)(t:Name)(T:TypeId)(n:Nat)(parts:List (Nat×D)):R:=
 match bF P T with
 |some (e,sz,_)=>
  ⟨parts.map (·.1)=List.range n/\(aK (au 4) obj (parts.map (·.2))).ok/\(∀ x∈(aK (au 4) obj (parts.map (·.2))).xs,x.cells.length=sz/\x.okc=true)/\
      n *sz<=16777216/\sz≠0/\(bd P e).isSome=true/\0<n/\(aK (au 4) obj (parts.map (·.2))).obj (aM t)=none,
    .msl (aM t) n,upd (aK (au 4) obj (parts.map (·.2))).obj (aM t) (some (.arr sz (aK (au 4) obj (parts.map (·.2))).xs))⟩
 |none=>.bad obj
theorem P1{P:Program}{G:Ghost}{φ:Name->Loc}{m:Mem}{σ:S}{a:Act}{w:World}(hC:aC G φ m σ a w){t:Name}{T:TypeId}{n:Nat}{parts:List (Nat×D)}{vals:Array (Nat×Value)}
 (he:parts.map (·.1)=vals.toList.map (·.1)) (hr:∀ (k:Nat) (p:Nat×D) (q:Nat×Value),parts[k]?=some p->vals.toList[k]?=some q->av φ σ.obj m p.2 q.2)
 (aa:(wL P σ.obj t T n parts).ok):
 ∃ v w',(Instr.buildSlice T n vals).run P w=.ok v w'/\lp G σ a (wL P σ.obj t T n parts) v w':=by
 unfold wL at aa |-
 split at aa
 ·rename_i e sz by_ hT
  obtain⟨hu,i,hi,hs,_⟩:=gn hT
  have mN:(sizeOf e).run P w=.ok sz w:=by simp[sizeOf,typeInfo,hi,hs]
  obtain⟨h1,h2,h3,h4,h5,h6,h7,h8⟩:=aa
  obtain⟨z,hz⟩:=Option.isSome_iff_exists.1 h6
  have hlen:vals.toList.length=n:=by
   have :=congrArg List.length (he.symm.trans h1)
   simpa using this
  have vm:parts.length=n:=by
   have :=congrArg List.length h1
   simpa using this
  obtain⟨m1,a1,a2,a3,a4,a5,_⟩:=od (l4 4) (parts.map (·.2)) hC (vals.toList.map (·.2)) (by simp[vm];simpa using hlen.symm)
   (fun k h h'=>by
     simp only[List.length_map]at h h'
     simp only[List.getElem_map]
     exact hr k _ _ (List.getElem?_eq_getElem h) (List.getElem?_eq_getElem h')) h2
  have lk:(aK (au 4) σ.obj (parts.map (·.2))).xs.length=n:=by rw[a4];simpa using vm
  obtain⟨bc,b1,b2,b3,b4⟩:=D5 sz vals.toList 0 ((Array.range (n*sz)).map (z.cells[· % z.cells.size]!))
   (by rw[<-he,h1,hlen];simp)
   (fun q hq=>by
     obtain⟨k,hk,rfl⟩:=List.mem_iff_getElem.1 hq
     have h8:=a5 k (by rw[lk];omega) (by simpa using hk)
     have h9:=(h3 _ (List.getElem_mem (show k<_ by rw[lk];omega))).1
     rw[<-h9]
     simpa using h8.cells.symm) (by simp[hlen])
  have a7:=Ext.new (φ:=φ) h8 ⟨w.heap.size,0,n,false,none⟩ (.arr sz (aK (au 4) σ.obj (parts.map (·.2))).xs)
  refine⟨.slice (some ⟨w.heap.size,0,none⟩) n n,{ w with heap:=w.heap.push (.cells bc e) },?_,?_⟩
  ·simp only[Instr.buildSlice,Sem.run_bind,run_underlying hu,Result.andThen_ok,mN]
   have aq:¬ n*sz=0:=by have:=Nat.mul_pos h7 (Nat.pos_of_ne_zero h5);omega
   simp only[Sem.run_ite,Sem.run_bind,if_neg aq,qa hz,Result.andThen_ok,Sem.run_pure,b1,if_neg (show ¬ n*sz>2 ^ 24 by omega)]
   rfl
  ·refine⟨upd φ (aM t) ⟨w.heap.size,0,n,false,none⟩,m1,a2.chg (aM t) _ ⟨w.heap.size,0,n,false,none⟩ a7 ⟨rfl,rfl,rfl,by show w.heap.size<=(w.heap.push _).size;simp⟩
     (fun b hb _=>kJ hb) (fun _=>.inl (Nat.le_refl _)) ?_,?_⟩
   ·refine .inr ⟨rfl,by rw[lk];exact Nat.le_refl _,by show n<=maxLen;unfold maxLen;have:=Nat.le_mul_of_pos_right n (Nat.pos_of_ne_zero h5);omega,
      fun i hi=>(h3 _ (List.getElem_mem hi)).1,fun i hi x hx=>?_,bc,e,(0,0),sZ,rfl,?_,fun i j hi hj=>?_⟩
    ·have bj:i<vals.toList.length:=by omega
     exact(a5 i hi (by simpa using bj)).ones (h3 _ (List.getElem_mem hi)).2 x hx
    ·rw[b2];simp
    ·have bj:i<vals.toList.length:=by omega
     have h9:=(h3 _ (List.getElem_mem hi)).1
     have :=b4 i j bj (by omega)
     simp only[Nat.zero_add]at this
     have h8:=a5 i hi (by simpa using bj)
     have eY:j<vals.toList[i].2.cells.size:=by
      have :=h8.cells
      simp only[List.getElem_map]at this
      omega
     rw[Array.getElem?_eq_getElem eY]at this
     rw[Nat.zero_add]
     refine⟨_,this,?_⟩
     have oa:=h8.cell j hj (by simpa using eY)
     simpa using oa
   ·refine .msl _ _ _ ⟨_,_,aD _ _ _,rfl,by rw[lk];exact Nat.le_refl _,fun _=>?_⟩ rfl
    rw[aD]
    unfold Loc.slice
    simp
 ·exact aa.elim
def rP(P:Program)(Γ:FuncId->Option Spec)(σ:S)(t:Name):Op->R
 | .buildSlice T n ps=>wL P σ.obj t T n (ps.toList.map fun p=>(p.1,ai σ p.2))
 |o=>aQ P Γ σ t o
theorem ZN{P:Program}{Γ:FuncId->Option Spec}(hΓ:∀ f s,Γ f=some s->ak P f s){G:Ghost}{φ:Name->Loc}{m:Mem}{σ:S}{a:Act}{w:World}(hC:aC G φ m σ a w)
 (o:Oper) (t:Name) (ht:∃ k,t=k::σ.pre) (hc:lG σ o.op=true) (aa:(rP P Γ σ t o.op).ok):oy P G σ a w o (rP P Γ σ t o.op):=by
 cases ho:o.op with
 |buildSlice T n ps=>
  rw[ho]at hc aa
  obtain⟨h1,h2⟩:=Bf hC (ps:=ps) (fun p hp=>cM hc (by simp only[Op.operands,List.mem_map];exact⟨p,hp,rfl⟩))
  exact oc (s:=Instr.buildSlice T n (ps.map fun (i,x)=>(i,a.eval x))) (by simp[execOp,ho]) (P1 hC h1 h2 aa)
 |_=>
  rw[ho]at aa
  have h:=Nk hΓ hC o t ht hc (by rw[ho];exact aa)
  rw[ho]at h
  exact h
theorem ZO{P:Program}{Γ:FuncId->Option Spec}{σ:S}{t:Name}{op:Op}(h:(rP P Γ σ t op).ok):∀ c,op≠ .defer c:=by
 intro c e
 subst e
 exact Nl (P:=P) (Γ:=Γ) (σ:=σ) (t:=t) h c rfl
def uj(P:Program)(Γ:FuncId->Option Spec)(ops:Array Oper)(σ:S)(o:Oper):S:=
 ⟨σ.nt,match o.dst with
   |some t=>upd σ.env t ⟨dV ops σ o,(rP P Γ σ ((σ.base+t)::σ.pre) o.op).d⟩
   |none=>σ.env,if dV ops σ o=true then(rP P Γ σ ((σ.base+o.dst.getD 0)::σ.pre) o.op).obj else σ.obj,σ.pre,σ.base⟩
def Br(P:Program)(Γ:FuncId->Option Spec)(ops:Array Oper)(σ:S)(o:Oper):Prop:=
 na ops σ o/\(match o.dst with | some t=>t<σ.nt | none=>True)/\(dV ops σ o=true->lG σ o.op=true/\(rP P Γ σ ((σ.base+o.dst.getD 0)::σ.pre) o.op).ok)
def tU(P:Program)(Γ:FuncId->Option Spec)(ops:Array Oper):List Oper->S->(S->Prop)->Prop
 |[],σ,K=>K σ
 |o::r,σ,K=>Br P Γ ops σ o/\tU P Γ ops r (uj P Γ ops σ o) K
theorem Pf{P:Program}{Γ:FuncId->Option Spec}(hΓ:∀ f s,Γ f=some s->ak P f s){G:Ghost}{φ:Name->Loc}{m:Mem}{σ:S}{a:Act}{w:World}(hC:aC G φ m σ a w)
 {ops:Array Oper} {i:Nat} {o:Oper} (hi:ops[i]?=some o) (h:Br P Γ ops σ o) {K:Act->World->Prop} {Q:Exit->Act->World->Prop}
 (hK:∀ a' w' φ' m',aC G φ' m' (uj P Γ ops σ o) a' w'->K a' w'):wpOpIn (eo G.rd) 0 P ops Q i K a w:=by
 obtain⟨h1,h2,h3⟩:=h
 unfold wpOpIn
 simp only[hi,FE hC h1]
 cases hg:dV ops σ o with
 |true=>
  simp only[if_true]
  obtain⟨h4,h5⟩:=h3 hg
  refine⟨fun _ _=>trivial,?_⟩
  rw[Oper.semAt_eq _ _ _ (ZO h5)]
  refine(ZN hΓ hC o ((σ.base+o.dst.getD 0)::σ.pre) ⟨_,rfl⟩ h4 h5 _ _ fun v φ' m' w' bt hr=>hK _ _ φ' m' ?_)
  unfold uj
  rw[hg]
  cases hd:o.dst with
  |none=>simpa[hd,Act.put]using bt
  |some t=>
   simp only[hd]at h2
   simp only[hd,Option.getD_some,if_true]at bt hr |-
   refine bt.put (e:=⟨true,_⟩) h2 ?_
   unfold bL
   simpa using hr
 |false=>
  simp only[Bool.false_eq_true,if_false]
  refine⟨fun _ _=>trivial,hK _ _ φ m ?_⟩
  unfold uj
  rw[hg]
  cases hd:o.dst with
  |none=>simpa[hd,Act.put]using hC
  |some t=>
   simp only[hd]at h2
   simp only[Bool.false_eq_true,if_false]
   refine hC.put (e:=⟨false,_⟩) h2 ?_
   unfold bL
   simp
theorem GM{P:Program}{Γ:FuncId->Option Spec}(hΓ:∀ f s,Γ f=some s->ak P f s){G:Ghost}{ops:Array Oper}{Q:Exit->Act->World->Prop}{K:S->Prop}:
 ∀ (n k:Nat) {φ:Name->Loc} {m:Mem} {σ:S} {a:Act} {w:World},k+n=ops.size->aC G φ m σ a w->tU P Γ ops (ops.toList.drop k) σ K->
   (∀ a' w' φ' m' σ',aC G φ' m' σ' a' w'->K σ'->Q .normal a' w')->wpOpsIn (eo G.rd) 0 P ops Q (List.range' k n) a w
 | 0,k,φ,m,σ,a,w,hk,hC,hr,hQ=>by
   have :ops.toList.drop k=[]:=List.drop_eq_nil_of_le (by simp;omega)
   rw[this]at hr
   exact hQ _ _ φ m σ hC hr
 |n+1,k,φ,m,σ,a,w,hk,hC,hr,hQ=>by
  have ae:k<ops.size:=by omega
  have hd:ops.toList.drop k=ops[k]::ops.toList.drop (k+1):=by
   rw[List.drop_eq_getElem_cons (by simpa using ae)];simp
  rw[hd]at hr
  obtain⟨h1,h2⟩:=hr
  rw[List.range'_succ,wpOpsIn_cons]
  exact Pf hΓ hC (Array.getElem?_eq_getElem ae) h1 fun a' w' φ' m' bt=>GM hΓ n (k+1) (by omega) bt h2 hQ
theorem L8{P:Program}{Γ:FuncId->Option Spec}(hΓ:∀ f s,Γ f=some s->ak P f s){id:Nat}{l:List Oper}{σ:S}{K:Exit->S->Prop}
 (h:∀ K':S->Prop,(∀ σ',K .normal σ'->K' σ')->tU P Γ l.toArray l σ K'):CW P (.region id l.toArray false) σ K:=by
 intro G φ m a w hC
 refine wpIn_region ?_
 rw[List.range_eq_range']
 refine GM hΓ (ops:=l.toArray) l.toArray.size 0 (by simp) hC (K:=K .normal) (by simpa using h (K .normal) fun _ h=>h) fun a' w' φ' m' σ' bt hK=>⟨φ',m',σ',bt,hK⟩
theorem aeX{P:Program}{Γ:FuncId->Option Spec}(hΓ:∀ f s,Γ f=some s->ak P f s){id:Nat}{l:List Oper}{c:Code}{r:List Code}{σ:S}{K:Exit->S->Prop}(ks:List Nat)(ns:List Name)
 (h:∀ K':S->Prop,(∀ σ',eN ks ns σ'->CL P (c::r) (eT ks ns σ') K->K' σ')->tU P Γ l.toArray l σ K'):CL P (.region id l.toArray false::c::r) σ K:=
 L8 hΓ fun K' hK=>h K' fun σ' hc hy=>hK σ' (zu ks ns hc hy)
theorem aeZ{P:Program}{Γ:FuncId->Option Spec}(hΓ:∀ f s,Γ f=some s->ak P f s){id:Nat}{l:List Oper}{σ:S}{K:Exit->S->Prop}
 (h:∀ K':S->Prop,(∀ σ',K .normal σ'->K' σ')->tU P Γ l.toArray l σ K'):CL P [.region id l.toArray false] σ K:=
 L8 hΓ fun K' hK=>h K' fun σ' hc=>hK σ' hc
attribute [go_sem] tU Br uj rP wL List.cons_beq_cons
open Go Go.RowKit
theorem GY{P:Program}{f:FuncId}{s:Spec}{p:PSpec}(hs:ak P f s)(aq:f≠yid)(fB:p.flat=true->∀ xs,p.pre xs->(p.fn xs).flat=true)
 (h:∀ xs,p.pre xs->(s.app (fun _=>none) [0,0] (xs.map .v)).ok/\(au 6 (s.app (fun _=>none) [0,0] (xs.map .v)).obj (s.app (fun _=>none) [0,0] (xs.map .v)).d).ok/\
  (au 6 (s.app (fun _=>none) [0,0] (xs.map .v)).obj (s.app (fun _=>none) [0,0] (xs.map .v)).d).x=p.fn xs):aL P f p:=by
 refine⟨aq,hs.enter aq,fB,fun m w xs args jF hm hx hp=>?_⟩
 obtain⟨h1,h2,h3⟩:=h xs hp
 have a8:xs.length=args.size:=by simpa using hx.1
 have nT:(aO args.size [0] (fun _=>none) (gj 0 xs) []).obj=fun _=>none:=by
  funext nm
  simp[aO,c7]
 have hC:aC ⟨w,m,fun _=>False,none,fun _=>⟨0,0,0,true,none⟩,fun _=>none,fun _ h=>(by cases h),⟨jF,fun _ _ h=>h⟩⟩ (fun _=>⟨0,0,0,true,none⟩) m (aO args.size [0] (fun _=>none) (gj 0 xs) []) { tmps:=args,defers:=[] } w:=by
  constructor
  ·intro t
   show bL _ _ m (c7 eAny (gj 0 xs) t) _
   rcases sy (z:=eAny) (gj 0 xs) t with h1 | h1
   ·rw[h1];unfold bL eAny;simp;exact .any _
   ·obtain⟨i,hi,h2,h3⟩:=E9 h1
    rw[h3]
    unfold bL
    simp only[if_true]
    have bj:i<args.size:=by omega
    have e:(args.getD t undef)=args[i]:=by
     rw[h2]
     simp[Array.getD,bj]
    rw[e]
    exact .v _ _ (by have:=hx.2 i hi (by simpa using bj);rw[Array.getElem_toList]at this;exact this)
  ·rfl
  ·exact⟨[],rfl,by simp,by simp⟩
  ·intro nm o h;simp[aO,c7]at h
  ·exact hm
  ·rintro nm ⟨o,h,_⟩;simp[aO,c7]at h
  ·rintro nm iR ⟨o,h,_⟩;simp[aO,c7]at h
  ·rintro nm ⟨o,h,_⟩;simp[aO,c7]at h
  ·exact⟨rfl,rfl,rfl,Nat.le_refl _,fun _ _ _=>rfl⟩
  ·intro b off v h;exact .inl h
  ·exact⟨fun _ _ h=>(by cases h),fun _ _ h=>(by cases h)⟩
 refine(hs.calls aq _ _ m _ _ w hC [0,0] (xs.map .v) args ⟨0,rfl⟩ (by simpa using a8) (fun i a b=>?_) (by rw[nT];exact h1)).mono ?_
 ·simp only[List.getElem_map]
  have :=hx.2 i (by simpa using a) (by simpa using b)
  rw[Array.getElem_toList]at this
  exact .v _ _ this
 ·rintro e w' ⟨v,φ',m',rfl,h4,h5,_⟩
  rw[nT]at h4 h5
  obtain⟨m2,h6,h7,_,h8,_⟩:=l4 6 _ _ _ _ _ _ h4 _ _ h5 h2
  refine⟨v,fun b off=>match m2 b off with | some c=>some c | none=>m b off,rfl,?_,?_,?_,?_⟩
  ·exact⟨h4.fr.os,h4.fr.tape,h4.fr.output,h4.fr.size,fun k hk=>h4.fr.block k hk (fun h=>h)⟩
  ·intro b off c hc
   show (match m2 b off with | some c=>some c | none=>m b off)=some c
   cases eA:m2 b off with
   |none=>exact hc
   |some c'=>
    have k1:=h7.mem b off c' eA
    have k2:=hm b off c hc
    have ae:=kP k2
    rw[pP (h4.fr.block b ae (fun h=>h))]at k1
    rw[k2]at k1
    exact k1.symm
  ·intro b off c hc
   have kf:(match m2 b off with | some c=>some c | none=>m b off)=some c:=hc
   cases eA:m2 b off with
   |none=>rw[eA]at kf;exact .inl kf
   |some c'=>
    rw[eA]at kf
    simp only[Option.some.injEq]at kf
    subst kf
    rcases h7.fresh b off c' eA with h | h | h
    ·exact .inl h
    ·exact .inr ⟨h,h7.mem b off c' eA⟩
    ·exact h.elim
  ·rw[<-h3]
   refine h8.mono fun b off c hc=>?_
   show (match m2 b off with | some c=>some c | none=>m b off)=some c
   rw[hc]
def yl:V->Bool
 | .int .i64 _=>true
 |_=>false
theorem Vf{y:V}(h:yl y=true):y.cells.length=1/\y.okc=true:=by
 cases y with
 |int k n=>exact⟨rfl,rfl⟩
 |_=>cases h
def pCloneI:PSpec:=⟨fun xs=>∃ l,xs=[.sl l]/\l.all yl=true/\l.length<=1000,fun xs=>xs.headD default,false⟩
theorem aeT{P:Program}{f T E:Nat}{Z:Value}(L:tX P f T E 1 8 Z)(hz:Z.cells.size=1):aL P f pCloneI:=by
 refine GY (wo L) L.ne (fun h=>by cases h) ?_
 rintro xs ⟨l,rfl,hl,hn⟩
 simp only[oq,List.map_cons,List.map_nil,pCloneI,List.headD_cons]
 cases l with
 |nil=>exact⟨trivial,trivial,rfl⟩
 |cons y r=>
  have dM:∀ z∈y::r,z.cells.length=1/\z.okc=true:=fun z hz=>Vf (List.all_eq_true.1 hl z hz)
  have e:gm P (fun _=>none) [0,0] T (.v (.sl (y::r)))=cf P (fun _=>none) [0,0] T T .nilsl (.v (.sl (y::r))):=rfl
  rw[e]
  have pq:(y::r).length*8<=140737488355328:=by omega
  have iZ:(y::r).length<=maxLen:=by unfold maxLen;omega
  simp only[cf,L.tE,L.tZ,aA,au,aD,aM]
  exact⟨⟨trivial,dM,hz,pq,iZ,trivial⟩,trivial,trivial⟩
noncomputable def aeU:SpecB where
 spec:=pCloneI.toSpec
 run _ _ ds:=match ds with
  |[.v (.sl l)]=>cond (l.all yl&&Nat.ble l.length 1000) (some ⟨.v (.sl l),[],[],fun t=>t⟩) none
  |[.nilsl]=>some ⟨.v (.sl []),[],[],fun t=>t⟩
  |_=>none
 ok:=by
  intro obj t ds r hr
  split at hr
  ·rename_i l
   cases hb:(l.all yl&&Nat.ble l.length 1000)with
   |false=>rw[hb]at hr;cases hr
   |true=>
    rw[hb]at hr
    cases hr
    simp only[Bool.and_eq_true]at hb
    refine⟨?_,rfl,rfl,rfl,fun tbl h=>h⟩
    exact⟨⟨trivial,trivial⟩,l,rfl,hb.1,Nat.le_of_ble_eq_true hb.2⟩
  ·cases hr
   refine⟨?_,rfl,rfl,rfl,fun tbl h=>h⟩
   exact⟨⟨trivial,trivial⟩,[],rfl,rfl,Nat.zero_le _⟩
  ·cases hr
theorem OA{σ:S}(b nm:Name)(sz:Nat)(hb:σ.obj b=some (.box [.nilsl]))(hn:σ.obj nm=none):
 da σ ⟨σ.nt,σ.env,upd (upd σ.obj nm (some (.arr sz []))) b (some (.box [.msl nm 0])),σ.pre,σ.base⟩:=by
 intro G φ m a w hC
 have aq:b≠nm:=fun e=>by subst e;rw[hb]at hn;cases hn
 obtain⟨h1,h2,h3,us,T,f,h4,h5,h6,h7⟩:=hC.objs b _ hb
 have h0:0<us.size:=by rw[h6];simp
 have h8:=h7 0 (by simp) h0
 simp only[List.getElem_cons_zero]at h8
 generalize hu:us[0]=u at h8
 cases h8 with
 |nilsl b'=>
 have hx:=Ext.new (φ:=φ) hn ⟨0,0,0,true,b'⟩ (.arr sz [])
 have bt:=hC.chg (w':=w) nm (.arr sz []) ⟨0,0,0,true,b'⟩ hx ⟨rfl,rfl,rfl,Nat.le_refl _⟩ (fun _ _ _=>rfl) (fun h=>by cases h) (.inl ⟨rfl,rfl⟩)
 have cJ:(upd σ.obj nm (some (.arr sz []))) b=some (.box [.nilsl]):=by rw[aI _ _ _ aq];exact hb
 have hφ:(upd φ nm ⟨0,0,0,true,b'⟩) b=φ b:=aI _ _ _ aq
 have gM:=Ext.same (φ:=upd φ nm ⟨0,0,0,true,b'⟩) (o':=.box [.msl nm 0]) cJ rfl rfl
 refine⟨_,bt.chg (w':=w) b (.box [.msl nm 0]) _ gM ⟨rfl,rfl,rfl,Nat.le_refl _⟩ (fun _ _ _=>rfl) (fun _=>.inr ⟨⟨_,cJ,rfl,by rw[hφ];exact h2⟩,rfl⟩) ?_⟩
 rw[dX,hφ]
 refine⟨h1,h2,by simp[D.one],us,T,f,h4,h5,by simpa using h6,fun i hi bj=>?_⟩
 have kI:i=0:=by simp at hi;exact hi
 subst kI
 simp only[List.getElem_cons_zero]
 rw[hu]
 have an:(upd (upd σ.obj nm (some (.arr sz []))) b (some (.box [.msl nm 0]))) nm=some (.arr sz []):=by rw[aI _ _ _ aq.symm,aD]
 refine .msl _ _ _ ⟨_,_,an,rfl,by simp,fun _=>?_⟩ rfl
 rw[aD];rfl
theorem aaV{σ τ:S}(b nm:Name)(sz:Nat)(hb:σ.obj b=some (.box [.nilsl]))(hn:σ.obj nm=none)(ks:List Nat)(ns:List Name)
 (h:eN ks ns ⟨σ.nt,σ.env,upd (upd σ.obj nm (some (.arr sz []))) b (some (.box [.msl nm 0])),σ.pre,σ.base⟩) (hk:eT ks ns ⟨σ.nt,σ.env,upd (upd σ.obj nm (some (.arr sz []))) b (some (.box [.msl nm 0])),σ.pre,σ.base⟩=τ):cD σ τ:=
 (OA b nm sz hb hn).toM.trans (lr ks ns h hk)
theorem S6{K:Exit->S->Prop}{obj:Name->Option O}{nm:Name}{σ:S}{env:List E}{ps:List Nat}{a b:Code}(h:obj nm=some (.loop env ps a b .ready none))(hK:K .normal σ):mJ K obj nm σ:=by
 unfold mJ
 rw[h]
 exact hK
theorem aeY{P:Program}{Γ:FuncId->Option Spec}(hΓ:∀ f s,Γ f=some s->ak P f s){g:Operand}{ps:Array Tmp}{asg body:Code}{σ:S}{r:List Code}{K:Exit->S->Prop}(k k':Nat){f:FuncId}{s:Spec}{d:D}{obj':Name->Option O}
 {eZ:List E} {eR:List Nat} {a' b':Code} (hc:ck σ g=true) (cA:eO (ai σ g)=some f) (aq:f≠yid) (hs:Γ f=some s) (lP:σ.obj (k::σ.pre)=none)
 (hR:s.app (upd σ.obj (k::σ.pre) (some (.loop ((List.range σ.nt).map σ.env) ps.toList asg body .ready none))) (k'::σ.pre) (dN (ai σ g) [.yld (k::σ.pre)])=⟨True,d,obj'⟩)
 (hL:obj' (k::σ.pre)=some (.loop eZ eR a' b' .ready none))
 (hK:CL P r { σ with obj:=upd obj' (k::σ.pre) (some (.loop eZ eR a' b' .exhausted none)) } K):CL P (.rangeFunc g ps asg body::r) σ K:=by
 refine EI hΓ k k' hc cA aq hs lP (by rw[hR];trivial) ?_
 rw[hR]
 refine S6 hL ?_
 show CL P r _ K
 have e:iL obj' (k::σ.pre)=upd obj' (k::σ.pre) (some (.loop eZ eR a' b' .exhausted none)):=by unfold iL;rw[hL]
 rw[e]
 exact hK
def Ae(P:Program)(obj:Name->Option O)(t:Name)(T:TypeId)(x:D):R:=cf P obj t T T .nilsl x
def rK(P:Program)(T:TypeId):Spec where
 app obj t ds:=match ds with | [x]=>Ae P obj t T x | _=>.bad obj
 foot obj t ds:=match ds with | [x]=>aH .nilsl++aH x++[aM t] | _=>[]
 wrt obj t ds:=match ds with | [x]=>aH .nilsl++aH x++[aM t] | _=>[]
theorem SR{P:Program}{obj obj2:Name->Option O}{t:Name}{T:TypeId}{x:D}(h:bq (aH .nilsl++aH x++[aM t]) obj obj2):
 bx (Ae P obj t T x) (Ae P obj2 t T x) obj obj2 (aH .nilsl++aH x++[aM t]):=x8 (P:=P) (obj:=obj) (obj2:=obj2) (t:=t) (T1:=T) (T2:=T) (s:=.nilsl) (x:=x) h
theorem YT(P:Program)(T:TypeId):(rK P T).Near:=by
 refine⟨fun obj obj2 t ds h=>?_,fun obj obj2 t ds h=>rfl,fun obj t ds nm hn=>hn,fun obj obj2 t ds h=>rfl⟩
 simp only[rK]at h |-
 split at h
 ·exact SR h
 ·rename_i s5
  exact .none _ (fun _ h=>by cases h)
theorem XV{G:Ghost}{φ:Name->Loc}{m:Mem}{σ:S}{a:Act}{w:World}(hC:aC G φ m σ a w){v:Value}(hv:av φ σ.obj m .nilsl v){nm:Name}(hn:σ.obj nm=none)(sz:Nat):
 ∃ φ',aC G φ' m { σ with obj:=upd σ.obj nm (some (.arr sz [])) } a w/\av φ' (upd σ.obj nm (some (.arr sz []))) m (.msl nm 0) v/\Ext φ φ' σ.obj (upd σ.obj nm (some (.arr sz []))):=by
 cases hv with
 |nilsl b'=>
 have hx:=Ext.new (φ:=φ) hn ⟨0,0,0,true,b'⟩ (.arr sz [])
 refine⟨_,hC.chg (w':=w) nm (.arr sz []) ⟨0,0,0,true,b'⟩ hx ⟨rfl,rfl,rfl,Nat.le_refl _⟩ (fun _ _ _=>rfl) (fun h=>by cases h) (.inl ⟨rfl,rfl⟩),?_,hx⟩
 refine .msl _ _ _ ⟨_,_,aD _ _ _,rfl,by simp,fun _=>?_⟩ rfl
 rw[aD];rfl
theorem Mt{P:Program}{f T E K BY:Nat}{Z:Value}(L:tX P f T E K BY Z):ak P f (rK P T):=by
 have hs:=wo L
 refine⟨YT P T,hs.enter,fun aq G φ m σ a w hC t ds us ht hl hr aa=>?_,fun e=>(L.ne e).elim⟩
 match ds,hl,hr,aa with
 |[],_,_,aa=>exact aa.elim
 |_::_::_,_,_,aa=>exact aa.elim
 |[x],hl,hr,aa=>
  have iv:(cf P σ.obj t T T .nilsl x).ok:=aa
  have bH:(oq P T).app σ.obj t [x]=gm P σ.obj t T x:=rfl
  have hg:(rK P T).app σ.obj t [x]=cf P σ.obj t T T .nilsl x:=rfl
  rw[hg]
  cases eb:(aA σ.obj x).2 with
  |cons y r=>
   have e:gm P σ.obj t T x=cf P σ.obj t T T .nilsl x:=by unfold gm;rw[eb]
   have :=hs.calls aq G φ m σ a w hC t [x] us ht hl hr (by rw[bH,e];exact iv)
   rw[bH,e]at this
   exact this
  |nil=>
   have e:gm P σ.obj t T x=⟨(aA σ.obj x).1,.nilsl,σ.obj⟩:=by unfold gm;rw[eb]
   have hT:=L.tE
   have hZ:=L.tZ
   have ha:cf P σ.obj t T T .nilsl x=⟨(aA σ.obj x).1/\(∀ y∈(aA σ.obj x).2,y.cells.length=K/\y.okc=true)/\Z.cells.size=K/\(aA σ.obj x).2.length*BY<=140737488355328/\(aA σ.obj x).2.length<=maxLen/\σ.obj (aM t)=none,
       .msl (aM t) (aA σ.obj x).2.length,upd σ.obj (aM t) (some (.arr K (aA σ.obj x).2))⟩:=by
    simp only[cf,hT,hZ]
   rw[ha,eb]at iv
   rw[ha,eb]
   have :=hs.calls aq G φ m σ a w hC t [x] us ht hl hr (by rw[bH,e];exact iv.1)
   rw[bH,e]at this
   refine this.mono ?_
   rintro e' w' ⟨v,φ',m',rfl,h1,h2,h3⟩
   obtain⟨φ2,k1,k2,k3⟩:=XV h1 h2 iv.2.2.2.2.2 K
   exact⟨v,φ2,m',rfl,k1,k2,h3.trans k3⟩
attribute [go_sem] rK Ae aA
theorem Oz{σ:S}(b nm:Name)(i sz:Nat)(cs:List D)(hb:σ.obj b=some (.box cs))(hi:cs[i]?=some .nilsl)(hn:σ.obj nm=none):
 da σ ⟨σ.nt,σ.env,upd (upd σ.obj nm (some (.arr sz []))) b (some (.box (cs.set i (.msl nm 0)))),σ.pre,σ.base⟩:=by
 intro G φ m a w hC
 have aq:b≠nm:=fun e=>by subst e;rw[hb]at hn;cases hn
 obtain⟨h1,h2,h3,us,T,f,h4,h5,h6,h7⟩:=hC.objs b _ hb
 obtain⟨fA,Dd⟩:=List.getElem?_eq_some_iff.1 hi
 have h0:i<us.size:=by omega
 have h8:=h7 i fA h0
 rw[Dd]at h8
 generalize hu:us[i]=u at h8
 cases h8 with
 |nilsl b'=>
 have hx:=Ext.new (φ:=φ) hn ⟨0,0,0,true,b'⟩ (.arr sz [])
 have bt:=hC.chg (w':=w) nm (.arr sz []) ⟨0,0,0,true,b'⟩ hx ⟨rfl,rfl,rfl,Nat.le_refl _⟩ (fun _ _ _=>rfl) (fun h=>by cases h) (.inl ⟨rfl,rfl⟩)
 have cJ:(upd σ.obj nm (some (.arr sz []))) b=some (.box cs):=by rw[aI _ _ _ aq];exact hb
 have hφ:(upd φ nm ⟨0,0,0,true,b'⟩) b=φ b:=aI _ _ _ aq
 have gM:=Ext.same (φ:=upd φ nm ⟨0,0,0,true,b'⟩) (o':=.box (cs.set i (.msl nm 0))) cJ rfl rfl
 refine⟨_,bt.chg (w':=w) b (.box (cs.set i (.msl nm 0))) _ gM ⟨rfl,rfl,rfl,Nat.le_refl _⟩ (fun _ _ _=>rfl) (fun _=>.inr ⟨⟨_,cJ,rfl,by rw[hφ];exact h2⟩,rfl⟩) ?_⟩
 rw[dX,hφ]
 have an:(upd (upd σ.obj nm (some (.arr sz []))) b (some (.box (cs.set i (.msl nm 0))))) nm=some (.arr sz []):=by rw[aI _ _ _ aq.symm,aD]
 refine⟨h1,h2,fun d hd=>?_,us,T,f,h4,h5,by simpa using h6,fun j hj ej=>?_⟩
 ·rcases List.mem_or_eq_of_mem_set hd with h | h
  ·exact h3 d h
  ·subst h;rfl
 ·simp only[List.length_set]at hj
  rw[List.getElem_set]
  by_cases eC:i=j
  ·subst eC
   rw[if_pos rfl,hu]
   refine .msl _ _ _ ⟨_,_,an,rfl,by simp,fun _=>?_⟩ rfl
   rw[aD];rfl
  ·rw[if_neg eC]
   have :=h7 j hj ej
   exact(this.ext (Mem.le_refl m) hx).ext (Mem.le_refl m) (by rw[dX]at gM;exact gM)
theorem Aq{σ τ:S}(b nm:Name)(i sz:Nat)(cs:List D)(hb:σ.obj b=some (.box cs))(hi:cs[i]?=some .nilsl)(hn:σ.obj nm=none)(ks:List Nat)(ns:List Name)
 (h:eN ks ns ⟨σ.nt,σ.env,upd (upd σ.obj nm (some (.arr sz []))) b (some (.box (cs.set i (.msl nm 0)))),σ.pre,σ.base⟩)
 (hk:eT ks ns ⟨σ.nt,σ.env,upd (upd σ.obj nm (some (.arr sz []))) b (some (.box (cs.set i (.msl nm 0)))),σ.pre,σ.base⟩=τ):cD σ τ:=
 (Oz b nm i sz cs hb hi hn).toM.trans (lr ks ns h hk)
def ml:List D->Option (List V)
 |[]=>some []
 |d::r=>match dI d,ml r with
  |some x,some xs=>some (x::xs)
  |_,_=>none
theorem Nf:∀ {ds:List D} {xs:List V},ml ds=some xs->xs.length=ds.length
 |[],xs,h=>by cases h;rfl
 |d::r,xs,h=>by
  unfold ml at h
  split at h
  ·rename_i h2
   cases h
   simp[Nf h2]
  ·cases h
theorem Nd{φ:Name->Loc}{obj:Name->Option O}{m:Mem}:∀ {ds:List D} {xs:List V},ml ds=some xs->∀ (i:Nat) (h:i<ds.length) (h':i<xs.length) (u:Value),av φ obj m ds[i] u->aB m xs[i] u
 |[],xs,h,i,hi,_,_,_=>by simp at hi
 |d::r,xs,h,i,hi,bj,u,hr=>by
  unfold ml at h
  split at h
  ·rename_i x ys h1 h2
   cases h
   cases i with
   |zero=>exact nk hr h1
   |succ i=>exact Nd h2 i (by simpa using hi) (by simpa using bj) u hr
  ·cases h
theorem By{app:(Name->Option O)->Name->List D->R}{foot:(Name->Option O)->Name->List D->List Name}
 (h:∀ obj obj2 t ds,bq (foot obj t ds) obj obj2->foot obj2 t ds=foot obj t ds/\bx (app obj t ds) (app obj2 t ds) obj obj2 (foot obj t ds)):Spec.Near ⟨app,foot,foot⟩:=
 ⟨fun obj obj2 t ds ha=>(h obj obj2 t ds ha).2,fun obj obj2 t ds ha=>(h obj obj2 t ds ha).1,fun _ _ _ _ hn=>hn,fun obj obj2 t ds ha=>(h obj obj2 t ds ha).1⟩
theorem AF{P:Program}{f:FuncId}{s s':Spec}(h:ak P f s)(hn:s'.Near)(aq:f≠yid)
 (heq:∀ obj t ds,(s'.app obj t ds).ok->∃ l8,l8.length=ds.length/\(∀ (φ:Name->Loc) (m:Mem) (us:Array Value),ds.length=us.size->(∀ i (h:i<ds.length) (h':i<us.size),av φ obj m ds[i] us[i])->∀ i (h:i<l8.length) (h':i<us.size),av φ obj m l8[i] us[i])/\
   (s.app obj t l8).ok/\(s.app obj t l8).d=(s'.app obj t ds).d/\(s.app obj t l8).obj=(s'.app obj t ds).obj):ak P f s':=by
 refine⟨hn,h.enter,fun aq G φ m σ a w hC t ds us ht hl hr aa=>?_,fun e=>(aq e).elim⟩
 obtain⟨l8,h0,CF,h1,h2,h3⟩:=heq _ _ _ aa
 have :=h.calls aq G φ m σ a w hC t l8 us ht (h0.trans hl) (CF φ m us hl hr) h1
 rw[h2,h3]at this
 exact this
structure NSpec where
 pre:List V->Prop
 new:List V->List (Name×O)
 d:List V->D
def NSpec.app(s:NSpec)(obj:Name->Option O)(t:Name)(ds:List D):R:=match ml ds with
 |some xs=>⟨fresh obj t (s.new xs)=true/\s.pre xs,(s.d xs).ren (cout [] t),cX [] t (s.new xs) obj⟩
 |none=>.bad obj
def NSpec.foot(s:NSpec)(_:Name->Option O)(t:Name)(ds:List D):List Name:=match ml ds with
 |some xs=>(s.new xs).map fun x=>x.1++t
 |none=>[]
def NSpec.toSpec(s:NSpec):Spec:=⟨s.app,s.foot,s.foot⟩
def NSpec.c(s:NSpec):CSpec where
 pre:=fun os ds=>os=[]/\∃ xs,ds=xs.map .v/\s.pre xs
 out:=fun _ ds=>match ml ds with
  |some xs=>⟨[],s.new xs,s.d xs⟩
  |none=>⟨[],[],.any⟩
theorem E5:∀ xs:List V,ml (xs.map .v)=some xs
 |[]=>rfl
 |x::r=>by simp[ml,dI,E5 r]
theorem NSpec.near(s:NSpec):s.toSpec.Near:=by
 refine By fun obj obj2 t ds ha=>⟨rfl,?_⟩
 unfold NSpec.foot at ha |-
 unfold NSpec.app
 split
 ·rename_i xs h
  simp only[h]at ha
  have cq:fresh obj2 t (s.new xs)=fresh obj t (s.new xs):=ze ha
  have :=BO (ok:=fresh obj t (s.new xs)=true/\s.pre xs) (ok2:=fresh obj2 t (s.new xs)=true/\s.pre xs) (d:=(s.d xs).ren (cout [] t)) (obj:=obj) (obj2:=obj2) (L:=[]) (t:=t) (o:=⟨[],s.new xs,s.d xs⟩) (by rw[cq]) (by simpa using ha)
  simpa[bW]using this
 ·exact .none _ (fun _ h=>by cases h)
theorem HL:∀ xs:List V,cE (xs.map .v)=[]
 |[]=>rfl
 |x::r=>by simp only[List.map_cons,cE,qt,List.nil_append];exact HL r
theorem GQ(obj:Name->Option O)(xs:List V):reach obj (xs.map .v)=[]:=by
 unfold reach
 rw[HL]
 rfl
theorem GI(f:Name->Name):∀ xs:List V,D.renL f (xs.map .v)=xs.map .v
 |[]=>rfl
 |x::r=>by simp only[List.map_cons,D.renL,D.ren];rw[GI f r]
theorem Mm(p:Name->Bool):∀ xs:List V,D.closL p (xs.map .v)=true
 |[]=>rfl
 |x::r=>by simp only[List.map_cons,D.closL,D.clos,Bool.true_and];exact Mm p r
theorem NSpec.sound{P:Program}{f:FuncId}{s:NSpec}(h:ak P f s.c.toSpec)(aq:f≠yid):ak P f s.toSpec:=by
 refine AF h s.near aq fun obj t ds aa=>?_
 have iv:(s.app obj t ds).ok:=aa
 show ∃ l8,_/\_/\_/\_=(s.app obj t ds).d/\_=(s.app obj t ds).obj
 unfold NSpec.app at iv |-
 split at iv
 ·rename_i xs hx
  have hlen:=Nf hx
  refine⟨xs.map .v,by simpa using hlen,fun φ m us hl hr i h1 h2=>?_,?_⟩
  ·simp only[List.length_map]at h1
   simp only[List.getElem_map]
   exact .v _ _ (Nd hx i (by omega) h1 _ (hr i (by omega) h2))
  ·have e1:b8 obj (xs.map .v)=[]:=by unfold b8;rw[GQ];rfl
   have e2:cC obj (xs.map .v)=xs.map .v:=by unfold cC;rw[GI]
   have e3:s.c.out [] (xs.map .v)=⟨[],s.new xs,s.d xs⟩:=by simp only[NSpec.c,E5]
   have e4:s.c.pre [] (xs.map .v):=⟨rfl,xs,rfl,iv.2⟩
   have e5:(shut obj []&&D.closL (bX []) (xs.map .v)&&fresh obj t (s.new xs))=true:=by
    rw[Mm,iv.1];rfl
   simp only[CSpec.toSpec,e1,e2,GQ,e3,e4,e5,and_self,bW]
 ·exact iv.elim
theorem xN{P:Program}{f:FuncId}{fn:Func}{c:Code}{s:NSpec}{nt:Nat}{rs:List ResultVar}(hf:P.funcs[f]?=some fn)(hb:fn.body=some c)(ei:fn.ntmps=nt)(eH:fn.results.toList=rs)
 (hn:(fn.name== "runtime.NumGoroutine")=false) (hy:f<1000000000)
 (h:∀ xs,s.pre xs->xs.length<=nt/\CL P [c] (aO nt [0] (fun _=>none) (ef 0 (xs.map .v)) []) (uz P rs [] ⟨[],s.new xs,s.d xs⟩)):ak P f s.toSpec:=by
 have aq:f≠yid:=Nat.ne_of_lt (show f<yid from hy)
 refine NSpec.sound (mf hf hb ei eH (gG hf hb hn) aq ?_) aq
 rintro os ds ⟨rfl,xs,rfl,hp⟩
 obtain⟨h1,h2⟩:=h xs hp
 have hH:aT []=fun _=>none:=by funext nm;unfold aT;split<;>rfl
 have e3:s.c.out [] (xs.map .v)=⟨[],s.new xs,s.d xs⟩:=by simp only[NSpec.c,E5]
 rw[hH,e3]
 exact⟨by simpa using h1,hU h2⟩
attribute [go_sem] Nat.reduceLeDiff Nat.le_refl Nat.reduceLT Nat.reduceAdd Nat.reduceEqDiff Nat.reduceSub Nat.reduceMul Nat.reduceBEq reduceIte reduceCtorEq
abbrev vInt (n:Int):V:=.int .i64 n
theorem lb{a b:Nat}(h:Nat.ble a b=true):a<=b:=Nat.le_of_ble_eq_true h
theorem sq{P:Program}{x y:Code}{r:List Code}{σ:S}{K:Exit->S->Prop}(h:CL P (x::y::r) σ K):CL P (.seq x y::r) σ K:=YY h
theorem ob{p:Prop}(h:p:=by first | exact Bool.or_not_self _ | trivial | (unfold maxLen;omega) | exact Bool.not_or_self _ | exact fun _=>by decide | exact fun h=>⟨h,by decide⟩ | omega | ((repeat' apply And.intro)<;>first | rfl | omega | (unfold maxLen;omega) | trivial) | (simp only[decide_eq_true_eq];omega) | exact⟨_,rfl⟩ | exact fun h=>⟨h,_,rfl⟩ | exact⟨_,_,rfl⟩ | exact fun h=>⟨h,_,_,rfl⟩ | exact fun h=>⟨h,_,_,_,rfl⟩ | exact⟨_,_,_,_,rfl⟩ | exact fun h=>⟨h,_,_,_,_,rfl⟩ | exact⟨[_,_],rfl⟩ | (simp only[Bool.decide_and,Bool.decide_eq_true];exact Bool.not_or_self _) | (simp;done) | (simp_all;done) | (simp_all;omega) | (grind)):p:=h
theorem rs{P:Program}{Γ:FuncId->Option Spec}(hΓ:∀ f s,Γ f=some s->ak P f s){id:Nat}{l:List Oper}{c:Code}{r:List Code}{σ τ:S}{K:Exit->S->Prop}(ks:List Nat)(ns:List Name)(h:CL P (c::r) τ K)
 (h':∀ K':S->Prop,(∀ σ',eN ks ns σ'->eT ks ns σ'=τ->K' σ')->mu P Γ l.toArray l σ K':=by intro K' hK;simp only[go_sem];(repeat (refine⟨ob,?_⟩));exact hK _ (by simp only[go_sem]) (by simp only[go_sem]<;>rfl)):CL P (.region id l.toArray false::c::r) σ K:=
 zA hΓ ks ns fun K' hK=>h' K' fun σ' hc he=>hK σ' hc (he▸h)
theorem rx{P:Program}{Γ:FuncId->Option Spec}(hΓ:∀ f s,Γ f=some s->ak P f s){id:Nat}{l:List Oper}{c:Code}{r:List Code}{σ τ:S}{K:Exit->S->Prop}(ks:List Nat)(ns:List Name)
 (h':∀ K':S->Prop,(∀ σ',eN ks ns σ'->eT ks ns σ'=τ->K' σ')->mu P Γ l.toArray l σ K') (h:CL P (c::r) τ K):CL P (.region id l.toArray false::c::r) σ K:=
 zA hΓ ks ns fun K' hK=>h' K' fun σ' hc he=>hK σ' hc (he▸h)
theorem dx{P:Program}{Γ:FuncId->Option Spec}(hΓ:∀ f s,Γ f=some s->ak P f s)(hP:P.follows .mixedOrders=true)(az:List (List Nat)){id:Nat}{l:List Oper}{c:Code}{r:List Code}{σ τ:S}{K:Exit->S->Prop}(ks:List Nat)(ns:List Name)
 (hs:r8 l.toArray az=true) (h':∀ K':S->Prop,(∀ σ',eN ks ns σ'->eT ks ns σ'=τ->K' σ')->ox P Γ l.toArray 0 az l [] σ K') (h:CL P (c::r) τ K):CL P (.region id l.toArray true::c::r) σ K:=
 Y2 hΓ hP az ks ns hs fun K' hK=>h' K' fun σ' hc he=>hK σ' hc (he▸h)
theorem kp{P:Program}{c:Code}{r:List Code}{σ τ:S}{K:Exit->S->Prop}(ks:List Nat)(ns:List Name)(hc:CL P (c::r) τ K)(h:eN ks ns σ:=by simp only[go_sem])(he:eT ks ns σ=τ:=by simp only[go_sem]<;>rfl):CL P (c::r) σ K:=
 jT ks ns h (he▸hc)
theorem rt{P:Program}{r:List Code}{σ:S}{K:Exit->S->Prop}(h:K .ret σ:=by simp only[go_sem]):CL P (.ret::r) σ K:=ar h
def tbl:List (Nat×Spec)->FuncId->Option Spec
 |[],_=>none
 |(g,s)::r,f=>if f=g then some s else tbl r f
theorem tn{P:Program}:∀ f s,tbl [] f=some s->ak P f s:=fun _ _ h=>by cases h
theorem tc{P:Program}{g:Nat}{s0:Spec}{r:List (Nat×Spec)}(h:ak P g s0)(hr:∀ f s,tbl r f=some s->ak P f s):∀ f s,tbl ((g,s0)::r) f=some s->ak P f s:=by
 intro f s hf
 unfold tbl at hf
 split at hf
 ·rename_i e
  cases hf
  subst e
  exact h
 ·exact hr f s hf
attribute [go_sem] tbl
theorem xw{P:Program}{f:FuncId}{fn:Func}{s:PSpec}{nt:Nat}{rs:List ResultVar}(hf:P.funcs[f]?=some fn)(ei:fn.ntmps=nt)(eH:fn.results.toList=rs)(hn:(fn.name== "runtime.NumGoroutine")=false)(hy:f<1000000000)
 (fB:s.flat=true->∀ xs,s.pre xs->(s.fn xs).flat=true)
 (hb:∃ c,fn.body=some c/\∀ xs,s.pre xs->V.wfL xs->xs.length<=nt/\CL P [c] (aO nt [0] (fun _=>none) (gj 0 xs) []) (qg P rs (s.fn xs))):aL P f s:=by
 obtain⟨c,hc,h⟩:=hb
 exact GZ hf hc ei eH (gG hf hc hn) (Nat.ne_of_lt (show f<yid from hy)) fB fun xs hp hw=>⟨(h xs hp hw).1,hU (h xs hp hw).2⟩
structure En (α:Type) where
 enc:α->V
 dec:V->α
def LX{α:Type}(d:V->α):V->List α
 | .sl l=>l.map d
 |_=>[]
def uW{α:Type}(e:En α):En (List α):=⟨fun l=>.sl (l.map e.enc),LX e.dec⟩
def iC(v:V):En Unit:=⟨fun _=>v,fun _=>()⟩
def iF(n:Nat):En Unit:=iC (.clo (.func n) [] [])
def p1{α:Type}(A:En α)(p:α->Prop)(g:α->V)(fl:Bool):PSpec:=
 ⟨fun xs=>match xs with | [x]=>A.enc (A.dec x)=x/\p (A.dec x) | _=>False,fun xs=>match xs with | [x]=>g (A.dec x) | _=>.bool false,fl⟩
def p2{α β:Type}(A:En α)(B:En β)(p:α->β->Prop)(g:α->β->V)(fl:Bool):PSpec:=
 ⟨fun xs=>match xs with | [x,y]=>A.enc (A.dec x)=x/\B.enc (B.dec y)=y/\p (A.dec x) (B.dec y) | _=>False,fun xs=>match xs with | [x,y]=>g (A.dec x) (B.dec y) | _=>.bool false,fl⟩
def p3{α β γ:Type}(A:En α)(B:En β)(C:En γ)(p:α->β->γ->Prop)(g:α->β->γ->V)(fl:Bool):PSpec:=
 ⟨fun xs=>match xs with | [x,y,z]=>A.enc (A.dec x)=x/\B.enc (B.dec y)=y/\C.enc (C.dec z)=z/\p (A.dec x) (B.dec y) (C.dec z) | _=>False,
  fun xs=>match xs with | [x,y,z]=>g (A.dec x) (B.dec y) (C.dec z) | _=>.bool false,fl⟩
def p4{α β γ δ:Type}(A:En α)(B:En β)(C:En γ)(D:En δ)(p:α->β->γ->δ->Prop)(g:α->β->γ->δ->V)(fl:Bool):PSpec:=
 ⟨fun xs=>match xs with | [x,y,z,u]=>A.enc (A.dec x)=x/\B.enc (B.dec y)=y/\C.enc (C.dec z)=z/\D.enc (D.dec u)=u/\p (A.dec x) (B.dec y) (C.dec z) (D.dec u) | _=>False,
  fun xs=>match xs with | [x,y,z,u]=>g (A.dec x) (B.dec y) (C.dec z) (D.dec u) | _=>.bool false,fl⟩
theorem xA{α:Type}{A:En α}{p:α->Prop}{g:α->V}{fl:Bool}{xs:List V}(h:(p1 A p g fl).pre xs):∃ a,xs=[A.enc a]/\p a/\(p1 A p g fl).fn xs=g a:=by
 unfold p1 at h
 simp only at h
 split at h
 ·exact⟨_,by rw[h.1],h.2,rfl⟩
 ·exact h.elim
theorem Bi{α β:Type}{A:En α}{B:En β}{p:α->β->Prop}{g:α->β->V}{fl:Bool}{xs:List V}(h:(p2 A B p g fl).pre xs):∃ a b,xs=[A.enc a,B.enc b]/\p a b/\(p2 A B p g fl).fn xs=g a b:=by
 unfold p2 at h
 simp only at h
 split at h
 ·exact⟨_,_,by rw[h.1,h.2.1],h.2.2,rfl⟩
 ·exact h.elim
theorem He{α β γ:Type}{A:En α}{B:En β}{C:En γ}{p:α->β->γ->Prop}{g:α->β->γ->V}{fl:Bool}{xs:List V}(h:(p3 A B C p g fl).pre xs):
 ∃ a b c,xs=[A.enc a,B.enc b,C.enc c]/\p a b c/\(p3 A B C p g fl).fn xs=g a b c:=by
 unfold p3 at h
 simp only at h
 split at h
 ·exact⟨_,_,_,by rw[h.1,h.2.1,h.2.2.1],h.2.2.2,rfl⟩
 ·exact h.elim
theorem Hd{α β γ δ:Type}{A:En α}{B:En β}{C:En γ}{D:En δ}{p:α->β->γ->δ->Prop}{g:α->β->γ->δ->V}{fl:Bool}{xs:List V}(h:(p4 A B C D p g fl).pre xs):
 ∃ a b c d,xs=[A.enc a,B.enc b,C.enc c,D.enc d]/\p a b c d/\(p4 A B C D p g fl).fn xs=g a b c d:=by
 unfold p4 at h
 simp only at h
 split at h
 ·exact⟨_,_,_,_,by rw[h.1,h.2.1,h.2.2.1,h.2.2.2.1],h.2.2.2.2,rfl⟩
 ·exact h.elim
theorem RP{α:Type}{A:En α}{p:α->Prop}{g:α->V}{fl:Bool}(hg:∀ a,(g a).flat=true):(p1 A p g fl).flat=true->∀ xs,(p1 A p g fl).pre xs->((p1 A p g fl).fn xs).flat=true:=by
 intro _ xs h
 obtain⟨a,_,_,e⟩:=xA h
 rw[e];exact hg _
theorem Hf{α β:Type}{A:En α}{B:En β}{p:α->β->Prop}{g:α->β->V}{fl:Bool}(hg:∀ a b,(g a b).flat=true):(p2 A B p g fl).flat=true->∀ xs,(p2 A B p g fl).pre xs->((p2 A B p g fl).fn xs).flat=true:=by
 intro _ xs h
 obtain⟨a,b,_,_,e⟩:=Bi h
 rw[e];exact hg _ _
theorem RO{α β γ:Type}{A:En α}{B:En β}{C:En γ}{p:α->β->γ->Prop}{g:α->β->γ->V}{fl:Bool}(hg:∀ a b c,(g a b c).flat=true):
 (p3 A B C p g fl).flat=true->∀ xs,(p3 A B C p g fl).pre xs->((p3 A B C p g fl).fn xs).flat=true:=by
 intro _ xs h
 obtain⟨a,b,c,_,_,e⟩:=He h
 rw[e];exact hg _ _ _
theorem RN{α β γ δ:Type}{A:En α}{B:En β}{C:En γ}{D:En δ}{p:α->β->γ->δ->Prop}{g:α->β->γ->δ->V}{fl:Bool}(hg:∀ a b c d,(g a b c d).flat=true):
 (p4 A B C D p g fl).flat=true->∀ xs,(p4 A B C D p g fl).pre xs->((p4 A B C D p g fl).fn xs).flat=true:=by
 intro _ xs h
 obtain⟨a,b,c,d,_,_,e⟩:=Hd h
 rw[e];exact hg _ _ _ _
attribute [go_sem] p1 p2 p3 p4 LX uW iC iF PSpec.toSpec yid Option.bind_some Option.bind_none
theorem j9{P:Program}:∀ f s,(fun _=>none:FuncId->Option Spec) f=some s->ak P f s:=fun f s h=>by cases h
theorem ae4{P:Program}{id:Nat}{c c2:Code}{r:List Code}{σ:S}{K:Exit->S->Prop}{ι:Type}(Q:ι->Prop)(τ:ι->S)(h1:∀ i,Q i->CL P (c2::r) (τ i) K)
 (h2:CL P [c] σ (ni id (fi (fun σ'=>∃ i,Q i/\cD σ' (τ i)) K))):CL P (.block id c::c2::r) σ K:=by
 refine tG (CW.mono (hU h2) fun e σ' hk=>?_)
 have key:∀ e σ',fi (fun σ'=>∃ i,Q i/\cD σ' (τ i)) K e σ'->fi (fun σ'=>CL P (c2::r) σ' K) K e σ':=fun e σ' h=>by
  cases e with
  |normal=>
   obtain⟨i,hq,hw⟩:=h
   exact aF hw (h1 i hq)
  |_=>exact h
 cases e with
 |exit jD=>
  unfold ni at hk |-
  simp only at hk |-
  split
  ·rename_i h;rw[if_pos h]at hk;exact key _ _ hk
  ·rename_i h;rw[if_neg h]at hk;exact key _ _ hk
 |normal=>exact key .normal σ' hk
 |_=>exact hk
theorem ae3{P:Program}{c:Operand}{x y c2:Code}{r:List Code}{σ:S}{K:Exit->S->Prop}{b:Bool}(τ:S)(hc:ck σ c=true)(hd:ai σ c=.v (.bool b))
 (ht:b=true->CL P [x] σ (fi (fun σ'=>cD σ' τ) K)) (hf:b=false->CL P [y] σ (fi (fun σ'=>cD σ' τ) K)) (h:CL P (c2::r) τ K):CL P (.cond c x y::c2::r) σ K:=by
 have key:∀ z,CL P [z] σ (fi (fun σ'=>cD σ' τ) K)->CL P (z::c2::r) σ K:=fun z hz=>
  CW.mono (hU hz) fun e σ' hk=>by
   cases e with
   |normal=>exact aF hk h
   |_=>exact hk
 exact aw hc hd (fun hb=>key x (ht hb)) fun hb=>key y (hf hb)
theorem aaU{n:Nat}(h:¬ n=0)(hn:n<=maxLen):IntKind.i64.wrap ((n:Int)-1)=((n-1:Nat):Int):=by
 unfold maxLen at hn
 rw[wrap_i64 (by omega) (by omega)]
 omega
theorem getD_at{α:Type}{l:List α}{i:Nat}{z:α}(h:i<l.length):l.getD i z=l[i]:=by
 simp[List.getD,h]
theorem uG{os:List O}(hc:∀ o∈os,∀ dom:Name->Bool,(∀ i,dom [i,1]=true)->O.clos dom o=true)(hs:List (Name×O)):bS [0] (bK [0] hs) (aT os):=by
 intro nm o hn h
 unfold aT at h
 split at h
 ·rename_i i
  refine hc o (List.mem_of_getElem? h) _ fun i=>?_
  simp only[bK,uE,Bool.not_false,Bool.true_or]
 ·cases h
theorem adR(os:List O)(i:Nat):aT os [i,1]=os[i]?:=rfl
def n1{α:Type}(A:En α)(p:α->Prop)(new:α->List (Name×O))(d:α->D):NSpec:=
 ⟨fun xs=>match xs with | [x]=>A.enc (A.dec x)=x/\p (A.dec x) | _=>False,fun xs=>match xs with | [x]=>new (A.dec x) | _=>[],fun xs=>match xs with | [x]=>d (A.dec x) | _=>.any⟩
def n2{α β:Type}(A:En α)(B:En β)(p:α->β->Prop)(new:α->β->List (Name×O))(d:α->β->D):NSpec:=
 ⟨fun xs=>match xs with | [x,y]=>A.enc (A.dec x)=x/\B.enc (B.dec y)=y/\p (A.dec x) (B.dec y) | _=>False,fun xs=>match xs with | [x,y]=>new (A.dec x) (B.dec y) | _=>[],fun xs=>match xs with | [x,y]=>d (A.dec x) (B.dec y) | _=>.any⟩
theorem xS{α:Type}{A:En α}{p:α->Prop}{new:α->List (Name×O)}{d:α->D}{xs:List V}(h:(n1 A p new d).pre xs):∃ a,xs=[A.enc a]/\p a/\(n1 A p new d).new xs=new a/\(n1 A p new d).d xs=d a:=by
 unfold n1 at h
 simp only at h
 split at h
 ·exact⟨_,by rw[h.1],h.2,rfl,rfl⟩
 ·exact h.elim
theorem adS{α β:Type}{A:En α}{B:En β}{p:α->β->Prop}{new:α->β->List (Name×O)}{d:α->β->D}{xs:List V}(h:(n2 A B p new d).pre xs):∃ a b,xs=[A.enc a,B.enc b]/\p a b/\(n2 A B p new d).new xs=new a b/\(n2 A B p new d).d xs=d a b:=by
 unfold n2 at h
 simp only at h
 split at h
 ·exact⟨_,_,by rw[h.1,h.2.1],h.2.2,rfl,rfl⟩
 ·exact h.elim
attribute [go_sem] n1 n2 NSpec.toSpec NSpec.app ml cX cout D.ren D.renL O.ren fresh
section
variable {P:Program} {f:FuncId} {fn:Func} {nt:Nat} {rs:List ResultVar}
theorem w1{α:Type}{A:En α}{p:α->Prop}{g:α->V}{fl:Bool}(hf:P.funcs[f]?=some fn)(ei:fn.ntmps=nt)(eH:fn.results.toList=rs)(hn:(fn.name== "runtime.NumGoroutine")=false)(hy:f<1000000000)
 (fB:fl=true->∀ a,(g a).flat=true) (hb:∃ c,fn.body=some c/\1<=nt/\∀ a,p a->V.wfL [A.enc a]->CL P [c] (aO nt [0] (fun _=>none) (gj 0 [A.enc a]) []) (qg P rs (g a))):aL P f (p1 A p g fl):=by
 obtain⟨c,hc,h1,h⟩:=hb
 refine xw hf ei eH hn hy (fun e=>RP (fB e) e) ⟨c,hc,fun xs hp hw=>?_⟩
 obtain⟨a,rfl,hp,hg⟩:=xA hp
 rw[hg]
 exact⟨h1,h a hp hw⟩
theorem w2{α β:Type}{A:En α}{B:En β}{p:α->β->Prop}{g:α->β->V}{fl:Bool}(hf:P.funcs[f]?=some fn)(ei:fn.ntmps=nt)(eH:fn.results.toList=rs)(hn:(fn.name== "runtime.NumGoroutine")=false)(hy:f<1000000000)
 (fB:fl=true->∀ a b,(g a b).flat=true) (hb:∃ c,fn.body=some c/\2<=nt/\∀ a b,p a b->V.wfL [A.enc a,B.enc b]->CL P [c] (aO nt [0] (fun _=>none) (gj 0 [A.enc a,B.enc b]) []) (qg P rs (g a b))):aL P f (p2 A B p g fl):=by
 obtain⟨c,hc,h1,h⟩:=hb
 refine xw hf ei eH hn hy (fun e=>Hf (fB e) e) ⟨c,hc,fun xs hp hw=>?_⟩
 obtain⟨a,b,rfl,hp,hg⟩:=Bi hp
 rw[hg]
 exact⟨h1,h a b hp hw⟩
theorem w3{α β γ:Type}{A:En α}{B:En β}{C:En γ}{p:α->β->γ->Prop}{g:α->β->γ->V}{fl:Bool}(hf:P.funcs[f]?=some fn)(ei:fn.ntmps=nt)(eH:fn.results.toList=rs)(hn:(fn.name== "runtime.NumGoroutine")=false)(hy:f<1000000000)
 (fB:fl=true->∀ a b c,(g a b c).flat=true) (hb:∃ c,fn.body=some c/\3<=nt/\∀ a b d,p a b d->V.wfL [A.enc a,B.enc b,C.enc d]->CL P [c] (aO nt [0] (fun _=>none) (gj 0 [A.enc a,B.enc b,C.enc d]) []) (qg P rs (g a b d))):aL P f (p3 A B C p g fl):=by
 obtain⟨c,hc,h1,h⟩:=hb
 refine xw hf ei eH hn hy (fun e=>RO (fB e) e) ⟨c,hc,fun xs hp hw=>?_⟩
 obtain⟨a,b,d,rfl,hp,hg⟩:=He hp
 rw[hg]
 exact⟨h1,h a b d hp hw⟩
theorem w4{α β γ δ:Type}{A:En α}{B:En β}{C:En γ}{E:En δ}{p:α->β->γ->δ->Prop}{g:α->β->γ->δ->V}{fl:Bool}(hf:P.funcs[f]?=some fn)(ei:fn.ntmps=nt)(eH:fn.results.toList=rs)(hn:(fn.name== "runtime.NumGoroutine")=false)(hy:f<1000000000)
 (fB:fl=true->∀ a b c d,(g a b c d).flat=true) (hb:∃ c,fn.body=some c/\4<=nt/\∀ a b d e,p a b d e->V.wfL [A.enc a,B.enc b,C.enc d,E.enc e]->CL P [c] (aO nt [0] (fun _=>none) (gj 0 [A.enc a,B.enc b,C.enc d,E.enc e]) []) (qg P rs (g a b d e))):aL P f (p4 A B C E p g fl):=by
 obtain⟨c,hc,h1,h⟩:=hb
 refine xw hf ei eH hn hy (fun e=>RN (fB e) e) ⟨c,hc,fun xs hp hw=>?_⟩
 obtain⟨a,b,d,e,rfl,hp,hg⟩:=Hd hp
 rw[hg]
 exact⟨h1,h a b d e hp hw⟩
end
open Go Go.Proofs
attribute [go_sem] ow
@[go_sem] theorem ta0:ba Tryz.prog 0=some (false,1):=by kernel_rfl
@[go_sem] theorem FO:ba Tryz.prog 3=some (false,1):=by kernel_rfl
@[go_sem] theorem ti3:ly Tryz.prog 3=some .i64:=by kernel_rfl
@[go_sem] theorem OQ:bd Tryz.prog 3=some (.int .i64 0):=by kernel_rfl
@[go_sem] theorem ta4:ba Tryz.prog 4=some (false,1):=by kernel_rfl
@[go_sem] theorem tz4:bd Tryz.prog 4=some (.bool false):=by kernel_rfl
@[go_sem] theorem ta5:ba Tryz.prog 5=some (false,1):=by kernel_rfl
@[go_sem] theorem ti5:ly Tryz.prog 5=some .u8:=by kernel_rfl
@[go_sem] theorem tz5:bd Tryz.prog 5=some (.int .u8 0):=by kernel_rfl
@[go_sem] theorem ta9:ba Tryz.prog 9=some (false,1):=by kernel_rfl
@[go_sem] theorem tl9:dr Tryz.prog 9=some 1:=by kernel_rfl
@[go_sem] theorem tz9:bd Tryz.prog 9=some (.string ⟨#[]⟩):=by kernel_rfl
@[go_sem] theorem ac8:ba Tryz.prog 22=some (false,1):=by kernel_rfl
@[go_sem] theorem OX:bF Tryz.prog 22=some (3,1,8):=by kernel_rfl
@[go_sem] theorem ab0:dr Tryz.prog 22=some 0:=by kernel_rfl
@[go_sem] theorem abj:bd Tryz.prog 22=some (.slice none 0 0):=by kernel_rfl
@[go_sem] theorem ac7:ba Tryz.prog 23=some (false,1):=by kernel_rfl
@[go_sem] theorem FN:bF Tryz.prog 23=some (91,2,16):=by kernel_rfl
@[go_sem] theorem abZ:dr Tryz.prog 23=some 0:=by kernel_rfl
@[go_sem] theorem abi:bd Tryz.prog 23=some (.slice none 0 0):=by kernel_rfl
@[go_sem] theorem ac6:ba Tryz.prog 24=some (true,6):=by kernel_rfl
@[go_sem] theorem abF:eQ Tryz.prog 24=some (6,1,false):=by kernel_rfl
@[go_sem] theorem abT:fS Tryz.prog 24=some [(0,1),(1,1),(2,1),(3,1),(4,1),(5,1)]:=by kernel_rfl
@[go_sem] theorem abh:bd Tryz.prog 24=some (.agg #[(.slice none 0 0),(.slice none 0 0),(.slice none 0 0),(.slice none 0 0),(.slice none 0 0),(.slice none 0 0)]):=by kernel_rfl
@[go_sem] theorem ac5:ba Tryz.prog 25=some (true,6):=by kernel_rfl
@[go_sem] theorem abE:eQ Tryz.prog 25=some (6,1,false):=by kernel_rfl
@[go_sem] theorem abS:fS Tryz.prog 25=some [(0,1),(1,1),(2,1),(3,1),(4,1),(5,1)]:=by kernel_rfl
@[go_sem] theorem abg:bd Tryz.prog 25=some (.agg #[(.int .i64 0),(.int .i64 0),(.int .i64 0),(.int .i64 0),(.int .i64 0),(.int .i64 0)]):=by kernel_rfl
@[go_sem] theorem ac4:ba Tryz.prog 27=some (true,19):=by kernel_rfl
@[go_sem] theorem abR:fS Tryz.prog 27=some [(0,1),(1,6),(7,6),(13,6)]:=by kernel_rfl
@[go_sem] theorem abf:bd Tryz.prog 27=some (.agg #[(.slice none 0 0),(.slice none 0 0),(.slice none 0 0),(.slice none 0 0),(.slice none 0 0),(.slice none 0 0),(.slice none 0 0),(.int .i64 0),(.int .i64 0),(.int .i64 0),(.int .i64 0),(.int .i64 0),(.int .i64 0),(.int .i64 0),(.int .i64 0),(.int .i64 0),(.int .i64 0),(.int .i64 0),(.int .i64 0)]):=by kernel_rfl
@[go_sem] theorem acp:cP Tryz.prog 27 0=some (0,1,false):=by kernel_rfl
@[go_sem] theorem aco:cP Tryz.prog 27 1=some (1,6,true):=by kernel_rfl
@[go_sem] theorem acn:cP Tryz.prog 27 2=some (7,6,true):=by kernel_rfl
@[go_sem] theorem acm:cP Tryz.prog 27 3=some (13,6,true):=by kernel_rfl
@[go_sem] theorem ac3:ba Tryz.prog 29=some (true,21):=by kernel_rfl
@[go_sem] theorem abQ:fS Tryz.prog 29=some [(0,1),(1,19),(20,1)]:=by kernel_rfl
@[go_sem] theorem abe:bd Tryz.prog 29=some (.agg #[(.int .i64 0),(.slice none 0 0),(.slice none 0 0),(.slice none 0 0),(.slice none 0 0),(.slice none 0 0),(.slice none 0 0),(.slice none 0 0),(.int .i64 0),(.int .i64 0),(.int .i64 0),(.int .i64 0),(.int .i64 0),(.int .i64 0),(.int .i64 0),(.int .i64 0),(.int .i64 0),(.int .i64 0),(.int .i64 0),(.int .i64 0),(.int .i64 0)]):=by kernel_rfl
@[go_sem] theorem ack:cP Tryz.prog 29 0=some (0,1,false):=by kernel_rfl
@[go_sem] theorem acj:cP Tryz.prog 29 1=some (1,19,true):=by kernel_rfl
@[go_sem] theorem aci:cP Tryz.prog 29 2=some (20,1,false):=by kernel_rfl
@[go_sem] theorem ac2:ba Tryz.prog 30=some (true,42):=by kernel_rfl
@[go_sem] theorem abD:eQ Tryz.prog 30=some (2,21,true):=by kernel_rfl
@[go_sem] theorem abP:fS Tryz.prog 30=some [(0,21),(21,21)]:=by kernel_rfl
@[go_sem] theorem abd:bd Tryz.prog 30=some (.agg #[(.int .i64 0),(.slice none 0 0),(.slice none 0 0),(.slice none 0 0),(.slice none 0 0),(.slice none 0 0),(.slice none 0 0),(.slice none 0 0),(.int .i64 0),(.int .i64 0),(.int .i64 0),(.int .i64 0),(.int .i64 0),(.int .i64 0),(.int .i64 0),(.int .i64 0),(.int .i64 0),(.int .i64 0),(.int .i64 0),(.int .i64 0),(.int .i64 0),(.int .i64 0),(.slice none 0 0),(.slice none 0 0),(.slice none 0 0),(.slice none 0 0),(.slice none 0 0),(.slice none 0 0),(.slice none 0 0),(.int .i64 0),(.int .i64 0),(.int .i64 0),(.int .i64 0),(.int .i64 0),(.int .i64 0),(.int .i64 0),(.int .i64 0),(.int .i64 0),(.int .i64 0),(.int .i64 0),(.int .i64 0),(.int .i64 0)]):=by kernel_rfl
@[go_sem] theorem ac1:ba Tryz.prog 32=some (true,63):=by kernel_rfl
@[go_sem] theorem abO:fS Tryz.prog 32=some [(0,1),(1,19),(20,42),(62,1)]:=by kernel_rfl
@[go_sem] theorem abb:bd Tryz.prog 32=some (.agg #[(.int .i64 0),(.slice none 0 0),(.slice none 0 0),(.slice none 0 0),(.slice none 0 0),(.slice none 0 0),(.slice none 0 0),(.slice none 0 0),(.int .i64 0),(.int .i64 0),(.int .i64 0),(.int .i64 0),(.int .i64 0),(.int .i64 0),(.int .i64 0),(.int .i64 0),(.int .i64 0),(.int .i64 0),(.int .i64 0),(.int .i64 0),(.int .i64 0),(.slice none 0 0),(.slice none 0 0),(.slice none 0 0),(.slice none 0 0),(.slice none 0 0),(.slice none 0 0),(.slice none 0 0),(.int .i64 0),(.int .i64 0),(.int .i64 0),(.int .i64 0),(.int .i64 0),(.int .i64 0),(.int .i64 0),(.int .i64 0),(.int .i64 0),(.int .i64 0),(.int .i64 0),(.int .i64 0),(.int .i64 0),(.int .i64 0),(.slice none 0 0),(.slice none 0 0),(.slice none 0 0),(.slice none 0 0),(.slice none 0 0),(.slice none 0 0),(.slice none 0 0),(.int .i64 0),(.int .i64 0),(.int .i64 0),(.int .i64 0),(.int .i64 0),(.int .i64 0),(.int .i64 0),(.int .i64 0),(.int .i64 0),(.int .i64 0),(.int .i64 0),(.int .i64 0),(.int .i64 0),(.int .i64 0)]):=by kernel_rfl
@[go_sem] theorem ach:cP Tryz.prog 32 0=some (0,1,false):=by kernel_rfl
@[go_sem] theorem acg:cP Tryz.prog 32 1=some (1,19,true):=by kernel_rfl
@[go_sem] theorem acf:cP Tryz.prog 32 2=some (20,42,true):=by kernel_rfl
@[go_sem] theorem ace:cP Tryz.prog 32 3=some (62,1,false):=by kernel_rfl
@[go_sem] theorem ac0:ba Tryz.prog 34=some (true,4):=by kernel_rfl
@[go_sem] theorem abN:fS Tryz.prog 34=some [(0,1),(1,1),(2,1),(3,1)]:=by kernel_rfl
@[go_sem] theorem aba:bd Tryz.prog 34=some (.agg #[(.int .i64 0),(.int .i64 0),(.slice none 0 0),(.int .i64 0)]):=by kernel_rfl
@[go_sem] theorem acd:cP Tryz.prog 34 0=some (0,1,false):=by kernel_rfl
@[go_sem] theorem acb:cP Tryz.prog 34 1=some (1,1,false):=by kernel_rfl
@[go_sem] theorem aca:cP Tryz.prog 34 2=some (2,1,false):=by kernel_rfl
@[go_sem] theorem ab':cP Tryz.prog 34 3=some (3,1,false):=by kernel_rfl
@[go_sem] theorem acZ:ba Tryz.prog 35=some (true,3):=by kernel_rfl
@[go_sem] theorem abC:eQ Tryz.prog 35=some (3,1,false):=by kernel_rfl
@[go_sem] theorem abM:fS Tryz.prog 35=some [(0,1),(1,1),(2,1)]:=by kernel_rfl
@[go_sem] theorem aa':bd Tryz.prog 35=some (.agg #[(.int .i64 0),(.int .i64 0),(.int .i64 0)]):=by kernel_rfl
@[go_sem] theorem acY:ba Tryz.prog 36=some (false,1):=by kernel_rfl
@[go_sem] theorem ab3:ly Tryz.prog 36=some .i64:=by kernel_rfl
@[go_sem] theorem aa9:bd Tryz.prog 36=some (.int .i64 0):=by kernel_rfl
@[go_sem] theorem acX:ba Tryz.prog 37=some (false,1):=by kernel_rfl
@[go_sem] theorem acW:ba Tryz.prog 45=some (false,1):=by kernel_rfl
@[go_sem] theorem acA:bF Tryz.prog 45=some (113,5,40):=by kernel_rfl
@[go_sem] theorem abY:dr Tryz.prog 45=some 0:=by kernel_rfl
@[go_sem] theorem aa8:bd Tryz.prog 45=some (.slice none 0 0):=by kernel_rfl
@[go_sem] theorem acV:ba Tryz.prog 46=some (true,5):=by kernel_rfl
@[go_sem] theorem abB:eQ Tryz.prog 46=some (5,1,false):=by kernel_rfl
@[go_sem] theorem abL:fS Tryz.prog 46=some [(0,1),(1,1),(2,1),(3,1),(4,1)]:=by kernel_rfl
@[go_sem] theorem aa7:bd Tryz.prog 46=some (.agg #[(.int .i64 0),(.int .i64 0),(.int .i64 0),(.int .i64 0),(.int .i64 0)]):=by kernel_rfl
@[go_sem] theorem acU:ba Tryz.prog 47=some (true,378):=by kernel_rfl
@[go_sem] theorem abA:eQ Tryz.prog 47=some (6,63,true):=by kernel_rfl
@[go_sem] theorem abK:fS Tryz.prog 47=some [(0,63),(63,63),(126,63),(189,63),(252,63),(315,63)]:=by kernel_rfl
@[go_sem] theorem aa6:bd Tryz.prog 47=some (.agg #[(.int .i64 0),(.slice none 0 0),(.slice none 0 0),(.slice none 0 0),(.slice none 0 0),(.slice none 0 0),(.slice none 0 0),(.slice none 0 0),(.int .i64 0),(.int .i64 0),(.int .i64 0),(.int .i64 0),(.int .i64 0),(.int .i64 0),(.int .i64 0),(.int .i64 0),(.int .i64 0),(.int .i64 0),(.int .i64 0),(.int .i64 0),(.int .i64 0),(.slice none 0 0),(.slice none 0 0),(.slice none 0 0),(.slice none 0 0),(.slice none 0 0),(.slice none 0 0),(.slice none 0 0),(.int .i64 0),(.int .i64 0),(.int .i64 0),(.int .i64 0),(.int .i64 0),(.int .i64 0),(.int .i64 0),(.int .i64 0),(.int .i64 0),(.int .i64 0),(.int .i64 0),(.int .i64 0),(.int .i64 0),(.int .i64 0),(.slice none 0 0),(.slice none 0 0),(.slice none 0 0),(.slice none 0 0),(.slice none 0 0),(.slice none 0 0),(.slice none 0 0),(.int .i64 0),(.int .i64 0),(.int .i64 0),(.int .i64 0),(.int .i64 0),(.int .i64 0),(.int .i64 0),(.int .i64 0),(.int .i64 0),(.int .i64 0),(.int .i64 0),(.int .i64 0),(.int .i64 0),(.int .i64 0),(.int .i64 0),(.slice none 0 0),(.slice none 0 0),(.slice none 0 0),(.slice none 0 0),(.slice none 0 0),(.slice none 0 0),(.slice none 0 0),(.int .i64 0),(.int .i64 0),(.int .i64 0),(.int .i64 0),(.int .i64 0),(.int .i64 0),(.int .i64 0),(.int .i64 0),(.int .i64 0),(.int .i64 0),(.int .i64 0),(.int .i64 0),(.int .i64 0),(.slice none 0 0),(.slice none 0 0),(.slice none 0 0),(.slice none 0 0),(.slice none 0 0),(.slice none 0 0),(.slice none 0 0),(.int .i64 0),(.int .i64 0),(.int .i64 0),(.int .i64 0),(.int .i64 0),(.int .i64 0),(.int .i64 0),(.int .i64 0),(.int .i64 0),(.int .i64 0),(.int .i64 0),(.int .i64 0),(.int .i64 0),(.int .i64 0),(.slice none 0 0),(.slice none 0 0),(.slice none 0 0),(.slice none 0 0),(.slice none 0 0),(.slice none 0 0),(.slice none 0 0),(.int .i64 0),(.int .i64 0),(.int .i64 0),(.int .i64 0),(.int .i64 0),(.int .i64 0),(.int .i64 0),(.int .i64 0),(.int .i64 0),(.int .i64 0),(.int .i64 0),(.int .i64 0),(.int .i64 0),(.int .i64 0),(.int .i64 0),(.slice none 0 0),(.slice none 0 0),(.slice none 0 0),(.slice none 0 0),(.slice none 0 0),(.slice none 0 0),(.slice none 0 0),(.int .i64 0),(.int .i64 0),(.int .i64 0),(.int .i64 0),(.int .i64 0),(.int .i64 0),(.int .i64 0),(.int .i64 0),(.int .i64 0),(.int .i64 0),(.int .i64 0),(.int .i64 0),(.int .i64 0),(.slice none 0 0),(.slice none 0 0),(.slice none 0 0),(.slice none 0 0),(.slice none 0 0),(.slice none 0 0),(.slice none 0 0),(.int .i64 0),(.int .i64 0),(.int .i64 0),(.int .i64 0),(.int .i64 0),(.int .i64 0),(.int .i64 0),(.int .i64 0),(.int .i64 0),(.int .i64 0),(.int .i64 0),(.int .i64 0),(.int .i64 0),(.int .i64 0),(.slice none 0 0),(.slice none 0 0),(.slice none 0 0),(.slice none 0 0),(.slice none 0 0),(.slice none 0 0),(.slice none 0 0),(.int .i64 0),(.int .i64 0),(.int .i64 0),(.int .i64 0),(.int .i64 0),(.int .i64 0),(.int .i64 0),(.int .i64 0),(.int .i64 0),(.int .i64 0),(.int .i64 0),(.int .i64 0),(.int .i64 0),(.int .i64 0),(.int .i64 0),(.slice none 0 0),(.slice none 0 0),(.slice none 0 0),(.slice none 0 0),(.slice none 0 0),(.slice none 0 0),(.slice none 0 0),(.int .i64 0),(.int .i64 0),(.int .i64 0),(.int .i64 0),(.int .i64 0),(.int .i64 0),(.int .i64 0),(.int .i64 0),(.int .i64 0),(.int .i64 0),(.int .i64 0),(.int .i64 0),(.int .i64 0),(.slice none 0 0),(.slice none 0 0),(.slice none 0 0),(.slice none 0 0),(.slice none 0 0),(.slice none 0 0),(.slice none 0 0),(.int .i64 0),(.int .i64 0),(.int .i64 0),(.int .i64 0),(.int .i64 0),(.int .i64 0),(.int .i64 0),(.int .i64 0),(.int .i64 0),(.int .i64 0),(.int .i64 0),(.int .i64 0),(.int .i64 0),(.int .i64 0),(.slice none 0 0),(.slice none 0 0),(.slice none 0 0),(.slice none 0 0),(.slice none 0 0),(.slice none 0 0),(.slice none 0 0),(.int .i64 0),(.int .i64 0),(.int .i64 0),(.int .i64 0),(.int .i64 0),(.int .i64 0),(.int .i64 0),(.int .i64 0),(.int .i64 0),(.int .i64 0),(.int .i64 0),(.int .i64 0),(.int .i64 0),(.int .i64 0),(.int .i64 0),(.slice none 0 0),(.slice none 0 0),(.slice none 0 0),(.slice none 0 0),(.slice none 0 0),(.slice none 0 0),(.slice none 0 0),(.int .i64 0),(.int .i64 0),(.int .i64 0),(.int .i64 0),(.int .i64 0),(.int .i64 0),(.int .i64 0),(.int .i64 0),(.int .i64 0),(.int .i64 0),(.int .i64 0),(.int .i64 0),(.int .i64 0),(.slice none 0 0),(.slice none 0 0),(.slice none 0 0),(.slice none 0 0),(.slice none 0 0),(.slice none 0 0),(.slice none 0 0),(.int .i64 0),(.int .i64 0),(.int .i64 0),(.int .i64 0),(.int .i64 0),(.int .i64 0),(.int .i64 0),(.int .i64 0),(.int .i64 0),(.int .i64 0),(.int .i64 0),(.int .i64 0),(.int .i64 0),(.int .i64 0),(.slice none 0 0),(.slice none 0 0),(.slice none 0 0),(.slice none 0 0),(.slice none 0 0),(.slice none 0 0),(.slice none 0 0),(.int .i64 0),(.int .i64 0),(.int .i64 0),(.int .i64 0),(.int .i64 0),(.int .i64 0),(.int .i64 0),(.int .i64 0),(.int .i64 0),(.int .i64 0),(.int .i64 0),(.int .i64 0),(.int .i64 0),(.int .i64 0),(.int .i64 0),(.slice none 0 0),(.slice none 0 0),(.slice none 0 0),(.slice none 0 0),(.slice none 0 0),(.slice none 0 0),(.slice none 0 0),(.int .i64 0),(.int .i64 0),(.int .i64 0),(.int .i64 0),(.int .i64 0),(.int .i64 0),(.int .i64 0),(.int .i64 0),(.int .i64 0),(.int .i64 0),(.int .i64 0),(.int .i64 0),(.int .i64 0),(.slice none 0 0),(.slice none 0 0),(.slice none 0 0),(.slice none 0 0),(.slice none 0 0),(.slice none 0 0),(.slice none 0 0),(.int .i64 0),(.int .i64 0),(.int .i64 0),(.int .i64 0),(.int .i64 0),(.int .i64 0),(.int .i64 0),(.int .i64 0),(.int .i64 0),(.int .i64 0),(.int .i64 0),(.int .i64 0),(.int .i64 0),(.int .i64 0),(.slice none 0 0),(.slice none 0 0),(.slice none 0 0),(.slice none 0 0),(.slice none 0 0),(.slice none 0 0),(.slice none 0 0),(.int .i64 0),(.int .i64 0),(.int .i64 0),(.int .i64 0),(.int .i64 0),(.int .i64 0),(.int .i64 0),(.int .i64 0),(.int .i64 0),(.int .i64 0),(.int .i64 0),(.int .i64 0),(.int .i64 0),(.int .i64 0)]):=by kernel_rfl
@[go_sem] theorem acT:ba Tryz.prog 48=some (false,1):=by kernel_rfl
@[go_sem] theorem acz:bF Tryz.prog 48=some (34,4,48):=by kernel_rfl
@[go_sem] theorem abX:dr Tryz.prog 48=some 0:=by kernel_rfl
@[go_sem] theorem aa5:bd Tryz.prog 48=some (.slice none 0 0):=by kernel_rfl
@[go_sem] theorem acS:ba Tryz.prog 50=some (true,379):=by kernel_rfl
@[go_sem] theorem abJ:fS Tryz.prog 50=some [(0,378),(378,1)]:=by kernel_rfl
@[go_sem] theorem aa4:bd Tryz.prog 50=some (.agg #[(.int .i64 0),(.slice none 0 0),(.slice none 0 0),(.slice none 0 0),(.slice none 0 0),(.slice none 0 0),(.slice none 0 0),(.slice none 0 0),(.int .i64 0),(.int .i64 0),(.int .i64 0),(.int .i64 0),(.int .i64 0),(.int .i64 0),(.int .i64 0),(.int .i64 0),(.int .i64 0),(.int .i64 0),(.int .i64 0),(.int .i64 0),(.int .i64 0),(.slice none 0 0),(.slice none 0 0),(.slice none 0 0),(.slice none 0 0),(.slice none 0 0),(.slice none 0 0),(.slice none 0 0),(.int .i64 0),(.int .i64 0),(.int .i64 0),(.int .i64 0),(.int .i64 0),(.int .i64 0),(.int .i64 0),(.int .i64 0),(.int .i64 0),(.int .i64 0),(.int .i64 0),(.int .i64 0),(.int .i64 0),(.int .i64 0),(.slice none 0 0),(.slice none 0 0),(.slice none 0 0),(.slice none 0 0),(.slice none 0 0),(.slice none 0 0),(.slice none 0 0),(.int .i64 0),(.int .i64 0),(.int .i64 0),(.int .i64 0),(.int .i64 0),(.int .i64 0),(.int .i64 0),(.int .i64 0),(.int .i64 0),(.int .i64 0),(.int .i64 0),(.int .i64 0),(.int .i64 0),(.int .i64 0),(.int .i64 0),(.slice none 0 0),(.slice none 0 0),(.slice none 0 0),(.slice none 0 0),(.slice none 0 0),(.slice none 0 0),(.slice none 0 0),(.int .i64 0),(.int .i64 0),(.int .i64 0),(.int .i64 0),(.int .i64 0),(.int .i64 0),(.int .i64 0),(.int .i64 0),(.int .i64 0),(.int .i64 0),(.int .i64 0),(.int .i64 0),(.int .i64 0),(.slice none 0 0),(.slice none 0 0),(.slice none 0 0),(.slice none 0 0),(.slice none 0 0),(.slice none 0 0),(.slice none 0 0),(.int .i64 0),(.int .i64 0),(.int .i64 0),(.int .i64 0),(.int .i64 0),(.int .i64 0),(.int .i64 0),(.int .i64 0),(.int .i64 0),(.int .i64 0),(.int .i64 0),(.int .i64 0),(.int .i64 0),(.int .i64 0),(.slice none 0 0),(.slice none 0 0),(.slice none 0 0),(.slice none 0 0),(.slice none 0 0),(.slice none 0 0),(.slice none 0 0),(.int .i64 0),(.int .i64 0),(.int .i64 0),(.int .i64 0),(.int .i64 0),(.int .i64 0),(.int .i64 0),(.int .i64 0),(.int .i64 0),(.int .i64 0),(.int .i64 0),(.int .i64 0),(.int .i64 0),(.int .i64 0),(.int .i64 0),(.slice none 0 0),(.slice none 0 0),(.slice none 0 0),(.slice none 0 0),(.slice none 0 0),(.slice none 0 0),(.slice none 0 0),(.int .i64 0),(.int .i64 0),(.int .i64 0),(.int .i64 0),(.int .i64 0),(.int .i64 0),(.int .i64 0),(.int .i64 0),(.int .i64 0),(.int .i64 0),(.int .i64 0),(.int .i64 0),(.int .i64 0),(.slice none 0 0),(.slice none 0 0),(.slice none 0 0),(.slice none 0 0),(.slice none 0 0),(.slice none 0 0),(.slice none 0 0),(.int .i64 0),(.int .i64 0),(.int .i64 0),(.int .i64 0),(.int .i64 0),(.int .i64 0),(.int .i64 0),(.int .i64 0),(.int .i64 0),(.int .i64 0),(.int .i64 0),(.int .i64 0),(.int .i64 0),(.int .i64 0),(.slice none 0 0),(.slice none 0 0),(.slice none 0 0),(.slice none 0 0),(.slice none 0 0),(.slice none 0 0),(.slice none 0 0),(.int .i64 0),(.int .i64 0),(.int .i64 0),(.int .i64 0),(.int .i64 0),(.int .i64 0),(.int .i64 0),(.int .i64 0),(.int .i64 0),(.int .i64 0),(.int .i64 0),(.int .i64 0),(.int .i64 0),(.int .i64 0),(.int .i64 0),(.slice none 0 0),(.slice none 0 0),(.slice none 0 0),(.slice none 0 0),(.slice none 0 0),(.slice none 0 0),(.slice none 0 0),(.int .i64 0),(.int .i64 0),(.int .i64 0),(.int .i64 0),(.int .i64 0),(.int .i64 0),(.int .i64 0),(.int .i64 0),(.int .i64 0),(.int .i64 0),(.int .i64 0),(.int .i64 0),(.int .i64 0),(.slice none 0 0),(.slice none 0 0),(.slice none 0 0),(.slice none 0 0),(.slice none 0 0),(.slice none 0 0),(.slice none 0 0),(.int .i64 0),(.int .i64 0),(.int .i64 0),(.int .i64 0),(.int .i64 0),(.int .i64 0),(.int .i64 0),(.int .i64 0),(.int .i64 0),(.int .i64 0),(.int .i64 0),(.int .i64 0),(.int .i64 0),(.int .i64 0),(.slice none 0 0),(.slice none 0 0),(.slice none 0 0),(.slice none 0 0),(.slice none 0 0),(.slice none 0 0),(.slice none 0 0),(.int .i64 0),(.int .i64 0),(.int .i64 0),(.int .i64 0),(.int .i64 0),(.int .i64 0),(.int .i64 0),(.int .i64 0),(.int .i64 0),(.int .i64 0),(.int .i64 0),(.int .i64 0),(.int .i64 0),(.int .i64 0),(.int .i64 0),(.slice none 0 0),(.slice none 0 0),(.slice none 0 0),(.slice none 0 0),(.slice none 0 0),(.slice none 0 0),(.slice none 0 0),(.int .i64 0),(.int .i64 0),(.int .i64 0),(.int .i64 0),(.int .i64 0),(.int .i64 0),(.int .i64 0),(.int .i64 0),(.int .i64 0),(.int .i64 0),(.int .i64 0),(.int .i64 0),(.int .i64 0),(.slice none 0 0),(.slice none 0 0),(.slice none 0 0),(.slice none 0 0),(.slice none 0 0),(.slice none 0 0),(.slice none 0 0),(.int .i64 0),(.int .i64 0),(.int .i64 0),(.int .i64 0),(.int .i64 0),(.int .i64 0),(.int .i64 0),(.int .i64 0),(.int .i64 0),(.int .i64 0),(.int .i64 0),(.int .i64 0),(.int .i64 0),(.int .i64 0),(.slice none 0 0),(.slice none 0 0),(.slice none 0 0),(.slice none 0 0),(.slice none 0 0),(.slice none 0 0),(.slice none 0 0),(.int .i64 0),(.int .i64 0),(.int .i64 0),(.int .i64 0),(.int .i64 0),(.int .i64 0),(.int .i64 0),(.int .i64 0),(.int .i64 0),(.int .i64 0),(.int .i64 0),(.int .i64 0),(.int .i64 0),(.int .i64 0),(.int .i64 0),(.slice none 0 0),(.slice none 0 0),(.slice none 0 0),(.slice none 0 0),(.slice none 0 0),(.slice none 0 0),(.slice none 0 0),(.int .i64 0),(.int .i64 0),(.int .i64 0),(.int .i64 0),(.int .i64 0),(.int .i64 0),(.int .i64 0),(.int .i64 0),(.int .i64 0),(.int .i64 0),(.int .i64 0),(.int .i64 0),(.int .i64 0),(.slice none 0 0),(.slice none 0 0),(.slice none 0 0),(.slice none 0 0),(.slice none 0 0),(.slice none 0 0),(.slice none 0 0),(.int .i64 0),(.int .i64 0),(.int .i64 0),(.int .i64 0),(.int .i64 0),(.int .i64 0),(.int .i64 0),(.int .i64 0),(.int .i64 0),(.int .i64 0),(.int .i64 0),(.int .i64 0),(.int .i64 0),(.int .i64 0),(.slice none 0 0),(.slice none 0 0),(.slice none 0 0),(.slice none 0 0),(.slice none 0 0),(.slice none 0 0),(.slice none 0 0),(.int .i64 0),(.int .i64 0),(.int .i64 0),(.int .i64 0),(.int .i64 0),(.int .i64 0),(.int .i64 0),(.int .i64 0),(.int .i64 0),(.int .i64 0),(.int .i64 0),(.int .i64 0),(.int .i64 0),(.int .i64 0),(.slice none 0 0)]):=by kernel_rfl
@[go_sem] theorem ab9:cP Tryz.prog 50 0=some (0,378,true):=by kernel_rfl
@[go_sem] theorem ab8:cP Tryz.prog 50 1=some (378,1,false):=by kernel_rfl
@[go_sem] theorem acR:ba Tryz.prog 53=some (false,1):=by kernel_rfl
@[go_sem] theorem acQ:ba Tryz.prog 56=some (false,1):=by kernel_rfl
@[go_sem] theorem acy:bF Tryz.prog 56=some (32,63,840):=by kernel_rfl
@[go_sem] theorem abW:dr Tryz.prog 56=some 0:=by kernel_rfl
@[go_sem] theorem aa3:bd Tryz.prog 56=some (.slice none 0 0):=by kernel_rfl
@[go_sem] theorem acP:ba Tryz.prog 60=some (false,1):=by kernel_rfl
@[go_sem] theorem acO:ba Tryz.prog 62=some (false,1):=by kernel_rfl
@[go_sem] theorem acN:ba Tryz.prog 68=some (true,2):=by kernel_rfl
@[go_sem] theorem abz:eQ Tryz.prog 68=some (2,1,false):=by kernel_rfl
@[go_sem] theorem abI:fS Tryz.prog 68=some [(0,1),(1,1)]:=by kernel_rfl
@[go_sem] theorem aa2:bd Tryz.prog 68=some (.agg #[(.int .i64 0),(.int .i64 0)]):=by kernel_rfl
@[go_sem] theorem acM:ba Tryz.prog 69=some (false,1):=by kernel_rfl
@[go_sem] theorem acL:ba Tryz.prog 76=some (false,1):=by kernel_rfl
@[go_sem] theorem acK:ba Tryz.prog 78=some (false,1):=by kernel_rfl
@[go_sem] theorem acJ:ba Tryz.prog 83=some (false,1):=by kernel_rfl
@[go_sem] theorem acI:ba Tryz.prog 85=some (false,1):=by kernel_rfl
@[go_sem] theorem aa1:bd Tryz.prog 85=some (.pointer none):=by kernel_rfl
@[go_sem] theorem acH:ba Tryz.prog 89=some (true,63):=by kernel_rfl
@[go_sem] theorem abH:fS Tryz.prog 89=some [(0,63)]:=by kernel_rfl
@[go_sem] theorem aa0:bd Tryz.prog 89=some (.agg #[(.int .i64 0),(.slice none 0 0),(.slice none 0 0),(.slice none 0 0),(.slice none 0 0),(.slice none 0 0),(.slice none 0 0),(.slice none 0 0),(.int .i64 0),(.int .i64 0),(.int .i64 0),(.int .i64 0),(.int .i64 0),(.int .i64 0),(.int .i64 0),(.int .i64 0),(.int .i64 0),(.int .i64 0),(.int .i64 0),(.int .i64 0),(.int .i64 0),(.slice none 0 0),(.slice none 0 0),(.slice none 0 0),(.slice none 0 0),(.slice none 0 0),(.slice none 0 0),(.slice none 0 0),(.int .i64 0),(.int .i64 0),(.int .i64 0),(.int .i64 0),(.int .i64 0),(.int .i64 0),(.int .i64 0),(.int .i64 0),(.int .i64 0),(.int .i64 0),(.int .i64 0),(.int .i64 0),(.int .i64 0),(.int .i64 0),(.slice none 0 0),(.slice none 0 0),(.slice none 0 0),(.slice none 0 0),(.slice none 0 0),(.slice none 0 0),(.slice none 0 0),(.int .i64 0),(.int .i64 0),(.int .i64 0),(.int .i64 0),(.int .i64 0),(.int .i64 0),(.int .i64 0),(.int .i64 0),(.int .i64 0),(.int .i64 0),(.int .i64 0),(.int .i64 0),(.int .i64 0),(.int .i64 0)]):=by kernel_rfl
@[go_sem] theorem ab7:cP Tryz.prog 89 0=some (0,63,true):=by kernel_rfl
@[go_sem] theorem acG:ba Tryz.prog 91=some (true,2):=by kernel_rfl
@[go_sem] theorem abG:fS Tryz.prog 91=some [(0,1),(1,1)]:=by kernel_rfl
@[go_sem] theorem OP:bd Tryz.prog 91=some (.agg #[(.int .i64 0),(.int .i64 0)]):=by kernel_rfl
@[go_sem] theorem ab6:cP Tryz.prog 91 0=some (0,1,false):=by kernel_rfl
@[go_sem] theorem ab5:cP Tryz.prog 91 1=some (1,1,false):=by kernel_rfl
@[go_sem] theorem acF:ba Tryz.prog 93=some (false,1):=by kernel_rfl
@[go_sem] theorem aaZ:bd Tryz.prog 93=some (.pointer none):=by kernel_rfl
@[go_sem] theorem acE:ba Tryz.prog 95=some (false,1):=by kernel_rfl
@[go_sem] theorem aaY:bd Tryz.prog 95=some (.pointer none):=by kernel_rfl
@[go_sem] theorem acD:ba Tryz.prog 99=some (false,1):=by kernel_rfl
@[go_sem] theorem aaX:bd Tryz.prog 99=some .nilFunc:=by kernel_rfl
@[go_sem] theorem adk:ba Tryz.prog 100=some (false,1):=by kernel_rfl
@[go_sem] theorem abr:bd Tryz.prog 100=some .nilFunc:=by kernel_rfl
@[go_sem] theorem adj:ba Tryz.prog 102=some (false,1):=by kernel_rfl
@[go_sem] theorem abq:bd Tryz.prog 102=some (.pointer none):=by kernel_rfl
@[go_sem] theorem adi:ba Tryz.prog 103=some (false,1):=by kernel_rfl
@[go_sem] theorem adh:ba Tryz.prog 105=some (false,1):=by kernel_rfl
@[go_sem] theorem acC:bF Tryz.prog 105=some (68,2,16):=by kernel_rfl
@[go_sem] theorem ab2:dr Tryz.prog 105=some 0:=by kernel_rfl
@[go_sem] theorem abp:bd Tryz.prog 105=some (.slice none 0 0):=by kernel_rfl
@[go_sem] theorem adg:ba Tryz.prog 106=some (false,1):=by kernel_rfl
@[go_sem] theorem adf:ba Tryz.prog 113=some (true,5):=by kernel_rfl
@[go_sem] theorem abV:fS Tryz.prog 113=some [(0,1),(1,1),(2,1),(3,1),(4,1)]:=by kernel_rfl
@[go_sem] theorem abo:bd Tryz.prog 113=some (.agg #[(.int .i64 0),(.int .i64 0),(.int .i64 0),(.int .i64 0),(.int .i64 0)]):=by kernel_rfl
@[go_sem] theorem acx:cP Tryz.prog 113 0=some (0,1,false):=by kernel_rfl
@[go_sem] theorem acw:cP Tryz.prog 113 1=some (1,1,false):=by kernel_rfl
@[go_sem] theorem acv:cP Tryz.prog 113 2=some (2,1,false):=by kernel_rfl
@[go_sem] theorem acu:cP Tryz.prog 113 3=some (3,1,false):=by kernel_rfl
@[go_sem] theorem acs:cP Tryz.prog 113 4=some (4,1,false):=by kernel_rfl
@[go_sem] theorem ade:ba Tryz.prog 114=some (false,1):=by kernel_rfl
@[go_sem] theorem abn:bd Tryz.prog 114=some .nilFunc:=by kernel_rfl
@[go_sem] theorem adb:ba Tryz.prog 134=some (false,1):=by kernel_rfl
@[go_sem] theorem ab4:ly Tryz.prog 134=some .u64:=by kernel_rfl
@[go_sem] theorem abm:bd Tryz.prog 134=some (.int .u64 0):=by kernel_rfl
@[go_sem] theorem ada:ba Tryz.prog 136=some (false,1):=by kernel_rfl
@[go_sem] theorem acB:bF Tryz.prog 136=some (5,1,1):=by kernel_rfl
@[go_sem] theorem ab1:dr Tryz.prog 136=some 0:=by kernel_rfl
@[go_sem] theorem abl:bd Tryz.prog 136=some (.slice none 0 0):=by kernel_rfl
@[go_sem] theorem ac':ba Tryz.prog 158=some (true,2):=by kernel_rfl
@[go_sem] theorem abU:fS Tryz.prog 158=some [(0,1),(1,1)]:=by kernel_rfl
@[go_sem] theorem abk:bd Tryz.prog 158=some (.agg #[(.pointer none),(.slice none 0 0)]):=by kernel_rfl
@[go_sem] theorem acr:cP Tryz.prog 158 0=some (0,1,false):=by kernel_rfl
@[go_sem] theorem acq:cP Tryz.prog 158 1=some (1,1,false):=by kernel_rfl
@[go_sem] theorem ac9:ba Tryz.prog 161=some (false,1):=by kernel_rfl
@[go_sem] theorem aby:kE Tryz.prog 134 3=0:=by kernel_rfl
@[go_sem] theorem abx:kE Tryz.prog 136 9=2:=by kernel_rfl
@[go_sem] theorem abw:kE Tryz.prog 3 134=0:=by kernel_rfl
@[go_sem] theorem abv:kE Tryz.prog 3 5=0:=by kernel_rfl
@[go_sem] theorem abu:kE Tryz.prog 5 3=0:=by kernel_rfl
@[go_sem] theorem abt:kE Tryz.prog 9 136=1:=by kernel_rfl
theorem aU:Tryz.prog.follows .mixedOrders=true:=by kernel_rfl
def cS(obj:Name->Option O):List Name->List O->Prop
 |[],[]=>True
 |x::xs,o::os=>obj x=some o/\cS obj xs os
 |_,_=>False
theorem Sf{obj:Name->Option O}:∀ {Ls:List Name} {F:List O},cS obj Ls F->Ls.length=F.length
 |[],[],_=>rfl
 |_::_,_::_,h=>by simp only[List.length_cons,Sf h.2]
 |[],_::_,h=>h.elim
 |_::_,[],h=>h.elim
theorem iQ{obj:Name->Option O}:∀ {Ls:List Name} {F:List O},cS obj Ls F↔Ls.map obj=F.map some
 |[],[]=>by simp[cS]
 |x::xs,o::os=>by simp only[cS,List.map_cons,List.cons.injEq,iQ]
 |[],_::_=>by simp[cS]
 |_::_,[]=>by simp[cS]
theorem HI{obj obj2:Name->Option O}{Ls:List Name}{F:List O}(h:cS obj Ls F)(ha:∀ x∈Ls,obj2 x=obj x):cS obj2 Ls F:=by
 rw[iQ]at h |-
 rw[<-h]
 exact List.map_congr_left ha
theorem xK{obj:Name->Option O}:∀ {Ls:List Name} {F:List O},cS obj Ls F->∀ i (h:i<Ls.length) (h':i<F.length),obj Ls[i]=some F[i]
 |_::_,_::_,h,0,_,_=>h.1
 |_::_,_::_,h,i+1,h1,h2=>by
  simp only[List.getElem_cons_succ]
  exact xK h.2 i (by simpa using h1) (by simpa using h2)
def sk(K:Exit->S->Prop)(σ:S):Option Code->Prop
 |none=>K .normal σ
 |some .ret=>K .ret σ
 |some (.exit id)=>K (.exit id) σ
 |_=>False
theorem H4{K:Exit->S->Prop}{obj:Name->Option O}{nm:Name}{σ:S}{env:List E}{ps:List Nat}{a b:Code}(pd:Option Code)(h:obj nm=some (.loop env ps a b (if pd.isNone then .ready else .done) pd))
 (hK:sk K σ pd):mJ K obj nm σ:=by
 unfold mJ
 rw[h]
 rcases pd with _ | c
 ·exact hK
 ·cases c<;>first | exact hK.elim | exact hK
def LR(m:Nat):List Name:=(List.range m).map fun i=>[i,1]
def LI(m:Nat):List Name:=(List.range m).map fun i=>[i+1,1]
theorem tV(m:Nat):(LR m).length=m:=by simp[LR]
theorem db(m:Nat):(LI m).length=m:=by simp[LI]
theorem afD(m:Nat):(LR m).Nodup:=by
 unfold LR
 exact List.Pairwise.map _ (fun a b h=>by simpa using h) List.nodup_range
theorem EK{Ls:List Name}(hn:Ls.Nodup):Ls.map (cin Ls)=LR Ls.length:=by
 refine List.ext_getElem (by simp[LR]) fun i h1 h2=>?_
 simp only[List.getElem_map,LR,List.getElem_range,cin]
 rw[Ce hn (by simpa using h1)]
theorem wq{R:Name}{Ls:List Name}(hn:Ls.Nodup)(hR:R∉Ls):Ls.map (cin (R::Ls))=LI Ls.length:=by
 refine List.ext_getElem (by simp[LI]) fun i h1 h2=>?_
 simp only[List.getElem_map,LI,List.getElem_range,cin]
 have h3:i<Ls.length:=by simpa using h1
 have h4:=Ce (L:=R::Ls) (List.nodup_cons.2 ⟨hR,hn⟩) (i:=i+1) (by simp;omega)
 simp only[List.getElem_cons_succ]at h4
 rw[h4]
theorem YN(Ls:List Name)(t:Name):(LR Ls.length).map (cout Ls t)=Ls:=by
 refine List.ext_getElem (by simp[LR]) fun i h1 h2=>?_
 simp only[List.getElem_map,LR,List.getElem_range,cout]
 exact jP h2
theorem zx(R:Name)(Ls:List Name)(t:Name):(LI Ls.length).map (cout (R::Ls) t)=Ls:=by
 refine List.ext_getElem (by simp[LI]) fun i h1 h2=>?_
 simp only[List.getElem_map,LI,List.getElem_range,cout]
 rw[jP (by simpa using h2)]
 simp
def cg:List Name->List O->(Name->Option O)->(Name->Option O)
 |x::xs,o::os,obj=>cg xs os (upd obj x (some o))
 |_,_,obj=>obj
theorem oK:∀ {Ls:List Name} {F:List O} {obj:Name->Option O} {x:Name},x∉Ls->cg Ls F obj x=obj x
 |[],_,_,_,_=>by simp[cg]
 |_::_,[],_,_,_=>by simp[cg]
 |y::ys,o::os,obj,x,h=>by
  simp only[List.mem_cons,not_or]at h
  simp only[cg]
  rw[oK h.2,aI _ _ _ h.1]
theorem AQ:∀ {Ls:List Name} {F:List O} {obj:Name->Option O},Ls.Nodup->Ls.length=F.length->cS (cg Ls F obj) Ls F
 |[],[],_,_,_=>trivial
 |[],_::_,_,_,h=>by simp at h
 |_::_,[],_,_,h=>by simp at h
 |y::ys,o::os,obj,hn,h=>by
  rw[List.nodup_cons]at hn
  refine⟨?_,AQ (obj:=upd obj y (some o)) hn.2 (by simpa using h)⟩
  simp only[cg]
  rw[oK hn.1,aD]
def dW:Nat->List O->List (Nat×O)
 |_,[]=>[]
 |k,o::r=>(k,o)::dW (k+1) r
theorem xv{t:Name}{L:List Name}:∀ {Ls:List Name} {k:Nat} {F:List O} {obj:Name->Option O},Ls.length=F.length->(∀ i (h:i<Ls.length),L.getD (k+i) []=Ls[i])->
 bW L t (dW k F) obj=cg Ls (F.map (O.ren (cout L t))) obj
 |[],k,[],obj,_,_=>rfl
 |[],k,_::_,obj,h,_=>by simp at h
 |_::_,k,[],obj,h,_=>by simp at h
 |x::xs,k,o::os,obj,h,hL=>by
  simp only[dW,bW,List.map_cons,cg]
  have h0:=hL 0 (by simp)
  simp only[Nat.add_zero,List.getElem_cons_zero]at h0
  rw[h0]
  exact xv (by simpa using h) fun i hi=>by
   have :=hL (i+1) (by simpa using hi)
   rw[show k+1+i=k+(i+1)by omega]
   simpa using this
theorem BQ:∀ {F:List O} {k i:Nat} {o:O},i<k->eg (dW k F) i o=o
 |[],k,i,o,_=>rfl
 |f::r,k,i,o,h=>by
  simp only[dW,eg]
  rw[if_neg (by omega)]
  exact BQ (by omega)
theorem Bs{σ:S}:∀ {F os:List O} {k:Nat} {u:List (Nat×O)},F.length=os.length->(∀ i,k<=i->∀ o,eg u i o=eg (dW k F) i o)->
 (∀ i (h:i<F.length),σ.obj [k+i,1]=some F[i])->qo σ u k os
 |[],[],_,_,_,_,_=>trivial
 |[],_::_,_,_,h,_,_=>by simp at h
 |_::_,[],_,_,h,_,_=>by simp at h
 |f::fs,o::os,k,u,h,hu,hs=>by
  refine⟨?_,Bs (F:=fs) (by simpa using h) (fun i hi x=>?_) fun i hi=>?_⟩
  ·have h0:=hs 0 (by simp)
   simp only[Nat.add_zero,List.getElem_cons_zero]at h0
   rw[h0,hu k (Nat.le_refl _) o]
   simp only[dW,eg,if_true]
   rw[BQ (by omega)]
  ·rw[hu i (by omega) x]
   simp only[dW,eg]
   rw[if_neg (by omega)]
  ·have:=hs (i+1) (by simpa using hi)
   rw[show k+1+i=k+(i+1)by omega]
   simpa using this
structure Lp where
 m:Nat
 env:List Name->List E
 fam:List Name->Nat->List O
 ps:List Nat
 asg:Code
 body:Code
 n:Nat
 vals:Nat->List D
 st:Nat->Option Code
 fu:Nat
structure Lp.Ok (r:Lp):Prop where
 len:∀ Ls s,Ls.length=r.m->(r.fam Ls s).length=r.m
 renE:∀ f Ls,Ls.length=r.m->(r.env Ls).map (E.ren f)=r.env (Ls.map f)
 renF:∀ f Ls s,Ls.length=r.m->(r.fam Ls s).map (O.ren f)=r.fam (Ls.map f) s
 reach:∀ Ls s obj acc k,Ls.length=r.m->Ls.Nodup->(∀ x∈Ls,x∉acc)->cS obj Ls (r.fam Ls s)->dm obj (k+r.fu) (cE ((r.env Ls).map (·.d))) acc=acc++Ls
 closE:∀ dom Ls,Ls.length=r.m->(∀ x∈Ls,dom x=true)->D.closL dom ((r.env Ls).map (·.d))=true
 closF:∀ dom Ls s,Ls.length=r.m->(∀ x∈Ls,dom x=true)->∀ o∈r.fam Ls s,O.clos dom o=true
 psz:∀ Ls,Ls.length=r.m->(r.ps.all fun p=>decide (p<(r.env Ls).length))=true
 args:∀ s,(r.vals s).length=r.ps.length
 fuel:r.fu<=2000
 vnam:∀ s,cE (r.vals s)=[]
 vcl:∀ s dom,D.closL dom (r.vals s)=true
 vren:∀ s f,D.renL f (r.vals s)=r.vals s
 inj:∀ s s',s<r.n->s'<r.n->r.vals s=r.vals s'->s=s'
theorem Si(a:List D):∀ vs:List V,cE (a++vs.map D.v)=cE a:=by
 intro vs
 have h0:∀ vs:List V,cE (vs.map D.v)=[]:=by
  intro vs
  induction vs with
  |nil=>rfl
  |cons x r ih=>simp only[List.map_cons,cE,qt,List.nil_append,ih]
 induction a with
 |nil=>simpa[cE]using h0 vs
 |cons x r ih=>simp only[List.cons_append,cE,ih]
theorem Ml(dom:Name->Bool)(vs:List V):∀ a:List D,D.closL dom (a++vs.map D.v)=D.closL dom a:=by
 have h0:∀ vs:List V,D.closL dom (vs.map D.v)=true:=by
  intro vs
  induction vs with
  |nil=>rfl
  |cons x r ih=>simp only[List.map_cons,D.closL,D.clos,ih,Bool.and_self]
 intro a
 induction a with
 |nil=>simpa[D.closL]using h0 vs
 |cons x r ih=>simp only[List.cons_append,D.closL,ih]
theorem RA(f:Name->Name)(vs:List V):D.renL f (vs.map D.v)=vs.map D.v:=by
 induction vs with
 |nil=>rfl
 |cons x r ih=>simp only[List.map_cons,D.renL,D.ren,ih]
theorem aaW{a b:List V}(h:a.map D.v=b.map D.v):a=b:=by
 have :Function.Injective D.v:=fun x y h=>by injection h
 exact(List.map_inj_right this).1 h
theorem Sj(a b:List D):cE (a++b)=cE a++cE b:=by
 induction a with
 |nil=>rfl
 |cons x r ih=>simp only[List.cons_append,cE,ih,List.append_assoc]
theorem Ms(dom:Name->Bool)(a b:List D):D.closL dom (a++b)=(D.closL dom a&&D.closL dom b):=by
 induction a with
 |nil=>simp[D.closL]
 |cons x r ih=>simp only[List.cons_append,D.closL,ih,Bool.and_assoc]
noncomputable def Lp.y(r:Lp):YSpec where
 pre:=fun env ps asg body os ds=>∃ s,s<r.n/\(∀ j,j<s->r.st j=none)/\env=r.env (LR r.m)/\ps=r.ps/\asg=r.asg/\body=r.body/\os=r.fam (LR r.m) s/\ds=r.vals s
 out:=fun _ _ _ _ _ ds=>by
  classical exact if h:∃ s,s<r.n/\ds=r.vals s then(⟨dW 0 (r.fam (LR r.m) (h.choose+1)),[],.v (.bool true)⟩,r.st h.choose)else(⟨[],[],.any⟩,none)
theorem Lp.y_out{r:Lp}(hr:r.Ok){s:Nat}(hs:s<r.n)(env:List E)(ps:List Nat)(asg body:Code)(os:List O):
 r.y.out env ps asg body os (r.vals s)=(⟨dW 0 (r.fam (LR r.m) (s+1)),[],.v (.bool true)⟩,r.st s):=by
 have h:∃ s',s'<r.n/\r.vals s=r.vals s':=⟨s,hs,rfl⟩
 have e:h.choose=s:=(hr.inj _ _ hs h.choose_spec.1 h.choose_spec.2).symm
 simp only[Lp.y]
 rw[dif_pos h,e]
def Rw(m:Nat)(F:List O)(p:Option Code):Exit->S->Prop
 | .normal,σ=>p=none/\cS σ.obj (LR m) F
 | .ret,σ=>p=some .ret/\cS σ.obj (LR m) F
 | .exit id,σ=>p=some (.exit id)/\cS σ.obj (LR m) F
 |_,_=>False
theorem Ye{os F:List O}{σ:S}{m:Nat}(h1:os.length=m)(h2:F.length=m)(hc:∀ dom:Name->Bool,(∀ x∈LR m,dom x=true)->∀ o∈F,O.clos dom o=true)(h:cS σ.obj (LR m) F):
 fL os ⟨dW 0 F,[],.v (.bool true)⟩ σ:=by
 have eX:∀ i (hi:i<F.length),σ.obj [i,1]=some F[i]:=by
  rw[iQ]at h
  intro i hi
  have h3:=congrArg (fun l=>l[i]?) h
  have bj:i<m:=by omega
  simpa[LR,hi,bj]using h3
 refine⟨Bs (F:=F) (by omega) (fun i _ o=>rfl) fun i hi=>by rw[Nat.zero_add];exact eX i hi,trivial,?_⟩
 have py:∀ x∈LR m,dh os.length [] x=true:=by
  intro x hx
  obtain⟨i,hi,rfl⟩:=List.mem_map.1 hx
  have :=List.mem_range.1 hi
  simp[dh]
  omega
 have dM:∀ (F':List O) (k:Nat),(∀ o∈F',O.clos (dh os.length []) o=true)->k+F'.length<=os.length->((dW k F').all fun x=>O.clos (dh os.length []) x.2&&decide (x.1<os.length))=true:=by
  intro F'
  induction F' with
  |nil=>intros;rfl
  |cons f fs ih=>
   intro k hf hk
   simp only[List.length_cons]at hk
   simp only[dW,List.all_cons,Bool.and_eq_true,decide_eq_true_eq]
   exact⟨⟨hf f (by simp),by omega⟩,by have:=ih (k+1) (fun o ho=>hf o (by simp[ho])) (by omega);simpa using this⟩
 have :=dM F 0 (hc _ py) (by omega)
 simp only[D.clos,this,List.all_nil,List.map_nil,distinct,Bool.and_self]
theorem Lp.y_sound{P:Program}{r:Lp}(hr:r.Ok)(h:∀ s,s<r.n->(∀ j,j<s->r.st j=none)->
 CW P r.asg ⟨(r.env (LR r.m)).length,setP (rE (r.env (LR r.m))) r.ps (r.vals s),aT (r.fam (LR r.m) s),[0],0⟩ (Hp fun σ1=>CW P r.body σ1 (Rw r.m (r.fam (LR r.m) (s+1)) (r.st s)))):ak P yid r.y.toSpec:=by
 refine Fp ?_
 rintro env ps asg body os ds ⟨s,hs,hj,rfl,rfl,rfl,rfl,rfl,rfl⟩ _
 rw[Lp.y_out hr hs]
 refine CW.mono (h s hs hj) fun e σ hk=>?_
 cases e with
 |normal=>
  refine CW.mono hk fun e σ hk=>?_
  have fin:cS σ.obj (LR r.m) (r.fam (LR r.m) (s+1))->fL (r.fam (LR r.m) s) ⟨dW 0 (r.fam (LR r.m) (s+1)),[],.v (.bool true)⟩ σ:=
   Ye (hr.len _ _ (tV _)) (hr.len _ _ (tV _)) fun dom hd=>hr.closF dom _ _ (tV _) hd
  cases e with
  |normal=>exact⟨hk.1,fin hk.2⟩
  |ret=>exact⟨hk.1,fin hk.2⟩
  |exit id=>exact⟨hk.1,fin hk.2⟩
  |goto l=>exact hk.elim
  |panic c=>exact hk.elim
  |outgrown=>exact hk.elim
 |ret=>exact hk.elim
 |exit id=>exact hk.elim
 |goto l=>exact hk.elim
 |panic c=>exact hk.elim
 |outgrown=>exact hk.elim
def Lp.rc(r:Lp)(Ls:List Name)(st:LoopState)(pd:Option Code):O:=.loop (r.env Ls) r.ps r.asg r.body st pd
theorem Lp.y_app{r:Lp}(hr:r.Ok){s:Nat}(hs:s<r.n)(hj:∀ j,j<s->r.st j=none){obj:Name->Option O}{t R:Name}{Ls:List Name}(hl:Ls.length=r.m)(hn:Ls.Nodup)(hR:R∉Ls)
 (h0:obj R=some (r.rc Ls .ready none)) (hF:cS obj Ls (r.fam Ls s)):
 r.y.toSpec.app obj t (.yld R::r.vals s)=⟨True,.v (.bool (r.st s).isNone),upd (cg Ls (r.fam Ls (s+1)) obj) R (some (r.rc Ls (if (r.st s).isNone then .ready else .done) (r.st s)))⟩:=by
 have iY:reach obj (roots (r.env Ls) (r.vals s))=Ls:=by
  unfold reach roots
  rw[Sj,hr.vnam,List.append_nil]
  have :=hr.reach Ls s obj [] (3000-r.fu) hl hn (fun _ _=>by simp) hF
  rwa [show 3000-r.fu+r.fu=3000 by have:=hr.fuel;omega]at this
 have e1:b8 obj (roots (r.env Ls) (r.vals s))=r.fam (LR r.m) s:=by
  unfold b8
  rw[iY]
  have :Ls.map (bV Ls obj)=(r.fam Ls s).map (O.ren (cin Ls)):=by
   rw[iQ]at hF
   refine List.ext_getElem (by simp[hr.len _ _ hl,hl]) fun i h1 h2=>?_
   have h3:i<Ls.length:=by simpa using h1
   have h4:i<(r.fam Ls s).length:=by rw[hr.len _ _ hl,<-hl];exact h3
   have h5:=congrArg (fun l=>l[i]?) hF
   have h6:obj Ls[i]=some (r.fam Ls s)[i]:=by simpa[h3,h4]using h5
   simp only[List.getElem_map,bV,h6]
  rw[this,hr.renF _ _ _ hl,EK hn,hl]
 have e2:gI obj (r.env Ls) (r.vals s)=r.env (LR r.m):=by
  unfold gI
  rw[iY,hr.renE _ _ hl,EK hn,hl]
 have e3:iG obj (r.env Ls) (r.vals s)=r.vals s:=by
  unfold iG
  exact hr.vren s _
 have e4:r.y.o obj (r.env Ls) r.ps r.asg r.body (r.vals s)=(⟨dW 0 (r.fam (LR r.m) (s+1)),[],.v (.bool true)⟩,r.st s):=by
  unfold YSpec.o
  rw[e1,e2,e3,Lp.y_out hr hs]
 have cz:r.y.pre (r.env (LR r.m)) r.ps r.asg r.body (r.fam (LR r.m) s) (r.vals s):=⟨s,hs,hj,rfl,rfl,rfl,rfl,rfl,rfl⟩
 have bH:D.closL (bX Ls) (roots (r.env Ls) (r.vals s))=true:=by
  unfold roots
  rw[Ms,hr.vcl,Bool.and_true]
  exact hr.closE _ _ hl fun x hx=>fW.2 hx
 have fb:shut obj Ls=true:=by
  unfold shut
  rw[List.all_eq_true]
  intro x hx
  obtain⟨i,hi,rfl⟩:=List.getElem_of_mem hx
  rw[iQ]at hF
  have h4:i<(r.fam Ls s).length:=by rw[hr.len _ _ hl,<-hl];exact hi
  have h5:=congrArg (fun l=>l[i]?) hF
  have h6:obj Ls[i]=some (r.fam Ls s)[i]:=by simpa[hi,h4]using h5
  rw[h6]
  exact hr.closF _ _ _ hl (fun x hx=>fW.2 hx) _ (List.getElem_mem h4)
 have Wc:bX Ls R=false:=by
  cases h:bX Ls R with
  |false=>rfl
  |true=>exact(hR (fW.1 h)).elim
 have hp:bW Ls t (dW 0 (r.fam (LR r.m) (s+1))) obj=cg Ls (r.fam Ls (s+1)) obj:=by
  rw[xv (Ls:=Ls) (by rw[hr.len _ _ (tV _),hl]) fun i hi=>by rw[Nat.zero_add];exact jP hi,hr.renF _ _ _ (tV _)]
  have :(LR r.m).map (cout Ls t)=Ls:=by rw[<-hl];exact YN Ls t
  rw[this]
 unfold Lp.rc at h0
 simp only[YSpec.toSpec,h0,e1,e2,e3,e4,iY,bH,fb,Wc,fresh,List.all_nil,Bool.and_self,Bool.not_false,hr.args,decide_true,hr.psz Ls hl,cz,cX,hp,and_self]
 rfl
def Lp.e(r:Lp):Nat:=match (List.range r.n).find? (fun s=>(r.st s).isSome)with | some s=>s+1 | none=>r.n
def Lp.pd(r:Lp):Option Code:=match (List.range r.n).find? (fun s=>(r.st s).isSome)with | some s=>r.st s | none=>none
def Lp.fin(r:Lp)(Ls:List Name):O:=r.rc Ls (if r.pd.isNone then .ready else .done) r.pd
def Lp.it(r:Lp)(caps:List V):CSpec where
 pre:=fun os ds=>os=r.rc (LI r.m) .ready none::r.fam (LI r.m) 0/\ds=.yld [0,1]::caps.map .v
 out:=fun _ _=>⟨(0,r.fin (LI r.m))::dW 1 (r.fam (LI r.m) r.e),[],.tup []⟩
theorem Lp.it_app{r:Lp}(hr:r.Ok){caps:List V}{obj:Name->Option O}{t R:Name}{Ls:List Name}(hl:Ls.length=r.m)(hn:Ls.Nodup)(hR:R∉Ls)
 (h0:obj R=some (r.rc Ls .ready none)) (hF:cS obj Ls (r.fam Ls 0)):
 (r.it caps).toSpec.app obj t (.yld R::caps.map .v)=⟨True,.tup [],cg Ls (r.fam Ls r.e) (upd obj R (some (r.fin Ls)))⟩:=by
 have vp:(R::Ls).Nodup:=List.nodup_cons.2 ⟨hR,hn⟩
 have iY:reach obj (.yld R::caps.map .v)=R::Ls:=by
  have h1:cE (.yld R::caps.map .v)=[R]:=by
   have :=Si [.yld R] caps
   simpa[cE,qt]using this
  unfold reach
  rw[h1]
  show dm obj (2999+1) [R] []=R::Ls
  unfold Lp.rc at h0
  simp only[dm,bX,List.any_nil,Bool.false_eq_true,if_false,h0,lH,List.append_nil,List.nil_append]
  have :=hr.reach Ls 0 obj [R] (2999-r.fu) hl hn (fun x hx=>by simp only[List.mem_singleton];rintro rfl;exact hR hx) hF
  rw[show 2999-r.fu+r.fu=2999 by have:=hr.fuel;omega]at this
  simpa using this
 have Dt:∀ s,cS obj Ls (r.fam Ls s)->Ls.map (bV (R::Ls) obj)=(r.fam Ls s).map (O.ren (cin (R::Ls))):=by
  intro s hF
  rw[iQ]at hF
  refine List.ext_getElem (by simp[hr.len _ _ hl,hl]) fun i h1 h2=>?_
  have h3:i<Ls.length:=by simpa using h1
  have h4:i<(r.fam Ls s).length:=by rw[hr.len _ _ hl,<-hl];exact h3
  have h5:=congrArg (fun l=>l[i]?) hF
  have h6:obj Ls[i]=some (r.fam Ls s)[i]:=by simpa[h3,h4]using h5
  simp only[List.getElem_map,bV,h6]
 have e1:b8 obj (.yld R::caps.map .v)=r.rc (LI r.m) .ready none::r.fam (LI r.m) 0:=by
  unfold b8
  rw[iY,List.map_cons,Dt 0 hF,hr.renF _ _ _ hl,wq hn hR,hl]
  congr 1
  unfold Lp.rc at h0 |-
  simp only[bV,h0,O.ren]
  rw[hr.renE _ _ hl,wq hn hR,hl]
 have e2:cC obj (.yld R::caps.map .v)=.yld [0,1]::caps.map .v:=by
  unfold cC
  rw[iY]
  simp only[D.renL,D.ren,RA,cin,idx,if_true]
 have cz:(r.it caps).pre (r.rc (LI r.m) .ready none::r.fam (LI r.m) 0) (.yld [0,1]::caps.map .v):=⟨rfl,rfl⟩
 have eV:∀ os ds,(r.it caps).out os ds=⟨(0,r.fin (LI r.m))::dW 1 (r.fam (LI r.m) r.e),[],.tup []⟩:=fun _ _=>rfl
 have sV:∀ x∈Ls,bX (R::Ls) x=true:=fun x hx=>fW.2 (List.mem_cons_of_mem _ hx)
 have fb:shut obj (R::Ls)=true:=by
  unfold shut
  rw[List.all_eq_true]
  intro x hx
  rcases List.mem_cons.1 hx with rfl | hx
  ·rw[h0]
   unfold Lp.rc
   exact hr.closE _ _ hl sV
  obtain⟨i,hi,rfl⟩:=List.getElem_of_mem hx
  rw[iQ]at hF
  have h4:i<(r.fam Ls 0).length:=by rw[hr.len _ _ hl,<-hl];exact hi
  have h5:=congrArg (fun l=>l[i]?) hF
  have h6:obj Ls[i]=some (r.fam Ls 0)[i]:=by simpa[hi,h4]using h5
  rw[h6]
  exact hr.closF _ _ _ hl sV _ (List.getElem_mem h4)
 have bH:D.closL (bX (R::Ls)) (.yld R::caps.map .v)=true:=by
  have :=Ml (bX (R::Ls)) caps [.yld R]
  simp only[List.singleton_append]at this
  rw[this]
  simp[D.closL,D.clos,bX]
 have hp:∀ obj',bW (R::Ls) t (dW 1 (r.fam (LI r.m) r.e)) obj'=cg Ls (r.fam Ls r.e) obj':=by
  intro obj'
  rw[xv (Ls:=Ls) (by rw[hr.len _ _ (db _),hl]) fun i hi=>by
   rw[Nat.add_comm,List.getD_cons_succ];exact jP hi,hr.renF _ _ _ (db _)]
  have :(LI r.m).map (cout (R::Ls) t)=Ls:=by rw[<-hl];exact zx R Ls t
  rw[this]
 have hf:O.ren (cout (R::Ls) t) (r.fin (LI r.m))=r.fin Ls:=by
  unfold Lp.fin Lp.rc
  simp only[O.ren]
  rw[hr.renE _ _ (db _)]
  have :(LI r.m).map (cout (R::Ls) t)=Ls:=by rw[<-hl];exact zx R Ls t
  rw[this]
 simp only[CSpec.toSpec,e1,e2,iY,eV,fb,bH,fresh,List.all_nil,Bool.and_self,cz,and_self,cX,bW,List.getD_cons_zero,hf,hp,D.ren,D.renL]
theorem Lp.it_end{P:Program}{r:Lp}(hr:r.Ok){σ:S}(h0:σ.obj [0,1]=some (r.fin (LI r.m)))(h1:cS σ.obj (LI r.m) (r.fam (LI r.m) r.e)):
 (bP P σ []).ok/\(bP P σ []).d=.tup []/\fL (r.rc (LI r.m) .ready none::r.fam (LI r.m) 0) ⟨(0,r.fin (LI r.m))::dW 1 (r.fam (LI r.m) r.e),[],.tup []⟩ σ:=by
 have Wm:=hr.len (LI r.m) 0 (db _)
 have hle:=hr.len (LI r.m) r.e (db _)
 have eX:∀ i (hi:i<(r.fam (LI r.m) r.e).length),σ.obj [1+i,1]=some (r.fam (LI r.m) r.e)[i]:=by
  intro i hi
  have h3:=xK h1 i (by rw[db];omega) hi
  rw[Nat.add_comm]
  simpa only[LI,List.getElem_map,List.getElem_range]using h3
 have py:∀ x∈LI r.m,dh (r.m+1) [] x=true:=by
  intro x hx
  obtain⟨i,hi,rfl⟩:=List.mem_map.1 hx
  have :=List.mem_range.1 hi
  simp[dh]
  omega
 refine⟨fun x hx=>by simp at hx,rfl,⟨⟨?_,Bs (F:=r.fam (LI r.m) r.e) (by omega) (fun i hi o=>by simp only[eg];rw[if_neg (by omega)]) eX⟩,trivial,?_⟩⟩
 ·simp only[eg,if_true]
  rw[h0,BQ (by omega)]
 have dM:∀ (F':List O) (k:Nat),(∀ o∈F',O.clos (dh (r.m+1) []) o=true)->k+F'.length<=r.m+1->((dW k F').all fun x=>O.clos (dh (r.m+1) []) x.2&&decide (x.1<r.m+1))=true:=by
  intro F'
  induction F' with
  |nil=>intros;rfl
  |cons f fs ih=>
   intro k hf hk
   simp only[List.length_cons]at hk
   simp only[dW,List.all_cons,Bool.and_eq_true,decide_eq_true_eq]
   exact⟨⟨hf f (by simp),by omega⟩,by have:=ih (k+1) (fun o ho=>hf o (by simp[ho])) (by omega);simpa using this⟩
 have h5:=dM (r.fam (LI r.m) r.e) 1 (hr.closF _ _ _ (db _) py) (by omega)
 have h6:O.clos (dh (r.m+1) []) (r.fin (LI r.m))=true:=hr.closE _ _ (db _) py
 have hlen:(r.rc (LI r.m) .ready none::r.fam (LI r.m) 0).length=r.m+1:=by rw[List.length_cons,Wm]
 have h7:D.clos (dh (r.m+1) []) (.tup [])=true:=rfl
 simp only[hlen,h7,List.all_cons,h6,h5,List.all_nil,List.map_nil,distinct,Bool.and_self,Bool.true_and,Bool.and_true]
 simp
theorem ae1{P:Program}{Γ:FuncId->Option Spec}(hΓ:∀ f s,Γ f=some s->ak P f s){r:Lp}(hr:r.Ok){caps:List V}{g:Operand}{ps:Array Tmp}{asg body:Code}{σ:S}{rest:List Code}{K:Exit->S->Prop}(k k':Nat){f:FuncId}{Ls:List Name}
 (hc:ck σ g=true) (hg:ai σ g=.v (.clo (.func f) [] caps)) (aq:f≠yid) (hs:Γ f=some (r.it caps).toSpec) (lP:σ.obj (k::σ.pre)=none)
 (he:(List.range σ.nt).map σ.env=r.env Ls) (dU:ps.toList=r.ps) (ha:asg=r.asg) (hb:body=r.body) (hl:Ls.length=r.m) (hn:Ls.Nodup) (hR:(k::σ.pre)∉Ls) (hF:cS σ.obj Ls (r.fam Ls 0))
 (hK:∀ o:O,sk (fi (fun σ'=>CL P rest σ' K) K) { σ with obj:=upd (cg Ls (r.fam Ls r.e) σ.obj) (k::σ.pre) (some o) } r.pd):CL P (.rangeFunc g ps asg body::rest) σ K:=by
 subst ha
 subst hb
 generalize l3:k::σ.pre=R at *
 have Dz:∀ x∈Ls,(upd σ.obj R (some (r.rc Ls .ready none))) x=σ.obj x:=fun x hx=>aI _ _ _ (by rintro rfl;exact hR hx)
 have lY:=Lp.it_app hr (caps:=caps) (t:=k'::σ.pre) hl hn hR (aD σ.obj R (some (r.rc Ls .ready none))) (HI hF Dz)
 have vk:O.loop ((List.range σ.nt).map σ.env) ps.toList r.asg r.body .ready none=r.rc Ls .ready none:=by unfold Lp.rc;rw[he,dU]
 have jM:dN (ai σ g) [.yld R]=.yld R::caps.map .v:=by rw[hg];rfl
 have cA:eO (ai σ g)=some f:=by rw[hg];simp[eO,aq]
 have Cu:∀ (F:List O) (obj:Name->Option O) (a b:Option O),upd (cg Ls F (upd obj R a)) R b=upd (cg Ls F obj) R b:=by
  intro F obj a b
  funext x
  by_cases h:x=R
  ·subst h;rw[aD,aD]
  ·rw[aI _ _ _ h,aI _ _ _ h]
   have :∀ (Ls:List Name) (F:List O) (o1 o2:Name->Option O),o1 x=o2 x->cg Ls F o1 x=cg Ls F o2 x:=by
    intro Ls
    induction Ls with
    |nil=>intro F o1 o2 h;simpa[cg]using h
    |cons y ys ih=>
     intro F o1 o2 h
     cases F with
     |nil=>simpa[cg]using h
     |cons f fs=>
      simp only[cg]
      refine ih fs _ _ ?_
      by_cases e:x=y
      ·subst e;rw[aD,aD]
      ·rw[aI _ _ _ e,aI _ _ _ e,h]
   exact this Ls F _ _ (aI _ _ _ h)
 refine EI hΓ k k' hc cA aq hs (by rw[l3];exact lP) ?_ ?_
 ·rw[l3,jM,vk,lY];trivial
 ·rw[l3,jM,vk,lY]
  have jJ:cg Ls (r.fam Ls r.e) (upd (upd σ.obj R (some (r.rc Ls .ready none))) R (some (r.fin Ls))) R=some (r.fin Ls):=by rw[oK hR,aD]
  have gP:iL (cg Ls (r.fam Ls r.e) (upd (upd σ.obj R (some (r.rc Ls .ready none))) R (some (r.fin Ls)))) R=
      upd (cg Ls (r.fam Ls r.e) σ.obj) R (some (r.rc Ls .exhausted r.pd)):=by
   unfold iL
   rw[jJ]
   unfold Lp.fin Lp.rc
   simp only[Cu]
  refine H4 r.pd jJ ?_
  rw[gP]
  exact hK (r.rc Ls .exhausted r.pd)
theorem XZ:∀ (n:Nat) (obj:Name->Option O) (x:V),au n obj (.v x)=⟨True,x,obj⟩
 | 0,_,_=>rfl
 |_+1,_,_=>rfl
theorem K5(n:Nat)(obj:Name->Option O):∀ l:List V,(aK (au n) obj (l.map .v)).ok/\(aK (au n) obj (l.map .v)).xs=l/\(aK (au n) obj (l.map .v)).obj=obj
 |[]=>⟨trivial,rfl,rfl⟩
 |x::r=>by
  obtain⟨h1,h2,h3⟩:=K5 n obj r
  simp only[List.map_cons,aK,XZ]
  exact⟨⟨trivial,h1⟩,by rw[h2],h3⟩
@[go_sem] theorem pO(dom:Name->Bool)(l:List V):D.closL dom (l.map .v)=true:=by
  have :=Ml dom l []
  simpa[D.closL]using this
theorem E7:∀ l:List V,kS (l.map .v)=some l
 |[]=>rfl
 |x::r=>by
  simp only[List.map_cons,kS,pQ,E7 r]
attribute [go_sem] E7
theorem OG{σ:S}(nm:Name)(l:List V)(ho:σ.obj nm=some (.box (l.map .v))):cD σ { σ with obj:=upd σ.obj nm (some (.fbox l)) }:=by
 intro G φ m a w hC
 obtain⟨h1,h2,h3⟩:=K5 0 σ.obj l
 have e:au 1 σ.obj (.ref nm 0)=⟨(aK (au 0) σ.obj (l.map .v)).ok/\(aK (au 0) σ.obj (l.map .v)).obj nm=some (.box (l.map .v)),.ptr ((aK (au 0) σ.obj (l.map .v)).xs.drop 0),
     upd (aK (au 0) σ.obj (l.map .v)).obj nm (some (.fbox (aK (au 0) σ.obj (l.map .v)).xs))⟩:=by
  simp only[au,ho]
 obtain⟨m',k1,k2,_⟩:=l4 1 G φ m σ a w hC (.ref nm 0) _ (.ref nm 0 ⟨_,ho,rfl⟩) (by rw[e];exact⟨h1,by rw[h3];exact ho⟩)
 rw[e]at k2
 simp only[h2,h3]at k2
 exact⟨φ,m',k2⟩
theorem bo{σ τ:S}(nm:Name)(l:List V)(ho:σ.obj nm=some (.box (l.map .v)))(ks:List Nat)(ns:List Name)
 (h:eN ks ns ⟨σ.nt,σ.env,upd σ.obj nm (some (.fbox l)),σ.pre,σ.base⟩) (hk:eT ks ns ⟨σ.nt,σ.env,upd σ.obj nm (some (.fbox l)),σ.pre,σ.base⟩=τ):cD σ τ:=
 (OG nm l ho).trans (lr ks ns h hk)
structure bg (α:Type) where
 (a b c d e f:α)
 deriving Inhabited,DecidableEq
def bg.get{α:Type}(s:bg α):Nat->α
 | 0=>s.a
 | 1=>s.b
 | 2=>s.c
 | 3=>s.d
 | 4=>s.e
 |_=>s.f
def jw{α:Type}(g:Nat->α):bg α:=⟨g 0,g 1,g 2,g 3,g 4,g 5⟩
def bg.set{α:Type}(s:bg α)(i:Nat)(x:α):bg α:=jw fun j=>if j=i then x else s.get j
def bg.L{α β:Type}(s:bg α)(e:α->β):List β:=[e s.a,e s.b,e s.c,e s.d,e s.e,e s.f]
theorem adD{α:Type}(s:bg α):jw s.get=s:=rfl
theorem bg.L_len{α β:Type}(s:bg α)(e:α->β):(s.L e).length=6:=rfl
theorem bg.L_get{α β:Type}(s:bg α)(e:α->β)(z:β):∀ {i:Nat},i<6->(s.L e).getD i z=e (s.get i)
 | 0,_=>rfl
 | 1,_=>rfl
 | 2,_=>rfl
 | 3,_=>rfl
 | 4,_=>rfl
 | 5,_=>rfl
 |i+6,h=>absurd h (by omega)
theorem bg.get_set{α:Type}(s:bg α){i j:Nat}(x:α)(hi:i<6):(s.set i x).get i=x/\(j<6->j≠i->(s.set i x).get j=s.get j):=by
 constructor
 ·match i,hi with
  | 0,_=>rfl
  | 1,_=>rfl
  | 2,_=>rfl
  | 3,_=>rfl
  | 4,_=>rfl
  | 5,_=>rfl
 ·intro hj aq
  match j,hj with
  | 0,_=>show (if 0=i then _ else _)=_;rw[if_neg aq]
  | 1,_=>show (if 1=i then _ else _)=_;rw[if_neg aq]
  | 2,_=>show (if 2=i then _ else _)=_;rw[if_neg aq]
  | 3,_=>show (if 3=i then _ else _)=_;rw[if_neg aq]
  | 4,_=>show (if 4=i then _ else _)=_;rw[if_neg aq]
  | 5,_=>show (if 5=i then _ else _)=_;rw[if_neg aq]
theorem Po{α:Type}{s t:bg α}(h:∀ i,i<6->s.get i=t.get i):s=t:=by
 obtain⟨a,b,c,d,e,f⟩:=s
 obtain⟨a',b',c',d',e',f'⟩:=t
 have h0:a=a':=h 0 (by omega)
 have h1:b=b':=h 1 (by omega)
 have h2:c=c':=h 2 (by omega)
 have h3:d=d':=h 3 (by omega)
 have h4:e=e':=h 4 (by omega)
 have h5:f=f':=h 5 (by omega)
 subst h0 h1 h2 h3 h4 h5
 rfl
structure Par where
 (no pa:Int)
 deriving Inhabited,DecidableEq
structure Stk where
 ho:List Int
 un:bg (List Par)
 (se ta:bg Int)
 deriving Inhabited,DecidableEq
structure Pg where
 co:Int
 st:Stk
 su:Int
 deriving Inhabited,DecidableEq
structure Dk where
 me:Int
 now:Stk
 (pa pb:Pg)
 wet:Int
 deriving Inhabited,DecidableEq
structure Bag where
 (fr to:Int)
 ps:List Par
 ta:Int
 deriving Inhabited,DecidableEq
def Dk.pg(d:Dk):Nat->Pg
 | 0=>d.pa
 |_=>d.pb
def c9:V->Int
 | .int _ n=>n
 |_=>0
def L4:V->Bool
 | .bool b=>b
 |_=>false
def wg:V->List Int
 | .sl l=>l.map c9
 |_=>[]
def encPa(p:Par):V:=.agg [vInt p.no,vInt p.pa]
def ji:V->Par
 | .agg [.int _ a,.int _ b]=>⟨a,b⟩
 |_=>default
abbrev fa (l:List Int):V:=.sl (l.map vInt)
abbrev rowP (l:List Par):V:=.sl (l.map encPa)
def nh:V->List Par
 | .sl l=>l.map ji
 |_=>[]
def ax(s:Stk):List V:=fa s.ho::(s.un.L rowP++(s.se.L vInt++s.ta.L vInt))
def eM(l:List V):Stk:=⟨wg (l.getD 0 default),jw fun i=>nh (l.getD (1+i) default),jw fun i=>c9 (l.getD (7+i) default),jw fun i=>c9 (l.getD (13+i) default)⟩
def cj(p:Pg):List V:=vInt p.co::(ax p.st++[vInt p.su])
def tD(l:List V):Pg:=⟨c9 (l.getD 0 default),eM ((l.drop 1).take 19),c9 (l.getD 20 default)⟩
def al(d:Dk):List V:=vInt d.me::(ax d.now++(cj d.pa++(cj d.pb++[vInt d.wet])))
def L0(l:List V):Dk:=⟨c9 (l.getD 0 default),eM ((l.drop 1).take 19),tD ((l.drop 20).take 21),tD ((l.drop 41).take 21),c9 (l.getD 62 default)⟩
def aZ(b:Bag):List V:=[vInt b.fr,vInt b.to,rowP b.ps,vInt b.ta]
def V.L:V->List V
 | .agg l=>l
 |_=>[]
def jg(s:Stk):V:=.agg (ax s)
def Er(v:V):Stk:=eM v.L
def rF(p:Pg):V:=.agg (cj p)
def Es(v:V):Pg:=tD v.L
def eE(d:Dk):V:=.agg (al d)
def wh(v:V):Dk:=L0 v.L
def l7(b:Bag):V:=.agg (aZ b)
def wj:V->Bag
 | .agg [.int _ a,.int _ b,.sl l,.int _ c]=>⟨a,b,l.map ji,c⟩
 |_=>default
theorem BE{α:Type}{e:α->V}{d:V->α}(h:∀ a,d (e a)=a)(l:List α):(l.map e).map d=l:=by
 rw[List.map_map]
 have :d∘e=id:=funext h
 rw[this,List.map_id]
@[go_sem] theorem LY(l:List Int):(l.map vInt).map c9=l:=BE (fun _=>rfl) l
theorem Yz(p:Par):ji (encPa p)=p:=rfl
@[go_sem] theorem Et(l:List Par):(l.map encPa).map ji=l:=BE Yz l
theorem YA(l:List Int):wg (fa l)=l:=LY l
theorem Yy(l:List Par):nh (rowP l)=l:=Et l
theorem om(s:Stk):eM (ax s)=s:=by
 obtain⟨h,u,a,b⟩:=s
 obtain⟨u0,u1,u2,u3,u4,u5⟩:=u
 show (⟨wg (fa h),⟨nh (rowP u0),nh (rowP u1),nh (rowP u2),nh (rowP u3),nh (rowP u4),nh (rowP u5)⟩,a,b⟩:Stk)=_
 simp only[YA,Yy]
theorem zq(p:Pg):tD (cj p)=p:=by
 show (⟨p.co,eM (ax p.st),p.su⟩:Pg)=p
 rw[om]
theorem LZ(d:Dk):L0 (al d)=d:=by
 show (⟨d.me,eM (ax d.now),tD (cj d.pa),tD (cj d.pb),d.wet⟩:Dk)=d
 rw[om,zq,zq]
@[go_sem] theorem aeE(s:Stk):Er (.agg (ax s))=s:=om s
@[go_sem] theorem aeG(p:Pg):Es (.agg (cj p))=p:=zq p
@[go_sem] theorem aeI(d:Dk):wh (.agg (al d))=d:=LZ d
@[go_sem] theorem aeD(s:Stk):Er (jg s)=s:=om s
@[go_sem] theorem aeF(p:Pg):Es (rF p)=p:=zq p
@[go_sem] theorem Eu(d:Dk):wh (eE d)=d:=LZ d
theorem wi(b:Bag):wj (l7 b)=b:=by
 obtain⟨x,y,l,z⟩:=b
 show (⟨x,y,(l.map encPa).map ji,z⟩:Bag)=_
 rw[Et]
@[go_sem] theorem aeK(b:Bag):wj (.agg (aZ b))=b:=wi b
@[go_sem] theorem aeJ(a b c:Int)(l:List Par):wj (.agg [vInt a,vInt b,rowP l,vInt c])=⟨a,b,l,c⟩:=wi ⟨a,b,l,c⟩
@[go_sem] theorem aeH(l:List Dk):(l.map eE).map wh=l:=BE Eu l
@[go_sem] theorem aee(p:Par):(⟨p.no,p.pa⟩:Par)=p:=rfl
@[go_sem] theorem jo(s:Stk):(ax s).length=19:=rfl
@[go_sem] theorem adM(p:Pg):(cj p).length=21:=rfl
@[go_sem] theorem ma(d:Dk):(al d).length=63:=rfl
@[go_sem] theorem afp(b:Bag):(aZ b).length=4:=rfl
@[go_sem] theorem adv(s:Stk):(ax s).take 19=ax s:=rfl
@[go_sem] theorem adN(p:Pg):(cj p).take 21=cj p:=rfl
@[go_sem] theorem aeu(d:Dk):(al d).take 63=al d:=rfl
@[go_sem] theorem afq(b:Bag):(aZ b).take 4=aZ b:=rfl
@[go_sem] theorem adw(s:Stk):(ax s).getD 0 default=fa s.ho:=rfl
@[go_sem] theorem ads(s:Stk):((ax s).drop 1).take 6=s.un.L rowP:=rfl
@[go_sem] theorem adu(s:Stk):((ax s).drop 7).take 6=(s.se.L id).map vInt:=rfl
@[go_sem] theorem adt(s:Stk):((ax s).drop 13).take 6=(s.ta.L id).map vInt:=rfl
theorem cL(s:Stk){i:Nat}(h:i<6):(ax s).getD (1+i) default=rowP (s.un.get i):=by
 match i,h with
 | 0,_=>rfl
 | 1,_=>rfl
 | 2,_=>rfl
 | 3,_=>rfl
 | 4,_=>rfl
 | 5,_=>rfl
theorem dL(s:Stk){i:Nat}(h:i<6):(ax s).getD (7+i) default=vInt (s.se.get i):=by
 match i,h with
 | 0,_=>rfl
 | 1,_=>rfl
 | 2,_=>rfl
 | 3,_=>rfl
 | 4,_=>rfl
 | 5,_=>rfl
theorem dt(s:Stk){i:Nat}(h:i<6):(ax s).getD (13+i) default=vInt (s.ta.get i):=by
 match i,h with
 | 0,_=>rfl
 | 1,_=>rfl
 | 2,_=>rfl
 | 3,_=>rfl
 | 4,_=>rfl
 | 5,_=>rfl
@[go_sem] theorem adP(p:Pg):(cj p).getD 0 default=vInt p.co:=rfl
@[go_sem] theorem adO(p:Pg):(cj p).getD 20 default=vInt p.su:=rfl
@[go_sem] theorem adL(p:Pg):((cj p).drop 1).take 19=ax p.st:=rfl
@[go_sem] theorem aey(d:Dk):(al d).getD 0 default=vInt d.me:=rfl
@[go_sem] theorem aev(d:Dk):(al d).getD 62 default=vInt d.wet:=rfl
@[go_sem] theorem tv(d:Dk):((al d).drop 1).take 19=ax d.now:=rfl
@[go_sem] theorem aes(d:Dk):((al d).drop 20).take 21=cj d.pa:=rfl
@[go_sem] theorem aer(d:Dk):((al d).drop 41).take 21=cj d.pb:=rfl
@[go_sem] theorem afu(b:Bag):(aZ b).getD 0 default=vInt b.fr:=rfl
@[go_sem] theorem aft(b:Bag):(aZ b).getD 1 default=vInt b.to:=rfl
@[go_sem] theorem afs(b:Bag):(aZ b).getD 2 default=rowP b.ps:=rfl
@[go_sem] theorem afr(b:Bag):(aZ b).getD 3 default=vInt b.ta:=rfl
def LW:V->ByteArray
 | .str s=>s
 |_=>.empty
def iI:En Int:=⟨vInt,c9⟩
def iB:En Bool:=⟨.bool,L4⟩
def o8:En ByteArray:=⟨.str,LW⟩
def dQ:En (List Int):=⟨fun l=>.sl (l.map vInt),wg⟩
def qB:En Par:=⟨encPa,ji⟩
def iS:En (List Par):=⟨fun l=>.sl (l.map encPa),nh⟩
def de:En Stk:=⟨jg,Er⟩
def lK:En Pg:=⟨rF,Es⟩
def bf:En Dk:=⟨eE,wh⟩
def gv:En Bag:=⟨l7,wj⟩
attribute [go_sem] iI iB o8 dQ qB iS de lK bf gv c9 L4 wg nh LW encPa ji jg rF eE l7
def aP(n lo hi:Int):Bool:=decide (lo<=n)&&decide (n<=hi)
end Go.Eng
set_option linter.unusedVariables false
namespace Go.Proofs
open Go Go.Shelf Go.RowKit
def Tryz.lays171_ren:Shelf.Ren:=⟨fun | 171=>123 | 243=>133 | 246=>140 | 283=>149 | 284=>150 | 285=>151 | 286=>152 | 129=>161 | 317=>160 | 318=>162 | 319=>163 | 320=>164 | 337=>172 | 338=>173 | n=>n,fun | 3=>3 | 9=>9 | 2=>2 | 4=>4 | 171=>187 | 0=>0 | 53=>188 | 37=>136 | 5=>5 | 173=>191 | 212=>205 | 51=>206 | 20=>20 | 213=>207 | 46=>134 | 232=>221 | 233=>222 | n=>n,fun | 17=>2 | 18=>6 | 19=>7 | n=>n⟩
theorem Tryz.lays171:LaysM.n171 Tryz.prog Tryz.lays171_ren:={
 mixed:=by kernel_rfl,
 f129:=Tryz.func161.trans (congrArg some (by kernel_rfl)),
 f171:=Tryz.func123.trans (congrArg some (by kernel_rfl)),
 f243:=Tryz.func133.trans (congrArg some (by kernel_rfl)),
 f246:=Tryz.func140.trans (congrArg some (by kernel_rfl)),
 f283:=Tryz.func149.trans (congrArg some (by kernel_rfl)),
 f284:=Tryz.func150.trans (congrArg some (by kernel_rfl)),
 f285:=Tryz.func151.trans (congrArg some (by kernel_rfl)),
 f286:=Tryz.func152.trans (congrArg some (by kernel_rfl)),
 f317:=Tryz.func160.trans (congrArg some (by kernel_rfl)),
 f318:=Tryz.func162.trans (congrArg some (by kernel_rfl)),
 f319:=Tryz.func163.trans (congrArg some (by kernel_rfl)),
 f320:=Tryz.func164.trans (congrArg some (by kernel_rfl)),
 f337:=Tryz.func172.trans (congrArg some (by kernel_rfl)),
 f338:=Tryz.func173.trans (congrArg some (by kernel_rfl)),
 t0:=Tryz.underlying0,
 a0:=Tryz.isAgg0,
 z0:=Tryz.sizeOf0,
 v0:=Tryz.zeroValue0,
 t2:=Tryz.underlying2,
 a2:=Tryz.isAgg2,
 z2:=Tryz.sizeOf2,
 v2:=Tryz.zeroValue2,
 t3:=Tryz.underlying3,
 a3:=Tryz.isAgg3,
 z3:=Tryz.sizeOf3,
 v3:=Tryz.zeroValue3,
 t4:=Tryz.underlying4,
 a4:=Tryz.isAgg4,
 z4:=Tryz.sizeOf4,
 v4:=Tryz.zeroValue4,
 t5:=Tryz.underlying5,
 a5:=Tryz.isAgg5,
 z5:=Tryz.sizeOf5,
 v5:=Tryz.zeroValue5,
 t9:=Tryz.underlying9,
 a9:=Tryz.isAgg9,
 z9:=Tryz.sizeOf9,
 v9:=Tryz.zeroValue9,
 t20:=Tryz.underlying20,
 a20:=Tryz.isAgg20,
 z20:=Tryz.sizeOf20,
 v20:=Tryz.zeroValue20,
 t37:=Tryz.underlying136,
 a37:=Tryz.isAgg136,
 z37:=Tryz.sizeOf136,
 v37:=Tryz.zeroValue136,
 t46:=Tryz.underlying134,
 a46:=Tryz.isAgg134,
 z46:=Tryz.sizeOf134,
 v46:=Tryz.zeroValue134,
 t51:=Tryz.underlying206,
 a51:=Tryz.isAgg206,
 z51:=Tryz.sizeOf206,
 v51:=Tryz.zeroValue206,
 t53:=Tryz.underlying188,
 a53:=Tryz.isAgg188,
 z53:=Tryz.sizeOf188,
 v53:=Tryz.zeroValue188,
 t171:=Tryz.underlying187,
 a171:=Tryz.isAgg187,
 z171:=Tryz.sizeOf187,
 v171:=Tryz.zeroValue187,
 t173:=Tryz.underlying191,
 a173:=Tryz.isAgg191,
 z173:=Tryz.sizeOf191,
 v173:=Tryz.zeroValue191,
 t212:=Tryz.underlying205,
 a212:=Tryz.isAgg205,
 z212:=Tryz.sizeOf205,
 v212:=Tryz.zeroValue205,
 t213:=Tryz.underlying207,
 a213:=Tryz.isAgg207,
 z213:=Tryz.sizeOf207,
 t232:=Tryz.underlying221,
 a232:=Tryz.isAgg221,
 z232:=Tryz.sizeOf221,
 v232:=Tryz.zeroValue221,
 t233:=Tryz.underlying222,
 a233:=Tryz.isAgg222,
 z233:=Tryz.sizeOf222,
 v233:=Tryz.zeroValue222,
 g17:=by kernel_rfl,
 g18:=by kernel_rfl,
 g19:=by kernel_rfl,
 i0:=by kernel_rfl,
 i2:=by kernel_rfl,
 i3:=by kernel_rfl,
 i4:=by kernel_rfl,
 i5:=by kernel_rfl,
 i9:=by kernel_rfl,
 i20:=by kernel_rfl,
 i37:=by kernel_rfl,
 i46:=by kernel_rfl,
 i51:=by kernel_rfl,
 i53:=by kernel_rfl,
 i171:=by kernel_rfl,
 i173:=by kernel_rfl,
 i212:=by kernel_rfl,
 i232:=by kernel_rfl,
 i233:=by kernel_rfl,
 m17:=by kernel_rfl,
 m18:=by kernel_rfl,
 m19:=by kernel_rfl }
def Tryz.lays169_ren:Shelf.Ren:=⟨fun | 169=>124 | n=>n,fun | 70=>156 | 9=>9 | 0=>0 | 72=>158 | 37=>136 | 127=>169 | 3=>3 | 5=>5 | n=>n,fun | n=>n⟩
theorem Tryz.lays169:Lays.n169 Tryz.prog Tryz.lays169_ren:={
 mixed:=by kernel_rfl,
 f169:=Tryz.func124.trans (congrArg some (by kernel_rfl)),
 t0:=Tryz.underlying0,
 a0:=Tryz.isAgg0,
 z0:=Tryz.sizeOf0,
 v0:=Tryz.zeroValue0,
 t3:=Tryz.underlying3,
 a3:=Tryz.isAgg3,
 z3:=Tryz.sizeOf3,
 v3:=Tryz.zeroValue3,
 t9:=Tryz.underlying9,
 a9:=Tryz.isAgg9,
 z9:=Tryz.sizeOf9,
 v9:=Tryz.zeroValue9,
 t37:=Tryz.underlying136,
 a37:=Tryz.isAgg136,
 z37:=Tryz.sizeOf136,
 v37:=Tryz.zeroValue136,
 t70:=Tryz.underlying156,
 a70:=Tryz.isAgg156,
 z70:=Tryz.sizeOf156,
 v70:=Tryz.zeroValue156,
 t72:=Tryz.underlying158,
 a72:=Tryz.isAgg158,
 z72:=Tryz.sizeOf158,
 v72:=Tryz.zeroValue158,
 t127:=Tryz.underlying169,
 a127:=Tryz.isAgg169,
 z127:=Tryz.sizeOf169,
 v127:=Tryz.zeroValue169 }
theorem Tryz.bldX:Builder.Extra Tryz.prog Tryz.lays169_ren:={
 sizeBuilder:=by kernel_rfl,
 liesBuilder:=by kernel_rfl,
 t5:=Tryz.underlying5,
 a5:=Tryz.isAgg5,
 z5:=Tryz.sizeOf5,
 v5:=Tryz.zeroValue5,
 infoByte:=by kernel_rfl,
 cellsByte:=by kernel_rfl,
 sizeByte:=by kernel_rfl,
 neB5:=by decide }
end Go.Proofs
namespace Go.Eng
open Go Go.Proofs Go.Shelf Go.RowKit
set_option maxHeartbeats 1000000 in
set_option maxRecDepth 100000 in
theorem Zp(b:Nat)(w:World)(h0:w.cell? ⟨b,0,none⟩=some (.pointer (some ⟨b,0,none⟩))):
 Calls Tryz.prog 132 #[.pointer (some ⟨b,0,none⟩)] w fun e w'=>e=.returned (.tuple #[])/\w'=w:=by
 obtain⟨j,hj,_⟩:=Option.map_eq_some_iff.1 Tryz.bldX.sizeBuilder
 have mixed:Tryz.prog.follows Departure.mixedOrders=true:=by kernel_rfl
 go_enter Tryz.func132,Tryz.ntmps132
 go_wp2
 rw[Lib.run_neq_ptr_same w _ Tryz.underlying156 hj]
 go_wp2
 go_end0
 exact⟨rfl,rfl⟩
set_option maxHeartbeats 1000000 in
set_option maxRecDepth 100000 in
theorem Zr(b:Nat)(w:World)(h0:w.cell? ⟨b,0,none⟩=some (.pointer none))(fb:w.shape? b=some (158,2))(pv:w.frozen? ⟨b,0,none⟩=false):
 Calls Tryz.prog 132 #[.pointer (some ⟨b,0,none⟩)] w fun e w'=>e=.returned (.tuple #[])/\w'=w.setCell ⟨b,0,none⟩ (.pointer (some ⟨b,0,none⟩)):=by
 obtain⟨j,hj,eW⟩:=Option.map_eq_some_iff.1 Tryz.bldX.sizeBuilder
 have mixed:Tryz.prog.follows Departure.mixedOrders=true:=by kernel_rfl
 go_enter Tryz.func132,Tryz.ntmps132
 go_wp2
 rw[Lib.run_to_unsafe w ⟨b,0,none⟩ Tryz.underlying156 Tryz.underlying176 hj (by rw[eW];decide) fb (Nat.zero_lt_succ 1)]
 simp only[Result.andThen]
 rw[Oper.upon_value]
 go_wp2
 rw[run_callFunc_extern Tryz.func139 (by kernel_rfl) (by kernel_rfl) (by kernel_rfl) (e:=Extern.AbiNoEscape.same) (by kernel_rfl)]
 rw[Lib.run_noEscape]
 simp only[Result.andThen]
 rw[Oper.upon_value]
 go_wp2
 rw[Lib.run_from_unsafe w ⟨b,0,none⟩ Tryz.underlying176 Tryz.underlying156 hj fb Tryz.bldX.liesBuilder]
 simp only[Result.andThen]
 rw[Oper.upon_value]
 go_wp2
 go_end0
 exact⟨rfl,rfl⟩
theorem Zs(b:Nat)(bs:List Value)(w:World)(h:Lib.IsBuilderF 158 5 b b bs w):
 Calls Tryz.prog 132 #[.pointer (some ⟨b,0,none⟩)] w fun e w'=>e=.returned (.tuple #[])/\(Lib.BuilderAtF 158 5 b b (.pointer (some ⟨b,0,none⟩)) bs w'/\Below b w w'):=by
 rcases h with h | h
 ·refine(Zr b w h.cell0 h.shape h.frozen0).mono ?_
  rintro e w' ⟨rfl,rfl⟩
  exact⟨rfl,h.used _,(Below.refl b w).setCell (p:=⟨b,0,none⟩) h.1 _⟩
 ·refine(Zp b w h.cell0).mono ?_
  rintro e w' ⟨rfl,rfl⟩
  exact⟨rfl,h,Below.refl b _⟩
set_option maxHeartbeats 2000000 in
set_option maxRecDepth 100000 in
theorem MR(b:Nat)(bs:List Value)(s:ByteArray)(w:World)(h:Lib.IsBuilderF 158 5 b b bs w)(hlen:bs.length+s.size<=140737488355328)(KF:b<=w.heap.size):
 Calls Tryz.prog 122 #[.pointer (some ⟨b,0,none⟩),.string s] w fun e w'=>e=.returned (.tuple #[.int .i64 s.size,.nilIface])/\(Lib.IsBuilderF 158 5 b b (bs++Lib.strCells s) w'/\Below b w w'):=by
 obtain⟨i0,hi,dR,gw,lL⟩:=info_parts Tryz.bldX.infoByte
 have mixed:Tryz.prog.follows Departure.mixedOrders=true:=by kernel_rfl
 go_enter Tryz.func122,Tryz.ntmps122
 go_wp2_with (go_at_call 132;refine(Zs b bs _ h).mono ?_)
 rintro e w1 ⟨rfl,h1,bJ⟩
 obtain⟨hB,v,y9,yG,aq⟩:=h1
 have c0:w1.cell? ⟨b,0,none⟩=some (.pointer (some ⟨b,0,none⟩)):=by rw[Lib.cell_of_heap y9];rfl
 have c1:w1.cell? ⟨b,1,none⟩=some v:=by rw[Lib.cell_of_heap y9];rfl
 go_wp2_with (at_builtin;refine Lib.wpList_append_own_stringF _ rfl _ _ 136 9 rfl b 5 i0 Tryz.underlying136 Tryz.underlying9 hi dR gw lL _ _ _ rfl yG s rfl ?c3 ?c4 ?c5 ?_)
 case c3=>unfold maxLen;omega
 case c4=>omega
 case c5=>have:=bJ.size;omega
 intro v' w2 J5 Ko _
 have ae:b<w1.heap.size:=by
  rcases Nat.lt_or_ge b w1.heap.size with h' | h'
  ·exact h'
  ·simp[Array.getElem?_eq_none h']at y9
 have bZ:w2.heap[b]?=some (.cells #[.pointer (some ⟨b,0,none⟩),v] 158 (0,0)):=by
  rw[Ko.block b ae (fun e=>aq e.symm)]
  exact y9
 have d0:w2.cell? ⟨b,0,none⟩=some (.pointer (some ⟨b,0,none⟩)):=by rw[Lib.cell_of_heap bZ];rfl
 have d1:w2.cell? ⟨b,1,none⟩=some v:=by rw[Lib.cell_of_heap bZ];rfl
 have f1:w2.frozen? ⟨b,1,none⟩=false:=Lib.frozen_of_heap bZ 1
 obtain⟨ao,n',cap,rfl⟩:∃ ao n' cap,v'=.slice ao n' cap:=by
  rcases J5.2 with⟨hv,_⟩ | ⟨g,cap,cur,fz,hv,_⟩
  ·exact⟨_,_,_,hv⟩
  ·exact⟨_,_,_,hv⟩
 go_wp2
 go_ret2
 refine⟨rfl,.inr ?_,?_⟩
 ·exact Lib.BuilderAtF.put (T:=158) (e:=5) hB bZ (bs':=bs++Lib.strCells s) (by simpa[Lib.strCells_length]using J5) (by decide)
 ·exact(bJ.grown Ko (by have:=bJ.size;omega) (fun k hk=>(yG.lt k hk).1)).setCell (p:=⟨b,1,none⟩) hB _
end Go.Eng
set_option linter.unusedVariables false
namespace Go.Eng
open Go Go.Proofs Go.Shelf Go.RowKit
theorem DV(w:World)(k:Nat)(os:Array Obj):w.grownBy (Go.Sort.grow (w.drewN k) os) none:=by
 refine⟨rfl,rfl,rfl,?_,fun b hb _=>?_⟩
 ·show w.heap.size<=(w.heap++os).size
  rw[Array.size_append];omega
 ·show (w.heap++os)[b]?=_
  rw[Array.getElem?_append_left hb]
theorem Zq{b:Nat}{bs:List Value}{w:World}(h:Lib.IsBuilderF 158 5 b b bs w)(k:Nat)(os:Array Obj):Lib.IsBuilderF 158 5 b b bs (Go.Sort.grow (w.drewN k) os):=by
 have key:∀ p,Lib.BuilderAtF 158 5 b b p bs w->Lib.BuilderAtF 158 5 b b p bs (Go.Sort.grow (w.drewN k) os):=by
  intro p h
  have ae:=h.lt
  obtain⟨hB,v,hb,yG,aq⟩:=h
  refine⟨hB,v,?_,yG.kept (DV w k os) ?_,aq⟩
  ·rw[(DV w k os).block b ae (by simp)];exact hb
  ·cases hv:v.ownBlock with
   |none=>exact .inl rfl
   |some=>exact .inr (by simp)
 exact h.elim (fun h=>.inl (key _ h)) (fun h=>.inr (key _ h))
theorem Zv{b:Nat}{w w':World}(h:Below b w w')(hb:b<=w.heap.size)(k:Nat)(os:Array Obj):Below b w (Go.Sort.grow (w'.drewN k) os):=by
 refine h.grown (row:=none) (DV w' k os) ?_ (fun k hk=>by cases hk)
 have :=h.size
 omega
theorem O0{w w':World}(h:ib w)(hb:Below w.heap.size w w'):ib w':=fun q hq=>by
 obtain⟨T,f,e⟩:=h q hq
 exact⟨T,f,(hb.block _ (Array.getElem?_eq_some_iff.1 e).1).trans e⟩
theorem O1{w:World}(h:ib w){name:String}(hn:Tryz.prog.globalNamed name=some 2):Lib.TabIs Tryz.prog w name .u64 Lib.pow10Tab:=by
 obtain⟨T,f,e⟩:=h _ (List.mem_singleton.2 rfl)
 unfold Lib.TabIs World.var?
 rw[hn]
 simp only[Option.bind_some,e]
theorem Vb(n:Int)(h0: -9223372036854775808<=n)(h1:n<=9223372036854775807)(w:World)(ht:ib w):
 Calls Tryz.prog 123 #[.int .i64 n] w fun e w'=>e=.returned (.string ⟨(Lib.itoa n).toArray⟩)/\∃ k os,w'=Go.Sort.grow (w.drewN k) os:=
 Any.strconv_Itoa Tryz.lays171 n h0 h1 w (O1 ht (by kernel_rfl))
def jB(word:ByteArray)(l:List Int)(k:Nat):List UInt8:=word.data.toList++(l.take k).flatMap fun n=>32::Lib.itoa n
def o4(word:ByteArray)(l:List Int):List UInt8:=jB word l l.length++[10]
theorem BM(word:ByteArray)(l:List Int){k:Nat}(h:k<l.length):jB word l (k+1)=jB word l k++(32::Lib.itoa l[k]):=by
 unfold jB
 rw[List.take_add_one,List.getElem?_eq_getElem h,List.flatMap_append,List.append_assoc]
 simp
theorem xY(word:ByteArray)(l:List Int)(hr:∀ n∈l,-9223372036854775808<=n/\n<=9223372036854775807):∀ k,k<=l.length->(jB word l k).length<=word.size+22*k
 | 0,_=>by
   unfold jB
   rw[List.take_zero,List.flatMap_nil,List.append_nil,Array.length_toList]
   exact Nat.le_refl _
 |k+1,h=>by
  rw[BM word l (by omega),List.length_append,List.length_cons]
  have h1:=xY word l hr k (by omega)
  have h2:=hr _ (List.getElem_mem (show k<l.length by omega))
  have h3:=Lib.itoa_length_le l[k] h2.1 h2.2
  omega
set_option maxHeartbeats 4000000 in
set_option maxRecDepth 100000 in
theorem Sy(word:ByteArray)(a:Option Addr)(l:List Int)(cap:Nat)(w:World)
 (ha:l=[]\/∃ bl o,a=some ⟨bl,o,none⟩/\bl<w.heap.size/\∀ i (h:i<l.length),w.cell? ⟨bl,o+i,none⟩=some (.int .i64 l[i]))
 (hr:∀ n∈l,-9223372036854775808<=n/\n<=9223372036854775807) (hw:word.size<=1000) (hl:l.length<=1000000) (ht:ib w):
 Calls Tryz.prog 110 #[.string word,.slice a l.length cap] w fun e w'=>e=.returned (.string ⟨(o4 word l).toArray⟩)/\Below w.heap.size w w':=by
 have mixed:Tryz.prog.follows Departure.mixedOrders=true:=by kernel_rfl
 have h0:Lib.IsBuilderF 158 5 w.heap.size w.heap.size [] (w.alloc (.cells #[.pointer none,.slice none 0 0] 158)):=Lib.IsBuilderF.of (Lib.fresh_isBuilder 158 5 w)
 have b0:Below w.heap.size w (w.alloc (.cells #[.pointer none,.slice none 0 0] 158)):=(Below.refl _ w).alloc (Nat.le_refl _) _
 have hlen:=xY word l hr
 go_enter Tryz.func110,Tryz.ntmps110
 go_wp2_with (go_at_call 122;refine(MR w.heap.size [] word _ h0 (by simp;omega) b0.size).mono ?_;rintro e W1 ⟨rfl,h1,b1⟩)
 have eD:Lib.IsBuilderF 158 5 w.heap.size w.heap.size (Lib.byteCells (jB word l 0)) W1:=by
  rw[List.nil_append,Lib.strCells_eq]at h1
  unfold jB
  simpa using h1
 have Nc:=b0.trans b1
 clear h0 h1 b0 b1
 go_loopw [12] (fun i wr=>∃ k:Nat,k<=l.length/\i=.int .i64 k/\Lib.IsBuilderF 158 5 w.heap.size w.heap.size (Lib.byteCells (jB word l k)) wr/\Below w.heap.size w wr) (fun i _=>l.length-(intOf i).toNat)
 case atStart=>exact⟨0,Nat.zero_le _,rfl,eD,Nc⟩
 case round=>
  obtain⟨k,hk,rfl,hB,hb⟩:=hrel
  clear eD Nc
  have VO:=O0 ht hb
  have a8:=hb.size
  by_cases ae:k<l.length
  ·rcases ha with rfl | ⟨bl,o,rfl,WY,hc⟩
   ·simp at ae
   have KC:wr.cell? ⟨bl,o+k,none⟩=some (.int .i64 l[k]):=by
    rw[<-hc k ae]
    unfold World.cell?
    rw[hb.block bl WY]
   have yE:=hr _ (List.getElem_mem ae)
   have hL:=hlen k hk
   have ga:=Lib.itoa_length_le l[k] yE.1 yE.2
   have aj:(k:Int)<(l.length:Int):=by omega
   have ke:(⟨#[32]⟩++⟨(Lib.itoa l[k]).toArray⟩:ByteArray)=⟨(32::Lib.itoa l[k]).toArray⟩:=by
    apply ByteArray.ext
    simp
   have Ct:(⟨(32::Lib.itoa l[k]).toArray⟩:ByteArray).size=(Lib.itoa l[k]).length+1:=by
    show ((32::Lib.itoa l[k]).toArray).size=_
    rw[List.size_toArray,List.length_cons]
   go_wp2_with (first
    |(go_at_call 123;refine(Vb l[k] yE.1 yE.2 _ VO).mono ?_;rintro e W2 ⟨rfl,kk,os,rfl⟩)
    |(go_at_call 122;refine(MR w.heap.size _ _ _ (Zq hB _ _) ?sz ?le).mono ?_))
   case sz=>rw[Lib.byteCells_length,Ct];omega
   case le=>rw[Go.Sort.size_grow];show w.heap.size<=wr.heap.size+_;omega
   rintro e W3 ⟨rfl,h3,b3⟩
   have tk:Lib.IsBuilderF 158 5 w.heap.size w.heap.size (Lib.byteCells (jB word l (k+1))) W3:=by
    rw[Lib.strCells_eq,<-Lib.byteCells_append]at h3
    rw[BM word l ae]
    exact h3
   have Dv:Below w.heap.size w W3:=(Zv hb (Nat.le_refl _) kk os).trans b3
   go_wp2
   go_roundw
   case rel=>exact⟨k+1,ae,by first | (simp[IntKind.wrap_i64];done) | (simp[IntKind.wrap_i64];omega),tk,Dv⟩
   case measure=>
    simp[intOf,IntKind.wrap_i64]
    omega
  ·have rh:k=l.length:=by omega
   subst rh
   have hL:=hlen l.length (Nat.le_refl _)
   go_wp2_with (go_at_call 124;refine(Any.Builder_String_any_k Tryz.lays169 Tryz.bldX w.heap.size w.heap.size _ _ hB hb.size).mono ?_;rintro e W3 ⟨rfl,h3,b3,-⟩)
   go_wp2
   go_ret
   refine⟨?_,hb.trans b3⟩
   have :(⟨(jB word l l.length).toArray⟩++⟨#[10]⟩:ByteArray)=⟨(o4 word l).toArray⟩:=by
    apply ByteArray.ext
    simp[o4]
   simp[this]
open Go Go.Proofs
def dv(w:ByteArray)(l:List Int):ByteArray:=⟨(o4 w l).toArray⟩
def qD(n:Int):Prop:= -9223372036854775808<=n/\n<=9223372036854775807
noncomputable def P110:PSpec:=p2 o8 dQ (fun w l=>w.size<=1000/\l.length<=1000000/\∀ n∈l,qD n) (fun w l=>.str (dv w l)) true
noncomputable def S110:Spec:=P110.toSpec
attribute [go_sem] P110 S110
theorem Sz{w:ByteArray}{l:List Int}(hw:w.size<=1000)(hl:l.length<=1000000)(hr:∀ n∈l,qD n):(dv w l).size<=23000000:=by
 have h:=xY w l hr l.length (Nat.le_refl _)
 show (o4 w l).toArray.size<=_
 unfold o4
 rw[List.size_toArray,List.length_append,List.length_singleton]
 omega
theorem Rf:aL Tryz.prog 110 P110:=by
 refine⟨by decide,gG Tryz.func110 rfl (by kernel_rfl),fun h=>Hf (fun _ _=>rfl) h,fun m w xs args ht hm hx hp=>?_⟩
 obtain⟨word,l,rfl,⟨h1,h2,h3⟩,hg⟩:=Bi hp
 have hg:P110.fn _=_:=hg
 rw[hg]
 obtain⟨h4,h5⟩:=hx
 have a8:args.size=2:=by simpa using h4.symm
 have e0:=h5 0 (by simp) (by simp[a8])
 have e1:=h5 1 (by simp) (by simp[a8])
 simp only[List.getElem_cons_zero,List.getElem_cons_succ,Array.getElem_toList]at e0 e1
 have jM:args= #[args[0],args[1]]:=by
  apply Array.ext
  ·simp[a8]
  ·intro j a b
   rcases j with _ | _ | j
   ·rfl
   ·rfl
   ·omega
 have key:∀ a0 a1,aB m (.str word) a0->aB m (.sl (l.map vInt)) a1->Calls Tryz.prog 110 #[a0,a1] w fun e w'=>∃ v m',e=.returned v/\RowKit.Below w.heap.size w w'/\Mem.le m m'/\
     (∀ b off c,m' b off=some c->m b off=some c\/(w.heap.size<=b/\w'.cell? ⟨b,off,none⟩=some c))/\aB m' (.str (dv word l)) v:=by
  intro a0 a1 r0 r1
  cases r0
  have fin:∀ a cap,(l=[]\/∃ bl o,a=some ⟨bl,o,none⟩/\bl<w.heap.size/\∀ i (h:i<l.length),w.cell? ⟨bl,o+i,none⟩=some (.int .i64 l[i]))->
      Calls Tryz.prog 110 #[.string word,.slice a l.length cap] w fun e w'=>∃ v m',e=.returned v/\RowKit.Below w.heap.size w w'/\Mem.le m m'/\
   (∀ b off c,m' b off=some c->m b off=some c\/(w.heap.size<=b/\w'.cell? ⟨b,off,none⟩=some c))/\aB m' (.str (dv word l)) v:=by
   intro a cap ha
   refine(Sy word a l cap w ha h3 h1 h2 ht).mono ?_
   rintro e w' ⟨rfl,hb⟩
   exact⟨_,m,rfl,hb,Mem.le_refl m,fun b off c h=>.inl h,.str _ (by have:=Sz h1 h2 h3;unfold maxLen;omega)⟩
  generalize hL:l.map vInt=L at r1
  cases r1 with
  |slnil a cap=>
   have :l=[]:=List.map_eq_nil_iff.1 hL
   subst this
   exact fin a cap (.inl rfl)
  |sl _ b o cap sz c hn hl gC hs hc hr ho=>
   subst hL
   rw[List.length_map]
   refine fin _ _ (.inr ⟨b,o,rfl,?_,fun i hi=>?_⟩)
   ·have cm:0<l.length:=by
      rcases l with _ | _
      ·simp at hn
      ·simp
    have mO:=hs 0 (by simpa using cm)
    simp only[List.getElem_map,V.cells,List.length_singleton]at mO
    have :=hm _ _ _ (hc 0 0 (by simpa using cm) (by omega))
    exact kP this
   ·have bj:i<(l.map vInt).length:=by simpa using hi
    have mO:=hs i bj
    simp only[List.getElem_map,V.cells,List.length_singleton]at mO
    subst mO
    have h6:=hm _ _ _ (hc i 0 bj (by omega))
    have h7:=hr i 0 bj (by simp[V.cells])
    simp only[List.getElem_map,V.cells,List.getElem_cons_zero]at h7
    have h8:∀ u,aB m (vInt l[i]) u->u=.int .i64 l[i]:=by intro u h;cases h;rfl
    rw[h8 _ h7]at h6
    simpa using h6
 rw[jM]
 exact key _ _ e0 e1
theorem U6:ak Tryz.prog 110 S110:=Rf.sound
noncomputable def P98:PSpec:=p3 iI iI iI (fun _ _ _=>True) (fun n lo hi=>.bool (aP n lo hi)) true
noncomputable def S98:Spec:=P98.toSpec
attribute [go_sem] P98 S98
theorem Qc:aL Tryz.prog 98 P98:=by
 refine w3 (rs:=[.tmp 6]) Tryz.func98 Tryz.ntmps98 (by rfl) (by kernel_rfl) (by decide) (fun _ _ _ _=>rfl) ⟨_,rfl,lb rfl,fun n lo hi hp hw=>?_⟩
 have hP:=aU
 simp only[iI]at hw |-
 have hΓ:=@j9 Tryz.prog
 repeat refine sq ?_
 refine rs hΓ [0,1,2] [] ?_
 repeat refine sq ?_
 refine rs hΓ [6] [] ?_
 refine ar ?_
 simp only[go_sem]
 all_goals first | rfl | (simp;done) | (simp_all;done)
theorem BX:ak Tryz.prog 98 S98:=Qc.sound
noncomputable def P86:PSpec:=p3 iI iI iI (fun _ _ _=>True) (fun n lo hi=>.bool (aP n lo hi)) true
noncomputable def S86:Spec:=P86.toSpec
attribute [go_sem] P86 S86
theorem Qi:aL Tryz.prog 86 P86:=by
 refine w3 (rs:=[.tmp 6]) Tryz.func86 Tryz.ntmps86 (by rfl) (by kernel_rfl) (by decide) (fun _ _ _ _=>rfl) ⟨_,rfl,lb rfl,fun n lo hi hp hw=>?_⟩
 have hP:=aU
 simp only[iI]at hw |-
 have hΓ:=@j9 Tryz.prog
 repeat refine sq ?_
 refine rs hΓ [0,1,2] [] ?_
 repeat refine sq ?_
 refine rs hΓ [6] [] ?_
 refine ar ?_
 simp only[go_sem]
 all_goals first | rfl | (simp;done) | (simp_all;done)
theorem B1:ak Tryz.prog 86 S86:=Qi.sound
noncomputable def K1:List (Nat×Spec):=[(98,S98),(86,S86)]
theorem tW:∀ f s,tbl K1 f=some s->ak Tryz.prog f s:=tc BX<|tc B1<|tn
attribute [go_sem] K1
noncomputable def P82:PSpec:=p1 iI (fun _=>True) (fun n=>.bool (aP n 0 5)) true
noncomputable def S82:Spec:=P82.toSpec
attribute [go_sem] P82 S82
theorem Qm:aL Tryz.prog 82 P82:=by
 refine w1 (rs:=[.tmp 2]) Tryz.func82 Tryz.ntmps82 (by rfl) (by kernel_rfl) (by decide) (fun _ _=>rfl) ⟨_,rfl,lb rfl,fun n hp hw=>?_⟩
 have hP:=aU
 simp only[iI]at hw |-
 have hΓ:=tW
 repeat refine sq ?_
 refine rs hΓ [0] [] ?_
 repeat refine sq ?_
 refine rs hΓ [2] [] ?_
 refine ar ?_
 simp only[go_sem]
 all_goals first | rfl | (simp;done) | (simp_all;done)
theorem ye:ak Tryz.prog 82 S82:=Qm.sound
noncomputable def P84:PSpec:=p1 iI (fun _=>True) (fun n=>.bool (aP n 0 5)) true
noncomputable def S84:Spec:=P84.toSpec
attribute [go_sem] P84 S84
theorem Qk:aL Tryz.prog 84 P84:=by
 refine w1 (rs:=[.tmp 2]) Tryz.func84 Tryz.ntmps84 (by rfl) (by kernel_rfl) (by decide) (fun _ _=>rfl) ⟨_,rfl,lb rfl,fun n hp hw=>?_⟩
 have hP:=aU
 simp only[iI]at hw |-
 have hΓ:=tW
 repeat refine sq ?_
 refine rs hΓ [0] [] ?_
 repeat refine sq ?_
 refine rs hΓ [2] [] ?_
 refine ar ?_
 simp only[go_sem]
 all_goals first | rfl | (simp;done) | (simp_all;done)
theorem yd:ak Tryz.prog 84 S84:=Qk.sound
noncomputable def P50:PSpec:=p1 iI (fun _=>True) (fun n=>.bool (aP n 1 999)) true
noncomputable def S50:Spec:=P50.toSpec
attribute [go_sem] P50 S50
theorem QG:aL Tryz.prog 50 P50:=by
 refine w1 (rs:=[.tmp 2]) Tryz.func50 Tryz.ntmps50 (by rfl) (by kernel_rfl) (by decide) (fun _ _=>rfl) ⟨_,rfl,lb rfl,fun n hp hw=>?_⟩
 have hP:=aU
 simp only[iI]at hw |-
 have hΓ:=tW
 repeat refine sq ?_
 refine rs hΓ [0] [] ?_
 repeat refine sq ?_
 refine rs hΓ [2] [] ?_
 refine ar ?_
 simp only[go_sem]
 all_goals first | rfl | (simp;done) | (simp_all;done)
theorem JE:ak Tryz.prog 50 S50:=QG.sound
noncomputable def P55:PSpec:=p1 iI (fun _=>True) (fun n=>.bool (aP n 1 999)) true
noncomputable def S55:Spec:=P55.toSpec
attribute [go_sem] P55 S55
theorem QD:aL Tryz.prog 55 P55:=by
 refine w1 (rs:=[.tmp 2]) Tryz.func55 Tryz.ntmps55 (by rfl) (by kernel_rfl) (by decide) (fun _ _=>rfl) ⟨_,rfl,lb rfl,fun n hp hw=>?_⟩
 have hP:=aU
 simp only[iI]at hw |-
 have hΓ:=tW
 repeat refine sq ?_
 refine rs hΓ [0] [] ?_
 repeat refine sq ?_
 refine rs hΓ [2] [] ?_
 refine ar ?_
 simp only[go_sem]
 all_goals first | rfl | (simp;done) | (simp_all;done)
theorem JA:ak Tryz.prog 55 S55:=QD.sound
noncomputable def P79:PSpec:=p1 iI (fun _=>True) (fun n=>.bool (aP n 0 99999)) true
noncomputable def S79:Spec:=P79.toSpec
attribute [go_sem] P79 S79
theorem Qp:aL Tryz.prog 79 P79:=by
 refine w1 (rs:=[.tmp 2]) Tryz.func79 Tryz.ntmps79 (by rfl) (by kernel_rfl) (by decide) (fun _ _=>rfl) ⟨_,rfl,lb rfl,fun n hp hw=>?_⟩
 have hP:=aU
 simp only[iI]at hw |-
 have hΓ:=tW
 repeat refine sq ?_
 refine rs hΓ [0] [] ?_
 repeat refine sq ?_
 refine rs hΓ [2] [] ?_
 refine ar ?_
 simp only[go_sem]
 all_goals first | rfl | (simp;done) | (simp_all;done)
theorem B3:ak Tryz.prog 79 S79:=Qp.sound
noncomputable def P81:PSpec:=p1 iI (fun _=>True) (fun n=>.bool (aP n 0 99999)) true
noncomputable def S81:Spec:=P81.toSpec
attribute [go_sem] P81 S81
theorem Qn:aL Tryz.prog 81 P81:=by
 refine w1 (rs:=[.tmp 2]) Tryz.func81 Tryz.ntmps81 (by rfl) (by kernel_rfl) (by decide) (fun _ _=>rfl) ⟨_,rfl,lb rfl,fun n hp hw=>?_⟩
 have hP:=aU
 simp only[iI]at hw |-
 have hΓ:=tW
 repeat refine sq ?_
 refine rs hΓ [0] [] ?_
 repeat refine sq ?_
 refine rs hΓ [2] [] ?_
 refine ar ?_
 simp only[go_sem]
 all_goals first | rfl | (simp;done) | (simp_all;done)
theorem B2:ak Tryz.prog 81 S81:=Qn.sound
theorem iu{n lo hi:Int}:aP n lo hi=true↔lo<=n/\n<=hi:=by unfold aP;simp
theorem ad9{n lo hi:Int}(h1:lo<=n)(h2:n<=hi):aP n lo hi=true:=iu.2 ⟨h1,h2⟩
def fO(n:Nat)(f:Nat->Bool):Bool:=(List.range n).all f
theorem kU{n:Nat}{f:Nat->Bool}:fO n f=true↔∀ j,j<n->f j=true:=by
 unfold fO;rw[List.all_eq_true];exact⟨fun h j hj=>h j (List.mem_range.2 hj),fun h j hj=>h j (List.mem_range.1 hj)⟩
theorem fN{n i:Nat}{f:Nat->Bool}(h:i<n)(hb:f i=false):fO n f=false:=by
 rw[Bool.eq_false_iff];intro k;rw[kU.1 k i h]at hb;cases hb
theorem kT{n:Nat}{f:Nat->Bool}(h:fO n f=true)(hb:f n=true):fO (n+1) f=true:=kU.2 fun j hj=>by
 rcases Nat.lt_succ_iff_lt_or_eq.1 hj with h5 | rfl
 ·exact kU.1 h j h5
 ·exact hb
theorem afw{f:Nat->Bool}:fO 0 f=true:=rfl
def lD(l:List Int)(i:Nat):Bool:=aP (l.getD i 0) 1 999&&(i==0||decide (l.getD (i-1) 0<l.getD i 0))
def fD(l:List Int):Bool:=fO l.length (lD l)&&decide (l.length<=40)
def fU(l:List Par)(i:Nat):Bool:=aP (l.getD i default).no 1 99999&&aP (l.getD i default).pa 1 999&&(i==0||(l.getD (i-1) default).no+1==(l.getD i default).no)
def cR(l:List Par):Bool:=fO l.length (fU l)&&decide (l.length<=40)
theorem xx{i n:Nat}(h:i<n)(hn:n<=maxLen):∃ p:Nat,(IntKind.i64.wrap ((i:Int)-1)).toNat=p/\p<n/\p=i-1/\(0<i->0<=IntKind.i64.wrap ((i:Int)-1)/\IntKind.i64.wrap ((i:Int)-1)<n):=by
 unfold maxLen at hn
 rcases Nat.eq_zero_or_pos i with rfl | hp
 ·exact⟨0,by decide,h,rfl,fun h=>by omega⟩
 ·have:IntKind.i64.wrap ((i:Int)-1)=((i-1:Nat):Int):=by rw[wrap_i64 (by omega) (by omega)];omega
  exact⟨i-1,by rw[this];rfl,by omega,rfl,fun _=>by omega⟩
theorem sj{i:Nat}:decide ((i:Int)>0)=!(i==0):=by
 cases i<;>simp
theorem not_lt{a b:Int}:decide (a>=b)=!decide (a<b):=by
 by_cases h:a<b
 ·rw[decide_eq_true h,decide_eq_false (by omega)];rfl
 ·rw[decide_eq_false h,decide_eq_true (by omega)];rfl
noncomputable def N2:List (Nat×Spec):=[(50,S50),(55,S55),(98,S98),(86,S86)]
theorem Am:∀ f s,tbl N2 f=some s->ak Tryz.prog f s:=tc JE<|tc JA<|tc BX<|tc B1<|tn
attribute [go_sem] N2
theorem G9{l:List Int}{i p:Nat}(hp:p=i-1)(hi:i<l.length)(bU:p<l.length):(!aP l[i] 1 999||(!(i==0)&&!decide (l[p] <l[i])))=!lD l i:=by
 subst hp
 unfold lD
 rw[getD_at hi,getD_at bU]
 cases aP l[i] 1 999<;>cases (i==0)<;>cases decide (l[i-1] <l[i])<;>rfl
theorem G6{l:List Par}{i p:Nat}(hp:p=i-1)(hi:i<l.length)(bU:p<l.length):
 (!aP l[i].no 1 99999||(!aP l[i].pa 1 999||(!(i==0)&&(l[p].no+1 != l[i].no))))=!fU l i:=by
 subst hp
 unfold fU
 rw[getD_at hi,getD_at bU]
 have :(l[i-1].no+1 != l[i].no)=!(l[i-1].no+1==l[i].no):=rfl
 rw[this]
 cases aP l[i].no 1 99999<;>cases aP l[i].pa 1 999<;>cases (i==0)<;>cases (l[i-1].no+1==l[i].no)<;>rfl
theorem G4{l:List Par}{i p:Nat}(hp:p=i-1)(bU:p<l.length)(hR:fO i (fU l)=true)(h0:0<i):IntKind.i64.wrap (l[p].no+1)=l[p].no+1:=by
 have :=kU.1 hR p (by omega)
 unfold fU at this
 rw[getD_at bU]at this
 simp only[Bool.and_eq_true]at this
 have :=iu.1 this.1.1
 exact wrap_i64 (by omega) (by omega)
noncomputable def P83:PSpec:=p1 dQ (fun _=>True) (fun l=>.bool (fD l)) true
noncomputable def S83:Spec:=P83.toSpec
attribute [go_sem] P83 S83
set_option maxHeartbeats 4000000 in
theorem Ql:aL Tryz.prog 83 P83:=by
 refine w1 (rs:=[.tmp 2]) Tryz.func83 Tryz.ntmps83 (by rfl) (by kernel_rfl) (by decide) (fun _ _=>rfl) ⟨_,rfl,lb rfl,fun l hp hw=>?_⟩
 have hP:=aU
 simp only[dQ]at hw |-
 have hΓ:=Am
 have hl:l.length<=maxLen:=by have:=hw.1.1;simpa using this
 repeat refine sq ?_
 refine rs hΓ [0] [] ?_
 repeat refine sq ?_
 refine rs hΓ [0,5,6,7] [] ?_
 repeat refine sq ?_
 refine aN ?_
 repeat refine sq ?_
 refine cB (fun s:Nat=>[(7,⟨true,.v (vInt s)⟩)]) (fun s=>[]) (fun s=>s<=l.length/\fO s (lD l)=true) (fun s=>l.length-s) 0 ?_ ?_ ?_ ?_
 ·exact⟨Nat.zero_le _,rfl⟩
 ·rfl
 ·rfl
 rintro i ⟨hi,hR⟩
 simp only[go_sem]
 repeat refine sq ?_
 refine rs hΓ [0,5,6,7,8] [] ?_
 repeat refine sq ?_
 refine aw rfl rfl (fun hb=>?_) (fun hb=>?_)
 ·have ae:i<l.length:=by simpa using hb
  have aj:(i:Int)<l.length:=by omega
  clear hb
  obtain⟨p,hp,bU,gT,cm⟩:=xx ae hl
  have ea:=G9 gT ae bU
  repeat refine sq ?_
  refine ay ?_
  repeat refine sq ?_
  refine aN ?_
  repeat refine sq ?_
  refine rx hΓ [0,3,4,5,6,7] [] (fun K' hK=>by simp only[go_sem,aG ae,Int.toNat_natCast,Int.natCast_nonneg,aj];(repeat (refine⟨ob,?_⟩));exact hK _ (by simp only[go_sem]) (by simp only[go_sem]<;>rfl)) ?_
  repeat refine sq ?_
  refine rx hΓ [0,5,6,7,27] [] (fun K' hK=>by simp only[go_sem,aG ae,Int.toNat_natCast,Int.natCast_nonneg,aj,hp,aG ae,aG bU,Int.toNat_natCast,Int.natCast_nonneg,aj,sj,not_lt];(repeat (refine⟨by first | exact ob | exact fun h=>cm (by simp_all;omega) | (intro h;have:=cm (by simp_all;omega);simp_all;done),?_⟩));exact hK _ (by simp only[go_sem]) (by simp only[go_sem]<;>rfl)) ?_
  repeat refine sq ?_
  refine aw rfl rfl (fun hb=>?_) (fun hb=>?_)
  ·repeat refine sq ?_
   have bw:lD l i=false:=by simpa[ea]using hb
   repeat refine sq ?_
   refine rx hΓ [2] [] (fun K' hK=>by simp only[go_sem,aG ae,Int.toNat_natCast,Int.natCast_nonneg,aj];(repeat (refine⟨ob,?_⟩));exact hK _ (by simp only[go_sem]) (by simp only[go_sem]<;>rfl)) ?_
   refine ar ?_
   simp only[go_sem]
   simp only[fD,fN ae bw,Bool.false_and]
  ·repeat refine sq ?_
   have bB:lD l i=true:=by simpa[ea]using hb
   refine ay ?_
   refine dq ?_
   simp only[go_sem]
   refine kp [0,5,6,7] [] ?_
   repeat refine sq ?_
   refine aS hΓ fun K' hK=>?_
   simp only[go_sem,aG ae,Int.toNat_natCast,Int.natCast_nonneg,aj]
   repeat (refine⟨ob,?_⟩)
   refine hK _ ?_
   clear K' hK
   simp only[go_sem]
   refine⟨i+1,⟨ae,?_⟩,by(show l.length-(i+1)<l.length-i;omega),?_⟩
   ·exact kT hR bB
   refine bk [0,5,6,7] [] ?_ ?_
   ·simp only[go_sem,aE ae hl,Int.natCast_add,Int.natCast_one]
   ·simp only[go_sem,aE ae hl,Int.natCast_add,Int.natCast_one]
 ·have aX:i=l.length:=by
   have :¬ (i:Int)<l.length:=by simpa using hb
   omega
  clear hb
  subst aX
  repeat refine sq ?_
  refine b7 ?_
  simp only[go_sem]
  refine kp [0] [] ?_
  repeat refine sq ?_
  refine rs hΓ [2] [] ?_
  refine ar ?_
  simp only[go_sem]
  simp only[fD,hR,Bool.true_and]
  try (congr 2;apply propext;omega)
theorem Jw:ak Tryz.prog 83 S83:=Ql.sound
noncomputable def P87:PSpec:=p1 iS (fun _=>True) (fun l=>.bool (cR l)) true
noncomputable def S87:Spec:=P87.toSpec
attribute [go_sem] P87 S87
set_option maxHeartbeats 4000000 in
theorem Qh:aL Tryz.prog 87 P87:=by
 refine w1 (rs:=[.tmp 2]) Tryz.func87 Tryz.ntmps87 (by rfl) (by kernel_rfl) (by decide) (fun _ _=>rfl) ⟨_,rfl,lb rfl,fun l hp hw=>?_⟩
 have hP:=aU
 simp only[iS]at hw |-
 have hΓ:=Am
 have hl:l.length<=maxLen:=by have:=hw.1.1;simpa using this
 repeat refine sq ?_
 refine rs hΓ [0] [] ?_
 repeat refine sq ?_
 refine rs hΓ [0,5,6,7] [] ?_
 repeat refine sq ?_
 refine aN ?_
 repeat refine sq ?_
 refine cB (fun s:Nat=>[(7,⟨true,.v (vInt s)⟩)]) (fun s=>[]) (fun s=>s<=l.length/\fO s (fU l)=true) (fun s=>l.length-s) 0 ?_ ?_ ?_ ?_
 ·exact⟨Nat.zero_le _,rfl⟩
 ·rfl
 ·rfl
 rintro i ⟨hi,hR⟩
 simp only[go_sem]
 repeat refine sq ?_
 refine rs hΓ [0,5,6,7,8] [] ?_
 repeat refine sq ?_
 refine aw rfl rfl (fun hb=>?_) (fun hb=>?_)
 ·have ae:i<l.length:=by simpa using hb
  have aj:(i:Int)<l.length:=by omega
  clear hb
  obtain⟨p,hp,bU,gT,cm⟩:=xx ae hl
  have ea:=G6 gT ae bU
  repeat refine sq ?_
  refine ay ?_
  repeat refine sq ?_
  refine aN ?_
  repeat refine sq ?_
  refine rx hΓ [0,3,4,5,6,7] [[4,0]] (fun K' hK=>by simp only[go_sem,aG ae,Int.toNat_natCast,Int.natCast_nonneg,aj];(repeat (refine⟨ob,?_⟩));exact hK _ (by simp only[go_sem]) (by simp only[go_sem]<;>rfl)) ?_
  rcases Nat.eq_zero_or_pos i with h0 | h0
  ·have dR:(i==0)=true:=by simp[h0]
   repeat refine sq ?_
   refine dx hΓ hP [[],[0],[0,1],[0,1,2],[0,1,2,3],[0,1,2,3,4],[0,1,2,3,4,5],[0,1,2,3,4,5,6],[0,1,2,3,4,5,6,7],[0,1,2,3,4,5,6,7,8],[0,1,2,3,4,5,6,7,8,9],[0,1,2,3,4,5,6,7,8,9,10],[0,1,2,3,4,5,6,7,8,9,10,11],[0,1,2,3,4,5,6,7,8,9,10,11,12],[0,1,2,3,4,5,6,7,8,9,10,11,12,13],[0,1,2,3,4,5,6,7,8,9,10,11,12,13],[0,1,2,3,4,5,6,7,8,9,10,11,12,13,15],[0,1,2,3,4,5,6,7,8,9,10,11,12,13,14,15,16],[0,1,2,3,4,5,6,7,8,9,10,11,12,13,14,15,16,17],[0,1,2,3,4,5,6,7,8,9,10,11,12,13,14,15,16,17,18],[0,1,2,3,4,5,6,7,8,9,10,11,12,13,14,15,16,17,18,19],[0,1,2,3,4,5,6,7,8,9,10,11,12,13],[0,1,2,3,4,5,6,7,8,9,10,11,12,13,21],[0,1,2,3,4,5,6,7,8,9,10,11,12,13,14,15,16,17,18,19,20,21,22],[0,1,2,3,4,5,6,7,8,9,10,11,12,13,14,15,16,17,18,19,20,21,22,23],[0,1,2,3,4,5,6,7,8,9,10,11,12,13,14,15,16,17,18,19,20,21,22,23,24]] [0,5,6,7,37] [] (by kernel_rfl) (fun K' hK=>by simp only[go_sem,aG ae,Int.toNat_natCast,Int.natCast_nonneg,aj,dR,hp,aG ae,aG bU,Int.toNat_natCast,Int.natCast_nonneg,aj,sj,not_lt];(repeat (refine⟨by first | exact ob | exact fun _=>⟨dp,dz,rfl⟩ | exact fun _=>⟨dp,dz⟩,?_⟩));(first | refine⟨by rfl,?_⟩ | skip);exact hK _ (by simp only[go_sem]) (by simp only[go_sem]<;>rfl)) ?_
   repeat refine sq ?_
   refine aw rfl rfl (fun hb=>?_) (fun hb=>?_)
   ·repeat refine sq ?_
    have bw:fU l i=false:=by simpa[dR,hb]using ea.symm
    repeat refine sq ?_
    refine rx hΓ [2] [] (fun K' hK=>by simp only[go_sem,aG ae,Int.toNat_natCast,Int.natCast_nonneg,aj,dR];(repeat (refine⟨ob,?_⟩));exact hK _ (by simp only[go_sem]) (by simp only[go_sem]<;>rfl)) ?_
    refine ar ?_
    simp only[go_sem]
    first | simp only[cR,fN ae bw,Bool.false_and] | (simp only[cR,hR,Bool.true_and];done) | (simp only[cR,hR,Bool.true_and];congr 2;apply propext;omega)
   ·repeat refine sq ?_
    have bB:fU l i=true:=by simpa[dR,hb]using ea.symm
    refine ay ?_
    refine dq ?_
    simp only[go_sem]
    refine kp [0,5,6,7] [] ?_
    repeat refine sq ?_
    refine aS hΓ fun K' hK=>?_
    simp only[go_sem,aG ae,Int.toNat_natCast,Int.natCast_nonneg,aj,dR]
    repeat (refine⟨ob,?_⟩)
    refine hK _ ?_
    clear K' hK
    simp only[go_sem]
    refine⟨i+1,⟨ae,?_⟩,by(show l.length-(i+1)<l.length-i;omega),?_⟩
    ·exact kT hR bB
    refine bk [0,5,6,7] [] ?_ ?_
    ·simp only[go_sem,aE ae hl,Int.natCast_add,Int.natCast_one]
    ·simp only[go_sem,aE ae hl,Int.natCast_add,Int.natCast_one]
  ·have qJ:=G4 gT bU hR h0
   have dR:(i==0)=false:=by rw[beq_eq_false_iff_ne];omega
   obtain⟨dp,dz⟩:=cm h0
   repeat refine sq ?_
   refine dx hΓ hP [[],[0],[0,1],[0,1,2],[0,1,2,3],[0,1,2,3,4],[0,1,2,3,4,5],[0,1,2,3,4,5,6],[0,1,2,3,4,5,6,7],[0,1,2,3,4,5,6,7,8],[0,1,2,3,4,5,6,7,8,9],[0,1,2,3,4,5,6,7,8,9,10],[0,1,2,3,4,5,6,7,8,9,10,11],[0,1,2,3,4,5,6,7,8,9,10,11,12],[0,1,2,3,4,5,6,7,8,9,10,11,12,13],[0,1,2,3,4,5,6,7,8,9,10,11,12,13],[0,1,2,3,4,5,6,7,8,9,10,11,12,13,15],[0,1,2,3,4,5,6,7,8,9,10,11,12,13,14,15,16],[0,1,2,3,4,5,6,7,8,9,10,11,12,13,14,15,16,17],[0,1,2,3,4,5,6,7,8,9,10,11,12,13,14,15,16,17,18],[0,1,2,3,4,5,6,7,8,9,10,11,12,13,14,15,16,17,18,19],[0,1,2,3,4,5,6,7,8,9,10,11,12,13],[0,1,2,3,4,5,6,7,8,9,10,11,12,13,21],[0,1,2,3,4,5,6,7,8,9,10,11,12,13,14,15,16,17,18,19,20,21,22],[0,1,2,3,4,5,6,7,8,9,10,11,12,13,14,15,16,17,18,19,20,21,22,23],[0,1,2,3,4,5,6,7,8,9,10,11,12,13,14,15,16,17,18,19,20,21,22,23,24]] [0,5,6,7,37] [] (by kernel_rfl) (fun K' hK=>by simp only[go_sem,aG ae,Int.toNat_natCast,Int.natCast_nonneg,aj,qJ,dR,dp,dz,hp,aG ae,aG bU,Int.toNat_natCast,Int.natCast_nonneg,aj,sj,not_lt];(repeat (refine⟨by first | exact ob | exact fun _=>⟨dp,dz,rfl⟩ | exact fun _=>⟨dp,dz⟩,?_⟩));(first | refine⟨by rfl,?_⟩ | skip);exact hK _ (by simp only[go_sem]) (by simp only[go_sem]<;>rfl)) ?_
   repeat refine sq ?_
   refine aw rfl rfl (fun hb=>?_) (fun hb=>?_)
   ·repeat refine sq ?_
    have bw:fU l i=false:=by simpa[dR,<-Bool.or_assoc,hb]using ea.symm
    repeat refine sq ?_
    refine rx hΓ [2] [] (fun K' hK=>by simp only[go_sem,aG ae,Int.toNat_natCast,Int.natCast_nonneg,aj,qJ,dR,dp,dz];(repeat (refine⟨ob,?_⟩));exact hK _ (by simp only[go_sem]) (by simp only[go_sem]<;>rfl)) ?_
    refine ar ?_
    simp only[go_sem]
    first | simp only[cR,fN ae bw,Bool.false_and] | (simp only[cR,hR,Bool.true_and];done) | (simp only[cR,hR,Bool.true_and];congr 2;apply propext;omega)
   ·repeat refine sq ?_
    have bB:fU l i=true:=by simpa[dR,<-Bool.or_assoc,hb]using ea.symm
    refine ay ?_
    refine dq ?_
    simp only[go_sem]
    refine kp [0,5,6,7] [] ?_
    repeat refine sq ?_
    refine aS hΓ fun K' hK=>?_
    simp only[go_sem,aG ae,Int.toNat_natCast,Int.natCast_nonneg,aj,qJ,dR,dp,dz]
    repeat (refine⟨ob,?_⟩)
    refine hK _ ?_
    clear K' hK
    simp only[go_sem]
    refine⟨i+1,⟨ae,?_⟩,by(show l.length-(i+1)<l.length-i;omega),?_⟩
    ·exact kT hR bB
    refine bk [0,5,6,7] [] ?_ ?_
    ·simp only[go_sem,aE ae hl,Int.natCast_add,Int.natCast_one]
    ·simp only[go_sem,aE ae hl,Int.natCast_add,Int.natCast_one]
 ·have aX:i=l.length:=by
   have :¬ (i:Int)<l.length:=by simpa using hb
   omega
  clear hb
  subst aX
  repeat refine sq ?_
  refine b7 ?_
  simp only[go_sem]
  refine kp [0] [] ?_
  repeat refine sq ?_
  refine rs hΓ [2] [] ?_
  refine ar ?_
  simp only[go_sem]
  first | simp only[cR,fN ae bw,Bool.false_and] | (simp only[cR,hR,Bool.true_and];done) | (simp only[cR,hR,Bool.true_and];congr 2;apply propext;omega)
theorem Ju:ak Tryz.prog 87 S87:=Qh.sound
end Go.Eng
