import Derived.Test.YtckmfkgppohnmaaDoorK4
import Derived.Laws.Bits64
import Derived.KernelRfl
import Derived.Test.YtckmfkgppohnmaaDoorProg
import Derived.Shelf.Strings.BuilderK
import Derived.Shelf.Strconv.Itoa3
import Derived.WalkKit
import Derived.BigCall
import Derived.Lib.ItoaLen
/- Texts EngB to NW2. -/
set_option linter.all false
namespace Go.Eng
open Go
def vr(P:Program)(obj:Name->Option O)(t:Name)(T:TypeId)(n:Nat)(parts:List (Nat×D)):R:=
 match bD P T with
 |some (e,sz,_)=>
  ⟨parts.map (·.1)=List.range n/\(aI (ar 4) obj (parts.map (·.2))).ok/\(∀ x∈(aI (ar 4) obj (parts.map (·.2))).xs,x.cells.length=sz/\x.okc=true)/\
      n *sz<=16777216/\sz≠0/\(ba P e).isSome=true/\0<n/\(aI (ar 4) obj (parts.map (·.2))).obj (aK t)=none,
    .msl (aK t) n,upd (aI (ar 4) obj (parts.map (·.2))).obj (aK t) (some (.arr sz (aI (ar 4) obj (parts.map (·.2))).xs))⟩
 |none=>.bad obj
theorem OX{P:Program}{G:Ghost}{φ:Name->Loc}{m:Mem}{σ:S}{a:Act}{w:World}(hC:aD G φ m σ a w){t:Name}{T:TypeId}{n:Nat}{parts:List (Nat×D)}{vals:Array (Nat×Value)}
 (he:parts.map (·.1)=vals.toList.map (·.1)) (hr:∀ (k:Nat) (p:Nat×D) (q:Nat×Value),parts[k]?=some p->vals.toList[k]?=some q->au φ σ.obj m p.2 q.2)
 (aa:(vr P σ.obj t T n parts).ok):
 ∃ v w',(Instr.buildSlice T n vals).run P w=.ok v w'/\kE G σ a (vr P σ.obj t T n parts) v w':=by
 unfold vr at aa |-
 split at aa
 ·rename_i e sz by_ hT
  obtain⟨hu,i,hi,hs,_⟩:=gi hT
  have lT:(sizeOf e).run P w=.ok sz w:=by simp[sizeOf,typeInfo,hi,hs]
  obtain⟨h1,h2,h3,h4,h5,h6,h7,h8⟩:=aa
  obtain⟨z,hz⟩:=Option.isSome_iff_exists.1 h6
  have hlen:vals.toList.length=n:=by
   have :=congrArg List.length (he.symm.trans h1)
   simpa using this
  have t':parts.length=n:=by
   have :=congrArg List.length h1
   simpa using this
  obtain⟨m1,a1,a2,a3,a4,a5,_⟩:=np (ld 4) (parts.map (·.2)) hC (vals.toList.map (·.2)) (by simp[t'];simpa using hlen.symm)
   (fun k h h'=>by
     simp only[List.length_map]at h h'
     simp only[List.getElem_map]
     exact hr k _ _ (List.getElem?_eq_getElem h) (List.getElem?_eq_getElem h')) h2
  have kC:(aI (ar 4) σ.obj (parts.map (·.2))).xs.length=n:=by rw[a4];simpa using t'
  obtain⟨aZ,b1,b2,b3,b4⟩:=CG sz vals.toList 0 ((Array.range (n*sz)).map (z.cells[· % z.cells.size]!))
   (by rw[<-he,h1,hlen];simp)
   (fun q hq=>by
     obtain⟨k,hk,rfl⟩:=List.mem_iff_getElem.1 hq
     have h8:=a5 k (by rw[kC];omega) (by simpa using hk)
     have h9:=(h3 _ (List.getElem_mem (show k<_ by rw[kC];omega))).1
     rw[<-h9]
     simpa using h8.cells.symm) (by simp[hlen])
  have aX:=Ext.new (φ:=φ) h8 ⟨w.heap.size,0,n,false,none⟩ (.arr sz (aI (ar 4) σ.obj (parts.map (·.2))).xs)
  refine⟨.slice (some ⟨w.heap.size,0,none⟩) n n,{ w with heap:=w.heap.push (.cells aZ e) },?_,?_⟩
  ·simp only[Instr.buildSlice,Sem.run_bind,run_underlying hu,Result.andThen_ok,lT]
   have an:¬ n*sz=0:=by have:=Nat.mul_pos h7 (Nat.pos_of_ne_zero h5);omega
   simp only[Sem.run_ite,Sem.run_bind,if_neg an,pf hz,Result.andThen_ok,Sem.run_pure,b1,if_neg (show ¬ n*sz>2 ^ 24 by omega)]
   rfl
  ·refine⟨upd φ (aK t) ⟨w.heap.size,0,n,false,none⟩,m1,a2.chg (aK t) _ ⟨w.heap.size,0,n,false,none⟩ aX ⟨rfl,rfl,rfl,by show w.heap.size<=(w.heap.push _).size;simp⟩
     (fun b hb _=>kb hb) (fun _=>.inl (Nat.le_refl _)) ?_,?_⟩
   ·refine .inr ⟨rfl,by rw[kC];exact Nat.le_refl _,by show n<=maxLen;unfold maxLen;have:=Nat.le_mul_of_pos_right n (Nat.pos_of_ne_zero h5);omega,
      fun i hi=>(h3 _ (List.getElem_mem hi)).1,fun i hi x hx=>?_,aZ,e,(0,0),r7,rfl,?_,fun i j hi hj=>?_⟩
    ·have bg:i<vals.toList.length:=by omega
     exact(a5 i hi (by simpa using bg)).ones (h3 _ (List.getElem_mem hi)).2 x hx
    ·rw[b2];simp
    ·have bg:i<vals.toList.length:=by omega
     have h9:=(h3 _ (List.getElem_mem hi)).1
     have :=b4 i j bg (by omega)
     simp only[Nat.zero_add]at this
     have h8:=a5 i hi (by simpa using bg)
     have fD:j<vals.toList[i].2.cells.size:=by
      have :=h8.cells
      simp only[List.getElem_map]at this
      omega
     rw[Array.getElem?_eq_getElem fD]at this
     rw[Nat.zero_add]
     refine⟨_,this,?_⟩
     have nk:=h8.cell j hj (by simpa using fD)
     simpa using nk
   ·refine .msl _ _ _ ⟨_,_,aE _ _ _,rfl,by rw[kC];exact Nat.le_refl _,fun _=>?_⟩ rfl
    rw[aE]
    unfold Loc.slice
    simp
 ·exact aa.elim
def qF(P:Program)(Γ:FuncId->Option Spec)(σ:S)(t:Name):Op->R
 | .buildSlice T n ps=>vr P σ.obj t T n (ps.toList.map fun p=>(p.1,aj σ p.2))
 |o=>aO P Γ σ t o
theorem X'{P:Program}{Γ:FuncId->Option Spec}(hΓ:∀ f s,Γ f=some s->ak P f s){G:Ghost}{φ:Name->Loc}{m:Mem}{σ:S}{a:Act}{w:World}(hC:aD G φ m σ a w)
 (o:Oper) (t:Name) (ht:∃ k,t=k::σ.pre) (hc:kO σ o.op=true) (aa:(qF P Γ σ t o.op).ok):nF P G σ a w o (qF P Γ σ t o.op):=by
 cases ho:o.op with
 |buildSlice T n ps=>
  rw[ho]at hc aa
  obtain⟨h1,h2⟩:=zV hC (ps:=ps) (fun p hp=>cJ hc (by simp only[Op.operands,List.mem_map];exact⟨p,hp,rfl⟩))
  exact nl (s:=Instr.buildSlice T n (ps.map fun (i,x)=>(i,a.eval x))) (by simp[execOp,ho]) (OX hC h1 h2 aa)
 |_=>
  rw[ho]at aa
  have h:=LY hΓ hC o t ht hc (by rw[ho];exact aa)
  rw[ho]at h
  exact h
theorem Ya{P:Program}{Γ:FuncId->Option Spec}{σ:S}{t:Name}{op:Op}(h:(qF P Γ σ t op).ok):∀ c,op≠ .defer c:=by
 intro c e
 subst e
 exact LZ (P:=P) (Γ:=Γ) (σ:=σ) (t:=t) h c rfl
def sS(P:Program)(Γ:FuncId->Option Spec)(ops:Array Oper)(σ:S)(o:Oper):S:=
 ⟨σ.nt,match o.dst with
   |some t=>upd σ.env t ⟨dW ops σ o,(qF P Γ σ ((σ.base+t)::σ.pre) o.op).d⟩
   |none=>σ.env,if dW ops σ o=true then(qF P Γ σ ((σ.base+o.dst.getD 0)::σ.pre) o.op).obj else σ.obj,σ.pre,σ.base⟩
def z6(P:Program)(Γ:FuncId->Option Spec)(ops:Array Oper)(σ:S)(o:Oper):Prop:=
 l5 ops σ o/\(match o.dst with | some t=>t<σ.nt | none=>True)/\(dW ops σ o=true->kO σ o.op=true/\(qF P Γ σ ((σ.base+o.dst.getD 0)::σ.pre) o.op).ok)
def sK(P:Program)(Γ:FuncId->Option Spec)(ops:Array Oper):List Oper->S->(S->Prop)->Prop
 |[],σ,K=>K σ
 |o::r,σ,K=>z6 P Γ ops σ o/\sK P Γ ops r (sS P Γ ops σ o) K
theorem N9{P:Program}{Γ:FuncId->Option Spec}(hΓ:∀ f s,Γ f=some s->ak P f s){G:Ghost}{φ:Name->Loc}{m:Mem}{σ:S}{a:Act}{w:World}(hC:aD G φ m σ a w)
 {ops:Array Oper} {i:Nat} {o:Oper} (hi:ops[i]?=some o) (h:z6 P Γ ops σ o) {K:Act->World->Prop} {Q:Exit->Act->World->Prop}
 (hK:∀ a' w' φ' m',aD G φ' m' (sS P Γ ops σ o) a' w'->K a' w'):wpOpIn (eo G.rd) 0 P ops Q i K a w:=by
 obtain⟨h1,h2,h3⟩:=h
 unfold wpOpIn
 simp only[hi,Ea hC h1]
 cases hg:dW ops σ o with
 |true=>
  simp only[if_true]
  obtain⟨h4,h5⟩:=h3 hg
  refine⟨fun _ _=>trivial,?_⟩
  rw[Oper.semAt_eq _ _ _ (Ya h5)]
  refine(X' hΓ hC o ((σ.base+o.dst.getD 0)::σ.pre) ⟨_,rfl⟩ h4 h5 _ _ fun v φ' m' w' br hr=>hK _ _ φ' m' ?_)
  unfold sS
  rw[hg]
  cases hd:o.dst with
  |none=>simpa[hd,Act.put]using br
  |some t=>
   simp only[hd]at h2
   simp only[hd,Option.getD_some,if_true]at br hr |-
   refine br.put (e:=⟨true,_⟩) h2 ?_
   unfold bJ
   simpa using hr
 |false=>
  simp only[Bool.false_eq_true,if_false]
  refine⟨fun _ _=>trivial,hK _ _ φ m ?_⟩
  unfold sS
  rw[hg]
  cases hd:o.dst with
  |none=>simpa[hd,Act.put]using hC
  |some t=>
   simp only[hd]at h2
   simp only[Bool.false_eq_true,if_false]
   refine hC.put (e:=⟨false,_⟩) h2 ?_
   unfold bJ
   simp
theorem Fa{P:Program}{Γ:FuncId->Option Spec}(hΓ:∀ f s,Γ f=some s->ak P f s){G:Ghost}{ops:Array Oper}{Q:Exit->Act->World->Prop}{K:S->Prop}:
 ∀ (n k:Nat) {φ:Name->Loc} {m:Mem} {σ:S} {a:Act} {w:World},k+n=ops.size->aD G φ m σ a w->sK P Γ ops (ops.toList.drop k) σ K->
   (∀ a' w' φ' m' σ',aD G φ' m' σ' a' w'->K σ'->Q .normal a' w')->wpOpsIn (eo G.rd) 0 P ops Q (List.range' k n) a w
 | 0,k,φ,m,σ,a,w,hk,hC,hr,hQ=>by
   have :ops.toList.drop k=[]:=List.drop_eq_nil_of_le (by simp;omega)
   rw[this]at hr
   exact hQ _ _ φ m σ hC hr
 |n+1,k,φ,m,σ,a,w,hk,hC,hr,hQ=>by
  have ae:k<ops.size:=by omega
  have hd:ops.toList.drop k=ops[k]::ops.toList.drop (k+1):=by
   rw[List.drop_eq_getElem_cons (by simpa using ae)];simp
  rw[hd]at hr
  obtain⟨h1,h2⟩:=hr
  rw[List.range'_succ,wpOpsIn_cons]
  exact N9 hΓ hC (Array.getElem?_eq_getElem ae) h1 fun a' w' φ' m' br=>Fa hΓ n (k+1) (by omega) br h2 hQ
theorem Ku{P:Program}{Γ:FuncId->Option Spec}(hΓ:∀ f s,Γ f=some s->ak P f s){id:Nat}{l:List Oper}{σ:S}{K:Exit->S->Prop}
 (h:∀ K':S->Prop,(∀ σ',K .normal σ'->K' σ')->sK P Γ l.toArray l σ K'):CW P (.region id l.toArray false) σ K:=by
 intro G φ m a w hC
 refine wpIn_region ?_
 rw[List.range_eq_range']
 refine Fa hΓ (ops:=l.toArray) l.toArray.size 0 (by simp) hC (K:=K .normal) (by simpa using h (K .normal) fun _ h=>h) fun a' w' φ' m' σ' br hK=>⟨φ',m',σ',br,hK⟩
theorem ae2{P:Program}{Γ:FuncId->Option Spec}(hΓ:∀ f s,Γ f=some s->ak P f s){id:Nat}{l:List Oper}{c:Code}{r:List Code}{σ:S}{K:Exit->S->Prop}(ks:List Nat)(ns:List Name)
 (h:∀ K':S->Prop,(∀ σ',eQ ks ns σ'->CL P (c::r) (eW ks ns σ') K->K' σ')->sK P Γ l.toArray l σ K'):CL P (.region id l.toArray false::c::r) σ K:=
 Ku hΓ fun K' hK=>h K' fun σ' hc hy=>hK σ' (yf ks ns hc hy)
theorem ae4{P:Program}{Γ:FuncId->Option Spec}(hΓ:∀ f s,Γ f=some s->ak P f s){id:Nat}{l:List Oper}{σ:S}{K:Exit->S->Prop}
 (h:∀ K':S->Prop,(∀ σ',K .normal σ'->K' σ')->sK P Γ l.toArray l σ K'):CL P [.region id l.toArray false] σ K:=
 Ku hΓ fun K' hK=>h K' fun σ' hc=>hK σ' hc
attribute [go_sem] sK z6 sS qF vr List.cons_beq_cons
open Go Go.RowKit
theorem Fo{P:Program}{f:FuncId}{s:Spec}{p:PSpec}(hs:ak P f s)(an:f≠yid)(fZ:p.flat=true->∀ xs,p.pre xs->(p.fn xs).flat=true)
 (h:∀ xs,p.pre xs->(s.app (fun _=>none) [0,0] (xs.map .v)).ok/\(ar 6 (s.app (fun _=>none) [0,0] (xs.map .v)).obj (s.app (fun _=>none) [0,0] (xs.map .v)).d).ok/\
  (ar 6 (s.app (fun _=>none) [0,0] (xs.map .v)).obj (s.app (fun _=>none) [0,0] (xs.map .v)).d).x=p.fn xs):aR P f p:=by
 refine⟨an,hs.enter an,fZ,fun m w xs args mS hm hx hp=>?_⟩
 obtain⟨h1,h2,h3⟩:=h xs hp
 have bj:xs.length=args.size:=by simpa using hx.1
 have mU:(aS args.size [0] (fun _=>none) (gf 0 xs) []).obj=fun _=>none:=by
  funext nm
  simp[aS,dj]
 have hC:aD ⟨w,m,fun _=>False,none,fun _=>⟨0,0,0,true,none⟩,fun _=>none,fun _ h=>(by cases h),⟨mS,fun _ _ h=>h⟩⟩ (fun _=>⟨0,0,0,true,none⟩) m (aS args.size [0] (fun _=>none) (gf 0 xs) []) { tmps:=args,defers:=[] } w:=by
  constructor
  ·intro t
   show bJ _ _ m (dj eAny (gf 0 xs) t) _
   rcases rF (z:=eAny) (gf 0 xs) t with h1 | h1
   ·rw[h1];unfold bJ eAny;simp;exact .any _
   ·obtain⟨i,hi,h2,h3⟩:=DJ h1
    rw[h3]
    unfold bJ
    simp only[if_true]
    have bg:i<args.size:=by omega
    have e:(args.getD t undef)=args[i]:=by
     rw[h2]
     simp[Array.getD,bg]
    rw[e]
    exact .v _ _ (by have:=hx.2 i hi (by simpa using bg);rw[Array.getElem_toList]at this;exact this)
  ·rfl
  ·exact⟨[],rfl,by simp,by simp⟩
  ·intro nm o h;simp[aS,dj]at h
  ·exact hm
  ·rintro nm ⟨o,h,_⟩;simp[aS,dj]at h
  ·rintro nm im ⟨o,h,_⟩;simp[aS,dj]at h
  ·rintro nm ⟨o,h,_⟩;simp[aS,dj]at h
  ·exact⟨rfl,rfl,rfl,Nat.le_refl _,fun _ _ _=>rfl⟩
  ·intro b off v h;exact .inl h
  ·exact⟨fun _ _ h=>(by cases h),fun _ _ h=>(by cases h)⟩
 refine(hs.calls an _ _ m _ _ w hC [0,0] (xs.map .v) args ⟨0,rfl⟩ (by simpa using bj) (fun i a b=>?_) (by rw[mU];exact h1)).mono ?_
 ·simp only[List.getElem_map]
  have :=hx.2 i (by simpa using a) (by simpa using b)
  rw[Array.getElem_toList]at this
  exact .v _ _ this
 ·rintro e w' ⟨v,φ',m',rfl,h4,h5,_⟩
  rw[mU]at h4 h5
  obtain⟨m2,h6,h7,_,h8,_⟩:=ld 6 _ _ _ _ _ _ h4 _ _ h5 h2
  refine⟨v,fun b off=>match m2 b off with | some c=>some c | none=>m b off,rfl,?_,?_,?_,?_⟩
  ·exact⟨h4.fr.os,h4.fr.tape,h4.fr.output,h4.fr.size,fun k hk=>h4.fr.block k hk (fun h=>h)⟩
  ·intro b off c hc
   show (match m2 b off with | some c=>some c | none=>m b off)=some c
   cases ev:m2 b off with
   |none=>exact hc
   |some c'=>
    have k1:=h7.mem b off c' ev
    have k2:=hm b off c hc
    have ae:=kh k2
    rw[oN (h4.fr.block b ae (fun h=>h))]at k1
    rw[k2]at k1
    exact k1.symm
  ·intro b off c hc
   have jL:(match m2 b off with | some c=>some c | none=>m b off)=some c:=hc
   cases ev:m2 b off with
   |none=>rw[ev]at jL;exact .inl jL
   |some c'=>
    rw[ev]at jL
    simp only[Option.some.injEq]at jL
    subst jL
    rcases h7.fresh b off c' ev with h | h | h
    ·exact .inl h
    ·exact .inr ⟨h,h7.mem b off c' ev⟩
    ·exact h.elim
  ·rw[<-h3]
   refine h8.mono fun b off c hc=>?_
   show (match m2 b off with | some c=>some c | none=>m b off)=some c
   rw[hc]
def wZ:V->Bool
 | .int .i64 _=>true
 |_=>false
theorem TR{y:V}(h:wZ y=true):y.cells.length=1/\y.okc=true:=by
 cases y with
 |int k n=>exact⟨rfl,rfl⟩
 |_=>cases h
def pCloneI:PSpec:=⟨fun xs=>∃ l,xs=[.sl l]/\l.all wZ=true/\l.length<=1000,fun xs=>xs.headD default,false⟩
theorem aeY{P:Program}{f T E:Nat}{Z:Value}(L:sN P f T E 1 8 Z)(hz:Z.cells.size=1):aR P f pCloneI:=by
 refine Fo (u9 L) L.ne (fun h=>by cases h) ?_
 rintro xs ⟨l,rfl,hl,hn⟩
 simp only[nx,List.map_cons,List.map_nil,pCloneI,List.headD_cons]
 cases l with
 |nil=>exact⟨trivial,trivial,rfl⟩
 |cons y r=>
  have dv:∀ z∈y::r,z.cells.length=1/\z.okc=true:=fun z hz=>TR (List.all_eq_true.1 hl z hz)
  have e:gh P (fun _=>none) [0,0] T (.v (.sl (y::r)))=b9 P (fun _=>none) [0,0] T T .nilsl (.v (.sl (y::r))):=rfl
  rw[e]
  have oc:(y::r).length*8<=140737488355328:=by omega
  have iv:(y::r).length<=maxLen:=by unfold maxLen;omega
  simp only[b9,L.tE,L.tZ,aw,ar,aE,aK]
  exact⟨⟨trivial,dv,hz,oc,iv,trivial⟩,trivial,trivial⟩
noncomputable def aeZ:SpecB where
 spec:=pCloneI.toSpec
 run _ _ ds:=match ds with
  |[.v (.sl l)]=>cond (l.all wZ&&Nat.ble l.length 1000) (some ⟨.v (.sl l),[],[],fun t=>t⟩) none
  |[.nilsl]=>some ⟨.v (.sl []),[],[],fun t=>t⟩
  |_=>none
 ok:=by
  intro obj t ds r hr
  split at hr
  ·rename_i l
   cases hb:(l.all wZ&&Nat.ble l.length 1000)with
   |false=>rw[hb]at hr;cases hr
   |true=>
    rw[hb]at hr
    cases hr
    simp only[Bool.and_eq_true]at hb
    refine⟨?_,rfl,rfl,rfl,fun tbl h=>h⟩
    exact⟨⟨trivial,trivial⟩,l,rfl,hb.1,Nat.le_of_ble_eq_true hb.2⟩
  ·cases hr
   refine⟨?_,rfl,rfl,rfl,fun tbl h=>h⟩
   exact⟨⟨trivial,trivial⟩,[],rfl,rfl,Nat.zero_le _⟩
  ·cases hr
theorem Ns{σ:S}(b nm:Name)(sz:Nat)(hb:σ.obj b=some (.box [.nilsl]))(hn:σ.obj nm=none):
 db σ ⟨σ.nt,σ.env,upd (upd σ.obj nm (some (.arr sz []))) b (some (.box [.msl nm 0])),σ.pre,σ.base⟩:=by
 intro G φ m a w hC
 have an:b≠nm:=fun e=>by subst e;rw[hb]at hn;cases hn
 obtain⟨h1,h2,h3,us,T,f,h4,h5,h6,h7⟩:=hC.objs b _ hb
 have h0:0<us.size:=by rw[h6];simp
 have h8:=h7 0 (by simp) h0
 simp only[List.getElem_cons_zero]at h8
 generalize hu:us[0]=u at h8
 cases h8 with
 |nilsl b'=>
 have hx:=Ext.new (φ:=φ) hn ⟨0,0,0,true,b'⟩ (.arr sz [])
 have br:=hC.chg (w':=w) nm (.arr sz []) ⟨0,0,0,true,b'⟩ hx ⟨rfl,rfl,rfl,Nat.le_refl _⟩ (fun _ _ _=>rfl) (fun h=>by cases h) (.inl ⟨rfl,rfl⟩)
 have cF:(upd σ.obj nm (some (.arr sz []))) b=some (.box [.nilsl]):=by rw[aL _ _ _ an];exact hb
 have hφ:(upd φ nm ⟨0,0,0,true,b'⟩) b=φ b:=aL _ _ _ an
 have gB:=Ext.same (φ:=upd φ nm ⟨0,0,0,true,b'⟩) (o':=.box [.msl nm 0]) cF rfl rfl
 refine⟨_,br.chg (w':=w) b (.box [.msl nm 0]) _ gB ⟨rfl,rfl,rfl,Nat.le_refl _⟩ (fun _ _ _=>rfl) (fun _=>.inr ⟨⟨_,cF,rfl,by rw[hφ];exact h2⟩,rfl⟩) ?_⟩
 rw[dY,hφ]
 refine⟨h1,h2,by simp[D.one],us,T,f,h4,h5,by simpa using h6,fun i hi bg=>?_⟩
 have ka:i=0:=by simp at hi;exact hi
 subst ka
 simp only[List.getElem_cons_zero]
 rw[hu]
 have al:(upd (upd σ.obj nm (some (.arr sz []))) b (some (.box [.msl nm 0]))) nm=some (.arr sz []):=by rw[aL _ _ _ an.symm,aE]
 refine .msl _ _ _ ⟨_,_,al,rfl,by simp,fun _=>?_⟩ rfl
 rw[aE];rfl
theorem aaf{σ τ:S}(b nm:Name)(sz:Nat)(hb:σ.obj b=some (.box [.nilsl]))(hn:σ.obj nm=none)(ks:List Nat)(ns:List Name)
 (h:eQ ks ns ⟨σ.nt,σ.env,upd (upd σ.obj nm (some (.arr sz []))) b (some (.box [.msl nm 0])),σ.pre,σ.base⟩) (hk:eW ks ns ⟨σ.nt,σ.env,upd (upd σ.obj nm (some (.arr sz []))) b (some (.box [.msl nm 0])),σ.pre,σ.base⟩=τ):cw σ τ:=
 (Ns b nm sz hb hn).toM.trans (lC ks ns h hk)
theorem RU{K:Exit->S->Prop}{obj:Name->Option O}{nm:Name}{σ:S}{env:List E}{ps:List Nat}{a b:Code}(h:obj nm=some (.loop env ps a b .ready none))(hK:K .normal σ):lP K obj nm σ:=by
 unfold lP
 rw[h]
 exact hK
theorem ae3{P:Program}{Γ:FuncId->Option Spec}(hΓ:∀ f s,Γ f=some s->ak P f s){g:Operand}{ps:Array Tmp}{asg body:Code}{σ:S}{r:List Code}{K:Exit->S->Prop}(k k':Nat){f:FuncId}{s:Spec}{d:D}{obj':Name->Option O}
 {e8:List E} {eT:List Nat} {a' b':Code} (hc:cg σ g=true) (cS:eR (aj σ g)=some f) (an:f≠yid) (hs:Γ f=some s) (kR:σ.obj (k::σ.pre)=none)
 (hR:s.app (upd σ.obj (k::σ.pre) (some (.loop ((List.range σ.nt).map σ.env) ps.toList asg body .ready none))) (k'::σ.pre) (dM (aj σ g) [.yld (k::σ.pre)])=⟨True,d,obj'⟩)
 (hL:obj' (k::σ.pre)=some (.loop e8 eT a' b' .ready none))
 (hK:CL P r { σ with obj:=upd obj' (k::σ.pre) (some (.loop e8 eT a' b' .exhausted none)) } K):CL P (.rangeFunc g ps asg body::r) σ K:=by
 refine Dj hΓ k k' hc cS an hs kR (by rw[hR];trivial) ?_
 rw[hR]
 refine RU hL ?_
 show CL P r _ K
 have e:hU obj' (k::σ.pre)=upd obj' (k::σ.pre) (some (.loop e8 eT a' b' .exhausted none)):=by unfold hU;rw[hL]
 rw[e]
 exact hK
def yM(P:Program)(obj:Name->Option O)(t:Name)(T:TypeId)(x:D):R:=b9 P obj t T T .nilsl x
def qA(P:Program)(T:TypeId):Spec where
 app obj t ds:=match ds with | [x]=>yM P obj t T x | _=>.bad obj
 foot obj t ds:=match ds with | [x]=>aG .nilsl++aG x++[aK t] | _=>[]
 wrt obj t ds:=match ds with | [x]=>aG .nilsl++aG x++[aK t] | _=>[]
theorem RI{P:Program}{obj obj2:Name->Option O}{t:Name}{T:TypeId}{x:D}(h:bo (aG .nilsl++aG x++[aK t]) obj obj2):
 bx (yM P obj t T x) (yM P obj2 t T x) obj obj2 (aG .nilsl++aG x++[aK t]):=wO (P:=P) (obj:=obj) (obj2:=obj2) (t:=t) (T1:=T) (T2:=T) (s:=.nilsl) (x:=x) h
theorem Xm(P:Program)(T:TypeId):(qA P T).Near:=by
 refine⟨fun obj obj2 t ds h=>?_,fun obj obj2 t ds h=>rfl,fun obj t ds nm hn=>hn,fun obj obj2 t ds h=>rfl⟩
 simp only[qA]at h |-
 split at h
 ·exact RI h
 ·rename_i ke
  exact .none _ (fun _ h=>by cases h)
theorem Wg{G:Ghost}{φ:Name->Loc}{m:Mem}{σ:S}{a:Act}{w:World}(hC:aD G φ m σ a w){v:Value}(hv:au φ σ.obj m .nilsl v){nm:Name}(hn:σ.obj nm=none)(sz:Nat):
 ∃ φ',aD G φ' m { σ with obj:=upd σ.obj nm (some (.arr sz [])) } a w/\au φ' (upd σ.obj nm (some (.arr sz []))) m (.msl nm 0) v/\Ext φ φ' σ.obj (upd σ.obj nm (some (.arr sz []))):=by
 cases hv with
 |nilsl b'=>
 have hx:=Ext.new (φ:=φ) hn ⟨0,0,0,true,b'⟩ (.arr sz [])
 refine⟨_,hC.chg (w':=w) nm (.arr sz []) ⟨0,0,0,true,b'⟩ hx ⟨rfl,rfl,rfl,Nat.le_refl _⟩ (fun _ _ _=>rfl) (fun h=>by cases h) (.inl ⟨rfl,rfl⟩),?_,hx⟩
 refine .msl _ _ _ ⟨_,_,aE _ _ _,rfl,by simp,fun _=>?_⟩ rfl
 rw[aE];rfl
theorem KT{P:Program}{f T E K BY:Nat}{Z:Value}(L:sN P f T E K BY Z):ak P f (qA P T):=by
 have hs:=u9 L
 refine⟨Xm P T,hs.enter,fun an G φ m σ a w hC t ds us ht hl hr aa=>?_,fun e=>(L.ne e).elim⟩
 match ds,hl,hr,aa with
 |[],_,_,aa=>exact aa.elim
 |_::_::_,_,_,aa=>exact aa.elim
 |[x],hl,hr,aa=>
  have gU:(b9 P σ.obj t T T .nilsl x).ok:=aa
  have bI:(nx P T).app σ.obj t [x]=gh P σ.obj t T x:=rfl
  have hg:(qA P T).app σ.obj t [x]=b9 P σ.obj t T T .nilsl x:=rfl
  rw[hg]
  cases cR:(aw σ.obj x).2 with
  |cons y r=>
   have e:gh P σ.obj t T x=b9 P σ.obj t T T .nilsl x:=by unfold gh;rw[cR]
   have :=hs.calls an G φ m σ a w hC t [x] us ht hl hr (by rw[bI,e];exact gU)
   rw[bI,e]at this
   exact this
  |nil=>
   have e:gh P σ.obj t T x=⟨(aw σ.obj x).1,.nilsl,σ.obj⟩:=by unfold gh;rw[cR]
   have hT:=L.tE
   have hZ:=L.tZ
   have ha:b9 P σ.obj t T T .nilsl x=⟨(aw σ.obj x).1/\(∀ y∈(aw σ.obj x).2,y.cells.length=K/\y.okc=true)/\Z.cells.size=K/\(aw σ.obj x).2.length*BY<=140737488355328/\(aw σ.obj x).2.length<=maxLen/\σ.obj (aK t)=none,
       .msl (aK t) (aw σ.obj x).2.length,upd σ.obj (aK t) (some (.arr K (aw σ.obj x).2))⟩:=by
    simp only[b9,hT,hZ]
   rw[ha,cR]at gU
   rw[ha,cR]
   have :=hs.calls an G φ m σ a w hC t [x] us ht hl hr (by rw[bI,e];exact gU.1)
   rw[bI,e]at this
   refine this.mono ?_
   rintro e' w' ⟨v,φ',m',rfl,h1,h2,h3⟩
   obtain⟨φ2,k1,k2,k3⟩:=Wg h1 h2 gU.2.2.2.2.2 K
   exact⟨v,φ2,m',rfl,k1,k2,h3.trans k3⟩
attribute [go_sem] qA yM aw
theorem Nr{σ:S}(b nm:Name)(i sz:Nat)(cs:List D)(hb:σ.obj b=some (.box cs))(hi:cs[i]?=some .nilsl)(hn:σ.obj nm=none):
 db σ ⟨σ.nt,σ.env,upd (upd σ.obj nm (some (.arr sz []))) b (some (.box (cs.set i (.msl nm 0)))),σ.pre,σ.base⟩:=by
 intro G φ m a w hC
 have an:b≠nm:=fun e=>by subst e;rw[hb]at hn;cases hn
 obtain⟨h1,h2,h3,us,T,f,h4,h5,h6,h7⟩:=hC.objs b _ hb
 obtain⟨fC,BO⟩:=List.getElem?_eq_some_iff.1 hi
 have h0:i<us.size:=by omega
 have h8:=h7 i fC h0
 rw[BO]at h8
 generalize hu:us[i]=u at h8
 cases h8 with
 |nilsl b'=>
 have hx:=Ext.new (φ:=φ) hn ⟨0,0,0,true,b'⟩ (.arr sz [])
 have br:=hC.chg (w':=w) nm (.arr sz []) ⟨0,0,0,true,b'⟩ hx ⟨rfl,rfl,rfl,Nat.le_refl _⟩ (fun _ _ _=>rfl) (fun h=>by cases h) (.inl ⟨rfl,rfl⟩)
 have cF:(upd σ.obj nm (some (.arr sz []))) b=some (.box cs):=by rw[aL _ _ _ an];exact hb
 have hφ:(upd φ nm ⟨0,0,0,true,b'⟩) b=φ b:=aL _ _ _ an
 have gB:=Ext.same (φ:=upd φ nm ⟨0,0,0,true,b'⟩) (o':=.box (cs.set i (.msl nm 0))) cF rfl rfl
 refine⟨_,br.chg (w':=w) b (.box (cs.set i (.msl nm 0))) _ gB ⟨rfl,rfl,rfl,Nat.le_refl _⟩ (fun _ _ _=>rfl) (fun _=>.inr ⟨⟨_,cF,rfl,by rw[hφ];exact h2⟩,rfl⟩) ?_⟩
 rw[dY,hφ]
 have al:(upd (upd σ.obj nm (some (.arr sz []))) b (some (.box (cs.set i (.msl nm 0))))) nm=some (.arr sz []):=by rw[aL _ _ _ an.symm,aE]
 refine⟨h1,h2,fun d hd=>?_,us,T,f,h4,h5,by simpa using h6,fun j hj ew=>?_⟩
 ·rcases List.mem_or_eq_of_mem_set hd with h | h
  ·exact h3 d h
  ·subst h;rfl
 ·simp only[List.length_set]at hj
  rw[List.getElem_set]
  by_cases gm:i=j
  ·subst gm
   rw[if_pos rfl,hu]
   refine .msl _ _ _ ⟨_,_,al,rfl,by simp,fun _=>?_⟩ rfl
   rw[aE];rfl
  ·rw[if_neg gm]
   have :=h7 j hj ew
   exact(this.ext (Mem.le_refl m) hx).ext (Mem.le_refl m) (by rw[dY]at gB;exact gB)
theorem aae{σ τ:S}(b nm:Name)(i sz:Nat)(cs:List D)(hb:σ.obj b=some (.box cs))(hi:cs[i]?=some .nilsl)(hn:σ.obj nm=none)(ks:List Nat)(ns:List Name)
 (h:eQ ks ns ⟨σ.nt,σ.env,upd (upd σ.obj nm (some (.arr sz []))) b (some (.box (cs.set i (.msl nm 0)))),σ.pre,σ.base⟩)
 (hk:eW ks ns ⟨σ.nt,σ.env,upd (upd σ.obj nm (some (.arr sz []))) b (some (.box (cs.set i (.msl nm 0)))),σ.pre,σ.base⟩=τ):cw σ τ:=
 (Nr b nm i sz cs hb hi hn).toM.trans (lC ks ns h hk)
def lu:List D->Option (List V)
 |[]=>some []
 |d::r=>match dG d,lu r with
  |some x,some xs=>some (x::xs)
  |_,_=>none
theorem LS:∀ {ds:List D} {xs:List V},lu ds=some xs->xs.length=ds.length
 |[],xs,h=>by cases h;rfl
 |d::r,xs,h=>by
  unfold lu at h
  split at h
  ·rename_i h2
   cases h
   simp[LS h2]
  ·cases h
theorem LQ{φ:Name->Loc}{obj:Name->Option O}{m:Mem}:∀ {ds:List D} {xs:List V},lu ds=some xs->∀ (i:Nat) (h:i<ds.length) (h':i<xs.length) (u:Value),au φ obj m ds[i] u->ay m xs[i] u
 |[],xs,h,i,hi,_,_,_=>by simp at hi
 |d::r,xs,h,i,hi,bg,u,hr=>by
  unfold lu at h
  split at h
  ·rename_i x ys h1 h2
   cases h
   cases i with
   |zero=>exact mf hr h1
   |succ i=>exact LQ h2 i (by simpa using hi) (by simpa using bg) u hr
  ·cases h
theorem Ag{app:(Name->Option O)->Name->List D->R}{foot:(Name->Option O)->Name->List D->List Name}
 (h:∀ obj obj2 t ds,bo (foot obj t ds) obj obj2->foot obj2 t ds=foot obj t ds/\bx (app obj t ds) (app obj2 t ds) obj obj2 (foot obj t ds)):Spec.Near ⟨app,foot,foot⟩:=
 ⟨fun obj obj2 t ds ha=>(h obj obj2 t ds ha).2,fun obj obj2 t ds ha=>(h obj obj2 t ds ha).1,fun _ _ _ _ hn=>hn,fun obj obj2 t ds ha=>(h obj obj2 t ds ha).1⟩
theorem zd{P:Program}{f:FuncId}{s s':Spec}(h:ak P f s)(hn:s'.Near)(an:f≠yid)
 (heq:∀ obj t ds,(s'.app obj t ds).ok->∃ lf,lf.length=ds.length/\(∀ (φ:Name->Loc) (m:Mem) (us:Array Value),ds.length=us.size->(∀ i (h:i<ds.length) (h':i<us.size),au φ obj m ds[i] us[i])->∀ i (h:i<lf.length) (h':i<us.size),au φ obj m lf[i] us[i])/\
   (s.app obj t lf).ok/\(s.app obj t lf).d=(s'.app obj t ds).d/\(s.app obj t lf).obj=(s'.app obj t ds).obj):ak P f s':=by
 refine⟨hn,h.enter,fun an G φ m σ a w hC t ds us ht hl hr aa=>?_,fun e=>(an e).elim⟩
 obtain⟨lf,h0,Bk,h1,h2,h3⟩:=heq _ _ _ aa
 have :=h.calls an G φ m σ a w hC t lf us ht (h0.trans hl) (Bk φ m us hl hr) h1
 rw[h2,h3]at this
 exact this
structure NSpec where
 pre:List V->Prop
 new:List V->List (Name×O)
 d:List V->D
def NSpec.app(s:NSpec)(obj:Name->Option O)(t:Name)(ds:List D):R:=match lu ds with
 |some xs=>⟨fresh obj t (s.new xs)=true/\s.pre xs,(s.d xs).ren (cout [] t),cV [] t (s.new xs) obj⟩
 |none=>.bad obj
def NSpec.foot(s:NSpec)(_:Name->Option O)(t:Name)(ds:List D):List Name:=match lu ds with
 |some xs=>(s.new xs).map fun x=>x.1++t
 |none=>[]
def NSpec.toSpec(s:NSpec):Spec:=⟨s.app,s.foot,s.foot⟩
def NSpec.c(s:NSpec):CSpec where
 pre:=fun os ds=>os=[]/\∃ xs,ds=xs.map .v/\s.pre xs
 out:=fun _ ds=>match lu ds with
  |some xs=>⟨[],s.new xs,s.d xs⟩
  |none=>⟨[],[],.any⟩
theorem DD:∀ xs:List V,lu (xs.map .v)=some xs
 |[]=>rfl
 |x::r=>by simp[lu,dG,DD r]
theorem NSpec.near(s:NSpec):s.toSpec.Near:=by
 refine Ag fun obj obj2 t ds ha=>⟨rfl,?_⟩
 unfold NSpec.foot at ha |-
 unfold NSpec.app
 split
 ·rename_i xs h
  simp only[h]at ha
  have cl:fresh obj2 t (s.new xs)=fresh obj t (s.new xs):=xR ha
  have :=Au (ok:=fresh obj t (s.new xs)=true/\s.pre xs) (ok2:=fresh obj2 t (s.new xs)=true/\s.pre xs) (d:=(s.d xs).ren (cout [] t)) (obj:=obj) (obj2:=obj2) (L:=[]) (t:=t) (o:=⟨[],s.new xs,s.d xs⟩) (by rw[cl]) (by simpa using ha)
  simpa[bX]using this
 ·exact .none _ (fun _ h=>by cases h)
theorem F6:∀ xs:List V,c9 (xs.map .v)=[]
 |[]=>rfl
 |x::r=>by simp only[List.map_cons,c9,ti,List.nil_append];exact F6 r
theorem Ff(obj:Name->Option O)(xs:List V):reach obj (xs.map .v)=[]:=by
 unfold reach
 rw[F6]
 rfl
theorem E7(f:Name->Name):∀ xs:List V,D.renL f (xs.map .v)=xs.map .v
 |[]=>rfl
 |x::r=>by simp only[List.map_cons,D.renL,D.ren];rw[E7 f r]
theorem KM(p:Name->Bool):∀ xs:List V,D.closL p (xs.map .v)=true
 |[]=>rfl
 |x::r=>by simp only[List.map_cons,D.closL,D.clos,Bool.true_and];exact KM p r
theorem NSpec.sound{P:Program}{f:FuncId}{s:NSpec}(h:ak P f s.c.toSpec)(an:f≠yid):ak P f s.toSpec:=by
 refine zd h s.near an fun obj t ds aa=>?_
 have gU:(s.app obj t ds).ok:=aa
 show ∃ lf,_/\_/\_/\_=(s.app obj t ds).d/\_=(s.app obj t ds).obj
 unfold NSpec.app at gU |-
 split at gU
 ·rename_i xs hx
  have hlen:=LS hx
  refine⟨xs.map .v,by simpa using hlen,fun φ m us hl hr i h1 h2=>?_,?_⟩
  ·simp only[List.length_map]at h1
   simp only[List.getElem_map]
   exact .v _ _ (LQ hx i (by omega) h1 _ (hr i (by omega) h2))
  ·have e1:bZ obj (xs.map .v)=[]:=by unfold bZ;rw[Ff];rfl
   have e2:cG obj (xs.map .v)=xs.map .v:=by unfold cG;rw[E7]
   have e3:s.c.out [] (xs.map .v)=⟨[],s.new xs,s.d xs⟩:=by simp only[NSpec.c,DD]
   have e4:s.c.pre [] (xs.map .v):=⟨rfl,xs,rfl,gU.2⟩
   have e5:(shut obj []&&D.closL (bY []) (xs.map .v)&&fresh obj t (s.new xs))=true:=by
    rw[KM,gU.1];rfl
   simp only[CSpec.toSpec,e1,e2,Ff,e3,e4,e5,and_self,bX]
 ·exact gU.elim
theorem F3{P:Program}{f:FuncId}{fn:Func}{c:Code}{s:NSpec}{nt:Nat}{rs:List ResultVar}(hf:P.funcs[f]?=some fn)(hb:fn.body=some c)(ek:fn.ntmps=nt)(eJ:fn.results.toList=rs)
 (hn:(fn.name== "runtime.NumGoroutine")=false) (hy:f<1000000000)
 (h:∀ xs,s.pre xs->xs.length<=nt/\CL P [c] (aS nt [0] (fun _=>none) (eA 0 (xs.map .v)) []) (sY P rs [] ⟨[],s.new xs,s.d xs⟩)):ak P f s.toSpec:=by
 have an:f≠yid:=Nat.ne_of_lt (show f<yid from hy)
 refine NSpec.sound (lk hf hb ek eJ (gv hf hb hn) an ?_) an
 rintro os ds ⟨rfl,xs,rfl,hp⟩
 obtain⟨h1,h2⟩:=h xs hp
 have hH:be []=fun _=>none:=by funext nm;unfold be;split<;>rfl
 have e3:s.c.out [] (xs.map .v)=⟨[],s.new xs,s.d xs⟩:=by simp only[NSpec.c,DD]
 rw[hH,e3]
 exact⟨by simpa using h1,iD h2⟩
attribute [go_sem] Nat.reduceLeDiff Nat.le_refl Nat.reduceLT Nat.reduceAdd Nat.reduceEqDiff Nat.reduceSub Nat.reduceMul Nat.reduceBEq reduceIte reduceCtorEq
abbrev vInt (n:Int):V:=.int .i64 n
theorem lb{a b:Nat}(h:Nat.ble a b=true):a<=b:=Nat.le_of_ble_eq_true h
theorem sq{P:Program}{x y:Code}{r:List Code}{σ:S}{K:Exit->S->Prop}(h:CL P (x::y::r) σ K):CL P (.seq x y::r) σ K:=Xr h
theorem ob{p:Prop}(h:p:=by first | exact Bool.or_not_self _ | trivial | (unfold maxLen;omega) | exact Bool.not_or_self _ | exact fun _=>by decide | exact fun h=>⟨h,by decide⟩ | omega | ((repeat' apply And.intro)<;>first | rfl | omega | (unfold maxLen;omega) | trivial) | (simp only[decide_eq_true_eq];omega) | exact⟨_,rfl⟩ | exact fun h=>⟨h,_,rfl⟩ | exact⟨_,_,rfl⟩ | exact fun h=>⟨h,_,_,rfl⟩ | exact fun h=>⟨h,_,_,_,rfl⟩ | exact⟨_,_,_,_,rfl⟩ | exact fun h=>⟨h,_,_,_,_,rfl⟩ | exact⟨[_,_],rfl⟩ | (simp only[Bool.decide_and,Bool.decide_eq_true];exact Bool.not_or_self _) | (simp;done) | (simp_all;done) | (simp_all;omega) | (grind)):p:=h
theorem rs{P:Program}{Γ:FuncId->Option Spec}(hΓ:∀ f s,Γ f=some s->ak P f s){id:Nat}{l:List Oper}{c:Code}{r:List Code}{σ τ:S}{K:Exit->S->Prop}(ks:List Nat)(ns:List Name)(h:CL P (c::r) τ K)
 (h':∀ K':S->Prop,(∀ σ',eQ ks ns σ'->eW ks ns σ'=τ->K' σ')->mj P Γ l.toArray l σ K':=by intro K' hK;simp only[go_sem];(repeat (refine⟨ob,?_⟩));exact hK _ (by simp only[go_sem]) (by simp only[go_sem]<;>rfl)):CL P (.region id l.toArray false::c::r) σ K:=
 yl hΓ ks ns fun K' hK=>h' K' fun σ' hc he=>hK σ' hc (he▸h)
theorem rx{P:Program}{Γ:FuncId->Option Spec}(hΓ:∀ f s,Γ f=some s->ak P f s){id:Nat}{l:List Oper}{c:Code}{r:List Code}{σ τ:S}{K:Exit->S->Prop}(ks:List Nat)(ns:List Name)
 (h':∀ K':S->Prop,(∀ σ',eQ ks ns σ'->eW ks ns σ'=τ->K' σ')->mj P Γ l.toArray l σ K') (h:CL P (c::r) τ K):CL P (.region id l.toArray false::c::r) σ K:=
 yl hΓ ks ns fun K' hK=>h' K' fun σ' hc he=>hK σ' hc (he▸h)
theorem dx{P:Program}{Γ:FuncId->Option Spec}(hΓ:∀ f s,Γ f=some s->ak P f s)(hP:P.follows .mixedOrders=true)(az:List (List Nat)){id:Nat}{l:List Oper}{c:Code}{r:List Code}{σ τ:S}{K:Exit->S->Prop}(ks:List Nat)(ns:List Name)
 (hs:qZ l.toArray az=true) (h':∀ K':S->Prop,(∀ σ',eQ ks ns σ'->eW ks ns σ'=τ->K' σ')->nE P Γ l.toArray 0 az l [] σ K') (h:CL P (c::r) τ K):CL P (.region id l.toArray true::c::r) σ K:=
 Xu hΓ hP az ks ns hs fun K' hK=>h' K' fun σ' hc he=>hK σ' hc (he▸h)
theorem kp{P:Program}{c:Code}{r:List Code}{σ τ:S}{K:Exit->S->Prop}(ks:List Nat)(ns:List Name)(hc:CL P (c::r) τ K)(h:eQ ks ns σ:=by simp only[go_sem])(he:eW ks ns σ=τ:=by simp only[go_sem]<;>rfl):CL P (c::r) σ K:=
 mb ks ns h (he▸hc)
theorem rt{P:Program}{r:List Code}{σ:S}{K:Exit->S->Prop}(h:K .ret σ:=by simp only[go_sem]):CL P (.ret::r) σ K:=av h
def tbl:List (Nat×Spec)->FuncId->Option Spec
 |[],_=>none
 |(g,s)::r,f=>if f=g then some s else tbl r f
theorem tn{P:Program}:∀ f s,tbl [] f=some s->ak P f s:=fun _ _ h=>by cases h
theorem tc{P:Program}{g:Nat}{s0:Spec}{r:List (Nat×Spec)}(h:ak P g s0)(hr:∀ f s,tbl r f=some s->ak P f s):∀ f s,tbl ((g,s0)::r) f=some s->ak P f s:=by
 intro f s hf
 unfold tbl at hf
 split at hf
 ·rename_i e
  cases hf
  subst e
  exact h
 ·exact hr f s hf
attribute [go_sem] tbl
theorem we{P:Program}{f:FuncId}{fn:Func}{s:PSpec}{nt:Nat}{rs:List ResultVar}(hf:P.funcs[f]?=some fn)(ek:fn.ntmps=nt)(eJ:fn.results.toList=rs)(hn:(fn.name== "runtime.NumGoroutine")=false)(hy:f<1000000000)
 (fZ:s.flat=true->∀ xs,s.pre xs->(s.fn xs).flat=true)
 (hb:∃ c,fn.body=some c/\∀ xs,s.pre xs->V.wfL xs->xs.length<=nt/\CL P [c] (aS nt [0] (fun _=>none) (gf 0 xs) []) (pj P rs (s.fn xs))):aR P f s:=by
 obtain⟨c,hc,h⟩:=hb
 exact Fp hf hc ek eJ (gv hf hc hn) (Nat.ne_of_lt (show f<yid from hy)) fZ fun xs hp hw=>⟨(h xs hp hw).1,iD (h xs hp hw).2⟩
structure En (α:Type) where
 enc:α->V
 dec:V->α
def Kj{α:Type}(d:V->α):V->List α
 | .sl l=>l.map d
 |_=>[]
def AW{α:Type}(e:En α):En (List α):=⟨fun l=>.sl (l.map e.enc),Kj e.dec⟩
def iC(v:V):En Unit:=⟨fun _=>v,fun _=>()⟩
def iF(n:Nat):En Unit:=iC (.clo (.func n) [] [])
def p1{α:Type}(A:En α)(p:α->Prop)(g:α->V)(fl:Bool):PSpec:=
 ⟨fun xs=>match xs with | [x]=>A.enc (A.dec x)=x/\p (A.dec x) | _=>False,fun xs=>match xs with | [x]=>g (A.dec x) | _=>.bool false,fl⟩
def p2{α β:Type}(A:En α)(B:En β)(p:α->β->Prop)(g:α->β->V)(fl:Bool):PSpec:=
 ⟨fun xs=>match xs with | [x,y]=>A.enc (A.dec x)=x/\B.enc (B.dec y)=y/\p (A.dec x) (B.dec y) | _=>False,fun xs=>match xs with | [x,y]=>g (A.dec x) (B.dec y) | _=>.bool false,fl⟩
def p3{α β γ:Type}(A:En α)(B:En β)(C:En γ)(p:α->β->γ->Prop)(g:α->β->γ->V)(fl:Bool):PSpec:=
 ⟨fun xs=>match xs with | [x,y,z]=>A.enc (A.dec x)=x/\B.enc (B.dec y)=y/\C.enc (C.dec z)=z/\p (A.dec x) (B.dec y) (C.dec z) | _=>False,
  fun xs=>match xs with | [x,y,z]=>g (A.dec x) (B.dec y) (C.dec z) | _=>.bool false,fl⟩
def p4{α β γ δ:Type}(A:En α)(B:En β)(C:En γ)(D:En δ)(p:α->β->γ->δ->Prop)(g:α->β->γ->δ->V)(fl:Bool):PSpec:=
 ⟨fun xs=>match xs with | [x,y,z,u]=>A.enc (A.dec x)=x/\B.enc (B.dec y)=y/\C.enc (C.dec z)=z/\D.enc (D.dec u)=u/\p (A.dec x) (B.dec y) (C.dec z) (D.dec u) | _=>False,
  fun xs=>match xs with | [x,y,z,u]=>g (A.dec x) (B.dec y) (C.dec z) (D.dec u) | _=>.bool false,fl⟩
theorem wj{α:Type}{A:En α}{p:α->Prop}{g:α->V}{fl:Bool}{xs:List V}(h:(p1 A p g fl).pre xs):∃ a,xs=[A.enc a]/\p a/\(p1 A p g fl).fn xs=g a:=by
 unfold p1 at h
 simp only at h
 split at h
 ·exact⟨_,by rw[h.1],h.2,rfl⟩
 ·exact h.elim
theorem zY{α β:Type}{A:En α}{B:En β}{p:α->β->Prop}{g:α->β->V}{fl:Bool}{xs:List V}(h:(p2 A B p g fl).pre xs):∃ a b,xs=[A.enc a,B.enc b]/\p a b/\(p2 A B p g fl).fn xs=g a b:=by
 unfold p2 at h
 simp only at h
 split at h
 ·exact⟨_,_,by rw[h.1,h.2.1],h.2.2,rfl⟩
 ·exact h.elim
theorem FH{α β γ:Type}{A:En α}{B:En β}{C:En γ}{p:α->β->γ->Prop}{g:α->β->γ->V}{fl:Bool}{xs:List V}(h:(p3 A B C p g fl).pre xs):
 ∃ a b c,xs=[A.enc a,B.enc b,C.enc c]/\p a b c/\(p3 A B C p g fl).fn xs=g a b c:=by
 unfold p3 at h
 simp only at h
 split at h
 ·exact⟨_,_,_,by rw[h.1,h.2.1,h.2.2.1],h.2.2.2,rfl⟩
 ·exact h.elim
theorem FG{α β γ δ:Type}{A:En α}{B:En β}{C:En γ}{D:En δ}{p:α->β->γ->δ->Prop}{g:α->β->γ->δ->V}{fl:Bool}{xs:List V}(h:(p4 A B C D p g fl).pre xs):
 ∃ a b c d,xs=[A.enc a,B.enc b,C.enc c,D.enc d]/\p a b c d/\(p4 A B C D p g fl).fn xs=g a b c d:=by
 unfold p4 at h
 simp only at h
 split at h
 ·exact⟨_,_,_,_,by rw[h.1,h.2.1,h.2.2.1,h.2.2.2.1],h.2.2.2.2,rfl⟩
 ·exact h.elim
theorem QI{α:Type}{A:En α}{p:α->Prop}{g:α->V}{fl:Bool}(hg:∀ a,(g a).flat=true):(p1 A p g fl).flat=true->∀ xs,(p1 A p g fl).pre xs->((p1 A p g fl).fn xs).flat=true:=by
 intro _ xs h
 obtain⟨a,_,_,e⟩:=wj h
 rw[e];exact hg _
theorem FI{α β:Type}{A:En α}{B:En β}{p:α->β->Prop}{g:α->β->V}{fl:Bool}(hg:∀ a b,(g a b).flat=true):(p2 A B p g fl).flat=true->∀ xs,(p2 A B p g fl).pre xs->((p2 A B p g fl).fn xs).flat=true:=by
 intro _ xs h
 obtain⟨a,b,_,_,e⟩:=zY h
 rw[e];exact hg _ _
theorem QH{α β γ:Type}{A:En α}{B:En β}{C:En γ}{p:α->β->γ->Prop}{g:α->β->γ->V}{fl:Bool}(hg:∀ a b c,(g a b c).flat=true):
 (p3 A B C p g fl).flat=true->∀ xs,(p3 A B C p g fl).pre xs->((p3 A B C p g fl).fn xs).flat=true:=by
 intro _ xs h
 obtain⟨a,b,c,_,_,e⟩:=FH h
 rw[e];exact hg _ _ _
theorem QG{α β γ δ:Type}{A:En α}{B:En β}{C:En γ}{D:En δ}{p:α->β->γ->δ->Prop}{g:α->β->γ->δ->V}{fl:Bool}(hg:∀ a b c d,(g a b c d).flat=true):
 (p4 A B C D p g fl).flat=true->∀ xs,(p4 A B C D p g fl).pre xs->((p4 A B C D p g fl).fn xs).flat=true:=by
 intro _ xs h
 obtain⟨a,b,c,d,_,_,e⟩:=FG h
 rw[e];exact hg _ _ _ _
attribute [go_sem] p1 p2 p3 p4 Kj AW iC iF PSpec.toSpec yid Option.bind_some Option.bind_none
theorem ig{P:Program}:∀ f s,(fun _=>none:FuncId->Option Spec) f=some s->ak P f s:=fun f s h=>by cases h
theorem ae'{P:Program}{id:Nat}{c c2:Code}{r:List Code}{σ:S}{K:Exit->S->Prop}{ι:Type}(Q:ι->Prop)(τ:ι->S)(h1:∀ i,Q i->CL P (c2::r) (τ i) K)
 (h2:CL P [c] σ (mc id (fQ (fun σ'=>∃ i,Q i/\cw σ' (τ i)) K))):CL P (.block id c::c2::r) σ K:=by
 refine sy (CW.mono (iD h2) fun e σ' hk=>?_)
 have key:∀ e σ',fQ (fun σ'=>∃ i,Q i/\cw σ' (τ i)) K e σ'->fQ (fun σ'=>CL P (c2::r) σ' K) K e σ':=fun e σ' h=>by
  cases e with
  |normal=>
   obtain⟨i,hq,hw⟩:=h
   exact bq hw (h1 i hq)
  |_=>exact h
 cases e with
 |exit ja=>
  unfold mc at hk |-
  simp only at hk |-
  split
  ·rename_i h;rw[if_pos h]at hk;exact key _ _ hk
  ·rename_i h;rw[if_neg h]at hk;exact key _ _ hk
 |normal=>exact key .normal σ' hk
 |_=>exact hk
theorem ae9{P:Program}{c:Operand}{x y c2:Code}{r:List Code}{σ:S}{K:Exit->S->Prop}{b:Bool}(τ:S)(hc:cg σ c=true)(hd:aj σ c=.v (.bool b))
 (ht:b=true->CL P [x] σ (fQ (fun σ'=>cw σ' τ) K)) (hf:b=false->CL P [y] σ (fQ (fun σ'=>cw σ' τ) K)) (h:CL P (c2::r) τ K):CL P (.cond c x y::c2::r) σ K:=by
 have key:∀ z,CL P [z] σ (fQ (fun σ'=>cw σ' τ) K)->CL P (z::c2::r) σ K:=fun z hz=>
  CW.mono (iD hz) fun e σ' hk=>by
   cases e with
   |normal=>exact bq hk h
   |_=>exact hk
 exact ax hc hd (fun hb=>key x (ht hb)) fun hb=>key y (hf hb)
theorem aac{n:Nat}(h:¬ n=0)(hn:n<=maxLen):IntKind.i64.wrap ((n:Int)-1)=((n-1:Nat):Int):=by
 unfold maxLen at hn
 rw[wrap_i64 (by omega) (by omega)]
 omega
theorem getD_at{α:Type}{l:List α}{i:Nat}{z:α}(h:i<l.length):l.getD i z=l[i]:=by
 simp[List.getD,h]
theorem z1{os:List O}(hc:∀ o∈os,∀ dom:Name->Bool,(∀ i,dom [i,1]=true)->O.clos dom o=true)(hs:List (Name×O)):cZ [0] (cM [0] hs) (be os):=by
 intro nm o hn h
 unfold be at h
 split at h
 ·rename_i i
  refine hc o (List.mem_of_getElem? h) _ fun i=>?_
  simp only[cM,FJ,Bool.not_false,Bool.true_or]
 ·cases h
theorem adf(os:List O)(i:Nat):be os [i,1]=os[i]?:=rfl
def n1{α:Type}(A:En α)(p:α->Prop)(new:α->List (Name×O))(d:α->D):NSpec:=
 ⟨fun xs=>match xs with | [x]=>A.enc (A.dec x)=x/\p (A.dec x) | _=>False,fun xs=>match xs with | [x]=>new (A.dec x) | _=>[],fun xs=>match xs with | [x]=>d (A.dec x) | _=>.any⟩
def n2{α β:Type}(A:En α)(B:En β)(p:α->β->Prop)(new:α->β->List (Name×O))(d:α->β->D):NSpec:=
 ⟨fun xs=>match xs with | [x,y]=>A.enc (A.dec x)=x/\B.enc (B.dec y)=y/\p (A.dec x) (B.dec y) | _=>False,fun xs=>match xs with | [x,y]=>new (A.dec x) (B.dec y) | _=>[],fun xs=>match xs with | [x,y]=>d (A.dec x) (B.dec y) | _=>.any⟩
theorem F8{α:Type}{A:En α}{p:α->Prop}{new:α->List (Name×O)}{d:α->D}{xs:List V}(h:(n1 A p new d).pre xs):∃ a,xs=[A.enc a]/\p a/\(n1 A p new d).new xs=new a/\(n1 A p new d).d xs=d a:=by
 unfold n1 at h
 simp only at h
 split at h
 ·exact⟨_,by rw[h.1],h.2,rfl,rfl⟩
 ·exact h.elim
theorem adu{α β:Type}{A:En α}{B:En β}{p:α->β->Prop}{new:α->β->List (Name×O)}{d:α->β->D}{xs:List V}(h:(n2 A B p new d).pre xs):∃ a b,xs=[A.enc a,B.enc b]/\p a b/\(n2 A B p new d).new xs=new a b/\(n2 A B p new d).d xs=d a b:=by
 unfold n2 at h
 simp only at h
 split at h
 ·exact⟨_,_,by rw[h.1,h.2.1],h.2.2,rfl,rfl⟩
 ·exact h.elim
attribute [go_sem] n1 n2 NSpec.toSpec NSpec.app lu cV cout D.ren D.renL O.ren fresh
section
variable {P:Program} {f:FuncId} {fn:Func} {nt:Nat} {rs:List ResultVar}
theorem w1{α:Type}{A:En α}{p:α->Prop}{g:α->V}{fl:Bool}(hf:P.funcs[f]?=some fn)(ek:fn.ntmps=nt)(eJ:fn.results.toList=rs)(hn:(fn.name== "runtime.NumGoroutine")=false)(hy:f<1000000000)
 (fZ:fl=true->∀ a,(g a).flat=true) (hb:∃ c,fn.body=some c/\1<=nt/\∀ a,p a->V.wfL [A.enc a]->CL P [c] (aS nt [0] (fun _=>none) (gf 0 [A.enc a]) []) (pj P rs (g a))):aR P f (p1 A p g fl):=by
 obtain⟨c,hc,h1,h⟩:=hb
 refine we hf ek eJ hn hy (fun e=>QI (fZ e) e) ⟨c,hc,fun xs hp hw=>?_⟩
 obtain⟨a,rfl,hp,hg⟩:=wj hp
 rw[hg]
 exact⟨h1,h a hp hw⟩
theorem w2{α β:Type}{A:En α}{B:En β}{p:α->β->Prop}{g:α->β->V}{fl:Bool}(hf:P.funcs[f]?=some fn)(ek:fn.ntmps=nt)(eJ:fn.results.toList=rs)(hn:(fn.name== "runtime.NumGoroutine")=false)(hy:f<1000000000)
 (fZ:fl=true->∀ a b,(g a b).flat=true) (hb:∃ c,fn.body=some c/\2<=nt/\∀ a b,p a b->V.wfL [A.enc a,B.enc b]->CL P [c] (aS nt [0] (fun _=>none) (gf 0 [A.enc a,B.enc b]) []) (pj P rs (g a b))):aR P f (p2 A B p g fl):=by
 obtain⟨c,hc,h1,h⟩:=hb
 refine we hf ek eJ hn hy (fun e=>FI (fZ e) e) ⟨c,hc,fun xs hp hw=>?_⟩
 obtain⟨a,b,rfl,hp,hg⟩:=zY hp
 rw[hg]
 exact⟨h1,h a b hp hw⟩
theorem w3{α β γ:Type}{A:En α}{B:En β}{C:En γ}{p:α->β->γ->Prop}{g:α->β->γ->V}{fl:Bool}(hf:P.funcs[f]?=some fn)(ek:fn.ntmps=nt)(eJ:fn.results.toList=rs)(hn:(fn.name== "runtime.NumGoroutine")=false)(hy:f<1000000000)
 (fZ:fl=true->∀ a b c,(g a b c).flat=true) (hb:∃ c,fn.body=some c/\3<=nt/\∀ a b d,p a b d->V.wfL [A.enc a,B.enc b,C.enc d]->CL P [c] (aS nt [0] (fun _=>none) (gf 0 [A.enc a,B.enc b,C.enc d]) []) (pj P rs (g a b d))):aR P f (p3 A B C p g fl):=by
 obtain⟨c,hc,h1,h⟩:=hb
 refine we hf ek eJ hn hy (fun e=>QH (fZ e) e) ⟨c,hc,fun xs hp hw=>?_⟩
 obtain⟨a,b,d,rfl,hp,hg⟩:=FH hp
 rw[hg]
 exact⟨h1,h a b d hp hw⟩
theorem w4{α β γ δ:Type}{A:En α}{B:En β}{C:En γ}{E:En δ}{p:α->β->γ->δ->Prop}{g:α->β->γ->δ->V}{fl:Bool}(hf:P.funcs[f]?=some fn)(ek:fn.ntmps=nt)(eJ:fn.results.toList=rs)(hn:(fn.name== "runtime.NumGoroutine")=false)(hy:f<1000000000)
 (fZ:fl=true->∀ a b c d,(g a b c d).flat=true) (hb:∃ c,fn.body=some c/\4<=nt/\∀ a b d e,p a b d e->V.wfL [A.enc a,B.enc b,C.enc d,E.enc e]->CL P [c] (aS nt [0] (fun _=>none) (gf 0 [A.enc a,B.enc b,C.enc d,E.enc e]) []) (pj P rs (g a b d e))):aR P f (p4 A B C E p g fl):=by
 obtain⟨c,hc,h1,h⟩:=hb
 refine we hf ek eJ hn hy (fun e=>QG (fZ e) e) ⟨c,hc,fun xs hp hw=>?_⟩
 obtain⟨a,b,d,e,rfl,hp,hg⟩:=FG hp
 rw[hg]
 exact⟨h1,h a b d e hp hw⟩
end
open Go Go.Proofs
attribute [go_sem] nD
@[go_sem] theorem ta0:a7 Tryd.prog 0=some (false,1):=by kernel_rfl
@[go_sem] theorem y8:a7 Tryd.prog 3=some (false,1):=by kernel_rfl
@[go_sem] theorem ti3:kI Tryd.prog 3=some .i64:=by kernel_rfl
@[go_sem] theorem NK:ba Tryd.prog 3=some (.int .i64 0):=by kernel_rfl
@[go_sem] theorem ta4:a7 Tryd.prog 4=some (false,1):=by kernel_rfl
@[go_sem] theorem tz4:ba Tryd.prog 4=some (.bool false):=by kernel_rfl
@[go_sem] theorem ta5:a7 Tryd.prog 5=some (false,1):=by kernel_rfl
@[go_sem] theorem ti5:kI Tryd.prog 5=some .u8:=by kernel_rfl
@[go_sem] theorem tz5:ba Tryd.prog 5=some (.int .u8 0):=by kernel_rfl
@[go_sem] theorem ta9:a7 Tryd.prog 9=some (false,1):=by kernel_rfl
@[go_sem] theorem tl9:dp Tryd.prog 9=some 1:=by kernel_rfl
@[go_sem] theorem tz9:ba Tryd.prog 9=some (.string ⟨#[]⟩):=by kernel_rfl
@[go_sem] theorem aco:a7 Tryd.prog 22=some (false,1):=by kernel_rfl
@[go_sem] theorem abP:bD Tryd.prog 22=some (31,5,40):=by kernel_rfl
@[go_sem] theorem abg:dp Tryd.prog 22=some 0:=by kernel_rfl
@[go_sem] theorem aaJ:ba Tryd.prog 22=some (.slice none 0 0):=by kernel_rfl
@[go_sem] theorem acn:a7 Tryd.prog 23=some (false,1):=by kernel_rfl
@[go_sem] theorem abO:bD Tryd.prog 23=some (44,63,840):=by kernel_rfl
@[go_sem] theorem abf:dp Tryd.prog 23=some 0:=by kernel_rfl
@[go_sem] theorem aaI:ba Tryd.prog 23=some (.slice none 0 0):=by kernel_rfl
@[go_sem] theorem acm:a7 Tryd.prog 24=some (false,1):=by kernel_rfl
@[go_sem] theorem abN:bD Tryd.prog 24=some (54,4,48):=by kernel_rfl
@[go_sem] theorem abe:dp Tryd.prog 24=some 0:=by kernel_rfl
@[go_sem] theorem aaH:ba Tryd.prog 24=some (.slice none 0 0):=by kernel_rfl
@[go_sem] theorem ack:a7 Tryd.prog 26=some (true,2):=by kernel_rfl
@[go_sem] theorem aa9:gL Tryd.prog 26=some [(0,1),(1,1)]:=by kernel_rfl
@[go_sem] theorem aaG:ba Tryd.prog 26=some (.agg #[(.slice none 0 0),(.slice none 0 0)]):=by kernel_rfl
@[go_sem] theorem abJ:cN Tryd.prog 26 0=some (0,1,false):=by kernel_rfl
@[go_sem] theorem abI:cN Tryd.prog 26 1=some (1,1,false):=by kernel_rfl
@[go_sem] theorem acj:a7 Tryd.prog 27=some (false,1):=by kernel_rfl
@[go_sem] theorem aci:a7 Tryd.prog 31=some (true,5):=by kernel_rfl
@[go_sem] theorem aa8:gL Tryd.prog 31=some [(0,1),(1,1),(2,1),(3,1),(4,1)]:=by kernel_rfl
@[go_sem] theorem aaF:ba Tryd.prog 31=some (.agg #[(.int .i64 0),(.int .i64 0),(.int .i64 0),(.int .i64 0),(.int .i64 0)]):=by kernel_rfl
@[go_sem] theorem abH:cN Tryd.prog 31 0=some (0,1,false):=by kernel_rfl
@[go_sem] theorem abG:cN Tryd.prog 31 1=some (1,1,false):=by kernel_rfl
@[go_sem] theorem abF:cN Tryd.prog 31 2=some (2,1,false):=by kernel_rfl
@[go_sem] theorem abE:cN Tryd.prog 31 3=some (3,1,false):=by kernel_rfl
@[go_sem] theorem abD:cN Tryd.prog 31 4=some (4,1,false):=by kernel_rfl
@[go_sem] theorem ach:a7 Tryd.prog 34=some (false,1):=by kernel_rfl
@[go_sem] theorem NR:bD Tryd.prog 34=some (3,1,8):=by kernel_rfl
@[go_sem] theorem abd:dp Tryd.prog 34=some 0:=by kernel_rfl
@[go_sem] theorem aaE:ba Tryd.prog 34=some (.slice none 0 0):=by kernel_rfl
@[go_sem] theorem acg:a7 Tryd.prog 35=some (false,1):=by kernel_rfl
@[go_sem] theorem El:bD Tryd.prog 35=some (75,2,16):=by kernel_rfl
@[go_sem] theorem abb:dp Tryd.prog 35=some 0:=by kernel_rfl
@[go_sem] theorem aaD:ba Tryd.prog 35=some (.slice none 0 0):=by kernel_rfl
@[go_sem] theorem acf:a7 Tryd.prog 36=some (true,6):=by kernel_rfl
@[go_sem] theorem aaX:fF Tryd.prog 36=some (6,1,false):=by kernel_rfl
@[go_sem] theorem aa7:gL Tryd.prog 36=some [(0,1),(1,1),(2,1),(3,1),(4,1),(5,1)]:=by kernel_rfl
@[go_sem] theorem aaC:ba Tryd.prog 36=some (.agg #[(.slice none 0 0),(.slice none 0 0),(.slice none 0 0),(.slice none 0 0),(.slice none 0 0),(.slice none 0 0)]):=by kernel_rfl
@[go_sem] theorem ace:a7 Tryd.prog 37=some (true,6):=by kernel_rfl
@[go_sem] theorem aaW:fF Tryd.prog 37=some (6,1,false):=by kernel_rfl
@[go_sem] theorem aa6:gL Tryd.prog 37=some [(0,1),(1,1),(2,1),(3,1),(4,1),(5,1)]:=by kernel_rfl
@[go_sem] theorem aaB:ba Tryd.prog 37=some (.agg #[(.int .i64 0),(.int .i64 0),(.int .i64 0),(.int .i64 0),(.int .i64 0),(.int .i64 0)]):=by kernel_rfl
@[go_sem] theorem acd:a7 Tryd.prog 39=some (true,19):=by kernel_rfl
@[go_sem] theorem aa5:gL Tryd.prog 39=some [(0,1),(1,6),(7,6),(13,6)]:=by kernel_rfl
@[go_sem] theorem aaA:ba Tryd.prog 39=some (.agg #[(.slice none 0 0),(.slice none 0 0),(.slice none 0 0),(.slice none 0 0),(.slice none 0 0),(.slice none 0 0),(.slice none 0 0),(.int .i64 0),(.int .i64 0),(.int .i64 0),(.int .i64 0),(.int .i64 0),(.int .i64 0),(.int .i64 0),(.int .i64 0),(.int .i64 0),(.int .i64 0),(.int .i64 0),(.int .i64 0)]):=by kernel_rfl
@[go_sem] theorem abC:cN Tryd.prog 39 0=some (0,1,false):=by kernel_rfl
@[go_sem] theorem abB:cN Tryd.prog 39 1=some (1,6,true):=by kernel_rfl
@[go_sem] theorem abA:cN Tryd.prog 39 2=some (7,6,true):=by kernel_rfl
@[go_sem] theorem abz:cN Tryd.prog 39 3=some (13,6,true):=by kernel_rfl
@[go_sem] theorem acb:a7 Tryd.prog 41=some (true,21):=by kernel_rfl
@[go_sem] theorem aa4:gL Tryd.prog 41=some [(0,1),(1,19),(20,1)]:=by kernel_rfl
@[go_sem] theorem aaz:ba Tryd.prog 41=some (.agg #[(.int .i64 0),(.slice none 0 0),(.slice none 0 0),(.slice none 0 0),(.slice none 0 0),(.slice none 0 0),(.slice none 0 0),(.slice none 0 0),(.int .i64 0),(.int .i64 0),(.int .i64 0),(.int .i64 0),(.int .i64 0),(.int .i64 0),(.int .i64 0),(.int .i64 0),(.int .i64 0),(.int .i64 0),(.int .i64 0),(.int .i64 0),(.int .i64 0)]):=by kernel_rfl
@[go_sem] theorem aby:cN Tryd.prog 41 0=some (0,1,false):=by kernel_rfl
@[go_sem] theorem abx:cN Tryd.prog 41 1=some (1,19,true):=by kernel_rfl
@[go_sem] theorem abw:cN Tryd.prog 41 2=some (20,1,false):=by kernel_rfl
@[go_sem] theorem aca:a7 Tryd.prog 42=some (true,42):=by kernel_rfl
@[go_sem] theorem aaV:fF Tryd.prog 42=some (2,21,true):=by kernel_rfl
@[go_sem] theorem aa3:gL Tryd.prog 42=some [(0,21),(21,21)]:=by kernel_rfl
@[go_sem] theorem aay:ba Tryd.prog 42=some (.agg #[(.int .i64 0),(.slice none 0 0),(.slice none 0 0),(.slice none 0 0),(.slice none 0 0),(.slice none 0 0),(.slice none 0 0),(.slice none 0 0),(.int .i64 0),(.int .i64 0),(.int .i64 0),(.int .i64 0),(.int .i64 0),(.int .i64 0),(.int .i64 0),(.int .i64 0),(.int .i64 0),(.int .i64 0),(.int .i64 0),(.int .i64 0),(.int .i64 0),(.int .i64 0),(.slice none 0 0),(.slice none 0 0),(.slice none 0 0),(.slice none 0 0),(.slice none 0 0),(.slice none 0 0),(.slice none 0 0),(.int .i64 0),(.int .i64 0),(.int .i64 0),(.int .i64 0),(.int .i64 0),(.int .i64 0),(.int .i64 0),(.int .i64 0),(.int .i64 0),(.int .i64 0),(.int .i64 0),(.int .i64 0),(.int .i64 0)]):=by kernel_rfl
@[go_sem] theorem ab':a7 Tryd.prog 44=some (true,63):=by kernel_rfl
@[go_sem] theorem aa2:gL Tryd.prog 44=some [(0,1),(1,19),(20,42),(62,1)]:=by kernel_rfl
@[go_sem] theorem aax:ba Tryd.prog 44=some (.agg #[(.int .i64 0),(.slice none 0 0),(.slice none 0 0),(.slice none 0 0),(.slice none 0 0),(.slice none 0 0),(.slice none 0 0),(.slice none 0 0),(.int .i64 0),(.int .i64 0),(.int .i64 0),(.int .i64 0),(.int .i64 0),(.int .i64 0),(.int .i64 0),(.int .i64 0),(.int .i64 0),(.int .i64 0),(.int .i64 0),(.int .i64 0),(.int .i64 0),(.slice none 0 0),(.slice none 0 0),(.slice none 0 0),(.slice none 0 0),(.slice none 0 0),(.slice none 0 0),(.slice none 0 0),(.int .i64 0),(.int .i64 0),(.int .i64 0),(.int .i64 0),(.int .i64 0),(.int .i64 0),(.int .i64 0),(.int .i64 0),(.int .i64 0),(.int .i64 0),(.int .i64 0),(.int .i64 0),(.int .i64 0),(.int .i64 0),(.slice none 0 0),(.slice none 0 0),(.slice none 0 0),(.slice none 0 0),(.slice none 0 0),(.slice none 0 0),(.slice none 0 0),(.int .i64 0),(.int .i64 0),(.int .i64 0),(.int .i64 0),(.int .i64 0),(.int .i64 0),(.int .i64 0),(.int .i64 0),(.int .i64 0),(.int .i64 0),(.int .i64 0),(.int .i64 0),(.int .i64 0),(.int .i64 0)]):=by kernel_rfl
@[go_sem] theorem abv:cN Tryd.prog 44 0=some (0,1,false):=by kernel_rfl
@[go_sem] theorem abu:cN Tryd.prog 44 1=some (1,19,true):=by kernel_rfl
@[go_sem] theorem abt:cN Tryd.prog 44 2=some (20,42,true):=by kernel_rfl
@[go_sem] theorem abr:cN Tryd.prog 44 3=some (62,1,false):=by kernel_rfl
@[go_sem] theorem ab9:a7 Tryd.prog 45=some (false,1):=by kernel_rfl
@[go_sem] theorem abi:kI Tryd.prog 45=some .i64:=by kernel_rfl
@[go_sem] theorem aaw:ba Tryd.prog 45=some (.int .i64 0):=by kernel_rfl
@[go_sem] theorem ab8:a7 Tryd.prog 46=some (false,1):=by kernel_rfl
@[go_sem] theorem ab7:a7 Tryd.prog 49=some (false,1):=by kernel_rfl
@[go_sem] theorem ab6:a7 Tryd.prog 54=some (true,4):=by kernel_rfl
@[go_sem] theorem aa1:gL Tryd.prog 54=some [(0,1),(1,1),(2,1),(3,1)]:=by kernel_rfl
@[go_sem] theorem aav:ba Tryd.prog 54=some (.agg #[(.int .i64 0),(.int .i64 0),(.slice none 0 0),(.int .i64 0)]):=by kernel_rfl
@[go_sem] theorem abq:cN Tryd.prog 54 0=some (0,1,false):=by kernel_rfl
@[go_sem] theorem abp:cN Tryd.prog 54 1=some (1,1,false):=by kernel_rfl
@[go_sem] theorem abo:cN Tryd.prog 54 2=some (2,1,false):=by kernel_rfl
@[go_sem] theorem abn:cN Tryd.prog 54 3=some (3,1,false):=by kernel_rfl
@[go_sem] theorem ab5:a7 Tryd.prog 55=some (false,1):=by kernel_rfl
@[go_sem] theorem ab4:a7 Tryd.prog 61=some (false,1):=by kernel_rfl
@[go_sem] theorem abM:bD Tryd.prog 61=some (76,2,16):=by kernel_rfl
@[go_sem] theorem aba:dp Tryd.prog 61=some 0:=by kernel_rfl
@[go_sem] theorem aau:ba Tryd.prog 61=some (.slice none 0 0):=by kernel_rfl
@[go_sem] theorem ab3:a7 Tryd.prog 62=some (false,1):=by kernel_rfl
@[go_sem] theorem ab2:a7 Tryd.prog 64=some (false,1):=by kernel_rfl
@[go_sem] theorem ab1:a7 Tryd.prog 71=some (false,1):=by kernel_rfl
@[go_sem] theorem ab0:a7 Tryd.prog 75=some (true,2):=by kernel_rfl
@[go_sem] theorem aa0:gL Tryd.prog 75=some [(0,1),(1,1)]:=by kernel_rfl
@[go_sem] theorem NJ:ba Tryd.prog 75=some (.agg #[(.int .i64 0),(.int .i64 0)]):=by kernel_rfl
@[go_sem] theorem abm:cN Tryd.prog 75 0=some (0,1,false):=by kernel_rfl
@[go_sem] theorem abl:cN Tryd.prog 75 1=some (1,1,false):=by kernel_rfl
@[go_sem] theorem abZ:a7 Tryd.prog 76=some (true,2):=by kernel_rfl
@[go_sem] theorem aaU:fF Tryd.prog 76=some (2,1,false):=by kernel_rfl
@[go_sem] theorem aaZ:gL Tryd.prog 76=some [(0,1),(1,1)]:=by kernel_rfl
@[go_sem] theorem aat:ba Tryd.prog 76=some (.agg #[(.int .i64 0),(.int .i64 0)]):=by kernel_rfl
@[go_sem] theorem abY:a7 Tryd.prog 81=some (false,1):=by kernel_rfl
@[go_sem] theorem aas:ba Tryd.prog 81=some (.pointer none):=by kernel_rfl
@[go_sem] theorem abX:a7 Tryd.prog 85=some (false,1):=by kernel_rfl
@[go_sem] theorem abW:a7 Tryd.prog 87=some (false,1):=by kernel_rfl
@[go_sem] theorem aar:ba Tryd.prog 87=some (.pointer none):=by kernel_rfl
@[go_sem] theorem abV:a7 Tryd.prog 91=some (true,63):=by kernel_rfl
@[go_sem] theorem aaY:gL Tryd.prog 91=some [(0,63)]:=by kernel_rfl
@[go_sem] theorem aaq:ba Tryd.prog 91=some (.agg #[(.int .i64 0),(.slice none 0 0),(.slice none 0 0),(.slice none 0 0),(.slice none 0 0),(.slice none 0 0),(.slice none 0 0),(.slice none 0 0),(.int .i64 0),(.int .i64 0),(.int .i64 0),(.int .i64 0),(.int .i64 0),(.int .i64 0),(.int .i64 0),(.int .i64 0),(.int .i64 0),(.int .i64 0),(.int .i64 0),(.int .i64 0),(.int .i64 0),(.slice none 0 0),(.slice none 0 0),(.slice none 0 0),(.slice none 0 0),(.slice none 0 0),(.slice none 0 0),(.slice none 0 0),(.int .i64 0),(.int .i64 0),(.int .i64 0),(.int .i64 0),(.int .i64 0),(.int .i64 0),(.int .i64 0),(.int .i64 0),(.int .i64 0),(.int .i64 0),(.int .i64 0),(.int .i64 0),(.int .i64 0),(.int .i64 0),(.slice none 0 0),(.slice none 0 0),(.slice none 0 0),(.slice none 0 0),(.slice none 0 0),(.slice none 0 0),(.slice none 0 0),(.int .i64 0),(.int .i64 0),(.int .i64 0),(.int .i64 0),(.int .i64 0),(.int .i64 0),(.int .i64 0),(.int .i64 0),(.int .i64 0),(.int .i64 0),(.int .i64 0),(.int .i64 0),(.int .i64 0),(.int .i64 0)]):=by kernel_rfl
@[go_sem] theorem abk:cN Tryd.prog 91 0=some (0,63,true):=by kernel_rfl
@[go_sem] theorem abU:a7 Tryd.prog 92=some (false,1):=by kernel_rfl
@[go_sem] theorem aap:ba Tryd.prog 92=some (.pointer none):=by kernel_rfl
@[go_sem] theorem abT:a7 Tryd.prog 96=some (false,1):=by kernel_rfl
@[go_sem] theorem aao:ba Tryd.prog 96=some .nilFunc:=by kernel_rfl
@[go_sem] theorem abS:a7 Tryd.prog 97=some (false,1):=by kernel_rfl
@[go_sem] theorem aan:ba Tryd.prog 97=some .nilFunc:=by kernel_rfl
@[go_sem] theorem abR:a7 Tryd.prog 99=some (false,1):=by kernel_rfl
@[go_sem] theorem aam:ba Tryd.prog 99=some (.pointer none):=by kernel_rfl
@[go_sem] theorem acv:a7 Tryd.prog 100=some (false,1):=by kernel_rfl
@[go_sem] theorem acu:a7 Tryd.prog 104=some (false,1):=by kernel_rfl
@[go_sem] theorem aaN:ba Tryd.prog 104=some .nilFunc:=by kernel_rfl
@[go_sem] theorem acs:a7 Tryd.prog 112=some (false,1):=by kernel_rfl
@[go_sem] theorem abQ:bD Tryd.prog 112=some (5,1,1):=by kernel_rfl
@[go_sem] theorem abh:dp Tryd.prog 112=some 0:=by kernel_rfl
@[go_sem] theorem aaM:ba Tryd.prog 112=some (.slice none 0 0):=by kernel_rfl
@[go_sem] theorem acr:a7 Tryd.prog 113=some (false,1):=by kernel_rfl
@[go_sem] theorem abj:kI Tryd.prog 113=some .u64:=by kernel_rfl
@[go_sem] theorem aaL:ba Tryd.prog 113=some (.int .u64 0):=by kernel_rfl
@[go_sem] theorem acq:a7 Tryd.prog 126=some (true,2):=by kernel_rfl
@[go_sem] theorem aa':gL Tryd.prog 126=some [(0,1),(1,1)]:=by kernel_rfl
@[go_sem] theorem aaK:ba Tryd.prog 126=some (.agg #[(.pointer none),(.slice none 0 0)]):=by kernel_rfl
@[go_sem] theorem abL:cN Tryd.prog 126 0=some (0,1,false):=by kernel_rfl
@[go_sem] theorem abK:cN Tryd.prog 126 1=some (1,1,false):=by kernel_rfl
@[go_sem] theorem acp:a7 Tryd.prog 129=some (false,1):=by kernel_rfl
@[go_sem] theorem aaS:j5 Tryd.prog 113 3=0:=by kernel_rfl
@[go_sem] theorem aaT:j5 Tryd.prog 112 9=2:=by kernel_rfl
@[go_sem] theorem aaR:j5 Tryd.prog 3 113=0:=by kernel_rfl
@[go_sem] theorem aaQ:j5 Tryd.prog 3 5=0:=by kernel_rfl
@[go_sem] theorem aaP:j5 Tryd.prog 5 3=0:=by kernel_rfl
@[go_sem] theorem aaO:j5 Tryd.prog 9 112=1:=by kernel_rfl
theorem bc:Tryd.prog.follows .mixedOrders=true:=by kernel_rfl
def dD(obj:Name->Option O):List Name->List O->Prop
 |[],[]=>True
 |x::xs,o::os=>obj x=some o/\dD obj xs os
 |_,_=>False
theorem Q4{obj:Name->Option O}:∀ {Ls:List Name} {F:List O},dD obj Ls F->Ls.length=F.length
 |[],[],_=>rfl
 |_::_,_::_,h=>by simp only[List.length_cons,Q4 h.2]
 |[],_::_,h=>h.elim
 |_::_,[],h=>h.elim
theorem ie{obj:Name->Option O}:∀ {Ls:List Name} {F:List O},dD obj Ls F↔Ls.map obj=F.map some
 |[],[]=>by simp[dD]
 |x::xs,o::os=>by simp only[dD,List.map_cons,List.cons.injEq,ie]
 |[],_::_=>by simp[dD]
 |_::_,[]=>by simp[dD]
theorem F2{obj obj2:Name->Option O}{Ls:List Name}{F:List O}(h:dD obj Ls F)(ha:∀ x∈Ls,obj2 x=obj x):dD obj2 Ls F:=by
 rw[ie]at h |-
 rw[<-h]
 exact List.map_congr_left ha
theorem wz{obj:Name->Option O}:∀ {Ls:List Name} {F:List O},dD obj Ls F->∀ i (h:i<Ls.length) (h':i<F.length),obj Ls[i]=some F[i]
 |_::_,_::_,h,0,_,_=>h.1
 |_::_,_::_,h,i+1,h1,h2=>by
  simp only[List.getElem_cons_succ]
  exact wz h.2 i (by simpa using h1) (by simpa using h2)
def zU(K:Exit->S->Prop)(σ:S):Option Code->Prop
 |none=>K .normal σ
 |some .ret=>K .ret σ
 |some (.exit id)=>K (.exit id) σ
 |_=>False
theorem Gp{K:Exit->S->Prop}{obj:Name->Option O}{nm:Name}{σ:S}{env:List E}{ps:List Nat}{a b:Code}(pd:Option Code)(h:obj nm=some (.loop env ps a b (if pd.isNone then .ready else .done) pd))
 (hK:zU K σ pd):lP K obj nm σ:=by
 unfold lP
 rw[h]
 rcases pd with _ | c
 ·exact hK
 ·cases c<;>first | exact hK.elim | exact hK
def LR(m:Nat):List Name:=(List.range m).map fun i=>[i,1]
def LI(m:Nat):List Name:=(List.range m).map fun i=>[i+1,1]
theorem sL(m:Nat):(LR m).length=m:=by simp[LR]
theorem c7(m:Nat):(LI m).length=m:=by simp[LI]
theorem afR(m:Nat):(LR m).Nodup:=by
 unfold LR
 exact List.Pairwise.map _ (fun a b h=>by simpa using h) List.nodup_range
theorem Dl{Ls:List Name}(hn:Ls.Nodup):Ls.map (cin Ls)=LR Ls.length:=by
 refine List.ext_getElem (by simp[LR]) fun i h1 h2=>?_
 simp only[List.getElem_map,LR,List.getElem_range,cin]
 rw[AV hn (by simpa using h1)]
theorem va{R:Name}{Ls:List Name}(hn:Ls.Nodup)(hR:R∉Ls):Ls.map (cin (R::Ls))=LI Ls.length:=by
 refine List.ext_getElem (by simp[LI]) fun i h1 h2=>?_
 simp only[List.getElem_map,LI,List.getElem_range,cin]
 have h3:i<Ls.length:=by simpa using h1
 have h4:=AV (L:=R::Ls) (List.nodup_cons.2 ⟨hR,hn⟩) (i:=i+1) (by simp;omega)
 simp only[List.getElem_cons_succ]at h4
 rw[h4]
theorem Xg(Ls:List Name)(t:Name):(LR Ls.length).map (cout Ls t)=Ls:=by
 refine List.ext_getElem (by simp[LR]) fun i h1 h2=>?_
 simp only[List.getElem_map,LR,List.getElem_range,cout]
 exact jj h2
theorem yi(R:Name)(Ls:List Name)(t:Name):(LI Ls.length).map (cout (R::Ls) t)=Ls:=by
 refine List.ext_getElem (by simp[LI]) fun i h1 h2=>?_
 simp only[List.getElem_map,LI,List.getElem_range,cout]
 rw[jj (by simpa using h2)]
 simp
def cI:List Name->List O->(Name->Option O)->(Name->Option O)
 |x::xs,o::os,obj=>cI xs os (upd obj x (some o))
 |_,_,obj=>obj
theorem nO:∀ {Ls:List Name} {F:List O} {obj:Name->Option O} {x:Name},x∉Ls->cI Ls F obj x=obj x
 |[],_,_,_,_=>by simp[cI]
 |_::_,[],_,_,_=>by simp[cI]
 |y::ys,o::os,obj,x,h=>by
  simp only[List.mem_cons,not_or]at h
  simp only[cI]
  rw[nO h.2,aL _ _ _ h.1]
theorem zo:∀ {Ls:List Name} {F:List O} {obj:Name->Option O},Ls.Nodup->Ls.length=F.length->dD (cI Ls F obj) Ls F
 |[],[],_,_,_=>trivial
 |[],_::_,_,_,h=>by simp at h
 |_::_,[],_,_,h=>by simp at h
 |y::ys,o::os,obj,hn,h=>by
  rw[List.nodup_cons]at hn
  refine⟨?_,zo (obj:=upd obj y (some o)) hn.2 (by simpa using h)⟩
  simp only[cI]
  rw[nO hn.1,aE]
def dX:Nat->List O->List (Nat×O)
 |_,[]=>[]
 |k,o::r=>(k,o)::dX (k+1) r
theorem wc{t:Name}{L:List Name}:∀ {Ls:List Name} {k:Nat} {F:List O} {obj:Name->Option O},Ls.length=F.length->(∀ i (h:i<Ls.length),L.getD (k+i) []=Ls[i])->
 bX L t (dX k F) obj=cI Ls (F.map (O.ren (cout L t))) obj
 |[],k,[],obj,_,_=>rfl
 |[],k,_::_,obj,h,_=>by simp at h
 |_::_,k,[],obj,h,_=>by simp at h
 |x::xs,k,o::os,obj,h,hL=>by
  simp only[dX,bX,List.map_cons,cI]
  have h0:=hL 0 (by simp)
  simp only[Nat.add_zero,List.getElem_cons_zero]at h0
  rw[h0]
  exact wc (by simpa using h) fun i hi=>by
   have :=hL (i+1) (by simpa using hi)
   rw[show k+1+i=k+(i+1)by omega]
   simpa using this
theorem Aw:∀ {F:List O} {k i:Nat} {o:O},i<k->eh (dX k F) i o=o
 |[],k,i,o,_=>rfl
 |f::r,k,i,o,h=>by
  simp only[dX,eh]
  rw[if_neg (by omega)]
  exact Aw (by omega)
theorem z7{σ:S}:∀ {F os:List O} {k:Nat} {u:List (Nat×O)},F.length=os.length->(∀ i,k<=i->∀ o,eh u i o=eh (dX k F) i o)->
 (∀ i (h:i<F.length),σ.obj [k+i,1]=some F[i])->pz σ u k os
 |[],[],_,_,_,_,_=>trivial
 |[],_::_,_,_,h,_,_=>by simp at h
 |_::_,[],_,_,h,_,_=>by simp at h
 |f::fs,o::os,k,u,h,hu,hs=>by
  refine⟨?_,z7 (F:=fs) (by simpa using h) (fun i hi x=>?_) fun i hi=>?_⟩
  ·have h0:=hs 0 (by simp)
   simp only[Nat.add_zero,List.getElem_cons_zero]at h0
   rw[h0,hu k (Nat.le_refl _) o]
   simp only[dX,eh,if_true]
   rw[Aw (by omega)]
  ·rw[hu i (by omega) x]
   simp only[dX,eh]
   rw[if_neg (by omega)]
  ·have:=hs (i+1) (by simpa using hi)
   rw[show k+1+i=k+(i+1)by omega]
   simpa using this
structure Lp where
 m:Nat
 env:List Name->List E
 fam:List Name->Nat->List O
 ps:List Nat
 asg:Code
 body:Code
 n:Nat
 vals:Nat->List D
 st:Nat->Option Code
 fu:Nat
structure Lp.Ok (r:Lp):Prop where
 len:∀ Ls s,Ls.length=r.m->(r.fam Ls s).length=r.m
 renE:∀ f Ls,Ls.length=r.m->(r.env Ls).map (E.ren f)=r.env (Ls.map f)
 renF:∀ f Ls s,Ls.length=r.m->(r.fam Ls s).map (O.ren f)=r.fam (Ls.map f) s
 reach:∀ Ls s obj acc k,Ls.length=r.m->Ls.Nodup->(∀ x∈Ls,x∉acc)->dD obj Ls (r.fam Ls s)->ef obj (k+r.fu) (c9 ((r.env Ls).map (·.d))) acc=acc++Ls
 closE:∀ dom Ls,Ls.length=r.m->(∀ x∈Ls,dom x=true)->D.closL dom ((r.env Ls).map (·.d))=true
 closF:∀ dom Ls s,Ls.length=r.m->(∀ x∈Ls,dom x=true)->∀ o∈r.fam Ls s,O.clos dom o=true
 psz:∀ Ls,Ls.length=r.m->(r.ps.all fun p=>decide (p<(r.env Ls).length))=true
 args:∀ s,(r.vals s).length=r.ps.length
 fuel:r.fu<=2000
 vnam:∀ s,c9 (r.vals s)=[]
 vcl:∀ s dom,D.closL dom (r.vals s)=true
 vren:∀ s f,D.renL f (r.vals s)=r.vals s
 inj:∀ s s',s<r.n->s'<r.n->r.vals s=r.vals s'->s=s'
theorem Q7(a:List D):∀ vs:List V,c9 (a++vs.map D.v)=c9 a:=by
 intro vs
 have h0:∀ vs:List V,c9 (vs.map D.v)=[]:=by
  intro vs
  induction vs with
  |nil=>rfl
  |cons x r ih=>simp only[List.map_cons,c9,ti,List.nil_append,ih]
 induction a with
 |nil=>simpa[c9]using h0 vs
 |cons x r ih=>simp only[List.cons_append,c9,ih]
theorem KL(dom:Name->Bool)(vs:List V):∀ a:List D,D.closL dom (a++vs.map D.v)=D.closL dom a:=by
 have h0:∀ vs:List V,D.closL dom (vs.map D.v)=true:=by
  intro vs
  induction vs with
  |nil=>rfl
  |cons x r ih=>simp only[List.map_cons,D.closL,D.clos,ih,Bool.and_self]
 intro a
 induction a with
 |nil=>simpa[D.closL]using h0 vs
 |cons x r ih=>simp only[List.cons_append,D.closL,ih]
theorem Qp(f:Name->Name)(vs:List V):D.renL f (vs.map D.v)=vs.map D.v:=by
 induction vs with
 |nil=>rfl
 |cons x r ih=>simp only[List.map_cons,D.renL,D.ren,ih]
theorem aah{a b:List V}(h:a.map D.v=b.map D.v):a=b:=by
 have :Function.Injective D.v:=fun x y h=>by injection h
 exact(List.map_inj_right this).1 h
theorem Q8(a b:List D):c9 (a++b)=c9 a++c9 b:=by
 induction a with
 |nil=>rfl
 |cons x r ih=>simp only[List.cons_append,c9,ih,List.append_assoc]
theorem KS(dom:Name->Bool)(a b:List D):D.closL dom (a++b)=(D.closL dom a&&D.closL dom b):=by
 induction a with
 |nil=>simp[D.closL]
 |cons x r ih=>simp only[List.cons_append,D.closL,ih,Bool.and_assoc]
noncomputable def Lp.y(r:Lp):YSpec where
 pre:=fun env ps asg body os ds=>∃ s,s<r.n/\(∀ j,j<s->r.st j=none)/\env=r.env (LR r.m)/\ps=r.ps/\asg=r.asg/\body=r.body/\os=r.fam (LR r.m) s/\ds=r.vals s
 out:=fun _ _ _ _ _ ds=>by
  classical exact if h:∃ s,s<r.n/\ds=r.vals s then(⟨dX 0 (r.fam (LR r.m) (h.choose+1)),[],.v (.bool true)⟩,r.st h.choose)else(⟨[],[],.any⟩,none)
theorem Lp.y_out{r:Lp}(hr:r.Ok){s:Nat}(hs:s<r.n)(env:List E)(ps:List Nat)(asg body:Code)(os:List O):
 r.y.out env ps asg body os (r.vals s)=(⟨dX 0 (r.fam (LR r.m) (s+1)),[],.v (.bool true)⟩,r.st s):=by
 have h:∃ s',s'<r.n/\r.vals s=r.vals s':=⟨s,hs,rfl⟩
 have e:h.choose=s:=(hr.inj _ _ hs h.choose_spec.1 h.choose_spec.2).symm
 simp only[Lp.y]
 rw[dif_pos h,e]
def Ql(m:Nat)(F:List O)(p:Option Code):Exit->S->Prop
 | .normal,σ=>p=none/\dD σ.obj (LR m) F
 | .ret,σ=>p=some .ret/\dD σ.obj (LR m) F
 | .exit id,σ=>p=some (.exit id)/\dD σ.obj (LR m) F
 |_,_=>False
theorem WA{os F:List O}{σ:S}{m:Nat}(h1:os.length=m)(h2:F.length=m)(hc:∀ dom:Name->Bool,(∀ x∈LR m,dom x=true)->∀ o∈F,O.clos dom o=true)(h:dD σ.obj (LR m) F):
 fL os ⟨dX 0 F,[],.v (.bool true)⟩ σ:=by
 have eZ:∀ i (hi:i<F.length),σ.obj [i,1]=some F[i]:=by
  rw[ie]at h
  intro i hi
  have h3:=congrArg (fun l=>l[i]?) h
  have bg:i<m:=by omega
  simpa[LR,hi,bg]using h3
 refine⟨z7 (F:=F) (by omega) (fun i _ o=>rfl) fun i hi=>by rw[Nat.zero_add];exact eZ i hi,trivial,?_⟩
 have ov:∀ x∈LR m,da os.length [] x=true:=by
  intro x hx
  obtain⟨i,hi,rfl⟩:=List.mem_map.1 hx
  have :=List.mem_range.1 hi
  simp[da]
  omega
 have dv:∀ (F':List O) (k:Nat),(∀ o∈F',O.clos (da os.length []) o=true)->k+F'.length<=os.length->((dX k F').all fun x=>O.clos (da os.length []) x.2&&decide (x.1<os.length))=true:=by
  intro F'
  induction F' with
  |nil=>intros;rfl
  |cons f fs ih=>
   intro k hf hk
   simp only[List.length_cons]at hk
   simp only[dX,List.all_cons,Bool.and_eq_true,decide_eq_true_eq]
   exact⟨⟨hf f (by simp),by omega⟩,by have:=ih (k+1) (fun o ho=>hf o (by simp[ho])) (by omega);simpa using this⟩
 have :=dv F 0 (hc _ ov) (by omega)
 simp only[D.clos,this,List.all_nil,List.map_nil,distinct,Bool.and_self]
theorem Lp.y_sound{P:Program}{r:Lp}(hr:r.Ok)(h:∀ s,s<r.n->(∀ j,j<s->r.st j=none)->
 CW P r.asg ⟨(r.env (LR r.m)).length,setP (qt (r.env (LR r.m))) r.ps (r.vals s),be (r.fam (LR r.m) s),[0],0⟩ (FO fun σ1=>CW P r.body σ1 (Ql r.m (r.fam (LR r.m) (s+1)) (r.st s)))):ak P yid r.y.toSpec:=by
 refine DZ ?_
 rintro env ps asg body os ds ⟨s,hs,hj,rfl,rfl,rfl,rfl,rfl,rfl⟩ _
 rw[Lp.y_out hr hs]
 refine CW.mono (h s hs hj) fun e σ hk=>?_
 cases e with
 |normal=>
  refine CW.mono hk fun e σ hk=>?_
  have fin:dD σ.obj (LR r.m) (r.fam (LR r.m) (s+1))->fL (r.fam (LR r.m) s) ⟨dX 0 (r.fam (LR r.m) (s+1)),[],.v (.bool true)⟩ σ:=
   WA (hr.len _ _ (sL _)) (hr.len _ _ (sL _)) fun dom hd=>hr.closF dom _ _ (sL _) hd
  cases e with
  |normal=>exact⟨hk.1,fin hk.2⟩
  |ret=>exact⟨hk.1,fin hk.2⟩
  |exit id=>exact⟨hk.1,fin hk.2⟩
  |goto l=>exact hk.elim
  |panic c=>exact hk.elim
  |outgrown=>exact hk.elim
 |ret=>exact hk.elim
 |exit id=>exact hk.elim
 |goto l=>exact hk.elim
 |panic c=>exact hk.elim
 |outgrown=>exact hk.elim
def Lp.rc(r:Lp)(Ls:List Name)(st:LoopState)(pd:Option Code):O:=.loop (r.env Ls) r.ps r.asg r.body st pd
theorem Lp.y_app{r:Lp}(hr:r.Ok){s:Nat}(hs:s<r.n)(hj:∀ j,j<s->r.st j=none){obj:Name->Option O}{t R:Name}{Ls:List Name}(hl:Ls.length=r.m)(hn:Ls.Nodup)(hR:R∉Ls)
 (h0:obj R=some (r.rc Ls .ready none)) (hF:dD obj Ls (r.fam Ls s)):
 r.y.toSpec.app obj t (.yld R::r.vals s)=⟨True,.v (.bool (r.st s).isNone),upd (cI Ls (r.fam Ls (s+1)) obj) R (some (r.rc Ls (if (r.st s).isNone then .ready else .done) (r.st s)))⟩:=by
 have iu:reach obj (roots (r.env Ls) (r.vals s))=Ls:=by
  unfold reach roots
  rw[Q8,hr.vnam,List.append_nil]
  have :=hr.reach Ls s obj [] (3000-r.fu) hl hn (fun _ _=>by simp) hF
  rwa [show 3000-r.fu+r.fu=3000 by have:=hr.fuel;omega]at this
 have e1:bZ obj (roots (r.env Ls) (r.vals s))=r.fam (LR r.m) s:=by
  unfold bZ
  rw[iu]
  have :Ls.map (bV Ls obj)=(r.fam Ls s).map (O.ren (cin Ls)):=by
   rw[ie]at hF
   refine List.ext_getElem (by simp[hr.len _ _ hl,hl]) fun i h1 h2=>?_
   have h3:i<Ls.length:=by simpa using h1
   have h4:i<(r.fam Ls s).length:=by rw[hr.len _ _ hl,<-hl];exact h3
   have h5:=congrArg (fun l=>l[i]?) hF
   have h6:obj Ls[i]=some (r.fam Ls s)[i]:=by simpa[h3,h4]using h5
   simp only[List.getElem_map,bV,h6]
  rw[this,hr.renF _ _ _ hl,Dl hn,hl]
 have e2:gy obj (r.env Ls) (r.vals s)=r.env (LR r.m):=by
  unfold gy
  rw[iu,hr.renE _ _ hl,Dl hn,hl]
 have e3:g' obj (r.env Ls) (r.vals s)=r.vals s:=by
  unfold g'
  exact hr.vren s _
 have e4:r.y.o obj (r.env Ls) r.ps r.asg r.body (r.vals s)=(⟨dX 0 (r.fam (LR r.m) (s+1)),[],.v (.bool true)⟩,r.st s):=by
  unfold YSpec.o
  rw[e1,e2,e3,Lp.y_out hr hs]
 have cr:r.y.pre (r.env (LR r.m)) r.ps r.asg r.body (r.fam (LR r.m) s) (r.vals s):=⟨s,hs,hj,rfl,rfl,rfl,rfl,rfl,rfl⟩
 have bI:D.closL (bY Ls) (roots (r.env Ls) (r.vals s))=true:=by
  unfold roots
  rw[KS,hr.vcl,Bool.and_true]
  exact hr.closE _ _ hl fun x hx=>gS.2 hx
 have fb:shut obj Ls=true:=by
  unfold shut
  rw[List.all_eq_true]
  intro x hx
  obtain⟨i,hi,rfl⟩:=List.getElem_of_mem hx
  rw[ie]at hF
  have h4:i<(r.fam Ls s).length:=by rw[hr.len _ _ hl,<-hl];exact hi
  have h5:=congrArg (fun l=>l[i]?) hF
  have h6:obj Ls[i]=some (r.fam Ls s)[i]:=by simpa[hi,h4]using h5
  rw[h6]
  exact hr.closF _ _ _ hl (fun x hx=>gS.2 hx) _ (List.getElem_mem h4)
 have UQ:bY Ls R=false:=by
  cases h:bY Ls R with
  |false=>rfl
  |true=>exact(hR (gS.1 h)).elim
 have hp:bX Ls t (dX 0 (r.fam (LR r.m) (s+1))) obj=cI Ls (r.fam Ls (s+1)) obj:=by
  rw[wc (Ls:=Ls) (by rw[hr.len _ _ (sL _),hl]) fun i hi=>by rw[Nat.zero_add];exact jj hi,hr.renF _ _ _ (sL _)]
  have :(LR r.m).map (cout Ls t)=Ls:=by rw[<-hl];exact Xg Ls t
  rw[this]
 unfold Lp.rc at h0
 simp only[YSpec.toSpec,h0,e1,e2,e3,e4,iu,bI,fb,UQ,fresh,List.all_nil,Bool.and_self,Bool.not_false,hr.args,decide_true,hr.psz Ls hl,cr,cV,hp,and_self]
 rfl
def Lp.e(r:Lp):Nat:=match (List.range r.n).find? (fun s=>(r.st s).isSome)with | some s=>s+1 | none=>r.n
def Lp.pd(r:Lp):Option Code:=match (List.range r.n).find? (fun s=>(r.st s).isSome)with | some s=>r.st s | none=>none
def Lp.fin(r:Lp)(Ls:List Name):O:=r.rc Ls (if r.pd.isNone then .ready else .done) r.pd
def Lp.it(r:Lp)(caps:List V):CSpec where
 pre:=fun os ds=>os=r.rc (LI r.m) .ready none::r.fam (LI r.m) 0/\ds=.yld [0,1]::caps.map .v
 out:=fun _ _=>⟨(0,r.fin (LI r.m))::dX 1 (r.fam (LI r.m) r.e),[],.tup []⟩
theorem Lp.it_app{r:Lp}(hr:r.Ok){caps:List V}{obj:Name->Option O}{t R:Name}{Ls:List Name}(hl:Ls.length=r.m)(hn:Ls.Nodup)(hR:R∉Ls)
 (h0:obj R=some (r.rc Ls .ready none)) (hF:dD obj Ls (r.fam Ls 0)):
 (r.it caps).toSpec.app obj t (.yld R::caps.map .v)=⟨True,.tup [],cI Ls (r.fam Ls r.e) (upd obj R (some (r.fin Ls)))⟩:=by
 have ub:(R::Ls).Nodup:=List.nodup_cons.2 ⟨hR,hn⟩
 have iu:reach obj (.yld R::caps.map .v)=R::Ls:=by
  have h1:c9 (.yld R::caps.map .v)=[R]:=by
   have :=Q7 [.yld R] caps
   simpa[c9,ti]using this
  unfold reach
  rw[h1]
  show ef obj (2999+1) [R] []=R::Ls
  unfold Lp.rc at h0
  simp only[ef,bY,List.any_nil,Bool.false_eq_true,if_false,h0,nW,List.append_nil,List.nil_append]
  have :=hr.reach Ls 0 obj [R] (2999-r.fu) hl hn (fun x hx=>by simp only[List.mem_singleton];rintro rfl;exact hR hx) hF
  rw[show 2999-r.fu+r.fu=2999 by have:=hr.fuel;omega]at this
  simpa using this
 have B3:∀ s,dD obj Ls (r.fam Ls s)->Ls.map (bV (R::Ls) obj)=(r.fam Ls s).map (O.ren (cin (R::Ls))):=by
  intro s hF
  rw[ie]at hF
  refine List.ext_getElem (by simp[hr.len _ _ hl,hl]) fun i h1 h2=>?_
  have h3:i<Ls.length:=by simpa using h1
  have h4:i<(r.fam Ls s).length:=by rw[hr.len _ _ hl,<-hl];exact h3
  have h5:=congrArg (fun l=>l[i]?) hF
  have h6:obj Ls[i]=some (r.fam Ls s)[i]:=by simpa[h3,h4]using h5
  simp only[List.getElem_map,bV,h6]
 have e1:bZ obj (.yld R::caps.map .v)=r.rc (LI r.m) .ready none::r.fam (LI r.m) 0:=by
  unfold bZ
  rw[iu,List.map_cons,B3 0 hF,hr.renF _ _ _ hl,va hn hR,hl]
  congr 1
  unfold Lp.rc at h0 |-
  simp only[bV,h0,O.ren]
  rw[hr.renE _ _ hl,va hn hR,hl]
 have e2:cG obj (.yld R::caps.map .v)=.yld [0,1]::caps.map .v:=by
  unfold cG
  rw[iu]
  simp only[D.renL,D.ren,Qp,cin,idx,if_true]
 have cr:(r.it caps).pre (r.rc (LI r.m) .ready none::r.fam (LI r.m) 0) (.yld [0,1]::caps.map .v):=⟨rfl,rfl⟩
 have fB:∀ os ds,(r.it caps).out os ds=⟨(0,r.fin (LI r.m))::dX 1 (r.fam (LI r.m) r.e),[],.tup []⟩:=fun _ _=>rfl
 have r5:∀ x∈Ls,bY (R::Ls) x=true:=fun x hx=>gS.2 (List.mem_cons_of_mem _ hx)
 have fb:shut obj (R::Ls)=true:=by
  unfold shut
  rw[List.all_eq_true]
  intro x hx
  rcases List.mem_cons.1 hx with rfl | hx
  ·rw[h0]
   unfold Lp.rc
   exact hr.closE _ _ hl r5
  obtain⟨i,hi,rfl⟩:=List.getElem_of_mem hx
  rw[ie]at hF
  have h4:i<(r.fam Ls 0).length:=by rw[hr.len _ _ hl,<-hl];exact hi
  have h5:=congrArg (fun l=>l[i]?) hF
  have h6:obj Ls[i]=some (r.fam Ls 0)[i]:=by simpa[hi,h4]using h5
  rw[h6]
  exact hr.closF _ _ _ hl r5 _ (List.getElem_mem h4)
 have bI:D.closL (bY (R::Ls)) (.yld R::caps.map .v)=true:=by
  have :=KL (bY (R::Ls)) caps [.yld R]
  simp only[List.singleton_append]at this
  rw[this]
  simp[D.closL,D.clos,bY]
 have hp:∀ obj',bX (R::Ls) t (dX 1 (r.fam (LI r.m) r.e)) obj'=cI Ls (r.fam Ls r.e) obj':=by
  intro obj'
  rw[wc (Ls:=Ls) (by rw[hr.len _ _ (c7 _),hl]) fun i hi=>by
   rw[Nat.add_comm,List.getD_cons_succ];exact jj hi,hr.renF _ _ _ (c7 _)]
  have :(LI r.m).map (cout (R::Ls) t)=Ls:=by rw[<-hl];exact yi R Ls t
  rw[this]
 have hf:O.ren (cout (R::Ls) t) (r.fin (LI r.m))=r.fin Ls:=by
  unfold Lp.fin Lp.rc
  simp only[O.ren]
  rw[hr.renE _ _ (c7 _)]
  have :(LI r.m).map (cout (R::Ls) t)=Ls:=by rw[<-hl];exact yi R Ls t
  rw[this]
 simp only[CSpec.toSpec,e1,e2,iu,fB,fb,bI,fresh,List.all_nil,Bool.and_self,cr,and_self,cV,bX,List.getD_cons_zero,hf,hp,D.ren,D.renL]
theorem Lp.it_end{P:Program}{r:Lp}(hr:r.Ok){σ:S}(h0:σ.obj [0,1]=some (r.fin (LI r.m)))(h1:dD σ.obj (LI r.m) (r.fam (LI r.m) r.e)):
 (bL P σ []).ok/\(bL P σ []).d=.tup []/\fL (r.rc (LI r.m) .ready none::r.fam (LI r.m) 0) ⟨(0,r.fin (LI r.m))::dX 1 (r.fam (LI r.m) r.e),[],.tup []⟩ σ:=by
 have UY:=hr.len (LI r.m) 0 (c7 _)
 have hle:=hr.len (LI r.m) r.e (c7 _)
 have eZ:∀ i (hi:i<(r.fam (LI r.m) r.e).length),σ.obj [1+i,1]=some (r.fam (LI r.m) r.e)[i]:=by
  intro i hi
  have h3:=wz h1 i (by rw[c7];omega) hi
  rw[Nat.add_comm]
  simpa only[LI,List.getElem_map,List.getElem_range]using h3
 have ov:∀ x∈LI r.m,da (r.m+1) [] x=true:=by
  intro x hx
  obtain⟨i,hi,rfl⟩:=List.mem_map.1 hx
  have :=List.mem_range.1 hi
  simp[da]
  omega
 refine⟨fun x hx=>by simp at hx,rfl,⟨⟨?_,z7 (F:=r.fam (LI r.m) r.e) (by omega) (fun i hi o=>by simp only[eh];rw[if_neg (by omega)]) eZ⟩,trivial,?_⟩⟩
 ·simp only[eh,if_true]
  rw[h0,Aw (by omega)]
 have dv:∀ (F':List O) (k:Nat),(∀ o∈F',O.clos (da (r.m+1) []) o=true)->k+F'.length<=r.m+1->((dX k F').all fun x=>O.clos (da (r.m+1) []) x.2&&decide (x.1<r.m+1))=true:=by
  intro F'
  induction F' with
  |nil=>intros;rfl
  |cons f fs ih=>
   intro k hf hk
   simp only[List.length_cons]at hk
   simp only[dX,List.all_cons,Bool.and_eq_true,decide_eq_true_eq]
   exact⟨⟨hf f (by simp),by omega⟩,by have:=ih (k+1) (fun o ho=>hf o (by simp[ho])) (by omega);simpa using this⟩
 have h5:=dv (r.fam (LI r.m) r.e) 1 (hr.closF _ _ _ (c7 _) ov) (by omega)
 have h6:O.clos (da (r.m+1) []) (r.fin (LI r.m))=true:=hr.closE _ _ (c7 _) ov
 have hlen:(r.rc (LI r.m) .ready none::r.fam (LI r.m) 0).length=r.m+1:=by rw[List.length_cons,UY]
 have h7:D.clos (da (r.m+1) []) (.tup [])=true:=rfl
 simp only[hlen,h7,List.all_cons,h6,h5,List.all_nil,List.map_nil,distinct,Bool.and_self,Bool.true_and,Bool.and_true]
 simp
theorem ae7{P:Program}{Γ:FuncId->Option Spec}(hΓ:∀ f s,Γ f=some s->ak P f s){r:Lp}(hr:r.Ok){caps:List V}{g:Operand}{ps:Array Tmp}{asg body:Code}{σ:S}{rest:List Code}{K:Exit->S->Prop}(k k':Nat){f:FuncId}{Ls:List Name}
 (hc:cg σ g=true) (hg:aj σ g=.v (.clo (.func f) [] caps)) (an:f≠yid) (hs:Γ f=some (r.it caps).toSpec) (kR:σ.obj (k::σ.pre)=none)
 (he:(List.range σ.nt).map σ.env=r.env Ls) (eu:ps.toList=r.ps) (ha:asg=r.asg) (hb:body=r.body) (hl:Ls.length=r.m) (hn:Ls.Nodup) (hR:(k::σ.pre)∉Ls) (hF:dD σ.obj Ls (r.fam Ls 0))
 (hK:∀ o:O,zU (fQ (fun σ'=>CL P rest σ' K) K) { σ with obj:=upd (cI Ls (r.fam Ls r.e) σ.obj) (k::σ.pre) (some o) } r.pd):CL P (.rangeFunc g ps asg body::rest) σ K:=by
 subst ha
 subst hb
 generalize k9:k::σ.pre=R at *
 have B7:∀ x∈Ls,(upd σ.obj R (some (r.rc Ls .ready none))) x=σ.obj x:=fun x hx=>aL _ _ _ (by rintro rfl;exact hR hx)
 have kY:=Lp.it_app hr (caps:=caps) (t:=k'::σ.pre) hl hn hR (aE σ.obj R (some (r.rc Ls .ready none))) (F2 hF B7)
 have tY:O.loop ((List.range σ.nt).map σ.env) ps.toList r.asg r.body .ready none=r.rc Ls .ready none:=by unfold Lp.rc;rw[he,eu]
 have ji:dM (aj σ g) [.yld R]=.yld R::caps.map .v:=by rw[hg];rfl
 have cS:eR (aj σ g)=some f:=by rw[hg];simp[eR,an]
 have Ba:∀ (F:List O) (obj:Name->Option O) (a b:Option O),upd (cI Ls F (upd obj R a)) R b=upd (cI Ls F obj) R b:=by
  intro F obj a b
  funext x
  by_cases h:x=R
  ·subst h;rw[aE,aE]
  ·rw[aL _ _ _ h,aL _ _ _ h]
   have :∀ (Ls:List Name) (F:List O) (o1 o2:Name->Option O),o1 x=o2 x->cI Ls F o1 x=cI Ls F o2 x:=by
    intro Ls
    induction Ls with
    |nil=>intro F o1 o2 h;simpa[cI]using h
    |cons y ys ih=>
     intro F o1 o2 h
     cases F with
     |nil=>simpa[cI]using h
     |cons f fs=>
      simp only[cI]
      refine ih fs _ _ ?_
      by_cases e:x=y
      ·subst e;rw[aE,aE]
      ·rw[aL _ _ _ e,aL _ _ _ e,h]
   exact this Ls F _ _ (aL _ _ _ h)
 refine Dj hΓ k k' hc cS an hs (by rw[k9];exact kR) ?_ ?_
 ·rw[k9,ji,tY,kY];trivial
 ·rw[k9,ji,tY,kY]
  have jg:cI Ls (r.fam Ls r.e) (upd (upd σ.obj R (some (r.rc Ls .ready none))) R (some (r.fin Ls))) R=some (r.fin Ls):=by rw[nO hR,aE]
  have jG:hU (cI Ls (r.fam Ls r.e) (upd (upd σ.obj R (some (r.rc Ls .ready none))) R (some (r.fin Ls)))) R=
      upd (cI Ls (r.fam Ls r.e) σ.obj) R (some (r.rc Ls .exhausted r.pd)):=by
   unfold hU
   rw[jg]
   unfold Lp.fin Lp.rc
   simp only[Ba]
  refine Gp r.pd jg ?_
  rw[jG]
  exact hK (r.rc Ls .exhausted r.pd)
theorem Wj:∀ (n:Nat) (obj:Name->Option O) (x:V),ar n obj (.v x)=⟨True,x,obj⟩
 | 0,_,_=>rfl
 |_+1,_,_=>rfl
theorem JA(n:Nat)(obj:Name->Option O):∀ l:List V,(aI (ar n) obj (l.map .v)).ok/\(aI (ar n) obj (l.map .v)).xs=l/\(aI (ar n) obj (l.map .v)).obj=obj
 |[]=>⟨trivial,rfl,rfl⟩
 |x::r=>by
  obtain⟨h1,h2,h3⟩:=JA n obj r
  simp only[List.map_cons,aI,Wj]
  exact⟨⟨trivial,h1⟩,by rw[h2],h3⟩
@[go_sem] theorem sB(dom:Name->Bool)(l:List V):D.closL dom (l.map .v)=true:=by
  have :=KL dom l []
  simpa[D.closL]using this
theorem DF:∀ l:List V,kj (l.map .v)=some l
 |[]=>rfl
 |x::r=>by
  simp only[List.map_cons,kj,oP,DF r]
attribute [go_sem] DF
theorem NB{σ:S}(nm:Name)(l:List V)(ho:σ.obj nm=some (.box (l.map .v))):cw σ { σ with obj:=upd σ.obj nm (some (.fbox l)) }:=by
 intro G φ m a w hC
 obtain⟨h1,h2,h3⟩:=JA 0 σ.obj l
 have e:ar 1 σ.obj (.ref nm 0)=⟨(aI (ar 0) σ.obj (l.map .v)).ok/\(aI (ar 0) σ.obj (l.map .v)).obj nm=some (.box (l.map .v)),.ptr ((aI (ar 0) σ.obj (l.map .v)).xs.drop 0),
     upd (aI (ar 0) σ.obj (l.map .v)).obj nm (some (.fbox (aI (ar 0) σ.obj (l.map .v)).xs))⟩:=by
  simp only[ar,ho]
 obtain⟨m',k1,k2,_⟩:=ld 1 G φ m σ a w hC (.ref nm 0) _ (.ref nm 0 ⟨_,ho,rfl⟩) (by rw[e];exact⟨h1,by rw[h3];exact ho⟩)
 rw[e]at k2
 simp only[h2,h3]at k2
 exact⟨φ,m',k2⟩
theorem dd{σ τ:S}(nm:Name)(l:List V)(ho:σ.obj nm=some (.box (l.map .v)))(ks:List Nat)(ns:List Name)
 (h:eQ ks ns ⟨σ.nt,σ.env,upd σ.obj nm (some (.fbox l)),σ.pre,σ.base⟩) (hk:eW ks ns ⟨σ.nt,σ.env,upd σ.obj nm (some (.fbox l)),σ.pre,σ.base⟩=τ):cw σ τ:=
 (NB nm l ho).trans (lC ks ns h hk)
structure bb (α:Type) where
 (a b c d e f:α)
 deriving Inhabited,DecidableEq
def bb.get{α:Type}(s:bb α):Nat->α
 | 0=>s.a
 | 1=>s.b
 | 2=>s.c
 | 3=>s.d
 | 4=>s.e
 |_=>s.f
def iQ{α:Type}(g:Nat->α):bb α:=⟨g 0,g 1,g 2,g 3,g 4,g 5⟩
def bb.set{α:Type}(s:bb α)(i:Nat)(x:α):bb α:=iQ fun j=>if j=i then x else s.get j
def bb.L{α β:Type}(s:bb α)(e:α->β):List β:=[e s.a,e s.b,e s.c,e s.d,e s.e,e s.f]
theorem acS{α:Type}(s:bb α):iQ s.get=s:=rfl
theorem bb.L_len{α β:Type}(s:bb α)(e:α->β):(s.L e).length=6:=rfl
theorem bb.L_get{α β:Type}(s:bb α)(e:α->β)(z:β):∀ {i:Nat},i<6->(s.L e).getD i z=e (s.get i)
 | 0,_=>rfl
 | 1,_=>rfl
 | 2,_=>rfl
 | 3,_=>rfl
 | 4,_=>rfl
 | 5,_=>rfl
 |i+6,h=>absurd h (by omega)
theorem bb.get_set{α:Type}(s:bb α){i j:Nat}(x:α)(hi:i<6):(s.set i x).get i=x/\(j<6->j≠i->(s.set i x).get j=s.get j):=by
 constructor
 ·match i,hi with
  | 0,_=>rfl
  | 1,_=>rfl
  | 2,_=>rfl
  | 3,_=>rfl
  | 4,_=>rfl
  | 5,_=>rfl
 ·intro hj an
  match j,hj with
  | 0,_=>show (if 0=i then _ else _)=_;rw[if_neg an]
  | 1,_=>show (if 1=i then _ else _)=_;rw[if_neg an]
  | 2,_=>show (if 2=i then _ else _)=_;rw[if_neg an]
  | 3,_=>show (if 3=i then _ else _)=_;rw[if_neg an]
  | 4,_=>show (if 4=i then _ else _)=_;rw[if_neg an]
  | 5,_=>show (if 5=i then _ else _)=_;rw[if_neg an]
theorem acR{α:Type}{s t:bb α}(h:∀ i,i<6->s.get i=t.get i):s=t:=by
 obtain⟨a,b,c,d,e,f⟩:=s
 obtain⟨a',b',c',d',e',f'⟩:=t
 have h0:a=a':=h 0 (by omega)
 have h1:b=b':=h 1 (by omega)
 have h2:c=c':=h 2 (by omega)
 have h3:d=d':=h 3 (by omega)
 have h4:e=e':=h 4 (by omega)
 have h5:f=f':=h 5 (by omega)
 subst h0 h1 h2 h3 h4 h5
 rfl
structure Par where
 (no pa:Int)
 deriving Inhabited,DecidableEq
structure Stk where
 ho:List Int
 un:bb (List Par)
 (se ta:bb Int)
 deriving Inhabited,DecidableEq
structure Pg where
 co:Int
 st:Stk
 su:Int
 deriving Inhabited,DecidableEq
structure Dk where
 me:Int
 now:Stk
 (pa pb:Pg)
 wet:Int
 deriving Inhabited,DecidableEq
structure Bag where
 (fr to:Int)
 ps:List Par
 ta:Int
 deriving Inhabited,DecidableEq
def Dk.pg(d:Dk):Nat->Pg
 | 0=>d.pa
 |_=>d.pb
def c6:V->Int
 | .int _ n=>n
 |_=>0
def Kq:V->Bool
 | .bool b=>b
 |_=>false
def uY:V->List Int
 | .sl l=>l.map c6
 |_=>[]
def encPa(p:Par):V:=.agg [vInt p.no,vInt p.pa]
def iA:V->Par
 | .agg [.int _ a,.int _ b]=>⟨a,b⟩
 |_=>default
abbrev fo (l:List Int):V:=.sl (l.map vInt)
abbrev rowP (l:List Par):V:=.sl (l.map encPa)
def l8:V->List Par
 | .sl l=>l.map iA
 |_=>[]
def aB(s:Stk):List V:=fo s.ho::(s.un.L rowP++(s.se.L vInt++s.ta.L vInt))
def eP(l:List V):Stk:=⟨uY (l.getD 0 default),iQ fun i=>l8 (l.getD (1+i) default),iQ fun i=>c6 (l.getD (7+i) default),iQ fun i=>c6 (l.getD (13+i) default)⟩
def cm(p:Pg):List V:=vInt p.co::(aB p.st++[vInt p.su])
def sx(l:List V):Pg:=⟨c6 (l.getD 0 default),eP ((l.drop 1).take 19),c6 (l.getD 20 default)⟩
def aq(d:Dk):List V:=vInt d.me::(aB d.now++(cm d.pa++(cm d.pb++[vInt d.wet])))
def Ko(l:List V):Dk:=⟨c6 (l.getD 0 default),eP ((l.drop 1).take 19),sx ((l.drop 20).take 21),sx ((l.drop 41).take 21),c6 (l.getD 62 default)⟩
def bW(b:Bag):List V:=[vInt b.fr,vInt b.to,rowP b.ps,vInt b.ta]
def V.L:V->List V
 | .agg l=>l
 |_=>[]
def l7(s:Stk):V:=.agg (aB s)
def C2(v:V):Stk:=eP v.L
def uV(p:Pg):V:=.agg (cm p)
def C3(v:V):Pg:=sx v.L
def fM(d:Dk):V:=.agg (aq d)
def uZ(v:V):Dk:=Ko v.L
def qu(b:Bag):V:=.agg (bW b)
def u6:V->Bag
 | .agg [.int _ a,.int _ b,.sl l,.int _ c]=>⟨a,b,l.map iA,c⟩
 |_=>default
theorem tp{α:Type}{e:α->V}{d:V->α}(h:∀ a,d (e a)=a)(l:List α):(l.map e).map d=l:=by
 rw[List.map_map]
 have :d∘e=id:=funext h
 rw[this,List.map_id]
@[go_sem] theorem Kl(l:List Int):(l.map vInt).map c6=l:=tp (fun _=>rfl) l
theorem WY(p:Par):iA (encPa p)=p:=rfl
@[go_sem] theorem C4(l:List Par):(l.map encPa).map iA=l:=tp WY l
theorem WZ(l:List Int):uY (fo l)=l:=Kl l
theorem WX(l:List Par):l8 (rowP l)=l:=C4 l
theorem nw(s:Stk):eP (aB s)=s:=by
 obtain⟨h,u,a,b⟩:=s
 obtain⟨u0,u1,u2,u3,u4,u5⟩:=u
 show (⟨uY (fo h),⟨l8 (rowP u0),l8 (rowP u1),l8 (rowP u2),l8 (rowP u3),l8 (rowP u4),l8 (rowP u5)⟩,a,b⟩:Stk)=_
 simp only[WZ,WX]
theorem ya(p:Pg):sx (cm p)=p:=by
 show (⟨p.co,eP (aB p.st),p.su⟩:Pg)=p
 rw[nw]
theorem Kn(d:Dk):Ko (aq d)=d:=by
 show (⟨d.me,eP (aB d.now),sx (cm d.pa),sx (cm d.pb),d.wet⟩:Dk)=d
 rw[nw,ya,ya]
@[go_sem] theorem aeD(s:Stk):C2 (.agg (aB s))=s:=nw s
@[go_sem] theorem aeG(p:Pg):C3 (.agg (cm p))=p:=ya p
@[go_sem] theorem aeI(d:Dk):uZ (.agg (aq d))=d:=Kn d
@[go_sem] theorem aeC(s:Stk):C2 (l7 s)=s:=nw s
@[go_sem] theorem aeF(p:Pg):C3 (uV p)=p:=ya p
@[go_sem] theorem Km(d:Dk):uZ (fM d)=d:=Kn d
theorem yb(b:Bag):u6 (qu b)=b:=by
 obtain⟨x,y,l,z⟩:=b
 show (⟨x,y,(l.map encPa).map iA,z⟩:Bag)=_
 rw[C4]
@[go_sem] theorem aeK(b:Bag):u6 (.agg (bW b))=b:=yb b
@[go_sem] theorem aeJ(a b c:Int)(l:List Par):u6 (.agg [vInt a,vInt b,rowP l,vInt c])=⟨a,b,l,c⟩:=yb ⟨a,b,l,c⟩
@[go_sem] theorem aeH(l:List Dk):(l.map fM).map uZ=l:=tp Km l
@[go_sem] theorem ad0(p:Par):(⟨p.no,p.pa⟩:Par)=p:=rfl
@[go_sem] theorem iN(s:Stk):(aB s).length=19:=rfl
@[go_sem] theorem ac6(p:Pg):(cm p).length=21:=rfl
@[go_sem] theorem oG(d:Dk):(aq d).length=63:=rfl
@[go_sem] theorem afz(b:Bag):(bW b).length=4:=rfl
@[go_sem] theorem acJ(s:Stk):(aB s).take 19=aB s:=rfl
@[go_sem] theorem ac7(p:Pg):(cm p).take 21=cm p:=rfl
@[go_sem] theorem aes(d:Dk):(aq d).take 63=aq d:=rfl
@[go_sem] theorem afA(b:Bag):(bW b).take 4=bW b:=rfl
@[go_sem] theorem acK(s:Stk):(aB s).getD 0 default=fo s.ho:=rfl
@[go_sem] theorem acG(s:Stk):((aB s).drop 1).take 6=s.un.L rowP:=rfl
@[go_sem] theorem acI(s:Stk):((aB s).drop 7).take 6=(s.se.L id).map vInt:=rfl
@[go_sem] theorem acH(s:Stk):((aB s).drop 13).take 6=(s.ta.L id).map vInt:=rfl
theorem dh(s:Stk){i:Nat}(h:i<6):(aB s).getD (1+i) default=rowP (s.un.get i):=by
 match i,h with
 | 0,_=>rfl
 | 1,_=>rfl
 | 2,_=>rfl
 | 3,_=>rfl
 | 4,_=>rfl
 | 5,_=>rfl
theorem dI(s:Stk){i:Nat}(h:i<6):(aB s).getD (7+i) default=vInt (s.se.get i):=by
 match i,h with
 | 0,_=>rfl
 | 1,_=>rfl
 | 2,_=>rfl
 | 3,_=>rfl
 | 4,_=>rfl
 | 5,_=>rfl
theorem dA(s:Stk){i:Nat}(h:i<6):(aB s).getD (13+i) default=vInt (s.ta.get i):=by
 match i,h with
 | 0,_=>rfl
 | 1,_=>rfl
 | 2,_=>rfl
 | 3,_=>rfl
 | 4,_=>rfl
 | 5,_=>rfl
@[go_sem] theorem ac9(p:Pg):(cm p).getD 0 default=vInt p.co:=rfl
@[go_sem] theorem ac8(p:Pg):(cm p).getD 20 default=vInt p.su:=rfl
@[go_sem] theorem ac5(p:Pg):((cm p).drop 1).take 19=aB p.st:=rfl
@[go_sem] theorem aew(d:Dk):(aq d).getD 0 default=vInt d.me:=rfl
@[go_sem] theorem aet(d:Dk):(aq d).getD 62 default=vInt d.wet:=rfl
@[go_sem] theorem so(d:Dk):((aq d).drop 1).take 19=aB d.now:=rfl
@[go_sem] theorem aeq(d:Dk):((aq d).drop 20).take 21=cm d.pa:=rfl
@[go_sem] theorem aep(d:Dk):((aq d).drop 41).take 21=cm d.pb:=rfl
@[go_sem] theorem afE(b:Bag):(bW b).getD 0 default=vInt b.fr:=rfl
@[go_sem] theorem afD(b:Bag):(bW b).getD 1 default=vInt b.to:=rfl
@[go_sem] theorem afC(b:Bag):(bW b).getD 2 default=rowP b.ps:=rfl
@[go_sem] theorem afB(b:Bag):(bW b).getD 3 default=vInt b.ta:=rfl
def Ki:V->ByteArray
 | .str s=>s
 |_=>.empty
def iI:En Int:=⟨vInt,c6⟩
def iB:En Bool:=⟨.bool,Kq⟩
def rR:En ByteArray:=⟨.str,Ki⟩
def ei:En (List Int):=⟨fun l=>.sl (l.map vInt),uY⟩
def tC:En Par:=⟨encPa,iA⟩
def jF:En (List Par):=⟨fun l=>.sl (l.map encPa),l8⟩
def gA:En Stk:=⟨l7,C2⟩
def pH:En Pg:=⟨uV,C3⟩
def dK:En Dk:=⟨fM,uZ⟩
def n5:En Bag:=⟨qu,u6⟩
attribute [go_sem] iI iB rR ei tC jF gA pH dK n5 c6 Kq uY l8 Ki encPa iA l7 uV fM qu
def aM(n lo hi:Int):Bool:=decide (lo<=n)&&decide (n<=hi)
end Go.Eng
set_option linter.unusedVariables false
namespace Go.Proofs
open Go Go.Shelf Go.RowKit
def Tryd.lays171_ren:Shelf.Ren:=⟨fun | 171=>87 | 243=>96 | 246=>100 | 283=>102 | 284=>103 | 285=>104 | 286=>105 | 129=>108 | 317=>107 | 318=>109 | 319=>110 | 320=>111 | 337=>112 | 338=>113 | n=>n,fun | 3=>3 | 9=>9 | 2=>2 | 4=>4 | 171=>139 | 0=>0 | 53=>140 | 37=>112 | 5=>5 | 173=>143 | 212=>147 | 51=>148 | 20=>20 | 213=>149 | 46=>113 | 232=>152 | 233=>153 | n=>n,fun | 17=>0 | 18=>1 | 19=>2 | n=>n⟩
theorem Tryd.lays171:LaysM.n171 Tryd.prog Tryd.lays171_ren:={
 mixed:=by kernel_rfl,
 f129:=Tryd.func108.trans (congrArg some (by kernel_rfl)),
 f171:=Tryd.func87.trans (congrArg some (by kernel_rfl)),
 f243:=Tryd.func96.trans (congrArg some (by kernel_rfl)),
 f246:=Tryd.func100.trans (congrArg some (by kernel_rfl)),
 f283:=Tryd.func102.trans (congrArg some (by kernel_rfl)),
 f284:=Tryd.func103.trans (congrArg some (by kernel_rfl)),
 f285:=Tryd.func104.trans (congrArg some (by kernel_rfl)),
 f286:=Tryd.func105.trans (congrArg some (by kernel_rfl)),
 f317:=Tryd.func107.trans (congrArg some (by kernel_rfl)),
 f318:=Tryd.func109.trans (congrArg some (by kernel_rfl)),
 f319:=Tryd.func110.trans (congrArg some (by kernel_rfl)),
 f320:=Tryd.func111.trans (congrArg some (by kernel_rfl)),
 f337:=Tryd.func112.trans (congrArg some (by kernel_rfl)),
 f338:=Tryd.func113.trans (congrArg some (by kernel_rfl)),
 t0:=Tryd.underlying0,
 a0:=Tryd.isAgg0,
 z0:=Tryd.sizeOf0,
 v0:=Tryd.zeroValue0,
 t2:=Tryd.underlying2,
 a2:=Tryd.isAgg2,
 z2:=Tryd.sizeOf2,
 v2:=Tryd.zeroValue2,
 t3:=Tryd.underlying3,
 a3:=Tryd.isAgg3,
 z3:=Tryd.sizeOf3,
 v3:=Tryd.zeroValue3,
 t4:=Tryd.underlying4,
 a4:=Tryd.isAgg4,
 z4:=Tryd.sizeOf4,
 v4:=Tryd.zeroValue4,
 t5:=Tryd.underlying5,
 a5:=Tryd.isAgg5,
 z5:=Tryd.sizeOf5,
 v5:=Tryd.zeroValue5,
 t9:=Tryd.underlying9,
 a9:=Tryd.isAgg9,
 z9:=Tryd.sizeOf9,
 v9:=Tryd.zeroValue9,
 t20:=Tryd.underlying20,
 a20:=Tryd.isAgg20,
 z20:=Tryd.sizeOf20,
 v20:=Tryd.zeroValue20,
 t37:=Tryd.underlying112,
 a37:=Tryd.isAgg112,
 z37:=Tryd.sizeOf112,
 v37:=Tryd.zeroValue112,
 t46:=Tryd.underlying113,
 a46:=Tryd.isAgg113,
 z46:=Tryd.sizeOf113,
 v46:=Tryd.zeroValue113,
 t51:=Tryd.underlying148,
 a51:=Tryd.isAgg148,
 z51:=Tryd.sizeOf148,
 v51:=Tryd.zeroValue148,
 t53:=Tryd.underlying140,
 a53:=Tryd.isAgg140,
 z53:=Tryd.sizeOf140,
 v53:=Tryd.zeroValue140,
 t171:=Tryd.underlying139,
 a171:=Tryd.isAgg139,
 z171:=Tryd.sizeOf139,
 v171:=Tryd.zeroValue139,
 t173:=Tryd.underlying143,
 a173:=Tryd.isAgg143,
 z173:=Tryd.sizeOf143,
 v173:=Tryd.zeroValue143,
 t212:=Tryd.underlying147,
 a212:=Tryd.isAgg147,
 z212:=Tryd.sizeOf147,
 v212:=Tryd.zeroValue147,
 t213:=Tryd.underlying149,
 a213:=Tryd.isAgg149,
 z213:=Tryd.sizeOf149,
 t232:=Tryd.underlying152,
 a232:=Tryd.isAgg152,
 z232:=Tryd.sizeOf152,
 v232:=Tryd.zeroValue152,
 t233:=Tryd.underlying153,
 a233:=Tryd.isAgg153,
 z233:=Tryd.sizeOf153,
 v233:=Tryd.zeroValue153,
 g17:=by kernel_rfl,
 g18:=by kernel_rfl,
 g19:=by kernel_rfl,
 i0:=by kernel_rfl,
 i2:=by kernel_rfl,
 i3:=by kernel_rfl,
 i4:=by kernel_rfl,
 i5:=by kernel_rfl,
 i9:=by kernel_rfl,
 i20:=by kernel_rfl,
 i37:=by kernel_rfl,
 i46:=by kernel_rfl,
 i51:=by kernel_rfl,
 i53:=by kernel_rfl,
 i171:=by kernel_rfl,
 i173:=by kernel_rfl,
 i212:=by kernel_rfl,
 i232:=by kernel_rfl,
 i233:=by kernel_rfl,
 m17:=by kernel_rfl,
 m18:=by kernel_rfl,
 m19:=by kernel_rfl }
def Tryd.lays169_ren:Shelf.Ren:=⟨fun | 169=>88 | n=>n,fun | 70=>124 | 9=>9 | 0=>0 | 72=>126 | 37=>112 | 127=>133 | 3=>3 | 5=>5 | n=>n,fun | n=>n⟩
theorem Tryd.lays169:Lays.n169 Tryd.prog Tryd.lays169_ren:={
 mixed:=by kernel_rfl,
 f169:=Tryd.func88.trans (congrArg some (by kernel_rfl)),
 t0:=Tryd.underlying0,
 a0:=Tryd.isAgg0,
 z0:=Tryd.sizeOf0,
 v0:=Tryd.zeroValue0,
 t3:=Tryd.underlying3,
 a3:=Tryd.isAgg3,
 z3:=Tryd.sizeOf3,
 v3:=Tryd.zeroValue3,
 t9:=Tryd.underlying9,
 a9:=Tryd.isAgg9,
 z9:=Tryd.sizeOf9,
 v9:=Tryd.zeroValue9,
 t37:=Tryd.underlying112,
 a37:=Tryd.isAgg112,
 z37:=Tryd.sizeOf112,
 v37:=Tryd.zeroValue112,
 t70:=Tryd.underlying124,
 a70:=Tryd.isAgg124,
 z70:=Tryd.sizeOf124,
 v70:=Tryd.zeroValue124,
 t72:=Tryd.underlying126,
 a72:=Tryd.isAgg126,
 z72:=Tryd.sizeOf126,
 v72:=Tryd.zeroValue126,
 t127:=Tryd.underlying133,
 a127:=Tryd.isAgg133,
 z127:=Tryd.sizeOf133,
 v127:=Tryd.zeroValue133 }
theorem Tryd.bldX:Builder.Extra Tryd.prog Tryd.lays169_ren:={
 sizeBuilder:=by kernel_rfl,
 liesBuilder:=by kernel_rfl,
 t5:=Tryd.underlying5,
 a5:=Tryd.isAgg5,
 z5:=Tryd.sizeOf5,
 v5:=Tryd.zeroValue5,
 infoByte:=by kernel_rfl,
 cellsByte:=by kernel_rfl,
 sizeByte:=by kernel_rfl,
 neB5:=by decide }
end Go.Proofs
namespace Go.Eng
open Go Go.Proofs Go.Shelf Go.RowKit
set_option maxHeartbeats 1000000 in
set_option maxRecDepth 100000 in
theorem XP(b:Nat)(w:World)(h0:w.cell? ⟨b,0,none⟩=some (.pointer (some ⟨b,0,none⟩))):
 Calls Tryd.prog 95 #[.pointer (some ⟨b,0,none⟩)] w fun e w'=>e=.returned (.tuple #[])/\w'=w:=by
 obtain⟨j,hj,_⟩:=Option.map_eq_some_iff.1 Tryd.bldX.sizeBuilder
 have mixed:Tryd.prog.follows Departure.mixedOrders=true:=by kernel_rfl
 go_enter Tryd.func95,Tryd.ntmps95
 go_wp2
 rw[Lib.run_neq_ptr_same w _ Tryd.underlying124 hj]
 go_wp2
 go_end0
 exact⟨rfl,rfl⟩
set_option maxHeartbeats 1000000 in
set_option maxRecDepth 100000 in
theorem XR(b:Nat)(w:World)(h0:w.cell? ⟨b,0,none⟩=some (.pointer none))(fb:w.shape? b=some (126,2))(oq:w.frozen? ⟨b,0,none⟩=false):
 Calls Tryd.prog 95 #[.pointer (some ⟨b,0,none⟩)] w fun e w'=>e=.returned (.tuple #[])/\w'=w.setCell ⟨b,0,none⟩ (.pointer (some ⟨b,0,none⟩)):=by
 obtain⟨j,hj,eY⟩:=Option.map_eq_some_iff.1 Tryd.bldX.sizeBuilder
 have mixed:Tryd.prog.follows Departure.mixedOrders=true:=by kernel_rfl
 go_enter Tryd.func95,Tryd.ntmps95
 go_wp2
 rw[Lib.run_to_unsafe w ⟨b,0,none⟩ Tryd.underlying124 Tryd.underlying135 hj (by rw[eY];decide) fb (Nat.zero_lt_succ 1)]
 simp only[Result.andThen]
 rw[Oper.upon_value]
 go_wp2
 rw[run_callFunc_extern Tryd.func99 (by kernel_rfl) (by kernel_rfl) (by kernel_rfl) (e:=Extern.AbiNoEscape.same) (by kernel_rfl)]
 rw[Lib.run_noEscape]
 simp only[Result.andThen]
 rw[Oper.upon_value]
 go_wp2
 rw[Lib.run_from_unsafe w ⟨b,0,none⟩ Tryd.underlying135 Tryd.underlying124 hj fb Tryd.bldX.liesBuilder]
 simp only[Result.andThen]
 rw[Oper.upon_value]
 go_wp2
 go_end0
 exact⟨rfl,rfl⟩
theorem XS(b:Nat)(bs:List Value)(w:World)(h:Lib.IsBuilderF 126 5 b b bs w):
 Calls Tryd.prog 95 #[.pointer (some ⟨b,0,none⟩)] w fun e w'=>e=.returned (.tuple #[])/\(Lib.BuilderAtF 126 5 b b (.pointer (some ⟨b,0,none⟩)) bs w'/\Below b w w'):=by
 rcases h with h | h
 ·refine(XR b w h.cell0 h.shape h.frozen0).mono ?_
  rintro e w' ⟨rfl,rfl⟩
  exact⟨rfl,h.used _,(Below.refl b w).setCell (p:=⟨b,0,none⟩) h.1 _⟩
 ·refine(XP b w h.cell0).mono ?_
  rintro e w' ⟨rfl,rfl⟩
  exact⟨rfl,h,Below.refl b _⟩
set_option maxHeartbeats 2000000 in
set_option maxRecDepth 100000 in
theorem Lk(b:Nat)(bs:List Value)(s:ByteArray)(w:World)(h:Lib.IsBuilderF 126 5 b b bs w)(hlen:bs.length+s.size<=140737488355328)(Jg:b<=w.heap.size):
 Calls Tryd.prog 86 #[.pointer (some ⟨b,0,none⟩),.string s] w fun e w'=>e=.returned (.tuple #[.int .i64 s.size,.nilIface])/\(Lib.IsBuilderF 126 5 b b (bs++Lib.strCells s) w'/\Below b w w'):=by
 obtain⟨i0,hi,bw,gT,mQ⟩:=info_parts Tryd.bldX.infoByte
 have mixed:Tryd.prog.follows Departure.mixedOrders=true:=by kernel_rfl
 go_enter Tryd.func86,Tryd.ntmps86
 go_wp2_with (go_at_call 95;refine(XS b bs _ h).mono ?_)
 rintro e w1 ⟨rfl,h1,fg⟩
 obtain⟨hB,v,xM,xo,an⟩:=h1
 have c0:w1.cell? ⟨b,0,none⟩=some (.pointer (some ⟨b,0,none⟩)):=by rw[Lib.cell_of_heap xM];rfl
 have c1:w1.cell? ⟨b,1,none⟩=some v:=by rw[Lib.cell_of_heap xM];rfl
 go_wp2_with (at_builtin;refine Lib.wpList_append_own_stringF _ rfl _ _ 112 9 rfl b 5 i0 Tryd.underlying112 Tryd.underlying9 hi bw gT mQ _ _ _ rfl xo s rfl ?c3 ?c4 ?c5 ?_)
 case c3=>unfold maxLen;omega
 case c4=>omega
 case c5=>have:=fg.size;omega
 intro v' w2 IF I3 _
 have ae:b<w1.heap.size:=by
  rcases Nat.lt_or_ge b w1.heap.size with h' | h'
  ·exact h'
  ·simp[Array.getElem?_eq_none h']at xM
 have e7:w2.heap[b]?=some (.cells #[.pointer (some ⟨b,0,none⟩),v] 126 (0,0)):=by
  rw[I3.block b ae (fun e=>an e.symm)]
  exact xM
 have d0:w2.cell? ⟨b,0,none⟩=some (.pointer (some ⟨b,0,none⟩)):=by rw[Lib.cell_of_heap e7];rfl
 have d1:w2.cell? ⟨b,1,none⟩=some v:=by rw[Lib.cell_of_heap e7];rfl
 have f1:w2.frozen? ⟨b,1,none⟩=false:=Lib.frozen_of_heap e7 1
 obtain⟨ao,n',cap,rfl⟩:∃ ao n' cap,v'=.slice ao n' cap:=by
  rcases IF.2 with⟨hv,_⟩ | ⟨g,cap,cur,fz,hv,_⟩
  ·exact⟨_,_,_,hv⟩
  ·exact⟨_,_,_,hv⟩
 go_wp2
 go_ret2
 refine⟨rfl,.inr ?_,?_⟩
 ·exact Lib.BuilderAtF.put (T:=126) (e:=5) hB e7 (bs':=bs++Lib.strCells s) (by simpa[Lib.strCells_length]using IF) (by decide)
 ·exact(fg.grown I3 (by have:=fg.size;omega) (fun k hk=>(xo.lt k hk).1)).setCell (p:=⟨b,1,none⟩) hB _
end Go.Eng
set_option linter.unusedVariables false
namespace Go.Eng
open Go Go.Proofs Go.Shelf Go.RowKit
theorem Ct(w:World)(k:Nat)(os:Array Obj):w.grownBy (Go.Sort.grow (w.drewN k) os) none:=by
 refine⟨rfl,rfl,rfl,?_,fun b hb _=>?_⟩
 ·show w.heap.size<=(w.heap++os).size
  rw[Array.size_append];omega
 ·show (w.heap++os)[b]?=_
  rw[Array.getElem?_append_left hb]
theorem XQ{b:Nat}{bs:List Value}{w:World}(h:Lib.IsBuilderF 126 5 b b bs w)(k:Nat)(os:Array Obj):Lib.IsBuilderF 126 5 b b bs (Go.Sort.grow (w.drewN k) os):=by
 have key:∀ p,Lib.BuilderAtF 126 5 b b p bs w->Lib.BuilderAtF 126 5 b b p bs (Go.Sort.grow (w.drewN k) os):=by
  intro p h
  have ae:=h.lt
  obtain⟨hB,v,hb,xo,an⟩:=h
  refine⟨hB,v,?_,xo.kept (Ct w k os) ?_,an⟩
  ·rw[(Ct w k os).block b ae (by simp)];exact hb
  ·cases hv:v.ownBlock with
   |none=>exact .inl rfl
   |some=>exact .inr (by simp)
 exact h.elim (fun h=>.inl (key _ h)) (fun h=>.inr (key _ h))
theorem XV{b:Nat}{w w':World}(h:Below b w w')(hb:b<=w.heap.size)(k:Nat)(os:Array Obj):Below b w (Go.Sort.grow (w'.drewN k) os):=by
 refine h.grown (row:=none) (Ct w' k os) ?_ (fun k hk=>by cases hk)
 have :=h.size
 omega
theorem NV{w w':World}(h:iJ w)(hb:Below w.heap.size w w'):iJ w':=fun q hq=>by
 obtain⟨T,f,e⟩:=h q hq
 exact⟨T,f,(hb.block _ (Array.getElem?_eq_some_iff.1 e).1).trans e⟩
theorem NW{w:World}(h:iJ w){name:String}(hn:Tryd.prog.globalNamed name=some 0):Lib.TabIs Tryd.prog w name .u64 Lib.pow10Tab:=by
 obtain⟨T,f,e⟩:=h _ (List.mem_singleton.2 rfl)
 unfold Lib.TabIs World.var?
 rw[hn]
 simp only[Option.bind_some,e]
theorem TN(n:Int)(h0: -9223372036854775808<=n)(h1:n<=9223372036854775807)(w:World)(ht:iJ w):
 Calls Tryd.prog 87 #[.int .i64 n] w fun e w'=>e=.returned (.string ⟨(Lib.itoa n).toArray⟩)/\∃ k os,w'=Go.Sort.grow (w.drewN k) os:=
 Any.strconv_Itoa Tryd.lays171 n h0 h1 w (NW ht (by kernel_rfl))
def iY(word:ByteArray)(l:List Int)(k:Nat):List UInt8:=word.data.toList++(l.take k).flatMap fun n=>32::Lib.itoa n
def nZ(word:ByteArray)(l:List Int):List UInt8:=iY word l l.length++[10]
theorem Ar(word:ByteArray)(l:List Int){k:Nat}(h:k<l.length):iY word l (k+1)=iY word l k++(32::Lib.itoa l[k]):=by
 unfold iY
 rw[List.take_add_one,List.getElem?_eq_getElem h,List.flatMap_append,List.append_assoc]
 simp
theorem wM(word:ByteArray)(l:List Int)(hr:∀ n∈l,-9223372036854775808<=n/\n<=9223372036854775807):∀ k,k<=l.length->(iY word l k).length<=word.size+22*k
 | 0,_=>by
   unfold iY
   rw[List.take_zero,List.flatMap_nil,List.append_nil,Array.length_toList]
   exact Nat.le_refl _
 |k+1,h=>by
  rw[Ar word l (by omega),List.length_append,List.length_cons]
  have h1:=wM word l hr k (by omega)
  have h2:=hr _ (List.getElem_mem (show k<l.length by omega))
  have h3:=Lib.itoa_length_le l[k] h2.1 h2.2
  omega
set_option maxHeartbeats 4000000 in
set_option maxRecDepth 100000 in
theorem Rp(word:ByteArray)(a:Option Addr)(l:List Int)(cap:Nat)(w:World)
 (ha:l=[]\/∃ bl o,a=some ⟨bl,o,none⟩/\bl<w.heap.size/\∀ i (h:i<l.length),w.cell? ⟨bl,o+i,none⟩=some (.int .i64 l[i]))
 (hr:∀ n∈l,-9223372036854775808<=n/\n<=9223372036854775807) (hw:word.size<=1000) (hl:l.length<=1000000) (ht:iJ w):
 Calls Tryd.prog 79 #[.string word,.slice a l.length cap] w fun e w'=>e=.returned (.string ⟨(nZ word l).toArray⟩)/\Below w.heap.size w w':=by
 have mixed:Tryd.prog.follows Departure.mixedOrders=true:=by kernel_rfl
 have h0:Lib.IsBuilderF 126 5 w.heap.size w.heap.size [] (w.alloc (.cells #[.pointer none,.slice none 0 0] 126)):=Lib.IsBuilderF.of (Lib.fresh_isBuilder 126 5 w)
 have b0:Below w.heap.size w (w.alloc (.cells #[.pointer none,.slice none 0 0] 126)):=(Below.refl _ w).alloc (Nat.le_refl _) _
 have hlen:=wM word l hr
 go_enter Tryd.func79,Tryd.ntmps79
 go_wp2_with (go_at_call 86;refine(Lk w.heap.size [] word _ h0 (by simp;omega) b0.size).mono ?_;rintro e W1 ⟨rfl,h1,b1⟩)
 have ey:Lib.IsBuilderF 126 5 w.heap.size w.heap.size (Lib.byteCells (iY word l 0)) W1:=by
  rw[List.nil_append,Lib.strCells_eq]at h1
  unfold iY
  simpa using h1
 have LN:=b0.trans b1
 clear h0 h1 b0 b1
 go_loopw [12] (fun i wr=>∃ k:Nat,k<=l.length/\i=.int .i64 k/\Lib.IsBuilderF 126 5 w.heap.size w.heap.size (Lib.byteCells (iY word l k)) wr/\Below w.heap.size w wr) (fun i _=>l.length-(intOf i).toNat)
 case atStart=>exact⟨0,Nat.zero_le _,rfl,ey,LN⟩
 case round=>
  obtain⟨k,hk,rfl,hB,hb⟩:=hrel
  clear ey LN
  have Ut:=NV ht hb
  have bj:=hb.size
  by_cases ae:k<l.length
  ·rcases ha with rfl | ⟨bl,o,rfl,Vs,hc⟩
   ·simp at ae
   have adO:wr.cell? ⟨bl,o+k,none⟩=some (.int .i64 l[k]):=by
    rw[<-hc k ae]
    unfold World.cell?
    rw[hb.block bl Vs]
   have xm:=hr _ (List.getElem_mem ae)
   have hL:=hlen k hk
   have gD:=Lib.itoa_length_le l[k] xm.1 xm.2
   have ai:(k:Int)<(l.length:Int):=by omega
   have jK:(⟨#[32]⟩++⟨(Lib.itoa l[k]).toArray⟩:ByteArray)=⟨(32::Lib.itoa l[k]).toArray⟩:=by
    apply ByteArray.ext
    simp
   have A':(⟨(32::Lib.itoa l[k]).toArray⟩:ByteArray).size=(Lib.itoa l[k]).length+1:=by
    show ((32::Lib.itoa l[k]).toArray).size=_
    rw[List.size_toArray,List.length_cons]
   go_wp2_with (first
    |(go_at_call 87;refine(TN l[k] xm.1 xm.2 _ Ut).mono ?_;rintro e W2 ⟨rfl,kk,os,rfl⟩)
    |(go_at_call 86;refine(Lk w.heap.size _ _ _ (XQ hB _ _) ?sz ?le).mono ?_))
   case sz=>rw[Lib.byteCells_length,A'];omega
   case le=>rw[Go.Sort.size_grow];show w.heap.size<=wr.heap.size+_;omega
   rintro e W3 ⟨rfl,h3,b3⟩
   have sh:Lib.IsBuilderF 126 5 w.heap.size w.heap.size (Lib.byteCells (iY word l (k+1))) W3:=by
    rw[Lib.strCells_eq,<-Lib.byteCells_append]at h3
    rw[Ar word l ae]
    exact h3
   have B4:Below w.heap.size w W3:=(XV hb (Nat.le_refl _) kk os).trans b3
   go_wp2
   go_roundw
   case rel=>exact⟨k+1,ae,by first | (simp[IntKind.wrap_i64];done) | (simp[IntKind.wrap_i64];omega),sh,B4⟩
   case measure=>
    simp[intOf,IntKind.wrap_i64]
    omega
  ·have p7:k=l.length:=by omega
   subst p7
   have hL:=hlen l.length (Nat.le_refl _)
   go_wp2_with (go_at_call 88;refine(Any.Builder_String_any_k Tryd.lays169 Tryd.bldX w.heap.size w.heap.size _ _ hB hb.size).mono ?_;rintro e W3 ⟨rfl,h3,b3,-⟩)
   go_wp2
   go_ret
   refine⟨?_,hb.trans b3⟩
   have :(⟨(iY word l l.length).toArray⟩++⟨#[10]⟩:ByteArray)=⟨(nZ word l).toArray⟩:=by
    apply ByteArray.ext
    simp[nZ]
   simp[this]
open Go Go.Proofs
def dr(w:ByteArray)(l:List Int):ByteArray:=⟨(nZ w l).toArray⟩
def pI(n:Int):Prop:= -9223372036854775808<=n/\n<=9223372036854775807
noncomputable def P110:PSpec:=p2 rR ei (fun w l=>w.size<=1000/\l.length<=1000000/\∀ n∈l,pI n) (fun w l=>.str (dr w l)) true
noncomputable def S110:Spec:=P110.toSpec
attribute [go_sem] P110 S110
theorem Rq{w:ByteArray}{l:List Int}(hw:w.size<=1000)(hl:l.length<=1000000)(hr:∀ n∈l,pI n):(dr w l).size<=23000000:=by
 have h:=wM w l hr l.length (Nat.le_refl _)
 show (nZ w l).toArray.size<=_
 unfold nZ
 rw[List.size_toArray,List.length_append,List.length_singleton]
 omega
theorem P3:aR Tryd.prog 79 P110:=by
 refine⟨by decide,gv Tryd.func79 rfl (by kernel_rfl),fun h=>FI (fun _ _=>rfl) h,fun m w xs args ht hm hx hp=>?_⟩
 obtain⟨word,l,rfl,⟨h1,h2,h3⟩,hg⟩:=zY hp
 have hg:P110.fn _=_:=hg
 rw[hg]
 obtain⟨h4,h5⟩:=hx
 have bj:args.size=2:=by simpa using h4.symm
 have e0:=h5 0 (by simp) (by simp[bj])
 have e1:=h5 1 (by simp) (by simp[bj])
 simp only[List.getElem_cons_zero,List.getElem_cons_succ,Array.getElem_toList]at e0 e1
 have ji:args= #[args[0],args[1]]:=by
  apply Array.ext
  ·simp[bj]
  ·intro j a b
   rcases j with _ | _ | j
   ·rfl
   ·rfl
   ·omega
 have key:∀ a0 a1,ay m (.str word) a0->ay m (.sl (l.map vInt)) a1->Calls Tryd.prog 79 #[a0,a1] w fun e w'=>∃ v m',e=.returned v/\RowKit.Below w.heap.size w w'/\Mem.le m m'/\
     (∀ b off c,m' b off=some c->m b off=some c\/(w.heap.size<=b/\w'.cell? ⟨b,off,none⟩=some c))/\ay m' (.str (dr word l)) v:=by
  intro a0 a1 r0 r1
  cases r0
  have fin:∀ a cap,(l=[]\/∃ bl o,a=some ⟨bl,o,none⟩/\bl<w.heap.size/\∀ i (h:i<l.length),w.cell? ⟨bl,o+i,none⟩=some (.int .i64 l[i]))->
      Calls Tryd.prog 79 #[.string word,.slice a l.length cap] w fun e w'=>∃ v m',e=.returned v/\RowKit.Below w.heap.size w w'/\Mem.le m m'/\
   (∀ b off c,m' b off=some c->m b off=some c\/(w.heap.size<=b/\w'.cell? ⟨b,off,none⟩=some c))/\ay m' (.str (dr word l)) v:=by
   intro a cap ha
   refine(Rp word a l cap w ha h3 h1 h2 ht).mono ?_
   rintro e w' ⟨rfl,hb⟩
   exact⟨_,m,rfl,hb,Mem.le_refl m,fun b off c h=>.inl h,.str _ (by have:=Rq h1 h2 h3;unfold maxLen;omega)⟩
  generalize hL:l.map vInt=L at r1
  cases r1 with
  |slnil a cap=>
   have :l=[]:=List.map_eq_nil_iff.1 hL
   subst this
   exact fin a cap (.inl rfl)
  |sl _ b o cap sz c hn hl gW hs hc hr ho=>
   subst hL
   rw[List.length_map]
   refine fin _ _ (.inr ⟨b,o,rfl,?_,fun i hi=>?_⟩)
   ·have bP:0<l.length:=by
      rcases l with _ | _
      ·simp at hn
      ·simp
    have pR:=hs 0 (by simpa using bP)
    simp only[List.getElem_map,V.cells,List.length_singleton]at pR
    have :=hm _ _ _ (hc 0 0 (by simpa using bP) (by omega))
    exact kh this
   ·have bg:i<(l.map vInt).length:=by simpa using hi
    have pR:=hs i bg
    simp only[List.getElem_map,V.cells,List.length_singleton]at pR
    subst pR
    have h6:=hm _ _ _ (hc i 0 bg (by omega))
    have h7:=hr i 0 bg (by simp[V.cells])
    simp only[List.getElem_map,V.cells,List.getElem_cons_zero]at h7
    have h8:∀ u,ay m (vInt l[i]) u->u=.int .i64 l[i]:=by intro u h;cases h;rfl
    rw[h8 _ h7]at h6
    simpa using h6
 rw[ji]
 exact key _ _ e0 e1
theorem TG:ak Tryd.prog 79 S110:=P3.sound
noncomputable def P98:PSpec:=p3 iI iI iI (fun _ _ _=>True) (fun n lo hi=>.bool (aM n lo hi)) true
noncomputable def S98:Spec:=P98.toSpec
attribute [go_sem] P98 S98
theorem O6:aR Tryd.prog 65 P98:=by
 refine w3 (rs:=[.tmp 6]) Tryd.func65 Tryd.ntmps65 (by rfl) (by kernel_rfl) (by decide) (fun _ _ _ _=>rfl) ⟨_,rfl,lb rfl,fun n lo hi hp hw=>?_⟩
 have hP:=bc
 simp only[iI]at hw |-
 have hΓ:=@ig Tryd.prog
 repeat refine sq ?_
 refine rs hΓ [0,1,2] [] ?_
 repeat refine sq ?_
 refine rs hΓ [6] [] ?_
 refine av ?_
 simp only[go_sem]
 all_goals first | rfl | (simp;done) | (simp_all;done)
theorem AE:ak Tryd.prog 65 S98:=O6.sound
noncomputable def P86:PSpec:=p3 iI iI iI (fun _ _ _=>True) (fun n lo hi=>.bool (aM n lo hi)) true
noncomputable def S86:Spec:=P86.toSpec
attribute [go_sem] P86 S86
theorem Pc:aR Tryd.prog 83 P86:=by
 refine w3 (rs:=[.tmp 6]) Tryd.func83 Tryd.ntmps83 (by rfl) (by kernel_rfl) (by decide) (fun _ _ _ _=>rfl) ⟨_,rfl,lb rfl,fun n lo hi hp hw=>?_⟩
 have hP:=bc
 simp only[iI]at hw |-
 have hΓ:=@ig Tryd.prog
 repeat refine sq ?_
 refine rs hΓ [0,1,2] [] ?_
 repeat refine sq ?_
 refine rs hΓ [6] [] ?_
 refine av ?_
 simp only[go_sem]
 all_goals first | rfl | (simp;done) | (simp_all;done)
theorem AH:ak Tryd.prog 83 S86:=Pc.sound
noncomputable def K1:List (Nat×Spec):=[(65,S98),(83,S86)]
theorem sM:∀ f s,tbl K1 f=some s->ak Tryd.prog f s:=tc AE<|tc AH<|tn
attribute [go_sem] K1
noncomputable def P82:PSpec:=p1 iI (fun _=>True) (fun n=>.bool (aM n 0 5)) true
noncomputable def S82:Spec:=P82.toSpec
attribute [go_sem] P82 S82
theorem Ph:aR Tryd.prog 34 P82:=by
 refine w1 (rs:=[.tmp 2]) Tryd.func34 Tryd.ntmps34 (by rfl) (by kernel_rfl) (by decide) (fun _ _=>rfl) ⟨_,rfl,lb rfl,fun n hp hw=>?_⟩
 have hP:=bc
 simp only[iI]at hw |-
 have hΓ:=sM
 repeat refine sq ?_
 refine rs hΓ [0] [] ?_
 repeat refine sq ?_
 refine rs hΓ [2] [] ?_
 refine av ?_
 simp only[go_sem]
 all_goals first | rfl | (simp;done) | (simp_all;done)
theorem wU:ak Tryd.prog 34 S82:=Ph.sound
noncomputable def P84:PSpec:=p1 iI (fun _=>True) (fun n=>.bool (aM n 0 5)) true
noncomputable def S84:Spec:=P84.toSpec
attribute [go_sem] P84 S84
theorem Pe:aR Tryd.prog 90 P84:=by
 refine w1 (rs:=[.tmp 2]) Tryd.func90 Tryd.ntmps90 (by rfl) (by kernel_rfl) (by decide) (fun _ _=>rfl) ⟨_,rfl,lb rfl,fun n hp hw=>?_⟩
 have hP:=bc
 simp only[iI]at hw |-
 have hΓ:=sM
 repeat refine sq ?_
 refine rs hΓ [0] [] ?_
 repeat refine sq ?_
 refine rs hΓ [2] [] ?_
 refine av ?_
 simp only[go_sem]
 all_goals first | rfl | (simp;done) | (simp_all;done)
theorem wT:ak Tryd.prog 90 S84:=Pe.sound
noncomputable def P50:PSpec:=p1 iI (fun _=>True) (fun n=>.bool (aM n 1 999)) true
noncomputable def S50:Spec:=P50.toSpec
attribute [go_sem] P50 S50
theorem PH:aR Tryd.prog 40 P50:=by
 refine w1 (rs:=[.tmp 2]) Tryd.func40 Tryd.ntmps40 (by rfl) (by kernel_rfl) (by decide) (fun _ _=>rfl) ⟨_,rfl,lb rfl,fun n hp hw=>?_⟩
 have hP:=bc
 simp only[iI]at hw |-
 have hΓ:=sM
 repeat refine sq ?_
 refine rs hΓ [0] [] ?_
 repeat refine sq ?_
 refine rs hΓ [2] [] ?_
 refine av ?_
 simp only[go_sem]
 all_goals first | rfl | (simp;done) | (simp_all;done)
theorem AO:ak Tryd.prog 40 S50:=PH.sound
noncomputable def P55:PSpec:=p1 iI (fun _=>True) (fun n=>.bool (aM n 1 999)) true
noncomputable def S55:Spec:=P55.toSpec
attribute [go_sem] P55 S55
theorem PA:aR Tryd.prog 76 P55:=by
 refine w1 (rs:=[.tmp 2]) Tryd.func76 Tryd.ntmps76 (by rfl) (by kernel_rfl) (by decide) (fun _ _=>rfl) ⟨_,rfl,lb rfl,fun n hp hw=>?_⟩
 have hP:=bc
 simp only[iI]at hw |-
 have hΓ:=sM
 repeat refine sq ?_
 refine rs hΓ [0] [] ?_
 repeat refine sq ?_
 refine rs hΓ [2] [] ?_
 refine av ?_
 simp only[go_sem]
 all_goals first | rfl | (simp;done) | (simp_all;done)
theorem H0:ak Tryd.prog 76 S55:=PA.sound
noncomputable def P79:PSpec:=p1 iI (fun _=>True) (fun n=>.bool (aM n 0 99999)) true
noncomputable def S79:Spec:=P79.toSpec
attribute [go_sem] P79 S79
theorem Pk:aR Tryd.prog 71 P79:=by
 refine w1 (rs:=[.tmp 2]) Tryd.func71 Tryd.ntmps71 (by rfl) (by kernel_rfl) (by decide) (fun _ _=>rfl) ⟨_,rfl,lb rfl,fun n hp hw=>?_⟩
 have hP:=bc
 simp only[iI]at hw |-
 have hΓ:=sM
 repeat refine sq ?_
 refine rs hΓ [0] [] ?_
 repeat refine sq ?_
 refine rs hΓ [2] [] ?_
 refine av ?_
 simp only[go_sem]
 all_goals first | rfl | (simp;done) | (simp_all;done)
theorem AJ:ak Tryd.prog 71 S79:=Pk.sound
noncomputable def P81:PSpec:=p1 iI (fun _=>True) (fun n=>.bool (aM n 0 99999)) true
noncomputable def S81:Spec:=P81.toSpec
attribute [go_sem] P81 S81
theorem Pj:aR Tryd.prog 92 P81:=by
 refine w1 (rs:=[.tmp 2]) Tryd.func92 Tryd.ntmps92 (by rfl) (by kernel_rfl) (by decide) (fun _ _=>rfl) ⟨_,rfl,lb rfl,fun n hp hw=>?_⟩
 have hP:=bc
 simp only[iI]at hw |-
 have hΓ:=sM
 repeat refine sq ?_
 refine rs hΓ [0] [] ?_
 repeat refine sq ?_
 refine rs hΓ [2] [] ?_
 refine av ?_
 simp only[go_sem]
 all_goals first | rfl | (simp;done) | (simp_all;done)
theorem AI:ak Tryd.prog 92 S81:=Pj.sound
theorem dS{n lo hi:Int}:aM n lo hi=true↔lo<=n/\n<=hi:=by unfold aM;simp
theorem adK{n lo hi:Int}(h1:lo<=n)(h2:n<=hi):aM n lo hi=true:=dS.2 ⟨h1,h2⟩
def dP(n:Nat)(f:Nat->Bool):Bool:=(List.range n).all f
theorem gx{n:Nat}{f:Nat->Bool}:dP n f=true↔∀ j,j<n->f j=true:=by
 unfold dP;rw[List.all_eq_true];exact⟨fun h j hj=>h j (List.mem_range.2 hj),fun h j hj=>h j (List.mem_range.1 hj)⟩
theorem dO{n i:Nat}{f:Nat->Bool}(h:i<n)(hb:f i=false):dP n f=false:=by
 rw[Bool.eq_false_iff];intro k;rw[gx.1 k i h]at hb;cases hb
theorem gg{n:Nat}{f:Nat->Bool}(h:dP n f=true)(hb:f n=true):dP (n+1) f=true:=gx.2 fun j hj=>by
 rcases Nat.lt_succ_iff_lt_or_eq.1 hj with h5 | rfl
 ·exact gx.1 h j h5
 ·exact hb
theorem afJ{f:Nat->Bool}:dP 0 f=true:=rfl
def jC(l:List Int)(i:Nat):Bool:=aM (l.getD i 0) 1 999&&(i==0||decide (l.getD (i-1) 0<l.getD i 0))
def ft(l:List Int):Bool:=dP l.length (jC l)&&decide (l.length<=40)
def fq(l:List Par)(i:Nat):Bool:=aM (l.getD i default).no 1 99999&&aM (l.getD i default).pa 1 999&&(i==0||(l.getD (i-1) default).no+1==(l.getD i default).no)
def cz(l:List Par):Bool:=dP l.length (fq l)&&decide (l.length<=40)
theorem ru{i n:Nat}(h:i<n)(hn:n<=maxLen):∃ p:Nat,(IntKind.i64.wrap ((i:Int)-1)).toNat=p/\p<n/\p=i-1/\(0<i->0<=IntKind.i64.wrap ((i:Int)-1)/\IntKind.i64.wrap ((i:Int)-1)<n):=by
 unfold maxLen at hn
 rcases Nat.eq_zero_or_pos i with rfl | hp
 ·exact⟨0,by decide,h,rfl,fun h=>by omega⟩
 ·have:IntKind.i64.wrap ((i:Int)-1)=((i-1:Nat):Int):=by rw[wrap_i64 (by omega) (by omega)];omega
  exact⟨i-1,by rw[this];rfl,by omega,rfl,fun _=>by omega⟩
theorem lM{i:Nat}:decide ((i:Int)>0)=!(i==0):=by
 cases i<;>simp
theorem not_lt{a b:Int}:decide (a>=b)=!decide (a<b):=by
 by_cases h:a<b
 ·rw[decide_eq_true h,decide_eq_false (by omega)];rfl
 ·rw[decide_eq_false h,decide_eq_true (by omega)];rfl
noncomputable def MO:List (Nat×Spec):=[(40,S50),(76,S55),(65,S98),(83,S86)]
theorem yS:∀ f s,tbl MO f=some s->ak Tryd.prog f s:=tc AO<|tc H0<|tc AE<|tc AH<|tn
attribute [go_sem] MO
theorem FD{l:List Int}{i p:Nat}(hp:p=i-1)(hi:i<l.length)(bF:p<l.length):(!aM l[i] 1 999||(!(i==0)&&!decide (l[p] <l[i])))=!jC l i:=by
 subst hp
 unfold jC
 rw[getD_at hi,getD_at bF]
 cases aM l[i] 1 999<;>cases (i==0)<;>cases decide (l[i-1] <l[i])<;>rfl
theorem FA{l:List Par}{i p:Nat}(hp:p=i-1)(hi:i<l.length)(bF:p<l.length):
 (!aM l[i].no 1 99999||(!aM l[i].pa 1 999||(!(i==0)&&(l[p].no+1 != l[i].no))))=!fq l i:=by
 subst hp
 unfold fq
 rw[getD_at hi,getD_at bF]
 have :(l[i-1].no+1 != l[i].no)=!(l[i-1].no+1==l[i].no):=rfl
 rw[this]
 cases aM l[i].no 1 99999<;>cases aM l[i].pa 1 999<;>cases (i==0)<;>cases (l[i-1].no+1==l[i].no)<;>rfl
theorem Fx{l:List Par}{i p:Nat}(hp:p=i-1)(bF:p<l.length)(hR:dP i (fq l)=true)(h0:0<i):IntKind.i64.wrap (l[p].no+1)=l[p].no+1:=by
 have :=gx.1 hR p (by omega)
 unfold fq at this
 rw[getD_at bF]at this
 simp only[Bool.and_eq_true]at this
 have :=dS.1 this.1.1
 exact wrap_i64 (by omega) (by omega)
noncomputable def P83:PSpec:=p1 ei (fun _=>True) (fun l=>.bool (ft l)) true
noncomputable def S83:Spec:=P83.toSpec
attribute [go_sem] P83 S83
set_option maxHeartbeats 4000000 in
theorem Pf:aR Tryd.prog 35 P83:=by
 refine w1 (rs:=[.tmp 2]) Tryd.func35 Tryd.ntmps35 (by rfl) (by kernel_rfl) (by decide) (fun _ _=>rfl) ⟨_,rfl,lb rfl,fun l hp hw=>?_⟩
 have hP:=bc
 simp only[ei]at hw |-
 have hΓ:=yS
 have hl:l.length<=maxLen:=by have:=hw.1.1;simpa using this
 repeat refine sq ?_
 refine rs hΓ [0] [] ?_
 repeat refine sq ?_
 refine rs hΓ [0,5,6,7] [] ?_
 repeat refine sq ?_
 refine aJ ?_
 repeat refine sq ?_
 refine bR (fun s:Nat=>[(7,⟨true,.v (vInt s)⟩)]) (fun s=>[]) (fun s=>s<=l.length/\dP s (jC l)=true) (fun s=>l.length-s) 0 ?_ ?_ ?_ ?_
 ·exact⟨Nat.zero_le _,rfl⟩
 ·rfl
 ·rfl
 rintro i ⟨hi,hR⟩
 simp only[go_sem]
 repeat refine sq ?_
 refine rs hΓ [0,5,6,7,8] [] ?_
 repeat refine sq ?_
 refine ax rfl rfl (fun hb=>?_) (fun hb=>?_)
 ·have ae:i<l.length:=by simpa using hb
  have ai:(i:Int)<l.length:=by omega
  clear hb
  obtain⟨p,hp,bF,fA,bP⟩:=ru ae hl
  have cK:=FD fA ae bF
  repeat refine sq ?_
  refine aC ?_
  repeat refine sq ?_
  refine aJ ?_
  repeat refine sq ?_
  refine rx hΓ [0,3,4,5,6,7] [] (fun K' hK=>by simp only[go_sem,aH ae,Int.toNat_natCast,Int.natCast_nonneg,ai];(repeat (refine⟨ob,?_⟩));exact hK _ (by simp only[go_sem]) (by simp only[go_sem]<;>rfl)) ?_
  repeat refine sq ?_
  refine rx hΓ [0,5,6,7,27] [] (fun K' hK=>by simp only[go_sem,aH ae,Int.toNat_natCast,Int.natCast_nonneg,ai,hp,aH ae,aH bF,Int.toNat_natCast,Int.natCast_nonneg,ai,lM,not_lt];(repeat (refine⟨by first | exact ob | exact fun h=>bP (by simp_all;omega) | (intro h;have:=bP (by simp_all;omega);simp_all;done),?_⟩));exact hK _ (by simp only[go_sem]) (by simp only[go_sem]<;>rfl)) ?_
  repeat refine sq ?_
  refine ax rfl rfl (fun hb=>?_) (fun hb=>?_)
  ·repeat refine sq ?_
   have aN:jC l i=false:=by simpa[cK]using hb
   repeat refine sq ?_
   refine rx hΓ [2] [] (fun K' hK=>by simp only[go_sem,aH ae,Int.toNat_natCast,Int.natCast_nonneg,ai];(repeat (refine⟨ob,?_⟩));exact hK _ (by simp only[go_sem]) (by simp only[go_sem]<;>rfl)) ?_
   refine av ?_
   simp only[go_sem]
   simp only[ft,dO ae aN,Bool.false_and]
  ·repeat refine sq ?_
   have bk:jC l i=true:=by simpa[cK]using hb
   refine aC ?_
   refine cX ?_
   simp only[go_sem]
   refine kp [0,5,6,7] [] ?_
   repeat refine sq ?_
   refine aQ hΓ fun K' hK=>?_
   simp only[go_sem,aH ae,Int.toNat_natCast,Int.natCast_nonneg,ai]
   repeat (refine⟨ob,?_⟩)
   refine hK _ ?_
   clear K' hK
   simp only[go_sem]
   refine⟨i+1,⟨ae,?_⟩,by(show l.length-(i+1)<l.length-i;omega),?_⟩
   ·exact gg hR bk
   refine bd [0,5,6,7] [] ?_ ?_
   ·simp only[go_sem,aA ae hl,Int.natCast_add,Int.natCast_one]
   ·simp only[go_sem,aA ae hl,Int.natCast_add,Int.natCast_one]
 ·have aV:i=l.length:=by
   have :¬ (i:Int)<l.length:=by simpa using hb
   omega
  clear hb
  subst aV
  repeat refine sq ?_
  refine bK ?_
  simp only[go_sem]
  refine kp [0] [] ?_
  repeat refine sq ?_
  refine rs hΓ [2] [] ?_
  refine av ?_
  simp only[go_sem]
  simp only[ft,hR,Bool.true_and]
  try (congr 2;apply propext;omega)
theorem HS:ak Tryd.prog 35 S83:=Pf.sound
noncomputable def P87:PSpec:=p1 jF (fun _=>True) (fun l=>.bool (cz l)) true
noncomputable def S87:Spec:=P87.toSpec
attribute [go_sem] P87 S87
set_option maxHeartbeats 4000000 in
theorem Pb:aR Tryd.prog 70 P87:=by
 refine w1 (rs:=[.tmp 2]) Tryd.func70 Tryd.ntmps70 (by rfl) (by kernel_rfl) (by decide) (fun _ _=>rfl) ⟨_,rfl,lb rfl,fun l hp hw=>?_⟩
 have hP:=bc
 simp only[jF]at hw |-
 have hΓ:=yS
 have hl:l.length<=maxLen:=by have:=hw.1.1;simpa using this
 repeat refine sq ?_
 refine rs hΓ [0] [] ?_
 repeat refine sq ?_
 refine rs hΓ [0,5,6,7] [] ?_
 repeat refine sq ?_
 refine aJ ?_
 repeat refine sq ?_
 refine bR (fun s:Nat=>[(7,⟨true,.v (vInt s)⟩)]) (fun s=>[]) (fun s=>s<=l.length/\dP s (fq l)=true) (fun s=>l.length-s) 0 ?_ ?_ ?_ ?_
 ·exact⟨Nat.zero_le _,rfl⟩
 ·rfl
 ·rfl
 rintro i ⟨hi,hR⟩
 simp only[go_sem]
 repeat refine sq ?_
 refine rs hΓ [0,5,6,7,8] [] ?_
 repeat refine sq ?_
 refine ax rfl rfl (fun hb=>?_) (fun hb=>?_)
 ·have ae:i<l.length:=by simpa using hb
  have ai:(i:Int)<l.length:=by omega
  clear hb
  obtain⟨p,hp,bF,fA,bP⟩:=ru ae hl
  have cK:=FA fA ae bF
  repeat refine sq ?_
  refine aC ?_
  repeat refine sq ?_
  refine aJ ?_
  repeat refine sq ?_
  refine rx hΓ [0,3,4,5,6,7] [[4,0]] (fun K' hK=>by simp only[go_sem,aH ae,Int.toNat_natCast,Int.natCast_nonneg,ai];(repeat (refine⟨ob,?_⟩));exact hK _ (by simp only[go_sem]) (by simp only[go_sem]<;>rfl)) ?_
  rcases Nat.eq_zero_or_pos i with h0 | h0
  ·have bw:(i==0)=true:=by simp[h0]
   repeat refine sq ?_
   refine dx hΓ hP [[],[0],[0,1],[0,1,2],[0,1,2,3],[0,1,2,3,4],[0,1,2,3,4,5],[0,1,2,3,4,5,6],[0,1,2,3,4,5,6,7],[0,1,2,3,4,5,6,7,8],[0,1,2,3,4,5,6,7,8,9],[0,1,2,3,4,5,6,7,8,9,10],[0,1,2,3,4,5,6,7,8,9,10,11],[0,1,2,3,4,5,6,7,8,9,10,11,12],[0,1,2,3,4,5,6,7,8,9,10,11,12,13],[0,1,2,3,4,5,6,7,8,9,10,11,12,13],[0,1,2,3,4,5,6,7,8,9,10,11,12,13,15],[0,1,2,3,4,5,6,7,8,9,10,11,12,13,14,15,16],[0,1,2,3,4,5,6,7,8,9,10,11,12,13,14,15,16,17],[0,1,2,3,4,5,6,7,8,9,10,11,12,13,14,15,16,17,18],[0,1,2,3,4,5,6,7,8,9,10,11,12,13,14,15,16,17,18,19],[0,1,2,3,4,5,6,7,8,9,10,11,12,13],[0,1,2,3,4,5,6,7,8,9,10,11,12,13,21],[0,1,2,3,4,5,6,7,8,9,10,11,12,13,14,15,16,17,18,19,20,21,22],[0,1,2,3,4,5,6,7,8,9,10,11,12,13,14,15,16,17,18,19,20,21,22,23],[0,1,2,3,4,5,6,7,8,9,10,11,12,13,14,15,16,17,18,19,20,21,22,23,24]] [0,5,6,7,37] [] (by kernel_rfl) (fun K' hK=>by simp only[go_sem,aH ae,Int.toNat_natCast,Int.natCast_nonneg,ai,bw,hp,aH ae,aH bF,Int.toNat_natCast,Int.natCast_nonneg,ai,lM,not_lt];(repeat (refine⟨by first | exact ob | exact fun _=>⟨bE,bH,rfl⟩ | exact fun _=>⟨bE,bH⟩,?_⟩));(first | refine⟨by rfl,?_⟩ | skip);exact hK _ (by simp only[go_sem]) (by simp only[go_sem]<;>rfl)) ?_
   repeat refine sq ?_
   refine ax rfl rfl (fun hb=>?_) (fun hb=>?_)
   ·repeat refine sq ?_
    have aN:fq l i=false:=by simpa[bw,hb]using cK.symm
    repeat refine sq ?_
    refine rx hΓ [2] [] (fun K' hK=>by simp only[go_sem,aH ae,Int.toNat_natCast,Int.natCast_nonneg,ai,bw];(repeat (refine⟨ob,?_⟩));exact hK _ (by simp only[go_sem]) (by simp only[go_sem]<;>rfl)) ?_
    refine av ?_
    simp only[go_sem]
    first | simp only[cz,dO ae aN,Bool.false_and] | (simp only[cz,hR,Bool.true_and];done) | (simp only[cz,hR,Bool.true_and];congr 2;apply propext;omega)
   ·repeat refine sq ?_
    have bk:fq l i=true:=by simpa[bw,hb]using cK.symm
    refine aC ?_
    refine cX ?_
    simp only[go_sem]
    refine kp [0,5,6,7] [] ?_
    repeat refine sq ?_
    refine aQ hΓ fun K' hK=>?_
    simp only[go_sem,aH ae,Int.toNat_natCast,Int.natCast_nonneg,ai,bw]
    repeat (refine⟨ob,?_⟩)
    refine hK _ ?_
    clear K' hK
    simp only[go_sem]
    refine⟨i+1,⟨ae,?_⟩,by(show l.length-(i+1)<l.length-i;omega),?_⟩
    ·exact gg hR bk
    refine bd [0,5,6,7] [] ?_ ?_
    ·simp only[go_sem,aA ae hl,Int.natCast_add,Int.natCast_one]
    ·simp only[go_sem,aA ae hl,Int.natCast_add,Int.natCast_one]
  ·have pN:=Fx fA bF hR h0
   have bw:(i==0)=false:=by rw[beq_eq_false_iff_ne];omega
   obtain⟨bE,bH⟩:=bP h0
   repeat refine sq ?_
   refine dx hΓ hP [[],[0],[0,1],[0,1,2],[0,1,2,3],[0,1,2,3,4],[0,1,2,3,4,5],[0,1,2,3,4,5,6],[0,1,2,3,4,5,6,7],[0,1,2,3,4,5,6,7,8],[0,1,2,3,4,5,6,7,8,9],[0,1,2,3,4,5,6,7,8,9,10],[0,1,2,3,4,5,6,7,8,9,10,11],[0,1,2,3,4,5,6,7,8,9,10,11,12],[0,1,2,3,4,5,6,7,8,9,10,11,12,13],[0,1,2,3,4,5,6,7,8,9,10,11,12,13],[0,1,2,3,4,5,6,7,8,9,10,11,12,13,15],[0,1,2,3,4,5,6,7,8,9,10,11,12,13,14,15,16],[0,1,2,3,4,5,6,7,8,9,10,11,12,13,14,15,16,17],[0,1,2,3,4,5,6,7,8,9,10,11,12,13,14,15,16,17,18],[0,1,2,3,4,5,6,7,8,9,10,11,12,13,14,15,16,17,18,19],[0,1,2,3,4,5,6,7,8,9,10,11,12,13],[0,1,2,3,4,5,6,7,8,9,10,11,12,13,21],[0,1,2,3,4,5,6,7,8,9,10,11,12,13,14,15,16,17,18,19,20,21,22],[0,1,2,3,4,5,6,7,8,9,10,11,12,13,14,15,16,17,18,19,20,21,22,23],[0,1,2,3,4,5,6,7,8,9,10,11,12,13,14,15,16,17,18,19,20,21,22,23,24]] [0,5,6,7,37] [] (by kernel_rfl) (fun K' hK=>by simp only[go_sem,aH ae,Int.toNat_natCast,Int.natCast_nonneg,ai,pN,bw,bE,bH,hp,aH ae,aH bF,Int.toNat_natCast,Int.natCast_nonneg,ai,lM,not_lt];(repeat (refine⟨by first | exact ob | exact fun _=>⟨bE,bH,rfl⟩ | exact fun _=>⟨bE,bH⟩,?_⟩));(first | refine⟨by rfl,?_⟩ | skip);exact hK _ (by simp only[go_sem]) (by simp only[go_sem]<;>rfl)) ?_
   repeat refine sq ?_
   refine ax rfl rfl (fun hb=>?_) (fun hb=>?_)
   ·repeat refine sq ?_
    have aN:fq l i=false:=by simpa[bw,<-Bool.or_assoc,hb]using cK.symm
    repeat refine sq ?_
    refine rx hΓ [2] [] (fun K' hK=>by simp only[go_sem,aH ae,Int.toNat_natCast,Int.natCast_nonneg,ai,pN,bw,bE,bH];(repeat (refine⟨ob,?_⟩));exact hK _ (by simp only[go_sem]) (by simp only[go_sem]<;>rfl)) ?_
    refine av ?_
    simp only[go_sem]
    first | simp only[cz,dO ae aN,Bool.false_and] | (simp only[cz,hR,Bool.true_and];done) | (simp only[cz,hR,Bool.true_and];congr 2;apply propext;omega)
   ·repeat refine sq ?_
    have bk:fq l i=true:=by simpa[bw,<-Bool.or_assoc,hb]using cK.symm
    refine aC ?_
    refine cX ?_
    simp only[go_sem]
    refine kp [0,5,6,7] [] ?_
    repeat refine sq ?_
    refine aQ hΓ fun K' hK=>?_
    simp only[go_sem,aH ae,Int.toNat_natCast,Int.natCast_nonneg,ai,pN,bw,bE,bH]
    repeat (refine⟨ob,?_⟩)
    refine hK _ ?_
    clear K' hK
    simp only[go_sem]
    refine⟨i+1,⟨ae,?_⟩,by(show l.length-(i+1)<l.length-i;omega),?_⟩
    ·exact gg hR bk
    refine bd [0,5,6,7] [] ?_ ?_
    ·simp only[go_sem,aA ae hl,Int.natCast_add,Int.natCast_one]
    ·simp only[go_sem,aA ae hl,Int.natCast_add,Int.natCast_one]
 ·have aV:i=l.length:=by
   have :¬ (i:Int)<l.length:=by simpa using hb
   omega
  clear hb
  subst aV
  repeat refine sq ?_
  refine bK ?_
  simp only[go_sem]
  refine kp [0] [] ?_
  repeat refine sq ?_
  refine rs hΓ [2] [] ?_
  refine av ?_
  simp only[go_sem]
  first | simp only[cz,dO ae aN,Bool.false_and] | (simp only[cz,hR,Bool.true_and];done) | (simp only[cz,hR,Bool.true_and];congr 2;apply propext;omega)
theorem HQ:ak Tryd.prog 70 S87:=Pb.sound
@[go_sem] theorem afO{α:Type}(s:bb α)(e:α->V):(s.L e).take 6=s.L e:=rfl
theorem afQ{α:Type}(s:bb α)(e:α->V){i:Nat}(h:i<6):((s.L e).drop i).take 1=[e (s.get i)]:=by
 match i,h with
 | 0,_=>rfl
 | 1,_=>rfl
 | 2,_=>rfl
 | 3,_=>rfl
 | 4,_=>rfl
 | 5,_=>rfl
@[go_sem] theorem afP{α:Type}(s:bb α)(e:α->V):(s.L e).length=6:=rfl
attribute [go_sem] Nat.mul_one
def fj(s:Stk)(i:Nat):Bool:=aM (s.se.get i) 0 99999&&aM (s.ta.get i) 0 99999&&cz (s.un.get i)&&((s.un.get i).length==0||((s.un.get i).getD ((s.un.get i).length-1) default).no==s.se.get i)
def cf(me:Int)(s:Stk):Bool:=aM me 0 5&&ft s.ho&&((s.un.get me.toNat).length==0)&&(s.se.get me.toNat==0)&&(s.ta.get me.toNat==0)&&dP 6 (fj s)
theorem dR{α:Type}{l:List α}:decide ((l.length:Int)>0)=!(l.length==0):=by
 cases l with
 |nil=>rfl
 |cons a r=>
  have h1:((a::r).length==0)=false:=rfl
  rw[h1]
  simp
theorem Gq{l:List Par}(hl:l.length<=maxLen):∃ p:Nat,(IntKind.i64.wrap ((l.length:Int)-1)).toNat=p/\p=l.length-1/\((l.length==0)=false->p<l.length/\0<=IntKind.i64.wrap ((l.length:Int)-1)/\IntKind.i64.wrap ((l.length:Int)-1)<l.length):=by
 unfold maxLen at hl
 by_cases h:l.length=0
 ·exact⟨0,by rw[h];decide,by omega,fun h2=>by rw[h]at h2;cases h2⟩
 ·have:IntKind.i64.wrap ((l.length:Int)-1)=((l.length-1:Nat):Int):=by rw[wrap_i64 (by omega) (by omega)];omega
  exact⟨l.length-1,by rw[this];rfl,rfl,fun _=>by omega⟩
theorem acx{me:Int}{s:Stk}{i:Nat}(hi:i<6)(h:fj s i=false):cf me s=false:=by
 unfold cf
 rw[dO hi h,Bool.and_false]
theorem qN{s:Stk}(h:V.wfL [.agg (aB s)]){i:Nat}(hi:i<6):(s.un.get i).length<=maxLen:=by
 have h1:V.wfL (aB s):=h.1
 have h2:rowP (s.un.get i)∈aB s:=by
  match i,hi with
  | 0,_=>simp[aB,bb.L,bb.get]
  | 1,_=>simp[aB,bb.L,bb.get]
  | 2,_=>simp[aB,bb.L,bb.get]
  | 3,_=>simp[aB,bb.L,bb.get]
  | 4,_=>simp[aB,bb.L,bb.get]
  | 5,_=>simp[aB,bb.L,bb.get]
 have h3:=(D8 h1 _ h2).1
 simpa using h3
theorem QB{l:List Par}{i p:Nat}(hp:p=i-1)(hi:i<l.length)(bF:p<l.length):
 (!aM l[i].pa 1 999||(!aM l[i].no 1 99999||(!(i==0)&&(l[i].no != l[p].no+1))))=!fq l i:=by
 rw[<-FA hp hi bF]
 have :(l[i].no != l[p].no+1)=(l[p].no+1 != l[i].no):=by
  rw[Bool.eq_iff_iff,bne_iff_ne,bne_iff_ne];exact⟨fun h=>h.symm,fun h=>h.symm⟩
 rw[this]
 cases aM l[i].no 1 99999<;>cases aM l[i].pa 1 999<;>rfl
noncomputable def P85:PSpec:=p1 ei (fun _=>True) (fun l=>.bool (ft l)) true
noncomputable def S85:Spec:=P85.toSpec
attribute [go_sem] P85 S85
set_option maxHeartbeats 4000000 in
theorem Pd:aR Tryd.prog 91 P85:=by
 refine w1 (rs:=[.tmp 2]) Tryd.func91 Tryd.ntmps91 (by rfl) (by kernel_rfl) (by decide) (fun _ _=>rfl) ⟨_,rfl,lb rfl,fun l hp hw=>?_⟩
 have hP:=bc
 simp only[ei]at hw |-
 have hΓ:=yS
 have hl:l.length<=maxLen:=by have:=hw.1.1;simpa using this
 repeat refine sq ?_
 refine rs hΓ [0] [] ?_
 repeat refine sq ?_
 refine rs hΓ [0,3] [] ?_
 repeat refine sq ?_
 refine aJ ?_
 repeat refine sq ?_
 refine bR (fun s:Nat=>[(3,⟨true,.v (vInt s)⟩)]) (fun s=>[]) (fun s=>s<=l.length/\dP s (jC l)=true) (fun s=>l.length-s) 0 ?_ ?_ ?_ ?_
 ·exact⟨Nat.zero_le _,rfl⟩
 ·rfl
 ·rfl
 rintro i ⟨hi,hR⟩
 simp only[go_sem]
 repeat refine sq ?_
 refine rs hΓ [0,3,7] [] ?_
 repeat refine sq ?_
 refine ax rfl rfl (fun hb=>?_) (fun hb=>?_)
 ·have ae:i<l.length:=by simpa using hb
  have ai:(i:Int)<l.length:=by omega
  clear hb
  obtain⟨p,hp,bF,fA,bP⟩:=ru ae hl
  have cK:=FD fA ae bF
  repeat refine sq ?_
  refine aC ?_
  repeat refine sq ?_
  refine aJ ?_
  repeat refine sq ?_
  refine dx hΓ hP [[],[],[0,1],[0,1,2],[0,1,2,3],[0,1,2,3,4],[0,1,2,3,4,5],[0,1,2,3,4,5,6],[0,1,2,3,4,5,6,7],[0,1,2,3,4,5,6,7,8],[0,1,2,3,4,5,6,7,8,9],[0,1,2,3,4,5,6,7,8,9],[0,1,2,3,4,5,6,7,8,9,11],[0,1,2,3,4,5,6,7,8,9,10,11,12],[0,1,2,3,4,5,6,7,8,9,10,11,12,13],[0,1,2,3,4,5,6,7,8,9],[0,1,2,3,4,5,6,7,8,9],[0,1,2,3,4,5,6,7,8,9,15,16],[0,1,2,3,4,5,6,7,8,9,15,16,17],[0,1,2,3,4,5,6,7,8,9,10,11,12,13,14,15,16,17,18],[0,1,2,3,4,5,6,7,8,9,10,11,12,13,14,15,16,17,18,19],[0,1,2,3,4,5,6,7,8,9,10,11,12,13,14,15,16,17,18,19,20]] [0,3,31] [] (by kernel_rfl) (fun K' hK=>by simp only[go_sem,aH ae,Int.toNat_natCast,Int.natCast_nonneg,ai,hp,aH ae,aH bF,Int.toNat_natCast,Int.natCast_nonneg,ai,lM,not_lt];(repeat (refine⟨by first | exact ob | exact fun h=>bP (by simp_all;omega) | (intro h;have:=bP (by simp_all;omega);simp_all;done),?_⟩));(first | refine⟨by rfl,?_⟩ | skip);exact hK _ (by simp only[go_sem]) (by simp only[go_sem]<;>rfl)) ?_
  repeat refine sq ?_
  refine ax rfl rfl (fun hb=>?_) (fun hb=>?_)
  ·repeat refine sq ?_
   have aN:jC l i=false:=by simpa[cK]using hb
   repeat refine sq ?_
   refine rx hΓ [2] [] (fun K' hK=>by simp only[go_sem,aH ae,Int.toNat_natCast,Int.natCast_nonneg,ai];(repeat (refine⟨ob,?_⟩));exact hK _ (by simp only[go_sem]) (by simp only[go_sem]<;>rfl)) ?_
   refine av ?_
   simp only[go_sem]
   simp only[ft,dO ae aN,Bool.false_and]
  ·repeat refine sq ?_
   have bk:jC l i=true:=by simpa[cK]using hb
   refine aC ?_
   refine cX ?_
   simp only[go_sem]
   refine kp [0,3] [] ?_
   repeat refine sq ?_
   refine aQ hΓ fun K' hK=>?_
   simp only[go_sem,aH ae,Int.toNat_natCast,Int.natCast_nonneg,ai]
   repeat (refine⟨ob,?_⟩)
   refine hK _ ?_
   clear K' hK
   simp only[go_sem]
   refine⟨i+1,⟨ae,?_⟩,by(show l.length-(i+1)<l.length-i;omega),?_⟩
   ·exact gg hR bk
   refine bd [0,3] [] ?_ ?_
   ·simp only[go_sem,aA ae hl,Int.natCast_add,Int.natCast_one]
   ·simp only[go_sem,aA ae hl,Int.natCast_add,Int.natCast_one]
 ·have aV:i=l.length:=by
   have :¬ (i:Int)<l.length:=by simpa using hb
   omega
  clear hb
  subst aV
  repeat refine sq ?_
  refine bK ?_
  simp only[go_sem]
  refine kp [0] [] ?_
  repeat refine sq ?_
  refine rs hΓ [2] [] ?_
  refine av ?_
  simp only[go_sem]
  simp only[ft,hR,Bool.true_and]
  try (congr 2;apply propext;omega)
theorem HR:ak Tryd.prog 91 S85:=Pd.sound
noncomputable def P88:PSpec:=p1 jF (fun _=>True) (fun l=>.bool (cz l)) true
noncomputable def S88:Spec:=P88.toSpec
attribute [go_sem] P88 S88
set_option maxHeartbeats 4000000 in
theorem O':aR Tryd.prog 93 P88:=by
 refine w1 (rs:=[.tmp 2]) Tryd.func93 Tryd.ntmps93 (by rfl) (by kernel_rfl) (by decide) (fun _ _=>rfl) ⟨_,rfl,lb rfl,fun l hp hw=>?_⟩
 have hP:=bc
 simp only[jF]at hw |-
 have hΓ:=yS
 have hl:l.length<=maxLen:=by have:=hw.1.1;simpa using this
 repeat refine sq ?_
 refine rs hΓ [0] [] ?_
 repeat refine sq ?_
 refine rs hΓ [0,3] [] ?_
 repeat refine sq ?_
 refine aJ ?_
 repeat refine sq ?_
 refine bR (fun s:Nat=>[(3,⟨true,.v (vInt s)⟩)]) (fun s=>[]) (fun s=>s<=l.length/\dP s (fq l)=true) (fun s=>l.length-s) 0 ?_ ?_ ?_ ?_
 ·exact⟨Nat.zero_le _,rfl⟩
 ·rfl
 ·rfl
 rintro i ⟨hi,hR⟩
 simp only[go_sem]
 repeat refine sq ?_
 refine rs hΓ [0,3,7] [] ?_
 repeat refine sq ?_
 refine ax rfl rfl (fun hb=>?_) (fun hb=>?_)
 ·have ae:i<l.length:=by simpa using hb
  have ai:(i:Int)<l.length:=by omega
  clear hb
  obtain⟨p,hp,bF,fA,bP⟩:=ru ae hl
  have cK:=QB fA ae bF
  repeat refine sq ?_
  refine aC ?_
  repeat refine sq ?_
  refine aJ ?_
  repeat refine sq ?_
  rcases Nat.eq_zero_or_pos i with h0 | h0
  ·have bw:(i==0)=true:=by simp[h0]
   repeat refine sq ?_
   refine dx hΓ hP [[],[],[0,1],[0,1,2],[0,1,2,3],[0,1,2,3,4],[0,1,2,3,4,5],[0,1,2,3,4,5,6],[0,1,2,3,4,5,6,7],[0,1,2,3,4,5,6,7],[0,1,2,3,4,5,6,7,8,9],[0,1,2,3,4,5,6,7,8,9,10],[0,1,2,3,4,5,6,7,8,9,10,11],[0,1,2,3,4,5,6,7,8,9,10,11,12],[0,1,2,3,4,5,6,7,8,9,10,11,12,13],[0,1,2,3,4,5,6,7,8,9,10,11,12,13,14],[0,1,2,3,4,5,6,7,8,9,10,11,12,13,14,15],[0,1,2,3,4,5,6,7,8,9,10,11,12,13,14,15,16],[0,1,2,3,4,5,6,7,8,9,10,11,12,13,14,15,16,17],[0,1,2,3,4,5,6,7,8,9,10,11,12,13,14,15,16,17,18],[0,1,2,3,4,5,6,7,8,9,10,11,12,13,14,15,16,17,18,19],[0,1,2,3,4,5,6,7,8,9,10,11,12,13,14,15,16,17,18,19],[0,1,2,3,4,5,6,7,8,9,10,11,12,13,14,15,16,17,18,19,20,21],[0,1,2,3,4,5,6,7,8,9,10,11,12,13,14,15,16,17,18,19,20,21,22],[0,1,2,3,4,5,6,7,8,9,10,11,12,13,14,15,16,17,18,19,20,21,22,23],[0,1,2,3,4,5,6,7,8,9,10,11,12,13,14,15,16,17,18,19],[0,1,2,3,4,5,6,7,8,9,10,11,12,13,14,15,16,17,18,19],[0,1,2,3,4,5,6,7,8,9,10,11,12,13,14,15,16,17,18,19,26],[0,1,2,3,4,5,6,7,8,9,10,11,12,13,14,15,16,17,18,19,25,26,27],[0,1,2,3,4,5,6,7,8,9,10,11,12,13,14,15,16,17,18,19,25,26,27,28],[0,1,2,3,4,5,6,7,8,9,10,11,12,13,14,15,16,17,18,19,25,26,27,28,29],[0,1,2,3,4,5,6,7,8,9,10,11,12,13,14,15,16,17,18,19,25,26,27,28,29,30],[0,1,2,3,4,5,6,7,8,9,10,11,12,13,14,15,16,17,18,19,20,21,22,23,24,25,26,27,28,29,30,31],[0,1,2,3,4,5,6,7,8,9,10,11,12,13,14,15,16,17,18,19,20,21,22,23,24,25,26,27,28,29,30,31,32],[0,1,2,3,4,5,6,7,8,9,10,11,12,13,14,15,16,17,18,19,20,21,22,23,24,25,26,27,28,29,30,31,32,33]] [0,3,44] [] (by kernel_rfl) (fun K' hK=>by simp only[go_sem,aH ae,Int.toNat_natCast,Int.natCast_nonneg,ai,bw,hp,aH ae,aH bF,Int.toNat_natCast,Int.natCast_nonneg,ai,lM,not_lt];(repeat (refine⟨by first | exact ob | exact fun _=>⟨bE,bH,rfl⟩ | exact fun _=>⟨bE,bH⟩,?_⟩));(first | refine⟨by rfl,?_⟩ | skip);exact hK _ (by simp only[go_sem]) (by simp only[go_sem]<;>rfl)) ?_
   repeat refine sq ?_
   refine ax rfl rfl (fun hb=>?_) (fun hb=>?_)
   ·repeat refine sq ?_
    have aN:fq l i=false:=by simpa[bw,hb]using cK.symm
    repeat refine sq ?_
    refine rx hΓ [2] [] (fun K' hK=>by simp only[go_sem,aH ae,Int.toNat_natCast,Int.natCast_nonneg,ai,bw];(repeat (refine⟨ob,?_⟩));exact hK _ (by simp only[go_sem]) (by simp only[go_sem]<;>rfl)) ?_
    refine av ?_
    simp only[go_sem]
    first | simp only[cz,dO ae aN,Bool.false_and] | (simp only[cz,hR,Bool.true_and];done) | (simp only[cz,hR,Bool.true_and];congr 2;apply propext;omega)
   ·repeat refine sq ?_
    have bk:fq l i=true:=by simpa[bw,hb]using cK.symm
    refine aC ?_
    refine cX ?_
    simp only[go_sem]
    refine kp [0,3] [] ?_
    repeat refine sq ?_
    refine aQ hΓ fun K' hK=>?_
    simp only[go_sem,aH ae,Int.toNat_natCast,Int.natCast_nonneg,ai,bw]
    repeat (refine⟨ob,?_⟩)
    refine hK _ ?_
    clear K' hK
    simp only[go_sem]
    refine⟨i+1,⟨ae,?_⟩,by(show l.length-(i+1)<l.length-i;omega),?_⟩
    ·exact gg hR bk
    refine bd [0,3] [] ?_ ?_
    ·simp only[go_sem,aA ae hl,Int.natCast_add,Int.natCast_one]
    ·simp only[go_sem,aA ae hl,Int.natCast_add,Int.natCast_one]
  ·have pN:=Fx fA bF hR h0
   have bw:(i==0)=false:=by rw[beq_eq_false_iff_ne];omega
   obtain⟨bE,bH⟩:=bP h0
   repeat refine sq ?_
   refine dx hΓ hP [[],[],[0,1],[0,1,2],[0,1,2,3],[0,1,2,3,4],[0,1,2,3,4,5],[0,1,2,3,4,5,6],[0,1,2,3,4,5,6,7],[0,1,2,3,4,5,6,7],[0,1,2,3,4,5,6,7,8,9],[0,1,2,3,4,5,6,7,8,9,10],[0,1,2,3,4,5,6,7,8,9,10,11],[0,1,2,3,4,5,6,7,8,9,10,11,12],[0,1,2,3,4,5,6,7,8,9,10,11,12,13],[0,1,2,3,4,5,6,7,8,9,10,11,12,13,14],[0,1,2,3,4,5,6,7,8,9,10,11,12,13,14,15],[0,1,2,3,4,5,6,7,8,9,10,11,12,13,14,15,16],[0,1,2,3,4,5,6,7,8,9,10,11,12,13,14,15,16,17],[0,1,2,3,4,5,6,7,8,9,10,11,12,13,14,15,16,17,18],[0,1,2,3,4,5,6,7,8,9,10,11,12,13,14,15,16,17,18,19],[0,1,2,3,4,5,6,7,8,9,10,11,12,13,14,15,16,17,18,19],[0,1,2,3,4,5,6,7,8,9,10,11,12,13,14,15,16,17,18,19,20,21],[0,1,2,3,4,5,6,7,8,9,10,11,12,13,14,15,16,17,18,19,20,21,22],[0,1,2,3,4,5,6,7,8,9,10,11,12,13,14,15,16,17,18,19,20,21,22,23],[0,1,2,3,4,5,6,7,8,9,10,11,12,13,14,15,16,17,18,19],[0,1,2,3,4,5,6,7,8,9,10,11,12,13,14,15,16,17,18,19],[0,1,2,3,4,5,6,7,8,9,10,11,12,13,14,15,16,17,18,19,26],[0,1,2,3,4,5,6,7,8,9,10,11,12,13,14,15,16,17,18,19,25,26,27],[0,1,2,3,4,5,6,7,8,9,10,11,12,13,14,15,16,17,18,19,25,26,27,28],[0,1,2,3,4,5,6,7,8,9,10,11,12,13,14,15,16,17,18,19,25,26,27,28,29],[0,1,2,3,4,5,6,7,8,9,10,11,12,13,14,15,16,17,18,19,25,26,27,28,29,30],[0,1,2,3,4,5,6,7,8,9,10,11,12,13,14,15,16,17,18,19,20,21,22,23,24,25,26,27,28,29,30,31],[0,1,2,3,4,5,6,7,8,9,10,11,12,13,14,15,16,17,18,19,20,21,22,23,24,25,26,27,28,29,30,31,32],[0,1,2,3,4,5,6,7,8,9,10,11,12,13,14,15,16,17,18,19,20,21,22,23,24,25,26,27,28,29,30,31,32,33]] [0,3,44] [] (by kernel_rfl) (fun K' hK=>by simp only[go_sem,aH ae,Int.toNat_natCast,Int.natCast_nonneg,ai,pN,bw,bE,bH,hp,aH ae,aH bF,Int.toNat_natCast,Int.natCast_nonneg,ai,lM,not_lt];(repeat (refine⟨by first | exact ob | exact fun _=>⟨bE,bH,rfl⟩ | exact fun _=>⟨bE,bH⟩,?_⟩));(first | refine⟨by rfl,?_⟩ | skip);exact hK _ (by simp only[go_sem]) (by simp only[go_sem]<;>rfl)) ?_
   repeat refine sq ?_
   refine ax rfl rfl (fun hb=>?_) (fun hb=>?_)
   ·repeat refine sq ?_
    have aN:fq l i=false:=by simpa[bw,<-Bool.or_assoc,hb]using cK.symm
    repeat refine sq ?_
    refine rx hΓ [2] [] (fun K' hK=>by simp only[go_sem,aH ae,Int.toNat_natCast,Int.natCast_nonneg,ai,pN,bw,bE,bH];(repeat (refine⟨ob,?_⟩));exact hK _ (by simp only[go_sem]) (by simp only[go_sem]<;>rfl)) ?_
    refine av ?_
    simp only[go_sem]
    first | simp only[cz,dO ae aN,Bool.false_and] | (simp only[cz,hR,Bool.true_and];done) | (simp only[cz,hR,Bool.true_and];congr 2;apply propext;omega)
   ·repeat refine sq ?_
    have bk:fq l i=true:=by simpa[bw,<-Bool.or_assoc,hb]using cK.symm
    refine aC ?_
    refine cX ?_
    simp only[go_sem]
    refine kp [0,3] [] ?_
    repeat refine sq ?_
    refine aQ hΓ fun K' hK=>?_
    simp only[go_sem,aH ae,Int.toNat_natCast,Int.natCast_nonneg,ai,pN,bw,bE,bH]
    repeat (refine⟨ob,?_⟩)
    refine hK _ ?_
    clear K' hK
    simp only[go_sem]
    refine⟨i+1,⟨ae,?_⟩,by(show l.length-(i+1)<l.length-i;omega),?_⟩
    ·exact gg hR bk
    refine bd [0,3] [] ?_ ?_
    ·simp only[go_sem,aA ae hl,Int.natCast_add,Int.natCast_one]
    ·simp only[go_sem,aA ae hl,Int.natCast_add,Int.natCast_one]
 ·have aV:i=l.length:=by
   have :¬ (i:Int)<l.length:=by simpa using hb
   omega
  clear hb
  subst aV
  repeat refine sq ?_
  refine bK ?_
  simp only[go_sem]
  refine kp [0] [] ?_
  repeat refine sq ?_
  refine rs hΓ [2] [] ?_
  refine av ?_
  simp only[go_sem]
  first | simp only[cz,dO ae aN,Bool.false_and] | (simp only[cz,hR,Bool.true_and];done) | (simp only[cz,hR,Bool.true_and];congr 2;apply propext;omega)
theorem HP:ak Tryd.prog 93 S88:=O'.sound
noncomputable def K2:List (Nat×Spec):=[(34,S82),(35,S83),(71,S79),(70,S87),(90,S84),(91,S85),(92,S81),(93,S88)]
theorem Mz:∀ f s,tbl K2 f=some s->ak Tryd.prog f s:=tc wU<|tc HS<|tc AJ<|tc HQ<|tc wT<|tc HR<|tc AI<|tc HP<|tn
attribute [go_sem] K2
end Go.Eng
