import Derived.Test.YtckmfkgppohnmaaDoorK4
import Derived.Laws.Bits64
import Derived.KernelRfl
import Derived.Test.YtckmfkgppohnmaaDoorProg
import Derived.Shelf.Strings.BuilderK
import Derived.Shelf.Strconv.Itoa3
import Derived.WalkKit
import Derived.BigCall
import Derived.Lib.ItoaLen
/- Texts EngB to NW2. -/
set_option linter.all false
namespace Go.Eng
open Go
def xq(P:Program)(obj:Name->Option O)(t:Name)(T:TypeId)(n:Nat)(parts:List (Nat×D)):R:=
 match bK P T with
 |some (e,sz,_)=>
  ⟨parts.map (·.1)=List.range n/\(aJ (ar 4) obj (parts.map (·.2))).ok/\(∀ x∈(aJ (ar 4) obj (parts.map (·.2))).xs,x.cells.length=sz/\x.okc=true)/\
      n *sz<=16777216/\sz≠0/\(bb P e).isSome=true/\0<n/\(aJ (ar 4) obj (parts.map (·.2))).obj (aL t)=none,
    .msl (aL t) n,upd (aJ (ar 4) obj (parts.map (·.2))).obj (aL t) (some (.arr sz (aJ (ar 4) obj (parts.map (·.2))).xs))⟩
 |none=>.bad obj
theorem R7{P:Program}{G:Ghost}{φ:Name->Loc}{m:Mem}{σ:S}{a:Act}{w:World}(hC:aB G φ m σ a w){t:Name}{T:TypeId}{n:Nat}{parts:List (Nat×D)}{vals:Array (Nat×Value)}
 (he:parts.map (·.1)=vals.toList.map (·.1)) (hr:∀ (k:Nat) (p:Nat×D) (q:Nat×Value),parts[k]?=some p->vals.toList[k]?=some q->au φ σ.obj m p.2 q.2)
 (aa:(xq P σ.obj t T n parts).ok):
 ∃ v w',(Instr.buildSlice T n vals).run P w=.ok v w'/\lT G σ a (xq P σ.obj t T n parts) v w':=by
 unfold xq at aa |-
 split at aa
 ·rename_i e sz by_ hT
  obtain⟨hu,i,hi,hs,_⟩:=hM hT
  have nx:(sizeOf e).run P w=.ok sz w:=by simp[sizeOf,typeInfo,hi,hs]
  obtain⟨h1,h2,h3,h4,h5,h6,h7,h8⟩:=aa
  obtain⟨z,hz⟩:=Option.isSome_iff_exists.1 h6
  have hlen:vals.toList.length=n:=by
   have :=congrArg List.length (he.symm.trans h1)
   simpa using this
  have wg:parts.length=n:=by
   have :=congrArg List.length h1
   simpa using this
  obtain⟨m1,a1,a2,a3,a4,a5,_⟩:=oU (mz 4) (parts.map (·.2)) hC (vals.toList.map (·.2)) (by simp[wg];simpa using hlen.symm)
   (fun k h h'=>by
     simp only[List.length_map]at h h'
     simp only[List.getElem_map]
     exact hr k _ _ (List.getElem?_eq_getElem h) (List.getElem?_eq_getElem h')) h2
  have lQ:(aJ (ar 4) σ.obj (parts.map (·.2))).xs.length=n:=by rw[a4];simpa using wg
  obtain⟨a7,b1,b2,b3,b4⟩:=Fa sz vals.toList 0 ((Array.range (n*sz)).map (z.cells[· % z.cells.size]!))
   (by rw[<-he,h1,hlen];simp)
   (fun q hq=>by
     obtain⟨k,hk,rfl⟩:=List.mem_iff_getElem.1 hq
     have h8:=a5 k (by rw[lQ];omega) (by simpa using hk)
     have h9:=(h3 _ (List.getElem_mem (show k<_ by rw[lQ];omega))).1
     rw[<-h9]
     simpa using h8.cells.symm) (by simp[hlen])
  have aW:=Ext.new (φ:=φ) h8 ⟨w.heap.size,0,n,false,none⟩ (.arr sz (aJ (ar 4) σ.obj (parts.map (·.2))).xs)
  refine⟨.slice (some ⟨w.heap.size,0,none⟩) n n,{ w with heap:=w.heap.push (.cells a7 e) },?_,?_⟩
  ·simp only[Instr.buildSlice,Sem.run_bind,run_underlying hu,Result.andThen_ok,nx]
   have aj:¬ n*sz=0:=by have:=Nat.mul_pos h7 (Nat.pos_of_ne_zero h5);omega
   simp only[Sem.run_ite,Sem.run_bind,if_neg aj,qI hz,Result.andThen_ok,Sem.run_pure,b1,if_neg (show ¬ n*sz>2 ^ 24 by omega)]
   rfl
  ·refine⟨upd φ (aL t) ⟨w.heap.size,0,n,false,none⟩,m1,a2.chg (aL t) _ ⟨w.heap.size,0,n,false,none⟩ aW ⟨rfl,rfl,rfl,by show w.heap.size<=(w.heap.push _).size;simp⟩
     (fun b hb _=>lx hb) (fun _=>.inl (Nat.le_refl _)) ?_,?_⟩
   ·refine .inr ⟨rfl,by rw[lQ];exact Nat.le_refl _,by show n<=maxLen;unfold maxLen;have:=Nat.le_mul_of_pos_right n (Nat.pos_of_ne_zero h5);omega,
      fun i hi=>(h3 _ (List.getElem_mem hi)).1,fun i hi x hx=>?_,a7,e,(0,0),uu,rfl,?_,fun i j hi hj=>?_⟩
    ·have bj:i<vals.toList.length:=by omega
     exact(a5 i hi (by simpa using bj)).ones (h3 _ (List.getElem_mem hi)).2 x hx
    ·rw[b2];simp
    ·have bj:i<vals.toList.length:=by omega
     have h9:=(h3 _ (List.getElem_mem hi)).1
     have :=b4 i j bj (by omega)
     simp only[Nat.zero_add]at this
     have h8:=a5 i hi (by simpa using bj)
     have gq:j<vals.toList[i].2.cells.size:=by
      have :=h8.cells
      simp only[List.getElem_map]at this
      omega
     rw[Array.getElem?_eq_getElem gq]at this
     rw[Nat.zero_add]
     refine⟨_,this,?_⟩
     have oR:=h8.cell j hj (by simpa using gq)
     simpa using oR
   ·refine .msl _ _ _ ⟨_,_,aC _ _ _,rfl,by rw[lQ];exact Nat.le_refl _,fun _=>?_⟩ rfl
    rw[aC]
    unfold Loc.slice
    simp
 ·exact aa.elim
def sH(P:Program)(Γ:FuncId->Option Spec)(σ:S)(t:Name):Op->R
 | .buildSlice T n ps=>xq P σ.obj t T n (ps.toList.map fun p=>(p.1,ah σ p.2))
 |o=>aP P Γ σ t o
theorem abT{P:Program}{Γ:FuncId->Option Spec}(hΓ:∀ f s,Γ f=some s->ak P f s){G:Ghost}{φ:Name->Loc}{m:Mem}{σ:S}{a:Act}{w:World}(hC:aB G φ m σ a w)
 (o:Oper) (t:Name) (ht:∃ k,t=k::σ.pre) (hc:l7 σ o.op=true) (aa:(sH P Γ σ t o.op).ok):o9 P G σ a w o (sH P Γ σ t o.op):=by
 cases ho:o.op with
 |buildSlice T n ps=>
  rw[ho]at hc aa
  obtain⟨h1,h2⟩:=BU hC (ps:=ps) (fun p hp=>cO hc (by simp only[Op.operands,List.mem_map];exact⟨p,hp,rfl⟩))
  exact oS (s:=Instr.buildSlice T n (ps.map fun (i,x)=>(i,a.eval x))) (by simp[execOp,ho]) (R7 hC h1 h2 aa)
 |_=>
  rw[ho]at aa
  have h:=O3 hΓ hC o t ht hc (by rw[ho];exact aa)
  rw[ho]at h
  exact h
theorem abU{P:Program}{Γ:FuncId->Option Spec}{σ:S}{t:Name}{op:Op}(h:(sH P Γ σ t op).ok):∀ c,op≠ .defer c:=by
 intro c e
 subst e
 exact O4 (P:=P) (Γ:=Γ) (σ:=σ) (t:=t) h c rfl
def vk(P:Program)(Γ:FuncId->Option Spec)(ops:Array Oper)(σ:S)(o:Oper):S:=
 ⟨σ.nt,match o.dst with
   |some t=>upd σ.env t ⟨eC ops σ o,(sH P Γ σ ((σ.base+t)::σ.pre) o.op).d⟩
   |none=>σ.env,if eC ops σ o=true then(sH P Γ σ ((σ.base+o.dst.getD 0)::σ.pre) o.op).obj else σ.obj,σ.pre,σ.base⟩
def Cc(P:Program)(Γ:FuncId->Option Spec)(ops:Array Oper)(σ:S)(o:Oper):Prop:=
 nF ops σ o/\(match o.dst with | some t=>t<σ.nt | none=>True)/\(eC ops σ o=true->l7 σ o.op=true/\(sH P Γ σ ((σ.base+o.dst.getD 0)::σ.pre) o.op).ok)
def u9(P:Program)(Γ:FuncId->Option Spec)(ops:Array Oper):List Oper->S->(S->Prop)->Prop
 |[],σ,K=>K σ
 |o::r,σ,K=>Cc P Γ ops σ o/\u9 P Γ ops r (vk P Γ ops σ o) K
theorem Rl{P:Program}{Γ:FuncId->Option Spec}(hΓ:∀ f s,Γ f=some s->ak P f s){G:Ghost}{φ:Name->Loc}{m:Mem}{σ:S}{a:Act}{w:World}(hC:aB G φ m σ a w)
 {ops:Array Oper} {i:Nat} {o:Oper} (hi:ops[i]?=some o) (h:Cc P Γ ops σ o) {K:Act->World->Prop} {Q:Exit->Act->World->Prop}
 (hK:∀ a' w' φ' m',aB G φ' m' (vk P Γ ops σ o) a' w'->K a' w'):wpOpIn (eU G.rd) 0 P ops Q i K a w:=by
 obtain⟨h1,h2,h3⟩:=h
 unfold wpOpIn
 simp only[hi,GO hC h1]
 cases hg:eC ops σ o with
 |true=>
  simp only[if_true]
  obtain⟨h4,h5⟩:=h3 hg
  refine⟨fun _ _=>trivial,?_⟩
  rw[Oper.semAt_eq _ _ _ (abU h5)]
  refine(abT hΓ hC o ((σ.base+o.dst.getD 0)::σ.pre) ⟨_,rfl⟩ h4 h5 _ _ fun v φ' m' w' bx hr=>hK _ _ φ' m' ?_)
  unfold vk
  rw[hg]
  cases hd:o.dst with
  |none=>simpa[hd,Act.put]using bx
  |some t=>
   simp only[hd]at h2
   simp only[hd,Option.getD_some,if_true]at bx hr |-
   refine bx.put (e:=⟨true,_⟩) h2 ?_
   unfold bQ
   simpa using hr
 |false=>
  simp only[Bool.false_eq_true,if_false]
  refine⟨fun _ _=>trivial,hK _ _ φ m ?_⟩
  unfold vk
  rw[hg]
  cases hd:o.dst with
  |none=>simpa[hd,Act.put]using hC
  |some t=>
   simp only[hd]at h2
   simp only[Bool.false_eq_true,if_false]
   refine hC.put (e:=⟨false,_⟩) h2 ?_
   unfold bQ
   simp
theorem HV{P:Program}{Γ:FuncId->Option Spec}(hΓ:∀ f s,Γ f=some s->ak P f s){G:Ghost}{ops:Array Oper}{Q:Exit->Act->World->Prop}{K:S->Prop}:
 ∀ (n k:Nat) {φ:Name->Loc} {m:Mem} {σ:S} {a:Act} {w:World},k+n=ops.size->aB G φ m σ a w->u9 P Γ ops (ops.toList.drop k) σ K->
   (∀ a' w' φ' m' σ',aB G φ' m' σ' a' w'->K σ'->Q .normal a' w')->wpOpsIn (eU G.rd) 0 P ops Q (List.range' k n) a w
 | 0,k,φ,m,σ,a,w,hk,hC,hr,hQ=>by
   have :ops.toList.drop k=[]:=List.drop_eq_nil_of_le (by simp;omega)
   rw[this]at hr
   exact hQ _ _ φ m σ hC hr
 |n+1,k,φ,m,σ,a,w,hk,hC,hr,hQ=>by
  have ae:k<ops.size:=by omega
  have hd:ops.toList.drop k=ops[k]::ops.toList.drop (k+1):=by
   rw[List.drop_eq_getElem_cons (by simpa using ae)];simp
  rw[hd]at hr
  obtain⟨h1,h2⟩:=hr
  rw[List.range'_succ,wpOpsIn_cons]
  exact Rl hΓ hC (Array.getElem?_eq_getElem ae) h1 fun a' w' φ' m' bx=>HV hΓ n (k+1) (by omega) bx h2 hQ
theorem NJ{P:Program}{Γ:FuncId->Option Spec}(hΓ:∀ f s,Γ f=some s->ak P f s){id:Nat}{l:List Oper}{σ:S}{K:Exit->S->Prop}
 (h:∀ K':S->Prop,(∀ σ',K .normal σ'->K' σ')->u9 P Γ l.toArray l σ K'):CW P (.region id l.toArray false) σ K:=by
 intro G φ m a w hC
 refine wpIn_region ?_
 rw[List.range_eq_range']
 refine HV hΓ (ops:=l.toArray) l.toArray.size 0 (by simp) hC (K:=K .normal) (by simpa using h (K .normal) fun _ h=>h) fun a' w' φ' m' σ' bx hK=>⟨φ',m',σ',bx,hK⟩
theorem ahm{P:Program}{Γ:FuncId->Option Spec}(hΓ:∀ f s,Γ f=some s->ak P f s){id:Nat}{l:List Oper}{c:Code}{r:List Code}{σ:S}{K:Exit->S->Prop}(ks:List Nat)(ns:List Name)
 (h:∀ K':S->Prop,(∀ σ',fv ks ns σ'->CL P (c::r) (fD ks ns σ') K->K' σ')->u9 P Γ l.toArray l σ K'):CL P (.region id l.toArray false::c::r) σ K:=
 NJ hΓ fun K' hK=>h K' fun σ' hc hy=>hK σ' (Ao ks ns hc hy)
theorem aho{P:Program}{Γ:FuncId->Option Spec}(hΓ:∀ f s,Γ f=some s->ak P f s){id:Nat}{l:List Oper}{σ:S}{K:Exit->S->Prop}
 (h:∀ K':S->Prop,(∀ σ',K .normal σ'->K' σ')->u9 P Γ l.toArray l σ K'):CL P [.region id l.toArray false] σ K:=
 NJ hΓ fun K' hK=>h K' fun σ' hc=>hK σ' hc
attribute [go_sem] u9 Cc vk sH xq List.cons_beq_cons
open Go Go.RowKit
theorem H9{P:Program}{f:FuncId}{s:Spec}{p:PSpec}(hs:ak P f s)(aj:f≠yid)(gm:p.flat=true->∀ xs,p.pre xs->(p.fn xs).flat=true)
 (h:∀ xs,p.pre xs->(s.app (fun _=>none) [0,0] (xs.map .v)).ok/\(ar 6 (s.app (fun _=>none) [0,0] (xs.map .v)).obj (s.app (fun _=>none) [0,0] (xs.map .v)).d).ok/\
  (ar 6 (s.app (fun _=>none) [0,0] (xs.map .v)).obj (s.app (fun _=>none) [0,0] (xs.map .v)).d).x=p.fn xs):aZ P f p:=by
 refine⟨aj,hs.enter aj,gm,fun m w xs args nw hm hx hp=>?_⟩
 obtain⟨h1,h2,h3⟩:=h xs hp
 have bf:xs.length=args.size:=by simpa using hx.1
 have oA:(aO args.size [0] (fun _=>none) (gH 0 xs) []).obj=fun _=>none:=by
  funext nm
  simp[aO,db]
 have hC:aB ⟨w,m,fun _=>False,none,fun _=>⟨0,0,0,true,none⟩,fun _=>none,fun _ h=>(by cases h),⟨nw,fun _ _ h=>h⟩⟩ (fun _=>⟨0,0,0,true,none⟩) m (aO args.size [0] (fun _=>none) (gH 0 xs) []) { tmps:=args,defers:=[] } w:=by
  constructor
  ·intro t
   show bQ _ _ m (db eAny (gH 0 xs) t) _
   rcases tG (z:=eAny) (gH 0 xs) t with h1 | h1
   ·rw[h1];unfold bQ eAny;simp;exact .any _
   ·obtain⟨i,hi,h2,h3⟩:=Gl h1
    rw[h3]
    unfold bQ
    simp only[if_true]
    have bj:i<args.size:=by omega
    have e:(args.getD t undef)=args[i]:=by
     rw[h2]
     simp[Array.getD,bj]
    rw[e]
    exact .v _ _ (by have:=hx.2 i hi (by simpa using bj);rw[Array.getElem_toList]at this;exact this)
  ·rfl
  ·exact⟨[],rfl,by simp,by simp⟩
  ·intro nm o h;simp[aO,db]at h
  ·exact hm
  ·rintro nm ⟨o,h,_⟩;simp[aO,db]at h
  ·rintro nm jx ⟨o,h,_⟩;simp[aO,db]at h
  ·rintro nm ⟨o,h,_⟩;simp[aO,db]at h
  ·exact⟨rfl,rfl,rfl,Nat.le_refl _,fun _ _ _=>rfl⟩
  ·intro b off v h;exact .inl h
  ·exact⟨fun _ _ h=>(by cases h),fun _ _ h=>(by cases h)⟩
 refine(hs.calls aj _ _ m _ _ w hC [0,0] (xs.map .v) args ⟨0,rfl⟩ (by simpa using bf) (fun i a b=>?_) (by rw[oA];exact h1)).mono ?_
 ·simp only[List.getElem_map]
  have :=hx.2 i (by simpa using a) (by simpa using b)
  rw[Array.getElem_toList]at this
  exact .v _ _ this
 ·rintro e w' ⟨v,φ',m',rfl,h4,h5,_⟩
  rw[oA]at h4 h5
  obtain⟨m2,h6,h7,_,h8,_⟩:=mz 6 _ _ _ _ _ _ h4 _ _ h5 h2
  refine⟨v,fun b off=>match m2 b off with | some c=>some c | none=>m b off,rfl,?_,?_,?_,?_⟩
  ·exact⟨h4.fr.os,h4.fr.tape,h4.fr.output,h4.fr.size,fun k hk=>h4.fr.block k hk (fun h=>h)⟩
  ·intro b off c hc
   show (match m2 b off with | some c=>some c | none=>m b off)=some c
   cases e8:m2 b off with
   |none=>exact hc
   |some c'=>
    have k1:=h7.mem b off c' e8
    have k2:=hm b off c hc
    have ae:=lB k2
    rw[qo (h4.fr.block b ae (fun h=>h))]at k1
    rw[k2]at k1
    exact k1.symm
  ·intro b off c hc
   have jD:(match m2 b off with | some c=>some c | none=>m b off)=some c:=hc
   cases e8:m2 b off with
   |none=>rw[e8]at jD;exact .inl jD
   |some c'=>
    rw[e8]at jD
    simp only[Option.some.injEq]at jD
    subst jD
    rcases h7.fresh b off c' e8 with h | h | h
    ·exact .inl h
    ·exact .inr ⟨h,h7.mem b off c' e8⟩
    ·exact h.elim
  ·rw[<-h3]
   refine h8.mono fun b off c hc=>?_
   show (match m2 b off with | some c=>some c | none=>m b off)=some c
   rw[hc]
def yX:V->Bool
 | .int .i64 _=>true
 |_=>false
theorem W9{y:V}(h:yX y=true):y.cells.length=1/\y.okc=true:=by
 cases y with
 |int k n=>exact⟨rfl,rfl⟩
 |_=>cases h
def pCloneI:PSpec:=⟨fun xs=>∃ l,xs=[.sl l]/\l.all yX=true/\l.length<=1000,fun xs=>xs.headD default,false⟩
theorem ahi{P:Program}{f T E:Nat}{Z:Value}(L:ve P f T E 1 8 Z)(hz:Z.cells.size=1):aZ P f pCloneI:=by
 refine H9 (xa L) L.ne (fun h=>by cases h) ?_
 rintro xs ⟨l,rfl,hl,hn⟩
 simp only[oZ,List.map_cons,List.map_nil,pCloneI,List.headD_cons]
 cases l with
 |nil=>exact⟨trivial,trivial,rfl⟩
 |cons y r=>
  have dP:∀ z∈y::r,z.cells.length=1/\z.okc=true:=fun z hz=>W9 (List.all_eq_true.1 hl z hz)
  have e:g' P (fun _=>none) [0,0] T (.v (.sl (y::r)))=cm P (fun _=>none) [0,0] T T .nilsl (.v (.sl (y::r))):=rfl
  rw[e]
  have oC:(y::r).length*8<=140737488355328:=by omega
  have iJ:(y::r).length<=maxLen:=by unfold maxLen;omega
  simp only[cm,L.tE,L.tZ,aw,ar,aC,aL]
  exact⟨⟨trivial,dP,hz,oC,iJ,trivial⟩,trivial,trivial⟩
noncomputable def ahj:SpecB where
 spec:=pCloneI.toSpec
 run _ _ ds:=match ds with
  |[.v (.sl l)]=>cond (l.all yX&&Nat.ble l.length 1000) (some ⟨.v (.sl l),[],[],fun t=>t⟩) none
  |[.nilsl]=>some ⟨.v (.sl []),[],[],fun t=>t⟩
  |_=>none
 ok:=by
  intro obj t ds r hr
  split at hr
  ·rename_i l
   cases hb:(l.all yX&&Nat.ble l.length 1000)with
   |false=>rw[hb]at hr;cases hr
   |true=>
    rw[hb]at hr
    cases hr
    simp only[Bool.and_eq_true]at hb
    refine⟨?_,rfl,rfl,rfl,fun tbl h=>h⟩
    exact⟨⟨trivial,trivial⟩,l,rfl,hb.1,Nat.le_of_ble_eq_true hb.2⟩
  ·cases hr
   refine⟨?_,rfl,rfl,rfl,fun tbl h=>h⟩
   exact⟨⟨trivial,trivial⟩,[],rfl,rfl,Nat.zero_le _⟩
  ·cases hr
theorem Qw{σ:S}(b nm:Name)(sz:Nat)(hb:σ.obj b=some (.box [.nilsl]))(hn:σ.obj nm=none):
 dj σ ⟨σ.nt,σ.env,upd (upd σ.obj nm (some (.arr sz []))) b (some (.box [.msl nm 0])),σ.pre,σ.base⟩:=by
 intro G φ m a w hC
 have aj:b≠nm:=fun e=>by subst e;rw[hb]at hn;cases hn
 obtain⟨h1,h2,h3,us,T,f,h4,h5,h6,h7⟩:=hC.objs b _ hb
 have h0:0<us.size:=by rw[h6];simp
 have h8:=h7 0 (by simp) h0
 simp only[List.getElem_cons_zero]at h8
 generalize hu:us[0]=u at h8
 cases h8 with
 |nilsl b'=>
 have hx:=Ext.new (φ:=φ) hn ⟨0,0,0,true,b'⟩ (.arr sz [])
 have bx:=hC.chg (w':=w) nm (.arr sz []) ⟨0,0,0,true,b'⟩ hx ⟨rfl,rfl,rfl,Nat.le_refl _⟩ (fun _ _ _=>rfl) (fun h=>by cases h) (.inl ⟨rfl,rfl⟩)
 have cB:(upd σ.obj nm (some (.arr sz []))) b=some (.box [.nilsl]):=by rw[aH _ _ _ aj];exact hb
 have hφ:(upd φ nm ⟨0,0,0,true,b'⟩) b=φ b:=aH _ _ _ aj
 have iE:=Ext.same (φ:=upd φ nm ⟨0,0,0,true,b'⟩) (o':=.box [.msl nm 0]) cB rfl rfl
 refine⟨_,bx.chg (w':=w) b (.box [.msl nm 0]) _ iE ⟨rfl,rfl,rfl,Nat.le_refl _⟩ (fun _ _ _=>rfl) (fun _=>.inr ⟨⟨_,cB,rfl,by rw[hφ];exact h2⟩,rfl⟩) ?_⟩
 rw[eE,hφ]
 refine⟨h1,h2,by simp[D.one],us,T,f,h4,h5,by simpa using h6,fun i hi bj=>?_⟩
 have lv:i=0:=by simp at hi;exact hi
 subst lv
 simp only[List.getElem_cons_zero]
 rw[hu]
 have al:(upd (upd σ.obj nm (some (.arr sz []))) b (some (.box [.msl nm 0]))) nm=some (.arr sz []):=by rw[aH _ _ _ aj.symm,aC]
 refine .msl _ _ _ ⟨_,_,al,rfl,by simp,fun _=>?_⟩ rfl
 rw[aC];rfl
theorem acM{σ τ:S}(b nm:Name)(sz:Nat)(hb:σ.obj b=some (.box [.nilsl]))(hn:σ.obj nm=none)(ks:List Nat)(ns:List Name)
 (h:fv ks ns ⟨σ.nt,σ.env,upd (upd σ.obj nm (some (.arr sz []))) b (some (.box [.msl nm 0])),σ.pre,σ.base⟩) (hk:fD ks ns ⟨σ.nt,σ.env,upd (upd σ.obj nm (some (.arr sz []))) b (some (.box [.msl nm 0])),σ.pre,σ.base⟩=τ):cI σ τ:=
 (Qw b nm sz hb hn).toM.trans (mV ks ns h hk)
theorem U'{K:Exit->S->Prop}{obj:Name->Option O}{nm:Name}{σ:S}{env:List E}{ps:List Nat}{a b:Code}(h:obj nm=some (.loop env ps a b .ready none))(hK:K .normal σ):nq K obj nm σ:=by
 unfold nq
 rw[h]
 exact hK
theorem ahn{P:Program}{Γ:FuncId->Option Spec}(hΓ:∀ f s,Γ f=some s->ak P f s){g:Operand}{ps:Array Tmp}{asg body:Code}{σ:S}{r:List Code}{K:Exit->S->Prop}(k k':Nat){f:FuncId}{s:Spec}{d:D}{obj':Name->Option O}
 {fK:List E} {fB:List Nat} {a' b':Code} (hc:cr σ g=true) (cV:fw (ah σ g)=some f) (aj:f≠yid) (hs:Γ f=some s) (mi:σ.obj (k::σ.pre)=none)
 (hR:s.app (upd σ.obj (k::σ.pre) (some (.loop ((List.range σ.nt).map σ.env) ps.toList asg body .ready none))) (k'::σ.pre) (ep (ah σ g) [.yld (k::σ.pre)])=⟨True,d,obj'⟩)
 (hL:obj' (k::σ.pre)=some (.loop fK fB a' b' .ready none))
 (hK:CL P r { σ with obj:=upd obj' (k::σ.pre) (some (.loop fK fB a' b' .exhausted none)) } K):CL P (.rangeFunc g ps asg body::r) σ K:=by
 refine FV hΓ k k' hc cV aj hs mi (by rw[hR];trivial) ?_
 rw[hR]
 refine U' hL ?_
 show CL P r _ K
 have e:jr obj' (k::σ.pre)=upd obj' (k::σ.pre) (some (.loop fK fB a' b' .exhausted none)):=by unfold jr;rw[hL]
 rw[e]
 exact hK
def AV(P:Program)(obj:Name->Option O)(t:Name)(T:TypeId)(x:D):R:=cm P obj t T T .nilsl x
def sB(P:Program)(T:TypeId):Spec where
 app obj t ds:=match ds with | [x]=>AV P obj t T x | _=>.bad obj
 foot obj t ds:=match ds with | [x]=>aG .nilsl++aG x++[aL t] | _=>[]
 wrt obj t ds:=match ds with | [x]=>aG .nilsl++aG x++[aL t] | _=>[]
theorem UY{P:Program}{obj obj2:Name->Option O}{t:Name}{T:TypeId}{x:D}(h:bu (aG .nilsl++aG x++[aL t]) obj obj2):
 bB (AV P obj t T x) (AV P obj2 t T x) obj obj2 (aG .nilsl++aG x++[aL t]):=yL (P:=P) (obj:=obj) (obj2:=obj2) (t:=t) (T1:=T) (T2:=T) (s:=.nilsl) (x:=x) h
theorem aa4(P:Program)(T:TypeId):(sB P T).Near:=by
 refine⟨fun obj obj2 t ds h=>?_,fun obj obj2 t ds h=>rfl,fun obj t ds nm hn=>hn,fun obj obj2 t ds h=>rfl⟩
 simp only[sB]at h |-
 split at h
 ·exact UY h
 ·rename_i mo
  exact .none _ (fun _ h=>by cases h)
theorem ZX{G:Ghost}{φ:Name->Loc}{m:Mem}{σ:S}{a:Act}{w:World}(hC:aB G φ m σ a w){v:Value}(hv:au φ σ.obj m .nilsl v){nm:Name}(hn:σ.obj nm=none)(sz:Nat):
 ∃ φ',aB G φ' m { σ with obj:=upd σ.obj nm (some (.arr sz [])) } a w/\au φ' (upd σ.obj nm (some (.arr sz []))) m (.msl nm 0) v/\Ext φ φ' σ.obj (upd σ.obj nm (some (.arr sz []))):=by
 cases hv with
 |nilsl b'=>
 have hx:=Ext.new (φ:=φ) hn ⟨0,0,0,true,b'⟩ (.arr sz [])
 refine⟨_,hC.chg (w':=w) nm (.arr sz []) ⟨0,0,0,true,b'⟩ hx ⟨rfl,rfl,rfl,Nat.le_refl _⟩ (fun _ _ _=>rfl) (fun h=>by cases h) (.inl ⟨rfl,rfl⟩),?_,hx⟩
 refine .msl _ _ _ ⟨_,_,aC _ _ _,rfl,by simp,fun _=>?_⟩ rfl
 rw[aC];rfl
theorem N3{P:Program}{f T E K BY:Nat}{Z:Value}(L:ve P f T E K BY Z):ak P f (sB P T):=by
 have hs:=xa L
 refine⟨aa4 P T,hs.enter,fun aj G φ m σ a w hC t ds us ht hl hr aa=>?_,fun e=>(L.ne e).elim⟩
 match ds,hl,hr,aa with
 |[],_,_,aa=>exact aa.elim
 |_::_::_,_,_,aa=>exact aa.elim
 |[x],hl,hr,aa=>
  have je:(cm P σ.obj t T T .nilsl x).ok:=aa
  have bO:(oZ P T).app σ.obj t [x]=g' P σ.obj t T x:=rfl
  have hg:(sB P T).app σ.obj t [x]=cm P σ.obj t T T .nilsl x:=rfl
  rw[hg]
  cases fP:(aw σ.obj x).2 with
  |cons y r=>
   have e:g' P σ.obj t T x=cm P σ.obj t T T .nilsl x:=by unfold g';rw[fP]
   have :=hs.calls aj G φ m σ a w hC t [x] us ht hl hr (by rw[bO,e];exact je)
   rw[bO,e]at this
   exact this
  |nil=>
   have e:g' P σ.obj t T x=⟨(aw σ.obj x).1,.nilsl,σ.obj⟩:=by unfold g';rw[fP]
   have hT:=L.tE
   have hZ:=L.tZ
   have ha:cm P σ.obj t T T .nilsl x=⟨(aw σ.obj x).1/\(∀ y∈(aw σ.obj x).2,y.cells.length=K/\y.okc=true)/\Z.cells.size=K/\(aw σ.obj x).2.length*BY<=140737488355328/\(aw σ.obj x).2.length<=maxLen/\σ.obj (aL t)=none,
       .msl (aL t) (aw σ.obj x).2.length,upd σ.obj (aL t) (some (.arr K (aw σ.obj x).2))⟩:=by
    simp only[cm,hT,hZ]
   rw[ha,fP]at je
   rw[ha,fP]
   have :=hs.calls aj G φ m σ a w hC t [x] us ht hl hr (by rw[bO,e];exact je.1)
   rw[bO,e]at this
   refine this.mono ?_
   rintro e' w' ⟨v,φ',m',rfl,h1,h2,h3⟩
   obtain⟨φ2,k1,k2,k3⟩:=ZX h1 h2 je.2.2.2.2.2 K
   exact⟨v,φ2,m',rfl,k1,k2,h3.trans k3⟩
attribute [go_sem] sB AV aw
theorem Qv{σ:S}(b nm:Name)(i sz:Nat)(cs:List D)(hb:σ.obj b=some (.box cs))(hi:cs[i]?=some .nilsl)(hn:σ.obj nm=none):
 dj σ ⟨σ.nt,σ.env,upd (upd σ.obj nm (some (.arr sz []))) b (some (.box (cs.set i (.msl nm 0)))),σ.pre,σ.base⟩:=by
 intro G φ m a w hC
 have aj:b≠nm:=fun e=>by subst e;rw[hb]at hn;cases hn
 obtain⟨h1,h2,h3,us,T,f,h4,h5,h6,h7⟩:=hC.objs b _ hb
 obtain⟨fm,D6⟩:=List.getElem?_eq_some_iff.1 hi
 have h0:i<us.size:=by omega
 have h8:=h7 i fm h0
 rw[D6]at h8
 generalize hu:us[i]=u at h8
 cases h8 with
 |nilsl b'=>
 have hx:=Ext.new (φ:=φ) hn ⟨0,0,0,true,b'⟩ (.arr sz [])
 have bx:=hC.chg (w':=w) nm (.arr sz []) ⟨0,0,0,true,b'⟩ hx ⟨rfl,rfl,rfl,Nat.le_refl _⟩ (fun _ _ _=>rfl) (fun h=>by cases h) (.inl ⟨rfl,rfl⟩)
 have cB:(upd σ.obj nm (some (.arr sz []))) b=some (.box cs):=by rw[aH _ _ _ aj];exact hb
 have hφ:(upd φ nm ⟨0,0,0,true,b'⟩) b=φ b:=aH _ _ _ aj
 have iE:=Ext.same (φ:=upd φ nm ⟨0,0,0,true,b'⟩) (o':=.box (cs.set i (.msl nm 0))) cB rfl rfl
 refine⟨_,bx.chg (w':=w) b (.box (cs.set i (.msl nm 0))) _ iE ⟨rfl,rfl,rfl,Nat.le_refl _⟩ (fun _ _ _=>rfl) (fun _=>.inr ⟨⟨_,cB,rfl,by rw[hφ];exact h2⟩,rfl⟩) ?_⟩
 rw[eE,hφ]
 have al:(upd (upd σ.obj nm (some (.arr sz []))) b (some (.box (cs.set i (.msl nm 0))))) nm=some (.arr sz []):=by rw[aH _ _ _ aj.symm,aC]
 refine⟨h1,h2,fun d hd=>?_,us,T,f,h4,h5,by simpa using h6,fun j hj eT=>?_⟩
 ·rcases List.mem_or_eq_of_mem_set hd with h | h
  ·exact h3 d h
  ·subst h;rfl
 ·simp only[List.length_set]at hj
  rw[List.getElem_set]
  by_cases gl:i=j
  ·subst gl
   rw[if_pos rfl,hu]
   refine .msl _ _ _ ⟨_,_,al,rfl,by simp,fun _=>?_⟩ rfl
   rw[aC];rfl
  ·rw[if_neg gl]
   have :=h7 j hj eT
   exact(this.ext (Mem.le_refl m) hx).ext (Mem.le_refl m) (by rw[eE]at iE;exact iE)
theorem acK{σ τ:S}(b nm:Name)(i sz:Nat)(cs:List D)(hb:σ.obj b=some (.box cs))(hi:cs[i]?=some .nilsl)(hn:σ.obj nm=none)(ks:List Nat)(ns:List Name)
 (h:fv ks ns ⟨σ.nt,σ.env,upd (upd σ.obj nm (some (.arr sz []))) b (some (.box (cs.set i (.msl nm 0)))),σ.pre,σ.base⟩)
 (hk:fD ks ns ⟨σ.nt,σ.env,upd (upd σ.obj nm (some (.arr sz []))) b (some (.box (cs.set i (.msl nm 0)))),σ.pre,σ.base⟩=τ):cI σ τ:=
 (Qv b nm i sz cs hb hi hn).toM.trans (mV ks ns h hk)
def mK:List D->Option (List V)
 |[]=>some []
 |d::r=>match ee d,mK r with
  |some x,some xs=>some (x::xs)
  |_,_=>none
theorem OX:∀ {ds:List D} {xs:List V},mK ds=some xs->xs.length=ds.length
 |[],xs,h=>by cases h;rfl
 |d::r,xs,h=>by
  unfold mK at h
  split at h
  ·rename_i h2
   cases h
   simp[OX h2]
  ·cases h
theorem OW{φ:Name->Loc}{obj:Name->Option O}{m:Mem}:∀ {ds:List D} {xs:List V},mK ds=some xs->∀ (i:Nat) (h:i<ds.length) (h':i<xs.length) (u:Value),au φ obj m ds[i] u->ay m xs[i] u
 |[],xs,h,i,hi,_,_,_=>by simp at hi
 |d::r,xs,h,i,hi,bj,u,hr=>by
  unfold mK at h
  split at h
  ·rename_i x ys h1 h2
   cases h
   cases i with
   |zero=>exact nM hr h1
   |succ i=>exact OW h2 i (by simpa using hi) (by simpa using bj) u hr
  ·cases h
theorem Cl{app:(Name->Option O)->Name->List D->R}{foot:(Name->Option O)->Name->List D->List Name}
 (h:∀ obj obj2 t ds,bu (foot obj t ds) obj obj2->foot obj2 t ds=foot obj t ds/\bB (app obj t ds) (app obj2 t ds) obj obj2 (foot obj t ds)):Spec.Near ⟨app,foot,foot⟩:=
 ⟨fun obj obj2 t ds ha=>(h obj obj2 t ds ha).2,fun obj obj2 t ds ha=>(h obj obj2 t ds ha).1,fun _ _ _ _ hn=>hn,fun obj obj2 t ds ha=>(h obj obj2 t ds ha).1⟩
theorem Bl{P:Program}{f:FuncId}{s s':Spec}(h:ak P f s)(hn:s'.Near)(aj:f≠yid)
 (heq:∀ obj t ds,(s'.app obj t ds).ok->∃ mB,mB.length=ds.length/\(∀ (φ:Name->Loc) (m:Mem) (us:Array Value),ds.length=us.size->(∀ i (h:i<ds.length) (h':i<us.size),au φ obj m ds[i] us[i])->∀ i (h:i<mB.length) (h':i<us.size),au φ obj m mB[i] us[i])/\
   (s.app obj t mB).ok/\(s.app obj t mB).d=(s'.app obj t ds).d/\(s.app obj t mB).obj=(s'.app obj t ds).obj):ak P f s':=by
 refine⟨hn,h.enter,fun aj G φ m σ a w hC t ds us ht hl hr aa=>?_,fun e=>(aj e).elim⟩
 obtain⟨mB,h0,Dy,h1,h2,h3⟩:=heq _ _ _ aa
 have :=h.calls aj G φ m σ a w hC t mB us ht (h0.trans hl) (Dy φ m us hl hr) h1
 rw[h2,h3]at this
 exact this
structure NSpec where
 pre:List V->Prop
 new:List V->List (Name×O)
 d:List V->D
def NSpec.app(s:NSpec)(obj:Name->Option O)(t:Name)(ds:List D):R:=match mK ds with
 |some xs=>⟨fresh obj t (s.new xs)=true/\s.pre xs,(s.d xs).ren (cout [] t),cY [] t (s.new xs) obj⟩
 |none=>.bad obj
def NSpec.foot(s:NSpec)(_:Name->Option O)(t:Name)(ds:List D):List Name:=match mK ds with
 |some xs=>(s.new xs).map fun x=>x.1++t
 |none=>[]
def NSpec.toSpec(s:NSpec):Spec:=⟨s.app,s.foot,s.foot⟩
def NSpec.c(s:NSpec):CSpec where
 pre:=fun os ds=>os=[]/\∃ xs,ds=xs.map .v/\s.pre xs
 out:=fun _ ds=>match mK ds with
  |some xs=>⟨[],s.new xs,s.d xs⟩
  |none=>⟨[],[],.any⟩
theorem Gf:∀ xs:List V,mK (xs.map .v)=some xs
 |[]=>rfl
 |x::r=>by simp[mK,ee,Gf r]
theorem NSpec.near(s:NSpec):s.toSpec.Near:=by
 refine Cl fun obj obj2 t ds ha=>⟨rfl,?_⟩
 unfold NSpec.foot at ha |-
 unfold NSpec.app
 split
 ·rename_i xs h
  simp only[h]at ha
  have cA:fresh obj2 t (s.new xs)=fresh obj t (s.new xs):=z6 ha
  have :=CC (ok:=fresh obj t (s.new xs)=true/\s.pre xs) (ok2:=fresh obj2 t (s.new xs)=true/\s.pre xs) (d:=(s.d xs).ren (cout [] t)) (obj:=obj) (obj2:=obj2) (L:=[]) (t:=t) (o:=⟨[],s.new xs,s.d xs⟩) (by rw[cA]) (by simpa using ha)
  simpa[b7]using this
 ·exact .none _ (fun _ h=>by cases h)
theorem IZ:∀ xs:List V,cJ (xs.map .v)=[]
 |[]=>rfl
 |x::r=>by simp only[List.map_cons,cJ,re,List.nil_append];exact IZ r
theorem HZ(obj:Name->Option O)(xs:List V):reach obj (xs.map .v)=[]:=by
 unfold reach
 rw[IZ]
 rfl
theorem HR(f:Name->Name):∀ xs:List V,D.renL f (xs.map .v)=xs.map .v
 |[]=>rfl
 |x::r=>by simp only[List.map_cons,D.renL,D.ren];rw[HR f r]
theorem NW(p:Name->Bool):∀ xs:List V,D.closL p (xs.map .v)=true
 |[]=>rfl
 |x::r=>by simp only[List.map_cons,D.closL,D.clos,Bool.true_and];exact NW p r
theorem NSpec.sound{P:Program}{f:FuncId}{s:NSpec}(h:ak P f s.c.toSpec)(aj:f≠yid):ak P f s.toSpec:=by
 refine Bl h s.near aj fun obj t ds aa=>?_
 have je:(s.app obj t ds).ok:=aa
 show ∃ mB,_/\_/\_/\_=(s.app obj t ds).d/\_=(s.app obj t ds).obj
 unfold NSpec.app at je |-
 split at je
 ·rename_i xs hx
  have hlen:=OX hx
  refine⟨xs.map .v,by simpa using hlen,fun φ m us hl hr i h1 h2=>?_,?_⟩
  ·simp only[List.length_map]at h1
   simp only[List.getElem_map]
   exact .v _ _ (OW hx i (by omega) h1 _ (hr i (by omega) h2))
  ·have e1:cg obj (xs.map .v)=[]:=by unfold cg;rw[HZ];rfl
   have e2:cH obj (xs.map .v)=xs.map .v:=by unfold cH;rw[HR]
   have e3:s.c.out [] (xs.map .v)=⟨[],s.new xs,s.d xs⟩:=by simp only[NSpec.c,Gf]
   have e4:s.c.pre [] (xs.map .v):=⟨rfl,xs,rfl,je.2⟩
   have e5:(shut obj []&&D.closL (b8 []) (xs.map .v)&&fresh obj t (s.new xs))=true:=by
    rw[NW,je.1];rfl
   simp only[CSpec.toSpec,e1,e2,HZ,e3,e4,e5,and_self,b7]
 ·exact je.elim
theorem IV{P:Program}{f:FuncId}{fn:Func}{c:Code}{s:NSpec}{nt:Nat}{rs:List ResultVar}(hf:P.funcs[f]?=some fn)(hb:fn.body=some c)(eA:fn.ntmps=nt)(eP:fn.results.toList=rs)
 (hn:(fn.name== "runtime.NumGoroutine")=false) (hy:f<1000000000)
 (h:∀ xs,s.pre xs->xs.length<=nt/\CL P [c] (aO nt [0] (fun _=>none) (fc 0 (xs.map .v)) []) (vt P rs [] ⟨[],s.new xs,s.d xs⟩)):ak P f s.toSpec:=by
 have aj:f≠yid:=Nat.ne_of_lt (show f<yid from hy)
 refine NSpec.sound (mF hf hb eA eP (iv hf hb hn) aj ?_) aj
 rintro os ds ⟨rfl,xs,rfl,hp⟩
 obtain⟨h1,h2⟩:=h xs hp
 have hH:aS []=fun _=>none:=by funext nm;unfold aS;split<;>rfl
 have e3:s.c.out [] (xs.map .v)=⟨[],s.new xs,s.d xs⟩:=by simp only[NSpec.c,Gf]
 rw[hH,e3]
 exact⟨by simpa using h1,iR h2⟩
attribute [go_sem] Nat.reduceLeDiff Nat.le_refl Nat.reduceLT Nat.reduceAdd Nat.reduceEqDiff Nat.reduceSub Nat.reduceMul Nat.reduceBEq reduceIte reduceCtorEq
abbrev vInt (n:Int):V:=.int .i64 n
theorem lb{a b:Nat}(h:Nat.ble a b=true):a<=b:=Nat.le_of_ble_eq_true h
theorem sq{P:Program}{x y:Code}{r:List Code}{σ:S}{K:Exit->S->Prop}(h:CL P (x::y::r) σ K):CL P (.seq x y::r) σ K:=aa9 h
theorem ob{p:Prop}(h:p:=by first | exact Bool.or_not_self _ | trivial | (unfold maxLen;omega) | exact Bool.not_or_self _ | exact fun _=>by decide | exact fun h=>⟨h,by decide⟩ | omega | ((repeat' apply And.intro)<;>first | rfl | omega | (unfold maxLen;omega) | trivial) | (simp only[decide_eq_true_eq];omega) | exact⟨_,rfl⟩ | exact fun h=>⟨h,_,rfl⟩ | exact⟨_,_,rfl⟩ | exact fun h=>⟨h,_,_,rfl⟩ | exact fun h=>⟨h,_,_,_,rfl⟩ | exact⟨_,_,_,_,rfl⟩ | exact fun h=>⟨h,_,_,_,_,rfl⟩ | exact⟨[_,_],rfl⟩ | (simp only[Bool.decide_and,Bool.decide_eq_true];exact Bool.not_or_self _) | (simp;done) | (simp_all;done) | (simp_all;omega) | (grind)):p:=h
theorem rs{P:Program}{Γ:FuncId->Option Spec}(hΓ:∀ f s,Γ f=some s->ak P f s){id:Nat}{l:List Oper}{c:Code}{r:List Code}{σ τ:S}{K:Exit->S->Prop}(ks:List Nat)(ns:List Name)(h:CL P (c::r) τ K)
 (h':∀ K':S->Prop,(∀ σ',fv ks ns σ'->fD ks ns σ'=τ->K' σ')->mR P Γ l.toArray l σ K':=by intro K' hK;simp only[go_sem];(repeat (refine⟨ob,?_⟩));exact hK _ (by simp only[go_sem]) (by simp only[go_sem]<;>rfl)):CL P (.region id l.toArray false::c::r) σ K:=
 Au hΓ ks ns fun K' hK=>h' K' fun σ' hc he=>hK σ' hc (he▸h)
theorem rx{P:Program}{Γ:FuncId->Option Spec}(hΓ:∀ f s,Γ f=some s->ak P f s){id:Nat}{l:List Oper}{c:Code}{r:List Code}{σ τ:S}{K:Exit->S->Prop}(ks:List Nat)(ns:List Name)
 (h':∀ K':S->Prop,(∀ σ',fv ks ns σ'->fD ks ns σ'=τ->K' σ')->mR P Γ l.toArray l σ K') (h:CL P (c::r) τ K):CL P (.region id l.toArray false::c::r) σ K:=
 Au hΓ ks ns fun K' hK=>h' K' fun σ' hc he=>hK σ' hc (he▸h)
theorem dx{P:Program}{Γ:FuncId->Option Spec}(hΓ:∀ f s,Γ f=some s->ak P f s)(hP:P.follows .mixedOrders=true)(az:List (List Nat)){id:Nat}{l:List Oper}{c:Code}{r:List Code}{σ τ:S}{K:Exit->S->Prop}(ks:List Nat)(ns:List Name)
 (hs:sX l.toArray az=true) (h':∀ K':S->Prop,(∀ σ',fv ks ns σ'->fD ks ns σ'=τ->K' σ')->o7 P Γ l.toArray 0 az l [] σ K') (h:CL P (c::r) τ K):CL P (.region id l.toArray true::c::r) σ K:=
 abd hΓ hP az ks ns hs fun K' hK=>h' K' fun σ' hc he=>hK σ' hc (he▸h)
theorem kp{P:Program}{c:Code}{r:List Code}{σ τ:S}{K:Exit->S->Prop}(ks:List Nat)(ns:List Name)(hc:CL P (c::r) τ K)(h:fv ks ns σ:=by simp only[go_sem])(he:fD ks ns σ=τ:=by simp only[go_sem]<;>rfl):CL P (c::r) σ K:=
 kj ks ns h (he▸hc)
theorem rt{P:Program}{r:List Code}{σ:S}{K:Exit->S->Prop}(h:K .ret σ:=by simp only[go_sem]):CL P (.ret::r) σ K:=ax h
def tbl:List (Nat×Spec)->FuncId->Option Spec
 |[],_=>none
 |(g,s)::r,f=>if f=g then some s else tbl r f
theorem tn{P:Program}:∀ f s,tbl [] f=some s->ak P f s:=fun _ _ h=>by cases h
theorem tc{P:Program}{g:Nat}{s0:Spec}{r:List (Nat×Spec)}(h:ak P g s0)(hr:∀ f s,tbl r f=some s->ak P f s):∀ f s,tbl ((g,s0)::r) f=some s->ak P f s:=by
 intro f s hf
 unfold tbl at hf
 split at hf
 ·rename_i e
  cases hf
  subst e
  exact h
 ·exact hr f s hf
attribute [go_sem] tbl
theorem vx{P:Program}{f:FuncId}{fn:Func}{s:PSpec}{nt:Nat}{rs:List ResultVar}(hf:P.funcs[f]?=some fn)(eA:fn.ntmps=nt)(eP:fn.results.toList=rs)(hn:(fn.name== "runtime.NumGoroutine")=false)(hy:f<1000000000)
 (gm:s.flat=true->∀ xs,s.pre xs->(s.fn xs).flat=true)
 (hb:∃ c,fn.body=some c/\∀ xs,s.pre xs->V.wfL xs->xs.length<=nt/\CL P [c] (aO nt [0] (fun _=>none) (gH 0 xs) []) (py P rs (s.fn xs))):aZ P f s:=by
 obtain⟨c,hc,h⟩:=hb
 exact Ia hf hc eA eP (iv hf hc hn) (Nat.ne_of_lt (show f<yid from hy)) gm fun xs hp hw=>⟨(h xs hp hw).1,iR (h xs hp hw).2⟩
structure En (α:Type) where
 enc:α->V
 dec:V->α
def Nz{α:Type}(d:V->α):V->List α
 | .sl l=>l.map d
 |_=>[]
def C6{α:Type}(e:En α):En (List α):=⟨fun l=>.sl (l.map e.enc),Nz e.dec⟩
def iC(v:V):En Unit:=⟨fun _=>v,fun _=>()⟩
def iF(n:Nat):En Unit:=iC (.clo (.func n) [] [])
def p1{α:Type}(A:En α)(p:α->Prop)(g:α->V)(fl:Bool):PSpec:=
 ⟨fun xs=>match xs with | [x]=>A.enc (A.dec x)=x/\p (A.dec x) | _=>False,fun xs=>match xs with | [x]=>g (A.dec x) | _=>.bool false,fl⟩
def p2{α β:Type}(A:En α)(B:En β)(p:α->β->Prop)(g:α->β->V)(fl:Bool):PSpec:=
 ⟨fun xs=>match xs with | [x,y]=>A.enc (A.dec x)=x/\B.enc (B.dec y)=y/\p (A.dec x) (B.dec y) | _=>False,fun xs=>match xs with | [x,y]=>g (A.dec x) (B.dec y) | _=>.bool false,fl⟩
def p3{α β γ:Type}(A:En α)(B:En β)(C:En γ)(p:α->β->γ->Prop)(g:α->β->γ->V)(fl:Bool):PSpec:=
 ⟨fun xs=>match xs with | [x,y,z]=>A.enc (A.dec x)=x/\B.enc (B.dec y)=y/\C.enc (C.dec z)=z/\p (A.dec x) (B.dec y) (C.dec z) | _=>False,
  fun xs=>match xs with | [x,y,z]=>g (A.dec x) (B.dec y) (C.dec z) | _=>.bool false,fl⟩
def p4{α β γ δ:Type}(A:En α)(B:En β)(C:En γ)(D:En δ)(p:α->β->γ->δ->Prop)(g:α->β->γ->δ->V)(fl:Bool):PSpec:=
 ⟨fun xs=>match xs with | [x,y,z,u]=>A.enc (A.dec x)=x/\B.enc (B.dec y)=y/\C.enc (C.dec z)=z/\D.enc (D.dec u)=u/\p (A.dec x) (B.dec y) (C.dec z) (D.dec u) | _=>False,
  fun xs=>match xs with | [x,y,z,u]=>g (A.dec x) (B.dec y) (C.dec z) (D.dec u) | _=>.bool false,fl⟩
theorem yg{α:Type}{A:En α}{p:α->Prop}{g:α->V}{fl:Bool}{xs:List V}(h:(p1 A p g fl).pre xs):∃ a,xs=[A.enc a]/\p a/\(p1 A p g fl).fn xs=g a:=by
 unfold p1 at h
 simp only at h
 split at h
 ·exact⟨_,by rw[h.1],h.2,rfl⟩
 ·exact h.elim
theorem BX{α β:Type}{A:En α}{B:En β}{p:α->β->Prop}{g:α->β->V}{fl:Bool}{xs:List V}(h:(p2 A B p g fl).pre xs):∃ a b,xs=[A.enc a,B.enc b]/\p a b/\(p2 A B p g fl).fn xs=g a b:=by
 unfold p2 at h
 simp only at h
 split at h
 ·exact⟨_,_,by rw[h.1,h.2.1],h.2.2,rfl⟩
 ·exact h.elim
theorem Is{α β γ:Type}{A:En α}{B:En β}{C:En γ}{p:α->β->γ->Prop}{g:α->β->γ->V}{fl:Bool}{xs:List V}(h:(p3 A B C p g fl).pre xs):
 ∃ a b c,xs=[A.enc a,B.enc b,C.enc c]/\p a b c/\(p3 A B C p g fl).fn xs=g a b c:=by
 unfold p3 at h
 simp only at h
 split at h
 ·exact⟨_,_,_,by rw[h.1,h.2.1,h.2.2.1],h.2.2.2,rfl⟩
 ·exact h.elim
theorem Ir{α β γ δ:Type}{A:En α}{B:En β}{C:En γ}{D:En δ}{p:α->β->γ->δ->Prop}{g:α->β->γ->δ->V}{fl:Bool}{xs:List V}(h:(p4 A B C D p g fl).pre xs):
 ∃ a b c d,xs=[A.enc a,B.enc b,C.enc c,D.enc d]/\p a b c d/\(p4 A B C D p g fl).fn xs=g a b c d:=by
 unfold p4 at h
 simp only at h
 split at h
 ·exact⟨_,_,_,_,by rw[h.1,h.2.1,h.2.2.1,h.2.2.2.1],h.2.2.2.2,rfl⟩
 ·exact h.elim
theorem TF{α:Type}{A:En α}{p:α->Prop}{g:α->V}{fl:Bool}(hg:∀ a,(g a).flat=true):(p1 A p g fl).flat=true->∀ xs,(p1 A p g fl).pre xs->((p1 A p g fl).fn xs).flat=true:=by
 intro _ xs h
 obtain⟨a,_,_,e⟩:=yg h
 rw[e];exact hg _
theorem It{α β:Type}{A:En α}{B:En β}{p:α->β->Prop}{g:α->β->V}{fl:Bool}(hg:∀ a b,(g a b).flat=true):(p2 A B p g fl).flat=true->∀ xs,(p2 A B p g fl).pre xs->((p2 A B p g fl).fn xs).flat=true:=by
 intro _ xs h
 obtain⟨a,b,_,_,e⟩:=BX h
 rw[e];exact hg _ _
theorem TE{α β γ:Type}{A:En α}{B:En β}{C:En γ}{p:α->β->γ->Prop}{g:α->β->γ->V}{fl:Bool}(hg:∀ a b c,(g a b c).flat=true):
 (p3 A B C p g fl).flat=true->∀ xs,(p3 A B C p g fl).pre xs->((p3 A B C p g fl).fn xs).flat=true:=by
 intro _ xs h
 obtain⟨a,b,c,_,_,e⟩:=Is h
 rw[e];exact hg _ _ _
theorem TD{α β γ δ:Type}{A:En α}{B:En β}{C:En γ}{D:En δ}{p:α->β->γ->δ->Prop}{g:α->β->γ->δ->V}{fl:Bool}(hg:∀ a b c d,(g a b c d).flat=true):
 (p4 A B C D p g fl).flat=true->∀ xs,(p4 A B C D p g fl).pre xs->((p4 A B C D p g fl).fn xs).flat=true:=by
 intro _ xs h
 obtain⟨a,b,c,d,_,_,e⟩:=Ir h
 rw[e];exact hg _ _ _ _
attribute [go_sem] p1 p2 p3 p4 Nz C6 iC iF PSpec.toSpec yid Option.bind_some Option.bind_none
theorem kE{P:Program}:∀ f s,(fun _=>none:FuncId->Option Spec) f=some s->ak P f s:=fun f s h=>by cases h
theorem aht{P:Program}{id:Nat}{c c2:Code}{r:List Code}{σ:S}{K:Exit->S->Prop}{ι:Type}(Q:ι->Prop)(τ:ι->S)(h1:∀ i,Q i->CL P (c2::r) (τ i) K)
 (h2:CL P [c] σ (nL id (fV (fun σ'=>∃ i,Q i/\cI σ' (τ i)) K))):CL P (.block id c::c2::r) σ K:=by
 refine uT (CW.mono (iR h2) fun e σ' hk=>?_)
 have key:∀ e σ',fV (fun σ'=>∃ i,Q i/\cI σ' (τ i)) K e σ'->fV (fun σ'=>CL P (c2::r) σ' K) K e σ':=fun e σ' h=>by
  cases e with
  |normal=>
   obtain⟨i,hq,hw⟩:=h
   exact bq hw (h1 i hq)
  |_=>exact h
 cases e with
 |exit jY=>
  unfold nL at hk |-
  simp only at hk |-
  split
  ·rename_i h;rw[if_pos h]at hk;exact key _ _ hk
  ·rename_i h;rw[if_neg h]at hk;exact key _ _ hk
 |normal=>exact key .normal σ' hk
 |_=>exact hk
theorem ahs{P:Program}{c:Operand}{x y c2:Code}{r:List Code}{σ:S}{K:Exit->S->Prop}{b:Bool}(τ:S)(hc:cr σ c=true)(hd:ah σ c=.v (.bool b))
 (ht:b=true->CL P [x] σ (fV (fun σ'=>cI σ' τ) K)) (hf:b=false->CL P [y] σ (fV (fun σ'=>cI σ' τ) K)) (h:CL P (c2::r) τ K):CL P (.cond c x y::c2::r) σ K:=by
 have key:∀ z,CL P [z] σ (fV (fun σ'=>cI σ' τ) K)->CL P (z::c2::r) σ K:=fun z hz=>
  CW.mono (iR hz) fun e σ' hk=>by
   cases e with
   |normal=>exact bq hk h
   |_=>exact hk
 exact aD hc hd (fun hb=>key x (ht hb)) fun hb=>key y (hf hb)
theorem acJ{n:Nat}(h:¬ n=0)(hn:n<=maxLen):IntKind.i64.wrap ((n:Int)-1)=((n-1:Nat):Int):=by
 unfold maxLen at hn
 rw[wrap_i64 (by omega) (by omega)]
 omega
theorem getD_at{α:Type}{l:List α}{i:Nat}{z:α}(h:i<l.length):l.getD i z=l[i]:=by
 simp[List.getD,h]
theorem vB{os:List O}(hc:∀ o∈os,∀ dom:Name->Bool,(∀ i,dom [i,1]=true)->O.clos dom o=true)(hs:List (Name×O)):bW [0] (bP [0] hs) (aS os):=by
 intro nm o hn h
 unfold aS at h
 split at h
 ·rename_i i
  refine hc o (List.mem_of_getElem? h) _ fun i=>?_
  simp only[bP,vz,Bool.not_false,Bool.true_or]
 ·cases h
theorem afJ(os:List O)(i:Nat):aS os [i,1]=os[i]?:=rfl
def n1{α:Type}(A:En α)(p:α->Prop)(new:α->List (Name×O))(d:α->D):NSpec:=
 ⟨fun xs=>match xs with | [x]=>A.enc (A.dec x)=x/\p (A.dec x) | _=>False,fun xs=>match xs with | [x]=>new (A.dec x) | _=>[],fun xs=>match xs with | [x]=>d (A.dec x) | _=>.any⟩
def n2{α β:Type}(A:En α)(B:En β)(p:α->β->Prop)(new:α->β->List (Name×O))(d:α->β->D):NSpec:=
 ⟨fun xs=>match xs with | [x,y]=>A.enc (A.dec x)=x/\B.enc (B.dec y)=y/\p (A.dec x) (B.dec y) | _=>False,fun xs=>match xs with | [x,y]=>new (A.dec x) (B.dec y) | _=>[],fun xs=>match xs with | [x,y]=>d (A.dec x) (B.dec y) | _=>.any⟩
theorem I0{α:Type}{A:En α}{p:α->Prop}{new:α->List (Name×O)}{d:α->D}{xs:List V}(h:(n1 A p new d).pre xs):∃ a,xs=[A.enc a]/\p a/\(n1 A p new d).new xs=new a/\(n1 A p new d).d xs=d a:=by
 unfold n1 at h
 simp only at h
 split at h
 ·exact⟨_,by rw[h.1],h.2,rfl,rfl⟩
 ·exact h.elim
theorem afR{α β:Type}{A:En α}{B:En β}{p:α->β->Prop}{new:α->β->List (Name×O)}{d:α->β->D}{xs:List V}(h:(n2 A B p new d).pre xs):∃ a b,xs=[A.enc a,B.enc b]/\p a b/\(n2 A B p new d).new xs=new a b/\(n2 A B p new d).d xs=d a b:=by
 unfold n2 at h
 simp only at h
 split at h
 ·exact⟨_,_,by rw[h.1,h.2.1],h.2.2,rfl,rfl⟩
 ·exact h.elim
attribute [go_sem] n1 n2 NSpec.toSpec NSpec.app mK cY cout D.ren D.renL O.ren fresh
section
variable {P:Program} {f:FuncId} {fn:Func} {nt:Nat} {rs:List ResultVar}
theorem w1{α:Type}{A:En α}{p:α->Prop}{g:α->V}{fl:Bool}(hf:P.funcs[f]?=some fn)(eA:fn.ntmps=nt)(eP:fn.results.toList=rs)(hn:(fn.name== "runtime.NumGoroutine")=false)(hy:f<1000000000)
 (gm:fl=true->∀ a,(g a).flat=true) (hb:∃ c,fn.body=some c/\1<=nt/\∀ a,p a->V.wfL [A.enc a]->CL P [c] (aO nt [0] (fun _=>none) (gH 0 [A.enc a]) []) (py P rs (g a))):aZ P f (p1 A p g fl):=by
 obtain⟨c,hc,h1,h⟩:=hb
 refine vx hf eA eP hn hy (fun e=>TF (gm e) e) ⟨c,hc,fun xs hp hw=>?_⟩
 obtain⟨a,rfl,hp,hg⟩:=yg hp
 rw[hg]
 exact⟨h1,h a hp hw⟩
theorem w2{α β:Type}{A:En α}{B:En β}{p:α->β->Prop}{g:α->β->V}{fl:Bool}(hf:P.funcs[f]?=some fn)(eA:fn.ntmps=nt)(eP:fn.results.toList=rs)(hn:(fn.name== "runtime.NumGoroutine")=false)(hy:f<1000000000)
 (gm:fl=true->∀ a b,(g a b).flat=true) (hb:∃ c,fn.body=some c/\2<=nt/\∀ a b,p a b->V.wfL [A.enc a,B.enc b]->CL P [c] (aO nt [0] (fun _=>none) (gH 0 [A.enc a,B.enc b]) []) (py P rs (g a b))):aZ P f (p2 A B p g fl):=by
 obtain⟨c,hc,h1,h⟩:=hb
 refine vx hf eA eP hn hy (fun e=>It (gm e) e) ⟨c,hc,fun xs hp hw=>?_⟩
 obtain⟨a,b,rfl,hp,hg⟩:=BX hp
 rw[hg]
 exact⟨h1,h a b hp hw⟩
theorem w3{α β γ:Type}{A:En α}{B:En β}{C:En γ}{p:α->β->γ->Prop}{g:α->β->γ->V}{fl:Bool}(hf:P.funcs[f]?=some fn)(eA:fn.ntmps=nt)(eP:fn.results.toList=rs)(hn:(fn.name== "runtime.NumGoroutine")=false)(hy:f<1000000000)
 (gm:fl=true->∀ a b c,(g a b c).flat=true) (hb:∃ c,fn.body=some c/\3<=nt/\∀ a b d,p a b d->V.wfL [A.enc a,B.enc b,C.enc d]->CL P [c] (aO nt [0] (fun _=>none) (gH 0 [A.enc a,B.enc b,C.enc d]) []) (py P rs (g a b d))):aZ P f (p3 A B C p g fl):=by
 obtain⟨c,hc,h1,h⟩:=hb
 refine vx hf eA eP hn hy (fun e=>TE (gm e) e) ⟨c,hc,fun xs hp hw=>?_⟩
 obtain⟨a,b,d,rfl,hp,hg⟩:=Is hp
 rw[hg]
 exact⟨h1,h a b d hp hw⟩
theorem w4{α β γ δ:Type}{A:En α}{B:En β}{C:En γ}{E:En δ}{p:α->β->γ->δ->Prop}{g:α->β->γ->δ->V}{fl:Bool}(hf:P.funcs[f]?=some fn)(eA:fn.ntmps=nt)(eP:fn.results.toList=rs)(hn:(fn.name== "runtime.NumGoroutine")=false)(hy:f<1000000000)
 (gm:fl=true->∀ a b c d,(g a b c d).flat=true) (hb:∃ c,fn.body=some c/\4<=nt/\∀ a b d e,p a b d e->V.wfL [A.enc a,B.enc b,C.enc d,E.enc e]->CL P [c] (aO nt [0] (fun _=>none) (gH 0 [A.enc a,B.enc b,C.enc d,E.enc e]) []) (py P rs (g a b d e))):aZ P f (p4 A B C E p g fl):=by
 obtain⟨c,hc,h1,h⟩:=hb
 refine vx hf eA eP hn hy (fun e=>TD (gm e) e) ⟨c,hc,fun xs hp hw=>?_⟩
 obtain⟨a,b,d,e,rfl,hp,hg⟩:=Ir hp
 rw[hg]
 exact⟨h1,h a b d e hp hw⟩
end
open Go Go.Proofs
attribute [go_sem] o5
@[go_sem] theorem Q3:ba Tryd.prog 0=some (false,1):=by kernel_rfl
@[go_sem] theorem GZ:ba Tryd.prog 3=some (false,1):=by kernel_rfl
@[go_sem] theorem ti3:lX Tryd.prog 3=some .i64:=by kernel_rfl
@[go_sem] theorem QN:bb Tryd.prog 3=some (.int .i64 0):=by kernel_rfl
@[go_sem] theorem ta4:ba Tryd.prog 4=some (false,1):=by kernel_rfl
@[go_sem] theorem tz4:bb Tryd.prog 4=some (.bool false):=by kernel_rfl
@[go_sem] theorem ta5:ba Tryd.prog 5=some (false,1):=by kernel_rfl
@[go_sem] theorem ti5:lX Tryd.prog 5=some .u8:=by kernel_rfl
@[go_sem] theorem tz5:bb Tryd.prog 5=some (.int .u8 0):=by kernel_rfl
@[go_sem] theorem ta9:ba Tryd.prog 9=some (false,1):=by kernel_rfl
@[go_sem] theorem tl9:dG Tryd.prog 9=some 1:=by kernel_rfl
@[go_sem] theorem tz9:bb Tryd.prog 9=some (.string ⟨#[]⟩):=by kernel_rfl
@[go_sem] theorem aeT:ba Tryd.prog 22=some (false,1):=by kernel_rfl
@[go_sem] theorem ael:bK Tryd.prog 22=some (31,5,40):=by kernel_rfl
@[go_sem] theorem adO:dG Tryd.prog 22=some 0:=by kernel_rfl
@[go_sem] theorem adh:bb Tryd.prog 22=some (.slice none 0 0):=by kernel_rfl
@[go_sem] theorem aeS:ba Tryd.prog 23=some (false,1):=by kernel_rfl
@[go_sem] theorem aek:bK Tryd.prog 23=some (44,63,840):=by kernel_rfl
@[go_sem] theorem adN:dG Tryd.prog 23=some 0:=by kernel_rfl
@[go_sem] theorem adg:bb Tryd.prog 23=some (.slice none 0 0):=by kernel_rfl
@[go_sem] theorem aeR:ba Tryd.prog 24=some (false,1):=by kernel_rfl
@[go_sem] theorem aej:bK Tryd.prog 24=some (54,4,48):=by kernel_rfl
@[go_sem] theorem adM:dG Tryd.prog 24=some 0:=by kernel_rfl
@[go_sem] theorem adf:bb Tryd.prog 24=some (.slice none 0 0):=by kernel_rfl
@[go_sem] theorem aeQ:ba Tryd.prog 26=some (true,2):=by kernel_rfl
@[go_sem] theorem adH:iV Tryd.prog 26=some [(0,1),(1,1)]:=by kernel_rfl
@[go_sem] theorem ade:bb Tryd.prog 26=some (.agg #[(.slice none 0 0),(.slice none 0 0)]):=by kernel_rfl
@[go_sem] theorem aef:cQ Tryd.prog 26 0=some (0,1,false):=by kernel_rfl
@[go_sem] theorem aee:cQ Tryd.prog 26 1=some (1,1,false):=by kernel_rfl
@[go_sem] theorem aeP:ba Tryd.prog 27=some (false,1):=by kernel_rfl
@[go_sem] theorem aeO:ba Tryd.prog 31=some (true,5):=by kernel_rfl
@[go_sem] theorem adG:iV Tryd.prog 31=some [(0,1),(1,1),(2,1),(3,1),(4,1)]:=by kernel_rfl
@[go_sem] theorem adb:bb Tryd.prog 31=some (.agg #[(.int .i64 0),(.int .i64 0),(.int .i64 0),(.int .i64 0),(.int .i64 0)]):=by kernel_rfl
@[go_sem] theorem aed:cQ Tryd.prog 31 0=some (0,1,false):=by kernel_rfl
@[go_sem] theorem aec:cQ Tryd.prog 31 1=some (1,1,false):=by kernel_rfl
@[go_sem] theorem aeb:cQ Tryd.prog 31 2=some (2,1,false):=by kernel_rfl
@[go_sem] theorem aea:cQ Tryd.prog 31 3=some (3,1,false):=by kernel_rfl
@[go_sem] theorem ad':cQ Tryd.prog 31 4=some (4,1,false):=by kernel_rfl
@[go_sem] theorem aeN:ba Tryd.prog 34=some (false,1):=by kernel_rfl
@[go_sem] theorem QX:bK Tryd.prog 34=some (3,1,8):=by kernel_rfl
@[go_sem] theorem adL:dG Tryd.prog 34=some 0:=by kernel_rfl
@[go_sem] theorem ada:bb Tryd.prog 34=some (.slice none 0 0):=by kernel_rfl
@[go_sem] theorem aeM:ba Tryd.prog 35=some (false,1):=by kernel_rfl
@[go_sem] theorem GY:bK Tryd.prog 35=some (75,2,16):=by kernel_rfl
@[go_sem] theorem adK:dG Tryd.prog 35=some 0:=by kernel_rfl
@[go_sem] theorem ac':bb Tryd.prog 35=some (.slice none 0 0):=by kernel_rfl
@[go_sem] theorem aeL:ba Tryd.prog 36=some (true,6):=by kernel_rfl
@[go_sem] theorem adv:gw Tryd.prog 36=some (6,1,false):=by kernel_rfl
@[go_sem] theorem adF:iV Tryd.prog 36=some [(0,1),(1,1),(2,1),(3,1),(4,1),(5,1)]:=by kernel_rfl
@[go_sem] theorem ac9:bb Tryd.prog 36=some (.agg #[(.slice none 0 0),(.slice none 0 0),(.slice none 0 0),(.slice none 0 0),(.slice none 0 0),(.slice none 0 0)]):=by kernel_rfl
@[go_sem] theorem aeK:ba Tryd.prog 37=some (true,6):=by kernel_rfl
@[go_sem] theorem adu:gw Tryd.prog 37=some (6,1,false):=by kernel_rfl
@[go_sem] theorem adE:iV Tryd.prog 37=some [(0,1),(1,1),(2,1),(3,1),(4,1),(5,1)]:=by kernel_rfl
@[go_sem] theorem ac8:bb Tryd.prog 37=some (.agg #[(.int .i64 0),(.int .i64 0),(.int .i64 0),(.int .i64 0),(.int .i64 0),(.int .i64 0)]):=by kernel_rfl
@[go_sem] theorem aeJ:ba Tryd.prog 39=some (true,19):=by kernel_rfl
@[go_sem] theorem adD:iV Tryd.prog 39=some [(0,1),(1,6),(7,6),(13,6)]:=by kernel_rfl
@[go_sem] theorem ac7:bb Tryd.prog 39=some (.agg #[(.slice none 0 0),(.slice none 0 0),(.slice none 0 0),(.slice none 0 0),(.slice none 0 0),(.slice none 0 0),(.slice none 0 0),(.int .i64 0),(.int .i64 0),(.int .i64 0),(.int .i64 0),(.int .i64 0),(.int .i64 0),(.int .i64 0),(.int .i64 0),(.int .i64 0),(.int .i64 0),(.int .i64 0),(.int .i64 0)]):=by kernel_rfl
@[go_sem] theorem ad9:cQ Tryd.prog 39 0=some (0,1,false):=by kernel_rfl
@[go_sem] theorem ad8:cQ Tryd.prog 39 1=some (1,6,true):=by kernel_rfl
@[go_sem] theorem ad7:cQ Tryd.prog 39 2=some (7,6,true):=by kernel_rfl
@[go_sem] theorem ad6:cQ Tryd.prog 39 3=some (13,6,true):=by kernel_rfl
@[go_sem] theorem aeI:ba Tryd.prog 41=some (true,21):=by kernel_rfl
@[go_sem] theorem adC:iV Tryd.prog 41=some [(0,1),(1,19),(20,1)]:=by kernel_rfl
@[go_sem] theorem ac6:bb Tryd.prog 41=some (.agg #[(.int .i64 0),(.slice none 0 0),(.slice none 0 0),(.slice none 0 0),(.slice none 0 0),(.slice none 0 0),(.slice none 0 0),(.slice none 0 0),(.int .i64 0),(.int .i64 0),(.int .i64 0),(.int .i64 0),(.int .i64 0),(.int .i64 0),(.int .i64 0),(.int .i64 0),(.int .i64 0),(.int .i64 0),(.int .i64 0),(.int .i64 0),(.int .i64 0)]):=by kernel_rfl
@[go_sem] theorem ad5:cQ Tryd.prog 41 0=some (0,1,false):=by kernel_rfl
@[go_sem] theorem ad4:cQ Tryd.prog 41 1=some (1,19,true):=by kernel_rfl
@[go_sem] theorem ad3:cQ Tryd.prog 41 2=some (20,1,false):=by kernel_rfl
@[go_sem] theorem aeH:ba Tryd.prog 42=some (true,42):=by kernel_rfl
@[go_sem] theorem adt:gw Tryd.prog 42=some (2,21,true):=by kernel_rfl
@[go_sem] theorem adB:iV Tryd.prog 42=some [(0,21),(21,21)]:=by kernel_rfl
@[go_sem] theorem ac5:bb Tryd.prog 42=some (.agg #[(.int .i64 0),(.slice none 0 0),(.slice none 0 0),(.slice none 0 0),(.slice none 0 0),(.slice none 0 0),(.slice none 0 0),(.slice none 0 0),(.int .i64 0),(.int .i64 0),(.int .i64 0),(.int .i64 0),(.int .i64 0),(.int .i64 0),(.int .i64 0),(.int .i64 0),(.int .i64 0),(.int .i64 0),(.int .i64 0),(.int .i64 0),(.int .i64 0),(.int .i64 0),(.slice none 0 0),(.slice none 0 0),(.slice none 0 0),(.slice none 0 0),(.slice none 0 0),(.slice none 0 0),(.slice none 0 0),(.int .i64 0),(.int .i64 0),(.int .i64 0),(.int .i64 0),(.int .i64 0),(.int .i64 0),(.int .i64 0),(.int .i64 0),(.int .i64 0),(.int .i64 0),(.int .i64 0),(.int .i64 0),(.int .i64 0)]):=by kernel_rfl
@[go_sem] theorem aeG:ba Tryd.prog 44=some (true,63):=by kernel_rfl
@[go_sem] theorem adA:iV Tryd.prog 44=some [(0,1),(1,19),(20,42),(62,1)]:=by kernel_rfl
@[go_sem] theorem ac4:bb Tryd.prog 44=some (.agg #[(.int .i64 0),(.slice none 0 0),(.slice none 0 0),(.slice none 0 0),(.slice none 0 0),(.slice none 0 0),(.slice none 0 0),(.slice none 0 0),(.int .i64 0),(.int .i64 0),(.int .i64 0),(.int .i64 0),(.int .i64 0),(.int .i64 0),(.int .i64 0),(.int .i64 0),(.int .i64 0),(.int .i64 0),(.int .i64 0),(.int .i64 0),(.int .i64 0),(.slice none 0 0),(.slice none 0 0),(.slice none 0 0),(.slice none 0 0),(.slice none 0 0),(.slice none 0 0),(.slice none 0 0),(.int .i64 0),(.int .i64 0),(.int .i64 0),(.int .i64 0),(.int .i64 0),(.int .i64 0),(.int .i64 0),(.int .i64 0),(.int .i64 0),(.int .i64 0),(.int .i64 0),(.int .i64 0),(.int .i64 0),(.int .i64 0),(.slice none 0 0),(.slice none 0 0),(.slice none 0 0),(.slice none 0 0),(.slice none 0 0),(.slice none 0 0),(.slice none 0 0),(.int .i64 0),(.int .i64 0),(.int .i64 0),(.int .i64 0),(.int .i64 0),(.int .i64 0),(.int .i64 0),(.int .i64 0),(.int .i64 0),(.int .i64 0),(.int .i64 0),(.int .i64 0),(.int .i64 0),(.int .i64 0)]):=by kernel_rfl
@[go_sem] theorem ad2:cQ Tryd.prog 44 0=some (0,1,false):=by kernel_rfl
@[go_sem] theorem ad1:cQ Tryd.prog 44 1=some (1,19,true):=by kernel_rfl
@[go_sem] theorem ad0:cQ Tryd.prog 44 2=some (20,42,true):=by kernel_rfl
@[go_sem] theorem adZ:cQ Tryd.prog 44 3=some (62,1,false):=by kernel_rfl
@[go_sem] theorem aeF:ba Tryd.prog 45=some (false,1):=by kernel_rfl
@[go_sem] theorem adQ:lX Tryd.prog 45=some .i64:=by kernel_rfl
@[go_sem] theorem ac3:bb Tryd.prog 45=some (.int .i64 0):=by kernel_rfl
@[go_sem] theorem aeE:ba Tryd.prog 46=some (false,1):=by kernel_rfl
@[go_sem] theorem aeD:ba Tryd.prog 49=some (false,1):=by kernel_rfl
@[go_sem] theorem aeC:ba Tryd.prog 54=some (true,4):=by kernel_rfl
@[go_sem] theorem adz:iV Tryd.prog 54=some [(0,1),(1,1),(2,1),(3,1)]:=by kernel_rfl
@[go_sem] theorem ac2:bb Tryd.prog 54=some (.agg #[(.int .i64 0),(.int .i64 0),(.slice none 0 0),(.int .i64 0)]):=by kernel_rfl
@[go_sem] theorem adY:cQ Tryd.prog 54 0=some (0,1,false):=by kernel_rfl
@[go_sem] theorem adX:cQ Tryd.prog 54 1=some (1,1,false):=by kernel_rfl
@[go_sem] theorem adW:cQ Tryd.prog 54 2=some (2,1,false):=by kernel_rfl
@[go_sem] theorem adV:cQ Tryd.prog 54 3=some (3,1,false):=by kernel_rfl
@[go_sem] theorem aeB:ba Tryd.prog 55=some (false,1):=by kernel_rfl
@[go_sem] theorem aeA:ba Tryd.prog 61=some (false,1):=by kernel_rfl
@[go_sem] theorem aei:bK Tryd.prog 61=some (76,2,16):=by kernel_rfl
@[go_sem] theorem adJ:dG Tryd.prog 61=some 0:=by kernel_rfl
@[go_sem] theorem ac1:bb Tryd.prog 61=some (.slice none 0 0):=by kernel_rfl
@[go_sem] theorem aez:ba Tryd.prog 62=some (false,1):=by kernel_rfl
@[go_sem] theorem aey:ba Tryd.prog 64=some (false,1):=by kernel_rfl
@[go_sem] theorem aex:ba Tryd.prog 71=some (false,1):=by kernel_rfl
@[go_sem] theorem aew:ba Tryd.prog 75=some (true,2):=by kernel_rfl
@[go_sem] theorem ady:iV Tryd.prog 75=some [(0,1),(1,1)]:=by kernel_rfl
@[go_sem] theorem QM:bb Tryd.prog 75=some (.agg #[(.int .i64 0),(.int .i64 0)]):=by kernel_rfl
@[go_sem] theorem adU:cQ Tryd.prog 75 0=some (0,1,false):=by kernel_rfl
@[go_sem] theorem adT:cQ Tryd.prog 75 1=some (1,1,false):=by kernel_rfl
@[go_sem] theorem aev:ba Tryd.prog 76=some (true,2):=by kernel_rfl
@[go_sem] theorem ads:gw Tryd.prog 76=some (2,1,false):=by kernel_rfl
@[go_sem] theorem adx:iV Tryd.prog 76=some [(0,1),(1,1)]:=by kernel_rfl
@[go_sem] theorem ac0:bb Tryd.prog 76=some (.agg #[(.int .i64 0),(.int .i64 0)]):=by kernel_rfl
@[go_sem] theorem aeu:ba Tryd.prog 81=some (false,1):=by kernel_rfl
@[go_sem] theorem acZ:bb Tryd.prog 81=some (.pointer none):=by kernel_rfl
@[go_sem] theorem aet:ba Tryd.prog 85=some (false,1):=by kernel_rfl
@[go_sem] theorem aes:ba Tryd.prog 87=some (false,1):=by kernel_rfl
@[go_sem] theorem acY:bb Tryd.prog 87=some (.pointer none):=by kernel_rfl
@[go_sem] theorem aer:ba Tryd.prog 91=some (true,63):=by kernel_rfl
@[go_sem] theorem adw:iV Tryd.prog 91=some [(0,63)]:=by kernel_rfl
@[go_sem] theorem acX:bb Tryd.prog 91=some (.agg #[(.int .i64 0),(.slice none 0 0),(.slice none 0 0),(.slice none 0 0),(.slice none 0 0),(.slice none 0 0),(.slice none 0 0),(.slice none 0 0),(.int .i64 0),(.int .i64 0),(.int .i64 0),(.int .i64 0),(.int .i64 0),(.int .i64 0),(.int .i64 0),(.int .i64 0),(.int .i64 0),(.int .i64 0),(.int .i64 0),(.int .i64 0),(.int .i64 0),(.slice none 0 0),(.slice none 0 0),(.slice none 0 0),(.slice none 0 0),(.slice none 0 0),(.slice none 0 0),(.slice none 0 0),(.int .i64 0),(.int .i64 0),(.int .i64 0),(.int .i64 0),(.int .i64 0),(.int .i64 0),(.int .i64 0),(.int .i64 0),(.int .i64 0),(.int .i64 0),(.int .i64 0),(.int .i64 0),(.int .i64 0),(.int .i64 0),(.slice none 0 0),(.slice none 0 0),(.slice none 0 0),(.slice none 0 0),(.slice none 0 0),(.slice none 0 0),(.slice none 0 0),(.int .i64 0),(.int .i64 0),(.int .i64 0),(.int .i64 0),(.int .i64 0),(.int .i64 0),(.int .i64 0),(.int .i64 0),(.int .i64 0),(.int .i64 0),(.int .i64 0),(.int .i64 0),(.int .i64 0),(.int .i64 0)]):=by kernel_rfl
@[go_sem] theorem adS:cQ Tryd.prog 91 0=some (0,63,true):=by kernel_rfl
@[go_sem] theorem aeq:ba Tryd.prog 92=some (false,1):=by kernel_rfl
@[go_sem] theorem acW:bb Tryd.prog 92=some (.pointer none):=by kernel_rfl
@[go_sem] theorem aep:ba Tryd.prog 96=some (false,1):=by kernel_rfl
@[go_sem] theorem acV:bb Tryd.prog 96=some .nilFunc:=by kernel_rfl
@[go_sem] theorem aeo:ba Tryd.prog 97=some (false,1):=by kernel_rfl
@[go_sem] theorem acU:bb Tryd.prog 97=some .nilFunc:=by kernel_rfl
@[go_sem] theorem aen:ba Tryd.prog 99=some (false,1):=by kernel_rfl
@[go_sem] theorem acT:bb Tryd.prog 99=some (.pointer none):=by kernel_rfl
@[go_sem] theorem aeZ:ba Tryd.prog 100=some (false,1):=by kernel_rfl
@[go_sem] theorem aeY:ba Tryd.prog 104=some (false,1):=by kernel_rfl
@[go_sem] theorem adl:bb Tryd.prog 104=some .nilFunc:=by kernel_rfl
@[go_sem] theorem aeX:ba Tryd.prog 112=some (false,1):=by kernel_rfl
@[go_sem] theorem aem:bK Tryd.prog 112=some (5,1,1):=by kernel_rfl
@[go_sem] theorem adP:dG Tryd.prog 112=some 0:=by kernel_rfl
@[go_sem] theorem adk:bb Tryd.prog 112=some (.slice none 0 0):=by kernel_rfl
@[go_sem] theorem aeW:ba Tryd.prog 113=some (false,1):=by kernel_rfl
@[go_sem] theorem adR:lX Tryd.prog 113=some .u64:=by kernel_rfl
@[go_sem] theorem adj:bb Tryd.prog 113=some (.int .u64 0):=by kernel_rfl
@[go_sem] theorem aeV:ba Tryd.prog 126=some (true,2):=by kernel_rfl
@[go_sem] theorem adI:iV Tryd.prog 126=some [(0,1),(1,1)]:=by kernel_rfl
@[go_sem] theorem adi:bb Tryd.prog 126=some (.agg #[(.pointer none),(.slice none 0 0)]):=by kernel_rfl
@[go_sem] theorem aeh:cQ Tryd.prog 126 0=some (0,1,false):=by kernel_rfl
@[go_sem] theorem aeg:cQ Tryd.prog 126 1=some (1,1,false):=by kernel_rfl
@[go_sem] theorem aeU:ba Tryd.prog 129=some (false,1):=by kernel_rfl
@[go_sem] theorem adq:lk Tryd.prog 113 3=0:=by kernel_rfl
@[go_sem] theorem adr:lk Tryd.prog 112 9=2:=by kernel_rfl
@[go_sem] theorem adp:lk Tryd.prog 3 113=0:=by kernel_rfl
@[go_sem] theorem ado:lk Tryd.prog 3 5=0:=by kernel_rfl
@[go_sem] theorem adn:lk Tryd.prog 5 3=0:=by kernel_rfl
@[go_sem] theorem adm:lk Tryd.prog 9 112=1:=by kernel_rfl
theorem br:Tryd.prog.follows .mixedOrders=true:=by kernel_rfl
def cS(obj:Name->Option O):List Name->List O->Prop
 |[],[]=>True
 |x::xs,o::os=>obj x=some o/\cS obj xs os
 |_,_=>False
theorem Uk{obj:Name->Option O}:∀ {Ls:List Name} {F:List O},cS obj Ls F->Ls.length=F.length
 |[],[],_=>rfl
 |_::_,_::_,h=>by simp only[List.length_cons,Uk h.2]
 |[],_::_,h=>h.elim
 |_::_,[],h=>h.elim
theorem jw{obj:Name->Option O}:∀ {Ls:List Name} {F:List O},cS obj Ls F↔Ls.map obj=F.map some
 |[],[]=>by simp[cS]
 |x::xs,o::os=>by simp only[cS,List.map_cons,List.cons.injEq,jw]
 |[],_::_=>by simp[cS]
 |_::_,[]=>by simp[cS]
theorem IT{obj obj2:Name->Option O}{Ls:List Name}{F:List O}(h:cS obj Ls F)(ha:∀ x∈Ls,obj2 x=obj x):cS obj2 Ls F:=by
 rw[jw]at h |-
 rw[<-h]
 exact List.map_congr_left ha
theorem yt{obj:Name->Option O}:∀ {Ls:List Name} {F:List O},cS obj Ls F->∀ i (h:i<Ls.length) (h':i<F.length),obj Ls[i]=some F[i]
 |_::_,_::_,h,0,_,_=>h.1
 |_::_,_::_,h,i+1,h1,h2=>by
  simp only[List.getElem_cons_succ]
  exact yt h.2 i (by simpa using h1) (by simpa using h2)
def tk(K:Exit->S->Prop)(σ:S):Option Code->Prop
 |none=>K .normal σ
 |some .ret=>K .ret σ
 |some (.exit id)=>K (.exit id) σ
 |_=>False
theorem Jh{K:Exit->S->Prop}{obj:Name->Option O}{nm:Name}{σ:S}{env:List E}{ps:List Nat}{a b:Code}(pd:Option Code)(h:obj nm=some (.loop env ps a b (if pd.isNone then .ready else .done) pd))
 (hK:tk K σ pd):nq K obj nm σ:=by
 unfold nq
 rw[h]
 rcases pd with _ | c
 ·exact hK
 ·cases c<;>first | exact hK.elim | exact hK
def LR(m:Nat):List Name:=(List.range m).map fun i=>[i,1]
def LI(m:Nat):List Name:=(List.range m).map fun i=>[i+1,1]
theorem va(m:Nat):(LR m).length=m:=by simp[LR]
theorem dm(m:Nat):(LI m).length=m:=by simp[LI]
theorem aif(m:Nat):(LR m).Nodup:=by
 unfold LR
 exact List.Pairwise.map _ (fun a b h=>by simpa using h) List.nodup_range
theorem FX{Ls:List Name}(hn:Ls.Nodup):Ls.map (cin Ls)=LR Ls.length:=by
 refine List.ext_getElem (by simp[LR]) fun i h1 h2=>?_
 simp only[List.getElem_map,LR,List.getElem_range,cin]
 rw[C5 hn (by simpa using h1)]
theorem xb{R:Name}{Ls:List Name}(hn:Ls.Nodup)(hR:R∉Ls):Ls.map (cin (R::Ls))=LI Ls.length:=by
 refine List.ext_getElem (by simp[LI]) fun i h1 h2=>?_
 simp only[List.getElem_map,LI,List.getElem_range,cin]
 have h3:i<Ls.length:=by simpa using h1
 have h4:=C5 (L:=R::Ls) (List.nodup_cons.2 ⟨hR,hn⟩) (i:=i+1) (by simp;omega)
 simp only[List.getElem_cons_succ]at h4
 rw[h4]
theorem aaY(Ls:List Name)(t:Name):(LR Ls.length).map (cout Ls t)=Ls:=by
 refine List.ext_getElem (by simp[LR]) fun i h1 h2=>?_
 simp only[List.getElem_map,LR,List.getElem_range,cout]
 exact kb h2
theorem Aq(R:Name)(Ls:List Name)(t:Name):(LI Ls.length).map (cout (R::Ls) t)=Ls:=by
 refine List.ext_getElem (by simp[LI]) fun i h1 h2=>?_
 simp only[List.getElem_map,LI,List.getElem_range,cout]
 rw[kb (by simpa using h2)]
 simp
def cq:List Name->List O->(Name->Option O)->(Name->Option O)
 |x::xs,o::os,obj=>cq xs os (upd obj x (some o))
 |_,_,obj=>obj
theorem pt:∀ {Ls:List Name} {F:List O} {obj:Name->Option O} {x:Name},x∉Ls->cq Ls F obj x=obj x
 |[],_,_,_,_=>by simp[cq]
 |_::_,[],_,_,_=>by simp[cq]
 |y::ys,o::os,obj,x,h=>by
  simp only[List.mem_cons,not_or]at h
  simp only[cq]
  rw[pt h.2,aH _ _ _ h.1]
theorem Bv:∀ {Ls:List Name} {F:List O} {obj:Name->Option O},Ls.Nodup->Ls.length=F.length->cS (cq Ls F obj) Ls F
 |[],[],_,_,_=>trivial
 |[],_::_,_,_,h=>by simp at h
 |_::_,[],_,_,h=>by simp at h
 |y::ys,o::os,obj,hn,h=>by
  rw[List.nodup_cons]at hn
  refine⟨?_,Bv (obj:=upd obj y (some o)) hn.2 (by simpa using h)⟩
  simp only[cq]
  rw[pt hn.1,aC]
def eD:Nat->List O->List (Nat×O)
 |_,[]=>[]
 |k,o::r=>(k,o)::eD (k+1) r
theorem x9{t:Name}{L:List Name}:∀ {Ls:List Name} {k:Nat} {F:List O} {obj:Name->Option O},Ls.length=F.length->(∀ i (h:i<Ls.length),L.getD (k+i) []=Ls[i])->
 b7 L t (eD k F) obj=cq Ls (F.map (O.ren (cout L t))) obj
 |[],k,[],obj,_,_=>rfl
 |[],k,_::_,obj,h,_=>by simp at h
 |_::_,k,[],obj,h,_=>by simp at h
 |x::xs,k,o::os,obj,h,hL=>by
  simp only[eD,b7,List.map_cons,cq]
  have h0:=hL 0 (by simp)
  simp only[Nat.add_zero,List.getElem_cons_zero]at h0
  rw[h0]
  exact x9 (by simpa using h) fun i hi=>by
   have :=hL (i+1) (by simpa using hi)
   rw[show k+1+i=k+(i+1)by omega]
   simpa using this
theorem CE:∀ {F:List O} {k i:Nat} {o:O},i<k->eO (eD k F) i o=o
 |[],k,i,o,_=>rfl
 |f::r,k,i,o,h=>by
  simp only[eD,eO]
  rw[if_neg (by omega)]
  exact CE (by omega)
theorem Cd{σ:S}:∀ {F os:List O} {k:Nat} {u:List (Nat×O)},F.length=os.length->(∀ i,k<=i->∀ o,eO u i o=eO (eD k F) i o)->
 (∀ i (h:i<F.length),σ.obj [k+i,1]=some F[i])->qZ σ u k os
 |[],[],_,_,_,_,_=>trivial
 |[],_::_,_,_,h,_,_=>by simp at h
 |_::_,[],_,_,h,_,_=>by simp at h
 |f::fs,o::os,k,u,h,hu,hs=>by
  refine⟨?_,Cd (F:=fs) (by simpa using h) (fun i hi x=>?_) fun i hi=>?_⟩
  ·have h0:=hs 0 (by simp)
   simp only[Nat.add_zero,List.getElem_cons_zero]at h0
   rw[h0,hu k (Nat.le_refl _) o]
   simp only[eD,eO,if_true]
   rw[CE (by omega)]
  ·rw[hu i (by omega) x]
   simp only[eD,eO]
   rw[if_neg (by omega)]
  ·have:=hs (i+1) (by simpa using hi)
   rw[show k+1+i=k+(i+1)by omega]
   simpa using this
structure Lp where
 m:Nat
 env:List Name->List E
 fam:List Name->Nat->List O
 ps:List Nat
 asg:Code
 body:Code
 n:Nat
 vals:Nat->List D
 st:Nat->Option Code
 fu:Nat
structure Lp.Ok (r:Lp):Prop where
 len:∀ Ls s,Ls.length=r.m->(r.fam Ls s).length=r.m
 renE:∀ f Ls,Ls.length=r.m->(r.env Ls).map (E.ren f)=r.env (Ls.map f)
 renF:∀ f Ls s,Ls.length=r.m->(r.fam Ls s).map (O.ren f)=r.fam (Ls.map f) s
 reach:∀ Ls s obj acc k,Ls.length=r.m->Ls.Nodup->(∀ x∈Ls,x∉acc)->cS obj Ls (r.fam Ls s)->dA obj (k+r.fu) (cJ ((r.env Ls).map (·.d))) acc=acc++Ls
 closE:∀ dom Ls,Ls.length=r.m->(∀ x∈Ls,dom x=true)->D.closL dom ((r.env Ls).map (·.d))=true
 closF:∀ dom Ls s,Ls.length=r.m->(∀ x∈Ls,dom x=true)->∀ o∈r.fam Ls s,O.clos dom o=true
 psz:∀ Ls,Ls.length=r.m->(r.ps.all fun p=>decide (p<(r.env Ls).length))=true
 args:∀ s,(r.vals s).length=r.ps.length
 fuel:r.fu<=2000
 vnam:∀ s,cJ (r.vals s)=[]
 vcl:∀ s dom,D.closL dom (r.vals s)=true
 vren:∀ s f,D.renL f (r.vals s)=r.vals s
 inj:∀ s s',s<r.n->s'<r.n->r.vals s=r.vals s'->s=s'
theorem Uo(a:List D):∀ vs:List V,cJ (a++vs.map D.v)=cJ a:=by
 intro vs
 have h0:∀ vs:List V,cJ (vs.map D.v)=[]:=by
  intro vs
  induction vs with
  |nil=>rfl
  |cons x r ih=>simp only[List.map_cons,cJ,re,List.nil_append,ih]
 induction a with
 |nil=>simpa[cJ]using h0 vs
 |cons x r ih=>simp only[List.cons_append,cJ,ih]
theorem NV(dom:Name->Bool)(vs:List V):∀ a:List D,D.closL dom (a++vs.map D.v)=D.closL dom a:=by
 have h0:∀ vs:List V,D.closL dom (vs.map D.v)=true:=by
  intro vs
  induction vs with
  |nil=>rfl
  |cons x r ih=>simp only[List.map_cons,D.closL,D.clos,ih,Bool.and_self]
 intro a
 induction a with
 |nil=>simpa[D.closL]using h0 vs
 |cons x r ih=>simp only[List.cons_append,D.closL,ih]
theorem Tp(f:Name->Name)(vs:List V):D.renL f (vs.map D.v)=vs.map D.v:=by
 induction vs with
 |nil=>rfl
 |cons x r ih=>simp only[List.map_cons,D.renL,D.ren,ih]
theorem acO{a b:List V}(h:a.map D.v=b.map D.v):a=b:=by
 have :Function.Injective D.v:=fun x y h=>by injection h
 exact(List.map_inj_right this).1 h
theorem Up(a b:List D):cJ (a++b)=cJ a++cJ b:=by
 induction a with
 |nil=>rfl
 |cons x r ih=>simp only[List.cons_append,cJ,ih,List.append_assoc]
theorem N2(dom:Name->Bool)(a b:List D):D.closL dom (a++b)=(D.closL dom a&&D.closL dom b):=by
 induction a with
 |nil=>simp[D.closL]
 |cons x r ih=>simp only[List.cons_append,D.closL,ih,Bool.and_assoc]
noncomputable def Lp.y(r:Lp):YSpec where
 pre:=fun env ps asg body os ds=>∃ s,s<r.n/\(∀ j,j<s->r.st j=none)/\env=r.env (LR r.m)/\ps=r.ps/\asg=r.asg/\body=r.body/\os=r.fam (LR r.m) s/\ds=r.vals s
 out:=fun _ _ _ _ _ ds=>by
  classical exact if h:∃ s,s<r.n/\ds=r.vals s then(⟨eD 0 (r.fam (LR r.m) (h.choose+1)),[],.v (.bool true)⟩,r.st h.choose)else(⟨[],[],.any⟩,none)
theorem Lp.y_out{r:Lp}(hr:r.Ok){s:Nat}(hs:s<r.n)(env:List E)(ps:List Nat)(asg body:Code)(os:List O):
 r.y.out env ps asg body os (r.vals s)=(⟨eD 0 (r.fam (LR r.m) (s+1)),[],.v (.bool true)⟩,r.st s):=by
 have h:∃ s',s'<r.n/\r.vals s=r.vals s':=⟨s,hs,rfl⟩
 have e:h.choose=s:=(hr.inj _ _ hs h.choose_spec.1 h.choose_spec.2).symm
 simp only[Lp.y]
 rw[dif_pos h,e]
def Tl(m:Nat)(F:List O)(p:Option Code):Exit->S->Prop
 | .normal,σ=>p=none/\cS σ.obj (LR m) F
 | .ret,σ=>p=some .ret/\cS σ.obj (LR m) F
 | .exit id,σ=>p=some (.exit id)/\cS σ.obj (LR m) F
 |_,_=>False
theorem aam{os F:List O}{σ:S}{m:Nat}(h1:os.length=m)(h2:F.length=m)(hc:∀ dom:Name->Bool,(∀ x∈LR m,dom x=true)->∀ o∈F,O.clos dom o=true)(h:cS σ.obj (LR m) F):
 gG os ⟨eD 0 F,[],.v (.bool true)⟩ σ:=by
 have fH:∀ i (hi:i<F.length),σ.obj [i,1]=some F[i]:=by
  rw[jw]at h
  intro i hi
  have h3:=congrArg (fun l=>l[i]?) h
  have bj:i<m:=by omega
  simpa[LR,hi,bj]using h3
 refine⟨Cd (F:=F) (by omega) (fun i _ o=>rfl) fun i hi=>by rw[Nat.zero_add];exact fH i hi,trivial,?_⟩
 have p6:∀ x∈LR m,dt os.length [] x=true:=by
  intro x hx
  obtain⟨i,hi,rfl⟩:=List.mem_map.1 hx
  have :=List.mem_range.1 hi
  simp[dt]
  omega
 have dP:∀ (F':List O) (k:Nat),(∀ o∈F',O.clos (dt os.length []) o=true)->k+F'.length<=os.length->((eD k F').all fun x=>O.clos (dt os.length []) x.2&&decide (x.1<os.length))=true:=by
  intro F'
  induction F' with
  |nil=>intros;rfl
  |cons f fs ih=>
   intro k hf hk
   simp only[List.length_cons]at hk
   simp only[eD,List.all_cons,Bool.and_eq_true,decide_eq_true_eq]
   exact⟨⟨hf f (by simp),by omega⟩,by have:=ih (k+1) (fun o ho=>hf o (by simp[ho])) (by omega);simpa using this⟩
 have :=dP F 0 (hc _ p6) (by omega)
 simp only[D.clos,this,List.all_nil,List.map_nil,distinct,Bool.and_self]
theorem Lp.y_sound{P:Program}{r:Lp}(hr:r.Ok)(h:∀ s,s<r.n->(∀ j,j<s->r.st j=none)->
 CW P r.asg ⟨(r.env (LR r.m)).length,setP (sp (r.env (LR r.m))) r.ps (r.vals s),aS (r.fam (LR r.m) s),[0],0⟩ (IF fun σ1=>CW P r.body σ1 (Tl r.m (r.fam (LR r.m) (s+1)) (r.st s)))):ak P yid r.y.toSpec:=by
 refine Gz ?_
 rintro env ps asg body os ds ⟨s,hs,hj,rfl,rfl,rfl,rfl,rfl,rfl⟩ _
 rw[Lp.y_out hr hs]
 refine CW.mono (h s hs hj) fun e σ hk=>?_
 cases e with
 |normal=>
  refine CW.mono hk fun e σ hk=>?_
  have fin:cS σ.obj (LR r.m) (r.fam (LR r.m) (s+1))->gG (r.fam (LR r.m) s) ⟨eD 0 (r.fam (LR r.m) (s+1)),[],.v (.bool true)⟩ σ:=
   aam (hr.len _ _ (va _)) (hr.len _ _ (va _)) fun dom hd=>hr.closF dom _ _ (va _) hd
  cases e with
  |normal=>exact⟨hk.1,fin hk.2⟩
  |ret=>exact⟨hk.1,fin hk.2⟩
  |exit id=>exact⟨hk.1,fin hk.2⟩
  |goto l=>exact hk.elim
  |panic c=>exact hk.elim
  |outgrown=>exact hk.elim
 |ret=>exact hk.elim
 |exit id=>exact hk.elim
 |goto l=>exact hk.elim
 |panic c=>exact hk.elim
 |outgrown=>exact hk.elim
def Lp.rc(r:Lp)(Ls:List Name)(st:LoopState)(pd:Option Code):O:=.loop (r.env Ls) r.ps r.asg r.body st pd
theorem Lp.y_app{r:Lp}(hr:r.Ok){s:Nat}(hs:s<r.n)(hj:∀ j,j<s->r.st j=none){obj:Name->Option O}{t R:Name}{Ls:List Name}(hl:Ls.length=r.m)(hn:Ls.Nodup)(hR:R∉Ls)
 (h0:obj R=some (r.rc Ls .ready none)) (hF:cS obj Ls (r.fam Ls s)):
 r.y.toSpec.app obj t (.yld R::r.vals s)=⟨True,.v (.bool (r.st s).isNone),upd (cq Ls (r.fam Ls (s+1)) obj) R (some (r.rc Ls (if (r.st s).isNone then .ready else .done) (r.st s)))⟩:=by
 have jA:reach obj (roots (r.env Ls) (r.vals s))=Ls:=by
  unfold reach roots
  rw[Up,hr.vnam,List.append_nil]
  have :=hr.reach Ls s obj [] (3000-r.fu) hl hn (fun _ _=>by simp) hF
  rwa [show 3000-r.fu+r.fu=3000 by have:=hr.fuel;omega]at this
 have e1:cg obj (roots (r.env Ls) (r.vals s))=r.fam (LR r.m) s:=by
  unfold cg
  rw[jA]
  have :Ls.map (bZ Ls obj)=(r.fam Ls s).map (O.ren (cin Ls)):=by
   rw[jw]at hF
   refine List.ext_getElem (by simp[hr.len _ _ hl,hl]) fun i h1 h2=>?_
   have h3:i<Ls.length:=by simpa using h1
   have h4:i<(r.fam Ls s).length:=by rw[hr.len _ _ hl,<-hl];exact h3
   have h5:=congrArg (fun l=>l[i]?) hF
   have h6:obj Ls[i]=some (r.fam Ls s)[i]:=by simpa[h3,h4]using h5
   simp only[List.getElem_map,bZ,h6]
  rw[this,hr.renF _ _ _ hl,FX hn,hl]
 have e2:ix obj (r.env Ls) (r.vals s)=r.env (LR r.m):=by
  unfold ix
  rw[jA,hr.renE _ _ hl,FX hn,hl]
 have e3:jn obj (r.env Ls) (r.vals s)=r.vals s:=by
  unfold jn
  exact hr.vren s _
 have e4:r.y.o obj (r.env Ls) r.ps r.asg r.body (r.vals s)=(⟨eD 0 (r.fam (LR r.m) (s+1)),[],.v (.bool true)⟩,r.st s):=by
  unfold YSpec.o
  rw[e1,e2,e3,Lp.y_out hr hs]
 have cG:r.y.pre (r.env (LR r.m)) r.ps r.asg r.body (r.fam (LR r.m) s) (r.vals s):=⟨s,hs,hj,rfl,rfl,rfl,rfl,rfl,rfl⟩
 have bO:D.closL (b8 Ls) (roots (r.env Ls) (r.vals s))=true:=by
  unfold roots
  rw[N2,hr.vcl,Bool.and_true]
  exact hr.closE _ _ hl fun x hx=>gQ.2 hx
 have fO:shut obj Ls=true:=by
  unfold shut
  rw[List.all_eq_true]
  intro x hx
  obtain⟨i,hi,rfl⟩:=List.getElem_of_mem hx
  rw[jw]at hF
  have h4:i<(r.fam Ls s).length:=by rw[hr.len _ _ hl,<-hl];exact hi
  have h5:=congrArg (fun l=>l[i]?) hF
  have h6:obj Ls[i]=some (r.fam Ls s)[i]:=by simpa[hi,h4]using h5
  rw[h6]
  exact hr.closF _ _ _ hl (fun x hx=>gQ.2 hx) _ (List.getElem_mem h4)
 have Yg:b8 Ls R=false:=by
  cases h:b8 Ls R with
  |false=>rfl
  |true=>exact(hR (gQ.1 h)).elim
 have hp:b7 Ls t (eD 0 (r.fam (LR r.m) (s+1))) obj=cq Ls (r.fam Ls (s+1)) obj:=by
  rw[x9 (Ls:=Ls) (by rw[hr.len _ _ (va _),hl]) fun i hi=>by rw[Nat.zero_add];exact kb hi,hr.renF _ _ _ (va _)]
  have :(LR r.m).map (cout Ls t)=Ls:=by rw[<-hl];exact aaY Ls t
  rw[this]
 unfold Lp.rc at h0
 simp only[YSpec.toSpec,h0,e1,e2,e3,e4,jA,bO,fO,Yg,fresh,List.all_nil,Bool.and_self,Bool.not_false,hr.args,decide_true,hr.psz Ls hl,cG,cY,hp,and_self]
 rfl
def Lp.e(r:Lp):Nat:=match (List.range r.n).find? (fun s=>(r.st s).isSome)with | some s=>s+1 | none=>r.n
def Lp.pd(r:Lp):Option Code:=match (List.range r.n).find? (fun s=>(r.st s).isSome)with | some s=>r.st s | none=>none
def Lp.fin(r:Lp)(Ls:List Name):O:=r.rc Ls (if r.pd.isNone then .ready else .done) r.pd
def Lp.it(r:Lp)(caps:List V):CSpec where
 pre:=fun os ds=>os=r.rc (LI r.m) .ready none::r.fam (LI r.m) 0/\ds=.yld [0,1]::caps.map .v
 out:=fun _ _=>⟨(0,r.fin (LI r.m))::eD 1 (r.fam (LI r.m) r.e),[],.tup []⟩
theorem Lp.it_app{r:Lp}(hr:r.Ok){caps:List V}{obj:Name->Option O}{t R:Name}{Ls:List Name}(hl:Ls.length=r.m)(hn:Ls.Nodup)(hR:R∉Ls)
 (h0:obj R=some (r.rc Ls .ready none)) (hF:cS obj Ls (r.fam Ls 0)):
 (r.it caps).toSpec.app obj t (.yld R::caps.map .v)=⟨True,.tup [],cq Ls (r.fam Ls r.e) (upd obj R (some (r.fin Ls)))⟩:=by
 have wh:(R::Ls).Nodup:=List.nodup_cons.2 ⟨hR,hn⟩
 have jA:reach obj (.yld R::caps.map .v)=R::Ls:=by
  have h1:cJ (.yld R::caps.map .v)=[R]:=by
   have :=Uo [.yld R] caps
   simpa[cJ,re]using this
  unfold reach
  rw[h1]
  show dA obj (2999+1) [R] []=R::Ls
  unfold Lp.rc at h0
  simp only[dA,b8,List.any_nil,Bool.false_eq_true,if_false,h0,l9,List.append_nil,List.nil_append]
  have :=hr.reach Ls 0 obj [R] (2999-r.fu) hl hn (fun x hx=>by simp only[List.mem_singleton];rintro rfl;exact hR hx) hF
  rw[show 2999-r.fu+r.fu=2999 by have:=hr.fuel;omega]at this
  simpa using this
 have Er:∀ s,cS obj Ls (r.fam Ls s)->Ls.map (bZ (R::Ls) obj)=(r.fam Ls s).map (O.ren (cin (R::Ls))):=by
  intro s hF
  rw[jw]at hF
  refine List.ext_getElem (by simp[hr.len _ _ hl,hl]) fun i h1 h2=>?_
  have h3:i<Ls.length:=by simpa using h1
  have h4:i<(r.fam Ls s).length:=by rw[hr.len _ _ hl,<-hl];exact h3
  have h5:=congrArg (fun l=>l[i]?) hF
  have h6:obj Ls[i]=some (r.fam Ls s)[i]:=by simpa[h3,h4]using h5
  simp only[List.getElem_map,bZ,h6]
 have e1:cg obj (.yld R::caps.map .v)=r.rc (LI r.m) .ready none::r.fam (LI r.m) 0:=by
  unfold cg
  rw[jA,List.map_cons,Er 0 hF,hr.renF _ _ _ hl,xb hn hR,hl]
  congr 1
  unfold Lp.rc at h0 |-
  simp only[bZ,h0,O.ren]
  rw[hr.renE _ _ hl,xb hn hR,hl]
 have e2:cH obj (.yld R::caps.map .v)=.yld [0,1]::caps.map .v:=by
  unfold cH
  rw[jA]
  simp only[D.renL,D.ren,Tp,cin,idx,if_true]
 have cG:(r.it caps).pre (r.rc (LI r.m) .ready none::r.fam (LI r.m) 0) (.yld [0,1]::caps.map .v):=⟨rfl,rfl⟩
 have fF:∀ os ds,(r.it caps).out os ds=⟨(0,r.fin (LI r.m))::eD 1 (r.fam (LI r.m) r.e),[],.tup []⟩:=fun _ _=>rfl
 have uo:∀ x∈Ls,b8 (R::Ls) x=true:=fun x hx=>gQ.2 (List.mem_cons_of_mem _ hx)
 have fO:shut obj (R::Ls)=true:=by
  unfold shut
  rw[List.all_eq_true]
  intro x hx
  rcases List.mem_cons.1 hx with rfl | hx
  ·rw[h0]
   unfold Lp.rc
   exact hr.closE _ _ hl uo
  obtain⟨i,hi,rfl⟩:=List.getElem_of_mem hx
  rw[jw]at hF
  have h4:i<(r.fam Ls 0).length:=by rw[hr.len _ _ hl,<-hl];exact hi
  have h5:=congrArg (fun l=>l[i]?) hF
  have h6:obj Ls[i]=some (r.fam Ls 0)[i]:=by simpa[hi,h4]using h5
  rw[h6]
  exact hr.closF _ _ _ hl uo _ (List.getElem_mem h4)
 have bO:D.closL (b8 (R::Ls)) (.yld R::caps.map .v)=true:=by
  have :=NV (b8 (R::Ls)) caps [.yld R]
  simp only[List.singleton_append]at this
  rw[this]
  simp[D.closL,D.clos,b8]
 have hp:∀ obj',b7 (R::Ls) t (eD 1 (r.fam (LI r.m) r.e)) obj'=cq Ls (r.fam Ls r.e) obj':=by
  intro obj'
  rw[x9 (Ls:=Ls) (by rw[hr.len _ _ (dm _),hl]) fun i hi=>by
   rw[Nat.add_comm,List.getD_cons_succ];exact kb hi,hr.renF _ _ _ (dm _)]
  have :(LI r.m).map (cout (R::Ls) t)=Ls:=by rw[<-hl];exact Aq R Ls t
  rw[this]
 have hf:O.ren (cout (R::Ls) t) (r.fin (LI r.m))=r.fin Ls:=by
  unfold Lp.fin Lp.rc
  simp only[O.ren]
  rw[hr.renE _ _ (dm _)]
  have :(LI r.m).map (cout (R::Ls) t)=Ls:=by rw[<-hl];exact Aq R Ls t
  rw[this]
 simp only[CSpec.toSpec,e1,e2,jA,fF,fO,bO,fresh,List.all_nil,Bool.and_self,cG,and_self,cY,b7,List.getD_cons_zero,hf,hp,D.ren,D.renL]
theorem Lp.it_end{P:Program}{r:Lp}(hr:r.Ok){σ:S}(h0:σ.obj [0,1]=some (r.fin (LI r.m)))(h1:cS σ.obj (LI r.m) (r.fam (LI r.m) r.e)):
 (bS P σ []).ok/\(bS P σ []).d=.tup []/\gG (r.rc (LI r.m) .ready none::r.fam (LI r.m) 0) ⟨(0,r.fin (LI r.m))::eD 1 (r.fam (LI r.m) r.e),[],.tup []⟩ σ:=by
 have nA:=hr.len (LI r.m) 0 (dm _)
 have hle:=hr.len (LI r.m) r.e (dm _)
 have fH:∀ i (hi:i<(r.fam (LI r.m) r.e).length),σ.obj [1+i,1]=some (r.fam (LI r.m) r.e)[i]:=by
  intro i hi
  have h3:=yt h1 i (by rw[dm];omega) hi
  rw[Nat.add_comm]
  simpa only[LI,List.getElem_map,List.getElem_range]using h3
 have p6:∀ x∈LI r.m,dt (r.m+1) [] x=true:=by
  intro x hx
  obtain⟨i,hi,rfl⟩:=List.mem_map.1 hx
  have :=List.mem_range.1 hi
  simp[dt]
  omega
 refine⟨fun x hx=>by simp at hx,rfl,⟨⟨?_,Cd (F:=r.fam (LI r.m) r.e) (by omega) (fun i hi o=>by simp only[eO];rw[if_neg (by omega)]) fH⟩,trivial,?_⟩⟩
 ·simp only[eO,if_true]
  rw[h0,CE (by omega)]
 have dP:∀ (F':List O) (k:Nat),(∀ o∈F',O.clos (dt (r.m+1) []) o=true)->k+F'.length<=r.m+1->((eD k F').all fun x=>O.clos (dt (r.m+1) []) x.2&&decide (x.1<r.m+1))=true:=by
  intro F'
  induction F' with
  |nil=>intros;rfl
  |cons f fs ih=>
   intro k hf hk
   simp only[List.length_cons]at hk
   simp only[eD,List.all_cons,Bool.and_eq_true,decide_eq_true_eq]
   exact⟨⟨hf f (by simp),by omega⟩,by have:=ih (k+1) (fun o ho=>hf o (by simp[ho])) (by omega);simpa using this⟩
 have h5:=dP (r.fam (LI r.m) r.e) 1 (hr.closF _ _ _ (dm _) p6) (by omega)
 have h6:O.clos (dt (r.m+1) []) (r.fin (LI r.m))=true:=hr.closE _ _ (dm _) p6
 have hlen:(r.rc (LI r.m) .ready none::r.fam (LI r.m) 0).length=r.m+1:=by rw[List.length_cons,nA]
 have h7:D.clos (dt (r.m+1) []) (.tup [])=true:=rfl
 simp only[hlen,h7,List.all_cons,h6,h5,List.all_nil,List.map_nil,distinct,Bool.and_self,Bool.true_and,Bool.and_true]
 simp
theorem ahq{P:Program}{Γ:FuncId->Option Spec}(hΓ:∀ f s,Γ f=some s->ak P f s){r:Lp}(hr:r.Ok){caps:List V}{g:Operand}{ps:Array Tmp}{asg body:Code}{σ:S}{rest:List Code}{K:Exit->S->Prop}(k k':Nat){f:FuncId}{Ls:List Name}
 (hc:cr σ g=true) (hg:ah σ g=.v (.clo (.func f) [] caps)) (aj:f≠yid) (hs:Γ f=some (r.it caps).toSpec) (mi:σ.obj (k::σ.pre)=none)
 (he:(List.range σ.nt).map σ.env=r.env Ls) (eZ:ps.toList=r.ps) (ha:asg=r.asg) (hb:body=r.body) (hl:Ls.length=r.m) (hn:Ls.Nodup) (hR:(k::σ.pre)∉Ls) (hF:cS σ.obj Ls (r.fam Ls 0))
 (hK:∀ o:O,tk (fV (fun σ'=>CL P rest σ' K) K) { σ with obj:=upd (cq Ls (r.fam Ls r.e) σ.obj) (k::σ.pre) (some o) } r.pd):CL P (.rangeFunc g ps asg body::rest) σ K:=by
 subst ha
 subst hb
 generalize mw:k::σ.pre=R at *
 have Ew:∀ x∈Ls,(upd σ.obj R (some (r.rc Ls .ready none))) x=σ.obj x:=fun x hx=>aH _ _ _ (by rintro rfl;exact hR hx)
 have mu:=Lp.it_app hr (caps:=caps) (t:=k'::σ.pre) hl hn hR (aC σ.obj R (some (r.rc Ls .ready none))) (IT hF Ew)
 have we:O.loop ((List.range σ.nt).map σ.env) ps.toList r.asg r.body .ready none=r.rc Ls .ready none:=by unfold Lp.rc;rw[he,eZ]
 have j9:ep (ah σ g) [.yld R]=.yld R::caps.map .v:=by rw[hg];rfl
 have cV:fw (ah σ g)=some f:=by rw[hg];simp[fw,aj]
 have Dl:∀ (F:List O) (obj:Name->Option O) (a b:Option O),upd (cq Ls F (upd obj R a)) R b=upd (cq Ls F obj) R b:=by
  intro F obj a b
  funext x
  by_cases h:x=R
  ·subst h;rw[aC,aC]
  ·rw[aH _ _ _ h,aH _ _ _ h]
   have :∀ (Ls:List Name) (F:List O) (o1 o2:Name->Option O),o1 x=o2 x->cq Ls F o1 x=cq Ls F o2 x:=by
    intro Ls
    induction Ls with
    |nil=>intro F o1 o2 h;simpa[cq]using h
    |cons y ys ih=>
     intro F o1 o2 h
     cases F with
     |nil=>simpa[cq]using h
     |cons f fs=>
      simp only[cq]
      refine ih fs _ _ ?_
      by_cases e:x=y
      ·subst e;rw[aC,aC]
      ·rw[aH _ _ _ e,aH _ _ _ e,h]
   exact this Ls F _ _ (aH _ _ _ h)
 refine FV hΓ k k' hc cV aj hs (by rw[mw];exact mi) ?_ ?_
 ·rw[mw,j9,we,mu];trivial
 ·rw[mw,j9,we,mu]
  have j7:cq Ls (r.fam Ls r.e) (upd (upd σ.obj R (some (r.rc Ls .ready none))) R (some (r.fin Ls))) R=some (r.fin Ls):=by rw[pt hR,aC]
  have kH:jr (cq Ls (r.fam Ls r.e) (upd (upd σ.obj R (some (r.rc Ls .ready none))) R (some (r.fin Ls)))) R=
      upd (cq Ls (r.fam Ls r.e) σ.obj) R (some (r.rc Ls .exhausted r.pd)):=by
   unfold jr
   rw[j7]
   unfold Lp.fin Lp.rc
   simp only[Dl]
  refine Jh r.pd j7 ?_
  rw[kH]
  exact hK (r.rc Ls .exhausted r.pd)
theorem Z5:∀ (n:Nat) (obj:Name->Option O) (x:V),ar n obj (.v x)=⟨True,x,obj⟩
 | 0,_,_=>rfl
 |_+1,_,_=>rfl
theorem ME(n:Nat)(obj:Name->Option O):∀ l:List V,(aJ (ar n) obj (l.map .v)).ok/\(aJ (ar n) obj (l.map .v)).xs=l/\(aJ (ar n) obj (l.map .v)).obj=obj
 |[]=>⟨trivial,rfl,rfl⟩
 |x::r=>by
  obtain⟨h1,h2,h3⟩:=ME n obj r
  simp only[List.map_cons,aJ,Z5]
  exact⟨⟨trivial,h1⟩,by rw[h2],h3⟩
@[go_sem] theorem qn(dom:Name->Bool)(l:List V):D.closL dom (l.map .v)=true:=by
  have :=NV dom l []
  simpa[D.closL]using this
theorem Gh:∀ l:List V,lF (l.map .v)=some l
 |[]=>rfl
 |x::r=>by
  simp only[List.map_cons,lF,qs,Gh r]
attribute [go_sem] Gh
theorem QE{σ:S}(nm:Name)(l:List V)(ho:σ.obj nm=some (.box (l.map .v))):cI σ { σ with obj:=upd σ.obj nm (some (.fbox l)) }:=by
 intro G φ m a w hC
 obtain⟨h1,h2,h3⟩:=ME 0 σ.obj l
 have e:ar 1 σ.obj (.ref nm 0)=⟨(aJ (ar 0) σ.obj (l.map .v)).ok/\(aJ (ar 0) σ.obj (l.map .v)).obj nm=some (.box (l.map .v)),.ptr ((aJ (ar 0) σ.obj (l.map .v)).xs.drop 0),
     upd (aJ (ar 0) σ.obj (l.map .v)).obj nm (some (.fbox (aJ (ar 0) σ.obj (l.map .v)).xs))⟩:=by
  simp only[ar,ho]
 obtain⟨m',k1,k2,_⟩:=mz 1 G φ m σ a w hC (.ref nm 0) _ (.ref nm 0 ⟨_,ho,rfl⟩) (by rw[e];exact⟨h1,by rw[h3];exact ho⟩)
 rw[e]at k2
 simp only[h2,h3]at k2
 exact⟨φ,m',k2⟩
theorem dS{σ τ:S}(nm:Name)(l:List V)(ho:σ.obj nm=some (.box (l.map .v)))(ks:List Nat)(ns:List Name)
 (h:fv ks ns ⟨σ.nt,σ.env,upd σ.obj nm (some (.fbox l)),σ.pre,σ.base⟩) (hk:fD ks ns ⟨σ.nt,σ.env,upd σ.obj nm (some (.fbox l)),σ.pre,σ.base⟩=τ):cI σ τ:=
 (QE nm l ho).trans (mV ks ns h hk)
structure aR (α:Type) where
 (a b c d e f:α)
 deriving Inhabited,DecidableEq
def aR.get{α:Type}(s:aR α):Nat->α
 | 0=>s.a
 | 1=>s.b
 | 2=>s.c
 | 3=>s.d
 | 4=>s.e
 |_=>s.f
def fM{α:Type}(g:Nat->α):aR α:=⟨g 0,g 1,g 2,g 3,g 4,g 5⟩
def aR.set{α:Type}(s:aR α)(i:Nat)(x:α):aR α:=fM fun j=>if j=i then x else s.get j
def aR.L{α β:Type}(s:aR α)(e:α->β):List β:=[e s.a,e s.b,e s.c,e s.d,e s.e,e s.f]
theorem afo{α:Type}(s:aR α):fM s.get=s:=rfl
theorem aR.L_len{α β:Type}(s:aR α)(e:α->β):(s.L e).length=6:=rfl
theorem aR.L_get{α β:Type}(s:aR α)(e:α->β)(z:β):∀ {i:Nat},i<6->(s.L e).getD i z=e (s.get i)
 | 0,_=>rfl
 | 1,_=>rfl
 | 2,_=>rfl
 | 3,_=>rfl
 | 4,_=>rfl
 | 5,_=>rfl
 |i+6,h=>absurd h (by omega)
theorem aR.get_set{α:Type}(s:aR α){i j:Nat}(x:α)(hi:i<6):(s.set i x).get i=x/\(j<6->j≠i->(s.set i x).get j=s.get j):=by
 constructor
 ·match i,hi with
  | 0,_=>rfl
  | 1,_=>rfl
  | 2,_=>rfl
  | 3,_=>rfl
  | 4,_=>rfl
  | 5,_=>rfl
 ·intro hj aj
  match j,hj with
  | 0,_=>show (if 0=i then _ else _)=_;rw[if_neg aj]
  | 1,_=>show (if 1=i then _ else _)=_;rw[if_neg aj]
  | 2,_=>show (if 2=i then _ else _)=_;rw[if_neg aj]
  | 3,_=>show (if 3=i then _ else _)=_;rw[if_neg aj]
  | 4,_=>show (if 4=i then _ else _)=_;rw[if_neg aj]
  | 5,_=>show (if 5=i then _ else _)=_;rw[if_neg aj]
theorem Rs{α:Type}{s t:aR α}(h:∀ i,i<6->s.get i=t.get i):s=t:=by
 obtain⟨a,b,c,d,e,f⟩:=s
 obtain⟨a',b',c',d',e',f'⟩:=t
 have h0:a=a':=h 0 (by omega)
 have h1:b=b':=h 1 (by omega)
 have h2:c=c':=h 2 (by omega)
 have h3:d=d':=h 3 (by omega)
 have h4:e=e':=h 4 (by omega)
 have h5:f=f':=h 5 (by omega)
 subst h0 h1 h2 h3 h4 h5
 rfl
structure Par where
 (no pa:Int)
 deriving Inhabited,DecidableEq
structure Stk where
 ho:List Int
 un:aR (List Par)
 (se ta:aR Int)
 deriving Inhabited,DecidableEq
structure Pg where
 co:Int
 st:Stk
 su:Int
 deriving Inhabited,DecidableEq
structure Dk where
 me:Int
 now:Stk
 (pa pb:Pg)
 wet:Int
 deriving Inhabited,DecidableEq
structure Bag where
 (fr to:Int)
 ps:List Par
 ta:Int
 deriving Inhabited,DecidableEq
def Dk.pg(d:Dk):Nat->Pg
 | 0=>d.pa
 |_=>d.pb
def dh:V->Int
 | .int _ n=>n
 |_=>0
def NF:V->Bool
 | .bool b=>b
 |_=>false
def w7:V->List Int
 | .sl l=>l.map dh
 |_=>[]
def encPa(p:Par):V:=.agg [vInt p.no,vInt p.pa]
def jH:V->Par
 | .agg [.int _ a,.int _ b]=>⟨a,b⟩
 |_=>default
abbrev gx (l:List Int):V:=.sl (l.map vInt)
abbrev rowP (l:List Par):V:=.sl (l.map encPa)
def nK:V->List Par
 | .sl l=>l.map jH
 |_=>[]
def aA(s:Stk):List V:=gx s.ho::(s.un.L rowP++(s.se.L vInt++s.ta.L vInt))
def ft(l:List V):Stk:=⟨w7 (l.getD 0 default),fM fun i=>nK (l.getD (1+i) default),fM fun i=>dh (l.getD (7+i) default),fM fun i=>dh (l.getD (13+i) default)⟩
def cC(p:Pg):List V:=vInt p.co::(aA p.st++[vInt p.su])
def uR(l:List V):Pg:=⟨dh (l.getD 0 default),ft ((l.drop 1).take 19),dh (l.getD 20 default)⟩
def an(d:Dk):List V:=vInt d.me::(aA d.now++(cC d.pa++(cC d.pb++[vInt d.wet])))
def NC(l:List V):Dk:=⟨dh (l.getD 0 default),ft ((l.drop 1).take 19),uR ((l.drop 20).take 21),uR ((l.drop 41).take 21),dh (l.getD 62 default)⟩
def aX(b:Bag):List V:=[vInt b.fr,vInt b.to,rowP b.ps,vInt b.ta]
def V.L:V->List V
 | .agg l=>l
 |_=>[]
def nI(s:Stk):V:=.agg (aA s)
def FB(v:V):Stk:=ft v.L
def wZ(p:Pg):V:=.agg (cC p)
def FC(v:V):Pg:=uR v.L
def kS(d:Dk):V:=.agg (an d)
def Ak(v:V):Dk:=NC v.L
def kT(b:Bag):V:=.agg (aX b)
def w8:V->Bag
 | .agg [.int _ a,.int _ b,.sl l,.int _ c]=>⟨a,b,l.map jH,c⟩
 |_=>default
theorem Ct{α:Type}{e:α->V}{d:V->α}(h:∀ a,d (e a)=a)(l:List α):(l.map e).map d=l:=by
 rw[List.map_map]
 have :d∘e=id:=funext h
 rw[this,List.map_id]
@[go_sem] theorem NA(l:List Int):(l.map vInt).map dh=l:=Ct (fun _=>rfl) l
theorem aaI(p:Par):jH (encPa p)=p:=rfl
@[go_sem] theorem FD(l:List Par):(l.map encPa).map jH=l:=Ct aaI l
theorem FE(l:List Int):w7 (gx l)=l:=NA l
theorem aaH(l:List Par):nK (rowP l)=l:=FD l
theorem oY(s:Stk):ft (aA s)=s:=by
 obtain⟨h,u,a,b⟩:=s
 obtain⟨u0,u1,u2,u3,u4,u5⟩:=u
 show (⟨w7 (gx h),⟨nK (rowP u0),nK (rowP u1),nK (rowP u2),nK (rowP u3),nK (rowP u4),nK (rowP u5)⟩,a,b⟩:Stk)=_
 simp only[FE,aaH]
theorem Aj(p:Pg):uR (cC p)=p:=by
 show (⟨p.co,ft (aA p.st),p.su⟩:Pg)=p
 rw[oY]
theorem NB(d:Dk):NC (an d)=d:=by
 show (⟨d.me,ft (aA d.now),uR (cC d.pa),uR (cC d.pb),d.wet⟩:Dk)=d
 rw[oY,Aj,Aj]
@[go_sem] theorem agY(s:Stk):FB (.agg (aA s))=s:=oY s
@[go_sem] theorem ag0(p:Pg):FC (.agg (cC p))=p:=Aj p
@[go_sem] theorem ag2(d:Dk):Ak (.agg (an d))=d:=NB d
@[go_sem] theorem agX(s:Stk):FB (nI s)=s:=oY s
@[go_sem] theorem agZ(p:Pg):FC (wZ p)=p:=Aj p
@[go_sem] theorem aaJ(d:Dk):Ak (kS d)=d:=NB d
theorem Al(b:Bag):w8 (kT b)=b:=by
 obtain⟨x,y,l,z⟩:=b
 show (⟨x,y,(l.map encPa).map jH,z⟩:Bag)=_
 rw[FD]
@[go_sem] theorem ag4(b:Bag):w8 (.agg (aX b))=b:=Al b
@[go_sem] theorem ag3(a b c:Int)(l:List Par):w8 (.agg [vInt a,vInt b,rowP l,vInt c])=⟨a,b,l,c⟩:=Al ⟨a,b,l,c⟩
@[go_sem] theorem ag1(l:List Dk):(l.map kS).map Ak=l:=Ct aaJ l
@[go_sem] theorem ago(p:Par):(⟨p.no,p.pa⟩:Par)=p:=rfl
@[go_sem] theorem jO(s:Stk):(aA s).length=19:=rfl
@[go_sem] theorem afA(p:Pg):(cC p).length=21:=rfl
@[go_sem] theorem qi(d:Dk):(an d).length=63:=rfl
@[go_sem] theorem ahT(b:Bag):(aX b).length=4:=rfl
@[go_sem] theorem afg(s:Stk):(aA s).take 19=aA s:=rfl
@[go_sem] theorem afB(p:Pg):(cC p).take 21=cC p:=rfl
@[go_sem] theorem agN(d:Dk):(an d).take 63=an d:=rfl
@[go_sem] theorem ahU(b:Bag):(aX b).take 4=aX b:=rfl
@[go_sem] theorem afh(s:Stk):(aA s).getD 0 default=gx s.ho:=rfl
@[go_sem] theorem afd(s:Stk):((aA s).drop 1).take 6=s.un.L rowP:=rfl
@[go_sem] theorem aff(s:Stk):((aA s).drop 7).take 6=(s.se.L id).map vInt:=rfl
@[go_sem] theorem afe(s:Stk):((aA s).drop 13).take 6=(s.ta.L id).map vInt:=rfl
theorem dw(s:Stk){i:Nat}(h:i<6):(aA s).getD (1+i) default=rowP (s.un.get i):=by
 match i,h with
 | 0,_=>rfl
 | 1,_=>rfl
 | 2,_=>rfl
 | 3,_=>rfl
 | 4,_=>rfl
 | 5,_=>rfl
theorem eh(s:Stk){i:Nat}(h:i<6):(aA s).getD (7+i) default=vInt (s.se.get i):=by
 match i,h with
 | 0,_=>rfl
 | 1,_=>rfl
 | 2,_=>rfl
 | 3,_=>rfl
 | 4,_=>rfl
 | 5,_=>rfl
theorem dV(s:Stk){i:Nat}(h:i<6):(aA s).getD (13+i) default=vInt (s.ta.get i):=by
 match i,h with
 | 0,_=>rfl
 | 1,_=>rfl
 | 2,_=>rfl
 | 3,_=>rfl
 | 4,_=>rfl
 | 5,_=>rfl
@[go_sem] theorem afD(p:Pg):(cC p).getD 0 default=vInt p.co:=rfl
@[go_sem] theorem afC(p:Pg):(cC p).getD 20 default=vInt p.su:=rfl
@[go_sem] theorem afz(p:Pg):((cC p).drop 1).take 19=aA p.st:=rfl
@[go_sem] theorem agR(d:Dk):(an d).getD 0 default=vInt d.me:=rfl
@[go_sem] theorem agO(d:Dk):(an d).getD 62 default=vInt d.wet:=rfl
@[go_sem] theorem uN(d:Dk):((an d).drop 1).take 19=aA d.now:=rfl
@[go_sem] theorem agL(d:Dk):((an d).drop 20).take 21=cC d.pa:=rfl
@[go_sem] theorem agK(d:Dk):((an d).drop 41).take 21=cC d.pb:=rfl
@[go_sem] theorem ahY(b:Bag):(aX b).getD 0 default=vInt b.fr:=rfl
@[go_sem] theorem ahX(b:Bag):(aX b).getD 1 default=vInt b.to:=rfl
@[go_sem] theorem ahW(b:Bag):(aX b).getD 2 default=rowP b.ps:=rfl
@[go_sem] theorem ahV(b:Bag):(aX b).getD 3 default=vInt b.ta:=rfl
def Ny:V->ByteArray
 | .str s=>s
 |_=>.empty
def iI:En Int:=⟨vInt,dh⟩
def iB:En Bool:=⟨.bool,NF⟩
def tT:En ByteArray:=⟨.str,Ny⟩
def dJ:En (List Int):=⟨fun l=>.sl (l.map vInt),w7⟩
def vO:En Par:=⟨encPa,jH⟩
def kG:En (List Par):=⟨fun l=>.sl (l.map encPa),nK⟩
def iD:En Stk:=⟨nI,FB⟩
def ru:En Pg:=⟨wZ,FC⟩
def dK:En Dk:=⟨kS,Ak⟩
def nr:En Bag:=⟨kT,w8⟩
attribute [go_sem] iI iB tT dJ vO kG iD ru dK nr dh NF w7 nK Ny encPa jH nI wZ kS kT
def aT(n lo hi:Int):Bool:=decide (lo<=n)&&decide (n<=hi)
end Go.Eng
set_option linter.unusedVariables false
namespace Go.Proofs
open Go Go.Shelf Go.RowKit
def Tryd.lays171_ren:Shelf.Ren:=⟨fun | 171=>87 | 243=>96 | 246=>100 | 283=>102 | 284=>103 | 285=>104 | 286=>105 | 129=>108 | 317=>107 | 318=>109 | 319=>110 | 320=>111 | 337=>112 | 338=>113 | n=>n,fun | 3=>3 | 9=>9 | 2=>2 | 4=>4 | 171=>139 | 0=>0 | 53=>140 | 37=>112 | 5=>5 | 173=>143 | 212=>147 | 51=>148 | 20=>20 | 213=>149 | 46=>113 | 232=>152 | 233=>153 | n=>n,fun | 17=>0 | 18=>1 | 19=>2 | n=>n⟩
theorem Tryd.lays171:LaysM.n171 Tryd.prog Tryd.lays171_ren:={
 mixed:=by kernel_rfl,
 f129:=Tryd.func108.trans (congrArg some (by kernel_rfl)),
 f171:=Tryd.func87.trans (congrArg some (by kernel_rfl)),
 f243:=Tryd.func96.trans (congrArg some (by kernel_rfl)),
 f246:=Tryd.func100.trans (congrArg some (by kernel_rfl)),
 f283:=Tryd.func102.trans (congrArg some (by kernel_rfl)),
 f284:=Tryd.func103.trans (congrArg some (by kernel_rfl)),
 f285:=Tryd.func104.trans (congrArg some (by kernel_rfl)),
 f286:=Tryd.func105.trans (congrArg some (by kernel_rfl)),
 f317:=Tryd.func107.trans (congrArg some (by kernel_rfl)),
 f318:=Tryd.func109.trans (congrArg some (by kernel_rfl)),
 f319:=Tryd.func110.trans (congrArg some (by kernel_rfl)),
 f320:=Tryd.func111.trans (congrArg some (by kernel_rfl)),
 f337:=Tryd.func112.trans (congrArg some (by kernel_rfl)),
 f338:=Tryd.func113.trans (congrArg some (by kernel_rfl)),
 t0:=Tryd.underlying0,
 a0:=Tryd.isAgg0,
 z0:=Tryd.sizeOf0,
 v0:=Tryd.zeroValue0,
 t2:=Tryd.underlying2,
 a2:=Tryd.isAgg2,
 z2:=Tryd.sizeOf2,
 v2:=Tryd.zeroValue2,
 t3:=Tryd.underlying3,
 a3:=Tryd.isAgg3,
 z3:=Tryd.sizeOf3,
 v3:=Tryd.zeroValue3,
 t4:=Tryd.underlying4,
 a4:=Tryd.isAgg4,
 z4:=Tryd.sizeOf4,
 v4:=Tryd.zeroValue4,
 t5:=Tryd.underlying5,
 a5:=Tryd.isAgg5,
 z5:=Tryd.sizeOf5,
 v5:=Tryd.zeroValue5,
 t9:=Tryd.underlying9,
 a9:=Tryd.isAgg9,
 z9:=Tryd.sizeOf9,
 v9:=Tryd.zeroValue9,
 t20:=Tryd.underlying20,
 a20:=Tryd.isAgg20,
 z20:=Tryd.sizeOf20,
 v20:=Tryd.zeroValue20,
 t37:=Tryd.underlying112,
 a37:=Tryd.isAgg112,
 z37:=Tryd.sizeOf112,
 v37:=Tryd.zeroValue112,
 t46:=Tryd.underlying113,
 a46:=Tryd.isAgg113,
 z46:=Tryd.sizeOf113,
 v46:=Tryd.zeroValue113,
 t51:=Tryd.underlying148,
 a51:=Tryd.isAgg148,
 z51:=Tryd.sizeOf148,
 v51:=Tryd.zeroValue148,
 t53:=Tryd.underlying140,
 a53:=Tryd.isAgg140,
 z53:=Tryd.sizeOf140,
 v53:=Tryd.zeroValue140,
 t171:=Tryd.underlying139,
 a171:=Tryd.isAgg139,
 z171:=Tryd.sizeOf139,
 v171:=Tryd.zeroValue139,
 t173:=Tryd.underlying143,
 a173:=Tryd.isAgg143,
 z173:=Tryd.sizeOf143,
 v173:=Tryd.zeroValue143,
 t212:=Tryd.underlying147,
 a212:=Tryd.isAgg147,
 z212:=Tryd.sizeOf147,
 v212:=Tryd.zeroValue147,
 t213:=Tryd.underlying149,
 a213:=Tryd.isAgg149,
 z213:=Tryd.sizeOf149,
 t232:=Tryd.underlying152,
 a232:=Tryd.isAgg152,
 z232:=Tryd.sizeOf152,
 v232:=Tryd.zeroValue152,
 t233:=Tryd.underlying153,
 a233:=Tryd.isAgg153,
 z233:=Tryd.sizeOf153,
 v233:=Tryd.zeroValue153,
 g17:=by kernel_rfl,
 g18:=by kernel_rfl,
 g19:=by kernel_rfl,
 i0:=by kernel_rfl,
 i2:=by kernel_rfl,
 i3:=by kernel_rfl,
 i4:=by kernel_rfl,
 i5:=by kernel_rfl,
 i9:=by kernel_rfl,
 i20:=by kernel_rfl,
 i37:=by kernel_rfl,
 i46:=by kernel_rfl,
 i51:=by kernel_rfl,
 i53:=by kernel_rfl,
 i171:=by kernel_rfl,
 i173:=by kernel_rfl,
 i212:=by kernel_rfl,
 i232:=by kernel_rfl,
 i233:=by kernel_rfl,
 m17:=by kernel_rfl,
 m18:=by kernel_rfl,
 m19:=by kernel_rfl }
def Tryd.lays169_ren:Shelf.Ren:=⟨fun | 169=>88 | n=>n,fun | 70=>124 | 9=>9 | 0=>0 | 72=>126 | 37=>112 | 127=>133 | 3=>3 | 5=>5 | n=>n,fun | n=>n⟩
theorem Tryd.lays169:Lays.n169 Tryd.prog Tryd.lays169_ren:={
 mixed:=by kernel_rfl,
 f169:=Tryd.func88.trans (congrArg some (by kernel_rfl)),
 t0:=Tryd.underlying0,
 a0:=Tryd.isAgg0,
 z0:=Tryd.sizeOf0,
 v0:=Tryd.zeroValue0,
 t3:=Tryd.underlying3,
 a3:=Tryd.isAgg3,
 z3:=Tryd.sizeOf3,
 v3:=Tryd.zeroValue3,
 t9:=Tryd.underlying9,
 a9:=Tryd.isAgg9,
 z9:=Tryd.sizeOf9,
 v9:=Tryd.zeroValue9,
 t37:=Tryd.underlying112,
 a37:=Tryd.isAgg112,
 z37:=Tryd.sizeOf112,
 v37:=Tryd.zeroValue112,
 t70:=Tryd.underlying124,
 a70:=Tryd.isAgg124,
 z70:=Tryd.sizeOf124,
 v70:=Tryd.zeroValue124,
 t72:=Tryd.underlying126,
 a72:=Tryd.isAgg126,
 z72:=Tryd.sizeOf126,
 v72:=Tryd.zeroValue126,
 t127:=Tryd.underlying133,
 a127:=Tryd.isAgg133,
 z127:=Tryd.sizeOf133,
 v127:=Tryd.zeroValue133 }
theorem Tryd.bldX:Builder.Extra Tryd.prog Tryd.lays169_ren:={
 sizeBuilder:=by kernel_rfl,
 liesBuilder:=by kernel_rfl,
 t5:=Tryd.underlying5,
 a5:=Tryd.isAgg5,
 z5:=Tryd.sizeOf5,
 v5:=Tryd.zeroValue5,
 infoByte:=by kernel_rfl,
 cellsByte:=by kernel_rfl,
 sizeByte:=by kernel_rfl,
 neB5:=by decide }
end Go.Proofs
namespace Go.Eng
open Go Go.Proofs Go.Shelf Go.RowKit
set_option maxHeartbeats 1000000 in
set_option maxRecDepth 100000 in
theorem abz(b:Nat)(w:World)(h0:w.cell? ⟨b,0,none⟩=some (.pointer (some ⟨b,0,none⟩))):
 Calls Tryd.prog 95 #[.pointer (some ⟨b,0,none⟩)] w fun e w'=>e=.returned (.tuple #[])/\w'=w:=by
 obtain⟨j,hj,_⟩:=Option.map_eq_some_iff.1 Tryd.bldX.sizeBuilder
 have mixed:Tryd.prog.follows Departure.mixedOrders=true:=by kernel_rfl
 go_enter Tryd.func95,Tryd.ntmps95
 go_wp2
 rw[Lib.run_neq_ptr_same w _ Tryd.underlying124 hj]
 go_wp2
 go_end0
 exact⟨rfl,rfl⟩
set_option maxHeartbeats 1000000 in
set_option maxRecDepth 100000 in
theorem abB(b:Nat)(w:World)(h0:w.cell? ⟨b,0,none⟩=some (.pointer none))(fO:w.shape? b=some (126,2))(pY:w.frozen? ⟨b,0,none⟩=false):
 Calls Tryd.prog 95 #[.pointer (some ⟨b,0,none⟩)] w fun e w'=>e=.returned (.tuple #[])/\w'=w.setCell ⟨b,0,none⟩ (.pointer (some ⟨b,0,none⟩)):=by
 obtain⟨j,hj,fG⟩:=Option.map_eq_some_iff.1 Tryd.bldX.sizeBuilder
 have mixed:Tryd.prog.follows Departure.mixedOrders=true:=by kernel_rfl
 go_enter Tryd.func95,Tryd.ntmps95
 go_wp2
 rw[Lib.run_to_unsafe w ⟨b,0,none⟩ Tryd.underlying124 Tryd.underlying135 hj (by rw[fG];decide) fO (Nat.zero_lt_succ 1)]
 simp only[Result.andThen]
 rw[Oper.upon_value]
 go_wp2
 rw[run_callFunc_extern Tryd.func99 (by kernel_rfl) (by kernel_rfl) (by kernel_rfl) (e:=Extern.AbiNoEscape.same) (by kernel_rfl)]
 rw[Lib.run_noEscape]
 simp only[Result.andThen]
 rw[Oper.upon_value]
 go_wp2
 rw[Lib.run_from_unsafe w ⟨b,0,none⟩ Tryd.underlying135 Tryd.underlying124 hj fO Tryd.bldX.liesBuilder]
 simp only[Result.andThen]
 rw[Oper.upon_value]
 go_wp2
 go_end0
 exact⟨rfl,rfl⟩
theorem abC(b:Nat)(bs:List Value)(w:World)(h:Lib.IsBuilderF 126 5 b b bs w):
 Calls Tryd.prog 95 #[.pointer (some ⟨b,0,none⟩)] w fun e w'=>e=.returned (.tuple #[])/\(Lib.BuilderAtF 126 5 b b (.pointer (some ⟨b,0,none⟩)) bs w'/\Below b w w'):=by
 rcases h with h | h
 ·refine(abB b w h.cell0 h.shape h.frozen0).mono ?_
  rintro e w' ⟨rfl,rfl⟩
  exact⟨rfl,h.used _,(Below.refl b w).setCell (p:=⟨b,0,none⟩) h.1 _⟩
 ·refine(abz b w h.cell0).mono ?_
  rintro e w' ⟨rfl,rfl⟩
  exact⟨rfl,h,Below.refl b _⟩
set_option maxHeartbeats 2000000 in
set_option maxRecDepth 100000 in
theorem Ov(b:Nat)(bs:List Value)(s:ByteArray)(w:World)(h:Lib.IsBuilderF 126 5 b b bs w)(hlen:bs.length+s.size<=140737488355328)(Mf:b<=w.heap.size):
 Calls Tryd.prog 86 #[.pointer (some ⟨b,0,none⟩),.string s] w fun e w'=>e=.returned (.tuple #[.int .i64 s.size,.nilIface])/\(Lib.IsBuilderF 126 5 b b (bs++Lib.strCells s) w'/\Below b w w'):=by
 obtain⟨i0,hi,ew,jd,mc⟩:=info_parts Tryd.bldX.infoByte
 have mixed:Tryd.prog.follows Departure.mixedOrders=true:=by kernel_rfl
 go_enter Tryd.func86,Tryd.ntmps86
 go_wp2_with (go_at_call 95;refine(abC b bs _ h).mono ?_)
 rintro e w1 ⟨rfl,h1,fR⟩
 obtain⟨hB,v,zT,zo,aj⟩:=h1
 have c0:w1.cell? ⟨b,0,none⟩=some (.pointer (some ⟨b,0,none⟩)):=by rw[Lib.cell_of_heap zT];rfl
 have c1:w1.cell? ⟨b,1,none⟩=some v:=by rw[Lib.cell_of_heap zT];rfl
 go_wp2_with (at_builtin;refine Lib.wpList_append_own_stringF _ rfl _ _ 112 9 rfl b 5 i0 Tryd.underlying112 Tryd.underlying9 hi ew jd mc _ _ _ rfl zo s rfl ?c3 ?c4 ?c5 ?_)
 case c3=>unfold maxLen;omega
 case c4=>omega
 case c5=>have:=fR.size;omega
 intro v' w2 Lu LU _
 have ae:b<w1.heap.size:=by
  rcases Nat.lt_or_ge b w1.heap.size with h' | h'
  ·exact h'
  ·simp[Array.getElem?_eq_none h']at zT
 have fI:w2.heap[b]?=some (.cells #[.pointer (some ⟨b,0,none⟩),v] 126 (0,0)):=by
  rw[LU.block b ae (fun e=>aj e.symm)]
  exact zT
 have d0:w2.cell? ⟨b,0,none⟩=some (.pointer (some ⟨b,0,none⟩)):=by rw[Lib.cell_of_heap fI];rfl
 have d1:w2.cell? ⟨b,1,none⟩=some v:=by rw[Lib.cell_of_heap fI];rfl
 have f1:w2.frozen? ⟨b,1,none⟩=false:=Lib.frozen_of_heap fI 1
 obtain⟨ao,n',cap,rfl⟩:∃ ao n' cap,v'=.slice ao n' cap:=by
  rcases Lu.2 with⟨hv,_⟩ | ⟨g,cap,cur,fz,hv,_⟩
  ·exact⟨_,_,_,hv⟩
  ·exact⟨_,_,_,hv⟩
 go_wp2
 go_ret2
 refine⟨rfl,.inr ?_,?_⟩
 ·exact Lib.BuilderAtF.put (T:=126) (e:=5) hB fI (bs':=bs++Lib.strCells s) (by simpa[Lib.strCells_length]using Lu) (by decide)
 ·exact(fR.grown LU (by have:=fR.size;omega) (fun k hk=>(zo.lt k hk).1)).setCell (p:=⟨b,1,none⟩) hB _
end Go.Eng
set_option linter.unusedVariables false
namespace Go.Eng
open Go Go.Proofs Go.Shelf Go.RowKit
theorem ES(w:World)(k:Nat)(os:Array Obj):w.grownBy (Go.Sort.grow (w.drewN k) os) none:=by
 refine⟨rfl,rfl,rfl,?_,fun b hb _=>?_⟩
 ·show w.heap.size<=(w.heap++os).size
  rw[Array.size_append];omega
 ·show (w.heap++os)[b]?=_
  rw[Array.getElem?_append_left hb]
theorem abA{b:Nat}{bs:List Value}{w:World}(h:Lib.IsBuilderF 126 5 b b bs w)(k:Nat)(os:Array Obj):Lib.IsBuilderF 126 5 b b bs (Go.Sort.grow (w.drewN k) os):=by
 have key:∀ p,Lib.BuilderAtF 126 5 b b p bs w->Lib.BuilderAtF 126 5 b b p bs (Go.Sort.grow (w.drewN k) os):=by
  intro p h
  have ae:=h.lt
  obtain⟨hB,v,hb,zo,aj⟩:=h
  refine⟨hB,v,?_,zo.kept (ES w k os) ?_,aj⟩
  ·rw[(ES w k os).block b ae (by simp)];exact hb
  ·cases hv:v.ownBlock with
   |none=>exact .inl rfl
   |some=>exact .inr (by simp)
 exact h.elim (fun h=>.inl (key _ h)) (fun h=>.inr (key _ h))
theorem abG{b:Nat}{w w':World}(h:Below b w w')(hb:b<=w.heap.size)(k:Nat)(os:Array Obj):Below b w (Go.Sort.grow (w'.drewN k) os):=by
 refine h.grown (row:=none) (ES w' k os) ?_ (fun k hk=>by cases hk)
 have :=h.size
 omega
theorem Q1{w w':World}(h:jL w)(hb:Below w.heap.size w w'):jL w':=fun q hq=>by
 obtain⟨T,f,e⟩:=h q hq
 exact⟨T,f,(hb.block _ (Array.getElem?_eq_some_iff.1 e).1).trans e⟩
theorem Q2{w:World}(h:jL w){name:String}(hn:Tryd.prog.globalNamed name=some 0):Lib.TabIs Tryd.prog w name .u64 Lib.pow10Tab:=by
 obtain⟨T,f,e⟩:=h _ (List.mem_singleton.2 rfl)
 unfold Lib.TabIs World.var?
 rw[hn]
 simp only[Option.bind_some,e]
theorem W5(n:Int)(h0: -9223372036854775808<=n)(h1:n<=9223372036854775807)(w:World)(ht:jL w):
 Calls Tryd.prog 87 #[.int .i64 n] w fun e w'=>e=.returned (.string ⟨(Lib.itoa n).toArray⟩)/\∃ k os,w'=Go.Sort.grow (w.drewN k) os:=
 Any.strconv_Itoa Tryd.lays171 n h0 h1 w (Q2 ht (by kernel_rfl))
def jW(word:ByteArray)(l:List Int)(k:Nat):List UInt8:=word.data.toList++(l.take k).flatMap fun n=>32::Lib.itoa n
def pJ(word:ByteArray)(l:List Int):List UInt8:=jW word l l.length++[10]
theorem CA(word:ByteArray)(l:List Int){k:Nat}(h:k<l.length):jW word l (k+1)=jW word l k++(32::Lib.itoa l[k]):=by
 unfold jW
 rw[List.take_add_one,List.getElem?_eq_getElem h,List.flatMap_append,List.append_assoc]
 simp
theorem yJ(word:ByteArray)(l:List Int)(hr:∀ n∈l,-9223372036854775808<=n/\n<=9223372036854775807):∀ k,k<=l.length->(jW word l k).length<=word.size+22*k
 | 0,_=>by
   unfold jW
   rw[List.take_zero,List.flatMap_nil,List.append_nil,Array.length_toList]
   exact Nat.le_refl _
 |k+1,h=>by
  rw[CA word l (by omega),List.length_append,List.length_cons]
  have h1:=yJ word l hr k (by omega)
  have h2:=hr _ (List.getElem_mem (show k<l.length by omega))
  have h3:=Lib.itoa_length_le l[k] h2.1 h2.2
  omega
set_option maxHeartbeats 4000000 in
set_option maxRecDepth 100000 in
theorem UE(word:ByteArray)(a:Option Addr)(l:List Int)(cap:Nat)(w:World)
 (ha:l=[]\/∃ bl o,a=some ⟨bl,o,none⟩/\bl<w.heap.size/\∀ i (h:i<l.length),w.cell? ⟨bl,o+i,none⟩=some (.int .i64 l[i]))
 (hr:∀ n∈l,-9223372036854775808<=n/\n<=9223372036854775807) (hw:word.size<=1000) (hl:l.length<=1000000) (ht:jL w):
 Calls Tryd.prog 79 #[.string word,.slice a l.length cap] w fun e w'=>e=.returned (.string ⟨(pJ word l).toArray⟩)/\Below w.heap.size w w':=by
 have mixed:Tryd.prog.follows Departure.mixedOrders=true:=by kernel_rfl
 have h0:Lib.IsBuilderF 126 5 w.heap.size w.heap.size [] (w.alloc (.cells #[.pointer none,.slice none 0 0] 126)):=Lib.IsBuilderF.of (Lib.fresh_isBuilder 126 5 w)
 have b0:Below w.heap.size w (w.alloc (.cells #[.pointer none,.slice none 0 0] 126)):=(Below.refl _ w).alloc (Nat.le_refl _) _
 have hlen:=yJ word l hr
 go_enter Tryd.func79,Tryd.ntmps79
 go_wp2_with (go_at_call 86;refine(Ov w.heap.size [] word _ h0 (by simp;omega) b0.size).mono ?_;rintro e W1 ⟨rfl,h1,b1⟩)
 have fb:Lib.IsBuilderF 126 5 w.heap.size w.heap.size (Lib.byteCells (jW word l 0)) W1:=by
  rw[List.nil_append,Lib.strCells_eq]at h1
  unfold jW
  simpa using h1
 have OS:=b0.trans b1
 clear h0 h1 b0 b1
 go_loopw [12] (fun i wr=>∃ k:Nat,k<=l.length/\i=.int .i64 k/\Lib.IsBuilderF 126 5 w.heap.size w.heap.size (Lib.byteCells (jW word l k)) wr/\Below w.heap.size w wr) (fun i _=>l.length-(intOf i).toNat)
 case atStart=>exact⟨0,Nat.zero_le _,rfl,fb,OS⟩
 case round=>
  obtain⟨k,hk,rfl,hB,hb⟩:=hrel
  clear fb OS
  have XO:=Q1 ht hb
  have bf:=hb.size
  by_cases ae:k<l.length
  ·rcases ha with rfl | ⟨bl,o,rfl,Y3,hc⟩
   ·simp at ae
   have agd:wr.cell? ⟨bl,o+k,none⟩=some (.int .i64 l[k]):=by
    rw[<-hc k ae]
    unfold World.cell?
    rw[hb.block bl Y3]
   have zl:=hr _ (List.getElem_mem ae)
   have hL:=hlen k hk
   have gU:=Lib.itoa_length_le l[k] zl.1 zl.2
   have aq:(k:Int)<(l.length:Int):=by omega
   have kL:(⟨#[32]⟩++⟨(Lib.itoa l[k]).toArray⟩:ByteArray)=⟨(32::Lib.itoa l[k]).toArray⟩:=by
    apply ByteArray.ext
    simp
   have Dj:(⟨(32::Lib.itoa l[k]).toArray⟩:ByteArray).size=(Lib.itoa l[k]).length+1:=by
    show ((32::Lib.itoa l[k]).toArray).size=_
    rw[List.size_toArray,List.length_cons]
   go_wp2_with (first
    |(go_at_call 87;refine(W5 l[k] zl.1 zl.2 _ XO).mono ?_;rintro e W2 ⟨rfl,kk,os,rfl⟩)
    |(go_at_call 86;refine(Ov w.heap.size _ _ _ (abA hB _ _) ?sz ?le).mono ?_))
   case sz=>rw[Lib.byteCells_length,Dj];omega
   case le=>rw[Go.Sort.size_grow];show w.heap.size<=wr.heap.size+_;omega
   rintro e W3 ⟨rfl,h3,b3⟩
   have uG:Lib.IsBuilderF 126 5 w.heap.size w.heap.size (Lib.byteCells (jW word l (k+1))) W3:=by
    rw[Lib.strCells_eq,<-Lib.byteCells_append]at h3
    rw[CA word l ae]
    exact h3
   have Es:Below w.heap.size w W3:=(abG hb (Nat.le_refl _) kk os).trans b3
   go_wp2
   go_roundw
   case rel=>exact⟨k+1,ae,by first | (simp[IntKind.wrap_i64];done) | (simp[IntKind.wrap_i64];omega),uG,Es⟩
   case measure=>
    simp[intOf,IntKind.wrap_i64]
    omega
  ·have rY:k=l.length:=by omega
   subst rY
   have hL:=hlen l.length (Nat.le_refl _)
   go_wp2_with (go_at_call 88;refine(Any.Builder_String_any_k Tryd.lays169 Tryd.bldX w.heap.size w.heap.size _ _ hB hb.size).mono ?_;rintro e W3 ⟨rfl,h3,b3,-⟩)
   go_wp2
   go_ret
   refine⟨?_,hb.trans b3⟩
   have :(⟨(jW word l l.length).toArray⟩++⟨#[10]⟩:ByteArray)=⟨(pJ word l).toArray⟩:=by
    apply ByteArray.ext
    simp[pJ]
   simp[this]
open Go Go.Proofs
def dI(w:ByteArray)(l:List Int):ByteArray:=⟨(pJ w l).toArray⟩
def rv(n:Int):Prop:= -9223372036854775808<=n/\n<=9223372036854775807
noncomputable def P110:PSpec:=p2 tT dJ (fun w l=>w.size<=1000/\l.length<=1000000/\∀ n∈l,rv n) (fun w l=>.str (dI w l)) true
noncomputable def S110:Spec:=P110.toSpec
attribute [go_sem] P110 S110
theorem UF{w:ByteArray}{l:List Int}(hw:w.size<=1000)(hl:l.length<=1000000)(hr:∀ n∈l,rv n):(dI w l).size<=23000000:=by
 have h:=yJ w l hr l.length (Nat.le_refl _)
 show (pJ w l).toArray.size<=_
 unfold pJ
 rw[List.size_toArray,List.length_append,List.length_singleton]
 omega
theorem S4:aZ Tryd.prog 79 P110:=by
 refine⟨by decide,iv Tryd.func79 rfl (by kernel_rfl),fun h=>It (fun _ _=>rfl) h,fun m w xs args ht hm hx hp=>?_⟩
 obtain⟨word,l,rfl,⟨h1,h2,h3⟩,hg⟩:=BX hp
 have hg:P110.fn _=_:=hg
 rw[hg]
 obtain⟨h4,h5⟩:=hx
 have bf:args.size=2:=by simpa using h4.symm
 have e0:=h5 0 (by simp) (by simp[bf])
 have e1:=h5 1 (by simp) (by simp[bf])
 simp only[List.getElem_cons_zero,List.getElem_cons_succ,Array.getElem_toList]at e0 e1
 have j9:args= #[args[0],args[1]]:=by
  apply Array.ext
  ·simp[bf]
  ·intro j a b
   rcases j with _ | _ | j
   ·rfl
   ·rfl
   ·omega
 have key:∀ a0 a1,ay m (.str word) a0->ay m (.sl (l.map vInt)) a1->Calls Tryd.prog 79 #[a0,a1] w fun e w'=>∃ v m',e=.returned v/\RowKit.Below w.heap.size w w'/\Mem.le m m'/\
     (∀ b off c,m' b off=some c->m b off=some c\/(w.heap.size<=b/\w'.cell? ⟨b,off,none⟩=some c))/\ay m' (.str (dI word l)) v:=by
  intro a0 a1 r0 r1
  cases r0
  have fin:∀ a cap,(l=[]\/∃ bl o,a=some ⟨bl,o,none⟩/\bl<w.heap.size/\∀ i (h:i<l.length),w.cell? ⟨bl,o+i,none⟩=some (.int .i64 l[i]))->
      Calls Tryd.prog 79 #[.string word,.slice a l.length cap] w fun e w'=>∃ v m',e=.returned v/\RowKit.Below w.heap.size w w'/\Mem.le m m'/\
   (∀ b off c,m' b off=some c->m b off=some c\/(w.heap.size<=b/\w'.cell? ⟨b,off,none⟩=some c))/\ay m' (.str (dI word l)) v:=by
   intro a cap ha
   refine(UE word a l cap w ha h3 h1 h2 ht).mono ?_
   rintro e w' ⟨rfl,hb⟩
   exact⟨_,m,rfl,hb,Mem.le_refl m,fun b off c h=>.inl h,.str _ (by have:=UF h1 h2 h3;unfold maxLen;omega)⟩
  generalize hL:l.map vInt=L at r1
  cases r1 with
  |slnil a cap=>
   have :l=[]:=List.map_eq_nil_iff.1 hL
   subst this
   exact fin a cap (.inl rfl)
  |sl _ b o cap sz c hn hl jj hs hc hr ho=>
   subst hL
   rw[List.length_map]
   refine fin _ _ (.inr ⟨b,o,rfl,?_,fun i hi=>?_⟩)
   ·have bR:0<l.length:=by
      rcases l with _ | _
      ·simp at hn
      ·simp
    have rG:=hs 0 (by simpa using bR)
    simp only[List.getElem_map,V.cells,List.length_singleton]at rG
    have :=hm _ _ _ (hc 0 0 (by simpa using bR) (by omega))
    exact lB this
   ·have bj:i<(l.map vInt).length:=by simpa using hi
    have rG:=hs i bj
    simp only[List.getElem_map,V.cells,List.length_singleton]at rG
    subst rG
    have h6:=hm _ _ _ (hc i 0 bj (by omega))
    have h7:=hr i 0 bj (by simp[V.cells])
    simp only[List.getElem_map,V.cells,List.getElem_cons_zero]at h7
    have h8:∀ u,ay m (vInt l[i]) u->u=.int .i64 l[i]:=by intro u h;cases h;rfl
    rw[h8 _ h7]at h6
    simpa using h6
 rw[j9]
 exact key _ _ e0 e1
theorem WX:ak Tryd.prog 79 S110:=S4.sound
noncomputable def P98:PSpec:=p3 iI iI iI (fun _ _ _=>True) (fun n lo hi=>.bool (aT n lo hi)) true
noncomputable def S98:Spec:=P98.toSpec
attribute [go_sem] P98 S98
theorem Sf:aZ Tryd.prog 65 P98:=by
 refine w3 (rs:=[.tmp 6]) Tryd.func65 Tryd.ntmps65 (by rfl) (by kernel_rfl) (by decide) (fun _ _ _ _=>rfl) ⟨_,rfl,lb rfl,fun n lo hi hp hw=>?_⟩
 have hP:=br
 simp only[iI]at hw |-
 have hΓ:=@kE Tryd.prog
 repeat refine sq ?_
 refine rs hΓ [0,1,2] [] ?_
 repeat refine sq ?_
 refine rs hΓ [6] [] ?_
 refine ax ?_
 simp only[go_sem]
 all_goals first | rfl | (simp;done) | (simp_all;done)
theorem CM:ak Tryd.prog 65 S98:=Sf.sound
noncomputable def P86:PSpec:=p3 iI iI iI (fun _ _ _=>True) (fun n lo hi=>.bool (aT n lo hi)) true
noncomputable def S86:Spec:=P86.toSpec
attribute [go_sem] P86 S86
theorem Sm:aZ Tryd.prog 83 P86:=by
 refine w3 (rs:=[.tmp 6]) Tryd.func83 Tryd.ntmps83 (by rfl) (by kernel_rfl) (by decide) (fun _ _ _ _=>rfl) ⟨_,rfl,lb rfl,fun n lo hi hp hw=>?_⟩
 have hP:=br
 simp only[iI]at hw |-
 have hΓ:=@kE Tryd.prog
 repeat refine sq ?_
 refine rs hΓ [0,1,2] [] ?_
 repeat refine sq ?_
 refine rs hΓ [6] [] ?_
 refine ax ?_
 simp only[go_sem]
 all_goals first | rfl | (simp;done) | (simp_all;done)
theorem CP:ak Tryd.prog 83 S86:=Sm.sound
noncomputable def K1:List (Nat×Spec):=[(65,S98),(83,S86)]
theorem vd:∀ f s,tbl K1 f=some s->ak Tryd.prog f s:=tc CM<|tc CP<|tn
attribute [go_sem] K1
noncomputable def P82:PSpec:=p1 iI (fun _=>True) (fun n=>.bool (aT n 0 5)) true
noncomputable def S82:Spec:=P82.toSpec
attribute [go_sem] P82 S82
theorem Sq:aZ Tryd.prog 34 P82:=by
 refine w1 (rs:=[.tmp 2]) Tryd.func34 Tryd.ntmps34 (by rfl) (by kernel_rfl) (by decide) (fun _ _=>rfl) ⟨_,rfl,lb rfl,fun n hp hw=>?_⟩
 have hP:=br
 simp only[iI]at hw |-
 have hΓ:=vd
 repeat refine sq ?_
 refine rs hΓ [0] [] ?_
 repeat refine sq ?_
 refine rs hΓ [2] [] ?_
 refine ax ?_
 simp only[go_sem]
 all_goals first | rfl | (simp;done) | (simp_all;done)
theorem yR:ak Tryd.prog 34 S82:=Sq.sound
noncomputable def P84:PSpec:=p1 iI (fun _=>True) (fun n=>.bool (aT n 0 5)) true
noncomputable def S84:Spec:=P84.toSpec
attribute [go_sem] P84 S84
theorem So:aZ Tryd.prog 90 P84:=by
 refine w1 (rs:=[.tmp 2]) Tryd.func90 Tryd.ntmps90 (by rfl) (by kernel_rfl) (by decide) (fun _ _=>rfl) ⟨_,rfl,lb rfl,fun n hp hw=>?_⟩
 have hP:=br
 simp only[iI]at hw |-
 have hΓ:=vd
 repeat refine sq ?_
 refine rs hΓ [0] [] ?_
 repeat refine sq ?_
 refine rs hΓ [2] [] ?_
 refine ax ?_
 simp only[go_sem]
 all_goals first | rfl | (simp;done) | (simp_all;done)
theorem yQ:ak Tryd.prog 90 S84:=So.sound
noncomputable def P50:PSpec:=p1 iI (fun _=>True) (fun n=>.bool (aT n 1 999)) true
noncomputable def S50:Spec:=P50.toSpec
attribute [go_sem] P50 S50
theorem SI:aZ Tryd.prog 40 P50:=by
 refine w1 (rs:=[.tmp 2]) Tryd.func40 Tryd.ntmps40 (by rfl) (by kernel_rfl) (by decide) (fun _ _=>rfl) ⟨_,rfl,lb rfl,fun n hp hw=>?_⟩
 have hP:=br
 simp only[iI]at hw |-
 have hΓ:=vd
 repeat refine sq ?_
 refine rs hΓ [0] [] ?_
 repeat refine sq ?_
 refine rs hΓ [2] [] ?_
 refine ax ?_
 simp only[go_sem]
 all_goals first | rfl | (simp;done) | (simp_all;done)
theorem KN:ak Tryd.prog 40 S50:=SI.sound
noncomputable def P55:PSpec:=p1 iI (fun _=>True) (fun n=>.bool (aT n 1 999)) true
noncomputable def S55:Spec:=P55.toSpec
attribute [go_sem] P55 S55
theorem SE:aZ Tryd.prog 76 P55:=by
 refine w1 (rs:=[.tmp 2]) Tryd.func76 Tryd.ntmps76 (by rfl) (by kernel_rfl) (by decide) (fun _ _=>rfl) ⟨_,rfl,lb rfl,fun n hp hw=>?_⟩
 have hP:=br
 simp only[iI]at hw |-
 have hΓ:=vd
 repeat refine sq ?_
 refine rs hΓ [0] [] ?_
 repeat refine sq ?_
 refine rs hΓ [2] [] ?_
 refine ax ?_
 simp only[go_sem]
 all_goals first | rfl | (simp;done) | (simp_all;done)
theorem WK:ak Tryd.prog 76 S55:=SE.sound
noncomputable def P79:PSpec:=p1 iI (fun _=>True) (fun n=>.bool (aT n 0 99999)) true
noncomputable def S79:Spec:=P79.toSpec
attribute [go_sem] P79 S79
theorem Ss:aZ Tryd.prog 71 P79:=by
 refine w1 (rs:=[.tmp 2]) Tryd.func71 Tryd.ntmps71 (by rfl) (by kernel_rfl) (by decide) (fun _ _=>rfl) ⟨_,rfl,lb rfl,fun n hp hw=>?_⟩
 have hP:=br
 simp only[iI]at hw |-
 have hΓ:=vd
 repeat refine sq ?_
 refine rs hΓ [0] [] ?_
 repeat refine sq ?_
 refine rs hΓ [2] [] ?_
 refine ax ?_
 simp only[go_sem]
 all_goals first | rfl | (simp;done) | (simp_all;done)
theorem CR:ak Tryd.prog 71 S79:=Ss.sound
noncomputable def P81:PSpec:=p1 iI (fun _=>True) (fun n=>.bool (aT n 0 99999)) true
noncomputable def S81:Spec:=P81.toSpec
attribute [go_sem] P81 S81
theorem Sr:aZ Tryd.prog 92 P81:=by
 refine w1 (rs:=[.tmp 2]) Tryd.func92 Tryd.ntmps92 (by rfl) (by kernel_rfl) (by decide) (fun _ _=>rfl) ⟨_,rfl,lb rfl,fun n hp hw=>?_⟩
 have hP:=br
 simp only[iI]at hw |-
 have hΓ:=vd
 repeat refine sq ?_
 refine rs hΓ [0] [] ?_
 repeat refine sq ?_
 refine rs hΓ [2] [] ?_
 refine ax ?_
 simp only[go_sem]
 all_goals first | rfl | (simp;done) | (simp_all;done)
theorem CQ:ak Tryd.prog 92 S81:=Sr.sound
theorem ck{n lo hi:Int}:aT n lo hi=true↔lo<=n/\n<=hi:=by unfold aT;simp
theorem af9{n lo hi:Int}(h1:lo<=n)(h2:n<=hi):aT n lo hi=true:=ck.2 ⟨h1,h2⟩
def gY(n:Nat)(f:Nat->Bool):Bool:=(List.range n).all f
theorem iS{n:Nat}{f:Nat->Bool}:gY n f=true↔∀ j,j<n->f j=true:=by
 unfold gY;rw[List.all_eq_true];exact⟨fun h j hj=>h j (List.mem_range.2 hj),fun h j hj=>h j (List.mem_range.1 hj)⟩
theorem gI{n i:Nat}{f:Nat->Bool}(h:i<n)(hb:f i=false):gY n f=false:=by
 rw[Bool.eq_false_iff];intro k;rw[iS.1 k i h]at hb;cases hb
theorem mL{n:Nat}{f:Nat->Bool}(h:gY n f=true)(hb:f n=true):gY (n+1) f=true:=iS.2 fun j hj=>by
 rcases Nat.lt_succ_iff_lt_or_eq.1 hj with h5 | rfl
 ·exact iS.1 h j h5
 ·exact hb
theorem ah3{f:Nat->Bool}:gY 0 f=true:=rfl
def kC(l:List Int)(i:Nat):Bool:=aT (l.getD i 0) 1 999&&(i==0||decide (l.getD (i-1) 0<l.getD i 0))
def fZ(l:List Int):Bool:=gY l.length (kC l)&&decide (l.length<=40)
def fY(l:List Par)(i:Nat):Bool:=aT (l.getD i default).no 1 99999&&aT (l.getD i default).pa 1 999&&(i==0||(l.getD (i-1) default).no+1==(l.getD i default).no)
def cj(l:List Par):Bool:=gY l.length (fY l)&&decide (l.length<=40)
theorem ya{i n:Nat}(h:i<n)(hn:n<=maxLen):∃ p:Nat,(IntKind.i64.wrap ((i:Int)-1)).toNat=p/\p<n/\p=i-1/\(0<i->0<=IntKind.i64.wrap ((i:Int)-1)/\IntKind.i64.wrap ((i:Int)-1)<n):=by
 unfold maxLen at hn
 rcases Nat.eq_zero_or_pos i with rfl | hp
 ·exact⟨0,by decide,h,rfl,fun h=>by omega⟩
 ·have:IntKind.i64.wrap ((i:Int)-1)=((i-1:Nat):Int):=by rw[wrap_i64 (by omega) (by omega)];omega
  exact⟨i-1,by rw[this];rfl,by omega,rfl,fun _=>by omega⟩
theorem th{i:Nat}:decide ((i:Int)>0)=!(i==0):=by
 cases i<;>simp
theorem not_lt{a b:Int}:decide (a>=b)=!decide (a<b):=by
 by_cases h:a<b
 ·rw[decide_eq_true h,decide_eq_false (by omega)];rfl
 ·rw[decide_eq_false h,decide_eq_true (by omega)];rfl
noncomputable def PR:List (Nat×Spec):=[(40,S50),(76,S55),(65,S98),(83,S86)]
theorem A2:∀ f s,tbl PR f=some s->ak Tryd.prog f s:=tc KN<|tc WK<|tc CM<|tc CP<|tn
attribute [go_sem] PR
theorem Io{l:List Int}{i p:Nat}(hp:p=i-1)(hi:i<l.length)(b9:p<l.length):(!aT l[i] 1 999||(!(i==0)&&!decide (l[p] <l[i])))=!kC l i:=by
 subst hp
 unfold kC
 rw[getD_at hi,getD_at b9]
 cases aT l[i] 1 999<;>cases (i==0)<;>cases decide (l[i-1] <l[i])<;>rfl
theorem Ik{l:List Par}{i p:Nat}(hp:p=i-1)(hi:i<l.length)(b9:p<l.length):
 (!aT l[i].no 1 99999||(!aT l[i].pa 1 999||(!(i==0)&&(l[p].no+1 != l[i].no))))=!fY l i:=by
 subst hp
 unfold fY
 rw[getD_at hi,getD_at b9]
 have :(l[i-1].no+1 != l[i].no)=!(l[i-1].no+1==l[i].no):=rfl
 rw[this]
 cases aT l[i].no 1 99999<;>cases aT l[i].pa 1 999<;>cases (i==0)<;>cases (l[i-1].no+1==l[i].no)<;>rfl
theorem Ih{l:List Par}{i p:Nat}(hp:p=i-1)(b9:p<l.length)(hR:gY i (fY l)=true)(h0:0<i):IntKind.i64.wrap (l[p].no+1)=l[p].no+1:=by
 have :=iS.1 hR p (by omega)
 unfold fY at this
 rw[getD_at b9]at this
 simp only[Bool.and_eq_true]at this
 have :=ck.1 this.1.1
 exact wrap_i64 (by omega) (by omega)
noncomputable def P83:PSpec:=p1 dJ (fun _=>True) (fun l=>.bool (fZ l)) true
noncomputable def S83:Spec:=P83.toSpec
attribute [go_sem] P83 S83
set_option maxHeartbeats 4000000 in
theorem Sp:aZ Tryd.prog 35 P83:=by
 refine w1 (rs:=[.tmp 2]) Tryd.func35 Tryd.ntmps35 (by rfl) (by kernel_rfl) (by decide) (fun _ _=>rfl) ⟨_,rfl,lb rfl,fun l hp hw=>?_⟩
 have hP:=br
 simp only[dJ]at hw |-
 have hΓ:=A2
 have hl:l.length<=maxLen:=by have:=hw.1.1;simpa using this
 repeat refine sq ?_
 refine rs hΓ [0] [] ?_
 repeat refine sq ?_
 refine rs hΓ [0,5,6,7] [] ?_
 repeat refine sq ?_
 refine a8 ?_
 repeat refine sq ?_
 refine dR (fun s:Nat=>[(7,⟨true,.v (vInt s)⟩)]) (fun s=>[]) (fun s=>s<=l.length/\gY s (kC l)=true) (fun s=>l.length-s) 0 ?_ ?_ ?_ ?_
 ·exact⟨Nat.zero_le _,rfl⟩
 ·rfl
 ·rfl
 rintro i ⟨hi,hR⟩
 simp only[go_sem]
 repeat refine sq ?_
 refine rs hΓ [0,5,6,7,8] [] ?_
 repeat refine sq ?_
 refine aD rfl rfl (fun hb=>?_) (fun hb=>?_)
 ·have ae:i<l.length:=by simpa using hb
  have aq:(i:Int)<l.length:=by omega
  clear hb
  obtain⟨p,hp,b9,gB,bR⟩:=ya ae hl
  have eJ:=Io gB ae b9
  repeat refine sq ?_
  refine aI ?_
  repeat refine sq ?_
  refine a8 ?_
  repeat refine sq ?_
  refine rx hΓ [0,3,4,5,6,7] [] (fun K' hK=>by simp only[go_sem,aK ae,Int.toNat_natCast,Int.natCast_nonneg,aq];(repeat (refine⟨ob,?_⟩));exact hK _ (by simp only[go_sem]) (by simp only[go_sem]<;>rfl)) ?_
  repeat refine sq ?_
  refine rx hΓ [0,5,6,7,27] [] (fun K' hK=>by simp only[go_sem,aK ae,Int.toNat_natCast,Int.natCast_nonneg,aq,hp,aK ae,aK b9,Int.toNat_natCast,Int.natCast_nonneg,aq,th,not_lt];(repeat (refine⟨by first | exact ob | exact fun h=>bR (by simp_all;omega) | (intro h;have:=bR (by simp_all;omega);simp_all;done),?_⟩));exact hK _ (by simp only[go_sem]) (by simp only[go_sem]<;>rfl)) ?_
  repeat refine sq ?_
  refine aD rfl rfl (fun hb=>?_) (fun hb=>?_)
  ·repeat refine sq ?_
   have bV:kC l i=false:=by simpa[eJ]using hb
   repeat refine sq ?_
   refine rx hΓ [2] [] (fun K' hK=>by simp only[go_sem,aK ae,Int.toNat_natCast,Int.natCast_nonneg,aq];(repeat (refine⟨ob,?_⟩));exact hK _ (by simp only[go_sem]) (by simp only[go_sem]<;>rfl)) ?_
   refine ax ?_
   simp only[go_sem]
   simp only[fZ,gI ae bV,Bool.false_and]
  ·repeat refine sq ?_
   have bL:kC l i=true:=by simpa[eJ]using hb
   refine aI ?_
   refine eo ?_
   simp only[go_sem]
   refine kp [0,5,6,7] [] ?_
   repeat refine sq ?_
   refine bc hΓ fun K' hK=>?_
   simp only[go_sem,aK ae,Int.toNat_natCast,Int.natCast_nonneg,aq]
   repeat (refine⟨ob,?_⟩)
   refine hK _ ?_
   clear K' hK
   simp only[go_sem]
   refine⟨i+1,⟨ae,?_⟩,by(show l.length-(i+1)<l.length-i;omega),?_⟩
   ·exact mL hR bL
   refine bJ [0,5,6,7] [] ?_ ?_
   ·simp only[go_sem,aM ae hl,Int.natCast_add,Int.natCast_one]
   ·simp only[go_sem,aM ae hl,Int.natCast_add,Int.natCast_one]
 ·have bo:i=l.length:=by
   have :¬ (i:Int)<l.length:=by simpa using hb
   omega
  clear hb
  subst bo
  repeat refine sq ?_
  refine di ?_
  simp only[go_sem]
  refine kp [0] [] ?_
  repeat refine sq ?_
  refine rs hΓ [2] [] ?_
  refine ax ?_
  simp only[go_sem]
  simp only[fZ,hR,Bool.true_and]
  try (congr 2;apply propext;omega)
theorem KF:ak Tryd.prog 35 S83:=Sp.sound
noncomputable def P87:PSpec:=p1 kG (fun _=>True) (fun l=>.bool (cj l)) true
noncomputable def S87:Spec:=P87.toSpec
attribute [go_sem] P87 S87
set_option maxHeartbeats 4000000 in
theorem Sl:aZ Tryd.prog 70 P87:=by
 refine w1 (rs:=[.tmp 2]) Tryd.func70 Tryd.ntmps70 (by rfl) (by kernel_rfl) (by decide) (fun _ _=>rfl) ⟨_,rfl,lb rfl,fun l hp hw=>?_⟩
 have hP:=br
 simp only[kG]at hw |-
 have hΓ:=A2
 have hl:l.length<=maxLen:=by have:=hw.1.1;simpa using this
 repeat refine sq ?_
 refine rs hΓ [0] [] ?_
 repeat refine sq ?_
 refine rs hΓ [0,5,6,7] [] ?_
 repeat refine sq ?_
 refine a8 ?_
 repeat refine sq ?_
 refine dR (fun s:Nat=>[(7,⟨true,.v (vInt s)⟩)]) (fun s=>[]) (fun s=>s<=l.length/\gY s (fY l)=true) (fun s=>l.length-s) 0 ?_ ?_ ?_ ?_
 ·exact⟨Nat.zero_le _,rfl⟩
 ·rfl
 ·rfl
 rintro i ⟨hi,hR⟩
 simp only[go_sem]
 repeat refine sq ?_
 refine rs hΓ [0,5,6,7,8] [] ?_
 repeat refine sq ?_
 refine aD rfl rfl (fun hb=>?_) (fun hb=>?_)
 ·have ae:i<l.length:=by simpa using hb
  have aq:(i:Int)<l.length:=by omega
  clear hb
  obtain⟨p,hp,b9,gB,bR⟩:=ya ae hl
  have eJ:=Ik gB ae b9
  repeat refine sq ?_
  refine aI ?_
  repeat refine sq ?_
  refine a8 ?_
  repeat refine sq ?_
  refine rx hΓ [0,3,4,5,6,7] [[4,0]] (fun K' hK=>by simp only[go_sem,aK ae,Int.toNat_natCast,Int.natCast_nonneg,aq];(repeat (refine⟨ob,?_⟩));exact hK _ (by simp only[go_sem]) (by simp only[go_sem]<;>rfl)) ?_
  rcases Nat.eq_zero_or_pos i with h0 | h0
  ·have ew:(i==0)=true:=by simp[h0]
   repeat refine sq ?_
   refine dx hΓ hP [[],[0],[0,1],[0,1,2],[0,1,2,3],[0,1,2,3,4],[0,1,2,3,4,5],[0,1,2,3,4,5,6],[0,1,2,3,4,5,6,7],[0,1,2,3,4,5,6,7,8],[0,1,2,3,4,5,6,7,8,9],[0,1,2,3,4,5,6,7,8,9,10],[0,1,2,3,4,5,6,7,8,9,10,11],[0,1,2,3,4,5,6,7,8,9,10,11,12],[0,1,2,3,4,5,6,7,8,9,10,11,12,13],[0,1,2,3,4,5,6,7,8,9,10,11,12,13],[0,1,2,3,4,5,6,7,8,9,10,11,12,13,15],[0,1,2,3,4,5,6,7,8,9,10,11,12,13,14,15,16],[0,1,2,3,4,5,6,7,8,9,10,11,12,13,14,15,16,17],[0,1,2,3,4,5,6,7,8,9,10,11,12,13,14,15,16,17,18],[0,1,2,3,4,5,6,7,8,9,10,11,12,13,14,15,16,17,18,19],[0,1,2,3,4,5,6,7,8,9,10,11,12,13],[0,1,2,3,4,5,6,7,8,9,10,11,12,13,21],[0,1,2,3,4,5,6,7,8,9,10,11,12,13,14,15,16,17,18,19,20,21,22],[0,1,2,3,4,5,6,7,8,9,10,11,12,13,14,15,16,17,18,19,20,21,22,23],[0,1,2,3,4,5,6,7,8,9,10,11,12,13,14,15,16,17,18,19,20,21,22,23,24]] [0,5,6,7,37] [] (by kernel_rfl) (fun K' hK=>by simp only[go_sem,aK ae,Int.toNat_natCast,Int.natCast_nonneg,aq,ew,hp,aK ae,aK b9,Int.toNat_natCast,Int.natCast_nonneg,aq,th,not_lt];(repeat (refine⟨by first | exact ob | exact fun _=>⟨dC,dM,rfl⟩ | exact fun _=>⟨dC,dM⟩,?_⟩));(first | refine⟨by rfl,?_⟩ | skip);exact hK _ (by simp only[go_sem]) (by simp only[go_sem]<;>rfl)) ?_
   repeat refine sq ?_
   refine aD rfl rfl (fun hb=>?_) (fun hb=>?_)
   ·repeat refine sq ?_
    have bV:fY l i=false:=by simpa[ew,hb]using eJ.symm
    repeat refine sq ?_
    refine rx hΓ [2] [] (fun K' hK=>by simp only[go_sem,aK ae,Int.toNat_natCast,Int.natCast_nonneg,aq,ew];(repeat (refine⟨ob,?_⟩));exact hK _ (by simp only[go_sem]) (by simp only[go_sem]<;>rfl)) ?_
    refine ax ?_
    simp only[go_sem]
    first | simp only[cj,gI ae bV,Bool.false_and] | (simp only[cj,hR,Bool.true_and];done) | (simp only[cj,hR,Bool.true_and];congr 2;apply propext;omega)
   ·repeat refine sq ?_
    have bL:fY l i=true:=by simpa[ew,hb]using eJ.symm
    refine aI ?_
    refine eo ?_
    simp only[go_sem]
    refine kp [0,5,6,7] [] ?_
    repeat refine sq ?_
    refine bc hΓ fun K' hK=>?_
    simp only[go_sem,aK ae,Int.toNat_natCast,Int.natCast_nonneg,aq,ew]
    repeat (refine⟨ob,?_⟩)
    refine hK _ ?_
    clear K' hK
    simp only[go_sem]
    refine⟨i+1,⟨ae,?_⟩,by(show l.length-(i+1)<l.length-i;omega),?_⟩
    ·exact mL hR bL
    refine bJ [0,5,6,7] [] ?_ ?_
    ·simp only[go_sem,aM ae hl,Int.natCast_add,Int.natCast_one]
    ·simp only[go_sem,aM ae hl,Int.natCast_add,Int.natCast_one]
  ·have rC:=Ih gB b9 hR h0
   have ew:(i==0)=false:=by rw[beq_eq_false_iff_ne];omega
   obtain⟨dC,dM⟩:=bR h0
   repeat refine sq ?_
   refine dx hΓ hP [[],[0],[0,1],[0,1,2],[0,1,2,3],[0,1,2,3,4],[0,1,2,3,4,5],[0,1,2,3,4,5,6],[0,1,2,3,4,5,6,7],[0,1,2,3,4,5,6,7,8],[0,1,2,3,4,5,6,7,8,9],[0,1,2,3,4,5,6,7,8,9,10],[0,1,2,3,4,5,6,7,8,9,10,11],[0,1,2,3,4,5,6,7,8,9,10,11,12],[0,1,2,3,4,5,6,7,8,9,10,11,12,13],[0,1,2,3,4,5,6,7,8,9,10,11,12,13],[0,1,2,3,4,5,6,7,8,9,10,11,12,13,15],[0,1,2,3,4,5,6,7,8,9,10,11,12,13,14,15,16],[0,1,2,3,4,5,6,7,8,9,10,11,12,13,14,15,16,17],[0,1,2,3,4,5,6,7,8,9,10,11,12,13,14,15,16,17,18],[0,1,2,3,4,5,6,7,8,9,10,11,12,13,14,15,16,17,18,19],[0,1,2,3,4,5,6,7,8,9,10,11,12,13],[0,1,2,3,4,5,6,7,8,9,10,11,12,13,21],[0,1,2,3,4,5,6,7,8,9,10,11,12,13,14,15,16,17,18,19,20,21,22],[0,1,2,3,4,5,6,7,8,9,10,11,12,13,14,15,16,17,18,19,20,21,22,23],[0,1,2,3,4,5,6,7,8,9,10,11,12,13,14,15,16,17,18,19,20,21,22,23,24]] [0,5,6,7,37] [] (by kernel_rfl) (fun K' hK=>by simp only[go_sem,aK ae,Int.toNat_natCast,Int.natCast_nonneg,aq,rC,ew,dC,dM,hp,aK ae,aK b9,Int.toNat_natCast,Int.natCast_nonneg,aq,th,not_lt];(repeat (refine⟨by first | exact ob | exact fun _=>⟨dC,dM,rfl⟩ | exact fun _=>⟨dC,dM⟩,?_⟩));(first | refine⟨by rfl,?_⟩ | skip);exact hK _ (by simp only[go_sem]) (by simp only[go_sem]<;>rfl)) ?_
   repeat refine sq ?_
   refine aD rfl rfl (fun hb=>?_) (fun hb=>?_)
   ·repeat refine sq ?_
    have bV:fY l i=false:=by simpa[ew,<-Bool.or_assoc,hb]using eJ.symm
    repeat refine sq ?_
    refine rx hΓ [2] [] (fun K' hK=>by simp only[go_sem,aK ae,Int.toNat_natCast,Int.natCast_nonneg,aq,rC,ew,dC,dM];(repeat (refine⟨ob,?_⟩));exact hK _ (by simp only[go_sem]) (by simp only[go_sem]<;>rfl)) ?_
    refine ax ?_
    simp only[go_sem]
    first | simp only[cj,gI ae bV,Bool.false_and] | (simp only[cj,hR,Bool.true_and];done) | (simp only[cj,hR,Bool.true_and];congr 2;apply propext;omega)
   ·repeat refine sq ?_
    have bL:fY l i=true:=by simpa[ew,<-Bool.or_assoc,hb]using eJ.symm
    refine aI ?_
    refine eo ?_
    simp only[go_sem]
    refine kp [0,5,6,7] [] ?_
    repeat refine sq ?_
    refine bc hΓ fun K' hK=>?_
    simp only[go_sem,aK ae,Int.toNat_natCast,Int.natCast_nonneg,aq,rC,ew,dC,dM]
    repeat (refine⟨ob,?_⟩)
    refine hK _ ?_
    clear K' hK
    simp only[go_sem]
    refine⟨i+1,⟨ae,?_⟩,by(show l.length-(i+1)<l.length-i;omega),?_⟩
    ·exact mL hR bL
    refine bJ [0,5,6,7] [] ?_ ?_
    ·simp only[go_sem,aM ae hl,Int.natCast_add,Int.natCast_one]
    ·simp only[go_sem,aM ae hl,Int.natCast_add,Int.natCast_one]
 ·have bo:i=l.length:=by
   have :¬ (i:Int)<l.length:=by simpa using hb
   omega
  clear hb
  subst bo
  repeat refine sq ?_
  refine di ?_
  simp only[go_sem]
  refine kp [0] [] ?_
  repeat refine sq ?_
  refine rs hΓ [2] [] ?_
  refine ax ?_
  simp only[go_sem]
  first | simp only[cj,gI ae bV,Bool.false_and] | (simp only[cj,hR,Bool.true_and];done) | (simp only[cj,hR,Bool.true_and];congr 2;apply propext;omega)
theorem KD:ak Tryd.prog 70 S87:=Sl.sound
@[go_sem] theorem aic{α:Type}(s:aR α)(e:α->V):(s.L e).take 6=s.L e:=rfl
theorem aie{α:Type}(s:aR α)(e:α->V){i:Nat}(h:i<6):((s.L e).drop i).take 1=[e (s.get i)]:=by
 match i,h with
 | 0,_=>rfl
 | 1,_=>rfl
 | 2,_=>rfl
 | 3,_=>rfl
 | 4,_=>rfl
 | 5,_=>rfl
@[go_sem] theorem aid{α:Type}(s:aR α)(e:α->V):(s.L e).length=6:=rfl
attribute [go_sem] Nat.mul_one
def fW(s:Stk)(i:Nat):Bool:=aT (s.se.get i) 0 99999&&aT (s.ta.get i) 0 99999&&cj (s.un.get i)&&((s.un.get i).length==0||((s.un.get i).getD ((s.un.get i).length-1) default).no==s.se.get i)
def cp(me:Int)(s:Stk):Bool:=aT me 0 5&&fZ s.ho&&((s.un.get me.toNat).length==0)&&(s.se.get me.toNat==0)&&(s.ta.get me.toNat==0)&&gY 6 (fW s)
theorem ev{α:Type}{l:List α}:decide ((l.length:Int)>0)=!(l.length==0):=by
 cases l with
 |nil=>rfl
 |cons a r=>
  have h1:((a::r).length==0)=false:=rfl
  rw[h1]
  simp
theorem Ji{l:List Par}(hl:l.length<=maxLen):∃ p:Nat,(IntKind.i64.wrap ((l.length:Int)-1)).toNat=p/\p=l.length-1/\((l.length==0)=false->p<l.length/\0<=IntKind.i64.wrap ((l.length:Int)-1)/\IntKind.i64.wrap ((l.length:Int)-1)<l.length):=by
 unfold maxLen at hl
 by_cases h:l.length=0
 ·exact⟨0,by rw[h];decide,by omega,fun h2=>by rw[h]at h2;cases h2⟩
 ·have:IntKind.i64.wrap ((l.length:Int)-1)=((l.length-1:Nat):Int):=by rw[wrap_i64 (by omega) (by omega)];omega
  exact⟨l.length-1,by rw[this];rfl,rfl,fun _=>by omega⟩
theorem ae6{me:Int}{s:Stk}{i:Nat}(hi:i<6)(h:fW s i=false):cp me s=false:=by
 unfold cp
 rw[gI hi h,Bool.and_false]
theorem sP{s:Stk}(h:V.wfL [.agg (aA s)]){i:Nat}(hi:i<6):(s.un.get i).length<=maxLen:=by
 have h1:V.wfL (aA s):=h.1
 have h2:rowP (s.un.get i)∈aA s:=by
  match i,hi with
  | 0,_=>simp[aA,aR.L,aR.get]
  | 1,_=>simp[aA,aR.L,aR.get]
  | 2,_=>simp[aA,aR.L,aR.get]
  | 3,_=>simp[aA,aR.L,aR.get]
  | 4,_=>simp[aA,aR.L,aR.get]
  | 5,_=>simp[aA,aR.L,aR.get]
 have h3:=(GM h1 _ h2).1
 simpa using h3
theorem Ty{l:List Par}{i p:Nat}(hp:p=i-1)(hi:i<l.length)(b9:p<l.length):
 (!aT l[i].pa 1 999||(!aT l[i].no 1 99999||(!(i==0)&&(l[i].no != l[p].no+1))))=!fY l i:=by
 rw[<-Ik hp hi b9]
 have :(l[i].no != l[p].no+1)=(l[p].no+1 != l[i].no):=by
  rw[Bool.eq_iff_iff,bne_iff_ne,bne_iff_ne];exact⟨fun h=>h.symm,fun h=>h.symm⟩
 rw[this]
 cases aT l[i].no 1 99999<;>cases aT l[i].pa 1 999<;>rfl
noncomputable def P85:PSpec:=p1 dJ (fun _=>True) (fun l=>.bool (fZ l)) true
noncomputable def S85:Spec:=P85.toSpec
attribute [go_sem] P85 S85
set_option maxHeartbeats 4000000 in
theorem Sn:aZ Tryd.prog 91 P85:=by
 refine w1 (rs:=[.tmp 2]) Tryd.func91 Tryd.ntmps91 (by rfl) (by kernel_rfl) (by decide) (fun _ _=>rfl) ⟨_,rfl,lb rfl,fun l hp hw=>?_⟩
 have hP:=br
 simp only[dJ]at hw |-
 have hΓ:=A2
 have hl:l.length<=maxLen:=by have:=hw.1.1;simpa using this
 repeat refine sq ?_
 refine rs hΓ [0] [] ?_
 repeat refine sq ?_
 refine rs hΓ [0,3] [] ?_
 repeat refine sq ?_
 refine a8 ?_
 repeat refine sq ?_
 refine dR (fun s:Nat=>[(3,⟨true,.v (vInt s)⟩)]) (fun s=>[]) (fun s=>s<=l.length/\gY s (kC l)=true) (fun s=>l.length-s) 0 ?_ ?_ ?_ ?_
 ·exact⟨Nat.zero_le _,rfl⟩
 ·rfl
 ·rfl
 rintro i ⟨hi,hR⟩
 simp only[go_sem]
 repeat refine sq ?_
 refine rs hΓ [0,3,7] [] ?_
 repeat refine sq ?_
 refine aD rfl rfl (fun hb=>?_) (fun hb=>?_)
 ·have ae:i<l.length:=by simpa using hb
  have aq:(i:Int)<l.length:=by omega
  clear hb
  obtain⟨p,hp,b9,gB,bR⟩:=ya ae hl
  have eJ:=Io gB ae b9
  repeat refine sq ?_
  refine aI ?_
  repeat refine sq ?_
  refine a8 ?_
  repeat refine sq ?_
  refine dx hΓ hP [[],[],[0,1],[0,1,2],[0,1,2,3],[0,1,2,3,4],[0,1,2,3,4,5],[0,1,2,3,4,5,6],[0,1,2,3,4,5,6,7],[0,1,2,3,4,5,6,7,8],[0,1,2,3,4,5,6,7,8,9],[0,1,2,3,4,5,6,7,8,9],[0,1,2,3,4,5,6,7,8,9,11],[0,1,2,3,4,5,6,7,8,9,10,11,12],[0,1,2,3,4,5,6,7,8,9,10,11,12,13],[0,1,2,3,4,5,6,7,8,9],[0,1,2,3,4,5,6,7,8,9],[0,1,2,3,4,5,6,7,8,9,15,16],[0,1,2,3,4,5,6,7,8,9,15,16,17],[0,1,2,3,4,5,6,7,8,9,10,11,12,13,14,15,16,17,18],[0,1,2,3,4,5,6,7,8,9,10,11,12,13,14,15,16,17,18,19],[0,1,2,3,4,5,6,7,8,9,10,11,12,13,14,15,16,17,18,19,20]] [0,3,31] [] (by kernel_rfl) (fun K' hK=>by simp only[go_sem,aK ae,Int.toNat_natCast,Int.natCast_nonneg,aq,hp,aK ae,aK b9,Int.toNat_natCast,Int.natCast_nonneg,aq,th,not_lt];(repeat (refine⟨by first | exact ob | exact fun h=>bR (by simp_all;omega) | (intro h;have:=bR (by simp_all;omega);simp_all;done),?_⟩));(first | refine⟨by rfl,?_⟩ | skip);exact hK _ (by simp only[go_sem]) (by simp only[go_sem]<;>rfl)) ?_
  repeat refine sq ?_
  refine aD rfl rfl (fun hb=>?_) (fun hb=>?_)
  ·repeat refine sq ?_
   have bV:kC l i=false:=by simpa[eJ]using hb
   repeat refine sq ?_
   refine rx hΓ [2] [] (fun K' hK=>by simp only[go_sem,aK ae,Int.toNat_natCast,Int.natCast_nonneg,aq];(repeat (refine⟨ob,?_⟩));exact hK _ (by simp only[go_sem]) (by simp only[go_sem]<;>rfl)) ?_
   refine ax ?_
   simp only[go_sem]
   simp only[fZ,gI ae bV,Bool.false_and]
  ·repeat refine sq ?_
   have bL:kC l i=true:=by simpa[eJ]using hb
   refine aI ?_
   refine eo ?_
   simp only[go_sem]
   refine kp [0,3] [] ?_
   repeat refine sq ?_
   refine bc hΓ fun K' hK=>?_
   simp only[go_sem,aK ae,Int.toNat_natCast,Int.natCast_nonneg,aq]
   repeat (refine⟨ob,?_⟩)
   refine hK _ ?_
   clear K' hK
   simp only[go_sem]
   refine⟨i+1,⟨ae,?_⟩,by(show l.length-(i+1)<l.length-i;omega),?_⟩
   ·exact mL hR bL
   refine bJ [0,3] [] ?_ ?_
   ·simp only[go_sem,aM ae hl,Int.natCast_add,Int.natCast_one]
   ·simp only[go_sem,aM ae hl,Int.natCast_add,Int.natCast_one]
 ·have bo:i=l.length:=by
   have :¬ (i:Int)<l.length:=by simpa using hb
   omega
  clear hb
  subst bo
  repeat refine sq ?_
  refine di ?_
  simp only[go_sem]
  refine kp [0] [] ?_
  repeat refine sq ?_
  refine rs hΓ [2] [] ?_
  refine ax ?_
  simp only[go_sem]
  simp only[fZ,hR,Bool.true_and]
  try (congr 2;apply propext;omega)
theorem KE:ak Tryd.prog 91 S85:=Sn.sound
noncomputable def P88:PSpec:=p1 kG (fun _=>True) (fun l=>.bool (cj l)) true
noncomputable def S88:Spec:=P88.toSpec
attribute [go_sem] P88 S88
set_option maxHeartbeats 4000000 in
theorem Sk:aZ Tryd.prog 93 P88:=by
 refine w1 (rs:=[.tmp 2]) Tryd.func93 Tryd.ntmps93 (by rfl) (by kernel_rfl) (by decide) (fun _ _=>rfl) ⟨_,rfl,lb rfl,fun l hp hw=>?_⟩
 have hP:=br
 simp only[kG]at hw |-
 have hΓ:=A2
 have hl:l.length<=maxLen:=by have:=hw.1.1;simpa using this
 repeat refine sq ?_
 refine rs hΓ [0] [] ?_
 repeat refine sq ?_
 refine rs hΓ [0,3] [] ?_
 repeat refine sq ?_
 refine a8 ?_
 repeat refine sq ?_
 refine dR (fun s:Nat=>[(3,⟨true,.v (vInt s)⟩)]) (fun s=>[]) (fun s=>s<=l.length/\gY s (fY l)=true) (fun s=>l.length-s) 0 ?_ ?_ ?_ ?_
 ·exact⟨Nat.zero_le _,rfl⟩
 ·rfl
 ·rfl
 rintro i ⟨hi,hR⟩
 simp only[go_sem]
 repeat refine sq ?_
 refine rs hΓ [0,3,7] [] ?_
 repeat refine sq ?_
 refine aD rfl rfl (fun hb=>?_) (fun hb=>?_)
 ·have ae:i<l.length:=by simpa using hb
  have aq:(i:Int)<l.length:=by omega
  clear hb
  obtain⟨p,hp,b9,gB,bR⟩:=ya ae hl
  have eJ:=Ty gB ae b9
  repeat refine sq ?_
  refine aI ?_
  repeat refine sq ?_
  refine a8 ?_
  repeat refine sq ?_
  rcases Nat.eq_zero_or_pos i with h0 | h0
  ·have ew:(i==0)=true:=by simp[h0]
   repeat refine sq ?_
   refine dx hΓ hP [[],[],[0,1],[0,1,2],[0,1,2,3],[0,1,2,3,4],[0,1,2,3,4,5],[0,1,2,3,4,5,6],[0,1,2,3,4,5,6,7],[0,1,2,3,4,5,6,7],[0,1,2,3,4,5,6,7,8,9],[0,1,2,3,4,5,6,7,8,9,10],[0,1,2,3,4,5,6,7,8,9,10,11],[0,1,2,3,4,5,6,7,8,9,10,11,12],[0,1,2,3,4,5,6,7,8,9,10,11,12,13],[0,1,2,3,4,5,6,7,8,9,10,11,12,13,14],[0,1,2,3,4,5,6,7,8,9,10,11,12,13,14,15],[0,1,2,3,4,5,6,7,8,9,10,11,12,13,14,15,16],[0,1,2,3,4,5,6,7,8,9,10,11,12,13,14,15,16,17],[0,1,2,3,4,5,6,7,8,9,10,11,12,13,14,15,16,17,18],[0,1,2,3,4,5,6,7,8,9,10,11,12,13,14,15,16,17,18,19],[0,1,2,3,4,5,6,7,8,9,10,11,12,13,14,15,16,17,18,19],[0,1,2,3,4,5,6,7,8,9,10,11,12,13,14,15,16,17,18,19,20,21],[0,1,2,3,4,5,6,7,8,9,10,11,12,13,14,15,16,17,18,19,20,21,22],[0,1,2,3,4,5,6,7,8,9,10,11,12,13,14,15,16,17,18,19,20,21,22,23],[0,1,2,3,4,5,6,7,8,9,10,11,12,13,14,15,16,17,18,19],[0,1,2,3,4,5,6,7,8,9,10,11,12,13,14,15,16,17,18,19],[0,1,2,3,4,5,6,7,8,9,10,11,12,13,14,15,16,17,18,19,26],[0,1,2,3,4,5,6,7,8,9,10,11,12,13,14,15,16,17,18,19,25,26,27],[0,1,2,3,4,5,6,7,8,9,10,11,12,13,14,15,16,17,18,19,25,26,27,28],[0,1,2,3,4,5,6,7,8,9,10,11,12,13,14,15,16,17,18,19,25,26,27,28,29],[0,1,2,3,4,5,6,7,8,9,10,11,12,13,14,15,16,17,18,19,25,26,27,28,29,30],[0,1,2,3,4,5,6,7,8,9,10,11,12,13,14,15,16,17,18,19,20,21,22,23,24,25,26,27,28,29,30,31],[0,1,2,3,4,5,6,7,8,9,10,11,12,13,14,15,16,17,18,19,20,21,22,23,24,25,26,27,28,29,30,31,32],[0,1,2,3,4,5,6,7,8,9,10,11,12,13,14,15,16,17,18,19,20,21,22,23,24,25,26,27,28,29,30,31,32,33]] [0,3,44] [] (by kernel_rfl) (fun K' hK=>by simp only[go_sem,aK ae,Int.toNat_natCast,Int.natCast_nonneg,aq,ew,hp,aK ae,aK b9,Int.toNat_natCast,Int.natCast_nonneg,aq,th,not_lt];(repeat (refine⟨by first | exact ob | exact fun _=>⟨dC,dM,rfl⟩ | exact fun _=>⟨dC,dM⟩,?_⟩));(first | refine⟨by rfl,?_⟩ | skip);exact hK _ (by simp only[go_sem]) (by simp only[go_sem]<;>rfl)) ?_
   repeat refine sq ?_
   refine aD rfl rfl (fun hb=>?_) (fun hb=>?_)
   ·repeat refine sq ?_
    have bV:fY l i=false:=by simpa[ew,hb]using eJ.symm
    repeat refine sq ?_
    refine rx hΓ [2] [] (fun K' hK=>by simp only[go_sem,aK ae,Int.toNat_natCast,Int.natCast_nonneg,aq,ew];(repeat (refine⟨ob,?_⟩));exact hK _ (by simp only[go_sem]) (by simp only[go_sem]<;>rfl)) ?_
    refine ax ?_
    simp only[go_sem]
    first | simp only[cj,gI ae bV,Bool.false_and] | (simp only[cj,hR,Bool.true_and];done) | (simp only[cj,hR,Bool.true_and];congr 2;apply propext;omega)
   ·repeat refine sq ?_
    have bL:fY l i=true:=by simpa[ew,hb]using eJ.symm
    refine aI ?_
    refine eo ?_
    simp only[go_sem]
    refine kp [0,3] [] ?_
    repeat refine sq ?_
    refine bc hΓ fun K' hK=>?_
    simp only[go_sem,aK ae,Int.toNat_natCast,Int.natCast_nonneg,aq,ew]
    repeat (refine⟨ob,?_⟩)
    refine hK _ ?_
    clear K' hK
    simp only[go_sem]
    refine⟨i+1,⟨ae,?_⟩,by(show l.length-(i+1)<l.length-i;omega),?_⟩
    ·exact mL hR bL
    refine bJ [0,3] [] ?_ ?_
    ·simp only[go_sem,aM ae hl,Int.natCast_add,Int.natCast_one]
    ·simp only[go_sem,aM ae hl,Int.natCast_add,Int.natCast_one]
  ·have rC:=Ih gB b9 hR h0
   have ew:(i==0)=false:=by rw[beq_eq_false_iff_ne];omega
   obtain⟨dC,dM⟩:=bR h0
   repeat refine sq ?_
   refine dx hΓ hP [[],[],[0,1],[0,1,2],[0,1,2,3],[0,1,2,3,4],[0,1,2,3,4,5],[0,1,2,3,4,5,6],[0,1,2,3,4,5,6,7],[0,1,2,3,4,5,6,7],[0,1,2,3,4,5,6,7,8,9],[0,1,2,3,4,5,6,7,8,9,10],[0,1,2,3,4,5,6,7,8,9,10,11],[0,1,2,3,4,5,6,7,8,9,10,11,12],[0,1,2,3,4,5,6,7,8,9,10,11,12,13],[0,1,2,3,4,5,6,7,8,9,10,11,12,13,14],[0,1,2,3,4,5,6,7,8,9,10,11,12,13,14,15],[0,1,2,3,4,5,6,7,8,9,10,11,12,13,14,15,16],[0,1,2,3,4,5,6,7,8,9,10,11,12,13,14,15,16,17],[0,1,2,3,4,5,6,7,8,9,10,11,12,13,14,15,16,17,18],[0,1,2,3,4,5,6,7,8,9,10,11,12,13,14,15,16,17,18,19],[0,1,2,3,4,5,6,7,8,9,10,11,12,13,14,15,16,17,18,19],[0,1,2,3,4,5,6,7,8,9,10,11,12,13,14,15,16,17,18,19,20,21],[0,1,2,3,4,5,6,7,8,9,10,11,12,13,14,15,16,17,18,19,20,21,22],[0,1,2,3,4,5,6,7,8,9,10,11,12,13,14,15,16,17,18,19,20,21,22,23],[0,1,2,3,4,5,6,7,8,9,10,11,12,13,14,15,16,17,18,19],[0,1,2,3,4,5,6,7,8,9,10,11,12,13,14,15,16,17,18,19],[0,1,2,3,4,5,6,7,8,9,10,11,12,13,14,15,16,17,18,19,26],[0,1,2,3,4,5,6,7,8,9,10,11,12,13,14,15,16,17,18,19,25,26,27],[0,1,2,3,4,5,6,7,8,9,10,11,12,13,14,15,16,17,18,19,25,26,27,28],[0,1,2,3,4,5,6,7,8,9,10,11,12,13,14,15,16,17,18,19,25,26,27,28,29],[0,1,2,3,4,5,6,7,8,9,10,11,12,13,14,15,16,17,18,19,25,26,27,28,29,30],[0,1,2,3,4,5,6,7,8,9,10,11,12,13,14,15,16,17,18,19,20,21,22,23,24,25,26,27,28,29,30,31],[0,1,2,3,4,5,6,7,8,9,10,11,12,13,14,15,16,17,18,19,20,21,22,23,24,25,26,27,28,29,30,31,32],[0,1,2,3,4,5,6,7,8,9,10,11,12,13,14,15,16,17,18,19,20,21,22,23,24,25,26,27,28,29,30,31,32,33]] [0,3,44] [] (by kernel_rfl) (fun K' hK=>by simp only[go_sem,aK ae,Int.toNat_natCast,Int.natCast_nonneg,aq,rC,ew,dC,dM,hp,aK ae,aK b9,Int.toNat_natCast,Int.natCast_nonneg,aq,th,not_lt];(repeat (refine⟨by first | exact ob | exact fun _=>⟨dC,dM,rfl⟩ | exact fun _=>⟨dC,dM⟩,?_⟩));(first | refine⟨by rfl,?_⟩ | skip);exact hK _ (by simp only[go_sem]) (by simp only[go_sem]<;>rfl)) ?_
   repeat refine sq ?_
   refine aD rfl rfl (fun hb=>?_) (fun hb=>?_)
   ·repeat refine sq ?_
    have bV:fY l i=false:=by simpa[ew,<-Bool.or_assoc,hb]using eJ.symm
    repeat refine sq ?_
    refine rx hΓ [2] [] (fun K' hK=>by simp only[go_sem,aK ae,Int.toNat_natCast,Int.natCast_nonneg,aq,rC,ew,dC,dM];(repeat (refine⟨ob,?_⟩));exact hK _ (by simp only[go_sem]) (by simp only[go_sem]<;>rfl)) ?_
    refine ax ?_
    simp only[go_sem]
    first | simp only[cj,gI ae bV,Bool.false_and] | (simp only[cj,hR,Bool.true_and];done) | (simp only[cj,hR,Bool.true_and];congr 2;apply propext;omega)
   ·repeat refine sq ?_
    have bL:fY l i=true:=by simpa[ew,<-Bool.or_assoc,hb]using eJ.symm
    refine aI ?_
    refine eo ?_
    simp only[go_sem]
    refine kp [0,3] [] ?_
    repeat refine sq ?_
    refine bc hΓ fun K' hK=>?_
    simp only[go_sem,aK ae,Int.toNat_natCast,Int.natCast_nonneg,aq,rC,ew,dC,dM]
    repeat (refine⟨ob,?_⟩)
    refine hK _ ?_
    clear K' hK
    simp only[go_sem]
    refine⟨i+1,⟨ae,?_⟩,by(show l.length-(i+1)<l.length-i;omega),?_⟩
    ·exact mL hR bL
    refine bJ [0,3] [] ?_ ?_
    ·simp only[go_sem,aM ae hl,Int.natCast_add,Int.natCast_one]
    ·simp only[go_sem,aM ae hl,Int.natCast_add,Int.natCast_one]
 ·have bo:i=l.length:=by
   have :¬ (i:Int)<l.length:=by simpa using hb
   omega
  clear hb
  subst bo
  repeat refine sq ?_
  refine di ?_
  simp only[go_sem]
  refine kp [0] [] ?_
  repeat refine sq ?_
  refine rs hΓ [2] [] ?_
  refine ax ?_
  simp only[go_sem]
  first | simp only[cj,gI ae bV,Bool.false_and] | (simp only[cj,hR,Bool.true_and];done) | (simp only[cj,hR,Bool.true_and];congr 2;apply propext;omega)
theorem KC:ak Tryd.prog 93 S88:=Sk.sound
noncomputable def K2:List (Nat×Spec):=[(34,S82),(35,S83),(71,S79),(70,S87),(90,S84),(91,S85),(92,S81),(93,S88)]
theorem PB:∀ f s,tbl K2 f=some s->ak Tryd.prog f s:=tc yR<|tc KF<|tc CR<|tc KD<|tc yQ<|tc KE<|tc CQ<|tc KC<|tn
attribute [go_sem] K2
end Go.Eng
