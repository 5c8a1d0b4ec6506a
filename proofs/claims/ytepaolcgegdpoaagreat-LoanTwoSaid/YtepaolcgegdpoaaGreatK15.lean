import Derived.Test.YtepaolcgegdpoaaGreatK14
import GoSem.ClaimChange
import Derived.DataReads
import Derived.ChangeReads
import Derived.ProofKit
import Derived.Carry
import Derived.Test.YtepaolcgegdpoaaGreatRows
import Derived.Test.YtepaolcgegdpoaaGreatChecked
/- LoanTwo is proved: a ledger that numbers describe is sound, or two receipts are double, or one sight, or two, contradict; what is returned is accepted, and of what is sound nothing, at all arguments that the statement covers. -/
set_option linter.all false
namespace Go.Eng
open Go Go.Proofs
theorem Ov:aT Tryz.prog 18 ⟨fun xs=>xs=[],fun _=>.bool true,true⟩:=
 Ps (b:=.bool true) RG (by
  intro fn h
  have e:Tryz.prog.funcs[18]?=some Tryz.f18:=Tryz.func18
  rw[e]at h
  obtain rfl:=Option.some.inj h
  exact(by kernel_rfl:(Tryz.f18.name== "runtime.NumGoroutine")=false)) (by decide) rfl
set_option maxRecDepth 10000
noncomputable section
def Mg:Spec:=(⟨fun xs=>xs=[],fun _=>.bool true,true⟩:PSpec).toSpec
attribute [go_sem] Mg
attribute [local irreducible] uf kg aV nT
theorem Qj(r:Raw){k:Int}(h0:0<=k)(h1:k<300):dE (uf r) [k]=0:=by
 have aa:bN (uf r):=by unfold uf;exact Gl r (Nat.min_le_right _ _)
 rw[<-Xk]
 unfold Dx
 rw[if_neg (by rw[Au.2 aa];decide),if_pos]
 rw[List.all_eq_true]
 intro d hd
 simp only[List.mem_cons,List.not_mem_nil,or_false]at hd
 unfold dayB
 rw[hd]
 exact hU (by omega) (by omega)
def K94:List (Nat×Spec):=[(19,X1),(20,Md),(49,XW),(42,XZ),(43,XY),(50,XV),(51,XU),(18,Mg)]
theorem Yw:KS K94:=tc Om.sound<|tc EJ.sound<|tc Of.sound<|tc Oh.sound<|tc Og.sound<|tc Oe.sound<|tc Od.sound<|tc Ov.sound<|tn
attribute [go_sem] K94
@[go_sem] def P10:PSpec:=p3 uC iI ef (fun _ _ _=>True) (fun _ _ _=>.bool true) true
@[go_sem] def S10:Spec:=P10.toSpec
set_option maxHeartbeats 4000000 in
theorem OS:aT Tryz.prog 10 P10:=by
 refine kC (rs:=[.tmp 6]) Tryz.func10 Tryz.ntmps10 fun r kn az hp hw=>?_
 simp only[iI,ef,uC]at hw |-
 have hΓ:=Yw
 have m3:=dR (n:=kn) (m:=300) (by decide)
 have hd:=Qj r m3.1 m3.2
 repeat refine sq ?_
 refine rx hΓ [1,2,3] [[3,0]] (fun K' hK=>by simp only[go_sem];exact ak) ?_
 repeat refine sq ?_
 refine rx hΓ [1,2,7] [[7,0]] (fun K' hK=>by simp only[go_sem];exact ak) ?_
 repeat refine sq ?_
 refine rx hΓ [1,2,7] [[7,0]] (fun K' hK=>by simp only[go_sem];(repeat (refine⟨by first | exact an | exact⟨by decide,by decide⟩,?_⟩));exact dN) ?_
 rcases M4 hd with⟨a1,a2,a3,a4,a5⟩ | ⟨p,a1,a2,a3,a4⟩ | ⟨a1,a2,a3,a4,a5⟩
 ·repeat refine sq ?_
  refine rx hΓ [1,2,7,9,10] [[7,0]] (fun K' hK=>by simp only[go_sem,a1,a2,a3,a4,a5];exact ak) ?_
  repeat refine sq ?_
  refine rx hΓ [1,2,7,9,10,11,12] [[7,0]] (fun K' hK=>by simp only[go_sem,a1,a2,a3,a4,a5];exact ak) ?_
  repeat refine sq ?_
  refine rx hΓ [1,2,7,9,10,11,12,13,14] [[7,0]] (fun K' hK=>by simp only[go_sem,a1,a2,a3,a4,a5];exact ak) ?_
  repeat refine sq ?_
  refine rx hΓ [1,2,7,9,11,12,13,14,48] [[7,0]] (fun K' hK=>by simp only[go_sem,a1,a2,a3,a4,a5];exact ak) ?_
  repeat refine sq ?_
  refine aB (fun hb=>?_) fun hb=>?_
  ·cases hb
  ·repeat refine sq ?_
   refine aF ?_
   repeat refine sq ?_
   refine rx hΓ [1,2,7,11,12,13,14,49] [[7,0]] (fun K' hK=>by simp only[go_sem,a1,a2,a3,a4,a5];exact ak) ?_
   repeat refine sq ?_
   refine aB (fun hb=>?_) fun hb=>?_
   ·repeat refine sq ?_
    refine rx hΓ [6] [] (fun K' hK=>by simp only[go_sem,a1,a2,a3,a4,a5];exact ak) ?_
    refine av ?_
    simp only[go_sem]
    first | done | rfl
   ·cases hb
 ·repeat refine sq ?_
  refine rx hΓ [1,2,7,9,10] [[7,0]] (fun K' hK=>by simp only[go_sem,a1,a2,a3,a4];exact ak) ?_
  repeat refine sq ?_
  refine rx hΓ [1,2,7,9,10,11,12] [[7,0]] (fun K' hK=>by simp only[go_sem,a1,a2,a3,a4];exact ak) ?_
  repeat refine sq ?_
  refine rx hΓ [1,2,7,9,10,11,12,13,14] [[7,0]] (fun K' hK=>by simp only[go_sem,a1,a2,a3,a4];exact ak) ?_
  repeat refine sq ?_
  refine rx hΓ [1,2,7,9,11,12,13,14,48] [[7,0]] (fun K' hK=>by simp only[go_sem,a1,a2,a3,a4];exact ak) ?_
  repeat refine sq ?_
  refine aB (fun hb=>?_) fun hb=>?_
  ·cases hb
  ·repeat refine sq ?_
   refine aF ?_
   repeat refine sq ?_
   refine rx hΓ [1,2,7,11,12,13,14,49] [[7,0]] (fun K' hK=>by simp only[go_sem,a1,a2,a3,a4];exact ak) ?_
   repeat refine sq ?_
   refine aB (fun hb=>?_) fun hb=>?_
   ·cases hb
   ·repeat refine sq ?_
    refine aF ?_
    repeat refine sq ?_
    refine rx hΓ [1,7,11,13,14,74] [[7,0]] (fun K' hK=>by simp only[go_sem,a1,a2,a3,a4];exact ak) ?_
    repeat refine sq ?_
    refine aB (fun hb=>?_) fun hb=>?_
    ·repeat refine sq ?_
     refine rx hΓ [6] [] (fun K' hK=>by simp only[go_sem,a1,a2,a3,a4];exact ak) ?_
     refine av ?_
     simp only[go_sem]
     first | done | rfl
    ·cases hb
 ·have JB:=a3
  repeat refine sq ?_
  refine rx hΓ [1,2,7,9,10] [[7,0]] (fun K' hK=>by simp only[go_sem,a1,a2,a3,a4,a5];exact ak) ?_
  repeat refine sq ?_
  refine rx hΓ [1,2,7,9,10,11,12] [[7,0]] (fun K' hK=>by simp only[go_sem,a1,a2,a3,a4,a5];exact ak) ?_
  repeat refine sq ?_
  refine rx hΓ [1,2,7,9,10,11,12,13,14] [[7,0]] (fun K' hK=>by simp only[go_sem,a1,a2,a3,a4,a5];exact ak) ?_
  repeat refine sq ?_
  refine rx hΓ [1,2,7,9,11,12,13,14,48] [[7,0]] (fun K' hK=>by simp only[go_sem,a1,a2,a3,a4,a5];exact ak) ?_
  repeat refine sq ?_
  refine aB (fun hb=>?_) fun hb=>?_
  ·cases hb
  ·repeat refine sq ?_
   refine aF ?_
   repeat refine sq ?_
   refine rx hΓ [1,2,7,11,12,13,14,49] [[7,0]] (fun K' hK=>by simp only[go_sem,a1,a2,a3,a4,a5];exact ak) ?_
   repeat refine sq ?_
   refine aB (fun hb=>?_) fun hb=>?_
   ·cases hb
   ·repeat refine sq ?_
    refine aF ?_
    repeat refine sq ?_
    refine rx hΓ [1,7,11,13,14,74] [[7,0]] (fun K' hK=>by simp only[go_sem,a1,a2,a3,a4,a5];exact ak) ?_
    repeat refine sq ?_
    refine aB (fun hb=>?_) fun hb=>?_
    ·cases hb
    ·repeat refine sq ?_
     refine aF ?_
     repeat refine sq ?_
     refine rx hΓ [6] [] (fun K' hK=>by simp only[go_sem,a1,a2,a3,a4,a5];exact ak) ?_
     refine av ?_
     simp only[go_sem]
     first | done | rfl
end
open Go
def gu(P:Program)(t:TypeId):Bool:=match P.underlying t with | some (.struct _)=>true | some (.array _ _)=>true | _=>false
def lI(ag:Bool)(xs:List V):V:=if ag then .agg xs else xs.getD 0 default
def mu(P:Program):List Field->Nat->Nat->Bool
 |[],off,tot=>off==tot
 |f::r,off,tot=>f.offset==off&&mu P r (off+P.cellsOf f.type) tot
def jR(P:Program):Nat->TypeId->Bool
 | 0,_=>false
 |n+1,t=>match P.underlying t with
  |some .bool=>P.cellsOf t==1
  |some (.int _)=>P.cellsOf t==1
  |some .string=>P.cellsOf t==1
  |some (.slice e)=>P.cellsOf t==1&&jR P n e&&decide (0<P.cellsOf e)&&(gu P e||P.cellsOf e==1)
  |some (.struct fs)=>mu P fs.toList 0 (P.cellsOf t)&&fs.toList.all fun f=>jR P n f.type
  |some (.array m e)=>P.cellsOf t==m*P.cellsOf e&&jR P n e
  |_=>false
def vM(S:TypeId->List V->Prop):List TypeId->List V->Prop
 |[],xs=>xs=[]
 |t::r,xs=>∃ a b,xs=a++b/\S t a/\vM S r b
def eT(P:Program):Nat->TypeId->List V->Prop
 | 0,_,_=>False
 |n+1,t,xs=>match P.underlying t with
  |some .bool=>∃ b,xs=[.bool b]
  |some (.int k)=>∃ z,xs=[.int k z]/\(Lit.int k z).wf=true
  |some .string=>∃ s,xs=[.str s]/\s.size<=maxLen
  |some (.slice e)=>∃ ls:List (List V),xs=[.sl (ls.map (lI (gu P e)))]/\ls.length<=maxLen/\∀ y∈ls,eT P n e y
  |some (.struct fs)=>vM (eT P n) (fs.toList.map (·.type)) xs
  |some (.array m e)=>vM (eT P n) (List.replicate m e) xs
  |_=>False
structure gU (m:Mem) (xs:List V) (cs:List Value):Prop where
 len:xs.length=cs.length
 rep:∀ i (h:i<xs.length) (h':i<cs.length),aJ m xs[i] cs[i]
 one:∀ x∈xs,x.one=true
theorem gU.nil(m:Mem):gU m [] []:=⟨rfl,fun i h=>by simp at h,fun x h=>by simp at h⟩
theorem gU.append{m:Mem}{xs ys:List V}{cs ds:List Value}(h:gU m xs cs)(k:gU m ys ds):gU m (xs++ys) (cs++ds):=by
 refine⟨by simp[h.len,k.len],fun i h1 h2=>?_,fun x hx=>?_⟩
 ·by_cases hi:i<xs.length
  ·rw[List.getElem_append_left hi,List.getElem_append_left (by rw[<-h.len];exact hi)]
   exact h.rep i hi _
  ·have hl:=h.len
   have e:i-xs.length=i-cs.length:=by rw[hl]
   rw[List.getElem_append_right (by omega),List.getElem_append_right (by omega)]
   simp only[List.length_append]at h1 h2
   have :=k.rep (i-xs.length) (by omega) (by rw[<-k.len];omega)
   simp only[e]at this |-
   exact this
 ·rcases List.mem_append.1 hx with hx | hx
  ·exact h.one x hx
  ·exact k.one x hx
theorem gU.single{m:Mem}{x:V}{u:Value}(h:aJ m x u)(ho:x.one=true):gU m [x] [u]:=
 ⟨rfl,fun i h1 h2=>by simp at h1;subst h1;exact h,fun y hy=>by simp at hy;subst hy;exact ho⟩
theorem mapM_some{α β:Type}{f:α->Option β}:∀ {l:List α} {r:List β},l.mapM f=some r->r.length=l.length/\∀ i (h:i<l.length) (h':i<r.length),f l[i]=some r[i]
 |[],r,h=>by
  simp only[List.mapM_nil]at h
  cases h
  exact⟨rfl,fun i h=>by simp at h⟩
 |a::l,r,h=>by
  simp only[List.mapM_cons,Option.bind_eq_bind,Option.bind_eq_some_iff]at h
  obtain⟨b,hb,bs,xS,hr⟩:=h
  cases hr
  obtain⟨h1,h2⟩:=mapM_some xS
  refine⟨by simp[h1],fun i hi bA=>?_⟩
  cases i with
  |zero=>exact hb
  |succ i=>exact h2 i (by simpa using hi) (by simpa using bA)
theorem Eg{P:Program}:∀ {fs:List Field} {off tot:Nat},mu P fs off tot=true->off<=tot
 |[],off,tot,h=>by simp[mu]at h;omega
 |f::r,off,tot,h=>by
  simp only[mu,Bool.and_eq_true]at h
  have :=Eg h.2
  omega
theorem Ke{P:Program}{m:Mem}{S:TypeId->List V->Prop}{cs:List Value}:∀ {fs:List Field} {off:Nat},mu P fs off cs.length=true->
 (∀ f∈fs,∃ xs,S f.type xs/\gU m xs ((cs.drop f.offset).take (P.cellsOf f.type)))->∃ xs,vM S (fs.map (·.type)) xs/\gU m xs (cs.drop off)
 |[],off,h,_=>by
  simp[mu]at h
  subst h
  exact⟨[],rfl,by simpa using gU.nil m⟩
 |f::r,off,h,hf=>by
  simp only[mu,Bool.and_eq_true,beq_iff_eq]at h
  obtain⟨h1,h2⟩:=h
  obtain⟨a,ha,dL⟩:=hf f (by simp)
  obtain⟨b,hb,dC⟩:=Ke h2 fun g hg=>hf g (by simp[hg])
  refine⟨a++b,⟨a,b,rfl,ha,hb⟩,?_⟩
  have e:cs.drop off=(cs.drop f.offset).take (P.cellsOf f.type)++cs.drop (off+P.cellsOf f.type):=by
   rw[h1,<-List.drop_drop,List.take_append_drop]
  rw[e]
  exact dL.append dC
theorem LN{m:Mem}{S:TypeId->List V->Prop}{e:TypeId}{k:Nat}{cs:List Value}:∀ (n off:Nat),cs.length=(off+n)*k->
 (∀ i,i<off+n->∃ xs,S e xs/\gU m xs ((cs.drop (i*k)).take k))->∃ xs,vM S (List.replicate n e) xs/\gU m xs (cs.drop (off*k))
 | 0,off,h,_=>by
   have :cs.drop (off*k)=[]:=List.drop_eq_nil_of_le (by rw[h];simp)
   rw[this]
   exact⟨[],rfl,gU.nil m⟩
 |n+1,off,h,hf=>by
  obtain⟨a,ha,dL⟩:=hf off (by omega)
  obtain⟨b,hb,dC⟩:=LN n (off+1) (by rw[h];congr 1;omega) fun i hi=>hf i (by omega)
  refine⟨a++b,⟨a,b,rfl,ha,hb⟩,?_⟩
  have e:cs.drop (off*k)=(cs.drop (off*k)).take k++cs.drop ((off+1)*k):=by
   rw[Nat.succ_mul,<-List.drop_drop,List.take_append_drop]
  rw[e]
  exact dL.append dC
theorem Pw{ag:Bool}{xs:List V}(h:ag=true\/xs.length=1)(ho:∀ x∈xs,x.one=true):(lI ag xs).cells=xs:=by
 cases ag with
 |true=>rfl
 |false=>
  rcases h with h | h
  ·cases h
  match xs,h with
  |[x],_=>
   have :=ho x (by simp)
   show x.cells=[x]
   cases x<;>first | rfl | (simp[V.one]at this)
def jX(w:World):Mem:=fun b off=>w.cell? ⟨b,off,none⟩
theorem LY{a:Addr}(h:a.spot=none)(n:Nat):a.add n=⟨a.block,a.off+n,none⟩:=by
 obtain⟨b,o,s⟩:=a
 simp only at h
 subst h
 unfold Addr.add
 split
 ·rename_i e;subst e;rfl
 ·rfl
theorem wC{H:Type}{enc:TypeId×Value->H}{P:Program}{w:World}{base:Nat}{spare:Nat->Bool}{held:Bool}:
 ∀ (n fuel:Nat) (t:TypeId) (cs:List Value) (r:DataW H×List MemPlace),jR P n t=true->cs.length=P.cellsOf t->DataW.trod enc P w base spare held fuel t cs=some r->∃ xs,eT P n t xs/\gU (jX w) xs cs
 | 0,_,_,_,_,h,_,_=>by simp[jR]at h
 |n+1,0,_,_,_,_,_,h=>by simp[DataW.trod]at h
 |n+1,fuel+1,t,cs,r,hp,hlen,h=>by
  rw[DataW.trod_step]at h
  unfold DataW.trodStep at h
  unfold jR at hp
  unfold eT
  rcases hu:P.underlying t with _ | u
  ·rw[hu]at hp;simp at hp
  rw[hu]at hp h
  cases u with
  |bool=>
   have hb:∃ b,cs=[.bool b]:=by
    simp only at h
    split at h<;>simp_all
   obtain⟨b,rfl⟩:=hb
   exact⟨_,⟨b,rfl⟩,.single (.bool _) rfl⟩
  |int k=>
   simp only at hp h |-
   split at h<;>simp_all
   obtain⟨⟨rfl,h1⟩,_⟩:=h
   exact⟨_,⟨_,rfl,h1⟩,.single (.int _ _) rfl⟩
  |string=>
   simp only at hp h |-
   split at h<;>simp_all
   obtain⟨h1,_⟩:=h
   exact⟨_,⟨_,rfl,h1⟩,.single (.str _ h1) rfl⟩
  |slice e=>
   simp only[Bool.and_eq_true,decide_eq_true_eq,Bool.or_eq_true,beq_iff_eq]at hp |-
   obtain⟨⟨⟨_,xv⟩,cv⟩,UK⟩:=hp
   split at h<;>simp_all
   ·exact⟨_,⟨[],rfl,Nat.zero_le _,by simp⟩,.single (.slnil _ _) rfl⟩
   ·rename_i e' a len cap _ _
    obtain⟨⟨hb,TD,hcm⟩,h⟩:=h
    simp only[Option.bind_eq_some_iff]at h
    obtain⟨elems,nV,_⟩:=h
    obtain⟨l1,l2⟩:=mapM_some nV
    simp only[List.length_range]at l1
    have hx:∀ i,i<len->∃ xs cells,w.cells? base (a.add (i*P.cellsOf e')) (P.cellsOf e')=some cells/\eT P n e' xs/\gU (jX w) xs cells:=by
     intro i hi
     have h3:=l2 i (by simpa using hi) (by omega)
     simp only[List.getElem_range,Option.bind_eq_some_iff]at h3
     obtain⟨cells,h4,h5⟩:=h3
     obtain⟨xs,h6,h7⟩:=wC n fuel _ _ _ xv (World.cells?_some h4).2.1 h5
     exact⟨xs,cells,h4,h6,h7⟩
    rcases Nat.eq_zero_or_pos len with hz | Tl
    ·subst hz
     exact⟨[.sl []],⟨[],rfl,Nat.zero_le _,by simp⟩,.single (.slnil _ _) rfl⟩
    have Bs:a.spot=none:=by
     obtain⟨xs,cells,h4,_⟩:=hx 0 Tl
     have h8:=(World.cells?_some h4).2.2 0 cv
     have h9:=(World.cells?_some h4).2.1
     have qG:w.cell? ((a.add (0*P.cellsOf e')).add 0)=some (cells[0]'(by omega)):=by rw[h8];exact List.getElem?_eq_getElem (by omega)
     simpa[Addr.add]using World.cell?_spot qG
    let X:Nat->List V:=fun i=>if h:i<len then Classical.choose (hx i h)else[]
    let C:Nat->List Value:=fun i=>(w.cells? base (a.add (i*P.cellsOf e')) (P.cellsOf e')).getD []
    have hX:∀ i,i<len->eT P n e' (X i)/\gU (jX w) (X i) (C i)/\(C i).length=P.cellsOf e'/\∀ j,j<P.cellsOf e'->w.cell? ⟨a.block,a.off+i*P.cellsOf e'+j,none⟩=(C i)[j]?:=by
     intro i hi
     obtain⟨cells,h4,h6,h7⟩:=Classical.choose_spec (hx i hi)
     have e1:X i=Classical.choose (hx i hi):=dif_pos hi
     have e2:C i=cells:=by show (w.cells? _ _ _).getD []=cells;rw[h4];rfl
     rw[e1,e2]
     refine⟨h6,h7,(World.cells?_some h4).2.1,fun j hj=>?_⟩
     have h8:=(World.cells?_some h4).2.2 j hj
     rw[LY Bs,LY rfl]at h8
     exact h8
    have kS:∀ i,i<len->(lI (gu P e') (X i)).cells=X i:=fun i hi=>by
     obtain⟨h1,h2,h3,_⟩:=hX i hi
     refine Pw ?_ h2.one
     rcases UK with h | h
     ·exact .inl h
     ·exact .inr (by rw[h2.len,h3,h])
    refine⟨[.sl (((List.range len).map X).map (lI (gu P e')))],⟨(List.range len).map X,rfl,by simp;omega,fun y hy=>?_⟩,.single ?_ rfl⟩
    ·simp only[List.mem_map,List.mem_range]at hy
     obtain⟨i,hi,rfl⟩:=hy
     exact(hX i hi).1
    ·obtain⟨b,o,s⟩:=a
     simp only at Bs hX
     subst Bs
     have key:=aJ.sl (m:=jX w) (((List.range len).map X).map (lI (gu P e'))) b o cap (P.cellsOf e') (fun i j=>((C i)[j]?).getD undef) (by
         intro h;have:=congrArg List.length h;simp at this;omega) (by simp;omega) (by simpa using TD)
      (fun i hi=>by
        have bA:i<len:=by simpa using hi
        obtain⟨h1,h2,h3,_⟩:=hX i bA
        simp only[List.getElem_map,List.getElem_range]
        rw[kS i bA,h2.len,h3])
      (fun i j hi hj=>by
        have bA:i<len:=by simpa using hi
        obtain⟨h1,h2,h3,h4⟩:=hX i bA
        show w.cell? _=_
        rw[h4 j hj,List.getElem?_eq_getElem (by omega)]
        rfl)
      (fun i j hi hj=>by
        have bA:i<len:=by simpa using hi
        obtain⟨h1,h2,h3,h4⟩:=hX i bA
        simp only[List.getElem_map,List.getElem_range,kS i bA]at hj |-
        have fK:j<(C i).length:=by rw[<-h2.len];exact hj
        rw[List.getElem?_eq_getElem fK]
        exact h2.rep j hj fK)
      (fun i hi x hx=>by
        have bA:i<len:=by simpa using hi
        simp only[List.getElem_map,List.getElem_range,kS i bA]at hx
        exact(hX i bA).2.1.one x hx)
     simpa using key
  |struct fs=>
   simp only[Bool.and_eq_true,List.all_eq_true]at hp h |-
   obtain⟨ht,dU⟩:=hp
   rw[if_pos hlen]at h
   simp only[Option.map_eq_some_iff]at h
   obtain⟨ys,Bn,_⟩:=h
   obtain⟨l1,l2⟩:=mapM_some Bn
   have :=Ke (m:=jX w) (S:=eT P n) (cs:=cs) (fs:=fs.toList) (off:=0) (by rw[hlen];exact ht) fun f hf=>by
    obtain⟨i,hi,rfl⟩:=List.mem_iff_getElem.1 hf
    have h3:=l2 i hi (by omega)
    have hle:P.cellsOf fs.toList[i].type<=(cs.drop fs.toList[i].offset).length:=by
     have key:∀ (l:List Field) (off tot:Nat),mu P l off tot=true->∀ f∈l,f.offset+P.cellsOf f.type<=tot:=by
      intro l
      induction l with
      |nil=>intro _ _ _ f hf;simp at hf
      |cons g r ih=>
       intro off tot h f hf
       simp only[mu,Bool.and_eq_true,beq_iff_eq]at h
       rcases List.mem_cons.1 hf with rfl | hf
       ·have:=Eg h.2;omega
       ·exact ih _ _ h.2 f hf
     have :=key _ _ _ ht _ hf
     simp only[List.length_drop]
     omega
    exact wC n fuel _ _ _ (dU _ hf) (by rw[List.length_take];omega) h3
   simpa using this
  |array m e=>
   simp only[Bool.and_eq_true,beq_iff_eq]at hp h |-
   obtain⟨ht,xv⟩:=hp
   rw[if_pos hlen]at h
   simp only[Option.map_eq_some_iff]at h
   obtain⟨ys,Bn,_⟩:=h
   obtain⟨l1,l2⟩:=mapM_some Bn
   have :=LN (m:=jX w) (S:=eT P n) (e:=e) (k:=P.cellsOf e) (cs:=cs) m 0 (by rw[hlen,ht];simp) fun i hi=>by
    have bA:i<m:=by omega
    have h3:=l2 i (by simpa using bA) (by rw[l1];simpa using bA)
    simp only[List.getElem_range]at h3
    have hle:i*P.cellsOf e+P.cellsOf e<=cs.length:=by
     rw[hlen,ht,<-Nat.succ_mul];exact Nat.mul_le_mul_right _ bA
    exact wC n fuel _ _ _ xv (by rw[List.length_take,List.length_drop];omega) h3
   simpa using this
  |_=>simp at hp
open Go Go.RowKit Go.ChangeShapes Go.WideShapes Go.ChangeAt
theorem PJ{P:Program}{n:Nat}{t:TypeId}{W:World}{r:Reach}{base:Nat}{v:Value}(hp:jR P n t=true)(h:Value.okWide P W r base t v):
 v.cells.size=P.cellsOf t/\(gu P t=true->∃ cs,v=.agg cs)/\(gu P t=false->v.cells= #[v]/\P.cellsOf t=1):=by
 cases n with
 |zero=>simp[jR]at hp
 |succ n=>
  unfold jR at hp
  unfold gu
  rcases hu:P.underlying t with _ | u
  ·rw[hu]at hp;simp at hp
  rw[hu]at hp
  cases u with
  |bool=>
   obtain⟨b,rfl⟩:=okWide_bool hu h
   simp only[beq_iff_eq]at hp
   exact⟨by simp[Value.cells,hp],by simp,fun _=>⟨rfl,hp⟩⟩
  |int k=>
   obtain⟨b,rfl⟩:=okWide_int hu h
   simp only[beq_iff_eq]at hp
   exact⟨by simp[Value.cells,hp],by simp,fun _=>⟨rfl,hp⟩⟩
  |string=>
   obtain⟨b,rfl⟩:=okWide_string hu h
   simp only[beq_iff_eq]at hp
   exact⟨by simp[Value.cells,hp],by simp,fun _=>⟨rfl,hp⟩⟩
  |slice e=>
   obtain⟨a,len,cap,rfl⟩:=okWide_slice hu h
   simp only[Bool.and_eq_true,beq_iff_eq]at hp
   exact⟨by simp[Value.cells,hp.1.1.1],by simp,fun _=>⟨rfl,hp.1.1.1⟩⟩
  |struct fs=>
   simp only[Value.okWide,hu]at h
   obtain⟨cs,rfl,h2,_⟩:=h
   exact⟨h2,fun _=>⟨cs,rfl⟩,fun h=>by simp at h⟩
  |array m e=>
   simp only[Value.okWide,hu]at h
   obtain⟨cs,rfl,h2,_⟩:=h
   exact⟨h2,fun _=>⟨cs,rfl⟩,fun h=>by simp at h⟩
  |_=>simp at hp
def vT(P:Program)(n:Nat)(t:TypeId)(x:V):Prop:=∃ xs,eT P n t xs/\x=lI (gu P t) xs
def tu(P:Program)(n:Nat):List TypeId->List V->Prop
 |[],xs=>xs=[]
 |t::r,xs=>∃ x ys,xs=x::ys/\vT P n t x/\tu P n r ys
theorem Xn{H:Type}{enc:TypeId×Value->H}{P:Program}{w:World}{b0:Nat}{spare:Nat->Bool}{held:Bool}{n:Nat}{t:TypeId}{r:Reach}{base:Nat}{v:Value}{d:DataW H}{ps:List MemPlace}
 (hp:jR P n t=true) (h:Value.okWide P w r base t v) (ht:DataW.Trod enc P w b0 spare held t v d ps):∃ x,vT P n t x/\aJ (jX w) x v:=by
 obtain⟨h1,h2,h3⟩:=PJ hp h
 obtain⟨fuel,hf⟩:=ht
 obtain⟨xs,k1,k2⟩:=wC n fuel t v.cells.toList _ hp (by simpa using h1) hf
 refine⟨lI (gu P t) xs,⟨xs,k1,rfl⟩,?_⟩
 cases ha:gu P t with
 |true=>
  obtain⟨cs,rfl⟩:=h2 ha
  simp only[lI,if_true]
  refine .agg xs cs (by simpa[Value.cells]using k2.len) k2.one fun i h h'=>?_
  have :=k2.rep i h (by simpa[Value.cells]using h')
  simpa[Value.cells]using this
 |false=>
  obtain⟨h4,h5⟩:=h3 ha
  have hl:xs.length=1:=by rw[k2.len];simp[h4]
  match xs,hl with
  |[x],_=>
   have :=k2.rep 0 (by simp) (by simp[h4])
   simp only[lI,Bool.false_eq_true,if_false,List.getD_cons_zero]
   simpa[h4]using this
theorem LP{H:Type}{enc:TypeId×Value->H}{P:Program}{w:World}{b0:Nat}{spare:Nat->Bool}{held:Bool}{n:Nat}{r:Reach}{base:Nat}:∀ {ts:List TypeId} {vs:List Value} {ds:List (DataW H)} {ps:List MemPlace},
 (∀ t∈ts,jR P n t=true)->(∀ (j:Nat) t v,ts[j]?=some t->vs[j]?=some v->Value.okWide P w r base t v)->DataW.TrodAll enc P w b0 spare held ts vs ds ps->∃ xs,tu P n ts xs/\rp (jX w) xs vs
 |[],vs,ds,ps,_,_,h=>by
  cases vs with
  |nil=>exact⟨[],rfl,rfl,fun i h=>by simp at h⟩
  |cons=>cases ds<;>simp[DataW.TrodAll]at h
 |t::ts,[],ds,ps,_,_,h=>by cases ds<;>simp[DataW.TrodAll]at h
 |t::ts,v::vs,[],ps,_,_,h=>by simp[DataW.TrodAll]at h
 |t::ts,v::vs,d::ds,ps,hp,hv,h=>by
  obtain⟨p,q,h1,h2,_⟩:=h
  obtain⟨x,k1,k2⟩:=Xn (hp t (by simp)) (hv 0 t v rfl rfl) h1
  obtain⟨ys,k3,k4,k5⟩:=LP (fun t ht=>hp t (by simp[ht])) (fun j t v h h'=>hv (j+1) t v (by simpa using h) (by simpa using h')) h2
  refine⟨x::ys,⟨x,ys,rfl,k1,k3⟩,by simp[k4],fun i hi bA=>?_⟩
  cases i with
  |zero=>exact k2
  |succ i=>exact k5 i (by simpa using hi) (by simpa using bA)
theorem LO{H:Type}{enc:TypeId×Value->H}{P:Program}(hl:laidOutB P=true){W W':World}(hb:Below W.heap.size W W'):∀ {ts:List TypeId} {vs:List Value} {ds:List (DataW H)} {ps:List MemPlace},
 (∀ t∈ts,P.readableRec t=true/\t<P.types.size)->DataW.TrodAll enc P W 0 (fun _=>true) true ts vs ds ps->(∀ x∈ps,x.block<W.heap.size)->DataW.TrodAll enc P W' 0 (fun b=>decide (b<W.heap.size)) true ts vs ds ps
 |[],vs,ds,ps,_,h,_=>by
  cases vs<;>cases ds<;>simp_all[DataW.TrodAll]
 |t::ts,[],ds,ps,_,h,_=>by cases ds<;>simp[DataW.TrodAll]at h
 |t::ts,v::vs,[],ps,_,h,_=>by simp[DataW.TrodAll]at h
 |t::ts,v::vs,d::ds,ps,hr,h,ab=>by
  obtain⟨p,q,h1,h2,rfl⟩:=h
  exact⟨p,q,Below.trod hl (hr t (by simp)).1 (hr t (by simp)).2 h1 hb (fun x hx=>ab x (by simp[hx])),
   LO hl hb (fun t ht=>hr t (by simp[ht])) h2 (fun x hx=>ab x (by simp[hx])),rfl⟩
theorem Ed{H:Type}{enc:TypeId×Value->H}{P:Program}{w:World}{b0:Nat}{spare:Nat->Bool}{held:Bool}:∀ {ts:List TypeId} {vs:List Value} {ds:List (DataW H)} {ps:List MemPlace},DataW.TrodAll enc P w b0 spare held ts vs ds ps->ds.length=ts.length
 |[],vs,ds,ps,h=>by cases vs<;>cases ds<;>simp_all[DataW.TrodAll]
 |t::ts,[],ds,ps,h=>by cases ds<;>simp[DataW.TrodAll]at h
 |t::ts,v::vs,[],ps,h=>by simp[DataW.TrodAll]at h
 |t::ts,v::vs,d::ds,ps,h=>by
  obtain⟨p,q,_,h2,_⟩:=h
  simp[Ed h2]
theorem QU{H:Type}{enc:TypeId×Value->H}{C:Checked}{os:Os}{f:FuncId}{fn:Func}{s:ChangeSpec}{conds:List PathCond}{n:Nat}{tb:TypeId}
 (own:ownKnob C.prog.godebug=none) (started:os.Started) (PW:C.prog.inits.idxOf? f=none) (eP:C.prog.funcs[f]?=some fn)
 (witness:∃ (w:World) (tape:Tape) (i:Input),w.os=os/\(w.forCall tape i).Shaped C.prog/\i.vars=[]/\Input.okWide C.prog (w.forCall tape i) .any w.heap.size f i/\
   s.pre6 enc C.prog fn conds false (w.forCall tape i).memory i.args/\({}:Assume).holds C.prog (lone (Frame.enter C.prog f i.args .normal) [] (w.forCall tape i)))
 (hl:laidOutB C.prog=true) (fI:∀ t∈fn.params.toList,jR C.prog n t=true/\C.prog.readableRec t=true/\t<C.prog.types.size) (xt:fn.resultTypes= #[tb]) (iQ:C.prog.underlying tb=some .bool)
 (II:s.vars=[]) (hs:∀ ds:List (DataW H),ds.length=fn.params.toList.length->(s.fn H ds).results=[.lit (.bool true)]/\(s.fn H ds).args=ds/\(s.fn H ds).vars=[])
 (qC:∀ (W:World) (args:Array Value) (xs:List V),tu C.prog n fn.params.toList xs->rp (jX W) xs args.toList->Calls C.prog f args W fun e W'=>e=.returned (.bool true)/\Below W.heap.size W W'):
 ReturnsInHanded {} C os f .any (s.pre6 enc C.prog fn conds false) (s.post enc C.prog fn false true false false):=by
 refine returnsInHanded_of_change own started PW eP witness ?_
 intro W base args ds gs before cL hW _ _
 have Cm:=hW
 obtain⟨p,q,hA,hV,rfl,_,_⟩:=hW
 rw[II]at hV
 obtain⟨rfl,rfl⟩:=trodVars_none hV
 simp only[List.append_nil]at Cm
 have ab:∀ y∈p,y.block<W.heap.size:=fun y hy=>by simpa using Cm.lt y hy
 obtain⟨xs,h1,h2⟩:=LP (vs:=args.toList) (ts:=fn.params.toList) (fun t ht=>(fI t ht).1) (fun j t v h h'=>cL j t v (by simpa using h) (by simpa using h')) hA
 obtain⟨e1,e2,e3⟩:=hs ds (Ed hA)
 refine(qC W args xs h1 h2).mono fun e W' ⟨he,hn⟩=>?_
 subst he
 refine⟨_,rfl,ds,[],p,[],p,[],Cm,?_,?_,?_,hn.frame _,fun h=>by cases h⟩
 ·rw[List.append_nil,e1,xt]
  exact trodAll_mk1 (shut_bool iQ _)
 ·rw[List.append_nil,e2]
  exact LO hl hn (fun t ht=>(fI t ht).2) hA ab
 ·rw[List.append_nil,e3,II]
  rfl
open Go Go.Proofs Go.Proofs.YtepaolcgegdpoaaGreat Go.RowKit Go.ChangeShapes
theorem Sk:ownKnob Tryz.prog.godebug=none:=by kernel_rfl
theorem Sl:laidOutB Tryz.prog=true:=by kernel_rfl
end Go.Eng
set_option linter.constructorNameAsVariable false
set_option maxRecDepth 100000
namespace Go.Eng
open Go Go.Proofs
theorem jk{n:Nat}{xs:List V}(h:eT Tryz.prog (n+1) 3 xs):∃ k,xs=[vInt k]/\(Lit.int .i64 k).wf=true:=by
 unfold eT at h
 simp only[Tryz.underlying3]at h
 exact h
theorem LX:gu Tryz.prog 3=false:=by kernel_rfl
theorem Gm{α β:Type}{f:α->β}{P:β->Prop}(h:∀ y,P y->∃ x,y=f x):∀ {l:List β},(∀ y∈l,P y)->∃ m:List α,l=m.map f
 |[],_=>⟨[],rfl⟩
 |y::r,hl=>by
  obtain⟨x,rfl⟩:=h y (hl y (by simp))
  obtain⟨m,rfl⟩:=Gm h (l:=r) fun z hz=>hl z (by simp[hz])
  exact⟨x::m,rfl⟩
theorem zO{n:Nat}{T e:TypeId}{xs:List V}{α:Type}{f:α->V}(hu:Tryz.prog.underlying T=some (.slice e))(h:eT Tryz.prog (n+1) T xs)
 (he:∀ ys,eT Tryz.prog n e ys->∃ a,lI (gu Tryz.prog e) ys=f a):∃ l:List α,xs=[.sl (l.map f)]:=by
 unfold eT at h
 simp only[hu]at h
 obtain⟨ls,rfl,_,h3⟩:=h
 obtain⟨m,hm⟩:=Gm (f:=f) (P:=fun y=>∃ d,y=f d) (fun y h=>h) (l:=ls.map (lI (gu Tryz.prog e))) fun y hy=>by
  obtain⟨z,hz,rfl⟩:=List.mem_map.1 hy
  exact he z (h3 z hz)
 exact⟨m,by rw[hm]⟩
theorem No{n:Nat}{xs:List V}(h:eT Tryz.prog (n+2) 32 xs):∃ l:List Int,xs=[.sl (l.map vInt)]:=
 zO Tryz.underlying32 h fun ys hy=>by
  obtain⟨k,rfl,_⟩:=jk hy
  rw[LX]
  exact⟨k,rfl⟩
theorem XB:gu Tryz.prog 32=false:=by kernel_rfl
theorem Xp{x:V}(h:vT Tryz.prog 6 3 x):∃ k,x=vInt k/\(Lit.int .i64 k).wf=true:=by
 obtain⟨xs,h1,rfl⟩:=h
 rw[LX]
 obtain⟨k,rfl,hk⟩:=jk h1
 exact⟨k,rfl,hk⟩
theorem Xo{x:V}(h:vT Tryz.prog 6 32 x):∃ l:List Int,x=.sl (l.map vInt):=by
 obtain⟨xs,h1,rfl⟩:=h
 rw[XB]
 obtain⟨l,rfl⟩:=No h1
 exact⟨l,rfl⟩
theorem WT{f:FuncId}{s:PSpec}(h:aT Tryz.prog f s){W:World}{args:Array Value}{xs:List V}(hr:rp (jX W) xs args.toList)(hp:s.pre xs)(ht:s.fn xs=.bool true):
 Calls Tryz.prog f args W fun e W'=>e=.returned (.bool true)/\RowKit.Below W.heap.size W W':=by
 refine(h.calls (jX W) W xs args (fun b off v hv=>hv) hr hp).mono ?_
 rintro e W' ⟨v,m',rfl,hb,_,_,hv⟩
 rw[ht]at hv
 cases hv
 exact⟨rfl,hb⟩
end Go.Eng
set_option maxRecDepth 100000
namespace Go.Eng
open Go Go.Proofs
theorem XC:gu Tryz.prog 25=true:=by kernel_rfl
theorem XE:gu Tryz.prog 100=true:=by kernel_rfl
theorem XD:gu Tryz.prog 131=true:=by kernel_rfl
theorem Ns{n:Nat}{xs:List V}(h:eT Tryz.prog (n+2) 100 xs):∃ x:R5,.agg xs=qP x:=by
 unfold eT at h
 simp only[Tryz.underlying100]at h
 obtain⟨x1,y,rfl,h1,x2,y2,rfl,h2,x3,y3,rfl,h3,x4,y4,rfl,h4,x5,y5,rfl,h5,rfl⟩:=h
 obtain⟨a,rfl,_⟩:=jk h1
 obtain⟨b,rfl,_⟩:=jk h2
 obtain⟨c,rfl,_⟩:=jk h3
 obtain⟨d,rfl,_⟩:=jk h4
 obtain⟨e,rfl,_⟩:=jk h5
 exact⟨⟨a,b,c,d,e⟩,rfl⟩
theorem Nr{n:Nat}{xs:List V}(h:eT Tryz.prog (n+2) 131 xs):∃ x:R7,.agg xs=sR x:=by
 unfold eT at h
 simp only[Tryz.underlying131]at h
 obtain⟨x1,y,rfl,h1,x2,y2,rfl,h2,x3,y3,rfl,h3,x4,y4,rfl,h4,x5,y5,rfl,h5,x6,y6,rfl,h6,x7,y7,rfl,h7,rfl⟩:=h
 obtain⟨a,rfl,_⟩:=jk h1
 obtain⟨b,rfl,_⟩:=jk h2
 obtain⟨c,rfl,_⟩:=jk h3
 obtain⟨d,rfl,_⟩:=jk h4
 obtain⟨e,rfl,_⟩:=jk h5
 obtain⟨f,rfl,_⟩:=jk h6
 obtain⟨g,rfl,_⟩:=jk h7
 exact⟨⟨a,b,c,d,e,f,g⟩,rfl⟩
theorem EA{n:Nat}{xs:List V}(h:eT Tryz.prog (n+3) 22 xs):∃ l:List R5,xs=[.sl (l.map qP)]:=
 zO Tryz.underlying22 h fun ys hy=>by
  obtain⟨x,hx⟩:=Ns hy
  rw[XE]
  exact⟨x,hx⟩
theorem Nq{n:Nat}{xs:List V}(h:eT Tryz.prog (n+3) 23 xs):∃ l:List R7,xs=[.sl (l.map sR)]:=
 zO Tryz.underlying23 h fun ys hy=>by
  obtain⟨x,hx⟩:=Nr hy
  rw[XD]
  exact⟨x,hx⟩
theorem Np{n:Nat}{xs:List V}(h:eT Tryz.prog (n+4) 25 xs):∃ r:Raw,.agg xs=qO r:=by
 unfold eT at h
 simp only[Tryz.underlying25]at h
 obtain⟨x1,y,rfl,h1,x2,y2,rfl,h2,x3,y3,rfl,h3,rfl⟩:=h
 obtain⟨a,rfl⟩:=EA h1
 obtain⟨b,rfl⟩:=Nq h2
 obtain⟨c,rfl⟩:=EA h3
 exact⟨⟨a,b,c⟩,rfl⟩
theorem Xq{x:V}(h:vT Tryz.prog 6 25 x):∃ o:Raw,x=qO o:=by
 obtain⟨xs,h1,rfl⟩:=h
 rw[XC]
 exact Np h1
theorem VX(r:Raw):yo (qO r)=r:=by
 cases r;simp only[qO,yo,V1,VZ]
end Go.Eng
set_option linter.constructorNameAsVariable false
namespace Go.Eng
open Go Go.Proofs Go.Proofs.YtepaolcgegdpoaaGreat Go.RowKit Go.ChangeShapes
theorem Qq(hc:∀ (W:World) (args:Array Value) (xs:List V),tu Tryz.prog 6 Tryz.f10.params.toList xs->rp (jX W) xs args.toList->Calls Tryz.prog 10 args W fun e W'=>e=.returned (.bool true)/\Below W.heap.size W W')
 (os:Os) (started:os.Started) (H:Type) (enc:TypeId×Value->H):
 ReturnsInHanded {} Tryz.checked os 10 .any (Rows.loanTwoSpec.pre6 enc Tryz.prog Tryz.f10 Rows.loanTwoRow.domain false) (Rows.loanTwoSpec.post enc Tryz.prog Tryz.f10 false true false false):=by
 refine QU (C:=Tryz.checked) (n:=6) (tb:=4) Sk started (by kernel_rfl) Tryz.func10
  (ChangeSpec.witness6 (enc:=enc) (C:=Tryz.checked) false ⟨#[],#[.agg #[.slice none 0 0,.slice none 0 0,.slice none 0 0],.int .i64 0,.slice none 0 0],[]⟩ 8 (by kernel_rfl) (by kernel_rfl) (by kernel_rfl) (by kernel_rfl))
  Sl ?_ (by kernel_rfl) (by kernel_rfl) rfl ?_ hc
 ·have h:(Tryz.f10.params.toList.all fun t=>jR Tryz.prog 6 t&&Tryz.prog.readableRec t&&decide (t<Tryz.prog.types.size))=true:=by kernel_rfl
  intro t ht
  have :=List.all_eq_true.1 h t ht
  simp only[Bool.and_eq_true,decide_eq_true_eq]at this
  exact⟨this.1.1,this.1.2,this.2⟩
 ·intro ds mM
  have hl:Tryz.f10.params.toList.length=3:=by kernel_rfl
  rw[hl]at mM
  match ds,mM with
  |[d1,d2,d3],_=>exact⟨rfl,rfl,rfl⟩
theorem Qp(hc:∀ (W:World) (args:Array Value) (xs:List V),tu Tryz.prog 6 Tryz.f10.params.toList xs->rp (jX W) xs args.toList->Calls Tryz.prog 10 args W fun e W'=>e=.returned (.bool true)/\Below W.heap.size W W'):
 Rows.LoanTwoSaid:=
 OpenClaim.holds_of_wide 10 Tryz.f10 rfl rfl rfl rfl rfl rfl rfl ⟨rfl,rfl,rfl,rfl,rfl⟩ rfl rfl rfl rfl rfl (by kernel_rfl) Tryz.func10 (by kernel_rfl)
  (of_decide_eq_true (by kernel_rfl)) (by unfold Func.isWrapper;first | (rw[if_pos (by decide+kernel)];kernel_rfl) | (rw[if_neg (by decide+kernel)];exact⟨rfl,rfl⟩))
  (fun os started H enc _=>Qq hc os started H enc)
end Go.Eng
set_option maxRecDepth 100000
namespace Go.Eng
open Go Go.Proofs Go.Proofs.YtepaolcgegdpoaaGreat
theorem loanTwo_holds:Rows.LoanTwoSaid:=
 Qp fun W args xs ha hr=>by
  obtain⟨x,ys,rfl,h1,y,zs,rfl,h2,z,us,rfl,h3,rfl⟩:=(show tu Tryz.prog 6 [25,3,32] xs from ha)
  obtain⟨l,rfl⟩:=Xq h1
  obtain⟨k,rfl,_⟩:=Xp h2
  obtain⟨d,rfl⟩:=Xo h3
  exact WT OS hr ⟨congrArg qO (VX l),rfl,congrArg (fun m:List Int=>V.sl (m.map vInt)) (oe d),trivial⟩ rfl
end Go.Eng
namespace Go.Proofs.YtepaolcgegdpoaaGreat
theorem loanTwo_holds : Rows.LoanTwoSaid := Go.Eng.loanTwo_holds
end Go.Proofs.YtepaolcgegdpoaaGreat
#print axioms Go.Proofs.YtepaolcgegdpoaaGreat.loanTwo_holds
