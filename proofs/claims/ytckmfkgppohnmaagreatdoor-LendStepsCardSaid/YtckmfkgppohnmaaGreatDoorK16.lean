import Derived.Test.YtckmfkgppohnmaaGreatDoorK15
import GoSem.ClaimChange
import Derived.DataReads
import Derived.ChangeReads
import Derived.ProofKit
import Derived.Carry
import Derived.Lib.LaidTab
import Derived.LaidMore
import Derived.Stop.LaidErr
import Derived.Stop.Joined
import Derived.OpenShut
import Derived.Test.YtckmfkgppohnmaaGreatDoorRows
import Derived.Test.YtckmfkgppohnmaaGreatDoorChecked
import Derived.MakeChecks
import Derived.SizedLaws
import Derived.SevenTiedAt
import Derived.Test.YtckmfkgppohnmaaGreatDoorCards
import Derived.Test.YtckmfkgppohnmaaGreatDoorTie
/- LendSteps: Send, Write, Dry, Flood and Open agree with the reference, whatever the input: the walk of the law, its lift, and the claim. -/
set_option linter.all false
namespace Go.Eng
open Go Go.Proofs
theorem Q5:aL Tryz.prog 19 ⟨fun xs=>xs=[],fun _=>.bool true,true⟩:=
 RD (b:=.bool true) IQ (by
  intro fn h
  have e:Tryz.prog.funcs[19]?=some Tryz.f19:=Tryz.func19
  rw[e]at h
  obtain rfl:=Option.some.inj h
  exact(by kernel_rfl:(Tryz.f19.name== "runtime.NumGoroutine")=false)) (by decide) rfl
noncomputable def Ns:PSpec:=⟨fun xs=>xs=[],fun _=>.bool true,true⟩
noncomputable def S19:Spec:=Ns.toSpec
theorem UU:ak Tryz.prog 19 S19:=Q5.sound
attribute [go_sem] Ns S19
set_option maxRecDepth 20000
def Cf:En (Int×Int×Int):=⟨fun n=>.agg [vInt n.1,vInt n.2.1,vInt n.2.2],fun v=>match v with | .agg [.int _ a,.int _ b,.int _ c]=>(a,b,c) | _=>(0,0,0)⟩
attribute [go_sem] Cf
noncomputable def Nw:List (Nat×Spec):=[(8,S8),(9,S9),(10,S10),(11,S11),(12,S12),(13,S13),(14,S14),(15,S15),(16,S16),(17,S17),(18,S18),(19,S19)]
theorem aab:∀ f s,tbl Nw f=some s->ak Tryz.prog f s:=tc k8<|tc k9<|tc U'<|tc U7<|tc U3<|tc U1<|tc U0<|tc UZ<|tc UY<|tc UX<|tc UW<|tc UU<|tn
attribute [go_sem] Nw
noncomputable def P3:PSpec:=p3 bf gv Cf (fun d _ _=>di d) (fun _ _ _=>.bool true) true
noncomputable def S3:Spec:=P3.toSpec
attribute [go_sem] P3 S3
set_option maxHeartbeats 8000000 in
theorem s3:aL Tryz.prog 3 P3:=by
 refine w3 (rs:=[.tmp 6]) Tryz.func3 Tryz.ntmps3 (by rfl) (by kernel_rfl) (by decide) (fun _ _ _ _=>rfl) ⟨_,rfl,lb rfl,fun d b n hp hw=>?_⟩
 have hP:=aU
 simp only[gv,bf,Cf]at hw |-
 have hΓ:=aab
 have hs:di d:=hp
 repeat refine sq ?_
 refine rx hΓ [3,4,5] [[3,0],[4,0],[5,0]] (fun K' hK=>by simp only[go_sem];(repeat (refine⟨ah,?_⟩));exact hK _ (by simp only[go_sem]) (by simp only[go_sem]<;>rfl)) ?_
 refine aF (bo [3,0] (al d) rfl [3,4,5] [[3,0],[4,0],[5,0]] ?_ rfl) ?_
 ·simp only[go_sem]
 simp only[go_sem]
 refine aF (bo [4,0] (aZ b) rfl [3,4,5] [[3,0],[4,0],[5,0]] ?_ rfl) ?_
 ·simp only[go_sem]
 simp only[go_sem]
 refine aF (bo [5,0] ([vInt n.1,vInt n.2.1,vInt n.2.2]) rfl [3,4,5] [[3,0],[4,0],[5,0]] ?_ rfl) ?_
 ·simp only[go_sem]
 simp only[go_sem]
 repeat refine sq ?_
 refine rx hΓ [3,4,5,7,8] [[3,0],[4,0],[5,0],[7,0]] (fun K' hK=>by simp only[go_sem,hs,Int.cast_ofNat_Int,Int.reduceToNat,Int.toNat_one,Int.toNat_zero,Nat.reduceMul,Nat.reduceAdd,Nat.zero_mul,Nat.one_mul,Nat.add_zero,List.getD_cons_succ,List.getD_cons_zero];(repeat (refine⟨ah,?_⟩));exact hK _ (by simp only[go_sem]) (by simp only[go_sem]<;>rfl)) ?_
 repeat refine sq ?_
 refine rx hΓ [3,4,5,7,8,9,10] [[3,0],[4,0],[5,0],[7,0],[9,0]] (fun K' hK=>by simp only[go_sem,hs,Int.cast_ofNat_Int,Int.reduceToNat,Int.toNat_one,Int.toNat_zero,Nat.reduceMul,Nat.reduceAdd,Nat.zero_mul,Nat.one_mul,Nat.add_zero,List.getD_cons_succ,List.getD_cons_zero];(repeat (refine⟨ah,?_⟩));exact hK _ (by simp only[go_sem]) (by simp only[go_sem]<;>rfl)) ?_
 repeat refine sq ?_
 refine rx hΓ [3,4,5,7,8,9,10,11,12] [[3,0],[4,0],[5,0],[7,0],[9,0],[11,0]] (fun K' hK=>by simp only[go_sem,hs];(repeat (refine⟨ah,?_⟩));exact hK _ (by simp only[go_sem]) (by simp only[go_sem]<;>rfl)) ?_
 repeat refine sq ?_
 refine rx hΓ [3,4,5,7,8,9,10,11,12,13,14] [[3,0],[4,0],[5,0],[7,0],[9,0],[11,0],[13,0]] (fun K' hK=>by simp only[go_sem,hs];(repeat (refine⟨ah,?_⟩));exact hK _ (by simp only[go_sem]) (by simp only[go_sem]<;>rfl)) ?_
 repeat refine sq ?_
 refine rx hΓ [3,4,5,7,8,9,10,11,12,13,14,15,16] [[3,0],[4,0],[5,0],[7,0],[9,0],[11,0],[13,0],[15,0]] (fun K' hK=>by simp only[go_sem,hs];(repeat (refine⟨ah,?_⟩));exact hK _ (by simp only[go_sem]) (by simp only[go_sem]<;>rfl)) ?_
 repeat refine sq ?_
 refine rx hΓ [3,4,5,7,8,9,10,11,12,13,14,15,16,17,18] [[3,0],[4,0],[5,0],[7,0],[9,0],[11,0],[13,0],[15,0],[17,0]] (fun K' hK=>by simp only[go_sem,hs];(repeat (refine⟨ah,?_⟩));exact hK _ (by simp only[go_sem]) (by simp only[go_sem]<;>rfl)) ?_
 repeat refine sq ?_
 refine rx hΓ [3,4,5,7,8,9,10,11,12,13,14,15,16,17,18,19,20] [[3,0],[4,0],[5,0],[7,0],[9,0],[11,0],[13,0],[15,0],[17,0],[19,0]] (fun K' hK=>by simp only[go_sem,hs,Int.cast_ofNat_Int,Int.reduceToNat,Int.toNat_one,Int.toNat_zero,Nat.reduceMul,Nat.reduceAdd,Nat.zero_mul,Nat.one_mul,Nat.add_zero,List.getD_cons_succ,List.getD_cons_zero];(repeat (refine⟨ah,?_⟩));exact hK _ (by simp only[go_sem]) (by simp only[go_sem]<;>rfl)) ?_
 repeat refine sq ?_
 refine rx hΓ [3,4,7,8,9,10,11,12,13,14,15,16,17,18,19,20,21,22] [[3,0],[4,0],[7,0],[9,0],[11,0],[13,0],[15,0],[17,0],[19,0],[21,0]] (fun K' hK=>by simp only[go_sem,hs,Int.cast_ofNat_Int,Int.reduceToNat,Int.toNat_one,Int.toNat_zero,Nat.reduceMul,Nat.reduceAdd,Nat.zero_mul,Nat.one_mul,Nat.add_zero,List.getD_cons_succ,List.getD_cons_zero];(repeat (refine⟨ah,?_⟩));exact hK _ (by simp only[go_sem]) (by simp only[go_sem]<;>rfl)) ?_
 repeat refine sq ?_
 refine rx hΓ [3,4,7,8,9,10,11,12,13,14,15,16,17,18,19,20,21,22,23,24] [[3,0],[4,0],[7,0],[9,0],[11,0],[13,0],[15,0],[17,0],[19,0],[21,0],[23,0]] (fun K' hK=>by simp only[go_sem,hs];(repeat (refine⟨ah,?_⟩));exact hK _ (by simp only[go_sem]) (by simp only[go_sem]<;>rfl)) ?_
 repeat refine sq ?_
 refine rx hΓ [7,8,9,10,11,12,13,14,15,16,17,18,19,20,21,22,23,24,25,26] [[7,0],[9,0],[11,0],[13,0],[15,0],[17,0],[19,0],[21,0],[23,0],[25,0]] (fun K' hK=>by simp only[go_sem,hs];(repeat (refine⟨ah,?_⟩));exact hK _ (by simp only[go_sem]) (by simp only[go_sem]<;>rfl)) ?_
 repeat refine sq ?_
 refine rx hΓ [6] [] (fun K' hK=>by simp only[go_sem,beq_self_eq_true,decide_true,Bool.and_self,if_true];(repeat (refine⟨ah,?_⟩));exact hK _ (by simp only[go_sem]) (by simp only[go_sem]<;>rfl)) ?_
 refine ar ?_
 simp only[go_sem]
 skip
theorem k3:ak Tryz.prog 3 S3:=s3.sound
open Go
def gl(P:Program)(t:TypeId):Bool:=match P.underlying t with | some (.struct _)=>true | some (.array _ _)=>true | _=>false
def lE(ag:Bool)(xs:List V):V:=if ag then .agg xs else xs.getD 0 default
def mB(P:Program):List Field->Nat->Nat->Bool
 |[],off,tot=>off==tot
 |f::r,off,tot=>f.offset==off&&mB P r (off+P.cellsOf f.type) tot
def im(P:Program):Nat->TypeId->Bool
 | 0,_=>false
 |n+1,t=>match P.underlying t with
  |some .bool=>P.cellsOf t==1
  |some (.int _)=>P.cellsOf t==1
  |some .string=>P.cellsOf t==1
  |some (.slice e)=>P.cellsOf t==1&&im P n e&&decide (0<P.cellsOf e)&&(gl P e||P.cellsOf e==1)
  |some (.struct fs)=>mB P fs.toList 0 (P.cellsOf t)&&fs.toList.all fun f=>im P n f.type
  |some (.array m e)=>P.cellsOf t==m*P.cellsOf e&&im P n e
  |_=>false
def wM(S:TypeId->List V->Prop):List TypeId->List V->Prop
 |[],xs=>xs=[]
 |t::r,xs=>∃ a b,xs=a++b/\S t a/\wM S r b
def cO(P:Program):Nat->TypeId->List V->Prop
 | 0,_,_=>False
 |n+1,t,xs=>match P.underlying t with
  |some .bool=>∃ b,xs=[.bool b]
  |some (.int k)=>∃ z,xs=[.int k z]/\(Lit.int k z).wf=true
  |some .string=>∃ s,xs=[.str s]/\s.size<=maxLen
  |some (.slice e)=>∃ ls:List (List V),xs=[.sl (ls.map (lE (gl P e)))]/\ls.length<=maxLen/\∀ y∈ls,cO P n e y
  |some (.struct fs)=>wM (cO P n) (fs.toList.map (·.type)) xs
  |some (.array m e)=>wM (cO P n) (List.replicate m e) xs
  |_=>False
structure ic (m:Mem) (xs:List V) (cs:List Value):Prop where
 len:xs.length=cs.length
 rep:∀ i (h:i<xs.length) (h':i<cs.length),aB m xs[i] cs[i]
 one:∀ x∈xs,x.one=true
theorem ic.nil(m:Mem):ic m [] []:=⟨rfl,fun i h=>by simp at h,fun x h=>by simp at h⟩
theorem ic.append{m:Mem}{xs ys:List V}{cs ds:List Value}(h:ic m xs cs)(k:ic m ys ds):ic m (xs++ys) (cs++ds):=by
 refine⟨by simp[h.len,k.len],fun i h1 h2=>?_,fun x hx=>?_⟩
 ·by_cases hi:i<xs.length
  ·rw[List.getElem_append_left hi,List.getElem_append_left (by rw[<-h.len];exact hi)]
   exact h.rep i hi _
  ·have hl:=h.len
   have e:i-xs.length=i-cs.length:=by rw[hl]
   rw[List.getElem_append_right (by omega),List.getElem_append_right (by omega)]
   simp only[List.length_append]at h1 h2
   have :=k.rep (i-xs.length) (by omega) (by rw[<-k.len];omega)
   simp only[e]at this |-
   exact this
 ·rcases List.mem_append.1 hx with hx | hx
  ·exact h.one x hx
  ·exact k.one x hx
theorem ic.single{m:Mem}{x:V}{u:Value}(h:aB m x u)(ho:x.one=true):ic m [x] [u]:=
 ⟨rfl,fun i h1 h2=>by simp at h1;subst h1;exact h,fun y hy=>by simp at hy;subst hy;exact ho⟩
theorem mapM_some{α β:Type}{f:α->Option β}:∀ {l:List α} {r:List β},l.mapM f=some r->r.length=l.length/\∀ i (h:i<l.length) (h':i<r.length),f l[i]=some r[i]
 |[],r,h=>by
  simp only[List.mapM_nil]at h
  cases h
  exact⟨rfl,fun i h=>by simp at h⟩
 |a::l,r,h=>by
  simp only[List.mapM_cons,Option.bind_eq_bind,Option.bind_eq_some_iff]at h
  obtain⟨b,hb,bs,y8,hr⟩:=h
  cases hr
  obtain⟨h1,h2⟩:=mapM_some y8
  refine⟨by simp[h1],fun i hi bj=>?_⟩
  cases i with
  |zero=>exact hb
  |succ i=>exact h2 i (by simpa using hi) (by simpa using bj)
theorem FK{P:Program}:∀ {fs:List Field} {off tot:Nat},mB P fs off tot=true->off<=tot
 |[],off,tot,h=>by simp[mB]at h;omega
 |f::r,off,tot,h=>by
  simp only[mB,Bool.and_eq_true]at h
  have :=FK h.2
  omega
theorem Lt{P:Program}{m:Mem}{S:TypeId->List V->Prop}{cs:List Value}:∀ {fs:List Field} {off:Nat},mB P fs off cs.length=true->
 (∀ f∈fs,∃ xs,S f.type xs/\ic m xs ((cs.drop f.offset).take (P.cellsOf f.type)))->∃ xs,wM S (fs.map (·.type)) xs/\ic m xs (cs.drop off)
 |[],off,h,_=>by
  simp[mB]at h
  subst h
  exact⟨[],rfl,by simpa using ic.nil m⟩
 |f::r,off,h,hf=>by
  simp only[mB,Bool.and_eq_true,beq_iff_eq]at h
  obtain⟨h1,h2⟩:=h
  obtain⟨a,ha,CC⟩:=hf f (by simp)
  obtain⟨b,hb,CB⟩:=Lt h2 fun g hg=>hf g (by simp[hg])
  refine⟨a++b,⟨a,b,rfl,ha,hb⟩,?_⟩
  have e:cs.drop off=(cs.drop f.offset).take (P.cellsOf f.type)++cs.drop (off+P.cellsOf f.type):=by
   rw[h1,<-List.drop_drop,List.take_append_drop]
  rw[e]
  exact CC.append CB
theorem Ni{m:Mem}{S:TypeId->List V->Prop}{e:TypeId}{k:Nat}{cs:List Value}:∀ (n off:Nat),cs.length=(off+n)*k->
 (∀ i,i<off+n->∃ xs,S e xs/\ic m xs ((cs.drop (i*k)).take k))->∃ xs,wM S (List.replicate n e) xs/\ic m xs (cs.drop (off*k))
 | 0,off,h,_=>by
   have :cs.drop (off*k)=[]:=List.drop_eq_nil_of_le (by rw[h];simp)
   rw[this]
   exact⟨[],rfl,ic.nil m⟩
 |n+1,off,h,hf=>by
  obtain⟨a,ha,CC⟩:=hf off (by omega)
  obtain⟨b,hb,CB⟩:=Ni n (off+1) (by rw[h];congr 1;omega) fun i hi=>hf i (by omega)
  refine⟨a++b,⟨a,b,rfl,ha,hb⟩,?_⟩
  have e:cs.drop (off*k)=(cs.drop (off*k)).take k++cs.drop ((off+1)*k):=by
   rw[Nat.succ_mul,<-List.drop_drop,List.take_append_drop]
  rw[e]
  exact CC.append CB
theorem RM{ag:Bool}{xs:List V}(h:ag=true\/xs.length=1)(ho:∀ x∈xs,x.one=true):(lE ag xs).cells=xs:=by
 cases ag with
 |true=>rfl
 |false=>
  rcases h with h | h
  ·cases h
  match xs,h with
  |[x],_=>
   have :=ho x (by simp)
   show x.cells=[x]
   cases x<;>first | rfl | (simp[V.one]at this)
def gu(w:World):Mem:=fun b off=>w.cell? ⟨b,off,none⟩
theorem No{a:Addr}(h:a.spot=none)(n:Nat):a.add n=⟨a.block,a.off+n,none⟩:=by
 obtain⟨b,o,s⟩:=a
 simp only at h
 subst h
 unfold Addr.add
 split
 ·rename_i e;subst e;rfl
 ·rfl
theorem xq{H:Type}{enc:TypeId×Value->H}{P:Program}{w:World}{base:Nat}{spare:Nat->Bool}{held:Bool}:
 ∀ (n fuel:Nat) (t:TypeId) (cs:List Value) (r:DataW H×List MemPlace),im P n t=true->cs.length=P.cellsOf t->DataW.trod enc P w base spare held fuel t cs=some r->∃ xs,cO P n t xs/\ic (gu w) xs cs
 | 0,_,_,_,_,h,_,_=>by simp[im]at h
 |n+1,0,_,_,_,_,_,h=>by simp[DataW.trod]at h
 |n+1,fuel+1,t,cs,r,hp,hlen,h=>by
  rw[DataW.trod_step]at h
  unfold DataW.trodStep at h
  unfold im at hp
  unfold cO
  rcases hu:P.underlying t with _ | u
  ·rw[hu]at hp;simp at hp
  rw[hu]at hp h
  cases u with
  |bool=>
   have hb:∃ b,cs=[.bool b]:=by
    simp only at h
    split at h<;>simp_all
   obtain⟨b,rfl⟩:=hb
   exact⟨_,⟨b,rfl⟩,.single (.bool _) rfl⟩
  |int k=>
   simp only at hp h |-
   split at h<;>simp_all
   obtain⟨⟨rfl,h1⟩,_⟩:=h
   exact⟨_,⟨_,rfl,h1⟩,.single (.int _ _) rfl⟩
  |string=>
   simp only at hp h |-
   split at h<;>simp_all
   obtain⟨h1,_⟩:=h
   exact⟨_,⟨_,rfl,h1⟩,.single (.str _ h1) rfl⟩
  |slice e=>
   simp only[Bool.and_eq_true,decide_eq_true_eq,Bool.or_eq_true,beq_iff_eq]at hp |-
   obtain⟨⟨⟨_,gT⟩,cm⟩,W9⟩:=hp
   split at h<;>simp_all
   ·exact⟨_,⟨[],rfl,Nat.zero_le _,by simp⟩,.single (.slnil _ _) rfl⟩
   ·rename_i e' a len cap _ _
    obtain⟨⟨hb,Wj,hcm⟩,h⟩:=h
    simp only[Option.bind_eq_some_iff]at h
    obtain⟨elems,n4,_⟩:=h
    obtain⟨l1,l2⟩:=mapM_some n4
    simp only[List.length_range]at l1
    have hx:∀ i,i<len->∃ xs cells,w.cells? base (a.add (i*P.cellsOf e')) (P.cellsOf e')=some cells/\cO P n e' xs/\ic (gu w) xs cells:=by
     intro i hi
     have h3:=l2 i (by simpa using hi) (by omega)
     simp only[List.getElem_range,Option.bind_eq_some_iff]at h3
     obtain⟨cells,h4,h5⟩:=h3
     obtain⟨xs,h6,h7⟩:=xq n fuel _ _ _ gT (World.cells?_some h4).2.1 h5
     exact⟨xs,cells,h4,h6,h7⟩
    rcases Nat.eq_zero_or_pos len with hz | V2
    ·subst hz
     exact⟨[.sl []],⟨[],rfl,Nat.zero_le _,by simp⟩,.single (.slnil _ _) rfl⟩
    have Cv:a.spot=none:=by
     obtain⟨xs,cells,h4,_⟩:=hx 0 V2
     have h8:=(World.cells?_some h4).2.2 0 cm
     have h9:=(World.cells?_some h4).2.1
     have oa:w.cell? ((a.add (0*P.cellsOf e')).add 0)=some (cells[0]'(by omega)):=by rw[h8];exact List.getElem?_eq_getElem (by omega)
     simpa[Addr.add]using World.cell?_spot oa
    let X:Nat->List V:=fun i=>if h:i<len then Classical.choose (hx i h)else[]
    let C:Nat->List Value:=fun i=>(w.cells? base (a.add (i*P.cellsOf e')) (P.cellsOf e')).getD []
    have hX:∀ i,i<len->cO P n e' (X i)/\ic (gu w) (X i) (C i)/\(C i).length=P.cellsOf e'/\∀ j,j<P.cellsOf e'->w.cell? ⟨a.block,a.off+i*P.cellsOf e'+j,none⟩=(C i)[j]?:=by
     intro i hi
     obtain⟨cells,h4,h6,h7⟩:=Classical.choose_spec (hx i hi)
     have e1:X i=Classical.choose (hx i hi):=dif_pos hi
     have e2:C i=cells:=by show (w.cells? _ _ _).getD []=cells;rw[h4];rfl
     rw[e1,e2]
     refine⟨h6,h7,(World.cells?_some h4).2.1,fun j hj=>?_⟩
     have h8:=(World.cells?_some h4).2.2 j hj
     rw[No Cv,No rfl]at h8
     exact h8
    have ke:∀ i,i<len->(lE (gl P e') (X i)).cells=X i:=fun i hi=>by
     obtain⟨h1,h2,h3,_⟩:=hX i hi
     refine RM ?_ h2.one
     rcases W9 with h | h
     ·exact .inl h
     ·exact .inr (by rw[h2.len,h3,h])
    refine⟨[.sl (((List.range len).map X).map (lE (gl P e')))],⟨(List.range len).map X,rfl,by simp;omega,fun y hy=>?_⟩,.single ?_ rfl⟩
    ·simp only[List.mem_map,List.mem_range]at hy
     obtain⟨i,hi,rfl⟩:=hy
     exact(hX i hi).1
    ·obtain⟨b,o,s⟩:=a
     simp only at Cv hX
     subst Cv
     have key:=aB.sl (m:=gu w) (((List.range len).map X).map (lE (gl P e'))) b o cap (P.cellsOf e') (fun i j=>((C i)[j]?).getD undef) (by
         intro h;have:=congrArg List.length h;simp at this;omega) (by simp;omega) (by simpa using Wj)
      (fun i hi=>by
        have bj:i<len:=by simpa using hi
        obtain⟨h1,h2,h3,_⟩:=hX i bj
        simp only[List.getElem_map,List.getElem_range]
        rw[ke i bj,h2.len,h3])
      (fun i j hi hj=>by
        have bj:i<len:=by simpa using hi
        obtain⟨h1,h2,h3,h4⟩:=hX i bj
        show w.cell? _=_
        rw[h4 j hj,List.getElem?_eq_getElem (by omega)]
        rfl)
      (fun i j hi hj=>by
        have bj:i<len:=by simpa using hi
        obtain⟨h1,h2,h3,h4⟩:=hX i bj
        simp only[List.getElem_map,List.getElem_range,ke i bj]at hj |-
        have ej:j<(C i).length:=by rw[<-h2.len];exact hj
        rw[List.getElem?_eq_getElem ej]
        exact h2.rep j hj ej)
      (fun i hi x hx=>by
        have bj:i<len:=by simpa using hi
        simp only[List.getElem_map,List.getElem_range,ke i bj]at hx
        exact(hX i bj).2.1.one x hx)
     simpa using key
  |struct fs=>
   simp only[Bool.and_eq_true,List.all_eq_true]at hp h |-
   obtain⟨ht,dM⟩:=hp
   rw[if_pos hlen]at h
   simp only[Option.map_eq_some_iff]at h
   obtain⟨ys,qH,_⟩:=h
   obtain⟨l1,l2⟩:=mapM_some qH
   have :=Lt (m:=gu w) (S:=cO P n) (cs:=cs) (fs:=fs.toList) (off:=0) (by rw[hlen];exact ht) fun f hf=>by
    obtain⟨i,hi,rfl⟩:=List.mem_iff_getElem.1 hf
    have h3:=l2 i hi (by omega)
    have hle:P.cellsOf fs.toList[i].type<=(cs.drop fs.toList[i].offset).length:=by
     have key:∀ (l:List Field) (off tot:Nat),mB P l off tot=true->∀ f∈l,f.offset+P.cellsOf f.type<=tot:=by
      intro l
      induction l with
      |nil=>intro _ _ _ f hf;simp at hf
      |cons g r ih=>
       intro off tot h f hf
       simp only[mB,Bool.and_eq_true,beq_iff_eq]at h
       rcases List.mem_cons.1 hf with rfl | hf
       ·have:=FK h.2;omega
       ·exact ih _ _ h.2 f hf
     have :=key _ _ _ ht _ hf
     simp only[List.length_drop]
     omega
    exact xq n fuel _ _ _ (dM _ hf) (by rw[List.length_take];omega) h3
   simpa using this
  |array m e=>
   simp only[Bool.and_eq_true,beq_iff_eq]at hp h |-
   obtain⟨ht,gT⟩:=hp
   rw[if_pos hlen]at h
   simp only[Option.map_eq_some_iff]at h
   obtain⟨ys,qH,_⟩:=h
   obtain⟨l1,l2⟩:=mapM_some qH
   have :=Ni (m:=gu w) (S:=cO P n) (e:=e) (k:=P.cellsOf e) (cs:=cs) m 0 (by rw[hlen,ht];simp) fun i hi=>by
    have bj:i<m:=by omega
    have h3:=l2 i (by simpa using bj) (by rw[l1];simpa using bj)
    simp only[List.getElem_range]at h3
    have hle:i*P.cellsOf e+P.cellsOf e<=cs.length:=by
     rw[hlen,ht,<-Nat.succ_mul];exact Nat.mul_le_mul_right _ bj
    exact xq n fuel _ _ _ gT (by rw[List.length_take,List.length_drop];omega) h3
   simpa using this
  |_=>simp at hp
open Go Go.RowKit Go.ChangeShapes Go.WideShapes Go.ChangeAt
theorem Sa{P:Program}{n:Nat}{t:TypeId}{W:World}{r:Reach}{base:Nat}{v:Value}(hp:im P n t=true)(h:Value.okWide P W r base t v):
 v.cells.size=P.cellsOf t/\(gl P t=true->∃ cs,v=.agg cs)/\(gl P t=false->v.cells= #[v]/\P.cellsOf t=1):=by
 cases n with
 |zero=>simp[im]at hp
 |succ n=>
  unfold im at hp
  unfold gl
  rcases hu:P.underlying t with _ | u
  ·rw[hu]at hp;simp at hp
  rw[hu]at hp
  cases u with
  |bool=>
   obtain⟨b,rfl⟩:=okWide_bool hu h
   simp only[beq_iff_eq]at hp
   exact⟨by simp[Value.cells,hp],by simp,fun _=>⟨rfl,hp⟩⟩
  |int k=>
   obtain⟨b,rfl⟩:=okWide_int hu h
   simp only[beq_iff_eq]at hp
   exact⟨by simp[Value.cells,hp],by simp,fun _=>⟨rfl,hp⟩⟩
  |string=>
   obtain⟨b,rfl⟩:=okWide_string hu h
   simp only[beq_iff_eq]at hp
   exact⟨by simp[Value.cells,hp],by simp,fun _=>⟨rfl,hp⟩⟩
  |slice e=>
   obtain⟨a,len,cap,rfl⟩:=okWide_slice hu h
   simp only[Bool.and_eq_true,beq_iff_eq]at hp
   exact⟨by simp[Value.cells,hp.1.1.1],by simp,fun _=>⟨rfl,hp.1.1.1⟩⟩
  |struct fs=>
   simp only[Value.okWide,hu]at h
   obtain⟨cs,rfl,h2,_⟩:=h
   exact⟨h2,fun _=>⟨cs,rfl⟩,fun h=>by simp at h⟩
  |array m e=>
   simp only[Value.okWide,hu]at h
   obtain⟨cs,rfl,h2,_⟩:=h
   exact⟨h2,fun _=>⟨cs,rfl⟩,fun h=>by simp at h⟩
  |_=>simp at hp
def tY(P:Program)(n:Nat)(t:TypeId)(x:V):Prop:=∃ xs,cO P n t xs/\x=lE (gl P t) xs
def oz(P:Program)(n:Nat):List TypeId->List V->Prop
 |[],xs=>xs=[]
 |t::r,xs=>∃ x ys,xs=x::ys/\tY P n t x/\oz P n r ys
theorem ZI{H:Type}{enc:TypeId×Value->H}{P:Program}{w:World}{b0:Nat}{spare:Nat->Bool}{held:Bool}{n:Nat}{t:TypeId}{r:Reach}{base:Nat}{v:Value}{d:DataW H}{ps:List MemPlace}
 (hp:im P n t=true) (h:Value.okWide P w r base t v) (ht:DataW.Trod enc P w b0 spare held t v d ps):∃ x,tY P n t x/\aB (gu w) x v:=by
 obtain⟨h1,h2,h3⟩:=Sa hp h
 obtain⟨fuel,hf⟩:=ht
 obtain⟨xs,k1,k2⟩:=xq n fuel t v.cells.toList _ hp (by simpa using h1) hf
 refine⟨lE (gl P t) xs,⟨xs,k1,rfl⟩,?_⟩
 cases ha:gl P t with
 |true=>
  obtain⟨cs,rfl⟩:=h2 ha
  simp only[lE,if_true]
  refine .agg xs cs (by simpa[Value.cells]using k2.len) k2.one fun i h h'=>?_
  have :=k2.rep i h (by simpa[Value.cells]using h')
  simpa[Value.cells]using this
 |false=>
  obtain⟨h4,h5⟩:=h3 ha
  have hl:xs.length=1:=by rw[k2.len];simp[h4]
  match xs,hl with
  |[x],_=>
   have :=k2.rep 0 (by simp) (by simp[h4])
   simp only[lE,Bool.false_eq_true,if_false,List.getD_cons_zero]
   simpa[h4]using this
theorem wI{H:Type}{enc:TypeId×Value->H}{P:Program}{w:World}{b0:Nat}{spare:Nat->Bool}{held:Bool}{n:Nat}{r:Reach}{base:Nat}:∀ {ts:List TypeId} {vs:List Value} {ds:List (DataW H)} {ps:List MemPlace},
 (∀ t∈ts,im P n t=true)->(∀ (j:Nat) t v,ts[j]?=some t->vs[j]?=some v->Value.okWide P w r base t v)->DataW.TrodAll enc P w b0 spare held ts vs ds ps->∃ xs,oz P n ts xs/\nq (gu w) xs vs
 |[],vs,ds,ps,_,_,h=>by
  cases vs with
  |nil=>exact⟨[],rfl,rfl,fun i h=>by simp at h⟩
  |cons=>cases ds<;>simp[DataW.TrodAll]at h
 |t::ts,[],ds,ps,_,_,h=>by cases ds<;>simp[DataW.TrodAll]at h
 |t::ts,v::vs,[],ps,_,_,h=>by simp[DataW.TrodAll]at h
 |t::ts,v::vs,d::ds,ps,hp,hv,h=>by
  obtain⟨p,q,h1,h2,_⟩:=h
  obtain⟨x,k1,k2⟩:=ZI (hp t (by simp)) (hv 0 t v rfl rfl) h1
  obtain⟨ys,k3,k4,k5⟩:=wI (fun t ht=>hp t (by simp[ht])) (fun j t v h h'=>hv (j+1) t v (by simpa using h) (by simpa using h')) h2
  refine⟨x::ys,⟨x,ys,rfl,k1,k3⟩,by simp[k4],fun i hi bj=>?_⟩
  cases i with
  |zero=>exact k2
  |succ i=>exact k5 i (by simpa using hi) (by simpa using bj)
theorem wH{H:Type}{enc:TypeId×Value->H}{P:Program}(hl:laidOutB P=true){W W':World}(hb:Below W.heap.size W W'):∀ {ts:List TypeId} {vs:List Value} {ds:List (DataW H)} {ps:List MemPlace},
 (∀ t∈ts,P.readableRec t=true/\t<P.types.size)->DataW.TrodAll enc P W 0 (fun _=>true) true ts vs ds ps->(∀ x∈ps,x.block<W.heap.size)->DataW.TrodAll enc P W' 0 (fun b=>decide (b<W.heap.size)) true ts vs ds ps
 |[],vs,ds,ps,_,h,_=>by
  cases vs<;>cases ds<;>simp_all[DataW.TrodAll]
 |t::ts,[],ds,ps,_,h,_=>by cases ds<;>simp[DataW.TrodAll]at h
 |t::ts,v::vs,[],ps,_,h,_=>by simp[DataW.TrodAll]at h
 |t::ts,v::vs,d::ds,ps,hr,h,ae=>by
  obtain⟨p,q,h1,h2,rfl⟩:=h
  exact⟨p,q,Below.trod hl (hr t (by simp)).1 (hr t (by simp)).2 h1 hb (fun x hx=>ae x (by simp[hx])),
   wH hl hb (fun t ht=>hr t (by simp[ht])) h2 (fun x hx=>ae x (by simp[hx])),rfl⟩
theorem ue{H:Type}{enc:TypeId×Value->H}{P:Program}{w:World}{b0:Nat}{spare:Nat->Bool}{held:Bool}:∀ {ts:List TypeId} {vs:List Value} {ds:List (DataW H)} {ps:List MemPlace},DataW.TrodAll enc P w b0 spare held ts vs ds ps->ds.length=ts.length
 |[],vs,ds,ps,h=>by cases vs<;>cases ds<;>simp_all[DataW.TrodAll]
 |t::ts,[],ds,ps,h=>by cases ds<;>simp[DataW.TrodAll]at h
 |t::ts,v::vs,[],ps,h=>by simp[DataW.TrodAll]at h
 |t::ts,v::vs,d::ds,ps,h=>by
  obtain⟨p,q,_,h2,_⟩:=h
  simp[ue h2]
theorem ad4{H:Type}{enc:TypeId×Value->H}{C:Checked}{os:Os}{f:FuncId}{fn:Func}{s:ChangeSpec}{conds:List PathCond}{n:Nat}{tb:TypeId}
 (own:ownKnob C.prog.godebug=none) (started:os.Started) (qs:C.prog.inits.idxOf? f=none) (cA:C.prog.funcs[f]?=some fn)
 (witness:∃ (w:World) (tape:Tape) (i:Input),w.os=os/\(w.forCall tape i).Shaped C.prog/\i.vars=[]/\Input.okWide C.prog (w.forCall tape i) .any w.heap.size f i/\
   s.pre6 enc C.prog fn conds false (w.forCall tape i).memory i.args/\({}:Assume).holds C.prog (lone (Frame.enter C.prog f i.args .normal) [] (w.forCall tape i)))
 (hl:laidOutB C.prog=true) (dU:∀ t∈fn.params.toList,im C.prog n t=true/\C.prog.readableRec t=true/\t<C.prog.types.size) (mP:fn.resultTypes= #[tb]) (jF:C.prog.underlying tb=some .bool)
 (lN:s.vars=[]) (hs:∀ ds:List (DataW H),ds.length=fn.params.toList.length->(s.fn H ds).results=[.lit (.bool true)]/\(s.fn H ds).args=ds/\(s.fn H ds).vars=[])
 (lW:∀ (W:World) (args:Array Value) (xs:List V),oz C.prog n fn.params.toList xs->nq (gu W) xs args.toList->Calls C.prog f args W fun e W'=>e=.returned (.bool true)/\Below W.heap.size W W'):
 ReturnsInHanded {} C os f .any (s.pre6 enc C.prog fn conds false) (s.post enc C.prog fn false true false false):=by
 refine returnsInHanded_of_change own started qs cA witness ?_
 intro W base args ds gs before bM hW _ _
 have jd:=hW
 obtain⟨p,q,hA,hV,rfl,_,_⟩:=hW
 rw[lN]at hV
 obtain⟨rfl,rfl⟩:=trodVars_none hV
 simp only[List.append_nil]at jd
 have ae:∀ y∈p,y.block<W.heap.size:=fun y hy=>by simpa using jd.lt y hy
 obtain⟨xs,h1,h2⟩:=wI (vs:=args.toList) (ts:=fn.params.toList) (fun t ht=>(dU t ht).1) (fun j t v h h'=>bM j t v (by simpa using h) (by simpa using h')) hA
 obtain⟨e1,e2,e3⟩:=hs ds (ue hA)
 refine(lW W args xs h1 h2).mono fun e W' ⟨he,hn⟩=>?_
 subst he
 refine⟨_,rfl,ds,[],p,[],p,[],jd,?_,?_,?_,hn.frame _,fun h=>by cases h⟩
 ·rw[List.append_nil,e1,mP]
  exact trodAll_mk1 (shut_bool jF _)
 ·rw[List.append_nil,e2]
  exact wH hl hn (fun t ht=>(dU t ht).2) hA ae
 ·rw[List.append_nil,e3,lN]
  rfl
theorem ad3{H:Type}{enc:TypeId×Value->H}{C:Checked}{os:Os}{f:FuncId}{fn:Func}{s:ChangeSpec}{conds:List PathCond}{n:Nat}{tb:TypeId}{laid:List (String×DataW Unit)}
 (own:ownKnob C.prog.godebug=none) (started:os.Started) (qs:C.prog.inits.idxOf? f=none) (cA:C.prog.funcs[f]?=some fn)
 (witness:∃ (w:World) (tape:Tape) (i:Input),w.os=os/\(w.forCall tape i).Shaped C.prog/\i.vars=[]/\Input.okWide C.prog (w.forCall tape i) .any w.heap.size f i/\
   ((s.pre enc C.prog fn conds false (w.forCall tape i).memory i.args/\laidMetH C.prog laid (w.forCall tape i).memory)/\sizedMet enc C.prog fn (OpenSpec.ofChange s) false (w.forCall tape i).memory i.args)/\({}:Assume).holds C.prog (lone (Frame.enter C.prog f i.args .normal) [] (w.forCall tape i)))
 (hT:∀ W:World,laidMetH C.prog laid W->ib W)
 (hl:laidOutB C.prog=true) (dU:∀ t∈fn.params.toList,im C.prog n t=true/\C.prog.readableRec t=true/\t<C.prog.types.size) (mP:fn.resultTypes= #[tb]) (jF:C.prog.underlying tb=some .bool)
 (lN:s.vars=[]) (hs:∀ ds:List (DataW H),ds.length=fn.params.toList.length->(s.fn H ds).results=[.lit (.bool true)]/\(s.fn H ds).args=ds/\(s.fn H ds).vars=[])
 (lW:∀ (W:World) (args:Array Value) (xs:List V),ib W->oz C.prog n fn.params.toList xs->nq (gu W) xs args.toList->Calls C.prog f args W fun e W'=>e=.returned (.bool true)/\Below W.heap.size W W'):
 ReturnsInHanded {} C os f .any (fun w args=>(s.pre enc C.prog fn conds false w args/\laidMetH C.prog laid w)/\sizedMet enc C.prog fn (OpenSpec.ofChange s) false w args) (s.post enc C.prog fn false true false false):=by
 refine returnsInHanded_of_change_and (X:=fun w _=>laidMetH C.prog laid w) (fun _ _ _ hh h=>h.of_heap hh) own started qs cA witness ?_
 intro W base args ds gs before bM hW _ _ hL _
 have jd:=hW
 obtain⟨p,q,hA,hV,rfl,_,_⟩:=hW
 rw[lN]at hV
 obtain⟨rfl,rfl⟩:=trodVars_none hV
 simp only[List.append_nil]at jd
 have ae:∀ y∈p,y.block<W.heap.size:=fun y hy=>by simpa using jd.lt y hy
 obtain⟨xs,h1,h2⟩:=wI (vs:=args.toList) (ts:=fn.params.toList) (fun t ht=>(dU t ht).1) (fun j t v h h'=>bM j t v (by simpa using h) (by simpa using h')) hA
 obtain⟨e1,e2,e3⟩:=hs ds (ue hA)
 refine(lW W args xs (hT W hL) h1 h2).mono fun e W' ⟨he,hn⟩=>?_
 subst he
 refine⟨_,rfl,ds,[],p,[],p,[],jd,?_,?_,?_,hn.frame _,fun h=>by cases h⟩
 ·rw[List.append_nil,e1,mP]
  exact trodAll_mk1 (shut_bool jF _)
 ·rw[List.append_nil,e2]
  exact wH hl hn (fun t ht=>(dU t ht).2) hA ae
 ·rw[List.append_nil,e3,lN]
  rfl
end Go.Eng
set_option linter.constructorNameAsVariable false
namespace Go.Eng
open Go Go.Proofs Go.Proofs.YtckmfkgppohnmaaGreatDoor Go.RowKit Go.ChangeShapes
theorem Us:ownKnob Tryz.prog.godebug=none:=by kernel_rfl
theorem Ut:laidOutB Tryz.prog=true:=by kernel_rfl
noncomputable def uT:List (String×DataW Unit):=Rows.lendChecksRow.laid
theorem K0:Tryz.prog.globalNamed "internal/strconv.uint64pow10" =some 2:=by kernel_rfl
theorem adJ:(Rows.laid_internal_strconv_uint64pow10:DataW Unit)=Lib.tabData .u64 Lib.pow10Tab:=by rfl
theorem S0(W:World)(h:laidMetH Tryz.prog uT W):ib W:=by
 rw[MakeChecks.laidMetH_plain _ _ _ (by kernel_rfl)]at h
 have h2:laidMet Tryz.prog [("internal/strconv.uint64pow10",Lib.tabData .u64 Lib.pow10Tab)] W:=h.tail.tail
 have h3:Lib.TabIs Tryz.prog W "internal/strconv.uint64pow10" .u64 Lib.pow10Tab:=Lib.tabIs_of_head (t:=205) (e:=188) (n:=20) K0 (by kernel_rfl) (by kernel_rfl) (by kernel_rfl) (by kernel_rfl) (by kernel_rfl) h2
 unfold Lib.TabIs World.var? at h3
 rw[K0]at h3
 simp only[Option.bind_some]at h3
 intro q hq
 have :q=(2,(Lib.pow10Tab.map fun z=>Value.int .u64 z).toArray):=by simpa[xc]using hq
 subst this
 split at h3
 ·rename_i cs T f hh
  cases h3
  exact⟨_,_,hh⟩
 ·cases h3
def EL:DataW Unit->Array Value
 | .agg l=>(l.map fun d=>match d with | .lit (.int k n)=>Value.int k n | _=>undef).toArray
 |_=> #[]
def putCells(cs:Array Value):Obj->Obj
 | .cells _ t f=>.cells cs t f
 |o=>o
noncomputable def HZ(os:Os):World:=
 let w0:=World.holding Tryz.prog os ⟨#[],#[],[]⟩
 { w0 with heap:=((w0.heap.modify 2 (putCells (EL Rows.laid_internal_strconv_uint64pow10))).modify 6 (putCells (EL Rows.laid_math_bits_deBruijn32tab))).modify 7 (putCells (EL Rows.laid_math_bits_deBruijn64tab)) }
theorem SZ(os:Os)(args:Array Value):laidMetH Tryz.prog uT ((HZ os).forCall (fun _ _=>0) ⟨#[],args,[]⟩).memory:=by
 rw[MakeChecks.laidMetH_plain _ _ _ (by kernel_rfl)]
 exact laidMet_of_run' 8 (by kernel_rfl) (by kernel_rfl)
end Go.Eng
set_option linter.constructorNameAsVariable false
set_option maxRecDepth 100000
namespace Go.Eng
open Go Go.Proofs
theorem fj{n:Nat}{xs:List V}(h:cO Tryz.prog (n+1) 3 xs):∃ k,xs=[vInt k]/\(Lit.int .i64 k).wf=true:=by
 unfold cO at h
 simp only[Tryz.underlying3]at h
 exact h
theorem ZQ:gl Tryz.prog 3=false:=by kernel_rfl
theorem ZP:gl Tryz.prog 91=true:=by kernel_rfl
theorem HR{α β:Type}{f:α->β}{P:β->Prop}(h:∀ y,P y->∃ x,y=f x):∀ {l:List β},(∀ y∈l,P y)->∃ m:List α,l=m.map f
 |[],_=>⟨[],rfl⟩
 |y::r,hl=>by
  obtain⟨x,rfl⟩:=h y (hl y (by simp))
  obtain⟨m,rfl⟩:=HR h (l:=r) fun z hz=>hl z (by simp[hz])
  exact⟨x::m,rfl⟩
theorem F9{n:Nat}{T e:TypeId}{xs:List V}{α:Type}{f:α->V}(hu:Tryz.prog.underlying T=some (.slice e))(h:cO Tryz.prog (n+1) T xs)
 (he:∀ ys,cO Tryz.prog n e ys->∃ a,lE (gl Tryz.prog e) ys=f a):∃ l:List α,xs=[.sl (l.map f)]:=by
 unfold cO at h
 simp only[hu]at h
 obtain⟨ls,rfl,_,h3⟩:=h
 obtain⟨m,hm⟩:=HR (f:=f) (P:=fun y=>∃ d,y=f d) (fun y h=>h) (l:=ls.map (lE (gl Tryz.prog e))) fun y hy=>by
  obtain⟨z,hz,rfl⟩:=List.mem_map.1 hy
  exact he z (h3 z hz)
 exact⟨m,by rw[hm]⟩
theorem Px{n:Nat}{xs:List V}(h:cO Tryz.prog (n+2) 22 xs):∃ l:List Int,xs=[.sl (l.map vInt)]:=
 F9 Tryz.underlying22 h fun ys hy=>by
  obtain⟨k,rfl,_⟩:=fj hy
  rw[ZQ]
  exact⟨k,rfl⟩
theorem Pq{n:Nat}{xs:List V}(h:cO Tryz.prog (n+2) 91 xs):∃ p:Par,xs=[vInt p.no,vInt p.pa]:=by
 unfold cO at h
 simp only[Tryz.underlying91]at h
 obtain⟨x,y,rfl,h1,x2,y2,rfl,h2,rfl⟩:=h
 obtain⟨a,rfl,_⟩:=fj h1
 obtain⟨b,rfl,_⟩:=fj h2
 exact⟨⟨a,b⟩,rfl⟩
theorem p8{n:Nat}{xs:List V}(h:cO Tryz.prog (n+3) 23 xs):∃ l:List Par,xs=[.sl (l.map encPa)]:=
 F9 Tryz.underlying23 h fun ys hy=>by
  obtain⟨p,rfl⟩:=Pq hy
  rw[ZP]
  exact⟨p,rfl⟩
theorem Pw{n:Nat}{xs:List V}(h:cO Tryz.prog (n+4) 24 xs):∃ u:bg (List Par),xs=u.L rowP:=by
 unfold cO at h
 simp only[Tryz.underlying24]at h
 obtain⟨x1,y1,rfl,h1,x2,y2,rfl,h2,x3,y3,rfl,h3,x4,y4,rfl,h4,x5,y5,rfl,h5,x6,y6,rfl,h6,rfl⟩:=h
 obtain⟨a,rfl⟩:=p8 h1
 obtain⟨b,rfl⟩:=p8 h2
 obtain⟨c,rfl⟩:=p8 h3
 obtain⟨d,rfl⟩:=p8 h4
 obtain⟨e,rfl⟩:=p8 h5
 obtain⟨f,rfl⟩:=p8 h6
 exact⟨⟨a,b,c,d,e,f⟩,rfl⟩
theorem Gc{n:Nat}{xs:List V}(h:cO Tryz.prog (n+2) 25 xs):∃ u:bg Int,xs=u.L vInt:=by
 unfold cO at h
 simp only[Tryz.underlying25]at h
 obtain⟨x1,y1,rfl,h1,x2,y2,rfl,h2,x3,y3,rfl,h3,x4,y4,rfl,h4,x5,y5,rfl,h5,x6,y6,rfl,h6,rfl⟩:=h
 obtain⟨a,rfl,_⟩:=fj h1
 obtain⟨b,rfl,_⟩:=fj h2
 obtain⟨c,rfl,_⟩:=fj h3
 obtain⟨d,rfl,_⟩:=fj h4
 obtain⟨e,rfl,_⟩:=fj h5
 obtain⟨f,rfl,_⟩:=fj h6
 exact⟨⟨a,b,c,d,e,f⟩,rfl⟩
theorem Gb{n:Nat}{xs:List V}(h:cO Tryz.prog (n+5) 27 xs):∃ s:Stk,xs=ax s:=by
 unfold cO at h
 simp only[Tryz.underlying27]at h
 obtain⟨x1,y1,rfl,h1,x2,y2,rfl,h2,x3,y3,rfl,h3,x4,y4,rfl,h4,rfl⟩:=h
 obtain⟨a,rfl⟩:=Px h1
 obtain⟨b,rfl⟩:=Pw h2
 obtain⟨c,rfl⟩:=Gc h3
 obtain⟨d,rfl⟩:=Gc h4
 exact⟨⟨a,b,c,d⟩,by rw[List.append_nil];rfl⟩
theorem Ga{n:Nat}{xs:List V}(h:cO Tryz.prog (n+6) 29 xs):∃ p:Pg,xs=cj p:=by
 unfold cO at h
 simp only[Tryz.underlying29]at h
 obtain⟨x1,y1,rfl,h1,x2,y2,rfl,h2,x3,y3,rfl,h3,rfl⟩:=h
 obtain⟨a,rfl,_⟩:=fj h1
 obtain⟨b,rfl⟩:=Gb h2
 obtain⟨c,rfl,_⟩:=fj h3
 exact⟨⟨a,b,c⟩,by rw[List.append_nil];rfl⟩
theorem Pv{n:Nat}{xs:List V}(h:cO Tryz.prog (n+7) 30 xs):∃ p q:Pg,xs=cj p++cj q:=by
 unfold cO at h
 simp only[Tryz.underlying30]at h
 obtain⟨x1,y1,rfl,h1,x2,y2,rfl,h2,rfl⟩:=h
 obtain⟨a,rfl⟩:=Ga h1
 obtain⟨b,rfl⟩:=Ga h2
 exact⟨a,b,by rw[List.append_nil]⟩
theorem Pu{n:Nat}{xs:List V}(h:cO Tryz.prog (n+8) 32 xs):∃ d:Dk,xs=al d:=by
 unfold cO at h
 simp only[Tryz.underlying32]at h
 obtain⟨x1,y1,rfl,h1,x2,y2,rfl,h2,x3,y3,rfl,h3,x4,y4,rfl,h4,rfl⟩:=h
 obtain⟨a,rfl,_⟩:=fj h1
 obtain⟨b,rfl⟩:=Gb h2
 obtain⟨p,q,rfl⟩:=Pv h3
 obtain⟨c,rfl,_⟩:=fj h4
 exact⟨⟨a,b,p,q,c⟩,by rw[List.append_nil,List.append_assoc];rfl⟩
theorem Pt{n:Nat}{xs:List V}(h:cO Tryz.prog (n+4) 34 xs):∃ b:Bag,xs=aZ b:=by
 unfold cO at h
 simp only[Tryz.underlying34]at h
 obtain⟨x1,y1,rfl,h1,x2,y2,rfl,h2,x3,y3,rfl,h3,x4,y4,rfl,h4,rfl⟩:=h
 obtain⟨a,rfl,_⟩:=fj h1
 obtain⟨b,rfl,_⟩:=fj h2
 obtain⟨c,rfl⟩:=p8 h3
 obtain⟨d,rfl,_⟩:=fj h4
 exact⟨⟨a,b,c,d⟩,by rw[List.append_nil];rfl⟩
theorem Pr{n:Nat}{xs:List V}(h:cO Tryz.prog (n+2) 68 xs):∃ a b,xs=[vInt a,vInt b]:=by
 unfold cO at h
 simp only[Tryz.underlying68]at h
 obtain⟨x1,y1,rfl,h1,x2,y2,rfl,h2,rfl⟩:=h
 obtain⟨a,rfl,_⟩:=fj h1
 obtain⟨b,rfl,_⟩:=fj h2
 exact⟨a,b,rfl⟩
theorem ZU:gl Tryz.prog 32=true:=by kernel_rfl
theorem ZT:gl Tryz.prog 34=true:=by kernel_rfl
theorem ZR:gl Tryz.prog 68=true:=by kernel_rfl
theorem ZL{x:V}(h:tY Tryz.prog 8 32 x):∃ d:Dk,x=eE d:=by
 obtain⟨xs,h1,rfl⟩:=h
 rw[ZU]
 obtain⟨d,rfl⟩:=Pu h1
 exact⟨d,rfl⟩
theorem ZK{x:V}(h:tY Tryz.prog 8 34 x):∃ b:Bag,x=l7 b:=by
 obtain⟨xs,h1,rfl⟩:=h
 rw[ZT]
 obtain⟨b,rfl⟩:=Pt h1
 exact⟨b,rfl⟩
theorem afv{x:V}(h:tY Tryz.prog 8 68 x):∃ a b,x=.agg [vInt a,vInt b]:=by
 obtain⟨xs,h1,rfl⟩:=h
 rw[ZR]
 obtain⟨a,b,rfl⟩:=Pr h1
 exact⟨a,b,rfl⟩
open Go Go.RowKit Go.ChangeShapes Go.WideShapes Go.ChangeAt
theorem BF{α β:Type}{f:α->Option β}:∀ {l:List α} {r:List β},l.mapM f=some r->r.length=l.length
 |[],r,h=>by simp at h;subst h;rfl
 |a::l,r,h=>by
  rw[List.mapM_cons]at h
  simp only[Option.bind_eq_bind,Option.bind_eq_some_iff,Option.pure_def,Option.some.injEq]at h
  obtain⟨b,_,s,hs,rfl⟩:=h
  simp[BF hs]
theorem OR{H:Type}{enc:TypeId×Value->H}{P:Program}{w:World}{b0:Nat}{spare:Nat->Bool}{held:Bool}{t e:TypeId}{a:Option Addr}{n cap:Nat}{d:DataW H}{ps:List MemPlace}
 (hu:P.underlying t=some (.slice e)) (h:DataW.Trod enc P w b0 spare held t (.slice a n cap) d ps):n=0\/∃ el sp,d=.slice el sp/\el.length=n:=by
 obtain⟨fuel,hf⟩:=h
 have eY:(Value.slice a n cap).cells.toList=[.slice a n cap]:=rfl
 rw[eY]at hf
 cases fuel with
 |zero=>simp[DataW.trod]at hf
 |succ fuel=>
  unfold DataW.trod at hf
  rw[hu]at hf
  cases a with
  |none=>
   cases n with
   |zero=>exact .inl rfl
   |succ n=>simp at hf
  |some a=>
   refine .inr ?_
   simp only at hf
   split at hf
   ·rw[Option.bind_eq_some_iff]at hf
    obtain⟨el,h1,h2⟩:=hf
    have hl:=BF h1
    rw[List.length_range]at hl
    rw[Option.map_eq_some_iff]at h2
    obtain⟨rest,_,h3⟩:=h2
    simp only[Prod.mk.injEq]at h3
    obtain⟨rfl,_⟩:=h3
    exact⟨_,_,rfl,by simp[hl]⟩
   ·cases hf
theorem Av{H:Type}{enc:TypeId×Value->H}{P:Program}{w:World}{b0:Nat}{spare:Nat->Bool}{held:Bool}:∀ {ts:List TypeId} {vs:List Value} {ds:List (DataW H)} {ps:List MemPlace},DataW.TrodAll enc P w b0 spare held ts vs ds ps->
 ∀ (j:Nat) t v,ts[j]?=some t->vs[j]?=some v->∃ d p,ds[j]?=some d/\DataW.Trod enc P w b0 spare held t v d p
 |[],vs,ds,ps,_,j,t,v,h,_=>by simp at h
 |t::ts,[],ds,ps,h,_,_,_,_,_=>by cases ds<;>simp[DataW.TrodAll]at h
 |t::ts,v::vs,[],ps,h,_,_,_,_,_=>by simp[DataW.TrodAll]at h
 |t::ts,v::vs,d::ds,ps,h,j,t',v',h1,h2=>by
  obtain⟨p,q,k1,k2,_⟩:=h
  cases j with
  |zero=>
   simp only[List.getElem?_cons_zero,Option.some.injEq]at h1 h2
   subst h1 h2
   exact⟨d,p,rfl,k1⟩
  |succ j=>exact Av k2 j t' v' (by simpa using h1) (by simpa using h2)
def F7(P:Program)(ts:List TypeId)(xs:List V):Prop:=∀ (j:Nat) t e L,ts[j]?=some t->P.underlying t=some (.slice e)->xs[j]?=some (V.sl L)->L.length*P.bytesOf e<=reachBytes
theorem ad2{H:Type}{enc:TypeId×Value->H}{C:Checked}{os:Os}{f:FuncId}{fn:Func}{s:ChangeSpec}{conds:List PathCond}{n:Nat}{tb:TypeId}
 (own:ownKnob C.prog.godebug=none) (started:os.Started) (qs:C.prog.inits.idxOf? f=none) (cA:C.prog.funcs[f]?=some fn)
 (witness:∃ (w:World) (tape:Tape) (i:Input),w.os=os/\(w.forCall tape i).Shaped C.prog/\i.vars=[]/\Input.okWide C.prog (w.forCall tape i) .any w.heap.size f i/\
   s.pre6 enc C.prog fn conds false (w.forCall tape i).memory i.args/\({}:Assume).holds C.prog (lone (Frame.enter C.prog f i.args .normal) [] (w.forCall tape i)))
 (hl:laidOutB C.prog=true) (dU:∀ t∈fn.params.toList,im C.prog n t=true/\C.prog.readableRec t=true/\t<C.prog.types.size) (mP:fn.resultTypes= #[tb]) (jF:C.prog.underlying tb=some .bool)
 (lN:s.vars=[]) (hs:∀ ds:List (DataW H),ds.length=fn.params.toList.length->(s.fn H ds).results=[.lit (.bool true)]/\(s.fn H ds).args=ds/\(s.fn H ds).vars=[])
 (lW:∀ (W:World) (args:Array Value) (xs:List V),oz C.prog n fn.params.toList xs->F7 C.prog fn.params.toList xs->nq (gu W) xs args.toList->Calls C.prog f args W fun e W'=>e=.returned (.bool true)/\Below W.heap.size W W'):
 ReturnsInHanded {} C os f .any (s.pre6 enc C.prog fn conds false) (s.post enc C.prog fn false true false false):=by
 refine returnsInHanded_of_change_sized own started qs cA witness ?_
 intro W base args ds gs before bM hW _ a8 _
 have jd:=hW
 obtain⟨p,q,hA,hV,rfl,_,_⟩:=hW
 rw[lN]at hV
 obtain⟨rfl,rfl⟩:=trodVars_none hV
 simp only[List.append_nil]at jd a8
 have ae:∀ y∈p,y.block<W.heap.size:=fun y hy=>by simpa using jd.lt y hy
 obtain⟨xs,h1,h2⟩:=wI (vs:=args.toList) (ts:=fn.params.toList) (fun t ht=>(dU t ht).1) (fun j t v h h'=>bM j t v (by simpa using h) (by simpa using h')) hA
 obtain⟨e1,e2,e3⟩:=hs ds (ue hA)
 have hx:F7 C.prog fn.params.toList xs:=by
  intro j t e L ht hu hL
  obtain⟨vx,DG⟩:=List.getElem?_eq_some_iff.1 hL
  have vB:j<args.toList.length:=by rw[<-h2.1];exact vx
  have sP:=h2.2 j vx vB
  rw[DG]at sP
  obtain⟨d,pp,hd,yy⟩:=Av hA j t _ ht (List.getElem?_eq_getElem vB)
  have key:∀ v,aB (gu W) (.sl L) v->∃ a cap,v=.slice a L.length cap:=by
   intro v hv
   cases hv with
   |slnil a cap=>exact⟨a,cap,rfl⟩
   |sl l b o cap sz c hn hl gC hs hc hr ho=>exact⟨_,cap,rfl⟩
  obtain⟨a,cap,hv⟩:=key _ sP
  rw[hv]at yy
  rcases OR hu yy with h0 | ⟨el,sp,rfl,n4⟩
  ·rw[h0];simp
  ·have ht':(fn.params.toList++s.plain.varTypes C.prog)[j]?=some t:=by
     rw[List.getElem?_append_left (List.getElem?_eq_some_iff.1 ht).1];exact ht
   have :=sized_slice a8 ht' hd hu
   rw[<-n4]
   exact Nat.le_trans (Nat.mul_le_mul_right _ (Nat.le_add_right _ _)) this
 refine(lW W args xs h1 hx h2).mono fun e W' ⟨he,hn⟩=>?_
 subst he
 refine⟨_,rfl,ds,[],p,[],p,[],jd,?_,?_,?_,hn.frame _,fun h=>by cases h⟩
 ·rw[List.append_nil,e1,mP]
  exact trodAll_mk1 (shut_bool jF _)
 ·rw[List.append_nil,e2]
  exact wH hl hn (fun t ht=>(dU t ht).2) hA ae
 ·rw[List.append_nil,e3,lN]
  rfl
inductive fP (P:Program):TypeId->TypeId->Nat->Prop
 |here {t e:TypeId} (h:P.underlying t=some (.slice e)):fP P t e 0
 |field {t e:TypeId} {fs:Array Field} {o i:Nat} {f:Field} (h:P.underlying t=some (.struct fs)) (hf:fs.toList[i]?=some f) (ho:o<P.cellsOf f.type) (hs:fP P f.type e o):fP P t e (f.offset+o)
 |elem {t e e':TypeId} {n i o:Nat} (h:P.underlying t=some (.array n e')) (hi:i<n) (ho:o<P.cellsOf e') (hs:fP P e' e o):fP P t e (i*P.cellsOf e'+o)
theorem FA{H:Type}{P:Program}{e:TypeId}:∀ {l:List (DataW H)} {d:DataW H},d∈l->∀ n∈d.weights P e,n∈DataW.weightsAll P e l
 |x::r,d,hd,n,hn=>by
  simp only[DataW.weightsAll,List.mem_append]
  rcases List.mem_cons.1 hd with rfl | hd
  ·exact .inl hn
  ·exact .inr (FA hd n hn)
theorem Pn{H:Type}{enc:TypeId×Value->H}{P:Program}{w:World}{base:Nat}{spare:Nat->Bool}{held:Bool}{t e:TypeId}{o:Nat}(h:fP P t e o):
 ∀ (fuel:Nat) (cs:List Value) (r:DataW H×List MemPlace),DataW.trod enc P w base spare held fuel t cs=some r->(∀ n∈r.1.weights P t,n<=reachBytes)->∀ a len cap,cs[o]?=some (.slice a len cap)->len*P.bytesOf e<=reachBytes:=by
 induction h with
 | @here t e hu=>
   intro fuel cs r hr hw a len cap hc
   cases fuel with
   |zero=>simp[DataW.trod]at hr
   |succ fuel=>
    rw[DataW.trod_step]at hr
    unfold DataW.trodStep at hr
    rw[hu]at hr
    rcases cs with _ | ⟨c,cs⟩
    ·simp at hc
    ·simp only[List.getElem?_cons_zero,Option.some.injEq]at hc
     subst hc
     cases cs with
     |cons c2 cs=>cases a<;>simp at hr
     |nil=>
      cases a with
      |none=>
       cases len with
       |zero=>simp
       |succ len=>simp at hr
      |some a=>
       simp only at hr
       split at hr
       ·rw[Option.bind_eq_some_iff]at hr
        obtain⟨el,h1,h2⟩:=hr
        rw[Option.map_eq_some_iff]at h2
        obtain⟨rest,_,h3⟩:=h2
        subst h3
        have hl:=BF h1
        rw[List.length_range]at hl
        have :=hw ((el.length+rest.length)*P.bytesOf e) (by simp[DataW.weights,hu])
        rw[hl]at this
        exact Nat.le_trans (Nat.mul_le_mul_right _ (Nat.le_add_right _ _)) this
       ·cases hr
 | @field t e fs o i f hu hf ho hs ih=>
   intro fuel cs r hr hw a len cap hc
   cases fuel with
   |zero=>simp[DataW.trod]at hr
   |succ fuel=>
    rw[DataW.trod_step]at hr
    unfold DataW.trodStep at hr
    rw[hu]at hr
    simp only at hr
    split at hr
    ·simp only[Option.map_eq_some_iff]at hr
     obtain⟨ys,qH,rfl⟩:=hr
     obtain⟨l1,l2⟩:=mapM_some qH
     obtain⟨hi,sX⟩:=List.getElem?_eq_some_iff.1 hf
     have h3:=l2 i hi (by omega)
     rw[sX]at h3
     refine ih fuel _ _ h3 (fun n hn=>hw n ?_) a len cap ?_
     ·simp only[DataW.weights,hu]
      refine DataW.weights_mem_each (j:=i) (t:=f.type) (d:=(ys[i]'(by omega)).1) ?_ ?_ n hn
      ·rw[List.getElem?_map,hf];rfl
      ·rw[List.getElem?_map,List.getElem?_eq_getElem (by omega)];rfl
     ·rw[List.getElem?_take,if_pos ho,List.getElem?_drop]
      exact hc
    ·cases hr
 | @elem t e e' n i o hu hi ho hs ih=>
   intro fuel cs r hr hw a len cap hc
   cases fuel with
   |zero=>simp[DataW.trod]at hr
   |succ fuel=>
    rw[DataW.trod_step]at hr
    unfold DataW.trodStep at hr
    rw[hu]at hr
    simp only at hr
    split at hr
    ·simp only[Option.map_eq_some_iff]at hr
     obtain⟨ys,qH,rfl⟩:=hr
     obtain⟨l1,l2⟩:=mapM_some qH
     rw[List.length_range]at l1
     have h3:=l2 i (by simpa using hi) (by omega)
     rw[List.getElem_range]at h3
     refine ih fuel _ _ h3 (fun n hn=>hw n ?_) a len cap ?_
     ·simp only[DataW.weights,hu]
      exact FA (List.mem_map_of_mem (List.getElem_mem (by omega))) n hn
     ·rw[List.getElem?_take,if_pos ho,List.getElem?_drop]
      exact hc
    ·cases hr
def ug(P:Program)(ts:List TypeId)(xs:List V):Prop:=∀ (j:Nat) t e o x L,ts[j]?=some t->fP P t e o->xs[j]?=some x->x.cells[o]?=some (V.sl L)->L.length*P.bytesOf e<=reachBytes
theorem S7{H:Type}{enc:TypeId×Value->H}{C:Checked}{os:Os}{f:FuncId}{fn:Func}{s:ChangeSpec}{conds:List PathCond}{n:Nat}{tb:TypeId}{laid:List (String×DataW Unit)}
 (own:ownKnob C.prog.godebug=none) (started:os.Started) (qs:C.prog.inits.idxOf? f=none) (cA:C.prog.funcs[f]?=some fn)
 (witness:∃ (w:World) (tape:Tape) (i:Input),w.os=os/\(w.forCall tape i).Shaped C.prog/\i.vars=[]/\Input.okWide C.prog (w.forCall tape i) .any w.heap.size f i/\
   ((s.pre enc C.prog fn conds false (w.forCall tape i).memory i.args/\laidMetH C.prog laid (w.forCall tape i).memory)/\sizedMet enc C.prog fn (OpenSpec.ofChange s) false (w.forCall tape i).memory i.args)/\({}:Assume).holds C.prog (lone (Frame.enter C.prog f i.args .normal) [] (w.forCall tape i)))
 (hT:∀ W:World,laidMetH C.prog laid W->ib W)
 (hl:laidOutB C.prog=true) (dU:∀ t∈fn.params.toList,im C.prog n t=true/\C.prog.readableRec t=true/\t<C.prog.types.size) (mP:fn.resultTypes= #[tb]) (jF:C.prog.underlying tb=some .bool)
 (lN:s.vars=[]) (hs:∀ ds:List (DataW H),ds.length=fn.params.toList.length->(s.fn H ds).results=[.lit (.bool true)]/\(s.fn H ds).args=ds/\(s.fn H ds).vars=[])
 (lW:∀ (W:World) (args:Array Value) (xs:List V),ib W->oz C.prog n fn.params.toList xs->ug C.prog fn.params.toList xs->nq (gu W) xs args.toList->Calls C.prog f args W fun e W'=>e=.returned (.bool true)/\Below W.heap.size W W'):
 ReturnsInHanded {} C os f .any (fun w args=>(s.pre enc C.prog fn conds false w args/\laidMetH C.prog laid w)/\sizedMet enc C.prog fn (OpenSpec.ofChange s) false w args) (s.post enc C.prog fn false true false false):=by
 refine returnsInHanded_of_change_and (X:=fun w _=>laidMetH C.prog laid w) (fun _ _ _ hh h=>h.of_heap hh) own started qs cA witness ?_
 intro W base args ds gs before bM hW _ a8 hL _
 have jd:=hW
 obtain⟨p,q,hA,hV,rfl,_,_⟩:=hW
 rw[lN]at hV
 obtain⟨rfl,rfl⟩:=trodVars_none hV
 simp only[List.append_nil]at jd a8
 have ae:∀ y∈p,y.block<W.heap.size:=fun y hy=>by simpa using jd.lt y hy
 obtain⟨xs,h1,h2⟩:=wI (vs:=args.toList) (ts:=fn.params.toList) (fun t ht=>(dU t ht).1) (fun j t v h h'=>bM j t v (by simpa using h) (by simpa using h')) hA
 obtain⟨e1,e2,e3⟩:=hs ds (ue hA)
 have hx:ug C.prog fn.params.toList xs:=by
  intro j t e o x L ht kK VF KC
  obtain⟨vx,DG⟩:=List.getElem?_eq_some_iff.1 VF
  have vB:j<args.toList.length:=by rw[<-h2.1];exact vx
  have sP:=h2.2 j vx vB
  rw[DG]at sP
  obtain⟨d,pp,hd,yy⟩:=Av hA j t _ ht (List.getElem?_eq_getElem vB)
  obtain⟨fuel,hf⟩:=yy
  obtain⟨ho,V7⟩:=List.getElem?_eq_some_iff.1 KC
  have bH:=sP.cells
  have hc:=sP.cell o ho (by omega)
  rw[V7]at hc
  have key:∀ v,aB (gu W) (.sl L) v->∃ a cap,v=.slice a L.length cap:=by
   intro v hv
   cases hv with
   |slnil a cap=>exact⟨a,cap,rfl⟩
   |sl l b o cap sz c hn hl gC hs hc hr ho=>exact⟨_,cap,rfl⟩
  obtain⟨a,cap,hv⟩:=key _ hc
  refine Pn kK fuel _ _ hf (fun n hn=>?_) a L.length cap ?_
  ·have ht':(fn.params.toList++s.plain.varTypes C.prog)[j]?=some t:=by
     rw[List.getElem?_append_left (List.getElem?_eq_some_iff.1 ht).1];exact ht
   have :=List.all_eq_true.1 a8 n (DataW.weights_mem_each ht' hd n hn)
   simpa using this
  ·rw[Array.getElem?_toList,Array.getElem?_eq_getElem (by omega),hv]
 refine(lW W args xs (hT W hL) h1 hx h2).mono fun e W' ⟨he,hn⟩=>?_
 subst he
 refine⟨_,rfl,ds,[],p,[],p,[],jd,?_,?_,?_,hn.frame _,fun h=>by cases h⟩
 ·rw[List.append_nil,e1,mP]
  exact trodAll_mk1 (shut_bool jF _)
 ·rw[List.append_nil,e2]
  exact wH hl hn (fun t ht=>(dU t ht).2) hA ae
 ·rw[List.append_nil,e3,lN]
  rfl
end Go.Eng
set_option linter.constructorNameAsVariable false
set_option maxRecDepth 100000
namespace Go.Eng
open Go Go.Proofs Go.Proofs.YtckmfkgppohnmaaGreatDoor Go.RowKit Go.ChangeShapes
theorem Y3{f:FuncId}{s:PSpec}(h:aL Tryz.prog f s){W:World}{args:Array Value}{xs:List V}(ht:ib W)(hr:nq (gu W) xs args.toList)(hp:s.pre xs)(hv:s.fn xs=.bool true):
 Calls Tryz.prog f args W fun e W'=>e=.returned (.bool true)/\RowKit.Below W.heap.size W W':=by
 refine(h.calls (gu W) W xs args ht (fun b off v hv=>hv) hr hp).mono ?_
 rintro e W' ⟨v,m',rfl,hb,_,_,h⟩
 rw[hv]at h
 cases h
 exact⟨rfl,hb⟩
theorem S4(hc:∀ (W:World) (args:Array Value) (xs:List V),ib W->oz Tryz.prog 8 Tryz.f3.params.toList xs->ug Tryz.prog Tryz.f3.params.toList xs->nq (gu W) xs args.toList->Calls Tryz.prog 3 args W fun e W'=>e=.returned (.bool true)/\Below W.heap.size W W')
 (os:Os) (started:os.Started) (H:Type) (enc:TypeId×Value->H):
 ReturnsInHanded {} Tryz.checked os 3 .any (fun w args=>(Rows.lendStepsSpec.pre enc Tryz.prog Tryz.f3 [] false w args/\laidMetH Tryz.prog uT w)/\sizedMet enc Tryz.prog Tryz.f3 (OpenSpec.ofChange Rows.lendStepsSpec) false w args)
  (Rows.lendStepsSpec.post enc Tryz.prog Tryz.f3 false true false false):=by
 refine S7 (C:=Tryz.checked) (n:=8) (tb:=4) (laid:=uT) Us started (by kernel_rfl) Tryz.func3
  (ChangeSpec.witness_shaped (enc:=enc) (C:=Tryz.checked) (os:=os) (X:=fun w _=>laidMetH Tryz.prog uT w) false (HZ os) #[.agg #[.int .i64 0,.slice none 0 0,.slice none 0 0,.slice none 0 0,.slice none 0 0,.slice none 0 0,.slice none 0 0,.slice none 0 0,.int .i64 0,.int .i64 0,.int .i64 0,.int .i64 0,.int .i64 0,.int .i64 0,.int .i64 0,.int .i64 0,.int .i64 0,.int .i64 0,.int .i64 0,.int .i64 0,.int .i64 0,.slice none 0 0,.slice none 0 0,.slice none 0 0,.slice none 0 0,.slice none 0 0,.slice none 0 0,.slice none 0 0,.int .i64 0,.int .i64 0,.int .i64 0,.int .i64 0,.int .i64 0,.int .i64 0,.int .i64 0,.int .i64 0,.int .i64 0,.int .i64 0,.int .i64 0,.int .i64 0,.int .i64 0,.int .i64 0,.slice none 0 0,.slice none 0 0,.slice none 0 0,.slice none 0 0,.slice none 0 0,.slice none 0 0,.slice none 0 0,.int .i64 0,.int .i64 0,.int .i64 0,.int .i64 0,.int .i64 0,.int .i64 0,.int .i64 0,.int .i64 0,.int .i64 0,.int .i64 0,.int .i64 0,.int .i64 0,.int .i64 0,.int .i64 0],.agg #[.int .i64 0,.int .i64 0,.slice none 0 0,.int .i64 0],.agg #[.int .i64 0,.int .i64 0,.int .i64 0]] 8 rfl (World.shaped_of_RefB (by kernel_rfl) (by kernel_rfl)) (by kernel_rfl) (by kernel_rfl) (by kernel_rfl) (SZ os _))
  S0 Ut ?_ (by kernel_rfl) (by kernel_rfl) rfl ?_ hc
 ·have h:(Tryz.f3.params.toList.all fun t=>im Tryz.prog 8 t&&Tryz.prog.readableRec t&&decide (t<Tryz.prog.types.size))=true:=by kernel_rfl
  intro t ht
  have :=List.all_eq_true.1 h t ht
  simp only[Bool.and_eq_true,decide_eq_true_eq]at this
  exact⟨this.1.1,this.1.2,this.2⟩
 ·intro ds s5
  have hl:Tryz.f3.params.toList.length=3:=by kernel_rfl
  rw[hl]at s5
  match ds,s5 with
  |[d1,d2,d3],_=>exact⟨rfl,rfl,rfl⟩
theorem S2(hc:∀ (W:World) (args:Array Value) (xs:List V),ib W->oz Tryz.prog 8 Tryz.f3.params.toList xs->ug Tryz.prog Tryz.f3.params.toList xs->nq (gu W) xs args.toList->Calls Tryz.prog 3 args W fun e W'=>e=.returned (.bool true)/\Below W.heap.size W W'):
 Rows.LendStepsSaid:=
 OpenClaim.holds_of_wide 3 Tryz.f3 rfl rfl rfl rfl rfl rfl rfl ⟨rfl,rfl,rfl,rfl,rfl⟩ rfl rfl rfl rfl rfl (by kernel_rfl) Tryz.func3 (by kernel_rfl)
  (of_decide_eq_true (by kernel_rfl)) (by unfold Func.isWrapper;first | (rw[if_pos (by decide+kernel)];kernel_rfl) | (rw[if_neg (by decide+kernel)];exact⟨rfl,rfl⟩))
  (fun os started H enc _=>S4 hc os started H enc)
theorem S5(h:Rows.LendStepsSaid):Rows.LendStepsCardSaid:=
 Claim7.holds_tied_plain_at .later [] [.data,.data,.data] true (true, "58faa61de3eff3aedc16e69c27c048a92a6db18e7103f1e09a0cb20b9d907ff5") true
  h (fun _ h=>by cases h) (by kernel_rfl) (fun _ h=>by cases h) lendSteps_row_tie rfl ⟨rfl,rfl⟩ (by kernel_rfl) rfl
  (fun f fn hf cA=>by
    obtain rfl:f=3:=Option.some.inj ((show Tryz.prog.funcNamed "parvise/parviselaw09.LendSteps" =some 3 by kernel_rfl).symm.trans hf)|>.symm
    obtain rfl:fn=Tryz.f3:=(Option.some.inj (Tryz.func3.symm.trans cA)).symm
    exact⟨by kernel_rfl,fun j t ht=>by
     have dM:(Tryz.f3.params.toList.all fun t=>!Tryz.prog.wantsStandIn t)=true:=by kernel_rfl
     have hm:t∈Tryz.f3.params.toList:=by
      obtain⟨hj,e⟩:=Array.getElem?_eq_some_iff.1 ht
      rw[<-e]
      exact Array.getElem_mem_toList hj
     have :=List.all_eq_true.1 dM t hm
     have h1:Tryz.prog.wantsStandIn t=false:=by simpa using this
     exact h1⟩)
  (by kernel_rfl)
end Go.Eng
set_option linter.constructorNameAsVariable false
set_option maxRecDepth 100000
namespace Go.Eng
open Go Go.Proofs Go.Proofs.YtckmfkgppohnmaaGreatDoor
theorem Ps{n:Nat}{xs:List V}(h:cO Tryz.prog (n+2) 35 xs):∃ a b c,xs=[vInt a,vInt b,vInt c]:=by
 unfold cO at h
 simp only[Tryz.underlying35]at h
 obtain⟨x1,y1,rfl,h1,x2,y2,rfl,h2,x3,y3,rfl,h3,rfl⟩:=h
 obtain⟨a,rfl,_⟩:=fj h1
 obtain⟨b,rfl,_⟩:=fj h2
 obtain⟨c,rfl,_⟩:=fj h3
 exact⟨a,b,c,rfl⟩
theorem ZS:gl Tryz.prog 35=true:=by kernel_rfl
theorem ZJ{x:V}(h:tY Tryz.prog 8 35 x):∃ a b c,x=.agg [vInt a,vInt b,vInt c]:=by
 obtain⟨xs,h1,rfl⟩:=h
 rw[ZS]
 obtain⟨a,b,c,rfl⟩:=Ps h1
 exact⟨a,b,c,rfl⟩
theorem fP.at{P:Program}{t e:TypeId}{fs:Array Field}(i o o':Nat)(T:TypeId){r:Nat}(h:P.underlying t=some (.struct fs))(hf:(fs.toList[i]?.map fun f=>(f.type,f.offset))=some (T,o'))(ho:o<P.cellsOf T)(hs:fP P T e o)(he:o'+o=r):fP P t e r:=by
 subst he
 rw[Option.map_eq_some_iff]at hf
 obtain⟨f,h1,h2⟩:=hf
 cases h2
 exact .field h h1 ho hs
theorem Y6:Tryz.prog.cellsOf 22=1:=by kernel_rfl
theorem ME:Tryz.prog.cellsOf 23=1:=by kernel_rfl
theorem Y5:Tryz.prog.cellsOf 24=6:=by kernel_rfl
theorem MD:Tryz.prog.cellsOf 27=19:=by kernel_rfl
theorem MC:Tryz.prog.cellsOf 29=21:=by kernel_rfl
theorem Y4:Tryz.prog.cellsOf 30=42:=by kernel_rfl
theorem b3:Tryz.prog.bytesOf 3=8:=by kernel_rfl
theorem ZG:Tryz.prog.bytesOf 91=16:=by kernel_rfl
theorem Gs:fP Tryz.prog 27 3 0:=
 .at 0 0 0 22 Tryz.underlying27 rfl (by rw[Y6];omega) (.here Tryz.underlying22) rfl
theorem Gn{i:Nat}(hi:i<6):fP Tryz.prog 27 91 (1+i):=
 .at 1 i 1 24 Tryz.underlying27 rfl (by rw[Y5];omega) (by
   have h:=fP.elem (P:=Tryz.prog) (e:=91) Tryz.underlying24 (i:=i) (o:=0) hi (by rw[ME];omega) (.here Tryz.underlying23)
   rw[ME,Nat.mul_one,Nat.add_zero]at h
   exact h) rfl
theorem F4{e:TypeId}{o k:Nat}(hk:k<2)(ho:o<19)(h:fP Tryz.prog 27 e o):fP Tryz.prog 32 e (20+(k*21+(1+o))):=
 .at 2 (k*21+(1+o)) 20 30 Tryz.underlying32 rfl (by rw[Y4];omega) (by
   have h:=fP.elem (P:=Tryz.prog) (e:=e) Tryz.underlying30 (i:=k) (o:=1+o) hk (by rw[MC];omega) (.at 1 o 1 27 Tryz.underlying29 rfl (by rw[MD];omega) h rfl)
   rw[MC]at h
   exact h) rfl
theorem F3{e:TypeId}{o:Nat}(ho:o<19)(h:fP Tryz.prog 27 e o):fP Tryz.prog 32 e (1+o):=
 .at 1 o 1 27 Tryz.underlying32 rfl (by rw[MD];omega) h rfl
theorem O6{ts:List TypeId}{xs:List V}{d:Dk}(h:ug Tryz.prog ts xs)(ht:ts[0]?=some 32)(hx:xs[0]?=some (eE d)):di d:=by
 have e:reachBytes<=140737488355328:=by decide
 have hA:∀ o (l:List Int),fP Tryz.prog 32 3 o->(al d)[o]?=some (fa l)->l.length*8<=140737488355328:=fun o l h1 h2=>by
  have :=h 0 32 3 o _ _ ht h1 hx h2
  rw[b3,List.length_map]at this
  omega
 have hB:∀ o (l:List Par),fP Tryz.prog 32 91 o->(al d)[o]?=some (rowP l)->l.length*16<=140737488355328:=fun o l h1 h2=>by
  have :=h 0 32 91 o _ _ ht h1 hx h2
  rw[ZG,List.length_map]at this
  omega
 refine⟨⟨hA _ _ (F3 (by omega) Gs) rfl,fun i hi=>hB _ _ (F3 (by omega) (Gn hi)) ?_⟩,fun k hk=>⟨hA _ _ (F4 hk (by omega) Gs) ?_,fun i hi=>hB _ _ (F4 hk (by omega) (Gn hi)) ?_⟩⟩
 ·match i,hi with
  | 0,_ | 1,_ | 2,_ | 3,_ | 4,_ | 5,_=>rfl
 ·match k,hk with
  | 0,_ | 1,_=>rfl
 ·match k,hk,i,hi with
  | 0,_,0,_ | 0,_,1,_ | 0,_,2,_ | 0,_,3,_ | 0,_,4,_ | 0,_,5,_=>rfl
  | 1,_,0,_ | 1,_,1,_ | 1,_,2,_ | 1,_,3,_ | 1,_,4,_ | 1,_,5,_=>rfl
theorem lendSteps_holds:Rows.LendStepsCardSaid:=
 S5<|S2 fun W args xs ht ha hz hr=>by
  obtain⟨x,ys,rfl,h1,y,zs,rfl,h2,z,us,rfl,h3,rfl⟩:=(show oz Tryz.prog 8 [32,34,35] xs from ha)
  obtain⟨d,rfl⟩:=ZL h1
  obtain⟨b,rfl⟩:=ZK h2
  obtain⟨m,n,k,rfl⟩:=ZJ h3
  exact Y3 s3 ht hr ⟨congrArg eE (Eu d),congrArg l7 (wi b),rfl,by show di (wh (eE d));rw[Eu];exact O6 (ts:=[32,34,35]) hz rfl rfl⟩ rfl
end Go.Eng
namespace Go.Proofs.YtckmfkgppohnmaaGreatDoor
theorem lendStepsCard_holds : Rows.LendStepsCardSaid := Go.Eng.lendSteps_holds
end Go.Proofs.YtckmfkgppohnmaaGreatDoor
#print axioms Go.Proofs.YtckmfkgppohnmaaGreatDoor.lendStepsCard_holds
