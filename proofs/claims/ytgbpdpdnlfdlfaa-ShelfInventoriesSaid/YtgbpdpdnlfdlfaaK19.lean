import Derived.Test.YtgbpdpdnlfdlfaaK18
import GoSem.ClaimChange
import Derived.DataReads
import Derived.ChangeReads
import Derived.ProofKit
import Derived.Carry
import Derived.Test.YtgbpdpdnlfdlfaaRows
import Derived.Test.YtgbpdpdnlfdlfaaChecked
/- whether glimpses and inventories are valid, with a glimpse more or less, and what fits a hole, are as the chapter says -/
set_option linter.all false
namespace Go.Eng
open Go Go.Proofs
theorem s9:aS Try.prog 9 ⟨fun xs=>xs=[],fun _=>.bool true,true⟩:=
 I1 (b:=.bool true) Ld (by
  intro fn h
  have e:Try.prog.funcs[9]?=some Try.f9:=Try.func9
  rw[e]at h
  obtain rfl:=Option.some.inj h
  exact(by kernel_rfl:(Try.f9.name== "runtime.NumGoroutine")=false)) (by decide) rfl
noncomputable def P9:PSpec:=⟨fun xs=>xs=[],fun _=>.bool true,true⟩
noncomputable def S9:Spec:=P9.toSpec
theorem k9:an Try.prog 9 S9:=s9.sound
attribute [go_sem] P9 S9
set_option maxRecDepth 100000
noncomputable def Gq:List (Nat×Spec):=[(9,S9),(28,S28),(33,S33),(34,S34),(35,S35),(36,S36),(37,S37),(38,S38),(14,S14),(39,S39),(40,S40),(41,S41),(42,S42)]
theorem RL:∀ f s,tbl Gq f=some s->an Try.prog f s:=tc k9<|tc M1<|tc M0<|tc MZ<|tc MY<|tc MX<|tc MW<|tc MV<|tc uF<|tc CO<|tc CN<|tc qL<|tc qK<|tn
attribute [go_sem] Gq
noncomputable def P8:PSpec:=p3 iN iG qU (fun _ _ _=>True) (fun _ _ _=>.bool true) true
noncomputable def S8:Spec:=P8.toSpec
attribute [go_sem] P8 S8
set_option maxHeartbeats 16000000 in
theorem s8:aS Try.prog 8 P8:=by
 refine w3 (rs:=[.tmp 6]) Try.func8 Try.ntmps8 (by rfl) (by kernel_rfl) (by decide) (fun _ _ _ _=>rfl) ⟨_,rfl,lb rfl,fun n g x hp hw=>?_⟩
 have hP:=bf
 simp only[iG,iN,qU]at hw |-
 have hΓ:=RL
 repeat refine sq ?_
 refine rx hΓ [3,4,5] [[3,0],[4,0],[5,0]] (fun K' hK=>by simp only[go_sem];(repeat (refine⟨ai,?_⟩));exact hK _ (by simp only[go_sem]) (by simp only[go_sem]<;>rfl)) ?_
 repeat refine sq ?_
 refine rx hΓ [3,4,5,7] [[3,0],[4,0],[5,0]] (fun K' hK=>by simp only[go_sem];(repeat (refine⟨ai,?_⟩));exact hK _ (by simp only[go_sem]) (by simp only[go_sem]<;>rfl)) ?_
 repeat refine sq ?_
 refine rx hΓ [3,4,5,7,8,9] [[3,0],[4,0],[5,0],[8,0]] (fun K' hK=>by simp only[go_sem];(repeat (refine⟨ai,?_⟩));exact hK _ (by simp only[go_sem]) (by simp only[go_sem]<;>rfl)) ?_
 repeat refine sq ?_
 refine rx hΓ [3,4,5,7,8,9,10,11] [[3,0],[4,0],[5,0],[8,0],[10,0]] (fun K' hK=>by simp only[go_sem];(repeat (refine⟨ai,?_⟩));exact hK _ (by simp only[go_sem]) (by simp only[go_sem]<;>rfl)) ?_
 repeat refine sq ?_
 refine rx hΓ [3,4,5,7,8,9,10,11,12,13] [[3,0],[4,0],[5,0],[8,0],[10,0],[12,0]] (fun K' hK=>by simp only[go_sem];(repeat (refine⟨ai,?_⟩));exact hK _ (by simp only[go_sem]) (by simp only[go_sem]<;>rfl)) ?_
 repeat refine sq ?_
 refine rx hΓ [3,4,5,7,8,9,10,11,12,13,14,15] [[3,0],[4,0],[5,0],[8,0],[10,0],[12,0],[14,0]] (fun K' hK=>by simp only[go_sem];(repeat (refine⟨ai,?_⟩));exact hK _ (by simp only[go_sem]) (by simp only[go_sem]<;>rfl)) ?_
 repeat refine sq ?_
 refine rx hΓ [3,4,5,7,8,9,10,11,12,13,14,15,16,17,18] [[3,0],[4,0],[5,0],[8,0],[10,0],[12,0],[14,0]] (fun K' hK=>by simp only[go_sem];(repeat (refine⟨ai,?_⟩));exact hK _ (by simp only[go_sem]) (by simp only[go_sem]<;>rfl)) ?_
 repeat refine sq ?_
 refine rx hΓ [3,4,7,8,9,10,11,12,13,14,15,16,17,18,19,20,21] [[3,0],[4,0],[8,0],[10,0],[12,0],[14,0]] (fun K' hK=>by simp only[go_sem];(repeat (refine⟨ai,?_⟩));exact hK _ (by simp only[go_sem]) (by simp only[go_sem]<;>rfl)) ?_
 repeat refine sq ?_
 refine rx hΓ [3,4,7,9,11,12,13,14,15,16,17,18,19,20,21,22] [[3,0],[4,0],[12,0],[14,0]] (fun K' hK=>by simp only[go_sem,decide_true];(repeat (refine⟨ai,?_⟩));exact hK _ (by simp only[go_sem]) (by simp only[go_sem]<;>rfl)) ?_
 repeat refine sq ?_
 refine rx hΓ [3,4,7,9,11,13,15,16,17,18,19,20,21,22,23] [[3,0],[4,0]] (fun K' hK=>by simp only[go_sem,decide_true];(repeat (refine⟨ai,?_⟩));exact hK _ (by simp only[go_sem]) (by simp only[go_sem]<;>rfl)) ?_
 repeat refine sq ?_
 refine rx hΓ [3,4,7,9,11,13,15,17,18,20,21,22,23,24] [[3,0],[4,0]] (fun K' hK=>by simp only[go_sem,decide_true];(repeat (refine⟨ai,?_⟩));exact hK _ (by simp only[go_sem]) (by simp only[go_sem]<;>rfl)) ?_
 repeat refine sq ?_
 refine dx hΓ hP [[],[0],[0,1],[0,1,2],[0,1,2,3],[0,1,2,3,4],[0,1,2,3,4],[0,1,2,3,4,5,6],[0,1,2,3,4,5,6,7],[0,1,2,3,4,5,6,7,8],[0,1,2,3,4,5,6,7,8,9],[0,1,2,3,4,5,6,7,8,9,10],[0,1,2,3,4,5,6,7,8,9,10,11],[0,1,2,3,4,5,6,7,8,9,10,11,12],[0,1,2,3,4,5,6,7,8,9,10,11,12],[0,1,2,3,4,5,6,7,8,9,10,11,12,13,14],[0,1,2,3,4,5,6,7,8,9,10,11,12,13,14,15],[0,1,2,3,4,5,6,7,8,9,10,11,12,13,14,15,16],[0,1,2,3,4,5,6,7,8,9,10,11,12,13,14,15,16,17],[0,1,2,3,4,5,6,7,8,9,10,11,12,13,14,15,16,17,18],[0,1,2,3,4,5,6,7,8,9,10,11,12,13,14,15,16,17,18,19],[0,1,2,3,4,5,6,7,8,9,10,11,12,13,14,15,16,17,18,19,20],[0,1,2,3,4,5,6,7,8,9,10,11,12,13,14,15,16,17,18,19,20],[0,1,2,3,4,5,6,7,8,9,10,11,12,13,14,15,16,17,18,19,20,21,22],[0,1,2,3,4,5,6,7,8,9,10,11,12,13,14,15,16,17,18,19,20,21,22,23],[0,1,2,3,4,5,6,7,8,9,10,11,12,13,14,15,16,17,18,19,20,21,22,23,24],[0,1,2,3,4,5,6,7,8,9,10,11,12,13,14,15,16,17,18,19,20,21,22,23,24,25],[0,1,2,3,4,5,6,7,8,9,10,11,12,13,14,15,16,17,18,19,20,21,22,23,24,25],[0,1,2,3,4,5,6,7,8,9,10,11,12,13,14,15,16,17,18,19,20,21,22,23,24,25,26,27],[0,1,2,3,4,5,6,7,8,9,10,11,12,13,14,15,16,17,18,19,20,21,22,23,24,25,26,27,28],[0,1,2,3,4,5,6,7,8,9,10,11,12,13,14,15,16,17,18,19,20,21,22,23,24,25,26,27,28,29],[0,1,2,3,4,5,6,7,8,9,10,11,12,13,14,15,16,17,18,19,20,21,22,23,24,25,26,27,28,29,30],[0,1,2,3,4,5,6,7,8,9,10,11,12,13,14,15,16,17,18,19,20,21,22,23,24,25,26,27,28,29,30,31],[0,1,2,3,4,5,6,7,8,9,10,11,12,13,14,15,16,17,18,19,20,21,22,23,24,25,26,27,28,29,30],[0,1,2,3,4,5,6,7,8,9,10,11,12,13,14,15,16,17,18,19,20,21,22,23,24,25,26,27,28,29,30,31,32,33],[0,1,2,3,4,5,6,7,8,9,10,11,12,13,14,15,16,17,18,19,20,21,22,23,24,25,26,27,28,29,30,31,32,33,34],[0,1,2,3,4,5,6,7,8,9,10,11,12,13,14,15,16,17,18,19,20,21,22,23,24,25,26,27,28,29,30,31,32,33,34,35],[0,1,2,3,4,5,6,7,8,9,10,11,12,13,14,15,16,17,18,19,20,21,22,23,24,25,26,27,28,29,30,31,32,33,34,35,36],[0,1,2,3,4,5,6,7,8,9,10,11,12,13,14,15,16,17,18,19,20,21,22,23,24,25,26,27,28,29,30,31,32,33,34,35,36,37],[0,1,2,3,4,5,6,7,8,9,10,11,12,13,14,15,16,17,18,19,20,21,22,23,24,25,26,27,28,29,30,31,32,33,34,35,36,37,38],[0,1,2,3,4,5,6,7,8,9,10,11,12,13,14,15,16,17,18,19,20,21,22,23,24,25,26,27,28,29,30,31,32,33,34,35,36,37],[0,1,2,3,4,5,6,7,8,9,10,11,12,13,14,15,16,17,18,19,20,21,22,23,24,25,26,27,28,29,30,31,32,33,34,35,36,37,38,39,40],[0,1,2,3,4,5,6,7,8,9,10,11,12,13,14,15,16,17,18,19,20,21,22,23,24,25,26,27,28,29,30,31,32,33,34,35,36,37,38,39,40,41],[0,1,2,3,4,5,6,7,8,9,10,11,12,13,14,15,16,17,18,19,20,21,22,23,24,25,26,27,28,29,30,31,32,33,34,35,36,37,38,39,40,41,42],[0,1,2,3,4,5,6,7,8,9,10,11,12,13,14,15,16,17,18,19,20,21,22,23,24,25,26,27,28,29,30,31,32,33,34,35,36,37,38,39,40,41,42,43]] [6] [] (by kernel_rfl) (fun K' hK=>by simp only[go_sem];(repeat (refine⟨ai,?_⟩));(first | refine⟨by rfl,?_⟩ | skip);exact hK _ (by simp only[go_sem]) (by simp only[go_sem]<;>rfl)) ?_
 refine aC ?_
 simp only[go_sem]
 skip
theorem k8:an Try.prog 8 S8:=s8.sound
open Go
def ep(P:Program)(t:TypeId):Bool:=match P.underlying t with | some (.struct _)=>true | some (.array _ _)=>true | _=>false
def gT(ag:Bool)(xs:List V):V:=if ag then .agg xs else xs.getD 0 default
def iE(P:Program):List Field->Nat->Nat->Bool
 |[],off,tot=>off==tot
 |f::r,off,tot=>f.offset==off&&iE P r (off+P.cellsOf f.type) tot
def fR(P:Program):Nat->TypeId->Bool
 | 0,_=>false
 |n+1,t=>match P.underlying t with
  |some .bool=>P.cellsOf t==1
  |some (.int _)=>P.cellsOf t==1
  |some .string=>P.cellsOf t==1
  |some (.slice e)=>P.cellsOf t==1&&fR P n e&&decide (0<P.cellsOf e)&&(ep P e||P.cellsOf e==1)
  |some (.struct fs)=>iE P fs.toList 0 (P.cellsOf t)&&fs.toList.all fun f=>fR P n f.type
  |some (.array m e)=>P.cellsOf t==m*P.cellsOf e&&fR P n e
  |_=>false
def pQ(S:TypeId->List V->Prop):List TypeId->List V->Prop
 |[],xs=>xs=[]
 |t::r,xs=>∃ a b,xs=a++b/\S t a/\pQ S r b
def c6(P:Program):Nat->TypeId->List V->Prop
 | 0,_,_=>False
 |n+1,t,xs=>match P.underlying t with
  |some .bool=>∃ b,xs=[.bool b]
  |some (.int k)=>∃ z,xs=[.int k z]/\(Lit.int k z).wf=true
  |some .string=>∃ s,xs=[.str s]/\s.size<=maxLen
  |some (.slice e)=>∃ ls:List (List V),xs=[.sl (ls.map (gT (ep P e)))]/\ls.length<=maxLen/\∀ y∈ls,c6 P n e y
  |some (.struct fs)=>pQ (c6 P n) (fs.toList.map (·.type)) xs
  |some (.array m e)=>pQ (c6 P n) (List.replicate m e) xs
  |_=>False
structure et (m:Mem) (xs:List V) (cs:List Value):Prop where
 len:xs.length=cs.length
 rep:∀ i (h:i<xs.length) (h':i<cs.length),aw m xs[i] cs[i]
 one:∀ x∈xs,x.one=true
theorem et.nil(m:Mem):et m [] []:=⟨rfl,fun i h=>by simp at h,fun x h=>by simp at h⟩
theorem et.append{m:Mem}{xs ys:List V}{cs ds:List Value}(h:et m xs cs)(k:et m ys ds):et m (xs++ys) (cs++ds):=by
 refine⟨by simp[h.len,k.len],fun i h1 h2=>?_,fun x hx=>?_⟩
 ·by_cases hi:i<xs.length
  ·rw[List.getElem_append_left hi,List.getElem_append_left (by rw[<-h.len];exact hi)]
   exact h.rep i hi _
  ·have hl:=h.len
   have e:i-xs.length=i-cs.length:=by rw[hl]
   rw[List.getElem_append_right (by omega),List.getElem_append_right (by omega)]
   simp only[List.length_append]at h1 h2
   have :=k.rep (i-xs.length) (by omega) (by rw[<-k.len];omega)
   simp only[e]at this |-
   exact this
 ·rcases List.mem_append.1 hx with hx | hx
  ·exact h.one x hx
  ·exact k.one x hx
theorem et.single{m:Mem}{x:V}{u:Value}(h:aw m x u)(ho:x.one=true):et m [x] [u]:=
 ⟨rfl,fun i h1 h2=>by simp at h1;subst h1;exact h,fun y hy=>by simp at hy;subst hy;exact ho⟩
theorem mapM_some{α β:Type}{f:α->Option β}:∀ {l:List α} {r:List β},l.mapM f=some r->r.length=l.length/\∀ i (h:i<l.length) (h':i<r.length),f l[i]=some r[i]
 |[],r,h=>by
  simp only[List.mapM_nil]at h
  cases h
  exact⟨rfl,fun i h=>by simp at h⟩
 |a::l,r,h=>by
  simp only[List.mapM_cons,Option.bind_eq_bind,Option.bind_eq_some_iff]at h
  obtain⟨b,hb,bs,rL,hr⟩:=h
  cases hr
  obtain⟨h1,h2⟩:=mapM_some rL
  refine⟨by simp[h1],fun i hi bl=>?_⟩
  cases i with
  |zero=>exact hb
  |succ i=>exact h2 i (by simpa using hi) (by simpa using bl)
theorem xx{P:Program}:∀ {fs:List Field} {off tot:Nat},iE P fs off tot=true->off<=tot
 |[],off,tot,h=>by simp[iE]at h;omega
 |f::r,off,tot,h=>by
  simp only[iE,Bool.and_eq_true]at h
  have :=xx h.2
  omega
theorem EG{P:Program}{m:Mem}{S:TypeId->List V->Prop}{cs:List Value}:∀ {fs:List Field} {off:Nat},iE P fs off cs.length=true->
 (∀ f∈fs,∃ xs,S f.type xs/\et m xs ((cs.drop f.offset).take (P.cellsOf f.type)))->∃ xs,pQ S (fs.map (·.type)) xs/\et m xs (cs.drop off)
 |[],off,h,_=>by
  simp[iE]at h
  subst h
  exact⟨[],rfl,by simpa using et.nil m⟩
 |f::r,off,h,hf=>by
  simp only[iE,Bool.and_eq_true,beq_iff_eq]at h
  obtain⟨h1,h2⟩:=h
  obtain⟨a,ha,uY⟩:=hf f (by simp)
  obtain⟨b,hb,oW⟩:=EG h2 fun g hg=>hf g (by simp[hg])
  refine⟨a++b,⟨a,b,rfl,ha,hb⟩,?_⟩
  have e:cs.drop off=(cs.drop f.offset).take (P.cellsOf f.type)++cs.drop (off+P.cellsOf f.type):=by
   rw[h1,<-List.drop_drop,List.take_append_drop]
  rw[e]
  exact uY.append oW
theorem FZ{m:Mem}{S:TypeId->List V->Prop}{e:TypeId}{k:Nat}{cs:List Value}:∀ (n off:Nat),cs.length=(off+n)*k->
 (∀ i,i<off+n->∃ xs,S e xs/\et m xs ((cs.drop (i*k)).take k))->∃ xs,pQ S (List.replicate n e) xs/\et m xs (cs.drop (off*k))
 | 0,off,h,_=>by
   have :cs.drop (off*k)=[]:=List.drop_eq_nil_of_le (by rw[h];simp)
   rw[this]
   exact⟨[],rfl,et.nil m⟩
 |n+1,off,h,hf=>by
  obtain⟨a,ha,uY⟩:=hf off (by omega)
  obtain⟨b,hb,oW⟩:=FZ n (off+1) (by rw[h];congr 1;omega) fun i hi=>hf i (by omega)
  refine⟨a++b,⟨a,b,rfl,ha,hb⟩,?_⟩
  have e:cs.drop (off*k)=(cs.drop (off*k)).take k++cs.drop ((off+1)*k):=by
   rw[Nat.succ_mul,<-List.drop_drop,List.take_append_drop]
  rw[e]
  exact uY.append oW
theorem I5{ag:Bool}{xs:List V}(h:ag=true\/xs.length=1)(ho:∀ x∈xs,x.one=true):(gT ag xs).cells=xs:=by
 cases ag with
 |true=>rfl
 |false=>
  rcases h with h | h
  ·cases h
  match xs,h with
  |[x],_=>
   have :=ho x (by simp)
   show x.cells=[x]
   cases x<;>first | rfl | (simp[V.one]at this)
def fV(w:World):Mem:=fun b off=>w.cell? ⟨b,off,none⟩
theorem F6{a:Addr}(h:a.spot=none)(n:Nat):a.add n=⟨a.block,a.off+n,none⟩:=by
 obtain⟨b,o,s⟩:=a
 simp only at h
 subst h
 unfold Addr.add
 split
 ·rename_i e;subst e;rfl
 ·rfl
theorem qd{H:Type}{enc:TypeId×Value->H}{P:Program}{w:World}{base:Nat}{spare:Nat->Bool}{held:Bool}:
 ∀ (n fuel:Nat) (t:TypeId) (cs:List Value) (r:DataW H×List MemPlace),fR P n t=true->cs.length=P.cellsOf t->DataW.trod enc P w base spare held fuel t cs=some r->∃ xs,c6 P n t xs/\et (fV w) xs cs
 | 0,_,_,_,_,h,_,_=>by simp[fR]at h
 |n+1,0,_,_,_,_,_,h=>by simp[DataW.trod]at h
 |n+1,fuel+1,t,cs,r,hp,hlen,h=>by
  rw[DataW.trod_step]at h
  unfold DataW.trodStep at h
  unfold fR at hp
  unfold c6
  rcases hu:P.underlying t with _ | u
  ·rw[hu]at hp;simp at hp
  rw[hu]at hp h
  cases u with
  |bool=>
   have hb:∃ b,cs=[.bool b]:=by
    simp only at h
    split at h<;>simp_all
   obtain⟨b,rfl⟩:=hb
   exact⟨_,⟨b,rfl⟩,.single (.bool _) rfl⟩
  |int k=>
   simp only at hp h |-
   split at h<;>simp_all
   obtain⟨⟨rfl,h1⟩,_⟩:=h
   exact⟨_,⟨_,rfl,h1⟩,.single (.int _ _) rfl⟩
  |string=>
   simp only at hp h |-
   split at h<;>simp_all
   obtain⟨h1,_⟩:=h
   exact⟨_,⟨_,rfl,h1⟩,.single (.str _ h1) rfl⟩
  |slice e=>
   simp only[Bool.and_eq_true,decide_eq_true_eq,Bool.or_eq_true,beq_iff_eq]at hp |-
   obtain⟨⟨⟨_,fZ⟩,bU⟩,Pg⟩:=hp
   split at h<;>simp_all
   ·exact⟨_,⟨[],rfl,Nat.zero_le _,by simp⟩,.single (.slnil _ _) rfl⟩
   ·rename_i e' a len cap _ _
    obtain⟨⟨hb,Ot,hcm⟩,h⟩:=h
    simp only[Option.bind_eq_some_iff]at h
    obtain⟨elems,hU,_⟩:=h
    obtain⟨l1,l2⟩:=mapM_some hU
    simp only[List.length_range]at l1
    have hx:∀ i,i<len->∃ xs cells,w.cells? base (a.add (i*P.cellsOf e')) (P.cellsOf e')=some cells/\c6 P n e' xs/\et (fV w) xs cells:=by
     intro i hi
     have h3:=l2 i (by simpa using hi) (by omega)
     simp only[List.getElem_range,Option.bind_eq_some_iff]at h3
     obtain⟨cells,h4,h5⟩:=h3
     obtain⟨xs,h6,h7⟩:=qd n fuel _ _ _ fZ (World.cells?_some h4).2.1 h5
     exact⟨xs,cells,h4,h6,h7⟩
    rcases Nat.eq_zero_or_pos len with hz | N9
    ·subst hz
     exact⟨[.sl []],⟨[],rfl,Nat.zero_le _,by simp⟩,.single (.slnil _ _) rfl⟩
    have uS:a.spot=none:=by
     obtain⟨xs,cells,h4,_⟩:=hx 0 N9
     have h8:=(World.cells?_some h4).2.2 0 bU
     have h9:=(World.cells?_some h4).2.1
     have mm:w.cell? ((a.add (0*P.cellsOf e')).add 0)=some (cells[0]'(by omega)):=by rw[h8];exact List.getElem?_eq_getElem (by omega)
     simpa[Addr.add]using World.cell?_spot mm
    let X:Nat->List V:=fun i=>if h:i<len then Classical.choose (hx i h)else[]
    let C:Nat->List Value:=fun i=>(w.cells? base (a.add (i*P.cellsOf e')) (P.cellsOf e')).getD []
    have hX:∀ i,i<len->c6 P n e' (X i)/\et (fV w) (X i) (C i)/\(C i).length=P.cellsOf e'/\∀ j,j<P.cellsOf e'->w.cell? ⟨a.block,a.off+i*P.cellsOf e'+j,none⟩=(C i)[j]?:=by
     intro i hi
     obtain⟨cells,h4,h6,h7⟩:=Classical.choose_spec (hx i hi)
     have e1:X i=Classical.choose (hx i hi):=dif_pos hi
     have e2:C i=cells:=by show (w.cells? _ _ _).getD []=cells;rw[h4];rfl
     rw[e1,e2]
     refine⟨h6,h7,(World.cells?_some h4).2.1,fun j hj=>?_⟩
     have h8:=(World.cells?_some h4).2.2 j hj
     rw[F6 uS,F6 rfl]at h8
     exact h8
    have ef:∀ i,i<len->(gT (ep P e') (X i)).cells=X i:=fun i hi=>by
     obtain⟨h1,h2,h3,_⟩:=hX i hi
     refine I5 ?_ h2.one
     rcases Pg with h | h
     ·exact .inl h
     ·exact .inr (by rw[h2.len,h3,h])
    refine⟨[.sl (((List.range len).map X).map (gT (ep P e')))],⟨(List.range len).map X,rfl,by simp;omega,fun y hy=>?_⟩,.single ?_ rfl⟩
    ·simp only[List.mem_map,List.mem_range]at hy
     obtain⟨i,hi,rfl⟩:=hy
     exact(hX i hi).1
    ·obtain⟨b,o,s⟩:=a
     simp only at uS hX
     subst uS
     have key:=aw.sl (m:=fV w) (((List.range len).map X).map (gT (ep P e'))) b o cap (P.cellsOf e') (fun i j=>((C i)[j]?).getD undef) (by
         intro h;have:=congrArg List.length h;simp at this;omega) (by simp;omega) (by simpa using Ot)
      (fun i hi=>by
        have bl:i<len:=by simpa using hi
        obtain⟨h1,h2,h3,_⟩:=hX i bl
        simp only[List.getElem_map,List.getElem_range]
        rw[ef i bl,h2.len,h3])
      (fun i j hi hj=>by
        have bl:i<len:=by simpa using hi
        obtain⟨h1,h2,h3,h4⟩:=hX i bl
        show w.cell? _=_
        rw[h4 j hj,List.getElem?_eq_getElem (by omega)]
        rfl)
      (fun i j hi hj=>by
        have bl:i<len:=by simpa using hi
        obtain⟨h1,h2,h3,h4⟩:=hX i bl
        simp only[List.getElem_map,List.getElem_range,ef i bl]at hj |-
        have fF:j<(C i).length:=by rw[<-h2.len];exact hj
        rw[List.getElem?_eq_getElem fF]
        exact h2.rep j hj fF)
      (fun i hi x hx=>by
        have bl:i<len:=by simpa using hi
        simp only[List.getElem_map,List.getElem_range,ef i bl]at hx
        exact(hX i bl).2.1.one x hx)
     simpa using key
  |struct fs=>
   simp only[Bool.and_eq_true,List.all_eq_true]at hp h |-
   obtain⟨ht,ic⟩:=hp
   rw[if_pos hlen]at h
   simp only[Option.map_eq_some_iff]at h
   obtain⟨ys,uN,_⟩:=h
   obtain⟨l1,l2⟩:=mapM_some uN
   have :=EG (m:=fV w) (S:=c6 P n) (cs:=cs) (fs:=fs.toList) (off:=0) (by rw[hlen];exact ht) fun f hf=>by
    obtain⟨i,hi,rfl⟩:=List.mem_iff_getElem.1 hf
    have h3:=l2 i hi (by omega)
    have hle:P.cellsOf fs.toList[i].type<=(cs.drop fs.toList[i].offset).length:=by
     have key:∀ (l:List Field) (off tot:Nat),iE P l off tot=true->∀ f∈l,f.offset+P.cellsOf f.type<=tot:=by
      intro l
      induction l with
      |nil=>intro _ _ _ f hf;simp at hf
      |cons g r ih=>
       intro off tot h f hf
       simp only[iE,Bool.and_eq_true,beq_iff_eq]at h
       rcases List.mem_cons.1 hf with rfl | hf
       ·have:=xx h.2;omega
       ·exact ih _ _ h.2 f hf
     have :=key _ _ _ ht _ hf
     simp only[List.length_drop]
     omega
    exact qd n fuel _ _ _ (ic _ hf) (by rw[List.length_take];omega) h3
   simpa using this
  |array m e=>
   simp only[Bool.and_eq_true,beq_iff_eq]at hp h |-
   obtain⟨ht,fZ⟩:=hp
   rw[if_pos hlen]at h
   simp only[Option.map_eq_some_iff]at h
   obtain⟨ys,uN,_⟩:=h
   obtain⟨l1,l2⟩:=mapM_some uN
   have :=FZ (m:=fV w) (S:=c6 P n) (e:=e) (k:=P.cellsOf e) (cs:=cs) m 0 (by rw[hlen,ht];simp) fun i hi=>by
    have bl:i<m:=by omega
    have h3:=l2 i (by simpa using bl) (by rw[l1];simpa using bl)
    simp only[List.getElem_range]at h3
    have hle:i*P.cellsOf e+P.cellsOf e<=cs.length:=by
     rw[hlen,ht,<-Nat.succ_mul];exact Nat.mul_le_mul_right _ bl
    exact qd n fuel _ _ _ fZ (by rw[List.length_take,List.length_drop];omega) h3
   simpa using this
  |_=>simp at hp
open Go Go.RowKit Go.ChangeShapes Go.WideShapes Go.ChangeAt
theorem Ji{P:Program}{n:Nat}{t:TypeId}{W:World}{r:Reach}{base:Nat}{v:Value}(hp:fR P n t=true)(h:Value.okWide P W r base t v):
 v.cells.size=P.cellsOf t/\(ep P t=true->∃ cs,v=.agg cs)/\(ep P t=false->v.cells= #[v]/\P.cellsOf t=1):=by
 cases n with
 |zero=>simp[fR]at hp
 |succ n=>
  unfold fR at hp
  unfold ep
  rcases hu:P.underlying t with _ | u
  ·rw[hu]at hp;simp at hp
  rw[hu]at hp
  cases u with
  |bool=>
   obtain⟨b,rfl⟩:=okWide_bool hu h
   simp only[beq_iff_eq]at hp
   exact⟨by simp[Value.cells,hp],by simp,fun _=>⟨rfl,hp⟩⟩
  |int k=>
   obtain⟨b,rfl⟩:=okWide_int hu h
   simp only[beq_iff_eq]at hp
   exact⟨by simp[Value.cells,hp],by simp,fun _=>⟨rfl,hp⟩⟩
  |string=>
   obtain⟨b,rfl⟩:=okWide_string hu h
   simp only[beq_iff_eq]at hp
   exact⟨by simp[Value.cells,hp],by simp,fun _=>⟨rfl,hp⟩⟩
  |slice e=>
   obtain⟨a,len,cap,rfl⟩:=okWide_slice hu h
   simp only[Bool.and_eq_true,beq_iff_eq]at hp
   exact⟨by simp[Value.cells,hp.1.1.1],by simp,fun _=>⟨rfl,hp.1.1.1⟩⟩
  |struct fs=>
   simp only[Value.okWide,hu]at h
   obtain⟨cs,rfl,h2,_⟩:=h
   exact⟨h2,fun _=>⟨cs,rfl⟩,fun h=>by simp at h⟩
  |array m e=>
   simp only[Value.okWide,hu]at h
   obtain⟨cs,rfl,h2,_⟩:=h
   exact⟨h2,fun _=>⟨cs,rfl⟩,fun h=>by simp at h⟩
  |_=>simp at hp
def pU(P:Program)(n:Nat)(t:TypeId)(x:V):Prop:=∃ xs,c6 P n t xs/\x=gT (ep P t) xs
def n4(P:Program)(n:Nat):List TypeId->List V->Prop
 |[],xs=>xs=[]
 |t::r,xs=>∃ x ys,xs=x::ys/\pU P n t x/\n4 P n r ys
theorem Q5{H:Type}{enc:TypeId×Value->H}{P:Program}{w:World}{b0:Nat}{spare:Nat->Bool}{held:Bool}{n:Nat}{t:TypeId}{r:Reach}{base:Nat}{v:Value}{d:DataW H}{ps:List MemPlace}
 (hp:fR P n t=true) (h:Value.okWide P w r base t v) (ht:DataW.Trod enc P w b0 spare held t v d ps):∃ x,pU P n t x/\aw (fV w) x v:=by
 obtain⟨h1,h2,h3⟩:=Ji hp h
 obtain⟨fuel,hf⟩:=ht
 obtain⟨xs,k1,k2⟩:=qd n fuel t v.cells.toList _ hp (by simpa using h1) hf
 refine⟨gT (ep P t) xs,⟨xs,k1,rfl⟩,?_⟩
 cases ha:ep P t with
 |true=>
  obtain⟨cs,rfl⟩:=h2 ha
  simp only[gT,if_true]
  refine .agg xs cs (by simpa[Value.cells]using k2.len) k2.one fun i h h'=>?_
  have :=k2.rep i h (by simpa[Value.cells]using h')
  simpa[Value.cells]using this
 |false=>
  obtain⟨h4,h5⟩:=h3 ha
  have hl:xs.length=1:=by rw[k2.len];simp[h4]
  match xs,hl with
  |[x],_=>
   have :=k2.rep 0 (by simp) (by simp[h4])
   simp only[gT,Bool.false_eq_true,if_false,List.getD_cons_zero]
   simpa[h4]using this
theorem F1{H:Type}{enc:TypeId×Value->H}{P:Program}{w:World}{b0:Nat}{spare:Nat->Bool}{held:Bool}{n:Nat}{r:Reach}{base:Nat}:∀ {ts:List TypeId} {vs:List Value} {ds:List (DataW H)} {ps:List MemPlace},
 (∀ t∈ts,fR P n t=true)->(∀ (j:Nat) t v,ts[j]?=some t->vs[j]?=some v->Value.okWide P w r base t v)->DataW.TrodAll enc P w b0 spare held ts vs ds ps->∃ xs,n4 P n ts xs/\mD (fV w) xs vs
 |[],vs,ds,ps,_,_,h=>by
  cases vs with
  |nil=>exact⟨[],rfl,rfl,fun i h=>by simp at h⟩
  |cons=>cases ds<;>simp[DataW.TrodAll]at h
 |t::ts,[],ds,ps,_,_,h=>by cases ds<;>simp[DataW.TrodAll]at h
 |t::ts,v::vs,[],ps,_,_,h=>by simp[DataW.TrodAll]at h
 |t::ts,v::vs,d::ds,ps,hp,hv,h=>by
  obtain⟨p,q,h1,h2,_⟩:=h
  obtain⟨x,k1,k2⟩:=Q5 (hp t (by simp)) (hv 0 t v rfl rfl) h1
  obtain⟨ys,k3,k4,k5⟩:=F1 (fun t ht=>hp t (by simp[ht])) (fun j t v h h'=>hv (j+1) t v (by simpa using h) (by simpa using h')) h2
  refine⟨x::ys,⟨x,ys,rfl,k1,k3⟩,by simp[k4],fun i hi bl=>?_⟩
  cases i with
  |zero=>exact k2
  |succ i=>exact k5 i (by simpa using hi) (by simpa using bl)
theorem F0{H:Type}{enc:TypeId×Value->H}{P:Program}(hl:laidOutB P=true){W W':World}(hb:Below W.heap.size W W'):∀ {ts:List TypeId} {vs:List Value} {ds:List (DataW H)} {ps:List MemPlace},
 (∀ t∈ts,P.readableRec t=true/\t<P.types.size)->DataW.TrodAll enc P W 0 (fun _=>true) true ts vs ds ps->(∀ x∈ps,x.block<W.heap.size)->DataW.TrodAll enc P W' 0 (fun b=>decide (b<W.heap.size)) true ts vs ds ps
 |[],vs,ds,ps,_,h,_=>by
  cases vs<;>cases ds<;>simp_all[DataW.TrodAll]
 |t::ts,[],ds,ps,_,h,_=>by cases ds<;>simp[DataW.TrodAll]at h
 |t::ts,v::vs,[],ps,_,h,_=>by simp[DataW.TrodAll]at h
 |t::ts,v::vs,d::ds,ps,hr,h,ae=>by
  obtain⟨p,q,h1,h2,rfl⟩:=h
  exact⟨p,q,Below.trod hl (hr t (by simp)).1 (hr t (by simp)).2 h1 hb (fun x hx=>ae x (by simp[hx])),
   F0 hl hb (fun t ht=>hr t (by simp[ht])) h2 (fun x hx=>ae x (by simp[hx])),rfl⟩
theorem xw{H:Type}{enc:TypeId×Value->H}{P:Program}{w:World}{b0:Nat}{spare:Nat->Bool}{held:Bool}:∀ {ts:List TypeId} {vs:List Value} {ds:List (DataW H)} {ps:List MemPlace},DataW.TrodAll enc P w b0 spare held ts vs ds ps->ds.length=ts.length
 |[],vs,ds,ps,h=>by cases vs<;>cases ds<;>simp_all[DataW.TrodAll]
 |t::ts,[],ds,ps,h=>by cases ds<;>simp[DataW.TrodAll]at h
 |t::ts,v::vs,[],ps,h=>by simp[DataW.TrodAll]at h
 |t::ts,v::vs,d::ds,ps,h=>by
  obtain⟨p,q,_,h2,_⟩:=h
  simp[xw h2]
theorem J2{H:Type}{enc:TypeId×Value->H}{C:Checked}{os:Os}{f:FuncId}{fn:Func}{s:ChangeSpec}{conds:List PathCond}{n:Nat}{tb:TypeId}
 (own:ownKnob C.prog.godebug=none) (started:os.Started) (Jn:C.prog.inits.idxOf? f=none) (dw:C.prog.funcs[f]?=some fn)
 (witness:∃ (w:World) (tape:Tape) (i:Input),w.os=os/\(w.forCall tape i).Shaped C.prog/\i.vars=[]/\Input.okWide C.prog (w.forCall tape i) .any w.heap.size f i/\
   s.pre6 enc C.prog fn conds false (w.forCall tape i).memory i.args/\({}:Assume).holds C.prog (lone (Frame.enter C.prog f i.args .normal) [] (w.forCall tape i)))
 (hl:laidOutB C.prog=true) (fa:∀ t∈fn.params.toList,fR C.prog n t=true/\C.prog.readableRec t=true/\t<C.prog.types.size) (rk:fn.resultTypes= #[tb]) (lO:C.prog.underlying tb=some .bool)
 (Db:s.vars=[]) (hs:∀ ds:List (DataW H),ds.length=fn.params.toList.length->(s.fn H ds).results=[.lit (.bool true)]/\(s.fn H ds).args=ds/\(s.fn H ds).vars=[])
 (pq:∀ (W:World) (args:Array Value) (xs:List V),n4 C.prog n fn.params.toList xs->mD (fV W) xs args.toList->Calls C.prog f args W fun e W'=>e=.returned (.bool true)/\Below W.heap.size W W'):
 ReturnsInHanded {} C os f .any (s.pre6 enc C.prog fn conds false) (s.post enc C.prog fn false true false false):=by
 refine returnsInHanded_of_change own started Jn dw witness ?_
 intro W base args ds gs before br hW _ _
 have v5:=hW
 obtain⟨p,q,hA,hV,rfl,_,_⟩:=hW
 rw[Db]at hV
 obtain⟨rfl,rfl⟩:=trodVars_none hV
 simp only[List.append_nil]at v5
 have ae:∀ y∈p,y.block<W.heap.size:=fun y hy=>by simpa using v5.lt y hy
 obtain⟨xs,h1,h2⟩:=F1 (vs:=args.toList) (ts:=fn.params.toList) (fun t ht=>(fa t ht).1) (fun j t v h h'=>br j t v (by simpa using h) (by simpa using h')) hA
 obtain⟨e1,e2,e3⟩:=hs ds (xw hA)
 refine(pq W args xs h1 h2).mono fun e W' ⟨he,hn⟩=>?_
 subst he
 refine⟨_,rfl,ds,[],p,[],p,[],v5,?_,?_,?_,hn.frame _,fun h=>by cases h⟩
 ·rw[List.append_nil,e1,rk]
  exact trodAll_mk1 (shut_bool lO _)
 ·rw[List.append_nil,e2]
  exact F0 hl hn (fun t ht=>(fa t ht).2) hA ae
 ·rw[List.append_nil,e3,Db]
  rfl
open Go Go.Proofs Go.Proofs.Ytgbpdpdnlfdlfaa Go.RowKit Go.ChangeShapes
theorem MA:ownKnob Try.prog.godebug=none:=by kernel_rfl
theorem MB:laidOutB Try.prog=true:=by kernel_rfl
end Go.Eng
set_option linter.constructorNameAsVariable false
set_option maxRecDepth 100000
namespace Go.Eng
open Go Go.Proofs
theorem jj{n:Nat}{xs:List V}(h:c6 Try.prog (n+1) 3 xs):∃ k,xs=[au k]/\(Lit.int .i64 k).wf=true:=by
 unfold c6 at h
 simp only[Try.underlying3]at h
 exact h
theorem Rb:ep Try.prog 3=false:=by kernel_rfl
theorem y7{α β:Type}{f:α->β}{P:β->Prop}(h:∀ y,P y->∃ x,y=f x):∀ {l:List β},(∀ y∈l,P y)->∃ m:List α,l=m.map f
 |[],_=>⟨[],rfl⟩
 |y::r,hl=>by
  obtain⟨x,rfl⟩:=h y (hl y (by simp))
  obtain⟨m,rfl⟩:=y7 h (l:=r) fun z hz=>hl z (by simp[hz])
  exact⟨x::m,rfl⟩
theorem xG{n:Nat}{T e:TypeId}{xs:List V}{α:Type}{f:α->V}(hu:Try.prog.underlying T=some (.slice e))(h:c6 Try.prog (n+1) T xs)
 (he:∀ ys,c6 Try.prog n e ys->∃ a,gT (ep Try.prog e) ys=f a):∃ l:List α,xs=[.sl (l.map f)]:=by
 unfold c6 at h
 simp only[hu]at h
 obtain⟨ls,rfl,_,h3⟩:=h
 obtain⟨m,hm⟩:=y7 (f:=f) (P:=fun y=>∃ d,y=f d) (fun y h=>h) (l:=ls.map (gT (ep Try.prog e))) fun y hy=>by
  obtain⟨z,hz,rfl⟩:=List.mem_map.1 hy
  exact he z (h3 z hz)
 exact⟨m,by rw[hm]⟩
theorem xI{n:Nat}{xs:List V}(h:c6 Try.prog (n+2) 22 xs):∃ l:List Int,xs=[.sl (l.map au)]:=
 xG Try.underlying22 h fun ys hy=>by
  obtain⟨k,rfl,_⟩:=jj hy
  rw[Rb]
  exact⟨k,rfl⟩
theorem xH{n:Nat}{xs:List V}(h:c6 Try.prog (n+3) 55 xs):∃ g:Gl,.agg xs=encGl g:=by
 unfold c6 at h
 simp only[Try.underlying55]at h
 obtain⟨x1,y,rfl,h1,x2,y2,rfl,h2,x3,y3,rfl,h3,x4,y4,rfl,h4,x5,y5,rfl,h5,rfl⟩:=h
 obtain⟨a,rfl,_⟩:=jj h1
 obtain⟨b,rfl,_⟩:=jj h2
 obtain⟨l,rfl⟩:=xI h3
 obtain⟨c,rfl,_⟩:=jj h4
 obtain⟨d,rfl,_⟩:=jj h5
 exact⟨⟨a,b,l,c,d⟩,rfl⟩
theorem F5:ep Try.prog 55=true:=by kernel_rfl
theorem Hi{n:Nat}{xs:List V}(h:c6 Try.prog (n+4) 23 xs):∃ l:List Gl,xs=[.sl (l.map encGl)]:=
 xG Try.underlying23 h fun ys hy=>by
  obtain⟨g,e⟩:=xH hy
  rw[F5]
  exact⟨g,e⟩
theorem Rd:ep Try.prog 25=true:=by kernel_rfl
theorem Rc:ep Try.prog 62=true:=by kernel_rfl
theorem Hh{n:Nat}{xs:List V}(h:c6 Try.prog (n+5) 25 xs):∃ g:Iv,.agg xs=fI g:=by
 unfold c6 at h
 simp only[Try.underlying25]at h
 obtain⟨x1,y,rfl,h1,x2,y2,rfl,h2,x3,y3,rfl,h3,rfl⟩:=h
 obtain⟨a,rfl,_⟩:=jj h1
 obtain⟨b,rfl⟩:=xI h2
 obtain⟨l,rfl⟩:=Hi h3
 exact⟨⟨a,b,l⟩,rfl⟩
theorem Hg{n:Nat}{xs:List V}(h:c6 Try.prog (n+3) 62 xs):∃ p:Pt,.agg xs=pE p:=by
 unfold c6 at h
 simp only[Try.underlying62]at h
 obtain⟨x1,y,rfl,h1,x2,y2,rfl,h2,x3,y3,rfl,h3,rfl⟩:=h
 obtain⟨a,rfl,_⟩:=jj h1
 obtain⟨b,rfl,_⟩:=jj h2
 obtain⟨c,rfl,_⟩:=jj h3
 exact⟨⟨a,b,c⟩,rfl⟩
theorem Q8{x:V}(h:pU Try.prog 6 25 x):∃ n:Iv,x=fI n:=by
 obtain⟨xs,h1,rfl⟩:=h
 rw[Rd]
 exact Hh h1
theorem Q7{x:V}(h:pU Try.prog 6 55 x):∃ n:Gl,x=encGl n:=by
 obtain⟨xs,h1,rfl⟩:=h
 rw[F5]
 exact xH h1
theorem Q6{x:V}(h:pU Try.prog 6 62 x):∃ n:Pt,x=pE n:=by
 obtain⟨xs,h1,rfl⟩:=h
 rw[Rc]
 exact Hg h1
end Go.Eng
set_option linter.constructorNameAsVariable false
namespace Go.Eng
open Go Go.Proofs Go.Proofs.Ytgbpdpdnlfdlfaa Go.RowKit Go.ChangeShapes
theorem Hk(hc:∀ (W:World) (args:Array Value) (xs:List V),n4 Try.prog 6 Try.f8.params.toList xs->mD (fV W) xs args.toList->Calls Try.prog 8 args W fun e W'=>e=.returned (.bool true)/\Below W.heap.size W W')
 (os:Os) (started:os.Started) (H:Type) (enc:TypeId×Value->H):
 ReturnsInHanded {} Try.checked os 8 .any (Rows.shelfInventoriesSpec.pre6 enc Try.prog Try.f8 Rows.shelfInventoriesRow.domain false) (Rows.shelfInventoriesSpec.post enc Try.prog Try.f8 false true false false):=by
 refine J2 (C:=Try.checked) (n:=6) (tb:=4) MA started (by kernel_rfl) Try.func8
  (ChangeSpec.witness6 (enc:=enc) (C:=Try.checked) false ⟨#[],#[.agg #[.int .i64 0,.slice none 0 0,.slice none 0 0],.agg #[.int .i64 0,.int .i64 0,.slice none 0 0,.int .i64 0,.int .i64 0],.agg #[.int .i64 0,.int .i64 0,.int .i64 0]],[]⟩ 8 (by kernel_rfl) (by kernel_rfl) (by kernel_rfl) (by kernel_rfl))
  MB ?_ (by kernel_rfl) (by kernel_rfl) rfl ?_ hc
 ·have h:(Try.f8.params.toList.all fun t=>fR Try.prog 6 t&&Try.prog.readableRec t&&decide (t<Try.prog.types.size))=true:=by kernel_rfl
  intro t ht
  have :=List.all_eq_true.1 h t ht
  simp only[Bool.and_eq_true,decide_eq_true_eq]at this
  exact⟨this.1.1,this.1.2,this.2⟩
 ·intro ds pk
  have hl:Try.f8.params.toList.length=3:=by kernel_rfl
  rw[hl]at pk
  match ds,pk with
  |[d1,d2,d3],_=>exact⟨rfl,rfl,rfl⟩
theorem Hj(hc:∀ (W:World) (args:Array Value) (xs:List V),n4 Try.prog 6 Try.f8.params.toList xs->mD (fV W) xs args.toList->Calls Try.prog 8 args W fun e W'=>e=.returned (.bool true)/\Below W.heap.size W W'):
 Rows.ShelfInventoriesSaid:=
 OpenClaim.holds_of_wide 8 Try.f8 rfl rfl rfl rfl rfl rfl rfl ⟨rfl,rfl,rfl,rfl,rfl⟩ rfl rfl rfl rfl rfl (by kernel_rfl) Try.func8 (by kernel_rfl)
  (of_decide_eq_true (by kernel_rfl)) (by unfold Func.isWrapper;first | (rw[if_pos (by decide+kernel)];kernel_rfl) | (rw[if_neg (by decide+kernel)];exact⟨rfl,rfl⟩))
  (fun os started H enc _=>Hk hc os started H enc)
end Go.Eng
set_option maxRecDepth 100000
namespace Go.Eng
open Go Go.Proofs Go.Proofs.Ytgbpdpdnlfdlfaa Go.RowKit
theorem G7(w:World):pP w:=fun q hq=>by cases hq
theorem QF{f:FuncId}{s:PSpec}(h:aS Try.prog f s){W:World}{args:Array Value}{xs:List V}(hr:mD (fV W) xs args.toList)(hp:s.pre xs)(hv:s.fn xs=.bool true):
 Calls Try.prog f args W fun e W'=>e=.returned (.bool true)/\RowKit.Below W.heap.size W W':=by
 refine(h.calls (fV W) W xs args (G7 W) (fun b off v hv=>hv) hr hp).mono ?_
 rintro e W' ⟨v,m',rfl,hb,_,_,h⟩
 rw[hv]at h
 cases h
 exact⟨rfl,hb⟩
theorem shelfInventories_holds:Rows.ShelfInventoriesSaid:=
 Hj fun W args xs ha hr=>by
  obtain⟨x,ys,rfl,h1,y,zs,rfl,h2,z,us,rfl,h3,rfl⟩:=(show n4 Try.prog 6 [25,55,62] xs from ha)
  obtain⟨n,rfl⟩:=Q8 h1
  obtain⟨g,rfl⟩:=Q7 h2
  obtain⟨p,rfl⟩:=Q6 h3
  exact QF s8 hr ⟨congrArg fI (wS n),congrArg encGl (E3 g),rfl,trivial⟩ rfl
end Go.Eng
namespace Go.Proofs.Ytgbpdpdnlfdlfaa
theorem shelfInventories_holds : Rows.ShelfInventoriesSaid := Go.Eng.shelfInventories_holds
end Go.Proofs.Ytgbpdpdnlfdlfaa
#print axioms Go.Proofs.Ytgbpdpdnlfdlfaa.shelfInventories_holds
