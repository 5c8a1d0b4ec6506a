import Derived.Test.YtepaolcgegdpoaaGreatK15
import GoSem.ClaimChange
import Derived.DataReads
import Derived.ChangeReads
import Derived.ProofKit
import Derived.Carry
import Derived.Test.YtepaolcgegdpoaaGreatRows
import Derived.Test.YtepaolcgegdpoaaGreatChecked
/- LoanDoubles is proved: Telling, Double, CheckDouble, Clash, CheckClash and Sound agree with the reference, for every ledger, day and list of sources, at all arguments that the statement covers. -/
set_option linter.all false
namespace Go.Eng
open Go Go.Proofs
theorem P2:aN Tryz.prog 18 ⟨fun xs=>xs=[],fun _=>.bool true,true⟩:=
 QW (b:=.bool true) Ti (by
  intro fn h
  have e:Tryz.prog.funcs[18]?=some Tryz.f18:=Tryz.func18
  rw[e]at h
  obtain rfl:=Option.some.inj h
  exact(by kernel_rfl:(Tryz.f18.name== "runtime.NumGoroutine")=false)) (by decide) rfl
set_option maxRecDepth 10000
noncomputable section
theorem Ou(l:Led)(k:Int):uR l k=.tup [.sl ((po l k).map vInt),vInt (dB l [k])]:=by
 unfold uR
 rw[Oo,qA]
 by_cases h:cI l [k]=0
 ·rw[if_pos h,if_pos h,h]
 ·rw[if_neg h,if_neg h];rfl
theorem Xp(l:Led)(k:Int):wy l k=.tup [.sl ((qq l k).map vInt),vInt (nH l k)]:=by
 unfold wy
 rw[Xr,Xs]
 by_cases h:cI l [k]=0
 ·rw[if_pos h,if_pos h,if_pos h]
  cases dR (aF l k)<;>rfl
 ·rw[if_neg h,if_neg h,if_neg h];rfl
theorem OG(l:Led)(k:Int):uZ l k=.tup [.bool (py l k),vInt (dB l [k])]:=by
 unfold uZ
 rw[OH,qA]
 by_cases h:cI l [k]=0
 ·rw[if_pos h,if_pos h,h]
 ·rw[if_neg h,if_neg h]
def Nr:Spec:=(⟨fun xs=>xs=[],fun _=>.bool true,true⟩:PSpec).toSpec
attribute [go_sem] Nr
def K93:List (Nat×Spec):=[(41,Zv),(52,Zp),(42,Zu),(53,Zo),(43,Zt),(54,Zn),(49,Zs),(55,Zm),(24,Eu),(50,Zr),(56,Zl),(51,Zq),(57,Zk),(18,Nr)]
theorem Z6:KS K93:=tc PR.sound<|tc PK.sound<|tc PQ.sound<|tc PJ.sound<|tc PO.sound<|tc PI.sound<|tc PN.sound<|tc PH.sound<|tc PT.sound<|tc PM.sound<|tc PG.sound<|tc PL.sound<|tc PF.sound<|tc P2.sound<|tn
attribute [go_sem] K93
@[go_sem] def P11:PSpec:=p3 iL iI cH (fun _ _ _=>True) (fun _ _ _=>.bool true) true
@[go_sem] def S11:Spec:=P11.toSpec
set_option maxHeartbeats 8000000 in
theorem Qq:aN Tryz.prog 11 P11:=by
 refine gO (rs:=[.tmp 6]) Tryz.func11 Tryz.ntmps11 fun l k az hp hw=>?_
 have hP:=dL
 simp only[iI,cH,iL,dA]at hw |-
 have hΓ:=Z6
 repeat refine sq ?_
 refine rx hΓ [1,2,3] [[3,0]] (fun K' hK=>by simp only[go_sem];exact ak) ?_
 repeat refine sq ?_
 refine rx hΓ [1,2,3,7,8] [[3,0]] (fun K' hK=>by simp only[go_sem,Ou];exact ak) ?_
 repeat refine sq ?_
 refine rx hΓ [1,2,3,7,8,9,10] [[3,0]] (fun K' hK=>by simp only[go_sem];exact ak) ?_
 repeat refine sq ?_
 refine rx hΓ [1,2,3,7,8,9,10,11,12] [[3,0]] (fun K' hK=>by simp only[go_sem,Xp];exact ak) ?_
 repeat refine sq ?_
 refine rx hΓ [1,2,3,7,8,9,10,11,12,13,14] [[3,0]] (fun K' hK=>by simp only[go_sem];exact ak) ?_
 repeat refine sq ?_
 refine rx hΓ [1,2,3,7,8,9,10,11,12,13,14,15,16] [[3,0]] (fun K' hK=>by simp only[go_sem,<-Xw,<-Xx];exact ak) ?_
 repeat refine sq ?_
 refine rx hΓ [1,2,3,7,8,9,10,11,12,13,14,15,16,17,18] [[3,0]] (fun K' hK=>by simp only[go_sem];exact ak) ?_
 repeat refine sq ?_
 refine rx hΓ [1,2,3,7,8,9,10,11,12,13,14,15,16,17,18,19,20] [[3,0]] (fun K' hK=>by simp only[go_sem,OG];exact ak) ?_
 repeat refine sq ?_
 refine rx hΓ [1,2,3,7,8,9,10,11,12,13,14,15,16,17,18,19,20,21,22] [[3,0]] (fun K' hK=>by simp only[go_sem];exact ak) ?_
 repeat refine sq ?_
 refine rx hΓ [1,2,3,111] [[3,0]] (fun K' hK=>by simp only[go_sem,decide_true,beq_self_eq_true,bne_self_eq_false,Bool.or_self,Bool.or_false];exact ak) ?_
 repeat refine sq ?_
 refine av (fun hb=>?_) fun hb=>?_
 ·cases hb
 ·repeat refine sq ?_
  refine ax ?_
  repeat refine sq ?_
  refine dx hΓ hP [[],[],[],[0,1,2],[],[],[],u7,u8,u9,bO,bO,bO,gP,bO,bO,bO,jk,ie,lk,gz,nU,sQ,qL] [6] [] (by kernel_rfl) (fun K' hK=>by simp only[go_sem,decide_true,beq_self_eq_true,<-Yd,<-Yh];exact eT) ?_
  refine au ?_
  simp only[go_sem]
  skip
end
open Go
def gw(P:Program)(t:TypeId):Bool:=match P.underlying t with | some (.struct _)=>true | some (.array _ _)=>true | _=>false
def mf(ag:Bool)(xs:List V):V:=if ag then .agg xs else xs.getD 0 default
def m8(P:Program):List Field->Nat->Nat->Bool
 |[],off,tot=>off==tot
 |f::r,off,tot=>f.offset==off&&m8 P r (off+P.cellsOf f.type) tot
def kD(P:Program):Nat->TypeId->Bool
 | 0,_=>false
 |n+1,t=>match P.underlying t with
  |some .bool=>P.cellsOf t==1
  |some (.int _)=>P.cellsOf t==1
  |some .string=>P.cellsOf t==1
  |some (.slice e)=>P.cellsOf t==1&&kD P n e&&decide (0<P.cellsOf e)&&(gw P e||P.cellsOf e==1)
  |some (.struct fs)=>m8 P fs.toList 0 (P.cellsOf t)&&fs.toList.all fun f=>kD P n f.type
  |some (.array m e)=>P.cellsOf t==m*P.cellsOf e&&kD P n e
  |_=>false
def wM(S:TypeId->List V->Prop):List TypeId->List V->Prop
 |[],xs=>xs=[]
 |t::r,xs=>∃ a b,xs=a++b/\S t a/\wM S r b
def eu(P:Program):Nat->TypeId->List V->Prop
 | 0,_,_=>False
 |n+1,t,xs=>match P.underlying t with
  |some .bool=>∃ b,xs=[.bool b]
  |some (.int k)=>∃ z,xs=[.int k z]/\(Lit.int k z).wf=true
  |some .string=>∃ s,xs=[.str s]/\s.size<=maxLen
  |some (.slice e)=>∃ ls:List (List V),xs=[.sl (ls.map (mf (gw P e)))]/\ls.length<=maxLen/\∀ y∈ls,eu P n e y
  |some (.struct fs)=>wM (eu P n) (fs.toList.map (·.type)) xs
  |some (.array m e)=>wM (eu P n) (List.replicate m e) xs
  |_=>False
structure iN (m:Mem) (xs:List V) (cs:List Value):Prop where
 len:xs.length=cs.length
 rep:∀ i (h:i<xs.length) (h':i<cs.length),aO m xs[i] cs[i]
 one:∀ x∈xs,x.one=true
theorem iN.nil(m:Mem):iN m [] []:=⟨rfl,fun i h=>by simp at h,fun x h=>by simp at h⟩
theorem iN.append{m:Mem}{xs ys:List V}{cs ds:List Value}(h:iN m xs cs)(k:iN m ys ds):iN m (xs++ys) (cs++ds):=by
 refine⟨by simp[h.len,k.len],fun i h1 h2=>?_,fun x hx=>?_⟩
 ·by_cases hi:i<xs.length
  ·rw[List.getElem_append_left hi,List.getElem_append_left (by rw[<-h.len];exact hi)]
   exact h.rep i hi _
  ·have hl:=h.len
   have e:i-xs.length=i-cs.length:=by rw[hl]
   rw[List.getElem_append_right (by omega),List.getElem_append_right (by omega)]
   simp only[List.length_append]at h1 h2
   have :=k.rep (i-xs.length) (by omega) (by rw[<-k.len];omega)
   simp only[e]at this |-
   exact this
 ·rcases List.mem_append.1 hx with hx | hx
  ·exact h.one x hx
  ·exact k.one x hx
theorem iN.single{m:Mem}{x:V}{u:Value}(h:aO m x u)(ho:x.one=true):iN m [x] [u]:=
 ⟨rfl,fun i h1 h2=>by simp at h1;subst h1;exact h,fun y hy=>by simp at hy;subst hy;exact ho⟩
theorem mapM_some{α β:Type}{f:α->Option β}:∀ {l:List α} {r:List β},l.mapM f=some r->r.length=l.length/\∀ i (h:i<l.length) (h':i<r.length),f l[i]=some r[i]
 |[],r,h=>by
  simp only[List.mapM_nil]at h
  cases h
  exact⟨rfl,fun i h=>by simp at h⟩
 |a::l,r,h=>by
  simp only[List.mapM_cons,Option.bind_eq_bind,Option.bind_eq_some_iff]at h
  obtain⟨b,hb,bs,yw,hr⟩:=h
  cases hr
  obtain⟨h1,h2⟩:=mapM_some yw
  refine⟨by simp[h1],fun i hi bM=>?_⟩
  cases i with
  |zero=>exact hb
  |succ i=>exact h2 i (by simpa using hi) (by simpa using bM)
theorem E6{P:Program}:∀ {fs:List Field} {off tot:Nat},m8 P fs off tot=true->off<=tot
 |[],off,tot,h=>by simp[m8]at h;omega
 |f::r,off,tot,h=>by
  simp only[m8,Bool.and_eq_true]at h
  have :=E6 h.2
  omega
theorem LC{P:Program}{m:Mem}{S:TypeId->List V->Prop}{cs:List Value}:∀ {fs:List Field} {off:Nat},m8 P fs off cs.length=true->
 (∀ f∈fs,∃ xs,S f.type xs/\iN m xs ((cs.drop f.offset).take (P.cellsOf f.type)))->∃ xs,wM S (fs.map (·.type)) xs/\iN m xs (cs.drop off)
 |[],off,h,_=>by
  simp[m8]at h
  subst h
  exact⟨[],rfl,by simpa using iN.nil m⟩
 |f::r,off,h,hf=>by
  simp only[m8,Bool.and_eq_true,beq_iff_eq]at h
  obtain⟨h1,h2⟩:=h
  obtain⟨a,ha,b7⟩:=hf f (by simp)
  obtain⟨b,hb,bX⟩:=LC h2 fun g hg=>hf g (by simp[hg])
  refine⟨a++b,⟨a,b,rfl,ha,hb⟩,?_⟩
  have e:cs.drop off=(cs.drop f.offset).take (P.cellsOf f.type)++cs.drop (off+P.cellsOf f.type):=by
   rw[h1,<-List.drop_drop,List.take_append_drop]
  rw[e]
  exact b7.append bX
theorem M1{m:Mem}{S:TypeId->List V->Prop}{e:TypeId}{k:Nat}{cs:List Value}:∀ (n off:Nat),cs.length=(off+n)*k->
 (∀ i,i<off+n->∃ xs,S e xs/\iN m xs ((cs.drop (i*k)).take k))->∃ xs,wM S (List.replicate n e) xs/\iN m xs (cs.drop (off*k))
 | 0,off,h,_=>by
   have :cs.drop (off*k)=[]:=List.drop_eq_nil_of_le (by rw[h];simp)
   rw[this]
   exact⟨[],rfl,iN.nil m⟩
 |n+1,off,h,hf=>by
  obtain⟨a,ha,b7⟩:=hf off (by omega)
  obtain⟨b,hb,bX⟩:=M1 n (off+1) (by rw[h];congr 1;omega) fun i hi=>hf i (by omega)
  refine⟨a++b,⟨a,b,rfl,ha,hb⟩,?_⟩
  have e:cs.drop (off*k)=(cs.drop (off*k)).take k++cs.drop ((off+1)*k):=by
   rw[Nat.succ_mul,<-List.drop_drop,List.take_append_drop]
  rw[e]
  exact b7.append bX
theorem Q4{ag:Bool}{xs:List V}(h:ag=true\/xs.length=1)(ho:∀ x∈xs,x.one=true):(mf ag xs).cells=xs:=by
 cases ag with
 |true=>rfl
 |false=>
  rcases h with h | h
  ·cases h
  match xs,h with
  |[x],_=>
   have :=ho x (by simp)
   show x.cells=[x]
   cases x<;>first | rfl | (simp[V.one]at this)
def kJ(w:World):Mem:=fun b off=>w.cell? ⟨b,off,none⟩
theorem Na{a:Addr}(h:a.spot=none)(n:Nat):a.add n=⟨a.block,a.off+n,none⟩:=by
 obtain⟨b,o,s⟩:=a
 simp only at h
 subst h
 unfold Addr.add
 split
 ·rename_i e;subst e;rfl
 ·rfl
theorem xm{H:Type}{enc:TypeId×Value->H}{P:Program}{w:World}{base:Nat}{spare:Nat->Bool}{held:Bool}:
 ∀ (n fuel:Nat) (t:TypeId) (cs:List Value) (r:DataW H×List MemPlace),kD P n t=true->cs.length=P.cellsOf t->DataW.trod enc P w base spare held fuel t cs=some r->∃ xs,eu P n t xs/\iN (kJ w) xs cs
 | 0,_,_,_,_,h,_,_=>by simp[kD]at h
 |n+1,0,_,_,_,_,_,h=>by simp[DataW.trod]at h
 |n+1,fuel+1,t,cs,r,hp,hlen,h=>by
  rw[DataW.trod_step]at h
  unfold DataW.trodStep at h
  unfold kD at hp
  unfold eu
  rcases hu:P.underlying t with _ | u
  ·rw[hu]at hp;simp at hp
  rw[hu]at hp h
  cases u with
  |bool=>
   have hb:∃ b,cs=[.bool b]:=by
    simp only at h
    split at h<;>simp_all
   obtain⟨b,rfl⟩:=hb
   exact⟨_,⟨b,rfl⟩,.single (.bool _) rfl⟩
  |int k=>
   simp only at hp h |-
   split at h<;>simp_all
   obtain⟨⟨rfl,h1⟩,_⟩:=h
   exact⟨_,⟨_,rfl,h1⟩,.single (.int _ _) rfl⟩
  |string=>
   simp only at hp h |-
   split at h<;>simp_all
   obtain⟨h1,_⟩:=h
   exact⟨_,⟨_,rfl,h1⟩,.single (.str _ h1) rfl⟩
  |slice e=>
   simp only[Bool.and_eq_true,decide_eq_true_eq,Bool.or_eq_true,beq_iff_eq]at hp |-
   obtain⟨⟨⟨_,B9⟩,bN⟩,V6⟩:=hp
   split at h<;>simp_all
   ·exact⟨_,⟨[],rfl,Nat.zero_le _,by simp⟩,.single (.slnil _ _) rfl⟩
   ·rename_i e' a len cap _ _
    obtain⟨⟨hb,U7,hcm⟩,h⟩:=h
    simp only[Option.bind_eq_some_iff]at h
    obtain⟨elems,oJ,_⟩:=h
    obtain⟨l1,l2⟩:=mapM_some oJ
    simp only[List.length_range]at l1
    have hx:∀ i,i<len->∃ xs cells,w.cells? base (a.add (i*P.cellsOf e')) (P.cellsOf e')=some cells/\eu P n e' xs/\iN (kJ w) xs cells:=by
     intro i hi
     have h3:=l2 i (by simpa using hi) (by omega)
     simp only[List.getElem_range,Option.bind_eq_some_iff]at h3
     obtain⟨cells,h4,h5⟩:=h3
     obtain⟨xs,h6,h7⟩:=xm n fuel _ _ _ B9 (World.cells?_some h4).2.1 h5
     exact⟨xs,cells,h4,h6,h7⟩
    rcases Nat.eq_zero_or_pos len with hz | UN
    ·subst hz
     exact⟨[.sl []],⟨[],rfl,Nat.zero_le _,by simp⟩,.single (.slnil _ _) rfl⟩
    have BV:a.spot=none:=by
     obtain⟨xs,cells,h4,_⟩:=hx 0 UN
     have h8:=(World.cells?_some h4).2.2 0 bN
     have h9:=(World.cells?_some h4).2.1
     have rY:w.cell? ((a.add (0*P.cellsOf e')).add 0)=some (cells[0]'(by omega)):=by rw[h8];exact List.getElem?_eq_getElem (by omega)
     simpa[Addr.add]using World.cell?_spot rY
    let X:Nat->List V:=fun i=>if h:i<len then Classical.choose (hx i h)else[]
    let C:Nat->List Value:=fun i=>(w.cells? base (a.add (i*P.cellsOf e')) (P.cellsOf e')).getD []
    have hX:∀ i,i<len->eu P n e' (X i)/\iN (kJ w) (X i) (C i)/\(C i).length=P.cellsOf e'/\∀ j,j<P.cellsOf e'->w.cell? ⟨a.block,a.off+i*P.cellsOf e'+j,none⟩=(C i)[j]?:=by
     intro i hi
     obtain⟨cells,h4,h6,h7⟩:=Classical.choose_spec (hx i hi)
     have e1:X i=Classical.choose (hx i hi):=dif_pos hi
     have e2:C i=cells:=by show (w.cells? _ _ _).getD []=cells;rw[h4];rfl
     rw[e1,e2]
     refine⟨h6,h7,(World.cells?_some h4).2.1,fun j hj=>?_⟩
     have h8:=(World.cells?_some h4).2.2 j hj
     rw[Na BV,Na rfl]at h8
     exact h8
    have lF:∀ i,i<len->(mf (gw P e') (X i)).cells=X i:=fun i hi=>by
     obtain⟨h1,h2,h3,_⟩:=hX i hi
     refine Q4 ?_ h2.one
     rcases V6 with h | h
     ·exact .inl h
     ·exact .inr (by rw[h2.len,h3,h])
    refine⟨[.sl (((List.range len).map X).map (mf (gw P e')))],⟨(List.range len).map X,rfl,by simp;omega,fun y hy=>?_⟩,.single ?_ rfl⟩
    ·simp only[List.mem_map,List.mem_range]at hy
     obtain⟨i,hi,rfl⟩:=hy
     exact(hX i hi).1
    ·obtain⟨b,o,s⟩:=a
     simp only at BV hX
     subst BV
     have key:=aO.sl (m:=kJ w) (((List.range len).map X).map (mf (gw P e'))) b o cap (P.cellsOf e') (fun i j=>((C i)[j]?).getD undef) (by
         intro h;have:=congrArg List.length h;simp at this;omega) (by simp;omega) (by simpa using U7)
      (fun i hi=>by
        have bM:i<len:=by simpa using hi
        obtain⟨h1,h2,h3,_⟩:=hX i bM
        simp only[List.getElem_map,List.getElem_range]
        rw[lF i bM,h2.len,h3])
      (fun i j hi hj=>by
        have bM:i<len:=by simpa using hi
        obtain⟨h1,h2,h3,h4⟩:=hX i bM
        show w.cell? _=_
        rw[h4 j hj,List.getElem?_eq_getElem (by omega)]
        rfl)
      (fun i j hi hj=>by
        have bM:i<len:=by simpa using hi
        obtain⟨h1,h2,h3,h4⟩:=hX i bM
        simp only[List.getElem_map,List.getElem_range,lF i bM]at hj |-
        have eB:j<(C i).length:=by rw[<-h2.len];exact hj
        rw[List.getElem?_eq_getElem eB]
        exact h2.rep j hj eB)
      (fun i hi x hx=>by
        have bM:i<len:=by simpa using hi
        simp only[List.getElem_map,List.getElem_range,lF i bM]at hx
        exact(hX i bM).2.1.one x hx)
     simpa using key
  |struct fs=>
   simp only[Bool.and_eq_true,List.all_eq_true]at hp h |-
   obtain⟨ht,eG⟩:=hp
   rw[if_pos hlen]at h
   simp only[Option.map_eq_some_iff]at h
   obtain⟨ys,BS,_⟩:=h
   obtain⟨l1,l2⟩:=mapM_some BS
   have :=LC (m:=kJ w) (S:=eu P n) (cs:=cs) (fs:=fs.toList) (off:=0) (by rw[hlen];exact ht) fun f hf=>by
    obtain⟨i,hi,rfl⟩:=List.mem_iff_getElem.1 hf
    have h3:=l2 i hi (by omega)
    have hle:P.cellsOf fs.toList[i].type<=(cs.drop fs.toList[i].offset).length:=by
     have key:∀ (l:List Field) (off tot:Nat),m8 P l off tot=true->∀ f∈l,f.offset+P.cellsOf f.type<=tot:=by
      intro l
      induction l with
      |nil=>intro _ _ _ f hf;simp at hf
      |cons g r ih=>
       intro off tot h f hf
       simp only[m8,Bool.and_eq_true,beq_iff_eq]at h
       rcases List.mem_cons.1 hf with rfl | hf
       ·have:=E6 h.2;omega
       ·exact ih _ _ h.2 f hf
     have :=key _ _ _ ht _ hf
     simp only[List.length_drop]
     omega
    exact xm n fuel _ _ _ (eG _ hf) (by rw[List.length_take];omega) h3
   simpa using this
  |array m e=>
   simp only[Bool.and_eq_true,beq_iff_eq]at hp h |-
   obtain⟨ht,B9⟩:=hp
   rw[if_pos hlen]at h
   simp only[Option.map_eq_some_iff]at h
   obtain⟨ys,BS,_⟩:=h
   obtain⟨l1,l2⟩:=mapM_some BS
   have :=M1 (m:=kJ w) (S:=eu P n) (e:=e) (k:=P.cellsOf e) (cs:=cs) m 0 (by rw[hlen,ht];simp) fun i hi=>by
    have bM:i<m:=by omega
    have h3:=l2 i (by simpa using bM) (by rw[l1];simpa using bM)
    simp only[List.getElem_range]at h3
    have hle:i*P.cellsOf e+P.cellsOf e<=cs.length:=by
     rw[hlen,ht,<-Nat.succ_mul];exact Nat.mul_le_mul_right _ bM
    exact xm n fuel _ _ _ B9 (by rw[List.length_take,List.length_drop];omega) h3
   simpa using this
  |_=>simp at hp
open Go Go.RowKit Go.ChangeShapes Go.WideShapes Go.ChangeAt
theorem Ri{P:Program}{n:Nat}{t:TypeId}{W:World}{r:Reach}{base:Nat}{v:Value}(hp:kD P n t=true)(h:Value.okWide P W r base t v):
 v.cells.size=P.cellsOf t/\(gw P t=true->∃ cs,v=.agg cs)/\(gw P t=false->v.cells= #[v]/\P.cellsOf t=1):=by
 cases n with
 |zero=>simp[kD]at hp
 |succ n=>
  unfold kD at hp
  unfold gw
  rcases hu:P.underlying t with _ | u
  ·rw[hu]at hp;simp at hp
  rw[hu]at hp
  cases u with
  |bool=>
   obtain⟨b,rfl⟩:=okWide_bool hu h
   simp only[beq_iff_eq]at hp
   exact⟨by simp[Value.cells,hp],by simp,fun _=>⟨rfl,hp⟩⟩
  |int k=>
   obtain⟨b,rfl⟩:=okWide_int hu h
   simp only[beq_iff_eq]at hp
   exact⟨by simp[Value.cells,hp],by simp,fun _=>⟨rfl,hp⟩⟩
  |string=>
   obtain⟨b,rfl⟩:=okWide_string hu h
   simp only[beq_iff_eq]at hp
   exact⟨by simp[Value.cells,hp],by simp,fun _=>⟨rfl,hp⟩⟩
  |slice e=>
   obtain⟨a,len,cap,rfl⟩:=okWide_slice hu h
   simp only[Bool.and_eq_true,beq_iff_eq]at hp
   exact⟨by simp[Value.cells,hp.1.1.1],by simp,fun _=>⟨rfl,hp.1.1.1⟩⟩
  |struct fs=>
   simp only[Value.okWide,hu]at h
   obtain⟨cs,rfl,h2,_⟩:=h
   exact⟨h2,fun _=>⟨cs,rfl⟩,fun h=>by simp at h⟩
  |array m e=>
   simp only[Value.okWide,hu]at h
   obtain⟨cs,rfl,h2,_⟩:=h
   exact⟨h2,fun _=>⟨cs,rfl⟩,fun h=>by simp at h⟩
  |_=>simp at hp
def wT(P:Program)(n:Nat)(t:TypeId)(x:V):Prop:=∃ xs,eu P n t xs/\x=mf (gw P t) xs
def uK(P:Program)(n:Nat):List TypeId->List V->Prop
 |[],xs=>xs=[]
 |t::r,xs=>∃ x ys,xs=x::ys/\wT P n t x/\uK P n r ys
theorem YK{H:Type}{enc:TypeId×Value->H}{P:Program}{w:World}{b0:Nat}{spare:Nat->Bool}{held:Bool}{n:Nat}{t:TypeId}{r:Reach}{base:Nat}{v:Value}{d:DataW H}{ps:List MemPlace}
 (hp:kD P n t=true) (h:Value.okWide P w r base t v) (ht:DataW.Trod enc P w b0 spare held t v d ps):∃ x,wT P n t x/\aO (kJ w) x v:=by
 obtain⟨h1,h2,h3⟩:=Ri hp h
 obtain⟨fuel,hf⟩:=ht
 obtain⟨xs,k1,k2⟩:=xm n fuel t v.cells.toList _ hp (by simpa using h1) hf
 refine⟨mf (gw P t) xs,⟨xs,k1,rfl⟩,?_⟩
 cases ha:gw P t with
 |true=>
  obtain⟨cs,rfl⟩:=h2 ha
  simp only[mf,if_true]
  refine .agg xs cs (by simpa[Value.cells]using k2.len) k2.one fun i h h'=>?_
  have :=k2.rep i h (by simpa[Value.cells]using h')
  simpa[Value.cells]using this
 |false=>
  obtain⟨h4,h5⟩:=h3 ha
  have hl:xs.length=1:=by rw[k2.len];simp[h4]
  match xs,hl with
  |[x],_=>
   have :=k2.rep 0 (by simp) (by simp[h4])
   simp only[mf,Bool.false_eq_true,if_false,List.getD_cons_zero]
   simpa[h4]using this
theorem M3{H:Type}{enc:TypeId×Value->H}{P:Program}{w:World}{b0:Nat}{spare:Nat->Bool}{held:Bool}{n:Nat}{r:Reach}{base:Nat}:∀ {ts:List TypeId} {vs:List Value} {ds:List (DataW H)} {ps:List MemPlace},
 (∀ t∈ts,kD P n t=true)->(∀ (j:Nat) t v,ts[j]?=some t->vs[j]?=some v->Value.okWide P w r base t v)->DataW.TrodAll enc P w b0 spare held ts vs ds ps->∃ xs,uK P n ts xs/\sD (kJ w) xs vs
 |[],vs,ds,ps,_,_,h=>by
  cases vs with
  |nil=>exact⟨[],rfl,rfl,fun i h=>by simp at h⟩
  |cons=>cases ds<;>simp[DataW.TrodAll]at h
 |t::ts,[],ds,ps,_,_,h=>by cases ds<;>simp[DataW.TrodAll]at h
 |t::ts,v::vs,[],ps,_,_,h=>by simp[DataW.TrodAll]at h
 |t::ts,v::vs,d::ds,ps,hp,hv,h=>by
  obtain⟨p,q,h1,h2,_⟩:=h
  obtain⟨x,k1,k2⟩:=YK (hp t (by simp)) (hv 0 t v rfl rfl) h1
  obtain⟨ys,k3,k4,k5⟩:=M3 (fun t ht=>hp t (by simp[ht])) (fun j t v h h'=>hv (j+1) t v (by simpa using h) (by simpa using h')) h2
  refine⟨x::ys,⟨x,ys,rfl,k1,k3⟩,by simp[k4],fun i hi bM=>?_⟩
  cases i with
  |zero=>exact k2
  |succ i=>exact k5 i (by simpa using hi) (by simpa using bM)
theorem M2{H:Type}{enc:TypeId×Value->H}{P:Program}(hl:laidOutB P=true){W W':World}(hb:Below W.heap.size W W'):∀ {ts:List TypeId} {vs:List Value} {ds:List (DataW H)} {ps:List MemPlace},
 (∀ t∈ts,P.readableRec t=true/\t<P.types.size)->DataW.TrodAll enc P W 0 (fun _=>true) true ts vs ds ps->(∀ x∈ps,x.block<W.heap.size)->DataW.TrodAll enc P W' 0 (fun b=>decide (b<W.heap.size)) true ts vs ds ps
 |[],vs,ds,ps,_,h,_=>by
  cases vs<;>cases ds<;>simp_all[DataW.TrodAll]
 |t::ts,[],ds,ps,_,h,_=>by cases ds<;>simp[DataW.TrodAll]at h
 |t::ts,v::vs,[],ps,_,h,_=>by simp[DataW.TrodAll]at h
 |t::ts,v::vs,d::ds,ps,hr,h,ab=>by
  obtain⟨p,q,h1,h2,rfl⟩:=h
  exact⟨p,q,Below.trod hl (hr t (by simp)).1 (hr t (by simp)).2 h1 hb (fun x hx=>ab x (by simp[hx])),
   M2 hl hb (fun t ht=>hr t (by simp[ht])) h2 (fun x hx=>ab x (by simp[hx])),rfl⟩
theorem E2{H:Type}{enc:TypeId×Value->H}{P:Program}{w:World}{b0:Nat}{spare:Nat->Bool}{held:Bool}:∀ {ts:List TypeId} {vs:List Value} {ds:List (DataW H)} {ps:List MemPlace},DataW.TrodAll enc P w b0 spare held ts vs ds ps->ds.length=ts.length
 |[],vs,ds,ps,h=>by cases vs<;>cases ds<;>simp_all[DataW.TrodAll]
 |t::ts,[],ds,ps,h=>by cases ds<;>simp[DataW.TrodAll]at h
 |t::ts,v::vs,[],ps,h=>by simp[DataW.TrodAll]at h
 |t::ts,v::vs,d::ds,ps,h=>by
  obtain⟨p,q,_,h2,_⟩:=h
  simp[E2 h2]
theorem Sv{H:Type}{enc:TypeId×Value->H}{C:Checked}{os:Os}{f:FuncId}{fn:Func}{s:ChangeSpec}{conds:List PathCond}{n:Nat}{tb:TypeId}
 (own:ownKnob C.prog.godebug=none) (started:os.Started) (RB:C.prog.inits.idxOf? f=none) (fo:C.prog.funcs[f]?=some fn)
 (witness:∃ (w:World) (tape:Tape) (i:Input),w.os=os/\(w.forCall tape i).Shaped C.prog/\i.vars=[]/\Input.okWide C.prog (w.forCall tape i) .any w.heap.size f i/\
   s.pre6 enc C.prog fn conds false (w.forCall tape i).memory i.args/\({}:Assume).holds C.prog (lone (Frame.enter C.prog f i.args .normal) [] (w.forCall tape i)))
 (hl:laidOutB C.prog=true) (gl:∀ t∈fn.params.toList,kD C.prog n t=true/\C.prog.readableRec t=true/\t<C.prog.types.size) (x8:fn.resultTypes= #[tb]) (jw:C.prog.underlying tb=some .bool)
 (J1:s.vars=[]) (hs:∀ ds:List (DataW H),ds.length=fn.params.toList.length->(s.fn H ds).results=[.lit (.bool true)]/\(s.fn H ds).args=ds/\(s.fn H ds).vars=[])
 (wc:∀ (W:World) (args:Array Value) (xs:List V),uK C.prog n fn.params.toList xs->sD (kJ W) xs args.toList->Calls C.prog f args W fun e W'=>e=.returned (.bool true)/\Below W.heap.size W W'):
 ReturnsInHanded {} C os f .any (s.pre6 enc C.prog fn conds false) (s.post enc C.prog fn false true false false):=by
 refine returnsInHanded_of_change own started RB fo witness ?_
 intro W base args ds gs before c8 hW _ _
 have CX:=hW
 obtain⟨p,q,hA,hV,rfl,_,_⟩:=hW
 rw[J1]at hV
 obtain⟨rfl,rfl⟩:=trodVars_none hV
 simp only[List.append_nil]at CX
 have ab:∀ y∈p,y.block<W.heap.size:=fun y hy=>by simpa using CX.lt y hy
 obtain⟨xs,h1,h2⟩:=M3 (vs:=args.toList) (ts:=fn.params.toList) (fun t ht=>(gl t ht).1) (fun j t v h h'=>c8 j t v (by simpa using h) (by simpa using h')) hA
 obtain⟨e1,e2,e3⟩:=hs ds (E2 hA)
 refine(wc W args xs h1 h2).mono fun e W' ⟨he,hn⟩=>?_
 subst he
 refine⟨_,rfl,ds,[],p,[],p,[],CX,?_,?_,?_,hn.frame _,fun h=>by cases h⟩
 ·rw[List.append_nil,e1,x8]
  exact trodAll_mk1 (shut_bool jw _)
 ·rw[List.append_nil,e2]
  exact M2 hl hn (fun t ht=>(gl t ht).2) hA ab
 ·rw[List.append_nil,e3,J1]
  rfl
open Go Go.Proofs Go.Proofs.YtepaolcgegdpoaaGreat Go.RowKit Go.ChangeShapes
theorem TU:ownKnob Tryz.prog.godebug=none:=by kernel_rfl
theorem TV:laidOutB Tryz.prog=true:=by kernel_rfl
end Go.Eng
set_option linter.constructorNameAsVariable false
set_option maxRecDepth 100000
namespace Go.Eng
open Go Go.Proofs
theorem fe{n:Nat}{xs:List V}(h:eu Tryz.prog (n+1) 3 xs):∃ k,xs=[vInt k]/\(Lit.int .i64 k).wf=true:=by
 unfold eu at h
 simp only[Tryz.underlying3]at h
 exact h
theorem M9:gw Tryz.prog 3=false:=by kernel_rfl
theorem HI{α β:Type}{f:α->β}{P:β->Prop}(h:∀ y,P y->∃ x,y=f x):∀ {l:List β},(∀ y∈l,P y)->∃ m:List α,l=m.map f
 |[],_=>⟨[],rfl⟩
 |y::r,hl=>by
  obtain⟨x,rfl⟩:=h y (hl y (by simp))
  obtain⟨m,rfl⟩:=HI h (l:=r) fun z hz=>hl z (by simp[hz])
  exact⟨x::m,rfl⟩
theorem va{n:Nat}{T e:TypeId}{xs:List V}{α:Type}{f:α->V}(hu:Tryz.prog.underlying T=some (.slice e))(h:eu Tryz.prog (n+1) T xs)
 (he:∀ ys,eu Tryz.prog n e ys->∃ a,mf (gw Tryz.prog e) ys=f a):∃ l:List α,xs=[.sl (l.map f)]:=by
 unfold eu at h
 simp only[hu]at h
 obtain⟨ls,rfl,_,h3⟩:=h
 obtain⟨m,hm⟩:=HI (f:=f) (P:=fun y=>∃ d,y=f d) (fun y h=>h) (l:=ls.map (mf (gw Tryz.prog e))) fun y hy=>by
  obtain⟨z,hz,rfl⟩:=List.mem_map.1 hy
  exact he z (h3 z hz)
 exact⟨m,by rw[hm]⟩
theorem Am{n:Nat}{xs:List V}(h:eu Tryz.prog (n+2) 32 xs):∃ l:List Int,xs=[.sl (l.map vInt)]:=
 va Tryz.underlying32 h fun ys hy=>by
  obtain⟨k,rfl,_⟩:=fe hy
  rw[M9]
  exact⟨k,rfl⟩
theorem OR{n:Nat}{xs:List V}(h:eu Tryz.prog (n+2) 38 xs):∃ a b,xs=[vInt a,vInt b]:=by
 unfold eu at h
 simp only[Tryz.underlying38]at h
 obtain⟨x,y,rfl,h1,x2,y2,rfl,h2,rfl⟩:=h
 obtain⟨a,rfl,_⟩:=fe h1
 obtain⟨b,rfl,_⟩:=fe h2
 exact⟨a,b,rfl⟩
theorem OP{n:Nat}{xs:List V}(h:eu Tryz.prog (n+2) 46 xs):∃ p:Pap,xs=[vInt p.id,vInt p.lv]:=by
 unfold eu at h
 simp only[Tryz.underlying46]at h
 obtain⟨x,y,rfl,h1,x2,y2,rfl,h2,rfl⟩:=h
 obtain⟨a,rfl,_⟩:=fe h1
 obtain⟨b,rfl,_⟩:=fe h2
 exact⟨⟨a,b⟩,rfl⟩
theorem OS{n:Nat}{xs:List V}(h:eu Tryz.prog (n+3) 36 xs):∃ r:Rec,xs=[vInt r.so,vInt r.bo,vInt r.pa,.sl (r.lv.map vInt),vInt r.da,vInt r.kn,vInt r.un]:=by
 unfold eu at h
 simp only[Tryz.underlying36]at h
 obtain⟨x1,y,rfl,h1,x2,y2,rfl,h2,x3,y3,rfl,h3,x4,y4,rfl,h4,x5,y5,rfl,h5,x6,y6,rfl,h6,x7,y7,rfl,h7,rfl⟩:=h
 obtain⟨a,rfl,_⟩:=fe h1
 obtain⟨b,rfl,_⟩:=fe h2
 obtain⟨c,rfl,_⟩:=fe h3
 obtain⟨l,rfl⟩:=Am h4
 obtain⟨d,rfl,_⟩:=fe h5
 obtain⟨e,rfl,_⟩:=fe h6
 obtain⟨f,rfl,_⟩:=fe h7
 exact⟨⟨a,b,c,l,d,e,f⟩,rfl⟩
theorem OQ{n:Nat}{xs:List V}(h:eu Tryz.prog (n+3) 40 xs):∃ r:Ret,xs=[vInt r.so,vInt r.re,vInt r.pe,.sl (r.lv.map vInt),vInt r.lo,vInt r.hi,vInt r.kn,vInt r.un]:=by
 unfold eu at h
 simp only[Tryz.underlying40]at h
 obtain⟨x1,y,rfl,h1,x2,y2,rfl,h2,x3,y3,rfl,h3,x4,y4,rfl,h4,x5,y5,rfl,h5,x6,y6,rfl,h6,x7,y7,rfl,h7,rfl⟩:=h
 obtain⟨a,rfl,_⟩:=fe h1
 obtain⟨b,rfl,_⟩:=fe h2
 obtain⟨c,rfl,_⟩:=fe h3
 obtain⟨l,rfl⟩:=Am h4
 obtain⟨d,g,rfl⟩:=OR h5
 obtain⟨e,rfl,_⟩:=fe h6
 obtain⟨f,rfl,_⟩:=fe h7
 exact⟨⟨a,b,c,l,d,g,e,f⟩,rfl⟩
theorem OO{n:Nat}{xs:List V}(h:eu Tryz.prog (n+2) 81 xs):∃ s:Sig,xs=[vInt s.so,vInt s.pe,vInt s.pa,vInt s.le,vInt s.da,vInt s.kn,vInt s.un]:=by
 unfold eu at h
 simp only[Tryz.underlying81]at h
 obtain⟨x1,y,rfl,h1,x2,y2,rfl,h2,x3,y3,rfl,h3,x4,y4,rfl,h4,x5,y5,rfl,h5,x6,y6,rfl,h6,x7,y7,rfl,h7,rfl⟩:=h
 obtain⟨a,rfl,_⟩:=fe h1
 obtain⟨b,rfl,_⟩:=fe h2
 obtain⟨c,rfl,_⟩:=fe h3
 obtain⟨d,rfl,_⟩:=fe h4
 obtain⟨e,rfl,_⟩:=fe h5
 obtain⟨f,rfl,_⟩:=fe h6
 obtain⟨g,rfl,_⟩:=fe h7
 exact⟨⟨a,b,c,d,e,f,g⟩,rfl⟩
theorem YZ:gw Tryz.prog 46=true:=by kernel_rfl
theorem Y1:gw Tryz.prog 36=true:=by kernel_rfl
theorem Y0:gw Tryz.prog 40=true:=by kernel_rfl
theorem YY:gw Tryz.prog 81=true:=by kernel_rfl
theorem Y3:gw Tryz.prog 31=true:=by kernel_rfl
theorem Y2:gw Tryz.prog 32=false:=by kernel_rfl
theorem OT{n:Nat}{xs:List V}(h:eu Tryz.prog (n+5) 31 xs):∃ l:Led,.agg xs=dA l:=by
 unfold eu at h
 simp only[Tryz.underlying31]at h
 obtain⟨x1,y,rfl,h1,x2,y2,rfl,h2,x3,y3,rfl,h3,x4,y4,rfl,h4,rfl⟩:=h
 obtain⟨a,rfl⟩:=va (f:=gJ) Tryz.underlying26 h1 fun ys hy=>by
  obtain⟨p,rfl⟩:=OP hy
  rw[YZ]
  exact⟨p,rfl⟩
 obtain⟨b,rfl⟩:=va (f:=encR) Tryz.underlying27 h2 fun ys hy=>by
  obtain⟨p,rfl⟩:=OS hy
  rw[Y1]
  exact⟨p,rfl⟩
 obtain⟨c,rfl⟩:=va (f:=fv) Tryz.underlying28 h3 fun ys hy=>by
  obtain⟨p,rfl⟩:=OQ hy
  rw[Y0]
  exact⟨p,rfl⟩
 obtain⟨d,rfl⟩:=va (f:=encS) Tryz.underlying29 h4 fun ys hy=>by
  obtain⟨p,rfl⟩:=OO hy
  rw[YY]
  exact⟨p,rfl⟩
 exact⟨⟨a,b,c,d⟩,rfl⟩
theorem YM{x:V}(h:wT Tryz.prog 6 31 x):∃ l:Led,x=dA l:=by
 obtain⟨xs,h1,rfl⟩:=h
 rw[Y3]
 exact OT h1
theorem YN{x:V}(h:wT Tryz.prog 6 3 x):∃ k,x=vInt k/\(Lit.int .i64 k).wf=true:=by
 obtain⟨xs,h1,rfl⟩:=h
 rw[M9]
 obtain⟨k,rfl,hk⟩:=fe h1
 exact⟨k,rfl,hk⟩
theorem YL{x:V}(h:wT Tryz.prog 6 32 x):∃ l:List Int,x=.sl (l.map vInt):=by
 obtain⟨xs,h1,rfl⟩:=h
 rw[Y2]
 obtain⟨l,rfl⟩:=Am h1
 exact⟨l,rfl⟩
theorem Yj{f:FuncId}{s:PSpec}(h:aN Tryz.prog f s){W:World}{args:Array Value}{xs:List V}(hr:sD (kJ W) xs args.toList)(hp:s.pre xs)(ht:s.fn xs=.bool true):
 Calls Tryz.prog f args W fun e W'=>e=.returned (.bool true)/\RowKit.Below W.heap.size W W':=by
 refine(h.calls (kJ W) W xs args (fun b off v hv=>hv) hr hp).mono ?_
 rintro e W' ⟨v,m',rfl,hb,_,_,hv⟩
 rw[ht]at hv
 cases hv
 exact⟨rfl,hb⟩
end Go.Eng
set_option linter.constructorNameAsVariable false
namespace Go.Eng
open Go Go.Proofs Go.Proofs.YtepaolcgegdpoaaGreat Go.RowKit Go.ChangeShapes
theorem R2(hc:∀ (W:World) (args:Array Value) (xs:List V),uK Tryz.prog 6 Tryz.f11.params.toList xs->sD (kJ W) xs args.toList->Calls Tryz.prog 11 args W fun e W'=>e=.returned (.bool true)/\Below W.heap.size W W')
 (os:Os) (started:os.Started) (H:Type) (enc:TypeId×Value->H):
 ReturnsInHanded {} Tryz.checked os 11 .any (Rows.loanDoublesSpec.pre6 enc Tryz.prog Tryz.f11 Rows.loanDoublesRow.domain false) (Rows.loanDoublesSpec.post enc Tryz.prog Tryz.f11 false true false false):=by
 refine Sv (C:=Tryz.checked) (n:=6) (tb:=4) TU started (by kernel_rfl) Tryz.func11
  (ChangeSpec.witness6 (enc:=enc) (C:=Tryz.checked) false ⟨#[],#[.agg #[.slice none 0 0,.slice none 0 0,.slice none 0 0,.slice none 0 0],.int .i64 0,.slice none 0 0],[]⟩ 8 (by kernel_rfl) (by kernel_rfl) (by kernel_rfl) (by kernel_rfl))
  TV ?_ (by kernel_rfl) (by kernel_rfl) rfl ?_ hc
 ·have h:(Tryz.f11.params.toList.all fun t=>kD Tryz.prog 6 t&&Tryz.prog.readableRec t&&decide (t<Tryz.prog.types.size))=true:=by kernel_rfl
  intro t ht
  have :=List.all_eq_true.1 h t ht
  simp only[Bool.and_eq_true,decide_eq_true_eq]at this
  exact⟨this.1.1,this.1.2,this.2⟩
 ·intro ds nB
  have hl:Tryz.f11.params.toList.length=3:=by kernel_rfl
  rw[hl]at nB
  match ds,nB with
  |[d1,d2,d3],_=>exact⟨rfl,rfl,rfl⟩
theorem R1(hc:∀ (W:World) (args:Array Value) (xs:List V),uK Tryz.prog 6 Tryz.f11.params.toList xs->sD (kJ W) xs args.toList->Calls Tryz.prog 11 args W fun e W'=>e=.returned (.bool true)/\Below W.heap.size W W'):
 Rows.LoanDoublesSaid:=
 OpenClaim.holds_of_wide 11 Tryz.f11 rfl rfl rfl rfl rfl rfl rfl ⟨rfl,rfl,rfl,rfl,rfl⟩ rfl rfl rfl rfl rfl (by kernel_rfl) Tryz.func11 (by kernel_rfl)
  (of_decide_eq_true (by kernel_rfl)) (by unfold Func.isWrapper;first | (rw[if_pos (by decide+kernel)];kernel_rfl) | (rw[if_neg (by decide+kernel)];exact⟨rfl,rfl⟩))
  (fun os started H enc _=>R2 hc os started H enc)
end Go.Eng
set_option maxRecDepth 100000
namespace Go.Eng
open Go Go.Proofs Go.Proofs.YtepaolcgegdpoaaGreat
theorem loanDoubles_holds:Rows.LoanDoublesSaid:=
 R1 fun W args xs ha hr=>by
  obtain⟨x,ys,rfl,h1,y,zs,rfl,h2,z,us,rfl,h3,rfl⟩:=(show uK Tryz.prog 6 [31,3,32] xs from ha)
  obtain⟨l,rfl⟩:=YM h1
  obtain⟨k,rfl,_⟩:=YN h2
  obtain⟨d,rfl⟩:=YL h3
  exact Yj Qq hr ⟨congrArg dA (Xo l),rfl,congrArg (fun m:List Int=>V.sl (m.map vInt)) (oY d),trivial⟩ rfl
end Go.Eng
namespace Go.Proofs.YtepaolcgegdpoaaGreat
theorem loanDoubles_holds : Rows.LoanDoublesSaid := Go.Eng.loanDoubles_holds
end Go.Proofs.YtepaolcgegdpoaaGreat
#print axioms Go.Proofs.YtepaolcgegdpoaaGreat.loanDoubles_holds
