import Derived.Test.YtepaolcgegdpoaaGreatK16
import GoSem.ClaimChange
import Derived.DataReads
import Derived.ChangeReads
import Derived.ProofKit
import Derived.Carry
import Derived.Test.YtepaolcgegdpoaaGreatRows
import Derived.Test.YtepaolcgegdpoaaGreatChecked
/- LoanPlaces is proved: CheckTrue, Placed and Moved agree with the reference, and Attain returns true days with the end that is asked for, or the error, for every ledger, question and list of days, at all arguments that the statement covers. -/
set_option linter.all false
namespace Go.Eng
open Go Go.Proofs
theorem Ht:aL Tryz.prog 18 ⟨fun xs=>xs=[],fun _=>.bool true,true⟩:=
 SO (b:=.bool true) V8 (by
  intro fn h
  have e:Tryz.prog.funcs[18]?=some Tryz.f18:=Tryz.func18
  rw[e]at h
  obtain rfl:=Option.some.inj h
  exact(by kernel_rfl:(Tryz.f18.name== "runtime.NumGoroutine")=false)) (by decide) rfl
set_option maxRecDepth 10000
noncomputable section
theorem ZL(l:Led)(a:Ask):(lT l a).lo=(lV l a.so a.kn).1:=by rw[Nq]
theorem ZM(l:Led)(a:Ask):(lT l a).hi=(lV l a.so a.kn).2:=by rw[Nq]
theorem at_nil{l:Led}{so k:Int}(h:¬ i5 l so k=0)(la:Bool):gi l so k la=[]:=by unfold gi;rw[if_neg h]
def O6:Spec:=(⟨fun xs=>xs=[],fun _=>.bool true,true⟩:PSpec).toSpec
attribute [go_sem] O6
def K71:List (Nat×Spec):=[(39,S39),(44,S44),(21,S21),(45,S45),(24,Gd),(36,S36),(38,S38),(46,S46),(28,S28),(47,S47),(48,S48),(18,O6)]
theorem acg:KS K71:=tc Ru.sound<|tc Rt.sound<|tc RA.sound<|tc Rs.sound<|tc Hr.sound<|tc Rx.sound<|tc Rv.sound<|tc Rr.sound<|tc Ry.sound<|tc Rq.sound<|tc Rp.sound<|tc Ht.sound<|tn
attribute [go_sem] K71
@[go_sem] def P8:PSpec:=p3 iL nx cm (fun _ _ _=>True) (fun _ _ _=>.bool true) true
@[go_sem] def S8:Spec:=P8.toSpec
set_option maxHeartbeats 8000000 in
theorem s8:aL Tryz.prog 8 P8:=by
 refine gL (rs:=[.tmp 6]) Tryz.func8 Tryz.ntmps8 fun l a az hp hw=>?_
 have hP:=c8
 simp only[nx,cm,iL,dq]at hw |-
 have hΓ:=acg
 have ig:2<=maxLen:=by unfold maxLen;omega
 repeat refine sq ?_
 refine rx hΓ [2,3,4] [[3,0],[4,0]] (fun K' hK=>by simp only[go_sem];exact ak) ?_
 repeat refine sq ?_
 refine rx hΓ [2,3,4,7,8] [[3,0],[4,0]] (fun K' hK=>by simp only[go_sem];exact ak) ?_
 repeat refine sq ?_
 refine rx hΓ [2,3,4,7,8,9,10] [[3,0],[4,0]] (fun K' hK=>by simp only[go_sem,SQ,Io];exact ak) ?_
 repeat refine sq ?_
 refine rx hΓ [2,3,4,7,8,9,10,11,12] [[3,0],[4,0]] (fun K' hK=>by simp only[go_sem];exact ak) ?_
 repeat refine sq ?_
 refine rx hΓ [2,3,4,7,8,9,10,11,12,13,14] [[3,0],[4,0]] (fun K' hK=>by simp only[go_sem,Ux,Jf];exact ak) ?_
 repeat refine sq ?_
 refine dx hΓ hP [[],[],[0,1],[0,1,2],u4,u5,u5,u7,u8,u9,bI,bI,dS,fJ,eE,lx,u16,u16,gO,l7,gN,jG,jG,[0,1,2,3,4,5,6,7,8,9,10,11,12,13,14,15,16,17,18,19,20,22],jG,qo,jG,jG,[0,1,2,3,4,5,6,7,8,9,10,11,12,13,14,15,16,17,18,19,20,27],jG,ym,BA,u32] [3,4,90] [[3,0],[4,0]] (by kernel_rfl) (fun K' hK=>by simp only[go_sem,FB,decide_true,bne_self_eq_false];exact eQ) ?_
 repeat refine sq ?_
 refine au (fun hb=>?_) fun hb=>?_
 ·cases hb
 ·repeat refine sq ?_
  refine ay ?_
  repeat refine sq ?_
  refine rx hΓ [3,4,15,16] [[3,0],[4,0],[15,0]] (fun K' hK=>by simp only[go_sem,ZL,ZM,Nr];exact ak) ?_
  repeat refine sq ?_
  refine rx hΓ [3,4,15,16,17] [[3,0],[4,0],[15,0]] (fun K' hK=>by simp only[go_sem];exact ak) ?_
  repeat refine sq ?_
  refine aC ?_
  repeat refine sq ?_
  refine bA (fun s:Nat=>[(17,⟨true,.v (vInt s)⟩)]) (fun s=>[]) (fun s=>s<=2) (fun s=>2-s) 0 ?_ ?_ ?_ ?_
  ·exact Nat.zero_le _
  ·rfl
  ·rfl
  rintro i hi
  simp only[go_sem]
  repeat refine sq ?_
  refine rx hΓ [3,4,15,16,17,98] [[3,0],[4,0],[15,0]] (fun K' hK=>by simp only[go_sem];exact ak) ?_
  repeat refine sq ?_
  refine au (fun hb=>?_) fun hb=>?_
  ·repeat refine sq ?_
   have aa:i<2:=by
    have :(i:Int)<2:=by simpa using hb
    omega
   have Zj:∃ b:Bool,((i:Int)==1)=b/\((i:Int)==0)=!b:=by
    rcases(show i=0\/i=1 by omega)with rfl | rfl
    ·exact⟨false,rfl,rfl⟩
    ·exact⟨true,rfl,rfl⟩
   obtain⟨b,iq,z6⟩:=Zj
   refine ay ?_
   repeat refine sq ?_
   refine aC ?_
   repeat refine sq ?_
   refine rx hΓ [3,4,15,16,17,18,19] [[3,0],[4,0],[15,0]] (fun K' hK=>by simp only[go_sem,iq];exact ak) ?_
   repeat refine sq ?_
   refine rx hΓ [3,4,15,16,17,18,19,114] [[3,0],[4,0],[15,0]] (fun K' hK=>by simp only[go_sem,bne_self_eq_false];exact ak) ?_
   repeat refine sq ?_
   refine au (fun hb=>?_) fun hb=>?_
   ·cases hb
   ·repeat refine sq ?_
    refine ay ?_
    repeat refine sq ?_
    refine rx hΓ [3,4,15,16,17,18,116] [[3,0],[4,0],[15,0]] (fun K' hK=>by simp only[go_sem];exact ak) ?_
    repeat refine sq ?_
    refine au (fun hb=>?_) fun hb=>?_
    ·repeat refine sq ?_
     have hd:¬ i5 l a.so a.kn=0:=by simpa using hb
     have hA:=at_nil hd b
     repeat refine sq ?_
     refine rx hΓ [3,4,15,16,17,119] [[3,0],[4,0],[15,0]] (fun K' hK=>by simp only[go_sem,hA,List.map_nil,List.length_nil];exact ak) ?_
     repeat refine sq ?_
     refine au (fun hb=>?_) fun hb=>?_
     ·cases hb
     ·repeat refine sq ?_
      refine ay ?_
      refine be ?_
      simp only[go_sem]
      refine kp [3,4,15,16,17] [[3,0],[4,0],[15,0]] ?_
      repeat refine sq ?_
      refine aI hΓ fun K' hK=>?_
      simp only[go_sem]
      repeat (refine⟨ao,?_⟩)
      refine hK _ ?_
      clear K' hK
      simp only[go_sem]
      refine⟨i+1,aa,by(show 2-(i+1)<2-i;omega),?_⟩
      refine aT [3,4,15,16,17] [[3,0],[4,0],[15,0]] ?_ ?_<;>simp only[go_sem,aO aa ig,aQ]
    ·repeat refine sq ?_
     have hd:i5 l a.so a.kn=0:=by simpa using hb
     have ab:bp l:=by
      unfold i5 at hd
      split at hd
      ·rename_i h;exact(yH h).1
      ·rename_i h;exact(h hd).elim
     obtain⟨j,dW,zR,Em,Me⟩:=at_val hd b
     have Mf:(j:Int)<(gi l a.so a.kn b).length:=by omega
     have jq:((gi l a.so a.kn b).map vInt).getD j default=vInt (if b then(lV l a.so a.kn).2 else(lV l a.so a.kn).1):=by rw[ae zR,<-Em,dd zR]
     have dn:decide ((j:Int)<0)=false:=by simp
     refine ay ?_
     repeat refine sq ?_
     refine rx hΓ [3,4,15,16,17,18,20] [[3,0],[4,0],[15,0]] (fun K' hK=>by simp only[go_sem,dW];(repeat (refine⟨by first | exact ao | exact ab.tsn,?_⟩));exact cF) ?_
     cases b
     ·have EG:((i:Int)==0)=true:=z6
      have Eu:((gi l a.so a.kn false).map vInt).getD j default=vInt (lV l a.so a.kn).1:=jq
      repeat refine sq ?_
      refine dx hΓ hP [[],[],[1],[],u4,u5,u6,u7,u8,u9,bI,cz,dS,fJ,eE,eE,u16,iG,eE,[0,1,2,3,4,5,6,7,8,9,10,11,12,13,18],gN,jG,rP,qp,vQ,qo,vP,qn,qn,tT,ym,qn,[0,1,2,3,4,5,6,7,8,9,10,11,12,13,14,15,16,17,18,19,20,21,22,23,24,25,26,31],yl,Bz,GM] [3,4,15,16,17,159] [[3,0],[4,0],[15,0]] (by kernel_rfl) (fun K' hK=>by simp only[go_sem,FB,Me,dn,iq,EG,Eu,Mf,ah,aj,List.length_map,bne_self_eq_false];exact eQ) ?_
      repeat refine sq ?_
      refine au (fun hb=>?_) fun hb=>?_
      ·cases hb
      ·repeat refine sq ?_
       refine ay ?_
       refine br ?_
       simp only[go_sem]
       refine kp [3,4,15,16,17] [[3,0],[4,0],[15,0]] ?_
       repeat refine sq ?_
       refine aI hΓ fun K' hK=>?_
       simp only[go_sem]
       repeat (refine⟨ao,?_⟩)
       refine hK _ ?_
       clear K' hK
       simp only[go_sem]
       refine⟨i+1,aa,by(show 2-(i+1)<2-i;omega),?_⟩
       refine aT [3,4,15,16,17] [[3,0],[4,0],[15,0]] ?_ ?_<;>simp only[go_sem,aO aa ig,aQ]
     ·have EG:((i:Int)==0)=false:=z6
      have Eu:((gi l a.so a.kn true).map vInt).getD j default=vInt (lV l a.so a.kn).2:=jq
      repeat refine sq ?_
      refine dx hΓ hP [[],[],[1],[],u4,u5,u6,u7,u8,u9,bI,cz,dS,fJ,eE,eE,u16,iG,eE,[0,1,2,3,4,5,6,7,8,9,10,11,12,13,18],gN,jG,rP,qp,vQ,qo,vP,qn,qn,tT,ym,qn,[0,1,2,3,4,5,6,7,8,9,10,11,12,13,14,15,16,17,18,19,20,21,22,23,24,25,26,31],yl,Bz,GM] [3,4,15,16,17,159] [[3,0],[4,0],[15,0]] (by kernel_rfl) (fun K' hK=>by simp only[go_sem,FB,Me,dn,iq,EG,Eu,Mf,ah,aj,List.length_map,bne_self_eq_false];exact eQ) ?_
      repeat refine sq ?_
      refine au (fun hb=>?_) fun hb=>?_
      ·cases hb
      ·repeat refine sq ?_
       refine ay ?_
       refine br ?_
       simp only[go_sem]
       refine kp [3,4,15,16,17] [[3,0],[4,0],[15,0]] ?_
       repeat refine sq ?_
       refine aI hΓ fun K' hK=>?_
       simp only[go_sem]
       repeat (refine⟨ao,?_⟩)
       refine hK _ ?_
       clear K' hK
       simp only[go_sem]
       refine⟨i+1,aa,by(show 2-(i+1)<2-i;omega),?_⟩
       refine aT [3,4,15,16,17] [[3,0],[4,0],[15,0]] ?_ ?_<;>simp only[go_sem,aO aa ig,aQ]
  ·repeat refine sq ?_
   clear hb
   refine be ?_
   simp only[go_sem]
   refine kp [] [] ?_
   repeat refine sq ?_
   refine rx hΓ [6] [] (fun K' hK=>by simp only[go_sem];exact ak) ?_
   refine aq ?_
   simp only[go_sem]
   skip
end
open Go
def gK(P:Program)(t:TypeId):Bool:=match P.underlying t with | some (.struct _)=>true | some (.array _ _)=>true | _=>false
def np(ag:Bool)(xs:List V):V:=if ag then .agg xs else xs.getD 0 default
def ov(P:Program):List Field->Nat->Nat->Bool
 |[],off,tot=>off==tot
 |f::r,off,tot=>f.offset==off&&ov P r (off+P.cellsOf f.type) tot
def lD(P:Program):Nat->TypeId->Bool
 | 0,_=>false
 |n+1,t=>match P.underlying t with
  |some .bool=>P.cellsOf t==1
  |some (.int _)=>P.cellsOf t==1
  |some .string=>P.cellsOf t==1
  |some (.slice e)=>P.cellsOf t==1&&lD P n e&&decide (0<P.cellsOf e)&&(gK P e||P.cellsOf e==1)
  |some (.struct fs)=>ov P fs.toList 0 (P.cellsOf t)&&fs.toList.all fun f=>lD P n f.type
  |some (.array m e)=>P.cellsOf t==m*P.cellsOf e&&lD P n e
  |_=>false
def xZ(S:TypeId->List V->Prop):List TypeId->List V->Prop
 |[],xs=>xs=[]
 |t::r,xs=>∃ a b,xs=a++b/\S t a/\xZ S r b
def eo(P:Program):Nat->TypeId->List V->Prop
 | 0,_,_=>False
 |n+1,t,xs=>match P.underlying t with
  |some .bool=>∃ b,xs=[.bool b]
  |some (.int k)=>∃ z,xs=[.int k z]/\(Lit.int k z).wf=true
  |some .string=>∃ s,xs=[.str s]/\s.size<=maxLen
  |some (.slice e)=>∃ ls:List (List V),xs=[.sl (ls.map (np (gK P e)))]/\ls.length<=maxLen/\∀ y∈ls,eo P n e y
  |some (.struct fs)=>xZ (eo P n) (fs.toList.map (·.type)) xs
  |some (.array m e)=>xZ (eo P n) (List.replicate m e) xs
  |_=>False
structure jE (m:Mem) (xs:List V) (cs:List Value):Prop where
 len:xs.length=cs.length
 rep:∀ i (h:i<xs.length) (h':i<cs.length),aY m xs[i] cs[i]
 one:∀ x∈xs,x.one=true
theorem jE.nil(m:Mem):jE m [] []:=⟨rfl,fun i h=>by simp at h,fun x h=>by simp at h⟩
theorem jE.append{m:Mem}{xs ys:List V}{cs ds:List Value}(h:jE m xs cs)(k:jE m ys ds):jE m (xs++ys) (cs++ds):=by
 refine⟨by simp[h.len,k.len],fun i h1 h2=>?_,fun x hx=>?_⟩
 ·by_cases hi:i<xs.length
  ·rw[List.getElem_append_left hi,List.getElem_append_left (by rw[<-h.len];exact hi)]
   exact h.rep i hi _
  ·have hl:=h.len
   have e:i-xs.length=i-cs.length:=by rw[hl]
   rw[List.getElem_append_right (by omega),List.getElem_append_right (by omega)]
   simp only[List.length_append]at h1 h2
   have :=k.rep (i-xs.length) (by omega) (by rw[<-k.len];omega)
   simp only[e]at this |-
   exact this
 ·rcases List.mem_append.1 hx with hx | hx
  ·exact h.one x hx
  ·exact k.one x hx
theorem jE.single{m:Mem}{x:V}{u:Value}(h:aY m x u)(ho:x.one=true):jE m [x] [u]:=
 ⟨rfl,fun i h1 h2=>by simp at h1;subst h1;exact h,fun y hy=>by simp at hy;subst hy;exact ho⟩
theorem mapM_some{α β:Type}{f:α->Option β}:∀ {l:List α} {r:List β},l.mapM f=some r->r.length=l.length/\∀ i (h:i<l.length) (h':i<r.length),f l[i]=some r[i]
 |[],r,h=>by
  simp only[List.mapM_nil]at h
  cases h
  exact⟨rfl,fun i h=>by simp at h⟩
 |a::l,r,h=>by
  simp only[List.mapM_cons,Option.bind_eq_bind,Option.bind_eq_some_iff]at h
  obtain⟨b,hb,bs,z2,hr⟩:=h
  cases hr
  obtain⟨h1,h2⟩:=mapM_some z2
  refine⟨by simp[h1],fun i hi bU=>?_⟩
  cases i with
  |zero=>exact hb
  |succ i=>exact h2 i (by simpa using hi) (by simpa using bU)
theorem GS{P:Program}:∀ {fs:List Field} {off tot:Nat},ov P fs off tot=true->off<=tot
 |[],off,tot,h=>by simp[ov]at h;omega
 |f::r,off,tot,h=>by
  simp only[ov,Bool.and_eq_true]at h
  have :=GS h.2
  omega
theorem M'{P:Program}{m:Mem}{S:TypeId->List V->Prop}{cs:List Value}:∀ {fs:List Field} {off:Nat},ov P fs off cs.length=true->
 (∀ f∈fs,∃ xs,S f.type xs/\jE m xs ((cs.drop f.offset).take (P.cellsOf f.type)))->∃ xs,xZ S (fs.map (·.type)) xs/\jE m xs (cs.drop off)
 |[],off,h,_=>by
  simp[ov]at h
  subst h
  exact⟨[],rfl,by simpa using jE.nil m⟩
 |f::r,off,h,hf=>by
  simp only[ov,Bool.and_eq_true,beq_iff_eq]at h
  obtain⟨h1,h2⟩:=h
  obtain⟨a,ha,DJ⟩:=hf f (by simp)
  obtain⟨b,hb,wY⟩:=M' h2 fun g hg=>hf g (by simp[hg])
  refine⟨a++b,⟨a,b,rfl,ha,hb⟩,?_⟩
  have e:cs.drop off=(cs.drop f.offset).take (P.cellsOf f.type)++cs.drop (off+P.cellsOf f.type):=by
   rw[h1,<-List.drop_drop,List.take_append_drop]
  rw[e]
  exact DJ.append wY
theorem OC{m:Mem}{S:TypeId->List V->Prop}{e:TypeId}{k:Nat}{cs:List Value}:∀ (n off:Nat),cs.length=(off+n)*k->
 (∀ i,i<off+n->∃ xs,S e xs/\jE m xs ((cs.drop (i*k)).take k))->∃ xs,xZ S (List.replicate n e) xs/\jE m xs (cs.drop (off*k))
 | 0,off,h,_=>by
   have :cs.drop (off*k)=[]:=List.drop_eq_nil_of_le (by rw[h];simp)
   rw[this]
   exact⟨[],rfl,jE.nil m⟩
 |n+1,off,h,hf=>by
  obtain⟨a,ha,DJ⟩:=hf off (by omega)
  obtain⟨b,hb,wY⟩:=OC n (off+1) (by rw[h];congr 1;omega) fun i hi=>hf i (by omega)
  refine⟨a++b,⟨a,b,rfl,ha,hb⟩,?_⟩
  have e:cs.drop (off*k)=(cs.drop (off*k)).take k++cs.drop ((off+1)*k):=by
   rw[Nat.succ_mul,<-List.drop_drop,List.take_append_drop]
  rw[e]
  exact DJ.append wY
theorem S0{ag:Bool}{xs:List V}(h:ag=true\/xs.length=1)(ho:∀ x∈xs,x.one=true):(np ag xs).cells=xs:=by
 cases ag with
 |true=>rfl
 |false=>
  rcases h with h | h
  ·cases h
  match xs,h with
  |[x],_=>
   have :=ho x (by simp)
   show x.cells=[x]
   cases x<;>first | rfl | (simp[V.one]at this)
def lK(w:World):Mem:=fun b off=>w.cell? ⟨b,off,none⟩
theorem OK{a:Addr}(h:a.spot=none)(n:Nat):a.add n=⟨a.block,a.off+n,none⟩:=by
 obtain⟨b,o,s⟩:=a
 simp only at h
 subst h
 unfold Addr.add
 split
 ·rename_i e;subst e;rfl
 ·rfl
theorem yL{H:Type}{enc:TypeId×Value->H}{P:Program}{w:World}{base:Nat}{spare:Nat->Bool}{held:Bool}:
 ∀ (n fuel:Nat) (t:TypeId) (cs:List Value) (r:DataW H×List MemPlace),lD P n t=true->cs.length=P.cellsOf t->DataW.trod enc P w base spare held fuel t cs=some r->∃ xs,eo P n t xs/\jE (lK w) xs cs
 | 0,_,_,_,_,h,_,_=>by simp[lD]at h
 |n+1,0,_,_,_,_,_,h=>by simp[DataW.trod]at h
 |n+1,fuel+1,t,cs,r,hp,hlen,h=>by
  rw[DataW.trod_step]at h
  unfold DataW.trodStep at h
  unfold lD at hp
  unfold eo
  rcases hu:P.underlying t with _ | u
  ·rw[hu]at hp;simp at hp
  rw[hu]at hp h
  cases u with
  |bool=>
   have hb:∃ b,cs=[.bool b]:=by
    simp only at h
    split at h<;>simp_all
   obtain⟨b,rfl⟩:=hb
   exact⟨_,⟨b,rfl⟩,.single (.bool _) rfl⟩
  |int k=>
   simp only at hp h |-
   split at h<;>simp_all
   obtain⟨⟨rfl,h1⟩,_⟩:=h
   exact⟨_,⟨_,rfl,h1⟩,.single (.int _ _) rfl⟩
  |string=>
   simp only at hp h |-
   split at h<;>simp_all
   obtain⟨h1,_⟩:=h
   exact⟨_,⟨_,rfl,h1⟩,.single (.str _ h1) rfl⟩
  |slice e=>
   simp only[Bool.and_eq_true,decide_eq_true_eq,Bool.or_eq_true,beq_iff_eq]at hp |-
   obtain⟨⟨⟨_,DQ⟩,bW⟩,YT⟩:=hp
   split at h<;>simp_all
   ·exact⟨_,⟨[],rfl,Nat.zero_le _,by simp⟩,.single (.slnil _ _) rfl⟩
   ·rename_i e' a len cap _ _
    obtain⟨⟨hb,X4,hcm⟩,h⟩:=h
    simp only[Option.bind_eq_some_iff]at h
    obtain⟨elems,zX,_⟩:=h
    obtain⟨l1,l2⟩:=mapM_some zX
    simp only[List.length_range]at l1
    have hx:∀ i,i<len->∃ xs cells,w.cells? base (a.add (i*P.cellsOf e')) (P.cellsOf e')=some cells/\eo P n e' xs/\jE (lK w) xs cells:=by
     intro i hi
     have h3:=l2 i (by simpa using hi) (by omega)
     simp only[List.getElem_range,Option.bind_eq_some_iff]at h3
     obtain⟨cells,h4,h5⟩:=h3
     obtain⟨xs,h6,h7⟩:=yL n fuel _ _ _ DQ (World.cells?_some h4).2.1 h5
     exact⟨xs,cells,h4,h6,h7⟩
    rcases Nat.eq_zero_or_pos len with hz | XR
    ·subst hz
     exact⟨[.sl []],⟨[],rfl,Nat.zero_le _,by simp⟩,.single (.slnil _ _) rfl⟩
    have Dz:a.spot=none:=by
     obtain⟨xs,cells,h4,_⟩:=hx 0 XR
     have h8:=(World.cells?_some h4).2.2 0 bW
     have h9:=(World.cells?_some h4).2.1
     have pY:w.cell? ((a.add (0*P.cellsOf e')).add 0)=some (cells[0]'(by omega)):=by rw[h8];exact List.getElem?_eq_getElem (by omega)
     simpa[Addr.add]using World.cell?_spot pY
    let X:Nat->List V:=fun i=>if h:i<len then Classical.choose (hx i h)else[]
    let C:Nat->List Value:=fun i=>(w.cells? base (a.add (i*P.cellsOf e')) (P.cellsOf e')).getD []
    have hX:∀ i,i<len->eo P n e' (X i)/\jE (lK w) (X i) (C i)/\(C i).length=P.cellsOf e'/\∀ j,j<P.cellsOf e'->w.cell? ⟨a.block,a.off+i*P.cellsOf e'+j,none⟩=(C i)[j]?:=by
     intro i hi
     obtain⟨cells,h4,h6,h7⟩:=Classical.choose_spec (hx i hi)
     have e1:X i=Classical.choose (hx i hi):=dif_pos hi
     have e2:C i=cells:=by show (w.cells? _ _ _).getD []=cells;rw[h4];rfl
     rw[e1,e2]
     refine⟨h6,h7,(World.cells?_some h4).2.1,fun j hj=>?_⟩
     have h8:=(World.cells?_some h4).2.2 j hj
     rw[OK Dz,OK rfl]at h8
     exact h8
    have sQ:∀ i,i<len->(np (gK P e') (X i)).cells=X i:=fun i hi=>by
     obtain⟨h1,h2,h3,_⟩:=hX i hi
     refine S0 ?_ h2.one
     rcases YT with h | h
     ·exact .inl h
     ·exact .inr (by rw[h2.len,h3,h])
    refine⟨[.sl (((List.range len).map X).map (np (gK P e')))],⟨(List.range len).map X,rfl,by simp;omega,fun y hy=>?_⟩,.single ?_ rfl⟩
    ·simp only[List.mem_map,List.mem_range]at hy
     obtain⟨i,hi,rfl⟩:=hy
     exact(hX i hi).1
    ·obtain⟨b,o,s⟩:=a
     simp only at Dz hX
     subst Dz
     have key:=aY.sl (m:=lK w) (((List.range len).map X).map (np (gK P e'))) b o cap (P.cellsOf e') (fun i j=>((C i)[j]?).getD undef) (by
         intro h;have:=congrArg List.length h;simp at this;omega) (by simp;omega) (by simpa using X4)
      (fun i hi=>by
        have bU:i<len:=by simpa using hi
        obtain⟨h1,h2,h3,_⟩:=hX i bU
        simp only[List.getElem_map,List.getElem_range]
        rw[sQ i bU,h2.len,h3])
      (fun i j hi hj=>by
        have bU:i<len:=by simpa using hi
        obtain⟨h1,h2,h3,h4⟩:=hX i bU
        show w.cell? _=_
        rw[h4 j hj,List.getElem?_eq_getElem (by omega)]
        rfl)
      (fun i j hi hj=>by
        have bU:i<len:=by simpa using hi
        obtain⟨h1,h2,h3,h4⟩:=hX i bU
        simp only[List.getElem_map,List.getElem_range,sQ i bU]at hj |-
        have dp:j<(C i).length:=by rw[<-h2.len];exact hj
        rw[List.getElem?_eq_getElem dp]
        exact h2.rep j hj dp)
      (fun i hi x hx=>by
        have bU:i<len:=by simpa using hi
        simp only[List.getElem_map,List.getElem_range,sQ i bU]at hx
        exact(hX i bU).2.1.one x hx)
     simpa using key
  |struct fs=>
   simp only[Bool.and_eq_true,List.all_eq_true]at hp h |-
   obtain⟨ht,eO⟩:=hp
   rw[if_pos hlen]at h
   simp only[Option.map_eq_some_iff]at h
   obtain⟨ys,Dr,_⟩:=h
   obtain⟨l1,l2⟩:=mapM_some Dr
   have :=M' (m:=lK w) (S:=eo P n) (cs:=cs) (fs:=fs.toList) (off:=0) (by rw[hlen];exact ht) fun f hf=>by
    obtain⟨i,hi,rfl⟩:=List.mem_iff_getElem.1 hf
    have h3:=l2 i hi (by omega)
    have hle:P.cellsOf fs.toList[i].type<=(cs.drop fs.toList[i].offset).length:=by
     have key:∀ (l:List Field) (off tot:Nat),ov P l off tot=true->∀ f∈l,f.offset+P.cellsOf f.type<=tot:=by
      intro l
      induction l with
      |nil=>intro _ _ _ f hf;simp at hf
      |cons g r ih=>
       intro off tot h f hf
       simp only[ov,Bool.and_eq_true,beq_iff_eq]at h
       rcases List.mem_cons.1 hf with rfl | hf
       ·have:=GS h.2;omega
       ·exact ih _ _ h.2 f hf
     have :=key _ _ _ ht _ hf
     simp only[List.length_drop]
     omega
    exact yL n fuel _ _ _ (eO _ hf) (by rw[List.length_take];omega) h3
   simpa using this
  |array m e=>
   simp only[Bool.and_eq_true,beq_iff_eq]at hp h |-
   obtain⟨ht,DQ⟩:=hp
   rw[if_pos hlen]at h
   simp only[Option.map_eq_some_iff]at h
   obtain⟨ys,Dr,_⟩:=h
   obtain⟨l1,l2⟩:=mapM_some Dr
   have :=OC (m:=lK w) (S:=eo P n) (e:=e) (k:=P.cellsOf e) (cs:=cs) m 0 (by rw[hlen,ht];simp) fun i hi=>by
    have bU:i<m:=by omega
    have h3:=l2 i (by simpa using bU) (by rw[l1];simpa using bU)
    simp only[List.getElem_range]at h3
    have hle:i*P.cellsOf e+P.cellsOf e<=cs.length:=by
     rw[hlen,ht,<-Nat.succ_mul];exact Nat.mul_le_mul_right _ bU
    exact yL n fuel _ _ _ DQ (by rw[List.length_take,List.length_drop];omega) h3
   simpa using this
  |_=>simp at hp
open Go Go.RowKit Go.ChangeShapes Go.WideShapes Go.ChangeAt
theorem Tf{P:Program}{n:Nat}{t:TypeId}{W:World}{r:Reach}{base:Nat}{v:Value}(hp:lD P n t=true)(h:Value.okWide P W r base t v):
 v.cells.size=P.cellsOf t/\(gK P t=true->∃ cs,v=.agg cs)/\(gK P t=false->v.cells= #[v]/\P.cellsOf t=1):=by
 cases n with
 |zero=>simp[lD]at hp
 |succ n=>
  unfold lD at hp
  unfold gK
  rcases hu:P.underlying t with _ | u
  ·rw[hu]at hp;simp at hp
  rw[hu]at hp
  cases u with
  |bool=>
   obtain⟨b,rfl⟩:=okWide_bool hu h
   simp only[beq_iff_eq]at hp
   exact⟨by simp[Value.cells,hp],by simp,fun _=>⟨rfl,hp⟩⟩
  |int k=>
   obtain⟨b,rfl⟩:=okWide_int hu h
   simp only[beq_iff_eq]at hp
   exact⟨by simp[Value.cells,hp],by simp,fun _=>⟨rfl,hp⟩⟩
  |string=>
   obtain⟨b,rfl⟩:=okWide_string hu h
   simp only[beq_iff_eq]at hp
   exact⟨by simp[Value.cells,hp],by simp,fun _=>⟨rfl,hp⟩⟩
  |slice e=>
   obtain⟨a,len,cap,rfl⟩:=okWide_slice hu h
   simp only[Bool.and_eq_true,beq_iff_eq]at hp
   exact⟨by simp[Value.cells,hp.1.1.1],by simp,fun _=>⟨rfl,hp.1.1.1⟩⟩
  |struct fs=>
   simp only[Value.okWide,hu]at h
   obtain⟨cs,rfl,h2,_⟩:=h
   exact⟨h2,fun _=>⟨cs,rfl⟩,fun h=>by simp at h⟩
  |array m e=>
   simp only[Value.okWide,hu]at h
   obtain⟨cs,rfl,h2,_⟩:=h
   exact⟨h2,fun _=>⟨cs,rfl⟩,fun h=>by simp at h⟩
  |_=>simp at hp
def yd(P:Program)(n:Nat)(t:TypeId)(x:V):Prop:=∃ xs,eo P n t xs/\x=np (gK P t) xs
def vK(P:Program)(n:Nat):List TypeId->List V->Prop
 |[],xs=>xs=[]
 |t::r,xs=>∃ x ys,xs=x::ys/\yd P n t x/\vK P n r ys
theorem aa0{H:Type}{enc:TypeId×Value->H}{P:Program}{w:World}{b0:Nat}{spare:Nat->Bool}{held:Bool}{n:Nat}{t:TypeId}{r:Reach}{base:Nat}{v:Value}{d:DataW H}{ps:List MemPlace}
 (hp:lD P n t=true) (h:Value.okWide P w r base t v) (ht:DataW.Trod enc P w b0 spare held t v d ps):∃ x,yd P n t x/\aY (lK w) x v:=by
 obtain⟨h1,h2,h3⟩:=Tf hp h
 obtain⟨fuel,hf⟩:=ht
 obtain⟨xs,k1,k2⟩:=yL n fuel t v.cells.toList _ hp (by simpa using h1) hf
 refine⟨np (gK P t) xs,⟨xs,k1,rfl⟩,?_⟩
 cases ha:gK P t with
 |true=>
  obtain⟨cs,rfl⟩:=h2 ha
  simp only[np,if_true]
  refine .agg xs cs (by simpa[Value.cells]using k2.len) k2.one fun i h h'=>?_
  have :=k2.rep i h (by simpa[Value.cells]using h')
  simpa[Value.cells]using this
 |false=>
  obtain⟨h4,h5⟩:=h3 ha
  have hl:xs.length=1:=by rw[k2.len];simp[h4]
  match xs,hl with
  |[x],_=>
   have :=k2.rep 0 (by simp) (by simp[h4])
   simp only[np,Bool.false_eq_true,if_false,List.getD_cons_zero]
   simpa[h4]using this
theorem OE{H:Type}{enc:TypeId×Value->H}{P:Program}{w:World}{b0:Nat}{spare:Nat->Bool}{held:Bool}{n:Nat}{r:Reach}{base:Nat}:∀ {ts:List TypeId} {vs:List Value} {ds:List (DataW H)} {ps:List MemPlace},
 (∀ t∈ts,lD P n t=true)->(∀ (j:Nat) t v,ts[j]?=some t->vs[j]?=some v->Value.okWide P w r base t v)->DataW.TrodAll enc P w b0 spare held ts vs ds ps->∃ xs,vK P n ts xs/\tI (lK w) xs vs
 |[],vs,ds,ps,_,_,h=>by
  cases vs with
  |nil=>exact⟨[],rfl,rfl,fun i h=>by simp at h⟩
  |cons=>cases ds<;>simp[DataW.TrodAll]at h
 |t::ts,[],ds,ps,_,_,h=>by cases ds<;>simp[DataW.TrodAll]at h
 |t::ts,v::vs,[],ps,_,_,h=>by simp[DataW.TrodAll]at h
 |t::ts,v::vs,d::ds,ps,hp,hv,h=>by
  obtain⟨p,q,h1,h2,_⟩:=h
  obtain⟨x,k1,k2⟩:=aa0 (hp t (by simp)) (hv 0 t v rfl rfl) h1
  obtain⟨ys,k3,k4,k5⟩:=OE (fun t ht=>hp t (by simp[ht])) (fun j t v h h'=>hv (j+1) t v (by simpa using h) (by simpa using h')) h2
  refine⟨x::ys,⟨x,ys,rfl,k1,k3⟩,by simp[k4],fun i hi bU=>?_⟩
  cases i with
  |zero=>exact k2
  |succ i=>exact k5 i (by simpa using hi) (by simpa using bU)
theorem OD{H:Type}{enc:TypeId×Value->H}{P:Program}(hl:laidOutB P=true){W W':World}(hb:Below W.heap.size W W'):∀ {ts:List TypeId} {vs:List Value} {ds:List (DataW H)} {ps:List MemPlace},
 (∀ t∈ts,P.readableRec t=true/\t<P.types.size)->DataW.TrodAll enc P W 0 (fun _=>true) true ts vs ds ps->(∀ x∈ps,x.block<W.heap.size)->DataW.TrodAll enc P W' 0 (fun b=>decide (b<W.heap.size)) true ts vs ds ps
 |[],vs,ds,ps,_,h,_=>by
  cases vs<;>cases ds<;>simp_all[DataW.TrodAll]
 |t::ts,[],ds,ps,_,h,_=>by cases ds<;>simp[DataW.TrodAll]at h
 |t::ts,v::vs,[],ps,_,h,_=>by simp[DataW.TrodAll]at h
 |t::ts,v::vs,d::ds,ps,hr,h,aa=>by
  obtain⟨p,q,h1,h2,rfl⟩:=h
  exact⟨p,q,Below.trod hl (hr t (by simp)).1 (hr t (by simp)).2 h1 hb (fun x hx=>aa x (by simp[hx])),
   OD hl hb (fun t ht=>hr t (by simp[ht])) h2 (fun x hx=>aa x (by simp[hx])),rfl⟩
theorem GO{H:Type}{enc:TypeId×Value->H}{P:Program}{w:World}{b0:Nat}{spare:Nat->Bool}{held:Bool}:∀ {ts:List TypeId} {vs:List Value} {ds:List (DataW H)} {ps:List MemPlace},DataW.TrodAll enc P w b0 spare held ts vs ds ps->ds.length=ts.length
 |[],vs,ds,ps,h=>by cases vs<;>cases ds<;>simp_all[DataW.TrodAll]
 |t::ts,[],ds,ps,h=>by cases ds<;>simp[DataW.TrodAll]at h
 |t::ts,v::vs,[],ps,h=>by simp[DataW.TrodAll]at h
 |t::ts,v::vs,d::ds,ps,h=>by
  obtain⟨p,q,_,h2,_⟩:=h
  simp[GO h2]
theorem Vi{H:Type}{enc:TypeId×Value->H}{C:Checked}{os:Os}{f:FuncId}{fn:Func}{s:ChangeSpec}{conds:List PathCond}{n:Nat}{tb:TypeId}
 (own:ownKnob C.prog.godebug=none) (started:os.Started) (Ty:C.prog.inits.idxOf? f=none) (fy:C.prog.funcs[f]?=some fn)
 (witness:∃ (w:World) (tape:Tape) (i:Input),w.os=os/\(w.forCall tape i).Shaped C.prog/\i.vars=[]/\Input.okWide C.prog (w.forCall tape i) .any w.heap.size f i/\
   s.pre6 enc C.prog fn conds false (w.forCall tape i).memory i.args/\({}:Assume).holds C.prog (lone (Frame.enter C.prog f i.args .normal) [] (w.forCall tape i)))
 (hl:laidOutB C.prog=true) (fO:∀ t∈fn.params.toList,lD C.prog n t=true/\C.prog.readableRec t=true/\t<C.prog.types.size) (zz:fn.resultTypes= #[tb]) (kj:C.prog.underlying tb=some .bool)
 (LF:s.vars=[]) (hs:∀ ds:List (DataW H),ds.length=fn.params.toList.length->(s.fn H ds).results=[.lit (.bool true)]/\(s.fn H ds).args=ds/\(s.fn H ds).vars=[])
 (xn:∀ (W:World) (args:Array Value) (xs:List V),vK C.prog n fn.params.toList xs->tI (lK W) xs args.toList->Calls C.prog f args W fun e W'=>e=.returned (.bool true)/\Below W.heap.size W W'):
 ReturnsInHanded {} C os f .any (s.pre6 enc C.prog fn conds false) (s.post enc C.prog fn false true false false):=by
 refine returnsInHanded_of_change own started Ty fy witness ?_
 intro W base args ds gs before dz hW _ _
 have EK:=hW
 obtain⟨p,q,hA,hV,rfl,_,_⟩:=hW
 rw[LF]at hV
 obtain⟨rfl,rfl⟩:=trodVars_none hV
 simp only[List.append_nil]at EK
 have aa:∀ y∈p,y.block<W.heap.size:=fun y hy=>by simpa using EK.lt y hy
 obtain⟨xs,h1,h2⟩:=OE (vs:=args.toList) (ts:=fn.params.toList) (fun t ht=>(fO t ht).1) (fun j t v h h'=>dz j t v (by simpa using h) (by simpa using h')) hA
 obtain⟨e1,e2,e3⟩:=hs ds (GO hA)
 refine(xn W args xs h1 h2).mono fun e W' ⟨he,hn⟩=>?_
 subst he
 refine⟨_,rfl,ds,[],p,[],p,[],EK,?_,?_,?_,hn.frame _,fun h=>by cases h⟩
 ·rw[List.append_nil,e1,zz]
  exact trodAll_mk1 (shut_bool kj _)
 ·rw[List.append_nil,e2]
  exact OD hl hn (fun t ht=>(fO t ht).2) hA aa
 ·rw[List.append_nil,e3,LF]
  rfl
open Go Go.Proofs Go.Proofs.YtepaolcgegdpoaaGreat Go.RowKit Go.ChangeShapes
theorem WK:ownKnob Tryz.prog.godebug=none:=by kernel_rfl
theorem WL:laidOutB Tryz.prog=true:=by kernel_rfl
end Go.Eng
set_option linter.constructorNameAsVariable false
set_option maxRecDepth 100000
namespace Go.Eng
open Go Go.Proofs
theorem eG{n:Nat}{xs:List V}(h:eo Tryz.prog (n+1) 3 xs):∃ k,xs=[vInt k]/\(Lit.int .i64 k).wf=true:=by
 unfold eo at h
 simp only[Tryz.underlying3]at h
 exact h
theorem abl:gK Tryz.prog 3=false:=by kernel_rfl
theorem Jk{α β:Type}{f:α->β}{P:β->Prop}(h:∀ y,P y->∃ x,y=f x):∀ {l:List β},(∀ y∈l,P y)->∃ m:List α,l=m.map f
 |[],_=>⟨[],rfl⟩
 |y::r,hl=>by
  obtain⟨x,rfl⟩:=h y (hl y (by simp))
  obtain⟨m,rfl⟩:=Jk h (l:=r) fun z hz=>hl z (by simp[hz])
  exact⟨x::m,rfl⟩
theorem vZ{n:Nat}{T e:TypeId}{xs:List V}{α:Type}{f:α->V}(hu:Tryz.prog.underlying T=some (.slice e))(h:eo Tryz.prog (n+1) T xs)
 (he:∀ ys,eo Tryz.prog n e ys->∃ a,np (gK Tryz.prog e) ys=f a):∃ l:List α,xs=[.sl (l.map f)]:=by
 unfold eo at h
 simp only[hu]at h
 obtain⟨ls,rfl,_,h3⟩:=h
 obtain⟨m,hm⟩:=Jk (f:=f) (P:=fun y=>∃ d,y=f d) (fun y h=>h) (l:=ls.map (np (gK Tryz.prog e))) fun y hy=>by
  obtain⟨z,hz,rfl⟩:=List.mem_map.1 hy
  exact he z (h3 z hz)
 exact⟨m,by rw[hm]⟩
theorem BQ{n:Nat}{xs:List V}(h:eo Tryz.prog (n+2) 32 xs):∃ l:List Int,xs=[.sl (l.map vInt)]:=
 vZ Tryz.underlying32 h fun ys hy=>by
  obtain⟨k,rfl,_⟩:=eG hy
  rw[abl]
  exact⟨k,rfl⟩
theorem Qs{n:Nat}{xs:List V}(h:eo Tryz.prog (n+2) 38 xs):∃ a b,xs=[vInt a,vInt b]:=by
 unfold eo at h
 simp only[Tryz.underlying38]at h
 obtain⟨x,y,rfl,h1,x2,y2,rfl,h2,rfl⟩:=h
 obtain⟨a,rfl,_⟩:=eG h1
 obtain⟨b,rfl,_⟩:=eG h2
 exact⟨a,b,rfl⟩
theorem Qq{n:Nat}{xs:List V}(h:eo Tryz.prog (n+2) 46 xs):∃ p:Pap,xs=[vInt p.id,vInt p.lv]:=by
 unfold eo at h
 simp only[Tryz.underlying46]at h
 obtain⟨x,y,rfl,h1,x2,y2,rfl,h2,rfl⟩:=h
 obtain⟨a,rfl,_⟩:=eG h1
 obtain⟨b,rfl,_⟩:=eG h2
 exact⟨⟨a,b⟩,rfl⟩
theorem Qt{n:Nat}{xs:List V}(h:eo Tryz.prog (n+3) 36 xs):∃ r:Rec,xs=[vInt r.so,vInt r.bo,vInt r.pa,.sl (r.lv.map vInt),vInt r.da,vInt r.kn,vInt r.un]:=by
 unfold eo at h
 simp only[Tryz.underlying36]at h
 obtain⟨x1,y,rfl,h1,x2,y2,rfl,h2,x3,y3,rfl,h3,x4,y4,rfl,h4,x5,y5,rfl,h5,x6,y6,rfl,h6,x7,y7,rfl,h7,rfl⟩:=h
 obtain⟨a,rfl,_⟩:=eG h1
 obtain⟨b,rfl,_⟩:=eG h2
 obtain⟨c,rfl,_⟩:=eG h3
 obtain⟨l,rfl⟩:=BQ h4
 obtain⟨d,rfl,_⟩:=eG h5
 obtain⟨e,rfl,_⟩:=eG h6
 obtain⟨f,rfl,_⟩:=eG h7
 exact⟨⟨a,b,c,l,d,e,f⟩,rfl⟩
theorem Qr{n:Nat}{xs:List V}(h:eo Tryz.prog (n+3) 40 xs):∃ r:Ret,xs=[vInt r.so,vInt r.re,vInt r.pe,.sl (r.lv.map vInt),vInt r.lo,vInt r.hi,vInt r.kn,vInt r.un]:=by
 unfold eo at h
 simp only[Tryz.underlying40]at h
 obtain⟨x1,y,rfl,h1,x2,y2,rfl,h2,x3,y3,rfl,h3,x4,y4,rfl,h4,x5,y5,rfl,h5,x6,y6,rfl,h6,x7,y7,rfl,h7,rfl⟩:=h
 obtain⟨a,rfl,_⟩:=eG h1
 obtain⟨b,rfl,_⟩:=eG h2
 obtain⟨c,rfl,_⟩:=eG h3
 obtain⟨l,rfl⟩:=BQ h4
 obtain⟨d,g,rfl⟩:=Qs h5
 obtain⟨e,rfl,_⟩:=eG h6
 obtain⟨f,rfl,_⟩:=eG h7
 exact⟨⟨a,b,c,l,d,g,e,f⟩,rfl⟩
theorem Qn{n:Nat}{xs:List V}(h:eo Tryz.prog (n+2) 81 xs):∃ s:Sig,xs=[vInt s.so,vInt s.pe,vInt s.pa,vInt s.le,vInt s.da,vInt s.kn,vInt s.un]:=by
 unfold eo at h
 simp only[Tryz.underlying81]at h
 obtain⟨x1,y,rfl,h1,x2,y2,rfl,h2,x3,y3,rfl,h3,x4,y4,rfl,h4,x5,y5,rfl,h5,x6,y6,rfl,h6,x7,y7,rfl,h7,rfl⟩:=h
 obtain⟨a,rfl,_⟩:=eG h1
 obtain⟨b,rfl,_⟩:=eG h2
 obtain⟨c,rfl,_⟩:=eG h3
 obtain⟨d,rfl,_⟩:=eG h4
 obtain⟨e,rfl,_⟩:=eG h5
 obtain⟨f,rfl,_⟩:=eG h6
 obtain⟨g,rfl,_⟩:=eG h7
 exact⟨⟨a,b,c,d,e,f,g⟩,rfl⟩
theorem abg:gK Tryz.prog 46=true:=by kernel_rfl
theorem abi:gK Tryz.prog 36=true:=by kernel_rfl
theorem abh:gK Tryz.prog 40=true:=by kernel_rfl
theorem abf:gK Tryz.prog 81=true:=by kernel_rfl
theorem abk:gK Tryz.prog 31=true:=by kernel_rfl
theorem abj:gK Tryz.prog 32=false:=by kernel_rfl
theorem Qu{n:Nat}{xs:List V}(h:eo Tryz.prog (n+5) 31 xs):∃ l:Led,.agg xs=dq l:=by
 unfold eo at h
 simp only[Tryz.underlying31]at h
 obtain⟨x1,y,rfl,h1,x2,y2,rfl,h2,x3,y3,rfl,h3,x4,y4,rfl,h4,rfl⟩:=h
 obtain⟨a,rfl⟩:=vZ (f:=fA) Tryz.underlying26 h1 fun ys hy=>by
  obtain⟨p,rfl⟩:=Qq hy
  rw[abg]
  exact⟨p,rfl⟩
 obtain⟨b,rfl⟩:=vZ (f:=encR) Tryz.underlying27 h2 fun ys hy=>by
  obtain⟨p,rfl⟩:=Qt hy
  rw[abi]
  exact⟨p,rfl⟩
 obtain⟨c,rfl⟩:=vZ (f:=encT) Tryz.underlying28 h3 fun ys hy=>by
  obtain⟨p,rfl⟩:=Qr hy
  rw[abh]
  exact⟨p,rfl⟩
 obtain⟨d,rfl⟩:=vZ (f:=encS) Tryz.underlying29 h4 fun ys hy=>by
  obtain⟨p,rfl⟩:=Qn hy
  rw[abf]
  exact⟨p,rfl⟩
 exact⟨⟨a,b,c,d⟩,rfl⟩
theorem aa3{x:V}(h:yd Tryz.prog 6 31 x):∃ l:Led,x=dq l:=by
 obtain⟨xs,h1,rfl⟩:=h
 rw[abk]
 exact Qu h1
theorem aa2{x:V}(h:yd Tryz.prog 6 32 x):∃ l:List Int,x=.sl (l.map vInt):=by
 obtain⟨xs,h1,rfl⟩:=h
 rw[abj]
 obtain⟨l,rfl⟩:=BQ h1
 exact⟨l,rfl⟩
theorem aaA{f:FuncId}{s:PSpec}(h:aL Tryz.prog f s){W:World}{args:Array Value}{xs:List V}(hr:tI (lK W) xs args.toList)(hp:s.pre xs)(ht:s.fn xs=.bool true):
 Calls Tryz.prog f args W fun e W'=>e=.returned (.bool true)/\RowKit.Below W.heap.size W W':=by
 refine(h.calls (lK W) W xs args (fun b off v hv=>hv) hr hp).mono ?_
 rintro e W' ⟨v,m',rfl,hb,_,_,hv⟩
 rw[ht]at hv
 cases hv
 exact⟨rfl,hb⟩
end Go.Eng
set_option linter.constructorNameAsVariable false
namespace Go.Eng
open Go Go.Proofs Go.Proofs.YtepaolcgegdpoaaGreat Go.RowKit Go.ChangeShapes
theorem UQ(hc:∀ (W:World) (args:Array Value) (xs:List V),vK Tryz.prog 6 Tryz.f8.params.toList xs->tI (lK W) xs args.toList->Calls Tryz.prog 8 args W fun e W'=>e=.returned (.bool true)/\Below W.heap.size W W')
 (os:Os) (started:os.Started) (H:Type) (enc:TypeId×Value->H):
 ReturnsInHanded {} Tryz.checked os 8 .any (Rows.loanPlacesSpec.pre6 enc Tryz.prog Tryz.f8 Rows.loanPlacesRow.domain false) (Rows.loanPlacesSpec.post enc Tryz.prog Tryz.f8 false true false false):=by
 refine Vi (C:=Tryz.checked) (n:=6) (tb:=4) WK started (by kernel_rfl) Tryz.func8
  (ChangeSpec.witness6 (enc:=enc) (C:=Tryz.checked) false ⟨#[],#[.agg #[.slice none 0 0,.slice none 0 0,.slice none 0 0,.slice none 0 0],.agg #[.int .i64 0,.int .i64 0,.int .i64 0,.int .i64 0,.int .i64 0,.int .i64 0],.slice none 0 0],[]⟩ 8 (by kernel_rfl) (by kernel_rfl) (by kernel_rfl) (by kernel_rfl))
  WL ?_ (by kernel_rfl) (by kernel_rfl) rfl ?_ hc
 ·have h:(Tryz.f8.params.toList.all fun t=>lD Tryz.prog 6 t&&Tryz.prog.readableRec t&&decide (t<Tryz.prog.types.size))=true:=by kernel_rfl
  intro t ht
  have :=List.all_eq_true.1 h t ht
  simp only[Bool.and_eq_true,decide_eq_true_eq]at this
  exact⟨this.1.1,this.1.2,this.2⟩
 ·intro ds oN
  have hl:Tryz.f8.params.toList.length=3:=by kernel_rfl
  rw[hl]at oN
  match ds,oN with
  |[d1,d2,d3],_=>exact⟨rfl,rfl,rfl⟩
theorem UP(hc:∀ (W:World) (args:Array Value) (xs:List V),vK Tryz.prog 6 Tryz.f8.params.toList xs->tI (lK W) xs args.toList->Calls Tryz.prog 8 args W fun e W'=>e=.returned (.bool true)/\Below W.heap.size W W'):
 Rows.LoanPlacesSaid:=
 OpenClaim.holds_of_wide 8 Tryz.f8 rfl rfl rfl rfl rfl rfl rfl ⟨rfl,rfl,rfl,rfl,rfl⟩ rfl rfl rfl rfl rfl (by kernel_rfl) Tryz.func8 (by kernel_rfl)
  (of_decide_eq_true (by kernel_rfl)) (by unfold Func.isWrapper;first | (rw[if_pos (by decide+kernel)];kernel_rfl) | (rw[if_neg (by decide+kernel)];exact⟨rfl,rfl⟩))
  (fun os started H enc _=>UQ hc os started H enc)
end Go.Eng
set_option maxRecDepth 100000
namespace Go.Eng
open Go Go.Proofs Go.Proofs.YtepaolcgegdpoaaGreat
theorem abm:gK Tryz.prog 64=true:=by kernel_rfl
theorem Qp{n:Nat}{xs:List V}(h:eo Tryz.prog (n+2) 56 xs):∃ a b,xs=[vInt a,vInt b]:=by
 unfold eo at h
 simp only[Tryz.underlying56]at h
 obtain⟨x,y,rfl,h1,x2,y2,rfl,h2,rfl⟩:=h
 obtain⟨a,rfl,_⟩:=eG h1
 obtain⟨b,rfl,_⟩:=eG h2
 exact⟨a,b,rfl⟩
theorem Qo{n:Nat}{xs:List V}(h:eo Tryz.prog (n+3) 64 xs):∃ x:Ask,.agg xs=Am x:=by
 unfold eo at h
 simp only[Tryz.underlying64]at h
 obtain⟨x1,y,rfl,h1,x2,y2,rfl,h2,x3,y3,rfl,h3,x4,y4,rfl,h4,x5,y5,rfl,h5,rfl⟩:=h
 obtain⟨a,rfl,_⟩:=eG h1
 obtain⟨b,rfl,_⟩:=eG h2
 obtain⟨c,d,rfl⟩:=Qp h3
 obtain⟨e,rfl,_⟩:=eG h4
 obtain⟨f,rfl,_⟩:=eG h5
 exact⟨⟨a,b,c,d,e,f⟩,rfl⟩
theorem aa1{x:V}(h:yd Tryz.prog 6 64 x):∃ o:Ask,x=Am o:=by
 obtain⟨xs,h1,rfl⟩:=h
 rw[abm]
 exact Qo h1
theorem loanPlaces_holds:Rows.LoanPlacesSaid:=
 UP fun W args xs ha hr=>by
  obtain⟨x,ys,rfl,h1,y,zs,rfl,h2,z,us,rfl,h3,rfl⟩:=(show vK Tryz.prog 6 [31,64,32] xs from ha)
  obtain⟨l,rfl⟩:=aa3 h1
  obtain⟨o,rfl⟩:=aa1 h2
  obtain⟨d,rfl⟩:=aa2 h3
  exact aaA s8 hr ⟨congrArg dq (ZY l),rfl,congrArg (fun m:List Int=>V.sl (m.map vInt)) (p9 d),trivial⟩ rfl
end Go.Eng
namespace Go.Proofs.YtepaolcgegdpoaaGreat
theorem loanPlaces_holds : Rows.LoanPlacesSaid := Go.Eng.loanPlaces_holds
end Go.Proofs.YtepaolcgegdpoaaGreat
#print axioms Go.Proofs.YtepaolcgegdpoaaGreat.loanPlaces_holds
