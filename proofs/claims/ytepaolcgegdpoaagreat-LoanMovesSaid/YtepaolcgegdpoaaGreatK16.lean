import Derived.Test.YtepaolcgegdpoaaGreatK15
import GoSem.ClaimChange
import Derived.DataReads
import Derived.ChangeReads
import Derived.ProofKit
import Derived.Carry
import Derived.Test.YtepaolcgegdpoaaGreatRows
import Derived.Test.YtepaolcgegdpoaaGreatChecked
/- LoanMoves is proved: just the folios that are told have another Where without a source, and a source of which nothing counts moves nothing, for every history that numbers describe, at all arguments that the statement covers. -/
set_option linter.all false
namespace Go.Eng
open Go Go.Proofs
theorem PI:aT Tryz.prog 18 ⟨fun xs=>xs=[],fun _=>.bool true,true⟩:=
 QL (b:=.bool true) T4 (by
  intro fn h
  have e:Tryz.prog.funcs[18]?=some Tryz.f18:=Tryz.func18
  rw[e]at h
  obtain rfl:=Option.some.inj h
  exact(by kernel_rfl:(Tryz.f18.name== "runtime.NumGoroutine")=false)) (by decide) rfl
set_option maxRecDepth 10000
noncomputable section
structure N3 where
 (a b c:Int)
 deriving Inhabited
def zk(x:N3):V:=.agg [vInt x.a,vInt x.b,vInt x.c]
def LH:V->N3
 | .agg [.int _ a,.int _ b,.int _ c]=>⟨a,b,c⟩
 |_=>default
def Ci:En N3:=⟨zk,LH⟩
attribute [go_sem] zk LH Ci
@[go_sem] theorem aeD(x:N3):(⟨x.a,x.b,x.c⟩:N3)=x:=rfl
def Nb:Spec:=(⟨fun xs=>xs=[],fun _=>.bool true,true⟩:PSpec).toSpec
attribute [go_sem] Nb
theorem QQ{l:Led}{i:Nat}(h:i<l.ps.length){j:Nat}(h1:1<=j)(h2:(j:Int)<=(l.ps[i]).lv):(⟨(l.ps[i]).id,(j:Int)⟩:Fol)∈cl l:=by
 unfold cl
 refine List.mem_flatMap.2 ⟨_,List.getElem_mem h,?_⟩
 unfold pf
 refine List.mem_map.2 ⟨j-1,List.mem_range.2 (by omega),?_⟩
 have :((j-1+1:Nat):Int)=j:=by omega
 rw[this]
attribute [local irreducible] cj kS aR nT
def K80:List (Nat×Spec):=[(19,ZM),(20,M9),(21,ZK),(22,M8),(23,ZJ),(24,EJ),(25,ZI),(26,ZH),(18,Nb)]
theorem aam:KS K80:=tc PA.sound<|tc F0.sound<|tc Px.sound<|tc Pw.sound<|tc Pv.sound<|tc Pu.sound<|tc Pt.sound<|tc Ps.sound<|tc PI.sound<|tn
attribute [go_sem] K80
@[go_sem] def P4:PSpec:=p2 vh Ci (fun _ _=>True) (fun _ _=>.bool true) true
@[go_sem] def S4:Spec:=P4.toSpec
set_option maxHeartbeats 4000000 in
theorem s4:aT Tryz.prog 4 P4:=by
 refine cV (rs:=[.tmp 4]) Tryz.func4 Tryz.ntmps4 fun r n hp hw=>?_
 have hP:=eE
 simp only[Ci,vh]at hw |-
 have hΓ:=aam
 have m3:=dS (n:=n.a) (m:=300) (by decide)
 have m2:=dS (n:=n.b) (m:=220) (by decide)
 have m24:=dS (n:=n.c) (m:=24) (by decide)
 have qQ:IntKind.i64.wrap (1+aR n.c 24)=1+aR n.c 24:=wrap_i64 (by omega) (by omega)
 have aa:bS (cj r):=by unfold cj;exact Hl r (Nat.min_le_right _ _)
 have gw:=GX aa
 have fU:=Ay aa (1+aR n.c 24)
 have b1:=aa.rsn
 have b2:=aa.tsn
 have b3:=aa.ssn
 have c1:=fU.rsn
 have c2:=fU.tsn
 have c3:=fU.ssn
 have vC:IntKind.i64.wrap (((aK (cj r) (1+aR n.c 24)).rs.length:Int)+(aK (cj r) (1+aR n.c 24)).ts.length)=((aK (cj r) (1+aR n.c 24)).rs.length:Int)+(aK (cj r) (1+aR n.c 24)).ts.length:=wrap_i64 (by omega) (by omega)
 have tv:IntKind.i64.wrap (((aK (cj r) (1+aR n.c 24)).rs.length:Int)+(aK (cj r) (1+aR n.c 24)).ts.length+(aK (cj r) (1+aR n.c 24)).ss.length)=((aK (cj r) (1+aR n.c 24)).rs.length:Int)+(aK (cj r) (1+aR n.c 24)).ts.length+(aK (cj r) (1+aR n.c 24)).ss.length:=wrap_i64 (by omega) (by omega)
 have vB:IntKind.i64.wrap (((cj r).rs.length:Int)+(cj r).ts.length)=((cj r).rs.length:Int)+(cj r).ts.length:=wrap_i64 (by omega) (by omega)
 have VS:IntKind.i64.wrap (((cj r).rs.length:Int)+(cj r).ts.length+(cj r).ss.length)=((cj r).rs.length:Int)+(cj r).ts.length+(cj r).ss.length:=wrap_i64 (by omega) (by omega)
 have hd:gn (cj r) [aR n.b 220,aR n.a 300]=0:=by
  rw[<-MG]
  unfold Ac
  rw[if_neg (by rw[uP.2 aa];decide),if_pos]
  rw[List.all_eq_true]
  intro d hd
  simp only[List.mem_cons,List.not_mem_nil,or_false]at hd
  unfold dayB
  rcases hd with rfl | rfl
  ·exact hU (by omega) (by omega)
  ·exact hU (by omega) (by omega)
 repeat refine sq ?_
 refine rx hΓ [2,3] [[2,0],[3,0]] (fun K' hK=>by simp only[go_sem];exact an) ?_
 repeat refine sq ?_
 refine rx hΓ [3,5] [[3,0],[5,0]] (fun K' hK=>by simp only[go_sem];exact an) ?_
 repeat refine sq ?_
 refine rx hΓ [3,5,7] [[3,0],[5,0]] (fun K' hK=>by simp only[go_sem,Int.cast_ofNat_Int,Int.reduceToNat,Int.toNat_zero,Int.toNat_one,Nat.reduceMul,Nat.zero_mul,Nat.one_mul,List.getD_cons_succ,List.getD_cons_zero];(repeat (refine⟨by first | exact ak | exact⟨by decide,by decide⟩,?_⟩));exact eX) ?_
 repeat refine sq ?_
 refine rx hΓ [3,5,7,8] [[3,0],[5,0]] (fun K' hK=>by simp only[go_sem,Int.cast_ofNat_Int,Int.reduceToNat,Int.toNat_zero,Int.toNat_one,Nat.reduceMul,Nat.zero_mul,Nat.one_mul,List.getD_cons_succ,List.getD_cons_zero];(repeat (refine⟨by first | exact ak | exact⟨by decide,by decide⟩,?_⟩));exact eX) ?_
 repeat refine sq ?_
 refine rx hΓ [5,7,8,9] [[5,0]] (fun K' hK=>by simp only[go_sem,Int.cast_ofNat_Int,Int.reduceToNat,Int.toNat_zero,Int.toNat_one,Nat.reduceMul,Nat.zero_mul,Nat.one_mul,List.getD_cons_succ,List.getD_cons_zero,qQ];(repeat (refine⟨by first | exact ak | exact⟨by decide,by decide⟩,?_⟩));exact eX) ?_
 repeat refine sq ?_
 refine rx hΓ [5,7,8,9,10,11] [[5,0]] (fun K' hK=>by simp only[go_sem];exact an) ?_
 repeat refine sq ?_
 refine rx hΓ [5,7,8,9,10,11,12] [[5,0],[12,0]] (fun K' hK=>by simp only[go_sem];(repeat (refine⟨by first | exact ak | exact gw,?_⟩));exact eX) ?_
 repeat refine sq ?_
 refine rx hΓ [5,7,8,9,10,11,12,13] [[5,0],[12,0]] (fun K' hK=>by simp only[go_sem,vC,tv,vB,VS,List.length_map];exact an) ?_
 repeat refine sq ?_
 refine rx hΓ [5,7,8,9,10,11,12,71] [[5,0],[12,0]] (fun K' hK=>by simp only[go_sem];exact an) ?_
 repeat refine sq ?_
 refine ax (fun hb=>?_) fun hb=>?_
 ·repeat refine sq ?_
  have hn:¬ hasB (cj r) (1+aR n.c 24)=true:=fun h=>by
   have :=(Ky _ _).2 h
   simp at hb
   omega
  have he:jO (cj r) (1+aR n.c 24) (aR n.b 220) (aR n.a 300)=3:=by unfold jO;rw[if_pos hd,if_neg hn]
  repeat refine sq ?_
  refine rx hΓ [4] [] (fun K' hK=>by simp only[go_sem,he];exact an) ?_
  refine av ?_
  simp only[go_sem]
  first | done | rfl
 ·repeat refine sq ?_
  have hh:hasB (cj r) (1+aR n.c 24)=true:=by
   refine(Ky _ _).1 ?_
   simp at hb
   omega
  have he:jO (cj r) (1+aR n.c 24) (aR n.b 220) (aR n.a 300)=0:=by unfold jO;rw[if_pos hd,if_pos hh]
  have pM:=aa.psn
  have hl:(cj r).ps.length<=maxLen:=by unfold maxLen;omega
  refine aC ?_
  repeat refine sq ?_
  refine rx hΓ [5,7,8,9,10,11,12,14] [[5,0],[12,0]] (fun K' hK=>by simp only[go_sem];exact an) ?_
  repeat refine sq ?_
  refine aI ?_
  repeat refine sq ?_
  refine bT (fun s:Nat=>[(14,⟨true,.v (vInt s)⟩)]) (fun s=>[]) (fun s=>s<=(cj r).ps.length) (fun s=>(cj r).ps.length-s) 0 ?_ ?_ ?_ ?_
  ·exact Nat.zero_le _
  ·rfl
  ·rfl
  rintro i hi
  simp only[go_sem]
  repeat refine sq ?_
  refine rx hΓ [5,7,8,9,10,11,12,14,81] [[5,0],[12,0]] (fun K' hK=>by simp only[go_sem];exact an) ?_
  repeat refine sq ?_
  refine ax (fun hb=>?_) fun hb=>?_
  ·have ab:i<(cj r).ps.length:=by simpa using hb
   have ao:(i:Int)<(cj r).ps.length:=by omega
   clear hb
   have hv:=lN aa.ps ab
   have aer:(cj r).ps[i].lv<=30/\1<=(cj r).ps[i].lv:=by unfold lr b7 at hv;simp only[Bool.and_eq_true,decide_eq_true_eq]at hv;omega
   have Cq:(cj r).ps[i].lv.toNat+1<=maxLen:=by unfold maxLen;omega
   repeat refine sq ?_
   refine aC ?_
   repeat refine sq ?_
   refine aI ?_
   repeat refine sq ?_
   refine rx hΓ [5,7,8,9,10,11,12,14,15] [[5,0],[12,0]] (fun K' hK=>by simp only[go_sem,ah ab,ai,aj,ao];exact an) ?_
   repeat refine sq ?_
   refine aI ?_
   repeat refine sq ?_
   refine bT (fun s:Nat=>[(15,⟨true,.v (vInt s)⟩)]) (fun s=>[]) (fun s=>s<=((cj r).ps[i].lv.toNat+1)/\1<=s) (fun s=>((cj r).ps[i].lv.toNat+1)-s) 1 ?_ ?_ ?_ ?_
   ·exact⟨by omega,Nat.le_refl 1⟩
   ·rfl
   ·rfl
   rintro i1 ⟨hi,hR⟩
   simp only[go_sem]
   repeat refine sq ?_
   refine rx hΓ [5,7,8,9,10,11,12,14,15,91] [[5,0],[12,0]] (fun K' hK=>by simp only[go_sem,ah ab,ai,aj,ao,ah ab,ao,ai,aj,List.length_map];exact an) ?_
   repeat refine sq ?_
   refine ax (fun hb=>?_) fun hb=>?_
   ·repeat refine sq ?_
    have hle:(i1:Int)<=(cj r).ps[i].lv:=by simpa using hb
    have aJ:i1<(cj r).ps[i].lv.toNat+1:=by omega
    have hF:=Sk hd (QQ ab hR hle) hh
    refine aC ?_
    repeat refine sq ?_
    refine aI ?_
    repeat refine sq ?_
    refine rx hΓ [5,7,8,9,10,11,12,14,15,16] [[5,0],[12,0],[16,0]] (fun K' hK=>by simp only[go_sem,ah ab,ai,aj,ao,ah ab,ao,ai,aj,List.length_map];exact an) ?_
    repeat refine sq ?_
    refine rx hΓ [5,7,8,9,10,11,12,14,15,16,17,18] [[5,0],[12,0],[16,0]] (fun K' hK=>by simp only[go_sem,ah ab,ai,aj,ao,w5];exact an) ?_
    repeat refine sq ?_
    refine rx hΓ [5,7,8,9,10,11,12,14,15,16,17,18,19,20] [[5,0],[12,0],[16,0]] (fun K' hK=>by simp only[go_sem,ah ab,ai,aj,ao,w5];exact an) ?_
    repeat refine sq ?_
    refine dx hΓ hP [[],[0],[0,1],[0,1,2],[0,1,2],u5,u6,u7,u8,u8,dq,fm,[0,1,2],[0,1,2],[0,1,2,3,4,5,6,7,12,13],pb,u16] [5,7,8,9,10,11,12,14,15,134] [[5,0],[12,0]] (by kernel_rfl) (fun K' hK=>by simp only[go_sem,ah ab,ai,aj,ao,he,hF,bne_self_eq_false];exact oT) ?_
    repeat refine sq ?_
    refine ax (fun hb=>?_) fun hb=>?_
    ·cases hb
    ·repeat refine sq ?_
     refine aC ?_
     refine bA ?_
     simp only[go_sem]
     refine kp [5,7,8,9,10,11,12,14,15] [[5,0],[12,0]] ?_
     repeat refine sq ?_
     refine aS hΓ fun K' hK=>?_
     simp only[go_sem,ah ab,ai,aj,ao]
     repeat (refine⟨ak,?_⟩)
     refine hK _ ?_
     clear K' hK
     simp only[go_sem]
     refine⟨i1+1,⟨aJ,?_⟩,by(show ((cj r).ps[i].lv.toNat+1)-(i1+1)<((cj r).ps[i].lv.toNat+1)-i1;omega),?_⟩
     ·omega
     refine bd [5,7,8,9,10,11,12,14,15] [[5,0],[12,0]] ?_ ?_<;>simp only[go_sem,aV aJ Cq,aY,he]
   ·repeat refine sq ?_
    clear hb
    refine bC ?_
    simp only[go_sem]
    refine kp [5,7,8,9,10,11,12,14] [[5,0],[12,0]] ?_
    repeat refine sq ?_
    refine aS hΓ fun K' hK=>?_
    simp only[go_sem,ah ab,ai,aj,ao]
    repeat (refine⟨ak,?_⟩)
    refine hK _ ?_
    clear K' hK
    simp only[go_sem]
    refine⟨i+1,ab,by(show (cj r).ps.length-(i+1)<(cj r).ps.length-i;omega),?_⟩
    refine bd [5,7,8,9,10,11,12,14] [[5,0],[12,0]] ?_ ?_<;>simp only[go_sem,aV ab hl,aY,he]
  ·have bj:i=(cj r).ps.length:=by
    have :¬ (i:Int)<(cj r).ps.length:=by simpa using hb
    omega
   clear hb
   subst bj
   repeat refine sq ?_
   refine bC ?_
   simp only[go_sem]
   refine kp [5,7,9,10] [[5,0]] ?_
   by_cases oH:kg (cj r) (1+aR n.c 24)<=aR n.a 300
   ·have nz:=decide_eq_true oH
    repeat refine sq ?_
    refine rx hΓ [4] [] (fun K' hK=>by simp only[go_sem,nz];(repeat (refine⟨by first | exact ak | exact⟨b1,b2,b3⟩,?_⟩));exact eX) ?_
    refine av ?_
    simp only[go_sem]
    first | done | rfl
   ·have nz:=decide_eq_false oH
    have VX:=Sj (day:=aR n.b 220) aa hh oH
    repeat refine sq ?_
    refine rx hΓ [4] [] (fun K' hK=>by simp only[go_sem,nz,VX,List.map_nil,List.length_nil];(repeat (refine⟨by first | exact ak | exact⟨b1,b2,b3⟩,?_⟩));exact eX) ?_
    refine av ?_
    simp only[go_sem]
    first | done | rfl
theorem k4:aF Tryz.prog 4 S4:=s4.sound
end
open Go
def iD(P:Program)(t:TypeId):Bool:=match P.underlying t with | some (.struct _)=>true | some (.array _ _)=>true | _=>false
def mc(ag:Bool)(xs:List V):V:=if ag then .agg xs else xs.getD 0 default
def mX(P:Program):List Field->Nat->Nat->Bool
 |[],off,tot=>off==tot
 |f::r,off,tot=>f.offset==off&&mX P r (off+P.cellsOf f.type) tot
def ky(P:Program):Nat->TypeId->Bool
 | 0,_=>false
 |n+1,t=>match P.underlying t with
  |some .bool=>P.cellsOf t==1
  |some (.int _)=>P.cellsOf t==1
  |some .string=>P.cellsOf t==1
  |some (.slice e)=>P.cellsOf t==1&&ky P n e&&decide (0<P.cellsOf e)&&(iD P e||P.cellsOf e==1)
  |some (.struct fs)=>mX P fs.toList 0 (P.cellsOf t)&&fs.toList.all fun f=>ky P n f.type
  |some (.array m e)=>P.cellsOf t==m*P.cellsOf e&&ky P n e
  |_=>false
def wP(S:TypeId->List V->Prop):List TypeId->List V->Prop
 |[],xs=>xs=[]
 |t::r,xs=>∃ a b,xs=a++b/\S t a/\wP S r b
def eZ(P:Program):Nat->TypeId->List V->Prop
 | 0,_,_=>False
 |n+1,t,xs=>match P.underlying t with
  |some .bool=>∃ b,xs=[.bool b]
  |some (.int k)=>∃ z,xs=[.int k z]/\(Lit.int k z).wf=true
  |some .string=>∃ s,xs=[.str s]/\s.size<=maxLen
  |some (.slice e)=>∃ ls:List (List V),xs=[.sl (ls.map (mc (iD P e)))]/\ls.length<=maxLen/\∀ y∈ls,eZ P n e y
  |some (.struct fs)=>wP (eZ P n) (fs.toList.map (·.type)) xs
  |some (.array m e)=>wP (eZ P n) (List.replicate m e) xs
  |_=>False
structure iG (m:Mem) (xs:List V) (cs:List Value):Prop where
 len:xs.length=cs.length
 rep:∀ i (h:i<xs.length) (h':i<cs.length),aP m xs[i] cs[i]
 one:∀ x∈xs,x.one=true
theorem iG.nil(m:Mem):iG m [] []:=⟨rfl,fun i h=>by simp at h,fun x h=>by simp at h⟩
theorem iG.append{m:Mem}{xs ys:List V}{cs ds:List Value}(h:iG m xs cs)(k:iG m ys ds):iG m (xs++ys) (cs++ds):=by
 refine⟨by simp[h.len,k.len],fun i h1 h2=>?_,fun x hx=>?_⟩
 ·by_cases hi:i<xs.length
  ·rw[List.getElem_append_left hi,List.getElem_append_left (by rw[<-h.len];exact hi)]
   exact h.rep i hi _
  ·have hl:=h.len
   have e:i-xs.length=i-cs.length:=by rw[hl]
   rw[List.getElem_append_right (by omega),List.getElem_append_right (by omega)]
   simp only[List.length_append]at h1 h2
   have :=k.rep (i-xs.length) (by omega) (by rw[<-k.len];omega)
   simp only[e]at this |-
   exact this
 ·rcases List.mem_append.1 hx with hx | hx
  ·exact h.one x hx
  ·exact k.one x hx
theorem iG.single{m:Mem}{x:V}{u:Value}(h:aP m x u)(ho:x.one=true):iG m [x] [u]:=
 ⟨rfl,fun i h1 h2=>by simp at h1;subst h1;exact h,fun y hy=>by simp at hy;subst hy;exact ho⟩
theorem mapM_some{α β:Type}{f:α->Option β}:∀ {l:List α} {r:List β},l.mapM f=some r->r.length=l.length/\∀ i (h:i<l.length) (h':i<r.length),f l[i]=some r[i]
 |[],r,h=>by
  simp only[List.mapM_nil]at h
  cases h
  exact⟨rfl,fun i h=>by simp at h⟩
 |a::l,r,h=>by
  simp only[List.mapM_cons,Option.bind_eq_bind,Option.bind_eq_some_iff]at h
  obtain⟨b,hb,bs,yY,hr⟩:=h
  cases hr
  obtain⟨h1,h2⟩:=mapM_some yY
  refine⟨by simp[h1],fun i hi bE=>?_⟩
  cases i with
  |zero=>exact hb
  |succ i=>exact h2 i (by simpa using hi) (by simpa using bE)
theorem Fo{P:Program}:∀ {fs:List Field} {off tot:Nat},mX P fs off tot=true->off<=tot
 |[],off,tot,h=>by simp[mX]at h;omega
 |f::r,off,tot,h=>by
  simp only[mX,Bool.and_eq_true]at h
  have :=Fo h.2
  omega
theorem Ll{P:Program}{m:Mem}{S:TypeId->List V->Prop}{cs:List Value}:∀ {fs:List Field} {off:Nat},mX P fs off cs.length=true->
 (∀ f∈fs,∃ xs,S f.type xs/\iG m xs ((cs.drop f.offset).take (P.cellsOf f.type)))->∃ xs,wP S (fs.map (·.type)) xs/\iG m xs (cs.drop off)
 |[],off,h,_=>by
  simp[mX]at h
  subst h
  exact⟨[],rfl,by simpa using iG.nil m⟩
 |f::r,off,h,hf=>by
  simp only[mX,Bool.and_eq_true,beq_iff_eq]at h
  obtain⟨h1,h2⟩:=h
  obtain⟨a,ha,CA⟩:=hf f (by simp)
  obtain⟨b,hb,vA⟩:=Ll h2 fun g hg=>hf g (by simp[hg])
  refine⟨a++b,⟨a,b,rfl,ha,hb⟩,?_⟩
  have e:cs.drop off=(cs.drop f.offset).take (P.cellsOf f.type)++cs.drop (off+P.cellsOf f.type):=by
   rw[h1,<-List.drop_drop,List.take_append_drop]
  rw[e]
  exact CA.append vA
theorem MI{m:Mem}{S:TypeId->List V->Prop}{e:TypeId}{k:Nat}{cs:List Value}:∀ (n off:Nat),cs.length=(off+n)*k->
 (∀ i,i<off+n->∃ xs,S e xs/\iG m xs ((cs.drop (i*k)).take k))->∃ xs,wP S (List.replicate n e) xs/\iG m xs (cs.drop (off*k))
 | 0,off,h,_=>by
   have :cs.drop (off*k)=[]:=List.drop_eq_nil_of_le (by rw[h];simp)
   rw[this]
   exact⟨[],rfl,iG.nil m⟩
 |n+1,off,h,hf=>by
  obtain⟨a,ha,CA⟩:=hf off (by omega)
  obtain⟨b,hb,vA⟩:=MI n (off+1) (by rw[h];congr 1;omega) fun i hi=>hf i (by omega)
  refine⟨a++b,⟨a,b,rfl,ha,hb⟩,?_⟩
  have e:cs.drop (off*k)=(cs.drop (off*k)).take k++cs.drop ((off+1)*k):=by
   rw[Nat.succ_mul,<-List.drop_drop,List.take_append_drop]
  rw[e]
  exact CA.append vA
theorem QV{ag:Bool}{xs:List V}(h:ag=true\/xs.length=1)(ho:∀ x∈xs,x.one=true):(mc ag xs).cells=xs:=by
 cases ag with
 |true=>rfl
 |false=>
  rcases h with h | h
  ·cases h
  match xs,h with
  |[x],_=>
   have :=ho x (by simp)
   show x.cells=[x]
   cases x<;>first | rfl | (simp[V.one]at this)
def kF(w:World):Mem:=fun b off=>w.cell? ⟨b,off,none⟩
theorem MO{a:Addr}(h:a.spot=none)(n:Nat):a.add n=⟨a.block,a.off+n,none⟩:=by
 obtain⟨b,o,s⟩:=a
 simp only at h
 subst h
 unfold Addr.add
 split
 ·rename_i e;subst e;rfl
 ·rfl
theorem xv{H:Type}{enc:TypeId×Value->H}{P:Program}{w:World}{base:Nat}{spare:Nat->Bool}{held:Bool}:
 ∀ (n fuel:Nat) (t:TypeId) (cs:List Value) (r:DataW H×List MemPlace),ky P n t=true->cs.length=P.cellsOf t->DataW.trod enc P w base spare held fuel t cs=some r->∃ xs,eZ P n t xs/\iG (kF w) xs cs
 | 0,_,_,_,_,h,_,_=>by simp[ky]at h
 |n+1,0,_,_,_,_,_,h=>by simp[DataW.trod]at h
 |n+1,fuel+1,t,cs,r,hp,hlen,h=>by
  rw[DataW.trod_step]at h
  unfold DataW.trodStep at h
  unfold ky at hp
  unfold eZ
  rcases hu:P.underlying t with _ | u
  ·rw[hu]at hp;simp at hp
  rw[hu]at hp h
  cases u with
  |bool=>
   have hb:∃ b,cs=[.bool b]:=by
    simp only at h
    split at h<;>simp_all
   obtain⟨b,rfl⟩:=hb
   exact⟨_,⟨b,rfl⟩,.single (.bool _) rfl⟩
  |int k=>
   simp only at hp h |-
   split at h<;>simp_all
   obtain⟨⟨rfl,h1⟩,_⟩:=h
   exact⟨_,⟨_,rfl,h1⟩,.single (.int _ _) rfl⟩
  |string=>
   simp only at hp h |-
   split at h<;>simp_all
   obtain⟨h1,_⟩:=h
   exact⟨_,⟨_,rfl,h1⟩,.single (.str _ h1) rfl⟩
  |slice e=>
   simp only[Bool.and_eq_true,decide_eq_true_eq,Bool.or_eq_true,beq_iff_eq]at hp |-
   obtain⟨⟨⟨_,yz⟩,cL⟩,W2⟩:=hp
   split at h<;>simp_all
   ·exact⟨_,⟨[],rfl,Nat.zero_le _,by simp⟩,.single (.slnil _ _) rfl⟩
   ·rename_i e' a len cap _ _
    obtain⟨⟨hb,V8,hcm⟩,h⟩:=h
    simp only[Option.bind_eq_some_iff]at h
    obtain⟨elems,De,_⟩:=h
    obtain⟨l1,l2⟩:=mapM_some De
    simp only[List.length_range]at l1
    have hx:∀ i,i<len->∃ xs cells,w.cells? base (a.add (i*P.cellsOf e')) (P.cellsOf e')=some cells/\eZ P n e' xs/\iG (kF w) xs cells:=by
     intro i hi
     have h3:=l2 i (by simpa using hi) (by omega)
     simp only[List.getElem_range,Option.bind_eq_some_iff]at h3
     obtain⟨cells,h4,h5⟩:=h3
     obtain⟨xs,h6,h7⟩:=xv n fuel _ _ _ yz (World.cells?_some h4).2.1 h5
     exact⟨xs,cells,h4,h6,h7⟩
    rcases Nat.eq_zero_or_pos len with hz | VT
    ·subst hz
     exact⟨[.sl []],⟨[],rfl,Nat.zero_le _,by simp⟩,.single (.slnil _ _) rfl⟩
    have Cu:a.spot=none:=by
     obtain⟨xs,cells,h4,_⟩:=hx 0 VT
     have h8:=(World.cells?_some h4).2.2 0 cL
     have h9:=(World.cells?_some h4).2.1
     have oQ:w.cell? ((a.add (0*P.cellsOf e')).add 0)=some (cells[0]'(by omega)):=by rw[h8];exact List.getElem?_eq_getElem (by omega)
     simpa[Addr.add]using World.cell?_spot oQ
    let X:Nat->List V:=fun i=>if h:i<len then Classical.choose (hx i h)else[]
    let C:Nat->List Value:=fun i=>(w.cells? base (a.add (i*P.cellsOf e')) (P.cellsOf e')).getD []
    have hX:∀ i,i<len->eZ P n e' (X i)/\iG (kF w) (X i) (C i)/\(C i).length=P.cellsOf e'/\∀ j,j<P.cellsOf e'->w.cell? ⟨a.block,a.off+i*P.cellsOf e'+j,none⟩=(C i)[j]?:=by
     intro i hi
     obtain⟨cells,h4,h6,h7⟩:=Classical.choose_spec (hx i hi)
     have e1:X i=Classical.choose (hx i hi):=dif_pos hi
     have e2:C i=cells:=by show (w.cells? _ _ _).getD []=cells;rw[h4];rfl
     rw[e1,e2]
     refine⟨h6,h7,(World.cells?_some h4).2.1,fun j hj=>?_⟩
     have h8:=(World.cells?_some h4).2.2 j hj
     rw[MO Cu,MO rfl]at h8
     exact h8
    have rz:∀ i,i<len->(mc (iD P e') (X i)).cells=X i:=fun i hi=>by
     obtain⟨h1,h2,h3,_⟩:=hX i hi
     refine QV ?_ h2.one
     rcases W2 with h | h
     ·exact .inl h
     ·exact .inr (by rw[h2.len,h3,h])
    refine⟨[.sl (((List.range len).map X).map (mc (iD P e')))],⟨(List.range len).map X,rfl,by simp;omega,fun y hy=>?_⟩,.single ?_ rfl⟩
    ·simp only[List.mem_map,List.mem_range]at hy
     obtain⟨i,hi,rfl⟩:=hy
     exact(hX i hi).1
    ·obtain⟨b,o,s⟩:=a
     simp only at Cu hX
     subst Cu
     have key:=aP.sl (m:=kF w) (((List.range len).map X).map (mc (iD P e'))) b o cap (P.cellsOf e') (fun i j=>((C i)[j]?).getD undef) (by
         intro h;have:=congrArg List.length h;simp at this;omega) (by simp;omega) (by simpa using V8)
      (fun i hi=>by
        have bE:i<len:=by simpa using hi
        obtain⟨h1,h2,h3,_⟩:=hX i bE
        simp only[List.getElem_map,List.getElem_range]
        rw[rz i bE,h2.len,h3])
      (fun i j hi hj=>by
        have bE:i<len:=by simpa using hi
        obtain⟨h1,h2,h3,h4⟩:=hX i bE
        show w.cell? _=_
        rw[h4 j hj,List.getElem?_eq_getElem (by omega)]
        rfl)
      (fun i j hi hj=>by
        have bE:i<len:=by simpa using hi
        obtain⟨h1,h2,h3,h4⟩:=hX i bE
        simp only[List.getElem_map,List.getElem_range,rz i bE]at hj |-
        have dL:j<(C i).length:=by rw[<-h2.len];exact hj
        rw[List.getElem?_eq_getElem dL]
        exact h2.rep j hj dL)
      (fun i hi x hx=>by
        have bE:i<len:=by simpa using hi
        simp only[List.getElem_map,List.getElem_range,rz i bE]at hx
        exact(hX i bE).2.1.one x hx)
     simpa using key
  |struct fs=>
   simp only[Bool.and_eq_true,List.all_eq_true]at hp h |-
   obtain⟨ht,dE⟩:=hp
   rw[if_pos hlen]at h
   simp only[Option.map_eq_some_iff]at h
   obtain⟨ys,Cl,_⟩:=h
   obtain⟨l1,l2⟩:=mapM_some Cl
   have :=Ll (m:=kF w) (S:=eZ P n) (cs:=cs) (fs:=fs.toList) (off:=0) (by rw[hlen];exact ht) fun f hf=>by
    obtain⟨i,hi,rfl⟩:=List.mem_iff_getElem.1 hf
    have h3:=l2 i hi (by omega)
    have hle:P.cellsOf fs.toList[i].type<=(cs.drop fs.toList[i].offset).length:=by
     have key:∀ (l:List Field) (off tot:Nat),mX P l off tot=true->∀ f∈l,f.offset+P.cellsOf f.type<=tot:=by
      intro l
      induction l with
      |nil=>intro _ _ _ f hf;simp at hf
      |cons g r ih=>
       intro off tot h f hf
       simp only[mX,Bool.and_eq_true,beq_iff_eq]at h
       rcases List.mem_cons.1 hf with rfl | hf
       ·have:=Fo h.2;omega
       ·exact ih _ _ h.2 f hf
     have :=key _ _ _ ht _ hf
     simp only[List.length_drop]
     omega
    exact xv n fuel _ _ _ (dE _ hf) (by rw[List.length_take];omega) h3
   simpa using this
  |array m e=>
   simp only[Bool.and_eq_true,beq_iff_eq]at hp h |-
   obtain⟨ht,yz⟩:=hp
   rw[if_pos hlen]at h
   simp only[Option.map_eq_some_iff]at h
   obtain⟨ys,Cl,_⟩:=h
   obtain⟨l1,l2⟩:=mapM_some Cl
   have :=MI (m:=kF w) (S:=eZ P n) (e:=e) (k:=P.cellsOf e) (cs:=cs) m 0 (by rw[hlen,ht];simp) fun i hi=>by
    have bE:i<m:=by omega
    have h3:=l2 i (by simpa using bE) (by rw[l1];simpa using bE)
    simp only[List.getElem_range]at h3
    have hle:i*P.cellsOf e+P.cellsOf e<=cs.length:=by
     rw[hlen,ht,<-Nat.succ_mul];exact Nat.mul_le_mul_right _ bE
    exact xv n fuel _ _ _ yz (by rw[List.length_take,List.length_drop];omega) h3
   simpa using this
  |_=>simp at hp
open Go Go.RowKit Go.ChangeShapes Go.WideShapes Go.ChangeAt
theorem Q8{P:Program}{n:Nat}{t:TypeId}{W:World}{r:Reach}{base:Nat}{v:Value}(hp:ky P n t=true)(h:Value.okWide P W r base t v):
 v.cells.size=P.cellsOf t/\(iD P t=true->∃ cs,v=.agg cs)/\(iD P t=false->v.cells= #[v]/\P.cellsOf t=1):=by
 cases n with
 |zero=>simp[ky]at hp
 |succ n=>
  unfold ky at hp
  unfold iD
  rcases hu:P.underlying t with _ | u
  ·rw[hu]at hp;simp at hp
  rw[hu]at hp
  cases u with
  |bool=>
   obtain⟨b,rfl⟩:=okWide_bool hu h
   simp only[beq_iff_eq]at hp
   exact⟨by simp[Value.cells,hp],by simp,fun _=>⟨rfl,hp⟩⟩
  |int k=>
   obtain⟨b,rfl⟩:=okWide_int hu h
   simp only[beq_iff_eq]at hp
   exact⟨by simp[Value.cells,hp],by simp,fun _=>⟨rfl,hp⟩⟩
  |string=>
   obtain⟨b,rfl⟩:=okWide_string hu h
   simp only[beq_iff_eq]at hp
   exact⟨by simp[Value.cells,hp],by simp,fun _=>⟨rfl,hp⟩⟩
  |slice e=>
   obtain⟨a,len,cap,rfl⟩:=okWide_slice hu h
   simp only[Bool.and_eq_true,beq_iff_eq]at hp
   exact⟨by simp[Value.cells,hp.1.1.1],by simp,fun _=>⟨rfl,hp.1.1.1⟩⟩
  |struct fs=>
   simp only[Value.okWide,hu]at h
   obtain⟨cs,rfl,h2,_⟩:=h
   exact⟨h2,fun _=>⟨cs,rfl⟩,fun h=>by simp at h⟩
  |array m e=>
   simp only[Value.okWide,hu]at h
   obtain⟨cs,rfl,h2,_⟩:=h
   exact⟨h2,fun _=>⟨cs,rfl⟩,fun h=>by simp at h⟩
  |_=>simp at hp
def Aw(P:Program)(n:Nat)(t:TypeId)(x:V):Prop:=∃ xs,eZ P n t xs/\x=mc (iD P t) xs
def uu(P:Program)(n:Nat):List TypeId->List V->Prop
 |[],xs=>xs=[]
 |t::r,xs=>∃ x ys,xs=x::ys/\Aw P n t x/\uu P n r ys
theorem Zb{H:Type}{enc:TypeId×Value->H}{P:Program}{w:World}{b0:Nat}{spare:Nat->Bool}{held:Bool}{n:Nat}{t:TypeId}{r:Reach}{base:Nat}{v:Value}{d:DataW H}{ps:List MemPlace}
 (hp:ky P n t=true) (h:Value.okWide P w r base t v) (ht:DataW.Trod enc P w b0 spare held t v d ps):∃ x,Aw P n t x/\aP (kF w) x v:=by
 obtain⟨h1,h2,h3⟩:=Q8 hp h
 obtain⟨fuel,hf⟩:=ht
 obtain⟨xs,k1,k2⟩:=xv n fuel t v.cells.toList _ hp (by simpa using h1) hf
 refine⟨mc (iD P t) xs,⟨xs,k1,rfl⟩,?_⟩
 cases ha:iD P t with
 |true=>
  obtain⟨cs,rfl⟩:=h2 ha
  simp only[mc,if_true]
  refine .agg xs cs (by simpa[Value.cells]using k2.len) k2.one fun i h h'=>?_
  have :=k2.rep i h (by simpa[Value.cells]using h')
  simpa[Value.cells]using this
 |false=>
  obtain⟨h4,h5⟩:=h3 ha
  have hl:xs.length=1:=by rw[k2.len];simp[h4]
  match xs,hl with
  |[x],_=>
   have :=k2.rep 0 (by simp) (by simp[h4])
   simp only[mc,Bool.false_eq_true,if_false,List.getD_cons_zero]
   simpa[h4]using this
theorem MK{H:Type}{enc:TypeId×Value->H}{P:Program}{w:World}{b0:Nat}{spare:Nat->Bool}{held:Bool}{n:Nat}{r:Reach}{base:Nat}:∀ {ts:List TypeId} {vs:List Value} {ds:List (DataW H)} {ps:List MemPlace},
 (∀ t∈ts,ky P n t=true)->(∀ (j:Nat) t v,ts[j]?=some t->vs[j]?=some v->Value.okWide P w r base t v)->DataW.TrodAll enc P w b0 spare held ts vs ds ps->∃ xs,uu P n ts xs/\sh (kF w) xs vs
 |[],vs,ds,ps,_,_,h=>by
  cases vs with
  |nil=>exact⟨[],rfl,rfl,fun i h=>by simp at h⟩
  |cons=>cases ds<;>simp[DataW.TrodAll]at h
 |t::ts,[],ds,ps,_,_,h=>by cases ds<;>simp[DataW.TrodAll]at h
 |t::ts,v::vs,[],ps,_,_,h=>by simp[DataW.TrodAll]at h
 |t::ts,v::vs,d::ds,ps,hp,hv,h=>by
  obtain⟨p,q,h1,h2,_⟩:=h
  obtain⟨x,k1,k2⟩:=Zb (hp t (by simp)) (hv 0 t v rfl rfl) h1
  obtain⟨ys,k3,k4,k5⟩:=MK (fun t ht=>hp t (by simp[ht])) (fun j t v h h'=>hv (j+1) t v (by simpa using h) (by simpa using h')) h2
  refine⟨x::ys,⟨x,ys,rfl,k1,k3⟩,by simp[k4],fun i hi bE=>?_⟩
  cases i with
  |zero=>exact k2
  |succ i=>exact k5 i (by simpa using hi) (by simpa using bE)
theorem MJ{H:Type}{enc:TypeId×Value->H}{P:Program}(hl:laidOutB P=true){W W':World}(hb:Below W.heap.size W W'):∀ {ts:List TypeId} {vs:List Value} {ds:List (DataW H)} {ps:List MemPlace},
 (∀ t∈ts,P.readableRec t=true/\t<P.types.size)->DataW.TrodAll enc P W 0 (fun _=>true) true ts vs ds ps->(∀ x∈ps,x.block<W.heap.size)->DataW.TrodAll enc P W' 0 (fun b=>decide (b<W.heap.size)) true ts vs ds ps
 |[],vs,ds,ps,_,h,_=>by
  cases vs<;>cases ds<;>simp_all[DataW.TrodAll]
 |t::ts,[],ds,ps,_,h,_=>by cases ds<;>simp[DataW.TrodAll]at h
 |t::ts,v::vs,[],ps,_,h,_=>by simp[DataW.TrodAll]at h
 |t::ts,v::vs,d::ds,ps,hr,h,ab=>by
  obtain⟨p,q,h1,h2,rfl⟩:=h
  exact⟨p,q,Below.trod hl (hr t (by simp)).1 (hr t (by simp)).2 h1 hb (fun x hx=>ab x (by simp[hx])),
   MJ hl hb (fun t ht=>hr t (by simp[ht])) h2 (fun x hx=>ab x (by simp[hx])),rfl⟩
theorem Fk{H:Type}{enc:TypeId×Value->H}{P:Program}{w:World}{b0:Nat}{spare:Nat->Bool}{held:Bool}:∀ {ts:List TypeId} {vs:List Value} {ds:List (DataW H)} {ps:List MemPlace},DataW.TrodAll enc P w b0 spare held ts vs ds ps->ds.length=ts.length
 |[],vs,ds,ps,h=>by cases vs<;>cases ds<;>simp_all[DataW.TrodAll]
 |t::ts,[],ds,ps,h=>by cases ds<;>simp[DataW.TrodAll]at h
 |t::ts,v::vs,[],ps,h=>by simp[DataW.TrodAll]at h
 |t::ts,v::vs,d::ds,ps,h=>by
  obtain⟨p,q,_,h2,_⟩:=h
  simp[Fk h2]
theorem Te{H:Type}{enc:TypeId×Value->H}{C:Checked}{os:Os}{f:FuncId}{fn:Func}{s:ChangeSpec}{conds:List PathCond}{n:Nat}{tb:TypeId}
 (own:ownKnob C.prog.godebug=none) (started:os.Started) (Rk:C.prog.inits.idxOf? f=none) (eR:C.prog.funcs[f]?=some fn)
 (witness:∃ (w:World) (tape:Tape) (i:Input),w.os=os/\(w.forCall tape i).Shaped C.prog/\i.vars=[]/\Input.okWide C.prog (w.forCall tape i) .any w.heap.size f i/\
   s.pre6 enc C.prog fn conds false (w.forCall tape i).memory i.args/\({}:Assume).holds C.prog (lone (Frame.enter C.prog f i.args .normal) [] (w.forCall tape i)))
 (hl:laidOutB C.prog=true) (fh:∀ t∈fn.params.toList,ky C.prog n t=true/\C.prog.readableRec t=true/\t<C.prog.types.size) (yy:fn.resultTypes= #[tb]) (tu:C.prog.underlying tb=some .bool)
 (JL:s.vars=[]) (hs:∀ ds:List (DataW H),ds.length=fn.params.toList.length->(s.fn H ds).results=[.lit (.bool true)]/\(s.fn H ds).args=ds/\(s.fn H ds).vars=[])
 (rB:∀ (W:World) (args:Array Value) (xs:List V),uu C.prog n fn.params.toList xs->sh (kF W) xs args.toList->Calls C.prog f args W fun e W'=>e=.returned (.bool true)/\Below W.heap.size W W'):
 ReturnsInHanded {} C os f .any (s.pre6 enc C.prog fn conds false) (s.post enc C.prog fn false true false false):=by
 refine returnsInHanded_of_change own started Rk eR witness ?_
 intro W base args ds gs before dj hW _ _
 have Dl:=hW
 obtain⟨p,q,hA,hV,rfl,_,_⟩:=hW
 rw[JL]at hV
 obtain⟨rfl,rfl⟩:=trodVars_none hV
 simp only[List.append_nil]at Dl
 have ab:∀ y∈p,y.block<W.heap.size:=fun y hy=>by simpa using Dl.lt y hy
 obtain⟨xs,h1,h2⟩:=MK (vs:=args.toList) (ts:=fn.params.toList) (fun t ht=>(fh t ht).1) (fun j t v h h'=>dj j t v (by simpa using h) (by simpa using h')) hA
 obtain⟨e1,e2,e3⟩:=hs ds (Fk hA)
 refine(rB W args xs h1 h2).mono fun e W' ⟨he,hn⟩=>?_
 subst he
 refine⟨_,rfl,ds,[],p,[],p,[],Dl,?_,?_,?_,hn.frame _,fun h=>by cases h⟩
 ·rw[List.append_nil,e1,yy]
  exact trodAll_mk1 (shut_bool tu _)
 ·rw[List.append_nil,e2]
  exact MJ hl hn (fun t ht=>(fh t ht).2) hA ab
 ·rw[List.append_nil,e3,JL]
  rfl
open Go Go.Proofs Go.Proofs.YtepaolcgegdpoaaGreat Go.RowKit Go.ChangeShapes
theorem UG:ownKnob Tryz.prog.godebug=none:=by kernel_rfl
theorem UH:laidOutB Tryz.prog=true:=by kernel_rfl
end Go.Eng
set_option linter.constructorNameAsVariable false
set_option maxRecDepth 100000
namespace Go.Eng
open Go Go.Proofs
theorem jl{n:Nat}{xs:List V}(h:eZ Tryz.prog (n+1) 3 xs):∃ k,xs=[vInt k]/\(Lit.int .i64 k).wf=true:=by
 unfold eZ at h
 simp only[Tryz.underlying3]at h
 exact h
theorem Hm{α β:Type}{f:α->β}{P:β->Prop}(h:∀ y,P y->∃ x,y=f x):∀ {l:List β},(∀ y∈l,P y)->∃ m:List α,l=m.map f
 |[],_=>⟨[],rfl⟩
 |y::r,hl=>by
  obtain⟨x,rfl⟩:=h y (hl y (by simp))
  obtain⟨m,rfl⟩:=Hm h (l:=r) fun z hz=>hl z (by simp[hz])
  exact⟨x::m,rfl⟩
theorem FI{n:Nat}{T e:TypeId}{xs:List V}{α:Type}{f:α->V}(hu:Tryz.prog.underlying T=some (.slice e))(h:eZ Tryz.prog (n+1) T xs)
 (he:∀ ys,eZ Tryz.prog n e ys->∃ a,mc (iD Tryz.prog e) ys=f a):∃ l:List α,xs=[.sl (l.map f)]:=by
 unfold eZ at h
 simp only[hu]at h
 obtain⟨ls,rfl,_,h3⟩:=h
 obtain⟨m,hm⟩:=Hm (f:=f) (P:=fun y=>∃ d,y=f d) (fun y h=>h) (l:=ls.map (mc (iD Tryz.prog e))) fun y hy=>by
  obtain⟨z,hz,rfl⟩:=List.mem_map.1 hy
  exact he z (h3 z hz)
 exact⟨m,by rw[hm]⟩
theorem YO{f:FuncId}{s:PSpec}(h:aT Tryz.prog f s){W:World}{args:Array Value}{xs:List V}(hr:sh (kF W) xs args.toList)(hp:s.pre xs)(ht:s.fn xs=.bool true):
 Calls Tryz.prog f args W fun e W'=>e=.returned (.bool true)/\RowKit.Below W.heap.size W W':=by
 refine(h.calls (kF W) W xs args (fun b off v hv=>hv) hr hp).mono ?_
 rintro e W' ⟨v,m',rfl,hb,_,_,hv⟩
 rw[ht]at hv
 cases hv
 exact⟨rfl,hb⟩
end Go.Eng
set_option linter.constructorNameAsVariable false
namespace Go.Eng
open Go Go.Proofs Go.Proofs.YtepaolcgegdpoaaGreat Go.RowKit Go.ChangeShapes
theorem SL(hc:∀ (W:World) (args:Array Value) (xs:List V),uu Tryz.prog 6 Tryz.f4.params.toList xs->sh (kF W) xs args.toList->Calls Tryz.prog 4 args W fun e W'=>e=.returned (.bool true)/\Below W.heap.size W W')
 (os:Os) (started:os.Started) (H:Type) (enc:TypeId×Value->H):
 ReturnsInHanded {} Tryz.checked os 4 .any (Rows.loanMovesSpec.pre6 enc Tryz.prog Tryz.f4 Rows.loanMovesRow.domain false) (Rows.loanMovesSpec.post enc Tryz.prog Tryz.f4 false true false false):=by
 refine Te (C:=Tryz.checked) (n:=6) (tb:=4) UG started (by kernel_rfl) Tryz.func4
  (ChangeSpec.witness6 (enc:=enc) (C:=Tryz.checked) false ⟨#[],#[.agg #[.slice none 0 0,.slice none 0 0,.slice none 0 0],.agg #[.int .i64 0,.int .i64 0,.int .i64 0]],[]⟩ 8 (by kernel_rfl) (by kernel_rfl) (by kernel_rfl) (by kernel_rfl))
  UH ?_ (by kernel_rfl) (by kernel_rfl) rfl ?_ hc
 ·have h:(Tryz.f4.params.toList.all fun t=>ky Tryz.prog 6 t&&Tryz.prog.readableRec t&&decide (t<Tryz.prog.types.size))=true:=by kernel_rfl
  intro t ht
  have :=List.all_eq_true.1 h t ht
  simp only[Bool.and_eq_true,decide_eq_true_eq]at this
  exact⟨this.1.1,this.1.2,this.2⟩
 ·intro ds kP
  have hl:Tryz.f4.params.toList.length=2:=by kernel_rfl
  rw[hl]at kP
  match ds,kP with
  |[d1,d2],_=>exact⟨rfl,rfl,rfl⟩
theorem SK(hc:∀ (W:World) (args:Array Value) (xs:List V),uu Tryz.prog 6 Tryz.f4.params.toList xs->sh (kF W) xs args.toList->Calls Tryz.prog 4 args W fun e W'=>e=.returned (.bool true)/\Below W.heap.size W W'):
 Rows.LoanMovesSaid:=
 OpenClaim.holds_of_wide 4 Tryz.f4 rfl rfl rfl rfl rfl rfl rfl ⟨rfl,rfl,rfl,rfl,rfl⟩ rfl rfl rfl rfl rfl (by kernel_rfl) Tryz.func4 (by kernel_rfl)
  (of_decide_eq_true (by kernel_rfl)) (by unfold Func.isWrapper;first | (rw[if_pos (by decide+kernel)];kernel_rfl) | (rw[if_neg (by decide+kernel)];exact⟨rfl,rfl⟩))
  (fun os started H enc _=>SL hc os started H enc)
end Go.Eng
set_option maxRecDepth 100000
namespace Go.Eng
open Go Go.Proofs Go.Proofs.YtepaolcgegdpoaaGreat
theorem Zn:iD Tryz.prog 25=true:=by kernel_rfl
theorem Zm:iD Tryz.prog 49=true:=by kernel_rfl
theorem Zp:iD Tryz.prog 100=true:=by kernel_rfl
theorem Zo:iD Tryz.prog 131=true:=by kernel_rfl
theorem On{n:Nat}{xs:List V}(h:eZ Tryz.prog (n+2) 49 xs):∃ x:N3,.agg xs=zk x:=by
 unfold eZ at h
 simp only[Tryz.underlying49]at h
 obtain⟨x1,y,rfl,h1,x2,y2,rfl,h2,x3,y3,rfl,h3,rfl⟩:=h
 obtain⟨a,rfl,_⟩:=jl h1
 obtain⟨b,rfl,_⟩:=jl h2
 obtain⟨c,rfl,_⟩:=jl h3
 exact⟨⟨a,b,c⟩,rfl⟩
theorem Ou{n:Nat}{xs:List V}(h:eZ Tryz.prog (n+2) 100 xs):∃ x:R5,.agg xs=rP x:=by
 unfold eZ at h
 simp only[Tryz.underlying100]at h
 obtain⟨x1,y,rfl,h1,x2,y2,rfl,h2,x3,y3,rfl,h3,x4,y4,rfl,h4,x5,y5,rfl,h5,rfl⟩:=h
 obtain⟨a,rfl,_⟩:=jl h1
 obtain⟨b,rfl,_⟩:=jl h2
 obtain⟨c,rfl,_⟩:=jl h3
 obtain⟨d,rfl,_⟩:=jl h4
 obtain⟨e,rfl,_⟩:=jl h5
 exact⟨⟨a,b,c,d,e⟩,rfl⟩
theorem Ot{n:Nat}{xs:List V}(h:eZ Tryz.prog (n+2) 131 xs):∃ x:R7,.agg xs=tR x:=by
 unfold eZ at h
 simp only[Tryz.underlying131]at h
 obtain⟨x1,y,rfl,h1,x2,y2,rfl,h2,x3,y3,rfl,h3,x4,y4,rfl,h4,x5,y5,rfl,h5,x6,y6,rfl,h6,x7,y7,rfl,h7,rfl⟩:=h
 obtain⟨a,rfl,_⟩:=jl h1
 obtain⟨b,rfl,_⟩:=jl h2
 obtain⟨c,rfl,_⟩:=jl h3
 obtain⟨d,rfl,_⟩:=jl h4
 obtain⟨e,rfl,_⟩:=jl h5
 obtain⟨f,rfl,_⟩:=jl h6
 obtain⟨g,rfl,_⟩:=jl h7
 exact⟨⟨a,b,c,d,e,f,g⟩,rfl⟩
theorem FJ{n:Nat}{xs:List V}(h:eZ Tryz.prog (n+3) 22 xs):∃ l:List R5,xs=[.sl (l.map rP)]:=
 FI Tryz.underlying22 h fun ys hy=>by
  obtain⟨x,hx⟩:=Ou hy
  rw[Zp]
  exact⟨x,hx⟩
theorem Oq{n:Nat}{xs:List V}(h:eZ Tryz.prog (n+3) 23 xs):∃ l:List R7,xs=[.sl (l.map tR)]:=
 FI Tryz.underlying23 h fun ys hy=>by
  obtain⟨x,hx⟩:=Ot hy
  rw[Zo]
  exact⟨x,hx⟩
theorem Oo{n:Nat}{xs:List V}(h:eZ Tryz.prog (n+4) 25 xs):∃ r:Raw,.agg xs=rO r:=by
 unfold eZ at h
 simp only[Tryz.underlying25]at h
 obtain⟨x1,y,rfl,h1,x2,y2,rfl,h2,x3,y3,rfl,h3,rfl⟩:=h
 obtain⟨a,rfl⟩:=FJ h1
 obtain⟨b,rfl⟩:=Oq h2
 obtain⟨c,rfl⟩:=FJ h3
 exact⟨⟨a,b,c⟩,rfl⟩
theorem Zd{x:V}(h:Aw Tryz.prog 6 25 x):∃ o:Raw,x=rO o:=by
 obtain⟨xs,h1,rfl⟩:=h
 rw[Zn]
 exact Oo h1
theorem Zc{x:V}(h:Aw Tryz.prog 6 49 x):∃ o:N3,x=zk o:=by
 obtain⟨xs,h1,rfl⟩:=h
 rw[Zm]
 exact On h1
theorem X9(r:Raw):zr (rO r)=r:=by
 cases r;simp only[rO,zr,Yc,Ya]
theorem loanMoves_holds:Rows.LoanMovesSaid:=
 SK fun W args xs ha hr=>by
  obtain⟨x,ys,rfl,h1,y,zs,rfl,h2,rfl⟩:=(show uu Tryz.prog 6 [25,49] xs from ha)
  obtain⟨l,rfl⟩:=Zd h1
  obtain⟨o,rfl⟩:=Zc h2
  exact YO s4 hr ⟨congrArg rO (X9 l),rfl,trivial⟩ rfl
end Go.Eng
namespace Go.Proofs.YtepaolcgegdpoaaGreat
theorem loanMoves_holds : Rows.LoanMovesSaid := Go.Eng.loanMoves_holds
end Go.Proofs.YtepaolcgegdpoaaGreat
#print axioms Go.Proofs.YtepaolcgegdpoaaGreat.loanMoves_holds
