import Derived.Test.YtepaolcgegdpoaaGreatK9
/- Texts LW62 to LB. -/
set_option linter.all false
namespace Go.Eng
open Go Go.Proofs
set_option maxHeartbeats 8000000
set_option maxRecDepth 10000
noncomputable section
def o6(l:Led)(k:Int)(az:List Int)(i:Nat):Bool:=bT (az.getD i 0) (c0 (eY l k).ds i).lo (c0 (eY l k).ds i).hi
def gw(l:Led)(k:Int)(az:List Int):Bool:=decide (dX l k=0)&&(decide (az.length=l.ts.length)&&jB (o6 l k az) az.length)
theorem Bc{p:Nat->Bool}{n:Nat}:jB p n=true↔∀ j,j<n->p j=true:=by
 unfold jB
 rw[List.all_eq_true]
 exact⟨fun h j hj=>h j (List.mem_range.2 hj),fun h j hj=>h j (List.mem_range.1 hj)⟩
def K62:List (Nat×Spec):=[(99,tF),(146,tH)]
theorem acu:KS K62:=tc BW.sound<|tc uq.sound<|tn
attribute [go_sem] K62
@[go_sem] def P124:PSpec:=p3 iL iI cm (fun l _ _=>bp l) (fun l k az=>.bool (gw l k az)) true
@[go_sem] def Pf:Spec:=P124.toSpec
theorem HD:aL Tryz.prog 124 P124:=by
 refine gL (rs:=[.tmp 6]) Tryz.func124 Tryz.ntmps124 fun l k az hp hw=>?_
 have hP:=c8
 simp only[iI,cm,iL,dq]at hw |-
 have hΓ:=acu
 have ml:=hp.tsn
 repeat refine sq ?_
 refine rx hΓ [1,2,3] [[3,0]] (fun K' hK=>by simp only[go_sem];exact ak) ?_
 repeat refine sq ?_
 refine rx hΓ [2,3,7,8] [[3,0],[7,0]] (fun K' hK=>by simp only[go_sem];(repeat (refine⟨by first | exact ao | exact hp,?_⟩));exact cF) ?_
 repeat refine sq ?_
 refine rx hΓ [2,7,25] [[7,0]] (fun K' hK=>by simp only[go_sem,List.length_map];exact ak) ?_
 repeat refine sq ?_
 refine au (fun hb=>?_) fun hb=>?_
 ·repeat refine sq ?_
  have e:gw l k az=false:=by
   unfold gw
   by_cases h1:dX l k=0
   ·have h2:¬ az.length=l.ts.length:=by
      intro h2
      rw[h1,h2]at hb
      simp at hb
    rw[decide_eq_false h2];simp
   ·rw[decide_eq_false h1];rfl
  repeat refine sq ?_
  refine rx hΓ [6] [] (fun K' hK=>by simp only[go_sem];exact ak) ?_
  refine aq ?_
  simp only[go_sem]
  rw[e]
 ·repeat refine sq ?_
  have hs:dX l k=0:=by
   rw[Bool.or_eq_false_iff]at hb
   simpa using hb.1
  have qW:az.length=l.ts.length:=by
   rw[Bool.or_eq_false_iff]at hb
   have :=hb.2
   simp at this
   omega
  have mC:=BN hs
  rw[BM]at mC
  have hl:az.length<=maxLen:=by unfold maxLen;omega
  refine ay ?_
  repeat refine sq ?_
  refine rx hΓ [2,7,9] [[7,0]] (fun K' hK=>by simp only[go_sem];exact ak) ?_
  repeat refine sq ?_
  refine aC ?_
  repeat refine sq ?_
  refine bA (fun s:Nat=>[(9,⟨true,.v (vInt s)⟩)]) (fun s=>[]) (fun s=>s<=az.length/\∀ m,m<s->o6 l k az m=true) (fun s=>az.length-s) 0 ?_ ?_ ?_ ?_
  ·exact⟨Nat.zero_le _,fun m h=>by omega⟩
  ·rfl
  ·rfl
  rintro i ⟨hi,hR⟩
  simp only[go_sem]
  repeat refine sq ?_
  refine rx hΓ [2,7,9,29] [[7,0]] (fun K' hK=>by simp only[go_sem];exact ak) ?_
  repeat refine sq ?_
  refine au (fun hb=>?_) fun hb=>?_
  ·have aa:i<az.length:=by simpa using hb
   have an:(i:Int)<az.length:=by omega
   clear hb
   have nG:i<(eY l k).ds.length:=by omega
   have X9:(i:Int)<(eY l k).ds.length:=by omega
   repeat refine sq ?_
   refine ay ?_
   repeat refine sq ?_
   refine aC ?_
   repeat refine sq ?_
   refine dx hΓ hP [[],[],[0,1],[0,1,2],[],[4],[],[4,5,6],[4,5,6,7],[4,5,6,7,8],[],[10],[],[10,11,12],[10,11,12,13],[10,11,12,13,14],u16,iG] [2,7,9,49] [[7,0]] (by kernel_rfl) (fun K' hK=>by simp only[go_sem,ae aa,ah,aj,an,ae nG,X9,List.length_map];exact eQ) ?_
   repeat refine sq ?_
   refine au (fun hb=>?_) fun hb=>?_
   ·repeat refine sq ?_
    have e:gw l k az=false:=by
     have h1:o6 l k az i=false:=by unfold o6;rw[gz nG,dd aa];simpa using hb
     have h2:jB (o6 l k az) az.length=false:=by
      rw[Bool.eq_false_iff]
      intro h
      rw[Bc.1 h i aa]at h1
      cases h1
     unfold gw;rw[h2];simp
    repeat refine sq ?_
    refine rx hΓ [6] [] (fun K' hK=>by simp only[go_sem,ae aa,ah,aj,an];exact ak) ?_
    refine aq ?_
    simp only[go_sem]
    rw[e]
   ·repeat refine sq ?_
    refine ay ?_
    refine br ?_
    simp only[go_sem]
    refine kp [2,7,9] [[7,0]] ?_
    repeat refine sq ?_
    refine aI hΓ fun K' hK=>?_
    simp only[go_sem,ae aa,ah,aj,an]
    repeat (refine⟨ao,?_⟩)
    refine hK _ ?_
    clear K' hK
    simp only[go_sem]
    refine⟨i+1,⟨aa,?_⟩,by(show az.length-(i+1)<az.length-i;omega),?_⟩
    ·intro m w9
     rcases Nat.lt_succ_iff_lt_or_eq.1 w9 with h5 | rfl
     ·exact hR m h5
     ·unfold o6;rw[gz nG,dd aa];simpa using hb
    refine aT [2,7,9] [[7,0]] ?_ ?_<;>simp only[go_sem,aO aa hl,aQ]
  ·have aV:i=az.length:=by
    have :¬ (i:Int)<az.length:=by simpa using hb
    omega
   clear hb
   subst aV
   repeat refine sq ?_
   refine be ?_
   simp only[go_sem]
   refine kp [] [] ?_
   repeat refine sq ?_
   refine rx hΓ [6] [] (fun K' hK=>by simp only[go_sem];exact ak) ?_
   refine aq ?_
   simp only[go_sem]
   have e:gw l k az=true:=by
    unfold gw;rw[Bc.2 hR,hs,qW];simp
   rw[e]
def AE(l:Led)(k:Int)(az:List Int):Int:=dC (gw l k az) 29
def xI(l:Led)(k:Int)(az:List Int):Int:=if fg l [k]=0 then AE l k az else fg l [k]
def K62b:List (Nat×Spec):=[(98,rF),(124,Pf)]
theorem acs:KS K62b:=tc yz.sound<|tc HD.sound<|tn
attribute [go_sem] K62b
@[go_sem] def P46:PSpec:=p3 iL iI cm (fun _ _ _=>True) (fun l k az=>vInt (xI l k az)) true
@[go_sem] def S46:Spec:=P46.toSpec
theorem Rr:aL Tryz.prog 46 P46:=by
 refine gL (rs:=[.tmp 6]) Tryz.func46 Tryz.ntmps46 fun l k az hp hw=>?_
 simp only[iI,cm,iL,dq]at hw |-
 have hΓ:=acs
 repeat refine sq ?_
 refine rx hΓ [1,2,3] [[3,0]] (fun K' hK=>by simp only[go_sem];exact ak) ?_
 repeat refine sq ?_
 refine rx hΓ [1,2,3,7] [[3,0]] (fun K' hK=>by simp only[go_sem];exact ak) ?_
 repeat refine sq ?_
 refine rx hΓ [1,2,3,7,13] [[3,0]] (fun K' hK=>by simp only[go_sem];exact ak) ?_
 repeat refine sq ?_
 refine au (fun hb=>?_) fun hb=>?_
 ·repeat refine sq ?_
  have hc:¬ fg l [k]=0:=by simpa using hb
  unfold xI;rw[if_neg hc]
  repeat refine sq ?_
  refine rx hΓ [6] [] (fun K' hK=>by simp only[go_sem];exact ak) ?_
  refine aq ?_
  simp only[go_sem]
  all_goals exact cD
 ·repeat refine sq ?_
  have hc:fg l [k]=0:=by simpa using hb
  unfold xI;rw[if_pos hc]
  obtain⟨ab,_⟩:=A' hc
  refine ay ?_
  repeat refine sq ?_
  refine rx hΓ [19] [] (fun K' hK=>by simp only[go_sem];(repeat (refine⟨by first | exact ao | exact ab,?_⟩));exact cF) ?_
  repeat refine sq ?_
  refine au (fun hb=>?_) fun hb=>?_
  ·repeat refine sq ?_
   have h:gw l k az=false:=by simpa using hb
   unfold AE;rw[h]
   repeat refine sq ?_
   refine rx hΓ [6] [] (fun K' hK=>by simp only[go_sem];exact ak) ?_
   refine aq ?_
   simp only[go_sem]
   all_goals exact cD
  ·repeat refine sq ?_
   have h:gw l k az=true:=by simpa using hb
   unfold AE;rw[h]
   refine ay ?_
   repeat refine sq ?_
   refine rx hΓ [6] [] (fun K' hK=>by simp only[go_sem];exact ak) ?_
   refine aq ?_
   simp only[go_sem]
   all_goals exact cD
def lr(x:RV)(f:Fol)(az:List Int)(day:Int):Int:=
 if cO x f day<0 then 0 else
 if(decide (c5 x (cO x f day).toNat f.le>=0)&&decide (az.getD (c5 x (cO x f day).toNat f.le).toNat 0<=day))=true then 0 else(aA x.l (cO x f day).toNat).bo
def K62c:List (Nat×Spec):=[(159,Gf),(103,x9)]
theorem acr:KS K62c:=tc BZ.sound<|tc yF.sound<|tn
attribute [go_sem] K62c
@[go_sem] def P74:PSpec:=p4 e7 iQ cm iI (fun x _ az _=>od x/\az.length=x.ts.length) (fun x f az day=>vInt (lr x f az day)) true
@[go_sem] def S74:Spec:=P74.toSpec
theorem Rd:aL Tryz.prog 74 P74:=by
 refine rO (rs:=[.tmp 8]) Tryz.func74 Tryz.ntmps74 fun x f az day hp hw=>?_
 simp only[iQ,iI,cm,e7,ea]at hw |-
 have hΓ:=acr
 obtain⟨⟨ab,fE,-⟩,mC⟩:=hp
 repeat refine sq ?_
 refine rx hΓ [2,3,4,5] [[4,0],[5,0]] (fun K' hK=>by simp only[go_sem];exact ak) ?_
 rcases C4 x f day with bL | ⟨q,hq,bL⟩
 ·repeat refine sq ?_
  refine rx hΓ [2,3,4,5,9] [[4,0],[5,0]] (fun K' hK=>by simp only[go_sem,bL,eR];(repeat (refine⟨by first | exact ao | exact ab,?_⟩));exact cF) ?_
  repeat refine sq ?_
  refine rx hΓ [2,3,4,5,9,16] [[4,0],[5,0]] (fun K' hK=>by simp only[go_sem,bL,eR];exact ak) ?_
  repeat refine sq ?_
  refine au (fun hb=>?_) fun hb=>?_
  ·repeat refine sq ?_
   have e:lr x f az day=0:=by unfold lr;rw[bL];rfl
   repeat refine sq ?_
   refine rx hΓ [8] [] (fun K' hK=>by simp only[go_sem,bL,eR];exact ak) ?_
   refine aq ?_
   simp only[go_sem]
   rw[e]
  ·cases hb
 ·have bZ:(q:Int)<x.l.rs.length:=by omega
  have nT:=eh hq
  repeat refine sq ?_
  refine rx hΓ [2,3,4,5,9] [[4,0],[5,0]] (fun K' hK=>by simp only[go_sem,bL,eR];(repeat (refine⟨by first | exact ao | exact ab,?_⟩));exact cF) ?_
  repeat refine sq ?_
  refine rx hΓ [2,3,4,5,9,16] [[4,0],[5,0]] (fun K' hK=>by simp only[go_sem,bL,eR];exact ak) ?_
  repeat refine sq ?_
  refine au (fun hb=>?_) fun hb=>?_
  ·cases hb
  ·repeat refine sq ?_
   refine ay ?_
   rcases yJ x q f.le with bP | ⟨j,hj,bP⟩
   ·have jq:decide ((-1:Int)>=0)=false:=rfl
    have dp:=jq
    have mw:=jq
    repeat refine sq ?_
    refine rx hΓ [2,3,4,9,10] [[4,0]] (fun K' hK=>by simp only[go_sem,bL,eR,bP,ae hq,bZ,ah,aj,List.length_map,ae hq,bZ,ah,aj,List.length_map];(repeat (refine⟨by first | exact ao | exact⟨⟨ab,fE⟩,bZ⟩,?_⟩));exact cF) ?_
    repeat refine sq ?_
    refine rx hΓ [4,9,32] [[4,0]] (fun K' hK=>by simp only[go_sem,bL,eR,bP,ae hq,bZ,ah,aj,List.length_map,mw,jq,dp,ah,aj,List.length_map,decide_true,Bool.true_and,Bool.decide_and,Bool.decide_eq_true,true_and];exact ak) ?_
    repeat refine sq ?_
    refine au (fun hb=>?_) fun hb=>?_
    ·cases hb
    ·repeat refine sq ?_
     have e:lr x f az day=x.l.rs[q].bo:=by unfold lr;rw[bL,if_neg (by omega),ah,bP,nT];rfl
     refine ay ?_
     repeat refine sq ?_
     refine rx hΓ [8] [] (fun K' hK=>by simp only[go_sem,bL,eR,bP,ae hq,bZ,ah,aj,List.length_map];exact ak) ?_
     refine aq ?_
     simp only[go_sem]
     rw[e]
   ·have Ek:j<az.length:=by omega
    have dp:(j:Int)<az.length:=by omega
    have jq:(az.map vInt).getD j default=vInt az[j]:=ae Ek
    have mw:(if (0:Int)>(j:Int)then(0:Int)else(j:Int))=j:=if_neg (by omega)
    have Mc:decide ((j:Int)>=0)=true:=by simp
    repeat refine sq ?_
    refine rx hΓ [2,3,4,9,10] [[4,0]] (fun K' hK=>by simp only[go_sem,bL,eR,bP,ae hq,bZ,ah,aj,List.length_map,ae hq,bZ,ah,aj,List.length_map];(repeat (refine⟨by first | exact ao | exact⟨⟨ab,fE⟩,bZ⟩,?_⟩));exact cF) ?_
    repeat refine sq ?_
    refine rx hΓ [4,9,32] [[4,0]] (fun K' hK=>by simp only[go_sem,bL,eR,bP,ae hq,bZ,ah,aj,List.length_map,mw,jq,dp,ah,aj,List.length_map,decide_true,Bool.true_and,Bool.decide_and,Bool.decide_eq_true,true_and];exact ak) ?_
    repeat refine sq ?_
    refine au (fun hb=>?_) fun hb=>?_
    ·repeat refine sq ?_
     have e:lr x f az day=0:=by unfold lr;rw[bL,if_neg (by omega),ah,bP,nT,ah,dd Ek,Mc,Bool.true_and,if_pos (by simpa using hb)]
     repeat refine sq ?_
     refine rx hΓ [8] [] (fun K' hK=>by simp only[go_sem,bL,eR,bP,ae hq,bZ,ah,aj,List.length_map];exact ak) ?_
     refine aq ?_
     simp only[go_sem]
     rw[e]
    ·repeat refine sq ?_
     have e:lr x f az day=x.l.rs[q].bo:=by unfold lr;rw[bL,if_neg (by omega),ah,bP,nT,ah,dd Ek,Mc,Bool.true_and,if_neg (by simpa using hb)]
     refine ay ?_
     repeat refine sq ?_
     refine rx hΓ [8] [] (fun K' hK=>by simp only[go_sem,bL,eR,bP,ae hq,bZ,ah,aj,List.length_map];exact ak) ?_
     refine aq ?_
     simp only[go_sem]
     rw[e]
end
noncomputable section
def ni(x:RV)(pa:Int)(az:List Int)(day:Int):Nat->List Int
 | 0=>[]
 |m+1=>ni x pa az day m++[lr x ⟨pa,((m+1:Nat):Int)⟩ az day]
theorem yQ(x:RV)(pa:Int)(az:List Int)(day:Int):∀ m,(ni x pa az day m).length=m
 | 0=>rfl
 |m+1=>by rw[ni,List.length_append,yQ];rfl
def mc(l:Led)(a:Ask)(az:List Int):Int:=if fg l [a.da,a.kn]=0 then(if ei l.ps a.pa=0 then 26 else if gw l a.kn az=true then 0 else 29)else fg l [a.da,a.kn]
def nj(l:Led)(a:Ask)(az:List Int):List Int:=if mc l a az=0 then ni (aX l a.kn) a.pa az a.da (ei l.ps a.pa).toNat else[]
theorem P1{l:Led}{k:Int}{az:List Int}(h:gw l k az=true):az.length=l.ts.length:=by
 unfold gw at h
 simp only[Bool.and_eq_true,decide_eq_true_eq]at h
 exact h.2.1
def K63:List (Nat×Spec):=[(98,rF),(84,F9),(124,Pf),(73,O0),(74,S74)]
theorem acq:KS K63:=tc yz.sound<|tc Hm.sound<|tc HD.sound<|tc Ho.sound<|tc Rd.sound<|tn
attribute [go_sem] K63
@[go_sem] def P44:PSpec:=p3 iL nx cm (fun _ _ _=>True) (fun l a az=>.tup [.sl ((nj l a az).map vInt),vInt (mc l a az)]) false
@[go_sem] def S44:Spec:=P44.toSpec
set_option maxHeartbeats 8000000 in
theorem Rt:aL Tryz.prog 44 P44:=by
 refine gL (rs:=[.tmp 6,.tmp 7]) Tryz.func44 Tryz.ntmps44 fun l a az hp hw=>?_
 simp only[nx,cm,iL,dq]at hw |-
 have hΓ:=acq
 repeat refine sq ?_
 refine rx hΓ [2,3,4] [[3,0],[4,0]] (fun K' hK=>by simp only[go_sem];exact ak) ?_
 repeat refine sq ?_
 refine rx hΓ [2,3,4,8] [[3,0],[4,0]] (fun K' hK=>by simp only[go_sem];exact ak) ?_
 repeat refine sq ?_
 refine rx hΓ [2,3,4,8,21] [[3,0],[4,0]] (fun K' hK=>by simp only[go_sem];exact ak) ?_
 repeat refine sq ?_
 refine au (fun hb=>?_) fun hb=>?_
 ·repeat refine sq ?_
  have hc:¬ fg l [a.da,a.kn]=0:=by simpa using hb
  have e:mc l a az=fg l [a.da,a.kn]:=by unfold mc;rw[if_neg hc]
  have e2:nj l a az=[]:=by unfold nj;rw[e,if_neg hc]
  repeat refine sq ?_
  refine rx hΓ [6,7] [[57,0]] (fun K' hK=>by simp only[go_sem];exact ak) ?_
  refine aq ?_
  simp only[go_sem]
  first | (rw[e,e2];done) | (rw[e,e2];rfl) | exact⟨fG.symm,by rw[e,e2]⟩ | trace_state
 ·repeat refine sq ?_
  have hc:fg l [a.da,a.kn]=0:=by simpa using hb
  obtain⟨ab,_⟩:=A' hc
  refine ay ?_
  repeat refine sq ?_
  refine rx hΓ [2,3,4,9] [[3,0],[4,0]] (fun K' hK=>by simp only[go_sem];exact ak) ?_
  repeat refine sq ?_
  refine rx hΓ [2,3,4,9,29] [[3,0],[4,0]] (fun K' hK=>by simp only[go_sem];exact ak) ?_
  repeat refine sq ?_
  refine au (fun hb=>?_) fun hb=>?_
  ·repeat refine sq ?_
   have e:mc l a az=26:=by unfold mc;rw[if_pos hc,if_pos (by simpa using hb)]
   have e2:nj l a az=[]:=by unfold nj;rw[e];rfl
   repeat refine sq ?_
   refine rx hΓ [6,7] [[57,0]] (fun K' hK=>by simp only[go_sem];exact ak) ?_
   refine aq ?_
   simp only[go_sem]
   first | (rw[e,e2];done) | (rw[e,e2];rfl) | exact⟨fG.symm,by rw[e,e2]⟩ | trace_state
  ·repeat refine sq ?_
   have hz:¬ ei l.ps a.pa=0:=by simpa using hb
   refine ay ?_
   repeat refine sq ?_
   refine rx hΓ [2,3,4,9,35] [[3,0],[4,0]] (fun K' hK=>by simp only[go_sem];(repeat (refine⟨by first | exact ao | exact ab,?_⟩));exact cF) ?_
   repeat refine sq ?_
   refine au (fun hb=>?_) fun hb=>?_
   ·repeat refine sq ?_
    have e:mc l a az=29:=by unfold mc;rw[if_pos hc,if_neg hz,if_neg (by simpa using hb)]
    have e2:nj l a az=[]:=by unfold nj;rw[e];rfl
    repeat refine sq ?_
    refine rx hΓ [6,7] [[57,0]] (fun K' hK=>by simp only[go_sem];exact ak) ?_
    refine aq ?_
    simp only[go_sem]
    first | (rw[e,e2];done) | (rw[e,e2];rfl) | exact⟨fG.symm,by rw[e,e2]⟩ | trace_state
   ·repeat refine sq ?_
    have qQ:gw l a.kn az=true:=by simpa using hb
    have e:mc l a az=0:=by unfold mc;rw[if_pos hc,if_neg hz,if_pos qQ]
    obtain⟨Ei,u2⟩:=Jl ab a.pa
    obtain⟨nn,mq⟩:∃ nn:Nat,ei l.ps a.pa=nn:=⟨(ei l.ps a.pa).toNat,by omega⟩
    have e2:nj l a az=ni (aX l a.kn) a.pa az a.da nn:=by unfold nj;rw[if_pos e,mq,ah]
    have aD:nn+1<=maxLen:=by unfold maxLen;omega
    have hv:=B5 ab a.kn
    have qW:az.length=(aX l a.kn).ts.length:=by rw[P1 qQ];exact(m5 _ _ _).symm
    refine ay ?_
    repeat refine sq ?_
    refine rx hΓ [2,4,9,10] [[4,0],[10,0]] (fun K' hK=>by simp only[go_sem,mq];(repeat (refine⟨by first | exact ao | exact ab,?_⟩));exact cF) ?_
    repeat refine sq ?_
    refine rx hΓ [2,4,9,10,11] [[4,0],[10,0],[57,0]] (fun K' hK=>by simp only[go_sem];exact ak) ?_
    refine bH (ql 11 [57,0] 1 (by simp only[go_sem]) (by simp only[go_sem]) [2,4,9,10,11] [[4,0],[10,0],[57,0]] ?_ rfl) ?_
    ·simp only[go_sem]
    simp only[go_sem]
    repeat refine sq ?_
    refine rx hΓ [2,4,9,10,11,12] [[4,0],[10,0],[57,0]] (fun K' hK=>by simp only[go_sem];exact ak) ?_
    repeat refine sq ?_
    refine aC ?_
    repeat refine sq ?_
    refine bA (fun s:Nat=>[(12,⟨true,.v (vInt s)⟩),(11,⟨true,.msl [57,0] (ni (aX l a.kn) a.pa az a.da (s-1)).length⟩)]) (fun s=>[([57,0],.arr 1 ((ni (aX l a.kn) a.pa az a.da (s-1)).map vInt))]) (fun s=>s<=(nn+1)/\1<=s) (fun s=>(nn+1)-s) 1 ?_ ?_ ?_ ?_
    ·exact⟨by omega,Nat.le_refl 1⟩
    ·rfl
    ·rfl
    rintro i ⟨hi,hR⟩
    have fG:=yQ (aX l a.kn) a.pa az a.da (i-1)
    simp only[go_sem]
    repeat refine sq ?_
    refine rx hΓ [2,4,9,10,11,12,42] [[4,0],[10,0],[57,0]] (fun K' hK=>by simp only[go_sem,mq];exact ak) ?_
    repeat refine sq ?_
    refine au (fun hb=>?_) fun hb=>?_
    ·repeat refine sq ?_
     have aa:i<nn+1:=by
      have :(i:Int)<=nn:=by simpa using hb
      omega
     have eT:ni (aX l a.kn) a.pa az a.da (i+1-1)=ni (aX l a.kn) a.pa az a.da (i-1)++[lr (aX l a.kn) ⟨a.pa,(i:Int)⟩ az a.da]:=by
      obtain⟨m,rfl⟩:∃ m,i=m+1:=⟨i-1,by omega⟩
      rfl
     refine ay ?_
     repeat refine sq ?_
     refine aC ?_
     repeat refine sq ?_
     refine aI hΓ fun K' hK=>?_
     simp only[go_sem]
     repeat (refine⟨by first | exact ao | exact⟨hv,qW⟩,?_⟩)
     refine hK _ ?_
     clear K' hK
     simp only[go_sem]
     refine kp [2,4,9,10,11,12] [[4,0],[10,0],[57,0]] ?_
     repeat refine sq ?_
     refine aI hΓ fun K' hK=>?_
     simp only[go_sem]
     repeat (refine⟨ao,?_⟩)
     refine hK _ ?_
     clear K' hK
     simp only[go_sem]
     refine⟨i+1,⟨aa,?_⟩,by(show (nn+1)-(i+1)<(nn+1)-i;omega),?_⟩
     ·omega
     refine aT [2,4,9,10,11,12] [[4,0],[10,0],[57,0]] ?_ ?_<;>simp only[go_sem,aO aa aD,aQ,eT,List.map_append,List.length_append,List.map_cons,List.map_nil,List.length_cons,List.length_nil]
    ·repeat refine sq ?_
     have aV:i=nn+1:=by
      have :¬ (i:Int)<=nn:=by simpa using hb
      omega
     subst aV
     rw[Nat.add_sub_cancel]at fG |-
     refine be ?_
     simp only[go_sem]
     refine kp [11] [[57,0]] ?_
     repeat refine sq ?_
     refine rx hΓ [6,7] [[57,0]] (fun K' hK=>by simp only[go_sem];exact ak) ?_
     refine aq ?_
     simp only[go_sem]
     first | (rw[e,e2];done) | (rw[e,e2];rfl) | exact⟨fG.symm,by rw[e,e2]⟩ | trace_state
end
noncomputable section
def vl(w:List Int):V:=.sl (w.map vInt)
theorem agl(L:List (List Int)):∀ y∈L.map vl,y.cells.length=1/\y.okc=true:=fun y hy=>by
 obtain⟨x,_,rfl⟩:=List.mem_map.1 hy
 exact⟨rfl,rfl⟩
def ly(l:Led)(a:Ask)(f:Fol):List Int:=if dX l a.kn=0 then j6 (eY l a.kn) f a.da else[]
def ot(l:Led)(a:Ask):List (List Int):=(bf l).map (ly l a)
def o5(l:Led)(a:Ask)(s:Nat):List (List Int):=((bf l).take s).map (ly l a)
theorem P4{l:Led}{a:Ask}{s:Nat}(h:s<(bf l).length):o5 l a (s+1)=o5 l a s++[ly l a (bf l)[s]]:=by
 unfold o5
 rw[BE h]
theorem P5{l:Led}{a:Ask}{s:Nat}(h:s<=(bf l).length):(o5 l a s).length=s:=by unfold o5;rw[List.length_map,List.length_take];omega
theorem P6(l:Led)(a:Ask):o5 l a (bf l).length=ot l a:=by unfold o5 ot;rw[List.take_length]
def K65:List (Nat×Spec):=[(99,tF),(127,Gk),(101,Bj)]
theorem aco:KS K65:=tc BW.sound<|tc HB.sound<|tc Si.sound<|tn
attribute [go_sem] K65
@[go_sem] def P126:PSpec:=p2 iL nx (fun l _=>bp l) (fun l a=>.tup [.sl ((ot l a).map vl),vInt (dX l a.kn)]) false
@[go_sem] def abT:Spec:=P126.toSpec
set_option maxHeartbeats 8000000 in
theorem R':aL Tryz.prog 126 P126:=by
 refine cK (rs:=[.tmp 4,.tmp 5]) Tryz.func126 Tryz.ntmps126 fun l a hp hw=>?_
 have hP:=c8
 simp only[nx,iL,dq]at hw |-
 have hΓ:=aco
 have dK:=xC hp
 have hv:=G9 hp a.kn
 have hl:(bf l).length<=maxLen:=by unfold maxLen;omega
 repeat refine sq ?_
 refine rx hΓ [2,3] [[2,0],[3,0]] (fun K' hK=>by simp only[go_sem];exact ak) ?_
 repeat refine sq ?_
 refine rx hΓ [2,3,6,7] [[2,0],[3,0],[6,0]] (fun K' hK=>by simp only[go_sem];(repeat (refine⟨by first | exact ao | exact hp,?_⟩));exact cF) ?_
 repeat refine sq ?_
 refine rx hΓ [3,6,7,8] [[3,0],[6,0]] (fun K' hK=>by simp only[go_sem];(repeat (refine⟨by first | exact ao | exact hp,?_⟩));exact cF) ?_
 repeat refine sq ?_
 refine rx hΓ [3,6,7,8,9] [[3,0],[6,0],[30,0],[41,0]] (fun K' hK=>by simp only[go_sem];exact ak) ?_
 refine bH (ql 9 [30,0] 1 (by simp only[go_sem]) (by simp only[go_sem]) [3,6,7,8,9] [[3,0],[6,0],[30,0],[41,0]] ?_ rfl) ?_
 ·simp only[go_sem]
 simp only[go_sem]
 repeat refine sq ?_
 refine rx hΓ [3,6,7,8,9,10] [[3,0],[6,0],[30,0],[41,0]] (fun K' hK=>by simp only[go_sem];exact ak) ?_
 repeat refine sq ?_
 refine aC ?_
 repeat refine sq ?_
 refine bA (fun s:Nat=>[(10,⟨true,.v (vInt s)⟩),(9,⟨true,.msl [30,0] (o5 l a s).length⟩)]) (fun s=>[([30,0],.arr 1 ((o5 l a s).map vl))]) (fun s=>s<=(bf l).length) (fun s=>(bf l).length-s) 0 ?_ ?_ ?_ ?_
 ·exact Nat.zero_le _
 ·rfl
 ·rfl
 rintro i hi
 simp only[go_sem]
 repeat refine sq ?_
 refine rx hΓ [3,6,7,8,9,10,23] [[3,0],[6,0],[30,0],[41,0]] (fun K' hK=>by simp only[go_sem];exact ak) ?_
 repeat refine sq ?_
 refine au (fun hb=>?_) fun hb=>?_
 ·have aa:i<(bf l).length:=by simpa using hb
  have an:(i:Int)<(bf l).length:=by omega
  clear hb
  have fE:=P5 (l:=l) (a:=a) hi
  have eS:=P4 (a:=a) aa
  repeat refine sq ?_
  refine ay ?_
  repeat refine sq ?_
  refine aC ?_
  repeat refine sq ?_
  refine rx hΓ [3,6,7,8,9,10,27] [[3,0],[6,0],[30,0],[41,0]] (fun K' hK=>by simp only[go_sem,ae aa,ah,aj,an];exact ak) ?_
  repeat refine sq ?_
  refine au (fun hb=>?_) fun hb=>?_
  ·repeat refine sq ?_
   have hs:¬ dX l a.kn=0:=by simpa using hb
   have eW:ly l a (bf l)[i]=[]:=by unfold ly;rw[if_neg hs]
   repeat refine sq ?_
   refine aI hΓ fun K' hK=>?_
   simp only[go_sem,ae aa,ah,aj,an]
   repeat (refine⟨ao,?_⟩)
   refine hK _ ?_
   clear K' hK
   simp only[go_sem]
   refine kp [3,6,7,8,9,10] [[3,0],[6,0],[30,0],[41,0]] ?_
   repeat refine sq ?_
   refine aI hΓ fun K' hK=>?_
   simp only[go_sem,ae aa,ah,aj,an]
   repeat (refine⟨ao,?_⟩)
   refine hK _ ?_
   clear K' hK
   simp only[go_sem]
   refine⟨i+1,aa,by(show (bf l).length-(i+1)<(bf l).length-i;omega),?_⟩
   refine aT [3,6,7,8,9,10] [[3,0],[6,0],[30,0],[41,0]] ?_ ?_<;>simp only[go_sem,aO aa hl,aQ,eS,eW,vl,List.map_append,List.length_append,List.map_cons,List.map_nil,List.length_cons,List.length_nil]
  ·repeat refine sq ?_
   have hs:dX l a.kn=0:=by simpa using hb
   have eW:ly l a (bf l)[i]=j6 (eY l a.kn) (bf l)[i] a.da:=by unfold ly;rw[if_pos hs]
   repeat refine sq ?_
   refine mK hΓ hP [[],[],[],[],[2,3],[2,3,4],[],[6],[1,2,3,4,5,6,7],[1,2,3,4,5,6,7,8],bI,cz] (by kernel_rfl) fun K' hK=>?_
   simp only[go_sem,ae aa,ah,aj,an,eR]
   repeat (refine⟨by first | exact ao | exact⟨hv,BN hs⟩,?_⟩)
   first | refine⟨by rfl,?_⟩ | skip
   refine hK _ ?_
   clear K' hK
   simp only[go_sem]
   refine kp [3,6,7,8,9,10] [[3,0],[6,0],[30,0],[41,0]] ?_
   repeat refine sq ?_
   refine aI hΓ fun K' hK=>?_
   simp only[go_sem,ae aa,ah,aj,an]
   repeat (refine⟨ao,?_⟩)
   refine hK _ ?_
   clear K' hK
   simp only[go_sem]
   refine⟨i+1,aa,by(show (bf l).length-(i+1)<(bf l).length-i;omega),?_⟩
   refine aT [3,6,7,8,9,10] [[3,0],[6,0],[30,0],[41,0]] ?_ ?_<;>simp only[go_sem,aO aa hl,aQ,eS,eW,vl,List.map_append,List.length_append,List.map_cons,List.map_nil,List.length_cons,List.length_nil]
 ·have aV:i=(bf l).length:=by
   have :¬ (i:Int)<(bf l).length:=by simpa using hb
   omega
  clear hb
  subst aV
  repeat refine sq ?_
  refine be ?_
  simp only[go_sem]
  refine kp [7,9] [[30,0],[41,0]] ?_
  repeat refine sq ?_
  refine rx hΓ [4,5] [[30,0],[41,0]] (fun K' hK=>by simp only[go_sem,P6];exact ak) ?_
  refine aq ?_
  simp only[go_sem]
  all_goals exact cD
end
noncomputable section
def pv(l:Led)(a:Ask)(f:Fol):Bool:=dX l a.kn != dX (bO l a.so) a.kn||!decide (ly l a f=ly (bO l a.so) a f)
def oC(l:Led)(a:Ask):Int:=if fg l [a.da,a.kn]=0 then(if (m7 l).contains a.so=true then 0 else 3)else fg l [a.da,a.kn]
def pw(l:Led)(a:Ask):List Fol:=if oC l a=0 then(bf l).filter (pv l a)else[]
def kh(l:Led)(a:Ask)(s:Nat):List Fol:=((bf l).take s).filter (pv l a)
theorem Jg{l:Led}{a:Ask}{s:Nat}(h:s<(bf l).length):kh l a (s+1)=if pv l a (bf l)[s]=true then kh l a s++[(bf l)[s]]else kh l a s:=by
 unfold kh
 rw[List.take_add_one,List.getElem?_eq_getElem h,List.filter_append]
 by_cases hc:pv l a (bf l)[s]=true
 ·rw[if_pos hc];simp[hc]
 ·rw[if_neg hc];simp[hc]
theorem Uy(l:Led)(a:Ask)(s:Nat):(kh l a s).length<=s:=by
 unfold kh
 exact Nat.le_trans (List.length_filter_le _ _) (by simp;omega)
theorem Uz(l:Led)(a:Ask):kh l a (bf l).length=(bf l).filter (pv l a):=by unfold kh;rw[List.take_length]
theorem GP(l:Led)(a:Ask):(ot l a).length=(bf l).length:=List.length_map _
theorem GQ{l:Led}{a:Ask}{i:Nat}(h:i<(ot l a).length)(h2:i<(bf l).length):(ot l a)[i]=ly l a (bf l)[i]:=List.getElem_map (ly l a) (h:=h)
def K66:List (Nat×Spec):=[(98,rF),(125,Gl),(15,vG),(126,abT),(22,S22),(127,Gk),(24,Gd)]
theorem acn:KS K66:=tc yz.sound<|tc HC.sound<|tc yE.sound<|tc R'.sound<|tc Rz.sound<|tc HB.sound<|tc Hr.sound<|tn
attribute [go_sem] K66
@[go_sem] def P45:PSpec:=p2 iL nx (fun _ _=>True) (fun l a=>.tup [.sl ((pw l a).map ea),vInt (oC l a)]) false
@[go_sem] def S45:Spec:=P45.toSpec
set_option maxHeartbeats 8000000 in
theorem Rs:aL Tryz.prog 45 P45:=by
 refine cK (rs:=[.tmp 4,.tmp 5]) Tryz.func45 Tryz.ntmps45 fun l a hp hw=>?_
 have hP:=c8
 simp only[nx,iL,dq]at hw |-
 have hΓ:=acn
 repeat refine sq ?_
 refine rx hΓ [2,3] [[2,0],[3,0]] (fun K' hK=>by simp only[go_sem];exact ak) ?_
 repeat refine sq ?_
 refine rx hΓ [2,3,6] [[2,0],[3,0]] (fun K' hK=>by simp only[go_sem];exact ak) ?_
 repeat refine sq ?_
 refine rx hΓ [2,3,6,22] [[2,0],[3,0]] (fun K' hK=>by simp only[go_sem];exact ak) ?_
 repeat refine sq ?_
 refine au (fun hb=>?_) fun hb=>?_
 ·repeat refine sq ?_
  have hc:¬ fg l [a.da,a.kn]=0:=by simpa using hb
  have e:oC l a=fg l [a.da,a.kn]:=by unfold oC;rw[if_neg hc]
  have e2:pw l a=[]:=by unfold pw;rw[e,if_neg hc]
  repeat refine sq ?_
  refine rx hΓ [4,5] [[74,0]] (fun K' hK=>by simp only[go_sem];exact ak) ?_
  refine aq ?_
  simp only[go_sem]
  first | (rw[e,e2];done) | (rw[e,e2];rfl) | trace_state
 ·repeat refine sq ?_
  have hc:fg l [a.da,a.kn]=0:=by simpa using hb
  obtain⟨ab,_⟩:=A' hc
  have ie:BR l:=⟨ab.rsn,ab.tsn,ab.ssn⟩
  refine ay ?_
  repeat refine sq ?_
  refine dx hΓ hP [[],[0],[],[2],u4,u5] [2,3,29] [[2,0],[3,0]] (by kernel_rfl) (fun K' hK=>by simp only[go_sem];(repeat (refine⟨by first | exact ao | exact ie,?_⟩));exact iw) ?_
  repeat refine sq ?_
  refine au (fun hb=>?_) fun hb=>?_
  ·repeat refine sq ?_
   have e:oC l a=3:=by unfold oC;rw[if_pos hc,if_neg (by simpa using hb)]
   have e2:pw l a=[]:=by unfold pw;rw[e];rfl
   repeat refine sq ?_
   refine rx hΓ [4,5] [[74,0]] (fun K' hK=>by simp only[go_sem];exact ak) ?_
   refine aq ?_
   simp only[go_sem]
   first | (rw[e,e2];done) | (rw[e,e2];rfl) | trace_state
  ·repeat refine sq ?_
   have e:oC l a=0:=by unfold oC;rw[if_pos hc,if_pos (by simpa using hb)]
   have e2:pw l a=kh l a (bf l).length:=by unfold pw;rw[if_pos e,Uz]
   have dK:=xC ab
   have hl:(bf l).length<=maxLen:=by unfold maxLen;omega
   have iV:=Bt ab a.so
   have DA:=IN ab
   refine ay ?_
   repeat refine sq ?_
   refine rx hΓ [2,3,7,8] [[2,0],[3,0]] (fun K' hK=>by simp only[go_sem];(repeat (refine⟨by first | exact ao | exact ab,?_⟩));exact cF) ?_
   repeat refine sq ?_
   refine dx hΓ hP [[],[],[1],[0,1,2],[],u5,u6,u7,u7,u8,bI] [2,7,8,9,10] [[2,0]] (by kernel_rfl) (fun K' hK=>by simp only[go_sem];(repeat (refine⟨by first | exact ao | first | exact DA | exact iV,?_⟩));exact iw) ?_
   repeat refine sq ?_
   refine rx hΓ [7,8,9,10,11] [] (fun K' hK=>by simp only[go_sem];(repeat (refine⟨by first | exact ao | exact ab,?_⟩));exact cF) ?_
   repeat refine sq ?_
   refine rx hΓ [7,8,9,10,11,12] [[74,0]] (fun K' hK=>by simp only[go_sem];exact ak) ?_
   refine bH (ql 12 [74,0] 2 (by simp only[go_sem]) (by simp only[go_sem]) [7,8,9,10,11,12] [[74,0]] ?_ rfl) ?_
   ·simp only[go_sem]
   simp only[go_sem]
   repeat refine sq ?_
   refine rx hΓ [7,8,9,10,11,12,13] [[74,0]] (fun K' hK=>by simp only[go_sem];exact ak) ?_
   repeat refine sq ?_
   refine aC ?_
   repeat refine sq ?_
   refine bA (fun s:Nat=>[(13,⟨true,.v (vInt s)⟩),(12,⟨true,.msl [74,0] (kh l a s).length⟩)]) (fun s=>[([74,0],.arr 2 ((kh l a s).map ea))]) (fun s=>s<=(bf l).length) (fun s=>(bf l).length-s) 0 ?_ ?_ ?_ ?_
   ·exact Nat.zero_le _
   ·rfl
   ·rfl
   rintro i hi
   simp only[go_sem]
   repeat refine sq ?_
   refine rx hΓ [7,8,9,10,11,12,13,50] [[74,0]] (fun K' hK=>by simp only[go_sem];exact ak) ?_
   repeat refine sq ?_
   refine au (fun hb=>?_) fun hb=>?_
   ·have aa:i<(bf l).length:=by simpa using hb
    have an:(i:Int)<(bf l).length:=by omega
    clear hb
    have zX:=Uy l a i
    have h1:i<(ot l a).length:=by rw[GP];exact aa
    have h2:i<(ot (bO l a.so) a).length:=by rw[GP];exact aa
    have fe:(i:Int)<(ot l a).length:=by omega
    have ri:(i:Int)<(ot (bO l a.so) a).length:=by omega
    have e3:=GQ h1 aa
    have e4:=GQ h2 aa
    have e5:(bf (bO l a.so))[i]'aa=(bf l)[i]:=rfl
    repeat refine sq ?_
    refine ay ?_
    repeat refine sq ?_
    refine aC ?_
    repeat refine sq ?_
    refine dx hΓ hP [[],[],[0,1],[0,1,2],u4,u4,u6,u7,u4,u4,[0,1,2,3,8,9],[0,1,2,3,8,9,10],dS,fJ,eE] [7,8,9,10,11,12,13,67] [[74,0]] (by kernel_rfl) (fun K' hK=>by simp only[go_sem,ae aa,ah,aj,an,ae h1,ae h2,fe,ri,e3,e4,e5,vl,List.length_map];exact eQ) ?_
    repeat refine sq ?_
    refine au (fun hb=>?_) fun hb=>?_
    ·repeat refine sq ?_
     have eS:kh l a (i+1)=kh l a i++[(bf l)[i]]:=by rw[Jg aa,if_pos];unfold pv;simpa using hb
     repeat refine sq ?_
     refine aI hΓ fun K' hK=>?_
     simp only[go_sem,ae aa,ah,aj,an,eR]
     repeat (refine⟨ao,?_⟩)
     refine hK _ ?_
     clear K' hK
     simp only[go_sem]
     refine kp [7,8,9,10,11,12,13] [[74,0]] ?_
     repeat refine sq ?_
     refine aI hΓ fun K' hK=>?_
     simp only[go_sem,ae aa,ah,aj,an]
     repeat (refine⟨ao,?_⟩)
     refine hK _ ?_
     clear K' hK
     simp only[go_sem]
     refine⟨i+1,aa,by(show (bf l).length-(i+1)<(bf l).length-i;omega),?_⟩
     refine aT [7,8,9,10,11,12,13] [[74,0]] ?_ ?_<;>simp only[go_sem,aO aa hl,aQ,eS,List.map_append,List.length_append,List.map_cons,List.map_nil,List.length_cons,List.length_nil]
    ·repeat refine sq ?_
     have eS:kh l a (i+1)=kh l a i:=by rw[Jg aa,if_neg];unfold pv;simpa using hb
     refine ay ?_
     refine br ?_
     simp only[go_sem]
     refine kp [7,8,9,10,11,12,13] [[74,0]] ?_
     repeat refine sq ?_
     refine aI hΓ fun K' hK=>?_
     simp only[go_sem,ae aa,ah,aj,an]
     repeat (refine⟨ao,?_⟩)
     refine hK _ ?_
     clear K' hK
     simp only[go_sem]
     refine⟨i+1,aa,by(show (bf l).length-(i+1)<(bf l).length-i;omega),?_⟩
     refine aT [7,8,9,10,11,12,13] [[74,0]] ?_ ?_<;>simp only[go_sem,aO aa hl,aQ,eS,List.map_append,List.length_append,List.map_cons,List.map_nil,List.length_cons,List.length_nil]
   ·have aV:i=(bf l).length:=by
     have :¬ (i:Int)<(bf l).length:=by simpa using hb
     omega
    clear hb
    subst aV
    repeat refine sq ?_
    refine be ?_
    simp only[go_sem]
    refine kp [12] [[74,0]] ?_
    repeat refine sq ?_
    refine rx hΓ [4,5] [[74,0]] (fun K' hK=>by simp only[go_sem];exact ak) ?_
    refine aq ?_
    simp only[go_sem]
    first | (rw[e,e2];done) | (rw[e,e2];rfl) | trace_state
end
noncomputable section
def wJ(l:Led)(so:Int):Int:=cf (fun t=>t.so==so) l.ts
@[go_sem] def P48:PSpec:=p2 iL iI (fun l _=>l.ts.length<=60) (fun l so=>vInt (wJ l so)) true
@[go_sem] def S48:Spec:=P48.toSpec
set_option maxHeartbeats 8000000 in
theorem Rp:aL Tryz.prog 48 P48:=by
 refine cK (rs:=[.tmp 4]) Tryz.func48 Tryz.ntmps48 fun l so hp hw=>?_
 simp only[iI,iL,dq]at hw |-
 have hΓ:=@dT Tryz.prog
 have hl:l.ts.length<=maxLen:=by unfold maxLen;omega
 repeat refine sq ?_
 refine rx hΓ [1,2] [[2,0]] (fun K' hK=>by simp only[go_sem];exact ak) ?_
 repeat refine sq ?_
 refine rx hΓ [1,2,5] [[2,0]] (fun K' hK=>by simp only[go_sem];exact ak) ?_
 repeat refine sq ?_
 refine aC ?_
 repeat refine sq ?_
 refine bA (fun s:Nat=>[(5,⟨true,.v (vInt s)⟩)]) (fun s=>[]) (fun s=>s<=l.ts.length/\∀ j (hj:j<l.ts.length),j<s->(l.ts[j].so==so)=false) (fun s=>l.ts.length-s) 0 ?_ ?_ ?_ ?_
 ·exact⟨Nat.zero_le _,fun j _ h=>by omega⟩
 ·rfl
 ·rfl
 rintro i ⟨hi,hR⟩
 simp only[go_sem]
 repeat refine sq ?_
 refine rx hΓ [1,2,5,10] [[2,0]] (fun K' hK=>by simp only[go_sem];exact ak) ?_
 repeat refine sq ?_
 refine au (fun hb=>?_) fun hb=>?_
 ·have aa:i<l.ts.length:=by simpa using hb
  have an:(i:Int)<l.ts.length:=by omega
  clear hb
  repeat refine sq ?_
  refine ay ?_
  repeat refine sq ?_
  refine aC ?_
  repeat refine sq ?_
  refine rx hΓ [1,2,5,20] [[2,0]] (fun K' hK=>by simp only[go_sem,ae aa,ah,aj,an];exact ak) ?_
  repeat refine sq ?_
  refine au (fun hb=>?_) fun hb=>?_
  ·repeat refine sq ?_
   have e:wJ l so=i:=lM aa (by simpa using hb) (fun j hj dB=>hR j hj dB)
   repeat refine sq ?_
   refine rx hΓ [4] [] (fun K' hK=>by simp only[go_sem,ae aa,ah,aj,an];exact ak) ?_
   refine aq ?_
   simp only[go_sem]
   rw[e]
  ·repeat refine sq ?_
   refine ay ?_
   refine br ?_
   simp only[go_sem]
   refine kp [1,2,5] [[2,0]] ?_
   repeat refine sq ?_
   refine aI hΓ fun K' hK=>?_
   simp only[go_sem,ae aa,ah,aj,an]
   repeat (refine⟨ao,?_⟩)
   refine hK _ ?_
   clear K' hK
   simp only[go_sem]
   refine⟨i+1,⟨aa,?_⟩,by(show l.ts.length-(i+1)<l.ts.length-i;omega),?_⟩
   ·intro j hj dB
    rcases Nat.lt_succ_iff_lt_or_eq.1 dB with h5 | rfl
    ·exact hR j hj h5
    ·simpa using hb
   refine aT [1,2,5] [[2,0]] ?_ ?_<;>simp only[go_sem,aO aa hl,aQ]
 ·have aV:i=l.ts.length:=by
   have :¬ (i:Int)<l.ts.length:=by simpa using hb
   omega
  clear hb
  subst aV
  repeat refine sq ?_
  refine be ?_
  simp only[go_sem]
  refine kp [] [] ?_
  repeat refine sq ?_
  refine rx hΓ [4] [] (fun K' hK=>by simp only[go_sem];exact ak) ?_
  refine aq ?_
  simp only[go_sem]
  have e:wJ l so= -1:=oG fun j hj=>hR j hj hj
  rw[e]
end
noncomputable section
def jA(x:Vw)(n:Nat):Nat->List Int
 | 0=>List.replicate n 0
 |m+1=>(jA x n m).set (x.ts.getD m 0).toNat (bt x.ds (x.ts.getD m 0)).1
theorem vD(x:Vw)(n m:Nat):(jA x n m).length=n:=by
 induction m with
 |zero=>simp[jA]
 |succ m ih=>rw[jA,List.length_set,ih]
theorem aa'(x:Vw)(n:Nat):List.replicate n (vInt 0)=(jA x n 0).map vInt:=by rw[jA,List.map_replicate]
def rC(x:Vw)(n:Nat):List Int:=jA x n x.ts.length
def gi(l:Led)(so k:Int)(la:Bool):List Int:=if i5 l so k=0 then(if la then(rC (aW (ax l k) k) l.ts.length).set (jh l so k).toNat (bt (aW (ax l k) k).ds (jh l so k)).2 else rC (aW (ax l k) k) l.ts.length)else[]
theorem SA{l:Led}{so k:Int}(h:gQ l so k=0):0<=jh l so k/\jh l so k<l.ts.length:=by
 have h':=h
 unfold gQ at h'
 split at h'
 ·rename_i hc
  have ab:=(mG hc).1
  obtain⟨hv,-⟩:=qH ab k
  unfold jh
  rw[if_pos hc]
  cases hr:m9 l so k with
  |none=>rw[hr]at h';cases h'
  |some i=>
   unfold m9 at hr
   have :=hv.ts i (List.mem_of_find?_eq_some hr)
   rw[sg]at this
   exact this
 ·rename_i hc;exact(hc h').elim
def K68:List (Nat×Spec):=[(97,OW),(78,S78)]
theorem acm:KS K68:=tc Q6.sound<|tc Dd<|tn
attribute [go_sem] K68
@[go_sem] def P47:PSpec:=p4 iL iI iI iB (fun _ _ _ _=>True) (fun l so k la=>.tup [.sl ((gi l so k la).map vInt),vInt (i5 l so k)]) false
@[go_sem] def S47:Spec:=P47.toSpec
set_option maxHeartbeats 8000000 in
theorem Rq:aL Tryz.prog 47 P47:=by
 refine rO (rs:=[.tmp 8,.tmp 9]) Tryz.func47 Tryz.ntmps47 fun l so k la hp hw=>?_
 simp only[iB,iI,iL,dq]at hw |-
 have hΓ:=acm
 repeat refine sq ?_
 refine rx hΓ [1,2,3,4] [[4,0]] (fun K' hK=>by simp only[go_sem];exact ak) ?_
 refine bH (cZ 4 (.ref [4,0] 0) (by simp only[go_sem]) (by simp only[go_sem]) [1,2,3,4] [[4,0]] ?_ rfl) ?_
 ·simp only[go_sem]
 simp only[go_sem]
 repeat refine sq ?_
 refine rx hΓ [2,3,4,10,11] [[4,0]] (fun K' hK=>by simp only[go_sem];exact ak) ?_
 repeat refine sq ?_
 refine rx hΓ [2,3,4,10,11,24] [[4,0]] (fun K' hK=>by simp only[go_sem];exact ak) ?_
 repeat refine sq ?_
 refine au (fun hb=>?_) fun hb=>?_
 ·repeat refine sq ?_
  have hc:¬ gQ l so k=0:=by simpa using hb
  have e:i5 l so k=gQ l so k:=by unfold i5;rw[if_neg hc]
  have e2:gi l so k la=[]:=by unfold gi;rw[e,if_neg hc]
  repeat refine sq ?_
  refine rx hΓ [8,9] [[37,0]] (fun K' hK=>by simp only[go_sem];exact ak) ?_
  refine aq ?_
  simp only[go_sem]
  first | (rw[e,e2];done) | (rw[e,e2];rfl) | exact⟨fG.symm,by rw[e,e2]⟩ | (refine⟨?_,by rw[e,e2]⟩;rw[List.length_set];exact fG.symm) | trace_state
 ·repeat refine sq ?_
  have hc:gQ l so k=0:=by simpa using hb
  obtain⟨ab,_⟩:=yH hc
  have e:i5 l so k=eS l k:=by unfold i5;rw[if_pos hc]
  refine ay ?_
  rcases mn:kI l k with _ | _
  ·obtain⟨q1,q2,q3⟩:=tX mn
   have q4:¬ eS l k=0:=by simpa using q3
   have e2:gi l so k la=[]:=by unfold gi;rw[e,if_neg q4]
   repeat refine sq ?_
   refine rx hΓ [3,4,10,11,12] [[4,0],[26,0,11,0,11,0,28,0],[23,0,11,0,11,0,28,0],[24,0,11,0,11,0,28,0]] (fun K' hK=>by simp only[go_sem,q1,q2,q3];(repeat (refine⟨by first | exact ao | exact ab,?_⟩));exact cF) ?_
   repeat refine sq ?_
   refine rx hΓ [3,4,10,11,12,32] [[4,0],[26,0,11,0,11,0,28,0],[23,0,11,0,11,0,28,0],[24,0,11,0,11,0,28,0]] (fun K' hK=>by simp only[go_sem,q1,q2,q3];exact ak) ?_
   repeat refine sq ?_
   refine au (fun hb=>?_) fun hb=>?_
   ·repeat refine sq ?_
    refine rx hΓ [8,9] [[37,0]] (fun K' hK=>by simp only[go_sem,q1,q2,q3];exact ak) ?_
    refine aq ?_
    simp only[go_sem]
    first | (rw[e,e2];done) | (rw[e,e2];rfl) | exact⟨fG.symm,by rw[e,e2]⟩ | (refine⟨?_,by rw[e,e2]⟩;rw[List.length_set];exact fG.symm) | trace_state
   ·cases hb
  ·obtain⟨q1,q2,q3⟩:=tW mn
   obtain⟨hv,ca⟩:=vS ab k
   obtain⟨zA,dZ⟩:=SA hc
   have e3:gi l so k la=if la then(rC (aW (ax l k) k) l.ts.length).set (jh l so k).toNat (bt (aW (ax l k) k).ds (jh l so k)).2 else rC (aW (ax l k) k) l.ts.length:=by unfold gi;rw[e,if_pos q3]
   rw[q3]at e
   have ml:=hv.tn
   have htm:=ab.tsn
   have hl:(aW (ax l k) k).ts.length<=maxLen:=by unfold maxLen;omega
   have fP:l.ts.length<=maxLen:=by unfold maxLen;omega
   repeat refine sq ?_
   refine rx hΓ [3,4,10,11,12] [[4,0],[26,0,11,0,11,0,28,0],[23,0,11,0,11,0,28,0],[24,0,11,0,11,0,28,0]] (fun K' hK=>by simp only[go_sem,q1,q2];(repeat (refine⟨by first | exact ao | exact ab,?_⟩));exact cF) ?_
   repeat refine sq ?_
   refine rx hΓ [3,4,10,11,12,32] [[4,0],[26,0,11,0,11,0,28,0],[23,0,11,0,11,0,28,0],[24,0,11,0,11,0,28,0]] (fun K' hK=>by simp only[go_sem,q1,q2];exact ak) ?_
   repeat refine sq ?_
   refine au (fun hb=>?_) fun hb=>?_
   ·cases hb
   ·repeat refine sq ?_
    refine ay ?_
    repeat refine sq ?_
    refine rx hΓ [3,10,12,13] [[37,0],[26,0,11,0,11,0,28,0],[23,0,11,0,11,0,28,0],[24,0,11,0,11,0,28,0]] (fun K' hK=>by simp only[go_sem,q1,q2,List.length_map,ah,aa' (aW (ax l k) k) l.ts.length];exact ak) ?_
    repeat refine sq ?_
    refine rx hΓ [3,10,12,13,41,42,43] [[37,0],[26,0,11,0,11,0,28,0],[23,0,11,0,11,0,28,0],[24,0,11,0,11,0,28,0]] (fun K' hK=>by simp only[go_sem,q1,q2];exact ak) ?_
    repeat refine sq ?_
    refine aC ?_
    repeat refine sq ?_
    refine bA (fun s:Nat=>[(43,⟨true,.v (vInt s)⟩)]) (fun s=>[([37,0],.arr 1 ((jA (aW (ax l k) k) l.ts.length s).map vInt))]) (fun s=>s<=(aW (ax l k) k).ts.length) (fun s=>(aW (ax l k) k).ts.length-s) 0 ?_ ?_ ?_ ?_
    ·exact Nat.zero_le _
    ·rfl
    ·rfl
    rintro i hi
    simp only[go_sem]
    repeat refine sq ?_
    refine rx hΓ [3,10,12,13,41,42,43,44] [[37,0],[26,0,11,0,11,0,28,0],[23,0,11,0,11,0,28,0],[24,0,11,0,11,0,28,0]] (fun K' hK=>by simp only[go_sem,q1,q2];exact ak) ?_
    repeat refine sq ?_
    refine au (fun hb=>?_) fun hb=>?_
    ·have aa:i<(aW (ax l k) k).ts.length:=by simpa using hb
     have an:(i:Int)<(aW (ax l k) k).ts.length:=by omega
     clear hb
     have fG:=vD (aW (ax l k) k) l.ts.length i
     obtain⟨cq,dW⟩:=hv.ts _ (List.getElem_mem aa)
     rw[G3]at dW
     have eT:jA (aW (ax l k) k) l.ts.length (i+1)=(jA (aW (ax l k) k) l.ts.length i).set ((aW (ax l k) k).ts[i]).toNat (bt (aW (ax l k) k).ds (aW (ax l k) k).ts[i]).1:=by rw[jA,dd aa]
     repeat refine sq ?_
     refine ay ?_
     repeat refine sq ?_
     refine aC ?_
     repeat refine sq ?_
     refine rx hΓ [3,10,12,13,15,41,42,43] [[37,0],[26,0,11,0,11,0,28,0],[23,0,11,0,11,0,28,0],[24,0,11,0,11,0,28,0]] (fun K' hK=>by simp only[go_sem,q1,q2,ae aa,ah,aj,an];exact ak) ?_
     repeat refine sq ?_
     refine aI hΓ fun K' hK=>?_
     simp only[go_sem,q1,q2,ae aa,ah,aj,an,cq,dW,iO,yy,fG,List.length_map]
     repeat (refine⟨ao,?_⟩)
     refine hK _ ?_
     clear K' hK
     simp only[go_sem]
     refine kp [3,10,12,13,41,42,43] [[37,0],[26,0,11,0,11,0,28,0],[23,0,11,0,11,0,28,0],[24,0,11,0,11,0,28,0]] ?_
     repeat refine sq ?_
     refine aI hΓ fun K' hK=>?_
     simp only[go_sem,q1,q2,ae aa,ah,aj,an]
     repeat (refine⟨ao,?_⟩)
     refine hK _ ?_
     clear K' hK
     simp only[go_sem]
     refine⟨i+1,aa,by(show (aW (ax l k) k).ts.length-(i+1)<(aW (ax l k) k).ts.length-i;omega),?_⟩
     refine aT [3,10,12,13,41,42,43] [[37,0],[26,0,11,0,11,0,28,0],[23,0,11,0,11,0,28,0],[24,0,11,0,11,0,28,0]] ?_ ?_<;>simp only[go_sem,aO aa hl,aQ,eT]
    ·have aV:i=(aW (ax l k) k).ts.length:=by
      have :¬ (i:Int)<(aW (ax l k) k).ts.length:=by simpa using hb
      omega
     clear hb
     subst aV
     have fG:=vD (aW (ax l k) k) l.ts.length (aW (ax l k) k).ts.length
     repeat refine sq ?_
     refine be ?_
     simp only[go_sem]
     refine kp [3,10,12,13] [[37,0],[26,0,11,0,11,0,28,0],[23,0,11,0,11,0,28,0],[24,0,11,0,11,0,28,0]] ?_
     repeat refine sq ?_
     refine rx hΓ [10,12,13,58] [[37,0],[26,0,11,0,11,0,28,0],[23,0,11,0,11,0,28,0],[24,0,11,0,11,0,28,0]] (fun K' hK=>by simp only[go_sem,q1,q2];exact ak) ?_
     repeat refine sq ?_
     refine au (fun hb=>?_) fun hb=>?_
     ·repeat refine sq ?_
      have e2:gi l so k la=(jA (aW (ax l k) k) l.ts.length (aW (ax l k) k).ts.length).set (jh l so k).toNat (bt (aW (ax l k) k).ds (jh l so k)).2:=by rw[e3,if_pos (by simpa using hb)];rfl
      repeat refine sq ?_
      refine rx hΓ [13] [[37,0]] (fun K' hK=>by simp only[go_sem,q1,q2,zA,dZ,iO,yy,fG,List.length_map];exact ak) ?_
      repeat refine sq ?_
      refine rx hΓ [8,9] [[37,0]] (fun K' hK=>by simp only[go_sem,q1,q2];exact ak) ?_
      refine aq ?_
      simp only[go_sem]
      first | (rw[e,e2];done) | (rw[e,e2];rfl) | exact⟨fG.symm,by rw[e,e2]⟩ | (refine⟨?_,by rw[e,e2]⟩;rw[List.length_set];exact fG.symm) | trace_state
     ·repeat refine sq ?_
      have e2:gi l so k la=jA (aW (ax l k) k) l.ts.length (aW (ax l k) k).ts.length:=by rw[e3,if_neg (by simpa using hb)];rfl
      refine ay ?_
      repeat refine sq ?_
      refine rx hΓ [8,9] [[37,0]] (fun K' hK=>by simp only[go_sem,q1,q2];exact ak) ?_
      refine aq ?_
      simp only[go_sem]
      first | (rw[e,e2];done) | (rw[e,e2];rfl) | exact⟨fG.symm,by rw[e,e2]⟩ | (refine⟨?_,by rw[e,e2]⟩;rw[List.length_set];exact fG.symm) | trace_state
end
set_option maxHeartbeats 8000000
noncomputable section
def gH(l:Led)(p:Fol->Bool)(s:Nat):List Fol:=((bf l).take s).filter p
theorem MT{l:Led}{p:Fol->Bool}{s:Nat}(h:s<(bf l).length):gH l p (s+1)=gH l p s++(if p (bf l)[s]=true then[(bf l)[s]]else[]):=yt h
theorem MU(l:Led)(p:Fol->Bool)(s:Nat):(gH l p s).length<=(bf l).length:=Nat.le_trans (List.length_filter_le _ _) (by simp;omega)
theorem Ag(l:Led)(p:Fol->Bool):gH l p (bf l).length=(bf l).filter p:=by unfold gH;rw[List.take_length]
def jM(x y:Vw)(day:Int)(f:Fol):Bool:=!decide (tO x f.pa f.le day=tO y f.pa f.le day)
def fX(e f:Int)(_:Fol):Bool:=e != f
theorem wz{Ls:List Name}(h:Ls.length=10):∃ a0 a1 a2 a3 a4 a5 a6 a7 a8 a9,Ls=[a0,a1,a2,a3,a4,a5,a6,a7,a8,a9]:=by
 match Ls,h with
 |[a0,a1,a2,a3,a4,a5,a6,a7,a8,a9],_=>exact⟨a0,a1,a2,a3,a4,a5,a6,a7,a8,a9,rfl⟩
theorem wy{Ls:List Name}(h:Ls.length=2):∃ a0 a1,Ls=[a0,a1]:=by
 match Ls,h with
 |[a0,a1],_=>exact⟨a0,a1,rfl⟩
def kg(l:Led)(x y:Vw)(day:Int):Lp where
 m:=10
 env:=fun Ls=>(List.range 82).map (dH eAny [(6,⟨true,.v (.ptr [vInt day])⟩),(12,⟨true,.ref (Ls.getD 0 []) 0⟩),(13,⟨true,.v (.ptr [vInt 0])⟩),(14,⟨true,.ref (Ls.getD 4 []) 0⟩),(15,⟨true,.v (.ptr [vInt 0])⟩),(16,⟨true,.ref (Ls.getD 8 []) 0⟩),(56,⟨true,.v (.clo (.func 182) [] [.ptr [eV l]])⟩)])
 fam:=fun Ls s=>[.box [.ref (Ls.getD 1 []) 0],bg x (Ls.getD 2 []) (Ls.getD 3 []),.map 2 (bM x.bk),.map 0 (bE x.ds),.box [.ref (Ls.getD 5 []) 0],bg y (Ls.getD 6 []) (Ls.getD 7 []),.map 2 (bM y.bk),.map 0 (bE y.ds),.box [.msl (Ls.getD 9 []) (gH l (jM x y day) s).length],.arr 2 ((gH l (jM x y day) s).map ea)]
 ps:=(jI Tryz.f21).1.toList
 asg:=(jI Tryz.f21).2.1
 body:=(jI Tryz.f21).2.2
 n:=(bf l).length
 vals:=fun s=>[lC ((bf l).getD s default)]
 st:=fun _=>none
 fu:=100
theorem CJ{l:Led}(ab:bp l)(x y:Vw)(day:Int):(kg l x y day).Ok where
 len:=fun Ls s _=>rfl
 renE:=fun f Ls h=>by obtain⟨a0,a1,a2,a3,a4,a5,a6,a7,a8,a9,rfl⟩:=wz h;rfl
 renF:=fun f Ls s h=>by obtain⟨a0,a1,a2,a3,a4,a5,a6,a7,a8,a9,rfl⟩:=wz h;rfl
 reach:=fun Ls s obj acc q h ca hd hF=>by
  obtain⟨a0,a1,a2,a3,a4,a5,a6,a7,a8,a9,rfl⟩:=wz h
  obtain⟨h1,h2,h3,h4,h5,h6,h7,h8,h9,pY,_⟩:=hF
  have en:cA (((kg l x y day).env [a0,a1,a2,a3,a4,a5,a6,a7,a8,a9]).map (·.d))=[a0,a4,a8]:=rfl
  rw[en]
  show c6 obj (q+84+1+1+1+1+1+1+1+1+1+1+1+1+1+1+1+1) _ acc=_
  simp only[List.mem_cons,List.not_mem_nil,or_false,forall_eq_or_imp,forall_eq]at hd
  obtain⟨d1,d2,d3,d4,d5,d6,d7,d8,d9,d10⟩:=hd
  simp only[List.nodup_cons,List.mem_cons,List.not_mem_nil,or_false,not_or,not_false_eq_true,List.nodup_nil,and_true]at ca
  obtain⟨⟨CH,Ut,Us,Ur,Uq,Up,Uo,Un,Um⟩,⟨Ul,Uk,Uj,Ui,Uh,Ug,Uf,Ue⟩,⟨Uc,Ub,Ua,T9,T8,T7,T6⟩,⟨T5,T4,T3,TZ,TY,TX⟩,⟨TW,TV,TU,TT,TS⟩,⟨TR,TQ,TP,TO⟩,⟨TN,TM,TL⟩,⟨TK,TJ⟩,TI⟩:=ca
  simp[c6,gD,h1,h2,h3,h4,h5,h6,h7,h8,h9,pY,jK,cA,jL,bg,d1,d2,d3,d4,d5,d6,d7,d8,d9,d10,Ne.symm CH,Ne.symm Ut,Ne.symm Us,Ne.symm Ur,Ne.symm Uq,Ne.symm Up,Ne.symm Uo,Ne.symm Un,Ne.symm Um,Ne.symm Ul,Ne.symm Uk,Ne.symm Uj,Ne.symm Ui,Ne.symm Uh,Ne.symm Ug,Ne.symm Uf,Ne.symm Ue,Ne.symm Uc,Ne.symm Ub,Ne.symm Ua,Ne.symm T9,Ne.symm T8,Ne.symm T7,Ne.symm T6,Ne.symm T5,Ne.symm T4,Ne.symm T3,Ne.symm TZ,Ne.symm TY,Ne.symm TX,Ne.symm TW,Ne.symm TV,Ne.symm TU,Ne.symm TT,Ne.symm TS,Ne.symm TR,Ne.symm TQ,Ne.symm TP,Ne.symm TO,Ne.symm TN,Ne.symm TM,Ne.symm TL,Ne.symm TK,Ne.symm TJ,Ne.symm TI]
 closE:=fun dom Ls h hd=>by
  obtain⟨a0,a1,a2,a3,a4,a5,a6,a7,a8,a9,rfl⟩:=wz h
  have h1:=hd a0 (by simp)
  have h2:=hd a4 (by simp)
  have h3:=hd a8 (by simp)
  simp[kg,List.range,List.range.loop,dH,D.closL,D.clos,eAny,h1,h2,h3]
 closF:=fun dom Ls s h hd o ho=>by
  obtain⟨a0,a1,a2,a3,a4,a5,a6,a7,a8,a9,rfl⟩:=wz h
  have h1:=hd a1 (by simp)
  have h2:=hd a2 (by simp)
  have h3:=hd a3 (by simp)
  have h4:=hd a5 (by simp)
  have h5:=hd a6 (by simp)
  have h6:=hd a7 (by simp)
  have h7:=hd a9 (by simp)
  simp only[kg,List.mem_cons,List.not_mem_nil,or_false]at ho
  rcases ho with rfl | rfl | rfl | rfl | rfl | rfl | rfl | rfl | rfl | rfl<;>simp[O.clos,D.closL,D.clos,bg,h1,h2,h3,h4,h5,h6,h7]
 psz:=fun Ls h=>by rfl
 args:=fun s=>by rfl
 fuel:=(show (100:Nat)<=2000 by decide)
 vnam:=fun _=>rfl
 vcl:=fun _ _=>rfl
 vren:=fun _ _=>rfl
 inj:=MV (MY ab)
def fW(l:Led)(e f:Int):Lp where
 m:=2
 env:=fun Ls=>(List.range 82).map (dH eAny [(13,⟨true,.v (.ptr [vInt e])⟩),(15,⟨true,.v (.ptr [vInt f])⟩),(16,⟨true,.ref (Ls.getD 0 []) 0⟩),(56,⟨true,.v (.clo (.func 182) [] [.ptr [eV l]])⟩)])
 fam:=fun Ls s=>[.box [.msl (Ls.getD 1 []) (gH l (fX e f) s).length],.arr 2 ((gH l (fX e f) s).map ea)]
 ps:=(jI Tryz.f21).1.toList
 asg:=(jI Tryz.f21).2.1
 body:=(jI Tryz.f21).2.2
 n:=(bf l).length
 vals:=fun s=>[lC ((bf l).getD s default)]
 st:=fun _=>none
 fu:=100
theorem sd{l:Led}(ab:bp l)(e f:Int):(fW l e f).Ok where
 len:=fun Ls s _=>rfl
 renE:=fun f Ls h=>by obtain⟨a0,a1,rfl⟩:=wy h;rfl
 renF:=fun f Ls s h=>by obtain⟨a0,a1,rfl⟩:=wy h;rfl
 reach:=fun Ls s obj acc q h ca hd hF=>by
  obtain⟨a0,a1,rfl⟩:=wy h
  obtain⟨h1,h2,_⟩:=hF
  have en:cA (((fW l e f).env [a0,a1]).map (·.d))=[a0]:=rfl
  rw[en]
  show c6 obj (q+92+1+1+1+1+1+1+1+1) _ acc=_
  simp only[List.mem_cons,List.not_mem_nil,or_false,forall_eq_or_imp,forall_eq]at hd
  obtain⟨d1,d2⟩:=hd
  simp only[List.nodup_cons,List.mem_cons,List.not_mem_nil,or_false,not_or,not_false_eq_true,List.nodup_nil,and_true]at ca
  have CH:=ca
  simp[c6,gD,h1,h2,jK,cA,jL,bg,d1,d2,Ne.symm CH]
 closE:=fun dom Ls h hd=>by
  obtain⟨a0,a1,rfl⟩:=wy h
  have h1:=hd a0 (by simp)
  simp[fW,List.range,List.range.loop,dH,D.closL,D.clos,eAny,h1]
 closF:=fun dom Ls s h hd o ho=>by
  obtain⟨a0,a1,rfl⟩:=wy h
  have h1:=hd a1 (by simp)
  simp only[fW,List.mem_cons,List.not_mem_nil,or_false]at ho
  rcases ho with rfl | rfl<;>simp[O.clos,D.closL,D.clos,bg,h1]
 psz:=fun Ls h=>by rfl
 args:=fun s=>by rfl
 fuel:=(show (100:Nat)<=2000 by decide)
 vnam:=fun _=>rfl
 vcl:=fun _ _=>rfl
 vren:=fun _ _=>rfl
 inj:=MV (MY ab)
def K69a:List (Nat×Spec):=[(80,S80),(94,S94)]
theorem Po:KS K69a:=tc WU<|tc Q8.sound<|tn
attribute [go_sem] K69a
theorem Uu{l:Led}(ab:bp l){x y:Vw}(hv:l4 x)(ca:x.rs.Nodup)(sr:l4 y)(uX:y.rs.Nodup)(day:Int):aM Tryz.prog yid (kg l x y day).y.toSpec:=by
 refine Lp.y_sound (CJ ab x y day) fun s hs _=>?_
 have hΓ:=Po
 have hP:=c8
 have fN:s<(bf l).length:=hs
 have sP:(kg l x y day).fam (LR 10) s=[.box [.ref [1,1] 0],bg x [2,1] [3,1],.map 2 (bM x.bk),.map 0 (bE x.ds),.box [.ref [5,1] 0],bg y [6,1] [7,1],.map 2 (bM y.bk),.map 0 (bE y.ds),.box [.msl [9,1] (gH l (jM x y day) s).length],.arr 2 ((gH l (jM x y day) s).map ea)]:=rfl
 have sO:(kg l x y day).fam (LR 10) (s+1)=[.box [.ref [1,1] 0],bg x [2,1] [3,1],.map 2 (bM x.bk),.map 0 (bE x.ds),.box [.ref [5,1] 0],bg y [6,1] [7,1],.map 2 (bM y.bk),.map 0 (bE y.ds),.box [.msl [9,1] (gH l (jM x y day) (s+1)).length],.arr 2 ((gH l (jM x y day) (s+1)).map ea)]:=rfl
 have cL:(kg l x y day).st s=none:=rfl
 have Du:(kg l x y day).vals s=[lC ((bf l)[s])]:=by rw[<-dd (z:=default) fN];rfl
 have hm:(kg l x y day).m=10:=rfl
 have DU:(gH l (jM x y day) s).length<=360:=Nat.le_trans (MU l _ s) (xC ab)
 rw[hm,sP,sO,cL,Du,MT fN]
 generalize (bf l)[s]=fo
 generalize gH l (jM x y day) s=ou at *
 generalize dN:([.box [.ref [1,1] 0],bg x [2,1] [3,1],.map 2 (bM x.bk),.map 0 (bE x.ds),.box [.ref [5,1] 0],bg y [6,1] [7,1],.map 2 (bM y.bk),.map 0 (bE y.ds),.box [.msl [9,1] ou.length],.arr 2 (ou.map ea)]:List O)=os
 have hO:∀ hs,bG [0] (bC [0] hs) (aS os)=True:=by
  subst dN
  refine fun hs=>eq_true (lE ?_ hs)
  intro o ho dom hd
  simp only[List.mem_cons,List.not_mem_nil,or_false]at ho
  rcases ho with rfl | rfl | rfl | rfl | rfl | rfl | rfl | rfl | rfl | rfl<;>simp[O.clos,D.closL,D.clos,bg,hd]
 have h0:aS os [0,1]=some (.box [.ref [1,1] 0]):=by subst dN;rfl
 have h1:aS os [1,1]=some (bg x [2,1] [3,1]):=by subst dN;rfl
 have h2:aS os [2,1]=some (.map 2 (bM x.bk)):=by subst dN;rfl
 have h3:aS os [3,1]=some (.map 0 (bE x.ds)):=by subst dN;rfl
 have h4:aS os [4,1]=some (.box [.ref [5,1] 0]):=by subst dN;rfl
 have h5:aS os [5,1]=some (bg y [6,1] [7,1]):=by subst dN;rfl
 have h6:aS os [6,1]=some (.map 2 (bM y.bk)):=by subst dN;rfl
 have h7:aS os [7,1]=some (.map 0 (bE y.ds)):=by subst dN;rfl
 have h8:aS os [8,1]=some (.box [.msl [9,1] ou.length]):=by subst dN;rfl
 have h9:aS os [9,1]=some (.arr 2 (ou.map ea)):=by subst dN;rfl
 generalize hH:aS os=H at *
 clear dN hH
 obtain⟨fp,fl⟩:=fo
 simp only[bg]at h1 h5 |-
 have gm:jI Tryz.f21=(_,_,_):=rfl
 refine rr (vM 82 [0] H [(6,⟨true,.v (.ptr [vInt day])⟩),(12,⟨true,.ref [0,1] 0⟩),(13,⟨true,.v (.ptr [vInt 0])⟩),(14,⟨true,.ref [4,1] 0⟩),(15,⟨true,.v (.ptr [vInt 0])⟩),(16,⟨true,.ref [8,1] 0⟩),(57,⟨true,lC ⟨fp,fl⟩⟩)] [] rfl rfl (fun _ _=>rfl) ?_ (by simp) ?_ ?_) ?_
 ·intro q hq
  simp only[List.mem_cons,List.not_mem_nil,or_false]at hq
  rcases hq with rfl | rfl | rfl | rfl | rfl | rfl | rfl<;>rfl
 ·simp[D.clos,D.closL,bC,own,lC]
 ·rw[hO];trivial
 simp only[kg,gm,lC]
 refine gr ?_
 repeat refine sq ?_
 refine aI hΓ fun K' hK=>?_
 simp only[go_sem,hO,h0,h1,h2,h3,h4,h5,h6,h7,h8,h9]
 repeat (refine⟨ao,?_⟩)
 refine hK _ ?_
 clear K' hK
 try simp only[go_sem]
 (show CW _ _ _ _)
 refine gr ?_
 repeat refine sq ?_
 refine aC ?_
 repeat refine sq ?_
 refine dx hΓ hP [[],[],[0,1],[0,1,2],u4,u5,u6,u7,u7,u7,bI,u7,u7,u7,eE,lx,u16,iG,gO] [6,12,13,14,15,16,17,76] [[6,0],[12,0],[13,0],[14,0],[15,0],[16,0],[17,0],[80,0]] (by kernel_rfl) (fun K' hK=>by simp only[go_sem,hO,h0,h1,h2,h3,h4,h5,h6,h7,h8,h9,VSpec.foot];(repeat (refine⟨by first | exact ao | exact⟨hv,ca⟩ | exact⟨sr,uX⟩,?_⟩));(first | refine⟨by rfl,?_⟩ | skip);exact hK _ (by simp only[go_sem,hO,h0,h1,h2,h3,h4,h5,h6,h7,h8,h9,VSpec.foot]) (by simp only[go_sem,hO,h0,h1,h2,h3,h4,h5,h6,h7,h8,h9,VSpec.foot]<;>rfl)) ?_
 repeat refine sq ?_
 refine au (fun hb=>?_) fun hb=>?_
 ·repeat refine sq ?_
  refine aI hΓ fun K' hK=>?_
  simp only[go_sem,hO,h0,h1,h2,h3,h4,h5,h6,h7,h8,h9]
  repeat (refine⟨ao,?_⟩)
  refine hK _ ?_
  clear K' hK
  try simp only[go_sem]
  refine br ?_
  rw[if_pos (show jM x y day ⟨fp,fl⟩=true from hb)]
  refine⟨rfl,?_⟩
  show ct _ [[0,1],[1,1],[2,1],[3,1],[4,1],[5,1],[6,1],[7,1],[8,1],[9,1]] _
  simp only[ct,go_sem,h0,h1,h2,h3,h4,h5,h6,h7,h8,h9,List.map_append,List.map_cons,List.map_nil,List.length_append,List.length_cons,List.length_nil]
 ·repeat refine sq ?_
  refine ay ?_
  refine br ?_
  simp only[go_sem]
  rw[if_neg (show ¬ jM x y day ⟨fp,fl⟩=true from fun h=>by rw[show jM x y day ⟨fp,fl⟩=false from hb]at h;cases h),List.append_nil]
  refine⟨rfl,?_⟩
  show ct _ [[0,1],[1,1],[2,1],[3,1],[4,1],[5,1],[6,1],[7,1],[8,1],[9,1]] _
  simp only[ct,go_sem,h0,h1,h2,h3,h4,h5,h6,h7,h8,h9]
theorem CI{l:Led}(ab:bp l){e f:Int}(Ys:¬ (e=0/\f=0)):aM Tryz.prog yid (fW l e f).y.toSpec:=by
 refine Lp.y_sound (sd ab e f) fun s hs _=>?_
 have hΓ:=Po
 have hP:=c8
 have fN:s<(bf l).length:=hs
 have sP:(fW l e f).fam (LR 2) s=[.box [.msl [1,1] (gH l (fX e f) s).length],.arr 2 ((gH l (fX e f) s).map ea)]:=rfl
 have sO:(fW l e f).fam (LR 2) (s+1)=[.box [.msl [1,1] (gH l (fX e f) (s+1)).length],.arr 2 ((gH l (fX e f) (s+1)).map ea)]:=rfl
 have cL:(fW l e f).st s=none:=rfl
 have Du:(fW l e f).vals s=[lC ((bf l)[s])]:=by rw[<-dd (z:=default) fN];rfl
 have hm:(fW l e f).m=2:=rfl
 have DU:(gH l (fX e f) s).length<=360:=Nat.le_trans (MU l _ s) (xC ab)
 rw[hm,sP,sO,cL,Du,MT fN]
 generalize (bf l)[s]=fo
 generalize gH l (fX e f) s=ou at *
 generalize dN:([.box [.msl [1,1] ou.length],.arr 2 (ou.map ea)]:List O)=os
 have hO:∀ hs,bG [0] (bC [0] hs) (aS os)=True:=by
  subst dN
  refine fun hs=>eq_true (lE ?_ hs)
  intro o ho dom hd
  simp only[List.mem_cons,List.not_mem_nil,or_false]at ho
  rcases ho with rfl | rfl<;>simp[O.clos,D.closL,D.clos,bg,hd]
 have h0:aS os [0,1]=some (.box [.msl [1,1] ou.length]):=by subst dN;rfl
 have h1:aS os [1,1]=some (.arr 2 (ou.map ea)):=by subst dN;rfl
 generalize hH:aS os=H at *
 clear dN hH
 obtain⟨fp,fl⟩:=fo
 have gm:jI Tryz.f21=(_,_,_):=rfl
 refine rr (vM 82 [0] H [(13,⟨true,.v (.ptr [vInt e])⟩),(15,⟨true,.v (.ptr [vInt f])⟩),(16,⟨true,.ref [0,1] 0⟩),(57,⟨true,lC ⟨fp,fl⟩⟩)] [] rfl rfl (fun _ _=>rfl) ?_ (by simp) ?_ ?_) ?_
 ·intro q hq
  simp only[List.mem_cons,List.not_mem_nil,or_false]at hq
  rcases hq with rfl | rfl | rfl | rfl<;>rfl
 ·simp[D.clos,D.closL,bC,own,lC]
 ·rw[hO];trivial
 simp only[fW,gm,lC]
 refine gr ?_
 repeat refine sq ?_
 refine aI hΓ fun K' hK=>?_
 simp only[go_sem,hO,h0,h1]
 repeat (refine⟨ao,?_⟩)
 refine hK _ ?_
 clear K' hK
 try simp only[go_sem]
 (show CW _ _ _ _)
 refine gr ?_
 repeat refine sq ?_
 refine aC ?_
 repeat refine sq ?_
 cases aG:(e != f)
 ·have xj:(e==0)=false:=by
   have :e=f:=by simpa using aG
   subst this
   simpa using Ys
  repeat refine sq ?_
  refine dx hΓ hP [[],[],[0,1],[0,1,2],u4,u5,u6,u7,u7,u7,bI,u7,u7,u7,eE,lx,u16,iG,gO] [6,12,13,14,15,16,17,76] [[6,0],[12,0],[13,0],[14,0],[15,0],[16,0],[17,0],[80,0]] (by kernel_rfl) (fun K' hK=>by simp only[go_sem,hO,h0,h1,aG,xj];(repeat (refine⟨ao,?_⟩));(first | refine⟨by rfl,?_⟩ | skip);exact hK _ (by simp only[go_sem,hO,h0,h1,aG,xj]) (by simp only[go_sem,hO,h0,h1,aG,xj]<;>rfl)) ?_
  repeat refine sq ?_
  refine au (fun hb=>?_) fun hb=>?_
  ·cases hb
  ·repeat refine sq ?_
   refine ay ?_
   refine br ?_
   simp only[go_sem]
   rw[if_neg (show ¬ fX e f ⟨fp,fl⟩=true from fun h=>by rw[show fX e f ⟨fp,fl⟩=false from aG]at h;cases h),List.append_nil]
   refine⟨rfl,?_⟩
   show ct _ [[0,1],[1,1]] _
   simp only[ct,go_sem,h0,h1]
 ·repeat refine sq ?_
  refine dx hΓ hP [[],[],[0,1],[0,1,2],u4,u5,u6,u7,u7,u7,bI,u7,u7,u7,eE,lx,u16,iG,gO] [6,12,13,14,15,16,17,76] [[6,0],[12,0],[13,0],[14,0],[15,0],[16,0],[17,0],[80,0]] (by kernel_rfl) (fun K' hK=>by simp only[go_sem,hO,h0,h1,aG];(repeat (refine⟨ao,?_⟩));(first | refine⟨by rfl,?_⟩ | skip);exact hK _ (by simp only[go_sem,hO,h0,h1,aG]) (by simp only[go_sem,hO,h0,h1,aG]<;>rfl)) ?_
  repeat refine sq ?_
  refine au (fun hb=>?_) fun hb=>?_
  ·repeat refine sq ?_
   refine aI hΓ fun K' hK=>?_
   simp only[go_sem,hO,h0,h1,aG]
   repeat (refine⟨ao,?_⟩)
   refine hK _ ?_
   clear K' hK
   try simp only[go_sem]
   refine br ?_
   rw[if_pos (show fX e f ⟨fp,fl⟩=true from aG)]
   refine⟨rfl,?_⟩
   show ct _ [[0,1],[1,1]] _
   simp only[ct,go_sem,h0,h1,List.map_append,List.map_cons,List.map_nil,List.length_append,List.length_cons,List.length_nil]
  ·cases hb
end
noncomputable section
theorem Tn(so:Int):pn (88,so):=rfl
theorem Tl(so:Int):pk (90,so):=rfl
theorem Tm(so:Int):oB (92,so):=.inl rfl
theorem V1(l:Led)(so:Int):bV (fq (88,so)) l.rs=(bO l so).rs:=rfl
theorem VZ(l:Led)(so:Int):bV (fm (90,so)) l.ts=(bO l so).ts:=rfl
theorem V0(l:Led)(so:Int):bV (eZ (92,so)) l.ss=(bO l so).ss:=rfl
def mg(l:Led)(so day k:Int):Int:=if eu l [day,k]=0 then(if hasB l so=true then 0 else 3)else eu l [day,k]
def kP(l:Led)(so day k:Int):Fol->Bool:=if eS l k=0/\eS (bO l so) k=0 then jM (aW (ax l k) k) (aW (ax (bO l so) k) k) day else fX (eS l k) (eS (bO l so) k)
def pt(l:Led)(so day k:Int):List Fol:=if mg l so day k=0 then(bf l).filter (kP l so day k)else[]
theorem Ak(l:Led)(so:Int):(⟨l.ps,(bO l so).rs,(bO l so).ts,(bO l so).ss⟩:Led)=bO l so:=rfl
def K70:List (Nat×Spec):=[(75,qg),(85,OZ),(86,S86),(87,S87),(89,S89),(91,S91),(78,S78),(93,OY)]
theorem ach:KS K70:=tc yA.sound<|tc Rc.sound<|tc WT<|tc WS<|tc WQ<|tc Lo<|tc Dd<|tc Q9.sound<|tn
attribute [go_sem] K70
@[go_sem] def P21:PSpec:=p4 iL iI iI iI (fun _ _ _ _=>True) (fun l so day k=>.tup [.sl ((pt l so day k).map ea),vInt (mg l so day k)]) false
@[go_sem] def S21:Spec:=P21.toSpec
set_option maxHeartbeats 8000000 in
theorem RA:aL Tryz.prog 21 P21:=by
 refine rO (rs:=[.tmp 8,.tmp 9]) Tryz.func21 Tryz.ntmps21 fun l so day k hp hw=>?_
 simp only[iI,iL,dq]at hw |-
 have hΓ:=ach
 repeat refine sq ?_
 refine rx hΓ [3,4,5,6] [[4,0],[5,0],[6,0]] (fun K' hK=>by simp only[go_sem];exact ak) ?_
 refine bH (cZ 4 (.ref [4,0] 0) (by simp only[go_sem]) (by simp only[go_sem]) [3,4,5,6] [[4,0],[5,0],[6,0]] ?_ rfl) ?_
 ·simp only[go_sem]
 simp only[go_sem]
 refine bH (cZ 5 (.ref [5,0] 0) (by simp only[go_sem]) (by simp only[go_sem]) [3,4,5,6] [[4,0],[5,0],[6,0]] ?_ rfl) ?_
 ·simp only[go_sem]
 simp only[go_sem]
 refine bH (cZ 6 (.ref [6,0] 0) (by simp only[go_sem]) (by simp only[go_sem]) [3,4,5,6] [[4,0],[5,0],[6,0]] ?_ rfl) ?_
 ·simp only[go_sem]
 simp only[go_sem]
 repeat refine sq ?_
 refine rx hΓ [3,4,5,6,10] [[4,0],[5,0],[6,0]] (fun K' hK=>by simp only[go_sem];exact ak) ?_
 repeat refine sq ?_
 refine rx hΓ [3,4,5,6,10,24] [[4,0],[5,0],[6,0]] (fun K' hK=>by simp only[go_sem];exact ak) ?_
 repeat refine sq ?_
 refine au (fun hb=>?_) fun hb=>?_
 ·repeat refine sq ?_
  have hc:¬ eu l [day,k]=0:=by simpa using hb
  have e:mg l so day k=eu l [day,k]:=by unfold mg;rw[if_neg hc]
  have e2:pt l so day k=[]:=by unfold pt;rw[e,if_neg hc]
  repeat refine sq ?_
  refine rx hΓ [8,9] [[80,0]] (fun K' hK=>by simp only[go_sem];exact ak) ?_
  refine aq ?_
  simp only[go_sem]
  first | (rw[e,e2];done) | (rw[e,e2];rfl) | trace_state
 ·repeat refine sq ?_
  have hc:eu l [day,k]=0:=by simpa using hb
  obtain⟨ab,_⟩:=mG hc
  refine ay ?_
  repeat refine sq ?_
  refine rx hΓ [3,4,5,6,28] [[4,0],[5,0],[6,0]] (fun K' hK=>by simp only[go_sem];exact ak) ?_
  repeat refine sq ?_
  refine au (fun hb=>?_) fun hb=>?_
  ·repeat refine sq ?_
   have e:mg l so day k=3:=by unfold mg;rw[if_pos hc,if_neg (by simpa using hb)]
   have e2:pt l so day k=[]:=by unfold pt;rw[e];rfl
   repeat refine sq ?_
   refine rx hΓ [8,9] [[80,0]] (fun K' hK=>by simp only[go_sem];exact ak) ?_
   refine aq ?_
   simp only[go_sem]
   first | (rw[e,e2];done) | (rw[e,e2];rfl) | trace_state
  ·repeat refine sq ?_
   have e:mg l so day k=0:=by unfold mg;rw[if_pos hc,if_pos (by simpa using hb)]
   have e2:pt l so day k=(bf l).filter (kP l so day k):=by unfold pt;rw[if_pos e]
   have DA:=IN ab
   have iV:=Bt ab so
   have dK:=xC ab
   have gm:=ab.rsn
   have ml:=ab.tsn
   have wV:=ab.ssn
   refine ay ?_
   repeat refine sq ?_
   refine rx hΓ [3,4,5,6,11] [[4,0],[5,0],[6,0],[11,0],[8,0,30,0],[11,0,30,0],[14,0,30,0],[17,0,30,0]] (fun K' hK=>by simp only[go_sem];(repeat (refine⟨by first | exact ao | exact DA,?_⟩));exact cF) ?_
   repeat refine sq ?_
   refine rx hΓ [3,4,5,6,11] [[4,0],[5,0],[6,0],[11,0],[8,0,30,0],[11,0,30,0],[14,0,30,0],[17,0,30,0]] (fun K' hK=>by simp only[go_sem,vv,V1,Tn,List.length_map];exact ak) ?_
   repeat refine sq ?_
   refine rx hΓ [3,4,5,6,11] [[4,0],[5,0],[6,0],[11,0],[8,0,30,0],[11,0,30,0],[14,0,30,0],[17,0,30,0]] (fun K' hK=>by simp only[go_sem,Au,VZ,Tl,List.length_map];exact ak) ?_
   repeat refine sq ?_
   refine rx hΓ [3,4,6,11] [[4,0],[6,0],[11,0],[8,0,30,0],[11,0,30,0],[14,0,30,0],[17,0,30,0]] (fun K' hK=>by simp only[go_sem,td,V0,Tm,List.length_map];exact ak) ?_
   refine bH (yi [11,0] [8,0,30,0] 0 _ _ _ _ rfl rfl rfl (by first | rfl | (simp only[List.length_map];done)) [3,4,6,11] [[11,0],[8,0,30,0]] ?_ rfl) ?_
   ·simp only[go_sem,List.set_cons_succ,List.set_cons_zero]
   simp only[go_sem,List.set_cons_succ,List.set_cons_zero]
   refine bH (cZ 11 (.ref [11,0] 0) (by simp only[go_sem]) (by simp only[go_sem]) [3,4,6,11] [[11,0]] ?_ rfl) ?_
   ·simp only[go_sem]
   simp only[go_sem]
   rcases mn:kI l k with _ | _
   ·obtain⟨q1,q2,q3⟩:=tX mn
    have q4:¬ eS l k=0:=by simpa using q3
    repeat refine sq ?_
    refine rx hΓ [3,4,6,11,12,13] [[4,0],[6,0],[11,0],[12,0],[13,0],[8,0,30,0],[11,0,30,0],[14,0,30,0],[17,0,30,0],[26,0,11,0,11,0,48,0],[23,0,11,0,11,0,48,0],[24,0,11,0,11,0,48,0]] (fun K' hK=>by simp only[go_sem,q1,q2];(repeat (refine⟨by first | exact ao | exact ab,?_⟩));exact cF) ?_
    refine bH (cZ 13 (.ref [13,0] 0) (by simp only[go_sem]) (by simp only[go_sem]) [3,4,6,11,12,13] [[4,0],[6,0],[11,0],[12,0],[13,0],[8,0,30,0],[11,0,30,0],[14,0,30,0],[17,0,30,0],[26,0,11,0,11,0,48,0],[23,0,11,0,11,0,48,0],[24,0,11,0,11,0,48,0]] ?_ rfl) ?_
    ·simp only[go_sem]
    simp only[go_sem]
    rcases wW:kI (bO l so) k with _ | _
    ·obtain⟨r1,r2,r3⟩:=tX wW
     have r4:¬ eS (bO l so) k=0:=by simpa using r3
     repeat refine sq ?_
     refine rx hΓ [4,6,12,13,14,15] [[4,0],[6,0],[12,0],[13,0],[14,0],[15,0],[26,0,11,0,11,0,48,0],[23,0,11,0,11,0,48,0],[24,0,11,0,11,0,48,0],[26,0,11,0,11,0,53,0],[23,0,11,0,11,0,53,0],[24,0,11,0,11,0,53,0]] (fun K' hK=>by simp only[go_sem,q1,q2,r1,r2,Ak];(repeat (refine⟨by first | exact ao | exact iV,?_⟩));exact cF) ?_
     refine bH (cZ 15 (.ref [15,0] 0) (by simp only[go_sem]) (by simp only[go_sem]) [4,6,12,13,14,15] [[4,0],[6,0],[12,0],[13,0],[14,0],[15,0],[26,0,11,0,11,0,48,0],[23,0,11,0,11,0,48,0],[24,0,11,0,11,0,48,0],[26,0,11,0,11,0,53,0],[23,0,11,0,11,0,53,0],[24,0,11,0,11,0,53,0]] ?_ rfl) ?_
     ·simp only[go_sem]
     simp only[go_sem]
     repeat refine sq ?_
     refine rx hΓ [4,6,12,13,14,15,16] [[4,0],[6,0],[12,0],[13,0],[14,0],[15,0],[16,0],[80,0],[26,0,11,0,11,0,48,0],[23,0,11,0,11,0,48,0],[24,0,11,0,11,0,48,0],[26,0,11,0,11,0,53,0],[23,0,11,0,11,0,53,0],[24,0,11,0,11,0,53,0]] (fun K' hK=>by simp only[go_sem,q1,q2,r1,r2];exact ak) ?_
     refine bH (l6 [16,0] [80,0] 0 2 _ rfl rfl rfl [4,6,12,13,14,15,16] [[4,0],[6,0],[12,0],[13,0],[14,0],[15,0],[16,0],[80,0],[26,0,11,0,11,0,48,0],[23,0,11,0,11,0,48,0],[24,0,11,0,11,0,48,0],[26,0,11,0,11,0,53,0],[23,0,11,0,11,0,53,0],[24,0,11,0,11,0,53,0]] ?_ rfl) ?_
     ·simp only[go_sem,List.set_cons_succ,List.set_cons_zero]
     simp only[go_sem,List.set_cons_succ,List.set_cons_zero]
     repeat refine sq ?_
     refine rx hΓ [6,12,13,14,15,16,56] [[6,0],[12,0],[13,0],[14,0],[15,0],[16,0],[80,0],[26,0,11,0,11,0,48,0],[23,0,11,0,11,0,48,0],[24,0,11,0,11,0,48,0],[26,0,11,0,11,0,53,0],[23,0,11,0,11,0,53,0],[24,0,11,0,11,0,53,0]] (fun K' hK=>by simp only[go_sem,q1,q2,r1,r2];exact ak) ?_
     repeat refine sq ?_
     refine aC ?_
     repeat refine sq ?_
     have fb:aM Tryz.prog 182 ((fW l (eS l k) (eS (bO l so) k)).it [.ptr [eV l]]).toSpec:=yC (sd ab (eS l k) (eS (bO l so) k)) (fun _=>rfl) (CI ab (e:=eS l k) (f:=eS (bO l so) k) (fun h=>q4 h.1)) ab rfl (fun _=>rfl)
     have hm:kP l so day k=fX (eS l k) (eS (bO l so) k):=by unfold kP;rw[if_neg (fun h=>q4 h.1)]
     rw[e,e2,hm]
     refine kp [13,15,16,56] [[16,0],[80,0]] ?_
     refine AK (sd ab (eS l k) (eS (bO l so) k)) 200 201 (f:=182) (Ls:=[[16,0],[80,0]]) rfl rfl (by decide) fb rfl rfl rfl rfl rfl rfl (by decide) (show ([200,0]:Name)∉[[16,0],[80,0]]by decide) ⟨rfl,rfl,trivial⟩ fun o=>?_
     obtain⟨g1,g2⟩:=Lp.go_e (r:=fW l (eS l k) (eS (bO l so) k)) (fun _=>rfl)
     have g3:(fW l (eS l k) (eS (bO l so) k)).fam [[16,0],[80,0]] (fW l (eS l k) (eS (bO l so) k)).e=[.box [.msl [80,0] ((bf l).filter (fX (eS l k) (eS (bO l so) k))).length],.arr 2 (((bf l).filter (fX (eS l k) (eS (bO l so) k))).map ea)]:=by
      rw[g1,<-Ag];rfl
     rw[g2,g3]
     simp only[oy,gx]
     refine br ?_
     show CL Tryz.prog (_::_) _ _
     refine dv [16] [[16,0],[80,0]] ?_ ?_
     ·simp only[go_sem,ck]
     simp only[go_sem,ck]
     repeat refine sq ?_
     refine rx hΓ [8,9] [[80,0]] (fun K' hK=>by simp only[go_sem];exact ak) ?_
     refine aq ?_
     simp only[go_sem]
    ·obtain⟨r1,r2,r4⟩:=tW wW
     obtain⟨sr,uX⟩:=vS iV k
     repeat refine sq ?_
     refine rx hΓ [4,6,12,13,14,15] [[4,0],[6,0],[12,0],[13,0],[14,0],[15,0],[26,0,11,0,11,0,48,0],[23,0,11,0,11,0,48,0],[24,0,11,0,11,0,48,0],[26,0,11,0,11,0,53,0],[23,0,11,0,11,0,53,0],[24,0,11,0,11,0,53,0]] (fun K' hK=>by simp only[go_sem,q1,q2,r1,r2,Ak];(repeat (refine⟨by first | exact ao | exact iV,?_⟩));exact cF) ?_
     refine bH (cZ 15 (.ref [15,0] 0) (by simp only[go_sem]) (by simp only[go_sem]) [4,6,12,13,14,15] [[4,0],[6,0],[12,0],[13,0],[14,0],[15,0],[26,0,11,0,11,0,48,0],[23,0,11,0,11,0,48,0],[24,0,11,0,11,0,48,0],[26,0,11,0,11,0,53,0],[23,0,11,0,11,0,53,0],[24,0,11,0,11,0,53,0]] ?_ rfl) ?_
     ·simp only[go_sem]
     simp only[go_sem]
     repeat refine sq ?_
     refine rx hΓ [4,6,12,13,14,15,16] [[4,0],[6,0],[12,0],[13,0],[14,0],[15,0],[16,0],[80,0],[26,0,11,0,11,0,48,0],[23,0,11,0,11,0,48,0],[24,0,11,0,11,0,48,0],[26,0,11,0,11,0,53,0],[23,0,11,0,11,0,53,0],[24,0,11,0,11,0,53,0]] (fun K' hK=>by simp only[go_sem,q1,q2,r1,r2];exact ak) ?_
     refine bH (l6 [16,0] [80,0] 0 2 _ rfl rfl rfl [4,6,12,13,14,15,16] [[4,0],[6,0],[12,0],[13,0],[14,0],[15,0],[16,0],[80,0],[26,0,11,0,11,0,48,0],[23,0,11,0,11,0,48,0],[24,0,11,0,11,0,48,0],[26,0,11,0,11,0,53,0],[23,0,11,0,11,0,53,0],[24,0,11,0,11,0,53,0]] ?_ rfl) ?_
     ·simp only[go_sem,List.set_cons_succ,List.set_cons_zero]
     simp only[go_sem,List.set_cons_succ,List.set_cons_zero]
     repeat refine sq ?_
     refine rx hΓ [6,12,13,14,15,16,56] [[6,0],[12,0],[13,0],[14,0],[15,0],[16,0],[80,0],[26,0,11,0,11,0,48,0],[23,0,11,0,11,0,48,0],[24,0,11,0,11,0,48,0],[26,0,11,0,11,0,53,0],[23,0,11,0,11,0,53,0],[24,0,11,0,11,0,53,0]] (fun K' hK=>by simp only[go_sem,q1,q2,r1,r2];exact ak) ?_
     repeat refine sq ?_
     refine aC ?_
     repeat refine sq ?_
     have fb:aM Tryz.prog 182 ((fW l (eS l k) (0)).it [.ptr [eV l]]).toSpec:=yC (sd ab (eS l k) (0)) (fun _=>rfl) (CI ab (e:=eS l k) (f:=0) (fun h=>q4 h.1)) ab rfl (fun _=>rfl)
     have hm:kP l so day k=fX (eS l k) (0):=by unfold kP;rw[if_neg (fun h=>q4 h.1),r4]
     rw[e,e2,hm]
     refine kp [13,15,16,56] [[16,0],[80,0]] ?_
     refine AK (sd ab (eS l k) (0)) 200 201 (f:=182) (Ls:=[[16,0],[80,0]]) rfl rfl (by decide) fb rfl rfl rfl rfl rfl rfl (by decide) (show ([200,0]:Name)∉[[16,0],[80,0]]by decide) ⟨rfl,rfl,trivial⟩ fun o=>?_
     obtain⟨g1,g2⟩:=Lp.go_e (r:=fW l (eS l k) (0)) (fun _=>rfl)
     have g3:(fW l (eS l k) (0)).fam [[16,0],[80,0]] (fW l (eS l k) (0)).e=[.box [.msl [80,0] ((bf l).filter (fX (eS l k) (0))).length],.arr 2 (((bf l).filter (fX (eS l k) (0))).map ea)]:=by
      rw[g1,<-Ag];rfl
     rw[g2,g3]
     simp only[oy,gx]
     refine br ?_
     show CL Tryz.prog (_::_) _ _
     refine dv [16] [[16,0],[80,0]] ?_ ?_
     ·simp only[go_sem,ck]
     simp only[go_sem,ck]
     repeat refine sq ?_
     refine rx hΓ [8,9] [[80,0]] (fun K' hK=>by simp only[go_sem];exact ak) ?_
     refine aq ?_
     simp only[go_sem]
   ·obtain⟨q1,q2,q4⟩:=tW mn
    obtain⟨hv,ca⟩:=vS ab k
    repeat refine sq ?_
    refine rx hΓ [3,4,6,11,12,13] [[4,0],[6,0],[11,0],[12,0],[13,0],[8,0,30,0],[11,0,30,0],[14,0,30,0],[17,0,30,0],[26,0,11,0,11,0,48,0],[23,0,11,0,11,0,48,0],[24,0,11,0,11,0,48,0]] (fun K' hK=>by simp only[go_sem,q1,q2];(repeat (refine⟨by first | exact ao | exact ab,?_⟩));exact cF) ?_
    refine bH (cZ 13 (.ref [13,0] 0) (by simp only[go_sem]) (by simp only[go_sem]) [3,4,6,11,12,13] [[4,0],[6,0],[11,0],[12,0],[13,0],[8,0,30,0],[11,0,30,0],[14,0,30,0],[17,0,30,0],[26,0,11,0,11,0,48,0],[23,0,11,0,11,0,48,0],[24,0,11,0,11,0,48,0]] ?_ rfl) ?_
    ·simp only[go_sem]
    simp only[go_sem]
    rcases wW:kI (bO l so) k with _ | _
    ·obtain⟨r1,r2,r3⟩:=tX wW
     have r4:¬ eS (bO l so) k=0:=by simpa using r3
     repeat refine sq ?_
     refine rx hΓ [4,6,12,13,14,15] [[4,0],[6,0],[12,0],[13,0],[14,0],[15,0],[26,0,11,0,11,0,48,0],[23,0,11,0,11,0,48,0],[24,0,11,0,11,0,48,0],[26,0,11,0,11,0,53,0],[23,0,11,0,11,0,53,0],[24,0,11,0,11,0,53,0]] (fun K' hK=>by simp only[go_sem,q1,q2,r1,r2,Ak];(repeat (refine⟨by first | exact ao | exact iV,?_⟩));exact cF) ?_
     refine bH (cZ 15 (.ref [15,0] 0) (by simp only[go_sem]) (by simp only[go_sem]) [4,6,12,13,14,15] [[4,0],[6,0],[12,0],[13,0],[14,0],[15,0],[26,0,11,0,11,0,48,0],[23,0,11,0,11,0,48,0],[24,0,11,0,11,0,48,0],[26,0,11,0,11,0,53,0],[23,0,11,0,11,0,53,0],[24,0,11,0,11,0,53,0]] ?_ rfl) ?_
     ·simp only[go_sem]
     simp only[go_sem]
     repeat refine sq ?_
     refine rx hΓ [4,6,12,13,14,15,16] [[4,0],[6,0],[12,0],[13,0],[14,0],[15,0],[16,0],[80,0],[26,0,11,0,11,0,48,0],[23,0,11,0,11,0,48,0],[24,0,11,0,11,0,48,0],[26,0,11,0,11,0,53,0],[23,0,11,0,11,0,53,0],[24,0,11,0,11,0,53,0]] (fun K' hK=>by simp only[go_sem,q1,q2,r1,r2];exact ak) ?_
     refine bH (l6 [16,0] [80,0] 0 2 _ rfl rfl rfl [4,6,12,13,14,15,16] [[4,0],[6,0],[12,0],[13,0],[14,0],[15,0],[16,0],[80,0],[26,0,11,0,11,0,48,0],[23,0,11,0,11,0,48,0],[24,0,11,0,11,0,48,0],[26,0,11,0,11,0,53,0],[23,0,11,0,11,0,53,0],[24,0,11,0,11,0,53,0]] ?_ rfl) ?_
     ·simp only[go_sem,List.set_cons_succ,List.set_cons_zero]
     simp only[go_sem,List.set_cons_succ,List.set_cons_zero]
     repeat refine sq ?_
     refine rx hΓ [6,12,13,14,15,16,56] [[6,0],[12,0],[13,0],[14,0],[15,0],[16,0],[80,0],[26,0,11,0,11,0,48,0],[23,0,11,0,11,0,48,0],[24,0,11,0,11,0,48,0],[26,0,11,0,11,0,53,0],[23,0,11,0,11,0,53,0],[24,0,11,0,11,0,53,0]] (fun K' hK=>by simp only[go_sem,q1,q2,r1,r2];exact ak) ?_
     repeat refine sq ?_
     refine aC ?_
     repeat refine sq ?_
     have fb:aM Tryz.prog 182 ((fW l (0) (eS (bO l so) k)).it [.ptr [eV l]]).toSpec:=yC (sd ab (0) (eS (bO l so) k)) (fun _=>rfl) (CI ab (e:=0) (f:=eS (bO l so) k) (fun h=>r4 h.2)) ab rfl (fun _=>rfl)
     have hm:kP l so day k=fX (0) (eS (bO l so) k):=by unfold kP;rw[if_neg (fun h=>r4 h.2),q4]
     rw[e,e2,hm]
     refine kp [13,15,16,56] [[16,0],[80,0]] ?_
     refine AK (sd ab (0) (eS (bO l so) k)) 200 201 (f:=182) (Ls:=[[16,0],[80,0]]) rfl rfl (by decide) fb rfl rfl rfl rfl rfl rfl (by decide) (show ([200,0]:Name)∉[[16,0],[80,0]]by decide) ⟨rfl,rfl,trivial⟩ fun o=>?_
     obtain⟨g1,g2⟩:=Lp.go_e (r:=fW l (0) (eS (bO l so) k)) (fun _=>rfl)
     have g3:(fW l (0) (eS (bO l so) k)).fam [[16,0],[80,0]] (fW l (0) (eS (bO l so) k)).e=[.box [.msl [80,0] ((bf l).filter (fX (0) (eS (bO l so) k))).length],.arr 2 (((bf l).filter (fX (0) (eS (bO l so) k))).map ea)]:=by
      rw[g1,<-Ag];rfl
     rw[g2,g3]
     simp only[oy,gx]
     refine br ?_
     show CL Tryz.prog (_::_) _ _
     refine dv [16] [[16,0],[80,0]] ?_ ?_
     ·simp only[go_sem,ck]
     simp only[go_sem,ck]
     repeat refine sq ?_
     refine rx hΓ [8,9] [[80,0]] (fun K' hK=>by simp only[go_sem];exact ak) ?_
     refine aq ?_
     simp only[go_sem]
    ·obtain⟨r1,r2,r4⟩:=tW wW
     obtain⟨sr,uX⟩:=vS iV k
     repeat refine sq ?_
     refine rx hΓ [4,6,12,13,14,15] [[4,0],[6,0],[12,0],[13,0],[14,0],[15,0],[26,0,11,0,11,0,48,0],[23,0,11,0,11,0,48,0],[24,0,11,0,11,0,48,0],[26,0,11,0,11,0,53,0],[23,0,11,0,11,0,53,0],[24,0,11,0,11,0,53,0]] (fun K' hK=>by simp only[go_sem,q1,q2,r1,r2,Ak];(repeat (refine⟨by first | exact ao | exact iV,?_⟩));exact cF) ?_
     refine bH (cZ 15 (.ref [15,0] 0) (by simp only[go_sem]) (by simp only[go_sem]) [4,6,12,13,14,15] [[4,0],[6,0],[12,0],[13,0],[14,0],[15,0],[26,0,11,0,11,0,48,0],[23,0,11,0,11,0,48,0],[24,0,11,0,11,0,48,0],[26,0,11,0,11,0,53,0],[23,0,11,0,11,0,53,0],[24,0,11,0,11,0,53,0]] ?_ rfl) ?_
     ·simp only[go_sem]
     simp only[go_sem]
     repeat refine sq ?_
     refine rx hΓ [4,6,12,13,14,15,16] [[4,0],[6,0],[12,0],[13,0],[14,0],[15,0],[16,0],[80,0],[26,0,11,0,11,0,48,0],[23,0,11,0,11,0,48,0],[24,0,11,0,11,0,48,0],[26,0,11,0,11,0,53,0],[23,0,11,0,11,0,53,0],[24,0,11,0,11,0,53,0]] (fun K' hK=>by simp only[go_sem,q1,q2,r1,r2];exact ak) ?_
     refine bH (l6 [16,0] [80,0] 0 2 _ rfl rfl rfl [4,6,12,13,14,15,16] [[4,0],[6,0],[12,0],[13,0],[14,0],[15,0],[16,0],[80,0],[26,0,11,0,11,0,48,0],[23,0,11,0,11,0,48,0],[24,0,11,0,11,0,48,0],[26,0,11,0,11,0,53,0],[23,0,11,0,11,0,53,0],[24,0,11,0,11,0,53,0]] ?_ rfl) ?_
     ·simp only[go_sem,List.set_cons_succ,List.set_cons_zero]
     simp only[go_sem,List.set_cons_succ,List.set_cons_zero]
     repeat refine sq ?_
     refine rx hΓ [6,12,13,14,15,16,56] [[6,0],[12,0],[13,0],[14,0],[15,0],[16,0],[80,0],[26,0,11,0,11,0,48,0],[23,0,11,0,11,0,48,0],[24,0,11,0,11,0,48,0],[26,0,11,0,11,0,53,0],[23,0,11,0,11,0,53,0],[24,0,11,0,11,0,53,0]] (fun K' hK=>by simp only[go_sem,q1,q2,r1,r2];exact ak) ?_
     repeat refine sq ?_
     refine aC ?_
     repeat refine sq ?_
     have fb:aM Tryz.prog 182 ((kg l (aW (ax l k) k) (aW (ax (bO l so) k) k) day).it [.ptr [eV l]]).toSpec:=yC (CJ ab (aW (ax l k) k) (aW (ax (bO l so) k) k) day) (fun _=>rfl) (Uu ab hv ca sr uX day) ab rfl (fun _=>rfl)
     have hm:kP l so day k=jM (aW (ax l k) k) (aW (ax (bO l so) k) k) day:=by unfold kP;rw[if_pos ⟨q4,r4⟩]
     rw[e,e2,hm]
     refine AK (CJ ab (aW (ax l k) k) (aW (ax (bO l so) k) k) day) 200 201 (f:=182) (Ls:=[[12,0],[26,0,11,0,11,0,48,0],[23,0,11,0,11,0,48,0],[24,0,11,0,11,0,48,0],[14,0],[26,0,11,0,11,0,53,0],[23,0,11,0,11,0,53,0],[24,0,11,0,11,0,53,0],[16,0],[80,0]]) rfl rfl (by decide) fb rfl rfl rfl rfl rfl rfl (by decide) (show ([200,0]:Name)∉[[12,0],[26,0,11,0,11,0,48,0],[23,0,11,0,11,0,48,0],[24,0,11,0,11,0,48,0],[14,0],[26,0,11,0,11,0,53,0],[23,0,11,0,11,0,53,0],[24,0,11,0,11,0,53,0],[16,0],[80,0]]by decide) ⟨rfl,rfl,rfl,rfl,rfl,rfl,rfl,rfl,rfl,rfl,trivial⟩ fun o=>?_
     obtain⟨g1,g2⟩:=Lp.go_e (r:=kg l (aW (ax l k) k) (aW (ax (bO l so) k) k) day) (fun _=>rfl)
     have g3:(kg l (aW (ax l k) k) (aW (ax (bO l so) k) k) day).fam [[12,0],[26,0,11,0,11,0,48,0],[23,0,11,0,11,0,48,0],[24,0,11,0,11,0,48,0],[14,0],[26,0,11,0,11,0,53,0],[23,0,11,0,11,0,53,0],[24,0,11,0,11,0,53,0],[16,0],[80,0]] (kg l (aW (ax l k) k) (aW (ax (bO l so) k) k) day).e=[.box [.ref [26,0,11,0,11,0,48,0] 0],bg (aW (ax l k) k) [23,0,11,0,11,0,48,0] [24,0,11,0,11,0,48,0],.map 2 (bM (aW (ax l k) k).bk),.map 0 (bE (aW (ax l k) k).ds),.box [.ref [26,0,11,0,11,0,53,0] 0],bg (aW (ax (bO l so) k) k) [23,0,11,0,11,0,53,0] [24,0,11,0,11,0,53,0],.map 2 (bM (aW (ax (bO l so) k) k).bk),.map 0 (bE (aW (ax (bO l so) k) k).ds),.box [.msl [80,0] ((bf l).filter (jM (aW (ax l k) k) (aW (ax (bO l so) k) k) day)).length],.arr 2 (((bf l).filter (jM (aW (ax l k) k) (aW (ax (bO l so) k) k) day)).map ea)]:=by
      rw[g1,<-Ag];rfl
     rw[g2,g3]
     simp only[oy,gx]
     refine br ?_
     show CL Tryz.prog (_::_) _ _
     refine dv [16] [[16,0],[80,0]] ?_ ?_
     ·simp only[go_sem,ck]
     simp only[go_sem,ck]
     repeat refine sq ?_
     refine rx hΓ [8,9] [[80,0]] (fun K' hK=>by simp only[go_sem];exact ak) ?_
     refine aq ?_
     simp only[go_sem]
end
theorem Ql{l:Led}(ab:bp l){k:Int}:kI l k=decide (dX l k=0):=by
 rw[ox ab,Bool.eq_iff_iff,decide_eq_true_eq]
 exact yv
def NT(l:Led)(k:Int)(d:List Rg):Prop:=∀ j,j<l.ts.length->¬ hM l k j->c0 d j=⟨0,100000⟩
theorem I8{l:Led}{k:Int}{d:List Rg}(h:NT l k d)(hl:d.length=l.ts.length){j:Nat}(hj:hM l k j)(w:Rg):NT l k (d.set j w):=by
 intro i hi ht
 rw[HL (by rw[hl];exact yp hj)]
 rw[if_neg (fun (e:j=i)=>ht (by subst e;exact hj))]
 exact h i hi ht
theorem Tt{l:Led}{k:Int}{d:List Rg}(h:NT l k d)(hl:d.length=l.ts.length)(s:Sig):NT l k (fV (aX l k) d s).1:=by
 have XM:∀ q:Nat,¬ c5 (aX l k) q s.le<0->∃ j:Nat,c5 (aX l k) q s.le=j/\hM l k j:=fun q hq=>by
  rw[uv]at hq |-
  cases hb:bJ (ax l k).bk ((aA l q).so,s.le)with
  |none=>rw[hb]at hq;exact absurd (by decide) hq
  |some i=>
   obtain⟨j,rfl,hj⟩:=AN hb
   exact⟨j,rfl,hj⟩
 unfold fV
 split
 ·exact h
 ·split
  ·exact h
  ·rename_i h1 h2
   obtain⟨j,e,hj⟩:=XM _ h2
   rw[e,Int.toNat_natCast]
   split
   ·exact I8 h hl hj _
   ·split
    ·exact I8 h hl hj _
    ·exact h
theorem CB(l:Led)(k:Int)(is:List Int):∀ s,NT l k (gI (aX l k) is s).1
 | 0=>by
   intro j hj ht
   show c0 (kD (aX l k) l.ts.length) j=_
   unfold c0 kD
   rw[List.getD_eq_getElem?_getD,List.getElem?_map,List.getElem?_range hj]
   show lX (aX l k) j=_
   unfold lX
   rw[if_neg (show ¬ (aX l k).ts.getD j false=true from ht)]
 |s+1=>Tt (CB l k is s) (Fb _ _ _) _
theorem yo{l:Led}(ab:bp l)(k:Int)(az:List Int):iH l k az=gw l k az:=by
 unfold iH gw
 rw[Ql ab]
 by_cases hs:dX l k=0
 ·rw[decide_eq_true hs,Bool.true_and,Bool.true_and]
  by_cases hl:az.length=l.ts.length
  ·rw[decide_eq_true hl,Bool.true_and,Bool.true_and]
   have oL:eS l k=0:=by rw[<-ox ab];exact hs
   obtain⟨h0,hv,hr,im⟩:=vW ab oL
   have cB:NT l k (gJ l k).1:=CB l k _ _
   have hi:=o7 l k
   have pF:(aW (ax l k) k).ts=(aF l k l.ts.length).ts:=rfl
   rw[pF,Bool.eq_iff_iff,Bool.and_eq_true,List.all_eq_true,List.all_eq_true,Bc]
   have ht:∀ j,j<l.ts.length->o6 l k az j=bT (az.getD j 0) (c0 (gJ l k).1 j).lo (c0 (gJ l k).1 j).hi:=fun j _=>by unfold o6;rw[hv]
   constructor
   ·rintro⟨h1,h2⟩ j hj
    rw[hl]at hj
    rw[ht j hj]
    by_cases hq:hM l k j
    ·rw[(hr.2 j hq).1]
     have :=h2 j ((hi.ts j).1 hq)
     unfold o4 at this
     rw[Int.toNat_natCast]at this
     exact this
    ·rw[cB j hj hq]
     have dp:j<az.length:=by omega
     rw[dd dp]
     exact h1 _ (List.getElem_mem dp)
   ·intro h
    refine⟨fun d hd=>?_,fun i hm=>?_⟩
    ·obtain⟨j,hj,rfl⟩:=List.getElem_of_mem hd
     have :=h j hj
     rw[ht j (by omega),dd hj]at this
     by_cases hq:hM l k j
     ·obtain⟨g1,g2,g3⟩:=hr.2 j hq
      rw[g1]at this
      unfold bT at this
      unfold dayB bT
      simp only[Bool.and_eq_true,decide_eq_true_eq]at this |-
      omega
     ·rw[cB j (by omega) hq]at this
      exact this
    ·have hb:=hi.tl i hm
     obtain⟨j,rfl⟩:∃ j:Nat,i=j:=⟨i.toNat,by omega⟩
     have hq:=(hi.ts j).2 hm
     have :=h j (by omega)
     rw[ht j (by omega),(hr.2 j hq).1]at this
     unfold o4
     rw[Int.toNat_natCast]
     exact this
  ·rw[decide_eq_false hl];rfl
 ·rw[decide_eq_false hs];rfl
theorem P2{l:Led}{k:Int}{az:List Int}(h:gw l k az=true):dX l k=0:=by
 unfold gw at h
 simp only[Bool.and_eq_true,decide_eq_true_eq]at h
 exact h.1
theorem PF{l:Led}(ab:bp l){k:Int}(hs:dX l k=0)(az:List Int)(pa day f:Int):me (ax l k) az pa day f=lr (aX l k) ⟨pa,f⟩ az day:=by
 obtain⟨h0,-⟩:=vW ab (by rw[<-ox ab];exact hs)
 unfold me lr
 rw[CS]
 show _=if cO (aX l k) ⟨pa,f⟩ day<0 then 0 else if (decide (c5 (aX l k) (cO (aX l k) ⟨pa,f⟩ day).toNat f>=0)&&decide (az.getD (c5 (aX l k) (cO (aX l k) ⟨pa,f⟩ day).toNat f).toNat 0<=day))=true then 0 else(aA l (cO (aX l k) ⟨pa,f⟩ day).toNat).bo
 rcases C3 h0 ⟨pa,f⟩ day with⟨a1,a2⟩ | ⟨q,hq,a1,-,a2⟩
 ·have F8:fS (bK l k) pa f day=none:=a2
  rw[a1,F8];rfl
 ·have F8:fS (bK l k) pa f day=some (aA l q):=a2
  rw[a1,F8,if_neg (by omega),Int.toNat_natCast,uv]
  simp only[]
  cases aP:bJ (ax l k).bk ((aA l q).so,f)with
  |none=>rfl
  |some i=>
   obtain⟨j,rfl,hj⟩:=AN aP
   simp only[Option.getD_some,Int.toNat_natCast]
   have hg:decide ((j:Int)>=0)=true:=by simp
   simp only[hg,Bool.true_and]
   by_cases c:az.getD j 0>day
   ·rw[if_pos c,if_neg (by rw[decide_eq_true_eq];omega)]
   ·rw[if_neg c,if_pos (by rw[decide_eq_true_eq];omega)]
theorem Iq{l:Led}(ab:bp l){k:Int}(hs:dX l k=0)(az:List Int)(pa day:Int)(n:Nat):∀ m,m<=n->fU (ax l k) az pa day n m=ni (aX l k) pa az day m++List.replicate (n-m) 0
 | 0,_=>rfl
 |m+1,hm=>by
  rw[fU,Iq ab hs az pa day n m (by omega),ni,PF ab hs]
  have e:n-m=(n-(m+1))+1:=by omega
  rw[e,List.replicate_succ,List.set_append_right _ _ (by rw[yQ];exact Nat.le_refl m),yQ,Nat.sub_self,List.set_cons_zero,List.append_assoc]
  rfl
theorem Io(l:Led)(a:Ask)(az:List Int):mc l a az=kK l az a.pa a.da a.kn:=by
 unfold mc kK
 rw[A9]
 by_cases hc:eu l [a.da,a.kn]=0
 ·rw[if_pos hc,if_pos hc,yo (mG hc).1]
 ·rw[if_neg hc,if_neg hc]
theorem SQ(l:Led)(a:Ask)(az:List Int):nj l a az=nk l az a.pa a.da a.kn:=by
 unfold nj nk
 rw[Io]
 by_cases hc:kK l az a.pa a.da a.kn=0
 ·rw[if_pos hc,if_pos hc]
  have h1:bp l/\gw l a.kn az=true:=by
   unfold kK at hc
   split at hc
   ·rename_i hd
    have ab:=(mG hd).1
    split at hc
    ·cases hc
    ·split at hc
     ·rename_i ht;exact⟨ab,by rw[<-yo ab];exact ht⟩
     ·cases hc
   ·rename_i hd;exact(hd hc).elim
  have :=Iq h1.1 (P2 h1.2) az a.pa a.da (ei l.ps a.pa).toNat _ (Nat.le_refl _)
  rw[Nat.sub_self,List.replicate_zero,List.append_nil]at this
  exact this.symm
 ·rw[if_neg hc,if_neg hc]
theorem FB(l:Led)(k:Int)(az:List Int):xI l k az=tj l k az:=by
 unfold xI tj AE
 rw[A9]
 by_cases hc:eu l [k]=0
 ·rw[if_pos hc,if_pos hc,yo (mG hc).1]
 ·rw[if_neg hc,if_neg hc]
theorem Jf(l:Led)(a:Ask):oC l a=mg l a.so a.da a.kn:=by
 unfold oC mg
 rw[A9,YN]
theorem Ux(l:Led)(a:Ask):pw l a=pt l a.so a.da a.kn:=by
 unfold pw pt
 rw[Jf]
 by_cases hc:mg l a.so a.da a.kn=0
 ·rw[if_pos hc,if_pos hc]
  have ab:bp l:=by
   unfold mg at hc
   split at hc
   ·rename_i hd;exact(mG hd).1
   ·rename_i hd;exact(hd hc).elim
  have iV:=Bt ab a.so
  congr 1
  funext f
  by_cases hz:eS l a.kn=0/\eS (bO l a.so) a.kn=0
  ·have hm:kP l a.so a.da a.kn f=jM (aW (ax l a.kn) a.kn) (aW (ax (bO l a.so) a.kn) a.kn) a.da f:=by unfold kP;rw[if_pos hz]
   rw[hm]
   unfold pv ly
   rw[ox ab,ox iV,if_pos hz.1,if_pos hz.2,GG ab hz.1,GG iV hz.2]
   have aG:(eS l a.kn != eS (bO l a.so) a.kn)=false:=by rw[hz.1,hz.2];rfl
   rw[aG];rfl
  ·have hm:kP l a.so a.da a.kn f=fX (eS l a.kn) (eS (bO l a.so) a.kn) f:=by unfold kP;rw[if_neg hz]
   rw[hm]
   unfold pv fX ly
   rw[ox ab,ox iV]
   cases aG:(eS l a.kn != eS (bO l a.so) a.kn)with
   |true=>rw[Bool.true_or]
   |false=>
    have he:eS l a.kn=eS (bO l a.so) a.kn:=by simpa using aG
    have h1:¬ eS l a.kn=0:=fun h=>hz ⟨h,by rw[<-he];exact h⟩
    rw[if_neg h1,if_neg (by rw[<-he];exact h1)]
    simp
 ·rw[if_neg hc,if_neg hc]
instance afi (l:Led) (k:Int) (j:Nat):Decidable (hM l k j):=inferInstanceAs (Decidable ((bN l k l.ts.length).getD j false=true))
theorem OJ{x:Vw}{n:Nat}(hx:∀ i∈x.ts,0<=i/\i<(n:Int)){j:Nat}(hj:j<n):∀ m,m<=x.ts.length->(jA x n m).getD j 0=if (j:Int)∈x.ts.take m then(bt x.ds j).1 else 0
 | 0,_=>by
   rw[jA,if_neg (by simp),List.getD_eq_getElem?_getD,List.getElem?_replicate]
   split<;>rfl
 |m+1,hm=>by
  have ih:=OJ hx hj m (by omega)
  have pK:x.ts.getD m 0∈x.ts:=by rw[dd (by omega)];exact List.getElem_mem _
  obtain⟨b0,b1⟩:=hx _ pK
  rw[jA,Ab (by omega),List.getD_eq_getElem?_getD,List.getElem?_set]
  by_cases he:(x.ts.getD m 0).toNat=j
  ·rw[if_pos he,vD,if_pos (by omega)]
   have :x.ts.getD m 0=(j:Int):=by omega
   rw[this,if_pos (by simp)];rfl
  ·rw[if_neg he,<-List.getD_eq_getElem?_getD,ih]
   have e:((j:Int)∈x.ts.take m++[x.ts.getD m 0])↔(j:Int)∈x.ts.take m:=by
    rw[List.mem_append,List.mem_singleton]
    exact⟨fun h=>h.elim id fun h=>(he (by omega)).elim,.inl⟩
   simp only[e]
theorem at_val{l:Led}{so k:Int}(h:i5 l so k=0)(la:Bool):∃ j:Nat,wJ l so=(j:Int)/\j<(gi l so k la).length/\(gi l so k la).getD j 0=(if la then(lV l so k).2 else(lV l so k).1)/\tj l k (gi l so k la)=0:=by
 have cp:gQ l so k=0:=by
  unfold i5 at h
  split at h
  ·assumption
  ·exact h
 have oL:eS l k=0:=by
  unfold i5 at h
  rw[if_pos cp]at h
  exact h
 obtain⟨ab,hk⟩:=yH cp
 have vf:eu l [k]=0:=by
  unfold gQ at cp
  split at cp
  ·assumption
  ·exact cp
 obtain⟨h0,hv,hr,im⟩:=vW ab oL
 have hi:=o7 l k
 have mn:=yv.2 oL
 have XJ:lV l so k=bt (aW (ax l k) k).ds (jh l so k):=by unfold lV;rw[if_pos ⟨cp,mn⟩]
 have XI:∃ j:Nat,jh l so k=j/\hM l k j/\(aK l j).so=so:=by
  have h2:=cp
  unfold gQ at h2
  rw[if_pos vf]at h2
  unfold jh
  rw[if_pos vf]
  cases zy:m9 l so k with
  |none=>rw[zy]at h2;cases h2
  |some i=>
   unfold m9 at zy
   have hm:=List.mem_of_find?_eq_some zy
   have he:=List.find?_some zy
   have hb:=hi.tl i hm
   obtain⟨m,rfl⟩:∃ m:Nat,i=m:=⟨i.toNat,by omega⟩
   unfold qt at he
   rw[Int.toNat_natCast,beq_iff_eq]at he
   exact⟨m,rfl,(hi.ts m).2 hm,he⟩
 obtain⟨j,ej,hj,zx⟩:=XI
 have fF:=yp hj
 have Xt:∀ i∈(aW (ax l k) k).ts,0<=i/\i<(l.ts.length:Int):=hi.tl
 have xp:∀ m:Nat,m<l.ts.length->(rC (aW (ax l k) k) l.ts.length).getD m 0=if hM l k m then(bt (aW (ax l k) k).ds m).1 else 0:=fun m hm=>by
  unfold rC
  rw[OJ Xt hm _ (Nat.le_refl _),List.take_length]
  have :((m:Int)∈(aW (ax l k) k).ts)↔hM l k m:=(hi.ts m).symm
  simp only[this]
 have Mw:gi l so k la=if la then(rC (aW (ax l k) k) l.ts.length).set j (bt (aW (ax l k) k).ds j).2 else rC (aW (ax l k) k) l.ts.length:=by
  unfold gi
  rw[if_pos h,ej,Int.toNat_natCast]
 have hlen:(gi l so k la).length=l.ts.length:=by
  rw[Mw]
  split
  ·rw[List.length_set];exact vD _ _ _
  ·exact vD _ _ _
 have dz:∀ m:Nat,m<l.ts.length->(gi l so k la).getD m 0=if (la=true/\m=j)then(bt (aW (ax l k) k).ds j).2 else if hM l k m then(bt (aW (ax l k) k).ds m).1 else 0:=fun m hm=>by
  rw[Mw]
  cases la with
  |false=>
   rw[if_neg (by simp),if_neg (by simp)]
   exact xp m hm
  |true=>
   rw[if_pos rfl,List.getD_eq_getElem?_getD,List.getElem?_set]
   by_cases he:j=m
   ·subst he
    rw[if_pos rfl,if_pos (by show j<(jA _ _ _).length;rw[vD];exact hm),if_pos ⟨rfl,rfl⟩];rfl
   ·rw[if_neg he,if_neg (fun h=>he h.2.symm),<-List.getD_eq_getElem?_getD]
    exact xp m hm
 refine⟨j,?_,by rw[hlen];exact fF,?_,?_⟩
 ·unfold wJ
  have e:aK l j=l.ts[j]:=dd fF
  refine lM fF (by rw[<-e,zx];exact beq_self_eq_true _) fun m hm mw=>?_
  rw[beq_eq_false_iff_ne]
  intro hh
  have e2:aK l m=l.ts[m]:=dd hm
  have :=GN ab hm fF (by rw[e2,hh,zx])
  omega
 ·rw[dz j fF,XJ,ej]
  cases la with
  |false=>rw[if_neg (by simp),if_pos hj];rfl
  |true=>rw[if_pos ⟨rfl,rfl⟩];rfl
 ·unfold tj
  rw[if_pos vf,yo ab]
  have :gw l k (gi l so k la)=true:=by
   unfold gw
   have hs:dX l k=0:=by rw[ox ab];exact oL
   rw[hs,hlen]
   simp only[decide_true,Bool.true_and]
   rw[Bc]
   intro m hm
   unfold o6
   rw[dz m hm,hv]
   have cB:NT l k (gJ l k).1:=CB l k _ _
   show bT _ (c0 (gJ l k).1 m).lo (c0 (gJ l k).1 m).hi=true
   unfold bT
   by_cases hq:hM l k m
   ·obtain⟨g1,g2,g3⟩:=hr.2 m hq
    have g4:=im m hq
    rw[g1,if_pos hq]
    simp only[Bool.and_eq_true,decide_eq_true_eq]
    split
    ·rename_i hc
     have :m=j:=hc.2
     subst this
     omega
    ·omega
   ·rw[cB m hm hq,if_neg (fun (hc:la=true/\m=j)=>hq (by rw[hc.2];exact hj)),if_neg hq]
    decide
  rw[this];rfl
noncomputable section
theorem ZZ(x:Fol):Ax (ea x)=x:=rfl
@[go_sem] theorem agE(l:List Fol):(l.map ea).map Ax=l:=uM ZZ l
theorem Zu{a b:Fol}(h:(a.pa==b.pa&&a.le==b.le)=true):a=b:=by
 obtain⟨p,q⟩:=a
 obtain⟨r,s⟩:=b
 simp only[Bool.and_eq_true,beq_iff_eq]at h
 rw[h.1,h.2]
@[go_sem] def P36:PSpec:=p2 (cW iQ) (cW iQ) (fun _ _=>True) (fun a b=>.bool (decide (a=b))) true
@[go_sem] def S36:Spec:=P36.toSpec
set_option maxHeartbeats 4000000 in
theorem Rx:aL Tryz.prog 36 P36:=by
 refine cK (rs:=[.tmp 4]) Tryz.func36 Tryz.ntmps36 fun a b hp hw=>?_
 have hP:=c8
 simp only[iQ,cW,ea]at hw |-
 have hΓ:=@dT Tryz.prog
 have hl:a.length<=maxLen:=by have:=hw.1.1;simpa using this
 repeat refine sq ?_
 refine rx hΓ [0,1] [] (fun K' hK=>by simp only[go_sem];exact ak) ?_
 repeat refine sq ?_
 refine rx hΓ [0,1,10] [] (fun K' hK=>by simp only[go_sem];exact ak) ?_
 repeat refine sq ?_
 refine au (fun hb=>?_) fun hb=>?_
 ·repeat refine sq ?_
  have dk:a≠b:=by
   rintro rfl
   simp at hb
  repeat refine sq ?_
  refine rx hΓ [4] [] (fun K' hK=>by simp only[go_sem];exact ak) ?_
  refine aq ?_
  simp only[go_sem]
  rw[decide_eq_false dk]
 ·repeat refine sq ?_
  have oO:a.length=b.length:=by
   have :(a.length:Int)=b.length:=by simpa using hb
   omega
  clear hb
  refine ay ?_
  repeat refine sq ?_
  refine rx hΓ [0,1,5] [] (fun K' hK=>by simp only[go_sem];exact ak) ?_
  repeat refine sq ?_
  refine aC ?_
  repeat refine sq ?_
  refine bA (fun s:Nat=>[(5,⟨true,.v (vInt s)⟩)]) (fun s=>[]) (fun s=>s<=a.length/\uo a b s) (fun s=>a.length-s) 0 ?_ ?_ ?_ ?_
  ·exact⟨Nat.zero_le _,fun j _ _ h=>by omega⟩
  ·rfl
  ·rfl
  rintro i ⟨hi,hR⟩
  simp only[go_sem]
  repeat refine sq ?_
  refine rx hΓ [0,1,5,14] [] (fun K' hK=>by simp only[go_sem];exact ak) ?_
  repeat refine sq ?_
  refine au (fun hb=>?_) fun hb=>?_
  ·have aa:i<a.length:=by simpa using hb
   have an:(i:Int)<a.length:=by omega
   clear hb
   have my:(i:Int)<b.length:=by omega
   have L9:i<b.length:=by omega
   repeat refine sq ?_
   refine ay ?_
   repeat refine sq ?_
   refine aC ?_
   repeat refine sq ?_
   refine dx hΓ hP [[],[],[0,1],[0,1,2],[],[],[4,5],[4,5,6],u8] [0,1,5,25] [] (by kernel_rfl) (fun K' hK=>by simp only[go_sem,ae aa,ae (show i<b.length by omega),ah,aj,an,my];exact eQ) ?_
   repeat refine sq ?_
   refine au (fun hb=>?_) fun hb=>?_
   ·repeat refine sq ?_
    have dk:a≠b:=by
     rintro rfl
     simp at hb
    repeat refine sq ?_
    refine rx hΓ [4] [] (fun K' hK=>by simp only[go_sem,ae aa,ae (show i<b.length by omega),ah,aj,an,my];exact ak) ?_
    refine aq ?_
    simp only[go_sem]
    rw[decide_eq_false dk]
   ·repeat refine sq ?_
    refine ay ?_
    refine br ?_
    simp only[go_sem]
    refine kp [0,1,5] [] ?_
    repeat refine sq ?_
    refine aI hΓ fun K' hK=>?_
    simp only[go_sem,ae aa,ae (show i<b.length by omega),ah,aj,an,my]
    repeat (refine⟨ao,?_⟩)
    refine hK _ ?_
    clear K' hK
    simp only[go_sem]
    refine⟨i+1,⟨aa,?_⟩,by(show a.length-(i+1)<a.length-i;omega),?_⟩
    ·exact BU hR fun _ _=>Zu (by simpa using hb)
    refine aT [0,1,5] [] ?_ ?_<;>simp only[go_sem,aO aa hl,aQ]
  ·have aV:i=a.length:=by
    have :¬ (i:Int)<a.length:=by simpa using hb
    omega
   clear hb
   subst aV
   repeat refine sq ?_
   refine be ?_
   simp only[go_sem]
   refine kp [] [] ?_
   repeat refine sq ?_
   refine rx hΓ [4] [] (fun K' hK=>by simp only[go_sem];exact ak) ?_
   refine aq ?_
   simp only[go_sem]
   rw[decide_eq_true (BV oO hR)]
end
noncomputable section
def Jq(f:FuncId):Option SpecB:=
 match Nat.beq f 132 with
 |true=>some (AH Tryz.prog 29)
 |false=>match Nat.beq f 176 with
  |true=>some (AH Tryz.prog 26)
  |false=>match Nat.beq f 177 with
   |true=>some (AH Tryz.prog 27)
   |false=>match Nat.beq f 178 with
    |true=>some (AH Tryz.prog 28)
    |false=>match Nat.beq f 179 with
     |true=>some aai
     |false=>none
def Da(_:FuncId->Option SpecB)(f:FuncId):Option SpecB:=Jq f
theorem aak:aL Tryz.prog 179 pCloneI:=NQ NR rfl
theorem VX:∀ Γ:FuncId->Option SpecB,(∀ f s,bw Γ f=some s->aM Tryz.prog f s)->∀ f s,Da Γ f=some s->aM Tryz.prog f s.spec:=by
 intro Γ _ f s h
 unfold Da Jq at h
 split at h
 ·rename_i hb;have:=Nat.eq_of_beq_eq_true hb;subst this;cases h;exact vz NW
 ·split at h
  ·rename_i hb;have:=Nat.eq_of_beq_eq_true hb;subst this;cases h;exact vz NV
  ·split at h
   ·rename_i hb;have:=Nat.eq_of_beq_eq_true hb;subst this;cases h;exact vz NU
   ·split at h
    ·rename_i hb;have:=Nat.eq_of_beq_eq_true hb;subst this;cases h;exact vz NS
    ·split at h
     ·rename_i hb;have:=Nat.eq_of_beq_eq_true hb;subst this;cases h;exact aak.sound
     ·cases h
def JR(F:List Nat)(T:List Ent):FuncId->Option SpecB:=ΓB Tryz.prog (FK Tryz.prog Da 100000 F T) 100000 24
theorem VU{F:List Nat}{T:List Ent}(hT:∀ e∈T,bb Tryz.prog e):∀ f s,bw (JR F T) f=some s->aM Tryz.prog f s:=
 GB (aaM (fun Γ h f s=>VX Γ h f s) hT) 24
theorem c9{F:List Nat}{T:List Ent}(hT:∀ e∈T,bb Tryz.prog e){e:Ent}(h:B9 Tryz.prog (JR F T) 100000 e=true):bb Tryz.prog e:=Su (VU hT) h
theorem dg{P:Program}{e:Ent}{T:List Ent}(h:bb P e)(hT:∀ e∈T,bb P e):∀ x∈e::T,bb P x:=by
 intro x hx
 rcases List.mem_cons.1 hx with rfl | hx
 ·exact h
 ·exact hT x hx
def Kw:List Ent:=[]
theorem Ll:∀ e∈Kw,bb Tryz.prog e:=fun e h=>by cases h
end
end Go.Eng
