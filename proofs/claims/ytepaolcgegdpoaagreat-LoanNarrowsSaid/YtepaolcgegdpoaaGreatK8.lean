import Derived.Test.YtepaolcgegdpoaaGreatK7
/- Texts LW32 to LW90. -/
set_option linter.all false
namespace Go.Eng
open Go Go.Proofs
set_option maxHeartbeats 8000000
noncomputable section
def rq(l:Led)(s k:Int):Option Int:=(aj l k).ts.find? fun i=>eZ l i==s
def jP(l:Led)(s k:Int):Int:=if cB l [k]=0 then gY (rq l s k).isSome 3 else cB l [k]
def mP(l:Led)(s k:Int):Int:=if cB l [k]=0 then(rq l s k).getD 0 else 0
def K32a:List (Nat×Spec):=[(75,o8),(76,S76)]
theorem afa:KS K32a:=tc xH.sound<|tc Bg<|tn
attribute [go_sem] K32a
@[go_sem] def P97:PSpec:=p3 iL iI iI (fun _ _ _=>True) (fun l s k=>.tup [vInt (mP l s k),vInt (jP l s k)]) true
@[go_sem] def SI:Spec:=P97.toSpec
theorem UK:aZ Tryz.prog 97 P97:=by
 refine lR (rs:=[.tmp 6,.tmp 7]) Tryz.func97 Tryz.ntmps97 fun l so k hp hw=>?_
 simp only[iI,iL,fw]at hw |-
 have hΓ:=afa
 repeat refine sq ?_
 refine rx hΓ [1,2,3] [[3,0]] (fun K' hK=>by simp only[go_sem];exact aq) ?_
 refine bQ (dV 3 (.ref [3,0] 0) (by simp only[go_sem]) (by simp only[go_sem]) [1,2,3] [[3,0]] ?_ rfl) ?_
 ·simp only[go_sem]
 simp only[go_sem]
 repeat refine sq ?_
 refine rx hΓ [1,2,3,8] [[3,0]] (fun K' hK=>by simp only[go_sem];exact aq) ?_
 repeat refine sq ?_
 refine rx hΓ [1,2,3,8,16] [[3,0]] (fun K' hK=>by simp only[go_sem];exact aq) ?_
 repeat refine sq ?_
 refine aC (fun hb=>?_) fun hb=>?_
 ·repeat refine sq ?_
  have hc:¬ cB l [k]=0:=by simpa using hb
  unfold mP jP;rw[if_neg hc,if_neg hc]
  repeat refine sq ?_
  refine rx hΓ [6,7] [] (fun K' hK=>by simp only[go_sem];exact aq) ?_
  refine aB ?_
  simp only[go_sem]
  all_goals exact el
 ·repeat refine sq ?_
  have hc:cB l [k]=0:=by simpa using hb
  unfold mP jP;rw[if_pos hc,if_pos hc]
  obtain⟨aa,_⟩:=pH hc
  obtain⟨hv,cz⟩:=rK aa k
  have tD:(aj l k).ts.length<=maxLen:=by have:=hv.tn;unfold maxLen;omega
  refine aF ?_
  repeat refine sq ?_
  refine rx hΓ [1,3,22,23,24] [[3,0]] (fun K' hK=>by simp only[go_sem];exact aq) ?_
  repeat refine sq ?_
  refine aR ?_
  repeat refine sq ?_
  refine cp (fun s:Nat=>[(24,⟨true,.v (vInt s)⟩)]) (fun s=>[]) (fun s=>s<=(aj l k).ts.length/\∀ j (h:j<(aj l k).ts.length),j<s->(eZ l (aj l k).ts[j]==so)=false) (fun s=>(aj l k).ts.length-s) 0 ?_ ?_ ?_ ?_
  ·exact⟨Nat.zero_le _,by simp⟩
  ·rfl
  ·rfl
  rintro i ⟨hi,hR⟩
  simp only[go_sem]
  repeat refine sq ?_
  refine rx hΓ [1,3,22,23,24,25] [[3,0]] (fun K' hK=>by simp only[go_sem];exact aq) ?_
  repeat refine sq ?_
  refine aC (fun hb=>?_) fun hb=>?_
  ·have ae:i<(aj l k).ts.length:=by simpa using hb
   have aw:(i:Int)<(aj l k).ts.length:=by omega
   clear hb
   obtain⟨cK,iu⟩:=hv.ts _ (List.getElem_mem ae)
   rw[jW]at iu
   have lk:=DG (l:=l) cK iu
   repeat refine sq ?_
   refine aF ?_
   repeat refine sq ?_
   refine aR ?_
   repeat refine sq ?_
   refine rx hΓ [1,3,10,22,23,24] [[3,0]] (fun K' hK=>by simp only[go_sem,ai ae,ak,an,aw];exact aq) ?_
   repeat refine sq ?_
   refine rx hΓ [1,3,10,22,23,24,35] [[3,0]] (fun K' hK=>by simp only[go_sem,ai ae,ak,an,aw,lk,cK,iu];exact aq) ?_
   repeat refine sq ?_
   refine aC (fun hb=>?_) fun hb=>?_
   ·repeat refine sq ?_
    refine rx hΓ [6,7] [] (fun K' hK=>by simp only[go_sem,ai ae,ak,an,aw];exact aq) ?_
    refine aB ?_
    simp only[go_sem]
    have e:rq l so k=some (aj l k).ts[i]:=List.find?_eq_some_iff_getElem.2 ⟨hb,i,ae,rfl,fun j hj=>by rw[hR j (by omega) hj];rfl⟩
    rw[e];rfl
   ·repeat refine sq ?_
    refine aF ?_
    refine bW ?_
    simp only[go_sem]
    refine kp [1,3,22,23,24] [[3,0]] ?_
    repeat refine sq ?_
    refine aW hΓ fun K' hK=>?_
    simp only[go_sem,ai ae,ak,an,aw]
    repeat (refine⟨au,?_⟩)
    refine hK _ ?_
    clear K' hK
    simp only[go_sem]
    refine⟨i+1,⟨ae,?_⟩,by(show (aj l k).ts.length-(i+1)<(aj l k).ts.length-i;omega),?_⟩
    ·intro j hj ff
     rcases Nat.lt_succ_iff_lt_or_eq.1 ff with h5 | rfl
     ·exact hR j hj h5
     ·exact hb
    refine bh [1,3,22,23,24] [[3,0]] ?_ ?_<;>simp only[go_sem,bc ae tD,be]
  ·have bE:i=(aj l k).ts.length:=by
    have :¬ (i:Int)<(aj l k).ts.length:=by simpa using hb
    omega
   clear hb
   subst bE
   repeat refine sq ?_
   refine bN ?_
   simp only[go_sem]
   refine kp [] [] ?_
   repeat refine sq ?_
   refine rx hΓ [6,7] [] (fun K' hK=>by simp only[go_sem];exact aq) ?_
   refine aB ?_
   simp only[go_sem]
   have e:rq l so k=none:=List.find?_eq_none.2 fun y hy=>by
    obtain⟨j,hj,rfl⟩:=List.getElem_of_mem hy
    rw[hR j hj hj];decide
   rw[e];rfl
def fC(x:Vw)(pa le day:Int):List Int:=match eo x.rs pa le day with
 |none=>[0]
 |some r=>match bb x.bk (r.so,le)with
  |none=>[r.bo]
  |some i=>(if (aL x.ds i).1<=day then[0]else[])++(if (aL x.ds i).2>day then[r.bo]else[])
def K32b:List (Nat×Spec):=[(119,S119)]
theorem ae':KS K32b:=tc Od<|tn
attribute [go_sem] K32b
def Sy:VSpec:=v2 mf iI (fun x _ _=>o7 x/\x.rs.Nodup) (fun x f day=>.v (.sl ((fC x f.pa f.le day).map vInt))) none
def S80:Spec:=Sy.toSpec
attribute [go_sem] Sy S80
theorem N5:aT Tryz.prog 80 S80:=by
 refine z5 (rs:=[.tmp 6]) Tryz.func80 Tryz.ntmps80 (by rfl) (by kernel_rfl) (by decide) (fun _ _ _=>by first | rfl | simp[D.clos,D.closL,mQ]) ⟨_,rfl,lb rfl,fun x f day hp H h0 h1 h2 hO ah=>?_⟩
 have hP:=fE
 simp only[mf,iI,qJ,bG,dt,List.map_cons,List.map_nil,Nat.zero_add,Option.map_some,Option.map_none]at h0 |-
 have hΓ:=ae'
 obtain⟨pa,le⟩:=f
 have kG:fC x pa le day=match eo x.rs pa le day with
  |none=>[0]
  |some r=>match bb x.bk (r.so,le)with
   |none=>[r.bo]
   |some i=>(if (aL x.ds i).1<=day then[0]else[])++(if (aL x.ds i).2>day then[r.bo]else[]):=rfl
 rw[kG]
 clear kG
 repeat refine sq ?_
 refine rx hΓ [0,2,4] [[4,0]] (fun K' hK=>by simp only[go_sem,hO,ah,h0,h1,h2];(repeat (refine⟨au,?_⟩));exact hK _ (by simp only[go_sem,hO,ah,h0,h1,h2]) (by simp only[go_sem,hO,ah,h0,h1,h2]<;>rfl)) ?_
 rcases ay:eo x.rs pa le day with _ | r
 ·repeat refine sq ?_
  refine rx hΓ [0,2,4,7,8] [[4,0],[7,0]] (fun K' hK=>by simp only[go_sem,hO,ah,h0,h1,h2,ay,bA,Option.isSome_none];(repeat (refine⟨au,?_⟩));exact hK _ (by simp only[go_sem,hO,ah,h0,h1,h2,ay,bA,Option.isSome_none]) (by simp only[go_sem,hO,ah,h0,h1,h2,ay,bA,Option.isSome_none]<;>rfl)) ?_
  repeat refine sq ?_
  refine rx hΓ [0,2,4,7,20] [[4,0],[7,0]] (fun K' hK=>by simp only[go_sem,hO,ah,h0,h1,h2,ay,bA,Option.isSome_none];(repeat (refine⟨au,?_⟩));exact hK _ (by simp only[go_sem,hO,ah,h0,h1,h2,ay,bA,Option.isSome_none]) (by simp only[go_sem,hO,ah,h0,h1,h2,ay,bA,Option.isSome_none]<;>rfl)) ?_
  repeat refine sq ?_
  refine aC (fun hb=>?_) fun hb=>?_
  ·repeat refine sq ?_
   refine rx hΓ [6] [[51,0],[65,0]] (fun K' hK=>by simp only[go_sem,hO,ah,h0,h1,h2,ay,bA,Option.isSome_none];(repeat (refine⟨au,?_⟩));exact hK _ (by simp only[go_sem,hO,ah,h0,h1,h2,ay,bA,Option.isSome_none]) (by simp only[go_sem,hO,ah,h0,h1,h2,ay,bA,Option.isSome_none]<;>rfl)) ?_
   refine aB ?_
   simp only[go_sem,hO,ah,h0,h1,h2]
   all_goals first | rfl | (simp only[aM];rfl) | (simp_all;done) | trace_state
  ·cases hb
 ·repeat refine sq ?_
  refine rx hΓ [0,2,4,7,8] [[4,0],[7,0]] (fun K' hK=>by simp only[go_sem,hO,ah,h0,h1,h2,ay,aJ,Option.isSome_some];(repeat (refine⟨au,?_⟩));exact hK _ (by simp only[go_sem,hO,ah,h0,h1,h2,ay,aJ,Option.isSome_some]) (by simp only[go_sem,hO,ah,h0,h1,h2,ay,aJ,Option.isSome_some]<;>rfl)) ?_
  repeat refine sq ?_
  refine rx hΓ [0,2,4,7,20] [[4,0],[7,0]] (fun K' hK=>by simp only[go_sem,hO,ah,h0,h1,h2,ay,aJ,Option.isSome_some];(repeat (refine⟨au,?_⟩));exact hK _ (by simp only[go_sem,hO,ah,h0,h1,h2,ay,aJ,Option.isSome_some]) (by simp only[go_sem,hO,ah,h0,h1,h2,ay,aJ,Option.isSome_some]<;>rfl)) ?_
  repeat refine sq ?_
  refine aC (fun hb=>?_) fun hb=>?_
  ·cases hb
  ·repeat refine sq ?_
   refine aF ?_
   rcases aM:bb x.bk (r.so,le)with _ | j
   ·repeat refine sq ?_
    refine dx hΓ hP [[],[0],[0,1],[0,1,2],[],[4],[],[6],[4,5,6,7],u9,ck,eF,eF,eO,jk] [0,2,7,9,10] [[7,0]] (by kernel_rfl) (fun K' hK=>by simp only[go_sem,hO,ah,h0,h1,h2,ay,aJ,Option.isSome_some,aA,aM,Option.map_none,Option.isSome_none,Option.getD_none];(repeat (refine⟨au,?_⟩));(first | refine⟨by rfl,?_⟩ | skip);exact hK _ (by simp only[go_sem,hO,ah,h0,h1,h2,ay,aJ,Option.isSome_some,aA,aM,Option.map_none,Option.isSome_none,Option.getD_none]) (by simp only[go_sem,hO,ah,h0,h1,h2,ay,aJ,Option.isSome_some,aA,aM,Option.map_none,Option.isSome_none,Option.getD_none]<;>rfl)) ?_
    repeat refine sq ?_
    refine rx hΓ [0,2,7,9,36] [[7,0]] (fun K' hK=>by simp only[go_sem,hO,ah,h0,h1,h2,ay,aJ,Option.isSome_some,aA,aM,Option.map_none,Option.isSome_none,Option.getD_none];(repeat (refine⟨au,?_⟩));exact hK _ (by simp only[go_sem,hO,ah,h0,h1,h2,ay,aJ,Option.isSome_some,aA,aM,Option.map_none,Option.isSome_none,Option.getD_none]) (by simp only[go_sem,hO,ah,h0,h1,h2,ay,aJ,Option.isSome_some,aA,aM,Option.map_none,Option.isSome_none,Option.getD_none]<;>rfl)) ?_
    repeat refine sq ?_
    refine aC (fun hb=>?_) fun hb=>?_
    ·repeat refine sq ?_
     refine rx hΓ [6] [[51,0],[65,0]] (fun K' hK=>by simp only[go_sem,hO,ah,h0,h1,h2,ay,aJ,Option.isSome_some,aA,aM,Option.map_none,Option.isSome_none,Option.getD_none];(repeat (refine⟨au,?_⟩));exact hK _ (by simp only[go_sem,hO,ah,h0,h1,h2,ay,aJ,Option.isSome_some,aA,aM,Option.map_none,Option.isSome_none,Option.getD_none]) (by simp only[go_sem,hO,ah,h0,h1,h2,ay,aJ,Option.isSome_some,aA,aM,Option.map_none,Option.isSome_none,Option.getD_none]<;>rfl)) ?_
     refine aB ?_
     simp only[go_sem,hO,ah,h0,h1,h2]
     all_goals first | rfl | (simp only[aM];rfl) | (simp_all;done) | trace_state
    ·cases hb
   ·repeat refine sq ?_
    refine dx hΓ hP [[],[0],[0,1],[0,1,2],[],[4],[],[6],[4,5,6,7],u9,ck,eF,eF,eO,jk] [0,2,7,9,10] [[7,0]] (by kernel_rfl) (fun K' hK=>by simp only[go_sem,hO,ah,h0,h1,h2,ay,aJ,Option.isSome_some,aA,aM,Option.map_some,Option.isSome_some,Option.getD_some];(repeat (refine⟨au,?_⟩));(first | refine⟨by rfl,?_⟩ | skip);exact hK _ (by simp only[go_sem,hO,ah,h0,h1,h2,ay,aJ,Option.isSome_some,aA,aM,Option.map_some,Option.isSome_some,Option.getD_some]) (by simp only[go_sem,hO,ah,h0,h1,h2,ay,aJ,Option.isSome_some,aA,aM,Option.map_some,Option.isSome_some,Option.getD_some]<;>rfl)) ?_
    repeat refine sq ?_
    refine rx hΓ [0,2,7,9,36] [[7,0]] (fun K' hK=>by simp only[go_sem,hO,ah,h0,h1,h2,ay,aJ,Option.isSome_some,aA,aM,Option.map_some,Option.isSome_some,Option.getD_some];(repeat (refine⟨au,?_⟩));exact hK _ (by simp only[go_sem,hO,ah,h0,h1,h2,ay,aJ,Option.isSome_some,aA,aM,Option.map_some,Option.isSome_some,Option.getD_some]) (by simp only[go_sem,hO,ah,h0,h1,h2,ay,aJ,Option.isSome_some,aA,aM,Option.map_some,Option.isSome_some,Option.getD_some]<;>rfl)) ?_
    repeat refine sq ?_
    refine aC (fun hb=>?_) fun hb=>?_
    ·cases hb
    ·repeat refine sq ?_
     refine aF ?_
     repeat refine sq ?_
     refine rx hΓ [0,2,7,9,11] [[7,0],[51,0],[65,0]] (fun K' hK=>by simp only[go_sem,hO,ah,h0,h1,h2,ay,aJ,Option.isSome_some,aA,aM,Option.map_some,Option.isSome_some,Option.getD_some];(repeat (refine⟨au,?_⟩));exact hK _ (by simp only[go_sem,hO,ah,h0,h1,h2,ay,aJ,Option.isSome_some,aA,aM,Option.map_some,Option.isSome_some,Option.getD_some]) (by simp only[go_sem,hO,ah,h0,h1,h2,ay,aJ,Option.isSome_some,aA,aM,Option.map_some,Option.isSome_some,Option.getD_some]<;>rfl)) ?_
     refine bQ (vl 11 [51,0] 1 (by simp only[go_sem]) (by simp only[go_sem]) [0,2,7,9,11] [[7,0],[51,0],[65,0]] ?_ rfl) ?_
     ·simp only[go_sem,hO,ah,h0,h1,h2]
     simp only[go_sem,hO,ah,h0,h1,h2]
     repeat refine sq ?_
     refine rx hΓ [0,2,7,9,11,48] [[7,0],[51,0],[65,0]] (fun K' hK=>by simp only[go_sem,hO,ah,h0,h1,h2,ay,aJ,Option.isSome_some,aA,aM,Option.map_some,Option.isSome_some,Option.getD_some,gj];(repeat (refine⟨au,?_⟩));exact hK _ (by simp only[go_sem,hO,ah,h0,h1,h2,ay,aJ,Option.isSome_some,aA,aM,Option.map_some,Option.isSome_some,Option.getD_some,gj]) (by simp only[go_sem,hO,ah,h0,h1,h2,ay,aJ,Option.isSome_some,aA,aM,Option.map_some,Option.isSome_some,Option.getD_some,gj]<;>rfl)) ?_
     repeat refine sq ?_
     refine aC (fun hb=>?_) fun hb=>?_
     ·repeat refine sq ?_
      refine rx hΓ [0,2,7,9,11] [[7,0],[51,0],[65,0]] (fun K' hK=>by simp only[go_sem,hO,ah,h0,h1,h2,ay,aJ,Option.isSome_some,aA,aM,Option.map_some,Option.isSome_some,Option.getD_some];(repeat (refine⟨au,?_⟩));exact hK _ (by simp only[go_sem,hO,ah,h0,h1,h2,ay,aJ,Option.isSome_some,aA,aM,Option.map_some,Option.isSome_some,Option.getD_some]) (by simp only[go_sem,hO,ah,h0,h1,h2,ay,aJ,Option.isSome_some,aA,aM,Option.map_some,Option.isSome_some,Option.getD_some]<;>rfl)) ?_
      repeat refine sq ?_
      refine rx hΓ [7,11,60] [[7,0],[51,0],[65,0]] (fun K' hK=>by simp only[go_sem,hO,ah,h0,h1,h2,ay,aJ,Option.isSome_some,aA,aM,Option.map_some,Option.isSome_some,Option.getD_some,gj];(repeat (refine⟨au,?_⟩));exact hK _ (by simp only[go_sem,hO,ah,h0,h1,h2,ay,aJ,Option.isSome_some,aA,aM,Option.map_some,Option.isSome_some,Option.getD_some,gj]) (by simp only[go_sem,hO,ah,h0,h1,h2,ay,aJ,Option.isSome_some,aA,aM,Option.map_some,Option.isSome_some,Option.getD_some,gj]<;>rfl)) ?_
      repeat refine sq ?_
      refine aC (fun hb=>?_) fun hb=>?_
      ·repeat refine sq ?_
       refine rx hΓ [11] [[51,0],[65,0]] (fun K' hK=>by simp only[go_sem,hO,ah,h0,h1,h2,ay,aJ,Option.isSome_some,aA,aM,Option.map_some,Option.isSome_some,Option.getD_some];(repeat (refine⟨au,?_⟩));exact hK _ (by simp only[go_sem,hO,ah,h0,h1,h2,ay,aJ,Option.isSome_some,aA,aM,Option.map_some,Option.isSome_some,Option.getD_some]) (by simp only[go_sem,hO,ah,h0,h1,h2,ay,aJ,Option.isSome_some,aA,aM,Option.map_some,Option.isSome_some,Option.getD_some]<;>rfl)) ?_
       repeat refine sq ?_
       refine rx hΓ [6] [[51,0],[65,0]] (fun K' hK=>by simp only[go_sem,hO,ah,h0,h1,h2,ay,aJ,Option.isSome_some,aA,aM,Option.map_some,Option.isSome_some,Option.getD_some];(repeat (refine⟨au,?_⟩));exact hK _ (by simp only[go_sem,hO,ah,h0,h1,h2,ay,aJ,Option.isSome_some,aA,aM,Option.map_some,Option.isSome_some,Option.getD_some]) (by simp only[go_sem,hO,ah,h0,h1,h2,ay,aJ,Option.isSome_some,aA,aM,Option.map_some,Option.isSome_some,Option.getD_some]<;>rfl)) ?_
       first | refine bQ (dV 6 (.msl [51,0] 2) rfl (by simp only[go_sem]) [6] [] ?_ rfl) ?_ | refine bQ (dV 6 (.msl [51,0] 1) rfl (by simp only[go_sem]) [6] [] ?_ rfl) ?_ | refine bQ (dV 6 (.msl [51,0] 0) rfl (by simp only[go_sem]) [6] [] ?_ rfl) ?_
       ·simp only[go_sem,hO,h0,h1,h2]
       simp only[go_sem,hO,h0,h1,h2]
       refine aB ?_
       simp only[go_sem,hO,ah,h0,h1,h2]
       all_goals first | rfl | (simp only[aM];rfl) | (simp_all;done) | trace_state
      ·repeat refine sq ?_
       refine aF ?_
       repeat refine sq ?_
       refine rx hΓ [6] [[51,0],[65,0]] (fun K' hK=>by simp only[go_sem,hO,ah,h0,h1,h2,ay,aJ,Option.isSome_some,aA,aM,Option.map_some,Option.isSome_some,Option.getD_some];(repeat (refine⟨au,?_⟩));exact hK _ (by simp only[go_sem,hO,ah,h0,h1,h2,ay,aJ,Option.isSome_some,aA,aM,Option.map_some,Option.isSome_some,Option.getD_some]) (by simp only[go_sem,hO,ah,h0,h1,h2,ay,aJ,Option.isSome_some,aA,aM,Option.map_some,Option.isSome_some,Option.getD_some]<;>rfl)) ?_
       first | refine bQ (dV 6 (.msl [51,0] 2) rfl (by simp only[go_sem]) [6] [] ?_ rfl) ?_ | refine bQ (dV 6 (.msl [51,0] 1) rfl (by simp only[go_sem]) [6] [] ?_ rfl) ?_ | refine bQ (dV 6 (.msl [51,0] 0) rfl (by simp only[go_sem]) [6] [] ?_ rfl) ?_
       ·simp only[go_sem,hO,h0,h1,h2]
       simp only[go_sem,hO,h0,h1,h2]
       refine aB ?_
       simp only[go_sem,hO,ah,h0,h1,h2]
       all_goals first | rfl | (simp only[aM];rfl) | (simp_all;done) | trace_state
     ·repeat refine sq ?_
      refine aF ?_
      repeat refine sq ?_
      refine rx hΓ [7,11,60] [[7,0],[51,0],[65,0]] (fun K' hK=>by simp only[go_sem,hO,ah,h0,h1,h2,ay,aJ,Option.isSome_some,aA,aM,Option.map_some,Option.isSome_some,Option.getD_some,gj];(repeat (refine⟨au,?_⟩));exact hK _ (by simp only[go_sem,hO,ah,h0,h1,h2,ay,aJ,Option.isSome_some,aA,aM,Option.map_some,Option.isSome_some,Option.getD_some,gj]) (by simp only[go_sem,hO,ah,h0,h1,h2,ay,aJ,Option.isSome_some,aA,aM,Option.map_some,Option.isSome_some,Option.getD_some,gj]<;>rfl)) ?_
      repeat refine sq ?_
      refine aC (fun hb=>?_) fun hb=>?_
      ·repeat refine sq ?_
       refine rx hΓ [11] [[51,0],[65,0]] (fun K' hK=>by simp only[go_sem,hO,ah,h0,h1,h2,ay,aJ,Option.isSome_some,aA,aM,Option.map_some,Option.isSome_some,Option.getD_some];(repeat (refine⟨au,?_⟩));exact hK _ (by simp only[go_sem,hO,ah,h0,h1,h2,ay,aJ,Option.isSome_some,aA,aM,Option.map_some,Option.isSome_some,Option.getD_some]) (by simp only[go_sem,hO,ah,h0,h1,h2,ay,aJ,Option.isSome_some,aA,aM,Option.map_some,Option.isSome_some,Option.getD_some]<;>rfl)) ?_
       repeat refine sq ?_
       refine rx hΓ [6] [[51,0],[65,0]] (fun K' hK=>by simp only[go_sem,hO,ah,h0,h1,h2,ay,aJ,Option.isSome_some,aA,aM,Option.map_some,Option.isSome_some,Option.getD_some];(repeat (refine⟨au,?_⟩));exact hK _ (by simp only[go_sem,hO,ah,h0,h1,h2,ay,aJ,Option.isSome_some,aA,aM,Option.map_some,Option.isSome_some,Option.getD_some]) (by simp only[go_sem,hO,ah,h0,h1,h2,ay,aJ,Option.isSome_some,aA,aM,Option.map_some,Option.isSome_some,Option.getD_some]<;>rfl)) ?_
       first | refine bQ (dV 6 (.msl [51,0] 2) rfl (by simp only[go_sem]) [6] [] ?_ rfl) ?_ | refine bQ (dV 6 (.msl [51,0] 1) rfl (by simp only[go_sem]) [6] [] ?_ rfl) ?_ | refine bQ (dV 6 (.msl [51,0] 0) rfl (by simp only[go_sem]) [6] [] ?_ rfl) ?_
       ·simp only[go_sem,hO,h0,h1,h2]
       simp only[go_sem,hO,h0,h1,h2]
       refine aB ?_
       simp only[go_sem,hO,ah,h0,h1,h2]
       all_goals first | rfl | (simp only[aM];rfl) | (simp_all;done) | trace_state
      ·repeat refine sq ?_
       refine aF ?_
       repeat refine sq ?_
       refine rx hΓ [6] [[51,0],[65,0]] (fun K' hK=>by simp only[go_sem,hO,ah,h0,h1,h2,ay,aJ,Option.isSome_some,aA,aM,Option.map_some,Option.isSome_some,Option.getD_some];(repeat (refine⟨au,?_⟩));exact hK _ (by simp only[go_sem,hO,ah,h0,h1,h2,ay,aJ,Option.isSome_some,aA,aM,Option.map_some,Option.isSome_some,Option.getD_some]) (by simp only[go_sem,hO,ah,h0,h1,h2,ay,aJ,Option.isSome_some,aA,aM,Option.map_some,Option.isSome_some,Option.getD_some]<;>rfl)) ?_
       first | refine bQ (dV 6 (.msl [51,0] 2) rfl (by simp only[go_sem]) [6] [] ?_ rfl) ?_ | refine bQ (dV 6 (.msl [51,0] 1) rfl (by simp only[go_sem]) [6] [] ?_ rfl) ?_ | refine bQ (dV 6 (.msl [51,0] 0) rfl (by simp only[go_sem]) [6] [] ?_ rfl) ?_
       ·simp only[go_sem,hO,h0,h1,h2]
       simp only[go_sem,hO,h0,h1,h2]
       refine aB ?_
       simp only[go_sem,hO,ah,h0,h1,h2]
       all_goals first | rfl | (simp only[aM];rfl) | (simp_all;done) | trace_state
end
set_option maxHeartbeats 8000000
noncomputable section
def eS(l:Led)(k:Int):Int:=TZ (ew (aj l k)) (fI (aj l k) (du (aj l k).l k))
theorem xz{l:Led}{k:Int}(h:fk l k=false):vA (ew (aj l k)) (fI (aj l k) (du (aj l k).l k)) (aj l k) k=[]/\vx (ew (aj l k)) (fI (aj l k) (du (aj l k).l k))=.tup [.v .nilp,.v (vInt (eS l k))]/\(eS l k != 0)=true:=by
 unfold fk at h
 unfold eS
 cases hp:ew (aj l k)with
 |some p=>
  cases fI (aj l k) (du (aj l k).l k)<;>exact⟨rfl,rfl,rfl⟩
 |none=>
  rw[hp]at h
  have h2:fI (aj l k) (du (aj l k).l k)=false:=by simpa using h
  rw[h2]
  exact⟨rfl,rfl,rfl⟩
theorem xy{l:Led}{k:Int}(h:fk l k=true):vA (ew (aj l k)) (fI (aj l k) (du (aj l k).l k)) (aj l k) k=vp (aN (aj l k) k) [11,0,11,0]/\vx (ew (aj l k)) (fI (aj l k) (du (aj l k).l k))=.tup [.ref [26,0,11,0,11,0] 0,.v (vInt 0)]/\eS l k=0:=by
 unfold fk at h
 simp only[Bool.and_eq_true,Option.isNone_iff_eq_none]at h
 unfold eS
 rw[h.1,h.2]
 exact⟨rfl,rfl,rfl⟩
theorem DL{l:Led}(h:bw l)(k:Int):o7 (aN (aj l k) k)/\(aN (aj l k) k).rs.Nodup:=⟨(rK h k).1.ds _,(rK h k).2⟩
def pN(a b c:Int):Int:=if a=c then 1 else if b<c then 0 else 2
@[go_sem] def P81:PSpec:=p3 iI iI iI (fun _ _ _=>True) (fun a b c=>vInt (pN a b c)) true
@[go_sem] def S81:Spec:=P81.toSpec
theorem UP:aZ Tryz.prog 81 P81:=by
 refine lR (rs:=[.tmp 6]) Tryz.func81 Tryz.ntmps81 fun a b c hp hw=>?_
 simp only[iI]at hw |-
 have hΓ:=@fD Tryz.prog
 repeat refine sq ?_
 refine rx hΓ [0,1,2] [] (fun K' hK=>by simp only[go_sem];exact aq) ?_
 repeat refine sq ?_
 refine aR ?_
 repeat refine sq ?_
 refine rx hΓ [1,2,7] [] (fun K' hK=>by simp only[go_sem];exact aq) ?_
 repeat refine sq ?_
 refine aC (fun hb=>?_) fun hb=>?_
 ·repeat refine sq ?_
  refine rx hΓ [6] [] (fun K' hK=>by simp only[go_sem];exact aq) ?_
  refine aB ?_
  simp only[go_sem]
  (unfold pN;simp_all;done)
 ·repeat refine sq ?_
  refine rx hΓ [11] [] (fun K' hK=>by simp only[go_sem];exact aq) ?_
  repeat refine sq ?_
  refine aC (fun hb=>?_) fun hb=>?_
  ·repeat refine sq ?_
   refine rx hΓ [6] [] (fun K' hK=>by simp only[go_sem];exact aq) ?_
   refine aB ?_
   simp only[go_sem]
   (unfold pN;simp_all;done)
  ·repeat refine sq ?_
   refine aF ?_
   refine bW ?_
   simp only[go_sem]
   refine kp [] [] ?_
   repeat refine sq ?_
   refine rx hΓ [6] [] (fun K' hK=>by simp only[go_sem];exact aq) ?_
   refine aB ?_
   simp only[go_sem]
   (unfold pN;simp_all;done)
def gI(l:Led)(s k:Int):Int×Int:=if jP l s k=0/\fk l k=true then aL (aN (aj l k) k).ds (mP l s k)else(0,0)
def mz(l:Led)(s k:Int):Int:=if jP l s k=0 then eS l k else jP l s k
theorem Kj{l:Led}{s k:Int}(h:jP l s k=0):bw l/\dayB k=true:=by
 unfold jP at h
 split at h
 ·rename_i hc
  exact⟨(pH hc).1,(pH hc).2 k (by simp)⟩
 ·rename_i hc;exact(hc h).elim
def K33a:List (Nat×Spec):=[(97,SI),(78,S78)]
theorem ae9:KS K33a:=tc UK.sound<|tc Bf<|tn
attribute [go_sem] K33a
@[go_sem] def P27:PSpec:=p3 iL iI iI (fun _ _ _=>True) (fun l s k=>.tup [.agg [vInt (gI l s k).1,vInt (gI l s k).2],vInt (mz l s k)]) true
@[go_sem] def SM:Spec:=P27.toSpec
theorem U0:aZ Tryz.prog 27 P27:=by
 refine lR (rs:=[.cell 6 38,.tmp 7]) Tryz.func27 Tryz.ntmps27 fun l so k hp hw=>?_
 simp only[iI,iL,fw]at hw |-
 have hΓ:=ae9
 repeat refine sq ?_
 refine rx hΓ [1,2,3,6] [[3,0],[6,0]] (fun K' hK=>by simp only[go_sem];exact aq) ?_
 refine bQ (dV 3 (.ref [3,0] 0) (by simp only[go_sem]) (by simp only[go_sem]) [1,2,3,6] [[3,0],[6,0]] ?_ rfl) ?_
 ·simp only[go_sem]
 simp only[go_sem]
 repeat refine sq ?_
 refine rx hΓ [2,3,6,8,9] [[3,0],[6,0]] (fun K' hK=>by simp only[go_sem];exact aq) ?_
 repeat refine sq ?_
 refine rx hΓ [2,3,6,8,9,19] [[3,0],[6,0]] (fun K' hK=>by simp only[go_sem];exact aq) ?_
 repeat refine sq ?_
 refine aC (fun hb=>?_) fun hb=>?_
 ·repeat refine sq ?_
  have hc:¬ jP l so k=0:=by simpa using hb
  unfold gI mz;rw[if_neg hc,if_neg (fun h=>hc h.1)]
  repeat refine sq ?_
  refine rx hΓ [6,7] [[6,0]] (fun K' hK=>by simp only[go_sem];exact aq) ?_
  refine aB ?_
  simp only[go_sem]
  all_goals first | rfl | (rw[hd];done) | (rw[hd];rfl) | (rw[hd,q3];done) | (rw[hd,q3];rfl) | (rw[q3];rfl) | (rw[q3];done) | trace_state
 ·repeat refine sq ?_
  have hc:jP l so k=0:=by simpa using hb
  obtain⟨aa,_⟩:=Kj hc
  unfold mz;rw[if_pos hc]
  refine aF ?_
  rcases gC:fk l k with _ | _
  ·obtain⟨q1,q2,q3⟩:=xz gC
   have hd:gI l so k=(0,0):=by unfold gI;rw[if_neg (fun h=>by rw[gC]at h;cases h.2)]
   repeat refine sq ?_
   refine rx hΓ [6,8,9,10] [[6,0],[26,0,11,0,11,0,24,0],[23,0,11,0,11,0,24,0],[24,0,11,0,11,0,24,0]] (fun K' hK=>by simp only[go_sem,q1,q2,q3];exact aq) ?_
   repeat refine sq ?_
   refine rx hΓ [6,8,9,10,28] [[6,0],[26,0,11,0,11,0,24,0],[23,0,11,0,11,0,24,0],[24,0,11,0,11,0,24,0]] (fun K' hK=>by simp only[go_sem,q1,q2,q3];exact aq) ?_
   repeat refine sq ?_
   refine aC (fun hb=>?_) fun hb=>?_
   ·repeat refine sq ?_
    refine rx hΓ [6,7] [[6,0]] (fun K' hK=>by simp only[go_sem,q1,q2,q3];exact aq) ?_
    refine aB ?_
    simp only[go_sem]
    all_goals first | rfl | (rw[hd];done) | (rw[hd];rfl) | (rw[hd,q3];done) | (rw[hd,q3];rfl) | (rw[q3];rfl) | (rw[q3];done) | trace_state
   ·cases hb
  ·obtain⟨q1,q2,q3⟩:=xy gC
   have hd:gI l so k=aL (aN (aj l k) k).ds (mP l so k):=by unfold gI;rw[if_pos ⟨hc,gC⟩]
   repeat refine sq ?_
   refine rx hΓ [6,8,9,10] [[6,0],[26,0,11,0,11,0,24,0],[23,0,11,0,11,0,24,0],[24,0,11,0,11,0,24,0]] (fun K' hK=>by simp only[go_sem,q1,q2];exact aq) ?_
   repeat refine sq ?_
   refine rx hΓ [6,8,9,10,28] [[6,0],[26,0,11,0,11,0,24,0],[23,0,11,0,11,0,24,0],[24,0,11,0,11,0,24,0]] (fun K' hK=>by simp only[go_sem,q1,q2];exact aq) ?_
   repeat refine sq ?_
   refine aC (fun hb=>?_) fun hb=>?_
   ·cases hb
   ·repeat refine sq ?_
    refine aF ?_
    repeat refine sq ?_
    refine rx hΓ [6,7] [[6,0]] (fun K' hK=>by simp only[go_sem,q1,q2,gj];exact aq) ?_
    refine aB ?_
    simp only[go_sem]
    all_goals first | rfl | (rw[hd];done) | (rw[hd];rfl) | (rw[hd,q3];done) | (rw[hd,q3];rfl) | (rw[q3];rfl) | (rw[q3];done) | trace_state
def kU(l:Led)(f:Fol)(day k:Int):Int:=if cB l [day,k]=0 then(if bL f.le 1 (bT l.ps f.pa)=true then eS l k else 26)else cB l [day,k]
def vm(l:Led)(f:Fol)(day k:Int):List Int:=if kU l f day k=0 then fC (aN (aj l k) k) f.pa f.le day else[]
def zZ(l:Led)(f:Fol)(day k:Int):V:=.tup [.sl ((vm l f day k).map vInt),vInt (kU l f day k)]
theorem bw.srt{l:Led}(h:bw l):Go.Eng.srt Pap.id l.ps:=sZ (jH.1 h.ps)
def K33b:List (Nat×Spec):=[(75,o8),(79,zO),(96,uZ),(78,S78),(80,S80)]
theorem ae8:KS K33b:=tc xH.sound<|tc Au.sound<|tc xG.sound<|tc Bf<|tc N5<|tn
attribute [go_sem] K33b
@[go_sem] def P23:PSpec:=p4 iL mf iI iI (fun _ _ _ _=>True) (fun l f day k=>zZ l f day k) false
@[go_sem] def SN:Spec:=P23.toSpec
theorem U2:aZ Tryz.prog 23 P23:=by
 refine ra (rs:=[.tmp 8,.tmp 9]) Tryz.func23 Tryz.ntmps23 fun l f day k hp hw=>?_
 have hP:=fE
 simp only[mf,iI,iL,qJ,fw]at hw |-
 have hΓ:=ae8
 unfold zZ vm
 repeat refine sq ?_
 refine rx hΓ [2,3,4,5] [[4,0],[5,0]] (fun K' hK=>by simp only[go_sem];exact aq) ?_
 refine bQ (dV 4 (.ref [4,0] 0) (by simp only[go_sem]) (by simp only[go_sem]) [2,3,4,5] [[4,0],[5,0]] ?_ rfl) ?_
 ·simp only[go_sem]
 simp only[go_sem]
 repeat refine sq ?_
 refine rx hΓ [2,3,4,5,10] [[4,0],[5,0]] (fun K' hK=>by simp only[go_sem];exact aq) ?_
 repeat refine sq ?_
 refine rx hΓ [2,3,4,5,10,19] [[4,0],[5,0]] (fun K' hK=>by simp only[go_sem];exact aq) ?_
 repeat refine sq ?_
 refine aC (fun hb=>?_) fun hb=>?_
 ·repeat refine sq ?_
  have hc:¬ cB l [day,k]=0:=by simpa using hb
  have he:kU l f day k=cB l [day,k]:=by unfold kU;rw[if_neg hc]
  rw[he,if_neg hc]
  repeat refine sq ?_
  refine rx hΓ [8,9] [] (fun K' hK=>by simp only[go_sem];exact aq) ?_
  refine aB ?_
  simp only[go_sem]
  all_goals first | done | rfl | trace_state
 ·repeat refine sq ?_
  have hc:cB l [day,k]=0:=by simpa using hb
  obtain⟨aa,_⟩:=pH hc
  have rU:=aa.srt
  refine aF ?_
  repeat refine sq ?_
  refine dx hΓ hP [[],[0],[],[2],[2,3],u5,u6] [2,3,4,5,27] [[4,0],[5,0]] (by kernel_rfl) (fun K' hK=>by simp only[go_sem,rU];exact gX) ?_
  repeat refine sq ?_
  refine aC (fun hb=>?_) fun hb=>?_
  ·repeat refine sq ?_
   have he:kU l f day k=26:=by unfold kU;rw[if_pos hc,if_neg (by simpa using hb)]
   rw[he]
   repeat refine sq ?_
   refine rx hΓ [8,9] [] (fun K' hK=>by simp only[go_sem];exact aq) ?_
   refine aB ?_
   simp only[go_sem]
   all_goals first | done | rfl | trace_state
  ·repeat refine sq ?_
   have he:kU l f day k=eS l k:=by unfold kU;rw[if_pos hc,if_pos (by simpa using hb)]
   rw[he]
   refine aF ?_
   rcases gC:fk l k with _ | _
   ·obtain⟨q1,q2,q3⟩:=xz gC
    have q4:¬ eS l k=0:=by simpa using q3
    rw[if_neg q4]
    repeat refine sq ?_
    refine rx hΓ [2,5,11,12] [[5,0],[26,0,11,0,11,0,30,0],[23,0,11,0,11,0,30,0],[24,0,11,0,11,0,30,0]] (fun K' hK=>by simp only[go_sem,q1,q2,q3];exact aq) ?_
    repeat refine sq ?_
    refine rx hΓ [2,5,11,12,34] [[5,0],[26,0,11,0,11,0,30,0],[23,0,11,0,11,0,30,0],[24,0,11,0,11,0,30,0]] (fun K' hK=>by simp only[go_sem,q1,q2,q3];exact aq) ?_
    repeat refine sq ?_
    refine aC (fun hb=>?_) fun hb=>?_
    ·repeat refine sq ?_
     refine rx hΓ [8,9] [] (fun K' hK=>by simp only[go_sem,q1,q2,q3];exact aq) ?_
     refine aB ?_
     simp only[go_sem]
     all_goals first | done | rfl | trace_state
    ·cases hb
   ·obtain⟨q1,q2,q3⟩:=xy gC
    obtain⟨hv,cz⟩:=DL aa k
    rw[if_pos q3,q3]
    repeat refine sq ?_
    refine rx hΓ [2,5,11,12] [[5,0],[26,0,11,0,11,0,30,0],[23,0,11,0,11,0,30,0],[24,0,11,0,11,0,30,0]] (fun K' hK=>by simp only[go_sem,q1,q2];exact aq) ?_
    repeat refine sq ?_
    refine rx hΓ [2,5,11,12,34] [[5,0],[26,0,11,0,11,0,30,0],[23,0,11,0,11,0,30,0],[24,0,11,0,11,0,30,0]] (fun K' hK=>by simp only[go_sem,q1,q2];exact aq) ?_
    repeat refine sq ?_
    refine aC (fun hb=>?_) fun hb=>?_
    ·cases hb
    ·repeat refine sq ?_
     refine aF ?_
     repeat refine sq ?_
     refine rx hΓ [8,9] [] (fun K' hK=>by simp only[go_sem,q1,q2];(repeat (refine⟨by first | exact au | exact⟨hv,cz⟩,?_⟩));exact iz) ?_
     refine aB ?_
     simp only[go_sem]
     all_goals first | done | rfl | trace_state
end
noncomputable section
def mT(x:Vw)(r:Rec)(day f:Int):Bool:=match bb x.bk (r.so,f)with
 |none=>true
 |some i=>decide ((aL x.ds i).1>day)
def mY(x:Vw)(r:Rec)(day f:Int):Bool:=match bb x.bk (r.so,f)with
 |none=>false
 |some i=>decide ((aL x.ds i).2>day)
def two(b:Bool):Int:=if b then 2 else 0
def dJ(x:Vw)(r:Rec)(day:Int):Int:=if r.da>day then 0 else if r.lv.any (mT x r day)=true then 1 else two (r.lv.any (mY x r day))
def jX(l:Led)(s day k:Int):Int:=if cB l [day,k]=0 then(match cO (aj l k).rs s with | none=>3 | some _=>eS l k)else cB l [day,k]
def jY(l:Led)(s day k:Int):Int:=if jX l s day k=0 then(match cO (aj l k).rs s with | none=>0 | some r=>dJ (aN (aj l k) k) r day)else 0
theorem adR{α:Type}{p:α->Bool}{l:List α}{i:Nat}(h:i<l.length):(l.take (i+1)).any p=((l.take i).any p||p l[i]):=by
 rw[List.take_add_one,List.getElem?_eq_getElem h,List.any_append]
 simp
theorem TK{a b:Bool}:two (a||b)=if b then 2 else two a:=by cases a<;>cases b<;>rfl
def K34a:List (Nat×Spec):=[(75,o8),(76,S76),(77,S77),(78,S78)]
theorem ae7:KS K34a:=tc xH.sound<|tc Bg<|tc Fx<|tc Bf<|tn
attribute [go_sem] K34a
@[go_sem] def P16:PSpec:=p4 iL iI iI iI (fun _ _ _ _=>True) (fun l s day k=>.tup [vInt (jY l s day k),vInt (jX l s day k)]) true
@[go_sem] def SV:Spec:=P16.toSpec
set_option maxHeartbeats 8000000 in
theorem Vq:aZ Tryz.prog 16 P16:=by
 refine ra (rs:=[.tmp 8,.tmp 9]) Tryz.func16 Tryz.ntmps16 fun l so day k hp hw=>?_
 have hP:=fE
 simp only[iI,iL,fw]at hw |-
 have hΓ:=ae7
 repeat refine sq ?_
 refine rx hΓ [1,2,3,4] [[4,0]] (fun K' hK=>by simp only[go_sem];exact aq) ?_
 refine bQ (dV 4 (.ref [4,0] 0) (by simp only[go_sem]) (by simp only[go_sem]) [1,2,3,4] [[4,0]] ?_ rfl) ?_
 ·simp only[go_sem]
 simp only[go_sem]
 repeat refine sq ?_
 refine rx hΓ [1,2,3,4,10] [[4,0]] (fun K' hK=>by simp only[go_sem];exact aq) ?_
 repeat refine sq ?_
 refine rx hΓ [1,2,3,4,10,26] [[4,0]] (fun K' hK=>by simp only[go_sem];exact aq) ?_
 repeat refine sq ?_
 refine aC (fun hb=>?_) fun hb=>?_
 ·repeat refine sq ?_
  have hc:¬ cB l [day,k]=0:=by simpa using hb
  have he:jX l so day k=cB l [day,k]:=by unfold jX;rw[if_neg hc]
  have ha:jY l so day k=0:=by unfold jY;rw[he,if_neg hc]
  rw[he,ha]
  repeat refine sq ?_
  refine rx hΓ [8,9] [] (fun K' hK=>by simp only[go_sem];exact aq) ?_
  refine aB ?_
  simp only[go_sem]
  all_goals first | rfl | (have e:dJ (aN (aj l k) k) r day=1:=(by unfold dJ;rw[if_neg lu,if_pos (qO ae (by first | exact ho | (rw[ho];assumption)))]);rw[e];done) | (have e:dJ (aN (aj l k) k) r day=B:=(by unfold dJ;rw[if_neg lu,if_neg (by rw[sB fun j hj=>hR j hj hj];decide),<-hB,List.take_length]);rw[e];done) | trace_state
 ·repeat refine sq ?_
  have hc:cB l [day,k]=0:=by simpa using hb
  obtain⟨aa,_⟩:=pH hc
  refine aF ?_
  rcases dR:cO (aj l k).rs so with _ | r
  ·have he:jX l so day k=3:=by unfold jX;rw[if_pos hc,dR]
   have ha:jY l so day k=0:=by unfold jY;rw[he,if_neg (by decide)]
   rw[he,ha]
   repeat refine sq ?_
   refine rx hΓ [2,3,4,11,12] [[4,0],[11,0]] (fun K' hK=>by simp only[go_sem,dR,bA,Option.isSome_none];exact aq) ?_
   repeat refine sq ?_
   refine rx hΓ [2,3,4,11,36] [[4,0],[11,0]] (fun K' hK=>by simp only[go_sem,dR,bA,Option.isSome_none];exact aq) ?_
   repeat refine sq ?_
   refine aC (fun hb=>?_) fun hb=>?_
   ·repeat refine sq ?_
    refine rx hΓ [8,9] [] (fun K' hK=>by simp only[go_sem,dR,bA,Option.isSome_none];exact aq) ?_
    refine aB ?_
    simp only[go_sem]
    all_goals first | rfl | (have e:dJ (aN (aj l k) k) r day=1:=(by unfold dJ;rw[if_neg lu,if_pos (qO ae (by first | exact ho | (rw[ho];assumption)))]);rw[e];done) | (have e:dJ (aN (aj l k) k) r day=B:=(by unfold dJ;rw[if_neg lu,if_neg (by rw[sB fun j hj=>hR j hj hj];decide),<-hB,List.take_length]);rw[e];done) | trace_state
   ·cases hb
  ·have he:jX l so day k=eS l k:=by unfold jX;rw[if_pos hc,dR]
   have tJ:=(rK aa k).1.rs r (ry dR).1
   have tX:r.lv.length<=maxLen:=by have:=(Eh tJ).2;unfold maxLen;omega
   repeat refine sq ?_
   refine rx hΓ [2,3,4,11,12] [[4,0],[11,0]] (fun K' hK=>by simp only[go_sem,dR,aJ,Option.isSome_some];exact aq) ?_
   repeat refine sq ?_
   refine rx hΓ [2,3,4,11,36] [[4,0],[11,0]] (fun K' hK=>by simp only[go_sem,dR,aJ,Option.isSome_some];exact aq) ?_
   repeat refine sq ?_
   refine aC (fun hb=>?_) fun hb=>?_
   ·cases hb
   ·repeat refine sq ?_
    refine aF ?_
    rcases gC:fk l k with _ | _
    ·obtain⟨q1,q2,q3⟩:=xz gC
     have q4:¬ eS l k=0:=by simpa using q3
     have ha:jY l so day k=0:=by unfold jY;rw[he,if_neg q4]
     rw[he,ha]
     repeat refine sq ?_
     refine rx hΓ [2,11,13,14] [[11,0],[26,0,11,0,11,0,39,0],[23,0,11,0,11,0,39,0],[24,0,11,0,11,0,39,0]] (fun K' hK=>by simp only[go_sem,dR,aJ,Option.isSome_some,q1,q2,q3];exact aq) ?_
     repeat refine sq ?_
     refine rx hΓ [2,11,13,14,43] [[11,0],[26,0,11,0,11,0,39,0],[23,0,11,0,11,0,39,0],[24,0,11,0,11,0,39,0]] (fun K' hK=>by simp only[go_sem,dR,aJ,Option.isSome_some,q1,q2,q3];exact aq) ?_
     repeat refine sq ?_
     refine aC (fun hb=>?_) fun hb=>?_
     ·repeat refine sq ?_
      refine rx hΓ [8,9] [] (fun K' hK=>by simp only[go_sem,dR,aJ,Option.isSome_some,q1,q2,q3];exact aq) ?_
      refine aB ?_
      simp only[go_sem]
      all_goals first | rfl | (have e:dJ (aN (aj l k) k) r day=1:=(by unfold dJ;rw[if_neg lu,if_pos (qO ae (by first | exact ho | (rw[ho];assumption)))]);rw[e];done) | (have e:dJ (aN (aj l k) k) r day=B:=(by unfold dJ;rw[if_neg lu,if_neg (by rw[sB fun j hj=>hR j hj hj];decide),<-hB,List.take_length]);rw[e];done) | trace_state
     ·cases hb
    ·obtain⟨q1,q2,q3⟩:=xy gC
     obtain⟨hv,cz⟩:=DL aa k
     have ha:jY l so day k=dJ (aN (aj l k) k) r day:=by unfold jY;rw[he,if_pos q3,dR]
     rw[he,ha,q3]
     repeat refine sq ?_
     refine rx hΓ [2,11,13,14] [[11,0],[26,0,11,0,11,0,39,0],[23,0,11,0,11,0,39,0],[24,0,11,0,11,0,39,0]] (fun K' hK=>by simp only[go_sem,dR,aJ,Option.isSome_some,q1,q2];exact aq) ?_
     repeat refine sq ?_
     refine rx hΓ [2,11,13,14,43] [[11,0],[26,0,11,0,11,0,39,0],[23,0,11,0,11,0,39,0],[24,0,11,0,11,0,39,0]] (fun K' hK=>by simp only[go_sem,dR,aJ,Option.isSome_some,q1,q2];exact aq) ?_
     repeat refine sq ?_
     refine aC (fun hb=>?_) fun hb=>?_
     ·cases hb
     ·repeat refine sq ?_
      refine aF ?_
      repeat refine sq ?_
      refine rx hΓ [2,11,13,48] [[11,0],[26,0,11,0,11,0,39,0],[23,0,11,0,11,0,39,0],[24,0,11,0,11,0,39,0]] (fun K' hK=>by simp only[go_sem,dR,aJ,Option.isSome_some,q1,q2];exact aq) ?_
      repeat refine sq ?_
      refine aC (fun hb=>?_) fun hb=>?_
      ·repeat refine sq ?_
       have hk:dJ (aN (aj l k) k) r day=0:=by unfold dJ;rw[if_pos (by simpa using hb)]
       rw[hk]
       repeat refine sq ?_
       refine rx hΓ [8,9] [] (fun K' hK=>by simp only[go_sem,dR,aJ,Option.isSome_some,q1,q2];exact aq) ?_
       refine aB ?_
       simp only[go_sem]
       all_goals first | rfl | (have e:dJ (aN (aj l k) k) r day=1:=(by unfold dJ;rw[if_neg lu,if_pos (qO ae (by first | exact ho | (rw[ho];assumption)))]);rw[e];done) | (have e:dJ (aN (aj l k) k) r day=B:=(by unfold dJ;rw[if_neg lu,if_neg (by rw[sB fun j hj=>hR j hj hj];decide),<-hB,List.take_length]);rw[e];done) | trace_state
      ·repeat refine sq ?_
       have lu:¬ r.da>day:=by simpa using hb
       refine aF ?_
       repeat refine sq ?_
       refine rx hΓ [2,11,13,15] [[11,0],[26,0,11,0,11,0,39,0],[23,0,11,0,11,0,39,0],[24,0,11,0,11,0,39,0]] (fun K' hK=>by simp only[go_sem,dR,aJ,Option.isSome_some,q1,q2];exact aq) ?_
       repeat refine sq ?_
       refine rx hΓ [2,11,13,15,50,51,52] [[11,0],[26,0,11,0,11,0,39,0],[23,0,11,0,11,0,39,0],[24,0,11,0,11,0,39,0]] (fun K' hK=>by simp only[go_sem,dR,aJ,Option.isSome_some,q1,q2];exact aq) ?_
       repeat refine sq ?_
       refine aR ?_
       repeat refine sq ?_
       refine cp (fun s:Nat=>[(52,⟨true,.v (vInt s)⟩),(15,⟨true,.v (vInt (two ((r.lv.take s).any (mY (aN (aj l k) k) r day))))⟩)]) (fun s=>[]) (fun s=>s<=r.lv.length/\∀ j (h:j<r.lv.length),j<s->mT (aN (aj l k) k) r day r.lv[j]=false) (fun s=>r.lv.length-s) 0 ?_ ?_ ?_ ?_
       ·exact⟨Nat.zero_le _,by simp⟩
       ·rfl
       ·rfl
       rintro i ⟨hi,hR⟩
       generalize hB:two ((r.lv.take i).any (mY (aN (aj l k) k) r day))=B
       simp only[go_sem]
       repeat refine sq ?_
       refine rx hΓ [2,11,13,15,50,51,52,53] [[11,0],[26,0,11,0,11,0,39,0],[23,0,11,0,11,0,39,0],[24,0,11,0,11,0,39,0]] (fun K' hK=>by simp only[go_sem,dR,aJ,Option.isSome_some,q1,q2];exact aq) ?_
       repeat refine sq ?_
       refine aC (fun hb=>?_) fun hb=>?_
       ·have ae:i<r.lv.length:=by simpa using hb
        have aw:(i:Int)<r.lv.length:=by omega
        clear hb
        repeat refine sq ?_
        refine aF ?_
        repeat refine sq ?_
        refine aR ?_
        repeat refine sq ?_
        refine rx hΓ [2,11,13,15,17,50,51,52] [[11,0],[26,0,11,0,11,0,39,0],[23,0,11,0,11,0,39,0],[24,0,11,0,11,0,39,0]] (fun K' hK=>by simp only[go_sem,dR,aJ,Option.isSome_some,q1,q2,ai ae,ak,an,aw];exact aq) ?_
        rcases aM:bb (aN (aj l k) k).bk (r.so,r.lv[i])with _ | j
        ·have ho:mT (aN (aj l k) k) r day r.lv[i]=true:=by unfold mT;rw[aM]
         repeat refine sq ?_
         refine dx hΓ hP [[],[0],[0,1],[0,1,2],[],[4],[],[4,5,6],u8,u9,ck,ck,eF,gK] [2,11,13,15,18,19,50,51,52] [[11,0],[26,0,11,0,11,0,39,0],[23,0,11,0,11,0,39,0],[24,0,11,0,11,0,39,0]] (by kernel_rfl) (fun K' hK=>by simp only[go_sem,dR,aJ,Option.isSome_some,q1,q2,ai ae,ak,an,aw,aA,aM,Option.map_none,Option.isSome_none,Option.getD_none];exact gX) ?_
         repeat refine sq ?_
         refine aR ?_
         repeat refine sq ?_
         refine rx hΓ [2,11,13,15,18,50,51,52,68] [[11,0],[26,0,11,0,11,0,39,0],[23,0,11,0,11,0,39,0],[24,0,11,0,11,0,39,0]] (fun K' hK=>by simp only[go_sem,dR,aJ,Option.isSome_some,q1,q2,ai ae,ak,an,aw,aA,aM,Option.map_none,Option.isSome_none,Option.getD_none];exact aq) ?_
         repeat refine sq ?_
         refine aC (fun hb=>?_) fun hb=>?_
         ·repeat refine sq ?_
          refine rx hΓ [8,9] [] (fun K' hK=>by simp only[go_sem,dR,aJ,Option.isSome_some,q1,q2,ai ae,ak,an,aw,aA,aM,Option.map_none,Option.isSome_none,Option.getD_none];exact aq) ?_
          refine aB ?_
          simp only[go_sem]
          all_goals first | rfl | (have e:dJ (aN (aj l k) k) r day=1:=(by unfold dJ;rw[if_neg lu,if_pos (qO ae (by first | exact ho | (rw[ho];assumption)))]);rw[e];done) | (have e:dJ (aN (aj l k) k) r day=B:=(by unfold dJ;rw[if_neg lu,if_neg (by rw[sB fun j hj=>hR j hj hj];decide),<-hB,List.take_length]);rw[e];done) | trace_state
         ·cases hb
        ·have ho:mT (aN (aj l k) k) r day r.lv[i]=decide ((aL (aN (aj l k) k).ds j).1>day):=by unfold mT;rw[aM]
         have hm:two ((r.lv.take (i+1)).any (mY (aN (aj l k) k) r day))=if decide ((aL (aN (aj l k) k).ds j).2>day)=true then 2 else B:=by
          rw[adR ae,TK,hB];unfold mY;rw[aM]
         repeat refine sq ?_
         refine dx hΓ hP [[],[0],[0,1],[0,1,2],[],[4],[],[4,5,6],u8,u9,ck,ck,eF,gK] [2,11,13,15,18,19,50,51,52] [[11,0],[26,0,11,0,11,0,39,0],[23,0,11,0,11,0,39,0],[24,0,11,0,11,0,39,0]] (by kernel_rfl) (fun K' hK=>by simp only[go_sem,dR,aJ,Option.isSome_some,q1,q2,ai ae,ak,an,aw,aA,gj,aM,Option.map_some,Option.isSome_some,Option.getD_some];exact gX) ?_
         repeat refine sq ?_
         refine aR ?_
         repeat refine sq ?_
         refine rx hΓ [2,11,13,15,18,50,51,52,68] [[11,0],[26,0,11,0,11,0,39,0],[23,0,11,0,11,0,39,0],[24,0,11,0,11,0,39,0]] (fun K' hK=>by simp only[go_sem,dR,aJ,Option.isSome_some,q1,q2,ai ae,ak,an,aw,aA,gj,aM,Option.map_some,Option.isSome_some,Option.getD_some];exact aq) ?_
         repeat refine sq ?_
         refine aC (fun hb=>?_) fun hb=>?_
         ·repeat refine sq ?_
          refine rx hΓ [8,9] [] (fun K' hK=>by simp only[go_sem,dR,aJ,Option.isSome_some,q1,q2,ai ae,ak,an,aw,aA,gj,aM,Option.map_some,Option.isSome_some,Option.getD_some];exact aq) ?_
          refine aB ?_
          simp only[go_sem]
          all_goals first | rfl | (have e:dJ (aN (aj l k) k) r day=1:=(by unfold dJ;rw[if_neg lu,if_pos (qO ae (by first | exact ho | (rw[ho];assumption)))]);rw[e];done) | (have e:dJ (aN (aj l k) k) r day=B:=(by unfold dJ;rw[if_neg lu,if_neg (by rw[sB fun j hj=>hR j hj hj];decide),<-hB,List.take_length]);rw[e];done) | trace_state
         ·repeat refine sq ?_
          refine rx hΓ [2,11,13,15,50,51,52,82] [[11,0],[26,0,11,0,11,0,39,0],[23,0,11,0,11,0,39,0],[24,0,11,0,11,0,39,0]] (fun K' hK=>by simp only[go_sem,dR,aJ,Option.isSome_some,q1,q2,ai ae,ak,an,aw,aA,gj,aM,Option.map_some,Option.isSome_some,Option.getD_some];exact aq) ?_
          repeat refine sq ?_
          refine aC (fun hb=>?_) fun hb=>?_
          ·repeat refine sq ?_
           rw[if_pos hb]at hm
           repeat refine sq ?_
           refine aW hΓ fun K' hK=>?_
           simp only[go_sem,dR,aJ,Option.isSome_some,q1,q2,ai ae,ak,an,aw,aA,gj,aM,Option.map_some,Option.isSome_some,Option.getD_some]
           repeat (refine⟨au,?_⟩)
           refine hK _ ?_
           clear K' hK
           simp only[go_sem]
           refine kp [2,11,13,15,50,51,52] [[11,0],[26,0,11,0,11,0,39,0],[23,0,11,0,11,0,39,0],[24,0,11,0,11,0,39,0]] ?_
           repeat refine sq ?_
           refine aW hΓ fun K' hK=>?_
           simp only[go_sem,dR,aJ,Option.isSome_some,q1,q2,ai ae,ak,an,aw,aA,gj,aM,Option.map_some,Option.isSome_some,Option.getD_some]
           repeat (refine⟨au,?_⟩)
           refine hK _ ?_
           clear K' hK
           simp only[go_sem]
           refine⟨i+1,⟨ae,?_⟩,by(show r.lv.length-(i+1)<r.lv.length-i;omega),?_⟩
           ·intro q hq tL
            rcases Nat.lt_succ_iff_lt_or_eq.1 tL with h5 | rfl
            ·exact hR q hq h5
            ·rw[ho];assumption
           refine bh [2,11,13,15,50,51,52] [[11,0],[26,0,11,0,11,0,39,0],[23,0,11,0,11,0,39,0],[24,0,11,0,11,0,39,0]] ?_ ?_<;>simp only[go_sem,bc ae tX,be,hm]
          ·repeat refine sq ?_
           rw[if_neg (by rw[hb];decide)]at hm
           refine aF ?_
           refine bW ?_
           simp only[go_sem]
           refine kp [2,11,13,15,50,51,52] [[11,0],[26,0,11,0,11,0,39,0],[23,0,11,0,11,0,39,0],[24,0,11,0,11,0,39,0]] ?_
           repeat refine sq ?_
           refine aW hΓ fun K' hK=>?_
           simp only[go_sem,dR,aJ,Option.isSome_some,q1,q2,ai ae,ak,an,aw,aA,gj,aM,Option.map_some,Option.isSome_some,Option.getD_some]
           repeat (refine⟨au,?_⟩)
           refine hK _ ?_
           clear K' hK
           simp only[go_sem]
           refine⟨i+1,⟨ae,?_⟩,by(show r.lv.length-(i+1)<r.lv.length-i;omega),?_⟩
           ·intro q hq tL
            rcases Nat.lt_succ_iff_lt_or_eq.1 tL with h5 | rfl
            ·exact hR q hq h5
            ·rw[ho];assumption
           refine bh [2,11,13,15,50,51,52] [[11,0],[26,0,11,0,11,0,39,0],[23,0,11,0,11,0,39,0],[24,0,11,0,11,0,39,0]] ?_ ?_<;>simp only[go_sem,bc ae tX,be,hm]
       ·have bE:i=r.lv.length:=by
         have :¬ (i:Int)<r.lv.length:=by simpa using hb
         omega
        clear hb
        subst bE
        repeat refine sq ?_
        refine bN ?_
        simp only[go_sem]
        refine kp [15] [] ?_
        repeat refine sq ?_
        refine rx hΓ [8,9] [] (fun K' hK=>by simp only[go_sem,dR,aJ,Option.isSome_some,q1,q2];exact aq) ?_
        refine aB ?_
        simp only[go_sem]
        all_goals first | rfl | (have e:dJ (aN (aj l k) k) r day=1:=(by unfold dJ;rw[if_neg lu,if_pos (qO ae (by first | exact ho | (rw[ho];assumption)))]);rw[e];done) | (have e:dJ (aN (aj l k) k) r day=B:=(by unfold dJ;rw[if_neg lu,if_neg (by rw[sB fun j hj=>hR j hj hj];decide),<-hB,List.take_length]);rw[e];done) | trace_state
end
noncomputable section
theorem RS(l:Led)(k:Int):∀ i,∀ q j,bb (aE l k i).bk q=some j->j∈(aE l k i).ts
 | 0,q,j,(h:none=some j)=>by cases h
 |i+1,(s,f),j,h=>by
  have ih:=RS l k i
  cases hn:gA k (bq l k) (aE l k i).bk (aG l i)with
  |none=>rw[v5 hn]at h |-;exact ih _ _ h
  |some r=>
   rw[A' hn]at h |-
   simp only[CQ]at h
   split at h
   ·cases h;simp
   ·exact List.mem_append_left _ (ih _ _ h)
theorem TU{l:Led}{k:Int}(h:fk l k=true){q:Int×Int}{j:Int}(hj:bb (aN (aj l k) k).bk q=some j):(aL (aN (aj l k) k).ds j).1<=(aL (aN (aj l k) k).ds j).2:=by
 unfold fk fI at h
 simp only[Bool.and_eq_true]at h
 have hm:j∈(aj l k).ts:=RS l k l.ts.length q j hj
 have :=List.all_eq_true.1 h.2.2 j hm
 exact of_decide_eq_true this
theorem Ts{l:Led}{k:Int}(h:fk l k=true)(pa le day:Int):∃ w0 wr,fC (aN (aj l k) k) pa le day=w0::wr:=by
 unfold fC
 split
 ·exact⟨_,_,rfl⟩
 ·split
  ·exact⟨_,_,rfl⟩
  ·rename_i r _ i hi
   have :=TU h hi
   by_cases h1:(aL (aN (aj l k) k).ds i).1<=day
   ·rw[if_pos h1];exact⟨_,_,rfl⟩
   ·rw[if_neg h1,if_pos (show (aL (aN (aj l k) k).ds i).2>day by omega)];exact⟨_,_,rfl⟩
def fy(p:Int->Bool):Nat->Int
 | 0=>0
 |s+1=>fy p s+(if p ((s+1:Nat):Int)=true then 1 else 0)
theorem CE(p:Int->Bool):∀ s,0<=fy p s/\fy p s<=s
 | 0=>⟨Int.le_refl _,Int.le_refl _⟩
 |s+1=>by
  have :=CE p s
  simp only[fy]
  split<;>omega
theorem Rm{p:Int->Bool}{i:Nat}(h:1<=i):fy p (i+1-1)=fy p (i-1)+(if p i=true then 1 else 0):=by
 obtain⟨j,rfl⟩:∃ j,i=j+1:=⟨i-1,by omega⟩
 rfl
def ib(x:Vw)(pa day f:Int):Bool:=(fC x pa f day).getD 0 0==0
def gh(x:Vw)(pa day f:Int):Bool:=ib x pa day f&&((fC x pa f day).length:Int)==1
theorem L3{l:Led}(h:bw l)(x:Int):0<=bT l.ps x/\bT l.ps x<=30:=by
 unfold bT
 split
 ·rename_i p hp
  have hm:=List.mem_of_find?_eq_some hp
  obtain⟨j,hj,rfl⟩:=List.getElem_of_mem hm
  have :=lN h.ps hj
  unfold pj bL at this
  simp at this
  omega
 ·omega
def jK(l:Led)(pa day k:Int):Int:=if cB l [day,k]=0 then(if bT l.ps pa=0 then 26 else eS l k)else cB l [day,k]
def jL(l:Led)(pa day k:Int):Int:=if jK l pa day k=0 then pN (fy (gh (aN (aj l k) k) pa day) (bT l.ps pa).toNat) (fy (ib (aN (aj l k) k) pa day) (bT l.ps pa).toNat) (bT l.ps pa)else 0
def K35:List (Nat×Spec):=[(75,o8),(79,zO),(78,S78),(80,S80),(81,S81)]
theorem ae6:KS K35:=tc xH.sound<|tc Au.sound<|tc Bf<|tc N5<|tc UP.sound<|tn
attribute [go_sem] K35
@[go_sem] def P17:PSpec:=p4 iL iI iI iI (fun _ _ _ _=>True) (fun l pa day k=>.tup [vInt (jL l pa day k),vInt (jK l pa day k)]) true
@[go_sem] def S17:Spec:=P17.toSpec
set_option maxHeartbeats 8000000 in
theorem Vj:aZ Tryz.prog 17 P17:=by
 refine ra (rs:=[.tmp 8,.tmp 9]) Tryz.func17 Tryz.ntmps17 fun l pa day k hp hw=>?_
 simp only[iI,iL,fw]at hw |-
 have hΓ:=ae6
 repeat refine sq ?_
 refine rx hΓ [1,2,3,4] [[4,0]] (fun K' hK=>by simp only[go_sem];exact aq) ?_
 refine bQ (dV 4 (.ref [4,0] 0) (by simp only[go_sem]) (by simp only[go_sem]) [1,2,3,4] [[4,0]] ?_ rfl) ?_
 ·simp only[go_sem]
 simp only[go_sem]
 repeat refine sq ?_
 refine rx hΓ [1,2,3,4,10] [[4,0]] (fun K' hK=>by simp only[go_sem];exact aq) ?_
 repeat refine sq ?_
 refine rx hΓ [1,2,3,4,10,24] [[4,0]] (fun K' hK=>by simp only[go_sem];exact aq) ?_
 repeat refine sq ?_
 refine aC (fun hb=>?_) fun hb=>?_
 ·repeat refine sq ?_
  have hc:¬ cB l [day,k]=0:=by simpa using hb
  have he:jK l pa day k=cB l [day,k]:=by unfold jK;rw[if_neg hc]
  have ha:jL l pa day k=0:=by unfold jL;rw[he,if_neg hc]
  rw[he,ha]
  repeat refine sq ?_
  refine rx hΓ [8,9] [] (fun K' hK=>by simp only[go_sem];exact aq) ?_
  refine aB ?_
  simp only[go_sem]
  all_goals first | rfl | trace_state
 ·repeat refine sq ?_
  have hc:cB l [day,k]=0:=by simpa using hb
  obtain⟨aa,_⟩:=pH hc
  have rU:=aa.srt
  refine aF ?_
  repeat refine sq ?_
  refine rx hΓ [1,2,3,4,11] [[4,0]] (fun K' hK=>by simp only[go_sem,rU];exact aq) ?_
  repeat refine sq ?_
  refine rx hΓ [1,2,3,4,11,29] [[4,0]] (fun K' hK=>by simp only[go_sem];exact aq) ?_
  repeat refine sq ?_
  refine aC (fun hb=>?_) fun hb=>?_
  ·repeat refine sq ?_
   have he:jK l pa day k=26:=by unfold jK;rw[if_pos hc,if_pos (by simpa using hb)]
   have ha:jL l pa day k=0:=by unfold jL;rw[he,if_neg (by decide)]
   rw[he,ha]
   repeat refine sq ?_
   refine rx hΓ [8,9] [] (fun K' hK=>by simp only[go_sem];exact aq) ?_
   refine aB ?_
   simp only[go_sem]
   all_goals first | rfl | trace_state
  ·repeat refine sq ?_
   have he:jK l pa day k=eS l k:=by unfold jK;rw[if_pos hc,if_neg (by simpa using hb)]
   refine aF ?_
   rcases gC:fk l k with _ | _
   ·obtain⟨q1,q2,q3⟩:=xz gC
    have q4:¬ eS l k=0:=by simpa using q3
    have ha:jL l pa day k=0:=by unfold jL;rw[he,if_neg q4]
    rw[he,ha]
    repeat refine sq ?_
    refine rx hΓ [1,2,11,12,13] [[26,0,11,0,11,0,32,0],[23,0,11,0,11,0,32,0],[24,0,11,0,11,0,32,0]] (fun K' hK=>by simp only[go_sem,q1,q2,q3];exact aq) ?_
    repeat refine sq ?_
    refine rx hΓ [1,2,11,12,13,36] [[26,0,11,0,11,0,32,0],[23,0,11,0,11,0,32,0],[24,0,11,0,11,0,32,0]] (fun K' hK=>by simp only[go_sem,q1,q2,q3];exact aq) ?_
    repeat refine sq ?_
    refine aC (fun hb=>?_) fun hb=>?_
    ·repeat refine sq ?_
     refine rx hΓ [8,9] [] (fun K' hK=>by simp only[go_sem,q1,q2,q3];exact aq) ?_
     refine aB ?_
     simp only[go_sem]
     all_goals first | rfl | trace_state
    ·cases hb
   ·obtain⟨q1,q2,q3⟩:=xy gC
    obtain⟨hv,cz⟩:=DL aa k
    have ha:jL l pa day k=pN (fy (gh (aN (aj l k) k) pa day) (bT l.ps pa).toNat) (fy (ib (aN (aj l k) k) pa day) (bT l.ps pa).toNat) (bT l.ps pa):=by unfold jL;rw[he,if_pos q3]
    rw[he,ha,q3]
    obtain⟨Gs,sa⟩:=L3 aa pa
    obtain⟨nn,wy⟩:∃ nn:Nat,bT l.ps pa=nn:=⟨(bT l.ps pa).toNat,by omega⟩
    rw[wy]at Gs sa |-
    have aD:nn+1<=maxLen:=by unfold maxLen;omega
    rw[ak]
    repeat refine sq ?_
    refine rx hΓ [1,2,11,12,13] [[26,0,11,0,11,0,32,0],[23,0,11,0,11,0,32,0],[24,0,11,0,11,0,32,0]] (fun K' hK=>by simp only[go_sem,q1,q2];exact aq) ?_
    repeat refine sq ?_
    refine rx hΓ [1,2,11,12,13,36] [[26,0,11,0,11,0,32,0],[23,0,11,0,11,0,32,0],[24,0,11,0,11,0,32,0]] (fun K' hK=>by simp only[go_sem,q1,q2];exact aq) ?_
    repeat refine sq ?_
    refine aC (fun hb=>?_) fun hb=>?_
    ·cases hb
    ·repeat refine sq ?_
     refine aF ?_
     repeat refine sq ?_
     refine rx hΓ [1,2,11,12,14,15] [[26,0,11,0,11,0,32,0],[23,0,11,0,11,0,32,0],[24,0,11,0,11,0,32,0]] (fun K' hK=>by simp only[go_sem,q1,q2];exact aq) ?_
     repeat refine sq ?_
     refine rx hΓ [1,2,11,12,14,15,16] [[26,0,11,0,11,0,32,0],[23,0,11,0,11,0,32,0],[24,0,11,0,11,0,32,0]] (fun K' hK=>by simp only[go_sem,q1,q2];exact aq) ?_
     repeat refine sq ?_
     refine aR ?_
     repeat refine sq ?_
     refine cp (fun s:Nat=>[(16,⟨true,.v (vInt s)⟩),(14,⟨true,.v (vInt (fy (gh (aN (aj l k) k) pa day) (s-1)))⟩),(15,⟨true,.v (vInt (fy (ib (aN (aj l k) k) pa day) (s-1)))⟩)]) (fun s=>[]) (fun s=>s<=(nn+1)/\1<=s) (fun s=>(nn+1)-s) 1 ?_ ?_ ?_ ?_
     ·exact⟨by omega,Nat.le_refl 1⟩
     ·rfl
     ·rfl
     rintro i ⟨hi,hR⟩
     obtain⟨hS0,hS1⟩:=CE (gh (aN (aj l k) k) pa day) (i-1)
     obtain⟨hM0,hM1⟩:=CE (ib (aN (aj l k) k) pa day) (i-1)
     have wK:=Rm (p:=gh (aN (aj l k) k) pa day) hR
     have zj:=Rm (p:=ib (aN (aj l k) k) pa day) hR
     simp only[go_sem]
     repeat refine sq ?_
     refine rx hΓ [1,2,11,12,14,15,16,40] [[26,0,11,0,11,0,32,0],[23,0,11,0,11,0,32,0],[24,0,11,0,11,0,32,0]] (fun K' hK=>by simp only[go_sem,q1,q2];exact aq) ?_
     repeat refine sq ?_
     refine aC (fun hb=>?_) fun hb=>?_
     ·repeat refine sq ?_
      have ae:i<nn+1:=by
       have :(i:Int)<=nn:=by simpa using hb
       omega
      obtain⟨w0,wr,yw⟩:=Ts gC pa i day
      have hwS:IntKind.i64.wrap (fy (gh (aN (aj l k) k) pa day) (i-1)+1)=fy (gh (aN (aj l k) k) pa day) (i-1)+1:=wrap_i64 (by omega) (by omega)
      have hwM:IntKind.i64.wrap (fy (ib (aN (aj l k) k) pa day) (i-1)+1)=fy (ib (aN (aj l k) k) pa day) (i-1)+1:=wrap_i64 (by omega) (by omega)
      refine aF ?_
      repeat refine sq ?_
      refine aR ?_
      repeat refine sq ?_
      refine rx hΓ [1,2,11,12,14,15,16,17] [[26,0,11,0,11,0,32,0],[23,0,11,0,11,0,32,0],[24,0,11,0,11,0,32,0]] (fun K' hK=>by simp only[go_sem,q1,q2,yw];(repeat (refine⟨by first | exact au | exact⟨hv,cz⟩,?_⟩));exact iz) ?_
      repeat refine sq ?_
      refine rx hΓ [1,2,11,12,14,15,16,17,52] [[26,0,11,0,11,0,32,0],[23,0,11,0,11,0,32,0],[24,0,11,0,11,0,32,0]] (fun K' hK=>by simp only[go_sem,q1,q2];exact aq) ?_
      repeat refine sq ?_
      refine aC (fun hb=>?_) fun hb=>?_
      ·repeat refine sq ?_
       have fO:ib (aN (aj l k) k) pa day i=true:=by unfold ib;rw[yw];simpa using hb
       rw[if_pos fO]at zj
       repeat refine sq ?_
       refine rx hΓ [1,2,11,12,14,15,16,17] [[26,0,11,0,11,0,32,0],[23,0,11,0,11,0,32,0],[24,0,11,0,11,0,32,0]] (fun K' hK=>by simp only[go_sem,q1,q2,hwM];exact aq) ?_
       repeat refine sq ?_
       refine rx hΓ [1,2,11,12,14,15,16,57] [[26,0,11,0,11,0,32,0],[23,0,11,0,11,0,32,0],[24,0,11,0,11,0,32,0]] (fun K' hK=>by simp only[go_sem,q1,q2];exact aq) ?_
       repeat refine sq ?_
       refine aC (fun hb=>?_) fun hb=>?_
       ·repeat refine sq ?_
        have ln:gh (aN (aj l k) k) pa day i=true:=by unfold gh;rw[fO,yw];simpa using hb
        rw[if_pos ln]at wK
        repeat refine sq ?_
        refine aW hΓ fun K' hK=>?_
        simp only[go_sem,q1,q2,hwS]
        repeat (refine⟨au,?_⟩)
        refine hK _ ?_
        clear K' hK
        simp only[go_sem]
        refine kp [1,2,11,12,14,15,16] [[26,0,11,0,11,0,32,0],[23,0,11,0,11,0,32,0],[24,0,11,0,11,0,32,0]] ?_
        repeat refine sq ?_
        refine aW hΓ fun K' hK=>?_
        simp only[go_sem,q1,q2]
        repeat (refine⟨au,?_⟩)
        refine hK _ ?_
        clear K' hK
        simp only[go_sem]
        refine⟨i+1,⟨ae,?_⟩,by(show (nn+1)-(i+1)<(nn+1)-i;omega),?_⟩
        ·omega
        refine bh [1,2,11,12,14,15,16] [[26,0,11,0,11,0,32,0],[23,0,11,0,11,0,32,0],[24,0,11,0,11,0,32,0]] ?_ ?_<;>simp only[go_sem,bc ae aD,be,zj,wK]
       ·repeat refine sq ?_
        have ln:gh (aN (aj l k) k) pa day i=false:=by unfold gh;rw[fO,yw];simpa using hb
        rw[if_neg (by rw[ln];decide),Int.add_zero]at wK
        refine aF ?_
        refine bW ?_
        simp only[go_sem]
        refine kp [1,2,11,12,14,15,16] [[26,0,11,0,11,0,32,0],[23,0,11,0,11,0,32,0],[24,0,11,0,11,0,32,0]] ?_
        repeat refine sq ?_
        refine aW hΓ fun K' hK=>?_
        simp only[go_sem,q1,q2]
        repeat (refine⟨au,?_⟩)
        refine hK _ ?_
        clear K' hK
        simp only[go_sem]
        refine⟨i+1,⟨ae,?_⟩,by(show (nn+1)-(i+1)<(nn+1)-i;omega),?_⟩
        ·omega
        refine bh [1,2,11,12,14,15,16] [[26,0,11,0,11,0,32,0],[23,0,11,0,11,0,32,0],[24,0,11,0,11,0,32,0]] ?_ ?_<;>simp only[go_sem,bc ae aD,be,zj,wK]
      ·repeat refine sq ?_
       have fO:ib (aN (aj l k) k) pa day i=false:=by unfold ib;rw[yw];simpa using hb
       have ln:gh (aN (aj l k) k) pa day i=false:=by unfold gh;rw[fO];rfl
       rw[if_neg (by rw[fO];decide),Int.add_zero]at zj
       rw[if_neg (by rw[ln];decide),Int.add_zero]at wK
       refine aF ?_
       refine bW ?_
       simp only[go_sem]
       refine kp [1,2,11,12,14,15,16] [[26,0,11,0,11,0,32,0],[23,0,11,0,11,0,32,0],[24,0,11,0,11,0,32,0]] ?_
       repeat refine sq ?_
       refine aW hΓ fun K' hK=>?_
       simp only[go_sem,q1,q2]
       repeat (refine⟨au,?_⟩)
       refine hK _ ?_
       clear K' hK
       simp only[go_sem]
       refine⟨i+1,⟨ae,?_⟩,by(show (nn+1)-(i+1)<(nn+1)-i;omega),?_⟩
       ·omega
       refine bh [1,2,11,12,14,15,16] [[26,0,11,0,11,0,32,0],[23,0,11,0,11,0,32,0],[24,0,11,0,11,0,32,0]] ?_ ?_<;>simp only[go_sem,bc ae aD,be,zj,wK]
     ·repeat refine sq ?_
      have bE:i=nn+1:=by
       have :¬ (i:Int)<=nn:=by simpa using hb
       omega
      subst bE
      refine bN ?_
      simp only[go_sem]
      refine kp [11,14,15] [] ?_
      repeat refine sq ?_
      refine rx hΓ [8,9] [] (fun K' hK=>by simp only[go_sem,q1,q2];exact aq) ?_
      refine aB ?_
      simp only[go_sem]
      all_goals first | rfl | trace_state
end
set_option maxRecDepth 10000
open Go
def p5{α β γ δ ε:Type}(A:En α)(B:En β)(C:En γ)(D:En δ)(E':En ε)(p:α->β->γ->δ->ε->Prop)(g:α->β->γ->δ->ε->V)(fl:Bool):PSpec:=
 ⟨fun xs=>match xs with | [x,y,z,u,v]=>A.enc (A.dec x)=x/\B.enc (B.dec y)=y/\C.enc (C.dec z)=z/\D.enc (D.dec u)=u/\E'.enc (E'.dec v)=v/\p (A.dec x) (B.dec y) (C.dec z) (D.dec u) (E'.dec v) | _=>False,
  fun xs=>match xs with | [x,y,z,u,v]=>g (A.dec x) (B.dec y) (C.dec z) (D.dec u) (E'.dec v) | _=>.bool false,fl⟩
attribute [go_sem] p5
noncomputable section
def ae5:List (Nat×Spec):=[(108,zQ)]
attribute [go_sem] ae5
def ae4:List (Nat×Spec):=[]
attribute [go_sem] ae4
theorem aiS(l:List Fol):∀ y∈l.map qJ,y.cells.length=2/\y.okc=true:=by
 intro y hy;obtain⟨x,_,rfl⟩:=List.mem_map.1 hy;exact⟨rfl,rfl⟩
end
noncomputable section
def K38:List (Nat×Spec):=[(37,IH),(96,uZ),(75,o8),(78,S78)]
attribute [go_sem] K38
def ae3:List (Nat×Spec):=[]
attribute [go_sem] ae3
end
set_option maxHeartbeats 8000000
noncomputable section
def aP(n m:Int):Int:=(n.tmod m+m).tmod m
theorem Jr{n m:Int}(h:0<m): -m<n.tmod m/\n.tmod m<m:=by
 have h1:=Int.tmod_lt_of_pos n h
 have h2:=Int.tmod_lt_of_pos (-n) h
 rw[Int.neg_tmod]at h2
 omega
theorem cY{n m:Int}(h:0<m):0<=aP n m/\aP n m<m:=by
 unfold aP
 have h1:=Jr (n:=n) h
 exact⟨Int.tmod_nonneg _ (by omega),Int.tmod_lt_of_pos _ h⟩
@[go_sem] def P20:PSpec:=p2 iI iI (fun _ m=>0<m/\m<=1000000) (fun n m=>vInt (aP n m)) true
@[go_sem] def Dl:Spec:=P20.toSpec
theorem DY:aZ Tryz.prog 20 P20:=by
 refine dG (rs:=[.tmp 4]) Tryz.func20 Tryz.ntmps20 fun n m hp hw=>?_
 simp only[iI]at hw |-
 have hΓ:=@fD Tryz.prog
 have qw:m≠0:=by omega
 have hr:=Jr (n:=n) hp.1
 have yt:IntKind.i64.wrap (n.tmod m+m)=n.tmod m+m:=wrap_i64 (by omega) (by omega)
 repeat refine sq ?_
 refine rx hΓ [0,1] [] (fun K' hK=>by simp only[go_sem];exact aq) ?_
 repeat refine sq ?_
 refine rx hΓ [4] [] (fun K' hK=>by simp only[go_sem,qw,yt];exact aq) ?_
 refine aB ?_
 simp only[go_sem]
 rfl
def Ij(n i:Int):Bool:=IntKind.i64.wrap ((BitVec.ofInt 64 n&&& BitVec.ofInt 64 (IntKind.i64.wrap (1*2 ^ min i.toNat 64))).toNat:Int) != 0
def gf(n:Int):Nat->List Int
 | 0=>[]
 |m+1=>if Ij n ((m+1:Nat):Int)=true then gf n m++[((m+1:Nat):Int)]else gf n m
theorem RM(n:Int):∀ m,(gf n m).length<=m
 | 0=>Nat.le_refl _
 |m+1=>by
  have :=RM n m
  rw[gf]
  split
  ·rw[List.length_append];simp;omega
  ·omega
def jG(n many:Int):List Int:=if gf n many.toNat=[]then[1]else gf n many.toNat
@[go_sem] def P83:PSpec:=p2 iI iI (fun _ m=>0<=m/\m<=30) (fun n m=>.sl ((jG n m).map vInt)) false
@[go_sem] def S83:Spec:=P83.toSpec
theorem UO:aZ Tryz.prog 83 P83:=by
 refine dG (rs:=[.tmp 4]) Tryz.func83 Tryz.ntmps83 fun n m hp hw=>?_
 simp only[iI]at hw |-
 have hΓ:=@fD Tryz.prog
 obtain⟨nn,rfl⟩:∃ nn:Nat,m=nn:=⟨m.toNat,by omega⟩
 have aD:nn+1<=maxLen:=by unfold maxLen;omega
 repeat refine sq ?_
 refine rx hΓ [0,1] [] (fun K' hK=>by simp only[go_sem];exact aq) ?_
 repeat refine sq ?_
 refine rx hΓ [0,1,5] [[20,0]] (fun K' hK=>by simp only[go_sem];exact aq) ?_
 refine bQ (vl 5 [20,0] 1 (by simp only[go_sem]) (by simp only[go_sem]) [0,1,5] [[20,0]] ?_ rfl) ?_
 ·simp only[go_sem]
 simp only[go_sem]
 repeat refine sq ?_
 refine rx hΓ [0,1,5,6] [[20,0]] (fun K' hK=>by simp only[go_sem];exact aq) ?_
 repeat refine sq ?_
 refine aR ?_
 repeat refine sq ?_
 refine cp (fun s:Nat=>[(6,⟨true,.v (vInt s)⟩),(5,⟨true,.msl [20,0] (gf n (s-1)).length⟩)]) (fun s=>[([20,0],.arr 1 ((gf n (s-1)).map vInt))]) (fun s=>s<=(nn+1)/\1<=s) (fun s=>(nn+1)-s) 1 ?_ ?_ ?_ ?_
 ·exact⟨by omega,Nat.le_refl 1⟩
 ·rfl
 ·rfl
 rintro i ⟨hi,hR⟩
 have hTl:=RM n (i-1)
 simp only[go_sem]
 repeat refine sq ?_
 refine rx hΓ [0,1,5,6,9] [[20,0]] (fun K' hK=>by simp only[go_sem];exact aq) ?_
 repeat refine sq ?_
 refine aC (fun hb=>?_) fun hb=>?_
 ·repeat refine sq ?_
  have ae:i<nn+1:=by
   have :(i:Int)<=nn:=by simpa using hb
   omega
  refine aF ?_
  repeat refine sq ?_
  refine aR ?_
  repeat refine sq ?_
  refine rx hΓ [0,1,5,6,16] [[20,0]] (fun K' hK=>by simp only[go_sem];exact aq) ?_
  repeat refine sq ?_
  refine aC (fun hb=>?_) fun hb=>?_
  ·repeat refine sq ?_
   have eS:gf n (i+1-1)=gf n (i-1)++[(i:Int)]:=by
    obtain⟨m,rfl⟩:∃ m,i=m+1:=⟨i-1,by omega⟩
    rw[Nat.add_sub_cancel,Nat.add_sub_cancel,gf,if_pos (show Ij n ((m+1:Nat):Int)=true from hb)]
   repeat refine sq ?_
   refine aW hΓ fun K' hK=>?_
   simp only[go_sem]
   repeat (refine⟨au,?_⟩)
   refine hK _ ?_
   clear K' hK
   simp only[go_sem]
   refine kp [0,1,5,6] [[20,0]] ?_
   repeat refine sq ?_
   refine aW hΓ fun K' hK=>?_
   simp only[go_sem]
   repeat (refine⟨au,?_⟩)
   refine hK _ ?_
   clear K' hK
   simp only[go_sem]
   refine⟨i+1,⟨ae,?_⟩,by(show (nn+1)-(i+1)<(nn+1)-i;omega),?_⟩
   ·omega
   refine bh [0,1,5,6] [[20,0]] ?_ ?_<;>simp only[go_sem,bc ae aD,be,eS,List.map_append,List.length_append,List.map_cons,List.map_nil,List.length_cons,List.length_nil]
  ·repeat refine sq ?_
   have eS:gf n (i+1-1)=gf n (i-1):=by
    obtain⟨m,rfl⟩:∃ m,i=m+1:=⟨i-1,by omega⟩
    rw[Nat.add_sub_cancel,Nat.add_sub_cancel,gf,if_neg (fun h=>by rw[show Ij n ((m+1:Nat):Int)=false from hb]at h;cases h)]
   refine aF ?_
   refine bW ?_
   simp only[go_sem]
   refine kp [0,1,5,6] [[20,0]] ?_
   repeat refine sq ?_
   refine aW hΓ fun K' hK=>?_
   simp only[go_sem]
   repeat (refine⟨au,?_⟩)
   refine hK _ ?_
   clear K' hK
   simp only[go_sem]
   refine⟨i+1,⟨ae,?_⟩,by(show (nn+1)-(i+1)<(nn+1)-i;omega),?_⟩
   ·omega
   refine bh [0,1,5,6] [[20,0]] ?_ ?_<;>simp only[go_sem,bc ae aD,be,eS,List.map_append,List.length_append,List.map_cons,List.map_nil,List.length_cons,List.length_nil]
 ·repeat refine sq ?_
  have bE:i=nn+1:=by
   have :¬ (i:Int)<=nn:=by simpa using hb
   omega
  subst bE
  rw[Nat.add_sub_cancel]at hTl
  refine bN ?_
  simp only[go_sem]
  refine kp [5] [[20,0]] ?_
  repeat refine sq ?_
  refine rx hΓ [5,23] [[20,0]] (fun K' hK=>by simp only[go_sem];exact aq) ?_
  repeat refine sq ?_
  refine aC (fun hb=>?_) fun hb=>?_
  ·repeat refine sq ?_
   have hz:gf n nn=[]:=by
    apply List.eq_nil_of_length_eq_zero
    have :((gf n nn).length:Int)=0:=by simpa using hb
    omega
   have e:jG n nn=[1]:=by unfold jG;rw[ak,if_pos hz]
   repeat refine sq ?_
   refine rx hΓ [5] [[20,0]] (fun K' hK=>by simp only[go_sem];exact aq) ?_
   repeat refine sq ?_
   refine rx hΓ [4] [[20,0]] (fun K' hK=>by simp only[go_sem];exact aq) ?_
   refine aB ?_
   simp only[go_sem]
   first | (rw[e];done) | (rw[e];rfl) | trace_state
  ·repeat refine sq ?_
   have hz:¬ gf n nn=[]:=by
    intro h
    have h2:(((gf n nn).length:Int)==0)=false:=hb
    rw[h]at h2
    cases h2
   have e:jG n nn=gf n nn:=by unfold jG;rw[ak,if_neg hz]
   refine aF ?_
   repeat refine sq ?_
   refine rx hΓ [4] [[20,0]] (fun K' hK=>by simp only[go_sem];exact aq) ?_
   refine aB ?_
   simp only[go_sem]
   first | (rw[e];done) | (rw[e];rfl) | trace_state
end
set_option maxHeartbeats 8000000
noncomputable section
def cw(l:Led)(so k:Int):Int:=dK (fun r=>r.so==so&&bF r.kn r.un k) l.rs
def jr(so k:Int)(r:Rec):Bool:=r.so==so&&bF r.kn r.un k
theorem VK{l:Led}{so k:Int}{i:Nat}(h:i<l.rs.length)(hp:jr so k l.rs[i]=true)(hn:∀ j (hj:j<l.rs.length),j<i->jr so k l.rs[j]=false):cw l so k=i:=oA h hp hn
theorem VJ{l:Led}{so k:Int}(hn:∀ j (hj:j<l.rs.length),j<l.rs.length->jr so k l.rs[j]=false):cw l so k= -1:=by
 unfold cw dK
 rw[if_neg]
 intro h
 obtain⟨x,hx,hp⟩:=List.any_eq_true.1 h
 obtain⟨j,hj,rfl⟩:=List.getElem_of_mem hx
 have :=hn j hj hj
 unfold jr at this
 rw[this]at hp
 exact absurd hp (by decide)
def K39:List (Nat×Spec):=[(157,Dm)]
theorem ae2:KS K39:=tc DZ.sound<|tn
attribute [go_sem] K39
@[go_sem] def P70:PSpec:=p3 iL iI iI (fun l _ _=>l.rs.length<=60) (fun l so k=>vInt (cw l so k)) true
@[go_sem] def zP:Spec:=P70.toSpec
theorem J4:aZ Tryz.prog 70 P70:=by
 refine lR (rs:=[.tmp 6]) Tryz.func70 Tryz.ntmps70 fun l so k hp hw=>?_
 simp only[iI,iL,fw]at hw |-
 have hΓ:=ae2
 have hl:l.rs.length<=maxLen:=by unfold maxLen;omega
 repeat refine sq ?_
 refine rx hΓ [1,2,3] [[3,0]] (fun K' hK=>by simp only[go_sem];exact aq) ?_
 repeat refine sq ?_
 refine rx hΓ [1,2,3,7] [[3,0]] (fun K' hK=>by simp only[go_sem];exact aq) ?_
 repeat refine sq ?_
 refine aR ?_
 repeat refine sq ?_
 refine cp (fun s:Nat=>[(7,⟨true,.v (vInt s)⟩)]) (fun s=>[]) (fun s=>s<=l.rs.length/\∀ j (hj:j<l.rs.length),j<s->jr so k l.rs[j]=false) (fun s=>l.rs.length-s) 0 ?_ ?_ ?_ ?_
 ·exact⟨Nat.zero_le _,by simp⟩
 ·rfl
 ·rfl
 rintro i ⟨hi,hR⟩
 simp only[go_sem]
 repeat refine sq ?_
 refine rx hΓ [1,2,3,7,13] [[3,0]] (fun K' hK=>by simp only[go_sem];exact aq) ?_
 repeat refine sq ?_
 refine aC (fun hb=>?_) fun hb=>?_
 ·have ae:i<l.rs.length:=by simpa using hb
  have aw:(i:Int)<l.rs.length:=by omega
  clear hb
  repeat refine sq ?_
  refine aF ?_
  repeat refine sq ?_
  refine aR ?_
  repeat refine sq ?_
  refine rx hΓ [1,2,3,7,8] [[3,0],[8,0]] (fun K' hK=>by simp only[go_sem,ai ae,ak,an,aw];exact aq) ?_
  repeat refine sq ?_
  refine rx hΓ [1,2,3,7,32] [[3,0]] (fun K' hK=>by simp only[go_sem,ai ae,ak,an,aw];exact aq) ?_
  repeat refine sq ?_
  refine aC (fun hb=>?_) fun hb=>?_
  ·repeat refine sq ?_
   have e:cw l so k=i:=VK ae (by unfold jr;simpa using hb) (fun j hj ff=>hR j hj ff)
   repeat refine sq ?_
   refine rx hΓ [6] [] (fun K' hK=>by simp only[go_sem,ai ae,ak,an,aw];exact aq) ?_
   refine aB ?_
   simp only[go_sem]
   rw[e]
  ·repeat refine sq ?_
   refine aF ?_
   refine bW ?_
   simp only[go_sem]
   refine kp [1,2,3,7] [[3,0]] ?_
   repeat refine sq ?_
   refine aW hΓ fun K' hK=>?_
   simp only[go_sem,ai ae,ak,an,aw]
   repeat (refine⟨au,?_⟩)
   refine hK _ ?_
   clear K' hK
   simp only[go_sem]
   refine⟨i+1,⟨ae,?_⟩,by(show l.rs.length-(i+1)<l.rs.length-i;omega),?_⟩
   ·intro j hj ff
    rcases Nat.lt_succ_iff_lt_or_eq.1 ff with h5 | rfl
    ·exact hR j hj h5
    ·unfold jr;simpa using hb
   refine bh [1,2,3,7] [[3,0]] ?_ ?_<;>simp only[go_sem,bc ae hl,be]
 ·have bE:i=l.rs.length:=by
   have :¬ (i:Int)<l.rs.length:=by simpa using hb
   omega
  clear hb
  subst bE
  repeat refine sq ?_
  refine bN ?_
  simp only[go_sem]
  refine kp [] [] ?_
  repeat refine sq ?_
  refine rx hΓ [6] [] (fun K' hK=>by simp only[go_sem];exact aq) ?_
  refine aB ?_
  simp only[go_sem]
  rw[VJ hR]
def ny(t:Ret)(r:Rec):Int:=bO t.lo (r.da+1)
def KC(r:Rec):Prop:=0<=r.da/\r.da<=100000
@[go_sem] def P158:PSpec:=p2 iT iR (fun _ r=>KC r) (fun t r=>vInt (ny t r)) true
@[go_sem] def IM:Spec:=P158.toSpec
theorem Vs:aZ Tryz.prog 158 P158:=by
 refine dG (rs:=[.tmp 4]) Tryz.func158 Tryz.ntmps158 fun t r hp hw=>?_
 simp only[iR,iT,encR,encT]at hw |-
 have hΓ:=@fD Tryz.prog
 have iM:=zX hp
 repeat refine sq ?_
 refine rx hΓ [2,3] [[2,0],[3,0]] (fun K' hK=>by simp only[go_sem];exact aq) ?_
 repeat refine sq ?_
 refine rx hΓ [4] [] (fun K' hK=>by simp only[go_sem,iM];exact aq) ?_
 refine aB ?_
 simp only[go_sem]
 all_goals exact el
def Iw(l:Led)(ds:List Int):Int:=if p8 l=false then 24 else if ds.all dayB then 0 else 6
def ae1:List (Nat×Spec):=[]
attribute [go_sem] ae1
end
noncomputable section
theorem AW{l:Led}(h:bw l){r:Rec}(hr:r∈l.rs):KC r:=by
 obtain⟨j,hj,rfl⟩:=List.getElem_of_mem hr
 have :=lN h.rs hj
 unfold dP at this
 simp only[Bool.and_eq_true]at this
 have hd:=this.1.2
 unfold dayB bL at hd
 simp at hd
 exact hd
theorem WU{l:Led}(h:bw l){i:Nat}(hi:i<l.ts.length):l.ts[i].lv.length<=30:=by
 have :=lN h.ts hi
 unfold jQ at this
 simp only[Bool.and_eq_true]at this
 exact(pt.1 this.1.1.1.2).2.1
def av(l:Led)(i:Nat):Rec:=l.rs.getD i zeroR
theorem vF(l:Led)(so k:Int):cw l so k= -1\/∃ j,∃ h:j<l.rs.length,cw l so k=(j:Int)/\jr so k l.rs[j]=true:=by
 unfold cw dK
 by_cases h:(l.rs.any fun r=>r.so==so&&bF r.kn r.un k)=true
 ·rw[if_pos h]
  have ae:l.rs.findIdx (fun r=>r.so==so&&bF r.kn r.un k)<l.rs.length:=List.findIdx_lt_length_of_exists (by obtain⟨x,hx,hp⟩:=List.any_eq_true.1 h;exact⟨x,hx,hp⟩)
  exact .inr ⟨_,ae,rfl,List.findIdx_getElem (w:=ae)⟩
 ·rw[if_neg h];exact .inl rfl
def n8(l:Led)(row:List Bool)(x:Ret)(f:Int)(j:Nat):Bool:=!(row.getD j false&&(aG l j).re==x.re&&(aG l j).lv.contains f)
def kh(p:Nat->Bool)(j:Nat):Bool:=(List.range j).all p
def pr(l:Led)(row:List Bool)(i:Nat)(r:Rec)(x:Ret)(f:Int):Bool:=r.lv.contains f&&kh (n8 l row x f) i
def gL(l:Led)(k:Int)(row:List Bool)(i:Nat):Bool:=
 if cw l (aG l i).re k<0 then false else
   (bF (aG l i).kn (aG l i).un k&&!decide (ny (aG l i) (av l (cw l (aG l i).re k).toNat)>(aG l i).hi))&&
     (aG l i).lv.all (pr l row i (av l (cw l (aG l i).re k).toNat) (aG l i))
def br(l:Led)(k:Int):Nat->List Bool
 | 0=>List.replicate l.ts.length false
 |s+1=>if gL l k (br l k s) s=true then(br l k s).set s true else br l k s
theorem lS(l:Led)(k:Int)(s:Nat):(br l k s).length=l.ts.length:=by
 induction s with
 |zero=>simp[br]
 |succ s ih=>unfold br;split<;>simp[ih]
theorem Aj(l:Led)(k:Int){s j:Nat}(h:s<=j):(br l k s).getD j false=false:=by
 induction s with
 |zero=>
  simp only[br,List.getD_eq_getElem?_getD,List.getElem?_replicate]
  split<;>rfl
 |succ s ih=>
  unfold br
  split
  ·rw[List.getD_eq_getElem?_getD,List.getElem?_set_ne (by omega),<-List.getD_eq_getElem?_getD];exact ih (by omega)
  ·exact ih (by omega)
theorem Jx(l:Led)(k:Int){s:Nat}(h:s<l.ts.length):(br l k s).set s (gL l k (br l k s) s)=br l k (s+1):=by
 rw[br]
 split
 ·rename_i e;rw[e]
 ·rename_i e
  have e2:gL l k (br l k s) s=false:=by simpa using e
  have e3:=Aj l k (Nat.le_refl s)
  rw[List.getD_eq_getElem?_getD,List.getElem?_eq_getElem (by rw[lS];exact h)]at e3
  have e4:(br l k s)[s]'(by rw[lS];exact h)=false:=e3
  rw[e2,<-e4]
  exact List.set_getElem_self _
theorem Ai(l:Led)(k:Int){s:Nat}(e:gL l k (br l k s) s=false):br l k (s+1)=br l k s:=by
 rw[br,if_neg (by rw[e];decide)]
theorem V7(l:Led)(k:Int):List.replicate l.ts.length (V.bool false)=(br l k 0).map V.bool:=by rw[br,List.map_replicate]
theorem cT{l:Led}{i:Nat}(h:i<l.rs.length):av l i=l.rs[i]:=by unfold av;rw[List.getD_eq_getElem?_getD,List.getElem?_eq_getElem h];rfl
theorem yb{L:List Bool}{j:Nat}{d:V}(h:j<L.length):(L.map V.bool).getD j d=.bool (L.getD j false):=by
 simp[List.getD_eq_getElem?_getD,h]
theorem adX(p:Nat->Bool)(j:Nat):kh p (j+1)=(kh p j&&p j):=by
 unfold kh
 rw[List.range_succ,List.all_append];simp
theorem vT:decide ((-1:Int)<0)=true:=rfl
theorem Uc(row:List Bool)(i:Nat)(b:Bool):(row.map V.bool).set i (.bool b)=(row.set i b).map V.bool:=List.map_set.symm
def K40:List (Nat×Spec):=[(70,zP),(157,Dm),(158,IM),(15,qW)]
theorem aeZ:KS K40:=tc J4.sound<|tc DZ.sound<|tc Vs.sound<|tc Av.sound<|tn
attribute [go_sem] K40
@[go_sem] def P71:PSpec:=p2 iL iI (fun l _=>bw l) (fun l k=>.sl ((br l k l.ts.length).map .bool)) false
@[go_sem] def Dk:Spec:=P71.toSpec
set_option maxHeartbeats 8000000 in
theorem DX:aZ Tryz.prog 71 P71:=by
 refine dG (rs:=[.tmp 4]) Tryz.func71 Tryz.ntmps71 fun l k hp hw=>?_
 have hP:=fE
 simp only[iI,iL,fw]at hw |-
 have hΓ:=aeZ
 have oF:=hp.rsn
 have yy:=hp.tsn
 have jw:l.ts.length<=maxLen:=by unfold maxLen;omega
 repeat refine sq ?_
 refine rx hΓ [1,2] [[2,0]] (fun K' hK=>by simp only[go_sem];exact aq) ?_
 repeat refine sq ?_
 refine rx hΓ [1,2,5] [[2,0],[15,0]] (fun K' hK=>by simp only[go_sem,ak,V7 l k];exact aq) ?_
 repeat refine sq ?_
 refine rx hΓ [1,2,5,6] [[2,0],[15,0]] (fun K' hK=>by simp only[go_sem];exact aq) ?_
 repeat refine sq ?_
 refine aR ?_
 repeat refine sq ?_
 refine cp (fun s:Nat=>[(6,⟨true,.v (vInt s)⟩)]) (fun s=>[([15,0],.arr 1 ((br l k s).map .bool))]) (fun s=>s<=l.ts.length) (fun s=>l.ts.length-s) 0 ?_ ?_ ?_ ?_
 ·exact Nat.zero_le _
 ·rfl
 ·rfl
 rintro i hi
 simp only[go_sem]
 repeat refine sq ?_
 refine rx hΓ [1,2,5,6,20] [[2,0],[15,0]] (fun K' hK=>by simp only[go_sem];exact aq) ?_
 repeat refine sq ?_
 refine aC (fun hb=>?_) fun hb=>?_
 ·have ae:i<l.ts.length:=by simpa using hb
  have aw:(i:Int)<l.ts.length:=by omega
  clear hb
  have m8:=lS l k i
  generalize FW:br l k i=row at m8
  repeat refine sq ?_
  refine aF ?_
  repeat refine sq ?_
  refine aR ?_
  repeat refine sq ?_
  refine rx hΓ [1,2,5,6,7] [[2,0],[7,0],[15,0]] (fun K' hK=>by simp only[go_sem,ai ae,ak,an,aw];exact aq) ?_
  repeat refine sq ?_
  refine rx hΓ [1,2,5,6,7,8] [[2,0],[7,0],[15,0]] (fun K' hK=>by simp only[go_sem,ai ae,ak,an,aw,oF];exact aq) ?_
  rcases vF l l.ts[i].re k with im | ⟨j0,cK,im,hrp⟩
  ·repeat refine sq ?_
   refine dx hΓ hP [[],[0],[0,1],[0,1,2],u4,[0,1,2],[0,1,2,5],[0,1,2],u8,u9,ck,eF,eO,eO,[0,1,2,3,4,5,6,7,8,9,10,11,13],eO,[0,1,2,3,4,5,6,7,8,9,10,11,13,14,15],[0,1,2,3,4,5,6,7,8,9,10,11,13,14,15,16],jj,eO,[0,1,2,3,4,5,6,7,8,9,10,11,19],[0,1,2,3,4,5,6,7,8,9,10,11,19,20],Aa,vr] [1,2,5,6,7,8,56] [[2,0],[7,0],[15,0]] (by kernel_rfl) (fun K' hK=>by simp only[go_sem,ai ae,ak,an,aw,im,List.length_map];(repeat (refine⟨by first | exact au | exact fun h=>⟨h,AW hp (List.getElem_mem cK)⟩ | (cases bF l.ts[i].kn l.ts[i].un k<;>rfl),?_⟩));exact fJ) ?_
   repeat refine sq ?_
   refine aC (fun hb=>?_) fun hb=>?_
   ·repeat refine sq ?_
    have e0:br l k (i+1)=row:=by
     rw[Ai l k (by unfold gL;rw[mL ae,im];rfl),FW]
    refine bN ?_
    simp only[go_sem]
    refine kp [1,2,5,6] [[2,0],[15,0]] ?_
    repeat refine sq ?_
    refine aW hΓ fun K' hK=>?_
    simp only[go_sem,ai ae,ak,an,aw,im]
    repeat (refine⟨au,?_⟩)
    refine hK _ ?_
    clear K' hK
    simp only[go_sem]
    refine⟨i+1,ae,by(show l.ts.length-(i+1)<l.ts.length-i;omega),?_⟩
    refine bh [1,2,5,6] [[2,0],[15,0]] ?_ ?_<;>simp only[go_sem,bc ae jw,be,e0]
   ·cases hb
  ·have eV:decide ((j0:Int)<0)=false:=by simp
   have Gz:(j0:Int)<l.rs.length:=by omega
   repeat refine sq ?_
   refine dx hΓ hP [[],[0],[0,1],[0,1,2],u4,[0,1,2],[0,1,2,5],[0,1,2],u8,u9,ck,eF,eO,eO,[0,1,2,3,4,5,6,7,8,9,10,11,13],eO,[0,1,2,3,4,5,6,7,8,9,10,11,13,14,15],[0,1,2,3,4,5,6,7,8,9,10,11,13,14,15,16],jj,eO,[0,1,2,3,4,5,6,7,8,9,10,11,19],[0,1,2,3,4,5,6,7,8,9,10,11,19,20],Aa,vr] [1,2,5,6,7,8,56] [[2,0],[7,0],[15,0]] (by kernel_rfl) (fun K' hK=>by simp only[go_sem,ai ae,ak,an,aw,im,ai cK,eV,List.length_map];(repeat (refine⟨by first | exact au | exact fun h=>⟨h,AW hp (List.getElem_mem cK)⟩ | (cases bF l.ts[i].kn l.ts[i].un k<;>rfl),?_⟩));exact fJ) ?_
   repeat refine sq ?_
   refine aC (fun hb=>?_) fun hb=>?_
   ·repeat refine sq ?_
    have e0:br l k (i+1)=row:=by
     rw[Ai l k (by unfold gL;rw[mL ae,im,if_neg (by omega),ak,cT cK];simp only[Bool.and_eq_false_iff];exact .inl (by simpa[Bool.and_eq_false_iff]using hb)),FW]
    refine bN ?_
    simp only[go_sem]
    refine kp [1,2,5,6] [[2,0],[15,0]] ?_
    repeat refine sq ?_
    refine aW hΓ fun K' hK=>?_
    simp only[go_sem,ai ae,ak,an,aw,im,ai cK,eV]
    repeat (refine⟨au,?_⟩)
    refine hK _ ?_
    clear K' hK
    simp only[go_sem]
    refine⟨i+1,ae,by(show l.ts.length-(i+1)<l.ts.length-i;omega),?_⟩
    refine bh [1,2,5,6] [[2,0],[15,0]] ?_ ?_<;>simp only[go_sem,bc ae jw,be,e0]
   ·repeat refine sq ?_
    have PO:bF l.ts[i].kn l.ts[i].un k=true:=by cases hcb:bF l.ts[i].kn l.ts[i].un k with | true=>rfl | false=>rw[hcb]at hb;simp at hb
    have hea:¬ ny l.ts[i] l.rs[j0]>l.ts[i].hi:=by rw[PO]at hb;simpa using hb
    have hte:gL l k row i=l.ts[i].lv.all (pr l row i l.rs[j0] l.ts[i]):=by
     unfold gL
     rw[mL ae,im,if_neg (by omega),ak,cT cK,PO,decide_eq_false hea]
     rfl
    have rT:=WU hp ae
    have hvm:l.ts[i].lv.length<=maxLen:=by unfold maxLen;omega
    clear hb
    refine aF ?_
    repeat refine sq ?_
    refine rx hΓ [1,2,5,6,7,8,9] [[2,0],[7,0],[15,0]] (fun K' hK=>by simp only[go_sem,ai ae,ak,an,aw,im,ai cK,eV];exact aq) ?_
    repeat refine sq ?_
    refine rx hΓ [1,2,5,6,7,8,9,10] [[2,0],[7,0],[15,0]] (fun K' hK=>by simp only[go_sem,ai ae,ak,an,aw,im,ai cK,eV];exact aq) ?_
    repeat refine sq ?_
    refine aR ?_
    repeat refine sq ?_
    refine cp (fun s:Nat=>[(10,⟨true,.v (vInt s)⟩),(9,⟨true,.v (.bool ((l.ts[i].lv.take s).all (pr l row i l.rs[j0] l.ts[i])))⟩)]) (fun s=>[]) (fun s=>s<=l.ts[i].lv.length) (fun s=>l.ts[i].lv.length-s) 0 ?_ ?_ ?_ ?_
    ·exact Nat.zero_le _
    ·rfl
    ·rfl
    rintro i1 hi
    generalize hB:(l.ts[i].lv.take i1).all (pr l row i l.rs[j0] l.ts[i])=B
    simp only[go_sem]
    repeat refine sq ?_
    refine rx hΓ [1,2,5,6,7,8,9,10,61] [[2,0],[7,0],[15,0]] (fun K' hK=>by simp only[go_sem,ai ae,ak,an,aw,im,ai cK,eV];exact aq) ?_
    repeat refine sq ?_
    refine aC (fun hb=>?_) fun hb=>?_
    ·have aS:i1<l.ts[i].lv.length:=by simpa using hb
     have bC:(i1:Int)<l.ts[i].lv.length:=by omega
     clear hb
     have hA:(l.ts[i].lv.take (i1+1)).all (pr l row i l.rs[j0] l.ts[i])=(kh (n8 l row l.ts[i] l.ts[i].lv[i1]) i&&(B&&l.rs[j0].lv.contains l.ts[i].lv[i1])):=by rw[<-hB,zL aS,pr,<-Bool.and_assoc,Bool.and_comm]
     repeat refine sq ?_
     refine aF ?_
     repeat refine sq ?_
     refine aR ?_
     repeat refine sq ?_
     refine dx hΓ hP [[],[0],[0,1],[0,1,2],[0,1],u5,u6,u7,[0,1],[0,1,8],[0,1],[0,1,8,9,10],[0,1,8,9,10,11],gK,jk,vt] [1,2,5,6,7,8,9,10] [[2,0],[7,0],[15,0]] (by kernel_rfl) (fun K' hK=>by simp only[go_sem,ai ae,ak,an,aw,im,ai cK,eV,ai aS,ak,an,bC,ai cK,Gz];exact gX) ?_
     repeat refine sq ?_
     refine rx hΓ [1,2,5,6,7,8,9,10,11] [[2,0],[7,0],[15,0]] (fun K' hK=>by simp only[go_sem,ai ae,ak,an,aw,im,ai cK,eV,ai aS,ak,an,bC];exact aq) ?_
     repeat refine sq ?_
     refine aR ?_
     repeat refine sq ?_
     refine cp (fun s:Nat=>[(11,⟨true,.v (vInt s)⟩),(9,⟨true,.v (.bool (kh (n8 l row l.ts[i] l.ts[i].lv[i1]) s&&(B&&l.rs[j0].lv.contains l.ts[i].lv[i1])))⟩)]) (fun s=>[]) (fun s=>s<=i) (fun s=>i-s) 0 ?_ ?_ ?_ ?_
     ·exact Nat.zero_le _
     ·rfl
     ·rfl
     rintro j hi
     generalize hC:(kh (n8 l row l.ts[i] l.ts[i].lv[i1]) j&&(B&&l.rs[j0].lv.contains l.ts[i].lv[i1]))=C
     simp only[go_sem]
     repeat refine sq ?_
     refine rx hΓ [1,2,5,6,7,8,9,10,11,81] [[2,0],[7,0],[15,0]] (fun K' hK=>by simp only[go_sem,ai ae,ak,an,aw,im,ai cK,eV,ai aS,ak,an,bC];exact aq) ?_
     repeat refine sq ?_
     refine aC (fun hb=>?_) fun hb=>?_
     ·have bY:j<i:=by simpa using hb
      have fe:(j:Int)<i:=by omega
      clear hb
      have Gx:j<l.ts.length:=by omega
      have Pn:j<row.length:=by omega
      have Pm:(j:Int)<l.ts.length:=by omega
      have hT:(kh (n8 l row l.ts[i] l.ts[i].lv[i1]) (j+1)&&(B&&l.rs[j0].lv.contains l.ts[i].lv[i1]))=(C&&!((row.getD j false&&l.ts[j].re==l.ts[i].re)&&l.ts[j].lv.contains l.ts[i].lv[i1])):=by
       rw[<-hC,adX,n8,mL Gx,Bool.and_right_comm]
      repeat refine sq ?_
      refine aF ?_
      repeat refine sq ?_
      refine aR ?_
      repeat refine sq ?_
      refine oZ hΓ hP [[],[0],[0,1],[0,1],u4,u5,u6,u7,u8,u7,ck,eF,eO,u7,[0,1,2,3,4,5,6,13],vt,u16,nZ,jj,nY,jj,xp,Aa,vr,jj,[0,1,2,3,4,5,6,7,8,9,10,11,12,13,14,15,16,17,24],jj,[0,1,2,3,4,5,6,7,8,9,10,11,12,13,14,15,16,17,24,25,26],[0,1,2,3,4,5,6,7,8,9,10,11,12,13,14,15,16,17,24,25,26,27],z7,Jj,Ji,u32,TH] (by kernel_rfl) fun K' hK=>?_
      simp only[go_sem,ai ae,ak,an,aw,im,ai cK,eV,ai aS,ak,an,bC,ai ae,ai aS,ai cK,Gz,yb Pn,ai Gx,Pm,bC,aw,ak,an,List.length_map,Bool.decide_and,Bool.decide_eq_true]
      repeat (refine⟨au,?_⟩)
      first | refine⟨by rfl,?_⟩ | skip
      refine hK _ ?_
      clear K' hK
      simp only[go_sem]
      refine kp [1,2,5,6,7,8,9,10,11] [[2,0],[7,0],[15,0]] ?_
      repeat refine sq ?_
      refine aW hΓ fun K' hK=>?_
      simp only[go_sem,ai ae,ak,an,aw,im,ai cK,eV,ai aS,ak,an,bC,ai ae,ai aS,ai cK,Gz,yb Pn,ai Gx,Pm,bC,aw,ak,an,List.length_map]
      repeat (refine⟨au,?_⟩)
      refine hK _ ?_
      clear K' hK
      simp only[go_sem]
      refine⟨j+1,bY,by(show i-(j+1)<i-j;omega),?_⟩
      refine bh [1,2,5,6,7,8,9,10,11] [[2,0],[7,0],[15,0]] ?_ ?_<;>simp only[go_sem,bc bY (by omega),be,hT]
     ·have oM:j=i:=by
       have :¬ (j:Int)<i:=by simpa using hb
       omega
      clear hb
      rw[oM]at hC
      repeat refine sq ?_
      refine bN ?_
      simp only[go_sem]
      refine kp [1,2,5,6,7,8,9,10] [[2,0],[7,0],[15,0]] ?_
      repeat refine sq ?_
      refine aW hΓ fun K' hK=>?_
      simp only[go_sem,ai ae,ak,an,aw,im,ai cK,eV,ai aS,ak,an,bC]
      repeat (refine⟨au,?_⟩)
      refine hK _ ?_
      clear K' hK
      simp only[go_sem]
      refine⟨i1+1,aS,by(show l.ts[i].lv.length-(i1+1)<l.ts[i].lv.length-i1;omega),?_⟩
      refine bh [1,2,5,6,7,8,9,10] [[2,0],[7,0],[15,0]] ?_ ?_<;>simp only[go_sem,bc aS hvm,be,hA,hC]
    ·have jy:i1=l.ts[i].lv.length:=by
      have :¬ (i1:Int)<l.ts[i].lv.length:=by simpa using hb
      omega
     clear hb
     subst jy
     repeat refine sq ?_
     refine bN ?_
     simp only[go_sem]
     refine kp [1,2,5,6,9] [[2,0],[15,0]] ?_
     have e0:br l k (i+1)=row.set i B:=by
      rw[<-Jx l k ae,FW,hte,<-hB,List.take_length]
     repeat refine sq ?_
     refine aW hΓ fun K' hK=>?_
     simp only[go_sem,ai ae,ak,an,aw,im,ai cK,eV,Uc]
     repeat (refine⟨au,?_⟩)
     refine hK _ ?_
     clear K' hK
     simp only[go_sem]
     refine kp [1,2,5,6] [[2,0],[15,0]] ?_
     repeat refine sq ?_
     refine aW hΓ fun K' hK=>?_
     simp only[go_sem,ai ae,ak,an,aw,im,ai cK,eV]
     repeat (refine⟨au,?_⟩)
     refine hK _ ?_
     clear K' hK
     simp only[go_sem]
     refine⟨i+1,ae,by(show l.ts.length-(i+1)<l.ts.length-i;omega),?_⟩
     refine bh [1,2,5,6] [[2,0],[15,0]] ?_ ?_<;>simp only[go_sem,bc ae jw,be,e0]
 ·have bE:i=l.ts.length:=by
   have :¬ (i:Int)<l.ts.length:=by simpa using hb
   omega
  clear hb
  subst bE
  repeat refine sq ?_
  refine bN ?_
  simp only[go_sem]
  refine kp [5] [[15,0]] ?_
  repeat refine sq ?_
  refine rx hΓ [4] [[15,0]] (fun K' hK=>by simp only[go_sem];exact aq) ?_
  refine aB ?_
  simp only[go_sem]
  rw[lS]
end
noncomputable section
structure RV where
 l:Led
 k:Int
 ts:List Bool
 ds:List Rg
 deriving Inhabited
def HF(x:RV):V:=.agg [.sl (x.l.ps.map cW),.sl (x.l.rs.map encR),.sl (x.l.ts.map encT),.sl (x.l.ss.map encS),vInt x.k,.sl (x.ts.map .bool),.sl (x.ds.map uI)]
def QW:V->RV
 | .agg [.sl a,.sl b,.sl c,.sl d,.int _ k,.sl t,.sl g]=>⟨⟨a.map sm,b.map lJ,c.map nB,d.map kf⟩,k,t.map Cz,g.map wW⟩
 |_=>default
theorem acx(r:Rg):wW (uI r)=r:=rfl
@[go_sem] theorem ajg(l:List Rg):(l.map uI).map wW=l:=te acx l
def pw:En RV:=⟨HF,QW⟩
attribute [go_sem] HF QW pw uI wW
@[go_sem] theorem ai'(x:RV):(⟨x.l,x.k,x.ts,x.ds⟩:RV)=x:=rfl
def jO(x:RV)(so f:Int)(j:Nat):Bool:=(x.ts.getD j false&&(aG x.l j).re==so)&&(aG x.l j).lv.contains f
def dp(x:RV)(i:Nat)(f:Int):Int:=if (List.range x.ts.length).any (jO x (av x.l i).so f)=true then((List.range x.ts.length).findIdx (jO x (av x.l i).so f):Int)else -1
theorem Ko{x:RV}{i:Nat}{f:Int}{j:Nat}(h:j<x.ts.length)(hp:jO x (av x.l i).so f j=true)(hn:∀ m,m<x.ts.length->m<j->jO x (av x.l i).so f m=false):dp x i f=j:=by
 have :=oA (p:=jO x (av x.l i).so f) (l:=List.range x.ts.length) (i:=j) (by simpa using h) (by simpa using hp) (fun m hm lx=>by simpa using hn m (by simpa using hm) lx)
 exact this
theorem Kn{x:RV}{i:Nat}{f:Int}(hn:∀ m,m<x.ts.length->m<x.ts.length->jO x (av x.l i).so f m=false):dp x i f= -1:=by
 unfold dp
 rw[if_neg]
 intro h
 obtain⟨m,hm,hp⟩:=List.any_eq_true.1 h
 have ly:m<x.ts.length:=by simpa using hm
 rw[hn m ly ly]at hp
 exact absurd hp (by decide)
def K41:List (Nat×Spec):=[(15,qW)]
theorem aeY:KS K41:=tc Av.sound<|tn
attribute [go_sem] K41
@[go_sem] def P103:PSpec:=p3 pw iI iI (fun x a _=>(bw x.l/\x.ts.length=x.l.ts.length)/\0<=a/\a<x.l.rs.length) (fun x a f=>vInt (dp x a.toNat f)) true
@[go_sem] def xi:Spec:=P103.toSpec
set_option maxHeartbeats 8000000 in
theorem Kc:aZ Tryz.prog 103 P103:=by
 refine lR (rs:=[.tmp 6]) Tryz.func103 Tryz.ntmps103 fun x a f hp hw=>?_
 have hP:=fE
 simp only[iI,pw]at hw |-
 have hΓ:=aeY
 obtain⟨⟨aa,tD⟩,ha0,wI⟩:=hp
 have yy:=aa.tsn
 have hl:x.ts.length<=maxLen:=by unfold maxLen;omega
 obtain⟨n,rfl⟩:∃ n:Nat,a=n:=⟨a.toNat,by omega⟩
 have hn:n<x.l.rs.length:=by omega
 rw[ak]
 repeat refine sq ?_
 refine rx hΓ [1,2,3] [[3,0]] (fun K' hK=>by simp only[go_sem];exact aq) ?_
 repeat refine sq ?_
 refine rx hΓ [1,2,3,7] [[3,0]] (fun K' hK=>by simp only[go_sem];exact aq) ?_
 repeat refine sq ?_
 refine aR ?_
 repeat refine sq ?_
 refine cp (fun s:Nat=>[(7,⟨true,.v (vInt s)⟩)]) (fun s=>[]) (fun s=>s<=x.ts.length/\∀ m,m<x.ts.length->m<s->jO x (av x.l n).so f m=false) (fun s=>x.ts.length-s) 0 ?_ ?_ ?_ ?_
 ·exact⟨Nat.zero_le _,fun m _ h=>by omega⟩
 ·rfl
 ·rfl
 rintro i ⟨hi,hR⟩
 simp only[go_sem]
 repeat refine sq ?_
 refine rx hΓ [1,2,3,7,12] [[3,0]] (fun K' hK=>by simp only[go_sem];exact aq) ?_
 repeat refine sq ?_
 refine aC (fun hb=>?_) fun hb=>?_
 ·have ae:i<x.ts.length:=by simpa using hb
  have aw:(i:Int)<x.ts.length:=by omega
  clear hb
  have yO:i<x.l.ts.length:=by omega
  have Gl:(i:Int)<x.l.ts.length:=by omega
  have tU:(n:Int)<x.l.rs.length:=by omega
  repeat refine sq ?_
  refine aF ?_
  repeat refine sq ?_
  refine aR ?_
  repeat refine sq ?_
  refine dx hΓ hP [[],[0],[],[0,1,2],u4,u5,u6,u7,u8,u6,ck,eF,eO,u6,[0,1,2,3,4,5,13],[0,1,2,3,4,5,13,14],u6,[0,1,2,3,4,5,13,14,15,16],[0,1,2,3,4,5,13,14,15,16,17],[0,1,2,3,4,5,13,14,15,16,17,18],pV,xp,Aa,vr,Jk,z',vr,TI,z8,z7,vr,Ji,u32] [1,2,3,7,47] [[3,0]] (by kernel_rfl) (fun K' hK=>by simp only[go_sem,yb ae,ai hn,ai yO,tU,Gl,ak,an,aw,List.length_map];exact gX) ?_
  repeat refine sq ?_
  refine aC (fun hb=>?_) fun hb=>?_
  ·repeat refine sq ?_
   have e:dp x n f=i:=Ko ae (by unfold jO;rw[mL yO,cT hn];simpa using hb) hR
   repeat refine sq ?_
   refine rx hΓ [6] [] (fun K' hK=>by simp only[go_sem,yb ae,ai hn,ai yO,tU,Gl,ak,an,aw,List.length_map];exact aq) ?_
   refine aB ?_
   simp only[go_sem]
   rw[e]
  ·repeat refine sq ?_
   refine aF ?_
   refine bW ?_
   simp only[go_sem]
   refine kp [1,2,3,7] [[3,0]] ?_
   repeat refine sq ?_
   refine aW hΓ fun K' hK=>?_
   simp only[go_sem,yb ae,ai hn,ai yO,tU,Gl,ak,an,aw,List.length_map]
   repeat (refine⟨au,?_⟩)
   refine hK _ ?_
   clear K' hK
   simp only[go_sem]
   refine⟨i+1,⟨ae,?_⟩,by(show x.ts.length-(i+1)<x.ts.length-i;omega),?_⟩
   ·intro m hm hmi
    rcases Nat.lt_succ_iff_lt_or_eq.1 hmi with h5 | rfl
    ·exact hR m hm h5
    ·unfold jO;rw[mL yO,cT hn];simpa using hb
   refine bh [1,2,3,7] [[3,0]] ?_ ?_<;>simp only[go_sem,bc ae hl,be]
 ·have bE:i=x.ts.length:=by
   have :¬ (i:Int)<x.ts.length:=by simpa using hb
   omega
  clear hb
  subst bE
  repeat refine sq ?_
  refine bN ?_
  simp only[go_sem]
  refine kp [] [] ?_
  repeat refine sq ?_
  refine rx hΓ [6] [] (fun K' hK=>by simp only[go_sem];exact aq) ?_
  refine aB ?_
  simp only[go_sem]
  rw[Kn hR]
end
set_option maxHeartbeats 8000000
noncomputable section
def ee(k:Int)(f:Fol)(r:Rec):Bool:=(bF r.kn r.un k&&r.pa==f.pa)&&r.lv.contains f.le
def K42:List (Nat×Spec):=[(157,Dm),(15,qW)]
theorem aeX:KS K42:=tc DZ.sound<|tc Av.sound<|tn
attribute [go_sem] K42
@[go_sem] def P188:PSpec:=p3 pw iI mf (fun x a _=>0<=a/\a<x.l.rs.length) (fun x a f=>.bool (ee x.k f (av x.l a.toNat))) true
@[go_sem] def IJ:Spec:=P188.toSpec
theorem U7:aZ Tryz.prog 188 P188:=by
 refine lR (rs:=[.tmp 6]) Tryz.func188 Tryz.ntmps188 fun x a f hp hw=>?_
 simp only[mf,iI,pw,qJ]at hw |-
 have hΓ:=aeX
 obtain⟨ha0,wI⟩:=hp
 obtain⟨n,rfl⟩:∃ n:Nat,a=n:=⟨a.toNat,by omega⟩
 have hn:n<x.l.rs.length:=by omega
 rw[ak,cT hn]
 repeat refine sq ?_
 refine rx hΓ [1,3,5] [[3,0],[5,0]] (fun K' hK=>by simp only[go_sem];exact aq) ?_
 repeat refine sq ?_
 refine rx hΓ [3,5,7] [[3,0],[5,0],[7,0]] (fun K' hK=>by simp only[go_sem,ai hn,ak,an,wI,List.length_map];exact aq) ?_
 repeat refine sq ?_
 refine rx hΓ [6] [] (fun K' hK=>by simp only[go_sem,Bool.decide_and,Bool.decide_eq_true];exact aq) ?_
 refine aB ?_
 simp only[go_sem]
 rfl
def gl(x:RV)(f:Fol)(day:Int):Nat->Int
 | 0=> -1
 |s+1=>if ((ee x.k f (av x.l s)&&decide ((av x.l s).da<=day))&&(decide (gl x f day s<0)||decide ((av x.l s).da>(av x.l (gl x f day s).toNat).da)))=true then(s:Int)else gl x f day s
theorem Mj(x:RV)(f:Fol)(day:Int)(s:Nat):gl x f day s= -1\/∃ j,j<s/\gl x f day s=(j:Int):=by
 induction s with
 |zero=>exact .inl rfl
 |succ s ih=>
  unfold gl
  split
  ·exact .inr ⟨s,by omega,rfl⟩
  ·rcases ih with h | ⟨j,hj,h⟩
   ·exact .inl h
   ·exact .inr ⟨j,by omega,h⟩
def ez(x:RV)(f:Fol)(day:Int):Int:=gl x f day x.l.rs.length
def K42b:List (Nat×Spec):=[(188,IJ)]
theorem aeW:KS K42b:=tc U7.sound<|tn
attribute [go_sem] K42b
@[go_sem] def P159:PSpec:=p3 pw mf iI (fun x _ _=>bw x.l) (fun x f day=>vInt (ez x f day)) true
@[go_sem] def IL:Spec:=P159.toSpec
theorem Vr:aZ Tryz.prog 159 P159:=by
 refine lR (rs:=[.tmp 6]) Tryz.func159 Tryz.ntmps159 fun x f day hp hw=>?_
 simp only[mf,iI,pw,qJ]at hw |-
 have hΓ:=aeW
 have oF:=hp.rsn
 have hl:x.l.rs.length<=maxLen:=by unfold maxLen;omega
 repeat refine sq ?_
 refine rx hΓ [2,3,4] [[3,0],[4,0]] (fun K' hK=>by simp only[go_sem];exact aq) ?_
 repeat refine sq ?_
 refine rx hΓ [2,3,4,7] [[3,0],[4,0]] (fun K' hK=>by simp only[go_sem];exact aq) ?_
 repeat refine sq ?_
 refine rx hΓ [2,3,4,7,8] [[3,0],[4,0]] (fun K' hK=>by simp only[go_sem];exact aq) ?_
 repeat refine sq ?_
 refine aR ?_
 repeat refine sq ?_
 refine cp (fun s:Nat=>[(8,⟨true,.v (vInt s)⟩),(7,⟨true,.v (vInt (gl x f day s))⟩)]) (fun s=>[]) (fun s=>s<=x.l.rs.length) (fun s=>x.l.rs.length-s) 0 ?_ ?_ ?_ ?_
 ·exact Nat.zero_le _
 ·rfl
 ·rfl
 rintro i hi
 generalize hL:gl x f day i=L
 simp only[go_sem]
 repeat refine sq ?_
 refine rx hΓ [2,3,4,7,8,15] [[3,0],[4,0]] (fun K' hK=>by simp only[go_sem];exact aq) ?_
 repeat refine sq ?_
 refine aC (fun hb=>?_) fun hb=>?_
 ·have ae:i<x.l.rs.length:=by simpa using hb
  have aw:(i:Int)<x.l.rs.length:=by omega
  clear hb
  have hc:=Mj x f day i
  rw[hL]at hc
  have nx:=cT ae
  have ir:bO (-1) 0=0:=rfl
  have Cg:0<x.l.rs.length:=by omega
  have Cf:(0:Int)<x.l.rs.length:=by omega
  repeat refine sq ?_
  refine aF ?_
  repeat refine sq ?_
  refine aR ?_
  repeat refine sq ?_
  refine rx hΓ [2,3,4,7,8,9] [[3,0],[4,0]] (fun K' hK=>by simp only[go_sem,ai ae,ak,an,aw];exact aq) ?_
  rcases hc with hc | ⟨j,hj,hc⟩
  ·subst hc
   repeat refine sq ?_
   refine rx hΓ [2,3,4,7,8,49] [[3,0],[4,0]] (fun K' hK=>by simp only[go_sem,ai ae,ak,an,aw,ir,ai Cg,Cf,ak,vT,nx,Bool.decide_and,Bool.decide_eq_true];exact aq) ?_
   repeat refine sq ?_
   refine aC (fun hb=>?_) fun hb=>?_
   ·repeat refine sq ?_
    have eL:gl x f day (i+1)=(i:Int):=by
     rw[gl,hL,nx,if_pos (by simpa using hb)]
    repeat refine sq ?_
    refine aW hΓ fun K' hK=>?_
    simp only[go_sem,ai ae,ak,an,aw,ir,ai Cg,Cf,ak,vT,nx]
    repeat (refine⟨au,?_⟩)
    refine hK _ ?_
    clear K' hK
    simp only[go_sem]
    refine kp [2,3,4,7,8] [[3,0],[4,0]] ?_
    repeat refine sq ?_
    refine aW hΓ fun K' hK=>?_
    simp only[go_sem,ai ae,ak,an,aw,ir,ai Cg,Cf,ak,vT,nx]
    repeat (refine⟨au,?_⟩)
    refine hK _ ?_
    clear K' hK
    simp only[go_sem]
    refine⟨i+1,ae,by(show x.l.rs.length-(i+1)<x.l.rs.length-i;omega),?_⟩
    refine bh [2,3,4,7,8] [[3,0],[4,0]] ?_ ?_<;>simp only[go_sem,bc ae hl,be,eL]
   ·repeat refine sq ?_
    have eL:gl x f day (i+1)= -1:=by
     rw[gl,hL,nx,if_neg (by simpa using hb)]
    refine aF ?_
    refine bW ?_
    simp only[go_sem]
    refine kp [2,3,4,7,8] [[3,0],[4,0]] ?_
    repeat refine sq ?_
    refine aW hΓ fun K' hK=>?_
    simp only[go_sem,ai ae,ak,an,aw,ir,ai Cg,Cf,ak,vT,nx]
    repeat (refine⟨au,?_⟩)
    refine hK _ ?_
    clear K' hK
    simp only[go_sem]
    refine⟨i+1,ae,by(show x.l.rs.length-(i+1)<x.l.rs.length-i;omega),?_⟩
    refine bh [2,3,4,7,8] [[3,0],[4,0]] ?_ ?_<;>simp only[go_sem,bc ae hl,be,eL]
  ·subst hc
   have eV:decide ((j:Int)<0)=false:=by simp
   have lx:(if (0:Int)>(j:Int)then(0:Int)else(j:Int))=j:=if_neg (by omega)
   have ft:j<x.l.rs.length:=by omega
   have BT:(j:Int)<x.l.rs.length:=by omega
   repeat refine sq ?_
   refine rx hΓ [2,3,4,7,8,49] [[3,0],[4,0]] (fun K' hK=>by simp only[go_sem,ai ae,ak,an,aw,lx,eV,ai ft,BT,nx,Bool.decide_and,Bool.decide_eq_true];exact aq) ?_
   repeat refine sq ?_
   refine aC (fun hb=>?_) fun hb=>?_
   ·repeat refine sq ?_
    have eL:gl x f day (i+1)=(i:Int):=by
     rw[gl,hL,nx,ak,cT ft,eV,Bool.false_or,if_pos (by simpa using hb)]
    repeat refine sq ?_
    refine aW hΓ fun K' hK=>?_
    simp only[go_sem,ai ae,ak,an,aw,lx,eV,ai ft,BT,nx]
    repeat (refine⟨au,?_⟩)
    refine hK _ ?_
    clear K' hK
    simp only[go_sem]
    refine kp [2,3,4,7,8] [[3,0],[4,0]] ?_
    repeat refine sq ?_
    refine aW hΓ fun K' hK=>?_
    simp only[go_sem,ai ae,ak,an,aw,lx,eV,ai ft,BT,nx]
    repeat (refine⟨au,?_⟩)
    refine hK _ ?_
    clear K' hK
    simp only[go_sem]
    refine⟨i+1,ae,by(show x.l.rs.length-(i+1)<x.l.rs.length-i;omega),?_⟩
    refine bh [2,3,4,7,8] [[3,0],[4,0]] ?_ ?_<;>simp only[go_sem,bc ae hl,be,eL]
   ·repeat refine sq ?_
    have eL:gl x f day (i+1)=(j:Int):=by
     rw[gl,hL,nx,ak,cT ft,eV,Bool.false_or,if_neg (by simpa using hb)]
    refine aF ?_
    refine bW ?_
    simp only[go_sem]
    refine kp [2,3,4,7,8] [[3,0],[4,0]] ?_
    repeat refine sq ?_
    refine aW hΓ fun K' hK=>?_
    simp only[go_sem,ai ae,ak,an,aw,lx,eV,ai ft,BT,nx]
    repeat (refine⟨au,?_⟩)
    refine hK _ ?_
    clear K' hK
    simp only[go_sem]
    refine⟨i+1,ae,by(show x.l.rs.length-(i+1)<x.l.rs.length-i;omega),?_⟩
    refine bh [2,3,4,7,8] [[3,0],[4,0]] ?_ ?_<;>simp only[go_sem,bc ae hl,be,eL]
 ·have bE:i=x.l.rs.length:=by
   have :¬ (i:Int)<x.l.rs.length:=by simpa using hb
   omega
  clear hb
  subst bE
  repeat refine sq ?_
  refine bN ?_
  simp only[go_sem]
  refine kp [7] [] ?_
  repeat refine sq ?_
  refine rx hΓ [6] [] (fun K' hK=>by simp only[go_sem];exact aq) ?_
  refine aB ?_
  simp only[go_sem]
  rw[<-hL];rfl
def gM(l:Led)(i:Nat):Sig:=l.ss.getD i default
def xC(x:RV):Nat->List Int
 | 0=>[]
 |s+1=>if bF (gM x.l s).kn (gM x.l s).un x.k=true then xC x s++[(s:Int)]else xC x s
theorem JG{l:Led}{i:Nat}(h:i<l.ss.length):gM l i=l.ss[i]:=by unfold gM;rw[List.getD_eq_getElem?_getD,List.getElem?_eq_getElem h];rfl
def aeV:List (Nat×Spec):=[(157,Dm)]
attribute [go_sem] aeV
end
noncomputable section
def ya(x:RV)(r:Rec)(lv:List Int)(i:Nat)(j:Nat):Bool:=decide ((av x.l i).da>r.da)&&ee x.k ⟨r.pa,lv.getD j 0⟩ (av x.l i)
def zB(x:RV)(r:Rec)(lv:List Int)(i:Nat)(hi:Int):Nat->Int
 | 0=>hi
 |j+1=>if ya x r lv i j=true then dH (zB x r lv i hi j) (av x.l i).da else zB x r lv i hi j
def uT(x:RV)(r:Rec)(t:Ret):Nat->Int
 | 0=>t.hi
 |i+1=>zB x r t.lv i (uT x r t i) t.lv.length
def uS(x:RV)(i:Nat):Rg:=if x.ts.getD i false=true then⟨ny (aG x.l i) (av x.l (cw x.l (aG x.l i).re x.k).toNat),uT x (av x.l (cw x.l (aG x.l i).re x.k).toNat) (aG x.l i) x.l.rs.length⟩else⟨0,100000⟩
def IS(x:RV):Prop:=bw x.l/\x.ts.length=x.l.ts.length/\∀ i,x.ts.getD i false=true->¬ cw x.l (aG x.l i).re x.k<0
def K43:List (Nat×Spec):=[(70,zP),(158,IM),(188,IJ)]
attribute [go_sem] K43
end
noncomputable section
theorem Yo(x:RV)(f:Fol)(day:Int):ez x f day= -1\/∃ j,j<x.l.rs.length/\ez x f day=(j:Int):=Mj x f day _
theorem VZ(x:RV)(i:Nat)(f:Int):dp x i f= -1\/∃ j,j<x.ts.length/\dp x i f=(j:Int):=by
 unfold dp
 by_cases h:(List.range x.ts.length).any (jO x (av x.l i).so f)=true
 ·rw[if_pos h]
  have ae:(List.range x.ts.length).findIdx (jO x (av x.l i).so f)<(List.range x.ts.length).length:=List.findIdx_lt_length_of_exists (by obtain⟨y,hy,hp⟩:=List.any_eq_true.1 h;exact⟨y,hy,hp⟩)
  exact .inr ⟨_,by simpa using ae,rfl⟩
 ·rw[if_neg h];exact .inl rfl
def dO(d:List Rg)(i:Nat):Rg:=d.getD i default
def iH(x:RV)(d:List Rg)(s:Sig):List Rg×Bool:=
 if ez x ⟨s.pa,s.le⟩ s.da<0 then(d,s.pe==0)else
 if dp x (ez x ⟨s.pa,s.le⟩ s.da).toNat s.le<0 then(d,s.pe==(av x.l (ez x ⟨s.pa,s.le⟩ s.da).toNat).bo)else
 if s.pe==(av x.l (ez x ⟨s.pa,s.le⟩ s.da).toNat).bo then
   (d.set (dp x (ez x ⟨s.pa,s.le⟩ s.da).toNat s.le).toNat ⟨bO (dO d (dp x (ez x ⟨s.pa,s.le⟩ s.da).toNat s.le).toNat).lo (s.da+1),(dO d (dp x (ez x ⟨s.pa,s.le⟩ s.da).toNat s.le).toNat).hi⟩,
     decide (bO (dO d (dp x (ez x ⟨s.pa,s.le⟩ s.da).toNat s.le).toNat).lo (s.da+1)<=(dO d (dp x (ez x ⟨s.pa,s.le⟩ s.da).toNat s.le).toNat).hi))
 else if s.pe==0 then
  (d.set (dp x (ez x ⟨s.pa,s.le⟩ s.da).toNat s.le).toNat ⟨(dO d (dp x (ez x ⟨s.pa,s.le⟩ s.da).toNat s.le).toNat).lo,dH (dO d (dp x (ez x ⟨s.pa,s.le⟩ s.da).toNat s.le).toNat).hi s.da⟩,
    decide ((dO d (dp x (ez x ⟨s.pa,s.le⟩ s.da).toNat s.le).toNat).lo<=dH (dO d (dp x (ez x ⟨s.pa,s.le⟩ s.da).toNat s.le).toNat).hi s.da))
 else(d,false)
theorem W9{x:RV}{d:List Rg}{s:Sig}(h:ez x ⟨s.pa,s.le⟩ s.da= -1):iH x d s=(d,s.pe==0):=by unfold iH;rw[h];rfl
theorem W7{x:RV}{d:List Rg}{s:Sig}{q:Nat}(h:ez x ⟨s.pa,s.le⟩ s.da=q)(hr:dp x q s.le= -1):iH x d s=(d,s.pe==(av x.l q).bo):=by
 unfold iH;rw[h,if_neg (by omega),ak,hr];rfl
theorem Xb{x:RV}{d:List Rg}{s:Sig}{q j:Nat}(h:ez x ⟨s.pa,s.le⟩ s.da=q)(hr:dp x q s.le=j)(hm:(s.pe==(av x.l q).bo)=true):
 iH x d s=(d.set j ⟨bO (dO d j).lo (s.da+1),(dO d j).hi⟩,decide (bO (dO d j).lo (s.da+1)<=(dO d j).hi)):=by
 unfold iH;rw[h,if_neg (by omega),ak,hr,if_neg (by omega),if_pos hm];rfl
theorem Xe{x:RV}{d:List Rg}{s:Sig}{q j:Nat}(h:ez x ⟨s.pa,s.le⟩ s.da=q)(hr:dp x q s.le=j)(hm:(s.pe==(av x.l q).bo)=false)(h0:(s.pe==0)=true):
 iH x d s=(d.set j ⟨(dO d j).lo,dH (dO d j).hi s.da⟩,decide ((dO d j).lo<=dH (dO d j).hi s.da)):=by
 unfold iH;rw[h,if_neg (by omega),ak,hr,if_neg (by omega),if_neg (by rw[hm];decide),if_pos h0];rfl
theorem Xa{x:RV}{d:List Rg}{s:Sig}{q j:Nat}(h:ez x ⟨s.pa,s.le⟩ s.da=q)(hr:dp x q s.le=j)(hm:(s.pe==(av x.l q).bo)=false)(h0:(s.pe==0)=false):iH x d s=(d,false):=by
 unfold iH;rw[h,if_neg (by omega),ak,hr,if_neg (by omega),if_neg (by rw[hm];decide),if_neg (by rw[h0];decide)]
theorem Xw(a b:Int):bO a b=if b>a then b else a:=rfl
def K44:List (Nat×Spec):=[(159,IL),(103,xi)]
attribute [go_sem] K44
end
noncomputable section
def qL(x:RV)(s:Nat):List Rg:=(List.range s).map (uS x)
theorem RK(x:RV)(s:Nat):(qL x s).length=s:=by simp[qL]
def nz(x:RV)(is:List Int):Nat->List Rg×Bool
 | 0=>(qL x x.l.ts.length,true)
 |s+1=>((iH x (nz x is s).1 (gM x.l (is.getD s 0).toNat)).1,(nz x is s).2&&(iH x (nz x is s).1 (gM x.l (is.getD s 0).toNat)).2)
theorem Xh(x:RV)(d:List Rg)(s:Sig):(iH x d s).1.length=d.length:=by
 unfold iH
 split
 ·rfl
 ·split
  ·rfl
  ·split
   ·simp
   ·split
    ·simp
    ·rfl
theorem acn(x:RV)(is:List Int)(s:Nat):(nz x is s).1.length=x.l.ts.length:=by
 induction s with
 |zero=>exact RK _ _
 |succ s ih=>unfold nz;rw[Xh,ih]
def K45:List (Nat×Spec):=[]
attribute [go_sem] K45
end
noncomputable section
def aY(l:Led)(k:Int):RV:=⟨l,k,br l k l.ts.length,[]⟩
def K46:List (Nat×Spec):=[(71,Dk)]
theorem aeU:KS K46:=tc DX.sound<|tn
attribute [go_sem] K46
@[go_sem] def P73:PSpec:=p2 iL iI (fun l _=>bw l) (fun l k=>HF (aY l k)) false
@[go_sem] def xh:Spec:=P73.toSpec
set_option maxHeartbeats 8000000 in
theorem J3:aZ Tryz.prog 73 P73:=by
 refine dG (rs:=[.cell 4 108]) Tryz.func73 Tryz.ntmps73 fun l k hp hw=>?_
 have hP:=fE
 simp only[iI,iL,fw]at hw |-
 have hΓ:=aeU
 repeat refine sq ?_
 refine rx hΓ [1,2,4] [[2,0],[4,0],[10,0]] (fun K' hK=>by simp only[go_sem];exact aq) ?_
 repeat refine sq ?_
 refine dx hΓ hP [[],[],[],[],[2,3],u5,u6] [4] [[4,0],[10,0]] (by kernel_rfl) (fun K' hK=>by simp only[go_sem];exact gX) ?_
 refine bQ (nX [4,0] [10,0] 6 2 _ rfl rfl rfl [4] [[4,0],[10,0]] ?_ rfl) ?_
 ·simp only[go_sem,List.set_cons_succ,List.set_cons_zero]
 simp only[go_sem,List.set_cons_succ,List.set_cons_zero]
 refine bQ (pU [4,0] [10,0] 6 _ _ _ _ rfl rfl rfl (by first | rfl | (simp only[List.length_map];done)) [4] [[4,0]] ?_ rfl) ?_
 ·simp only[go_sem,List.set_cons_succ,List.set_cons_zero]
 simp only[go_sem,List.set_cons_succ,List.set_cons_zero]
 refine aB ?_
 simp only[go_sem]
 first | rfl | trace_state
end
noncomputable section
def wY(x:RV)(a b:Nat)(f:Int):Bool:=(ee x.k ⟨(av x.l a).pa,f⟩ (av x.l a)&&ee x.k ⟨(av x.l a).pa,f⟩ (av x.l b))&&
 (((av x.l a).da==(av x.l b).da||decide (dp x a f<0))||decide (ny (aG x.l (dp x a f).toNat) (av x.l a)>(av x.l b).da))
def lK(x:RV)(a b:Nat):Bool:=(av x.l a).lv.any (wY x a b)
def jd(x:RV)(a b:Nat):Bool:=if (av x.l a).da>(av x.l b).da then lK x b a else lK x a b
def K47:List (Nat×Spec):=[(188,IJ),(103,xi),(158,IM)]
attribute [go_sem] K47
def S3:PSpec:=p3 pw iI iI (fun x a b=>IS x/\(0<=a/\a<x.l.rs.length/\0<=b/\b<x.l.rs.length)/\¬ (av x.l a.toNat).da>(av x.l b.toNat).da) (fun x a b=>.bool (lK x a.toNat b.toNat)) true
end
noncomputable section
def aen:Spec:=S3.toSpec
attribute [go_sem] S3 aen
def K48:List (Nat×Spec):=[]
attribute [go_sem] K48
theorem aZ.or{P:Program}{f:FuncId}{s s1 s2:PSpec}(h1:aZ P f s1)(h2:aZ P f s2)(hs:s.flat=true->s1.flat=true/\s2.flat=true)
 (hc:∀ xs,s.pre xs->(s1.pre xs/\s1.fn xs=s.fn xs)\/(s2.pre xs/\s2.fn xs=s.fn xs)):aZ P f s where
 ne:=h1.ne
 enter:=h1.enter
 flat:=fun hf xs hp=>by
  rcases hc xs hp with⟨a,e⟩ | ⟨a,e⟩
  ·rw[<-e];exact h1.flat (hs hf).1 xs a
  ·rw[<-e];exact h2.flat (hs hf).2 xs a
 calls:=fun m w xs args ha hr hp=>by
  rcases hc xs hp with⟨a,e⟩ | ⟨a,e⟩
  ·rw[<-e];exact h1.calls m w xs args ha hr a
  ·rw[<-e];exact h2.calls m w xs args ha hr a
end
noncomputable section
def K49:List (Nat×Spec):=[(159,IL),(103,xi)]
attribute [go_sem] K49
end
noncomputable section
def wZ(x:RV)(i:Nat):Option (Int×Int):=((List.range x.l.rs.length).find? fun j=>decide (i<j)&&jd x i j).map fun j=>((av x.l i).so,(av x.l j).so)
def gd(x:RV):Option (Int×Int):=(List.range x.l.rs.length).findSome? (wZ x)
theorem Q8{x:RV}{i:Nat}(h:∀ j,i<j->j<x.l.rs.length->jd x i j=false):wZ x i=none:=by
 unfold wZ
 rw[List.find?_eq_none.2]
 ·rfl
 ·intro j hj
  have eW:j<x.l.rs.length:=by simpa using hj
  by_cases bJ:i<j
  ·rw[h j bJ eW];simp
  ·simp[bJ]
theorem acJ{x:RV}{i j:Nat}(bJ:i<j)(hj:j<x.l.rs.length)(h:jd x i j=true)(hn:∀ m,i<m->m<j->jd x i m=false):wZ x i=some ((av x.l i).so,(av x.l j).so):=by
 unfold wZ
 rw[(List.find?_eq_some_iff_getElem (b:=j)).2 ⟨by simp[bJ,h],j,by simpa using hj,by simp,fun m hm=>by
  rw[List.getElem_range]
  by_cases Pt:i<m
  ·simp[hn m Pt hm]
  ·simp[Pt]⟩]
 rfl
theorem acH{x:RV}{i j:Nat}(hi:i<x.l.rs.length)(bJ:i<j)(hj:j<x.l.rs.length)(h:jd x i j=true)(hn:∀ m,i<m->m<j->jd x i m=false)
 (hb:∀ a,a<i->∀ m,a<m->m<x.l.rs.length->jd x a m=false):gd x=some ((av x.l i).so,(av x.l j).so):=by
 unfold gd
 rw[List.findSome?_eq_some_iff]
 refine⟨List.range i,i,(List.range' (i+1) (x.l.rs.length-(i+1))),?_,acJ bJ hj h hn,fun a ha=>Q8 fun m h1 h2=>hb a (by simpa using ha) m h1 h2⟩
 rw[List.range_eq_range',List.range_eq_range',<-List.range'_succ]
 have h1:=List.range'_append_1 (s:=0) (m:=i) (n:=x.l.rs.length-(i+1)+1)
 rw[Nat.zero_add]at h1
 rw[h1]
 congr 1
 omega
theorem Q7{x:RV}(hb:∀ a,a<x.l.rs.length->∀ m,a<m->m<x.l.rs.length->jd x a m=false):gd x=none:=by
 unfold gd
 rw[List.findSome?_eq_none_iff]
 exact fun a ha=>Q8 fun m h1 h2=>hb a (by simpa using ha) m h1 h2
def K50:List (Nat×Spec):=[]
attribute [go_sem] K50
end
noncomputable section
theorem xt(l:Led)(k:Int){s i:Nat}(h:(br l k s).getD i false=true):i<s/\gL l k (br l k i) i=true:=by
 induction s with
 |zero=>rw[Aj l k (Nat.zero_le i)]at h;cases h
 |succ s ih=>
  by_cases hi:i<s
  ·have e:(br l k (s+1)).getD i false=(br l k s).getD i false:=by
     rw[br]
     split
     ·rw[List.getD_eq_getElem?_getD,List.getElem?_set_ne (by omega),<-List.getD_eq_getElem?_getD]
     ·rfl
   rw[e]at h
   exact⟨by omega,(ih h).2⟩
  ·by_cases hs:i=s
   ·subst hs
    refine⟨by omega,?_⟩
    cases hb:gL l k (br l k i) i with
    |true=>rfl
    |false=>rw[Ai l k hb,Aj l k (Nat.le_refl i)]at h;cases h
   ·rw[Aj l k (by omega)]at h;cases h
theorem JA{l:Led}{k:Int}{row:List Bool}{i:Nat}(h:gL l k row i=true):¬ cw l (aG l i).re k<0:=by
 unfold gL at h
 split at h
 ·cases h
 ·assumption
theorem D5{l:Led}(h:bw l)(k:Int):IS (aY l k):=⟨h,lS _ _ _,fun _ hi=>JA (xt l k hi).2⟩
def xD(l:Led)(k:Int):List Int:=xC (aY l k) l.ss.length
def lI(l:Led)(k:Int):List Rg×Bool:=nz (aY l k) (xD l k) (xD l k).length
def oc(l:Led)(k:Int):Int:=if (gd (aY l k)).isSome=true then 25 else if (lI l k).2=true then 0 else 27
def Ap(l:Led)(k:Int):RV:=if oc l k=0 then { aY l k with ds:=(lI l k).1 }else aY l k
def K51:List (Nat×Spec):=[(73,xh)]
attribute [go_sem] K51
end
noncomputable section
structure Ask where
 (da kn pa le pe so:Int)
 deriving Inhabited
def QO(x:Ask):V:=.agg [vInt x.da,vInt x.kn,vInt x.pa,vInt x.le,vInt x.pe,vInt x.so]
def Q4:V->Ask
 | .agg [.int _ a,.int _ b,.int _ c,.int _ d,.int _ e,.int _ f]=>⟨a,b,c,d,e,f⟩
 |_=>default
def aan:En Ask:=⟨QO,Q4⟩
attribute [go_sem] QO Q4 aan
@[go_sem] theorem ajf(x:Ask):(⟨x.da,x.kn,x.pa,x.le,x.pe,x.so⟩:Ask)=x:=rfl
def K52:List (Nat×Spec):=[]
attribute [go_sem] K52
end
noncomputable section
def Ah(l:Led)(k:Int)(az:List Int)(i:Nat):Bool:=bL (az.getD i 0) (dO (Ap l k).ds i).lo (dO (Ap l k).ds i).hi
def Ad(l:Led)(k:Int)(az:List Int):Bool:=decide (oc l k=0)&&(decide (az.length=l.ts.length)&&kh (Ah l k az) az.length)
theorem Sr{p:Nat->Bool}{n:Nat}:kh p n=true↔∀ j,j<n->p j=true:=by
 unfold kh
 rw[List.all_eq_true]
 exact⟨fun h j hj=>h j (List.mem_range.2 hj),fun h j hj=>h j (List.mem_range.1 hj)⟩
def K62:List (Nat×Spec):=[]
attribute [go_sem] K62
def aeR:List (Nat×Spec):=[]
attribute [go_sem] aeR
def iY(x:RV)(f:Fol)(az:List Int)(day:Int):Int:=
 if ez x f day<0 then 0 else
 if(decide (dp x (ez x f day).toNat f.le>=0)&&decide (az.getD (dp x (ez x f day).toNat f.le).toNat 0<=day))=true then 0 else(av x.l (ez x f day).toNat).bo
def K62c:List (Nat×Spec):=[(159,IL),(103,xi)]
theorem aeQ:KS K62c:=tc Vr.sound<|tc Kc.sound<|tn
attribute [go_sem] K62c
@[go_sem] def P74:PSpec:=p4 pw mf fc iI (fun x _ az _=>IS x/\az.length=x.ts.length) (fun x f az day=>vInt (iY x f az day)) true
@[go_sem] def IG:Spec:=P74.toSpec
set_option maxHeartbeats 8000000 in
theorem J2:aZ Tryz.prog 74 P74:=by
 refine ra (rs:=[.tmp 8]) Tryz.func74 Tryz.ntmps74 fun x f az day hp hw=>?_
 simp only[mf,iI,fc,pw,qJ]at hw |-
 have hΓ:=aeQ
 obtain⟨⟨aa,tD,-⟩,np⟩:=hp
 repeat refine sq ?_
 refine rx hΓ [2,3,4,5] [[4,0],[5,0]] (fun K' hK=>by simp only[go_sem];exact aq) ?_
 rcases Yo x f day with jx | ⟨q,hq,jx⟩
 ·repeat refine sq ?_
  refine rx hΓ [2,3,4,5,9] [[4,0],[5,0]] (fun K' hK=>by simp only[go_sem,jx,nw];(repeat (refine⟨by first | exact au | exact aa,?_⟩));exact iz) ?_
  repeat refine sq ?_
  refine rx hΓ [2,3,4,5,9,16] [[4,0],[5,0]] (fun K' hK=>by simp only[go_sem,jx,nw];exact aq) ?_
  repeat refine sq ?_
  refine aC (fun hb=>?_) fun hb=>?_
  ·repeat refine sq ?_
   have e:iY x f az day=0:=by unfold iY;rw[jx];rfl
   repeat refine sq ?_
   refine rx hΓ [8] [] (fun K' hK=>by simp only[go_sem,jx,nw];exact aq) ?_
   refine aB ?_
   simp only[go_sem]
   rw[e]
  ·cases hb
 ·have bI:(q:Int)<x.l.rs.length:=by omega
  have HC:=cT hq
  repeat refine sq ?_
  refine rx hΓ [2,3,4,5,9] [[4,0],[5,0]] (fun K' hK=>by simp only[go_sem,jx,nw];(repeat (refine⟨by first | exact au | exact aa,?_⟩));exact iz) ?_
  repeat refine sq ?_
  refine rx hΓ [2,3,4,5,9,16] [[4,0],[5,0]] (fun K' hK=>by simp only[go_sem,jx,nw];exact aq) ?_
  repeat refine sq ?_
  refine aC (fun hb=>?_) fun hb=>?_
  ·cases hb
  ·repeat refine sq ?_
   refine aF ?_
   rcases VZ x q f.le with fq | ⟨j,hj,fq⟩
   ·have yU:decide ((-1:Int)>=0)=false:=rfl
    have eW:=yU
    have lx:=yU
    repeat refine sq ?_
    refine rx hΓ [2,3,4,9,10] [[4,0]] (fun K' hK=>by simp only[go_sem,jx,nw,fq,ai hq,bI,ak,an,List.length_map,ai hq,bI,ak,an,List.length_map];(repeat (refine⟨by first | exact au | exact⟨⟨aa,tD⟩,bI⟩,?_⟩));exact iz) ?_
    repeat refine sq ?_
    refine rx hΓ [4,9,32] [[4,0]] (fun K' hK=>by simp only[go_sem,jx,nw,fq,ai hq,bI,ak,an,List.length_map,lx,yU,eW,ak,an,List.length_map,decide_true,Bool.true_and,Bool.decide_and,Bool.decide_eq_true,true_and];exact aq) ?_
    repeat refine sq ?_
    refine aC (fun hb=>?_) fun hb=>?_
    ·cases hb
    ·repeat refine sq ?_
     have e:iY x f az day=x.l.rs[q].bo:=by unfold iY;rw[jx,if_neg (by omega),ak,fq,HC];rfl
     refine aF ?_
     repeat refine sq ?_
     refine rx hΓ [8] [] (fun K' hK=>by simp only[go_sem,jx,nw,fq,ai hq,bI,ak,an,List.length_map];exact aq) ?_
     refine aB ?_
     simp only[go_sem]
     rw[e]
   ·have Gv:j<az.length:=by omega
    have eW:(j:Int)<az.length:=by omega
    have yU:(az.map vInt).getD j default=vInt az[j]:=ai Gv
    have lx:(if (0:Int)>(j:Int)then(0:Int)else(j:Int))=j:=if_neg (by omega)
    have Po:decide ((j:Int)>=0)=true:=by simp
    repeat refine sq ?_
    refine rx hΓ [2,3,4,9,10] [[4,0]] (fun K' hK=>by simp only[go_sem,jx,nw,fq,ai hq,bI,ak,an,List.length_map,ai hq,bI,ak,an,List.length_map];(repeat (refine⟨by first | exact au | exact⟨⟨aa,tD⟩,bI⟩,?_⟩));exact iz) ?_
    repeat refine sq ?_
    refine rx hΓ [4,9,32] [[4,0]] (fun K' hK=>by simp only[go_sem,jx,nw,fq,ai hq,bI,ak,an,List.length_map,lx,yU,eW,ak,an,List.length_map,decide_true,Bool.true_and,Bool.decide_and,Bool.decide_eq_true,true_and];exact aq) ?_
    repeat refine sq ?_
    refine aC (fun hb=>?_) fun hb=>?_
    ·repeat refine sq ?_
     have e:iY x f az day=0:=by unfold iY;rw[jx,if_neg (by omega),ak,fq,HC,ak,cj Gv,Po,Bool.true_and,if_pos (by simpa using hb)]
     repeat refine sq ?_
     refine rx hΓ [8] [] (fun K' hK=>by simp only[go_sem,jx,nw,fq,ai hq,bI,ak,an,List.length_map];exact aq) ?_
     refine aB ?_
     simp only[go_sem]
     rw[e]
    ·repeat refine sq ?_
     have e:iY x f az day=x.l.rs[q].bo:=by unfold iY;rw[jx,if_neg (by omega),ak,fq,HC,ak,cj Gv,Po,Bool.true_and,if_neg (by simpa using hb)]
     refine aF ?_
     repeat refine sq ?_
     refine rx hΓ [8] [] (fun K' hK=>by simp only[go_sem,jx,nw,fq,ai hq,bI,ak,an,List.length_map];exact aq) ?_
     refine aB ?_
     simp only[go_sem]
     rw[e]
end
noncomputable section
def K64:List (Nat×Spec):=[]
attribute [go_sem] K64
end
theorem qQ{α:Type}{fR:α->Bool}{num:α->Int}{l:List α}:jI fR num l=true↔(∀ x∈l,fR x=true)/\l.Pairwise (fun a b=>num a<num b):=by
 rw[jH]
 constructor
 ·intro h
  refine⟨fun x hx=>?_,?_⟩
  ·obtain⟨j,hj,rfl⟩:=List.getElem_of_mem hx
   exact(h j hj hj).1
  ·rw[List.pairwise_iff_getElem]
   exact fun i j hi hj bJ=>sZ h i j hi hj bJ
 ·rintro⟨h1,h2⟩ j hj _
  refine⟨h1 _ (List.getElem_mem hj),fun h0=>?_⟩
  rw[List.pairwise_iff_getElem]at h2
  exact h2 (j-1) j (by omega) hj (by omega)
structure R5 where
 (a b c d e:Int)
 deriving Inhabited
structure R7 where
 (a b c d e f g:Int)
 deriving Inhabited
structure Raw where
 rs:List R5
 ts:List R7
 ss:List R5
 deriving Inhabited
def mps:List Pap:=[⟨1,4⟩,⟨2,3⟩,⟨5,2⟩]
def bH(n:Int):Pap:=mps.getD (aP n 3).toNat default
def r5(l:List R5)(i:Nat):R5:=l.getD i default
def r7(l:List R7)(i:Nat):R7:=l.getD i default
def eC(r:Raw):Nat->Int
 | 0=>0
 |i+1=>eC r i+aP (r5 r.rs i).d 20
def gy(r:Raw)(i:Nat):Rec:=⟨3*i+1,1+aP (r5 r.rs i).a 4,(bH (r5 r.rs i).b).id,jG (r5 r.rs i).c (bH (r5 r.rs i).b).lv,eC r (i+1),eC r (i+1)+aP (r5 r.rs i).e 5,0⟩
def fm(r:Raw)(m:Nat):List Rec:=(List.range m).map (gy r)
def nR(r:Raw):Nat:=min r.rs.length 8
def xT(r:Raw)(j:Nat):Rec:=(fm r (nR r)).getD (aP (r7 r.ts j).a (nR r)).toNat zeroR
def dF(r:Raw)(j:Nat):Int:=(xT r j).da+aP (r7 r.ts j).c 30
def tM(r:Raw)(j:Nat):Ret:=⟨3*j+2,(xT r j).so,1+aP (r7 r.ts j).g 4,jG (r7 r.ts j).b (bT mps (xT r j).pa),bO 0 (dF r j-aP (r7 r.ts j).d 12),dF r j+aP (r7 r.ts j).e 12,dF r j+aP (r7 r.ts j).e 12+aP (r7 r.ts j).f 9,0⟩
def nT(r:Raw):Nat:=if nR r=0 then 0 else min r.ts.length 8
def jM(r:Raw)(m:Nat):List Ret:=(List.range m).map (tM r)
def fx(r:Raw)(m:Nat):List Int:=(List.range m).map (dF r)
def fV(r:Raw)(ss:List Sig):Led:=⟨mps,fm r (nR r),jM r (nT r),ss⟩
def lV(r:Raw)(j:Nat):Int:=aP (r5 r.ss j).d (eC r (nR r)+20)
def ph(r:Raw)(j:Nat):Int:=1+aP (r5 r.ss j).c (bH (r5 r.ss j).b).lv
def pg(r:Raw)(j:Nat)(ss:List Sig):Int:=if (aP (r5 r.ss j).e 4 != 3)=true then iY (aY (fV r ss) 900) ⟨(bH (r5 r.ss j).b).id,ph r j⟩ (fx r (nT r)) (lV r j)else aP (r5 r.ss j).a 5
def vC(r:Raw)(j:Nat)(ss:List Sig):Sig:=⟨3*j+3,pg r j ss,(bH (r5 r.ss j).b).id,ph r j,lV r j,lV r j+aP (r5 r.ss j).e 30,0⟩
def dN(r:Raw):Nat->List Sig
 | 0=>[]
 |j+1=>dN r j++[vC r j (dN r j)]
def nS(r:Raw):Nat:=min r.ss.length 6
def jn(r:Raw):Led:=fV r (dN r (nS r))
theorem rJ(n:Int):bH n∈mps:=by
 have h:=cY (n:=n) (m:=3) (by decide)
 unfold bH
 have hl:(aP n 3).toNat<mps.length:=by show _<3;omega
 rw[cj hl]
 exact List.getElem_mem hl
theorem qe{p:Pap}(h:p∈mps):bT mps p.id=p.lv/\2<=p.lv/\p.lv<=4/\1<=p.id/\p.id<=5:=by
 unfold mps at h
 simp only[List.mem_cons,List.not_mem_nil,or_false]at h
 rcases h with rfl | rfl | rfl<;>decide
theorem CP(n:Int):∀ m,∀ x∈gf n m,1<=x/\x<=m
 | 0,x,h=>nomatch h
 |m+1,x,h=>by
  rw[gf]at h
  split at h
  ·rcases List.mem_append.1 h with h | h
   ·have:=CP n m x h;omega
   ·simp only[List.mem_singleton]at h;omega
  ·have:=CP n m x h;omega
theorem Ii(n:Int):∀ m,(gf n m).Pairwise (· < ·)
 | 0=>List.Pairwise.nil
 |m+1=>by
  rw[gf]
  split
  ·rw[List.pairwise_append]
   refine⟨Ii n m,List.pairwise_singleton _ _,fun a ha b hb=>?_⟩
   have :=CP n m a ha
   simp only[List.mem_singleton]at hb
   omega
  ·exact Ii n m
theorem Mi{l:List Int}{m:Int}(h0:l≠[])(hp:l.Pairwise (· < ·))(hm:∀ x∈l,1<=x/\x<=m)(Qf:m<=30):lg l=true:=by
 have cQ:0<l.length:=List.length_pos_iff.2 h0
 have ae:l.length-1<l.length:=by omega
 have h1:=hm _ (List.getElem_mem cQ)
 have h2:=hm _ (List.getElem_mem ae)
 unfold lg bL
 rw[cj cQ,cj ae]
 simp only[Bool.and_eq_true,decide_eq_true_eq]
 refine⟨⟨⟨cQ,?_⟩,by omega⟩,by omega⟩
 rw[AA]
 intro j hj cK
 rw[List.pairwise_iff_getElem]at hp
 exact hp (j-1) j (by omega) hj (by omega)
theorem RN(n:Int){m:Int}(h1:1<=m)(h2:m<=30):lg (jG n m)=true/\∀ x∈jG n m,1<=x/\x<=m:=by
 unfold jG
 split
 ·refine⟨Mi (m:=1) (by simp) (List.pairwise_singleton _ _) (fun x hx=>?_) (by decide),fun x hx=>?_⟩
  ·simp only[List.mem_singleton]at hx;omega
  ·simp only[List.mem_singleton]at hx;omega
 ·rename_i h0
  have hm:∀ x∈gf n m.toNat,1<=x/\x<=m:=fun x hx=>by have:=CP n _ x hx;omega
  exact⟨Mi h0 (Ii n _) hm h2,hm⟩
theorem zu(r:Raw):∀ i,0<=eC r i/\eC r i<=20*i
 | 0=>by exact⟨Int.le_refl _,Int.le_refl _⟩
 |i+1=>by
  have :=zu r i
  have h:=cY (n:=(r5 r.rs i).d) (m:=20) (by decide)
  rw[eC]
  omega
theorem eU{n lo hi:Int}(h1:lo<=n)(h2:n<=hi):bL n lo hi=true:=by
 unfold bL
 rw[decide_eq_true h1,decide_eq_true h2];rfl
theorem Ag{k:Int}(h1:0<=k)(h2:k<=100000):kV k 0=true:=by
 unfold kV dayB
 rw[eU h1 h2];rfl
theorem sV(r:Raw){i:Nat}(hi:i<8):dP (gy r i)=true/\ql (gy r i).lv<=bT mps (gy r i).pa/\(gy r i).da<=160/\(gy r i).bo<=4/\1<=(gy r i).bo/\0<=(gy r i).da/\2<=bT mps (gy r i).pa/\bT mps (gy r i).pa<=4:=by
 obtain⟨e,l1,l2,p1,p2⟩:=qe (rJ (r5 r.rs i).b)
 obtain⟨b1,b2⟩:=RN (r5 r.rs i).c (m:=(bH (r5 r.rs i).b).lv) (by omega) (by omega)
 have h4:=cY (n:=(r5 r.rs i).a) (m:=4) (by decide)
 have h5:=cY (n:=(r5 r.rs i).e) (m:=5) (by decide)
 have hd:=zu r (i+1)
 have aa4:ql (gy r i).lv<=(bH (r5 r.rs i).b).lv:=by
  show ql (jG _ _)<=_
  unfold ql
  have hb:=b1
  unfold lg at hb
  simp only[Bool.and_eq_true,decide_eq_true_eq]at hb
  have ae:(jG (r5 r.rs i).c (bH (r5 r.rs i).b).lv).length-1<(jG (r5 r.rs i).c (bH (r5 r.rs i).b).lv).length:=by omega
  rw[cj ae]
  exact(b2 _ (List.getElem_mem ae)).2
 refine⟨?_,by show _<=bT mps (bH _).id;rw[e];exact aa4,?_,?_,?_,hd.1,by show _<=bT mps (bH _).id;omega,by show bT mps (bH _).id<=_;omega⟩
 ·have ht:kV (eC r (i+1)+aP (r5 r.rs i).e 5) 0=true:=Ag (by omega) (by omega)
  have hb:dP (gy r i)=(bL (3*(i:Int)+1) 1 99999&&bL (1+aP (r5 r.rs i).a 4) 1 99&&bL (bH (r5 r.rs i).b).id 1 999&&lg (jG (r5 r.rs i).c (bH (r5 r.rs i).b).lv)&&dayB (eC r (i+1))&&kV (eC r (i+1)+aP (r5 r.rs i).e 5) 0):=rfl
  rw[hb,ht,b1,eU (by omega) (by omega),eU (by omega) (by omega),eU (by omega) (by omega)]
  unfold dayB
  rw[eU (by omega) (by omega)]
  rfl
 ·show eC r (i+1)<=160;omega
 ·show 1+aP _ 4<=4;omega
 ·show 1<=1+aP _ 4;omega
theorem jm(r:Raw)(m:Nat):(fm r m).length=m:=by unfold fm;simp
theorem Ea{r:Raw}{m i:Nat}(h:i<(fm r m).length):(fm r m)[i]=gy r i:=by
 have e:(fm r m)[i]=gy r ((List.range m)[i]'(by simpa[fm]using h)):=List.getElem_map (gy r) (h:=h)
 rw[e,List.getElem_range]
theorem pq(r:Raw):nR r<=8:=Nat.min_le_right _ _
theorem I8{r:Raw}(h:nR r≠0)(j:Nat):∃ i,i<nR r/\xT r j=gy r i:=by
 have hm:=cY (n:=(r7 r.ts j).a) (m:=(nR r:Int)) (by omega)
 refine⟨(aP (r7 r.ts j).a (nR r)).toNat,by omega,?_⟩
 unfold xT
 rw[cj (by rw[jm];omega),Ea]
theorem Am{r:Raw}(h:nR r≠0){j:Nat}(hj:j<8):jQ (tM r j)=true/\0<=dF r j/\dF r j<=200:=by
 obtain⟨i,hi,e⟩:=I8 h j
 have h8:=pq r
 obtain⟨c1,-,c3,-,-,c6,c7,c8⟩:=sV r (show i<8 by omega)
 have ll:(xT r j).so=3*(i:Int)+1:=by rw[e];rfl
 have E7:=cY (n:=(r7 r.ts j).c) (m:=30) (by decide)
 have m4:=cY (n:=(r7 r.ts j).g) (m:=4) (by decide)
 have L0:=cY (n:=(r7 r.ts j).d) (m:=12) (by decide)
 have LZ:=cY (n:=(r7 r.ts j).e) (m:=12) (by decide)
 have m9:=cY (n:=(r7 r.ts j).f) (m:=9) (by decide)
 have ay:dF r j=(gy r i).da+aP (r7 r.ts j).c 30:=by unfold dF;rw[e]
 obtain⟨b1,-⟩:=RN (r7 r.ts j).b (m:=bT mps (xT r j).pa) (by rw[e];omega) (by rw[e];omega)
 have ir:0<=bO 0 (dF r j-aP (r7 r.ts j).d 12)/\bO 0 (dF r j-aP (r7 r.ts j).d 12)<=dF r j:=by unfold bO;split<;>omega
 refine⟨?_,by omega,by omega⟩
 have hb:jQ (tM r j)=(bL (3*(j:Int)+2) 1 99999&&bL (xT r j).so 1 99999&&bL (1+aP (r7 r.ts j).g 4) 1 99&&lg (jG (r7 r.ts j).b (bT mps (xT r j).pa))&&bL (bO 0 (dF r j-aP (r7 r.ts j).d 12)) 0 (dF r j+aP (r7 r.ts j).e 12)&&dayB (dF r j+aP (r7 r.ts j).e 12)&&kV (dF r j+aP (r7 r.ts j).e 12+aP (r7 r.ts j).f 9) 0):=rfl
 rw[hb,b1,Ag (by omega) (by omega),eU (by omega) (by omega),eU (by omega) (by omega),eU (by omega) (by omega),eU (by omega) (by omega)]
 unfold dayB
 rw[eU (by omega) (by omega)]
 rfl
theorem ta(r:Raw):nT r<=8:=by unfold nT;split<;>omega
theorem A4{r:Raw}{j:Nat}(h:j<nT r):nR r≠0:=by
 intro h0
 unfold nT at h
 rw[if_pos h0]at h
 omega
theorem Tq{r:Raw}{ss:List Sig}(f:Fol)(az:List Int)(day:Int):0<=iY (aY (fV r ss) 900) f az day/\iY (aY (fV r ss) 900) f az day<=4:=by
 have zb:∀ q:Nat,0<=(av (fV r ss) q).bo/\(av (fV r ss) q).bo<=4:=fun q=>by
  by_cases hq:q<(fV r ss).rs.length
  ·rw[cT hq]
   have e:(fV r ss).rs[q]=gy r q:=Ea hq
   have hl:(fV r ss).rs.length=nR r:=jm _ _
   have h8:=pq r
   rw[e]
   obtain⟨-,-,-,c4,c5,-⟩:=sV r (show q<8 by omega)
   omega
  ·have:av (fV r ss) q=zeroR:=by
     unfold av
     rw[List.getD_eq_getElem?_getD,List.getElem?_eq_none (by omega)];rfl
   rw[this]
   decide
 unfold iY
 split
 ·decide
 ·split
  ·decide
  ·exact zb _
theorem T9(r:Raw){j:Nat}(hj:j<6)(ss:List Sig):iE (vC r j ss)=true/\(vC r j ss).le<=bT mps (vC r j ss).pa:=by
 obtain⟨e,l1,l2,p1,p2⟩:=qe (rJ (r5 r.ss j).b)
 have ml:=cY (n:=(r5 r.ss j).c) (m:=(bH (r5 r.ss j).b).lv) (by omega)
 have hd:=zu r (nR r)
 have h8:=pq r
 have md:=cY (n:=(r5 r.ss j).d) (m:=eC r (nR r)+20) (by omega)
 have E7:=cY (n:=(r5 r.ss j).e) (m:=30) (by decide)
 have m5:=cY (n:=(r5 r.ss j).a) (m:=5) (by decide)
 have bM:0<=pg r j ss/\pg r j ss<=4:=by
  unfold pg
  split
  ·exact Tq _ _ _
  ·omega
 have i6:ph r j=1+aP (r5 r.ss j).c (bH (r5 r.ss j).b).lv:=rfl
 have rV:lV r j=aP (r5 r.ss j).d (eC r (nR r)+20):=rfl
 refine⟨?_,?_⟩
 ·have hb:iE (vC r j ss)=(bL (3*(j:Int)+3) 1 99999&&bL (pg r j ss) 0 99&&bL (bH (r5 r.ss j).b).id 1 999&&bL (ph r j) 1 30&&dayB (lV r j)&&kV (lV r j+aP (r5 r.ss j).e 30) 0):=rfl
  rw[hb,Ag (by omega) (by omega),eU (by omega) (by omega),eU (by omega) (by omega),eU (by omega) (by omega),eU (by omega) (by omega)]
  unfold dayB
  rw[eU (by omega) (by omega)]
  rfl
 ·show ph r j<=bT mps (bH (r5 r.ss j).b).id
  rw[e];omega
theorem DO(r:Raw):∀ s,(dN r s).length=s
 | 0=>rfl
 |s+1=>by rw[dN,List.length_append,DO];rfl
theorem An(r:Raw):∀ s,s<=6->(∀ x∈dN r s,(iE x=true/\x.le<=bT mps x.pa)/\∃ j:Nat,j<s/\x.so=3*(j:Int)+3)/\(dN r s).Pairwise (fun a b=>a.so<b.so)
 | 0,_=>⟨fun x h=>(nomatch h),List.Pairwise.nil⟩
 |s+1,hs=>by
  obtain⟨h1,h2⟩:=An r s (by omega)
  rw[dN]
  refine⟨fun x hx=>?_,?_⟩
  ·rcases List.mem_append.1 hx with hx | hx
   ·obtain⟨a,j,hj,b⟩:=h1 x hx
    exact⟨a,j,by omega,b⟩
   ·simp only[List.mem_singleton]at hx
    subst hx
    exact⟨T9 r (by omega) _,s,by omega,rfl⟩
  ·rw[List.pairwise_append]
   refine⟨h2,List.pairwise_singleton _ _,fun a ha b hb=>?_⟩
   obtain⟨-,j,hj,e⟩:=h1 a ha
   simp only[List.mem_singleton]at hb
   subst hb
   show a.so<3*(s:Int)+3
   omega
theorem LW(r:Raw){s:Nat}(hs:s<=6):bw (fV r (dN r s)) where
 ps:=by
  rw[qQ]
  show (∀ x∈mps,pj x=true)/\mps.Pairwise (fun a b=>a.id<b.id)
  exact⟨by decide,by decide⟩
 psn:=by show 3<=12;decide
 rs:=by
  have h8:=pq r
  rw[qQ]
  refine⟨fun x hx=>?_,?_⟩
  ·obtain⟨i,hi,rfl⟩:=List.mem_map.1 hx
   have bP:i<nR r:=List.mem_range.1 hi
   exact(sV r (by omega)).1
  ·show (fm r (nR r)).Pairwise _
   unfold fm
   rw[List.pairwise_map]
   refine List.pairwise_lt_range.imp fun {a b} qB=>?_
   show 3*(a:Int)+1<3*(b:Int)+1
   omega
 rsn:=by have:=pq r;show (fm r (nR r)).length<=60;rw[jm];omega
 ts:=by
  have h8:=ta r
  rw[qQ]
  refine⟨fun x hx=>?_,?_⟩
  ·obtain⟨i,hi,rfl⟩:=List.mem_map.1 hx
   have bP:i<nT r:=List.mem_range.1 hi
   exact(Am (A4 bP) (by omega)).1
  ·show (jM r (nT r)).Pairwise _
   unfold jM
   rw[List.pairwise_map]
   refine List.pairwise_lt_range.imp fun {a b} qB=>?_
   show 3*(a:Int)+2<3*(b:Int)+2
   omega
 tsn:=by have:=ta r;show ((List.range (nT r)).map _).length<=60;rw[List.length_map,List.length_range];omega
 ss:=by
  obtain⟨h1,h2⟩:=An r s hs
  rw[qQ]
  exact⟨fun x hx=>(h1 x hx).1.1,h2⟩
 ssn:=by show (dN r s).length<=60;rw[DO];omega
 rl:=fun j hj=>by
  have e:(fV r (dN r s)).rs[j]=gy r j:=Ea hj
  have hl:(fV r (dN r s)).rs.length=nR r:=jm _ _
  have h8:=pq r
  rw[e]
  exact(sV r (by omega)).2.1
 sl:=fun j hj=>by
  obtain⟨h1,-⟩:=An r s hs
  exact(h1 _ (List.getElem_mem hj)).1.2
 nd:=by
  obtain⟨h1,h2⟩:=An r s hs
  unfold lT
  rw[List.nodup_append,List.nodup_append]
  have m1:∀ x∈(fV r (dN r s)).rs.map Rec.so,∃ i:Nat,x=3*(i:Int)+1:=fun x hx=>by
   obtain⟨y,hy,rfl⟩:=List.mem_map.1 hx
   obtain⟨i,-,rfl⟩:=List.mem_map.1 hy
   exact⟨i,rfl⟩
  have m2:∀ x∈(fV r (dN r s)).ts.map Ret.so,∃ i:Nat,x=3*(i:Int)+2:=fun x hx=>by
   obtain⟨y,hy,rfl⟩:=List.mem_map.1 hx
   obtain⟨i,-,rfl⟩:=List.mem_map.1 hy
   exact⟨i,rfl⟩
  have m3:∀ x∈(fV r (dN r s)).ss.map Sig.so,∃ i:Nat,x=3*(i:Int)+3:=fun x hx=>by
   obtain⟨y,hy,rfl⟩:=List.mem_map.1 hx
   obtain⟨-,j,-,e⟩:=h1 y hy
   exact⟨j,e⟩
  have n1:((fV r (dN r s)).rs.map Rec.so).Nodup:=by
   show ((fm r (nR r)).map Rec.so).Nodup
   unfold fm
   rw[List.map_map,List.nodup_iff_pairwise_ne,List.pairwise_map]
   refine List.pairwise_lt_range.imp fun {a b} qB=>?_
   show 3*(a:Int)+1≠3*(b:Int)+1
   omega
  have n2:((fV r (dN r s)).ts.map Ret.so).Nodup:=by
   show ((jM r (nT r)).map Ret.so).Nodup
   unfold jM
   rw[List.map_map,List.nodup_iff_pairwise_ne,List.pairwise_map]
   refine List.pairwise_lt_range.imp fun {a b} qB=>?_
   show 3*(a:Int)+2≠3*(b:Int)+2
   omega
  have n3:((fV r (dN r s)).ss.map Sig.so).Nodup:=by
   show ((dN r s).map Sig.so).Nodup
   rw[List.nodup_iff_pairwise_ne,List.pairwise_map]
   exact h2.imp fun {a b} qB=>by omega
  refine⟨⟨n1,n2,fun a ha b hb=>?_⟩,n3,fun a ha b hb=>?_⟩
  ·obtain⟨i,rfl⟩:=m1 a ha
   obtain⟨j,rfl⟩:=m2 b hb
   omega
  ·obtain⟨j,rfl⟩:=m3 b hb
   rcases List.mem_append.1 ha with ha | ha
   ·obtain⟨i,rfl⟩:=m1 a ha;omega
   ·obtain⟨i,rfl⟩:=m2 a ha;omega
def Oh:V->Bool
 | .int _ _=>true
 |_=>false
def Bo(l:List V):Bool:=l.all fun x=>x.cells.all Oh
def oq(obj:Name->Option O):D->V
 | .v x=>x
 | .msl nm _=>match obj nm with
   |some (.arr _ l)=>.sl l
   |_=>default
 |_=>default
def ow(obj:Name->Option O):D->Bool
 | .v _=>true
 | .msl nm k=>match obj nm with
   |some (.arr _ l)=>decide (k=l.length)&&Bo l
   |_=>false
 |_=>false
def A2:D->List Name
 | .msl nm _=>[nm]
 |_=>[]
def jR(obj:Name->Option O):D->V
 | .agg l=>.agg (l.map (oq obj))
 |d=>oq obj d
def qa(obj:Name->Option O):D->Bool
 | .agg l=>l.all (ow obj)
 |d=>ow obj d
def LG:D->List Name
 | .agg l=>l.flatMap A2
 |d=>A2 d
def ado:V->Bool
 | .bool _=>true
 |_=>false
def PSpec.toSpecU(s:PSpec):Spec:=
 ⟨fun obj _ ds=>⟨(∀ d∈ds,qa obj d=true)/\s.pre (ds.map (jR obj)),.v (s.fn (ds.map (jR obj))),obj⟩,fun _ _ ds=>ds.flatMap LG,fun _ _ _=>[]⟩
theorem mR{obj obj2:Name->Option O}{d:D}(h:bX (A2 d) obj obj2):oq obj2 d=oq obj d/\ow obj2 d=ow obj d:=by
 cases d<;>try exact⟨rfl,rfl⟩
 rename_i nm k
 have :=h nm (by simp[A2])
 simp only[oq,ow,this,and_self]
theorem Wf{obj obj2:Name->Option O}{d:D}(h:bX (LG d) obj obj2):jR obj2 d=jR obj d/\qa obj2 d=qa obj d:=by
 cases d with
 |agg l=>
  have hx:∀ x∈l,oq obj2 x=oq obj x/\ow obj2 x=ow obj x:=fun x hx=>mR fun nm hn=>h nm (List.mem_flatMap.2 ⟨x,hx,hn⟩)
  simp only[jR,qa]
  refine⟨congrArg V.agg (List.map_congr_left fun x h=>(hx x h).1),?_⟩
  rw[Bool.eq_iff_iff,List.all_eq_true,List.all_eq_true]
  exact⟨fun k x h=>(hx x h).2▸k x h,fun k x h=>(hx x h).2.symm▸k x h⟩
 |v x=>exact mR (d:=.v x) h
 |nilsl=>exact mR (d:=.nilsl) h
 |nilmap=>exact mR (d:=.nilmap) h
 |ref a b=>exact mR (d:=.ref a b) h
 |msl a b=>exact mR (d:=.msl a b) h
 |aref a b c e=>exact mR (d:=.aref a b c e) h
 |map a=>exact mR (d:=.map a) h
 |yld a=>exact mR (d:=.yld a) h
 |clo a b c=>exact mR (d:=.clo a b c) h
 |tup a=>exact mR (d:=.tup a) h
 |any=>exact mR (d:=.any) h
theorem PSpec.nearU(s:PSpec):s.toSpecU.Near:=by
 refine⟨fun obj obj2 t ds h=>?_,fun obj obj2 t ds h=>rfl,fun obj t ds nm hn=>(nomatch hn),fun obj obj2 t ds h=>rfl⟩
 have hx:∀ x∈ds,jR obj2 x=jR obj x/\qa obj2 x=qa obj x:=fun x hx=>Wf fun nm hn=>h nm (List.mem_flatMap.2 ⟨x,hx,hn⟩)
 have e:ds.map (jR obj2)=ds.map (jR obj):=List.map_congr_left fun x h=>(hx x h).1
 refine b8.same ?_ (by simp only[PSpec.toSpecU,e]) rfl rfl
 simp only[PSpec.toSpecU,e]
 exact congrArg (· /\_) (propext ⟨fun k x h=>(hx x h).2▸k x h,fun k x h=>(hx x h).2.symm▸k x h⟩)
noncomputable def oz(m:Mem)(w:World):Mem:=fun b off=>match m b off with
 |some v=>some v
 |none=>match w.cell? ⟨b,off,none⟩with
  |some (.int k n)=>some (.int k n)
  |_=>none
theorem FC(m:Mem)(w:World):Mem.le m (oz m w):=fun b off v h=>by simp only[oz,h]
theorem Og{m:Mem}{w:World}{b off:Nat}{v:Value}(h:oz m w b off=some v):m b off=some v\/∃ k n,v=.int k n/\w.cell? ⟨b,off,none⟩=some v:=by
 unfold oz at h
 split at h
 ·rename_i e;cases h;exact .inl e
 ·split at h
  ·rename_i e;cases h;exact .inr ⟨_,_,rfl,e⟩
  ·cases h
theorem aac{m:Mem}{w:World}(hm:∀ b off v,m b off=some v->w.cell? ⟨b,off,none⟩=some v){b off:Nat}{k:IntKind}{n:Int}(h:w.cell? ⟨b,off,none⟩=some (.int k n)):oz m w b off=some (.int k n):=by
 unfold oz
 cases e:m b off with
 |some v=>have:=hm _ _ _ e;rw[h]at this;simpa using this.symm
 |none=>simp only[h]
theorem lX{G:Ghost}{φ:Name->Loc}{m:Mem}{σ:S}{a:Act}{w:World}(hC:aV G φ m σ a w){d:D}{u:Value}(hd:aI φ σ.obj m d u)(aa:ow σ.obj d=true):
 aU (oz m w) (oq σ.obj d) u/\(d.one=true->(oq σ.obj d).one=true):=by
 cases hd with
 |v x u h=>exact⟨h.mono (FC m w),id⟩
 |msl nm k u hx hu=>
  obtain⟨o,n,aD,hlen,hk,cV⟩:=hx
  cases o with
  |arr sz l=>
   simp only[ow,aD,Bool.and_eq_true,decide_eq_true_eq]at aa
   simp only[oq,aD]
   refine⟨?_,fun _=>rfl⟩
   simp only[O.len?,Option.some.injEq]at hlen
   subst hlen
   obtain⟨t',hint⟩:=aa
   have e:=cV t'
   subst e
   rcases hC.objs nm _ aD with⟨h,h'⟩ | ⟨h0,h1,h2,h3,h4,us,T,f,h5,h6,h7,h8⟩
   ·subst h'
    simp only[Loc.slice,h,if_true]
    exact .slnil _ _
   ·simp only[Loc.slice,h0,Bool.false_eq_true,if_false]
    rw[t']
    by_cases hl:l=[]
    ·subst hl;exact .slnil _ _
    ·have key:∀ i j (hi:i<l.length) (hj:j<(l[i].cells).length),∃ c,oz m w (φ nm).blk ((φ nm).off+i*sz+j)=some c/\us[(φ nm).off+i*sz+j]?=some c/\aU m (l[i].cells)[j] c:=by
       intro i j hi hj
       obtain⟨c,x,y⟩:=h8 i j hi hj
       refine⟨c,?_,x,y⟩
       have hc:Oh (l[i].cells)[j]=true:=by
        unfold Bo at hint
        rw[List.all_eq_true]at hint
        have :=hint _ (List.getElem_mem hi)
        rw[List.all_eq_true]at this
        exact this _ (List.getElem_mem hj)
       have hw:w.cell? ⟨(φ nm).blk,(φ nm).off+i*sz+j,none⟩=some c:=by
        unfold World.cell?
        simp only[h5]
        exact x
       cases hv:(l[i].cells)[j]<;>rw[hv]at hc y<;>first | (cases hc;done) | skip
       cases y
       exact aac hC.mem hw
     refine .sl l _ _ _ sz (fun i j=>(us[(φ nm).off+i*sz+j]?).getD undef) hl (by omega) h1 h3 (fun i j hi hj=>?_) (fun i j hi hj=>?_) h4
     ·obtain⟨c,x,y,_⟩:=key i j hi (by rw[h3];exact hj)
      rw[x,y];rfl
     ·obtain⟨c,_,y,z⟩:=key i j hi hj
      rw[y];exact z.mono (FC m w)
  |_=>simp[ow,aD]at aa
 |_=>cases aa
theorem We{G:Ghost}{φ:Name->Loc}{m:Mem}{σ:S}{a:Act}{w:World}(hC:aV G φ m σ a w){d:D}{u:Value}(hd:aI φ σ.obj m d u)(aa:qa σ.obj d=true):
 aU (oz m w) (jR σ.obj d) u:=by
 cases d with
 |agg l=>
  cases hd with
  |agg _ us h ho hr=>
   simp only[qa,List.all_eq_true]at aa
   simp only[jR]
   refine .agg _ us (by simpa using h) (fun x hx=>?_) fun i hi bP=>?_
   ·obtain⟨d,hd,rfl⟩:=List.mem_map.1 hx
    obtain⟨j,hj,rfl⟩:=List.getElem_of_mem hd
    exact(lX hC (hr j hj (by omega)) (aa _ (List.getElem_mem hj))).2 (ho _ (List.getElem_mem hj))
   ·simp only[List.length_map]at hi
    rw[List.getElem_map]
    exact(lX hC (hr i hi bP) (aa _ (List.getElem_mem hi))).1
 |v x=>exact(lX (d:=.v x) hC hd aa).1
 |nilsl=>exact(lX (d:=.nilsl) hC hd aa).1
 |nilmap=>exact(lX (d:=.nilmap) hC hd aa).1
 |ref a b=>exact(lX (d:=.ref a b) hC hd aa).1
 |msl a b=>exact(lX (d:=.msl a b) hC hd aa).1
 |aref a b c e=>exact(lX (d:=.aref a b c e) hC hd aa).1
 |map a=>exact(lX (d:=.map a) hC hd aa).1
 |yld a=>exact(lX (d:=.yld a) hC hd aa).1
 |clo a b c=>exact(lX (d:=.clo a b c) hC hd aa).1
 |tup a=>exact(lX (d:=.tup a) hC hd aa).1
 |any=>exact(lX (d:=.any) hC hd aa).1
theorem aZ.soundU{P:Program}{f:FuncId}{s:PSpec}(h:aZ P f s)(hb:∀ xs,s.pre xs->∃ l,s.fn xs=.sl l/\l.all ado=true):aT P f s.toSpecU:=by
 obtain⟨hy,mo,_,uv⟩:=h
 refine⟨s.nearU,fun _=>mo,fun _ G φ m σ a w hC t ds us _ hl hr aa=>?_,fun e=>(hy e).elim⟩
 obtain⟨yE,rZ⟩:=aa
 have jv:∀ b off v,oz m w b off=some v->w.cell? ⟨b,off,none⟩=some v:=fun b off v h=>by
  rcases Og h with h | ⟨_,_,_,h⟩
  ·exact hC.mem _ _ _ h
  ·exact h
 refine(uv (oz m w) w (ds.map (jR σ.obj)) us jv ⟨by simpa using hl,fun i h h'=>?_⟩ rZ).mono ?_
 ·simp only[List.length_map]at h
  rw[List.getElem_map,Array.getElem_toList]
  exact We hC (hr i h (by simpa using h')) (yE _ (List.getElem_mem h))
 rintro e w' ⟨v,m',rfl,zc,hm,hn,hv⟩
 obtain⟨l,gE,eM⟩:=hb _ rZ
 let m2:Mem:=fun b off=>if w.heap.size<=b then m' b off else m b off
 have hle:Mem.le m m2:=fun b off v h=>by
  show (if w.heap.size<=b then m' b off else m b off)=some v
  split
  ·exact hm _ _ _ (FC m w _ _ _ h)
  ·exact h
 have tw:aU m2 (s.fn (ds.map (jR σ.obj))) v:=by
  rw[gE]at hv |-
  rw[List.all_eq_true]at eM
  have y8:∀ i (h:i<l.length),l[i].cells=[l[i]]:=fun i h=>by
   have :=eM _ (List.getElem_mem h)
   cases hv:l[i]<;>rw[hv]at this<;>first | (cases this;done) | rfl
  cases hv with
  |slnil a cap=>exact .slnil _ _
  |sl _ b o cap sz c BM tX ka hs hc hr ho=>
   have ef:sz=1:=by
    have h0:0<l.length:=List.length_pos_iff.2 BM
    rw[<-hs 0 h0,y8 0 h0];rfl
   subst ef
   have PW:∀ i (h:i<l.length),∃ x,l[i]=.bool x/\c i 0=.bool x:=fun i h=>by
    have h1:=hr i 0 h (by rw[y8 i h];exact Nat.zero_lt_one)
    have h2:=eM _ (List.getElem_mem h)
    simp only[y8 i h,List.getElem_cons_zero]at h1
    cases hv:l[i]<;>rw[hv]at h2<;>first | (cases h2;done) | skip
    rw[hv]at h1
    generalize za:c i 0=cc at h1
    cases h1
    exact⟨_,rfl,rfl⟩
   refine .sl l b o cap 1 c BM tX ka hs (fun i j hi hj=>?_) (fun i j hi hj=>?_) ho
   ·have cK:j=0:=by omega
    subst cK
    have h1:=hc i 0 hi hj
    show (if w.heap.size<=b then m' b (o+i*1+0)else m b (o+i*1+0))=_
    split
    ·exact h1
    ·rename_i ae
     obtain⟨x,_,hx⟩:=PW i hi
     rcases hn _ _ _ h1 with h2 | ⟨h2,_⟩
     ·rcases Og h2 with h3 | ⟨k,n,h3,_⟩
      ·exact h3
      ·rw[hx]at h3;cases h3
     ·exact(ae h2).elim
   ·obtain⟨x,h1,h2⟩:=PW i hi
    have cK:j=0:=by rw[y8 i hi]at hj;simpa using hj
    subst cK
    simp only[y8 i hi,List.getElem_cons_zero]
    rw[h1,h2]
    exact .bool x
 refine⟨v,φ,m2,rfl,?_,.v _ _ tw,.refl _ _⟩
 simp only[PSpec.toSpecU]
 refine hC.imm hle ⟨zc.os,zc.tape,zc.output,zc.size⟩ zc.block fun b off v h=>?_
 have h':(if w.heap.size<=b then m' b off else m b off)=some v:=h
 split at h'
 ·rename_i bE
  rcases hn _ _ _ h' with h2 | h2
  ·have:=pL (jv _ _ _ h2);omega
  ·exact .inr h2
 ·exact .inl h'
structure Rn (α:Type) where
 m:Nat
 fam:α->List Name->List O
 args:α->List Name->List D
 ok:α->Prop
 val:α->List Name->D
structure Rn.Ok {α:Type} (r:Rn α):Prop where
 len:∀ a Ls,Ls.length=r.m->(r.fam a Ls).length=r.m
 renF:∀ a f Ls,Ls.length=r.m->(r.fam a Ls).map (O.ren f)=r.fam a (Ls.map f)
 renA:∀ a f Ls,Ls.length=r.m->D.renL f (r.args a Ls)=r.args a (Ls.map f)
 reach:∀ a Ls obj,Ls.length=r.m->Ls.Nodup->di obj Ls (r.fam a Ls)->reach obj (r.args a Ls)=Ls
 closF:∀ a dom Ls,Ls.length=r.m->(∀ x∈Ls,dom x=true)->∀ o∈r.fam a Ls,O.clos dom o=true
 closA:∀ a dom Ls,Ls.length=r.m->(∀ x∈Ls,dom x=true)->D.closL dom (r.args a Ls)=true
 det:∀ a b,r.ok a->r.ok b->r.fam a (LR r.m)=r.fam b (LR r.m)->r.args a (LR r.m)=r.args b (LR r.m)->r.val a (LR r.m)=r.val b (LR r.m)
 vcl:∀ a dom Ls,Ls.length=r.m->(∀ x∈Ls,dom x=true)->D.clos dom (r.val a Ls)=true
 vren:∀ a f Ls,Ls.length=r.m->(r.val a Ls).ren f=r.val a (Ls.map f)
variable {α:Type}
noncomputable def Rn.c(r:Rn α):CSpec where
 pre:=fun os ds=>∃ a,r.ok a/\os=r.fam a (LR r.m)/\ds=r.args a (LR r.m)
 out:=fun os ds=>⟨[],[],by classical exact if h:∃ a,r.ok a/\os=r.fam a (LR r.m)/\ds=r.args a (LR r.m)then r.val h.choose (LR r.m)else .any⟩
theorem Rn.c_out{r:Rn α}(hr:r.Ok){a:α}(ha:r.ok a):r.c.out (r.fam a (LR r.m)) (r.args a (LR r.m))=⟨[],[],r.val a (LR r.m)⟩:=by
 have h:∃ b,r.ok b/\r.fam a (LR r.m)=r.fam b (LR r.m)/\r.args a (LR r.m)=r.args b (LR r.m):=⟨a,ha,rfl,rfl⟩
 have e:r.val h.choose (LR r.m)=r.val a (LR r.m):=(hr.det _ _ ha h.choose_spec.1 h.choose_spec.2.1 h.choose_spec.2.2).symm
 simp only[Rn.c]
 rw[dif_pos h,e]
theorem Rn.c_app{r:Rn α}(hr:r.Ok){a:α}(ha:r.ok a){obj:Name->Option O}{t:Name}{Ls:List Name}(hl:Ls.length=r.m)(hn:Ls.Nodup)(hF:di obj Ls (r.fam a Ls)):
 r.c.toSpec.app obj t (r.args a Ls)=⟨True,r.val a Ls,obj⟩:=by
 have kK:=hr.reach a Ls obj hl hn hF
 have uu:Ls.map (cin Ls)=LR r.m:=by rw[CK hn,hl]
 have e1:cS obj (r.args a Ls)=r.fam a (LR r.m):=by
  unfold cS
  rw[kK]
  have oV:=hF
  rw[l3]at oV
  have :Ls.map (cX Ls obj)=(r.fam a Ls).map (O.ren (cin Ls)):=by
   refine List.ext_getElem (by simp[hr.len _ _ hl,hl]) fun i h1 h2=>?_
   have h3:i<Ls.length:=by simpa using h1
   have h4:i<(r.fam a Ls).length:=by rw[hr.len _ _ hl,<-hl];exact h3
   have h5:=congrArg (fun l=>l[i]?) oV
   have h6:obj Ls[i]=some (r.fam a Ls)[i]:=by simpa[h3,h4]using h5
   simp only[List.getElem_map,cX,h6]
  rw[this,hr.renF _ _ _ hl,uu]
 have e2:dr obj (r.args a Ls)=r.args a (LR r.m):=by
  unfold dr
  rw[kK,hr.renA _ _ _ hl,uu]
 have dL:∀ x∈Ls,dj Ls x=true:=fun x hx=>ig.2 hx
 have js:shut obj Ls=true:=by
  unfold shut
  rw[List.all_eq_true]
  intro x hx
  obtain⟨i,hi,rfl⟩:=List.getElem_of_mem hx
  have oV:=hF
  rw[l3]at oV
  have h4:i<(r.fam a Ls).length:=by rw[hr.len _ _ hl,<-hl];exact hi
  have h5:=congrArg (fun l=>l[i]?) oV
  have h6:obj Ls[i]=some (r.fam a Ls)[i]:=by simpa[hi,h4]using h5
  rw[h6]
  exact hr.closF _ _ _ hl dL _ (List.getElem_mem h4)
 have eB:r.c.pre (r.fam a (LR r.m)) (r.args a (LR r.m)):=⟨a,ha,rfl,rfl⟩
 simp only[CSpec.toSpec,e1,e2,kK,Rn.c_out hr ha,js,hr.closA _ _ _ hl dL,fresh,List.all_nil,Bool.and_self,eB,and_self,dQ,cU]
 rw[hr.vren _ _ _ (pQ _)]
 have :(LR r.m).map (cout Ls t)=Ls:=by rw[<-hl];exact Rh Ls t
 rw[this]
def Km(P:Program)(rs:List ResultVar)(v:D)(H:Name->Option O)(e:Exit)(σ:S):Prop:=
 (e=.normal\/e=.ret)/\(cf P σ rs).ok/\(cf P σ rs).d=v/\∀ i,σ.obj [i,1]=H [i,1]
theorem Rn.sound{P:Program}{r:Rn α}(hr:r.Ok){f:FuncId}{fn:Func}{nt:Nat}{rs:List ResultVar}(hf:P.funcs[f]?=some fn)(cM:fn.ntmps=nt)(cg:fn.results.toList=rs)(hn:(fn.name== "runtime.NumGoroutine")=false)(hy:f<1000000000)
 (hw:∃ c,fn.body=some c/\∀ a,r.ok a->(r.args a (LR r.m)).length<=nt/\CL P [c] (bu nt [0] (ba (r.fam a (LR r.m))) (dt 0 (r.args a (LR r.m))) []) (Km P rs (r.val a (LR r.m)) (ba (r.fam a (LR r.m))))):aT P f r.c.toSpec:=by
 obtain⟨c,hc,hw⟩:=hw
 refine pI hf hc cM cg (jb hf hc hn) (Nat.ne_of_lt (show f<yid from hy)) ?_
 rintro os ds ⟨a,ha,rfl,rfl⟩
 obtain⟨hl,h⟩:=hw a ha
 refine⟨hl,?_⟩
 rw[Rn.c_out hr ha]
 refine CW.mono (kg h) ?_
 rintro e σ ⟨he,h1,h2,h3⟩
 have fin:(cf P σ rs).ok/\(cf P σ rs).d=r.val a (LR r.m)/\gZ (r.fam a (LR r.m)) ⟨[],[],r.val a (LR r.m)⟩ σ:=by
  refine⟨h1,h2,EL fun i hi=>?_,trivial,?_⟩
  ·rw[Nat.zero_add,h3]
   show (r.fam a (LR r.m))[i]?=_
   rw[List.getElem?_eq_getElem hi]
  ·have hv:D.clos (dC (r.fam a (LR r.m)).length []) (r.val a (LR r.m))=true:=hr.vcl _ _ _ (pQ _) fun x hx=>by
     obtain⟨i,hi,rfl⟩:=List.mem_map.1 hx
     rw[hr.len _ _ (pQ _)]
     simpa[dC]using hi
   simp[hv,distinct]
 rcases he with rfl | rfl
 ·exact fin
 ·exact fin
theorem Rn.outC{r:Rn α}(hr:r.Ok)(a:α):∀ hs,cG [0] (cv [0] hs) (ba (r.fam a (LR r.m)))=True:=fun hs=>eq_true (p7 (fun o ho dom hd=>hr.closF a dom _ (pQ _) (fun x hx=>by
 obtain⟨i,_,rfl⟩:=List.mem_map.1 hx
 exact hd i) o ho) hs)
noncomputable section
attribute [go_sem] Km
def S71u:Spec:=P71.toSpecU
theorem ZV:aT Tryz.prog 71 S71u:=DX.soundU fun xs hp=>by
 obtain⟨l,hl⟩:∃ l:List Bool,P71.fn xs=.sl (l.map .bool):=by
  match xs,hp with
  |[a,b],_=>exact⟨_,rfl⟩
 refine⟨_,hl,?_⟩
 rw[List.all_eq_true]
 intro x hx
 obtain⟨y,_,rfl⟩:=List.mem_map.1 hx
 rfl
theorem aad(l:List Sig):Bo (l.map encS)=true:=by
 unfold Bo
 rw[List.all_eq_true]
 intro x hx
 obtain⟨y,_,rfl⟩:=List.mem_map.1 hx
 rfl
def Aw(l:Led)(k:Int)(nm:Name):D:=.agg [.v (.sl (l.ps.map cW)),.v (.sl (l.rs.map encR)),.v (.sl (l.ts.map encT)),.msl nm l.ss.length,.v (vInt k),.v (.sl ((br l k l.ts.length).map .bool)),.nilsl]
def kF:Rn (Led×Int) where
 m:=1
 fam:=fun a _=>[.arr 7 (a.1.ss.map encS)]
 args:=fun a Ls=>[.agg [.v (.sl (a.1.ps.map cW)),.v (.sl (a.1.rs.map encR)),.v (.sl (a.1.ts.map encT)),.msl (Ls.getD 0 []) a.1.ss.length],.v (vInt a.2)]
 ok:=fun a=>bw a.1
 val:=fun a Ls=>Aw a.1 a.2 (Ls.getD 0 [])
theorem vW{Ls:List Name}(h:Ls.length=1):∃ a,Ls=[a]:=by
 match Ls,h with
 |[a],_=>exact⟨a,rfl⟩
theorem Fa:kF.Ok where
 len:=fun _ _ h=>by obtain⟨a,rfl⟩:=vW h;rfl
 renF:=fun a f Ls h=>rfl
 renA:=fun a f Ls h=>by obtain⟨a,rfl⟩:=vW h;rfl
 reach:=fun x Ls obj h cz hF=>by
  obtain⟨a,rfl⟩:=vW h
  obtain⟨h1,_⟩:=hF
  have en:dw (kF.args x [a])=[a]:=rfl
  unfold Go.Eng.reach
  rw[en]
  show dW obj (2993+1+1+1+1+1+1+1) _ []=_
  simp[dW,ig,h1,mW]
 closF:=fun x dom Ls h hd o ho=>by
  simp only[kF,List.mem_cons,List.not_mem_nil,or_false]at ho
  subst ho;rfl
 closA:=fun x dom Ls h hd=>by
  obtain⟨a,rfl⟩:=vW h
  have h1:=hd a (by simp)
  simp[kF,D.closL,D.clos,h1]
 det:=fun a b _ _ h1 h2=>by
  obtain⟨⟨p,r,t,s⟩,k⟩:=a
  obtain⟨⟨p2,r2,t2,s2⟩,k2⟩:=b
  simp only[kF,List.cons.injEq,D.agg.injEq,D.v.injEq,V.sl.injEq,O.arr.injEq,and_true,true_and]at h1 h2
  obtain⟨⟨e1,e2,e3,_⟩,e4⟩:=h2
  have e1:=congrArg (List.map sm) e1
  have e2:=congrArg (List.map lJ) e2
  have e3:=congrArg (List.map nB) e3
  have e5:=congrArg (List.map kf) h1
  simp only[QX,Cv,QV,wV]at e1 e2 e3 e5
  have e6:k=k2:=by simpa[vInt]using e4
  subst e1 e2 e3 e5 e6
  rfl
 vcl:=fun x dom Ls h hd=>by
  obtain⟨a,rfl⟩:=vW h
  have h1:=hd a (by simp)
  simp[kF,Aw,D.closL,D.clos,h1]
 vren:=fun x f Ls h=>by obtain⟨a,rfl⟩:=vW h;rfl
def S73m:Spec:=kF.c.toSpec
theorem US(l:Led)(k:Int)(obj:Name->Option O)(t nm:Name)(H:Name->Option O)(dk:obj nm=H nm)(h0:H nm=some (.arr 7 (l.ss.map encS)))(hl:bw l):
 S71u.app obj t [.agg [.v (.sl (l.ps.map cW)),.v (.sl (l.rs.map encR)),.v (.sl (l.ts.map encT)),.msl nm l.ss.length],.v (vInt k)]=⟨True,.v (.sl ((br l k l.ts.length).map .bool)),obj⟩:=by
 have ho:=dk.trans h0
 have e:jR obj (.agg [.v (.sl (l.ps.map cW)),.v (.sl (l.rs.map encR)),.v (.sl (l.ts.map encT)),.msl nm l.ss.length])=fw l:=by
  simp[jR,oq,ho,fw]
 have e2:P71.fn [fw l,vInt k]=.sl ((br l k l.ts.length).map .bool):=by
  simp only[go_sem]
 have e3:P71.pre [fw l,vInt k]:=by
  simp only[go_sem]
  exact hl
 simp only[S71u,PSpec.toSpecU,List.map_cons,List.map_nil,e,show jR obj (.v (vInt k))=vInt k from rfl,e2,R.mk.injEq,and_true,eq_iff_iff,iff_true]
 refine⟨fun d hd=>?_,e3⟩
 simp only[List.mem_cons,List.not_mem_nil,or_false]at hd
 rcases hd with rfl | rfl
 ·simp[qa,ow,ho,aad]
 ·rfl
theorem UT(l:Led)(k:Int)(t:Name){F H:Name->Option O}(h0:H [0,1]=some (.arr 7 (l.ss.map encS)))(hl:bw l):
 S71u.app (fun nm=>if own [0] nm=true then F nm else H nm) t [.agg [.v (.sl (l.ps.map cW)),.v (.sl (l.rs.map encR)),.v (.sl (l.ts.map encT)),.msl [0,1] l.ss.length],.v (vInt k)]=⟨True,.v (.sl ((br l k l.ts.length).map .bool)),fun nm=>if own [0] nm=true then F nm else H nm⟩:=
 US l k _ t [0,1] H rfl h0 hl
def IX:FuncId->Option Spec:=fun f=>if f=71 then some S71u else none
theorem aeI:∀ f s,IX f=some s->aT Tryz.prog f s:=fun f s h=>by
 unfold IX at h
 split at h
 ·rename_i e;cases h;subst e;exact ZV
 ·cases h
@[go_sem] theorem ajn:IX 71=some S71u:=rfl
set_option maxHeartbeats 4000000 in
theorem ZU:aT Tryz.prog 73 S73m:=by
 refine Rn.sound Fa (rs:=[.cell 4 108]) Tryz.func73 Tryz.ntmps73 (by rfl) (by kernel_rfl) (by decide) ⟨_,rfl,?_⟩
 rintro⟨l,k⟩ hp
 refine⟨lb rfl,?_⟩
 have hΓ:=aeI
 have hP:=fE
 have hO:=Rn.outC Fa (l,k)
 have h0:ba (kF.fam (l,k) (LR kF.m)) [0,1]=some (.arr 7 (l.ss.map encS)):=rfl
 generalize ba (kF.fam (l,k) (LR kF.m))=H at *
 have ha:kF.args (l,k) (LR kF.m)=[.agg [.v (.sl (l.ps.map cW)),.v (.sl (l.rs.map encR)),.v (.sl (l.ts.map encT)),.msl [0,1] l.ss.length],.v (vInt k)]:=rfl
 have hv:kF.val (l,k) (LR kF.m)=Aw l k [0,1]:=rfl
 rw[ha,hv]
 simp only[Aw,dt,Nat.zero_add]at h0 |-
 repeat refine sq ?_
 refine rx hΓ [1,2,4] [[2,0],[4,0]] (fun K' hK=>by simp only[go_sem,hO,h0];(repeat (refine⟨au,?_⟩));exact hK _ (by simp only[go_sem,hO,h0]) (by simp only[go_sem,hO,h0]<;>rfl)) ?_
 repeat refine sq ?_
 refine dx hΓ hP [[],[],[],[],[2,3],u5,u6] [4] [[4,0]] (by kernel_rfl) (fun K' hK=>by simp only[go_sem,hO,h0];rw[UT l k _ h0 hp];simp only[go_sem,hO,h0];(repeat (refine⟨au,?_⟩));(first | refine⟨by rfl,?_⟩ | skip);exact hK _ (by simp only[go_sem,hO,h0]) (by simp only[go_sem,hO,h0]<;>rfl)) ?_
 refine aB ?_
 simp only[go_sem,hO,h0]
 exact .inr trivial
theorem UQ{p:List Pap}{rr:List Rec}{tt:List Ret}{ss:List Sig}{k:Int}{n:Nat}{obj:Name->Option O}{t nm:Name}(ho:obj nm=some (.arr 7 (ss.map encS)))(hl:bw ⟨p,rr,tt,ss⟩)(hn:n=ss.length):
 S73m.app obj t [.agg [.v (.sl (p.map cW)),.v (.sl (rr.map encR)),.v (.sl (tt.map encT)),.msl nm n],.v (.int .i64 k)]=
  ⟨True,.agg [.v (.sl (p.map cW)),.v (.sl (rr.map encR)),.v (.sl (tt.map encT)),.msl nm ss.length,.v (.int .i64 k),.v (.sl ((br ⟨p,rr,tt,ss⟩ k tt.length).map .bool)),.nilsl],obj⟩:=by
 subst hn
 exact Rn.c_app Fa (a:=(⟨p,rr,tt,ss⟩,k)) hl (t:=t) (obj:=obj) (Ls:=[nm]) rfl (by simp) ⟨ho,trivial⟩
end
end Go.Eng
