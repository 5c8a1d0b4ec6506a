import Derived.Test.YtepaolcgegdpoaaGreatK6
/- Texts LW26 to LW36. -/
set_option linter.all false
namespace Go.Eng
open Go Go.Proofs
set_option maxHeartbeats 8000000
noncomputable section
theorem Em(l:List Sig)(k:Int):gg (fa (186,k)) l=l.filter fun s=>bI s.kn s.un k:=by
 unfold gg fa
 simp
theorem DC(k:Int):pD (186,k):=.inr rfl
def K26:List (Nat×Spec):=[(132,S132),(91,S91)]
theorem aep:KS K26:=tc Ya<|tc X3<|tn
attribute [go_sem] K26
def QS:VSpec:=v1 iI (fun x _=>x.l.ss.length<=60) (fun x k=>.v (.sl ((fK x.l k).map encS))) none
def S122:Spec:=QS.toSpec
attribute [go_sem] QS S122
theorem Yd:aL Tryz.prog 122 S122:=by
 refine zg (rs:=[.tmp 4]) Tryz.func122 Tryz.ntmps122 (by rfl) (by kernel_rfl) (by decide) (fun _ _=>by first | rfl | simp[D.clos,D.closL,mz]) ⟨_,rfl,lb rfl,fun x k hp H h0 h1 h2 hO ae=>?_⟩
 simp only[iI,bt,dj,List.map_cons,List.map_nil,Nat.zero_add,Option.map_some,Option.map_none]at h0 |-
 have hΓ:=aep
 repeat refine sq ?_
 refine rx hΓ [0,3] [[3,0]] (fun K' hK=>by simp only[go_sem,hO,ae,h0,h1,h2];(repeat (refine⟨an,?_⟩));exact hK _ (by simp only[go_sem,hO,ae,h0,h1,h2]) (by simp only[go_sem,hO,ae,h0,h1,h2]<;>rfl)) ?_
 refine bD (dd 3 (.ref [3,0] 0) (by simp only[go_sem]) (by simp only[go_sem]) [0,3] [[3,0]] ?_ rfl) ?_
 ·simp only[go_sem,hO,ae,h0,h1,h2]
 simp only[go_sem,hO,ae,h0,h1,h2]
 repeat refine sq ?_
 refine rx hΓ [4] [] (fun K' hK=>by simp only[go_sem,hO,ae,h0,h1,h2,vY,Em,DC,List.length_map];(repeat (refine⟨an,?_⟩));exact hK _ (by simp only[go_sem,hO,ae,h0,h1,h2,vY,Em,DC,List.length_map]) (by simp only[go_sem,hO,ae,h0,h1,h2,vY,Em,DC,List.length_map]<;>rfl)) ?_
 refine aA ?_
 simp only[go_sem,hO,ae,h0,h1,h2]
 all_goals exact dV
def Jw(r:Rg):D:=.agg [.v (vInt r.lo),.v (vInt r.hi)]
attribute [go_sem] Jw
def K26b:List (Nat×Spec):=[(119,S119)]
theorem aeo:KS K26b:=tc Eu<|tn
attribute [go_sem] K26b
def CO(s:Sig):Prop:=0<=s.da/\s.da<=100000
theorem bq:nJ none=.agg [.v (vInt 0),.v (vInt 0),.v (vInt 0),.nilsl,.v (vInt 0),.v (vInt 0),.v (vInt 0)]:=rfl
theorem aD(r:Rec):nJ (some r)=gW r:=rfl
def QO:VSpec:=v1 iS (fun x s=>(nA x/\x.rs.Nodup)/\CO s) (fun x s=>.tup [.v (vInt (bp x s).1),Jw (bp x s).2]) none
def S187:Spec:=QO.toSpec
attribute [go_sem] QO S187
theorem X8:aL Tryz.prog 187 S187:=by
 refine zg (rs:=[.tmp 4,.cell 5 38]) Tryz.func187 Tryz.ntmps187 (by rfl) (by kernel_rfl) (by decide) (fun _ _=>by first | rfl | exact ahT _ _ | simp[D.clos,D.closL,mz]) ⟨_,rfl,lb rfl,fun x s hp H h0 h1 h2 hO ae=>?_⟩
 have hP:=eK
 simp only[iS,encS,bt,dj,List.map_cons,List.map_nil,Nat.zero_add,Option.map_some,Option.map_none]at h0 |-
 have hΓ:=aeo
 obtain⟨hv,hd⟩:=hp
 have iw:=zb hd
 repeat refine sq ?_
 refine rx hΓ [0,3,5] [[3,0],[5,0]] (fun K' hK=>by simp only[go_sem,hO,ae,h0,h1,h2];(repeat (refine⟨an,?_⟩));exact hK _ (by simp only[go_sem,hO,ae,h0,h1,h2]) (by simp only[go_sem,hO,ae,h0,h1,h2]<;>rfl)) ?_
 repeat refine sq ?_
 refine rx hΓ [0,3,5,6,7] [[3,0],[5,0],[6,0],[7,0]] (fun K' hK=>by simp only[go_sem,hO,ae,h0,h1,h2];(repeat (refine⟨an,?_⟩));exact hK _ (by simp only[go_sem,hO,ae,h0,h1,h2]) (by simp only[go_sem,hO,ae,h0,h1,h2]<;>rfl)) ?_
 rcases av:eR x.rs s.pa s.le s.da with _ | r
 ·repeat refine sq ?_
  refine rx hΓ [0,3,5,6,7,8,9] [[3,0],[5,0],[6,0],[7,0],[8,0]] (fun K' hK=>by simp only[go_sem,hO,ae,h0,h1,h2,av,bq,Option.isSome_none,ax];(repeat (refine⟨an,?_⟩));exact hK _ (by simp only[go_sem,hO,ae,h0,h1,h2,av,bq,Option.isSome_none,ax]) (by simp only[go_sem,hO,ae,h0,h1,h2,av,bq,Option.isSome_none,ax]<;>rfl)) ?_
  repeat refine sq ?_
  refine dx hΓ hP [[],[0],[0,1],[0,1,2],[],[4],[],[6],[4,5,6,7],u9,ca,dX,dX,eg,il] [3,5,6,7,8,9,10,11] [[3,0],[5,0],[6,0],[7,0],[8,0]] (by kernel_rfl) (fun K' hK=>by simp only[go_sem,hO,ae,h0,h1,h2,av,bq,Option.isSome_none,ax];(repeat (refine⟨an,?_⟩));(first | refine⟨by rfl,?_⟩ | skip);exact hK _ (by simp only[go_sem,hO,ae,h0,h1,h2,av,bq,Option.isSome_none,ax]) (by simp only[go_sem,hO,ae,h0,h1,h2,av,bq,Option.isSome_none,ax]<;>rfl)) ?_
  repeat refine sq ?_
  refine aN ?_
  repeat refine sq ?_
  refine rx hΓ [3,5,6,7,8,9,10,11,39] [[3,0],[5,0],[6,0],[7,0],[8,0]] (fun K' hK=>by simp only[go_sem,hO,ae,h0,h1,h2,av,bq,Option.isSome_none,ax];(repeat (refine⟨an,?_⟩));exact hK _ (by simp only[go_sem,hO,ae,h0,h1,h2,av,bq,Option.isSome_none,ax]) (by simp only[go_sem,hO,ae,h0,h1,h2,av,bq,Option.isSome_none,ax]<;>rfl)) ?_
  repeat refine sq ?_
  refine ay (fun hb=>?_) fun hb=>?_
  ·repeat refine sq ?_
   refine aE ?_
   repeat refine sq ?_
   refine ay (fun hb=>?_) fun hb=>?_
   ·repeat refine sq ?_
    refine dx hΓ hP [[],[],[0,1]] [4,5] [[5,0]] (by kernel_rfl) (fun K' hK=>by simp only[go_sem,hO,ae,h0,h1,h2,av,bq,Option.isSome_none,ax];(repeat (refine⟨an,?_⟩));(first | refine⟨by rfl,?_⟩ | skip);exact hK _ (by simp only[go_sem,hO,ae,h0,h1,h2,av,bq,Option.isSome_none,ax]) (by simp only[go_sem,hO,ae,h0,h1,h2,av,bq,Option.isSome_none,ax]<;>rfl)) ?_
    refine aA ?_
    simp only[go_sem,hO,ae,h0,h1,h2]
    first | (unfold bp;simp only[av];simp_all[cG,cD];done) | (unfold bp;simp only[av];rcases aI:bu x.bk (r.so,s.le)with _ | j<;>simp_all[cG,cD];done)
   ·repeat refine sq ?_
    refine rx hΓ [3,5,7,8,10,60] [[3,0],[5,0],[7,0],[8,0]] (fun K' hK=>by simp only[go_sem,hO,ae,h0,h1,h2,av,bq,Option.isSome_none,ax];(repeat (refine⟨an,?_⟩));exact hK _ (by simp only[go_sem,hO,ae,h0,h1,h2,av,bq,Option.isSome_none,ax]) (by simp only[go_sem,hO,ae,h0,h1,h2,av,bq,Option.isSome_none,ax]<;>rfl)) ?_
    repeat refine sq ?_
    refine ay (fun hb=>?_) fun hb=>?_
    ·repeat refine sq ?_
     refine dx hΓ hP [[],[],[0,1]] [4,5] [[5,0]] (by kernel_rfl) (fun K' hK=>by simp only[go_sem,hO,ae,h0,h1,h2,av,bq,Option.isSome_none,ax];(repeat (refine⟨an,?_⟩));(first | refine⟨by rfl,?_⟩ | skip);exact hK _ (by simp only[go_sem,hO,ae,h0,h1,h2,av,bq,Option.isSome_none,ax]) (by simp only[go_sem,hO,ae,h0,h1,h2,av,bq,Option.isSome_none,ax]<;>rfl)) ?_
     refine aA ?_
     simp only[go_sem,hO,ae,h0,h1,h2]
     first | (unfold bp;simp only[av];simp_all[cG,cD];done) | (unfold bp;simp only[av];rcases aI:bu x.bk (r.so,s.le)with _ | j<;>simp_all[cG,cD];done)
    ·repeat refine sq ?_
     refine rx hΓ [3,5,7,8,10,68] [[3,0],[5,0],[7,0],[8,0]] (fun K' hK=>by simp only[go_sem,hO,ae,h0,h1,h2,av,bq,Option.isSome_none,ax];(repeat (refine⟨an,?_⟩));exact hK _ (by simp only[go_sem,hO,ae,h0,h1,h2,av,bq,Option.isSome_none,ax]) (by simp only[go_sem,hO,ae,h0,h1,h2,av,bq,Option.isSome_none,ax]<;>rfl)) ?_
     repeat refine sq ?_
     refine ay (fun hb=>?_) fun hb=>?_
     ·repeat refine sq ?_
      refine dx hΓ hP [[],[],[1],[1,2],[0],u5] [4,5] [[5,0]] (by kernel_rfl) (fun K' hK=>by simp only[go_sem,hO,ae,h0,h1,h2,av,bq,Option.isSome_none,ax];(repeat (refine⟨an,?_⟩));(first | refine⟨by rfl,?_⟩ | skip);exact hK _ (by simp only[go_sem,hO,ae,h0,h1,h2,av,bq,Option.isSome_none,ax]) (by simp only[go_sem,hO,ae,h0,h1,h2,av,bq,Option.isSome_none,ax]<;>rfl)) ?_
      refine aA ?_
      simp only[go_sem,hO,ae,h0,h1,h2]
      first | (unfold bp;simp only[av];simp_all[cG,cD];done) | (unfold bp;simp only[av];rcases aI:bu x.bk (r.so,s.le)with _ | j<;>simp_all[cG,cD];done)
     ·repeat refine sq ?_
      refine rx hΓ [3,5,7,10,76] [[3,0],[5,0],[7,0]] (fun K' hK=>by simp only[go_sem,hO,ae,h0,h1,h2,av,bq,Option.isSome_none,ax];(repeat (refine⟨an,?_⟩));exact hK _ (by simp only[go_sem,hO,ae,h0,h1,h2,av,bq,Option.isSome_none,ax]) (by simp only[go_sem,hO,ae,h0,h1,h2,av,bq,Option.isSome_none,ax]<;>rfl)) ?_
      repeat refine sq ?_
      refine ay (fun hb=>?_) fun hb=>?_
      ·repeat refine sq ?_
       refine dx hΓ hP [[],[],[1],[1,2],[1,2,3],[0],u6] [4,5] [[5,0]] (by kernel_rfl) (fun K' hK=>by simp only[go_sem,hO,ae,h0,h1,h2,av,bq,Option.isSome_none,ax];(repeat (refine⟨an,?_⟩));(first | refine⟨by rfl,?_⟩ | skip);exact hK _ (by simp only[go_sem,hO,ae,h0,h1,h2,av,bq,Option.isSome_none,ax]) (by simp only[go_sem,hO,ae,h0,h1,h2,av,bq,Option.isSome_none,ax]<;>rfl)) ?_
       refine aA ?_
       simp only[go_sem,hO,ae,h0,h1,h2]
       first | (unfold bp;simp only[av];simp_all[cG,cD];done) | (unfold bp;simp only[av];rcases aI:bu x.bk (r.so,s.le)with _ | j<;>simp_all[cG,cD];done)
      ·repeat refine sq ?_
       refine aE ?_
       refine bQ ?_
       simp only[go_sem]
       refine eG [5,7] [[5,0],[7,0]] ?_ ?_
       ·simp only[go_sem,hO,ae,h0,h1,h2]
       simp only[go_sem,hO,ae,h0,h1,h2]
       repeat refine sq ?_
       refine dx hΓ hP [[],[],[0,1]] [4,5] [[5,0]] (by kernel_rfl) (fun K' hK=>by simp only[go_sem,hO,ae,h0,h1,h2,av,bq,Option.isSome_none,ax];(repeat (refine⟨an,?_⟩));(first | refine⟨by rfl,?_⟩ | skip);exact hK _ (by simp only[go_sem,hO,ae,h0,h1,h2,av,bq,Option.isSome_none,ax]) (by simp only[go_sem,hO,ae,h0,h1,h2,av,bq,Option.isSome_none,ax]<;>rfl)) ?_
       refine aA ?_
       simp only[go_sem,hO,ae,h0,h1,h2]
       first | (unfold bp;simp only[av];simp_all[cG,cD];done) | (unfold bp;simp only[av];rcases aI:bu x.bk (r.so,s.le)with _ | j<;>simp_all[cG,cD];done)
  ·repeat refine sq ?_
   refine rx hΓ [3,5,6,7,8,9,10,11,39] [[3,0],[5,0],[6,0],[7,0],[8,0]] (fun K' hK=>by simp only[go_sem,hO,ae,h0,h1,h2,av,bq,Option.isSome_none,ax];(repeat (refine⟨an,?_⟩));exact hK _ (by simp only[go_sem,hO,ae,h0,h1,h2,av,bq,Option.isSome_none,ax]) (by simp only[go_sem,hO,ae,h0,h1,h2,av,bq,Option.isSome_none,ax]<;>rfl)) ?_
   repeat refine sq ?_
   refine ay (fun hb=>?_) fun hb=>?_
   ·repeat refine sq ?_
    refine dx hΓ hP [[],[],[0,1]] [4,5] [[5,0]] (by kernel_rfl) (fun K' hK=>by simp only[go_sem,hO,ae,h0,h1,h2,av,bq,Option.isSome_none,ax];(repeat (refine⟨an,?_⟩));(first | refine⟨by rfl,?_⟩ | skip);exact hK _ (by simp only[go_sem,hO,ae,h0,h1,h2,av,bq,Option.isSome_none,ax]) (by simp only[go_sem,hO,ae,h0,h1,h2,av,bq,Option.isSome_none,ax]<;>rfl)) ?_
    refine aA ?_
    simp only[go_sem,hO,ae,h0,h1,h2]
    first | (unfold bp;simp only[av];simp_all[cG,cD];done) | (unfold bp;simp only[av];rcases aI:bu x.bk (r.so,s.le)with _ | j<;>simp_all[cG,cD];done)
   ·repeat refine sq ?_
    refine rx hΓ [3,5,7,8,10,60] [[3,0],[5,0],[7,0],[8,0]] (fun K' hK=>by simp only[go_sem,hO,ae,h0,h1,h2,av,bq,Option.isSome_none,ax];(repeat (refine⟨an,?_⟩));exact hK _ (by simp only[go_sem,hO,ae,h0,h1,h2,av,bq,Option.isSome_none,ax]) (by simp only[go_sem,hO,ae,h0,h1,h2,av,bq,Option.isSome_none,ax]<;>rfl)) ?_
    repeat refine sq ?_
    refine ay (fun hb=>?_) fun hb=>?_
    ·repeat refine sq ?_
     refine dx hΓ hP [[],[],[0,1]] [4,5] [[5,0]] (by kernel_rfl) (fun K' hK=>by simp only[go_sem,hO,ae,h0,h1,h2,av,bq,Option.isSome_none,ax];(repeat (refine⟨an,?_⟩));(first | refine⟨by rfl,?_⟩ | skip);exact hK _ (by simp only[go_sem,hO,ae,h0,h1,h2,av,bq,Option.isSome_none,ax]) (by simp only[go_sem,hO,ae,h0,h1,h2,av,bq,Option.isSome_none,ax]<;>rfl)) ?_
     refine aA ?_
     simp only[go_sem,hO,ae,h0,h1,h2]
     first | (unfold bp;simp only[av];simp_all[cG,cD];done) | (unfold bp;simp only[av];rcases aI:bu x.bk (r.so,s.le)with _ | j<;>simp_all[cG,cD];done)
    ·repeat refine sq ?_
     refine rx hΓ [3,5,7,8,10,68] [[3,0],[5,0],[7,0],[8,0]] (fun K' hK=>by simp only[go_sem,hO,ae,h0,h1,h2,av,bq,Option.isSome_none,ax];(repeat (refine⟨an,?_⟩));exact hK _ (by simp only[go_sem,hO,ae,h0,h1,h2,av,bq,Option.isSome_none,ax]) (by simp only[go_sem,hO,ae,h0,h1,h2,av,bq,Option.isSome_none,ax]<;>rfl)) ?_
     repeat refine sq ?_
     refine ay (fun hb=>?_) fun hb=>?_
     ·repeat refine sq ?_
      refine dx hΓ hP [[],[],[1],[1,2],[0],u5] [4,5] [[5,0]] (by kernel_rfl) (fun K' hK=>by simp only[go_sem,hO,ae,h0,h1,h2,av,bq,Option.isSome_none,ax];(repeat (refine⟨an,?_⟩));(first | refine⟨by rfl,?_⟩ | skip);exact hK _ (by simp only[go_sem,hO,ae,h0,h1,h2,av,bq,Option.isSome_none,ax]) (by simp only[go_sem,hO,ae,h0,h1,h2,av,bq,Option.isSome_none,ax]<;>rfl)) ?_
      refine aA ?_
      simp only[go_sem,hO,ae,h0,h1,h2]
      first | (unfold bp;simp only[av];simp_all[cG,cD];done) | (unfold bp;simp only[av];rcases aI:bu x.bk (r.so,s.le)with _ | j<;>simp_all[cG,cD];done)
     ·repeat refine sq ?_
      refine rx hΓ [3,5,7,10,76] [[3,0],[5,0],[7,0]] (fun K' hK=>by simp only[go_sem,hO,ae,h0,h1,h2,av,bq,Option.isSome_none,ax];(repeat (refine⟨an,?_⟩));exact hK _ (by simp only[go_sem,hO,ae,h0,h1,h2,av,bq,Option.isSome_none,ax]) (by simp only[go_sem,hO,ae,h0,h1,h2,av,bq,Option.isSome_none,ax]<;>rfl)) ?_
      repeat refine sq ?_
      refine ay (fun hb=>?_) fun hb=>?_
      ·repeat refine sq ?_
       refine dx hΓ hP [[],[],[1],[1,2],[1,2,3],[0],u6] [4,5] [[5,0]] (by kernel_rfl) (fun K' hK=>by simp only[go_sem,hO,ae,h0,h1,h2,av,bq,Option.isSome_none,ax];(repeat (refine⟨an,?_⟩));(first | refine⟨by rfl,?_⟩ | skip);exact hK _ (by simp only[go_sem,hO,ae,h0,h1,h2,av,bq,Option.isSome_none,ax]) (by simp only[go_sem,hO,ae,h0,h1,h2,av,bq,Option.isSome_none,ax]<;>rfl)) ?_
       refine aA ?_
       simp only[go_sem,hO,ae,h0,h1,h2]
       first | (unfold bp;simp only[av];simp_all[cG,cD];done) | (unfold bp;simp only[av];rcases aI:bu x.bk (r.so,s.le)with _ | j<;>simp_all[cG,cD];done)
      ·repeat refine sq ?_
       refine aE ?_
       refine bQ ?_
       simp only[go_sem]
       refine eG [5,7] [[5,0],[7,0]] ?_ ?_
       ·simp only[go_sem,hO,ae,h0,h1,h2]
       simp only[go_sem,hO,ae,h0,h1,h2]
       repeat refine sq ?_
       refine dx hΓ hP [[],[],[0,1]] [4,5] [[5,0]] (by kernel_rfl) (fun K' hK=>by simp only[go_sem,hO,ae,h0,h1,h2,av,bq,Option.isSome_none,ax];(repeat (refine⟨an,?_⟩));(first | refine⟨by rfl,?_⟩ | skip);exact hK _ (by simp only[go_sem,hO,ae,h0,h1,h2,av,bq,Option.isSome_none,ax]) (by simp only[go_sem,hO,ae,h0,h1,h2,av,bq,Option.isSome_none,ax]<;>rfl)) ?_
       refine aA ?_
       simp only[go_sem,hO,ae,h0,h1,h2]
       first | (unfold bp;simp only[av];simp_all[cG,cD];done) | (unfold bp;simp only[av];rcases aI:bu x.bk (r.so,s.le)with _ | j<;>simp_all[cG,cD];done)
 ·repeat refine sq ?_
  refine rx hΓ [0,3,5,6,7,8,9] [[3,0],[5,0],[6,0],[7,0],[8,0]] (fun K' hK=>by simp only[go_sem,hO,ae,h0,h1,h2,av,aD,Option.isSome_some,ax];(repeat (refine⟨an,?_⟩));exact hK _ (by simp only[go_sem,hO,ae,h0,h1,h2,av,aD,Option.isSome_some,ax]) (by simp only[go_sem,hO,ae,h0,h1,h2,av,aD,Option.isSome_some,ax]<;>rfl)) ?_
  repeat refine sq ?_
  refine dx hΓ hP [[],[0],[0,1],[0,1,2],[],[4],[],[6],[4,5,6,7],u9,ca,dX,dX,eg,il] [3,5,6,7,8,9,10,11] [[3,0],[5,0],[6,0],[7,0],[8,0]] (by kernel_rfl) (fun K' hK=>by simp only[go_sem,hO,ae,h0,h1,h2,av,aD,Option.isSome_some,ax];(repeat (refine⟨an,?_⟩));(first | refine⟨by rfl,?_⟩ | skip);exact hK _ (by simp only[go_sem,hO,ae,h0,h1,h2,av,aD,Option.isSome_some,ax]) (by simp only[go_sem,hO,ae,h0,h1,h2,av,aD,Option.isSome_some,ax]<;>rfl)) ?_
  repeat refine sq ?_
  refine aN ?_
  repeat refine sq ?_
  refine rx hΓ [3,5,6,7,8,9,10,11,39] [[3,0],[5,0],[6,0],[7,0],[8,0]] (fun K' hK=>by simp only[go_sem,hO,ae,h0,h1,h2,av,aD,Option.isSome_some,ax];(repeat (refine⟨an,?_⟩));exact hK _ (by simp only[go_sem,hO,ae,h0,h1,h2,av,aD,Option.isSome_some,ax]) (by simp only[go_sem,hO,ae,h0,h1,h2,av,aD,Option.isSome_some,ax]<;>rfl)) ?_
  repeat refine sq ?_
  refine ay (fun hb=>?_) fun hb=>?_
  ·repeat refine sq ?_
   refine aE ?_
   repeat refine sq ?_
   refine ay (fun hb=>?_) fun hb=>?_
   ·repeat refine sq ?_
    refine dx hΓ hP [[],[],[0,1]] [4,5] [[5,0]] (by kernel_rfl) (fun K' hK=>by simp only[go_sem,hO,ae,h0,h1,h2,av,aD,Option.isSome_some,ax];(repeat (refine⟨an,?_⟩));(first | refine⟨by rfl,?_⟩ | skip);exact hK _ (by simp only[go_sem,hO,ae,h0,h1,h2,av,aD,Option.isSome_some,ax]) (by simp only[go_sem,hO,ae,h0,h1,h2,av,aD,Option.isSome_some,ax]<;>rfl)) ?_
    refine aA ?_
    simp only[go_sem,hO,ae,h0,h1,h2]
    first | (unfold bp;simp only[av];simp_all[cG,cD];done) | (unfold bp;simp only[av];rcases aI:bu x.bk (r.so,s.le)with _ | j<;>simp_all[cG,cD];done)
   ·repeat refine sq ?_
    refine rx hΓ [3,5,7,8,10,60] [[3,0],[5,0],[7,0],[8,0]] (fun K' hK=>by simp only[go_sem,hO,ae,h0,h1,h2,av,aD,Option.isSome_some,ax];(repeat (refine⟨an,?_⟩));exact hK _ (by simp only[go_sem,hO,ae,h0,h1,h2,av,aD,Option.isSome_some,ax]) (by simp only[go_sem,hO,ae,h0,h1,h2,av,aD,Option.isSome_some,ax]<;>rfl)) ?_
    repeat refine sq ?_
    refine ay (fun hb=>?_) fun hb=>?_
    ·repeat refine sq ?_
     refine dx hΓ hP [[],[],[0,1]] [4,5] [[5,0]] (by kernel_rfl) (fun K' hK=>by simp only[go_sem,hO,ae,h0,h1,h2,av,aD,Option.isSome_some,ax];(repeat (refine⟨an,?_⟩));(first | refine⟨by rfl,?_⟩ | skip);exact hK _ (by simp only[go_sem,hO,ae,h0,h1,h2,av,aD,Option.isSome_some,ax]) (by simp only[go_sem,hO,ae,h0,h1,h2,av,aD,Option.isSome_some,ax]<;>rfl)) ?_
     refine aA ?_
     simp only[go_sem,hO,ae,h0,h1,h2]
     first | (unfold bp;simp only[av];simp_all[cG,cD];done) | (unfold bp;simp only[av];rcases aI:bu x.bk (r.so,s.le)with _ | j<;>simp_all[cG,cD];done)
    ·repeat refine sq ?_
     refine rx hΓ [3,5,7,8,10,68] [[3,0],[5,0],[7,0],[8,0]] (fun K' hK=>by simp only[go_sem,hO,ae,h0,h1,h2,av,aD,Option.isSome_some,ax];(repeat (refine⟨an,?_⟩));exact hK _ (by simp only[go_sem,hO,ae,h0,h1,h2,av,aD,Option.isSome_some,ax]) (by simp only[go_sem,hO,ae,h0,h1,h2,av,aD,Option.isSome_some,ax]<;>rfl)) ?_
     repeat refine sq ?_
     refine ay (fun hb=>?_) fun hb=>?_
     ·repeat refine sq ?_
      refine dx hΓ hP [[],[],[1],[1,2],[0],u5] [4,5] [[5,0]] (by kernel_rfl) (fun K' hK=>by simp only[go_sem,hO,ae,h0,h1,h2,av,aD,Option.isSome_some,ax];(repeat (refine⟨an,?_⟩));(first | refine⟨by rfl,?_⟩ | skip);exact hK _ (by simp only[go_sem,hO,ae,h0,h1,h2,av,aD,Option.isSome_some,ax]) (by simp only[go_sem,hO,ae,h0,h1,h2,av,aD,Option.isSome_some,ax]<;>rfl)) ?_
      refine aA ?_
      simp only[go_sem,hO,ae,h0,h1,h2]
      first | (unfold bp;simp only[av];simp_all[cG,cD];done) | (unfold bp;simp only[av];rcases aI:bu x.bk (r.so,s.le)with _ | j<;>simp_all[cG,cD];done)
     ·repeat refine sq ?_
      refine rx hΓ [3,5,7,10,76] [[3,0],[5,0],[7,0]] (fun K' hK=>by simp only[go_sem,hO,ae,h0,h1,h2,av,aD,Option.isSome_some,ax];(repeat (refine⟨an,?_⟩));exact hK _ (by simp only[go_sem,hO,ae,h0,h1,h2,av,aD,Option.isSome_some,ax]) (by simp only[go_sem,hO,ae,h0,h1,h2,av,aD,Option.isSome_some,ax]<;>rfl)) ?_
      repeat refine sq ?_
      refine ay (fun hb=>?_) fun hb=>?_
      ·repeat refine sq ?_
       refine dx hΓ hP [[],[],[1],[1,2],[1,2,3],[0],u6] [4,5] [[5,0]] (by kernel_rfl) (fun K' hK=>by simp only[go_sem,hO,ae,h0,h1,h2,av,aD,Option.isSome_some,ax];(repeat (refine⟨an,?_⟩));(first | refine⟨by rfl,?_⟩ | skip);exact hK _ (by simp only[go_sem,hO,ae,h0,h1,h2,av,aD,Option.isSome_some,ax]) (by simp only[go_sem,hO,ae,h0,h1,h2,av,aD,Option.isSome_some,ax]<;>rfl)) ?_
       refine aA ?_
       simp only[go_sem,hO,ae,h0,h1,h2]
       first | (unfold bp;simp only[av];simp_all[cG,cD];done) | (unfold bp;simp only[av];rcases aI:bu x.bk (r.so,s.le)with _ | j<;>simp_all[cG,cD];done)
      ·repeat refine sq ?_
       refine aE ?_
       refine bQ ?_
       simp only[go_sem]
       refine eG [5,7] [[5,0],[7,0]] ?_ ?_
       ·simp only[go_sem,hO,ae,h0,h1,h2]
       simp only[go_sem,hO,ae,h0,h1,h2]
       repeat refine sq ?_
       refine dx hΓ hP [[],[],[0,1]] [4,5] [[5,0]] (by kernel_rfl) (fun K' hK=>by simp only[go_sem,hO,ae,h0,h1,h2,av,aD,Option.isSome_some,ax];(repeat (refine⟨an,?_⟩));(first | refine⟨by rfl,?_⟩ | skip);exact hK _ (by simp only[go_sem,hO,ae,h0,h1,h2,av,aD,Option.isSome_some,ax]) (by simp only[go_sem,hO,ae,h0,h1,h2,av,aD,Option.isSome_some,ax]<;>rfl)) ?_
       refine aA ?_
       simp only[go_sem,hO,ae,h0,h1,h2]
       first | (unfold bp;simp only[av];simp_all[cG,cD];done) | (unfold bp;simp only[av];rcases aI:bu x.bk (r.so,s.le)with _ | j<;>simp_all[cG,cD];done)
  ·repeat refine sq ?_
   refine rx hΓ [3,5,6,7,8,9,10,11,39] [[3,0],[5,0],[6,0],[7,0],[8,0]] (fun K' hK=>by simp only[go_sem,hO,ae,h0,h1,h2,av,aD,Option.isSome_some,ax];(repeat (refine⟨an,?_⟩));exact hK _ (by simp only[go_sem,hO,ae,h0,h1,h2,av,aD,Option.isSome_some,ax]) (by simp only[go_sem,hO,ae,h0,h1,h2,av,aD,Option.isSome_some,ax]<;>rfl)) ?_
   repeat refine sq ?_
   refine ay (fun hb=>?_) fun hb=>?_
   ·repeat refine sq ?_
    refine dx hΓ hP [[],[],[0,1]] [4,5] [[5,0]] (by kernel_rfl) (fun K' hK=>by simp only[go_sem,hO,ae,h0,h1,h2,av,aD,Option.isSome_some,ax];(repeat (refine⟨an,?_⟩));(first | refine⟨by rfl,?_⟩ | skip);exact hK _ (by simp only[go_sem,hO,ae,h0,h1,h2,av,aD,Option.isSome_some,ax]) (by simp only[go_sem,hO,ae,h0,h1,h2,av,aD,Option.isSome_some,ax]<;>rfl)) ?_
    refine aA ?_
    simp only[go_sem,hO,ae,h0,h1,h2]
    first | (unfold bp;simp only[av];simp_all[cG,cD];done) | (unfold bp;simp only[av];rcases aI:bu x.bk (r.so,s.le)with _ | j<;>simp_all[cG,cD];done)
   ·repeat refine sq ?_
    refine rx hΓ [3,5,7,8,10,60] [[3,0],[5,0],[7,0],[8,0]] (fun K' hK=>by simp only[go_sem,hO,ae,h0,h1,h2,av,aD,Option.isSome_some,ax];(repeat (refine⟨an,?_⟩));exact hK _ (by simp only[go_sem,hO,ae,h0,h1,h2,av,aD,Option.isSome_some,ax]) (by simp only[go_sem,hO,ae,h0,h1,h2,av,aD,Option.isSome_some,ax]<;>rfl)) ?_
    repeat refine sq ?_
    refine ay (fun hb=>?_) fun hb=>?_
    ·repeat refine sq ?_
     refine dx hΓ hP [[],[],[0,1]] [4,5] [[5,0]] (by kernel_rfl) (fun K' hK=>by simp only[go_sem,hO,ae,h0,h1,h2,av,aD,Option.isSome_some,ax];(repeat (refine⟨an,?_⟩));(first | refine⟨by rfl,?_⟩ | skip);exact hK _ (by simp only[go_sem,hO,ae,h0,h1,h2,av,aD,Option.isSome_some,ax]) (by simp only[go_sem,hO,ae,h0,h1,h2,av,aD,Option.isSome_some,ax]<;>rfl)) ?_
     refine aA ?_
     simp only[go_sem,hO,ae,h0,h1,h2]
     first | (unfold bp;simp only[av];simp_all[cG,cD];done) | (unfold bp;simp only[av];rcases aI:bu x.bk (r.so,s.le)with _ | j<;>simp_all[cG,cD];done)
    ·repeat refine sq ?_
     refine rx hΓ [3,5,7,8,10,68] [[3,0],[5,0],[7,0],[8,0]] (fun K' hK=>by simp only[go_sem,hO,ae,h0,h1,h2,av,aD,Option.isSome_some,ax];(repeat (refine⟨an,?_⟩));exact hK _ (by simp only[go_sem,hO,ae,h0,h1,h2,av,aD,Option.isSome_some,ax]) (by simp only[go_sem,hO,ae,h0,h1,h2,av,aD,Option.isSome_some,ax]<;>rfl)) ?_
     repeat refine sq ?_
     refine ay (fun hb=>?_) fun hb=>?_
     ·repeat refine sq ?_
      refine dx hΓ hP [[],[],[1],[1,2],[0],u5] [4,5] [[5,0]] (by kernel_rfl) (fun K' hK=>by simp only[go_sem,hO,ae,h0,h1,h2,av,aD,Option.isSome_some,ax];(repeat (refine⟨an,?_⟩));(first | refine⟨by rfl,?_⟩ | skip);exact hK _ (by simp only[go_sem,hO,ae,h0,h1,h2,av,aD,Option.isSome_some,ax]) (by simp only[go_sem,hO,ae,h0,h1,h2,av,aD,Option.isSome_some,ax]<;>rfl)) ?_
      refine aA ?_
      simp only[go_sem,hO,ae,h0,h1,h2]
      first | (unfold bp;simp only[av];simp_all[cG,cD];done) | (unfold bp;simp only[av];rcases aI:bu x.bk (r.so,s.le)with _ | j<;>simp_all[cG,cD];done)
     ·repeat refine sq ?_
      refine rx hΓ [3,5,7,10,76] [[3,0],[5,0],[7,0]] (fun K' hK=>by simp only[go_sem,hO,ae,h0,h1,h2,av,aD,Option.isSome_some,ax];(repeat (refine⟨an,?_⟩));exact hK _ (by simp only[go_sem,hO,ae,h0,h1,h2,av,aD,Option.isSome_some,ax]) (by simp only[go_sem,hO,ae,h0,h1,h2,av,aD,Option.isSome_some,ax]<;>rfl)) ?_
      repeat refine sq ?_
      refine ay (fun hb=>?_) fun hb=>?_
      ·repeat refine sq ?_
       refine dx hΓ hP [[],[],[1],[1,2],[1,2,3],[0],u6] [4,5] [[5,0]] (by kernel_rfl) (fun K' hK=>by simp only[go_sem,hO,ae,h0,h1,h2,av,aD,Option.isSome_some,ax];(repeat (refine⟨an,?_⟩));(first | refine⟨by rfl,?_⟩ | skip);exact hK _ (by simp only[go_sem,hO,ae,h0,h1,h2,av,aD,Option.isSome_some,ax]) (by simp only[go_sem,hO,ae,h0,h1,h2,av,aD,Option.isSome_some,ax]<;>rfl)) ?_
       refine aA ?_
       simp only[go_sem,hO,ae,h0,h1,h2]
       first | (unfold bp;simp only[av];simp_all[cG,cD];done) | (unfold bp;simp only[av];rcases aI:bu x.bk (r.so,s.le)with _ | j<;>simp_all[cG,cD];done)
      ·repeat refine sq ?_
       refine aE ?_
       refine bQ ?_
       simp only[go_sem]
       refine eG [5,7] [[5,0],[7,0]] ?_ ?_
       ·simp only[go_sem,hO,ae,h0,h1,h2]
       simp only[go_sem,hO,ae,h0,h1,h2]
       repeat refine sq ?_
       refine dx hΓ hP [[],[],[0,1]] [4,5] [[5,0]] (by kernel_rfl) (fun K' hK=>by simp only[go_sem,hO,ae,h0,h1,h2,av,aD,Option.isSome_some,ax];(repeat (refine⟨an,?_⟩));(first | refine⟨by rfl,?_⟩ | skip);exact hK _ (by simp only[go_sem,hO,ae,h0,h1,h2,av,aD,Option.isSome_some,ax]) (by simp only[go_sem,hO,ae,h0,h1,h2,av,aD,Option.isSome_some,ax]<;>rfl)) ?_
       refine aA ?_
       simp only[go_sem,hO,ae,h0,h1,h2]
       first | (unfold bp;simp only[av];simp_all[cG,cD];done) | (unfold bp;simp only[av];rcases aI:bu x.bk (r.so,s.le)with _ | j<;>simp_all[cG,cD];done)
end
noncomputable section
theorem yQ{α:Type}{p:α->Bool}{l:List α}{i:Nat}(h:i<l.length):(l.take (i+1)).all p=((l.take i).all p&&p l[i]):=by
 rw[List.take_add_one,List.getElem?_eq_getElem h,List.all_append]
 simp
theorem OM{x:Vw}{d:Ds}{l:List Sig}{i:Nat}(h:i<l.length):dQ x d (l.take (i+1))=gz x (dQ x d (l.take i)) l[i]:=by
 unfold dQ
 rw[List.take_add_one,List.getElem?_eq_getElem h,List.foldl_append]
 rfl
theorem Cy(x:Vw)(d:Ds)(s:Sig):bp ⟨x.l,x.rs,x.ts,x.bk,d⟩ s=bp x s:=rfl
theorem nA.ds{x:Vw}(h:nA x)(d:Ds):nA ⟨x.l,x.rs,x.ts,x.bk,d⟩:=⟨h.ok,h.bk,h.rs,h.rn,h.tn,h.ts⟩
theorem VD(x:Vw)(d:Ds)(i:Int)(r:Rg):DO ⟨x.l,x.rs,x.ts,x.bk,d⟩ i r=kh d i r:=rfl
theorem adA{H H':Name->Option O}{O7:List (V×V)}(gP:upd H [2,1] (some (.map 0 O7))=H')(ae:∀ hs es,ck [0] (bY [0] hs) (fun nm=>if nm=[2,1]then some (.map 0 es)else H nm)=True):
 (∀ hs,ck [0] (bY [0] hs) H'=True)/\∀ hs es,ck [0] (bY [0] hs) (fun nm=>if nm=[2,1]then some (.map 0 es)else H' nm)=True:=by
 refine⟨fun hs=>by rw[<-gP];exact ae hs O7,fun hs es=>?_⟩
 have e:(fun nm=>if nm=[2,1]then some (.map 0 es)else H' nm)=fun nm=>if nm=[2,1]then some (.map 0 es)else H nm:=by
  funext nm
  rw[<-gP]
  by_cases e:nm=[2,1]
  ·simp[e]
  ·simp[aY _ _ _ e,e]
 rw[e];exact ae hs es
theorem RS{α β:Type}[DecidableEq α]{f:α->β}{a:α}{b:β}(h:f a=b):upd f a b=f:=by
 funext x
 by_cases e:x=a
 ·subst e;rw[aS,h]
 ·rw[aY _ _ _ e]
def zC(d:Ds)(i:Int):Bool:=decide ((aW d i).1<=(aW d i).2)
def K27:List (Nat×Spec):=[(187,S187),(165,S165)]
theorem aen:KS K27:=tc X8<|tc Er<|tn
attribute [go_sem] K27
def QR:VSpec:=v1 (fP iS) (fun x l=>((nA x/\x.rs.Nodup)/\l.length<=60)/\∀ s∈l,CO s) (fun x l=>.v (.bool (fE x l))) (some fun x l=>dQ x x.ds l)
def S128:Spec:=QR.toSpec
attribute [go_sem] QR S128
set_option maxHeartbeats 8000000 in
theorem Yc:aL Tryz.prog 128 S128:=by
 refine zg (rs:=[.tmp 4]) Tryz.func128 Tryz.ntmps128 (by rfl) (by kernel_rfl) (by decide) (fun _ _=>by first | rfl | simp[D.clos,D.closL,mz]) ⟨_,rfl,lb rfl,fun x l hp H h0 h1 h2 hO ae=>?_⟩
 simp only[iS,fP,encS,bt,dj,List.map_cons,List.map_nil,Nat.zero_add,Option.map_some,Option.map_none]at h0 |-
 have hΓ:=aen
 obtain⟨⟨⟨hv,bZ⟩,AU⟩,AF⟩:=hp
 have vE:l.length<=maxLen:=by unfold maxLen;omega
 have xJ:x.ts.length<=maxLen:=by have:=hv.tn;unfold maxLen;omega
 have br:∀ hs es,ck [0] (bY [0] hs) (upd H [2,1] (some (.map 0 es)))=True:=ae
 repeat refine sq ?_
 refine rx hΓ [0,1] [] (fun K' hK=>by simp only[go_sem,hO,ae,br,h0,h1,h2];(repeat (refine⟨an,?_⟩));exact hK _ (by simp only[go_sem,hO,ae,br,h0,h1,h2]) (by simp only[go_sem,hO,ae,br,h0,h1,h2]<;>rfl)) ?_
 repeat refine sq ?_
 refine rx hΓ [0,1,5] [] (fun K' hK=>by simp only[go_sem,hO,ae,br,h0,h1,h2];(repeat (refine⟨an,?_⟩));exact hK _ (by simp only[go_sem,hO,ae,br,h0,h1,h2]) (by simp only[go_sem,hO,ae,br,h0,h1,h2]<;>rfl)) ?_
 repeat refine sq ?_
 refine rx hΓ [0,1,5,6] [] (fun K' hK=>by simp only[go_sem,hO,ae,br,h0,h1,h2];(repeat (refine⟨an,?_⟩));exact hK _ (by simp only[go_sem,hO,ae,br,h0,h1,h2]) (by simp only[go_sem,hO,ae,br,h0,h1,h2]<;>rfl)) ?_
 repeat refine sq ?_
 refine rx hΓ [0,5,6,16,17,18] [] (fun K' hK=>by simp only[go_sem,hO,ae,br,h0,h1,h2];(repeat (refine⟨an,?_⟩));exact hK _ (by simp only[go_sem,hO,ae,br,h0,h1,h2]) (by simp only[go_sem,hO,ae,br,h0,h1,h2]<;>rfl)) ?_
 repeat refine sq ?_
 refine aN ?_
 repeat refine sq ?_
 refine PR (fun s:Nat=>upd H [2,1] (some (.map 0 (bG (dQ x x.ds (l.take s)))))) (fun s:Nat=>[(18,⟨true,.v (vInt s)⟩),(5,⟨true,.v (.bool ((l.take s).all (fb x)))⟩)]) (fun s=>[]) (fun s=>s<=l.length) (fun s=>l.length-s) 0 ?_ ?_ ?_ ?_ ?_
 ·exact Nat.zero_le _
 ·congr 1;exact RS h2
 ·rfl
 ·rfl
 rintro i hi
 generalize gP:upd H [2,1] (some (.map 0 (bG (dQ x x.ds (l.take i)))))=H'
 have h0:=(show H' [0,1]=H [0,1]by rw[<-gP,aY _ _ _ (by decide)]).trans h0
 have h1:=(show H' [1,1]=H [1,1]by rw[<-gP,aY _ _ _ (by decide)]).trans h1
 have h2:H' [2,1]=some (.map 0 (bG (dQ x x.ds (l.take i)))):=by rw[<-gP,aS]
 obtain⟨hO,ae⟩:=adA gP ae
 have br:∀ hs es,ck [0] (bY [0] hs) (upd H' [2,1] (some (.map 0 es)))=True:=ae
 simp only[go_sem]
 repeat refine sq ?_
 refine rx hΓ [0,5,6,16,17,18,19] [] (fun K' hK=>by simp only[go_sem,hO,ae,br,h0,h1,h2];(repeat (refine⟨an,?_⟩));exact hK _ (by simp only[go_sem,hO,ae,br,h0,h1,h2]) (by simp only[go_sem,hO,ae,br,h0,h1,h2]<;>rfl)) ?_
 repeat refine sq ?_
 refine ay (fun hb=>?_) fun hb=>?_
 ·have ab:i<l.length:=by simpa using hb
  have au:(i:Int)<l.length:=by omega
  clear hb
  have ER:=AF l[i] (List.getElem_mem ab)
  repeat refine sq ?_
  refine aE ?_
  repeat refine sq ?_
  refine aN ?_
  repeat refine sq ?_
  refine rx hΓ [0,5,6,8,16,17,18] [[8,0]] (fun K' hK=>by simp only[go_sem,hO,ae,br,h0,h1,h2,ah ab,ai,aj,au];(repeat (refine⟨an,?_⟩));exact hK _ (by simp only[go_sem,hO,ae,br,h0,h1,h2,ah ab,ai,aj,au]) (by simp only[go_sem,hO,ae,br,h0,h1,h2,ah ab,ai,aj,au]<;>rfl)) ?_
  repeat refine sq ?_
  refine rx hΓ [0,5,6,9,10,16,17,18] [[10,0]] (fun K' hK=>by simp only[go_sem,hO,ae,br,h0,h1,h2,ah ab,ai,aj,au,Cy];(repeat (refine⟨by first | exact an | exact⟨⟨hv.ds _,bZ⟩,ER⟩,?_⟩));exact hK _ (by simp only[go_sem,hO,ae,br,h0,h1,h2,ah ab,ai,aj,au,Cy]) (by simp only[go_sem,hO,ae,br,h0,h1,h2,ah ab,ai,aj,au,Cy]<;>rfl)) ?_
  repeat refine sq ?_
  refine rx hΓ [0,5,6,9,10,16,17,18,29] [[10,0]] (fun K' hK=>by simp only[go_sem,hO,ae,br,h0,h1,h2,ah ab,ai,aj,au];(repeat (refine⟨an,?_⟩));exact hK _ (by simp only[go_sem,hO,ae,br,h0,h1,h2,ah ab,ai,aj,au]) (by simp only[go_sem,hO,ae,br,h0,h1,h2,ah ab,ai,aj,au]<;>rfl)) ?_
  repeat refine sq ?_
  refine ay (fun hb=>?_) fun hb=>?_
  ·repeat refine sq ?_
   have lT:(bp x l[i]).1>=0:=by simpa using hb
   have hA:(l.take (i+1)).all (fb x)=(l.take i).all (fb x):=by rw[yQ ab];simp[fb,lT]
   have hF:dQ x x.ds (l.take (i+1))=kh (dQ x x.ds (l.take i)) (bp x l[i]).1 (bp x l[i]).2:=by rw[OM ab,gz,if_pos lT]
   repeat refine sq ?_
   refine aP hΓ fun K' hK=>?_
   simp only[go_sem,hO,ae,br,h0,h1,h2,ah ab,ai,aj,au,VD]
   repeat (refine⟨an,?_⟩)
   refine hK _ ?_
   clear K' hK
   simp only[go_sem]
   refine eG [0,5,6,16,17,18] [] ?_ ?_
   ·simp only[go_sem,hO,ae,br,h0,h1,h2]
   simp only[go_sem,hO,ae,br,h0,h1,h2]
   repeat refine sq ?_
   refine aP hΓ fun K' hK=>?_
   simp only[go_sem,hO,ae,br,h0,h1,h2,ah ab,ai,aj,au]
   repeat (refine⟨an,?_⟩)
   refine hK _ ?_
   clear K' hK
   simp only[go_sem]
   refine⟨i+1,ab,by(show l.length-(i+1)<l.length-i;omega),?_⟩
   refine bd [0,5,6,16,17,18] [] ?_ ?_
   ·simp only[go_sem,a7 ab vE,bb,hA,hF,hO,ae,br,h0,h1,h2]
   ·simp only[go_sem,a7 ab vE,bb,hA,hF,hO,ae,br,h0,h1,h2]
    all_goals first | (rw[<-gP];done) | (congr 1;funext nm;rw[<-gP];by_cases e:nm=[2,1]<;>simp[e,aS,aY])
  ·repeat refine sq ?_
   have lT:¬ (bp x l[i]).1>=0:=by simpa using hb
   have hF:dQ x x.ds (l.take (i+1))=dQ x x.ds (l.take i):=by rw[OM ab,gz,if_neg lT]
   repeat refine sq ?_
   refine rx hΓ [0,5,6,16,17,18,38] [] (fun K' hK=>by simp only[go_sem,hO,ae,br,h0,h1,h2,ah ab,ai,aj,au];(repeat (refine⟨an,?_⟩));exact hK _ (by simp only[go_sem,hO,ae,br,h0,h1,h2,ah ab,ai,aj,au]) (by simp only[go_sem,hO,ae,br,h0,h1,h2,ah ab,ai,aj,au]<;>rfl)) ?_
   repeat refine sq ?_
   refine ay (fun hb=>?_) fun hb=>?_
   ·repeat refine sq ?_
    have hA:(l.take (i+1)).all (fb x)=false:=by rw[yQ ab];simp[fb,lT];intro _;simpa using hb
    repeat refine sq ?_
    refine aP hΓ fun K' hK=>?_
    simp only[go_sem,hO,ae,br,h0,h1,h2,ah ab,ai,aj,au]
    repeat (refine⟨an,?_⟩)
    refine hK _ ?_
    clear K' hK
    simp only[go_sem]
    refine eG [0,5,6,16,17,18] [] ?_ ?_
    ·simp only[go_sem,hO,ae,br,h0,h1,h2]
    simp only[go_sem,hO,ae,br,h0,h1,h2]
    repeat refine sq ?_
    refine aP hΓ fun K' hK=>?_
    simp only[go_sem,hO,ae,br,h0,h1,h2,ah ab,ai,aj,au]
    repeat (refine⟨an,?_⟩)
    refine hK _ ?_
    clear K' hK
    simp only[go_sem]
    refine⟨i+1,ab,by(show l.length-(i+1)<l.length-i;omega),?_⟩
    refine bd [0,5,6,16,17,18] [] ?_ ?_
    ·simp only[go_sem,a7 ab vE,bb,hA,hF,hO,ae,br,h0,h1,h2]
    ·simp only[go_sem,a7 ab vE,bb,hA,hF,hO,ae,br,h0,h1,h2]
     all_goals first | (rw[<-gP];done) | (congr 1;funext nm;rw[<-gP];by_cases e:nm=[2,1]<;>simp[e,aS,aY])
   ·repeat refine sq ?_
    have hA:(l.take (i+1)).all (fb x)=(l.take i).all (fb x):=by rw[yQ ab];simp[fb,lT];intro _;simpa using hb
    refine aE ?_
    refine bQ ?_
    simp only[go_sem]
    refine eG [0,5,6,16,17,18] [] ?_ ?_
    ·simp only[go_sem,hO,ae,br,h0,h1,h2]
    simp only[go_sem,hO,ae,br,h0,h1,h2]
    repeat refine sq ?_
    refine aP hΓ fun K' hK=>?_
    simp only[go_sem,hO,ae,br,h0,h1,h2,ah ab,ai,aj,au]
    repeat (refine⟨an,?_⟩)
    refine hK _ ?_
    clear K' hK
    simp only[go_sem]
    refine⟨i+1,ab,by(show l.length-(i+1)<l.length-i;omega),?_⟩
    refine bd [0,5,6,16,17,18] [] ?_ ?_
    ·simp only[go_sem,a7 ab vE,bb,hA,hF,hO,ae,br,h0,h1,h2]
    ·simp only[go_sem,a7 ab vE,bb,hA,hF,hO,ae,br,h0,h1,h2]
     all_goals first | (rw[<-gP];done) | (congr 1;funext nm;rw[<-gP];by_cases e:nm=[2,1]<;>simp[e,aS,aY])
 ·have bB:i=l.length:=by
   have :¬ (i:Int)<l.length:=by simpa using hb
   omega
  clear hb
  subst bB
  repeat refine sq ?_
  refine bT ?_
  simp only[go_sem]
  refine eG [0,5] [] ?_ ?_
  ·simp only[go_sem,hO,ae,br,h0,h1,h2]
  simp only[go_sem,hO,ae,br,h0,h1,h2]
  repeat refine sq ?_
  refine rx hΓ [0,5,43,44,45] [] (fun K' hK=>by simp only[go_sem,hO,ae,br,h0,h1,h2];(repeat (refine⟨an,?_⟩));exact hK _ (by simp only[go_sem,hO,ae,br,h0,h1,h2]) (by simp only[go_sem,hO,ae,br,h0,h1,h2]<;>rfl)) ?_
  repeat refine sq ?_
  refine aN ?_
  repeat refine sq ?_
  refine cB (fun s:Nat=>[(45,⟨true,.v (vInt s)⟩),(5,⟨true,.v (.bool ((x.ts.take s).all (zC (dQ x x.ds (l.take l.length)))&&(l.take l.length).all (fb x)))⟩)]) (fun s=>[]) (fun s=>s<=x.ts.length) (fun s=>x.ts.length-s) 0 ?_ ?_ ?_ ?_
  ·exact Nat.zero_le _
  ·rfl
  ·rfl
  rintro i1 hi
  generalize hB:((x.ts.take i1).all (zC (dQ x x.ds (l.take l.length)))&&(l.take l.length).all (fb x))=B
  simp only[go_sem]
  repeat refine sq ?_
  refine rx hΓ [0,5,43,44,45,46] [] (fun K' hK=>by simp only[go_sem,hO,ae,br,h0,h1,h2];(repeat (refine⟨an,?_⟩));exact hK _ (by simp only[go_sem,hO,ae,br,h0,h1,h2]) (by simp only[go_sem,hO,ae,br,h0,h1,h2]<;>rfl)) ?_
  repeat refine sq ?_
  refine ay (fun hb=>?_) fun hb=>?_
  ·have aT:i1<x.ts.length:=by simpa using hb
   have bH:(i1:Int)<x.ts.length:=by omega
   clear hb
   have hA:((x.ts.take (i1+1)).all (zC (dQ x x.ds (l.take l.length)))&&(l.take l.length).all (fb x))=(B&&decide ((aW (dQ x x.ds (l.take l.length)) x.ts[i1]).1<=(aW (dQ x x.ds (l.take l.length)) x.ts[i1]).2)):=by
    rw[<-hB,yQ aT,Bool.and_assoc,Bool.and_assoc,Bool.and_comm (zC _ _)];rfl
   repeat refine sq ?_
   refine aE ?_
   repeat refine sq ?_
   refine aN ?_
   repeat refine sq ?_
   refine rx hΓ [0,5,12,43,44,45] [] (fun K' hK=>by simp only[go_sem,hO,ae,br,h0,h1,h2,ah aT,ai,aj,bH];(repeat (refine⟨an,?_⟩));exact hK _ (by simp only[go_sem,hO,ae,br,h0,h1,h2,ah aT,ai,aj,bH]) (by simp only[go_sem,hO,ae,br,h0,h1,h2,ah aT,ai,aj,bH]<;>rfl)) ?_
   repeat refine sq ?_
   refine rx hΓ [0,5,13,43,44,45] [[13,0]] (fun K' hK=>by simp only[go_sem,hO,ae,br,h0,h1,h2,ah aT,ai,aj,bH,fY];(repeat (refine⟨an,?_⟩));exact hK _ (by simp only[go_sem,hO,ae,br,h0,h1,h2,ah aT,ai,aj,bH,fY]) (by simp only[go_sem,hO,ae,br,h0,h1,h2,ah aT,ai,aj,bH,fY]<;>rfl)) ?_
   repeat refine sq ?_
   refine aP hΓ fun K' hK=>?_
   simp only[go_sem,hO,ae,br,h0,h1,h2,ah aT,ai,aj,bH]
   repeat (refine⟨an,?_⟩)
   refine hK _ ?_
   clear K' hK
   simp only[go_sem]
   refine eG [0,5,43,44,45] [] ?_ ?_
   ·simp only[go_sem,hO,ae,br,h0,h1,h2]
   simp only[go_sem,hO,ae,br,h0,h1,h2]
   repeat refine sq ?_
   refine aP hΓ fun K' hK=>?_
   simp only[go_sem,hO,ae,br,h0,h1,h2,ah aT,ai,aj,bH]
   repeat (refine⟨an,?_⟩)
   refine hK _ ?_
   clear K' hK
   simp only[go_sem]
   refine⟨i1+1,aT,by(show x.ts.length-(i1+1)<x.ts.length-i1;omega),?_⟩
   refine bd [0,5,43,44,45] [] ?_ ?_<;>simp only[go_sem,a7 aT xJ,bb,hA,hO,ae,br,h0,h1,h2]
  ·have lY:i1=x.ts.length:=by
    have :¬ (i1:Int)<x.ts.length:=by simpa using hb
    omega
   clear hb
   subst lY
   repeat refine sq ?_
   refine bT ?_
   simp only[go_sem]
   refine eG [5] [] ?_ ?_
   ·simp only[go_sem,hO,ae,br,h0,h1,h2]
   simp only[go_sem,hO,ae,br,h0,h1,h2]
   repeat refine sq ?_
   refine rx hΓ [4] [] (fun K' hK=>by simp only[go_sem,hO,ae,br,h0,h1,h2];(repeat (refine⟨an,?_⟩));exact hK _ (by simp only[go_sem,hO,ae,br,h0,h1,h2]) (by simp only[go_sem,hO,ae,br,h0,h1,h2]<;>rfl)) ?_
   refine aA ?_
   simp only[go_sem,hO,ae,br,h0,h1,h2]
   rw[<-hB];simp only[List.take_length];exact⟨by unfold fE vP;rw[Bool.and_comm];rfl,trivial⟩
end
open Go
structure Ro (α:Type) where
 m:Nat
 fam:α->List Name->List O
 args:α->List Name->List D
 ok:α->Prop
 val:α->D
structure Ro.Ok {α:Type} (r:Ro α):Prop where
 len:∀ a Ls,Ls.length=r.m->(r.fam a Ls).length=r.m
 renF:∀ a f Ls,Ls.length=r.m->(r.fam a Ls).map (O.ren f)=r.fam a (Ls.map f)
 renA:∀ a f Ls,Ls.length=r.m->D.renL f (r.args a Ls)=r.args a (Ls.map f)
 reach:∀ a Ls obj,Ls.length=r.m->Ls.Nodup->cv obj Ls (r.fam a Ls)->reach obj (r.args a Ls)=Ls
 closF:∀ a dom Ls,Ls.length=r.m->(∀ x∈Ls,dom x=true)->∀ o∈r.fam a Ls,O.clos dom o=true
 closA:∀ a dom Ls,Ls.length=r.m->(∀ x∈Ls,dom x=true)->D.closL dom (r.args a Ls)=true
 det:∀ a b,r.ok a->r.ok b->r.fam a (LR r.m)=r.fam b (LR r.m)->r.args a (LR r.m)=r.args b (LR r.m)->r.val a=r.val b
 vcl:∀ a dom,D.clos dom (r.val a)=true
 vren:∀ a f,(r.val a).ren f=r.val a
variable {α:Type}
noncomputable def Ro.c(r:Ro α):CSpec where
 pre:=fun os ds=>∃ a,r.ok a/\os=r.fam a (LR r.m)/\ds=r.args a (LR r.m)
 out:=fun os ds=>⟨[],[],by classical exact if h:∃ a,r.ok a/\os=r.fam a (LR r.m)/\ds=r.args a (LR r.m)then r.val h.choose else .any⟩
theorem Ro.c_out{r:Ro α}(hr:r.Ok){a:α}(ha:r.ok a):r.c.out (r.fam a (LR r.m)) (r.args a (LR r.m))=⟨[],[],r.val a⟩:=by
 have h:∃ b,r.ok b/\r.fam a (LR r.m)=r.fam b (LR r.m)/\r.args a (LR r.m)=r.args b (LR r.m):=⟨a,ha,rfl,rfl⟩
 have e:r.val h.choose=r.val a:=(hr.det _ _ ha h.choose_spec.1 h.choose_spec.2.1 h.choose_spec.2.2).symm
 simp only[Ro.c]
 rw[dif_pos h,e]
theorem Ro.c_app{r:Ro α}(hr:r.Ok){a:α}(ha:r.ok a){obj:Name->Option O}{t:Name}{Ls:List Name}(hl:Ls.length=r.m)(hn:Ls.Nodup)(hF:cv obj Ls (r.fam a Ls)):
 r.c.toSpec.app obj t (r.args a Ls)=⟨True,r.val a,obj⟩:=by
 have iy:=hr.reach a Ls obj hl hn hF
 have tw:Ls.map (cin Ls)=LR r.m:=by rw[BI hn,hl]
 have e1:cF obj (r.args a Ls)=r.fam a (LR r.m):=by
  unfold cF
  rw[iy]
  have ow:=hF
  rw[ke]at ow
  have :Ls.map (cE Ls obj)=(r.fam a Ls).map (O.ren (cin Ls)):=by
   refine List.ext_getElem (by simp[hr.len _ _ hl,hl]) fun i h1 h2=>?_
   have h3:i<Ls.length:=by simpa using h1
   have h4:i<(r.fam a Ls).length:=by rw[hr.len _ _ hl,<-hl];exact h3
   have h5:=congrArg (fun l=>l[i]?) ow
   have h6:obj Ls[i]=some (r.fam a Ls)[i]:=by simpa[h3,h4]using h5
   simp only[List.getElem_map,cE,h6]
  rw[this,hr.renF _ _ _ hl,tw]
 have e2:db obj (r.args a Ls)=r.args a (LR r.m):=by
  unfold db
  rw[iy,hr.renA _ _ _ hl,tw]
 have fC:∀ x∈Ls,cJ Ls x=true:=fun x hx=>gv.2 hx
 have jl:shut obj Ls=true:=by
  unfold shut
  rw[List.all_eq_true]
  intro x hx
  obtain⟨i,hi,rfl⟩:=List.getElem_of_mem hx
  have ow:=hF
  rw[ke]at ow
  have h4:i<(r.fam a Ls).length:=by rw[hr.len _ _ hl,<-hl];exact hi
  have h5:=congrArg (fun l=>l[i]?) ow
  have h6:obj Ls[i]=some (r.fam a Ls)[i]:=by simpa[hi,h4]using h5
  rw[h6]
  exact hr.closF _ _ _ hl fC _ (List.getElem_mem h4)
 have dM:r.c.pre (r.fam a (LR r.m)) (r.args a (LR r.m)):=⟨a,ha,rfl,rfl⟩
 simp only[CSpec.toSpec,e1,e2,iy,Ro.c_out hr ha,jl,hr.closA _ _ _ hl fC,fresh,List.all_nil,Bool.and_self,dM,and_self,dv,cH,hr.vren]
def Jc(P:Program)(rs:List ResultVar)(v:D)(H:Name->Option O)(e:Exit)(σ:S):Prop:=
 (e=.normal\/e=.ret)/\(bX P σ rs).ok/\(bX P σ rs).d=v/\∀ i,σ.obj [i,1]=H [i,1]
theorem DE{σ:S}:∀ {os:List O} {k:Nat},(∀ i (h:i<os.length),σ.obj [k+i,1]=some os[i])->sC σ [] k os
 |[],_,_=>trivial
 |o::r,k,h=>by
  refine⟨by have:=h 0 (by simp);simp only[Nat.add_zero,List.getElem_cons_zero]at this;exact this,DE fun i hi=>?_⟩
  have :=h (i+1) (by simpa using hi)
  rw[show k+1+i=k+(i+1)by omega]
  simpa using this
theorem Ro.sound{P:Program}{r:Ro α}(hr:r.Ok){f:FuncId}{fn:Func}{nt:Nat}{rs:List ResultVar}(hf:P.funcs[f]?=some fn)(cN:fn.ntmps=nt)(bP:fn.results.toList=rs)(hn:(fn.name== "runtime.NumGoroutine")=false)(hy:f<1000000000)
 (hw:∃ c,fn.body=some c/\∀ a,r.ok a->(r.args a (LR r.m)).length<=nt/\CL P [c] (bg nt [0] (aR (r.fam a (LR r.m))) (dj 0 (r.args a (LR r.m))) []) (Jc P rs (r.val a) (aR (r.fam a (LR r.m))))):aL P f r.c.toSpec:=by
 obtain⟨c,hc,hw⟩:=hw
 refine oy hf hc cN bP (iX hf hc hn) (Nat.ne_of_lt (show f<yid from hy)) ?_
 rintro os ds ⟨a,ha,rfl,rfl⟩
 obtain⟨hl,h⟩:=hw a ha
 refine⟨hl,?_⟩
 rw[Ro.c_out hr ha]
 refine CW.mono (iG h) ?_
 rintro e σ ⟨he,h1,h2,h3⟩
 have fin:(bX P σ rs).ok/\(bX P σ rs).d=r.val a/\gQ (r.fam a (LR r.m)) ⟨[],[],r.val a⟩ σ:=by
  refine⟨h1,h2,DE fun i hi=>?_,trivial,?_⟩
  ·rw[Nat.zero_add,h3]
   show (r.fam a (LR r.m))[i]?=_
   rw[List.getElem?_eq_getElem hi]
  ·simp[hr.vcl,distinct]
 rcases he with rfl | rfl
 ·exact fin
 ·exact fin
theorem Ro.outC{r:Ro α}(hr:r.Ok)(a:α):∀ hs,ck [0] (bY [0] hs) (aR (r.fam a (LR r.m)))=True:=fun hs=>eq_true (nP (fun o ho dom hd=>hr.closF a dom _ (pk _) (fun x hx=>by
 obtain⟨i,_,rfl⟩:=List.mem_map.1 hx
 exact hd i) o ho) hs)
set_option maxHeartbeats 8000000
set_option maxRecDepth 10000
noncomputable section
attribute [go_sem] Jc
theorem xg{Ls:List Name}(h:Ls.length=4):∃ a b c d,Ls=[a,b,c,d]:=by
 match Ls,h with
 |[a,b,c,d],_=>exact⟨a,b,c,d,rfl⟩
def lj(x:Vw)(nr nb nd:Name):O:=.box [.v (gk x.l),.v (.sl (x.rs.map encR)),.msl nr x.ts.length,.map nb,.map nd]
def rI(x:Vw)(Ls:List Name):List O:=[lj x (Ls.getD 1 []) (Ls.getD 2 []) (Ls.getD 3 []),.arr 1 (x.ts.map vInt),.map 2 (bS x.bk),.map 0 (bG x.ds)]
theorem aaO{x y:Vw}{a b c:Name}(h:lj x a b c=lj y a b c):x.rs=y.rs:=by
 simp only[lj,O.box.injEq,List.cons.injEq,D.v.injEq,V.sl.injEq]at h
 have :=congrArg (List.map lq) h.2.1
 rwa [Bv,Bv]at this
def j':Ro (Vw×Int) where
 m:=4
 fam:=fun a Ls=>rI a.1 Ls
 args:=fun a Ls=>[.ref (Ls.getD 0 []) 0,.v (vInt a.2)]
 ok:=fun _=>True
 val:=fun a=>.tup [nJ (cW a.1.rs a.2),.v (.bool (cW a.1.rs a.2).isSome)]
theorem Up(o:Option Rec)(f:Name->Name):(nJ o).ren f=nJ o:=by cases o<;>rfl
theorem Di:j'.Ok where
 len:=fun _ _ _=>rfl
 renF:=fun a f Ls h=>by obtain⟨a,b,c,d,rfl⟩:=xg h;rfl
 renA:=fun a f Ls h=>by obtain⟨a,b,c,d,rfl⟩:=xg h;rfl
 reach:=fun x Ls obj h bZ hF=>by
  obtain⟨a,b,c,d,rfl⟩:=xg h
  obtain⟨h1,h2,h3,h4,_⟩:=hF
  have en:cw (j'.args x [a,b,c,d])=[a]:=rfl
  unfold Go.Eng.reach
  rw[en]
  show dk obj (2993+1+1+1+1+1+1+1) _ []=_
  simp only[List.nodup_cons,List.mem_cons,List.not_mem_nil,or_false,not_or,not_false_eq_true,List.nodup_nil,and_true]at bZ
  obtain⟨⟨a1,a2,a3⟩,⟨b1,b2⟩,c1⟩:=bZ
  simp[dk,gv,h1,h2,h3,h4,kQ,cw,ki,lj,Ne.symm a1,Ne.symm a2,Ne.symm a3,Ne.symm b1,Ne.symm b2,Ne.symm c1]
 closF:=fun x dom Ls h hd o ho=>by
  obtain⟨a,b,c,d,rfl⟩:=xg h
  have h1:=hd b (by simp)
  have h2:=hd c (by simp)
  have h3:=hd d (by simp)
  simp only[j',rI,List.mem_cons,List.not_mem_nil,or_false]at ho
  rcases ho with rfl | rfl | rfl | rfl<;>simp[O.clos,D.closL,D.clos,lj,h1,h2,h3]
 closA:=fun x dom Ls h hd=>by
  obtain⟨a,b,c,d,rfl⟩:=xg h
  have h1:=hd a (by simp)
  simp[j',D.closL,D.clos,h1]
 det:=fun a b _ _ h1 h2=>by
  have e1:a.1.rs=b.1.rs:=aaO (List.cons.inj h1).1
  have e2:a.2=b.2:=by
   have :=(List.cons.inj (List.cons.inj h2).2).1
   simpa[vInt]using this
  simp only[j',e1,e2]
 vcl:=fun a dom=>by simp[j',D.clos,D.closL,mz]
 vren:=fun a f=>by simp[j',D.ren,D.renL,Up]
def S77m:Spec:=j'.c.toSpec
theorem X4:aL Tryz.prog 77 S77m:=by
 refine Ro.sound Di (rs:=[.cell 4 36,.tmp 5]) Tryz.func77 Tryz.ntmps77 (by rfl) (by kernel_rfl) (by decide) ⟨_,rfl,?_⟩
 rintro⟨x,s⟩ _
 refine⟨lb rfl,?_⟩
 have hΓ:=Rm
 have hO:=Ro.outC Di (x,s)
 have h0:aR (j'.fam (x,s) (LR j'.m)) [0,1]=some (lj x [1,1] [2,1] [3,1]):=rfl
 generalize aR (j'.fam (x,s) (LR j'.m))=H at *
 have ha:j'.args (x,s) (LR j'.m)=[.ref [0,1] 0,.v (vInt s)]:=rfl
 have hv:j'.val (x,s)=.tup [nJ (cW x.rs s),.v (.bool (cW x.rs s).isSome)]:=rfl
 rw[ha,hv]
 simp only[lj,dj,Nat.zero_add]at h0 |-
 repeat refine sq ?_
 refine rx hΓ [0,3,4] [[3,0],[4,0]] (fun K' hK=>by simp only[go_sem,hO,h0];(repeat (refine⟨an,?_⟩));exact hK _ (by simp only[go_sem,hO,h0]) (by simp only[go_sem,hO,h0]<;>rfl)) ?_
 repeat refine sq ?_
 refine rx hΓ [0,4,6] [[4,0]] (fun K' hK=>by simp only[go_sem,hO,h0,true_or,or_true];(repeat (refine⟨an,?_⟩));exact hK _ (by simp only[go_sem,hO,h0,true_or,or_true]) (by simp only[go_sem,hO,h0,true_or,or_true]<;>rfl)) ?_
 repeat refine sq ?_
 refine rx hΓ [0,4,6,14] [[4,0]] (fun K' hK=>by simp only[go_sem,hO,h0];(repeat (refine⟨an,?_⟩));exact hK _ (by simp only[go_sem,hO,h0]) (by simp only[go_sem,hO,h0]<;>rfl)) ?_
 repeat refine sq ?_
 refine ay (fun hb=>?_) fun hb=>?_
 ·repeat refine sq ?_
  have e:cW x.rs s=none:=Jz (by simpa using hb)
  repeat refine sq ?_
  refine rx hΓ [4,5] [[4,0]] (fun K' hK=>by simp only[go_sem,hO,h0];(repeat (refine⟨an,?_⟩));exact hK _ (by simp only[go_sem,hO,h0]) (by simp only[go_sem,hO,h0]<;>rfl)) ?_
  refine aA ?_
  simp only[go_sem,hO,h0]
  rw[e];exact⟨.inr trivial,rfl⟩
 ·repeat refine sq ?_
  obtain⟨i,hi,e1,e⟩:=Jy (by simpa using hb)
  have bK:(i:Int)<x.rs.length:=by omega
  rw[e1]
  refine aE ?_
  repeat refine sq ?_
  refine rx hΓ [4,5] [[4,0]] (fun K' hK=>by simp only[go_sem,hO,h0,ah hi,ai,aj,bK];(repeat (refine⟨an,?_⟩));exact hK _ (by simp only[go_sem,hO,h0,ah hi,ai,aj,bK]) (by simp only[go_sem,hO,h0,ah hi,ai,aj,bK]<;>rfl)) ?_
  refine aA ?_
  simp only[go_sem,hO,h0]
  rw[e];exact⟨.inr trivial,rfl⟩
def nL(r:Rec):V:=.ptr [vInt r.so,vInt r.bo,vInt r.pa,.sl (r.lv.map vInt),vInt r.da,vInt r.kn,vInt r.un]
theorem JI{a b:Rec}(h:nL a=nL b):a=b:=by
 refine Jx ?_
 obtain⟨a1,a2,a3,al,a4,a5,a6⟩:=a
 obtain⟨b1,b2,b3,bl,b4,b5,b6⟩:=b
 simp only[nL,V.ptr.injEq,List.cons.injEq,and_true]at h
 simp only[gW,D.agg.injEq,List.cons.injEq,D.v.injEq,and_true]
 exact h
def jd(bk:Bk)(r:Rec)(f:Int):Bool:=(bu bk (r.so,f)).isSome||!r.lv.contains f
def uD{β:Type}(ar:β->Rec->Name->List D)(ok:β->Prop)(val:Bk->Rec->β->V):Ro (Vw×Rec×β) where
 m:=5
 fam:=fun a Ls=>.box [.ref (Ls.getD 1 []) 0]::rI a.1 (Ls.drop 1)
 args:=fun a Ls=>ar a.2.2 a.2.1 (Ls.getD 0 [])
 ok:=fun a=>ok a.2.2
 val:=fun a=>.v (val a.1.bk a.2.1 a.2.2)
theorem H4{β:Type}{ar:β->Rec->Name->List D}{ok:β->Prop}{val:Bk->Rec->β->V}(h1:∀ b r n,cw (ar b r n)=[n])(h2:∀ f b r n,D.renL f (ar b r n)=ar b r (f n))(h3:∀ dom b r n,dom n=true->D.closL dom (ar b r n)=true)
 (h4:∀ b r b' r' n,ar b r n=ar b' r' n->b=b'/\r=r'):(uD ar ok val).Ok where
 len:=fun _ _ _=>rfl
 renF:=fun a f Ls h=>by obtain⟨a,b,c,d,e,rfl⟩:=lL h;rfl
 renA:=fun a f Ls h=>by obtain⟨a,b,c,d,e,rfl⟩:=lL h;exact h2 _ _ _ _
 reach:=fun x Ls obj h bZ hF=>by
  obtain⟨a,b,c,d,e,rfl⟩:=lL h
  obtain⟨k1,k2,k3,k4,k5,_⟩:=hF
  have en:cw ((uD ar ok val).args x [a,b,c,d,e])=[a]:=h1 _ _ _
  unfold Go.Eng.reach
  rw[en]
  show dk obj (2993+1+1+1+1+1+1+1) _ []=_
  simp only[List.nodup_cons,List.mem_cons,List.not_mem_nil,or_false,not_or,not_false_eq_true,List.nodup_nil,and_true]at bZ
  obtain⟨⟨a1,a2,a3,a4⟩,⟨b1,b2,b3⟩,⟨c1,c2⟩,d1⟩:=bZ
  simp[dk,gv,k1,k2,k3,k4,k5,kQ,cw,ki,lj,Ne.symm a1,Ne.symm a2,Ne.symm a3,Ne.symm a4,Ne.symm b1,Ne.symm b2,Ne.symm b3,Ne.symm c1,Ne.symm c2,Ne.symm d1]
 closF:=fun x dom Ls h hd o ho=>by
  obtain⟨a,b,c,d,e,rfl⟩:=lL h
  have h1:=hd b (by simp)
  have h2:=hd c (by simp)
  have h3:=hd d (by simp)
  have h4:=hd e (by simp)
  simp only[uD,rI,List.drop_succ_cons,List.drop_zero,List.mem_cons,List.not_mem_nil,or_false]at ho
  rcases ho with rfl | rfl | rfl | rfl | rfl<;>simp[O.clos,D.closL,D.clos,lj,h1,h2,h3,h4]
 closA:=fun x dom Ls h hd=>by
  obtain⟨a,b,c,d,e,rfl⟩:=lL h
  exact h3 _ _ _ _ (hd a (by simp))
 det:=fun a b _ _ k1 k2=>by
  have e1:a.1.bk=b.1.bk:=by
   have :=(List.cons.inj (List.cons.inj (List.cons.inj (List.cons.inj k1).2).2).2).1
   simp only[O.map.injEq,true_and]at this
   have :=congrArg Bz this
   rwa [GR,GR]at this
  obtain⟨e2,e3⟩:=h4 _ _ _ _ _ k2
  simp only[uD,e1,e2,e3]
 vcl:=fun _ _=>rfl
 vren:=fun _ _=>rfl
def tkRo:Ro (Vw×Rec×Int):=uD (fun f r n=>[.v (vInt f),.ref n 0,.v (nL r)]) (fun _=>True) (fun bk r f=>.bool (jd bk r f))
theorem CC:tkRo.Ok:=H4 (fun _ _ _=>rfl) (fun _ _ _ _=>rfl) (fun dom b r n h=>by simp[D.closL,D.clos,h]) (fun b r b' r' n h=>by
 simp only[List.cons.injEq,D.v.injEq,and_true,true_and]at h
 exact⟨by simpa[vInt]using h.1,JI h.2⟩)
def S163m:Spec:=tkRo.c.toSpec
def K28a:List (Nat×Spec):=[(108,yY)]
theorem aem:KS K28a:=tc zz.sound<|tn
attribute [go_sem] K28a
theorem X9:aL Tryz.prog 163 S163m:=by
 refine Ro.sound CC (rs:=[.tmp 4]) Tryz.func163 Tryz.ntmps163 (by rfl) (by kernel_rfl) (by decide) ⟨_,rfl,?_⟩
 rintro⟨x,r,f⟩ _
 refine⟨lb rfl,?_⟩
 have hΓ:=aem
 have hP:=eK
 have hO:=Ro.outC CC (x,r,f)
 have h0:aR (tkRo.fam (x,r,f) (LR tkRo.m)) [0,1]=some (.box [.ref [1,1] 0]):=rfl
 have h1:aR (tkRo.fam (x,r,f) (LR tkRo.m)) [1,1]=some (lj x [2,1] [3,1] [4,1]):=rfl
 have h3:aR (tkRo.fam (x,r,f) (LR tkRo.m)) [3,1]=some (.map 2 (bS x.bk)):=rfl
 generalize aR (tkRo.fam (x,r,f) (LR tkRo.m))=H at *
 have ha:tkRo.args (x,r,f) (LR tkRo.m)=[.v (vInt f),.ref [0,1] 0,.v (nL r)]:=rfl
 have hv:tkRo.val (x,r,f)=.v (.bool (jd x.bk r f)):=rfl
 rw[ha,hv]
 simp only[lj,dj,Nat.zero_add,nL]at h1 |-
 repeat refine sq ?_
 refine rx hΓ [0,1,2] [] (fun K' hK=>by simp only[go_sem,hO,h0,h1,h3];(repeat (refine⟨an,?_⟩));exact hK _ (by simp only[go_sem,hO,h0,h1,h3]) (by simp only[go_sem,hO,h0,h1,h3]<;>rfl)) ?_
 repeat refine sq ?_
 refine dx hΓ hP [[],[0],[0,1],[0,1,2],[],[4],[],[4,5,6],u8,u9,ca,ca,dX,gT] [0,2,6] [] (by kernel_rfl) (fun K' hK=>by simp only[go_sem,hO,h0,h1,h3,ax];(repeat (refine⟨an,?_⟩));(first | refine⟨by rfl,?_⟩ | skip);exact hK _ (by simp only[go_sem,hO,h0,h1,h3,ax]) (by simp only[go_sem,hO,h0,h1,h3,ax]<;>rfl)) ?_
 repeat refine sq ?_
 refine rx hΓ [4] [] (fun K' hK=>by simp only[go_sem,hO,h0,h1,h3];(repeat (refine⟨an,?_⟩));exact hK _ (by simp only[go_sem,hO,h0,h1,h3]) (by simp only[go_sem,hO,h0,h1,h3]<;>rfl)) ?_
 refine aA ?_
 simp only[go_sem,hO,h0,h1,h3]
 exact⟨.inr trivial,by unfold jd;cases bu x.bk (r.so,f)<;>rfl⟩
def iH(v:Bk->Rec->List Int->V):Ro (Vw×Rec×List Int):=uD (fun l r n=>[.v (.sl (l.map vInt)),.clo (.func 163) [] [.ref n 0,.v (nL r)]]) (fun l=>l.length<=maxLen) v
theorem wg(v:Bk->Rec->List Int->V):(iH v).Ok:=H4 (fun _ _ _=>rfl) (fun _ _ _ _=>rfl) (fun dom b r n h=>by simp[D.closL,D.clos,h]) (fun b r b' r' n h=>by
 simp only[List.cons.injEq,D.v.injEq,D.clo.injEq,V.sl.injEq,and_true,true_and]at h
 refine⟨?_,JI h.2⟩
 have :=congrArg (List.map kD) h.1
 rwa [o7,o7]at this)
def mJ(bk:Bk)(r:Rec)(l:List Int):V:=vInt (dJ (jd bk r) l)
def nc(bk:Bk)(r:Rec)(l:List Int):V:=.bool (l.any (jd bk r))
def S192m:Spec:=(iH mJ).c.toSpec
def S160m:Spec:=(iH nc).c.toSpec
def HS:FuncId->Option Spec:=fun f=>if f=163 then some S163m else none
theorem ael:∀ f s,HS f=some s->aL Tryz.prog f s:=fun f s h=>by
 unfold HS at h
 split at h
 ·rename_i e;cases h;subst e;exact X9
 ·cases h
theorem HR:HS 163=some S163m:=rfl
theorem X7:aL Tryz.prog 192 S192m:=by
 refine Ro.sound (wg mJ) (rs:=[.tmp 4]) Tryz.func192 Tryz.ntmps192 (by rfl) (by kernel_rfl) (by decide) ⟨_,rfl,?_⟩
 rintro⟨x,r,l⟩ hl
 replace hl:l.length<=maxLen:=hl
 refine⟨lb rfl,?_⟩
 have hΓ:=ael
 have hO:=Ro.outC (wg mJ) (x,r,l)
 have eO:cv (aR ((iH mJ).fam (x,r,l) (LR (iH mJ).m))) (LR 5) ((iH mJ).fam (x,r,l) (LR 5)):=⟨rfl,rfl,rfl,rfl,rfl,trivial⟩
 generalize aR ((iH mJ).fam (x,r,l) (LR (iH mJ).m))=H at *
 have qc:∀ (F:Name->Option O) (t:Name) (f:Int),S163m.app (fun nm=>if own [0] nm=true then F nm else H nm) t [.v (vInt f),.ref [0,1] 0,.v (nL r)]=⟨True,.v (.bool (jd x.bk r f)),fun nm=>if own [0] nm=true then F nm else H nm⟩:=fun F t f=>Ro.c_app CC (a:=(x,r,f)) trivial (t:=t) (obj:=fun nm=>if own [0] nm=true then F nm else H nm) (Ls:=LR 5) rfl (Ri 5) (z5 eO fun y hy=>by
  obtain⟨i,_,rfl⟩:=List.mem_map.1 hy
  simp[qL])
 have ha:(iH mJ).args (x,r,l) (LR (iH mJ).m)=[.v (.sl (l.map vInt)),.clo (.func 163) [] [.ref [0,1] 0,.v (nL r)]]:=rfl
 have hv:(iH mJ).val (x,r,l)=.v (vInt (dJ (jd x.bk r) l)):=rfl
 rw[ha,hv]
 simp only[dj,Nat.zero_add]
 repeat refine sq ?_
 refine rx hΓ [0,1] [] (fun K' hK=>by simp only[go_sem,hO];(repeat (refine⟨an,?_⟩));exact hK _ (by simp only[go_sem,hO]) (by simp only[go_sem,hO]<;>rfl)) ?_
 repeat refine sq ?_
 refine rx hΓ [0,1,7,8] [] (fun K' hK=>by simp only[go_sem,hO];(repeat (refine⟨an,?_⟩));exact hK _ (by simp only[go_sem,hO]) (by simp only[go_sem,hO]<;>rfl)) ?_
 repeat refine sq ?_
 refine aN ?_
 repeat refine sq ?_
 refine cB (fun s:Nat=>[(8,⟨true,.v (vInt s)⟩)]) (fun s=>[]) (fun s=>s<=l.length/\∀ k (h:k<l.length),k<s->jd x.bk r l[k]=false) (fun s=>l.length-s) 0 ?_ ?_ ?_ ?_
 ·exact⟨Nat.zero_le _,by simp⟩
 ·rfl
 ·rfl
 rintro i ⟨hi,hR⟩
 simp only[go_sem]
 repeat refine sq ?_
 refine rx hΓ [0,1,7,8,9] [] (fun K' hK=>by simp only[go_sem,hO];(repeat (refine⟨an,?_⟩));exact hK _ (by simp only[go_sem,hO]) (by simp only[go_sem,hO]<;>rfl)) ?_
 repeat refine sq ?_
 refine ay (fun hb=>?_) fun hb=>?_
 ·have ab:i<l.length:=by simpa using hb
  have au:(i:Int)<l.length:=by omega
  clear hb
  repeat refine sq ?_
  refine aE ?_
  repeat refine sq ?_
  refine aN ?_
  repeat refine sq ?_
  refine rx hΓ [0,1,5,7,8] [] (fun K' hK=>by simp only[go_sem,hO,ah ab,ai,aj,au];(repeat (refine⟨an,?_⟩));exact hK _ (by simp only[go_sem,hO,ah ab,ai,aj,au]) (by simp only[go_sem,hO,ah ab,ai,aj,au]<;>rfl)) ?_
  repeat refine sq ?_
  refine rx hΓ [0,1,5,7,8,16] [] (fun K' hK=>by simp only[go_sem,hO,ah ab,ai,aj,au,HR,qc];(repeat (refine⟨an,?_⟩));exact hK _ (by simp only[go_sem,hO,ah ab,ai,aj,au,HR,qc]) (by simp only[go_sem,hO,ah ab,ai,aj,au,HR,qc]<;>rfl)) ?_
  repeat refine sq ?_
  refine ay (fun hb=>?_) fun hb=>?_
  ·repeat refine sq ?_
   refine rx hΓ [4] [] (fun K' hK=>by simp only[go_sem,hO,ah ab,ai,aj,au];(repeat (refine⟨an,?_⟩));exact hK _ (by simp only[go_sem,hO,ah ab,ai,aj,au]) (by simp only[go_sem,hO,ah ab,ai,aj,au]<;>rfl)) ?_
   refine aA ?_
   simp only[go_sem,hO]
   rw[sN (p:=jd x.bk r) ab (by simpa using hb) hR];exact⟨.inr trivial,rfl⟩
  ·repeat refine sq ?_
   refine aE ?_
   refine bQ ?_
   simp only[go_sem]
   refine eG [0,1,7,8] [] ?_ ?_
   ·simp only[go_sem,hO]
   simp only[go_sem,hO]
   repeat refine sq ?_
   refine aP hΓ fun K' hK=>?_
   simp only[go_sem,hO,ah ab,ai,aj,au]
   repeat (refine⟨an,?_⟩)
   refine hK _ ?_
   clear K' hK
   simp only[go_sem]
   refine⟨i+1,⟨ab,?_⟩,by(show l.length-(i+1)<l.length-i;omega),?_⟩
   ·intro k hk dO
    rcases Nat.lt_succ_iff_lt_or_eq.1 dO with h5 | rfl
    ·exact hR k hk h5
    ·simpa using hb
   refine bd [0,1,7,8] [] ?_ ?_<;>simp only[go_sem,a7 ab hl,bb,hO]
 ·have bB:i=l.length:=by
   have :¬ (i:Int)<l.length:=by simpa using hb
   omega
  clear hb
  subst bB
  repeat refine sq ?_
  refine bT ?_
  simp only[go_sem]
  refine eG [] [] ?_ ?_
  ·simp only[go_sem,hO]
  simp only[go_sem,hO]
  repeat refine sq ?_
  refine rx hΓ [4] [] (fun K' hK=>by simp only[go_sem,hO];(repeat (refine⟨an,?_⟩));exact hK _ (by simp only[go_sem,hO]) (by simp only[go_sem,hO]<;>rfl)) ?_
  refine aA ?_
  simp only[go_sem,hO]
  rw[xv (p:=jd x.bk r) fun k hk=>hR k hk hk];exact⟨.inr trivial,rfl⟩
def HQ:FuncId->Option Spec:=fun f=>if f=192 then some S192m else none
theorem aek:∀ f s,HQ f=some s->aL Tryz.prog f s:=fun f s h=>by
 unfold HQ at h
 split at h
 ·rename_i e;cases h;subst e;exact X7
 ·cases h
theorem HP:HQ 192=some S192m:=rfl
theorem X':aL Tryz.prog 160 S160m:=by
 refine Ro.sound (wg nc) (rs:=[.tmp 4]) Tryz.func160 Tryz.ntmps160 (by rfl) (by kernel_rfl) (by decide) ⟨_,rfl,?_⟩
 rintro⟨x,r,l⟩ hl
 replace hl:l.length<=maxLen:=hl
 refine⟨lb rfl,?_⟩
 have hΓ:=aek
 have hO:=Ro.outC (wg nc) (x,r,l)
 have eO:cv (aR ((iH nc).fam (x,r,l) (LR (iH nc).m))) (LR 5) ((iH nc).fam (x,r,l) (LR 5)):=⟨rfl,rfl,rfl,rfl,rfl,trivial⟩
 generalize aR ((iH nc).fam (x,r,l) (LR (iH nc).m))=H at *
 have qc:∀ (F:Name->Option O) (t:Name),S192m.app (fun nm=>if own [0] nm=true then F nm else H nm) t [.v (.sl (l.map vInt)),.clo (.func 163) [] [.ref [0,1] 0,.v (nL r)]]=⟨True,.v (vInt (dJ (jd x.bk r) l)),fun nm=>if own [0] nm=true then F nm else H nm⟩:=fun F t=>Ro.c_app (wg mJ) (a:=(x,r,l)) hl (t:=t) (obj:=fun nm=>if own [0] nm=true then F nm else H nm) (Ls:=LR 5) rfl (Ri 5) (z5 eO fun y hy=>by
  obtain⟨i,_,rfl⟩:=List.mem_map.1 hy
  simp[qL])
 have ha:(iH nc).args (x,r,l) (LR (iH nc).m)=[.v (.sl (l.map vInt)),.clo (.func 163) [] [.ref [0,1] 0,.v (nL r)]]:=rfl
 have hv:(iH nc).val (x,r,l)=.v (.bool (l.any (jd x.bk r))):=rfl
 rw[ha,hv]
 simp only[dj,Nat.zero_add]
 repeat refine sq ?_
 refine rx hΓ [0,1] [] (fun K' hK=>by simp only[go_sem,hO];(repeat (refine⟨an,?_⟩));exact hK _ (by simp only[go_sem,hO]) (by simp only[go_sem,hO]<;>rfl)) ?_
 repeat refine sq ?_
 refine rx hΓ [4] [] (fun K' hK=>by simp only[go_sem,hO,HP,qc,xw];(repeat (refine⟨an,?_⟩));exact hK _ (by simp only[go_sem,hO,HP,qc,xw]) (by simp only[go_sem,hO,HP,qc,xw]<;>rfl)) ?_
 refine aA ?_
 simp only[go_sem,hO]
 first | exact .inr trivial | exact⟨.inr trivial,rfl⟩
end
theorem acm(b:Bk)(q p:Int×Int)(i:Int):bu (rY b q i) p=if q=p then some i else bu b p:=by
 induction b with
 |nil=>rfl
 |cons e r ih=>
  obtain⟨k,j⟩:=e
  simp only[rY]
  by_cases h:k=q
  ·rw[if_pos h]
   subst h
   simp only[bu]
   split<;>rfl
  ·rw[if_neg h]
   simp only[bu,ih]
   by_cases h2:k=p
   ·subst h2
    rw[if_pos rfl,if_pos rfl,if_neg (fun e=>h e.symm)]
   ·rw[if_neg h2,if_neg h2]
theorem Hg(so i:Int)(lv:List Int)(b:Bk)(s f:Int):bu (qs b so i lv) (s,f)=if s=so/\f∈lv then some i else bu b (s,f):=by
 induction lv generalizing b with
 |nil=>simp[qs]
 |cons a r ih=>
  show bu (qs (rY b (so,a) i) so i r) (s,f)=_
  rw[ih,acm]
  by_cases h1:s=so
  ·subst h1
   by_cases h2:f∈r
   ·simp[h2]
   ·by_cases h3:a=f
    ·subst h3;simp[h2]
    ·have h4:¬ f=a:=fun e=>h3 e.symm
     simp[h2,h3,h4]
  ·have h4:¬ (so,a)=(s,f):=fun e=>h1 (by cases e;rfl)
   simp[h1,h4]
theorem Kt{k:Int}{rs:List Rec}{bk:Bk}{x:Ret}{r:Rec}(h:gG k rs bk x=some r):cW rs x.re=some r/\bI x.kn x.un k=true/\¬ bJ x.lo (r.da+1)>x.hi/\x.lv.any (jd bk r)=false:=by
 unfold gG at h
 split at h
 ·cases h
 ·rename_i q hq
  split at h
  ·rename_i hc
   cases h
   simp only[Bool.and_eq_true,Bool.not_eq_true',Bool.or_eq_false_iff,decide_eq_false_iff_not]at hc
   exact⟨hq,hc.1,hc.2.1,hc.2.2⟩
  ·cases h
theorem VB{k:Int}{rs:List Rec}{bk:Bk}{x:Ret}(h:cW rs x.re=none):gG k rs bk x=none:=by
 unfold gG;rw[h]
theorem VA{k:Int}{rs:List Rec}{bk:Bk}{x:Ret}{r:Rec}(h:cW rs x.re=some r)(hc:bI x.kn x.un k=false):gG k rs bk x=none:=by
 unfold gG;rw[h];simp[hc]
theorem Vz{k:Int}{rs:List Rec}{bk:Bk}{x:Ret}{r:Rec}(h:cW rs x.re=some r)(hc:(decide (bJ x.lo (r.da+1)>x.hi)||x.lv.any (jd bk r))=true):gG k rs bk x=none:=by
 unfold gG;rw[h]
 have iA:(decide (bJ x.lo (r.da+1)>x.hi)||x.lv.any fun f=>(bu bk (r.so,f)).isSome||!r.lv.contains f)=true:=hc
 simp only[iA,Bool.not_true,Bool.and_false,Bool.false_eq_true,if_false]
theorem Vy{k:Int}{rs:List Rec}{bk:Bk}{x:Ret}{r:Rec}(h:cW rs x.re=some r)(h1:bI x.kn x.un k=true)(hc:(decide (bJ x.lo (r.da+1)>x.hi)||x.lv.any (jd bk r))=false):gG k rs bk x=some r:=by
 unfold gG;rw[h]
 have iA:(decide (bJ x.lo (r.da+1)>x.hi)||x.lv.any fun f=>(bu bk (r.so,f)).isSome||!r.lv.contains f)=false:=hc
 simp only[iA,h1,Bool.not_false,Bool.and_true,if_true]
theorem xn{l:Led}{k:Int}{i:Nat}(h:gG k (bn l k) (aC l k i).bk (aG l i)=none):aC l k (i+1)=aC l k i:=by
 show mH l k (aC l k i) i=_
 unfold mH
 rw[(pO l k i).2,h]
theorem D5{l:Led}{k:Int}{i:Nat}{r:Rec}(h:gG k (bn l k) (aC l k i).bk (aG l i)=some r):aC l k (i+1)=
 { aC l k i with bk:=qs (aC l k i).bk r.so i (aG l i).lv,ts:=(aC l k i).ts++[(i:Int)],ds:=ox (aC l k i).ds i (bJ (aG l i).lo (r.da+1),(aG l i).hi) }:=by
 show mH l k (aC l k i) i=_
 have h':gG k (aC l k i).rs (aC l k i).bk (aG l i)=some r:=by rw[(pO l k i).2];exact h
 unfold mH
 rw[h']
structure adC (l:Led) (k:Int) (i:Nat):Prop where
 bk:∀ q j,bu (aC l k i).bk q=some j->0<=j/\j<l.ts.length
 tn:(aC l k i).ts.length<=i
 ts:∀ j∈(aC l k i).ts,(0<=j/\j<l.ts.length)/\∃ r,cW (bn l k) (aG l j.toNat).re=some r
theorem Af(l:Led)(k:Int):∀ i,i<=l.ts.length->adC l k i
 | 0,_=>⟨fun q j (h:none=some j)=>(by cases h),Nat.le_refl 0,fun j (h:j∈([]:List Int))=>(by cases h)⟩
 |i+1,hi=>by
  have ih:=Af l k i (by omega)
  cases hn:gG k (bn l k) (aC l k i).bk (aG l i)with
  |none=>
   have e:=xn hn
   exact⟨by rw[e];exact ih.bk,by rw[e];exact Nat.le_succ_of_le ih.tn,by rw[e];exact ih.ts⟩
  |some r=>
   have e:=D5 hn
   refine⟨?_,?_,?_⟩
   ·rintro⟨s,f⟩ j h
    rw[e]at h
    simp only[Hg]at h
    split at h
    ·cases h;omega
    ·exact ih.bk _ _ h
   ·rw[e]
    have :=ih.tn
    simp;omega
   ·intro j hj
    rw[e]at hj
    rcases List.mem_append.1 hj with hj | hj
    ·exact ih.ts j hj
    ·simp only[List.mem_singleton]at hj
     subst hj
     exact⟨by omega,r,by rw[Int.toNat_natCast];exact(Kt hn).1⟩
theorem qH{rs:List Rec}{s:Int}{r:Rec}(h:cW rs s=some r):r∈rs/\r.so=s:=by
 unfold cW at h
 exact⟨List.mem_of_find?_eq_some h,by simpa using List.find?_some h⟩
theorem Db{l:Led}(h:bA l)(k:Int):∀ r∈bn l k,eh r=true:=fun r hr=>h.recs r ((List.mem_filter.1 hr).1)
theorem Jr{l:Led}(h:bA l)(k:Int):(bn l k).length<=60:=Nat.le_trans (List.length_filter_le _ _) h.rsn
theorem Jq{l:Led}(h:bA l)(k:Int):(bn l k).Nodup:=by
 refine List.Nodup.sublist List.filter_sublist ?_
 have hs:srt Rec.so l.rs:=w9 (kH.1 h.rs)
 rw[List.nodup_iff_pairwise_ne,List.pairwise_iff_getElem]
 intro i j hi hj bF e
 have :=hs i j hi hj bF
 rw[e]at this
 omega
theorem sJ{l:Led}(h:bA l)(k:Int):nA (aq l k)/\(aq l k).rs.Nodup:=by
 have hk:=Af l k l.ts.length (Nat.le_refl _)
 obtain⟨e1,e2⟩:=pO l k l.ts.length
 refine⟨⟨?_,?_,?_,?_,?_,?_⟩,?_⟩
 ·show bA (aC l k l.ts.length).l;rw[e1];exact h
 ·show ∀ q i,bu (aC l k l.ts.length).bk q=some i->0<=i/\i<(aC l k l.ts.length).l.ts.length
  rw[e1];exact hk.bk
 ·show ∀ r∈(aC l k l.ts.length).rs,_;rw[e2];exact Db h k
 ·show (aC l k l.ts.length).rs.length<=60;rw[e2];exact Jr h k
 ·exact Nat.le_trans hk.tn h.tsn
 ·show ∀ i∈(aC l k l.ts.length).ts,0<=i/\i<(aC l k l.ts.length).l.ts.length
  rw[e1];exact fun i hi=>(hk.ts i hi).1
 ·show (aC l k l.ts.length).rs.Nodup;rw[e2];exact Jq h k
noncomputable section
theorem OR{α:Type}{p:α->Bool}{l:List α}{i:Nat}(h:i<l.length):((l.take (i+1)).filter p)=(l.take i).filter p++(if p l[i]=true then[l[i]]else[]):=qB h
def wv:FuncId->Option Spec:=fun f=>if f=77 then some S77m else if f=160 then some S160m else if f=162 then some S162 else if f=164 then some S164 else none
theorem aej:∀ f s,wv f=some s->aL Tryz.prog f s:=fun f s h=>by
 unfold wv at h
 split at h
 ·rename_i e;cases h;subst e;exact X4
 ·split at h
  ·rename_i e;cases h;subst e;exact X'
  ·split at h
   ·rename_i e;cases h;subst e;exact MX
   ·split at h
    ·rename_i e;cases h;subst e;exact Es
    ·cases h
@[go_sem] theorem ais:wv 77=some S77m:=rfl
@[go_sem] theorem aiv:wv 160=some S160m:=rfl
@[go_sem] theorem aiu:wv 162=some S162:=rfl
@[go_sem] theorem ait:wv 164=some S164:=rfl
def nH(l:Led)(k:Int)(s:Nat):List Rec:=(l.rs.take s).filter fun r=>bI r.kn r.un k
theorem T7(l:Led)(k:Int):nH l k l.rs.length=bn l k:=by unfold nH bn;rw[List.take_length]
theorem T4{l:Led}{k:Int}{i:Nat}(h:i<l.rs.length)(hc:bI l.rs[i].kn l.rs[i].un k=true):nH l k (i+1)=nH l k i++[l.rs[i]]:=by
 unfold nH;rw[OR h,if_pos hc]
theorem T5{l:Led}{k:Int}{i:Nat}(h:i<l.rs.length)(hc:bI l.rs[i].kn l.rs[i].un k=false):nH l k (i+1)=nH l k i:=by
 unfold nH;rw[OR h,if_neg (by rw[hc];decide)];simp
theorem T6(l:Led)(k:Int)(i:Nat):(nH l k i).length<=l.rs.length:=Nat.le_trans (List.length_filter_le _ _) (by simp;omega)
attribute [go_sem] cv
def K29b:List (Nat×Spec):=[(77,S77),(164,S164),(165,S165)]
theorem aei:KS K29b:=tc MW<|tc Es<|tc Er<|tn
attribute [go_sem] K29b
theorem V6(l:Led)(k i j:Int)(n:Nat)(x:Vw)(r:Rec)(lv:List Int):Cq (jh l k i j n x r lv) (kG 4 r.pa lv) where
 ren:=fun f Ls h=>by obtain⟨a,b,c,d,e,rfl⟩:=lL h;rfl
 clo:=fun dom Ls h hd=>by
  obtain⟨a,b,c,d,e,rfl⟩:=lL h
  have h4:=hd e (by simp)
  simp[D.closL,D.clos,h4,kG]
 reach:=fun Ls s obj R q h bZ hF h0=>by
  obtain⟨a,b,c,d,e,rfl⟩:=lL h
  obtain⟨h1,h2,h3,h4,h5,_⟩:=hF
  have en:cw (((jh l k i j n x r lv).env [a,b,c,d,e]).map (·.d))=[a,e]:=rfl
  have ec:cw (kG 4 r.pa lv [a,b,c,d,e])=[e]:=rfl
  rw[ec]
  show dk obj (q+90+1+1+1+1+1+1+1+1+1+1+1) _ []=_
  simp only[List.nodup_cons,List.mem_cons,List.not_mem_nil,or_false,not_or,not_false_eq_true,List.nodup_nil,and_true]at bZ
  obtain⟨⟨r1,r2,r3,r4,r5⟩,⟨a1,a2,a3,a4⟩,⟨b1,b2,b3⟩,⟨c1,c2⟩,e1⟩:=bZ
  simp[dk,gv,h0,h1,h2,h3,h4,h5,Lp.rc,kQ,en,cw,ki,bt,Ne.symm r1,Ne.symm r2,Ne.symm r3,Ne.symm r4,Ne.symm r5,Ne.symm a1,Ne.symm a2,Ne.symm a3,Ne.symm a4,Ne.symm b1,Ne.symm b2,Ne.symm b3,Ne.symm c1,Ne.symm c2,Ne.symm e1]
theorem acn(b:Bk)(so i:Int){lv:List Int}{s:Nat}(h:s<lv.length):qs b so i (lv.take (s+1))=rY (qs b so i (lv.take s)) (so,lv[s]) i:=by
 unfold qs
 rw[List.take_add_one,List.getElem?_eq_getElem h,List.foldl_append]
 rfl
def Cl:NSpec:=n2 lS iI (fun l _=>bA l) (fun l k=>[([26,0],bt (aq l k) [23,0] [24,0]),([23,0],.map 2 (bS (aq l k).bk)),([24,0],.map 0 (bG (aq l k).ds))]) (fun _ _=>.ref [26,0] 0)
def S76:Spec:=Cl.toSpec
attribute [go_sem] Cl S76
set_option maxHeartbeats 16000000 in
theorem Ep:aL Tryz.prog 76 S76:=by
 refine DK (nt:=181) (rs:=[.tmp 4]) Tryz.func76 rfl (by rfl) (by kernel_rfl) (by kernel_rfl) (by decide) ?_
 intro xs hp
 obtain⟨l,k,rfl,hp,eF,dP⟩:=DR hp
 replace eF:Cl.new _=_:=eF
 replace dP:Cl.d _=_:=dP
 rw[eF,dP]
 clear eF dP
 refine⟨lb rfl,?_⟩
 have hP:=eK
 simp only[iI,iB,dL,iP,iR,iT,iS,iL,lS,fP,iC,iF,cP,encR,c9,encS,ft,gk,List.map_cons,List.map_nil,dj,Nat.zero_add]
 have hΓ:=aej
 have AT:l.rs.length<=maxLen:=by have:=hp.rsn;unfold maxLen;omega
 have ku:l.ts.length<=maxLen:=by have:=hp.tsn;unfold maxLen;omega
 repeat refine sq ?_
 refine rx hΓ [0,1] [] (fun K' hK=>by simp only[go_sem];exact ak) ?_
 repeat refine sq ?_
 refine rx hΓ [0,1,5] [[5,0],[23,0],[24,0],[26,0],[49,0],[124,0]] (fun K' hK=>by simp only[go_sem];exact ak) ?_
 refine bD (mo [26,0] [49,0] 1 7 _ rfl rfl rfl [0,1,5] [[5,0],[23,0],[24,0],[26,0],[49,0],[124,0]] ?_ rfl) ?_
 ·simp only[go_sem,List.set_cons_succ,List.set_cons_zero]
 simp only[go_sem,List.set_cons_succ,List.set_cons_zero]
 refine bD (mo [26,0] [124,0] 2 1 _ rfl rfl rfl [0,1,5] [[5,0],[23,0],[24,0],[26,0],[49,0],[124,0]] ?_ rfl) ?_
 ·simp only[go_sem,List.set_cons_succ,List.set_cons_zero]
 simp only[go_sem,List.set_cons_succ,List.set_cons_zero]
 repeat refine sq ?_
 refine rx hΓ [0,1,5,30,31,32] [[5,0],[23,0],[24,0],[26,0],[49,0],[124,0]] (fun K' hK=>by simp only[go_sem];exact ak) ?_
 repeat refine sq ?_
 refine aN ?_
 repeat refine sq ?_
 refine cB (fun s:Nat=>[(32,⟨true,.v (vInt s)⟩)]) (fun s=>[([26,0],.box [.v (gk l),.msl [49,0] (nH l k s).length,.msl [124,0] 0,.map [23,0],.map [24,0]]),([49,0],.arr 7 ((nH l k s).map encR))]) (fun s=>s<=l.rs.length) (fun s=>l.rs.length-s) 0 ?_ ?_ ?_ ?_
 ·exact Nat.zero_le _
 ·rfl
 ·rfl
 rintro i hi
 simp only[go_sem]
 repeat refine sq ?_
 refine rx hΓ [0,1,5,30,31,32,33] [[5,0],[23,0],[24,0],[26,0],[49,0],[124,0]] (fun K' hK=>by simp only[go_sem];exact ak) ?_
 repeat refine sq ?_
 refine ay (fun hb=>?_) fun hb=>?_
 ·have ab:i<l.rs.length:=by simpa using hb
  have au:(i:Int)<l.rs.length:=by omega
  clear hb
  have mL:=T6 l k i
  have lV:=hp.rsn
  repeat refine sq ?_
  refine aE ?_
  repeat refine sq ?_
  refine aN ?_
  repeat refine sq ?_
  refine rx hΓ [0,1,5,7,30,31,32] [[5,0],[7,0],[23,0],[24,0],[26,0],[49,0],[124,0]] (fun K' hK=>by simp only[go_sem,ah ab,ai,aj,au];exact ak) ?_
  repeat refine sq ?_
  refine rx hΓ [0,1,5,7,30,31,32,41] [[5,0],[7,0],[23,0],[24,0],[26,0],[49,0],[124,0]] (fun K' hK=>by simp only[go_sem,ah ab,ai,aj,au];exact ak) ?_
  repeat refine sq ?_
  refine ay (fun hb=>?_) fun hb=>?_
  ·repeat refine sq ?_
   have hT:=T4 ab hb
   repeat refine sq ?_
   refine qq hΓ hP [[],[],[1],[1,2],[1,2,3],[],[5],[1,2,3,4,5,6],u8,u9,ca] (by kernel_rfl) fun K' hK=>?_
   simp only[go_sem,ah ab,ai,aj,au]
   repeat (refine⟨an,?_⟩)
   first | refine⟨by rfl,?_⟩ | skip
   refine hK _ ?_
   clear K' hK
   simp only[go_sem]
   refine kp [0,1,5,30,31,32] [[5,0],[23,0],[24,0],[26,0],[49,0],[124,0]] ?_
   repeat refine sq ?_
   refine aP hΓ fun K' hK=>?_
   simp only[go_sem,ah ab,ai,aj,au]
   repeat (refine⟨an,?_⟩)
   refine hK _ ?_
   clear K' hK
   simp only[go_sem]
   refine⟨i+1,ab,by(show l.rs.length-(i+1)<l.rs.length-i;omega),?_⟩
   refine bd [0,1,5,30,31,32] [[5,0],[23,0],[24,0],[26,0],[49,0],[124,0]] ?_ ?_<;>simp only[go_sem,a7 ab AT,bb,hT,List.map_append,List.map_cons,List.map_nil,List.length_append,List.length_cons,List.length_nil]
  ·repeat refine sq ?_
   have hT:=T5 ab hb
   refine aE ?_
   refine bQ ?_
   simp only[go_sem]
   refine kp [0,1,5,30,31,32] [[5,0],[23,0],[24,0],[26,0],[49,0],[124,0]] ?_
   repeat refine sq ?_
   refine aP hΓ fun K' hK=>?_
   simp only[go_sem,ah ab,ai,aj,au]
   repeat (refine⟨an,?_⟩)
   refine hK _ ?_
   clear K' hK
   simp only[go_sem]
   refine⟨i+1,ab,by(show l.rs.length-(i+1)<l.rs.length-i;omega),?_⟩
   refine bd [0,1,5,30,31,32] [[5,0],[23,0],[24,0],[26,0],[49,0],[124,0]] ?_ ?_<;>simp only[go_sem,a7 ab AT,bb,hT,List.map_append,List.map_cons,List.map_nil,List.length_append,List.length_cons,List.length_nil]
 ·have bB:i=l.rs.length:=by
   have :¬ (i:Int)<l.rs.length:=by simpa using hb
   omega
  clear hb
  subst bB
  repeat refine sq ?_
  refine bT ?_
  simp only[go_sem]
  refine kp [0,1,5] [[5,0],[23,0],[24,0],[26,0],[49,0],[124,0]] ?_
  simp only[T7]
  repeat refine sq ?_
  refine rx hΓ [0,1,5,56,57,58] [[5,0],[23,0],[24,0],[26,0],[49,0],[124,0]] (fun K' hK=>by simp only[go_sem];exact ak) ?_
  refine bD (pt [26,0] [49,0] 1 _ _ _ _ rfl rfl rfl (by first | rfl | (simp only[List.length_map];done)) [0,1,5,56,57,58] [[5,0],[23,0],[24,0],[26,0],[49,0],[124,0]] ?_ rfl) ?_
  ·simp only[go_sem,List.set_cons_succ,List.set_cons_zero]
  simp only[go_sem,List.set_cons_succ,List.set_cons_zero]
  repeat refine sq ?_
  refine aN ?_
  repeat refine sq ?_
  refine cB (fun s:Nat=>[(58,⟨true,.v (vInt s)⟩)]) (fun s=>[([26,0],.box [.v (gk l),.v (.sl ((bn l k).map encR)),.msl [124,0] (aC l k s).ts.length,.map [23,0],.map [24,0]]),([124,0],.arr 1 ((aC l k s).ts.map vInt)),([23,0],.map 2 (bS (aC l k s).bk)),([24,0],.map 0 (bG (aC l k s).ds))]) (fun s=>s<=l.ts.length) (fun s=>l.ts.length-s) 0 ?_ ?_ ?_ ?_
  ·exact Nat.zero_le _
  ·rfl
  ·rfl
  rintro i1 hi
  simp only[go_sem]
  repeat refine sq ?_
  refine rx hΓ [0,1,5,56,57,58,59] [[5,0],[23,0],[24,0],[26,0],[49,0],[124,0]] (fun K' hK=>by simp only[go_sem];exact ak) ?_
  repeat refine sq ?_
  refine ay (fun hb=>?_) fun hb=>?_
  ·have aT:i1<l.ts.length:=by simpa using hb
   have bH:(i1:Int)<l.ts.length:=by omega
   clear hb
   have hx:aG l i1=l.ts[i1]:=mu aT
   obtain⟨e1,e2⟩:=pO l k i1
   have hk:=Af l k i1 (Nat.le_of_lt aT)
   have jk:=hp.rets aT
   rw[hx]at jk
   have kZ:=(Ue jk).2
   have ti:l.ts[i1].lv.length<=maxLen:=by unfold maxLen;omega
   have AB:=hk.tn
   have ahX:=hp.tsn
   have s4:∀ (obj:Name->Option O) (t:Name),obj [26,0]=some (.box [.v (gk l),.v (.sl ((bn l k).map encR)),.msl [124,0] (aC l k i1).ts.length,.map [23,0],.map [24,0]])->obj [124,0]=some (.arr 1 ((aC l k i1).ts.map vInt))->obj [23,0]=some (.map 2 (bS (aC l k i1).bk))->obj [24,0]=some (.map 0 (bG (aC l k i1).ds))->
       S77m.app obj t [.ref [26,0] 0,.v (vInt l.ts[i1].re)]=⟨True,.tup [nJ (cW (bn l k) l.ts[i1].re),.v (.bool (cW (bn l k) l.ts[i1].re).isSome)],obj⟩:=fun obj t h1 h2 h3 h4=>by
    have :=Ro.c_app Di (a:=(aC l k i1,l.ts[i1].re)) trivial (t:=t) (obj:=obj) (Ls:=[[26,0],[124,0],[23,0],[24,0]]) rfl (by decide) (by show cv obj _ (rI (aC l k i1) _);simp only[rI,lj,e1,e2];exact⟨h1,h2,h3,h4,trivial⟩)
    refine this.trans ?_
    show (⟨True,.tup [nJ (cW (aC l k i1).rs l.ts[i1].re),.v (.bool (cW (aC l k i1).rs l.ts[i1].re).isSome)],obj⟩:R)=_
    rw[e2]
   have hcf:∀ (r:Rec) (obj:Name->Option O) (t:Name),obj [5,0]=some (.box [.ref [26,0] 0])->obj [26,0]=some (.box [.v (gk l),.v (.sl ((bn l k).map encR)),.msl [124,0] (aC l k i1).ts.length,.map [23,0],.map [24,0]])->obj [124,0]=some (.arr 1 ((aC l k i1).ts.map vInt))->obj [23,0]=some (.map 2 (bS (aC l k i1).bk))->obj [24,0]=some (.map 0 (bG (aC l k i1).ds))->
       S160m.app obj t [.v (.sl (l.ts[i1].lv.map vInt)),.clo (.func 163) [] [.ref [5,0] 0,.v (.ptr [vInt r.so,vInt r.bo,vInt r.pa,.sl (r.lv.map vInt),vInt r.da,vInt r.kn,vInt r.un])]]=⟨True,.v (.bool (l.ts[i1].lv.any (jd (aC l k i1).bk r))),obj⟩:=fun r obj t h0 h1 h2 h3 h4=>by
    have :=Ro.c_app (wg nc) (a:=(aC l k i1,r,l.ts[i1].lv)) ti (t:=t) (obj:=obj) (Ls:=[[5,0],[26,0],[124,0],[23,0],[24,0]]) rfl (by decide) (by
     show cv obj _ (.box [.ref [26,0] 0]::rI (aC l k i1) [[26,0],[124,0],[23,0],[24,0]])
     simp only[rI,lj,e1,e2];exact⟨h0,h1,h2,h3,h4,trivial⟩)
    exact this
   repeat refine sq ?_
   refine aE ?_
   repeat refine sq ?_
   refine aN ?_
   repeat refine sq ?_
   refine rx hΓ [0,1,5,8,9,56,57,58] [[5,0],[9,0],[23,0],[24,0],[26,0],[49,0],[124,0]] (fun K' hK=>by simp only[go_sem,ah aT,ai,aj,bH];exact ak) ?_
   rcases eC:cW (bn l k) l.ts[i1].re with _ | r
   ·have rz:aC l k (i1+1)=aC l k i1:=xn (VB (by rw[hx];exact eC))
    repeat refine sq ?_
    refine rx hΓ [0,1,5,8,9,10,11,56,57,58] [[5,0],[9,0],[10,0],[23,0],[24,0],[26,0],[49,0],[124,0]] (fun K' hK=>by simp only[go_sem,ah aT,ai,aj,bH,eC,bq,Option.isSome_none];rw[s4 _ _ rfl rfl rfl rfl];simp only[go_sem,ah aT,ai,aj,bH,eC,bq,Option.isSome_none];exact ak) ?_
    refine bD (dd 10 (.ref [10,0] 0) (by simp only[go_sem]) (by simp only[go_sem]) [0,1,5,8,9,10,11,56,57,58] [[5,0],[9,0],[10,0],[23,0],[24,0],[26,0],[49,0],[124,0]] ?_ rfl) ?_
    ·simp only[go_sem]
    simp only[go_sem]
    repeat refine sq ?_
    refine rx hΓ [0,1,5,8,9,10,56,57,58,80] [[5,0],[9,0],[10,0],[23,0],[24,0],[26,0],[49,0],[124,0]] (fun K' hK=>by simp only[go_sem,ah aT,ai,aj,bH,eC,bq,Option.isSome_none];exact ak) ?_
    repeat refine sq ?_
    refine ay (fun hb=>?_) fun hb=>?_
    ·repeat refine sq ?_
     refine bT ?_
     simp only[go_sem]
     refine kp [0,1,5,56,57,58] [[5,0],[23,0],[24,0],[26,0],[49,0],[124,0]] ?_
     repeat refine sq ?_
     refine aP hΓ fun K' hK=>?_
     simp only[go_sem,ah aT,ai,aj,bH,eC,bq,Option.isSome_none]
     repeat (refine⟨an,?_⟩)
     refine hK _ ?_
     clear K' hK
     simp only[go_sem]
     refine⟨i1+1,aT,by(show l.ts.length-(i1+1)<l.ts.length-i1;omega),?_⟩
     refine bd [0,1,5,56,57,58] [[5,0],[23,0],[24,0],[26,0],[49,0],[124,0]] ?_ ?_<;>simp only[go_sem,a7 aT ku,bb,rz]
    ·cases hb
   ·obtain⟨Ni,bP⟩:=qH eC
    have s5:=Db hp k r Ni
    have iw:=zb (Jt s5)
    repeat refine sq ?_
    refine rx hΓ [0,1,5,8,9,10,11,56,57,58] [[5,0],[9,0],[10,0],[23,0],[24,0],[26,0],[49,0],[124,0]] (fun K' hK=>by simp only[go_sem,ah aT,ai,aj,bH,eC,aD,Option.isSome_some];rw[s4 _ _ rfl rfl rfl rfl];simp only[go_sem,ah aT,ai,aj,bH,eC,aD,Option.isSome_some];exact ak) ?_
    refine bD (dd 10 (.ref [10,0] 0) (by simp only[go_sem]) (by simp only[go_sem]) [0,1,5,8,9,10,11,56,57,58] [[5,0],[9,0],[10,0],[23,0],[24,0],[26,0],[49,0],[124,0]] ?_ rfl) ?_
    ·simp only[go_sem]
    simp only[go_sem]
    repeat refine sq ?_
    refine rx hΓ [0,1,5,8,9,10,56,57,58,80] [[5,0],[9,0],[10,0],[23,0],[24,0],[26,0],[49,0],[124,0]] (fun K' hK=>by simp only[go_sem,ah aT,ai,aj,bH,eC,aD,Option.isSome_some];exact ak) ?_
    repeat refine sq ?_
    refine ay (fun hb=>?_) fun hb=>?_
    ·repeat refine sq ?_
     have rz:aC l k (i1+1)=aC l k i1:=xn (VA (by rw[hx];exact eC) (by rw[hx];simpa using hb))
     refine bT ?_
     simp only[go_sem]
     refine kp [0,1,5,56,57,58] [[5,0],[23,0],[24,0],[26,0],[49,0],[124,0]] ?_
     repeat refine sq ?_
     refine aP hΓ fun K' hK=>?_
     simp only[go_sem,ah aT,ai,aj,bH,eC,aD,Option.isSome_some]
     repeat (refine⟨an,?_⟩)
     refine hK _ ?_
     clear K' hK
     simp only[go_sem]
     refine⟨i1+1,aT,by(show l.ts.length-(i1+1)<l.ts.length-i1;omega),?_⟩
     refine bd [0,1,5,56,57,58] [[5,0],[23,0],[24,0],[26,0],[49,0],[124,0]] ?_ ?_<;>simp only[go_sem,a7 aT ku,bb,rz]
    ·repeat refine sq ?_
     have yh:bI l.ts[i1].kn l.ts[i1].un k=true:=by simpa using hb
     refine aE ?_
     repeat refine sq ?_
     refine rx hΓ [0,1,5,8,9,10,12,56,57,58] [[5,0],[9,0],[10,0],[23,0],[24,0],[26,0],[49,0],[124,0]] (fun K' hK=>by simp only[go_sem,ah aT,ai,aj,bH,eC,aD,Option.isSome_some,iw];exact ak) ?_
     obtain⟨fs,lZ⟩:∃ fs,bJ l.ts[i1].lo (r.da+1)=fs:=⟨_,rfl⟩
     have N5:=lZ
     unfold bJ at N5
     rw[N5]
     repeat refine sq ?_
     refine rx hΓ [0,1,5,8,9,10,12,13,56,57,58] [[5,0],[9,0],[10,0],[23,0],[24,0],[26,0],[49,0],[124,0]] (fun K' hK=>by simp only[go_sem,ah aT,ai,aj,bH,eC,aD,Option.isSome_some];exact ak) ?_
     repeat refine sq ?_
     refine rx hΓ [0,1,5,8,9,10,12,56,57,58,99] [[5,0],[9,0],[10,0],[23,0],[24,0],[26,0],[49,0],[124,0]] (fun K' hK=>by simp only[go_sem,ah aT,ai,aj,bH,eC,aD,Option.isSome_some];rw[hcf r _ _ rfl rfl rfl rfl rfl];simp only[go_sem,ah aT,ai,aj,bH,eC,aD,Option.isSome_some];exact ak) ?_
     repeat refine sq ?_
     refine ay (fun hb=>?_) fun hb=>?_
     ·repeat refine sq ?_
      have rz:aC l k (i1+1)=aC l k i1:=xn (Vz (by rw[hx];exact eC) (by rw[hx,lZ];exact hb))
      refine bT ?_
      simp only[go_sem]
      refine kp [0,1,5,56,57,58] [[5,0],[23,0],[24,0],[26,0],[49,0],[124,0]] ?_
      repeat refine sq ?_
      refine aP hΓ fun K' hK=>?_
      simp only[go_sem,ah aT,ai,aj,bH,eC,aD,Option.isSome_some]
      repeat (refine⟨an,?_⟩)
      refine hK _ ?_
      clear K' hK
      simp only[go_sem]
      refine⟨i1+1,aT,by(show l.ts.length-(i1+1)<l.ts.length-i1;omega),?_⟩
      refine bd [0,1,5,56,57,58] [[5,0],[23,0],[24,0],[26,0],[49,0],[124,0]] ?_ ?_<;>simp only[go_sem,a7 aT ku,bb,rz]
     ·repeat refine sq ?_
      have rz:=D5 (Vy (k:=k) (rs:=bn l k) (bk:=(aC l k i1).bk) (x:=aG l i1) (r:=r) (by rw[hx];exact eC) (by rw[hx];exact yh) (by rw[hx,lZ];exact hb))
      rw[hx,lZ]at rz
      refine aE ?_
      repeat refine sq ?_
      refine rx hΓ [0,1,5,8,9,10,12,56,57,58,101,102,103] [[5,0],[9,0],[10,0],[23,0],[24,0],[26,0],[49,0],[124,0]] (fun K' hK=>by simp only[go_sem,ah aT,ai,aj,bH,eC,aD,Option.isSome_some];exact ak) ?_
      repeat refine sq ?_
      refine aN ?_
      repeat refine sq ?_
      refine cB (fun s:Nat=>[(103,⟨true,.v (vInt s)⟩)]) (fun s=>[([23,0],.map 2 (bS (qs (aC l k i1).bk r.so i1 (l.ts[i1].lv.take s))))]) (fun s=>s<=l.ts[i1].lv.length) (fun s=>l.ts[i1].lv.length-s) 0 ?_ ?_ ?_ ?_
      ·exact Nat.zero_le _
      ·rfl
      ·rfl
      rintro i2 hi
      simp only[go_sem]
      repeat refine sq ?_
      refine rx hΓ [0,1,5,8,9,10,12,56,57,58,101,102,103,104] [[5,0],[9,0],[10,0],[23,0],[24,0],[26,0],[49,0],[124,0]] (fun K' hK=>by simp only[go_sem,ah aT,ai,aj,bH,eC,aD,Option.isSome_some];exact ak) ?_
      repeat refine sq ?_
      refine ay (fun hb=>?_) fun hb=>?_
      ·have cz:i2<l.ts[i1].lv.length:=by simpa using hb
       have gw:(i2:Int)<l.ts[i1].lv.length:=by omega
       clear hb
       have hB2:=acn (aC l k i1).bk r.so i1 cz
       repeat refine sq ?_
       refine aE ?_
       repeat refine sq ?_
       refine aN ?_
       repeat refine sq ?_
       refine rx hΓ [0,1,5,8,9,10,12,15,56,57,58,101,102,103] [[5,0],[9,0],[10,0],[23,0],[24,0],[26,0],[49,0],[124,0]] (fun K' hK=>by simp only[go_sem,ah aT,ai,aj,bH,eC,aD,Option.isSome_some,ah cz,ai,aj,gw];exact ak) ?_
       repeat refine sq ?_
       refine qq hΓ hP [[],[0],[0,1],[0,1,2],[],[4],[],[4,5,6],[],u9] (by kernel_rfl) fun K' hK=>?_
       simp only[go_sem,ah aT,ai,aj,bH,eC,aD,Option.isSome_some,ah cz,ai,aj,gw,VH]
       repeat (refine⟨an,?_⟩)
       first | refine⟨by rfl,?_⟩ | skip
       refine hK _ ?_
       clear K' hK
       simp only[go_sem]
       refine kp [0,1,5,8,9,10,12,56,57,58,101,102,103] [[5,0],[9,0],[10,0],[23,0],[24,0],[26,0],[49,0],[124,0]] ?_
       repeat refine sq ?_
       refine aP hΓ fun K' hK=>?_
       simp only[go_sem,ah aT,ai,aj,bH,eC,aD,Option.isSome_some,ah cz,ai,aj,gw]
       repeat (refine⟨an,?_⟩)
       refine hK _ ?_
       clear K' hK
       simp only[go_sem]
       refine⟨i2+1,cz,by(show l.ts[i1].lv.length-(i2+1)<l.ts[i1].lv.length-i2;omega),?_⟩
       refine bd [0,1,5,8,9,10,12,56,57,58,101,102,103] [[5,0],[9,0],[10,0],[23,0],[24,0],[26,0],[49,0],[124,0]] ?_ ?_<;>simp only[go_sem,a7 cz ti,bb,hB2]
      ·have p8:i2=l.ts[i1].lv.length:=by
        have :¬ (i2:Int)<l.ts[i1].lv.length:=by simpa using hb
        omega
       clear hb
       subst p8
       repeat refine sq ?_
       refine bT ?_
       simp only[go_sem]
       refine kp [0,1,5,8,9,12,56,57,58] [[5,0],[9,0],[23,0],[24,0],[26,0],[49,0],[124,0]] ?_
       repeat refine sq ?_
       refine dx hΓ hP [[],[],[1],[1,2],[1,2,3],[],[5],[1,2,3,4,5,6],u8,u9,ca] [0,1,5,8,9,12,56,57,58] [[5,0],[9,0],[23,0],[24,0],[26,0],[49,0],[124,0]] (by kernel_rfl) (fun K' hK=>by simp only[go_sem,ah aT,ai,aj,bH,eC,aD,Option.isSome_some];exact fF) ?_
       repeat refine sq ?_
       refine qq hΓ hP [[],[0],[0,1],[0,1,2],[],[],[],[6],[6,7],[5,6,7,8],ca] (by kernel_rfl) fun K' hK=>?_
       simp only[go_sem,ah aT,ai,aj,bH,eC,aD,Option.isSome_some,Kw]
       repeat (refine⟨an,?_⟩)
       first | refine⟨by rfl,?_⟩ | skip
       refine hK _ ?_
       clear K' hK
       simp only[go_sem]
       refine kp [0,1,5,56,57,58] [[5,0],[23,0],[24,0],[26,0],[49,0],[124,0]] ?_
       repeat refine sq ?_
       refine aP hΓ fun K' hK=>?_
       simp only[go_sem,ah aT,ai,aj,bH,eC,aD,Option.isSome_some]
       repeat (refine⟨an,?_⟩)
       refine hK _ ?_
       clear K' hK
       simp only[go_sem]
       refine⟨i1+1,aT,by(show l.ts.length-(i1+1)<l.ts.length-i1;omega),?_⟩
       refine bd [0,1,5,56,57,58] [[5,0],[23,0],[24,0],[26,0],[49,0],[124,0]] ?_ ?_<;>simp only[go_sem,a7 aT ku,bb,rz,List.take_length,List.map_append,List.map_cons,List.map_nil,List.length_append,List.length_cons,List.length_nil]
  ·have lY:i1=l.ts.length:=by
    have :¬ (i1:Int)<l.ts.length:=by simpa using hb
    omega
   clear hb
   subst lY
   repeat refine sq ?_
   refine bT ?_
   simp only[go_sem]
   refine kp [0,5] [[5,0],[23,0],[24,0],[26,0],[49,0],[124,0]] ?_
   have hk:=Af l k l.ts.length (Nat.le_refl _)
   obtain⟨e1,e2⟩:=pO l k l.ts.length
   have hΓ:=aei
   have YU:(aC l k l.ts.length).ts.length<=maxLen:=Nat.le_trans hk.tn ku
   refine bD (pt [26,0] [124,0] 2 _ _ _ _ rfl rfl rfl (by first | rfl | (simp only[List.length_map];done)) [0,5] [[5,0],[23,0],[24,0],[26,0],[49,0],[124,0]] ?_ rfl) ?_
   ·simp only[go_sem,List.set_cons_succ,List.set_cons_zero]
   simp only[go_sem,List.set_cons_succ,List.set_cons_zero]
   repeat refine sq ?_
   refine rx hΓ [0,5,141,142,143] [[5,0],[23,0],[24,0],[26,0],[49,0],[124,0]] (fun K' hK=>by simp only[go_sem];exact ak) ?_
   repeat refine sq ?_
   refine aN ?_
   repeat refine sq ?_
   refine cB (fun s:Nat=>[(143,⟨true,.v (vInt s)⟩)]) (fun s=>[([24,0],.map 0 (bG (gH l (bn l k) (aC l k l.ts.length).ts (aC l k l.ts.length).ds s)))]) (fun s=>s<=(aC l k l.ts.length).ts.length) (fun s=>(aC l k l.ts.length).ts.length-s) 0 ?_ ?_ ?_ ?_
   ·exact Nat.zero_le _
   ·rfl
   ·rfl
   rintro i3 hi
   simp only[go_sem]
   repeat refine sq ?_
   refine rx hΓ [0,5,141,142,143,144] [[5,0],[23,0],[24,0],[26,0],[49,0],[124,0]] (fun K' hK=>by simp only[go_sem];exact ak) ?_
   repeat refine sq ?_
   refine ay (fun hb=>?_) fun hb=>?_
   ·have kx:i3<(aC l k l.ts.length).ts.length:=by simpa using hb
    have AS:(i3:Int)<(aC l k l.ts.length).ts.length:=by omega
    clear hb
    obtain⟨⟨cf,ff⟩,r,n7⟩:=hk.ts (aC l k l.ts.length).ts[i3] (List.getElem_mem kx)
    have mK:=Ic cf ff
    have hD:gH l (bn l k) (aC l k l.ts.length).ts (aC l k l.ts.length).ds (i3+1)=kg (gH l (bn l k) (aC l k l.ts.length).ts (aC l k l.ts.length).ds i3) (aC l k l.ts.length).ts[i3] r.da (dA (bn l k) r.pa (aG l (aC l k l.ts.length).ts[i3].toNat).lv):=by
     show kg _ ((aC l k l.ts.length).ts.getD i3 0) (mB (bn l k) (aG l ((aC l k l.ts.length).ts.getD i3 0).toNat).re).da (dA _ (mB (bn l k) (aG l ((aC l k l.ts.length).ts.getD i3 0).toNat).re).pa _)=_
     rw[cj kx];unfold mB;rw[n7];rfl
    repeat refine sq ?_
    refine aE ?_
    repeat refine sq ?_
    refine aN ?_
    repeat refine sq ?_
    refine rx hΓ [0,5,17,141,142,143] [[5,0],[17,0],[23,0],[24,0],[26,0],[49,0],[124,0]] (fun K' hK=>by simp only[go_sem,ah kx,ai,aj,AS];exact ak) ?_
    refine bD (dd 17 (.ref [17,0] 0) (by simp only[go_sem]) (by simp only[go_sem]) [0,5,17,141,142,143] [[5,0],[17,0],[23,0],[24,0],[26,0],[49,0],[124,0]] ?_ rfl) ?_
    ·simp only[go_sem]
    simp only[go_sem]
    repeat refine sq ?_
    refine dx hΓ hP [[],[0],[0,1],[0,1,2],[],u5,u6,[],u8] [0,5,17,18,141,142,143] [[5,0],[17,0],[18,0],[23,0],[24,0],[26,0],[49,0],[124,0]] (by kernel_rfl) (fun K' hK=>by simp only[go_sem,ah kx,ai,aj,AS,mK,cf,ff];exact fF) ?_
    refine bD (dd 18 (.ref [18,0] 0) (by simp only[go_sem]) (by simp only[go_sem]) [0,5,17,18,141,142,143] [[5,0],[17,0],[18,0],[23,0],[24,0],[26,0],[49,0],[124,0]] ?_ rfl) ?_
    ·simp only[go_sem]
    simp only[go_sem]
    repeat refine sq ?_
    refine rx hΓ [0,5,17,18,19,141,142,143] [[5,0],[17,0],[18,0],[19,0],[23,0],[24,0],[26,0],[49,0],[124,0]] (fun K' hK=>by simp only[go_sem,ah kx,ai,aj,AS,n7,aD,Option.isSome_some];exact ak) ?_
    refine bD (dd 19 (.ref [19,0] 0) (by simp only[go_sem]) (by simp only[go_sem]) [0,5,17,18,19,141,142,143] [[5,0],[17,0],[18,0],[19,0],[23,0],[24,0],[26,0],[49,0],[124,0]] ?_ rfl) ?_
    ·simp only[go_sem]
    simp only[go_sem]
    repeat refine sq ?_
    refine rx hΓ [0,5,17,19,141,142,143,166] [[5,0],[17,0],[19,0],[23,0],[24,0],[26,0],[49,0],[124,0],[3,0,166,0]] (fun K' hK=>by simp only[go_sem,ah kx,ai,aj,AS];exact ak) ?_
    repeat refine sq ?_
    refine aN ?_
    repeat refine sq ?_
    have bZ:=Jq hp k
    have aa:=KM l k (aC l k l.ts.length).ts[i3] (i3:Nat) (aC l k l.ts.length).ts.length ⟨l,bn l k,(aC l k l.ts.length).ts,(aC l k l.ts.length).bk,gH l (bn l k) (aC l k l.ts.length).ts (aC l k l.ts.length).ds i3⟩ r (aG l (aC l k l.ts.length).ts[i3].toNat).lv bZ
    have gy:aL Tryz.prog 193 ((jh l k (aC l k l.ts.length).ts[i3] (i3:Nat) (aC l k l.ts.length).ts.length ⟨l,bn l k,(aC l k l.ts.length).ts,(aC l k l.ts.length).bk,gH l (bn l k) (aC l k l.ts.length).ts (aC l k l.ts.length).ds i3⟩ r (aG l (aC l k l.ts.length).ts[i3].toNat).lv).itC (kG 4 r.pa (aG l (aC l k l.ts.length).ts[i3].toNat).lv)).toSpec:=I1 aa (fun _=>rfl) (V5 l k (aC l k l.ts.length).ts[i3] (i3:Nat) (aC l k l.ts.length).ts.length ⟨l,bn l k,(aC l k l.ts.length).ts,(aC l k l.ts.length).bk,gH l (bn l k) (aC l k l.ts.length).ts (aC l k l.ts.length).ds i3⟩ r (aG l (aC l k l.ts.length).ts[i3].toNat).lv bZ) (Db hp k) (Jr hp k) rfl (fun _=>rfl) (j:=4) (jc:=1) (show 4<5 by decide) rfl rfl
    refine PS aa (V6 l k (aC l k l.ts.length).ts[i3] (i3:Nat) (aC l k l.ts.length).ts.length ⟨l,bn l k,(aC l k l.ts.length).ts,(aC l k l.ts.length).bk,gH l (bn l k) (aC l k l.ts.length).ts (aC l k l.ts.length).ds i3⟩ r (aG l (aC l k l.ts.length).ts[i3].toNat).lv) (f:=193) 200 201 (Ls:=[[5,0],[26,0],[23,0],[24,0],[3,0,166,0]]) rfl rfl (by decide) gy rfl rfl rfl rfl rfl rfl (by decide) (show ([200,0]:Name)∉[[5,0],[26,0],[23,0],[24,0],[3,0,166,0]]by decide) ⟨rfl,rfl,rfl,rfl,rfl,trivial⟩ fun o=>?_
    obtain⟨g1,g2⟩:=Lp.go_e (r:=(jh l k (aC l k l.ts.length).ts[i3] (i3:Nat) (aC l k l.ts.length).ts.length ⟨l,bn l k,(aC l k l.ts.length).ts,(aC l k l.ts.length).bk,gH l (bn l k) (aC l k l.ts.length).ts (aC l k l.ts.length).ds i3⟩ r (aG l (aC l k l.ts.length).ts[i3].toNat).lv)) (fun _=>rfl)
    have g3:(jh l k (aC l k l.ts.length).ts[i3] (i3:Nat) (aC l k l.ts.length).ts.length ⟨l,bn l k,(aC l k l.ts.length).ts,(aC l k l.ts.length).bk,gH l (bn l k) (aC l k l.ts.length).ts (aC l k l.ts.length).ds i3⟩ r (aG l (aC l k l.ts.length).ts[i3].toNat).lv).fam [[5,0],[26,0],[23,0],[24,0],[3,0,166,0]] (jh l k (aC l k l.ts.length).ts[i3] (i3:Nat) (aC l k l.ts.length).ts.length ⟨l,bn l k,(aC l k l.ts.length).ts,(aC l k l.ts.length).bk,gH l (bn l k) (aC l k l.ts.length).ts (aC l k l.ts.length).ds i3⟩ r (aG l (aC l k l.ts.length).ts[i3].toNat).lv).e=[.box [.ref [26,0] 0],bt ⟨l,bn l k,(aC l k l.ts.length).ts,(aC l k l.ts.length).bk,gH l (bn l k) (aC l k l.ts.length).ts (aC l k l.ts.length).ds i3⟩ [23,0] [24,0],.map 2 (bS (aC l k l.ts.length).bk),.map 0 (bG (gH l (bn l k) (aC l k l.ts.length).ts (aC l k l.ts.length).ds (i3+1))),.box [.ref [26,0] 0]]:=by
     rw[g1,hD,<-List.take_length (l:=dA (bn l k) r.pa (aG l (aC l k l.ts.length).ts[i3].toNat).lv)]
     rfl
    rw[g2,g3]
    simp only[sA,iN]
    refine bQ ?_
    show CL Tryz.prog (_::_) _ _
    refine eG [0,5,141,142,143] [[5,0],[23,0],[24,0],[26,0],[49,0],[124,0]] ?_ ?_
    ·simp only[go_sem,cC]
    simp only[go_sem,cC]
    repeat refine sq ?_
    refine aP hΓ fun K' hK=>?_
    simp only[go_sem]
    repeat (refine⟨an,?_⟩)
    refine hK _ ?_
    clear K' hK
    simp only[go_sem]
    refine⟨i3+1,kx,by(show (aC l k l.ts.length).ts.length-(i3+1)<(aC l k l.ts.length).ts.length-i3;omega),?_⟩
    refine bd [0,5,141,142,143] [[5,0],[23,0],[24,0],[26,0],[49,0],[124,0]] ?_ ?_<;>simp only[go_sem,a7 kx YU,bb]
   ·have FL:i3=(aC l k l.ts.length).ts.length:=by
     have :¬ (i3:Int)<(aC l k l.ts.length).ts.length:=by simpa using hb
     omega
    clear hb
    subst FL
    repeat refine sq ?_
    refine bT ?_
    simp only[go_sem]
    refine kp [5] [[5,0],[23,0],[24,0],[26,0],[49,0],[124,0]] ?_
    repeat refine sq ?_
    refine rx hΓ [4] [[23,0],[24,0],[26,0],[49,0],[124,0]] (fun K' hK=>by simp only[go_sem];exact ak) ?_
    refine aA ?_
    simp only[go_sem]
    rw[show (aq l k).l=l from e1,show (aq l k).rs=bn l k from e2];first | exact⟨rfl,rfl,rfl⟩ | exact⟨rfl,rfl,rfl,trivial⟩ | exact⟨⟨rfl,rfl,rfl⟩,rfl⟩ | trace_state
end
set_option maxHeartbeats 8000000
noncomputable section
def cU(l:Led)(ds:List Int):Int:=if kE l=0 then ib (!ds.any fun d=>!dayB d) 6 else kE l
theorem UO:pG (161,[])=fun n=>!dayB n:=rfl
theorem Vf:xb (161,[]):=.inl rfl
def K30a:List (Nat×Spec):=[(37,Ch),(160,S160)]
theorem aeg:KS K30a:=tc CT.sound<|tc Et<|tn
attribute [go_sem] K30a
@[go_sem] def P75:PSpec:=p2 iL dL (fun _ _=>True) (fun l ds=>vInt (cU l ds)) true
@[go_sem] def oF:Spec:=P75.toSpec
theorem wO:aU Tryz.prog 75 P75:=by
 refine eZ (rs:=[.tmp 4]) Tryz.func75 Tryz.ntmps75 fun l ds hp hw=>?_
 simp only[dL,iL,ft]at hw |-
 have hΓ:=aeg
 repeat refine sq ?_
 refine rx hΓ [1,2] [[2,0]] (fun K' hK=>by simp only[go_sem];exact ak) ?_
 refine bD (dd 2 (.ref [2,0] 0) (by simp only[go_sem]) (by simp only[go_sem]) [1,2] [[2,0]] ?_ rfl) ?_
 ·simp only[go_sem]
 simp only[go_sem]
 repeat refine sq ?_
 refine rx hΓ [1,5] [] (fun K' hK=>by simp only[go_sem];exact ak) ?_
 repeat refine sq ?_
 refine rx hΓ [1,5,9] [] (fun K' hK=>by simp only[go_sem];exact ak) ?_
 repeat refine sq ?_
 refine ay (fun hb=>?_) fun hb=>?_
 ·repeat refine sq ?_
  have hc:¬ kE l=0:=by simpa using hb
  unfold cU;rw[if_neg hc]
  repeat refine sq ?_
  refine rx hΓ [4] [] (fun K' hK=>by simp only[go_sem];exact ak) ?_
  refine aA ?_
  simp only[go_sem]
  all_goals exact dV
 ·repeat refine sq ?_
  have hc:kE l=0:=by simpa using hb
  unfold cU;rw[if_pos hc]
  refine aE ?_
  repeat refine sq ?_
  refine rx hΓ [12] [] (fun K' hK=>by simp only[go_sem,Vf,UO];exact ak) ?_
  repeat refine sq ?_
  refine ay (fun hb=>?_) fun hb=>?_
  ·repeat refine sq ?_
   rw[show (ds.any fun d=>!dayB d)=true from hb]
   repeat refine sq ?_
   refine rx hΓ [4] [] (fun K' hK=>by simp only[go_sem];exact ak) ?_
   refine aA ?_
   simp only[go_sem]
   all_goals exact dV
  ·repeat refine sq ?_
   rw[show (ds.any fun d=>!dayB d)=false from hb]
   refine aE ?_
   repeat refine sq ?_
   refine rx hΓ [4] [] (fun K' hK=>by simp only[go_sem];exact ak) ?_
   refine aA ?_
   simp only[go_sem]
   all_goals exact dV
def aef:List (Nat×Spec):=[(76,S76),(128,S128)]
attribute [go_sem] aef
def uE(x:Vw)(t:Name):List (Name×O):=[(26::0::t,bt x (23::0::t) (24::0::t)),(23::0::t,.map 2 (bS x.bk)),(24::0::t,.map 0 (bG x.ds))]
def HA:Option (Int×Int)->Vw->List (Name×O)
 |none,x=>uE x [11,0]
 |some _,_=>[]
def Hz:Option (Int×Int)->D
 |none=>.tup [.ref [26,0,11,0] 0,.v (vInt 0)]
 |some _=>.tup [.v .nilp,.v (vInt 25)]
attribute [go_sem] uE
theorem uh(x:Vw):HA none x=uE x [11,0]:=rfl
theorem yS(p:Int×Int)(x:Vw):HA (some p) x=[]:=rfl
theorem ug:Hz none=.tup [.ref [26,0,11,0] 0,.v (vInt 0)]:=rfl
theorem yR(p:Int×Int):Hz (some p)=.tup [.v .nilp,.v (vInt 25)]:=rfl
theorem Df(p:Int×Int):zJ (some p)=.tup [.v (.sl [vInt p.1,vInt p.2]),.v (.bool true)]:=rfl
theorem Dg:zJ none=.tup [.nilsl,.v (.bool false)]:=rfl
def K30c:List (Nat×Spec):=[(76,S76),(120,S120)]
theorem aee:KS K30c:=tc Ep<|tc Yf<|tn
attribute [go_sem] K30c
def Cm:NSpec:=n2 lS iI (fun l _=>bA l) (fun l k=>HA (eJ (aq l k)) (aq l k)) (fun l k=>Hz (eJ (aq l k)))
def S121:Spec:=Cm.toSpec
attribute [go_sem] Cm S121
theorem Ye:aL Tryz.prog 121 S121:=by
 refine DK (nt:=19) (rs:=[.tmp 4,.tmp 5]) Tryz.func121 rfl (by rfl) (by kernel_rfl) (by kernel_rfl) (by decide) ?_
 intro xs hp
 obtain⟨l,k,rfl,hp,eF,dP⟩:=DR hp
 replace eF:Cm.new _=_:=eF
 replace dP:Cm.d _=_:=dP
 rw[eF,dP]
 clear eF dP
 refine⟨lb rfl,?_⟩
 simp only[iI,iB,dL,iP,iR,iT,iS,iL,lS,fP,iC,iF,cP,encR,c9,encS,ft,gk,List.map_cons,List.map_nil,dj,Nat.zero_add]
 have hΓ:=aee
 repeat refine sq ?_
 refine rx hΓ [0,1] [] (fun K' hK=>by simp only[go_sem];exact ak) ?_
 repeat refine sq ?_
 refine rx hΓ [6] [[26,0,11,0],[23,0,11,0],[24,0,11,0]] (fun K' hK=>by simp only[go_sem];exact ak) ?_
 rcases kq:eJ (aq l k)with _ | p
 ·repeat refine sq ?_
  refine rx hΓ [6,8] [[26,0,11,0],[23,0,11,0],[24,0,11,0]] (fun K' hK=>by simp only[go_sem,kq,Dg];(repeat (refine⟨by first | exact an | exact(sJ hp k).1,?_⟩));exact fD) ?_
  repeat refine sq ?_
  refine rx hΓ [6,17] [[26,0,11,0],[23,0,11,0],[24,0,11,0]] (fun K' hK=>by simp only[go_sem,kq,Dg];exact ak) ?_
  repeat refine sq ?_
  refine ay (fun hb=>?_) fun hb=>?_
  ·cases hb
  ·repeat refine sq ?_
   refine aE ?_
   repeat refine sq ?_
   refine rx hΓ [4,5] [[26,0,11,0],[23,0,11,0],[24,0,11,0]] (fun K' hK=>by simp only[go_sem,kq,Dg];exact ak) ?_
   refine aA ?_
   simp only[go_sem,uh,ug,yS,yR]
   all_goals first | done | rfl | trace_state
 ·repeat refine sq ?_
  refine rx hΓ [6,8] [[26,0,11,0],[23,0,11,0],[24,0,11,0]] (fun K' hK=>by simp only[go_sem,kq,Df];(repeat (refine⟨by first | exact an | exact(sJ hp k).1,?_⟩));exact fD) ?_
  repeat refine sq ?_
  refine rx hΓ [6,17] [[26,0,11,0],[23,0,11,0],[24,0,11,0]] (fun K' hK=>by simp only[go_sem,kq,Df];exact ak) ?_
  repeat refine sq ?_
  refine ay (fun hb=>?_) fun hb=>?_
  ·repeat refine sq ?_
   refine rx hΓ [4,5] [[26,0,11,0],[23,0,11,0],[24,0,11,0]] (fun K' hK=>by simp only[go_sem,kq,Df];exact ak) ?_
   refine aA ?_
   simp only[go_sem,uh,ug,yS,yR]
   all_goals first | done | rfl | trace_state
  ·cases hb
theorem So{l:Led}(h:bA l)(k:Int):(fK l k).length<=60/\∀ s∈fK l k,CO s:=by
 refine⟨Nat.le_trans (List.length_filter_le _ _) h.ssn,fun s hs=>?_⟩
 obtain⟨j,hj,rfl⟩:=List.getElem_of_mem (List.mem_filter.1 hs).1
 have :=ni h.ss hj
 unfold kN at this
 simp only[Bool.and_eq_true]at this
 have hd:=this.1.2
 unfold dayB bO at hd
 simp at hd
 exact hd
def ba(x:Vw)(k:Int):Vw:={ x with ds:=dQ x x.ds (fK x.l k) }
def uO:Option (Int×Int)->Bool->Vw->Int->List (Name×O)
 |none,true,x,k=>uE (ba x k) [11,0,11,0]
 |_,_,_,_=>[]
def Sf:Option (Int×Int)->Bool->Int
 |some _,_=>25
 |none,false=>27
 |none,true=>0
def uL:Option (Int×Int)->Bool->D
 |some _,_=>.tup [.v .nilp,.v (vInt 25)]
 |none,false=>.tup [.v .nilp,.v (vInt 27)]
 |none,true=>.tup [.ref [26,0,11,0,11,0] 0,.v (vInt 0)]
theorem uM(x:Vw)(k:Int):uO none true x k=uE (ba x k) [11,0,11,0]:=rfl
theorem uN(x:Vw)(k:Int):uO none false x k=[]:=rfl
theorem CJ(p:Int×Int)(b:Bool)(x:Vw)(k:Int):uO (some p) b x k=[]:=by cases b<;>rfl
theorem uJ:uL none true=.tup [.ref [26,0,11,0,11,0] 0,.v (vInt 0)]:=rfl
theorem uK:uL none false=.tup [.v .nilp,.v (vInt 27)]:=rfl
theorem CI(p:Int×Int)(b:Bool):uL (some p) b=.tup [.v .nilp,.v (vInt 25)]:=by cases b<;>rfl
def K30d:List (Nat×Spec):=[(121,S121),(122,S122),(128,S128)]
theorem aed:KS K30d:=tc Ye<|tc Yd<|tc Yc<|tn
attribute [go_sem] K30d
def Ck:NSpec:=n2 lS iI (fun l _=>bA l) (fun l k=>uO (eJ (aq l k)) (fE (aq l k) (fK (aq l k).l k)) (aq l k) k) (fun l k=>uL (eJ (aq l k)) (fE (aq l k) (fK (aq l k).l k)))
def S78:Spec:=Ck.toSpec
attribute [go_sem] Ck S78
theorem Aj:aL Tryz.prog 78 S78:=by
 refine DK (nt:=24) (rs:=[.tmp 4,.tmp 5]) Tryz.func78 rfl (by rfl) (by kernel_rfl) (by kernel_rfl) (by decide) ?_
 intro xs hp
 obtain⟨l,k,rfl,hp,eF,dP⟩:=DR hp
 replace eF:Ck.new _=_:=eF
 replace dP:Ck.d _=_:=dP
 rw[eF,dP]
 clear eF dP
 refine⟨lb rfl,?_⟩
 simp only[iI,iB,dL,iP,iR,iT,iS,iL,lS,fP,iC,iF,cP,encR,c9,encS,ft,gk,List.map_cons,List.map_nil,dj,Nat.zero_add]
 have hΓ:=aed
 obtain⟨hv,bZ⟩:=sJ hp k
 obtain⟨ER,YX⟩:=So hv.ok k
 repeat refine sq ?_
 refine rx hΓ [0,1] [] (fun K' hK=>by simp only[go_sem];exact ak) ?_
 rcases kq:eJ (aq l k)with _ | p
 ·repeat refine sq ?_
  refine rx hΓ [1,6,7] [[26,0,11,0,11,0],[23,0,11,0,11,0],[24,0,11,0,11,0]] (fun K' hK=>by simp only[go_sem,kq,uh,ug];exact ak) ?_
  repeat refine sq ?_
  refine rx hΓ [1,6,7,15] [[26,0,11,0,11,0],[23,0,11,0,11,0],[24,0,11,0,11,0]] (fun K' hK=>by simp only[go_sem,kq,uh,ug];exact ak) ?_
  repeat refine sq ?_
  refine ay (fun hb=>?_) fun hb=>?_
  ·cases hb
  ·repeat refine sq ?_
   refine aE ?_
   repeat refine sq ?_
   refine rx hΓ [6,22] [[26,0,11,0,11,0],[23,0,11,0,11,0],[24,0,11,0,11,0]] (fun K' hK=>by simp only[go_sem,kq,uh,ug];(repeat (refine⟨by first | exact an | exact hv.ok.ssn | exact⟨⟨⟨hv,bZ⟩,ER⟩,YX⟩,?_⟩));exact fD) ?_
   repeat refine sq ?_
   refine ay (fun hb=>?_) fun hb=>?_
   ·repeat refine sq ?_
    have hf:fE (aq l k) (fK (aq l k).l k)=false:=by simpa using hb
    repeat refine sq ?_
    refine rx hΓ [4,5] [[26,0,11,0,11,0],[23,0,11,0,11,0],[24,0,11,0,11,0]] (fun K' hK=>by simp only[go_sem,kq,uh,ug];exact ak) ?_
    refine aA ?_
    simp only[go_sem,uM,uN,CJ,uJ,uK,CI]
    all_goals first | done | rfl | (rw[hf];simp only[go_sem,uM,uN,uJ,uK,ba];done) | trace_state
   ·repeat refine sq ?_
    have hf:fE (aq l k) (fK (aq l k).l k)=true:=by simpa using hb
    refine aE ?_
    repeat refine sq ?_
    refine rx hΓ [4,5] [[26,0,11,0,11,0],[23,0,11,0,11,0],[24,0,11,0,11,0]] (fun K' hK=>by simp only[go_sem,kq,uh,ug];exact ak) ?_
    refine aA ?_
    simp only[go_sem,uM,uN,CJ,uJ,uK,CI]
    all_goals first | done | rfl | (rw[hf];simp only[go_sem,uM,uN,uJ,uK,ba];done) | trace_state
 ·repeat refine sq ?_
  refine rx hΓ [1,6,7] [[26,0,11,0,11,0],[23,0,11,0,11,0],[24,0,11,0,11,0]] (fun K' hK=>by simp only[go_sem,kq,yS,yR];exact ak) ?_
  repeat refine sq ?_
  refine rx hΓ [1,6,7,15] [[26,0,11,0,11,0],[23,0,11,0,11,0],[24,0,11,0,11,0]] (fun K' hK=>by simp only[go_sem,kq,yS,yR];exact ak) ?_
  repeat refine sq ?_
  refine ay (fun hb=>?_) fun hb=>?_
  ·repeat refine sq ?_
   refine rx hΓ [4,5] [[26,0,11,0,11,0],[23,0,11,0,11,0],[24,0,11,0,11,0]] (fun K' hK=>by simp only[go_sem,kq,yS,yR];exact ak) ?_
   refine aA ?_
   simp only[go_sem,uM,uN,CJ,uJ,uK,CI]
   all_goals first | done | rfl | (rw[hf];simp only[go_sem,uM,uN,uJ,uK,ba];done) | trace_state
  ·cases hb
end
noncomputable section
theorem pK(l:Led)(k:Int):(aq l k).l=l:=(pO l k l.ts.length).1
theorem yz{l:Led}{ds:List Int}(h:cU l ds=0):bA l/\∀ d∈ds,dayB d=true:=by
 unfold cU at h
 split at h
 ·rename_i hc
  refine⟨?_,?_⟩
  ·refine Classical.byContradiction fun hn=>?_
   rw[yF hn]at hc;cases hc
  ·unfold ib at h
   split at h
   ·rename_i hd
    intro d hdm
    have :(ds.any fun d=>!dayB d)=false:=by simpa using hd
    rw[List.any_eq_false]at this
    have :=this d hdm
    simpa using this
   ·cases h
 ·rename_i hc;exact(hc h).elim
def kM(l:Led)(k:Int):Bool:=(eJ (aq l k)).isNone&&fE (aq l k) (fK (aq l k).l k)
def K31:List (Nat×Spec):=[(75,oF),(76,S76),(120,S120),(121,S121),(122,S122),(128,S128),(77,S77),(129,S129)]
attribute [go_sem] K31
end
noncomputable section
def aec:List (Nat×Spec):=[(75,oF),(76,S76)]
attribute [go_sem] aec
def pq(x:Vw)(pa le day:Int):List Int:=match eR x.rs pa le day with
 |none=>[0]
 |some r=>match bu x.bk (r.so,le)with
  |none=>[r.bo]
  |some i=>(if (aW x.ds i).1<=day then[0]else[])++(if (aW x.ds i).2>day then[r.bo]else[])
def K32b:List (Nat×Spec):=[(119,S119)]
theorem aeb:KS K32b:=tc Eu<|tn
attribute [go_sem] K32b
def QM:VSpec:=v2 iQ iI (fun x _ _=>nA x/\x.rs.Nodup) (fun x f day=>.v (.sl ((pq x f.pa f.le day).map vInt))) none
def S80:Spec:=QM.toSpec
attribute [go_sem] QM S80
set_option maxHeartbeats 8000000 in
theorem MV:aL Tryz.prog 80 S80:=by
 refine zf (rs:=[.tmp 6]) Tryz.func80 Tryz.ntmps80 (by rfl) (by kernel_rfl) (by decide) (fun _ _ _=>by first | rfl | simp[D.clos,D.closL,mz]) ⟨_,rfl,lb rfl,fun x f day hp H h0 h1 h2 hO ae=>?_⟩
 have hP:=eK
 simp only[iQ,iI,gA,bt,dj,List.map_cons,List.map_nil,Nat.zero_add,Option.map_some,Option.map_none]at h0 |-
 have hΓ:=aeb
 obtain⟨pa,le⟩:=f
 have lT:pq x pa le day=match eR x.rs pa le day with
  |none=>[0]
  |some r=>match bu x.bk (r.so,le)with
   |none=>[r.bo]
   |some i=>(if (aW x.ds i).1<=day then[0]else[])++(if (aW x.ds i).2>day then[r.bo]else[]):=rfl
 rw[lT]
 clear lT
 repeat refine sq ?_
 refine rx hΓ [0,2,4] [[4,0]] (fun K' hK=>by simp only[go_sem,hO,ae,h0,h1,h2];(repeat (refine⟨an,?_⟩));exact hK _ (by simp only[go_sem,hO,ae,h0,h1,h2]) (by simp only[go_sem,hO,ae,h0,h1,h2]<;>rfl)) ?_
 rcases av:eR x.rs pa le day with _ | r
 ·repeat refine sq ?_
  refine rx hΓ [0,2,4,7,8] [[4,0],[7,0]] (fun K' hK=>by simp only[go_sem,hO,ae,h0,h1,h2,av,bq,Option.isSome_none];(repeat (refine⟨an,?_⟩));exact hK _ (by simp only[go_sem,hO,ae,h0,h1,h2,av,bq,Option.isSome_none]) (by simp only[go_sem,hO,ae,h0,h1,h2,av,bq,Option.isSome_none]<;>rfl)) ?_
  repeat refine sq ?_
  refine rx hΓ [0,2,4,7,20] [[4,0],[7,0]] (fun K' hK=>by simp only[go_sem,hO,ae,h0,h1,h2,av,bq,Option.isSome_none];(repeat (refine⟨an,?_⟩));exact hK _ (by simp only[go_sem,hO,ae,h0,h1,h2,av,bq,Option.isSome_none]) (by simp only[go_sem,hO,ae,h0,h1,h2,av,bq,Option.isSome_none]<;>rfl)) ?_
  repeat refine sq ?_
  refine ay (fun hb=>?_) fun hb=>?_
  ·repeat refine sq ?_
   refine rx hΓ [6] [[51,0],[65,0]] (fun K' hK=>by simp only[go_sem,hO,ae,h0,h1,h2,av,bq,Option.isSome_none];(repeat (refine⟨an,?_⟩));exact hK _ (by simp only[go_sem,hO,ae,h0,h1,h2,av,bq,Option.isSome_none]) (by simp only[go_sem,hO,ae,h0,h1,h2,av,bq,Option.isSome_none]<;>rfl)) ?_
   refine aA ?_
   simp only[go_sem,hO,ae,h0,h1,h2]
   all_goals first | rfl | (simp only[aI];rfl) | (simp_all;done) | trace_state
  ·cases hb
 ·repeat refine sq ?_
  refine rx hΓ [0,2,4,7,8] [[4,0],[7,0]] (fun K' hK=>by simp only[go_sem,hO,ae,h0,h1,h2,av,aD,Option.isSome_some];(repeat (refine⟨an,?_⟩));exact hK _ (by simp only[go_sem,hO,ae,h0,h1,h2,av,aD,Option.isSome_some]) (by simp only[go_sem,hO,ae,h0,h1,h2,av,aD,Option.isSome_some]<;>rfl)) ?_
  repeat refine sq ?_
  refine rx hΓ [0,2,4,7,20] [[4,0],[7,0]] (fun K' hK=>by simp only[go_sem,hO,ae,h0,h1,h2,av,aD,Option.isSome_some];(repeat (refine⟨an,?_⟩));exact hK _ (by simp only[go_sem,hO,ae,h0,h1,h2,av,aD,Option.isSome_some]) (by simp only[go_sem,hO,ae,h0,h1,h2,av,aD,Option.isSome_some]<;>rfl)) ?_
  repeat refine sq ?_
  refine ay (fun hb=>?_) fun hb=>?_
  ·cases hb
  ·repeat refine sq ?_
   refine aE ?_
   rcases aI:bu x.bk (r.so,le)with _ | j
   ·repeat refine sq ?_
    refine dx hΓ hP [[],[0],[0,1],[0,1,2],[],[4],[],[6],[4,5,6,7],u9,ca,dX,dX,eg,il] [0,2,7,9,10] [[7,0]] (by kernel_rfl) (fun K' hK=>by simp only[go_sem,hO,ae,h0,h1,h2,av,aD,Option.isSome_some,ax,aI,Option.map_none,Option.isSome_none,Option.getD_none];(repeat (refine⟨an,?_⟩));(first | refine⟨by rfl,?_⟩ | skip);exact hK _ (by simp only[go_sem,hO,ae,h0,h1,h2,av,aD,Option.isSome_some,ax,aI,Option.map_none,Option.isSome_none,Option.getD_none]) (by simp only[go_sem,hO,ae,h0,h1,h2,av,aD,Option.isSome_some,ax,aI,Option.map_none,Option.isSome_none,Option.getD_none]<;>rfl)) ?_
    repeat refine sq ?_
    refine rx hΓ [0,2,7,9,36] [[7,0]] (fun K' hK=>by simp only[go_sem,hO,ae,h0,h1,h2,av,aD,Option.isSome_some,ax,aI,Option.map_none,Option.isSome_none,Option.getD_none];(repeat (refine⟨an,?_⟩));exact hK _ (by simp only[go_sem,hO,ae,h0,h1,h2,av,aD,Option.isSome_some,ax,aI,Option.map_none,Option.isSome_none,Option.getD_none]) (by simp only[go_sem,hO,ae,h0,h1,h2,av,aD,Option.isSome_some,ax,aI,Option.map_none,Option.isSome_none,Option.getD_none]<;>rfl)) ?_
    repeat refine sq ?_
    refine ay (fun hb=>?_) fun hb=>?_
    ·repeat refine sq ?_
     refine rx hΓ [6] [[51,0],[65,0]] (fun K' hK=>by simp only[go_sem,hO,ae,h0,h1,h2,av,aD,Option.isSome_some,ax,aI,Option.map_none,Option.isSome_none,Option.getD_none];(repeat (refine⟨an,?_⟩));exact hK _ (by simp only[go_sem,hO,ae,h0,h1,h2,av,aD,Option.isSome_some,ax,aI,Option.map_none,Option.isSome_none,Option.getD_none]) (by simp only[go_sem,hO,ae,h0,h1,h2,av,aD,Option.isSome_some,ax,aI,Option.map_none,Option.isSome_none,Option.getD_none]<;>rfl)) ?_
     refine aA ?_
     simp only[go_sem,hO,ae,h0,h1,h2]
     all_goals first | rfl | (simp only[aI];rfl) | (simp_all;done) | trace_state
    ·cases hb
   ·repeat refine sq ?_
    refine dx hΓ hP [[],[0],[0,1],[0,1,2],[],[4],[],[6],[4,5,6,7],u9,ca,dX,dX,eg,il] [0,2,7,9,10] [[7,0]] (by kernel_rfl) (fun K' hK=>by simp only[go_sem,hO,ae,h0,h1,h2,av,aD,Option.isSome_some,ax,aI,Option.map_some,Option.isSome_some,Option.getD_some];(repeat (refine⟨an,?_⟩));(first | refine⟨by rfl,?_⟩ | skip);exact hK _ (by simp only[go_sem,hO,ae,h0,h1,h2,av,aD,Option.isSome_some,ax,aI,Option.map_some,Option.isSome_some,Option.getD_some]) (by simp only[go_sem,hO,ae,h0,h1,h2,av,aD,Option.isSome_some,ax,aI,Option.map_some,Option.isSome_some,Option.getD_some]<;>rfl)) ?_
    repeat refine sq ?_
    refine rx hΓ [0,2,7,9,36] [[7,0]] (fun K' hK=>by simp only[go_sem,hO,ae,h0,h1,h2,av,aD,Option.isSome_some,ax,aI,Option.map_some,Option.isSome_some,Option.getD_some];(repeat (refine⟨an,?_⟩));exact hK _ (by simp only[go_sem,hO,ae,h0,h1,h2,av,aD,Option.isSome_some,ax,aI,Option.map_some,Option.isSome_some,Option.getD_some]) (by simp only[go_sem,hO,ae,h0,h1,h2,av,aD,Option.isSome_some,ax,aI,Option.map_some,Option.isSome_some,Option.getD_some]<;>rfl)) ?_
    repeat refine sq ?_
    refine ay (fun hb=>?_) fun hb=>?_
    ·cases hb
    ·repeat refine sq ?_
     refine aE ?_
     repeat refine sq ?_
     refine rx hΓ [0,2,7,9,11] [[7,0],[51,0],[65,0]] (fun K' hK=>by simp only[go_sem,hO,ae,h0,h1,h2,av,aD,Option.isSome_some,ax,aI,Option.map_some,Option.isSome_some,Option.getD_some];(repeat (refine⟨an,?_⟩));exact hK _ (by simp only[go_sem,hO,ae,h0,h1,h2,av,aD,Option.isSome_some,ax,aI,Option.map_some,Option.isSome_some,Option.getD_some]) (by simp only[go_sem,hO,ae,h0,h1,h2,av,aD,Option.isSome_some,ax,aI,Option.map_some,Option.isSome_some,Option.getD_some]<;>rfl)) ?_
     refine bD (uC 11 [51,0] 1 (by simp only[go_sem]) (by simp only[go_sem]) [0,2,7,9,11] [[7,0],[51,0],[65,0]] ?_ rfl) ?_
     ·simp only[go_sem,hO,ae,h0,h1,h2]
     simp only[go_sem,hO,ae,h0,h1,h2]
     repeat refine sq ?_
     refine rx hΓ [0,2,7,9,11,48] [[7,0],[51,0],[65,0]] (fun K' hK=>by simp only[go_sem,hO,ae,h0,h1,h2,av,aD,Option.isSome_some,ax,aI,Option.map_some,Option.isSome_some,Option.getD_some,fY];(repeat (refine⟨an,?_⟩));exact hK _ (by simp only[go_sem,hO,ae,h0,h1,h2,av,aD,Option.isSome_some,ax,aI,Option.map_some,Option.isSome_some,Option.getD_some,fY]) (by simp only[go_sem,hO,ae,h0,h1,h2,av,aD,Option.isSome_some,ax,aI,Option.map_some,Option.isSome_some,Option.getD_some,fY]<;>rfl)) ?_
     repeat refine sq ?_
     refine ay (fun hb=>?_) fun hb=>?_
     ·repeat refine sq ?_
      refine rx hΓ [0,2,7,9,11] [[7,0],[51,0],[65,0]] (fun K' hK=>by simp only[go_sem,hO,ae,h0,h1,h2,av,aD,Option.isSome_some,ax,aI,Option.map_some,Option.isSome_some,Option.getD_some];(repeat (refine⟨an,?_⟩));exact hK _ (by simp only[go_sem,hO,ae,h0,h1,h2,av,aD,Option.isSome_some,ax,aI,Option.map_some,Option.isSome_some,Option.getD_some]) (by simp only[go_sem,hO,ae,h0,h1,h2,av,aD,Option.isSome_some,ax,aI,Option.map_some,Option.isSome_some,Option.getD_some]<;>rfl)) ?_
      repeat refine sq ?_
      refine rx hΓ [7,11,60] [[7,0],[51,0],[65,0]] (fun K' hK=>by simp only[go_sem,hO,ae,h0,h1,h2,av,aD,Option.isSome_some,ax,aI,Option.map_some,Option.isSome_some,Option.getD_some,fY];(repeat (refine⟨an,?_⟩));exact hK _ (by simp only[go_sem,hO,ae,h0,h1,h2,av,aD,Option.isSome_some,ax,aI,Option.map_some,Option.isSome_some,Option.getD_some,fY]) (by simp only[go_sem,hO,ae,h0,h1,h2,av,aD,Option.isSome_some,ax,aI,Option.map_some,Option.isSome_some,Option.getD_some,fY]<;>rfl)) ?_
      repeat refine sq ?_
      refine ay (fun hb=>?_) fun hb=>?_
      ·repeat refine sq ?_
       refine rx hΓ [11] [[51,0],[65,0]] (fun K' hK=>by simp only[go_sem,hO,ae,h0,h1,h2,av,aD,Option.isSome_some,ax,aI,Option.map_some,Option.isSome_some,Option.getD_some];(repeat (refine⟨an,?_⟩));exact hK _ (by simp only[go_sem,hO,ae,h0,h1,h2,av,aD,Option.isSome_some,ax,aI,Option.map_some,Option.isSome_some,Option.getD_some]) (by simp only[go_sem,hO,ae,h0,h1,h2,av,aD,Option.isSome_some,ax,aI,Option.map_some,Option.isSome_some,Option.getD_some]<;>rfl)) ?_
       repeat refine sq ?_
       refine rx hΓ [6] [[51,0],[65,0]] (fun K' hK=>by simp only[go_sem,hO,ae,h0,h1,h2,av,aD,Option.isSome_some,ax,aI,Option.map_some,Option.isSome_some,Option.getD_some];(repeat (refine⟨an,?_⟩));exact hK _ (by simp only[go_sem,hO,ae,h0,h1,h2,av,aD,Option.isSome_some,ax,aI,Option.map_some,Option.isSome_some,Option.getD_some]) (by simp only[go_sem,hO,ae,h0,h1,h2,av,aD,Option.isSome_some,ax,aI,Option.map_some,Option.isSome_some,Option.getD_some]<;>rfl)) ?_
       first | refine bD (dd 6 (.msl [51,0] 2) rfl (by simp only[go_sem]) [6] [] ?_ rfl) ?_ | refine bD (dd 6 (.msl [51,0] 1) rfl (by simp only[go_sem]) [6] [] ?_ rfl) ?_ | refine bD (dd 6 (.msl [51,0] 0) rfl (by simp only[go_sem]) [6] [] ?_ rfl) ?_
       ·simp only[go_sem,hO,h0,h1,h2]
       simp only[go_sem,hO,h0,h1,h2]
       refine aA ?_
       simp only[go_sem,hO,ae,h0,h1,h2]
       all_goals first | rfl | (simp only[aI];rfl) | (simp_all;done) | trace_state
      ·repeat refine sq ?_
       refine aE ?_
       repeat refine sq ?_
       refine rx hΓ [6] [[51,0],[65,0]] (fun K' hK=>by simp only[go_sem,hO,ae,h0,h1,h2,av,aD,Option.isSome_some,ax,aI,Option.map_some,Option.isSome_some,Option.getD_some];(repeat (refine⟨an,?_⟩));exact hK _ (by simp only[go_sem,hO,ae,h0,h1,h2,av,aD,Option.isSome_some,ax,aI,Option.map_some,Option.isSome_some,Option.getD_some]) (by simp only[go_sem,hO,ae,h0,h1,h2,av,aD,Option.isSome_some,ax,aI,Option.map_some,Option.isSome_some,Option.getD_some]<;>rfl)) ?_
       first | refine bD (dd 6 (.msl [51,0] 2) rfl (by simp only[go_sem]) [6] [] ?_ rfl) ?_ | refine bD (dd 6 (.msl [51,0] 1) rfl (by simp only[go_sem]) [6] [] ?_ rfl) ?_ | refine bD (dd 6 (.msl [51,0] 0) rfl (by simp only[go_sem]) [6] [] ?_ rfl) ?_
       ·simp only[go_sem,hO,h0,h1,h2]
       simp only[go_sem,hO,h0,h1,h2]
       refine aA ?_
       simp only[go_sem,hO,ae,h0,h1,h2]
       all_goals first | rfl | (simp only[aI];rfl) | (simp_all;done) | trace_state
     ·repeat refine sq ?_
      refine aE ?_
      repeat refine sq ?_
      refine rx hΓ [7,11,60] [[7,0],[51,0],[65,0]] (fun K' hK=>by simp only[go_sem,hO,ae,h0,h1,h2,av,aD,Option.isSome_some,ax,aI,Option.map_some,Option.isSome_some,Option.getD_some,fY];(repeat (refine⟨an,?_⟩));exact hK _ (by simp only[go_sem,hO,ae,h0,h1,h2,av,aD,Option.isSome_some,ax,aI,Option.map_some,Option.isSome_some,Option.getD_some,fY]) (by simp only[go_sem,hO,ae,h0,h1,h2,av,aD,Option.isSome_some,ax,aI,Option.map_some,Option.isSome_some,Option.getD_some,fY]<;>rfl)) ?_
      repeat refine sq ?_
      refine ay (fun hb=>?_) fun hb=>?_
      ·repeat refine sq ?_
       refine rx hΓ [11] [[51,0],[65,0]] (fun K' hK=>by simp only[go_sem,hO,ae,h0,h1,h2,av,aD,Option.isSome_some,ax,aI,Option.map_some,Option.isSome_some,Option.getD_some];(repeat (refine⟨an,?_⟩));exact hK _ (by simp only[go_sem,hO,ae,h0,h1,h2,av,aD,Option.isSome_some,ax,aI,Option.map_some,Option.isSome_some,Option.getD_some]) (by simp only[go_sem,hO,ae,h0,h1,h2,av,aD,Option.isSome_some,ax,aI,Option.map_some,Option.isSome_some,Option.getD_some]<;>rfl)) ?_
       repeat refine sq ?_
       refine rx hΓ [6] [[51,0],[65,0]] (fun K' hK=>by simp only[go_sem,hO,ae,h0,h1,h2,av,aD,Option.isSome_some,ax,aI,Option.map_some,Option.isSome_some,Option.getD_some];(repeat (refine⟨an,?_⟩));exact hK _ (by simp only[go_sem,hO,ae,h0,h1,h2,av,aD,Option.isSome_some,ax,aI,Option.map_some,Option.isSome_some,Option.getD_some]) (by simp only[go_sem,hO,ae,h0,h1,h2,av,aD,Option.isSome_some,ax,aI,Option.map_some,Option.isSome_some,Option.getD_some]<;>rfl)) ?_
       first | refine bD (dd 6 (.msl [51,0] 2) rfl (by simp only[go_sem]) [6] [] ?_ rfl) ?_ | refine bD (dd 6 (.msl [51,0] 1) rfl (by simp only[go_sem]) [6] [] ?_ rfl) ?_ | refine bD (dd 6 (.msl [51,0] 0) rfl (by simp only[go_sem]) [6] [] ?_ rfl) ?_
       ·simp only[go_sem,hO,h0,h1,h2]
       simp only[go_sem,hO,h0,h1,h2]
       refine aA ?_
       simp only[go_sem,hO,ae,h0,h1,h2]
       all_goals first | rfl | (simp only[aI];rfl) | (simp_all;done) | trace_state
      ·repeat refine sq ?_
       refine aE ?_
       repeat refine sq ?_
       refine rx hΓ [6] [[51,0],[65,0]] (fun K' hK=>by simp only[go_sem,hO,ae,h0,h1,h2,av,aD,Option.isSome_some,ax,aI,Option.map_some,Option.isSome_some,Option.getD_some];(repeat (refine⟨an,?_⟩));exact hK _ (by simp only[go_sem,hO,ae,h0,h1,h2,av,aD,Option.isSome_some,ax,aI,Option.map_some,Option.isSome_some,Option.getD_some]) (by simp only[go_sem,hO,ae,h0,h1,h2,av,aD,Option.isSome_some,ax,aI,Option.map_some,Option.isSome_some,Option.getD_some]<;>rfl)) ?_
       first | refine bD (dd 6 (.msl [51,0] 2) rfl (by simp only[go_sem]) [6] [] ?_ rfl) ?_ | refine bD (dd 6 (.msl [51,0] 1) rfl (by simp only[go_sem]) [6] [] ?_ rfl) ?_ | refine bD (dd 6 (.msl [51,0] 0) rfl (by simp only[go_sem]) [6] [] ?_ rfl) ?_
       ·simp only[go_sem,hO,h0,h1,h2]
       simp only[go_sem,hO,h0,h1,h2]
       refine aA ?_
       simp only[go_sem,hO,ae,h0,h1,h2]
       all_goals first | rfl | (simp only[aI];rfl) | (simp_all;done) | trace_state
end
noncomputable section
def eS(l:Led)(k:Int):Int:=Sf (eJ (aq l k)) (fE (aq l k) (fK (aq l k).l k))
theorem wK{l:Led}{k:Int}(h:kM l k=false):uO (eJ (aq l k)) (fE (aq l k) (fK (aq l k).l k)) (aq l k) k=[]/\uL (eJ (aq l k)) (fE (aq l k) (fK (aq l k).l k))=.tup [.v .nilp,.v (vInt (eS l k))]/\(eS l k != 0)=true:=by
 unfold kM at h
 unfold eS
 cases hp:eJ (aq l k)with
 |some p=>
  cases fE (aq l k) (fK (aq l k).l k)<;>exact⟨rfl,rfl,rfl⟩
 |none=>
  rw[hp]at h
  have h2:fE (aq l k) (fK (aq l k).l k)=false:=by simpa using h
  rw[h2]
  exact⟨rfl,rfl,rfl⟩
theorem wJ{l:Led}{k:Int}(h:kM l k=true):uO (eJ (aq l k)) (fE (aq l k) (fK (aq l k).l k)) (aq l k) k=uE (ba (aq l k) k) [11,0,11,0]/\uL (eJ (aq l k)) (fE (aq l k) (fK (aq l k).l k))=.tup [.ref [26,0,11,0,11,0] 0,.v (vInt 0)]/\eS l k=0:=by
 unfold kM at h
 simp only[Bool.and_eq_true,Option.isNone_iff_eq_none]at h
 unfold eS
 rw[h.1,h.2]
 exact⟨rfl,rfl,rfl⟩
theorem zu{l:Led}(h:bA l)(k:Int):nA (ba (aq l k) k)/\(ba (aq l k) k).rs.Nodup:=⟨(sJ h k).1.ds _,(sJ h k).2⟩
def aea:List (Nat×Spec):=[(78,S78)]
attribute [go_sem] aea
def nD(l:Led)(f:Fol)(day k:Int):Int:=if cU l [day,k]=0 then(if bO f.le 1 (cM l.ps f.pa)=true then eS l k else 26)else cU l [day,k]
def ze(l:Led)(f:Fol)(day k:Int):List Int:=if nD l f day k=0 then pq (ba (aq l k) k) f.pa f.le day else[]
def Cx(l:Led)(f:Fol)(day k:Int):V:=.tup [.sl ((ze l f day k).map vInt),vInt (nD l f day k)]
theorem bA.srt{l:Led}(h:bA l):Go.Eng.srt Pap.id l.ps:=w9 (kH.1 h.ps)
def K33b:List (Nat×Spec):=[(75,oF),(79,yW),(96,uo),(78,S78),(80,S80)]
theorem ad':KS K33b:=tc wO.sound<|tc CR.sound<|tc sk.sound<|tc Aj<|tc MV<|tn
attribute [go_sem] K33b
@[go_sem] def P23:PSpec:=p4 iL iQ iI iI (fun _ _ _ _=>True) (fun l f day k=>Cx l f day k) false
@[go_sem] def Q0:Spec:=P23.toSpec
set_option maxHeartbeats 8000000 in
theorem Tf:aU Tryz.prog 23 P23:=by
 refine pv (rs:=[.tmp 8,.tmp 9]) Tryz.func23 Tryz.ntmps23 fun l f day k hp hw=>?_
 have hP:=eK
 simp only[iQ,iI,iL,gA,ft]at hw |-
 have hΓ:=ad'
 unfold Cx ze
 repeat refine sq ?_
 refine rx hΓ [2,3,4,5] [[4,0],[5,0]] (fun K' hK=>by simp only[go_sem];exact ak) ?_
 refine bD (dd 4 (.ref [4,0] 0) (by simp only[go_sem]) (by simp only[go_sem]) [2,3,4,5] [[4,0],[5,0]] ?_ rfl) ?_
 ·simp only[go_sem]
 simp only[go_sem]
 repeat refine sq ?_
 refine rx hΓ [2,3,4,5,10] [[4,0],[5,0]] (fun K' hK=>by simp only[go_sem];exact ak) ?_
 repeat refine sq ?_
 refine rx hΓ [2,3,4,5,10,19] [[4,0],[5,0]] (fun K' hK=>by simp only[go_sem];exact ak) ?_
 repeat refine sq ?_
 refine ay (fun hb=>?_) fun hb=>?_
 ·repeat refine sq ?_
  have hc:¬ cU l [day,k]=0:=by simpa using hb
  have he:nD l f day k=cU l [day,k]:=by unfold nD;rw[if_neg hc]
  rw[he,if_neg hc]
  repeat refine sq ?_
  refine rx hΓ [8,9] [] (fun K' hK=>by simp only[go_sem];exact ak) ?_
  refine aA ?_
  simp only[go_sem]
  all_goals first | done | rfl | trace_state
 ·repeat refine sq ?_
  have hc:cU l [day,k]=0:=by simpa using hb
  obtain⟨aa,_⟩:=yz hc
  have vz:=aa.srt
  refine aE ?_
  repeat refine sq ?_
  refine dx hΓ hP [[],[0],[],[2],[2,3],u5,u6] [2,3,4,5,27] [[4,0],[5,0]] (by kernel_rfl) (fun K' hK=>by simp only[go_sem,vz];exact fF) ?_
  repeat refine sq ?_
  refine ay (fun hb=>?_) fun hb=>?_
  ·repeat refine sq ?_
   have he:nD l f day k=26:=by unfold nD;rw[if_pos hc,if_neg (by simpa using hb)]
   rw[he]
   repeat refine sq ?_
   refine rx hΓ [8,9] [] (fun K' hK=>by simp only[go_sem];exact ak) ?_
   refine aA ?_
   simp only[go_sem]
   all_goals first | done | rfl | trace_state
  ·repeat refine sq ?_
   have he:nD l f day k=eS l k:=by unfold nD;rw[if_pos hc,if_pos (by simpa using hb)]
   rw[he]
   refine aE ?_
   rcases lU:kM l k with _ | _
   ·obtain⟨q1,q2,q3⟩:=wK lU
    have q4:¬ eS l k=0:=by simpa using q3
    rw[if_neg q4]
    repeat refine sq ?_
    refine rx hΓ [2,5,11,12] [[5,0],[26,0,11,0,11,0,30,0],[23,0,11,0,11,0,30,0],[24,0,11,0,11,0,30,0]] (fun K' hK=>by simp only[go_sem,q1,q2,q3];exact ak) ?_
    repeat refine sq ?_
    refine rx hΓ [2,5,11,12,34] [[5,0],[26,0,11,0,11,0,30,0],[23,0,11,0,11,0,30,0],[24,0,11,0,11,0,30,0]] (fun K' hK=>by simp only[go_sem,q1,q2,q3];exact ak) ?_
    repeat refine sq ?_
    refine ay (fun hb=>?_) fun hb=>?_
    ·repeat refine sq ?_
     refine rx hΓ [8,9] [] (fun K' hK=>by simp only[go_sem,q1,q2,q3];exact ak) ?_
     refine aA ?_
     simp only[go_sem]
     all_goals first | done | rfl | trace_state
    ·cases hb
   ·obtain⟨q1,q2,q3⟩:=wJ lU
    obtain⟨hv,bZ⟩:=zu aa k
    rw[if_pos q3,q3]
    repeat refine sq ?_
    refine rx hΓ [2,5,11,12] [[5,0],[26,0,11,0,11,0,30,0],[23,0,11,0,11,0,30,0],[24,0,11,0,11,0,30,0]] (fun K' hK=>by simp only[go_sem,q1,q2];exact ak) ?_
    repeat refine sq ?_
    refine rx hΓ [2,5,11,12,34] [[5,0],[26,0,11,0,11,0,30,0],[23,0,11,0,11,0,30,0],[24,0,11,0,11,0,30,0]] (fun K' hK=>by simp only[go_sem,q1,q2];exact ak) ?_
    repeat refine sq ?_
    refine ay (fun hb=>?_) fun hb=>?_
    ·cases hb
    ·repeat refine sq ?_
     refine aE ?_
     repeat refine sq ?_
     refine rx hΓ [8,9] [] (fun K' hK=>by simp only[go_sem,q1,q2];(repeat (refine⟨by first | exact an | exact⟨hv,bZ⟩,?_⟩));exact fD) ?_
     refine aA ?_
     simp only[go_sem]
     all_goals first | done | rfl | trace_state
end
noncomputable section
def qM(x:Vw)(r:Rec)(day f:Int):Bool:=match bu x.bk (r.so,f)with
 |none=>true
 |some i=>decide ((aW x.ds i).1>day)
def sF(x:Vw)(r:Rec)(day f:Int):Bool:=match bu x.bk (r.so,f)with
 |none=>false
 |some i=>decide ((aW x.ds i).2>day)
def two(b:Bool):Int:=if b then 2 else 0
def dI(x:Vw)(r:Rec)(day:Int):Int:=if r.da>day then 0 else if r.lv.any (qM x r day)=true then 1 else two (r.lv.any (sF x r day))
def mI(l:Led)(s day k:Int):Int:=if cU l [day,k]=0 then(match cW (aq l k).rs s with | none=>3 | some _=>eS l k)else cU l [day,k]
def lO(l:Led)(s day k:Int):Int:=if mI l s day k=0 then(match cW (aq l k).rs s with | none=>0 | some r=>dI (ba (aq l k) k) r day)else 0
theorem acO{α:Type}{p:α->Bool}{l:List α}{i:Nat}(h:i<l.length):(l.take (i+1)).any p=((l.take i).any p||p l[i]):=by
 rw[List.take_add_one,List.getElem?_eq_getElem h,List.any_append]
 simp
theorem RY{a b:Bool}:two (a||b)=if b then 2 else two a:=by cases a<;>cases b<;>rfl
def K34a:List (Nat×Spec):=[(75,oF),(76,S76),(77,S77),(78,S78)]
theorem ad9:KS K34a:=tc wO.sound<|tc Ep<|tc MW<|tc Aj<|tn
attribute [go_sem] K34a
@[go_sem] def P16:PSpec:=p4 iL iI iI iI (fun _ _ _ _=>True) (fun l s day k=>.tup [vInt (lO l s day k),vInt (mI l s day k)]) true
@[go_sem] def S16:Spec:=P16.toSpec
set_option maxHeartbeats 8000000 in
theorem Ty:aU Tryz.prog 16 P16:=by
 refine pv (rs:=[.tmp 8,.tmp 9]) Tryz.func16 Tryz.ntmps16 fun l so day k hp hw=>?_
 have hP:=eK
 simp only[iI,iL,ft]at hw |-
 have hΓ:=ad9
 repeat refine sq ?_
 refine rx hΓ [1,2,3,4] [[4,0]] (fun K' hK=>by simp only[go_sem];exact ak) ?_
 refine bD (dd 4 (.ref [4,0] 0) (by simp only[go_sem]) (by simp only[go_sem]) [1,2,3,4] [[4,0]] ?_ rfl) ?_
 ·simp only[go_sem]
 simp only[go_sem]
 repeat refine sq ?_
 refine rx hΓ [1,2,3,4,10] [[4,0]] (fun K' hK=>by simp only[go_sem];exact ak) ?_
 repeat refine sq ?_
 refine rx hΓ [1,2,3,4,10,26] [[4,0]] (fun K' hK=>by simp only[go_sem];exact ak) ?_
 repeat refine sq ?_
 refine ay (fun hb=>?_) fun hb=>?_
 ·repeat refine sq ?_
  have hc:¬ cU l [day,k]=0:=by simpa using hb
  have he:mI l so day k=cU l [day,k]:=by unfold mI;rw[if_neg hc]
  have ha:lO l so day k=0:=by unfold lO;rw[he,if_neg hc]
  rw[he,ha]
  repeat refine sq ?_
  refine rx hΓ [8,9] [] (fun K' hK=>by simp only[go_sem];exact ak) ?_
  refine aA ?_
  simp only[go_sem]
  all_goals first | rfl | (have e:dI (ba (aq l k) k) r day=1:=(by unfold dI;rw[if_neg kX,if_pos (qu ab (by first | exact ho | (rw[ho];assumption)))]);rw[e];done) | (have e:dI (ba (aq l k) k) r day=B:=(by unfold dI;rw[if_neg kX,if_neg (by rw[rZ fun j hj=>hR j hj hj];decide),<-hB,List.take_length]);rw[e];done) | trace_state
 ·repeat refine sq ?_
  have hc:cU l [day,k]=0:=by simpa using hb
  obtain⟨aa,_⟩:=yz hc
  refine aE ?_
  rcases dD:cW (aq l k).rs so with _ | r
  ·have he:mI l so day k=3:=by unfold mI;rw[if_pos hc,dD]
   have ha:lO l so day k=0:=by unfold lO;rw[he,if_neg (by decide)]
   rw[he,ha]
   repeat refine sq ?_
   refine rx hΓ [2,3,4,11,12] [[4,0],[11,0]] (fun K' hK=>by simp only[go_sem,dD,bq,Option.isSome_none];exact ak) ?_
   repeat refine sq ?_
   refine rx hΓ [2,3,4,11,36] [[4,0],[11,0]] (fun K' hK=>by simp only[go_sem,dD,bq,Option.isSome_none];exact ak) ?_
   repeat refine sq ?_
   refine ay (fun hb=>?_) fun hb=>?_
   ·repeat refine sq ?_
    refine rx hΓ [8,9] [] (fun K' hK=>by simp only[go_sem,dD,bq,Option.isSome_none];exact ak) ?_
    refine aA ?_
    simp only[go_sem]
    all_goals first | rfl | (have e:dI (ba (aq l k) k) r day=1:=(by unfold dI;rw[if_neg kX,if_pos (qu ab (by first | exact ho | (rw[ho];assumption)))]);rw[e];done) | (have e:dI (ba (aq l k) k) r day=B:=(by unfold dI;rw[if_neg kX,if_neg (by rw[rZ fun j hj=>hR j hj hj];decide),<-hB,List.take_length]);rw[e];done) | trace_state
   ·cases hb
  ·have he:mI l so day k=eS l k:=by unfold mI;rw[if_pos hc,dD]
   have s5:=(sJ aa k).1.rs r (qH dD).1
   have ti:r.lv.length<=maxLen:=by have:=(Dc s5).2;unfold maxLen;omega
   repeat refine sq ?_
   refine rx hΓ [2,3,4,11,12] [[4,0],[11,0]] (fun K' hK=>by simp only[go_sem,dD,aD,Option.isSome_some];exact ak) ?_
   repeat refine sq ?_
   refine rx hΓ [2,3,4,11,36] [[4,0],[11,0]] (fun K' hK=>by simp only[go_sem,dD,aD,Option.isSome_some];exact ak) ?_
   repeat refine sq ?_
   refine ay (fun hb=>?_) fun hb=>?_
   ·cases hb
   ·repeat refine sq ?_
    refine aE ?_
    rcases lU:kM l k with _ | _
    ·obtain⟨q1,q2,q3⟩:=wK lU
     have q4:¬ eS l k=0:=by simpa using q3
     have ha:lO l so day k=0:=by unfold lO;rw[he,if_neg q4]
     rw[he,ha]
     repeat refine sq ?_
     refine rx hΓ [2,11,13,14] [[11,0],[26,0,11,0,11,0,39,0],[23,0,11,0,11,0,39,0],[24,0,11,0,11,0,39,0]] (fun K' hK=>by simp only[go_sem,dD,aD,Option.isSome_some,q1,q2,q3];exact ak) ?_
     repeat refine sq ?_
     refine rx hΓ [2,11,13,14,43] [[11,0],[26,0,11,0,11,0,39,0],[23,0,11,0,11,0,39,0],[24,0,11,0,11,0,39,0]] (fun K' hK=>by simp only[go_sem,dD,aD,Option.isSome_some,q1,q2,q3];exact ak) ?_
     repeat refine sq ?_
     refine ay (fun hb=>?_) fun hb=>?_
     ·repeat refine sq ?_
      refine rx hΓ [8,9] [] (fun K' hK=>by simp only[go_sem,dD,aD,Option.isSome_some,q1,q2,q3];exact ak) ?_
      refine aA ?_
      simp only[go_sem]
      all_goals first | rfl | (have e:dI (ba (aq l k) k) r day=1:=(by unfold dI;rw[if_neg kX,if_pos (qu ab (by first | exact ho | (rw[ho];assumption)))]);rw[e];done) | (have e:dI (ba (aq l k) k) r day=B:=(by unfold dI;rw[if_neg kX,if_neg (by rw[rZ fun j hj=>hR j hj hj];decide),<-hB,List.take_length]);rw[e];done) | trace_state
     ·cases hb
    ·obtain⟨q1,q2,q3⟩:=wJ lU
     obtain⟨hv,bZ⟩:=zu aa k
     have ha:lO l so day k=dI (ba (aq l k) k) r day:=by unfold lO;rw[he,if_pos q3,dD]
     rw[he,ha,q3]
     repeat refine sq ?_
     refine rx hΓ [2,11,13,14] [[11,0],[26,0,11,0,11,0,39,0],[23,0,11,0,11,0,39,0],[24,0,11,0,11,0,39,0]] (fun K' hK=>by simp only[go_sem,dD,aD,Option.isSome_some,q1,q2];exact ak) ?_
     repeat refine sq ?_
     refine rx hΓ [2,11,13,14,43] [[11,0],[26,0,11,0,11,0,39,0],[23,0,11,0,11,0,39,0],[24,0,11,0,11,0,39,0]] (fun K' hK=>by simp only[go_sem,dD,aD,Option.isSome_some,q1,q2];exact ak) ?_
     repeat refine sq ?_
     refine ay (fun hb=>?_) fun hb=>?_
     ·cases hb
     ·repeat refine sq ?_
      refine aE ?_
      repeat refine sq ?_
      refine rx hΓ [2,11,13,48] [[11,0],[26,0,11,0,11,0,39,0],[23,0,11,0,11,0,39,0],[24,0,11,0,11,0,39,0]] (fun K' hK=>by simp only[go_sem,dD,aD,Option.isSome_some,q1,q2];exact ak) ?_
      repeat refine sq ?_
      refine ay (fun hb=>?_) fun hb=>?_
      ·repeat refine sq ?_
       have hk:dI (ba (aq l k) k) r day=0:=by unfold dI;rw[if_pos (by simpa using hb)]
       rw[hk]
       repeat refine sq ?_
       refine rx hΓ [8,9] [] (fun K' hK=>by simp only[go_sem,dD,aD,Option.isSome_some,q1,q2];exact ak) ?_
       refine aA ?_
       simp only[go_sem]
       all_goals first | rfl | (have e:dI (ba (aq l k) k) r day=1:=(by unfold dI;rw[if_neg kX,if_pos (qu ab (by first | exact ho | (rw[ho];assumption)))]);rw[e];done) | (have e:dI (ba (aq l k) k) r day=B:=(by unfold dI;rw[if_neg kX,if_neg (by rw[rZ fun j hj=>hR j hj hj];decide),<-hB,List.take_length]);rw[e];done) | trace_state
      ·repeat refine sq ?_
       have kX:¬ r.da>day:=by simpa using hb
       refine aE ?_
       repeat refine sq ?_
       refine rx hΓ [2,11,13,15] [[11,0],[26,0,11,0,11,0,39,0],[23,0,11,0,11,0,39,0],[24,0,11,0,11,0,39,0]] (fun K' hK=>by simp only[go_sem,dD,aD,Option.isSome_some,q1,q2];exact ak) ?_
       repeat refine sq ?_
       refine rx hΓ [2,11,13,15,50,51,52] [[11,0],[26,0,11,0,11,0,39,0],[23,0,11,0,11,0,39,0],[24,0,11,0,11,0,39,0]] (fun K' hK=>by simp only[go_sem,dD,aD,Option.isSome_some,q1,q2];exact ak) ?_
       repeat refine sq ?_
       refine aN ?_
       repeat refine sq ?_
       refine cB (fun s:Nat=>[(52,⟨true,.v (vInt s)⟩),(15,⟨true,.v (vInt (two ((r.lv.take s).any (sF (ba (aq l k) k) r day))))⟩)]) (fun s=>[]) (fun s=>s<=r.lv.length/\∀ j (h:j<r.lv.length),j<s->qM (ba (aq l k) k) r day r.lv[j]=false) (fun s=>r.lv.length-s) 0 ?_ ?_ ?_ ?_
       ·exact⟨Nat.zero_le _,by simp⟩
       ·rfl
       ·rfl
       rintro i ⟨hi,hR⟩
       generalize hB:two ((r.lv.take i).any (sF (ba (aq l k) k) r day))=B
       simp only[go_sem]
       repeat refine sq ?_
       refine rx hΓ [2,11,13,15,50,51,52,53] [[11,0],[26,0,11,0,11,0,39,0],[23,0,11,0,11,0,39,0],[24,0,11,0,11,0,39,0]] (fun K' hK=>by simp only[go_sem,dD,aD,Option.isSome_some,q1,q2];exact ak) ?_
       repeat refine sq ?_
       refine ay (fun hb=>?_) fun hb=>?_
       ·have ab:i<r.lv.length:=by simpa using hb
        have au:(i:Int)<r.lv.length:=by omega
        clear hb
        repeat refine sq ?_
        refine aE ?_
        repeat refine sq ?_
        refine aN ?_
        repeat refine sq ?_
        refine rx hΓ [2,11,13,15,17,50,51,52] [[11,0],[26,0,11,0,11,0,39,0],[23,0,11,0,11,0,39,0],[24,0,11,0,11,0,39,0]] (fun K' hK=>by simp only[go_sem,dD,aD,Option.isSome_some,q1,q2,ah ab,ai,aj,au];exact ak) ?_
        rcases aI:bu (ba (aq l k) k).bk (r.so,r.lv[i])with _ | j
        ·have ho:qM (ba (aq l k) k) r day r.lv[i]=true:=by unfold qM;rw[aI]
         repeat refine sq ?_
         refine dx hΓ hP [[],[0],[0,1],[0,1,2],[],[4],[],[4,5,6],u8,u9,ca,ca,dX,gT] [2,11,13,15,18,19,50,51,52] [[11,0],[26,0,11,0,11,0,39,0],[23,0,11,0,11,0,39,0],[24,0,11,0,11,0,39,0]] (by kernel_rfl) (fun K' hK=>by simp only[go_sem,dD,aD,Option.isSome_some,q1,q2,ah ab,ai,aj,au,ax,aI,Option.map_none,Option.isSome_none,Option.getD_none];exact fF) ?_
         repeat refine sq ?_
         refine aN ?_
         repeat refine sq ?_
         refine rx hΓ [2,11,13,15,18,50,51,52,68] [[11,0],[26,0,11,0,11,0,39,0],[23,0,11,0,11,0,39,0],[24,0,11,0,11,0,39,0]] (fun K' hK=>by simp only[go_sem,dD,aD,Option.isSome_some,q1,q2,ah ab,ai,aj,au,ax,aI,Option.map_none,Option.isSome_none,Option.getD_none];exact ak) ?_
         repeat refine sq ?_
         refine ay (fun hb=>?_) fun hb=>?_
         ·repeat refine sq ?_
          refine rx hΓ [8,9] [] (fun K' hK=>by simp only[go_sem,dD,aD,Option.isSome_some,q1,q2,ah ab,ai,aj,au,ax,aI,Option.map_none,Option.isSome_none,Option.getD_none];exact ak) ?_
          refine aA ?_
          simp only[go_sem]
          all_goals first | rfl | (have e:dI (ba (aq l k) k) r day=1:=(by unfold dI;rw[if_neg kX,if_pos (qu ab (by first | exact ho | (rw[ho];assumption)))]);rw[e];done) | (have e:dI (ba (aq l k) k) r day=B:=(by unfold dI;rw[if_neg kX,if_neg (by rw[rZ fun j hj=>hR j hj hj];decide),<-hB,List.take_length]);rw[e];done) | trace_state
         ·cases hb
        ·have ho:qM (ba (aq l k) k) r day r.lv[i]=decide ((aW (ba (aq l k) k).ds j).1>day):=by unfold qM;rw[aI]
         have hm:two ((r.lv.take (i+1)).any (sF (ba (aq l k) k) r day))=if decide ((aW (ba (aq l k) k).ds j).2>day)=true then 2 else B:=by
          rw[acO ab,RY,hB];unfold sF;rw[aI]
         repeat refine sq ?_
         refine dx hΓ hP [[],[0],[0,1],[0,1,2],[],[4],[],[4,5,6],u8,u9,ca,ca,dX,gT] [2,11,13,15,18,19,50,51,52] [[11,0],[26,0,11,0,11,0,39,0],[23,0,11,0,11,0,39,0],[24,0,11,0,11,0,39,0]] (by kernel_rfl) (fun K' hK=>by simp only[go_sem,dD,aD,Option.isSome_some,q1,q2,ah ab,ai,aj,au,ax,fY,aI,Option.map_some,Option.isSome_some,Option.getD_some];exact fF) ?_
         repeat refine sq ?_
         refine aN ?_
         repeat refine sq ?_
         refine rx hΓ [2,11,13,15,18,50,51,52,68] [[11,0],[26,0,11,0,11,0,39,0],[23,0,11,0,11,0,39,0],[24,0,11,0,11,0,39,0]] (fun K' hK=>by simp only[go_sem,dD,aD,Option.isSome_some,q1,q2,ah ab,ai,aj,au,ax,fY,aI,Option.map_some,Option.isSome_some,Option.getD_some];exact ak) ?_
         repeat refine sq ?_
         refine ay (fun hb=>?_) fun hb=>?_
         ·repeat refine sq ?_
          refine rx hΓ [8,9] [] (fun K' hK=>by simp only[go_sem,dD,aD,Option.isSome_some,q1,q2,ah ab,ai,aj,au,ax,fY,aI,Option.map_some,Option.isSome_some,Option.getD_some];exact ak) ?_
          refine aA ?_
          simp only[go_sem]
          all_goals first | rfl | (have e:dI (ba (aq l k) k) r day=1:=(by unfold dI;rw[if_neg kX,if_pos (qu ab (by first | exact ho | (rw[ho];assumption)))]);rw[e];done) | (have e:dI (ba (aq l k) k) r day=B:=(by unfold dI;rw[if_neg kX,if_neg (by rw[rZ fun j hj=>hR j hj hj];decide),<-hB,List.take_length]);rw[e];done) | trace_state
         ·repeat refine sq ?_
          refine rx hΓ [2,11,13,15,50,51,52,82] [[11,0],[26,0,11,0,11,0,39,0],[23,0,11,0,11,0,39,0],[24,0,11,0,11,0,39,0]] (fun K' hK=>by simp only[go_sem,dD,aD,Option.isSome_some,q1,q2,ah ab,ai,aj,au,ax,fY,aI,Option.map_some,Option.isSome_some,Option.getD_some];exact ak) ?_
          repeat refine sq ?_
          refine ay (fun hb=>?_) fun hb=>?_
          ·repeat refine sq ?_
           rw[if_pos hb]at hm
           repeat refine sq ?_
           refine aP hΓ fun K' hK=>?_
           simp only[go_sem,dD,aD,Option.isSome_some,q1,q2,ah ab,ai,aj,au,ax,fY,aI,Option.map_some,Option.isSome_some,Option.getD_some]
           repeat (refine⟨an,?_⟩)
           refine hK _ ?_
           clear K' hK
           simp only[go_sem]
           refine kp [2,11,13,15,50,51,52] [[11,0],[26,0,11,0,11,0,39,0],[23,0,11,0,11,0,39,0],[24,0,11,0,11,0,39,0]] ?_
           repeat refine sq ?_
           refine aP hΓ fun K' hK=>?_
           simp only[go_sem,dD,aD,Option.isSome_some,q1,q2,ah ab,ai,aj,au,ax,fY,aI,Option.map_some,Option.isSome_some,Option.getD_some]
           repeat (refine⟨an,?_⟩)
           refine hK _ ?_
           clear K' hK
           simp only[go_sem]
           refine⟨i+1,⟨ab,?_⟩,by(show r.lv.length-(i+1)<r.lv.length-i;omega),?_⟩
           ·intro q hq jM
            rcases Nat.lt_succ_iff_lt_or_eq.1 jM with h5 | rfl
            ·exact hR q hq h5
            ·rw[ho];assumption
           refine bd [2,11,13,15,50,51,52] [[11,0],[26,0,11,0,11,0,39,0],[23,0,11,0,11,0,39,0],[24,0,11,0,11,0,39,0]] ?_ ?_<;>simp only[go_sem,a7 ab ti,bb,hm]
          ·repeat refine sq ?_
           rw[if_neg (by rw[hb];decide)]at hm
           refine aE ?_
           refine bQ ?_
           simp only[go_sem]
           refine kp [2,11,13,15,50,51,52] [[11,0],[26,0,11,0,11,0,39,0],[23,0,11,0,11,0,39,0],[24,0,11,0,11,0,39,0]] ?_
           repeat refine sq ?_
           refine aP hΓ fun K' hK=>?_
           simp only[go_sem,dD,aD,Option.isSome_some,q1,q2,ah ab,ai,aj,au,ax,fY,aI,Option.map_some,Option.isSome_some,Option.getD_some]
           repeat (refine⟨an,?_⟩)
           refine hK _ ?_
           clear K' hK
           simp only[go_sem]
           refine⟨i+1,⟨ab,?_⟩,by(show r.lv.length-(i+1)<r.lv.length-i;omega),?_⟩
           ·intro q hq jM
            rcases Nat.lt_succ_iff_lt_or_eq.1 jM with h5 | rfl
            ·exact hR q hq h5
            ·rw[ho];assumption
           refine bd [2,11,13,15,50,51,52] [[11,0],[26,0,11,0,11,0,39,0],[23,0,11,0,11,0,39,0],[24,0,11,0,11,0,39,0]] ?_ ?_<;>simp only[go_sem,a7 ab ti,bb,hm]
       ·have bB:i=r.lv.length:=by
         have :¬ (i:Int)<r.lv.length:=by simpa using hb
         omega
        clear hb
        subst bB
        repeat refine sq ?_
        refine bT ?_
        simp only[go_sem]
        refine kp [15] [] ?_
        repeat refine sq ?_
        refine rx hΓ [8,9] [] (fun K' hK=>by simp only[go_sem,dD,aD,Option.isSome_some,q1,q2];exact ak) ?_
        refine aA ?_
        simp only[go_sem]
        all_goals first | rfl | (have e:dI (ba (aq l k) k) r day=1:=(by unfold dI;rw[if_neg kX,if_pos (qu ab (by first | exact ho | (rw[ho];assumption)))]);rw[e];done) | (have e:dI (ba (aq l k) k) r day=B:=(by unfold dI;rw[if_neg kX,if_neg (by rw[rZ fun j hj=>hR j hj hj];decide),<-hB,List.take_length]);rw[e];done) | trace_state
end
noncomputable section
theorem VW{l:Led}(h:bA l)(x:Int):0<=cM l.ps x/\cM l.ps x<=30:=by
 unfold cM
 split
 ·rename_i p hp
  have hm:=List.mem_of_find?_eq_some hp
  obtain⟨j,hj,rfl⟩:=List.getElem_of_mem hm
  have :=ni h.ps hj
  unfold mD bO at this
  simp at this
  omega
 ·omega
def K35:List (Nat×Spec):=[(75,oF),(79,yW),(78,S78),(80,S80)]
attribute [go_sem] K35
end
set_option maxHeartbeats 8000000
noncomputable section
def pf(p:Pap):List Fol:=(List.range p.lv.toNat).map fun j=>⟨p.id,((j+1:Nat):Int)⟩
def ll(l:Led)(i:Nat):List Fol:=(l.ps.take i).flatMap pf
def dG(l:Led):List Fol:=l.ps.flatMap pf
theorem aaU{l:Led}{i:Nat}(h:i<l.ps.length):ll l (i+1)=ll l i++pf l.ps[i]:=by
 unfold ll
 rw[List.take_add_one,List.getElem?_eq_getElem h,List.flatMap_append]
 simp
theorem aaV(l:Led):ll l l.ps.length=dG l:=by unfold ll dG;rw[List.take_length]
theorem Dq(p:Pap):(pf p).length=p.lv.toNat:=by simp[pf]
theorem aaW{l:Led}{i:Nat}(h:i<l.ps.length):∃ r,dG l=ll l i++(pf l.ps[i]++r):=by
 refine⟨(l.ps.drop (i+1)).flatMap pf,?_⟩
 unfold dG ll
 conv=>lhs;rw[<-List.take_append_drop i l.ps,List.flatMap_append,List.drop_eq_getElem_cons h,List.flatMap_cons]
theorem aaS{l:Led}{i j:Nat}{z:Fol}(h:i<l.ps.length)(hj:j<(l.ps[i]).lv.toNat):(ll l i).length+j<(dG l).length/\(dG l).getD ((ll l i).length+j) z=⟨(l.ps[i]).id,((j+1:Nat):Int)⟩:=by
 obtain⟨r,hr⟩:=aaW h
 have hp:=Dq l.ps[i]
 rw[hr]
 refine⟨by simp only[List.length_append];omega,?_⟩
 rw[List.getD_eq_getElem?_getD,List.getElem?_append_right (by omega),Nat.add_sub_cancel_left,List.getElem?_append_left (by omega)]
 simp[pf,hj]
@[go_sem] def P93:PSpec:=p1 lS (fun _=>True) (fun l=>.clo (.func 182) [] [.ptr [gk l]]) false
@[go_sem] def QW:Spec:=P93.toSpec
theorem SX:aU Tryz.prog 93 P93:=by
 refine gp (rs:=[.tmp 2]) Tryz.func93 Tryz.ntmps93 fun l hp hw=>?_
 simp only[lS,gk]at hw |-
 have hΓ:=@fx Tryz.prog
 repeat refine sq ?_
 refine rx hΓ [1] [[1,0]] (fun K' hK=>by simp only[go_sem];exact ak) ?_
 refine bD (dd 1 (.ref [1,0] 0) (by simp only[go_sem]) (by simp only[go_sem]) [1] [[1,0]] ?_ rfl) ?_
 ·simp only[go_sem]
 simp only[go_sem]
 repeat refine sq ?_
 refine rx hΓ [2] [[1,0]] (fun K' hK=>by simp only[go_sem];exact ak) ?_
 refine aA ?_
 simp only[go_sem]
 all_goals exact dV
theorem RQ{sY:Spec}(hY:aL Tryz.prog yid sY){l:Led}(aa:bA l){I:Nat->List O}
 (hI:∀ s,(I s).length=(I 0).length) (hc:∀ s,∀ o∈I s,∀ dom:Name->Bool,(∀ i,dom [i,1]=true)->O.clos dom o=true)
 (lf:∀ s,s<(dG l).length->∀ obj tm,(∀ nm,di nm=true->obj nm=aR (I s) nm)->sY.app obj tm [.yld [0,1],.agg [.v (vInt ((dG l).getD s default).pa),.v (vInt ((dG l).getD s default).le)]]=⟨True,.v (.bool true),je obj (I (s+1))⟩):
 ∃ c',Tryz.f182.body=some c'/\CL Tryz.prog [c'] (bg 29 [0] (aR (I 0)) [(0,⟨true,.yld [0,1]⟩),(1,⟨true,.v (.ptr [gk l])⟩)] [])
   (fun e σ=>(e=.normal\/e=.ret)/\∀ i,σ.obj [i,1]=aR (I (dG l).length) [i,1]):=by
 refine⟨_,rfl,?_⟩
 obtain⟨Γ,hΓ,dP⟩:∃ Γ:FuncId->Option Spec,(∀ f s,Γ f=some s->aL Tryz.prog f s)/\Γ 1000000000=some sY:=by
  refine⟨fun f=>if f=1000000000 then some sY else none,fun f s h=>?_,rfl⟩
  dsimp only at h
  split at h
  ·rename_i e;cases h;subst e;exact hY
  ·cases h
 have hO:∀ s hs,ck [0] (bY [0] hs) (aR (I s))=True:=fun s hs=>eq_true (nP (hc s) hs)
 have pW:∀ s,je (aR (I s)) (I (s+1))=aR (I (s+1)):=fun s=>IP ((hI _).trans (hI s).symm)
 obtain⟨H,hH⟩:∃ H:Nat->Name->Option O,∀ s,aR (I s)=H s:=⟨_,fun _=>rfl⟩
 simp only[hH]at hO pW lf |-
 have E2:=aa.psn
 have kW:l.ps.length<=maxLen:=by unfold maxLen;omega
 simp only[gk]
 repeat refine sq ?_
 refine rx hΓ [0,9,10,11] [] (fun K' hK=>by simp only[go_sem,hO];(repeat (refine⟨an,?_⟩));exact hK _ (by simp only[go_sem,hO]) (by simp only[go_sem,hO]<;>rfl)) ?_
 repeat refine sq ?_
 refine aN ?_
 repeat refine sq ?_
 refine yC (fun s:Nat=>bg 29 [0] (H (ll l s).length) [(0,⟨true,.yld [0,1]⟩),(9,⟨true,.v (.sl (l.ps.map cP))⟩),(10,⟨true,.v (vInt l.ps.length)⟩),(11,⟨true,.v (vInt s)⟩)] [])
  (fun s=>s<=l.ps.length) (fun s=>l.ps.length-s) 0 (Nat.zero_le _) (dW.refl _) ?_
 rintro i hi
 repeat refine sq ?_
 refine rx hΓ [0,9,10,11,12] [] (fun K' hK=>by simp only[go_sem,hO];(repeat (refine⟨an,?_⟩));exact hK _ (by simp only[go_sem,hO]) (by simp only[go_sem,hO]<;>rfl)) ?_
 repeat refine sq ?_
 refine ay (fun hb=>?_) fun hb=>?_
 ·have ab:i<l.ps.length:=by simpa using hb
  have au:(i:Int)<l.ps.length:=by omega
  have xE:IntKind.i64.wrap ((i:Int)+1)=((i+1:Nat):Int):=a7 ab kW
  clear hb
  have s7:0<=(l.ps[i]).lv/\(l.ps[i]).lv<=30:=by
   have :=ni aa.ps ab
   unfold mD bO at this
   simp at this
   omega
  obtain⟨lv,kZ⟩:∃ lv:Nat,(l.ps[i]).lv=lv:=⟨(l.ps[i]).lv.toNat,by omega⟩
  have cz:(l.ps[i]).lv.toNat=lv:=by omega
  repeat refine sq ?_
  refine aE ?_
  repeat refine sq ?_
  refine aN ?_
  repeat refine sq ?_
  refine rx hΓ [0,4,9,10,11] [[4,0]] (fun K' hK=>by simp only[go_sem,hO,ah ab,ai,aj,au];(repeat (refine⟨an,?_⟩));exact hK _ (by simp only[go_sem,hO,ah ab,ai,aj,au]) (by simp only[go_sem,hO,ah ab,ai,aj,au]<;>rfl)) ?_
  repeat refine sq ?_
  refine rx hΓ [0,4,5,9,10,11] [[4,0]] (fun K' hK=>by simp only[go_sem,hO];(repeat (refine⟨an,?_⟩));exact hK _ (by simp only[go_sem,hO]) (by simp only[go_sem,hO]<;>rfl)) ?_
  repeat refine sq ?_
  refine aN ?_
  repeat refine sq ?_
  refine yC (fun j:Nat=>bg 29 [0] (H ((ll l i).length+j)) [(0,⟨true,.yld [0,1]⟩),(4,⟨true,.ref [4,0] 0⟩),(5,⟨true,.v (vInt ((j+1:Nat):Int))⟩),(9,⟨true,.v (.sl (l.ps.map cP))⟩),(10,⟨true,.v (vInt l.ps.length)⟩),(11,⟨true,.v (vInt i)⟩)] [([4,0],.box [.v (vInt (l.ps[i]).id),.v (vInt (l.ps[i]).lv)])])
   (fun j=>j<=lv) (fun j=>lv-j) 0 (Nat.zero_le _) (dW.refl _) ?_
  rintro j hj
  repeat refine sq ?_
  refine rx hΓ [0,4,5,9,10,11,18] [[4,0]] (fun K' hK=>by simp only[go_sem,hO];(repeat (refine⟨an,?_⟩));exact hK _ (by simp only[go_sem,hO]) (by simp only[go_sem,hO]<;>rfl)) ?_
  repeat refine sq ?_
  refine ay (fun hb=>?_) fun hb=>?_
  ·have iz:j<lv:=by
     have :((j+1:Nat):Int)<=(l.ps[i]).lv:=by simpa using hb
     omega
   have YI:IntKind.i64.wrap (((j+1:Nat):Int)+1)=((j+1+1:Nat):Int):=a7 (n:=100) (by omega) (by unfold maxLen;omega)
   clear hb
   obtain⟨vG,jN⟩:=aaS (z:=default) ab (show j<(l.ps[i]).lv.toNat by omega)
   have qf:=fun (F:Name->Option O) (tm:Name)=>lf _ vG (fun nm=>if own [0] nm=true then F nm else H ((ll l i).length+j) nm) tm fun nm hn=>by
    obtain⟨k,rfl⟩:=vq.1 hn
    simp[qL]
   rw[jN]at qf
   have EP:∀ (obj:Name->Option O) (L:List O),je obj L [4,0]=obj [4,0]:=fun _ _=>rfl
   repeat refine sq ?_
   refine aE ?_
   repeat refine sq ?_
   refine aN ?_
   repeat refine sq ?_
   refine rx hΓ [0,4,5,9,10,11,27] [[4,0]] (fun K' hK=>by simp only[go_sem,hO,dP,qf,EP,vk,wu,pW,Bool.not_true];(repeat (refine⟨an,?_⟩));exact hK _ (by simp only[go_sem,hO,dP,qf,EP,vk,wu,pW,Bool.not_true]) (by simp only[go_sem,hO,dP,qf,EP,vk,wu,pW,Bool.not_true]<;>rfl)) ?_
   repeat refine sq ?_
   refine ay (fun hb=>?_) fun hb=>?_
   ·cases hb
   repeat refine sq ?_
   refine aE ?_
   refine bQ ?_
   simp only[go_sem]
   refine eG [0,4,5,9,10,11] [[4,0]] ?_ ?_
   ·simp only[go_sem,hO]
   simp only[go_sem,hO]
   repeat refine sq ?_
   refine aP hΓ fun K' hK=>?_
   simp only[go_sem]
   repeat (refine⟨an,?_⟩)
   refine hK _ ?_
   clear K' hK
   simp only[go_sem]
   refine⟨j+1,iz,by omega,?_⟩
   refine bd [0,4,5,9,10,11] [[4,0]] ?_ ?_<;>simp only[go_sem,hO,YI,Nat.add_assoc]
  ·have FC:j=lv:=by
     have :¬ ((j+1:Nat):Int)<=(l.ps[i]).lv:=by simpa using hb
     omega
   subst FC
   clear hb
   repeat refine sq ?_
   refine bT ?_
   simp only[go_sem]
   refine eG [0,9,10,11] [] ?_ ?_
   ·simp only[go_sem,hO]
   simp only[go_sem,hO]
   repeat refine sq ?_
   refine aP hΓ fun K' hK=>?_
   simp only[go_sem]
   repeat (refine⟨an,?_⟩)
   refine hK _ ?_
   clear K' hK
   simp only[go_sem]
   have lZ:(ll l (i+1)).length=(ll l i).length+j:=by rw[aaU ab,List.length_append,Dq];omega
   refine⟨i+1,ab,by omega,?_⟩
   rw[lZ]
   refine bd [0,9,10,11] [] ?_ ?_<;>simp only[go_sem,hO,xE,bb]
 ·have bB:i=l.ps.length:=by
    have :¬ (i:Int)<l.ps.length:=by simpa using hb
    omega
  subst bB
  clear hb
  repeat refine sq ?_
  refine bT ?_
  simp only[go_sem]
  refine bQ ?_
  simp only[go_sem]
  rw[aaV]
  first | exact .inl trivial | exact⟨by simp,fun k=>by simp[qL]⟩
end
end Go.Eng
