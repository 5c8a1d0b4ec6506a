import Derived.Test.YtepaolcgegdpoaaGreatK5
/- Texts LW11 to LW22. -/
set_option linter.all false
namespace Go.Eng
open Go Go.Proofs
noncomputable section
theorem aL.conv{P:Program}{f:FuncId}{s s':PSpec}(h:aL P f s)(hf:s'.flat=s.flat)(hp:∀ xs,s'.pre xs->s.pre xs/\s'.fn xs=s.fn xs):aL P f s':=by
 refine⟨h.ne,h.enter,fun dK xs hx=>?_,fun m w xs args hm hx dJ=>?_⟩
 ·rw[(hp xs hx).2];exact h.flat (hf▸dK) xs (hp xs hx).1
 ·rw[(hp xs dJ).2];exact h.calls m w xs args hm hx (hp xs dJ).1
theorem abe(l:List Int):(l.map vInt).all uR=true:=by simp[uR]
def Gp:PSpec:=p1 cm (fun l=>l.length<=1000) (fun l=>.sl (l.map vInt)) false
def S179:Spec:=Gp.toSpec
theorem WZ:aM Tryz.prog 179 S179:=(aL.conv (s':=Gp) (NQ NR rfl) rfl (by
 intro xs hx
 obtain⟨l,rfl,hl,e⟩:=Cp hx
 exact⟨⟨_,rfl,abe l,by simpa using hl⟩,e⟩)).sound
def S132:Spec:=qa Tryz.prog 29
theorem Lr:aM Tryz.prog 132 S132:=AG NW
attribute [go_sem] S132
def S176:Spec:=qa Tryz.prog 26
theorem W2:aM Tryz.prog 176 S176:=AG NV
attribute [go_sem] S176
def S177:Spec:=qa Tryz.prog 27
theorem W1:aM Tryz.prog 177 S177:=AG NU
attribute [go_sem] S177
def S178:Spec:=qa Tryz.prog 28
theorem W0:aM Tryz.prog 178 S178:=AG NS
attribute [go_sem] S178
attribute [go_sem] S179 Gp
def K11:List (Nat×Spec):=[(132,S132),(176,S176),(177,S177),(178,S178),(179,S179)]
theorem adm:KS K11:=tc Lr<|tc W2<|tc W1<|tc W0<|tc WZ<|tn
attribute [go_sem] K11
def yx(l:Led):Prop:=l.ps.length<=12/\l.rs.length<=60/\l.ts.length<=60/\l.ss.length<=60/\(∀ r∈l.rs,r.lv.length<=30)/\∀ r∈l.ts,r.lv.length<=30
def NL(l:Led):List (Name×O):=[([8,0],.arr 2 (l.ps.map fA)),([11,0],.arr 7 (l.rs.map encR)),([14,0],.arr 8 (l.ts.map encT)),([17,0],.arr 7 (l.ss.map encS))]
def NM(l:Led):D:=.agg [.msl [8,0] l.ps.length,.msl [11,0] l.rs.length,.msl [14,0] l.ts.length,.msl [17,0] l.ss.length]
attribute [go_sem] NL NM
theorem IK(l:List Pap):∀ y∈l.map fA,y.cells.length=2/\y.okc=true:=by
 intro y hy;obtain⟨x,_,rfl⟩:=List.mem_map.1 hy;exact⟨rfl,rfl⟩
theorem Cs(l:List Rec):∀ y∈l.map encR,y.cells.length=7/\y.okc=true:=by
 intro y hy;obtain⟨x,_,rfl⟩:=List.mem_map.1 hy;exact⟨rfl,rfl⟩
theorem II(l:List Ret):∀ y∈l.map encT,y.cells.length=8/\y.okc=true:=by
 intro y hy;obtain⟨x,_,rfl⟩:=List.mem_map.1 hy;exact⟨rfl,rfl⟩
theorem IJ(l:List Sig):∀ y∈l.map encS,y.cells.length=7/\y.okc=true:=by
 intro y hy;obtain⟨x,_,rfl⟩:=List.mem_map.1 hy;exact⟨rfl,rfl⟩
theorem IP(l:List Int):∀ y∈l.map vInt,y.cells.length=1/\y.okc=true:=by
 intro y hy;obtain⟨x,_,rfl⟩:=List.mem_map.1 hy;exact⟨rfl,rfl⟩
theorem QE{l:List Rec}{i:Nat}(h:i<l.length):(l.map encR).set i (.agg [vInt l[i].so,vInt l[i].bo,vInt l[i].pa,.sl (l[i].lv.map vInt),vInt l[i].da,vInt l[i].kn,vInt l[i].un])=l.map encR:=by
 have e:(l.map encR).set i ((l.map encR)[i]'(by simpa using h))=l.map encR:=List.set_getElem_self _
 simpa[encR]using e
theorem QB{l:List Ret}{i:Nat}(h:i<l.length):(l.map encT).set i (.agg [vInt l[i].so,vInt l[i].re,vInt l[i].pe,.sl (l[i].lv.map vInt),vInt l[i].lo,vInt l[i].hi,vInt l[i].kn,vInt l[i].un])=l.map encT:=by
 have e:(l.map encT).set i ((l.map encT)[i]'(by simpa using h))=l.map encT:=List.set_getElem_self _
 simpa[encT]using e
theorem ao{p:Prop}(h:p:=by first | exact IK _ | exact Cs _ | exact II _ | exact IJ _ | exact IP _ | ((repeat' apply And.intro)<;>first | rfl | omega | (unfold maxLen;omega) | trivial | decide | exact IK _ | exact Cs _ | exact II _ | exact IJ _ | exact IP _) | exact ob):p:=h
theorem ak{p:Prop}(h:p:=by(repeat (refine⟨ao,?_⟩));exact hK _ (by simp only[go_sem]) (by simp only[go_sem]<;>rfl)):p:=h
theorem eQ{p:Prop}(h:p:=by(repeat (refine⟨ao,?_⟩));(first | refine⟨by rfl,?_⟩ | skip);exact hK _ (by simp only[go_sem]) (by simp only[go_sem]<;>rfl)):p:=h
def Bl:NSpec:=n1 iL (fun l=>yx l) NL NM
def S86:Spec:=Bl.toSpec
attribute [go_sem] Bl S86
set_option maxHeartbeats 8000000 in
theorem WT:aM Tryz.prog 86 S86:=by
 refine y0 (nt:=58) (rs:=[.cell 2 31]) Tryz.func86 rfl (by rfl) (by kernel_rfl) (by kernel_rfl) (by decide) ?_
 intro xs hp
 obtain⟨l,rfl,hp,et,dP⟩:=Ud hp
 replace et:Bl.new _=_:=et
 replace dP:Bl.d _=_:=dP
 rw[et,dP]
 clear et dP
 refine⟨lb rfl,?_⟩
 have hP:=c8
 simp only[iI,iB,cm,iP,iR,iT,iS,iL,jQ,cW,iC,iF,fA,encR,encT,encS,dq,eV,List.map_cons,List.map_nil,dD,Nat.zero_add]
 have hΓ:=adm
 obtain⟨zN,mv,mu,D2,zM,zL⟩:=hp
 have jT:l.rs.length<=maxLen:=by unfold maxLen;omega
 have fP:l.ts.length<=maxLen:=by unfold maxLen;omega
 repeat refine sq ?_
 refine rx hΓ [1,2] [[1,0],[2,0],[8,0],[11,0],[14,0],[17,0]] (fun K' hK=>by simp only[go_sem];exact ak) ?_
 repeat refine sq ?_
 refine dx hΓ hP [[],[0],[0,1],[],[3],u5,[],[6],u8,[],[9],cz,dS,[],eE] [2,3] [[2,0],[3,0],[8,0],[11,0],[14,0],[17,0]] (by kernel_rfl) (fun K' hK=>by simp only[go_sem];exact eQ) ?_
 repeat refine sq ?_
 refine rx hΓ [2,3,21,22] [[2,0],[3,0],[8,0],[11,0],[14,0],[17,0]] (fun K' hK=>by simp only[go_sem];exact ak) ?_
 repeat refine sq ?_
 refine aC ?_
 repeat refine sq ?_
 refine bA (fun s:Nat=>[(22,⟨true,.v (vInt s)⟩)]) (fun s=>[]) (fun s=>s<=l.rs.length) (fun s=>l.rs.length-s) 0 ?_ ?_ ?_ ?_
 ·exact Nat.zero_le _
 ·rfl
 ·rfl
 rintro i hi
 simp only[go_sem]
 repeat refine sq ?_
 refine rx hΓ [2,3,21,22,23] [[2,0],[3,0],[8,0],[11,0],[14,0],[17,0]] (fun K' hK=>by simp only[go_sem];exact ak) ?_
 repeat refine sq ?_
 refine au (fun hb=>?_) fun hb=>?_
 ·have aa:i<l.rs.length:=by simpa using hb
  have an:(i:Int)<l.rs.length:=by omega
  clear hb
  have Eh:=zM l.rs[i] (List.getElem_mem aa)
  repeat refine sq ?_
  refine ay ?_
  repeat refine sq ?_
  refine aC ?_
  repeat refine sq ?_
  refine rx hΓ [2,3,4,21,22] [[2,0],[3,0],[8,0],[11,0],[14,0],[17,0]] (fun K' hK=>by simp only[go_sem,ae aa,ah,aj,an];exact ak) ?_
  repeat refine sq ?_
  refine mK hΓ hP [[],[0],[],[],[3],[],[3,4,5],[3,4,5,6],[3,4,5,6,7],[3,4,5,6,7,8],bI,cz,dS] (by kernel_rfl) fun K' hK=>?_
  simp only[go_sem,ae aa,ah,aj,an]
  repeat (refine⟨ao,?_⟩)
  first | refine⟨by rfl,?_⟩ | skip
  refine hK _ ?_
  clear K' hK
  simp only[go_sem]
  refine kp [2,3,21,22] [[2,0],[3,0],[8,0],[11,0],[14,0],[17,0]] ?_
  repeat refine sq ?_
  refine aI hΓ fun K' hK=>?_
  simp only[go_sem,ae aa,ah,aj,an]
  repeat (refine⟨ao,?_⟩)
  refine hK _ ?_
  clear K' hK
  simp only[go_sem]
  refine⟨i+1,aa,by(show l.rs.length-(i+1)<l.rs.length-i;omega),?_⟩
  refine aT [2,3,21,22] [[2,0],[3,0],[8,0],[11,0],[14,0],[17,0]] ?_ ?_<;>simp only[go_sem,aO aa jT,aQ,QE aa]
 ·have aV:i=l.rs.length:=by
   have :¬ (i:Int)<l.rs.length:=by simpa using hb
   omega
  clear hb
  subst aV
  repeat refine sq ?_
  refine be ?_
  simp only[go_sem]
  refine kp [2,3] [[2,0],[3,0],[8,0],[11,0],[14,0],[17,0]] ?_
  repeat refine sq ?_
  refine rx hΓ [2,3,40,41] [[2,0],[3,0],[8,0],[11,0],[14,0],[17,0]] (fun K' hK=>by simp only[go_sem];exact ak) ?_
  repeat refine sq ?_
  refine aC ?_
  repeat refine sq ?_
  refine bA (fun s:Nat=>[(41,⟨true,.v (vInt s)⟩)]) (fun s=>[]) (fun s=>s<=l.ts.length) (fun s=>l.ts.length-s) 0 ?_ ?_ ?_ ?_
  ·exact Nat.zero_le _
  ·rfl
  ·rfl
  rintro i hi
  simp only[go_sem]
  repeat refine sq ?_
  refine rx hΓ [2,3,40,41,42] [[2,0],[3,0],[8,0],[11,0],[14,0],[17,0]] (fun K' hK=>by simp only[go_sem];exact ak) ?_
  repeat refine sq ?_
  refine au (fun hb=>?_) fun hb=>?_
  ·have aE:i<l.ts.length:=by simpa using hb
   have bc:(i:Int)<l.ts.length:=by omega
   clear hb
   have Eh:=zL l.ts[i] (List.getElem_mem aE)
   repeat refine sq ?_
   refine ay ?_
   repeat refine sq ?_
   refine aC ?_
   repeat refine sq ?_
   refine rx hΓ [2,3,5,40,41] [[2,0],[3,0],[8,0],[11,0],[14,0],[17,0]] (fun K' hK=>by simp only[go_sem,ae aE,ah,aj,bc];exact ak) ?_
   repeat refine sq ?_
   refine mK hΓ hP [[],[0],[],[],[3],[],[3,4,5],[3,4,5,6],[3,4,5,6,7],[3,4,5,6,7,8],bI,cz,dS] (by kernel_rfl) fun K' hK=>?_
   simp only[go_sem,ae aE,ah,aj,bc]
   repeat (refine⟨ao,?_⟩)
   first | refine⟨by rfl,?_⟩ | skip
   refine hK _ ?_
   clear K' hK
   simp only[go_sem]
   refine kp [2,3,40,41] [[2,0],[3,0],[8,0],[11,0],[14,0],[17,0]] ?_
   repeat refine sq ?_
   refine aI hΓ fun K' hK=>?_
   simp only[go_sem,ae aE,ah,aj,bc]
   repeat (refine⟨ao,?_⟩)
   refine hK _ ?_
   clear K' hK
   simp only[go_sem]
   refine⟨i+1,aE,by(show l.ts.length-(i+1)<l.ts.length-i;omega),?_⟩
   refine aT [2,3,40,41] [[2,0],[3,0],[8,0],[11,0],[14,0],[17,0]] ?_ ?_<;>simp only[go_sem,aO aE fP,aQ,QB aE]
  ·have fc:i=l.ts.length:=by
    have :¬ (i:Int)<l.ts.length:=by simpa using hb
    omega
   clear hb
   subst fc
   repeat refine sq ?_
   refine be ?_
   simp only[go_sem]
   refine kp [2,3] [[2,0],[3,0],[8,0],[11,0],[14,0],[17,0]] ?_
   repeat refine sq ?_
   refine rx hΓ [2] [[2,0],[8,0],[11,0],[14,0],[17,0]] (fun K' hK=>by simp only[go_sem];exact ak) ?_
   refine aq ?_
   simp only[go_sem]
   skip
end
set_option maxHeartbeats 8000000
noncomputable section
theorem BE{α β:Type}{f:α->β}{l:List α}{i:Nat}(h:i<l.length):(l.take (i+1)).map f=(l.take i).map f++[f l[i]]:=by
 rw[List.take_add_one,List.getElem?_eq_getElem h]
 simp only[List.map_append,Option.toList_some,List.map_cons,List.map_nil]
@[go_sem] def P95:PSpec:=p1 iL (fun l=>yx l) (fun l=>dq l) false
@[go_sem] def OX:Spec:=P95.toSpec
theorem Q7:aL Tryz.prog 95 P95:=by
 refine dR (rs:=[.cell 2 31]) Tryz.func95 Tryz.ntmps95 fun l hp hw=>?_
 have hP:=c8
 simp only[iL,dq]at hw |-
 have hΓ:=@dT Tryz.prog
 obtain⟨zN,mv,mu,D2,zM,zL⟩:=hp
 have jT:l.rs.length<=maxLen:=by unfold maxLen;omega
 have fP:l.ts.length<=maxLen:=by unfold maxLen;omega
 repeat refine sq ?_
 refine rx hΓ [1,2] [[1,0],[2,0],[11,0],[15,0],[38,0],[61,0]] (fun K' hK=>by simp only[go_sem];exact ak) ?_
 repeat refine sq ?_
 refine dx hΓ hP [[],[],[1],[0,1,2],[],[],[5],u7,u8,[],bI] [1,2,3] [[1,0],[2,0],[3,0],[11,0],[15,0],[38,0],[61,0]] (by kernel_rfl) (fun K' hK=>by simp only[go_sem];exact eQ) ?_
 refine bH (l6 [3,0] [38,0] 1 7 _ rfl rfl rfl [1,2,3] [[1,0],[2,0],[3,0],[11,0],[15,0],[38,0],[61,0]] ?_ rfl) ?_
 ·simp only[go_sem,List.set_cons_succ,List.set_cons_zero]
 simp only[go_sem,List.set_cons_succ,List.set_cons_zero]
 refine bH (l6 [3,0] [61,0] 2 8 _ rfl rfl rfl [1,2,3] [[1,0],[2,0],[3,0],[11,0],[15,0],[38,0],[61,0]] ?_ rfl) ?_
 ·simp only[go_sem,List.set_cons_succ,List.set_cons_zero]
 simp only[go_sem,List.set_cons_succ,List.set_cons_zero]
 repeat refine sq ?_
 refine rx hΓ [1,2,3,4] [[1,0],[2,0],[3,0],[11,0],[15,0],[38,0],[61,0]] (fun K' hK=>by simp only[go_sem];exact ak) ?_
 repeat refine sq ?_
 refine aC ?_
 repeat refine sq ?_
 refine bA (fun s:Nat=>[(4,⟨true,.v (vInt s)⟩)]) (fun s=>[([3,0],.box [.msl [11,0] l.ps.length,.msl [38,0] s,.msl [61,0] 0,.msl [15,0] l.ss.length]),([38,0],.arr 7 ((l.rs.take s).map encR))]) (fun s=>s<=l.rs.length) (fun s=>l.rs.length-s) 0 ?_ ?_ ?_ ?_
 ·exact Nat.zero_le _
 ·rfl
 ·rfl
 rintro i hi
 simp only[go_sem]
 repeat refine sq ?_
 refine rx hΓ [1,2,3,4,21] [[1,0],[2,0],[3,0],[11,0],[15,0],[38,0],[61,0]] (fun K' hK=>by simp only[go_sem];exact ak) ?_
 repeat refine sq ?_
 refine au (fun hb=>?_) fun hb=>?_
 ·have aa:i<l.rs.length:=by simpa using hb
  have an:(i:Int)<l.rs.length:=by omega
  clear hb
  have Eh:=zM l.rs[i] (List.getElem_mem aa)
  have D9:min i l.rs.length=i:=by omega
  repeat refine sq ?_
  refine ay ?_
  repeat refine sq ?_
  refine aC ?_
  repeat refine sq ?_
  refine rx hΓ [1,2,3,4,5] [[1,0],[2,0],[3,0],[5,0],[11,0],[15,0],[32,0],[38,0],[61,0]] (fun K' hK=>by simp only[go_sem,ae aa,ah,aj,an];exact ak) ?_
  repeat refine sq ?_
  refine rx hΓ [1,2,3,4,5] [[1,0],[2,0],[3,0],[5,0],[11,0],[15,0],[32,0],[38,0],[61,0]] (fun K' hK=>by simp only[go_sem,ae aa,ah,aj,an];exact ak) ?_
  repeat refine sq ?_
  refine aI hΓ fun K' hK=>?_
  simp only[go_sem,ae aa,ah,aj,an]
  repeat (refine⟨ao,?_⟩)
  refine hK _ ?_
  clear K' hK
  simp only[go_sem]
  refine kp [1,2,3,4] [[1,0],[2,0],[3,0],[11,0],[15,0],[38,0],[61,0]] ?_
  repeat refine sq ?_
  refine aI hΓ fun K' hK=>?_
  simp only[go_sem,ae aa,ah,aj,an]
  repeat (refine⟨ao,?_⟩)
  refine hK _ ?_
  clear K' hK
  simp only[go_sem]
  refine⟨i+1,aa,by(show l.rs.length-(i+1)<l.rs.length-i;omega),?_⟩
  refine aT [1,2,3,4] [[1,0],[2,0],[3,0],[11,0],[15,0],[38,0],[61,0]] ?_ ?_<;>simp only[go_sem,aO aa jT,aQ,BE aa,List.length_take,D9]
 ·have aV:i=l.rs.length:=by
   have :¬ (i:Int)<l.rs.length:=by simpa using hb
   omega
  clear hb
  subst aV
  repeat refine sq ?_
  refine be ?_
  simp only[go_sem]
  refine kp [1,2,3] [[1,0],[2,0],[3,0],[11,0],[15,0],[38,0],[61,0]] ?_
  repeat refine sq ?_
  refine rx hΓ [1,2,3,6] [[1,0],[2,0],[3,0],[11,0],[15,0],[38,0],[61,0]] (fun K' hK=>by simp only[go_sem];exact ak) ?_
  repeat refine sq ?_
  refine aC ?_
  repeat refine sq ?_
  refine bA (fun s:Nat=>[(6,⟨true,.v (vInt s)⟩)]) (fun s=>[([3,0],.box [.msl [11,0] l.ps.length,.msl [38,0] l.rs.length,.msl [61,0] s,.msl [15,0] l.ss.length]),([61,0],.arr 8 ((l.ts.take s).map encT))]) (fun s=>s<=l.ts.length) (fun s=>l.ts.length-s) 0 ?_ ?_ ?_ ?_
  ·exact Nat.zero_le _
  ·rfl
  ·rfl
  rintro i hi
  simp only[go_sem]
  repeat refine sq ?_
  refine rx hΓ [1,2,3,6,44] [[1,0],[2,0],[3,0],[11,0],[15,0],[38,0],[61,0]] (fun K' hK=>by simp only[go_sem];exact ak) ?_
  repeat refine sq ?_
  refine au (fun hb=>?_) fun hb=>?_
  ·have aE:i<l.ts.length:=by simpa using hb
   have bc:(i:Int)<l.ts.length:=by omega
   clear hb
   have Eh:=zL l.ts[i] (List.getElem_mem aE)
   have D9:min i l.ts.length=i:=by omega
   repeat refine sq ?_
   refine ay ?_
   repeat refine sq ?_
   refine aC ?_
   repeat refine sq ?_
   refine rx hΓ [1,2,3,6,7] [[1,0],[2,0],[3,0],[7,0],[11,0],[15,0],[38,0],[55,0],[61,0]] (fun K' hK=>by simp only[go_sem,ae aE,ah,aj,bc];exact ak) ?_
   repeat refine sq ?_
   refine rx hΓ [1,2,3,6,7] [[1,0],[2,0],[3,0],[7,0],[11,0],[15,0],[38,0],[55,0],[61,0]] (fun K' hK=>by simp only[go_sem,ae aE,ah,aj,bc];exact ak) ?_
   repeat refine sq ?_
   refine aI hΓ fun K' hK=>?_
   simp only[go_sem,ae aE,ah,aj,bc]
   repeat (refine⟨ao,?_⟩)
   refine hK _ ?_
   clear K' hK
   simp only[go_sem]
   refine kp [1,2,3,6] [[1,0],[2,0],[3,0],[11,0],[15,0],[38,0],[61,0]] ?_
   repeat refine sq ?_
   refine aI hΓ fun K' hK=>?_
   simp only[go_sem,ae aE,ah,aj,bc]
   repeat (refine⟨ao,?_⟩)
   refine hK _ ?_
   clear K' hK
   simp only[go_sem]
   refine⟨i+1,aE,by(show l.ts.length-(i+1)<l.ts.length-i;omega),?_⟩
   refine aT [1,2,3,6] [[1,0],[2,0],[3,0],[11,0],[15,0],[38,0],[61,0]] ?_ ?_<;>simp only[go_sem,aO aE fP,aQ,BE aE,List.length_take,D9]
  ·have fc:i=l.ts.length:=by
    have :¬ (i:Int)<l.ts.length:=by simpa using hb
    omega
   clear hb
   subst fc
   repeat refine sq ?_
   refine be ?_
   simp only[go_sem]
   refine kp [2,3] [[2,0],[3,0],[11,0],[15,0],[38,0],[61,0]] ?_
   repeat refine sq ?_
   refine rx hΓ [2] [[2,0],[11,0],[15,0],[38,0],[61,0]] (fun K' hK=>by simp only[go_sem,List.take_length];exact ak) ?_
   refine aq ?_
   simp only[go_sem]
   all_goals exact cD
def e8:En (Nat×Int):=⟨fun g=>.clo (.func g.1) [] [.ptr [vInt g.2]],fun v=>match v with | .clo (.func g) _ [.ptr [.int _ s]]=>(g,s) | _=>default⟩
def jm:En Int:=⟨fun s=>.ptr [vInt s],fun v=>match v with | .ptr [.int _ s]=>s | _=>0⟩
attribute [go_sem] e8 jm
@[go_sem] def P171:PSpec:=p2 iR jm (fun _ _=>True) (fun x s=>.bool (x.so==s)) true
@[go_sem] def S171:Spec:=P171.toSpec
theorem RQ:aL Tryz.prog 171 P171:=by
 refine cK (rs:=[.tmp 3]) Tryz.func171 Tryz.ntmps171 fun x s hp hw=>?_
 simp only[jm,iR,encR]at hw |-
 have hΓ:=@dT Tryz.prog
 repeat refine sq ?_
 refine rx hΓ [1,2] [[2,0]] (fun K' hK=>by simp only[go_sem];exact ak) ?_
 repeat refine sq ?_
 refine rx hΓ [3] [] (fun K' hK=>by simp only[go_sem];exact ak) ?_
 refine aq ?_
 simp only[go_sem]
 all_goals exact cD
@[go_sem] def P173:PSpec:=p2 iT jm (fun _ _=>True) (fun x s=>.bool (x.so==s)) true
@[go_sem] def S173:Spec:=P173.toSpec
theorem RO:aL Tryz.prog 173 P173:=by
 refine cK (rs:=[.tmp 3]) Tryz.func173 Tryz.ntmps173 fun x s hp hw=>?_
 simp only[jm,iT,encT]at hw |-
 have hΓ:=@dT Tryz.prog
 repeat refine sq ?_
 refine rx hΓ [1,2] [[2,0]] (fun K' hK=>by simp only[go_sem];exact ak) ?_
 repeat refine sq ?_
 refine rx hΓ [3] [] (fun K' hK=>by simp only[go_sem];exact ak) ?_
 refine aq ?_
 simp only[go_sem]
 all_goals exact cD
@[go_sem] def P175:PSpec:=p2 iS jm (fun _ _=>True) (fun x s=>.bool (x.so==s)) true
@[go_sem] def S175:Spec:=P175.toSpec
theorem RM:aL Tryz.prog 175 P175:=by
 refine cK (rs:=[.tmp 3]) Tryz.func175 Tryz.ntmps175 fun x s hp hw=>?_
 simp only[jm,iS,encS]at hw |-
 have hΓ:=@dT Tryz.prog
 repeat refine sq ?_
 refine rx hΓ [1,2] [[2,0]] (fun K' hK=>by simp only[go_sem];exact ak) ?_
 repeat refine sq ?_
 refine rx hΓ [3] [] (fun K' hK=>by simp only[go_sem];exact ak) ?_
 refine aq ?_
 simp only[go_sem]
 all_goals exact cD
@[go_sem] def P167:PSpec:=p2 iR jm (fun _ _=>True) (fun x s=>.bool (x.so==s)) true
@[go_sem] def O7:Spec:=P167.toSpec
theorem RU:aL Tryz.prog 167 P167:=by
 refine cK (rs:=[.tmp 3]) Tryz.func167 Tryz.ntmps167 fun x s hp hw=>?_
 simp only[jm,iR,encR]at hw |-
 have hΓ:=@dT Tryz.prog
 repeat refine sq ?_
 refine rx hΓ [1,2] [[2,0]] (fun K' hK=>by simp only[go_sem];exact ak) ?_
 repeat refine sq ?_
 refine rx hΓ [3] [] (fun K' hK=>by simp only[go_sem];exact ak) ?_
 refine aq ?_
 simp only[go_sem]
 all_goals exact cD
@[go_sem] def P88:PSpec:=p2 iR jm (fun _ _=>True) (fun x s=>.bool (x.so==s)) true
@[go_sem] def S88:Spec:=P88.toSpec
theorem Rb:aL Tryz.prog 88 P88:=by
 refine cK (rs:=[.tmp 3]) Tryz.func88 Tryz.ntmps88 fun x s hp hw=>?_
 simp only[jm,iR,encR]at hw |-
 have hΓ:=@dT Tryz.prog
 repeat refine sq ?_
 refine rx hΓ [1,2] [[2,0]] (fun K' hK=>by simp only[go_sem];exact ak) ?_
 repeat refine sq ?_
 refine rx hΓ [3] [] (fun K' hK=>by simp only[go_sem];exact ak) ?_
 refine aq ?_
 simp only[go_sem]
 all_goals exact cD
@[go_sem] def P90:PSpec:=p2 iT jm (fun _ _=>True) (fun x s=>.bool (x.so==s)) true
@[go_sem] def S90:Spec:=P90.toSpec
theorem Ra:aL Tryz.prog 90 P90:=by
 refine cK (rs:=[.tmp 3]) Tryz.func90 Tryz.ntmps90 fun x s hp hw=>?_
 simp only[jm,iT,encT]at hw |-
 have hΓ:=@dT Tryz.prog
 repeat refine sq ?_
 refine rx hΓ [1,2] [[2,0]] (fun K' hK=>by simp only[go_sem];exact ak) ?_
 repeat refine sq ?_
 refine rx hΓ [3] [] (fun K' hK=>by simp only[go_sem];exact ak) ?_
 refine aq ?_
 simp only[go_sem]
 all_goals exact cD
@[go_sem] def P92:PSpec:=p2 iS jm (fun _ _=>True) (fun x s=>.bool (x.so==s)) true
@[go_sem] def S92:Spec:=P92.toSpec
theorem Q':aL Tryz.prog 92 P92:=by
 refine cK (rs:=[.tmp 3]) Tryz.func92 Tryz.ntmps92 fun x s hp hw=>?_
 simp only[jm,iS,encS]at hw |-
 have hΓ:=@dT Tryz.prog
 repeat refine sq ?_
 refine rx hΓ [1,2] [[2,0]] (fun K' hK=>by simp only[go_sem];exact ak) ?_
 repeat refine sq ?_
 refine rx hΓ [3] [] (fun K' hK=>by simp only[go_sem];exact ak) ?_
 refine aq ?_
 simp only[go_sem]
 all_goals exact cD
def cf{α:Type}(p:α->Bool)(l:List α):Int:=if l.any p then(l.findIdx p:Int)else -1
theorem lM{α:Type}{p:α->Bool}{l:List α}{i:Nat}(h:i<l.length)(hp:p l[i]=true)(hn:∀ k (hk:k<l.length),k<i->p l[k]=false):cf p l=i:=by
 unfold cf
 rw[if_pos (List.any_eq_true.2 ⟨_,List.getElem_mem h,hp⟩)]
 congr 1
 rw[List.findIdx_eq h]
 exact⟨hp,fun j hj=>hn j (by omega) hj⟩
theorem oG{α:Type}{p:α->Bool}{l:List α}(hn:∀ k (hk:k<l.length),p l[k]=false):cf p l= -1:=by
 unfold cf
 rw[if_neg]
 intro h
 obtain⟨x,hx,hp⟩:=List.any_eq_true.1 h
 obtain⟨k,hk,rfl⟩:=List.getElem_of_mem hx
 rw[hn k hk]at hp;cases hp
theorem qO{α:Type}(p:α->Bool)(l:List α):decide (cf p l>=0)=l.any p:=by
 unfold cf
 cases l.any p with
 |true=>simp
 |false=>simp
def K12a:List (Nat×Spec):=[(171,S171),(173,S173),(175,S175),(167,O7)]
theorem adk:KS K12a:=tc RQ.sound<|tc RO.sound<|tc RM.sound<|tc RU.sound<|tn
attribute [go_sem] K12a
def Br:FuncId->Option Spec:=tbl K12a
theorem Gz:∀ f s,Br f=some s->aM Tryz.prog f s:=adk
@[go_sem] theorem agK:O7=S171:=rfl
@[go_sem] def P166:PSpec:=p2 (cW iR) e8 (fun _ g=>g.1=171\/g.1=167) (fun l g=>vInt (cf (fun x=>Rec.so x==g.2) l)) true
@[go_sem] def O8:Spec:=P166.toSpec
theorem Hu:aL Tryz.prog 166 P166:=by
 refine cK (rs:=[.tmp 4]) Tryz.func166 Tryz.ntmps166 fun l g hp hw=>?_
 simp only[e8,iR,cW,encR]at hw |-
 have hΓ:=Gz
 have hl:l.length<=maxLen:=by have:=hw.1.1;simpa using this
 obtain⟨g,s_⟩:=g
 try simp only[e8]at hw hp |-
 have hg:Br g=some S171:=by rcases hp with rfl | rfl<;>rfl
 have xg:¬ g=1000000000:=by omega
 repeat refine sq ?_
 refine rx hΓ [0,1] [] (fun K' hK=>by simp only[go_sem];exact ak) ?_
 repeat refine sq ?_
 refine rx hΓ [0,1,7,8] [] (fun K' hK=>by simp only[go_sem];exact ak) ?_
 repeat refine sq ?_
 refine aC ?_
 repeat refine sq ?_
 refine bA (fun s:Nat=>[(8,⟨true,.v (vInt s)⟩)]) (fun s=>[]) (fun s=>s<=l.length/\∀ k (h:k<l.length),k<s->(fun x:Rec=>Rec.so x==s_) l[k]=false) (fun s=>l.length-s) 0 ?_ ?_ ?_ ?_
 ·exact⟨Nat.zero_le _,by simp⟩
 ·rfl
 ·rfl
 rintro i ⟨hi,hR⟩
 simp only[go_sem]
 repeat refine sq ?_
 refine rx hΓ [0,1,7,8,9] [] (fun K' hK=>by simp only[go_sem];exact ak) ?_
 repeat refine sq ?_
 refine au (fun hb=>?_) fun hb=>?_
 ·have aa:i<l.length:=by simpa using hb
  have an:(i:Int)<l.length:=by omega
  clear hb
  repeat refine sq ?_
  refine ay ?_
  repeat refine sq ?_
  refine aC ?_
  repeat refine sq ?_
  refine rx hΓ [0,1,5,7,8] [] (fun K' hK=>by simp only[go_sem,ae aa,ah,aj,an];exact ak) ?_
  repeat refine sq ?_
  refine rx hΓ [0,1,5,7,8,16] [] (fun K' hK=>by simp only[go_sem,ae aa,ah,aj,an,hg,xg];exact ak) ?_
  repeat refine sq ?_
  refine au (fun hb=>?_) fun hb=>?_
  ·repeat refine sq ?_
   refine rx hΓ [4] [] (fun K' hK=>by simp only[go_sem,ae aa,ah,aj,an];exact ak) ?_
   refine aq ?_
   simp only[go_sem]
   rw[lM (p:=fun x=>Rec.so x==s_) aa (by simpa using hb) hR]
  ·repeat refine sq ?_
   refine ay ?_
   refine br ?_
   simp only[go_sem]
   refine kp [0,1,7,8] [] ?_
   repeat refine sq ?_
   refine aI hΓ fun K' hK=>?_
   simp only[go_sem,ae aa,ah,aj,an]
   repeat (refine⟨ao,?_⟩)
   refine hK _ ?_
   clear K' hK
   simp only[go_sem]
   refine⟨i+1,⟨aa,?_⟩,by(show l.length-(i+1)<l.length-i;omega),?_⟩
   ·intro k hk du
    rcases Nat.lt_succ_iff_lt_or_eq.1 du with h5 | rfl
    ·exact hR k hk h5
    ·simpa using hb
   refine aT [0,1,7,8] [] ?_ ?_<;>simp only[go_sem,aO aa hl,aQ]
 ·have aV:i=l.length:=by
   have :¬ (i:Int)<l.length:=by simpa using hb
   omega
  clear hb
  subst aV
  repeat refine sq ?_
  refine be ?_
  simp only[go_sem]
  refine kp [] [] ?_
  repeat refine sq ?_
  refine rx hΓ [4] [] (fun K' hK=>by simp only[go_sem];exact ak) ?_
  refine aq ?_
  simp only[go_sem]
  rw[oG (p:=fun x=>Rec.so x==s_) fun k hk=>hR k hk hk]
@[go_sem] def P180:PSpec:=p2 (cW iT) e8 (fun _ g=>g.1=173) (fun l g=>vInt (cf (fun x=>Ret.so x==g.2) l)) true
@[go_sem] def abD:Spec:=P180.toSpec
theorem RL:aL Tryz.prog 180 P180:=by
 refine cK (rs:=[.tmp 4]) Tryz.func180 Tryz.ntmps180 fun l g hp hw=>?_
 simp only[e8,cW,iT,encT]at hw |-
 have hΓ:=Gz
 have hl:l.length<=maxLen:=by have:=hw.1.1;simpa using this
 obtain⟨g,s_⟩:=g
 try simp only[e8]at hw hp |-
 have hg:Br g=some S173:=by subst hp;rfl
 have xg:¬ g=1000000000:=by omega
 repeat refine sq ?_
 refine rx hΓ [0,1] [] (fun K' hK=>by simp only[go_sem];exact ak) ?_
 repeat refine sq ?_
 refine rx hΓ [0,1,7,8] [] (fun K' hK=>by simp only[go_sem];exact ak) ?_
 repeat refine sq ?_
 refine aC ?_
 repeat refine sq ?_
 refine bA (fun s:Nat=>[(8,⟨true,.v (vInt s)⟩)]) (fun s=>[]) (fun s=>s<=l.length/\∀ k (h:k<l.length),k<s->(fun x:Ret=>Ret.so x==s_) l[k]=false) (fun s=>l.length-s) 0 ?_ ?_ ?_ ?_
 ·exact⟨Nat.zero_le _,by simp⟩
 ·rfl
 ·rfl
 rintro i ⟨hi,hR⟩
 simp only[go_sem]
 repeat refine sq ?_
 refine rx hΓ [0,1,7,8,9] [] (fun K' hK=>by simp only[go_sem];exact ak) ?_
 repeat refine sq ?_
 refine au (fun hb=>?_) fun hb=>?_
 ·have aa:i<l.length:=by simpa using hb
  have an:(i:Int)<l.length:=by omega
  clear hb
  repeat refine sq ?_
  refine ay ?_
  repeat refine sq ?_
  refine aC ?_
  repeat refine sq ?_
  refine rx hΓ [0,1,5,7,8] [] (fun K' hK=>by simp only[go_sem,ae aa,ah,aj,an];exact ak) ?_
  repeat refine sq ?_
  refine rx hΓ [0,1,5,7,8,16] [] (fun K' hK=>by simp only[go_sem,ae aa,ah,aj,an,hg,xg];exact ak) ?_
  repeat refine sq ?_
  refine au (fun hb=>?_) fun hb=>?_
  ·repeat refine sq ?_
   refine rx hΓ [4] [] (fun K' hK=>by simp only[go_sem,ae aa,ah,aj,an];exact ak) ?_
   refine aq ?_
   simp only[go_sem]
   rw[lM (p:=fun x=>Ret.so x==s_) aa (by simpa using hb) hR]
  ·repeat refine sq ?_
   refine ay ?_
   refine br ?_
   simp only[go_sem]
   refine kp [0,1,7,8] [] ?_
   repeat refine sq ?_
   refine aI hΓ fun K' hK=>?_
   simp only[go_sem,ae aa,ah,aj,an]
   repeat (refine⟨ao,?_⟩)
   refine hK _ ?_
   clear K' hK
   simp only[go_sem]
   refine⟨i+1,⟨aa,?_⟩,by(show l.length-(i+1)<l.length-i;omega),?_⟩
   ·intro k hk du
    rcases Nat.lt_succ_iff_lt_or_eq.1 du with h5 | rfl
    ·exact hR k hk h5
    ·simpa using hb
   refine aT [0,1,7,8] [] ?_ ?_<;>simp only[go_sem,aO aa hl,aQ]
 ·have aV:i=l.length:=by
   have :¬ (i:Int)<l.length:=by simpa using hb
   omega
  clear hb
  subst aV
  repeat refine sq ?_
  refine be ?_
  simp only[go_sem]
  refine kp [] [] ?_
  repeat refine sq ?_
  refine rx hΓ [4] [] (fun K' hK=>by simp only[go_sem];exact ak) ?_
  refine aq ?_
  simp only[go_sem]
  rw[oG (p:=fun x=>Ret.so x==s_) fun k hk=>hR k hk hk]
@[go_sem] def P181:PSpec:=p2 (cW iS) e8 (fun _ g=>g.1=175) (fun l g=>vInt (cf (fun x=>Sig.so x==g.2) l)) true
@[go_sem] def abC:Spec:=P181.toSpec
theorem RK:aL Tryz.prog 181 P181:=by
 refine cK (rs:=[.tmp 4]) Tryz.func181 Tryz.ntmps181 fun l g hp hw=>?_
 simp only[e8,iS,cW,encS]at hw |-
 have hΓ:=Gz
 have hl:l.length<=maxLen:=by have:=hw.1.1;simpa using this
 obtain⟨g,s_⟩:=g
 try simp only[e8]at hw hp |-
 have hg:Br g=some S175:=by subst hp;rfl
 have xg:¬ g=1000000000:=by omega
 repeat refine sq ?_
 refine rx hΓ [0,1] [] (fun K' hK=>by simp only[go_sem];exact ak) ?_
 repeat refine sq ?_
 refine rx hΓ [0,1,7,8] [] (fun K' hK=>by simp only[go_sem];exact ak) ?_
 repeat refine sq ?_
 refine aC ?_
 repeat refine sq ?_
 refine bA (fun s:Nat=>[(8,⟨true,.v (vInt s)⟩)]) (fun s=>[]) (fun s=>s<=l.length/\∀ k (h:k<l.length),k<s->(fun x:Sig=>Sig.so x==s_) l[k]=false) (fun s=>l.length-s) 0 ?_ ?_ ?_ ?_
 ·exact⟨Nat.zero_le _,by simp⟩
 ·rfl
 ·rfl
 rintro i ⟨hi,hR⟩
 simp only[go_sem]
 repeat refine sq ?_
 refine rx hΓ [0,1,7,8,9] [] (fun K' hK=>by simp only[go_sem];exact ak) ?_
 repeat refine sq ?_
 refine au (fun hb=>?_) fun hb=>?_
 ·have aa:i<l.length:=by simpa using hb
  have an:(i:Int)<l.length:=by omega
  clear hb
  repeat refine sq ?_
  refine ay ?_
  repeat refine sq ?_
  refine aC ?_
  repeat refine sq ?_
  refine rx hΓ [0,1,5,7,8] [] (fun K' hK=>by simp only[go_sem,ae aa,ah,aj,an];exact ak) ?_
  repeat refine sq ?_
  refine rx hΓ [0,1,5,7,8,16] [] (fun K' hK=>by simp only[go_sem,ae aa,ah,aj,an,hg,xg];exact ak) ?_
  repeat refine sq ?_
  refine au (fun hb=>?_) fun hb=>?_
  ·repeat refine sq ?_
   refine rx hΓ [4] [] (fun K' hK=>by simp only[go_sem,ae aa,ah,aj,an];exact ak) ?_
   refine aq ?_
   simp only[go_sem]
   rw[lM (p:=fun x=>Sig.so x==s_) aa (by simpa using hb) hR]
  ·repeat refine sq ?_
   refine ay ?_
   refine br ?_
   simp only[go_sem]
   refine kp [0,1,7,8] [] ?_
   repeat refine sq ?_
   refine aI hΓ fun K' hK=>?_
   simp only[go_sem,ae aa,ah,aj,an]
   repeat (refine⟨ao,?_⟩)
   refine hK _ ?_
   clear K' hK
   simp only[go_sem]
   refine⟨i+1,⟨aa,?_⟩,by(show l.length-(i+1)<l.length-i;omega),?_⟩
   ·intro k hk du
    rcases Nat.lt_succ_iff_lt_or_eq.1 du with h5 | rfl
    ·exact hR k hk h5
    ·simpa using hb
   refine aT [0,1,7,8] [] ?_ ?_<;>simp only[go_sem,aO aa hl,aQ]
 ·have aV:i=l.length:=by
   have :¬ (i:Int)<l.length:=by simpa using hb
   omega
  clear hb
  subst aV
  repeat refine sq ?_
  refine be ?_
  simp only[go_sem]
  refine kp [] [] ?_
  repeat refine sq ?_
  refine rx hΓ [4] [] (fun K' hK=>by simp only[go_sem];exact ak) ?_
  refine aq ?_
  simp only[go_sem]
  rw[oG (p:=fun x=>Sig.so x==s_) fun k hk=>hR k hk hk]
def K12b:List (Nat×Spec):=[(166,O8),(180,abD),(181,abC)]
theorem GA:KS K12b:=tc Hu.sound<|tc RL.sound<|tc RK.sound<|tn
attribute [go_sem] K12b
@[go_sem] def P170:PSpec:=p2 (cW iR) e8 (fun _ g=>g.1=171) (fun l g=>.bool (l.any fun x=>Rec.so x==g.2)) true
@[go_sem] def abG:Spec:=P170.toSpec
theorem RR:aL Tryz.prog 170 P170:=by
 refine cK (rs:=[.tmp 4]) Tryz.func170 Tryz.ntmps170 fun l g hp hw=>?_
 simp only[e8,iR,cW,encR]at hw |-
 have hΓ:=GA
 obtain⟨g,s⟩:=g
 try simp only[e8]at hw hp |-
 repeat refine sq ?_
 refine rx hΓ [0,1] [] (fun K' hK=>by simp only[go_sem];exact ak) ?_
 repeat refine sq ?_
 refine rx hΓ [4] [] (fun K' hK=>by simp only[go_sem,hp,true_or,qO];exact ak) ?_
 refine aq ?_
 simp only[go_sem]
 all_goals exact cD
@[go_sem] def P172:PSpec:=p2 (cW iT) e8 (fun _ g=>g.1=173) (fun l g=>.bool (l.any fun x=>Ret.so x==g.2)) true
@[go_sem] def abF:Spec:=P172.toSpec
theorem RP:aL Tryz.prog 172 P172:=by
 refine cK (rs:=[.tmp 4]) Tryz.func172 Tryz.ntmps172 fun l g hp hw=>?_
 simp only[e8,cW,iT,encT]at hw |-
 have hΓ:=GA
 obtain⟨g,s⟩:=g
 try simp only[e8]at hw hp |-
 repeat refine sq ?_
 refine rx hΓ [0,1] [] (fun K' hK=>by simp only[go_sem];exact ak) ?_
 repeat refine sq ?_
 refine rx hΓ [4] [] (fun K' hK=>by simp only[go_sem,hp,true_or,qO];exact ak) ?_
 refine aq ?_
 simp only[go_sem]
 all_goals exact cD
@[go_sem] def P174:PSpec:=p2 (cW iS) e8 (fun _ g=>g.1=175) (fun l g=>.bool (l.any fun x=>Sig.so x==g.2)) true
@[go_sem] def abE:Spec:=P174.toSpec
theorem RN:aL Tryz.prog 174 P174:=by
 refine cK (rs:=[.tmp 4]) Tryz.func174 Tryz.ntmps174 fun l g hp hw=>?_
 simp only[e8,iS,cW,encS]at hw |-
 have hΓ:=GA
 obtain⟨g,s⟩:=g
 try simp only[e8]at hw hp |-
 repeat refine sq ?_
 refine rx hΓ [0,1] [] (fun K' hK=>by simp only[go_sem];exact ak) ?_
 repeat refine sq ?_
 refine rx hΓ [4] [] (fun K' hK=>by simp only[go_sem,hp,true_or,qO];exact ak) ?_
 refine aq ?_
 simp only[go_sem]
 all_goals exact cD
def K12:List (Nat×Spec):=[(170,abG),(172,abF),(174,abE)]
theorem adl:KS K12:=tc RR.sound<|tc RP.sound<|tc RN.sound<|tn
attribute [go_sem] K12
def hasB(l:Led)(s:Int):Bool:=l.rs.any (fun r=>r.so==s)||l.ts.any (fun r=>r.so==s)||l.ss.any (fun r=>r.so==s)
@[go_sem] def P85:PSpec:=p2 jQ iI (fun _ _=>True) (fun l s=>.bool (hasB l s)) true
@[go_sem] def OZ:Spec:=P85.toSpec
theorem Rc:aL Tryz.prog 85 P85:=by
 refine cK (rs:=[.tmp 4]) Tryz.func85 Tryz.ntmps85 fun l s hp hw=>?_
 simp only[iI,jQ,eV]at hw |-
 have hΓ:=adl
 repeat refine sq ?_
 refine rx hΓ [0,3] [[3,0]] (fun K' hK=>by simp only[go_sem];exact ak) ?_
 repeat refine sq ?_
 refine rx hΓ [4] [] (fun K' hK=>by simp only[go_sem];exact ak) ?_
 refine aq ?_
 simp only[go_sem]
 all_goals first | rfl | (simp;done) | (grind [hasB];done)
end
noncomputable section
attribute [go_sem] Xh
def K13:List (Nat×Spec):=[(37,Gc),(67,O3),(79,x8),(85,OZ),(86,S86)]
attribute [go_sem] K13
theorem IN{l:Led}(h:bp l):yx l:=by
 refine⟨h.psn,h.rsn,h.tsn,h.ssn,fun r hr=>?_,fun r hr=>?_⟩
 ·obtain⟨j,hj,rfl⟩:=List.getElem_of_mem hr
  exact(lL.1 (Cf (jC h.rs hj))).2.1
 ·obtain⟨j,hj,rfl⟩:=List.getElem_of_mem hr
  have :=jC h.ts hj
  unfold gR at this
  simp only[Bool.and_eq_true]at this
  exact(lL.1 this.1.1.1.2).2.1
theorem aay(l:Led):(mL l != 0)=!pj l:=p7 _ _ (by decide)
end
noncomputable section
def K14:List (Nat×Spec):=[(69,Gb),(68,O2),(100,Gm),(125,Gl),(15,vG),(95,OX)]
attribute [go_sem] K14
end
structure Vw where
 l:Led
 rs:List Rec
 ts:List Int
 bk:List ((Int×Int)×Int)
 ds:List (Int×(Int×Int))
 deriving Inhabited
def bM(b:List ((Int×Int)×Int)):List (V×V):=b.map fun q=>(.agg [vInt q.1.1,vInt q.1.2],vInt q.2)
def Nw:V->Int×Int
 | .agg [.int _ a,.int _ b]=>(a,b)
 |_=>(0,0)
def Ay(es:List (V×V)):List ((Int×Int)×Int):=es.map fun q=>(Nw q.1,ky q.2)
def bE(d:List (Int×(Int×Int))):List (V×V):=d.map fun q=>(vInt q.1,.agg [vInt q.2.1,vInt q.2.2])
def Fj(es:List (V×V)):List (Int×(Int×Int)):=es.map fun q=>(ky q.1,Nw q.2)
@[go_sem] theorem Fk(b:List ((Int×Int)×Int)):Ay (bM b)=b:=by
  unfold Ay bM
  rw[List.map_map]
  exact List.map_id _
@[go_sem] theorem Fi(b:List (Int×(Int×Int))):Fj (bE b)=b:=by
  unfold Fj bE
  rw[List.map_map]
  exact List.map_id _
def bg(x:Vw)(nb nd:Name):O:=.box [.v (eV x.l),.v (.sl (x.rs.map encR)),.v (.sl (x.ts.map vInt)),.map nb,.map nd]
def vt(lp:V)(rs ts:List V)(eb ed:List (V×V)):Vw:=⟨Av lp,rs.map i4,ts.map ky,Ay eb,Fj ed⟩
theorem ZR(x:Vw):vt (eV x.l) (x.rs.map encR) (x.ts.map vInt) (bM x.bk) (bE x.ds)=x:=by
 obtain⟨⟨p,r,t,s⟩,rs,ts,bk,ds⟩:=x
 simp only[vt,eV,Av,Nv,vv,Au,td,p9,Fk,Fi]
def jt(obj:Name->Option O)(nv:Name):Option (Name×Name×Vw):=match obj nv with
 |some (.box [.v lp,.v (.sl rs),.v (.sl ts),.map nb,.map nd])=>match obj nb,obj nd with
  |some (.map 2 eb),some (.map 0 ed)=>some (nb,nd,vt lp rs ts eb ed)
  |_,_=>none
 |_=>none
def oA(obj:Name->Option O)(nv nb nd:Name)(x:Vw):Prop:=
 obj nv=some (bg x nb nd)/\obj nb=some (.map 2 (bM x.bk))/\obj nd=some (.map 0 (bE x.ds))/\(nv==nb)=false/\(nv==nd)=false/\(nb==nd)=false
structure VSpec where
 pre:Vw->List V->Prop
 val:Vw->List V->D
 wr:Option (Vw->List V->List (Int×(Int×Int)))
def VSpec.app(s:VSpec)(obj:Name->Option O)(t:Name)(ds:List D):R:=match ds with
 | .ref nv 0::r=>match jt obj nv,lY r with
   |some (nb,nd,x),some xs=>⟨oA obj nv nb nd x/\s.pre x xs,(s.val x xs).ren (cout [nv,nb,nd] t),match s.wr with | none=>obj | some f=>upd obj nd (some (.map 0 (bE (f x xs))))⟩
   |_,_=>.bad obj
 |_=>.bad obj
def VSpec.foot(_:VSpec)(obj:Name->Option O)(_:Name)(ds:List D):List Name:=match ds with
 | .ref nv _::_=>nv::(match obj nv with | some (.box [_,_,_,.map nb,.map nd])=>[nb,nd] | _=>[])
 |_=>[]
def VSpec.toSpec(s:VSpec):Spec:=⟨s.app,s.foot,s.foot⟩
theorem VSpec.near(s:VSpec):s.toSpec.Near:=by
 refine sb fun obj obj2 t ds ha=>?_
 match ds with
 | .ref nv off::r=>
   have h1:obj2 nv=obj nv:=ha nv (by simp[VSpec.foot])
   refine⟨by simp only[VSpec.foot,h1],?_⟩
   cases off with
   |succ k=>exact .none _ ha
   |zero=>
    have fx:cb (R.bad obj) (R.bad obj2) obj obj2 (s.foot obj t (.ref nv 0::r)):=.none _ ha
    by_cases hg:∃ a b c nb nd,obj nv=some (.box [a,b,c,.map nb,.map nd])
    ·obtain⟨a,b,c,nb,nd,hb⟩:=hg
     have js:obj2 nb=obj nb:=ha nb (by simp[VSpec.foot,hb])
     have nK:obj2 nd=obj nd:=ha nd (by simp[VSpec.foot,hb])
     have Yc:jt obj2 nv=jt obj nv:=by
      unfold jt
      rw[h1,hb]
      split<;>first | rfl | (rename_i e;cases e;rw[js,nK])
     have ca:∀ uJ uI x,jt obj nv=some (uJ,uI,x)->uJ=nb/\uI=nd:=by
      intro uJ uI x h
      unfold jt at h
      rw[hb]at h
      split at h
      ·rename_i e
       cases e
       split at h
       ·cases h;exact⟨rfl,rfl⟩
       ·cases h
      ·cases h
     show cb (s.app obj t (.ref nv 0::r)) (s.app obj2 t (.ref nv 0::r)) obj obj2 _
     unfold VSpec.app
     simp only[Yc]
     split
     ·rename_i uJ uI x xs hx zq
      obtain⟨rfl,rfl⟩:=ca _ _ _ hx
      have ab:oA obj2 nv uJ uI x=oA obj nv uJ uI x:=by unfold oA;rw[h1,js,nK]
      rw[ab]
      cases s.wr with
      |none=>exact .none _ ha
      |some f=>exact .one (by simp[VSpec.foot,hb]) ha
     ·exact fx
    ·have e1:jt obj nv=none:=by
       unfold jt
       split
       ·rename_i h;exact(hg ⟨_,_,_,_,_,h⟩).elim
       ·rfl
     have e2:jt obj2 nv=none:=by
      unfold jt
      rw[h1]
      split
      ·rename_i h;exact(hg ⟨_,_,_,_,_,h⟩).elim
      ·rfl
     show cb (s.app obj t (.ref nv 0::r)) (s.app obj2 t (.ref nv 0::r)) obj obj2 _
     unfold VSpec.app
     simp only[e1,e2]
     exact fx
 |[]=>exact⟨rfl,.none _ ha⟩
 | .v _::_=>exact⟨rfl,.none _ ha⟩
 | .nilsl::_=>exact⟨rfl,.none _ ha⟩
 | .nilmap::_=>exact⟨rfl,.none _ ha⟩
 | .msl _ _::_=>exact⟨rfl,.none _ ha⟩
 | .aref _ _ _ _::_=>exact⟨rfl,.none _ ha⟩
 | .map _::_=>exact⟨rfl,.none _ ha⟩
 | .yld _::_=>exact⟨rfl,.none _ ha⟩
 | .clo _ _ _::_=>exact⟨rfl,.none _ ha⟩
 | .agg _::_=>exact⟨rfl,.none _ ha⟩
 | .tup _::_=>exact⟨rfl,.none _ ha⟩
 | .any::_=>exact⟨rfl,.none _ ha⟩
def VSpec.c(s:VSpec):CSpec where
 pre:=fun os ds=>∃ (x:Vw) (xs:List V),os=[bg x [1,1] [2,1],.map 2 (bM x.bk),.map 0 (bE x.ds)]/\ds=.ref [0,1] 0::xs.map .v/\s.pre x xs
 out:=fun os ds=>match os,ds with
  |[.box [.v lp,.v (.sl rs),.v (.sl ts),_,_],.map _ eb,.map _ ed],_::r=>match lY r with
   |some xs=>⟨match s.wr with | none=>[] | some f=>[(2,.map 0 (bE (f (vt lp rs ts eb ed) xs)))],[],s.val (vt lp rs ts eb ed) xs⟩
   |none=>⟨[],[],.any⟩
  |_,_=>⟨[],[],.any⟩
theorem VSpec.c_out(s:VSpec)(x:Vw)(xs:List V):s.c.out [bg x [1,1] [2,1],.map 2 (bM x.bk),.map 0 (bE x.ds)] (.ref [0,1] 0::xs.map .v)=
 ⟨match s.wr with | none=>[] | some f=>[(2,.map 0 (bE (f x xs)))],[],s.val x xs⟩:=by
 simp only[VSpec.c,bg,Ba,ZR]
theorem H8{obj:Name->Option O}{nv nb nd:Name}{x:Vw}(h:oA obj nv nb nd x)(xs:List V):reach obj (.ref nv 0::xs.map .v)=[nv,nb,nd]:=by
 obtain⟨h1,h2,h3,h4,h5,h6⟩:=h
 unfold reach
 have e:cA (.ref nv 0::xs.map .v)=[nv]:=by simp only[cA,jL,CF,List.append_nil]
 rw[e]
 show c6 obj (2996+1+1+1+1) [nv] []=[nv,nb,nd]
 simp only[c6,cv,List.any_nil,Bool.false_eq_true,if_false,h1,bg,jK,cA,jL,List.nil_append,List.append_nil,List.any_cons,h4,h5,h6,Bool.or_false,h2,h3,List.cons_append]
theorem VSpec.sound{P:Program}{f:FuncId}{s:VSpec}(h:aM P f s.c.toSpec)(aG:f≠yid):aM P f s.toSpec:=by
 refine rS h s.near aG fun obj t ds ab=>?_
 have eN:(s.app obj t ds).ok:=ab
 show ∃ mF,_/\_/\_/\_=(s.app obj t ds).d/\_=(s.app obj t ds).obj
 unfold VSpec.app at eN |-
 split at eN
 ·rename_i nv r
  split at eN
  ·rename_i nb nd x xs Ev zq
   obtain⟨hv,hp⟩:=eN
   have hlen:=FX zq
   have su:=hv
   obtain⟨h1,h2,h3,h4,h5,h6⟩:=su
   have n4:nv≠nb:=by simpa using h4
   have n5:nv≠nd:=by simpa using h5
   have n6:nb≠nd:=by simpa using h6
   have hr:=H8 hv xs
   have i0:idx [nv,nb,nd] nv=0:=by simp[idx]
   have i1:idx [nv,nb,nd] nb=1:=by simp[idx,n4]
   have i2:idx [nv,nb,nd] nd=2:=by simp[idx,n5,n6]
   have e1:cJ obj (.ref nv 0::xs.map .v)=[bg x [1,1] [2,1],.map 2 (bM x.bk),.map 0 (bE x.ds)]:=by
    unfold cJ
    rw[hr]
    simp only[List.map_cons,List.map_nil,cP,h1,h2,h3,bg,O.ren,D.renL,D.ren,cin,i1,i2]
   have e2:cY obj (.ref nv 0::xs.map .v)=.ref [0,1] 0::xs.map .v:=by
    unfold cY
    rw[hr]
    simp only[D.renL,D.ren,cin,i0,Cd]
   have e5:(shut obj [nv,nb,nd]&&D.closL (cv [nv,nb,nd]) (.ref nv 0::xs.map .v)&&fresh obj t [])=true:=by
    simp[shut,h1,h2,h3,bg,O.clos,D.closL,D.clos,cv,fresh,FC]
   refine⟨.ref nv 0::xs.map .v,by simpa using hlen,fun φ m us hl qR i a b=>?_,?_⟩
   ·cases i with
    |zero=>exact qR 0 (by simp) b
    |succ i=>
     simp only[List.length_cons,List.length_map]at a
     simp only[List.getElem_cons_succ,List.getElem_map]
     exact .v _ _ (FW zq i (by omega) (by omega) _ (by have:=qR (i+1) (by simp;omega) b;simpa using this))
   ·have e4:s.c.pre [bg x [1,1] [2,1],.map 2 (bM x.bk),.map 0 (bE x.ds)] (.ref [0,1] 0::xs.map .v):=⟨x,xs,rfl,rfl,hp⟩
    simp only[CSpec.toSpec,e1,e2,hr,s.c_out,e4,e5,Ev,zq,and_self,dE]
    refine⟨trivial,trivial,?_⟩
    cases s.wr with
    |none=>rfl
    |some f=>simp only[cS,O.ren,List.getD_cons_zero,List.getD_cons_succ]
  ·exact eN.elim
 ·exact eN.elim
def wh(P:Program)(rs:List ResultVar)(x:Vw)(d:D)(w:Option (List (Int×(Int×Int)))):Exit->S->Prop
 | .normal,σ=>(b9 P σ rs).ok/\(b9 P σ rs).d=d/\σ.obj [0,1]=some (bg x [1,1] [2,1])/\σ.obj [1,1]=some (.map 2 (bM x.bk))/\σ.obj [2,1]=some (.map 0 (bE (w.getD x.ds)))
 | .ret,σ=>(b9 P σ rs).ok/\(b9 P σ rs).d=d/\σ.obj [0,1]=some (bg x [1,1] [2,1])/\σ.obj [1,1]=some (.map 2 (bM x.bk))/\σ.obj [2,1]=some (.map 0 (bE (w.getD x.ds)))
 |_,_=>False
theorem By{P:Program}{f:FuncId}{fn:Func}{nt:Nat}{rs:List ResultVar}{s:VSpec}(hf:P.funcs[f]?=some fn)(cB:fn.ntmps=nt)(cg:fn.results.toList=rs)(hn:(fn.name== "runtime.NumGoroutine")=false)(hy:f<1000000000)(cT:∀ x xs,s.pre x xs->D.clos (fun _=>false) (s.val x xs)=true)
 (hb:∃ c,fn.body=some c/\∀ x xs,s.pre x xs->xs.length+1<=nt/\∀ H:Name->Option O,H [0,1]=some (bg x [1,1] [2,1])->H [1,1]=some (.map 2 (bM x.bk))->H [2,1]=some (.map 0 (bE x.ds))->
   (∀ hs,bG [0] (bC [0] hs) H=True)->(∀ hs es,bG [0] (bC [0] hs) (fun nm=>if nm=[2,1]then some (.map 0 es)else H nm)=True)->
   CL P [c] (bm nt [0] H (dD 0 (.ref [0,1] 0::xs.map .v)) []) (wh P rs x (s.val x xs) (s.wr.map fun f=>f x xs))):aM P f s.toSpec:=by
 obtain⟨c,hc,h⟩:=hb
 have aG:f≠yid:=Nat.ne_of_lt (show f<yid from hy)
 refine VSpec.sound (mI hf hc cB cg (iz hf hc hn) aG ?_) aG
 rintro os ds ⟨x,xs,rfl,rfl,hp⟩
 obtain⟨h1,h2⟩:=h x xs hp
 refine⟨by simpa using h1,?_⟩
 have hO:∀ hs,bG [0] (bC [0] hs) (aS [bg x [1,1] [2,1],.map 2 (bM x.bk),.map 0 (bE x.ds)]):=fun hs=>lE (by
  intro o ho dom hd
  simp only[List.mem_cons,List.not_mem_nil,or_false]at ho
  rcases ho with rfl | rfl | rfl
  ·simp[bg,O.clos,D.closL,D.clos,hd]
  ·rfl
  ·rfl) hs
 have :=h2 (aS [bg x [1,1] [2,1],.map 2 (bM x.bk),.map 0 (bE x.ds)]) rfl rfl rfl (fun hs=>eq_true (hO hs)) (fun hs es=>eq_true (oe (nm:=[2,1]) (o:=.map 0 es) rfl (hO hs)))
 refine CW.mono (gr this) fun e σ hk=>?_
 rw[s.c_out]
 have key:(b9 P σ rs).ok/\(b9 P σ rs).d=s.val x xs/\σ.obj [0,1]=some (bg x [1,1] [2,1])/\σ.obj [1,1]=some (.map 2 (bM x.bk))/\σ.obj [2,1]=some (.map 0 (bE ((s.wr.map fun f=>f x xs).getD x.ds)))->
     (b9 P σ rs).ok/\(b9 P σ rs).d=s.val x xs/\gq [bg x [1,1] [2,1],.map 2 (bM x.bk),.map 0 (bE x.ds)] ⟨match s.wr with | none=>[] | some f=>[(2,.map 0 (bE (f x xs)))],[],s.val x xs⟩ σ:=by
  rintro⟨k1,k2,k3,k4,k5⟩
  refine⟨k1,k2,?_⟩
  have hd:=clos_imp (dom:=fun _=>false) (dom':=dL 3 []) (fun _ h=>by cases h) _ (cT x xs hp)
  cases hw:s.wr with
  |none=>
   rw[hw]at k5
   refine⟨⟨k3,k4,k5,trivial⟩,trivial,?_⟩
   show (D.clos (dL 3 []) (s.val x xs)&&_&&_&&_)=true
   rw[hd];rfl
  |some f=>
   rw[hw]at k5
   refine⟨⟨k3,k4,k5,trivial⟩,trivial,?_⟩
   show (D.clos (dL 3 []) (s.val x xs)&&_&&_&&_)=true
   rw[hd];rfl
 cases e with
 |normal=>exact key hk
 |ret=>exact key hk
 |_=>exact hk.elim
def v0(p:Vw->Prop)(g:Vw->D)(w:Option (Vw->List (Int×(Int×Int)))):VSpec:=
 ⟨fun x xs=>match xs with | []=>p x | _=>False,fun x xs=>match xs with | []=>g x | _=>.any,w.map fun w x xs=>match xs with | []=>w x | _=>[]⟩
theorem GL{p:Vw->Prop}{g:Vw->D}{w:Option (Vw->List (Int×(Int×Int)))}{x:Vw}{xs:List V}(h:(v0 p g w).pre x xs):
 xs=[]/\p x/\(v0 p g w).val x xs=g x/\((v0 p g w).wr.map fun f=>f x xs)=w.map fun w=>w x:=by
 unfold v0 at h
 simp only at h
 split at h
 ·exact⟨rfl,h,rfl,by cases w<;>rfl⟩
 ·exact h.elim
def v1{α:Type}(A:En α)(p:Vw->α->Prop)(g:Vw->α->D)(w:Option (Vw->α->List (Int×(Int×Int)))):VSpec:=
 ⟨fun x xs=>match xs with | [a]=>A.enc (A.dec a)=a/\p x (A.dec a) | _=>False,fun x xs=>match xs with | [a]=>g x (A.dec a) | _=>.any,w.map fun w x xs=>match xs with | [a]=>w x (A.dec a) | _=>[]⟩
theorem GK{α:Type}{A:En α}{p:Vw->α->Prop}{g:Vw->α->D}{w:Option (Vw->α->List (Int×(Int×Int)))}{x:Vw}{xs:List V}(h:(v1 A p g w).pre x xs):
 ∃ a,xs=[A.enc a]/\p x a/\(v1 A p g w).val x xs=g x a/\((v1 A p g w).wr.map fun f=>f x xs)=w.map fun w=>w x a:=by
 unfold v1 at h
 simp only at h
 split at h
 ·exact⟨_,by rw[h.1],h.2,rfl,by cases w<;>rfl⟩
 ·exact h.elim
def v2{α β:Type}(A:En α)(B:En β)(p:Vw->α->β->Prop)(g:Vw->α->β->D)(w:Option (Vw->α->β->List (Int×(Int×Int)))):VSpec:=
 ⟨fun x xs=>match xs with | [a,b]=>A.enc (A.dec a)=a/\B.enc (B.dec b)=b/\p x (A.dec a) (B.dec b) | _=>False,fun x xs=>match xs with | [a,b]=>g x (A.dec a) (B.dec b) | _=>.any,w.map fun w x xs=>match xs with | [a,b]=>w x (A.dec a) (B.dec b) | _=>[]⟩
theorem GJ{α β:Type}{A:En α}{B:En β}{p:Vw->α->β->Prop}{g:Vw->α->β->D}{w:Option (Vw->α->β->List (Int×(Int×Int)))}{x:Vw}{xs:List V}(h:(v2 A B p g w).pre x xs):
 ∃ a b,xs=[A.enc a,B.enc b]/\p x a b/\(v2 A B p g w).val x xs=g x a b/\((v2 A B p g w).wr.map fun f=>f x xs)=w.map fun w=>w x a b:=by
 unfold v2 at h
 simp only at h
 split at h
 ·exact⟨_,_,by rw[h.1,h.2.1],h.2.2,rfl,by cases w<;>rfl⟩
 ·exact h.elim
def v3{α β γ:Type}(A:En α)(B:En β)(C:En γ)(p:Vw->α->β->γ->Prop)(g:Vw->α->β->γ->D)(w:Option (Vw->α->β->γ->List (Int×(Int×Int)))):VSpec:=
 ⟨fun x xs=>match xs with | [a,b,c]=>A.enc (A.dec a)=a/\B.enc (B.dec b)=b/\C.enc (C.dec c)=c/\p x (A.dec a) (B.dec b) (C.dec c) | _=>False,fun x xs=>match xs with | [a,b,c]=>g x (A.dec a) (B.dec b) (C.dec c) | _=>.any,w.map fun w x xs=>match xs with | [a,b,c]=>w x (A.dec a) (B.dec b) (C.dec c) | _=>[]⟩
section
variable {P:Program} {f:FuncId} {fn:Func} {nt:Nat} {rs:List ResultVar}
theorem PV{p:Vw->Prop}{g:Vw->D}{w:Option (Vw->List (Int×(Int×Int)))}(hf:P.funcs[f]?=some fn)(cB:fn.ntmps=nt)(cg:fn.results.toList=rs)(hn:(fn.name== "runtime.NumGoroutine")=false)(hy:f<1000000000)(cT:∀ x,D.clos (fun _=>false) (g x )=true)
 (hb:∃ cc,fn.body=some cc/\1<=nt/\∀ x,p x->∀ H:Name->Option O,H [0,1]=some (bg x [1,1] [2,1])->H [1,1]=some (.map 2 (bM x.bk))->H [2,1]=some (.map 0 (bE x.ds))->
   (∀ hs,bG [0] (bC [0] hs) H=True)->(∀ hs es,bG [0] (bC [0] hs) (fun nm=>if nm=[2,1]then some (.map 0 es)else H nm)=True)->
   CL P [cc] (bm nt [0] H (dD 0 (.ref [0,1] 0::[].map .v)) []) (wh P rs x (g x ) (w.map fun w=>w x ))):aM P f (v0 p g w).toSpec:=by
 obtain⟨cc,hc,h1,h⟩:=hb
 refine By hf cB cg hn hy (fun x xs hp=>by
  obtain⟨rfl,_,hg,_⟩:=GL hp
  rw[hg];exact cT x ) ⟨cc,hc,fun x xs hp=>?_⟩
 obtain⟨rfl,hp,hg,hw⟩:=GL hp
 rw[hg,hw]
 exact⟨h1,h x hp⟩
theorem yk{α:Type}{A:En α}{p:Vw->α->Prop}{g:Vw->α->D}{w:Option (Vw->α->List (Int×(Int×Int)))}(hf:P.funcs[f]?=some fn)(cB:fn.ntmps=nt)(cg:fn.results.toList=rs)(hn:(fn.name== "runtime.NumGoroutine")=false)(hy:f<1000000000)(cT:∀ x a,D.clos (fun _=>false) (g x a)=true)
 (hb:∃ cc,fn.body=some cc/\2<=nt/\∀ x a,p x a->∀ H:Name->Option O,H [0,1]=some (bg x [1,1] [2,1])->H [1,1]=some (.map 2 (bM x.bk))->H [2,1]=some (.map 0 (bE x.ds))->
   (∀ hs,bG [0] (bC [0] hs) H=True)->(∀ hs es,bG [0] (bC [0] hs) (fun nm=>if nm=[2,1]then some (.map 0 es)else H nm)=True)->
   CL P [cc] (bm nt [0] H (dD 0 (.ref [0,1] 0::[A.enc a].map .v)) []) (wh P rs x (g x a) (w.map fun w=>w x a))):aM P f (v1 A p g w).toSpec:=by
 obtain⟨cc,hc,h1,h⟩:=hb
 refine By hf cB cg hn hy (fun x xs hp=>by
  obtain⟨a,rfl,_,hg,_⟩:=GK hp
  rw[hg];exact cT x a) ⟨cc,hc,fun x xs hp=>?_⟩
 obtain⟨a,rfl,hp,hg,hw⟩:=GK hp
 rw[hg,hw]
 exact⟨h1,h x a hp⟩
theorem yj{α β:Type}{A:En α}{B:En β}{p:Vw->α->β->Prop}{g:Vw->α->β->D}{w:Option (Vw->α->β->List (Int×(Int×Int)))}(hf:P.funcs[f]?=some fn)(cB:fn.ntmps=nt)(cg:fn.results.toList=rs)(hn:(fn.name== "runtime.NumGoroutine")=false)(hy:f<1000000000)(cT:∀ x a b,D.clos (fun _=>false) (g x a b)=true)
 (hb:∃ cc,fn.body=some cc/\3<=nt/\∀ x a b,p x a b->∀ H:Name->Option O,H [0,1]=some (bg x [1,1] [2,1])->H [1,1]=some (.map 2 (bM x.bk))->H [2,1]=some (.map 0 (bE x.ds))->
   (∀ hs,bG [0] (bC [0] hs) H=True)->(∀ hs es,bG [0] (bC [0] hs) (fun nm=>if nm=[2,1]then some (.map 0 es)else H nm)=True)->
   CL P [cc] (bm nt [0] H (dD 0 (.ref [0,1] 0::[A.enc a,B.enc b].map .v)) []) (wh P rs x (g x a b) (w.map fun w=>w x a b))):aM P f (v2 A B p g w).toSpec:=by
 obtain⟨cc,hc,h1,h⟩:=hb
 refine By hf cB cg hn hy (fun x xs hp=>by
  obtain⟨a,b,rfl,_,hg,_⟩:=GJ hp
  rw[hg];exact cT x a b) ⟨cc,hc,fun x xs hp=>?_⟩
 obtain⟨a,b,rfl,hp,hg,hw⟩:=GJ hp
 rw[hg,hw]
 exact⟨h1,h x a b hp⟩
end
attribute [go_sem] v0 v1 v2 v3 wh Option.map_some Option.map_none Option.getD_some Option.getD_none
attribute [go_sem] VSpec.toSpec VSpec.app jt oA bg vt
noncomputable section
def K16:List (Nat×Spec):=[(166,O8)]
theorem Ps:KS K16:=tc Hu.sound<|tn
attribute [go_sem] K16
def ew:Rec:=⟨0,0,0,[],0,0,0⟩
def gS(r:Rec):D:=.agg [.v (vInt r.so),.v (vInt r.bo),.v (vInt r.pa),.v (.sl (r.lv.map vInt)),.v (vInt r.da),.v (vInt r.kn),.v (vInt r.un)]
attribute [go_sem] gS
def nc:Option Rec->D
 |some r=>gS r
 |none=>.agg [.v (vInt 0),.v (vInt 0),.v (vInt 0),.nilsl,.v (vInt 0),.v (vInt 0),.v (vInt 0)]
theorem ma(r:Option Rec)(p:Name->Bool):D.clos p (nc r)=true:=by cases r<;>rfl
def eJ(l:List Rec)(s:Int):Option Rec:=l.find? fun r=>r.so==s
theorem If{l:List Rec}{s:Int}(h:cf (fun x=>x.so==s) l<0):eJ l s=none:=by
 unfold eJ
 rw[List.find?_eq_none]
 intro x hx hp
 unfold cf at h
 rw[if_pos (List.any_eq_true.2 ⟨x,hx,hp⟩)]at h
 omega
theorem Ie{l:List Rec}{s:Int}(h:¬ cf (fun x=>x.so==s) l<0):∃ (i:Nat) (hi:i<l.length),cf (fun x=>x.so==s) l=i/\eJ l s=some l[i]:=by
 unfold cf at h |-
 split at h
 ·rename_i ir
  have aa:l.findIdx (fun x=>x.so==s)<l.length:=List.findIdx_lt_length_of_exists (by obtain⟨x,hx,hp⟩:=List.any_eq_true.1 ir;exact⟨x,hx,hp⟩)
  rw[if_pos ir]
  refine⟨_,aa,rfl,?_⟩
  unfold eJ
  rw[List.find?_eq_some_iff_getElem]
  exact⟨List.findIdx_getElem (w:=aa),_,aa,rfl,fun j hj=>by simpa using List.not_of_lt_findIdx hj⟩
 ·omega
def OO:VSpec:=v1 iI (fun _ _=>True) (fun x s=>.tup [nc (eJ x.rs s),.v (.bool (eJ x.rs s).isSome)]) none
def S77:Spec:=OO.toSpec
attribute [go_sem] OO S77
set_option maxHeartbeats 4000000 in
theorem WW:aM Tryz.prog 77 S77:=by
 refine yk (rs:=[.cell 4 36,.tmp 5]) Tryz.func77 Tryz.ntmps77 (by rfl) (by kernel_rfl) (by decide) (fun _ _=>by first | rfl | exact ma _ _ | simp[D.clos,D.closL,ma]) ⟨_,rfl,lb rfl,fun x s hp H h0 h1 h2 hO ai=>?_⟩
 simp only[iI,bg,dD,List.map_cons,List.map_nil,Nat.zero_add,Option.map_some,Option.map_none]at h0 |-
 have hΓ:=Ps
 repeat refine sq ?_
 refine rx hΓ [0,3,4] [[3,0],[4,0]] (fun K' hK=>by simp only[go_sem,hO,ai,h0,h1,h2];(repeat (refine⟨ao,?_⟩));exact hK _ (by simp only[go_sem,hO,ai,h0,h1,h2]) (by simp only[go_sem,hO,ai,h0,h1,h2]<;>rfl)) ?_
 repeat refine sq ?_
 refine rx hΓ [0,4,6] [[4,0]] (fun K' hK=>by simp only[go_sem,hO,ai,h0,h1,h2,true_or,or_true];(repeat (refine⟨ao,?_⟩));exact hK _ (by simp only[go_sem,hO,ai,h0,h1,h2,true_or,or_true]) (by simp only[go_sem,hO,ai,h0,h1,h2,true_or,or_true]<;>rfl)) ?_
 repeat refine sq ?_
 refine rx hΓ [0,4,6,14] [[4,0]] (fun K' hK=>by simp only[go_sem,hO,ai,h0,h1,h2];(repeat (refine⟨ao,?_⟩));exact hK _ (by simp only[go_sem,hO,ai,h0,h1,h2]) (by simp only[go_sem,hO,ai,h0,h1,h2]<;>rfl)) ?_
 repeat refine sq ?_
 refine au (fun hb=>?_) fun hb=>?_
 ·repeat refine sq ?_
  have e:eJ x.rs s=none:=If (by simpa using hb)
  repeat refine sq ?_
  refine rx hΓ [4,5] [[4,0]] (fun K' hK=>by simp only[go_sem,hO,ai,h0,h1,h2];(repeat (refine⟨ao,?_⟩));exact hK _ (by simp only[go_sem,hO,ai,h0,h1,h2]) (by simp only[go_sem,hO,ai,h0,h1,h2]<;>rfl)) ?_
  refine aq ?_
  simp only[go_sem,hO,ai,h0,h1,h2]
  rw[e];rfl
 ·repeat refine sq ?_
  obtain⟨i,hi,e1,e⟩:=Ie (by simpa using hb)
  have bU:(i:Int)<x.rs.length:=by omega
  rw[e1]
  refine ay ?_
  repeat refine sq ?_
  refine rx hΓ [4,5] [[4,0]] (fun K' hK=>by simp only[go_sem,hO,ai,h0,h1,h2,ae hi,ah,aj,bU];(repeat (refine⟨ao,?_⟩));exact hK _ (by simp only[go_sem,hO,ai,h0,h1,h2,ae hi,ah,aj,bU]) (by simp only[go_sem,hO,ai,h0,h1,h2,ae hi,ah,aj,bU]<;>rfl)) ?_
  refine aq ?_
  simp only[go_sem,hO,ai,h0,h1,h2]
  rw[e];rfl
end
noncomputable section
structure Rg where
 (lo hi:Int)
 deriving Inhabited,DecidableEq
def encRg(r:Rg):V:=.agg [vInt r.lo,vInt r.hi]
def vu:V->Rg
 | .agg [.int _ a,.int _ b]=>⟨a,b⟩
 |_=>default
def wK:En Rg:=⟨encRg,vu⟩
attribute [go_sem] encRg vu wK
@[go_sem] theorem agx(p:Rg):(⟨p.lo,p.hi⟩:Rg)=p:=rfl
def bt:List (Int×(Int×Int))->Int->Int×Int
 |[],_=>(0,0)
 |(k,d)::r,i=>if k=i then d else bt r i
def nW:List (Int×(Int×Int))->Int->Int×Int->List (Int×(Int×Int))
 |[],i,d=>[(i,d)]
 |(k,e)::r,i,d=>if k=i then(i,d)::r else(k,e)::nW r i d
theorem iO(d:List (Int×(Int×Int)))(i:Int):(ft (bE d) (vInt i)).getD (.agg [vInt 0,vInt 0])=.agg [vInt (bt d i).1,vInt (bt d i).2]:=by
 induction d with
 |nil=>rfl
 |cons q r ih=>
  obtain⟨k,e⟩:=q
  show (if fL (vInt k) (vInt i)=true then some (V.agg [vInt e.1,vInt e.2])else ft (bE r) (vInt i)).getD _=_
  by_cases h:k=i
  ·subst h;simp[fL,bt]
  ·have h':(k==i)=false:=by simpa using h
   simp only[fL,h',Bool.false_eq_true,if_false,bt,h]
   exact ih
theorem Je(d:List (Int×(Int×Int)))(i a b:Int):ep (bE d) (vInt i) (.agg [vInt a,vInt b])=bE (nW d i (a,b)):=by
 induction d with
 |nil=>rfl
 |cons q r ih=>
  obtain⟨k,e⟩:=q
  show (if fL (vInt k) (vInt i)=true then(vInt i,V.agg [vInt a,vInt b])::bE r else(vInt k,V.agg [vInt e.1,vInt e.2])::ep (bE r) (vInt i) (.agg [vInt a,vInt b]))=_
  by_cases h:k=i
  ·subst h;simp[fL,nW,bE]
  ·have h':(k==i)=false:=by simpa using h
   simp only[fL,h',Bool.false_eq_true,if_false,nW,h,ih]
   rfl
def cI(a b:Int):Int:=if b>a then b else a
def dY(a b:Int):Int:=if b<a then b else a
def CE(x:Vw)(i:Int)(r:Rg):List (Int×(Int×Int)):=nW x.ds i (cI (bt x.ds i).1 r.lo,dY (bt x.ds i).2 r.hi)
def OQ:VSpec:=v2 iI wK (fun _ _ _=>True) (fun _ _ _=>.tup []) (some CE)
def S165:Spec:=OQ.toSpec
attribute [go_sem] OQ S165
set_option maxHeartbeats 4000000 in
theorem Df:aM Tryz.prog 165 S165:=by
 refine yj (rs:=[]) Tryz.func165 Tryz.ntmps165 (by rfl) (by kernel_rfl) (by decide) (fun _ _ _=>by first | rfl | simp[D.clos,D.closL,ma]) ⟨_,rfl,lb rfl,fun x i r hp H h0 h1 h2 hO ai=>?_⟩
 have hP:=c8
 simp only[iI,wK,encRg,bg,dD,List.map_cons,List.map_nil,Nat.zero_add,Option.map_some,Option.map_none]at h0 |-
 have hΓ:=@dT Tryz.prog
 repeat refine sq ?_
 refine rx hΓ [0,1,5] [[5,0]] (fun K' hK=>by simp only[go_sem,hO,ai,h0,h1,h2];(repeat (refine⟨ao,?_⟩));exact hK _ (by simp only[go_sem,hO,ai,h0,h1,h2]) (by simp only[go_sem,hO,ai,h0,h1,h2]<;>rfl)) ?_
 repeat refine sq ?_
 refine rx hΓ [0,1,5,6] [[5,0],[6,0]] (fun K' hK=>by simp only[go_sem,hO,ai,h0,h1,h2,iO];(repeat (refine⟨ao,?_⟩));exact hK _ (by simp only[go_sem,hO,ai,h0,h1,h2,iO]) (by simp only[go_sem,hO,ai,h0,h1,h2,iO]<;>rfl)) ?_
 repeat refine sq ?_
 refine mK hΓ hP [[],[0],[0,1],[0,1,2],[],[],[5],[],[7],[5,6,7,8],[],[10],[],[12],[10,11,12,13],[5,6,7,8,9,10,11,12,13,14],u16] (by kernel_rfl) fun K' hK=>?_
 simp only[go_sem,hO,ai,h0,h1,h2,Je]
 repeat (refine⟨ao,?_⟩)
 first | refine⟨by rfl,?_⟩ | skip
 refine hK _ ?_
 clear K' hK
 simp only[go_sem]
 exact⟨h0,h1,rfl⟩
end
def bK(l:Led)(k:Int):List Rec:=l.rs.filter fun r=>cG r.kn r.un k
def gj(l:Led)(k:Int):List Sig:=l.ss.filter fun s=>cG s.kn s.un k
def il(pa:Int)(lv:List Int)(r:Rec):Bool:=r.pa==pa&&r.lv.any fun n=>lv.contains n
def dQ(rs:List Rec)(pa:Int)(lv:List Int):List Rec:=rs.filter (il pa lv)
abbrev Bk:=List ((Int×Int)×Int)
abbrev Ds:=List (Int×(Int×Int))
def bJ:Bk->Int×Int->Option Int
 |[],_=>none
 |(k,i)::r,q=>if k=q then some i else bJ r q
def rB:Bk->Int×Int->Int->Bk
 |[],q,i=>[(q,i)]
 |(k,e)::r,q,i=>if k=q then(q,i)::r else(k,e)::rB r q i
theorem JS(a b c d:Int):fL (.agg [vInt a,vInt b]) (.agg [vInt c,vInt d])=decide ((a,b)=(c,d)):=by
 show (a==c&&b==d)=_
 by_cases h1:a=c<;>by_cases h2:b=d<;>simp[h1,h2]
theorem aB(b:Bk)(p f:Int):ft (bM b) (.agg [vInt p,vInt f])=(bJ b (p,f)).map vInt:=by
 induction b with
 |nil=>rfl
 |cons q r ih=>
  obtain⟨⟨k1,k2⟩,i⟩:=q
  show (if fL (.agg [vInt k1,vInt k2]) (.agg [vInt p,vInt f])=true then some (vInt i)else ft (bM r) (.agg [vInt p,vInt f]))=_
  rw[ih,JS]
  simp only[bJ]
  by_cases h:(k1,k2)=(p,f)
  ·rw[if_pos h,if_pos (by simpa using h)];rfl
  ·rw[if_neg h,if_neg (by simpa using h)]
theorem Uv(b:Bk)(p f i:Int):ep (bM b) (.agg [vInt p,vInt f]) (vInt i)=bM (rB b (p,f) i):=by
 induction b with
 |nil=>rfl
 |cons q r ih=>
  obtain⟨⟨k1,k2⟩,e⟩:=q
  show (if fL (.agg [vInt k1,vInt k2]) (.agg [vInt p,vInt f])=true then(V.agg [vInt p,vInt f],vInt i)::bM r else(.agg [vInt k1,vInt k2],vInt e)::ep (bM r) (.agg [vInt p,vInt f]) (vInt i))=_
  rw[ih,JS]
  simp only[rB]
  by_cases h:(k1,k2)=(p,f)
  ·rw[if_pos h,if_pos (by simpa using h)];rfl
  ·rw[if_neg h,if_neg (by simpa using h)];rfl
def kN(d:Ds)(i:Int)(r:Rg):Ds:=nW d i (cI (bt d i).1 r.lo,dY (bt d i).2 r.hi)
def aK(l:Led)(i:Nat):Ret:=l.ts.getD i default
def ji(k:Int)(rs:List Rec)(bk:Bk)(x:Ret):Option Rec:=match eJ rs x.re with
 |none=>none
 |some r=>if cG x.kn x.un k&&!(decide (cI x.lo (r.da+1)>x.hi)||x.lv.any fun f=>(bJ bk (r.so,f)).isSome||!r.lv.contains f)then some r else none
def qc(b:Bk)(so:Int)(i:Int)(lv:List Int):Bk:=lv.foldl (fun b f=>rB b (so,f) i) b
def qJ(l:Led)(k:Int)(v:Vw)(i:Nat):Vw:=match ji k v.rs v.bk (aK l i)with
 |none=>v
 |some r=>{ v with bk:=qc v.bk r.so i (aK l i).lv,ts:=v.ts++[(i:Int)],ds:=nW v.ds i (cI (aK l i).lo (r.da+1),(aK l i).hi) }
def aF(l:Led)(k:Int):Nat->Vw
 | 0=>⟨l,bK l k,[],[],[]⟩
 |s+1=>qJ l k (aF l k s) s
def mb(rs:List Rec)(s:Int):Rec:=(eJ rs s).getD ew
def lH(d:Ds)(i da:Int)(os:List Rec):Ds:=os.foldl (fun d o=>if o.da>da then kN d i ⟨0,o.da⟩else d) d
def jk(l:Led)(rs:List Rec)(ts:List Int)(d:Ds):Nat->Ds
 | 0=>d
 |j+1=>lH (jk l rs ts d j) (ts.getD j 0) (mb rs (aK l (ts.getD j 0).toNat).re).da (dQ rs (mb rs (aK l (ts.getD j 0).toNat).re).pa (aK l (ts.getD j 0).toNat).lv)
def ax(l:Led)(k:Int):Vw:={ aF l k l.ts.length with ds:=jk l (bK l k) (aF l k l.ts.length).ts (aF l k l.ts.length).ds (aF l k l.ts.length).ts.length }
theorem US(l:Led)(k:Int)(v:Vw)(i:Nat):(qJ l k v i).l=v.l/\(qJ l k v i).rs=v.rs:=by
 unfold qJ
 split<;>exact⟨rfl,rfl⟩
theorem pA(l:Led)(k:Int)(i:Nat):(aF l k i).l=l/\(aF l k i).rs=bK l k:=by
 induction i with
 |zero=>exact⟨rfl,rfl⟩
 |succ i ih=>
  have :=US l k (aF l k i) i
  exact⟨this.1.trans ih.1,this.2.trans ih.2⟩
def vw(x:Vw)(a b:Rec):Bool:=a.lv.any fun f=>(a.pa==b.pa&&b.lv.contains f)&&(a.da==b.da||match bJ x.bk (a.so,f)with
 |none=>true
 |some i=>decide (cI (aK x.l i.toNat).lo (a.da+1)>b.da))
def lU(x:Vw)(a b:Rec):Bool:=if a.da>b.da then vw x b a else vw x a b
def nl(x:Vw)(i:Nat):Option (Int×Int):=((x.rs.drop (i+1)).find? (lU x (x.rs.getD i ew))).map fun b=>((x.rs.getD i ew).so,b.so)
def gk(x:Vw):Option (Int×Int):=(List.range x.rs.length).findSome? (nl x)
def qd(day:Int)(o:Option Rec)(r:Rec):Option Rec:=if decide (r.da<=day)&&(o.isNone||decide (r.da>=(o.getD ew).da))then some r else o
def fS(rs:List Rec)(pa le day:Int):Option Rec:=(dQ rs pa [le]).foldl (qd day) none
def cV:Rg:=⟨0,100000⟩
def cN:Rg:=⟨1,0⟩
def bQ(x:Vw)(s:Sig):Int×Rg:=match fS x.rs s.pa s.le s.da with
 |none=>if s.pe=0 then(-1,cV)else(-1,cN)
 |some r=>match bJ x.bk (r.so,s.le)with
  |none=>if s.pe=r.bo then(-1,cV)else(-1,cN)
  |some i=>if s.pe=0 then(i,⟨0,s.da⟩)else if s.pe=r.bo then(i,⟨s.da+1,100000⟩)else(-1,cN)
def jv(x:Vw)(d:Ds)(s:Sig):Ds:=if (bQ x s).1>=0 then kN d (bQ x s).1 (bQ x s).2 else d
def fH(x:Vw)(d:Ds)(l:List Sig):Ds:=l.foldl (jv x) d
def fC(x:Vw)(s:Sig):Bool:=decide ((bQ x s).1>=0)||!decide ((bQ x s).2.lo>(bQ x s).2.hi)
def Aj(ts:List Int)(d:Ds):Bool:=ts.all fun i=>decide ((bt d i).1<=(bt d i).2)
def iZ(x:Vw)(l:List Sig):Bool:=l.all (fC x)&&Aj x.ts (fH x x.ds l)
open Go
def ct(obj:Name->Option O):List Name->List O->Prop
 |[],[]=>True
 |x::xs,o::os=>obj x=some o/\ct obj xs os
 |_,_=>False
theorem lG{obj:Name->Option O}:∀ {Ls:List Name} {F:List O},ct obj Ls F↔Ls.map obj=F.map some
 |[],[]=>by simp[ct]
 |x::xs,o::os=>by simp only[ct,List.map_cons,List.cons.injEq,lG]
 |[],_::_=>by simp[ct]
 |_::_,[]=>by simp[ct]
theorem yY{obj obj2:Name->Option O}{Ls:List Name}{F:List O}(h:ct obj Ls F)(ha:∀ x∈Ls,obj2 x=obj x):ct obj2 Ls F:=by
 rw[lG]at h |-
 rw[<-h]
 exact List.map_congr_left ha
theorem Cx{obj:Name->Option O}:∀ {Ls:List Name} {F:List O},ct obj Ls F->∀ i (h:i<Ls.length) (h':i<F.length),obj Ls[i]=some F[i]
 |_::_,_::_,h,0,_,_=>h.1
 |_::_,_::_,h,i+1,h1,h2=>by
  simp only[List.getElem_cons_succ]
  exact Cx h.2 i (by simpa using h1) (by simpa using h2)
def oy(K:Exit->S->Prop)(σ:S):Option Code->Prop
 |none=>K .normal σ
 |some .ret=>K .ret σ
 |some (.exit id)=>K (.exit id) σ
 |_=>False
theorem Jx{K:Exit->S->Prop}{obj:Name->Option O}{nm:Name}{σ:S}{env:List E}{ps:List Nat}{a b:Code}(pd:Option Code)(h:obj nm=some (.loop env ps a b (if pd.isNone then .ready else .done) pd))
 (hK:oy K σ pd):qK K obj nm σ:=by
 unfold qK
 rw[h]
 rcases pd with _ | c
 ·exact hK
 ·cases c<;>first | exact hK.elim | exact hK
def LR(m:Nat):List Name:=(List.range m).map fun i=>[i,1]
def LI(m:Nat):List Name:=(List.range m).map fun i=>[i+1,1]
theorem vI(m:Nat):(LR m).length=m:=by simp[LR]
theorem gv(m:Nat):(LI m).length=m:=by simp[LI]
theorem Pk(m:Nat):(LR m).Nodup:=by
 unfold LR
 exact List.Pairwise.map _ (fun a b h=>by simpa using h) List.nodup_range
theorem FE{Ls:List Name}(hn:Ls.Nodup):Ls.map (cin Ls)=LR Ls.length:=by
 refine List.ext_getElem (by simp[LR]) fun i h1 h2=>?_
 simp only[List.getElem_map,LR,List.getElem_range,cin]
 rw[Dm hn (by simpa using h1)]
theorem xK{R:Name}{Ls:List Name}(hn:Ls.Nodup)(hR:R∉Ls):Ls.map (cin (R::Ls))=LI Ls.length:=by
 refine List.ext_getElem (by simp[LI]) fun i h1 h2=>?_
 simp only[List.getElem_map,LI,List.getElem_range,cin]
 have h3:i<Ls.length:=by simpa using h1
 have h4:=Dm (L:=R::Ls) (List.nodup_cons.2 ⟨hR,hn⟩) (i:=i+1) (by simp;omega)
 simp only[List.getElem_cons_succ]at h4
 rw[h4]
theorem aab(Ls:List Name)(t:Name):(LR Ls.length).map (cout Ls t)=Ls:=by
 refine List.ext_getElem (by simp[LR]) fun i h1 h2=>?_
 simp only[List.getElem_map,LR,List.getElem_range,cout]
 exact lf h2
theorem AF(R:Name)(Ls:List Name)(t:Name):(LI Ls.length).map (cout (R::Ls) t)=Ls:=by
 refine List.ext_getElem (by simp[LI]) fun i h1 h2=>?_
 simp only[List.getElem_map,LI,List.getElem_range,cout]
 rw[lf (by simpa using h2)]
 simp
def ck:List Name->List O->(Name->Option O)->(Name->Option O)
 |x::xs,o::os,obj=>ck xs os (upd obj x (some o))
 |_,_,obj=>obj
theorem uj:∀ {Ls:List Name} {F:List O} {obj:Name->Option O} {x:Name},x∉Ls->ck Ls F obj x=obj x
 |[],_,_,_,_=>by simp[ck]
 |_::_,[],_,_,_=>by simp[ck]
 |y::ys,o::os,obj,x,h=>by
  simp only[List.mem_cons,not_or]at h
  simp only[ck]
  rw[uj h.2,ba _ _ _ h.1]
theorem Hi:∀ {Ls:List Name} {F:List O} {obj:Name->Option O},Ls.Nodup->Ls.length=F.length->ct (ck Ls F obj) Ls F
 |[],[],_,_,_=>trivial
 |[],_::_,_,_,h=>by simp at h
 |_::_,[],_,_,h=>by simp at h
 |y::ys,o::os,obj,hn,h=>by
  rw[List.nodup_cons]at hn
  refine⟨?_,Hi (obj:=upd obj y (some o)) hn.2 (by simpa using h)⟩
  simp only[ck]
  rw[uj hn.1,aU]
def fk:Nat->List O->List (Nat×O)
 |_,[]=>[]
 |k,o::r=>(k,o)::fk (k+1) r
theorem yP{t:Name}{L:List Name}:∀ {Ls:List Name} {k:Nat} {F:List O} {obj:Name->Option O},Ls.length=F.length->(∀ i (h:i<Ls.length),L.getD (k+i) []=Ls[i])->
 cS L t (fk k F) obj=ck Ls (F.map (O.ren (cout L t))) obj
 |[],k,[],obj,_,_=>rfl
 |[],k,_::_,obj,h,_=>by simp at h
 |_::_,k,[],obj,h,_=>by simp at h
 |x::xs,k,o::os,obj,h,hL=>by
  simp only[fk,cS,List.map_cons,ck]
  have h0:=hL 0 (by simp)
  simp only[Nat.add_zero,List.getElem_cons_zero]at h0
  rw[h0]
  exact yP (by simpa using h) fun i hi=>by
   have :=hL (i+1) (by simpa using hi)
   rw[show k+1+i=k+(i+1)by omega]
   simpa using this
theorem C2:∀ {F:List O} {k i:Nat} {o:O},i<k->fv (fk k F) i o=o
 |[],k,i,o,_=>rfl
 |f::r,k,i,o,h=>by
  simp only[fk,fv]
  rw[if_neg (by omega)]
  exact C2 (by omega)
theorem Cv{σ:S}:∀ {F os:List O} {k:Nat} {u:List (Nat×O)},F.length=os.length->(∀ i,k<=i->∀ o,fv u i o=fv (fk k F) i o)->
 (∀ i (h:i<F.length),σ.obj [k+i,1]=some F[i])->r9 σ u k os
 |[],[],_,_,_,_,_=>trivial
 |[],_::_,_,_,h,_,_=>by simp at h
 |_::_,[],_,_,h,_,_=>by simp at h
 |f::fs,o::os,k,u,h,hu,hs=>by
  refine⟨?_,Cv (F:=fs) (by simpa using h) (fun i hi x=>?_) fun i hi=>?_⟩
  ·have h0:=hs 0 (by simp)
   simp only[Nat.add_zero,List.getElem_cons_zero]at h0
   rw[h0,hu k (Nat.le_refl _) o]
   simp only[fk,fv,if_true]
   rw[C2 (by omega)]
  ·rw[hu i (by omega) x]
   simp only[fk,fv]
   rw[if_neg (by omega)]
  ·have:=hs (i+1) (by simpa using hi)
   rw[show k+1+i=k+(i+1)by omega]
   simpa using this
structure Lp where
 m:Nat
 env:List Name->List E
 fam:List Name->Nat->List O
 ps:List Nat
 asg:Code
 body:Code
 n:Nat
 vals:Nat->List D
 st:Nat->Option Code
 fu:Nat
structure Lp.Ok (r:Lp):Prop where
 len:∀ Ls s,Ls.length=r.m->(r.fam Ls s).length=r.m
 renE:∀ f Ls,Ls.length=r.m->(r.env Ls).map (E.ren f)=r.env (Ls.map f)
 renF:∀ f Ls s,Ls.length=r.m->(r.fam Ls s).map (O.ren f)=r.fam (Ls.map f) s
 reach:∀ Ls s obj acc k,Ls.length=r.m->Ls.Nodup->(∀ x∈Ls,x∉acc)->ct obj Ls (r.fam Ls s)->c6 obj (k+r.fu) (cA ((r.env Ls).map (·.d))) acc=acc++Ls
 closE:∀ dom Ls,Ls.length=r.m->(∀ x∈Ls,dom x=true)->D.closL dom ((r.env Ls).map (·.d))=true
 closF:∀ dom Ls s,Ls.length=r.m->(∀ x∈Ls,dom x=true)->∀ o∈r.fam Ls s,O.clos dom o=true
 psz:∀ Ls,Ls.length=r.m->(r.ps.all fun p=>decide (p<(r.env Ls).length))=true
 args:∀ s,(r.vals s).length=r.ps.length
 fuel:r.fu<=2000
 vnam:∀ s,cA (r.vals s)=[]
 vcl:∀ s dom,D.closL dom (r.vals s)=true
 vren:∀ s f,D.renL f (r.vals s)=r.vals s
 inj:∀ s s',s<r.n->s'<r.n->r.vals s=r.vals s'->s=s'
theorem TG(a:List D):∀ vs:List V,cA (a++vs.map D.v)=cA a:=by
 intro vs
 have h0:∀ vs:List V,cA (vs.map D.v)=[]:=by
  intro vs
  induction vs with
  |nil=>rfl
  |cons x r ih=>simp only[List.map_cons,cA,jL,List.nil_append,ih]
 induction a with
 |nil=>simpa[cA]using h0 vs
 |cons x r ih=>simp only[List.cons_append,cA,ih]
theorem aaf(dom:Name->Bool)(vs:List V):∀ a:List D,D.closL dom (a++vs.map D.v)=D.closL dom a:=by
 have h0:∀ vs:List V,D.closL dom (vs.map D.v)=true:=by
  intro vs
  induction vs with
  |nil=>rfl
  |cons x r ih=>simp only[List.map_cons,D.closL,D.clos,ih,Bool.and_self]
 intro a
 induction a with
 |nil=>simpa[D.closL]using h0 vs
 |cons x r ih=>simp only[List.cons_append,D.closL,ih]
theorem SK(f:Name->Name)(vs:List V):D.renL f (vs.map D.v)=vs.map D.v:=by
 induction vs with
 |nil=>rfl
 |cons x r ih=>simp only[List.map_cons,D.renL,D.ren,ih]
theorem TH(a b:List D):cA (a++b)=cA a++cA b:=by
 induction a with
 |nil=>rfl
 |cons x r ih=>simp only[List.cons_append,cA,ih,List.append_assoc]
theorem aag(dom:Name->Bool)(a b:List D):D.closL dom (a++b)=(D.closL dom a&&D.closL dom b):=by
 induction a with
 |nil=>simp[D.closL]
 |cons x r ih=>simp only[List.cons_append,D.closL,ih,Bool.and_assoc]
noncomputable def Lp.y(r:Lp):YSpec where
 pre:=fun env ps asg body os ds=>∃ s,s<r.n/\(∀ j,j<s->r.st j=none)/\env=r.env (LR r.m)/\ps=r.ps/\asg=r.asg/\body=r.body/\os=r.fam (LR r.m) s/\ds=r.vals s
 out:=fun _ _ _ _ _ ds=>by
  classical exact if h:∃ s,s<r.n/\ds=r.vals s then(⟨fk 0 (r.fam (LR r.m) (h.choose+1)),[],.v (.bool true)⟩,r.st h.choose)else(⟨[],[],.any⟩,none)
theorem Lp.y_out{r:Lp}(hr:r.Ok){s:Nat}(hs:s<r.n)(env:List E)(ps:List Nat)(asg body:Code)(os:List O):
 r.y.out env ps asg body os (r.vals s)=(⟨fk 0 (r.fam (LR r.m) (s+1)),[],.v (.bool true)⟩,r.st s):=by
 have h:∃ s',s'<r.n/\r.vals s=r.vals s':=⟨s,hs,rfl⟩
 have e:h.choose=s:=(hr.inj _ _ hs h.choose_spec.1 h.choose_spec.2).symm
 simp only[Lp.y]
 rw[dif_pos h,e]
def SD(m:Nat)(F:List O)(p:Option Code):Exit->S->Prop
 | .normal,σ=>p=none/\ct σ.obj (LR m) F
 | .ret,σ=>p=some .ret/\ct σ.obj (LR m) F
 | .exit id,σ=>p=some (.exit id)/\ct σ.obj (LR m) F
 |_,_=>False
theorem ZH{os F:List O}{σ:S}{m:Nat}(h1:os.length=m)(h2:F.length=m)(hc:∀ dom:Name->Bool,(∀ x∈LR m,dom x=true)->∀ o∈F,O.clos dom o=true)(h:ct σ.obj (LR m) F):
 gq os ⟨fk 0 F,[],.v (.bool true)⟩ σ:=by
 have sM:∀ i (hi:i<F.length),σ.obj [i,1]=some F[i]:=by
  rw[lG]at h
  intro i hi
  have h3:=congrArg (fun l=>l[i]?) h
  have bU:i<m:=by omega
  simpa[LR,hi,bU]using h3
 refine⟨Cv (F:=F) (by omega) (fun i _ o=>rfl) fun i hi=>by rw[Nat.zero_add];exact sM i hi,trivial,?_⟩
 have qZ:∀ x∈LR m,dL os.length [] x=true:=by
  intro x hx
  obtain⟨i,hi,rfl⟩:=List.mem_map.1 hx
  have :=List.mem_range.1 hi
  simp[dL]
  omega
 have eO:∀ (F':List O) (k:Nat),(∀ o∈F',O.clos (dL os.length []) o=true)->k+F'.length<=os.length->((fk k F').all fun x=>O.clos (dL os.length []) x.2&&decide (x.1<os.length))=true:=by
  intro F'
  induction F' with
  |nil=>intros;rfl
  |cons f fs ih=>
   intro k hf hk
   simp only[List.length_cons]at hk
   simp only[fk,List.all_cons,Bool.and_eq_true,decide_eq_true_eq]
   exact⟨⟨hf f (by simp),by omega⟩,by have:=ih (k+1) (fun o ho=>hf o (by simp[ho])) (by omega);simpa using this⟩
 have :=eO F 0 (hc _ qZ) (by omega)
 simp only[D.clos,this,List.all_nil,List.map_nil,distinct,Bool.and_self]
theorem Lp.y_sound{P:Program}{r:Lp}(hr:r.Ok)(h:∀ s,s<r.n->(∀ j,j<s->r.st j=none)->
 CW P r.asg ⟨(r.env (LR r.m)).length,qu (s5 (r.env (LR r.m))) r.ps (r.vals s),aS (r.fam (LR r.m) s),[0],0⟩ (IF fun σ1=>CW P r.body σ1 (SD r.m (r.fam (LR r.m) (s+1)) (r.st s)))):aM P yid r.y.toSpec:=by
 refine GC ?_
 rintro env ps asg body os ds ⟨s,hs,hj,rfl,rfl,rfl,rfl,rfl,rfl⟩ _
 rw[Lp.y_out hr hs]
 refine CW.mono (h s hs hj) fun e σ hk=>?_
 cases e with
 |normal=>
  refine CW.mono hk fun e σ hk=>?_
  have fin:ct σ.obj (LR r.m) (r.fam (LR r.m) (s+1))->gq (r.fam (LR r.m) s) ⟨fk 0 (r.fam (LR r.m) (s+1)),[],.v (.bool true)⟩ σ:=
   ZH (hr.len _ _ (vI _)) (hr.len _ _ (vI _)) fun dom hd=>hr.closF dom _ _ (vI _) hd
  cases e with
  |normal=>exact⟨hk.1,fin hk.2⟩
  |ret=>exact⟨hk.1,fin hk.2⟩
  |exit id=>exact⟨hk.1,fin hk.2⟩
  |goto l=>exact hk.elim
  |panic c=>exact hk.elim
  |outgrown=>exact hk.elim
 |ret=>exact hk.elim
 |exit id=>exact hk.elim
 |goto l=>exact hk.elim
 |panic c=>exact hk.elim
 |outgrown=>exact hk.elim
def Lp.rc(r:Lp)(Ls:List Name)(st:LoopState)(pd:Option Code):O:=.loop (r.env Ls) r.ps r.asg r.body st pd
theorem Lp.y_app{r:Lp}(hr:r.Ok){s:Nat}(hs:s<r.n)(hj:∀ j,j<s->r.st j=none){obj:Name->Option O}{t R:Name}{Ls:List Name}(hl:Ls.length=r.m)(hn:Ls.Nodup)(hR:R∉Ls)
 (h0:obj R=some (r.rc Ls .ready none)) (hF:ct obj Ls (r.fam Ls s)):
 r.y.toSpec.app obj t (.yld R::r.vals s)=⟨True,.v (.bool (r.st s).isNone),upd (ck Ls (r.fam Ls (s+1)) obj) R (some (r.rc Ls (if (r.st s).isNone then .ready else .done) (r.st s)))⟩:=by
 have ko:reach obj (roots (r.env Ls) (r.vals s))=Ls:=by
  unfold reach roots
  rw[TH,hr.vnam,List.append_nil]
  have :=hr.reach Ls s obj [] (3000-r.fu) hl hn (fun _ _=>by simp) hF
  rwa [show 3000-r.fu+r.fu=3000 by have:=hr.fuel;omega]at this
 have e1:cJ obj (roots (r.env Ls) (r.vals s))=r.fam (LR r.m) s:=by
  unfold cJ
  rw[ko]
  have :Ls.map (cP Ls obj)=(r.fam Ls s).map (O.ren (cin Ls)):=by
   rw[lG]at hF
   refine List.ext_getElem (by simp[hr.len _ _ hl,hl]) fun i h1 h2=>?_
   have h3:i<Ls.length:=by simpa using h1
   have h4:i<(r.fam Ls s).length:=by rw[hr.len _ _ hl,<-hl];exact h3
   have h5:=congrArg (fun l=>l[i]?) hF
   have h6:obj Ls[i]=some (r.fam Ls s)[i]:=by simpa[h3,h4]using h5
   simp only[List.getElem_map,cP,h6]
  rw[this,hr.renF _ _ _ hl,FE hn,hl]
 have e2:jd obj (r.env Ls) (r.vals s)=r.env (LR r.m):=by
  unfold jd
  rw[ko,hr.renE _ _ hl,FE hn,hl]
 have e3:j5 obj (r.env Ls) (r.vals s)=r.vals s:=by
  unfold j5
  exact hr.vren s _
 have e4:r.y.o obj (r.env Ls) r.ps r.asg r.body (r.vals s)=(⟨fk 0 (r.fam (LR r.m) (s+1)),[],.v (.bool true)⟩,r.st s):=by
  unfold YSpec.o
  rw[e1,e2,e3,Lp.y_out hr hs]
 have dJ:r.y.pre (r.env (LR r.m)) r.ps r.asg r.body (r.fam (LR r.m) s) (r.vals s):=⟨s,hs,hj,rfl,rfl,rfl,rfl,rfl,rfl⟩
 have cT:D.closL (cv Ls) (roots (r.env Ls) (r.vals s))=true:=by
  unfold roots
  rw[aag,hr.vcl,Bool.and_true]
  exact hr.closE _ _ hl fun x hx=>gD.2 hx
 have ie:shut obj Ls=true:=by
  unfold shut
  rw[List.all_eq_true]
  intro x hx
  obtain⟨i,hi,rfl⟩:=List.getElem_of_mem hx
  rw[lG]at hF
  have h4:i<(r.fam Ls s).length:=by rw[hr.len _ _ hl,<-hl];exact hi
  have h5:=congrArg (fun l=>l[i]?) hF
  have h6:obj Ls[i]=some (r.fam Ls s)[i]:=by simpa[hi,h4]using h5
  rw[h6]
  exact hr.closF _ _ _ hl (fun x hx=>gD.2 hx) _ (List.getElem_mem h4)
 have XZ:cv Ls R=false:=by
  cases h:cv Ls R with
  |false=>rfl
  |true=>exact(hR (gD.1 h)).elim
 have hp:cS Ls t (fk 0 (r.fam (LR r.m) (s+1))) obj=ck Ls (r.fam Ls (s+1)) obj:=by
  rw[yP (Ls:=Ls) (by rw[hr.len _ _ (vI _),hl]) fun i hi=>by rw[Nat.zero_add];exact lf hi,hr.renF _ _ _ (vI _)]
  have :(LR r.m).map (cout Ls t)=Ls:=by rw[<-hl];exact aab Ls t
  rw[this]
 unfold Lp.rc at h0
 simp only[YSpec.toSpec,h0,e1,e2,e3,e4,ko,cT,ie,XZ,fresh,List.all_nil,Bool.and_self,Bool.not_false,hr.args,decide_true,hr.psz Ls hl,dJ,dE,hp,and_self]
 rfl
def Lp.e(r:Lp):Nat:=match (List.range r.n).find? (fun s=>(r.st s).isSome)with | some s=>s+1 | none=>r.n
def Lp.pd(r:Lp):Option Code:=match (List.range r.n).find? (fun s=>(r.st s).isSome)with | some s=>r.st s | none=>none
def Lp.fin(r:Lp)(Ls:List Name):O:=r.rc Ls (if r.pd.isNone then .ready else .done) r.pd
def Lp.it(r:Lp)(caps:List V):CSpec where
 pre:=fun os ds=>os=r.rc (LI r.m) .ready none::r.fam (LI r.m) 0/\ds=.yld [0,1]::caps.map .v
 out:=fun _ _=>⟨(0,r.fin (LI r.m))::fk 1 (r.fam (LI r.m) r.e),[],.tup []⟩
theorem Lp.it_app{r:Lp}(hr:r.Ok){caps:List V}{obj:Name->Option O}{t R:Name}{Ls:List Name}(hl:Ls.length=r.m)(hn:Ls.Nodup)(hR:R∉Ls)
 (h0:obj R=some (r.rc Ls .ready none)) (hF:ct obj Ls (r.fam Ls 0)):
 (r.it caps).toSpec.app obj t (.yld R::caps.map .v)=⟨True,.tup [],ck Ls (r.fam Ls r.e) (upd obj R (some (r.fin Ls)))⟩:=by
 have mq:(R::Ls).Nodup:=List.nodup_cons.2 ⟨hR,hn⟩
 have ko:reach obj (.yld R::caps.map .v)=R::Ls:=by
  have h1:cA (.yld R::caps.map .v)=[R]:=by
   have :=TG [.yld R] caps
   simpa[cA,jL]using this
  unfold reach
  rw[h1]
  show c6 obj (2999+1) [R] []=R::Ls
  unfold Lp.rc at h0
  simp only[c6,cv,List.any_nil,Bool.false_eq_true,if_false,h0,jK,List.append_nil,List.nil_append]
  have :=hr.reach Ls 0 obj [R] (2999-r.fu) hl hn (fun x hx=>by simp only[List.mem_singleton];rintro rfl;exact hR hx) hF
  rw[show 2999-r.fu+r.fu=2999 by have:=hr.fuel;omega]at this
  simpa using this
 have EF:∀ s,ct obj Ls (r.fam Ls s)->Ls.map (cP (R::Ls) obj)=(r.fam Ls s).map (O.ren (cin (R::Ls))):=by
  intro s hF
  rw[lG]at hF
  refine List.ext_getElem (by simp[hr.len _ _ hl,hl]) fun i h1 h2=>?_
  have h3:i<Ls.length:=by simpa using h1
  have h4:i<(r.fam Ls s).length:=by rw[hr.len _ _ hl,<-hl];exact h3
  have h5:=congrArg (fun l=>l[i]?) hF
  have h6:obj Ls[i]=some (r.fam Ls s)[i]:=by simpa[h3,h4]using h5
  simp only[List.getElem_map,cP,h6]
 have e1:cJ obj (.yld R::caps.map .v)=r.rc (LI r.m) .ready none::r.fam (LI r.m) 0:=by
  unfold cJ
  rw[ko,List.map_cons,EF 0 hF,hr.renF _ _ _ hl,xK hn hR,hl]
  congr 1
  unfold Lp.rc at h0 |-
  simp only[cP,h0,O.ren]
  rw[hr.renE _ _ hl,xK hn hR,hl]
 have e2:cY obj (.yld R::caps.map .v)=.yld [0,1]::caps.map .v:=by
  unfold cY
  rw[ko]
  simp only[D.renL,D.ren,SK,cin,idx,if_true]
 have dJ:(r.it caps).pre (r.rc (LI r.m) .ready none::r.fam (LI r.m) 0) (.yld [0,1]::caps.map .v):=⟨rfl,rfl⟩
 have fw:∀ os ds,(r.it caps).out os ds=⟨(0,r.fin (LI r.m))::fk 1 (r.fam (LI r.m) r.e),[],.tup []⟩:=fun _ _=>rfl
 have vd:∀ x∈Ls,cv (R::Ls) x=true:=fun x hx=>gD.2 (List.mem_cons_of_mem _ hx)
 have ie:shut obj (R::Ls)=true:=by
  unfold shut
  rw[List.all_eq_true]
  intro x hx
  rcases List.mem_cons.1 hx with rfl | hx
  ·rw[h0]
   unfold Lp.rc
   exact hr.closE _ _ hl vd
  obtain⟨i,hi,rfl⟩:=List.getElem_of_mem hx
  rw[lG]at hF
  have h4:i<(r.fam Ls 0).length:=by rw[hr.len _ _ hl,<-hl];exact hi
  have h5:=congrArg (fun l=>l[i]?) hF
  have h6:obj Ls[i]=some (r.fam Ls 0)[i]:=by simpa[hi,h4]using h5
  rw[h6]
  exact hr.closF _ _ _ hl vd _ (List.getElem_mem h4)
 have cT:D.closL (cv (R::Ls)) (.yld R::caps.map .v)=true:=by
  have :=aaf (cv (R::Ls)) caps [.yld R]
  simp only[List.singleton_append]at this
  rw[this]
  simp[D.closL,D.clos,cv]
 have hp:∀ obj',cS (R::Ls) t (fk 1 (r.fam (LI r.m) r.e)) obj'=ck Ls (r.fam Ls r.e) obj':=by
  intro obj'
  rw[yP (Ls:=Ls) (by rw[hr.len _ _ (gv _),hl]) fun i hi=>by
   rw[Nat.add_comm,List.getD_cons_succ];exact lf hi,hr.renF _ _ _ (gv _)]
  have :(LI r.m).map (cout (R::Ls) t)=Ls:=by rw[<-hl];exact AF R Ls t
  rw[this]
 have hf:O.ren (cout (R::Ls) t) (r.fin (LI r.m))=r.fin Ls:=by
  unfold Lp.fin Lp.rc
  simp only[O.ren]
  rw[hr.renE _ _ (gv _)]
  have :(LI r.m).map (cout (R::Ls) t)=Ls:=by rw[<-hl];exact AF R Ls t
  rw[this]
 simp only[CSpec.toSpec,e1,e2,ko,fw,ie,cT,fresh,List.all_nil,Bool.and_self,dJ,and_self,dE,cS,List.getD_cons_zero,hf,hp,D.ren,D.renL]
theorem Lp.it_end{P:Program}{r:Lp}(hr:r.Ok){σ:S}(h0:σ.obj [0,1]=some (r.fin (LI r.m)))(h1:ct σ.obj (LI r.m) (r.fam (LI r.m) r.e)):
 (b9 P σ []).ok/\(b9 P σ []).d=.tup []/\gq (r.rc (LI r.m) .ready none::r.fam (LI r.m) 0) ⟨(0,r.fin (LI r.m))::fk 1 (r.fam (LI r.m) r.e),[],.tup []⟩ σ:=by
 have Ei:=hr.len (LI r.m) 0 (gv _)
 have hle:=hr.len (LI r.m) r.e (gv _)
 have sM:∀ i (hi:i<(r.fam (LI r.m) r.e).length),σ.obj [1+i,1]=some (r.fam (LI r.m) r.e)[i]:=by
  intro i hi
  have h3:=Cx h1 i (by rw[gv];omega) hi
  rw[Nat.add_comm]
  simpa only[LI,List.getElem_map,List.getElem_range]using h3
 have qZ:∀ x∈LI r.m,dL (r.m+1) [] x=true:=by
  intro x hx
  obtain⟨i,hi,rfl⟩:=List.mem_map.1 hx
  have :=List.mem_range.1 hi
  simp[dL]
  omega
 refine⟨fun x hx=>by simp at hx,rfl,⟨⟨?_,Cv (F:=r.fam (LI r.m) r.e) (by omega) (fun i hi o=>by simp only[fv];rw[if_neg (by omega)]) sM⟩,trivial,?_⟩⟩
 ·simp only[fv,if_true]
  rw[h0,C2 (by omega)]
 have eO:∀ (F':List O) (k:Nat),(∀ o∈F',O.clos (dL (r.m+1) []) o=true)->k+F'.length<=r.m+1->((fk k F').all fun x=>O.clos (dL (r.m+1) []) x.2&&decide (x.1<r.m+1))=true:=by
  intro F'
  induction F' with
  |nil=>intros;rfl
  |cons f fs ih=>
   intro k hf hk
   simp only[List.length_cons]at hk
   simp only[fk,List.all_cons,Bool.and_eq_true,decide_eq_true_eq]
   exact⟨⟨hf f (by simp),by omega⟩,by have:=ih (k+1) (fun o ho=>hf o (by simp[ho])) (by omega);simpa using this⟩
 have h5:=eO (r.fam (LI r.m) r.e) 1 (hr.closF _ _ _ (gv _) qZ) (by omega)
 have h6:O.clos (dL (r.m+1) []) (r.fin (LI r.m))=true:=hr.closE _ _ (gv _) qZ
 have hlen:(r.rc (LI r.m) .ready none::r.fam (LI r.m) 0).length=r.m+1:=by rw[List.length_cons,Ei]
 have h7:D.clos (dL (r.m+1) []) (.tup [])=true:=rfl
 simp only[hlen,h7,List.all_cons,h6,h5,List.all_nil,List.map_nil,distinct,Bool.and_self,Bool.true_and,Bool.and_true]
 simp
theorem aav{P:Program}{Γ:FuncId->Option Spec}(hΓ:∀ f s,Γ f=some s->aM P f s){r:Lp}(hr:r.Ok){caps:List V}{g:Operand}{ps:Array Tmp}{asg body:Code}{σ:S}{rest:List Code}{K:Exit->S->Prop}(k k':Nat){f:FuncId}{Ls:List Name}
 (hc:c7 σ g=true) (hg:av σ g=.v (.clo (.func f) [] caps)) (aG:f≠yid) (hs:Γ f=some (r.it caps).toSpec) (nC:σ.obj (k::σ.pre)=none)
 (he:(List.range σ.nt).map σ.env=r.env Ls) (fO:ps.toList=r.ps) (ha:asg=r.asg) (hb:body=r.body) (hl:Ls.length=r.m) (hn:Ls.Nodup) (hR:(k::σ.pre)∉Ls) (hF:ct σ.obj Ls (r.fam Ls 0))
 (hK:∀ o:O,oy (gx (fun σ'=>CL P rest σ' K) K) { σ with obj:=upd (ck Ls (r.fam Ls r.e) σ.obj) (k::σ.pre) (some o) } r.pd):CL P (.rangeFunc g ps asg body::rest) σ K:=by
 subst ha
 subst hb
 generalize pU:k::σ.pre=R at *
 have EI:∀ x∈Ls,(upd σ.obj R (some (r.rc Ls .ready none))) x=σ.obj x:=fun x hx=>ba _ _ _ (by rintro rfl;exact hR hx)
 have sR:=Lp.it_app hr (caps:=caps) (t:=k'::σ.pre) hl hn hR (aU σ.obj R (some (r.rc Ls .ready none))) (yY hF EI)
 have wX:O.loop ((List.range σ.nt).map σ.env) ps.toList r.asg r.body .ready none=r.rc Ls .ready none:=by unfold Lp.rc;rw[he,fO]
 have mD:ff (av σ g) [.yld R]=.yld R::caps.map .v:=by rw[hg];rfl
 have fy:gg (av σ g)=some f:=by rw[hg];simp[gg,aG]
 have Dy:∀ (F:List O) (obj:Name->Option O) (a b:Option O),upd (ck Ls F (upd obj R a)) R b=upd (ck Ls F obj) R b:=by
  intro F obj a b
  funext x
  by_cases h:x=R
  ·subst h;rw[aU,aU]
  ·rw[ba _ _ _ h,ba _ _ _ h]
   have :∀ (Ls:List Name) (F:List O) (o1 o2:Name->Option O),o1 x=o2 x->ck Ls F o1 x=ck Ls F o2 x:=by
    intro Ls
    induction Ls with
    |nil=>intro F o1 o2 h;simpa[ck]using h
    |cons y ys ih=>
     intro F o1 o2 h
     cases F with
     |nil=>simpa[ck]using h
     |cons f fs=>
      simp only[ck]
      refine ih fs _ _ ?_
      by_cases e:x=y
      ·subst e;rw[aU,aU]
      ·rw[ba _ _ _ e,ba _ _ _ e,h]
   exact this Ls F _ _ (ba _ _ _ h)
 refine NY hΓ k k' hc fy aG hs (by rw[pU];exact nC) ?_ ?_
 ·rw[pU,mD,wX,sR];trivial
 ·rw[pU,mD,wX,sR]
  have kX:ck Ls (r.fam Ls r.e) (upd (upd σ.obj R (some (r.rc Ls .ready none))) R (some (r.fin Ls))) R=some (r.fin Ls):=by rw[uj hR,aU]
  have pH:lz (ck Ls (r.fam Ls r.e) (upd (upd σ.obj R (some (r.rc Ls .ready none))) R (some (r.fin Ls)))) R=
      upd (ck Ls (r.fam Ls r.e) σ.obj) R (some (r.rc Ls .exhausted r.pd)):=by
   unfold lz
   rw[kX]
   unfold Lp.fin Lp.rc
   simp only[Dy]
  refine Jx r.pd kX ?_
  rw[pH]
  exact hK (r.rc Ls .exhausted r.pd)
structure Bs (r:Lp) (caps:List Name->List D):Prop where
 ren:∀ f Ls,Ls.length=r.m->D.renL f (caps Ls)=caps (Ls.map f)
 clo:∀ dom Ls,Ls.length=r.m->(∀ x∈Ls,dom x=true)->D.closL dom (caps Ls)=true
 reach:∀ Ls s obj R k,Ls.length=r.m->(R::Ls).Nodup->ct obj Ls (r.fam Ls s)->obj R=some (r.rc Ls .ready none)->c6 obj (k+r.fu+1) (R::cA (caps Ls)) []=R::Ls
def Lp.itC(r:Lp)(caps:List Name->List D):CSpec where
 pre:=fun os ds=>os=r.rc (LI r.m) .ready none::r.fam (LI r.m) 0/\ds=.yld [0,1]::caps (LI r.m)
 out:=fun _ _=>⟨(0,r.fin (LI r.m))::fk 1 (r.fam (LI r.m) r.e),[],.tup []⟩
theorem Lp.itC_app{r:Lp}(hr:r.Ok){caps:List Name->List D}(xm:Bs r caps){obj:Name->Option O}{t R:Name}{Ls:List Name}(hl:Ls.length=r.m)(hn:Ls.Nodup)(hR:R∉Ls)
 (h0:obj R=some (r.rc Ls .ready none)) (hF:ct obj Ls (r.fam Ls 0)):
 (r.itC caps).toSpec.app obj t (.yld R::caps Ls)=⟨True,.tup [],ck Ls (r.fam Ls r.e) (upd obj R (some (r.fin Ls)))⟩:=by
 have mq:(R::Ls).Nodup:=List.nodup_cons.2 ⟨hR,hn⟩
 have ko:reach obj (.yld R::caps Ls)=R::Ls:=by
  unfold reach
  have :=xm.reach Ls 0 obj R (2999-r.fu) hl mq hF h0
  rw[show 2999-r.fu+r.fu+1=3000 by have:=hr.fuel;omega]at this
  exact this
 have EF:∀ s,ct obj Ls (r.fam Ls s)->Ls.map (cP (R::Ls) obj)=(r.fam Ls s).map (O.ren (cin (R::Ls))):=by
  intro s hF
  rw[lG]at hF
  refine List.ext_getElem (by simp[hr.len _ _ hl,hl]) fun i h1 h2=>?_
  have h3:i<Ls.length:=by simpa using h1
  have h4:i<(r.fam Ls s).length:=by rw[hr.len _ _ hl,<-hl];exact h3
  have h5:=congrArg (fun l=>l[i]?) hF
  have h6:obj Ls[i]=some (r.fam Ls s)[i]:=by simpa[h3,h4]using h5
  simp only[List.getElem_map,cP,h6]
 have e1:cJ obj (.yld R::caps Ls)=r.rc (LI r.m) .ready none::r.fam (LI r.m) 0:=by
  unfold cJ
  rw[ko,List.map_cons,EF 0 hF,hr.renF _ _ _ hl,xK hn hR,hl]
  congr 1
  unfold Lp.rc at h0 |-
  simp only[cP,h0,O.ren]
  rw[hr.renE _ _ hl,xK hn hR,hl]
 have e2:cY obj (.yld R::caps Ls)=.yld [0,1]::caps (LI r.m):=by
  unfold cY
  rw[ko]
  simp only[D.renL,D.ren,xm.ren _ _ hl]
  rw[xK hn hR,hl]
  simp only[cin,idx,if_true]
 have dJ:(r.itC caps).pre (r.rc (LI r.m) .ready none::r.fam (LI r.m) 0) (.yld [0,1]::caps (LI r.m)):=⟨rfl,rfl⟩
 have fw:∀ os ds,(r.itC caps).out os ds=⟨(0,r.fin (LI r.m))::fk 1 (r.fam (LI r.m) r.e),[],.tup []⟩:=fun _ _=>rfl
 have vd:∀ x∈Ls,cv (R::Ls) x=true:=fun x hx=>gD.2 (List.mem_cons_of_mem _ hx)
 have ie:shut obj (R::Ls)=true:=by
  unfold shut
  rw[List.all_eq_true]
  intro x hx
  rcases List.mem_cons.1 hx with rfl | hx
  ·rw[h0]
   unfold Lp.rc
   exact hr.closE _ _ hl vd
  obtain⟨i,hi,rfl⟩:=List.getElem_of_mem hx
  rw[lG]at hF
  have h4:i<(r.fam Ls 0).length:=by rw[hr.len _ _ hl,<-hl];exact hi
  have h5:=congrArg (fun l=>l[i]?) hF
  have h6:obj Ls[i]=some (r.fam Ls 0)[i]:=by simpa[hi,h4]using h5
  rw[h6]
  exact hr.closF _ _ _ hl vd _ (List.getElem_mem h4)
 have cT:D.closL (cv (R::Ls)) (.yld R::caps Ls)=true:=by
  show (cv (R::Ls) R&&D.closL _ _)=true
  rw[xm.clo _ _ hl vd]
  simp[cv]
 have hp:∀ obj',cS (R::Ls) t (fk 1 (r.fam (LI r.m) r.e)) obj'=ck Ls (r.fam Ls r.e) obj':=by
  intro obj'
  rw[yP (Ls:=Ls) (by rw[hr.len _ _ (gv _),hl]) fun i hi=>by
   rw[Nat.add_comm,List.getD_cons_succ];exact lf hi,hr.renF _ _ _ (gv _)]
  have :(LI r.m).map (cout (R::Ls) t)=Ls:=by rw[<-hl];exact AF R Ls t
  rw[this]
 have hf:O.ren (cout (R::Ls) t) (r.fin (LI r.m))=r.fin Ls:=by
  unfold Lp.fin Lp.rc
  simp only[O.ren]
  rw[hr.renE _ _ (gv _)]
  have :(LI r.m).map (cout (R::Ls) t)=Ls:=by rw[<-hl];exact AF R Ls t
  rw[this]
 simp only[CSpec.toSpec,e1,e2,ko,fw,ie,cT,fresh,List.all_nil,Bool.and_self,dJ,and_self,dE,cS,List.getD_cons_zero,hf,hp,D.ren,D.renL]
theorem NZ{P:Program}{r:Lp}(hr:r.Ok){caps:List Name->List D}(xm:Bs r caps){g:Operand}{ps:Array Tmp}{asg body:Code}{σ:S}{rest:List Code}{K:Exit->S->Prop}(k k':Nat){f:FuncId}{Ls:List Name}
 (hc:c7 σ g=true) (hg:av σ g=.clo (.func f) [] (caps Ls)) (aG:f≠yid) (hs:aM P f (r.itC caps).toSpec) (nC:σ.obj (k::σ.pre)=none)
 (he:(List.range σ.nt).map σ.env=r.env Ls) (fO:ps.toList=r.ps) (ha:asg=r.asg) (hb:body=r.body) (hl:Ls.length=r.m) (hn:Ls.Nodup) (hR:(k::σ.pre)∉Ls) (hF:ct σ.obj Ls (r.fam Ls 0))
 (hK:∀ o:O,oy (gx (fun σ'=>CL P rest σ' K) K) { σ with obj:=upd (ck Ls (r.fam Ls r.e) σ.obj) (k::σ.pre) (some o) } r.pd):CL P (.rangeFunc g ps asg body::rest) σ K:=by
 subst ha
 subst hb
 generalize pU:k::σ.pre=R at *
 have EI:∀ x∈Ls,(upd σ.obj R (some (r.rc Ls .ready none))) x=σ.obj x:=fun x hx=>ba _ _ _ (by rintro rfl;exact hR hx)
 have sR:=Lp.itC_app hr xm (t:=k'::σ.pre) hl hn hR (aU σ.obj R (some (r.rc Ls .ready none))) (yY hF EI)
 have wX:O.loop ((List.range σ.nt).map σ.env) ps.toList r.asg r.body .ready none=r.rc Ls .ready none:=by unfold Lp.rc;rw[he,fO]
 have mD:ff (av σ g) [.yld R]=.yld R::caps Ls:=by rw[hg];rfl
 have fy:gg (av σ g)=some f:=by rw[hg];simp[gg,aG]
 have Dy:∀ (F:List O) (obj:Name->Option O) (a b:Option O),upd (ck Ls F (upd obj R a)) R b=upd (ck Ls F obj) R b:=by
  intro F obj a b
  funext x
  by_cases h:x=R
  ·subst h;rw[aU,aU]
  ·rw[ba _ _ _ h,ba _ _ _ h]
   have :∀ (Ls:List Name) (F:List O) (o1 o2:Name->Option O),o1 x=o2 x->ck Ls F o1 x=ck Ls F o2 x:=by
    intro Ls
    induction Ls with
    |nil=>intro F o1 o2 h;simpa[ck]using h
    |cons y ys ih=>
     intro F o1 o2 h
     cases F with
     |nil=>simpa[ck]using h
     |cons f fs=>
      simp only[ck]
      refine ih fs _ _ ?_
      by_cases e:x=y
      ·subst e;rw[aU,aU]
      ·rw[ba _ _ _ e,ba _ _ _ e,h]
   exact this Ls F _ _ (ba _ _ _ h)
 refine NY (Γ:=fun x=>if x=f then some (r.itC caps).toSpec else none) (fun x s hx=>by
  split at hx
  ·rename_i e;cases hx;subst e;exact hs
  ·cases hx) k k' hc fy aG (if_pos rfl) (by rw[pU];exact nC) ?_ ?_
 ·rw[pU,mD,wX,sR];trivial
 ·rw[pU,mD,wX,sR]
  have kX:ck Ls (r.fam Ls r.e) (upd (upd σ.obj R (some (r.rc Ls .ready none))) R (some (r.fin Ls))) R=some (r.fin Ls):=by rw[uj hR,aU]
  have pH:lz (ck Ls (r.fam Ls r.e) (upd (upd σ.obj R (some (r.rc Ls .ready none))) R (some (r.fin Ls)))) R=
      upd (ck Ls (r.fam Ls r.e) σ.obj) R (some (r.rc Ls .exhausted r.pd)):=by
   unfold lz
   rw[kX]
   unfold Lp.fin Lp.rc
   simp only[Dy]
  refine Jx r.pd kX ?_
  rw[pH]
  exact hK (r.rc Ls .exhausted r.pd)
theorem PM{σ:S}(b nm:Name)(i k sz:Nat)(cs:List D)(L:List V)(hb:σ.obj b=some (.box cs))(hi:cs[i]?=some (.msl nm k))(hn:σ.obj nm=some (.arr sz L))(hk:k=L.length):
 iE σ ⟨σ.nt,σ.env,upd (upd σ.obj nm (some (.farr sz L))) b (some (.box (cs.set i (.v (.sl L))))),σ.pre,σ.base⟩:=by
 intro G φ m a w hC
 have aG:b≠nm:=fun e=>by subst e;rw[hb]at hn;cases hn
 obtain⟨h1,h2,h3,us,T,f,h4,h5,h6,h7⟩:=hC.objs b _ hb
 obtain⟨xd,Er⟩:=List.getElem?_eq_some_iff.1 hi
 have h0:i<us.size:=by omega
 have h8:=h7 i xd h0
 rw[Er]at h8
 have dj:aR 6 σ.obj (.msl nm k)=⟨k=L.length,.sl L,upd σ.obj nm (some (.farr sz L))⟩:=by simp only[aR,hn]
 obtain⟨m2,k1,k2,k3,k4,_⟩:=pZ 6 _ _ _ _ _ _ hC _ _ h8 (by rw[dj];exact hk)
 rw[dj]at k2 k3 k4
 simp only at k2 k3 k4
 have cr:(upd σ.obj nm (some (.farr sz L))) b=some (.box cs):=by rw[ba _ _ _ aG];exact hb
 have uU:=Ext.same (φ:=φ) (o':=.box (cs.set i (.v (.sl L)))) cr rfl rfl
 have LC:=uU
 rw[gM]at LC
 refine⟨_,m2,k2.chg (w':=w) b (.box (cs.set i (.v (.sl L)))) _ uU ⟨rfl,rfl,rfl,Nat.le_refl _⟩ (fun _ _ _=>rfl) (fun _=>.inr ⟨⟨_,cr,rfl,h2⟩,rfl⟩) ?_⟩
 rw[gM]
 refine⟨h1,h2,fun d hd=>?_,us,T,f,h4,h5,by simpa using h6,fun j hj dp=>?_⟩
 ·rcases List.mem_or_eq_of_mem_set hd with h | h
  ·exact h3 d h
  ·subst h;rfl
 ·simp only[List.length_set]at hj
  rw[List.getElem_set]
  by_cases b7:i=j
  ·subst b7
   rw[if_pos rfl]
   exact .v _ _ k4
  ·rw[if_neg b7]
   exact((h7 j hj dp).ext k1 k3).ext (Mem.le_refl m2) LC
theorem yi{σ τ:S}(b nm:Name)(i k sz:Nat)(cs:List D)(L:List V)(hb:σ.obj b=some (.box cs))(hi:cs[i]?=some (.msl nm k))(hn:σ.obj nm=some (.arr sz L))(hk:k=L.length)(ks:List Nat)(ns:List Name)
 (h:i6 ks ns ⟨σ.nt,σ.env,upd (upd σ.obj nm (some (.farr sz L))) b (some (.box (cs.set i (.v (.sl L))))),σ.pre,σ.base⟩)
 (gX:jl ks ns ⟨σ.nt,σ.env,upd (upd σ.obj nm (some (.farr sz L))) b (some (.box (cs.set i (.v (.sl L))))),σ.pre,σ.base⟩=τ):iE σ τ:=
 (PM b nm i k sz cs L hb hi hn hk).trans (tP ks ns h gX)
set_option maxHeartbeats 8000000
noncomputable section
@[go_sem] def P184:PSpec:=p2 cm iI (fun _ _=>True) (fun l v=>vInt (cf (fun x=>v==x) l)) true
@[go_sem] def abA:Spec:=P184.toSpec
theorem RI:aL Tryz.prog 184 P184:=by
 refine cK (rs:=[.tmp 4]) Tryz.func184 Tryz.ntmps184 fun l v hp hw=>?_
 simp only[iI,cm]at hw |-
 have hΓ:=@dT Tryz.prog
 have hl:l.length<=maxLen:=by have:=hw.1.1;simpa using this
 repeat refine sq ?_
 refine rx hΓ [0,1] [] (fun K' hK=>by simp only[go_sem];exact ak) ?_
 repeat refine sq ?_
 refine rx hΓ [0,1,7,8] [] (fun K' hK=>by simp only[go_sem];exact ak) ?_
 repeat refine sq ?_
 refine aC ?_
 repeat refine sq ?_
 refine bA (fun s:Nat=>[(8,⟨true,.v (vInt s)⟩)]) (fun s=>[]) (fun s=>s<=l.length/\∀ k (h:k<l.length),k<s->(fun x:Int=>v==x) l[k]=false) (fun s=>l.length-s) 0 ?_ ?_ ?_ ?_
 ·exact⟨Nat.zero_le _,by simp⟩
 ·rfl
 ·rfl
 rintro i ⟨hi,hR⟩
 simp only[go_sem]
 repeat refine sq ?_
 refine rx hΓ [0,1,7,8,9] [] (fun K' hK=>by simp only[go_sem];exact ak) ?_
 repeat refine sq ?_
 refine au (fun hb=>?_) fun hb=>?_
 ·have aa:i<l.length:=by simpa using hb
  have an:(i:Int)<l.length:=by omega
  clear hb
  repeat refine sq ?_
  refine ay ?_
  repeat refine sq ?_
  refine aC ?_
  repeat refine sq ?_
  refine rx hΓ [0,1,5,7,8] [] (fun K' hK=>by simp only[go_sem,ae aa,ah,aj,an];exact ak) ?_
  repeat refine sq ?_
  refine rx hΓ [0,1,5,7,8,16] [] (fun K' hK=>by simp only[go_sem,ae aa,ah,aj,an];exact ak) ?_
  repeat refine sq ?_
  refine au (fun hb=>?_) fun hb=>?_
  ·repeat refine sq ?_
   refine rx hΓ [4] [] (fun K' hK=>by simp only[go_sem,ae aa,ah,aj,an];exact ak) ?_
   refine aq ?_
   simp only[go_sem]
   rw[lM (p:=fun x=>v==x) aa (by simpa using hb) hR]
  ·repeat refine sq ?_
   refine ay ?_
   refine br ?_
   simp only[go_sem]
   refine kp [0,1,7,8] [] ?_
   repeat refine sq ?_
   refine aI hΓ fun K' hK=>?_
   simp only[go_sem,ae aa,ah,aj,an]
   repeat (refine⟨ao,?_⟩)
   refine hK _ ?_
   clear K' hK
   simp only[go_sem]
   refine⟨i+1,⟨aa,?_⟩,by(show l.length-(i+1)<l.length-i;omega),?_⟩
   ·intro k hk du
    rcases Nat.lt_succ_iff_lt_or_eq.1 du with h5 | rfl
    ·exact hR k hk h5
    ·simpa using hb
   refine aT [0,1,7,8] [] ?_ ?_<;>simp only[go_sem,aO aa hl,aQ]
 ·have aV:i=l.length:=by
   have :¬ (i:Int)<l.length:=by simpa using hb
   omega
  clear hb
  subst aV
  repeat refine sq ?_
  refine be ?_
  simp only[go_sem]
  refine kp [] [] ?_
  repeat refine sq ?_
  refine rx hΓ [4] [] (fun K' hK=>by simp only[go_sem];exact ak) ?_
  refine aq ?_
  simp only[go_sem]
  rw[oG (p:=fun x=>v==x) fun k hk=>hR k hk hk]
def K18a:List (Nat×Spec):=[(184,abA)]
theorem adj:KS K18a:=tc RI.sound<|tn
attribute [go_sem] K18a
theorem aa9(l:List Int)(v:Int):(l.any fun x=>v==x)=l.contains v:=(List.contains_eq_any_beq (l:=l) (a:=v)).symm
@[go_sem] def P108:PSpec:=p2 cm iI (fun _ _=>True) (fun l v=>.bool (l.contains v)) true
@[go_sem] def Bi:Spec:=P108.toSpec
theorem B4:aL Tryz.prog 108 P108:=by
 refine cK (rs:=[.tmp 4]) Tryz.func108 Tryz.ntmps108 fun l v hp hw=>?_
 simp only[iI,cm]at hw |-
 have hΓ:=adj
 repeat refine sq ?_
 refine rx hΓ [0,1] [] (fun K' hK=>by simp only[go_sem];exact ak) ?_
 repeat refine sq ?_
 refine rx hΓ [4] [] (fun K' hK=>by simp only[go_sem,true_or,qO,aa9];exact ak) ?_
 refine aq ?_
 simp only[go_sem]
 all_goals exact cD
def K18b:List (Nat×Spec):=[(108,Bi),(150,Gi)]
theorem Gy:KS K18b:=tc B4.sound<|tc B2.sound<|tn
attribute [go_sem] K18b
def Dn:En (List Int):=⟨fun l=>.ptr [.sl (l.map vInt)],fun v=>match v with | .ptr [.sl l]=>l.map ky | _=>[]⟩
attribute [go_sem] Dn
@[go_sem] def P194:PSpec:=p2 iI Dn (fun _ _=>True) (fun n l=>.bool (l.contains n)) true
@[go_sem] def O4:Spec:=P194.toSpec
theorem RD:aL Tryz.prog 194 P194:=by
 refine cK (rs:=[.tmp 3]) Tryz.func194 Tryz.ntmps194 fun n l hp hw=>?_
 simp only[iI,Dn]at hw |-
 have hΓ:=Gy
 repeat refine sq ?_
 refine rx hΓ [0,1] [] (fun K' hK=>by simp only[go_sem];exact ak) ?_
 repeat refine sq ?_
 refine rx hΓ [3] [] (fun K' hK=>by simp only[go_sem];exact ak) ?_
 refine aq ?_
 simp only[go_sem]
 all_goals exact cD
@[go_sem] def P161:PSpec:=p1 iI (fun _=>True) (fun n=>.bool (!dayB n)) true
@[go_sem] def O9:Spec:=P161.toSpec
theorem RX:aL Tryz.prog 161 P161:=by
 refine dR (rs:=[.tmp 2]) Tryz.func161 Tryz.ntmps161 fun n hp hw=>?_
 simp only[iI]at hw |-
 have hΓ:=Gy
 repeat refine sq ?_
 refine rx hΓ [0] [] (fun K' hK=>by simp only[go_sem];exact ak) ?_
 repeat refine sq ?_
 refine rx hΓ [2] [] (fun K' hK=>by simp only[go_sem];exact ak) ?_
 refine aq ?_
 simp only[go_sem]
 all_goals exact cD
@[go_sem] def P185:PSpec:=p1 iI (fun _=>True) (fun n=>.bool (!dayB n)) true
@[go_sem] def O5:Spec:=P185.toSpec
theorem RH:aL Tryz.prog 185 P185:=by
 refine dR (rs:=[.tmp 2]) Tryz.func185 Tryz.ntmps185 fun n hp hw=>?_
 simp only[iI]at hw |-
 have hΓ:=Gy
 repeat refine sq ?_
 refine rx hΓ [0] [] (fun K' hK=>by simp only[go_sem];exact ak) ?_
 repeat refine sq ?_
 refine rx hΓ [2] [] (fun K' hK=>by simp only[go_sem];exact ak) ?_
 refine aq ?_
 simp only[go_sem]
 all_goals exact cD
def wL:En (Nat×List V):=⟨fun g=>.clo (.func g.1) [] g.2,fun v=>match v with | .clo (.func g) _ cs=>(g,cs) | _=>(0,[])⟩
def pG:Nat×List V->Int->Bool
 |(194,[.ptr [.sl l]]),x=>(l.map ky).contains x
 |_,x=>!dayB x
def wt(g:Nat×List V):Prop:=g=(161,[])\/g=(185,[])\/∃ lv:List Int,g=(194,[.ptr [.sl (lv.map vInt)]])
def K18c:List (Nat×Spec):=[(194,O4),(161,O9),(185,O5)]
theorem adi:KS K18c:=tc RD.sound<|tc RX.sound<|tc RH.sound<|tn
attribute [go_sem] K18c
def Pr:FuncId->Option Spec:=tbl K18c
theorem adg:∀ f s,Pr f=some s->aM Tryz.prog f s:=adi
theorem Tk{g:Nat×List V}(h:wt g):∃ s,Pr g.1=some s/\(¬ g.1=1000000000)/\∀ obj t x,s.app obj t (.v (vInt x)::g.2.map .v)=⟨True,.v (.bool (pG g x)),obj⟩:=by
 rcases h with rfl | rfl | ⟨lv,rfl⟩
 ·exact⟨O9,rfl,by decide,fun obj t x=>by simp only[go_sem,List.map_nil];rfl⟩
 ·exact⟨O5,rfl,by decide,fun obj t x=>by simp only[go_sem,List.map_nil];rfl⟩
 ·exact⟨O4,rfl,(show ¬ (194:Nat)=1000000000 by decide),fun obj t x=>by simp only[go_sem,List.map_cons,List.map_nil,p9,pG]⟩
@[go_sem] def P192:PSpec:=p2 cm wL (fun _ g=>wt g) (fun l g=>vInt (cf (pG g) l)) true
@[go_sem] def abx:Spec:=P192.toSpec
theorem RE:aL Tryz.prog 192 P192:=by
 refine cK (rs:=[.tmp 4]) Tryz.func192 Tryz.ntmps192 fun l g hp hw=>?_
 simp only[wL,cm]at hw |-
 have hΓ:=adg
 have hl:l.length<=maxLen:=by have:=hw.1.1;simpa using this
 obtain⟨s_,hs,hy,ha⟩:=Tk hp
 repeat refine sq ?_
 refine rx hΓ [0,1] [] (fun K' hK=>by simp only[go_sem];exact ak) ?_
 repeat refine sq ?_
 refine rx hΓ [0,1,7,8] [] (fun K' hK=>by simp only[go_sem];exact ak) ?_
 repeat refine sq ?_
 refine aC ?_
 repeat refine sq ?_
 refine bA (fun s:Nat=>[(8,⟨true,.v (vInt s)⟩)]) (fun s=>[]) (fun s=>s<=l.length/\∀ k (h:k<l.length),k<s->pG g l[k]=false) (fun s=>l.length-s) 0 ?_ ?_ ?_ ?_
 ·exact⟨Nat.zero_le _,by simp⟩
 ·rfl
 ·rfl
 rintro i ⟨hi,hR⟩
 simp only[go_sem]
 repeat refine sq ?_
 refine rx hΓ [0,1,7,8,9] [] (fun K' hK=>by simp only[go_sem];exact ak) ?_
 repeat refine sq ?_
 refine au (fun hb=>?_) fun hb=>?_
 ·have aa:i<l.length:=by simpa using hb
  have an:(i:Int)<l.length:=by omega
  clear hb
  repeat refine sq ?_
  refine ay ?_
  repeat refine sq ?_
  refine aC ?_
  repeat refine sq ?_
  refine rx hΓ [0,1,5,7,8] [] (fun K' hK=>by simp only[go_sem,ae aa,ah,aj,an];exact ak) ?_
  repeat refine sq ?_
  refine rx hΓ [0,1,5,7,8,16] [] (fun K' hK=>by simp only[go_sem,ae aa,ah,aj,an,hs,hy,ha];exact ak) ?_
  repeat refine sq ?_
  refine au (fun hb=>?_) fun hb=>?_
  ·repeat refine sq ?_
   refine rx hΓ [4] [] (fun K' hK=>by simp only[go_sem,ae aa,ah,aj,an];exact ak) ?_
   refine aq ?_
   simp only[go_sem]
   rw[lM (p:=pG g) aa (by simpa using hb) hR]
  ·repeat refine sq ?_
   refine ay ?_
   refine br ?_
   simp only[go_sem]
   refine kp [0,1,7,8] [] ?_
   repeat refine sq ?_
   refine aI hΓ fun K' hK=>?_
   simp only[go_sem,ae aa,ah,aj,an]
   repeat (refine⟨ao,?_⟩)
   refine hK _ ?_
   clear K' hK
   simp only[go_sem]
   refine⟨i+1,⟨aa,?_⟩,by(show l.length-(i+1)<l.length-i;omega),?_⟩
   ·intro k hk du
    rcases Nat.lt_succ_iff_lt_or_eq.1 du with h5 | rfl
    ·exact hR k hk h5
    ·simpa using hb
   refine aT [0,1,7,8] [] ?_ ?_<;>simp only[go_sem,aO aa hl,aQ]
 ·have aV:i=l.length:=by
   have :¬ (i:Int)<l.length:=by simpa using hb
   omega
  clear hb
  subst aV
  repeat refine sq ?_
  refine be ?_
  simp only[go_sem]
  refine kp [] [] ?_
  repeat refine sq ?_
  refine rx hΓ [4] [] (fun K' hK=>by simp only[go_sem];exact ak) ?_
  refine aq ?_
  simp only[go_sem]
  rw[oG (p:=pG g) fun k hk=>hR k hk hk]
def K18d:List (Nat×Spec):=[(192,abx)]
theorem adh:KS K18d:=tc RE.sound<|tn
attribute [go_sem] K18d
@[go_sem] def P160:PSpec:=p2 cm wL (fun _ g=>wt g) (fun l g=>.bool (l.any (pG g))) true
@[go_sem] def S160:Spec:=P160.toSpec
theorem RY:aL Tryz.prog 160 P160:=by
 refine cK (rs:=[.tmp 4]) Tryz.func160 Tryz.ntmps160 fun l g hp hw=>?_
 simp only[wL,cm]at hw |-
 have hΓ:=adh
 repeat refine sq ?_
 refine rx hΓ [0,1] [] (fun K' hK=>by simp only[go_sem];exact ak) ?_
 repeat refine sq ?_
 refine rx hΓ [4] [] (fun K' hK=>by simp only[go_sem,true_or,qO,hp];exact ak) ?_
 refine aq ?_
 simp only[go_sem]
 all_goals exact cD
theorem Dh:aM Tryz.prog 160 S160:=RY.sound
end
noncomputable section
structure l4 (x:Vw):Prop where
 ok:bp x.l
 bk:∀ q i,bJ x.bk q=some i->0<=i/\i<x.l.ts.length
 rs:∀ r∈x.rs,dG r=true
 rn:x.rs.length<=60
 tn:x.ts.length<=60
 ts:∀ i∈x.ts,0<=i/\i<x.l.ts.length
theorem H6{r:Rec}(h:dG r=true):0<r.lv.length/\r.lv.length<=30:=by
 unfold dG at h
 simp only[Bool.and_eq_true]at h
 exact⟨(lL.1 h.1.1.2).1,(lL.1 h.1.1.2).2.1⟩
theorem H7{r:Rec}(h:dG r=true):0<=r.da/\r.da<=100000:=by
 unfold dG at h
 simp only[Bool.and_eq_true]at h
 have :=h.1.2
 unfold dayB bT at this
 simpa using this
theorem SF{r:Ret}(h:gR r=true):0<r.lv.length/\r.lv.length<=30:=by
 unfold gR at h
 simp only[Bool.and_eq_true]at h
 exact⟨(lL.1 h.1.1.1.2).1,(lL.1 h.1.1.1.2).2.1⟩
theorem vL{d:Int}(h:0<=d/\d<=100000):IntKind.i64.wrap (d+1)=d+1:=wrap_i64 (by omega) (by omega)
theorem kG{l:Led}{i:Nat}(h:i<l.ts.length):aK l i=l.ts[i]:=by unfold aK;exact dd h
theorem bp.recs{l:Led}(h:bp l):∀ r∈l.rs,dG r=true:=fun r hr=>by
 obtain⟨j,hj,rfl⟩:=List.getElem_of_mem hr
 exact jC h.rs hj
theorem bp.rets{l:Led}(h:bp l){i:Nat}(hi:i<l.ts.length):gR (aK l i)=true:=by
 rw[kG hi]
 exact jC h.ts hi
def th(x:Vw)(a b:Rec)(f:Int):Bool:=(a.pa==b.pa&&b.lv.contains f)&&(a.da==b.da||match bJ x.bk (a.so,f)with
 |none=>true
 |some i=>decide (cI (aK x.l i.toNat).lo (a.da+1)>b.da))
theorem Fm(x:Vw)(a b:Rec):vw x a b=a.lv.any (th x a b):=rfl
theorem OH{α:Type}{p:α->Bool}{l:List α}{i:Nat}(h:i<l.length)(hp:p l[i]=true):l.any p=true:=List.any_eq_true.2 ⟨_,List.getElem_mem h,hp⟩
theorem aa8{α:Type}{p:α->Bool}{l:List α}(h:∀ k (hk:k<l.length),p l[k]=false):l.any p=false:=by
 rw[List.any_eq_false]
 intro x hx
 obtain⟨k,hk,rfl⟩:=List.getElem_of_mem hx
 rw[h k hk];decide
theorem BB{l:Led}{i:Int}(h0:0<=i)(h:i<l.ts.length):(l.ts.map encT).getD i.toNat default=encT (aK l i.toNat):=by
 have h':i.toNat<l.ts.length:=by omega
 rw[ae h',kG h']
def qI(a b:Rec):Rec:=if a.da>b.da then b else a
def kW(a b:Rec):Rec:=if a.da>b.da then a else b
theorem Z1(x:Vw)(a b:Rec):lU x a b=vw x (qI a b) (kW a b):=by
 unfold lU qI kW
 split<;>rfl
theorem UR{a b:Rec}(ha:dG a=true)(hb:dG b=true):dG (qI a b)=true/\dG (kW a b)=true:=by
 unfold qI kW
 split
 ·exact⟨hb,ha⟩
 ·exact⟨ha,hb⟩
def tq(r:Rec):List D:=[.v (vInt r.so),.v (vInt r.bo),.v (vInt r.pa),.v (.sl (r.lv.map vInt)),.v (vInt r.da),.v (vInt r.kn),.v (vInt r.un)]
attribute [go_sem] tq
def K19:List (Nat×Spec):=[(108,Bi)]
theorem adf:KS K19:=tc B4.sound<|tn
attribute [go_sem] K19
def OR:VSpec:=v2 iR iR (fun x a b=>l4 x/\dG a=true/\dG b=true) (fun x a b=>.v (.bool (lU x a b))) none
def S129:Spec:=OR.toSpec
attribute [go_sem] OR S129
set_option maxHeartbeats 8000000 in
theorem W5:aM Tryz.prog 129 S129:=by
 refine yj (rs:=[.tmp 6]) Tryz.func129 Tryz.ntmps129 (by rfl) (by kernel_rfl) (by decide) (fun _ _ _=>by first | rfl | simp[D.clos,D.closL,ma]) ⟨_,rfl,lb rfl,fun x a b hp H h0 h1 h2 hO ai=>?_⟩
 have hP:=c8
 simp only[iR,encR,bg,dD,List.map_cons,List.map_nil,Nat.zero_add,Option.map_some,Option.map_none]at h0 |-
 have hΓ:=adf
 obtain⟨hv,ha,YM⟩:=hp
 rw[Z1]
 obtain⟨zC,lQ⟩:=UR ha YM
 repeat refine sq ?_
 refine rx hΓ [0,4,5] [[4,0],[5,0]] (fun K' hK=>by simp only[go_sem,hO,ai,h0,h1,h2];(repeat (refine⟨ao,?_⟩));exact hK _ (by simp only[go_sem,hO,ai,h0,h1,h2]) (by simp only[go_sem,hO,ai,h0,h1,h2]<;>rfl)) ?_
 repeat refine sq ?_
 refine rx hΓ [0,4,5,15] [[4,0],[5,0]] (fun K' hK=>by simp only[go_sem,hO,ai,h0,h1,h2];(repeat (refine⟨ao,?_⟩));exact hK _ (by simp only[go_sem,hO,ai,h0,h1,h2]) (by simp only[go_sem,hO,ai,h0,h1,h2]<;>rfl)) ?_
 repeat refine sq ?_
 refine aax (bm 80 [0] H [(0,⟨true,.ref [0,1] 0⟩),(4,⟨true,.ref [4,0] 0⟩),(5,⟨true,.ref [5,0] 0⟩)] [([4,0],.box (tq (qI a b))),([5,0],.box (tq (kW a b)))]) rfl rfl (fun hb=>?_) (fun hb=>?_) ?_
 ·repeat refine sq ?_
  rw[show qI a b=b from if_pos (by simpa using hb),show kW a b=a from if_pos (by simpa using hb)]
  repeat refine sq ?_
  refine aI hΓ fun K' hK=>?_
  simp only[go_sem,hO,ai,h0,h1,h2]
  repeat (refine⟨ao,?_⟩)
  refine hK _ ?_
  clear K' hK
  simp only[go_sem]
  refine tP [0,4,5] [[4,0],[5,0]] ?_ ?_
  ·simp only[go_sem,hO,ai,h0,h1,h2]
  ·simp only[go_sem,hO,ai,h0,h1,h2]
 ·repeat refine sq ?_
  rw[show qI a b=a from if_neg (by simpa using hb),show kW a b=b from if_neg (by simpa using hb)]
  refine ay ?_
  refine br ?_
  simp only[go_sem]
  refine tP [0,4,5] [[4,0],[5,0]] ?_ ?_
  ·simp only[go_sem,hO,ai,h0,h1,h2]
  ·simp only[go_sem,hO,ai,h0,h1,h2]
 generalize qI a b=p at *
 generalize kW a b=q at *
 have hl:p.lv.length<=maxLen:=by have:=(H6 zC).2;unfold maxLen;omega
 repeat refine sq ?_
 refine rx hΓ [0,4,5,19,20,21] [[4,0],[5,0]] (fun K' hK=>by simp only[go_sem,hO,ai,h0,h1,h2];(repeat (refine⟨ao,?_⟩));exact hK _ (by simp only[go_sem,hO,ai,h0,h1,h2]) (by simp only[go_sem,hO,ai,h0,h1,h2]<;>rfl)) ?_
 repeat refine sq ?_
 refine aC ?_
 repeat refine sq ?_
 refine bA (fun s:Nat=>[(21,⟨true,.v (vInt s)⟩)]) (fun s=>[]) (fun s=>s<=p.lv.length/\∀ k (h:k<p.lv.length),k<s->th x p q p.lv[k]=false) (fun s=>p.lv.length-s) 0 ?_ ?_ ?_ ?_
 ·exact⟨Nat.zero_le _,by simp⟩
 ·rfl
 ·rfl
 rintro i ⟨hi,hR⟩
 simp only[go_sem]
 repeat refine sq ?_
 refine rx hΓ [0,4,5,19,20,21,22] [[4,0],[5,0]] (fun K' hK=>by simp only[go_sem,hO,ai,h0,h1,h2];(repeat (refine⟨ao,?_⟩));exact hK _ (by simp only[go_sem,hO,ai,h0,h1,h2]) (by simp only[go_sem,hO,ai,h0,h1,h2]<;>rfl)) ?_
 repeat refine sq ?_
 refine au (fun hb=>?_) fun hb=>?_
 ·have aa:i<p.lv.length:=by simpa using hb
  have an:(i:Int)<p.lv.length:=by omega
  clear hb
  have jn:=vL (H7 zC)
  repeat refine sq ?_
  refine ay ?_
  repeat refine sq ?_
  refine aC ?_
  repeat refine sq ?_
  refine rx hΓ [0,4,5,8,19,20,21] [[4,0],[5,0]] (fun K' hK=>by simp only[go_sem,hO,ai,h0,h1,h2,ae aa,ah,aj,an];(repeat (refine⟨ao,?_⟩));exact hK _ (by simp only[go_sem,hO,ai,h0,h1,h2,ae aa,ah,aj,an]) (by simp only[go_sem,hO,ai,h0,h1,h2,ae aa,ah,aj,an]<;>rfl)) ?_
  repeat refine sq ?_
  refine rx hΓ [0,4,5,8,19,20,21,36] [[4,0],[5,0]] (fun K' hK=>by simp only[go_sem,hO,ai,h0,h1,h2,ae aa,ah,aj,an];(repeat (refine⟨ao,?_⟩));exact hK _ (by simp only[go_sem,hO,ai,h0,h1,h2,ae aa,ah,aj,an]) (by simp only[go_sem,hO,ai,h0,h1,h2,ae aa,ah,aj,an]<;>rfl)) ?_
  repeat refine sq ?_
  refine au (fun hb=>?_) fun hb=>?_
  ·repeat refine sq ?_
   refine be ?_
   simp only[go_sem]
   refine dv [0,4,5,19,20,21] [[4,0],[5,0]] ?_ ?_
   ·simp only[go_sem,hO,ai,h0,h1,h2]
   simp only[go_sem,hO,ai,h0,h1,h2]
   repeat refine sq ?_
   refine aI hΓ fun K' hK=>?_
   simp only[go_sem,hO,ai,h0,h1,h2,ae aa,ah,aj,an]
   repeat (refine⟨ao,?_⟩)
   refine hK _ ?_
   clear K' hK
   simp only[go_sem]
   refine⟨i+1,⟨aa,?_⟩,by(show p.lv.length-(i+1)<p.lv.length-i;omega),?_⟩
   ·intro k hk du
    rcases Nat.lt_succ_iff_lt_or_eq.1 du with h5 | rfl
    ·exact hR k hk h5
    ·unfold th;grind
   refine aT [0,4,5,19,20,21] [[4,0],[5,0]] ?_ ?_<;>simp only[go_sem,aO aa hl,aQ,hO,ai,h0,h1,h2]
  ·repeat refine sq ?_
   refine ay ?_
   rcases aP:bJ x.bk (p.so,p.lv[i])with _ | j
   ·repeat refine sq ?_
    refine dx hΓ hP [[],[0],[0,1],[0,1,2],[],[4],[],[4,5,6],u8,u9,bI,bI,cz,fJ] [0,4,5,9,10,19,20,21] [[4,0],[5,0]] (by kernel_rfl) (fun K' hK=>by simp only[go_sem,hO,ai,h0,h1,h2,ae aa,ah,aj,an,aB,aP,Option.map_none,Option.isSome_none,Option.getD_none];(repeat (refine⟨ao,?_⟩));(first | refine⟨by rfl,?_⟩ | skip);exact hK _ (by simp only[go_sem,hO,ai,h0,h1,h2,ae aa,ah,aj,an,aB,aP,Option.map_none,Option.isSome_none,Option.getD_none]) (by simp only[go_sem,hO,ai,h0,h1,h2,ae aa,ah,aj,an,aB,aP,Option.map_none,Option.isSome_none,Option.getD_none]<;>rfl)) ?_
    repeat refine sq ?_
    refine dx hΓ hP [[],[0],[],[2],u4,u5,u6,u7,u8,u9,bI,cz,dS,fJ,eE,lx,u16,bI,gO,l7,gN,jG,bI,[0,1,2,3,4,5,6,7,8,9,22],[0,1,2,3,4,5,6,7,8,9,22,23],qo,bI,[0,1,2,3,4,5,6,7,8,9,26],yn,tT] [0,4,5,19,20,21,78] [[4,0],[5,0]] (by kernel_rfl) (fun K' hK=>by simp only[go_sem,hO,ai,h0,h1,h2,ae aa,ah,aj,an,aB,aP,Option.map_none,Option.isSome_none,Option.getD_none];(repeat (refine⟨ao,?_⟩));(first | refine⟨by rfl,?_⟩ | skip);exact hK _ (by simp only[go_sem,hO,ai,h0,h1,h2,ae aa,ah,aj,an,aB,aP,Option.map_none,Option.isSome_none,Option.getD_none]) (by simp only[go_sem,hO,ai,h0,h1,h2,ae aa,ah,aj,an,aB,aP,Option.map_none,Option.isSome_none,Option.getD_none]<;>rfl)) ?_
    repeat refine sq ?_
    refine au (fun hb=>?_) fun hb=>?_
    ·repeat refine sq ?_
     refine rx hΓ [6] [] (fun K' hK=>by simp only[go_sem,hO,ai,h0,h1,h2,ae aa,ah,aj,an,aB,aP,Option.map_none,Option.isSome_none,Option.getD_none];(repeat (refine⟨ao,?_⟩));exact hK _ (by simp only[go_sem,hO,ai,h0,h1,h2,ae aa,ah,aj,an,aB,aP,Option.map_none,Option.isSome_none,Option.getD_none]) (by simp only[go_sem,hO,ai,h0,h1,h2,ae aa,ah,aj,an,aB,aP,Option.map_none,Option.isSome_none,Option.getD_none]<;>rfl)) ?_
     refine aq ?_
     simp only[go_sem,hO,ai,h0,h1,h2]
     rw[Fm,OH aa (by unfold th;rw[aP];grind [cI])]
    ·repeat refine sq ?_
     refine ay ?_
     refine br ?_
     simp only[go_sem]
     refine dv [0,4,5,19,20,21] [[4,0],[5,0]] ?_ ?_
     ·simp only[go_sem,hO,ai,h0,h1,h2]
     simp only[go_sem,hO,ai,h0,h1,h2]
     repeat refine sq ?_
     refine aI hΓ fun K' hK=>?_
     simp only[go_sem,hO,ai,h0,h1,h2,ae aa,ah,aj,an,aB,aP,Option.map_none,Option.isSome_none,Option.getD_none]
     repeat (refine⟨ao,?_⟩)
     refine hK _ ?_
     clear K' hK
     simp only[go_sem]
     refine⟨i+1,⟨aa,?_⟩,by(show p.lv.length-(i+1)<p.lv.length-i;omega),?_⟩
     ·intro k hk du
      rcases Nat.lt_succ_iff_lt_or_eq.1 du with h5 | rfl
      ·exact hR k hk h5
      ·unfold th;rw[aP];grind [cI]
     refine aT [0,4,5,19,20,21] [[4,0],[5,0]] ?_ ?_<;>simp only[go_sem,aO aa hl,aQ,hO,ai,h0,h1,h2]
   ·obtain⟨cq,dW⟩:=hv.bk _ _ aP
    have kT:=BB cq dW
    repeat refine sq ?_
    refine dx hΓ hP [[],[0],[0,1],[0,1,2],[],[4],[],[4,5,6],u8,u9,bI,bI,cz,fJ] [0,4,5,9,10,19,20,21] [[4,0],[5,0]] (by kernel_rfl) (fun K' hK=>by simp only[go_sem,hO,ai,h0,h1,h2,ae aa,ah,aj,an,aB,aP,Option.map_some,Option.isSome_some,Option.getD_some,kT,cq,dW,jn];(repeat (refine⟨ao,?_⟩));(first | refine⟨by rfl,?_⟩ | skip);exact hK _ (by simp only[go_sem,hO,ai,h0,h1,h2,ae aa,ah,aj,an,aB,aP,Option.map_some,Option.isSome_some,Option.getD_some,kT,cq,dW,jn]) (by simp only[go_sem,hO,ai,h0,h1,h2,ae aa,ah,aj,an,aB,aP,Option.map_some,Option.isSome_some,Option.getD_some,kT,cq,dW,jn]<;>rfl)) ?_
    repeat refine sq ?_
    refine dx hΓ hP [[],[0],[],[2],u4,u5,u6,u7,u8,u9,bI,cz,dS,fJ,eE,lx,u16,bI,gO,l7,gN,jG,bI,[0,1,2,3,4,5,6,7,8,9,22],[0,1,2,3,4,5,6,7,8,9,22,23],qo,bI,[0,1,2,3,4,5,6,7,8,9,26],yn,tT] [0,4,5,19,20,21,78] [[4,0],[5,0]] (by kernel_rfl) (fun K' hK=>by simp only[go_sem,hO,ai,h0,h1,h2,ae aa,ah,aj,an,aB,aP,Option.map_some,Option.isSome_some,Option.getD_some,kT,cq,dW,jn];(repeat (refine⟨ao,?_⟩));(first | refine⟨by rfl,?_⟩ | skip);exact hK _ (by simp only[go_sem,hO,ai,h0,h1,h2,ae aa,ah,aj,an,aB,aP,Option.map_some,Option.isSome_some,Option.getD_some,kT,cq,dW,jn]) (by simp only[go_sem,hO,ai,h0,h1,h2,ae aa,ah,aj,an,aB,aP,Option.map_some,Option.isSome_some,Option.getD_some,kT,cq,dW,jn]<;>rfl)) ?_
    repeat refine sq ?_
    refine au (fun hb=>?_) fun hb=>?_
    ·repeat refine sq ?_
     refine rx hΓ [6] [] (fun K' hK=>by simp only[go_sem,hO,ai,h0,h1,h2,ae aa,ah,aj,an,aB,aP,Option.map_some,Option.isSome_some,Option.getD_some,kT,cq,dW,jn];(repeat (refine⟨ao,?_⟩));exact hK _ (by simp only[go_sem,hO,ai,h0,h1,h2,ae aa,ah,aj,an,aB,aP,Option.map_some,Option.isSome_some,Option.getD_some,kT,cq,dW,jn]) (by simp only[go_sem,hO,ai,h0,h1,h2,ae aa,ah,aj,an,aB,aP,Option.map_some,Option.isSome_some,Option.getD_some,kT,cq,dW,jn]<;>rfl)) ?_
     refine aq ?_
     simp only[go_sem,hO,ai,h0,h1,h2]
     rw[Fm,OH aa (by unfold th;rw[aP];grind [cI])]
    ·repeat refine sq ?_
     refine ay ?_
     refine br ?_
     simp only[go_sem]
     refine dv [0,4,5,19,20,21] [[4,0],[5,0]] ?_ ?_
     ·simp only[go_sem,hO,ai,h0,h1,h2]
     simp only[go_sem,hO,ai,h0,h1,h2]
     repeat refine sq ?_
     refine aI hΓ fun K' hK=>?_
     simp only[go_sem,hO,ai,h0,h1,h2,ae aa,ah,aj,an,aB,aP,Option.map_some,Option.isSome_some,Option.getD_some,kT,cq,dW,jn]
     repeat (refine⟨ao,?_⟩)
     refine hK _ ?_
     clear K' hK
     simp only[go_sem]
     refine⟨i+1,⟨aa,?_⟩,by(show p.lv.length-(i+1)<p.lv.length-i;omega),?_⟩
     ·intro k hk du
      rcases Nat.lt_succ_iff_lt_or_eq.1 du with h5 | rfl
      ·exact hR k hk h5
      ·unfold th;rw[aP];grind [cI]
     refine aT [0,4,5,19,20,21] [[4,0],[5,0]] ?_ ?_<;>simp only[go_sem,aO aa hl,aQ,hO,ai,h0,h1,h2]
 ·have aV:i=p.lv.length:=by
   have :¬ (i:Int)<p.lv.length:=by simpa using hb
   omega
  clear hb
  subst aV
  repeat refine sq ?_
  refine be ?_
  simp only[go_sem]
  refine dv [] [] ?_ ?_
  ·simp only[go_sem,hO,ai,h0,h1,h2]
  simp only[go_sem,hO,ai,h0,h1,h2]
  repeat refine sq ?_
  refine rx hΓ [6] [] (fun K' hK=>by simp only[go_sem,hO,ai,h0,h1,h2];(repeat (refine⟨ao,?_⟩));exact hK _ (by simp only[go_sem,hO,ai,h0,h1,h2]) (by simp only[go_sem,hO,ai,h0,h1,h2]<;>rfl)) ?_
  refine aq ?_
  simp only[go_sem,hO,ai,h0,h1,h2]
  rw[Fm,aa8 fun k hk=>hR k hk hk]
end
noncomputable section
@[go_sem] theorem agu(x:Vw):(⟨x.l,x.rs,x.ts,x.bk,x.ds⟩:Vw)=x:=rfl
def yO:Option (Int×Int)->D
 |some p=>.tup [.v (.sl [vInt p.1,vInt p.2]),.v (.bool true)]
 |none=>.tup [.nilsl,.v (.bool false)]
theorem SM(r:Option (Int×Int))(p:Name->Bool):D.clos p (yO r)=true:=by cases r<;>rfl
theorem Iw{x:Vw}{i:Nat}(h:i<x.rs.length)(hn:∀ k (hk:k<(x.rs.drop (i+1)).length),lU x x.rs[i] (x.rs.drop (i+1))[k]=false):nl x i=none:=by
 unfold nl
 have e:(x.rs.drop (i+1)).find? (lU x x.rs[i])=none:=List.find?_eq_none.2 fun y hy=>by
  obtain⟨k,hk,rfl⟩:=List.getElem_of_mem hy
  rw[hn k hk];decide
 rw[dd h,e]
 rfl
theorem SZ{x:Vw}{i k:Nat}(h:i<x.rs.length)(hk:k<(x.rs.drop (i+1)).length)(hn:∀ j (hj:j<(x.rs.drop (i+1)).length),j<k->lU x x.rs[i] (x.rs.drop (i+1))[j]=false)(hb:lU x x.rs[i] (x.rs.drop (i+1))[k]=true):
 nl x i=some (x.rs[i].so,(x.rs.drop (i+1))[k].so):=by
 unfold nl
 have e:(x.rs.drop (i+1)).find? (lU x x.rs[i])=some (x.rs.drop (i+1))[k]:=List.find?_eq_some_iff_getElem.2 ⟨hb,k,hk,rfl,fun j hj=>by rw[hn j (by omega) hj];rfl⟩
 rw[dd h,e]
 rfl
theorem SX{x:Vw}{i:Nat}{p:Int×Int}(h:i<x.rs.length)(hn:∀ k,k<i->nl x k=none)(hp:nl x i=some p):gk x=some p:=by
 unfold gk
 rw[List.findSome?_eq_some_iff]
 refine⟨List.range i,i,(List.range' (i+1) (x.rs.length-(i+1))),?_,hp,fun a ha=>hn a (List.mem_range.1 ha)⟩
 rw[List.range_eq_range',List.range_eq_range']
 have :x.rs.length=i+(1+(x.rs.length-(i+1))):=by omega
 conv=>lhs;rw[this]
 rw[<-List.range'_append_1,<-List.range'_append_1,Nat.zero_add]
 rfl
theorem Iv{x:Vw}(hn:∀ k,k<x.rs.length->nl x k=none):gk x=none:=by
 unfold gk
 rw[List.findSome?_eq_none_iff]
 exact fun a ha=>hn a (List.mem_range.1 ha)
def K20:List (Nat×Spec):=[(129,S129)]
theorem ade:KS K20:=tc W5<|tn
attribute [go_sem] K20
def OU:VSpec:=v0 (fun x=>l4 x) (fun x=>yO (gk x)) none
def S120:Spec:=OU.toSpec
attribute [go_sem] OU S120
set_option maxHeartbeats 8000000 in
theorem W9:aM Tryz.prog 120 S120:=by
 refine PV (rs:=[.tmp 2,.tmp 3]) Tryz.func120 Tryz.ntmps120 (by rfl) (by kernel_rfl) (by decide) (fun _=>by first | rfl | exact SM _ _ | simp[D.clos,D.closL,ma]) ⟨_,rfl,lb rfl,fun x hp H h0 h1 h2 hO ai=>?_⟩
 simp only[bg,dD,List.map_cons,List.map_nil,Nat.zero_add,Option.map_some,Option.map_none]at h0 |-
 have hΓ:=ade
 have sA:x.rs.length<=maxLen:=by have:=hp.rn;unfold maxLen;omega
 repeat refine sq ?_
 refine rx hΓ [0] [] (fun K' hK=>by simp only[go_sem,hO,ai,h0,h1,h2];(repeat (refine⟨ao,?_⟩));exact hK _ (by simp only[go_sem,hO,ai,h0,h1,h2]) (by simp only[go_sem,hO,ai,h0,h1,h2]<;>rfl)) ?_
 repeat refine sq ?_
 refine rx hΓ [0,11,12,13] [] (fun K' hK=>by simp only[go_sem,hO,ai,h0,h1,h2];(repeat (refine⟨ao,?_⟩));exact hK _ (by simp only[go_sem,hO,ai,h0,h1,h2]) (by simp only[go_sem,hO,ai,h0,h1,h2]<;>rfl)) ?_
 repeat refine sq ?_
 refine aC ?_
 repeat refine sq ?_
 refine bA (fun s:Nat=>[(13,⟨true,.v (vInt s)⟩)]) (fun s=>[]) (fun s=>s<=x.rs.length/\∀ k,k<s->nl x k=none) (fun s=>x.rs.length-s) 0 ?_ ?_ ?_ ?_
 ·exact⟨Nat.zero_le _,by simp⟩
 ·rfl
 ·rfl
 rintro i ⟨hi,hR⟩
 simp only[go_sem]
 repeat refine sq ?_
 refine rx hΓ [0,11,12,13,14] [] (fun K' hK=>by simp only[go_sem,hO,ai,h0,h1,h2];(repeat (refine⟨ao,?_⟩));exact hK _ (by simp only[go_sem,hO,ai,h0,h1,h2]) (by simp only[go_sem,hO,ai,h0,h1,h2]<;>rfl)) ?_
 repeat refine sq ?_
 refine au (fun hb=>?_) fun hb=>?_
 ·have aa:i<x.rs.length:=by simpa using hb
  have an:(i:Int)<x.rs.length:=by omega
  clear hb
  have wQ:IntKind.i64.wrap ((i:Int)+1)=((i+1:Nat):Int):=aO aa sA
  have mC:x.rs.length-(i+1)<=maxLen:=by omega
  have wS:List.take (x.rs.length-(i+1)) ((x.rs.drop (i+1)).map encR)=(x.rs.drop (i+1)).map encR:=List.take_of_length_le (by simp)
  have dZ:=hp.rs x.rs[i] (List.getElem_mem aa)
  repeat refine sq ?_
  refine ay ?_
  repeat refine sq ?_
  refine aC ?_
  repeat refine sq ?_
  refine rx hΓ [0,4,5,11,12,13] [[5,0]] (fun K' hK=>by simp only[go_sem,hO,ai,h0,h1,h2,ae aa,ah,aj,an];(repeat (refine⟨ao,?_⟩));exact hK _ (by simp only[go_sem,hO,ai,h0,h1,h2,ae aa,ah,aj,an]) (by simp only[go_sem,hO,ai,h0,h1,h2,ae aa,ah,aj,an]<;>rfl)) ?_
  repeat refine sq ?_
  refine rx hΓ [0,5,11,12,13,24,25,26] [[5,0]] (fun K' hK=>by simp only[go_sem,hO,ai,h0,h1,h2,ae aa,ah,aj,an,wQ,<-List.map_drop,wS];(repeat (refine⟨by first | exact ao | exact⟨by omega,Int.le_refl _,fun y hy=>(Cs _ y hy).1⟩,?_⟩));exact hK _ (by simp only[go_sem,hO,ai,h0,h1,h2,ae aa,ah,aj,an,wQ,<-List.map_drop,wS]) (by simp only[go_sem,hO,ai,h0,h1,h2,ae aa,ah,aj,an,wQ,<-List.map_drop,wS]<;>rfl)) ?_
  repeat refine sq ?_
  refine aC ?_
  repeat refine sq ?_
  refine bA (fun s:Nat=>[(26,⟨true,.v (vInt s)⟩)]) (fun s=>[]) (fun s=>s<=(x.rs.drop (i+1)).length/\∀ k (hk:k<(x.rs.drop (i+1)).length),k<s->lU x x.rs[i] (x.rs.drop (i+1))[k]=false) (fun s=>(x.rs.drop (i+1)).length-s) 0 ?_ ?_ ?_ ?_
  ·exact⟨Nat.zero_le _,by simp⟩
  ·rfl
  ·rfl
  rintro i1 ⟨hi,hR⟩
  simp only[go_sem]
  repeat refine sq ?_
  refine rx hΓ [0,5,11,12,13,24,25,26,27] [[5,0]] (fun K' hK=>by simp only[go_sem,hO,ai,h0,h1,h2,ae aa,ah,aj,an];(repeat (refine⟨ao,?_⟩));exact hK _ (by simp only[go_sem,hO,ai,h0,h1,h2,ae aa,ah,aj,an]) (by simp only[go_sem,hO,ai,h0,h1,h2,ae aa,ah,aj,an]<;>rfl)) ?_
  repeat refine sq ?_
  refine au (fun hb=>?_) fun hb=>?_
  ·have aE:i1<(x.rs.drop (i+1)).length:=by simpa using hb
   have bc:(i1:Int)<(x.rs.drop (i+1)).length:=by omega
   clear hb
   have ga:=hp.rs (x.rs.drop (i+1))[i1] (List.mem_of_mem_drop (List.getElem_mem aE))
   repeat refine sq ?_
   refine ay ?_
   repeat refine sq ?_
   refine aC ?_
   repeat refine sq ?_
   refine rx hΓ [0,5,7,11,12,13,24,25,26] [[5,0],[7,0]] (fun K' hK=>by simp only[go_sem,hO,ai,h0,h1,h2,ae aa,ah,aj,an,ae aE,ah,aj,bc];(repeat (refine⟨ao,?_⟩));exact hK _ (by simp only[go_sem,hO,ai,h0,h1,h2,ae aa,ah,aj,an,ae aE,ah,aj,bc]) (by simp only[go_sem,hO,ai,h0,h1,h2,ae aa,ah,aj,an,ae aE,ah,aj,bc]<;>rfl)) ?_
   repeat refine sq ?_
   refine rx hΓ [0,5,7,11,12,13,24,25,26,33] [[5,0],[7,0]] (fun K' hK=>by simp only[go_sem,hO,ai,h0,h1,h2,ae aa,ah,aj,an,ae aE,ah,aj,bc];(repeat (refine⟨ao,?_⟩));exact hK _ (by simp only[go_sem,hO,ai,h0,h1,h2,ae aa,ah,aj,an,ae aE,ah,aj,bc]) (by simp only[go_sem,hO,ai,h0,h1,h2,ae aa,ah,aj,an,ae aE,ah,aj,bc]<;>rfl)) ?_
   repeat refine sq ?_
   refine au (fun hb=>?_) fun hb=>?_
   ·repeat refine sq ?_
    refine rx hΓ [2,3] [] (fun K' hK=>by simp only[go_sem,hO,ai,h0,h1,h2,ae aa,ah,aj,an,ae aE,ah,aj,bc];(repeat (refine⟨ao,?_⟩));exact hK _ (by simp only[go_sem,hO,ai,h0,h1,h2,ae aa,ah,aj,an,ae aE,ah,aj,bc]) (by simp only[go_sem,hO,ai,h0,h1,h2,ae aa,ah,aj,an,ae aE,ah,aj,bc]<;>rfl)) ?_
    refine aq ?_
    simp only[go_sem,hO,ai,h0,h1,h2]
    rw[SX aa (by assumption) (SZ aa aE hR (by simpa using hb))];rfl
   ·repeat refine sq ?_
    refine ay ?_
    refine br ?_
    simp only[go_sem]
    refine dv [0,5,11,12,13,24,25,26] [[5,0]] ?_ ?_
    ·simp only[go_sem,hO,ai,h0,h1,h2]
    simp only[go_sem,hO,ai,h0,h1,h2]
    repeat refine sq ?_
    refine aI hΓ fun K' hK=>?_
    simp only[go_sem,hO,ai,h0,h1,h2,ae aa,ah,aj,an,ae aE,ah,aj,bc]
    repeat (refine⟨ao,?_⟩)
    refine hK _ ?_
    clear K' hK
    simp only[go_sem]
    refine⟨i1+1,⟨aE,?_⟩,by(show (x.rs.drop (i+1)).length-(i1+1)<(x.rs.drop (i+1)).length-i1;omega),?_⟩
    ·intro k hk du
     rcases Nat.lt_succ_iff_lt_or_eq.1 du with h5 | rfl
     ·exact hR k hk h5
     ·simpa using hb
    refine aT [0,5,11,12,13,24,25,26] [[5,0]] ?_ ?_<;>simp only[go_sem,aO aE (by rw[List.length_drop];omega:(x.rs.drop (i+1)).length<=maxLen),aQ,hO,ai,h0,h1,h2]
  ·have fc:i1=(x.rs.drop (i+1)).length:=by
    have :¬ (i1:Int)<(x.rs.drop (i+1)).length:=by simpa using hb
    omega
   clear hb
   subst fc
   repeat refine sq ?_
   refine be ?_
   simp only[go_sem]
   refine dv [0,11,12,13] [] ?_ ?_
   ·simp only[go_sem,hO,ai,h0,h1,h2]
   simp only[go_sem,hO,ai,h0,h1,h2]
   repeat refine sq ?_
   refine aI hΓ fun K' hK=>?_
   simp only[go_sem,hO,ai,h0,h1,h2,ae aa,ah,aj,an]
   repeat (refine⟨ao,?_⟩)
   refine hK _ ?_
   clear K' hK
   simp only[go_sem]
   refine⟨i+1,⟨aa,?_⟩,by(show x.rs.length-(i+1)<x.rs.length-i;omega),?_⟩
   ·intro k hk
    rcases Nat.lt_succ_iff_lt_or_eq.1 hk with h5 | rfl
    ·exact(by assumption:∀ k,k<i->nl x k=none) k h5
    ·exact Iw aa fun j hj=>hR j hj hj
   refine aT [0,11,12,13] [] ?_ ?_<;>simp only[go_sem,aO aa sA,aQ,hO,ai,h0,h1,h2]
 ·have aV:i=x.rs.length:=by
   have :¬ (i:Int)<x.rs.length:=by simpa using hb
   omega
  clear hb
  subst aV
  repeat refine sq ?_
  refine be ?_
  simp only[go_sem]
  refine dv [] [] ?_ ?_
  ·simp only[go_sem,hO,ai,h0,h1,h2]
  simp only[go_sem,hO,ai,h0,h1,h2]
  repeat refine sq ?_
  refine rx hΓ [2,3] [] (fun K' hK=>by simp only[go_sem,hO,ai,h0,h1,h2];(repeat (refine⟨ao,?_⟩));exact hK _ (by simp only[go_sem,hO,ai,h0,h1,h2]) (by simp only[go_sem,hO,ai,h0,h1,h2]<;>rfl)) ?_
  refine aq ?_
  simp only[go_sem,hO,ai,h0,h1,h2]
  rw[Iv hR];rfl
end
def jg(obj:Name->Option O)(L:List O):Name->Option O:=fun nm=>match aS L nm with | some o=>some o | none=>obj nm
theorem He{L1 L2:List O}(h:L2.length=L1.length):jg (aS L1) L2=aS L2:=by
 funext nm
 unfold jg
 cases hx:dt nm with
 |false=>rw[yS hx,yS hx]
 |true=>
  obtain⟨i,rfl⟩:=uP.1 hx
  simp only[aS]
  by_cases hi:i<L2.length
  ·rw[List.getElem?_eq_getElem hi]
  ·rw[List.getElem?_eq_none (by omega),List.getElem?_eq_none (by omega)]
theorem uK(n:Nat)(p:Name)(F H:Name->Option O)(L:List O)(l:List (Nat×E))(h:List (Name×O)):
 bm n p (jg (fun nm=>if own p nm=true then F nm else H nm) L) l h=bm n p (jg H L) l h:=
 zb fun nm hn=>by unfold jg;simp[hn]
theorem vH(p:Name)(dom:Name->Bool)(F H:Name->Option O)(L:List O):
 bG p dom (jg (fun nm=>if own p nm=true then F nm else H nm) L)=bG p dom (jg H L):=by
 have e:∀ nm,own p nm=false->jg (fun nm=>if own p nm=true then F nm else H nm) L nm=jg H L nm:=fun nm hn=>by unfold jg;simp[hn]
 exact propext ⟨fun k nm q hn h=>k nm q hn (by rw[e nm hn];exact h),fun k nm q hn h=>k nm q hn (by rw[<-e nm hn];exact h)⟩
def Lp.I(r:Lp)(s:Nat):List O:=r.rc (LI r.m) .ready none::r.fam (LI r.m) s
theorem Lp.I_len{r:Lp}(hr:r.Ok)(s:Nat):(r.I s).length=r.m+1:=by unfold Lp.I;rw[List.length_cons,hr.len _ _ (gv _)]
theorem Lp.I_clos{r:Lp}(hr:r.Ok)(s:Nat):∀ o∈r.I s,∀ dom:Name->Bool,(∀ i,dom [i,1]=true)->O.clos dom o=true:=by
 intro o ho dom hd
 have kY:∀ x∈LI r.m,dom x=true:=fun x hx=>by
  obtain⟨i,_,rfl⟩:=List.mem_map.1 hx
  exact hd _
 rcases List.mem_cons.1 ho with rfl | ho
 ·exact hr.closE _ _ (gv _) kY
 ·exact hr.closF _ _ _ (gv _) kY _ ho
theorem Lp.y_setU{r:Lp}(hr:r.Ok)(cL:∀ j,r.st j=none){s:Nat}(hs:s<r.n)(obj:Name->Option O)(tm:Name)(ho:∀ nm,dt nm=true->obj nm=aS (r.I s) nm):
 r.y.toSpec.app obj tm (.yld [0,1]::r.vals s)=⟨True,.v (.bool true),jg obj (r.I (s+1))⟩:=by
 have sT:(LI r.m).Nodup:=List.Pairwise.map _ (fun a b h=>by simpa using h) List.nodup_range
 have pU:([0,1]:Name)∉LI r.m:=fun h=>by
  obtain⟨i,_,hi⟩:=List.mem_map.1 h
  simp at hi
 have h0:obj [0,1]=some (r.rc (LI r.m) .ready none):=by
  rw[ho _ rfl];rfl
 have hF:ct obj (LI r.m) (r.fam (LI r.m) s):=by
  rw[lG]
  refine List.ext_getElem (by rw[List.length_map,List.length_map,gv,hr.len _ _ (gv _)]) fun i h3 h4=>?_
  simp only[List.getElem_map,LI,List.getElem_range]
  rw[ho _ rfl]
  simp only[Lp.I,aS,List.getElem?_cons_succ]
  have h5:i<(r.fam (LI r.m) s).length:=by simpa using h4
  rw[List.getElem?_eq_getElem h5]
  rfl
 have sR:=Lp.y_app hr hs (fun j _=>cL j) (t:=tm) (gv _) sT pU h0 hF
 rw[sR,cL s]
 simp only[Option.isNone_none,if_true]
 congr 1
 funext nm
 have hlen:=hr.len (LI r.m) (s+1) (gv _)
 by_cases hR:nm=[0,1]
 ·subst hR
  rw[aU]
  rfl
 ·rw[ba _ _ _ hR]
  unfold jg
  cases hx:dt nm with
  |false=>
   rw[yS hx,uj]
   intro iW
   obtain⟨i,_,rfl⟩:=List.mem_map.1 iW
   cases hx
  |true=>
   obtain⟨i,rfl⟩:=uP.1 hx
   have eO:=Hi (obj:=obj) (F:=r.fam (LI r.m) (s+1)) sT (by rw[gv,hlen])
   match i,hR with
   | 0,hR=>exact(hR rfl).elim
   |i+1,_=>
    simp only[Lp.I,aS,List.getElem?_cons_succ]
    by_cases hi:i<r.m
    ·have h6:=Cx eO i (by rw[gv];exact hi) (by rw[hlen];exact hi)
     simp only[LI,List.getElem_map,List.getElem_range]at h6
     rw[show (r.fam (LI r.m) (s+1))[i]?=some (r.fam (LI r.m) (s+1))[i]from List.getElem?_eq_getElem (by rw[hlen];exact hi)]
     exact h6
    ·rw[List.getElem?_eq_none (by rw[hlen];omega),uj]
     intro iW
     obtain⟨j,zR,Em⟩:=List.mem_map.1 iW
     have :=List.mem_range.1 zR
     simp at Em
     omega
theorem Lp.go_e{r:Lp}(cL:∀ j,r.st j=none):r.e=r.n/\r.pd=none:=by
 have :(List.range r.n).find? (fun s=>(r.st s).isSome)=none:=List.find?_eq_none.2 fun s _=>by rw[cL s];decide
 unfold Lp.e Lp.pd
 rw[this]
 exact⟨rfl,rfl⟩
theorem Lp.go_end{P:Program}{r:Lp}(hr:r.Ok)(cL:∀ j,r.st j=none){σ:S}(fa:∀ i,σ.obj [i,1]=aS (r.I r.n) [i,1]):
 (b9 P σ []).ok/\(b9 P σ []).d=.tup []/\gq (r.rc (LI r.m) .ready none::r.fam (LI r.m) 0) ⟨(0,r.fin (LI r.m))::fk 1 (r.fam (LI r.m) r.e),[],.tup []⟩ σ:=by
 obtain⟨e1,e2⟩:=Lp.go_e cL
 refine Lp.it_end hr ?_ ?_
 ·rw[fa]
  unfold Lp.fin
  rw[e2]
  rfl
 ·rw[lG,e1]
  refine List.ext_getElem (by rw[List.length_map,List.length_map,gv,hr.len _ _ (gv _)]) fun i h3 h4=>?_
  simp only[List.getElem_map,LI,List.getElem_range]
  rw[fa]
  simp only[Lp.I,aS,List.getElem?_cons_succ]
  have h5:i<(r.fam (LI r.m) r.n).length:=by simpa using h4
  rw[List.getElem?_eq_getElem h5]
  rfl
theorem Lp.itC_sound{P:Program}{r:Lp}(hr:r.Ok)(cL:∀ j,r.st j=none){caps:List Name->List D}{f:FuncId}{fn:Func}{nt:Nat}(hf:P.funcs[f]?=some fn)(cB:fn.ntmps=nt)(cg:fn.results.toList=[])(hn:(fn.name== "runtime.NumGoroutine")=false)(hy:f<1000000000)
 (hw:∃ c,fn.body=some c/\(caps (LI r.m)).length+1<=nt/\CL P [c] (bm nt [0] (aS (r.I 0)) (dD 0 (.yld [0,1]::caps (LI r.m))) []) (fun e σ=>(e=.normal\/e=.ret)/\∀ i,σ.obj [i,1]=aS (r.I r.n) [i,1])):aM P f (r.itC caps).toSpec:=by
 obtain⟨c,hc,hl,hw⟩:=hw
 refine mI hf hc cB cg (iz hf hc hn) (Nat.ne_of_lt (show f<yid from hy)) ?_
 rintro os ds ⟨rfl,rfl⟩
 refine⟨by simpa using hl,CW.mono (gr hw) ?_⟩
 rintro e σ ⟨he,fa⟩
 rcases he with rfl | rfl
 ·exact Lp.go_end hr cL fa
 ·exact Lp.go_end hr cL fa
theorem Lp.it_sound{P:Program}{r:Lp}(hr:r.Ok)(cL:∀ j,r.st j=none){caps:List V}{f:FuncId}{fn:Func}{nt:Nat}(hf:P.funcs[f]?=some fn)(cB:fn.ntmps=nt)(cg:fn.results.toList=[])(hn:(fn.name== "runtime.NumGoroutine")=false)(hy:f<1000000000)
 (hw:∃ c,fn.body=some c/\caps.length+1<=nt/\CL P [c] (bm nt [0] (aS (r.I 0)) (dD 0 (.yld [0,1]::caps.map .v)) []) (fun e σ=>(e=.normal\/e=.ret)/\∀ i,σ.obj [i,1]=aS (r.I r.n) [i,1])):aM P f (r.it caps).toSpec:=by
 obtain⟨c,hc,hl,hw⟩:=hw
 refine mI hf hc cB cg (iz hf hc hn) (Nat.ne_of_lt (show f<yid from hy)) ?_
 rintro os ds ⟨rfl,rfl⟩
 refine⟨by simpa using hl,CW.mono (gr hw) ?_⟩
 rintro e σ ⟨he,fa⟩
 rcases he with rfl | rfl
 ·exact Lp.go_end hr cL fa
 ·exact Lp.go_end hr cL fa
noncomputable section
def qk(obj:Name->Option O)(t:Name):List D->R
 |[.ref nv 0,.v (.int .i64 pa),.v (.sl lv)]=>match jt obj nv with
  |some (nb,nd,x)=>⟨oA obj nv nb nd x/\obj (3::0::t)=none,.clo (.func 193) [] [.ref (3::0::t) 0,.v (.ptr [vInt pa]),.v (.ptr [.sl lv])],upd obj (3::0::t) (some (.box [.ref nv 0]))⟩
  |_=>.bad obj
 |_=>.bad obj
def Bu(obj:Name->Option O)(t:Name):List D->List Name
 | .ref nv _::_=>(3::0::t)::nv::(match obj nv with | some (.box [_,_,_,.map nb,.map nd])=>[nb,nd] | _=>[])
 |_=>[]
def withS:Spec:=⟨qk,Bu,Bu⟩
theorem Zr{obj obj2:Name->Option O}{nv:Name}(h1:obj2 nv=obj nv)(h2:∀ nm∈(match obj nv with | some (.box [_,_,_,.map nb,.map nd])=>[nb,nd] | _=>[]),obj2 nm=obj nm):jt obj2 nv=jt obj nv:=by
 unfold jt
 rw[h1]
 split
 ·rename_i lp rs ts nb nd h
  rw[h]at h2
  rw[h2 nb (by simp),h2 nd (by simp)]
 ·rfl
theorem Zq{obj:Name->Option O}{nv nb nd:Name}{x:Vw}(h:jt obj nv=some (nb,nd,x)):(match obj nv with | some (.box [_,_,_,.map nb,.map nd])=>[nb,nd] | _=>[])=[nb,nd]:=by
 unfold jt at h
 split at h
 ·rename_i e
  split at h
  ·cases h;rw[e]
  ·cases h
 ·cases h
theorem PE:withS.Near:=by
 refine sb fun obj obj2 t ds ha=>?_
 unfold Bu at ha |-
 split
 ·rename_i nv off r
  simp only at ha
  have h1:obj2 nv=obj nv:=ha nv (by simp)
  have hg:=Zr h1 fun nm hn=>ha nm (by simp[hn])
  refine⟨by rw[h1],?_⟩
  unfold qk
  split
  ·rename_i nv' pa lv e
   cases e
   simp only[hg]
   split
   ·rename_i nb nd x hx
    have aD:=Zq hx
    rw[aD]at ha |-
    have ab:oA obj2 nv nb nd x=oA obj nv nb nd x:=by unfold oA;rw[h1,ha nb (by simp),ha nd (by simp)]
    rw[ab,ha (3::0::t) (by simp)]
    exact .one (by simp) ha
   ·exact .none _ ha
  ·exact .none _ ha
 ·refine⟨rfl,?_⟩
  rename_i oN
  unfold qk
  split
  ·exact(oN _ _ _ rfl).elim
  ·exact .none _ (fun _ h=>by cases h)
attribute [go_sem] withS qk
def yh:CSpec where
 pre:=fun os ds=>∃ (x:Vw) (pa:Int) (lv:List V),os=[bg x [1,1] [2,1],.map 2 (bM x.bk),.map 0 (bE x.ds)]/\ds=[.ref [0,1] 0,.v (vInt pa),.v (.sl lv)]
 out:=fun _ ds=>match ds with
  |[_,.v p,.v l]=>⟨[],[([3,0],.box [.ref [0,1] 0])],.clo (.func 193) [] [.ref [3,0] 0,.v (.ptr [p]),.v (.ptr [l])]⟩
  |_=>⟨[],[],.any⟩
theorem PD{f:FuncId}(h:aM Tryz.prog f yh.toSpec)(aG:f≠yid):aM Tryz.prog f withS:=by
 refine rS h PE aG fun obj t ds ab=>?_
 change (qk obj t ds).ok at ab
 refine⟨ds,rfl,fun _ _ _ _ h=>h,?_⟩
 show _/\_=(qk obj t ds).d/\_=(qk obj t ds).obj
 unfold qk at ab |-
 split at ab
 ·rename_i nv pa lv
  split at ab
  ·rename_i nb nd x Ev
   obtain⟨hv,dj⟩:=ab
   have su:=hv
   obtain⟨h1,h2,h3,h4,h5,h6⟩:=su
   have n4:nv≠nb:=by simpa using h4
   have n5:nv≠nd:=by simpa using h5
   have n6:nb≠nd:=by simpa using h6
   have hr:=H8 hv [vInt pa,.sl lv]
   simp only[List.map_cons,List.map_nil]at hr
   have i0:idx [nv,nb,nd] nv=0:=by simp[idx]
   have i1:idx [nv,nb,nd] nb=1:=by simp[idx,n4]
   have i2:idx [nv,nb,nd] nd=2:=by simp[idx,n5,n6]
   have e1:cJ obj [.ref nv 0,.v (vInt pa),.v (.sl lv)]=[bg x [1,1] [2,1],.map 2 (bM x.bk),.map 0 (bE x.ds)]:=by
    unfold cJ
    rw[hr]
    simp only[List.map_cons,List.map_nil,cP,h1,h2,h3,bg,O.ren,D.renL,D.ren,cin,i1,i2]
   have e2:cY obj [.ref nv 0,.v (vInt pa),.v (.sl lv)]=[.ref [0,1] 0,.v (vInt pa),.v (.sl lv)]:=by
    unfold cY
    rw[hr]
    simp only[D.renL,D.ren,cin,i0]
   have e5:(shut obj [nv,nb,nd]&&D.closL (cv [nv,nb,nd]) [.ref nv 0,.v (vInt pa),.v (.sl lv)]&&fresh obj t [([3,0],.box [.ref [0,1] 0])])=true:=by
    simp[shut,h1,h2,h3,bg,O.clos,D.closL,D.clos,cv,fresh,dj]
   have e4:yh.pre [bg x [1,1] [2,1],.map 2 (bM x.bk),.map 0 (bE x.ds)] [.ref [0,1] 0,.v (vInt pa),.v (.sl lv)]:=⟨x,pa,lv,rfl,rfl⟩
   have e6:∀ os,yh.out os [.ref [0,1] 0,.v (vInt pa),.v (.sl lv)]=⟨[],[([3,0],.box [.ref [0,1] 0])],.clo (.func 193) [] [.ref [3,0] 0,.v (.ptr [vInt pa]),.v (.ptr [.sl lv])]⟩:=fun _=>rfl
   have vo:cY obj [.ref nv 0,.v (V.int .i64 pa),.v (.sl lv)]=[.ref [0,1] 0,.v (vInt pa),.v (.sl lv)]:=e2
   have ZK:cJ obj [.ref nv 0,.v (V.int .i64 pa),.v (.sl lv)]=_:=e1
   have qR:reach obj [.ref nv 0,.v (V.int .i64 pa),.v (.sl lv)]=_:=hr
   have ZI:(shut obj [nv,nb,nd]&&D.closL (cv [nv,nb,nd]) [.ref nv 0,.v (V.int .i64 pa),.v (.sl lv)]&&fresh obj t [([3,0],.box [.ref [0,1] 0])])=true:=e5
   simp only[CSpec.toSpec,ZK,vo,qR,e6,e4,ZI,Ev,and_self,dE,cS]
   exact⟨trivial,rfl,rfl⟩
  ·exact ab.elim
 ·exact ab.elim
def S164:Spec:=withS
attribute [go_sem] S164
set_option maxHeartbeats 4000000 in
theorem Dg:aM Tryz.prog 164 S164:=by
 refine PD ?_ (ke _ (by decide))
 refine mI (nt:=8) (rs:=[.tmp 6]) Tryz.func164 rfl (by rfl) (by kernel_rfl) (iz Tryz.func164 rfl (by kernel_rfl)) (ke _ (by decide)) ?_
 rintro os ds ⟨x,pa,lv,rfl,rfl⟩
 refine⟨lb rfl,?_⟩
 have fw:∀ os,yh.out os [.ref [0,1] 0,.v (vInt pa),.v (.sl lv)]=⟨[],[([3,0],.box [.ref [0,1] 0])],.clo (.func 193) [] [.ref [3,0] 0,.v (.ptr [vInt pa]),.v (.ptr [.sl lv])]⟩:=fun _=>rfl
 rw[fw]
 refine gr ?_
 have hΓ:=@dT Tryz.prog
 have hO:∀ hs,bG [0] (bC [0] hs) (aS [bg x [1,1] [2,1],.map 2 (bM x.bk),.map 0 (bE x.ds)])=True:=fun hs=>eq_true (lE (by
  intro o ho dom hd
  simp only[List.mem_cons,List.not_mem_nil,or_false]at ho
  rcases ho with rfl | rfl | rfl
  ·simp[bg,O.clos,D.closL,D.clos,hd]
  ·rfl
  ·rfl) hs)
 have h0:aS [bg x [1,1] [2,1],.map 2 (bM x.bk),.map 0 (bE x.ds)] [0,1]=some (bg x [1,1] [2,1]):=rfl
 have h1:aS [bg x [1,1] [2,1],.map 2 (bM x.bk),.map 0 (bE x.ds)] [1,1]=some (.map 2 (bM x.bk)):=rfl
 have h2:aS [bg x [1,1] [2,1],.map 2 (bM x.bk),.map 0 (bE x.ds)] [2,1]=some (.map 0 (bE x.ds)):=rfl
 generalize aS [bg x [1,1] [2,1],.map 2 (bM x.bk),.map 0 (bE x.ds)]=H at *
 repeat refine sq ?_
 refine rx hΓ [3,4,5] [[3,0],[4,0],[5,0]] (fun K' hK=>by simp only[go_sem,hO];(repeat (refine⟨ao,?_⟩));exact hK _ (by simp only[go_sem,hO]) (by simp only[go_sem,hO]<;>rfl)) ?_
 refine bH (cZ 4 (.ref [4,0] 0) (by simp only[go_sem]) (by simp only[go_sem]) [3,4,5] [[3,0],[4,0],[5,0]] ?_ rfl) ?_
 ·simp only[go_sem,hO]
 simp only[go_sem,hO]
 refine bH (cZ 5 (.ref [5,0] 0) (by simp only[go_sem]) (by simp only[go_sem]) [3,4,5] [[3,0]] ?_ rfl) ?_
 ·simp only[go_sem,hO]
 simp only[go_sem,hO]
 repeat refine sq ?_
 refine rx hΓ [6] [[3,0],[4,0],[5,0]] (fun K' hK=>by simp only[go_sem,hO];(repeat (refine⟨ao,?_⟩));exact hK _ (by simp only[go_sem,hO]) (by simp only[go_sem,hO]<;>rfl)) ?_
 refine aq ?_
 simp only[go_sem,hO]
 exact⟨⟨h0,h1,h2⟩,rfl⟩
end
attribute [go_sem] wL
theorem uB(lv:List Int):pG (194,[.ptr [.sl (lv.map vInt)]])=fun n=>lv.contains n:=by
 funext n
 simp only[pG,p9]
set_option maxHeartbeats 8000000 in
theorem PT{sY:Spec}(hY:aM Tryz.prog yid sY){x:Vw}{nb nd:Name}{pa:Int}{lv:List Int}{ia ic:Nat}{I:Nat->List O}(hv:∀ r∈x.rs,dG r=true)(gm:x.rs.length<=60)
 (hI:∀ s,(I s).length=(I 0).length) (hc:∀ s,∀ o∈I s,∀ dom:Name->Bool,(∀ i,dom [i,1]=true)->O.clos dom o=true)
 (ha:aS (I 0) [ia,1]=some (.box [.ref [ic,1] 0])) (hx:aS (I 0) [ic,1]=some (bg x nb nd))
 (cL:∀ s (h:s<x.rs.length),il pa lv x.rs[s]=false->I (s+1)=I s)
 (k9:∀ s (h:s<x.rs.length),il pa lv x.rs[s]=true->∀ obj tm,(∀ nm,dt nm=true->obj nm=aS (I s) nm)->sY.app obj tm [.yld [0,1],gS x.rs[s]]=⟨True,.v (.bool true),jg obj (I (s+1))⟩):
 ∃ c',Tryz.f193.body=some c'/\CL Tryz.prog [c'] (bm 33 [0] (aS (I 0)) [(0,⟨true,.yld [0,1]⟩),(1,⟨true,.ref [ia,1] 0⟩),(2,⟨true,.v (.ptr [vInt pa])⟩),(3,⟨true,.v (.ptr [.sl (lv.map vInt)])⟩)] [])
   (fun e σ=>(e=.normal\/e=.ret)/\∀ i,σ.obj [i,1]=aS (I x.rs.length) [i,1]):=by
 refine⟨_,rfl,?_⟩
 obtain⟨Γ,hΓ,et,dP⟩:∃ Γ:FuncId->Option Spec,(∀ f s,Γ f=some s->aM Tryz.prog f s)/\Γ 160=some S160/\Γ 1000000000=some sY:=by
  refine⟨fun f=>if f=160 then some S160 else if f=1000000000 then some sY else none,fun f s h=>?_,rfl,rfl⟩
  dsimp only at h
  split at h
  ·rename_i e;cases h;subst e;exact Dh
  ·split at h
   ·rename_i e;cases h;subst e;exact hY
   ·cases h
 have hO:∀ s hs,bG [0] (bC [0] hs) (aS (I s))=True:=fun s hs=>eq_true (lE (hc s) hs)
 have pI:∀ s,jg (aS (I s)) (I (s+1))=aS (I (s+1)):=fun s=>He ((hI _).trans (hI s).symm)
 obtain⟨H,hH⟩:∃ H:Nat->Name->Option O,∀ s,aS (I s)=H s:=⟨_,fun _=>rfl⟩
 simp only[hH]at hO pI k9 ha hx |-
 simp only[bg]at hx
 have sA:x.rs.length<=maxLen:=by unfold maxLen;omega
 repeat refine sq ?_
 refine rx hΓ [0,2,3,10,11,12] [] (fun K' hK=>by simp only[go_sem,hO,ha,hx];(repeat (refine⟨ao,?_⟩));exact hK _ (by simp only[go_sem,hO,ha,hx]) (by simp only[go_sem,hO,ha,hx]<;>rfl)) ?_
 repeat refine sq ?_
 refine aC ?_
 repeat refine sq ?_
 refine xJ (fun s:Nat=>bm 33 [0] (H s) [(0,⟨true,.yld [0,1]⟩),(2,⟨true,.v (.ptr [vInt pa])⟩),(3,⟨true,.v (.ptr [.sl (lv.map vInt)])⟩),(10,⟨true,.v (.sl (x.rs.map encR))⟩),(11,⟨true,.v (vInt x.rs.length)⟩),(12,⟨true,.v (vInt s)⟩)] [])
  (fun s=>s<=x.rs.length) (fun s=>x.rs.length-s) 0 (Nat.zero_le _) (ef.refl _) ?_
 rintro i hi
 repeat refine sq ?_
 refine rx hΓ [0,2,3,10,11,12,13] [] (fun K' hK=>by simp only[go_sem,hO];(repeat (refine⟨ao,?_⟩));exact hK _ (by simp only[go_sem,hO]) (by simp only[go_sem,hO]<;>rfl)) ?_
 repeat refine sq ?_
 refine au (fun hb=>?_) fun hb=>?_
 ·have aa:i<x.rs.length:=by simpa using hb
  have an:(i:Int)<x.rs.length:=by omega
  have wP:IntKind.i64.wrap ((i:Int)+1)=((i+1:Nat):Int):=aO aa sA
  clear hb
  have hlf:=H6 (hv x.rs[i] (List.getElem_mem aa))
  repeat refine sq ?_
  refine ay ?_
  repeat refine sq ?_
  refine aC ?_
  repeat refine sq ?_
  refine rx hΓ [0,2,3,6,10,11,12] [[6,0]] (fun K' hK=>by simp only[go_sem,hO,ae aa,ah,aj,an];(repeat (refine⟨ao,?_⟩));exact hK _ (by simp only[go_sem,hO,ae aa,ah,aj,an]) (by simp only[go_sem,hO,ae aa,ah,aj,an]<;>rfl)) ?_
  have Mp:(if il pa lv x.rs[i]=true then H (i+1)else H i)=H (i+1):=by
   split
   ·rfl
   ·rename_i h;rw[<-hH,<-hH,cL i aa (by simpa using h)]
  by_cases uW:x.rs[i].pa=pa
  ·have jS:(x.rs[i].pa==pa)=true:=by simp[uW]
   cases ir:x.rs[i].lv.any fun n=>lv.contains n with
   |true=>
    have nH:il pa lv x.rs[i]=true:=by unfold il;rw[ir];simp[uW]
    have pT:=fun (F:Name->Option O) (tm:Name)=>k9 i aa nH (fun nm=>if own [0] nm=true then F nm else H i nm) tm fun nm hn=>by
     obtain⟨k,rfl⟩:=uP.1 hn
     simp[qy]
    simp only[gS]at pT
    repeat refine sq ?_
    refine rx hΓ [0,2,3,10,11,12,31] [] (fun K' hK=>by simp only[go_sem,hO,et,dP,jS,uB,ir,pT,uK,vH,pI,Bool.not_true];(repeat (refine⟨by first | exact ao | exact⟨trivial,.inr (.inr ⟨_,rfl⟩)⟩ | exact .inr (.inr ⟨_,rfl⟩),?_⟩));exact hK _ (by simp only[go_sem,hO,et,dP,jS,uB,ir,pT,uK,vH,pI,Bool.not_true]) (by simp only[go_sem,hO,et,dP,jS,uB,ir,pT,uK,vH,pI,Bool.not_true]<;>rfl)) ?_
    repeat refine sq ?_
    refine au (fun hb=>?_) fun hb=>?_
    ·cases hb
    repeat refine sq ?_
    refine ay ?_
    refine br ?_
    simp only[go_sem]
    refine dv [0,2,3,10,11,12] [] ?_ ?_
    ·simp only[go_sem,hO]
    simp only[go_sem,hO]
    repeat refine sq ?_
    refine aI hΓ fun K' hK=>?_
    simp only[go_sem]
    repeat (refine⟨ao,?_⟩)
    refine hK _ ?_
    clear K' hK
    simp only[go_sem]
    refine⟨i+1,aa,by omega,?_⟩
    refine aT [0,2,3,10,11,12] [] ?_ ?_<;>simp only[go_sem,hO,wP,aQ]
   |false=>
    have nH:il pa lv x.rs[i]=false:=by unfold il;rw[ir];simp
    have EN:H (i+1)=H i:=by rw[<-hH,<-hH,cL i aa nH]
    repeat refine sq ?_
    refine rx hΓ [0,2,3,10,11,12,31] [] (fun K' hK=>by simp only[go_sem,hO,et,dP,jS,uB,ir];(repeat (refine⟨by first | exact ao | exact⟨trivial,.inr (.inr ⟨_,rfl⟩)⟩ | exact .inr (.inr ⟨_,rfl⟩),?_⟩));exact hK _ (by simp only[go_sem,hO,et,dP,jS,uB,ir]) (by simp only[go_sem,hO,et,dP,jS,uB,ir]<;>rfl)) ?_
    repeat refine sq ?_
    refine au (fun hb=>?_) fun hb=>?_
    ·cases hb
    repeat refine sq ?_
    refine ay ?_
    refine br ?_
    simp only[go_sem]
    refine dv [0,2,3,10,11,12] [] ?_ ?_
    ·simp only[go_sem,hO]
    simp only[go_sem,hO]
    repeat refine sq ?_
    refine aI hΓ fun K' hK=>?_
    simp only[go_sem]
    repeat (refine⟨ao,?_⟩)
    refine hK _ ?_
    clear K' hK
    simp only[go_sem]
    refine⟨i+1,aa,by omega,?_⟩
    rw[EN]
    refine aT [0,2,3,10,11,12] [] ?_ ?_<;>simp only[go_sem,hO,wP,aQ]
  ·have jS:(x.rs[i].pa==pa)=false:=by simp[uW]
   have nH:il pa lv x.rs[i]=false:=by unfold il;simp[uW]
   have EN:H (i+1)=H i:=by rw[<-hH,<-hH,cL i aa nH]
   repeat refine sq ?_
   refine rx hΓ [0,2,3,10,11,12,31] [] (fun K' hK=>by simp only[go_sem,hO,et,dP,jS];(repeat (refine⟨ao,?_⟩));exact hK _ (by simp only[go_sem,hO,et,dP,jS]) (by simp only[go_sem,hO,et,dP,jS]<;>rfl)) ?_
   repeat refine sq ?_
   refine au (fun hb=>?_) fun hb=>?_
   ·cases hb
   repeat refine sq ?_
   refine ay ?_
   refine br ?_
   simp only[go_sem]
   refine dv [0,2,3,10,11,12] [] ?_ ?_
   ·simp only[go_sem,hO]
   simp only[go_sem,hO]
   repeat refine sq ?_
   refine aI hΓ fun K' hK=>?_
   simp only[go_sem]
   repeat (refine⟨ao,?_⟩)
   refine hK _ ?_
   clear K' hK
   simp only[go_sem]
   refine⟨i+1,aa,by omega,?_⟩
   rw[EN]
   refine aT [0,2,3,10,11,12] [] ?_ ?_<;>simp only[go_sem,hO,wP,aQ]
 ·have aV:i=x.rs.length:=by
    have :¬ (i:Int)<x.rs.length:=by simpa using hb
    omega
  subst aV
  clear hb
  repeat refine sq ?_
  refine be ?_
  simp only[go_sem]
  refine br ?_
  simp only[go_sem]
  first | exact .inl trivial | exact⟨by simp,fun k=>by simp[qy]⟩
end Go.Eng
