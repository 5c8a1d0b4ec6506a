import Derived.Test.YtckmfkgppohnmaaDoorK16
import GoSem.ClaimChange
import Derived.DataReads
import Derived.ChangeReads
import Derived.ProofKit
import Derived.Carry
import Derived.Lib.LaidTab
import Derived.LaidMore
import Derived.Stop.LaidErr
import Derived.Stop.Joined
import Derived.OpenShut
import Derived.Test.YtckmfkgppohnmaaDoorRows
import Derived.Test.YtckmfkgppohnmaaDoorChecked
import Derived.MakeChecks
import Derived.SevenTiedAt
import Derived.Test.YtckmfkgppohnmaaDoorCards
import Derived.Test.YtckmfkgppohnmaaDoorTie
/- Whatever is sent, written, dried, lost in floods, packed, and opened late, twice or never: at any time each paper is at just one parish, or carried from one to just one other; no bag that was packed is refused; no conditions. -/
set_option linter.all false
namespace Go.Eng
open Go Go.Proofs
set_option maxRecDepth 100000
theorem nH{l:List Par}{i:Nat}(h:i<l.length):(l.map encPa).getD i default=.agg [vInt l[i].no,vInt l[i].pa]:=by
 rw[aJ h];rfl
theorem ah9(d:Dk){k:Nat}(hk:k<6):(an d).getD (14+k) default=vInt (d.now.ta.get k):=by
 match k,hk with
 | 0,_ | 1,_ | 2,_ | 3,_ | 4,_ | 5,_=>rfl
theorem ahb(l:List (Int×Int)):∀ y∈l.map s7,y.cells.length=2/\y.okc=true:=by
 intro y hy;obtain⟨x,_,rfl⟩:=List.mem_map.1 hy;exact⟨rfl,rfl⟩
noncomputable def PZ:List (Nat×Spec):=[(52,S104),(56,S105)]
theorem adk:∀ f s,tbl PZ f=some s->ak Tryd.prog f s:=tc LK<|tc Yd<|tn
attribute [go_sem] PZ
noncomputable def P69:PSpec:=p2 iY iI (fun _ _=>True) (fun l p=>.tup [.sl ((vz l p).map s7),vInt (fg l p)]) false
noncomputable def S69:Spec:=P69.toSpec
attribute [go_sem] P69 S69
set_option maxHeartbeats 16000000 in
theorem Tv:aR Tryd.prog 22 P69:=by
 refine w2 (rs:=[.tmp 4,.tmp 5]) Tryd.func22 Tryd.ntmps22 (by rfl) (by kernel_rfl) (by decide) (fun h=>by cases h) ⟨_,rfl,lb rfl,fun l p hp hw=>?_⟩
 have hP:=be
 simp only[iY,iI]at hw |-
 have hΓ:=adk
 have hl:l.length<=maxLen:=by have:=hw.1.1;simpa using this
 repeat refine sq ?_
 refine rx hΓ [0,1] [] (fun K' hK=>by simp only[go_sem];(repeat (refine⟨ah,?_⟩));exact hK _ (by simp only[go_sem]) (by simp only[go_sem]<;>rfl)) ?_
 repeat refine sq ?_
 refine rx hΓ [0,1,6] [] (fun K' hK=>by simp only[go_sem];(repeat (refine⟨ah,?_⟩));exact hK _ (by simp only[go_sem]) (by simp only[go_sem]<;>rfl)) ?_
 repeat refine sq ?_
 refine rx hΓ [0,1,6,19] [] (fun K' hK=>by simp only[go_sem];(repeat (refine⟨ah,?_⟩));exact hK _ (by simp only[go_sem]) (by simp only[go_sem]<;>rfl)) ?_
 repeat refine sq ?_
 refine au rfl rfl (fun hb=>?_) (fun hb=>?_)
 ·repeat refine sq ?_
  have he:fg l p≠0:=by simpa using hb
  repeat refine sq ?_
  refine rx hΓ [4,5] [[71,0]] (fun K' hK=>by simp only[go_sem];(repeat (refine⟨ah,?_⟩));exact hK _ (by simp only[go_sem]) (by simp only[go_sem]<;>rfl)) ?_
  refine ar ?_
  simp only[go_sem]
  first | (rw[AX he];done) | (rw[AX he];rfl) | (rw[xL he,he];done) | (rw[xL he,he];rfl)
 ·repeat refine sq ?_
  have he:fg l p=0:=by simpa using hb
  have e8:=(yR he).1
  refine ax ?_
  repeat refine sq ?_
  refine rx hΓ [0,1,7] [[71,0]] (fun K' hK=>by simp only[go_sem];(repeat (refine⟨ah,?_⟩));exact hK _ (by simp only[go_sem]) (by simp only[go_sem]<;>rfl)) ?_
  refine aL (tL 7 [71,0] 2 (by simp only[go_sem]) (by simp only[go_sem]) [0,1,7] [[71,0]] ?_ rfl) ?_
  ·simp only[go_sem]
  simp only[go_sem]
  repeat refine sq ?_
  refine rx hΓ [0,1,7,21,22,23] [[71,0]] (fun K' hK=>by simp only[go_sem];(repeat (refine⟨ah,?_⟩));exact hK _ (by simp only[go_sem]) (by simp only[go_sem]<;>rfl)) ?_
  repeat refine sq ?_
  refine aN ?_
  repeat refine sq ?_
  refine cN (fun z:Nat=>[(23,⟨true,.v (vInt z)⟩),(7,⟨true,.msl [71,0] (fH l p z).length⟩)]) (fun z=>[([71,0],.arr 2 ((fH l p z).map s7))]) (fun z=>z<=l.length) (fun z=>l.length-z) 0 ?_ ?_ ?_ ?_
  ·exact Nat.zero_le _
  ·rfl
  ·rfl
  rintro i hi
  simp only[go_sem]
  repeat refine sq ?_
  refine rx hΓ [0,1,7,21,22,23,24] [[71,0]] (fun K' hK=>by simp only[go_sem];(repeat (refine⟨ah,?_⟩));exact hK _ (by simp only[go_sem]) (by simp only[go_sem]<;>rfl)) ?_
  repeat refine sq ?_
  refine au rfl rfl (fun hb=>?_) (fun hb=>?_)
  ·have ae:i<l.length:=by simpa using hb
   have ai:(i:Int)<l.length:=by omega
   clear hb
   have aa:=(gH.1 ((td e8).2 i ae)).1
   obtain⟨d,hd⟩:∃ d,d=l[i]:=⟨_,rfl⟩
   have eC:(l.map encDk).getD i default=.agg (an d):=by rw[hd];exact cS ae
   have hlen:∀ k z,k<6->(gj l p (fH l p i) d k z).length<=10000:=fun k z hk=>by rw[hd];exact abI e8 ae hk
   have e0:fH l p i=gj l p (fH l p i) d 0 0:=(abL l p _ d).symm
   have e6:fH l p (i+1)=gj l p (fH l p i) d 6 0:=by rw[hd];exact abK ae
   rw[<-hd]at aa
   obtain⟨c,hc⟩:∃ c,c=fH l p i:=⟨_,rfl⟩
   rw[<-hc]at e0 e6 hlen |-
   rw[e0]
   have dY:=aa.m0
   have dF:=aa.m6
   repeat refine sq ?_
   refine ax ?_
   repeat refine sq ?_
   refine aN ?_
   repeat refine sq ?_
   refine rx hΓ [0,1,7,9,21,22,23] [[9,0],[71,0]] (fun K' hK=>by simp only[go_sem,eC,Int.toNat_natCast,Int.natCast_nonneg,ai,List.length_map,eC,Int.toNat_natCast,Int.natCast_nonneg,ai,List.length_map,List.append_nil];(repeat (refine⟨ah,?_⟩));exact hK _ (by simp only[go_sem]) (by simp only[go_sem]<;>rfl)) ?_
   refine aL (cG [9,0] (an d) rfl [0,1,7,9,21,22,23] [[9,0],[71,0]] ?_ rfl) ?_
   ·simp only[go_sem]
   simp only[go_sem]
   repeat refine sq ?_
   refine rx hΓ [0,1,7,9,21,22,23,29,30] [[9,0],[71,0]] (fun K' hK=>by simp only[go_sem,eC,Int.toNat_natCast,Int.natCast_nonneg,ai,List.length_map,aa'];(repeat (refine⟨ah,?_⟩));exact hK _ (by simp only[go_sem]) (by simp only[go_sem]<;>rfl)) ?_
   repeat refine sq ?_
   refine aN ?_
   repeat refine sq ?_
   refine cN (fun z:Nat=>[(30,⟨true,.v (vInt z)⟩),(7,⟨true,.msl [71,0] (gj l p c d z 0).length⟩)]) (fun z=>[([71,0],.arr 2 ((gj l p c d z 0).map s7))]) (fun z=>z<=6) (fun z=>6-z) 0 ?_ ?_ ?_ ?_
   ·exact Nat.zero_le _
   ·rfl
   ·rfl
   rintro i1 hi
   simp only[go_sem]
   repeat refine sq ?_
   refine rx hΓ [0,1,7,9,21,22,23,29,30,31] [[9,0],[71,0]] (fun K' hK=>by simp only[go_sem,eC,Int.toNat_natCast,Int.natCast_nonneg,ai,List.length_map];(repeat (refine⟨ah,?_⟩));exact hK _ (by simp only[go_sem]) (by simp only[go_sem]<;>rfl)) ?_
   repeat refine sq ?_
   refine au rfl rfl (fun hb=>?_) (fun hb=>?_)
   ·have cR:i1<6:=by have hq:(i1:Int)<6:=(by simpa using hb);omega
    have ev:(i1:Int)<6:=by omega
    clear hb
    have wL:=(aa.un i1 cR).2
    have dZ:(d.now.un.get i1).length<=maxLen:=by unfold maxLen;omega
    repeat refine sq ?_
    refine ax ?_
    repeat refine sq ?_
    refine aN ?_
    repeat refine sq ?_
    refine rx hΓ [0,1,7,9,10,11,21,22,23,29,30] [[9,0],[10,0],[71,0]] (fun K' hK=>by simp only[go_sem,eC,Int.toNat_natCast,Int.natCast_nonneg,ai,List.length_map,Int.toNat_natCast,Int.natCast_nonneg,ev,aS.L_get d.now.un rowP default cR,Int.toNat_natCast,Int.natCast_nonneg,ev];(repeat (refine⟨ah,?_⟩));exact hK _ (by simp only[go_sem]) (by simp only[go_sem]<;>rfl)) ?_
    refine aL (cG [10,0] ([vInt (i1:Int)]) rfl [0,1,7,9,10,11,21,22,23,29,30] [[9,0],[10,0],[71,0]] ?_ rfl) ?_
    ·simp only[go_sem]
    simp only[go_sem]
    repeat refine sq ?_
    refine rx hΓ [0,1,7,9,10,11,12,21,22,23,29,30] [[9,0],[10,0],[71,0]] (fun K' hK=>by simp only[go_sem,eC,Int.toNat_natCast,Int.natCast_nonneg,ai,List.length_map,Int.toNat_natCast,Int.natCast_nonneg,ev];(repeat (refine⟨ah,?_⟩));exact hK _ (by simp only[go_sem]) (by simp only[go_sem]<;>rfl)) ?_
    repeat refine sq ?_
    refine rx hΓ [0,1,7,9,10,12,21,22,23,29,30,37,38,39] [[9,0],[10,0],[71,0]] (fun K' hK=>by simp only[go_sem,eC,Int.toNat_natCast,Int.natCast_nonneg,ai,List.length_map,Int.toNat_natCast,Int.natCast_nonneg,ev];(repeat (refine⟨ah,?_⟩));exact hK _ (by simp only[go_sem]) (by simp only[go_sem]<;>rfl)) ?_
    repeat refine sq ?_
    refine aN ?_
    repeat refine sq ?_
    refine cN (fun z:Nat=>[(39,⟨true,.v (vInt z)⟩),(7,⟨true,.msl [71,0] (gj l p c d i1 z).length⟩)]) (fun z=>[([71,0],.arr 2 ((gj l p c d i1 z).map s7))]) (fun z=>z<=(d.now.un.get i1).length) (fun z=>(d.now.un.get i1).length-z) 0 ?_ ?_ ?_ ?_
    ·exact Nat.zero_le _
    ·rfl
    ·rfl
    rintro i2 hi
    simp only[go_sem]
    repeat refine sq ?_
    refine rx hΓ [0,1,7,9,10,12,21,22,23,29,30,37,38,39,40] [[9,0],[10,0],[71,0]] (fun K' hK=>by simp only[go_sem,eC,Int.toNat_natCast,Int.natCast_nonneg,ai,List.length_map,Int.toNat_natCast,Int.natCast_nonneg,ev];(repeat (refine⟨ah,?_⟩));exact hK _ (by simp only[go_sem]) (by simp only[go_sem]<;>rfl)) ?_
    repeat refine sq ?_
    refine au rfl rfl (fun hb=>?_) (fun hb=>?_)
    ·have cQ:i2<(d.now.un.get i1).length:=by simpa using hb
     have jy:(i2:Int)<(d.now.un.get i1).length:=by omega
     clear hb
     have hz:=hlen i1 i2 cR
     repeat refine sq ?_
     refine ax ?_
     repeat refine sq ?_
     refine aN ?_
     repeat refine sq ?_
     refine rx hΓ [0,1,7,9,10,12,14,21,22,23,29,30,37,38,39] [[9,0],[10,0],[14,0],[71,0]] (fun K' hK=>by simp only[go_sem,eC,Int.toNat_natCast,Int.natCast_nonneg,ai,List.length_map,Int.toNat_natCast,Int.natCast_nonneg,ev,nH cQ,Int.toNat_natCast,Int.natCast_nonneg,jy,List.length_map,nH cQ,Int.toNat_natCast,Int.natCast_nonneg,jy,List.length_map,List.append_nil];(repeat (refine⟨ah,?_⟩));exact hK _ (by simp only[go_sem]) (by simp only[go_sem]<;>rfl)) ?_
     rcases hj:decide (fj (iW (i1:Int)) l<0)with _ | _
     ·obtain⟨j,ir,jW⟩:=YC (of_decide_eq_false hj)
      have qy:(j:Int)<(l.length:Int):=by omega
      have qz:decide ((j:Int)<0)=false:=decide_eq_false (by omega)
      have hq:mW l p d i1 (d.now.un.get i1)[i2]=((d.now.un.get i1)[i2].pa==p&&decide ((d.now.un.get i1)[i2].no>l[j].now.ta.get d.me.toNat)):=by unfold mW;rw[HA ir jW]
      repeat refine sq ?_
      refine dx hΓ hP [[],[0],[],[0,1,2],[0,1,2,3],[0,1,2,3,4],[0,1,2,3,4,5],[0,1,2,3,4,5,6],[0,1,2,3,4,5,6,7],[0,1,2,3,4,5,6,7,8],[0,1,2,3,4,5,6,7],[0,1,2,3,4,5,6,7],[0,1,2,3,4,5,6,7],[0,1,2,3,4,5,6,7,12],[0,1,2,3,4,5,6,7,10,11],[0,1,2,3,4,5,6,7,10,11,14],[0,1,2,3,4,5,6,7,10,11,14,15],[0,1,2,3,4,5,6,7,10,11,12,13,14,15,16],[0,1,2,3,4,5,6,7,10,11,12,13,14,15,16,17],[0,1,2,3,4,5,6,7,8,9,10,11,12,13,14,15,16,17,18],[0,1,2,3,4,5,6,7,8,9,10,11,12,13,14,15,16,17,18,19],[0,1,2,3,4,5,6,7,8,9,10,11,12,13,14,15,16,17,18,19,20]] [0,1,7,9,10,12,21,22,23,29,30,37,38,39,64] [[9,0],[10,0],[71,0]] (by kernel_rfl) (fun K' hK=>by simp only[go_sem,eC,Int.toNat_natCast,Int.natCast_nonneg,ai,List.length_map,Int.toNat_natCast,Int.natCast_nonneg,ev,nH cQ,Int.toNat_natCast,Int.natCast_nonneg,jy,List.length_map,ir,qz,cS jW,Bx _ vInt (show d.me.toNat<6 by omega),Bw _ (show d.me.toNat<6 by omega),dY,dF,qy,Int.toNat_natCast,Int.natCast_nonneg,List.length_map];(repeat (refine⟨by first | exact fun h=>⟨h,by omega,by show d.me.toNat+1<=6;omega⟩ | exact fun h=>⟨h,h⟩ | exact ah,?_⟩));(first | refine⟨by rfl,?_⟩ | skip);exact hK _ (by simp only[go_sem]) (by simp only[go_sem]<;>rfl)) ?_
      repeat refine sq ?_
      refine au rfl rfl (fun hb=>?_) (fun hb=>?_)
      ·repeat refine sq ?_
       have e:=Ov c cQ (hq.trans (by simpa using hb))
       repeat refine sq ?_
       refine aP hΓ fun K' hK=>?_
       simp only[go_sem,eC,Int.toNat_natCast,Int.natCast_nonneg,ai,List.length_map,Int.toNat_natCast,Int.natCast_nonneg,ev,nH cQ,Int.toNat_natCast,Int.natCast_nonneg,jy,List.length_map,ir,qz,cS jW,Bx _ vInt (show d.me.toNat<6 by omega),Bw _ (show d.me.toNat<6 by omega),dY,dF,qy,Int.toNat_natCast,Int.natCast_nonneg,List.length_map,List.map_append,List.length_append,List.map_cons,List.map_nil,List.length_cons,List.length_nil]
       repeat (refine⟨by first | exact⟨rfl,by omega,by unfold maxLen;omega⟩ | exact ah,?_⟩)
       refine hK _ ?_
       clear K' hK
       simp only[go_sem]
       refine kp [0,1,7,9,10,12,21,22,23,29,30,37,38,39] [[9,0],[10,0],[71,0]] ?_
       repeat refine sq ?_
       refine aP hΓ fun K' hK=>?_
       simp only[go_sem,eC,Int.toNat_natCast,Int.natCast_nonneg,ai,List.length_map,Int.toNat_natCast,Int.natCast_nonneg,ev,nH cQ,Int.toNat_natCast,Int.natCast_nonneg,jy,List.length_map,ir,qz,cS jW,Bx _ vInt (show d.me.toNat<6 by omega),Bw _ (show d.me.toNat<6 by omega),dY,dF,qy,Int.toNat_natCast,Int.natCast_nonneg,List.length_map]
       repeat (refine⟨ah,?_⟩)
       refine hK _ ?_
       clear K' hK
       simp only[go_sem]
       refine⟨i2+1,cQ,by(show (d.now.un.get i1).length-(i2+1)<(d.now.un.get i1).length-i2;omega),?_⟩
       refine bk [0,1,7,9,10,12,21,22,23,29,30,37,38,39] [[9,0],[10,0],[71,0]] ?_ ?_
       ·simp only[go_sem,aF cQ dZ,Int.natCast_add,Int.natCast_one,ir,e,List.map_append,List.length_append,List.map_cons,List.map_nil,List.length_cons,List.length_nil]
       ·simp only[go_sem,aF cQ dZ,Int.natCast_add,Int.natCast_one,ir,e,List.map_append,List.length_append,List.map_cons,List.map_nil,List.length_cons,List.length_nil]
      ·repeat refine sq ?_
       have e:=Ow c cQ (hq.trans (by simpa using hb))
       refine ax ?_
       refine cM ?_
       simp only[go_sem]
       refine kp [0,1,7,9,10,12,21,22,23,29,30,37,38,39] [[9,0],[10,0],[71,0]] ?_
       repeat refine sq ?_
       refine aP hΓ fun K' hK=>?_
       simp only[go_sem,eC,Int.toNat_natCast,Int.natCast_nonneg,ai,List.length_map,Int.toNat_natCast,Int.natCast_nonneg,ev,nH cQ,Int.toNat_natCast,Int.natCast_nonneg,jy,List.length_map,ir,qz,cS jW,Bx _ vInt (show d.me.toNat<6 by omega),Bw _ (show d.me.toNat<6 by omega),dY,dF,qy,Int.toNat_natCast,Int.natCast_nonneg,List.length_map]
       repeat (refine⟨ah,?_⟩)
       refine hK _ ?_
       clear K' hK
       simp only[go_sem]
       refine⟨i2+1,cQ,by(show (d.now.un.get i1).length-(i2+1)<(d.now.un.get i1).length-i2;omega),?_⟩
       refine bk [0,1,7,9,10,12,21,22,23,29,30,37,38,39] [[9,0],[10,0],[71,0]] ?_ ?_
       ·simp only[go_sem,aF cQ dZ,Int.natCast_add,Int.natCast_one,ir,e,List.map_append,List.length_append,List.map_cons,List.map_nil,List.length_cons,List.length_nil]
       ·simp only[go_sem,aF cQ dZ,Int.natCast_add,Int.natCast_one,ir,e,List.map_append,List.length_append,List.map_cons,List.map_nil,List.length_cons,List.length_nil]
     ·have hq:mW l p d i1 (d.now.un.get i1)[i2]=((d.now.un.get i1)[i2].pa==p):=by
       have :=(yf.1 (aa.un i1 cR).1 i2 cQ).2.1
       unfold mW;rw[RN (of_decide_eq_true hj),decide_eq_true (show (d.now.un.get i1)[i2].no> -1 by omega),Bool.and_true]
      have ir:=True.intro
      repeat refine sq ?_
      refine dx hΓ hP [[],[0],[],[0,1,2],[0,1,2,3],[0,1,2,3,4],[0,1,2,3,4,5],[0,1,2,3,4,5,6],[0,1,2,3,4,5,6,7],[0,1,2,3,4,5,6,7,8],[0,1,2,3,4,5,6,7],[0,1,2,3,4,5,6,7],[0,1,2,3,4,5,6,7],[0,1,2,3,4,5,6,7,12],[0,1,2,3,4,5,6,7,10,11],[0,1,2,3,4,5,6,7,10,11,14],[0,1,2,3,4,5,6,7,10,11,14,15],[0,1,2,3,4,5,6,7,10,11,12,13,14,15,16],[0,1,2,3,4,5,6,7,10,11,12,13,14,15,16,17],[0,1,2,3,4,5,6,7,8,9,10,11,12,13,14,15,16,17,18],[0,1,2,3,4,5,6,7,8,9,10,11,12,13,14,15,16,17,18,19],[0,1,2,3,4,5,6,7,8,9,10,11,12,13,14,15,16,17,18,19,20]] [0,1,7,9,10,12,21,22,23,29,30,37,38,39,64] [[9,0],[10,0],[71,0]] (by kernel_rfl) (fun K' hK=>by simp only[go_sem,eC,Int.toNat_natCast,Int.natCast_nonneg,ai,List.length_map,Int.toNat_natCast,Int.natCast_nonneg,ev,nH cQ,Int.toNat_natCast,Int.natCast_nonneg,jy,List.length_map,hj];(repeat (refine⟨by first | exact fun h=>⟨h,by omega,by show d.me.toNat+1<=6;omega⟩ | exact fun h=>⟨h,h⟩ | exact ah,?_⟩));(first | refine⟨by rfl,?_⟩ | skip);exact hK _ (by simp only[go_sem]) (by simp only[go_sem]<;>rfl)) ?_
      repeat refine sq ?_
      refine au rfl rfl (fun hb=>?_) (fun hb=>?_)
      ·repeat refine sq ?_
       have e:=Ov c cQ (hq.trans (by simpa using hb))
       repeat refine sq ?_
       refine aP hΓ fun K' hK=>?_
       simp only[go_sem,eC,Int.toNat_natCast,Int.natCast_nonneg,ai,List.length_map,Int.toNat_natCast,Int.natCast_nonneg,ev,nH cQ,Int.toNat_natCast,Int.natCast_nonneg,jy,List.length_map,hj,List.map_append,List.length_append,List.map_cons,List.map_nil,List.length_cons,List.length_nil]
       repeat (refine⟨by first | exact⟨rfl,by omega,by unfold maxLen;omega⟩ | exact ah,?_⟩)
       refine hK _ ?_
       clear K' hK
       simp only[go_sem]
       refine kp [0,1,7,9,10,12,21,22,23,29,30,37,38,39] [[9,0],[10,0],[71,0]] ?_
       repeat refine sq ?_
       refine aP hΓ fun K' hK=>?_
       simp only[go_sem,eC,Int.toNat_natCast,Int.natCast_nonneg,ai,List.length_map,Int.toNat_natCast,Int.natCast_nonneg,ev,nH cQ,Int.toNat_natCast,Int.natCast_nonneg,jy,List.length_map,hj]
       repeat (refine⟨ah,?_⟩)
       refine hK _ ?_
       clear K' hK
       simp only[go_sem]
       refine⟨i2+1,cQ,by(show (d.now.un.get i1).length-(i2+1)<(d.now.un.get i1).length-i2;omega),?_⟩
       refine bk [0,1,7,9,10,12,21,22,23,29,30,37,38,39] [[9,0],[10,0],[71,0]] ?_ ?_
       ·simp only[go_sem,aF cQ dZ,Int.natCast_add,Int.natCast_one,ir,e,List.map_append,List.length_append,List.map_cons,List.map_nil,List.length_cons,List.length_nil]
       ·simp only[go_sem,aF cQ dZ,Int.natCast_add,Int.natCast_one,ir,e,List.map_append,List.length_append,List.map_cons,List.map_nil,List.length_cons,List.length_nil]
      ·repeat refine sq ?_
       have e:=Ow c cQ (hq.trans (by simpa using hb))
       refine ax ?_
       refine cM ?_
       simp only[go_sem]
       refine kp [0,1,7,9,10,12,21,22,23,29,30,37,38,39] [[9,0],[10,0],[71,0]] ?_
       repeat refine sq ?_
       refine aP hΓ fun K' hK=>?_
       simp only[go_sem,eC,Int.toNat_natCast,Int.natCast_nonneg,ai,List.length_map,Int.toNat_natCast,Int.natCast_nonneg,ev,nH cQ,Int.toNat_natCast,Int.natCast_nonneg,jy,List.length_map,hj]
       repeat (refine⟨ah,?_⟩)
       refine hK _ ?_
       clear K' hK
       simp only[go_sem]
       refine⟨i2+1,cQ,by(show (d.now.un.get i1).length-(i2+1)<(d.now.un.get i1).length-i2;omega),?_⟩
       refine bk [0,1,7,9,10,12,21,22,23,29,30,37,38,39] [[9,0],[10,0],[71,0]] ?_ ?_
       ·simp only[go_sem,aF cQ dZ,Int.natCast_add,Int.natCast_one,ir,e,List.map_append,List.length_append,List.map_cons,List.map_nil,List.length_cons,List.length_nil]
       ·simp only[go_sem,aF cQ dZ,Int.natCast_add,Int.natCast_one,ir,e,List.map_append,List.length_append,List.map_cons,List.map_nil,List.length_cons,List.length_nil]
    ·have EM:i2=(d.now.un.get i1).length:=by
      have :¬ (i2:Int)<(d.now.un.get i1).length:=by simpa using hb
      omega
     clear hb
     rw[EM,<-abJ]
     repeat refine sq ?_
     refine cr ?_
     simp only[go_sem]
     refine kp [0,1,7,9,21,22,23,29,30] [[9,0],[71,0]] ?_
     repeat refine sq ?_
     refine aP hΓ fun K' hK=>?_
     simp only[go_sem,eC,Int.toNat_natCast,Int.natCast_nonneg,ai,List.length_map,Int.toNat_natCast,Int.natCast_nonneg,ev]
     repeat (refine⟨ah,?_⟩)
     refine hK _ ?_
     clear K' hK
     simp only[go_sem]
     refine⟨i1+1,cR,by(show 6-(i1+1)<6-i1;omega),?_⟩
     refine bk [0,1,7,9,21,22,23,29,30] [[9,0],[71,0]] ?_ ?_
     ·simp only[go_sem,aF cR (lb rfl:(6:Nat)<=maxLen),Int.natCast_add,Int.natCast_one,List.length_map]
     ·simp only[go_sem,aF cR (lb rfl:(6:Nat)<=maxLen),Int.natCast_add,Int.natCast_one,List.length_map]
   ·have sK:i1=6:=by
     have :¬ (i1:Int)<6:=by simpa using hb
     omega
    clear hb
    rw[sK,<-e6]
    repeat refine sq ?_
    refine cr ?_
    simp only[go_sem]
    refine kp [0,1,7,21,22,23] [[71,0]] ?_
    repeat refine sq ?_
    refine aP hΓ fun K' hK=>?_
    simp only[go_sem,eC,Int.toNat_natCast,Int.natCast_nonneg,ai,List.length_map]
    repeat (refine⟨ah,?_⟩)
    refine hK _ ?_
    clear K' hK
    simp only[go_sem]
    refine⟨i+1,ae,by(show l.length-(i+1)<l.length-i;omega),?_⟩
    refine bk [0,1,7,21,22,23] [[71,0]] ?_ ?_
    ·simp only[go_sem,aF ae hl,Int.natCast_add,Int.natCast_one,List.length_map]
    ·simp only[go_sem,aF ae hl,Int.natCast_add,Int.natCast_one,List.length_map]
  ·have bb:i=l.length:=by
    have :¬ (i:Int)<l.length:=by simpa using hb
    omega
   clear hb
   subst bb
   repeat refine sq ?_
   refine cr ?_
   simp only[go_sem]
   refine kp [7] [[71,0]] ?_
   repeat refine sq ?_
   refine rx hΓ [4,5] [[71,0]] (fun K' hK=>by simp only[go_sem];(repeat (refine⟨ah,?_⟩));exact hK _ (by simp only[go_sem]) (by simp only[go_sem]<;>rfl)) ?_
   refine ar ?_
   simp only[go_sem]
   first | (rw[AX he];done) | (rw[AX he];rfl) | (rw[xL he,he];done) | (rw[xL he,he];rfl)
theorem XL:ak Tryd.prog 22 S69:=Tv.sound
theorem Hs(x:Sx):x.ds.L encDk=(dz x).map encDk:=rfl
noncomputable def PX:List (Nat×Spec):=[(29,S108),(20,S70),(22,S69)]
theorem adi:∀ f s,tbl PX f=some s->ak Tryd.prog f s:=tc Ds<|tc XK<|tc XL<|tn
attribute [go_sem] PX
noncomputable def P509:PSpec:=p1 uL (fun x=>∃ n,mg n x) (fun _=>.bool true) true
noncomputable def S509:Spec:=P509.toSpec
attribute [go_sem] P509 S509
set_option maxHeartbeats 8000000 in
theorem TI:aR Tryd.prog 9 P509:=by
 refine w1 (rs:=[.tmp 2]) Tryd.func9 Tryd.ntmps9 (by rfl) (by kernel_rfl) (by decide) (fun _ _=>rfl) ⟨_,rfl,lb rfl,fun x hp hw=>?_⟩
 have hP:=be
 simp only[uL]at hw |-
 have hΓ:=adi
 obtain⟨n,hx⟩:=hp
 repeat refine sq ?_
 refine rx hΓ [1] [[1,0]] (fun K' hK=>by simp only[go_sem];(repeat (refine⟨ah,?_⟩));exact hK _ (by simp only[go_sem]) (by simp only[go_sem]<;>rfl)) ?_
 refine aL (cG [1,0] (cw x) rfl [1] [[1,0]] ?_ rfl) ?_
 ·simp only[go_sem]
 simp only[go_sem]
 repeat refine sq ?_
 refine rx hΓ [1,3] [[1,0]] (fun K' hK=>by simp only[go_sem];(repeat (refine⟨ah,?_⟩));exact hK _ (by simp only[go_sem]) (by simp only[go_sem]<;>rfl)) ?_
 repeat refine sq ?_
 refine aN ?_
 repeat refine sq ?_
 refine cN (fun z:Nat=>[(3,⟨true,.v (vInt z)⟩)]) (fun z=>[]) (fun z=>z<=6) (fun z=>6-z) 0 ?_ ?_ ?_ ?_
 ·exact Nat.zero_le _
 ·rfl
 ·rfl
 rintro i hi
 simp only[go_sem]
 repeat refine sq ?_
 refine rx hΓ [1,3,11] [[1,0]] (fun K' hK=>by simp only[go_sem];(repeat (refine⟨ah,?_⟩));exact hK _ (by simp only[go_sem]) (by simp only[go_sem]<;>rfl)) ?_
 repeat refine sq ?_
 refine au rfl rfl (fun hb=>?_) (fun hb=>?_)
 ·have ae:i<6:=by have hq:(i:Int)<6:=(by simpa using hb);omega
  have ai:(i:Int)<6:=by omega
  clear hb
  have hr:(0:Int)<=(i:Int)/\(i:Int)<6:=⟨by omega,by omega⟩
  obtain⟨l,hl⟩:∃ l,l=bV (i:Int):=⟨_,rfl⟩
  have Mz:l.length<=maxLen:=by rw[hl];exact(lb rfl:(3:Nat)<=maxLen)
  repeat refine sq ?_
  refine ax ?_
  repeat refine sq ?_
  refine aN ?_
  repeat refine sq ?_
  refine rx hΓ [1,3,4] [[1,0]] (fun K' hK=>by simp only[go_sem,Int.toNat_natCast,Int.natCast_nonneg,ai,hr,<-hl];(repeat (refine⟨by first | exact hr | exact ah,?_⟩));exact hK _ (by simp only[go_sem]) (by simp only[go_sem]<;>rfl)) ?_
  repeat refine sq ?_
  refine rx hΓ [1,3,4,5] [[1,0]] (fun K' hK=>by simp only[go_sem,Int.toNat_natCast,Int.natCast_nonneg,ai];(repeat (refine⟨ah,?_⟩));exact hK _ (by simp only[go_sem]) (by simp only[go_sem]<;>rfl)) ?_
  repeat refine sq ?_
  refine aN ?_
  repeat refine sq ?_
  refine cN (fun z:Nat=>[(5,⟨true,.v (vInt z)⟩)]) (fun z=>[]) (fun z=>z<=l.length) (fun z=>l.length-z) 0 ?_ ?_ ?_ ?_
  ·exact Nat.zero_le _
  ·rfl
  ·rfl
  rintro i1 hi
  simp only[go_sem]
  repeat refine sq ?_
  refine rx hΓ [1,3,4,5,19] [[1,0]] (fun K' hK=>by simp only[go_sem,Int.toNat_natCast,Int.natCast_nonneg,ai];(repeat (refine⟨ah,?_⟩));exact hK _ (by simp only[go_sem]) (by simp only[go_sem]<;>rfl)) ?_
  repeat refine sq ?_
  refine au rfl rfl (fun hb=>?_) (fun hb=>?_)
  ·have cR:i1<l.length:=by simpa using hb
   have ev:(i1:Int)<l.length:=by omega
   clear hb
   obtain⟨e1,e2⟩:=Ve hx ae (p:=l[i1]) (by rw[<-hl];exact List.getElem_mem _)
   have eJ:IntKind.i64.wrap (((rp (dz x) l[i1]).length:Int)+((vz (dz x) l[i1]).length:Int))=1:=by rw[show ((rp (dz x) l[i1]).length:Int)+((vz (dz x) l[i1]).length:Int)=1 by omega];decide
   repeat refine sq ?_
   refine ax ?_
   repeat refine sq ?_
   refine aN ?_
   repeat refine sq ?_
   refine dx hΓ hP [[],[0],[],[],[2,3],[2,3,4],[0,1,2,3,4,5],[0,1,2,3,4,5,6],[0,1,2,3,4,5,6,7],[0,1,2,3,4,5,6,7],[0,1,2,3,4,5,6,7,8],[0,1,2,3,4,5,6,7,8,9,10]] [1,3,4,5,6,7] [[1,0]] (by kernel_rfl) (fun K' hK=>by simp only[go_sem,Int.toNat_natCast,Int.natCast_nonneg,ai,aJ cR,Int.toNat_natCast,Int.natCast_nonneg,ev,List.length_map,Hs,aJ cR,Int.toNat_natCast,Int.natCast_nonneg,ev,List.length_map,e1];(repeat (refine⟨ah,?_⟩));(first | refine⟨by rfl,?_⟩ | skip);exact hK _ (by simp only[go_sem]) (by simp only[go_sem]<;>rfl)) ?_
   repeat refine sq ?_
   refine dx hΓ hP [[],[0],[],[],[2,3],[2,3,4],[0,1,2,3,4,5],[0,1,2,3,4,5,6],[0,1,2,3,4,5,6,7],[0,1,2,3,4,5,6,7],[0,1,2,3,4,5,6,7,8],[0,1,2,3,4,5,6,7,8,9,10]] [1,3,4,5,6,7,8,9] [[1,0]] (by kernel_rfl) (fun K' hK=>by simp only[go_sem,Int.toNat_natCast,Int.natCast_nonneg,ai,aJ cR,Int.toNat_natCast,Int.natCast_nonneg,ev,List.length_map,Hs,aJ cR,Int.toNat_natCast,Int.natCast_nonneg,ev,List.length_map,e1];(repeat (refine⟨ah,?_⟩));(first | refine⟨by rfl,?_⟩ | skip);exact hK _ (by simp only[go_sem]) (by simp only[go_sem]<;>rfl)) ?_
   repeat refine sq ?_
   refine rx hΓ [1,3,4,5,55] [[1,0]] (fun K' hK=>by simp only[go_sem,Int.toNat_natCast,Int.natCast_nonneg,ai,aJ cR,Int.toNat_natCast,Int.natCast_nonneg,ev,List.length_map,eJ,List.length_map];(repeat (refine⟨ah,?_⟩));exact hK _ (by simp only[go_sem]) (by simp only[go_sem]<;>rfl)) ?_
   repeat refine sq ?_
   refine au rfl rfl (fun hb=>?_) (fun hb=>?_)
   ·cases hb
   ·repeat refine sq ?_
    refine ax ?_
    refine cM ?_
    simp only[go_sem]
    refine kp [1,3,4,5] [[1,0]] ?_
    repeat refine sq ?_
    refine aP hΓ fun K' hK=>?_
    simp only[go_sem,Int.toNat_natCast,Int.natCast_nonneg,ai,aJ cR,Int.toNat_natCast,Int.natCast_nonneg,ev,List.length_map]
    repeat (refine⟨ah,?_⟩)
    refine hK _ ?_
    clear K' hK
    simp only[go_sem]
    refine⟨i1+1,cR,by(show l.length-(i1+1)<l.length-i1;omega),?_⟩
    refine bk [1,3,4,5] [[1,0]] ?_ ?_
    ·simp only[go_sem,aF cR Mz,Int.natCast_add,Int.natCast_one,List.length_map]
    ·simp only[go_sem,aF cR Mz,Int.natCast_add,Int.natCast_one,List.length_map]
  ·have sK:i1=l.length:=by
    have :¬ (i1:Int)<l.length:=by simpa using hb
    omega
   clear hb
   subst sK
   repeat refine sq ?_
   refine cr ?_
   simp only[go_sem]
   refine kp [1,3] [[1,0]] ?_
   repeat refine sq ?_
   refine aP hΓ fun K' hK=>?_
   simp only[go_sem,Int.toNat_natCast,Int.natCast_nonneg,ai]
   repeat (refine⟨ah,?_⟩)
   refine hK _ ?_
   clear K' hK
   simp only[go_sem]
   refine⟨i+1,ae,by(show 6-(i+1)<6-i;omega),?_⟩
   refine bk [1,3] [[1,0]] ?_ ?_
   ·simp only[go_sem,aF ae (lb rfl:(6:Nat)<=maxLen),Int.natCast_add,Int.natCast_one,List.length_map]
   ·simp only[go_sem,aF ae (lb rfl:(6:Nat)<=maxLen),Int.natCast_add,Int.natCast_one,List.length_map]
 ·have bb:i=6:=by
   have :¬ (i:Int)<6:=by simpa using hb
   omega
  clear hb
  subst bb
  repeat refine sq ?_
  refine cr ?_
  simp only[go_sem]
  refine kp [] [] ?_
  repeat refine sq ?_
  refine rx hΓ [2] [] (fun K' hK=>by simp only[go_sem];(repeat (refine⟨ah,?_⟩));exact hK _ (by simp only[go_sem]) (by simp only[go_sem]<;>rfl)) ?_
  refine ar ?_
  simp only[go_sem]
  skip
theorem XW:ak Tryd.prog 9 S509:=TI.sound
theorem Vk(x:Sx):∀ y∈x.ds.L encDk,y.cells.length=63/\y.okc=true:=by
 intro y hy
 unfold aS.L at hy
 simp only[List.mem_cons,List.not_mem_nil,or_false]at hy
 rcases hy with rfl | rfl | rfl | rfl | rfl | rfl<;>exact⟨rfl,rfl⟩
@[go_sem] theorem ad1(x:Sx):List.drop 1 (List.map D.v (cw x))=[.v (.sl (x.bs.map fX))]:=rfl
theorem adY(x:Sx):List.take 1 (List.map D.v (cw x))=[.v (.sl (x.ds.L encDk))]:=rfl
theorem PU(x:Sx)(e:Dk){k:Nat}(h:k<6):(x.ds.L encDk).set k (.agg (an e))=(x.ds.set k e).L encDk:=by
 match k,h with
 | 0,_ | 1,_ | 2,_ | 3,_ | 4,_ | 5,_=>rfl
noncomputable def PW:List (Nat×Spec):=[(12,S21),(30,S109),(14,S8),(15,S10),(16,S12),(31,S14),(18,S16),(17,S26)]
theorem adh:∀ f s,tbl PW f=some s->ak Tryd.prog f s:=tc zy<|tc LJ<|tc k8<|tc LM<|tc LH<|tc LG<|tc LF<|tc X4<|tn
attribute [go_sem] PW
noncomputable def P508:PSpec:=p2 uL sa (fun x _=>∃ n,n<=1000/\mg n x) (fun x y=>.tup [.agg (cw (iA x y)),.bool true]) false
noncomputable def S508:Spec:=P508.toSpec
attribute [go_sem] P508 S508
set_option maxHeartbeats 16000000 in
theorem TJ:aR Tryd.prog 8 P508:=by
 refine w2 (rs:=[.cell 4 26,.tmp 5]) Tryd.func8 Tryd.ntmps8 (by rfl) (by kernel_rfl) (by decide) (fun h=>by cases h) ⟨_,rfl,lb rfl,fun x y hp hw=>?_⟩
 have hP:=be
 simp only[sa,uL]at hw |-
 have hΓ:=adh
 obtain⟨n,hn,hx⟩:=hp
 have hp:=hx.ok.mono hn
 obtain⟨k,hk⟩:∃ k,k=dv y:=⟨_,rfl⟩
 have gR:k<6:=by rw[hk];exact F3 y
 have MB:(y.dk % 6).toNat=k:=hk.symm
 have r0:(0:Int)<=y.dk % 6:=by omega
 have r6:y.dk % 6<6:=by omega
 have dF:(0:Int)<6/\(6:Int)<=1000000:=by omega
 have Zz:(0:Int)<16/\(16:Int)<=1000000:=by omega
 obtain⟨d,hd⟩:∃ d,d=x.ds.get k:=⟨_,rfl⟩
 have ZD:(x.ds.L encDk).getD k default=encDk d:=by rw[hd];exact aS.L_get x.ds encDk default gR
 have mK:ay d=true:=by rw[hd];exact hp.ok k gR
 have e8:eO d:=by rw[hd];exact hp.sz k gR
 have ba:d.me=(k:Int):=by rw[hd];exact hp.me k gR
 have uZ:d.now.ho.length<=1000000:=by have:=(wo mK).hol;omega
 have jR:∀ e:Dk,(x.ds.L encDk).set k (.agg (an e))=(x.ds.set k e).L encDk:=fun e=>PU x e gR
 have vh:lS y=y.to % 6:=rfl
 have hE:=eT mK
 have bf:(x.ds.L encDk).length=6:=rfl
 have q0:=r0
 have q6:=r6
 have qk:=MB
 have hln:x.bs.length<=1000:=hp.ln
 repeat refine sq ?_
 refine rx hΓ [2,3,4] [[2,0],[3,0],[4,0],[16,0],[132,0],[135,0]] (fun K' hK=>by simp only[go_sem];(repeat (refine⟨ah,?_⟩));exact hK _ (by simp only[go_sem]) (by simp only[go_sem]<;>rfl)) ?_
 refine aL (cG [3,0] (kb y) rfl [2,3,4] [[2,0],[3,0],[4,0],[16,0],[132,0],[135,0]] ?_ rfl) ?_
 ·simp only[go_sem]
 simp only[go_sem]
 repeat refine sq ?_
 refine rx hΓ [2,3,4] [[2,0],[3,0],[4,0],[16,0],[132,0],[135,0]] (fun K' hK=>by simp only[go_sem,bf,List.nil_append];(repeat (refine⟨by first | exact⟨Vk x,rfl,by unfold maxLen;omega⟩ | exact ah,?_⟩));exact hK _ (by simp only[go_sem]) (by simp only[go_sem]<;>rfl)) ?_
 repeat refine sq ?_
 refine rx hΓ [2,3,4,6] [[2,0],[3,0],[4,0],[16,0],[132,0],[135,0]] (fun K' hK=>by simp only[go_sem];(repeat (refine⟨by first | exact dF | exact ah,?_⟩));exact hK _ (by simp only[go_sem]) (by simp only[go_sem]<;>rfl)) ?_
 repeat refine sq ?_
 refine rx hΓ [2,3,4,6,7] [[2,0],[3,0],[4,0],[7,0],[16,0],[132,0],[135,0]] (fun K' hK=>by simp only[go_sem,Nat.zero_add,MB,r0,r6,ZD,bf,List.append_nil];(repeat (refine⟨ah,?_⟩));exact hK _ (by simp only[go_sem]) (by simp only[go_sem]<;>rfl)) ?_
 repeat refine sq ?_
 refine rx hΓ [2,3,4,6,7,8] [[2,0],[3,0],[4,0],[7,0],[16,0],[132,0],[135,0]] (fun K' hK=>by simp only[go_sem];(repeat (refine⟨by first | exact dF | exact ah,?_⟩));exact hK _ (by simp only[go_sem]) (by simp only[go_sem]<;>rfl)) ?_
 repeat refine sq ?_
 refine rx hΓ [2,3,4,6,7,8] [[2,0],[3,0],[4,0],[7,0],[16,0],[132,0],[135,0]] (fun K' hK=>by simp only[go_sem];(repeat (refine⟨ah,?_⟩));exact hK _ (by simp only[go_sem]) (by simp only[go_sem]<;>rfl)) ?_
 repeat refine sq ?_
 refine rx hΓ [2,3,4,6,7,8,31] [[2,0],[3,0],[4,0],[7,0],[16,0],[132,0],[135,0]] (fun K' hK=>by simp only[go_sem];(repeat (refine⟨by first | exact Zz | exact ah,?_⟩));exact hK _ (by simp only[go_sem]) (by simp only[go_sem]<;>rfl)) ?_
 repeat refine sq ?_
 refine aN ?_
 repeat refine sq ?_
 refine rx hΓ [2,3,4,6,7,8,31,68] [[2,0],[3,0],[4,0],[7,0],[16,0],[132,0],[135,0]] (fun K' hK=>by simp only[go_sem];(repeat (refine⟨ah,?_⟩));exact hK _ (by simp only[go_sem]) (by simp only[go_sem]<;>rfl)) ?_
 repeat refine sq ?_
 refine au rfl rfl (fun hb=>?_) (fun hb=>?_)
 ·repeat refine sq ?_
  have nV:=hb
  refine ax ?_
  repeat refine sq ?_
  refine au rfl rfl (fun hb=>?_) (fun hb=>?_)
  ·repeat refine sq ?_
   have e:=xF (x:=x) (y:=y) (by show y.kd % 16=0\/y.kd % 16=1\/y.kd % 16=2;have h5:=nV;simp only[beq_iff_eq]at h5;omega)
   rw[<-hk,<-hd,vh]at e
   have wQ:=B' (p:=ia d.now.ho y.pp) (t:=y.to % 6) mK (Cw (gH.1 mK).1 _)
   repeat refine sq ?_
   refine dx hΓ hP [[],[],[],[1,2],[],[0,1,2,3,4],[0,1,2,3,4,5],[0,1,2,3,4,5,6],[0,1,2,3,4,5,6],[0,1,2,3,4,5,6,7],[0,1,2,3,4,5,6,7,8,9]] [2,4,6,7,9] [[2,0],[4,0],[7,0],[16,0],[132,0],[135,0]] (by kernel_rfl) (fun K' hK=>by simp only[go_sem,uZ,e8,List.append_nil];(repeat (refine⟨by first | exact uZ | exact e8 | exact ah,?_⟩));(first | refine⟨by rfl,?_⟩ | skip);exact hK _ (by simp only[go_sem]) (by simp only[go_sem]<;>rfl)) ?_
   repeat refine sq ?_
   refine rx hΓ [2,4,6,7,9,90] [[2,0],[4,0],[7,0],[16,0],[132,0],[135,0]] (fun K' hK=>by simp only[go_sem];(repeat (refine⟨ah,?_⟩));exact hK _ (by simp only[go_sem]) (by simp only[go_sem]<;>rfl)) ?_
   repeat refine sq ?_
   refine au rfl rfl (fun hb=>?_) (fun hb=>?_)
   ·repeat refine sq ?_
    have al:¬ c7 d (ia d.now.ho y.pp) (y.to % 6)=0:=by intro h0;rw[h0]at hb;simp at hb
    rw[if_neg al]at e
    repeat refine sq ?_
    refine rx hΓ [4,5] [[4,0],[16,0],[132,0],[135,0]] (fun K' hK=>by simp only[go_sem];(repeat (refine⟨ah,?_⟩));exact hK _ (by simp only[go_sem]) (by simp only[go_sem]<;>rfl)) ?_
    refine aL (ey [4,0] [16,0] 0 _ _ _ _ rfl rfl rfl (by first | rfl | (simp only[List.length_map,bf];done)) [4,5] [[4,0]] ?_ rfl) ?_
    ·simp only[go_sem,List.set_cons_succ,List.set_cons_zero,bf]
    simp only[go_sem,List.set_cons_succ,List.set_cons_zero,bf]
    refine ar ?_
    simp only[go_sem]
    first | (rw[e];done) | (rw[e];unfold cw;rw[List.map_append];rfl) | (rw[e];rfl)
   ·repeat refine sq ?_
    have fa:c7 d (ia d.now.ho y.pp) (y.to % 6)=0:=by rcases wQ with h | h | h | h<;>first | exact h | (rw[h]at hb;simp at hb)
    rw[if_pos fa]at e
    refine ax ?_
    refine cM ?_
    simp only[go_sem]
    refine kp [2,4,6,7,9] [[2,0],[4,0],[7,0],[16,0],[132,0],[135,0]] ?_
    repeat refine sq ?_
    refine rx hΓ [2,4,6,7,150] [[2,0],[4,0],[7,0],[16,0],[132,0],[135,0]] (fun K' hK=>by simp only[go_sem,fa];(repeat (refine⟨ah,?_⟩));exact hK _ (by simp only[go_sem]) (by simp only[go_sem]<;>rfl)) ?_
    repeat refine sq ?_
    refine au rfl rfl (fun hb=>?_) (fun hb=>?_)
    ·cases hb
    ·repeat refine sq ?_
     refine ax ?_
     repeat refine sq ?_
     refine rx hΓ [2,4] [[2,0],[4,0],[16,0],[132,0],[135,0]] (fun K' hK=>by simp only[go_sem,Nat.zero_add,q0,q6,qk,jR,bf,List.append_nil];(repeat (refine⟨ah,?_⟩));exact hK _ (by simp only[go_sem]) (by simp only[go_sem]<;>rfl)) ?_
     repeat refine sq ?_
     refine rx hΓ [4,5] [[4,0],[16,0],[132,0],[135,0]] (fun K' hK=>by simp only[go_sem];(repeat (refine⟨ah,?_⟩));exact hK _ (by simp only[go_sem]) (by simp only[go_sem]<;>rfl)) ?_
     refine aL (ey [4,0] [16,0] 0 _ _ _ _ rfl rfl rfl (by first | rfl | (simp only[List.length_map,bf];done)) [4,5] [[4,0]] ?_ rfl) ?_
     ·simp only[go_sem,List.set_cons_succ,List.set_cons_zero,bf]
     simp only[go_sem,List.set_cons_succ,List.set_cons_zero,bf]
     refine ar ?_
     simp only[go_sem]
     first | (rw[e];done) | (rw[e];unfold cw;rw[List.map_append];rfl) | (rw[e];rfl)
  ·exact Bool.noConfusion (nV.symm.trans hb)
 ·repeat refine sq ?_
  have nV:=hb
  repeat refine sq ?_
  refine rx hΓ [2,3,4,6,7,8,31,68] [[2,0],[3,0],[4,0],[7,0],[16,0],[132,0],[135,0]] (fun K' hK=>by simp only[go_sem];(repeat (refine⟨ah,?_⟩));exact hK _ (by simp only[go_sem]) (by simp only[go_sem]<;>rfl)) ?_
  repeat refine sq ?_
  refine au rfl rfl (fun hb=>?_) (fun hb=>?_)
  ·repeat refine sq ?_
   have nV:=hb
   refine ax ?_
   repeat refine sq ?_
   refine au rfl rfl (fun hb=>?_) (fun hb=>?_)
   ·repeat refine sq ?_
    have e:=xF (x:=x) (y:=y) (by show y.kd % 16=0\/y.kd % 16=1\/y.kd % 16=2;have h5:=nV;simp only[beq_iff_eq]at h5;omega)
    rw[<-hk,<-hd,vh]at e
    have wQ:=B' (p:=ia d.now.ho y.pp) (t:=y.to % 6) mK (Cw (gH.1 mK).1 _)
    repeat refine sq ?_
    refine dx hΓ hP [[],[],[],[1,2],[],[0,1,2,3,4],[0,1,2,3,4,5],[0,1,2,3,4,5,6],[0,1,2,3,4,5,6],[0,1,2,3,4,5,6,7],[0,1,2,3,4,5,6,7,8,9]] [2,4,6,7,9] [[2,0],[4,0],[7,0],[16,0],[132,0],[135,0]] (by kernel_rfl) (fun K' hK=>by simp only[go_sem,uZ,e8,List.append_nil];(repeat (refine⟨by first | exact uZ | exact e8 | exact ah,?_⟩));(first | refine⟨by rfl,?_⟩ | skip);exact hK _ (by simp only[go_sem]) (by simp only[go_sem]<;>rfl)) ?_
    repeat refine sq ?_
    refine rx hΓ [2,4,6,7,9,90] [[2,0],[4,0],[7,0],[16,0],[132,0],[135,0]] (fun K' hK=>by simp only[go_sem];(repeat (refine⟨ah,?_⟩));exact hK _ (by simp only[go_sem]) (by simp only[go_sem]<;>rfl)) ?_
    repeat refine sq ?_
    refine au rfl rfl (fun hb=>?_) (fun hb=>?_)
    ·repeat refine sq ?_
     have al:¬ c7 d (ia d.now.ho y.pp) (y.to % 6)=0:=by intro h0;rw[h0]at hb;simp at hb
     rw[if_neg al]at e
     repeat refine sq ?_
     refine rx hΓ [4,5] [[4,0],[16,0],[132,0],[135,0]] (fun K' hK=>by simp only[go_sem];(repeat (refine⟨ah,?_⟩));exact hK _ (by simp only[go_sem]) (by simp only[go_sem]<;>rfl)) ?_
     refine aL (ey [4,0] [16,0] 0 _ _ _ _ rfl rfl rfl (by first | rfl | (simp only[List.length_map,bf];done)) [4,5] [[4,0]] ?_ rfl) ?_
     ·simp only[go_sem,List.set_cons_succ,List.set_cons_zero,bf]
     simp only[go_sem,List.set_cons_succ,List.set_cons_zero,bf]
     refine ar ?_
     simp only[go_sem]
     first | (rw[e];done) | (rw[e];unfold cw;rw[List.map_append];rfl) | (rw[e];rfl)
    ·repeat refine sq ?_
     have fa:c7 d (ia d.now.ho y.pp) (y.to % 6)=0:=by rcases wQ with h | h | h | h<;>first | exact h | (rw[h]at hb;simp at hb)
     rw[if_pos fa]at e
     refine ax ?_
     refine cM ?_
     simp only[go_sem]
     refine kp [2,4,6,7,9] [[2,0],[4,0],[7,0],[16,0],[132,0],[135,0]] ?_
     repeat refine sq ?_
     refine rx hΓ [2,4,6,7,150] [[2,0],[4,0],[7,0],[16,0],[132,0],[135,0]] (fun K' hK=>by simp only[go_sem,fa];(repeat (refine⟨ah,?_⟩));exact hK _ (by simp only[go_sem]) (by simp only[go_sem]<;>rfl)) ?_
     repeat refine sq ?_
     refine au rfl rfl (fun hb=>?_) (fun hb=>?_)
     ·cases hb
     ·repeat refine sq ?_
      refine ax ?_
      repeat refine sq ?_
      refine rx hΓ [2,4] [[2,0],[4,0],[16,0],[132,0],[135,0]] (fun K' hK=>by simp only[go_sem,Nat.zero_add,q0,q6,qk,jR,bf,List.append_nil];(repeat (refine⟨ah,?_⟩));exact hK _ (by simp only[go_sem]) (by simp only[go_sem]<;>rfl)) ?_
      repeat refine sq ?_
      refine rx hΓ [4,5] [[4,0],[16,0],[132,0],[135,0]] (fun K' hK=>by simp only[go_sem];(repeat (refine⟨ah,?_⟩));exact hK _ (by simp only[go_sem]) (by simp only[go_sem]<;>rfl)) ?_
      refine aL (ey [4,0] [16,0] 0 _ _ _ _ rfl rfl rfl (by first | rfl | (simp only[List.length_map,bf];done)) [4,5] [[4,0]] ?_ rfl) ?_
      ·simp only[go_sem,List.set_cons_succ,List.set_cons_zero,bf]
      simp only[go_sem,List.set_cons_succ,List.set_cons_zero,bf]
      refine ar ?_
      simp only[go_sem]
      first | (rw[e];done) | (rw[e];unfold cw;rw[List.map_append];rfl) | (rw[e];rfl)
   ·exact Bool.noConfusion (nV.symm.trans hb)
  ·repeat refine sq ?_
   have nV:=hb
   repeat refine sq ?_
   refine rx hΓ [2,3,4,6,7,8,31,68] [[2,0],[3,0],[4,0],[7,0],[16,0],[132,0],[135,0]] (fun K' hK=>by simp only[go_sem];(repeat (refine⟨ah,?_⟩));exact hK _ (by simp only[go_sem]) (by simp only[go_sem]<;>rfl)) ?_
   repeat refine sq ?_
   refine au rfl rfl (fun hb=>?_) (fun hb=>?_)
   ·repeat refine sq ?_
    have nV:=hb
    have e:=xF (x:=x) (y:=y) (by show y.kd % 16=0\/y.kd % 16=1\/y.kd % 16=2;have h5:=nV;simp only[beq_iff_eq]at h5;omega)
    rw[<-hk,<-hd,vh]at e
    have wQ:=B' (p:=ia d.now.ho y.pp) (t:=y.to % 6) mK (Cw (gH.1 mK).1 _)
    repeat refine sq ?_
    refine dx hΓ hP [[],[],[],[1,2],[],[0,1,2,3,4],[0,1,2,3,4,5],[0,1,2,3,4,5,6],[0,1,2,3,4,5,6],[0,1,2,3,4,5,6,7],[0,1,2,3,4,5,6,7,8,9]] [2,4,6,7,9] [[2,0],[4,0],[7,0],[16,0],[132,0],[135,0]] (by kernel_rfl) (fun K' hK=>by simp only[go_sem,uZ,e8,List.append_nil];(repeat (refine⟨by first | exact uZ | exact e8 | exact ah,?_⟩));(first | refine⟨by rfl,?_⟩ | skip);exact hK _ (by simp only[go_sem]) (by simp only[go_sem]<;>rfl)) ?_
    repeat refine sq ?_
    refine rx hΓ [2,4,6,7,9,90] [[2,0],[4,0],[7,0],[16,0],[132,0],[135,0]] (fun K' hK=>by simp only[go_sem];(repeat (refine⟨ah,?_⟩));exact hK _ (by simp only[go_sem]) (by simp only[go_sem]<;>rfl)) ?_
    repeat refine sq ?_
    refine au rfl rfl (fun hb=>?_) (fun hb=>?_)
    ·repeat refine sq ?_
     have al:¬ c7 d (ia d.now.ho y.pp) (y.to % 6)=0:=by intro h0;rw[h0]at hb;simp at hb
     rw[if_neg al]at e
     repeat refine sq ?_
     refine rx hΓ [4,5] [[4,0],[16,0],[132,0],[135,0]] (fun K' hK=>by simp only[go_sem];(repeat (refine⟨ah,?_⟩));exact hK _ (by simp only[go_sem]) (by simp only[go_sem]<;>rfl)) ?_
     refine aL (ey [4,0] [16,0] 0 _ _ _ _ rfl rfl rfl (by first | rfl | (simp only[List.length_map,bf];done)) [4,5] [[4,0]] ?_ rfl) ?_
     ·simp only[go_sem,List.set_cons_succ,List.set_cons_zero,bf]
     simp only[go_sem,List.set_cons_succ,List.set_cons_zero,bf]
     refine ar ?_
     simp only[go_sem]
     first | (rw[e];done) | (rw[e];unfold cw;rw[List.map_append];rfl) | (rw[e];rfl)
    ·repeat refine sq ?_
     have fa:c7 d (ia d.now.ho y.pp) (y.to % 6)=0:=by rcases wQ with h | h | h | h<;>first | exact h | (rw[h]at hb;simp at hb)
     rw[if_pos fa]at e
     refine ax ?_
     refine cM ?_
     simp only[go_sem]
     refine kp [2,4,6,7,9] [[2,0],[4,0],[7,0],[16,0],[132,0],[135,0]] ?_
     repeat refine sq ?_
     refine rx hΓ [2,4,6,7,150] [[2,0],[4,0],[7,0],[16,0],[132,0],[135,0]] (fun K' hK=>by simp only[go_sem,fa];(repeat (refine⟨ah,?_⟩));exact hK _ (by simp only[go_sem]) (by simp only[go_sem]<;>rfl)) ?_
     repeat refine sq ?_
     refine au rfl rfl (fun hb=>?_) (fun hb=>?_)
     ·cases hb
     ·repeat refine sq ?_
      refine ax ?_
      repeat refine sq ?_
      refine rx hΓ [2,4] [[2,0],[4,0],[16,0],[132,0],[135,0]] (fun K' hK=>by simp only[go_sem,Nat.zero_add,q0,q6,qk,jR,bf,List.append_nil];(repeat (refine⟨ah,?_⟩));exact hK _ (by simp only[go_sem]) (by simp only[go_sem]<;>rfl)) ?_
      repeat refine sq ?_
      refine rx hΓ [4,5] [[4,0],[16,0],[132,0],[135,0]] (fun K' hK=>by simp only[go_sem];(repeat (refine⟨ah,?_⟩));exact hK _ (by simp only[go_sem]) (by simp only[go_sem]<;>rfl)) ?_
      refine aL (ey [4,0] [16,0] 0 _ _ _ _ rfl rfl rfl (by first | rfl | (simp only[List.length_map,bf];done)) [4,5] [[4,0]] ?_ rfl) ?_
      ·simp only[go_sem,List.set_cons_succ,List.set_cons_zero,bf]
      simp only[go_sem,List.set_cons_succ,List.set_cons_zero,bf]
      refine ar ?_
      simp only[go_sem]
      first | (rw[e];done) | (rw[e];unfold cw;rw[List.map_append];rfl) | (rw[e];rfl)
   ·repeat refine sq ?_
    have nV:=hb
    repeat refine sq ?_
    refine rx hΓ [2,3,4,6,7,8,31,92] [[2,0],[3,0],[4,0],[7,0],[16,0],[132,0],[135,0]] (fun K' hK=>by simp only[go_sem];(repeat (refine⟨ah,?_⟩));exact hK _ (by simp only[go_sem]) (by simp only[go_sem]<;>rfl)) ?_
    repeat refine sq ?_
    refine au rfl rfl (fun hb=>?_) (fun hb=>?_)
    ·repeat refine sq ?_
     have uW:=hb
     refine ax ?_
     repeat refine sq ?_
     refine au rfl rfl (fun hb=>?_) (fun hb=>?_)
     ·repeat refine sq ?_
      have e:=AM (x:=x) (y:=y) (by show y.kd % 16=3\/y.kd % 16=4;have h5:=uW;simp only[beq_iff_eq]at h5;omega)
      rw[<-hk,<-hd]at e
      have fa:fx d=0:=by rw[hd];exact hx.write0 (by omega) gR
      rw[if_pos fa]at e
      repeat refine sq ?_
      refine aP hΓ fun K' hK=>?_
      simp only[go_sem,e8,List.append_nil]
      repeat (refine⟨by first | exact e8 | exact ah,?_⟩)
      refine hK _ ?_
      clear K' hK
      simp only[go_sem]
      refine kp [2,4,6,7,9] [[2,0],[4,0],[7,0],[16,0],[132,0],[135,0]] ?_
      repeat refine sq ?_
      refine rx hΓ [2,4,6,7,150] [[2,0],[4,0],[7,0],[16,0],[132,0],[135,0]] (fun K' hK=>by simp only[go_sem,fa];(repeat (refine⟨ah,?_⟩));exact hK _ (by simp only[go_sem]) (by simp only[go_sem]<;>rfl)) ?_
      repeat refine sq ?_
      refine au rfl rfl (fun hb=>?_) (fun hb=>?_)
      ·cases hb
      ·repeat refine sq ?_
       refine ax ?_
       repeat refine sq ?_
       refine rx hΓ [2,4] [[2,0],[4,0],[16,0],[132,0],[135,0]] (fun K' hK=>by simp only[go_sem,Nat.zero_add,q0,q6,qk,jR,bf,List.append_nil];(repeat (refine⟨ah,?_⟩));exact hK _ (by simp only[go_sem]) (by simp only[go_sem]<;>rfl)) ?_
       repeat refine sq ?_
       refine rx hΓ [4,5] [[4,0],[16,0],[132,0],[135,0]] (fun K' hK=>by simp only[go_sem];(repeat (refine⟨ah,?_⟩));exact hK _ (by simp only[go_sem]) (by simp only[go_sem]<;>rfl)) ?_
       refine aL (ey [4,0] [16,0] 0 _ _ _ _ rfl rfl rfl (by first | rfl | (simp only[List.length_map,bf];done)) [4,5] [[4,0]] ?_ rfl) ?_
       ·simp only[go_sem,List.set_cons_succ,List.set_cons_zero,bf]
       simp only[go_sem,List.set_cons_succ,List.set_cons_zero,bf]
       refine ar ?_
       simp only[go_sem]
       first | (rw[e];done) | (rw[e];unfold cw;rw[List.map_append];rfl) | (rw[e];rfl)
     ·exact Bool.noConfusion (uW.symm.trans hb)
    ·repeat refine sq ?_
     have uW:=hb
     repeat refine sq ?_
     refine rx hΓ [2,3,4,6,7,8,31,92] [[2,0],[3,0],[4,0],[7,0],[16,0],[132,0],[135,0]] (fun K' hK=>by simp only[go_sem];(repeat (refine⟨ah,?_⟩));exact hK _ (by simp only[go_sem]) (by simp only[go_sem]<;>rfl)) ?_
     repeat refine sq ?_
     refine au rfl rfl (fun hb=>?_) (fun hb=>?_)
     ·repeat refine sq ?_
      have uW:=hb
      have e:=AM (x:=x) (y:=y) (by show y.kd % 16=3\/y.kd % 16=4;have h5:=uW;simp only[beq_iff_eq]at h5;omega)
      rw[<-hk,<-hd]at e
      have fa:fx d=0:=by rw[hd];exact hx.write0 (by omega) gR
      rw[if_pos fa]at e
      repeat refine sq ?_
      refine aP hΓ fun K' hK=>?_
      simp only[go_sem,e8,List.append_nil]
      repeat (refine⟨by first | exact e8 | exact ah,?_⟩)
      refine hK _ ?_
      clear K' hK
      simp only[go_sem]
      refine kp [2,4,6,7,9] [[2,0],[4,0],[7,0],[16,0],[132,0],[135,0]] ?_
      repeat refine sq ?_
      refine rx hΓ [2,4,6,7,150] [[2,0],[4,0],[7,0],[16,0],[132,0],[135,0]] (fun K' hK=>by simp only[go_sem,fa];(repeat (refine⟨ah,?_⟩));exact hK _ (by simp only[go_sem]) (by simp only[go_sem]<;>rfl)) ?_
      repeat refine sq ?_
      refine au rfl rfl (fun hb=>?_) (fun hb=>?_)
      ·cases hb
      ·repeat refine sq ?_
       refine ax ?_
       repeat refine sq ?_
       refine rx hΓ [2,4] [[2,0],[4,0],[16,0],[132,0],[135,0]] (fun K' hK=>by simp only[go_sem,Nat.zero_add,q0,q6,qk,jR,bf,List.append_nil];(repeat (refine⟨ah,?_⟩));exact hK _ (by simp only[go_sem]) (by simp only[go_sem]<;>rfl)) ?_
       repeat refine sq ?_
       refine rx hΓ [4,5] [[4,0],[16,0],[132,0],[135,0]] (fun K' hK=>by simp only[go_sem];(repeat (refine⟨ah,?_⟩));exact hK _ (by simp only[go_sem]) (by simp only[go_sem]<;>rfl)) ?_
       refine aL (ey [4,0] [16,0] 0 _ _ _ _ rfl rfl rfl (by first | rfl | (simp only[List.length_map,bf];done)) [4,5] [[4,0]] ?_ rfl) ?_
       ·simp only[go_sem,List.set_cons_succ,List.set_cons_zero,bf]
       simp only[go_sem,List.set_cons_succ,List.set_cons_zero,bf]
       refine ar ?_
       simp only[go_sem]
       first | (rw[e];done) | (rw[e];unfold cw;rw[List.map_append];rfl) | (rw[e];rfl)
     ·repeat refine sq ?_
      have uW:=hb
      repeat refine sq ?_
      refine rx hΓ [2,3,4,6,7,8,31,100] [[2,0],[3,0],[4,0],[7,0],[16,0],[132,0],[135,0]] (fun K' hK=>by simp only[go_sem];(repeat (refine⟨ah,?_⟩));exact hK _ (by simp only[go_sem]) (by simp only[go_sem]<;>rfl)) ?_
      repeat refine sq ?_
      refine au rfl rfl (fun hb=>?_) (fun hb=>?_)
      ·repeat refine sq ?_
       have uX:=hb
       refine ax ?_
       repeat refine sq ?_
       refine au rfl rfl (fun hb=>?_) (fun hb=>?_)
       ·repeat refine sq ?_
        have e:=AN (x:=x) (y:=y) (by show y.kd % 16=5\/y.kd % 16=6;have h5:=uX;simp only[beq_iff_eq]at h5;omega)
        rw[<-hk,<-hd,if_pos hE]at e
        have fa:=hE
        repeat refine sq ?_
        refine aP hΓ fun K' hK=>?_
        simp only[go_sem,e8,List.append_nil]
        repeat (refine⟨by first | exact e8 | exact ah,?_⟩)
        refine hK _ ?_
        clear K' hK
        simp only[go_sem]
        refine kp [2,4,6,7,9] [[2,0],[4,0],[7,0],[16,0],[132,0],[135,0]] ?_
        repeat refine sq ?_
        refine rx hΓ [2,4,6,7,150] [[2,0],[4,0],[7,0],[16,0],[132,0],[135,0]] (fun K' hK=>by simp only[go_sem,fa];(repeat (refine⟨ah,?_⟩));exact hK _ (by simp only[go_sem]) (by simp only[go_sem]<;>rfl)) ?_
        repeat refine sq ?_
        refine au rfl rfl (fun hb=>?_) (fun hb=>?_)
        ·cases hb
        ·repeat refine sq ?_
         refine ax ?_
         repeat refine sq ?_
         refine rx hΓ [2,4] [[2,0],[4,0],[16,0],[132,0],[135,0]] (fun K' hK=>by simp only[go_sem,Nat.zero_add,q0,q6,qk,jR,bf,List.append_nil];(repeat (refine⟨ah,?_⟩));exact hK _ (by simp only[go_sem]) (by simp only[go_sem]<;>rfl)) ?_
         repeat refine sq ?_
         refine rx hΓ [4,5] [[4,0],[16,0],[132,0],[135,0]] (fun K' hK=>by simp only[go_sem];(repeat (refine⟨ah,?_⟩));exact hK _ (by simp only[go_sem]) (by simp only[go_sem]<;>rfl)) ?_
         refine aL (ey [4,0] [16,0] 0 _ _ _ _ rfl rfl rfl (by first | rfl | (simp only[List.length_map,bf];done)) [4,5] [[4,0]] ?_ rfl) ?_
         ·simp only[go_sem,List.set_cons_succ,List.set_cons_zero,bf]
         simp only[go_sem,List.set_cons_succ,List.set_cons_zero,bf]
         refine ar ?_
         simp only[go_sem]
         first | (rw[e];done) | (rw[e];unfold cw;rw[List.map_append];rfl) | (rw[e];rfl)
       ·exact Bool.noConfusion (uX.symm.trans hb)
      ·repeat refine sq ?_
       have uX:=hb
       repeat refine sq ?_
       refine rx hΓ [2,3,4,6,7,8,31,100] [[2,0],[3,0],[4,0],[7,0],[16,0],[132,0],[135,0]] (fun K' hK=>by simp only[go_sem];(repeat (refine⟨ah,?_⟩));exact hK _ (by simp only[go_sem]) (by simp only[go_sem]<;>rfl)) ?_
       repeat refine sq ?_
       refine au rfl rfl (fun hb=>?_) (fun hb=>?_)
       ·repeat refine sq ?_
        have uX:=hb
        have e:=AN (x:=x) (y:=y) (by show y.kd % 16=5\/y.kd % 16=6;have h5:=uX;simp only[beq_iff_eq]at h5;omega)
        rw[<-hk,<-hd,if_pos hE]at e
        have fa:=hE
        repeat refine sq ?_
        refine aP hΓ fun K' hK=>?_
        simp only[go_sem,e8,List.append_nil]
        repeat (refine⟨by first | exact e8 | exact ah,?_⟩)
        refine hK _ ?_
        clear K' hK
        simp only[go_sem]
        refine kp [2,4,6,7,9] [[2,0],[4,0],[7,0],[16,0],[132,0],[135,0]] ?_
        repeat refine sq ?_
        refine rx hΓ [2,4,6,7,150] [[2,0],[4,0],[7,0],[16,0],[132,0],[135,0]] (fun K' hK=>by simp only[go_sem,fa];(repeat (refine⟨ah,?_⟩));exact hK _ (by simp only[go_sem]) (by simp only[go_sem]<;>rfl)) ?_
        repeat refine sq ?_
        refine au rfl rfl (fun hb=>?_) (fun hb=>?_)
        ·cases hb
        ·repeat refine sq ?_
         refine ax ?_
         repeat refine sq ?_
         refine rx hΓ [2,4] [[2,0],[4,0],[16,0],[132,0],[135,0]] (fun K' hK=>by simp only[go_sem,Nat.zero_add,q0,q6,qk,jR,bf,List.append_nil];(repeat (refine⟨ah,?_⟩));exact hK _ (by simp only[go_sem]) (by simp only[go_sem]<;>rfl)) ?_
         repeat refine sq ?_
         refine rx hΓ [4,5] [[4,0],[16,0],[132,0],[135,0]] (fun K' hK=>by simp only[go_sem];(repeat (refine⟨ah,?_⟩));exact hK _ (by simp only[go_sem]) (by simp only[go_sem]<;>rfl)) ?_
         refine aL (ey [4,0] [16,0] 0 _ _ _ _ rfl rfl rfl (by first | rfl | (simp only[List.length_map,bf];done)) [4,5] [[4,0]] ?_ rfl) ?_
         ·simp only[go_sem,List.set_cons_succ,List.set_cons_zero,bf]
         simp only[go_sem,List.set_cons_succ,List.set_cons_zero,bf]
         refine ar ?_
         simp only[go_sem]
         first | (rw[e];done) | (rw[e];unfold cw;rw[List.map_append];rfl) | (rw[e];rfl)
       ·repeat refine sq ?_
        have uX:=hb
        repeat refine sq ?_
        refine rx hΓ [2,3,4,6,7,8,31,108] [[2,0],[3,0],[4,0],[7,0],[16,0],[132,0],[135,0]] (fun K' hK=>by simp only[go_sem];(repeat (refine⟨ah,?_⟩));exact hK _ (by simp only[go_sem]) (by simp only[go_sem]<;>rfl)) ?_
        repeat refine sq ?_
        refine au rfl rfl (fun hb=>?_) (fun hb=>?_)
        ·repeat refine sq ?_
         have e:=F2 (x:=x) (y:=y) (by show y.kd % 16=7;have h5:=hb;simp only[beq_iff_eq]at h5;omega)
         rw[<-hk,<-hd,if_pos hE]at e
         have fa:=hE
         repeat refine sq ?_
         refine aP hΓ fun K' hK=>?_
         simp only[go_sem,e8,List.append_nil]
         repeat (refine⟨by first | exact e8 | exact ah,?_⟩)
         refine hK _ ?_
         clear K' hK
         simp only[go_sem]
         refine kp [2,4,6,7,9] [[2,0],[4,0],[7,0],[16,0],[132,0],[135,0]] ?_
         repeat refine sq ?_
         refine rx hΓ [2,4,6,7,150] [[2,0],[4,0],[7,0],[16,0],[132,0],[135,0]] (fun K' hK=>by simp only[go_sem,fa];(repeat (refine⟨ah,?_⟩));exact hK _ (by simp only[go_sem]) (by simp only[go_sem]<;>rfl)) ?_
         repeat refine sq ?_
         refine au rfl rfl (fun hb=>?_) (fun hb=>?_)
         ·cases hb
         ·repeat refine sq ?_
          refine ax ?_
          repeat refine sq ?_
          refine rx hΓ [2,4] [[2,0],[4,0],[16,0],[132,0],[135,0]] (fun K' hK=>by simp only[go_sem,Nat.zero_add,q0,q6,qk,jR,bf,List.append_nil];(repeat (refine⟨ah,?_⟩));exact hK _ (by simp only[go_sem]) (by simp only[go_sem]<;>rfl)) ?_
          repeat refine sq ?_
          refine rx hΓ [4,5] [[4,0],[16,0],[132,0],[135,0]] (fun K' hK=>by simp only[go_sem];(repeat (refine⟨ah,?_⟩));exact hK _ (by simp only[go_sem]) (by simp only[go_sem]<;>rfl)) ?_
          refine aL (ey [4,0] [16,0] 0 _ _ _ _ rfl rfl rfl (by first | rfl | (simp only[List.length_map,bf];done)) [4,5] [[4,0]] ?_ rfl) ?_
          ·simp only[go_sem,List.set_cons_succ,List.set_cons_zero,bf]
          simp only[go_sem,List.set_cons_succ,List.set_cons_zero,bf]
          refine ar ?_
          simp only[go_sem]
          first | (rw[e];done) | (rw[e];unfold cw;rw[List.map_append];rfl) | (rw[e];rfl)
        ·repeat refine sq ?_
         refine rx hΓ [2,3,4,6,7,8,31,117] [[2,0],[3,0],[4,0],[7,0],[16,0],[132,0],[135,0]] (fun K' hK=>by simp only[go_sem];(repeat (refine⟨ah,?_⟩));exact hK _ (by simp only[go_sem]) (by simp only[go_sem]<;>rfl)) ?_
         repeat refine sq ?_
         refine au rfl rfl (fun hb=>?_) (fun hb=>?_)
         ·repeat refine sq ?_
          have nW:=hb
          refine ax ?_
          repeat refine sq ?_
          refine au rfl rfl (fun hb=>?_) (fun hb=>?_)
          ·repeat refine sq ?_
           have e:=xG (x:=x) (y:=y) (by show y.kd % 16=8\/y.kd % 16=9\/y.kd % 16=10;have h5:=nW;simp only[beq_iff_eq]at h5;omega)
           rw[<-hk,<-hd,vh]at e
           have nZ:=ask_cases (d:=d) (t:=y.to % 6) mK ⟨by omega,by omega⟩
           repeat refine sq ?_
           refine rx hΓ [2,4,6,8,10,11] [[2,0],[4,0],[10,0],[16,0],[132,0],[135,0]] (fun K' hK=>by simp only[go_sem,List.append_nil];(repeat (refine⟨ah,?_⟩));exact hK _ (by simp only[go_sem]) (by simp only[go_sem]<;>rfl)) ?_
           refine aL (cG [10,0] (aX (ld d (y.to % 6))) rfl [2,4,6,8,10,11] [[2,0],[4,0],[10,0],[16,0],[132,0],[135,0]] ?_ rfl) ?_
           ·simp only[go_sem]
           simp only[go_sem]
           repeat refine sq ?_
           refine rx hΓ [2,4,6,8,10,11,128] [[2,0],[4,0],[10,0],[16,0],[132,0],[135,0]] (fun K' hK=>by simp only[go_sem];(repeat (refine⟨ah,?_⟩));exact hK _ (by simp only[go_sem]) (by simp only[go_sem]<;>rfl)) ?_
           repeat refine sq ?_
           refine au rfl rfl (fun hb=>?_) (fun hb=>?_)
           ·repeat refine sq ?_
            have ha:eU d (y.to % 6)=0:=by simpa using hb
            have mE:=True.intro
            rw[if_pos ha]at e
            repeat refine sq ?_
            refine dx hΓ hP [[],[],[1],[0,1,2],[],[4],[0,1,2,3,4,5],[0,1,2,3,4,5,6],[0,1,2,3,4,5,6,7]] [2,4,6,8,11] [[2,0],[4,0],[16,0],[132,0],[135,0]] (by kernel_rfl) (fun K' hK=>by simp only[go_sem,List.append_nil,List.nil_append];(repeat (refine⟨by first | exact⟨CF _,rfl,by omega,by unfold maxLen;omega⟩ | exact ah,?_⟩));(first | refine⟨by rfl,?_⟩ | skip);exact hK _ (by simp only[go_sem]) (by simp only[go_sem]<;>rfl)) ?_
            repeat refine sq ?_
            refine rx hΓ [4,5] [[4,0],[16,0],[132,0],[135,0]] (fun K' hK=>by simp only[go_sem,ha,mE,Bool.or_true,Bool.true_or];(repeat (refine⟨ah,?_⟩));exact hK _ (by simp only[go_sem]) (by simp only[go_sem]<;>rfl)) ?_
            first | (refine aL (ey [4,0] [132,0] 1 _ _ _ _ rfl rfl rfl (by first | rfl | (simp only[List.length_append,List.length_map,List.length_cons,List.length_nil];done)) [4,5] [[4,0],[16,0]] ?_ rfl) ?_;(simp only[go_sem,List.set_cons_succ,List.set_cons_zero]);(simp only[go_sem,List.set_cons_succ,List.set_cons_zero])) | skip
            refine aL (ey [4,0] [16,0] 0 _ _ _ _ rfl rfl rfl (by first | rfl | (simp only[List.length_map,bf];done)) [4,5] [[4,0]] ?_ rfl) ?_
            ·simp only[go_sem,List.set_cons_succ,List.set_cons_zero,bf]
            simp only[go_sem,List.set_cons_succ,List.set_cons_zero,bf]
            refine ar ?_
            simp only[go_sem]
            first | (rw[e];done) | (rw[e];unfold cw;rw[List.map_append];rfl) | (rw[e];rfl)
           ·repeat refine sq ?_
            have mG:¬ eU d (y.to % 6)=0:=by simpa using hb
            have ha:eU d (y.to % 6)=94:=by rcases nZ with h | h<;>first | exact absurd h mG | exact h.1
            have mE:(y.to % 6==y.dk % 6)=true:=by rcases nZ with h | h<;>first | exact absurd h mG | (rw[beq_iff_eq];omega)
            rw[if_neg mG]at e
            refine ax ?_
            repeat refine sq ?_
            refine rx hΓ [4,5] [[4,0],[16,0],[132,0],[135,0]] (fun K' hK=>by simp only[go_sem,ha,mE,Bool.or_true,Bool.true_or];(repeat (refine⟨ah,?_⟩));exact hK _ (by simp only[go_sem]) (by simp only[go_sem]<;>rfl)) ?_
            first | (refine aL (ey [4,0] [132,0] 1 _ _ _ _ rfl rfl rfl (by first | rfl | (simp only[List.length_append,List.length_map,List.length_cons,List.length_nil];done)) [4,5] [[4,0],[16,0]] ?_ rfl) ?_;(simp only[go_sem,List.set_cons_succ,List.set_cons_zero]);(simp only[go_sem,List.set_cons_succ,List.set_cons_zero])) | skip
            refine aL (ey [4,0] [16,0] 0 _ _ _ _ rfl rfl rfl (by first | rfl | (simp only[List.length_map,bf];done)) [4,5] [[4,0]] ?_ rfl) ?_
            ·simp only[go_sem,List.set_cons_succ,List.set_cons_zero,bf]
            simp only[go_sem,List.set_cons_succ,List.set_cons_zero,bf]
            refine ar ?_
            simp only[go_sem]
            first | (rw[e];done) | (rw[e];unfold cw;rw[List.map_append];rfl) | (rw[e];rfl)
          ·exact Bool.noConfusion (nW.symm.trans hb)
         ·repeat refine sq ?_
          have nW:=hb
          repeat refine sq ?_
          refine rx hΓ [2,3,4,6,7,8,31,117] [[2,0],[3,0],[4,0],[7,0],[16,0],[132,0],[135,0]] (fun K' hK=>by simp only[go_sem];(repeat (refine⟨ah,?_⟩));exact hK _ (by simp only[go_sem]) (by simp only[go_sem]<;>rfl)) ?_
          repeat refine sq ?_
          refine au rfl rfl (fun hb=>?_) (fun hb=>?_)
          ·repeat refine sq ?_
           have nW:=hb
           refine ax ?_
           repeat refine sq ?_
           refine au rfl rfl (fun hb=>?_) (fun hb=>?_)
           ·repeat refine sq ?_
            have e:=xG (x:=x) (y:=y) (by show y.kd % 16=8\/y.kd % 16=9\/y.kd % 16=10;have h5:=nW;simp only[beq_iff_eq]at h5;omega)
            rw[<-hk,<-hd,vh]at e
            have nZ:=ask_cases (d:=d) (t:=y.to % 6) mK ⟨by omega,by omega⟩
            repeat refine sq ?_
            refine rx hΓ [2,4,6,8,10,11] [[2,0],[4,0],[10,0],[16,0],[132,0],[135,0]] (fun K' hK=>by simp only[go_sem,List.append_nil];(repeat (refine⟨ah,?_⟩));exact hK _ (by simp only[go_sem]) (by simp only[go_sem]<;>rfl)) ?_
            refine aL (cG [10,0] (aX (ld d (y.to % 6))) rfl [2,4,6,8,10,11] [[2,0],[4,0],[10,0],[16,0],[132,0],[135,0]] ?_ rfl) ?_
            ·simp only[go_sem]
            simp only[go_sem]
            repeat refine sq ?_
            refine rx hΓ [2,4,6,8,10,11,128] [[2,0],[4,0],[10,0],[16,0],[132,0],[135,0]] (fun K' hK=>by simp only[go_sem];(repeat (refine⟨ah,?_⟩));exact hK _ (by simp only[go_sem]) (by simp only[go_sem]<;>rfl)) ?_
            repeat refine sq ?_
            refine au rfl rfl (fun hb=>?_) (fun hb=>?_)
            ·repeat refine sq ?_
             have ha:eU d (y.to % 6)=0:=by simpa using hb
             have mE:=True.intro
             rw[if_pos ha]at e
             repeat refine sq ?_
             refine dx hΓ hP [[],[],[1],[0,1,2],[],[4],[0,1,2,3,4,5],[0,1,2,3,4,5,6],[0,1,2,3,4,5,6,7]] [2,4,6,8,11] [[2,0],[4,0],[16,0],[132,0],[135,0]] (by kernel_rfl) (fun K' hK=>by simp only[go_sem,List.append_nil,List.nil_append];(repeat (refine⟨by first | exact⟨CF _,rfl,by omega,by unfold maxLen;omega⟩ | exact ah,?_⟩));(first | refine⟨by rfl,?_⟩ | skip);exact hK _ (by simp only[go_sem]) (by simp only[go_sem]<;>rfl)) ?_
             repeat refine sq ?_
             refine rx hΓ [4,5] [[4,0],[16,0],[132,0],[135,0]] (fun K' hK=>by simp only[go_sem,ha,mE,Bool.or_true,Bool.true_or];(repeat (refine⟨ah,?_⟩));exact hK _ (by simp only[go_sem]) (by simp only[go_sem]<;>rfl)) ?_
             first | (refine aL (ey [4,0] [132,0] 1 _ _ _ _ rfl rfl rfl (by first | rfl | (simp only[List.length_append,List.length_map,List.length_cons,List.length_nil];done)) [4,5] [[4,0],[16,0]] ?_ rfl) ?_;(simp only[go_sem,List.set_cons_succ,List.set_cons_zero]);(simp only[go_sem,List.set_cons_succ,List.set_cons_zero])) | skip
             refine aL (ey [4,0] [16,0] 0 _ _ _ _ rfl rfl rfl (by first | rfl | (simp only[List.length_map,bf];done)) [4,5] [[4,0]] ?_ rfl) ?_
             ·simp only[go_sem,List.set_cons_succ,List.set_cons_zero,bf]
             simp only[go_sem,List.set_cons_succ,List.set_cons_zero,bf]
             refine ar ?_
             simp only[go_sem]
             first | (rw[e];done) | (rw[e];unfold cw;rw[List.map_append];rfl) | (rw[e];rfl)
            ·repeat refine sq ?_
             have mG:¬ eU d (y.to % 6)=0:=by simpa using hb
             have ha:eU d (y.to % 6)=94:=by rcases nZ with h | h<;>first | exact absurd h mG | exact h.1
             have mE:(y.to % 6==y.dk % 6)=true:=by rcases nZ with h | h<;>first | exact absurd h mG | (rw[beq_iff_eq];omega)
             rw[if_neg mG]at e
             refine ax ?_
             repeat refine sq ?_
             refine rx hΓ [4,5] [[4,0],[16,0],[132,0],[135,0]] (fun K' hK=>by simp only[go_sem,ha,mE,Bool.or_true,Bool.true_or];(repeat (refine⟨ah,?_⟩));exact hK _ (by simp only[go_sem]) (by simp only[go_sem]<;>rfl)) ?_
             first | (refine aL (ey [4,0] [132,0] 1 _ _ _ _ rfl rfl rfl (by first | rfl | (simp only[List.length_append,List.length_map,List.length_cons,List.length_nil];done)) [4,5] [[4,0],[16,0]] ?_ rfl) ?_;(simp only[go_sem,List.set_cons_succ,List.set_cons_zero]);(simp only[go_sem,List.set_cons_succ,List.set_cons_zero])) | skip
             refine aL (ey [4,0] [16,0] 0 _ _ _ _ rfl rfl rfl (by first | rfl | (simp only[List.length_map,bf];done)) [4,5] [[4,0]] ?_ rfl) ?_
             ·simp only[go_sem,List.set_cons_succ,List.set_cons_zero,bf]
             simp only[go_sem,List.set_cons_succ,List.set_cons_zero,bf]
             refine ar ?_
             simp only[go_sem]
             first | (rw[e];done) | (rw[e];unfold cw;rw[List.map_append];rfl) | (rw[e];rfl)
           ·exact Bool.noConfusion (nW.symm.trans hb)
          ·repeat refine sq ?_
           have nW:=hb
           repeat refine sq ?_
           refine rx hΓ [2,3,4,6,7,8,117] [[2,0],[3,0],[4,0],[7,0],[16,0],[132,0],[135,0]] (fun K' hK=>by simp only[go_sem];(repeat (refine⟨ah,?_⟩));exact hK _ (by simp only[go_sem]) (by simp only[go_sem]<;>rfl)) ?_
           repeat refine sq ?_
           refine au rfl rfl (fun hb=>?_) (fun hb=>?_)
           ·repeat refine sq ?_
            have nW:=hb
            have e:=xG (x:=x) (y:=y) (by show y.kd % 16=8\/y.kd % 16=9\/y.kd % 16=10;have h5:=nW;simp only[beq_iff_eq]at h5;omega)
            rw[<-hk,<-hd,vh]at e
            have nZ:=ask_cases (d:=d) (t:=y.to % 6) mK ⟨by omega,by omega⟩
            repeat refine sq ?_
            refine rx hΓ [2,4,6,8,10,11] [[2,0],[4,0],[10,0],[16,0],[132,0],[135,0]] (fun K' hK=>by simp only[go_sem,List.append_nil];(repeat (refine⟨ah,?_⟩));exact hK _ (by simp only[go_sem]) (by simp only[go_sem]<;>rfl)) ?_
            refine aL (cG [10,0] (aX (ld d (y.to % 6))) rfl [2,4,6,8,10,11] [[2,0],[4,0],[10,0],[16,0],[132,0],[135,0]] ?_ rfl) ?_
            ·simp only[go_sem]
            simp only[go_sem]
            repeat refine sq ?_
            refine rx hΓ [2,4,6,8,10,11,128] [[2,0],[4,0],[10,0],[16,0],[132,0],[135,0]] (fun K' hK=>by simp only[go_sem];(repeat (refine⟨ah,?_⟩));exact hK _ (by simp only[go_sem]) (by simp only[go_sem]<;>rfl)) ?_
            repeat refine sq ?_
            refine au rfl rfl (fun hb=>?_) (fun hb=>?_)
            ·repeat refine sq ?_
             have ha:eU d (y.to % 6)=0:=by simpa using hb
             have mE:=True.intro
             rw[if_pos ha]at e
             repeat refine sq ?_
             refine dx hΓ hP [[],[],[1],[0,1,2],[],[4],[0,1,2,3,4,5],[0,1,2,3,4,5,6],[0,1,2,3,4,5,6,7]] [2,4,6,8,11] [[2,0],[4,0],[16,0],[132,0],[135,0]] (by kernel_rfl) (fun K' hK=>by simp only[go_sem,List.append_nil,List.nil_append];(repeat (refine⟨by first | exact⟨CF _,rfl,by omega,by unfold maxLen;omega⟩ | exact ah,?_⟩));(first | refine⟨by rfl,?_⟩ | skip);exact hK _ (by simp only[go_sem]) (by simp only[go_sem]<;>rfl)) ?_
             repeat refine sq ?_
             refine rx hΓ [4,5] [[4,0],[16,0],[132,0],[135,0]] (fun K' hK=>by simp only[go_sem,ha,mE,Bool.or_true,Bool.true_or];(repeat (refine⟨ah,?_⟩));exact hK _ (by simp only[go_sem]) (by simp only[go_sem]<;>rfl)) ?_
             first | (refine aL (ey [4,0] [132,0] 1 _ _ _ _ rfl rfl rfl (by first | rfl | (simp only[List.length_append,List.length_map,List.length_cons,List.length_nil];done)) [4,5] [[4,0],[16,0]] ?_ rfl) ?_;(simp only[go_sem,List.set_cons_succ,List.set_cons_zero]);(simp only[go_sem,List.set_cons_succ,List.set_cons_zero])) | skip
             refine aL (ey [4,0] [16,0] 0 _ _ _ _ rfl rfl rfl (by first | rfl | (simp only[List.length_map,bf];done)) [4,5] [[4,0]] ?_ rfl) ?_
             ·simp only[go_sem,List.set_cons_succ,List.set_cons_zero,bf]
             simp only[go_sem,List.set_cons_succ,List.set_cons_zero,bf]
             refine ar ?_
             simp only[go_sem]
             first | (rw[e];done) | (rw[e];unfold cw;rw[List.map_append];rfl) | (rw[e];rfl)
            ·repeat refine sq ?_
             have mG:¬ eU d (y.to % 6)=0:=by simpa using hb
             have ha:eU d (y.to % 6)=94:=by rcases nZ with h | h<;>first | exact absurd h mG | exact h.1
             have mE:(y.to % 6==y.dk % 6)=true:=by rcases nZ with h | h<;>first | exact absurd h mG | (rw[beq_iff_eq];omega)
             rw[if_neg mG]at e
             refine ax ?_
             repeat refine sq ?_
             refine rx hΓ [4,5] [[4,0],[16,0],[132,0],[135,0]] (fun K' hK=>by simp only[go_sem,ha,mE,Bool.or_true,Bool.true_or];(repeat (refine⟨ah,?_⟩));exact hK _ (by simp only[go_sem]) (by simp only[go_sem]<;>rfl)) ?_
             first | (refine aL (ey [4,0] [132,0] 1 _ _ _ _ rfl rfl rfl (by first | rfl | (simp only[List.length_append,List.length_map,List.length_cons,List.length_nil];done)) [4,5] [[4,0],[16,0]] ?_ rfl) ?_;(simp only[go_sem,List.set_cons_succ,List.set_cons_zero]);(simp only[go_sem,List.set_cons_succ,List.set_cons_zero])) | skip
             refine aL (ey [4,0] [16,0] 0 _ _ _ _ rfl rfl rfl (by first | rfl | (simp only[List.length_map,bf];done)) [4,5] [[4,0]] ?_ rfl) ?_
             ·simp only[go_sem,List.set_cons_succ,List.set_cons_zero,bf]
             simp only[go_sem,List.set_cons_succ,List.set_cons_zero,bf]
             refine ar ?_
             simp only[go_sem]
             first | (rw[e];done) | (rw[e];unfold cw;rw[List.map_append];rfl) | (rw[e];rfl)
           ·repeat refine sq ?_
            have nW:=hb
            have My:11<=dI y:=by show 11<=y.kd % 16;simp only[beq_eq_false_iff_ne,ne_eq]at *;omega
            repeat refine sq ?_
            refine rx hΓ [2,3,4,7,35] [[2,0],[3,0],[4,0],[7,0],[16,0],[132,0],[135,0]] (fun K' hK=>by simp only[go_sem];(repeat (refine⟨ah,?_⟩));exact hK _ (by simp only[go_sem]) (by simp only[go_sem]<;>rfl)) ?_
            repeat refine sq ?_
            refine au rfl rfl (fun hb=>?_) (fun hb=>?_)
            ·repeat refine sq ?_
             have h0b:x.bs=[]:=by have h5:=hb;simp at h5;exact h5
             have e:=F1 (x:=x) (y:=y) My h0b
             repeat refine sq ?_
             refine rx hΓ [4,5] [[4,0],[16,0],[132,0],[135,0]] (fun K' hK=>by simp only[go_sem];(repeat (refine⟨ah,?_⟩));exact hK _ (by simp only[go_sem]) (by simp only[go_sem]<;>rfl)) ?_
             refine aL (ey [4,0] [16,0] 0 _ _ _ _ rfl rfl rfl (by first | rfl | (simp only[List.length_map,bf];done)) [4,5] [[4,0]] ?_ rfl) ?_
             ·simp only[go_sem,List.set_cons_succ,List.set_cons_zero,bf]
             simp only[go_sem,List.set_cons_succ,List.set_cons_zero,bf]
             refine ar ?_
             simp only[go_sem]
             first | (rw[e];done) | (rw[e];unfold cw;rw[List.map_append];rfl) | (rw[e];rfl)
            ·repeat refine sq ?_
             have al:x.bs≠[]:=by intro h0;simp[h0]at hb
             have bK:0<x.bs.length:=List.length_pos_iff.2 al
             have Mx:(0:Int)<(x.bs.length:Int)/\(x.bs.length:Int)<=1000000:=by omega
             have g0:=Int.emod_nonneg y.pi (by omega:(x.bs.length:Int)≠0)
             have g1:=Int.emod_lt_of_pos y.pi Mx.1
             have gk:(y.pi % (x.bs.length:Int)).toNat<x.bs.length:=by omega
             obtain⟨b,kJ⟩:∃ b,b=jD x y:=⟨_,rfl⟩
             have eC:(x.bs.map fX).getD (y.pi % (x.bs.length:Int)).toNat default=.agg (aX b):=by rw[kJ];unfold jD;simp[List.getD_eq_getElem?_getD,List.getElem?_eq_getElem gk,fX]
             have e:=F0 (y:=y) My al
             have fa:=hx.open0 (y:=y) al
             rw[if_pos fa]at e
             rw[<-kJ]at e fa
             have MY:=hp.bg b (by rw[kJ];exact AO al)
             obtain⟨k2,je⟩:∃ k2,k2=b.to.toNat:=⟨_,rfl⟩
             rw[<-je]at e fa
             have EC:k2<6:=by omega
             obtain⟨d2,pn⟩:∃ d2,d2=x.ds.get k2:=⟨_,rfl⟩
             rw[<-pn]at e fa
             have ZC:(x.ds.L encDk).getD k2 default=encDk d2:=by rw[pn];exact aS.L_get x.ds encDk default EC
             have MP:eO d2:=by rw[pn];exact hp.sz k2 EC
             have jR:∀ e:Dk,(x.ds.L encDk).set k2 (.agg (an e))=(x.ds.set k2 e).L encDk:=fun e=>PU x e EC
             have q0:=MY.1
             have q6:=MY.2
             have qk:=je.symm
             have qt:decide (b.to<0)=false:=decide_eq_false (by omega)
             have ZH:decide (b.to>=6)=false:=decide_eq_false (by omega)
             refine ax ?_
             repeat refine sq ?_
             refine dx hΓ hP [[],[0],[],[2],[],[4],[4,5],[2,3,4,5,6],[0,1,2,3,4,5,6,7],[0,1,2,3,4,5,6,7,8],[],[0,1,2,3,4,5,6,7,8,9,10]] [2,4,7,12] [[2,0],[4,0],[7,0],[12,0],[16,0],[132,0],[135,0]] (by kernel_rfl) (fun K' hK=>by simp only[go_sem,g0,g1,gk,eC,List.length_map,List.append_nil];(repeat (refine⟨by first | exact Mx | exact ah,?_⟩));(first | refine⟨by rfl,?_⟩ | skip);exact hK _ (by simp only[go_sem]) (by simp only[go_sem]<;>rfl)) ?_
             refine aL (cG [12,0] (aX b) rfl [2,4,7,12] [[2,0],[4,0],[7,0],[12,0],[16,0],[132,0],[135,0]] ?_ rfl) ?_
             ·simp only[go_sem]
             simp only[go_sem]
             repeat refine sq ?_
             refine rx hΓ [2,4,7,12,54] [[2,0],[4,0],[7,0],[12,0],[16,0],[132,0],[135,0]] (fun K' hK=>by simp only[go_sem,qt,ZH];(repeat (refine⟨ah,?_⟩));exact hK _ (by simp only[go_sem]) (by simp only[go_sem]<;>rfl)) ?_
             repeat refine sq ?_
             refine au rfl rfl (fun hb=>?_) (fun hb=>?_)
             ·cases hb
             ·repeat refine sq ?_
              refine ax ?_
              repeat refine sq ?_
              refine rx hΓ [2,4,6,7,12] [[2,0],[4,0],[7,0],[12,0],[16,0],[132,0],[135,0]] (fun K' hK=>by simp only[go_sem];(repeat (refine⟨ah,?_⟩));exact hK _ (by simp only[go_sem]) (by simp only[go_sem]<;>rfl)) ?_
              repeat refine sq ?_
              refine Gy hΓ hP [[],[0],[],[0,1,2],[0,1,2,3],[],[0,1,2,3,4,5],[0,1,2,3,4,5,6],[0,1,2,3,4,5,6,7],[0,1,2,3,4,5,6,7],[0,1,2,3,4,5,6,7,8],[0,1,2,3,4,5,6,7,8,9,10]] (by kernel_rfl) fun K' hK=>?_
              simp only[go_sem,Nat.zero_add,q0,q6,qk,ZC,MP,bf,List.append_nil]
              repeat (refine⟨by first | exact MP | exact ah,?_⟩)
              first | refine⟨by rfl,?_⟩ | skip
              refine hK _ ?_
              clear K' hK
              simp only[go_sem]
              refine kp [2,4,6,7,9] [[2,0],[4,0],[7,0],[16,0],[132,0],[135,0]] ?_
              repeat refine sq ?_
              refine rx hΓ [2,4,6,7,150] [[2,0],[4,0],[7,0],[16,0],[132,0],[135,0]] (fun K' hK=>by simp only[go_sem,fa];(repeat (refine⟨ah,?_⟩));exact hK _ (by simp only[go_sem]) (by simp only[go_sem]<;>rfl)) ?_
              repeat refine sq ?_
              refine au rfl rfl (fun hb=>?_) (fun hb=>?_)
              ·cases hb
              ·repeat refine sq ?_
               refine ax ?_
               repeat refine sq ?_
               refine rx hΓ [2,4] [[2,0],[4,0],[16,0],[132,0],[135,0]] (fun K' hK=>by simp only[go_sem,Nat.zero_add,q0,q6,qk,jR,bf,List.append_nil];(repeat (refine⟨ah,?_⟩));exact hK _ (by simp only[go_sem]) (by simp only[go_sem]<;>rfl)) ?_
               repeat refine sq ?_
               refine rx hΓ [4,5] [[4,0],[16,0],[132,0],[135,0]] (fun K' hK=>by simp only[go_sem];(repeat (refine⟨ah,?_⟩));exact hK _ (by simp only[go_sem]) (by simp only[go_sem]<;>rfl)) ?_
               refine aL (ey [4,0] [16,0] 0 _ _ _ _ rfl rfl rfl (by first | rfl | (simp only[List.length_map,bf];done)) [4,5] [[4,0]] ?_ rfl) ?_
               ·simp only[go_sem,List.set_cons_succ,List.set_cons_zero,bf]
               simp only[go_sem,List.set_cons_succ,List.set_cons_zero,bf]
               refine ar ?_
               simp only[go_sem]
               first | (rw[e];done) | (rw[e];unfold cw;rw[List.map_append];rfl) | (rw[e];rfl)
theorem XY:ak Tryd.prog 8 S508:=TJ.sound
def nO(l:List Act):Nat:=min l.length 60
noncomputable def G7:List (Nat×Spec):=[(7,S507),(8,S508),(9,S509),(10,S19)]
theorem adg:∀ f s,tbl G7 f=some s->ak Tryd.prog f s:=tc XZ<|tc XY<|tc XW<|tc LD<|tn
attribute [go_sem] G7
noncomputable def P503:PSpec:=p1 zL (fun _=>True) (fun _=>.bool true) true
noncomputable def S503:Spec:=P503.toSpec
attribute [go_sem] P503 S503
set_option maxHeartbeats 8000000 in
theorem Im:aR Tryd.prog 3 P503:=by
 refine w1 (rs:=[.tmp 2]) Tryd.func3 Tryd.ntmps3 (by rfl) (by kernel_rfl) (by decide) (fun _ _=>rfl) ⟨_,rfl,lb rfl,fun l hp hw=>?_⟩
 have hP:=be
 simp only[zL]at hw |-
 obtain⟨Γ,hΓ,g1,g2,g3,g4⟩:∃ Γ:FuncId->Option Spec,(∀ f s,Γ f=some s->ak Tryd.prog f s)/\Γ 7=some S507/\Γ 8=some S508/\Γ 9=some S509/\Γ 10=some S19:=⟨tbl G7,adg,rfl,rfl,rfl,rfl⟩
 have qt:nO l<=maxLen:=by have:nO l<=60:=Nat.min_le_right _ _;unfold maxLen;omega
 have hN:nO l<=60:=Nat.min_le_right _ _
 repeat refine sq ?_
 refine rx hΓ [0] [] (fun K' hK=>by simp only[go_sem];(repeat (refine⟨ah,?_⟩));exact hK _ (by simp only[go_sem]) (by simp only[go_sem]<;>rfl)) ?_
 repeat refine sq ?_
 refine rx hΓ [0,3,4] [[3,0]] (fun K' hK=>by simp only[go_sem,g1,List.append_nil];(repeat (refine⟨ah,?_⟩));exact hK _ (by simp only[go_sem]) (by simp only[go_sem]<;>rfl)) ?_
 repeat refine sq ?_
 refine rx hΓ [0,3,4,5] [[3,0]] (fun K' hK=>by simp only[go_sem];(repeat (refine⟨ah,?_⟩));exact hK _ (by simp only[go_sem]) (by simp only[go_sem]<;>rfl)) ?_
 repeat refine sq ?_
 refine aN ?_
 repeat refine sq ?_
 refine cN (fun z:Nat=>[(5,⟨true,.v (vInt z)⟩),(4,⟨true,.v (.bool true)⟩)]) (fun z=>[([3,0],.box ((cw (tP l z)).map .v))]) (fun z=>z<=(nO l)) (fun z=>(nO l)-z) 0 ?_ ?_ ?_ ?_
 ·exact Nat.zero_le _
 ·rfl
 ·rfl
 rintro i hi
 simp only[go_sem]
 repeat refine sq ?_
 refine rx hΓ [0,3,4,5,20] [[3,0]] (fun K' hK=>by simp only[go_sem];(repeat (refine⟨ah,?_⟩));exact hK _ (by simp only[go_sem]) (by simp only[go_sem]<;>rfl)) ?_
 repeat refine sq ?_
 refine au rfl rfl (fun hb=>?_) (fun hb=>?_)
 ·repeat refine sq ?_
  have ae:i<nO l:=by simp at hb;unfold nO;omega
  have fS:i<l.length:=by have h:=ae;unfold nO at h;omega
  have EG:(i:Int)<(l.length:Int):=by omega
  have nZ:=ac1 fS
  have e:tP l (i+1)=iA (tP l i) (l.getD i default):=rfl
  have YY:=yp l i (by omega)
  have L3:=yp l (i+1) (by omega)
  have ZN:i<=1000:=by omega
  rw[e]at L3
  refine ax ?_
  repeat refine sq ?_
  refine aN ?_
  repeat refine sq ?_
  refine dx hΓ hP [[],[],[],[1,2],[1,2,3],[0,1,2,3,4],[0,1,2,3,4,5],[0,1,2,3,4,5,6],[0,1,2,3,4,5,6],[0,1,2,3,4,5,6,7],[0,1,2,3,4,5,6,7,8,9]] [0,3,4,5] [[3,0]] (by kernel_rfl) (fun K' hK=>by simp only[go_sem,g2,nZ,EG,Int.toNat_natCast,Int.natCast_nonneg,List.length_map,List.append_nil];(repeat (refine⟨by first | exact⟨rfl,rfl,i,ZN,YY⟩ | exact ah,?_⟩));(first | refine⟨by rfl,?_⟩ | skip);exact hK _ (by simp only[go_sem]) (by simp only[go_sem]<;>rfl)) ?_
  repeat refine sq ?_
  refine rx hΓ [0,3,4,5,37] [[3,0]] (fun K' hK=>by simp only[go_sem];(repeat (refine⟨ah,?_⟩));exact hK _ (by simp only[go_sem]) (by simp only[go_sem]<;>rfl)) ?_
  repeat refine sq ?_
  refine au rfl rfl (fun hb=>?_) (fun hb=>?_)
  ·repeat refine sq ?_
   refine aP hΓ fun K' hK=>?_
   simp only[go_sem,g3]
   repeat (refine⟨by first | exact⟨rfl,_,L3⟩ | exact ah,?_⟩)
   refine hK _ ?_
   clear K' hK
   simp only[go_sem]
   refine kp [0,3,4,5] [[3,0]] ?_
   repeat refine sq ?_
   refine aP hΓ fun K' hK=>?_
   simp only[go_sem]
   repeat (refine⟨ah,?_⟩)
   refine hK _ ?_
   clear K' hK
   simp only[go_sem]
   refine⟨i+1,ae,by(show (nO l)-(i+1)<(nO l)-i;omega),?_⟩
   refine bk [0,3,4,5] [[3,0]] ?_ ?_
   ·simp only[go_sem,aF ae qt,Int.natCast_add,Int.natCast_one,e]
   ·simp only[go_sem,aF ae qt,Int.natCast_add,Int.natCast_one,e]
  ·repeat refine sq ?_
   refine ax ?_
   refine cM ?_
   simp only[go_sem]
   refine kp [0,3,4,5] [[3,0]] ?_
   repeat refine sq ?_
   refine aP hΓ fun K' hK=>?_
   simp only[go_sem]
   repeat (refine⟨ah,?_⟩)
   refine hK _ ?_
   clear K' hK
   simp only[go_sem]
   refine⟨i+1,ae,by(show (nO l)-(i+1)<(nO l)-i;omega),?_⟩
   refine bk [0,3,4,5] [[3,0]] ?_ ?_
   ·simp only[go_sem,aF ae qt,Int.natCast_add,Int.natCast_one,e]
   ·simp only[go_sem,aF ae qt,Int.natCast_add,Int.natCast_one,e]
 ·repeat refine sq ?_
  have bb:i=nO l:=by
   simp at hb
   have h:=hi
   unfold nO at h |-
   omega
  subst bb
  have YX:=yp l (nO l) (by omega)
  refine cr ?_
  simp only[go_sem]
  refine kp [3,4] [[3,0]] ?_
  repeat refine sq ?_
  refine rx hΓ [2] [] (fun K' hK=>by simp only[go_sem,g3,g4];(repeat (refine⟨by first | exact⟨rfl,_,YX⟩ | exact ah,?_⟩));exact hK _ (by simp only[go_sem]) (by simp only[go_sem]<;>rfl)) ?_
  refine ar ?_
  simp only[go_sem]
  skip
theorem ahs:ak Tryd.prog 3 S503:=Im.sound
open Go
def gY(P:Program)(t:TypeId):Bool:=match P.underlying t with | some (.struct _)=>true | some (.array _ _)=>true | _=>false
def mv(ag:Bool)(xs:List V):V:=if ag then .agg xs else xs.getD 0 default
def nB(P:Program):List Field->Nat->Nat->Bool
 |[],off,tot=>off==tot
 |f::r,off,tot=>f.offset==off&&nB P r (off+P.cellsOf f.type) tot
def kn(P:Program):Nat->TypeId->Bool
 | 0,_=>false
 |n+1,t=>match P.underlying t with
  |some .bool=>P.cellsOf t==1
  |some (.int _)=>P.cellsOf t==1
  |some .string=>P.cellsOf t==1
  |some (.slice e)=>P.cellsOf t==1&&kn P n e&&decide (0<P.cellsOf e)&&(gY P e||P.cellsOf e==1)
  |some (.struct fs)=>nB P fs.toList 0 (P.cellsOf t)&&fs.toList.all fun f=>kn P n f.type
  |some (.array m e)=>P.cellsOf t==m*P.cellsOf e&&kn P n e
  |_=>false
def yb(S:TypeId->List V->Prop):List TypeId->List V->Prop
 |[],xs=>xs=[]
 |t::r,xs=>∃ a b,xs=a++b/\S t a/\yb S r b
def de(P:Program):Nat->TypeId->List V->Prop
 | 0,_,_=>False
 |n+1,t,xs=>match P.underlying t with
  |some .bool=>∃ b,xs=[.bool b]
  |some (.int k)=>∃ z,xs=[.int k z]/\(Lit.int k z).wf=true
  |some .string=>∃ s,xs=[.str s]/\s.size<=maxLen
  |some (.slice e)=>∃ ls:List (List V),xs=[.sl (ls.map (mv (gY P e)))]/\ls.length<=maxLen/\∀ y∈ls,de P n e y
  |some (.struct fs)=>yb (de P n) (fs.toList.map (·.type)) xs
  |some (.array m e)=>yb (de P n) (List.replicate m e) xs
  |_=>False
structure jq (m:Mem) (xs:List V) (cs:List Value):Prop where
 len:xs.length=cs.length
 rep:∀ i (h:i<xs.length) (h':i<cs.length),aB m xs[i] cs[i]
 one:∀ x∈xs,x.one=true
theorem jq.nil(m:Mem):jq m [] []:=⟨rfl,fun i h=>by simp at h,fun x h=>by simp at h⟩
theorem jq.append{m:Mem}{xs ys:List V}{cs ds:List Value}(h:jq m xs cs)(k:jq m ys ds):jq m (xs++ys) (cs++ds):=by
 refine⟨by simp[h.len,k.len],fun i h1 h2=>?_,fun x hx=>?_⟩
 ·by_cases hi:i<xs.length
  ·rw[List.getElem_append_left hi,List.getElem_append_left (by rw[<-h.len];exact hi)]
   exact h.rep i hi _
  ·have hl:=h.len
   have e:i-xs.length=i-cs.length:=by rw[hl]
   rw[List.getElem_append_right (by omega),List.getElem_append_right (by omega)]
   simp only[List.length_append]at h1 h2
   have :=k.rep (i-xs.length) (by omega) (by rw[<-k.len];omega)
   simp only[e]at this |-
   exact this
 ·rcases List.mem_append.1 hx with hx | hx
  ·exact h.one x hx
  ·exact k.one x hx
theorem jq.single{m:Mem}{x:V}{u:Value}(h:aB m x u)(ho:x.one=true):jq m [x] [u]:=
 ⟨rfl,fun i h1 h2=>by simp at h1;subst h1;exact h,fun y hy=>by simp at hy;subst hy;exact ho⟩
theorem mapM_some{α β:Type}{f:α->Option β}:∀ {l:List α} {r:List β},l.mapM f=some r->r.length=l.length/\∀ i (h:i<l.length) (h':i<r.length),f l[i]=some r[i]
 |[],r,h=>by
  simp only[List.mapM_nil]at h
  cases h
  exact⟨rfl,fun i h=>by simp at h⟩
 |a::l,r,h=>by
  simp only[List.mapM_cons,Option.bind_eq_bind,Option.bind_eq_some_iff]at h
  obtain⟨b,hb,bs,Au,hr⟩:=h
  cases hr
  obtain⟨h1,h2⟩:=mapM_some Au
  refine⟨by simp[h1],fun i hi bp=>?_⟩
  cases i with
  |zero=>exact hb
  |succ i=>exact h2 i (by simpa using hi) (by simpa using bp)
theorem HB{P:Program}:∀ {fs:List Field} {off tot:Nat},nB P fs off tot=true->off<=tot
 |[],off,tot,h=>by simp[nB]at h;omega
 |f::r,off,tot,h=>by
  simp only[nB,Bool.and_eq_true]at h
  have :=HB h.2
  omega
theorem NJ{P:Program}{m:Mem}{S:TypeId->List V->Prop}{cs:List Value}:∀ {fs:List Field} {off:Nat},nB P fs off cs.length=true->
 (∀ f∈fs,∃ xs,S f.type xs/\jq m xs ((cs.drop f.offset).take (P.cellsOf f.type)))->∃ xs,yb S (fs.map (·.type)) xs/\jq m xs (cs.drop off)
 |[],off,h,_=>by
  simp[nB]at h
  subst h
  exact⟨[],rfl,by simpa using jq.nil m⟩
 |f::r,off,h,hf=>by
  simp only[nB,Bool.and_eq_true,beq_iff_eq]at h
  obtain⟨h1,h2⟩:=h
  obtain⟨a,ha,D1⟩:=hf f (by simp)
  obtain⟨b,hb,D0⟩:=NJ h2 fun g hg=>hf g (by simp[hg])
  refine⟨a++b,⟨a,b,rfl,ha,hb⟩,?_⟩
  have e:cs.drop off=(cs.drop f.offset).take (P.cellsOf f.type)++cs.drop (off+P.cellsOf f.type):=by
   rw[h1,<-List.drop_drop,List.take_append_drop]
  rw[e]
  exact D1.append D0
theorem PF{m:Mem}{S:TypeId->List V->Prop}{e:TypeId}{k:Nat}{cs:List Value}:∀ (n off:Nat),cs.length=(off+n)*k->
 (∀ i,i<off+n->∃ xs,S e xs/\jq m xs ((cs.drop (i*k)).take k))->∃ xs,yb S (List.replicate n e) xs/\jq m xs (cs.drop (off*k))
 | 0,off,h,_=>by
   have :cs.drop (off*k)=[]:=List.drop_eq_nil_of_le (by rw[h];simp)
   rw[this]
   exact⟨[],rfl,jq.nil m⟩
 |n+1,off,h,hf=>by
  obtain⟨a,ha,D1⟩:=hf off (by omega)
  obtain⟨b,hb,D0⟩:=PF n (off+1) (by rw[h];congr 1;omega) fun i hi=>hf i (by omega)
  refine⟨a++b,⟨a,b,rfl,ha,hb⟩,?_⟩
  have e:cs.drop (off*k)=(cs.drop (off*k)).take k++cs.drop ((off+1)*k):=by
   rw[Nat.succ_mul,<-List.drop_drop,List.take_append_drop]
  rw[e]
  exact D1.append D0
theorem UN{ag:Bool}{xs:List V}(h:ag=true\/xs.length=1)(ho:∀ x∈xs,x.one=true):(mv ag xs).cells=xs:=by
 cases ag with
 |true=>rfl
 |false=>
  rcases h with h | h
  ·cases h
  match xs,h with
  |[x],_=>
   have :=ho x (by simp)
   show x.cells=[x]
   cases x<;>first | rfl | (simp[V.one]at this)
def ku(w:World):Mem:=fun b off=>w.cell? ⟨b,off,none⟩
theorem PK{a:Addr}(h:a.spot=none)(n:Nat):a.add n=⟨a.block,a.off+n,none⟩:=by
 obtain⟨b,o,s⟩:=a
 simp only at h
 subst h
 unfold Addr.add
 split
 ·rename_i e;subst e;rfl
 ·rfl
theorem yF{H:Type}{enc:TypeId×Value->H}{P:Program}{w:World}{base:Nat}{spare:Nat->Bool}{held:Bool}:
 ∀ (n fuel:Nat) (t:TypeId) (cs:List Value) (r:DataW H×List MemPlace),kn P n t=true->cs.length=P.cellsOf t->DataW.trod enc P w base spare held fuel t cs=some r->∃ xs,de P n t xs/\jq (ku w) xs cs
 | 0,_,_,_,_,h,_,_=>by simp[kn]at h
 |n+1,0,_,_,_,_,_,h=>by simp[DataW.trod]at h
 |n+1,fuel+1,t,cs,r,hp,hlen,h=>by
  rw[DataW.trod_step]at h
  unfold DataW.trodStep at h
  unfold kn at hp
  unfold de
  rcases hu:P.underlying t with _ | u
  ·rw[hu]at hp;simp at hp
  rw[hu]at hp h
  cases u with
  |bool=>
   have hb:∃ b,cs=[.bool b]:=by
    simp only at h
    split at h<;>simp_all
   obtain⟨b,rfl⟩:=hb
   exact⟨_,⟨b,rfl⟩,.single (.bool _) rfl⟩
  |int k=>
   simp only at hp h |-
   split at h<;>simp_all
   obtain⟨⟨rfl,h1⟩,_⟩:=h
   exact⟨_,⟨_,rfl,h1⟩,.single (.int _ _) rfl⟩
  |string=>
   simp only at hp h |-
   split at h<;>simp_all
   obtain⟨h1,_⟩:=h
   exact⟨_,⟨_,rfl,h1⟩,.single (.str _ h1) rfl⟩
  |slice e=>
   simp only[Bool.and_eq_true,decide_eq_true_eq,Bool.or_eq_true,beq_iff_eq]at hp |-
   obtain⟨⟨⟨_,fB⟩,bK⟩,hag⟩:=hp
   split at h<;>simp_all
   ·exact⟨_,⟨[],rfl,Nat.zero_le _,by simp⟩,.single (.slnil _ _) rfl⟩
   ·rename_i e' a len cap _ _
    obtain⟨⟨hb,ZE,hcm⟩,h⟩:=h
    simp only[Option.bind_eq_some_iff]at h
    obtain⟨elems,eC,_⟩:=h
    obtain⟨l1,l2⟩:=mapM_some eC
    simp only[List.length_range]at l1
    have hx:∀ i,i<len->∃ xs cells,w.cells? base (a.add (i*P.cellsOf e')) (P.cellsOf e')=some cells/\de P n e' xs/\jq (ku w) xs cells:=by
     intro i hi
     have h3:=l2 i (by simpa using hi) (by omega)
     simp only[List.getElem_range,Option.bind_eq_some_iff]at h3
     obtain⟨cells,h4,h5⟩:=h3
     obtain⟨xs,h6,h7⟩:=yF n fuel _ _ _ fB (World.cells?_some h4).2.1 h5
     exact⟨xs,cells,h4,h6,h7⟩
    rcases Nat.eq_zero_or_pos len with hz | Zi
    ·subst hz
     exact⟨[.sl []],⟨[],rfl,Nat.zero_le _,by simp⟩,.single (.slnil _ _) rfl⟩
    have DT:a.spot=none:=by
     obtain⟨xs,cells,h4,_⟩:=hx 0 Zi
     have h8:=(World.cells?_some h4).2.2 0 bK
     have h9:=(World.cells?_some h4).2.1
     have pw:w.cell? ((a.add (0*P.cellsOf e')).add 0)=some (cells[0]'(by omega)):=by rw[h8];exact List.getElem?_eq_getElem (by omega)
     simpa[Addr.add]using World.cell?_spot pw
    let X:Nat->List V:=fun i=>if h:i<len then Classical.choose (hx i h)else[]
    let C:Nat->List Value:=fun i=>(w.cells? base (a.add (i*P.cellsOf e')) (P.cellsOf e')).getD []
    have hX:∀ i,i<len->de P n e' (X i)/\jq (ku w) (X i) (C i)/\(C i).length=P.cellsOf e'/\∀ j,j<P.cellsOf e'->w.cell? ⟨a.block,a.off+i*P.cellsOf e'+j,none⟩=(C i)[j]?:=by
     intro i hi
     obtain⟨cells,h4,h6,h7⟩:=Classical.choose_spec (hx i hi)
     have e1:X i=Classical.choose (hx i hi):=dif_pos hi
     have e2:C i=cells:=by show (w.cells? _ _ _).getD []=cells;rw[h4];rfl
     rw[e1,e2]
     refine⟨h6,h7,(World.cells?_some h4).2.1,fun j hj=>?_⟩
     have h8:=(World.cells?_some h4).2.2 j hj
     rw[PK DT,PK rfl]at h8
     exact h8
    have lr:∀ i,i<len->(mv (gY P e') (X i)).cells=X i:=fun i hi=>by
     obtain⟨h1,h2,h3,_⟩:=hX i hi
     refine UN ?_ h2.one
     rcases hag with h | h
     ·exact .inl h
     ·exact .inr (by rw[h2.len,h3,h])
    refine⟨[.sl (((List.range len).map X).map (mv (gY P e')))],⟨(List.range len).map X,rfl,by simp;omega,fun y hy=>?_⟩,.single ?_ rfl⟩
    ·simp only[List.mem_map,List.mem_range]at hy
     obtain⟨i,hi,rfl⟩:=hy
     exact(hX i hi).1
    ·obtain⟨b,o,s⟩:=a
     simp only at DT hX
     subst DT
     have key:=aB.sl (m:=ku w) (((List.range len).map X).map (mv (gY P e'))) b o cap (P.cellsOf e') (fun i j=>((C i)[j]?).getD undef) (by
         intro h;have:=congrArg List.length h;simp at this;omega) (by simp;omega) (by simpa using ZE)
      (fun i hi=>by
        have bp:i<len:=by simpa using hi
        obtain⟨h1,h2,h3,_⟩:=hX i bp
        simp only[List.getElem_map,List.getElem_range]
        rw[lr i bp,h2.len,h3])
      (fun i j hi hj=>by
        have bp:i<len:=by simpa using hi
        obtain⟨h1,h2,h3,h4⟩:=hX i bp
        show w.cell? _=_
        rw[h4 j hj,List.getElem?_eq_getElem (by omega)]
        rfl)
      (fun i j hi hj=>by
        have bp:i<len:=by simpa using hi
        obtain⟨h1,h2,h3,h4⟩:=hX i bp
        simp only[List.getElem_map,List.getElem_range,lr i bp]at hj |-
        have e7:j<(C i).length:=by rw[<-h2.len];exact hj
        rw[List.getElem?_eq_getElem e7]
        exact h2.rep j hj e7)
      (fun i hi x hx=>by
        have bp:i<len:=by simpa using hi
        simp only[List.getElem_map,List.getElem_range,lr i bp]at hx
        exact(hX i bp).2.1.one x hx)
     simpa using key
  |struct fs=>
   simp only[Bool.and_eq_true,List.all_eq_true]at hp h |-
   obtain⟨ht,ee⟩:=hp
   rw[if_pos hlen]at h
   simp only[Option.map_eq_some_iff]at h
   obtain⟨ys,DJ,_⟩:=h
   obtain⟨l1,l2⟩:=mapM_some DJ
   have :=NJ (m:=ku w) (S:=de P n) (cs:=cs) (fs:=fs.toList) (off:=0) (by rw[hlen];exact ht) fun f hf=>by
    obtain⟨i,hi,rfl⟩:=List.mem_iff_getElem.1 hf
    have h3:=l2 i hi (by omega)
    have hle:P.cellsOf fs.toList[i].type<=(cs.drop fs.toList[i].offset).length:=by
     have key:∀ (l:List Field) (off tot:Nat),nB P l off tot=true->∀ f∈l,f.offset+P.cellsOf f.type<=tot:=by
      intro l
      induction l with
      |nil=>intro _ _ _ f hf;simp at hf
      |cons g r ih=>
       intro off tot h f hf
       simp only[nB,Bool.and_eq_true,beq_iff_eq]at h
       rcases List.mem_cons.1 hf with rfl | hf
       ·have:=HB h.2;omega
       ·exact ih _ _ h.2 f hf
     have :=key _ _ _ ht _ hf
     simp only[List.length_drop]
     omega
    exact yF n fuel _ _ _ (ee _ hf) (by rw[List.length_take];omega) h3
   simpa using this
  |array m e=>
   simp only[Bool.and_eq_true,beq_iff_eq]at hp h |-
   obtain⟨ht,fB⟩:=hp
   rw[if_pos hlen]at h
   simp only[Option.map_eq_some_iff]at h
   obtain⟨ys,DJ,_⟩:=h
   obtain⟨l1,l2⟩:=mapM_some DJ
   have :=PF (m:=ku w) (S:=de P n) (e:=e) (k:=P.cellsOf e) (cs:=cs) m 0 (by rw[hlen,ht];simp) fun i hi=>by
    have bp:i<m:=by omega
    have h3:=l2 i (by simpa using bp) (by rw[l1];simpa using bp)
    simp only[List.getElem_range]at h3
    have hle:i*P.cellsOf e+P.cellsOf e<=cs.length:=by
     rw[hlen,ht,<-Nat.succ_mul];exact Nat.mul_le_mul_right _ bp
    exact yF n fuel _ _ _ fB (by rw[List.length_take,List.length_drop];omega) h3
   simpa using this
  |_=>simp at hp
open Go Go.RowKit Go.ChangeShapes Go.WideShapes Go.ChangeAt
theorem Vi{P:Program}{n:Nat}{t:TypeId}{W:World}{r:Reach}{base:Nat}{v:Value}(hp:kn P n t=true)(h:Value.okWide P W r base t v):
 v.cells.size=P.cellsOf t/\(gY P t=true->∃ cs,v=.agg cs)/\(gY P t=false->v.cells= #[v]/\P.cellsOf t=1):=by
 cases n with
 |zero=>simp[kn]at hp
 |succ n=>
  unfold kn at hp
  unfold gY
  rcases hu:P.underlying t with _ | u
  ·rw[hu]at hp;simp at hp
  rw[hu]at hp
  cases u with
  |bool=>
   obtain⟨b,rfl⟩:=okWide_bool hu h
   simp only[beq_iff_eq]at hp
   exact⟨by simp[Value.cells,hp],by simp,fun _=>⟨rfl,hp⟩⟩
  |int k=>
   obtain⟨b,rfl⟩:=okWide_int hu h
   simp only[beq_iff_eq]at hp
   exact⟨by simp[Value.cells,hp],by simp,fun _=>⟨rfl,hp⟩⟩
  |string=>
   obtain⟨b,rfl⟩:=okWide_string hu h
   simp only[beq_iff_eq]at hp
   exact⟨by simp[Value.cells,hp],by simp,fun _=>⟨rfl,hp⟩⟩
  |slice e=>
   obtain⟨a,len,cap,rfl⟩:=okWide_slice hu h
   simp only[Bool.and_eq_true,beq_iff_eq]at hp
   exact⟨by simp[Value.cells,hp.1.1.1],by simp,fun _=>⟨rfl,hp.1.1.1⟩⟩
  |struct fs=>
   simp only[Value.okWide,hu]at h
   obtain⟨cs,rfl,h2,_⟩:=h
   exact⟨h2,fun _=>⟨cs,rfl⟩,fun h=>by simp at h⟩
  |array m e=>
   simp only[Value.okWide,hu]at h
   obtain⟨cs,rfl,h2,_⟩:=h
   exact⟨h2,fun _=>⟨cs,rfl⟩,fun h=>by simp at h⟩
  |_=>simp at hp
def vN(P:Program)(n:Nat)(t:TypeId)(x:V):Prop:=∃ xs,de P n t xs/\x=mv (gY P t) xs
def tH(P:Program)(n:Nat):List TypeId->List V->Prop
 |[],xs=>xs=[]
 |t::r,xs=>∃ x ys,xs=x::ys/\vN P n t x/\tH P n r ys
theorem acP{H:Type}{enc:TypeId×Value->H}{P:Program}{w:World}{b0:Nat}{spare:Nat->Bool}{held:Bool}{n:Nat}{t:TypeId}{r:Reach}{base:Nat}{v:Value}{d:DataW H}{ps:List MemPlace}
 (hp:kn P n t=true) (h:Value.okWide P w r base t v) (ht:DataW.Trod enc P w b0 spare held t v d ps):∃ x,vN P n t x/\aB (ku w) x v:=by
 obtain⟨h1,h2,h3⟩:=Vi hp h
 obtain⟨fuel,hf⟩:=ht
 obtain⟨xs,k1,k2⟩:=yF n fuel t v.cells.toList _ hp (by simpa using h1) hf
 refine⟨mv (gY P t) xs,⟨xs,k1,rfl⟩,?_⟩
 cases ha:gY P t with
 |true=>
  obtain⟨cs,rfl⟩:=h2 ha
  simp only[mv,if_true]
  refine .agg xs cs (by simpa[Value.cells]using k2.len) k2.one fun i h h'=>?_
  have :=k2.rep i h (by simpa[Value.cells]using h')
  simpa[Value.cells]using this
 |false=>
  obtain⟨h4,h5⟩:=h3 ha
  have hl:xs.length=1:=by rw[k2.len];simp[h4]
  match xs,hl with
  |[x],_=>
   have :=k2.rep 0 (by simp) (by simp[h4])
   simp only[mv,Bool.false_eq_true,if_false,List.getD_cons_zero]
   simpa[h4]using this
theorem GY{H:Type}{enc:TypeId×Value->H}{P:Program}{w:World}{b0:Nat}{spare:Nat->Bool}{held:Bool}{n:Nat}{r:Reach}{base:Nat}:∀ {ts:List TypeId} {vs:List Value} {ds:List (DataW H)} {ps:List MemPlace},
 (∀ t∈ts,kn P n t=true)->(∀ (j:Nat) t v,ts[j]?=some t->vs[j]?=some v->Value.okWide P w r base t v)->DataW.TrodAll enc P w b0 spare held ts vs ds ps->∃ xs,tH P n ts xs/\rj (ku w) xs vs
 |[],vs,ds,ps,_,_,h=>by
  cases vs with
  |nil=>exact⟨[],rfl,rfl,fun i h=>by simp at h⟩
  |cons=>cases ds<;>simp[DataW.TrodAll]at h
 |t::ts,[],ds,ps,_,_,h=>by cases ds<;>simp[DataW.TrodAll]at h
 |t::ts,v::vs,[],ps,_,_,h=>by simp[DataW.TrodAll]at h
 |t::ts,v::vs,d::ds,ps,hp,hv,h=>by
  obtain⟨p,q,h1,h2,_⟩:=h
  obtain⟨x,k1,k2⟩:=acP (hp t (by simp)) (hv 0 t v rfl rfl) h1
  obtain⟨ys,k3,k4,k5⟩:=GY (fun t ht=>hp t (by simp[ht])) (fun j t v h h'=>hv (j+1) t v (by simpa using h) (by simpa using h')) h2
  refine⟨x::ys,⟨x,ys,rfl,k1,k3⟩,by simp[k4],fun i hi bp=>?_⟩
  cases i with
  |zero=>exact k2
  |succ i=>exact k5 i (by simpa using hi) (by simpa using bp)
theorem GX{H:Type}{enc:TypeId×Value->H}{P:Program}(hl:laidOutB P=true){W W':World}(hb:Below W.heap.size W W'):∀ {ts:List TypeId} {vs:List Value} {ds:List (DataW H)} {ps:List MemPlace},
 (∀ t∈ts,P.readableRec t=true/\t<P.types.size)->DataW.TrodAll enc P W 0 (fun _=>true) true ts vs ds ps->(∀ x∈ps,x.block<W.heap.size)->DataW.TrodAll enc P W' 0 (fun b=>decide (b<W.heap.size)) true ts vs ds ps
 |[],vs,ds,ps,_,h,_=>by
  cases vs<;>cases ds<;>simp_all[DataW.TrodAll]
 |t::ts,[],ds,ps,_,h,_=>by cases ds<;>simp[DataW.TrodAll]at h
 |t::ts,v::vs,[],ps,_,h,_=>by simp[DataW.TrodAll]at h
 |t::ts,v::vs,d::ds,ps,hr,h,ae=>by
  obtain⟨p,q,h1,h2,rfl⟩:=h
  exact⟨p,q,Below.trod hl (hr t (by simp)).1 (hr t (by simp)).2 h1 hb (fun x hx=>ae x (by simp[hx])),
   GX hl hb (fun t ht=>hr t (by simp[ht])) h2 (fun x hx=>ae x (by simp[hx])),rfl⟩
theorem BM{H:Type}{enc:TypeId×Value->H}{P:Program}{w:World}{b0:Nat}{spare:Nat->Bool}{held:Bool}:∀ {ts:List TypeId} {vs:List Value} {ds:List (DataW H)} {ps:List MemPlace},DataW.TrodAll enc P w b0 spare held ts vs ds ps->ds.length=ts.length
 |[],vs,ds,ps,h=>by cases vs<;>cases ds<;>simp_all[DataW.TrodAll]
 |t::ts,[],ds,ps,h=>by cases ds<;>simp[DataW.TrodAll]at h
 |t::ts,v::vs,[],ps,h=>by simp[DataW.TrodAll]at h
 |t::ts,v::vs,d::ds,ps,h=>by
  obtain⟨p,q,_,h2,_⟩:=h
  simp[BM h2]
theorem aho{H:Type}{enc:TypeId×Value->H}{C:Checked}{os:Os}{f:FuncId}{fn:Func}{s:ChangeSpec}{conds:List PathCond}{n:Nat}{tb:TypeId}
 (own:ownKnob C.prog.godebug=none) (started:os.Started) (CN:C.prog.inits.idxOf? f=none) (dp:C.prog.funcs[f]?=some fn)
 (witness:∃ (w:World) (tape:Tape) (i:Input),w.os=os/\(w.forCall tape i).Shaped C.prog/\i.vars=[]/\Input.okWide C.prog (w.forCall tape i) .any w.heap.size f i/\
   s.pre6 enc C.prog fn conds false (w.forCall tape i).memory i.args/\({}:Assume).holds C.prog (lone (Frame.enter C.prog f i.args .normal) [] (w.forCall tape i)))
 (hl:laidOutB C.prog=true) (fm:∀ t∈fn.params.toList,kn C.prog n t=true/\C.prog.readableRec t=true/\t<C.prog.types.size) (uR:fn.resultTypes= #[tb]) (nQ:C.prog.underlying tb=some .bool)
 (wJ:s.vars=[]) (hs:∀ ds:List (DataW H),ds.length=fn.params.toList.length->(s.fn H ds).results=[.lit (.bool true)]/\(s.fn H ds).args=ds/\(s.fn H ds).vars=[])
 (sM:∀ (W:World) (args:Array Value) (xs:List V),tH C.prog n fn.params.toList xs->rj (ku W) xs args.toList->Calls C.prog f args W fun e W'=>e=.returned (.bool true)/\Below W.heap.size W W'):
 ReturnsInHanded {} C os f .any (s.pre6 enc C.prog fn conds false) (s.post enc C.prog fn false true false false):=by
 refine returnsInHanded_of_change own started CN dp witness ?_
 intro W base args ds gs before cq hW _ _
 have sP:=hW
 obtain⟨p,q,hA,hV,rfl,_,_⟩:=hW
 rw[wJ]at hV
 obtain⟨rfl,rfl⟩:=trodVars_none hV
 simp only[List.append_nil]at sP
 have ae:∀ y∈p,y.block<W.heap.size:=fun y hy=>by simpa using sP.lt y hy
 obtain⟨xs,h1,h2⟩:=GY (vs:=args.toList) (ts:=fn.params.toList) (fun t ht=>(fm t ht).1) (fun j t v h h'=>cq j t v (by simpa using h) (by simpa using h')) hA
 obtain⟨e1,e2,e3⟩:=hs ds (BM hA)
 refine(sM W args xs h1 h2).mono fun e W' ⟨he,hn⟩=>?_
 subst he
 refine⟨_,rfl,ds,[],p,[],p,[],sP,?_,?_,?_,hn.frame _,fun h=>by cases h⟩
 ·rw[List.append_nil,e1,uR]
  exact trodAll_mk1 (shut_bool nQ _)
 ·rw[List.append_nil,e2]
  exact GX hl hn (fun t ht=>(fm t ht).2) hA ae
 ·rw[List.append_nil,e3,wJ]
  rfl
theorem Wf{H:Type}{enc:TypeId×Value->H}{C:Checked}{os:Os}{f:FuncId}{fn:Func}{s:ChangeSpec}{conds:List PathCond}{n:Nat}{tb:TypeId}{laid:List (String×DataW Unit)}
 (own:ownKnob C.prog.godebug=none) (started:os.Started) (CN:C.prog.inits.idxOf? f=none) (dp:C.prog.funcs[f]?=some fn)
 (witness:∃ (w:World) (tape:Tape) (i:Input),w.os=os/\(w.forCall tape i).Shaped C.prog/\i.vars=[]/\Input.okWide C.prog (w.forCall tape i) .any w.heap.size f i/\
   ((s.pre enc C.prog fn conds false (w.forCall tape i).memory i.args/\laidMetH C.prog laid (w.forCall tape i).memory)/\sizedMet enc C.prog fn (OpenSpec.ofChange s) false (w.forCall tape i).memory i.args)/\({}:Assume).holds C.prog (lone (Frame.enter C.prog f i.args .normal) [] (w.forCall tape i)))
 (hT:∀ W:World,laidMetH C.prog laid W->kf W)
 (hl:laidOutB C.prog=true) (fm:∀ t∈fn.params.toList,kn C.prog n t=true/\C.prog.readableRec t=true/\t<C.prog.types.size) (uR:fn.resultTypes= #[tb]) (nQ:C.prog.underlying tb=some .bool)
 (wJ:s.vars=[]) (hs:∀ ds:List (DataW H),ds.length=fn.params.toList.length->(s.fn H ds).results=[.lit (.bool true)]/\(s.fn H ds).args=ds/\(s.fn H ds).vars=[])
 (sM:∀ (W:World) (args:Array Value) (xs:List V),kf W->tH C.prog n fn.params.toList xs->rj (ku W) xs args.toList->Calls C.prog f args W fun e W'=>e=.returned (.bool true)/\Below W.heap.size W W'):
 ReturnsInHanded {} C os f .any (fun w args=>(s.pre enc C.prog fn conds false w args/\laidMetH C.prog laid w)/\sizedMet enc C.prog fn (OpenSpec.ofChange s) false w args) (s.post enc C.prog fn false true false false):=by
 refine returnsInHanded_of_change_and (X:=fun w _=>laidMetH C.prog laid w) (fun _ _ _ hh h=>h.of_heap hh) own started CN dp witness ?_
 intro W base args ds gs before cq hW _ _ hL _
 have sP:=hW
 obtain⟨p,q,hA,hV,rfl,_,_⟩:=hW
 rw[wJ]at hV
 obtain⟨rfl,rfl⟩:=trodVars_none hV
 simp only[List.append_nil]at sP
 have ae:∀ y∈p,y.block<W.heap.size:=fun y hy=>by simpa using sP.lt y hy
 obtain⟨xs,h1,h2⟩:=GY (vs:=args.toList) (ts:=fn.params.toList) (fun t ht=>(fm t ht).1) (fun j t v h h'=>cq j t v (by simpa using h) (by simpa using h')) hA
 obtain⟨e1,e2,e3⟩:=hs ds (BM hA)
 refine(sM W args xs (hT W hL) h1 h2).mono fun e W' ⟨he,hn⟩=>?_
 subst he
 refine⟨_,rfl,ds,[],p,[],p,[],sP,?_,?_,?_,hn.frame _,fun h=>by cases h⟩
 ·rw[List.append_nil,e1,uR]
  exact trodAll_mk1 (shut_bool nQ _)
 ·rw[List.append_nil,e2]
  exact GX hl hn (fun t ht=>(fm t ht).2) hA ae
 ·rw[List.append_nil,e3,wJ]
  rfl
end Go.Eng
set_option linter.constructorNameAsVariable false
namespace Go.Eng
open Go Go.Proofs Go.Proofs.YtckmfkgppohnmaaDoor Go.RowKit Go.ChangeShapes
theorem XB:ownKnob Tryd.prog.godebug=none:=by kernel_rfl
theorem XC:laidOutB Tryd.prog=true:=by kernel_rfl
noncomputable def wB:List (String×DataW Unit):=Rows.lendAllRow.laid
theorem Nj:Tryd.prog.globalNamed "internal/strconv.uint64pow10" =some 0:=by kernel_rfl
theorem agT:(Rows.laid_internal_strconv_uint64pow10:DataW Unit)=Lib.tabData .u64 Lib.pow10Tab:=by rfl
theorem Wa(W:World)(h:laidMetH Tryd.prog wB W):kf W:=by
 rw[MakeChecks.laidMetH_plain _ _ _ (by kernel_rfl)]at h
 have h2:laidMet Tryd.prog [("internal/strconv.uint64pow10",Lib.tabData .u64 Lib.pow10Tab)] W:=h.tail.tail
 have h3:Lib.TabIs Tryd.prog W "internal/strconv.uint64pow10" .u64 Lib.pow10Tab:=Lib.tabIs_of_head (t:=147) (e:=140) (n:=20) Nj (by kernel_rfl) (by kernel_rfl) (by kernel_rfl) (by kernel_rfl) (by kernel_rfl) h2
 unfold Lib.TabIs World.var? at h3
 rw[Nj]at h3
 simp only[Option.bind_some]at h3
 intro q hq
 have :q=(0,(Lib.pow10Tab.map fun z=>Value.int .u64 z).toArray):=by simpa[yo]using hq
 subst this
 split at h3
 ·rename_i cs T f hh
  cases h3
  exact⟨_,_,hh⟩
 ·cases h3
def GA:DataW Unit->Array Value
 | .agg l=>(l.map fun d=>match d with | .lit (.int k n)=>Value.int k n | _=>undef).toArray
 |_=> #[]
def putCells(cs:Array Value):Obj->Obj
 | .cells _ t f=>.cells cs t f
 |o=>o
noncomputable def JS(os:Os):World:=
 let w0:=World.holding Tryd.prog os ⟨#[],#[],[]⟩
 { w0 with heap:=((w0.heap.modify 0 (putCells (GA Rows.laid_internal_strconv_uint64pow10))).modify 1 (putCells (GA Rows.laid_math_bits_deBruijn32tab))).modify 2 (putCells (GA Rows.laid_math_bits_deBruijn64tab)) }
theorem V'(os:Os)(args:Array Value):laidMetH Tryd.prog wB ((JS os).forCall (fun _ _=>0) ⟨#[],args,[]⟩).memory:=by
 rw[MakeChecks.laidMetH_plain _ _ _ (by kernel_rfl)]
 exact laidMet_of_run' 8 (by kernel_rfl) (by kernel_rfl)
end Go.Eng
set_option linter.constructorNameAsVariable false
set_option maxRecDepth 100000
namespace Go.Eng
open Go Go.Proofs
theorem fM{n:Nat}{xs:List V}(h:de Tryd.prog (n+1) 3 xs):∃ k,xs=[vInt k]/\(Lit.int .i64 k).wf=true:=by
 unfold de at h
 simp only[Tryd.underlying3]at h
 exact h
theorem acV:gY Tryd.prog 3=false:=by kernel_rfl
theorem acU:gY Tryd.prog 75=true:=by kernel_rfl
theorem JK{α β:Type}{f:α->β}{P:β->Prop}(h:∀ y,P y->∃ x,y=f x):∀ {l:List β},(∀ y∈l,P y)->∃ m:List α,l=m.map f
 |[],_=>⟨[],rfl⟩
 |y::r,hl=>by
  obtain⟨x,rfl⟩:=h y (hl y (by simp))
  obtain⟨m,rfl⟩:=JK h (l:=r) fun z hz=>hl z (by simp[hz])
  exact⟨x::m,rfl⟩
theorem B6{n:Nat}{T e:TypeId}{xs:List V}{α:Type}{f:α->V}(hu:Tryd.prog.underlying T=some (.slice e))(h:de Tryd.prog (n+1) T xs)
 (he:∀ ys,de Tryd.prog n e ys->∃ a,mv (gY Tryd.prog e) ys=f a):∃ l:List α,xs=[.sl (l.map f)]:=by
 unfold de at h
 simp only[hu]at h
 obtain⟨ls,rfl,_,h3⟩:=h
 obtain⟨m,hm⟩:=JK (f:=f) (P:=fun y=>∃ d,y=f d) (fun y h=>h) (l:=ls.map (mv (gY Tryd.prog e))) fun y hy=>by
  obtain⟨z,hz,rfl⟩:=List.mem_map.1 hy
  exact he z (h3 z hz)
 exact⟨m,by rw[hm]⟩
theorem Su{n:Nat}{xs:List V}(h:de Tryd.prog (n+2) 34 xs):∃ l:List Int,xs=[.sl (l.map vInt)]:=
 B6 Tryd.underlying34 h fun ys hy=>by
  obtain⟨k,rfl,_⟩:=fM hy
  rw[acV]
  exact⟨k,rfl⟩
theorem Sm{n:Nat}{xs:List V}(h:de Tryd.prog (n+2) 75 xs):∃ p:Par,xs=[vInt p.no,vInt p.pa]:=by
 unfold de at h
 simp only[Tryd.underlying75]at h
 obtain⟨x,y,rfl,h1,x2,y2,rfl,h2,rfl⟩:=h
 obtain⟨a,rfl,_⟩:=fM h1
 obtain⟨b,rfl,_⟩:=fM h2
 exact⟨⟨a,b⟩,rfl⟩
theorem rA{n:Nat}{xs:List V}(h:de Tryd.prog (n+3) 35 xs):∃ l:List Par,xs=[.sl (l.map encPa)]:=
 B6 Tryd.underlying35 h fun ys hy=>by
  obtain⟨p,rfl⟩:=Sm hy
  rw[acU]
  exact⟨p,rfl⟩
theorem Ss{n:Nat}{xs:List V}(h:de Tryd.prog (n+4) 36 xs):∃ u:aS (List Par),xs=u.L rowP:=by
 unfold de at h
 simp only[Tryd.underlying36]at h
 obtain⟨x1,y1,rfl,h1,x2,y2,rfl,h2,x3,y3,rfl,h3,x4,y4,rfl,h4,x5,y5,rfl,h5,x6,y6,rfl,h6,rfl⟩:=h
 obtain⟨a,rfl⟩:=rA h1
 obtain⟨b,rfl⟩:=rA h2
 obtain⟨c,rfl⟩:=rA h3
 obtain⟨d,rfl⟩:=rA h4
 obtain⟨e,rfl⟩:=rA h5
 obtain⟨f,rfl⟩:=rA h6
 exact⟨⟨a,b,c,d,e,f⟩,rfl⟩
theorem H7{n:Nat}{xs:List V}(h:de Tryd.prog (n+2) 37 xs):∃ u:aS Int,xs=u.L vInt:=by
 unfold de at h
 simp only[Tryd.underlying37]at h
 obtain⟨x1,y1,rfl,h1,x2,y2,rfl,h2,x3,y3,rfl,h3,x4,y4,rfl,h4,x5,y5,rfl,h5,x6,y6,rfl,h6,rfl⟩:=h
 obtain⟨a,rfl,_⟩:=fM h1
 obtain⟨b,rfl,_⟩:=fM h2
 obtain⟨c,rfl,_⟩:=fM h3
 obtain⟨d,rfl,_⟩:=fM h4
 obtain⟨e,rfl,_⟩:=fM h5
 obtain⟨f,rfl,_⟩:=fM h6
 exact⟨⟨a,b,c,d,e,f⟩,rfl⟩
theorem H6{n:Nat}{xs:List V}(h:de Tryd.prog (n+5) 39 xs):∃ s:Stk,xs=aC s:=by
 unfold de at h
 simp only[Tryd.underlying39]at h
 obtain⟨x1,y1,rfl,h1,x2,y2,rfl,h2,x3,y3,rfl,h3,x4,y4,rfl,h4,rfl⟩:=h
 obtain⟨a,rfl⟩:=Su h1
 obtain⟨b,rfl⟩:=Ss h2
 obtain⟨c,rfl⟩:=H7 h3
 obtain⟨d,rfl⟩:=H7 h4
 exact⟨⟨a,b,c,d⟩,by rw[List.append_nil];rfl⟩
theorem H5{n:Nat}{xs:List V}(h:de Tryd.prog (n+6) 41 xs):∃ p:Pg,xs=cH p:=by
 unfold de at h
 simp only[Tryd.underlying41]at h
 obtain⟨x1,y1,rfl,h1,x2,y2,rfl,h2,x3,y3,rfl,h3,rfl⟩:=h
 obtain⟨a,rfl,_⟩:=fM h1
 obtain⟨b,rfl⟩:=H6 h2
 obtain⟨c,rfl,_⟩:=fM h3
 exact⟨⟨a,b,c⟩,by rw[List.append_nil];rfl⟩
theorem Sr{n:Nat}{xs:List V}(h:de Tryd.prog (n+7) 42 xs):∃ p q:Pg,xs=cH p++cH q:=by
 unfold de at h
 simp only[Tryd.underlying42]at h
 obtain⟨x1,y1,rfl,h1,x2,y2,rfl,h2,rfl⟩:=h
 obtain⟨a,rfl⟩:=H5 h1
 obtain⟨b,rfl⟩:=H5 h2
 exact⟨a,b,by rw[List.append_nil]⟩
theorem Sp{n:Nat}{xs:List V}(h:de Tryd.prog (n+8) 44 xs):∃ d:Dk,xs=an d:=by
 unfold de at h
 simp only[Tryd.underlying44]at h
 obtain⟨x1,y1,rfl,h1,x2,y2,rfl,h2,x3,y3,rfl,h3,x4,y4,rfl,h4,rfl⟩:=h
 obtain⟨a,rfl,_⟩:=fM h1
 obtain⟨b,rfl⟩:=H6 h2
 obtain⟨p,q,rfl⟩:=Sr h3
 obtain⟨c,rfl,_⟩:=fM h4
 exact⟨⟨a,b,p,q,c⟩,by rw[List.append_nil,List.append_assoc];rfl⟩
theorem So{n:Nat}{xs:List V}(h:de Tryd.prog (n+4) 54 xs):∃ b:Bag,xs=aX b:=by
 unfold de at h
 simp only[Tryd.underlying54]at h
 obtain⟨x1,y1,rfl,h1,x2,y2,rfl,h2,x3,y3,rfl,h3,x4,y4,rfl,h4,rfl⟩:=h
 obtain⟨a,rfl,_⟩:=fM h1
 obtain⟨b,rfl,_⟩:=fM h2
 obtain⟨c,rfl⟩:=rA h3
 obtain⟨d,rfl,_⟩:=fM h4
 exact⟨⟨a,b,c,d⟩,by rw[List.append_nil];rfl⟩
theorem Sn{n:Nat}{xs:List V}(h:de Tryd.prog (n+2) 76 xs):∃ a b,xs=[vInt a,vInt b]:=by
 unfold de at h
 simp only[Tryd.underlying76]at h
 obtain⟨x1,y1,rfl,h1,x2,y2,rfl,h2,rfl⟩:=h
 obtain⟨a,rfl,_⟩:=fM h1
 obtain⟨b,rfl,_⟩:=fM h2
 exact⟨a,b,rfl⟩
theorem acY:gY Tryd.prog 44=true:=by kernel_rfl
theorem acX:gY Tryd.prog 54=true:=by kernel_rfl
theorem acW:gY Tryd.prog 76=true:=by kernel_rfl
theorem ajz{x:V}(h:vN Tryd.prog 9 44 x):∃ d:Dk,x=encDk d:=by
 obtain⟨xs,h1,rfl⟩:=h
 rw[acY]
 obtain⟨d,rfl⟩:=Sp h1
 exact⟨d,rfl⟩
theorem ajy{x:V}(h:vN Tryd.prog 9 54 x):∃ b:Bag,x=fX b:=by
 obtain⟨xs,h1,rfl⟩:=h
 rw[acX]
 obtain⟨b,rfl⟩:=So h1
 exact⟨b,rfl⟩
theorem ajx{x:V}(h:vN Tryd.prog 9 76 x):∃ a b,x=.agg [vInt a,vInt b]:=by
 obtain⟨xs,h1,rfl⟩:=h
 rw[acW]
 obtain⟨a,b,rfl⟩:=Sn h1
 exact⟨a,b,rfl⟩
end Go.Eng
set_option linter.constructorNameAsVariable false
set_option maxRecDepth 100000
namespace Go.Eng
open Go Go.Proofs Go.Proofs.YtckmfkgppohnmaaDoor Go.RowKit Go.ChangeShapes
theorem ab8{f:FuncId}{s:PSpec}(h:aR Tryd.prog f s){W:World}{args:Array Value}{xs:List V}(ht:kf W)(hr:rj (ku W) xs args.toList)(hp:s.pre xs)(hv:s.fn xs=.bool true):
 Calls Tryd.prog f args W fun e W'=>e=.returned (.bool true)/\RowKit.Below W.heap.size W W':=by
 refine(h.calls (ku W) W xs args ht (fun b off v hv=>hv) hr hp).mono ?_
 rintro e W' ⟨v,m',rfl,hb,_,_,h⟩
 rw[hv]at h
 cases h
 exact⟨rfl,hb⟩
theorem Wc(hc:∀ (W:World) (args:Array Value) (xs:List V),kf W->tH Tryd.prog 9 Tryd.f3.params.toList xs->rj (ku W) xs args.toList->Calls Tryd.prog 3 args W fun e W'=>e=.returned (.bool true)/\Below W.heap.size W W')
 (os:Os) (started:os.Started) (H:Type) (enc:TypeId×Value->H):
 ReturnsInHanded {} Tryd.checked os 3 .any (fun w args=>(Rows.lendOnceSpec.pre enc Tryd.prog Tryd.f3 [] false w args/\laidMetH Tryd.prog wB w)/\sizedMet enc Tryd.prog Tryd.f3 (OpenSpec.ofChange Rows.lendOnceSpec) false w args)
  (Rows.lendOnceSpec.post enc Tryd.prog Tryd.f3 false true false false):=by
 refine Wf (C:=Tryd.checked) (n:=9) (tb:=4) (laid:=wB) XB started (by kernel_rfl) Tryd.func3
  (ChangeSpec.witness_shaped (enc:=enc) (C:=Tryd.checked) (os:=os) (X:=fun w _=>laidMetH Tryd.prog wB w) false (JS os) #[.slice none 0 0] 8 rfl (World.shaped_of_RefB (by kernel_rfl) (by kernel_rfl)) (by kernel_rfl) (by kernel_rfl) (by kernel_rfl) (V' os _))
  Wa XC ?_ (by kernel_rfl) (by kernel_rfl) rfl ?_ hc
 ·have h:(Tryd.f3.params.toList.all fun t=>kn Tryd.prog 9 t&&Tryd.prog.readableRec t&&decide (t<Tryd.prog.types.size))=true:=by kernel_rfl
  intro t ht
  have :=List.all_eq_true.1 h t ht
  simp only[Bool.and_eq_true,decide_eq_true_eq]at this
  exact⟨this.1.1,this.1.2,this.2⟩
 ·intro ds e8
  have hl:Tryd.f3.params.toList.length=1:=by kernel_rfl
  rw[hl]at e8
  match ds,e8 with
  |[d1],_=>exact⟨rfl,rfl,rfl⟩
theorem Wb(hc:∀ (W:World) (args:Array Value) (xs:List V),kf W->tH Tryd.prog 9 Tryd.f3.params.toList xs->rj (ku W) xs args.toList->Calls Tryd.prog 3 args W fun e W'=>e=.returned (.bool true)/\Below W.heap.size W W'):
 Rows.LendOnceSaid:=
 OpenClaim.holds_of_wide 3 Tryd.f3 rfl rfl rfl rfl rfl rfl rfl ⟨rfl,rfl,rfl,rfl,rfl⟩ rfl rfl rfl rfl rfl (by kernel_rfl) Tryd.func3 (by kernel_rfl)
  (of_decide_eq_true (by kernel_rfl)) (by unfold Func.isWrapper;first | (rw[if_pos (by decide+kernel)];kernel_rfl) | (rw[if_neg (by decide+kernel)];exact⟨rfl,rfl⟩))
  (fun os started H enc _=>Wc hc os started H enc)
theorem Wd(h:Rows.LendOnceSaid):Rows.LendOnceCardSaid:=
 Claim7.holds_tied_plain_at .later [] [.data,.data,.data] true (true, "28cfda519c54781c81308c4dc0b3570512b8921263a288a3040a4d524312a115") false
  h (fun _ h=>by cases h) (by kernel_rfl) (fun _ h=>by cases h) lendOnce_row_tie rfl ⟨rfl,rfl⟩ (by kernel_rfl) rfl
  (fun f fn hf dp=>by
    obtain rfl:f=3:=Option.some.inj ((show Tryd.prog.funcNamed "parvise/parviselaw09.LendOnce" =some 3 by kernel_rfl).symm.trans hf)|>.symm
    obtain rfl:fn=Tryd.f3:=(Option.some.inj (Tryd.func3.symm.trans dp)).symm
    exact⟨by kernel_rfl,fun j t ht=>by
     have ee:(Tryd.f3.params.toList.all fun t=>!Tryd.prog.wantsStandIn t)=true:=by kernel_rfl
     have hm:t∈Tryd.f3.params.toList:=by
      obtain⟨hj,e⟩:=Array.getElem?_eq_some_iff.1 ht
      rw[<-e]
      exact Array.getElem_mem_toList hj
     have :=List.all_eq_true.1 ee t hm
     have h1:Tryd.prog.wantsStandIn t=false:=by simpa using this
     exact h1⟩)
  (by kernel_rfl)
end Go.Eng
set_option linter.constructorNameAsVariable false
set_option maxRecDepth 100000
namespace Go.Eng
open Go Go.Proofs Go.Proofs.YtckmfkgppohnmaaDoor
theorem Sq{n:Nat}{xs:List V}(h:de Tryd.prog (n+2) 31 xs):∃ a:Act,xs=kb a:=by
 unfold de at h
 simp only[Tryd.underlying31]at h
 obtain⟨x1,y1,rfl,h1,x2,y2,rfl,h2,x3,y3,rfl,h3,x4,y4,rfl,h4,x5,y5,rfl,h5,rfl⟩:=h
 obtain⟨a,rfl,_⟩:=fM h1
 obtain⟨b,rfl,_⟩:=fM h2
 obtain⟨c,rfl,_⟩:=fM h3
 obtain⟨d,rfl,_⟩:=fM h4
 obtain⟨e,rfl,_⟩:=fM h5
 exact⟨⟨a,b,c,d,e⟩,rfl⟩
theorem acZ:gY Tryd.prog 31=true:=by kernel_rfl
theorem ac0:gY Tryd.prog 22=false:=by kernel_rfl
theorem acQ{x:V}(h:vN Tryd.prog 9 22 x):∃ l:List Act,x=.sl (l.map s9):=by
 obtain⟨xs,h1,rfl⟩:=h
 rw[ac0]
 obtain⟨l,rfl⟩:∃ l:List Act,xs=[.sl (l.map s9)]:=B6 Tryd.underlying22 h1 fun ys hy=>by
  obtain⟨p,rfl⟩:=Sq hy
  rw[acZ]
  exact⟨p,rfl⟩
 exact⟨l,rfl⟩
theorem lendOnce_holds:Rows.LendOnceCardSaid:=
 Wd<|Wb fun W args xs ht ha hr=>by
  obtain⟨x,ys,rfl,h1,rfl⟩:=(show tH Tryd.prog 9 [22] xs from ha)
  obtain⟨l,rfl⟩:=acQ h1
  exact ab8 Im ht hr ⟨congrArg zL.enc (YJ l),trivial⟩ rfl
end Go.Eng
namespace Go.Proofs.YtckmfkgppohnmaaDoor
theorem lendOnceCard_holds : Rows.LendOnceCardSaid := Go.Eng.lendOnce_holds
end Go.Proofs.YtckmfkgppohnmaaDoor
#print axioms Go.Proofs.YtckmfkgppohnmaaDoor.lendOnceCard_holds
