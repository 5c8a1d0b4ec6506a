import Derived.Test.YtckmfkgppohnmaaDoorK15
import GoSem.ClaimChange
import Derived.DataReads
import Derived.ChangeReads
import Derived.ProofKit
import Derived.Carry
import Derived.Lib.LaidTab
import Derived.LaidMore
import Derived.Stop.LaidErr
import Derived.Stop.Joined
import Derived.OpenShut
import Derived.Test.YtckmfkgppohnmaaDoorRows
import Derived.Test.YtckmfkgppohnmaaDoorChecked
import Derived.MakeChecks
import Derived.SevenTiedAt
import Derived.Test.YtckmfkgppohnmaaDoorCards
import Derived.Test.YtckmfkgppohnmaaDoorTie
/- if nothing else is done, but that all desks write and dry, and all bags are opened: after 2 such rounds nothing is under way, and each paper is at one parish -/
set_option linter.all false
namespace Go.Eng
open Go Go.Proofs
set_option maxRecDepth 100000
theorem Gh(x:Sx)(i:Nat):∀ j,(jX x i j).length<=j
 | 0=>Nat.le_refl _
 |j+1=>by
  have :=Gh x i j
  unfold jX
  split
  ·omega
  ·rw[List.length_append];simp only[List.length_cons,List.length_nil];omega
theorem Gi(x:Sx):∀ i,(lH x i).length<=6*i
 | 0=>Nat.le_refl _
 |i+1=>by
  have :=Gi x i
  have h2:=Gh x i 6
  show (lH x i++jX x i 6).length<=_
  rw[List.length_append];omega
def lG(x:Sx)(i j:Nat):List Bag:=lH x i++jX x i j
theorem aca(x:Sx)(i:Nat):lG x i 0=lH x i:=List.append_nil _
theorem ab'(x:Sx)(i:Nat):lG x i 6=lH x (i+1):=rfl
theorem ab8{x:Sx}{i j:Nat}(h:i=j):lG x i (j+1)=lG x i j:=by unfold lG;rw[show jX x i (j+1)=jX x i j from if_pos h]
theorem ab9{x:Sx}{i j:Nat}(h:i≠j):lG x i (j+1)=lG x i j++[fI (x.ds.get i) (j:Int)]:=by unfold lG;rw[show jX x i (j+1)=jX x i j++[fI (x.ds.get i) (j:Int)]from if_neg h,List.append_assoc]
theorem ab6{l:List Bag}{i:Nat}(h:i<l.length):(l.map fQ).getD i default=.agg (aT l[i]):=by
 rw[ba h];rfl
theorem QT(x:Sx):b9 (n4 x)=[.sl ((fV (bF x 6) (fU x) (fU x).length).ds.L encDk),.sl (x.bs.map fQ)]:=by
 have :(n4 x).bs=x.bs:=(Ih _ _ _).trans (Ii x 6)
 unfold b9
 rw[this]
 rfl
noncomputable def PH:List (Nat×Spec):=[(15,S10),(16,S12),(17,S26),(18,S16)]
theorem acN:∀ f s,tbl PH f=some s->an Tryd.prog f s:=tc Ld<|tc K8<|tc K0<|tc K5<|tn
attribute [go_sem] PH
noncomputable def P528:PSpec:=p1 ue (fun x=>∃ n,n<=1000/\ig n x) (fun x=>.tup [.agg (b9 (n4 x)),.bool true]) false
noncomputable def S528:Spec:=P528.toSpec
attribute [go_sem] P528 S528
set_option maxHeartbeats 16000000 in
theorem SP:aZ Tryd.prog 28 P528:=by
 refine w1 (rs:=[.cell 2 26,.tmp 3]) Tryd.func28 Tryd.ntmps28 (by rfl) (by kernel_rfl) (by decide) (fun h=>by cases h) ⟨_,rfl,lb rfl,fun x hp hw=>?_⟩
 have hP:=bn
 simp only[ue]at hw |-
 have hΓ:=acN
 obtain⟨n,hn,hx⟩:=hp
 obtain⟨_,zB,LD,wv⟩:=yo hx (by omega)
 obtain⟨lg,ew⟩:=hx.wl
 have bb:(x.ds.L encDk).length=6:=rfl
 have hL:∀ y:Sx,(y.ds.L encDk).length=6:=fun _=>rfl
 rw[QT]
 repeat refine sq ?_
 refine rx hΓ [1,2] [[1,0],[2,0],[20,0]] (fun K' hK=>by simp only[go_sem];(repeat (refine⟨ah,?_⟩));exact hK _ (by simp only[go_sem]) (by simp only[go_sem]<;>rfl)) ?_
 repeat refine sq ?_
 refine rx hΓ [1,2] [[1,0],[2,0],[20,0]] (fun K' hK=>by simp only[go_sem,bb,List.nil_append];(repeat (refine⟨by first | exact⟨IY x,rfl,by unfold maxLen;omega⟩ | exact ah,?_⟩));exact hK _ (by simp only[go_sem]) (by simp only[go_sem]<;>rfl)) ?_
 have e00:x=bF x 0:=rfl
 repeat refine sq ?_
 refine rx hΓ [1,2,4] [[1,0],[2,0],[20,0]] (fun K' hK=>by simp only[go_sem];(repeat (refine⟨ah,?_⟩));exact hK _ (by simp only[go_sem]) (by simp only[go_sem]<;>rfl)) ?_
 repeat refine sq ?_
 refine aL ?_
 repeat refine sq ?_
 refine cN (fun z:Nat=>[(4,⟨true,.v (vInt z)⟩)]) (fun z=>[([20,0],.arr 63 ((bF x z).ds.L encDk))]) (fun z=>z<=6) (fun z=>6-z) 0 ?_ ?_ ?_ ?_
 ·exact Nat.zero_le _
 ·rfl
 ·rfl
 rintro i hi
 simp only[go_sem]
 repeat refine sq ?_
 refine rx hΓ [1,2,4,26] [[1,0],[2,0],[20,0]] (fun K' hK=>by simp only[go_sem];(repeat (refine⟨ah,?_⟩));exact hK _ (by simp only[go_sem]) (by simp only[go_sem]<;>rfl)) ?_
 repeat refine sq ?_
 refine aw rfl rfl (fun hb=>?_) (fun hb=>?_)
 ·have ae:i<6:=by have hq:(i:Int)<6:=(by simpa using hb);omega
  have ak:(i:Int)<6:=by omega
  clear hb
  have wz:=yp ew (by omega) i (by omega)
  have sz:=Cb hx (by omega) i (by omega)
  obtain⟨d,hd⟩:∃ d,d=(bF x i).ds.get i:=⟨_,rfl⟩
  have wG:((bF x i).ds.L encDk).getD i default=encDk d:=by rw[hd];exact aS.L_get _ encDk default ae
  have he:eI d=0:=by rw[hd];exact(wz.write ae (by omega)).1
  have kS:ay d=true:=by rw[hd];exact sz.ok i ae
  have eA:dZ d:=by rw[hd];exact sz.sz i ae
  have hk:=(qL kS he).1
  have Zo:=hk.sz eA
  have Al:=fw hk.ok
  have gZ:=Bo (bF x i) (eX (cS d)) ae
  have eN:(bF x (i+1)).ds.L encDk=((bF x i).ds.set i (eX (cS d))).L encDk:=by rw[hd];rfl
  repeat refine sq ?_
  refine aA ?_
  repeat refine sq ?_
  refine aL ?_
  repeat refine sq ?_
  refine rx hΓ [1,2,4,5,6] [[1,0],[2,0],[5,0],[20,0]] (fun K' hK=>by simp only[go_sem,Int.toNat_natCast,Int.natCast_nonneg,ak,wG,hL,he,Int.toNat_natCast,Int.natCast_nonneg,ak,List.append_nil];(repeat (refine⟨by first | exact eA | exact ah,?_⟩));exact hK _ (by simp only[go_sem]) (by simp only[go_sem]<;>rfl)) ?_
  repeat refine sq ?_
  refine rx hΓ [1,2,4,6,7,8] [[1,0],[2,0],[7,0],[20,0]] (fun K' hK=>by simp only[go_sem,Int.toNat_natCast,Int.natCast_nonneg,ak,Al,List.append_nil];(repeat (refine⟨by first | exact Zo | exact ah,?_⟩));exact hK _ (by simp only[go_sem]) (by simp only[go_sem]<;>rfl)) ?_
  repeat refine sq ?_
  refine rx hΓ [1,2,4,7,48] [[1,0],[2,0],[7,0],[20,0]] (fun K' hK=>by simp only[go_sem,Int.toNat_natCast,Int.natCast_nonneg,ak,he,Al];(repeat (refine⟨ah,?_⟩));exact hK _ (by simp only[go_sem]) (by simp only[go_sem]<;>rfl)) ?_
  repeat refine sq ?_
  refine aw rfl rfl (fun hb=>?_) (fun hb=>?_)
  ·cases hb
  ·repeat refine sq ?_
   refine aA ?_
   repeat refine sq ?_
   refine aX hΓ fun K' hK=>?_
   simp only[go_sem,Int.toNat_natCast,Int.natCast_nonneg,ak,gZ,hL,Int.toNat_natCast,Int.natCast_nonneg,ak]
   repeat (refine⟨ah,?_⟩)
   refine hK _ ?_
   clear K' hK
   simp only[go_sem]
   refine kp [1,2,4] [[1,0],[2,0],[20,0]] ?_
   repeat refine sq ?_
   refine aX hΓ fun K' hK=>?_
   simp only[go_sem,Int.toNat_natCast,Int.natCast_nonneg,ak]
   repeat (refine⟨ah,?_⟩)
   refine hK _ ?_
   clear K' hK
   simp only[go_sem]
   refine⟨i+1,ae,by(show 6-(i+1)<6-i;omega),?_⟩
   refine bx [1,2,4] [[1,0],[2,0],[20,0]] ?_ ?_
   ·simp only[go_sem,aH ae (lb rfl:(6:Nat)<=maxLen),Int.natCast_add,Int.natCast_one,eN]
   ·simp only[go_sem,aH ae (lb rfl:(6:Nat)<=maxLen),Int.natCast_add,Int.natCast_one,eN]
 ·have bf:i=6:=by
   have :¬ (i:Int)<6:=by simpa using hb
   omega
  clear hb
  rw[bf]
  obtain⟨A,hA⟩:∃ A,A=bF x 6:=⟨_,rfl⟩
  obtain⟨l,hl⟩:∃ l,l=fU x:=⟨_,rfl⟩
  have L9:l=lH A 6:=by rw[hl,hA];rfl
  rw[<-hA]at LD |-
  rw[<-hl]at zB |-
  simp only[<-hA,<-hl]at wv
  repeat refine sq ?_
  refine cq ?_
  simp only[go_sem]
  refine kp [1,2] [[1,0],[2,0],[20,0]] ?_
  repeat refine sq ?_
  refine rx hΓ [1,2,9] [[1,0],[2,0],[20,0],[82,0]] (fun K' hK=>by simp only[go_sem];(repeat (refine⟨ah,?_⟩));exact hK _ (by simp only[go_sem]) (by simp only[go_sem]<;>rfl)) ?_
  refine aN (xU 9 [82,0] 4 (by simp only[go_sem]) (by simp only[go_sem]) [1,2,9] [[1,0],[2,0],[20,0],[82,0]] ?_ rfl) ?_
  ·simp only[go_sem]
  simp only[go_sem]
  repeat refine sq ?_
  refine rx hΓ [1,2,9,10] [[1,0],[2,0],[20,0],[82,0]] (fun K' hK=>by simp only[go_sem];(repeat (refine⟨ah,?_⟩));exact hK _ (by simp only[go_sem]) (by simp only[go_sem]<;>rfl)) ?_
  repeat refine sq ?_
  refine aL ?_
  repeat refine sq ?_
  refine cN (fun z:Nat=>[(10,⟨true,.v (vInt z)⟩),(9,⟨true,.msl [82,0] (lH A z).length⟩)]) (fun z=>[([82,0],.arr 4 ((lH A z).map fQ))]) (fun z=>z<=6) (fun z=>6-z) 0 ?_ ?_ ?_ ?_
  ·exact Nat.zero_le _
  ·rfl
  ·rfl
  rintro i1 hi
  simp only[go_sem]
  repeat refine sq ?_
  refine rx hΓ [1,2,9,10,56] [[1,0],[2,0],[20,0],[82,0]] (fun K' hK=>by simp only[go_sem];(repeat (refine⟨ah,?_⟩));exact hK _ (by simp only[go_sem]) (by simp only[go_sem]<;>rfl)) ?_
  repeat refine sq ?_
  refine aw rfl rfl (fun hb=>?_) (fun hb=>?_)
  ·have bJ:i1<6:=by have hq:(i1:Int)<6:=(by simpa using hb);omega
   have fi:(i1:Int)<6:=by omega
   clear hb
   rw[<-aca]
   have fF:=Gi A i1
   repeat refine sq ?_
   refine aA ?_
   repeat refine sq ?_
   refine aL ?_
   repeat refine sq ?_
   refine rx hΓ [1,2,9,10,11] [[1,0],[2,0],[20,0],[82,0]] (fun K' hK=>by simp only[go_sem,Int.toNat_natCast,Int.natCast_nonneg,fi];(repeat (refine⟨ah,?_⟩));exact hK _ (by simp only[go_sem]) (by simp only[go_sem]<;>rfl)) ?_
   repeat refine sq ?_
   refine aL ?_
   repeat refine sq ?_
   refine cN (fun z:Nat=>[(11,⟨true,.v (vInt z)⟩),(9,⟨true,.msl [82,0] (lG A i1 z).length⟩)]) (fun z=>[([82,0],.arr 4 ((lG A i1 z).map fQ))]) (fun z=>z<=6) (fun z=>6-z) 0 ?_ ?_ ?_ ?_
   ·exact Nat.zero_le _
   ·rfl
   ·rfl
   rintro i2 hi
   simp only[go_sem]
   repeat refine sq ?_
   refine rx hΓ [1,2,9,10,11,60] [[1,0],[2,0],[20,0],[82,0]] (fun K' hK=>by simp only[go_sem,Int.toNat_natCast,Int.natCast_nonneg,fi];(repeat (refine⟨ah,?_⟩));exact hK _ (by simp only[go_sem]) (by simp only[go_sem]<;>rfl)) ?_
   repeat refine sq ?_
   refine aw rfl rfl (fun hb=>?_) (fun hb=>?_)
   ·have fh:i2<6:=by have hq:(i2:Int)<6:=(by simpa using hb);omega
    have gD:(i2:Int)<6:=by omega
    clear hb
    have fq:=Gh A i1 i2
    have Ai:(lG A i1 i2).length<=100:=by unfold lG;rw[List.length_append];omega
    have YU:(A.ds.L encDk).getD i1 default=encDk (A.ds.get i1):=aS.L_get _ encDk default bJ
    repeat refine sq ?_
    refine aA ?_
    repeat refine sq ?_
    refine aL ?_
    repeat refine sq ?_
    refine rx hΓ [1,2,9,10,11,65] [[1,0],[2,0],[20,0],[82,0]] (fun K' hK=>by simp only[go_sem,Int.toNat_natCast,Int.natCast_nonneg,fi,Int.toNat_natCast,Int.natCast_nonneg,gD];(repeat (refine⟨ah,?_⟩));exact hK _ (by simp only[go_sem]) (by simp only[go_sem]<;>rfl)) ?_
    repeat refine sq ?_
    refine aw rfl rfl (fun hb=>?_) (fun hb=>?_)
    ·repeat refine sq ?_
     have An:i1=i2:=by simp at hb;omega
     have e:=ab8 (x:=A) An
     refine cq ?_
     simp only[go_sem]
     refine kp [1,2,9,10,11] [[1,0],[2,0],[20,0],[82,0]] ?_
     repeat refine sq ?_
     refine aX hΓ fun K' hK=>?_
     simp only[go_sem,Int.toNat_natCast,Int.natCast_nonneg,fi,Int.toNat_natCast,Int.natCast_nonneg,gD]
     repeat (refine⟨ah,?_⟩)
     refine hK _ ?_
     clear K' hK
     simp only[go_sem]
     refine⟨i2+1,fh,by(show 6-(i2+1)<6-i2;omega),?_⟩
     refine bx [1,2,9,10,11] [[1,0],[2,0],[20,0],[82,0]] ?_ ?_
     ·simp only[go_sem,aH fh (lb rfl:(6:Nat)<=maxLen),Int.natCast_add,Int.natCast_one,e,List.map_append,List.length_append,List.map_cons,List.map_nil,List.length_cons,List.length_nil]
     ·simp only[go_sem,aH fh (lb rfl:(6:Nat)<=maxLen),Int.natCast_add,Int.natCast_one,e,List.map_append,List.length_append,List.map_cons,List.map_nil,List.length_cons,List.length_nil]
    ·repeat refine sq ?_
     have An:i1≠i2:=by simp at hb;omega
     have e:=ab9 (x:=A) An
     have MF:=Gu LD bJ fh An
     refine aA ?_
     repeat refine sq ?_
     refine rx hΓ [1,2,9,10,11,12,13] [[1,0],[2,0],[12,0],[20,0],[82,0]] (fun K' hK=>by simp only[go_sem,Int.toNat_natCast,Int.natCast_nonneg,fi,Int.toNat_natCast,Int.natCast_nonneg,gD,YU,hL,MF,Int.toNat_natCast,Int.natCast_nonneg,fi,List.append_nil];(repeat (refine⟨ah,?_⟩));exact hK _ (by simp only[go_sem]) (by simp only[go_sem]<;>rfl)) ?_
     refine aN (cX [12,0] (aT (fI (A.ds.get i1) (i2:Int))) rfl [1,2,9,10,11,12,13] [[1,0],[2,0],[12,0],[20,0],[82,0]] ?_ rfl) ?_
     ·simp only[go_sem]
     simp only[go_sem]
     repeat refine sq ?_
     refine rx hΓ [1,2,9,10,11,12,77] [[1,0],[2,0],[12,0],[20,0],[82,0]] (fun K' hK=>by simp only[go_sem,Int.toNat_natCast,Int.natCast_nonneg,fi,Int.toNat_natCast,Int.natCast_nonneg,gD,MF];(repeat (refine⟨ah,?_⟩));exact hK _ (by simp only[go_sem]) (by simp only[go_sem]<;>rfl)) ?_
     repeat refine sq ?_
     refine aw rfl rfl (fun hb=>?_) (fun hb=>?_)
     ·cases hb
     ·repeat refine sq ?_
      refine aA ?_
      repeat refine sq ?_
      refine aX hΓ fun K' hK=>?_
      simp only[go_sem,Int.toNat_natCast,Int.natCast_nonneg,fi,Int.toNat_natCast,Int.natCast_nonneg,gD,List.map_append,List.length_append,List.map_cons,List.map_nil,List.length_cons,List.length_nil]
      repeat (refine⟨by first | exact⟨rfl,by omega,by unfold maxLen;omega⟩ | exact ah,?_⟩)
      refine hK _ ?_
      clear K' hK
      simp only[go_sem]
      refine kp [1,2,9,10,11] [[1,0],[2,0],[20,0],[82,0]] ?_
      repeat refine sq ?_
      refine aX hΓ fun K' hK=>?_
      simp only[go_sem,Int.toNat_natCast,Int.natCast_nonneg,fi,Int.toNat_natCast,Int.natCast_nonneg,gD]
      repeat (refine⟨ah,?_⟩)
      refine hK _ ?_
      clear K' hK
      simp only[go_sem]
      refine⟨i2+1,fh,by(show 6-(i2+1)<6-i2;omega),?_⟩
      refine bx [1,2,9,10,11] [[1,0],[2,0],[20,0],[82,0]] ?_ ?_
      ·simp only[go_sem,aH fh (lb rfl:(6:Nat)<=maxLen),Int.natCast_add,Int.natCast_one,e,List.map_append,List.length_append,List.map_cons,List.map_nil,List.length_cons,List.length_nil]
      ·simp only[go_sem,aH fh (lb rfl:(6:Nat)<=maxLen),Int.natCast_add,Int.natCast_one,e,List.map_append,List.length_append,List.map_cons,List.map_nil,List.length_cons,List.length_nil]
   ·have wO:i2=6:=by
     have :¬ (i2:Int)<6:=by simpa using hb
     omega
    clear hb
    rw[wO,ab']
    repeat refine sq ?_
    refine cq ?_
    simp only[go_sem]
    refine kp [1,2,9,10] [[1,0],[2,0],[20,0],[82,0]] ?_
    repeat refine sq ?_
    refine aX hΓ fun K' hK=>?_
    simp only[go_sem,Int.toNat_natCast,Int.natCast_nonneg,fi]
    repeat (refine⟨ah,?_⟩)
    refine hK _ ?_
    clear K' hK
    simp only[go_sem]
    refine⟨i1+1,bJ,by(show 6-(i1+1)<6-i1;omega),?_⟩
    refine bx [1,2,9,10] [[1,0],[2,0],[20,0],[82,0]] ?_ ?_
    ·simp only[go_sem,aH bJ (lb rfl:(6:Nat)<=maxLen),Int.natCast_add,Int.natCast_one,List.length_map]
    ·simp only[go_sem,aH bJ (lb rfl:(6:Nat)<=maxLen),Int.natCast_add,Int.natCast_one,List.length_map]
  ·have oN:i1=6:=by
    have :¬ (i1:Int)<6:=by simpa using hb
    omega
   clear hb
   rw[oN,<-L9]
   repeat refine sq ?_
   refine cq ?_
   simp only[go_sem]
   refine kp [1,2,9] [[1,0],[2,0],[20,0],[82,0]] ?_
   have hb6:l.length<=36:=by rw[L9];exact Gi A 6
   have L8:l.length<=maxLen:=by unfold maxLen;omega
   repeat refine sq ?_
   refine rx hΓ [1,2,9,14] [[1,0],[2,0],[20,0],[82,0]] (fun K' hK=>by simp only[go_sem];(repeat (refine⟨ah,?_⟩));exact hK _ (by simp only[go_sem]) (by simp only[go_sem]<;>rfl)) ?_
   refine aN (Bu 9 (.msl [82,0] l.length) (by simp only[go_sem]) (by simp only[go_sem]) [1,2,9,14] [[1,0],[2,0],[20,0],[82,0]] ?_ rfl) ?_
   ·simp only[go_sem]
   simp only[go_sem]
   repeat refine sq ?_
   refine aL ?_
   repeat refine sq ?_
   refine cN (fun z:Nat=>[(14,⟨true,.v (vInt z)⟩)]) (fun z=>[([20,0],.arr 63 ((fV A l z).ds.L encDk))]) (fun z=>z<=l.length) (fun z=>l.length-z) 0 ?_ ?_ ?_ ?_
   ·exact Nat.zero_le _
   ·rfl
   ·rfl
   rintro i3 hi
   simp only[go_sem]
   repeat refine sq ?_
   refine rx hΓ [1,2,9,14,86] [[1,0],[2,0],[20,0],[82,0]] (fun K' hK=>by simp only[go_sem];(repeat (refine⟨ah,?_⟩));exact hK _ (by simp only[go_sem]) (by simp only[go_sem]<;>rfl)) ?_
   repeat refine sq ?_
   refine aw rfl rfl (fun hb=>?_) (fun hb=>?_)
   ·have jl:i3<l.length:=by simpa using hb
    have mj:(i3:Int)<l.length:=by omega
    clear hb
    obtain⟨sz,pW⟩:=wv i3 jl
    obtain⟨b,mv⟩:∃ b,b=l[i3]:=⟨_,rfl⟩
    have wV:=zB b (by rw[mv];exact List.getElem_mem _)
    have jn:(l.map fQ).getD i3 default=.agg (aT b):=by rw[mv];exact ab6 jl
    rw[<-mv]at pW
    obtain⟨k,hk⟩:∃ k,b.to.toNat=k:=⟨_,rfl⟩
    have fo:k<6:=by omega
    rw[hk]at pW
    have q0:=wV.1
    have q6:=wV.2
    obtain⟨d,hd⟩:∃ d,d=(fV A l i3).ds.get k:=⟨_,rfl⟩
    have wG:((fV A l i3).ds.L encDk).getD k default=encDk d:=by rw[hd];exact aS.L_get _ encDk default fo
    have eA:dZ d:=by rw[hd];exact sz.sz k fo
    rw[<-hd]at pW
    have gZ:=Bo (fV A l i3) (eK d b) fo
    have eN:(fV A l (i3+1)).ds.L encDk=((fV A l i3).ds.set k (eK d b)).L encDk:=by
     show (((fV A l i3).set (l.getD i3 default).to.toNat (eK ((fV A l i3).ds.get (l.getD i3 default).to.toNat) (l.getD i3 default))).ds).L encDk=_
     rw[getD_at jl,<-mv,hk,<-hd]
     rfl
    repeat refine sq ?_
    refine aA ?_
    repeat refine sq ?_
    refine aL ?_
    repeat refine sq ?_
    refine dx hΓ hP [[],[0],[],[],[2,3],[2,3,4],[2,3,4,5],[0,1,2,3,4,5,6],[0,1,2,3,4,5,6,7],[],[],[9,10],[9,10,11],[0,1,2,3,4,5,6,7,8,9,10,11,12],[0,1,2,3,4,5,6,7,8,9,10,11,12,13],[0,1,2,3,4,5,6,7,8,9,10,11,12,13,14],[0,1,2,3,4,5,6,7,8,9,10,11,12,13,14],[],[0,1,2,3,4,5,6,7,8,9,10,11,12,13,14,15,17],[0,1,2,3,4,5,6,7,8,9,10,11,12,13,14,15,16,17,18]] [1,2,9,14,15,16] [[1,0],[2,0],[15,0],[20,0],[82,0]] (by kernel_rfl) (fun K' hK=>by simp only[go_sem,jn,Int.toNat_natCast,Int.natCast_nonneg,mj,List.length_map,jn,hk,q0,q6,wG,hL,pW,Int.toNat_natCast,Int.natCast_nonneg,mj,List.length_map,List.append_nil];(repeat (refine⟨by first | exact eA | exact ah,?_⟩));(first | refine⟨by rfl,?_⟩ | skip);exact hK _ (by simp only[go_sem]) (by simp only[go_sem]<;>rfl)) ?_
    repeat refine sq ?_
    refine rx hΓ [1,2,9,14,15,107] [[1,0],[2,0],[15,0],[20,0],[82,0]] (fun K' hK=>by simp only[go_sem,jn,Int.toNat_natCast,Int.natCast_nonneg,mj,List.length_map,pW];(repeat (refine⟨ah,?_⟩));exact hK _ (by simp only[go_sem]) (by simp only[go_sem]<;>rfl)) ?_
    repeat refine sq ?_
    refine aw rfl rfl (fun hb=>?_) (fun hb=>?_)
    ·cases hb
    ·repeat refine sq ?_
     refine aA ?_
     repeat refine sq ?_
     refine xu hΓ hP [[],[0],[],[],[2,3],[2,3,4],[2,3,4,5],[],[0,1,2,3,4,5,6,7],[0,1,2,3,4,5,6,7,8]] (by kernel_rfl) fun K' hK=>?_
     simp only[go_sem,jn,Int.toNat_natCast,Int.natCast_nonneg,mj,List.length_map,jn,hk,q0,q6,gZ,hL,Int.toNat_natCast,Int.natCast_nonneg,mj,List.length_map]
     repeat (refine⟨ah,?_⟩)
     first | refine⟨by rfl,?_⟩ | skip
     refine hK _ ?_
     clear K' hK
     simp only[go_sem]
     refine kp [1,2,9,14] [[1,0],[2,0],[20,0],[82,0]] ?_
     repeat refine sq ?_
     refine aX hΓ fun K' hK=>?_
     simp only[go_sem,jn,Int.toNat_natCast,Int.natCast_nonneg,mj,List.length_map]
     repeat (refine⟨ah,?_⟩)
     refine hK _ ?_
     clear K' hK
     simp only[go_sem]
     refine⟨i3+1,jl,by(show l.length-(i3+1)<l.length-i3;omega),?_⟩
     refine bx [1,2,9,14] [[1,0],[2,0],[20,0],[82,0]] ?_ ?_
     ·simp only[go_sem,aH jl L8,Int.natCast_add,Int.natCast_one,eN]
     ·simp only[go_sem,aH jl L8,Int.natCast_add,Int.natCast_one,eN]
   ·have Et:i3=l.length:=by
     have :¬ (i3:Int)<l.length:=by simpa using hb
     omega
    clear hb
    subst Et
    repeat refine sq ?_
    refine cq ?_
    simp only[go_sem]
    refine kp [1,2] [[1,0],[2,0],[20,0]] ?_
    repeat refine sq ?_
    refine rx hΓ [2,3] [[2,0],[20,0]] (fun K' hK=>by simp only[go_sem];(repeat (refine⟨ah,?_⟩));exact hK _ (by simp only[go_sem]) (by simp only[go_sem]<;>rfl)) ?_
    refine aN (dK [2,0] [20,0] 0 _ _ _ _ rfl rfl rfl (by first | rfl | (simp only[List.length_map,hL];done)) [2,3] [[2,0]] ?_ rfl) ?_
    ·simp only[go_sem,List.set_cons_succ,List.set_cons_zero,hL]
    simp only[go_sem,List.set_cons_succ,List.set_cons_zero,hL]
    refine av ?_
    simp only[go_sem]
    skip
theorem W8:an Tryd.prog 28 S528:=SP.sound
def rj(d:Dk)(k:Nat):Bool:=(d.now.un.get k).length==0
def rk(l:List Dk)(i:Nat):Bool:=eH 6 (rj (l.getD i default))
def rh(l:List Dk):Bool:=ek l&&eH l.length (rk l)
def yt(l:List Dk):Int:=if ek l=true then 0 else 97
theorem lx{l:List Dk}(h:ek l=false):rh l=false/\yt l=97:=⟨by unfold rh;rw[h];rfl,if_neg (by rw[h];decide)⟩
theorem ly{l:List Dk}{i k:Nat}(h:ek l=true)(hi:i<l.length)(hk:k<6)(hq:rj l[i] k=false):rh l=false/\yt l=0:=by
 refine⟨?_,if_pos h⟩
 have :rk l i=false:=by
  unfold rk
  rw[getD_at hi]
  exact fy hk hq
 unfold rh
 rw[fy hi this,Bool.and_false]
theorem kJ{l:List Dk}(h:ek l=true)(hR:eH l.length (rk l)=true):rh l=true/\yt l=0:=⟨by unfold rh;rw[h,hR];rfl,if_pos h⟩
theorem TL{d:Dk}{k:Nat}:decide (((d.now.un.get k).length:Int)>0)=!rj d k:=by
 unfold rj
 cases (d.now.un.get k).length<;>simp
noncomputable def PK:List (Nat×Spec):=[(59,S119)]
theorem acR:∀ f s,tbl PK f=some s->an Tryd.prog f s:=tc La<|tn
attribute [go_sem] PK
noncomputable def P524:PSpec:=p1 oy (fun _=>True) (fun l=>.tup [.bool (rh l),vInt (yt l)]) false
noncomputable def S524:Spec:=P524.toSpec
attribute [go_sem] P524 S524
set_option maxHeartbeats 4000000 in
theorem SQ:aZ Tryd.prog 24 P524:=by
 refine w1 (rs:=[.tmp 2,.tmp 3]) Tryd.func24 Tryd.ntmps24 (by rfl) (by kernel_rfl) (by decide) (fun h=>by cases h) ⟨_,rfl,lb rfl,fun l hp hw=>?_⟩
 have hP:=bn
 simp only[oy]at hw |-
 have hΓ:=acR
 have hl:l.length<=maxLen:=by have:=hw.1.1;simpa using this
 repeat refine sq ?_
 refine rx hΓ [0] [] (fun K' hK=>by simp only[go_sem];(repeat (refine⟨ah,?_⟩));exact hK _ (by simp only[go_sem]) (by simp only[go_sem]<;>rfl)) ?_
 repeat refine sq ?_
 refine rx hΓ [0,10] [] (fun K' hK=>by simp only[go_sem];(repeat (refine⟨ah,?_⟩));exact hK _ (by simp only[go_sem]) (by simp only[go_sem]<;>rfl)) ?_
 repeat refine sq ?_
 refine aw rfl rfl (fun hb=>?_) (fun hb=>?_)
 ·repeat refine sq ?_
  have h1:ek l=false:=by simpa using hb
  repeat refine sq ?_
  refine rx hΓ [2,3] [] (fun K' hK=>by simp only[go_sem];(repeat (refine⟨ah,?_⟩));exact hK _ (by simp only[go_sem]) (by simp only[go_sem]<;>rfl)) ?_
  refine av ?_
  simp only[go_sem]
  first | (rw[(lx h1).1,(lx h1).2];done) | (rw[(ly h1 ae bJ bt).1,(ly h1 ae bJ bt).2];done) | (rw[(kJ h1 hR).1,(kJ h1 hR).2];done) | (rw[(lx h1).1,(lx h1).2];rfl) | (rw[(ly h1 ae bJ bt).1,(ly h1 ae bJ bt).2];rfl) | (rw[(kJ h1 hR).1,(kJ h1 hR).2];rfl)
 ·repeat refine sq ?_
  have h1:ek l=true:=by simpa using hb
  refine aA ?_
  repeat refine sq ?_
  refine rx hΓ [11,12,13] [] (fun K' hK=>by simp only[go_sem];(repeat (refine⟨ah,?_⟩));exact hK _ (by simp only[go_sem]) (by simp only[go_sem]<;>rfl)) ?_
  repeat refine sq ?_
  refine aL ?_
  repeat refine sq ?_
  refine cN (fun z:Nat=>[(13,⟨true,.v (vInt z)⟩)]) (fun z=>[]) (fun z=>z<=l.length/\eH z (rk l)=true) (fun z=>l.length-z) 0 ?_ ?_ ?_ ?_
  ·exact⟨Nat.zero_le _,rfl⟩
  ·rfl
  ·rfl
  rintro i ⟨hi,hR⟩
  simp only[go_sem]
  repeat refine sq ?_
  refine rx hΓ [11,12,13,14] [] (fun K' hK=>by simp only[go_sem];(repeat (refine⟨ah,?_⟩));exact hK _ (by simp only[go_sem]) (by simp only[go_sem]<;>rfl)) ?_
  repeat refine sq ?_
  refine aw rfl rfl (fun hb=>?_) (fun hb=>?_)
  ·have ae:i<l.length:=by simpa using hb
   have ak:(i:Int)<l.length:=by omega
   clear hb
   have ZV:=hR
   repeat refine sq ?_
   refine aA ?_
   repeat refine sq ?_
   refine aL ?_
   repeat refine sq ?_
   refine rx hΓ [5,11,12,13] [[5,0]] (fun K' hK=>by simp only[go_sem,eY ae,Int.toNat_natCast,Int.natCast_nonneg,ak,List.length_map,eY ae,Int.toNat_natCast,Int.natCast_nonneg,ak,List.length_map,List.append_nil];(repeat (refine⟨ah,?_⟩));exact hK _ (by simp only[go_sem]) (by simp only[go_sem]<;>rfl)) ?_
   refine aN (cX [5,0] (aq l[i]) rfl [5,11,12,13] [[5,0]] ?_ rfl) ?_
   ·simp only[go_sem]
   simp only[go_sem]
   repeat refine sq ?_
   refine rx hΓ [11,12,13,19,20] [] (fun K' hK=>by simp only[go_sem,eY ae,Int.toNat_natCast,Int.natCast_nonneg,ak,List.length_map,aaQ];(repeat (refine⟨ah,?_⟩));exact hK _ (by simp only[go_sem]) (by simp only[go_sem]<;>rfl)) ?_
   repeat refine sq ?_
   refine aL ?_
   repeat refine sq ?_
   refine cN (fun z:Nat=>[(20,⟨true,.v (vInt z)⟩)]) (fun z=>[]) (fun z=>z<=6/\eH z (rj l[i])=true) (fun z=>6-z) 0 ?_ ?_ ?_ ?_
   ·exact⟨Nat.zero_le _,rfl⟩
   ·rfl
   ·rfl
   rintro i1 ⟨hi,hR⟩
   simp only[go_sem]
   repeat refine sq ?_
   refine rx hΓ [11,12,13,19,20,21] [] (fun K' hK=>by simp only[go_sem,eY ae,Int.toNat_natCast,Int.natCast_nonneg,ak,List.length_map];(repeat (refine⟨ah,?_⟩));exact hK _ (by simp only[go_sem]) (by simp only[go_sem]<;>rfl)) ?_
   repeat refine sq ?_
   refine aw rfl rfl (fun hb=>?_) (fun hb=>?_)
   ·have bJ:i1<6:=by have hq:(i1:Int)<6:=(by simpa using hb);omega
    have fi:(i1:Int)<6:=by omega
    clear hb
    repeat refine sq ?_
    refine aA ?_
    repeat refine sq ?_
    refine aL ?_
    repeat refine sq ?_
    refine rx hΓ [7,11,12,13,19,20] [] (fun K' hK=>by simp only[go_sem,eY ae,Int.toNat_natCast,Int.natCast_nonneg,ak,List.length_map,Int.toNat_natCast,Int.natCast_nonneg,fi,aS.L_get l[i].now.un rowP default bJ,Int.toNat_natCast,Int.natCast_nonneg,fi];(repeat (refine⟨ah,?_⟩));exact hK _ (by simp only[go_sem]) (by simp only[go_sem]<;>rfl)) ?_
    repeat refine sq ?_
    refine rx hΓ [11,12,13,19,20,25] [] (fun K' hK=>by simp only[go_sem,eY ae,Int.toNat_natCast,Int.natCast_nonneg,ak,List.length_map,Int.toNat_natCast,Int.natCast_nonneg,fi,TL,List.length_map];(repeat (refine⟨ah,?_⟩));exact hK _ (by simp only[go_sem]) (by simp only[go_sem]<;>rfl)) ?_
    repeat refine sq ?_
    refine aw rfl rfl (fun hb=>?_) (fun hb=>?_)
    ·repeat refine sq ?_
     have bt:rj l[i] i1=false:=by simpa using hb
     repeat refine sq ?_
     refine rx hΓ [2,3] [] (fun K' hK=>by simp only[go_sem,eY ae,Int.toNat_natCast,Int.natCast_nonneg,ak,List.length_map,Int.toNat_natCast,Int.natCast_nonneg,fi];(repeat (refine⟨ah,?_⟩));exact hK _ (by simp only[go_sem]) (by simp only[go_sem]<;>rfl)) ?_
     refine av ?_
     simp only[go_sem]
     first | (rw[(lx h1).1,(lx h1).2];done) | (rw[(ly h1 ae bJ bt).1,(ly h1 ae bJ bt).2];done) | (rw[(kJ h1 hR).1,(kJ h1 hR).2];done) | (rw[(lx h1).1,(lx h1).2];rfl) | (rw[(ly h1 ae bJ bt).1,(ly h1 ae bJ bt).2];rfl) | (rw[(kJ h1 hR).1,(kJ h1 hR).2];rfl)
    ·repeat refine sq ?_
     have bz:rj l[i] i1=true:=by simpa using hb
     refine aA ?_
     refine dA ?_
     simp only[go_sem]
     refine kp [11,12,13,19,20] [] ?_
     repeat refine sq ?_
     refine aX hΓ fun K' hK=>?_
     simp only[go_sem,eY ae,Int.toNat_natCast,Int.natCast_nonneg,ak,List.length_map,Int.toNat_natCast,Int.natCast_nonneg,fi]
     repeat (refine⟨ah,?_⟩)
     refine hK _ ?_
     clear K' hK
     simp only[go_sem]
     refine⟨i1+1,⟨bJ,?_⟩,by(show 6-(i1+1)<6-i1;omega),?_⟩
     ·exact jY hR bz
     refine bx [11,12,13,19,20] [] ?_ ?_
     ·simp only[go_sem,aH bJ (lb rfl:(6:Nat)<=maxLen),Int.natCast_add,Int.natCast_one]
     ·simp only[go_sem,aH bJ (lb rfl:(6:Nat)<=maxLen),Int.natCast_add,Int.natCast_one]
   ·have oN:i1=6:=by
     have :¬ (i1:Int)<6:=by simpa using hb
     omega
    clear hb
    have Y8:rk l i=true:=by unfold rk;rw[getD_at ae,<-oN];exact hR
    repeat refine sq ?_
    refine cq ?_
    simp only[go_sem]
    refine kp [11,12,13] [] ?_
    repeat refine sq ?_
    refine aX hΓ fun K' hK=>?_
    simp only[go_sem,eY ae,Int.toNat_natCast,Int.natCast_nonneg,ak,List.length_map]
    repeat (refine⟨ah,?_⟩)
    refine hK _ ?_
    clear K' hK
    simp only[go_sem]
    refine⟨i+1,⟨ae,?_⟩,by(show l.length-(i+1)<l.length-i;omega),?_⟩
    ·exact jY ZV Y8
    refine bx [11,12,13] [] ?_ ?_
    ·simp only[go_sem,aH ae hl,Int.natCast_add,Int.natCast_one]
    ·simp only[go_sem,aH ae hl,Int.natCast_add,Int.natCast_one]
  ·have bf:i=l.length:=by
    have :¬ (i:Int)<l.length:=by simpa using hb
    omega
   clear hb
   subst bf
   repeat refine sq ?_
   refine cq ?_
   simp only[go_sem]
   refine kp [] [] ?_
   repeat refine sq ?_
   refine rx hΓ [2,3] [] (fun K' hK=>by simp only[go_sem];(repeat (refine⟨ah,?_⟩));exact hK _ (by simp only[go_sem]) (by simp only[go_sem]<;>rfl)) ?_
   refine av ?_
   simp only[go_sem]
   first | (rw[(lx h1).1,(lx h1).2];done) | (rw[(ly h1 ae bJ bt).1,(ly h1 ae bJ bt).2];done) | (rw[(kJ h1 hR).1,(kJ h1 hR).2];done) | (rw[(lx h1).1,(lx h1).2];rfl) | (rw[(ly h1 ae bJ bt).1,(ly h1 ae bJ bt).2];rfl) | (rw[(kJ h1 hR).1,(kJ h1 hR).2];rfl)
theorem W9:an Tryd.prog 24 S524:=SQ.sound
noncomputable def acQ:List (Nat×Spec):=[]
attribute [go_sem] acQ
noncomputable def K91:List (Nat×Spec):=[(7,S507),(8,S508),(10,S19)]
attribute [go_sem] K91
def nE(l:List Act):Nat:=min l.length 50
def pA(x:Sx):Nat->Sx
 | 0=>x
 |z+1=>n4 (pA x z)
theorem Ca{x:Sx}{n:Nat}(h:ig n x)(hn:n<=100):∀ z,z<=2->ig (n+6*z) (pA x z)
 | 0,_=>h
 |z+1,hz=>(yo (Ca h hn z (by omega)) (by omega)).1.ok
noncomputable def GK:List (Nat×Spec):=[(7,S507),(8,S508),(28,S528),(24,S524),(29,S108),(20,S70),(10,S19)]
theorem acM:∀ f s,tbl GK f=some s->an Tryd.prog f s:=tc Xb<|tc Xa<|tc W8<|tc W9<|tc Lb<|tc WU<|tc Xg<|tn
attribute [go_sem] GK
noncomputable def P506:PSpec:=p1 zp (fun _=>True) (fun _=>.bool true) true
noncomputable def acD:Spec:=P506.toSpec
attribute [go_sem] P506 acD
set_option maxHeartbeats 8000000 in
theorem SW:aZ Tryd.prog 6 P506:=by
 refine w1 (rs:=[.tmp 2]) Tryd.func6 Tryd.ntmps6 (by rfl) (by kernel_rfl) (by decide) (fun _ _=>rfl) ⟨_,rfl,lb rfl,fun l hp hw=>?_⟩
 have hP:=bn
 simp only[zp]at hw |-
 obtain⟨Γ,hΓ,g1,g2,g3,g4,g5,g6,g7⟩:∃ Γ:FuncId->Option Spec,(∀ f s,Γ f=some s->an Tryd.prog f s)/\Γ 7=some S507/\Γ 8=some S508/\Γ 28=some S528/\Γ 24=some S524/\Γ 29=some S108/\Γ 20=some S70/\Γ 10=some S19:=⟨tbl GK,acM,rfl,rfl,rfl,rfl,rfl,rfl,rfl⟩
 have uv:nE l<=maxLen:=by have:nE l<=50:=Nat.min_le_right _ _;unfold maxLen;omega
 have hN:nE l<=50:=Nat.min_le_right _ _
 repeat refine sq ?_
 refine rx hΓ [0] [] (fun K' hK=>by simp only[go_sem];(repeat (refine⟨ah,?_⟩));exact hK _ (by simp only[go_sem]) (by simp only[go_sem]<;>rfl)) ?_
 repeat refine sq ?_
 refine rx hΓ [0,3,4] [[3,0]] (fun K' hK=>by simp only[go_sem,g1,List.append_nil];(repeat (refine⟨ah,?_⟩));exact hK _ (by simp only[go_sem]) (by simp only[go_sem]<;>rfl)) ?_
 repeat refine sq ?_
 refine rx hΓ [0,3,4,5] [[3,0]] (fun K' hK=>by simp only[go_sem];(repeat (refine⟨ah,?_⟩));exact hK _ (by simp only[go_sem]) (by simp only[go_sem]<;>rfl)) ?_
 repeat refine sq ?_
 refine aL ?_
 repeat refine sq ?_
 refine cN (fun z:Nat=>[(5,⟨true,.v (vInt z)⟩),(4,⟨true,.v (.bool true)⟩)]) (fun z=>[([3,0],.box ((b9 (th l z)).map .v))]) (fun z=>z<=(nE l)) (fun z=>(nE l)-z) 0 ?_ ?_ ?_ ?_
 ·exact Nat.zero_le _
 ·rfl
 ·rfl
 rintro i hi
 simp only[go_sem]
 repeat refine sq ?_
 refine rx hΓ [0,3,4,5,28] [[3,0]] (fun K' hK=>by simp only[go_sem];(repeat (refine⟨ah,?_⟩));exact hK _ (by simp only[go_sem]) (by simp only[go_sem]<;>rfl)) ?_
 repeat refine sq ?_
 refine aw rfl rfl (fun hb=>?_) (fun hb=>?_)
 ·repeat refine sq ?_
  have ae:i<nE l:=by simp at hb;unfold nE;omega
  have fD:i<l.length:=by have h:=ae;unfold nE at h;omega
  have El:(i:Int)<(l.length:Int):=by omega
  have nB:=acw fD
  have e:th l (i+1)=im (th l i) (l.getD i default):=rfl
  have Ya:=BG l i (by omega)
  have Y5:i<=1000:=by omega
  refine aA ?_
  repeat refine sq ?_
  refine aL ?_
  repeat refine sq ?_
  refine xu hΓ hP [[],[],[],[1,2],[1,2,3],[0,1,2,3,4],[0,1,2,3,4,5],[0,1,2,3,4,5,6],[0,1,2,3,4,5,6],[0,1,2,3,4,5,6,7],[0,1,2,3,4,5,6,7,8,9]] (by kernel_rfl) fun K' hK=>?_
  simp only[go_sem,g2,nB,El,Int.toNat_natCast,Int.natCast_nonneg,List.length_map,List.append_nil]
  repeat (refine⟨by first | exact⟨rfl,rfl,i,Y5,Ya⟩ | exact ah,?_⟩)
  first | refine⟨by rfl,?_⟩ | skip
  refine hK _ ?_
  clear K' hK
  simp only[go_sem]
  refine kp [0,3,4,5] [[3,0]] ?_
  repeat refine sq ?_
  refine aX hΓ fun K' hK=>?_
  simp only[go_sem]
  repeat (refine⟨ah,?_⟩)
  refine hK _ ?_
  clear K' hK
  simp only[go_sem]
  refine⟨i+1,ae,by(show (nE l)-(i+1)<(nE l)-i;omega),?_⟩
  refine bx [0,3,4,5] [[3,0]] ?_ ?_
  ·simp only[go_sem,aH ae uv,Int.natCast_add,Int.natCast_one,e]
  ·simp only[go_sem,aH ae uv,Int.natCast_add,Int.natCast_one,e]
 ·repeat refine sq ?_
  have bf:i=nE l:=by
   simp at hb
   have h:=hi
   unfold nE at h |-
   omega
  subst bf
  have zx:=BG l (nE l) (by omega)
  obtain⟨X,hX⟩:∃ X,X=th l (nE l):=⟨_,rfl⟩
  rw[<-hX]at zx |-
  have e0:X=pA X 0:=rfl
  refine cq ?_
  simp only[go_sem]
  refine kp [3,4] [[3,0]] ?_
  repeat refine sq ?_
  refine rx hΓ [3,4,6] [[3,0]] (fun K' hK=>by simp only[go_sem];(repeat (refine⟨ah,?_⟩));exact hK _ (by simp only[go_sem]) (by simp only[go_sem]<;>rfl)) ?_
  repeat refine sq ?_
  refine aL ?_
  repeat refine sq ?_
  refine cN (fun z:Nat=>[(6,⟨true,.v (vInt z)⟩),(4,⟨true,.v (.bool true)⟩)]) (fun z=>[([3,0],.box ((b9 (pA X z)).map .v))]) (fun z=>z<=2) (fun z=>2-z) 0 ?_ ?_ ?_ ?_
  ·exact Nat.zero_le _
  ·rfl
  ·rfl
  rintro i1 hi
  simp only[go_sem]
  repeat refine sq ?_
  refine rx hΓ [3,4,6,44] [[3,0]] (fun K' hK=>by simp only[go_sem];(repeat (refine⟨ah,?_⟩));exact hK _ (by simp only[go_sem]) (by simp only[go_sem]<;>rfl)) ?_
  repeat refine sq ?_
  refine aw rfl rfl (fun hb=>?_) (fun hb=>?_)
  ·repeat refine sq ?_
   have bJ:i1<2:=by simp at hb;omega
   have oB:=Ca zx (by omega) i1 (by omega)
   have e1:pA X (i1+1)=n4 (pA X i1):=rfl
   refine aA ?_
   repeat refine sq ?_
   refine aL ?_
   repeat refine sq ?_
   refine aX hΓ fun K' hK=>?_
   simp only[go_sem,g3,List.append_nil]
   repeat (refine⟨by first | exact⟨rfl,_,by omega,oB⟩ | exact ah,?_⟩)
   refine hK _ ?_
   clear K' hK
   simp only[go_sem]
   refine kp [3,4,6] [[3,0]] ?_
   repeat refine sq ?_
   refine aX hΓ fun K' hK=>?_
   simp only[go_sem]
   repeat (refine⟨ah,?_⟩)
   refine hK _ ?_
   clear K' hK
   simp only[go_sem]
   refine⟨i1+1,bJ,by(show 2-(i1+1)<2-i1;omega),?_⟩
   refine bx [3,4,6] [[3,0]] ?_ ?_
   ·simp only[go_sem,aH bJ (lb rfl:(2:Nat)<=maxLen),Int.natCast_add,Int.natCast_one,e1]
   ·simp only[go_sem,aH bJ (lb rfl:(2:Nat)<=maxLen),Int.natCast_add,Int.natCast_one,e1]
  ·repeat refine sq ?_
   have oN:i1=2:=by simp at hb;omega
   subst oN
   have Dr:=Ca zx (by omega) 2 (Nat.le_refl _)
   have hu:∀ i,i<6->∀ j,j<6->((pA X 2).ds.get i).now.un.get j=[]:=Q3 zx (by omega)
   obtain⟨y,hy⟩:∃ y,y=pA X 2:=⟨_,rfl⟩
   rw[<-hy]at Dr hu |-
   obtain⟨bZ,cg⟩:=kJ (NH Dr.ok) (TK hu)
   refine cq ?_
   simp only[go_sem]
   refine kp [3,4] [[3,0]] ?_
   repeat refine sq ?_
   refine rx hΓ [3,53] [[3,0]] (fun K' hK=>by simp only[go_sem];(repeat (refine⟨ah,?_⟩));exact hK _ (by simp only[go_sem]) (by simp only[go_sem]<;>rfl)) ?_
   repeat refine sq ?_
   refine aw rfl rfl (fun hb=>?_) (fun hb=>?_)
   ·cases hb
   ·repeat refine sq ?_
    refine aA ?_
    repeat refine sq ?_
    refine rx hΓ [3,7,8] [[3,0]] (fun K' hK=>by simp only[go_sem,g4,G7,bZ,cg];(repeat (refine⟨ah,?_⟩));exact hK _ (by simp only[go_sem]) (by simp only[go_sem]<;>rfl)) ?_
    repeat refine sq ?_
    refine rx hΓ [3,65] [[3,0]] (fun K' hK=>by simp only[go_sem,bZ,cg,Bool.not_true];(repeat (refine⟨ah,?_⟩));exact hK _ (by simp only[go_sem]) (by simp only[go_sem]<;>rfl)) ?_
    repeat refine sq ?_
    refine aw rfl rfl (fun hb=>?_) (fun hb=>?_)
    ·cases hb
    ·repeat refine sq ?_
     refine aA ?_
     repeat refine sq ?_
     refine rx hΓ [3,9] [[3,0]] (fun K' hK=>by simp only[go_sem];(repeat (refine⟨ah,?_⟩));exact hK _ (by simp only[go_sem]) (by simp only[go_sem]<;>rfl)) ?_
     repeat refine sq ?_
     refine aL ?_
     repeat refine sq ?_
     refine cN (fun z:Nat=>[(9,⟨true,.v (vInt z)⟩)]) (fun z=>[]) (fun z=>z<=6) (fun z=>6-z) 0 ?_ ?_ ?_ ?_
     ·exact Nat.zero_le _
     ·rfl
     ·rfl
     rintro i2 hi
     simp only[go_sem]
     repeat refine sq ?_
     refine rx hΓ [3,9,67] [[3,0]] (fun K' hK=>by simp only[go_sem];(repeat (refine⟨ah,?_⟩));exact hK _ (by simp only[go_sem]) (by simp only[go_sem]<;>rfl)) ?_
     repeat refine sq ?_
     refine aw rfl rfl (fun hb=>?_) (fun hb=>?_)
     ·have fh:i2<6:=by have hq:(i2:Int)<6:=(by simpa using hb);omega
      have gD:(i2:Int)<6:=by omega
      clear hb
      have hr:(0:Int)<=(i2:Int)/\(i2:Int)<6:=⟨by omega,by omega⟩
      obtain⟨q,hq⟩:∃ q,q=bM (i2:Int):=⟨_,rfl⟩
      have LO:q.length<=maxLen:=by rw[hq];exact(lb rfl:(3:Nat)<=maxLen)
      repeat refine sq ?_
      refine aA ?_
      repeat refine sq ?_
      refine aL ?_
      repeat refine sq ?_
      refine rx hΓ [3,9,10] [[3,0]] (fun K' hK=>by simp only[go_sem,Int.toNat_natCast,Int.natCast_nonneg,gD,g5,hr,<-hq];(repeat (refine⟨by first | exact⟨rfl,hr⟩ | exact hr | exact ah,?_⟩));exact hK _ (by simp only[go_sem]) (by simp only[go_sem]<;>rfl)) ?_
      repeat refine sq ?_
      refine rx hΓ [3,9,10,11] [[3,0]] (fun K' hK=>by simp only[go_sem,Int.toNat_natCast,Int.natCast_nonneg,gD];(repeat (refine⟨ah,?_⟩));exact hK _ (by simp only[go_sem]) (by simp only[go_sem]<;>rfl)) ?_
      repeat refine sq ?_
      refine aL ?_
      repeat refine sq ?_
      refine cN (fun z:Nat=>[(11,⟨true,.v (vInt z)⟩)]) (fun z=>[]) (fun z=>z<=q.length) (fun z=>q.length-z) 0 ?_ ?_ ?_ ?_
      ·exact Nat.zero_le _
      ·rfl
      ·rfl
      rintro i3 hi
      simp only[go_sem]
      repeat refine sq ?_
      refine rx hΓ [3,9,10,11,75] [[3,0]] (fun K' hK=>by simp only[go_sem,Int.toNat_natCast,Int.natCast_nonneg,gD];(repeat (refine⟨ah,?_⟩));exact hK _ (by simp only[go_sem]) (by simp only[go_sem]<;>rfl)) ?_
      repeat refine sq ?_
      refine aw rfl rfl (fun hb=>?_) (fun hb=>?_)
      ·have jl:i3<q.length:=by simpa using hb
       have mj:(i3:Int)<q.length:=by omega
       clear hb
       obtain⟨f1,f2⟩:=aaJ Dr hu fh (p:=q[i3]) (by rw[<-hq];exact List.getElem_mem _)
       have f3:((s6 (bX y) q[i3]).length:Int)=1:=by omega
       repeat refine sq ?_
       refine aA ?_
       repeat refine sq ?_
       refine aL ?_
       repeat refine sq ?_
       refine dx hΓ hP [[],[0],[],[],[2,3],[2,3,4],[0,1,2,3,4,5],[0,1,2,3,4,5,6],[0,1,2,3,4,5,6,7],[0,1,2,3,4,5,6,7],[0,1,2,3,4,5,6,7,8],[0,1,2,3,4,5,6,7,8,9,10]] [3,9,10,11,12,13] [[3,0]] (by kernel_rfl) (fun K' hK=>by simp only[go_sem,Int.toNat_natCast,Int.natCast_nonneg,gD,ba jl,Int.toNat_natCast,Int.natCast_nonneg,mj,List.length_map,g6,G7,ba jl,Int.toNat_natCast,Int.natCast_nonneg,mj,List.length_map,f1];(repeat (refine⟨ah,?_⟩));(first | refine⟨by rfl,?_⟩ | skip);exact hK _ (by simp only[go_sem]) (by simp only[go_sem]<;>rfl)) ?_
       repeat refine sq ?_
       refine rx hΓ [3,9,10,11,94] [[3,0]] (fun K' hK=>by simp only[go_sem,Int.toNat_natCast,Int.natCast_nonneg,gD,ba jl,Int.toNat_natCast,Int.natCast_nonneg,mj,List.length_map,f3,List.length_map];(repeat (refine⟨ah,?_⟩));exact hK _ (by simp only[go_sem]) (by simp only[go_sem]<;>rfl)) ?_
       repeat refine sq ?_
       refine aw rfl rfl (fun hb=>?_) (fun hb=>?_)
       ·cases hb
       ·repeat refine sq ?_
        refine aA ?_
        refine dA ?_
        simp only[go_sem]
        refine kp [3,9,10,11] [[3,0]] ?_
        repeat refine sq ?_
        refine aX hΓ fun K' hK=>?_
        simp only[go_sem,Int.toNat_natCast,Int.natCast_nonneg,gD,ba jl,Int.toNat_natCast,Int.natCast_nonneg,mj,List.length_map]
        repeat (refine⟨ah,?_⟩)
        refine hK _ ?_
        clear K' hK
        simp only[go_sem]
        refine⟨i3+1,jl,by(show q.length-(i3+1)<q.length-i3;omega),?_⟩
        refine bx [3,9,10,11] [[3,0]] ?_ ?_
        ·simp only[go_sem,aH jl LO,Int.natCast_add,Int.natCast_one,List.length_map]
        ·simp only[go_sem,aH jl LO,Int.natCast_add,Int.natCast_one,List.length_map]
      ·have Et:i3=q.length:=by
        have :¬ (i3:Int)<q.length:=by simpa using hb
        omega
       clear hb
       subst Et
       repeat refine sq ?_
       refine cq ?_
       simp only[go_sem]
       refine kp [3,9] [[3,0]] ?_
       repeat refine sq ?_
       refine aX hΓ fun K' hK=>?_
       simp only[go_sem,Int.toNat_natCast,Int.natCast_nonneg,gD]
       repeat (refine⟨ah,?_⟩)
       refine hK _ ?_
       clear K' hK
       simp only[go_sem]
       refine⟨i2+1,fh,by(show 6-(i2+1)<6-i2;omega),?_⟩
       refine bx [3,9] [[3,0]] ?_ ?_
       ·simp only[go_sem,aH fh (lb rfl:(6:Nat)<=maxLen),Int.natCast_add,Int.natCast_one,List.length_map]
       ·simp only[go_sem,aH fh (lb rfl:(6:Nat)<=maxLen),Int.natCast_add,Int.natCast_one,List.length_map]
     ·have wO:i2=6:=by
       have :¬ (i2:Int)<6:=by simpa using hb
       omega
      clear hb
      subst wO
      repeat refine sq ?_
      refine cq ?_
      simp only[go_sem]
      refine kp [] [] ?_
      repeat refine sq ?_
      refine rx hΓ [2] [] (fun K' hK=>by simp only[go_sem,g7];(repeat (refine⟨ah,?_⟩));exact hK _ (by simp only[go_sem]) (by simp only[go_sem]<;>rfl)) ?_
      refine av ?_
      simp only[go_sem]
      skip
open Go
def jZ(P:Program)(t:TypeId):Bool:=match P.underlying t with | some (.struct _)=>true | some (.array _ _)=>true | _=>false
def l7(ag:Bool)(xs:List V):V:=if ag then .agg xs else xs.getD 0 default
def mZ(P:Program):List Field->Nat->Nat->Bool
 |[],off,tot=>off==tot
 |f::r,off,tot=>f.offset==off&&mZ P r (off+P.cellsOf f.type) tot
def kK(P:Program):Nat->TypeId->Bool
 | 0,_=>false
 |n+1,t=>match P.underlying t with
  |some .bool=>P.cellsOf t==1
  |some (.int _)=>P.cellsOf t==1
  |some .string=>P.cellsOf t==1
  |some (.slice e)=>P.cellsOf t==1&&kK P n e&&decide (0<P.cellsOf e)&&(jZ P e||P.cellsOf e==1)
  |some (.struct fs)=>mZ P fs.toList 0 (P.cellsOf t)&&fs.toList.all fun f=>kK P n f.type
  |some (.array m e)=>P.cellsOf t==m*P.cellsOf e&&kK P n e
  |_=>false
def xJ(S:TypeId->List V->Prop):List TypeId->List V->Prop
 |[],xs=>xs=[]
 |t::r,xs=>∃ a b,xs=a++b/\S t a/\xJ S r b
def ja(P:Program):Nat->TypeId->List V->Prop
 | 0,_,_=>False
 |n+1,t,xs=>match P.underlying t with
  |some .bool=>∃ b,xs=[.bool b]
  |some (.int k)=>∃ z,xs=[.int k z]/\(Lit.int k z).wf=true
  |some .string=>∃ s,xs=[.str s]/\s.size<=maxLen
  |some (.slice e)=>∃ ls:List (List V),xs=[.sl (ls.map (l7 (jZ P e)))]/\ls.length<=maxLen/\∀ y∈ls,ja P n e y
  |some (.struct fs)=>xJ (ja P n) (fs.toList.map (·.type)) xs
  |some (.array m e)=>xJ (ja P n) (List.replicate m e) xs
  |_=>False
structure jb (m:Mem) (xs:List V) (cs:List Value):Prop where
 len:xs.length=cs.length
 rep:∀ i (h:i<xs.length) (h':i<cs.length),aB m xs[i] cs[i]
 one:∀ x∈xs,x.one=true
theorem jb.nil(m:Mem):jb m [] []:=⟨rfl,fun i h=>by simp at h,fun x h=>by simp at h⟩
theorem jb.append{m:Mem}{xs ys:List V}{cs ds:List Value}(h:jb m xs cs)(k:jb m ys ds):jb m (xs++ys) (cs++ds):=by
 refine⟨by simp[h.len,k.len],fun i h1 h2=>?_,fun x hx=>?_⟩
 ·by_cases hi:i<xs.length
  ·rw[List.getElem_append_left hi,List.getElem_append_left (by rw[<-h.len];exact hi)]
   exact h.rep i hi _
  ·have hl:=h.len
   have e:i-xs.length=i-cs.length:=by rw[hl]
   rw[List.getElem_append_right (by omega),List.getElem_append_right (by omega)]
   simp only[List.length_append]at h1 h2
   have :=k.rep (i-xs.length) (by omega) (by rw[<-k.len];omega)
   simp only[e]at this |-
   exact this
 ·rcases List.mem_append.1 hx with hx | hx
  ·exact h.one x hx
  ·exact k.one x hx
theorem jb.single{m:Mem}{x:V}{u:Value}(h:aB m x u)(ho:x.one=true):jb m [x] [u]:=
 ⟨rfl,fun i h1 h2=>by simp at h1;subst h1;exact h,fun y hy=>by simp at hy;subst hy;exact ho⟩
theorem mapM_some{α β:Type}{f:α->Option β}:∀ {l:List α} {r:List β},l.mapM f=some r->r.length=l.length/\∀ i (h:i<l.length) (h':i<r.length),f l[i]=some r[i]
 |[],r,h=>by
  simp only[List.mapM_nil]at h
  cases h
  exact⟨rfl,fun i h=>by simp at h⟩
 |a::l,r,h=>by
  simp only[List.mapM_cons,Option.bind_eq_bind,Option.bind_eq_some_iff]at h
  obtain⟨b,hb,bs,Af,hr⟩:=h
  cases hr
  obtain⟨h1,h2⟩:=mapM_some Af
  refine⟨by simp[h1],fun i hi bA=>?_⟩
  cases i with
  |zero=>exact hb
  |succ i=>exact h2 i (by simpa using hi) (by simpa using bA)
theorem Ha{P:Program}:∀ {fs:List Field} {off tot:Nat},mZ P fs off tot=true->off<=tot
 |[],off,tot,h=>by simp[mZ]at h;omega
 |f::r,off,tot,h=>by
  simp only[mZ,Bool.and_eq_true]at h
  have :=Ha h.2
  omega
theorem Nn{P:Program}{m:Mem}{S:TypeId->List V->Prop}{cs:List Value}:∀ {fs:List Field} {off:Nat},mZ P fs off cs.length=true->
 (∀ f∈fs,∃ xs,S f.type xs/\jb m xs ((cs.drop f.offset).take (P.cellsOf f.type)))->∃ xs,xJ S (fs.map (·.type)) xs/\jb m xs (cs.drop off)
 |[],off,h,_=>by
  simp[mZ]at h
  subst h
  exact⟨[],rfl,by simpa using jb.nil m⟩
 |f::r,off,h,hf=>by
  simp only[mZ,Bool.and_eq_true,beq_iff_eq]at h
  obtain⟨h1,h2⟩:=h
  obtain⟨a,ha,DJ⟩:=hf f (by simp)
  obtain⟨b,hb,DI⟩:=Nn h2 fun g hg=>hf g (by simp[hg])
  refine⟨a++b,⟨a,b,rfl,ha,hb⟩,?_⟩
  have e:cs.drop off=(cs.drop f.offset).take (P.cellsOf f.type)++cs.drop (off+P.cellsOf f.type):=by
   rw[h1,<-List.drop_drop,List.take_append_drop]
  rw[e]
  exact DJ.append DI
theorem Pl{m:Mem}{S:TypeId->List V->Prop}{e:TypeId}{k:Nat}{cs:List Value}:∀ (n off:Nat),cs.length=(off+n)*k->
 (∀ i,i<off+n->∃ xs,S e xs/\jb m xs ((cs.drop (i*k)).take k))->∃ xs,xJ S (List.replicate n e) xs/\jb m xs (cs.drop (off*k))
 | 0,off,h,_=>by
   have :cs.drop (off*k)=[]:=List.drop_eq_nil_of_le (by rw[h];simp)
   rw[this]
   exact⟨[],rfl,jb.nil m⟩
 |n+1,off,h,hf=>by
  obtain⟨a,ha,DJ⟩:=hf off (by omega)
  obtain⟨b,hb,DI⟩:=Pl n (off+1) (by rw[h];congr 1;omega) fun i hi=>hf i (by omega)
  refine⟨a++b,⟨a,b,rfl,ha,hb⟩,?_⟩
  have e:cs.drop (off*k)=(cs.drop (off*k)).take k++cs.drop ((off+1)*k):=by
   rw[Nat.succ_mul,<-List.drop_drop,List.take_append_drop]
  rw[e]
  exact DJ.append DI
theorem TZ{ag:Bool}{xs:List V}(h:ag=true\/xs.length=1)(ho:∀ x∈xs,x.one=true):(l7 ag xs).cells=xs:=by
 cases ag with
 |true=>rfl
 |false=>
  rcases h with h | h
  ·cases h
  match xs,h with
  |[x],_=>
   have :=ho x (by simp)
   show x.cells=[x]
   cases x<;>first | rfl | (simp[V.one]at this)
def kO(w:World):Mem:=fun b off=>w.cell? ⟨b,off,none⟩
theorem Pq{a:Addr}(h:a.spot=none)(n:Nat):a.add n=⟨a.block,a.off+n,none⟩:=by
 obtain⟨b,o,s⟩:=a
 simp only at h
 subst h
 unfold Addr.add
 split
 ·rename_i e;subst e;rfl
 ·rfl
theorem yl{H:Type}{enc:TypeId×Value->H}{P:Program}{w:World}{base:Nat}{spare:Nat->Bool}{held:Bool}:
 ∀ (n fuel:Nat) (t:TypeId) (cs:List Value) (r:DataW H×List MemPlace),kK P n t=true->cs.length=P.cellsOf t->DataW.trod enc P w base spare held fuel t cs=some r->∃ xs,ja P n t xs/\jb (kO w) xs cs
 | 0,_,_,_,_,h,_,_=>by simp[kK]at h
 |n+1,0,_,_,_,_,_,h=>by simp[DataW.trod]at h
 |n+1,fuel+1,t,cs,r,hp,hlen,h=>by
  rw[DataW.trod_step]at h
  unfold DataW.trodStep at h
  unfold kK at hp
  unfold ja
  rcases hu:P.underlying t with _ | u
  ·rw[hu]at hp;simp at hp
  rw[hu]at hp h
  cases u with
  |bool=>
   have hb:∃ b,cs=[.bool b]:=by
    simp only at h
    split at h<;>simp_all
   obtain⟨b,rfl⟩:=hb
   exact⟨_,⟨b,rfl⟩,.single (.bool _) rfl⟩
  |int k=>
   simp only at hp h |-
   split at h<;>simp_all
   obtain⟨⟨rfl,h1⟩,_⟩:=h
   exact⟨_,⟨_,rfl,h1⟩,.single (.int _ _) rfl⟩
  |string=>
   simp only at hp h |-
   split at h<;>simp_all
   obtain⟨h1,_⟩:=h
   exact⟨_,⟨_,rfl,h1⟩,.single (.str _ h1) rfl⟩
  |slice e=>
   simp only[Bool.and_eq_true,decide_eq_true_eq,Bool.or_eq_true,beq_iff_eq]at hp |-
   obtain⟨⟨⟨_,fK⟩,bK⟩,ZL⟩:=hp
   split at h<;>simp_all
   ·exact⟨_,⟨[],rfl,Nat.zero_le _,by simp⟩,.single (.slnil _ _) rfl⟩
   ·rename_i e' a len cap _ _
    obtain⟨⟨hb,YV,Mw⟩,h⟩:=h
    simp only[Option.bind_eq_some_iff]at h
    obtain⟨elems,jn,_⟩:=h
    obtain⟨l1,l2⟩:=mapM_some jn
    simp only[List.length_range]at l1
    have hx:∀ i,i<len->∃ xs cells,w.cells? base (a.add (i*P.cellsOf e')) (P.cellsOf e')=some cells/\ja P n e' xs/\jb (kO w) xs cells:=by
     intro i hi
     have h3:=l2 i (by simpa using hi) (by omega)
     simp only[List.getElem_range,Option.bind_eq_some_iff]at h3
     obtain⟨cells,h4,h5⟩:=h3
     obtain⟨xs,h6,h7⟩:=yl n fuel _ _ _ fK (World.cells?_some h4).2.1 h5
     exact⟨xs,cells,h4,h6,h7⟩
    rcases Nat.eq_zero_or_pos len with hz | Yy
    ·subst hz
     exact⟨[.sl []],⟨[],rfl,Nat.zero_le _,by simp⟩,.single (.slnil _ _) rfl⟩
    have DA:a.spot=none:=by
     obtain⟨xs,cells,h4,_⟩:=hx 0 Yy
     have h8:=(World.cells?_some h4).2.2 0 bK
     have h9:=(World.cells?_some h4).2.1
     have ss:w.cell? ((a.add (0*P.cellsOf e')).add 0)=some (cells[0]'(by omega)):=by rw[h8];exact List.getElem?_eq_getElem (by omega)
     simpa[Addr.add]using World.cell?_spot ss
    let X:Nat->List V:=fun i=>if h:i<len then Classical.choose (hx i h)else[]
    let C:Nat->List Value:=fun i=>(w.cells? base (a.add (i*P.cellsOf e')) (P.cellsOf e')).getD []
    have hX:∀ i,i<len->ja P n e' (X i)/\jb (kO w) (X i) (C i)/\(C i).length=P.cellsOf e'/\∀ j,j<P.cellsOf e'->w.cell? ⟨a.block,a.off+i*P.cellsOf e'+j,none⟩=(C i)[j]?:=by
     intro i hi
     obtain⟨cells,h4,h6,h7⟩:=Classical.choose_spec (hx i hi)
     have e1:X i=Classical.choose (hx i hi):=dif_pos hi
     have e2:C i=cells:=by show (w.cells? _ _ _).getD []=cells;rw[h4];rfl
     rw[e1,e2]
     refine⟨h6,h7,(World.cells?_some h4).2.1,fun j hj=>?_⟩
     have h8:=(World.cells?_some h4).2.2 j hj
     rw[Pq DA,Pq rfl]at h8
     exact h8
    have kT:∀ i,i<len->(l7 (jZ P e') (X i)).cells=X i:=fun i hi=>by
     obtain⟨h1,h2,h3,_⟩:=hX i hi
     refine TZ ?_ h2.one
     rcases ZL with h | h
     ·exact .inl h
     ·exact .inr (by rw[h2.len,h3,h])
    refine⟨[.sl (((List.range len).map X).map (l7 (jZ P e')))],⟨(List.range len).map X,rfl,by simp;omega,fun y hy=>?_⟩,.single ?_ rfl⟩
    ·simp only[List.mem_map,List.mem_range]at hy
     obtain⟨i,hi,rfl⟩:=hy
     exact(hX i hi).1
    ·obtain⟨b,o,s⟩:=a
     simp only at DA hX
     subst DA
     have key:=aB.sl (m:=kO w) (((List.range len).map X).map (l7 (jZ P e'))) b o cap (P.cellsOf e') (fun i j=>((C i)[j]?).getD undef) (by
         intro h;have:=congrArg List.length h;simp at this;omega) (by simp;omega) (by simpa using YV)
      (fun i hi=>by
        have bA:i<len:=by simpa using hi
        obtain⟨h1,h2,h3,_⟩:=hX i bA
        simp only[List.getElem_map,List.getElem_range]
        rw[kT i bA,h2.len,h3])
      (fun i j hi hj=>by
        have bA:i<len:=by simpa using hi
        obtain⟨h1,h2,h3,h4⟩:=hX i bA
        show w.cell? _=_
        rw[h4 j hj,List.getElem?_eq_getElem (by omega)]
        rfl)
      (fun i j hi hj=>by
        have bA:i<len:=by simpa using hi
        obtain⟨h1,h2,h3,h4⟩:=hX i bA
        simp only[List.getElem_map,List.getElem_range,kT i bA]at hj |-
        have gl:j<(C i).length:=by rw[<-h2.len];exact hj
        rw[List.getElem?_eq_getElem gl]
        exact h2.rep j hj gl)
      (fun i hi x hx=>by
        have bA:i<len:=by simpa using hi
        simp only[List.getElem_map,List.getElem_range,kT i bA]at hx
        exact(hX i bA).2.1.one x hx)
     simpa using key
  |struct fs=>
   simp only[Bool.and_eq_true,List.all_eq_true]at hp h |-
   obtain⟨ht,dI⟩:=hp
   rw[if_pos hlen]at h
   simp only[Option.map_eq_some_iff]at h
   obtain⟨ys,Dq,_⟩:=h
   obtain⟨l1,l2⟩:=mapM_some Dq
   have :=Nn (m:=kO w) (S:=ja P n) (cs:=cs) (fs:=fs.toList) (off:=0) (by rw[hlen];exact ht) fun f hf=>by
    obtain⟨i,hi,rfl⟩:=List.mem_iff_getElem.1 hf
    have h3:=l2 i hi (by omega)
    have hle:P.cellsOf fs.toList[i].type<=(cs.drop fs.toList[i].offset).length:=by
     have key:∀ (l:List Field) (off tot:Nat),mZ P l off tot=true->∀ f∈l,f.offset+P.cellsOf f.type<=tot:=by
      intro l
      induction l with
      |nil=>intro _ _ _ f hf;simp at hf
      |cons g r ih=>
       intro off tot h f hf
       simp only[mZ,Bool.and_eq_true,beq_iff_eq]at h
       rcases List.mem_cons.1 hf with rfl | hf
       ·have:=Ha h.2;omega
       ·exact ih _ _ h.2 f hf
     have :=key _ _ _ ht _ hf
     simp only[List.length_drop]
     omega
    exact yl n fuel _ _ _ (dI _ hf) (by rw[List.length_take];omega) h3
   simpa using this
  |array m e=>
   simp only[Bool.and_eq_true,beq_iff_eq]at hp h |-
   obtain⟨ht,fK⟩:=hp
   rw[if_pos hlen]at h
   simp only[Option.map_eq_some_iff]at h
   obtain⟨ys,Dq,_⟩:=h
   obtain⟨l1,l2⟩:=mapM_some Dq
   have :=Pl (m:=kO w) (S:=ja P n) (e:=e) (k:=P.cellsOf e) (cs:=cs) m 0 (by rw[hlen,ht];simp) fun i hi=>by
    have bA:i<m:=by omega
    have h3:=l2 i (by simpa using bA) (by rw[l1];simpa using bA)
    simp only[List.getElem_range]at h3
    have hle:i*P.cellsOf e+P.cellsOf e<=cs.length:=by
     rw[hlen,ht,<-Nat.succ_mul];exact Nat.mul_le_mul_right _ bA
    exact yl n fuel _ _ _ fK (by rw[List.length_take,List.length_drop];omega) h3
   simpa using this
  |_=>simp at hp
open Go Go.RowKit Go.ChangeShapes Go.WideShapes Go.ChangeAt
theorem Ur{P:Program}{n:Nat}{t:TypeId}{W:World}{r:Reach}{base:Nat}{v:Value}(hp:kK P n t=true)(h:Value.okWide P W r base t v):
 v.cells.size=P.cellsOf t/\(jZ P t=true->∃ cs,v=.agg cs)/\(jZ P t=false->v.cells= #[v]/\P.cellsOf t=1):=by
 cases n with
 |zero=>simp[kK]at hp
 |succ n=>
  unfold kK at hp
  unfold jZ
  rcases hu:P.underlying t with _ | u
  ·rw[hu]at hp;simp at hp
  rw[hu]at hp
  cases u with
  |bool=>
   obtain⟨b,rfl⟩:=okWide_bool hu h
   simp only[beq_iff_eq]at hp
   exact⟨by simp[Value.cells,hp],by simp,fun _=>⟨rfl,hp⟩⟩
  |int k=>
   obtain⟨b,rfl⟩:=okWide_int hu h
   simp only[beq_iff_eq]at hp
   exact⟨by simp[Value.cells,hp],by simp,fun _=>⟨rfl,hp⟩⟩
  |string=>
   obtain⟨b,rfl⟩:=okWide_string hu h
   simp only[beq_iff_eq]at hp
   exact⟨by simp[Value.cells,hp],by simp,fun _=>⟨rfl,hp⟩⟩
  |slice e=>
   obtain⟨a,len,cap,rfl⟩:=okWide_slice hu h
   simp only[Bool.and_eq_true,beq_iff_eq]at hp
   exact⟨by simp[Value.cells,hp.1.1.1],by simp,fun _=>⟨rfl,hp.1.1.1⟩⟩
  |struct fs=>
   simp only[Value.okWide,hu]at h
   obtain⟨cs,rfl,h2,_⟩:=h
   exact⟨h2,fun _=>⟨cs,rfl⟩,fun h=>by simp at h⟩
  |array m e=>
   simp only[Value.okWide,hu]at h
   obtain⟨cs,rfl,h2,_⟩:=h
   exact⟨h2,fun _=>⟨cs,rfl⟩,fun h=>by simp at h⟩
  |_=>simp at hp
def GO(P:Program)(n:Nat)(t:TypeId)(x:V):Prop:=∃ xs,ja P n t xs/\x=l7 (jZ P t) xs
def vl(P:Program)(n:Nat):List TypeId->List V->Prop
 |[],xs=>xs=[]
 |t::r,xs=>∃ x ys,xs=x::ys/\GO P n t x/\vl P n r ys
theorem aco{H:Type}{enc:TypeId×Value->H}{P:Program}{w:World}{b0:Nat}{spare:Nat->Bool}{held:Bool}{n:Nat}{t:TypeId}{r:Reach}{base:Nat}{v:Value}{d:DataW H}{ps:List MemPlace}
 (hp:kK P n t=true) (h:Value.okWide P w r base t v) (ht:DataW.Trod enc P w b0 spare held t v d ps):∃ x,GO P n t x/\aB (kO w) x v:=by
 obtain⟨h1,h2,h3⟩:=Ur hp h
 obtain⟨fuel,hf⟩:=ht
 obtain⟨xs,k1,k2⟩:=yl n fuel t v.cells.toList _ hp (by simpa using h1) hf
 refine⟨l7 (jZ P t) xs,⟨xs,k1,rfl⟩,?_⟩
 cases ha:jZ P t with
 |true=>
  obtain⟨cs,rfl⟩:=h2 ha
  simp only[l7,if_true]
  refine .agg xs cs (by simpa[Value.cells]using k2.len) k2.one fun i h h'=>?_
  have :=k2.rep i h (by simpa[Value.cells]using h')
  simpa[Value.cells]using this
 |false=>
  obtain⟨h4,h5⟩:=h3 ha
  have hl:xs.length=1:=by rw[k2.len];simp[h4]
  match xs,hl with
  |[x],_=>
   have :=k2.rep 0 (by simp) (by simp[h4])
   simp only[l7,Bool.false_eq_true,if_false,List.getD_cons_zero]
   simpa[h4]using this
theorem Pn{H:Type}{enc:TypeId×Value->H}{P:Program}{w:World}{b0:Nat}{spare:Nat->Bool}{held:Bool}{n:Nat}{r:Reach}{base:Nat}:∀ {ts:List TypeId} {vs:List Value} {ds:List (DataW H)} {ps:List MemPlace},
 (∀ t∈ts,kK P n t=true)->(∀ (j:Nat) t v,ts[j]?=some t->vs[j]?=some v->Value.okWide P w r base t v)->DataW.TrodAll enc P w b0 spare held ts vs ds ps->∃ xs,vl P n ts xs/\sV (kO w) xs vs
 |[],vs,ds,ps,_,_,h=>by
  cases vs with
  |nil=>exact⟨[],rfl,rfl,fun i h=>by simp at h⟩
  |cons=>cases ds<;>simp[DataW.TrodAll]at h
 |t::ts,[],ds,ps,_,_,h=>by cases ds<;>simp[DataW.TrodAll]at h
 |t::ts,v::vs,[],ps,_,_,h=>by simp[DataW.TrodAll]at h
 |t::ts,v::vs,d::ds,ps,hp,hv,h=>by
  obtain⟨p,q,h1,h2,_⟩:=h
  obtain⟨x,k1,k2⟩:=aco (hp t (by simp)) (hv 0 t v rfl rfl) h1
  obtain⟨ys,k3,k4,k5⟩:=Pn (fun t ht=>hp t (by simp[ht])) (fun j t v h h'=>hv (j+1) t v (by simpa using h) (by simpa using h')) h2
  refine⟨x::ys,⟨x,ys,rfl,k1,k3⟩,by simp[k4],fun i hi bA=>?_⟩
  cases i with
  |zero=>exact k2
  |succ i=>exact k5 i (by simpa using hi) (by simpa using bA)
theorem Pm{H:Type}{enc:TypeId×Value->H}{P:Program}(hl:laidOutB P=true){W W':World}(hb:Below W.heap.size W W'):∀ {ts:List TypeId} {vs:List Value} {ds:List (DataW H)} {ps:List MemPlace},
 (∀ t∈ts,P.readableRec t=true/\t<P.types.size)->DataW.TrodAll enc P W 0 (fun _=>true) true ts vs ds ps->(∀ x∈ps,x.block<W.heap.size)->DataW.TrodAll enc P W' 0 (fun b=>decide (b<W.heap.size)) true ts vs ds ps
 |[],vs,ds,ps,_,h,_=>by
  cases vs<;>cases ds<;>simp_all[DataW.TrodAll]
 |t::ts,[],ds,ps,_,h,_=>by cases ds<;>simp[DataW.TrodAll]at h
 |t::ts,v::vs,[],ps,_,h,_=>by simp[DataW.TrodAll]at h
 |t::ts,v::vs,d::ds,ps,hr,h,ae=>by
  obtain⟨p,q,h1,h2,rfl⟩:=h
  exact⟨p,q,Below.trod hl (hr t (by simp)).1 (hr t (by simp)).2 h1 hb (fun x hx=>ae x (by simp[hx])),
   Pm hl hb (fun t ht=>hr t (by simp[ht])) h2 (fun x hx=>ae x (by simp[hx])),rfl⟩
theorem G'{H:Type}{enc:TypeId×Value->H}{P:Program}{w:World}{b0:Nat}{spare:Nat->Bool}{held:Bool}:∀ {ts:List TypeId} {vs:List Value} {ds:List (DataW H)} {ps:List MemPlace},DataW.TrodAll enc P w b0 spare held ts vs ds ps->ds.length=ts.length
 |[],vs,ds,ps,h=>by cases vs<;>cases ds<;>simp_all[DataW.TrodAll]
 |t::ts,[],ds,ps,h=>by cases ds<;>simp[DataW.TrodAll]at h
 |t::ts,v::vs,[],ps,h=>by simp[DataW.TrodAll]at h
 |t::ts,v::vs,d::ds,ps,h=>by
  obtain⟨p,q,_,h2,_⟩:=h
  simp[G' h2]
theorem Vq{H:Type}{enc:TypeId×Value->H}{C:Checked}{os:Os}{f:FuncId}{fn:Func}{s:ChangeSpec}{conds:List PathCond}{n:Nat}{tb:TypeId}{laid:List (String×DataW Unit)}
 (own:ownKnob C.prog.godebug=none) (started:os.Started) (UB:C.prog.inits.idxOf? f=none) (dW:C.prog.funcs[f]?=some fn)
 (witness:∃ (w:World) (tape:Tape) (i:Input),w.os=os/\(w.forCall tape i).Shaped C.prog/\i.vars=[]/\Input.okWide C.prog (w.forCall tape i) .any w.heap.size f i/\
   ((s.pre enc C.prog fn conds false (w.forCall tape i).memory i.args/\laidMetH C.prog laid (w.forCall tape i).memory)/\sizedMet enc C.prog fn (OpenSpec.ofChange s) false (w.forCall tape i).memory i.args)/\({}:Assume).holds C.prog (lone (Frame.enter C.prog f i.args .normal) [] (w.forCall tape i)))
 (hT:∀ W:World,laidMetH C.prog laid W->j7 W)
 (hl:laidOutB C.prog=true) (gB:∀ t∈fn.params.toList,kK C.prog n t=true/\C.prog.readableRec t=true/\t<C.prog.types.size) (zF:fn.resultTypes= #[tb]) (pP:C.prog.underlying tb=some .bool)
 (Lv:s.vars=[]) (hs:∀ ds:List (DataW H),ds.length=fn.params.toList.length->(s.fn H ds).results=[.lit (.bool true)]/\(s.fn H ds).args=ds/\(s.fn H ds).vars=[])
 (wT:∀ (W:World) (args:Array Value) (xs:List V),j7 W->vl C.prog n fn.params.toList xs->sV (kO W) xs args.toList->Calls C.prog f args W fun e W'=>e=.returned (.bool true)/\Below W.heap.size W W'):
 ReturnsInHanded {} C os f .any (fun w args=>(s.pre enc C.prog fn conds false w args/\laidMetH C.prog laid w)/\sizedMet enc C.prog fn (OpenSpec.ofChange s) false w args) (s.post enc C.prog fn false true false false):=by
 refine returnsInHanded_of_change_and (X:=fun w _=>laidMetH C.prog laid w) (fun _ _ _ hh h=>h.of_heap hh) own started UB dW witness ?_
 intro W base args ds gs before cB hW _ _ hL _
 have EM:=hW
 obtain⟨p,q,hA,hV,rfl,_,_⟩:=hW
 rw[Lv]at hV
 obtain⟨rfl,rfl⟩:=trodVars_none hV
 simp only[List.append_nil]at EM
 have ae:∀ y∈p,y.block<W.heap.size:=fun y hy=>by simpa using EM.lt y hy
 obtain⟨xs,h1,h2⟩:=Pn (vs:=args.toList) (ts:=fn.params.toList) (fun t ht=>(gB t ht).1) (fun j t v h h'=>cB j t v (by simpa using h) (by simpa using h')) hA
 obtain⟨e1,e2,e3⟩:=hs ds (G' hA)
 refine(wT W args xs (hT W hL) h1 h2).mono fun e W' ⟨he,hn⟩=>?_
 subst he
 refine⟨_,rfl,ds,[],p,[],p,[],EM,?_,?_,?_,hn.frame _,fun h=>by cases h⟩
 ·rw[List.append_nil,e1,zF]
  exact trodAll_mk1 (shut_bool pP _)
 ·rw[List.append_nil,e2]
  exact Pm hl hn (fun t ht=>(gB t ht).2) hA ae
 ·rw[List.append_nil,e3,Lv]
  rfl
end Go.Eng
set_option linter.constructorNameAsVariable false
namespace Go.Eng
open Go Go.Proofs Go.Proofs.YtckmfkgppohnmaaDoor Go.RowKit Go.ChangeShapes
theorem WJ:ownKnob Tryd.prog.godebug=none:=by kernel_rfl
theorem WK:laidOutB Tryd.prog=true:=by kernel_rfl
noncomputable def vU:List (String×DataW Unit):=Rows.lendAllRow.laid
theorem MX:Tryd.prog.globalNamed "internal/strconv.uint64pow10" =some 0:=by kernel_rfl
theorem Vl(W:World)(h:laidMetH Tryd.prog vU W):j7 W:=by
 rw[MakeChecks.laidMetH_plain _ _ _ (by kernel_rfl)]at h
 have h2:laidMet Tryd.prog [("internal/strconv.uint64pow10",Lib.tabData .u64 Lib.pow10Tab)] W:=h.tail.tail
 have h3:Lib.TabIs Tryd.prog W "internal/strconv.uint64pow10" .u64 Lib.pow10Tab:=Lib.tabIs_of_head (t:=147) (e:=140) (n:=20) MX (by kernel_rfl) (by kernel_rfl) (by kernel_rfl) (by kernel_rfl) (by kernel_rfl) h2
 unfold Lib.TabIs World.var? at h3
 rw[MX]at h3
 simp only[Option.bind_some]at h3
 intro q hq
 have :q=(0,(Lib.pow10Tab.map fun z=>Value.int .u64 z).toArray):=by simpa[xZ]using hq
 subst this
 split at h3
 ·rename_i cs T f hh
  cases h3
  exact⟨_,_,hh⟩
 ·cases h3
def Gb:DataW Unit->Array Value
 | .agg l=>(l.map fun d=>match d with | .lit (.int k n)=>Value.int k n | _=>undef).toArray
 |_=> #[]
def putCells(cs:Array Value):Obj->Obj
 | .cells _ t f=>.cells cs t f
 |o=>o
noncomputable def Jt(os:Os):World:=
 let w0:=World.holding Tryd.prog os ⟨#[],#[],[]⟩
 { w0 with heap:=((w0.heap.modify 0 (putCells (Gb Rows.laid_internal_strconv_uint64pow10))).modify 1 (putCells (Gb Rows.laid_math_bits_deBruijn32tab))).modify 2 (putCells (Gb Rows.laid_math_bits_deBruijn64tab)) }
theorem Vk(os:Os)(args:Array Value):laidMetH Tryd.prog vU ((Jt os).forCall (fun _ _=>0) ⟨#[],args,[]⟩).memory:=by
 rw[MakeChecks.laidMetH_plain _ _ _ (by kernel_rfl)]
 exact laidMet_of_run' 8 (by kernel_rfl) (by kernel_rfl)
end Go.Eng
set_option linter.constructorNameAsVariable false
set_option maxRecDepth 100000
namespace Go.Eng
open Go Go.Proofs
theorem vy{n:Nat}{xs:List V}(h:ja Tryd.prog (n+1) 3 xs):∃ k,xs=[vInt k]/\(Lit.int .i64 k).wf=true:=by
 unfold ja at h
 simp only[Tryd.underlying3]at h
 exact h
theorem Jk{α β:Type}{f:α->β}{P:β->Prop}(h:∀ y,P y->∃ x,y=f x):∀ {l:List β},(∀ y∈l,P y)->∃ m:List α,l=m.map f
 |[],_=>⟨[],rfl⟩
 |y::r,hl=>by
  obtain⟨x,rfl⟩:=h y (hl y (by simp))
  obtain⟨m,rfl⟩:=Jk h (l:=r) fun z hz=>hl z (by simp[hz])
  exact⟨x::m,rfl⟩
theorem RJ{n:Nat}{T e:TypeId}{xs:List V}{α:Type}{f:α->V}(hu:Tryd.prog.underlying T=some (.slice e))(h:ja Tryd.prog (n+1) T xs)
 (he:∀ ys,ja Tryd.prog n e ys->∃ a,l7 (jZ Tryd.prog e) ys=f a):∃ l:List α,xs=[.sl (l.map f)]:=by
 unfold ja at h
 simp only[hu]at h
 obtain⟨ls,rfl,_,h3⟩:=h
 obtain⟨m,hm⟩:=Jk (f:=f) (P:=fun y=>∃ d,y=f d) (fun y h=>h) (l:=ls.map (l7 (jZ Tryd.prog e))) fun y hy=>by
  obtain⟨z,hz,rfl⟩:=List.mem_map.1 hy
  exact he z (h3 z hz)
 exact⟨m,by rw[hm]⟩
end Go.Eng
set_option linter.constructorNameAsVariable false
set_option maxRecDepth 100000
namespace Go.Eng
open Go Go.Proofs Go.Proofs.YtckmfkgppohnmaaDoor Go.RowKit Go.ChangeShapes
theorem abI{f:FuncId}{s:PSpec}(h:aZ Tryd.prog f s){W:World}{args:Array Value}{xs:List V}(ht:j7 W)(hr:sV (kO W) xs args.toList)(hp:s.pre xs)(hv:s.fn xs=.bool true):
 Calls Tryd.prog f args W fun e W'=>e=.returned (.bool true)/\RowKit.Below W.heap.size W W':=by
 refine(h.calls (kO W) W xs args ht (fun b off v hv=>hv) hr hp).mono ?_
 rintro e W' ⟨v,m',rfl,hb,_,_,h⟩
 rw[hv]at h
 cases h
 exact⟨rfl,hb⟩
theorem Vn(hc:∀ (W:World) (args:Array Value) (xs:List V),j7 W->vl Tryd.prog 9 Tryd.f6.params.toList xs->sV (kO W) xs args.toList->Calls Tryd.prog 6 args W fun e W'=>e=.returned (.bool true)/\Below W.heap.size W W')
 (os:Os) (started:os.Started) (H:Type) (enc:TypeId×Value->H):
 ReturnsInHanded {} Tryd.checked os 6 .any (fun w args=>(Rows.lendEndsSpec.pre enc Tryd.prog Tryd.f6 [] false w args/\laidMetH Tryd.prog vU w)/\sizedMet enc Tryd.prog Tryd.f6 (OpenSpec.ofChange Rows.lendEndsSpec) false w args)
  (Rows.lendEndsSpec.post enc Tryd.prog Tryd.f6 false true false false):=by
 refine Vq (C:=Tryd.checked) (n:=9) (tb:=4) (laid:=vU) WJ started (by kernel_rfl) Tryd.func6
  (ChangeSpec.witness_shaped (enc:=enc) (C:=Tryd.checked) (os:=os) (X:=fun w _=>laidMetH Tryd.prog vU w) false (Jt os) #[.slice none 0 0] 8 rfl (World.shaped_of_RefB (by kernel_rfl) (by kernel_rfl)) (by kernel_rfl) (by kernel_rfl) (by kernel_rfl) (Vk os _))
  Vl WK ?_ (by kernel_rfl) (by kernel_rfl) rfl ?_ hc
 ·have h:(Tryd.f6.params.toList.all fun t=>kK Tryd.prog 9 t&&Tryd.prog.readableRec t&&decide (t<Tryd.prog.types.size))=true:=by kernel_rfl
  intro t ht
  have :=List.all_eq_true.1 h t ht
  simp only[Bool.and_eq_true,decide_eq_true_eq]at this
  exact⟨this.1.1,this.1.2,this.2⟩
 ·intro ds eA
  have hl:Tryd.f6.params.toList.length=1:=by kernel_rfl
  rw[hl]at eA
  match ds,eA with
  |[d1],_=>exact⟨rfl,rfl,rfl⟩
theorem Vm(hc:∀ (W:World) (args:Array Value) (xs:List V),j7 W->vl Tryd.prog 9 Tryd.f6.params.toList xs->sV (kO W) xs args.toList->Calls Tryd.prog 6 args W fun e W'=>e=.returned (.bool true)/\Below W.heap.size W W'):
 Rows.LendEndsSaid:=
 OpenClaim.holds_of_wide 6 Tryd.f6 rfl rfl rfl rfl rfl rfl rfl ⟨rfl,rfl,rfl,rfl,rfl⟩ rfl rfl rfl rfl rfl (by kernel_rfl) Tryd.func6 (by kernel_rfl)
  (of_decide_eq_true (by kernel_rfl)) (by unfold Func.isWrapper;first | (rw[if_pos (by decide+kernel)];kernel_rfl) | (rw[if_neg (by decide+kernel)];exact⟨rfl,rfl⟩))
  (fun os started H enc _=>Vn hc os started H enc)
theorem Vo(h:Rows.LendEndsSaid):Rows.LendEndsCardSaid:=
 Claim7.holds_tied_plain_at .later [] [.data,.data,.data] true (true, "28cfda519c54781c81308c4dc0b3570512b8921263a288a3040a4d524312a115") false
  h (fun _ h=>by cases h) (by kernel_rfl) (fun _ h=>by cases h) lendEnds_row_tie rfl ⟨rfl,rfl⟩ (by kernel_rfl) rfl
  (fun f fn hf dW=>by
    obtain rfl:f=6:=Option.some.inj ((show Tryd.prog.funcNamed "parvise/parviselaw09.LendEnds" =some 6 by kernel_rfl).symm.trans hf)|>.symm
    obtain rfl:fn=Tryd.f6:=(Option.some.inj (Tryd.func6.symm.trans dW)).symm
    exact⟨by kernel_rfl,fun j t ht=>by
     have dI:(Tryd.f6.params.toList.all fun t=>!Tryd.prog.wantsStandIn t)=true:=by kernel_rfl
     have hm:t∈Tryd.f6.params.toList:=by
      obtain⟨hj,e⟩:=Array.getElem?_eq_some_iff.1 ht
      rw[<-e]
      exact Array.getElem_mem_toList hj
     have :=List.all_eq_true.1 dI t hm
     have h1:Tryd.prog.wantsStandIn t=false:=by simpa using this
     exact h1⟩)
  (by kernel_rfl)
end Go.Eng
set_option linter.constructorNameAsVariable false
set_option maxRecDepth 100000
namespace Go.Eng
open Go Go.Proofs Go.Proofs.YtckmfkgppohnmaaDoor
theorem RK{n:Nat}{xs:List V}(h:ja Tryd.prog (n+2) 31 xs):∃ a:Act,xs=j5 a:=by
 unfold ja at h
 simp only[Tryd.underlying31]at h
 obtain⟨x1,y1,rfl,h1,x2,y2,rfl,h2,x3,y3,rfl,h3,x4,y4,rfl,h4,x5,y5,rfl,h5,rfl⟩:=h
 obtain⟨a,rfl,_⟩:=vy h1
 obtain⟨b,rfl,_⟩:=vy h2
 obtain⟨c,rfl,_⟩:=vy h3
 obtain⟨d,rfl,_⟩:=vy h4
 obtain⟨e,rfl,_⟩:=vy h5
 exact⟨⟨a,b,c,d,e⟩,rfl⟩
theorem acu:jZ Tryd.prog 31=true:=by kernel_rfl
theorem acv:jZ Tryd.prog 22=false:=by kernel_rfl
theorem acp{x:V}(h:GO Tryd.prog 9 22 x):∃ l:List Act,x=.sl (l.map sF):=by
 obtain⟨xs,h1,rfl⟩:=h
 rw[acv]
 obtain⟨l,rfl⟩:∃ l:List Act,xs=[.sl (l.map sF)]:=RJ Tryd.underlying22 h1 fun ys hy=>by
  obtain⟨p,rfl⟩:=RK hy
  rw[acu]
  exact⟨p,rfl⟩
 exact⟨l,rfl⟩
theorem lendEnds_holds:Rows.LendEndsCardSaid:=
 Vo<|Vm fun W args xs ht ha hr=>by
  obtain⟨x,ys,rfl,h1,rfl⟩:=(show vl Tryd.prog 9 [22] xs from ha)
  obtain⟨l,rfl⟩:=acp h1
  exact abI SW ht hr ⟨congrArg zp.enc (XW l),trivial⟩ rfl
end Go.Eng
namespace Go.Proofs.YtckmfkgppohnmaaDoor
theorem lendEndsCard_holds : Rows.LendEndsCardSaid := Go.Eng.lendEnds_holds
end Go.Proofs.YtckmfkgppohnmaaDoor
#print axioms Go.Proofs.YtckmfkgppohnmaaDoor.lendEndsCard_holds
