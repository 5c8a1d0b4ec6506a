import Derived.Test.YtckmfkgppohnmaaDoorK5
/- Texts NW7 to KB. -/
set_option linter.all false
namespace Go.Eng
open Go Go.Proofs
theorem MW{α:Type}{l:List α}{x:α}(h:x∈l)(z:α):∃ k,k<l.length/\l.getD k z=x:=by
 obtain⟨k,hk,rfl⟩:=List.mem_iff_getElem.1 h
 exact⟨k,hk,jS hk z⟩
structure eL (s:Stk):Prop where
 hol:s.ho.length<=40
 ho:∀ n∈s.ho,bR n
 unl:∀ i,i<6->(s.un.get i).length<=40
 un:∀ i,i<6->∀ p∈s.un.get i,bR p.no/\bR p.pa
 se:∀ i,i<6->bR (s.se.get i)
 ta:∀ i,i<6->bR (s.ta.get i)
theorem rI{n lo hi:Int}(h:aP n lo hi=true)(h0:0<=lo)(h1:hi<=1000000):bR n:=by
 obtain⟨a,b⟩:=cf.1 h
 exact⟨by omega,by omega⟩
theorem tK{l:List Int}(h:fX l=true):l.length<=40/\∀ n∈l,bR n:=by
 unfold fX at h
 rw[Bool.and_eq_true,decide_eq_true_eq,gJ]at h
 refine⟨h.2,fun n hn=>?_⟩
 obtain⟨k,hk,rfl⟩:=MW hn 0
 have :=h.1 k hk
 unfold kL at this
 rw[Bool.and_eq_true]at this
 exact rI this.1 (by omega) (by omega)
theorem IA{l:List Par}(h:cw l=true):l.length<=40/\∀ p∈l,bR p.no/\bR p.pa:=by
 unfold cw at h
 rw[Bool.and_eq_true,decide_eq_true_eq,gJ]at h
 refine⟨h.2,fun n hn=>?_⟩
 obtain⟨k,hk,rfl⟩:=MW hn default
 have :=h.1 k hk
 unfold fW at this
 rw[Bool.and_eq_true,Bool.and_eq_true]at this
 exact⟨rI this.1.1 (by omega) (by omega),rI this.1.2 (by omega) (by omega)⟩
theorem vM{me:Int}{s:Stk}(h:cZ me s=true):eL s:=by
 unfold cZ at h
 simp only[Bool.and_eq_true]at h
 obtain⟨⟨⟨⟨⟨h0,h1⟩,h2⟩,h3⟩,h4⟩,h5⟩:=h
 have hA:=gJ.1 h5
 have hB:∀ i,i<6->aP (s.se.get i) 0 99999=true/\aP (s.ta.get i) 0 99999=true/\cw (s.un.get i)=true:=by
  intro i hi
  have :=hA i hi
  unfold gv at this
  simp only[Bool.and_eq_true]at this
  exact⟨this.1.1.1,this.1.1.2,this.1.2⟩
 exact⟨(tK h1).1,(tK h1).2,fun i hi=>(IA (hB i hi).2.2).1,fun i hi=>(IA (hB i hi).2.2).2,fun i hi=>rI (hB i hi).1 (by omega) (by omega),fun i hi=>rI (hB i hi).2.1 (by omega) (by omega)⟩
def qM:ByteArray:=ed [104,111,108,100,115]
def kF:ByteArray:=ed [117,110,100,101,114]
def lr:ByteArray:=ed [115,101,110,116]
def mW:ByteArray:=ed [116,97,107,101,110]
@[go_sem] theorem agt:(if (#[104,111,108,100,115]:Array UInt8).size<=maxLen then D.v (.str ⟨#[104,111,108,100,115]⟩)else D.any)=D.v (.str qM):=by
  rw[if_pos (by unfold maxLen;decide)];rfl
@[go_sem] theorem agm:(if (#[117,110,100,101,114]:Array UInt8).size<=maxLen then D.v (.str ⟨#[117,110,100,101,114]⟩)else D.any)=D.v (.str kF):=by
  rw[if_pos (by unfold maxLen;decide)];rfl
@[go_sem] theorem agp:(if (#[115,101,110,116]:Array UInt8).size<=maxLen then D.v (.str ⟨#[115,101,110,116]⟩)else D.any)=D.v (.str lr):=by
  rw[if_pos (by unfold maxLen;decide)];rfl
@[go_sem] theorem agn:(if (#[116,97,107,101,110]:Array UInt8).size<=maxLen then D.v (.str ⟨#[116,97,107,101,110]⟩)else D.any)=D.v (.str mW):=by
  rw[if_pos (by unfold maxLen;decide)];rfl
def gO(a:ByteArray)(i:Nat)(l:List Par):Nat->ByteArray
 | 0=>a
 |j+1=>gO a i l j++dF kF [(i:Int),(l.getD j default).no,(l.getD j default).pa]
def eC(s:Stk):Nat->ByteArray
 | 0=>dF qM s.ho
 |i+1=>gO (eC s i) i (s.un.get i) (s.un.get i).length
theorem yF(s:Stk)(i:Nat):gO (eC s i) i (s.un.get i) (s.un.get i).length=eC s (i+1):=rfl
def cY(s:Stk):ByteArray:=eC s 6++dF lr (s.se.L id)++dF mW (s.ta.L id)
theorem y7{w:ByteArray}{l:List Int}(h:∀ n∈l,bR n):(dF w l).size<=w.size+22*l.length+1:=by
 rw[<-Ip,ByteArray.size_append,pt]
 have :=Ch (w:=w) h (Nat.le_refl _)
 simp only[List.length_cons,List.length_nil]
 omega
theorem Us{i:Nat}(h:i<6):bR (i:Int):=⟨by omega,by omega⟩
theorem yN{i:Nat}(hi:i<6){p:Par}(h:bR p.no/\bR p.pa):∀ n∈[(i:Int),p.no,p.pa],bR n:=by
 intro n hn
 simp only[List.mem_cons,List.not_mem_nil,or_false]at hn
 rcases hn with rfl | rfl | rfl
 ·exact Us hi
 ·exact h.1
 ·exact h.2
theorem By{i:Nat}(hi:i<6){p:Par}(h:bR p.no/\bR p.pa):(dF kF [(i:Int),p.no,p.pa]).size<=72:=by
 have :=y7 (w:=kF) (yN hi h)
 have hw:kF.size=5:=rfl
 simp only[List.length_cons,List.length_nil]at this
 omega
theorem xV{a:ByteArray}{i:Nat}(hi:i<6){l:List Par}(h:∀ p∈l,bR p.no/\bR p.pa):∀ k,k<=l.length->(gO a i l k).size<=a.size+72*k
 | 0,_=>by show a.size<=_;omega
 |k+1,hk=>by
  have h1:=xV (a:=a) hi h k (by omega)
  have h2:=By hi (h _ (by rw[jS (show k<l.length by omega) default];exact List.getElem_mem (by omega):l.getD k default∈l))
  show (gO a i l k++dF kF [(i:Int),(l.getD k default).no,(l.getD k default).pa]).size<=_
  rw[ByteArray.size_append]
  omega
theorem tM{s:Stk}(hs:eL s):∀ i,i<=6->(eC s i).size<=886+2880*i
 | 0,_=>by
   have h1:=y7 (w:=qM) hs.ho
   have h2:=hs.hol
   have hw:qM.size=5:=rfl
   show (dF qM s.ho).size<=_
   omega
 |i+1,hi=>by
  have h0:=tM hs i (by omega)
  have h1:=xV (a:=eC s i) (show i<6 by omega) (hs.un i (by omega)) _ (Nat.le_refl _)
  have h2:=hs.unl i (by omega)
  show (gO (eC s i) i (s.un.get i) (s.un.get i).length).size<=_
  omega
theorem pv{s:aS Int}(h:∀ i,i<6->bR (s.get i)):∀ n∈s.L id,bR n:=by
 intro n hn
 simp only[aS.L,List.mem_cons,List.not_mem_nil,or_false,id]at hn
 rcases hn with rfl | rfl | rfl | rfl | rfl | rfl
 ·exact h 0 (by omega)
 ·exact h 1 (by omega)
 ·exact h 2 (by omega)
 ·exact h 3 (by omega)
 ·exact h 4 (by omega)
 ·exact h 5 (by omega)
theorem BX{s:Stk}(hs:eL s):(dF lr (s.se.L id)).size<=137:=by
 have :=y7 (w:=lr) (pv hs.se)
 have hw:lr.size=4:=rfl
 rw[aS.L_len]at this
 omega
theorem BC{s:Stk}(hs:eL s):(dF mW (s.ta.L id)).size<=138:=by
 have :=y7 (w:=mW) (pv hs.ta)
 have hw:mW.size=5:=rfl
 rw[aS.L_len]at this
 omega
theorem Hb{s:Stk}(hs:eL s):(cY s).size<=20000:=by
 unfold cY
 rw[ByteArray.size_append,ByteArray.size_append]
 have h1:=tM hs 6 (by omega)
 have h2:=BX hs
 have h3:=BC hs
 omega
noncomputable def K7:List (Nat×Spec):=[(79,S110),(101,S111)]
theorem PQ:∀ f s,tbl K7 f=some s->an Tryd.prog f s:=tc Xn<|tc Xm<|tn
attribute [go_sem] K7
noncomputable def P91:PSpec:=p1 iQ (fun s=>eL s) (fun s=>.str (cY s)) true
noncomputable def S91:Spec:=P91.toSpec
attribute [go_sem] P91 S91
set_option maxHeartbeats 4000000 in
theorem HP:aZ Tryd.prog 63 P91:=by
 refine w1 (rs:=[.tmp 2]) Tryd.func63 Tryd.ntmps63 (by rfl) (by kernel_rfl) (by decide) (fun _ _=>rfl) ⟨_,rfl,lb rfl,fun s hp hw=>?_⟩
 have hP:=bn
 simp only[iQ]at hw |-
 have hΓ:=PQ
 have hs:eL s:=hp
 have c1:qM.size<=1000/\s.ho.length<=1000000/\∀ n∈s.ho,rL n:=⟨by decide,by have:=hs.hol;omega,fun n hn=>ry (hs.ho n hn)⟩
 repeat refine sq ?_
 refine rs hΓ [1] [[1,0]] ?_
 refine aN (cX [1,0] (aC s) rfl [1] [[1,0]] ?_ rfl) ?_
 ·simp only[go_sem]
 simp only[go_sem]
 repeat refine sq ?_
 refine rx hΓ [1,3] [[1,0]] (fun K' hK=>by simp only[go_sem];(repeat (refine⟨by first | exact c1 | exact ob,?_⟩));exact hK _ (by simp only[go_sem]) (by simp only[go_sem]<;>rfl)) ?_
 repeat refine sq ?_
 refine rs hΓ [1,3,12,13] [[1,0]] ?_
 repeat refine sq ?_
 refine aL ?_
 repeat refine sq ?_
 refine cN (fun z:Nat=>[(13,⟨true,.v (vInt z)⟩),(3,⟨true,.v (.str (eC s z))⟩)]) (fun z=>[]) (fun z=>z<=6) (fun z=>6-z) 0 ?_ ?_ ?_ ?_
 ·exact Nat.zero_le _
 ·rfl
 ·rfl
 rintro i hi
 simp only[go_sem]
 repeat refine sq ?_
 refine rs hΓ [1,3,12,13,14] [[1,0]] ?_
 repeat refine sq ?_
 refine aw rfl rfl (fun hb=>?_) (fun hb=>?_)
 ·have ae:i<6:=by have hq:(i:Int)<6:=(by simpa using hb);omega
  have ak:(i:Int)<6:=by omega
  clear hb
  repeat refine sq ?_
  refine aA ?_
  repeat refine sq ?_
  refine aL ?_
  repeat refine sq ?_
  refine rx hΓ [1,3,4,5,12,13] [[1,0]] (fun K' hK=>by simp only[go_sem,Int.toNat_natCast,Int.natCast_nonneg,ak,aS.L_get s.un rowP default ae,Int.toNat_natCast,Int.natCast_nonneg,ak];(repeat (refine⟨ob,?_⟩));exact hK _ (by simp only[go_sem]) (by simp only[go_sem]<;>rfl)) ?_
  repeat refine sq ?_
  refine rx hΓ [1,3,4,12,13,17,18,19] [[1,0]] (fun K' hK=>by simp only[go_sem,Int.toNat_natCast,Int.natCast_nonneg,ak];(repeat (refine⟨ob,?_⟩));exact hK _ (by simp only[go_sem]) (by simp only[go_sem]<;>rfl)) ?_
  repeat refine sq ?_
  refine aL ?_
  repeat refine sq ?_
  refine cN (fun z:Nat=>[(19,⟨true,.v (vInt z)⟩),(3,⟨true,.v (.str (gO (eC s i) i (s.un.get i) z))⟩)]) (fun z=>[]) (fun z=>z<=(s.un.get i).length) (fun z=>(s.un.get i).length-z) 0 ?_ ?_ ?_ ?_
  ·exact Nat.zero_le _
  ·rfl
  ·rfl
  rintro i1 hi
  simp only[go_sem]
  repeat refine sq ?_
  refine rx hΓ [1,3,4,12,13,17,18,19,20] [[1,0]] (fun K' hK=>by simp only[go_sem,Int.toNat_natCast,Int.natCast_nonneg,ak];(repeat (refine⟨ob,?_⟩));exact hK _ (by simp only[go_sem]) (by simp only[go_sem]<;>rfl)) ?_
  repeat refine sq ?_
  refine aw rfl rfl (fun hb=>?_) (fun hb=>?_)
  ·have bJ:i1<(s.un.get i).length:=by simpa using hb
   have fi:(i1:Int)<(s.un.get i).length:=by omega
   clear hb
   have hq:=hs.un i ae _ (List.getElem_mem bJ)
   have c8:kF.size<=1000/\[(i:Int),(s.un.get i)[i1].no,(s.un.get i)[i1].pa].length<=1000000/\∀ n∈[(i:Int),(s.un.get i)[i1].no,(s.un.get i)[i1].pa],rL n:=⟨by decide,by show 3<=1000000;omega,fun n hn=>ry (yN ae hq n hn)⟩
   have jj:=By ae hq
   have ma:=xV (a:=eC s i) ae (hs.un i ae) i1 (Nat.le_of_lt bJ)
   have ug:=tM hs i (Nat.le_of_lt ae)
   have rO:=hs.unl i ae
   have hz:(gO (eC s i) i (s.un.get i) i1).size+(dF kF [(i:Int),(s.un.get i)[i1].no,(s.un.get i)[i1].pa]).size<=maxLen:=by unfold maxLen;omega
   have he:gO (eC s i) i (s.un.get i) i1++dF kF [(i:Int),(s.un.get i)[i1].no,(s.un.get i)[i1].pa]=gO (eC s i) i (s.un.get i) (i1+1):=by rw[gO,jS bJ]
   repeat refine sq ?_
   refine aA ?_
   repeat refine sq ?_
   refine aL ?_
   repeat refine sq ?_
   refine rx hΓ [1,3,4,7,12,13,17,18,19] [[1,0],[7,0]] (fun K' hK=>by simp only[go_sem,Int.toNat_natCast,Int.natCast_nonneg,ak,Int.toNat_natCast,Int.natCast_nonneg,fi,ba bJ];(repeat (refine⟨ob,?_⟩));exact hK _ (by simp only[go_sem]) (by simp only[go_sem]<;>rfl)) ?_
   repeat refine sq ?_
   refine aX hΓ fun K' hK=>?_
   simp only[go_sem,Int.toNat_natCast,Int.natCast_nonneg,ak,Int.toNat_natCast,Int.natCast_nonneg,fi,ba bJ,hz,he]
   repeat (refine⟨by first | exact c8 | exact ob,?_⟩)
   refine hK _ ?_
   clear K' hK
   simp only[go_sem]
   refine kp [1,3,4,12,13,17,18,19] [[1,0]] ?_
   repeat refine sq ?_
   refine aX hΓ fun K' hK=>?_
   simp only[go_sem,Int.toNat_natCast,Int.natCast_nonneg,ak,Int.toNat_natCast,Int.natCast_nonneg,fi,ba bJ]
   repeat (refine⟨ob,?_⟩)
   refine hK _ ?_
   clear K' hK
   simp only[go_sem]
   refine⟨i1+1,bJ,by(show (s.un.get i).length-(i1+1)<(s.un.get i).length-i1;omega),?_⟩
   refine bx [1,3,4,12,13,17,18,19] [[1,0]] ?_ ?_
   ·simp only[go_sem,aH bJ (s7 hw ae),Int.natCast_add,Int.natCast_one]
   ·simp only[go_sem,aH bJ (s7 hw ae),Int.natCast_add,Int.natCast_one]
  ·have oN:i1=(s.un.get i).length:=by
    have :¬ (i1:Int)<(s.un.get i).length:=by simpa using hb
    omega
   clear hb
   subst oN
   repeat refine sq ?_
   refine cq ?_
   simp only[go_sem]
   refine kp [1,3,12,13] [[1,0]] ?_
   repeat refine sq ?_
   refine aX hΓ fun K' hK=>?_
   simp only[go_sem,Int.toNat_natCast,Int.natCast_nonneg,ak]
   repeat (refine⟨ob,?_⟩)
   refine hK _ ?_
   clear K' hK
   simp only[go_sem]
   refine⟨i+1,ae,by(show 6-(i+1)<6-i;omega),?_⟩
   refine bx [1,3,12,13] [[1,0]] ?_ ?_
   ·simp only[go_sem,aH ae (lb rfl:(6:Nat)<=maxLen),Int.natCast_add,Int.natCast_one,yF s i]
   ·simp only[go_sem,aH ae (lb rfl:(6:Nat)<=maxLen),Int.natCast_add,Int.natCast_one,yF s i]
 ·have bf:i=6:=by
   have :¬ (i:Int)<6:=by simpa using hb
   omega
  clear hb
  subst bf
  have jj:=tM hs 6 (Nat.le_refl _)
  have ma:=BX hs
  have ug:=BC hs
  have c2:lr.size<=1000/\(s.se.L id).length<=1000000/\∀ n∈s.se.L id,rL n:=⟨by decide,by show 6<=1000000;omega,fun n hn=>ry (pv hs.se n hn)⟩
  have c3:mW.size<=1000/\(s.ta.L id).length<=1000000/\∀ n∈s.ta.L id,rL n:=⟨by decide,by show 6<=1000000;omega,fun n hn=>ry (pv hs.ta n hn)⟩
  have rO:(eC s 6).size+(dF lr (s.se.L id)).size<=maxLen:=by unfold maxLen;omega
  have Dp:(eC s 6++dF lr (s.se.L id)).size+(dF mW (s.ta.L id)).size<=maxLen:=by rw[ByteArray.size_append];unfold maxLen;omega
  repeat refine sq ?_
  refine cq ?_
  simp only[go_sem]
  refine kp [1,3] [[1,0]] ?_
  repeat refine sq ?_
  refine dx hΓ hP [[],[],[1],[1,2],[0,1,2,3],[],[5],[1,2,3,5,6],[0,1,2,3,4,5,6,7],[0,1,2,3,4,5,6,7,8]] [2] [] (by kernel_rfl) (fun K' hK=>by simp only[go_sem,rO,Dp];(repeat (refine⟨by first | exact c2 | exact c3 | exact ob,?_⟩));(first | refine⟨by rfl,?_⟩ | skip);exact hK _ (by simp only[go_sem]) (by simp only[go_sem]<;>rfl)) ?_
  refine av ?_
  simp only[go_sem]
  first | rfl
theorem WO:an Tryd.prog 63 S91:=HP.sound
def nX(x:aS Int)(z:Nat):List Int:=(x.L id).take z
theorem HD(x:aS Int){z:Nat}(h:z<=6):(nX x z).length=z:=by
 unfold nX
 rw[List.length_take,aS.L_len]
 omega
theorem yf(x:aS Int){z:Nat}(h:z<6):nX x (z+1)=nX x z++[x.get z]:=by
 match z,h with
 | 0,_=>rfl
 | 1,_=>rfl
 | 2,_=>rfl
 | 3,_=>rfl
 | 4,_=>rfl
 | 5,_=>rfl
theorem RI(x:aS Int):nX x 6=x.L id:=rfl
noncomputable def P92:PSpec:=p1 iQ (fun s=>eL s) (fun s=>.str (cY s)) true
noncomputable def S92:Spec:=P92.toSpec
attribute [go_sem] P92 S92
set_option maxHeartbeats 4000000 in
theorem Ss:aZ Tryd.prog 98 P92:=by
 refine w1 (rs:=[.tmp 2]) Tryd.func98 Tryd.ntmps98 (by rfl) (by kernel_rfl) (by decide) (fun _ _=>rfl) ⟨_,rfl,lb rfl,fun s hp hw=>?_⟩
 have hP:=bn
 simp only[iQ]at hw |-
 have hΓ:=PQ
 have hs:eL s:=hp
 have c1:qM.size<=1000/\s.ho.length<=1000000/\∀ n∈s.ho,bR n:=⟨by decide,by have:=hs.hol;omega,hs.ho⟩
 have jj:=tM hs 6 (Nat.le_refl _)
 have ma:=BX hs
 have ug:=BC hs
 have c2:lr.size<=1000/\(s.se.L id).length<=1000000/\∀ n∈s.se.L id,bR n:=⟨by decide,by show 6<=1000000;omega,pv hs.se⟩
 have c3:mW.size<=1000/\(s.ta.L id).length<=1000000/\∀ n∈s.ta.L id,bR n:=⟨by decide,by show 6<=1000000;omega,pv hs.ta⟩
 have rO:(eC s 6).size+(dF lr (s.se.L id)).size<=maxLen:=by unfold maxLen;omega
 have Dp:(eC s 6++dF lr (s.se.L id)).size+(dF mW (s.ta.L id)).size<=maxLen:=by rw[ByteArray.size_append];unfold maxLen;omega
 repeat refine sq ?_
 refine rs hΓ [1] [[1,0]] ?_
 refine aN (cX [1,0] (aC s) rfl [1] [[1,0]] ?_ rfl) ?_
 ·simp only[go_sem]
 simp only[go_sem]
 repeat refine sq ?_
 refine rx hΓ [1,3] [[1,0]] (fun K' hK=>by simp only[go_sem];(repeat (refine⟨by first | exact c1 | exact ob,?_⟩));exact hK _ (by simp only[go_sem]) (by simp only[go_sem]<;>rfl)) ?_
 repeat refine sq ?_
 refine rs hΓ [1,3,4] [[1,0]] ?_
 repeat refine sq ?_
 refine aL ?_
 repeat refine sq ?_
 refine cN (fun z:Nat=>[(4,⟨true,.v (vInt z)⟩),(3,⟨true,.v (.str (eC s z))⟩)]) (fun z=>[]) (fun z=>z<=6) (fun z=>6-z) 0 ?_ ?_ ?_ ?_
 ·exact Nat.zero_le _
 ·rfl
 ·rfl
 rintro i hi
 simp only[go_sem]
 repeat refine sq ?_
 refine rs hΓ [1,3,4,13] [[1,0]] ?_
 repeat refine sq ?_
 refine aw rfl rfl (fun hb=>?_) (fun hb=>?_)
 ·have ae:i<6:=by have hq:(i:Int)<6:=(by simpa using hb);omega
  have ak:(i:Int)<6:=by omega
  clear hb
  repeat refine sq ?_
  refine aA ?_
  repeat refine sq ?_
  refine aL ?_
  repeat refine sq ?_
  refine rx hΓ [1,3,4,5] [[1,0]] (fun K' hK=>by simp only[go_sem,Int.toNat_natCast,Int.natCast_nonneg,ak];(repeat (refine⟨ob,?_⟩));exact hK _ (by simp only[go_sem]) (by simp only[go_sem]<;>rfl)) ?_
  repeat refine sq ?_
  refine aL ?_
  repeat refine sq ?_
  refine cN (fun z:Nat=>[(5,⟨true,.v (vInt z)⟩),(3,⟨true,.v (.str (gO (eC s i) i (s.un.get i) z))⟩)]) (fun z=>[]) (fun z=>z<=(s.un.get i).length) (fun z=>(s.un.get i).length-z) 0 ?_ ?_ ?_ ?_
  ·exact Nat.zero_le _
  ·rfl
  ·rfl
  rintro i1 hi
  simp only[go_sem]
  repeat refine sq ?_
  refine rx hΓ [1,3,4,5,22] [[1,0]] (fun K' hK=>by simp only[go_sem,Int.toNat_natCast,Int.natCast_nonneg,ak,dt s ae,Int.toNat_natCast,Int.natCast_nonneg,ak];(repeat (refine⟨ob,?_⟩));exact hK _ (by simp only[go_sem]) (by simp only[go_sem]<;>rfl)) ?_
  repeat refine sq ?_
  refine aw rfl rfl (fun hb=>?_) (fun hb=>?_)
  ·have bJ:i1<(s.un.get i).length:=by simpa using hb
   have fi:(i1:Int)<(s.un.get i).length:=by omega
   clear hb
   have hq:=hs.un i ae _ (List.getElem_mem bJ)
   have c8:kF.size<=1000/\[(i:Int),(s.un.get i)[i1].no,(s.un.get i)[i1].pa].length<=1000000/\∀ n∈[(i:Int),(s.un.get i)[i1].no,(s.un.get i)[i1].pa],bR n:=⟨by decide,by show 3<=1000000;omega,yN ae hq⟩
   have jj:=By ae hq
   have ma:=xV (a:=eC s i) ae (hs.un i ae) i1 (Nat.le_of_lt bJ)
   have ug:=tM hs i (Nat.le_of_lt ae)
   have rO:=hs.unl i ae
   have hz:(gO (eC s i) i (s.un.get i) i1).size+(dF kF [(i:Int),(s.un.get i)[i1].no,(s.un.get i)[i1].pa]).size<=maxLen:=by unfold maxLen;omega
   have he:gO (eC s i) i (s.un.get i) i1++dF kF [(i:Int),(s.un.get i)[i1].no,(s.un.get i)[i1].pa]=gO (eC s i) i (s.un.get i) (i1+1):=by rw[gO,jS bJ]
   repeat refine sq ?_
   refine aA ?_
   repeat refine sq ?_
   refine aL ?_
   repeat refine sq ?_
   refine xu hΓ hP [[],[],[],[],[2,3],[2,3,4],[],[2,3,4,5,6],[2,3,4,5,6,7],[2,3,4,5,6,7,8],[],[],[10,11],[10,11,12],[],[10,11,12,13,14],[10,11,12,13,14,15],[10,11,12,13,14,15,16],[1,2,3,4,5,6,7,8,9,10,11,12,13,14,15,16,17],[1,2,3,4,5,6,7,8,9,10,11,12,13,14,15,16,17,18],[0,1,2,3,4,5,6,7,8,9,10,11,12,13,14,15,16,17,18,19],[0,1,2,3,4,5,6,7,8,9,10,11,12,13,14,15,16,17,18,19,20]] (by kernel_rfl) fun K' hK=>?_
   simp only[go_sem,Int.toNat_natCast,Int.natCast_nonneg,ak,Int.toNat_natCast,Int.natCast_nonneg,fi,ak,ba bJ,dt s ae,hz,he,dt s ae,Int.toNat_natCast,Int.natCast_nonneg,ak,fi,ba bJ]
   repeat (refine⟨by first | exact c8 | exact ob,?_⟩)
   first | refine⟨by rfl,?_⟩ | skip
   refine hK _ ?_
   clear K' hK
   simp only[go_sem]
   refine kp [1,3,4,5] [[1,0]] ?_
   repeat refine sq ?_
   refine aX hΓ fun K' hK=>?_
   simp only[go_sem,Int.toNat_natCast,Int.natCast_nonneg,ak,Int.toNat_natCast,Int.natCast_nonneg,fi,ak,ba bJ,dt s ae]
   repeat (refine⟨ob,?_⟩)
   refine hK _ ?_
   clear K' hK
   simp only[go_sem]
   refine⟨i1+1,bJ,by(show (s.un.get i).length-(i1+1)<(s.un.get i).length-i1;omega),?_⟩
   refine bx [1,3,4,5] [[1,0]] ?_ ?_
   ·simp only[go_sem,aH bJ (s7 hw ae),Int.natCast_add,Int.natCast_one]
   ·simp only[go_sem,aH bJ (s7 hw ae),Int.natCast_add,Int.natCast_one]
  ·have oN:i1=(s.un.get i).length:=by
    have :¬ (i1:Int)<(s.un.get i).length:=by simpa using hb
    omega
   clear hb
   subst oN
   repeat refine sq ?_
   refine cq ?_
   simp only[go_sem]
   refine kp [1,3,4] [[1,0]] ?_
   repeat refine sq ?_
   refine aX hΓ fun K' hK=>?_
   simp only[go_sem,Int.toNat_natCast,Int.natCast_nonneg,ak]
   repeat (refine⟨ob,?_⟩)
   refine hK _ ?_
   clear K' hK
   simp only[go_sem]
   refine⟨i+1,ae,by(show 6-(i+1)<6-i;omega),?_⟩
   refine bx [1,3,4] [[1,0]] ?_ ?_
   ·simp only[go_sem,aH ae (lb rfl:(6:Nat)<=maxLen),Int.natCast_add,Int.natCast_one,yF s i]
   ·simp only[go_sem,aH ae (lb rfl:(6:Nat)<=maxLen),Int.natCast_add,Int.natCast_one,yF s i]
 ·have bf:i=6:=by
   have :¬ (i:Int)<6:=by simpa using hb
   omega
  clear hb
  subst bf
  repeat refine sq ?_
  refine cq ?_
  simp only[go_sem]
  refine kp [1,3] [[1,0]] ?_
  repeat refine sq ?_
  refine rs hΓ [1,3,6] [[1,0],[56,0]] ?_
  refine aN (xU 6 [56,0] 1 (by simp only[go_sem]) (by simp only[go_sem]) [1,3,6] [[1,0],[56,0]] ?_ rfl) ?_
  ·simp only[go_sem]
  simp only[go_sem]
  repeat refine sq ?_
  refine rs hΓ [1,3,6,7] [[1,0],[56,0],[63,0]] ?_
  refine aN (xU 7 [63,0] 1 (by simp only[go_sem]) (by simp only[go_sem]) [1,3,6,7] [[1,0],[56,0],[63,0]] ?_ rfl) ?_
  ·simp only[go_sem]
  simp only[go_sem]
  repeat refine sq ?_
  refine rs hΓ [1,3,6,7,8] [[1,0],[56,0],[63,0]] ?_
  repeat refine sq ?_
  refine aL ?_
  repeat refine sq ?_
  refine cN (fun z:Nat=>[(8,⟨true,.v (vInt z)⟩),(6,⟨true,.msl [56,0] (nX s.se z).length⟩),(7,⟨true,.msl [63,0] (nX s.ta z).length⟩)]) (fun z=>[([56,0],.arr 1 ((nX s.se z).map vInt)),([63,0],.arr 1 ((nX s.ta z).map vInt))]) (fun z=>z<=6) (fun z=>6-z) 0 ?_ ?_ ?_ ?_
  ·exact Nat.zero_le _
  ·rfl
  ·rfl
  rintro i2 hi
  simp only[go_sem]
  repeat refine sq ?_
  refine rs hΓ [1,3,6,7,8,47] [[1,0],[56,0],[63,0]] ?_
  repeat refine sq ?_
  refine aw rfl rfl (fun hb=>?_) (fun hb=>?_)
  ·have fh:i2<6:=by have hq:(i2:Int)<6:=(by simpa using hb);omega
   have gD:(i2:Int)<6:=by omega
   clear hb
   have pN:=HD s.se (Nat.le_of_lt fh)
   have lA:=HD s.ta (Nat.le_of_lt fh)
   repeat refine sq ?_
   refine aA ?_
   repeat refine sq ?_
   refine aL ?_
   repeat refine sq ?_
   refine rx hΓ [1,3,6,7,8] [[1,0],[56,0],[63,0]] (fun K' hK=>by simp only[go_sem,Int.toNat_natCast,Int.natCast_nonneg,gD,ee s fh,Int.toNat_natCast,Int.natCast_nonneg,gD];(repeat (refine⟨ob,?_⟩));exact hK _ (by simp only[go_sem]) (by simp only[go_sem]<;>rfl)) ?_
   repeat refine sq ?_
   refine aX hΓ fun K' hK=>?_
   simp only[go_sem,Int.toNat_natCast,Int.natCast_nonneg,gD,dN s fh,Int.toNat_natCast,Int.natCast_nonneg,gD]
   repeat (refine⟨ob,?_⟩)
   refine hK _ ?_
   clear K' hK
   simp only[go_sem]
   refine kp [1,3,6,7,8] [[1,0],[56,0],[63,0]] ?_
   repeat refine sq ?_
   refine aX hΓ fun K' hK=>?_
   simp only[go_sem,Int.toNat_natCast,Int.natCast_nonneg,gD]
   repeat (refine⟨ob,?_⟩)
   refine hK _ ?_
   clear K' hK
   simp only[go_sem]
   refine⟨i2+1,fh,by(show 6-(i2+1)<6-i2;omega),?_⟩
   refine bx [1,3,6,7,8] [[1,0],[56,0],[63,0]] ?_ ?_
   ·simp only[go_sem,aH fh (lb rfl:(6:Nat)<=maxLen),Int.natCast_add,Int.natCast_one,yf s.se fh,yf s.ta fh,List.map_append,List.length_append,List.map_cons,List.map_nil,List.length_cons,List.length_nil]
   ·simp only[go_sem,aH fh (lb rfl:(6:Nat)<=maxLen),Int.natCast_add,Int.natCast_one,yf s.se fh,yf s.ta fh,List.map_append,List.length_append,List.map_cons,List.map_nil,List.length_cons,List.length_nil]
  ·have wO:i2=6:=by
    have :¬ (i2:Int)<6:=by simpa using hb
    omega
   clear hb
   subst wO
   repeat refine sq ?_
   refine cq ?_
   simp only[go_sem]
   refine kp [3,6,7] [[56,0],[63,0]] ?_
   repeat refine sq ?_
   refine rx hΓ [2] [] (fun K' hK=>by simp only[go_sem,rO,Dp,RI];(repeat (refine⟨by first | exact c2 | exact c3 | exact ob,?_⟩));exact hK _ (by simp only[go_sem]) (by simp only[go_sem]<;>rfl)) ?_
   refine av ?_
   simp only[go_sem]
   first | rfl
theorem WN:an Tryd.prog 98 S92:=Ss.sound
attribute [go_sem,simp] Ov
def lf(b:ByteArray)(i:Nat):Nat:=(b.data.getD i 0).toNat
theorem abM(b:ByteArray)(i:Nat):lf b i<256:=(b.data.getD i 0).toNat_lt
theorem bytes_at{b:ByteArray}{i:Nat}(h:i<b.size):(jW b).getD i default=.int .u8 (lf b i:Nat):=by
 have h':i<b.data.toList.length:=by rw[Array.length_toList];exact h
 have h1:i<b.data.size:=h
 unfold jW
 rw[jS (by rw[List.length_map];exact h'),List.getElem_map,Array.getElem_toList]
 unfold lf xw
 have :b.data.getD i 0=b.data[i]:=by
  unfold Array.getD
  rw[dif_pos h1]
  rfl
 rw[this]
def iq(b:ByteArray)(n:Int):Nat->Int
 | 0=>n.tmod 1000003
 |i+1=>(257*iq b n i+lf b i+1).tmod 1000003
def dL(s:Stk)(n:Int):Int:=iq (cY s) n (cY s).size
theorem x8{b:ByteArray}{n:Int}(hn:bR n):∀ i,0<=iq b n i/\iq b n i<1000003
 | 0=>by
   have :=hn.1
   exact⟨Int.tmod_nonneg _ this,Int.tmod_lt_of_pos _ (by omega)⟩
 |i+1=>by
  have h:=x8 (b:=b) hn i
  exact⟨Int.tmod_nonneg _ (by omega),Int.tmod_lt_of_pos _ (by omega)⟩
theorem Hj{b:ByteArray}{n:Int}(hn:bR n)(i:Nat):IntKind.i64.wrap (257*iq b n i)=257*iq b n i/\IntKind.i64.wrap (lf b i:Nat)=(lf b i:Nat)/\
 IntKind.i64.wrap (257*iq b n i+(lf b i:Nat))=257*iq b n i+(lf b i:Nat)/\IntKind.i64.wrap (257*iq b n i+(lf b i:Nat)+1)=257*iq b n i+(lf b i:Nat)+1/\
 IntKind.i64.wrap (iq b n (i+1))=iq b n (i+1)/\(257*iq b n i+(lf b i:Nat)+1).tmod 1000003=iq b n (i+1):=by
 have h:=x8 (b:=b) hn i
 have h2:=x8 (b:=b) hn (i+1)
 have hb:=abM b i
 exact⟨wrap_i64 (by omega) (by omega),wrap_i64 (by omega) (by omega),wrap_i64 (by omega) (by omega),wrap_i64 (by omega) (by omega),wrap_i64 (by omega) (by omega),rfl⟩
noncomputable def K9:List (Nat×Spec):=[(63,S91),(98,S92)]
theorem PG:∀ f s,tbl K9 f=some s->an Tryd.prog f s:=tc WO<|tc WN<|tn
attribute [go_sem] K9
noncomputable def P60:PSpec:=p2 iQ iI (fun s n=>eL s/\bR n) (fun s n=>vInt (dL s n)) true
noncomputable def S60:Spec:=P60.toSpec
attribute [go_sem] P60 S60
set_option maxHeartbeats 4000000 in
theorem SL:aZ Tryd.prog 38 P60:=by
 refine w2 (rs:=[.tmp 4]) Tryd.func38 Tryd.ntmps38 (by rfl) (by kernel_rfl) (by decide) (fun _ _ _=>rfl) ⟨_,rfl,lb rfl,fun s n hp hw=>?_⟩
 have hP:=bn
 simp only[iI,iQ]at hw |-
 have hΓ:=PG
 obtain⟨hs,hn⟩:=hp
 have ht:=Hb hs
 have hl:(cY s).size<=maxLen:=by unfold maxLen;omega
 repeat refine sq ?_
 refine rs hΓ [1,2] [[2,0]] ?_
 refine aN (cX [2,0] (aC s) rfl [1,2] [[2,0]] ?_ rfl) ?_
 ·simp only[go_sem]
 simp only[go_sem]
 repeat refine sq ?_
 refine rs hΓ [2,5] [[2,0]] ?_
 repeat refine sq ?_
 refine rs hΓ [5,12,13,14] [] ?_
 repeat refine sq ?_
 refine aL ?_
 repeat refine sq ?_
 refine cN (fun z:Nat=>[(14,⟨true,.v (vInt z)⟩),(5,⟨true,.v (vInt (iq (cY s) n z))⟩)]) (fun z=>[]) (fun z=>z<=(cY s).size) (fun z=>(cY s).size-z) 0 ?_ ?_ ?_ ?_
 ·exact Nat.zero_le _
 ·rfl
 ·rfl
 rintro i hi
 simp only[go_sem]
 repeat refine sq ?_
 refine rs hΓ [5,12,13,14,15] [] ?_
 repeat refine sq ?_
 refine aw rfl rfl (fun hb=>?_) (fun hb=>?_)
 ·have ae:i<(cY s).size:=by simpa using hb
  have ak:(i:Int)<(cY s).size:=by omega
  clear hb
  obtain⟨d1,d2,d3,d4,d5,d6⟩:=Hj (b:=cY s) hn i
  have hb:=bytes_at ae
  repeat refine sq ?_
  refine aA ?_
  repeat refine sq ?_
  refine aL ?_
  repeat refine sq ?_
  refine rx hΓ [5,7,12,13,14] [] (fun K' hK=>by simp only[go_sem,Int.toNat_natCast,Int.natCast_nonneg,ak,hb,Int.toNat_natCast,Int.natCast_nonneg,ak];(repeat (refine⟨ob,?_⟩));exact hK _ (by simp only[go_sem]) (by simp only[go_sem]<;>rfl)) ?_
  repeat refine sq ?_
  refine aX hΓ fun K' hK=>?_
  simp only[go_sem,Int.toNat_natCast,Int.natCast_nonneg,ak,d1,d2,d3,d4,d5,d6]
  repeat (refine⟨ob,?_⟩)
  refine hK _ ?_
  clear K' hK
  simp only[go_sem]
  refine kp [5,12,13,14] [] ?_
  repeat refine sq ?_
  refine aX hΓ fun K' hK=>?_
  simp only[go_sem,Int.toNat_natCast,Int.natCast_nonneg,ak]
  repeat (refine⟨ob,?_⟩)
  refine hK _ ?_
  clear K' hK
  simp only[go_sem]
  refine⟨i+1,ae,by(show (cY s).size-(i+1)<(cY s).size-i;omega),?_⟩
  refine bx [5,12,13,14] [] ?_ ?_
  ·simp only[go_sem,aH ae hl,Int.natCast_add,Int.natCast_one]
  ·simp only[go_sem,aH ae hl,Int.natCast_add,Int.natCast_one]
 ·have bf:i=(cY s).size:=by
   have :¬ (i:Int)<(cY s).size:=by simpa using hb
   omega
  clear hb
  subst bf
  repeat refine sq ?_
  refine cq ?_
  simp only[go_sem]
  refine kp [5] [] ?_
  repeat refine sq ?_
  refine rs hΓ [4] [] ?_
  refine av ?_
  simp only[go_sem]
  first | rfl
theorem zg:an Tryd.prog 38 S60:=SL.sound
noncomputable def P63:PSpec:=p2 iQ iI (fun s n=>eL s/\bR n) (fun s n=>vInt (dL s n)) true
noncomputable def S63:Spec:=P63.toSpec
attribute [go_sem] P63 S63
set_option maxHeartbeats 4000000 in
theorem SK:aZ Tryd.prog 94 P63:=by
 refine w2 (rs:=[.tmp 4]) Tryd.func94 Tryd.ntmps94 (by rfl) (by kernel_rfl) (by decide) (fun _ _ _=>rfl) ⟨_,rfl,lb rfl,fun s n hp hw=>?_⟩
 have hP:=bn
 simp only[iI,iQ]at hw |-
 have hΓ:=PG
 obtain⟨hs,hn⟩:=hp
 have ht:=Hb hs
 have hl:(cY s).size<=maxLen:=by unfold maxLen;omega
 repeat refine sq ?_
 refine rs hΓ [1,2] [[2,0]] ?_
 refine aN (cX [2,0] (aC s) rfl [1,2] [[2,0]] ?_ rfl) ?_
 ·simp only[go_sem]
 simp only[go_sem]
 repeat refine sq ?_
 refine rs hΓ [1,5] [] ?_
 repeat refine sq ?_
 refine rs hΓ [5,6] [] ?_
 repeat refine sq ?_
 refine rs hΓ [5,6,7] [] ?_
 repeat refine sq ?_
 refine aL ?_
 repeat refine sq ?_
 refine cN (fun z:Nat=>[(7,⟨true,.v (vInt z)⟩),(6,⟨true,.v (vInt (iq (cY s) n z))⟩)]) (fun z=>[]) (fun z=>z<=(cY s).size) (fun z=>(cY s).size-z) 0 ?_ ?_ ?_ ?_
 ·exact Nat.zero_le _
 ·rfl
 ·rfl
 rintro i hi
 simp only[go_sem]
 repeat refine sq ?_
 refine rs hΓ [5,6,7,15] [] ?_
 repeat refine sq ?_
 refine aw rfl rfl (fun hb=>?_) (fun hb=>?_)
 ·have ae:i<(cY s).size:=by simpa using hb
  have ak:(i:Int)<(cY s).size:=by omega
  clear hb
  obtain⟨d1,d2,d3,d4,d5,d6⟩:=Hj (b:=cY s) hn i
  have hb:((cY s).data.getD i 0).toNat=lf (cY s) i:=rfl
  repeat refine sq ?_
  refine aA ?_
  repeat refine sq ?_
  refine aL ?_
  repeat refine sq ?_
  refine aX hΓ fun K' hK=>?_
  simp only[go_sem,Int.toNat_natCast,Int.natCast_nonneg,ak,hb,Int.toNat_natCast,Int.natCast_nonneg,ak,d1,d2,d3,d4,d5,d6]
  repeat (refine⟨ob,?_⟩)
  refine hK _ ?_
  clear K' hK
  simp only[go_sem]
  refine kp [5,6,7] [] ?_
  repeat refine sq ?_
  refine aX hΓ fun K' hK=>?_
  simp only[go_sem,Int.toNat_natCast,Int.natCast_nonneg,ak]
  repeat (refine⟨ob,?_⟩)
  refine hK _ ?_
  clear K' hK
  simp only[go_sem]
  refine⟨i+1,ae,by(show (cY s).size-(i+1)<(cY s).size-i;omega),?_⟩
  refine bx [5,6,7] [] ?_ ?_
  ·simp only[go_sem,aH ae hl,Int.natCast_add,Int.natCast_one]
  ·simp only[go_sem,aH ae hl,Int.natCast_add,Int.natCast_one]
 ·have bf:i=(cY s).size:=by
   have :¬ (i:Int)<(cY s).size:=by simpa using hb
   omega
  clear hb
  subst bf
  repeat refine sq ?_
  refine cq ?_
  simp only[go_sem]
  refine kp [6] [] ?_
  repeat refine sq ?_
  refine rs hΓ [4] [] ?_
  refine av ?_
  simp only[go_sem]
  first | rfl
theorem W0:an Tryd.prog 94 S63:=SK.sound
def aF(me:Int)(p:Pg):Bool:=aP p.co 0 99999&&cZ me p.st&&(p.su==dL p.st p.co)
def yy(me:Int)(p:Pg):Int:=if aF me p=true then 0 else 91
theorem yb{me:Int}{s:Stk}(h:cZ me s=true):fb me s=0:=if_pos h
theorem yc{me:Int}{s:Stk}(h:cZ me s=false):fb me s=90:=if_neg (by rw[h];decide)
theorem rq{me:Int}{p:Pg}(h:aF me p=true):yy me p=0:=if_pos h
theorem gS{me:Int}{p:Pg}(h:aF me p=false):yy me p=91:=if_neg (by rw[h];decide)
theorem Iu{me:Int}{p:Pg}:(yy me p==0)=aF me p:=by
 cases h:aF me p
 ·rw[gS h];rfl
 ·rw[rq h];rfl
theorem n8{me:Int}{p:Pg}(h:aP p.co 0 99999=false):aF me p=false:=by unfold aF;rw[h];rfl
theorem n7{me:Int}{p:Pg}(h:cZ me p.st=false):aF me p=false:=by unfold aF;rw[h,Bool.and_false];rfl
theorem jG{me:Int}{p:Pg}(h:aP p.co 0 99999=true)(hk:cZ me p.st=true):aF me p=(p.su==dL p.st p.co):=by unfold aF;rw[h,hk];rfl
noncomputable def Qj:List (Nat×Spec):=[(62,S78),(71,S79),(38,S60),(92,S81),(94,S63),(78,S89),(84,S43)]
theorem Qi:∀ f s,tbl Qj f=some s->an Tryd.prog f s:=tc WR<|tc C7<|tc zg<|tc C6<|tc W0<|tc C4<|tc Da<|tn
attribute [go_sem] Qj
noncomputable def P90:PSpec:=p2 iI rJ (fun _ _=>True) (fun me p=>.bool (aF me p)) true
noncomputable def S90:Spec:=P90.toSpec
attribute [go_sem] P90 S90
set_option maxHeartbeats 4000000 in
theorem Su:aZ Tryd.prog 69 P90:=by
 refine w2 (rs:=[.tmp 4]) Tryd.func69 Tryd.ntmps69 (by rfl) (by kernel_rfl) (by decide) (fun _ _ _=>rfl) ⟨_,rfl,lb rfl,fun me p hp hw=>?_⟩
 have hP:=bn
 simp only[iI,rJ]at hw |-
 have hΓ:=Qi
 repeat refine sq ?_
 refine rs hΓ [0,3] [[3,0]] ?_
 refine aN (cX [3,0] (de p) rfl [0,3] [[3,0]] ?_ rfl) ?_
 ·simp only[go_sem]
 simp only[go_sem]
 rcases hc:aP p.co 0 99999 with _ | _;rotate_left;rcases hk:cZ me p.st with _ | _;rotate_left 2
 ·repeat refine sq ?_
  refine dx hΓ hP [[],[0],[0,1],[0,1,2],[0,1,2,3],[0,1,2,3],[0,1,2,3,5],[0,1,2,3,4,5,6],[0,1,2,3,4,5,6,7],[0,1,2,3,4,5,6,7,8],[0,1,2,3,4,5,6,7,8,9],[0,1,2,3,4,5,6,7,8,9,10],[0,1,2,3,4,5,6,7,8,9],[0,1,2,3,4,5,6,7,8,9,12],[0,1,2,3,4,5,6,7,8,9],[0,1,2,3,4,5,6,7,8,9,14],[0,1,2,3,4,5,6,7,8,9,12,13,14,15],[0,1,2,3,4,5,6,7,8,9,10,11,12,13,14,15,16],[0,1,2,3,4,5,6,7,8,9,10,11,12,13,14,15,16,17],[0,1,2,3,4,5,6,7,8,9,10,11,12,13,14,15,16,17,18]] [4] [] (by kernel_rfl) (fun K' hK=>by simp only[go_sem,hc];(repeat (refine⟨by first | exact oR | exact ob,?_⟩));(first | refine⟨by rfl,?_⟩ | skip);exact hK _ (by simp only[go_sem]) (by simp only[go_sem]<;>rfl)) ?_
  refine av ?_
  simp only[go_sem]
  first | (rw[n8 hc];done) | (rw[n7 hk];done) | (rw[jG hc hk];done) | (simp[aF,hc,hk];done)
 ·repeat refine sq ?_
  refine dx hΓ hP [[],[0],[0,1],[0,1,2],[0,1,2,3],[0,1,2,3],[0,1,2,3,5],[0,1,2,3,4,5,6],[0,1,2,3,4,5,6,7],[0,1,2,3,4,5,6,7,8],[0,1,2,3,4,5,6,7,8,9],[0,1,2,3,4,5,6,7,8,9,10],[0,1,2,3,4,5,6,7,8,9],[0,1,2,3,4,5,6,7,8,9,12],[0,1,2,3,4,5,6,7,8,9],[0,1,2,3,4,5,6,7,8,9,14],[0,1,2,3,4,5,6,7,8,9,12,13,14,15],[0,1,2,3,4,5,6,7,8,9,10,11,12,13,14,15,16],[0,1,2,3,4,5,6,7,8,9,10,11,12,13,14,15,16,17],[0,1,2,3,4,5,6,7,8,9,10,11,12,13,14,15,16,17,18]] [4] [] (by kernel_rfl) (fun K' hK=>by simp only[go_sem,hc,hk];(repeat (refine⟨by first | exact oR | exact ob,?_⟩));(first | refine⟨by rfl,?_⟩ | skip);exact hK _ (by simp only[go_sem]) (by simp only[go_sem]<;>rfl)) ?_
  refine av ?_
  simp only[go_sem]
  first | (rw[n8 hc];done) | (rw[n7 hk];done) | (rw[jG hc hk];done) | (simp[aF,hc,hk];done)
 ·have oR:eL p.st/\bR p.co:=⟨vM hk,rI hc (by omega) (by omega)⟩
  repeat refine sq ?_
  refine dx hΓ hP [[],[0],[0,1],[0,1,2],[0,1,2,3],[0,1,2,3],[0,1,2,3,5],[0,1,2,3,4,5,6],[0,1,2,3,4,5,6,7],[0,1,2,3,4,5,6,7,8],[0,1,2,3,4,5,6,7,8,9],[0,1,2,3,4,5,6,7,8,9,10],[0,1,2,3,4,5,6,7,8,9],[0,1,2,3,4,5,6,7,8,9,12],[0,1,2,3,4,5,6,7,8,9],[0,1,2,3,4,5,6,7,8,9,14],[0,1,2,3,4,5,6,7,8,9,12,13,14,15],[0,1,2,3,4,5,6,7,8,9,10,11,12,13,14,15,16],[0,1,2,3,4,5,6,7,8,9,10,11,12,13,14,15,16,17],[0,1,2,3,4,5,6,7,8,9,10,11,12,13,14,15,16,17,18]] [4] [] (by kernel_rfl) (fun K' hK=>by simp only[go_sem,hc,hk];(repeat (refine⟨by first | exact oR | exact ob,?_⟩));(first | refine⟨by rfl,?_⟩ | skip);exact hK _ (by simp only[go_sem]) (by simp only[go_sem]<;>rfl)) ?_
  refine av ?_
  simp only[go_sem]
  first | (rw[n8 hc];done) | (rw[n7 hk];done) | (rw[jG hc hk];done) | (simp[aF,hc,hk];done)
theorem KN:an Tryd.prog 69 S90:=Su.sound
noncomputable def ady:List (Nat×Spec):=[(69,S90)]
attribute [go_sem] ady
noncomputable def P45:PSpec:=p2 iI rJ (fun _ _=>True) (fun me p=>vInt (yy me p)) true
noncomputable def S45:Spec:=P45.toSpec
attribute [go_sem] P45 S45
set_option maxHeartbeats 4000000 in
theorem SY:aZ Tryd.prog 85 P45:=by
 refine w2 (rs:=[.tmp 4]) Tryd.func85 Tryd.ntmps85 (by rfl) (by kernel_rfl) (by decide) (fun _ _ _=>rfl) ⟨_,rfl,lb rfl,fun me p hp hw=>?_⟩
 have hP:=bn
 simp only[iI,rJ]at hw |-
 have hΓ:=Qi
 repeat refine sq ?_
 refine rs hΓ [0,3] [[3,0]] ?_
 refine aN (cX [3,0] (de p) rfl [0,3] [[3,0]] ?_ rfl) ?_
 ·simp only[go_sem]
 simp only[go_sem]
 rcases hc:aP p.co 0 99999 with _ | _;rotate_left;rcases hk:cZ me p.st with _ | _;rotate_left 2
 ·repeat refine sq ?_
  refine dx hΓ hP [[],[0],[0,1],[0,1,2],[0,1,2,3],[0,1,2,3,4],[0,1,2,3,4],[0,1,2,3,4,6],[0,1,2,3,4,5,6,7],[0,1,2,3,4,5,6,7,8],[0,1,2,3,4,5,6,7,8,9],[0,1,2,3,4,5,6,7,8,9,10],[0,1,2,3,4,5,6,7,8,9,10,11],[0,1,2,3,4,5,6,7,8,9,10,11,12],[0,1,2,3,4,5,6,7,8,9,10,11],[0,1,2,3,4,5,6,7,8,9,10,11,14],[0,1,2,3,4,5,6,7,8,9,10,11],[0,1,2,3,4,5,6,7,8,9,10,11,16],[0,1,2,3,4,5,6,7,8,9,10,11,14,15,16,17],[0,1,2,3,4,5,6,7,8,9,10,11,12,13,14,15,16,17,18],[0,1,2,3,4,5,6,7,8,9,10,11,12,13,14,15,16,17,18,19]] [25] [] (by kernel_rfl) (fun K' hK=>by simp only[go_sem,hc];(repeat (refine⟨by first | exact oR | exact ob,?_⟩));(first | refine⟨by rfl,?_⟩ | skip);exact hK _ (by simp only[go_sem]) (by simp only[go_sem]<;>rfl)) ?_
  repeat refine sq ?_
  refine aw rfl rfl (fun hb=>?_) (fun hb=>?_)
  ·repeat refine sq ?_
   refine rx hΓ [4] [] (fun K' hK=>by simp only[go_sem,hc];(repeat (refine⟨ob,?_⟩));exact hK _ (by simp only[go_sem]) (by simp only[go_sem]<;>rfl)) ?_
   refine av ?_
   simp only[go_sem]
   first | (exact absurd hb (by decide)) | (simp at hb;done) | (rw[gS (n8 hc)];done) | (rw[gS (n7 hk)];done) | (rw[gS (by rw[jG hc hk];simpa using hb)];done) | (rw[rq (by rw[jG hc hk];simpa using hb)];done)
  ·repeat refine sq ?_
   refine aA ?_
   repeat refine sq ?_
   refine rx hΓ [4] [] (fun K' hK=>by simp only[go_sem,hc];(repeat (refine⟨ob,?_⟩));exact hK _ (by simp only[go_sem]) (by simp only[go_sem]<;>rfl)) ?_
   refine av ?_
   simp only[go_sem]
   first | (exact absurd hb (by decide)) | (simp at hb;done) | (rw[gS (n8 hc)];done) | (rw[gS (n7 hk)];done) | (rw[gS (by rw[jG hc hk];simpa using hb)];done) | (rw[rq (by rw[jG hc hk];simpa using hb)];done)
 ·repeat refine sq ?_
  refine dx hΓ hP [[],[0],[0,1],[0,1,2],[0,1,2,3],[0,1,2,3,4],[0,1,2,3,4],[0,1,2,3,4,6],[0,1,2,3,4,5,6,7],[0,1,2,3,4,5,6,7,8],[0,1,2,3,4,5,6,7,8,9],[0,1,2,3,4,5,6,7,8,9,10],[0,1,2,3,4,5,6,7,8,9,10,11],[0,1,2,3,4,5,6,7,8,9,10,11,12],[0,1,2,3,4,5,6,7,8,9,10,11],[0,1,2,3,4,5,6,7,8,9,10,11,14],[0,1,2,3,4,5,6,7,8,9,10,11],[0,1,2,3,4,5,6,7,8,9,10,11,16],[0,1,2,3,4,5,6,7,8,9,10,11,14,15,16,17],[0,1,2,3,4,5,6,7,8,9,10,11,12,13,14,15,16,17,18],[0,1,2,3,4,5,6,7,8,9,10,11,12,13,14,15,16,17,18,19]] [25] [] (by kernel_rfl) (fun K' hK=>by simp only[go_sem,hc,yc hk];(repeat (refine⟨by first | exact oR | exact ob,?_⟩));(first | refine⟨by rfl,?_⟩ | skip);exact hK _ (by simp only[go_sem]) (by simp only[go_sem]<;>rfl)) ?_
  repeat refine sq ?_
  refine aw rfl rfl (fun hb=>?_) (fun hb=>?_)
  ·repeat refine sq ?_
   refine rx hΓ [4] [] (fun K' hK=>by simp only[go_sem,hc,yc hk];(repeat (refine⟨ob,?_⟩));exact hK _ (by simp only[go_sem]) (by simp only[go_sem]<;>rfl)) ?_
   refine av ?_
   simp only[go_sem]
   first | (exact absurd hb (by decide)) | (simp at hb;done) | (rw[gS (n8 hc)];done) | (rw[gS (n7 hk)];done) | (rw[gS (by rw[jG hc hk];simpa using hb)];done) | (rw[rq (by rw[jG hc hk];simpa using hb)];done)
  ·repeat refine sq ?_
   refine aA ?_
   repeat refine sq ?_
   refine rx hΓ [4] [] (fun K' hK=>by simp only[go_sem,hc,yc hk];(repeat (refine⟨ob,?_⟩));exact hK _ (by simp only[go_sem]) (by simp only[go_sem]<;>rfl)) ?_
   refine av ?_
   simp only[go_sem]
   first | (exact absurd hb (by decide)) | (simp at hb;done) | (rw[gS (n8 hc)];done) | (rw[gS (n7 hk)];done) | (rw[gS (by rw[jG hc hk];simpa using hb)];done) | (rw[rq (by rw[jG hc hk];simpa using hb)];done)
 ·have oR:eL p.st/\bR p.co:=⟨vM hk,rI hc (by omega) (by omega)⟩
  repeat refine sq ?_
  refine dx hΓ hP [[],[0],[0,1],[0,1,2],[0,1,2,3],[0,1,2,3,4],[0,1,2,3,4],[0,1,2,3,4,6],[0,1,2,3,4,5,6,7],[0,1,2,3,4,5,6,7,8],[0,1,2,3,4,5,6,7,8,9],[0,1,2,3,4,5,6,7,8,9,10],[0,1,2,3,4,5,6,7,8,9,10,11],[0,1,2,3,4,5,6,7,8,9,10,11,12],[0,1,2,3,4,5,6,7,8,9,10,11],[0,1,2,3,4,5,6,7,8,9,10,11,14],[0,1,2,3,4,5,6,7,8,9,10,11],[0,1,2,3,4,5,6,7,8,9,10,11,16],[0,1,2,3,4,5,6,7,8,9,10,11,14,15,16,17],[0,1,2,3,4,5,6,7,8,9,10,11,12,13,14,15,16,17,18],[0,1,2,3,4,5,6,7,8,9,10,11,12,13,14,15,16,17,18,19]] [25] [] (by kernel_rfl) (fun K' hK=>by simp only[go_sem,hc,yb hk];(repeat (refine⟨by first | exact oR | exact ob,?_⟩));(first | refine⟨by rfl,?_⟩ | skip);exact hK _ (by simp only[go_sem]) (by simp only[go_sem]<;>rfl)) ?_
  repeat refine sq ?_
  refine aw rfl rfl (fun hb=>?_) (fun hb=>?_)
  ·repeat refine sq ?_
   refine rx hΓ [4] [] (fun K' hK=>by simp only[go_sem,hc,yb hk];(repeat (refine⟨ob,?_⟩));exact hK _ (by simp only[go_sem]) (by simp only[go_sem]<;>rfl)) ?_
   refine av ?_
   simp only[go_sem]
   first | (exact absurd hb (by decide)) | (simp at hb;done) | (rw[gS (n8 hc)];done) | (rw[gS (n7 hk)];done) | (rw[gS (by rw[jG hc hk];simpa using hb)];done) | (rw[rq (by rw[jG hc hk];simpa using hb)];done)
  ·repeat refine sq ?_
   refine aA ?_
   repeat refine sq ?_
   refine rx hΓ [4] [] (fun K' hK=>by simp only[go_sem,hc,yb hk];(repeat (refine⟨ob,?_⟩));exact hK _ (by simp only[go_sem]) (by simp only[go_sem]<;>rfl)) ?_
   refine av ?_
   simp only[go_sem]
   first | (exact absurd hb (by decide)) | (simp at hb;done) | (rw[gS (n8 hc)];done) | (rw[gS (n7 hk)];done) | (rw[gS (by rw[jG hc hk];simpa using hb)];done) | (rw[rq (by rw[jG hc hk];simpa using hb)];done)
theorem Xc:an Tryd.prog 85 S45:=SY.sound
def lq(d:Dk):Bool:=if d.wet<0 then(aF d.me d.pa||aF d.me d.pb)&&!((aF d.me d.pa&&aF d.me d.pb)&&(d.pa.co==d.pb.co))
 else(aF d.me d.pa&&aF d.me d.pb)&&decide ((d.pg d.wet.toNat).co>(d.pg (1-d.wet).toNat).co)
def iz(d:Dk):Bool:=cZ d.me d.now&&aP d.wet (-1) 1
def ay(d:Dk):Bool:=iz d&&lq d
def k9(d:Dk):Int:=if ay d=true then 0 else 92
theorem fw{d:Dk}(h:ay d=true):k9 d=0:=if_pos h
theorem ky{d:Dk}(h:ay d=false):k9 d=92:=if_neg (by rw[h];decide)
@[go_sem] theorem ag0(d:Dk):(aq d).getD 20 default=vInt d.pa.co:=rfl
@[go_sem] theorem agZ(d:Dk):(aq d).getD 41 default=vInt d.pb.co:=rfl
theorem pk:IntKind.i64.wrap 0=0:=by decide
theorem pj:IntKind.i64.wrap 1=1:=by decide
theorem mV{d:Dk}(h:d.wet<0):lq d=((aF d.me d.pa||aF d.me d.pb)&&!((aF d.me d.pa&&aF d.me d.pb)&&(d.pa.co==d.pb.co))):=by
 unfold lq;rw[if_pos h]
theorem po{d:Dk}(h:d.wet=0):lq d=((aF d.me d.pa&&aF d.me d.pb)&&decide (d.pa.co>d.pb.co)):=by
 unfold lq;rw[if_neg (by omega),h];rfl
theorem pn{d:Dk}(h:d.wet=1):lq d=((aF d.me d.pa&&aF d.me d.pb)&&decide (d.pb.co>d.pa.co)):=by
 unfold lq;rw[if_neg (by omega),h];rfl
theorem Aa(d:Dk):(!cZ d.me d.now||!aP d.wet (-1) 1)=!iz d:=by
 unfold iz
 cases cZ d.me d.now<;>cases aP d.wet (-1) 1<;>rfl
theorem RB{me:Int}{s:Stk}:(fb me s != 0)=!cZ me s:=by
 cases h:cZ me s
 ·rw[yc h];rfl
 ·rw[yb h];rfl
noncomputable def Qh:List (Nat×Spec):=[(78,S89),(65,S98),(69,S90)]
theorem adx:∀ f s,tbl Qh f=some s->an Tryd.prog f s:=tc C4<|tc C3<|tc KN<|tn
attribute [go_sem] Qh
noncomputable def P74:PSpec:=p1 dV (fun _=>True) (fun d=>.bool (ay d)) true
noncomputable def S74:Spec:=P74.toSpec
attribute [go_sem] P74 S74
set_option maxHeartbeats 4000000 in
theorem SH:aZ Tryd.prog 66 P74:=by
 refine w1 (rs:=[.tmp 2]) Tryd.func66 Tryd.ntmps66 (by rfl) (by kernel_rfl) (by decide) (fun _ _=>rfl) ⟨_,rfl,lb rfl,fun d hp hw=>?_⟩
 have hP:=bn
 simp only[dV]at hw |-
 have hΓ:=adx
 repeat refine sq ?_
 refine rs hΓ [1] [[1,0]] ?_
 refine aN (cX [1,0] (aq d) rfl [1] [[1,0]] ?_ rfl) ?_
 ·simp only[go_sem]
 simp only[go_sem]
 repeat refine sq ?_
 refine rs hΓ [1,16] [[1,0]] ?_
 repeat refine sq ?_
 refine aw rfl rfl (fun hb=>?_) (fun hb=>?_)
 ·repeat refine sq ?_
  have bt:iz d=false:=by have:=Aa d;rw[hb]at this;simpa using this.symm
  repeat refine sq ?_
  refine rs hΓ [2] [] ?_
  refine av ?_
  simp only[go_sem]
  first | (simp[ay,bt];done) | (unfold ay;rw[bz,mV oH];simp) | (unfold ay;rw[bz,po ew];simp) | (unfold ay;rw[bz,pn ew];simp)
 ·repeat refine sq ?_
  have bz:iz d=true:=by have:=Aa d;rw[hb]at this;simpa using this.symm
  have hi:aP d.wet (-1) 1=true:=by unfold iz at bz;rw[Bool.and_eq_true]at bz;exact bz.2
  refine aA ?_
  repeat refine sq ?_
  refine dx hΓ hP [[],[0],[],[2],[2,3],[0,1,2,3,4],[],[6],[],[8],[8,9],[0,1,2,3,4,5,6,7,8,9,10],[0,1,2,3,4,5,6,7,8,9,10,11],[0,1,2,3,4,5,6,7,8,9,10,11,12]] [1,3,4] [[1,0]] (by kernel_rfl) (fun K' hK=>by simp only[go_sem,Int.cast_ofNat_Int,Int.reduceToNat,Int.toNat_one,Int.toNat_zero,Nat.reduceMul,Nat.reduceAdd,Nat.zero_mul,Nat.one_mul,Nat.add_zero];(repeat (refine⟨ob,?_⟩));(first | refine⟨by rfl,?_⟩ | skip);exact hK _ (by simp only[go_sem]) (by simp only[go_sem]<;>rfl)) ?_
  repeat refine sq ?_
  refine rs hΓ [1,3,4,31] [[1,0]] ?_
  repeat refine sq ?_
  refine aw rfl rfl (fun hb=>?_) (fun hb=>?_)
  ·repeat refine sq ?_
   have oH:d.wet<0:=by simpa using hb
   repeat refine sq ?_
   refine rx hΓ [2] [] (fun K' hK=>by simp only[go_sem,Int.cast_ofNat_Int,Int.reduceToNat,Int.toNat_one,Int.toNat_zero,Nat.reduceMul,Nat.reduceAdd,Nat.zero_mul,Nat.one_mul,Nat.add_zero];(repeat (refine⟨ob,?_⟩));exact hK _ (by simp only[go_sem]) (by simp only[go_sem]<;>rfl)) ?_
   refine av ?_
   simp only[go_sem]
   first | (simp[ay,bt];done) | (unfold ay;rw[bz,mV oH];simp) | (unfold ay;rw[bz,po ew];simp) | (unfold ay;rw[bz,pn ew];simp)
  ·repeat refine sq ?_
   have bf:¬ d.wet<0:=by simpa using hb
   have gX:d.wet=0\/d.wet=1:=by have:=cf.1 hi;omega
   refine aA ?_
   rcases gX with ew | ew
   ·repeat refine sq ?_
    refine dx hΓ hP [[],[0],[0,1],[0,1,2],[0,1,2,3],[0,1,2,3,4],[0,1,2,3,4,5],[0,1,2,3,4],[0,1,2,3,4,5,6,7],[0,1,2,3,4,5,6,7,8],[0,1,2,3,4,5,6,7,8,9],[0,1,2,3,4],[0,1,2,3,4,11],[0,1,2,3,4,11,12],[0,1,2,3,4],[0,1,2,3,4,11,12,13,14],[0,1,2,3,4,11,12,13,14,15],[0,1,2,3,4,11,12,13,14,15,16],[0,1,2,3,4,5,6,7,8,9,10,11,12,13,14,15,16,17],[0,1,2,3,4,5,6,7,8,9,10,11,12,13,14,15,16,17,18],[0,1,2,3,4,5,6,7,8,9,10,11,12,13,14,15,16,17,18,19]] [2] [] (by kernel_rfl) (fun K' hK=>by simp only[go_sem,ew,pk,pj,Int.sub_self,Int.sub_zero,Int.cast_ofNat_Int,Int.reduceToNat,Int.toNat_one,Int.toNat_zero,Nat.reduceMul,Nat.reduceAdd,Nat.zero_mul,Nat.one_mul,Nat.add_zero];(repeat (refine⟨ob,?_⟩));(first | refine⟨by rfl,?_⟩ | skip);exact hK _ (by simp only[go_sem]) (by simp only[go_sem]<;>rfl)) ?_
    refine av ?_
    simp only[go_sem]
    first | (simp[ay,bt];done) | (unfold ay;rw[bz,mV oH];simp) | (unfold ay;rw[bz,po ew];simp) | (unfold ay;rw[bz,pn ew];simp)
   ·repeat refine sq ?_
    refine dx hΓ hP [[],[0],[0,1],[0,1,2],[0,1,2,3],[0,1,2,3,4],[0,1,2,3,4,5],[0,1,2,3,4],[0,1,2,3,4,5,6,7],[0,1,2,3,4,5,6,7,8],[0,1,2,3,4,5,6,7,8,9],[0,1,2,3,4],[0,1,2,3,4,11],[0,1,2,3,4,11,12],[0,1,2,3,4],[0,1,2,3,4,11,12,13,14],[0,1,2,3,4,11,12,13,14,15],[0,1,2,3,4,11,12,13,14,15,16],[0,1,2,3,4,5,6,7,8,9,10,11,12,13,14,15,16,17],[0,1,2,3,4,5,6,7,8,9,10,11,12,13,14,15,16,17,18],[0,1,2,3,4,5,6,7,8,9,10,11,12,13,14,15,16,17,18,19]] [2] [] (by kernel_rfl) (fun K' hK=>by simp only[go_sem,ew,pk,pj,Int.sub_self,Int.sub_zero,Int.cast_ofNat_Int,Int.reduceToNat,Int.toNat_one,Int.toNat_zero,Nat.reduceMul,Nat.reduceAdd,Nat.zero_mul,Nat.one_mul,Nat.add_zero];(repeat (refine⟨ob,?_⟩));(first | refine⟨by rfl,?_⟩ | skip);exact hK _ (by simp only[go_sem]) (by simp only[go_sem]<;>rfl)) ?_
    refine av ?_
    simp only[go_sem]
    first | (simp[ay,bt];done) | (unfold ay;rw[bz,mV oH];simp) | (unfold ay;rw[bz,po ew];simp) | (unfold ay;rw[bz,pn ew];simp)
theorem KU:an Tryd.prog 66 S74:=SH.sound
noncomputable def Qg:List (Nat×Spec):=[(66,S74)]
theorem adw:∀ f s,tbl Qg f=some s->an Tryd.prog f s:=tc KU<|tn
attribute [go_sem] Qg
noncomputable def P23:PSpec:=p1 dV (fun _=>True) (fun d=>vInt (k9 d)) true
noncomputable def S23:Spec:=P23.toSpec
attribute [go_sem] P23 S23
theorem S5:aZ Tryd.prog 39 P23:=by
 refine w1 (rs:=[.tmp 2]) Tryd.func39 Tryd.ntmps39 (by rfl) (by kernel_rfl) (by decide) (fun _ _=>rfl) ⟨_,rfl,lb rfl,fun d hp hw=>?_⟩
 have hP:=bn
 simp only[dV]at hw |-
 have hΓ:=adw
 repeat refine sq ?_
 refine rs hΓ [1] [[1,0]] ?_
 refine aN (cX [1,0] (aq d) rfl [1] [[1,0]] ?_ rfl) ?_
 ·simp only[go_sem]
 simp only[go_sem]
 repeat refine sq ?_
 refine rs hΓ [5] [] ?_
 repeat refine sq ?_
 refine aw rfl rfl (fun hb=>?_) (fun hb=>?_)
 ·repeat refine sq ?_
  refine rs hΓ [2] [] ?_
  refine av ?_
  simp only[go_sem]
  first | (rw[ky (by simpa using hb)];done) | (rw[fw (by simpa using hb)];done)
 ·repeat refine sq ?_
  refine aA ?_
  repeat refine sq ?_
  refine rs hΓ [2] [] ?_
  refine av ?_
  simp only[go_sem]
  first | (rw[ky (by simpa using hb)];done) | (rw[fw (by simpa using hb)];done)
theorem rE:an Tryd.prog 39 S23:=S5.sound
noncomputable def Qf:List (Nat×Spec):=[(84,S43),(83,S86),(85,S45)]
theorem adv:∀ f s,tbl Qf f=some s->an Tryd.prog f s:=tc Da<|tc C5<|tc Xc<|tn
attribute [go_sem] Qf
noncomputable def P39:PSpec:=p1 dV (fun _=>True) (fun d=>vInt (k9 d)) true
noncomputable def S39:Spec:=P39.toSpec
attribute [go_sem] P39 S39
set_option maxHeartbeats 4000000 in
theorem S2:aZ Tryd.prog 77 P39:=by
 refine w1 (rs:=[.tmp 2]) Tryd.func77 Tryd.ntmps77 (by rfl) (by kernel_rfl) (by decide) (fun _ _=>rfl) ⟨_,rfl,lb rfl,fun d hp hw=>?_⟩
 have hP:=bn
 simp only[dV]at hw |-
 have hΓ:=adv
 repeat refine sq ?_
 refine rs hΓ [1] [[1,0]] ?_
 refine aN (cX [1,0] (aq d) rfl [1] [[1,0]] ?_ rfl) ?_
 ·simp only[go_sem]
 simp only[go_sem]
 repeat refine sq ?_
 refine rx hΓ [1,16] [[1,0]] (fun K' hK=>by simp only[go_sem,RB];(repeat (refine⟨ob,?_⟩));exact hK _ (by simp only[go_sem]) (by simp only[go_sem]<;>rfl)) ?_
 repeat refine sq ?_
 refine aw rfl rfl (fun hb=>?_) (fun hb=>?_)
 ·repeat refine sq ?_
  have bt:iz d=false:=by have:=Aa d;rw[hb]at this;simpa using this.symm
  have eP:ay d=false:=by unfold ay;rw[bt];rfl
  repeat refine sq ?_
  refine rs hΓ [2] [] ?_
  refine av ?_
  simp only[go_sem]
  first | (rw[ky eP];done) | (rw[fw eP];done)
 ·repeat refine sq ?_
  have bz:iz d=true:=by have:=Aa d;rw[hb]at this;simpa using this.symm
  have hi:aP d.wet (-1) 1=true:=by unfold iz at bz;rw[Bool.and_eq_true]at bz;exact bz.2
  refine aA ?_
  repeat refine sq ?_
  refine rx hΓ [1,3] [[1,0]] (fun K' hK=>by simp only[go_sem,Iu,Int.cast_ofNat_Int,Int.reduceToNat,Int.toNat_one,Int.toNat_zero,Nat.reduceMul,Nat.reduceAdd,Nat.zero_mul,Nat.one_mul,Nat.add_zero];(repeat (refine⟨ob,?_⟩));exact hK _ (by simp only[go_sem]) (by simp only[go_sem]<;>rfl)) ?_
  repeat refine sq ?_
  refine rx hΓ [1,3,4] [[1,0]] (fun K' hK=>by simp only[go_sem,Iu,Int.cast_ofNat_Int,Int.reduceToNat,Int.toNat_one,Int.toNat_zero,Nat.reduceMul,Nat.reduceAdd,Nat.zero_mul,Nat.one_mul,Nat.add_zero];(repeat (refine⟨ob,?_⟩));exact hK _ (by simp only[go_sem]) (by simp only[go_sem]<;>rfl)) ?_
  repeat refine sq ?_
  refine rs hΓ [1,3,4,33] [[1,0]] ?_
  repeat refine sq ?_
  refine aw rfl rfl (fun hb=>?_) (fun hb=>?_)
  ·repeat refine sq ?_
   have oH:d.wet<0:=by simpa using hb
   repeat refine sq ?_
   refine rx hΓ [56] [] (fun K' hK=>by simp only[go_sem,Int.cast_ofNat_Int,Int.reduceToNat,Int.toNat_one,Int.toNat_zero,Nat.reduceMul,Nat.reduceAdd,Nat.zero_mul,Nat.one_mul,Nat.add_zero];(repeat (refine⟨ob,?_⟩));exact hK _ (by simp only[go_sem]) (by simp only[go_sem]<;>rfl)) ?_
   repeat refine sq ?_
   refine aw rfl rfl (fun hb=>?_) (fun hb=>?_)
   ·repeat refine sq ?_
    have eP:ay d=false:=by unfold ay;rw[bz,mV oH];revert hb;cases aF d.me d.pa<;>cases aF d.me d.pb<;>simp
    repeat refine sq ?_
    refine rs hΓ [2] [] ?_
    refine av ?_
    simp only[go_sem]
    first | (rw[ky eP];done) | (rw[fw eP];done)
   ·repeat refine sq ?_
    have eP:ay d=true:=by unfold ay;rw[bz,mV oH];revert hb;cases aF d.me d.pa<;>cases aF d.me d.pb<;>simp
    refine aA ?_
    repeat refine sq ?_
    refine rs hΓ [2] [] ?_
    refine av ?_
    simp only[go_sem]
    first | (rw[ky eP];done) | (rw[fw eP];done)
  ·repeat refine sq ?_
   have bf:¬ d.wet<0:=by simpa using hb
   have gX:d.wet=0\/d.wet=1:=by have:=cf.1 hi;omega
   refine aA ?_
   rcases gX with ew | ew
   ·repeat refine sq ?_
    refine dx hΓ hP [[],[0],[0,1],[0,1,2],[0,1,2,3],[0,1,2,3,4],[0,1,2,3,4,5],[0,1,2,3,4,5,6],[0,1,2,3,4,5,6,7],[0,1,2,3,4,5,6],[0,1,2,3,4,5,6,7,8,9],[0,1,2,3,4,5,6,7,8,9,10],[0,1,2,3,4,5,6,7,8,9,10,11],[0,1,2,3,4,5,6],[0,1,2,3,4,5,6,13],[0,1,2,3,4,5,6,13,14],[0,1,2,3,4,5,6],[0,1,2,3,4,5,6,13,14,15,16],[0,1,2,3,4,5,6,13,14,15,16,17],[0,1,2,3,4,5,6,13,14,15,16,17,18],[0,1,2,3,4,5,6,7,8,9,10,11,12,13,14,15,16,17,18,19],[0,1,2,3,4,5,6,7,8,9,10,11,12,13,14,15,16,17,18,19,20]] [78] [] (by kernel_rfl) (fun K' hK=>by simp only[go_sem,ew,pk,pj,Int.sub_self,Int.sub_zero,Int.cast_ofNat_Int,Int.reduceToNat,Int.toNat_one,Int.toNat_zero,Nat.reduceMul,Nat.reduceAdd,Nat.zero_mul,Nat.one_mul,Nat.add_zero];(repeat (refine⟨ob,?_⟩));(first | refine⟨by rfl,?_⟩ | skip);exact hK _ (by simp only[go_sem]) (by simp only[go_sem]<;>rfl)) ?_
    repeat refine sq ?_
    refine aw rfl rfl (fun hb=>?_) (fun hb=>?_)
    ·repeat refine sq ?_
     have eP:ay d=false:=by unfold ay;rw[bz,po ew];revert hb;cases aF d.me d.pa<;>cases aF d.me d.pb<;>simp
     repeat refine sq ?_
     refine rx hΓ [2] [] (fun K' hK=>by simp only[go_sem,ew,pk,pj,Int.sub_self,Int.sub_zero,Int.cast_ofNat_Int,Int.reduceToNat,Int.toNat_one,Int.toNat_zero,Nat.reduceMul,Nat.reduceAdd,Nat.zero_mul,Nat.one_mul,Nat.add_zero];(repeat (refine⟨ob,?_⟩));exact hK _ (by simp only[go_sem]) (by simp only[go_sem]<;>rfl)) ?_
     refine av ?_
     simp only[go_sem]
     first | (rw[ky eP];done) | (rw[fw eP];done)
    ·repeat refine sq ?_
     have eP:ay d=true:=by unfold ay;rw[bz,po ew];revert hb;cases aF d.me d.pa<;>cases aF d.me d.pb<;>simp
     refine aA ?_
     repeat refine sq ?_
     refine rx hΓ [2] [] (fun K' hK=>by simp only[go_sem,ew,pk,pj,Int.sub_self,Int.sub_zero,Int.cast_ofNat_Int,Int.reduceToNat,Int.toNat_one,Int.toNat_zero,Nat.reduceMul,Nat.reduceAdd,Nat.zero_mul,Nat.one_mul,Nat.add_zero];(repeat (refine⟨ob,?_⟩));exact hK _ (by simp only[go_sem]) (by simp only[go_sem]<;>rfl)) ?_
     refine av ?_
     simp only[go_sem]
     first | (rw[ky eP];done) | (rw[fw eP];done)
   ·repeat refine sq ?_
    refine dx hΓ hP [[],[0],[0,1],[0,1,2],[0,1,2,3],[0,1,2,3,4],[0,1,2,3,4,5],[0,1,2,3,4,5,6],[0,1,2,3,4,5,6,7],[0,1,2,3,4,5,6],[0,1,2,3,4,5,6,7,8,9],[0,1,2,3,4,5,6,7,8,9,10],[0,1,2,3,4,5,6,7,8,9,10,11],[0,1,2,3,4,5,6],[0,1,2,3,4,5,6,13],[0,1,2,3,4,5,6,13,14],[0,1,2,3,4,5,6],[0,1,2,3,4,5,6,13,14,15,16],[0,1,2,3,4,5,6,13,14,15,16,17],[0,1,2,3,4,5,6,13,14,15,16,17,18],[0,1,2,3,4,5,6,7,8,9,10,11,12,13,14,15,16,17,18,19],[0,1,2,3,4,5,6,7,8,9,10,11,12,13,14,15,16,17,18,19,20]] [78] [] (by kernel_rfl) (fun K' hK=>by simp only[go_sem,ew,pk,pj,Int.sub_self,Int.sub_zero,Int.cast_ofNat_Int,Int.reduceToNat,Int.toNat_one,Int.toNat_zero,Nat.reduceMul,Nat.reduceAdd,Nat.zero_mul,Nat.one_mul,Nat.add_zero];(repeat (refine⟨ob,?_⟩));(first | refine⟨by rfl,?_⟩ | skip);exact hK _ (by simp only[go_sem]) (by simp only[go_sem]<;>rfl)) ?_
    repeat refine sq ?_
    refine aw rfl rfl (fun hb=>?_) (fun hb=>?_)
    ·repeat refine sq ?_
     have eP:ay d=false:=by unfold ay;rw[bz,pn ew];revert hb;cases aF d.me d.pa<;>cases aF d.me d.pb<;>simp
     repeat refine sq ?_
     refine rx hΓ [2] [] (fun K' hK=>by simp only[go_sem,ew,pk,pj,Int.sub_self,Int.sub_zero,Int.cast_ofNat_Int,Int.reduceToNat,Int.toNat_one,Int.toNat_zero,Nat.reduceMul,Nat.reduceAdd,Nat.zero_mul,Nat.one_mul,Nat.add_zero];(repeat (refine⟨ob,?_⟩));exact hK _ (by simp only[go_sem]) (by simp only[go_sem]<;>rfl)) ?_
     refine av ?_
     simp only[go_sem]
     first | (rw[ky eP];done) | (rw[fw eP];done)
    ·repeat refine sq ?_
     have eP:ay d=true:=by unfold ay;rw[bz,pn ew];revert hb;cases aF d.me d.pa<;>cases aF d.me d.pb<;>simp
     refine aA ?_
     repeat refine sq ?_
     refine rx hΓ [2] [] (fun K' hK=>by simp only[go_sem,ew,pk,pj,Int.sub_self,Int.sub_zero,Int.cast_ofNat_Int,Int.reduceToNat,Int.toNat_one,Int.toNat_zero,Nat.reduceMul,Nat.reduceAdd,Nat.zero_mul,Nat.one_mul,Nat.add_zero];(repeat (refine⟨ob,?_⟩));exact hK _ (by simp only[go_sem]) (by simp only[go_sem]<;>rfl)) ?_
     refine av ?_
     simp only[go_sem]
     first | (rw[ky eP];done) | (rw[fw eP];done)
theorem Xe:an Tryd.prog 77 S39:=S2.sound
end Go.Eng
set_option linter.unusedVariables false
namespace Go.Eng
open Go Go.Proofs Go.RowKit Go.Lib Go.Shelf
set_option maxHeartbeats 2000000 in
set_option maxRecDepth 100000 in
theorem abB(n c:Nat)(w:World):Calls Tryd.prog 46 #[.slice none n c] w fun e w'=>e=.returned (.slice none 0 0)/\w'=w:=by
 have mixed:Tryd.prog.follows Departure.mixedOrders=true:=by kernel_rfl
 have qT:∀ (w:World) (a:Option Addr) (n c n' c':Nat),(binOp .eql 35 (.slice a n c) (.slice none n' c')).run Tryd.prog w=.ok (.bool a.isNone) w:=fun w a n c n' c'=>Lib.run_eql_slice_nil w _ _ a n c n' c' Tryd.underlying35
 go_enter Tryd.func46,Tryd.ntmps46
 go_wp2
 go_ret
 exact⟨rfl,rfl⟩
set_option maxHeartbeats 2000000 in
set_option maxRecDepth 100000 in
theorem abA(a:Addr)(n c:Nat)(w:World)(v':Value)(w':World)
 (cl:∀ ty,(Builtin.append_ #[35,35] ty #[.slice (some ⟨w.heap.size,0,none⟩) 0 0,.slice (some a) n c]).run Tryd.prog (w.alloc (.cells #[] 75))=.ok v' w'):
 Calls Tryd.prog 46 #[.slice (some a) n c] w fun e w1=>e=.returned v'/\w1=w':=by
 have mixed:Tryd.prog.follows Departure.mixedOrders=true:=by kernel_rfl
 have qT:∀ (w:World) (a:Option Addr) (n c n' c':Nat),(binOp .eql 35 (.slice a n c) (.slice none n' c')).run Tryd.prog w=.ok (.bool a.isNone) w:=fun w a n c n' c'=>Lib.run_eql_slice_nil w _ _ a n c n' c' Tryd.underlying35
 go_enter Tryd.func46,Tryd.ntmps46
 go_wp2_with (at_builtin;refine Lib.wpList_append_run _ rfl _ _ _ _ rfl _ _ rfl rfl _ _ (cl _) ?_)
 go_ret
 exact⟨rfl,rfl⟩
set_option maxHeartbeats 2000000 in
set_option maxRecDepth 100000 in
theorem abz(n c:Nat)(w:World):Calls Tryd.prog 36 #[.slice none n c] w fun e w'=>e=.returned (.slice none 0 0)/\w'=w:=by
 have mixed:Tryd.prog.follows Departure.mixedOrders=true:=by kernel_rfl
 have qT:∀ (w:World) (a:Option Addr) (n c n' c':Nat),(binOp .eql 34 (.slice a n c) (.slice none n' c')).run Tryd.prog w=.ok (.bool a.isNone) w:=fun w a n c n' c'=>Lib.run_eql_slice_nil w _ _ a n c n' c' Tryd.underlying34
 go_enter Tryd.func36,Tryd.ntmps36
 go_wp2
 go_ret
 exact⟨rfl,rfl⟩
set_option maxHeartbeats 2000000 in
set_option maxRecDepth 100000 in
theorem aby(a:Addr)(n c:Nat)(w:World)(v':Value)(w':World)
 (cl:∀ ty,(Builtin.append_ #[34,34] ty #[.slice (some ⟨w.heap.size,0,none⟩) 0 0,.slice (some a) n c]).run Tryd.prog (w.alloc (.cells #[] 3))=.ok v' w'):
 Calls Tryd.prog 36 #[.slice (some a) n c] w fun e w1=>e=.returned v'/\w1=w':=by
 have mixed:Tryd.prog.follows Departure.mixedOrders=true:=by kernel_rfl
 have qT:∀ (w:World) (a:Option Addr) (n c n' c':Nat),(binOp .eql 34 (.slice a n c) (.slice none n' c')).run Tryd.prog w=.ok (.bool a.isNone) w:=fun w a n c n' c'=>Lib.run_eql_slice_nil w _ _ a n c n' c' Tryd.underlying34
 go_enter Tryd.func36,Tryd.ntmps36
 go_wp2_with (at_builtin;refine Lib.wpList_append_run _ rfl _ _ _ _ rfl _ _ rfl rfl _ _ (cl _) ?_)
 go_ret
 exact⟨rfl,rfl⟩
theorem oe(n:Nat)(h:n<1000000000):n≠yid:=by unfold yid;omega
theorem F7:xP Tryd.prog 46 35 75 2 16 (.agg #[.int .i64 0,.int .i64 0]):=
 ⟨by kernel_rfl,by kernel_rfl,oe _ (by decide),js Tryd.func46 (by rfl) (by kernel_rfl),abB,abA⟩
theorem F6:xP Tryd.prog 36 34 3 1 8 (.int .i64 0):=
 ⟨by kernel_rfl,by kernel_rfl,oe _ (by decide),js Tryd.func36 (by rfl) (by kernel_rfl),abz,aby⟩
def IE(sz by_:Nat):PSpec:=⟨fun xs=>∃ l,xs=[.sl l]/\(∀ z∈l,z.cells.length=sz/\z.okc=true)/\l.length*by_<=140737488355328,fun xs=>xs.headD default,false⟩
theorem Oj{P:Program}{f T E sz by_:Nat}{Z:Value}(L:xP P f T E sz by_ Z)(hz:Z.cells.size=sz)(hb:0<by_):aZ P f (IE sz by_):=by
 refine TO (AP L) L.ne (fun h=>by cases h) ?_
 rintro xs ⟨l,rfl,hl,hn⟩
 simp only[qz,List.map_cons,List.map_nil,IE,List.headD_cons]
 cases l with
 |nil=>exact⟨trivial,trivial,rfl⟩
 |cons y r=>
  have e:iK P (fun _=>none) [0,0] T (.v (.sl (y::r)))=cD P (fun _=>none) [0,0] T T .nilsl (.v (.sl (y::r))):=rfl
  rw[e]
  have pY:(y::r).length*by_<=140737488355328:=hn
  have jM:(y::r).length<=maxLen:=by unfold maxLen;have:=Nat.le_mul_of_pos_right (y::r).length hb;omega
  simp only[cD,L.tE,L.tZ,ax,au,aG,aM]
  exact⟨⟨trivial,hl,hz,pY,jM,trivial⟩,trivial,trivial⟩
theorem aZ.conv{P:Program}{f:FuncId}{s s':PSpec}(h:aZ P f s)(hf:s'.flat=s.flat)(hp:∀ xs,s'.pre xs->s.pre xs/\s'.fn xs=s.fn xs):aZ P f s':=by
 refine⟨h.ne,h.enter,fun gm xs hx=>?_,fun m w xs args hm ht hx cL=>?_⟩
 ·rw[(hp xs hx).2];exact h.flat (hf▸gm) xs (hp xs hx).1
 ·rw[(hp xs cL).2];exact h.calls m w xs args hm ht hx (hp xs cL).1
noncomputable def GH:PSpec:=p1 eO (fun l=>l.length*8<=140737488355328) (fun l=>.sl (l.map vInt)) false
noncomputable def S77:Spec:=GH.toSpec
theorem KS:an Tryd.prog 36 S77:=(aZ.conv (s':=GH) (Oj F6 rfl (by decide)) rfl (by
 intro xs hx
 obtain⟨l,rfl,hl,e⟩:=yE hx
 exact⟨⟨_,rfl,fun z hz=>by obtain⟨x,_,rfl⟩:=List.mem_map.1 hz;exact⟨rfl,rfl⟩,by simpa using hl⟩,e⟩)).sound
noncomputable def GI:PSpec:=p1 lz (fun l=>l.length*16<=140737488355328) (fun l=>.sl (l.map encPa)) false
noncomputable def S76:Spec:=GI.toSpec
theorem KT:an Tryd.prog 46 S76:=(aZ.conv (s':=GI) (Oj F7 rfl (by decide)) rfl (by
 intro xs hx
 obtain⟨l,rfl,hl,e⟩:=yE hx
 exact⟨⟨_,rfl,fun z hz=>by obtain⟨x,_,rfl⟩:=List.mem_map.1 hz;exact⟨rfl,rfl⟩,by simpa using hl⟩,e⟩)).sound
attribute [go_sem] GI S76 GH S77
open Go
structure GN (r:Lp) (dB:List Name->List D):Prop where
 ren:∀ f Ls,Ls.length=r.m->D.renL f (dB Ls)=dB (Ls.map f)
 clo:∀ dom Ls,Ls.length=r.m->(∀ x∈Ls,dom x=true)->D.closL dom (dB Ls)=true
 reach:∀ Ls s obj R k,Ls.length=r.m->(R::Ls).Nodup->dE obj Ls (r.fam Ls s)->obj R=some (r.rc Ls .ready none)->dQ obj (k+r.fu+1) (R::dS (dB Ls)) []=R::Ls
def Lp.itC(r:Lp)(dB:List Name->List D):CSpec where
 pre:=fun os ds=>os=r.rc (LI r.m) .ready none::r.fam (LI r.m) 0/\ds=.yld [0,1]::dB (LI r.m)
 out:=fun _ _=>⟨(0,r.fin (LI r.m))::e8 1 (r.fam (LI r.m) r.e),[],.tup []⟩
theorem Lp.itC_app{r:Lp}(hr:r.Ok){dB:List Name->List D}(wS:GN r dB){obj:Name->Option O}{t R:Name}{Ls:List Name}(hl:Ls.length=r.m)(hn:Ls.Nodup)(hR:R∉Ls)
 (h0:obj R=some (r.rc Ls .ready none)) (hF:dE obj Ls (r.fam Ls 0)):
 (r.itC dB).toSpec.app obj t (.yld R::dB Ls)=⟨True,.tup [],et Ls (r.fam Ls r.e) (upd obj R (some (r.fin Ls)))⟩:=by
 have zR:(R::Ls).Nodup:=List.nodup_cons.2 ⟨hR,hn⟩
 have mg:reach obj (.yld R::dB Ls)=R::Ls:=by
  unfold reach
  have :=wS.reach Ls 0 obj R (2999-r.fu) hl zR hF h0
  rw[show 2999-r.fu+r.fu+1=3000 by have:=hr.fuel;omega]at this
  exact this
 have Zw:∀ s,dE obj Ls (r.fam Ls s)->Ls.map (cr (R::Ls) obj)=(r.fam Ls s).map (O.ren (cin (R::Ls))):=by
  intro s hF
  rw[l8]at hF
  refine List.ext_getElem (by simp[hr.len _ _ hl,hl]) fun i h1 h2=>?_
  have h3:i<Ls.length:=by simpa using h1
  have h4:i<(r.fam Ls s).length:=by rw[hr.len _ _ hl,<-hl];exact h3
  have h5:=congrArg (fun l=>l[i]?) hF
  have h6:obj Ls[i]=some (r.fam Ls s)[i]:=by simpa[h3,h4]using h5
  simp only[List.getElem_map,cr,h6]
 have e1:cv obj (.yld R::dB Ls)=r.rc (LI r.m) .ready none::r.fam (LI r.m) 0:=by
  unfold cv
  rw[mg,List.map_cons,Zw 0 hF,hr.renF _ _ _ hl,F9 hn hR,hl]
  congr 1
  unfold Lp.rc at h0 |-
  simp only[cr,h0,O.ren]
  rw[hr.renE _ _ hl,F9 hn hR,hl]
 have e2:cO obj (.yld R::dB Ls)=.yld [0,1]::dB (LI r.m):=by
  unfold cO
  rw[mg]
  simp only[D.renL,D.ren,wS.ren _ _ hl]
  rw[F9 hn hR,hl]
  simp only[cin,idx,if_true]
 have cL:(r.itC dB).pre (r.rc (LI r.m) .ready none::r.fam (LI r.m) 0) (.yld [0,1]::dB (LI r.m)):=⟨rfl,rfl⟩
 have gi:∀ os ds,(r.itC dB).out os ds=⟨(0,r.fin (LI r.m))::e8 1 (r.fam (LI r.m) r.e),[],.tup []⟩:=fun _ _=>rfl
 have Ek:∀ x∈Ls,cK (R::Ls) x=true:=fun x hx=>iw.2 (List.mem_cons_of_mem _ hx)
 have gA:shut obj (R::Ls)=true:=by
  unfold shut
  rw[List.all_eq_true]
  intro x hx
  rcases List.mem_cons.1 hx with rfl | hx
  ·rw[h0]
   unfold Lp.rc
   exact hr.closE _ _ hl Ek
  obtain⟨i,hi,rfl⟩:=List.getElem_of_mem hx
  rw[l8]at hF
  have h4:i<(r.fam Ls 0).length:=by rw[hr.len _ _ hl,<-hl];exact hi
  have h5:=congrArg (fun l=>l[i]?) hF
  have h6:obj Ls[i]=some (r.fam Ls 0)[i]:=by simpa[hi,h4]using h5
  rw[h6]
  exact hr.closF _ _ _ hl Ek _ (List.getElem_mem h4)
 have bS:D.closL (cK (R::Ls)) (.yld R::dB Ls)=true:=by
  show (cK (R::Ls) R&&D.closL _ _)=true
  rw[wS.clo _ _ hl Ek]
  simp[cK]
 have hp:∀ obj',cj (R::Ls) t (e8 1 (r.fam (LI r.m) r.e)) obj'=et Ls (r.fam Ls r.e) obj':=by
  intro obj'
  rw[Cd (Ls:=Ls) (by rw[hr.len _ _ (gL _),hl]) fun i hi=>by
   rw[Nat.add_comm,List.getD_cons_succ];exact kY hi,hr.renF _ _ _ (gL _)]
  have :(LI r.m).map (cout (R::Ls) t)=Ls:=by rw[<-hl];exact N8 R Ls t
  rw[this]
 have hf:O.ren (cout (R::Ls) t) (r.fin (LI r.m))=r.fin Ls:=by
  unfold Lp.fin Lp.rc
  simp only[O.ren]
  rw[hr.renE _ _ (gL _)]
  have :(LI r.m).map (cout (R::Ls) t)=Ls:=by rw[<-hl];exact N8 R Ls t
  rw[this]
 simp only[CSpec.toSpec,e1,e2,mg,gi,gA,bS,fresh,List.all_nil,Bool.and_self,cL,and_self,dd,cj,List.getD_cons_zero,hf,hp,D.ren,D.renL]
theorem abG{P:Program}{r:Lp}(hr:r.Ok){dB:List Name->List D}(wS:GN r dB){g:Operand}{ps:Array Tmp}{asg body:Code}{σ:S}{rest:List Code}{K:Exit->S->Prop}(k k':Nat){f:FuncId}{Ls:List Name}
 (hc:cH σ g=true) (hg:ai σ g=.clo (.func f) [] (dB Ls)) (aj:f≠yid) (hs:an P f (r.itC dB).toSpec) (r4:σ.obj (k::σ.pre)=none)
 (he:(List.range σ.nt).map σ.env=r.env Ls) (gB:ps.toList=r.ps) (ha:asg=r.asg) (hb:body=r.body) (hl:Ls.length=r.m) (hn:Ls.Nodup) (hR:(k::σ.pre)∉Ls) (hF:dE σ.obj Ls (r.fam Ls 0))
 (hK:∀ o:O,vI (lu (fun σ'=>CL P rest σ' K) K) { σ with obj:=upd (et Ls (r.fam Ls r.e) σ.obj) (k::σ.pre) (some o) } r.pd):CL P (.rangeFunc g ps asg body::rest) σ K:=by
 subst ha
 subst hb
 generalize wY:k::σ.pre=R at *
 have ZK:∀ x∈Ls,(upd σ.obj R (some (r.rc Ls .ready none))) x=σ.obj x:=fun x hx=>aK _ _ _ (by rintro rfl;exact hR hx)
 have uG:=Lp.itC_app hr wS (t:=k'::σ.pre) hl hn hR (aG σ.obj R (some (r.rc Ls .ready none))) (Uw hF ZK)
 have LG:O.loop ((List.range σ.nt).map σ.env) ps.toList r.asg r.body .ready none=r.rc Ls .ready none:=by unfold Lp.rc;rw[he,gB]
 have mw:eG (ai σ g) [.yld R]=.yld R::dB Ls:=by rw[hg];rfl
 have dW:gr (ai σ g)=some f:=by rw[hg];simp[gr,aj]
 have Yk:∀ (F:List O) (obj:Name->Option O) (a b:Option O),upd (et Ls F (upd obj R a)) R b=upd (et Ls F obj) R b:=by
  intro F obj a b
  funext x
  by_cases h:x=R
  ·subst h;rw[aG,aG]
  ·rw[aK _ _ _ h,aK _ _ _ h]
   have :∀ (Ls:List Name) (F:List O) (o1 o2:Name->Option O),o1 x=o2 x->et Ls F o1 x=et Ls F o2 x:=by
    intro Ls
    induction Ls with
    |nil=>intro F o1 o2 h;simpa[et]using h
    |cons y ys ih=>
     intro F o1 o2 h
     cases F with
     |nil=>simpa[et]using h
     |cons f fs=>
      simp only[et]
      refine ih fs _ _ ?_
      by_cases e:x=y
      ·subst e;rw[aG,aG]
      ·rw[aK _ _ _ e,aK _ _ _ e,h]
   exact this Ls F _ _ (aK _ _ _ h)
 refine abE (Γ:=fun x=>if x=f then some (r.itC dB).toSpec else none) (fun x s hx=>by
  split at hx
  ·rename_i e;cases hx;subst e;exact hs
  ·cases hx) k k' hc dW aj (if_pos rfl) (by rw[wY];exact r4) ?_ ?_
 ·rw[wY,mw,LG,uG];trivial
 ·rw[wY,mw,LG,uG]
  have mm:et Ls (r.fam Ls r.e) (upd (upd σ.obj R (some (r.rc Ls .ready none))) R (some (r.fin Ls))) R=some (r.fin Ls):=by rw[vz hR,aG]
  have mc:lZ (et Ls (r.fam Ls r.e) (upd (upd σ.obj R (some (r.rc Ls .ready none))) R (some (r.fin Ls)))) R=
      upd (et Ls (r.fam Ls r.e) σ.obj) R (some (r.rc Ls .exhausted r.pd)):=by
   unfold lZ
   rw[mm]
   unfold Lp.fin Lp.rc
   simp only[Yk]
  refine Vp r.pd mm ?_
  rw[mc]
  exact hK (r.rc Ls .exhausted r.pd)
def jC(obj:Name->Option O)(L:List O):Name->Option O:=fun nm=>match a8 L nm with | some o=>some o | none=>obj nm
theorem RN{L1 L2:List O}(h:L2.length=L1.length):jC (a8 L1) L2=a8 L2:=by
 funext nm
 unfold jC
 cases hx:cJ nm with
 |false=>rw[yG hx,yG hx]
 |true=>
  obtain⟨i,rfl⟩:=vW.1 hx
  simp only[a8]
  by_cases hi:i<L2.length
  ·rw[List.getElem?_eq_getElem hi]
  ·rw[List.getElem?_eq_none (by omega),List.getElem?_eq_none (by omega)]
theorem CH(n:Nat)(p:Name)(F H:Name->Option O)(L:List O)(l:List (Nat×E))(h:List (Name×O)):
 aW n p (jC (fun nm=>if own p nm=true then F nm else H nm) L) l h=aW n p (jC H L) l h:=
 vR fun nm hn=>by unfold jC;simp[hn]
theorem GJ(p:Name)(dom:Name->Bool)(F H:Name->Option O)(L:List O):
 bU p dom (jC (fun nm=>if own p nm=true then F nm else H nm) L)=bU p dom (jC H L):=by
 have e:∀ nm,own p nm=false->jC (fun nm=>if own p nm=true then F nm else H nm) L nm=jC H L nm:=fun nm hn=>by unfold jC;simp[hn]
 exact propext ⟨fun k nm q hn h=>k nm q hn (by rw[e nm hn];exact h),fun k nm q hn h=>k nm q hn (by rw[<-e nm hn];exact h)⟩
def Lp.I(r:Lp)(s:Nat):List O:=r.rc (LI r.m) .ready none::r.fam (LI r.m) s
structure Ro (α:Type) where
 m:Nat
 fam:α->List Name->List O
 args:α->List Name->List D
 ok:α->Prop
 val:α->D
structure Ro.Ok {α:Type} (r:Ro α):Prop where
 len:∀ a Ls,Ls.length=r.m->(r.fam a Ls).length=r.m
 renF:∀ a f Ls,Ls.length=r.m->(r.fam a Ls).map (O.ren f)=r.fam a (Ls.map f)
 renA:∀ a f Ls,Ls.length=r.m->D.renL f (r.args a Ls)=r.args a (Ls.map f)
 reach:∀ a Ls obj,Ls.length=r.m->Ls.Nodup->dE obj Ls (r.fam a Ls)->reach obj (r.args a Ls)=Ls
 closF:∀ a dom Ls,Ls.length=r.m->(∀ x∈Ls,dom x=true)->∀ o∈r.fam a Ls,O.clos dom o=true
 closA:∀ a dom Ls,Ls.length=r.m->(∀ x∈Ls,dom x=true)->D.closL dom (r.args a Ls)=true
 det:∀ a b,r.ok a->r.ok b->r.fam a (LR r.m)=r.fam b (LR r.m)->r.args a (LR r.m)=r.args b (LR r.m)->r.val a=r.val b
 vcl:∀ a dom,D.clos dom (r.val a)=true
 vren:∀ a f,(r.val a).ren f=r.val a
variable {α:Type}
noncomputable def Ro.c(r:Ro α):CSpec where
 pre:=fun os ds=>∃ a,r.ok a/\os=r.fam a (LR r.m)/\ds=r.args a (LR r.m)
 out:=fun os ds=>⟨[],[],by classical exact if h:∃ a,r.ok a/\os=r.fam a (LR r.m)/\ds=r.args a (LR r.m)then r.val h.choose else .any⟩
theorem Ro.c_out{r:Ro α}(hr:r.Ok){a:α}(ha:r.ok a):r.c.out (r.fam a (LR r.m)) (r.args a (LR r.m))=⟨[],[],r.val a⟩:=by
 have h:∃ b,r.ok b/\r.fam a (LR r.m)=r.fam b (LR r.m)/\r.args a (LR r.m)=r.args b (LR r.m):=⟨a,ha,rfl,rfl⟩
 have e:r.val h.choose=r.val a:=(hr.det _ _ ha h.choose_spec.1 h.choose_spec.2.1 h.choose_spec.2.2).symm
 simp only[Ro.c]
 rw[dif_pos h,e]
theorem Ro.c_app{r:Ro α}(hr:r.Ok){a:α}(ha:r.ok a){obj:Name->Option O}{t:Name}{Ls:List Name}(hl:Ls.length=r.m)(hn:Ls.Nodup)(hF:dE obj Ls (r.fam a Ls)):
 r.c.toSpec.app obj t (r.args a Ls)=⟨True,r.val a,obj⟩:=by
 have mg:=hr.reach a Ls obj hl hn hF
 have Ae:Ls.map (cin Ls)=LR r.m:=by rw[Ga hn,hl]
 have e1:cv obj (r.args a Ls)=r.fam a (LR r.m):=by
  unfold cv
  rw[mg]
  have w6:=hF
  rw[l8]at w6
  have :Ls.map (cr Ls obj)=(r.fam a Ls).map (O.ren (cin Ls)):=by
   refine List.ext_getElem (by simp[hr.len _ _ hl,hl]) fun i h1 h2=>?_
   have h3:i<Ls.length:=by simpa using h1
   have h4:i<(r.fam a Ls).length:=by rw[hr.len _ _ hl,<-hl];exact h3
   have h5:=congrArg (fun l=>l[i]?) w6
   have h6:obj Ls[i]=some (r.fam a Ls)[i]:=by simpa[h3,h4]using h5
   simp only[List.getElem_map,cr,h6]
  rw[this,hr.renF _ _ _ hl,Ae]
 have e2:cO obj (r.args a Ls)=r.args a (LR r.m):=by
  unfold cO
  rw[mg,hr.renA _ _ _ hl,Ae]
 have dH:∀ x∈Ls,cK Ls x=true:=fun x hx=>iw.2 hx
 have gA:shut obj Ls=true:=by
  unfold shut
  rw[List.all_eq_true]
  intro x hx
  obtain⟨i,hi,rfl⟩:=List.getElem_of_mem hx
  have w6:=hF
  rw[l8]at w6
  have h4:i<(r.fam a Ls).length:=by rw[hr.len _ _ hl,<-hl];exact hi
  have h5:=congrArg (fun l=>l[i]?) w6
  have h6:obj Ls[i]=some (r.fam a Ls)[i]:=by simpa[hi,h4]using h5
  rw[h6]
  exact hr.closF _ _ _ hl dH _ (List.getElem_mem h4)
 have cL:r.c.pre (r.fam a (LR r.m)) (r.args a (LR r.m)):=⟨a,ha,rfl,rfl⟩
 simp only[CSpec.toSpec,e1,e2,mg,Ro.c_out hr ha,gA,hr.closA _ _ _ hl dH,fresh,List.all_nil,Bool.and_self,cL,and_self,dd,cj,hr.vren]
def HX(P:Program)(rs:List ResultVar)(v:D)(H:Name->Option O)(e:Exit)(σ:S):Prop:=
 (e=.normal\/e=.ret)/\(bY P σ rs).ok/\(bY P σ rs).d=v/\∀ i,σ.obj [i,1]=H [i,1]
theorem I5{σ:S}:∀ {os:List O} {k:Nat},(∀ i (h:i<os.length),σ.obj [k+i,1]=some os[i])->rz σ [] k os
 |[],_,_=>trivial
 |o::r,k,h=>by
  refine⟨by have:=h 0 (by simp);simp only[Nat.add_zero,List.getElem_cons_zero]at this;exact this,I5 fun i hi=>?_⟩
  have :=h (i+1) (by simpa using hi)
  rw[show k+1+i=k+(i+1)by omega]
  simpa using this
theorem Ro.sound{P:Program}{r:Ro α}(hr:r.Ok){f:FuncId}{fn:Func}{nt:Nat}{rs:List ResultVar}(hf:P.funcs[f]?=some fn)(ff:fn.ntmps=nt)(fJ:fn.results.toList=rs)(hn:(fn.name== "runtime.NumGoroutine")=false)(hy:f<1000000000)
 (hw:∃ c,fn.body=some c/\∀ a,r.ok a->(r.args a (LR r.m)).length<=nt/\CL P [c] (aW nt [0] (a8 (r.fam a (LR r.m))) (fH 0 (r.args a (LR r.m))) []) (HX P rs (r.val a) (a8 (r.fam a (LR r.m))))):an P f r.c.toSpec:=by
 obtain⟨c,hc,hw⟩:=hw
 refine o6 hf hc ff fJ (js hf hc hn) (Nat.ne_of_lt (show f<yid from hy)) ?_
 rintro os ds ⟨a,ha,rfl,rfl⟩
 obtain⟨hl,h⟩:=hw a ha
 refine⟨hl,?_⟩
 rw[Ro.c_out hr ha]
 refine CW.mono (lF h) ?_
 rintro e σ ⟨he,h1,h2,h3⟩
 have fin:(bY P σ rs).ok/\(bY P σ rs).d=r.val a/\ie (r.fam a (LR r.m)) ⟨[],[],r.val a⟩ σ:=by
  refine⟨h1,h2,I5 fun i hi=>?_,trivial,?_⟩
  ·rw[Nat.zero_add,h3]
   show (r.fam a (LR r.m))[i]?=_
   rw[List.getElem?_eq_getElem hi]
  ·simp[hr.vcl,distinct]
 rcases he with rfl | rfl
 ·exact fin
 ·exact fin
theorem Ro.outC{r:Ro α}(hr:r.Ok)(a:α):∀ hs,bU [0] (bL [0] hs) (a8 (r.fam a (LR r.m)))=True:=fun hs=>eq_true (vK (fun o ho dom hd=>hr.closF a dom _ (vj _) (fun x hx=>by
 obtain⟨i,_,rfl⟩:=List.mem_map.1 hx
 exact hd i) o ho) hs)
open Go Go.Proofs
def kG(s:Stk):Prop:=s.ho.length*8<=140737488355328/\∀ i,i<6->(s.un.get i).length*16<=140737488355328
theorem eL.sz{s:Stk}(h:eL s):kG s:=⟨by have:=h.hol;omega,fun i hi=>by have:=h.unl i hi;omega⟩
theorem CJ:∀ {a b:List V},a.map D.v=b.map D.v->a=b
 |[],[],_=>rfl
 |[],_::_,h=>by cases h
 |_::_,[],h=>by cases h
 |x::r,y::q,h=>by
  simp only[List.map_cons,List.cons.injEq,D.v.injEq]at h
  rw[h.1,CJ h.2]
theorem tG(f:Name->Name):∀ l:List V,D.renL f (l.map .v)=l.map .v
 |[]=>rfl
 |x::r=>by
  rw[List.map_cons,D.renL,tG f r];rfl
theorem yV:∀ l:List V,dS (l.map .v)=[]
 |[]=>rfl
 |x::r=>by
  rw[List.map_cons,dS,yV r];rfl
theorem CE{Ls:List Name}(h:Ls.length=1):∃ a,Ls=[a]:=by
 match Ls,h with
 |[a],_=>exact⟨a,rfl⟩
def j':Ro (List V×Nat×Stk) where
 m:=1
 fam a _:=[.box (a.1.map .v)]
 args a Ls:=[.ref (Ls.headD [0,1]) a.2.1]
 ok a:=(a.1.drop a.2.1).take 19=aC a.2.2/\kG a.2.2
 val a:=.v (nI a.2.2)
theorem vu:j'.Ok where
 len:=fun _ _ _=>rfl
 renF:=fun a f Ls _=>by simp only[j',List.map_cons,List.map_nil,O.ren,tG]
 renA:=fun a f Ls h=>by
  obtain⟨n,rfl⟩:=CE h
  rfl
 reach:=fun a Ls obj h _ hF=>by
  obtain⟨n,rfl⟩:=CE h
  obtain⟨h1,_⟩:=hF
  have en:dS (j'.args a [n])=[n]:=rfl
  unfold Go.Eng.reach
  rw[en]
  show dQ obj (2998+1+1) [n] []=[n]
  simp[dQ,iw,h1,nl,yV]
 closF:=fun a dom Ls _ _ o ho=>by
  simp only[j',List.mem_singleton]at ho
  subst ho
  exact qy _ _
 closA:=fun a dom Ls h hd=>by
  obtain⟨n,rfl⟩:=CE h
  simp[j',D.closL,D.clos,hd n (by simp)]
 det:=fun a b h1 h2 h3 h4=>by
  have e1:a.1=b.1:=CJ (O.box.inj (List.cons.inj h3).1)
  have e2:a.2.1=b.2.1:=(D.ref.inj (List.cons.inj h4).1).2
  have e3:aC a.2.2=aC b.2.2:=by rw[<-h1.1,<-h2.1,e1,e2]
  have e4:a.2.2=b.2.2:=by rw[<-o4 a.2.2,e3,o4]
  simp only[j',e4]
 vcl:=fun _ _=>rfl
 vren:=fun _ _=>rfl
noncomputable def S59:Spec:=j'.c.toSpec
theorem aas(l:List V)(i:Nat):(l.map D.v).getD i .any=if i<l.length then .v (l.getD i default)else .any:=by
 by_cases h:i<l.length
 ·rw[if_pos h,jS (by simpa using h),jS h];simp
 ·rw[if_neg h];simp[List.getD,List.getElem?_eq_none (Nat.le_of_not_lt h)]
theorem FX{l:List V}{off:Nat}{s:Stk}(h:(l.drop off).take 19=aC s){i:Nat}(hi:i<19):(l.map D.v).getD (off+i) .any=.v ((aC s).getD i default):=by
 have hlen:19<=(l.drop off).length:=by
  have :=congrArg List.length h
  rw[List.length_take,j9]at this
  omega
 rw[List.length_drop]at hlen
 rw[aas,if_pos (by omega),<-h,jS (show off+i<l.length by omega),jS (by rw[List.length_take,List.length_drop];omega)]
 simp
theorem N2{l:List V}{off:Nat}{s:Stk}(h:(l.drop off).take 19=aC s):((l.map D.v).drop off).take 19=(aC s).map D.v:=by
 rw[<-h,List.map_take,List.map_drop]
theorem FV{l:List V}{off:Nat}{s:Stk}(h:(l.drop off).take 19=aC s):off+19<=l.length:=by
 have :=congrArg List.length h
 rw[List.length_take,j9,List.length_drop]at this
 omega
@[go_sem] theorem afT(s:Stk):D.v (.sl (s.ho.map vInt))::List.drop 1 ((aC s).map D.v)=(aC s).map D.v:=rfl
theorem tq(s:Stk){i:Nat}(h:i<6):List.take (1+i) ((aC s).map D.v)++[D.v (.sl ((s.un.get i).map encPa))]++List.drop (1+i+1) ((aC s).map D.v)=(aC s).map D.v:=by
 match i,h with
 | 0,_=>rfl
 | 1,_=>rfl
 | 2,_=>rfl
 | 3,_=>rfl
 | 4,_=>rfl
 | 5,_=>rfl
theorem N0{l:List V}{off:Nat}{s:Stk}(h:(l.drop off).take 19=aC s){i:Nat}(hi:i<6):(l.map D.v).getD (off+1+i) .any=.v (rowP (s.un.get i)):=by
 rw[Nat.add_assoc,FX h (show 1+i<19 by omega),dt s hi]
@[go_sem] theorem afV(s:Stk):List.take 19 ((aC s).map D.v)=(aC s).map D.v:=rfl
@[go_sem] theorem afW(s:Stk):((aC s).map D.v).length=19:=rfl
attribute [go_sem] HX
noncomputable def Qe:List (Nat×Spec):=[(46,S76),(36,S77)]
theorem Qd:∀ f s,tbl Qe f=some s->an Tryd.prog f s:=tc KT<|tc KS<|tn
attribute [go_sem] Qe
set_option maxHeartbeats 4000000 in
theorem zh:an Tryd.prog 37 S59:=by
 refine Ro.sound vu (rs:=[.cell 2 39]) Tryd.func37 Tryd.ntmps37 (by rfl) (by kernel_rfl) (by decide) ⟨_,rfl,?_⟩
 rintro⟨l,off,s⟩ ⟨kn,bh⟩
 refine⟨lb rfl,?_⟩
 have hΓ:=Qd
 have hO:=Ro.outC vu (l,off,s)
 have h0:a8 (j'.fam (l,off,s) (LR j'.m)) [0,1]=some (.box (l.map .v)):=rfl
 generalize a8 (j'.fam (l,off,s) (LR j'.m))=H at *
 have ha:j'.args (l,off,s) (LR j'.m)=[.ref [0,1] off]:=rfl
 have hv:j'.val (l,off,s)=.v (nI s):=rfl
 rw[ha,hv]
 simp only[fH,Nat.zero_add]at h0 |-
 replace kn:(l.drop off).take 19=aC s:=kn
 replace bh:kG s:=bh
 have hA:=N2 kn
 have hB:=FX kn (show 0<19 by omega)
 have hL:=FV kn
 have kW:(l.map D.v).getD off .any=.v (jE s.ho):=hB
 repeat refine sq ?_
 refine rx hΓ [0,2] [[2,0]] (fun K' hK=>by simp only[go_sem,hO,h0];(repeat (refine⟨ob,?_⟩));exact hK _ (by simp only[go_sem,hO,h0]) (by simp only[go_sem,hO,h0]<;>rfl)) ?_
 repeat refine sq ?_
 refine rx hΓ [0,2,3] [[2,0],[3,0]] (fun K' hK=>by simp only[go_sem,hO,h0,hA,hB,hL,List.length_map,List.append_nil,j9];(repeat (refine⟨ob,?_⟩));exact hK _ (by simp only[go_sem,hO,h0,hA,hB,hL,List.length_map,List.append_nil,j9]) (by simp only[go_sem,hO,h0,hA,hB,hL,List.length_map,List.append_nil,j9]<;>rfl)) ?_
 repeat refine sq ?_
 refine rx hΓ [0,2,3] [[2,0],[3,0]] (fun K' hK=>by simp only[go_sem,hO,h0,Nat.add_zero,kW,bh.1];(repeat (refine⟨ob,?_⟩));exact hK _ (by simp only[go_sem,hO,h0,Nat.add_zero,kW,bh.1]) (by simp only[go_sem,hO,h0,Nat.add_zero,kW,bh.1]<;>rfl)) ?_
 repeat refine sq ?_
 refine rx hΓ [0,2,3,14] [[2,0],[3,0]] (fun K' hK=>by simp only[go_sem,hO,h0];(repeat (refine⟨ob,?_⟩));exact hK _ (by simp only[go_sem,hO,h0]) (by simp only[go_sem,hO,h0]<;>rfl)) ?_
 repeat refine sq ?_
 refine aL ?_
 repeat refine sq ?_
 refine cN (fun z:Nat=>[(14,⟨true,.v (vInt z)⟩)]) (fun z=>[]) (fun z=>z<=6) (fun z=>6-z) 0 ?_ ?_ ?_ ?_
 ·exact Nat.zero_le _
 ·rfl
 ·rfl
 rintro i hi
 simp only[go_sem]
 repeat refine sq ?_
 refine rx hΓ [0,2,3,14,15] [[2,0],[3,0]] (fun K' hK=>by simp only[go_sem,hO,h0];(repeat (refine⟨ob,?_⟩));exact hK _ (by simp only[go_sem,hO,h0]) (by simp only[go_sem,hO,h0]<;>rfl)) ?_
 repeat refine sq ?_
 refine aw rfl rfl (fun hb=>?_) (fun hb=>?_)
 ·have ae:i<6:=by have hq:(i:Int)<6:=(by simpa using hb);omega
  have ak:(i:Int)<6:=by omega
  clear hb
  have hC:=N0 kn ae
  have jj:=bh.2 i ae
  repeat refine sq ?_
  refine aA ?_
  repeat refine sq ?_
  refine aL ?_
  repeat refine sq ?_
  refine rx hΓ [0,2,3,4,14] [[2,0],[3,0]] (fun K' hK=>by simp only[go_sem,hO,h0,Int.toNat_natCast,Int.natCast_nonneg,ak];(repeat (refine⟨ob,?_⟩));exact hK _ (by simp only[go_sem,hO,h0,Int.toNat_natCast,Int.natCast_nonneg,ak]) (by simp only[go_sem,hO,h0,Int.toNat_natCast,Int.natCast_nonneg,ak]<;>rfl)) ?_
  repeat refine sq ?_
  refine aX hΓ fun K' hK=>?_
  simp only[go_sem,hO,h0,Int.toNat_natCast,Int.natCast_nonneg,ak,hC,jj,tq s ae,Int.toNat_natCast,Int.natCast_nonneg,ak]
  repeat (refine⟨ob,?_⟩)
  refine hK _ ?_
  clear K' hK
  simp only[go_sem]
  refine kz [0,2,3,14] [[2,0],[3,0]] ?_ ?_
  ·simp only[go_sem,hO,h0]
  simp only[go_sem,hO,h0]
  repeat refine sq ?_
  refine aX hΓ fun K' hK=>?_
  simp only[go_sem,hO,h0,Int.toNat_natCast,Int.natCast_nonneg,ak]
  repeat (refine⟨ob,?_⟩)
  refine hK _ ?_
  clear K' hK
  simp only[go_sem]
  refine⟨i+1,ae,by(show 6-(i+1)<6-i;omega),?_⟩
  refine bx [0,2,3,14] [[2,0],[3,0]] ?_ ?_
  ·simp only[go_sem,aH ae (lb rfl:(6:Nat)<=maxLen),Int.natCast_add,Int.natCast_one,tq s ae,hO,h0]
  ·simp only[go_sem,aH ae (lb rfl:(6:Nat)<=maxLen),Int.natCast_add,Int.natCast_one,tq s ae,hO,h0]
 ·have bf:i=6:=by
   have :¬ (i:Int)<6:=by simpa using hb
   omega
  clear hb
  subst bf
  repeat refine sq ?_
  refine cq ?_
  simp only[go_sem]
  refine kz [2,3] [[2,0],[3,0]] ?_ ?_
  ·simp only[go_sem,hO,h0]
  simp only[go_sem,hO,h0]
  repeat refine sq ?_
  refine rx hΓ [2] [[2,0]] (fun K' hK=>by simp only[go_sem,hO,h0,List.append_nil];(repeat (refine⟨ob,?_⟩));exact hK _ (by simp only[go_sem,hO,h0,List.append_nil]) (by simp only[go_sem,hO,h0,List.append_nil]<;>rfl)) ?_
  refine aN (cX [2,0] (aC s) rfl [2] [[2,0]] ?_ rfl) ?_
  ·simp only[go_sem,hO,h0]
  simp only[go_sem,hO,h0]
  refine av ?_
  simp only[go_sem,hO,h0]
  exact .inr trivial
theorem QQ{σ:S}(b nm:Name)(i k sz:Nat)(cs:List D)(L:List V)(hb:σ.obj b=some (.box cs))(hi:cs[i]?=some (.msl nm k))(hn:σ.obj nm=some (.arr sz L))(hk:k=L.length):
 eZ σ ⟨σ.nt,σ.env,upd (upd σ.obj nm (some (.farr sz L))) b (some (.box (cs.set i (.v (.sl L))))),σ.pre,σ.base⟩:=by
 intro G φ m a w hC
 have aj:b≠nm:=fun e=>by subst e;rw[hb]at hn;cases hn
 obtain⟨h1,h2,h3,us,T,f,h4,h5,h6,h7⟩:=hC.objs b _ hb
 obtain⟨fD,Em⟩:=List.getElem?_eq_some_iff.1 hi
 have h0:i<us.size:=by omega
 have h8:=h7 i fD h0
 rw[Em]at h8
 have cp:au 6 σ.obj (.msl nm k)=⟨k=L.length,.sl L,upd σ.obj nm (some (.farr sz L))⟩:=by simp only[au,hn]
 obtain⟨m2,k1,k2,k3,k4,_⟩:=nF 6 _ _ _ _ _ _ hC _ _ h8 (by rw[cp];exact hk)
 rw[cp]at k2 k3 k4
 simp only at k2 k3 k4
 have da:(upd σ.obj nm (some (.farr sz L))) b=some (.box cs):=by rw[aK _ _ _ aj];exact hb
 have lA:=Ext.same (φ:=φ) (o':=.box (cs.set i (.v (.sl L)))) da rfl rfl
 have zu:=lA
 rw[fa]at zu
 refine⟨_,m2,k2.chg (w':=w) b (.box (cs.set i (.v (.sl L)))) _ lA ⟨rfl,rfl,rfl,Nat.le_refl _⟩ (fun _ _ _=>rfl) (fun _=>.inr ⟨⟨_,da,rfl,h2⟩,rfl⟩) ?_⟩
 rw[fa]
 refine⟨h1,h2,fun d hd=>?_,us,T,f,h4,h5,by simpa using h6,fun j hj gl=>?_⟩
 ·rcases List.mem_or_eq_of_mem_set hd with h | h
  ·exact h3 d h
  ·subst h;rfl
 ·simp only[List.length_set]at hj
  rw[List.getElem_set]
  by_cases ix:i=j
  ·subst ix
   rw[if_pos rfl]
   exact .v _ _ k4
  ·rw[if_neg ix]
   exact((h7 j hj gl).ext k1 k3).ext (Mem.le_refl m2) zu
theorem dK{σ τ:S}(b nm:Name)(i k sz:Nat)(cs:List D)(L:List V)(hb:σ.obj b=some (.box cs))(hi:cs[i]?=some (.msl nm k))(hn:σ.obj nm=some (.arr sz L))(hk:k=L.length)(ks:List Nat)(ns:List Name)
 (h:gq ks ns ⟨σ.nt,σ.env,upd (upd σ.obj nm (some (.farr sz L))) b (some (.box (cs.set i (.v (.sl L))))),σ.pre,σ.base⟩)
 (gE:gy ks ns ⟨σ.nt,σ.env,upd (upd σ.obj nm (some (.farr sz L))) b (some (.box (cs.set i (.v (.sl L))))),σ.pre,σ.base⟩=τ):eZ σ τ:=
 (QQ b nm i k sz cs L hb hi hn hk).trans (pq ks ns h gE)
theorem IX(l:List Int):∀ y∈l.map vInt,y.cells.length=1/\y.okc=true:=by
 intro y hy;obtain⟨x,_,rfl⟩:=List.mem_map.1 hy;exact⟨rfl,rfl⟩
theorem IW(l:List Par):∀ y∈l.map encPa,y.cells.length=2/\y.okc=true:=by
 intro y hy;obtain⟨x,_,rfl⟩:=List.mem_map.1 hy;exact⟨rfl,rfl⟩
theorem ah{p:Prop}(h:p:=by first | exact IX _ | exact IW _ | ((repeat' apply And.intro)<;>first | rfl | omega | (unfold maxLen;omega) | trivial | decide | exact IX _ | exact IW _) | exact ob):p:=h
def N6(s:Stk):List D:=[.v (vInt s.se.a),.v (vInt s.se.b),.v (vInt s.se.c),.v (vInt s.se.d),.v (vInt s.se.e),.v (vInt s.se.f),.v (vInt s.ta.a),.v (vInt s.ta.b),.v (vInt s.ta.c),.v (vInt s.ta.d),.v (vInt s.ta.e),.v (vInt s.ta.f)]
def AN(s:Stk)(z:Nat):List D:=.v (jE s.ho)::(if 0<z then .v (rowP s.un.a)else .nilsl)::(if 1<z then .v (rowP s.un.b)else .nilsl)::(if 2<z then .v (rowP s.un.c)else .nilsl)::
 (if 3<z then .v (rowP s.un.d)else .nilsl)::(if 4<z then .v (rowP s.un.e)else .nilsl)::(if 5<z then .v (rowP s.un.f)else .nilsl)::N6 s
theorem UP{α:Type}{C:List α}{x:α}{n:Nat}(h:n<C.length):(List.take n C++[x]++List.drop (n+1) C)[n]?=some x:=by
 rw[List.append_assoc,List.getElem?_append_right (by rw[List.length_take];omega),List.length_take,Nat.min_eq_left (by omega),Nat.sub_self]
 rfl
theorem Jg{α:Type}{C:List α}{x y:α}{n:Nat}(h:n<C.length):(List.take n C++[x]++List.drop (n+1) C).set n y=List.take n C++[y]++List.drop (n+1) C:=by
 rw[List.append_assoc,List.set_append_right _ _ (by rw[List.length_take];omega),List.length_take,Nat.min_eq_left (by omega),Nat.sub_self,List.append_assoc]
 rfl
@[go_sem] theorem ahe(s:Stk)(z:Nat):(AN s z).length=19:=rfl
theorem abt(dom:Name->Bool)(p:Prop)[Decidable p](l:List V):D.clos dom (if p then .v (.sl l)else .nilsl)=true:=by
 split<;>rfl
@[go_sem] theorem abn(dom:Name->Bool)(s:Stk)(z:Nat):D.closL dom (AN s z)=true:=by
  simp only[AN,N6,D.closL,D.clos,abt,Bool.and_self,rowP]
theorem Bv{σ:S}(b:Name)(cs:List D)(l:List V)(hb:σ.obj b=some (.box cs))(hl:lI cs=some l):eZ σ ⟨σ.nt,σ.env,upd σ.obj b (some (.box (l.map .v))),σ.pre,σ.base⟩:=by
 intro G φ m a w hC
 obtain⟨h1,h2,h3,us,T,f,h4,h5,h6,h7⟩:=hC.objs b _ hb
 obtain⟨hlen,jR⟩:=Gw hl
 have lA:=Ext.same (φ:=φ) (o':=.box (l.map .v)) hb rfl rfl
 have zu:=lA
 rw[fa]at zu
 refine⟨_,m,hC.chg (w':=w) b (.box (l.map .v)) _ lA ⟨rfl,rfl,rfl,Nat.le_refl _⟩ (fun _ _ _=>rfl) (fun _=>.inr ⟨⟨_,hb,rfl,h2⟩,rfl⟩) ?_⟩
 rw[fa]
 refine⟨h1,h2,fun d hd=>?_,us,T,f,h4,h5,by rw[List.length_map,hlen];exact h6,fun j hj gl=>?_⟩
 ·obtain⟨x,hx,rfl⟩:=List.mem_map.1 hd
  obtain⟨i,hi,rfl⟩:=List.getElem_of_mem hx
  exact Pk (jR i (by omega) hi) (h3 _ (List.getElem_mem _))
 ·have sd:j<l.length:=by simpa using hj
  have Md:j<cs.length:=by omega
  simp only[List.getElem_map]
  exact .v _ _ (Pj (h7 j Md gl) (jR j Md sd))
theorem nU{σ τ:S}(b:Name)(cs:List D)(l:List V)(hb:σ.obj b=some (.box cs))(hl:lI cs=some l)(ks:List Nat)(ns:List Name)
 (h:gq ks ns ⟨σ.nt,σ.env,upd σ.obj b (some (.box (l.map .v))),σ.pre,σ.base⟩) (hk:gy ks ns ⟨σ.nt,σ.env,upd σ.obj b (some (.box (l.map .v))),σ.pre,σ.base⟩=τ):eZ σ τ:=
 (Bv b cs l hb hl).trans (pq ks ns h hk)
def dv(l:List Int):Stk:=⟨l,ef fun _=>[],ef fun _=>0,ef fun _=>0⟩
def zS:Stk:=dv []
def zP:Pg:=⟨0,zS,0⟩
def zD:Dk:=⟨0,zS,zP,zP,0⟩
def gw(me:Int)(l:List Int):Dk:=⟨me,dv l,⟨1,dv l,dL (dv l) 1⟩,⟨0,zS,dL zS 0⟩,-1⟩
def od(me:Int)(l:List Int):Bool:=aP me 0 5&&fX l
def pF(me:Int)(l:List Int):Int:=if aP me 0 5=true then(if fX l=true then 0 else 1)else 94
def rB(me:Int)(l:List Int):Dk:=if od me l=true then gw me l else zD
theorem Od(dom:Name->Bool)(l:List V)(n:Nat):D.closL dom (List.take n (l.map .v))=true:=by
 rw[<-List.map_take];exact qy _ _
theorem Og(dom:Name->Bool)(l:List V)(n:Nat):D.closL dom (List.drop n (l.map .v))=true:=by
 rw[<-List.map_drop];exact qy _ _
attribute [go_sem] Oh Od Og
@[go_sem] theorem aau(f:(Name->Option O)->D->FR)(obj:Name->Option O)(h:∀ obj x,f obj (.v x)=⟨True,x,obj⟩):∀ l:List V,aJ f obj (l.map .v)=⟨True,l,obj⟩
  |[]=>rfl
  |x::r=>by simp only[List.map_cons,aJ,h,aau f obj h r,and_self]
@[go_sem] theorem adA:V.agg [V.sl [],V.sl [],V.sl [],V.sl [],V.sl [],V.sl [],V.sl [],V.int .i64 0,V.int .i64 0,V.int .i64 0,V.int .i64 0,V.int .i64 0,V.int .i64 0,V.int .i64 0,V.int .i64 0,V.int .i64 0,V.int .i64 0,V.int .i64 0,V.int .i64 0]=V.agg (aC zS):=rfl
@[go_sem] theorem agN(d:Dk):((((aq d).map D.v).drop 1).take 19)=(aC d.now).map D.v:=rfl
@[go_sem] theorem agO(d:Dk):((aq d).map D.v).length=63:=rfl
@[go_sem] theorem agQ(d:Dk):((aq d).map D.v).drop 63=[]:=rfl
@[go_sem] theorem agR(d:Dk):((aq d).map D.v).take 63=(aq d).map D.v:=rfl
@[go_sem] theorem bt1(s:Stk)(x:D):(List.map D.v (aC s)++[x]).length=20:=rfl
@[go_sem] theorem bt2(s:Stk)(x:D):List.take 19 (List.map D.v (aC s)++[x])=List.map D.v (aC s):=rfl
@[go_sem] theorem bt3(s:Stk)(x:D):List.drop 20 (List.map D.v (aC s)++[x])=[]:=rfl
@[go_sem] theorem bt4(c u:Int)(s:Stk):D.v (.int .i64 c)::(List.map D.v (aC s)++[D.v (vInt u)])=(de ⟨c,s,u⟩).map D.v:=rfl
@[go_sem] theorem bt5(p:Pg):(List.map D.v (de p)).length=21:=rfl
@[go_sem] theorem bt6(p:Pg):List.take 21 (List.map D.v (de p))=List.map D.v (de p):=rfl
@[go_sem] theorem agc(p:Pg)(u:Int):List.take 20 (List.map D.v (de p))++[D.v (vInt u)]++List.drop 21 (List.map D.v (de p))=List.map D.v (de ⟨p.co,p.st,u⟩):=rfl
@[go_sem] theorem agM(d:Dk)(p:Pg):List.take 20 (List.map D.v (aq d))++List.map D.v (de p)++List.drop 41 (List.map D.v (aq d))=List.map D.v (aq ⟨d.me,d.now,p,d.pb,d.wet⟩):=rfl
@[go_sem] theorem agL(d:Dk)(p:Pg):List.take 41 (List.map D.v (aq d))++List.map D.v (de p)++List.drop 62 (List.map D.v (aq d))=List.map D.v (aq ⟨d.me,d.now,d.pa,p,d.wet⟩):=rfl
theorem ID{l:List Int}(h:fX l=true):eL (dv l):=by
 have hl:=tK h
 have h6:∀ i:Nat,(ef fun _=>(0:Int)).get i=0:=fun i=>by
  match i with
  | 0=>rfl
  | 1=>rfl
  | 2=>rfl
  | 3=>rfl
  | 4=>rfl
  |_+5=>rfl
 have h7:∀ i:Nat,(ef fun _=>([]:List Par)).get i=[]:=fun i=>by
  match i with
  | 0=>rfl
  | 1=>rfl
  | 2=>rfl
  | 3=>rfl
  | 4=>rfl
  |_+5=>rfl
 refine⟨hl.1,hl.2,fun i _=>?_,fun i _ p hp=>?_,fun i _=>?_,fun i _=>?_⟩
 ·show ((ef fun _=>([]:List Par)).get i).length<=40
  rw[h7];exact Nat.zero_le _
 ·have:p∈(ef fun _=>([]:List Par)).get i:=hp
  rw[h7]at this;cases this
 ·show bR ((ef fun _=>(0:Int)).get i)
  rw[h6];exact⟨by omega,by omega⟩
 ·show bR ((ef fun _=>(0:Int)).get i)
  rw[h6];exact⟨by omega,by omega⟩
theorem IV:eL zS:=ID rfl
def yU(me:Int)(l:List Int):Dk:=⟨me,dv l,zP,zP,-1⟩
theorem tC{L:List V}{off:Nat}{s:Stk}{obj:Name->Option O}{t nm:Name}(ho:obj nm=some (.box (L.map .v)))(hc:(L.drop off).take 19=aC s)(hs:kG s):
 S59.app obj t [.ref nm off]=⟨True,.v (nI s),obj⟩:=
 Ro.c_app vu (a:=(L,off,s)) ⟨hc,hs⟩ (Ls:=[nm]) rfl (by simp) ⟨ho,trivial⟩
noncomputable def Qc:List (Nat×Spec):=[(34,S82),(35,S83),(36,S77),(37,S59),(38,S60)]
theorem adu:∀ f s,tbl Qc f=some s->an Tryd.prog f s:=tc zf<|tc KR<|tc KS<|tc zh<|tc zg<|tn
attribute [go_sem] Qc
noncomputable def P37:PSpec:=p2 iI eO (fun _ _=>True) (fun me l=>.tup [encDk (rB me l),vInt (pF me l)]) false
noncomputable def S37:Spec:=P37.toSpec
attribute [go_sem] P37 S37
set_option maxHeartbeats 4000000 in
theorem S3:aZ Tryd.prog 11 P37:=by
 refine w2 (rs:=[.cell 4 44,.tmp 5]) Tryd.func11 Tryd.ntmps11 (by rfl) (by kernel_rfl) (by decide) (fun h=>by cases h) ⟨_,rfl,lb rfl,fun me l hp hw=>?_⟩
 have hP:=bn
 simp only[iI,eO]at hw |-
 have hΓ:=adu
 repeat refine sq ?_
 refine rx hΓ [0,1,4] [[4,0]] (fun K' hK=>by simp only[go_sem];(repeat (refine⟨ah,?_⟩));exact hK _ (by simp only[go_sem]) (by simp only[go_sem]<;>rfl)) ?_
 refine aN (nU [4,0] _ (aq zD) rfl rfl [0,1,4] [[4,0]] ?_ rfl) ?_
 ·simp only[go_sem]
 simp only[go_sem]
 repeat refine sq ?_
 refine aL ?_
 repeat refine sq ?_
 refine rx hΓ [0,1,4,7] [[4,0]] (fun K' hK=>by simp only[go_sem];(repeat (refine⟨ah,?_⟩));exact hK _ (by simp only[go_sem]) (by simp only[go_sem]<;>rfl)) ?_
 repeat refine sq ?_
 refine aw rfl rfl (fun hb=>?_) (fun hb=>?_)
 ·repeat refine sq ?_
  have fF:aP me 0 5=false:=by simpa using hb
  have e1:pF me l=94:=if_neg (by rw[fF];decide)
  have e2:rB me l=zD:=if_neg (by unfold od;rw[fF];exact Bool.false_ne_true)
  repeat refine sq ?_
  refine rx hΓ [4,5] [[4,0]] (fun K' hK=>by simp only[go_sem];(repeat (refine⟨ah,?_⟩));exact hK _ (by simp only[go_sem]) (by simp only[go_sem]<;>rfl)) ?_
  refine av ?_
  simp only[go_sem]
  first | (rw[e1,e2];done) | (rw[e1,e2];rfl)
 ·repeat refine sq ?_
  have fF:aP me 0 5=true:=by simpa using hb
  repeat refine sq ?_
  refine rx hΓ [0,1,4,12] [[4,0]] (fun K' hK=>by simp only[go_sem];(repeat (refine⟨ah,?_⟩));exact hK _ (by simp only[go_sem]) (by simp only[go_sem]<;>rfl)) ?_
  repeat refine sq ?_
  refine aw rfl rfl (fun hb=>?_) (fun hb=>?_)
  ·repeat refine sq ?_
   have fq:fX l=false:=by simpa using hb
   have e1:pF me l=1:=by unfold pF;rw[if_pos fF,if_neg (by rw[fq];decide)]
   have e2:rB me l=zD:=if_neg (by unfold od;rw[fq,Bool.and_false];exact Bool.false_ne_true)
   repeat refine sq ?_
   refine rx hΓ [4,5] [[4,0]] (fun K' hK=>by simp only[go_sem];(repeat (refine⟨ah,?_⟩));exact hK _ (by simp only[go_sem]) (by simp only[go_sem]<;>rfl)) ?_
   refine av ?_
   simp only[go_sem]
   first | (rw[e1,e2];done) | (rw[e1,e2];rfl)
  ·repeat refine sq ?_
   have fq:fX l=true:=by simpa using hb
   have e1:pF me l=0:=by unfold pF;rw[if_pos fF,if_pos fq]
   have e2:rB me l=gw me l:=if_pos (by unfold od;rw[fF,fq];rfl)
   have rU:=ID fq
   have agz:=(tK fq).1
   have qj:∀ (F:Name->Option O) (t:Name),F [6,0]=some (.box ((aq (yU me l)).map .v))->S59.app (fun nm=>if own [0] nm=true then F nm else none) t [.ref [6,0] 1]=⟨True,.v (.agg (aC (dv l))),fun nm=>if own [0] nm=true then F nm else none⟩:=fun F t h=>tC (s:=dv l) (L:=aq (yU me l)) (off:=1) h (xn (yU me l)) rU.sz
   have oS:eL zS/\bR 0:=⟨IV,by decide,by decide⟩
   have mu:eL (dv l)/\bR 1:=⟨rU,by decide,by decide⟩
   refine aA ?_
   refine dA ?_
   simp only[go_sem]
   refine kp [0,1,4] [[4,0]] ?_
   repeat refine sq ?_
   refine rx hΓ [4,6] [[4,0],[6,0]] (fun K' hK=>by simp only[go_sem];(repeat (refine⟨ah,?_⟩));exact hK _ (by simp only[go_sem]) (by simp only[go_sem]<;>rfl)) ?_
   refine aN (nU [6,0] _ (aq (yU me l)) rfl rfl [4,6] [[4,0],[6,0]] ?_ rfl) ?_
   ·simp only[go_sem]
   simp only[go_sem]
   repeat refine sq ?_
   refine dx hΓ hP [[],[0],[],[2],[0,1,2,3],[0,1,2,3,4],[],[0,1,2,3,4,5,6],[0,1,2,3,4,5,6,7]] [4,6] [[4,0],[6,0]] (by kernel_rfl) (fun K' hK=>by simp only[go_sem,qj,List.append_nil,Nat.reduceAdd];(repeat (refine⟨by first | exact mu | exact ah,?_⟩));(first | refine⟨by rfl,?_⟩ | skip);exact hK _ (by simp only[go_sem]) (by simp only[go_sem]<;>rfl)) ?_
   repeat refine sq ?_
   refine rx hΓ [4,6] [[4,0],[6,0]] (fun K' hK=>by simp only[go_sem,Nat.reduceAdd,Int.cast_ofNat_Int,Int.reduceToNat,Int.toNat_one,Nat.reduceMul];(repeat (refine⟨by first | exact oS | exact ah,?_⟩));exact hK _ (by simp only[go_sem]) (by simp only[go_sem]<;>rfl)) ?_
   refine aN (nU [6,0] _ (aq (gw me l)) rfl rfl [4,6] [[4,0],[6,0]] ?_ rfl) ?_
   ·simp only[go_sem]
   simp only[go_sem]
   repeat refine sq ?_
   refine rx hΓ [4,5] [[4,0]] (fun K' hK=>by simp only[go_sem,List.append_nil];(repeat (refine⟨ah,?_⟩));exact hK _ (by simp only[go_sem]) (by simp only[go_sem]<;>rfl)) ?_
   refine av ?_
   simp only[go_sem]
   first | (rw[e1,e2];done) | (rw[e1,e2];rfl)
theorem Xf:an Tryd.prog 11 S37:=S3.sound
noncomputable def K15:List (Nat×Spec):=[(90,S84),(91,S85),(94,S63)]
attribute [go_sem] K15
theorem Nz(d:Nat)(a b:Int):jU Tryd.prog (d+1) 3 (vInt a) (vInt b)=some (a==b):=by
 simp only[jU,Tryd.underlying3,if_true]
theorem Zk:Tryd.prog.stoodInHeld 75=false:=by kernel_rfl
theorem aan:Tryd.prog.eqGuardType Tryd.prog.depth 75=false:=by kernel_rfl
theorem aaH(d:Nat)(a b a' b':Int):jU Tryd.prog (d+2) 75 (.agg [vInt a,vInt b]) (.agg [vInt a',vInt b'])=some (a==a'&&b==b'):=by
 unfold jU
 simp only[Tryd.underlying75,Zk,Bool.false_eq_true,if_false,sD,pC,Hf,List.getElem?_cons_zero,List.getElem?_cons_succ,Nz]
 cases a==a'<;>cases b==b'<;>rfl
@[go_sem] theorem ahQ(obj:Name->Option O)(op:BinOp)(a b a' b':Int):lO Tryd.prog obj op 75 (.agg [vInt a,vInt b]) (.agg [vInt a',vInt b'])=
    ⟨op=.eql\/op=.neq,.v (.bool (if op=.eql then(a==a'&&b==b')else !(a==a'&&b==b'))),obj⟩:=by
  unfold lO
  rw[show Op.maxDepth=9998+2 from rfl,aaH]
  simp only[aan,true_and]
theorem aao:Tryd.prog.eqGuardType Tryd.prog.depth 37=false:=by kernel_rfl
def Ax(a b:aS Int):Bool:=a.a==b.a&&(a.b==b.b&&(a.c==b.c&&(a.d==b.d&&(a.e==b.e&&a.f==b.f))))
theorem aaI(d:Nat)(a b:aS Int):jU Tryd.prog (d+2) 37 (.agg ((a.L id).map vInt)) (.agg ((b.L id).map vInt))=some (Ax a b):=by
 obtain⟨a0,a1,a2,a3,a4,a5⟩:=a
 obtain⟨b0,b1,b2,b3,b4,b5⟩:=b
 unfold jU
 simp only[Tryd.underlying37,Hf,List.range',uQ,aS.L,List.map_cons,List.map_nil,id,pC,Nat.zero_mul,Nat.one_mul,Nat.mul_one,Nat.reduceAdd,List.getElem?_cons_zero,List.getElem?_cons_succ,Nz,Ax]
 cases a0==b0<;>cases a1==b1<;>cases a2==b2<;>cases a3==b3<;>cases a4==b4<;>cases a5==b5<;>rfl
@[go_sem] theorem ahR(obj:Name->Option O)(op:BinOp)(a b:aS Int):lO Tryd.prog obj op 37 (.agg ((a.L id).map vInt)) (.agg ((b.L id).map vInt))=
    ⟨op=.eql\/op=.neq,.v (.bool (if op=.eql then Ax a b else !Ax a b)),obj⟩:=by
  unfold lO
  rw[show Op.maxDepth=9998+2 from rfl,aaI]
  simp only[aao,true_and]
noncomputable def PB:PSpec:=p2 eO eO (fun _ _=>True) (fun a b=>.bool (decide (a=b))) true
noncomputable def Pt:Spec:=PB.toSpec
attribute [go_sem] PB Pt
noncomputable def Pz:PSpec:=p2 lz lz (fun _ _=>True) (fun a b=>.bool (decide (a=b))) true
noncomputable def GC:Spec:=Pz.toSpec
attribute [go_sem] Pz GC
noncomputable def K16:List (Nat×Spec):=[(26,Pt),(64,GC)]
attribute [go_sem] K16
noncomputable def K17:List (Nat×Spec):=[(64,GC)]
attribute [go_sem] K17
noncomputable def PC:PSpec:=p2 oz oz (fun _ _=>True) (fun a b=>.bool (decide (a=b))) true
noncomputable def S33:Spec:=PC.toSpec
attribute [go_sem] PC S33
theorem AG(d:Dk){i:Nat}(h:i<2):(aq d).getD (20+i*21) default=vInt (d.pg i).co:=by
 match i,h with
 | 0,_=>rfl
 | 1,_=>rfl
theorem FG(d:Dk){i:Nat}(h:i<2):((aq d).drop (20+i*21+1)).take 19=aC (d.pg i).st:=by
 match i,h with
 | 0,_=>rfl
 | 1,_=>rfl
noncomputable def adt:List (Nat×Spec):=[]
attribute [go_sem] adt
end Go.Eng
set_option linter.unusedVariables false
namespace Go.Eng
open Go Go.Proofs Go.RowKit Go.Lib Go.Shelf
theorem Tx{P:Program}(w:World)(t e ty:TypeId)(z:Value)(ht:P.underlying t=some (.slice e))(hv:be P e=some z)(h1:∀ v∈z.cells.toList,v.oneCell'=true)(b o c:Nat)
 (hc:∀ j,j<z.cells.size->(w.cell? ⟨b,o+j,none⟩).isSome=true) (hf:∀ j,w.frozen? ⟨b,j,none⟩=false):
 (Builtin.clear_ #[t] ty #[.slice (some ⟨b,o,none⟩) 1 c]).run P w=.ok (.tuple #[]) (w.setCells b o z.cells.toList):=by
 have oA:(Builtin.zeroCells z.cells 1).toList=z.cells.toList:=by
  have :Builtin.zeroCells z.cells 1=z.cells:=by
   apply Array.ext
   ·simp[Builtin.zeroCells]
   ·intro i h1 h2
    simp[Builtin.zeroCells,Nat.mod_eq_of_lt h2]
    rw[getElem!_pos z.cells i h2]
  rw[this]
 have cF:=run_storeCells_cells (P:=P) b o z.cells.toList 0 w (by simpa using hc) (by simpa using fun j _=>hf (o+j)) h1
 simp only[Nat.add_zero]at cF
 simp[Builtin.clear_,run_underlying ht,tD hv,oA,cF]
set_option maxHeartbeats 4000000 in
set_option maxRecDepth 100000 in
theorem aa7(b off n c i:Nat)(cs:List Value)(w:World)(hi:i<n)(D2:n<=c)(MA:c<=9223372036854775807)(bS:cs.length=n*1)
 (iA:∀ j v,cs[j]?=some v->w.cell? ⟨b,off+j,none⟩=some v) (p9:∀ j,w.frozen? ⟨b,j,none⟩=false) (w7:∀ v∈cs,v.oneCell'=true):
 Calls Tryd.prog 44 #[.slice (some ⟨b,off,none⟩) n c,.int .i64 i,.int .i64 (i+1)] w fun e w'=>
  e=.returned (.slice (some ⟨b,off,none⟩) (n-1) c)/\w'=(w.drew.setCells b (off+i*1) (cs.drop ((i+1)*1))).setCells b (off+(n-1)*1) (List.replicate 1 (.int .i64 0)):=by
 have mixed:Tryd.prog.follows Departure.mixedOrders=true:=by kernel_rfl
 have uI:bI Tryd.prog 34=some (3,1,8):=by kernel_rfl
 have wX:be Tryd.prog 3=some (.int .i64 0):=by kernel_rfl
 obtain⟨i0,nz,rN⟩:∃ i0,Tryd.prog.info? 3=some i0/\i0.size=1:=by
  obtain⟨hu,i0,h1,h2,h3⟩:=iN uI
  exact⟨i0,h1,h2⟩
 obtain⟨news,wy⟩:∃ news,news=cs.drop ((i+1)*1):=⟨_,rfl⟩
 have hlen:news.length=(n-(i+1))*1:=by rw[wy,List.length_drop,bS,Nat.sub_mul]
 have DB:∀ j,j<n*1->(w.cell? ⟨b,off+j,none⟩).isSome=true:=fun j hj=>by
  rw[iA j _ (List.getElem?_eq_getElem (by omega))];rfl
 obtain⟨A,hA,bE⟩:∃ A:Addr,(if c=i+1 then some (⟨b,off,none⟩:Addr)else some ⟨b,off+(i+1)*1,none⟩)=some A/\Hid (∀ t u,news[t]?=some u->w.drew.cell? (A.add t)=some u):=by
  by_cases h:c=i+1
  ·refine⟨⟨b,off,none⟩,by simp[h],fun t u hu=>?_⟩
   have h0:news.length=0:=by rw[hlen];have:n-(i+1)=0:=by omega
                             rw[this,Nat.zero_mul]
   rw[List.length_eq_zero_iff.1 h0]at hu
   simp at hu
  ·refine⟨⟨b,off+(i+1)*1,none⟩,by simp[h],fun t u hu=>?_⟩
   rw[Addr.add_lit,Nat.add_assoc]
   exact iA _ _ (by rw[wy,List.getElem?_drop]at hu;exact hu)
 have s1:Hid (news.length=(n-(i+1))*1):=hlen
 have s2:Hid (∀ u∈news,u.oneCell'=true):=fun u hu=>w7 u (List.mem_of_mem_drop (wy▸hu))
 have s3:Hid (∀ t,t<news.length->(w.drew.cell? ⟨b,off+i*1+t,none⟩).isSome=true/\w.drew.frozen? ⟨b,off+i*1+t,none⟩=false):=by
  intro t ht
  rw[hlen]at ht
  refine⟨?_,p9 _⟩
  rw[Nat.add_assoc]
  exact DB _ (by omega)
 obtain⟨W1,iG⟩:∃ W1,W1=w.drew.setCells b (off+i*1) news:=⟨_,rfl⟩
 have LF:∀ j,j<n*1->(W1.cell? ⟨b,off+j,none⟩).isSome=true:=fun j hj=>by
  rw[iG]
  exact isSome_setCells b _ _ _ (fun t ht=>(s3 t ht).1) _ (DB j hj)
 have ED:∀ ty,(Builtin.clear_ #[34] ty #[.slice (some ⟨b,off+(i+(n-(i+1)))*1,none⟩) (n-(i+(n-(i+1)))) (c-(i+(n-(i+1))))]).run Tryd.prog W1=.ok (.tuple #[]) (W1.setCells b (off+(i+(n-(i+1)))*1) (List.replicate 1 (.int .i64 0))):=fun ty=>by
  have e:n-(i+(n-(i+1)))=1:=by omega
  rw[e]
  exact Tx W1 34 3 ty _ Tryd.underlying34 wX (by decide) b _ _ (fun j hj=>by rw[Nat.add_assoc];exact LF _ (by have:j<1:=hj;omega)) (fun j=>by rw[iG,World.frozen?_setCells];exact p9 _)
 have hW:Hid (W1=w.drew.setCells b (off+i*1) news):=iG
 rw[<-wy,<-iG]
 have hic:i<=c:=by omega
 have hjc:i+1<=c:=by omega
 have aj:¬ ((i:Int)=(i:Int)+1):=by omega
 have hjn:i+1<=n:=by omega
 have DS:(0:Int)<=(i:Int)+1:=by omega
 have wu:(i:Int)+1<=(n:Int):=by omega
 clear iG LF DB wy hlen
 simp only[Nat.mul_one]at hA ED
 go_enter Tryd.func44,Tryd.ntmps44
 go_wp2_with fail
 go_region_law_o (refine step_append_room rfl (.tmp 22) (.tmp 25) 34 rfl 3 i0 1 Tryd.underlying34 nz rN b off i c (by simp[Act.eval,Act.put]) A (n-(i+1)) (c-(i+1)) news (by simp[Act.eval,Act.put]) s1.out bE.out s2.out (by omega) s3.out ?_;rw[<-hW.out])
 go_wp2
 go_ret
 have e:n-1=i+(n-(i+1)):=by omega
 rw[e,Nat.mul_one]
 exact⟨rfl,rfl⟩
def zI:V:=.int .i64 0
def xI(obj:Name->Option O):List D->R
 |[.msl nm k,.v (.int .i64 i),.v (.int .i64 j)]=>match obj nm with
  |some (.arr sz l)=>⟨k=l.length/\sz=1/\0<=i/\j=i+1/\i.toNat<l.length,.v (.sl (l.eraseIdx i.toNat)),upd obj nm (some (.farr sz (l.eraseIdx i.toNat++[zI])))⟩
  |_=>.bad obj
 |_=>.bad obj
def AH:List D->List Name
 |[.msl nm _,_,_]=>[nm]
 |_=>[]
def S54:Spec:=⟨fun obj _ ds=>xI obj ds,fun _ _ ds=>AH ds,fun _ _ ds=>AH ds⟩
theorem FI{l:List V}{i q:Nat}(hi:i<l.length)(h:q<(l.eraseIdx i++[zI]).length):
 (q<i/\∃ h':q<l.length,(l.eraseIdx i++[zI])[q]=l[q])\/(i<=q/\∃ h':q+1<l.length,(l.eraseIdx i++[zI])[q]=l[q+1])\/(q+1=l.length/\(l.eraseIdx i++[zI])[q]=zI):=by
 have hl:(l.eraseIdx i).length=l.length-1:=List.length_eraseIdx_of_lt hi
 have hq:q<l.length:=by simp[hl]at h;omega
 by_cases h1:q<l.length-1
 ·rw[List.getElem_append_left (by omega),List.getElem_eraseIdx]
  by_cases h2:q<i
  ·exact .inl ⟨h2,hq,by rw[dif_pos h2]⟩
  ·exact .inr (.inl ⟨by omega,by omega,by rw[dif_neg h2]⟩)
 ·refine .inr (.inr ⟨by omega,?_⟩)
  rw[List.getElem_append_right (by omega)]
  simp
theorem aa6:S54.Near:=by
 refine⟨fun obj obj2 t ds h=>?_,fun obj obj2 t ds h=>rfl,fun obj t ds nm hn=>hn,fun obj obj2 t ds h=>rfl⟩
 simp only[S54]at h |-
 unfold xI
 split
 ·rename_i nm k i j
  have h':obj2 nm=obj nm:=h nm (by simp[AH])
  simp only[h']
  split
  ·exact .one (by simp[AH]) h
  ·exact .none _ h
 ·exact .none _ h
set_option maxHeartbeats 1000000 in
theorem KW:an Tryd.prog 44 S54:=by
 refine⟨aa6,fun _ args w=>js Tryd.func44 rfl (by kernel_rfl) args w,fun _ G φ m σ a w hC t ds us _ hl hr aa=>?_,fun e=>(Nat.ne_of_lt (show (44:Nat)<yid by decide) e).elim⟩
 simp only[S54,xI]at aa |-
 split at aa
 case h_2=>exact aa.elim
 rename_i nm k i j
 simp only[List.length_cons,List.length_nil]at hl
 have r0:=hr 0 (by simp) (by omega)
 have r1:=hr 1 (by simp) (by omega)
 have r2:=hr 2 (by simp) (by omega)
 simp only[List.getElem_cons_zero,List.getElem_cons_succ]at r0 r1 r2
 have nu:us= #[us[0],us[1],us[2]]:=by
  apply Array.ext
  ·simp;omega
  ·intro j h1 h2
   have :j=0\/j=1\/j=2:=by omega
   rcases this with rfl | rfl | rfl<;>rfl
 rw[nu]
 generalize us[0]=u0 at r0
 generalize us[1]=u1 at r1
 generalize us[2]=u2 at r2
 clear nu hr hl us
 cases r1 with
 |v _ _ r1=>
 cases r1 with
 |int _ _=>
 cases r2 with
 |v _ _ r2=>
 cases r2 with
 |int _ _=>
 split at aa
 case h_2=>exact aa.elim
 rename_i sz l al
 obtain⟨hk,bh,nz,hj,fD⟩:=aa
 subst bh hj
 cases r0 with
 |msl _ _ _ hh wi=>
 obtain⟨o,nn,cm,hlen,_,cB⟩:=hh
 rw[al]at cm;cases cm
 simp only[O.len?,Option.some.injEq]at hlen
 subst hlen
 have hv:=cB hk
 subst hk
 obtain⟨i,rfl⟩:∃ n:Nat,i=(n:Int):=⟨i.toNat,by omega⟩
 simp only[Int.toNat_natCast]at fD |-
 rcases hC.objs nm _ al with⟨_,jN⟩ | ⟨g0,g1,g2,g3,g4,bc,T',f,g5,g6,g7,g8⟩
 ·subst jN;simp at fD
 have iD:(φ nm).blk<w.heap.size:=(Array.getElem?_eq_some_iff.1 g5).1
 have Dw:u0=.slice (some ⟨(φ nm).blk,(φ nm).off,none⟩) l.length (φ nm).cap:=by rw[hv];simp only[Loc.slice,g0];rfl
 subst Dw
 have oK:holds φ σ.obj nm:=⟨_,al,rfl,g0⟩
 obtain⟨c1,mu⟩:∃ c1:Nat->Nat->Value,∀ q j,q<l.length->j<1->bc[(φ nm).off+q*1+j]?=some (c1 q j):=⟨fun q j=>(bc[(φ nm).off+q*1+j]?).getD undef,fun q j hq hj=>by
  obtain⟨c,x1,_⟩:=g8 q j hq (by rw[g3];exact hj)
  simp only[x1,Option.getD_some]⟩
 have bV:∀ q j (h:q<l.length) (h':j<l[q].cells.length),aB m l[q].cells[j] (c1 q j):=fun q j h h'=>by
  obtain⟨c,x1,x2⟩:=g8 q j h h'
  have :=mu q j h (by rw[<-g3 q h];exact h')
  rw[x1]at this;cases this;exact x2
 have Ad:∀ j v,(rowOf c1 l.length 1)[j]?=some v->w.cell? ⟨(φ nm).blk,(φ nm).off+j,none⟩=some v:=fun j v wI=>by
  have :=tF (w:=w) (c:=c1) (n:=l.length) (sz:=1) (blk:=(φ nm).blk) (o:=(φ nm).off) (fun q j hq hj=>by rw[mH g5];exact mu q j hq hj) j v wI
  rwa [j0]at this
 have zL:∀ v∈rowOf c1 l.length 1,v.oneCell'=true:=by
  intro v hv
  simp only[rowOf,List.mem_map,List.mem_range]at hv
  obtain⟨k,hk,rfl⟩:=hv
  obtain⟨d1,d2⟩:=xo hk
  exact vL ((bV _ _ d1 (by rw[g3];exact d2)).one (g4 _ d1 _ (List.getElem_mem _)))
 refine(aa7 (φ nm).blk (φ nm).off l.length (φ nm).cap i (rowOf c1 l.length 1) w fD g1 (by unfold maxLen at g2;omega) (dP _ _ _) Ad (fun j=>M1 g5 g6) zL).mono ?_
 rintro e w' ⟨rfl,rfl⟩
 obtain⟨lW,k1,k2,k3⟩:=qX (φ nm).blk T' f ((rowOf c1 l.length 1).drop ((i+1)*1)) ((φ nm).off+i*1) w.drew bc g5
 obtain⟨j8,k4,k5,k6⟩:=qX (φ nm).blk T' f (List.replicate 1 (.int .i64 0)) ((φ nm).off+(l.length-1)*1) (bp w.drew (φ nm).blk (.cells lW T' f)) lW (jy iD)
 rw[k1,k4,xS]
 have hL:(l.eraseIdx i++[zI]).length=l.length:=by simp[List.length_eraseIdx_of_lt fD];omega
 have pT:∀ q (h:q<(l.eraseIdx i++[zI]).length),(l.eraseIdx i++[zI])[q].cells.length=1:=fun q h=>by
  rcases FI fD h with⟨_,h',e⟩ | ⟨_,h',e⟩ | ⟨_,e⟩<;>rw[e]
  ·exact g3 _ _
  ·exact g3 _ _
  ·rfl
 have uo:∀ q (h:q<(l.eraseIdx i++[zI]).length),∀ x∈(l.eraseIdx i++[zI])[q].cells,x.one=true:=fun q h=>by
  rcases FI fD h with⟨_,h',e⟩ | ⟨_,h',e⟩ | ⟨_,e⟩<;>rw[e]
  ·exact g4 _ _
  ·exact g4 _ _
  ·intro x hx
   simp only[zI,V.cells,List.mem_cons,List.not_mem_nil,or_false,or_self]at hx
   subst hx;rfl
 have Mz:l.length*1<=(φ nm).cap*1:=Nat.mul_le_mul_right _ g1
 have kT:∀ q j (h:q<(l.eraseIdx i++[zI]).length) (h':j<(l.eraseIdx i++[zI])[q].cells.length),∃ c,j8[(φ nm).off+q*1+j]?=some c/\aB m (l.eraseIdx i++[zI])[q].cells[j] c:=by
  intro q j h h'
  have hq:q<l.length:=by rw[<-hL];exact h
  have hj:j<1:=by rw[<-pT q h];exact h'
  rw[k6 _ (by rw[k2];omega),k3 _ (by omega)]
  simp only[List.length_replicate,List.length_drop,dP]
  rcases FI fD h with⟨h1,h2,e⟩ | ⟨h1,h2,e⟩ | ⟨h1,e⟩
  ·simp only[e]at h' |-
   rw[if_neg (by omega),if_neg (by omega)]
   exact⟨_,mu q j h2 hj,bV q j h2 h'⟩
  ·simp only[e]at h' |-
   rw[if_neg (by omega),if_pos (by omega),List.getElem?_drop,show (i+1)*1+((φ nm).off+q*1+j-((φ nm).off+i*1))=(q+1)*1+j by omega]
   exact⟨_,kH c1 h2 hj,bV (q+1) j h2 h'⟩
  ·simp only[e]at h' |-
   rw[if_pos (by omega)]
   refine⟨.int .i64 0,by rw[List.getElem?_replicate,if_pos (by omega)],?_⟩
   have hz:zI.cells[j]=.int .i64 0:=by
    have :zI.cells=List.replicate 1 (.int .i64 0):=rfl
    simp only[this,List.getElem_replicate]
   rw[hz]
   exact .int _ _
 have hx:=Ext.same (φ:=φ) (o':=.arr 1 (l.eraseIdx i++[zI])) al (by simp only[O.len?,hL]) rfl
 have fP:=hC.chg (w':=bp w.drew (φ nm).blk (.cells j8 T' f)) nm (.arr 1 (l.eraseIdx i++[zI])) (φ nm) hx ⟨rfl,rfl,rfl,by rw[Bs];exact Nat.le_refl _⟩
  (fun b' da hn=>by
    rw[lp (by rcases hn with h | h; · rw[g0]at h;cases h
              ·exact h)]
    rfl) (fun _=>.inr ⟨oK,rfl⟩)
  (.inr ⟨g0,by rw[hL];exact g1,g2,pT,uo,j8,T',f,jy iD,g6,by rw[k5,k2];exact g7,kT⟩)
 rw[fa]at fP hx
 obtain⟨m',q1,q2,q3⟩:=fP.frz1 nm (.arr 1 (l.eraseIdx i++[zI])) (.farr 1 (l.eraseIdx i++[zI])) (aG _ _ _) rfl g0 j8 T' f (jy iD) rfl rfl rfl
  (fun m' hle jM=>.inr ⟨g0,⟨by rw[hL];exact g1,by rw[hL];exact Nat.le_trans g1 g2⟩,pT,uo,fun i j a b=>let ⟨c,x,y⟩:=kT i j a b;⟨c,jM _ _ x,y.mono hle⟩⟩)
 simp only[s9]at q2
 have lA:Ext φ φ σ.obj (upd σ.obj nm (some (.farr 1 (l.eraseIdx i++[zI])))):=by
  have :=Ext.same (φ:=φ) (o':=.farr 1 (l.eraseIdx i++[zI])) al (by simp only[O.len?,hL]) rfl
  rwa [fa]at this
 refine⟨_,φ,m',rfl,q2,.v _ _ ?_,lA⟩
 have jn:(l.eraseIdx i).length=l.length-1:=List.length_eraseIdx_of_lt fD
 rw[<-jn]
 by_cases LX:l.eraseIdx i=[]
 ·rw[LX];exact .slnil _ _
 ·have fE:∀ q (h:q<(l.eraseIdx i).length),(l.eraseIdx i++[zI])[q]'(by rw[List.length_append];omega)=(l.eraseIdx i)[q]:=fun q h=>List.getElem_append_left h
  refine .sl _ _ _ _ 1 (fun q j=>(j8[(φ nm).off+q*1+j]?).getD undef) LX (by rw[jn];omega) (by rw[jn];omega) (fun q h=>?_) (fun q j h hj=>?_) (fun q j h hj=>?_) (fun q h=>?_)
  ·rw[<-fE q h];exact pT _ _
  ·obtain⟨c,x,y⟩:=kT q j (by rw[List.length_append];omega) (by rw[pT];exact hj)
   rw[x];exact q3 _ _ x
  ·have hg:=fE q h
   simp only[<-hg]at hj |-
   obtain⟨c,x,y⟩:=kT q j (by rw[List.length_append];omega) hj
   rw[x];exact y.mono q1
  ·rw[<-fE q h];exact uo _ _
end Go.Eng
set_option linter.unusedVariables false
namespace Go.Eng
open Go Go.Proofs
def xp:Nat->Nat->List Nat->List Nat
 | 0,_,acc=>acc
 |f+1,n,acc=>cond (Nat.blt n 10) ((48+n)::acc) (xp f (n / 10) ((48+n % 10)::acc))
theorem NO:∀ (f n:Nat) (acc:List Nat),n<10 ^ (f+1)->xp (f+1) n acc=(Lib.decDigits n).map UInt8.toNat++acc
 |f,n,acc,h=>by
  unfold xp
  by_cases h9:n<10
  ·have hb:Nat.blt n 10=true:=by simpa[Nat.blt_eq]using h9
   have :(UInt8.ofNat (48+n)).toNat=48+n:=UInt8.toNat_ofNat_of_lt' (by show 48+n<256;omega)
   rw[hb,Lib.decDigits_one h9,List.map_cons,List.map_nil,this]
   rfl
  ·have hb:Nat.blt n 10=false:=by
     cases hh:Nat.blt n 10 with
     |false=>rfl
     |true=>exact absurd (by simpa[Nat.blt_eq]using hh) h9
   have hm:n % 10<10:=Nat.mod_lt _ (by omega)
   have :(UInt8.ofNat (48+n % 10)).toNat=48+n % 10:=UInt8.toNat_ofNat_of_lt' (by show 48+n % 10<256;omega)
   rw[hb,NN (by omega),cond_false]
   match f,h with
   | 0,h=>exact absurd h (by simpa using h9)
   |g+1,h=>
    rw[NO g (n / 10) _ (by rw[Nat.pow_succ]at h;omega),List.map_append,List.map_cons,List.map_nil,this,List.append_assoc]
    rfl
def nq(w:List Nat)(l:List Int):List Nat:=w++(l.flatMap (fun n=>32::xp 8 n.toNat [])++[10])
def mY(i:Nat)(l:List Par):List Nat:=l.flatMap fun p=>nq [117,110,100,101,114] [(i:Int),p.no,p.pa]
def xX(s:Stk):List Nat:=
 nq [104,111,108,100,115] s.ho++(mY 0 s.un.a++(mY 1 s.un.b++(mY 2 s.un.c++(mY 3 s.un.d++(mY 4 s.un.e++(mY 5 s.un.f++(nq [115,101,110,116] [s.se.a,s.se.b,s.se.c,s.se.d,s.se.e,s.se.f]++nq [116,97,107,101,110] [s.ta.a,s.ta.b,s.ta.c,s.ta.d,s.ta.e,s.ta.f])))))))
def bN(b:ByteArray):List Nat:=b.data.toList.map UInt8.toNat
theorem Gm(a b:ByteArray):bN (a++b)=bN a++bN b:=by
 unfold bN
 rw[<-List.map_append]
 congr 1
 all_goals simp
theorem ach(l:List UInt8):bN (ed l)=l.map UInt8.toNat:=by simp[bN,ed]
theorem Na:∀ {l:List Int},(∀ n∈l,bR n)->(l.flatMap (fun n=>32::Lib.itoa n)).map UInt8.toNat=l.flatMap (fun n=>32::xp 8 n.toNat [])
 |[],_=>rfl
 |n::r,h=>by
  obtain⟨h0,h1⟩:=h n (by simp)
  rw[List.flatMap_cons,List.flatMap_cons,List.map_append,Na fun m hm=>h m (by simp[hm]),List.map_cons,Db h0,NO 7 n.toNat [] (by show n.toNat<100000000;omega),List.append_nil]
  rfl
theorem y9{w:List UInt8}{l:List Int}(h:∀ n∈l,bR n):bN (dF (ed w) l)=nq (w.map UInt8.toNat) l:=by
 have e:(ed w).data.toList=w:=by simp[ed]
 rw[UW,ach]
 unfold nq pJ kf
 rw[List.take_length,List.map_append,List.map_append,List.append_assoc,Na h,e]
 rfl
theorem G8{a:ByteArray}{i:Nat}(hi:i<6){l:List Par}(h:∀ p∈l,bR p.no/\bR p.pa):∀ k,k<=l.length->bN (gO a i l k)=bN a++mY i (l.take k)
 | 0,_=>by simp[gO,mY]
 |k+1,hk=>by
  have gE:k<l.length:=by omega
  have hq:=h _ (List.getElem_mem gE)
  have ht:l.take (k+1)=l.take k++[l[k]]:=by rw[List.take_add_one,List.getElem?_eq_getElem gE];rfl
  rw[gO,Gm,G8 hi h k (by omega),jS gE,ht]
  have :bN (dF kF [(i:Int),l[k].no,l[k].pa])=nq [117,110,100,101,114] [(i:Int),l[k].no,l[k].pa]:=y9 (w:=[117,110,100,101,114]) (yN hi hq)
  rw[this]
  unfold mY
  rw[List.flatMap_append,List.flatMap_cons,List.flatMap_nil,List.append_nil,List.append_assoc]
theorem tN{s:Stk}(hs:eL s){i:Nat}(hi:i<6):bN (eC s (i+1))=bN (eC s i)++mY i (s.un.get i):=by
 have :=G8 (a:=eC s i) hi (hs.un i hi) _ (Nat.le_refl _)
 rw[List.take_length]at this
 exact this
theorem Hd{s:Stk}(hs:eL s):bN (cY s)=xX s:=by
 unfold cY xX
 have h0:bN (eC s 0)=nq [104,111,108,100,115] s.ho:=y9 (w:=[104,111,108,100,115]) hs.ho
 have h7:bN (dF lr (s.se.L id))=nq [115,101,110,116] [s.se.a,s.se.b,s.se.c,s.se.d,s.se.e,s.se.f]:=y9 (w:=[115,101,110,116]) (pv hs.se)
 have h8:bN (dF mW (s.ta.L id))=nq [116,97,107,101,110] [s.ta.a,s.ta.b,s.ta.c,s.ta.d,s.ta.e,s.ta.f]:=y9 (w:=[116,97,107,101,110]) (pv hs.ta)
 rw[Gm,Gm,h7,h8,tN hs (show 5<6 by omega),tN hs (show 4<6 by omega),tN hs (show 3<6 by omega),tN hs (show 2<6 by omega),tN hs (show 1<6 by omega),tN hs (show 0<6 by omega),h0]
 simp only[List.append_assoc]
 rfl
def yd(o c:Nat):Nat:=(257*o+c+1) % 1000003
def BH(s:Stk)(n:Int):Nat:=(xX s).foldl yd (n.toNat % 1000003)
theorem Q8(a:Nat):((a:Int)).tmod 1000003=((a % 1000003:Nat):Int):=rfl
theorem Hk(b:ByteArray)(n:Nat):∀ i,i<=b.size->iq b n i=(((bN b).take i).foldl yd (n % 1000003):Nat)
 | 0,_=>by rw[List.take_zero];rfl
 |i+1,h=>by
  have hl:(bN b).length=b.size:=by simp[bN]
  have hi:i<(bN b).length:=by omega
  have hd:i<b.data.size:=h
  have hc:lf b i=(bN b)[i]:=by
   have e1:(bN b)[i]=(b.data[i]).toNat:=by simp[bN]
   have e2:b.data.getD i 0=b.data[i]:=by
    unfold Array.getD
    rw[dif_pos hd]
    rfl
   rw[e1,<-e2]
   rfl
  rw[iq,Hk b n i (by omega),List.take_add_one,List.getElem?_eq_getElem hi,List.foldl_append,hc]
  have :(257*((((bN b).take i).foldl yd (n % 1000003):Nat):Int)+((bN b)[i]:Nat)+1)=((257*(((bN b).take i).foldl yd (n % 1000003))+(bN b)[i]+1:Nat):Int):=by simp
  rw[this,Q8]
  rfl
theorem Rw{s:Stk}{n:Int}(hs:eL s)(hn:bR n):dL s n=(BH s n:Nat):=by
 obtain⟨N,rfl⟩:∃ N:Nat,n=N:=⟨n.toNat,by have:=hn.1;omega⟩
 unfold dL BH
 have hl:(bN (cY s)).length=(cY s).size:=by simp[bN]
 rw[Hk _ _ _ (Nat.le_refl _),<-hl,List.take_length,Hd hs,Int.toNat_natCast]
def qY:Option O->Option (List V)
 |some (.arr _ l)=>some l
 |some (.farr _ l)=>some l
 |_=>none
def Cc(obj:Name->Option O):D->Option V
 | .v x=>some x
 | .nilsl=>some (.sl [])
 | .msl nm k=>match qY (obj nm)with
   |some l=>cond (Nat.beq k l.length) (some (.sl l)) none
   |none=>none
 |_=>none
def vD(obj:Name->Option O):List D->Option (List V)
 |[]=>some []
 |d::r=>match Cc obj d with
  |some x=>match vD obj r with
   |some xs=>some (x::xs)
   |none=>none
  |none=>none
def Bn(obj obj2:Name->Option O):Prop:=∀ nm,qY (obj2 nm)=qY (obj nm)
theorem TI(n:Nat){obj obj2:Name->Option O}(h:Bn obj obj2){d:D}{x:V}(hx:Cc obj d=some x):
 (au (n+1) obj2 d).ok/\(au (n+1) obj2 d).x=x/\Bn obj (au (n+1) obj2 d).obj:=by
 cases d with
 |v y=>cases hx;exact⟨trivial,rfl,h⟩
 |nilsl=>cases hx;exact⟨trivial,rfl,h⟩
 |msl nm k=>
  have al:=h nm
  unfold Cc at hx
  cases ho:obj2 nm with
  |none=>
   rw[ho]at al
   have h0:qY (obj nm)=none:=al.symm
   simp only[h0]at hx
   cases hx
  |some o=>
   rw[ho]at al
   cases o with
   |arr sz l=>
    have h0:qY (obj nm)=some l:=al.symm
    simp only[h0]at hx
    cases hb:Nat.beq k l.length with
    |false=>rw[hb]at hx;cases hx
    |true=>
     rw[hb]at hx
     cases hx
     have hk:=Nat.eq_of_beq_eq_true hb
     simp only[au,ho]
     refine⟨hk,trivial,fun y=>?_⟩
     by_cases hy:y=nm
     ·subst hy
      rw[aG]
      exact h0.symm
     ·rw[aK _ _ _ hy]
      exact h y
   |farr sz l=>
    have h0:qY (obj nm)=some l:=al.symm
    simp only[h0]at hx
    cases hb:Nat.beq k l.length with
    |false=>rw[hb]at hx;cases hx
    |true=>
     rw[hb]at hx
     cases hx
     simp only[au,ho]
     exact⟨Nat.eq_of_beq_eq_true hb,trivial,h⟩
   |_=>
    have h0:qY (obj nm)=none:=al.symm
    simp only[h0]at hx
    cases hx
 |_=>cases hx
theorem If(n:Nat){obj:Name->Option O}:∀ {ds:List D} {xs:List V} {obj2:Name->Option O},Bn obj obj2->vD obj ds=some xs->
 (aJ (au (n+1)) obj2 ds).ok/\(aJ (au (n+1)) obj2 ds).xs=xs/\Bn obj (aJ (au (n+1)) obj2 ds).obj
 |[],xs,obj2,h,hx=>by cases hx;exact⟨trivial,rfl,h⟩
 |d::r,xs,obj2,h,hx=>by
  unfold vD at hx
  split at hx
  ·rename_i x hd
   split at hx
   ·rename_i ys hr
    cases hx
    obtain⟨a1,a2,a3⟩:=TI n h hd
    obtain⟨b1,b2,b3⟩:=If n a3 hr
    exact⟨⟨a1,b1⟩,by simp only[aJ,a2,b2],b3⟩
   ·cases hx
  ·cases hx
def B'(obj:Name->Option O):D->Option (List V)
 | .agg l=>vD obj l
 | .v (.agg l)=>some l
 |_=>none
theorem Ie{obj:Name->Option O}{d:D}{L:List V}(h:B' obj d=some L):(au 6 obj d).ok/\(au 6 obj d).x=.agg L:=by
 cases d with
 |agg l=>
  obtain⟨a1,a2,_⟩:=If 4 (fun _=>rfl) (show vD obj l=some L from h)
  exact⟨a1,by simp only[au]at *;exact congrArg V.agg a2⟩
 |v y=>
  cases y with
  |agg l=>cases h;exact⟨trivial,rfl⟩
  |_=>cases h
 |_=>cases h
def n9(n:Int):Bool:=decide (0<=n)&&decide (n<=1000000)
theorem rv{n:Int}(h:n9 n=true):bR n:=by
 unfold n9 at h
 simp only[Bool.and_eq_true,decide_eq_true_eq]at h
 exact h
def vw{α:Type}(s:aS α)(f:α->Bool):Bool:=f s.a&&(f s.b&&(f s.c&&(f s.d&&(f s.e&&f s.f))))
theorem BT{α:Type}{s:aS α}{f:α->Bool}(h:vw s f=true):∀ i,i<6->f (s.get i)=true:=by
 unfold vw at h
 simp only[Bool.and_eq_true]at h
 obtain⟨h0,h1,h2,h3,h4,h5⟩:=h
 intro i hi
 match i,hi with
 | 0,_=>exact h0
 | 1,_=>exact h1
 | 2,_=>exact h2
 | 3,_=>exact h3
 | 4,_=>exact h4
 | 5,_=>exact h5
def tO(s:Stk):Bool:=Nat.ble s.ho.length 40&&(s.ho.all n9&&(vw s.un (fun l=>Nat.ble l.length 40&&l.all fun p=>n9 p.no&&n9 p.pa)&&(vw s.se n9&&vw s.ta n9)))
theorem yL{s:Stk}(h:tO s=true):eL s:=by
 unfold tO at h
 simp only[Bool.and_eq_true]at h
 obtain⟨h1,h2,h3,h4,h5⟩:=h
 have uL:=BT h3
 refine⟨Nat.le_of_ble_eq_true h1,fun n hn=>rv (List.all_eq_true.1 h2 n hn),fun i hi=>?_,fun i hi p hp=>?_,fun i hi=>rv (BT h4 i hi),fun i hi=>rv (BT h5 i hi)⟩
 ·have:=uL i hi
  simp only[Bool.and_eq_true]at this
  exact Nat.le_of_ble_eq_true this.1
 ·have:=uL i hi
  simp only[Bool.and_eq_true]at this
  have :=List.all_eq_true.1 this.2 p hp
  simp only[Bool.and_eq_true]at this
  exact⟨rv this.1,rv this.2⟩
noncomputable def Rx:SpecB where
 spec:=P60.toSpec
 run obj t ds:=match ds with
  |[d,.v (.int .i64 n)]=>match B' obj d with
   |some L=>cond (tO (fx L)&&(n9 n&&fS 6 (.agg (aC (fx L))) (.agg L))) (some ⟨.v (.int .i64 (BH (fx L) n:Nat)),dJ (fp 6 obj) ds,[],fun t=>t⟩) none
   |none=>none
  |_=>none
 ok:=by
  intro obj t ds r hr
  split at hr
  ·rename_i d n
   split at hr
   ·rename_i L hL
    cases hb:(tO (fx L)&&(n9 n&&fS 6 (.agg (aC (fx L))) (.agg L)))with
    |false=>rw[hb]at hr;cases hr
    |true=>
     rw[hb]at hr
     cases hr
     simp only[Bool.and_eq_true]at hb
     obtain⟨h1,h2,h3⟩:=hb
     replace h3:aC (fx L)=L:=V.agg.inj (qN 6 h3)
     obtain⟨a1,a2⟩:=Ie hL
     have we:(aJ (au 6) obj [d,.v (.int .i64 n)]).xs=[.agg L,.int .i64 n]:=by
      show [(au 6 obj d).x,(au 6 (au 6 obj d).obj (.v (.int .i64 n))).x]=_
      rw[a2];rfl
     have aa:(aJ (au 6) obj [d,.v (.int .i64 n)]).ok:=⟨a1,trivial,trivial⟩
     have cL:P60.pre [.agg L,.int .i64 n]:=⟨congrArg V.agg h3,rfl,yL h1,rv h2⟩
     have dW:P60.fn [.agg L,.int .i64 n]=vInt (dL (fx L) n):=rfl
     refine⟨?_,?_,rfl,rfl,fun tbl h=>h⟩
     ·show _/\P60.pre _
      rw[we]
      exact⟨aa,cL⟩
     ·show D.v (P60.fn _)=_
      rw[we,dW,Rw (yL h1) (rv h2)]
   ·cases hr
  ·cases hr
theorem Rz{b:ByteArray}{l:List Nat}(h:bN b=l):(⟨(l.map UInt8.ofNat).toArray⟩:ByteArray)=b:=by
 subst h
 apply ByteArray.ext
 unfold bN
 rw[List.map_map]
 have :(UInt8.ofNat∘UInt8.toNat)=id:=by funext x;simp
 rw[this,List.map_id]
noncomputable def Rc:SpecB where
 spec:=P91.toSpec
 run obj t ds:=match ds with
  |[d]=>match B' obj d with
   |some L=>cond (tO (fx L)&&fS 6 (.agg (aC (fx L))) (.agg L)) (some ⟨.v (.str ⟨((xX (fx L)).map UInt8.ofNat).toArray⟩),dJ (fp 6 obj) ds,[],fun t=>t⟩) none
   |none=>none
  |_=>none
 ok:=by
  intro obj t ds r hr
  split at hr
  ·rename_i d
   split at hr
   ·rename_i L hL
    cases hb:(tO (fx L)&&fS 6 (.agg (aC (fx L))) (.agg L))with
    |false=>rw[hb]at hr;cases hr
    |true=>
     rw[hb]at hr
     cases hr
     simp only[Bool.and_eq_true]at hb
     obtain⟨h1,h3⟩:=hb
     replace h3:aC (fx L)=L:=V.agg.inj (qN 6 h3)
     obtain⟨a1,a2⟩:=Ie hL
     have we:(aJ (au 6) obj [d]).xs=[.agg L]:=by
      show [(au 6 obj d).x]=_
      rw[a2]
     have aa:(aJ (au 6) obj [d]).ok:=⟨a1,trivial⟩
     have cL:P91.pre [.agg L]:=⟨congrArg V.agg h3,yL h1⟩
     have dW:P91.fn [.agg L]=.str (cY (fx L)):=rfl
     refine⟨?_,?_,rfl,rfl,fun tbl h=>h⟩
     ·show _/\P91.pre _
      rw[we]
      exact⟨aa,cL⟩
     ·show D.v (P91.fn _)=_
      rw[we,dW,Rz (Hd (yL h1))]
   ·cases hr
  ·cases hr
noncomputable def aa5:SpecB where
 spec:=S54
 run obj t ds:=match ds with
  |[.msl nm k,.v (.int .i64 i),.v (.int .i64 j)]=>match obj nm with
   |some (.arr sz l)=>cond (Nat.beq k l.length&&(Nat.beq sz 1&&(decide (0<=i)&&(decide (j=i+1)&&Nat.blt i.toNat l.length)))) (some ⟨.v (.sl (l.eraseIdx i.toNat)),[nm],[nm],fun t=>dO t nm (.farr sz (l.eraseIdx i.toNat++[zI]))⟩) none
   |_=>none
  |_=>none
 ok:=by
  intro obj t ds r hr
  split at hr
  ·rename_i nm k i j
   split at hr
   ·rename_i sz l ho
    cases hb:(Nat.beq k l.length&&(Nat.beq sz 1&&(decide (0<=i)&&(decide (j=i+1)&&Nat.blt i.toNat l.length))))with
    |false=>rw[hb]at hr;cases hr
    |true=>
     rw[hb]at hr
     cases hr
     simp only[Bool.and_eq_true,decide_eq_true_eq]at hb
     obtain⟨h1,h2,h3,h4,h5⟩:=hb
     have oX:i.toNat<l.length:=by simpa[Nat.blt_eq]using h5
     simp only[S54,xI,ho]
     refine⟨⟨Nat.eq_of_beq_eq_true h1,Nat.eq_of_beq_eq_true h2,h3,h4,oX⟩,trivial,rfl,rfl,fun tbl h=>?_⟩
     rw[np,h]
   ·cases hr
  ·cases hr
noncomputable def Ju(f:FuncId):Option SpecB:=
 match Nat.beq f 46 with
 |true=>some (Ol Tryd.prog 35)
 |false=>match Nat.beq f 36 with
  |true=>some (Ol Tryd.prog 34)
  |false=>match Nat.beq f 38 with
   |true=>some Rx
   |false=>match Nat.beq f 63 with
    |true=>some Rc
    |false=>match Nat.beq f 44 with
     |true=>some aa5
     |false=>none
noncomputable def C1(_:FuncId->Option SpecB)(f:FuncId):Option SpecB:=Ju f
theorem V4:∀ Γ:FuncId->Option SpecB,(∀ f s,aU Γ f=some s->an Tryd.prog f s)->∀ f s,C1 Γ f=some s->an Tryd.prog f s.spec:=by
 intro Γ _ f s h
 unfold C1 Ju at h
 split at h
 ·rename_i hb;have:=Nat.eq_of_beq_eq_true hb;subst this;cases h;exact AP F7
 ·split at h
  ·rename_i hb;have:=Nat.eq_of_beq_eq_true hb;subst this;cases h;exact AP F6
  ·split at h
   ·rename_i hb;have:=Nat.eq_of_beq_eq_true hb;subst this;cases h;exact zg
   ·split at h
    ·rename_i hb;have:=Nat.eq_of_beq_eq_true hb;subst this;cases h;exact HP.sound
    ·split at h
     ·rename_i hb;have:=Nat.eq_of_beq_eq_true hb;subst this;cases h;exact KW
     ·cases h
noncomputable def JC(F:List Nat)(T:List Ent):FuncId->Option SpecB:=ΓB Tryd.prog (Gj Tryd.prog C1 100000 F T) 100000 24
theorem V1{F:List Nat}{T:List Ent}(hT:∀ e∈T,aQ Tryd.prog e):∀ f s,aU (JC F T) f=some s->an Tryd.prog f s:=
 GP (acf (fun Γ h f s=>V4 Γ h f s) hT) 24
theorem cV{F:List Nat}{T:List Ent}(hT:∀ e∈T,aQ Tryd.prog e){e:Ent}(h:B4 Tryd.prog (JC F T) 100000 e=true):aQ Tryd.prog e:=Tz (V1 hT) h
theorem c7{P:Program}{e:Ent}{T:List Ent}(h:aQ P e)(hT:∀ e∈T,aQ P e):∀ x∈e::T,aQ P x:=by
 intro x hx
 rcases List.mem_cons.1 hx with rfl | hx
 ·exact h
 ·exact hT x hx
def Ka:List Ent:=[]
theorem KJ:∀ e∈Ka,aQ Tryd.prog e:=fun e h=>by cases h
end Go.Eng
