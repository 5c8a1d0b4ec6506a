import Derived.Test.YtckmfkgppohnmaaDoorK15
import GoSem.ClaimChange
import Derived.DataReads
import Derived.ChangeReads
import Derived.ProofKit
import Derived.Carry
import Derived.Lib.LaidTab
import Derived.LaidMore
import Derived.Stop.LaidErr
import Derived.Stop.Joined
import Derived.OpenShut
import Derived.Test.YtckmfkgppohnmaaDoorRows
import Derived.Test.YtckmfkgppohnmaaDoorChecked
import Derived.MakeChecks
import Derived.SevenTiedAt
import Derived.Test.YtckmfkgppohnmaaDoorCards
import Derived.Test.YtckmfkgppohnmaaDoorTie
/- Where, Carried and Quiet agree with the reference, for all lists of desks and papers, valid or not; no conditions. -/
set_option linter.all false
namespace Go.Eng
open Go Go.Proofs
set_option maxRecDepth 100000
theorem ael(d:Dk){k:Nat}(hk:k<6):List.take 1 (List.drop (14+k) (aq d))=[vInt (d.now.ta.get k)]:=by
 match k,hk with
 | 0,_ | 1,_ | 2,_ | 3,_ | 4,_ | 5,_=>rfl
theorem aek(d:Dk){k:Nat}(hk:k<6):List.take 1 (List.drop (2+k) (aq d))=[rowP (d.now.un.get k)]:=by
 match k,hk with
 | 0,_ | 1,_ | 2,_ | 3,_ | 4,_ | 5,_=>rfl
theorem ib{l:List Par}{i:Nat}(h:i<l.length):(l.map encPa).getD i default=.agg [vInt l[i].no,vInt l[i].pa]:=by
 rw[aH h];rfl
noncomputable def P558:PSpec:=p3 dU iI iI (fun _ _ f=>0<=f/\f<6) (fun l k f=>vInt (qV l k f.toNat)) true
noncomputable def S558:Spec:=P558.toSpec
attribute [go_sem] P558 S558
set_option maxHeartbeats 4000000 in
theorem Py:aR Tryd.prog 58 P558:=by
 refine w3 (rs:=[.tmp 6]) Tryd.func58 Tryd.ntmps58 (by rfl) (by kernel_rfl) (by decide) (fun _ _ _ _=>rfl) ⟨_,rfl,lb rfl,fun l x f hp hw=>?_⟩
 have hP:=bc
 simp only[dU,iI]at hw |-
 have hΓ:=@ig Tryd.prog
 have hl:l.length<=maxLen:=by have:=hw.1.1;simpa using this
 obtain⟨f0,f6⟩:=(show 0<=f/\f<6 from hp)
 have hf:f.toNat<6:=by omega
 repeat refine sq ?_
 refine rx hΓ [0,1,2] [] (fun K' hK=>by simp only[go_sem];(repeat (refine⟨ah,?_⟩));exact hK _ (by simp only[go_sem]) (by simp only[go_sem]<;>rfl)) ?_
 repeat refine sq ?_
 refine rx hΓ [0,1,2,7] [] (fun K' hK=>by simp only[go_sem];(repeat (refine⟨ah,?_⟩));exact hK _ (by simp only[go_sem]) (by simp only[go_sem]<;>rfl)) ?_
 repeat refine sq ?_
 refine aJ ?_
 repeat refine sq ?_
 refine bR (fun z:Nat=>[(7,⟨true,.v (vInt z)⟩)]) (fun z=>[]) (fun z=>z<=l.length/\∀ k (h:k<l.length),k<z->gP x l[k]=false) (fun z=>l.length-z) 0 ?_ ?_ ?_ ?_
 ·exact⟨Nat.zero_le _,fun k h hk=>absurd hk (by omega)⟩
 ·rfl
 ·rfl
 rintro i ⟨hi,hR⟩
 simp only[go_sem]
 repeat refine sq ?_
 refine rx hΓ [0,1,2,7,11] [] (fun K' hK=>by simp only[go_sem];(repeat (refine⟨ah,?_⟩));exact hK _ (by simp only[go_sem]) (by simp only[go_sem]<;>rfl)) ?_
 repeat refine sq ?_
 refine ax rfl rfl (fun hb=>?_) (fun hb=>?_)
 ·have ae:i<l.length:=by simpa using hb
  have ai:(i:Int)<l.length:=by omega
  clear hb
  repeat refine sq ?_
  refine aC ?_
  repeat refine sq ?_
  refine aJ ?_
  repeat refine sq ?_
  refine rx hΓ [0,1,2,7,20] [] (fun K' hK=>by simp only[go_sem,bh ae,Int.toNat_natCast,Int.natCast_nonneg,ai,List.length_map,bh ae,Int.toNat_natCast,Int.natCast_nonneg,ai,List.length_map];(repeat (refine⟨ah,?_⟩));exact hK _ (by simp only[go_sem]) (by simp only[go_sem]<;>rfl)) ?_
  repeat refine sq ?_
  refine ax rfl rfl (fun hb=>?_) (fun hb=>?_)
  ·repeat refine sq ?_
   refine rx hΓ [6] [] (fun K' hK=>by simp only[go_sem,bh ae,Int.toNat_natCast,Int.natCast_nonneg,ai,List.length_map,bh ae,qI _ vInt hf,vx _ hf,f0,f6,Nat.reduceAdd,Int.toNat_natCast,Int.natCast_nonneg,ai,List.length_map];(repeat (refine⟨ah,?_⟩));exact hK _ (by simp only[go_sem]) (by simp only[go_sem]<;>rfl)) ?_
   refine av ?_
   simp only[go_sem]
   rw[Eg (xa (p:=gP x) ae hb hR) ae]
  ·repeat refine sq ?_
   refine aC ?_
   refine cX ?_
   simp only[go_sem]
   refine kp [0,1,2,7] [] ?_
   repeat refine sq ?_
   refine aQ hΓ fun K' hK=>?_
   simp only[go_sem,bh ae,Int.toNat_natCast,Int.natCast_nonneg,ai,List.length_map]
   repeat (refine⟨ah,?_⟩)
   refine hK _ ?_
   clear K' hK
   simp only[go_sem]
   refine⟨i+1,⟨ae,?_⟩,by(show l.length-(i+1)<l.length-i;omega),?_⟩
   ·intro k hk jH
    rcases Nat.lt_succ_iff_lt_or_eq.1 jH with h5 | rfl
    ·exact hR k hk h5
    ·exact hb
   refine bd [0,1,2,7] [] ?_ ?_
   ·simp only[go_sem,aA ae hl,Int.natCast_add,Int.natCast_one]
   ·simp only[go_sem,aA ae hl,Int.natCast_add,Int.natCast_one]
 ·have aV:i=l.length:=by
   have :¬ (i:Int)<l.length:=by simpa using hb
   omega
  clear hb
  subst aV
  repeat refine sq ?_
  refine bK ?_
  simp only[go_sem]
  refine kp [] [] ?_
  repeat refine sq ?_
  refine rx hΓ [6] [] (fun K' hK=>by simp only[go_sem];(repeat (refine⟨ah,?_⟩));exact hK _ (by simp only[go_sem]) (by simp only[go_sem]<;>rfl)) ?_
  refine av ?_
  simp only[go_sem]
  rw[Eh (by rw[w9 (p:=gP x) fun k hk=>hR k hk hk];decide)]
theorem Tu:ak Tryd.prog 58 S558:=Py.sound
noncomputable def DU:List (Nat×Spec):=[(54,S554),(58,S558)]
theorem Yy:∀ f s,tbl DU f=some s->ak Tryd.prog f s:=tc HZ<|tc Tu<|tn
attribute [go_sem] DU
noncomputable def P523:PSpec:=p2 dU iI (fun _ _=>True) (fun l p=>.tup [.sl ((yh l p).map jQ),vInt (eg l p)]) false
noncomputable def S523:Spec:=P523.toSpec
attribute [go_sem] P523 S523
set_option maxHeartbeats 16000000 in
theorem PD:aR Tryd.prog 23 P523:=by
 refine w2 (rs:=[.tmp 4,.tmp 5]) Tryd.func23 Tryd.ntmps23 (by rfl) (by kernel_rfl) (by decide) (fun h=>by cases h) ⟨_,rfl,lb rfl,fun l p hp hw=>?_⟩
 have hP:=bc
 simp only[dU,iI]at hw |-
 obtain⟨Γ,hΓ,Wa,V'⟩:∃ Γ:FuncId->Option Spec,(∀ f s,Γ f=some s->ak Tryd.prog f s)/\Γ 54=some S554/\Γ 58=some S558:=⟨tbl DU,Yy,rfl,rfl⟩
 have hl:l.length<=maxLen:=by have:=hw.1.1;simpa using this
 repeat refine sq ?_
 refine rx hΓ [0,1] [] (fun K' hK=>by simp only[go_sem];(repeat (refine⟨ah,?_⟩));exact hK _ (by simp only[go_sem]) (by simp only[go_sem]<;>rfl)) ?_
 repeat refine sq ?_
 refine rx hΓ [0,1,6] [] (fun K' hK=>by simp only[go_sem,Wa];(repeat (refine⟨ah,?_⟩));exact hK _ (by simp only[go_sem]) (by simp only[go_sem]<;>rfl)) ?_
 repeat refine sq ?_
 refine rx hΓ [0,1,6,16] [] (fun K' hK=>by simp only[go_sem];(repeat (refine⟨ah,?_⟩));exact hK _ (by simp only[go_sem]) (by simp only[go_sem]<;>rfl)) ?_
 repeat refine sq ?_
 refine ax rfl rfl (fun hb=>?_) (fun hb=>?_)
 ·repeat refine sq ?_
  have he:eg l p≠0:=by simpa using hb
  repeat refine sq ?_
  refine rx hΓ [4,5] [[74,0]] (fun K' hK=>by simp only[go_sem];(repeat (refine⟨ah,?_⟩));exact hK _ (by simp only[go_sem]) (by simp only[go_sem]<;>rfl)) ?_
  refine av ?_
  simp only[go_sem]
  first | (rw[oK he];done) | (rw[oK he];rfl) | (rw[oJ he,he];done) | (rw[oJ he,he];rfl)
 ·repeat refine sq ?_
  have he:eg l p=0:=by simpa using hb
  have ke:=(s9 he).1
  refine aC ?_
  repeat refine sq ?_
  refine rx hΓ [0,1,7] [[74,0]] (fun K' hK=>by simp only[go_sem];(repeat (refine⟨ah,?_⟩));exact hK _ (by simp only[go_sem]) (by simp only[go_sem]<;>rfl)) ?_
  refine bq (oY 7 [74,0] 2 (by simp only[go_sem]) (by simp only[go_sem]) [0,1,7] [[74,0]] ?_ rfl) ?_
  ·simp only[go_sem]
  simp only[go_sem]
  repeat refine sq ?_
  refine rx hΓ [0,1,7,8] [[74,0]] (fun K' hK=>by simp only[go_sem];(repeat (refine⟨ah,?_⟩));exact hK _ (by simp only[go_sem]) (by simp only[go_sem]<;>rfl)) ?_
  repeat refine sq ?_
  refine aJ ?_
  repeat refine sq ?_
  refine bR (fun z:Nat=>[(8,⟨true,.v (vInt z)⟩),(7,⟨true,.msl [74,0] (ed l p z).length⟩)]) (fun z=>[([74,0],.arr 2 ((ed l p z).map jQ))]) (fun z=>z<=l.length) (fun z=>l.length-z) 0 ?_ ?_ ?_ ?_
  ·exact Nat.zero_le _
  ·rfl
  ·rfl
  rintro i hi
  simp only[go_sem]
  repeat refine sq ?_
  refine rx hΓ [0,1,7,8,21] [[74,0]] (fun K' hK=>by simp only[go_sem];(repeat (refine⟨ah,?_⟩));exact hK _ (by simp only[go_sem]) (by simp only[go_sem]<;>rfl)) ?_
  repeat refine sq ?_
  refine ax rfl rfl (fun hb=>?_) (fun hb=>?_)
  ·have ae:i<l.length:=by simpa using hb
   have ai:(i:Int)<l.length:=by omega
   clear hb
   have aa:=(nv.1 ((oF ke).2 i ae)).1
   obtain⟨d,hd⟩:∃ d,d=l[i]:=⟨_,rfl⟩
   have b8:(l.map fM).getD i default=.agg (aq d):=by rw[hd];exact bh ae
   have hlen:∀ k z,k<6->(dL l p (ed l p i) d k z).length<=10000:=fun k z hk=>by rw[hd];exact KB ke ae hk
   have e0:ed l p i=dL l p (ed l p i) d 0 0:=(KE l p _ d).symm
   have e6:ed l p (i+1)=dL l p (ed l p i) d 6 0:=by rw[hd];exact KD ae
   rw[<-hd]at aa
   obtain⟨c,hc⟩:∃ c,c=ed l p i:=⟨_,rfl⟩
   rw[<-hc]at e0 e6 hlen |-
   rw[e0]
   have dn:=aa.m0
   have dm:=aa.m6
   repeat refine sq ?_
   refine aC ?_
   repeat refine sq ?_
   refine aJ ?_
   repeat refine sq ?_
   refine rx hΓ [0,1,7,8,9] [[74,0]] (fun K' hK=>by simp only[go_sem,b8,Int.toNat_natCast,Int.natCast_nonneg,ai,List.length_map];(repeat (refine⟨ah,?_⟩));exact hK _ (by simp only[go_sem]) (by simp only[go_sem]<;>rfl)) ?_
   repeat refine sq ?_
   refine aJ ?_
   repeat refine sq ?_
   refine bR (fun z:Nat=>[(9,⟨true,.v (vInt z)⟩),(7,⟨true,.msl [74,0] (dL l p c d z 0).length⟩)]) (fun z=>[([74,0],.arr 2 ((dL l p c d z 0).map jQ))]) (fun z=>z<=6) (fun z=>6-z) 0 ?_ ?_ ?_ ?_
   ·exact Nat.zero_le _
   ·rfl
   ·rfl
   rintro i1 hi
   simp only[go_sem]
   repeat refine sq ?_
   refine rx hΓ [0,1,7,8,9,25] [[74,0]] (fun K' hK=>by simp only[go_sem,b8,Int.toNat_natCast,Int.natCast_nonneg,ai,List.length_map];(repeat (refine⟨ah,?_⟩));exact hK _ (by simp only[go_sem]) (by simp only[go_sem]<;>rfl)) ?_
   repeat refine sq ?_
   refine ax rfl rfl (fun hb=>?_) (fun hb=>?_)
   ·have a8:i1<6:=by have hq:(i1:Int)<6:=(by simpa using hb);omega
    have bT:(i1:Int)<6:=by omega
    clear hb
    have tM:=(aa.un i1 a8).2
    have cR:(d.now.un.get i1).length<=maxLen:=by unfold maxLen;omega
    repeat refine sq ?_
    refine aC ?_
    repeat refine sq ?_
    refine aJ ?_
    repeat refine sq ?_
    refine rx hΓ [0,1,7,8,9,10] [[74,0]] (fun K' hK=>by simp only[go_sem,b8,Int.toNat_natCast,Int.natCast_nonneg,ai,List.length_map,Int.toNat_natCast,Int.natCast_nonneg,bT,b8,qI _ rowP a8,Nat.reduceAdd,Int.toNat_natCast,Int.natCast_nonneg,ai,bT,List.length_map];(repeat (refine⟨ah,?_⟩));exact hK _ (by simp only[go_sem]) (by simp only[go_sem]<;>rfl)) ?_
    repeat refine sq ?_
    refine rx hΓ [0,1,7,8,9,10,11] [[74,0]] (fun K' hK=>by simp only[go_sem,b8,Int.toNat_natCast,Int.natCast_nonneg,ai,List.length_map,Int.toNat_natCast,Int.natCast_nonneg,bT];(repeat (refine⟨ah,?_⟩));exact hK _ (by simp only[go_sem]) (by simp only[go_sem]<;>rfl)) ?_
    repeat refine sq ?_
    refine aJ ?_
    repeat refine sq ?_
    refine bR (fun z:Nat=>[(11,⟨true,.v (vInt z)⟩),(7,⟨true,.msl [74,0] (dL l p c d i1 z).length⟩)]) (fun z=>[([74,0],.arr 2 ((dL l p c d i1 z).map jQ))]) (fun z=>z<=(d.now.un.get i1).length) (fun z=>(d.now.un.get i1).length-z) 0 ?_ ?_ ?_ ?_
    ·exact Nat.zero_le _
    ·rfl
    ·rfl
    rintro i2 hi
    simp only[go_sem]
    repeat refine sq ?_
    refine rx hΓ [0,1,7,8,9,10,11,39] [[74,0]] (fun K' hK=>by simp only[go_sem,b8,Int.toNat_natCast,Int.natCast_nonneg,ai,List.length_map,Int.toNat_natCast,Int.natCast_nonneg,bT];(repeat (refine⟨ah,?_⟩));exact hK _ (by simp only[go_sem]) (by simp only[go_sem]<;>rfl)) ?_
    repeat refine sq ?_
    refine ax rfl rfl (fun hb=>?_) (fun hb=>?_)
    ·have bt:i2<(d.now.un.get i1).length:=by simpa using hb
     have fe:(i2:Int)<(d.now.un.get i1).length:=by omega
     clear hb
     have hz:=hlen i1 i2 a8
     have hq:l9 l p d i1 (d.now.un.get i1)[i2]=((d.now.un.get i1)[i2].pa==p&&decide ((d.now.un.get i1)[i2].no>qV l i1 d.me.toNat)):=rfl
     repeat refine sq ?_
     refine aC ?_
     repeat refine sq ?_
     refine aJ ?_
     repeat refine sq ?_
     refine dx hΓ hP [[],[],[0,1],[0,1,2],[0,1,2,3],[],[0,1,2,3,4,5],[0,1,2,3,4,5,6],[0,1,2,3,4,5,6,7],[0,1,2,3,4,5,6,7],[0,1,2,3,4,5,6,7,8,9],[0,1,2,3,4,5,6,7,8,9,10],[0,1,2,3,4,5,6,7,8,9,10,11],[0,1,2,3,4,5,6,7],[0,1,2,3,4,5,6,7],[0,1,2,3,4,5,6,7],[0,1,2,3,4,5,6,7],[0,1,2,3,4,5,6,7,15,16],[0,1,2,3,4,5,6,7,15,16,17],[0,1,2,3,4,5,6,7,15,16,17,18],[0,1,2,3,4,5,6,7,13,14,15,16,17,18,19],[0,1,2,3,4,5,6,7,8,9,10,11,12,13,14,15,16,17,18,19,20],[0,1,2,3,4,5,6,7,8,9,10,11,12,13,14,15,16,17,18,19,20,21]] [0,1,7,8,9,10,11,64] [[74,0]] (by kernel_rfl) (fun K' hK=>by simp only[go_sem,b8,Int.toNat_natCast,Int.natCast_nonneg,ai,List.length_map,Int.toNat_natCast,Int.natCast_nonneg,bT,ib bt,Int.toNat_natCast,Int.natCast_nonneg,fe,List.length_map,V',ib bt,b8,Int.toNat_natCast,Int.natCast_nonneg,ai,fe,List.length_map];(repeat (refine⟨by first | exact fun h=>⟨h,rfl,dn,dm⟩ | exact ah,?_⟩));(first | refine⟨by rfl,?_⟩ | skip);exact hK _ (by simp only[go_sem]) (by simp only[go_sem]<;>rfl)) ?_
     repeat refine sq ?_
     refine ax rfl rfl (fun hb=>?_) (fun hb=>?_)
     ·repeat refine sq ?_
      have e:=Dd c bt (hq.trans (by simpa using hb))
      repeat refine sq ?_
      refine aQ hΓ fun K' hK=>?_
      simp only[go_sem,b8,Int.toNat_natCast,Int.natCast_nonneg,ai,List.length_map,Int.toNat_natCast,Int.natCast_nonneg,bT,ib bt,Int.toNat_natCast,Int.natCast_nonneg,fe,List.length_map,b8,Int.toNat_natCast,Int.natCast_nonneg,ai,List.map_append,List.length_append,List.map_cons,List.map_nil,List.length_map,List.length_cons,List.length_nil]
      repeat (refine⟨by first | exact⟨rfl,by omega,by unfold maxLen;omega⟩ | exact ah,?_⟩)
      refine hK _ ?_
      clear K' hK
      simp only[go_sem]
      refine kp [0,1,7,8,9,10,11] [[74,0]] ?_
      repeat refine sq ?_
      refine aQ hΓ fun K' hK=>?_
      simp only[go_sem,b8,Int.toNat_natCast,Int.natCast_nonneg,ai,List.length_map,Int.toNat_natCast,Int.natCast_nonneg,bT,ib bt,Int.toNat_natCast,Int.natCast_nonneg,fe,List.length_map]
      repeat (refine⟨ah,?_⟩)
      refine hK _ ?_
      clear K' hK
      simp only[go_sem]
      refine⟨i2+1,bt,by(show (d.now.un.get i1).length-(i2+1)<(d.now.un.get i1).length-i2;omega),?_⟩
      refine bd [0,1,7,8,9,10,11] [[74,0]] ?_ ?_
      ·simp only[go_sem,aA bt cR,Int.natCast_add,Int.natCast_one,e,List.map_append,List.length_append,List.map_cons,List.map_nil,List.length_cons,List.length_nil]
      ·simp only[go_sem,aA bt cR,Int.natCast_add,Int.natCast_one,e,List.map_append,List.length_append,List.map_cons,List.map_nil,List.length_cons,List.length_nil]
     ·repeat refine sq ?_
      have e:=De c bt (hq.trans (by simpa using hb))
      refine aC ?_
      refine cX ?_
      simp only[go_sem]
      refine kp [0,1,7,8,9,10,11] [[74,0]] ?_
      repeat refine sq ?_
      refine aQ hΓ fun K' hK=>?_
      simp only[go_sem,b8,Int.toNat_natCast,Int.natCast_nonneg,ai,List.length_map,Int.toNat_natCast,Int.natCast_nonneg,bT,ib bt,Int.toNat_natCast,Int.natCast_nonneg,fe,List.length_map]
      repeat (refine⟨ah,?_⟩)
      refine hK _ ?_
      clear K' hK
      simp only[go_sem]
      refine⟨i2+1,bt,by(show (d.now.un.get i1).length-(i2+1)<(d.now.un.get i1).length-i2;omega),?_⟩
      refine bd [0,1,7,8,9,10,11] [[74,0]] ?_ ?_
      ·simp only[go_sem,aA bt cR,Int.natCast_add,Int.natCast_one,e,List.map_append,List.length_append,List.map_cons,List.map_nil,List.length_cons,List.length_nil]
      ·simp only[go_sem,aA bt cR,Int.natCast_add,Int.natCast_one,e,List.map_append,List.length_append,List.map_cons,List.map_nil,List.length_cons,List.length_nil]
    ·have uy:i2=(d.now.un.get i1).length:=by
      have :¬ (i2:Int)<(d.now.un.get i1).length:=by simpa using hb
      omega
     clear hb
     rw[uy,<-KC]
     repeat refine sq ?_
     refine bK ?_
     simp only[go_sem]
     refine kp [0,1,7,8,9] [[74,0]] ?_
     repeat refine sq ?_
     refine aQ hΓ fun K' hK=>?_
     simp only[go_sem,b8,Int.toNat_natCast,Int.natCast_nonneg,ai,List.length_map,Int.toNat_natCast,Int.natCast_nonneg,bT]
     repeat (refine⟨ah,?_⟩)
     refine hK _ ?_
     clear K' hK
     simp only[go_sem]
     refine⟨i1+1,a8,by(show 6-(i1+1)<6-i1;omega),?_⟩
     refine bd [0,1,7,8,9] [[74,0]] ?_ ?_
     ·simp only[go_sem,aA a8 (lb rfl:(6:Nat)<=maxLen),Int.natCast_add,Int.natCast_one,List.length_map]
     ·simp only[go_sem,aA a8 (lb rfl:(6:Nat)<=maxLen),Int.natCast_add,Int.natCast_one,List.length_map]
   ·have kU:i1=6:=by
     have :¬ (i1:Int)<6:=by simpa using hb
     omega
    clear hb
    rw[kU,<-e6]
    repeat refine sq ?_
    refine bK ?_
    simp only[go_sem]
    refine kp [0,1,7,8] [[74,0]] ?_
    repeat refine sq ?_
    refine aQ hΓ fun K' hK=>?_
    simp only[go_sem,b8,Int.toNat_natCast,Int.natCast_nonneg,ai,List.length_map]
    repeat (refine⟨ah,?_⟩)
    refine hK _ ?_
    clear K' hK
    simp only[go_sem]
    refine⟨i+1,ae,by(show l.length-(i+1)<l.length-i;omega),?_⟩
    refine bd [0,1,7,8] [[74,0]] ?_ ?_
    ·simp only[go_sem,aA ae hl,Int.natCast_add,Int.natCast_one,List.length_map]
    ·simp only[go_sem,aA ae hl,Int.natCast_add,Int.natCast_one,List.length_map]
  ·have aV:i=l.length:=by
    have :¬ (i:Int)<l.length:=by simpa using hb
    omega
   clear hb
   subst aV
   repeat refine sq ?_
   refine bK ?_
   simp only[go_sem]
   refine kp [7] [[74,0]] ?_
   repeat refine sq ?_
   refine rx hΓ [4,5] [[74,0]] (fun K' hK=>by simp only[go_sem];(repeat (refine⟨ah,?_⟩));exact hK _ (by simp only[go_sem]) (by simp only[go_sem]<;>rfl)) ?_
   refine av ?_
   simp only[go_sem]
   first | (rw[oK he];done) | (rw[oK he];rfl) | (rw[oJ he,he];done) | (rw[oJ he,he];rfl)
theorem Ty:ak Tryd.prog 23 S523:=PD.sound
theorem aem(d:Dk){k:Nat}(hk:k<6):(aq d).getD (14+k) default=vInt (d.now.ta.get k):=by
 match k,hk with
 | 0,_ | 1,_ | 2,_ | 3,_ | 4,_ | 5,_=>rfl
theorem adt(l:List (Int×Int)):∀ y∈l.map jQ,y.cells.length=2/\y.okc=true:=by
 intro y hy;obtain⟨x,_,rfl⟩:=List.mem_map.1 hy;exact⟨rfl,rfl⟩
noncomputable def Me:List (Nat×Spec):=[(52,S104),(56,S105)]
theorem Yz:∀ f s,tbl Me f=some s->ak Tryd.prog f s:=tc H9<|tc TJ<|tn
attribute [go_sem] Me
noncomputable def P69:PSpec:=p2 dU iI (fun _ _=>True) (fun l p=>.tup [.sl ((yh l p).map jQ),vInt (eg l p)]) false
noncomputable def S69:Spec:=P69.toSpec
attribute [go_sem] P69 S69
set_option maxHeartbeats 16000000 in
theorem Pq:aR Tryd.prog 22 P69:=by
 refine w2 (rs:=[.tmp 4,.tmp 5]) Tryd.func22 Tryd.ntmps22 (by rfl) (by kernel_rfl) (by decide) (fun h=>by cases h) ⟨_,rfl,lb rfl,fun l p hp hw=>?_⟩
 have hP:=bc
 simp only[dU,iI]at hw |-
 have hΓ:=Yz
 have hl:l.length<=maxLen:=by have:=hw.1.1;simpa using this
 repeat refine sq ?_
 refine rx hΓ [0,1] [] (fun K' hK=>by simp only[go_sem];(repeat (refine⟨ah,?_⟩));exact hK _ (by simp only[go_sem]) (by simp only[go_sem]<;>rfl)) ?_
 repeat refine sq ?_
 refine rx hΓ [0,1,6] [] (fun K' hK=>by simp only[go_sem];(repeat (refine⟨ah,?_⟩));exact hK _ (by simp only[go_sem]) (by simp only[go_sem]<;>rfl)) ?_
 repeat refine sq ?_
 refine rx hΓ [0,1,6,19] [] (fun K' hK=>by simp only[go_sem];(repeat (refine⟨ah,?_⟩));exact hK _ (by simp only[go_sem]) (by simp only[go_sem]<;>rfl)) ?_
 repeat refine sq ?_
 refine ax rfl rfl (fun hb=>?_) (fun hb=>?_)
 ·repeat refine sq ?_
  have he:eg l p≠0:=by simpa using hb
  repeat refine sq ?_
  refine rx hΓ [4,5] [[71,0]] (fun K' hK=>by simp only[go_sem];(repeat (refine⟨ah,?_⟩));exact hK _ (by simp only[go_sem]) (by simp only[go_sem]<;>rfl)) ?_
  refine av ?_
  simp only[go_sem]
  first | (rw[oK he];done) | (rw[oK he];rfl) | (rw[oJ he,he];done) | (rw[oJ he,he];rfl)
 ·repeat refine sq ?_
  have he:eg l p=0:=by simpa using hb
  have ke:=(s9 he).1
  refine aC ?_
  repeat refine sq ?_
  refine rx hΓ [0,1,7] [[71,0]] (fun K' hK=>by simp only[go_sem];(repeat (refine⟨ah,?_⟩));exact hK _ (by simp only[go_sem]) (by simp only[go_sem]<;>rfl)) ?_
  refine bq (oY 7 [71,0] 2 (by simp only[go_sem]) (by simp only[go_sem]) [0,1,7] [[71,0]] ?_ rfl) ?_
  ·simp only[go_sem]
  simp only[go_sem]
  repeat refine sq ?_
  refine rx hΓ [0,1,7,21,22,23] [[71,0]] (fun K' hK=>by simp only[go_sem];(repeat (refine⟨ah,?_⟩));exact hK _ (by simp only[go_sem]) (by simp only[go_sem]<;>rfl)) ?_
  repeat refine sq ?_
  refine aJ ?_
  repeat refine sq ?_
  refine bR (fun z:Nat=>[(23,⟨true,.v (vInt z)⟩),(7,⟨true,.msl [71,0] (ed l p z).length⟩)]) (fun z=>[([71,0],.arr 2 ((ed l p z).map jQ))]) (fun z=>z<=l.length) (fun z=>l.length-z) 0 ?_ ?_ ?_ ?_
  ·exact Nat.zero_le _
  ·rfl
  ·rfl
  rintro i hi
  simp only[go_sem]
  repeat refine sq ?_
  refine rx hΓ [0,1,7,21,22,23,24] [[71,0]] (fun K' hK=>by simp only[go_sem];(repeat (refine⟨ah,?_⟩));exact hK _ (by simp only[go_sem]) (by simp only[go_sem]<;>rfl)) ?_
  repeat refine sq ?_
  refine ax rfl rfl (fun hb=>?_) (fun hb=>?_)
  ·have ae:i<l.length:=by simpa using hb
   have ai:(i:Int)<l.length:=by omega
   clear hb
   have aa:=(nv.1 ((oF ke).2 i ae)).1
   obtain⟨d,hd⟩:∃ d,d=l[i]:=⟨_,rfl⟩
   have b8:(l.map fM).getD i default=.agg (aq d):=by rw[hd];exact bh ae
   have hlen:∀ k z,k<6->(dL l p (ed l p i) d k z).length<=10000:=fun k z hk=>by rw[hd];exact KB ke ae hk
   have e0:ed l p i=dL l p (ed l p i) d 0 0:=(KE l p _ d).symm
   have e6:ed l p (i+1)=dL l p (ed l p i) d 6 0:=by rw[hd];exact KD ae
   rw[<-hd]at aa
   obtain⟨c,hc⟩:∃ c,c=ed l p i:=⟨_,rfl⟩
   rw[<-hc]at e0 e6 hlen |-
   rw[e0]
   have dn:=aa.m0
   have dm:=aa.m6
   repeat refine sq ?_
   refine aC ?_
   repeat refine sq ?_
   refine aJ ?_
   repeat refine sq ?_
   refine rx hΓ [0,1,7,9,21,22,23] [[9,0],[71,0]] (fun K' hK=>by simp only[go_sem,b8,Int.toNat_natCast,Int.natCast_nonneg,ai,List.length_map,b8,Int.toNat_natCast,Int.natCast_nonneg,ai,List.length_map,List.append_nil];(repeat (refine⟨ah,?_⟩));exact hK _ (by simp only[go_sem]) (by simp only[go_sem]<;>rfl)) ?_
   refine bq (dd [9,0] (aq d) rfl [0,1,7,9,21,22,23] [[9,0],[71,0]] ?_ rfl) ?_
   ·simp only[go_sem]
   simp only[go_sem]
   repeat refine sq ?_
   refine rx hΓ [0,1,7,9,21,22,23,29,30] [[9,0],[71,0]] (fun K' hK=>by simp only[go_sem,b8,Int.toNat_natCast,Int.natCast_nonneg,ai,List.length_map,J'];(repeat (refine⟨ah,?_⟩));exact hK _ (by simp only[go_sem]) (by simp only[go_sem]<;>rfl)) ?_
   repeat refine sq ?_
   refine aJ ?_
   repeat refine sq ?_
   refine bR (fun z:Nat=>[(30,⟨true,.v (vInt z)⟩),(7,⟨true,.msl [71,0] (dL l p c d z 0).length⟩)]) (fun z=>[([71,0],.arr 2 ((dL l p c d z 0).map jQ))]) (fun z=>z<=6) (fun z=>6-z) 0 ?_ ?_ ?_ ?_
   ·exact Nat.zero_le _
   ·rfl
   ·rfl
   rintro i1 hi
   simp only[go_sem]
   repeat refine sq ?_
   refine rx hΓ [0,1,7,9,21,22,23,29,30,31] [[9,0],[71,0]] (fun K' hK=>by simp only[go_sem,b8,Int.toNat_natCast,Int.natCast_nonneg,ai,List.length_map];(repeat (refine⟨ah,?_⟩));exact hK _ (by simp only[go_sem]) (by simp only[go_sem]<;>rfl)) ?_
   repeat refine sq ?_
   refine ax rfl rfl (fun hb=>?_) (fun hb=>?_)
   ·have a8:i1<6:=by have hq:(i1:Int)<6:=(by simpa using hb);omega
    have bT:(i1:Int)<6:=by omega
    clear hb
    have tM:=(aa.un i1 a8).2
    have cR:(d.now.un.get i1).length<=maxLen:=by unfold maxLen;omega
    repeat refine sq ?_
    refine aC ?_
    repeat refine sq ?_
    refine aJ ?_
    repeat refine sq ?_
    refine rx hΓ [0,1,7,9,10,11,21,22,23,29,30] [[9,0],[10,0],[71,0]] (fun K' hK=>by simp only[go_sem,b8,Int.toNat_natCast,Int.natCast_nonneg,ai,List.length_map,Int.toNat_natCast,Int.natCast_nonneg,bT,bb.L_get d.now.un rowP default a8,Int.toNat_natCast,Int.natCast_nonneg,bT];(repeat (refine⟨ah,?_⟩));exact hK _ (by simp only[go_sem]) (by simp only[go_sem]<;>rfl)) ?_
    refine bq (dd [10,0] ([vInt (i1:Int)]) rfl [0,1,7,9,10,11,21,22,23,29,30] [[9,0],[10,0],[71,0]] ?_ rfl) ?_
    ·simp only[go_sem]
    simp only[go_sem]
    repeat refine sq ?_
    refine rx hΓ [0,1,7,9,10,11,12,21,22,23,29,30] [[9,0],[10,0],[71,0]] (fun K' hK=>by simp only[go_sem,b8,Int.toNat_natCast,Int.natCast_nonneg,ai,List.length_map,Int.toNat_natCast,Int.natCast_nonneg,bT];(repeat (refine⟨ah,?_⟩));exact hK _ (by simp only[go_sem]) (by simp only[go_sem]<;>rfl)) ?_
    repeat refine sq ?_
    refine rx hΓ [0,1,7,9,10,12,21,22,23,29,30,37,38,39] [[9,0],[10,0],[71,0]] (fun K' hK=>by simp only[go_sem,b8,Int.toNat_natCast,Int.natCast_nonneg,ai,List.length_map,Int.toNat_natCast,Int.natCast_nonneg,bT];(repeat (refine⟨ah,?_⟩));exact hK _ (by simp only[go_sem]) (by simp only[go_sem]<;>rfl)) ?_
    repeat refine sq ?_
    refine aJ ?_
    repeat refine sq ?_
    refine bR (fun z:Nat=>[(39,⟨true,.v (vInt z)⟩),(7,⟨true,.msl [71,0] (dL l p c d i1 z).length⟩)]) (fun z=>[([71,0],.arr 2 ((dL l p c d i1 z).map jQ))]) (fun z=>z<=(d.now.un.get i1).length) (fun z=>(d.now.un.get i1).length-z) 0 ?_ ?_ ?_ ?_
    ·exact Nat.zero_le _
    ·rfl
    ·rfl
    rintro i2 hi
    simp only[go_sem]
    repeat refine sq ?_
    refine rx hΓ [0,1,7,9,10,12,21,22,23,29,30,37,38,39,40] [[9,0],[10,0],[71,0]] (fun K' hK=>by simp only[go_sem,b8,Int.toNat_natCast,Int.natCast_nonneg,ai,List.length_map,Int.toNat_natCast,Int.natCast_nonneg,bT];(repeat (refine⟨ah,?_⟩));exact hK _ (by simp only[go_sem]) (by simp only[go_sem]<;>rfl)) ?_
    repeat refine sq ?_
    refine ax rfl rfl (fun hb=>?_) (fun hb=>?_)
    ·have bt:i2<(d.now.un.get i1).length:=by simpa using hb
     have fe:(i2:Int)<(d.now.un.get i1).length:=by omega
     clear hb
     have hz:=hlen i1 i2 a8
     repeat refine sq ?_
     refine aC ?_
     repeat refine sq ?_
     refine aJ ?_
     repeat refine sq ?_
     refine rx hΓ [0,1,7,9,10,12,14,21,22,23,29,30,37,38,39] [[9,0],[10,0],[14,0],[71,0]] (fun K' hK=>by simp only[go_sem,b8,Int.toNat_natCast,Int.natCast_nonneg,ai,List.length_map,Int.toNat_natCast,Int.natCast_nonneg,bT,ib bt,Int.toNat_natCast,Int.natCast_nonneg,fe,List.length_map,ib bt,Int.toNat_natCast,Int.natCast_nonneg,fe,List.length_map,List.append_nil];(repeat (refine⟨ah,?_⟩));exact hK _ (by simp only[go_sem]) (by simp only[go_sem]<;>rfl)) ?_
     rcases hj:decide (eH (gP (i1:Int)) l<0)with _ | _
     ·obtain⟨j,fX,jI⟩:=T9 (of_decide_eq_false hj)
      have oh:(j:Int)<(l.length:Int):=by omega
      have om:decide ((j:Int)<0)=false:=decide_eq_false (by omega)
      have hq:l9 l p d i1 (d.now.un.get i1)[i2]=((d.now.un.get i1)[i2].pa==p&&decide ((d.now.un.get i1)[i2].no>l[j].now.ta.get d.me.toNat)):=by unfold l9;rw[Eg fX jI]
      repeat refine sq ?_
      refine dx hΓ hP [[],[0],[],[0,1,2],[0,1,2,3],[0,1,2,3,4],[0,1,2,3,4,5],[0,1,2,3,4,5,6],[0,1,2,3,4,5,6,7],[0,1,2,3,4,5,6,7,8],[0,1,2,3,4,5,6,7],[0,1,2,3,4,5,6,7],[0,1,2,3,4,5,6,7],[0,1,2,3,4,5,6,7,12],[0,1,2,3,4,5,6,7,10,11],[0,1,2,3,4,5,6,7,10,11,14],[0,1,2,3,4,5,6,7,10,11,14,15],[0,1,2,3,4,5,6,7,10,11,12,13,14,15,16],[0,1,2,3,4,5,6,7,10,11,12,13,14,15,16,17],[0,1,2,3,4,5,6,7,8,9,10,11,12,13,14,15,16,17,18],[0,1,2,3,4,5,6,7,8,9,10,11,12,13,14,15,16,17,18,19],[0,1,2,3,4,5,6,7,8,9,10,11,12,13,14,15,16,17,18,19,20]] [0,1,7,9,10,12,21,22,23,29,30,37,38,39,64] [[9,0],[10,0],[71,0]] (by kernel_rfl) (fun K' hK=>by simp only[go_sem,b8,Int.toNat_natCast,Int.natCast_nonneg,ai,List.length_map,Int.toNat_natCast,Int.natCast_nonneg,bT,ib bt,Int.toNat_natCast,Int.natCast_nonneg,fe,List.length_map,fX,om,bh jI,qI _ vInt (show d.me.toNat<6 by omega),vx _ (show d.me.toNat<6 by omega),dn,dm,oh,Int.toNat_natCast,Int.natCast_nonneg,List.length_map];(repeat (refine⟨by first | exact fun h=>⟨h,by omega,by show d.me.toNat+1<=6;omega⟩ | exact fun h=>⟨h,h⟩ | exact ah,?_⟩));(first | refine⟨by rfl,?_⟩ | skip);exact hK _ (by simp only[go_sem]) (by simp only[go_sem]<;>rfl)) ?_
      repeat refine sq ?_
      refine ax rfl rfl (fun hb=>?_) (fun hb=>?_)
      ·repeat refine sq ?_
       have e:=Dd c bt (hq.trans (by simpa using hb))
       repeat refine sq ?_
       refine aQ hΓ fun K' hK=>?_
       simp only[go_sem,b8,Int.toNat_natCast,Int.natCast_nonneg,ai,List.length_map,Int.toNat_natCast,Int.natCast_nonneg,bT,ib bt,Int.toNat_natCast,Int.natCast_nonneg,fe,List.length_map,fX,om,bh jI,qI _ vInt (show d.me.toNat<6 by omega),vx _ (show d.me.toNat<6 by omega),dn,dm,oh,Int.toNat_natCast,Int.natCast_nonneg,List.length_map,List.map_append,List.length_append,List.map_cons,List.map_nil,List.length_cons,List.length_nil]
       repeat (refine⟨by first | exact⟨rfl,by omega,by unfold maxLen;omega⟩ | exact ah,?_⟩)
       refine hK _ ?_
       clear K' hK
       simp only[go_sem]
       refine kp [0,1,7,9,10,12,21,22,23,29,30,37,38,39] [[9,0],[10,0],[71,0]] ?_
       repeat refine sq ?_
       refine aQ hΓ fun K' hK=>?_
       simp only[go_sem,b8,Int.toNat_natCast,Int.natCast_nonneg,ai,List.length_map,Int.toNat_natCast,Int.natCast_nonneg,bT,ib bt,Int.toNat_natCast,Int.natCast_nonneg,fe,List.length_map,fX,om,bh jI,qI _ vInt (show d.me.toNat<6 by omega),vx _ (show d.me.toNat<6 by omega),dn,dm,oh,Int.toNat_natCast,Int.natCast_nonneg,List.length_map]
       repeat (refine⟨ah,?_⟩)
       refine hK _ ?_
       clear K' hK
       simp only[go_sem]
       refine⟨i2+1,bt,by(show (d.now.un.get i1).length-(i2+1)<(d.now.un.get i1).length-i2;omega),?_⟩
       refine bd [0,1,7,9,10,12,21,22,23,29,30,37,38,39] [[9,0],[10,0],[71,0]] ?_ ?_
       ·simp only[go_sem,aA bt cR,Int.natCast_add,Int.natCast_one,fX,e,List.map_append,List.length_append,List.map_cons,List.map_nil,List.length_cons,List.length_nil]
       ·simp only[go_sem,aA bt cR,Int.natCast_add,Int.natCast_one,fX,e,List.map_append,List.length_append,List.map_cons,List.map_nil,List.length_cons,List.length_nil]
      ·repeat refine sq ?_
       have e:=De c bt (hq.trans (by simpa using hb))
       refine aC ?_
       refine cX ?_
       simp only[go_sem]
       refine kp [0,1,7,9,10,12,21,22,23,29,30,37,38,39] [[9,0],[10,0],[71,0]] ?_
       repeat refine sq ?_
       refine aQ hΓ fun K' hK=>?_
       simp only[go_sem,b8,Int.toNat_natCast,Int.natCast_nonneg,ai,List.length_map,Int.toNat_natCast,Int.natCast_nonneg,bT,ib bt,Int.toNat_natCast,Int.natCast_nonneg,fe,List.length_map,fX,om,bh jI,qI _ vInt (show d.me.toNat<6 by omega),vx _ (show d.me.toNat<6 by omega),dn,dm,oh,Int.toNat_natCast,Int.natCast_nonneg,List.length_map]
       repeat (refine⟨ah,?_⟩)
       refine hK _ ?_
       clear K' hK
       simp only[go_sem]
       refine⟨i2+1,bt,by(show (d.now.un.get i1).length-(i2+1)<(d.now.un.get i1).length-i2;omega),?_⟩
       refine bd [0,1,7,9,10,12,21,22,23,29,30,37,38,39] [[9,0],[10,0],[71,0]] ?_ ?_
       ·simp only[go_sem,aA bt cR,Int.natCast_add,Int.natCast_one,fX,e,List.map_append,List.length_append,List.map_cons,List.map_nil,List.length_cons,List.length_nil]
       ·simp only[go_sem,aA bt cR,Int.natCast_add,Int.natCast_one,fX,e,List.map_append,List.length_append,List.map_cons,List.map_nil,List.length_cons,List.length_nil]
     ·have hq:l9 l p d i1 (d.now.un.get i1)[i2]=((d.now.un.get i1)[i2].pa==p):=by
       have :=(yN.1 (aa.un i1 a8).1 i2 bt).2.1
       unfold l9;rw[Eh (of_decide_eq_true hj),decide_eq_true (show (d.now.un.get i1)[i2].no> -1 by omega),Bool.and_true]
      have fX:=True.intro
      repeat refine sq ?_
      refine dx hΓ hP [[],[0],[],[0,1,2],[0,1,2,3],[0,1,2,3,4],[0,1,2,3,4,5],[0,1,2,3,4,5,6],[0,1,2,3,4,5,6,7],[0,1,2,3,4,5,6,7,8],[0,1,2,3,4,5,6,7],[0,1,2,3,4,5,6,7],[0,1,2,3,4,5,6,7],[0,1,2,3,4,5,6,7,12],[0,1,2,3,4,5,6,7,10,11],[0,1,2,3,4,5,6,7,10,11,14],[0,1,2,3,4,5,6,7,10,11,14,15],[0,1,2,3,4,5,6,7,10,11,12,13,14,15,16],[0,1,2,3,4,5,6,7,10,11,12,13,14,15,16,17],[0,1,2,3,4,5,6,7,8,9,10,11,12,13,14,15,16,17,18],[0,1,2,3,4,5,6,7,8,9,10,11,12,13,14,15,16,17,18,19],[0,1,2,3,4,5,6,7,8,9,10,11,12,13,14,15,16,17,18,19,20]] [0,1,7,9,10,12,21,22,23,29,30,37,38,39,64] [[9,0],[10,0],[71,0]] (by kernel_rfl) (fun K' hK=>by simp only[go_sem,b8,Int.toNat_natCast,Int.natCast_nonneg,ai,List.length_map,Int.toNat_natCast,Int.natCast_nonneg,bT,ib bt,Int.toNat_natCast,Int.natCast_nonneg,fe,List.length_map,hj];(repeat (refine⟨by first | exact fun h=>⟨h,by omega,by show d.me.toNat+1<=6;omega⟩ | exact fun h=>⟨h,h⟩ | exact ah,?_⟩));(first | refine⟨by rfl,?_⟩ | skip);exact hK _ (by simp only[go_sem]) (by simp only[go_sem]<;>rfl)) ?_
      repeat refine sq ?_
      refine ax rfl rfl (fun hb=>?_) (fun hb=>?_)
      ·repeat refine sq ?_
       have e:=Dd c bt (hq.trans (by simpa using hb))
       repeat refine sq ?_
       refine aQ hΓ fun K' hK=>?_
       simp only[go_sem,b8,Int.toNat_natCast,Int.natCast_nonneg,ai,List.length_map,Int.toNat_natCast,Int.natCast_nonneg,bT,ib bt,Int.toNat_natCast,Int.natCast_nonneg,fe,List.length_map,hj,List.map_append,List.length_append,List.map_cons,List.map_nil,List.length_cons,List.length_nil]
       repeat (refine⟨by first | exact⟨rfl,by omega,by unfold maxLen;omega⟩ | exact ah,?_⟩)
       refine hK _ ?_
       clear K' hK
       simp only[go_sem]
       refine kp [0,1,7,9,10,12,21,22,23,29,30,37,38,39] [[9,0],[10,0],[71,0]] ?_
       repeat refine sq ?_
       refine aQ hΓ fun K' hK=>?_
       simp only[go_sem,b8,Int.toNat_natCast,Int.natCast_nonneg,ai,List.length_map,Int.toNat_natCast,Int.natCast_nonneg,bT,ib bt,Int.toNat_natCast,Int.natCast_nonneg,fe,List.length_map,hj]
       repeat (refine⟨ah,?_⟩)
       refine hK _ ?_
       clear K' hK
       simp only[go_sem]
       refine⟨i2+1,bt,by(show (d.now.un.get i1).length-(i2+1)<(d.now.un.get i1).length-i2;omega),?_⟩
       refine bd [0,1,7,9,10,12,21,22,23,29,30,37,38,39] [[9,0],[10,0],[71,0]] ?_ ?_
       ·simp only[go_sem,aA bt cR,Int.natCast_add,Int.natCast_one,fX,e,List.map_append,List.length_append,List.map_cons,List.map_nil,List.length_cons,List.length_nil]
       ·simp only[go_sem,aA bt cR,Int.natCast_add,Int.natCast_one,fX,e,List.map_append,List.length_append,List.map_cons,List.map_nil,List.length_cons,List.length_nil]
      ·repeat refine sq ?_
       have e:=De c bt (hq.trans (by simpa using hb))
       refine aC ?_
       refine cX ?_
       simp only[go_sem]
       refine kp [0,1,7,9,10,12,21,22,23,29,30,37,38,39] [[9,0],[10,0],[71,0]] ?_
       repeat refine sq ?_
       refine aQ hΓ fun K' hK=>?_
       simp only[go_sem,b8,Int.toNat_natCast,Int.natCast_nonneg,ai,List.length_map,Int.toNat_natCast,Int.natCast_nonneg,bT,ib bt,Int.toNat_natCast,Int.natCast_nonneg,fe,List.length_map,hj]
       repeat (refine⟨ah,?_⟩)
       refine hK _ ?_
       clear K' hK
       simp only[go_sem]
       refine⟨i2+1,bt,by(show (d.now.un.get i1).length-(i2+1)<(d.now.un.get i1).length-i2;omega),?_⟩
       refine bd [0,1,7,9,10,12,21,22,23,29,30,37,38,39] [[9,0],[10,0],[71,0]] ?_ ?_
       ·simp only[go_sem,aA bt cR,Int.natCast_add,Int.natCast_one,fX,e,List.map_append,List.length_append,List.map_cons,List.map_nil,List.length_cons,List.length_nil]
       ·simp only[go_sem,aA bt cR,Int.natCast_add,Int.natCast_one,fX,e,List.map_append,List.length_append,List.map_cons,List.map_nil,List.length_cons,List.length_nil]
    ·have uy:i2=(d.now.un.get i1).length:=by
      have :¬ (i2:Int)<(d.now.un.get i1).length:=by simpa using hb
      omega
     clear hb
     rw[uy,<-KC]
     repeat refine sq ?_
     refine bK ?_
     simp only[go_sem]
     refine kp [0,1,7,9,21,22,23,29,30] [[9,0],[71,0]] ?_
     repeat refine sq ?_
     refine aQ hΓ fun K' hK=>?_
     simp only[go_sem,b8,Int.toNat_natCast,Int.natCast_nonneg,ai,List.length_map,Int.toNat_natCast,Int.natCast_nonneg,bT]
     repeat (refine⟨ah,?_⟩)
     refine hK _ ?_
     clear K' hK
     simp only[go_sem]
     refine⟨i1+1,a8,by(show 6-(i1+1)<6-i1;omega),?_⟩
     refine bd [0,1,7,9,21,22,23,29,30] [[9,0],[71,0]] ?_ ?_
     ·simp only[go_sem,aA a8 (lb rfl:(6:Nat)<=maxLen),Int.natCast_add,Int.natCast_one,List.length_map]
     ·simp only[go_sem,aA a8 (lb rfl:(6:Nat)<=maxLen),Int.natCast_add,Int.natCast_one,List.length_map]
   ·have kU:i1=6:=by
     have :¬ (i1:Int)<6:=by simpa using hb
     omega
    clear hb
    rw[kU,<-e6]
    repeat refine sq ?_
    refine bK ?_
    simp only[go_sem]
    refine kp [0,1,7,21,22,23] [[71,0]] ?_
    repeat refine sq ?_
    refine aQ hΓ fun K' hK=>?_
    simp only[go_sem,b8,Int.toNat_natCast,Int.natCast_nonneg,ai,List.length_map]
    repeat (refine⟨ah,?_⟩)
    refine hK _ ?_
    clear K' hK
    simp only[go_sem]
    refine⟨i+1,ae,by(show l.length-(i+1)<l.length-i;omega),?_⟩
    refine bd [0,1,7,21,22,23] [[71,0]] ?_ ?_
    ·simp only[go_sem,aA ae hl,Int.natCast_add,Int.natCast_one,List.length_map]
    ·simp only[go_sem,aA ae hl,Int.natCast_add,Int.natCast_one,List.length_map]
  ·have aV:i=l.length:=by
    have :¬ (i:Int)<l.length:=by simpa using hb
    omega
   clear hb
   subst aV
   repeat refine sq ?_
   refine bK ?_
   simp only[go_sem]
   refine kp [7] [[71,0]] ?_
   repeat refine sq ?_
   refine rx hΓ [4,5] [[71,0]] (fun K' hK=>by simp only[go_sem];(repeat (refine⟨ah,?_⟩));exact hK _ (by simp only[go_sem]) (by simp only[go_sem]<;>rfl)) ?_
   refine av ?_
   simp only[go_sem]
   first | (rw[oK he];done) | (rw[oK he];rfl) | (rw[oJ he,he];done) | (rw[oJ he,he];rfl)
theorem To:ak Tryd.prog 22 S69:=Pq.sound
def lJ(d:Dk)(k:Nat):Bool:=(d.now.un.get k).length==0
def lK(l:List Dk)(i:Nat):Bool:=dP 6 (lJ (l.getD i default))
def nT(l:List Dk):Bool:=bU l&&dP l.length (lK l)
def s6(l:List Dk):Int:=if bU l=true then 0 else 97
theorem eC{l:List Dk}(h:bU l=false):nT l=false/\s6 l=97:=⟨by unfold nT;rw[h];rfl,if_neg (by rw[h];decide)⟩
theorem eD{l:List Dk}{i k:Nat}(h:bU l=true)(hi:i<l.length)(hk:k<6)(hq:lJ l[i] k=false):nT l=false/\s6 l=0:=by
 refine⟨?_,if_pos h⟩
 have :lK l i=false:=by
  unfold lK
  rw[getD_at hi]
  exact dO hk hq
 unfold nT
 rw[dO hi this,Bool.and_false]
theorem eE{l:List Dk}(h:bU l=true)(hR:dP l.length (lK l)=true):nT l=true/\s6 l=0:=⟨by unfold nT;rw[h,hR];rfl,if_pos h⟩
theorem Fk{d:Dk}{k:Nat}:decide (((d.now.un.get k).length:Int)>0)=!lJ d k:=by
 unfold lJ
 cases (d.now.un.get k).length<;>simp
theorem aej(d:Dk){k:Nat}(hk:k<6):List.take 1 (List.drop (2+k) (aq d))=[rowP (d.now.un.get k)]:=by
 match k,hk with
 | 0,_ | 1,_ | 2,_ | 3,_ | 4,_ | 5,_=>rfl
noncomputable def Md:List (Nat×Spec):=[(59,S119)]
theorem Yx:∀ f s,tbl Md f=some s->ak Tryd.prog f s:=tc H8<|tn
attribute [go_sem] Md
noncomputable def P524:PSpec:=p1 dU (fun _=>True) (fun l=>.tup [.bool (nT l),vInt (s6 l)]) false
noncomputable def S524:Spec:=P524.toSpec
attribute [go_sem] P524 S524
set_option maxHeartbeats 4000000 in
theorem PC:aR Tryd.prog 24 P524:=by
 refine w1 (rs:=[.tmp 2,.tmp 3]) Tryd.func24 Tryd.ntmps24 (by rfl) (by kernel_rfl) (by decide) (fun h=>by cases h) ⟨_,rfl,lb rfl,fun l hp hw=>?_⟩
 have hP:=bc
 simp only[dU]at hw |-
 have hΓ:=Yx
 have hl:l.length<=maxLen:=by have:=hw.1.1;simpa using this
 repeat refine sq ?_
 refine rx hΓ [0] [] (fun K' hK=>by simp only[go_sem];(repeat (refine⟨ah,?_⟩));exact hK _ (by simp only[go_sem]) (by simp only[go_sem]<;>rfl)) ?_
 repeat refine sq ?_
 refine rx hΓ [0,10] [] (fun K' hK=>by simp only[go_sem];(repeat (refine⟨ah,?_⟩));exact hK _ (by simp only[go_sem]) (by simp only[go_sem]<;>rfl)) ?_
 repeat refine sq ?_
 refine ax rfl rfl (fun hb=>?_) (fun hb=>?_)
 ·repeat refine sq ?_
  have h1:bU l=false:=by simpa using hb
  repeat refine sq ?_
  refine rx hΓ [2,3] [] (fun K' hK=>by simp only[go_sem];(repeat (refine⟨ah,?_⟩));exact hK _ (by simp only[go_sem]) (by simp only[go_sem]<;>rfl)) ?_
  refine av ?_
  simp only[go_sem]
  first | (rw[(eC h1).1,(eC h1).2];done) | (rw[(eD h1 ae a8 aN).1,(eD h1 ae a8 aN).2];done) | (rw[(eE h1 hR).1,(eE h1 hR).2];done) | (rw[(eC h1).1,(eC h1).2];rfl) | (rw[(eD h1 ae a8 aN).1,(eD h1 ae a8 aN).2];rfl) | (rw[(eE h1 hR).1,(eE h1 hR).2];rfl)
 ·repeat refine sq ?_
  have h1:bU l=true:=by simpa using hb
  refine aC ?_
  repeat refine sq ?_
  refine rx hΓ [11,12,13] [] (fun K' hK=>by simp only[go_sem];(repeat (refine⟨ah,?_⟩));exact hK _ (by simp only[go_sem]) (by simp only[go_sem]<;>rfl)) ?_
  repeat refine sq ?_
  refine aJ ?_
  repeat refine sq ?_
  refine bR (fun z:Nat=>[(13,⟨true,.v (vInt z)⟩)]) (fun z=>[]) (fun z=>z<=l.length/\dP z (lK l)=true) (fun z=>l.length-z) 0 ?_ ?_ ?_ ?_
  ·exact⟨Nat.zero_le _,rfl⟩
  ·rfl
  ·rfl
  rintro i ⟨hi,hR⟩
  simp only[go_sem]
  repeat refine sq ?_
  refine rx hΓ [11,12,13,14] [] (fun K' hK=>by simp only[go_sem];(repeat (refine⟨ah,?_⟩));exact hK _ (by simp only[go_sem]) (by simp only[go_sem]<;>rfl)) ?_
  repeat refine sq ?_
  refine ax rfl rfl (fun hb=>?_) (fun hb=>?_)
  ·have ae:i<l.length:=by simpa using hb
   have ai:(i:Int)<l.length:=by omega
   clear hb
   have Cc:=hR
   repeat refine sq ?_
   refine aC ?_
   repeat refine sq ?_
   refine aJ ?_
   repeat refine sq ?_
   refine rx hΓ [5,11,12,13] [[5,0]] (fun K' hK=>by simp only[go_sem,bh ae,Int.toNat_natCast,Int.natCast_nonneg,ai,List.length_map,bh ae,Int.toNat_natCast,Int.natCast_nonneg,ai,List.length_map,List.append_nil];(repeat (refine⟨ah,?_⟩));exact hK _ (by simp only[go_sem]) (by simp only[go_sem]<;>rfl)) ?_
   refine bq (dd [5,0] (aq l[i]) rfl [5,11,12,13] [[5,0]] ?_ rfl) ?_
   ·simp only[go_sem]
   simp only[go_sem]
   repeat refine sq ?_
   refine rx hΓ [11,12,13,19,20] [] (fun K' hK=>by simp only[go_sem,bh ae,Int.toNat_natCast,Int.natCast_nonneg,ai,List.length_map,J'];(repeat (refine⟨ah,?_⟩));exact hK _ (by simp only[go_sem]) (by simp only[go_sem]<;>rfl)) ?_
   repeat refine sq ?_
   refine aJ ?_
   repeat refine sq ?_
   refine bR (fun z:Nat=>[(20,⟨true,.v (vInt z)⟩)]) (fun z=>[]) (fun z=>z<=6/\dP z (lJ l[i])=true) (fun z=>6-z) 0 ?_ ?_ ?_ ?_
   ·exact⟨Nat.zero_le _,rfl⟩
   ·rfl
   ·rfl
   rintro i1 ⟨hi,hR⟩
   simp only[go_sem]
   repeat refine sq ?_
   refine rx hΓ [11,12,13,19,20,21] [] (fun K' hK=>by simp only[go_sem,bh ae,Int.toNat_natCast,Int.natCast_nonneg,ai,List.length_map];(repeat (refine⟨ah,?_⟩));exact hK _ (by simp only[go_sem]) (by simp only[go_sem]<;>rfl)) ?_
   repeat refine sq ?_
   refine ax rfl rfl (fun hb=>?_) (fun hb=>?_)
   ·have a8:i1<6:=by have hq:(i1:Int)<6:=(by simpa using hb);omega
    have bT:(i1:Int)<6:=by omega
    clear hb
    repeat refine sq ?_
    refine aC ?_
    repeat refine sq ?_
    refine aJ ?_
    repeat refine sq ?_
    refine rx hΓ [7,11,12,13,19,20] [] (fun K' hK=>by simp only[go_sem,bh ae,Int.toNat_natCast,Int.natCast_nonneg,ai,List.length_map,Int.toNat_natCast,Int.natCast_nonneg,bT,bb.L_get l[i].now.un rowP default a8,Int.toNat_natCast,Int.natCast_nonneg,bT];(repeat (refine⟨ah,?_⟩));exact hK _ (by simp only[go_sem]) (by simp only[go_sem]<;>rfl)) ?_
    repeat refine sq ?_
    refine rx hΓ [11,12,13,19,20,25] [] (fun K' hK=>by simp only[go_sem,bh ae,Int.toNat_natCast,Int.natCast_nonneg,ai,List.length_map,Int.toNat_natCast,Int.natCast_nonneg,bT,Fk,List.length_map];(repeat (refine⟨ah,?_⟩));exact hK _ (by simp only[go_sem]) (by simp only[go_sem]<;>rfl)) ?_
    repeat refine sq ?_
    refine ax rfl rfl (fun hb=>?_) (fun hb=>?_)
    ·repeat refine sq ?_
     have aN:lJ l[i] i1=false:=by simpa using hb
     repeat refine sq ?_
     refine rx hΓ [2,3] [] (fun K' hK=>by simp only[go_sem,bh ae,Int.toNat_natCast,Int.natCast_nonneg,ai,List.length_map,Int.toNat_natCast,Int.natCast_nonneg,bT];(repeat (refine⟨ah,?_⟩));exact hK _ (by simp only[go_sem]) (by simp only[go_sem]<;>rfl)) ?_
     refine av ?_
     simp only[go_sem]
     first | (rw[(eC h1).1,(eC h1).2];done) | (rw[(eD h1 ae a8 aN).1,(eD h1 ae a8 aN).2];done) | (rw[(eE h1 hR).1,(eE h1 hR).2];done) | (rw[(eC h1).1,(eC h1).2];rfl) | (rw[(eD h1 ae a8 aN).1,(eD h1 ae a8 aN).2];rfl) | (rw[(eE h1 hR).1,(eE h1 hR).2];rfl)
    ·repeat refine sq ?_
     have bk:lJ l[i] i1=true:=by simpa using hb
     refine aC ?_
     refine cX ?_
     simp only[go_sem]
     refine kp [11,12,13,19,20] [] ?_
     repeat refine sq ?_
     refine aQ hΓ fun K' hK=>?_
     simp only[go_sem,bh ae,Int.toNat_natCast,Int.natCast_nonneg,ai,List.length_map,Int.toNat_natCast,Int.natCast_nonneg,bT]
     repeat (refine⟨ah,?_⟩)
     refine hK _ ?_
     clear K' hK
     simp only[go_sem]
     refine⟨i1+1,⟨a8,?_⟩,by(show 6-(i1+1)<6-i1;omega),?_⟩
     ·exact gg hR bk
     refine bd [11,12,13,19,20] [] ?_ ?_
     ·simp only[go_sem,aA a8 (lb rfl:(6:Nat)<=maxLen),Int.natCast_add,Int.natCast_one]
     ·simp only[go_sem,aA a8 (lb rfl:(6:Nat)<=maxLen),Int.natCast_add,Int.natCast_one]
   ·have kU:i1=6:=by
     have :¬ (i1:Int)<6:=by simpa using hb
     omega
    clear hb
    have BT:lK l i=true:=by unfold lK;rw[getD_at ae,<-kU];exact hR
    repeat refine sq ?_
    refine bK ?_
    simp only[go_sem]
    refine kp [11,12,13] [] ?_
    repeat refine sq ?_
    refine aQ hΓ fun K' hK=>?_
    simp only[go_sem,bh ae,Int.toNat_natCast,Int.natCast_nonneg,ai,List.length_map]
    repeat (refine⟨ah,?_⟩)
    refine hK _ ?_
    clear K' hK
    simp only[go_sem]
    refine⟨i+1,⟨ae,?_⟩,by(show l.length-(i+1)<l.length-i;omega),?_⟩
    ·exact gg Cc BT
    refine bd [11,12,13] [] ?_ ?_
    ·simp only[go_sem,aA ae hl,Int.natCast_add,Int.natCast_one]
    ·simp only[go_sem,aA ae hl,Int.natCast_add,Int.natCast_one]
  ·have aV:i=l.length:=by
    have :¬ (i:Int)<l.length:=by simpa using hb
    omega
   clear hb
   subst aV
   repeat refine sq ?_
   refine bK ?_
   simp only[go_sem]
   refine kp [] [] ?_
   repeat refine sq ?_
   refine rx hΓ [2,3] [] (fun K' hK=>by simp only[go_sem];(repeat (refine⟨ah,?_⟩));exact hK _ (by simp only[go_sem]) (by simp only[go_sem]<;>rfl)) ?_
   refine av ?_
   simp only[go_sem]
   first | (rw[(eC h1).1,(eC h1).2];done) | (rw[(eD h1 ae a8 aN).1,(eD h1 ae a8 aN).2];done) | (rw[(eE h1 hR).1,(eE h1 hR).2];done) | (rw[(eC h1).1,(eC h1).2];rfl) | (rw[(eD h1 ae a8 aN).1,(eD h1 ae a8 aN).2];rfl) | (rw[(eE h1 hR).1,(eE h1 hR).2];rfl)
theorem Tx:ak Tryd.prog 24 S524:=PC.sound
noncomputable def Mc:List (Nat×Spec):=[(60,S560)]
theorem Yw:∀ f s,tbl Mc f=some s->ak Tryd.prog f s:=tc HY<|tn
attribute [go_sem] Mc
noncomputable def P525:PSpec:=p1 dU (fun _=>True) (fun l=>.tup [.bool (nT l),vInt (s6 l)]) false
noncomputable def S525:Spec:=P525.toSpec
attribute [go_sem] P525 S525
set_option maxHeartbeats 4000000 in
theorem PB:aR Tryd.prog 25 P525:=by
 refine w1 (rs:=[.tmp 2,.tmp 3]) Tryd.func25 Tryd.ntmps25 (by rfl) (by kernel_rfl) (by decide) (fun h=>by cases h) ⟨_,rfl,lb rfl,fun l hp hw=>?_⟩
 have hP:=bc
 simp only[dU]at hw |-
 have hΓ:=Yw
 have hl:l.length<=maxLen:=by have:=hw.1.1;simpa using this
 repeat refine sq ?_
 refine rx hΓ [0] [] (fun K' hK=>by simp only[go_sem];(repeat (refine⟨ah,?_⟩));exact hK _ (by simp only[go_sem]) (by simp only[go_sem]<;>rfl)) ?_
 repeat refine sq ?_
 refine rx hΓ [0,8] [] (fun K' hK=>by simp only[go_sem];(repeat (refine⟨ah,?_⟩));exact hK _ (by simp only[go_sem]) (by simp only[go_sem]<;>rfl)) ?_
 repeat refine sq ?_
 refine ax rfl rfl (fun hb=>?_) (fun hb=>?_)
 ·repeat refine sq ?_
  have h1:bU l=false:=by simpa using hb
  repeat refine sq ?_
  refine rx hΓ [2,3] [] (fun K' hK=>by simp only[go_sem];(repeat (refine⟨ah,?_⟩));exact hK _ (by simp only[go_sem]) (by simp only[go_sem]<;>rfl)) ?_
  refine av ?_
  simp only[go_sem]
  first | (rw[(eC h1).1,(eC h1).2];done) | (rw[(eD h1 ae a8 aN).1,(eD h1 ae a8 aN).2];done) | (rw[(eE h1 hR).1,(eE h1 hR).2];done) | (rw[(eC h1).1,(eC h1).2];rfl) | (rw[(eD h1 ae a8 aN).1,(eD h1 ae a8 aN).2];rfl) | (rw[(eE h1 hR).1,(eE h1 hR).2];rfl)
 ·repeat refine sq ?_
  have h1:bU l=true:=by simpa using hb
  refine aC ?_
  repeat refine sq ?_
  refine rx hΓ [0,4] [] (fun K' hK=>by simp only[go_sem];(repeat (refine⟨ah,?_⟩));exact hK _ (by simp only[go_sem]) (by simp only[go_sem]<;>rfl)) ?_
  repeat refine sq ?_
  refine aJ ?_
  repeat refine sq ?_
  refine bR (fun z:Nat=>[(4,⟨true,.v (vInt z)⟩)]) (fun z=>[]) (fun z=>z<=l.length/\dP z (lK l)=true) (fun z=>l.length-z) 0 ?_ ?_ ?_ ?_
  ·exact⟨Nat.zero_le _,rfl⟩
  ·rfl
  ·rfl
  rintro i ⟨hi,hR⟩
  simp only[go_sem]
  repeat refine sq ?_
  refine rx hΓ [0,4,12] [] (fun K' hK=>by simp only[go_sem];(repeat (refine⟨ah,?_⟩));exact hK _ (by simp only[go_sem]) (by simp only[go_sem]<;>rfl)) ?_
  repeat refine sq ?_
  refine ax rfl rfl (fun hb=>?_) (fun hb=>?_)
  ·have ae:i<l.length:=by simpa using hb
   have ai:(i:Int)<l.length:=by omega
   clear hb
   have Cc:=hR
   repeat refine sq ?_
   refine aC ?_
   repeat refine sq ?_
   refine aJ ?_
   repeat refine sq ?_
   refine rx hΓ [0,4,5] [] (fun K' hK=>by simp only[go_sem,bh ae,Int.toNat_natCast,Int.natCast_nonneg,ai,List.length_map];(repeat (refine⟨ah,?_⟩));exact hK _ (by simp only[go_sem]) (by simp only[go_sem]<;>rfl)) ?_
   repeat refine sq ?_
   refine aJ ?_
   repeat refine sq ?_
   refine bR (fun z:Nat=>[(5,⟨true,.v (vInt z)⟩)]) (fun z=>[]) (fun z=>z<=6/\dP z (lJ l[i])=true) (fun z=>6-z) 0 ?_ ?_ ?_ ?_
   ·exact⟨Nat.zero_le _,rfl⟩
   ·rfl
   ·rfl
   rintro i1 ⟨hi,hR⟩
   simp only[go_sem]
   repeat refine sq ?_
   refine rx hΓ [0,4,5,16] [] (fun K' hK=>by simp only[go_sem,bh ae,Int.toNat_natCast,Int.natCast_nonneg,ai,List.length_map];(repeat (refine⟨ah,?_⟩));exact hK _ (by simp only[go_sem]) (by simp only[go_sem]<;>rfl)) ?_
   repeat refine sq ?_
   refine ax rfl rfl (fun hb=>?_) (fun hb=>?_)
   ·have a8:i1<6:=by have hq:(i1:Int)<6:=(by simpa using hb);omega
    have bT:(i1:Int)<6:=by omega
    clear hb
    repeat refine sq ?_
    refine aC ?_
    repeat refine sq ?_
    refine aJ ?_
    repeat refine sq ?_
    refine rx hΓ [0,4,5,28] [] (fun K' hK=>by simp only[go_sem,bh ae,Int.toNat_natCast,Int.natCast_nonneg,ai,List.length_map,Int.toNat_natCast,Int.natCast_nonneg,bT,bh ae,qI _ rowP a8,Fk,Nat.reduceAdd,Int.toNat_natCast,Int.natCast_nonneg,ai,bT,List.length_map];(repeat (refine⟨ah,?_⟩));exact hK _ (by simp only[go_sem]) (by simp only[go_sem]<;>rfl)) ?_
    repeat refine sq ?_
    refine ax rfl rfl (fun hb=>?_) (fun hb=>?_)
    ·repeat refine sq ?_
     have aN:lJ l[i] i1=false:=by simpa using hb
     repeat refine sq ?_
     refine rx hΓ [2,3] [] (fun K' hK=>by simp only[go_sem,bh ae,Int.toNat_natCast,Int.natCast_nonneg,ai,List.length_map,Int.toNat_natCast,Int.natCast_nonneg,bT];(repeat (refine⟨ah,?_⟩));exact hK _ (by simp only[go_sem]) (by simp only[go_sem]<;>rfl)) ?_
     refine av ?_
     simp only[go_sem]
     first | (rw[(eC h1).1,(eC h1).2];done) | (rw[(eD h1 ae a8 aN).1,(eD h1 ae a8 aN).2];done) | (rw[(eE h1 hR).1,(eE h1 hR).2];done) | (rw[(eC h1).1,(eC h1).2];rfl) | (rw[(eD h1 ae a8 aN).1,(eD h1 ae a8 aN).2];rfl) | (rw[(eE h1 hR).1,(eE h1 hR).2];rfl)
    ·repeat refine sq ?_
     have bk:lJ l[i] i1=true:=by simpa using hb
     refine aC ?_
     refine cX ?_
     simp only[go_sem]
     refine kp [0,4,5] [] ?_
     repeat refine sq ?_
     refine aQ hΓ fun K' hK=>?_
     simp only[go_sem,bh ae,Int.toNat_natCast,Int.natCast_nonneg,ai,List.length_map,Int.toNat_natCast,Int.natCast_nonneg,bT]
     repeat (refine⟨ah,?_⟩)
     refine hK _ ?_
     clear K' hK
     simp only[go_sem]
     refine⟨i1+1,⟨a8,?_⟩,by(show 6-(i1+1)<6-i1;omega),?_⟩
     ·exact gg hR bk
     refine bd [0,4,5] [] ?_ ?_
     ·simp only[go_sem,aA a8 (lb rfl:(6:Nat)<=maxLen),Int.natCast_add,Int.natCast_one]
     ·simp only[go_sem,aA a8 (lb rfl:(6:Nat)<=maxLen),Int.natCast_add,Int.natCast_one]
   ·have kU:i1=6:=by
     have :¬ (i1:Int)<6:=by simpa using hb
     omega
    clear hb
    have BT:lK l i=true:=by unfold lK;rw[getD_at ae,<-kU];exact hR
    repeat refine sq ?_
    refine bK ?_
    simp only[go_sem]
    refine kp [0,4] [] ?_
    repeat refine sq ?_
    refine aQ hΓ fun K' hK=>?_
    simp only[go_sem,bh ae,Int.toNat_natCast,Int.natCast_nonneg,ai,List.length_map]
    repeat (refine⟨ah,?_⟩)
    refine hK _ ?_
    clear K' hK
    simp only[go_sem]
    refine⟨i+1,⟨ae,?_⟩,by(show l.length-(i+1)<l.length-i;omega),?_⟩
    ·exact gg Cc BT
    refine bd [0,4] [] ?_ ?_
    ·simp only[go_sem,aA ae hl,Int.natCast_add,Int.natCast_one]
    ·simp only[go_sem,aA ae hl,Int.natCast_add,Int.natCast_one]
  ·have aV:i=l.length:=by
    have :¬ (i:Int)<l.length:=by simpa using hb
    omega
   clear hb
   subst aV
   repeat refine sq ?_
   refine bK ?_
   simp only[go_sem]
   refine kp [] [] ?_
   repeat refine sq ?_
   refine rx hΓ [2,3] [] (fun K' hK=>by simp only[go_sem];(repeat (refine⟨ah,?_⟩));exact hK _ (by simp only[go_sem]) (by simp only[go_sem]<;>rfl)) ?_
   refine av ?_
   simp only[go_sem]
   first | (rw[(eC h1).1,(eC h1).2];done) | (rw[(eD h1 ae a8 aN).1,(eD h1 ae a8 aN).2];done) | (rw[(eE h1 hR).1,(eE h1 hR).2];done) | (rw[(eC h1).1,(eC h1).2];rfl) | (rw[(eD h1 ae a8 aN).1,(eD h1 ae a8 aN).2];rfl) | (rw[(eE h1 hR).1,(eE h1 hR).2];rfl)
theorem Tw:ak Tryd.prog 25 S525:=PB.sound
theorem We:Tryd.prog.eqGuardType Tryd.prog.depth 76=false:=by kernel_rfl
theorem Wx(d:Nat)(a b a' b':Int):gH Tryd.prog (d+2) 76 (.agg [vInt a,vInt b]) (.agg [vInt a',vInt b'])=some (a==a'&&b==b'):=by
 unfold gH
 simp only[Tryd.underlying76,y8,List.range',qs,mC,Nat.zero_mul,Nat.one_mul,Nat.mul_one,Nat.reduceAdd,List.getElem?_cons_zero,List.getElem?_cons_succ,CO]
 cases a==a'<;>cases b==b'<;>rfl
@[go_sem] theorem afL(obj:Name->Option O)(op:BinOp)(a b a' b':Int):js Tryd.prog obj op 76 (.agg [vInt a,vInt b]) (.agg [vInt a',vInt b'])=
    ⟨op=.eql\/op=.neq,.v (.bool (if op=.eql then(a==a'&&b==b')else !(a==a'&&b==b'))),obj⟩:=by
  unfold js
  rw[show Op.maxDepth=9998+2 from rfl,Wx]
  simp only[We,true_and]
def Kk:V->Int×Int
 | .agg [.int _ a,.int _ b]=>(a,b)
 |_=>(0,0)
def xb:En (List (Int×Int)):=⟨fun l=>.sl (l.map jQ),fun v=>match v with | .sl l=>l.map Kk | _=>[]⟩
@[go_sem] theorem aeE(l:List (Int×Int)):(l.map jQ).map Kk=l:=tp (fun _=>rfl) l
attribute [go_sem] xb
theorem Qw{a b:Int×Int}:(!(a.1==b.1&&a.2==b.2))=false↔a=b:=by
 obtain⟨a0,a1⟩:=a
 obtain⟨b0,b1⟩:=b
 simp
noncomputable def P71:PSpec:=p2 xb xb (fun _ _=>True) (fun a b=>.bool (decide (a=b))) true
noncomputable def S71:Spec:=P71.toSpec
attribute [go_sem] P71 S71
set_option maxHeartbeats 4000000 in
theorem Po:aR Tryd.prog 27 P71:=by
 refine w2 (rs:=[.tmp 4]) Tryd.func27 Tryd.ntmps27 (by rfl) (by kernel_rfl) (by decide) (fun _ _ _=>rfl) ⟨_,rfl,lb rfl,fun a b hp hw=>?_⟩
 have hP:=bc
 simp only[xb]at hw |-
 have hΓ:=@ig Tryd.prog
 have hl:a.length<=maxLen:=by have:=hw.1.1;simpa using this
 repeat refine sq ?_
 refine rx hΓ [0,1] [] (fun K' hK=>by simp only[go_sem];(repeat (refine⟨ah,?_⟩));exact hK _ (by simp only[go_sem]) (by simp only[go_sem]<;>rfl)) ?_
 repeat refine sq ?_
 refine rx hΓ [0,1,10] [] (fun K' hK=>by simp only[go_sem];(repeat (refine⟨ah,?_⟩));exact hK _ (by simp only[go_sem]) (by simp only[go_sem]<;>rfl)) ?_
 repeat refine sq ?_
 refine ax rfl rfl (fun hb=>?_) (fun hb=>?_)
 ·repeat refine sq ?_
  have aN:a≠b:=by
   rintro rfl
   simp at hb
  repeat refine sq ?_
  refine rx hΓ [4] [] (fun K' hK=>by simp only[go_sem];(repeat (refine⟨ah,?_⟩));exact hK _ (by simp only[go_sem]) (by simp only[go_sem]<;>rfl)) ?_
  refine av ?_
  simp only[go_sem]
  rw[decide_eq_false aN]
 ·repeat refine sq ?_
  have uF:a.length=b.length:=by
   have :(a.length:Int)=b.length:=by simpa using hb
   omega
  clear hb
  refine aC ?_
  repeat refine sq ?_
  refine rx hΓ [0,1,5] [] (fun K' hK=>by simp only[go_sem];(repeat (refine⟨ah,?_⟩));exact hK _ (by simp only[go_sem]) (by simp only[go_sem]<;>rfl)) ?_
  repeat refine sq ?_
  refine aJ ?_
  repeat refine sq ?_
  refine bR (fun s:Nat=>[(5,⟨true,.v (vInt s)⟩)]) (fun s=>[]) (fun s=>s<=a.length/\rm a b s) (fun s=>a.length-s) 0 ?_ ?_ ?_ ?_
  ·exact⟨Nat.zero_le _,fun j _ _ h=>by omega⟩
  ·rfl
  ·rfl
  rintro i ⟨hi,hR⟩
  simp only[go_sem]
  repeat refine sq ?_
  refine rx hΓ [0,1,5,14] [] (fun K' hK=>by simp only[go_sem];(repeat (refine⟨ah,?_⟩));exact hK _ (by simp only[go_sem]) (by simp only[go_sem]<;>rfl)) ?_
  repeat refine sq ?_
  refine ax rfl rfl (fun hb=>?_) (fun hb=>?_)
  ·have ae:i<a.length:=by simpa using hb
   have ai:(i:Int)<a.length:=by omega
   clear hb
   have kS:(i:Int)<b.length:=by omega
   have IW:i<b.length:=by omega
   repeat refine sq ?_
   refine aC ?_
   repeat refine sq ?_
   refine aJ ?_
   repeat refine sq ?_
   refine dx hΓ hP [[],[],[0,1],[0,1,2],[],[],[4,5],[4,5,6],[0,1,2,3,4,5,6,7]] [0,1,5,25] [] (by kernel_rfl) (fun K' hK=>by simp only[go_sem,aH ae,aH (show i<b.length by omega),Int.toNat_natCast,Int.natCast_nonneg,ai,kS];(repeat (refine⟨ah,?_⟩));(first | refine⟨by rfl,?_⟩ | skip);exact hK _ (by simp only[go_sem]) (by simp only[go_sem]<;>rfl)) ?_
   repeat refine sq ?_
   refine ax rfl rfl (fun hb=>?_) (fun hb=>?_)
   ·repeat refine sq ?_
    have aN:a≠b:=by
     rintro rfl
     simp at hb
    repeat refine sq ?_
    refine rx hΓ [4] [] (fun K' hK=>by simp only[go_sem,aH ae,aH (show i<b.length by omega),Int.toNat_natCast,Int.natCast_nonneg,ai,kS];(repeat (refine⟨ah,?_⟩));exact hK _ (by simp only[go_sem]) (by simp only[go_sem]<;>rfl)) ?_
    refine av ?_
    simp only[go_sem]
    rw[decide_eq_false aN]
   ·repeat refine sq ?_
    refine aC ?_
    refine cX ?_
    simp only[go_sem]
    refine kp [0,1,5] [] ?_
    repeat refine sq ?_
    refine aQ hΓ fun K' hK=>?_
    simp only[go_sem,aH ae,aH (show i<b.length by omega),Int.toNat_natCast,Int.natCast_nonneg,ai,kS]
    repeat (refine⟨ah,?_⟩)
    refine hK _ ?_
    clear K' hK
    simp only[go_sem]
    refine⟨i+1,⟨ae,?_⟩,by(show a.length-(i+1)<a.length-i;omega),?_⟩
    ·exact zr hR fun _ _=>by first | exact Qw.1 hb | simpa using hb
    refine bd [0,1,5] [] ?_ ?_
    ·simp only[go_sem,aA ae hl,Int.natCast_add,Int.natCast_one]
    ·simp only[go_sem,aA ae hl,Int.natCast_add,Int.natCast_one]
  ·have aV:i=a.length:=by
    have :¬ (i:Int)<a.length:=by simpa using hb
    omega
   clear hb
   subst aV
   repeat refine sq ?_
   refine bK ?_
   simp only[go_sem]
   refine kp [] [] ?_
   repeat refine sq ?_
   refine rx hΓ [4] [] (fun K' hK=>by simp only[go_sem];(repeat (refine⟨ah,?_⟩));exact hK _ (by simp only[go_sem]) (by simp only[go_sem]<;>rfl)) ?_
   refine av ?_
   simp only[go_sem]
   rw[decide_eq_true (zt uF hR)]
theorem Tm:ak Tryd.prog 27 S71:=Po.sound
noncomputable def DT:List (Nat×Spec):=[(20,S70),(21,S521),(22,S69),(23,S523),(24,S524),(25,S525),(26,S34),(27,S71),(10,S19)]
theorem Yv:∀ f s,tbl DT f=some s->ak Tryd.prog f s:=tc Tn<|tc Tz<|tc To<|tc Ty<|tc Tx<|tc Tw<|tc H7<|tc Tm<|tc TB<|tn
attribute [go_sem] DT
noncomputable def P505:PSpec:=p2 dU iI (fun _ _=>True) (fun _ _=>.bool true) true
noncomputable def S505:Spec:=P505.toSpec
attribute [go_sem] P505 S505
set_option maxHeartbeats 8000000 in
theorem EV:aR Tryd.prog 5 P505:=by
 refine w2 (rs:=[.tmp 4]) Tryd.func5 Tryd.ntmps5 (by rfl) (by kernel_rfl) (by decide) (fun _ _ _=>rfl) ⟨_,rfl,lb rfl,fun l p hp hw=>?_⟩
 have hP:=bc
 simp only[dU,iI]at hw |-
 obtain⟨Γ,hΓ,g1,g2,g3,g4,g5,g6,g7,g8,g9⟩:∃ Γ:FuncId->Option Spec,(∀ f s,Γ f=some s->ak Tryd.prog f s)/\Γ 20=some S70/\Γ 21=some S521/\Γ 22=some S69/\Γ 23=some S523/\Γ 24=some S524/\Γ 25=some S525/\Γ 26=some S34/\Γ 27=some S71/\Γ 10=some S19:=⟨tbl DT,Yv,rfl,rfl,rfl,rfl,rfl,rfl,rfl,rfl,rfl⟩
 repeat refine sq ?_
 refine rx hΓ [0,1] [] (fun K' hK=>by simp only[go_sem];(repeat (refine⟨ah,?_⟩));exact hK _ (by simp only[go_sem]) (by simp only[go_sem]<;>rfl)) ?_
 repeat refine sq ?_
 refine rx hΓ [0,1,5,6] [] (fun K' hK=>by simp only[go_sem,g1];(repeat (refine⟨ah,?_⟩));exact hK _ (by simp only[go_sem]) (by simp only[go_sem]<;>rfl)) ?_
 repeat refine sq ?_
 refine rx hΓ [0,1,5,6,7,8] [] (fun K' hK=>by simp only[go_sem,g2];(repeat (refine⟨ah,?_⟩));exact hK _ (by simp only[go_sem]) (by simp only[go_sem]<;>rfl)) ?_
 repeat refine sq ?_
 refine rx hΓ [0,1,5,6,7,8,9,10] [] (fun K' hK=>by simp only[go_sem,g3];(repeat (refine⟨ah,?_⟩));exact hK _ (by simp only[go_sem]) (by simp only[go_sem]<;>rfl)) ?_
 repeat refine sq ?_
 refine rx hΓ [0,5,6,7,8,9,10,11,12] [] (fun K' hK=>by simp only[go_sem,g4];(repeat (refine⟨ah,?_⟩));exact hK _ (by simp only[go_sem]) (by simp only[go_sem]<;>rfl)) ?_
 repeat refine sq ?_
 refine rx hΓ [0,5,6,7,8,9,10,11,12,13,14] [] (fun K' hK=>by simp only[go_sem,g5];(repeat (refine⟨ah,?_⟩));exact hK _ (by simp only[go_sem]) (by simp only[go_sem]<;>rfl)) ?_
 repeat refine sq ?_
 refine rx hΓ [5,6,7,8,9,10,11,12,13,14,15,16] [] (fun K' hK=>by simp only[go_sem,g6];(repeat (refine⟨ah,?_⟩));exact hK _ (by simp only[go_sem]) (by simp only[go_sem]<;>rfl)) ?_
 repeat refine sq ?_
 refine rx hΓ [4] [] (fun K' hK=>by simp only[go_sem,g7,g8,g9,beq_self_eq_true,decide_true,Bool.and_self,if_true];(repeat (refine⟨ah,?_⟩));exact hK _ (by simp only[go_sem]) (by simp only[go_sem]<;>rfl)) ?_
 refine av ?_
 simp only[go_sem]
 skip
theorem adH:ak Tryd.prog 5 S505:=EV.sound
open Go
def fN(P:Program)(t:TypeId):Bool:=match P.underlying t with | some (.struct _)=>true | some (.array _ _)=>true | _=>false
def kN(ag:Bool)(xs:List V):V:=if ag then .agg xs else xs.getD 0 default
def lG(P:Program):List Field->Nat->Nat->Bool
 |[],off,tot=>off==tot
 |f::r,off,tot=>f.offset==off&&lG P r (off+P.cellsOf f.type) tot
def iS(P:Program):Nat->TypeId->Bool
 | 0,_=>false
 |n+1,t=>match P.underlying t with
  |some .bool=>P.cellsOf t==1
  |some (.int _)=>P.cellsOf t==1
  |some .string=>P.cellsOf t==1
  |some (.slice e)=>P.cellsOf t==1&&iS P n e&&decide (0<P.cellsOf e)&&(fN P e||P.cellsOf e==1)
  |some (.struct fs)=>lG P fs.toList 0 (P.cellsOf t)&&fs.toList.all fun f=>iS P n f.type
  |some (.array m e)=>P.cellsOf t==m*P.cellsOf e&&iS P n e
  |_=>false
def vt(S:TypeId->List V->Prop):List TypeId->List V->Prop
 |[],xs=>xs=[]
 |t::r,xs=>∃ a b,xs=a++b/\S t a/\vt S r b
def cY(P:Program):Nat->TypeId->List V->Prop
 | 0,_,_=>False
 |n+1,t,xs=>match P.underlying t with
  |some .bool=>∃ b,xs=[.bool b]
  |some (.int k)=>∃ z,xs=[.int k z]/\(Lit.int k z).wf=true
  |some .string=>∃ s,xs=[.str s]/\s.size<=maxLen
  |some (.slice e)=>∃ ls:List (List V),xs=[.sl (ls.map (kN (fN P e)))]/\ls.length<=maxLen/\∀ y∈ls,cY P n e y
  |some (.struct fs)=>vt (cY P n) (fs.toList.map (·.type)) xs
  |some (.array m e)=>vt (cY P n) (List.replicate m e) xs
  |_=>False
structure gK (m:Mem) (xs:List V) (cs:List Value):Prop where
 len:xs.length=cs.length
 rep:∀ i (h:i<xs.length) (h':i<cs.length),ay m xs[i] cs[i]
 one:∀ x∈xs,x.one=true
theorem gK.nil(m:Mem):gK m [] []:=⟨rfl,fun i h=>by simp at h,fun x h=>by simp at h⟩
theorem gK.append{m:Mem}{xs ys:List V}{cs ds:List Value}(h:gK m xs cs)(k:gK m ys ds):gK m (xs++ys) (cs++ds):=by
 refine⟨by simp[h.len,k.len],fun i h1 h2=>?_,fun x hx=>?_⟩
 ·by_cases hi:i<xs.length
  ·rw[List.getElem_append_left hi,List.getElem_append_left (by rw[<-h.len];exact hi)]
   exact h.rep i hi _
  ·have hl:=h.len
   have e:i-xs.length=i-cs.length:=by rw[hl]
   rw[List.getElem_append_right (by omega),List.getElem_append_right (by omega)]
   simp only[List.length_append]at h1 h2
   have :=k.rep (i-xs.length) (by omega) (by rw[<-k.len];omega)
   simp only[e]at this |-
   exact this
 ·rcases List.mem_append.1 hx with hx | hx
  ·exact h.one x hx
  ·exact k.one x hx
theorem gK.single{m:Mem}{x:V}{u:Value}(h:ay m x u)(ho:x.one=true):gK m [x] [u]:=
 ⟨rfl,fun i h1 h2=>by simp at h1;subst h1;exact h,fun y hy=>by simp at hy;subst hy;exact ho⟩
theorem mapM_some{α β:Type}{f:α->Option β}:∀ {l:List α} {r:List β},l.mapM f=some r->r.length=l.length/\∀ i (h:i<l.length) (h':i<r.length),f l[i]=some r[i]
 |[],r,h=>by
  simp only[List.mapM_nil]at h
  cases h
  exact⟨rfl,fun i h=>by simp at h⟩
 |a::l,r,h=>by
  simp only[List.mapM_cons,Option.bind_eq_bind,Option.bind_eq_some_iff]at h
  obtain⟨b,hb,bs,xL,hr⟩:=h
  cases hr
  obtain⟨h1,h2⟩:=mapM_some xL
  refine⟨by simp[h1],fun i hi bg=>?_⟩
  cases i with
  |zero=>exact hb
  |succ i=>exact h2 i (by simpa using hi) (by simpa using bg)
theorem Ei{P:Program}:∀ {fs:List Field} {off tot:Nat},lG P fs off tot=true->off<=tot
 |[],off,tot,h=>by simp[lG]at h;omega
 |f::r,off,tot,h=>by
  simp only[lG,Bool.and_eq_true]at h
  have :=Ei h.2
  omega
theorem JT{P:Program}{m:Mem}{S:TypeId->List V->Prop}{cs:List Value}:∀ {fs:List Field} {off:Nat},lG P fs off cs.length=true->
 (∀ f∈fs,∃ xs,S f.type xs/\gK m xs ((cs.drop f.offset).take (P.cellsOf f.type)))->∃ xs,vt S (fs.map (·.type)) xs/\gK m xs (cs.drop off)
 |[],off,h,_=>by
  simp[lG]at h
  subst h
  exact⟨[],rfl,by simpa using gK.nil m⟩
 |f::r,off,h,hf=>by
  simp only[lG,Bool.and_eq_true,beq_iff_eq]at h
  obtain⟨h1,h2⟩:=h
  obtain⟨a,ha,Bh⟩:=hf f (by simp)
  obtain⟨b,hb,Bg⟩:=JT h2 fun g hg=>hf g (by simp[hg])
  refine⟨a++b,⟨a,b,rfl,ha,hb⟩,?_⟩
  have e:cs.drop off=(cs.drop f.offset).take (P.cellsOf f.type)++cs.drop (off+P.cellsOf f.type):=by
   rw[h1,<-List.drop_drop,List.take_append_drop]
  rw[e]
  exact Bh.append Bg
theorem LW{m:Mem}{S:TypeId->List V->Prop}{e:TypeId}{k:Nat}{cs:List Value}:∀ (n off:Nat),cs.length=(off+n)*k->
 (∀ i,i<off+n->∃ xs,S e xs/\gK m xs ((cs.drop (i*k)).take k))->∃ xs,vt S (List.replicate n e) xs/\gK m xs (cs.drop (off*k))
 | 0,off,h,_=>by
   have :cs.drop (off*k)=[]:=List.drop_eq_nil_of_le (by rw[h];simp)
   rw[this]
   exact⟨[],rfl,gK.nil m⟩
 |n+1,off,h,hf=>by
  obtain⟨a,ha,Bh⟩:=hf off (by omega)
  obtain⟨b,hb,Bg⟩:=LW n (off+1) (by rw[h];congr 1;omega) fun i hi=>hf i (by omega)
  refine⟨a++b,⟨a,b,rfl,ha,hb⟩,?_⟩
  have e:cs.drop (off*k)=(cs.drop (off*k)).take k++cs.drop ((off+1)*k):=by
   rw[Nat.succ_mul,<-List.drop_drop,List.take_append_drop]
  rw[e]
  exact Bh.append Bg
theorem QF{ag:Bool}{xs:List V}(h:ag=true\/xs.length=1)(ho:∀ x∈xs,x.one=true):(kN ag xs).cells=xs:=by
 cases ag with
 |true=>rfl
 |false=>
  rcases h with h | h
  ·cases h
  match xs,h with
  |[x],_=>
   have :=ho x (by simp)
   show x.cells=[x]
   cases x<;>first | rfl | (simp[V.one]at this)
def iW(w:World):Mem:=fun b off=>w.cell? ⟨b,off,none⟩
theorem L4{a:Addr}(h:a.spot=none)(n:Nat):a.add n=⟨a.block,a.off+n,none⟩:=by
 obtain⟨b,o,s⟩:=a
 simp only at h
 subst h
 unfold Addr.add
 split
 ·rename_i e;subst e;rfl
 ·rfl
theorem vW{H:Type}{enc:TypeId×Value->H}{P:Program}{w:World}{base:Nat}{spare:Nat->Bool}{held:Bool}:
 ∀ (n fuel:Nat) (t:TypeId) (cs:List Value) (r:DataW H×List MemPlace),iS P n t=true->cs.length=P.cellsOf t->DataW.trod enc P w base spare held fuel t cs=some r->∃ xs,cY P n t xs/\gK (iW w) xs cs
 | 0,_,_,_,_,h,_,_=>by simp[iS]at h
 |n+1,0,_,_,_,_,_,h=>by simp[DataW.trod]at h
 |n+1,fuel+1,t,cs,r,hp,hlen,h=>by
  rw[DataW.trod_step]at h
  unfold DataW.trodStep at h
  unfold iS at hp
  unfold cY
  rcases hu:P.underlying t with _ | u
  ·rw[hu]at hp;simp at hp
  rw[hu]at hp h
  cases u with
  |bool=>
   have hb:∃ b,cs=[.bool b]:=by
    simp only at h
    split at h<;>simp_all
   obtain⟨b,rfl⟩:=hb
   exact⟨_,⟨b,rfl⟩,.single (.bool _) rfl⟩
  |int k=>
   simp only at hp h |-
   split at h<;>simp_all
   obtain⟨⟨rfl,h1⟩,_⟩:=h
   exact⟨_,⟨_,rfl,h1⟩,.single (.int _ _) rfl⟩
  |string=>
   simp only at hp h |-
   split at h<;>simp_all
   obtain⟨h1,_⟩:=h
   exact⟨_,⟨_,rfl,h1⟩,.single (.str _ h1) rfl⟩
  |slice e=>
   simp only[Bool.and_eq_true,decide_eq_true_eq,Bool.or_eq_true,beq_iff_eq]at hp |-
   obtain⟨⟨⟨_,fA⟩,bP⟩,VA⟩:=hp
   split at h<;>simp_all
   ·exact⟨_,⟨[],rfl,Nat.zero_le _,by simp⟩,.single (.slnil _ _) rfl⟩
   ·rename_i e' a len cap _ _
    obtain⟨⟨hb,UW,hcm⟩,h⟩:=h
    simp only[Option.bind_eq_some_iff]at h
    obtain⟨elems,b8,_⟩:=h
    obtain⟨l1,l2⟩:=mapM_some b8
    simp only[List.length_range]at l1
    have hx:∀ i,i<len->∃ xs cells,w.cells? base (a.add (i*P.cellsOf e')) (P.cellsOf e')=some cells/\cY P n e' xs/\gK (iW w) xs cells:=by
     intro i hi
     have h3:=l2 i (by simpa using hi) (by omega)
     simp only[List.getElem_range,Option.bind_eq_some_iff]at h3
     obtain⟨cells,h4,h5⟩:=h3
     obtain⟨xs,h6,h7⟩:=vW n fuel _ _ _ fA (World.cells?_some h4).2.1 h5
     exact⟨xs,cells,h4,h6,h7⟩
    rcases Nat.eq_zero_or_pos len with hz | UF
    ·subst hz
     exact⟨[.sl []],⟨[],rfl,Nat.zero_le _,by simp⟩,.single (.slnil _ _) rfl⟩
    have Bb:a.spot=none:=by
     obtain⟨xs,cells,h4,_⟩:=hx 0 UF
     have h8:=(World.cells?_some h4).2.2 0 bP
     have h9:=(World.cells?_some h4).2.1
     have nk:w.cell? ((a.add (0*P.cellsOf e')).add 0)=some (cells[0]'(by omega)):=by rw[h8];exact List.getElem?_eq_getElem (by omega)
     simpa[Addr.add]using World.cell?_spot nk
    let X:Nat->List V:=fun i=>if h:i<len then Classical.choose (hx i h)else[]
    let C:Nat->List Value:=fun i=>(w.cells? base (a.add (i*P.cellsOf e')) (P.cellsOf e')).getD []
    have hX:∀ i,i<len->cY P n e' (X i)/\gK (iW w) (X i) (C i)/\(C i).length=P.cellsOf e'/\∀ j,j<P.cellsOf e'->w.cell? ⟨a.block,a.off+i*P.cellsOf e'+j,none⟩=(C i)[j]?:=by
     intro i hi
     obtain⟨cells,h4,h6,h7⟩:=Classical.choose_spec (hx i hi)
     have e1:X i=Classical.choose (hx i hi):=dif_pos hi
     have e2:C i=cells:=by show (w.cells? _ _ _).getD []=cells;rw[h4];rfl
     rw[e1,e2]
     refine⟨h6,h7,(World.cells?_some h4).2.1,fun j hj=>?_⟩
     have h8:=(World.cells?_some h4).2.2 j hj
     rw[L4 Bb,L4 rfl]at h8
     exact h8
    have jK:∀ i,i<len->(kN (fN P e') (X i)).cells=X i:=fun i hi=>by
     obtain⟨h1,h2,h3,_⟩:=hX i hi
     refine QF ?_ h2.one
     rcases VA with h | h
     ·exact .inl h
     ·exact .inr (by rw[h2.len,h3,h])
    refine⟨[.sl (((List.range len).map X).map (kN (fN P e')))],⟨(List.range len).map X,rfl,by simp;omega,fun y hy=>?_⟩,.single ?_ rfl⟩
    ·simp only[List.mem_map,List.mem_range]at hy
     obtain⟨i,hi,rfl⟩:=hy
     exact(hX i hi).1
    ·obtain⟨b,o,s⟩:=a
     simp only at Bb hX
     subst Bb
     have key:=ay.sl (m:=iW w) (((List.range len).map X).map (kN (fN P e'))) b o cap (P.cellsOf e') (fun i j=>((C i)[j]?).getD undef) (by
         intro h;have:=congrArg List.length h;simp at this;omega) (by simp;omega) (by simpa using UW)
      (fun i hi=>by
        have bg:i<len:=by simpa using hi
        obtain⟨h1,h2,h3,_⟩:=hX i bg
        simp only[List.getElem_map,List.getElem_range]
        rw[jK i bg,h2.len,h3])
      (fun i j hi hj=>by
        have bg:i<len:=by simpa using hi
        obtain⟨h1,h2,h3,h4⟩:=hX i bg
        show w.cell? _=_
        rw[h4 j hj,List.getElem?_eq_getElem (by omega)]
        rfl)
      (fun i j hi hj=>by
        have bg:i<len:=by simpa using hi
        obtain⟨h1,h2,h3,h4⟩:=hX i bg
        simp only[List.getElem_map,List.getElem_range,jK i bg]at hj |-
        have ew:j<(C i).length:=by rw[<-h2.len];exact hj
        rw[List.getElem?_eq_getElem ew]
        exact h2.rep j hj ew)
      (fun i hi x hx=>by
        have bg:i<len:=by simpa using hi
        simp only[List.getElem_map,List.getElem_range,jK i bg]at hx
        exact(hX i bg).2.1.one x hx)
     simpa using key
  |struct fs=>
   simp only[Bool.and_eq_true,List.all_eq_true]at hp h |-
   obtain⟨ht,dv⟩:=hp
   rw[if_pos hlen]at h
   simp only[Option.map_eq_some_iff]at h
   obtain⟨ys,A3,_⟩:=h
   obtain⟨l1,l2⟩:=mapM_some A3
   have :=JT (m:=iW w) (S:=cY P n) (cs:=cs) (fs:=fs.toList) (off:=0) (by rw[hlen];exact ht) fun f hf=>by
    obtain⟨i,hi,rfl⟩:=List.mem_iff_getElem.1 hf
    have h3:=l2 i hi (by omega)
    have hle:P.cellsOf fs.toList[i].type<=(cs.drop fs.toList[i].offset).length:=by
     have key:∀ (l:List Field) (off tot:Nat),lG P l off tot=true->∀ f∈l,f.offset+P.cellsOf f.type<=tot:=by
      intro l
      induction l with
      |nil=>intro _ _ _ f hf;simp at hf
      |cons g r ih=>
       intro off tot h f hf
       simp only[lG,Bool.and_eq_true,beq_iff_eq]at h
       rcases List.mem_cons.1 hf with rfl | hf
       ·have:=Ei h.2;omega
       ·exact ih _ _ h.2 f hf
     have :=key _ _ _ ht _ hf
     simp only[List.length_drop]
     omega
    exact vW n fuel _ _ _ (dv _ hf) (by rw[List.length_take];omega) h3
   simpa using this
  |array m e=>
   simp only[Bool.and_eq_true,beq_iff_eq]at hp h |-
   obtain⟨ht,fA⟩:=hp
   rw[if_pos hlen]at h
   simp only[Option.map_eq_some_iff]at h
   obtain⟨ys,A3,_⟩:=h
   obtain⟨l1,l2⟩:=mapM_some A3
   have :=LW (m:=iW w) (S:=cY P n) (e:=e) (k:=P.cellsOf e) (cs:=cs) m 0 (by rw[hlen,ht];simp) fun i hi=>by
    have bg:i<m:=by omega
    have h3:=l2 i (by simpa using bg) (by rw[l1];simpa using bg)
    simp only[List.getElem_range]at h3
    have hle:i*P.cellsOf e+P.cellsOf e<=cs.length:=by
     rw[hlen,ht,<-Nat.succ_mul];exact Nat.mul_le_mul_right _ bg
    exact vW n fuel _ _ _ fA (by rw[List.length_take,List.length_drop];omega) h3
   simpa using this
  |_=>simp at hp
open Go Go.RowKit Go.ChangeShapes Go.WideShapes Go.ChangeAt
theorem QY{P:Program}{n:Nat}{t:TypeId}{W:World}{r:Reach}{base:Nat}{v:Value}(hp:iS P n t=true)(h:Value.okWide P W r base t v):
 v.cells.size=P.cellsOf t/\(fN P t=true->∃ cs,v=.agg cs)/\(fN P t=false->v.cells= #[v]/\P.cellsOf t=1):=by
 cases n with
 |zero=>simp[iS]at hp
 |succ n=>
  unfold iS at hp
  unfold fN
  rcases hu:P.underlying t with _ | u
  ·rw[hu]at hp;simp at hp
  rw[hu]at hp
  cases u with
  |bool=>
   obtain⟨b,rfl⟩:=okWide_bool hu h
   simp only[beq_iff_eq]at hp
   exact⟨by simp[Value.cells,hp],by simp,fun _=>⟨rfl,hp⟩⟩
  |int k=>
   obtain⟨b,rfl⟩:=okWide_int hu h
   simp only[beq_iff_eq]at hp
   exact⟨by simp[Value.cells,hp],by simp,fun _=>⟨rfl,hp⟩⟩
  |string=>
   obtain⟨b,rfl⟩:=okWide_string hu h
   simp only[beq_iff_eq]at hp
   exact⟨by simp[Value.cells,hp],by simp,fun _=>⟨rfl,hp⟩⟩
  |slice e=>
   obtain⟨a,len,cap,rfl⟩:=okWide_slice hu h
   simp only[Bool.and_eq_true,beq_iff_eq]at hp
   exact⟨by simp[Value.cells,hp.1.1.1],by simp,fun _=>⟨rfl,hp.1.1.1⟩⟩
  |struct fs=>
   simp only[Value.okWide,hu]at h
   obtain⟨cs,rfl,h2,_⟩:=h
   exact⟨h2,fun _=>⟨cs,rfl⟩,fun h=>by simp at h⟩
  |array m e=>
   simp only[Value.okWide,hu]at h
   obtain⟨cs,rfl,h2,_⟩:=h
   exact⟨h2,fun _=>⟨cs,rfl⟩,fun h=>by simp at h⟩
  |_=>simp at hp
def sO(P:Program)(n:Nat)(t:TypeId)(x:V):Prop:=∃ xs,cY P n t xs/\x=kN (fN P t) xs
def qK(P:Program)(n:Nat):List TypeId->List V->Prop
 |[],xs=>xs=[]
 |t::r,xs=>∃ x ys,xs=x::ys/\sO P n t x/\qK P n r ys
theorem X7{H:Type}{enc:TypeId×Value->H}{P:Program}{w:World}{b0:Nat}{spare:Nat->Bool}{held:Bool}{n:Nat}{t:TypeId}{r:Reach}{base:Nat}{v:Value}{d:DataW H}{ps:List MemPlace}
 (hp:iS P n t=true) (h:Value.okWide P w r base t v) (ht:DataW.Trod enc P w b0 spare held t v d ps):∃ x,sO P n t x/\ay (iW w) x v:=by
 obtain⟨h1,h2,h3⟩:=QY hp h
 obtain⟨fuel,hf⟩:=ht
 obtain⟨xs,k1,k2⟩:=vW n fuel t v.cells.toList _ hp (by simpa using h1) hf
 refine⟨kN (fN P t) xs,⟨xs,k1,rfl⟩,?_⟩
 cases ha:fN P t with
 |true=>
  obtain⟨cs,rfl⟩:=h2 ha
  simp only[kN,if_true]
  refine .agg xs cs (by simpa[Value.cells]using k2.len) k2.one fun i h h'=>?_
  have :=k2.rep i h (by simpa[Value.cells]using h')
  simpa[Value.cells]using this
 |false=>
  obtain⟨h4,h5⟩:=h3 ha
  have hl:xs.length=1:=by rw[k2.len];simp[h4]
  match xs,hl with
  |[x],_=>
   have :=k2.rep 0 (by simp) (by simp[h4])
   simp only[kN,Bool.false_eq_true,if_false,List.getD_cons_zero]
   simpa[h4]using this
theorem DI{H:Type}{enc:TypeId×Value->H}{P:Program}{w:World}{b0:Nat}{spare:Nat->Bool}{held:Bool}{n:Nat}{r:Reach}{base:Nat}:∀ {ts:List TypeId} {vs:List Value} {ds:List (DataW H)} {ps:List MemPlace},
 (∀ t∈ts,iS P n t=true)->(∀ (j:Nat) t v,ts[j]?=some t->vs[j]?=some v->Value.okWide P w r base t v)->DataW.TrodAll enc P w b0 spare held ts vs ds ps->∃ xs,qK P n ts xs/\oR (iW w) xs vs
 |[],vs,ds,ps,_,_,h=>by
  cases vs with
  |nil=>exact⟨[],rfl,rfl,fun i h=>by simp at h⟩
  |cons=>cases ds<;>simp[DataW.TrodAll]at h
 |t::ts,[],ds,ps,_,_,h=>by cases ds<;>simp[DataW.TrodAll]at h
 |t::ts,v::vs,[],ps,_,_,h=>by simp[DataW.TrodAll]at h
 |t::ts,v::vs,d::ds,ps,hp,hv,h=>by
  obtain⟨p,q,h1,h2,_⟩:=h
  obtain⟨x,k1,k2⟩:=X7 (hp t (by simp)) (hv 0 t v rfl rfl) h1
  obtain⟨ys,k3,k4,k5⟩:=DI (fun t ht=>hp t (by simp[ht])) (fun j t v h h'=>hv (j+1) t v (by simpa using h) (by simpa using h')) h2
  refine⟨x::ys,⟨x,ys,rfl,k1,k3⟩,by simp[k4],fun i hi bg=>?_⟩
  cases i with
  |zero=>exact k2
  |succ i=>exact k5 i (by simpa using hi) (by simpa using bg)
theorem DH{H:Type}{enc:TypeId×Value->H}{P:Program}(hl:laidOutB P=true){W W':World}(hb:Below W.heap.size W W'):∀ {ts:List TypeId} {vs:List Value} {ds:List (DataW H)} {ps:List MemPlace},
 (∀ t∈ts,P.readableRec t=true/\t<P.types.size)->DataW.TrodAll enc P W 0 (fun _=>true) true ts vs ds ps->(∀ x∈ps,x.block<W.heap.size)->DataW.TrodAll enc P W' 0 (fun b=>decide (b<W.heap.size)) true ts vs ds ps
 |[],vs,ds,ps,_,h,_=>by
  cases vs<;>cases ds<;>simp_all[DataW.TrodAll]
 |t::ts,[],ds,ps,_,h,_=>by cases ds<;>simp[DataW.TrodAll]at h
 |t::ts,v::vs,[],ps,_,h,_=>by simp[DataW.TrodAll]at h
 |t::ts,v::vs,d::ds,ps,hr,h,ae=>by
  obtain⟨p,q,h1,h2,rfl⟩:=h
  exact⟨p,q,Below.trod hl (hr t (by simp)).1 (hr t (by simp)).2 h1 hb (fun x hx=>ae x (by simp[hx])),
   DH hl hb (fun t ht=>hr t (by simp[ht])) h2 (fun x hx=>ae x (by simp[hx])),rfl⟩
theorem yY{H:Type}{enc:TypeId×Value->H}{P:Program}{w:World}{b0:Nat}{spare:Nat->Bool}{held:Bool}:∀ {ts:List TypeId} {vs:List Value} {ds:List (DataW H)} {ps:List MemPlace},DataW.TrodAll enc P w b0 spare held ts vs ds ps->ds.length=ts.length
 |[],vs,ds,ps,h=>by cases vs<;>cases ds<;>simp_all[DataW.TrodAll]
 |t::ts,[],ds,ps,h=>by cases ds<;>simp[DataW.TrodAll]at h
 |t::ts,v::vs,[],ps,h=>by simp[DataW.TrodAll]at h
 |t::ts,v::vs,d::ds,ps,h=>by
  obtain⟨p,q,_,h2,_⟩:=h
  simp[yY h2]
theorem adE{H:Type}{enc:TypeId×Value->H}{C:Checked}{os:Os}{f:FuncId}{fn:Func}{s:ChangeSpec}{conds:List PathCond}{n:Nat}{tb:TypeId}
 (own:ownKnob C.prog.godebug=none) (started:os.Started) (Ad:C.prog.inits.idxOf? f=none) (cS:C.prog.funcs[f]?=some fn)
 (witness:∃ (w:World) (tape:Tape) (i:Input),w.os=os/\(w.forCall tape i).Shaped C.prog/\i.vars=[]/\Input.okWide C.prog (w.forCall tape i) .any w.heap.size f i/\
   s.pre6 enc C.prog fn conds false (w.forCall tape i).memory i.args/\({}:Assume).holds C.prog (lone (Frame.enter C.prog f i.args .normal) [] (w.forCall tape i)))
 (hl:laidOutB C.prog=true) (eu:∀ t∈fn.params.toList,iS C.prog n t=true/\C.prog.readableRec t=true/\t<C.prog.types.size) (rX:fn.resultTypes= #[tb]) (mS:C.prog.underlying tb=some .bool)
 (tJ:s.vars=[]) (hs:∀ ds:List (DataW H),ds.length=fn.params.toList.length->(s.fn H ds).results=[.lit (.bool true)]/\(s.fn H ds).args=ds/\(s.fn H ds).vars=[])
 (qa:∀ (W:World) (args:Array Value) (xs:List V),qK C.prog n fn.params.toList xs->oR (iW W) xs args.toList->Calls C.prog f args W fun e W'=>e=.returned (.bool true)/\Below W.heap.size W W'):
 ReturnsInHanded {} C os f .any (s.pre6 enc C.prog fn conds false) (s.post enc C.prog fn false true false false):=by
 refine returnsInHanded_of_change own started Ad cS witness ?_
 intro W base args ds gs before b7 hW _ _
 have qg:=hW
 obtain⟨p,q,hA,hV,rfl,_,_⟩:=hW
 rw[tJ]at hV
 obtain⟨rfl,rfl⟩:=trodVars_none hV
 simp only[List.append_nil]at qg
 have ae:∀ y∈p,y.block<W.heap.size:=fun y hy=>by simpa using qg.lt y hy
 obtain⟨xs,h1,h2⟩:=DI (vs:=args.toList) (ts:=fn.params.toList) (fun t ht=>(eu t ht).1) (fun j t v h h'=>b7 j t v (by simpa using h) (by simpa using h')) hA
 obtain⟨e1,e2,e3⟩:=hs ds (yY hA)
 refine(qa W args xs h1 h2).mono fun e W' ⟨he,hn⟩=>?_
 subst he
 refine⟨_,rfl,ds,[],p,[],p,[],qg,?_,?_,?_,hn.frame _,fun h=>by cases h⟩
 ·rw[List.append_nil,e1,rX]
  exact trodAll_mk1 (shut_bool mS _)
 ·rw[List.append_nil,e2]
  exact DH hl hn (fun t ht=>(eu t ht).2) hA ae
 ·rw[List.append_nil,e3,tJ]
  rfl
theorem RV{H:Type}{enc:TypeId×Value->H}{C:Checked}{os:Os}{f:FuncId}{fn:Func}{s:ChangeSpec}{conds:List PathCond}{n:Nat}{tb:TypeId}{laid:List (String×DataW Unit)}
 (own:ownKnob C.prog.godebug=none) (started:os.Started) (Ad:C.prog.inits.idxOf? f=none) (cS:C.prog.funcs[f]?=some fn)
 (witness:∃ (w:World) (tape:Tape) (i:Input),w.os=os/\(w.forCall tape i).Shaped C.prog/\i.vars=[]/\Input.okWide C.prog (w.forCall tape i) .any w.heap.size f i/\
   ((s.pre enc C.prog fn conds false (w.forCall tape i).memory i.args/\laidMetH C.prog laid (w.forCall tape i).memory)/\sizedMet enc C.prog fn (OpenSpec.ofChange s) false (w.forCall tape i).memory i.args)/\({}:Assume).holds C.prog (lone (Frame.enter C.prog f i.args .normal) [] (w.forCall tape i)))
 (hT:∀ W:World,laidMetH C.prog laid W->iJ W)
 (hl:laidOutB C.prog=true) (eu:∀ t∈fn.params.toList,iS C.prog n t=true/\C.prog.readableRec t=true/\t<C.prog.types.size) (rX:fn.resultTypes= #[tb]) (mS:C.prog.underlying tb=some .bool)
 (tJ:s.vars=[]) (hs:∀ ds:List (DataW H),ds.length=fn.params.toList.length->(s.fn H ds).results=[.lit (.bool true)]/\(s.fn H ds).args=ds/\(s.fn H ds).vars=[])
 (qa:∀ (W:World) (args:Array Value) (xs:List V),iJ W->qK C.prog n fn.params.toList xs->oR (iW W) xs args.toList->Calls C.prog f args W fun e W'=>e=.returned (.bool true)/\Below W.heap.size W W'):
 ReturnsInHanded {} C os f .any (fun w args=>(s.pre enc C.prog fn conds false w args/\laidMetH C.prog laid w)/\sizedMet enc C.prog fn (OpenSpec.ofChange s) false w args) (s.post enc C.prog fn false true false false):=by
 refine returnsInHanded_of_change_and (X:=fun w _=>laidMetH C.prog laid w) (fun _ _ _ hh h=>h.of_heap hh) own started Ad cS witness ?_
 intro W base args ds gs before b7 hW _ _ hL _
 have qg:=hW
 obtain⟨p,q,hA,hV,rfl,_,_⟩:=hW
 rw[tJ]at hV
 obtain⟨rfl,rfl⟩:=trodVars_none hV
 simp only[List.append_nil]at qg
 have ae:∀ y∈p,y.block<W.heap.size:=fun y hy=>by simpa using qg.lt y hy
 obtain⟨xs,h1,h2⟩:=DI (vs:=args.toList) (ts:=fn.params.toList) (fun t ht=>(eu t ht).1) (fun j t v h h'=>b7 j t v (by simpa using h) (by simpa using h')) hA
 obtain⟨e1,e2,e3⟩:=hs ds (yY hA)
 refine(qa W args xs (hT W hL) h1 h2).mono fun e W' ⟨he,hn⟩=>?_
 subst he
 refine⟨_,rfl,ds,[],p,[],p,[],qg,?_,?_,?_,hn.frame _,fun h=>by cases h⟩
 ·rw[List.append_nil,e1,rX]
  exact trodAll_mk1 (shut_bool mS _)
 ·rw[List.append_nil,e2]
  exact DH hl hn (fun t ht=>(eu t ht).2) hA ae
 ·rw[List.append_nil,e3,tJ]
  rfl
end Go.Eng
set_option linter.constructorNameAsVariable false
namespace Go.Eng
open Go Go.Proofs Go.Proofs.YtckmfkgppohnmaaDoor Go.RowKit Go.ChangeShapes
theorem Td:ownKnob Tryd.prog.godebug=none:=by kernel_rfl
theorem Te:laidOutB Tryd.prog=true:=by kernel_rfl
noncomputable def tu:List (String×DataW Unit):=Rows.lendAllRow.laid
theorem Jy:Tryd.prog.globalNamed "internal/strconv.uint64pow10" =some 0:=by kernel_rfl
theorem ac2:(Rows.laid_internal_strconv_uint64pow10:DataW Unit)=Lib.tabData .u64 Lib.pow10Tab:=by rfl
theorem RQ(W:World)(h:laidMetH Tryd.prog tu W):iJ W:=by
 rw[MakeChecks.laidMetH_plain _ _ _ (by kernel_rfl)]at h
 have h2:laidMet Tryd.prog [("internal/strconv.uint64pow10",Lib.tabData .u64 Lib.pow10Tab)] W:=h.tail.tail
 have h3:Lib.TabIs Tryd.prog W "internal/strconv.uint64pow10" .u64 Lib.pow10Tab:=Lib.tabIs_of_head (t:=147) (e:=140) (n:=20) Jy (by kernel_rfl) (by kernel_rfl) (by kernel_rfl) (by kernel_rfl) (by kernel_rfl) h2
 unfold Lib.TabIs World.var? at h3
 rw[Jy]at h3
 simp only[Option.bind_some]at h3
 intro q hq
 have :q=(0,(Lib.pow10Tab.map fun z=>Value.int .u64 z).toArray):=by simpa[vI]using hq
 subst this
 split at h3
 ·rename_i cs T f hh
  cases h3
  exact⟨_,_,hh⟩
 ·cases h3
def Dm:DataW Unit->Array Value
 | .agg l=>(l.map fun d=>match d with | .lit (.int k n)=>Value.int k n | _=>undef).toArray
 |_=> #[]
def putCells(cs:Array Value):Obj->Obj
 | .cells _ t f=>.cells cs t f
 |o=>o
noncomputable def Gm(os:Os):World:=
 let w0:=World.holding Tryd.prog os ⟨#[],#[],[]⟩
 { w0 with heap:=((w0.heap.modify 0 (putCells (Dm Rows.laid_internal_strconv_uint64pow10))).modify 1 (putCells (Dm Rows.laid_math_bits_deBruijn32tab))).modify 2 (putCells (Dm Rows.laid_math_bits_deBruijn64tab)) }
theorem RP(os:Os)(args:Array Value):laidMetH Tryd.prog tu ((Gm os).forCall (fun _ _=>0) ⟨#[],args,[]⟩).memory:=by
 rw[MakeChecks.laidMetH_plain _ _ _ (by kernel_rfl)]
 exact laidMet_of_run' 8 (by kernel_rfl) (by kernel_rfl)
end Go.Eng
set_option linter.constructorNameAsVariable false
set_option maxRecDepth 100000
namespace Go.Eng
open Go Go.Proofs
theorem fR{n:Nat}{xs:List V}(h:cY Tryd.prog (n+1) 3 xs):∃ k,xs=[vInt k]/\(Lit.int .i64 k).wf=true:=by
 unfold cY at h
 simp only[Tryd.underlying3]at h
 exact h
theorem L3:fN Tryd.prog 3=false:=by kernel_rfl
theorem Yb:fN Tryd.prog 75=true:=by kernel_rfl
theorem Ge{α β:Type}{f:α->β}{P:β->Prop}(h:∀ y,P y->∃ x,y=f x):∀ {l:List β},(∀ y∈l,P y)->∃ m:List α,l=m.map f
 |[],_=>⟨[],rfl⟩
 |y::r,hl=>by
  obtain⟨x,rfl⟩:=h y (hl y (by simp))
  obtain⟨m,rfl⟩:=Ge h (l:=r) fun z hz=>hl z (by simp[hz])
  exact⟨x::m,rfl⟩
theorem zn{n:Nat}{T e:TypeId}{xs:List V}{α:Type}{f:α->V}(hu:Tryd.prog.underlying T=some (.slice e))(h:cY Tryd.prog (n+1) T xs)
 (he:∀ ys,cY Tryd.prog n e ys->∃ a,kN (fN Tryd.prog e) ys=f a):∃ l:List α,xs=[.sl (l.map f)]:=by
 unfold cY at h
 simp only[hu]at h
 obtain⟨ls,rfl,_,h3⟩:=h
 obtain⟨m,hm⟩:=Ge (f:=f) (P:=fun y=>∃ d,y=f d) (fun y h=>h) (l:=ls.map (kN (fN Tryd.prog e))) fun y hy=>by
  obtain⟨z,hz,rfl⟩:=List.mem_map.1 hy
  exact he z (h3 z hz)
 exact⟨m,by rw[hm]⟩
theorem Om{n:Nat}{xs:List V}(h:cY Tryd.prog (n+2) 34 xs):∃ l:List Int,xs=[.sl (l.map vInt)]:=
 zn Tryd.underlying34 h fun ys hy=>by
  obtain⟨k,rfl,_⟩:=fR hy
  rw[L3]
  exact⟨k,rfl⟩
theorem Og{n:Nat}{xs:List V}(h:cY Tryd.prog (n+2) 75 xs):∃ p:Par,xs=[vInt p.no,vInt p.pa]:=by
 unfold cY at h
 simp only[Tryd.underlying75]at h
 obtain⟨x,y,rfl,h1,x2,y2,rfl,h2,rfl⟩:=h
 obtain⟨a,rfl,_⟩:=fR h1
 obtain⟨b,rfl,_⟩:=fR h2
 exact⟨⟨a,b⟩,rfl⟩
theorem o9{n:Nat}{xs:List V}(h:cY Tryd.prog (n+3) 35 xs):∃ l:List Par,xs=[.sl (l.map encPa)]:=
 zn Tryd.underlying35 h fun ys hy=>by
  obtain⟨p,rfl⟩:=Og hy
  rw[Yb]
  exact⟨p,rfl⟩
theorem Ol{n:Nat}{xs:List V}(h:cY Tryd.prog (n+4) 36 xs):∃ u:bb (List Par),xs=u.L rowP:=by
 unfold cY at h
 simp only[Tryd.underlying36]at h
 obtain⟨x1,y1,rfl,h1,x2,y2,rfl,h2,x3,y3,rfl,h3,x4,y4,rfl,h4,x5,y5,rfl,h5,x6,y6,rfl,h6,rfl⟩:=h
 obtain⟨a,rfl⟩:=o9 h1
 obtain⟨b,rfl⟩:=o9 h2
 obtain⟨c,rfl⟩:=o9 h3
 obtain⟨d,rfl⟩:=o9 h4
 obtain⟨e,rfl⟩:=o9 h5
 obtain⟨f,rfl⟩:=o9 h6
 exact⟨⟨a,b,c,d,e,f⟩,rfl⟩
theorem EL{n:Nat}{xs:List V}(h:cY Tryd.prog (n+2) 37 xs):∃ u:bb Int,xs=u.L vInt:=by
 unfold cY at h
 simp only[Tryd.underlying37]at h
 obtain⟨x1,y1,rfl,h1,x2,y2,rfl,h2,x3,y3,rfl,h3,x4,y4,rfl,h4,x5,y5,rfl,h5,x6,y6,rfl,h6,rfl⟩:=h
 obtain⟨a,rfl,_⟩:=fR h1
 obtain⟨b,rfl,_⟩:=fR h2
 obtain⟨c,rfl,_⟩:=fR h3
 obtain⟨d,rfl,_⟩:=fR h4
 obtain⟨e,rfl,_⟩:=fR h5
 obtain⟨f,rfl,_⟩:=fR h6
 exact⟨⟨a,b,c,d,e,f⟩,rfl⟩
theorem EK{n:Nat}{xs:List V}(h:cY Tryd.prog (n+5) 39 xs):∃ s:Stk,xs=aB s:=by
 unfold cY at h
 simp only[Tryd.underlying39]at h
 obtain⟨x1,y1,rfl,h1,x2,y2,rfl,h2,x3,y3,rfl,h3,x4,y4,rfl,h4,rfl⟩:=h
 obtain⟨a,rfl⟩:=Om h1
 obtain⟨b,rfl⟩:=Ol h2
 obtain⟨c,rfl⟩:=EL h3
 obtain⟨d,rfl⟩:=EL h4
 exact⟨⟨a,b,c,d⟩,by rw[List.append_nil];rfl⟩
theorem EJ{n:Nat}{xs:List V}(h:cY Tryd.prog (n+6) 41 xs):∃ p:Pg,xs=cm p:=by
 unfold cY at h
 simp only[Tryd.underlying41]at h
 obtain⟨x1,y1,rfl,h1,x2,y2,rfl,h2,x3,y3,rfl,h3,rfl⟩:=h
 obtain⟨a,rfl,_⟩:=fR h1
 obtain⟨b,rfl⟩:=EK h2
 obtain⟨c,rfl,_⟩:=fR h3
 exact⟨⟨a,b,c⟩,by rw[List.append_nil];rfl⟩
theorem Oj{n:Nat}{xs:List V}(h:cY Tryd.prog (n+7) 42 xs):∃ p q:Pg,xs=cm p++cm q:=by
 unfold cY at h
 simp only[Tryd.underlying42]at h
 obtain⟨x1,y1,rfl,h1,x2,y2,rfl,h2,rfl⟩:=h
 obtain⟨a,rfl⟩:=EJ h1
 obtain⟨b,rfl⟩:=EJ h2
 exact⟨a,b,by rw[List.append_nil]⟩
theorem EI{n:Nat}{xs:List V}(h:cY Tryd.prog (n+8) 44 xs):∃ d:Dk,xs=aq d:=by
 unfold cY at h
 simp only[Tryd.underlying44]at h
 obtain⟨x1,y1,rfl,h1,x2,y2,rfl,h2,x3,y3,rfl,h3,x4,y4,rfl,h4,rfl⟩:=h
 obtain⟨a,rfl,_⟩:=fR h1
 obtain⟨b,rfl⟩:=EK h2
 obtain⟨p,q,rfl⟩:=Oj h3
 obtain⟨c,rfl,_⟩:=fR h4
 exact⟨⟨a,b,p,q,c⟩,by rw[List.append_nil,List.append_assoc];rfl⟩
theorem Oi{n:Nat}{xs:List V}(h:cY Tryd.prog (n+4) 54 xs):∃ b:Bag,xs=bW b:=by
 unfold cY at h
 simp only[Tryd.underlying54]at h
 obtain⟨x1,y1,rfl,h1,x2,y2,rfl,h2,x3,y3,rfl,h3,x4,y4,rfl,h4,rfl⟩:=h
 obtain⟨a,rfl,_⟩:=fR h1
 obtain⟨b,rfl,_⟩:=fR h2
 obtain⟨c,rfl⟩:=o9 h3
 obtain⟨d,rfl,_⟩:=fR h4
 exact⟨⟨a,b,c,d⟩,by rw[List.append_nil];rfl⟩
theorem Oh{n:Nat}{xs:List V}(h:cY Tryd.prog (n+2) 76 xs):∃ a b,xs=[vInt a,vInt b]:=by
 unfold cY at h
 simp only[Tryd.underlying76]at h
 obtain⟨x1,y1,rfl,h1,x2,y2,rfl,h2,rfl⟩:=h
 obtain⟨a,rfl,_⟩:=fR h1
 obtain⟨b,rfl,_⟩:=fR h2
 exact⟨a,b,rfl⟩
theorem Yf:fN Tryd.prog 44=true:=by kernel_rfl
theorem Ye:fN Tryd.prog 54=true:=by kernel_rfl
theorem Yc:fN Tryd.prog 76=true:=by kernel_rfl
theorem afI{x:V}(h:sO Tryd.prog 9 44 x):∃ d:Dk,x=fM d:=by
 obtain⟨xs,h1,rfl⟩:=h
 rw[Yf]
 obtain⟨d,rfl⟩:=EI h1
 exact⟨d,rfl⟩
theorem afH{x:V}(h:sO Tryd.prog 9 54 x):∃ b:Bag,x=qu b:=by
 obtain⟨xs,h1,rfl⟩:=h
 rw[Ye]
 obtain⟨b,rfl⟩:=Oi h1
 exact⟨b,rfl⟩
theorem afG{x:V}(h:sO Tryd.prog 9 76 x):∃ a b,x=.agg [vInt a,vInt b]:=by
 obtain⟨xs,h1,rfl⟩:=h
 rw[Yc]
 obtain⟨a,b,rfl⟩:=Oh h1
 exact⟨a,b,rfl⟩
end Go.Eng
set_option linter.constructorNameAsVariable false
set_option maxRecDepth 100000
namespace Go.Eng
open Go Go.Proofs Go.Proofs.YtckmfkgppohnmaaDoor Go.RowKit Go.ChangeShapes
theorem Xw{f:FuncId}{s:PSpec}(h:aR Tryd.prog f s){W:World}{args:Array Value}{xs:List V}(ht:iJ W)(hr:oR (iW W) xs args.toList)(hp:s.pre xs)(hv:s.fn xs=.bool true):
 Calls Tryd.prog f args W fun e W'=>e=.returned (.bool true)/\RowKit.Below W.heap.size W W':=by
 refine(h.calls (iW W) W xs args ht (fun b off v hv=>hv) hr hp).mono ?_
 rintro e W' ⟨v,m',rfl,hb,_,_,h⟩
 rw[hv]at h
 cases h
 exact⟨rfl,hb⟩
theorem RS(hc:∀ (W:World) (args:Array Value) (xs:List V),iJ W->qK Tryd.prog 9 Tryd.f5.params.toList xs->oR (iW W) xs args.toList->Calls Tryd.prog 5 args W fun e W'=>e=.returned (.bool true)/\Below W.heap.size W W')
 (os:Os) (started:os.Started) (H:Type) (enc:TypeId×Value->H):
 ReturnsInHanded {} Tryd.checked os 5 .any (fun w args=>(Rows.lendAllSpec.pre enc Tryd.prog Tryd.f5 [] false w args/\laidMetH Tryd.prog tu w)/\sizedMet enc Tryd.prog Tryd.f5 (OpenSpec.ofChange Rows.lendAllSpec) false w args)
  (Rows.lendAllSpec.post enc Tryd.prog Tryd.f5 false true false false):=by
 refine RV (C:=Tryd.checked) (n:=9) (tb:=4) (laid:=tu) Td started (by kernel_rfl) Tryd.func5
  (ChangeSpec.witness_shaped (enc:=enc) (C:=Tryd.checked) (os:=os) (X:=fun w _=>laidMetH Tryd.prog tu w) false (Gm os) #[.slice none 0 0,.int .i64 0] 8 rfl (World.shaped_of_RefB (by kernel_rfl) (by kernel_rfl)) (by kernel_rfl) (by kernel_rfl) (by kernel_rfl) (RP os _))
  RQ Te ?_ (by kernel_rfl) (by kernel_rfl) rfl ?_ hc
 ·have h:(Tryd.f5.params.toList.all fun t=>iS Tryd.prog 9 t&&Tryd.prog.readableRec t&&decide (t<Tryd.prog.types.size))=true:=by kernel_rfl
  intro t ht
  have :=List.all_eq_true.1 h t ht
  simp only[Bool.and_eq_true,decide_eq_true_eq]at this
  exact⟨this.1.1,this.1.2,this.2⟩
 ·intro ds ke
  have hl:Tryd.f5.params.toList.length=2:=by kernel_rfl
  rw[hl]at ke
  match ds,ke with
  |[d1,d2],_=>exact⟨rfl,rfl,rfl⟩
theorem RR(hc:∀ (W:World) (args:Array Value) (xs:List V),iJ W->qK Tryd.prog 9 Tryd.f5.params.toList xs->oR (iW W) xs args.toList->Calls Tryd.prog 5 args W fun e W'=>e=.returned (.bool true)/\Below W.heap.size W W'):
 Rows.LendAllSaid:=
 OpenClaim.holds_of_wide 5 Tryd.f5 rfl rfl rfl rfl rfl rfl rfl ⟨rfl,rfl,rfl,rfl,rfl⟩ rfl rfl rfl rfl rfl (by kernel_rfl) Tryd.func5 (by kernel_rfl)
  (of_decide_eq_true (by kernel_rfl)) (by unfold Func.isWrapper;first | (rw[if_pos (by decide+kernel)];kernel_rfl) | (rw[if_neg (by decide+kernel)];exact⟨rfl,rfl⟩))
  (fun os started H enc _=>RS hc os started H enc)
theorem RT(h:Rows.LendAllSaid):Rows.LendAllCardSaid:=
 Claim7.holds_tied_plain_at .later [] [.data,.data,.data] true (true, "28cfda519c54781c81308c4dc0b3570512b8921263a288a3040a4d524312a115") false
  h (fun _ h=>by cases h) (by kernel_rfl) (fun _ h=>by cases h) lendAll_row_tie rfl ⟨rfl,rfl⟩ (by kernel_rfl) rfl
  (fun f fn hf cS=>by
    obtain rfl:f=5:=Option.some.inj ((show Tryd.prog.funcNamed "parvise/parviselaw09.LendAll" =some 5 by kernel_rfl).symm.trans hf)|>.symm
    obtain rfl:fn=Tryd.f5:=(Option.some.inj (Tryd.func5.symm.trans cS)).symm
    exact⟨by kernel_rfl,fun j t ht=>by
     have dv:(Tryd.f5.params.toList.all fun t=>!Tryd.prog.wantsStandIn t)=true:=by kernel_rfl
     have hm:t∈Tryd.f5.params.toList:=by
      obtain⟨hj,e⟩:=Array.getElem?_eq_some_iff.1 ht
      rw[<-e]
      exact Array.getElem_mem_toList hj
     have :=List.all_eq_true.1 dv t hm
     have h1:Tryd.prog.wantsStandIn t=false:=by simpa using this
     exact h1⟩)
  (by kernel_rfl)
end Go.Eng
set_option maxRecDepth 100000
namespace Go.Eng
open Go Go.Proofs Go.Proofs.YtckmfkgppohnmaaDoor
theorem Yd:fN Tryd.prog 44=true:=by kernel_rfl
theorem Yg:fN Tryd.prog 23=false:=by kernel_rfl
theorem X8{x:V}(h:sO Tryd.prog 9 23 x):∃ l:List Dk,x=.sl (l.map fM):=by
 obtain⟨xs,h1,rfl⟩:=h
 rw[Yg]
 obtain⟨l,rfl⟩:∃ l:List Dk,xs=[.sl (l.map fM)]:=zn Tryd.underlying23 h1 fun ys hy=>by
  obtain⟨p,rfl⟩:=EI hy
  rw[Yd]
  exact⟨p,rfl⟩
 exact⟨l,rfl⟩
theorem lendAll_holds:Rows.LendAllCardSaid:=
 RT<|RR fun W args xs ht ha hr=>by
  obtain⟨x,ys,rfl,h1,y,zs,rfl,h2,rfl⟩:=(show qK Tryd.prog 9 [23,3] xs from ha)
  obtain⟨l,rfl⟩:=X8 h1
  obtain⟨us,h2,rfl⟩:=h2
  obtain⟨n,rfl,_⟩:=fR h2
  rw[L3]at hr
  exact Xw EV ht hr ⟨congrArg dU.enc (Ud l),rfl,trivial⟩ rfl
end Go.Eng
namespace Go.Proofs.YtckmfkgppohnmaaDoor
theorem lendAllCard_holds : Rows.LendAllCardSaid := Go.Eng.lendAll_holds
end Go.Proofs.YtckmfkgppohnmaaDoor
#print axioms Go.Proofs.YtckmfkgppohnmaaDoor.lendAllCard_holds
