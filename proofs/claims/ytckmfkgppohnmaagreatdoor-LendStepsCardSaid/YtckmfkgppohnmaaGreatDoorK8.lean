import Derived.Test.YtckmfkgppohnmaaGreatDoorK7
import Derived.Laws.Bits64
/- Texts NW31 to NW52. -/
set_option linter.all false
namespace Go.Eng
open Go Go.Proofs
def ek(d:Dk)(n:Int):Dk:=(jY d n).setW (-1)
structure FlF (d:Dk) (n:Int):Prop where
 f0:0<=be (ek d n)
 f2:be (ek d n)<2
 k:(be (ek d n)).toNat<2
 sz:gp (fg (ek d n))
theorem Lj{d:Dk}{n:Int}(h:aJ d=true):FlF d n:=by
 obtain⟨h1,h2,h3,h4⟩:=l6 (X6 (n:=n) h)
 exact⟨h1,h2,h3,h4.sz⟩
theorem Li(d:Dk)(n:Int):List.take 1 (List.map D.v (al (ek d n)))++List.map D.v (ax (fg (ek d n)))++List.drop 20 (List.map D.v (al (ek d n)))=List.map D.v (al (D1 d n)):=Ym (ek d n) (fg (ek d n))
theorem xi{d:Dk}{n:Int}:jv d n=(if (decide (d.wet>=0))=true then(n.tmod 2 != 0)else false):=by
 unfold jv
 by_cases h:0<=d.wet
 ·rw[decide_eq_true h];rfl
 ·rw[decide_eq_false h];rfl
noncomputable def NK:List (Nat×Spec):=[(23,S23),(53,S53),(58,S58),(59,S59)]
theorem aaq:∀ f s,tbl NK f=some s->ak Tryz.prog f s:=tc o6<|tc B7<|tc yh<|tc uV<|tn
attribute [go_sem] NK
noncomputable def P14:PSpec:=p2 bf iI (fun d _=>di d) (fun d n=>.tup [eE (zi d n),vInt (jR d)]) false
noncomputable def S14:Spec:=P14.toSpec
attribute [go_sem] P14 S14
set_option maxHeartbeats 4000000 in
theorem Q':aL Tryz.prog 14 P14:=by
 refine w2 (rs:=[.cell 4 32,.tmp 5]) Tryz.func14 Tryz.ntmps14 (by rfl) (by kernel_rfl) (by decide) (fun h=>by cases h) ⟨_,rfl,lb rfl,fun d n hp hw=>?_⟩
 have hP:=aU
 simp only[bf,iI]at hw |-
 have hΓ:=aaq
 have hs:di d:=hp
 repeat refine sq ?_
 refine rx hΓ [1,2,4] [[2,0],[4,0]] (fun K' hK=>by simp only[go_sem];(repeat (refine⟨ah,?_⟩));exact hK _ (by simp only[go_sem]) (by simp only[go_sem]<;>rfl)) ?_
 refine aF (e8 [4,0] _ (al zD) rfl rfl [1,2,4] [[2,0],[4,0]] ?_ rfl) ?_
 ·simp only[go_sem]
 simp only[go_sem]
 refine aF (bo [2,0] (al d) rfl [1,2,4] [[2,0],[4,0]] ?_ rfl) ?_
 ·simp only[go_sem]
 simp only[go_sem]
 repeat refine sq ?_
 refine rx hΓ [1,2,4,6] [[2,0],[4,0]] (fun K' hK=>by simp only[go_sem];(repeat (refine⟨ah,?_⟩));exact hK _ (by simp only[go_sem]) (by simp only[go_sem]<;>rfl)) ?_
 repeat refine sq ?_
 refine rx hΓ [1,2,4,6,12] [[2,0],[4,0]] (fun K' hK=>by simp only[go_sem];(repeat (refine⟨ah,?_⟩));exact hK _ (by simp only[go_sem]) (by simp only[go_sem]<;>rfl)) ?_
 repeat refine sq ?_
 refine aw rfl rfl (fun hb=>?_) (fun hb=>?_)
 ·repeat refine sq ?_
  have hd:=iA hb
  repeat refine sq ?_
  refine rx hΓ [4,5] [[4,0]] (fun K' hK=>by simp only[go_sem];(repeat (refine⟨ah,?_⟩));exact hK _ (by simp only[go_sem]) (by simp only[go_sem]<;>rfl)) ?_
  refine ar ?_
  simp only[go_sem]
  first | (rw[kN hd];done) | (rw[kN hd];rfl) | (rw[kM hd,bO hd];done) | (rw[kM hd,bO hd];rfl)
 ·repeat refine sq ?_
  have hd:=iz hb
  have HF:=Lj (n:=n) hd
  have g0:=HF.f0;have g2:=HF.f2;have gk:=HF.k;have gN:=Li d n
  have mY:∀ (F:Name->Option O) (t:Name),F [22,0,16,0]=some (.box ((al (ek d n)).map .v))->S59.app (fun nm=>if own [0] nm=true then F nm else none) t [.ref [22,0,16,0] (20+(be (ek d n)).toNat*21+1)]=⟨True,.v (.agg (ax (fg (ek d n)))),fun nm=>if own [0] nm=true then F nm else none⟩:=fun F t h=>oM (s:=fg (ek d n)) (L:=al (ek d n)) h (rG _ gk) HF.sz
  refine ay ?_
  repeat refine sq ?_
  refine rx hΓ [1,4,7] [[4,0],[22,0,16,0]] (fun K' hK=>by simp only[go_sem,hs];(repeat (refine⟨ah,?_⟩));exact hK _ (by simp only[go_sem]) (by simp only[go_sem]<;>rfl)) ?_
  repeat refine sq ?_
  refine rx hΓ [4,7,27] [[4,0],[22,0,16,0]] (fun K' hK=>by simp only[go_sem,Nat.add_zero];(repeat (refine⟨ah,?_⟩));exact hK _ (by simp only[go_sem]) (by simp only[go_sem]<;>rfl)) ?_
  repeat refine sq ?_
  refine aw rfl rfl (fun hb=>?_) (fun hb=>?_)
  ·repeat refine sq ?_
   have jG:jv d n=true:=by rw[xi];simpa using hb
   have hw:=AM jG
   obtain⟨b1,b2,b3,b4,_⟩:=vY hd hw
   have b0:0<=d.wet:=by omega
   have hu:=Bc (Bb b1 b2 d.wet.toNat)
   have u1:=Yq d b3
   have u2:IntKind.i64.wrap ((d.pg d.wet.toNat).su+1)=(d.pg d.wet.toNat).su+1:=wrap_i64 (by omega) (by omega)
   have u3:List.take (20+d.wet.toNat*21+20) (List.map D.v (al d))++[D.v (vInt (((d.pg d.wet.toNat).su+1).tmod 1000003))]++List.drop (20+d.wet.toNat*21+20+1) (List.map D.v (al d))=List.map D.v (al (jY d n)):=by rw[Eh d b3,uo jG]
   have u4:(jY d n).setW (-1)=ek d n:=rfl
   repeat refine sq ?_
   refine dx hΓ hP [[],[],[1],[1,2],[1,2,3],[1,2,3,4],[0],[0,6],[0,6,7],[0,1,2,3,4,5,6,7,8],[0,1,2,3,4,5,6,7,8,9]] [4,7,8] [[4,0],[22,0,16,0]] (by kernel_rfl) (fun K' hK=>by simp only[go_sem,b0,b4];(repeat (refine⟨ah,?_⟩));(first | refine⟨by rfl,?_⟩ | skip);exact hK _ (by simp only[go_sem]) (by simp only[go_sem]<;>rfl)) ?_
   repeat refine sq ?_
   refine rx hΓ [4,7] [[4,0],[22,0,16,0]] (fun K' hK=>by simp only[go_sem,u1,u2,u3];(repeat (refine⟨ah,?_⟩));exact hK _ (by simp only[go_sem]) (by simp only[go_sem]<;>rfl)) ?_
   repeat refine sq ?_
   refine rx hΓ [4,7] [[4,0],[22,0,16,0]] (fun K' hK=>by simp only[go_sem,u4];(repeat (refine⟨ah,?_⟩));exact hK _ (by simp only[go_sem]) (by simp only[go_sem]<;>rfl)) ?_
   repeat refine sq ?_
   refine dx hΓ hP [[],[],[],[2],[2,3],[2,3,4],[2,3,4,5],[1],[1,7],[1,7,8],[1,2,3,4,5,6,7,8,9],[1,2,3,4,5,6,7,8,9,10],[1,2,3,4,5,6,7,8,9,10,11],[0,1,2,3,4,5,6,7,8,9,10,11,12],[0,1,2,3,4,5,6,7,8,9,10,11,12,13],[0,1,2,3,4,5,6,7,8,9,10,11,12,13,14],[0,1,2,3,4,5,6,7,8,9,10,11,12,13,14,15]] [4,7] [[4,0],[22,0,16,0]] (by kernel_rfl) (fun K' hK=>by simp only[go_sem,g0,g2,mY,gN];(repeat (refine⟨ah,?_⟩));(first | refine⟨by rfl,?_⟩ | skip);exact hK _ (by simp only[go_sem]) (by simp only[go_sem]<;>rfl)) ?_
   repeat refine sq ?_
   refine rx hΓ [4,5] [[4,0]] (fun K' hK=>by simp only[go_sem];(repeat (refine⟨ah,?_⟩));exact hK _ (by simp only[go_sem]) (by simp only[go_sem]<;>rfl)) ?_
   refine ar ?_
   simp only[go_sem]
   first | (rw[kN hd];done) | (rw[kN hd];rfl) | (rw[kM hd,bO hd];done) | (rw[kM hd,bO hd];rfl)
  ·repeat refine sq ?_
   have jG:jv d n=false:=by rw[xi];simpa using hb
   have u4:d.setW (-1)=ek d n:=by unfold ek;rw[uq jG]
   refine ay ?_
   repeat refine sq ?_
   refine rx hΓ [4,7] [[4,0],[22,0,16,0]] (fun K' hK=>by simp only[go_sem,u4];(repeat (refine⟨ah,?_⟩));exact hK _ (by simp only[go_sem]) (by simp only[go_sem]<;>rfl)) ?_
   repeat refine sq ?_
   refine dx hΓ hP [[],[],[],[2],[2,3],[2,3,4],[2,3,4,5],[1],[1,7],[1,7,8],[1,2,3,4,5,6,7,8,9],[1,2,3,4,5,6,7,8,9,10],[1,2,3,4,5,6,7,8,9,10,11],[0,1,2,3,4,5,6,7,8,9,10,11,12],[0,1,2,3,4,5,6,7,8,9,10,11,12,13],[0,1,2,3,4,5,6,7,8,9,10,11,12,13,14],[0,1,2,3,4,5,6,7,8,9,10,11,12,13,14,15]] [4,7] [[4,0],[22,0,16,0]] (by kernel_rfl) (fun K' hK=>by simp only[go_sem,g0,g2,mY,gN];(repeat (refine⟨ah,?_⟩));(first | refine⟨by rfl,?_⟩ | skip);exact hK _ (by simp only[go_sem]) (by simp only[go_sem]<;>rfl)) ?_
   repeat refine sq ?_
   refine rx hΓ [4,5] [[4,0]] (fun K' hK=>by simp only[go_sem];(repeat (refine⟨ah,?_⟩));exact hK _ (by simp only[go_sem]) (by simp only[go_sem]<;>rfl)) ?_
   refine ar ?_
   simp only[go_sem]
   first | (rw[kN hd];done) | (rw[kN hd];rfl) | (rw[kM hd,bO hd];done) | (rw[kM hd,bO hd];rfl)
theorem U0:ak Tryz.prog 14 S14:=Q'.sound
noncomputable def NJ:List (Nat×Spec):=[(39,S39),(57,S57),(61,S61),(62,S62),(21,S21)]
theorem aap:∀ f s,tbl NJ f=some s->ak Tryz.prog f s:=tc o5<|tc yi<|tc yf<|tc qv<|tc UT<|tn
attribute [go_sem] NJ
noncomputable def P15:PSpec:=p2 bf iI (fun d _=>di d) (fun d n=>.tup [eE (zi d n),vInt (jR d)]) false
noncomputable def S15:Spec:=P15.toSpec
attribute [go_sem] P15 S15
set_option maxHeartbeats 4000000 in
theorem Q9:aL Tryz.prog 15 P15:=by
 refine w2 (rs:=[.cell 4 32,.tmp 5]) Tryz.func15 Tryz.ntmps15 (by rfl) (by kernel_rfl) (by decide) (fun h=>by cases h) ⟨_,rfl,lb rfl,fun d n hp hw=>?_⟩
 have hP:=aU
 simp only[bf,iI]at hw |-
 have hΓ:=aap
 have hs:di d:=hp
 repeat refine sq ?_
 refine rx hΓ [1,2,4] [[2,0],[4,0]] (fun K' hK=>by simp only[go_sem];(repeat (refine⟨ah,?_⟩));exact hK _ (by simp only[go_sem]) (by simp only[go_sem]<;>rfl)) ?_
 refine aF (e8 [4,0] _ (al zD) rfl rfl [1,2,4] [[2,0],[4,0]] ?_ rfl) ?_
 ·simp only[go_sem]
 simp only[go_sem]
 refine aF (bo [2,0] (al d) rfl [1,2,4] [[2,0],[4,0]] ?_ rfl) ?_
 ·simp only[go_sem]
 simp only[go_sem]
 repeat refine sq ?_
 refine rx hΓ [1,2,4,9] [[2,0],[4,0]] (fun K' hK=>by simp only[go_sem];(repeat (refine⟨ah,?_⟩));exact hK _ (by simp only[go_sem]) (by simp only[go_sem]<;>rfl)) ?_
 repeat refine sq ?_
 refine aw rfl rfl (fun hb=>?_) (fun hb=>?_)
 ·repeat refine sq ?_
  have hd:=iA hb
  repeat refine sq ?_
  refine rx hΓ [4,5] [[4,0]] (fun K' hK=>by simp only[go_sem];(repeat (refine⟨ah,?_⟩));exact hK _ (by simp only[go_sem]) (by simp only[go_sem]<;>rfl)) ?_
  refine ar ?_
  simp only[go_sem]
  first | (rw[kN hd,dH hd];done) | (rw[kN hd,dH hd];rfl) | (rw[kM hd,bO hd];done) | (rw[kM hd,bO hd];rfl)
 ·repeat refine sq ?_
  have hd:=iz hb
  have HF:=Lj (n:=n) hd
  have g0:=HF.f0;have g2:=HF.f2;have gk:=HF.k;have gN:=Li d n;have gS:=Ek (ek d n) gk;have gz:gp ((ek d n).pg (be (ek d n)).toNat).st:=HF.sz
  have gQ:((ek d n).pg (be (ek d n)).toNat).st=fg (ek d n):=rfl
  rw[gQ]at gS gz
  refine ay ?_
  repeat refine sq ?_
  refine rx hΓ [1,2,4,6] [[2,0],[4,0],[6,0]] (fun K' hK=>by simp only[go_sem,hs];(repeat (refine⟨ah,?_⟩));exact hK _ (by simp only[go_sem]) (by simp only[go_sem]<;>rfl)) ?_
  repeat refine sq ?_
  refine rx hΓ [2,4,6,20] [[2,0],[4,0],[6,0]] (fun K' hK=>by simp only[go_sem,Nat.add_zero,Yf];(repeat (refine⟨by first | (exact fun _=>⟨by decide,by decide⟩) | exact ah,?_⟩));exact hK _ (by simp only[go_sem]) (by simp only[go_sem]<;>rfl)) ?_
  repeat refine sq ?_
  refine aw rfl rfl (fun hb=>?_) (fun hb=>?_)
  ·repeat refine sq ?_
   have jG:jv d n=true:=by rw[xi];simpa using hb
   have hw:=AM jG
   obtain⟨b1,b2,b3,b4,_⟩:=vY hd hw
   have b0:0<=d.wet:=by omega
   have hu:=Bc (Bb b1 b2 d.wet.toNat)
   have u1:=v8 d b3
   have u2:IntKind.i64.wrap ((d.pg d.wet.toNat).su+1)=(d.pg d.wet.toNat).su+1:=wrap_i64 (by omega) (by omega)
   have u3:List.take (20+d.wet.toNat*21+20) (List.map D.v (al d))++[D.v (vInt (((d.pg d.wet.toNat).su+1).tmod 1000003))]++List.drop (20+d.wet.toNat*21+20+1) (List.map D.v (al d))=List.map D.v (al (jY d n)):=by rw[Eh d b3,uo jG]
   have u4:(jY d n).setW (-1)=ek d n:=rfl
   repeat refine sq ?_
   refine dx hΓ hP [[],[0],[],[2],[],[2,3,4],[2,3,4,5],[2,3,4,5,6],[2,3,4,5,6,7],[2,3,4,5,6,7,8],[],[0,1,2,3,4,5,6,7,8,9,10],[0,1,2,3,4,5,6,7,8,9,10,11],[0,1,2,3,4,5,6,7,8,9,10,11,12]] [4,6] [[4,0],[6,0]] (by kernel_rfl) (fun K' hK=>by simp only[go_sem,Nat.add_zero,b0,b4,u1,u2,u3];(repeat (refine⟨ah,?_⟩));(first | refine⟨by rfl,?_⟩ | skip);exact hK _ (by simp only[go_sem]) (by simp only[go_sem]<;>rfl)) ?_
   repeat refine sq ?_
   refine rx hΓ [4,6] [[4,0],[6,0]] (fun K' hK=>by simp only[go_sem,u4];(repeat (refine⟨ah,?_⟩));exact hK _ (by simp only[go_sem]) (by simp only[go_sem]<;>rfl)) ?_
   repeat refine sq ?_
   refine rx hΓ [4,6] [[4,0],[6,0]] (fun K' hK=>by simp only[go_sem,g0,g2,gS,gN,gz];(repeat (refine⟨ah,?_⟩));exact hK _ (by simp only[go_sem]) (by simp only[go_sem]<;>rfl)) ?_
   repeat refine sq ?_
   refine rx hΓ [4,5] [[4,0]] (fun K' hK=>by simp only[go_sem];(repeat (refine⟨ah,?_⟩));exact hK _ (by simp only[go_sem]) (by simp only[go_sem]<;>rfl)) ?_
   refine ar ?_
   simp only[go_sem]
   first | (rw[kN hd,dH hd];done) | (rw[kN hd,dH hd];rfl) | (rw[kM hd,bO hd];done) | (rw[kM hd,bO hd];rfl)
  ·repeat refine sq ?_
   have jG:jv d n=false:=by rw[xi];simpa using hb
   have u4:d.setW (-1)=ek d n:=by unfold ek;rw[uq jG]
   refine ay ?_
   repeat refine sq ?_
   refine rx hΓ [4,6] [[4,0],[6,0]] (fun K' hK=>by simp only[go_sem,u4];(repeat (refine⟨ah,?_⟩));exact hK _ (by simp only[go_sem]) (by simp only[go_sem]<;>rfl)) ?_
   repeat refine sq ?_
   refine rx hΓ [4,6] [[4,0],[6,0]] (fun K' hK=>by simp only[go_sem,g0,g2,gS,gN,gz];(repeat (refine⟨ah,?_⟩));exact hK _ (by simp only[go_sem]) (by simp only[go_sem]<;>rfl)) ?_
   repeat refine sq ?_
   refine rx hΓ [4,5] [[4,0]] (fun K' hK=>by simp only[go_sem];(repeat (refine⟨ah,?_⟩));exact hK _ (by simp only[go_sem]) (by simp only[go_sem]<;>rfl)) ?_
   refine ar ?_
   simp only[go_sem]
   first | (rw[kN hd,dH hd];done) | (rw[kN hd,dH hd];rfl) | (rw[kM hd,bO hd];done) | (rw[kM hd,bO hd];rfl)
theorem UZ:ak Tryz.prog 15 S15:=Q9.sound
open Go
def c6(a b:Name)(nm:Name):Name:=if nm=a then b else if nm=b then a else nm
theorem O7(a b nm:Name):c6 a b (c6 a b nm)=nm:=by
 unfold c6
 by_cases h1:nm=a
 ·rw[if_pos h1]
  by_cases h2:b=a
  ·rw[if_pos h2,h2,h1]
  ·rw[if_neg h2,if_pos rfl,h1]
 ·rw[if_neg h1]
  by_cases h2:nm=b
  ·rw[if_pos h2,if_pos rfl,h2]
  ·rw[if_neg h2,if_neg h1,if_neg h2]
theorem O8{a b nm:Name}(h1:nm≠a)(h2:nm≠b):c6 a b nm=nm:=by unfold c6;rw[if_neg h1,if_neg h2]
mutual
theorem D.clos_tt:∀ d:D,D.clos (fun _=>true) d=true
 | .v _=>rfl
 | .nilsl=>rfl
 | .nilmap=>rfl
 | .any=>rfl
 | .ref _ _=>rfl
 | .msl _ _=>rfl
 | .aref _ _ _ _=>rfl
 | .map _=>rfl
 | .yld _=>rfl
 | .clo _ a b=>by simp only[D.clos,D.closL_tt a,D.closL_tt b,Bool.and_self]
 | .agg l=>by simp only[D.clos,D.closL_tt l]
 | .tup l=>by simp only[D.clos,D.closL_tt l]
theorem D.closL_tt:∀ l:List D,D.closL (fun _=>true) l=true
 |[]=>rfl
 |d::r=>by simp only[D.closL,D.clos_tt d,D.closL_tt r,Bool.and_self]
end
theorem O.clos_tt(o:O):O.clos (fun _=>true) o=true:=by
 cases o<;>first | rfl | exact D.closL_tt _
mutual
theorem D.ren_fix{f:Name->Name}{dom:Name->Bool}(hf:∀ nm,dom nm=true->f nm=nm):∀ d:D,D.clos dom d=true->d.ren f=d
 | .v _,_=>rfl
 | .nilsl,_=>rfl
 | .nilmap,_=>rfl
 | .any,_=>rfl
 | .ref nm _,h=>by simp only[D.ren];rw[hf nm h]
 | .msl nm _,h=>by simp only[D.ren];rw[hf nm h]
 | .aref nm _ _ _,h=>by simp only[D.ren];rw[hf nm h]
 | .map nm,h=>by simp only[D.ren];rw[hf nm h]
 | .yld nm,h=>by simp only[D.ren];rw[hf nm h]
 | .clo _ a b,h=>by
   simp only[D.clos,Bool.and_eq_true]at h
   simp only[D.ren];rw[D.renL_fix hf a h.1,D.renL_fix hf b h.2]
 | .agg l,h=>by simp only[D.clos]at h;simp only[D.ren];rw[D.renL_fix hf l h]
 | .tup l,h=>by simp only[D.clos]at h;simp only[D.ren];rw[D.renL_fix hf l h]
theorem D.renL_fix{f:Name->Name}{dom:Name->Bool}(hf:∀ nm,dom nm=true->f nm=nm):∀ l:List D,D.closL dom l=true->D.renL f l=l
 |[],_=>rfl
 |d::r,h=>by
  simp only[D.closL,Bool.and_eq_true]at h
  simp only[D.renL];rw[D.ren_fix hf d h.1,D.renL_fix hf r h.2]
end
theorem O.ren_fix{f:Name->Name}{dom:Name->Bool}(hf:∀ nm,dom nm=true->f nm=nm)(o:O)(h:O.clos dom o=true):o.ren f=o:=by
 cases o with
 |box cs=>simp only[O.clos]at h;simp only[O.ren];rw[D.renL_fix hf cs h]
 |loop env ps asg body st bh=>
  simp only[O.clos]at h
  simp only[O.ren,O.loop.injEq,and_true]
  refine List.ext_getElem (by simp) fun i h1 h2=>?_
  have :=gH (l:=env.map (·.d)) (i:=i) (by simpa using h2) h
  simp only[List.getElem_map,E.ren]at this |-
  rw[D.ren_fix hf _ this]
 |_=>rfl
def r5(a b:Name)(σ:S):S:=
 ⟨σ.nt,fun t=>(σ.env t).ren (c6 a b),fun nm=>if own σ.pre nm=true then(σ.obj (c6 a b nm)).map (O.ren (c6 a b))else σ.obj nm,σ.pre,σ.base⟩
theorem Ox{σ:S}(a b:Name)(ha:own σ.pre a=true)(hb:own σ.pre b=true)(hO:bS σ.pre (fun nm=>!own σ.pre nm) σ.obj):da σ (r5 a b σ):=by
 intro G φ m x w hC
 obtain⟨f,hf⟩:∃ f,f=c6 a b:=⟨_,rfl⟩
 have yU:∀ nm,f (f nm)=nm:=fun nm=>by rw[hf];exact O7 a b nm
 have Dl:∀ nm,own σ.pre nm=false->f nm=nm:=fun nm h=>by
  rw[hf]
  exact O8 (fun e=>by rw[e,ha]at h;cases h) (fun e=>by rw[e,hb]at h;cases h)
 have nT:∀ nm,(r5 a b σ).obj nm=(σ.obj (f nm)).map (O.ren f):=fun nm=>by
  show (if own σ.pre nm=true then(σ.obj (c6 a b nm)).map (O.ren (c6 a b))else σ.obj nm)=_
  rw[<-hf]
  cases ho:own σ.pre nm with
  |true=>rw[if_pos rfl]
  |false=>
   rw[if_neg (by simp),Dl nm ho]
   cases hn:σ.obj nm with
   |none=>rfl
   |some o=>
    rw[Option.map_some,O.ren_fix (dom:=fun nm=>!own σ.pre nm) (fun x hx=>Dl x (by simpa using hx)) o (hO nm o ho hn)]
 have kK:∀ nm o,(r5 a b σ).obj nm=some o->∃ o',σ.obj (f nm)=some o'/\o=o'.ren f:=fun nm o h=>by
  rw[nT]at h
  cases hn:σ.obj (f nm)with
  |none=>rw[hn]at h;cases h
  |some o'=>rw[hn]at h;cases h;exact⟨o',rfl,rfl⟩
 have hX:tT f φ (fun nm=>φ (f nm)) σ.obj (r5 a b σ).obj (fun _=>true):=fun nm o _ ho=>
  ⟨o.ren f,by rw[nT,yU,ho];rfl,.inl ⟨O.len_ren f o,by show φ (f (f nm))=φ nm;rw[yU],O.sz_ren f o⟩⟩
 have hh:∀ nm,holds (fun nm=>φ (f nm)) (r5 a b σ).obj nm->holds φ σ.obj (f nm):=by
  rintro nm ⟨o,h1,h2,h3⟩
  obtain⟨o',h4,rfl⟩:=kK nm o h1
  exact⟨o',h4,by rw[<-O.mut_ren f];exact h2,h3⟩
 refine⟨fun nm=>φ (f nm),?_⟩
 constructor
 ·intro t
  have :(r5 a b σ).env t=(σ.env t).ren f:=by rw[hf];rfl
  rw[this]
  exact(hC.tmps t).renx (Mem.le_refl m) hX (D.clos_tt _)
 ·exact hC.size
 ·exact hC.defers
 ·intro nm o h
  obtain⟨o',h4,rfl⟩:=kK nm o h
  exact(hC.objs (f nm) o' h4).ren (Mem.le_refl m) hX (O.clos_tt o') (fun _ _=>rfl)
 ·exact hC.mem
 ·exact fun nm hn=>hC.apart (f nm) (hh nm hn)
 ·intro nm iR h1 h2 e
  have :=hC.inj _ _ (hh nm h1) (hh iR h2) e
  rw[<-yU nm,this,yU]
 ·exact fun nm hn=>hC.own (f nm) (hh nm hn)
 ·exact hC.fr
 ·exact hC.fresh
 ·refine⟨hC.kept.1,fun nm o ho=>?_⟩
  obtain⟨o',h1,h2⟩:=hC.kept.2 nm o ho
  have hn:=Dl nm (hC.kept.1 nm o ho)
  refine⟨o'.ren f,by rw[nT,hn,h1];rfl,?_⟩
  rw[O.len_ren,O.sz_ren]
  show _/\φ (f nm)=_/\_\/_
  rw[hn]
  exact h2
theorem FB{nt:Nat}{p:Name}{H:Name->Option O}{l l':List (Nat×E)}{h h':List (Name×O)}(a b:Name)(ks:List Nat)(ns:List Name)(ha:own p a=true)(hb:own p b=true)
 (hO:bS p (bK p []) H) (hn:(ns.all fun nm=>own p nm)=true)
 (hl:(ks.map fun t=>(t,(c7 eAny l t).ren (c6 a b)))=l')
 (hh:(ns.filterMap fun nm=>(c7 none (h.map fun q=>(q.1,some q.2)) (c6 a b nm)).map fun o=>(nm,o.ren (c6 a b)))=h')
 (hc:((l'.all fun q=>D.clos (bK p h') q.2.d)&&(h'.all fun q=>O.clos (bK p h') q.2))=true):cD (aO nt p H l h) (aO nt p H l' h'):=by
 have gg:bS p (fun nm=>!own p nm) H:=by
  intro x q hx hq
  have :=hO x q hx hq
  have e:bK p []=fun nm=>!own p nm:=by funext nm;simp[bK]
  rw[e]at this;exact this
 have hw:=Ox (σ:=aO nt p H l h) a b ha hb (fun nm o h1 h2=>by
  have :(aO nt p H l h).obj nm=H nm:=if_neg (by rw[show own p nm=false from h1];decide)
  rw[this]at h2
  exact gg nm o h1 h2)
 have yA:∀ nm,own p nm=true->own p (c6 a b nm)=true:=fun nm h=>by
  unfold c6
  split
  ·exact hb
  ·split
   ·exact ha
   ·exact h
 refine(hw.trans (Fits.weak (p:=p) (H:=H) (l:=l') (h:=h') ⟨rfl,fun nm an=>?_,fun q hq=>?_,fun q hq=>?_,?_,?_,?_⟩)).toM
 ·show (if own p nm=true then _ else(if own p nm=true then _ else H nm))=H nm
  rw[if_neg (by rw[an];decide),if_neg (by rw[an];decide)]
 ·rw[<-hl]at hq
  obtain⟨t,_,rfl⟩:=List.mem_map.1 hq
  rfl
 ·rw[<-hh]at hq
  obtain⟨nm,hm,e⟩:=List.mem_filterMap.1 hq
  have J8:=List.all_eq_true.1 hn nm hm
  cases ho:c7 none (h.map fun q=>(q.1,some q.2)) (c6 a b nm)with
  |none=>rw[ho]at e;cases e
  |some o=>
   rw[ho]at e
   cases e
   show (if own p nm=true then Option.map _ (if own p (c6 a b nm)=true then c7 none (h.map fun q=>(q.1,some q.2)) (c6 a b nm)else H (c6 a b nm))else _)=_
   rw[if_pos J8,if_pos (yA nm J8),ho]
   rfl
 ·rw[Bool.and_eq_true]at hc;exact hc.1
 ·rw[Bool.and_eq_true]at hc;exact hc.2
 ·exact Z9 gg h'
def Spec.ite(c:Name->List D->Bool)(s1 s2:Spec):Spec where
 app obj t ds:=if c t ds=true then s1.app obj t ds else s2.app obj t ds
 foot obj t ds:=if c t ds=true then s1.foot obj t ds else s2.foot obj t ds
 wrt obj t ds:=if c t ds=true then s1.wrt obj t ds else s2.wrt obj t ds
theorem Spec.ite_near{c:Name->List D->Bool}{s1 s2:Spec}(h1:s1.Near)(h2:s2.Near):(Spec.ite c s1 s2).Near:=by
 refine⟨fun obj obj2 t ds h=>?_,fun obj obj2 t ds h=>?_,fun obj t ds nm hn=>?_,fun obj obj2 t ds h=>?_⟩<;>simp only[Spec.ite]at *
 ·split
  ·rename_i hc;simp only[hc,if_true]at h;exact h1.like _ _ _ _ h
  ·rename_i hc;simp only[hc,if_false,Bool.false_eq_true]at h;exact h2.like _ _ _ _ h
 ·split
  ·rename_i hc;simp only[hc,if_true]at h;exact h1.foot _ _ _ _ h
  ·rename_i hc;simp only[hc,if_false,Bool.false_eq_true]at h;exact h2.foot _ _ _ _ h
 ·by_cases hc:c t ds=true
  ·rw[if_pos hc]at hn |-;exact h1.sub _ _ _ _ hn
  ·rw[if_neg hc]at hn |-;exact h2.sub _ _ _ _ hn
 ·split
  ·rename_i hc;simp only[hc,if_true]at h;exact h1.wrt _ _ _ _ h
  ·rename_i hc;simp only[hc,if_false,Bool.false_eq_true]at h;exact h2.wrt _ _ _ _ h
theorem ak.ite{P:Program}{f:FuncId}{s1 s2:Spec}(c:Name->List D->Bool)(h1:ak P f s1)(h2:ak P f s2)(aq:f≠yid):ak P f (Spec.ite c s1 s2):=by
 refine⟨Spec.ite_near h1.near h2.near,h1.enter,fun hf G φ m σ a w hC t ds us ht hl hr aa=>?_,fun e=>(aq e).elim⟩
 simp only[Spec.ite]at aa |-
 split
 ·rename_i hc
  rw[if_pos hc]at aa
  exact h1.calls hf G φ m σ a w hC t ds us ht hl hr aa
 ·rename_i hc
  rw[if_neg hc]at aa
  exact h2.calls hf G φ m σ a w hC t ds us ht hl hr aa
def uJ(s:Stk)(j z:Nat):List V:=if j<z then(s.un.get j).map encPa else[]
def ep(nm:Name)(s:Stk)(j z:Nat):List D:=(hM s z).set (1+j) (.msl nm (uJ s j z).length)
theorem zy{dom:Name->Bool}{nm:Name}{n:Nat}:∀ {cs:List D} {i:Nat},D.closL dom cs=true->D.closL dom (cs.set i (.msl nm n))=(dom nm||decide (cs.length<=i))
 |[],i,_=>by simp[D.closL]
 |d::r,0,h=>by
  simp only[D.closL,Bool.and_eq_true]at h
  simp[D.closL,D.clos,h.2]
 |d::r,i+1,h=>by
  simp only[D.closL,Bool.and_eq_true]at h
  simp only[List.set_cons_succ,D.closL,h.1,Bool.true_and,zy h.2,List.length_cons,Nat.add_le_add_iff_right]
@[go_sem] theorem aeO(dom:Name->Bool)(nm:Name)(s:Stk)(j z:Nat):D.closL dom (ep nm s j z)=(dom nm||decide (19<=1+j)):=zy (YJ dom s z)
@[go_sem] theorem wm(nm:Name)(s:Stk)(j z:Nat):(ep nm s j z).length=19:=by
  unfold ep;rw[List.length_set];rfl
@[go_sem] theorem aeP(nm:Name)(s:Stk)(j z:Nat):(ep nm s j z).take 19=ep nm s j z:=List.take_of_length_le (by rw[wm];exact Nat.le_refl _)
@[go_sem] theorem aeN(nm:Name)(s:Stk)(j z:Nat):(ep nm s j z).drop 19=[]:=List.drop_of_length_le (by rw[wm];exact Nat.le_refl _)
theorem ZH{a:D}{r:List D}{j:Nat}(h:j<6):(a:: .nilsl:: .nilsl:: .nilsl:: .nilsl:: .nilsl:: .nilsl::r)[1+j]?=some .nilsl:=by
 match j,h with
 | 0,_=>rfl
 | 1,_=>rfl
 | 2,_=>rfl
 | 3,_=>rfl
 | 4,_=>rfl
 | 5,_=>rfl
theorem Mh(nm:Name)(s:Stk){i j:Nat}(hi:i<6)(hj:j<6)(h:i≠j):List.take (1+i) (ep nm s j i)++[D.v (.sl ((s.un.get i).map encPa))]++List.drop (1+i+1) (ep nm s j i)=ep nm s j (i+1):=by
 match i,hi with
 | 0,_=>match j,hj with
   | 0,_=>exact absurd rfl h
   | 1,_=>rfl
   | 2,_=>rfl
   | 3,_=>rfl
   | 4,_=>rfl
   | 5,_=>rfl
 | 1,_=>match j,hj with
   | 0,_=>rfl
   | 1,_=>exact absurd rfl h
   | 2,_=>rfl
   | 3,_=>rfl
   | 4,_=>rfl
   | 5,_=>rfl
 | 2,_=>match j,hj with
   | 0,_=>rfl
   | 1,_=>rfl
   | 2,_=>exact absurd rfl h
   | 3,_=>rfl
   | 4,_=>rfl
   | 5,_=>rfl
 | 3,_=>match j,hj with
   | 0,_=>rfl
   | 1,_=>rfl
   | 2,_=>rfl
   | 3,_=>exact absurd rfl h
   | 4,_=>rfl
   | 5,_=>rfl
 | 4,_=>match j,hj with
   | 0,_=>rfl
   | 1,_=>rfl
   | 2,_=>rfl
   | 3,_=>rfl
   | 4,_=>exact absurd rfl h
   | 5,_=>rfl
 | 5,_=>match j,hj with
   | 0,_=>rfl
   | 1,_=>rfl
   | 2,_=>rfl
   | 3,_=>rfl
   | 4,_=>rfl
   | 5,_=>exact absurd rfl h
theorem w8(s:Stk){i j:Nat}(h:i≠j):uJ s j i=uJ s j (i+1):=by
 unfold uJ
 by_cases h1:j<i
 ·rw[if_pos h1,if_pos (by omega)]
 ·rw[if_neg h1,if_neg (by omega)]
theorem FI(s:Stk)(j:Nat):uJ s j (j+1)=(s.un.get j).map encPa:=if_pos (Nat.lt_succ_self j)
theorem YK(s:Stk){j:Nat}(hj:j<6):D.renL (c6 [24,0] [99,0]) (List.take (1+j) (ep [99,0] s j j)++[D.msl [24,0] (s.un.get j).length]++List.drop (1+j+1) (ep [99,0] s j j))=ep [99,0] s j (j+1):=by
 match j,hj with
 | 0,_=>simp[ep,hM,pM,uJ,D.renL,D.ren,c6,bg.get]
 | 1,_=>simp[ep,hM,pM,uJ,D.renL,D.ren,c6,bg.get]
 | 2,_=>simp[ep,hM,pM,uJ,D.renL,D.ren,c6,bg.get]
 | 3,_=>simp[ep,hM,pM,uJ,D.renL,D.ren,c6,bg.get]
 | 4,_=>simp[ep,hM,pM,uJ,D.renL,D.ren,c6,bg.get]
 | 5,_=>simp[ep,hM,pM,uJ,D.renL,D.ren,c6,bg.get]
theorem Mi(s:Stk)(j:Nat):List.set [D.v (V.sl (List.map vInt s.ho)),D.nilsl,D.nilsl,D.nilsl,D.nilsl,D.nilsl,D.nilsl,D.v (vInt s.se.a),D.v (vInt s.se.b),D.v (vInt s.se.c),D.v (vInt s.se.d),D.v (vInt s.se.e),D.v (vInt s.se.f),D.v (vInt s.ta.a),D.v (vInt s.ta.b),D.v (vInt s.ta.c),D.v (vInt s.ta.d),D.v (vInt s.ta.e),D.v (vInt s.ta.f)] (1+j) (D.msl [99,0] 0)=ep [99,0] s j 0:=rfl
theorem uJ0(s:Stk)(j:Nat):uJ s j 0=[]:=rfl
@[go_sem] theorem Mp(dom:Name->Bool)(l:List V)(i:Nat)(nm:Name)(n:Nat):D.closL dom ((List.map D.v l).set i (.msl nm n))=(dom nm||decide (l.length<=i)):=by
  rw[zy (pO dom l),List.length_map]
@[go_sem] theorem mD(l:List V)(i:Nat)(d:D):((List.map D.v l).set i d).length=l.length:=by simp
@[go_sem] theorem ado(s:Stk)(i:Nat)(d:D):List.take 19 ((List.map D.v (ax s)).set i d)=(List.map D.v (ax s)).set i d:=List.take_of_length_le (by rw[mD];exact Nat.le_refl _)
@[go_sem] theorem LO(s:Dk)(i:Nat)(d:D):List.take 63 ((List.map D.v (al s)).set i d)=(List.map D.v (al s)).set i d:=List.take_of_length_le (by rw[mD];exact Nat.le_refl _)
theorem w9(s:Stk){j:Nat}(hj:j<6):uJ s j 6=(s.un.get j).map encPa:=if_pos hj
theorem pN{dom:Name->Bool}{cs:List D}:D.closL dom cs=true↔∀ d∈cs,D.clos dom d=true:=by
 induction cs with
 |nil=>simp[D.closL]
 |cons d r ih=>simp[D.closL,ih]
@[go_sem] theorem aeQ{dom:Name->Bool}{cs:List D}(n:Nat)(h:D.closL dom cs=true):D.closL dom (cs.take n)=true:=pN.2 fun d hd=>pN.1 h d (List.mem_of_mem_take hd)
@[go_sem] theorem aeS{dom:Name->Bool}{cs:List D}(n:Nat)(h:D.closL dom cs=true):D.closL dom (cs.drop n)=true:=pN.2 fun d hd=>pN.1 h d (List.mem_of_mem_drop hd)
theorem YL(nm:Name)(s:Stk){j:Nat}(hj:j<6):ep nm s j 6=(List.map D.v (ax s)).set (1+j) (.msl nm (s.un.get j).length):=by
 unfold ep
 rw[Mg,uJ,if_pos hj,List.length_map]
theorem FC{σ τ:S}(p:Prop)[Decidable p](h1:p->cD σ τ)(h2:¬ p->cD σ τ):cD σ τ:=by
 by_cases h:p
 ·exact h1 h
 ·exact h2 h
noncomputable def Ag(j:Nat):NSpec:=n1 de (fun s=>gp s) (fun s=>[([99,0],.arr 2 ((s.un.get j).map encPa))]) (fun s=>.agg ((List.map D.v (ax s)).set (1+j) (.msl [99,0] (s.un.get j).length)))
noncomputable def Fb(j:Nat):Spec:=(Ag j).toSpec
attribute [go_sem] Ag Fb
set_option maxHeartbeats 4000000 in
theorem UJ(j:Nat)(hj:j<6):ak Tryz.prog 62 (Fb j):=by
 refine xN (nt:=28) (rs:=[.cell 2 27]) Tryz.func62 rfl (by rfl) (by kernel_rfl) (by kernel_rfl) (by decide) ?_
 intro xs hp
 obtain⟨s,rfl,hp,gd,ed⟩:=xS hp
 replace gd:(Ag j).new _=_:=gd
 replace ed:(Ag j).d _=_:=ed
 rw[gd,ed]
 clear gd ed
 refine⟨lb rfl,?_⟩
 have hP:=aU
 simp only[iI,iB,dQ,iI,iB,o8,dQ,qB,iS,de,lK,bf,gv,uW,iC,iF,encPa,jg,rF,eE,l7,List.map_cons,List.map_nil,ef,Nat.zero_add]
 have hΓ:=@j9 Tryz.prog
 have a8:gp s:=hp
 have yz:=a8.1
 repeat refine sq ?_
 refine rx hΓ [1,2] [[1,0],[2,0],[8,0],[24,0],[99,0]] (fun K' hK=>by simp only[go_sem];(repeat (refine⟨ah,?_⟩));exact hK _ (by simp only[go_sem]) (by simp only[go_sem]<;>rfl)) ?_
 refine aF (bo [1,0] (ax s) rfl [1,2] [[1,0],[2,0],[8,0],[24,0],[99,0]] ?_ rfl) ?_
 ·simp only[go_sem]
 simp only[go_sem]
 repeat refine sq ?_
 refine dx hΓ hP [[],[],[1],[0,1,2],[],[4],[],[6],[0,1,2,3,4,5,6,7],[],[0,1,2,3,4,5,6,7,8,9]] [1,2,3] [[1,0],[2,0],[3,0],[8,0],[24,0],[99,0]] (by kernel_rfl) (fun K' hK=>by simp only[go_sem,bg.L,id_eq];(repeat (refine⟨ah,?_⟩));(first | refine⟨by rfl,?_⟩ | skip);exact hK _ (by simp only[go_sem]) (by simp only[go_sem]<;>rfl)) ?_
 refine aF (lu [3,0] [8,0] 0 _ _ _ _ rfl rfl rfl (by first | rfl | (simp only[List.length_map];done)) [1,2,3] [[1,0],[2,0],[3,0]] ?_ rfl) ?_
 ·simp only[go_sem,List.set_cons_succ,List.set_cons_zero]
 simp only[go_sem,List.set_cons_succ,List.set_cons_zero]
 refine aF (Aq [3,0] [99,0] (1+j) 2 _ rfl (ZH hj) rfl [1,2,3] [[1,0],[2,0],[3,0],[99,0]] ?_ rfl) ?_
 ·simp only[go_sem,Mi]
 simp only[go_sem,Mi]
 repeat refine sq ?_
 refine rx hΓ [1,2,3,4] [[1,0],[2,0],[3,0],[8,0],[24,0],[99,0]] (fun K' hK=>by simp only[go_sem];(repeat (refine⟨ah,?_⟩));exact hK _ (by simp only[go_sem]) (by simp only[go_sem]<;>rfl)) ?_
 repeat refine sq ?_
 refine aN ?_
 repeat refine sq ?_
 refine cB (fun z:Nat=>[(4,⟨true,.v (vInt z)⟩)]) (fun z=>[([3,0],.box (ep [99,0] s j z)),([99,0],.arr 2 (uJ s j z))]) (fun z=>z<=6) (fun z=>6-z) 0 ?_ ?_ ?_ ?_
 ·exact Nat.zero_le _
 ·rfl
 ·rfl
 rintro i hi
 simp only[go_sem]
 repeat refine sq ?_
 refine rx hΓ [1,2,3,4,15] [[1,0],[2,0],[3,0],[8,0],[24,0],[99,0]] (fun K' hK=>by simp only[go_sem];(repeat (refine⟨ah,?_⟩));exact hK _ (by simp only[go_sem]) (by simp only[go_sem]<;>rfl)) ?_
 repeat refine sq ?_
 refine aw rfl rfl (fun hb=>?_) (fun hb=>?_)
 ·have ae:i<6:=by have hq:(i:Int)<6:=(by simpa using hb);omega
  have aj:(i:Int)<6:=by omega
  clear hb
  have gw:=a8.2 i ae
  repeat refine sq ?_
  refine ay ?_
  repeat refine sq ?_
  refine aN ?_
  repeat refine sq ?_
  refine aS hΓ fun K' hK=>?_
  simp only[go_sem,Int.toNat_natCast,Int.natCast_nonneg,aj,cL s ae,Int.toNat_natCast,Int.natCast_nonneg,aj]
  repeat (refine⟨ah,?_⟩)
  refine hK _ ?_
  clear K' hK
  refine aF (lr [1,2,3,4] [[1,0],[2,0],[3,0],[24,0],[99,0]] ?_ rfl) ?_
  ·simp only[go_sem]
  simp only[go_sem]
  refine aF (σ':=aO 28 [0] (fun _=>none) [(1,⟨true,.ref [1,0] 0⟩),(2,⟨true,.ref [2,0] 0⟩),(3,⟨true,.ref [3,0] 0⟩),(4,⟨true,.v (vInt i)⟩)] ([([1,0],.fbox (ax s))]++[([2,0],.box [.nilsl,.nilsl,.nilsl,.nilsl,.nilsl,.nilsl,.nilsl,.v (.int .i64 0),.v (.int .i64 0),.v (.int .i64 0),.v (.int .i64 0),.v (.int .i64 0),.v (.int .i64 0),.v (.int .i64 0),.v (.int .i64 0),.v (.int .i64 0),.v (.int .i64 0),.v (.int .i64 0),.v (.int .i64 0)]),([3,0],.box (ep [99,0] s j (i+1))),([99,0],.arr 2 (uJ s j (i+1)))])) (FC (i=j) (fun eC=>?_) (fun eC=>?_)) ?_
  ·subst eC
   refine FB (p:=[0]) [24,0] [99,0] [1,2,3,4] [[1,0],[2,0],[3,0],[99,0]] rfl rfl ?_ ?_ ?_ ?_ ?_
   ·simp only[go_sem]
   ·simp only[go_sem]
   ·simp only[go_sem,E.ren,D.ren,c6]
   ·simp only[go_sem,O.ren,YK s ae,FI,c6]
   ·simp only[go_sem]
  ·refine lu [3,0] [24,0] (1+i) _ _ _ _ rfl (xT (by show 1+i<(ep _ s j i).length;rw[wm];omega)) rfl (by simp only[List.length_map]) [1,2,3,4] [[1,0],[2,0],[3,0],[99,0]] ?_ ?_
   ·simp only[go_sem,o3 (show 1+i<(ep [99,0] s j i).length by rw[wm];omega),Mh [99,0] s ae hj eC,<-w8 s eC]
   ·simp only[go_sem,o3 (show 1+i<(ep [99,0] s j i).length by rw[wm];omega),Mh [99,0] s ae hj eC,<-w8 s eC]
  simp only[go_sem]
  refine kp [1,2,3,4] [[1,0],[2,0],[3,0],[8,0],[24,0],[99,0]] ?_
  repeat refine sq ?_
  refine aS hΓ fun K' hK=>?_
  simp only[go_sem,Int.toNat_natCast,Int.natCast_nonneg,aj]
  repeat (refine⟨ah,?_⟩)
  refine hK _ ?_
  clear K' hK
  simp only[go_sem]
  refine⟨i+1,ae,by(show 6-(i+1)<6-i;omega),?_⟩
  refine bk [1,2,3,4] [[1,0],[2,0],[3,0],[8,0],[24,0],[99,0]] ?_ ?_
  ·simp only[go_sem,aE ae (lb rfl:(6:Nat)<=maxLen),Int.natCast_add,Int.natCast_one]
  ·simp only[go_sem,aE ae (lb rfl:(6:Nat)<=maxLen),Int.natCast_add,Int.natCast_one]
 ·have aX:i=6:=by
   have :¬ (i:Int)<6:=by simpa using hb
   omega
  clear hb
  subst aX
  repeat refine sq ?_
  refine b7 ?_
  simp only[go_sem]
  refine kp [2,3] [[2,0],[3,0],[8,0],[24,0],[99,0]] ?_
  repeat refine sq ?_
  refine rx hΓ [2] [[2,0],[8,0],[24,0],[99,0]] (fun K' hK=>by simp only[go_sem,YL [99,0] s hj,w9 s hj];(repeat (refine⟨ah,?_⟩));exact hK _ (by simp only[go_sem]) (by simp only[go_sem]<;>rfl)) ?_
  refine ar ?_
  simp only[go_sem]
  trace_state
def xM:D->D
 | .nilsl=>.v (.sl [])
 |d=>d
theorem OI{σ:S}(b:Name)(cs:List D)(hb:σ.obj b=some (.box cs)):cD σ ⟨σ.nt,σ.env,upd σ.obj b (some (.box (cs.map xM))),σ.pre,σ.base⟩:=by
 intro G φ m a w hC
 obtain⟨h1,h2,h3,us,T,f,h4,h5,h6,h7⟩:=hC.objs b _ hb
 have gM:=Ext.same (φ:=φ) (o':=.box (cs.map xM)) hb rfl rfl
 have qI:=gM
 rw[dX]at qI
 refine⟨_,m,hC.chg (w':=w) b (.box (cs.map xM)) _ gM ⟨rfl,rfl,rfl,Nat.le_refl _⟩ (fun _ _ _=>rfl) (fun _=>.inr ⟨⟨_,hb,rfl,h2⟩,rfl⟩) ?_⟩
 rw[dX]
 refine⟨h1,h2,fun d hd=>?_,us,T,f,h4,h5,by rw[List.length_map];exact h6,fun j hj ej=>?_⟩
 ·obtain⟨x,hx,rfl⟩:=List.mem_map.1 hd
  have :=h3 x hx
  cases x<;>first | exact this | rfl
 ·have yR:j<cs.length:=by simpa using hj
  simp only[List.getElem_map]
  have :=(h7 j yR ej).ext (Mem.le_refl m) qI
  generalize cs[j]=d at this
  cases d with
  |nilsl=>
   generalize us[j]=u at this
   cases this with
   |nilsl a=>exact .v _ _ (.slnil a 0)
  |_=>exact this
theorem OH{σ τ:S}(b:Name)(cs jS:List D)(hb:σ.obj b=some (.box cs))(hl:cs.map xM=jS)(ks:List Nat)(ns:List Name)
 (h:eN ks ns ⟨σ.nt,σ.env,upd σ.obj b (some (.box jS)),σ.pre,σ.base⟩) (hk:eT ks ns ⟨σ.nt,σ.env,upd σ.obj b (some (.box jS)),σ.pre,σ.base⟩=τ):cD σ τ:=by
 subst hl
 exact(OI b cs hb).trans (lr ks ns h hk)
theorem Oy{σ:S}(nm:Name)(sz:Nat)(hn:σ.obj nm=none):da σ ⟨σ.nt,σ.env,upd σ.obj nm (some (.arr sz [])),σ.pre,σ.base⟩:=by
 intro G φ m a w hC
 have hx:=Ext.new (φ:=φ) hn ⟨0,0,0,true,none⟩ (.arr sz [])
 exact⟨_,hC.chg (w':=w) nm (.arr sz []) ⟨0,0,0,true,none⟩ hx ⟨rfl,rfl,rfl,Nat.le_refl _⟩ (fun _ _ _=>rfl) (fun h=>by cases h) (.inl ⟨rfl,rfl⟩)⟩
theorem OD{σ τ:S}(nm:Name)(sz:Nat)(hn:σ.obj nm=none)(ks:List Nat)(ns:List Name)
 (h:eN ks ns ⟨σ.nt,σ.env,upd σ.obj nm (some (.arr sz [])),σ.pre,σ.base⟩) (hk:eT ks ns ⟨σ.nt,σ.env,upd σ.obj nm (some (.arr sz [])),σ.pre,σ.base⟩=τ):cD σ τ:=
 (Oy nm sz hn).toM.trans (lr ks ns h hk)
theorem A0(f:Name->Name)(l:List V)(i:Nat)(nm:Name)(n:Nat):D.renL f ((List.map D.v l).set i (.msl nm n))=(List.map D.v l).set i (.msl (f nm) n):=by
 rw[gr,List.map_set,List.map_map]
 rfl
attribute [go_sem] A0
theorem Zo(s:Stk)(i:Nat)(x:D)(X:List D):List.take 61 ((List.map D.v (ax s)).set i x++X)=(List.map D.v (ax s)).set i x++List.take 42 X:=by
 rw[List.take_append,mD,List.take_of_length_le (by rw[mD];exact lb rfl)]
 rfl
theorem Zn(s:Stk)(i:Nat)(x:D)(X:List D):List.drop 62 ((List.map D.v (ax s)).set i x++X)=List.drop 43 X:=by
 rw[List.drop_append,mD,List.drop_of_length_le (by rw[mD];exact lb rfl),List.nil_append]
 rfl
noncomputable def Fc(j:Nat):Spec:=Spec.ite (fun t _=>decide (t.headD 0=9)) (Fb j) S62
attribute [go_sem] Fc Spec.ite List.headD_cons decide_true decide_false
theorem UK{j:Nat}(hj:j<6):ak Tryz.prog 62 (Fc j):=(UJ j hj).ite _ qv (by decide)
noncomputable def NI(j:Nat):List (Nat×Spec):=[(62,Fc j)]
attribute [go_sem] NI
theorem aao{j:Nat}(hj:j<6):∀ f s,tbl (NI j) f=some s->ak Tryz.prog f s:=tc (UK hj)<|tn
def jh(nm:Name)(d:Dk)(j:Nat):List D:=(List.map D.v (al d)).set (2+j) (.msl nm (d.now.un.get j).length)
@[go_sem] theorem aeB(dom:Name->Bool)(nm:Name)(d:Dk)(j:Nat):D.closL dom (jh nm d j)=(dom nm||decide (63<=2+j)):=Mp dom (al d) _ nm _
@[go_sem] theorem Yr(nm:Name)(d:Dk)(j:Nat):(jh nm d j).length=63:=mD _ _ _
@[go_sem] theorem aeC(nm:Name)(d:Dk)(j:Nat):(jh nm d j).take 63=jh nm d j:=LO d _ _
@[go_sem] theorem aeA(nm:Name)(d:Dk)(j:Nat):(jh nm d j).drop 63=[]:=List.drop_of_length_le (by rw[Yr];exact Nat.le_refl _)
theorem LQ(nm:Name)(d:Dk){i j:Nat}(h:i<2)(hj:j<6):List.take (20+i*21) (jh nm (l9 d i) j)++List.map D.v (cj ⟨(d.pg i).co,(d.pg i).st,(d.pg i).su⟩)++List.drop (20+i*21+21) (jh nm (l9 d i) j)=jh nm (l9 d (i+1)) j:=by
 match i,h with
 | 0,_=>match j,hj with
   | 0,_=>rfl
   | 1,_=>rfl
   | 2,_=>rfl
   | 3,_=>rfl
   | 4,_=>rfl
   | 5,_=>rfl
 | 1,_=>match j,hj with
   | 0,_=>rfl
   | 1,_=>rfl
   | 2,_=>rfl
   | 3,_=>rfl
   | 4,_=>rfl
   | 5,_=>rfl
noncomputable def Ah(j:Nat):NSpec:=n1 bf (fun d=>di d) (fun d=>[([99,0,9,0],.arr 2 ((d.now.un.get j).map encPa))]) (fun d=>.agg (jh [99,0,9,0] d j))
noncomputable def Ff(j:Nat):Spec:=(Ah j).toSpec
attribute [go_sem] Ah Ff
set_option maxHeartbeats 4000000 in
theorem UO(j:Nat)(hj:j<6):ak Tryz.prog 57 (Ff j):=by
 refine xN (nt:=38) (rs:=[.cell 2 32]) Tryz.func57 rfl (by rfl) (by kernel_rfl) (by kernel_rfl) (by decide) ?_
 intro xs hp
 obtain⟨d,rfl,hp,gd,ed⟩:=xS hp
 replace gd:(Ah j).new _=_:=gd
 replace ed:(Ah j).d _=_:=ed
 rw[gd,ed]
 clear gd ed
 refine⟨lb rfl,?_⟩
 have hP:=aU
 simp only[iI,iB,dQ,iI,iB,o8,dQ,qB,iS,de,lK,bf,gv,uW,iC,iF,encPa,jg,rF,eE,l7,List.map_cons,List.map_nil,ef,Nat.zero_add]
 have hΓ:=aao hj
 have hs:di d:=hp
 have iU:=hs.now
 repeat refine sq ?_
 refine rx hΓ [1,2] [[1,0],[2,0],[99,0,9,0]] (fun K' hK=>by simp only[go_sem];(repeat (refine⟨ah,?_⟩));exact hK _ (by simp only[go_sem]) (by simp only[go_sem]<;>rfl)) ?_
 refine aF (e8 [2,0] _ (al zD) rfl rfl [1,2] [[1,0],[2,0],[99,0,9,0]] ?_ rfl) ?_
 ·simp only[go_sem]
 simp only[go_sem]
 refine aF (bo [1,0] (al d) rfl [1,2] [[1,0],[2,0],[99,0,9,0]] ?_ rfl) ?_
 ·simp only[go_sem]
 simp only[go_sem]
 repeat refine sq ?_
 refine dx hΓ hP [[],[0],[],[2],[2,3],[],[5],[0,1,2,3,4,5,6],[],[0,1,2,3,4,5,6,7,8]] [1,2,3] [[1,0],[2,0],[3,0],[99,0,9,0]] (by kernel_rfl) (fun K' hK=>by simp only[go_sem,iU,List.append_nil,List.length_append,List.length_cons,List.length_nil,Nat.reduceAdd,Nat.reduceLeDiff,Zo,Zn];(repeat (refine⟨ah,?_⟩));(first | refine⟨by rfl,?_⟩ | skip);exact hK _ (by simp only[go_sem]) (by simp only[go_sem]<;>rfl)) ?_
 refine aF (OH [3,0] _ (jh [99,0,9,0] (l9 d 0) j) rfl (by rcases(show j=0\/j=1\/j=2\/j=3\/j=4\/j=5 by omega)with e | e | e | e | e | e<;>subst e<;>rfl) [1,2,3] [[1,0],[2,0],[3,0],[99,0,9,0]] ?_ rfl) ?_
 ·simp only[go_sem]
 simp only[go_sem]
 repeat refine sq ?_
 refine rx hΓ [1,2,3,4] [[1,0],[2,0],[3,0],[99,0,9,0]] (fun K' hK=>by simp only[go_sem];(repeat (refine⟨ah,?_⟩));exact hK _ (by simp only[go_sem]) (by simp only[go_sem]<;>rfl)) ?_
 repeat refine sq ?_
 refine aN ?_
 repeat refine sq ?_
 refine cB (fun z:Nat=>[(4,⟨true,.v (vInt z)⟩)]) (fun z=>[([3,0],.box (jh [99,0,9,0] (l9 d z) j))]) (fun z=>z<=2) (fun z=>2-z) 0 ?_ ?_ ?_ ?_
 ·exact Nat.zero_le _
 ·rfl
 ·rfl
 rintro i hi
 simp only[go_sem]
 repeat refine sq ?_
 refine rx hΓ [1,2,3,4,14] [[1,0],[2,0],[3,0],[99,0,9,0]] (fun K' hK=>by simp only[go_sem];(repeat (refine⟨ah,?_⟩));exact hK _ (by simp only[go_sem]) (by simp only[go_sem]<;>rfl)) ?_
 repeat refine sq ?_
 refine aw rfl rfl (fun hb=>?_) (fun hb=>?_)
 ·have ae:i<2:=by have hq:(i:Int)<2:=(by simpa using hb);omega
  have aj:(i:Int)<2:=by omega
  clear hb
  have gP:=hs.pg i ae
  repeat refine sq ?_
  refine ay ?_
  repeat refine sq ?_
  refine aN ?_
  repeat refine sq ?_
  refine tI hΓ hP [[],[],[],[1,2],[1,2,3],[1,2,3,4],[],[],[6,7],[6,7,8],[6,7,8,9],[6,7,8,9,10],[],[],[12,13],[12,13,14],[12,13,14,15],[1,2,3,4,5,6,7,8,9,10,11,12,13,14,15,16],[],[0,1,2,3,4,5,6,7,8,9,10,11,12,13,14,15,16,17,18],[0,1,2,3,4,5,6,7,8,9,10,11,12,13,14,15,16,17,18,19]] (by kernel_rfl) fun K' hK=>?_
  simp only[go_sem,Int.toNat_natCast,Int.natCast_nonneg,aj,Nat.add_zero,gP,g' d ae,v8 d ae,rG d ae,Int.toNat_natCast,Int.natCast_nonneg,aj,List.append_nil]
  repeat (refine⟨ah,?_⟩)
  first | refine⟨by rfl,?_⟩ | skip
  refine hK _ ?_
  clear K' hK
  simp only[go_sem]
  refine kp [1,2,3,4] [[1,0],[2,0],[3,0],[99,0,9,0]] ?_
  repeat refine sq ?_
  refine aS hΓ fun K' hK=>?_
  simp only[go_sem,Int.toNat_natCast,Int.natCast_nonneg,aj]
  repeat (refine⟨ah,?_⟩)
  refine hK _ ?_
  clear K' hK
  simp only[go_sem]
  refine⟨i+1,ae,by(show 2-(i+1)<2-i;omega),?_⟩
  refine bk [1,2,3,4] [[1,0],[2,0],[3,0],[99,0,9,0]] ?_ ?_
  ·simp only[go_sem,aE ae (lb rfl:(2:Nat)<=maxLen),Int.natCast_add,Int.natCast_one,LQ [99,0,9,0] d ae hj]
  ·simp only[go_sem,aE ae (lb rfl:(2:Nat)<=maxLen),Int.natCast_add,Int.natCast_one,LQ [99,0,9,0] d ae hj]
 ·have aX:i=2:=by
   have :¬ (i:Int)<2:=by simpa using hb
   omega
  clear hb
  subst aX
  repeat refine sq ?_
  refine b7 ?_
  simp only[go_sem]
  refine kp [2,3] [[2,0],[3,0],[99,0,9,0]] ?_
  repeat refine sq ?_
  refine rx hΓ [2] [[2,0],[99,0,9,0]] (fun K' hK=>by simp only[go_sem,LN,List.append_nil];(repeat (refine⟨ah,?_⟩));exact hK _ (by simp only[go_sem]) (by simp only[go_sem]<;>rfl)) ?_
  refine ar ?_
  simp only[go_sem]
  skip
def gi(l:List Int)(p:Int)(z:Nat):List Int:=(l.take z).filter fun x=>x != p
def Gm(s:Stk)(p:Int)(j:Nat):Stk:=⟨gi s.ho p s.ho.length,s.un.set j (s.un.get j++[⟨s.se.get j+1,p⟩]),s.se.set j (s.se.get j+1),s.ta⟩
def lI(d:Dk)(t:Int):Bool:=(((d.now.un.get t.toNat).length:Int)==40)||(d.now.se.get t.toNat==99999)
def kR(d:Dk)(p:Int):Bool:=decide ((gi d.now.ho p d.now.ho.length).length=d.now.ho.length)
def fC(d:Dk)(p t:Int):Int:=if aJ d=true then(if aP p 1 999=true then(if et d t=true then(if kR d p=true then 95 else if lI d t=true then 2 else 0)else 94)else 1)else 92
def oL(d:Dk)(p t:Int):Dk:=if fC d p t=0 then d.setN (Gm d.now p t.toNat)else zD
theorem Gi{d:Dk}{p t:Int}(h:aJ d=false):oL d p t=zD/\fC d p t=92:=by
 have :fC d p t=92:=if_neg (by rw[h];decide)
 exact⟨if_neg (by rw[this];decide),this⟩
theorem Gl{d:Dk}{p t:Int}(h:aJ d=true)(h1:aP p 1 999=false):oL d p t=zD/\fC d p t=1:=by
 have :fC d p t=1:=by unfold fC;rw[if_pos h,if_neg (by rw[h1];decide)]
 exact⟨if_neg (by rw[this];decide),this⟩
theorem Gg{d:Dk}{p t:Int}(h:aJ d=true)(h1:aP p 1 999=true)(h2:et d t=false):oL d p t=zD/\fC d p t=94:=by
 have :fC d p t=94:=by unfold fC;rw[if_pos h,if_pos h1,if_neg (by rw[h2];decide)]
 exact⟨if_neg (by rw[this];decide),this⟩
theorem Gk{d:Dk}{p t:Int}(h:aJ d=true)(h1:aP p 1 999=true)(h2:et d t=true)(h3:kR d p=true):oL d p t=zD/\fC d p t=95:=by
 have :fC d p t=95:=by unfold fC;rw[if_pos h,if_pos h1,if_pos h2,if_pos h3]
 exact⟨if_neg (by rw[this];decide),this⟩
theorem Gj{d:Dk}{p t:Int}(h:aJ d=true)(h1:aP p 1 999=true)(h2:et d t=true)(h3:kR d p=false)(h4:lI d t=true):oL d p t=zD/\fC d p t=2:=by
 have :fC d p t=2:=by unfold fC;rw[if_pos h,if_pos h1,if_pos h2,if_neg (by rw[h3];decide),if_pos h4]
 exact⟨if_neg (by rw[this];decide),this⟩
theorem Gh{d:Dk}{p t:Int}(h:aJ d=true)(h1:aP p 1 999=true)(h2:et d t=true)(h3:kR d p=false)(h4:lI d t=false):oL d p t=d.setN (Gm d.now p t.toNat)/\fC d p t=0:=by
 have :fC d p t=0:=by unfold fC;rw[if_pos h,if_pos h1,if_pos h2,if_neg (by rw[h3];decide),if_neg (by rw[h4];decide)]
 exact⟨if_pos this,this⟩
theorem Lq{l:List Int}{p:Int}{z:Nat}(h:z<l.length):gi l p (z+1)=if (l[z] != p)=true then gi l p z++[l[z]]else gi l p z:=by
 unfold gi
 rw[List.take_add_one,List.getElem?_eq_getElem h,List.filter_append]
 show _++List.filter _ [l[z]]=_
 by_cases hp:(l[z] != p)=true
 ·rw[if_pos hp]
  have :List.filter (fun x=>x != p) [l[z]]=[l[z]]:=by simp[List.filter,hp]
  rw[this]
 ·rw[if_neg hp]
  have :List.filter (fun x=>x != p) [l[z]]=[]:=by simp[List.filter,hp]
  rw[this,List.append_nil]
theorem X9{l:List Int}{p:Int}{z:Nat}(h:z<l.length)(hp:(l[z] != p)=true):gi l p (z+1)=gi l p z++[l[z]]:=by rw[Lq h,if_pos hp]
theorem Ya{l:List Int}{p:Int}{z:Nat}(h:z<l.length)(hp:(l[z] != p)=false):gi l p (z+1)=gi l p z:=by rw[Lq h,if_neg (by rw[hp];decide)]
theorem X'(l:List Int)(p:Int)(z:Nat):(gi l p z).length<=l.length:=by
 unfold gi
 refine Nat.le_trans (List.length_filter_le _ _) ?_
 rw[List.length_take];omega
def bC(d:Dk)(j:Nat)(hd:D)(nm:Name)(n:Nat)(se:Int):List D:=(((List.map D.v (al d)).set 1 hd).set (8+j) (.v (vInt se))).set (2+j) (.msl nm n)
theorem jZ{P:Nat->Prop}(h0:P 0)(h1:P 1)(h2:P 2)(h3:P 3)(h4:P 4)(h5:P 5):∀ {j:Nat},j<6->P j
 | 0,_=>h0
 | 1,_=>h1
 | 2,_=>h2
 | 3,_=>h3
 | 4,_=>h4
 | 5,_=>h5
theorem Zd(d:Dk)(nm:Name){j:Nat}(hj:j<6):jh nm d j=bC d j (.v (fa d.now.ho)) nm (d.now.un.get j).length (d.now.se.get j):=
 jZ (P:=fun j=>jh nm d j=bC d j (.v (fa d.now.ho)) nm (d.now.un.get j).length (d.now.se.get j)) rfl rfl rfl rfl rfl rfl hj
@[go_sem] theorem mj(d:Dk)(j:Nat)(hd:D)(nm:Name)(n:Nat)(se:Int):(bC d j hd nm n se).length=63:=by
  simp[bC,ma]
theorem sa{α:Type}{C:List α}{i:Nat}{x:α}(h:i<C.length):List.take i C++[x]++List.drop (i+1) C=C.set i x:=by
 rw[List.append_assoc,List.set_eq_take_append_cons_drop,if_pos h];rfl
@[go_sem] theorem ae7(d:Dk)(j:Nat)(hd fc:D)(nm:Name)(n:Nat)(se:Int):List.take 1 (bC d j hd nm n se)++[fc]++List.drop 2 (bC d j hd nm n se)=bC d j fc nm n se:=by
  rw[sa (i:=1) (by rw[mj];omega)]
  unfold bC
  rw[List.set_comm (D.msl nm n) fc (show 2+j≠1 by omega),List.set_comm (D.v (vInt se)) fc (show 8+j≠1 by omega),List.set_set]
theorem MI(d:Dk){j:Nat}(hd:D)(nm:Name)(n:Nat)(se se':Int)(hj:j<6):List.take (8+j) (bC d j hd nm n se)++[.v (vInt se')]++List.drop (8+j+1) (bC d j hd nm n se)=bC d j hd nm n se':=by
 rw[sa (by rw[mj];omega)]
 unfold bC
 rw[List.set_comm (D.msl nm n) (D.v (vInt se')) (show 2+j≠8+j by omega),List.set_set]
theorem EN(d:Dk){j:Nat}(hd:D)(nm:Name)(n n':Nat)(se:Int)(hj:j<6):List.take (2+j) (bC d j hd nm n se)++[.msl nm n']++List.drop (2+j+1) (bC d j hd nm n se)=bC d j hd nm n' se:=by
 rw[sa (by rw[mj];omega)]
 unfold bC
 rw[List.set_set]
theorem zH(d:Dk)(j:Nat)(hd:D)(nm:Name)(n:Nat)(se:Int):(bC d j hd nm n se)[1]?=some hd:=by
 unfold bC
 rw[List.getElem?_set_ne (by omega),List.getElem?_set_ne (by omega),List.getElem?_set_self (by simp[ma])]
theorem Zb(d:Dk){j:Nat}(hd:D)(nm:Name)(n:Nat)(se:Int)(hj:j<6):(bC d j hd nm n se)[8+j]?=some (.v (vInt se)):=by
 unfold bC
 rw[List.getElem?_set_ne (by omega),List.getElem?_set_self (by simp[ma];omega)]
theorem zG(d:Dk){j:Nat}(hd:D)(nm:Name)(n:Nat)(se:Int)(hj:j<6):(bC d j hd nm n se)[2+j]?=some (.msl nm n):=by
 unfold bC
 rw[List.getElem?_set_self (by simp[ma];omega)]
@[go_sem] theorem ae8(d:Dk)(j:Nat)(hd:D)(nm:Name)(n:Nat)(se:Int):(bC d j hd nm n se).getD 1 .any=hd:=by rw[List.getD_eq_getElem?_getD,zH];rfl
theorem zE(d:Dk){j:Nat}(hd:D)(nm:Name)(n:Nat)(se:Int)(hj:j<6):(bC d j hd nm n se).getD (8+j) .any=.v (vInt se):=by rw[List.getD_eq_getElem?_getD,Zb _ _ _ _ _ hj];rfl
theorem zC(d:Dk){j:Nat}(hd:D)(nm:Name)(n:Nat)(se:Int)(hj:j<6):(bC d j hd nm n se).getD (2+j) .any=.msl nm n:=by rw[List.getD_eq_getElem?_getD,zG _ _ _ _ _ hj];rfl
theorem Mq{dom:Name->Bool}{d:D}(hd:D.clos dom d=true):∀ {cs:List D} {i:Nat},D.closL dom cs=true->D.closL dom (cs.set i d)=true
 |[],i,_=>by simp[D.closL]
 |a::r,0,h=>by
  simp only[D.closL,Bool.and_eq_true]at h
  simp[D.closL,hd,h.2]
 |a::r,i+1,h=>by
  simp only[D.closL,Bool.and_eq_true]at h
  simp only[List.set_cons_succ,D.closL,h.1,Bool.true_and,Mq hd h.2]
theorem EF{dom:Name->Bool}{cs:List D}:D.closL dom cs=true↔∀ (i:Nat) (d:D),cs[i]?=some d->D.clos dom d=true:=by
 rw[pN]
 constructor
 ·intro h i d hi
  obtain⟨hl,e⟩:=List.getElem?_eq_some_iff.1 hi
  exact h d (e▸List.getElem_mem hl)
 ·intro h d hd
  obtain⟨i,hi,rfl⟩:=List.getElem_of_mem hd
  exact h i _ (List.getElem?_eq_getElem hi)
@[go_sem] theorem MJ(dom:Name->Bool)(d:Dk)(j:Nat)(hd:D)(nm:Name)(n:Nat)(se:Int):D.closL dom (bC d j hd nm n se)=(D.clos dom hd&&(dom nm||decide (63<=2+j))):=by
  rw[Bool.eq_iff_iff,EF]
  simp only[Bool.and_eq_true,Bool.or_eq_true,decide_eq_true_eq]
  constructor
  ·intro h
   refine⟨h 1 hd (zH _ _ _ _ _ _),?_⟩
   by_cases hj:63<=2+j
   ·exact .inr hj
   ·refine .inl ?_
    have :=h (2+j) (.msl nm n) (by unfold bC;rw[List.getElem?_set_self (by simp[ma];omega)])
    simpa[D.clos]using this
  ·rintro⟨h1,h2⟩ i x hi
   have ae:=(List.getElem?_eq_some_iff.1 hi).1
   rw[mj]at ae
   unfold bC at hi
   by_cases e1:2+j=i
   ·subst e1
    rw[List.getElem?_set_self (by simp[ma];omega)]at hi
    cases hi
    simp only[D.clos]
    rcases h2 with h2 | h2
    ·exact h2
    ·omega
   ·rw[List.getElem?_set_ne e1]at hi
    by_cases e2:8+j=i
    ·subst e2
     rw[List.getElem?_set_self (by simp[ma];omega)]at hi
     cases hi
     rfl
    ·rw[List.getElem?_set_ne e2]at hi
     by_cases e3:1=i
     ·subst e3
      rw[List.getElem?_set_self (by simp[ma])]at hi
      cases hi
      exact h1
     ·rw[List.getElem?_set_ne e3,List.getElem?_map]at hi
      cases hq:(al d)[i]? with
      |none=>rw[hq]at hi;cases hi
      |some y=>rw[hq]at hi;cases hi;rfl
@[go_sem] theorem Zc(d:Dk)(j:Nat)(hd:D)(nm:Name)(n:Nat)(se:Int):(bC d j hd nm n se).take 63=bC d j hd nm n se:=List.take_of_length_le (by rw[mj];exact Nat.le_refl _)
@[go_sem] theorem Za(d:Dk)(j:Nat)(hd:D)(nm:Name)(n:Nat)(se:Int):(bC d j hd nm n se).drop 63=[]:=List.drop_of_length_le (by rw[mj];exact Nat.le_refl _)
theorem wx(d:Dk)(j:Nat)(hd fc:D)(nm:Name)(n:Nat)(se:Int):(bC d j hd nm n se).set 1 fc=bC d j fc nm n se:=by
 unfold bC
 rw[List.set_comm (D.msl nm n) fc (show 2+j≠1 by omega),List.set_comm (D.v (vInt se)) fc (show 8+j≠1 by omega),List.set_set]
theorem EO(d:Dk){j:Nat}(l:List Int)(nm:Name)(n:Nat)(se:Int)(ps:List Par)(hj:j<6):(bC d j (.v (fa l)) nm n se).set (2+j) (.v (.sl (ps.map encPa)))=List.map D.v (al (d.setN ⟨l,d.now.un.set j ps,d.now.se.set j se,d.now.ta⟩)):=
 jZ (P:=fun j=>(bC d j (.v (fa l)) nm n se).set (2+j) (.v (.sl (ps.map encPa)))=List.map D.v (al (d.setN ⟨l,d.now.un.set j ps,d.now.se.set j se,d.now.ta⟩))) rfl rfl rfl rfl rfl rfl hj
@[go_sem] theorem aez(f:Name->Name)(nm:Name)(d:Dk)(j:Nat):D.renL f (jh nm d j)=jh (f nm) d j:=A0 _ _ _ _ _
theorem vZ(d:Dk){j:Nat}(h:j<6):(al d).getD (2+j) default=rowP (d.now.un.get j):=v7 d h
theorem LP(d:Dk){j:Nat}(h:j<6):(al d).getD (8+j) default=vInt (d.now.se.get j):=
 jZ (P:=fun j=>(al d).getD (8+j) default=vInt (d.now.se.get j)) rfl rfl rfl rfl rfl rfl h
theorem zF(d:Dk){j:Nat}(l:List Int)(nm:Name)(n:Nat)(se:Int)(ps:List Par)(a b:Int)(hj:j<6):(bC d j (.v (fa l)) nm n se).set (2+j) (.v (.sl (ps.map encPa++[.agg [vInt a,vInt b]])))=List.map D.v (al (d.setN ⟨l,d.now.un.set j (ps++[⟨a,b⟩]),d.now.se.set j se,d.now.ta⟩)):=by
 have h:=EO d l nm n se (ps++[(⟨a,b⟩:Par)]) hj
 rw[List.map_append]at h
 exact h
theorem G2(d:Dk)(t:Int):∃ j,j<6/\(et d t=true->t.toNat=j):=by
 by_cases h:t.toNat<6
 ·exact⟨t.toNat,h,fun _=>rfl⟩
 ·exact⟨0,by omega,fun hk=>absurd (p0 hk).2.2 h⟩
noncomputable def NH(j:Nat):List (Nat×Spec):=[(39,S39),(55,S55),(56,S56),(57,Ff j)]
attribute [go_sem] NH
theorem aan{j:Nat}(hj:j<6):∀ f s,tbl (NH j) f=some s->ak Tryz.prog f s:=tc o5<|tc JA<|tc B6<|tc (UO j hj)<|tn
noncomputable def P9:PSpec:=p3 bf iI iI (fun d _ _=>di d) (fun d p t=>.tup [eE (oL d p t),vInt (fC d p t)]) false
noncomputable def S9:Spec:=P9.toSpec
attribute [go_sem] P9 S9
set_option maxHeartbeats 4000000 in
theorem s9:aL Tryz.prog 9 P9:=by
 refine w3 (rs:=[.cell 6 32,.tmp 7]) Tryz.func9 Tryz.ntmps9 (by rfl) (by kernel_rfl) (by decide) (fun h=>by cases h) ⟨_,rfl,lb rfl,fun d p t hp hw=>?_⟩
 have hP:=aU
 simp only[bf,iI]at hw |-
 obtain⟨j,hj,lS⟩:=G2 d t
 have hΓ:=aan hj
 have hs:di d:=hp
 repeat refine sq ?_
 refine rx hΓ [1,2,3,6] [[3,0],[6,0],[56,0],[108,0]] (fun K' hK=>by simp only[go_sem];(repeat (refine⟨ah,?_⟩));exact hK _ (by simp only[go_sem]) (by simp only[go_sem]<;>rfl)) ?_
 refine aF (e8 [6,0] _ (al zD) rfl rfl [1,2,3,6] [[3,0],[6,0],[56,0],[108,0]] ?_ rfl) ?_
 ·simp only[go_sem]
 simp only[go_sem]
 refine aF (bo [3,0] (al d) rfl [1,2,3,6] [[3,0],[6,0],[56,0],[108,0]] ?_ rfl) ?_
 ·simp only[go_sem]
 simp only[go_sem]
 repeat refine sq ?_
 refine rx hΓ [1,2,3,6,13] [[3,0],[6,0],[56,0],[108,0]] (fun K' hK=>by simp only[go_sem];(repeat (refine⟨ah,?_⟩));exact hK _ (by simp only[go_sem]) (by simp only[go_sem]<;>rfl)) ?_
 repeat refine sq ?_
 refine aw rfl rfl (fun hb=>?_) (fun hb=>?_)
 ·repeat refine sq ?_
  have hd:=iA hb
  have hq:=Gi (p:=p) (t:=t) hd
  repeat refine sq ?_
  refine rx hΓ [6,7] [[6,0],[56,0],[108,0]] (fun K' hK=>by simp only[go_sem];(repeat (refine⟨ah,?_⟩));exact hK _ (by simp only[go_sem]) (by simp only[go_sem]<;>rfl)) ?_
  refine ar ?_
  simp only[go_sem]
  first | (rw[hq.1,hq.2];done) | (rw[hq.1,hq.2];rfl) | (rw[hq.1,hq.2,e1];done) | (rw[hq.1,hq.2,e1];rfl)
 ·repeat refine sq ?_
  have hd:=iz hb
  refine ay ?_
  repeat refine sq ?_
  refine rx hΓ [1,2,3,6,17] [[3,0],[6,0],[56,0],[108,0]] (fun K' hK=>by simp only[go_sem];(repeat (refine⟨ah,?_⟩));exact hK _ (by simp only[go_sem]) (by simp only[go_sem]<;>rfl)) ?_
  repeat refine sq ?_
  refine aw rfl rfl (fun hb=>?_) (fun hb=>?_)
  ·repeat refine sq ?_
   have h1:aP p 1 999=false:=by simpa using hb
   have hq:=Gl (t:=t) hd h1
   repeat refine sq ?_
   refine rx hΓ [6,7] [[6,0],[56,0],[108,0]] (fun K' hK=>by simp only[go_sem];(repeat (refine⟨ah,?_⟩));exact hK _ (by simp only[go_sem]) (by simp only[go_sem]<;>rfl)) ?_
   refine ar ?_
   simp only[go_sem]
   first | (rw[hq.1,hq.2];done) | (rw[hq.1,hq.2];rfl) | (rw[hq.1,hq.2,e1];done) | (rw[hq.1,hq.2,e1];rfl)
  ·repeat refine sq ?_
   have h1:aP p 1 999=true:=by simpa using hb
   refine ay ?_
   repeat refine sq ?_
   refine rx hΓ [1,2,3,6,8] [[3,0],[6,0],[56,0],[108,0]] (fun K' hK=>by simp only[go_sem];(repeat (refine⟨ah,?_⟩));exact hK _ (by simp only[go_sem]) (by simp only[go_sem]<;>rfl)) ?_
   repeat refine sq ?_
   refine rx hΓ [1,2,3,6,8,23] [[3,0],[6,0],[56,0],[108,0]] (fun K' hK=>by simp only[go_sem];(repeat (refine⟨ah,?_⟩));exact hK _ (by simp only[go_sem]) (by simp only[go_sem]<;>rfl)) ?_
   repeat refine sq ?_
   refine aw rfl rfl (fun hb=>?_) (fun hb=>?_)
   ·repeat refine sq ?_
    have hn:=tL hb
    have h2:et d t=false:=by unfold nj at hn;rw[hd]at hn;simpa using hn
    have hq:=Gg hd h1 h2
    have e1:=ot hd h2
    repeat refine sq ?_
    refine rx hΓ [6,7] [[6,0],[56,0],[108,0]] (fun K' hK=>by simp only[go_sem];(repeat (refine⟨ah,?_⟩));exact hK _ (by simp only[go_sem]) (by simp only[go_sem]<;>rfl)) ?_
    refine ar ?_
    simp only[go_sem]
    first | (rw[hq.1,hq.2];done) | (rw[hq.1,hq.2];rfl) | (rw[hq.1,hq.2,e1];done) | (rw[hq.1,hq.2,e1];rfl)
   ·repeat refine sq ?_
    obtain⟨_,h2⟩:=tM hb
    obtain⟨fY,gO,_⟩:=p0 h2
    have jb:=lS h2
    have aa:=mG hd
    have hol:=aa.hol
    have ph:=aa.unl j hj
    have iV:=aa.se j hj
    have hl:d.now.ho.length<=maxLen:=by unfold maxLen;omega
    have e0:=Zd d [99,0,9,0,27,0] hj
    refine ay ?_
    repeat refine sq ?_
    refine rx hΓ [1,2,3,6,9] [[3,0],[6,0],[9,0],[56,0],[108,0],[99,0,9,0,27,0],[98,0]] (fun K' hK=>by simp only[go_sem,hs,e0];(repeat (refine⟨ah,?_⟩));exact hK _ (by simp only[go_sem]) (by simp only[go_sem]<;>rfl)) ?_
    repeat refine sq ?_
    refine rx hΓ [1,2,3,6,9] [[3,0],[6,0],[9,0],[56,0],[108,0],[99,0,9,0,27,0],[98,0]] (fun K' hK=>by simp only[go_sem];(repeat (refine⟨ah,?_⟩));exact hK _ (by simp only[go_sem]) (by simp only[go_sem]<;>rfl)) ?_
    refine aF (Aq [9,0] [98,0] 1 1 _ rfl (zH _ _ _ _ _ _) rfl [1,2,3,6,9] [[3,0],[6,0],[9,0],[99,0,9,0,27,0],[98,0]] ?_ rfl) ?_
    ·simp only[go_sem,wx]
    simp only[go_sem,wx]
    repeat refine sq ?_
    refine rx hΓ [1,2,3,6,9,10] [[3,0],[6,0],[9,0],[56,0],[108,0],[99,0,9,0,27,0],[98,0]] (fun K' hK=>by simp only[go_sem];(repeat (refine⟨ah,?_⟩));exact hK _ (by simp only[go_sem]) (by simp only[go_sem]<;>rfl)) ?_
    repeat refine sq ?_
    refine aN ?_
    repeat refine sq ?_
    refine cB (fun z:Nat=>[(10,⟨true,.v (vInt z)⟩)]) (fun z=>[([9,0],.box (bC d j (.msl [98,0] (gi d.now.ho p z).length) [99,0,9,0,27,0] (d.now.un.get j).length (d.now.se.get j))),([98,0],.arr 1 ((gi d.now.ho p z).map vInt))]) (fun z=>z<=d.now.ho.length) (fun z=>d.now.ho.length-z) 0 ?_ ?_ ?_ ?_
    ·exact Nat.zero_le _
    ·rfl
    ·rfl
    rintro i hi
    simp only[go_sem]
    repeat refine sq ?_
    refine rx hΓ [1,2,3,6,9,10,35] [[3,0],[6,0],[9,0],[56,0],[108,0],[99,0,9,0,27,0],[98,0]] (fun K' hK=>by simp only[go_sem];(repeat (refine⟨ah,?_⟩));exact hK _ (by simp only[go_sem]) (by simp only[go_sem]<;>rfl)) ?_
    repeat refine sq ?_
    refine aw rfl rfl (fun hb=>?_) (fun hb=>?_)
    ·have ae:i<d.now.ho.length:=by simpa using hb
     have aj:(i:Int)<d.now.ho.length:=by omega
     clear hb
     have fB:=X' d.now.ho p i
     repeat refine sq ?_
     refine ay ?_
     repeat refine sq ?_
     refine aN ?_
     repeat refine sq ?_
     refine rx hΓ [1,2,3,6,9,10,45] [[3,0],[6,0],[9,0],[56,0],[108,0],[99,0,9,0,27,0],[98,0]] (fun K' hK=>by simp only[go_sem,aG ae,Int.toNat_natCast,Int.natCast_nonneg,aj,aG ae];(repeat (refine⟨ah,?_⟩));exact hK _ (by simp only[go_sem]) (by simp only[go_sem]<;>rfl)) ?_
     repeat refine sq ?_
     refine aw rfl rfl (fun hb=>?_) (fun hb=>?_)
     ·repeat refine sq ?_
      have mQ:(d.now.ho[i] != p)=true:=by simpa using hb
      have fy:=X9 ae mQ
      repeat refine sq ?_
      refine tI hΓ hP [[],[0],[0,1],[],[3],[3,4],[],[3,4,5,6],[3,4,5,6,7],[3,4,5,6,7,8],[0,1,2,3,4,5,6,7,8,9],[0,1,2,3,4,5,6,7,8,9,10],[0,1,2,3,4,5,6,7,8,9,10,11],[0,1,2,3,4,5,6,7,8,9,10,11,12]] (by kernel_rfl) fun K' hK=>?_
      simp only[go_sem,aG ae,Int.toNat_natCast,Int.natCast_nonneg,aj,aG ae]
      repeat (refine⟨ah,?_⟩)
      first | refine⟨by rfl,?_⟩ | skip
      refine hK _ ?_
      clear K' hK
      simp only[go_sem]
      refine kp [1,2,3,6,9,10] [[3,0],[6,0],[9,0],[56,0],[108,0],[99,0,9,0,27,0],[98,0]] ?_
      repeat refine sq ?_
      refine aS hΓ fun K' hK=>?_
      simp only[go_sem,aG ae,Int.toNat_natCast,Int.natCast_nonneg,aj]
      repeat (refine⟨ah,?_⟩)
      refine hK _ ?_
      clear K' hK
      simp only[go_sem]
      refine⟨i+1,ae,by(show d.now.ho.length-(i+1)<d.now.ho.length-i;omega),?_⟩
      refine bk [1,2,3,6,9,10] [[3,0],[6,0],[9,0],[56,0],[108,0],[99,0,9,0,27,0],[98,0]] ?_ ?_
      ·simp only[go_sem,aE ae hl,Int.natCast_add,Int.natCast_one,fy,List.map_append,List.length_append,List.map_cons,List.map_nil,List.length_cons,List.length_nil]
      ·simp only[go_sem,aE ae hl,Int.natCast_add,Int.natCast_one,fy,List.map_append,List.length_append,List.map_cons,List.map_nil,List.length_cons,List.length_nil]
     ·repeat refine sq ?_
      have mQ:(d.now.ho[i] != p)=false:=by simpa using hb
      have fy:=Ya ae mQ
      refine ay ?_
      refine dq ?_
      simp only[go_sem]
      refine kp [1,2,3,6,9,10] [[3,0],[6,0],[9,0],[56,0],[108,0],[99,0,9,0,27,0],[98,0]] ?_
      repeat refine sq ?_
      refine aS hΓ fun K' hK=>?_
      simp only[go_sem,aG ae,Int.toNat_natCast,Int.natCast_nonneg,aj]
      repeat (refine⟨ah,?_⟩)
      refine hK _ ?_
      clear K' hK
      simp only[go_sem]
      refine⟨i+1,ae,by(show d.now.ho.length-(i+1)<d.now.ho.length-i;omega),?_⟩
      refine bk [1,2,3,6,9,10] [[3,0],[6,0],[9,0],[56,0],[108,0],[99,0,9,0,27,0],[98,0]] ?_ ?_
      ·simp only[go_sem,aE ae hl,Int.natCast_add,Int.natCast_one,fy,List.map_append,List.length_append,List.map_cons,List.map_nil,List.length_cons,List.length_nil]
      ·simp only[go_sem,aE ae hl,Int.natCast_add,Int.natCast_one,fy,List.map_append,List.length_append,List.map_cons,List.map_nil,List.length_cons,List.length_nil]
    ·have aX:i=d.now.ho.length:=by
      have :¬ (i:Int)<d.now.ho.length:=by simpa using hb
      omega
     clear hb
     subst aX
     repeat refine sq ?_
     refine b7 ?_
     simp only[go_sem]
     refine kp [1,2,3,6,9] [[3,0],[6,0],[9,0],[56,0],[108,0],[99,0,9,0,27,0],[98,0]] ?_
     repeat refine sq ?_
     refine rx hΓ [1,2,3,6,9,67] [[3,0],[6,0],[9,0],[56,0],[108,0],[99,0,9,0,27,0],[98,0]] (fun K' hK=>by simp only[go_sem];(repeat (refine⟨ah,?_⟩));exact hK _ (by simp only[go_sem]) (by simp only[go_sem]<;>rfl)) ?_
     repeat refine sq ?_
     refine aw rfl rfl (fun hb=>?_) (fun hb=>?_)
     ·repeat refine sq ?_
      have h3:kR d p=true:=by
       unfold kR
       have :((gi d.now.ho p d.now.ho.length).length:Int)=d.now.ho.length:=by simpa using hb
       exact decide_eq_true (by omega)
      have hq:=Gk hd h1 h2 h3
      repeat refine sq ?_
      refine rx hΓ [6,7] [[6,0],[56,0],[108,0]] (fun K' hK=>by simp only[go_sem];(repeat (refine⟨ah,?_⟩));exact hK _ (by simp only[go_sem]) (by simp only[go_sem]<;>rfl)) ?_
      refine ar ?_
      simp only[go_sem]
      first | (rw[hq.1,hq.2];done) | (rw[hq.1,hq.2];rfl) | (rw[hq.1,hq.2,e1];done) | (rw[hq.1,hq.2,e1];rfl)
     ·repeat refine sq ?_
      have h3:kR d p=false:=by
       unfold kR
       have :¬ ((gi d.now.ho p d.now.ho.length).length:Int)=d.now.ho.length:=by simpa using hb
       exact decide_eq_false (by omega)
      refine ay ?_
      repeat refine sq ?_
      refine rx hΓ [1,2,6,9,83] [[6,0],[9,0],[56,0],[108,0],[99,0,9,0,27,0],[98,0]] (fun K' hK=>by simp only[go_sem,jb,fY,gO,vZ d hj,LP d hj];(repeat (refine⟨ah,?_⟩));exact hK _ (by simp only[go_sem]) (by simp only[go_sem]<;>rfl)) ?_
      repeat refine sq ?_
      refine aw rfl rfl (fun hb=>?_) (fun hb=>?_)
      ·repeat refine sq ?_
       have h4:lI d t=true:=by unfold lI;rw[jb];exact hb
       have hq:=Gj hd h1 h2 h3 h4
       repeat refine sq ?_
       refine rx hΓ [6,7] [[6,0],[56,0],[108,0]] (fun K' hK=>by simp only[go_sem];(repeat (refine⟨ah,?_⟩));exact hK _ (by simp only[go_sem]) (by simp only[go_sem]<;>rfl)) ?_
       refine ar ?_
       simp only[go_sem]
       first | (rw[hq.1,hq.2];done) | (rw[hq.1,hq.2];rfl) | (rw[hq.1,hq.2,e1];done) | (rw[hq.1,hq.2,e1];rfl)
      ·repeat refine sq ?_
       have h4:lI d t=false:=by unfold lI;rw[jb];exact hb
       have hq:=Gh hd h1 h2 h3 h4
       rw[jb]at hq
       have w1:IntKind.i64.wrap (d.now.se.get j+1)=d.now.se.get j+1:=by have:=iV;exact wrap_i64 (by have:=iV.1;omega) (by have:=iV.2;omega)
       refine ay ?_
       repeat refine sq ?_
       refine rx hΓ [1,2,6,9] [[6,0],[9,0],[56,0],[108,0],[99,0,9,0,27,0],[98,0]] (fun K' hK=>by simp only[go_sem,jb,fY,gO,zE d _ _ _ _ hj,MI d _ _ _ _ _ hj,w1];(repeat (refine⟨ah,?_⟩));exact hK _ (by simp only[go_sem]) (by simp only[go_sem]<;>rfl)) ?_
       repeat refine sq ?_
       refine dx hΓ hP [[],[],[],[2],[1,2,3],[1,2,3,4],[],[],[7],[6,7,8],[6,7,8,9],[],[6,7,8,9,10,11],[6,7,8,9,10,11,12],[1,2,3,4,5,6,7,8,9,10,11,12,13],[],[15],[0,1,2,3,4,5,6,7,8,9,10,11,12,13,14,15,16],[0,1,2,3,4,5,6,7,8,9,10,11,12,13,14,15,16,17]] [6,9] [[6,0],[9,0],[56,0],[108,0],[99,0,9,0,27,0],[98,0]] (by kernel_rfl) (fun K' hK=>by simp only[go_sem,jb,fY,gO,zE d _ _ _ _ hj,zC d _ _ _ _ hj,EN d _ _ _ _ _ hj];(repeat (refine⟨ah,?_⟩));(first | refine⟨by rfl,?_⟩ | skip);exact hK _ (by simp only[go_sem]) (by simp only[go_sem]<;>rfl)) ?_
       refine aF (lu [9,0] [98,0] 1 _ _ _ _ rfl (zH _ _ _ _ _ _) rfl (by simp only[List.length_map]) [6,9] [[6,0],[9,0],[99,0,9,0,27,0]] ?_ rfl) ?_
       ·simp only[go_sem,wx]
       simp only[go_sem,wx]
       refine aF (lu [9,0] [99,0,9,0,27,0] (2+j) _ _ _ _ rfl (zG _ _ _ _ _ hj) rfl (by simp only[List.length_append,List.length_map,List.length_cons,List.length_nil]) [6,9] [[6,0],[9,0]] ?_ rfl) ?_
       ·simp only[go_sem,zF d _ _ _ _ _ _ _ hj]
       simp only[go_sem,zF d _ _ _ _ _ _ _ hj]
       repeat refine sq ?_
       refine rx hΓ [6,7] [[6,0],[56,0],[108,0]] (fun K' hK=>by simp only[go_sem];(repeat (refine⟨ah,?_⟩));exact hK _ (by simp only[go_sem]) (by simp only[go_sem]<;>rfl)) ?_
       refine ar ?_
       simp only[go_sem]
       first | (rw[hq.1,hq.2];done) | (rw[hq.1,hq.2];rfl) | (rw[hq.1,hq.2,e1];done) | (rw[hq.1,hq.2,e1];rfl)
theorem k9:ak Tryz.prog 9 S9:=s9.sound
noncomputable def S77g:Spec:=rK Tryz.prog 22
noncomputable def S76g:Spec:=rK Tryz.prog 23
theorem UA:ak Tryz.prog 77 S77g:=Mt EG
theorem UB:ak Tryz.prog 76 S76g:=Mt EH
attribute [go_sem] S77g S76g
def gK(hn un:Name)(s:Stk)(j:Nat):List D:=((List.map D.v (ax s)).set 0 (.msl hn s.ho.length)).set (1+j) (.msl un (s.un.get j).length)
@[go_sem] theorem FZ(hn un:Name)(s:Stk)(j:Nat):(gK hn un s j).length=19:=by
  unfold gK;rw[List.length_set,mD];rfl
theorem Mn(dom:Name->Bool)(l:List V){i k:Nat}(hn un:Name)(a b:Nat)(hi:i<l.length)(vC:i≠k):D.closL dom (((List.map D.v l).set i (.msl hn a)).set k (.msl un b))=(dom hn&&(dom un||decide (l.length<=k))):=by
 rw[Bool.eq_iff_iff,EF]
 simp only[Bool.and_eq_true,Bool.or_eq_true,decide_eq_true_eq]
 constructor
 ·intro h
  refine⟨?_,?_⟩
  ·have:=h i (.msl hn a) (by rw[List.getElem?_set_ne vC.symm,List.getElem?_set_self (by simpa using hi)])
   simpa[D.clos]using this
  ·by_cases hk:l.length<=k
   ·exact .inr hk
   ·refine .inl ?_
    have :=h k (.msl un b) (by rw[List.getElem?_set_self (by simp;omega)])
    simpa[D.clos]using this
 ·rintro⟨h1,h2⟩ q x hq
  have ae:=(List.getElem?_eq_some_iff.1 hq).1
  simp only[List.length_set,List.length_map]at ae
  by_cases e1:k=q
  ·subst e1
   rw[List.getElem?_set_self (by simpa using ae)]at hq
   cases hq
   simp only[D.clos]
   rcases h2 with h2 | h2
   ·exact h2
   ·omega
  ·rw[List.getElem?_set_ne e1]at hq
   by_cases e2:i=q
   ·subst e2
    rw[List.getElem?_set_self (by simpa using ae)]at hq
    cases hq
    exact h1
   ·rw[List.getElem?_set_ne e2,List.getElem?_map]at hq
    cases hz:l[q]? with
    |none=>rw[hz]at hq;cases hq
    |some y=>rw[hz]at hq;cases hq;rfl
@[go_sem] theorem ady(dom:Name->Bool)(hn un:Name)(s:Stk)(j:Nat):D.closL dom (gK hn un s j)=(dom hn&&(dom un||decide (19<=1+j))):=Mn dom (ax s) hn un _ _ (lb rfl) (by omega)
theorem GJ(f:Name->Name)(l:List V)(i k:Nat)(hn un:Name)(a b:Nat):D.renL f (((List.map D.v l).set i (.msl hn a)).set k (.msl un b))=((List.map D.v l).set i (.msl (f hn) a)).set k (.msl (f un) b):=by
 rw[gr,List.map_set,List.map_set,List.map_map]
 rfl
@[go_sem] theorem Pj(f:Name->Name)(hn un:Name)(s:Stk)(j:Nat):D.renL f (gK hn un s j)=gK (f hn) (f un) s j:=GJ _ _ _ _ _ _ _ _
@[go_sem] theorem adz(hn un:Name)(s:Stk)(j:Nat):(gK hn un s j).take 19=gK hn un s j:=List.take_of_length_le (by rw[FZ];exact Nat.le_refl _)
@[go_sem] theorem adx(hn un:Name)(s:Stk)(j:Nat):(gK hn un s j).drop 19=[]:=List.drop_of_length_le (by rw[FZ];exact Nat.le_refl _)
def eu(s:Stk)(j z:Nat):List D:=((List.map D.v (ax s)).set 0 (.msl [12,0] s.ho.length)).set (1+j) (if j<z then .msl [99,0] (s.un.get j).length else .v (rowP (s.un.get j)))
@[go_sem] theorem p7(s:Stk)(j z:Nat):(eu s j z).length=19:=by
  unfold eu;rw[List.length_set,mD];rfl
@[go_sem] theorem adC(s:Stk)(j z:Nat):(eu s j z).take 19=eu s j z:=List.take_of_length_le (by rw[p7];exact Nat.le_refl _)
@[go_sem] theorem adA(s:Stk)(j z:Nat):(eu s j z).drop 19=[]:=List.drop_of_length_le (by rw[p7];exact Nat.le_refl _)
theorem AK(s:Stk){j:Nat}(hj:j<6):eu s j 6=gK [12,0] [99,0] s j:=by
 unfold eu gK;rw[if_pos hj]
theorem AL(s:Stk){j:Nat}(hj:j<6):D.msl [12,0] s.ho.length::List.drop 1 (List.map D.v (ax s))=eu s j 0:=
 jZ (P:=fun j=>D.msl [12,0] s.ho.length::List.drop 1 (List.map D.v (ax s))=eu s j 0) rfl rfl rfl rfl rfl rfl hj
theorem YR(dom:Name->Bool)(l:List V)(hn:Name)(a:Nat)(hl:0<l.length):D.closL dom ((List.map D.v l).set 0 (.msl hn a))=dom hn:=by
 rw[zy (pO dom l),List.length_map]
 have :decide (l.length<=0)=false:=decide_eq_false (by omega)
 rw[this,Bool.or_false]
@[go_sem] theorem adB(dom:Name->Bool)(s:Stk)(j z:Nat):D.closL dom (eu s j z)=(dom [12,0]&&(dom [99,0]||(decide (19<=1+j)||!decide (j<z)))):=by
  by_cases h:j<z
  ·have:=Mn dom (ax s) [12,0] [99,0] s.ho.length (s.un.get j).length (i:=0) (k:=1+j) (lb rfl) (by omega)
   unfold eu
   rw[if_pos h,this,decide_eq_true h,jo]
   simp
  ·unfold eu
   rw[if_neg h,decide_eq_false h]
   simp only[Bool.not_false,Bool.or_true,Bool.and_true]
   rw[Bool.eq_iff_iff]
   constructor
   ·intro h1
    have :=EF.1 h1 0 (.msl [12,0] s.ho.length) (by rw[List.getElem?_set_ne (by omega),List.getElem?_set_self (by exact lb rfl)])
    simpa[D.clos]using this
   ·intro h1
    have h2:=YR dom (ax s) [12,0] s.ho.length (lb rfl)
    rw[h1]at h2
    exact Mq rfl h2
theorem F6(s:Stk){i j:Nat}(hi:i<6)(hj:j<6)(h:i≠j):List.take (1+i) (eu s j i)++[D.v (.sl ((s.un.get i).map encPa))]++List.drop (1+i+1) (eu s j i)=eu s j (i+1):=by
 rw[sa (by rw[p7];omega)]
 unfold eu
 have e:(if j<i then D.msl [99,0] (s.un.get j).length else .v (rowP (s.un.get j)))=(if j<i+1 then D.msl [99,0] (s.un.get j).length else .v (rowP (s.un.get j))):=by
  by_cases h1:j<i
  ·rw[if_pos h1,if_pos (by omega)]
  ·rw[if_neg h1,if_neg (by omega)]
 rw[e,List.set_comm _ (D.v (.sl ((s.un.get i).map encPa))) (show 1+j≠1+i by omega),List.set_comm _ (D.v (.sl ((s.un.get i).map encPa))) (show 0≠1+i by omega)]
 congr 2
 exact jZ (P:=fun i=>(List.map D.v (ax s)).set (1+i) (D.v (.sl ((s.un.get i).map encPa)))=List.map D.v (ax s)) rfl rfl rfl rfl rfl rfl hi
theorem Pl(s:Stk){j:Nat}(hj:j<6):D.renL (c6 [24,0] [99,0]) (List.take (1+j) (eu s j j)++[D.msl [24,0] (s.un.get j).length]++List.drop (1+j+1) (eu s j j))=eu s j (j+1):=by
 rw[sa (by rw[p7];omega)]
 unfold eu
 rw[List.set_set,GJ,if_pos (Nat.lt_succ_self j)]
 have e1:c6 [24,0] [99,0] [12,0]=[12,0]:=by decide
 have e2:c6 [24,0] [99,0] [24,0]=[99,0]:=by decide
 rw[e1,e2]
def p6(s:Stk)(j:Nat):List (Name×O):=[([12,0],.arr 1 (s.ho.map vInt)),([99,0],.arr 2 ((s.un.get j).map encPa))]
def AH(os:List O):List V:=match os with
 |[.box cs]=>(kS cs).getD []
 |_=>[]
def AI(ds:List D):Nat:=match ds with
 |[.ref _ off]=>off
 |_=>0
noncomputable def AJ(j:Nat):CSpec where
 pre os ds:=∃ (l:List V) (off:Nat) (s:Stk),os=[.box (l.map .v)]/\ds=[.ref [0,1] off]/\(l.drop off).take 19=ax s/\gp s
 out os ds:=⟨[],p6 (eM (((AH os).drop (AI ds)).take 19)) j,.agg (gK [12,0] [99,0] (eM (((AH os).drop (AI ds)).take 19)) j)⟩
noncomputable def wN(j:Nat):Spec:=(AJ j).toSpec
theorem F5(j:Nat){l:List V}{off:Nat}{s:Stk}(h:(l.drop off).take 19=ax s):(AJ j).out [.box (l.map .v)] [.ref [0,1] off]=⟨[],p6 s j,.agg (gK [12,0] [99,0] s j)⟩:=by
 have e:eM (((AH [.box (l.map .v)]).drop (AI [.ref [0,1] off])).take 19)=s:=by
  show eM ((((kS (l.map .v)).getD []).drop off).take 19)=s
  rw[E7,Option.getD_some,h,om]
 show (⟨[],p6 _ j,.agg (gK _ _ _ j)⟩:Out)=_
 rw[e]
theorem Pk(j:Nat){l:List V}{off:Nat}{s:Stk}{obj:Name->Option O}{nm t:Name}(ho:obj nm=some (.box (l.map .v)))(h:(l.drop off).take 19=ax s)(hs:gp s):
 (wN j).app obj t [.ref nm off]=⟨fresh obj t (p6 s j)=true,.agg (gK ([12,0]++t) ([99,0]++t) s j),upd (upd obj ([12,0]++t) (some (.arr 1 (s.ho.map vInt)))) ([99,0]++t) (some (.arr 2 ((s.un.get j).map encPa)))⟩:=by
 have hr:reach obj [.ref nm off]=[nm]:=um.reach (l,off,s) [nm] obj rfl (by simp) ⟨ho,trivial⟩
 have e1:b8 obj [.ref nm off]=[.box (l.map .v)]:=by
  unfold b8
  rw[hr]
  simp only[List.map_cons,List.map_nil,bV,ho,O.ren,sg]
 have e2:cC obj [.ref nm off]=[.ref [0,1] off]:=by
  unfold cC
  rw[hr]
  simp[D.renL,D.ren,cin,idx]
 have fb:shut obj [nm]=true:=by simp[shut,ho,O.clos,pO]
 have bH:D.closL (bX [nm]) [.ref nm off]=true:=by simp[D.closL,D.clos,bX]
 have hp:(AJ j).pre [.box (l.map .v)] [.ref [0,1] off]:=⟨l,off,s,rfl,rfl,h,hs⟩
 have c1:cout [nm] t [12,0]=[12,0]++t:=rfl
 have c2:cout [nm] t [99,0]=[99,0]++t:=rfl
 simp only[wN,CSpec.toSpec,e1,e2,hr,fb,bH,Bool.true_and,hp,and_true,F5 j h,bW]
 simp only[D.ren,Pj,c1,c2,p6,cX,O.ren]
theorem Sg(l:List V):∀ hs,bS [0] (bK [0] hs) (aT [.box (l.map .v)])=True:=Ro.outC um (l,0,zS)
attribute [go_sem] p6
noncomputable def NG:List (Nat×Spec):=[(76,S76g),(77,S77g)]
attribute [go_sem] NG
theorem aam:∀ f s,tbl NG f=some s->ak Tryz.prog f s:=tc UB<|tc UA<|tn
set_option maxHeartbeats 4000000 in
theorem UM{j:Nat}(hj:j<6):ak Tryz.prog 59 (wN j):=by
 refine mf (nt:=29) (rs:=[.cell 2 27]) Tryz.func59 rfl (by rfl) (by kernel_rfl) (gG Tryz.func59 rfl (by kernel_rfl)) (nI _ (by decide)) ?_
 rintro os ds ⟨l,off,s,rfl,rfl,gB,a8⟩
 rw[F5 j gB]
 refine⟨lb rfl,hU ?_⟩
 have hΓ:=aam
 have hO:=Sg l
 have h0:aT [.box (l.map .v)] [0,1]=some (.box (l.map .v)):=rfl
 generalize aT [.box (l.map .v)]=H at *
 simp only[ef,Nat.zero_add]at h0 |-
 have yz:=a8.1
 have hA:=Me gB
 have hB:=EA gB (show 0<19 by omega)
 have hL:=Ey gB
 have kj:(l.map D.v).getD off .any=.v (fa s.ho):=hB
 repeat refine sq ?_
 refine rx hΓ [0,2] [[2,0],[12,0],[99,0]] (fun K' hK=>by simp only[go_sem,hO,h0];(repeat (refine⟨ah,?_⟩));exact hK _ (by simp only[go_sem,hO,h0]) (by simp only[go_sem,hO,h0]<;>rfl)) ?_
 repeat refine sq ?_
 refine rx hΓ [0,2,3] [[2,0],[3,0],[12,0],[99,0]] (fun K' hK=>by simp only[go_sem,hO,h0,hA,hB,hL,List.length_map,List.append_nil,jo];(repeat (refine⟨ah,?_⟩));exact hK _ (by simp only[go_sem,hO,h0,hA,hB,hL,List.length_map,List.append_nil,jo]) (by simp only[go_sem,hO,h0,hA,hB,hL,List.length_map,List.append_nil,jo]<;>rfl)) ?_
 repeat refine sq ?_
 refine rx hΓ [0,2,3] [[2,0],[3,0],[12,0],[99,0]] (fun K' hK=>by simp only[go_sem,hO,h0,Nat.add_zero,kj,a8.1,AL s hj,Nat.not_lt_zero,decide_false,Bool.not_false,Bool.or_true];(repeat (refine⟨ah,?_⟩));exact hK _ (by simp only[go_sem,hO,h0,Nat.add_zero,kj,a8.1,AL s hj,Nat.not_lt_zero,decide_false,Bool.not_false,Bool.or_true]) (by simp only[go_sem,hO,h0,Nat.add_zero,kj,a8.1,AL s hj,Nat.not_lt_zero,decide_false,Bool.not_false,Bool.or_true]<;>rfl)) ?_
 refine aF (OD [99,0] 2 rfl [0,2,3] [[2,0],[3,0],[12,0],[99,0]] ?_ rfl) ?_
 ·simp only[go_sem,hO,h0]
 simp only[go_sem,hO,h0]
 repeat refine sq ?_
 refine rx hΓ [0,2,3,14] [[2,0],[3,0],[12,0],[99,0]] (fun K' hK=>by simp only[go_sem,hO,h0];(repeat (refine⟨ah,?_⟩));exact hK _ (by simp only[go_sem,hO,h0]) (by simp only[go_sem,hO,h0]<;>rfl)) ?_
 repeat refine sq ?_
 refine aN ?_
 repeat refine sq ?_
 refine cB (fun z:Nat=>[(14,⟨true,.v (vInt z)⟩)]) (fun z=>[([3,0],.box (eu s j z)),([99,0],.arr 2 (uJ s j z))]) (fun z=>z<=6) (fun z=>6-z) 0 ?_ ?_ ?_ ?_
 ·exact Nat.zero_le _
 ·rfl
 ·rfl
 rintro i hi
 simp only[go_sem]
 repeat refine sq ?_
 refine rx hΓ [0,2,3,14,15] [[2,0],[3,0],[12,0],[99,0]] (fun K' hK=>by simp only[go_sem,hO,h0];(repeat (refine⟨ah,?_⟩));exact hK _ (by simp only[go_sem,hO,h0]) (by simp only[go_sem,hO,h0]<;>rfl)) ?_
 repeat refine sq ?_
 refine aw rfl rfl (fun hb=>?_) (fun hb=>?_)
 ·have ae:i<6:=by have hq:(i:Int)<6:=(by simpa using hb);omega
  have aj:(i:Int)<6:=by omega
  clear hb
  have hC:=Mc gB ae
  have gw:=a8.2 i ae
  repeat refine sq ?_
  refine ay ?_
  repeat refine sq ?_
  refine aN ?_
  repeat refine sq ?_
  refine rx hΓ [0,2,3,4,14] [[2,0],[3,0],[12,0],[99,0]] (fun K' hK=>by simp only[go_sem,hO,h0,Int.toNat_natCast,Int.natCast_nonneg,aj];(repeat (refine⟨ah,?_⟩));exact hK _ (by simp only[go_sem,hO,h0,Int.toNat_natCast,Int.natCast_nonneg,aj]) (by simp only[go_sem,hO,h0,Int.toNat_natCast,Int.natCast_nonneg,aj]<;>rfl)) ?_
  repeat refine sq ?_
  refine aS hΓ fun K' hK=>?_
  simp only[go_sem,hO,h0,Int.toNat_natCast,Int.natCast_nonneg,aj,hC,gw,Int.toNat_natCast,Int.natCast_nonneg,aj]
  repeat (refine⟨ah,?_⟩)
  refine hK _ ?_
  clear K' hK
  refine aF (lr [0,2,3,14] [[2,0],[3,0],[12,0],[24,0],[99,0]] ?_ rfl) ?_
  ·simp only[go_sem,hO,h0]
  simp only[go_sem,hO,h0]
  refine aF (σ':=aO 29 [0] H [(0,⟨true,.ref [0,1] off⟩),(2,⟨true,.ref [2,0] 0⟩),(3,⟨true,.ref [3,0] 0⟩),(14,⟨true,.v (vInt i)⟩)] ([([2,0],.box [.nilsl,.nilsl,.nilsl,.nilsl,.nilsl,.nilsl,.nilsl,.v (.int .i64 0),.v (.int .i64 0),.v (.int .i64 0),.v (.int .i64 0),.v (.int .i64 0),.v (.int .i64 0),.v (.int .i64 0),.v (.int .i64 0),.v (.int .i64 0),.v (.int .i64 0),.v (.int .i64 0),.v (.int .i64 0)])]++[([3,0],.box (eu s j (i+1))),([12,0],.arr 1 (s.ho.map vInt)),([99,0],.arr 2 (uJ s j (i+1)))])) (FC (i=j) (fun eC=>?_) (fun eC=>?_)) ?_
  ·subst eC
   refine FB (p:=[0]) [24,0] [99,0] [0,2,3,14] [[2,0],[3,0],[12,0],[99,0]] rfl rfl ?_ ?_ ?_ ?_ ?_
   ·simp only[hO]
   ·simp only[go_sem]
   ·simp only[go_sem,E.ren,D.ren,c6]
   ·simp only[go_sem,O.ren,Pl s ae,FI,c6]
   ·simp only[go_sem]
  ·refine lu [3,0] [24,0] (1+i) _ _ _ _ rfl (xT (by show 1+i<(eu s j i).length;rw[p7];omega)) rfl (by simp only[List.length_map]) [0,2,3,14] [[2,0],[3,0],[12,0],[99,0]] ?_ ?_
   ·simp only[go_sem,hO,h0,o3 (show 1+i<(eu s j i).length by rw[p7];omega),F6 s ae hj eC,<-w8 s eC]
   ·simp only[go_sem,hO,h0,o3 (show 1+i<(eu s j i).length by rw[p7];omega),F6 s ae hj eC,<-w8 s eC]
  simp only[go_sem]
  refine jT [0,2,3,14] [[2,0],[3,0],[12,0],[99,0]] ?_ ?_
  ·simp only[go_sem,hO,h0]
  simp only[go_sem,hO,h0]
  repeat refine sq ?_
  refine aS hΓ fun K' hK=>?_
  simp only[go_sem,hO,h0,Int.toNat_natCast,Int.natCast_nonneg,aj]
  repeat (refine⟨ah,?_⟩)
  refine hK _ ?_
  clear K' hK
  simp only[go_sem]
  refine⟨i+1,ae,by(show 6-(i+1)<6-i;omega),?_⟩
  refine bk [0,2,3,14] [[2,0],[3,0],[12,0],[99,0]] ?_ ?_
  ·simp only[go_sem,aE ae (lb rfl:(6:Nat)<=maxLen),Int.natCast_add,Int.natCast_one,hO,h0]
  ·simp only[go_sem,aE ae (lb rfl:(6:Nat)<=maxLen),Int.natCast_add,Int.natCast_one,hO,h0]
 ·have aX:i=6:=by
   have :¬ (i:Int)<6:=by simpa using hb
   omega
  clear hb
  subst aX
  repeat refine sq ?_
  refine b7 ?_
  simp only[go_sem]
  refine jT [2,3] [[2,0],[3,0],[12,0],[99,0]] ?_ ?_
  ·simp only[go_sem,hO,h0]
  simp only[go_sem,hO,h0]
  repeat refine sq ?_
  refine rx hΓ [2] [[2,0],[12,0],[99,0]] (fun K' hK=>by simp only[go_sem,hO,h0,AK s hj,w9 s hj];(repeat (refine⟨ah,?_⟩));exact hK _ (by simp only[go_sem,hO,h0,AK s hj,w9 s hj]) (by simp only[go_sem,hO,h0,AK s hj,w9 s hj]<;>rfl)) ?_
  refine ar ?_
  simp only[go_sem,hO,h0]
  trace_state
structure R2 where
 d:Dk
 j:Nat
 i:Nat
 hj:j<6
def cK(d:Dk)(j:Nat)(h u:Name):List D:=bC d j (.msl h d.now.ho.length) u (d.now.un.get j).length (d.now.se.get j)
def js:Ro R2 where
 m:=3
 fam a Ls:=[.box (cK a.d a.j (Ls.getD 1 []) (Ls.getD 2 [])),.arr 1 (a.d.now.ho.map vInt),.arr 2 ((a.d.now.un.get a.j).map encPa)]
 args a Ls:=[.ref (Ls.getD 0 []) (20+a.i*21+1)]
 ok a:=a.i<2/\gp (a.d.pg a.i).st
 val a:=.v (jg (a.d.pg a.i).st)
theorem uN{Ls:List Name}(h:Ls.length=3):∃ a b c,Ls=[a,b,c]:=by
 match Ls,h with
 |[a,b,c],_=>exact⟨a,b,c,rfl⟩
theorem MK(f:Name->Name)(d:Dk)(j:Nat)(h u:Name):D.renL f (cK d j h u)=cK d j (f h) (f u):=by
 unfold cK bC
 rw[gr,List.map_set,List.map_set,List.map_set,List.map_map]
 rfl
theorem wy(d:Dk)(j:Nat)(h u:Name){i:Nat}(hi:i<2)(hj:j<6):List.take 19 (List.drop (20+i*21+1) (cK d j h u))=List.map D.v (ax (d.pg i).st):=by
 unfold cK bC
 rw[List.drop_set_of_lt (by omega),List.drop_set_of_lt (by omega),List.drop_set_of_lt (by omega)]
 exact Ek d hi
theorem Sk(d:Dk){j:Nat}(h u:Name)(hj:j<6):cE (cK d j h u)=[h,u]:=
 jZ (P:=fun j=>cE (cK d j h u)=[h,u]) rfl rfl rfl rfl rfl rfl hj
theorem AG:js.Ok where
 len:=fun _ _ _=>rfl
 renF:=fun a f Ls h=>by
  obtain⟨x,y,z,rfl⟩:=uN h
  simp only[js,List.map_cons,List.map_nil,O.ren,MK,List.getD_cons_zero,List.getD_cons_succ]
 renA:=fun a f Ls h=>by
  obtain⟨x,y,z,rfl⟩:=uN h
  rfl
 reach:=fun a Ls obj h hn hF=>by
  obtain⟨x,y,z,rfl⟩:=uN h
  obtain⟨h1,h2,h3,_⟩:=hF
  simp only[List.nodup_cons,List.mem_cons,List.not_mem_nil,or_false,not_or]at hn
  obtain⟨⟨n1,n2⟩,n3,_⟩:=hn
  have en:cE (js.args a [x,y,z])=[x]:=rfl
  unfold Go.Eng.reach
  rw[en]
  show dm obj (2995+1+1+1+1+1) [x] []=[x,y,z]
  have hb:cE (cK a.d a.j y z)=[y,z]:=Sk a.d y z a.hj
  simp only[List.getD_cons_zero,List.getD_cons_succ]at h1
  simp[dm,fW,h1,h2,h3,hb,lH,Ne.symm n1,Ne.symm n2,Ne.symm n3]
 closF:=fun a dom Ls h hd o ho=>by
  obtain⟨x,y,z,rfl⟩:=uN h
  have hx:=hd x (by simp)
  have hy:=hd y (by simp)
  have hz:=hd z (by simp)
  simp only[js,List.mem_cons,List.not_mem_nil,or_false]at ho
  rcases ho with rfl | rfl | rfl
  ·simp only[O.clos,cK,MJ,List.getD_cons_zero,List.getD_cons_succ,D.clos,hy,hz,Bool.true_and,Bool.true_or]
  ·rfl
  ·rfl
 closA:=fun a dom Ls h hd=>by
  obtain⟨x,y,z,rfl⟩:=uN h
  have hx:=hd x (by simp)
  simp only[js,D.closL,D.clos,List.getD_cons_zero,hx,Bool.and_self]
 det:=fun a b h1 h2 h3 h4=>by
  have e1:cK a.d a.j [1,1] [2,1]=cK b.d b.j [1,1] [2,1]:=O.box.inj (List.cons.inj h3).1
  have e2:20+a.i*21+1=20+b.i*21+1:=(D.ref.inj (List.cons.inj h4).1).2
  have e3:a.i=b.i:=by omega
  have e4:=wy a.d a.j [1,1] [2,1] h1.1 a.hj
  rw[e1,e3,wy b.d b.j [1,1] [2,1] h2.1 b.hj]at e4
  have e5:ax (b.d.pg b.i).st=ax (a.d.pg b.i).st:=BD e4
  have e6:(b.d.pg b.i).st=(a.d.pg b.i).st:=by rw[<-om (b.d.pg b.i).st,e5,om]
  simp only[js,e3,e6]
 vcl:=fun _ _=>rfl
 vren:=fun _ _=>rfl
noncomputable def S59r:Spec:=js.c.toSpec
theorem ML(d:Dk){j i k:Nat}(h u:Name)(hi:i<2)(hj:j<6)(hk:k<19):(cK d j h u).getD (20+i*21+1+k) .any=.v ((ax (d.pg i).st).getD k default):=by
 have hc:=wy d j h u hi hj
 have hlen:(cK d j h u).length=63:=mj _ _ _ _ _ _
 have e:(cK d j h u)[20+i*21+1+k]?=(List.map D.v (ax (d.pg i).st))[k]?:=by
  rw[<-hc,List.getElem?_take,if_pos hk,List.getElem?_drop]
 rw[List.getD_eq_getElem?_getD,e,List.getElem?_map,List.getElem?_eq_getElem (show k<(ax (d.pg i).st).length by rw[jo];exact hk)]
 rw[je (show k<(ax (d.pg i).st).length by rw[jo];exact hk)]
 rfl
set_option maxHeartbeats 4000000 in
theorem UL:ak Tryz.prog 59 S59r:=by
 refine Ro.sound AG (rs:=[.cell 2 27]) Tryz.func59 Tryz.ntmps59 (by rfl) (by kernel_rfl) (by decide) ⟨_,rfl,?_⟩
 rintro⟨d,j,i0,hj⟩ ⟨kI,a8⟩
 replace kI:i0<2:=kI
 refine⟨lb rfl,?_⟩
 have hΓ:=N'
 have hO:=Ro.outC AG ⟨d,j,i0,hj⟩
 have h0:aT (js.fam ⟨d,j,i0,hj⟩ (LR js.m)) [0,1]=some (.box (cK d j [1,1] [2,1])):=rfl
 generalize aT (js.fam ⟨d,j,i0,hj⟩ (LR js.m))=H at *
 obtain⟨s,iV⟩:∃ s,s=(d.pg i0).st:=⟨_,rfl⟩
 have ha:js.args ⟨d,j,i0,hj⟩ (LR js.m)=[.ref [0,1] (20+i0*21+1)]:=rfl
 have hv:js.val ⟨d,j,i0,hj⟩=.v (jg s):=by rw[iV];rfl
 rw[ha,hv]
 simp only[ef,Nat.zero_add]at h0 |-
 replace a8:gp s:=by rw[iV];exact a8
 have hA:List.take 19 (List.drop (20+i0*21+1) (cK d j [1,1] [2,1]))=List.map D.v (ax s):=by rw[iV];exact wy d j _ _ kI hj
 have hlen:(cK d j [1,1] [2,1]).length=63:=mj _ _ _ _ _ _
 have hL:20+i0*21+1+19<=(cK d j [1,1] [2,1]).length:=by omega
 have KR:20+i0*21+1<(cK d j [1,1] [2,1]).length:=by omega
 have kj:(cK d j [1,1] [2,1]).getD (20+i0*21+1) .any=.v (fa s.ho):=by rw[iV];exact ML d [1,1] [2,1] (k:=0) kI hj (by omega)
 obtain⟨off,sR⟩:∃ off,off=20+i0*21+1:=⟨_,rfl⟩
 have tj:∀ i,i<6->(cK d j [1,1] [2,1]).getD (off+1+i) .any=.v (rowP (s.un.get i)):=fun i hi=>by
  rw[sR,Nat.add_assoc (20+i0*21+1),iV,ML d [1,1] [2,1] kI hj (show 1+i<19 by omega),cL _ hi]
 rw[<-sR]at hA hL KR kj |-
 obtain⟨X,hX⟩:∃ X,X=cK d j [1,1] [2,1]:=⟨_,rfl⟩
 rw[<-hX]at h0 hA hlen hL KR kj tj
 repeat refine sq ?_
 refine rx hΓ [0,2] [[2,0]] (fun K' hK=>by simp only[go_sem,hO,h0];(repeat (refine⟨ah,?_⟩));exact hK _ (by simp only[go_sem,hO,h0]) (by simp only[go_sem,hO,h0]<;>rfl)) ?_
 repeat refine sq ?_
 refine rx hΓ [0,2,3] [[2,0],[3,0]] (fun K' hK=>by simp only[go_sem,hO,h0,hA,hlen,hL,List.length_map,List.append_nil,jo];(repeat (refine⟨ah,?_⟩));exact hK _ (by simp only[go_sem,hO,h0,hA,hlen,hL,List.length_map,List.append_nil,jo]) (by simp only[go_sem,hO,h0,hA,hlen,hL,List.length_map,List.append_nil,jo]<;>rfl)) ?_
 repeat refine sq ?_
 refine rx hΓ [0,2,3] [[2,0],[3,0]] (fun K' hK=>by simp only[go_sem,hO,h0,Nat.add_zero,kj,a8.1];(repeat (refine⟨ah,?_⟩));exact hK _ (by simp only[go_sem,hO,h0,Nat.add_zero,kj,a8.1]) (by simp only[go_sem,hO,h0,Nat.add_zero,kj,a8.1]<;>rfl)) ?_
 repeat refine sq ?_
 refine rx hΓ [0,2,3,14] [[2,0],[3,0]] (fun K' hK=>by simp only[go_sem,hO,h0];(repeat (refine⟨ah,?_⟩));exact hK _ (by simp only[go_sem,hO,h0]) (by simp only[go_sem,hO,h0]<;>rfl)) ?_
 repeat refine sq ?_
 refine aN ?_
 repeat refine sq ?_
 refine cB (fun z:Nat=>[(14,⟨true,.v (vInt z)⟩)]) (fun z=>[]) (fun z=>z<=6) (fun z=>6-z) 0 ?_ ?_ ?_ ?_
 ·exact Nat.zero_le _
 ·rfl
 ·rfl
 rintro i hi
 simp only[go_sem]
 repeat refine sq ?_
 refine rx hΓ [0,2,3,14,15] [[2,0],[3,0]] (fun K' hK=>by simp only[go_sem,hO,h0];(repeat (refine⟨ah,?_⟩));exact hK _ (by simp only[go_sem,hO,h0]) (by simp only[go_sem,hO,h0]<;>rfl)) ?_
 repeat refine sq ?_
 refine aw rfl rfl (fun hb=>?_) (fun hb=>?_)
 ·have ae:i<6:=by have hq:(i:Int)<6:=(by simpa using hb);omega
  have aj:(i:Int)<6:=by omega
  clear hb
  have hC:=tj i ae
  have gw:=a8.2 i ae
  repeat refine sq ?_
  refine ay ?_
  repeat refine sq ?_
  refine aN ?_
  repeat refine sq ?_
  refine rx hΓ [0,2,3,4,14] [[2,0],[3,0]] (fun K' hK=>by simp only[go_sem,hO,h0,Int.toNat_natCast,Int.natCast_nonneg,aj];(repeat (refine⟨ah,?_⟩));exact hK _ (by simp only[go_sem,hO,h0,Int.toNat_natCast,Int.natCast_nonneg,aj]) (by simp only[go_sem,hO,h0,Int.toNat_natCast,Int.natCast_nonneg,aj]<;>rfl)) ?_
  repeat refine sq ?_
  refine aS hΓ fun K' hK=>?_
  simp only[go_sem,hO,h0,Int.toNat_natCast,Int.natCast_nonneg,aj,hC,gw,r9 s ae,Int.toNat_natCast,Int.natCast_nonneg,aj]
  repeat (refine⟨ah,?_⟩)
  refine hK _ ?_
  clear K' hK
  simp only[go_sem]
  refine jT [0,2,3,14] [[2,0],[3,0]] ?_ ?_
  ·simp only[go_sem,hO,h0]
  simp only[go_sem,hO,h0]
  repeat refine sq ?_
  refine aS hΓ fun K' hK=>?_
  simp only[go_sem,hO,h0,Int.toNat_natCast,Int.natCast_nonneg,aj]
  repeat (refine⟨ah,?_⟩)
  refine hK _ ?_
  clear K' hK
  simp only[go_sem]
  refine⟨i+1,ae,by(show 6-(i+1)<6-i;omega),?_⟩
  refine bk [0,2,3,14] [[2,0],[3,0]] ?_ ?_
  ·simp only[go_sem,aE ae (lb rfl:(6:Nat)<=maxLen),Int.natCast_add,Int.natCast_one,r9 s ae,hO,h0]
  ·simp only[go_sem,aE ae (lb rfl:(6:Nat)<=maxLen),Int.natCast_add,Int.natCast_one,r9 s ae,hO,h0]
 ·have aX:i=6:=by
   have :¬ (i:Int)<6:=by simpa using hb
   omega
  clear hb
  subst aX
  repeat refine sq ?_
  refine b7 ?_
  simp only[go_sem]
  refine jT [2,3] [[2,0],[3,0]] ?_ ?_
  ·simp only[go_sem,hO,h0]
  simp only[go_sem,hO,h0]
  repeat refine sq ?_
  refine rx hΓ [2] [[2,0]] (fun K' hK=>by simp only[go_sem,hO,h0,List.append_nil];(repeat (refine⟨ah,?_⟩));exact hK _ (by simp only[go_sem,hO,h0,List.append_nil]) (by simp only[go_sem,hO,h0,List.append_nil]<;>rfl)) ?_
  refine aF (bo [2,0] (ax s) rfl [2] [[2,0]] ?_ rfl) ?_
  ·simp only[go_sem,hO,h0]
  simp only[go_sem,hO,h0]
  refine ar ?_
  simp only[go_sem,hO,h0]
  exact .inr trivial
theorem Qz{d:Dk}{j i:Nat}(hj:j<6)(hi:i<2)(hs:gp (d.pg i).st){obj:Name->Option O}{t b h u:Name}(hn:[b,h,u].Nodup)(hb:obj b=some (.box (cK d j h u)))
 (hh:obj h=some (.arr 1 (d.now.ho.map vInt))) (hu:obj u=some (.arr 2 ((d.now.un.get j).map encPa))):
 S59r.app obj t [.ref b (20+i*21+1)]=⟨True,.v (.agg (ax (d.pg i).st)),obj⟩:=
 Ro.c_app AG (a:=⟨d,j,i,hj⟩) ⟨hi,hs⟩ (Ls:=[b,h,u]) rfl hn ⟨hb,hh,hu,trivial⟩
theorem Zf(d:Dk){j:Nat}(h u:Name)(hj:j<6):List.take 1 (List.map D.v (al d))++gK h u d.now j++List.drop 20 (List.map D.v (al d))=cK d j h u:=
 jZ (P:=fun j=>List.take 1 (List.map D.v (al d))++gK h u d.now j++List.drop 20 (List.map D.v (al d))=cK d j h u) rfl rfl rfl rfl rfl rfl hj
theorem Oq{α:Type}{C W:List α}{a n:Nat}(h:List.take n (List.drop a C)=W)(hn:a+n<=C.length):List.take a C++W++List.drop (a+n) C=C:=by
 rw[<-h,List.append_assoc,<-List.drop_drop,List.take_append_drop,List.take_append_drop]
theorem Ze(d:Dk){j i:Nat}(h u:Name)(hi:i<2)(hj:j<6):List.take (20+i*21+1) (cK d j h u)++List.map D.v (ax (d.pg i).st)++List.drop (20+i*21+1+19) (cK d j h u)=cK d j h u:=
 Oq (wy d j h u hi hj) (by rw[show (cK d j h u).length=63 from mj _ _ _ _ _ _];omega)
@[go_sem] theorem ae9(d:Dk)(j:Nat)(h u:Name):(cK d j h u).length=63:=mj _ _ _ _ _ _
@[go_sem] theorem afb(d:Dk)(j:Nat)(h u:Name):(cK d j h u).take 63=cK d j h u:=Zc _ _ _ _ _ _
@[go_sem] theorem ae'(d:Dk)(j:Nat)(h u:Name):(cK d j h u).drop 63=[]:=Za _ _ _ _ _ _
@[go_sem] theorem afa(dom:Name->Bool)(d:Dk)(j:Nat)(h u:Name):D.closL dom (cK d j h u)=(dom h&&(dom u||decide (63<=2+j))):=MJ _ _ _ _ _ _ _
attribute [go_sem] MK
noncomputable def Fe(j:Nat):Spec:=Spec.ite (fun t _=>decide (t.headD 0=5)) (wN j) S59r
theorem UN{j:Nat}(hj:j<6):ak Tryz.prog 59 (Fe j):=(UM hj).ite _ UL (by decide)
attribute [go_sem] Fe
noncomputable def NF(j:Nat):List (Nat×Spec):=[(59,Fe j)]
attribute [go_sem] NF
theorem aal{j:Nat}(hj:j<6):∀ f s,tbl (NF j) f=some s->ak Tryz.prog f s:=tc (UN hj)<|tn
noncomputable def Ai(j:Nat):NSpec:=n1 bf (fun d=>di d) (fun d=>[([22,0],.box (cK d j [12,0,5,0] [99,0,5,0])),([12,0,5,0],.arr 1 (d.now.ho.map vInt)),([99,0,5,0],.arr 2 ((d.now.un.get j).map encPa))]) (fun _=>.ref [22,0] 0)
noncomputable def Af(j:Nat):Spec:=(Ai j).toSpec
attribute [go_sem] Ai Af
set_option maxHeartbeats 4000000 in
theorem JC(j:Nat)(hj:j<6):ak Tryz.prog 53 (Af j):=by
 refine xN (nt:=23) (rs:=[.tmp 2]) Tryz.func53 rfl (by rfl) (by kernel_rfl) (by kernel_rfl) (by decide) ?_
 intro xs hp
 obtain⟨d,rfl,hp,gd,ed⟩:=xS hp
 replace gd:(Ai j).new _=_:=gd
 replace ed:(Ai j).d _=_:=ed
 rw[gd,ed]
 clear gd ed
 refine⟨lb rfl,?_⟩
 have hP:=aU
 simp only[iI,iB,dQ,iI,iB,o8,dQ,qB,iS,de,lK,bf,gv,uW,iC,iF,encPa,jg,rF,eE,l7,List.map_cons,List.map_nil,ef,Nat.zero_add]
 have hΓ:=aal hj
 have hs:di d:=hp
 have iU:=hs.now
 have DQ:∀ (F:Name->Option O),F [1,0]=some (.box ((al d).map .v))->(wN j).app (fun nm=>if own [0] nm=true then F nm else none) [5,0] [.ref [1,0] 1]=⟨fresh (fun nm=>if own [0] nm=true then F nm else none) [5,0] (p6 d.now j)=true,.agg (gK [12,0,5,0] [99,0,5,0] d.now j),upd (upd (fun nm=>if own [0] nm=true then F nm else none) [12,0,5,0] (some (.arr 1 (d.now.ho.map vInt)))) [99,0,5,0] (some (.arr 2 ((d.now.un.get j).map encPa)))⟩:=fun F h=>Pk j (s:=d.now) (l:=al d) (off:=1) (by rw[<-h];rfl) (tv d) iU
 repeat refine sq ?_
 refine rx hΓ [1] [[1,0],[12,0,5,0],[99,0,5,0]] (fun K' hK=>by simp only[go_sem];(repeat (refine⟨ah,?_⟩));exact hK _ (by simp only[go_sem]) (by simp only[go_sem]<;>rfl)) ?_
 repeat refine sq ?_
 refine rx hΓ [1] [[1,0],[12,0,5,0],[99,0,5,0]] (fun K' hK=>by simp only[go_sem,DQ,Zf d [12,0,5,0] [99,0,5,0] hj];(repeat (refine⟨ah,?_⟩));exact hK _ (by simp only[go_sem]) (by simp only[go_sem]<;>rfl)) ?_
 repeat refine sq ?_
 refine rx hΓ [1,7] [[1,0],[12,0,5,0],[99,0,5,0]] (fun K' hK=>by simp only[go_sem];(repeat (refine⟨ah,?_⟩));exact hK _ (by simp only[go_sem]) (by simp only[go_sem]<;>rfl)) ?_
 repeat refine sq ?_
 refine aN ?_
 repeat refine sq ?_
 refine cB (fun z:Nat=>[(7,⟨true,.v (vInt z)⟩)]) (fun z=>[]) (fun z=>z<=2) (fun z=>2-z) 0 ?_ ?_ ?_ ?_
 ·exact Nat.zero_le _
 ·rfl
 ·rfl
 rintro i hi
 simp only[go_sem]
 repeat refine sq ?_
 refine rx hΓ [1,7,8] [[1,0],[12,0,5,0],[99,0,5,0]] (fun K' hK=>by simp only[go_sem];(repeat (refine⟨ah,?_⟩));exact hK _ (by simp only[go_sem]) (by simp only[go_sem]<;>rfl)) ?_
 repeat refine sq ?_
 refine aw rfl rfl (fun hb=>?_) (fun hb=>?_)
 ·have ae:i<2:=by have hq:(i:Int)<2:=(by simpa using hb);omega
  have aj:(i:Int)<2:=by omega
  clear hb
  have DP:∀ (F:Name->Option O) (t:Name),F [1,0]=some (.box (cK d j [12,0,5,0] [99,0,5,0]))->F [12,0,5,0]=some (.arr 1 (d.now.ho.map vInt))->F [99,0,5,0]=some (.arr 2 ((d.now.un.get j).map encPa))->S59r.app (fun nm=>if own [0] nm=true then F nm else none) t [.ref [1,0] (20+i*21+1)]=⟨True,.v (.agg (ax (d.pg i).st)),fun nm=>if own [0] nm=true then F nm else none⟩:=fun F t h1 h2 h3=>Qz (b:=[1,0]) (h:=[12,0,5,0]) (u:=[99,0,5,0]) hj ae (hs.pg i ae) (by decide) (by rw[<-h1];rfl) (by rw[<-h2];rfl) (by rw[<-h3];rfl)
  repeat refine sq ?_
  refine ay ?_
  repeat refine sq ?_
  refine aN ?_
  repeat refine sq ?_
  refine rx hΓ [1,3,7] [[1,0],[12,0,5,0],[99,0,5,0]] (fun K' hK=>by simp only[go_sem,Int.toNat_natCast,Int.natCast_nonneg,aj];(repeat (refine⟨ah,?_⟩));exact hK _ (by simp only[go_sem]) (by simp only[go_sem]<;>rfl)) ?_
  repeat refine sq ?_
  refine aS hΓ fun K' hK=>?_
  simp only[go_sem,Int.toNat_natCast,Int.natCast_nonneg,aj,DP,Ze d [12,0,5,0] [99,0,5,0] ae hj,Int.toNat_natCast,Int.natCast_nonneg,aj]
  repeat (refine⟨ah,?_⟩)
  refine hK _ ?_
  clear K' hK
  simp only[go_sem]
  refine kp [1,7] [[1,0],[12,0,5,0],[99,0,5,0]] ?_
  repeat refine sq ?_
  refine aS hΓ fun K' hK=>?_
  simp only[go_sem,Int.toNat_natCast,Int.natCast_nonneg,aj]
  repeat (refine⟨ah,?_⟩)
  refine hK _ ?_
  clear K' hK
  simp only[go_sem]
  refine⟨i+1,ae,by(show 2-(i+1)<2-i;omega),?_⟩
  refine bk [1,7] [[1,0],[12,0,5,0],[99,0,5,0]] ?_ ?_
  ·simp only[go_sem,aE ae (lb rfl:(2:Nat)<=maxLen),Int.natCast_add,Int.natCast_one]
  ·simp only[go_sem,aE ae (lb rfl:(2:Nat)<=maxLen),Int.natCast_add,Int.natCast_one]
 ·have aX:i=2:=by
   have :¬ (i:Int)<2:=by simpa using hb
   omega
  clear hb
  subst aX
  repeat refine sq ?_
  refine b7 ?_
  simp only[go_sem]
  refine kp [1] [[1,0],[12,0,5,0],[99,0,5,0]] ?_
  repeat refine sq ?_
  refine rx hΓ [2] [[22,0],[12,0,5,0],[99,0,5,0]] (fun K' hK=>by simp only[go_sem,List.append_nil];(repeat (refine⟨ah,?_⟩));exact hK _ (by simp only[go_sem]) (by simp only[go_sem]<;>rfl)) ?_
  refine ar ?_
  simp only[go_sem]
  skip
noncomputable def P116:PSpec:=p1 iI (fun _=>True) (fun _=>.bool false) true
noncomputable def S116:Spec:=P116.toSpec
attribute [go_sem] P116 S116
theorem Rd:aL Tryz.prog 116 P116:=by
 refine w1 (rs:=[.tmp 2]) Tryz.func116 Tryz.ntmps116 (by rfl) (by kernel_rfl) (by decide) (fun _ _=>rfl) ⟨_,rfl,lb rfl,fun n hp hw=>?_⟩
 have hP:=aU
 simp only[iI]at hw |-
 have hΓ:=@j9 Tryz.prog
 repeat refine sq ?_
 refine rs hΓ [0] [] ?_
 repeat refine sq ?_
 refine rx hΓ [2] [] (fun K' hK=>by simp only[go_sem,bne_self_eq_false];(repeat (refine⟨ob,?_⟩));exact hK _ (by simp only[go_sem]) (by simp only[go_sem]<;>rfl)) ?_
 refine ar ?_
 simp only[go_sem]
 skip
theorem U4:ak Tryz.prog 116 S116:=Rd.sound
noncomputable def P100:PSpec:=p1 iI (fun _=>True) (fun _=>.bool false) true
noncomputable def S100:Spec:=P100.toSpec
attribute [go_sem] P100 S100
theorem Rj:aL Tryz.prog 100 P100:=by
 refine w1 (rs:=[.tmp 2]) Tryz.func100 Tryz.ntmps100 (by rfl) (by kernel_rfl) (by decide) (fun _ _=>rfl) ⟨_,rfl,lb rfl,fun n hp hw=>?_⟩
 have hP:=aU
 simp only[iI]at hw |-
 have hΓ:=@j9 Tryz.prog
 repeat refine sq ?_
 refine rs hΓ [0] [] ?_
 repeat refine sq ?_
 refine rx hΓ [2] [] (fun K' hK=>by simp only[go_sem,bne_self_eq_false];(repeat (refine⟨ob,?_⟩));exact hK _ (by simp only[go_sem]) (by simp only[go_sem]<;>rfl)) ?_
 refine ar ?_
 simp only[go_sem]
 skip
theorem JG:ak Tryz.prog 100 S100:=Rj.sound
noncomputable def ND:List (Nat×Spec):=[(116,S116),(100,S100)]
theorem aak:∀ f s,tbl ND f=some s->ak Tryz.prog f s:=tc U4<|tc JG<|tn
attribute [go_sem] ND
noncomputable def P99:PSpec:=p2 iI iI (fun _ _=>True) (fun a b=>.bool (decide (a<b))) true
noncomputable def S99:Spec:=P99.toSpec
attribute [go_sem] P99 S99
theorem Qb:aL Tryz.prog 99 P99:=by
 refine w2 (rs:=[.tmp 4]) Tryz.func99 Tryz.ntmps99 (by rfl) (by kernel_rfl) (by decide) (fun _ _ _=>rfl) ⟨_,rfl,lb rfl,fun a b hp hw=>?_⟩
 have hP:=aU
 simp only[iI]at hw |-
 have hΓ:=aak
 repeat refine sq ?_
 refine rs hΓ [0,1] [] ?_
 repeat refine sq ?_
 refine rs hΓ [4] [] ?_
 refine ar ?_
 simp only[go_sem]
 skip
theorem Uv:ak Tryz.prog 99 S99:=Qb.sound
noncomputable def NC:List (Nat×Spec):=[(99,S99),(100,S100)]
theorem aaj:∀ f s,tbl NC f=some s->ak Tryz.prog f s:=tc Uv<|tc JG<|tn
attribute [go_sem] NC
def bz(l:List Int)(x:Int):Nat:=(l.takeWhile fun y=>decide (y<x)).length
def bR(l:List Int)(x:Int):Bool:=l.contains x
theorem Ss{i j:Nat}(hi:i<=maxLen)(hj:j<=maxLen):IntKind.i64.wrap ((IntKind.u64.wrap (IntKind.i64.wrap ((i:Int)+(j:Int)))).fdiv (2 ^ min (Int.toNat 1) 64))=(((i+j) / 2:Nat):Int):=by
 unfold maxLen at hi hj
 have h1:min (Int.toNat 1) 64=1:=by decide
 have h2:IntKind.u64.wrap (IntKind.i64.wrap ((i:Int)+(j:Int)))=((i+j:Nat):Int):=by
  rw[IntKind.wrap_u64,IntKind.wrap_i64]
  omega
 rw[h1,h2]
 have h3:(((i+j:Nat):Int)).fdiv (2 ^ 1)=(((i+j) / 2:Nat):Int):=by
  rw[Int.fdiv_eq_ediv_of_nonneg _ (by decide)]
  omega
 rw[h3,wrap_i64 (by omega) (by omega)]
theorem Sw{l:List Int}{x:Int}{i:Nat}(hi:i<=l.length)(h1:∀ k (h:k<l.length),k<i->l[k] <x)(h2:∀ k (h:k<l.length),i<=k->x<=l[k]):bz l x=i:=by
 unfold bz
 induction l generalizing i with
 |nil=>simp at hi |-;omega
 |cons a r ih=>
  cases i with
  |zero=>
   have :=h2 0 (by simp) (Nat.le_refl _)
   simp only[List.getElem_cons_zero]at this
   have hd:decide (a<x)=false:=by simp;omega
   simp[hd]
  |succ i=>
   have :=h1 0 (by simp) (by omega)
   simp only[List.getElem_cons_zero]at this
   have hd:decide (a<x)=true:=by simp;omega
   simp only[List.takeWhile_cons,hd,if_true,List.length_cons]
   rw[ih (by simpa using hi) (fun k hk lR=>by have:=h1 (k+1) (by simpa using hk) (by omega);simpa using this) (fun k hk lR=>by have:=h2 (k+1) (by simpa using hk) (by omega);simpa using this)]
theorem W6{l:List Int}{x:Int}{i:Nat}(hs:l.Pairwise (· < ·))(hi:i<l.length)(h1:∀ k (h:k<l.length),k<i->l[k] <x)(h2:∀ k (h:k<l.length),i<=k->x<=l[k]):bR l x=(l[i]==x):=by
 unfold bR
 rw[Bool.eq_iff_iff]
 simp only[List.contains_iff_mem,beq_iff_eq]
 constructor
 ·intro h
  obtain⟨k,hk,e⟩:=List.getElem_of_mem h
  rcases Nat.lt_trichotomy k i with h3 | h3 | h3
  ·have:=h1 k hk h3;omega
  ·subst h3;exact e
  ·have:=List.pairwise_iff_getElem.1 hs i k hi hk h3
   have :=h2 i hi (Nat.le_refl _)
   omega
 ·rintro rfl;exact List.getElem_mem hi
theorem W5{l:List Int}{x:Int}(h1:∀ k (h:k<l.length),l[k] <x):bR l x=false:=by
 unfold bR
 rw[Bool.eq_false_iff]
 intro h
 obtain⟨k,hk,e⟩:=List.getElem_of_mem (List.contains_iff_mem.1 h)
 have :=h1 k hk
 omega
noncomputable def P52:PSpec:=p2 dQ iI (fun l _=>l.Pairwise (· < ·)) (fun l x=>.tup [vInt (bz l x),.bool (bR l x)]) true
noncomputable def S52:Spec:=P52.toSpec
attribute [go_sem] P52 S52
set_option maxRecDepth 10000 in
set_option maxHeartbeats 4000000 in
theorem QE:aL Tryz.prog 52 P52:=by
 refine w2 (rs:=[.tmp 4,.tmp 5]) Tryz.func52 Tryz.ntmps52 (by rfl) (by kernel_rfl) (by decide) (fun _ _ _=>rfl) ⟨_,rfl,lb rfl,fun l x hp hw=>?_⟩
 have hP:=aU
 simp only[iI,dQ]at hw |-
 have hΓ:=aaj
 have hs:l.Pairwise (· < ·):=hp
 have hl:l.length<=maxLen:=by have:=hw.1.1;simpa using this
 repeat refine sq ?_
 refine rs hΓ [0,1] [] ?_
 repeat refine sq ?_
 refine rs hΓ [0,1,6] [] ?_
 repeat refine sq ?_
 refine rs hΓ [0,1,6,7,8] [] ?_
 repeat refine sq ?_
 refine aN ?_
 repeat refine sq ?_
 refine cB (fun ij:Nat×Nat=>[(7,⟨true,.v (vInt ij.1)⟩),(8,⟨true,.v (vInt ij.2)⟩)]) (fun i=>[]) (fun ij=>ij.1<=ij.2/\ij.2<=l.length/\(∀ k (h:k<l.length),k<ij.1->l[k] <x)/\(∀ k (h:k<l.length),ij.2<=k->x<=l[k])) (fun ij=>ij.2-ij.1) (0,l.length) ?_ ?_ ?_ ?_
 ·exact⟨Nat.zero_le _,Nat.le_refl _,fun k h hk=>by omega,fun k h hk=>by omega⟩
 ·rfl
 ·rfl
 rintro⟨i,j⟩ ⟨eC,C',eK,gA⟩
 simp only[go_sem]
 repeat refine sq ?_
 refine rs hΓ [0,1,6,7,8,15] [] ?_
 repeat refine sq ?_
 refine aw rfl rfl (fun hb=>?_) (fun hb=>?_)
 ·have ae:i<j:=by simpa using hb
  repeat refine sq ?_
  refine ay ?_
  repeat refine sq ?_
  refine aN ?_
  repeat refine sq ?_
  refine rx hΓ [0,1,6,7,8,9] [] (fun K' hK=>by simp only[go_sem,Ss (show i<=maxLen by omega) (show j<=maxLen by omega)];(repeat (refine⟨ob,?_⟩));exact hK _ (by simp only[go_sem]) (by simp only[go_sem]<;>rfl)) ?_
  obtain⟨h,hh⟩:∃ h,h=(i+j) / 2:=⟨_,rfl⟩
  rw[<-hh]
  have h1:i<=h:=by omega
  have h2:h<j:=by omega
  have h3:h<l.length:=by omega
  have tk:(h:Int)<l.length:=by omega
  repeat refine sq ?_
  refine rx hΓ [0,1,6,7,8,9,27] [] (fun K' hK=>by simp only[go_sem,aG h3,Int.toNat_natCast,Int.natCast_nonneg,tk];(repeat (refine⟨ob,?_⟩));exact hK _ (by simp only[go_sem]) (by simp only[go_sem]<;>rfl)) ?_
  repeat refine sq ?_
  refine aw rfl rfl (fun hb=>?_) (fun hb=>?_)
  ·have hx:l[h] <x:=of_decide_eq_true hb
   repeat refine sq ?_
   refine aS hΓ fun K' hK=>?_
   simp only[go_sem]
   repeat (refine⟨ob,?_⟩)
   refine hK _ ?_
   clear K' hK
   simp only[go_sem]
   refine⟨(h+1,j),⟨by omega,C',fun k hk C6=>?_,gA⟩,by omega,?_⟩
   ·rcases Nat.lt_succ_iff_lt_or_eq.1 C6 with h5 | h5
    ·have:=List.pairwise_iff_getElem.1 hs k h hk h3 h5;omega
    ·subst h5;exact hx
   ·refine bk [0,1,6,7,8] [] ?_ ?_
    ·simp only[go_sem,aE h3 hl,Int.natCast_add,Int.natCast_one]
    ·simp only[go_sem,aE h3 hl,Int.natCast_add,Int.natCast_one]
  ·have hx:x<=l[h]:=by
     have :¬ l[h] <x:=of_decide_eq_false hb
     omega
   repeat refine sq ?_
   refine aS hΓ fun K' hK=>?_
   simp only[go_sem]
   repeat (refine⟨ob,?_⟩)
   refine hK _ ?_
   clear K' hK
   simp only[go_sem]
   refine⟨(i,h),⟨by omega,by omega,eK,fun k hk C6=>?_⟩,by omega,?_⟩
   ·rcases Nat.lt_or_eq_of_le C6 with h5 | h5
    ·have:=List.pairwise_iff_getElem.1 hs h k h3 hk h5;omega
    ·subst h5;exact hx
   ·refine bk [0,1,6,7,8] [] ?_ ?_
    ·simp only[go_sem]
    ·simp only[go_sem]
 ·have Wp:i=j:=by
    have :¬ i<j:=by simpa using hb
    omega
  subst Wp
  clear hb
  have qZ:=Sw C' eK gA
  repeat refine sq ?_
  refine b7 ?_
  simp only[go_sem]
  refine kp [0,1,6,7] [] ?_
  repeat refine sq ?_
  rcases Nat.lt_or_ge i l.length with fA | fA
  ·have Wo:(i:Int)<l.length:=by omega
   have Dg:=W6 hs fA eK gA
   have hg:=aG (f:=vInt) fA
   repeat refine sq ?_
   refine rx hΓ [4,5] [] (fun K' hK=>by simp only[go_sem,aG fA,Int.toNat_natCast,Int.natCast_nonneg,Wo,decide_true,qZ];(repeat (refine⟨ob,?_⟩));exact hK _ (by simp only[go_sem]) (by simp only[go_sem]<;>rfl)) ?_
   refine ar ?_
   simp only[go_sem]
   rw[qZ,Dg]
   first | done | rfl
  ·have aX:¬ (i:Int)<l.length:=by omega
   have Dg:bR l x=false:=W5 fun k hk=>eK k hk (by omega)
   repeat refine sq ?_
   refine rx hΓ [4,5] [] (fun K' hK=>by simp only[go_sem,aX,decide_false,Int.toNat_natCast];(repeat (refine⟨ob,?_⟩));exact hK _ (by simp only[go_sem]) (by simp only[go_sem]<;>rfl)) ?_
   refine ar ?_
   simp only[go_sem]
   rw[qZ,Dg]
   first | done | rfl
theorem JD:ak Tryz.prog 52 S52:=QE.sound
end Go.Eng
set_option linter.unusedVariables false
namespace Go.Eng
open Go Go.Proofs Go.RowKit Go.Lib Go.Shelf
theorem Rs{P:Program}(w:World)(t e ty:TypeId)(z:Value)(ht:P.underlying t=some (.slice e))(hv:bd P e=some z)(h1:∀ v∈z.cells.toList,v.oneCell'=true)(b o c:Nat)
 (hc:∀ j,j<z.cells.size->(w.cell? ⟨b,o+j,none⟩).isSome=true) (hf:∀ j,w.frozen? ⟨b,j,none⟩=false):
 (Builtin.clear_ #[t] ty #[.slice (some ⟨b,o,none⟩) 1 c]).run P w=.ok (.tuple #[]) (w.setCells b o z.cells.toList):=by
 have nQ:(Builtin.zeroCells z.cells 1).toList=z.cells.toList:=by
  have :Builtin.zeroCells z.cells 1=z.cells:=by
   apply Array.ext
   ·simp[Builtin.zeroCells]
   ·intro i h1 h2
    simp[Builtin.zeroCells,Nat.mod_eq_of_lt h2]
    rw[getElem!_pos z.cells i h2]
  rw[this]
 have bY:=run_storeCells_cells (P:=P) b o z.cells.toList 0 w (by simpa using hc) (by simpa using fun j _=>hf (o+j)) h1
 simp only[Nat.add_zero]at bY
 simp[Builtin.clear_,run_underlying ht,qa hv,nQ,bY]
set_option maxHeartbeats 4000000 in
set_option maxRecDepth 100000 in
theorem Yx(b off n c i:Nat)(cs:List Value)(w:World)(hi:i<n)(CV:n<=c)(KE:c<=9223372036854775807)(bH:cs.length=n*1)
 (eY:∀ j v,cs[j]?=some v->w.cell? ⟨b,off+j,none⟩=some v) (pv:∀ j,w.frozen? ⟨b,j,none⟩=false) (vO:∀ v∈cs,v.oneCell'=true):
 Calls Tryz.prog 54 #[.slice (some ⟨b,off,none⟩) n c,.int .i64 i,.int .i64 (i+1)] w fun e w'=>
  e=.returned (.slice (some ⟨b,off,none⟩) (n-1) c)/\w'=(w.drew.setCells b (off+i*1) (cs.drop ((i+1)*1))).setCells b (off+(n-1)*1) (List.replicate 1 (.int .i64 0)):=by
 have mixed:Tryz.prog.follows Departure.mixedOrders=true:=by kernel_rfl
 have ti:bF Tryz.prog 22=some (3,1,8):=by kernel_rfl
 have vK:bd Tryz.prog 3=some (.int .i64 0):=by kernel_rfl
 obtain⟨i0,kI,qF⟩:∃ i0,Tryz.prog.info? 3=some i0/\i0.size=1:=by
  obtain⟨hu,i0,h1,h2,h3⟩:=gn ti
  exact⟨i0,h1,h2⟩
 obtain⟨news,vq⟩:∃ news,news=cs.drop ((i+1)*1):=⟨_,rfl⟩
 have hlen:news.length=(n-(i+1))*1:=by rw[vq,List.length_drop,bH,Nat.sub_mul]
 have Cw:∀ j,j<n*1->(w.cell? ⟨b,off+j,none⟩).isSome=true:=fun j hj=>by
  rw[eY j _ (List.getElem?_eq_getElem (by omega))];rfl
 obtain⟨A,hA,bA⟩:∃ A:Addr,(if c=i+1 then some (⟨b,off,none⟩:Addr)else some ⟨b,off+(i+1)*1,none⟩)=some A/\Hid (∀ t u,news[t]?=some u->w.drew.cell? (A.add t)=some u):=by
  by_cases h:c=i+1
  ·refine⟨⟨b,off,none⟩,by simp[h],fun t u hu=>?_⟩
   have h0:news.length=0:=by rw[hlen];have:n-(i+1)=0:=by omega
                             rw[this,Nat.zero_mul]
   rw[List.length_eq_zero_iff.1 h0]at hu
   simp at hu
  ·refine⟨⟨b,off+(i+1)*1,none⟩,by simp[h],fun t u hu=>?_⟩
   rw[Addr.add_lit,Nat.add_assoc]
   exact eY _ _ (by rw[vq,List.getElem?_drop]at hu;exact hu)
 have s1:Hid (news.length=(n-(i+1))*1):=hlen
 have s2:Hid (∀ u∈news,u.oneCell'=true):=fun u hu=>vO u (List.mem_of_mem_drop (vq▸hu))
 have s3:Hid (∀ t,t<news.length->(w.drew.cell? ⟨b,off+i*1+t,none⟩).isSome=true/\w.drew.frozen? ⟨b,off+i*1+t,none⟩=false):=by
  intro t ht
  rw[hlen]at ht
  refine⟨?_,pv _⟩
  rw[Nat.add_assoc]
  exact Cw _ (by omega)
 obtain⟨W1,gE⟩:∃ W1,W1=w.drew.setCells b (off+i*1) news:=⟨_,rfl⟩
 have JW:∀ j,j<n*1->(W1.cell? ⟨b,off+j,none⟩).isSome=true:=fun j hj=>by
  rw[gE]
  exact isSome_setCells b _ _ _ (fun t ht=>(s3 t ht).1) _ (Cw j hj)
 have Dr:∀ ty,(Builtin.clear_ #[22] ty #[.slice (some ⟨b,off+(i+(n-(i+1)))*1,none⟩) (n-(i+(n-(i+1)))) (c-(i+(n-(i+1))))]).run Tryz.prog W1=.ok (.tuple #[]) (W1.setCells b (off+(i+(n-(i+1)))*1) (List.replicate 1 (.int .i64 0))):=fun ty=>by
  have e:n-(i+(n-(i+1)))=1:=by omega
  rw[e]
  exact Rs W1 22 3 ty _ Tryz.underlying22 vK (by decide) b _ _ (fun j hj=>by rw[Nat.add_assoc];exact JW _ (by have:j<1:=hj;omega)) (fun j=>by rw[gE,World.frozen?_setCells];exact pv _)
 have hW:Hid (W1=w.drew.setCells b (off+i*1) news):=gE
 rw[<-vq,<-gE]
 have hic:i<=c:=by omega
 have hjc:i+1<=c:=by omega
 have aq:¬ ((i:Int)=(i:Int)+1):=by omega
 have hjn:i+1<=n:=by omega
 have mQ:(0:Int)<=(i:Int)+1:=by omega
 have qQ:(i:Int)+1<=(n:Int):=by omega
 clear gE JW Cw vq hlen
 simp only[Nat.mul_one]at hA Dr
 go_enter Tryz.func54,Tryz.ntmps54
 go_wp2_with fail
 go_region_law_o (refine step_append_room rfl (.tmp 22) (.tmp 25) 22 rfl 3 i0 1 Tryz.underlying22 kI qF b off i c (by simp[Act.eval,Act.put]) A (n-(i+1)) (c-(i+1)) news (by simp[Act.eval,Act.put]) s1.out bA.out s2.out (by omega) s3.out ?_;rw[<-hW.out])
 go_wp2
 go_ret
 have e:n-1=i+(n-(i+1)):=by omega
 rw[e,Nat.mul_one]
 exact⟨rfl,rfl⟩
def zI:V:=.int .i64 0
def wK(obj:Name->Option O):List D->R
 |[.msl nm k,.v (.int .i64 i),.v (.int .i64 j)]=>match obj nm with
  |some (.arr sz l)=>⟨k=l.length/\sz=1/\0<=i/\j=i+1/\i.toNat<l.length,.v (.sl (l.eraseIdx i.toNat)),upd obj nm (some (.farr sz (l.eraseIdx i.toNat++[zI])))⟩
  |_=>.bad obj
 |_=>.bad obj
def zo:List D->List Name
 |[.msl nm _,_,_]=>[nm]
 |_=>[]
def S54:Spec:=⟨fun obj _ ds=>wK obj ds,fun _ _ ds=>zo ds,fun _ _ ds=>zo ds⟩
theorem Eo{l:List V}{i q:Nat}(hi:i<l.length)(h:q<(l.eraseIdx i++[zI]).length):
 (q<i/\∃ h':q<l.length,(l.eraseIdx i++[zI])[q]=l[q])\/(i<=q/\∃ h':q+1<l.length,(l.eraseIdx i++[zI])[q]=l[q+1])\/(q+1=l.length/\(l.eraseIdx i++[zI])[q]=zI):=by
 have hl:(l.eraseIdx i).length=l.length-1:=List.length_eraseIdx_of_lt hi
 have hq:q<l.length:=by simp[hl]at h;omega
 by_cases h1:q<l.length-1
 ·rw[List.getElem_append_left (by omega),List.getElem_eraseIdx]
  by_cases h2:q<i
  ·exact .inl ⟨h2,hq,by rw[dif_pos h2]⟩
  ·exact .inr (.inl ⟨by omega,by omega,by rw[dif_neg h2]⟩)
 ·refine .inr (.inr ⟨by omega,?_⟩)
  rw[List.getElem_append_right (by omega)]
  simp
theorem Yw:S54.Near:=by
 refine⟨fun obj obj2 t ds h=>?_,fun obj obj2 t ds h=>rfl,fun obj t ds nm hn=>hn,fun obj obj2 t ds h=>rfl⟩
 simp only[S54]at h |-
 unfold wK
 split
 ·rename_i nm k i j
  have h':obj2 nm=obj nm:=h nm (by simp[zo])
  simp only[h']
  split
  ·exact .one (by simp[zo]) h
  ·exact .none _ h
 ·exact .none _ h
set_option maxHeartbeats 1000000 in
theorem JB:ak Tryz.prog 54 S54:=by
 refine⟨Yw,fun _ args w=>gG Tryz.func54 rfl (by kernel_rfl) args w,fun _ G φ m σ a w hC t ds us _ hl hr aa=>?_,fun e=>(Nat.ne_of_lt (show (54:Nat)<yid by decide) e).elim⟩
 simp only[S54,wK]at aa |-
 split at aa
 case h_2=>exact aa.elim
 rename_i nm k i j
 simp only[List.length_cons,List.length_nil]at hl
 have r0:=hr 0 (by simp) (by omega)
 have r1:=hr 1 (by simp) (by omega)
 have r2:=hr 2 (by simp) (by omega)
 simp only[List.getElem_cons_zero,List.getElem_cons_succ]at r0 r1 r2
 have mL:us= #[us[0],us[1],us[2]]:=by
  apply Array.ext
  ·simp;omega
  ·intro j h1 h2
   have :j=0\/j=1\/j=2:=by omega
   rcases this with rfl | rfl | rfl<;>rfl
 rw[mL]
 generalize us[0]=u0 at r0
 generalize us[1]=u1 at r1
 generalize us[2]=u2 at r2
 clear mL hr hl us
 cases r1 with
 |v _ _ r1=>
 cases r1 with
 |int _ _=>
 cases r2 with
 |v _ _ r2=>
 cases r2 with
 |int _ _=>
 split at aa
 case h_2=>exact aa.elim
 rename_i sz l an
 obtain⟨hk,a8,kI,hj,fA⟩:=aa
 subst a8 hj
 cases r0 with
 |msl _ _ _ hh vd=>
 obtain⟨o,nn,cp,hlen,_,bM⟩:=hh
 rw[an]at cp;cases cp
 simp only[O.len?,Option.some.injEq]at hlen
 subst hlen
 have hv:=bM hk
 subst hk
 obtain⟨i,rfl⟩:∃ n:Nat,i=(n:Int):=⟨i.toNat,by omega⟩
 simp only[Int.toNat_natCast]at fA |-
 rcases hC.objs nm _ an with⟨_,ja⟩ | ⟨g0,g1,g2,g3,g4,bc,T',f,g5,g6,g7,g8⟩
 ·subst ja;simp at fA
 have gD:(φ nm).blk<w.heap.size:=(Array.getElem?_eq_some_iff.1 g5).1
 have Co:u0=.slice (some ⟨(φ nm).blk,(φ nm).off,none⟩) l.length (φ nm).cap:=by rw[hv];simp only[Loc.slice,g0];rfl
 subst Co
 have nX:holds φ σ.obj nm:=⟨_,an,rfl,g0⟩
 obtain⟨c1,lX⟩:∃ c1:Nat->Nat->Value,∀ q j,q<l.length->j<1->bc[(φ nm).off+q*1+j]?=some (c1 q j):=⟨fun q j=>(bc[(φ nm).off+q*1+j]?).getD undef,fun q j hq hj=>by
  obtain⟨c,x1,_⟩:=g8 q j hq (by rw[g3];exact hj)
  simp only[x1,Option.getD_some]⟩
 have bT:∀ q j (h:q<l.length) (h':j<l[q].cells.length),aB m l[q].cells[j] (c1 q j):=fun q j h h'=>by
  obtain⟨c,x1,x2⟩:=g8 q j h h'
  have :=lX q j h (by rw[<-g3 q h];exact h')
  rw[x1]at this;cases this;exact x2
 have yZ:∀ j v,(rowOf c1 l.length 1)[j]?=some v->w.cell? ⟨(φ nm).blk,(φ nm).off+j,none⟩=some v:=fun j v vy=>by
  have :=sf (w:=w) (c:=c1) (n:=l.length) (sz:=1) (blk:=(φ nm).blk) (o:=(φ nm).off) (fun q j hq hj=>by rw[mi g5];exact lX q j hq hj) j v vy
  rwa [jk]at this
 have yH:∀ v∈rowOf c1 l.length 1,v.oneCell'=true:=by
  intro v hv
  simp only[rowOf,List.mem_map,List.mem_range]at hv
  obtain⟨k,hk,rfl⟩:=hv
  obtain⟨d1,d2⟩:=wc hk
  exact uH ((bT _ _ d1 (by rw[g3];exact d2)).one (g4 _ d1 _ (List.getElem_mem _)))
 refine(Yx (φ nm).blk (φ nm).off l.length (φ nm).cap i (rowOf c1 l.length 1) w fA g1 (by unfold maxLen at g2;omega) (dE _ _ _) yZ (fun j=>La g5 g6) yH).mono ?_
 rintro e w' ⟨rfl,rfl⟩
 obtain⟨lv,k1,k2,k3⟩:=p9 (φ nm).blk T' f ((rowOf c1 l.length 1).drop ((i+1)*1)) ((φ nm).off+i*1) w.drew bc g5
 obtain⟨jn,k4,k5,k6⟩:=p9 (φ nm).blk T' f (List.replicate 1 (.int .i64 0)) ((φ nm).off+(l.length-1)*1) (bp w.drew (φ nm).blk (.cells lv T' f)) lv (iH gD)
 rw[k1,k4,w5]
 have hL:(l.eraseIdx i++[zI]).length=l.length:=by simp[List.length_eraseIdx_of_lt fA];omega
 have mN:∀ q (h:q<(l.eraseIdx i++[zI]).length),(l.eraseIdx i++[zI])[q].cells.length=1:=fun q h=>by
  rcases Eo fA h with⟨_,h',e⟩ | ⟨_,h',e⟩ | ⟨_,e⟩<;>rw[e]
  ·exact g3 _ _
  ·exact g3 _ _
  ·rfl
 have sQ:∀ q (h:q<(l.eraseIdx i++[zI]).length),∀ x∈(l.eraseIdx i++[zI])[q].cells,x.one=true:=fun q h=>by
  rcases Eo fA h with⟨_,h',e⟩ | ⟨_,h',e⟩ | ⟨_,e⟩<;>rw[e]
  ·exact g4 _ _
  ·exact g4 _ _
  ·intro x hx
   simp only[zI,V.cells,List.mem_cons,List.not_mem_nil,or_false,or_self]at hx
   subst hx;rfl
 have KD:l.length*1<=(φ nm).cap*1:=Nat.mul_le_mul_right _ g1
 have ke:∀ q j (h:q<(l.eraseIdx i++[zI]).length) (h':j<(l.eraseIdx i++[zI])[q].cells.length),∃ c,jn[(φ nm).off+q*1+j]?=some c/\aB m (l.eraseIdx i++[zI])[q].cells[j] c:=by
  intro q j h h'
  have hq:q<l.length:=by rw[<-hL];exact h
  have hj:j<1:=by rw[<-mN q h];exact h'
  rw[k6 _ (by rw[k2];omega),k3 _ (by omega)]
  simp only[List.length_replicate,List.length_drop,dE]
  rcases Eo fA h with⟨h1,h2,e⟩ | ⟨h1,h2,e⟩ | ⟨h1,e⟩
  ·simp only[e]at h' |-
   rw[if_neg (by omega),if_neg (by omega)]
   exact⟨_,lX q j h2 hj,bT q j h2 h'⟩
  ·simp only[e]at h' |-
   rw[if_neg (by omega),if_pos (by omega),List.getElem?_drop,show (i+1)*1+((φ nm).off+q*1+j-((φ nm).off+i*1))=(q+1)*1+j by omega]
   exact⟨_,j6 c1 h2 hj,bT (q+1) j h2 h'⟩
  ·simp only[e]at h' |-
   rw[if_pos (by omega)]
   refine⟨.int .i64 0,by rw[List.getElem?_replicate,if_pos (by omega)],?_⟩
   have hz:zI.cells[j]=.int .i64 0:=by
    have :zI.cells=List.replicate 1 (.int .i64 0):=rfl
    simp only[this,List.getElem_replicate]
   rw[hz]
   exact .int _ _
 have hx:=Ext.same (φ:=φ) (o':=.arr 1 (l.eraseIdx i++[zI])) an (by simp only[O.len?,hL]) rfl
 have ff:=hC.chg (w':=bp w.drew (φ nm).blk (.cells jn T' f)) nm (.arr 1 (l.eraseIdx i++[zI])) (φ nm) hx ⟨rfl,rfl,rfl,by rw[Ao];exact Nat.le_refl _⟩
  (fun b' cJ hn=>by
    rw[kC (by rcases hn with h | h; · rw[g0]at h;cases h
              ·exact h)]
    rfl) (fun _=>.inr ⟨nX,rfl⟩)
  (.inr ⟨g0,by rw[hL];exact g1,g2,mN,sQ,jn,T',f,iH gD,g6,by rw[k5,k2];exact g7,ke⟩)
 rw[dX]at ff hx
 obtain⟨m',q1,q2,q3⟩:=ff.frz1 nm (.arr 1 (l.eraseIdx i++[zI])) (.farr 1 (l.eraseIdx i++[zI])) (aD _ _ _) rfl g0 jn T' f (iH gD) rfl rfl rfl
  (fun m' hle iZ=>.inr ⟨g0,⟨by rw[hL];exact g1,by rw[hL];exact Nat.le_trans g1 g2⟩,mN,sQ,fun i j a b=>let ⟨c,x,y⟩:=ke i j a b;⟨c,iZ _ _ x,y.mono hle⟩⟩)
 simp only[rZ]at q2
 have gM:Ext φ φ σ.obj (upd σ.obj nm (some (.farr 1 (l.eraseIdx i++[zI])))):=by
  have :=Ext.same (φ:=φ) (o':=.farr 1 (l.eraseIdx i++[zI])) an (by simp only[O.len?,hL]) rfl
  rwa [dX]at this
 refine⟨_,φ,m',rfl,q2,.v _ _ ?_,gM⟩
 have n4:(l.eraseIdx i).length=l.length-1:=List.length_eraseIdx_of_lt fA
 rw[<-n4]
 by_cases J':l.eraseIdx i=[]
 ·rw[J'];exact .slnil _ _
 ·have eX:∀ q (h:q<(l.eraseIdx i).length),(l.eraseIdx i++[zI])[q]'(by rw[List.length_append];omega)=(l.eraseIdx i)[q]:=fun q h=>List.getElem_append_left h
  refine .sl _ _ _ _ 1 (fun q j=>(jn[(φ nm).off+q*1+j]?).getD undef) J' (by rw[n4];omega) (by rw[n4];omega) (fun q h=>?_) (fun q j h hj=>?_) (fun q j h hj=>?_) (fun q h=>?_)
  ·rw[<-eX q h];exact mN _ _
  ·obtain⟨c,x,y⟩:=ke q j (by rw[List.length_append];omega) (by rw[mN];exact hj)
   rw[x];exact q3 _ _ x
  ·have hg:=eX q h
   simp only[<-hg]at hj |-
   obtain⟨c,x,y⟩:=ke q j (by rw[List.length_append];omega) hj
   rw[x];exact y.mono q1
  ·rw[<-eX q h];exact sQ _ _
open Go Go.Proofs
theorem G'{l:List Int}(h:fD l=true):l.Pairwise (· < ·):=by
 unfold fD at h
 rw[Bool.and_eq_true,kU]at h
 have h1:∀ i (hi:i+1<l.length),l[i]'(by omega)<l[i+1]:=fun i hi=>by
  have :=h.1 (i+1) hi
  unfold lD at this
  simp only[Bool.and_eq_true,Bool.or_eq_true,decide_eq_true_eq,Nat.add_sub_cancel]at this
  rw[getD_at (show i<l.length by omega),getD_at hi]at this
  rcases this.2 with h2 | h2
  ·simp at h2
  ·exact h2
 refine List.pairwise_iff_getElem.2 fun i j hi hj eC=>?_
 induction j with
 |zero=>omega
 |succ j ih=>
  rcases Nat.lt_succ_iff_lt_or_eq.1 eC with h2 | rfl
  ·have:=ih (by omega) h2
   have :=h1 j hj
   omega
  ·exact h1 i hj
theorem Lr(l:List Int)(p:Int):gi l p l.length=l.filter fun x=>x != p:=by
 unfold gi;rw[List.take_length]
theorem X8{l:List Int}{p:Int}(h:∀ y∈l,p<y):l.filter (fun x=>x != p)=l:=by
 rw[List.filter_eq_self]
 intro y hy
 have :=h y hy
 simp only[bne_iff_ne,ne_eq]
 omega
theorem LC:∀ {l:List Int} {p:Int},l.Pairwise (· < ·)->bR l p=true->l.eraseIdx (bz l p)=l.filter (fun x=>x != p)/\bz l p<l.length
 |[],p,_,h=>by simp[bR]at h
 |a::r,p,hs,h=>by
  rw[List.pairwise_cons]at hs
  by_cases ha:a=p
  ·subst ha
   have h0:bz (a::r) a=0:=by
    unfold bz
    rw[List.takeWhile_cons_of_neg (by simp)];rfl
   rw[h0]
   have hf:List.filter (fun x=>x != a) (a::r)=List.filter (fun x=>x != a) r:=by simp
   rw[hf,X8 hs.1]
   exact⟨rfl,by simp⟩
  ·have hr:bR r p=true:=by
     unfold bR at h |-
     rw[List.contains_iff_mem]at h |-
     rcases List.mem_cons.1 h with h1 | h1
     ·exact absurd h1.symm ha
     ·exact h1
   have ae:a<p:=hs.1 p (by unfold bR at hr;rwa [List.contains_iff_mem]at hr)
   obtain⟨h1,h2⟩:=LC hs.2 hr
   have h0:bz (a::r) p=bz r p+1:=by
    unfold bz
    rw[List.takeWhile_cons_of_pos (by simpa using ae)];rfl
   rw[h0]
   have hf:List.filter (fun x=>x != p) (a::r)=a::List.filter (fun x=>x != p) r:=by simp[ha]
   rw[hf,List.eraseIdx_cons_succ,h1]
   exact⟨rfl,by simpa using h2⟩
theorem KJ{d:Dk}{p:Int}:bR d.now.ho p=!kR d p:=by
 unfold kR
 rw[Lr]
 cases h:bR d.now.ho p with
 |true=>
  have hlen:¬ (d.now.ho.filter fun x=>x != p).length=d.now.ho.length:=by
   intro he
   have h1:=List.filter_eq_self.1 (List.length_filter_eq_length_iff.1 he |> fun hh=>List.filter_eq_self.2 hh)
   unfold bR at h
   rw[List.contains_iff_mem]at h
   have :=h1 p h
   simp at this
  rw[decide_eq_false hlen];rfl
 |false=>
  have dM:(d.now.ho.filter fun x=>x != p)=d.now.ho:=by
   rw[List.filter_eq_self]
   intro y hy
   simp only[bne_iff_ne,ne_eq]
   rintro rfl
   unfold bR at h
   have :=List.contains_iff_mem.2 hy
   rw[h]at this;cases this
  rw[dM,decide_eq_true rfl];rfl
theorem Yt(l:List Int)(i:Nat):(l.map vInt).eraseIdx i=(l.eraseIdx i).map vInt:=by
 rw[List.eraseIdx_eq_take_drop_succ,List.eraseIdx_eq_take_drop_succ,List.map_append,List.map_take,List.map_drop]
attribute [go_sem] cK S54 wK
@[go_sem] theorem ae6(f:Name->Name)(d:Dk)(j:Nat)(hd:D)(nm:Name)(n:Nat)(se:Int):D.renL f (bC d j hd nm n se)=bC d j (hd.ren f) (f nm) n se:=by
  unfold bC
  rw[gr,List.map_set,List.map_set,List.map_set,List.map_map]
  rfl
noncomputable def NB(j:Nat):List (Nat×Spec):=[(23,S23),(50,S50),(51,S51),(52,S52),(53,Af j),(54,S54)]
attribute [go_sem] NB
theorem aai{j:Nat}(hj:j<6):∀ f s,tbl (NB j) f=some s->ak Tryz.prog f s:=tc o6<|tc JE<|tc B8<|tc JD<|tc (JC j hj)<|tc JB<|tn
noncomputable def P8:PSpec:=p3 bf iI iI (fun d _ _=>di d) (fun d p t=>.tup [eE (oL d p t),vInt (fC d p t)]) false
noncomputable def S8:Spec:=P8.toSpec
attribute [go_sem] P8 S8
set_option maxHeartbeats 4000000 in
theorem s8:aL Tryz.prog 8 P8:=by
 refine w3 (rs:=[.cell 6 32,.tmp 7]) Tryz.func8 Tryz.ntmps8 (by rfl) (by kernel_rfl) (by decide) (fun h=>by cases h) ⟨_,rfl,lb rfl,fun d p t hp hw=>?_⟩
 have hP:=aU
 simp only[bf,iI]at hw |-
 obtain⟨j,hj,lS⟩:=G2 d t
 have hΓ:=aai hj
 have hs:di d:=hp
 repeat refine sq ?_
 refine rx hΓ [1,2,3,6] [[3,0],[6,0]] (fun K' hK=>by simp only[go_sem];(repeat (refine⟨ah,?_⟩));exact hK _ (by simp only[go_sem]) (by simp only[go_sem]<;>rfl)) ?_
 refine aF (e8 [6,0] _ (al zD) rfl rfl [1,2,3,6] [[3,0],[6,0]] ?_ rfl) ?_
 ·simp only[go_sem]
 simp only[go_sem]
 refine aF (bo [3,0] (al d) rfl [1,2,3,6] [[3,0],[6,0]] ?_ rfl) ?_
 ·simp only[go_sem]
 simp only[go_sem]
 repeat refine sq ?_
 refine rx hΓ [1,2,3,6,8] [[3,0],[6,0]] (fun K' hK=>by simp only[go_sem];(repeat (refine⟨ah,?_⟩));exact hK _ (by simp only[go_sem]) (by simp only[go_sem]<;>rfl)) ?_
 repeat refine sq ?_
 refine rx hΓ [1,2,3,6,8,16] [[3,0],[6,0]] (fun K' hK=>by simp only[go_sem];(repeat (refine⟨ah,?_⟩));exact hK _ (by simp only[go_sem]) (by simp only[go_sem]<;>rfl)) ?_
 repeat refine sq ?_
 refine aw rfl rfl (fun hb=>?_) (fun hb=>?_)
 ·repeat refine sq ?_
  have hd:=iA hb
  have hq:=Gi (p:=p) (t:=t) hd
  have e1:=dH hd
  repeat refine sq ?_
  refine rx hΓ [6,7] [[6,0]] (fun K' hK=>by simp only[go_sem];(repeat (refine⟨ah,?_⟩));exact hK _ (by simp only[go_sem]) (by simp only[go_sem]<;>rfl)) ?_
  refine ar ?_
  simp only[go_sem]
  first | (rw[hq.1,hq.2];done) | (rw[hq.1,hq.2];rfl) | (rw[hq.1,hq.2,e1];done) | (rw[hq.1,hq.2,e1];rfl)
 ·repeat refine sq ?_
  have hd:=iz hb
  refine ay ?_
  repeat refine sq ?_
  refine rx hΓ [1,2,3,6,21] [[3,0],[6,0]] (fun K' hK=>by simp only[go_sem];(repeat (refine⟨ah,?_⟩));exact hK _ (by simp only[go_sem]) (by simp only[go_sem]<;>rfl)) ?_
  repeat refine sq ?_
  refine aw rfl rfl (fun hb=>?_) (fun hb=>?_)
  ·repeat refine sq ?_
   have h1:aP p 1 999=false:=by simpa using hb
   have hq:=Gl (t:=t) hd h1
   repeat refine sq ?_
   refine rx hΓ [6,7] [[6,0]] (fun K' hK=>by simp only[go_sem];(repeat (refine⟨ah,?_⟩));exact hK _ (by simp only[go_sem]) (by simp only[go_sem]<;>rfl)) ?_
   refine ar ?_
   simp only[go_sem]
   first | (rw[hq.1,hq.2];done) | (rw[hq.1,hq.2];rfl) | (rw[hq.1,hq.2,e1];done) | (rw[hq.1,hq.2,e1];rfl)
  ·repeat refine sq ?_
   have h1:aP p 1 999=true:=by simpa using hb
   refine ay ?_
   repeat refine sq ?_
   refine rx hΓ [1,2,3,6,9] [[3,0],[6,0]] (fun K' hK=>by simp only[go_sem];(repeat (refine⟨ah,?_⟩));exact hK _ (by simp only[go_sem]) (by simp only[go_sem]<;>rfl)) ?_
   repeat refine sq ?_
   refine rx hΓ [1,2,3,6,9,27] [[3,0],[6,0]] (fun K' hK=>by simp only[go_sem];(repeat (refine⟨ah,?_⟩));exact hK _ (by simp only[go_sem]) (by simp only[go_sem]<;>rfl)) ?_
   repeat refine sq ?_
   refine aw rfl rfl (fun hb=>?_) (fun hb=>?_)
   ·repeat refine sq ?_
    have hn:=tL hb
    have h2:et d t=false:=by unfold nj at hn;rw[hd]at hn;simpa using hn
    have hq:=Gg hd h1 h2
    have e1:=ot hd h2
    repeat refine sq ?_
    refine rx hΓ [6,7] [[6,0]] (fun K' hK=>by simp only[go_sem];(repeat (refine⟨ah,?_⟩));exact hK _ (by simp only[go_sem]) (by simp only[go_sem]<;>rfl)) ?_
    refine ar ?_
    simp only[go_sem]
    first | (rw[hq.1,hq.2];done) | (rw[hq.1,hq.2];rfl) | (rw[hq.1,hq.2,e1];done) | (rw[hq.1,hq.2,e1];rfl)
   ·repeat refine sq ?_
    obtain⟨_,h2⟩:=tM hb
    obtain⟨fY,gO,_⟩:=p0 h2
    have jb:=lS h2
    have aa:=mG hd
    have hol:=aa.hol
    have ph:=aa.unl j hj
    have iV:=aa.se j hj
    have vj:d.now.ho.Pairwise (· < ·):=by
     have hh:=hd
     unfold aJ gW cr at hh
     simp only[Bool.and_eq_true]at hh
     exact G' hh.1.1.1.1.1.1.2
    refine ay ?_
    repeat refine sq ?_
    refine rx hΓ [1,2,3,6,10,11] [[3,0],[6,0]] (fun K' hK=>by simp only[go_sem,vj];(repeat (refine⟨ah,?_⟩));exact hK _ (by simp only[go_sem]) (by simp only[go_sem]<;>rfl)) ?_
    repeat refine sq ?_
    refine aN ?_
    repeat refine sq ?_
    refine rx hΓ [1,2,3,6,10,38] [[3,0],[6,0]] (fun K' hK=>by simp only[go_sem];(repeat (refine⟨ah,?_⟩));exact hK _ (by simp only[go_sem]) (by simp only[go_sem]<;>rfl)) ?_
    repeat refine sq ?_
    refine aw rfl rfl (fun hb=>?_) (fun hb=>?_)
    ·repeat refine sq ?_
     have h3:kR d p=true:=by have h4:=KJ (d:=d) (p:=p);(have h5:bR d.now.ho p=false:=by simpa using hb);rw[h5]at h4;simpa using h4.symm
     have hq:=Gk hd h1 h2 h3
     repeat refine sq ?_
     refine rx hΓ [6,7] [[6,0]] (fun K' hK=>by simp only[go_sem];(repeat (refine⟨ah,?_⟩));exact hK _ (by simp only[go_sem]) (by simp only[go_sem]<;>rfl)) ?_
     refine ar ?_
     simp only[go_sem]
     first | (rw[hq.1,hq.2];done) | (rw[hq.1,hq.2];rfl) | (rw[hq.1,hq.2,e1];done) | (rw[hq.1,hq.2,e1];rfl)
    ·repeat refine sq ?_
     have h5:bR d.now.ho p=true:=by simpa using hb
     have h3:kR d p=false:=by have h4:=KJ (d:=d) (p:=p);rw[h5]at h4;simpa using h4.symm
     obtain⟨g1,g2⟩:=LC vj h5
     have g3:(List.map vInt d.now.ho).eraseIdx (bz d.now.ho p)=(gi d.now.ho p d.now.ho.length).map vInt:=by rw[Yt,g1,Lr]
     have g4:IntKind.i64.wrap ((bz d.now.ho p:Int)+1)=(bz d.now.ho p:Int)+1:=wrap_i64 (by omega) (by omega)
     repeat refine sq ?_
     refine rx hΓ [1,2,3,6,10,42] [[3,0],[6,0]] (fun K' hK=>by simp only[go_sem,jb,fY,gO,vZ d hj,LP d hj];(repeat (refine⟨ah,?_⟩));exact hK _ (by simp only[go_sem]) (by simp only[go_sem]<;>rfl)) ?_
     repeat refine sq ?_
     refine aw rfl rfl (fun hb=>?_) (fun hb=>?_)
     ·repeat refine sq ?_
      have h4:lI d t=true:=by unfold lI;rw[jb];exact hb
      have hq:=Gj hd h1 h2 h3 h4
      repeat refine sq ?_
      refine rx hΓ [6,7] [[6,0]] (fun K' hK=>by simp only[go_sem];(repeat (refine⟨ah,?_⟩));exact hK _ (by simp only[go_sem]) (by simp only[go_sem]<;>rfl)) ?_
      refine ar ?_
      simp only[go_sem]
      first | (rw[hq.1,hq.2];done) | (rw[hq.1,hq.2];rfl) | (rw[hq.1,hq.2,e1];done) | (rw[hq.1,hq.2,e1];rfl)
     ·repeat refine sq ?_
      have h4:lI d t=false:=by unfold lI;rw[jb];exact hb
      have hq:=Gh hd h1 h2 h3 h4
      rw[jb]at hq
      have w1:IntKind.i64.wrap (d.now.se.get j+1)=d.now.se.get j+1:=by have:=iV;exact wrap_i64 (by have:=iV.1;omega) (by have:=iV.2;omega)
      refine ay ?_
      refine dq ?_
      simp only[go_sem]
      refine kp [1,2,3,6,10] [[3,0],[6,0]] ?_
      repeat refine sq ?_
      refine rx hΓ [1,2,6,10,12] [[6,0],[22,0,60,0],[12,0,5,0,60,0],[99,0,5,0,60,0]] (fun K' hK=>by simp only[go_sem,hs];(repeat (refine⟨ah,?_⟩));exact hK _ (by simp only[go_sem]) (by simp only[go_sem]<;>rfl)) ?_
      repeat refine sq ?_
      refine rx hΓ [1,2,6,12] [[6,0],[22,0,60,0],[12,0,5,0,60,0],[99,0,5,0,60,0]] (fun K' hK=>by simp only[go_sem,g4,g3,Int.toNat_natCast];(repeat (refine⟨ah,?_⟩));exact hK _ (by simp only[go_sem]) (by simp only[go_sem]<;>rfl)) ?_
      repeat refine sq ?_
      refine dx hΓ hP [[],[],[0],[0,2],[0,2,3],[0,2,3,4],[0,1,2,3,4,5],[0,1,2,3,4,5,6],[0,1,2,3,4,5,6,7],[0],[0,9],[0,9,10],[0,9,10,11],[0,1,2,3,4,5,6,7,8,9,10,11,12],[0,1,2,3,4,5,6,7,8,9,10,11,12,13]] [1,2,6,12] [[6,0],[22,0,60,0],[12,0,5,0,60,0],[99,0,5,0,60,0]] (by kernel_rfl) (fun K' hK=>by simp only[go_sem,jb,fY,gO,zE d _ _ _ _ hj,MI d _ _ _ _ _ hj,w1];(repeat (refine⟨ah,?_⟩));(first | refine⟨by rfl,?_⟩ | skip);exact hK _ (by simp only[go_sem]) (by simp only[go_sem]<;>rfl)) ?_
      repeat refine sq ?_
      refine dx hΓ hP [[],[],[],[],[2],[2,4],[2,4,5],[2,4,5,6],[2,3,4,5,6,7],[2,3,4,5,6,7,8],[],[],[10],[10,12],[10,12,13],[10,12,13,14],[10,11,12,13,14,15],[10,11,12,13,14,15,16],[],[10,11,12,13,14,15,16,17,18],[10,11,12,13,14,15,16,17,18,19],[2,3,4,5,6,7,8,9,10,11,12,13,14,15,16,17,18,19,20],[0],[0,22],[0,22,23],[0,22,23,24],[0,1,2,3,4,5,6,7,8,9,10,11,12,13,14,15,16,17,18,19,20,21,22,23,24,25],[0,1,2,3,4,5,6,7,8,9,10,11,12,13,14,15,16,17,18,19,20,21,22,23,24,25,26]] [6,12] [[6,0],[22,0,60,0],[12,0,5,0,60,0],[99,0,5,0,60,0]] (by kernel_rfl) (fun K' hK=>by simp only[go_sem,jb,fY,gO,zE d _ _ _ _ hj,zC d _ _ _ _ hj,EN d _ _ _ _ _ hj];(repeat (refine⟨ah,?_⟩));(first | refine⟨by rfl,?_⟩ | skip);exact hK _ (by simp only[go_sem]) (by simp only[go_sem]<;>rfl)) ?_
      refine aF (lu [22,0,60,0] [99,0,5,0,60,0] (2+j) _ _ _ _ rfl (zG _ _ _ _ _ hj) rfl (by simp only[List.length_append,List.length_map,List.length_cons,List.length_nil]) [6,12] [[6,0],[22,0,60,0]] ?_ rfl) ?_
      ·simp only[go_sem,zF d _ _ _ _ _ _ _ hj]
      simp only[go_sem,zF d _ _ _ _ _ _ _ hj]
      repeat refine sq ?_
      refine rx hΓ [6,7] [[6,0]] (fun K' hK=>by simp only[go_sem];(repeat (refine⟨ah,?_⟩));exact hK _ (by simp only[go_sem]) (by simp only[go_sem]<;>rfl)) ?_
      refine ar ?_
      simp only[go_sem]
      first | (rw[hq.1,hq.2];done) | (rw[hq.1,hq.2];rfl) | (rw[hq.1,hq.2,e1];done) | (rw[hq.1,hq.2,e1];rfl)
theorem k8:ak Tryz.prog 8 S8:=s8.sound
def cY(l:List Int)(x:Int):List Int:=l.take (bz l x)++[x]++l.drop (bz l x)
def fm(l:List Int)(x:Int)(i:Nat):List Int:=if bz l x<i then l.take (bz l x)++[x]++(l.take i).drop (bz l x)else l.take i
theorem xU(l:List Int)(x:Int):bz l x<=l.length:=by
 unfold bz
 exact(List.takeWhile_prefix _).length_le
theorem BG:∀ {l:List Int} {x:Int},l.Pairwise (· < ·)->∀ {i:Nat} (hi:i<l.length),l[i] <x↔i<bz l x
 |[],x,_,i,hi=>by simp at hi
 |a::r,x,hs,i,hi=>by
  rw[List.pairwise_cons]at hs
  by_cases ha:a<x
  ·have h0:bz (a::r) x=bz r x+1:=by
     unfold bz
     rw[List.takeWhile_cons_of_pos (by simpa using ha)];rfl
   rw[h0]
   cases i with
   |zero=>simp[ha]
   |succ i=>
    have :=BG (x:=x) hs.2 (i:=i) (by simpa using hi)
    simp only[List.getElem_cons_succ,this]
    omega
  ·have h0:bz (a::r) x=0:=by
     unfold bz
     rw[List.takeWhile_cons_of_neg (by simpa using ha)];rfl
   rw[h0]
   cases i with
   |zero=>simp;omega
   |succ i=>
    have :=hs.1 (r[i]'(by simpa using hi)) (List.getElem_mem _)
    simp only[List.getElem_cons_succ]
    omega
theorem adQ(l:List Int)(x:Int):fm l x 0=[]:=by
 unfold fm;rw[if_neg (by omega)];rfl
theorem RU{l:List Int}{x:Int}{i:Nat}(hi:i<l.length)(h:i=bz l x):fm l x i++[x]++[l[i]]=fm l x (i+1):=by
 unfold fm
 rw[if_neg (by omega),if_pos (by omega),<-h,List.take_add_one,List.getElem?_eq_getElem hi,List.drop_append_of_le_length (by rw[List.length_take];omega)]
 rw[List.drop_of_length_le (by rw[List.length_take];omega)]
 simp
theorem RQ{l:List Int}{x:Int}{i:Nat}(hi:i<l.length)(h:i<bz l x):fm l x i++[l[i]]=fm l x (i+1):=by
 unfold fm
 rw[if_neg (by omega),if_neg (by omega),List.take_add_one,List.getElem?_eq_getElem hi];rfl
theorem RR{l:List Int}{x:Int}{i:Nat}(hi:i<l.length)(h:bz l x<i):fm l x i++[l[i]]=fm l x (i+1):=by
 unfold fm
 rw[if_pos h,if_pos (by omega),List.take_add_one,List.getElem?_eq_getElem hi,List.drop_append_of_le_length (by rw[List.length_take];omega)]
 simp
theorem RT{l:List Int}{x:Int}(h:bz l x<l.length):fm l x l.length=cY l x:=by
 unfold fm cY
 rw[if_pos h,List.take_length]
theorem RS{l:List Int}{x:Int}(h:¬ bz l x<l.length):fm l x l.length++[x]=cY l x:=by
 have he:bz l x=l.length:=by have:=xU l x;omega
 unfold fm cY
 rw[if_neg h,he,List.take_length,List.drop_length,List.append_nil]
theorem Hh{l:List Int}{x:Int}{i:Nat}(hi:i<=l.length):(fm l x i).length<=i+1:=by
 unfold fm
 split
 ·simp only[List.length_append,List.length_take,List.length_drop,List.length_cons,List.length_nil]
  omega
 ·rw[List.length_take];omega
theorem Vn(l:List Int)(x:Int):(cY l x).length=l.length+1:=by
 have :=xU l x
 unfold cY
 simp only[List.length_append,List.length_take,List.length_drop,List.length_cons,List.length_nil]
 omega
def A6(l:List Int)(x:Int):List Int:=if bR l x=true then[]else cY l x
theorem A5{l:List Int}{x:Int}(h:bR l x=true):A6 l x=[]:=if_pos h
theorem mE{l:List Int}{x:Int}(h:bR l x=false):A6 l x=cY l x:=if_neg (by rw[h];decide)
theorem KI{l:List Int}{x:Int}{i:Nat}(hi:i<l.length)(h:l[i]=x):bR l x=true:=by
 unfold bR;rw[List.contains_iff_mem,<-h];exact List.getElem_mem hi
theorem W4{l:List Int}{x:Int}(h:∀ k (hk:k<l.length),k<l.length->l[k]≠x):bR l x=false:=by
 rw[Bool.eq_false_iff]
 intro hh
 unfold bR at hh
 rw[List.contains_iff_mem]at hh
 obtain⟨k,hk,e⟩:=List.getElem_of_mem hh
 exact h k hk hk e
noncomputable def P68:PSpec:=p2 dQ iI (fun l _=>l.Pairwise (· < ·)/\l.length<=1000) (fun l x=>.tup [.sl ((A6 l x).map vInt),.bool (!bR l x)]) false
noncomputable def S68:Spec:=P68.toSpec
attribute [go_sem] P68 S68
set_option maxHeartbeats 4000000 in
theorem Qt:aL Tryz.prog 68 P68:=by
 refine w2 (rs:=[.tmp 4,.tmp 5]) Tryz.func68 Tryz.ntmps68 (by rfl) (by kernel_rfl) (by decide) (fun h=>by cases h) ⟨_,rfl,lb rfl,fun l x hp hw=>?_⟩
 have hP:=aU
 simp only[iI,dQ]at hw |-
 have hΓ:=@j9 Tryz.prog
 obtain⟨hs,mT⟩:=hp
 have hl:l.length<=maxLen:=by unfold maxLen;omega
 repeat refine sq ?_
 refine rx hΓ [0,1] [] (fun K' hK=>by simp only[go_sem];(repeat (refine⟨ah,?_⟩));exact hK _ (by simp only[go_sem]) (by simp only[go_sem]<;>rfl)) ?_
 repeat refine sq ?_
 refine rx hΓ [0,1,6] [[34,0],[41,0],[47,0],[98,0]] (fun K' hK=>by simp only[go_sem];(repeat (refine⟨ah,?_⟩));exact hK _ (by simp only[go_sem]) (by simp only[go_sem]<;>rfl)) ?_
 refine aF (ua 6 [98,0] 1 (by simp only[go_sem]) (by simp only[go_sem]) [0,1,6] [[34,0],[41,0],[47,0],[98,0]] ?_ rfl) ?_
 ·simp only[go_sem]
 simp only[go_sem]
 repeat refine sq ?_
 refine rx hΓ [0,1,6,7] [[34,0],[41,0],[47,0],[98,0]] (fun K' hK=>by simp only[go_sem];(repeat (refine⟨ah,?_⟩));exact hK _ (by simp only[go_sem]) (by simp only[go_sem]<;>rfl)) ?_
 repeat refine sq ?_
 refine rx hΓ [0,1,6,7,8] [[34,0],[41,0],[47,0],[98,0]] (fun K' hK=>by simp only[go_sem];(repeat (refine⟨ah,?_⟩));exact hK _ (by simp only[go_sem]) (by simp only[go_sem]<;>rfl)) ?_
 repeat refine sq ?_
 refine aN ?_
 repeat refine sq ?_
 refine cB (fun z:Nat=>[(8,⟨true,.v (vInt z)⟩),(6,⟨true,.msl [98,0] (fm l x z).length⟩),(7,⟨true,.v (.bool (decide (bz l x<z)))⟩)]) (fun z=>[([98,0],.arr 1 ((fm l x z).map vInt))]) (fun z=>z<=l.length/\(∀ k (hk:k<l.length),k<z->l[k]≠x)) (fun z=>l.length-z) 0 ?_ ?_ ?_ ?_
 ·exact⟨Nat.zero_le _,fun k hk h=>absurd h (by omega)⟩
 ·rfl
 ·rfl
 rintro i ⟨hi,hR⟩
 simp only[go_sem]
 repeat refine sq ?_
 refine rx hΓ [0,1,6,7,8,12] [[34,0],[41,0],[47,0],[98,0]] (fun K' hK=>by simp only[go_sem];(repeat (refine⟨ah,?_⟩));exact hK _ (by simp only[go_sem]) (by simp only[go_sem]<;>rfl)) ?_
 repeat refine sq ?_
 refine aw rfl rfl (fun hb=>?_) (fun hb=>?_)
 ·have ae:i<l.length:=by simpa using hb
  have aj:(i:Int)<l.length:=by omega
  clear hb
  have hlen:=Hh (x:=x) hi
  repeat refine sq ?_
  refine ay ?_
  repeat refine sq ?_
  refine aN ?_
  repeat refine sq ?_
  refine rx hΓ [0,1,6,7,8,20] [[34,0],[41,0],[47,0],[98,0]] (fun K' hK=>by simp only[go_sem,aG ae,Int.toNat_natCast,Int.natCast_nonneg,aj,aG ae];(repeat (refine⟨ah,?_⟩));exact hK _ (by simp only[go_sem]) (by simp only[go_sem]<;>rfl)) ?_
  repeat refine sq ?_
  refine aw rfl rfl (fun hb=>?_) (fun hb=>?_)
  ·repeat refine sq ?_
   have hx:l[i]=x:=by simpa using hb
   have hh:=KI ae hx
   repeat refine sq ?_
   refine rx hΓ [4,5] [[34,0],[41,0],[47,0],[98,0]] (fun K' hK=>by simp only[go_sem,aG ae,Int.toNat_natCast,Int.natCast_nonneg,aj];(repeat (refine⟨ah,?_⟩));exact hK _ (by simp only[go_sem]) (by simp only[go_sem]<;>rfl)) ?_
   refine ar ?_
   simp only[go_sem]
   first | (rw[A5 hh,hh];rfl) | (rw[mE hh,hh,<-he,List.map_append];rfl) | (rw[mE hh,hh,<-he,List.map_append];exact⟨by simp,rfl⟩) | (rw[mE hh,hh,<-he];rfl)
  ·repeat refine sq ?_
   have hx:l[i]≠x:=by simpa using hb
   have hq:=BG (x:=x) hs ae
   refine ay ?_
   repeat refine sq ?_
   refine rx hΓ [0,1,6,7,8,30] [[34,0],[41,0],[47,0],[98,0]] (fun K' hK=>by simp only[go_sem,aG ae,Int.toNat_natCast,Int.natCast_nonneg,aj,aG ae];(repeat (refine⟨ah,?_⟩));exact hK _ (by simp only[go_sem]) (by simp only[go_sem]<;>rfl)) ?_
   repeat refine sq ?_
   refine aw rfl rfl (fun hb=>?_) (fun hb=>?_)
   ·repeat refine sq ?_
    have he:i=bz l x:=by simp at hb;omega
    have hn:=RU ae he
    have vH:decide (bz l x<i+1)=true:=decide_eq_true (by omega)
    repeat refine sq ?_
    refine rx hΓ [0,1,6,8] [[34,0],[41,0],[47,0],[98,0]] (fun K' hK=>by simp only[go_sem,aG ae,Int.toNat_natCast,Int.natCast_nonneg,aj];(repeat (refine⟨ah,?_⟩));exact hK _ (by simp only[go_sem]) (by simp only[go_sem]<;>rfl)) ?_
    repeat refine sq ?_
    refine rx hΓ [0,1,6,7,8] [[34,0],[41,0],[47,0],[98,0]] (fun K' hK=>by simp only[go_sem,aG ae,Int.toNat_natCast,Int.natCast_nonneg,aj];(repeat (refine⟨ah,?_⟩));exact hK _ (by simp only[go_sem]) (by simp only[go_sem]<;>rfl)) ?_
    repeat refine sq ?_
    refine aS hΓ fun K' hK=>?_
    simp only[go_sem,aG ae,Int.toNat_natCast,Int.natCast_nonneg,aj,aG ae,List.length_append,List.length_map,List.length_cons,List.length_nil]
    repeat (refine⟨ah,?_⟩)
    refine hK _ ?_
    clear K' hK
    simp only[go_sem]
    refine kp [0,1,6,7,8] [[34,0],[41,0],[47,0],[98,0]] ?_
    repeat refine sq ?_
    refine aS hΓ fun K' hK=>?_
    simp only[go_sem,aG ae,Int.toNat_natCast,Int.natCast_nonneg,aj]
    repeat (refine⟨ah,?_⟩)
    refine hK _ ?_
    clear K' hK
    simp only[go_sem]
    refine⟨i+1,⟨ae,?_⟩,by(show l.length-(i+1)<l.length-i;omega),?_⟩
    ·exact fun k hk h=>(Nat.lt_succ_iff_lt_or_eq.1 h).elim (fun h5=>hR k hk h5) (fun h5=>by subst h5;exact hx)
    refine bk [0,1,6,7,8] [[34,0],[41,0],[47,0],[98,0]] ?_ ?_
    ·simp only[go_sem,aE ae hl,Int.natCast_add,Int.natCast_one,<-hn,vH,List.map_append,List.length_append,List.map_cons,List.map_nil,List.length_map,List.length_cons,List.length_nil,Nat.reduceAdd]
    ·simp only[go_sem,aE ae hl,Int.natCast_add,Int.natCast_one,<-hn,vH,List.map_append,List.length_append,List.map_cons,List.map_nil,List.length_map,List.length_cons,List.length_nil,Nat.reduceAdd]
   ·repeat refine sq ?_
    have hn:fm l x i++[l[i]]=fm l x (i+1)/\decide (bz l x<i+1)=decide (bz l x<i):=by
     rcases Nat.lt_or_ge (bz l x) i with hg | hg
     ·exact⟨RR ae hg,by rw[decide_eq_true hg,decide_eq_true (by omega)]⟩
     ·have ed:i<bz l x:=by simp at hb;omega
      exact⟨RQ ae ed,by rw[decide_eq_false (by omega),decide_eq_false (by omega)]⟩
    obtain⟨hn,vH⟩:=hn
    refine ay ?_
    repeat refine sq ?_
    refine aS hΓ fun K' hK=>?_
    simp only[go_sem,aG ae,Int.toNat_natCast,Int.natCast_nonneg,aj,aG ae,List.length_append,List.length_map,List.length_cons,List.length_nil]
    repeat (refine⟨ah,?_⟩)
    refine hK _ ?_
    clear K' hK
    simp only[go_sem]
    refine kp [0,1,6,7,8] [[34,0],[41,0],[47,0],[98,0]] ?_
    repeat refine sq ?_
    refine aS hΓ fun K' hK=>?_
    simp only[go_sem,aG ae,Int.toNat_natCast,Int.natCast_nonneg,aj]
    repeat (refine⟨ah,?_⟩)
    refine hK _ ?_
    clear K' hK
    simp only[go_sem]
    refine⟨i+1,⟨ae,?_⟩,by(show l.length-(i+1)<l.length-i;omega),?_⟩
    ·exact fun k hk h=>(Nat.lt_succ_iff_lt_or_eq.1 h).elim (fun h5=>hR k hk h5) (fun h5=>by subst h5;exact hx)
    refine bk [0,1,6,7,8] [[34,0],[41,0],[47,0],[98,0]] ?_ ?_
    ·simp only[go_sem,aE ae hl,Int.natCast_add,Int.natCast_one,<-hn,vH,List.map_append,List.length_append,List.map_cons,List.map_nil,List.length_map,List.length_cons,List.length_nil,Nat.reduceAdd]
    ·simp only[go_sem,aE ae hl,Int.natCast_add,Int.natCast_one,<-hn,vH,List.map_append,List.length_append,List.map_cons,List.map_nil,List.length_map,List.length_cons,List.length_nil,Nat.reduceAdd]
 ·have aX:i=l.length:=by
   have :¬ (i:Int)<l.length:=by simpa using hb
   omega
  clear hb
  subst aX
  have hh:=W4 hR
  have hlen:=Hh (x:=x) hi
  repeat refine sq ?_
  refine b7 ?_
  simp only[go_sem]
  refine kp [1,6,7] [[34,0],[41,0],[47,0],[98,0]] ?_
  repeat refine sq ?_
  refine rx hΓ [1,6,43] [[34,0],[41,0],[47,0],[98,0]] (fun K' hK=>by simp only[go_sem];(repeat (refine⟨ah,?_⟩));exact hK _ (by simp only[go_sem]) (by simp only[go_sem]<;>rfl)) ?_
  repeat refine sq ?_
  refine aw rfl rfl (fun hb=>?_) (fun hb=>?_)
  ·repeat refine sq ?_
   have he:=RS (l:=l) (x:=x) (by simpa using hb)
   repeat refine sq ?_
   refine rx hΓ [6] [[34,0],[41,0],[47,0],[98,0]] (fun K' hK=>by simp only[go_sem,List.length_append,List.length_map,List.length_cons,List.length_nil];(repeat (refine⟨ah,?_⟩));exact hK _ (by simp only[go_sem]) (by simp only[go_sem]<;>rfl)) ?_
   repeat refine sq ?_
   refine rx hΓ [4,5] [[34,0],[41,0],[47,0],[98,0]] (fun K' hK=>by simp only[go_sem];(repeat (refine⟨ah,?_⟩));exact hK _ (by simp only[go_sem]) (by simp only[go_sem]<;>rfl)) ?_
   refine ar ?_
   simp only[go_sem]
   first | (rw[A5 hh,hh];rfl) | (rw[mE hh,hh,<-he,List.map_append];rfl) | (rw[mE hh,hh,<-he,List.map_append];exact⟨by simp,rfl⟩) | (rw[mE hh,hh,<-he];rfl)
  ·repeat refine sq ?_
   have he:=RT (l:=l) (x:=x) (by simpa using hb)
   refine ay ?_
   repeat refine sq ?_
   refine rx hΓ [4,5] [[34,0],[41,0],[47,0],[98,0]] (fun K' hK=>by simp only[go_sem];(repeat (refine⟨ah,?_⟩));exact hK _ (by simp only[go_sem]) (by simp only[go_sem]<;>rfl)) ?_
   refine ar ?_
   simp only[go_sem]
   first | (rw[A5 hh,hh];rfl) | (rw[mE hh,hh,<-he,List.map_append];rfl) | (rw[mE hh,hh,<-he,List.map_append];exact⟨by simp,rfl⟩) | (rw[mE hh,hh,<-he];rfl)
theorem UD:ak Tryz.prog 68 S68:=Qt.sound
def gJ(l:List Par)(ta:Int)(z:Nat):List Par:=(l.take z).filter fun p=>decide (p.no>ta)
def Bp(s:Stk)(f:Nat)(ta:Int):Stk:=⟨s.ho,s.un.set f (gJ (s.un.get f) ta (s.un.get f).length),s.se,s.ta⟩
def ew(f:Nat)(s:Stk)(p:Par):Bool:=p.no==s.ta.get f+1
def uf(f:Nat)(s:Stk)(p:Par):Stk:=if ew f s p=true then⟨cY s.ho p.pa,s.un,s.se,s.ta.set f (s.ta.get f+1)⟩else s
def fo(f:Nat)(s:Stk)(p:Par):Int:=if ew f s p=true then(if bR s.ho p.pa=true then 96 else if 40<(cY s.ho p.pa).length then 2 else 0)else 0
def cW(f:Nat)(ps:List Par)(s0:Stk):Nat->Stk
 | 0=>s0
 |z+1=>uf f (cW f ps s0 z) (ps.getD z default)
def fK(f:Nat)(ps:List Par)(s0:Stk):Nat->Int
 | 0=>0
 |z+1=>if fK f ps s0 z=0 then fo f (cW f ps s0 z) (ps.getD z default)else fK f ps s0 z
def bG(d:Dk)(b:Bag):Stk:=Bp d.now b.fr.toNat b.ta
def kL(d:Dk)(b:Bag):Bool:=fM b&&(b.to==d.me)
def jx(d:Dk)(b:Bag):Int:=if aJ d=true then(if kL d b=true then fK b.fr.toNat b.ps (bG d b) b.ps.length else 93)else 92
def sv(d:Dk)(b:Bag):Dk:=if jx d b=0 then d.setN (cW b.fr.toNat b.ps (bG d b) b.ps.length)else zD
theorem Hs{d:Dk}{b:Bag}(h:aJ d=false):sv d b=zD/\jx d b=92:=by
 have :jx d b=92:=if_neg (by rw[h];decide)
 exact⟨if_neg (by rw[this];decide),this⟩
theorem Ht{d:Dk}{b:Bag}(h:aJ d=true)(h1:kL d b=false):sv d b=zD/\jx d b=93:=by
 have :jx d b=93:=by unfold jx;rw[if_pos h,if_neg (by rw[h1];decide)]
 exact⟨if_neg (by rw[this];decide),this⟩
theorem LD(f:Nat)(ps:List Par)(s0:Stk){z:Nat}(h:fK f ps s0 z≠0):∀ k,fK f ps s0 (z+k)=fK f ps s0 z
 | 0=>rfl
 |k+1=>by
  have :=LD f ps s0 h k
  rw[<-Nat.add_assoc]
  show (if fK f ps s0 (z+k)=0 then _ else _)=_
  rw[this,if_neg h]
theorem Bq{d:Dk}{b:Bag}(h:aJ d=true)(h1:kL d b=true){i:Nat}(hi:i<b.ps.length){e:Int}(h2:fK b.fr.toNat b.ps (bG d b) i=0)(h3:fo b.fr.toNat (cW b.fr.toNat b.ps (bG d b) i) (b.ps.getD i default)=e)(he:e≠0):sv d b=zD/\jx d b=e:=by
 have h4:fK b.fr.toNat b.ps (bG d b) (i+1)=e:=by
  show (if fK b.fr.toNat b.ps (bG d b) i=0 then _ else _)=_
  rw[if_pos h2,h3]
 have h5:=LD b.fr.toNat b.ps (bG d b) (by rw[h4];exact he) (b.ps.length-(i+1))
 rw[show i+1+(b.ps.length-(i+1))=b.ps.length by omega,h4]at h5
 have :jx d b=e:=by unfold jx;rw[if_pos h,if_pos h1,h5]
 exact⟨if_neg (by rw[this];exact he),this⟩
theorem Hr{d:Dk}{b:Bag}(h:aJ d=true)(h1:kL d b=true)(h2:fK b.fr.toNat b.ps (bG d b) b.ps.length=0):sv d b=d.setN (cW b.fr.toNat b.ps (bG d b) b.ps.length)/\jx d b=0:=by
 have :jx d b=0:=by unfold jx;rw[if_pos h,if_pos h1,h2]
 exact⟨if_pos this,this⟩
theorem FH{l:List Par}{ta:Int}{z:Nat}(h:z<l.length):gJ l ta (z+1)=if decide (l[z].no>ta)=true then gJ l ta z++[l[z]]else gJ l ta z:=by
 unfold gJ
 rw[List.take_add_one,List.getElem?_eq_getElem h,List.filter_append]
 show _++List.filter _ [l[z]]=_
 by_cases hp:decide (l[z].no>ta)=true
 ·rw[if_pos hp]
  have :List.filter (fun p:Par=>decide (p.no>ta)) [l[z]]=[l[z]]:=by simp only[List.filter,hp]
  rw[this]
 ·rw[if_neg hp]
  have qQ:decide (l[z].no>ta)=false:=by simpa using hp
  have :List.filter (fun p:Par=>decide (p.no>ta)) [l[z]]=[]:=by simp only[List.filter,qQ]
  rw[this,List.append_nil]
theorem OM{l:List Par}{ta:Int}{z:Nat}(h:z<l.length)(hp:decide (l[z].no>ta)=true):gJ l ta (z+1)=gJ l ta z++[l[z]]:=by rw[FH h,if_pos hp]
theorem OO{l:List Par}{ta:Int}{z:Nat}(h:z<l.length)(hp:decide (l[z].no>ta)=false):gJ l ta (z+1)=gJ l ta z:=by rw[FH h,if_neg (by rw[hp];decide)]
theorem ON(l:List Par)(ta:Int)(z:Nat):(gJ l ta z).length<=l.length:=by
 unfold gJ
 refine Nat.le_trans (List.length_filter_le _ _) ?_
 rw[List.length_take];omega
theorem bg.set_self{α:Type}(s:bg α)(i:Nat)(hi:i<6):s.set i (s.get i)=s:=
 jZ (P:=fun i=>s.set i (s.get i)=s) rfl rfl rfl rfl rfl rfl hi
theorem tJ{b:Bag}(h:fM b=true):0<=b.fr/\b.fr<6/\b.fr.toNat<6/\b.ps.length<=40/\(∀ p∈b.ps,1<=p.no/\p.no<=99999/\1<=p.pa/\p.pa<=999)/\0<=b.ta/\b.ta<=99999:=by
 unfold fM at h
 simp only[Bool.and_eq_true]at h
 obtain⟨⟨⟨⟨h1,h2⟩,h3⟩,h4⟩,h5⟩:=h
 have h1:=iu.1 h1
 have h5:=iu.1 h5
 unfold cR at h4
 rw[Bool.and_eq_true,decide_eq_true_eq,kU]at h4
 refine⟨by omega,by omega,by omega,h4.2,fun p hp=>?_,h5.1,h5.2⟩
 obtain⟨i,hi,rfl⟩:=List.getElem_of_mem hp
 have :=h4.1 i hi
 unfold fU at this
 rw[getD_at hi]at this
 simp only[Bool.and_eq_true]at this
 have a:=iu.1 this.1.1
 have c:=iu.1 this.1.2
 exact⟨a.1,a.2,c.1,c.2⟩
structure nu (f:Nat) (s:Stk):Prop where
 ri:s.ho.Pairwise (· < ·)
 len:s.ho.length<=40
 t0:0<=s.ta.get f
 t1:s.ta.get f<=99999
theorem Vm{l:List Int}{x:Int}(hs:l.Pairwise (· < ·))(hh:bR l x=false):(cY l x).Pairwise (· < ·):=by
 have qZ:=fun {i:Nat} (hi:i<l.length)=>BG (x:=x) hs hi
 have hle:=xU l x
 have ht:∀ a∈l.take (bz l x),a<x:=by
  intro a ha
  obtain⟨i,hi,rfl⟩:=List.getElem_of_mem ha
  rw[List.length_take]at hi
  rw[List.getElem_take]
  exact(qZ (by omega)).2 (by omega)
 have hd:∀ a∈l.drop (bz l x),x<a:=by
  intro a ha
  obtain⟨i,hi,rfl⟩:=List.getElem_of_mem ha
  rw[List.length_drop]at hi
  rw[List.getElem_drop]
  have h1:¬ l[bz l x+i] <x:=fun h=>by have:=(qZ (by omega)).1 h;omega
  have h2:l[bz l x+i]≠x:=fun h=>by have:=KI (by omega) h;rw[hh]at this;cases this
  omega
 unfold cY
 rw[List.append_assoc,List.pairwise_append]
 refine⟨hs.sublist (List.take_sublist _ _),?_,fun a ha b hb=>?_⟩
 ·rw[List.pairwise_append]
  refine⟨by simp,hs.sublist (List.drop_sublist _ _),fun a ha b hb=>?_⟩
  simp only[List.mem_cons,List.not_mem_nil,or_false]at ha
  subst ha
  exact hd b hb
 ·rcases List.mem_append.1 hb with h1 | h1
  ·simp only[List.mem_cons,List.not_mem_nil,or_false]at h1
   subst h1
   exact ht a ha
  ·have:=ht a ha
   have :=hd b h1
   omega
theorem R7{f:Nat}(hf:f<6){s:Stk}{p:Par}(h:nu f s)(hp:p.no<=99999)(he:fo f s p=0):nu f (uf f s p):=by
 unfold uf
 unfold fo at he
 by_cases hn:ew f s p=true
 ·rw[if_pos hn]at he |-
  by_cases hh:bR s.ho p.pa=true
  ·rw[if_pos hh]at he;cases he
  ·rw[if_neg hh]at he
   by_cases hl:40<(cY s.ho p.pa).length
   ·rw[if_pos hl]at he;cases he
   ·have hg:=(s.ta.get_set (i:=f) (j:=f) (s.ta.get f+1) hf).1
    unfold ew at hn
    have fx:p.no=s.ta.get f+1:=by simpa using hn
    exact⟨Vm h.ri (by simpa using hh),by show (cY s.ho p.pa).length<=40;omega,by show 0<=(s.ta.set f _).get f;rw[hg];have:=h.t0;omega,by show (s.ta.set f _).get f<=99999;rw[hg];omega⟩
 ·rw[if_neg hn];exact h
theorem Bm{f:Nat}(hf:f<6){ps:List Par}{s0:Stk}(h0:nu f s0)(hp:∀ p∈ps,p.no<=99999):∀ {z:Nat},z<=ps.length->fK f ps s0 z=0->nu f (cW f ps s0 z)
 | 0,_,_=>h0
 |z+1,hz,he=>by
  have s4:(if fK f ps s0 z=0 then fo f (cW f ps s0 z) (ps.getD z default)else fK f ps s0 z)=0:=he
  by_cases h1:fK f ps s0 z=0
  ·rw[if_pos h1]at s4
   have hg:ps.getD z default=ps[z]'(by omega):=getD_at (by omega)
   exact R7 hf (Bm hf h0 hp (by omega) h1) (by rw[hg];exact hp _ (List.getElem_mem _)) s4
  ·rw[if_neg h1]at s4;exact absurd s4 h1
theorem Hl{d:Dk}{f:Nat}{ta:Int}(hf:f<6)(h:aJ d=true):nu f (Bp d.now f ta):=by
 unfold aJ gW cr at h
 simp only[Bool.and_eq_true]at h
 have hp:=h.1.1.1.1.1.1.2
 have ha:=kU.1 h.1.1.2 f hf
 unfold fT at ha
 simp only[Bool.and_eq_true]at ha
 have ht:=iu.1 ha.1.1.2
 exact⟨G' hp,(sn hp).1,ht.1,ht.2⟩
end Go.Eng
