import Derived.Test.YtckmfkgppohnmaaGreatDoorK8
import Derived.Test.YtckmfkgppohnmaaGreatDoorProg
/- Texts NW53 to KB. -/
set_option linter.all false
namespace Go.Eng
open Go Go.Proofs
theorem Hi(d:Dk)(nm:Name)(n:Nat){f:Nat}(hf:f<6):List.take (2+f) (List.map D.v (al d))++[D.msl nm n]++List.drop (2+f+1) (List.map D.v (al d))=bC d f (.v (fa d.now.ho)) nm n (d.now.se.get f):=
 jZ (P:=fun f=>List.take (2+f) (List.map D.v (al d))++[D.msl nm n]++List.drop (2+f+1) (List.map D.v (al d))=bC d f (.v (fa d.now.ho)) nm n (d.now.se.get f)) rfl rfl rfl rfl rfl rfl hf
@[go_sem] theorem aeR{dom:Name->Bool}(d:Dk)(i:Nat):D.closL dom (List.take i (List.map D.v (al d))++[D.nilsl]++List.drop (i+1) (List.map D.v (al d)))=true:=by
  rw[pN]
  intro x hx
  simp only[List.mem_append,List.mem_cons,List.not_mem_nil,or_false]at hx
  rcases hx with(hx | hx) | hx
  ·exact pN.1 (Mo dom (al d) i) x hx
  ·subst hx;rfl
  ·exact pN.1 (Mr dom (al d) (i+1)) x hx
theorem Ej(d:Dk){f:Nat}(hf:f<6):(List.map D.v (al d)).getD (14+f) .any=.v (vInt (d.now.ta.get f)):=
 jZ (P:=fun f=>(List.map D.v (al d)).getD (14+f) .any=.v (vInt (d.now.ta.get f))) rfl rfl rfl rfl rfl rfl hf
@[go_sem] theorem aem(d:Dk):(List.map D.v (al d)).getD 1 .any=.v (fa d.now.ho):=rfl
@[go_sem] theorem aeh(d:Dk)(l:List Int):List.take 1 (List.map D.v (al d))++[.v (.sl (l.map vInt))]++List.drop 2 (List.map D.v (al d))=List.map D.v (al (d.setN ⟨l,d.now.un,d.now.se,d.now.ta⟩)):=rfl
theorem Yk(d:Dk)(x:Int){f:Nat}(hf:f<6):List.take (14+f) (List.map D.v (al d))++[.v (vInt x)]++List.drop (14+f+1) (List.map D.v (al d))=List.map D.v (al (d.setN ⟨d.now.ho,d.now.un,d.now.se,d.now.ta.set f x⟩)):=
 jZ (P:=fun f=>List.take (14+f) (List.map D.v (al d))++[.v (vInt x)]++List.drop (14+f+1) (List.map D.v (al d))=List.map D.v (al (d.setN ⟨d.now.ho,d.now.un,d.now.se,d.now.ta.set f x⟩))) rfl rfl rfl rfl rfl rfl hf
@[go_sem] theorem adI(d:Dk)(s:Stk):(d.setN s).now=s:=rfl
@[go_sem] theorem adH(d:Dk)(s s':Stk):(d.setN s).setN s'=d.setN s':=rfl
theorem Hk(d:Dk)(nm:Name)(n:Nat)(ta:Int){f:Nat}(hf:f<6):(bC d f (.v (fa d.now.ho)) nm n (d.now.se.get f)).set (2+f) (.v (.sl ((gJ (d.now.un.get f) ta (d.now.un.get f).length).map encPa)))=List.map D.v (al (d.setN (Bp d.now f ta))):=by
 rw[EO d d.now.ho nm n (d.now.se.get f) _ hf,bg.set_self _ _ hf]
 rfl
def tl(d:Dk)(b:Bag):Bool:=(kQ b != 0)||(b.to != d.me)
theorem zg(d:Dk)(b:Bag):tl d b=!kL d b:=by
 unfold tl kL kQ
 have :(b.to != d.me)=!(b.to==d.me):=rfl
 rw[this]
 cases fM b<;>cases (b.to==d.me)<;>rfl
theorem AE(f:Nat)(ps:List Par)(s0:Stk){i:Nat}(hi:i<ps.length)(hn:ew f (cW f ps s0 i) ps[i]=true):cW f ps s0 (i+1)=⟨cY (cW f ps s0 i).ho ps[i].pa,(cW f ps s0 i).un,(cW f ps s0 i).se,(cW f ps s0 i).ta.set f ((cW f ps s0 i).ta.get f+1)⟩:=by
 show uf f (cW f ps s0 i) (ps.getD i default)=_
 rw[getD_at hi]
 exact if_pos hn
theorem FY(f:Nat)(ps:List Par)(s0:Stk){i:Nat}(hi:i<ps.length)(hn:ew f (cW f ps s0 i) ps[i]=false):cW f ps s0 (i+1)=cW f ps s0 i:=by
 show uf f (cW f ps s0 i) (ps.getD i default)=_
 rw[getD_at hi]
 exact if_neg (by rw[hn];decide)
theorem Hm(f:Nat)(s:Stk)(p:Par)(hn:ew f s p=false):fo f s p=0:=if_neg (by rw[hn];decide)
theorem Bo(f:Nat)(s:Stk)(p:Par)(hn:ew f s p=true)(hh:bR s.ho p.pa=true):fo f s p=96:=by unfold fo;rw[if_pos hn,if_pos hh]
theorem Bn(f:Nat)(s:Stk)(p:Par)(hn:ew f s p=true)(hh:bR s.ho p.pa=false)(hl:40<(cY s.ho p.pa).length):fo f s p=2:=by unfold fo;rw[if_pos hn,if_neg (by rw[hh];decide),if_pos hl]
theorem Hn(f:Nat)(s:Stk)(p:Par)(hn:ew f s p=true)(hh:bR s.ho p.pa=false)(hl:¬ 40<(cY s.ho p.pa).length):fo f s p=0:=by unfold fo;rw[if_pos hn,if_neg (by rw[hh];decide),if_neg hl]
theorem zl{f:Nat}{ps:List Par}{s0:Stk}{i:Nat}(hi:i<ps.length)(h:fK f ps s0 i=0)(he:fo f (cW f ps s0 i) ps[i]=0):fK f ps s0 (i+1)=0:=by
 show (if fK f ps s0 i=0 then fo f (cW f ps s0 i) (ps.getD i default)else _)=0
 rw[if_pos h,getD_at hi,he]
noncomputable def NA:List (Nat×Spec):=[(39,S39),(41,S41),(57,S57),(68,S68)]
theorem aah:∀ f s,tbl NA f=some s->ak Tryz.prog f s:=tc o5<|tc UP<|tc yi<|tc UD<|tn
attribute [go_sem] NA
noncomputable def P17:PSpec:=p2 bf gv (fun d _=>di d) (fun d b=>.tup [eE (sv d b),vInt (jx d b)]) false
noncomputable def S17:Spec:=P17.toSpec
attribute [go_sem] P17 S17
set_option maxRecDepth 20000 in
set_option maxHeartbeats 4000000 in
theorem Q7:aL Tryz.prog 17 P17:=by
 refine w2 (rs:=[.cell 4 32,.tmp 5]) Tryz.func17 Tryz.ntmps17 (by rfl) (by kernel_rfl) (by decide) (fun h=>by cases h) ⟨_,rfl,lb rfl,fun d b hp hw=>?_⟩
 have hP:=aU
 simp only[gv,bf]at hw |-
 have hΓ:=aah
 have hs:di d:=hp
 repeat refine sq ?_
 refine rx hΓ [2,3,4] [[2,0],[3,0],[4,0],[75,0]] (fun K' hK=>by simp only[go_sem];(repeat (refine⟨ah,?_⟩));exact hK _ (by simp only[go_sem]) (by simp only[go_sem]<;>rfl)) ?_
 refine aF (e8 [4,0] _ (al zD) rfl rfl [2,3,4] [[2,0],[3,0],[4,0],[75,0]] ?_ rfl) ?_
 ·simp only[go_sem]
 simp only[go_sem]
 refine aF (bo [2,0] (al d) rfl [2,3,4] [[2,0],[3,0],[4,0],[75,0]] ?_ rfl) ?_
 ·simp only[go_sem]
 simp only[go_sem]
 refine aF (bo [3,0] (aZ b) rfl [2,3,4] [[2,0],[3,0],[4,0],[75,0]] ?_ rfl) ?_
 ·simp only[go_sem]
 simp only[go_sem]
 repeat refine sq ?_
 refine rx hΓ [2,3,4,13] [[2,0],[3,0],[4,0],[75,0]] (fun K' hK=>by simp only[go_sem];(repeat (refine⟨ah,?_⟩));exact hK _ (by simp only[go_sem]) (by simp only[go_sem]<;>rfl)) ?_
 repeat refine sq ?_
 refine aw rfl rfl (fun hb=>?_) (fun hb=>?_)
 ·repeat refine sq ?_
  have hd:=iA hb
  have hq:=Hs (b:=b) hd
  repeat refine sq ?_
  refine rx hΓ [4,5] [[4,0],[75,0]] (fun K' hK=>by simp only[go_sem];(repeat (refine⟨ah,?_⟩));exact hK _ (by simp only[go_sem]) (by simp only[go_sem]<;>rfl)) ?_
  refine ar ?_
  simp only[go_sem]
  first | (rw[hq.1,hq.2];done) | (rw[hq.1,hq.2];rfl)
 ·repeat refine sq ?_
  have hd:=iz hb
  refine ay ?_
  repeat refine sq ?_
  refine rx hΓ [2,3,4,24] [[2,0],[3,0],[4,0],[75,0]] (fun K' hK=>by simp only[go_sem,Nat.add_zero];(repeat (refine⟨ah,?_⟩));exact hK _ (by simp only[go_sem]) (by simp only[go_sem]<;>rfl)) ?_
  repeat refine sq ?_
  refine aw rfl rfl (fun hb=>?_) (fun hb=>?_)
  ·repeat refine sq ?_
   have h1:kL d b=false:=by have h4:=zg d b;unfold tl at h4;rw[hb]at h4;simpa using h4.symm
   have hq:=Ht hd h1
   repeat refine sq ?_
   refine rx hΓ [4,5] [[4,0],[75,0]] (fun K' hK=>by simp only[go_sem];(repeat (refine⟨ah,?_⟩));exact hK _ (by simp only[go_sem]) (by simp only[go_sem]<;>rfl)) ?_
   refine ar ?_
   simp only[go_sem]
   first | (rw[hq.1,hq.2];done) | (rw[hq.1,hq.2];rfl)
  ·repeat refine sq ?_
   have h1:kL d b=true:=by have h4:=zg d b;unfold tl at h4;rw[hb]at h4;simpa using h4.symm
   have rn:fM b=true:=by unfold kL at h1;rw[Bool.and_eq_true]at h1;exact h1.1
   obtain⟨iw,kb,hf,bU,vl,Cs,Cr⟩:=tJ rn
   have ph:=(mG hd).unl b.fr.toNat hf
   have hl:(d.now.un.get b.fr.toNat).length<=maxLen:=by unfold maxLen;omega
   have eb:b.ps.length<=maxLen:=by unfold maxLen;omega
   have ki:=Hl (ta:=b.ta) hf hd
   have hI:=fun {z:Nat}=>Bm (z:=z) hf ki (fun p hp=>(vl p hp).2.1)
   refine ay ?_
   repeat refine sq ?_
   refine rx hΓ [2,3,4,6] [[2,0],[3,0],[4,0],[6,0],[75,0],[98,0]] (fun K' hK=>by simp only[go_sem,hs];(repeat (refine⟨ah,?_⟩));exact hK _ (by simp only[go_sem]) (by simp only[go_sem]<;>rfl)) ?_
   repeat refine sq ?_
   refine rx hΓ [2,3,4,6] [[2,0],[3,0],[4,0],[6,0],[75,0],[98,0]] (fun K' hK=>by simp only[go_sem,iw,kb];(repeat (refine⟨ah,?_⟩));exact hK _ (by simp only[go_sem]) (by simp only[go_sem]<;>rfl)) ?_
   refine aF (Aq [6,0] [98,0] (2+b.fr.toNat) 2 _ rfl (xT (by rw[List.length_map,ma];omega)) rfl [2,3,4,6] [[2,0],[3,0],[4,0],[6,0],[98,0]] ?_ rfl) ?_
   ·simp only[go_sem,o3 (show 2+b.fr.toNat<(List.map D.v (al d)).length by rw[List.length_map,ma];omega),Hi d _ _ hf]
   simp only[go_sem,o3 (show 2+b.fr.toNat<(List.map D.v (al d)).length by rw[List.length_map,ma];omega),Hi d _ _ hf]
   repeat refine sq ?_
   refine rx hΓ [2,3,4,6,7] [[2,0],[3,0],[4,0],[6,0],[75,0],[98,0]] (fun K' hK=>by simp only[go_sem];(repeat (refine⟨ah,?_⟩));exact hK _ (by simp only[go_sem]) (by simp only[go_sem]<;>rfl)) ?_
   repeat refine sq ?_
   refine aN ?_
   repeat refine sq ?_
   refine cB (fun z:Nat=>[(7,⟨true,.v (vInt z)⟩)]) (fun z=>[([6,0],.box (bC d b.fr.toNat (.v (fa d.now.ho)) [98,0] (gJ (d.now.un.get b.fr.toNat) b.ta z).length (d.now.se.get b.fr.toNat))),([98,0],.arr 2 ((gJ (d.now.un.get b.fr.toNat) b.ta z).map encPa))]) (fun z=>z<=(d.now.un.get b.fr.toNat).length) (fun z=>(d.now.un.get b.fr.toNat).length-z) 0 ?_ ?_ ?_ ?_
   ·exact Nat.zero_le _
   ·rfl
   ·rfl
   rintro i hi
   simp only[go_sem]
   repeat refine sq ?_
   refine rx hΓ [2,3,4,6,7,41] [[2,0],[3,0],[4,0],[6,0],[75,0],[98,0]] (fun K' hK=>by simp only[go_sem,vZ d hf,iw,kb];(repeat (refine⟨ah,?_⟩));exact hK _ (by simp only[go_sem]) (by simp only[go_sem]<;>rfl)) ?_
   repeat refine sq ?_
   refine aw rfl rfl (fun hb=>?_) (fun hb=>?_)
   ·have ae:i<(d.now.un.get b.fr.toNat).length:=by simpa using hb
    have aj:(i:Int)<(d.now.un.get b.fr.toNat).length:=by omega
    clear hb
    have fB:=ON (d.now.un.get b.fr.toNat) b.ta i
    repeat refine sq ?_
    refine ay ?_
    repeat refine sq ?_
    refine aN ?_
    repeat refine sq ?_
    refine dx hΓ hP [[],[0],[],[2],[0,1,2,3],[0,1,2,3,4],[],[0,1,2,3,4,5,6],[0,1,2,3,4,5,6,7],[0,1,2,3,4,5,6,7,8],[],[10],[0,1,2,3,4,5,6,7,8,9,10,11]] [2,3,4,6,7,56] [[2,0],[3,0],[4,0],[6,0],[75,0],[98,0]] (by kernel_rfl) (fun K' hK=>by simp only[go_sem,aG ae,Int.toNat_natCast,Int.natCast_nonneg,aj,vZ d hf,iw,kb];(repeat (refine⟨ah,?_⟩));(first | refine⟨by rfl,?_⟩ | skip);exact hK _ (by simp only[go_sem]) (by simp only[go_sem]<;>rfl)) ?_
    repeat refine sq ?_
    refine aw rfl rfl (fun hb=>?_) (fun hb=>?_)
    ·repeat refine sq ?_
     have mQ:decide ((d.now.un.get b.fr.toNat)[i].no>b.ta)=true:=by simpa using hb
     have fy:=OM ae mQ
     repeat refine sq ?_
     refine tI hΓ hP [[],[0],[],[2],[],[4],[2,3,4,5],[2,3,4,5,6],[],[8],[],[10],[8,9,10,11],[8,9,10,11,12],[],[8,9,10,11,12,13,14],[8,9,10,11,12,13,14,15],[8,9,10,11,12,13,14,15,16],[2,3,4,5,6,7,8,9,10,11,12,13,14,15,16,17],[],[19],[0,1,2,3,4,5,6,7,8,9,10,11,12,13,14,15,16,17,18,19,20],[0,1,2,3,4,5,6,7,8,9,10,11,12,13,14,15,16,17,18,19,20,21]] (by kernel_rfl) fun K' hK=>?_
     simp only[go_sem,aG ae,Int.toNat_natCast,Int.natCast_nonneg,aj,vZ d hf,iw,kb,zC d _ _ _ _ hf,EN d _ _ _ _ _ hf]
     repeat (refine⟨ah,?_⟩)
     first | refine⟨by rfl,?_⟩ | skip
     refine hK _ ?_
     clear K' hK
     simp only[go_sem]
     refine kp [2,3,4,6,7] [[2,0],[3,0],[4,0],[6,0],[75,0],[98,0]] ?_
     repeat refine sq ?_
     refine aS hΓ fun K' hK=>?_
     simp only[go_sem,aG ae,Int.toNat_natCast,Int.natCast_nonneg,aj]
     repeat (refine⟨ah,?_⟩)
     refine hK _ ?_
     clear K' hK
     simp only[go_sem]
     refine⟨i+1,ae,by(show (d.now.un.get b.fr.toNat).length-(i+1)<(d.now.un.get b.fr.toNat).length-i;omega),?_⟩
     refine bk [2,3,4,6,7] [[2,0],[3,0],[4,0],[6,0],[75,0],[98,0]] ?_ ?_
     ·simp only[go_sem,aE ae hl,Int.natCast_add,Int.natCast_one,fy,List.map_append,List.length_append,List.map_cons,List.map_nil,List.length_cons,List.length_nil]
     ·simp only[go_sem,aE ae hl,Int.natCast_add,Int.natCast_one,fy,List.map_append,List.length_append,List.map_cons,List.map_nil,List.length_cons,List.length_nil]
    ·repeat refine sq ?_
     have mQ:decide ((d.now.un.get b.fr.toNat)[i].no>b.ta)=false:=by simpa using hb
     have fy:=OO ae mQ
     refine ay ?_
     refine dq ?_
     simp only[go_sem]
     refine kp [2,3,4,6,7] [[2,0],[3,0],[4,0],[6,0],[75,0],[98,0]] ?_
     repeat refine sq ?_
     refine aS hΓ fun K' hK=>?_
     simp only[go_sem,aG ae,Int.toNat_natCast,Int.natCast_nonneg,aj]
     repeat (refine⟨ah,?_⟩)
     refine hK _ ?_
     clear K' hK
     simp only[go_sem]
     refine⟨i+1,ae,by(show (d.now.un.get b.fr.toNat).length-(i+1)<(d.now.un.get b.fr.toNat).length-i;omega),?_⟩
     refine bk [2,3,4,6,7] [[2,0],[3,0],[4,0],[6,0],[75,0],[98,0]] ?_ ?_
     ·simp only[go_sem,aE ae hl,Int.natCast_add,Int.natCast_one,fy,List.map_append,List.length_append,List.map_cons,List.map_nil,List.length_cons,List.length_nil]
     ·simp only[go_sem,aE ae hl,Int.natCast_add,Int.natCast_one,fy,List.map_append,List.length_append,List.map_cons,List.map_nil,List.length_cons,List.length_nil]
   ·have aX:i=(d.now.un.get b.fr.toNat).length:=by
     have :¬ (i:Int)<(d.now.un.get b.fr.toNat).length:=by simpa using hb
     omega
    clear hb
    subst aX
    repeat refine sq ?_
    refine b7 ?_
    simp only[go_sem]
    refine kp [3,4,6] [[3,0],[4,0],[6,0],[75,0],[98,0]] ?_
    refine aF (lu [6,0] [98,0] (2+b.fr.toNat) _ _ _ _ rfl (zG _ _ _ _ _ hf) rfl (by simp only[List.length_map]) [3,4,6] [[3,0],[4,0],[6,0]] ?_ rfl) ?_
    ·simp only[go_sem,Hk d _ _ _ hf]
    simp only[go_sem,Hk d _ _ _ hf]
    repeat refine sq ?_
    refine rx hΓ [3,4,6,8] [[3,0],[4,0],[6,0],[75,0],[98,0]] (fun K' hK=>by simp only[go_sem];(repeat (refine⟨ah,?_⟩));exact hK _ (by simp only[go_sem]) (by simp only[go_sem]<;>rfl)) ?_
    repeat refine sq ?_
    refine aN ?_
    repeat refine sq ?_
    refine cB (fun z:Nat=>[(8,⟨true,.v (vInt z)⟩)]) (fun z=>[([6,0],.box ((al (d.setN (cW b.fr.toNat b.ps (bG d b) z))).map .v))]) (fun z=>z<=b.ps.length/\fK b.fr.toNat b.ps (bG d b) z=0) (fun z=>b.ps.length-z) 0 ?_ ?_ ?_ ?_
    ·exact⟨Nat.zero_le _,rfl⟩
    ·rfl
    ·rfl
    rintro i ⟨hi,hR⟩
    simp only[go_sem]
    repeat refine sq ?_
    refine rx hΓ [3,4,6,8,83] [[3,0],[4,0],[6,0],[75,0],[98,0]] (fun K' hK=>by simp only[go_sem];(repeat (refine⟨ah,?_⟩));exact hK _ (by simp only[go_sem]) (by simp only[go_sem]<;>rfl)) ?_
    repeat refine sq ?_
    refine aw rfl rfl (fun hb=>?_) (fun hb=>?_)
    ·have bI:i<b.ps.length:=by simpa using hb
     have gx:(i:Int)<b.ps.length:=by omega
     clear hb
     have n9:nu b.fr.toNat (cW b.fr.toNat b.ps (bG d b) i):=hI (Nat.le_of_lt bI) hR
     have vj:=n9.ri;have XQ:=n9.len;have fY:=n9.t0;have JV:=n9.t1
     have KX:(cW b.fr.toNat b.ps (bG d b) i).ho.length<=1000:=by omega
     have w1:IntKind.i64.wrap ((cW b.fr.toNat b.ps (bG d b) i).ta.get b.fr.toNat+1)=(cW b.fr.toNat b.ps (bG d b) i).ta.get b.fr.toNat+1:=wrap_i64 (by omega) (by omega)
     repeat refine sq ?_
     refine ay ?_
     repeat refine sq ?_
     refine aN ?_
     repeat refine sq ?_
     refine dx hΓ hP [[],[0],[],[0,1,2],[0,1,2,3],[0,1,2,3,4],[],[6],[],[8],[6,7,8,9],[6,7,8,9,10],[6,7,8,9,10,11],[0,1,2,3,4,5,6,7,8,9,10,11,12]] [3,4,6,8,99] [[3,0],[4,0],[6,0],[75,0],[98,0]] (by kernel_rfl) (fun K' hK=>by simp only[go_sem,aG bI,Int.toNat_natCast,Int.natCast_nonneg,gx,Ej _ hf,iw,kb,w1];(repeat (refine⟨ah,?_⟩));(first | refine⟨by rfl,?_⟩ | skip);exact hK _ (by simp only[go_sem]) (by simp only[go_sem]<;>rfl)) ?_
     repeat refine sq ?_
     refine aw rfl rfl (fun hb=>?_) (fun hb=>?_)
     ·repeat refine sq ?_
      have fy:ew b.fr.toNat (cW b.fr.toNat b.ps (bG d b) i) b.ps[i]=false:=by unfold ew;simpa using hb
      have mU:=FY _ _ _ bI fy
      have gy:=zl bI hR (Hm _ _ _ fy)
      refine b7 ?_
      simp only[go_sem]
      refine kp [3,4,6,8] [[3,0],[4,0],[6,0],[75,0],[98,0]] ?_
      repeat refine sq ?_
      refine aS hΓ fun K' hK=>?_
      simp only[go_sem,aG bI,Int.toNat_natCast,Int.natCast_nonneg,gx]
      repeat (refine⟨ah,?_⟩)
      refine hK _ ?_
      clear K' hK
      simp only[go_sem]
      refine⟨i+1,⟨bI,?_⟩,by(show b.ps.length-(i+1)<b.ps.length-i;omega),?_⟩
      ·exact gy
      refine bk [3,4,6,8] [[3,0],[4,0],[6,0],[75,0],[98,0]] ?_ ?_
      ·simp only[go_sem,aE bI eb,Int.natCast_add,Int.natCast_one,mU]
      ·simp only[go_sem,aE bI eb,Int.natCast_add,Int.natCast_one,mU]
     ·repeat refine sq ?_
      have fy:ew b.fr.toNat (cW b.fr.toNat b.ps (bG d b) i) b.ps[i]=true:=by unfold ew;simpa using hb
      refine ay ?_
      repeat refine sq ?_
      refine dx hΓ hP [[],[0],[0,1],[],[3],[],[3,4,5],[3,4,5,6],[3,4,5,6,7],[0,1,2,3,4,5,6,7,8],[0,1,2,3,4,5,6,7,8,9],[0,1,2,3,4,5,6,7,8,9,10],[0,1,2,3,4,5,6,7,8,9,10],[0,1,2,3,4,5,6,7,8,9,10,11],[0,1,2,3,4,5,6,7,8,9,10,11,12,13]] [3,4,6,8,9,10] [[3,0],[4,0],[6,0],[75,0],[98,0]] (by kernel_rfl) (fun K' hK=>by simp only[go_sem,aG bI,Int.toNat_natCast,Int.natCast_nonneg,gx,Ej _ hf,iw,kb,w1];(repeat (refine⟨by first | exact⟨vj,KX⟩ | exact ah,?_⟩));(first | refine⟨by rfl,?_⟩ | skip);exact hK _ (by simp only[go_sem]) (by simp only[go_sem]<;>rfl)) ?_
      repeat refine sq ?_
      refine rx hΓ [3,4,6,8,9,114] [[3,0],[4,0],[6,0],[75,0],[98,0]] (fun K' hK=>by simp only[go_sem,aG bI,Int.toNat_natCast,Int.natCast_nonneg,gx];(repeat (refine⟨ah,?_⟩));exact hK _ (by simp only[go_sem]) (by simp only[go_sem]<;>rfl)) ?_
      repeat refine sq ?_
      refine aw rfl rfl (fun hb=>?_) (fun hb=>?_)
      ·repeat refine sq ?_
       have hh:bR (cW b.fr.toNat b.ps (bG d b) i).ho b.ps[i].pa=true:=by simpa using hb
       have hq:=Bq (e:=96) hd h1 bI hR (by rw[getD_at bI];exact Bo _ _ _ fy hh) (by decide)
       repeat refine sq ?_
       refine rx hΓ [4,5] [[4,0],[75,0]] (fun K' hK=>by simp only[go_sem,aG bI,Int.toNat_natCast,Int.natCast_nonneg,gx];(repeat (refine⟨ah,?_⟩));exact hK _ (by simp only[go_sem]) (by simp only[go_sem]<;>rfl)) ?_
       refine ar ?_
       simp only[go_sem]
       first | (rw[hq.1,hq.2];done) | (rw[hq.1,hq.2];rfl)
      ·repeat refine sq ?_
       have hh:bR (cW b.fr.toNat b.ps (bG d b) i).ho b.ps[i].pa=false:=by simpa using hb
       have V1:=mE hh
       simp only[V1]
       refine ay ?_
       repeat refine sq ?_
       refine rx hΓ [3,4,6,8,9,118] [[3,0],[4,0],[6,0],[75,0],[98,0]] (fun K' hK=>by simp only[go_sem,aG bI,Int.toNat_natCast,Int.natCast_nonneg,gx,List.length_map];(repeat (refine⟨ah,?_⟩));exact hK _ (by simp only[go_sem]) (by simp only[go_sem]<;>rfl)) ?_
       repeat refine sq ?_
       refine aw rfl rfl (fun hb=>?_) (fun hb=>?_)
       ·repeat refine sq ?_
        have C4:40<(cY (cW b.fr.toNat b.ps (bG d b) i).ho b.ps[i].pa).length:=by have:=of_decide_eq_true hb;omega
        have hq:=Bq (e:=2) hd h1 bI hR (by rw[getD_at bI];exact Bn _ _ _ fy hh C4) (by decide)
        repeat refine sq ?_
        refine rx hΓ [4,5] [[4,0],[75,0]] (fun K' hK=>by simp only[go_sem,aG bI,Int.toNat_natCast,Int.natCast_nonneg,gx];(repeat (refine⟨ah,?_⟩));exact hK _ (by simp only[go_sem]) (by simp only[go_sem]<;>rfl)) ?_
        refine ar ?_
        simp only[go_sem]
        first | (rw[hq.1,hq.2];done) | (rw[hq.1,hq.2];rfl)
       ·repeat refine sq ?_
        have C4:¬ 40<(cY (cW b.fr.toNat b.ps (bG d b) i).ho b.ps[i].pa).length:=by have:=of_decide_eq_false hb;omega
        have mU:=AE _ _ _ bI fy
        have gy:=zl bI hR (Hn _ _ _ fy hh C4)
        refine ay ?_
        repeat refine sq ?_
        refine rx hΓ [3,4,6,8] [[3,0],[4,0],[6,0],[75,0],[98,0]] (fun K' hK=>by simp only[go_sem,aG bI,Int.toNat_natCast,Int.natCast_nonneg,gx];(repeat (refine⟨ah,?_⟩));exact hK _ (by simp only[go_sem]) (by simp only[go_sem]<;>rfl)) ?_
        repeat refine sq ?_
        refine aS hΓ fun K' hK=>?_
        simp only[go_sem,aG bI,Int.toNat_natCast,Int.natCast_nonneg,gx,Ej _ hf,iw,kb,w1,Yk _ _ hf]
        repeat (refine⟨ah,?_⟩)
        refine hK _ ?_
        clear K' hK
        simp only[go_sem]
        refine kp [3,4,6,8] [[3,0],[4,0],[6,0],[75,0],[98,0]] ?_
        repeat refine sq ?_
        refine aS hΓ fun K' hK=>?_
        simp only[go_sem,aG bI,Int.toNat_natCast,Int.natCast_nonneg,gx]
        repeat (refine⟨ah,?_⟩)
        refine hK _ ?_
        clear K' hK
        simp only[go_sem]
        refine⟨i+1,⟨bI,?_⟩,by(show b.ps.length-(i+1)<b.ps.length-i;omega),?_⟩
        ·exact gy
        refine bk [3,4,6,8] [[3,0],[4,0],[6,0],[75,0],[98,0]] ?_ ?_
        ·simp only[go_sem,aE bI eb,Int.natCast_add,Int.natCast_one,mU]
        ·simp only[go_sem,aE bI eb,Int.natCast_add,Int.natCast_one,mU]
    ·have vF:i=b.ps.length:=by
      have :¬ (i:Int)<b.ps.length:=by simpa using hb
      omega
     clear hb
     subst vF
     have hq:=Hr hd h1 hR
     repeat refine sq ?_
     refine b7 ?_
     simp only[go_sem]
     refine kp [4,6] [[4,0],[6,0],[75,0],[98,0]] ?_
     repeat refine sq ?_
     refine rx hΓ [4,5] [[4,0],[75,0]] (fun K' hK=>by simp only[go_sem];(repeat (refine⟨ah,?_⟩));exact hK _ (by simp only[go_sem]) (by simp only[go_sem]<;>rfl)) ?_
     refine ar ?_
     simp only[go_sem]
     first | (rw[hq.1,hq.2];done) | (rw[hq.1,hq.2];rfl)
theorem UX:ak Tryz.prog 17 S17:=Q7.sound
theorem YZ{P:Program}{Γ:FuncId->Option Spec}(hΓ:∀ f s,Γ f=some s->ak P f s){id:Nat}{l:List Oper}{c:Code}{r:List Code}{σ:S}{K:Exit->S->Prop}(ks:List Nat)(ns:List Name)
 (h:∀ K':S->Prop,(∀ σ',eN ks ns σ'->CL P (c::r) (eT ks ns σ') K->K' σ')->ll P Γ l.toArray l σ K'):CL P (.region id l.toArray false::c::r) σ K:=
 L7 hΓ (h _ fun σ' hc hy=>zu ks ns hc hy)
theorem GL{P:Program}{Γ:FuncId->Option Spec}{ops:Array Oper}{o:Oper}{r:List Oper}{σ:S}{K:S->Prop}(h1:j8 P Γ ops σ o)(h2:ll P Γ ops r (aY P Γ ops σ o) K):ll P Γ ops (o::r) σ K:=.step h1 h2
def fv{α:Type}(p:α->Bool)(l:List α):List α:=l.filter fun d=>!p d
def mb{α:Type}(enc:α->V)(z:V)(p:α->Bool)(l:List α):List V:=(fv p l).map enc++List.replicate (l.length-(fv p l).length) z
def mv:Par:=⟨0,0⟩
def kG{α:Type}(p:α->Bool)(l:List α):Int:=if l.any p then(l.findIdx p:Int)else -1
theorem Vv{α:Type}{p:α->Bool}{l:List α}{i:Nat}(h:i<l.length)(hp:p l[i]=true)(hn:∀ k (hk:k<l.length),k<i->p l[k]=false):kG p l=i:=by
 unfold kG
 rw[if_pos (List.any_eq_true.2 ⟨_,List.getElem_mem h,hp⟩)]
 congr 1
 rw[List.findIdx_eq h]
 exact⟨hp,fun j hj=>by simpa using hn j (by omega) hj⟩
theorem Vu{α:Type}{p:α->Bool}{l:List α}(hn:∀ k (hk:k<l.length),p l[k]=false):kG p l= -1:=by
 unfold kG
 rw[if_neg]
 intro h
 obtain⟨x,hx,hp⟩:=List.any_eq_true.1 h
 obtain⟨k,hk,rfl⟩:=List.getElem_of_mem hx
 rw[hn k hk]at hp
 cases hp
def mc:V->Bag
 | .ptr l=>wj (.agg l)
 |_=>default
def Ch:En Bag:=⟨fun b=>.ptr (aZ b),mc⟩
def L3:V->Bag
 | .clo _ _ [x]=>mc x
 |_=>default
def Ci:En Bag:=⟨fun b=>.clo (.func 65) [] [.ptr (aZ b)],L3⟩
@[go_sem] theorem YB(b:Bag):mc (.ptr (aZ b))=b:=wi b
@[go_sem] theorem aeL(f:Fn)(b:Bag):L3 (.clo f [] [.ptr (aZ b)])=b:=wi b
attribute [go_sem] Ch Ci
@[go_sem] theorem afk(b:Bag):List.take 1 (List.drop 3 (aZ b))=[vInt b.ta]:=rfl
@[go_sem] theorem afl(b:Bag):List.take 1 (List.drop 2 (aZ b))=[rowP b.ps]:=rfl
@[go_sem] theorem afm(b:Bag):List.take 1 (List.drop 1 (aZ b))=[vInt b.to]:=rfl
@[go_sem] theorem afn(b:Bag):List.take 1 (aZ b)=[vInt b.fr]:=rfl
def ev(b:Bag)(p:Par):Bool:=decide (p.no<=b.ta)
noncomputable def P65:PSpec:=p2 qB Ch (fun _ _=>True) (fun p b=>.bool (ev b p)) true
noncomputable def S65:Spec:=P65.toSpec
attribute [go_sem] P65 S65
theorem Qu:aL Tryz.prog 65 P65:=by
 refine w2 (rs:=[.tmp 3]) Tryz.func65 Tryz.ntmps65 (by rfl) (by kernel_rfl) (by decide) (fun _ _ _=>rfl) ⟨_,rfl,lb rfl,fun p b hp hw=>?_⟩
 have hP:=aU
 simp only[Ch,qB]at hw |-
 have hΓ:=@j9 Tryz.prog
 repeat refine sq ?_
 refine rx hΓ [1,2] [[2,0]] (fun K' hK=>by simp only[go_sem];(repeat (refine⟨ah,?_⟩));exact hK _ (by simp only[go_sem]) (by simp only[go_sem]<;>rfl)) ?_
 repeat refine sq ?_
 refine rx hΓ [3] [] (fun K' hK=>by simp only[go_sem,Nat.add_zero];(repeat (refine⟨ah,?_⟩));exact hK _ (by simp only[go_sem]) (by simp only[go_sem]<;>rfl)) ?_
 refine ar ?_
 simp only[go_sem]
 all_goals first | rfl | (simp;done) | (simp_all;done)
theorem Jz:ak Tryz.prog 65 S65:=Qu.sound
noncomputable def Fl:List (Nat×Spec):=[(65,S65)]
theorem aag:∀ f s,tbl Fl f=some s->ak Tryz.prog f s:=tc Jz<|tn
attribute [go_sem] Fl
noncomputable def P101:PSpec:=p2 iS Ci (fun _ _=>True) (fun l b=>vInt (kG (ev b) l)) true
noncomputable def S101:Spec:=P101.toSpec
attribute [go_sem] P101 S101
set_option maxHeartbeats 4000000 in
theorem Ri:aL Tryz.prog 101 P101:=by
 refine w2 (rs:=[.tmp 4]) Tryz.func101 Tryz.ntmps101 (by rfl) (by kernel_rfl) (by decide) (fun _ _ _=>rfl) ⟨_,rfl,lb rfl,fun l b hp hw=>?_⟩
 have hP:=aU
 simp only[Ci,iS]at hw |-
 have hl:l.length<=maxLen:=by have:=hw.1.1;simpa using this
 obtain⟨Γ,sG,hΓ,hs,hg⟩:∃ (Γ:FuncId->Option Spec) (sG:Spec),(∀ f s,Γ f=some s->ak Tryz.prog f s)/\Γ 65=some sG/\
  ∀ (obj:Name->Option O) (t:Name) (x:Par),sG.app obj t [.v (encPa x),.v (.ptr (aZ b))]=⟨True,.v (.bool (ev b x)),obj⟩:=⟨tbl Fl,S65,aag,rfl,fun obj t x=>by simp only[go_sem]⟩
 simp only[encPa]at hg
 repeat refine sq ?_
 refine rx hΓ [0,1] [] (fun K' hK=>by simp only[go_sem];(repeat (refine⟨ah,?_⟩));exact hK _ (by simp only[go_sem]) (by simp only[go_sem]<;>rfl)) ?_
 repeat refine sq ?_
 refine rx hΓ [0,1,7,8] [] (fun K' hK=>by simp only[go_sem];(repeat (refine⟨ah,?_⟩));exact hK _ (by simp only[go_sem]) (by simp only[go_sem]<;>rfl)) ?_
 repeat refine sq ?_
 refine aN ?_
 repeat refine sq ?_
 refine cB (fun z:Nat=>[(8,⟨true,.v (vInt z)⟩)]) (fun z=>[]) (fun z=>z<=l.length/\∀ k (h:k<l.length),k<z->ev b l[k]=false) (fun z=>l.length-z) 0 ?_ ?_ ?_ ?_
 ·exact⟨Nat.zero_le _,fun k h hk=>absurd hk (by omega)⟩
 ·rfl
 ·rfl
 rintro i ⟨hi,hR⟩
 simp only[go_sem]
 repeat refine sq ?_
 refine rx hΓ [0,1,7,8,9] [] (fun K' hK=>by simp only[go_sem];(repeat (refine⟨ah,?_⟩));exact hK _ (by simp only[go_sem]) (by simp only[go_sem]<;>rfl)) ?_
 repeat refine sq ?_
 refine aw rfl rfl (fun hb=>?_) (fun hb=>?_)
 ·have ae:i<l.length:=by simpa using hb
  have aj:(i:Int)<l.length:=by omega
  clear hb
  repeat refine sq ?_
  refine ay ?_
  repeat refine sq ?_
  refine aN ?_
  repeat refine sq ?_
  refine rx hΓ [0,1,5,7,8] [] (fun K' hK=>by simp only[go_sem,aG ae,Int.toNat_natCast,Int.natCast_nonneg,aj];(repeat (refine⟨ah,?_⟩));exact hK _ (by simp only[go_sem]) (by simp only[go_sem]<;>rfl)) ?_
  repeat refine sq ?_
  refine rx hΓ [0,1,5,7,8,16] [] (fun K' hK=>by simp only[go_sem,aG ae,Int.toNat_natCast,Int.natCast_nonneg,aj,aG ae,hs,hg,Int.toNat_natCast,Int.natCast_nonneg,aj];(repeat (refine⟨ah,?_⟩));exact hK _ (by simp only[go_sem]) (by simp only[go_sem]<;>rfl)) ?_
  repeat refine sq ?_
  refine aw rfl rfl (fun hb=>?_) (fun hb=>?_)
  ·repeat refine sq ?_
   refine rx hΓ [4] [] (fun K' hK=>by simp only[go_sem,aG ae,Int.toNat_natCast,Int.natCast_nonneg,aj];(repeat (refine⟨ah,?_⟩));exact hK _ (by simp only[go_sem]) (by simp only[go_sem]<;>rfl)) ?_
   refine ar ?_
   simp only[go_sem]
   rw[Vv (p:=ev b) ae (by simpa using hb) hR]
  ·repeat refine sq ?_
   refine ay ?_
   refine dq ?_
   simp only[go_sem]
   refine kp [0,1,7,8] [] ?_
   repeat refine sq ?_
   refine aS hΓ fun K' hK=>?_
   simp only[go_sem,aG ae,Int.toNat_natCast,Int.natCast_nonneg,aj]
   repeat (refine⟨ah,?_⟩)
   refine hK _ ?_
   clear K' hK
   simp only[go_sem]
   refine⟨i+1,⟨ae,?_⟩,by(show l.length-(i+1)<l.length-i;omega),?_⟩
   ·intro k hk lR
    rcases Nat.lt_succ_iff_lt_or_eq.1 lR with h5 | rfl
    ·exact hR k hk h5
    ·simpa using hb
   refine bk [0,1,7,8] [] ?_ ?_
   ·simp only[go_sem,aE ae hl,Int.natCast_add,Int.natCast_one]
   ·simp only[go_sem,aE ae hl,Int.natCast_add,Int.natCast_one]
 ·have aX:i=l.length:=by
   have :¬ (i:Int)<l.length:=by simpa using hb
   omega
  clear hb
  subst aX
  repeat refine sq ?_
  refine b7 ?_
  simp only[go_sem]
  refine kp [] [] ?_
  repeat refine sq ?_
  refine rx hΓ [4] [] (fun K' hK=>by simp only[go_sem];(repeat (refine⟨ah,?_⟩));exact hK _ (by simp only[go_sem]) (by simp only[go_sem]<;>rfl)) ?_
  refine ar ?_
  simp only[go_sem]
  rw[Vu (p:=ev b) fun k hk=>hR k hk hk]
theorem U9:ak Tryz.prog 101 S101:=Ri.sound
noncomputable def Fk:List (Nat×Spec):=[(65,S65),(101,S101)]
theorem aaf:∀ f s,tbl Fk f=some s->ak Tryz.prog f s:=tc Jz<|tc U9<|tn
attribute [go_sem] Fk
theorem E8:(#[23]:Array Nat).getD 0 0=23:=rfl
theorem Om:((bd Tryz.prog 91).bind fun z=>dI (iq z))=some (encPa mv):=by rw[OP];rfl
theorem EC{obj:Name->Option O}{nm:Name}{k i:Nat}{L:List V}(h:obj nm=some (.arr 2 L))(hk:k=L.length)(hi:i<L.length):
 ky Tryz.prog obj 23 23 (.msl nm k) (.v (vInt i))=⟨True,.any,upd obj nm (some (.arr 2 (L.take i++List.replicate (L.length-i) (encPa mv))))⟩:=by
 unfold ky
 simp only[FN,h,Om,Int.toNat_natCast]
 congr 1
 simp only[eq_iff_iff,iff_true]
 exact⟨hk,by omega,hi,trivial,rfl,rfl,trivial,by decide⟩
set_option maxRecDepth 10000 in
set_option maxHeartbeats 4000000 in
theorem OJ(b:Bag){H:Name->Option O}{l:List Par}(hl:l.length<1000000)(pA:H [0,1]=some (.arr 2 (l.map encPa)))(gf:∀ hs,bS [0] (bK [0] hs) H=True)(fJ:∀ hs sz L,bS [0] (bK [0] hs) (upd H [0,1] (some (.arr sz L)))=True)(KN:∀ hs sz L,bS [0] (bK [0] hs) (upd H [0,1] (some (.farr sz L)))=True):
 ∃ c,Tryz.f64.body=some c/\CL Tryz.prog [c] (aO 42 [0] H [(0,⟨true,.msl [0,1] l.length⟩),(1,⟨true,.clo (.func 65) [] [.v (.ptr (aZ b))]⟩)] []) (fun e σ=>(e=.normal\/e=.ret)/\(σ.env 4).c=true/\
   (σ.env 4).d=.v (.sl ((fv (ev b) l).map encPa))/\σ.obj [0,1]=some (.farr 2 (mb encPa (encPa mv) (ev b) l))):=by
 obtain⟨Γ,sG,sI,hΓ,hs,hi,hp,hI⟩:∃ (Γ:FuncId->Option Spec) (sG sI:Spec),(∀ f s,Γ f=some s->ak Tryz.prog f s)/\Γ 65=some sG/\Γ 101=some sI/\
  (∀ (obj:Name->Option O) (t:Name) (x:Par),sG.app obj t [.agg ((encPa x).cells.map .v),.v (.ptr (aZ b))]=⟨True,.v (.bool (ev b x)),obj⟩)/\
  ∀ (obj:Name->Option O) (t:Name),obj [0,1]=some (.arr 2 (l.map encPa))->sI.app obj t [.msl [0,1] l.length,.clo (.func 65) [] [.v (.ptr (aZ b))]]=⟨True,.v (vInt (kG (ev b) l)),obj⟩:=
  ⟨tbl Fk,S65,S101,aaf,rfl,rfl,fun obj t x=>by simp only[go_sem],fun obj t e=>by simp only[go_sem,e,List.length_map]⟩
 generalize th:mb encPa (encPa mv) (ev b) l=XX
 generalize hpg:ev b=p at *
 simp only[encPa,V.cells,List.map_cons,List.map_nil]at hp
 refine⟨_,rfl,?_⟩
 have hm:l.length<=maxLen:=by unfold maxLen;omega
 repeat refine sq ?_
 refine rx hΓ [0,1] [] (fun K' hK=>by simp only[go_sem,gf];(repeat (refine⟨ah,?_⟩));exact hK _ (by simp only[go_sem,gf]) (by simp only[go_sem,gf]<;>rfl)) ?_
 repeat refine sq ?_
 refine rx hΓ [0,1,5] [] (fun K' hK=>by simp only[go_sem,gf,hI,hi,pA,implies_true];(repeat (refine⟨ah,?_⟩));exact hK _ (by simp only[go_sem,gf,hI,hi,pA,implies_true]) (by simp only[go_sem,gf,hI,hi,pA,implies_true]<;>rfl)) ?_
 repeat refine sq ?_
 refine rx hΓ [0,1,5,12] [] (fun K' hK=>by simp only[go_sem,gf];(repeat (refine⟨ah,?_⟩));exact hK _ (by simp only[go_sem,gf]) (by simp only[go_sem,gf]<;>rfl)) ?_
 repeat refine sq ?_
 refine aw rfl rfl (fun hb=>?_) (fun hb=>?_)
 ·repeat refine sq ?_
  refine rx hΓ [4] [] (fun K' hK=>by simp only[go_sem,gf];(repeat (refine⟨ah,?_⟩));exact hK _ (by simp only[go_sem,gf]) (by simp only[go_sem,gf]<;>rfl)) ?_
  refine aF (FD 4 (.msl [0,1] l.length) (by simp only[go_sem]) (by simp only[go_sem,pA,List.length_map]) [4] [] ?_ rfl) ?_
  ·simp only[go_sem,pA,KN]
  simp only[go_sem,pA]
  refine ar ?_
  simp only[go_sem,pA]
  have cJ:kG p l= -1:=by simpa using hb
  have dM:∀ d∈l,p d=false:=by
   unfold kG at cJ
   split at cJ
   ·omega
   ·rename_i hn
    intro d hd
    cases V5:p d with
    |false=>rfl
    |true=>exact(hn (List.any_eq_true.2 ⟨d,hd,V5⟩)).elim
  have hk:fv p l=l:=List.filter_eq_self.2 fun d hd=>by rw[dM d hd];rfl
  have yW:XX=l.map encPa:=by rw[<-th];unfold mb;rw[hk];simp
  rw[hk,yW]
  exact⟨.inr trivial,rfl,rfl⟩
 have hf:l.findIdx p<l.length:=by
  have cJ:¬ kG p l= -1:=by simpa using hb
  unfold kG at cJ
  split at cJ
  ·rename_i W8
   exact List.findIdx_lt_length_of_exists (by obtain⟨y,hy,hp⟩:=List.any_eq_true.1 W8;exact⟨y,hy,hp⟩)
  ·exact(cJ rfl).elim
 have pw:kG p l=(l.findIdx p:Int):=by unfold kG;rw[if_pos (List.any_eq_true.2 ⟨_,List.getElem_mem hf,List.findIdx_getElem (w:=hf)⟩)]
 rw[pw]
 clear hb pw hi hI
 have V4:p (l[l.findIdx p])=true:=List.findIdx_getElem (w:=hf)
 have Kb:∀ j (h:j<l.length),j<l.findIdx p->p l[j]=false:=fun j h hj=>by simpa using List.not_of_lt_findIdx hj
 generalize l.findIdx p=f at *
 repeat refine sq ?_
 refine ay ?_
 repeat refine sq ?_
 refine rx hΓ [0,1,5,6] [] (fun K' hK=>by simp only[go_sem,gf,aE hf hm,Int.natCast_add,Int.natCast_one];(repeat (refine⟨ah,?_⟩));exact hK _ (by simp only[go_sem,gf,aE hf hm,Int.natCast_add,Int.natCast_one]) (by simp only[go_sem,gf,aE hf hm,Int.natCast_add,Int.natCast_one]<;>rfl)) ?_
 repeat refine sq ?_
 refine aN ?_
 repeat refine sq ?_
 refine Y0 (fun x:Nat×Nat×List Par=>upd H [0,1] (some (.arr 2 (x.2.2.map encPa)))) (fun x=>[(5,⟨true,.v (vInt x.1)⟩),(6,⟨true,.v (vInt x.2.1)⟩)]) (fun x=>[]) (fun x=>x.1<x.2.1/\x.2.1<=l.length/\x.2.2.length=l.length/\x.2.2.take x.1=fv p (l.take x.2.1)/\x.2.2.drop x.2.1=l.drop x.2.1) (fun x=>l.length-x.2.1) (f,f+1,l) ?_ ?_ ?_ ?_ ?_
 ·refine⟨(show f<f+1 by omega),hf,rfl,?_,rfl⟩
  show l.take f=fv p (l.take (f+1))
  unfold fv
  rw[List.take_add_one,List.getElem?_eq_getElem hf,List.filter_append]
  simp only[Option.toList_some,List.filter_cons,V4,Bool.not_true,Bool.false_eq_true,if_false,List.filter_nil,List.append_nil]
  rw[List.filter_eq_self.2]
  intro d hd
  obtain⟨j,hj,rfl⟩:=List.getElem_of_mem hd
  have ej:j<f:=by simp at hj;omega
  rw[List.getElem_take,Kb j (by omega) ej]
  rfl
 ·congr 1
  rw[<-pA]
  funext x
  by_cases e:x=[0,1]
  ·subst e;rw[aD]
  ·rw[aI _ _ _ e]
 ·rfl
 ·rfl
 clear Kb
 rintro⟨i,j,A⟩ ⟨eC,hj,hA,hT,hD⟩
 simp only at eC hj hA hT hD
 dsimp only
 generalize ru:upd H [0,1] (some (O.arr 2 (List.map encPa A)))=H'
 have h0:H' [0,1]=some (.arr 2 (A.map encPa)):=by rw[<-ru,aD]
 have vM:∀ i,H' [i+1,1]=H [i+1,1]:=fun i=>by rw[<-ru,aI _ _ _ (by simp)]
 have gg:∀ hs,bS [0] (bK [0] hs) H'=True:=fun hs=>by rw[<-ru];exact fJ _ _ _
 have kh:∀ hs sz L,bS [0] (bK [0] hs) (upd H' [0,1] (some (.arr sz L)))=True:=fun hs sz L=>by rw[<-ru,rZ];exact fJ _ _ _
 have Xm:∀ hs sz L,bS [0] (bK [0] hs) (upd H' [0,1] (some (.farr sz L)))=True:=fun hs sz L=>by rw[<-ru,rZ];exact KN _ _ _
 simp only[go_sem]
 repeat refine sq ?_
 refine rx hΓ [0,1,5,6,19] [] (fun K' hK=>by simp only[go_sem,gg,kh,h0];(repeat (refine⟨ah,?_⟩));exact hK _ (by simp only[go_sem,gg,kh,h0]) (by simp only[go_sem,gg,kh,h0]<;>rfl)) ?_
 repeat refine sq ?_
 refine aw rfl rfl (fun hb=>?_) (fun hb=>?_)
 ·have ae:j<l.length:=by simpa using hb
  have Da:j<A.length:=by omega
  have vD:i<A.length:=by omega
  have Ws:(i:Int)<l.length:=by omega
  have aj:(j:Int)<l.length:=by omega
  have DN:A[j]=l[j]:=by
   have h1:A[j]=(A.drop j)[0]'(by simp;omega):=by simp
   rw[h1]
   simp only[hD]
   simp
  clear hb
  repeat refine sq ?_
  refine ay ?_
  repeat refine sq ?_
  refine aN ?_
  repeat refine sq ?_
  refine rx hΓ [0,1,5,6,7] [[7,0]] (fun K' hK=>by simp only[go_sem,gg,kh,h0,aG Da,Int.toNat_natCast,Int.natCast_nonneg,aj,hA,DN];(repeat (refine⟨ah,?_⟩));exact hK _ (by simp only[go_sem,gg,kh,h0,aG Da,Int.toNat_natCast,Int.natCast_nonneg,aj,hA,DN]) (by simp only[go_sem,gg,kh,h0,aG Da,Int.toNat_natCast,Int.natCast_nonneg,aj,hA,DN]<;>rfl)) ?_
  repeat refine sq ?_
  refine rx hΓ [0,1,5,6,7,29] [[7,0]] (fun K' hK=>by simp only[go_sem,gg,kh,h0,hs,hp];(repeat (refine⟨ah,?_⟩));exact hK _ (by simp only[go_sem,gg,kh,h0,hs,hp]) (by simp only[go_sem,gg,kh,h0,hs,hp]<;>rfl)) ?_
  repeat refine sq ?_
  refine aw rfl rfl (fun hb=>?_) (fun hb=>?_)
  ·have V3:p l[j]=false:=by simpa using hb
   clear hb
   repeat refine sq ?_
   refine zA hΓ [0,1,5,6] [] fun K' hK=>?_
   simp only[go_sem,gg,kh,h0,Int.toNat_natCast,Int.natCast_nonneg,Ws,hA]
   repeat' apply And.intro
   all_goals first | rfl | omega | exact Int.le_refl _ | exact Bool.or_not_self _ | exact Bool.not_or_self _ | exact Ec _ | exact Ed _ | exact fun x hx=>(Ec _ x hx).1 | exact fun x hx=>(Ed _ x hx).1 | (simp only[List.length_take,List.length_append,List.length_map,List.length_drop,List.length_cons,List.length_nil];done) | (simp only[List.length_take,List.length_append,List.length_map,List.length_drop,List.length_cons,List.length_nil];omega) | (simp only[List.length_take,List.length_append,List.length_map,List.length_drop,List.length_cons,List.length_nil,maxLen];omega) | (exact fun _=>by decide) | (exact fun h=>⟨h,by decide⟩) | (simp only[decide_eq_true_eq];omega) | skip
   refine hK _ ?_ ?_
   ·simp only[go_sem,gg,kh]
   clear K' hK
   simp only[go_sem]
   obtain⟨H2,jO⟩:∃ H2,upd H' [0,1] (some (O.arr 2 ((List.map encPa A).set i (encPa l[j]))))=H2:=⟨_,rfl⟩
   have KT:=jO
   simp only[encPa]at KT
   rw[KT]
   have vL:∀ hs,bS [0] (bK [0] hs) H2=True:=fun hs=>by rw[<-jO];exact kh _ _ _
   repeat refine sq ?_
   refine aS hΓ fun K' hK=>?_
   simp only[go_sem]
   repeat (refine⟨ah,?_⟩)
   refine hK _ ?_
   clear K' hK
   simp only[go_sem]
   refine jT [0,1,5,6] [] ?_ ?_
   ·simp only[go_sem,vL]
   simp only[go_sem,vL]
   repeat refine sq ?_
   refine aS hΓ fun K' hK=>?_
   simp only[go_sem]
   repeat (refine⟨ah,?_⟩)
   refine hK _ ?_
   clear K' hK
   simp only[go_sem]
   refine⟨(i+1,j+1,A.set i l[j]),⟨(show i+1<j+1 by omega),ae,by simpa using hA,?_,?_⟩,(show l.length-(j+1)<l.length-j by omega),?_⟩
   ·show (A.set i l[j]).take (i+1)=fv p (l.take (j+1))
    unfold fv at hT |-
    rw[List.take_add_one (l:=l),List.getElem?_eq_getElem ae,List.filter_append,<-hT]
    simp only[Option.toList_some,List.filter_cons,V3,Bool.not_false,if_true,List.filter_nil]
    rw[List.take_add_one,List.take_set_of_le (Nat.le_refl i),List.getElem?_set_self vD]
    rfl
   ·show (A.set i l[j]).drop (j+1)=l.drop (j+1)
    rw[List.drop_set_of_lt (show i<j+1 by omega)]
    have :=congrArg (List.drop 1) hD
    simpa[List.drop_drop]using this
   ·refine bk [0,1,5,6] [] ?_ ?_
    ·simp only[go_sem,vL]
    ·simp only[go_sem,aE ae hm,aE (show i<l.length by omega) hm,Int.natCast_add,Int.natCast_one]
     rw[<-jO,<-ru,rZ,List.map_set]
     try rfl
  ·have V0:p l[j]=true:=by simpa using hb
   clear hb
   repeat refine sq ?_
   refine ay ?_
   refine dq ?_
   simp only[go_sem]
   refine jT [0,1,5,6] [] ?_ ?_
   ·simp only[go_sem,gg]
   simp only[go_sem,gg]
   repeat refine sq ?_
   refine aS hΓ fun K' hK=>?_
   simp only[go_sem]
   repeat (refine⟨ah,?_⟩)
   refine hK _ ?_
   clear K' hK
   simp only[go_sem]
   refine⟨(i,j+1,A),⟨(show i<j+1 by omega),ae,hA,?_,?_⟩,(show l.length-(j+1)<l.length-j by omega),?_⟩
   ·show A.take i=fv p (l.take (j+1))
    unfold fv at hT |-
    rw[List.take_add_one (l:=l),List.getElem?_eq_getElem ae,List.filter_append,<-hT]
    simp only[Option.toList_some,List.filter_cons,V0,Bool.not_true,Bool.false_eq_true,if_false,List.filter_nil,List.append_nil]
   ·show A.drop (j+1)=l.drop (j+1)
    have :=congrArg (List.drop 1) hD
    simpa[List.drop_drop]using this
   ·refine bk [0,1,5,6] [] ?_ ?_
    ·simp only[go_sem,gg]
    ·simp only[go_sem,aE ae hm,Int.natCast_add,Int.natCast_one]
     rw[<-ru]
 ·have aX:j=l.length:=by
    have :¬ (j:Int)<l.length:=by simpa using hb
    omega
  subst aX
  clear hb
  rw[List.take_length]at hT
  have vD:i<A.length:=by omega
  repeat refine sq ?_
  refine b7 ?_
  simp only[go_sem]
  refine jT [0,5] [] ?_ ?_
  ·simp only[go_sem,gg]
  simp only[go_sem,gg]
  repeat refine sq ?_
  refine YZ hΓ [0,5] [] fun K' hK=>?_
  refine GL ?_ (GL ?_ (.cut (T:=23) (x:=.tmp 36) (lo:=.tmp 37) (c:=38) rfl rfl ?_ ?_ ?_ ?_ (.nil ?_)))
  ·simp only[go_sem]
  ·simp only[go_sem]
  ·simp only[go_sem]
  ·simp only[go_sem]
  ·simp only[go_sem]
  ·have gB:=fun (obj:Name->Option O) (h:obj [0,1]=_)=>EC (obj:=obj) (nm:=[0,1]) (k:=l.length) (i:=i) (L:=A.map encPa) h (by simpa using hA.symm) (by simpa using vD)
   simp only[go_sem,mg,E8,gB,h0]
  ·refine hK _ ?_ ?_
   ·simp only[go_sem,pL,mg,E8,EC (obj:=fun nm=>if own [0] nm=true then none else H' nm) (nm:=[0,1]) (k:=l.length) (i:=i) (L:=A.map encPa) h0 (by simpa using hA.symm) (by simpa using vD),kh]
   clear K' hK
   simp only[go_sem,pL,mg,E8,EC (obj:=fun nm=>if own [0] nm=true then none else H' nm) (nm:=[0,1]) (k:=l.length) (i:=i) (L:=A.map encPa) h0 (by simpa using hA.symm) (by simpa using vD)]
   have lR:(fv p l).length=i:=by rw[<-hT,List.length_take];omega
   have DD:(List.take i (List.map encPa A)++List.replicate (A.length-i) (encPa mv))=XX:=by
    rw[<-th]
    unfold mb
    rw[lR,<-hT,List.map_take,hA]
   have hZ1:XX.length=l.length:=by rw[<-th];unfold mb;simp;omega
   have Xb:XX.take i=(fv p l).map encPa:=by
    rw[<-th]
    unfold mb
    rw[List.take_append_of_le_length (by simp;omega),List.take_of_length_le (by simp;omega)]
   have Xa:∀ x∈XX,x.cells.length=2:=by
    intro x hx
    rw[<-th]at hx
    rcases List.mem_append.1 hx with h | h
    ·obtain⟨y,_,rfl⟩:=List.mem_map.1 h;rfl
    ·rw[(List.mem_replicate.1 h).2];rfl
   simp only[encPa]at DD
   rw[DD]
   clear DD
   clear th
   generalize XX=Z at *
   simp only[V.cells]at Xa
   generalize jN:upd H' [0,1] (some (O.arr 2 Z))=H3
   have XS:H3 [0,1]=some (.arr 2 Z):=by rw[<-jN,aD]
   have hI3:∀ i,H3 [i+1,1]=H [i+1,1]:=fun i=>by rw[<-jN,aI _ _ _ (by simp)];exact vM i
   have Xl:∀ hs sz L,bS [0] (bK [0] hs) (upd H3 [0,1] (some (.farr sz L)))=True:=fun hs sz L=>by rw[<-jN,rZ];exact Xm _ _ _
   have Wr:(i:Int)<=l.length:=by omega
   repeat refine sq ?_
   refine zA hΓ [4] [] fun K' hK=>?_
   simp only[go_sem,XS,FN,Int.toNat_natCast,Int.natCast_nonneg,Wr]
   repeat' apply And.intro
   all_goals first | rfl | omega | exact Int.le_refl _ | exact Bool.or_not_self _ | exact Bool.not_or_self _ | exact Ec _ | exact Ed _ | exact fun x hx=>(Ec _ x hx).1 | exact fun x hx=>(Ed _ x hx).1 | (simp only[List.length_take,List.length_append,List.length_map,List.length_drop,List.length_cons,List.length_nil];done) | (simp only[List.length_take,List.length_append,List.length_map,List.length_drop,List.length_cons,List.length_nil];omega) | (simp only[List.length_take,List.length_append,List.length_map,List.length_drop,List.length_cons,List.length_nil,maxLen];omega) | (exact fun _=>by decide) | (exact fun h=>⟨h,by decide⟩) | (simp only[decide_eq_true_eq];omega) | skip
   refine hK _ ?_ ?_
   ·simp only[go_sem,Xl]
   clear K' hK
   simp only[go_sem]
   refine ar ?_
   simp only[go_sem,Xb]
   exact .inr trivial
noncomputable def delCP:CSpec where
 pre:=fun os ds=>∃ (l:List Par) (b:Bag),os=[.arr 2 (l.map encPa)]/\ds=[.msl [0,1] l.length,.clo (.func 65) [] [.v (.ptr (aZ b))]]/\l.length<1000000
 out:=fun os ds=>match os,ds with
  |[.arr _ L],[_,.clo _ _ [.v x]]=>⟨[(0,.farr 2 (mb encPa (encPa mv) (ev (mc x)) (L.map ji)))],[],.v (.sl ((fv (ev (mc x)) (L.map ji)).map encPa))⟩
  |_,_=>⟨[],[],.any⟩
noncomputable def rH(obj:Name->Option O)(_:Name):List D->R
 |[.msl nm k,.clo (.func 65) [] [.v (.ptr cs)]]=>match obj nm with
  |some (.arr 2 L)=>⟨k=L.length/\L.length<1000000/\(L.map ji).map encPa=L/\aZ (mc (.ptr cs))=cs,.v (.sl ((fv (ev (mc (.ptr cs))) (L.map ji)).map encPa)),upd obj nm (some (.farr 2 (mb encPa (encPa mv) (ev (mc (.ptr cs))) (L.map ji))))⟩
  |_=>.bad obj
 |_=>.bad obj
def pK(_:Name->Option O)(_:Name):List D->List Name
 | .msl nm _::_=>[nm]
 |_=>[]
noncomputable def S64:Spec:=⟨rH,pK,pK⟩
attribute [go_sem] S64 rH
theorem Yu:S64.Near:=by
 refine By fun obj obj2 t ds ha=>⟨rfl,?_⟩
 have fx:∀ wr,bq wr obj obj2->bx (R.bad obj) (R.bad obj2) obj obj2 wr:=fun wr h=>.none wr h
 unfold rH
 split
 ·rename_i nm k cs
  have h1:obj2 nm=obj nm:=ha nm (by simp[pK])
  simp only[h1]
  split
  ·exact .one (by simp[pK]) ha
  ·exact fx _ ha
 ·exact fx _ ha
theorem UH:ak Tryz.prog 64 delCP.toSpec:=by
 refine mf (nt:=42) (rs:=[.tmp 4]) Tryz.func64 rfl (by rfl) (by kernel_rfl) (gG Tryz.func64 rfl (by kernel_rfl)) (nI _ (by decide)) ?_
 rintro os ds ⟨l,b,rfl,rfl,hl⟩
 refine⟨lb rfl,?_⟩
 have eV:delCP.out [.arr 2 (l.map encPa)] [.msl [0,1] l.length,.clo (.func 65) [] [.v (.ptr (aZ b))]]=⟨[(0,.farr 2 (mb encPa (encPa mv) (ev b) l))],[],.v (.sl ((fv (ev b) l).map encPa))⟩:=by
  simp only[delCP,Et,YB]
 rw[eV]
 have gf:∀ hs,bS [0] (bK [0] hs) (aT [.arr 2 (l.map encPa)])=True:=fun hs=>eq_true (uG (by
  intro o ho dom hd
  simp only[List.mem_singleton]at ho
  subst ho
  rfl) hs)
 obtain⟨c,hc,h⟩:=OJ b (H:=aT [.arr 2 (l.map encPa)]) hl rfl gf (fun hs sz L=>eq_true (wP rfl (by rw[gf];trivial))) (fun hs sz L=>eq_true (wP rfl (by rw[gf];trivial)))
 have n6:∀ c2,Tryz.f64.body=some c2->c2=c:=fun c2 h2=>by rw[h2]at hc;exact Option.some.inj hc
 rw[<-n6 _ rfl]at h
 refine CW.mono (hU h) ?_
 rintro e σ ⟨he,h1,h2,h3⟩
 have fin:(bP Tryz.prog σ [.tmp 4]).ok/\(bP Tryz.prog σ [.tmp 4]).d=.v (.sl ((fv (ev b) l).map encPa))/\fL [.arr 2 (l.map encPa)] ⟨[(0,.farr 2 (mb encPa (encPa mv) (ev b) l))],[],.v (.sl ((fv (ev b) l).map encPa))⟩ σ:=
  ⟨h1,h2,⟨h3,trivial⟩,trivial,rfl⟩
 rcases he with rfl | rfl
 ·exact fin
 ·exact fin
theorem UI:ak Tryz.prog 64 S64:=by
 refine AF UH Yu (nI _ (by decide)) fun obj t ds aa=>?_
 change (rH obj t ds).ok at aa
 refine⟨ds,rfl,fun _ _ _ _ h=>h,?_⟩
 show _/\_=(rH obj t ds).d/\_=(rH obj t ds).obj
 unfold rH at aa |-
 split at aa
 ·rename_i nm k cs
  split at aa
  ·rename_i L ho
   obtain⟨rfl,hl,he,hg⟩:=aa
   have hr:reach obj [.msl nm L.length,.clo (.func 65) [] [.v (.ptr cs)]]=[nm]:=by
    unfold reach
    show dm obj (2998+1+1) [nm] []=[nm]
    simp only[dm,bX,List.any_nil,Bool.false_eq_true,if_false,ho,lH,List.nil_append]
   have i0:idx [nm] nm=0:=by simp[idx]
   have e1:b8 obj [.msl nm L.length,.clo (.func 65) [] [.v (.ptr cs)]]=[.arr 2 L]:=by
    unfold b8
    rw[hr]
    simp only[List.map_cons,List.map_nil,bV,ho,O.ren]
   have e2:cC obj [.msl nm L.length,.clo (.func 65) [] [.v (.ptr cs)]]=[.msl [0,1] L.length,.clo (.func 65) [] [.v (.ptr cs)]]:=by
    unfold cC
    rw[hr]
    simp only[D.renL,D.ren,cin,i0]
   have e3:(shut obj [nm]&&D.closL (bX [nm]) [.msl nm L.length,.clo (.func 65) [] [.v (.ptr cs)]]&&fresh obj t [])=true:=by
    simp[shut,ho,O.clos,D.closL,D.clos,bX,fresh]
   have cz:delCP.pre [.arr 2 L] [.msl [0,1] L.length,.clo (.func 65) [] [.v (.ptr cs)]]:=⟨L.map ji,mc (.ptr cs),by rw[he],by rw[List.length_map,hg],by rw[List.length_map];exact hl⟩
   have eV:delCP.out [.arr 2 L] [.msl [0,1] L.length,.clo (.func 65) [] [.v (.ptr cs)]]=⟨[(0,.farr 2 (mb encPa (encPa mv) (ev (mc (.ptr cs))) (L.map ji)))],[],.v (.sl ((fv (ev (mc (.ptr cs))) (L.map ji)).map encPa))⟩:=rfl
   simp only[CSpec.toSpec,e1,e2,hr,eV,e3,cz,ho,and_self,cX]
   exact⟨trivial,rfl,rfl⟩
  ·exact aa.elim
 ·exact aa.elim
end Go.Eng
set_option linter.unusedVariables false
namespace Go.Eng
open Go Go.Proofs Go.RowKit Go.Lib Go.Shelf
set_option maxHeartbeats 4000000 in
set_option maxRecDepth 100000 in
theorem Vp(b off n c i vb eP m vc:Nat)(cs vs:List Value)(w:World)(hi:i<n)(hm:0<m)(jH:n+m<=c)(KE:c<=9223372036854775807)(yw:vb≠b)
 (bH:cs.length=n) (Cm:vs.length=m)
 (eY:∀ j v,cs[j]?=some v->w.cell? ⟨b,off+j,none⟩=some v) (gP:∀ j,j<n+m->(w.cell? ⟨b,off+j,none⟩).isSome=true) (pv:∀ j,w.frozen? ⟨b,j,none⟩=false)
 (qK:∀ j v,vs[j]?=some v->w.cell? ⟨vb,eP+j,none⟩=some v) (vO:∀ v∈cs,v.oneCell'=true) (DT:∀ v∈vs,v.oneCell'=true)
 (tA tB:TypeId) (kA kB:Nat) (vh:w.shape? vb=some (tA,kA)) (vg:w.shape? b=some (tB,kB)) (C8:kA≠0):
 Calls Tryz.prog 103 #[.slice (some ⟨b,off,none⟩) n c,.int .i64 i,.slice (some ⟨vb,eP,none⟩) m vc] w fun e w'=>
  e=.returned (.slice (some ⟨b,off,none⟩) (n+m) c)/\w'=(w.drew.setCells b (off+(i+m)) (cs.drop (i))).setCells b (off+i) vs:=by
 have mixed:Tryz.prog.follows Departure.mixedOrders=true:=by kernel_rfl
 have gw:¬ ((m:Int)=0):=by omega
 have lL:¬ ((i:Int)=(n:Int)):=by omega
 have V6:∀ lb cb,(callFunc 117 #[.slice (some ⟨vb,eP,none⟩) m vc,.slice (some ⟨b,off+(i+m),none⟩) lb cb]).run Tryz.prog w=.ok (.value (.bool false)) w:=fun lb cb=>by
  rw[run_callFunc_extern Tryz.func117 (by kernel_rfl) (by kernel_rfl) (by kernel_rfl) (e:=Extern.SlicesOverlaps.overlaps #[22,22] #[4]) (by kernel_rfl),
   Rl w 22 4 3 Tryz.underlying22 1 Tryz.sizeOf3 ⟨vb,eP,none⟩ ⟨b,off+(i+m),none⟩ m vc lb cb yw tA tB kA kB vh vg C8 (pv _) (pv _)]
  rfl
 have s6:(cs.drop (i)).length=n-i:=by rw[List.length_drop,bH];try omega
 have eh:IntKind.i64.wrap ((i:Int)+(m:Int))=(i:Int)+(m:Int):=by rw[IntKind.wrap_i64];omega
 have bJ:(0:Int)<=(i:Int)+(m:Int):=by omega
 have gb:i<=n:=by omega
 have VN:((i:Int)+(m:Int)).toNat=i+m:=by omega
 have bZ:¬ (c=i+m):=by omega
 have Dv:(i:Int)<=(n:Int)+(m:Int):=by omega
 have hb4:¬ (c=i):=by omega
 have vu:Nat.min (n+m-i) (n+m-(i+m))=n-i:=by simp only[Nat.min_def];split<;>omega
 have Kz:∀ ty dc sc,(Builtin.copy_ #[22,22] ty #[.slice (some ⟨b,off+(i+m),none⟩) (n+m-(i+m)) dc,.slice (some ⟨b,off+i,none⟩) (n+m-i) sc]).run Tryz.prog w.drew=.ok (goInt (n-i:Nat)) (w.drew.setCells b (off+(i+m)) (cs.drop (i))):=fun ty dc sc=>by
  have h:=xm (P:=Tryz.prog) 1 w.drew 22 22 ty 3 b (off+(i+m)) (n+m-(i+m)) dc ⟨b,off+i,none⟩ (n+m-i) sc (cs.drop (i)) Tryz.underlying22 Tryz.sizeOf3 (by rw[s6,vu];omega)
   (fun j v hj=>by rw[Addr.add_lit,Nat.add_assoc];exact eY (i+j) v (by rwa [List.getElem?_drop]at hj))
   (fun j hj=>by rw[Nat.add_assoc];exact gP _ (by omega)) (fun j hj=>by exact pv _) (fun v hv=>vO v (List.mem_of_mem_drop hv))
  rw[vu]at h
  exact h
 obtain⟨W1,gE⟩:∃ W1,W1=w.drew.setCells b (off+(i+m)) (cs.drop (i)):=⟨_,rfl⟩
 have VT:∀ k,k<n+m->(W1.cell? ⟨b,off+k,none⟩).isSome=true:=fun k hk=>by
  rw[gE]
  exact isSome_setCells b _ _ _ (fun j hj=>by rw[Nat.add_assoc];exact gP _ (by omega)) _ (gP k hk)
 have vt:Nat.min m (n+m-i)=m:=by simp only[Nat.min_def];split<;>omega
 have WR:∀ (W:World),(∀ x,W.cell? x=W1.cell? x)->(∀ x,W.frozen? x=W1.frozen? x)->∀ ty dc,(Builtin.copy_ #[22,22] ty #[.slice (some ⟨b,off+i,none⟩) (n+m-i) dc,.slice (some ⟨vb,eP,none⟩) m vc]).run Tryz.prog W=.ok (goInt m) (W.setCells b (off+i) vs):=fun W pz vJ ty dc=>by
  have h:=xm (P:=Tryz.prog) 1 W 22 22 ty 3 b (off+i) (n+m-i) dc ⟨vb,eP,none⟩ m vc vs Tryz.underlying22 Tryz.sizeOf3 (by rw[vt,Cm];omega)
   (fun j v hj=>by
     rw[Addr.add_lit,pz,gE,World.cell?_setCells_out b _ _ _ _ (fun h _=>absurd h yw)]
     exact qK j v hj)
   (fun j hj=>by rw[pz,Nat.add_assoc];exact VT _ (by omega)) (fun j hj=>by rw[vJ,gE,World.frozen?_setCells];exact pv _) DT
  rw[vt]at h
  exact h
 rw[<-gE]at Kz
 go_enter Tryz.func103,Tryz.ntmps103
 go_wp2_with (simp only[V6])
 go_region_law_o (refine step_copy_runI rfl _ _ 22 22 rfl _ _ (by simp[Act.eval,Act.put]) (by simp[Act.eval,Act.put]) (Kz _ _ _) ?_)
 go_wp2_with (at_builtin;refine wpList_copy_runI _ rfl _ _ 22 22 rfl _ _ rfl rfl (WR _ (fun _=>rfl) (fun _=>rfl) _ _) ?_)
 go_ret
 first | exact⟨rfl,rfl⟩ | exact⟨rfl,by rw[gE]⟩
set_option maxHeartbeats 4000000 in
set_option maxRecDepth 100000 in
theorem Vr(b off n c i vb eP m vc:Nat)(cs vs:List Value)(w:World)(hi:i<n)(hm:0<m)(CV:n<=c)(jH:c<n+m)(WZ:(n+m)*8<=140737488355328)
 (bH:cs.length=n) (Cm:vs.length=m)
 (eY:∀ j v,cs[j]?=some v->w.cell? ⟨b,off+j,none⟩=some v)
 (qK:∀ j v,vs[j]?=some v->w.cell? ⟨vb,eP+j,none⟩=some v) (vO:∀ v∈cs,v.oneCell'=true) (DT:∀ v∈vs,v.oneCell'=true):
 Calls Tryz.prog 103 #[.slice (some ⟨b,off,none⟩) n c,.int .i64 i,.slice (some ⟨vb,eP,none⟩) m vc] w fun e w'=>
  e=.returned (.slice (some ⟨w.heap.size,0,none⟩) (n+m) (grownCap w (n+m) c 3))/\
  w'=(((w.alloc (.cells ((cs.take (i)).toArray++Builtin.zeroCells (.int .i64 0:Value).cells (n+m-i)++Builtin.zeroCells (.int .i64 0:Value).cells (grownCap w (n+m) c 3-(n+m))) 3)).drew.setCells w.heap.size (i) vs).drew).setCells w.heap.size ((i+m)) (cs.drop (i)):=by
 have mixed:Tryz.prog.follows Departure.mixedOrders=true:=by kernel_rfl
 have ti:bF Tryz.prog 22=some (3,1,8):=by kernel_rfl
 have vK:bd Tryz.prog 3=some (.int .i64 0):=by kernel_rfl
 obtain⟨i0,kI,dR,qF,JR⟩:∃ i0,Tryz.prog.info? 3=some i0/\i0.zero=some (.int .i64 0)/\i0.size=1/\i0.bytes=8:=by
  obtain⟨hu,i0,h1,h2,h3⟩:=gn ti
  refine⟨i0,h1,?_,h2,h3⟩
  unfold bd at vK
  rw[h1]at vK
  exact vK
 have gw:¬ ((m:Int)=0):=by omega
 have lL:¬ ((i:Int)=(n:Int)):=by omega
 have sM:(c:Int)<(n:Int)+(m:Int):=by omega
 have KF:b<w.heap.size:=block_lt_of_cell (eY 0 _ (List.getElem?_eq_getElem (by omega)))
 have VK:vb<w.heap.size:=block_lt_of_cell (qK 0 _ (List.getElem?_eq_getElem (by omega)))
 have yQ:(n:Int)+(m:Int)-(i:Int)=((n+m-i:Nat):Int):=by omega
 have vC:i+(n+m-i)=n+m:=by omega
 have hold:(Builtin.firstCells i0.size i (.slice (some ⟨b,off,none⟩) i c)).run Tryz.prog w.drew=.ok (cs.take (i)).toArray w.drew:=by
  rw[qF]
  exact run_firstCells_some w.drew 1 i ⟨b,off,none⟩ i c (cs.take (i)) (by rw[List.length_take];omega) (fun j v hj=>by
   rw[Addr.add_lit]
   rw[List.getElem?_take]at hj
   split at hj
   ·exact eY j v hj
   ·cases hj)
 have sO:∀ ty,(Builtin.append_ #[22,3] ty #[.slice (some ⟨b,off,none⟩) i c,.int .i64 ((n:Int)+(m:Int)-(i:Int))]).run Tryz.prog w=
     .ok (.slice (some ⟨w.heap.size,0,none⟩) (n+m) (grownCap w (n+m) c 3)) (w.drew.alloc (.cells ((cs.take (i)).toArray++Builtin.zeroCells (.int .i64 0:Value).cells (n+m-i)++Builtin.zeroCells (.int .i64 0:Value).cells (grownCap w (n+m) c 3-(n+m))) 3)):=fun ty=>by
  have h:=Lib.run_append_grow_zeros w 22 3 ty 3 i0 _ .i64 .i64 Tryz.underlying22 Tryz.underlying3 kI dR (some ⟨b,off,none⟩) i c (cs.take (i)) hold (n+m-i) (by omega) (by omega) (by omega) (by omega) (by rw[JR];omega) (by rw[JR,vC];exact growslice_fits jH WZ)
  rw[vC]at h
  rw[yQ]
  exact h
 obtain⟨G,hG⟩:∃ G,G=grownCap w (n+m) c 3:=⟨_,rfl⟩
 obtain⟨ROW,rq⟩:∃ ROW:Array Value,ROW=(cs.take (i)).toArray++Builtin.zeroCells (.int .i64 0:Value).cells (n+m-i)++Builtin.zeroCells (.int .i64 0:Value).cells (G-(n+m)):=⟨_,rfl⟩
 rw[<-hG]at sO |-
 rw[<-rq]at sO |-
 have Xg:n+m<=ROW.size:=by
  rw[rq]
  simp[Builtin.zeroCells,Value.cells]
  omega
 obtain⟨W1,gE⟩:∃ W1,W1=w.drew.alloc (.cells ROW 3):=⟨_,rfl⟩
 rw[<-gE]at sO
 have hN:∀ j,j<n+m->(W1.cell? ⟨w.heap.size,j,none⟩).isSome=true:=fun j hj=>by
  rw[gE,World.cell?_alloc_at (w:=w.drew) ROW _ w.heap.size j rfl,Array.getElem?_eq_getElem (by omega)];rfl
 have KO:∀ j,W1.frozen? ⟨w.heap.size,j,none⟩=false:=fun j=>by rw[gE];exact World.frozen?_alloc_at (w:=w.drew) ROW _ w.heap.size j rfl
 have vL:∀ j v,w.cell? ⟨b,j,none⟩=some v->W1.cell? ⟨b,j,none⟩=some v:=fun j v h=>by rw[gE,World.cell?_alloc_past (w:=w.drew) _ b j KF];exact h
 have Xk:∀ j v,w.cell? ⟨vb,j,none⟩=some v->W1.cell? ⟨vb,j,none⟩=some v:=fun j v h=>by rw[gE,World.cell?_alloc_past (w:=w.drew) _ vb j VK];exact h
 have vt:Nat.min m (n+m-i)=m:=by simp only[Nat.min_def];split<;>omega
 have vu:Nat.min (n-i) (n+m-(i+m))=n-i:=by simp only[Nat.min_def];split<;>omega
 have WQ:∀ (W:World),(∀ x,W.cell? x=W1.cell? x)->(∀ x,W.frozen? x=W1.frozen? x)->∀ ty dc,(Builtin.copy_ #[22,22] ty #[.slice (some ⟨w.heap.size,i,none⟩) (n+m-i) dc,.slice (some ⟨vb,eP,none⟩) m vc]).run Tryz.prog W=.ok (goInt m) (W.setCells w.heap.size (i) vs):=fun W pz vJ ty dc=>by
  have h:=xm (P:=Tryz.prog) 1 W 22 22 ty 3 w.heap.size (i) (n+m-i) dc ⟨vb,eP,none⟩ m vc vs Tryz.underlying22 Tryz.sizeOf3 (by rw[vt,Cm];omega)
   (fun j v hj=>by rw[Addr.add_lit,pz];exact Xk _ v (qK j v hj))
   (fun j hj=>by rw[pz];exact hN _ (by omega)) (fun j hj=>by rw[vJ];exact KO _) DT
  rw[vt]at h
  exact h
 have hGn:n+m<=G:=by rw[hG];exact grownCap_ge w _ _ _
 have aec:G<=9223372036854775807:=by
  have :=grownCap_le_maxLen w (n+m) c 3 (by unfold maxLen;omega)
  rw[<-hG]at this
  unfold maxLen at this
  omega
 have hGi:¬ (G=i):=by omega
 have aeb:¬ (G=i+m):=by omega
 have KA:¬ (c=i):=by omega
 have W0:b≠w.heap.size:=by omega
 have s6:(cs.drop (i)).length=n-i:=by rw[List.length_drop,bH];try omega
 have Ky:∀ (W:World),(∀ x,W.cell? x=(W1.setCells w.heap.size (i) vs).cell? x)->(∀ x,W.frozen? x=(W1.setCells w.heap.size (i) vs).frozen? x)->∀ ty dc sc,(Builtin.copy_ #[22,22] ty #[.slice (some ⟨w.heap.size,(i+m),none⟩) (n+m-(i+m)) dc,.slice (some ⟨b,off+i,none⟩) (n-i) sc]).run Tryz.prog W=.ok (goInt (n-i:Nat)) (W.setCells w.heap.size ((i+m)) (cs.drop (i))):=fun W pz vJ ty dc sc=>by
  have h:=xm (P:=Tryz.prog) 1 W 22 22 ty 3 w.heap.size ((i+m)) (n+m-(i+m)) dc ⟨b,off+i,none⟩ (n-i) sc (cs.drop (i)) Tryz.underlying22 Tryz.sizeOf3 (by rw[s6,vu];omega)
   (fun j v hj=>by
     rw[Addr.add_lit,pz,World.cell?_setCells_out _ _ _ _ _ (fun h _=>absurd h W0),Nat.add_assoc]
     exact vL _ v (eY (i+j) v (by rwa [List.getElem?_drop]at hj)))
   (fun j hj=>by rw[pz];exact isSome_setCells _ _ _ _ (fun t ht=>hN _ (by omega)) _ (hN _ (by omega)))
   (fun j hj=>by rw[vJ,World.frozen?_setCells];exact KO _) (fun v hv=>vO v (List.mem_of_mem_drop hv))
  rw[vu]at h
  exact h
 subst gE
 have XG:∀ x,((w.alloc (.cells ROW 3)).drew).cell? x=(w.drew.alloc (.cells ROW 3)).cell? x:=fun x=>rfl
 have XF:∀ x,((w.alloc (.cells ROW 3)).drew).frozen? x=(w.drew.alloc (.cells ROW 3)).frozen? x:=fun x=>rfl
 have XD:∀ x,(((w.alloc (.cells ROW 3)).drew.setCells w.heap.size (i) vs).drew).cell? x=((w.drew.alloc (.cells ROW 3)).setCells w.heap.size (i) vs).cell? x:=fun x=>rfl
 have XC:∀ x,(((w.alloc (.cells ROW 3)).drew.setCells w.heap.size (i) vs).drew).frozen? x=((w.drew.alloc (.cells ROW 3)).setCells w.heap.size (i) vs).frozen? x:=fun x=>rfl
 have eh:IntKind.i64.wrap ((i:Int)+(m:Int))=(i:Int)+(m:Int):=by rw[IntKind.wrap_i64];omega
 have bJ:(0:Int)<=(i:Int)+(m:Int):=by omega
 have gb:i<=n:=by omega
 have VN:((i:Int)+(m:Int)).toNat=i+m:=by omega
 have Dv:(i:Int)<=(n:Int):=by omega
 clear yQ vC hold rq hG Xg
 go_enter Tryz.func103,Tryz.ntmps103
 go_wp2_with (first
  |(at_builtin;refine Lib.wpList_append_run _ rfl _ _ _ _ rfl _ _ rfl rfl _ _ (sO _) ?_)
  |(at_builtin;refine wpList_copy_runI _ rfl _ _ 22 22 rfl _ _ rfl rfl (WQ _ XG XF _ _) ?_)
  |(at_builtin;refine wpList_copy_runI _ rfl _ _ 22 22 rfl _ _ rfl rfl (Ky _ (fun _=>rfl) (fun _=>rfl) _ _ _) ?_))
 go_region_law_o (refine step_copy_runI rfl _ _ 22 22 rfl (.slice (some ⟨w.heap.size,(i+m),none⟩) (n+m-(i+m)) (G-(i+m))) (.slice (some ⟨b,off+i,none⟩) (n-i) (c-i)) (by simp[Act.eval,Act.put]) (by simp[Act.eval,Act.put]) (Ky _ XD XC 3 (G-(i+m)) (c-i)) ?_)
 go_wp2
 go_ret
 exact⟨rfl,rfl⟩
set_option maxHeartbeats 4000000 in
set_option maxRecDepth 100000 in
theorem Vq(base:Option Addr)(n c vb eP m vc:Nat)(w:World)(v':Value)(w':World)(hm:0<m)(hn:n<=c)(KE:c<=9223372036854775807)
 (cH:∀ ty,(Builtin.append_ #[22,22] ty #[.slice base n c,.slice (some ⟨vb,eP,none⟩) m vc]).run Tryz.prog w=.ok v' w'):
 Calls Tryz.prog 103 #[.slice base n c,.int .i64 n,.slice (some ⟨vb,eP,none⟩) m vc] w fun e w1=>e=.returned v'/\w1=w':=by
 have mixed:Tryz.prog.follows Departure.mixedOrders=true:=by kernel_rfl
 have gw:¬ ((m:Int)=0):=by omega
 go_enter Tryz.func103,Tryz.ntmps103
 cases base with
 |none=>
  go_wp2_with (at_builtin;refine Lib.wpList_append_run _ rfl _ _ _ _ rfl _ _ rfl rfl _ _ (cH _) ?_)
  all_goals (go_ret;exact⟨rfl,rfl⟩)
 |some a=>
  obtain⟨ab,ao,asp⟩:=a
  go_wp2_with (at_builtin;refine Lib.wpList_append_run _ rfl _ _ _ _ rfl _ _ rfl rfl _ _ (cH _) ?_)
  all_goals (go_ret;exact⟨rfl,rfl⟩)
open Go Go.Proofs
theorem Vs:Og Tryz.prog 103 22 3 1 8 (.int .i64 0):=
 ⟨by kernel_rfl,by kernel_rfl,by kernel_rfl,by decide,nI _ (by decide),gG Tryz.func103 (by rfl) (by kernel_rfl),
   by simpa only[Nat.mul_one]using @Vp,by simpa only[Nat.mul_one]using @Vr,Vq⟩
noncomputable def S103:Spec:=qA Tryz.prog 22
theorem U8:ak Tryz.prog 103 S103:=Vk Vs
theorem Nr{p q:Prop}{d:D}{o:Name->Option O}(h:p=q):(⟨p,d,o⟩:R)=⟨q,d,o⟩:=by rw[h]
theorem Vl{obj:Name->Option O}{nm t:Name}{l:List Int}{x:Int}(h:obj nm=some (.arr 1 (l.map vInt)))(hl:l.length<=1000):
 S103.app obj t [.msl nm l.length,.v (vInt (bz l x)),.v (.sl [vInt x])]=⟨True,.msl nm (l.length+1),upd obj nm (some (.arr 1 ((cY l x).map vInt)))⟩:=by
 have qZ:=xU l x
 have hm:l.length+1<=maxLen:=by unfold maxLen;omega
 have lY:cf Tryz.prog obj t 22 22 (.msl nm l.length) (.v (.sl [vInt x]))=⟨True,.msl nm (l.length+1),upd obj nm (some (.arr 1 (l.map vInt++[vInt x])))⟩:=by
  simp only[cf,OX,OQ,aA,h]
  have dM:∀ y∈[vInt x],y.cells.length=1/\y.okc=true:=by
   intro y hy
   simp only[List.mem_cons,List.not_mem_nil,or_false]at hy
   subst hy
   exact⟨rfl,rfl⟩
  simp only[List.length_map,List.length_cons,List.length_nil,Nat.zero_add]
  congr 1
  simp only[eq_iff_iff,iff_true]
  refine⟨trivial,?_⟩
  repeat' apply And.intro
  all_goals first | trivial | exact dM | rfl | omega
 show nl Tryz.prog obj t 22 (.msl nm l.length) (.v (vInt (bz l x))) (.v (.sl [vInt x]))=_
 unfold nl
 simp only[h,lY,Int.toNat_natCast,List.length_map]
 cases hb:Nat.beq (bz l x) l.length with
 |true=>
  have he:bz l x=l.length:=Nat.eq_of_beq_eq_true hb
  simp only
  have hi:(cY l x).map vInt=l.map vInt++[vInt x]:=by
   unfold cY
   rw[he,List.take_length,List.drop_length,List.append_nil,List.map_append];rfl
  rw[hi]
  exact Nr (eq_true ⟨trivial,Int.natCast_nonneg _,by simp⟩)
 |false=>
  have he:bz l x≠l.length:=fun e=>by rw[e,Nat.beq_refl]at hb;cases hb
  simp only
  have hi:(cY l x).map vInt=(l.map vInt).take (bz l x)++[vInt x]++(l.map vInt).drop (bz l x):=by
   unfold cY
   rw[List.map_append,List.map_append,List.map_take,List.map_drop];rfl
  rw[hi]
  exact Nr (eq_true ⟨trivial,Int.natCast_nonneg _,by omega,by simp⟩)
def iN(l:List Int)(x:Int):List Int:=if bR l x=true then l else cY l x
theorem A8{l:List Int}{x:Int}(h:bR l x=true):iN l x=l:=if_pos h
theorem A9{l:List Int}{x:Int}(h:bR l x=false):iN l x=cY l x:=if_neg (by rw[h];decide)
noncomputable def putC:CSpec where
 pre:=fun os ds=>∃ (l:List Int) (x:Int),os=[.arr 1 (l.map vInt)]/\ds=[.msl [0,1] l.length,.v (vInt x)]/\l.Pairwise (· < ·)/\l.length<=1000
 out:=fun os ds=>match os,ds with
  |[.arr _ L],[_,.v x]=>⟨[(0,.arr 1 ((iN (L.map c9) (c9 x)).map vInt))],[],.tup [.msl [0,1] (iN (L.map c9) (c9 x)).length,.v (.bool (!bR (L.map c9) (c9 x)))]⟩
  |_,_=>⟨[],[],.any⟩
noncomputable def qk(obj:Name->Option O)(_:Name):List D->R
 |[.msl nm k,.v x]=>match obj nm with
  |some (.arr 1 L)=>⟨k=L.length/\(L.map c9).map vInt=L/\vInt (c9 x)=x/\(L.map c9).Pairwise (· < ·)/\L.length<=1000,.tup [.msl nm (iN (L.map c9) (c9 x)).length,.v (.bool (!bR (L.map c9) (c9 x)))],upd obj nm (some (.arr 1 ((iN (L.map c9) (c9 x)).map vInt)))⟩
  |_=>.bad obj
 |_=>.bad obj
noncomputable def S67:Spec:=⟨qk,pK,pK⟩
attribute [go_sem] S67 qk
theorem RE:S67.Near:=by
 refine By fun obj obj2 t ds ha=>⟨rfl,?_⟩
 have fx:∀ wr,bq wr obj obj2->bx (R.bad obj) (R.bad obj2) obj obj2 wr:=fun wr h=>.none wr h
 unfold qk
 split
 ·rename_i nm k x
  have h1:obj2 nm=obj nm:=ha nm (by simp[pK])
  simp only[h1]
  split
  ·exact .one (by simp[pK]) ha
  ·exact fx _ ha
 ·exact fx _ ha
noncomputable def Nz:List (Nat×Spec):=[(52,S52),(103,S103)]
attribute [go_sem] Nz
theorem aae:∀ f s,tbl Nz f=some s->ak Tryz.prog f s:=tc JD<|tc U8<|tn
set_option maxHeartbeats 4000000 in
theorem UE:ak Tryz.prog 67 putC.toSpec:=by
 refine mf (nt:=21) (rs:=[.tmp 4,.tmp 5]) Tryz.func67 rfl (by rfl) (by kernel_rfl) (gG Tryz.func67 rfl (by kernel_rfl)) (nI _ (by decide)) ?_
 rintro os ds ⟨l,x,rfl,rfl,hs,hl⟩
 refine⟨lb rfl,hU ?_⟩
 have eV:putC.out [.arr 1 (l.map vInt)] [.msl [0,1] l.length,.v (vInt x)]=⟨[(0,.arr 1 ((iN l x).map vInt))],[],.tup [.msl [0,1] (iN l x).length,.v (.bool (!bR l x))]⟩:=by
  simp only[putC,LY,c9]
 rw[eV]
 have hΓ:=aae
 obtain⟨H,hH,h0,hO,fJ⟩:=RV 1 (l.map vInt)
 rw[<-hH]
 clear hH eV
 have DU:∀ (F:Name->Option O) (t:Name),S103.app (fun nm=>if own [0] nm=true then F nm else H nm) t [.msl [0,1] l.length,.v (vInt (bz l x)),.v (.sl [vInt x])]=⟨True,.msl [0,1] (l.length+1),upd (fun nm=>if own [0] nm=true then F nm else H nm) [0,1] (some (.arr 1 ((cY l x).map vInt)))⟩:=fun F t=>Vl (by rw[<-h0];rfl) hl
 have vv:=Vn l x
 simp only[ef,Nat.zero_add]
 repeat refine sq ?_
 refine rx hΓ [0,1] [] (fun K' hK=>by simp only[go_sem,hO,fJ,h0];(repeat (refine⟨ah,?_⟩));exact hK _ (by simp only[go_sem,hO,fJ,h0]) (by simp only[go_sem,hO,fJ,h0]<;>rfl)) ?_
 repeat refine sq ?_
 refine rx hΓ [0,1,6,7] [] (fun K' hK=>by simp only[go_sem,hO,fJ,h0,hs,List.length_map];(repeat (refine⟨ah,?_⟩));exact hK _ (by simp only[go_sem,hO,fJ,h0,hs,List.length_map]) (by simp only[go_sem,hO,fJ,h0,hs,List.length_map]<;>rfl)) ?_
 repeat refine sq ?_
 refine rx hΓ [0,1,6,14] [] (fun K' hK=>by simp only[go_sem,hO,fJ,h0];(repeat (refine⟨ah,?_⟩));exact hK _ (by simp only[go_sem,hO,fJ,h0]) (by simp only[go_sem,hO,fJ,h0]<;>rfl)) ?_
 repeat refine sq ?_
 refine aw rfl rfl (fun hb=>?_) (fun hb=>?_)
 ·repeat refine sq ?_
  have hr:=A8 hb
  rw[hr,hb]
  repeat refine sq ?_
  refine rx hΓ [4,5] [] (fun K' hK=>by simp only[go_sem,hO,fJ,h0];(repeat (refine⟨ah,?_⟩));exact hK _ (by simp only[go_sem,hO,fJ,h0]) (by simp only[go_sem,hO,fJ,h0]<;>rfl)) ?_
  refine ar ?_
  simp only[go_sem,hO,fJ,h0]
  trace_state
 ·repeat refine sq ?_
  have hr:=A9 hb
  rw[hr,hb,vv]
  refine ay ?_
  repeat refine sq ?_
  refine rx hΓ [4,5] [] (fun K' hK=>by simp only[go_sem,hO,fJ,h0,DU];(repeat (refine⟨ah,?_⟩));exact hK _ (by simp only[go_sem,hO,fJ,h0,DU]) (by simp only[go_sem,hO,fJ,h0,DU]<;>rfl)) ?_
  refine ar ?_
  simp only[go_sem,hO,fJ,h0]
  trace_state
theorem UF:ak Tryz.prog 67 S67:=by
 refine AF UE RE (nI _ (by decide)) fun obj t ds aa=>?_
 change (qk obj t ds).ok at aa
 refine⟨ds,rfl,fun _ _ _ _ h=>h,?_⟩
 show _/\_=(qk obj t ds).d/\_=(qk obj t ds).obj
 unfold qk at aa |-
 split at aa
 ·rename_i nm k x
  split at aa
  ·rename_i L ho
   obtain⟨rfl,he,hx,hs,hl⟩:=aa
   have hr:reach obj [.msl nm L.length,.v x]=[nm]:=by
    unfold reach
    show dm obj (2998+1+1) [nm] []=[nm]
    simp only[dm,bX,List.any_nil,Bool.false_eq_true,if_false,ho,lH,List.nil_append]
   have i0:idx [nm] nm=0:=by simp[idx]
   have e1:b8 obj [.msl nm L.length,.v x]=[.arr 1 L]:=by
    unfold b8
    rw[hr]
    simp only[List.map_cons,List.map_nil,bV,ho,O.ren]
   have e2:cC obj [.msl nm L.length,.v x]=[.msl [0,1] L.length,.v x]:=by
    unfold cC
    rw[hr]
    simp only[D.renL,D.ren,cin,i0]
   have e3:(shut obj [nm]&&D.closL (bX [nm]) [.msl nm L.length,.v x]&&fresh obj t [])=true:=by
    simp[shut,ho,O.clos,D.closL,D.clos,bX,fresh]
   have cz:putC.pre [.arr 1 L] [.msl [0,1] L.length,.v x]:=⟨L.map c9,c9 x,by rw[he],by rw[List.length_map,hx],hs,by rw[List.length_map];exact hl⟩
   have eV:putC.out [.arr 1 L] [.msl [0,1] L.length,.v x]=⟨[(0,.arr 1 ((iN (L.map c9) (c9 x)).map vInt))],[],.tup [.msl [0,1] (iN (L.map c9) (c9 x)).length,.v (.bool (!bR (L.map c9) (c9 x)))]⟩:=rfl
   have c0:cout [nm] t [0,1]=nm:=rfl
   simp only[CSpec.toSpec,e1,e2,hr,eV,e3,cz,ho,and_self,cX]
   refine⟨trivial,?_,rfl⟩
   simp only[D.ren,D.renL,c0]
  ·exact aa.elim
 ·exact aa.elim
open Go
def Lp.J(r:Lp)(s:Nat):List O:=(if s=r.n then r.fin (LI r.m)else r.rc (LI r.m) .ready none)::r.fam (LI r.m) s
theorem Lp.last_e{r:Lp}(bY:∀ j,j+1<r.n->r.st j=none):r.e=r.n/\(r.n=0->r.pd=none)/\∀ j,j+1=r.n->r.pd=r.st j:=by
 have key:∀ k,r.n=k+1->(List.range r.n).find? (fun s=>(r.st s).isSome)=if (r.st k).isSome=true then some k else none:=by
  intro k hk
  have h0:(List.range k).find? (fun s=>(r.st s).isSome)=none:=List.find?_eq_none.2 fun s hs=>by
   rw[bY s (by have:=List.mem_range.1 hs;omega)];decide
  rw[hk,List.range_succ,List.find?_append,h0,Option.none_or]
  by_cases h:(r.st k).isSome=true
  ·rw[if_pos h];simp[List.find?,h]
  ·rw[if_neg h];simp[List.find?,h]
 cases hn:r.n with
 |zero=>
  have h0:(List.range r.n).find? (fun s=>(r.st s).isSome)=none:=by rw[hn];rfl
  refine⟨?_,fun _=>?_,fun j hj=>by omega⟩
  ·unfold Lp.e;rw[h0];exact hn
  ·unfold Lp.pd;rw[h0]
 |succ k=>
  have h0:=key k hn
  by_cases h:(r.st k).isSome=true
  ·rw[if_pos h]at h0
   refine⟨?_,fun h=>by omega,fun j hj=>?_⟩
   ·unfold Lp.e;rw[h0]
   ·obtain rfl:j=k:=by omega
    unfold Lp.pd;rw[h0]
  ·rw[if_neg h]at h0
   refine⟨?_,fun h=>by omega,fun j hj=>?_⟩
   ·unfold Lp.e;rw[h0];exact hn
   ·obtain rfl:j=k:=by omega
    unfold Lp.pd;rw[h0]
    cases hs:r.st j with
    |none=>rfl
    |some c=>rw[hs]at h;exact absurd rfl h
theorem Lp.J_zero{r:Lp}(bY:∀ j,j+1<r.n->r.st j=none):r.J 0=r.rc (LI r.m) .ready none::r.fam (LI r.m) 0:=by
 unfold Lp.J
 by_cases h:0=r.n
 ·rw[if_pos h]
  unfold Lp.fin
  rw[(Lp.last_e bY).2.1 h.symm]
  rfl
 ·rw[if_neg h]
theorem Lp.J_len{r:Lp}(hr:r.Ok)(s:Nat):(r.J s).length=r.m+1:=by unfold Lp.J;rw[List.length_cons,hr.len _ _ (db _)]
theorem Lp.J_clos{r:Lp}(hr:r.Ok)(s:Nat):∀ o∈r.J s,∀ dom:Name->Bool,(∀ i,dom [i,1]=true)->O.clos dom o=true:=by
 intro o ho dom hd
 have fc:∀ x∈LI r.m,dom x=true:=fun x hx=>by
  obtain⟨i,_,rfl⟩:=List.mem_map.1 hx
  exact hd _
 rcases List.mem_cons.1 ho with rfl | ho
 ·split
  ·exact hr.closE _ _ (db _) fc
  ·exact hr.closE _ _ (db _) fc
 ·exact hr.closF _ _ _ (db _) fc _ ho
theorem Lp.y_setJ{r:Lp}(hr:r.Ok)(bY:∀ j,j+1<r.n->r.st j=none){s:Nat}(hs:s<r.n)(obj:Name->Option O)(tm:Name)(ho:∀ nm,cv nm=true->obj nm=aT (r.J s) nm):
 r.y.toSpec.app obj tm (.yld [0,1]::r.vals s)=⟨True,.v (.bool (r.st s).isNone),gL obj (r.J (s+1))⟩:=by
 have mX:(LI r.m).Nodup:=List.Pairwise.map _ (fun a b h=>by simpa using h) List.nodup_range
 have l3:([0,1]:Name)∉LI r.m:=fun h=>by
  obtain⟨i,_,hi⟩:=List.mem_map.1 h
  simp at hi
 have Xu:r.J s=r.rc (LI r.m) .ready none::r.fam (LI r.m) s:=by unfold Lp.J;rw[if_neg (by omega)]
 rw[Xu]at ho
 have h0:obj [0,1]=some (r.rc (LI r.m) .ready none):=by
  rw[ho _ rfl];rfl
 have hF:cS obj (LI r.m) (r.fam (LI r.m) s):=by
  rw[iQ]
  refine List.ext_getElem (by rw[List.length_map,List.length_map,db,hr.len _ _ (db _)]) fun i h3 h4=>?_
  simp only[List.getElem_map,LI,List.getElem_range]
  rw[ho _ rfl]
  simp only[aT,List.getElem?_cons_succ]
  have h5:i<(r.fam (LI r.m) s).length:=by simpa using h4
  rw[List.getElem?_eq_getElem h5]
  rfl
 have lY:=Lp.y_app hr hs (fun j hj=>bY j (by omega)) (t:=tm) (db _) mX l3 h0 hF
 rw[lY]
 have cZ:r.rc (LI r.m) (if (r.st s).isNone then .ready else .done) (r.st s)=(if s+1=r.n then r.fin (LI r.m)else r.rc (LI r.m) .ready none):=by
  by_cases h:s+1=r.n
  ·rw[if_pos h]
   unfold Lp.fin
   rw[(Lp.last_e bY).2.2 s h]
  ·rw[if_neg h,bY s (by omega)]
   rfl
 rw[cZ]
 congr 1
 funext nm
 have hlen:=hr.len (LI r.m) (s+1) (db _)
 by_cases hR:nm=[0,1]
 ·subst hR
  rw[aD]
  rfl
 ·rw[aI _ _ _ hR]
  unfold gL
  cases hx:cv nm with
  |false=>
   rw[uF hx,oK]
   intro eA
   obtain⟨i,_,rfl⟩:=List.mem_map.1 eA
   cases hx
  |true=>
   obtain⟨i,rfl⟩:=sH.1 hx
   have dM:=AQ (obj:=obj) (F:=r.fam (LI r.m) (s+1)) mX (by rw[db,hlen])
   match i,hR with
   | 0,hR=>exact(hR rfl).elim
   |i+1,_=>
    simp only[Lp.J,aT,List.getElem?_cons_succ]
    by_cases hi:i<r.m
    ·have h6:=xK dM i (by rw[db];exact hi) (by rw[hlen];exact hi)
     simp only[LI,List.getElem_map,List.getElem_range]at h6
     rw[show (r.fam (LI r.m) (s+1))[i]?=some (r.fam (LI r.m) (s+1))[i]from List.getElem?_eq_getElem (by rw[hlen];exact hi)]
     exact h6
    ·rw[List.getElem?_eq_none (by rw[hlen];omega),oK]
     intro eA
     obtain⟨j,lS,Db⟩:=List.mem_map.1 eA
     have :=List.mem_range.1 lS
     simp at Db
     omega
theorem Lp.itJ_sound{P:Program}{r:Lp}(hr:r.Ok)(bY:∀ j,j+1<r.n->r.st j=none){caps:List Name->List D}{f:FuncId}{fn:Func}{nt:Nat}(hf:P.funcs[f]?=some fn)(ei:fn.ntmps=nt)(eH:fn.results.toList=[])(hn:(fn.name== "runtime.NumGoroutine")=false)(hy:f<1000000000)
 (hw:∃ c,fn.body=some c/\(caps (LI r.m)).length+1<=nt/\CL P [c] (aO nt [0] (aT (r.J 0)) (ef 0 (.yld [0,1]::caps (LI r.m))) []) (fun e σ=>(e=.normal\/e=.ret)/\∀ i,σ.obj [i,1]=aT (r.J r.n) [i,1])):ak P f (r.itC caps).toSpec:=by
 obtain⟨c,hc,hl,hw⟩:=hw
 refine mf hf hc ei eH (gG hf hc hn) (Nat.ne_of_lt (show f<yid from hy)) ?_
 rintro os ds ⟨rfl,rfl⟩
 rw[Lp.J_zero bY]at hw
 refine⟨by simpa using hl,CW.mono (hU hw) ?_⟩
 rintro e σ ⟨he,dA⟩
 have fin:(bP P σ []).ok/\(bP P σ []).d=.tup []/\fL (r.rc (LI r.m) .ready none::r.fam (LI r.m) 0) ⟨(0,r.fin (LI r.m))::dW 1 (r.fam (LI r.m) r.e),[],.tup []⟩ σ:=by
  refine Lp.it_end hr ?_ ?_
  ·rw[dA]
   unfold Lp.J
   rw[if_pos rfl]
   rfl
  ·rw[(Lp.last_e bY).1,iQ]
   refine List.ext_getElem (by rw[List.length_map,List.length_map,db,hr.len _ _ (db _)]) fun i h3 h4=>?_
   simp only[List.getElem_map,LI,List.getElem_range]
   rw[dA]
   simp only[Lp.J,aT,List.getElem?_cons_succ]
   have h5:i<(r.fam (LI r.m) r.n).length:=by simpa using h4
   rw[List.getElem?_eq_getElem h5]
   rfl
 rcases he with rfl | rfl
 ·exact fin
 ·exact fin
def bm(e:Dk)(hn:Name)(n:Nat):List D:=(List.map D.v (al e)).set 1 (.msl hn n)
@[go_sem] theorem Zi(e:Dk)(hn:Name)(n:Nat):(bm e hn n).length=63:=mD _ _ _
@[go_sem] theorem wz(dom:Name->Bool)(e:Dk)(hn:Name)(n:Nat):D.closL dom (bm e hn n)=dom hn:=by
  have :=Mp dom (al e) 1 hn n
  rw[show decide ((al e).length<=1)=false from rfl,Bool.or_false]at this
  exact this
@[go_sem] theorem MM(f:Name->Name)(e:Dk)(hn:Name)(n:Nat):D.renL f (bm e hn n)=bm e (f hn) n:=A0 _ _ _ _ _
@[go_sem] theorem afi(e:Dk)(hn:Name)(n:Nat):(bm e hn n).take 63=bm e hn n:=LO _ _ _
@[go_sem] theorem afh(e:Dk)(hn:Name)(n:Nat):(bm e hn n).drop 63=[]:=List.drop_of_length_le (by rw[Zi];exact Nat.le_refl _)
theorem rM(e:Dk)(hn:Name)(n:Nat){f:Nat}(hf:f<6):(bm e hn n).getD (14+f) .any=.v (vInt (e.now.ta.get f)):=
 jZ (P:=fun f=>(bm e hn n).getD (14+f) .any=.v (vInt (e.now.ta.get f))) rfl rfl rfl rfl rfl rfl hf
@[go_sem] theorem aff(e:Dk)(hn:Name)(n:Nat):(bm e hn n).getD 1 .any=.msl hn n:=rfl
@[go_sem] theorem afd(e:Dk)(hn pq:Name)(n n':Nat):List.take 1 (bm e hn n)++[D.msl pq n']++List.drop 2 (bm e hn n)=bm e pq n':=rfl
theorem Zh(e:Dk)(hn:Name)(n:Nat)(x:Int){f:Nat}(hf:f<6):List.take (14+f) (bm e hn n)++[D.v (vInt x)]++List.drop (14+f+1) (bm e hn n)=bm (e.setN ⟨e.now.ho,e.now.un,e.now.se,e.now.ta.set f x⟩) hn n:=
 jZ (P:=fun f=>List.take (14+f) (bm e hn n)++[D.v (vInt x)]++List.drop (14+f+1) (bm e hn n)=bm (e.setN ⟨e.now.ho,e.now.un,e.now.se,e.now.ta.set f x⟩) hn n) rfl rfl rfl rfl rfl rfl hf
theorem afe(e:Dk)(l:List Int)(hn:Name)(n:Nat):bm e hn n=bm (e.setN ⟨l,e.now.un,e.now.se,e.now.ta⟩) hn n:=rfl
theorem Zj(e:Dk)(hn:Name)(n:Nat):(bm e hn n)[1]?=some (.msl hn n):=rfl
theorem afg(e:Dk)(hn:Name)(n:Nat):(bm e hn n).set 1 (.v (fa e.now.ho))=List.map D.v (al e):=rfl
theorem Zg(e:Dk)(hn nm:Name)(n k:Nat)(se:Int)(ps:List Par){f:Nat}(hf:f<6)(iV:se=e.now.se.get f):List.take (2+f) (bC e f (.msl hn n) nm k se)++[D.v (.sl (ps.map encPa))]++List.drop (2+f+1) (bC e f (.msl hn n) nm k se)=bm (e.setN ⟨e.now.ho,e.now.un.set f ps,e.now.se,e.now.ta⟩) hn n:=by
 subst iV
 rw[sa (by rw[mj];omega),<-wx e f (.v (fa e.now.ho)) (.msl hn n) nm k (e.now.se.get f),List.set_comm _ _ (show 1≠2+f by omega),EO e _ _ _ _ _ hf,bg.set_self _ _ hf]
 rfl
set_option maxRecDepth 10000 in
theorem xQ(e:Dk)(hn:Name)(n:Nat):cE (bm e hn n)=[hn]:=rfl
def l5(x:V)(p:D):List (Name×O):=[([2,0],.box (x.L.map .v)),([3,0],.box [p])]
noncomputable def vS:CSpec where
 pre:=fun os ds=>∃ (b:Bag) (e:Dk) (n off:Nat) (l:List V),os=[.box (bm e [1,1] n),.arr 1 l]/\ds=[.v (.agg (aZ b)),.ref [0,1] off]
 out:=fun _ ds=>match ds with
  |[.v x,p]=>⟨[],l5 x p,.clo (.func 102) [] [.ref [2,0] 0,.ref [3,0] 0]⟩
  |_=>⟨[],[],.any⟩
noncomputable def S66:Spec:=vS.toSpec
theorem X2{b:Bag}{e:Dk}{n off:Nat}{l:List V}{obj:Name->Option O}{t nm h:Name}(h1:obj nm=some (.box (bm e h n)))(h2:obj h=some (.arr 1 l))(hn:nm≠h):
 S66.app obj t [.v (.agg (aZ b)),.ref nm off]=⟨fresh obj t (l5 (.agg (aZ b)) (.ref nm off))=true,.clo (.func 102) [] [.ref ([2,0]++t) 0,.ref ([3,0]++t) 0],upd (upd obj ([2,0]++t) (some (.box ((aZ b).map .v)))) ([3,0]++t) (some (.box [.ref nm off]))⟩:=by
 have hr:reach obj [.v (.agg (aZ b)),.ref nm off]=[nm,h]:=by
  unfold reach
  show dm obj (2996+1+1+1+1) [nm] []=[nm,h]
  simp[dm,fW,h1,h2,lH,xQ,Ne.symm hn]
 have i0:idx [nm,h] nm=0:=by simp[idx]
 have i1:idx [nm,h] h=1:=by simp[idx,hn]
 have e1:b8 obj [.v (.agg (aZ b)),.ref nm off]=[.box (bm e [1,1] n),.arr 1 l]:=by
  unfold b8
  rw[hr]
  simp only[List.map_cons,List.map_nil,bV,h1,h2,O.ren,MM,cin,i1]
 have e2:cC obj [.v (.agg (aZ b)),.ref nm off]=[.v (.agg (aZ b)),.ref [0,1] off]:=by
  unfold cC
  rw[hr]
  simp only[D.renL,D.ren,cin,i0]
 have fb:shut obj [nm,h]=true:=by simp[shut,h1,h2,O.clos,wz,bX]
 have bH:D.closL (bX [nm,h]) [.v (.agg (aZ b)),.ref nm off]=true:=by simp[D.closL,D.clos,bX]
 have hp:vS.pre [.box (bm e [1,1] n),.arr 1 l] [.v (.agg (aZ b)),.ref [0,1] off]:=⟨b,e,n,off,l,rfl,rfl⟩
 have eV:vS.out [.box (bm e [1,1] n),.arr 1 l] [.v (.agg (aZ b)),.ref [0,1] off]=⟨[],l5 (.agg (aZ b)) (.ref [0,1] off),.clo (.func 102) [] [.ref [2,0] 0,.ref [3,0] 0]⟩:=rfl
 have c1:cout [nm,h] t [2,0]=[2,0]++t:=rfl
 have c2:cout [nm,h] t [3,0]=[3,0]++t:=rfl
 have c3:cout [nm,h] t [0,1]=nm:=rfl
 have cq:fresh obj t (l5 (.agg (aZ b)) (.ref [0,1] off))=fresh obj t (l5 (.agg (aZ b)) (.ref nm off)):=rfl
 simp only[S66,CSpec.toSpec,e1,e2,hr,fb,bH,Bool.true_and,hp,and_true,eV,bW,cq]
 simp only[D.ren,D.renL,c1,c2,l5,cX,O.ren,V.L,sg,c3]
attribute [go_sem] l5 V.L
set_option maxHeartbeats 4000000 in
theorem UG:ak Tryz.prog 66 S66:=by
 refine mf (nt:=6) (rs:=[.tmp 4]) Tryz.func66 rfl (by rfl) (by kernel_rfl) (gG Tryz.func66 rfl (by kernel_rfl)) (nI _ (by decide)) ?_
 rintro os ds ⟨b,e,n,off,l,rfl,rfl⟩
 refine⟨lb rfl,hU ?_⟩
 have eV:vS.out [.box (bm e [1,1] n),.arr 1 l] [.v (.agg (aZ b)),.ref [0,1] off]=⟨[],l5 (.agg (aZ b)) (.ref [0,1] off),.clo (.func 102) [] [.ref [2,0] 0,.ref [3,0] 0]⟩:=rfl
 rw[eV]
 have hΓ:=@j9 Tryz.prog
 have hO:∀ hs,bS [0] (bK [0] hs) (aT [.box (bm e [1,1] n),.arr 1 l])=True:=fun hs=>eq_true (uG (by
  intro o ho dom hd
  simp only[List.mem_cons,List.not_mem_nil,or_false]at ho
  rcases ho with rfl | rfl
  ·simp only[O.clos,wz];exact hd 1
  ·rfl) hs)
 have h0:aT [.box (bm e [1,1] n),.arr 1 l] [0,1]=some (.box (bm e [1,1] n)):=rfl
 have h1:aT [.box (bm e [1,1] n),.arr 1 l] [1,1]=some (.arr 1 l):=rfl
 generalize aT [.box (bm e [1,1] n),.arr 1 l]=H at *
 simp only[ef,Nat.zero_add]
 repeat refine sq ?_
 refine rx hΓ [2,3] [[2,0],[3,0]] (fun K' hK=>by simp only[go_sem,hO,h0,h1];(repeat (refine⟨ah,?_⟩));exact hK _ (by simp only[go_sem,hO,h0,h1]) (by simp only[go_sem,hO,h0,h1]<;>rfl)) ?_
 repeat refine sq ?_
 refine rx hΓ [4] [[2,0],[3,0]] (fun K' hK=>by simp only[go_sem,hO,h0,h1];(repeat (refine⟨ah,?_⟩));exact hK _ (by simp only[go_sem,hO,h0,h1]) (by simp only[go_sem,hO,h0,h1]<;>rfl)) ?_
 refine ar ?_
 simp only[go_sem,hO,h0,h1]
 skip
abbrev oT (d:Dk) (b:Bag) (z:Nat):Stk:=cW b.fr.toNat b.ps (bG d b) z
abbrev oE (d:Dk) (b:Bag) (z:Nat):Int:=fK b.fr.toNat b.ps (bG d b) z
structure ln (d:Dk) (b:Bag) (k0 m n:Nat) (er:Int):Prop where
 hk:k0+m<=b.ps.length
 hn:(er=0/\n=m/\k0+m=b.ps.length)\/(er≠0/\n=m+1/\k0+m<b.ps.length)
 pre:∀ i (h:i<b.ps.length),i<k0->ew b.fr.toNat (bG d b) b.ps[i]=false
 T0:∀ i,i<=k0->oT d b i=bG d b
 good:∀ j,j<m->∀ h:k0+j<b.ps.length,ew b.fr.toNat (oT d b (k0+j)) b.ps[k0+j]=true/\fo b.fr.toNat (oT d b (k0+j)) b.ps[k0+j]=0
 bad:er≠0->∀ h:k0+m<b.ps.length,ew b.fr.toNat (oT d b (k0+m)) b.ps[k0+m]=true/\fo b.fr.toNat (oT d b (k0+m)) b.ps[k0+m]=er
 er0:∀ z,z<=k0+m->oE d b z=0
theorem G8{l:List Par}(h:cR l=true):∀ i (hi:i<l.length),l[i].no=(l.getD 0 default).no+i:=by
 unfold cR at h
 rw[Bool.and_eq_true,kU]at h
 intro i hi
 induction i with
 |zero=>rw[getD_at hi];simp
 |succ i ih=>
  have :=h.1 (i+1) hi
  unfold fU at this
  simp only[Bool.and_eq_true,Bool.or_eq_true,beq_iff_eq,Nat.add_sub_cancel]at this
  rw[getD_at (show i<l.length by omega),getD_at hi]at this
  have h2:=ih (by omega)
  rcases this.2 with h3 | h3
  ·omega
  ·omega
theorem RY{d:Dk}{b:Bag}(hb:fM b=true):∃ k0 m n er,ln d b k0 m n er:=by
 obtain⟨_,_,hf,_,_,_,_⟩:=tJ hb
 have CJ:cR b.ps=true:=by unfold fM at hb;simp only[Bool.and_eq_true]at hb;exact hb.1.2
 have fx:=G8 CJ
 obtain⟨f,sX⟩:∃ f,f=b.fr.toNat:=⟨_,rfl⟩
 obtain⟨k0,C9⟩:∃ k0,k0=b.ps.findIdx (fun p=>ew b.fr.toNat (bG d b) p):=⟨_,rfl⟩
 have rh:k0<=b.ps.length:=by rw[C9];exact List.findIdx_le_length
 have cz:∀ i (h:i<b.ps.length),i<k0->ew b.fr.toNat (bG d b) b.ps[i]=false:=fun i h hi=>by
  have :=List.not_of_lt_findIdx (p:=fun p=>ew b.fr.toNat (bG d b) p) (xs:=b.ps) (by rw[<-C9];exact hi)
  simpa using this
 have kK:∀ h:k0<b.ps.length,ew b.fr.toNat (bG d b) b.ps[k0]=true:=fun h=>by
  subst C9
  exact List.findIdx_getElem (w:=h)
 have DE:∀ i,i<=k0->oT d b i=bG d b:=by
  intro i hi
  induction i with
  |zero=>rfl
  |succ i ih=>
   have h1:=ih (by omega)
   have h2:=FY b.fr.toNat b.ps (bG d b) (i:=i) (by omega) (by rw[show cW b.fr.toNat b.ps (bG d b) i=bG d b from h1];exact cz i (by omega) (by omega))
   exact h2.trans h1
 have KU:∀ i,i<=k0->oE d b i=0:=by
  intro i hi
  induction i with
  |zero=>rfl
  |succ i ih=>
   refine zl (by omega) (ih (by omega)) (Hm _ _ _ ?_)
   have h1:=DE i (by omega)
   rw[show cW b.fr.toNat b.ps (bG d b) i=bG d b from h1]
   exact cz i (by omega) (by omega)
 have nY:∀ j,k0+j<=b.ps.length->(∀ i,i<j->∀ h:k0+i<b.ps.length,fo b.fr.toNat (oT d b (k0+i)) b.ps[k0+i]=0)->
     (oT d b (k0+j)).ta.get b.fr.toNat=(bG d b).ta.get b.fr.toNat+j/\oE d b (k0+j)=0/\∀ h:k0+j<b.ps.length,ew b.fr.toNat (oT d b (k0+j)) b.ps[k0+j]=true:=by
  intro j
  have yN:∀ j,(oT d b (k0+j)).ta.get b.fr.toNat=(bG d b).ta.get b.fr.toNat+j->∀ h:k0+j<b.ps.length,ew b.fr.toNat (oT d b (k0+j)) b.ps[k0+j]=true:=by
   intro j ht h
   have h1:=kK (by omega)
   unfold ew at h1 |-
   rw[beq_iff_eq]at h1 |-
   rw[ht]
   have h2:=fx k0 (by omega)
   have h3:=fx (k0+j) h
   omega
  induction j with
  |zero=>
   intro _ _
   have h1:oT d b (k0+0)=bG d b:=DE k0 (Nat.le_refl _)
   refine⟨by rw[h1];simp,KU k0 (Nat.le_refl _),yN 0 (by rw[h1];simp)⟩
  |succ j ih=>
   intro hj hg
   obtain⟨h1,h2,h3⟩:=ih (by omega) (fun i hi h=>hg i (by omega) h)
   have ae:k0+j<b.ps.length:=by omega
   have h4:=AE b.fr.toNat b.ps (bG d b) ae (h3 ae)
   have h5:(oT d b (k0+(j+1))).ta.get b.fr.toNat=(bG d b).ta.get b.fr.toNat+((j+1:Nat):Int):=by
    have h6:oT d b (k0+(j+1))=_:=h4
    rw[h6]
    show ((oT d b (k0+j)).ta.set b.fr.toNat ((oT d b (k0+j)).ta.get b.fr.toNat+1)).get b.fr.toNat=_
    rw[((oT d b (k0+j)).ta.get_set (i:=b.fr.toNat) (j:=b.fr.toNat) _ hf).1,h1]
    omega
   exact⟨h5,zl ae h2 (hg j (by omega) ae),yN (j+1) h5⟩
 have fin:∀ m n er,k0+m<=b.ps.length->((er=0/\n=m/\k0+m=b.ps.length)\/(er≠0/\n=m+1/\k0+m<b.ps.length))->
     (∀ i,i<m->∀ h:k0+i<b.ps.length,fo b.fr.toNat (oT d b (k0+i)) b.ps[k0+i]=0)->(er≠0->∀ h:k0+m<b.ps.length,fo b.fr.toNat (oT d b (k0+m)) b.ps[k0+m]=er)->ln d b k0 m n er:=by
  intro m n er h1 h2 h3 h4
  refine⟨h1,h2,cz,DE,fun j hj h=>⟨(nY j (by omega) (fun i hi h=>h3 i (by omega) h)).2.2 h,h3 j hj h⟩,fun he h=>⟨(nY m h1 h3).2.2 h,h4 he h⟩,fun z hz=>?_⟩
  rcases Nat.lt_or_ge z k0 with h5 | h5
  ·exact KU z (by omega)
  ·have:=(nY (z-k0) (by omega) (fun i hi h=>h3 i (by omega) h)).2.1
   rwa [show k0+(z-k0)=z by omega]at this
 have go:∀ r j,k0+j+r=b.ps.length->(∀ i,i<j->∀ h:k0+i<b.ps.length,fo b.fr.toNat (oT d b (k0+i)) b.ps[k0+i]=0)->∃ m n er,ln d b k0 m n er:=by
  intro r
  induction r with
  |zero=>intro j hj hg;exact⟨j,j,0,fin j j 0 (by omega) (.inl ⟨rfl,rfl,by omega⟩) hg (fun h=>absurd rfl h)⟩
  |succ r ih=>
   intro j hj hg
   have ae:k0+j<b.ps.length:=by omega
   by_cases he:fo b.fr.toNat (oT d b (k0+j)) b.ps[k0+j]=0
   ·refine ih (j+1) (by omega) fun i hi h=>?_
    rcases Nat.lt_succ_iff_lt_or_eq.1 hi with h5 | h5
    ·exact hg i h5 h
    ·subst h5;exact he
   ·exact⟨j,j+1,_,fin j (j+1) _ (by omega) (.inr ⟨he,rfl,ae⟩) hg (fun _ _=>rfl)⟩
 obtain⟨m,n,er,h⟩:=go (b.ps.length-k0) 0 (by omega) (fun i hi=>by omega)
 exact⟨k0,m,n,er,h⟩
@[go_sem] theorem afo(b:Bag):(List.map D.v (aZ b)).getD 2 .any=.v (rowP b.ps):=rfl
set_option maxRecDepth 10000 in
set_option maxHeartbeats 8000000 in
theorem OK{sY:Spec}(hY:ak Tryz.prog yid sY){d:Dk}{b:Bag}{k0 m n:Nat}{er:Int}(hw:ln d b k0 m n er)(hf:b.fr.toNat<6)(bU:b.ps.length<=40)
 (VP:∀ z,z<=k0+m->0<=(oT d b z).ta.get b.fr.toNat/\(oT d b z).ta.get b.fr.toNat<=99999)
 {J:Nat->List O} (hJ:∀ s,(J s).length=(J 0).length) (hc:∀ s,∀ o∈J s,∀ dom:Name->Bool,(∀ i,dom [i,1]=true)->O.clos dom o=true)
 (hA:∀ s,aT (J s) [6,1]=some (.box ((aZ b).map .v))) (hB:∀ s,aT (J s) [7,1]=some (.box [.ref [4,1] (14+b.fr.toNat)]))
 {e:Nat->Dk} {q:Nat->Nat} (rr:∀ s,aT (J s) [4,1]=some (.box (bm (e s) [5,1] (q s)))) (he:∀ s,s<=m->(e s).now.ta.get b.fr.toNat=(oT d b (k0+s)).ta.get b.fr.toNat)
 (kg:∀ s,s<n->∀ obj tm,(∀ nm,cv nm=true->obj nm=aT (J s) nm)->sY.app obj tm [.yld [0,1],.agg [.v (vInt (b.ps.getD (k0+s) default).no),.v (vInt (b.ps.getD (k0+s) default).pa)]]=⟨True,.v (.bool (decide (s<m))),gL obj (J (s+1))⟩):
 ∃ c',Tryz.f102.body=some c'/\CL Tryz.prog [c'] (aO 27 [0] (aT (J 0)) [(0,⟨true,.yld [0,1]⟩),(1,⟨true,.ref [6,1] 0⟩),(2,⟨true,.ref [7,1] 0⟩)] [])
   (fun e σ=>(e=.normal\/e=.ret)/\∀ i,σ.obj [i,1]=aT (J n) [i,1]):=by
 refine⟨_,rfl,?_⟩
 have hP:=aU
 obtain⟨Γ,hΓ,ed⟩:∃ Γ:FuncId->Option Spec,(∀ f s,Γ f=some s->ak Tryz.prog f s)/\Γ 1000000000=some sY:=by
  refine⟨fun f=>if f=1000000000 then some sY else none,fun f s h=>?_,rfl⟩
  dsimp only at h
  split at h
  ·rename_i e;cases h;subst e;exact hY
  ·cases h
 have hO:∀ s hs,bS [0] (bK [0] hs) (aT (J s))=True:=fun s hs=>eq_true (uG (hc s) hs)
 have yC:∀ s,gL (aT (J s)) (J (s+1))=aT (J (s+1)):=fun s=>PA ((hJ _).trans (hJ s).symm)
 obtain⟨H,hH⟩:∃ H:Nat->Name->Option O,∀ s,aT (J s)=H s:=⟨_,fun _=>rfl⟩
 simp only[hH]at hO yC kg hA hB rr |-
 have hl:b.ps.length<=maxLen:=by unfold maxLen;omega
 have fy:n=m\/n=m+1:=by rcases hw.hn with h | h<;>omega
 repeat refine sq ?_
 refine rx hΓ [0,2,7,8,9] [] (fun K' hK=>by simp only[go_sem,hO,hA];(repeat (refine⟨ah,?_⟩));exact hK _ (by simp only[go_sem,hO,hA]) (by simp only[go_sem,hO,hA]<;>rfl)) ?_
 repeat refine sq ?_
 refine aN ?_
 repeat refine sq ?_
 refine EJ (fun z:Nat=>aO 27 [0] (H (z-k0)) [(0,⟨true,.yld [0,1]⟩),(2,⟨true,.ref [7,1] 0⟩),(7,⟨true,.v (.sl (b.ps.map encPa))⟩),(8,⟨true,.v (vInt b.ps.length)⟩),(9,⟨true,.v (vInt z)⟩)] [])
  (fun z=>z<=b.ps.length/\z<=k0+m) (fun z=>b.ps.length-z) 0 ⟨Nat.zero_le _,Nat.zero_le _⟩ (by rw[Nat.zero_sub];exact da.refl _) ?_
 rintro i ⟨hi,him⟩
 repeat refine sq ?_
 refine rx hΓ [0,2,7,8,9,10] [] (fun K' hK=>by simp only[go_sem,hO];(repeat (refine⟨ah,?_⟩));exact hK _ (by simp only[go_sem,hO]) (by simp only[go_sem,hO]<;>rfl)) ?_
 repeat refine sq ?_
 refine aw rfl rfl (fun hb=>?_) (fun hb=>?_)
 ·have ae:i<b.ps.length:=by simpa using hb
  have aj:(i:Int)<b.ps.length:=by omega
  have yv:IntKind.i64.wrap ((i:Int)+1)=((i+1:Nat):Int):=aE ae hl
  clear hb
  have We:i-k0<=m:=by omega
  have Cq:=he (i-k0) We
  have jF:=VP (k0+(i-k0)) (by omega)
  have w1:IntKind.i64.wrap ((e (i-k0)).now.ta.get b.fr.toNat+1)=(e (i-k0)).now.ta.get b.fr.toNat+1:=by rw[Cq];exact wrap_i64 (by omega) (by omega)
  repeat refine sq ?_
  refine ay ?_
  repeat refine sq ?_
  refine aN ?_
  repeat refine sq ?_
  refine rx hΓ [0,2,5,7,8,9] [[5,0]] (fun K' hK=>by simp only[go_sem,hO,aG ae,Int.toNat_natCast,Int.natCast_nonneg,aj];(repeat (refine⟨ah,?_⟩));exact hK _ (by simp only[go_sem,hO,aG ae,Int.toNat_natCast,Int.natCast_nonneg,aj]) (by simp only[go_sem,hO,aG ae,Int.toNat_natCast,Int.natCast_nonneg,aj]<;>rfl)) ?_
  by_cases VC:i<k0
  ·have hz:i-k0=0:=by omega
   have heq:(b.ps[i].no==(e (i-k0)).now.ta.get b.fr.toNat+1)=false:=by
    have h1:=hw.pre i ae VC
    rw[Cq,hz,Nat.add_zero,hw.T0 k0 (Nat.le_refl _)]
    exact h1
   have lL:i+1-k0=i-k0:=by omega
   repeat refine sq ?_
   refine dx hΓ hP [[],[0],[],[2],[2,3],[2,3,4],[0,1,2,3,4,5],[0,1,2,3,4,5,6],[0,1,2,3,4,5,6,7],[0,1,2,3,4,5,6,7],[0,1,2,3,4,5,6,7,8,9],[0,1,2,3,4,5,6,7,8,9,10],[0,1,2,3,4,5,6,7,8,9,10,11]] [0,2,7,8,9,25] [[5,0]] (by kernel_rfl) (fun K' hK=>by simp only[go_sem,hO,hB,rr,rM _ _ _ hf,w1,heq];(repeat (refine⟨ah,?_⟩));(first | refine⟨by rfl,?_⟩ | skip);exact hK _ (by simp only[go_sem,hO,hB,rr,rM _ _ _ hf,w1,heq]) (by simp only[go_sem,hO,hB,rr,rM _ _ _ hf,w1,heq]<;>rfl)) ?_
   repeat refine sq ?_
   refine aw rfl rfl (fun hb=>?_) (fun hb=>?_)
   ·cases hb
   repeat refine sq ?_
   refine ay ?_
   refine dq ?_
   simp only[go_sem]
   refine jT [0,2,7,8,9] [] ?_ ?_
   ·simp only[go_sem,hO]
   simp only[go_sem,hO]
   repeat refine sq ?_
   refine aS hΓ fun K' hK=>?_
   simp only[go_sem]
   repeat (refine⟨ah,?_⟩)
   refine hK _ ?_
   clear K' hK
   simp only[go_sem]
   refine⟨i+1,⟨ae,by omega⟩,by omega,?_⟩
   rw[lL]
   refine bk [0,2,7,8,9] [] ?_ ?_
   ·simp only[go_sem,hO,yv]
   ·simp only[go_sem,hO,yv]
  ·have lR:k0+(i-k0)=i:=by omega
   have iU:i-k0<n:=by
    rcases hw.hn with⟨_,h1,h2⟩ | ⟨_,h1,h2⟩<;>omega
   have yN:ew b.fr.toNat (oT d b i) b.ps[i]=true:=by
    rcases Nat.lt_or_ge (i-k0) m with h1 | h1
    ·have h2:=(hw.good (i-k0) h1 (by omega)).1
     simp only[lR]at h2
     exact h2
    ·have h3:i=k0+m:=by omega
     rcases hw.hn with⟨_,h4,h5⟩ | ⟨h4,h5,h6⟩
     ·omega
     ·have h2:=(hw.bad h4 (by omega)).1
      simp only[<-h3]at h2
      exact h2
   have heq:(b.ps[i].no==(e (i-k0)).now.ta.get b.fr.toNat+1)=true:=by
    rw[Cq,lR]
    exact yN
   have KL:=kg (i-k0) iU
   rw[lR,getD_at ae]at KL
   have Dy:=fun (F:Name->Option O) (tm:Name)=>KL (fun nm=>if own [0] nm=true then F nm else H (i-k0) nm) tm fun nm hn=>by
    obtain⟨k,rfl⟩:=sH.1 hn
    simp[uE]
   have Cy:∀ (obj:Name->Option O) (L:List O),gL obj L [5,0]=obj [5,0]:=fun _ _=>rfl
   repeat refine sq ?_
   refine dx hΓ hP [[],[0],[],[2],[2,3],[2,3,4],[0,1,2,3,4,5],[0,1,2,3,4,5,6],[0,1,2,3,4,5,6,7],[0,1,2,3,4,5,6,7],[0,1,2,3,4,5,6,7,8,9],[0,1,2,3,4,5,6,7,8,9,10],[0,1,2,3,4,5,6,7,8,9,10,11]] [0,2,7,8,9,25] [[5,0]] (by kernel_rfl) (fun K' hK=>by simp only[go_sem,hO,hB,rr,rM _ _ _ hf,w1,heq,ed,Dy,Cy,BB,Fj,yC];(repeat (refine⟨ah,?_⟩));(first | refine⟨by rfl,?_⟩ | skip);exact hK _ (by simp only[go_sem,hO,hB,rr,rM _ _ _ hf,w1,heq,ed,Dy,Cy,BB,Fj,yC]) (by simp only[go_sem,hO,hB,rr,rM _ _ _ hf,w1,heq,ed,Dy,Cy,BB,Fj,yC]<;>rfl)) ?_
   repeat refine sq ?_
   refine aw rfl rfl (fun hb=>?_) (fun hb=>?_)
   ·have h1:¬ i-k0<m:=by simpa using hb
    have h2:i-k0+1=n:=by omega
    refine ar ?_
    simp only[go_sem]
    rw[h2]
    exact⟨.inr trivial,fun k=>by simp[uE]⟩
   have h1:i-k0<m:=by simpa using hb
   have h2:i+1-k0=i-k0+1:=by omega
   repeat refine sq ?_
   refine ay ?_
   refine dq ?_
   simp only[go_sem]
   refine jT [0,2,7,8,9] [] ?_ ?_
   ·simp only[go_sem,hO]
   simp only[go_sem,hO]
   repeat refine sq ?_
   refine aS hΓ fun K' hK=>?_
   simp only[go_sem]
   repeat (refine⟨ah,?_⟩)
   refine hK _ ?_
   clear K' hK
   simp only[go_sem]
   refine⟨i+1,⟨ae,by omega⟩,by omega,?_⟩
   rw[h2]
   refine bk [0,2,7,8,9] [] ?_ ?_
   ·simp only[go_sem,hO,yv]
   ·simp only[go_sem,hO,yv]
 ·have aX:i=b.ps.length:=by
    have :¬ (i:Int)<b.ps.length:=by simpa using hb
    omega
  have aq:i-k0=n:=by
   rcases hw.hn with⟨_,h1,h2⟩ | ⟨_,h1,h2⟩<;>omega
  clear hb
  repeat refine sq ?_
  refine b7 ?_
  simp only[go_sem]
  rw[aq]
  exact⟨.inl rfl,fun k=>by rw[HN];simp[uE]⟩
set_option maxRecDepth 10000
def qf:Code->Option (Array Tmp×Code×Code)
 | .seq a b=>match qf a with | some x=>some x | none=>qf b
 | .block _ b=>qf b
 | .loop b=>qf b
 | .cond _ a b=>match qf a with | some x=>some x | none=>qf b
 | .rangeFunc _ ps a b=>some (ps,a,b)
 |_=>none
def xo(fn:Func):Array Tmp×Code×Code:=((fn.body.bind qf).getD (#[],.skip,.skip))
theorem oY{Ls:List Name}(h:Ls.length=7):∃ a b c d e f g,Ls=[a,b,c,d,e,f,g]:=by
 match Ls,h with
 |[a,b,c,d,e,f,g],_=>exact⟨a,b,c,d,e,f,g,rfl⟩
def qi(p:Par):D:=.agg [.v (vInt p.no),.v (vInt p.pa)]
def dj(d:Dk)(b:Bag)(k0 m s:Nat):Stk:=oT d b (k0+min s m)
def fG(d:Dk)(b:Bag)(k0 m s:Nat):List Int:=if s<=m then(oT d b (k0+min s m)).ho else iN (oT d b (k0+m)).ho (b.ps.getD (k0+m) default).pa
def iy(m:Nat)(er:Int)(s:Nat):Int:=if s<=m then 0 else er
noncomputable def dd(d:Dk)(b:Bag)(k0 m n:Nat)(er:Int):Lp where
 m:=7
 env:=fun Ls=>(List.range 106).map (c7 eAny [(3,⟨true,.v (.ptr (aZ b))⟩),(4,⟨true,.ref (Ls.getD 0 []) 0⟩),(5,⟨true,.ref (Ls.getD 1 []) 0⟩),(7,⟨true,.ref (Ls.getD 2 []) 0⟩),(58,⟨true,.clo (.func 102) [] [.ref (Ls.getD 5 []) 0,.ref (Ls.getD 6 []) 0]⟩)])
 fam:=fun Ls s=>[.box ((al zD).map .v),.box [.v (vInt (iy m er s))],.box [.ref (Ls.getD 3 []) 0],.box (bm (d.setN (dj d b k0 m s)) (Ls.getD 4 []) (dj d b k0 m s).ho.length),.arr 1 ((fG d b k0 m s).map vInt),.box ((aZ b).map .v),.box [.ref (Ls.getD 3 []) (14+b.fr.toNat)]]
 ps:=(xo Tryz.f16).1.toList
 asg:=(xo Tryz.f16).2.1
 body:=(xo Tryz.f16).2.2
 n:=n
 vals:=fun s=>[qi (b.ps.getD (k0+s) default)]
 st:=fun j=>if j<m then none else some .ret
 fu:=200
theorem Bk{d:Dk}{b:Bag}{k0 m n:Nat}{er:Int}(hw:ln d b k0 m n er):k0+n<=b.ps.length/\n<=m+1/\m<=n:=by
 rcases hw.hn with⟨_,h1,h2⟩ | ⟨_,h1,h2⟩<;>omega
theorem Bl{d:Dk}{b:Bag}{k0 m n:Nat}{er:Int}(hw:ln d b k0 m n er)(hb:fM b=true):(dd d b k0 m n er).Ok where
 len:=fun Ls s _=>rfl
 renE:=fun f Ls h=>by obtain⟨a,b,c,d,e,f,g,rfl⟩:=oY h;rfl
 renF:=fun f Ls s h=>by
  obtain⟨x1,x2,x3,x4,x5,x6,x7,rfl⟩:=oY h
  simp only[dd,List.map_cons,List.map_nil,O.ren,sg,MM,List.getD_cons_zero,List.getD_cons_succ,D.renL,D.ren]
 reach:=fun Ls s obj acc q h ka hd hF=>by
  obtain⟨a,c,e,f,g,x,y,rfl⟩:=oY h
  obtain⟨h1,h2,h3,h4,h5,h6,h7,_⟩:=hF
  simp only[List.getD_cons_zero,List.getD_cons_succ]at h1 h2 h3 h4 h5 h6 h7
  have en:cE (((dd d b k0 m n er).env [a,c,e,f,g,x,y]).map (·.d))=[a,c,e,x,y]:=rfl
  rw[en]
  show dm obj (q+190+1+1+1+1+1+1+1+1+1+1) _ acc=_
  simp only[List.mem_cons,List.not_mem_nil,or_false,forall_eq_or_imp,forall_eq]at hd
  obtain⟨d1,d2,d3,d4,d5,d6,d7⟩:=hd
  simp only[List.nodup_cons,List.mem_cons,List.not_mem_nil,or_false,not_or,not_false_eq_true,List.nodup_nil,and_true]at ka
  obtain⟨⟨a1,a2,a3,a4,a5,a6⟩,⟨b1,b2,b3,b4,b5⟩,⟨c1,c2,c3,c4⟩,⟨e1,e2,e3⟩,⟨f1,f2⟩,g1⟩:=ka
  simp[dm,fW,h1,h2,h3,h4,h5,h6,h7,lH,cE,qt,xP,xQ,d1,d2,d3,d4,d5,d6,d7,Ne.symm a1,Ne.symm a2,Ne.symm a3,Ne.symm a4,Ne.symm a5,Ne.symm a6,Ne.symm b1,Ne.symm b2,Ne.symm b3,Ne.symm b4,Ne.symm b5,Ne.symm c1,Ne.symm c2,Ne.symm c3,Ne.symm c4,Ne.symm e1,Ne.symm e2,Ne.symm e3,Ne.symm f1,Ne.symm f2,Ne.symm g1]
 closE:=fun dom Ls h hd=>by
  obtain⟨a,c,e,f,g,x,y,rfl⟩:=oY h
  have h1:=hd a (by simp)
  have h2:=hd c (by simp)
  have h3:=hd e (by simp)
  have h4:=hd x (by simp)
  have h5:=hd y (by simp)
  simp[dd,List.range,List.range.loop,c7,D.closL,D.clos,eAny,h1,h2,h3,h4,h5]
 closF:=fun dom Ls s h hd o ho=>by
  obtain⟨a,c,e,f,g,x,y,rfl⟩:=oY h
  have h1:=hd f (by simp)
  have h2:=hd g (by simp)
  simp only[dd,List.mem_cons,List.not_mem_nil,or_false,List.getD_cons_zero,List.getD_cons_succ]at ho
  rcases ho with rfl | rfl | rfl | rfl | rfl | rfl | rfl<;>simp[O.clos,D.closL,D.clos,pO,wz,h1,h2]
 psz:=fun Ls h=>by rfl
 args:=fun s=>by rfl
 fuel:=(show (200:Nat)<=2000 by decide)
 vnam:=fun _=>rfl
 vcl:=fun _ _=>rfl
 vren:=fun _ _=>rfl
 inj:=fun s s' hs iX h=>by
  have CJ:cR b.ps=true:=by unfold fM at hb;simp only[Bool.and_eq_true]at hb;exact hb.1.2
  have fx:=G8 CJ
  have h0:=(Bk hw).1
  have l1:k0+s<b.ps.length:=Nat.lt_of_lt_of_le (Nat.add_lt_add_left hs k0) h0
  have l2:k0+s'<b.ps.length:=Nat.lt_of_lt_of_le (Nat.add_lt_add_left iX k0) h0
  have e1:(b.ps.getD (k0+s) default).no=(b.ps.getD (k0+s') default).no:=by
   have :=(List.cons.inj h).1
   simp only[qi,D.agg.injEq,List.cons.injEq,D.v.injEq,vInt,V.int.injEq,true_and,and_true]at this
   exact this.1
  rw[getD_at l1,getD_at l2,fx _ l1,fx _ l2]at e1
  omega
set_option maxRecDepth 20000
theorem As{p:Name}{H:Name->Option O}{x y:Name}{o q:Option O}(hx:own p x=true)(nm:Name)(hn:own p nm=false):upd (upd H x o) y q nm=upd H y q nm:=by
 by_cases e:nm=y
 ·subst e;rw[aD,aD]
 ·rw[aI _ _ _ e,aI _ _ _ e,aI _ _ _ (fun e2=>by rw[e2,hx]at hn;cases hn)]
@[go_sem] theorem adT{n:Nat}{p:Name}{H:Name->Option O}{x y:Name}{o q:Option O}{l:List (Nat×E)}{h:List (Name×O)}(hx:own p x=true):aO n p (upd (upd H x o) y q) l h=aO n p (upd H y q) l h:=
  uQ fun nm hn=>As hx nm hn
@[go_sem] theorem afz{p:Name}{dom:Name->Bool}{H:Name->Option O}{x y:Name}{o q:Option O}(hx:own p x=true):bS p dom (upd (upd H x o) y q)=bS p dom (upd H y q):=
  propext ⟨fun k nm z hn h=>k nm z hn (by rw[As hx nm hn];exact h),fun k nm z hn h=>k nm z hn (by rw[<-As (o:=o) hx nm hn];exact h)⟩
theorem Nt{H:Name->Option O}(hO:∀ hs,bS [0] (bK [0] hs) H=True)(hs:List (Name×O))(sz:Nat)(L:List V):bS [0] (bK [0] hs) (upd H [4,1] (some (.arr sz L)))=True:=eq_true (wP rfl (of_eq_true (hO hs)))
theorem Z5{H:Name->Option O}(hO:∀ hs,bS [0] (bK [0] hs) H=True)(hs:List (Name×O))(e:Dk)(n:Nat):bS [0] (bK [0] hs) (upd H [3,1] (some (.box (bm e [4,1] n))))=True:=
 eq_true (wP (by simp only[O.clos,wz];simp[bK,own]) (of_eq_true (hO hs)))
theorem Mx{P:Program}{Γ:FuncId->Option Spec}(hΓ:∀ f s,Γ f=some s->ak P f s){id:Nat}{l:List Oper}{c:Code}{r:List Code}{σ:Eng.S}{K:Exit->Eng.S->Prop}
 (h:∀ K':Eng.S->Prop,(∀ σ',CL P (c::r) σ' K->K' σ')->mu P Γ l.toArray l σ K'):CL P (.region id l.toArray false::c::r) σ K:=
 wk hΓ h
theorem afc(d:Dk)(S:Stk)(l:List Int)(x:Int)(f n:Nat):bm ((d.setN S).setN ⟨(d.setN S).now.ho,(d.setN S).now.un,(d.setN S).now.se,(d.setN S).now.ta.set f x⟩) [4,1] n=bm (d.setN ⟨l,S.un,S.se,S.ta.set f x⟩) [4,1] n:=rfl
noncomputable def Ny:List (Nat×Spec):=[(67,S67)]
attribute [go_sem] Ny
theorem aad:∀ f s,tbl Ny f=some s->ak Tryz.prog f s:=tc UF<|tn
set_option maxHeartbeats 8000000 in
theorem R0{d:Dk}{b:Bag}{k0 m n:Nat}{er:Int}(hw:ln d b k0 m n er)(hb:fM b=true)(hI:∀ z,z<=k0+m->nu b.fr.toNat (oT d b z)):ak Tryz.prog yid (dd d b k0 m n er).y.toSpec:=by
 refine Lp.y_sound (Bl hw hb) fun s hs _=>?_
 have hΓ:=aad
 have hP:=aU
 obtain⟨iw,kb,hf,bU,vl,Cs,Cr⟩:=tJ hb
 have iX:s<n:=hs
 obtain⟨n1,n2,n3⟩:=Bk hw
 have jG:s<=m:=by omega
 have hlen:k0+s<b.ps.length:=by omega
 obtain⟨S,hS⟩:∃ S,S=oT d b (k0+s):=⟨_,rfl⟩
 obtain⟨P,n7⟩:∃ P,P=b.ps[k0+s]:=⟨_,rfl⟩
 have n9:nu b.fr.toNat S:=by rw[hS];exact hI _ (by omega)
 have vj:=n9.ri;have XQ:=n9.len;have fY:=n9.t0;have JV:=n9.t1
 have KX:S.ho.length<=1000:=by omega
 have w1:IntKind.i64.wrap (S.ta.get b.fr.toNat+1)=S.ta.get b.fr.toNat+1:=wrap_i64 (by omega) (by omega)
 have pj:dj d b k0 m s=S:=by rw[hS];unfold dj;rw[Nat.min_eq_left jG]
 have Km:fG d b k0 m s=S.ho:=by rw[hS];unfold fG;rw[if_pos jG,Nat.min_eq_left jG]
 have Kt:iy m er s=0:=if_pos jG
 have lO:(dd d b k0 m n er).vals s=[qi P]:=by
  show [qi (b.ps.getD (k0+s) default)]=_
  rw[getD_at hlen,n7]
 have WI:bR S.ho P.pa=true->(dd d b k0 m n er).st s=some .ret/\dj d b k0 m (s+1)=S/\fG d b k0 m (s+1)=S.ho/\iy m er (s+1)=96:=fun hh=>by
  have gR:s=m:=by
   rcases Nat.lt_or_ge s m with h1 | h1
   ·have h2:=(hw.good s h1 hlen)
    rw[<-hS,<-n7]at h2
    rw[Bo _ _ _ h2.1 hh]at h2
    exact absurd h2.2 (by decide)
   ·omega
  subst gR
  have aq:er≠0:=by rcases hw.hn with⟨_,h1,_⟩ | ⟨h1,_,_⟩<;>first | exact h1 | omega
  have h2:=hw.bad aq hlen
  rw[<-hS,<-n7]at h2
  rw[Bo _ _ _ h2.1 hh]at h2
  refine⟨if_neg (Nat.lt_irrefl _),?_,?_,?_⟩
  ·rw[hS];unfold dj;rw[Nat.min_eq_right (Nat.le_succ _)]
  ·unfold fG;rw[if_neg (by omega),getD_at hlen,<-hS,<-n7,A8 hh]
  ·unfold iy;rw[if_neg (by omega)];exact h2.2.symm
 have WH:bR S.ho P.pa=false->40<(cY S.ho P.pa).length->(dd d b k0 m n er).st s=some .ret/\dj d b k0 m (s+1)=S/\fG d b k0 m (s+1)=cY S.ho P.pa/\iy m er (s+1)=2:=fun hh hl=>by
  have gR:s=m:=by
   rcases Nat.lt_or_ge s m with h1 | h1
   ·have h2:=(hw.good s h1 hlen)
    rw[<-hS,<-n7]at h2
    rw[Bn _ _ _ h2.1 hh hl]at h2
    exact absurd h2.2 (by decide)
   ·omega
  subst gR
  have aq:er≠0:=by rcases hw.hn with⟨_,h1,_⟩ | ⟨h1,_,_⟩<;>first | exact h1 | omega
  have h2:=hw.bad aq hlen
  rw[<-hS,<-n7]at h2
  rw[Bn _ _ _ h2.1 hh hl]at h2
  refine⟨if_neg (Nat.lt_irrefl _),?_,?_,?_⟩
  ·rw[hS];unfold dj;rw[Nat.min_eq_right (Nat.le_succ _)]
  ·unfold fG;rw[if_neg (by omega),getD_at hlen,<-hS,<-n7,A9 hh]
  ·unfold iy;rw[if_neg (by omega)];exact h2.2.symm
 have WG:bR S.ho P.pa=false->¬ 40<(cY S.ho P.pa).length->(dd d b k0 m n er).st s=none/\dj d b k0 m (s+1)=⟨cY S.ho P.pa,S.un,S.se,S.ta.set b.fr.toNat (S.ta.get b.fr.toNat+1)⟩/\fG d b k0 m (s+1)=cY S.ho P.pa/\iy m er (s+1)=0:=fun hh hl=>by
  have gR:s<m:=by
   rcases Nat.lt_or_ge s m with h1 | h1
   ·exact h1
   ·have gR:s=m:=by omega
    subst gR
    have aq:er≠0:=by rcases hw.hn with⟨_,h1,_⟩ | ⟨h1,_,_⟩<;>first | exact h1 | omega
    have h2:=hw.bad aq hlen
    rw[<-hS,<-n7]at h2
    rw[Hn _ _ _ h2.1 hh hl]at h2
    exact absurd h2.2.symm aq
  have h2:=(hw.good s gR hlen).1
  have h3:=AE b.fr.toNat b.ps (bG d b) hlen h2
  have h4:oT d b (k0+(s+1))=⟨cY S.ho P.pa,S.un,S.se,S.ta.set b.fr.toNat (S.ta.get b.fr.toNat+1)⟩:=by
   rw[hS,n7];exact h3
  have h5:dj d b k0 m (s+1)=oT d b (k0+(s+1)):=by unfold dj;rw[Nat.min_eq_left gR]
  refine⟨if_pos gR,h5.trans h4,?_,if_pos gR⟩
  unfold fG;rw[if_pos (show s+1<=m from gR),Nat.min_eq_left (show s+1<=m from gR),h4]
 have iw:(dd d b k0 m n er).fam (LR 7) s=[.box ((al zD).map .v),.box [.v (vInt 0)],.box [.ref [3,1] 0],.box (bm (d.setN S) [4,1] S.ho.length),.arr 1 (S.ho.map vInt),.box ((aZ b).map .v),.box [.ref [3,1] (14+b.fr.toNat)]]:=by
  show [O.box ((al zD).map .v),.box [.v (vInt (iy m er s))],.box [.ref [3,1] 0],.box (bm (d.setN (dj d b k0 m s)) [4,1] (dj d b k0 m s).ho.length),.arr 1 ((fG d b k0 m s).map vInt),.box ((aZ b).map .v),.box [.ref [3,1] (14+b.fr.toNat)]]=_
  rw[pj,Km,Kt]
 have gV:(dd d b k0 m n er).fam (LR 7) (s+1)=[.box ((al zD).map .v),.box [.v (vInt (iy m er (s+1)))],.box [.ref [3,1] 0],.box (bm (d.setN (dj d b k0 m (s+1))) [4,1] (dj d b k0 m (s+1)).ho.length),.arr 1 ((fG d b k0 m (s+1)).map vInt),.box ((aZ b).map .v),.box [.ref [3,1] (14+b.fr.toNat)]]:=rfl
 have Wg:(dd d b k0 m n er).m=7:=rfl
 rw[Wg,iw,gV,lO]
 clear gV pj Km Kt
 generalize dj d b k0 m (s+1)=S1 at *
 generalize fG d b k0 m (s+1)=L1 at *
 generalize iy m er (s+1)=E1 at *
 generalize hx:(dd d b k0 m n er).st s=X1 at *
 generalize nS:[O.box ((al zD).map .v),.box [.v (vInt 0)],.box [.ref [3,1] 0],.box (bm (d.setN S) [4,1] S.ho.length),.arr 1 (S.ho.map vInt),.box ((aZ b).map .v),.box [.ref [3,1] (14+b.fr.toNat)]]=os
 have hO:∀ hs,bS [0] (bK [0] hs) (aT os)=True:=by
  subst nS
  refine fun hs=>eq_true (uG ?_ hs)
  intro o ho dom hd
  simp only[List.mem_cons,List.not_mem_nil,or_false]at ho
  rcases ho with rfl | rfl | rfl | rfl | rfl | rfl | rfl<;>simp[O.clos,D.closL,D.clos,pO,wz,hd]
 have h0:aT os [0,1]=some (.box ((al zD).map .v)):=by subst nS;rfl
 have h1:aT os [1,1]=some (.box [.v (vInt 0)]):=by subst nS;rfl
 have h2:aT os [2,1]=some (.box [.ref [3,1] 0]):=by subst nS;rfl
 have h3:aT os [3,1]=some (.box (bm (d.setN S) [4,1] S.ho.length)):=by subst nS;rfl
 have h4:aT os [4,1]=some (.arr 1 (S.ho.map vInt)):=by subst nS;rfl
 have h5:aT os [5,1]=some (.box ((aZ b).map .v)):=by subst nS;rfl
 have h6:aT os [6,1]=some (.box [.ref [3,1] (14+b.fr.toNat)]):=by subst nS;rfl
 generalize hH:aT os=H at *
 clear nS hH iw
 have fI:=Nt hO
 have fe:True:=trivial
 have VV:xo Tryz.f16=(_,_,_):=rfl
 refine tF (Ow 106 [0] H [(3,⟨true,.v (.ptr (aZ b))⟩),(4,⟨true,.ref [0,1] 0⟩),(5,⟨true,.ref [1,1] 0⟩),(7,⟨true,.ref [2,1] 0⟩),(59,⟨true,qi P⟩)] [] rfl rfl (fun _ _=>rfl) ?_ (by simp) ?_ ?_) ?_
 ·intro q hq
  simp only[List.mem_cons,List.not_mem_nil,or_false]at hq
  rcases hq with rfl | rfl | rfl | rfl | rfl<;>rfl
 ·simp[D.clos,D.closL,bK,own,qi]
 ·rw[hO];trivial
 simp only[dd,VV,qi]
 refine hU ?_
 repeat refine sq ?_
 refine aS hΓ fun K' hK=>?_
 simp only[go_sem,hO,h0,h1,h2,h3,h4]
 repeat (refine⟨ah,?_⟩)
 refine hK _ ?_
 clear K' hK
 try simp only[go_sem]
 (show CW _ _ _ _)
 refine hU ?_
 repeat refine sq ?_
 refine aN ?_
 repeat refine sq ?_
 refine dx hΓ hP [[],[0],[0,1],[0,1,2],[0,1,2,3],[0,1,2,3,4],[],[6],[0,1,2,3,4,5,6,7],[0,1,2,3,4,5,6,7,8],[0,1,2,3,4,5,6,7,8,9],[0,1,2,3,4,5,6,7,8,9],[0,1,2,3,4,5,6,7,8,9,10],[0,1,2,3,4,5,6,7,8,9,10,11,12]] [3,4,5,7,9,10] [[3,0],[4,0],[5,0],[7,0]] (by kernel_rfl) (fun K' hK=>by simp only[go_sem,hO,fI,fe,h0,h1,h2,h3,h4];(repeat (refine⟨ah,?_⟩));(first | refine⟨by rfl,?_⟩ | skip);exact hK _ (by simp only[go_sem,hO,fI,fe,h0,h1,h2,h3,h4]) (by simp only[go_sem,hO,fI,fe,h0,h1,h2,h3,h4]<;>rfl)) ?_
 obtain⟨H2,jO⟩:∃ H2,upd H [4,1] (some (O.arr 1 (List.map vInt (iN S.ho P.pa))))=H2:=⟨_,rfl⟩
 rw[jO]
 replace hO:=Nt hO
 replace hO:∀ hs,bS [0] (bK [0] hs) H2=True:=fun hs=>by rw[<-jO];exact hO _ _ _
 replace fI:True:=trivial
 have fe:=Z5 hO
 replace h0:=(show H2 [0,1]=H [0,1]by rw[<-jO,aI _ _ _ (by decide)]).trans h0
 replace h1:=(show H2 [1,1]=H [1,1]by rw[<-jO,aI _ _ _ (by decide)]).trans h1
 replace h2:=(show H2 [2,1]=H [2,1]by rw[<-jO,aI _ _ _ (by decide)]).trans h2
 replace h3:=(show H2 [3,1]=H [3,1]by rw[<-jO,aI _ _ _ (by decide)]).trans h3
 replace h4:H2 [4,1]=some (O.arr 1 (List.map vInt (iN S.ho P.pa))):=by rw[<-jO,aD]
 replace h5:=(show H2 [5,1]=H [5,1]by rw[<-jO,aI _ _ _ (by decide)]).trans h5
 replace h6:=(show H2 [6,1]=H [6,1]by rw[<-jO,aI _ _ _ (by decide)]).trans h6
 clear jO
 repeat refine sq ?_
 refine aN ?_
 repeat refine sq ?_
 refine rx hΓ [3,4,5,7,9,72] [[3,0],[4,0],[5,0],[7,0]] (fun K' hK=>by simp only[go_sem,hO,fI,fe,h0,h1,h2,h3,h4];(repeat (refine⟨ah,?_⟩));exact hK _ (by simp only[go_sem,hO,fI,fe,h0,h1,h2,h3,h4]) (by simp only[go_sem,hO,fI,fe,h0,h1,h2,h3,h4]<;>rfl)) ?_
 repeat refine sq ?_
 refine aw rfl rfl (fun hb=>?_) (fun hb=>?_)
 ·repeat refine sq ?_
  have hh:bR S.ho P.pa=true:=by simpa using hb
  obtain⟨g1,g2,g3,g4⟩:=WI hh
  refine Mx hΓ fun K' hK=>?_
  simp only[go_sem,hO,fI,fe,h0,h1,h2,h3,h4]
  repeat (refine⟨ah,?_⟩)
  refine hK _ ?_
  clear K' hK
  refine aF (Ar [0,1] _ (al zD) rfl rfl) ?_
  refine ar ?_
  simp only[go_sem,hO,fI,fe,h0,h1,h2,h3,h4]
  rw[g1,g2,g3,g4]
  refine⟨rfl,?_⟩
  rw[A8 hh]at h4
  show cS _ [[0,1],[1,1],[2,1],[3,1],[4,1],[5,1],[6,1]] _
  simp only[cS,go_sem,h0,h1,h2,h3,h4,h5,h6]
  try trivial
 ·repeat refine sq ?_
  have hh:bR S.ho P.pa=false:=by simpa using hb
  have qP:=A9 hh
  repeat refine sq ?_
  refine rx hΓ [3,4,5,7,9,76] [[3,0],[4,0],[5,0],[7,0]] (fun K' hK=>by simp only[go_sem,hO,fI,fe,h0,h1,h2,h3,h4,List.length_map];(repeat (refine⟨ah,?_⟩));exact hK _ (by simp only[go_sem,hO,fI,fe,h0,h1,h2,h3,h4,List.length_map]) (by simp only[go_sem,hO,fI,fe,h0,h1,h2,h3,h4,List.length_map]<;>rfl)) ?_
  repeat refine sq ?_
  refine aw rfl rfl (fun hb=>?_) (fun hb=>?_)
  ·repeat refine sq ?_
   have hl:40<(cY S.ho P.pa).length:=by have h9:=of_decide_eq_true hb;rw[qP]at h9;omega
   obtain⟨g1,g2,g3,g4⟩:=WH hh hl
   refine Mx hΓ fun K' hK=>?_
   simp only[go_sem,hO,fI,fe,h0,h1,h2,h3,h4]
   repeat (refine⟨ah,?_⟩)
   refine hK _ ?_
   clear K' hK
   refine aF (Ar [0,1] _ (al zD) rfl rfl) ?_
   refine ar ?_
   simp only[go_sem,hO,fI,fe,h0,h1,h2,h3,h4]
   rw[g1,g2,g3,g4]
   refine⟨rfl,?_⟩
   rw[qP]at h4
   show cS _ [[0,1],[1,1],[2,1],[3,1],[4,1],[5,1],[6,1]] _
   simp only[cS,go_sem,h0,h1,h2,h3,h4,h5,h6]
   try trivial
  ·repeat refine sq ?_
   have hl:¬ 40<(cY S.ho P.pa).length:=by have h9:=of_decide_eq_false hb;rw[qP]at h9;omega
   obtain⟨g1,g2,g3,g4⟩:=WG hh hl
   refine ay ?_
   refine dq ?_
   simp only[go_sem]
   refine jT [3,4,5,7,9] [[3,0],[4,0],[5,0],[7,0]] ?_ ?_
   ·simp only[go_sem,hO,fI,fe,h0,h1,h2,h3,h4]
   simp only[go_sem,hO,fI,fe,h0,h1,h2,h3,h4]
   repeat refine sq ?_
   refine rx hΓ [3,4,5,7] [[3,0],[4,0],[5,0],[7,0]] (fun K' hK=>by simp only[go_sem,hO,fI,fe,h0,h1,h2,h3,h4];(repeat (refine⟨ah,?_⟩));exact hK _ (by simp only[go_sem,hO,fI,fe,h0,h1,h2,h3,h4]) (by simp only[go_sem,hO,fI,fe,h0,h1,h2,h3,h4]<;>rfl)) ?_
   obtain⟨H3,jN⟩:∃ H3,upd H2 [3,1] (some (O.box (bm (d.setN S) [4,1] (iN S.ho P.pa).length)))=H3:=⟨_,rfl⟩
   rw[jN]
   replace hO:∀ hs,bS [0] (bK [0] hs) H3=True:=fun hs=>by rw[<-jN];exact fe _ _ _
   replace fe:True:=trivial
   replace h0:=(show H3 [0,1]=H2 [0,1]by rw[<-jN,aI _ _ _ (by decide)]).trans h0
   replace h1:=(show H3 [1,1]=H2 [1,1]by rw[<-jN,aI _ _ _ (by decide)]).trans h1
   replace h2:=(show H3 [2,1]=H2 [2,1]by rw[<-jN,aI _ _ _ (by decide)]).trans h2
   replace h3:H3 [3,1]=some (O.box (bm (d.setN S) [4,1] (iN S.ho P.pa).length)):=by rw[<-jN,aD]
   replace h4:=(show H3 [4,1]=H2 [4,1]by rw[<-jN,aI _ _ _ (by decide)]).trans h4
   replace h5:=(show H3 [5,1]=H2 [5,1]by rw[<-jN,aI _ _ _ (by decide)]).trans h5
   replace h6:=(show H3 [6,1]=H2 [6,1]by rw[<-jN,aI _ _ _ (by decide)]).trans h6
   clear jN
   repeat refine sq ?_
   refine tI hΓ hP [[],[],[1],[0],[0,3],[0,3,4],[0,3,4,5],[0,1,2,3,4,5,6],[0,1,2,3,4,5,6,7],[0,1,2,3,4,5,6,7,8],[0],[0,10],[0,10,11],[0,10,11,12],[0,1,2,3,4,5,6,7,8,9,10,11,12,13],[0,1,2,3,4,5,6,7,8,9,10,11,12,13,14]] (by kernel_rfl) fun K' hK=>?_
   simp only[go_sem,hO,fI,fe,h0,h1,h2,h3,h4,rM _ _ _ hf,Zh _ _ _ _ hf,w1,iw,kb]
   repeat (refine⟨ah,?_⟩)
   first | refine⟨by rfl,?_⟩ | skip
   refine hK _ ?_
   clear K' hK
   try simp only[go_sem]
   refine dq ?_
   rw[g1,g2,g3,g4]
   refine⟨rfl,?_⟩
   rw[qP]at h4 |-
   show cS _ [[0,1],[1,1],[2,1],[3,1],[4,1],[5,1],[6,1]] _
   simp only[cS,go_sem,h0,h1,h2,h3,h4,h5,h6]
   try trivial
def xE(Ls:List Name):List D:=[.ref (Ls.getD 5 []) 0,.ref (Ls.getD 6 []) 0]
theorem R9(d:Dk)(b:Bag)(k0 m n:Nat)(er:Int):Fm (dd d b k0 m n er) xE where
 ren:=fun f Ls h=>by obtain⟨x1,x2,x3,x4,x5,x6,x7,rfl⟩:=oY h;rfl
 clo:=fun dom Ls h hd=>by
  obtain⟨a,c,e,f,g,x,y,rfl⟩:=oY h
  have h4:=hd x (by simp)
  have h5:=hd y (by simp)
  simp[xE,D.closL,D.clos,h4,h5]
 reach:=fun Ls s obj R k h ka hF hR=>by
  obtain⟨a,c,e,f,g,x,y,rfl⟩:=oY h
  obtain⟨h1,h2,h3,h4,h5,h6,h7,_⟩:=hF
  simp only[List.getD_cons_zero,List.getD_cons_succ]at h1 h2 h3 h4 h5 h6 h7
  have en:cE (((dd d b k0 m n er).env [a,c,e,f,g,x,y]).map (·.d))=[a,c,e,x,y]:=rfl
  have Xi:obj R=some (.loop ((dd d b k0 m n er).env [a,c,e,f,g,x,y]) (dd d b k0 m n er).ps (dd d b k0 m n er).asg (dd d b k0 m n er).body .ready none):=hR
  clear hR
  generalize (dd d b k0 m n er).env [a,c,e,f,g,x,y]=EV at *
  have ec:cE (xE [a,c,e,f,g,x,y])=[x,y]:=rfl
  rw[ec]
  show dm obj (k+190+1+1+1+1+1+1+1+1+1+1+1) [R,x,y] []=_
  simp only[List.nodup_cons,List.mem_cons,List.not_mem_nil,or_false,not_or,not_false_eq_true,List.nodup_nil,and_true]at ka
  obtain⟨⟨d1,d2,d3,d4,d5,d6,d7⟩,⟨a1,a2,a3,a4,a5,a6⟩,⟨b1,b2,b3,b4,b5⟩,⟨c1,c2,c3,c4⟩,⟨e1,e2,e3⟩,⟨f1,f2⟩,g1⟩:=ka
  simp[dm,fW,Xi,en,h1,h2,h3,h4,h5,h6,h7,lH,cE,qt,xP,xQ,Ne.symm d1,Ne.symm d2,Ne.symm d3,Ne.symm d4,Ne.symm d5,Ne.symm d6,Ne.symm d7,Ne.symm a1,Ne.symm a2,Ne.symm a3,Ne.symm a4,Ne.symm a5,Ne.symm a6,Ne.symm b1,Ne.symm b2,Ne.symm b3,Ne.symm b4,Ne.symm b5,Ne.symm c1,Ne.symm c2,Ne.symm c3,Ne.symm c4,Ne.symm e1,Ne.symm e2,Ne.symm e3,Ne.symm f1,Ne.symm f2,Ne.symm g1]
theorem xD{d:Dk}{b:Bag}{k0 m n:Nat}{er:Int}(hw:ln d b k0 m n er):∀ j,j+1<(dd d b k0 m n er).n->(dd d b k0 m n er).st j=none:=fun j hj=>by
 have h1:=(Bk hw).2.1
 have ej:j+1<n:=hj
 exact if_pos (by omega)
theorem Rh{d:Dk}{b:Bag}{k0 m n:Nat}{er:Int}(hw:ln d b k0 m n er)(hb:fM b=true)(hI:∀ z,z<=k0+m->nu b.fr.toNat (oT d b z)):ak Tryz.prog 102 ((dd d b k0 m n er).itC xE).toSpec:=by
 have aa:=Bl hw hb
 have bY:=xD hw
 obtain⟨iw,kb,hf,bU,vl,Cs,Cr⟩:=tJ hb
 obtain⟨c,hc,h⟩:=OK (R0 hw hb hI) hw hf bU (fun z hz=>⟨(hI z hz).t0,(hI z hz).t1⟩) (J:=(dd d b k0 m n er).J) (fun s=>by rw[Lp.J_len aa,Lp.J_len aa]) (fun s=>Lp.J_clos aa s)
  (fun s=>rfl) (fun s=>rfl) (e:=fun s=>d.setN (dj d b k0 m s)) (q:=fun s=>(dj d b k0 m s).ho.length) (fun s=>rfl)
  (fun s hs=>by show (dj d b k0 m s).ta.get _=_;unfold dj;rw[Nat.min_eq_left hs])
  (fun s hs obj tm ho=>by
    have h1:=Lp.y_setJ aa bY (s:=s) hs obj tm ho
    have h2:((dd d b k0 m n er).st s).isNone=decide (s<m):=by
     show (if s<m then(none:Option Code)else some .ret).isNone=_
     by_cases h3:s<m
     ·rw[if_pos h3,decide_eq_true h3];rfl
     ·rw[if_neg h3,decide_eq_false h3];rfl
    rw[h2]at h1
    exact h1)
 refine Lp.itJ_sound aa bY Tryz.func102 Tryz.ntmps102 (by rfl) (by kernel_rfl) (by decide) ⟨c,hc,lb rfl,?_⟩
 exact h
theorem TO(b:Bag)(l:List Par):fv (ev b) l=gJ l b.ta l.length:=by
 unfold fv gJ
 rw[List.take_length]
 congr 1
 funext p
 unfold ev
 by_cases h:p.no<=b.ta
 ·rw[decide_eq_true h,decide_eq_false (show ¬ p.no>b.ta by omega)];rfl
 ·rw[decide_eq_false h,decide_eq_true (show p.no>b.ta by omega)];rfl
theorem RG(b:Bag):∃ j,j<6/\(fM b=true->b.fr.toNat=j):=by
 by_cases h:b.fr.toNat<6
 ·exact⟨b.fr.toNat,h,fun _=>rfl⟩
 ·exact⟨0,by omega,fun hk=>absurd (tJ hk).2.2.1 h⟩
theorem Lb{b:Bag}{e:Dk}{n off:Nat}{l:List V}{obj:Name->Option O}{t nm h:Name}(h1:obj nm=some (.box (bm e h n)))(h2:obj h=some (.arr 1 l))(hn:nm≠h):
 S66.foot obj t [.v (.agg (aZ b)),.ref nm off]=[nm,h]++[]++[[2,0]++t,[3,0]++t]/\S66.wrt obj t [.v (.agg (aZ b)),.ref nm off]=[[2,0]++t,[3,0]++t]:=by
 have hr:reach obj [.v (.agg (aZ b)),.ref nm off]=[nm,h]:=by
  unfold reach
  show dm obj (2996+1+1+1+1) [nm] []=[nm,h]
  simp[dm,fW,h1,h2,lH,xQ,Ne.symm hn]
 have eV:∀ os p,vS.out os [.v (.agg (aZ b)),p]=⟨[],l5 (.agg (aZ b)) p,.clo (.func 102) [] [.ref [2,0] 0,.ref [3,0] 0]⟩:=fun _ _=>rfl
 have e2:cC obj [.v (.agg (aZ b)),.ref nm off]=[.v (.agg (aZ b)),.ref (cin [nm,h] nm) off]:=by
  unfold cC
  rw[hr]
  simp only[D.renL,D.ren]
 simp only[S66,CSpec.toSpec,hr,e2,eV,l5,List.map_nil,List.map_cons,List.nil_append,and_self]
noncomputable def Nx(j:Nat):List (Nat×Spec):=[(23,S23),(40,S40),(53,Af j),(64,S64),(66,S66)]
attribute [go_sem] Nx
theorem aac{j:Nat}(hj:j<6):∀ f s,tbl (Nx j) f=some s->ak Tryz.prog f s:=tc o6<|tc UQ<|tc (JC j hj)<|tc UI<|tc UG<|tn
@[go_sem] theorem afj(b:Bag):List.take 4 (aZ b)=aZ b:=rfl
theorem R6{d:Dk}{b:Bag}{k0 m n:Nat}{er:Int}(hw:ln d b k0 m n er)(Ls:List Name):(dd d b k0 m n er).fam Ls 0=[.box ((al zD).map .v),.box [.v (vInt 0)],.box [.ref (Ls.getD 3 []) 0],.box (bm (d.setN (bG d b)) (Ls.getD 4 []) d.now.ho.length),.arr 1 (d.now.ho.map vInt),.box ((aZ b).map .v),.box [.ref (Ls.getD 3 []) (14+b.fr.toNat)]]:=by
 have t0:oT d b k0=bG d b:=hw.T0 k0 (Nat.le_refl _)
 have h1:dj d b k0 m 0=bG d b:=by unfold dj;rw[Nat.zero_min,Nat.add_zero];exact t0
 have h2:fG d b k0 m 0=d.now.ho:=by unfold fG;rw[if_pos (Nat.zero_le _),Nat.zero_min,Nat.add_zero,t0];rfl
 have h3:iy m er 0=0:=if_pos (Nat.zero_le _)
 show [O.box ((al zD).map .v),.box [.v (vInt (iy m er 0))],.box [.ref (Ls.getD 3 []) 0],.box (bm (d.setN (dj d b k0 m 0)) (Ls.getD 4 []) (dj d b k0 m 0).ho.length),.arr 1 ((fG d b k0 m 0).map vInt),.box ((aZ b).map .v),.box [.ref (Ls.getD 3 []) (14+b.fr.toNat)]]=_
 rw[h1,h2,h3]
 rfl
theorem R4{d:Dk}{b:Bag}{k0 m:Nat}{er:Int}(Ls:List Name):(dd d b k0 m m er).fam Ls m=[.box ((al zD).map .v),.box [.v (vInt 0)],.box [.ref (Ls.getD 3 []) 0],.box (bm (d.setN (oT d b (k0+m))) (Ls.getD 4 []) (oT d b (k0+m)).ho.length),.arr 1 ((oT d b (k0+m)).ho.map vInt),.box ((aZ b).map .v),.box [.ref (Ls.getD 3 []) (14+b.fr.toNat)]]:=by
 have h1:dj d b k0 m m=oT d b (k0+m):=by unfold dj;rw[Nat.min_self]
 have h2:fG d b k0 m m=(oT d b (k0+m)).ho:=by unfold fG;rw[if_pos (Nat.le_refl _),Nat.min_self]
 have h3:iy m er m=0:=if_pos (Nat.le_refl _)
 show [O.box ((al zD).map .v),.box [.v (vInt (iy m er m))],.box [.ref (Ls.getD 3 []) 0],.box (bm (d.setN (dj d b k0 m m)) (Ls.getD 4 []) (dj d b k0 m m).ho.length),.arr 1 ((fG d b k0 m m).map vInt),.box ((aZ b).map .v),.box [.ref (Ls.getD 3 []) (14+b.fr.toNat)]]=_
 rw[h1,h2,h3]
theorem R5{d:Dk}{b:Bag}{k0 m:Nat}{er:Int}(Ls:List Name):∃ X Y,(dd d b k0 m (m+1) er).fam Ls (m+1)=[.box ((al zD).map .v),.box [.v (vInt er)],.box [.ref (Ls.getD 3 []) 0],.box (bm X (Ls.getD 4 []) Y),.arr 1 ((fG d b k0 m (m+1)).map vInt),.box ((aZ b).map .v),.box [.ref (Ls.getD 3 []) (14+b.fr.toNat)]]:=by
 have h3:iy m er (m+1)=er:=if_neg (by omega)
 refine⟨d.setN (dj d b k0 m (m+1)),(dj d b k0 m (m+1)).ho.length,?_⟩
 show [O.box ((al zD).map .v),.box [.v (vInt (iy m er (m+1)))],.box [.ref (Ls.getD 3 []) 0],.box (bm (d.setN (dj d b k0 m (m+1))) (Ls.getD 4 []) (dj d b k0 m (m+1)).ho.length),.arr 1 ((fG d b k0 m (m+1)).map vInt),.box ((aZ b).map .v),.box [.ref (Ls.getD 3 []) (14+b.fr.toNat)]]=_
 rw[h3]
theorem R3{d:Dk}{b:Bag}{k0 m:Nat}{er:Int}(hw:ln d b k0 m m er):(dd d b k0 m m er).pd=none:=by
 obtain⟨_,h1,h2⟩:=Lp.last_e (xD hw)
 cases m with
 |zero=>exact h1 rfl
 |succ m=>rw[h2 m rfl];exact if_pos (Nat.lt_succ_self m)
theorem R1{d:Dk}{b:Bag}{k0 m:Nat}{er:Int}(hw:ln d b k0 m (m+1) er):(dd d b k0 m (m+1) er).pd=some .ret:=by
 obtain⟨_,h1,h2⟩:=Lp.last_e (xD hw)
 rw[h2 m rfl]
 exact if_neg (Nat.lt_irrefl m)
theorem MN(d:Dk)(s:Stk)(hn:Name)(n:Nat):(bm (d.setN s) hn n).set 1 (.v (.sl (s.ho.map vInt)))=List.map D.v (al (d.setN s)):=rfl
noncomputable def P16:PSpec:=p2 bf gv (fun d _=>di d) (fun d b=>.tup [eE (sv d b),vInt (jx d b)]) false
noncomputable def S16:Spec:=P16.toSpec
attribute [go_sem] P16 S16
set_option maxHeartbeats 8000000 in
theorem Q8:aL Tryz.prog 16 P16:=by
 refine w2 (rs:=[.cell 4 32,.cell 5 36]) Tryz.func16 Tryz.ntmps16 (by rfl) (by kernel_rfl) (by decide) (fun h=>by cases h) ⟨_,rfl,lb rfl,fun d b hp hw=>?_⟩
 have hP:=aU
 simp only[gv,bf]at hw |-
 obtain⟨j,hj,lS⟩:=RG b
 have hΓ:=aac hj
 have hs:di d:=hp
 repeat refine sq ?_
 refine rx hΓ [2,3,4,5] [[2,0],[3,0],[4,0],[5,0]] (fun K' hK=>by simp only[go_sem];(repeat (refine⟨ah,?_⟩));exact hK _ (by simp only[go_sem]) (by simp only[go_sem]<;>rfl)) ?_
 refine aF (FD 3 (.ref [3,0] 0) (by simp only[go_sem]) (by simp only[go_sem]) [2,3,4,5] [[2,0],[3,0],[4,0],[5,0]] ?_ rfl) ?_
 ·simp only[go_sem]
 simp only[go_sem]
 refine aF (e8 [4,0] _ (al zD) rfl rfl [2,3,4,5] [[2,0],[3,0],[4,0],[5,0]] ?_ rfl) ?_
 ·simp only[go_sem]
 simp only[go_sem]
 refine aF (bo [2,0] (al d) rfl [2,3,4,5] [[2,0],[3,0],[4,0],[5,0]] ?_ rfl) ?_
 ·simp only[go_sem]
 simp only[go_sem]
 repeat refine sq ?_
 refine rx hΓ [2,3,4,5,6] [[2,0],[3,0],[4,0],[5,0]] (fun K' hK=>by simp only[go_sem];(repeat (refine⟨ah,?_⟩));exact hK _ (by simp only[go_sem]) (by simp only[go_sem]<;>rfl)) ?_
 repeat refine sq ?_
 refine rx hΓ [2,3,4,5,6,14] [[2,0],[3,0],[4,0],[5,0]] (fun K' hK=>by simp only[go_sem];(repeat (refine⟨ah,?_⟩));exact hK _ (by simp only[go_sem]) (by simp only[go_sem]<;>rfl)) ?_
 repeat refine sq ?_
 refine aw rfl rfl (fun hb=>?_) (fun hb=>?_)
 ·repeat refine sq ?_
  have hd:=iA hb
  have hq:=Hs (b:=b) hd
  have e1:=dH hd
  repeat refine sq ?_
  refine rx hΓ [4,5] [[4,0],[5,0]] (fun K' hK=>by simp only[go_sem];(repeat (refine⟨ah,?_⟩));exact hK _ (by simp only[go_sem]) (by simp only[go_sem]<;>rfl)) ?_
  refine ar ?_
  simp only[go_sem]
  first | (rw[hq.1,hq.2];done) | (rw[hq.1,hq.2];rfl) | (rw[hq.1,hq.2,e1];done) | (rw[hq.1,hq.2,e1];rfl)
 ·repeat refine sq ?_
  have hd:=iz hb
  refine ay ?_
  repeat refine sq ?_
  refine rx hΓ [2,3,4,5,26] [[2,0],[3,0],[4,0],[5,0]] (fun K' hK=>by simp only[go_sem,Nat.add_zero];(repeat (refine⟨ah,?_⟩));exact hK _ (by simp only[go_sem]) (by simp only[go_sem]<;>rfl)) ?_
  repeat refine sq ?_
  refine aw rfl rfl (fun hb=>?_) (fun hb=>?_)
  ·repeat refine sq ?_
   have h1:kL d b=false:=by have h4:=zg d b;unfold tl at h4;rw[hb]at h4;simpa using h4.symm
   have hq:=Ht hd h1
   repeat refine sq ?_
   refine rx hΓ [4,5] [[4,0],[5,0]] (fun K' hK=>by simp only[go_sem];(repeat (refine⟨ah,?_⟩));exact hK _ (by simp only[go_sem]) (by simp only[go_sem]<;>rfl)) ?_
   refine ar ?_
   simp only[go_sem]
   first | (rw[hq.1,hq.2];done) | (rw[hq.1,hq.2];rfl) | (rw[hq.1,hq.2,e1];done) | (rw[hq.1,hq.2,e1];rfl)
  ·repeat refine sq ?_
   have h1:kL d b=true:=by have h4:=zg d b;unfold tl at h4;rw[hb]at h4;simpa using h4.symm
   have rn:fM b=true:=by unfold kL at h1;rw[Bool.and_eq_true]at h1;exact h1.1
   obtain⟨iw,kb,hf,bU,vl,Cs,Cr⟩:=tJ rn
   have jb:=lS rn
   subst jb
   have ph:=(mG hd).unl b.fr.toNat hf
   have ki:=Hl (ta:=b.ta) hf hd
   have hI:=fun {z:Nat}=>Bm (z:=z) hf ki (fun p hp=>(vl p hp).2.1)
   refine ay ?_
   repeat refine sq ?_
   refine rx hΓ [3,4,5,7] [[3,0],[4,0],[5,0],[7,0],[22,0,29,0],[12,0,5,0,29,0],[99,0,5,0,29,0]] (fun K' hK=>by simp only[go_sem,hs];(repeat (refine⟨ah,?_⟩));exact hK _ (by simp only[go_sem]) (by simp only[go_sem]<;>rfl)) ?_
   have Du:=Zg d [12,0,5,0,29,0] [99,0,5,0,29,0] d.now.ho.length (d.now.un.get b.fr.toNat).length (d.now.se.get b.fr.toNat) (gJ (d.now.un.get b.fr.toNat) b.ta (d.now.un.get b.fr.toNat).length) hf rfl
   replace Du:_=bm (d.setN (bG d b)) [12,0,5,0,29,0] d.now.ho.length:=Du
   have XO:∀ (F:Name->Option O),F [22,0,29,0]=some (.box (bm (d.setN (bG d b)) [12,0,5,0,29,0] d.now.ho.length))->F [12,0,5,0,29,0]=some (.arr 1 (d.now.ho.map vInt))->S66.app (fun nm=>if own [0] nm=true then F nm else none) [58,0] [.v (.agg (aZ b)),.ref [22,0,29,0] (14+b.fr.toNat)]=⟨fresh (fun nm=>if own [0] nm=true then F nm else none) [58,0] (l5 (.agg (aZ b)) (.ref [22,0,29,0] (14+b.fr.toNat)))=true,.clo (.func 102) [] [.ref [2,0,58,0] 0,.ref [3,0,58,0] 0],upd (upd (fun nm=>if own [0] nm=true then F nm else none) [2,0,58,0] (some (.box ((aZ b).map .v)))) [3,0,58,0] (some (.box [.ref [22,0,29,0] (14+b.fr.toNat)]))⟩:=fun F k1 k2=>X2 (nm:=[22,0,29,0]) (h:=[12,0,5,0,29,0]) (by rw[<-k1];rfl) (by rw[<-k2];rfl) (by decide)
   have XN:∀ (F:Name->Option O),F [22,0,29,0]=some (.box (bm (d.setN (bG d b)) [12,0,5,0,29,0] d.now.ho.length))->F [12,0,5,0,29,0]=some (.arr 1 (d.now.ho.map vInt))->S66.foot (fun nm=>if own [0] nm=true then F nm else none) [58,0] [.v (.agg (aZ b)),.ref [22,0,29,0] (14+b.fr.toNat)]=[[22,0,29,0],[12,0,5,0,29,0],[2,0,58,0],[3,0,58,0]]:=fun F k1 k2=>(Lb (nm:=[22,0,29,0]) (h:=[12,0,5,0,29,0]) (by rw[<-k1];rfl) (by rw[<-k2];rfl) (by decide)).1
   have XM:∀ (F:Name->Option O),F [22,0,29,0]=some (.box (bm (d.setN (bG d b)) [12,0,5,0,29,0] d.now.ho.length))->F [12,0,5,0,29,0]=some (.arr 1 (d.now.ho.map vInt))->S66.wrt (fun nm=>if own [0] nm=true then F nm else none) [58,0] [.v (.agg (aZ b)),.ref [22,0,29,0] (14+b.fr.toNat)]=[[2,0,58,0],[3,0,58,0]]:=fun F k1 k2=>(Lb (nm:=[22,0,29,0]) (h:=[12,0,5,0,29,0]) (by rw[<-k1];rfl) (by rw[<-k2];rfl) (by decide)).2
   repeat refine sq ?_
   refine dx hΓ hP [[],[],[1],[],[],[4],[3],[3,6],[3,6,7],[3,6,7,8],[3,4,5,6,7,8,9],[3,4,5,6,7,8,9,10],[],[3,4,5,6,7,8,9,10,11,12],[0],[0,14],[0,14,15],[0,14,15,16],[0,1,2,3,4,5,6,7,8,9,10,11,12,13,14,15,16,17],[0,1,2,3,4,5,6,7,8,9,10,11,12,13,14,15,16,17,18]] [3,4,5,7] [[3,0],[4,0],[5,0],[7,0],[22,0,29,0],[12,0,5,0,29,0],[99,0,5,0,29,0]] (by kernel_rfl) (fun K' hK=>by simp only[go_sem,zC d _ _ _ _ hf,iw,kb,TO,Du];(repeat (refine⟨ah,?_⟩));(first | refine⟨by rfl,?_⟩ | skip);exact hK _ (by simp only[go_sem]) (by simp only[go_sem]<;>rfl)) ?_
   repeat refine sq ?_
   refine dx hΓ hP [[],[],[],[2],[1],[1,4],[1,4,5],[1,4,5,6],[1,2,3,4,5,6,7],[0,1,2,3,4,5,6,7,8]] [3,4,5,7,58] [[3,0],[4,0],[5,0],[7,0],[22,0,29,0],[12,0,5,0,29,0],[99,0,5,0,29,0],[2,0,58,0],[3,0,58,0]] (by kernel_rfl) (fun K' hK=>by simp only[go_sem,iw,kb,XO,XN,XM];(repeat (refine⟨ah,?_⟩));(first | refine⟨by rfl,?_⟩ | skip);exact hK _ (by simp only[go_sem]) (by simp only[go_sem]<;>rfl)) ?_
   repeat refine sq ?_
   refine aN ?_
   repeat refine sq ?_
   obtain⟨k0,m,n,er,hw⟩:=RY (d:=d) rn
   have Xv:∀ z,z<=k0+m->nu b.fr.toNat (oT d b z):=fun z hz=>hI (Nat.le_trans hz hw.hk) (hw.er0 z hz)
   have aa:=Bl hw rn
   have ga:=Rh hw rn Xv
   have bY:=xD hw
   have WC:=R6 hw
   refine Y1 aa (R9 d b k0 m n er) 200 201 (f:=102) (Ls:=[[4,0],[5,0],[7,0],[22,0,29,0],[12,0,5,0,29,0],[2,0,58,0],[3,0,58,0]]) rfl rfl (by decide) ga rfl rfl rfl rfl rfl rfl (by decide) (show ([200,0]:Name)∉[[4,0],[5,0],[7,0],[22,0,29,0],[12,0,5,0,29,0],[2,0,58,0],[3,0,58,0]]by decide) (by rw[WC];exact⟨rfl,rfl,rfl,rfl,rfl,rfl,rfl,trivial⟩) fun o=>?_
   rw[(Lp.last_e bY).1]
   show sk _ { aO _ _ _ _ _ with obj:=upd (cg [[4,0],[5,0],[7,0],[22,0,29,0],[12,0,5,0,29,0],[2,0,58,0],[3,0,58,0]] ((dd d b k0 m n er).fam [[4,0],[5,0],[7,0],[22,0,29,0],[12,0,5,0,29,0],[2,0,58,0],[3,0,58,0]] n) _) _ _ } _
   rcases hw.hn with⟨Kv,hn,sU⟩ | ⟨aq,hn,sU⟩
   ·subst hn
    rw[R3 hw,R4,sU]
    have Ku:=hw.er0 (k0+n) (Nat.le_refl _)
    rw[sU]at Ku
    have hq:=Hr hd h1 Ku
    simp only[sk,fi]
    refine dq ?_
    show CL Tryz.prog (_::_) _ _
    refine jT [4,5,7] [[4,0],[5,0],[7,0],[22,0,29,0],[12,0,5,0,29,0]] ?_ ?_
    ·simp only[go_sem,cg]
    simp only[go_sem,cg]
    refine aF (lu [22,0,29,0] [12,0,5,0,29,0] 1 _ _ _ _ rfl (Zj _ _ _) rfl (by simp only[List.length_map]) [4,5,7] [[4,0],[5,0],[7,0],[22,0,29,0]] ?_ rfl) ?_
    ·simp only[go_sem,MN]
    simp only[go_sem,MN]
    repeat refine sq ?_
    refine rx hΓ [4,5] [[4,0],[5,0]] (fun K' hK=>by simp only[go_sem];(repeat (refine⟨ah,?_⟩));exact hK _ (by simp only[go_sem]) (by simp only[go_sem]<;>rfl)) ?_
    refine ar ?_
    simp only[go_sem]
    rw[hq.1,hq.2]
   ·subst hn
    have hq:=Bq hd h1 sU (hw.er0 (k0+m) (Nat.le_refl _)) (by rw[getD_at sU];exact(hw.bad aq sU).2) aq
    obtain⟨X,Y,Xc⟩:=R5 (d:=d) (b:=b) (k0:=k0) (m:=m) (er:=er) [[4,0],[5,0],[7,0],[22,0,29,0],[12,0,5,0,29,0],[2,0,58,0],[3,0,58,0]]
    rw[R1 hw,Xc]
    simp only[sk,fi]
    simp only[go_sem,cg]
    rw[hq.1,hq.2]
theorem UY:ak Tryz.prog 16 S16:=Q8.sound
end Go.Eng
set_option linter.unusedVariables false
namespace Go.Eng
open Go Go.Proofs
def we:Nat->Nat->List Nat->List Nat
 | 0,_,acc=>acc
 |f+1,n,acc=>cond (Nat.blt n 10) ((48+n)::acc) (we f (n / 10) ((48+n % 10)::acc))
theorem LV:∀ (f n:Nat) (acc:List Nat),n<10 ^ (f+1)->we (f+1) n acc=(Lib.decDigits n).map UInt8.toNat++acc
 |f,n,acc,h=>by
  unfold we
  by_cases h9:n<10
  ·have hb:Nat.blt n 10=true:=by simpa[Nat.blt_eq]using h9
   have :(UInt8.ofNat (48+n)).toNat=48+n:=UInt8.toNat_ofNat_of_lt' (by show 48+n<256;omega)
   rw[hb,Lib.decDigits_one h9,List.map_cons,List.map_nil,this]
   rfl
  ·have hb:Nat.blt n 10=false:=by
     cases hh:Nat.blt n 10 with
     |false=>rfl
     |true=>exact absurd (by simpa[Nat.blt_eq]using hh) h9
   have hm:n % 10<10:=Nat.mod_lt _ (by omega)
   have :(UInt8.ofNat (48+n % 10)).toNat=48+n % 10:=UInt8.toNat_ofNat_of_lt' (by show 48+n % 10<256;omega)
   rw[hb,LU (by omega),cond_false]
   match f,h with
   | 0,h=>exact absurd h (by simpa using h9)
   |g+1,h=>
    rw[LV g (n / 10) _ (by rw[Nat.pow_succ]at h;omega),List.map_append,List.map_cons,List.map_nil,this,List.append_assoc]
    rfl
def mI(w:List Nat)(l:List Int):List Nat:=w++(l.flatMap (fun n=>32::we 8 n.toNat [])++[10])
def mA(i:Nat)(l:List Par):List Nat:=l.flatMap fun p=>mI [117,110,100,101,114] [(i:Int),p.no,p.pa]
def xa(s:Stk):List Nat:=
 mI [104,111,108,100,115] s.ho++(mA 0 s.un.a++(mA 1 s.un.b++(mA 2 s.un.c++(mA 3 s.un.d++(mA 4 s.un.e++(mA 5 s.un.f++(mI [115,101,110,116] [s.se.a,s.se.b,s.se.c,s.se.d,s.se.e,s.se.f]++mI [116,97,107,101,110] [s.ta.a,s.ta.b,s.ta.c,s.ta.d,s.ta.e,s.ta.f])))))))
def bN(b:ByteArray):List Nat:=b.data.toList.map UInt8.toNat
theorem EW(a b:ByteArray):bN (a++b)=bN a++bN b:=by
 unfold bN
 rw[<-List.map_append]
 congr 1
 all_goals simp
theorem Zz(l:List UInt8):bN (dJ l)=l.map UInt8.toNat:=by simp[bN,dJ]
theorem Lh:∀ {l:List Int},(∀ n∈l,bD n)->(l.flatMap (fun n=>32::Lib.itoa n)).map UInt8.toNat=l.flatMap (fun n=>32::we 8 n.toNat [])
 |[],_=>rfl
 |n::r,h=>by
  obtain⟨h0,h1⟩:=h n (by simp)
  rw[List.flatMap_cons,List.flatMap_cons,List.map_append,Lh fun m hm=>h m (by simp[hm]),List.map_cons,B' h0,LV 7 n.toNat [] (by show n.toNat<100000000;omega),List.append_nil]
  rfl
theorem xZ{w:List UInt8}{l:List Int}(h:∀ n∈l,bD n):bN (dv (dJ w) l)=mI (w.map UInt8.toNat) l:=by
 have e:(dJ w).data.toList=w:=by simp[dJ]
 rw[SA,Zz]
 unfold mI o4 jB
 rw[List.take_length,List.map_append,List.map_append,List.append_assoc,Lh h,e]
 rfl
theorem FF{a:ByteArray}{i:Nat}(hi:i<6){l:List Par}(h:∀ p∈l,bD p.no/\bD p.pa):∀ k,k<=l.length->bN (fR a i l k)=bN a++mA i (l.take k)
 | 0,_=>by simp[fR,mA]
 |k+1,hk=>by
  have fH:k<l.length:=by omega
  have hq:=h _ (List.getElem_mem fH)
  have ht:l.take (k+1)=l.take k++[l[k]]:=by rw[List.take_add_one,List.getElem?_eq_getElem fH];rfl
  rw[fR,EW,FF hi h k (by omega),je fH,ht]
  have :bN (dv jX [(i:Int),l[k].no,l[k].pa])=mI [117,110,100,101,114] [(i:Int),l[k].no,l[k].pa]:=xZ (w:=[117,110,100,101,114]) (xI hi hq)
  rw[this]
  unfold mA
  rw[List.flatMap_append,List.flatMap_cons,List.flatMap_nil,List.append_nil,List.append_assoc]
theorem ss{s:Stk}(hs:du s){i:Nat}(hi:i<6):bN (dY s (i+1))=bN (dY s i)++mA i (s.un.get i):=by
 have :=FF (a:=dY s i) hi (hs.un i hi) _ (Nat.le_refl _)
 rw[List.take_length]at this
 exact this
theorem FM{s:Stk}(hs:du s):bN (cV s)=xa s:=by
 unfold cV xa
 have h0:bN (dY s 0)=mI [104,111,108,100,115] s.ho:=xZ (w:=[104,111,108,100,115]) hs.ho
 have h7:bN (dv kD (s.se.L id))=mI [115,101,110,116] [s.se.a,s.se.b,s.se.c,s.se.d,s.se.e,s.se.f]:=xZ (w:=[115,101,110,116]) (oJ hs.se)
 have h8:bN (dv my (s.ta.L id))=mI [116,97,107,101,110] [s.ta.a,s.ta.b,s.ta.c,s.ta.d,s.ta.e,s.ta.f]:=xZ (w:=[116,97,107,101,110]) (oJ hs.ta)
 rw[EW,EW,h7,h8,ss hs (show 5<6 by omega),ss hs (show 4<6 by omega),ss hs (show 3<6 by omega),ss hs (show 2<6 by omega),ss hs (show 1<6 by omega),ss hs (show 0<6 by omega),h0]
 simp only[List.append_assoc]
 rfl
def xg(o c:Nat):Nat:=(257*o+c+1) % 1000003
def Az(s:Stk)(n:Int):Nat:=(xa s).foldl xg (n.toNat % 1000003)
theorem OV(a:Nat):((a:Int)).tmod 1000003=((a % 1000003:Nat):Int):=rfl
theorem FU(b:ByteArray)(n:Nat):∀ i,i<=b.size->gq b n i=(((bN b).take i).foldl xg (n % 1000003):Nat)
 | 0,_=>by rw[List.take_zero];rfl
 |i+1,h=>by
  have hl:(bN b).length=b.size:=by simp[bN]
  have hi:i<(bN b).length:=by omega
  have hd:i<b.data.size:=h
  have hc:kq b i=(bN b)[i]:=by
   have e1:(bN b)[i]=(b.data[i]).toNat:=by simp[bN]
   have e2:b.data.getD i 0=b.data[i]:=by
    unfold Array.getD
    rw[dif_pos hd]
    rfl
   rw[e1,<-e2]
   rfl
  rw[gq,FU b n i (by omega),List.take_add_one,List.getElem?_eq_getElem hi,List.foldl_append,hc]
  have :(257*((((bN b).take i).foldl xg (n % 1000003):Nat):Int)+((bN b)[i]:Nat)+1)=((257*(((bN b).take i).foldl xg (n % 1000003))+(bN b)[i]+1:Nat):Int):=by simp
  rw[this,OV]
  rfl
theorem O9{s:Stk}{n:Int}(hs:du s)(hn:bD n):iK s n=(Az s n:Nat):=by
 obtain⟨N,rfl⟩:∃ N:Nat,n=N:=⟨n.toNat,by have:=hn.1;omega⟩
 unfold iK Az
 have hl:(bN (cV s)).length=(cV s).size:=by simp[bN]
 rw[FU _ _ _ (Nat.le_refl _),<-hl,List.take_length,FM hs,Int.toNat_natCast]
def qb:Option O->Option (List V)
 |some (.arr _ l)=>some l
 |some (.farr _ l)=>some l
 |_=>none
def A4(obj:Name->Option O):D->Option V
 | .v x=>some x
 | .nilsl=>some (.sl [])
 | .msl nm k=>match qb (obj nm)with
   |some l=>cond (Nat.beq k l.length) (some (.sl l)) none
   |none=>none
 |_=>none
def uB(obj:Name->Option O):List D->Option (List V)
 |[]=>some []
 |d::r=>match A4 obj d with
  |some x=>match uB obj r with
   |some xs=>some (x::xs)
   |none=>none
  |none=>none
def Ak(obj obj2:Name->Option O):Prop:=∀ nm,qb (obj2 nm)=qb (obj nm)
theorem RC(n:Nat){obj obj2:Name->Option O}(h:Ak obj obj2){d:D}{x:V}(hx:A4 obj d=some x):
 (au (n+1) obj2 d).ok/\(au (n+1) obj2 d).x=x/\Ak obj (au (n+1) obj2 d).obj:=by
 cases d with
 |v y=>cases hx;exact⟨trivial,rfl,h⟩
 |nilsl=>cases hx;exact⟨trivial,rfl,h⟩
 |msl nm k=>
  have an:=h nm
  unfold A4 at hx
  cases ho:obj2 nm with
  |none=>
   rw[ho]at an
   have h0:qb (obj nm)=none:=an.symm
   simp only[h0]at hx
   cases hx
  |some o=>
   rw[ho]at an
   cases o with
   |arr sz l=>
    have h0:qb (obj nm)=some l:=an.symm
    simp only[h0]at hx
    cases hb:Nat.beq k l.length with
    |false=>rw[hb]at hx;cases hx
    |true=>
     rw[hb]at hx
     cases hx
     have hk:=Nat.eq_of_beq_eq_true hb
     simp only[au,ho]
     refine⟨hk,trivial,fun y=>?_⟩
     by_cases hy:y=nm
     ·subst hy
      rw[aD]
      exact h0.symm
     ·rw[aI _ _ _ hy]
      exact h y
   |farr sz l=>
    have h0:qb (obj nm)=some l:=an.symm
    simp only[h0]at hx
    cases hb:Nat.beq k l.length with
    |false=>rw[hb]at hx;cases hx
    |true=>
     rw[hb]at hx
     cases hx
     simp only[au,ho]
     exact⟨Nat.eq_of_beq_eq_true hb,trivial,h⟩
   |_=>
    have h0:qb (obj nm)=none:=an.symm
    simp only[h0]at hx
    cases hx
 |_=>cases hx
theorem GS(n:Nat){obj:Name->Option O}:∀ {ds:List D} {xs:List V} {obj2:Name->Option O},Ak obj obj2->uB obj ds=some xs->
 (aK (au (n+1)) obj2 ds).ok/\(aK (au (n+1)) obj2 ds).xs=xs/\Ak obj (aK (au (n+1)) obj2 ds).obj
 |[],xs,obj2,h,hx=>by cases hx;exact⟨trivial,rfl,h⟩
 |d::r,xs,obj2,h,hx=>by
  unfold uB at hx
  split at hx
  ·rename_i x hd
   split at hx
   ·rename_i ys hr
    cases hx
    obtain⟨a1,a2,a3⟩:=RC n h hd
    obtain⟨b1,b2,b3⟩:=GS n a3 hr
    exact⟨⟨a1,b1⟩,by simp only[aK,a2,b2],b3⟩
   ·cases hx
  ·cases hx
def A3(obj:Name->Option O):D->Option (List V)
 | .agg l=>uB obj l
 | .v (.agg l)=>some l
 |_=>none
theorem GR{obj:Name->Option O}{d:D}{L:List V}(h:A3 obj d=some L):(au 6 obj d).ok/\(au 6 obj d).x=.agg L:=by
 cases d with
 |agg l=>
  obtain⟨a1,a2,_⟩:=GS 4 (fun _=>rfl) (show uB obj l=some L from h)
  exact⟨a1,by simp only[au]at *;exact congrArg V.agg a2⟩
 |v y=>
  cases y with
  |agg l=>cases h;exact⟨trivial,rfl⟩
  |_=>cases h
 |_=>cases h
def nG(n:Int):Bool:=decide (0<=n)&&decide (n<=1000000)
theorem qm{n:Int}(h:nG n=true):bD n:=by
 unfold nG at h
 simp only[Bool.and_eq_true,decide_eq_true_eq]at h
 exact h
def uu{α:Type}(s:bg α)(f:α->Bool):Bool:=f s.a&&(f s.b&&(f s.c&&(f s.d&&(f s.e&&f s.f))))
theorem AO{α:Type}{s:bg α}{f:α->Bool}(h:uu s f=true):∀ i,i<6->f (s.get i)=true:=by
 unfold uu at h
 simp only[Bool.and_eq_true]at h
 obtain⟨h0,h1,h2,h3,h4,h5⟩:=h
 intro i hi
 match i,hi with
 | 0,_=>exact h0
 | 1,_=>exact h1
 | 2,_=>exact h2
 | 3,_=>exact h3
 | 4,_=>exact h4
 | 5,_=>exact h5
def sw(s:Stk):Bool:=Nat.ble s.ho.length 40&&(s.ho.all nG&&(uu s.un (fun l=>Nat.ble l.length 40&&l.all fun p=>nG p.no&&nG p.pa)&&(uu s.se nG&&uu s.ta nG)))
theorem xG{s:Stk}(h:sw s=true):du s:=by
 unfold sw at h
 simp only[Bool.and_eq_true]at h
 obtain⟨h1,h2,h3,h4,h5⟩:=h
 have tk:=AO h3
 refine⟨Nat.le_of_ble_eq_true h1,fun n hn=>qm (List.all_eq_true.1 h2 n hn),fun i hi=>?_,fun i hi p hp=>?_,fun i hi=>qm (AO h4 i hi),fun i hi=>qm (AO h5 i hi)⟩
 ·have:=tk i hi
  simp only[Bool.and_eq_true]at this
  exact Nat.le_of_ble_eq_true this.1
 ·have:=tk i hi
  simp only[Bool.and_eq_true]at this
  have :=List.all_eq_true.1 this.2 p hp
  simp only[Bool.and_eq_true]at this
  exact⟨qm this.1,qm this.2⟩
noncomputable def O':SpecB where
 spec:=P60.toSpec
 run obj t ds:=match ds with
  |[d,.v (.int .i64 n)]=>match A3 obj d with
   |some L=>cond (sw (eM L)&&(nG n&&fh 6 (.agg (ax (eM L))) (.agg L))) (some ⟨.v (.int .i64 (Az (eM L) n:Nat)),dB (fp 6 obj) ds,[],fun t=>t⟩) none
   |none=>none
  |_=>none
 ok:=by
  intro obj t ds r hr
  split at hr
  ·rename_i d n
   split at hr
   ·rename_i L hL
    cases hb:(sw (eM L)&&(nG n&&fh 6 (.agg (ax (eM L))) (.agg L)))with
    |false=>rw[hb]at hr;cases hr
    |true=>
     rw[hb]at hr
     cases hr
     simp only[Bool.and_eq_true]at hb
     obtain⟨h1,h2,h3⟩:=hb
     replace h3:ax (eM L)=L:=V.agg.inj (pY 6 h3)
     obtain⟨a1,a2⟩:=GR hL
     have u7:(aK (au 6) obj [d,.v (.int .i64 n)]).xs=[.agg L,.int .i64 n]:=by
      show [(au 6 obj d).x,(au 6 (au 6 obj d).obj (.v (.int .i64 n))).x]=_
      rw[a2];rfl
     have aa:(aK (au 6) obj [d,.v (.int .i64 n)]).ok:=⟨a1,trivial,trivial⟩
     have cz:P60.pre [.agg L,.int .i64 n]:=⟨congrArg V.agg h3,rfl,xG h1,qm h2⟩
     have cA:P60.fn [.agg L,.int .i64 n]=vInt (iK (eM L) n):=rfl
     refine⟨?_,?_,rfl,rfl,fun tbl h=>h⟩
     ·show _/\P60.pre _
      rw[u7]
      exact⟨aa,cz⟩
     ·show D.v (P60.fn _)=_
      rw[u7,cA,O9 (xG h1) (qm h2)]
   ·cases hr
  ·cases hr
theorem Pb{b:ByteArray}{l:List Nat}(h:bN b=l):(⟨(l.map UInt8.ofNat).toArray⟩:ByteArray)=b:=by
 subst h
 apply ByteArray.ext
 unfold bN
 rw[List.map_map]
 have :(UInt8.ofNat∘UInt8.toNat)=id:=by funext x;simp
 rw[this,List.map_id]
noncomputable def OW:SpecB where
 spec:=P91.toSpec
 run obj t ds:=match ds with
  |[d]=>match A3 obj d with
   |some L=>cond (sw (eM L)&&fh 6 (.agg (ax (eM L))) (.agg L)) (some ⟨.v (.str ⟨((xa (eM L)).map UInt8.ofNat).toArray⟩),dB (fp 6 obj) ds,[],fun t=>t⟩) none
   |none=>none
  |_=>none
 ok:=by
  intro obj t ds r hr
  split at hr
  ·rename_i d
   split at hr
   ·rename_i L hL
    cases hb:(sw (eM L)&&fh 6 (.agg (ax (eM L))) (.agg L))with
    |false=>rw[hb]at hr;cases hr
    |true=>
     rw[hb]at hr
     cases hr
     simp only[Bool.and_eq_true]at hb
     obtain⟨h1,h3⟩:=hb
     replace h3:ax (eM L)=L:=V.agg.inj (pY 6 h3)
     obtain⟨a1,a2⟩:=GR hL
     have u7:(aK (au 6) obj [d]).xs=[.agg L]:=by
      show [(au 6 obj d).x]=_
      rw[a2]
     have aa:(aK (au 6) obj [d]).ok:=⟨a1,trivial⟩
     have cz:P91.pre [.agg L]:=⟨congrArg V.agg h3,xG h1⟩
     have cA:P91.fn [.agg L]=.str (cV (eM L)):=rfl
     refine⟨?_,?_,rfl,rfl,fun tbl h=>h⟩
     ·show _/\P91.pre _
      rw[u7]
      exact⟨aa,cz⟩
     ·show D.v (P91.fn _)=_
      rw[u7,cA,Pb (FM (xG h1))]
   ·cases hr
  ·cases hr
noncomputable def Yv:SpecB where
 spec:=S54
 run obj t ds:=match ds with
  |[.msl nm k,.v (.int .i64 i),.v (.int .i64 j)]=>match obj nm with
   |some (.arr sz l)=>cond (Nat.beq k l.length&&(Nat.beq sz 1&&(decide (0<=i)&&(decide (j=i+1)&&Nat.blt i.toNat l.length)))) (some ⟨.v (.sl (l.eraseIdx i.toNat)),[nm],[nm],fun t=>dD t nm (.farr sz (l.eraseIdx i.toNat++[zI]))⟩) none
   |_=>none
  |_=>none
 ok:=by
  intro obj t ds r hr
  split at hr
  ·rename_i nm k i j
   split at hr
   ·rename_i sz l ho
    cases hb:(Nat.beq k l.length&&(Nat.beq sz 1&&(decide (0<=i)&&(decide (j=i+1)&&Nat.blt i.toNat l.length))))with
    |false=>rw[hb]at hr;cases hr
    |true=>
     rw[hb]at hr
     cases hr
     simp only[Bool.and_eq_true,decide_eq_true_eq]at hb
     obtain⟨h1,h2,h3,h4,h5⟩:=hb
     have DR:i.toNat<l.length:=by simpa[Nat.blt_eq]using h5
     simp only[S54,wK,ho]
     refine⟨⟨Nat.eq_of_beq_eq_true h1,Nat.eq_of_beq_eq_true h2,h3,h4,DR⟩,trivial,rfl,rfl,fun tbl h=>?_⟩
     rw[mH,h]
   ·cases hr
  ·cases hr
noncomputable def H0(f:FuncId):Option SpecB:=
 match Nat.beq f 76 with
 |true=>some (Mv Tryz.prog 23)
 |false=>match Nat.beq f 77 with
  |true=>some (Mv Tryz.prog 22)
  |false=>match Nat.beq f 60 with
   |true=>some O'
   |false=>match Nat.beq f 91 with
    |true=>some OW
    |false=>match Nat.beq f 54 with
     |true=>some Yv
     |false=>none
noncomputable def BV(_:FuncId->Option SpecB)(f:FuncId):Option SpecB:=H0 f
theorem TM:∀ Γ:FuncId->Option SpecB,(∀ f s,aW Γ f=some s->ak Tryz.prog f s)->∀ f s,BV Γ f=some s->ak Tryz.prog f s.spec:=by
 intro Γ _ f s h
 unfold BV H0 at h
 split at h
 ·rename_i hb;have:=Nat.eq_of_beq_eq_true hb;subst this;cases h;exact wo EH
 ·split at h
  ·rename_i hb;have:=Nat.eq_of_beq_eq_true hb;subst this;cases h;exact wo EG
  ·split at h
   ·rename_i hb;have:=Nat.eq_of_beq_eq_true hb;subst this;cases h;exact yg
   ·split at h
    ·rename_i hb;have:=Nat.eq_of_beq_eq_true hb;subst this;cases h;exact Gw.sound
    ·split at h
     ·rename_i hb;have:=Nat.eq_of_beq_eq_true hb;subst this;cases h;exact JB
     ·cases h
noncomputable def Ic(F:List Nat)(T:List Ent):FuncId->Option SpecB:=ΓB Tryz.prog (ES Tryz.prog BV 100000 F T) 100000 24
theorem TJ{F:List Nat}{T:List Ent}(hT:∀ e∈T,aR Tryz.prog e):∀ f s,aW (Ic F T) f=some s->ak Tryz.prog f s:=
 Fo (Zw (fun Γ h f s=>TM Γ h f s) hT) 24
theorem cT{F:List Nat}{T:List Ent}(hT:∀ e∈T,aR Tryz.prog e){e:Ent}(h:AX Tryz.prog (Ic F T) 100000 e=true):aR Tryz.prog e:=Ru (TJ hT) h
theorem cQ{P:Program}{e:Ent}{T:List Ent}(h:aR P e)(hT:∀ e∈T,aR P e):∀ x∈e::T,aR P x:=by
 intro x hx
 rcases List.mem_cons.1 hx with rfl | hx
 ·exact h
 ·exact hT x hx
def IP:List Ent:=[]
theorem Jq:∀ e∈IP,aR Tryz.prog e:=fun e h=>by cases h
end Go.Eng
