import Derived.Test.YtckmfkgppohnmaaDoorK12
import Derived.Laws.Bits64
/- Texts LS to NW52. -/
set_option linter.all false
namespace Go.Eng
open Go Go.Proofs
theorem S7:aZ Tryd.prog 10 ⟨fun xs=>xs=[],fun _=>.bool true,true⟩:=
 TJ (b:=.bool true) Wd (by
  intro fn h
  have e:Tryd.prog.funcs[10]?=some Tryd.f10:=Tryd.func10
  rw[e]at h
  obtain rfl:=Option.some.inj h
  exact(by kernel_rfl:(Tryd.f10.name== "runtime.NumGoroutine")=false)) (by decide) rfl
noncomputable def PE:PSpec:=⟨fun xs=>xs=[],fun _=>.bool true,true⟩
noncomputable def S19:Spec:=PE.toSpec
theorem Xg:an Tryd.prog 10 S19:=S7.sound
attribute [go_sem] PE S19
def fv(d:Dk)(i:Nat)(o:Int):Bool:=(((i:Int) != d.wet)&&aF d.me (d.pg i))&&(decide (o<0)||decide ((d.pg i).co>(d.pg o.toNat).co))
def b7(d:Dk):Nat->Int
 | 0=> -1
 |i+1=>if fv d i (b7 d i)=true then i else b7 d i
def bj(d:Dk):Int:=b7 d 2
theorem Ff(d:Dk):∀ i,-1<=b7 d i/\b7 d i<i
 | 0=>⟨by show (-1:Int)<= -1;omega,by show (-1:Int)<0;omega⟩
 |i+1=>by
  have h:=Ff d i
  unfold b7
  split
  ·exact⟨by omega,by omega⟩
  ·exact⟨h.1,by omega⟩
theorem aaW(d:Dk):((aq d).drop 20).take 42=de d.pa++de d.pb:=rfl
theorem TY(d:Dk){i:Nat}(h:i<2):((de d.pa++de d.pb).drop (i*21)).take 21=de (d.pg i):=by
 match i,h with
 | 0,_=>rfl
 | 1,_=>rfl
theorem TX(d:Dk){i:Nat}(h:i<2):i*21+21<=(de d.pa++de d.pb).length:=by
 show i*21+21<=42
 omega
theorem xe{d:Dk}{i:Nat}(h:fv d i (b7 d i)=true):b7 d (i+1)=i:=if_pos h
theorem Aw{d:Dk}{i:Nat}(h:fv d i (b7 d i)=false):b7 d (i+1)=b7 d i:=if_neg (by rw[h];decide)
noncomputable def Qb:List (Nat×Spec):=[(69,S90)]
theorem ads:∀ f s,tbl Qb f=some s->an Tryd.prog f s:=tc KN<|tn
attribute [go_sem] Qb
noncomputable def P58:PSpec:=p1 dV (fun _=>True) (fun d=>vInt (bj d)) true
noncomputable def S58:Spec:=P58.toSpec
attribute [go_sem] P58 S58
set_option maxHeartbeats 4000000 in
theorem SN:aZ Tryd.prog 45 P58:=by
 refine w1 (rs:=[.tmp 2]) Tryd.func45 Tryd.ntmps45 (by rfl) (by kernel_rfl) (by decide) (fun _ _=>rfl) ⟨_,rfl,lb rfl,fun d hp hw=>?_⟩
 have hP:=bn
 simp only[dV]at hw |-
 have hΓ:=ads
 repeat refine sq ?_
 refine rs hΓ [1] [[1,0]] ?_
 refine aN (cX [1,0] (aq d) rfl [1] [[1,0]] ?_ rfl) ?_
 ·simp only[go_sem]
 simp only[go_sem]
 repeat refine sq ?_
 refine rs hΓ [1,3] [[1,0]] ?_
 repeat refine sq ?_
 refine rx hΓ [1,3,7,8] [[1,0]] (fun K' hK=>by simp only[go_sem,aaW];(repeat (refine⟨ob,?_⟩));exact hK _ (by simp only[go_sem]) (by simp only[go_sem]<;>rfl)) ?_
 repeat refine sq ?_
 refine aL ?_
 repeat refine sq ?_
 refine cN (fun z:Nat=>[(8,⟨true,.v (vInt z)⟩),(3,⟨true,.v (vInt (b7 d z))⟩)]) (fun z=>[]) (fun z=>z<=2) (fun z=>2-z) 0 ?_ ?_ ?_ ?_
 ·exact Nat.zero_le _
 ·rfl
 ·rfl
 rintro i hi
 simp only[go_sem]
 repeat refine sq ?_
 refine rs hΓ [1,3,7,8,9] [[1,0]] ?_
 repeat refine sq ?_
 refine aw rfl rfl (fun hb=>?_) (fun hb=>?_)
 ·have ae:i<2:=by have hq:(i:Int)<2:=(by simpa using hb);omega
  have ak:(i:Int)<2:=by omega
  clear hb
  have bG:=TX d ae
  repeat refine sq ?_
  refine aA ?_
  repeat refine sq ?_
  refine aL ?_
  repeat refine sq ?_
  refine rx hΓ [1,3,4,5,7,8] [[1,0],[5,0]] (fun K' hK=>by simp only[go_sem,Int.toNat_natCast,Int.natCast_nonneg,ak,TY d ae,bG,Int.toNat_natCast,Int.natCast_nonneg,ak,List.append_nil];(repeat (refine⟨ob,?_⟩));exact hK _ (by simp only[go_sem]) (by simp only[go_sem]<;>rfl)) ?_
  refine aN (cX [5,0] (de (d.pg i)) rfl [1,3,4,5,7,8] [[1,0],[5,0]] ?_ rfl) ?_
  ·simp only[go_sem]
  simp only[go_sem]
  rcases ho:decide (b7 d i<0)with _ | _
  ·have hr:=Ff d i
   have kj:0<=b7 d i:=by have:=of_decide_eq_false ho;omega
   have g':b7 d i<2:=by omega
   have zO:(b7 d i).toNat<2:=by omega
   have oP:fv d i (b7 d i)=((((i:Int) != d.wet)&&aF d.me (d.pg i))&&decide ((d.pg i).co>(d.pg (b7 d i).toNat).co)):=by unfold fv;rw[ho,Bool.false_or]
   repeat refine sq ?_
   refine dx hΓ hP [[],[],[1],[0,1,2],[0,1,2,3],[0,1,2,3,4],[0,1,2,3,4,5],[0,1,2,3,4],[0,1,2,3,4,5,6,7],[0,1,2,3,4,5,6,7,8],[0,1,2,3,4,5,6,7,8,9],[0,1,2,3,4,5,6,7,8,9,10],[0,1,2,3,4,5,6,7,8,9,10,11],[0,1,2,3,4,5,6,7,8,9,10,11,12],[0,1,2,3,4,5,6,7,8,9,10,11,12,13],[0,1,2,3,4,5,6,7,8,9,10,11,12,13,14],[0,1,2,3,4,5,6,7,8,9,10,11,12,13],[0,1,2,3,4,5,6,7,8,9,10,11,12,13],[0,1,2,3,4,5,6,7,8,9,10,11,12,13,16,17],[0,1,2,3,4,5,6,7,8,9,10,11,12,13,16,17,18],[0,1,2,3,4,5,6,7,8,9,10,11,12,13,16,17,18,19],[0,1,2,3,4,5,6,7,8,9,10,11,12,13,14,15,16,17,18,19,20],[0,1,2,3,4,5,6,7,8,9,10,11,12,13,14,15,16,17,18,19,20,21],[0,1,2,3,4,5,6,7,8,9,10,11,12,13,14,15,16,17,18,19,20,21,22]] [1,3,4,7,8,35] [[1,0]] (by kernel_rfl) (fun K' hK=>by simp only[go_sem,Int.toNat_natCast,Int.natCast_nonneg,ak,ho,kj,g',AG d zO,Nat.add_zero];(repeat (refine⟨ob,?_⟩));(first | refine⟨by rfl,?_⟩ | skip);exact hK _ (by simp only[go_sem]) (by simp only[go_sem]<;>rfl)) ?_
   repeat refine sq ?_
   refine aw rfl rfl (fun hb=>?_) (fun hb=>?_)
   ·repeat refine sq ?_
    have e:=xe (oP.trans (by simpa[Bool.and_assoc]using hb))
    repeat refine sq ?_
    refine aX hΓ fun K' hK=>?_
    simp only[go_sem,Int.toNat_natCast,Int.natCast_nonneg,ak,ho,kj,g',AG d zO,Nat.add_zero]
    repeat (refine⟨ob,?_⟩)
    refine hK _ ?_
    clear K' hK
    simp only[go_sem]
    refine kp [1,3,7,8] [[1,0]] ?_
    repeat refine sq ?_
    refine aX hΓ fun K' hK=>?_
    simp only[go_sem,Int.toNat_natCast,Int.natCast_nonneg,ak,ho,kj,g',AG d zO,Nat.add_zero]
    repeat (refine⟨ob,?_⟩)
    refine hK _ ?_
    clear K' hK
    simp only[go_sem]
    refine⟨i+1,ae,by(show 2-(i+1)<2-i;omega),?_⟩
    refine bx [1,3,7,8] [[1,0]] ?_ ?_
    ·simp only[go_sem,aH ae (lb rfl:(2:Nat)<=maxLen),Int.natCast_add,Int.natCast_one,e]
    ·simp only[go_sem,aH ae (lb rfl:(2:Nat)<=maxLen),Int.natCast_add,Int.natCast_one,e]
   ·repeat refine sq ?_
    have e:=Aw (oP.trans (by simpa[Bool.and_assoc]using hb))
    refine aA ?_
    refine dA ?_
    simp only[go_sem]
    refine kp [1,3,7,8] [[1,0]] ?_
    repeat refine sq ?_
    refine aX hΓ fun K' hK=>?_
    simp only[go_sem,Int.toNat_natCast,Int.natCast_nonneg,ak,ho,kj,g',AG d zO,Nat.add_zero]
    repeat (refine⟨ob,?_⟩)
    refine hK _ ?_
    clear K' hK
    simp only[go_sem]
    refine⟨i+1,ae,by(show 2-(i+1)<2-i;omega),?_⟩
    refine bx [1,3,7,8] [[1,0]] ?_ ?_
    ·simp only[go_sem,aH ae (lb rfl:(2:Nat)<=maxLen),Int.natCast_add,Int.natCast_one,e]
    ·simp only[go_sem,aH ae (lb rfl:(2:Nat)<=maxLen),Int.natCast_add,Int.natCast_one,e]
  ·have oP:fv d i (b7 d i)=(((i:Int) != d.wet)&&aF d.me (d.pg i)):=by unfold fv;rw[ho,Bool.true_or,Bool.and_true]
   repeat refine sq ?_
   refine dx hΓ hP [[],[],[1],[0,1,2],[0,1,2,3],[0,1,2,3,4],[0,1,2,3,4,5],[0,1,2,3,4],[0,1,2,3,4,5,6,7],[0,1,2,3,4,5,6,7,8],[0,1,2,3,4,5,6,7,8,9],[0,1,2,3,4,5,6,7,8,9,10],[0,1,2,3,4,5,6,7,8,9,10,11],[0,1,2,3,4,5,6,7,8,9,10,11,12],[0,1,2,3,4,5,6,7,8,9,10,11,12,13],[0,1,2,3,4,5,6,7,8,9,10,11,12,13,14],[0,1,2,3,4,5,6,7,8,9,10,11,12,13],[0,1,2,3,4,5,6,7,8,9,10,11,12,13],[0,1,2,3,4,5,6,7,8,9,10,11,12,13,16,17],[0,1,2,3,4,5,6,7,8,9,10,11,12,13,16,17,18],[0,1,2,3,4,5,6,7,8,9,10,11,12,13,16,17,18,19],[0,1,2,3,4,5,6,7,8,9,10,11,12,13,14,15,16,17,18,19,20],[0,1,2,3,4,5,6,7,8,9,10,11,12,13,14,15,16,17,18,19,20,21],[0,1,2,3,4,5,6,7,8,9,10,11,12,13,14,15,16,17,18,19,20,21,22]] [1,3,4,7,8,35] [[1,0]] (by kernel_rfl) (fun K' hK=>by simp only[go_sem,Int.toNat_natCast,Int.natCast_nonneg,ak,ho];(repeat (refine⟨ob,?_⟩));(first | refine⟨by rfl,?_⟩ | skip);exact hK _ (by simp only[go_sem]) (by simp only[go_sem]<;>rfl)) ?_
   repeat refine sq ?_
   refine aw rfl rfl (fun hb=>?_) (fun hb=>?_)
   ·repeat refine sq ?_
    have e:=xe (oP.trans (by simpa using hb))
    repeat refine sq ?_
    refine aX hΓ fun K' hK=>?_
    simp only[go_sem,Int.toNat_natCast,Int.natCast_nonneg,ak,ho]
    repeat (refine⟨ob,?_⟩)
    refine hK _ ?_
    clear K' hK
    simp only[go_sem]
    refine kp [1,3,7,8] [[1,0]] ?_
    repeat refine sq ?_
    refine aX hΓ fun K' hK=>?_
    simp only[go_sem,Int.toNat_natCast,Int.natCast_nonneg,ak,ho]
    repeat (refine⟨ob,?_⟩)
    refine hK _ ?_
    clear K' hK
    simp only[go_sem]
    refine⟨i+1,ae,by(show 2-(i+1)<2-i;omega),?_⟩
    refine bx [1,3,7,8] [[1,0]] ?_ ?_
    ·simp only[go_sem,aH ae (lb rfl:(2:Nat)<=maxLen),Int.natCast_add,Int.natCast_one,e]
    ·simp only[go_sem,aH ae (lb rfl:(2:Nat)<=maxLen),Int.natCast_add,Int.natCast_one,e]
   ·repeat refine sq ?_
    have e:=Aw (oP.trans (by simpa using hb))
    refine aA ?_
    refine dA ?_
    simp only[go_sem]
    refine kp [1,3,7,8] [[1,0]] ?_
    repeat refine sq ?_
    refine aX hΓ fun K' hK=>?_
    simp only[go_sem,Int.toNat_natCast,Int.natCast_nonneg,ak,ho]
    repeat (refine⟨ob,?_⟩)
    refine hK _ ?_
    clear K' hK
    simp only[go_sem]
    refine⟨i+1,ae,by(show 2-(i+1)<2-i;omega),?_⟩
    refine bx [1,3,7,8] [[1,0]] ?_ ?_
    ·simp only[go_sem,aH ae (lb rfl:(2:Nat)<=maxLen),Int.natCast_add,Int.natCast_one,e]
    ·simp only[go_sem,aH ae (lb rfl:(2:Nat)<=maxLen),Int.natCast_add,Int.natCast_one,e]
 ·have bf:i=2:=by
   have :¬ (i:Int)<2:=by simpa using hb
   omega
  clear hb
  subst bf
  repeat refine sq ?_
  refine cq ?_
  simp only[go_sem]
  refine kp [3] [] ?_
  repeat refine sq ?_
  refine rs hΓ [2] [] ?_
  refine av ?_
  simp only[go_sem]
  first | rfl
theorem C8:an Tryd.prog 45 S58:=SN.sound
noncomputable def adr:List (Nat×Spec):=[(85,S45)]
attribute [go_sem] adr
structure dZ (d:Dk):Prop where
 now:kG d.now
 pg:∀ i,i<2->kG (d.pg i).st
noncomputable def K26:List (Nat×Spec):=[]
attribute [go_sem] K26
theorem aaV(d:Dk):List.take 1 (List.map D.v (aq d))++List.map D.v (aC d.now)++List.drop 20 (List.map D.v (aq d))=List.map D.v (aq d):=rfl
theorem FE(d:Dk){i:Nat}(h:i<2):List.take (20+i*21+1) (List.map D.v (aq d))++List.map D.v (aC (d.pg i).st)++List.drop (20+i*21+1+19) (List.map D.v (aq d))=List.map D.v (aq d):=by
 match i,h with
 | 0,_=>rfl
 | 1,_=>rfl
def I1(d:Dk):List (Name×O):=[([22,0],.box ((aq d).map .v))]
def I2(_:Dk):D:=.ref [22,0] 0
attribute [go_sem] I1 I2
noncomputable def P7:List (Nat×Spec):=[(37,S59)]
theorem adj:∀ f s,tbl P7 f=some s->an Tryd.prog f s:=tc zh<|tn
attribute [go_sem] P7
noncomputable def Bm:NSpec:=n1 dV (fun d=>dZ d) I1 I2
noncomputable def S53:Spec:=Bm.toSpec
attribute [go_sem] Bm S53
set_option maxHeartbeats 4000000 in
theorem C9:an Tryd.prog 43 S53:=by
 refine I9 (nt:=23) (rs:=[.tmp 2]) Tryd.func43 rfl (by rfl) (by kernel_rfl) (by kernel_rfl) (by decide) ?_
 intro xs hp
 obtain⟨d,rfl,hp,oO,jO⟩:=Jd hp
 replace oO:Bm.new _=_:=oO
 replace jO:Bm.d _=_:=jO
 rw[oO,jO]
 clear oO jO
 refine⟨lb rfl,?_⟩
 have hP:=bn
 simp only[iI,iB,eO,iI,iB,uf,eO,vZ,lz,iQ,rJ,dV,oz,Dj,iC,iF,encPa,nI,xj,encDk,fQ,List.map_cons,List.map_nil,fH,Nat.zero_add]
 have hΓ:=adj
 have hs:dZ d:=hp
 have pS:=hs.now
 have EZ:∀ (F:Name->Option O) (t:Name),F [1,0]=some (.box ((aq d).map .v))->S59.app (fun nm=>if own [0] nm=true then F nm else none) t [.ref [1,0] 1]=⟨True,.v (.agg (aC d.now)),fun nm=>if own [0] nm=true then F nm else none⟩:=fun F t h=>tC (s:=d.now) (L:=aq d) (off:=1) h (xn d) pS
 repeat refine sq ?_
 refine rx hΓ [1] [[1,0]] (fun K' hK=>by simp only[go_sem];(repeat (refine⟨ah,?_⟩));exact hK _ (by simp only[go_sem]) (by simp only[go_sem]<;>rfl)) ?_
 repeat refine sq ?_
 refine rx hΓ [1] [[1,0]] (fun K' hK=>by simp only[go_sem,EZ,aaV];(repeat (refine⟨ah,?_⟩));exact hK _ (by simp only[go_sem]) (by simp only[go_sem]<;>rfl)) ?_
 repeat refine sq ?_
 refine rx hΓ [1,7] [[1,0]] (fun K' hK=>by simp only[go_sem];(repeat (refine⟨ah,?_⟩));exact hK _ (by simp only[go_sem]) (by simp only[go_sem]<;>rfl)) ?_
 repeat refine sq ?_
 refine aL ?_
 repeat refine sq ?_
 refine cN (fun z:Nat=>[(7,⟨true,.v (vInt z)⟩)]) (fun z=>[]) (fun z=>z<=2) (fun z=>2-z) 0 ?_ ?_ ?_ ?_
 ·exact Nat.zero_le _
 ·rfl
 ·rfl
 rintro i hi
 simp only[go_sem]
 repeat refine sq ?_
 refine rx hΓ [1,7,8] [[1,0]] (fun K' hK=>by simp only[go_sem];(repeat (refine⟨ah,?_⟩));exact hK _ (by simp only[go_sem]) (by simp only[go_sem]<;>rfl)) ?_
 repeat refine sq ?_
 refine aw rfl rfl (fun hb=>?_) (fun hb=>?_)
 ·have ae:i<2:=by have hq:(i:Int)<2:=(by simpa using hb);omega
  have ak:(i:Int)<2:=by omega
  clear hb
  have EY:∀ (F:Name->Option O) (t:Name),F [1,0]=some (.box ((aq d).map .v))->S59.app (fun nm=>if own [0] nm=true then F nm else none) t [.ref [1,0] (20+i*21+1)]=⟨True,.v (.agg (aC (d.pg i).st)),fun nm=>if own [0] nm=true then F nm else none⟩:=fun F t h=>tC (s:=(d.pg i).st) (L:=aq d) (off:=20+i*21+1) h (FG d ae) (hs.pg i ae)
  repeat refine sq ?_
  refine aA ?_
  repeat refine sq ?_
  refine aL ?_
  repeat refine sq ?_
  refine rx hΓ [1,3,7] [[1,0]] (fun K' hK=>by simp only[go_sem,Int.toNat_natCast,Int.natCast_nonneg,ak];(repeat (refine⟨ah,?_⟩));exact hK _ (by simp only[go_sem]) (by simp only[go_sem]<;>rfl)) ?_
  repeat refine sq ?_
  refine aX hΓ fun K' hK=>?_
  simp only[go_sem,Int.toNat_natCast,Int.natCast_nonneg,ak,EY,FE d ae,Int.toNat_natCast,Int.natCast_nonneg,ak]
  repeat (refine⟨ah,?_⟩)
  refine hK _ ?_
  clear K' hK
  simp only[go_sem]
  refine kp [1,7] [[1,0]] ?_
  repeat refine sq ?_
  refine aX hΓ fun K' hK=>?_
  simp only[go_sem,Int.toNat_natCast,Int.natCast_nonneg,ak]
  repeat (refine⟨ah,?_⟩)
  refine hK _ ?_
  clear K' hK
  simp only[go_sem]
  refine⟨i+1,ae,by(show 2-(i+1)<2-i;omega),?_⟩
  refine bx [1,7] [[1,0]] ?_ ?_
  ·simp only[go_sem,aH ae (lb rfl:(2:Nat)<=maxLen),Int.natCast_add,Int.natCast_one,FE d ae]
  ·simp only[go_sem,aH ae (lb rfl:(2:Nat)<=maxLen),Int.natCast_add,Int.natCast_one,FE d ae]
 ·have bf:i=2:=by
   have :¬ (i:Int)<2:=by simpa using hb
   omega
  clear hb
  subst bf
  repeat refine sq ?_
  refine cq ?_
  simp only[go_sem]
  refine kp [1] [[1,0]] ?_
  repeat refine sq ?_
  refine rx hΓ [2] [[22,0]] (fun K' hK=>by simp only[go_sem,List.append_nil];(repeat (refine⟨ah,?_⟩));exact hK _ (by simp only[go_sem]) (by simp only[go_sem]<;>rfl)) ?_
  refine av ?_
  simp only[go_sem]
  skip
theorem E8(d:Dk):∀ i,b7 d i= -1\/aF d.me (d.pg (b7 d i).toNat)=true
 | 0=>.inl rfl
 |i+1=>by
  cases h:fv d i (b7 d i)with
  |false=>rw[Aw h];exact E8 d i
  |true=>
   rw[xe h]
   refine .inr ?_
   unfold fv at h
   simp only[Bool.and_eq_true]at h
   rw[Int.toNat_natCast]
   exact h.1.2
theorem TS{me:Int}{p:Pg}(h:aF me p=true):eL p.st:=by
 unfold aF at h
 simp only[Bool.and_eq_true]at h
 exact vM h.1.2
def aE(d:Dk):Stk:=(d.pg (bj d).toNat).st
theorem oZ{d:Dk}(h:ay d=true):0<=bj d/\bj d<2/\(bj d).toNat<2/\eL (aE d):=by
 have hr:=Ff d 2
 have aj:bj d≠ -1:=by
  intro he
  have h1:fv d 1 (b7 d 1)=false:=by
   cases hc:fv d 1 (b7 d 1)with
   |false=>rfl
   |true=>
    have h2:b7 d 2=((1:Nat):Int):=xe hc
    have h3:b7 d 2= -1:=he
    rw[h2]at h3
    exact absurd h3 (by decide)
  have e1:b7 d 1= -1:=by rw[<-Aw h1];exact he
  have h0:fv d 0 (b7 d 0)=false:=by
   cases hc:fv d 0 (b7 d 0)with
   |false=>rfl
   |true=>
    have h2:b7 d 1=((0:Nat):Int):=xe hc
    rw[e1]at h2
    exact absurd h2 (by decide)
  rw[e1]at h1
  have a0:(((0:Int) != d.wet)&&aF d.me d.pa)=false:=by simpa[fv,b7,Dk.pg]using h0
  have a1:(((1:Int) != d.wet)&&aF d.me d.pb)=false:=by simpa[fv,Dk.pg]using h1
  unfold ay iz at h
  simp only[Bool.and_eq_true]at h
  obtain⟨⟨_,hi⟩,hw⟩:=h
  have hi:=cf.1 hi
  have gX:d.wet<0\/d.wet=0\/d.wet=1:=by omega
  rcases gX with hn | hz | ho
  ·rw[mV hn]at hw
   have b0:((0:Int) != d.wet)=true:=by simp;omega
   have b1:((1:Int) != d.wet)=true:=by simp;omega
   rw[b0,Bool.true_and]at a0
   rw[b1,Bool.true_and]at a1
   rw[a0,a1]at hw
   simp at hw
  ·rw[po hz]at hw
   rw[hz]at a1
   have GB:aF d.me d.pb=false:=a1
   rw[GB]at hw
   simp at hw
  ·rw[pn ho]at hw
   rw[ho]at a0
   have a0':aF d.me d.pa=false:=a0
   rw[a0']at hw
   simp at hw
 have hi:0<=bj d:=by
  have h1:b7 d 2≠ -1:=aj
  show 0<=b7 d 2
  omega
 have wN:bj d<2:=hr.2
 refine⟨hi,wN,by omega,?_⟩
 rcases E8 d 2 with h1 | h1
 ·exact absurd h1 aj
 ·exact TS h1
theorem uS{d:Dk}(h:(k9 d != 0)=false):ay d=true:=by
 cases hb:ay d with
 |true=>rfl
 |false=>rw[ky hb]at h;exact absurd h (by decide)
theorem uT{d:Dk}(h:(k9 d != 0)=true):ay d=false:=by
 cases hb:ay d with
 |false=>rfl
 |true=>rw[fw hb]at h;exact absurd h (by decide)
def YE(d:Dk):List Int:=if ay d=true then d.now.ho else[]
theorem yQ{d:Dk}(h:ay d=true):eL d.now:=by
 unfold ay iz at h
 simp only[Bool.and_eq_true]at h
 exact vM h.1.1
@[go_sem] theorem agW(d:Dk):(aq d).getD 1 default=jE d.now.ho:=rfl
noncomputable def K20:List (Nat×Spec):=[(39,S23),(36,S77)]
attribute [go_sem] K20
noncomputable def PD:PSpec:=p1 dV (fun _=>True) (fun d=>.tup [.sl ((YE d).map vInt),vInt (k9 d)]) false
noncomputable def S28:Spec:=PD.toSpec
attribute [go_sem] PD S28
noncomputable def adq:List (Nat×Spec):=[(77,S39)]
attribute [go_sem] adq
theorem M'{d:Dk}(h:ay d=true):((aq d).drop (20+(bj d).toNat*21+1)).take 19=aC (aE d):=FG d (oZ h).2.2.1
@[go_sem] theorem afX(s:Stk):((aC s).map D.v).drop 19=[]:=rfl
noncomputable def K21:List (Nat×Spec):=[(39,S23),(45,S58),(37,S59)]
attribute [go_sem] K21
noncomputable def adp:List (Nat×Spec):=[(77,S39)]
attribute [go_sem] adp
def dY(d:Dk)(t:Int):Bool:=aP t 0 5&&(t != d.me)
def o8(d:Dk)(t:Int):Bool:=ay d&&dY d t
def ep(d:Dk)(t:Int):Int:=if ay d=true then(if dY d t=true then 0 else 94)else 92
theorem Be{d:Dk}{t:Int}(h:ay d=false):ep d t=92:=if_neg (by rw[h];decide)
theorem xG{d:Dk}{t:Int}(h:ay d=true)(k:dY d t=false):ep d t=94:=by unfold ep;rw[if_pos h,if_neg (by rw[k];decide)]
theorem qD{d:Dk}{t:Int}(h:ay d=true)(k:dY d t=true):ep d t=0:=by unfold ep;rw[if_pos h,if_pos k]
theorem Q4(d:Dk)(t:Int):(!aP t 0 5||(t==d.me))=!dY d t:=by
 unfold dY
 have :(t != d.me)=!(t==d.me):=rfl
 rw[this]
 cases aP t 0 5<;>cases (t==d.me)<;>rfl
theorem Pe{d:Dk}{t:Int}(h:(ep d t != 0)=false):ay d=true/\dY d t=true:=by
 cases h1:ay d with
 |false=>rw[Be h1]at h;exact absurd h (by decide)
 |true=>
  cases h2:dY d t with
  |false=>rw[xG h1 h2]at h;exact absurd h (by decide)
  |true=>exact⟨rfl,rfl⟩
theorem Pd{d:Dk}{t:Int}(h:(ep d t != 0)=true):o8 d t=false:=by
 unfold o8
 cases h1:ay d with
 |false=>rfl
 |true=>
  cases h2:dY d t with
  |false=>rfl
  |true=>rw[qD h1 h2]at h;exact absurd h (by decide)
theorem BB{d:Dk}{t:Int}(h:dY d t=true):0<=t/\t<6/\t.toNat<6:=by
 unfold dY at h
 simp only[Bool.and_eq_true]at h
 have :=cf.1 h.1
 exact⟨by omega,by omega,by omega⟩
noncomputable def P':List (Nat×Spec):=[(39,S23),(34,S82)]
theorem ado:∀ f s,tbl P' f=some s->an Tryd.prog f s:=tc rE<|tc zf<|tn
attribute [go_sem] P'
noncomputable def P51:PSpec:=p2 dV iI (fun _ _=>True) (fun d t=>vInt (ep d t)) true
noncomputable def S51:Spec:=P51.toSpec
attribute [go_sem] P51 S51
set_option maxHeartbeats 4000000 in
theorem SS:aZ Tryd.prog 41 P51:=by
 refine w2 (rs:=[.tmp 4]) Tryd.func41 Tryd.ntmps41 (by rfl) (by kernel_rfl) (by decide) (fun _ _ _=>rfl) ⟨_,rfl,lb rfl,fun d t hp hw=>?_⟩
 have hP:=bn
 simp only[dV,iI]at hw |-
 have hΓ:=ado
 repeat refine sq ?_
 refine rx hΓ [1,2] [[2,0]] (fun K' hK=>by simp only[go_sem];(repeat (refine⟨ah,?_⟩));exact hK _ (by simp only[go_sem]) (by simp only[go_sem]<;>rfl)) ?_
 refine aN (cX [2,0] (aq d) rfl [1,2] [[2,0]] ?_ rfl) ?_
 ·simp only[go_sem]
 simp only[go_sem]
 repeat refine sq ?_
 refine rx hΓ [1,2,5] [[2,0]] (fun K' hK=>by simp only[go_sem];(repeat (refine⟨ah,?_⟩));exact hK _ (by simp only[go_sem]) (by simp only[go_sem]<;>rfl)) ?_
 repeat refine sq ?_
 refine rx hΓ [1,2,5,9] [[2,0]] (fun K' hK=>by simp only[go_sem];(repeat (refine⟨ah,?_⟩));exact hK _ (by simp only[go_sem]) (by simp only[go_sem]<;>rfl)) ?_
 repeat refine sq ?_
 refine aw rfl rfl (fun hb=>?_) (fun hb=>?_)
 ·repeat refine sq ?_
  have hd:=uT hb
  have e1:=ky hd
  repeat refine sq ?_
  refine rx hΓ [4] [] (fun K' hK=>by simp only[go_sem];(repeat (refine⟨ah,?_⟩));exact hK _ (by simp only[go_sem]) (by simp only[go_sem]<;>rfl)) ?_
  refine av ?_
  simp only[go_sem]
  first | (rw[Be hd,e1];done) | (rw[xG hd hk];done) | (rw[qD hd hk];done)
 ·repeat refine sq ?_
  have hd:=uS hb
  refine aA ?_
  repeat refine sq ?_
  refine rx hΓ [19] [] (fun K' hK=>by simp only[go_sem,Q4];(repeat (refine⟨ah,?_⟩));exact hK _ (by simp only[go_sem]) (by simp only[go_sem]<;>rfl)) ?_
  repeat refine sq ?_
  refine aw rfl rfl (fun hb=>?_) (fun hb=>?_)
  ·repeat refine sq ?_
   have hk:dY d t=false:=by simpa using hb
   repeat refine sq ?_
   refine rx hΓ [4] [] (fun K' hK=>by simp only[go_sem];(repeat (refine⟨ah,?_⟩));exact hK _ (by simp only[go_sem]) (by simp only[go_sem]<;>rfl)) ?_
   refine av ?_
   simp only[go_sem]
   first | (rw[Be hd,e1];done) | (rw[xG hd hk];done) | (rw[qD hd hk];done)
  ·repeat refine sq ?_
   have hk:dY d t=true:=by simpa using hb
   refine aA ?_
   repeat refine sq ?_
   refine rx hΓ [4] [] (fun K' hK=>by simp only[go_sem];(repeat (refine⟨ah,?_⟩));exact hK _ (by simp only[go_sem]) (by simp only[go_sem]<;>rfl)) ?_
   refine av ?_
   simp only[go_sem]
   first | (rw[Be hd,e1];done) | (rw[xG hd hk];done) | (rw[qD hd hk];done)
theorem KZ:an Tryd.prog 41 S51:=SS.sound
noncomputable def adn:List (Nat×Spec):=[(77,S39),(90,S84)]
attribute [go_sem] adn
theorem N1{l:List V}{off:Nat}{s:Stk}(h:(l.drop off).take 19=aC s){i:Nat}(hi:i<19):l.getD (off+i) default=(aC s).getD i default:=by
 have hlen:=FV h
 rw[<-h,jS (show off+i<l.length by omega),jS (by rw[List.length_take,List.length_drop];omega)]
 simp
theorem aaZ(d:Dk){i:Nat}(h:i<6):(aq d).getD (1+1+i) default=rowP (d.now.un.get i):=by
 match i,h with
 | 0,_=>rfl
 | 1,_=>rfl
 | 2,_=>rfl
 | 3,_=>rfl
 | 4,_=>rfl
 | 5,_=>rfl
noncomputable def K23:List (Nat×Spec):=[(41,S51)]
attribute [go_sem] K23
noncomputable def adm:List (Nat×Spec):=[]
attribute [go_sem] adm
def fI(d:Dk)(t:Int):Bag:=if o8 d t=true then⟨d.me,t,(aE d).un.get t.toNat,(aE d).ta.get t.toNat⟩else⟨0,0,[],0⟩
theorem yw{d:Dk}{t:Int}(h:ay d=true)(k:dY d t=true):fI d t=⟨d.me,t,(aE d).un.get t.toNat,(aE d).ta.get t.toNat⟩:=if_pos (by unfold o8;rw[h,k];rfl)
theorem yx{d:Dk}{t:Int}(h:o8 d t=false):fI d t=⟨0,0,[],0⟩:=if_neg (by rw[h];decide)
theorem aax{d:Dk}(h:ay d=true){i:Nat}(hi:i<6):(aq d).getD (20+(bj d).toNat*21+1+1+i) default=rowP ((aE d).un.get i):=by
 rw[Nat.add_assoc (20+(bj d).toNat*21+1),N1 (M' h) (show 1+i<19 by omega),dt _ hi]
theorem Av{d:Dk}(h:ay d=true){i:Nat}(hi:i<6):(aq d).getD (20+(bj d).toNat*21+1+13+i) default=vInt ((aE d).ta.get i):=by
 rw[Nat.add_assoc (20+(bj d).toNat*21+1),N1 (M' h) (show 13+i<19 by omega),dN _ hi]
noncomputable def P9:List (Nat×Spec):=[(41,S51),(45,S58),(46,S76)]
theorem adl:∀ f s,tbl P9 f=some s->an Tryd.prog f s:=tc KZ<|tc C8<|tc KT<|tn
attribute [go_sem] P9
noncomputable def P26:PSpec:=p2 dV iI (fun _ _=>True) (fun d t=>.tup [fQ (fI d t),vInt (ep d t)]) false
noncomputable def S26:Spec:=P26.toSpec
attribute [go_sem] P26 S26
set_option maxHeartbeats 4000000 in
theorem S4:aZ Tryd.prog 17 P26:=by
 refine w2 (rs:=[.cell 4 54,.tmp 5]) Tryd.func17 Tryd.ntmps17 (by rfl) (by kernel_rfl) (by decide) (fun h=>by cases h) ⟨_,rfl,lb rfl,fun d t hp hw=>?_⟩
 have hP:=bn
 simp only[dV,iI]at hw |-
 have hΓ:=adl
 repeat refine sq ?_
 refine rx hΓ [1,2,4] [[2,0],[4,0]] (fun K' hK=>by simp only[go_sem];(repeat (refine⟨ah,?_⟩));exact hK _ (by simp only[go_sem]) (by simp only[go_sem]<;>rfl)) ?_
 refine aN (cX [2,0] (aq d) rfl [1,2,4] [[2,0],[4,0]] ?_ rfl) ?_
 ·simp only[go_sem]
 simp only[go_sem]
 repeat refine sq ?_
 refine rx hΓ [1,2,4,6] [[2,0],[4,0]] (fun K' hK=>by simp only[go_sem];(repeat (refine⟨ah,?_⟩));exact hK _ (by simp only[go_sem]) (by simp only[go_sem]<;>rfl)) ?_
 repeat refine sq ?_
 refine rx hΓ [1,2,4,6,12] [[2,0],[4,0]] (fun K' hK=>by simp only[go_sem];(repeat (refine⟨ah,?_⟩));exact hK _ (by simp only[go_sem]) (by simp only[go_sem]<;>rfl)) ?_
 repeat refine sq ?_
 refine aw rfl rfl (fun hb=>?_) (fun hb=>?_)
 ·repeat refine sq ?_
  have hn:=Pd hb
  repeat refine sq ?_
  refine rx hΓ [4,5] [[4,0]] (fun K' hK=>by simp only[go_sem];(repeat (refine⟨ah,?_⟩));exact hK _ (by simp only[go_sem]) (by simp only[go_sem]<;>rfl)) ?_
  refine av ?_
  simp only[go_sem]
  first | (rw[yx hn];done) | (rw[yx hn];rfl) | (rw[yw hd hk,qD hd hk];done) | (rw[yw hd hk,qD hd hk];rfl)
 ·repeat refine sq ?_
  obtain⟨hd,hk⟩:=Pe hb
  obtain⟨uj,oC,ht⟩:=BB hk
  obtain⟨qb,wQ,z6,Mn⟩:=oZ hd
  have hu:=aax hd ht
  have ha:=Av hd ht
  have hz:=Mn.sz.2 t.toNat ht
  refine aA ?_
  repeat refine sq ?_
  refine rx hΓ [1,2,4,7] [[2,0],[4,0]] (fun K' hK=>by simp only[go_sem,qb,wQ];(repeat (refine⟨ah,?_⟩));exact hK _ (by simp only[go_sem]) (by simp only[go_sem]<;>rfl)) ?_
  repeat refine sq ?_
  refine dx hΓ hP [[],[0],[],[],[],[3],[3,5],[3,4,5,6],[3,4,5,6,7],[3,4,5,6,7,8],[],[],[10],[10,12],[10,11,12,13],[10,11,12,13,14],[0,1,2,3,4,5,6,7,8,9,10,11,12,13,14,15],[0,1,2,3,4,5,6,7,8,9,10,11,12,13,14,15,16],[0,1,2,3,4,5,6,7,8,9,10,11,12,13,14,15,16,17]] [4,5] [[4,0]] (by kernel_rfl) (fun K' hK=>by simp only[go_sem,hu,ha,uj,oC,hz,List.append_nil];(repeat (refine⟨ah,?_⟩));(first | refine⟨by rfl,?_⟩ | skip);exact hK _ (by simp only[go_sem]) (by simp only[go_sem]<;>rfl)) ?_
  refine av ?_
  simp only[go_sem]
  first | (rw[yx hn];done) | (rw[yx hn];rfl) | (rw[yw hd hk,qD hd hk];done) | (rw[yw hd hk,qD hd hk];rfl)
theorem K0:an Tryd.prog 17 S26:=S4.sound
noncomputable def adk:List (Nat×Spec):=[]
attribute [go_sem] adk
attribute [go_sem] List.append_nil
def Dk.setP(d:Dk)(i:Nat)(p:Pg):Dk:=match i with
 | 0=>⟨d.me,d.now,p,d.pb,d.wet⟩
 |_=>⟨d.me,d.now,d.pa,p,d.wet⟩
def Dk.setW(d:Dk)(w:Int):Dk:=⟨d.me,d.now,d.pa,d.pb,w⟩
def Dk.setN(d:Dk)(s:Stk):Dk:=⟨d.me,s,d.pa,d.pb,d.wet⟩
theorem Dk.pg_set(d:Dk){i:Nat}(h:i<2)(p:Pg):(d.setP i p).pg i=p:=by
 match i,h with
 | 0,_=>rfl
 | 1,_=>rfl
theorem Dk.set_set(d:Dk){i:Nat}(h:i<2)(p q:Pg):(d.setP i p).setP i q=d.setP i q:=by
 match i,h with
 | 0,_=>rfl
 | 1,_=>rfl
theorem Dk.now_set(d:Dk)(i:Nat)(p:Pg):(d.setP i p).now=d.now:=by
 match i with
 | 0=>rfl
 |_+1=>rfl
theorem aaR(d:Dk)(x:Int):List.take 62 (List.map D.v (aq d))++[D.v (vInt x)]++List.drop 63 (List.map D.v (aq d))=List.map D.v (aq (d.setW x)):=rfl
@[go_sem] theorem agJ(d:Dk)(x:Int):List.take 62 (List.map D.v (aq d))++[D.v (vInt x)]++[]=List.map D.v (aq (d.setW x)):=rfl
@[go_sem] theorem agI(d:Dk)(x:Int):List.take 62 (List.map D.v (aq d))++[D.v (vInt x)]=List.map D.v (aq (d.setW x)):=rfl
theorem aaU(d:Dk){i:Nat}(h:i<2)(c:Int):List.take (20+i*21) (List.map D.v (aq d))++[D.v (vInt c)]++List.drop (20+i*21+1) (List.map D.v (aq d))=List.map D.v (aq (d.setP i ⟨c,(d.pg i).st,(d.pg i).su⟩)):=by
 match i,h with
 | 0,_=>rfl
 | 1,_=>rfl
theorem aaS(d:Dk){i:Nat}(h:i<2)(s:Stk):List.take (20+i*21+1) (List.map D.v (aq d))++List.map D.v (aC s)++List.drop (20+i*21+1+19) (List.map D.v (aq d))=List.map D.v (aq (d.setP i ⟨(d.pg i).co,s,(d.pg i).su⟩)):=by
 match i,h with
 | 0,_=>rfl
 | 1,_=>rfl
theorem NJ(d:Dk){i:Nat}(h:i<2)(c:Int):List.take (20+i*21+20) (List.map D.v (aq d))++[D.v (vInt c)]++List.drop (20+i*21+20+1) (List.map D.v (aq d))=List.map D.v (aq (d.setP i ⟨(d.pg i).co,(d.pg i).st,c⟩)):=by
 match i,h with
 | 0,_=>rfl
 | 1,_=>rfl
theorem aaT(d:Dk)(s:Stk):List.take 1 (List.map D.v (aq d))++List.map D.v (aC s)++List.drop 20 (List.map D.v (aq d))=List.map D.v (aq (d.setN s)):=rfl
def jc(d:Dk):Int:=if d.wet<0 then 1-bj d else d.wet
def mU(d:Dk):Int:=if d.wet<0 then(d.pg (bj d).toNat).co+1 else(d.pg d.wet.toNat).co
def eB(d:Dk):Dk:=(d.setW (jc d)).setP (jc d).toNat ⟨mU d,d.now,dL d.now (mU d)⟩
def eI(d:Dk):Int:=if ay d=true then(if (decide (d.wet<0)&&((d.pg (bj d).toNat).co==99999))=true then 2 else 0)else 92
def cS(d:Dk):Dk:=if eI d=0 then eB d else zD
def eX(d:Dk):Dk:=if ay d=true then d.setW (-1)else zD
def gQ(d:Dk)(n:Int):Bool:=decide (0<=d.wet)&&(n.tmod 2 != 0)
def iP(d:Dk)(n:Int):Dk:=if gQ d n=true then d.setP d.wet.toNat ⟨(d.pg d.wet.toNat).co,(d.pg d.wet.toNat).st,((d.pg d.wet.toNat).su+1).tmod 1000003⟩else d
def Fa(d:Dk)(n:Int):Dk:=((iP d n).setW (-1)).setN (aE ((iP d n).setW (-1)))
def gH(d:Dk)(n:Int):Dk:=if ay d=true then Fa d n else zD
@[go_sem] theorem agS(d:Dk):(List.map D.v (aq d)).getD 62 .any=.v (vInt d.wet):=rfl
@[go_sem] theorem agT(d:Dk):(List.map D.v (aq d)).getD 0 .any=.v (vInt d.me):=rfl
theorem FF(d:Dk){i:Nat}(h:i<2):(List.map D.v (aq d)).getD (20+i*21) .any=.v (vInt (d.pg i).co):=by
 match i,h with
 | 0,_=>rfl
 | 1,_=>rfl
theorem aaX(d:Dk){i:Nat}(h:i<2):(List.map D.v (aq d)).getD (20+i*21+20) .any=.v (vInt (d.pg i).su):=by
 match i,h with
 | 0,_=>rfl
 | 1,_=>rfl
theorem NL(d:Dk){i:Nat}(h:i<2):List.take 19 (List.drop (20+i*21+1) (List.map D.v (aq d)))=List.map D.v (aC (d.pg i).st):=by
 match i,h with
 | 0,_=>rfl
 | 1,_=>rfl
@[go_sem] theorem af9(d:Dk)(x:Int):(d.setW x).wet=x:=rfl
@[go_sem] theorem af'(d:Dk)(x:Int):(d.setW x).now=d.now:=rfl
@[go_sem] theorem RM(d:Dk)(x:Int)(i:Nat):(d.setW x).pg i=d.pg i:=by
  cases i<;>rfl
theorem BV(d:Dk)(i:Nat)(p:Pg):(d.setP i p).wet=d.wet:=by
 cases i<;>rfl
theorem HG(d:Dk)(i:Nat)(p:Pg):(d.setP i p).me=d.me:=by
 cases i<;>rfl
theorem RL(d:Dk):d.setW d.wet=d:=rfl
theorem Qy{d:Dk}(h:ay d=false):cS d=zD/\eI d=92:=by
 have :eI d=92:=if_neg (by rw[h];decide)
 exact⟨if_neg (by rw[this];decide),this⟩
theorem G2{d:Dk}(h:ay d=true)(hw:d.wet<0)(hc:(d.pg (bj d).toNat).co=99999):cS d=zD/\eI d=2:=by
 have :eI d=2:=by unfold eI;rw[if_pos h,if_pos (by rw[hc];simpa using hw)]
 exact⟨if_neg (by rw[this];decide),this⟩
theorem G1{d:Dk}(h:ay d=true)(hw:d.wet<0)(hc:(d.pg (bj d).toNat).co≠99999):cS d=eB d/\eI d=0:=by
 have :eI d=0:=by unfold eI;rw[if_pos h,if_neg (by simp[hc])]
 exact⟨if_pos this,this⟩
theorem G3{d:Dk}(h:ay d=true)(hw:¬ d.wet<0):cS d=eB d/\eI d=0:=by
 have :eI d=0:=by unfold eI;rw[if_pos h,if_neg (by simp[hw])]
 exact⟨if_pos this,this⟩
structure vf (d E:Dk) (a:Int):Prop where
 a0:0<=a
 a2:a<2
 k:a.toNat<2
 wet:E.wet=a
 now:E.now=d.now
 okn:bR (E.pg a.toNat).co
 fin:E.setP a.toNat ⟨(E.pg a.toNat).co,d.now,dL d.now (E.pg a.toNat).co⟩=eB d
theorem tJ{me:Int}{p:Pg}(h:aF me p=true):0<=p.co/\p.co<=99999:=by
 unfold aF at h
 simp only[Bool.and_eq_true]at h
 exact cf.1 h.1.1
theorem AF{d:Dk}(h:ay d=true): -1<=d.wet/\d.wet<=1:=by
 unfold ay iz at h
 simp only[Bool.and_eq_true]at h
 exact cf.1 h.1.2
theorem o3{d:Dk}(h:ay d=true)(hw:¬ d.wet<0):aF d.me d.pa=true/\aF d.me d.pb=true/\d.wet.toNat<2/\d.wet<2/\(d.pg (1-d.wet).toNat).co<(d.pg d.wet.toNat).co:=by
 have hr:=AF h
 unfold ay lq at h
 rw[if_neg hw]at h
 simp only[Bool.and_eq_true,decide_eq_true_eq]at h
 exact⟨h.2.1.1,h.2.1.2,by omega,by omega,h.2.2⟩
theorem It{d:Dk}(ha:aF d.me d.pa=true)(hb:aF d.me d.pb=true):∀ i,aF d.me (d.pg i)=true
 | 0=>ha
 |_+1=>hb
theorem Qt{d:Dk}(h:ay d=true)(hw:¬ d.wet<0):vf d d d.wet:=by
 obtain⟨h1,h2,h3,h4,_⟩:=o3 h hw
 have hp:=tJ (It h1 h2 d.wet.toNat)
 refine⟨by omega,h4,h3,rfl,rfl,⟨hp.1,by omega⟩,?_⟩
 unfold eB jc mU
 rw[if_neg hw,if_neg hw,RL]
theorem Fe{d:Dk}(h:ay d=true):aF d.me (d.pg (bj d).toNat)=true:=by
 rcases E8 d 2 with h1 | h1
 ·have:=(oZ h).1
  have e:bj d= -1:=h1
  omega
 ·exact h1
def nS(d:Dk):Dk:=(d.setW (1-bj d)).setP (1-bj d).toNat ⟨(d.pg (bj d).toNat).co+1,(d.pg (1-bj d).toNat).st,(d.pg (1-bj d).toNat).su⟩
theorem Qr{d:Dk}(h:ay d=true)(hw:d.wet<0)(hc:(d.pg (bj d).toNat).co≠99999):vf d (nS d) (1-bj d)/\IntKind.i64.wrap (1-bj d)=1-bj d/\
 IntKind.i64.wrap ((d.pg (bj d).toNat).co+1)=(d.pg (bj d).toNat).co+1:=by
 obtain⟨qb,wQ,z6,_⟩:=oZ h
 have hp:=tJ (Fe h)
 have hk:(1-bj d).toNat<2:=by omega
 refine⟨⟨by omega,by omega,hk,by unfold nS;rw[BV];rfl,by unfold nS;rw[Dk.now_set];rfl,?_,?_⟩,wrap_i64 (by omega) (by omega),wrap_i64 (by omega) (by omega)⟩
 ·unfold nS
  rw[Dk.pg_set _ hk]
  exact⟨by show 0<=(d.pg (bj d).toNat).co+1;omega,by show (d.pg (bj d).toNat).co+1<=1000000;omega⟩
 ·unfold nS eB jc mU
  rw[if_pos hw,if_pos hw,Dk.pg_set _ hk,Dk.set_set _ hk]
attribute [go_sem] tG
theorem GU{d E:Dk}{a:Int}(H:vf d E a):List.take (20+a.toNat*21+1) (List.map D.v (aq E))++List.map D.v (aC d.now)++List.drop (20+a.toNat*21+1+19) (List.map D.v (aq E))=List.map D.v (aq (E.setP a.toNat ⟨(E.pg a.toNat).co,d.now,(E.pg a.toNat).su⟩)):=aaS E H.k d.now
theorem GR{d E:Dk}{a:Int}(H:vf d E a):List.take 19 (List.drop (20+a.toNat*21+1) (List.map D.v (aq (E.setP a.toNat ⟨(E.pg a.toNat).co,d.now,(E.pg a.toNat).su⟩))))=List.map D.v (aC d.now):=by
 rw[NL _ H.k,Dk.pg_set _ H.k]
theorem GV{d E:Dk}{a:Int}(H:vf d E a):(List.map D.v (aq (E.setP a.toNat ⟨(E.pg a.toNat).co,d.now,(E.pg a.toNat).su⟩))).getD (20+a.toNat*21) .any=.v (vInt (E.pg a.toNat).co):=by
 rw[FF _ H.k,Dk.pg_set _ H.k]
theorem GS{d E:Dk}{a:Int}(H:vf d E a):List.take (20+a.toNat*21+20) (List.map D.v (aq (E.setP a.toNat ⟨(E.pg a.toNat).co,d.now,(E.pg a.toNat).su⟩)))++[D.v (vInt (dL d.now (E.pg a.toNat).co))]++
 List.drop (20+a.toNat*21+20+1) (List.map D.v (aq (E.setP a.toNat ⟨(E.pg a.toNat).co,d.now,(E.pg a.toNat).su⟩)))=List.map D.v (aq (eB d)):=by
 rw[NJ _ H.k,Dk.pg_set _ H.k,Dk.set_set _ H.k,H.fin]
noncomputable def P6:List (Nat×Spec):=[(39,S23),(43,S53),(45,S58),(37,S59),(38,S60)]
theorem adi:∀ f s,tbl P6 f=some s->an Tryd.prog f s:=tc rE<|tc C9<|tc C8<|tc zh<|tc zg<|tn
attribute [go_sem] P6
noncomputable def P10:PSpec:=p1 dV (fun d=>dZ d) (fun d=>.tup [encDk (cS d),vInt (eI d)]) false
noncomputable def S10:Spec:=P10.toSpec
attribute [go_sem] P10 S10
set_option maxHeartbeats 4000000 in
theorem Tp:aZ Tryd.prog 15 P10:=by
 refine w1 (rs:=[.cell 2 44,.tmp 3]) Tryd.func15 Tryd.ntmps15 (by rfl) (by kernel_rfl) (by decide) (fun h=>by cases h) ⟨_,rfl,lb rfl,fun d hp hw=>?_⟩
 have hP:=bn
 simp only[dV]at hw |-
 have hΓ:=adi
 have hs:dZ d:=hp
 repeat refine sq ?_
 refine rx hΓ [1,2] [[1,0],[2,0]] (fun K' hK=>by simp only[go_sem];(repeat (refine⟨ah,?_⟩));exact hK _ (by simp only[go_sem]) (by simp only[go_sem]<;>rfl)) ?_
 refine aN (nU [2,0] _ (aq zD) rfl rfl [1,2] [[1,0],[2,0]] ?_ rfl) ?_
 ·simp only[go_sem]
 simp only[go_sem]
 refine aN (cX [1,0] (aq d) rfl [1,2] [[1,0],[2,0]] ?_ rfl) ?_
 ·simp only[go_sem]
 simp only[go_sem]
 repeat refine sq ?_
 refine rx hΓ [1,2,4] [[1,0],[2,0]] (fun K' hK=>by simp only[go_sem];(repeat (refine⟨ah,?_⟩));exact hK _ (by simp only[go_sem]) (by simp only[go_sem]<;>rfl)) ?_
 repeat refine sq ?_
 refine rx hΓ [1,2,4,11] [[1,0],[2,0]] (fun K' hK=>by simp only[go_sem];(repeat (refine⟨ah,?_⟩));exact hK _ (by simp only[go_sem]) (by simp only[go_sem]<;>rfl)) ?_
 repeat refine sq ?_
 refine aw rfl rfl (fun hb=>?_) (fun hb=>?_)
 ·repeat refine sq ?_
  have hd:=uT hb
  have hq:=Qy hd
  have e1:=ky hd
  repeat refine sq ?_
  refine rx hΓ [2,3] [[2,0]] (fun K' hK=>by simp only[go_sem,List.append_nil];(repeat (refine⟨ah,?_⟩));exact hK _ (by simp only[go_sem]) (by simp only[go_sem]<;>rfl)) ?_
  refine av ?_
  simp only[go_sem]
  first | (rw[hq.1,hq.2];done) | (rw[hq.1,hq.2];rfl) | (rw[hq.1,hq.2,e1];done) | (rw[hq.1,hq.2,e1];rfl)
 ·repeat refine sq ?_
  have hd:=uS hb
  obtain⟨qb,wQ,z6,Mn⟩:=oZ hd
  have pS:=(yQ hd)
  refine aA ?_
  repeat refine sq ?_
  refine rx hΓ [1,2,5] [[1,0],[2,0],[22,0,15,0]] (fun K' hK=>by simp only[go_sem,hs,List.append_nil];(repeat (refine⟨ah,?_⟩));exact hK _ (by simp only[go_sem]) (by simp only[go_sem]<;>rfl)) ?_
  repeat refine sq ?_
  refine rx hΓ [2,5,6] [[2,0],[22,0,15,0]] (fun K' hK=>by simp only[go_sem];(repeat (refine⟨ah,?_⟩));exact hK _ (by simp only[go_sem]) (by simp only[go_sem]<;>rfl)) ?_
  repeat refine sq ?_
  refine rx hΓ [2,5,6,23] [[2,0],[22,0,15,0]] (fun K' hK=>by simp only[go_sem,Nat.add_zero];(repeat (refine⟨ah,?_⟩));exact hK _ (by simp only[go_sem]) (by simp only[go_sem]<;>rfl)) ?_
  repeat refine sq ?_
  refine aw rfl rfl (fun hb=>?_) (fun hb=>?_)
  ·repeat refine sq ?_
   have hw:d.wet<0:=by simpa using hb
   have qc:=FF d z6
   repeat refine sq ?_
   refine rx hΓ [2,5,6,32] [[2,0],[22,0,15,0]] (fun K' hK=>by simp only[go_sem,Nat.add_zero,qb,wQ,qc];(repeat (refine⟨ah,?_⟩));exact hK _ (by simp only[go_sem]) (by simp only[go_sem]<;>rfl)) ?_
   repeat refine sq ?_
   refine aw rfl rfl (fun hb=>?_) (fun hb=>?_)
   ·repeat refine sq ?_
    have hc:(d.pg (bj d).toNat).co=99999:=by simpa using hb
    have hq:=G2 hd hw hc
    repeat refine sq ?_
    refine rx hΓ [2,3] [[2,0]] (fun K' hK=>by simp only[go_sem,List.append_nil];(repeat (refine⟨ah,?_⟩));exact hK _ (by simp only[go_sem]) (by simp only[go_sem]<;>rfl)) ?_
    refine av ?_
    simp only[go_sem]
    first | (rw[hq.1,hq.2];done) | (rw[hq.1,hq.2];rfl) | (rw[hq.1,hq.2,e1];done) | (rw[hq.1,hq.2,e1];rfl)
   ·repeat refine sq ?_
    have hc:(d.pg (bj d).toNat).co≠99999:=by simpa using hb
    have hq:=G1 hd hw hc
    obtain⟨H,w1,w2⟩:=Qr hd hw hc
    have qj:∀ (F:Name->Option O) (t:Name),F [22,0,15,0]=some (.box ((aq (nS d)).map .v))->S59.app (fun nm=>if own [0] nm=true then F nm else none) t [.ref [22,0,15,0] 1]=⟨True,.v (.agg (aC d.now)),fun nm=>if own [0] nm=true then F nm else none⟩:=fun F t h=>tC (s:=d.now) (L:=aq (nS d)) (off:=1) h (by rw[xn,H.now]) hs.now
    have yv:=H.a0;have yu:=H.a2;have qS:=GU H;have qT:=GR H;have qC:=GV H;have qU:=GS H;have qO:=H.okn
    have qw:(nS d).wet=1-bj d:=H.wet
    have qd:=FF (d.setW (1-bj d)) z6
    have qe:List.take (20+(1-bj d).toNat*21) (List.map D.v (aq (d.setW (1-bj d))))++[D.v (vInt ((d.pg (bj d).toNat).co+1))]++List.drop (20+(1-bj d).toNat*21+1) (List.map D.v (aq (d.setW (1-bj d))))=List.map D.v (aq (nS d)):=by rw[aaU _ H.k,RM];rfl
    refine aA ?_
    repeat refine sq ?_
    refine rx hΓ [2,5,6] [[2,0],[22,0,15,0]] (fun K' hK=>by simp only[go_sem,w1,aaR];(repeat (refine⟨ah,?_⟩));exact hK _ (by simp only[go_sem]) (by simp only[go_sem]<;>rfl)) ?_
    repeat refine sq ?_
    refine dx hΓ hP [[],[],[1],[1,2],[1,2,3],[1,2,3,4],[],[],[6],[6,8],[6,8,9],[6,7,8,9,10],[6,7,8,9,10,11],[6,7,8,9,10,11,12],[6,7,8,9,10,11,12,13],[0],[0,15],[0,15,16],[0,1,2,3,4,5,6,7,8,9,10,11,12,13,14,15,16,17],[0,1,2,3,4,5,6,7,8,9,10,11,12,13,14,15,16,17,18],[0,1,2,3,4,5,6,7,8,9,10,11,12,13,14,15,16,17,18,19]] [2,5] [[2,0],[22,0,15,0]] (by kernel_rfl) (fun K' hK=>by simp only[go_sem,Nat.add_zero,qb,wQ,qd,w2,yv,yu,qe];(repeat (refine⟨ah,?_⟩));(first | refine⟨by rfl,?_⟩ | skip);exact hK _ (by simp only[go_sem]) (by simp only[go_sem]<;>rfl)) ?_
    repeat refine sq ?_
    refine dx hΓ hP [[],[],[1],[1,2],[1,2,3],[1,2,3,4],[0],[0,6],[0,6,7],[0,1,2,3,4,5,6,7,8],[0,1,2,3,4,5,6,7,8,9]] [2,5,7] [[2,0],[22,0,15,0]] (by kernel_rfl) (fun K' hK=>by simp only[go_sem,yv,yu,qw];(repeat (refine⟨ah,?_⟩));(first | refine⟨by rfl,?_⟩ | skip);exact hK _ (by simp only[go_sem]) (by simp only[go_sem]<;>rfl)) ?_
    repeat refine sq ?_
    refine rx hΓ [2,5,7] [[2,0],[22,0,15,0]] (fun K' hK=>by simp only[go_sem,qj,qS];(repeat (refine⟨ah,?_⟩));exact hK _ (by simp only[go_sem]) (by simp only[go_sem]<;>rfl)) ?_
    repeat refine sq ?_
    refine dx hΓ hP [[],[],[1],[1,2],[1,2,3],[],[5],[5,6],[5,6,7],[1,2,3,4,5,6,7,8],[0,1,2,3,4,5,6,7,8,9],[0,1,2,3,4,5,6,7,8,9,10],[0,1,2,3,4,5,6,7,8,9,10,11]] [2,5] [[2,0],[22,0,15,0]] (by kernel_rfl) (fun K' hK=>by simp only[go_sem,Nat.add_zero,qT,qC,qU];(repeat (refine⟨by first | exact⟨pS,qO⟩ | exact ah,?_⟩));(first | refine⟨by rfl,?_⟩ | skip);exact hK _ (by simp only[go_sem]) (by simp only[go_sem]<;>rfl)) ?_
    repeat refine sq ?_
    refine rx hΓ [2,3] [[2,0]] (fun K' hK=>by simp only[go_sem,List.append_nil];(repeat (refine⟨ah,?_⟩));exact hK _ (by simp only[go_sem]) (by simp only[go_sem]<;>rfl)) ?_
    refine av ?_
    simp only[go_sem]
    first | (rw[hq.1,hq.2];done) | (rw[hq.1,hq.2];rfl) | (rw[hq.1,hq.2,e1];done) | (rw[hq.1,hq.2,e1];rfl)
  ·repeat refine sq ?_
   have hw:¬ d.wet<0:=by simpa using hb
   have H:=Qt hd hw
   have qw:True:=trivial
   have hq:=G3 hd hw
   have qj:∀ (F:Name->Option O) (t:Name),F [22,0,15,0]=some (.box ((aq d).map .v))->S59.app (fun nm=>if own [0] nm=true then F nm else none) t [.ref [22,0,15,0] 1]=⟨True,.v (.agg (aC d.now)),fun nm=>if own [0] nm=true then F nm else none⟩:=fun F t h=>tC (s:=d.now) (L:=aq d) (off:=1) h (xn d) hs.now
   have yv:=H.a0;have yu:=H.a2;have qS:=GU H;have qT:=GR H;have qC:=GV H;have qU:=GS H;have qO:=H.okn
   refine aA ?_
   repeat refine sq ?_
   refine dx hΓ hP [[],[],[1],[1,2],[1,2,3],[1,2,3,4],[0],[0,6],[0,6,7],[0,1,2,3,4,5,6,7,8],[0,1,2,3,4,5,6,7,8,9]] [2,5,7] [[2,0],[22,0,15,0]] (by kernel_rfl) (fun K' hK=>by simp only[go_sem,yv,yu,qw];(repeat (refine⟨ah,?_⟩));(first | refine⟨by rfl,?_⟩ | skip);exact hK _ (by simp only[go_sem]) (by simp only[go_sem]<;>rfl)) ?_
   repeat refine sq ?_
   refine rx hΓ [2,5,7] [[2,0],[22,0,15,0]] (fun K' hK=>by simp only[go_sem,qj,qS];(repeat (refine⟨ah,?_⟩));exact hK _ (by simp only[go_sem]) (by simp only[go_sem]<;>rfl)) ?_
   repeat refine sq ?_
   refine dx hΓ hP [[],[],[1],[1,2],[1,2,3],[],[5],[5,6],[5,6,7],[1,2,3,4,5,6,7,8],[0,1,2,3,4,5,6,7,8,9],[0,1,2,3,4,5,6,7,8,9,10],[0,1,2,3,4,5,6,7,8,9,10,11]] [2,5] [[2,0],[22,0,15,0]] (by kernel_rfl) (fun K' hK=>by simp only[go_sem,Nat.add_zero,qT,qC,qU];(repeat (refine⟨by first | exact⟨pS,qO⟩ | exact ah,?_⟩));(first | refine⟨by rfl,?_⟩ | skip);exact hK _ (by simp only[go_sem]) (by simp only[go_sem]<;>rfl)) ?_
   repeat refine sq ?_
   refine rx hΓ [2,3] [[2,0]] (fun K' hK=>by simp only[go_sem,List.append_nil];(repeat (refine⟨ah,?_⟩));exact hK _ (by simp only[go_sem]) (by simp only[go_sem]<;>rfl)) ?_
   refine av ?_
   simp only[go_sem]
   first | (rw[hq.1,hq.2];done) | (rw[hq.1,hq.2];rfl) | (rw[hq.1,hq.2,e1];done) | (rw[hq.1,hq.2,e1];rfl)
theorem Ld:an Tryd.prog 15 S10:=Tp.sound
noncomputable def adh:List (Nat×Spec):=[(77,S39),(94,S63)]
attribute [go_sem] adh
theorem kx{d:Dk}(h:ay d=true):eX d=d.setW (-1):=if_pos h
theorem AA{d:Dk}(h:ay d=false):eX d=zD:=if_neg (by rw[h];decide)
theorem nG{d:Dk}{n:Int}(h:ay d=true):gH d n=Fa d n:=if_pos h
theorem uM{d:Dk}{n:Int}(h:ay d=false):gH d n=zD:=if_neg (by rw[h];decide)
theorem nW{d:Dk}{n:Int}(h:gQ d n=true):iP d n=d.setP d.wet.toNat ⟨(d.pg d.wet.toNat).co,(d.pg d.wet.toNat).st,((d.pg d.wet.toNat).su+1).tmod 1000003⟩:=if_pos h
theorem nh{d:Dk}{n:Int}(h:gQ d n=false):iP d n=d:=if_neg (by rw[h];decide)
theorem vv{d:Dk}{n:Int}(h:gQ d n=true):¬ d.wet<0:=by
 unfold gQ at h
 simp only[Bool.and_eq_true,decide_eq_true_eq]at h
 omega
theorem Iv{me:Int}{p:Pg}(h:aF me p=true):0<=p.su/\p.su<1000003:=by
 have hc:=tJ h
 unfold aF at h
 simp only[Bool.and_eq_true,beq_iff_eq]at h
 rw[h.2]
 exact x8 ⟨hc.1,by omega⟩ _
theorem yz{me:Int}{p:Pg}(h:aF me p=true):aF me ⟨p.co,p.st,(p.su+1).tmod 1000003⟩=false:=by
 obtain⟨h1,h2⟩:=Iv h
 unfold aF at h |-
 simp only[Bool.and_eq_true,beq_iff_eq]at h
 have aj:(p.su+1).tmod 1000003≠p.su:=by
  rw[Int.tmod_eq_emod_of_nonneg (by omega)]
  omega
 have :((p.su+1).tmod 1000003==dL p.st p.co)=false:=by
  rw[beq_eq_false_iff_ne,<-h.2];exact aj
 rw[this,Bool.and_false]
theorem E9{d:Dk}{n:Int}(h:ay d=true):ay ((iP d n).setW (-1))=true:=by
 have hh:=h
 unfold ay iz at hh
 simp only[Bool.and_eq_true]at hh
 obtain⟨⟨hs,_⟩,X'⟩:=hh
 have oH:∀ e:Dk,(e.setW (-1)).wet<0:=fun e=>by show (-1:Int)<0;omega
 unfold ay
 rw[mV (oH _)]
 have Zp:iz ((iP d n).setW (-1))=true:=by
  unfold iz
  have e1:((iP d n).setW (-1)).me=d.me:=by
   cases hb:gQ d n
   ·rw[nh hb];rfl
   ·rw[nW hb];exact HG _ _ _
  have e2:((iP d n).setW (-1)).now=d.now:=by
   cases hb:gQ d n
   ·rw[nh hb];rfl
   ·rw[nW hb];exact Dk.now_set _ _ _
  rw[e1,e2,hs];rfl
 rw[Zp,Bool.true_and]
 cases hb:gQ d n with
 |false=>
  rw[nh hb]
  show ((aF d.me d.pa||aF d.me d.pb)&&!((aF d.me d.pa&&aF d.me d.pb)&&(d.pa.co==d.pb.co)))=true
  by_cases hw:d.wet<0
  ·rw[<-mV hw];exact X'
  ·obtain⟨h1,h2,h3,h4,h5⟩:=o3 h hw
   rw[h1,h2]
   have aj:(d.pa.co==d.pb.co)=false:=by
    rw[beq_eq_false_iff_ne]
    have gX:d.wet=0\/d.wet=1:=by omega
    rcases gX with e | e<;>rw[e]at h5
    ·have oX:d.pb.co<d.pa.co:=h5
     omega
    ·have oX:d.pa.co<d.pb.co:=h5
     omega
   rw[aj];rfl
 |true=>
  have hw:=vv hb
  rw[nW hb]
  obtain⟨h1,h2,h3,h4,_⟩:=o3 h hw
  have gX:d.wet=0\/d.wet=1:=by omega
  rcases gX with e | e<;>rw[e]
  ·show ((aF d.me ⟨d.pa.co,d.pa.st,(d.pa.su+1).tmod 1000003⟩||aF d.me d.pb)&&!((aF d.me ⟨d.pa.co,d.pa.st,(d.pa.su+1).tmod 1000003⟩&&aF d.me d.pb)&&(d.pa.co==d.pb.co)))=true
   rw[yz h1,h2];rfl
  ·show ((aF d.me d.pa||aF d.me ⟨d.pb.co,d.pb.st,(d.pb.su+1).tmod 1000003⟩)&&!((aF d.me d.pa&&aF d.me ⟨d.pb.co,d.pb.st,(d.pb.su+1).tmod 1000003⟩)&&(d.pa.co==d.pb.co)))=true
   rw[yz h2,h1];rfl
noncomputable def P4:List (Nat×Spec):=[(39,S23),(43,S53)]
theorem adg:∀ f s,tbl P4 f=some s->an Tryd.prog f s:=tc rE<|tc C9<|tn
attribute [go_sem] P4
noncomputable def P12:PSpec:=p1 dV (fun d=>dZ d) (fun d=>.tup [encDk (eX d),vInt (k9 d)]) false
noncomputable def S12:Spec:=P12.toSpec
attribute [go_sem] P12 S12
set_option maxHeartbeats 4000000 in
theorem Td:aZ Tryd.prog 16 P12:=by
 refine w1 (rs:=[.cell 2 44,.tmp 3]) Tryd.func16 Tryd.ntmps16 (by rfl) (by kernel_rfl) (by decide) (fun h=>by cases h) ⟨_,rfl,lb rfl,fun d hp hw=>?_⟩
 have hP:=bn
 simp only[dV]at hw |-
 have hΓ:=adg
 have hs:dZ d:=hp
 repeat refine sq ?_
 refine rx hΓ [1,2] [[1,0],[2,0]] (fun K' hK=>by simp only[go_sem];(repeat (refine⟨ah,?_⟩));exact hK _ (by simp only[go_sem]) (by simp only[go_sem]<;>rfl)) ?_
 refine aN (nU [2,0] _ (aq zD) rfl rfl [1,2] [[1,0],[2,0]] ?_ rfl) ?_
 ·simp only[go_sem]
 simp only[go_sem]
 refine aN (cX [1,0] (aq d) rfl [1,2] [[1,0],[2,0]] ?_ rfl) ?_
 ·simp only[go_sem]
 simp only[go_sem]
 repeat refine sq ?_
 refine rx hΓ [1,2,4] [[1,0],[2,0]] (fun K' hK=>by simp only[go_sem];(repeat (refine⟨ah,?_⟩));exact hK _ (by simp only[go_sem]) (by simp only[go_sem]<;>rfl)) ?_
 repeat refine sq ?_
 refine rx hΓ [1,2,4,9] [[1,0],[2,0]] (fun K' hK=>by simp only[go_sem];(repeat (refine⟨ah,?_⟩));exact hK _ (by simp only[go_sem]) (by simp only[go_sem]<;>rfl)) ?_
 repeat refine sq ?_
 refine aw rfl rfl (fun hb=>?_) (fun hb=>?_)
 ·repeat refine sq ?_
  have hd:=uT hb
  repeat refine sq ?_
  refine rx hΓ [2,3] [[2,0]] (fun K' hK=>by simp only[go_sem,List.append_nil];(repeat (refine⟨ah,?_⟩));exact hK _ (by simp only[go_sem]) (by simp only[go_sem]<;>rfl)) ?_
  refine av ?_
  simp only[go_sem]
  first | (rw[AA hd];done) | (rw[AA hd];rfl) | (rw[kx hd,fw hd];done) | (rw[kx hd,fw hd];rfl)
 ·repeat refine sq ?_
  have hd:=uS hb
  refine aA ?_
  repeat refine sq ?_
  refine rx hΓ [2,5] [[2,0],[22,0,13,0]] (fun K' hK=>by simp only[go_sem,hs,List.append_nil];(repeat (refine⟨ah,?_⟩));exact hK _ (by simp only[go_sem]) (by simp only[go_sem]<;>rfl)) ?_
  repeat refine sq ?_
  refine rx hΓ [2,5] [[2,0],[22,0,13,0]] (fun K' hK=>by simp only[go_sem,List.append_nil];(repeat (refine⟨ah,?_⟩));exact hK _ (by simp only[go_sem]) (by simp only[go_sem]<;>rfl)) ?_
  repeat refine sq ?_
  refine rx hΓ [2,3] [[2,0]] (fun K' hK=>by simp only[go_sem,List.append_nil];(repeat (refine⟨ah,?_⟩));exact hK _ (by simp only[go_sem]) (by simp only[go_sem]<;>rfl)) ?_
  refine av ?_
  simp only[go_sem]
  first | (rw[AA hd];done) | (rw[AA hd];rfl) | (rw[kx hd,fw hd];done) | (rw[kx hd,fw hd];rfl)
theorem K8:an Tryd.prog 16 S12:=Td.sound
noncomputable def adf:List (Nat×Spec):=[(77,S39)]
attribute [go_sem] adf
noncomputable def P21:PSpec:=p2 iI iI (fun n m=>0<m/\m<=1000000) (fun n m=>vInt (n % m)) true
noncomputable def S21:Spec:=P21.toSpec
attribute [go_sem] P21 S21
theorem S6:aZ Tryd.prog 12 P21:=by
 refine w2 (rs:=[.tmp 4]) Tryd.func12 Tryd.ntmps12 (by rfl) (by kernel_rfl) (by decide) (fun _ _ _=>rfl) ⟨_,rfl,lb rfl,fun n m hp hw=>?_⟩
 have hP:=bn
 simp only[iI]at hw |-
 have hΓ:=@nk Tryd.prog
 obtain⟨hm,gj⟩:=hp
 have h0:m≠0:=by omega
 have bV: -m<n.tmod m/\n.tmod m<m:=⟨Int.lt_tmod_of_pos _ hm,Int.tmod_lt_of_pos _ hm⟩
 have w2:IntKind.i64.wrap (n.tmod m+m)=n.tmod m+m:=wrap_i64 (by omega) (by omega)
 have e1:(n.tmod m+m).tmod m=n % m:=by
  rw[Int.tmod_eq_emod_of_nonneg (by omega),Int.add_emod_right]
  have h1:=Int.tmod_add_mul_tdiv n m
  have h2:(n.tmod m+m*n.tdiv m) % m=n.tmod m % m:=Int.add_mul_emod_self_left _ _ _
  rw[<-h2,h1]
 repeat refine sq ?_
 refine rx hΓ [0,1] [] (fun K' hK=>by simp only[go_sem];(repeat (refine⟨ah,?_⟩));exact hK _ (by simp only[go_sem]) (by simp only[go_sem]<;>rfl)) ?_
 repeat refine sq ?_
 refine rx hΓ [4] [] (fun K' hK=>by simp only[go_sem,w2,e1,h0,ne_eq,not_false_eq_true];(repeat (refine⟨by first | exact ah | exact h0,?_⟩));exact hK _ (by simp only[go_sem]) (by simp only[go_sem]<;>rfl)) ?_
 refine av ?_
 simp only[go_sem]
 skip
theorem K3:an Tryd.prog 12 S21:=S6.sound
def iW(d:Dk)(n:Int):Dk:=(iP d n).setW (-1)
structure FlF (d:Dk) (n:Int):Prop where
 f0:0<=bj (iW d n)
 f2:bj (iW d n)<2
 k:(bj (iW d n)).toNat<2
 sz:kG (aE (iW d n))
theorem aaC{d:Dk}{n:Int}(h:ay d=true):FlF d n:=by
 obtain⟨h1,h2,h3,h4⟩:=oZ (E9 (n:=n) h)
 exact⟨h1,h2,h3,h4.sz⟩
theorem aaA(d:Dk)(n:Int):List.take 1 (List.map D.v (aq (iW d n)))++List.map D.v (aC (aE (iW d n)))++List.drop 20 (List.map D.v (aq (iW d n)))=List.map D.v (aq (Fa d n)):=aaT (iW d n) (aE (iW d n))
theorem HC{d:Dk}{n:Int}:gQ d n=(if (decide (d.wet>=0))=true then(n.tmod 2 != 0)else false):=by
 unfold gQ
 by_cases h:0<=d.wet
 ·rw[decide_eq_true h];rfl
 ·rw[decide_eq_false h];rfl
noncomputable def P3:List (Nat×Spec):=[(39,S23),(43,S53),(45,S58),(37,S59)]
theorem ade:∀ f s,tbl P3 f=some s->an Tryd.prog f s:=tc rE<|tc C9<|tc C8<|tc zh<|tn
attribute [go_sem] P3
noncomputable def P14:PSpec:=p2 dV iI (fun d _=>dZ d) (fun d n=>.tup [encDk (gH d n),vInt (k9 d)]) false
noncomputable def S14:Spec:=P14.toSpec
attribute [go_sem] P14 S14
set_option maxHeartbeats 4000000 in
theorem S':aZ Tryd.prog 31 P14:=by
 refine w2 (rs:=[.cell 4 44,.tmp 5]) Tryd.func31 Tryd.ntmps31 (by rfl) (by kernel_rfl) (by decide) (fun h=>by cases h) ⟨_,rfl,lb rfl,fun d n hp hw=>?_⟩
 have hP:=bn
 simp only[dV,iI]at hw |-
 have hΓ:=ade
 have hs:dZ d:=hp
 repeat refine sq ?_
 refine rx hΓ [1,2,4] [[2,0],[4,0]] (fun K' hK=>by simp only[go_sem];(repeat (refine⟨ah,?_⟩));exact hK _ (by simp only[go_sem]) (by simp only[go_sem]<;>rfl)) ?_
 refine aN (nU [4,0] _ (aq zD) rfl rfl [1,2,4] [[2,0],[4,0]] ?_ rfl) ?_
 ·simp only[go_sem]
 simp only[go_sem]
 refine aN (cX [2,0] (aq d) rfl [1,2,4] [[2,0],[4,0]] ?_ rfl) ?_
 ·simp only[go_sem]
 simp only[go_sem]
 repeat refine sq ?_
 refine rx hΓ [1,2,4,6] [[2,0],[4,0]] (fun K' hK=>by simp only[go_sem];(repeat (refine⟨ah,?_⟩));exact hK _ (by simp only[go_sem]) (by simp only[go_sem]<;>rfl)) ?_
 repeat refine sq ?_
 refine rx hΓ [1,2,4,6,12] [[2,0],[4,0]] (fun K' hK=>by simp only[go_sem];(repeat (refine⟨ah,?_⟩));exact hK _ (by simp only[go_sem]) (by simp only[go_sem]<;>rfl)) ?_
 repeat refine sq ?_
 refine aw rfl rfl (fun hb=>?_) (fun hb=>?_)
 ·repeat refine sq ?_
  have hd:=uT hb
  repeat refine sq ?_
  refine rx hΓ [4,5] [[4,0]] (fun K' hK=>by simp only[go_sem];(repeat (refine⟨ah,?_⟩));exact hK _ (by simp only[go_sem]) (by simp only[go_sem]<;>rfl)) ?_
  refine av ?_
  simp only[go_sem]
  first | (rw[uM hd];done) | (rw[uM hd];rfl) | (rw[nG hd,fw hd];done) | (rw[nG hd,fw hd];rfl)
 ·repeat refine sq ?_
  have hd:=uS hb
  have HF:=aaC (n:=n) hd
  have g0:=HF.f0;have g2:=HF.f2;have gk:=HF.k;have gN:=aaA d n
  have qj:∀ (F:Name->Option O) (t:Name),F [22,0,16,0]=some (.box ((aq (iW d n)).map .v))->S59.app (fun nm=>if own [0] nm=true then F nm else none) t [.ref [22,0,16,0] (20+(bj (iW d n)).toNat*21+1)]=⟨True,.v (.agg (aC (aE (iW d n)))),fun nm=>if own [0] nm=true then F nm else none⟩:=fun F t h=>tC (s:=aE (iW d n)) (L:=aq (iW d n)) h (FG _ gk) HF.sz
  refine aA ?_
  repeat refine sq ?_
  refine rx hΓ [1,4,7] [[4,0],[22,0,16,0]] (fun K' hK=>by simp only[go_sem,hs];(repeat (refine⟨ah,?_⟩));exact hK _ (by simp only[go_sem]) (by simp only[go_sem]<;>rfl)) ?_
  repeat refine sq ?_
  refine rx hΓ [4,7,27] [[4,0],[22,0,16,0]] (fun K' hK=>by simp only[go_sem,Nat.add_zero];(repeat (refine⟨ah,?_⟩));exact hK _ (by simp only[go_sem]) (by simp only[go_sem]<;>rfl)) ?_
  repeat refine sq ?_
  refine aw rfl rfl (fun hb=>?_) (fun hb=>?_)
  ·repeat refine sq ?_
   have oD:gQ d n=true:=by rw[HC];simpa using hb
   have hw:=vv oD
   obtain⟨b1,b2,b3,b4,_⟩:=o3 hd hw
   have b0:0<=d.wet:=by omega
   have hu:=Iv (It b1 b2 d.wet.toNat)
   have u1:=aaX d b3
   have u2:IntKind.i64.wrap ((d.pg d.wet.toNat).su+1)=(d.pg d.wet.toNat).su+1:=wrap_i64 (by omega) (by omega)
   have u3:List.take (20+d.wet.toNat*21+20) (List.map D.v (aq d))++[D.v (vInt (((d.pg d.wet.toNat).su+1).tmod 1000003))]++List.drop (20+d.wet.toNat*21+20+1) (List.map D.v (aq d))=List.map D.v (aq (iP d n)):=by rw[NJ d b3,nW oD]
   have u4:(iP d n).setW (-1)=iW d n:=rfl
   repeat refine sq ?_
   refine dx hΓ hP [[],[],[1],[1,2],[1,2,3],[1,2,3,4],[0],[0,6],[0,6,7],[0,1,2,3,4,5,6,7,8],[0,1,2,3,4,5,6,7,8,9]] [4,7,8] [[4,0],[22,0,16,0]] (by kernel_rfl) (fun K' hK=>by simp only[go_sem,b0,b4];(repeat (refine⟨ah,?_⟩));(first | refine⟨by rfl,?_⟩ | skip);exact hK _ (by simp only[go_sem]) (by simp only[go_sem]<;>rfl)) ?_
   repeat refine sq ?_
   refine rx hΓ [4,7] [[4,0],[22,0,16,0]] (fun K' hK=>by simp only[go_sem,u1,u2,u3];(repeat (refine⟨ah,?_⟩));exact hK _ (by simp only[go_sem]) (by simp only[go_sem]<;>rfl)) ?_
   repeat refine sq ?_
   refine rx hΓ [4,7] [[4,0],[22,0,16,0]] (fun K' hK=>by simp only[go_sem,u4];(repeat (refine⟨ah,?_⟩));exact hK _ (by simp only[go_sem]) (by simp only[go_sem]<;>rfl)) ?_
   repeat refine sq ?_
   refine dx hΓ hP [[],[],[],[2],[2,3],[2,3,4],[2,3,4,5],[1],[1,7],[1,7,8],[1,2,3,4,5,6,7,8,9],[1,2,3,4,5,6,7,8,9,10],[1,2,3,4,5,6,7,8,9,10,11],[0,1,2,3,4,5,6,7,8,9,10,11,12],[0,1,2,3,4,5,6,7,8,9,10,11,12,13],[0,1,2,3,4,5,6,7,8,9,10,11,12,13,14],[0,1,2,3,4,5,6,7,8,9,10,11,12,13,14,15]] [4,7] [[4,0],[22,0,16,0]] (by kernel_rfl) (fun K' hK=>by simp only[go_sem,g0,g2,qj,gN];(repeat (refine⟨ah,?_⟩));(first | refine⟨by rfl,?_⟩ | skip);exact hK _ (by simp only[go_sem]) (by simp only[go_sem]<;>rfl)) ?_
   repeat refine sq ?_
   refine rx hΓ [4,5] [[4,0]] (fun K' hK=>by simp only[go_sem];(repeat (refine⟨ah,?_⟩));exact hK _ (by simp only[go_sem]) (by simp only[go_sem]<;>rfl)) ?_
   refine av ?_
   simp only[go_sem]
   first | (rw[uM hd];done) | (rw[uM hd];rfl) | (rw[nG hd,fw hd];done) | (rw[nG hd,fw hd];rfl)
  ·repeat refine sq ?_
   have oD:gQ d n=false:=by rw[HC];simpa using hb
   have u4:d.setW (-1)=iW d n:=by unfold iW;rw[nh oD]
   refine aA ?_
   repeat refine sq ?_
   refine rx hΓ [4,7] [[4,0],[22,0,16,0]] (fun K' hK=>by simp only[go_sem,u4];(repeat (refine⟨ah,?_⟩));exact hK _ (by simp only[go_sem]) (by simp only[go_sem]<;>rfl)) ?_
   repeat refine sq ?_
   refine dx hΓ hP [[],[],[],[2],[2,3],[2,3,4],[2,3,4,5],[1],[1,7],[1,7,8],[1,2,3,4,5,6,7,8,9],[1,2,3,4,5,6,7,8,9,10],[1,2,3,4,5,6,7,8,9,10,11],[0,1,2,3,4,5,6,7,8,9,10,11,12],[0,1,2,3,4,5,6,7,8,9,10,11,12,13],[0,1,2,3,4,5,6,7,8,9,10,11,12,13,14],[0,1,2,3,4,5,6,7,8,9,10,11,12,13,14,15]] [4,7] [[4,0],[22,0,16,0]] (by kernel_rfl) (fun K' hK=>by simp only[go_sem,g0,g2,qj,gN];(repeat (refine⟨ah,?_⟩));(first | refine⟨by rfl,?_⟩ | skip);exact hK _ (by simp only[go_sem]) (by simp only[go_sem]<;>rfl)) ?_
   repeat refine sq ?_
   refine rx hΓ [4,5] [[4,0]] (fun K' hK=>by simp only[go_sem];(repeat (refine⟨ah,?_⟩));exact hK _ (by simp only[go_sem]) (by simp only[go_sem]<;>rfl)) ?_
   refine av ?_
   simp only[go_sem]
   first | (rw[uM hd];done) | (rw[uM hd];rfl) | (rw[nG hd,fw hd];done) | (rw[nG hd,fw hd];rfl)
theorem Xh:an Tryd.prog 31 S14:=S'.sound
noncomputable def adb:List (Nat×Spec):=[(77,S39),(12,S21)]
attribute [go_sem] adb
open Go
def eS(a b:Name)(nm:Name):Name:=if nm=a then b else if nm=b then a else nm
theorem Ru(a b nm:Name):eS a b (eS a b nm)=nm:=by
 unfold eS
 by_cases h1:nm=a
 ·rw[if_pos h1]
  by_cases h2:b=a
  ·rw[if_pos h2,h2,h1]
  ·rw[if_neg h2,if_pos rfl,h1]
 ·rw[if_neg h1]
  by_cases h2:nm=b
  ·rw[if_pos h2,if_pos rfl,h2]
  ·rw[if_neg h2,if_neg h1,if_neg h2]
theorem Rv{a b nm:Name}(h1:nm≠a)(h2:nm≠b):eS a b nm=nm:=by unfold eS;rw[if_neg h1,if_neg h2]
mutual
theorem D.clos_tt:∀ d:D,D.clos (fun _=>true) d=true
 | .v _=>rfl
 | .nilsl=>rfl
 | .nilmap=>rfl
 | .any=>rfl
 | .ref _ _=>rfl
 | .msl _ _=>rfl
 | .aref _ _ _ _=>rfl
 | .map _=>rfl
 | .yld _=>rfl
 | .clo _ a b=>by simp only[D.clos,D.closL_tt a,D.closL_tt b,Bool.and_self]
 | .agg l=>by simp only[D.clos,D.closL_tt l]
 | .tup l=>by simp only[D.clos,D.closL_tt l]
theorem D.closL_tt:∀ l:List D,D.closL (fun _=>true) l=true
 |[]=>rfl
 |d::r=>by simp only[D.closL,D.clos_tt d,D.closL_tt r,Bool.and_self]
end
theorem O.clos_tt(o:O):O.clos (fun _=>true) o=true:=by
 cases o<;>first | rfl | exact D.closL_tt _
mutual
theorem D.ren_fix{f:Name->Name}{dom:Name->Bool}(hf:∀ nm,dom nm=true->f nm=nm):∀ d:D,D.clos dom d=true->d.ren f=d
 | .v _,_=>rfl
 | .nilsl,_=>rfl
 | .nilmap,_=>rfl
 | .any,_=>rfl
 | .ref nm _,h=>by simp only[D.ren];rw[hf nm h]
 | .msl nm _,h=>by simp only[D.ren];rw[hf nm h]
 | .aref nm _ _ _,h=>by simp only[D.ren];rw[hf nm h]
 | .map nm,h=>by simp only[D.ren];rw[hf nm h]
 | .yld nm,h=>by simp only[D.ren];rw[hf nm h]
 | .clo _ a b,h=>by
   simp only[D.clos,Bool.and_eq_true]at h
   simp only[D.ren];rw[D.renL_fix hf a h.1,D.renL_fix hf b h.2]
 | .agg l,h=>by simp only[D.clos]at h;simp only[D.ren];rw[D.renL_fix hf l h]
 | .tup l,h=>by simp only[D.clos]at h;simp only[D.ren];rw[D.renL_fix hf l h]
theorem D.renL_fix{f:Name->Name}{dom:Name->Bool}(hf:∀ nm,dom nm=true->f nm=nm):∀ l:List D,D.closL dom l=true->D.renL f l=l
 |[],_=>rfl
 |d::r,h=>by
  simp only[D.closL,Bool.and_eq_true]at h
  simp only[D.renL];rw[D.ren_fix hf d h.1,D.renL_fix hf r h.2]
end
theorem O.ren_fix{f:Name->Name}{dom:Name->Bool}(hf:∀ nm,dom nm=true->f nm=nm)(o:O)(h:O.clos dom o=true):o.ren f=o:=by
 cases o with
 |box cs=>simp only[O.clos]at h;simp only[O.ren];rw[D.renL_fix hf cs h]
 |loop env ps asg body st bm=>
  simp only[O.clos]at h
  simp only[O.ren,O.loop.injEq,and_true]
  refine List.ext_getElem (by simp) fun i h1 h2=>?_
  have :=iJ (l:=env.map (·.d)) (i:=i) (by simpa using h2) h
  simp only[List.getElem_map,E.ren]at this |-
  rw[D.ren_fix hf _ this]
 |_=>rfl
def ti(a b:Name)(σ:S):S:=
 ⟨σ.nt,fun t=>(σ.env t).ren (eS a b),fun nm=>if own σ.pre nm=true then(σ.obj (eS a b nm)).map (O.ren (eS a b))else σ.obj nm,σ.pre,σ.base⟩
theorem QH{σ:S}(a b:Name)(ha:own σ.pre a=true)(hb:own σ.pre b=true)(hO:bU σ.pre (fun nm=>!own σ.pre nm) σ.obj):dC σ (ti a b σ):=by
 intro G φ m x w hC
 obtain⟨f,hf⟩:∃ f,f=eS a b:=⟨_,rfl⟩
 have zZ:∀ nm,f (f nm)=nm:=fun nm=>by rw[hf];exact Ru a b nm
 have Ey:∀ nm,own σ.pre nm=false->f nm=nm:=fun nm h=>by
  rw[hf]
  exact Rv (fun e=>by rw[e,ha]at h;cases h) (fun e=>by rw[e,hb]at h;cases h)
 have oG:∀ nm,(ti a b σ).obj nm=(σ.obj (f nm)).map (O.ren f):=fun nm=>by
  show (if own σ.pre nm=true then(σ.obj (eS a b nm)).map (O.ren (eS a b))else σ.obj nm)=_
  rw[<-hf]
  cases ho:own σ.pre nm with
  |true=>rw[if_pos rfl]
  |false=>
   rw[if_neg (by simp),Ey nm ho]
   cases hn:σ.obj nm with
   |none=>rfl
   |some o=>
    rw[Option.map_some,O.ren_fix (dom:=fun nm=>!own σ.pre nm) (fun x hx=>Ey x (by simpa using hx)) o (hO nm o ho hn)]
 have jR:∀ nm o,(ti a b σ).obj nm=some o->∃ o',σ.obj (f nm)=some o'/\o=o'.ren f:=fun nm o h=>by
  rw[oG]at h
  cases hn:σ.obj (f nm)with
  |none=>rw[hn]at h;cases h
  |some o'=>rw[hn]at h;cases h;exact⟨o',rfl,rfl⟩
 have hX:vh f φ (fun nm=>φ (f nm)) σ.obj (ti a b σ).obj (fun _=>true):=fun nm o _ ho=>
  ⟨o.ren f,by rw[oG,zZ,ho];rfl,.inl ⟨O.len_ren f o,by show φ (f (f nm))=φ nm;rw[zZ],O.sz_ren f o⟩⟩
 have hh:∀ nm,holds (fun nm=>φ (f nm)) (ti a b σ).obj nm->holds φ σ.obj (f nm):=by
  rintro nm ⟨o,h1,h2,h3⟩
  obtain⟨o',h4,rfl⟩:=jR nm o h1
  exact⟨o',h4,by rw[<-O.mut_ren f];exact h2,h3⟩
 refine⟨fun nm=>φ (f nm),?_⟩
 constructor
 ·intro t
  have :(ti a b σ).env t=(σ.env t).ren f:=by rw[hf];rfl
  rw[this]
  exact(hC.tmps t).renx (Mem.le_refl m) hX (D.clos_tt _)
 ·exact hC.size
 ·exact hC.defers
 ·intro nm o h
  obtain⟨o',h4,rfl⟩:=jR nm o h
  exact(hC.objs (f nm) o' h4).ren (Mem.le_refl m) hX (O.clos_tt o') (fun _ _=>rfl)
 ·exact hC.mem
 ·exact fun nm hn=>hC.apart (f nm) (hh nm hn)
 ·intro nm jI h1 h2 e
  have :=hC.inj _ _ (hh nm h1) (hh jI h2) e
  rw[<-zZ nm,this,zZ]
 ·exact fun nm hn=>hC.own (f nm) (hh nm hn)
 ·exact hC.fr
 ·exact hC.fresh
 ·refine⟨hC.kept.1,fun nm o ho=>?_⟩
  obtain⟨o',h1,h2⟩:=hC.kept.2 nm o ho
  have hn:=Ey nm (hC.kept.1 nm o ho)
  refine⟨o'.ren f,by rw[oG,hn,h1];rfl,?_⟩
  rw[O.len_ren,O.sz_ren]
  show _/\φ (f nm)=_/\_\/_
  rw[hn]
  exact h2
theorem QM{nt:Nat}{p:Name}{H:Name->Option O}{l l':List (Nat×E)}{h h':List (Name×O)}(a b:Name)(ks:List Nat)(ns:List Name)(ha:own p a=true)(hb:own p b=true)
 (hO:bU p (bL p []) H) (hn:(ns.all fun nm=>own p nm)=true)
 (hl:(ks.map fun t=>(t,(dh eAny l t).ren (eS a b)))=l')
 (hh:(ns.filterMap fun nm=>(dh none (h.map fun q=>(q.1,some q.2)) (eS a b nm)).map fun o=>(nm,o.ren (eS a b)))=h')
 (hc:((l'.all fun q=>D.clos (bL p h') q.2.d)&&(h'.all fun q=>O.clos (bL p h') q.2))=true):eZ (aW nt p H l h) (aW nt p H l' h'):=by
 have ib:bU p (fun nm=>!own p nm) H:=by
  intro x q hx hq
  have :=hO x q hx hq
  have e:bL p []=fun nm=>!own p nm:=by funext nm;simp[bL]
  rw[e]at this;exact this
 have hw:=QH (σ:=aW nt p H l h) a b ha hb (fun nm o h1 h2=>by
  have :(aW nt p H l h).obj nm=H nm:=if_neg (by rw[show own p nm=false from h1];decide)
  rw[this]at h2
  exact ib nm o h1 h2)
 have Yo:∀ nm,own p nm=true->own p (eS a b nm)=true:=fun nm h=>by
  unfold eS
  split
  ·exact hb
  ·split
   ·exact ha
   ·exact h
 refine(hw.trans (Fits.weak (p:=p) (H:=H) (l:=l') (h:=h') ⟨rfl,fun nm al=>?_,fun q hq=>?_,fun q hq=>?_,?_,?_,?_⟩)).toM
 ·show (if own p nm=true then _ else(if own p nm=true then _ else H nm))=H nm
  rw[if_neg (by rw[al];decide),if_neg (by rw[al];decide)]
 ·rw[<-hl]at hq
  obtain⟨t,_,rfl⟩:=List.mem_map.1 hq
  rfl
 ·rw[<-hh]at hq
  obtain⟨nm,hm,e⟩:=List.mem_filterMap.1 hq
  have pW:=List.all_eq_true.1 hn nm hm
  cases ho:dh none (h.map fun q=>(q.1,some q.2)) (eS a b nm)with
  |none=>rw[ho]at e;cases e
  |some o=>
   rw[ho]at e
   cases e
   show (if own p nm=true then Option.map _ (if own p (eS a b nm)=true then dh none (h.map fun q=>(q.1,some q.2)) (eS a b nm)else H (eS a b nm))else _)=_
   rw[if_pos pW,if_pos (Yo nm pW),ho]
   rfl
 ·rw[Bool.and_eq_true]at hc;exact hc.1
 ·rw[Bool.and_eq_true]at hc;exact hc.2
 ·exact acK ib h'
def Spec.ite(c:Name->List D->Bool)(s1 s2:Spec):Spec where
 app obj t ds:=if c t ds=true then s1.app obj t ds else s2.app obj t ds
 foot obj t ds:=if c t ds=true then s1.foot obj t ds else s2.foot obj t ds
 wrt obj t ds:=if c t ds=true then s1.wrt obj t ds else s2.wrt obj t ds
theorem Spec.ite_near{c:Name->List D->Bool}{s1 s2:Spec}(h1:s1.Near)(h2:s2.Near):(Spec.ite c s1 s2).Near:=by
 refine⟨fun obj obj2 t ds h=>?_,fun obj obj2 t ds h=>?_,fun obj t ds nm hn=>?_,fun obj obj2 t ds h=>?_⟩<;>simp only[Spec.ite]at *
 ·split
  ·rename_i hc;simp only[hc,if_true]at h;exact h1.like _ _ _ _ h
  ·rename_i hc;simp only[hc,if_false,Bool.false_eq_true]at h;exact h2.like _ _ _ _ h
 ·split
  ·rename_i hc;simp only[hc,if_true]at h;exact h1.foot _ _ _ _ h
  ·rename_i hc;simp only[hc,if_false,Bool.false_eq_true]at h;exact h2.foot _ _ _ _ h
 ·by_cases hc:c t ds=true
  ·rw[if_pos hc]at hn |-;exact h1.sub _ _ _ _ hn
  ·rw[if_neg hc]at hn |-;exact h2.sub _ _ _ _ hn
 ·split
  ·rename_i hc;simp only[hc,if_true]at h;exact h1.wrt _ _ _ _ h
  ·rename_i hc;simp only[hc,if_false,Bool.false_eq_true]at h;exact h2.wrt _ _ _ _ h
theorem an.ite{P:Program}{f:FuncId}{s1 s2:Spec}(c:Name->List D->Bool)(h1:an P f s1)(h2:an P f s2)(aj:f≠yid):an P f (Spec.ite c s1 s2):=by
 refine⟨Spec.ite_near h1.near h2.near,h1.enter,fun hf G φ m σ a w hC t ds us ht hl hr aa=>?_,fun e=>(aj e).elim⟩
 simp only[Spec.ite]at aa |-
 split
 ·rename_i hc
  rw[if_pos hc]at aa
  exact h1.calls hf G φ m σ a w hC t ds us ht hl hr aa
 ·rename_i hc
  rw[if_neg hc]at aa
  exact h2.calls hf G φ m σ a w hC t ds us ht hl hr aa
def uJ(s:Stk)(j z:Nat):List V:=if j<z then(s.un.get j).map encPa else[]
def u6(nm:Name)(s:Stk)(j z:Nat):List D:=(AN s z).set (1+j) (.msl nm (uJ s j z).length)
theorem AO{dom:Name->Bool}{nm:Name}{n:Nat}:∀ {cs:List D} {i:Nat},D.closL dom cs=true->D.closL dom (cs.set i (.msl nm n))=(dom nm||decide (cs.length<=i))
 |[],i,_=>by simp[D.closL]
 |d::r,0,h=>by
  simp only[D.closL,Bool.and_eq_true]at h
  simp[D.closL,D.clos,h.2]
 |d::r,i+1,h=>by
  simp only[D.closL,Bool.and_eq_true]at h
  simp only[List.set_cons_succ,D.closL,h.1,Bool.true_and,AO h.2,List.length_cons,Nat.add_le_add_iff_right]
@[go_sem] theorem ahg(dom:Name->Bool)(nm:Name)(s:Stk)(j z:Nat):D.closL dom (u6 nm s j z)=(dom nm||decide (19<=1+j)):=AO (abn dom s z)
@[go_sem] theorem N7(nm:Name)(s:Stk)(j z:Nat):(u6 nm s j z).length=19:=by
  unfold u6;rw[List.length_set];rfl
@[go_sem] theorem ahh(nm:Name)(s:Stk)(j z:Nat):(u6 nm s j z).take 19=u6 nm s j z:=List.take_of_length_le (by rw[N7];exact Nat.le_refl _)
@[go_sem] theorem ahf(nm:Name)(s:Stk)(j z:Nat):(u6 nm s j z).drop 19=[]:=List.drop_of_length_le (by rw[N7];exact Nat.le_refl _)
theorem G9(s:Stk){i j:Nat}(h:i≠j):uJ s j i=uJ s j (i+1):=by
 unfold uJ
 by_cases h1:j<i
 ·rw[if_pos h1,if_pos (by omega)]
 ·rw[if_neg h1,if_neg (by omega)]
theorem Q0(s:Stk)(j:Nat):uJ s j (j+1)=(s.un.get j).map encPa:=if_pos (Nat.lt_succ_self j)
@[go_sem] theorem Oe(dom:Name->Bool)(l:List V)(i:Nat)(nm:Name)(n:Nat):D.closL dom ((List.map D.v l).set i (.msl nm n))=(dom nm||decide (l.length<=i)):=by
  rw[AO (qy dom l),List.length_map]
@[go_sem] theorem tr(l:List V)(i:Nat)(d:D):((List.map D.v l).set i d).length=l.length:=by simp
@[go_sem] theorem afU(s:Stk)(i:Nat)(d:D):List.take 19 ((List.map D.v (aC s)).set i d)=(List.map D.v (aC s)).set i d:=List.take_of_length_le (by rw[tr];exact Nat.le_refl _)
@[go_sem] theorem NK(s:Dk)(i:Nat)(d:D):List.take 63 ((List.map D.v (aq s)).set i d)=(List.map D.v (aq s)).set i d:=List.take_of_length_le (by rw[tr];exact Nat.le_refl _)
theorem BA(s:Stk){j:Nat}(hj:j<6):uJ s j 6=(s.un.get j).map encPa:=if_pos hj
theorem qx{dom:Name->Bool}{cs:List D}:D.closL dom cs=true↔∀ d∈cs,D.clos dom d=true:=by
 induction cs with
 |nil=>simp[D.closL]
 |cons d r ih=>simp[D.closL,ih]
@[go_sem] theorem ahi{dom:Name->Bool}{cs:List D}(n:Nat)(h:D.closL dom cs=true):D.closL dom (cs.take n)=true:=qx.2 fun d hd=>qx.1 h d (List.mem_of_mem_take hd)
@[go_sem] theorem ahk{dom:Name->Bool}{cs:List D}(n:Nat)(h:D.closL dom cs=true):D.closL dom (cs.drop n)=true:=qx.2 fun d hd=>qx.1 h d (List.mem_of_mem_drop hd)
theorem QO{σ τ:S}(p:Prop)[Decidable p](h1:p->eZ σ τ)(h2:¬ p->eZ σ τ):eZ σ τ:=by
 by_cases h:p
 ·exact h1 h
 ·exact h2 h
theorem QI{σ:S}(nm:Name)(sz:Nat)(hn:σ.obj nm=none):dC σ ⟨σ.nt,σ.env,upd σ.obj nm (some (.arr sz [])),σ.pre,σ.base⟩:=by
 intro G φ m a w hC
 have hx:=Ext.new (φ:=φ) hn ⟨0,0,0,true,none⟩ (.arr sz [])
 exact⟨_,hC.chg (w':=w) nm (.arr sz []) ⟨0,0,0,true,none⟩ hx ⟨rfl,rfl,rfl,Nat.le_refl _⟩ (fun _ _ _=>rfl) (fun h=>by cases h) (.inl ⟨rfl,rfl⟩)⟩
theorem QN{σ τ:S}(nm:Name)(sz:Nat)(hn:σ.obj nm=none)(ks:List Nat)(ns:List Name)
 (h:gq ks ns ⟨σ.nt,σ.env,upd σ.obj nm (some (.arr sz [])),σ.pre,σ.base⟩) (hk:gy ks ns ⟨σ.nt,σ.env,upd σ.obj nm (some (.arr sz [])),σ.pre,σ.base⟩=τ):eZ σ τ:=
 (QI nm sz hn).toM.trans (pq ks ns h hk)
theorem B7(f:Name->Name)(l:List V)(i:Nat)(nm:Name)(n:Nat):D.renL f ((List.map D.v l).set i (.msl nm n))=(List.map D.v l).set i (.msl (f nm) n):=by
 rw[iu,List.map_set,List.map_map]
 rfl
attribute [go_sem] B7
attribute [go_sem] Spec.ite List.headD_cons decide_true decide_false
def sH(nm:Name)(d:Dk)(j:Nat):List D:=(List.map D.v (aq d)).set (2+j) (.msl nm (d.now.un.get j).length)
@[go_sem] theorem ag4(dom:Name->Bool)(nm:Name)(d:Dk)(j:Nat):D.closL dom (sH nm d j)=(dom nm||decide (63<=2+j)):=Oe dom (aq d) _ nm _
@[go_sem] theorem aa1(nm:Name)(d:Dk)(j:Nat):(sH nm d j).length=63:=tr _ _ _
@[go_sem] theorem ag5(nm:Name)(d:Dk)(j:Nat):(sH nm d j).take 63=sH nm d j:=NK d _ _
@[go_sem] theorem ag3(nm:Name)(d:Dk)(j:Nat):(sH nm d j).drop 63=[]:=List.drop_of_length_le (by rw[aa1];exact Nat.le_refl _)
def jT(l:List Int)(p:Int)(z:Nat):List Int:=(l.take z).filter fun x=>x != p
def je(s:Stk)(p:Int)(j:Nat):Stk:=⟨jT s.ho p s.ho.length,s.un.set j (s.un.get j++[⟨s.se.get j+1,p⟩]),s.se.set j (s.se.get j+1),s.ta⟩
def ot(d:Dk)(t:Int):Bool:=(((d.now.un.get t.toNat).length:Int)==40)||(d.now.se.get t.toNat==99999)
def mL(d:Dk)(p:Int):Bool:=decide ((jT d.now.ho p d.now.ho.length).length=d.now.ho.length)
def cG(d:Dk)(p t:Int):Int:=if ay d=true then(if aP p 1 999=true then(if dY d t=true then(if mL d p=true then 95 else if ot d t=true then 2 else 0)else 94)else 1)else 92
def ir(d:Dk)(p t:Int):Dk:=if cG d p t=0 then d.setN (je d.now p t.toNat)else zD
theorem RV{d:Dk}{p t:Int}(h:ay d=false):ir d p t=zD/\cG d p t=92:=by
 have :cG d p t=92:=if_neg (by rw[h];decide)
 exact⟨if_neg (by rw[this];decide),this⟩
theorem RZ{d:Dk}{p t:Int}(h:ay d=true)(h1:aP p 1 999=false):ir d p t=zD/\cG d p t=1:=by
 have :cG d p t=1:=by unfold cG;rw[if_pos h,if_neg (by rw[h1];decide)]
 exact⟨if_neg (by rw[this];decide),this⟩
theorem RT{d:Dk}{p t:Int}(h:ay d=true)(h1:aP p 1 999=true)(h2:dY d t=false):ir d p t=zD/\cG d p t=94:=by
 have :cG d p t=94:=by unfold cG;rw[if_pos h,if_pos h1,if_neg (by rw[h2];decide)]
 exact⟨if_neg (by rw[this];decide),this⟩
theorem RY{d:Dk}{p t:Int}(h:ay d=true)(h1:aP p 1 999=true)(h2:dY d t=true)(h3:mL d p=true):ir d p t=zD/\cG d p t=95:=by
 have :cG d p t=95:=by unfold cG;rw[if_pos h,if_pos h1,if_pos h2,if_pos h3]
 exact⟨if_neg (by rw[this];decide),this⟩
theorem RW{d:Dk}{p t:Int}(h:ay d=true)(h1:aP p 1 999=true)(h2:dY d t=true)(h3:mL d p=false)(h4:ot d t=true):ir d p t=zD/\cG d p t=2:=by
 have :cG d p t=2:=by unfold cG;rw[if_pos h,if_pos h1,if_pos h2,if_neg (by rw[h3];decide),if_pos h4]
 exact⟨if_neg (by rw[this];decide),this⟩
theorem RU{d:Dk}{p t:Int}(h:ay d=true)(h1:aP p 1 999=true)(h2:dY d t=true)(h3:mL d p=false)(h4:ot d t=false):ir d p t=d.setN (je d.now p t.toNat)/\cG d p t=0:=by
 have :cG d p t=0:=by unfold cG;rw[if_pos h,if_pos h1,if_pos h2,if_neg (by rw[h3];decide),if_neg (by rw[h4];decide)]
 exact⟨if_pos this,this⟩
theorem aaF(l:List Int)(p:Int)(z:Nat):(jT l p z).length<=l.length:=by
 unfold jT
 refine Nat.le_trans (List.length_filter_le _ _) ?_
 rw[List.length_take];omega
def b8(d:Dk)(j:Nat)(hd:D)(nm:Name)(n:Nat)(se:Int):List D:=(((List.map D.v (aq d)).set 1 hd).set (8+j) (.v (vInt se))).set (2+j) (.msl nm n)
theorem jB{P:Nat->Prop}(h0:P 0)(h1:P 1)(h2:P 2)(h3:P 3)(h4:P 4)(h5:P 5):∀ {j:Nat},j<6->P j
 | 0,_=>h0
 | 1,_=>h1
 | 2,_=>h2
 | 3,_=>h3
 | 4,_=>h4
 | 5,_=>h5
@[go_sem] theorem mJ(d:Dk)(j:Nat)(hd:D)(nm:Name)(n:Nat)(se:Int):(b8 d j hd nm n se).length=63:=by
  simp[b8,qs]
theorem tv{α:Type}{C:List α}{i:Nat}{x:α}(h:i<C.length):List.take i C++[x]++List.drop (i+1) C=C.set i x:=by
 rw[List.append_assoc,List.set_eq_take_append_cons_drop,if_pos h];rfl
@[go_sem] theorem ahm(d:Dk)(j:Nat)(hd hU:D)(nm:Name)(n:Nat)(se:Int):List.take 1 (b8 d j hd nm n se)++[hU]++List.drop 2 (b8 d j hd nm n se)=b8 d j hU nm n se:=by
  rw[tv (i:=1) (by rw[mJ];omega)]
  unfold b8
  rw[List.set_comm (D.msl nm n) hU (show 2+j≠1 by omega),List.set_comm (D.v (vInt se)) hU (show 8+j≠1 by omega),List.set_set]
theorem abP(d:Dk){j:Nat}(hd:D)(nm:Name)(n:Nat)(se se':Int)(hj:j<6):List.take (8+j) (b8 d j hd nm n se)++[.v (vInt se')]++List.drop (8+j+1) (b8 d j hd nm n se)=b8 d j hd nm n se':=by
 rw[tv (by rw[mJ];omega)]
 unfold b8
 rw[List.set_comm (D.msl nm n) (D.v (vInt se')) (show 2+j≠8+j by omega),List.set_set]
theorem abN(d:Dk){j:Nat}(hd:D)(nm:Name)(n n':Nat)(se:Int)(hj:j<6):List.take (2+j) (b8 d j hd nm n se)++[.msl nm n']++List.drop (2+j+1) (b8 d j hd nm n se)=b8 d j hd nm n' se:=by
 rw[tv (by rw[mJ];omega)]
 unfold b8
 rw[List.set_set]
theorem OE(d:Dk)(j:Nat)(hd:D)(nm:Name)(n:Nat)(se:Int):(b8 d j hd nm n se)[1]?=some hd:=by
 unfold b8
 rw[List.getElem?_set_ne (by omega),List.getElem?_set_ne (by omega),List.getElem?_set_self (by simp[qs])]
theorem abR(d:Dk){j:Nat}(hd:D)(nm:Name)(n:Nat)(se:Int)(hj:j<6):(b8 d j hd nm n se)[8+j]?=some (.v (vInt se)):=by
 unfold b8
 rw[List.getElem?_set_ne (by omega),List.getElem?_set_self (by simp[qs];omega)]
theorem OD(d:Dk){j:Nat}(hd:D)(nm:Name)(n:Nat)(se:Int)(hj:j<6):(b8 d j hd nm n se)[2+j]?=some (.msl nm n):=by
 unfold b8
 rw[List.getElem?_set_self (by simp[qs];omega)]
@[go_sem] theorem ahn(d:Dk)(j:Nat)(hd:D)(nm:Name)(n:Nat)(se:Int):(b8 d j hd nm n se).getD 1 .any=hd:=by rw[List.getD_eq_getElem?_getD,OE];rfl
theorem Oz(d:Dk){j:Nat}(hd:D)(nm:Name)(n:Nat)(se:Int)(hj:j<6):(b8 d j hd nm n se).getD (8+j) .any=.v (vInt se):=by rw[List.getD_eq_getElem?_getD,abR _ _ _ _ _ hj];rfl
theorem Oy(d:Dk){j:Nat}(hd:D)(nm:Name)(n:Nat)(se:Int)(hj:j<6):(b8 d j hd nm n se).getD (2+j) .any=.msl nm n:=by rw[List.getD_eq_getElem?_getD,OD _ _ _ _ _ hj];rfl
theorem Of{dom:Name->Bool}{d:D}(hd:D.clos dom d=true):∀ {cs:List D} {i:Nat},D.closL dom cs=true->D.closL dom (cs.set i d)=true
 |[],i,_=>by simp[D.closL]
 |a::r,0,h=>by
  simp only[D.closL,Bool.and_eq_true]at h
  simp[D.closL,hd,h.2]
 |a::r,i+1,h=>by
  simp only[D.closL,Bool.and_eq_true]at h
  simp only[List.set_cons_succ,D.closL,h.1,Bool.true_and,Of hd h.2]
theorem F5{dom:Name->Bool}{cs:List D}:D.closL dom cs=true↔∀ (i:Nat) (d:D),cs[i]?=some d->D.clos dom d=true:=by
 rw[qx]
 constructor
 ·intro h i d hi
  obtain⟨hl,e⟩:=List.getElem?_eq_some_iff.1 hi
  exact h d (e▸List.getElem_mem hl)
 ·intro h d hd
  obtain⟨i,hi,rfl⟩:=List.getElem_of_mem hd
  exact h i _ (List.getElem?_eq_getElem hi)
@[go_sem] theorem OC(dom:Name->Bool)(d:Dk)(j:Nat)(hd:D)(nm:Name)(n:Nat)(se:Int):D.closL dom (b8 d j hd nm n se)=(D.clos dom hd&&(dom nm||decide (63<=2+j))):=by
  rw[Bool.eq_iff_iff,F5]
  simp only[Bool.and_eq_true,Bool.or_eq_true,decide_eq_true_eq]
  constructor
  ·intro h
   refine⟨h 1 hd (OE _ _ _ _ _ _),?_⟩
   by_cases hj:63<=2+j
   ·exact .inr hj
   ·refine .inl ?_
    have :=h (2+j) (.msl nm n) (by unfold b8;rw[List.getElem?_set_self (by simp[qs];omega)])
    simpa[D.clos]using this
  ·rintro⟨h1,h2⟩ i x hi
   have ae:=(List.getElem?_eq_some_iff.1 hi).1
   rw[mJ]at ae
   unfold b8 at hi
   by_cases e1:2+j=i
   ·subst e1
    rw[List.getElem?_set_self (by simp[qs];omega)]at hi
    cases hi
    simp only[D.clos]
    rcases h2 with h2 | h2
    ·exact h2
    ·omega
   ·rw[List.getElem?_set_ne e1]at hi
    by_cases e2:8+j=i
    ·subst e2
     rw[List.getElem?_set_self (by simp[qs];omega)]at hi
     cases hi
     rfl
    ·rw[List.getElem?_set_ne e2]at hi
     by_cases e3:1=i
     ·subst e3
      rw[List.getElem?_set_self (by simp[qs])]at hi
      cases hi
      exact h1
     ·rw[List.getElem?_set_ne e3,List.getElem?_map]at hi
      cases hq:(aq d)[i]? with
      |none=>rw[hq]at hi;cases hi
      |some y=>rw[hq]at hi;cases hi;rfl
@[go_sem] theorem abS(d:Dk)(j:Nat)(hd:D)(nm:Name)(n:Nat)(se:Int):(b8 d j hd nm n se).take 63=b8 d j hd nm n se:=List.take_of_length_le (by rw[mJ];exact Nat.le_refl _)
@[go_sem] theorem abQ(d:Dk)(j:Nat)(hd:D)(nm:Name)(n:Nat)(se:Int):(b8 d j hd nm n se).drop 63=[]:=List.drop_of_length_le (by rw[mJ];exact Nat.le_refl _)
theorem abO(d:Dk)(j:Nat)(hd hU:D)(nm:Name)(n:Nat)(se:Int):(b8 d j hd nm n se).set 1 hU=b8 d j hU nm n se:=by
 unfold b8
 rw[List.set_comm (D.msl nm n) hU (show 2+j≠1 by omega),List.set_comm (D.v (vInt se)) hU (show 8+j≠1 by omega),List.set_set]
theorem OB(d:Dk){j:Nat}(l:List Int)(nm:Name)(n:Nat)(se:Int)(ps:List Par)(hj:j<6):(b8 d j (.v (jE l)) nm n se).set (2+j) (.v (.sl (ps.map encPa)))=List.map D.v (aq (d.setN ⟨l,d.now.un.set j ps,d.now.se.set j se,d.now.ta⟩)):=
 jB (P:=fun j=>(b8 d j (.v (jE l)) nm n se).set (2+j) (.v (.sl (ps.map encPa)))=List.map D.v (aq (d.setN ⟨l,d.now.un.set j ps,d.now.se.set j se,d.now.ta⟩))) rfl rfl rfl rfl rfl rfl hj
@[go_sem] theorem ag2(f:Name->Name)(nm:Name)(d:Dk)(j:Nat):D.renL f (sH nm d j)=sH (f nm) d j:=B7 _ _ _ _ _
theorem aaY(d:Dk){j:Nat}(h:j<6):(aq d).getD (2+j) default=rowP (d.now.un.get j):=aaZ d h
theorem aa0(d:Dk){j:Nat}(h:j<6):(aq d).getD (8+j) default=vInt (d.now.se.get j):=
 jB (P:=fun j=>(aq d).getD (8+j) default=vInt (d.now.se.get j)) rfl rfl rfl rfl rfl rfl h
theorem OA(d:Dk){j:Nat}(l:List Int)(nm:Name)(n:Nat)(se:Int)(ps:List Par)(a b:Int)(hj:j<6):(b8 d j (.v (jE l)) nm n se).set (2+j) (.v (.sl (ps.map encPa++[.agg [vInt a,vInt b]])))=List.map D.v (aq (d.setN ⟨l,d.now.un.set j (ps++[⟨a,b⟩]),d.now.se.set j se,d.now.ta⟩)):=by
 have h:=OB d l nm n se (ps++[(⟨a,b⟩:Par)]) hj
 rw[List.map_append]at h
 exact h
theorem TQ(d:Dk)(t:Int):∃ j,j<6/\(dY d t=true->t.toNat=j):=by
 by_cases h:t.toNat<6
 ·exact⟨t.toNat,h,fun _=>rfl⟩
 ·exact⟨0,by omega,fun hk=>absurd (BB hk).2.2 h⟩
noncomputable def S77g:Spec:=sM Tryd.prog 34
noncomputable def S76g:Spec:=sM Tryd.prog 35
theorem WS:an Tryd.prog 36 S77g:=Oi F6
theorem WT:an Tryd.prog 46 S76g:=Oi F7
attribute [go_sem] S77g S76g
def iO(hn un:Name)(s:Stk)(j:Nat):List D:=((List.map D.v (aC s)).set 0 (.msl hn s.ho.length)).set (1+j) (.msl un (s.un.get j).length)
@[go_sem] theorem Hu(hn un:Name)(s:Stk)(j:Nat):(iO hn un s j).length=19:=by
  unfold iO;rw[List.length_set,tr];rfl
theorem Oc(dom:Name->Bool)(l:List V){i k:Nat}(hn un:Name)(a b:Nat)(hi:i<l.length)(wL:i≠k):D.closL dom (((List.map D.v l).set i (.msl hn a)).set k (.msl un b))=(dom hn&&(dom un||decide (l.length<=k))):=by
 rw[Bool.eq_iff_iff,F5]
 simp only[Bool.and_eq_true,Bool.or_eq_true,decide_eq_true_eq]
 constructor
 ·intro h
  refine⟨?_,?_⟩
  ·have:=h i (.msl hn a) (by rw[List.getElem?_set_ne wL.symm,List.getElem?_set_self (by simpa using hi)])
   simpa[D.clos]using this
  ·by_cases hk:l.length<=k
   ·exact .inr hk
   ·refine .inl ?_
    have :=h k (.msl un b) (by rw[List.getElem?_set_self (by simp;omega)])
    simpa[D.clos]using this
 ·rintro⟨h1,h2⟩ q x hq
  have ae:=(List.getElem?_eq_some_iff.1 hq).1
  simp only[List.length_set,List.length_map]at ae
  by_cases e1:k=q
  ·subst e1
   rw[List.getElem?_set_self (by simpa using ae)]at hq
   cases hq
   simp only[D.clos]
   rcases h2 with h2 | h2
   ·exact h2
   ·omega
  ·rw[List.getElem?_set_ne e1]at hq
   by_cases e2:i=q
   ·subst e2
    rw[List.getElem?_set_self (by simpa using ae)]at hq
    cases hq
    exact h1
   ·rw[List.getElem?_set_ne e2,List.getElem?_map]at hq
    cases hz:l[q]? with
    |none=>rw[hz]at hq;cases hq
    |some y=>rw[hz]at hq;cases hq;rfl
@[go_sem] theorem af4(dom:Name->Bool)(hn un:Name)(s:Stk)(j:Nat):D.closL dom (iO hn un s j)=(dom hn&&(dom un||decide (19<=1+j))):=Oc dom (aC s) hn un _ _ (lb rfl) (by omega)
theorem H6(f:Name->Name)(l:List V)(i k:Nat)(hn un:Name)(a b:Nat):D.renL f (((List.map D.v l).set i (.msl hn a)).set k (.msl un b))=((List.map D.v l).set i (.msl (f hn) a)).set k (.msl (f un) b):=by
 rw[iu,List.map_set,List.map_set,List.map_map]
 rfl
@[go_sem] theorem RE(f:Name->Name)(hn un:Name)(s:Stk)(j:Nat):D.renL f (iO hn un s j)=iO (f hn) (f un) s j:=H6 _ _ _ _ _ _ _ _
@[go_sem] theorem af5(hn un:Name)(s:Stk)(j:Nat):(iO hn un s j).take 19=iO hn un s j:=List.take_of_length_le (by rw[Hu];exact Nat.le_refl _)
@[go_sem] theorem af3(hn un:Name)(s:Stk)(j:Nat):(iO hn un s j).drop 19=[]:=List.drop_of_length_le (by rw[Hu];exact Nat.le_refl _)
def eT(s:Stk)(j z:Nat):List D:=((List.map D.v (aC s)).set 0 (.msl [12,0] s.ho.length)).set (1+j) (if j<z then .msl [99,0] (s.un.get j).length else .v (rowP (s.un.get j)))
@[go_sem] theorem qV(s:Stk)(j z:Nat):(eT s j z).length=19:=by
  unfold eT;rw[List.length_set,tr];rfl
@[go_sem] theorem af8(s:Stk)(j z:Nat):(eT s j z).take 19=eT s j z:=List.take_of_length_le (by rw[qV];exact Nat.le_refl _)
@[go_sem] theorem af6(s:Stk)(j z:Nat):(eT s j z).drop 19=[]:=List.drop_of_length_le (by rw[qV];exact Nat.le_refl _)
theorem BP(s:Stk){j:Nat}(hj:j<6):eT s j 6=iO [12,0] [99,0] s j:=by
 unfold eT iO;rw[if_pos hj]
theorem BQ(s:Stk){j:Nat}(hj:j<6):D.msl [12,0] s.ho.length::List.drop 1 (List.map D.v (aC s))=eT s j 0:=
 jB (P:=fun j=>D.msl [12,0] s.ho.length::List.drop 1 (List.map D.v (aC s))=eT s j 0) rfl rfl rfl rfl rfl rfl hj
theorem abv(dom:Name->Bool)(l:List V)(hn:Name)(a:Nat)(hl:0<l.length):D.closL dom ((List.map D.v l).set 0 (.msl hn a))=dom hn:=by
 rw[AO (qy dom l),List.length_map]
 have :decide (l.length<=0)=false:=decide_eq_false (by omega)
 rw[this,Bool.or_false]
@[go_sem] theorem af7(dom:Name->Bool)(s:Stk)(j z:Nat):D.closL dom (eT s j z)=(dom [12,0]&&(dom [99,0]||(decide (19<=1+j)||!decide (j<z)))):=by
  by_cases h:j<z
  ·have:=Oc dom (aC s) [12,0] [99,0] s.ho.length (s.un.get j).length (i:=0) (k:=1+j) (lb rfl) (by omega)
   unfold eT
   rw[if_pos h,this,decide_eq_true h,j9]
   simp
  ·unfold eT
   rw[if_neg h,decide_eq_false h]
   simp only[Bool.not_false,Bool.or_true,Bool.and_true]
   rw[Bool.eq_iff_iff]
   constructor
   ·intro h1
    have :=F5.1 h1 0 (.msl [12,0] s.ho.length) (by rw[List.getElem?_set_ne (by omega),List.getElem?_set_self (by exact lb rfl)])
    simpa[D.clos]using this
   ·intro h1
    have h2:=abv dom (aC s) [12,0] s.ho.length (lb rfl)
    rw[h1]at h2
    exact Of rfl h2
theorem HB(s:Stk){i j:Nat}(hi:i<6)(hj:j<6)(h:i≠j):List.take (1+i) (eT s j i)++[D.v (.sl ((s.un.get i).map encPa))]++List.drop (1+i+1) (eT s j i)=eT s j (i+1):=by
 rw[tv (by rw[qV];omega)]
 unfold eT
 have e:(if j<i then D.msl [99,0] (s.un.get j).length else .v (rowP (s.un.get j)))=(if j<i+1 then D.msl [99,0] (s.un.get j).length else .v (rowP (s.un.get j))):=by
  by_cases h1:j<i
  ·rw[if_pos h1,if_pos (by omega)]
  ·rw[if_neg h1,if_neg (by omega)]
 rw[e,List.set_comm _ (D.v (.sl ((s.un.get i).map encPa))) (show 1+j≠1+i by omega),List.set_comm _ (D.v (.sl ((s.un.get i).map encPa))) (show 0≠1+i by omega)]
 congr 2
 exact jB (P:=fun i=>(List.map D.v (aC s)).set (1+i) (D.v (.sl ((s.un.get i).map encPa)))=List.map D.v (aC s)) rfl rfl rfl rfl rfl rfl hi
theorem RG(s:Stk){j:Nat}(hj:j<6):D.renL (eS [24,0] [99,0]) (List.take (1+j) (eT s j j)++[D.msl [24,0] (s.un.get j).length]++List.drop (1+j+1) (eT s j j))=eT s j (j+1):=by
 rw[tv (by rw[qV];omega)]
 unfold eT
 rw[List.set_set,H6,if_pos (Nat.lt_succ_self j)]
 have e1:eS [24,0] [99,0] [12,0]=[12,0]:=by decide
 have e2:eS [24,0] [99,0] [24,0]=[99,0]:=by decide
 rw[e1,e2]
def qR(s:Stk)(j:Nat):List (Name×O):=[([12,0],.arr 1 (s.ho.map vInt)),([99,0],.arr 2 ((s.un.get j).map encPa))]
def BM(os:List O):List V:=match os with
 |[.box cs]=>(lI cs).getD []
 |_=>[]
def BN(ds:List D):Nat:=match ds with
 |[.ref _ off]=>off
 |_=>0
noncomputable def BO(j:Nat):CSpec where
 pre os ds:=∃ (l:List V) (off:Nat) (s:Stk),os=[.box (l.map .v)]/\ds=[.ref [0,1] off]/\(l.drop off).take 19=aC s/\kG s
 out os ds:=⟨[],qR (fx (((BM os).drop (BN ds)).take 19)) j,.agg (iO [12,0] [99,0] (fx (((BM os).drop (BN ds)).take 19)) j)⟩
noncomputable def xK(j:Nat):Spec:=(BO j).toSpec
theorem HA(j:Nat){l:List V}{off:Nat}{s:Stk}(h:(l.drop off).take 19=aC s):(BO j).out [.box (l.map .v)] [.ref [0,1] off]=⟨[],qR s j,.agg (iO [12,0] [99,0] s j)⟩:=by
 have e:fx (((BM [.box (l.map .v)]).drop (BN [.ref [0,1] off])).take 19)=s:=by
  show fx ((((lI (l.map .v)).getD []).drop off).take 19)=s
  rw[Gx,Option.getD_some,h,o4]
 show (⟨[],qR _ j,.agg (iO _ _ _ j)⟩:Out)=_
 rw[e]
theorem RF(j:Nat){l:List V}{off:Nat}{s:Stk}{obj:Name->Option O}{nm t:Name}(ho:obj nm=some (.box (l.map .v)))(h:(l.drop off).take 19=aC s)(hs:kG s):
 (xK j).app obj t [.ref nm off]=⟨fresh obj t (qR s j)=true,.agg (iO ([12,0]++t) ([99,0]++t) s j),upd (upd obj ([12,0]++t) (some (.arr 1 (s.ho.map vInt)))) ([99,0]++t) (some (.arr 2 ((s.un.get j).map encPa)))⟩:=by
 have hr:reach obj [.ref nm off]=[nm]:=vu.reach (l,off,s) [nm] obj rfl (by simp) ⟨ho,trivial⟩
 have e1:cv obj [.ref nm off]=[.box (l.map .v)]:=by
  unfold cv
  rw[hr]
  simp only[List.map_cons,List.map_nil,cr,ho,O.ren,tG]
 have e2:cO obj [.ref nm off]=[.ref [0,1] off]:=by
  unfold cO
  rw[hr]
  simp[D.renL,D.ren,cin,idx]
 have gA:shut obj [nm]=true:=by simp[shut,ho,O.clos,qy]
 have bS:D.closL (cK [nm]) [.ref nm off]=true:=by simp[D.closL,D.clos,cK]
 have hp:(BO j).pre [.box (l.map .v)] [.ref [0,1] off]:=⟨l,off,s,rfl,rfl,h,hs⟩
 have c1:cout [nm] t [12,0]=[12,0]++t:=rfl
 have c2:cout [nm] t [99,0]=[99,0]++t:=rfl
 simp only[xK,CSpec.toSpec,e1,e2,hr,gA,bS,Bool.true_and,hp,and_true,HA j h,cj]
 simp only[D.ren,RE,c1,c2,qR,dd,O.ren]
theorem Ux(l:List V):∀ hs,bU [0] (bL [0] hs) (a8 [.box (l.map .v)])=True:=Ro.outC vu (l,0,zS)
attribute [go_sem] qR
noncomputable def P2:List (Nat×Spec):=[(46,S76g),(36,S77g)]
attribute [go_sem] P2
theorem ada:∀ f s,tbl P2 f=some s->an Tryd.prog f s:=tc WT<|tc WS<|tn
set_option maxHeartbeats 4000000 in
theorem W5{j:Nat}(hj:j<6):an Tryd.prog 37 (xK j):=by
 refine o6 (nt:=29) (rs:=[.cell 2 39]) Tryd.func37 rfl (by rfl) (by kernel_rfl) (js Tryd.func37 rfl (by kernel_rfl)) (oe _ (by decide)) ?_
 rintro os ds ⟨l,off,s,rfl,rfl,kn,bh⟩
 rw[HA j kn]
 refine⟨lb rfl,lF ?_⟩
 have hΓ:=ada
 have hO:=Ux l
 have h0:a8 [.box (l.map .v)] [0,1]=some (.box (l.map .v)):=rfl
 generalize a8 [.box (l.map .v)]=H at *
 simp only[fH,Nat.zero_add]at h0 |-
 have LC:=bh.1
 have hA:=N2 kn
 have hB:=FX kn (show 0<19 by omega)
 have hL:=FV kn
 have kW:(l.map D.v).getD off .any=.v (jE s.ho):=hB
 repeat refine sq ?_
 refine rx hΓ [0,2] [[2,0],[12,0],[99,0]] (fun K' hK=>by simp only[go_sem,hO,h0];(repeat (refine⟨ah,?_⟩));exact hK _ (by simp only[go_sem,hO,h0]) (by simp only[go_sem,hO,h0]<;>rfl)) ?_
 repeat refine sq ?_
 refine rx hΓ [0,2,3] [[2,0],[3,0],[12,0],[99,0]] (fun K' hK=>by simp only[go_sem,hO,h0,hA,hB,hL,List.length_map,List.append_nil,j9];(repeat (refine⟨ah,?_⟩));exact hK _ (by simp only[go_sem,hO,h0,hA,hB,hL,List.length_map,List.append_nil,j9]) (by simp only[go_sem,hO,h0,hA,hB,hL,List.length_map,List.append_nil,j9]<;>rfl)) ?_
 repeat refine sq ?_
 refine rx hΓ [0,2,3] [[2,0],[3,0],[12,0],[99,0]] (fun K' hK=>by simp only[go_sem,hO,h0,Nat.add_zero,kW,bh.1,BQ s hj,Nat.not_lt_zero,decide_false,Bool.not_false,Bool.or_true];(repeat (refine⟨ah,?_⟩));exact hK _ (by simp only[go_sem,hO,h0,Nat.add_zero,kW,bh.1,BQ s hj,Nat.not_lt_zero,decide_false,Bool.not_false,Bool.or_true]) (by simp only[go_sem,hO,h0,Nat.add_zero,kW,bh.1,BQ s hj,Nat.not_lt_zero,decide_false,Bool.not_false,Bool.or_true]<;>rfl)) ?_
 refine aN (QN [99,0] 2 rfl [0,2,3] [[2,0],[3,0],[12,0],[99,0]] ?_ rfl) ?_
 ·simp only[go_sem,hO,h0]
 simp only[go_sem,hO,h0]
 repeat refine sq ?_
 refine rx hΓ [0,2,3,14] [[2,0],[3,0],[12,0],[99,0]] (fun K' hK=>by simp only[go_sem,hO,h0];(repeat (refine⟨ah,?_⟩));exact hK _ (by simp only[go_sem,hO,h0]) (by simp only[go_sem,hO,h0]<;>rfl)) ?_
 repeat refine sq ?_
 refine aL ?_
 repeat refine sq ?_
 refine cN (fun z:Nat=>[(14,⟨true,.v (vInt z)⟩)]) (fun z=>[([3,0],.box (eT s j z)),([99,0],.arr 2 (uJ s j z))]) (fun z=>z<=6) (fun z=>6-z) 0 ?_ ?_ ?_ ?_
 ·exact Nat.zero_le _
 ·rfl
 ·rfl
 rintro i hi
 simp only[go_sem]
 repeat refine sq ?_
 refine rx hΓ [0,2,3,14,15] [[2,0],[3,0],[12,0],[99,0]] (fun K' hK=>by simp only[go_sem,hO,h0];(repeat (refine⟨ah,?_⟩));exact hK _ (by simp only[go_sem,hO,h0]) (by simp only[go_sem,hO,h0]<;>rfl)) ?_
 repeat refine sq ?_
 refine aw rfl rfl (fun hb=>?_) (fun hb=>?_)
 ·have ae:i<6:=by have hq:(i:Int)<6:=(by simpa using hb);omega
  have ak:(i:Int)<6:=by omega
  clear hb
  have hC:=N0 kn ae
  have jj:=bh.2 i ae
  repeat refine sq ?_
  refine aA ?_
  repeat refine sq ?_
  refine aL ?_
  repeat refine sq ?_
  refine rx hΓ [0,2,3,4,14] [[2,0],[3,0],[12,0],[99,0]] (fun K' hK=>by simp only[go_sem,hO,h0,Int.toNat_natCast,Int.natCast_nonneg,ak];(repeat (refine⟨ah,?_⟩));exact hK _ (by simp only[go_sem,hO,h0,Int.toNat_natCast,Int.natCast_nonneg,ak]) (by simp only[go_sem,hO,h0,Int.toNat_natCast,Int.natCast_nonneg,ak]<;>rfl)) ?_
  repeat refine sq ?_
  refine aX hΓ fun K' hK=>?_
  simp only[go_sem,hO,h0,Int.toNat_natCast,Int.natCast_nonneg,ak,hC,jj,Int.toNat_natCast,Int.natCast_nonneg,ak]
  repeat (refine⟨ah,?_⟩)
  refine hK _ ?_
  clear K' hK
  refine aN (pq [0,2,3,14] [[2,0],[3,0],[12,0],[24,0],[99,0]] ?_ rfl) ?_
  ·simp only[go_sem,hO,h0]
  simp only[go_sem,hO,h0]
  refine aN (σ':=aW 29 [0] H [(0,⟨true,.ref [0,1] off⟩),(2,⟨true,.ref [2,0] 0⟩),(3,⟨true,.ref [3,0] 0⟩),(14,⟨true,.v (vInt i)⟩)] ([([2,0],.box [.nilsl,.nilsl,.nilsl,.nilsl,.nilsl,.nilsl,.nilsl,.v (.int .i64 0),.v (.int .i64 0),.v (.int .i64 0),.v (.int .i64 0),.v (.int .i64 0),.v (.int .i64 0),.v (.int .i64 0),.v (.int .i64 0),.v (.int .i64 0),.v (.int .i64 0),.v (.int .i64 0),.v (.int .i64 0)])]++[([3,0],.box (eT s j (i+1))),([12,0],.arr 1 (s.ho.map vInt)),([99,0],.arr 2 (uJ s j (i+1)))])) (QO (i=j) (fun ix=>?_) (fun ix=>?_)) ?_
  ·subst ix
   refine QM (p:=[0]) [24,0] [99,0] [0,2,3,14] [[2,0],[3,0],[12,0],[99,0]] rfl rfl ?_ ?_ ?_ ?_ ?_
   ·simp only[hO]
   ·simp only[go_sem]
   ·simp only[go_sem,E.ren,D.ren,eS]
   ·simp only[go_sem,O.ren,RG s ae,Q0,eS]
   ·simp only[go_sem]
  ·refine dK [3,0] [24,0] (1+i) _ _ _ _ rfl (UP (by show 1+i<(eT s j i).length;rw[qV];omega)) rfl (by simp only[List.length_map]) [0,2,3,14] [[2,0],[3,0],[12,0],[99,0]] ?_ ?_
   ·simp only[go_sem,hO,h0,Jg (show 1+i<(eT s j i).length by rw[qV];omega),HB s ae hj ix,<-G9 s ix]
   ·simp only[go_sem,hO,h0,Jg (show 1+i<(eT s j i).length by rw[qV];omega),HB s ae hj ix,<-G9 s ix]
  simp only[go_sem]
  refine kz [0,2,3,14] [[2,0],[3,0],[12,0],[99,0]] ?_ ?_
  ·simp only[go_sem,hO,h0]
  simp only[go_sem,hO,h0]
  repeat refine sq ?_
  refine aX hΓ fun K' hK=>?_
  simp only[go_sem,hO,h0,Int.toNat_natCast,Int.natCast_nonneg,ak]
  repeat (refine⟨ah,?_⟩)
  refine hK _ ?_
  clear K' hK
  simp only[go_sem]
  refine⟨i+1,ae,by(show 6-(i+1)<6-i;omega),?_⟩
  refine bx [0,2,3,14] [[2,0],[3,0],[12,0],[99,0]] ?_ ?_
  ·simp only[go_sem,aH ae (lb rfl:(6:Nat)<=maxLen),Int.natCast_add,Int.natCast_one,hO,h0]
  ·simp only[go_sem,aH ae (lb rfl:(6:Nat)<=maxLen),Int.natCast_add,Int.natCast_one,hO,h0]
 ·have bf:i=6:=by
   have :¬ (i:Int)<6:=by simpa using hb
   omega
  clear hb
  subst bf
  repeat refine sq ?_
  refine cq ?_
  simp only[go_sem]
  refine kz [2,3] [[2,0],[3,0],[12,0],[99,0]] ?_ ?_
  ·simp only[go_sem,hO,h0]
  simp only[go_sem,hO,h0]
  repeat refine sq ?_
  refine rx hΓ [2] [[2,0],[12,0],[99,0]] (fun K' hK=>by simp only[go_sem,hO,h0,BP s hj,BA s hj];(repeat (refine⟨ah,?_⟩));exact hK _ (by simp only[go_sem,hO,h0,BP s hj,BA s hj]) (by simp only[go_sem,hO,h0,BP s hj,BA s hj]<;>rfl)) ?_
  refine av ?_
  simp only[go_sem,hO,h0]
  skip
structure R2 where
 d:Dk
 j:Nat
 i:Nat
 hj:j<6
def cP(d:Dk)(j:Nat)(h u:Name):List D:=b8 d j (.msl h d.now.ho.length) u (d.now.un.get j).length (d.now.se.get j)
def ka:Ro R2 where
 m:=3
 fam a Ls:=[.box (cP a.d a.j (Ls.getD 1 []) (Ls.getD 2 [])),.arr 1 (a.d.now.ho.map vInt),.arr 2 ((a.d.now.un.get a.j).map encPa)]
 args a Ls:=[.ref (Ls.getD 0 []) (20+a.i*21+1)]
 ok a:=a.i<2/\kG (a.d.pg a.i).st
 val a:=.v (nI (a.d.pg a.i).st)
theorem vP{Ls:List Name}(h:Ls.length=3):∃ a b c,Ls=[a,b,c]:=by
 match Ls,h with
 |[a,b,c],_=>exact⟨a,b,c,rfl⟩
theorem OF(f:Name->Name)(d:Dk)(j:Nat)(h u:Name):D.renL f (cP d j h u)=cP d j (f h) (f u):=by
 unfold cP b8
 rw[iu,List.map_set,List.map_set,List.map_set,List.map_map]
 rfl
theorem xx(d:Dk)(j:Nat)(h u:Name){i:Nat}(hi:i<2)(hj:j<6):List.take 19 (List.drop (20+i*21+1) (cP d j h u))=List.map D.v (aC (d.pg i).st):=by
 unfold cP b8
 rw[List.drop_set_of_lt (by omega),List.drop_set_of_lt (by omega),List.drop_set_of_lt (by omega)]
 exact NL d hi
theorem UG(d:Dk){j:Nat}(h u:Name)(hj:j<6):dS (cP d j h u)=[h,u]:=
 jB (P:=fun j=>dS (cP d j h u)=[h,u]) rfl rfl rfl rfl rfl rfl hj
theorem BL:ka.Ok where
 len:=fun _ _ _=>rfl
 renF:=fun a f Ls h=>by
  obtain⟨x,y,z,rfl⟩:=vP h
  simp only[ka,List.map_cons,List.map_nil,O.ren,OF,List.getD_cons_zero,List.getD_cons_succ]
 renA:=fun a f Ls h=>by
  obtain⟨x,y,z,rfl⟩:=vP h
  rfl
 reach:=fun a Ls obj h hn hF=>by
  obtain⟨x,y,z,rfl⟩:=vP h
  obtain⟨h1,h2,h3,_⟩:=hF
  simp only[List.nodup_cons,List.mem_cons,List.not_mem_nil,or_false,not_or]at hn
  obtain⟨⟨n1,n2⟩,n3,_⟩:=hn
  have en:dS (ka.args a [x,y,z])=[x]:=rfl
  unfold Go.Eng.reach
  rw[en]
  show dQ obj (2995+1+1+1+1+1) [x] []=[x,y,z]
  have hb:dS (cP a.d a.j y z)=[y,z]:=UG a.d y z a.hj
  simp only[List.getD_cons_zero,List.getD_cons_succ]at h1
  simp[dQ,iw,h1,h2,h3,hb,nl,Ne.symm n1,Ne.symm n2,Ne.symm n3]
 closF:=fun a dom Ls h hd o ho=>by
  obtain⟨x,y,z,rfl⟩:=vP h
  have hx:=hd x (by simp)
  have hy:=hd y (by simp)
  have hz:=hd z (by simp)
  simp only[ka,List.mem_cons,List.not_mem_nil,or_false]at ho
  rcases ho with rfl | rfl | rfl
  ·simp only[O.clos,cP,OC,List.getD_cons_zero,List.getD_cons_succ,D.clos,hy,hz,Bool.true_and,Bool.true_or]
  ·rfl
  ·rfl
 closA:=fun a dom Ls h hd=>by
  obtain⟨x,y,z,rfl⟩:=vP h
  have hx:=hd x (by simp)
  simp only[ka,D.closL,D.clos,List.getD_cons_zero,hx,Bool.and_self]
 det:=fun a b h1 h2 h3 h4=>by
  have e1:cP a.d a.j [1,1] [2,1]=cP b.d b.j [1,1] [2,1]:=O.box.inj (List.cons.inj h3).1
  have e2:20+a.i*21+1=20+b.i*21+1:=(D.ref.inj (List.cons.inj h4).1).2
  have e3:a.i=b.i:=by omega
  have e4:=xx a.d a.j [1,1] [2,1] h1.1 a.hj
  rw[e1,e3,xx b.d b.j [1,1] [2,1] h2.1 b.hj]at e4
  have e5:aC (b.d.pg b.i).st=aC (a.d.pg b.i).st:=CJ e4
  have e6:(b.d.pg b.i).st=(a.d.pg b.i).st:=by rw[<-o4 (b.d.pg b.i).st,e5,o4]
  simp only[ka,e3,e6]
 vcl:=fun _ _=>rfl
 vren:=fun _ _=>rfl
noncomputable def S59r:Spec:=ka.c.toSpec
theorem OG(d:Dk){j i k:Nat}(h u:Name)(hi:i<2)(hj:j<6)(hk:k<19):(cP d j h u).getD (20+i*21+1+k) .any=.v ((aC (d.pg i).st).getD k default):=by
 have hc:=xx d j h u hi hj
 have hlen:(cP d j h u).length=63:=mJ _ _ _ _ _ _
 have e:(cP d j h u)[20+i*21+1+k]?=(List.map D.v (aC (d.pg i).st))[k]?:=by
  rw[<-hc,List.getElem?_take,if_pos hk,List.getElem?_drop]
 rw[List.getD_eq_getElem?_getD,e,List.getElem?_map,List.getElem?_eq_getElem (show k<(aC (d.pg i).st).length by rw[j9];exact hk)]
 rw[jS (show k<(aC (d.pg i).st).length by rw[j9];exact hk)]
 rfl
set_option maxHeartbeats 4000000 in
theorem W4:an Tryd.prog 37 S59r:=by
 refine Ro.sound BL (rs:=[.cell 2 39]) Tryd.func37 Tryd.ntmps37 (by rfl) (by kernel_rfl) (by decide) ⟨_,rfl,?_⟩
 rintro⟨d,j,i0,hj⟩ ⟨nz,bh⟩
 replace nz:i0<2:=nz
 refine⟨lb rfl,?_⟩
 have hΓ:=Qd
 have hO:=Ro.outC BL ⟨d,j,i0,hj⟩
 have h0:a8 (ka.fam ⟨d,j,i0,hj⟩ (LR ka.m)) [0,1]=some (.box (cP d j [1,1] [2,1])):=rfl
 generalize a8 (ka.fam ⟨d,j,i0,hj⟩ (LR ka.m))=H at *
 obtain⟨s,fe⟩:∃ s,s=(d.pg i0).st:=⟨_,rfl⟩
 have ha:ka.args ⟨d,j,i0,hj⟩ (LR ka.m)=[.ref [0,1] (20+i0*21+1)]:=rfl
 have hv:ka.val ⟨d,j,i0,hj⟩=.v (nI s):=by rw[fe];rfl
 rw[ha,hv]
 simp only[fH,Nat.zero_add]at h0 |-
 replace bh:kG s:=by rw[fe];exact bh
 have hA:List.take 19 (List.drop (20+i0*21+1) (cP d j [1,1] [2,1]))=List.map D.v (aC s):=by rw[fe];exact xx d j _ _ nz hj
 have hlen:(cP d j [1,1] [2,1]).length=63:=mJ _ _ _ _ _ _
 have hL:20+i0*21+1+19<=(cP d j [1,1] [2,1]).length:=by omega
 have MM:20+i0*21+1<(cP d j [1,1] [2,1]).length:=by omega
 have kW:(cP d j [1,1] [2,1]).getD (20+i0*21+1) .any=.v (jE s.ho):=by rw[fe];exact OG d [1,1] [2,1] (k:=0) nz hj (by omega)
 obtain⟨off,uq⟩:∃ off,off=20+i0*21+1:=⟨_,rfl⟩
 have Am:∀ i,i<6->(cP d j [1,1] [2,1]).getD (off+1+i) .any=.v (rowP (s.un.get i)):=fun i hi=>by
  rw[uq,Nat.add_assoc (20+i0*21+1),fe,OG d [1,1] [2,1] nz hj (show 1+i<19 by omega),dt _ hi]
 rw[<-uq]at hA hL MM kW |-
 obtain⟨X,hX⟩:∃ X,X=cP d j [1,1] [2,1]:=⟨_,rfl⟩
 rw[<-hX]at h0 hA hlen hL MM kW Am
 repeat refine sq ?_
 refine rx hΓ [0,2] [[2,0]] (fun K' hK=>by simp only[go_sem,hO,h0];(repeat (refine⟨ah,?_⟩));exact hK _ (by simp only[go_sem,hO,h0]) (by simp only[go_sem,hO,h0]<;>rfl)) ?_
 repeat refine sq ?_
 refine rx hΓ [0,2,3] [[2,0],[3,0]] (fun K' hK=>by simp only[go_sem,hO,h0,hA,hlen,hL,List.length_map,List.append_nil,j9];(repeat (refine⟨ah,?_⟩));exact hK _ (by simp only[go_sem,hO,h0,hA,hlen,hL,List.length_map,List.append_nil,j9]) (by simp only[go_sem,hO,h0,hA,hlen,hL,List.length_map,List.append_nil,j9]<;>rfl)) ?_
 repeat refine sq ?_
 refine rx hΓ [0,2,3] [[2,0],[3,0]] (fun K' hK=>by simp only[go_sem,hO,h0,Nat.add_zero,kW,bh.1];(repeat (refine⟨ah,?_⟩));exact hK _ (by simp only[go_sem,hO,h0,Nat.add_zero,kW,bh.1]) (by simp only[go_sem,hO,h0,Nat.add_zero,kW,bh.1]<;>rfl)) ?_
 repeat refine sq ?_
 refine rx hΓ [0,2,3,14] [[2,0],[3,0]] (fun K' hK=>by simp only[go_sem,hO,h0];(repeat (refine⟨ah,?_⟩));exact hK _ (by simp only[go_sem,hO,h0]) (by simp only[go_sem,hO,h0]<;>rfl)) ?_
 repeat refine sq ?_
 refine aL ?_
 repeat refine sq ?_
 refine cN (fun z:Nat=>[(14,⟨true,.v (vInt z)⟩)]) (fun z=>[]) (fun z=>z<=6) (fun z=>6-z) 0 ?_ ?_ ?_ ?_
 ·exact Nat.zero_le _
 ·rfl
 ·rfl
 rintro i hi
 simp only[go_sem]
 repeat refine sq ?_
 refine rx hΓ [0,2,3,14,15] [[2,0],[3,0]] (fun K' hK=>by simp only[go_sem,hO,h0];(repeat (refine⟨ah,?_⟩));exact hK _ (by simp only[go_sem,hO,h0]) (by simp only[go_sem,hO,h0]<;>rfl)) ?_
 repeat refine sq ?_
 refine aw rfl rfl (fun hb=>?_) (fun hb=>?_)
 ·have ae:i<6:=by have hq:(i:Int)<6:=(by simpa using hb);omega
  have ak:(i:Int)<6:=by omega
  clear hb
  have hC:=Am i ae
  have jj:=bh.2 i ae
  repeat refine sq ?_
  refine aA ?_
  repeat refine sq ?_
  refine aL ?_
  repeat refine sq ?_
  refine rx hΓ [0,2,3,4,14] [[2,0],[3,0]] (fun K' hK=>by simp only[go_sem,hO,h0,Int.toNat_natCast,Int.natCast_nonneg,ak];(repeat (refine⟨ah,?_⟩));exact hK _ (by simp only[go_sem,hO,h0,Int.toNat_natCast,Int.natCast_nonneg,ak]) (by simp only[go_sem,hO,h0,Int.toNat_natCast,Int.natCast_nonneg,ak]<;>rfl)) ?_
  repeat refine sq ?_
  refine aX hΓ fun K' hK=>?_
  simp only[go_sem,hO,h0,Int.toNat_natCast,Int.natCast_nonneg,ak,hC,jj,tq s ae,Int.toNat_natCast,Int.natCast_nonneg,ak]
  repeat (refine⟨ah,?_⟩)
  refine hK _ ?_
  clear K' hK
  simp only[go_sem]
  refine kz [0,2,3,14] [[2,0],[3,0]] ?_ ?_
  ·simp only[go_sem,hO,h0]
  simp only[go_sem,hO,h0]
  repeat refine sq ?_
  refine aX hΓ fun K' hK=>?_
  simp only[go_sem,hO,h0,Int.toNat_natCast,Int.natCast_nonneg,ak]
  repeat (refine⟨ah,?_⟩)
  refine hK _ ?_
  clear K' hK
  simp only[go_sem]
  refine⟨i+1,ae,by(show 6-(i+1)<6-i;omega),?_⟩
  refine bx [0,2,3,14] [[2,0],[3,0]] ?_ ?_
  ·simp only[go_sem,aH ae (lb rfl:(6:Nat)<=maxLen),Int.natCast_add,Int.natCast_one,tq s ae,hO,h0]
  ·simp only[go_sem,aH ae (lb rfl:(6:Nat)<=maxLen),Int.natCast_add,Int.natCast_one,tq s ae,hO,h0]
 ·have bf:i=6:=by
   have :¬ (i:Int)<6:=by simpa using hb
   omega
  clear hb
  subst bf
  repeat refine sq ?_
  refine cq ?_
  simp only[go_sem]
  refine kz [2,3] [[2,0],[3,0]] ?_ ?_
  ·simp only[go_sem,hO,h0]
  simp only[go_sem,hO,h0]
  repeat refine sq ?_
  refine rx hΓ [2] [[2,0]] (fun K' hK=>by simp only[go_sem,hO,h0,List.append_nil];(repeat (refine⟨ah,?_⟩));exact hK _ (by simp only[go_sem,hO,h0,List.append_nil]) (by simp only[go_sem,hO,h0,List.append_nil]<;>rfl)) ?_
  refine aN (cX [2,0] (aC s) rfl [2] [[2,0]] ?_ rfl) ?_
  ·simp only[go_sem,hO,h0]
  simp only[go_sem,hO,h0]
  refine av ?_
  simp only[go_sem,hO,h0]
  exact .inr trivial
theorem SM{d:Dk}{j i:Nat}(hj:j<6)(hi:i<2)(hs:kG (d.pg i).st){obj:Name->Option O}{t b h u:Name}(hn:[b,h,u].Nodup)(hb:obj b=some (.box (cP d j h u)))
 (hh:obj h=some (.arr 1 (d.now.ho.map vInt))) (hu:obj u=some (.arr 2 ((d.now.un.get j).map encPa))):
 S59r.app obj t [.ref b (20+i*21+1)]=⟨True,.v (.agg (aC (d.pg i).st)),obj⟩:=
 Ro.c_app BL (a:=⟨d,j,i,hj⟩) ⟨hi,hs⟩ (Ls:=[b,h,u]) rfl hn ⟨hb,hh,hu,trivial⟩
theorem abU(d:Dk){j:Nat}(h u:Name)(hj:j<6):List.take 1 (List.map D.v (aq d))++iO h u d.now j++List.drop 20 (List.map D.v (aq d))=cP d j h u:=
 jB (P:=fun j=>List.take 1 (List.map D.v (aq d))++iO h u d.now j++List.drop 20 (List.map D.v (aq d))=cP d j h u) rfl rfl rfl rfl rfl rfl hj
theorem Qz{α:Type}{C W:List α}{a n:Nat}(h:List.take n (List.drop a C)=W)(hn:a+n<=C.length):List.take a C++W++List.drop (a+n) C=C:=by
 rw[<-h,List.append_assoc,<-List.drop_drop,List.take_append_drop,List.take_append_drop]
theorem abT(d:Dk){j i:Nat}(h u:Name)(hi:i<2)(hj:j<6):List.take (20+i*21+1) (cP d j h u)++List.map D.v (aC (d.pg i).st)++List.drop (20+i*21+1+19) (cP d j h u)=cP d j h u:=
 Qz (xx d j h u hi hj) (by rw[show (cP d j h u).length=63 from mJ _ _ _ _ _ _];omega)
@[go_sem] theorem aho(d:Dk)(j:Nat)(h u:Name):(cP d j h u).length=63:=mJ _ _ _ _ _ _
@[go_sem] theorem ahr(d:Dk)(j:Nat)(h u:Name):(cP d j h u).take 63=cP d j h u:=abS _ _ _ _ _ _
@[go_sem] theorem ahp(d:Dk)(j:Nat)(h u:Name):(cP d j h u).drop 63=[]:=abQ _ _ _ _ _ _
@[go_sem] theorem ahq(dom:Name->Bool)(d:Dk)(j:Nat)(h u:Name):D.closL dom (cP d j h u)=(dom h&&(dom u||decide (63<=2+j))):=OC _ _ _ _ _ _ _
attribute [go_sem] OF
noncomputable def GF(j:Nat):Spec:=Spec.ite (fun t _=>decide (t.headD 0=5)) (xK j) S59r
theorem W6{j:Nat}(hj:j<6):an Tryd.prog 37 (GF j):=(W5 hj).ite _ W4 (by decide)
attribute [go_sem] GF
noncomputable def P1(j:Nat):List (Nat×Spec):=[(37,GF j)]
attribute [go_sem] P1
theorem ac'{j:Nat}(hj:j<6):∀ f s,tbl (P1 j) f=some s->an Tryd.prog f s:=tc (W6 hj)<|tn
noncomputable def Bl(j:Nat):NSpec:=n1 dV (fun d=>dZ d) (fun d=>[([22,0],.box (cP d j [12,0,5,0] [99,0,5,0])),([12,0,5,0],.arr 1 (d.now.ho.map vInt)),([99,0,5,0],.arr 2 ((d.now.un.get j).map encPa))]) (fun _=>.ref [22,0] 0)
noncomputable def Bj(j:Nat):Spec:=(Bl j).toSpec
attribute [go_sem] Bl Bj
set_option maxHeartbeats 4000000 in
theorem KX(j:Nat)(hj:j<6):an Tryd.prog 43 (Bj j):=by
 refine I9 (nt:=23) (rs:=[.tmp 2]) Tryd.func43 rfl (by rfl) (by kernel_rfl) (by kernel_rfl) (by decide) ?_
 intro xs hp
 obtain⟨d,rfl,hp,oO,jO⟩:=Jd hp
 replace oO:(Bl j).new _=_:=oO
 replace jO:(Bl j).d _=_:=jO
 rw[oO,jO]
 clear oO jO
 refine⟨lb rfl,?_⟩
 have hP:=bn
 simp only[iI,iB,eO,iI,iB,uf,eO,vZ,lz,iQ,rJ,dV,oz,Dj,iC,iF,encPa,nI,xj,encDk,fQ,List.map_cons,List.map_nil,fH,Nat.zero_add]
 have hΓ:=ac' hj
 have hs:dZ d:=hp
 have pS:=hs.now
 have EZ:∀ (F:Name->Option O),F [1,0]=some (.box ((aq d).map .v))->(xK j).app (fun nm=>if own [0] nm=true then F nm else none) [5,0] [.ref [1,0] 1]=⟨fresh (fun nm=>if own [0] nm=true then F nm else none) [5,0] (qR d.now j)=true,.agg (iO [12,0,5,0] [99,0,5,0] d.now j),upd (upd (fun nm=>if own [0] nm=true then F nm else none) [12,0,5,0] (some (.arr 1 (d.now.ho.map vInt)))) [99,0,5,0] (some (.arr 2 ((d.now.un.get j).map encPa)))⟩:=fun F h=>RF j (s:=d.now) (l:=aq d) (off:=1) (by rw[<-h];rfl) (xn d) pS
 repeat refine sq ?_
 refine rx hΓ [1] [[1,0],[12,0,5,0],[99,0,5,0]] (fun K' hK=>by simp only[go_sem];(repeat (refine⟨ah,?_⟩));exact hK _ (by simp only[go_sem]) (by simp only[go_sem]<;>rfl)) ?_
 repeat refine sq ?_
 refine rx hΓ [1] [[1,0],[12,0,5,0],[99,0,5,0]] (fun K' hK=>by simp only[go_sem,EZ,abU d [12,0,5,0] [99,0,5,0] hj];(repeat (refine⟨ah,?_⟩));exact hK _ (by simp only[go_sem]) (by simp only[go_sem]<;>rfl)) ?_
 repeat refine sq ?_
 refine rx hΓ [1,7] [[1,0],[12,0,5,0],[99,0,5,0]] (fun K' hK=>by simp only[go_sem];(repeat (refine⟨ah,?_⟩));exact hK _ (by simp only[go_sem]) (by simp only[go_sem]<;>rfl)) ?_
 repeat refine sq ?_
 refine aL ?_
 repeat refine sq ?_
 refine cN (fun z:Nat=>[(7,⟨true,.v (vInt z)⟩)]) (fun z=>[]) (fun z=>z<=2) (fun z=>2-z) 0 ?_ ?_ ?_ ?_
 ·exact Nat.zero_le _
 ·rfl
 ·rfl
 rintro i hi
 simp only[go_sem]
 repeat refine sq ?_
 refine rx hΓ [1,7,8] [[1,0],[12,0,5,0],[99,0,5,0]] (fun K' hK=>by simp only[go_sem];(repeat (refine⟨ah,?_⟩));exact hK _ (by simp only[go_sem]) (by simp only[go_sem]<;>rfl)) ?_
 repeat refine sq ?_
 refine aw rfl rfl (fun hb=>?_) (fun hb=>?_)
 ·have ae:i<2:=by have hq:(i:Int)<2:=(by simpa using hb);omega
  have ak:(i:Int)<2:=by omega
  clear hb
  have EY:∀ (F:Name->Option O) (t:Name),F [1,0]=some (.box (cP d j [12,0,5,0] [99,0,5,0]))->F [12,0,5,0]=some (.arr 1 (d.now.ho.map vInt))->F [99,0,5,0]=some (.arr 2 ((d.now.un.get j).map encPa))->S59r.app (fun nm=>if own [0] nm=true then F nm else none) t [.ref [1,0] (20+i*21+1)]=⟨True,.v (.agg (aC (d.pg i).st)),fun nm=>if own [0] nm=true then F nm else none⟩:=fun F t h1 h2 h3=>SM (b:=[1,0]) (h:=[12,0,5,0]) (u:=[99,0,5,0]) hj ae (hs.pg i ae) (by decide) (by rw[<-h1];rfl) (by rw[<-h2];rfl) (by rw[<-h3];rfl)
  repeat refine sq ?_
  refine aA ?_
  repeat refine sq ?_
  refine aL ?_
  repeat refine sq ?_
  refine rx hΓ [1,3,7] [[1,0],[12,0,5,0],[99,0,5,0]] (fun K' hK=>by simp only[go_sem,Int.toNat_natCast,Int.natCast_nonneg,ak];(repeat (refine⟨ah,?_⟩));exact hK _ (by simp only[go_sem]) (by simp only[go_sem]<;>rfl)) ?_
  repeat refine sq ?_
  refine aX hΓ fun K' hK=>?_
  simp only[go_sem,Int.toNat_natCast,Int.natCast_nonneg,ak,EY,abT d [12,0,5,0] [99,0,5,0] ae hj,Int.toNat_natCast,Int.natCast_nonneg,ak]
  repeat (refine⟨ah,?_⟩)
  refine hK _ ?_
  clear K' hK
  simp only[go_sem]
  refine kp [1,7] [[1,0],[12,0,5,0],[99,0,5,0]] ?_
  repeat refine sq ?_
  refine aX hΓ fun K' hK=>?_
  simp only[go_sem,Int.toNat_natCast,Int.natCast_nonneg,ak]
  repeat (refine⟨ah,?_⟩)
  refine hK _ ?_
  clear K' hK
  simp only[go_sem]
  refine⟨i+1,ae,by(show 2-(i+1)<2-i;omega),?_⟩
  refine bx [1,7] [[1,0],[12,0,5,0],[99,0,5,0]] ?_ ?_
  ·simp only[go_sem,aH ae (lb rfl:(2:Nat)<=maxLen),Int.natCast_add,Int.natCast_one]
  ·simp only[go_sem,aH ae (lb rfl:(2:Nat)<=maxLen),Int.natCast_add,Int.natCast_one]
 ·have bf:i=2:=by
   have :¬ (i:Int)<2:=by simpa using hb
   omega
  clear hb
  subst bf
  repeat refine sq ?_
  refine cq ?_
  simp only[go_sem]
  refine kp [1] [[1,0],[12,0,5,0],[99,0,5,0]] ?_
  repeat refine sq ?_
  refine rx hΓ [2] [[22,0],[12,0,5,0],[99,0,5,0]] (fun K' hK=>by simp only[go_sem,List.append_nil];(repeat (refine⟨ah,?_⟩));exact hK _ (by simp only[go_sem]) (by simp only[go_sem]<;>rfl)) ?_
  refine av ?_
  simp only[go_sem]
  skip
noncomputable def P116:PSpec:=p1 iI (fun _=>True) (fun _=>.bool false) true
noncomputable def S116:Spec:=P116.toSpec
attribute [go_sem] P116 S116
theorem Tf:aZ Tryd.prog 80 P116:=by
 refine w1 (rs:=[.tmp 2]) Tryd.func80 Tryd.ntmps80 (by rfl) (by kernel_rfl) (by decide) (fun _ _=>rfl) ⟨_,rfl,lb rfl,fun n hp hw=>?_⟩
 have hP:=bn
 simp only[iI]at hw |-
 have hΓ:=@nk Tryd.prog
 repeat refine sq ?_
 refine rs hΓ [0] [] ?_
 repeat refine sq ?_
 refine rx hΓ [2] [] (fun K' hK=>by simp only[go_sem,bne_self_eq_false];(repeat (refine⟨ob,?_⟩));exact hK _ (by simp only[go_sem]) (by simp only[go_sem]<;>rfl)) ?_
 refine av ?_
 simp only[go_sem]
 skip
theorem Xl:an Tryd.prog 80 S116:=Tf.sound
noncomputable def P100:PSpec:=p1 iI (fun _=>True) (fun _=>.bool false) true
noncomputable def S100:Spec:=P100.toSpec
attribute [go_sem] P100 S100
theorem To:aZ Tryd.prog 68 P100:=by
 refine w1 (rs:=[.tmp 2]) Tryd.func68 Tryd.ntmps68 (by rfl) (by kernel_rfl) (by decide) (fun _ _=>rfl) ⟨_,rfl,lb rfl,fun n hp hw=>?_⟩
 have hP:=bn
 simp only[iI]at hw |-
 have hΓ:=@nk Tryd.prog
 repeat refine sq ?_
 refine rs hΓ [0] [] ?_
 repeat refine sq ?_
 refine rx hΓ [2] [] (fun K' hK=>by simp only[go_sem,bne_self_eq_false];(repeat (refine⟨ob,?_⟩));exact hK _ (by simp only[go_sem]) (by simp only[go_sem]<;>rfl)) ?_
 refine av ?_
 simp only[go_sem]
 skip
theorem Lc:an Tryd.prog 68 S100:=To.sound
noncomputable def P0:List (Nat×Spec):=[(80,S116),(68,S100)]
theorem ac9:∀ f s,tbl P0 f=some s->an Tryd.prog f s:=tc Xl<|tc Lc<|tn
attribute [go_sem] P0
noncomputable def P99:PSpec:=p2 iI iI (fun _ _=>True) (fun a b=>.bool (decide (a<b))) true
noncomputable def S99:Spec:=P99.toSpec
attribute [go_sem] P99 S99
theorem Sq:aZ Tryd.prog 67 P99:=by
 refine w2 (rs:=[.tmp 4]) Tryd.func67 Tryd.ntmps67 (by rfl) (by kernel_rfl) (by decide) (fun _ _ _=>rfl) ⟨_,rfl,lb rfl,fun a b hp hw=>?_⟩
 have hP:=bn
 simp only[iI]at hw |-
 have hΓ:=ac9
 repeat refine sq ?_
 refine rs hΓ [0,1] [] ?_
 repeat refine sq ?_
 refine rs hΓ [4] [] ?_
 refine av ?_
 simp only[go_sem]
 skip
theorem WM:an Tryd.prog 67 S99:=Sq.sound
noncomputable def PZ:List (Nat×Spec):=[(67,S99),(68,S100)]
theorem ac8:∀ f s,tbl PZ f=some s->an Tryd.prog f s:=tc WM<|tc Lc<|tn
attribute [go_sem] PZ
def cQ(l:List Int)(x:Int):Nat:=(l.takeWhile fun y=>decide (y<x)).length
def bB(l:List Int)(x:Int):Bool:=l.contains x
theorem UO{i j:Nat}(hi:i<=maxLen)(hj:j<=maxLen):IntKind.i64.wrap ((IntKind.u64.wrap (IntKind.i64.wrap ((i:Int)+(j:Int)))).fdiv (2 ^ min (Int.toNat 1) 64))=(((i+j) / 2:Nat):Int):=by
 unfold maxLen at hi hj
 have h1:min (Int.toNat 1) 64=1:=by decide
 have h2:IntKind.u64.wrap (IntKind.i64.wrap ((i:Int)+(j:Int)))=((i+j:Nat):Int):=by
  rw[IntKind.wrap_u64,IntKind.wrap_i64]
  omega
 rw[h1,h2]
 have h3:(((i+j:Nat):Int)).fdiv (2 ^ 1)=(((i+j) / 2:Nat):Int):=by
  rw[Int.fdiv_eq_ediv_of_nonneg _ (by decide)]
  omega
 rw[h3,wrap_i64 (by omega) (by omega)]
theorem UR{l:List Int}{x:Int}{i:Nat}(hi:i<=l.length)(h1:∀ k (h:k<l.length),k<i->l[k] <x)(h2:∀ k (h:k<l.length),i<=k->x<=l[k]):cQ l x=i:=by
 unfold cQ
 induction l generalizing i with
 |nil=>simp at hi |-;omega
 |cons a r ih=>
  cases i with
  |zero=>
   have :=h2 0 (by simp) (Nat.le_refl _)
   simp only[List.getElem_cons_zero]at this
   have hd:decide (a<x)=false:=by simp;omega
   simp[hd]
  |succ i=>
   have :=h1 0 (by simp) (by omega)
   simp only[List.getElem_cons_zero]at this
   have hd:decide (a<x)=true:=by simp;omega
   simp only[List.takeWhile_cons,hd,if_true,List.length_cons]
   rw[ih (by simpa using hi) (fun k hk kR=>by have:=h1 (k+1) (by simpa using hk) (by omega);simpa using this) (fun k hk kR=>by have:=h2 (k+1) (by simpa using hk) (by omega);simpa using this)]
theorem ZG{l:List Int}{x:Int}{i:Nat}(hs:l.Pairwise (· < ·))(hi:i<l.length)(h1:∀ k (h:k<l.length),k<i->l[k] <x)(h2:∀ k (h:k<l.length),i<=k->x<=l[k]):bB l x=(l[i]==x):=by
 unfold bB
 rw[Bool.eq_iff_iff]
 simp only[List.contains_iff_mem,beq_iff_eq]
 constructor
 ·intro h
  obtain⟨k,hk,e⟩:=List.getElem_of_mem h
  rcases Nat.lt_trichotomy k i with h3 | h3 | h3
  ·have:=h1 k hk h3;omega
  ·subst h3;exact e
  ·have:=List.pairwise_iff_getElem.1 hs i k hi hk h3
   have :=h2 i hi (Nat.le_refl _)
   omega
 ·rintro rfl;exact List.getElem_mem hi
theorem ZF{l:List Int}{x:Int}(h1:∀ k (h:k<l.length),l[k] <x):bB l x=false:=by
 unfold bB
 rw[Bool.eq_false_iff]
 intro h
 obtain⟨k,hk,e⟩:=List.getElem_of_mem (List.contains_iff_mem.1 h)
 have :=h1 k hk
 omega
noncomputable def P52:PSpec:=p2 eO iI (fun l _=>l.Pairwise (· < ·)) (fun l x=>.tup [vInt (cQ l x),.bool (bB l x)]) true
noncomputable def S52:Spec:=P52.toSpec
attribute [go_sem] P52 S52
set_option maxRecDepth 10000 in
set_option maxHeartbeats 4000000 in
theorem SR:aZ Tryd.prog 42 P52:=by
 refine w2 (rs:=[.tmp 4,.tmp 5]) Tryd.func42 Tryd.ntmps42 (by rfl) (by kernel_rfl) (by decide) (fun _ _ _=>rfl) ⟨_,rfl,lb rfl,fun l x hp hw=>?_⟩
 have hP:=bn
 simp only[iI,eO]at hw |-
 have hΓ:=ac8
 have hs:l.Pairwise (· < ·):=hp
 have hl:l.length<=maxLen:=by have:=hw.1.1;simpa using this
 repeat refine sq ?_
 refine rs hΓ [0,1] [] ?_
 repeat refine sq ?_
 refine rs hΓ [0,1,6] [] ?_
 repeat refine sq ?_
 refine rs hΓ [0,1,6,7,8] [] ?_
 repeat refine sq ?_
 refine aL ?_
 repeat refine sq ?_
 refine cN (fun ij:Nat×Nat=>[(7,⟨true,.v (vInt ij.1)⟩),(8,⟨true,.v (vInt ij.2)⟩)]) (fun i=>[]) (fun ij=>ij.1<=ij.2/\ij.2<=l.length/\(∀ k (h:k<l.length),k<ij.1->l[k] <x)/\(∀ k (h:k<l.length),ij.2<=k->x<=l[k])) (fun ij=>ij.2-ij.1) (0,l.length) ?_ ?_ ?_ ?_
 ·exact⟨Nat.zero_le _,Nat.le_refl _,fun k h hk=>by omega,fun k h hk=>by omega⟩
 ·rfl
 ·rfl
 rintro⟨i,j⟩ ⟨ix,Eh,fj,iy⟩
 simp only[go_sem]
 repeat refine sq ?_
 refine rs hΓ [0,1,6,7,8,15] [] ?_
 repeat refine sq ?_
 refine aw rfl rfl (fun hb=>?_) (fun hb=>?_)
 ·have ae:i<j:=by simpa using hb
  repeat refine sq ?_
  refine aA ?_
  repeat refine sq ?_
  refine aL ?_
  repeat refine sq ?_
  refine rx hΓ [0,1,6,7,8,9] [] (fun K' hK=>by simp only[go_sem,UO (show i<=maxLen by omega) (show j<=maxLen by omega)];(repeat (refine⟨ob,?_⟩));exact hK _ (by simp only[go_sem]) (by simp only[go_sem]<;>rfl)) ?_
  obtain⟨h,hh⟩:∃ h,h=(i+j) / 2:=⟨_,rfl⟩
  rw[<-hh]
  have h1:i<=h:=by omega
  have h2:h<j:=by omega
  have h3:h<l.length:=by omega
  have uL:(h:Int)<l.length:=by omega
  repeat refine sq ?_
  refine rx hΓ [0,1,6,7,8,9,27] [] (fun K' hK=>by simp only[go_sem,ba h3,Int.toNat_natCast,Int.natCast_nonneg,uL];(repeat (refine⟨ob,?_⟩));exact hK _ (by simp only[go_sem]) (by simp only[go_sem]<;>rfl)) ?_
  repeat refine sq ?_
  refine aw rfl rfl (fun hb=>?_) (fun hb=>?_)
  ·have hx:l[h] <x:=of_decide_eq_true hb
   repeat refine sq ?_
   refine aX hΓ fun K' hK=>?_
   simp only[go_sem]
   repeat (refine⟨ob,?_⟩)
   refine hK _ ?_
   clear K' hK
   simp only[go_sem]
   refine⟨(h+1,j),⟨by omega,Eh,fun k hk Ec=>?_,iy⟩,by omega,?_⟩
   ·rcases Nat.lt_succ_iff_lt_or_eq.1 Ec with h5 | h5
    ·have:=List.pairwise_iff_getElem.1 hs k h hk h3 h5;omega
    ·subst h5;exact hx
   ·refine bx [0,1,6,7,8] [] ?_ ?_
    ·simp only[go_sem,aH h3 hl,Int.natCast_add,Int.natCast_one]
    ·simp only[go_sem,aH h3 hl,Int.natCast_add,Int.natCast_one]
  ·have hx:x<=l[h]:=by
     have :¬ l[h] <x:=of_decide_eq_false hb
     omega
   repeat refine sq ?_
   refine aX hΓ fun K' hK=>?_
   simp only[go_sem]
   repeat (refine⟨ob,?_⟩)
   refine hK _ ?_
   clear K' hK
   simp only[go_sem]
   refine⟨(i,h),⟨by omega,by omega,fj,fun k hk Ec=>?_⟩,by omega,?_⟩
   ·rcases Nat.lt_or_eq_of_le Ec with h5 | h5
    ·have:=List.pairwise_iff_getElem.1 hs h k h3 hk h5;omega
    ·subst h5;exact hx
   ·refine bx [0,1,6,7,8] [] ?_ ?_
    ·simp only[go_sem]
    ·simp only[go_sem]
 ·have Y1:i=j:=by
    have :¬ i<j:=by simpa using hb
    omega
  subst Y1
  clear hb
  have r9:=UR Eh fj iy
  repeat refine sq ?_
  refine cq ?_
  simp only[go_sem]
  refine kp [0,1,6,7] [] ?_
  repeat refine sq ?_
  rcases Nat.lt_or_ge i l.length with fD | fD
  ·have El:(i:Int)<l.length:=by omega
   have Es:=ZG hs fD fj iy
   have hg:=ba (f:=vInt) fD
   repeat refine sq ?_
   refine rx hΓ [4,5] [] (fun K' hK=>by simp only[go_sem,ba fD,Int.toNat_natCast,Int.natCast_nonneg,El,decide_true,r9];(repeat (refine⟨ob,?_⟩));exact hK _ (by simp only[go_sem]) (by simp only[go_sem]<;>rfl)) ?_
   refine av ?_
   simp only[go_sem]
   rw[r9,Es]
   first | done | rfl
  ·have bf:¬ (i:Int)<l.length:=by omega
   have Es:bB l x=false:=ZF fun k hk=>fj k hk (by omega)
   repeat refine sq ?_
   refine rx hΓ [4,5] [] (fun K' hK=>by simp only[go_sem,bf,decide_false,Int.toNat_natCast];(repeat (refine⟨ob,?_⟩));exact hK _ (by simp only[go_sem]) (by simp only[go_sem]<;>rfl)) ?_
   refine av ?_
   simp only[go_sem]
   rw[r9,Es]
   first | done | rfl
theorem KY:an Tryd.prog 42 S52:=SR.sound
set_option maxRecDepth 100000
def oy:En (List Dk):=⟨fun l=>.sl (l.map encDk),fun v=>match v with | .sl l=>l.map lE | _=>[]⟩
@[go_sem] theorem agx(l:List Dk):oy.dec (.sl (l.map encDk))=l:=rD FN l
theorem eY{l:List Dk}{i:Nat}(h:i<l.length):(l.map encDk).getD i default=.agg (aq l[i]):=by
 simp[List.getD_eq_getElem?_getD,List.getElem?_eq_getElem h,encDk]
def nJ(l:List Dk)(i:Nat):Bool:=ay (l.getD i default)&&(i==0||decide ((l.getD (i-1) default).me<(l.getD i default).me))
def ek(l:List Dk):Bool:=eH l.length (nJ l)&&decide (l.length<=6)
theorem aaP{l:List Dk}{i p:Nat}(hp:p=i-1)(hi:i<l.length)(bG:p<l.length):(!ay l[i]||(!(i==0)&&!decide (l[p].me<l[i].me)))=!nJ l i:=by
 subst hp
 unfold nJ
 rw[getD_at hi,getD_at bG]
 cases ay l[i]<;>cases (i==0)<;>cases decide (l[i-1].me<l[i].me)<;>rfl
@[go_sem] theorem agH(d:Dk):List.take 1 (aq d)=[vInt d.me]:=rfl
noncomputable def PO:List (Nat×Spec):=[(66,S74),(39,S23),(77,S39)]
theorem acX:∀ f s,tbl PO f=some s->an Tryd.prog f s:=tc KU<|tc rE<|tc Xe<|tn
attribute [go_sem] PO
noncomputable def P119:PSpec:=p1 oy (fun _=>True) (fun l=>.bool (ek l)) true
noncomputable def S119:Spec:=P119.toSpec
attribute [go_sem] P119 S119
set_option maxHeartbeats 4000000 in
theorem Te:aZ Tryd.prog 59 P119:=by
 refine w1 (rs:=[.tmp 2]) Tryd.func59 Tryd.ntmps59 (by rfl) (by kernel_rfl) (by decide) (fun _ _=>rfl) ⟨_,rfl,lb rfl,fun l hp hw=>?_⟩
 have hP:=bn
 simp only[oy]at hw |-
 have hΓ:=acX
 have hl:l.length<=maxLen:=by have:=hw.1.1;simpa using this
 repeat refine sq ?_
 refine rx hΓ [0] [] (fun K' hK=>by simp only[go_sem];(repeat (refine⟨ah,?_⟩));exact hK _ (by simp only[go_sem]) (by simp only[go_sem]<;>rfl)) ?_
 repeat refine sq ?_
 refine rx hΓ [0,5,6,7] [] (fun K' hK=>by simp only[go_sem];(repeat (refine⟨ah,?_⟩));exact hK _ (by simp only[go_sem]) (by simp only[go_sem]<;>rfl)) ?_
 repeat refine sq ?_
 refine aL ?_
 repeat refine sq ?_
 refine cN (fun s:Nat=>[(7,⟨true,.v (vInt s)⟩)]) (fun s=>[]) (fun s=>s<=l.length/\eH s (nJ l)=true) (fun s=>l.length-s) 0 ?_ ?_ ?_ ?_
 ·exact⟨Nat.zero_le _,rfl⟩
 ·rfl
 ·rfl
 rintro i ⟨hi,hR⟩
 simp only[go_sem]
 repeat refine sq ?_
 refine rx hΓ [0,5,6,7,8] [] (fun K' hK=>by simp only[go_sem];(repeat (refine⟨ah,?_⟩));exact hK _ (by simp only[go_sem]) (by simp only[go_sem]<;>rfl)) ?_
 repeat refine sq ?_
 refine aw rfl rfl (fun hb=>?_) (fun hb=>?_)
 ·have ae:i<l.length:=by simpa using hb
  have ak:(i:Int)<l.length:=by omega
  clear hb
  obtain⟨p,hp,bG,fK,bK⟩:=vG ae hl
  have dz:=aaP fK ae bG
  repeat refine sq ?_
  refine aA ?_
  repeat refine sq ?_
  refine aL ?_
  repeat refine sq ?_
  refine rx hΓ [0,3,4,5,6,7] [[4,0]] (fun K' hK=>by simp only[go_sem,eY ae,Int.toNat_natCast,Int.natCast_nonneg,ak,List.length_map,eY ae,Int.toNat_natCast,Int.natCast_nonneg,ak,List.length_map,List.append_nil];(repeat (refine⟨ah,?_⟩));exact hK _ (by simp only[go_sem]) (by simp only[go_sem]<;>rfl)) ?_
  refine aN (cX [4,0] (aq l[i]) rfl [0,3,4,5,6,7] [[4,0]] ?_ rfl) ?_
  ·simp only[go_sem]
  simp only[go_sem]
  rcases Nat.eq_zero_or_pos i with h0 | h0
  ·have cA:(i==0)=true:=by simp[h0]
   repeat refine sq ?_
   refine dx hΓ hP [[],[0],[0,1],[0,1,2],[0,1,2,3],[0,1,2,3,4],[0,1,2,3,4,5],[0,1,2,3,4,5,6],[0,1,2,3,4,5,6],[0,1,2,3,4,5,6,8],[0,1,2,3,4,5,6,7,8,9],[0,1,2,3,4,5,6,7,8,9,10],[0,1,2,3,4,5,6,7,8,9,10,11],[0,1,2,3,4,5,6],[0,1,2,3,4,5,6,13],[0,1,2,3,4,5,6,7,8,9,10,11,12,13,14],[0,1,2,3,4,5,6,7,8,9,10,11,12,13,14,15],[0,1,2,3,4,5,6,7,8,9,10,11,12,13,14,15,16]] [0,5,6,7,29] [] (by kernel_rfl) (fun K' hK=>by simp only[go_sem,eY ae,Int.toNat_natCast,Int.natCast_nonneg,ak,List.length_map,cA,hp,eY bG,Int.toNat_natCast,Int.natCast_nonneg,ak,pB,not_lt,List.length_map];(repeat (refine⟨by first | exact ah | exact fun _=>⟨bZ,cg,rfl⟩ | exact fun _=>⟨bZ,cg⟩,?_⟩));(first | refine⟨by rfl,?_⟩ | skip);exact hK _ (by simp only[go_sem]) (by simp only[go_sem]<;>rfl)) ?_
   repeat refine sq ?_
   refine aw rfl rfl (fun hb=>?_) (fun hb=>?_)
   ·repeat refine sq ?_
    have bt:nJ l i=false:=by simpa[cA,hb]using dz.symm
    repeat refine sq ?_
    refine rx hΓ [2] [] (fun K' hK=>by simp only[go_sem,eY ae,Int.toNat_natCast,Int.natCast_nonneg,ak,List.length_map,cA];(repeat (refine⟨ah,?_⟩));exact hK _ (by simp only[go_sem]) (by simp only[go_sem]<;>rfl)) ?_
    refine av ?_
    simp only[go_sem]
    first | simp only[ek,fy ae bt,Bool.false_and] | (simp only[ek,hR,Bool.true_and];done) | (simp only[ek,hR,Bool.true_and];congr 2;apply propext;omega)
   ·repeat refine sq ?_
    have bz:nJ l i=true:=by simpa[cA,hb]using dz.symm
    refine aA ?_
    refine dA ?_
    simp only[go_sem]
    refine kp [0,5,6,7] [] ?_
    repeat refine sq ?_
    refine aX hΓ fun K' hK=>?_
    simp only[go_sem,eY ae,Int.toNat_natCast,Int.natCast_nonneg,ak,List.length_map,cA]
    repeat (refine⟨ah,?_⟩)
    refine hK _ ?_
    clear K' hK
    simp only[go_sem]
    refine⟨i+1,⟨ae,?_⟩,by(show l.length-(i+1)<l.length-i;omega),?_⟩
    ·exact jY hR bz
    refine bx [0,5,6,7] [] ?_ ?_
    ·simp only[go_sem,aH ae hl,Int.natCast_add,Int.natCast_one]
    ·simp only[go_sem,aH ae hl,Int.natCast_add,Int.natCast_one]
  ·have cA:(i==0)=false:=by rw[beq_eq_false_iff_ne];omega
   obtain⟨bZ,cg⟩:=bK h0
   repeat refine sq ?_
   refine dx hΓ hP [[],[0],[0,1],[0,1,2],[0,1,2,3],[0,1,2,3,4],[0,1,2,3,4,5],[0,1,2,3,4,5,6],[0,1,2,3,4,5,6],[0,1,2,3,4,5,6,8],[0,1,2,3,4,5,6,7,8,9],[0,1,2,3,4,5,6,7,8,9,10],[0,1,2,3,4,5,6,7,8,9,10,11],[0,1,2,3,4,5,6],[0,1,2,3,4,5,6,13],[0,1,2,3,4,5,6,7,8,9,10,11,12,13,14],[0,1,2,3,4,5,6,7,8,9,10,11,12,13,14,15],[0,1,2,3,4,5,6,7,8,9,10,11,12,13,14,15,16]] [0,5,6,7,29] [] (by kernel_rfl) (fun K' hK=>by simp only[go_sem,eY ae,Int.toNat_natCast,Int.natCast_nonneg,ak,List.length_map,cA,bZ,cg,hp,eY bG,Int.toNat_natCast,Int.natCast_nonneg,ak,pB,not_lt,List.length_map];(repeat (refine⟨by first | exact ah | exact fun _=>⟨bZ,cg,rfl⟩ | exact fun _=>⟨bZ,cg⟩,?_⟩));(first | refine⟨by rfl,?_⟩ | skip);exact hK _ (by simp only[go_sem]) (by simp only[go_sem]<;>rfl)) ?_
   repeat refine sq ?_
   refine aw rfl rfl (fun hb=>?_) (fun hb=>?_)
   ·repeat refine sq ?_
    have bt:nJ l i=false:=by simpa[cA,<-Bool.or_assoc,hb]using dz.symm
    repeat refine sq ?_
    refine rx hΓ [2] [] (fun K' hK=>by simp only[go_sem,eY ae,Int.toNat_natCast,Int.natCast_nonneg,ak,List.length_map,cA,bZ,cg];(repeat (refine⟨ah,?_⟩));exact hK _ (by simp only[go_sem]) (by simp only[go_sem]<;>rfl)) ?_
    refine av ?_
    simp only[go_sem]
    first | simp only[ek,fy ae bt,Bool.false_and] | (simp only[ek,hR,Bool.true_and];done) | (simp only[ek,hR,Bool.true_and];congr 2;apply propext;omega)
   ·repeat refine sq ?_
    have bz:nJ l i=true:=by simpa[cA,<-Bool.or_assoc,hb]using dz.symm
    refine aA ?_
    refine dA ?_
    simp only[go_sem]
    refine kp [0,5,6,7] [] ?_
    repeat refine sq ?_
    refine aX hΓ fun K' hK=>?_
    simp only[go_sem,eY ae,Int.toNat_natCast,Int.natCast_nonneg,ak,List.length_map,cA,bZ,cg]
    repeat (refine⟨ah,?_⟩)
    refine hK _ ?_
    clear K' hK
    simp only[go_sem]
    refine⟨i+1,⟨ae,?_⟩,by(show l.length-(i+1)<l.length-i;omega),?_⟩
    ·exact jY hR bz
    refine bx [0,5,6,7] [] ?_ ?_
    ·simp only[go_sem,aH ae hl,Int.natCast_add,Int.natCast_one]
    ·simp only[go_sem,aH ae hl,Int.natCast_add,Int.natCast_one]
 ·have bf:i=l.length:=by
   have :¬ (i:Int)<l.length:=by simpa using hb
   omega
  clear hb
  subst bf
  repeat refine sq ?_
  refine cq ?_
  simp only[go_sem]
  refine kp [0] [] ?_
  repeat refine sq ?_
  refine rx hΓ [2] [] (fun K' hK=>by simp only[go_sem];(repeat (refine⟨ah,?_⟩));exact hK _ (by simp only[go_sem]) (by simp only[go_sem]<;>rfl)) ?_
  refine av ?_
  simp only[go_sem]
  first | simp only[ek,fy ae bt,Bool.false_and] | (simp only[ek,hR,Bool.true_and];done) | (simp only[ek,hR,Bool.true_and];congr 2;apply propext;omega)
theorem La:an Tryd.prog 59 S119:=Te.sound
def iv(l:List Dk)(p:Int):Int:=if ek l=true then(if aP p 1 999=true then 0 else 1)else 97
theorem yD{l:List Dk}{p:Int}(h:ek l=false):iv l p=97:=if_neg (by rw[h];decide)
theorem yC{l:List Dk}{p:Int}(h:ek l=true)(h1:aP p 1 999=false):iv l p=1:=by unfold iv;rw[if_pos h,if_neg (by rw[h1];decide)]
theorem yA{l:List Dk}{p:Int}(h:ek l=true)(h1:aP p 1 999=true):iv l p=0:=by unfold iv;rw[if_pos h,if_pos h1]
noncomputable def PN:List (Nat×Spec):=[(59,S119),(40,S50)]
theorem acW:∀ f s,tbl PN f=some s->an Tryd.prog f s:=tc La<|tc C'<|tn
attribute [go_sem] PN
noncomputable def P104:PSpec:=p2 oy iI (fun _ _=>True) (fun l p=>vInt (iv l p)) true
noncomputable def S104:Spec:=P104.toSpec
attribute [go_sem] P104 S104
theorem Tl:aZ Tryd.prog 52 P104:=by
 refine w2 (rs:=[.tmp 4]) Tryd.func52 Tryd.ntmps52 (by rfl) (by kernel_rfl) (by decide) (fun _ _ _=>rfl) ⟨_,rfl,lb rfl,fun l p hp hw=>?_⟩
 have hP:=bn
 simp only[oy,iI]at hw |-
 have hΓ:=acW
 repeat refine sq ?_
 refine rx hΓ [0,1] [] (fun K' hK=>by simp only[go_sem];(repeat (refine⟨ah,?_⟩));exact hK _ (by simp only[go_sem]) (by simp only[go_sem]<;>rfl)) ?_
 repeat refine sq ?_
 refine aL ?_
 repeat refine sq ?_
 refine rx hΓ [1,5] [] (fun K' hK=>by simp only[go_sem];(repeat (refine⟨ah,?_⟩));exact hK _ (by simp only[go_sem]) (by simp only[go_sem]<;>rfl)) ?_
 repeat refine sq ?_
 refine aw rfl rfl (fun hb=>?_) (fun hb=>?_)
 ·repeat refine sq ?_
  have h1:ek l=false:=by simpa using hb
  repeat refine sq ?_
  refine rx hΓ [4] [] (fun K' hK=>by simp only[go_sem];(repeat (refine⟨ah,?_⟩));exact hK _ (by simp only[go_sem]) (by simp only[go_sem]<;>rfl)) ?_
  refine av ?_
  simp only[go_sem]
  first | (rw[yD h1];done) | (rw[yC h1 h2];done) | (rw[yA h1 h2];done)
 ·repeat refine sq ?_
  have h1:ek l=true:=by simpa using hb
  repeat refine sq ?_
  refine rx hΓ [9] [] (fun K' hK=>by simp only[go_sem];(repeat (refine⟨ah,?_⟩));exact hK _ (by simp only[go_sem]) (by simp only[go_sem]<;>rfl)) ?_
  repeat refine sq ?_
  refine aw rfl rfl (fun hb=>?_) (fun hb=>?_)
  ·repeat refine sq ?_
   have h2:aP p 1 999=false:=by simpa using hb
   repeat refine sq ?_
   refine rx hΓ [4] [] (fun K' hK=>by simp only[go_sem];(repeat (refine⟨ah,?_⟩));exact hK _ (by simp only[go_sem]) (by simp only[go_sem]<;>rfl)) ?_
   refine av ?_
   simp only[go_sem]
   first | (rw[yD h1];done) | (rw[yC h1 h2];done) | (rw[yA h1 h2];done)
  ·repeat refine sq ?_
   have h2:aP p 1 999=true:=by simpa using hb
   refine aA ?_
   refine dA ?_
   simp only[go_sem]
   refine kp [] [] ?_
   repeat refine sq ?_
   refine rx hΓ [4] [] (fun K' hK=>by simp only[go_sem];(repeat (refine⟨ah,?_⟩));exact hK _ (by simp only[go_sem]) (by simp only[go_sem]<;>rfl)) ?_
   refine av ?_
   simp only[go_sem]
   first | (rw[yD h1];done) | (rw[yC h1 h2];done) | (rw[yA h1 h2];done)
theorem Xq:an Tryd.prog 52 S104:=Tl.sound
noncomputable def K81:List (Nat×Spec):=[(77,S39)]
attribute [go_sem] K81
noncomputable def acV:List (Nat×Spec):=[(76,S55)]
attribute [go_sem] acV
theorem Cn{l:List Int}(h:fX l=true):l.Pairwise (· < ·):=by
 unfold fX at h
 rw[Bool.and_eq_true,gJ]at h
 have h1:∀ i (hi:i+1<l.length),l[i]'(by omega)<l[i+1]:=fun i hi=>by
  have :=h.1 (i+1) hi
  unfold kL at this
  simp only[Bool.and_eq_true,Bool.or_eq_true,decide_eq_true_eq,Nat.add_sub_cancel]at this
  rw[getD_at (show i<l.length by omega),getD_at hi]at this
  rcases this.2 with h2 | h2
  ·simp at h2
  ·exact h2
 refine List.pairwise_iff_getElem.2 fun i j hi hj ix=>?_
 induction j with
 |zero=>omega
 |succ j ih=>
  rcases Nat.lt_succ_iff_lt_or_eq.1 ix with h2 | rfl
  ·have:=ih (by omega) h2
   have :=h1 j hj
   omega
  ·exact h1 i hj
theorem Nl(l:List Int)(p:Int):jT l p l.length=l.filter fun x=>x != p:=by
 unfold jT;rw[List.take_length]
theorem aaE{l:List Int}{p:Int}(h:∀ y∈l,p<y):l.filter (fun x=>x != p)=l:=by
 rw[List.filter_eq_self]
 intro y hy
 have :=h y hy
 simp only[bne_iff_ne,ne_eq]
 omega
theorem Nv:∀ {l:List Int} {p:Int},l.Pairwise (· < ·)->bB l p=true->l.eraseIdx (cQ l p)=l.filter (fun x=>x != p)/\cQ l p<l.length
 |[],p,_,h=>by simp[bB]at h
 |a::r,p,hs,h=>by
  rw[List.pairwise_cons]at hs
  by_cases ha:a=p
  ·subst ha
   have h0:cQ (a::r) a=0:=by
    unfold cQ
    rw[List.takeWhile_cons_of_neg (by simp)];rfl
   rw[h0]
   have hf:List.filter (fun x=>x != a) (a::r)=List.filter (fun x=>x != a) r:=by simp
   rw[hf,aaE hs.1]
   exact⟨rfl,by simp⟩
  ·have hr:bB r p=true:=by
     unfold bB at h |-
     rw[List.contains_iff_mem]at h |-
     rcases List.mem_cons.1 h with h1 | h1
     ·exact absurd h1.symm ha
     ·exact h1
   have ae:a<p:=hs.1 p (by unfold bB at hr;rwa [List.contains_iff_mem]at hr)
   obtain⟨h1,h2⟩:=Nv hs.2 hr
   have h0:cQ (a::r) p=cQ r p+1:=by
    unfold cQ
    rw[List.takeWhile_cons_of_pos (by simpa using ae)];rfl
   rw[h0]
   have hf:List.filter (fun x=>x != p) (a::r)=a::List.filter (fun x=>x != p) r:=by simp[ha]
   rw[hf,List.eraseIdx_cons_succ,h1]
   exact⟨rfl,by simpa using h2⟩
theorem EG{d:Dk}{p:Int}:bB d.now.ho p=!mL d p:=by
 unfold mL
 rw[Nl]
 cases h:bB d.now.ho p with
 |true=>
  have hlen:¬ (d.now.ho.filter fun x=>x != p).length=d.now.ho.length:=by
   intro he
   have h1:=List.filter_eq_self.1 (List.length_filter_eq_length_iff.1 he |> fun hh=>List.filter_eq_self.2 hh)
   unfold bB at h
   rw[List.contains_iff_mem]at h
   have :=h1 p h
   simp at this
  rw[decide_eq_false hlen];rfl
 |false=>
  have dI:(d.now.ho.filter fun x=>x != p)=d.now.ho:=by
   rw[List.filter_eq_self]
   intro y hy
   simp only[bne_iff_ne,ne_eq]
   rintro rfl
   unfold bB at h
   have :=List.contains_iff_mem.2 hy
   rw[h]at this;cases this
  rw[dI,decide_eq_true rfl];rfl
theorem aa3(l:List Int)(i:Nat):(l.map vInt).eraseIdx i=(l.eraseIdx i).map vInt:=by
 rw[List.eraseIdx_eq_take_drop_succ,List.eraseIdx_eq_take_drop_succ,List.map_append,List.map_take,List.map_drop]
attribute [go_sem] cP S54 xI
@[go_sem] theorem ahl(f:Name->Name)(d:Dk)(j:Nat)(hd:D)(nm:Name)(n:Nat)(se:Int):D.renL f (b8 d j hd nm n se)=b8 d j (hd.ren f) (f nm) n se:=by
  unfold b8
  rw[iu,List.map_set,List.map_set,List.map_set,List.map_map]
  rfl
noncomputable def PX(j:Nat):List (Nat×Spec):=[(39,S23),(40,S50),(41,S51),(42,S52),(43,Bj j),(44,S54)]
attribute [go_sem] PX
theorem ac7{j:Nat}(hj:j<6):∀ f s,tbl (PX j) f=some s->an Tryd.prog f s:=tc rE<|tc C'<|tc KZ<|tc KY<|tc (KX j hj)<|tc KW<|tn
noncomputable def P8:PSpec:=p3 dV iI iI (fun d _ _=>dZ d) (fun d p t=>.tup [encDk (ir d p t),vInt (cG d p t)]) false
noncomputable def S8:Spec:=P8.toSpec
attribute [go_sem] P8 S8
set_option maxHeartbeats 4000000 in
theorem s8:aZ Tryd.prog 14 P8:=by
 refine w3 (rs:=[.cell 6 44,.tmp 7]) Tryd.func14 Tryd.ntmps14 (by rfl) (by kernel_rfl) (by decide) (fun h=>by cases h) ⟨_,rfl,lb rfl,fun d p t hp hw=>?_⟩
 have hP:=bn
 simp only[dV,iI]at hw |-
 obtain⟨j,hj,sd⟩:=TQ d t
 have hΓ:=ac7 hj
 have hs:dZ d:=hp
 repeat refine sq ?_
 refine rx hΓ [1,2,3,6] [[3,0],[6,0]] (fun K' hK=>by simp only[go_sem];(repeat (refine⟨ah,?_⟩));exact hK _ (by simp only[go_sem]) (by simp only[go_sem]<;>rfl)) ?_
 refine aN (nU [6,0] _ (aq zD) rfl rfl [1,2,3,6] [[3,0],[6,0]] ?_ rfl) ?_
 ·simp only[go_sem]
 simp only[go_sem]
 refine aN (cX [3,0] (aq d) rfl [1,2,3,6] [[3,0],[6,0]] ?_ rfl) ?_
 ·simp only[go_sem]
 simp only[go_sem]
 repeat refine sq ?_
 refine rx hΓ [1,2,3,6,8] [[3,0],[6,0]] (fun K' hK=>by simp only[go_sem];(repeat (refine⟨ah,?_⟩));exact hK _ (by simp only[go_sem]) (by simp only[go_sem]<;>rfl)) ?_
 repeat refine sq ?_
 refine rx hΓ [1,2,3,6,8,16] [[3,0],[6,0]] (fun K' hK=>by simp only[go_sem];(repeat (refine⟨ah,?_⟩));exact hK _ (by simp only[go_sem]) (by simp only[go_sem]<;>rfl)) ?_
 repeat refine sq ?_
 refine aw rfl rfl (fun hb=>?_) (fun hb=>?_)
 ·repeat refine sq ?_
  have hd:=uT hb
  have hq:=RV (p:=p) (t:=t) hd
  have e1:=ky hd
  repeat refine sq ?_
  refine rx hΓ [6,7] [[6,0]] (fun K' hK=>by simp only[go_sem];(repeat (refine⟨ah,?_⟩));exact hK _ (by simp only[go_sem]) (by simp only[go_sem]<;>rfl)) ?_
  refine av ?_
  simp only[go_sem]
  first | (rw[hq.1,hq.2];done) | (rw[hq.1,hq.2];rfl) | (rw[hq.1,hq.2,e1];done) | (rw[hq.1,hq.2,e1];rfl)
 ·repeat refine sq ?_
  have hd:=uS hb
  refine aA ?_
  repeat refine sq ?_
  refine rx hΓ [1,2,3,6,21] [[3,0],[6,0]] (fun K' hK=>by simp only[go_sem];(repeat (refine⟨ah,?_⟩));exact hK _ (by simp only[go_sem]) (by simp only[go_sem]<;>rfl)) ?_
  repeat refine sq ?_
  refine aw rfl rfl (fun hb=>?_) (fun hb=>?_)
  ·repeat refine sq ?_
   have h1:aP p 1 999=false:=by simpa using hb
   have hq:=RZ (t:=t) hd h1
   repeat refine sq ?_
   refine rx hΓ [6,7] [[6,0]] (fun K' hK=>by simp only[go_sem];(repeat (refine⟨ah,?_⟩));exact hK _ (by simp only[go_sem]) (by simp only[go_sem]<;>rfl)) ?_
   refine av ?_
   simp only[go_sem]
   first | (rw[hq.1,hq.2];done) | (rw[hq.1,hq.2];rfl) | (rw[hq.1,hq.2,e1];done) | (rw[hq.1,hq.2,e1];rfl)
  ·repeat refine sq ?_
   have h1:aP p 1 999=true:=by simpa using hb
   refine aA ?_
   repeat refine sq ?_
   refine rx hΓ [1,2,3,6,9] [[3,0],[6,0]] (fun K' hK=>by simp only[go_sem];(repeat (refine⟨ah,?_⟩));exact hK _ (by simp only[go_sem]) (by simp only[go_sem]<;>rfl)) ?_
   repeat refine sq ?_
   refine rx hΓ [1,2,3,6,9,27] [[3,0],[6,0]] (fun K' hK=>by simp only[go_sem];(repeat (refine⟨ah,?_⟩));exact hK _ (by simp only[go_sem]) (by simp only[go_sem]<;>rfl)) ?_
   repeat refine sq ?_
   refine aw rfl rfl (fun hb=>?_) (fun hb=>?_)
   ·repeat refine sq ?_
    have hn:=Pd hb
    have h2:dY d t=false:=by unfold o8 at hn;rw[hd]at hn;simpa using hn
    have hq:=RT hd h1 h2
    have e1:=xG hd h2
    repeat refine sq ?_
    refine rx hΓ [6,7] [[6,0]] (fun K' hK=>by simp only[go_sem];(repeat (refine⟨ah,?_⟩));exact hK _ (by simp only[go_sem]) (by simp only[go_sem]<;>rfl)) ?_
    refine av ?_
    simp only[go_sem]
    first | (rw[hq.1,hq.2];done) | (rw[hq.1,hq.2];rfl) | (rw[hq.1,hq.2,e1];done) | (rw[hq.1,hq.2,e1];rfl)
   ·repeat refine sq ?_
    obtain⟨_,h2⟩:=Pe hb
    obtain⟨uj,oC,_⟩:=BB h2
    have p6:=sd h2
    have aa:=yQ hd
    have hol:=aa.hol
    have zz:=aa.unl j hj
    have fe:=aa.se j hj
    have DG:d.now.ho.Pairwise (· < ·):=by
     have hh:=hd
     unfold ay iz cZ at hh
     simp only[Bool.and_eq_true]at hh
     exact Cn hh.1.1.1.1.1.1.2
    refine aA ?_
    repeat refine sq ?_
    refine rx hΓ [1,2,3,6,10,11] [[3,0],[6,0]] (fun K' hK=>by simp only[go_sem,DG];(repeat (refine⟨ah,?_⟩));exact hK _ (by simp only[go_sem]) (by simp only[go_sem]<;>rfl)) ?_
    repeat refine sq ?_
    refine aL ?_
    repeat refine sq ?_
    refine rx hΓ [1,2,3,6,10,38] [[3,0],[6,0]] (fun K' hK=>by simp only[go_sem];(repeat (refine⟨ah,?_⟩));exact hK _ (by simp only[go_sem]) (by simp only[go_sem]<;>rfl)) ?_
    repeat refine sq ?_
    refine aw rfl rfl (fun hb=>?_) (fun hb=>?_)
    ·repeat refine sq ?_
     have h3:mL d p=true:=by have h4:=EG (d:=d) (p:=p);(have h5:bB d.now.ho p=false:=by simpa using hb);rw[h5]at h4;simpa using h4.symm
     have hq:=RY hd h1 h2 h3
     repeat refine sq ?_
     refine rx hΓ [6,7] [[6,0]] (fun K' hK=>by simp only[go_sem];(repeat (refine⟨ah,?_⟩));exact hK _ (by simp only[go_sem]) (by simp only[go_sem]<;>rfl)) ?_
     refine av ?_
     simp only[go_sem]
     first | (rw[hq.1,hq.2];done) | (rw[hq.1,hq.2];rfl) | (rw[hq.1,hq.2,e1];done) | (rw[hq.1,hq.2,e1];rfl)
    ·repeat refine sq ?_
     have h5:bB d.now.ho p=true:=by simpa using hb
     have h3:mL d p=false:=by have h4:=EG (d:=d) (p:=p);rw[h5]at h4;simpa using h4.symm
     obtain⟨g1,g2⟩:=Nv DG h5
     have g3:(List.map vInt d.now.ho).eraseIdx (cQ d.now.ho p)=(jT d.now.ho p d.now.ho.length).map vInt:=by rw[aa3,g1,Nl]
     have g4:IntKind.i64.wrap ((cQ d.now.ho p:Int)+1)=(cQ d.now.ho p:Int)+1:=wrap_i64 (by omega) (by omega)
     repeat refine sq ?_
     refine rx hΓ [1,2,3,6,10,42] [[3,0],[6,0]] (fun K' hK=>by simp only[go_sem,p6,uj,oC,aaY d hj,aa0 d hj];(repeat (refine⟨ah,?_⟩));exact hK _ (by simp only[go_sem]) (by simp only[go_sem]<;>rfl)) ?_
     repeat refine sq ?_
     refine aw rfl rfl (fun hb=>?_) (fun hb=>?_)
     ·repeat refine sq ?_
      have h4:ot d t=true:=by unfold ot;rw[p6];exact hb
      have hq:=RW hd h1 h2 h3 h4
      repeat refine sq ?_
      refine rx hΓ [6,7] [[6,0]] (fun K' hK=>by simp only[go_sem];(repeat (refine⟨ah,?_⟩));exact hK _ (by simp only[go_sem]) (by simp only[go_sem]<;>rfl)) ?_
      refine av ?_
      simp only[go_sem]
      first | (rw[hq.1,hq.2];done) | (rw[hq.1,hq.2];rfl) | (rw[hq.1,hq.2,e1];done) | (rw[hq.1,hq.2,e1];rfl)
     ·repeat refine sq ?_
      have h4:ot d t=false:=by unfold ot;rw[p6];exact hb
      have hq:=RU hd h1 h2 h3 h4
      rw[p6]at hq
      have w1:IntKind.i64.wrap (d.now.se.get j+1)=d.now.se.get j+1:=by have:=fe;exact wrap_i64 (by have:=fe.1;omega) (by have:=fe.2;omega)
      refine aA ?_
      refine dA ?_
      simp only[go_sem]
      refine kp [1,2,3,6,10] [[3,0],[6,0]] ?_
      repeat refine sq ?_
      refine rx hΓ [1,2,6,10,12] [[6,0],[22,0,60,0],[12,0,5,0,60,0],[99,0,5,0,60,0]] (fun K' hK=>by simp only[go_sem,hs];(repeat (refine⟨ah,?_⟩));exact hK _ (by simp only[go_sem]) (by simp only[go_sem]<;>rfl)) ?_
      repeat refine sq ?_
      refine rx hΓ [1,2,6,12] [[6,0],[22,0,60,0],[12,0,5,0,60,0],[99,0,5,0,60,0]] (fun K' hK=>by simp only[go_sem,g4,g3,Int.toNat_natCast];(repeat (refine⟨ah,?_⟩));exact hK _ (by simp only[go_sem]) (by simp only[go_sem]<;>rfl)) ?_
      repeat refine sq ?_
      refine dx hΓ hP [[],[],[0],[0,2],[0,2,3],[0,2,3,4],[0,1,2,3,4,5],[0,1,2,3,4,5,6],[0,1,2,3,4,5,6,7],[0],[0,9],[0,9,10],[0,9,10,11],[0,1,2,3,4,5,6,7,8,9,10,11,12],[0,1,2,3,4,5,6,7,8,9,10,11,12,13]] [1,2,6,12] [[6,0],[22,0,60,0],[12,0,5,0,60,0],[99,0,5,0,60,0]] (by kernel_rfl) (fun K' hK=>by simp only[go_sem,p6,uj,oC,Oz d _ _ _ _ hj,abP d _ _ _ _ _ hj,w1];(repeat (refine⟨ah,?_⟩));(first | refine⟨by rfl,?_⟩ | skip);exact hK _ (by simp only[go_sem]) (by simp only[go_sem]<;>rfl)) ?_
      repeat refine sq ?_
      refine dx hΓ hP [[],[],[],[],[2],[2,4],[2,4,5],[2,4,5,6],[2,3,4,5,6,7],[2,3,4,5,6,7,8],[],[],[10],[10,12],[10,12,13],[10,12,13,14],[10,11,12,13,14,15],[10,11,12,13,14,15,16],[],[10,11,12,13,14,15,16,17,18],[10,11,12,13,14,15,16,17,18,19],[2,3,4,5,6,7,8,9,10,11,12,13,14,15,16,17,18,19,20],[0],[0,22],[0,22,23],[0,22,23,24],[0,1,2,3,4,5,6,7,8,9,10,11,12,13,14,15,16,17,18,19,20,21,22,23,24,25],[0,1,2,3,4,5,6,7,8,9,10,11,12,13,14,15,16,17,18,19,20,21,22,23,24,25,26]] [6,12] [[6,0],[22,0,60,0],[12,0,5,0,60,0],[99,0,5,0,60,0]] (by kernel_rfl) (fun K' hK=>by simp only[go_sem,p6,uj,oC,Oz d _ _ _ _ hj,Oy d _ _ _ _ hj,abN d _ _ _ _ _ hj];(repeat (refine⟨ah,?_⟩));(first | refine⟨by rfl,?_⟩ | skip);exact hK _ (by simp only[go_sem]) (by simp only[go_sem]<;>rfl)) ?_
      refine aN (dK [22,0,60,0] [99,0,5,0,60,0] (2+j) _ _ _ _ rfl (OD _ _ _ _ _ hj) rfl (by simp only[List.length_append,List.length_map,List.length_cons,List.length_nil]) [6,12] [[6,0],[22,0,60,0]] ?_ rfl) ?_
      ·simp only[go_sem,OA d _ _ _ _ _ _ _ hj]
      simp only[go_sem,OA d _ _ _ _ _ _ _ hj]
      repeat refine sq ?_
      refine rx hΓ [6,7] [[6,0]] (fun K' hK=>by simp only[go_sem];(repeat (refine⟨ah,?_⟩));exact hK _ (by simp only[go_sem]) (by simp only[go_sem]<;>rfl)) ?_
      refine av ?_
      simp only[go_sem]
      first | (rw[hq.1,hq.2];done) | (rw[hq.1,hq.2];rfl) | (rw[hq.1,hq.2,e1];done) | (rw[hq.1,hq.2,e1];rfl)
theorem k8:an Tryd.prog 14 S8:=s8.sound
def cE(l:List Int)(x:Int):List Int:=l.take (cQ l x)++[x]++l.drop (cQ l x)
theorem CK(l:List Int)(x:Int):cQ l x<=l.length:=by
 unfold cQ
 exact(List.takeWhile_prefix _).length_le
theorem Jl:∀ {l:List Int} {x:Int},l.Pairwise (· < ·)->∀ {i:Nat} (hi:i<l.length),l[i] <x↔i<cQ l x
 |[],x,_,i,hi=>by simp at hi
 |a::r,x,hs,i,hi=>by
  rw[List.pairwise_cons]at hs
  by_cases ha:a<x
  ·have h0:cQ (a::r) x=cQ r x+1:=by
     unfold cQ
     rw[List.takeWhile_cons_of_pos (by simpa using ha)];rfl
   rw[h0]
   cases i with
   |zero=>simp[ha]
   |succ i=>
    have :=Jl (x:=x) hs.2 (i:=i) (by simpa using hi)
    simp only[List.getElem_cons_succ,this]
    omega
  ·have h0:cQ (a::r) x=0:=by
     unfold cQ
     rw[List.takeWhile_cons_of_neg (by simpa using ha)];rfl
   rw[h0]
   cases i with
   |zero=>simp;omega
   |succ i=>
    have :=hs.1 (r[i]'(by simpa using hi)) (List.getElem_mem _)
    simp only[List.getElem_cons_succ]
    omega
theorem XF(l:List Int)(x:Int):(cE l x).length=l.length+1:=by
 have :=CK l x
 unfold cE
 simp only[List.length_append,List.length_take,List.length_drop,List.length_cons,List.length_nil]
 omega
def TN(l:List Int)(x:Int):List Int:=if bB l x=true then[]else cE l x
theorem ZE{l:List Int}{x:Int}{i:Nat}(hi:i<l.length)(h:l[i]=x):bB l x=true:=by
 unfold bB;rw[List.contains_iff_mem,<-h];exact List.getElem_mem hi
noncomputable def PA:PSpec:=p2 eO iI (fun l _=>l.Pairwise (· < ·)/\l.length<=1000) (fun l x=>.tup [.sl ((TN l x).map vInt),.bool (!bB l x)]) false
noncomputable def GD:Spec:=PA.toSpec
attribute [go_sem] PA GD
def jz(l:List Par)(ta:Int)(z:Nat):List Par:=(l.take z).filter fun p=>decide (p.no>ta)
def Ct(s:Stk)(f:Nat)(ta:Int):Stk:=⟨s.ho,s.un.set f (jz (s.un.get f) ta (s.un.get f).length),s.se,s.ta⟩
def eg(f:Nat)(s:Stk)(p:Par):Bool:=p.no==s.ta.get f+1
def gP(f:Nat)(s:Stk)(p:Par):Stk:=if eg f s p=true then⟨cE s.ho p.pa,s.un,s.se,s.ta.set f (s.ta.get f+1)⟩else s
def eJ(f:Nat)(s:Stk)(p:Par):Int:=if eg f s p=true then(if bB s.ho p.pa=true then 96 else if 40<(cE s.ho p.pa).length then 2 else 0)else 0
def bO(f:Nat)(ps:List Par)(s0:Stk):Nat->Stk
 | 0=>s0
 |z+1=>gP f (bO f ps s0 z) (ps.getD z default)
def eh(f:Nat)(ps:List Par)(s0:Stk):Nat->Int
 | 0=>0
 |z+1=>if eh f ps s0 z=0 then eJ f (bO f ps s0 z) (ps.getD z default)else eh f ps s0 z
def bP(d:Dk)(b:Bag):Stk:=Ct d.now b.fr.toNat b.ta
def ku(d:Dk)(b:Bag):Bool:=fR b&&(b.to==d.me)
def fZ(d:Dk)(b:Bag):Int:=if ay d=true then(if ku d b=true then eh b.fr.toNat b.ps (bP d b) b.ps.length else 93)else 92
def eK(d:Dk)(b:Bag):Dk:=if fZ d b=0 then d.setN (bO b.fr.toNat b.ps (bP d b) b.ps.length)else zD
theorem Uo{d:Dk}{b:Bag}(h:ay d=false):eK d b=zD/\fZ d b=92:=by
 have :fZ d b=92:=if_neg (by rw[h];decide)
 exact⟨if_neg (by rw[this];decide),this⟩
theorem Uq{d:Dk}{b:Bag}(h:ay d=true)(h1:ku d b=false):eK d b=zD/\fZ d b=93:=by
 have :fZ d b=93:=by unfold fZ;rw[if_pos h,if_neg (by rw[h1];decide)]
 exact⟨if_neg (by rw[this];decide),this⟩
theorem Nx(f:Nat)(ps:List Par)(s0:Stk){z:Nat}(h:eh f ps s0 z≠0):∀ k,eh f ps s0 (z+k)=eh f ps s0 z
 | 0=>rfl
 |k+1=>by
  have :=Nx f ps s0 h k
  rw[<-Nat.add_assoc]
  show (if eh f ps s0 (z+k)=0 then _ else _)=_
  rw[this,if_neg h]
theorem Up{d:Dk}{b:Bag}(h:ay d=true)(h1:ku d b=true){i:Nat}(hi:i<b.ps.length){e:Int}(h2:eh b.fr.toNat b.ps (bP d b) i=0)(h3:eJ b.fr.toNat (bO b.fr.toNat b.ps (bP d b) i) (b.ps.getD i default)=e)(he:e≠0):eK d b=zD/\fZ d b=e:=by
 have h4:eh b.fr.toNat b.ps (bP d b) (i+1)=e:=by
  show (if eh b.fr.toNat b.ps (bP d b) i=0 then _ else _)=_
  rw[if_pos h2,h3]
 have h5:=Nx b.fr.toNat b.ps (bP d b) (by rw[h4];exact he) (b.ps.length-(i+1))
 rw[show i+1+(b.ps.length-(i+1))=b.ps.length by omega,h4]at h5
 have :fZ d b=e:=by unfold fZ;rw[if_pos h,if_pos h1,h5]
 exact⟨if_neg (by rw[this];exact he),this⟩
theorem IU{d:Dk}{b:Bag}(h:ay d=true)(h1:ku d b=true)(h2:eh b.fr.toNat b.ps (bP d b) b.ps.length=0):eK d b=d.setN (bO b.fr.toNat b.ps (bP d b) b.ps.length)/\fZ d b=0:=by
 have :fZ d b=0:=by unfold fZ;rw[if_pos h,if_pos h1,h2]
 exact⟨if_pos this,this⟩
theorem QY(l:List Par)(ta:Int)(z:Nat):(jz l ta z).length<=l.length:=by
 unfold jz
 refine Nat.le_trans (List.length_filter_le _ _) ?_
 rw[List.length_take];omega
theorem aS.set_self{α:Type}(s:aS α)(i:Nat)(hi:i<6):s.set i (s.get i)=s:=
 jB (P:=fun i=>s.set i (s.get i)=s) rfl rfl rfl rfl rfl rfl hi
theorem sP{b:Bag}(h:fR b=true):0<=b.fr/\b.fr<6/\b.fr.toNat<6/\b.ps.length<=40/\(∀ p∈b.ps,1<=p.no/\p.no<=99999/\1<=p.pa/\p.pa<=999)/\0<=b.ta/\b.ta<=99999:=by
 unfold fR at h
 simp only[Bool.and_eq_true]at h
 obtain⟨⟨⟨⟨h1,h2⟩,h3⟩,h4⟩,h5⟩:=h
 have h1:=cf.1 h1
 have h5:=cf.1 h5
 unfold cw at h4
 rw[Bool.and_eq_true,decide_eq_true_eq,gJ]at h4
 refine⟨by omega,by omega,by omega,h4.2,fun p hp=>?_,h5.1,h5.2⟩
 obtain⟨i,hi,rfl⟩:=List.getElem_of_mem hp
 have :=h4.1 i hi
 unfold fW at this
 rw[getD_at hi]at this
 simp only[Bool.and_eq_true]at this
 have a:=cf.1 this.1.1
 have c:=cf.1 this.1.2
 exact⟨a.1,a.2,c.1,c.2⟩
structure ph (f:Nat) (s:Stk):Prop where
 ri:s.ho.Pairwise (· < ·)
 len:s.ho.length<=40
 t0:0<=s.ta.get f
 t1:s.ta.get f<=99999
theorem Df{l:List Int}{x:Int}(hs:l.Pairwise (· < ·))(hh:bB l x=false):(cE l x).Pairwise (· < ·):=by
 have r9:=fun {i:Nat} (hi:i<l.length)=>Jl (x:=x) hs hi
 have hle:=CK l x
 have ht:∀ a∈l.take (cQ l x),a<x:=by
  intro a ha
  obtain⟨i,hi,rfl⟩:=List.getElem_of_mem ha
  rw[List.length_take]at hi
  rw[List.getElem_take]
  exact(r9 (by omega)).2 (by omega)
 have hd:∀ a∈l.drop (cQ l x),x<a:=by
  intro a ha
  obtain⟨i,hi,rfl⟩:=List.getElem_of_mem ha
  rw[List.length_drop]at hi
  rw[List.getElem_drop]
  have h1:¬ l[cQ l x+i] <x:=fun h=>by have:=(r9 (by omega)).1 h;omega
  have h2:l[cQ l x+i]≠x:=fun h=>by have:=ZE (by omega) h;rw[hh]at this;cases this
  omega
 unfold cE
 rw[List.append_assoc,List.pairwise_append]
 refine⟨hs.sublist (List.take_sublist _ _),?_,fun a ha b hb=>?_⟩
 ·rw[List.pairwise_append]
  refine⟨by simp,hs.sublist (List.drop_sublist _ _),fun a ha b hb=>?_⟩
  simp only[List.mem_cons,List.not_mem_nil,or_false]at ha
  subst ha
  exact hd b hb
 ·rcases List.mem_append.1 hb with h1 | h1
  ·simp only[List.mem_cons,List.not_mem_nil,or_false]at h1
   subst h1
   exact ht a ha
  ·have:=ht a ha
   have :=hd b h1
   omega
theorem Uh{f:Nat}(hf:f<6){s:Stk}{p:Par}(h:ph f s)(hp:p.no<=99999)(he:eJ f s p=0):ph f (gP f s p):=by
 unfold gP
 unfold eJ at he
 by_cases hn:eg f s p=true
 ·rw[if_pos hn]at he |-
  by_cases hh:bB s.ho p.pa=true
  ·rw[if_pos hh]at he;cases he
  ·rw[if_neg hh]at he
   by_cases hl:40<(cE s.ho p.pa).length
   ·rw[if_pos hl]at he;cases he
   ·have hg:=(s.ta.get_set (i:=f) (j:=f) (s.ta.get f+1) hf).1
    unfold eg at hn
    have eE:p.no=s.ta.get f+1:=by simpa using hn
    exact⟨Df h.ri (by simpa using hh),by show (cE s.ho p.pa).length<=40;omega,by show 0<=(s.ta.set f _).get f;rw[hg];have:=h.t0;omega,by show (s.ta.set f _).get f<=99999;rw[hg];omega⟩
 ·rw[if_neg hn];exact h
theorem IK{f:Nat}(hf:f<6){ps:List Par}{s0:Stk}(h0:ph f s0)(hp:∀ p∈ps,p.no<=99999):∀ {z:Nat},z<=ps.length->eh f ps s0 z=0->ph f (bO f ps s0 z)
 | 0,_,_=>h0
 |z+1,hz,he=>by
  have mq:(if eh f ps s0 z=0 then eJ f (bO f ps s0 z) (ps.getD z default)else eh f ps s0 z)=0:=he
  by_cases h1:eh f ps s0 z=0
  ·rw[if_pos h1]at mq
   have hg:ps.getD z default=ps[z]'(by omega):=getD_at (by omega)
   exact Uh hf (IK hf h0 hp (by omega) h1) (by rw[hg];exact hp _ (List.getElem_mem _)) mq
  ·rw[if_neg h1]at mq;exact absurd mq h1
theorem Ui{d:Dk}{f:Nat}{ta:Int}(hf:f<6)(h:ay d=true):ph f (Ct d.now f ta):=by
 unfold ay iz cZ at h
 simp only[Bool.and_eq_true]at h
 have hp:=h.1.1.1.1.1.1.2
 have ha:=gJ.1 h.1.1.2 f hf
 unfold gv at ha
 simp only[Bool.and_eq_true]at ha
 have ht:=cf.1 ha.1.1.2
 exact⟨Cn hp,(tK hp).1,ht.1,ht.2⟩
end Go.Eng
