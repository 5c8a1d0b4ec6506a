import Derived.Test.YtckmfkgppohnmaaDoorK13
import Derived.Laws.Bits64
/- Texts LS to NW81. -/
set_option linter.all false
namespace Go.Eng
open Go Go.Proofs
theorem TX:aR Tryd.prog 10 ⟨fun xs=>xs=[],fun _=>.bool true,true⟩:=
 UC (b:=.bool true) KC (by
  intro fn h
  have e:Tryd.prog.funcs[10]?=some Tryd.f10:=Tryd.func10
  rw[e]at h
  obtain rfl:=Option.some.inj h
  exact(by kernel_rfl:(Tryd.f10.name== "runtime.NumGoroutine")=false)) (by decide) rfl
noncomputable def PR:PSpec:=⟨fun xs=>xs=[],fun _=>.bool true,true⟩
noncomputable def S19:Spec:=PR.toSpec
theorem LD:ak Tryd.prog 10 S19:=TX.sound
attribute [go_sem] PR S19
def fF(d:Dk)(i:Nat)(o:Int):Bool:=(((i:Int) != d.wet)&&aG d.me (d.pg i))&&(decide (o<0)||decide ((d.pg i).co>(d.pg o.toNat).co))
def ck(d:Dk):Nat->Int
 | 0=> -1
 |i+1=>if fF d i (ck d i)=true then i else ck d i
def bj(d:Dk):Int:=ck d 2
theorem FF(d:Dk):∀ i,-1<=ck d i/\ck d i<i
 | 0=>⟨by show (-1:Int)<= -1;omega,by show (-1:Int)<0;omega⟩
 |i+1=>by
  have h:=FF d i
  unfold ck
  split
  ·exact⟨by omega,by omega⟩
  ·exact⟨h.1,by omega⟩
theorem abg(d:Dk):((an d).drop 20).take 42=cH d.pa++cH d.pb:=rfl
theorem UM(d:Dk){i:Nat}(h:i<2):((cH d.pa++cH d.pb).drop (i*21)).take 21=cH (d.pg i):=by
 match i,h with
 | 0,_=>rfl
 | 1,_=>rfl
theorem UL(d:Dk){i:Nat}(h:i<2):i*21+21<=(cH d.pa++cH d.pb).length:=by
 show i*21+21<=42
 omega
theorem aia(d:Dk){i:Nat}(h:i<2):((an d).drop (20+i*21)).take 21=cH (d.pg i):=by
 match i,h with
 | 0,_=>rfl
 | 1,_=>rfl
theorem xx{d:Dk}{i:Nat}(h:fF d i (ck d i)=true):ck d (i+1)=i:=if_pos h
theorem AH{d:Dk}{i:Nat}(h:fF d i (ck d i)=false):ck d (i+1)=ck d i:=if_neg (by rw[h];decide)
noncomputable def QL:List (Nat×Spec):=[(69,S90)]
theorem adN:∀ f s,tbl QL f=some s->ak Tryd.prog f s:=tc Df<|tn
attribute [go_sem] QL
noncomputable def P58:PSpec:=p1 dE (fun _=>True) (fun d=>vInt (bj d)) true
noncomputable def S58:Spec:=P58.toSpec
attribute [go_sem] P58 S58
set_option maxHeartbeats 4000000 in
theorem TB:aR Tryd.prog 45 P58:=by
 refine w1 (rs:=[.tmp 2]) Tryd.func45 Tryd.ntmps45 (by rfl) (by kernel_rfl) (by decide) (fun _ _=>rfl) ⟨_,rfl,lb rfl,fun d hp hw=>?_⟩
 have hP:=be
 simp only[dE]at hw |-
 have hΓ:=adN
 repeat refine sq ?_
 refine rs hΓ [1] [[1,0]] ?_
 refine aL (cG [1,0] (an d) rfl [1] [[1,0]] ?_ rfl) ?_
 ·simp only[go_sem]
 simp only[go_sem]
 repeat refine sq ?_
 refine rs hΓ [1,3] [[1,0]] ?_
 repeat refine sq ?_
 refine rx hΓ [1,3,7,8] [[1,0]] (fun K' hK=>by simp only[go_sem,abg];(repeat (refine⟨ob,?_⟩));exact hK _ (by simp only[go_sem]) (by simp only[go_sem]<;>rfl)) ?_
 repeat refine sq ?_
 refine aN ?_
 repeat refine sq ?_
 refine cN (fun z:Nat=>[(8,⟨true,.v (vInt z)⟩),(3,⟨true,.v (vInt (ck d z))⟩)]) (fun z=>[]) (fun z=>z<=2) (fun z=>2-z) 0 ?_ ?_ ?_ ?_
 ·exact Nat.zero_le _
 ·rfl
 ·rfl
 rintro i hi
 simp only[go_sem]
 repeat refine sq ?_
 refine rs hΓ [1,3,7,8,9] [[1,0]] ?_
 repeat refine sq ?_
 refine au rfl rfl (fun hb=>?_) (fun hb=>?_)
 ·have ae:i<2:=by have hq:(i:Int)<2:=(by simpa using hb);omega
  have ai:(i:Int)<2:=by omega
  clear hb
  have bD:=UL d ae
  repeat refine sq ?_
  refine ax ?_
  repeat refine sq ?_
  refine aN ?_
  repeat refine sq ?_
  refine rx hΓ [1,3,4,5,7,8] [[1,0],[5,0]] (fun K' hK=>by simp only[go_sem,Int.toNat_natCast,Int.natCast_nonneg,ai,UM d ae,bD,Int.toNat_natCast,Int.natCast_nonneg,ai,List.append_nil];(repeat (refine⟨ob,?_⟩));exact hK _ (by simp only[go_sem]) (by simp only[go_sem]<;>rfl)) ?_
  refine aL (cG [5,0] (cH (d.pg i)) rfl [1,3,4,5,7,8] [[1,0],[5,0]] ?_ rfl) ?_
  ·simp only[go_sem]
  simp only[go_sem]
  rcases ho:decide (ck d i<0)with _ | _
  ·have hr:=FF d i
   have kF:0<=ck d i:=by have:=of_decide_eq_false ho;omega
   have iq:ck d i<2:=by omega
   have Ab:(ck d i).toNat<2:=by omega
   have pk:fF d i (ck d i)=((((i:Int) != d.wet)&&aG d.me (d.pg i))&&decide ((d.pg i).co>(d.pg (ck d i).toNat).co)):=by unfold fF;rw[ho,Bool.false_or]
   repeat refine sq ?_
   refine dx hΓ hP [[],[],[1],[0,1,2],[0,1,2,3],[0,1,2,3,4],[0,1,2,3,4,5],[0,1,2,3,4],[0,1,2,3,4,5,6,7],[0,1,2,3,4,5,6,7,8],[0,1,2,3,4,5,6,7,8,9],[0,1,2,3,4,5,6,7,8,9,10],[0,1,2,3,4,5,6,7,8,9,10,11],[0,1,2,3,4,5,6,7,8,9,10,11,12],[0,1,2,3,4,5,6,7,8,9,10,11,12,13],[0,1,2,3,4,5,6,7,8,9,10,11,12,13,14],[0,1,2,3,4,5,6,7,8,9,10,11,12,13],[0,1,2,3,4,5,6,7,8,9,10,11,12,13],[0,1,2,3,4,5,6,7,8,9,10,11,12,13,16,17],[0,1,2,3,4,5,6,7,8,9,10,11,12,13,16,17,18],[0,1,2,3,4,5,6,7,8,9,10,11,12,13,16,17,18,19],[0,1,2,3,4,5,6,7,8,9,10,11,12,13,14,15,16,17,18,19,20],[0,1,2,3,4,5,6,7,8,9,10,11,12,13,14,15,16,17,18,19,20,21],[0,1,2,3,4,5,6,7,8,9,10,11,12,13,14,15,16,17,18,19,20,21,22]] [1,3,4,7,8,35] [[1,0]] (by kernel_rfl) (fun K' hK=>by simp only[go_sem,Int.toNat_natCast,Int.natCast_nonneg,ai,ho,kF,iq,AP d Ab,Nat.add_zero];(repeat (refine⟨ob,?_⟩));(first | refine⟨by rfl,?_⟩ | skip);exact hK _ (by simp only[go_sem]) (by simp only[go_sem]<;>rfl)) ?_
   repeat refine sq ?_
   refine au rfl rfl (fun hb=>?_) (fun hb=>?_)
   ·repeat refine sq ?_
    have e:=xx (pk.trans (by simpa[Bool.and_assoc]using hb))
    repeat refine sq ?_
    refine aP hΓ fun K' hK=>?_
    simp only[go_sem,Int.toNat_natCast,Int.natCast_nonneg,ai,ho,kF,iq,AP d Ab,Nat.add_zero]
    repeat (refine⟨ob,?_⟩)
    refine hK _ ?_
    clear K' hK
    simp only[go_sem]
    refine kp [1,3,7,8] [[1,0]] ?_
    repeat refine sq ?_
    refine aP hΓ fun K' hK=>?_
    simp only[go_sem,Int.toNat_natCast,Int.natCast_nonneg,ai,ho,kF,iq,AP d Ab,Nat.add_zero]
    repeat (refine⟨ob,?_⟩)
    refine hK _ ?_
    clear K' hK
    simp only[go_sem]
    refine⟨i+1,ae,by(show 2-(i+1)<2-i;omega),?_⟩
    refine bk [1,3,7,8] [[1,0]] ?_ ?_
    ·simp only[go_sem,aF ae (lb rfl:(2:Nat)<=maxLen),Int.natCast_add,Int.natCast_one,e]
    ·simp only[go_sem,aF ae (lb rfl:(2:Nat)<=maxLen),Int.natCast_add,Int.natCast_one,e]
   ·repeat refine sq ?_
    have e:=AH (pk.trans (by simpa[Bool.and_assoc]using hb))
    refine ax ?_
    refine cM ?_
    simp only[go_sem]
    refine kp [1,3,7,8] [[1,0]] ?_
    repeat refine sq ?_
    refine aP hΓ fun K' hK=>?_
    simp only[go_sem,Int.toNat_natCast,Int.natCast_nonneg,ai,ho,kF,iq,AP d Ab,Nat.add_zero]
    repeat (refine⟨ob,?_⟩)
    refine hK _ ?_
    clear K' hK
    simp only[go_sem]
    refine⟨i+1,ae,by(show 2-(i+1)<2-i;omega),?_⟩
    refine bk [1,3,7,8] [[1,0]] ?_ ?_
    ·simp only[go_sem,aF ae (lb rfl:(2:Nat)<=maxLen),Int.natCast_add,Int.natCast_one,e]
    ·simp only[go_sem,aF ae (lb rfl:(2:Nat)<=maxLen),Int.natCast_add,Int.natCast_one,e]
  ·have pk:fF d i (ck d i)=(((i:Int) != d.wet)&&aG d.me (d.pg i)):=by unfold fF;rw[ho,Bool.true_or,Bool.and_true]
   repeat refine sq ?_
   refine dx hΓ hP [[],[],[1],[0,1,2],[0,1,2,3],[0,1,2,3,4],[0,1,2,3,4,5],[0,1,2,3,4],[0,1,2,3,4,5,6,7],[0,1,2,3,4,5,6,7,8],[0,1,2,3,4,5,6,7,8,9],[0,1,2,3,4,5,6,7,8,9,10],[0,1,2,3,4,5,6,7,8,9,10,11],[0,1,2,3,4,5,6,7,8,9,10,11,12],[0,1,2,3,4,5,6,7,8,9,10,11,12,13],[0,1,2,3,4,5,6,7,8,9,10,11,12,13,14],[0,1,2,3,4,5,6,7,8,9,10,11,12,13],[0,1,2,3,4,5,6,7,8,9,10,11,12,13],[0,1,2,3,4,5,6,7,8,9,10,11,12,13,16,17],[0,1,2,3,4,5,6,7,8,9,10,11,12,13,16,17,18],[0,1,2,3,4,5,6,7,8,9,10,11,12,13,16,17,18,19],[0,1,2,3,4,5,6,7,8,9,10,11,12,13,14,15,16,17,18,19,20],[0,1,2,3,4,5,6,7,8,9,10,11,12,13,14,15,16,17,18,19,20,21],[0,1,2,3,4,5,6,7,8,9,10,11,12,13,14,15,16,17,18,19,20,21,22]] [1,3,4,7,8,35] [[1,0]] (by kernel_rfl) (fun K' hK=>by simp only[go_sem,Int.toNat_natCast,Int.natCast_nonneg,ai,ho];(repeat (refine⟨ob,?_⟩));(first | refine⟨by rfl,?_⟩ | skip);exact hK _ (by simp only[go_sem]) (by simp only[go_sem]<;>rfl)) ?_
   repeat refine sq ?_
   refine au rfl rfl (fun hb=>?_) (fun hb=>?_)
   ·repeat refine sq ?_
    have e:=xx (pk.trans (by simpa using hb))
    repeat refine sq ?_
    refine aP hΓ fun K' hK=>?_
    simp only[go_sem,Int.toNat_natCast,Int.natCast_nonneg,ai,ho]
    repeat (refine⟨ob,?_⟩)
    refine hK _ ?_
    clear K' hK
    simp only[go_sem]
    refine kp [1,3,7,8] [[1,0]] ?_
    repeat refine sq ?_
    refine aP hΓ fun K' hK=>?_
    simp only[go_sem,Int.toNat_natCast,Int.natCast_nonneg,ai,ho]
    repeat (refine⟨ob,?_⟩)
    refine hK _ ?_
    clear K' hK
    simp only[go_sem]
    refine⟨i+1,ae,by(show 2-(i+1)<2-i;omega),?_⟩
    refine bk [1,3,7,8] [[1,0]] ?_ ?_
    ·simp only[go_sem,aF ae (lb rfl:(2:Nat)<=maxLen),Int.natCast_add,Int.natCast_one,e]
    ·simp only[go_sem,aF ae (lb rfl:(2:Nat)<=maxLen),Int.natCast_add,Int.natCast_one,e]
   ·repeat refine sq ?_
    have e:=AH (pk.trans (by simpa using hb))
    refine ax ?_
    refine cM ?_
    simp only[go_sem]
    refine kp [1,3,7,8] [[1,0]] ?_
    repeat refine sq ?_
    refine aP hΓ fun K' hK=>?_
    simp only[go_sem,Int.toNat_natCast,Int.natCast_nonneg,ai,ho]
    repeat (refine⟨ob,?_⟩)
    refine hK _ ?_
    clear K' hK
    simp only[go_sem]
    refine⟨i+1,ae,by(show 2-(i+1)<2-i;omega),?_⟩
    refine bk [1,3,7,8] [[1,0]] ?_ ?_
    ·simp only[go_sem,aF ae (lb rfl:(2:Nat)<=maxLen),Int.natCast_add,Int.natCast_one,e]
    ·simp only[go_sem,aF ae (lb rfl:(2:Nat)<=maxLen),Int.natCast_add,Int.natCast_one,e]
 ·have bb:i=2:=by
   have :¬ (i:Int)<2:=by simpa using hb
   omega
  clear hb
  subst bb
  repeat refine sq ?_
  refine cr ?_
  simp only[go_sem]
  refine kp [3] [] ?_
  repeat refine sq ?_
  refine rs hΓ [2] [] ?_
  refine ar ?_
  simp only[go_sem]
  first | rfl
theorem zx:ak Tryd.prog 45 S58:=TB.sound
noncomputable def QK:List (Nat×Spec):=[(85,S45)]
theorem aj6:∀ f s,tbl QK f=some s->ak Tryd.prog f s:=tc LC<|tn
attribute [go_sem] QK
structure eO (d:Dk):Prop where
 now:kh d.now
 pg:∀ i,i<2->kh (d.pg i).st
def te(d:Dk)(z:Nat):Dk:=⟨d.me,d.now,if 0<z then d.pa else zP,if 1<z then d.pb else zP,d.wet⟩
theorem ah0(d:Dk):te d 2=d:=rfl
theorem ahZ(d:Dk){i:Nat}(h:i<2):List.take (20+i*21) (List.map D.v (an (te d i)))++List.map D.v (cH ⟨(d.pg i).co,(d.pg i).st,(d.pg i).su⟩)++List.drop (20+i*21+21) (List.map D.v (an (te d i)))=List.map D.v (an (te d (i+1))):=by
 match i,h with
 | 0,_=>rfl
 | 1,_=>rfl
noncomputable def Qy:List (Nat×Spec):=[]
theorem ajY:∀ f s,tbl Qy f=some s->ak Tryd.prog f s:=tn
attribute [go_sem] Qy
theorem abf(d:Dk):List.take 1 (List.map D.v (an d))++List.map D.v (aC d.now)++List.drop 20 (List.map D.v (an d))=List.map D.v (an d):=rfl
theorem F6(d:Dk){i:Nat}(h:i<2):List.take (20+i*21+1) (List.map D.v (an d))++List.map D.v (aC (d.pg i).st)++List.drop (20+i*21+1+19) (List.map D.v (an d))=List.map D.v (an d):=by
 match i,h with
 | 0,_=>rfl
 | 1,_=>rfl
def Jp(d:Dk):List (Name×O):=[([22,0],.box ((an d).map .v))]
def Jq(_:Dk):D:=.ref [22,0] 0
attribute [go_sem] Jp Jq
noncomputable def Qx:List (Nat×Spec):=[(37,S59)]
theorem adJ:∀ f s,tbl Qx f=some s->ak Tryd.prog f s:=tc wD<|tn
attribute [go_sem] Qx
noncomputable def Bu:NSpec:=n1 dE (fun d=>eO d) Jp Jq
noncomputable def S53:Spec:=Bu.toSpec
attribute [go_sem] Bu S53
set_option maxHeartbeats 4000000 in
theorem Dn:ak Tryd.prog 43 S53:=by
 refine Jx (nt:=23) (rs:=[.tmp 2]) Tryd.func43 rfl (by rfl) (by kernel_rfl) (by kernel_rfl) (by decide) ?_
 intro xs hp
 obtain⟨d,rfl,hp,pj,jf⟩:=JD hp
 replace pj:Bu.new _=_:=pj
 replace jf:Bu.d _=_:=jf
 rw[pj,jf]
 clear pj jf
 refine⟨lb rfl,?_⟩
 have hP:=be
 simp only[iI,iB,eH,iI,iB,uM,eH,wE,ll,iX,r9,dE,nM,DC,iC,iF,encPa,n8,xD,encDk,fX,List.map_cons,List.map_nil,ft,Nat.zero_add]
 have hΓ:=adJ
 have hs:eO d:=hp
 have qo:=hs.now
 have Fo:∀ (F:Name->Option O) (t:Name),F [1,0]=some (.box ((an d).map .v))->S59.app (fun nm=>if own [0] nm=true then F nm else none) t [.ref [1,0] 1]=⟨True,.v (.agg (aC d.now)),fun nm=>if own [0] nm=true then F nm else none⟩:=fun F t h=>pV (s:=d.now) (L:=an d) (off:=1) h (vq d) qo
 repeat refine sq ?_
 refine rx hΓ [1] [[1,0]] (fun K' hK=>by simp only[go_sem];(repeat (refine⟨ah,?_⟩));exact hK _ (by simp only[go_sem]) (by simp only[go_sem]<;>rfl)) ?_
 repeat refine sq ?_
 refine rx hΓ [1] [[1,0]] (fun K' hK=>by simp only[go_sem,Fo,abf];(repeat (refine⟨ah,?_⟩));exact hK _ (by simp only[go_sem]) (by simp only[go_sem]<;>rfl)) ?_
 repeat refine sq ?_
 refine rx hΓ [1,7] [[1,0]] (fun K' hK=>by simp only[go_sem];(repeat (refine⟨ah,?_⟩));exact hK _ (by simp only[go_sem]) (by simp only[go_sem]<;>rfl)) ?_
 repeat refine sq ?_
 refine aN ?_
 repeat refine sq ?_
 refine cN (fun z:Nat=>[(7,⟨true,.v (vInt z)⟩)]) (fun z=>[]) (fun z=>z<=2) (fun z=>2-z) 0 ?_ ?_ ?_ ?_
 ·exact Nat.zero_le _
 ·rfl
 ·rfl
 rintro i hi
 simp only[go_sem]
 repeat refine sq ?_
 refine rx hΓ [1,7,8] [[1,0]] (fun K' hK=>by simp only[go_sem];(repeat (refine⟨ah,?_⟩));exact hK _ (by simp only[go_sem]) (by simp only[go_sem]<;>rfl)) ?_
 repeat refine sq ?_
 refine au rfl rfl (fun hb=>?_) (fun hb=>?_)
 ·have ae:i<2:=by have hq:(i:Int)<2:=(by simpa using hb);omega
  have ai:(i:Int)<2:=by omega
  clear hb
  have Fm:∀ (F:Name->Option O) (t:Name),F [1,0]=some (.box ((an d).map .v))->S59.app (fun nm=>if own [0] nm=true then F nm else none) t [.ref [1,0] (20+i*21+1)]=⟨True,.v (.agg (aC (d.pg i).st)),fun nm=>if own [0] nm=true then F nm else none⟩:=fun F t h=>pV (s:=(d.pg i).st) (L:=an d) (off:=20+i*21+1) h (F8 d ae) (hs.pg i ae)
  repeat refine sq ?_
  refine ax ?_
  repeat refine sq ?_
  refine aN ?_
  repeat refine sq ?_
  refine rx hΓ [1,3,7] [[1,0]] (fun K' hK=>by simp only[go_sem,Int.toNat_natCast,Int.natCast_nonneg,ai];(repeat (refine⟨ah,?_⟩));exact hK _ (by simp only[go_sem]) (by simp only[go_sem]<;>rfl)) ?_
  repeat refine sq ?_
  refine aP hΓ fun K' hK=>?_
  simp only[go_sem,Int.toNat_natCast,Int.natCast_nonneg,ai,Fm,F6 d ae,Int.toNat_natCast,Int.natCast_nonneg,ai]
  repeat (refine⟨ah,?_⟩)
  refine hK _ ?_
  clear K' hK
  simp only[go_sem]
  refine kp [1,7] [[1,0]] ?_
  repeat refine sq ?_
  refine aP hΓ fun K' hK=>?_
  simp only[go_sem,Int.toNat_natCast,Int.natCast_nonneg,ai]
  repeat (refine⟨ah,?_⟩)
  refine hK _ ?_
  clear K' hK
  simp only[go_sem]
  refine⟨i+1,ae,by(show 2-(i+1)<2-i;omega),?_⟩
  refine bk [1,7] [[1,0]] ?_ ?_
  ·simp only[go_sem,aF ae (lb rfl:(2:Nat)<=maxLen),Int.natCast_add,Int.natCast_one,F6 d ae]
  ·simp only[go_sem,aF ae (lb rfl:(2:Nat)<=maxLen),Int.natCast_add,Int.natCast_one,F6 d ae]
 ·have bb:i=2:=by
   have :¬ (i:Int)<2:=by simpa using hb
   omega
  clear hb
  subst bb
  repeat refine sq ?_
  refine cr ?_
  simp only[go_sem]
  refine kp [1] [[1,0]] ?_
  repeat refine sq ?_
  refine rx hΓ [2] [[22,0]] (fun K' hK=>by simp only[go_sem,List.append_nil];(repeat (refine⟨ah,?_⟩));exact hK _ (by simp only[go_sem]) (by simp only[go_sem]<;>rfl)) ?_
  refine ar ?_
  simp only[go_sem]
  skip
theorem Fx(d:Dk):∀ i,ck d i= -1\/aG d.me (d.pg (ck d i).toNat)=true
 | 0=>.inl rfl
 |i+1=>by
  cases h:fF d i (ck d i)with
  |false=>rw[AH h];exact Fx d i
  |true=>
   rw[xx h]
   refine .inr ?_
   unfold fF at h
   simp only[Bool.and_eq_true]at h
   rw[Int.toNat_natCast]
   exact h.1.2
theorem UH{me:Int}{p:Pg}(h:aG me p=true):eQ p.st:=by
 unfold aG at h
 simp only[Bool.and_eq_true]at h
 exact uw h.1.2
def aQ(d:Dk):Stk:=(d.pg (bj d).toNat).st
theorem pA{d:Dk}(h:ay d=true):0<=bj d/\bj d<2/\(bj d).toNat<2/\eQ (aQ d):=by
 have hr:=FF d 2
 have al:bj d≠ -1:=by
  intro he
  have h1:fF d 1 (ck d 1)=false:=by
   cases hc:fF d 1 (ck d 1)with
   |false=>rfl
   |true=>
    have h2:ck d 2=((1:Nat):Int):=xx hc
    have h3:ck d 2= -1:=he
    rw[h2]at h3
    exact absurd h3 (by decide)
  have e1:ck d 1= -1:=by rw[<-AH h1];exact he
  have h0:fF d 0 (ck d 0)=false:=by
   cases hc:fF d 0 (ck d 0)with
   |false=>rfl
   |true=>
    have h2:ck d 1=((0:Nat):Int):=xx hc
    rw[e1]at h2
    exact absurd h2 (by decide)
  rw[e1]at h1
  have a0:(((0:Int) != d.wet)&&aG d.me d.pa)=false:=by simpa[fF,ck,Dk.pg]using h0
  have a1:(((1:Int) != d.wet)&&aG d.me d.pb)=false:=by simpa[fF,Dk.pg]using h1
  unfold ay iJ at h
  simp only[Bool.and_eq_true]at h
  obtain⟨⟨_,hi⟩,hw⟩:=h
  have hi:=cp.1 hi
  have ie:d.wet<0\/d.wet=0\/d.wet=1:=by omega
  rcases ie with hn | hz | ho
  ·rw[nv hn]at hw
   have b0:((0:Int) != d.wet)=true:=by simp;omega
   have b1:((1:Int) != d.wet)=true:=by simp;omega
   rw[b0,Bool.true_and]at a0
   rw[b1,Bool.true_and]at a1
   rw[a0,a1]at hw
   simp at hw
  ·rw[pQ hz]at hw
   rw[hz]at a1
   have G1:aG d.me d.pb=false:=a1
   rw[G1]at hw
   simp at hw
  ·rw[pP ho]at hw
   rw[ho]at a0
   have a0':aG d.me d.pa=false:=a0
   rw[a0']at hw
   simp at hw
 have hi:0<=bj d:=by
  have h1:ck d 2≠ -1:=al
  show 0<=ck d 2
  omega
 have xe:bj d<2:=hr.2
 refine⟨hi,xe,by omega,?_⟩
 rcases Fx d 2 with h1 | h1
 ·exact absurd h1 al
 ·exact UH h1
theorem th{d:Dk}(h:(j7 d != 0)=false):ay d=true:=by
 cases hb:ay d with
 |true=>rfl
 |false=>rw[kP hb]at h;exact absurd h (by decide)
theorem ti{d:Dk}(h:(j7 d != 0)=true):ay d=false:=by
 cases hb:ay d with
 |false=>rfl
 |true=>rw[eT hb]at h;exact absurd h (by decide)
def Ej(d:Dk):List Int:=if ay d=true then d.now.ho else[]
theorem Aa{d:Dk}(h:ay d=true):Ej d=d.now.ho:=if_pos h
theorem Mo{d:Dk}(h:ay d=false):Ej d=[]:=if_neg (by rw[h];decide)
theorem wo{d:Dk}(h:ay d=true):eQ d.now:=by
 unfold ay iJ at h
 simp only[Bool.and_eq_true]at h
 exact uw h.1.1
@[go_sem] theorem aid(d:Dk):(an d).getD 1 default=gv d.now.ho:=rfl
noncomputable def QI:List (Nat×Spec):=[(39,S23),(36,S77)]
theorem adM:∀ f s,tbl QI f=some s->ak Tryd.prog f s:=tc oX<|tc Dl<|tn
attribute [go_sem] QI
noncomputable def P28:PSpec:=p1 dE (fun _=>True) (fun d=>.tup [.sl ((Ej d).map vInt),vInt (j7 d)]) false
noncomputable def S28:Spec:=P28.toSpec
attribute [go_sem] P28 S28
set_option maxHeartbeats 4000000 in
theorem TT:aR Tryd.prog 13 P28:=by
 refine w1 (rs:=[.tmp 2,.tmp 3]) Tryd.func13 Tryd.ntmps13 (by rfl) (by kernel_rfl) (by decide) (fun h=>by cases h) ⟨_,rfl,lb rfl,fun d hp hw=>?_⟩
 have hP:=be
 simp only[dE]at hw |-
 have hΓ:=adM
 repeat refine sq ?_
 refine rx hΓ [1] [[1,0]] (fun K' hK=>by simp only[go_sem];(repeat (refine⟨ah,?_⟩));exact hK _ (by simp only[go_sem]) (by simp only[go_sem]<;>rfl)) ?_
 refine aL (cG [1,0] (an d) rfl [1] [[1,0]] ?_ rfl) ?_
 ·simp only[go_sem]
 simp only[go_sem]
 repeat refine sq ?_
 refine rx hΓ [1,4] [[1,0]] (fun K' hK=>by simp only[go_sem];(repeat (refine⟨ah,?_⟩));exact hK _ (by simp only[go_sem]) (by simp only[go_sem]<;>rfl)) ?_
 repeat refine sq ?_
 refine rx hΓ [1,4,8] [[1,0]] (fun K' hK=>by simp only[go_sem];(repeat (refine⟨ah,?_⟩));exact hK _ (by simp only[go_sem]) (by simp only[go_sem]<;>rfl)) ?_
 repeat refine sq ?_
 refine au rfl rfl (fun hb=>?_) (fun hb=>?_)
 ·repeat refine sq ?_
  have hd:=ti hb
  repeat refine sq ?_
  refine rx hΓ [2,3] [] (fun K' hK=>by simp only[go_sem];(repeat (refine⟨ah,?_⟩));exact hK _ (by simp only[go_sem]) (by simp only[go_sem]<;>rfl)) ?_
  refine ar ?_
  simp only[go_sem]
  first | (rw[Mo hd];rfl) | (rw[Aa hd,eT hd];done) | (rw[Aa hd,eT hd];rfl)
 ·repeat refine sq ?_
  have hd:=th hb
  have hz:d.now.ho.length*8<=140737488355328:=(wo hd).sz.1
  refine ax ?_
  repeat refine sq ?_
  refine rx hΓ [2,3] [] (fun K' hK=>by simp only[go_sem,Nat.add_zero,hz];(repeat (refine⟨ah,?_⟩));exact hK _ (by simp only[go_sem]) (by simp only[go_sem]<;>rfl)) ?_
  refine ar ?_
  simp only[go_sem]
  first | (rw[Mo hd];rfl) | (rw[Aa hd,eT hd];done) | (rw[Aa hd,eT hd];rfl)
theorem k28:ak Tryd.prog 13 S28:=TT.sound
noncomputable def QH:List (Nat×Spec):=[(77,S39)]
theorem aj5:∀ f s,tbl QH f=some s->ak Tryd.prog f s:=tc oW<|tn
attribute [go_sem] QH
def NK(d:Dk):Stk:=if ay d=true then aQ d else zS
theorem ahM{d:Dk}(h:ay d=true):NK d=aQ d:=if_pos h
theorem ahN{d:Dk}(h:ay d=false):NK d=zS:=if_neg (by rw[h];decide)
theorem Fy{d:Dk}(h:ay d=true):((an d).drop (20+(bj d).toNat*21+1)).take 19=aC (aQ d):=F8 d (pA h).2.2.1
theorem ahH{d:Dk}(h:ay d=true):∀ (F:Name->Option O) (t:Name),F [1,0]=some (.box ((an d).map .v))->S59.app (fun nm=>if own [0] nm=true then F nm else none) t [.ref [1,0] (20+(bj d).toNat*21+1)]=⟨True,.v (.agg (aC (aQ d))),fun nm=>if own [0] nm=true then F nm else none⟩:=
 fun F t hF=>pV (s:=aQ d) (L:=an d) hF (Fy h) (pA h).2.2.2.sz
@[go_sem] theorem agz(s:Stk):((aC s).map D.v).drop 19=[]:=rfl
noncomputable def QG:List (Nat×Spec):=[(39,S23),(45,S58),(37,S59)]
theorem aj4:∀ f s,tbl QG f=some s->ak Tryd.prog f s:=tc oX<|tc zx<|tc wD<|tn
attribute [go_sem] QG
noncomputable def QF:List (Nat×Spec):=[(77,S39)]
theorem aj3:∀ f s,tbl QF f=some s->ak Tryd.prog f s:=tc oW<|tn
attribute [go_sem] QF
def ez(d:Dk)(t:Int):Bool:=aO t 0 5&&(t != d.me)
def lW(d:Dk)(t:Int):Bool:=ay d&&ez d t
def eU(d:Dk)(t:Int):Int:=if ay d=true then(if ez d t=true then 0 else 94)else 92
theorem Bn{d:Dk}{t:Int}(h:ay d=false):eU d t=92:=if_neg (by rw[h];decide)
theorem xZ{d:Dk}{t:Int}(h:ay d=true)(k:ez d t=false):eU d t=94:=by unfold eU;rw[if_pos h,if_neg (by rw[k];decide)]
theorem ra{d:Dk}{t:Int}(h:ay d=true)(k:ez d t=true):eU d t=0:=by unfold eU;rw[if_pos h,if_pos k]
theorem RH(d:Dk)(t:Int):(!aO t 0 5||(t==d.me))=!ez d t:=by
 unfold ez
 have :(t != d.me)=!(t==d.me):=rfl
 rw[this]
 cases aO t 0 5<;>cases (t==d.me)<;>rfl
theorem PA{d:Dk}{t:Int}(h:(eU d t != 0)=false):ay d=true/\ez d t=true:=by
 cases h1:ay d with
 |false=>rw[Bn h1]at h;exact absurd h (by decide)
 |true=>
  cases h2:ez d t with
  |false=>rw[xZ h1 h2]at h;exact absurd h (by decide)
  |true=>exact⟨rfl,rfl⟩
theorem Pz{d:Dk}{t:Int}(h:(eU d t != 0)=true):lW d t=false:=by
 unfold lW
 cases h1:ay d with
 |false=>rfl
 |true=>
  cases h2:ez d t with
  |false=>rfl
  |true=>rw[ra h1 h2]at h;exact absurd h (by decide)
theorem BN{d:Dk}{t:Int}(h:ez d t=true):0<=t/\t<6/\t.toNat<6:=by
 unfold ez at h
 simp only[Bool.and_eq_true]at h
 have :=cp.1 h.1
 exact⟨by omega,by omega,by omega⟩
noncomputable def QE:List (Nat×Spec):=[(39,S23),(34,S82)]
theorem adL:∀ f s,tbl QE f=some s->ak Tryd.prog f s:=tc oX<|tc zu<|tn
attribute [go_sem] QE
noncomputable def P51:PSpec:=p2 dE iI (fun _ _=>True) (fun d t=>vInt (eU d t)) true
noncomputable def S51:Spec:=P51.toSpec
attribute [go_sem] P51 S51
set_option maxHeartbeats 4000000 in
theorem TH:aR Tryd.prog 41 P51:=by
 refine w2 (rs:=[.tmp 4]) Tryd.func41 Tryd.ntmps41 (by rfl) (by kernel_rfl) (by decide) (fun _ _ _=>rfl) ⟨_,rfl,lb rfl,fun d t hp hw=>?_⟩
 have hP:=be
 simp only[dE,iI]at hw |-
 have hΓ:=adL
 repeat refine sq ?_
 refine rx hΓ [1,2] [[2,0]] (fun K' hK=>by simp only[go_sem];(repeat (refine⟨ah,?_⟩));exact hK _ (by simp only[go_sem]) (by simp only[go_sem]<;>rfl)) ?_
 refine aL (cG [2,0] (an d) rfl [1,2] [[2,0]] ?_ rfl) ?_
 ·simp only[go_sem]
 simp only[go_sem]
 repeat refine sq ?_
 refine rx hΓ [1,2,5] [[2,0]] (fun K' hK=>by simp only[go_sem];(repeat (refine⟨ah,?_⟩));exact hK _ (by simp only[go_sem]) (by simp only[go_sem]<;>rfl)) ?_
 repeat refine sq ?_
 refine rx hΓ [1,2,5,9] [[2,0]] (fun K' hK=>by simp only[go_sem];(repeat (refine⟨ah,?_⟩));exact hK _ (by simp only[go_sem]) (by simp only[go_sem]<;>rfl)) ?_
 repeat refine sq ?_
 refine au rfl rfl (fun hb=>?_) (fun hb=>?_)
 ·repeat refine sq ?_
  have hd:=ti hb
  have e1:=kP hd
  repeat refine sq ?_
  refine rx hΓ [4] [] (fun K' hK=>by simp only[go_sem];(repeat (refine⟨ah,?_⟩));exact hK _ (by simp only[go_sem]) (by simp only[go_sem]<;>rfl)) ?_
  refine ar ?_
  simp only[go_sem]
  first | (rw[Bn hd,e1];done) | (rw[xZ hd hk];done) | (rw[ra hd hk];done)
 ·repeat refine sq ?_
  have hd:=th hb
  refine ax ?_
  repeat refine sq ?_
  refine rx hΓ [19] [] (fun K' hK=>by simp only[go_sem,RH];(repeat (refine⟨ah,?_⟩));exact hK _ (by simp only[go_sem]) (by simp only[go_sem]<;>rfl)) ?_
  repeat refine sq ?_
  refine au rfl rfl (fun hb=>?_) (fun hb=>?_)
  ·repeat refine sq ?_
   have hk:ez d t=false:=by simpa using hb
   repeat refine sq ?_
   refine rx hΓ [4] [] (fun K' hK=>by simp only[go_sem];(repeat (refine⟨ah,?_⟩));exact hK _ (by simp only[go_sem]) (by simp only[go_sem]<;>rfl)) ?_
   refine ar ?_
   simp only[go_sem]
   first | (rw[Bn hd,e1];done) | (rw[xZ hd hk];done) | (rw[ra hd hk];done)
  ·repeat refine sq ?_
   have hk:ez d t=true:=by simpa using hb
   refine ax ?_
   repeat refine sq ?_
   refine rx hΓ [4] [] (fun K' hK=>by simp only[go_sem];(repeat (refine⟨ah,?_⟩));exact hK _ (by simp only[go_sem]) (by simp only[go_sem]<;>rfl)) ?_
   refine ar ?_
   simp only[go_sem]
   first | (rw[Bn hd,e1];done) | (rw[xZ hd hk];done) | (rw[ra hd hk];done)
theorem Dp:ak Tryd.prog 41 S51:=TH.sound
noncomputable def QD:List (Nat×Spec):=[(77,S39),(90,S84)]
theorem aj2:∀ f s,tbl QD f=some s->ak Tryd.prog f s:=tc oW<|tc zt<|tn
attribute [go_sem] QD
theorem Oo{l:List V}{off:Nat}{s:Stk}(h:(l.drop off).take 19=aC s){i:Nat}(hi:i<19):l.getD (off+i) default=(aC s).getD i default:=by
 have hlen:=Gj h
 rw[<-h,j0 (show off+i<l.length by omega),j0 (by rw[List.length_take,List.length_drop];omega)]
 simp
def Hw(d:Dk)(t:Int):List Int:=(d.now.un.get t.toNat).map Par.pa
def Hu(d:Dk)(t:Int):List Int:=if lW d t=true then Hw d t else[]
theorem ad'{d:Dk}{t:Int}(h:ay d=true)(k:ez d t=true):Hu d t=Hw d t:=if_pos (by unfold lW;rw[h,k];rfl)
theorem aea{d:Dk}{t:Int}(h:lW d t=false):Hu d t=[]:=if_neg (by rw[h];decide)
def rP(l:List Par)(z:Nat):List Int:=(l.take z).map Par.pa
theorem ag1{l:List Par}{z:Nat}(h:z<l.length):rP l (z+1)=rP l z++[l[z].pa]:=by
 unfold rP
 rw[List.take_add_one,List.getElem?_eq_getElem h,List.map_append]
 rfl
theorem ag2{l:List Par}{z:Nat}(h:z<=l.length):(rP l z).length=z:=by
 unfold rP
 rw[List.length_map,List.length_take]
 omega
theorem ag3(l:List Par):rP l l.length=l.map Par.pa:=by
 unfold rP
 rw[List.take_length]
theorem abj(d:Dk){i:Nat}(h:i<6):(an d).getD (1+1+i) default=rowP (d.now.un.get i):=by
 match i,h with
 | 0,_=>rfl
 | 1,_=>rfl
 | 2,_=>rfl
 | 3,_=>rfl
 | 4,_=>rfl
 | 5,_=>rfl
noncomputable def QC:List (Nat×Spec):=[(41,S51)]
theorem aj1:∀ f s,tbl QC f=some s->ak Tryd.prog f s:=tc Dp<|tn
attribute [go_sem] QC
noncomputable def QB:List (Nat×Spec):=[]
theorem aj0:∀ f s,tbl QB f=some s->ak Tryd.prog f s:=tn
attribute [go_sem] QB
def ld(d:Dk)(t:Int):Bag:=if lW d t=true then⟨d.me,t,(aQ d).un.get t.toNat,(aQ d).ta.get t.toNat⟩else⟨0,0,[],0⟩
theorem yM{d:Dk}{t:Int}(h:ay d=true)(k:ez d t=true):ld d t=⟨d.me,t,(aQ d).un.get t.toNat,(aQ d).ta.get t.toNat⟩:=if_pos (by unfold lW;rw[h,k];rfl)
theorem yN{d:Dk}{t:Int}(h:lW d t=false):ld d t=⟨0,0,[],0⟩:=if_neg (by rw[h];decide)
theorem aaS{d:Dk}(h:ay d=true){i:Nat}(hi:i<6):(an d).getD (20+(bj d).toNat*21+1+1+i) default=rowP ((aQ d).un.get i):=by
 rw[Nat.add_assoc (20+(bj d).toNat*21+1),Oo (Fy h) (show 1+i<19 by omega),dM _ hi]
theorem AG{d:Dk}(h:ay d=true){i:Nat}(hi:i<6):(an d).getD (20+(bj d).toNat*21+1+13+i) default=vInt ((aQ d).ta.get i):=by
 rw[Nat.add_assoc (20+(bj d).toNat*21+1),Oo (Fy h) (show 13+i<19 by omega),eh _ hi]
noncomputable def QA:List (Nat×Spec):=[(41,S51),(45,S58),(46,S76)]
theorem adK:∀ f s,tbl QA f=some s->ak Tryd.prog f s:=tc Dp<|tc zx<|tc Lr<|tn
attribute [go_sem] QA
noncomputable def P26:PSpec:=p2 dE iI (fun _ _=>True) (fun d t=>.tup [fX (ld d t),vInt (eU d t)]) false
noncomputable def S26:Spec:=P26.toSpec
attribute [go_sem] P26 S26
set_option maxHeartbeats 4000000 in
theorem TU:aR Tryd.prog 17 P26:=by
 refine w2 (rs:=[.cell 4 54,.tmp 5]) Tryd.func17 Tryd.ntmps17 (by rfl) (by kernel_rfl) (by decide) (fun h=>by cases h) ⟨_,rfl,lb rfl,fun d t hp hw=>?_⟩
 have hP:=be
 simp only[dE,iI]at hw |-
 have hΓ:=adK
 repeat refine sq ?_
 refine rx hΓ [1,2,4] [[2,0],[4,0]] (fun K' hK=>by simp only[go_sem];(repeat (refine⟨ah,?_⟩));exact hK _ (by simp only[go_sem]) (by simp only[go_sem]<;>rfl)) ?_
 refine aL (cG [2,0] (an d) rfl [1,2,4] [[2,0],[4,0]] ?_ rfl) ?_
 ·simp only[go_sem]
 simp only[go_sem]
 repeat refine sq ?_
 refine rx hΓ [1,2,4,6] [[2,0],[4,0]] (fun K' hK=>by simp only[go_sem];(repeat (refine⟨ah,?_⟩));exact hK _ (by simp only[go_sem]) (by simp only[go_sem]<;>rfl)) ?_
 repeat refine sq ?_
 refine rx hΓ [1,2,4,6,12] [[2,0],[4,0]] (fun K' hK=>by simp only[go_sem];(repeat (refine⟨ah,?_⟩));exact hK _ (by simp only[go_sem]) (by simp only[go_sem]<;>rfl)) ?_
 repeat refine sq ?_
 refine au rfl rfl (fun hb=>?_) (fun hb=>?_)
 ·repeat refine sq ?_
  have hn:=Pz hb
  repeat refine sq ?_
  refine rx hΓ [4,5] [[4,0]] (fun K' hK=>by simp only[go_sem];(repeat (refine⟨ah,?_⟩));exact hK _ (by simp only[go_sem]) (by simp only[go_sem]<;>rfl)) ?_
  refine ar ?_
  simp only[go_sem]
  first | (rw[yN hn];done) | (rw[yN hn];rfl) | (rw[yM hd hk,ra hd hk];done) | (rw[yM hd hk,ra hd hk];rfl)
 ·repeat refine sq ?_
  obtain⟨hd,hk⟩:=PA hb
  obtain⟨uP,o3,ht⟩:=BN hk
  obtain⟨qD,xg,Al,MK⟩:=pA hd
  have hu:=aaS hd ht
  have ha:=AG hd ht
  have hz:=MK.sz.2 t.toNat ht
  refine ax ?_
  repeat refine sq ?_
  refine rx hΓ [1,2,4,7] [[2,0],[4,0]] (fun K' hK=>by simp only[go_sem,qD,xg];(repeat (refine⟨ah,?_⟩));exact hK _ (by simp only[go_sem]) (by simp only[go_sem]<;>rfl)) ?_
  repeat refine sq ?_
  refine dx hΓ hP [[],[0],[],[],[],[3],[3,5],[3,4,5,6],[3,4,5,6,7],[3,4,5,6,7,8],[],[],[10],[10,12],[10,11,12,13],[10,11,12,13,14],[0,1,2,3,4,5,6,7,8,9,10,11,12,13,14,15],[0,1,2,3,4,5,6,7,8,9,10,11,12,13,14,15,16],[0,1,2,3,4,5,6,7,8,9,10,11,12,13,14,15,16,17]] [4,5] [[4,0]] (by kernel_rfl) (fun K' hK=>by simp only[go_sem,hu,ha,uP,o3,hz,List.append_nil];(repeat (refine⟨ah,?_⟩));(first | refine⟨by rfl,?_⟩ | skip);exact hK _ (by simp only[go_sem]) (by simp only[go_sem]<;>rfl)) ?_
  refine ar ?_
  simp only[go_sem]
  first | (rw[yN hn];done) | (rw[yN hn];rfl) | (rw[yM hd hk,ra hd hk];done) | (rw[yM hd hk,ra hd hk];rfl)
theorem X4:ak Tryd.prog 17 S26:=TU.sound
noncomputable def Qz:List (Nat×Spec):=[]
theorem ajZ:∀ f s,tbl Qz f=some s->ak Tryd.prog f s:=tn
attribute [go_sem] Qz
attribute [go_sem] List.append_nil
def Dk.setP(d:Dk)(i:Nat)(p:Pg):Dk:=match i with
 | 0=>⟨d.me,d.now,p,d.pb,d.wet⟩
 |_=>⟨d.me,d.now,d.pa,p,d.wet⟩
def Dk.setW(d:Dk)(w:Int):Dk:=⟨d.me,d.now,d.pa,d.pb,w⟩
def Dk.setN(d:Dk)(s:Stk):Dk:=⟨d.me,s,d.pa,d.pb,d.wet⟩
theorem Dk.pg_set(d:Dk){i:Nat}(h:i<2)(p:Pg):(d.setP i p).pg i=p:=by
 match i,h with
 | 0,_=>rfl
 | 1,_=>rfl
theorem Dk.set_set(d:Dk){i:Nat}(h:i<2)(p q:Pg):(d.setP i p).setP i q=d.setP i q:=by
 match i,h with
 | 0,_=>rfl
 | 1,_=>rfl
theorem Dk.now_set(d:Dk)(i:Nat)(p:Pg):(d.setP i p).now=d.now:=by
 match i with
 | 0=>rfl
 |_+1=>rfl
theorem aba(d:Dk)(x:Int):List.take 62 (List.map D.v (an d))++[D.v (vInt x)]++List.drop 63 (List.map D.v (an d))=List.map D.v (an (d.setW x)):=rfl
@[go_sem] theorem ahT(d:Dk)(x:Int):List.take 62 (List.map D.v (an d))++[D.v (vInt x)]++[]=List.map D.v (an (d.setW x)):=rfl
@[go_sem] theorem ahS(d:Dk)(x:Int):List.take 62 (List.map D.v (an d))++[D.v (vInt x)]=List.map D.v (an (d.setW x)):=rfl
theorem abe(d:Dk){i:Nat}(h:i<2)(c:Int):List.take (20+i*21) (List.map D.v (an d))++[D.v (vInt c)]++List.drop (20+i*21+1) (List.map D.v (an d))=List.map D.v (an (d.setP i ⟨c,(d.pg i).st,(d.pg i).su⟩)):=by
 match i,h with
 | 0,_=>rfl
 | 1,_=>rfl
theorem abb(d:Dk){i:Nat}(h:i<2)(s:Stk):List.take (20+i*21+1) (List.map D.v (an d))++List.map D.v (aC s)++List.drop (20+i*21+1+19) (List.map D.v (an d))=List.map D.v (an (d.setP i ⟨(d.pg i).co,s,(d.pg i).su⟩)):=by
 match i,h with
 | 0,_=>rfl
 | 1,_=>rfl
theorem N4(d:Dk){i:Nat}(h:i<2)(c:Int):List.take (20+i*21+20) (List.map D.v (an d))++[D.v (vInt c)]++List.drop (20+i*21+20+1) (List.map D.v (an d))=List.map D.v (an (d.setP i ⟨(d.pg i).co,(d.pg i).st,c⟩)):=by
 match i,h with
 | 0,_=>rfl
 | 1,_=>rfl
theorem abd(d:Dk)(s:Stk):List.take 1 (List.map D.v (an d))++List.map D.v (aC s)++List.drop 20 (List.map D.v (an d))=List.map D.v (an (d.setN s)):=rfl
def lH(d:Dk):Int:=if d.wet<0 then 1-bj d else d.wet
def nu(d:Dk):Int:=if d.wet<0 then(d.pg (bj d).toNat).co+1 else(d.pg d.wet.toNat).co
def fv(d:Dk):Dk:=(d.setW (lH d)).setP (lH d).toNat ⟨nu d,d.now,dK d.now (nu d)⟩
def fx(d:Dk):Int:=if ay d=true then(if (decide (d.wet<0)&&((d.pg (bj d).toNat).co==99999))=true then 2 else 0)else 92
def fw(d:Dk):Dk:=if fx d=0 then fv d else zD
def jk(d:Dk):Dk:=if ay d=true then d.setW (-1)else zD
def hM(d:Dk)(n:Int):Bool:=decide (0<=d.wet)&&(n.tmod 2 != 0)
def iT(d:Dk)(n:Int):Dk:=if hM d n=true then d.setP d.wet.toNat ⟨(d.pg d.wet.toNat).co,(d.pg d.wet.toNat).st,((d.pg d.wet.toNat).su+1).tmod 1000003⟩else d
def FC(d:Dk)(n:Int):Dk:=((iT d n).setW (-1)).setN (aQ ((iT d n).setW (-1)))
def gV(d:Dk)(n:Int):Dk:=if ay d=true then FC d n else zD
@[go_sem] theorem ah7(d:Dk):(List.map D.v (an d)).getD 62 .any=.v (vInt d.wet):=rfl
@[go_sem] theorem ah8(d:Dk):(List.map D.v (an d)).getD 0 .any=.v (vInt d.me):=rfl
theorem F7(d:Dk){i:Nat}(h:i<2):(List.map D.v (an d)).getD (20+i*21) .any=.v (vInt (d.pg i).co):=by
 match i,h with
 | 0,_=>rfl
 | 1,_=>rfl
theorem abh(d:Dk){i:Nat}(h:i<2):(List.map D.v (an d)).getD (20+i*21+20) .any=.v (vInt (d.pg i).su):=by
 match i,h with
 | 0,_=>rfl
 | 1,_=>rfl
theorem N6(d:Dk){i:Nat}(h:i<2):List.take 19 (List.drop (20+i*21+1) (List.map D.v (an d)))=List.map D.v (aC (d.pg i).st):=by
 match i,h with
 | 0,_=>rfl
 | 1,_=>rfl
@[go_sem] theorem agM(d:Dk)(x:Int):(d.setW x).wet=x:=rfl
@[go_sem] theorem agN(d:Dk)(x:Int):(d.setW x).now=d.now:=rfl
@[go_sem] theorem Sw(d:Dk)(x:Int)(i:Nat):(d.setW x).pg i=d.pg i:=by
  cases i<;>rfl
theorem H8(d:Dk)(i:Nat)(p:Pg):(d.setP i p).wet=d.wet:=by
 cases i<;>rfl
theorem Ia(d:Dk)(i:Nat)(p:Pg):(d.setP i p).me=d.me:=by
 cases i<;>rfl
theorem agP(d:Dk)(i:Nat)(p:Pg)(x:Int):(d.setP i p).setW x=(d.setW x).setP i p:=by
 cases i<;>rfl
theorem Sv(d:Dk):d.setW d.wet=d:=rfl
theorem agO(d:Dk)(i:Nat):d.setP i ⟨(d.pg i).co,(d.pg i).st,(d.pg i).su⟩=d:=by
 cases i<;>rfl
theorem Rb{d:Dk}(h:ay d=false):fw d=zD/\fx d=92:=by
 have :fx d=92:=if_neg (by rw[h];decide)
 exact⟨if_neg (by rw[this];decide),this⟩
theorem Hn{d:Dk}(h:ay d=true)(hw:d.wet<0)(hc:(d.pg (bj d).toNat).co=99999):fw d=zD/\fx d=2:=by
 have :fx d=2:=by unfold fx;rw[if_pos h,if_pos (by rw[hc];simpa using hw)]
 exact⟨if_neg (by rw[this];decide),this⟩
theorem Hm{d:Dk}(h:ay d=true)(hw:d.wet<0)(hc:(d.pg (bj d).toNat).co≠99999):fw d=fv d/\fx d=0:=by
 have :fx d=0:=by unfold fx;rw[if_pos h,if_neg (by simp[hc])]
 exact⟨if_pos this,this⟩
theorem Ho{d:Dk}(h:ay d=true)(hw:¬ d.wet<0):fw d=fv d/\fx d=0:=by
 have :fx d=0:=by unfold fx;rw[if_pos h,if_neg (by simp[hw])]
 exact⟨if_pos this,this⟩
structure vG (d E:Dk) (a:Int):Prop where
 a0:0<=a
 a2:a<2
 k:a.toNat<2
 wet:E.wet=a
 now:E.now=d.now
 okn:bZ (E.pg a.toNat).co
 fin:E.setP a.toNat ⟨(E.pg a.toNat).co,d.now,dK d.now (E.pg a.toNat).co⟩=fv d
theorem uh{me:Int}{p:Pg}(h:aG me p=true):0<=p.co/\p.co<=99999:=by
 unfold aG at h
 simp only[Bool.and_eq_true]at h
 exact cp.1 h.1.1
theorem F4{d:Dk}(h:ay d=true): -1<=d.wet/\d.wet<=1:=by
 unfold ay iJ at h
 simp only[Bool.and_eq_true]at h
 exact cp.1 h.1.2
theorem n9{d:Dk}(h:ay d=true)(hw:¬ d.wet<0):aG d.me d.pa=true/\aG d.me d.pb=true/\d.wet.toNat<2/\d.wet<2/\(d.pg (1-d.wet).toNat).co<(d.pg d.wet.toNat).co:=by
 have hr:=F4 h
 unfold ay lJ at h
 rw[if_neg hw]at h
 simp only[Bool.and_eq_true,decide_eq_true_eq]at h
 exact⟨h.2.1.1,h.2.1.2,by omega,by omega,h.2.2⟩
theorem Ct{d:Dk}(ha:aG d.me d.pa=true)(hb:aG d.me d.pb=true):∀ i,aG d.me (d.pg i)=true
 | 0=>ha
 |_+1=>hb
theorem Q7{d:Dk}(h:ay d=true)(hw:¬ d.wet<0):vG d d d.wet:=by
 obtain⟨h1,h2,h3,h4,_⟩:=n9 h hw
 have hp:=uh (Ct h1 h2 d.wet.toNat)
 refine⟨by omega,h4,h3,rfl,rfl,⟨hp.1,by omega⟩,?_⟩
 unfold fv lH nu
 rw[if_neg hw,if_neg hw,Sv]
theorem AI{d:Dk}(h:ay d=true):aG d.me (d.pg (bj d).toNat)=true:=by
 rcases Fx d 2 with h1 | h1
 ·have:=(pA h).1
  have e:bj d= -1:=h1
  omega
 ·exact h1
def ov(d:Dk):Dk:=(d.setW (1-bj d)).setP (1-bj d).toNat ⟨(d.pg (bj d).toNat).co+1,(d.pg (1-bj d).toNat).st,(d.pg (1-bj d).toNat).su⟩
theorem Q6{d:Dk}(h:ay d=true)(hw:d.wet<0)(hc:(d.pg (bj d).toNat).co≠99999):vG d (ov d) (1-bj d)/\IntKind.i64.wrap (1-bj d)=1-bj d/\
 IntKind.i64.wrap ((d.pg (bj d).toNat).co+1)=(d.pg (bj d).toNat).co+1:=by
 obtain⟨qD,xg,Al,_⟩:=pA h
 have hp:=uh (AI h)
 have hk:(1-bj d).toNat<2:=by omega
 refine⟨⟨by omega,by omega,hk,by unfold ov;rw[H8];rfl,by unfold ov;rw[Dk.now_set];rfl,?_,?_⟩,wrap_i64 (by omega) (by omega),wrap_i64 (by omega) (by omega)⟩
 ·unfold ov
  rw[Dk.pg_set _ hk]
  exact⟨by show 0<=(d.pg (bj d).toNat).co+1;omega,by show (d.pg (bj d).toNat).co+1<=1000000;omega⟩
 ·unfold ov fv lH nu
  rw[if_pos hw,if_pos hw,Dk.pg_set _ hk,Dk.set_set _ hk]
attribute [go_sem] ub
theorem Hg{d E:Dk}{a:Int}(H:vG d E a):List.take (20+a.toNat*21+1) (List.map D.v (an E))++List.map D.v (aC d.now)++List.drop (20+a.toNat*21+1+19) (List.map D.v (an E))=List.map D.v (an (E.setP a.toNat ⟨(E.pg a.toNat).co,d.now,(E.pg a.toNat).su⟩)):=abb E H.k d.now
theorem He{d E:Dk}{a:Int}(H:vG d E a):List.take 19 (List.drop (20+a.toNat*21+1) (List.map D.v (an (E.setP a.toNat ⟨(E.pg a.toNat).co,d.now,(E.pg a.toNat).su⟩))))=List.map D.v (aC d.now):=by
 rw[N6 _ H.k,Dk.pg_set _ H.k]
theorem Hh{d E:Dk}{a:Int}(H:vG d E a):(List.map D.v (an (E.setP a.toNat ⟨(E.pg a.toNat).co,d.now,(E.pg a.toNat).su⟩))).getD (20+a.toNat*21) .any=.v (vInt (E.pg a.toNat).co):=by
 rw[F7 _ H.k,Dk.pg_set _ H.k]
theorem Hf{d E:Dk}{a:Int}(H:vG d E a):List.take (20+a.toNat*21+20) (List.map D.v (an (E.setP a.toNat ⟨(E.pg a.toNat).co,d.now,(E.pg a.toNat).su⟩)))++[D.v (vInt (dK d.now (E.pg a.toNat).co))]++
 List.drop (20+a.toNat*21+20+1) (List.map D.v (an (E.setP a.toNat ⟨(E.pg a.toNat).co,d.now,(E.pg a.toNat).su⟩)))=List.map D.v (an (fv d)):=by
 rw[N4 _ H.k,Dk.pg_set _ H.k,Dk.set_set _ H.k,H.fin]
theorem ahI{E:Dk}{s:Stk}(nm:Name)(e:E.now=s)(hs:kh s):∀ (F:Name->Option O) (t:Name),F nm=some (.box ((an E).map .v))->S59.app (fun nm=>if own [0] nm=true then F nm else none) t [.ref nm 1]=(if own [0] nm=true then⟨True,.v (.agg (aC s)),fun nm=>if own [0] nm=true then F nm else none⟩else S59.app (fun nm=>if own [0] nm=true then F nm else none) t [.ref nm 1]):=fun F t h=>by
 by_cases ho:own [0] nm=true
 ·rw[if_pos ho]
  exact pV (s:=s) (L:=an E) (off:=1) (by rw[if_pos ho];exact h) (by rw[<-e];exact vq E) hs
 ·rw[if_neg ho]
noncomputable def Qw:List (Nat×Spec):=[(39,S23),(43,S53),(45,S58),(37,S59),(38,S60)]
theorem adI:∀ f s,tbl Qw f=some s->ak Tryd.prog f s:=tc oX<|tc Dn<|tc zx<|tc wD<|tc zw<|tn
attribute [go_sem] Qw
noncomputable def P10:PSpec:=p1 dE (fun d=>eO d) (fun d=>.tup [encDk (fw d),vInt (fx d)]) false
noncomputable def S10:Spec:=P10.toSpec
attribute [go_sem] P10 S10
set_option maxHeartbeats 4000000 in
theorem Uk:aR Tryd.prog 15 P10:=by
 refine w1 (rs:=[.cell 2 44,.tmp 3]) Tryd.func15 Tryd.ntmps15 (by rfl) (by kernel_rfl) (by decide) (fun h=>by cases h) ⟨_,rfl,lb rfl,fun d hp hw=>?_⟩
 have hP:=be
 simp only[dE]at hw |-
 have hΓ:=adI
 have hs:eO d:=hp
 repeat refine sq ?_
 refine rx hΓ [1,2] [[1,0],[2,0]] (fun K' hK=>by simp only[go_sem];(repeat (refine⟨ah,?_⟩));exact hK _ (by simp only[go_sem]) (by simp only[go_sem]<;>rfl)) ?_
 refine aL (oy [2,0] _ (an zD) rfl rfl [1,2] [[1,0],[2,0]] ?_ rfl) ?_
 ·simp only[go_sem]
 simp only[go_sem]
 refine aL (cG [1,0] (an d) rfl [1,2] [[1,0],[2,0]] ?_ rfl) ?_
 ·simp only[go_sem]
 simp only[go_sem]
 repeat refine sq ?_
 refine rx hΓ [1,2,4] [[1,0],[2,0]] (fun K' hK=>by simp only[go_sem];(repeat (refine⟨ah,?_⟩));exact hK _ (by simp only[go_sem]) (by simp only[go_sem]<;>rfl)) ?_
 repeat refine sq ?_
 refine rx hΓ [1,2,4,11] [[1,0],[2,0]] (fun K' hK=>by simp only[go_sem];(repeat (refine⟨ah,?_⟩));exact hK _ (by simp only[go_sem]) (by simp only[go_sem]<;>rfl)) ?_
 repeat refine sq ?_
 refine au rfl rfl (fun hb=>?_) (fun hb=>?_)
 ·repeat refine sq ?_
  have hd:=ti hb
  have hq:=Rb hd
  have e1:=kP hd
  repeat refine sq ?_
  refine rx hΓ [2,3] [[2,0]] (fun K' hK=>by simp only[go_sem,List.append_nil];(repeat (refine⟨ah,?_⟩));exact hK _ (by simp only[go_sem]) (by simp only[go_sem]<;>rfl)) ?_
  refine ar ?_
  simp only[go_sem]
  first | (rw[hq.1,hq.2];done) | (rw[hq.1,hq.2];rfl) | (rw[hq.1,hq.2,e1];done) | (rw[hq.1,hq.2,e1];rfl)
 ·repeat refine sq ?_
  have hd:=th hb
  obtain⟨qD,xg,Al,MK⟩:=pA hd
  have qo:=(wo hd)
  refine ax ?_
  repeat refine sq ?_
  refine rx hΓ [1,2,5] [[1,0],[2,0],[22,0,15,0]] (fun K' hK=>by simp only[go_sem,hs,List.append_nil];(repeat (refine⟨ah,?_⟩));exact hK _ (by simp only[go_sem]) (by simp only[go_sem]<;>rfl)) ?_
  repeat refine sq ?_
  refine rx hΓ [2,5,6] [[2,0],[22,0,15,0]] (fun K' hK=>by simp only[go_sem];(repeat (refine⟨ah,?_⟩));exact hK _ (by simp only[go_sem]) (by simp only[go_sem]<;>rfl)) ?_
  repeat refine sq ?_
  refine rx hΓ [2,5,6,23] [[2,0],[22,0,15,0]] (fun K' hK=>by simp only[go_sem,Nat.add_zero];(repeat (refine⟨ah,?_⟩));exact hK _ (by simp only[go_sem]) (by simp only[go_sem]<;>rfl)) ?_
  repeat refine sq ?_
  refine au rfl rfl (fun hb=>?_) (fun hb=>?_)
  ·repeat refine sq ?_
   have hw:d.wet<0:=by simpa using hb
   have qc:=F7 d Al
   repeat refine sq ?_
   refine rx hΓ [2,5,6,32] [[2,0],[22,0,15,0]] (fun K' hK=>by simp only[go_sem,Nat.add_zero,qD,xg,qc];(repeat (refine⟨ah,?_⟩));exact hK _ (by simp only[go_sem]) (by simp only[go_sem]<;>rfl)) ?_
   repeat refine sq ?_
   refine au rfl rfl (fun hb=>?_) (fun hb=>?_)
   ·repeat refine sq ?_
    have hc:(d.pg (bj d).toNat).co=99999:=by simpa using hb
    have hq:=Hn hd hw hc
    repeat refine sq ?_
    refine rx hΓ [2,3] [[2,0]] (fun K' hK=>by simp only[go_sem,List.append_nil];(repeat (refine⟨ah,?_⟩));exact hK _ (by simp only[go_sem]) (by simp only[go_sem]<;>rfl)) ?_
    refine ar ?_
    simp only[go_sem]
    first | (rw[hq.1,hq.2];done) | (rw[hq.1,hq.2];rfl) | (rw[hq.1,hq.2,e1];done) | (rw[hq.1,hq.2,e1];rfl)
   ·repeat refine sq ?_
    have hc:(d.pg (bj d).toNat).co≠99999:=by simpa using hb
    have hq:=Hm hd hw hc
    obtain⟨H,w1,w2⟩:=Q6 hd hw hc
    have qI:∀ (F:Name->Option O) (t:Name),F [22,0,15,0]=some (.box ((an (ov d)).map .v))->S59.app (fun nm=>if own [0] nm=true then F nm else none) t [.ref [22,0,15,0] 1]=⟨True,.v (.agg (aC d.now)),fun nm=>if own [0] nm=true then F nm else none⟩:=fun F t h=>pV (s:=d.now) (L:=an (ov d)) (off:=1) h (by rw[vq,H.now]) hs.now
    have yK:=H.a0;have yJ:=H.a2;have qS:=Hg H;have qT:=He H;have qC:=Hh H;have qU:=Hf H;have qO:=H.okn
    have qw:(ov d).wet=1-bj d:=H.wet
    have qd:=F7 (d.setW (1-bj d)) Al
    have qe:List.take (20+(1-bj d).toNat*21) (List.map D.v (an (d.setW (1-bj d))))++[D.v (vInt ((d.pg (bj d).toNat).co+1))]++List.drop (20+(1-bj d).toNat*21+1) (List.map D.v (an (d.setW (1-bj d))))=List.map D.v (an (ov d)):=by rw[abe _ H.k,Sw];rfl
    refine ax ?_
    repeat refine sq ?_
    refine rx hΓ [2,5,6] [[2,0],[22,0,15,0]] (fun K' hK=>by simp only[go_sem,w1,aba];(repeat (refine⟨ah,?_⟩));exact hK _ (by simp only[go_sem]) (by simp only[go_sem]<;>rfl)) ?_
    repeat refine sq ?_
    refine dx hΓ hP [[],[],[1],[1,2],[1,2,3],[1,2,3,4],[],[],[6],[6,8],[6,8,9],[6,7,8,9,10],[6,7,8,9,10,11],[6,7,8,9,10,11,12],[6,7,8,9,10,11,12,13],[0],[0,15],[0,15,16],[0,1,2,3,4,5,6,7,8,9,10,11,12,13,14,15,16,17],[0,1,2,3,4,5,6,7,8,9,10,11,12,13,14,15,16,17,18],[0,1,2,3,4,5,6,7,8,9,10,11,12,13,14,15,16,17,18,19]] [2,5] [[2,0],[22,0,15,0]] (by kernel_rfl) (fun K' hK=>by simp only[go_sem,Nat.add_zero,qD,xg,qd,w2,yK,yJ,qe];(repeat (refine⟨ah,?_⟩));(first | refine⟨by rfl,?_⟩ | skip);exact hK _ (by simp only[go_sem]) (by simp only[go_sem]<;>rfl)) ?_
    repeat refine sq ?_
    refine dx hΓ hP [[],[],[1],[1,2],[1,2,3],[1,2,3,4],[0],[0,6],[0,6,7],[0,1,2,3,4,5,6,7,8],[0,1,2,3,4,5,6,7,8,9]] [2,5,7] [[2,0],[22,0,15,0]] (by kernel_rfl) (fun K' hK=>by simp only[go_sem,yK,yJ,qw];(repeat (refine⟨ah,?_⟩));(first | refine⟨by rfl,?_⟩ | skip);exact hK _ (by simp only[go_sem]) (by simp only[go_sem]<;>rfl)) ?_
    repeat refine sq ?_
    refine rx hΓ [2,5,7] [[2,0],[22,0,15,0]] (fun K' hK=>by simp only[go_sem,qI,qS];(repeat (refine⟨ah,?_⟩));exact hK _ (by simp only[go_sem]) (by simp only[go_sem]<;>rfl)) ?_
    repeat refine sq ?_
    refine dx hΓ hP [[],[],[1],[1,2],[1,2,3],[],[5],[5,6],[5,6,7],[1,2,3,4,5,6,7,8],[0,1,2,3,4,5,6,7,8,9],[0,1,2,3,4,5,6,7,8,9,10],[0,1,2,3,4,5,6,7,8,9,10,11]] [2,5] [[2,0],[22,0,15,0]] (by kernel_rfl) (fun K' hK=>by simp only[go_sem,Nat.add_zero,qT,qC,qU];(repeat (refine⟨by first | exact⟨qo,qO⟩ | exact ah,?_⟩));(first | refine⟨by rfl,?_⟩ | skip);exact hK _ (by simp only[go_sem]) (by simp only[go_sem]<;>rfl)) ?_
    repeat refine sq ?_
    refine rx hΓ [2,3] [[2,0]] (fun K' hK=>by simp only[go_sem,List.append_nil];(repeat (refine⟨ah,?_⟩));exact hK _ (by simp only[go_sem]) (by simp only[go_sem]<;>rfl)) ?_
    refine ar ?_
    simp only[go_sem]
    first | (rw[hq.1,hq.2];done) | (rw[hq.1,hq.2];rfl) | (rw[hq.1,hq.2,e1];done) | (rw[hq.1,hq.2,e1];rfl)
  ·repeat refine sq ?_
   have hw:¬ d.wet<0:=by simpa using hb
   have H:=Q7 hd hw
   have qw:True:=trivial
   have hq:=Ho hd hw
   have qI:∀ (F:Name->Option O) (t:Name),F [22,0,15,0]=some (.box ((an d).map .v))->S59.app (fun nm=>if own [0] nm=true then F nm else none) t [.ref [22,0,15,0] 1]=⟨True,.v (.agg (aC d.now)),fun nm=>if own [0] nm=true then F nm else none⟩:=fun F t h=>pV (s:=d.now) (L:=an d) (off:=1) h (vq d) hs.now
   have yK:=H.a0;have yJ:=H.a2;have qS:=Hg H;have qT:=He H;have qC:=Hh H;have qU:=Hf H;have qO:=H.okn
   refine ax ?_
   repeat refine sq ?_
   refine dx hΓ hP [[],[],[1],[1,2],[1,2,3],[1,2,3,4],[0],[0,6],[0,6,7],[0,1,2,3,4,5,6,7,8],[0,1,2,3,4,5,6,7,8,9]] [2,5,7] [[2,0],[22,0,15,0]] (by kernel_rfl) (fun K' hK=>by simp only[go_sem,yK,yJ,qw];(repeat (refine⟨ah,?_⟩));(first | refine⟨by rfl,?_⟩ | skip);exact hK _ (by simp only[go_sem]) (by simp only[go_sem]<;>rfl)) ?_
   repeat refine sq ?_
   refine rx hΓ [2,5,7] [[2,0],[22,0,15,0]] (fun K' hK=>by simp only[go_sem,qI,qS];(repeat (refine⟨ah,?_⟩));exact hK _ (by simp only[go_sem]) (by simp only[go_sem]<;>rfl)) ?_
   repeat refine sq ?_
   refine dx hΓ hP [[],[],[1],[1,2],[1,2,3],[],[5],[5,6],[5,6,7],[1,2,3,4,5,6,7,8],[0,1,2,3,4,5,6,7,8,9],[0,1,2,3,4,5,6,7,8,9,10],[0,1,2,3,4,5,6,7,8,9,10,11]] [2,5] [[2,0],[22,0,15,0]] (by kernel_rfl) (fun K' hK=>by simp only[go_sem,Nat.add_zero,qT,qC,qU];(repeat (refine⟨by first | exact⟨qo,qO⟩ | exact ah,?_⟩));(first | refine⟨by rfl,?_⟩ | skip);exact hK _ (by simp only[go_sem]) (by simp only[go_sem]<;>rfl)) ?_
   repeat refine sq ?_
   refine rx hΓ [2,3] [[2,0]] (fun K' hK=>by simp only[go_sem,List.append_nil];(repeat (refine⟨ah,?_⟩));exact hK _ (by simp only[go_sem]) (by simp only[go_sem]<;>rfl)) ?_
   refine ar ?_
   simp only[go_sem]
   first | (rw[hq.1,hq.2];done) | (rw[hq.1,hq.2];rfl) | (rw[hq.1,hq.2,e1];done) | (rw[hq.1,hq.2,e1];rfl)
theorem LM:ak Tryd.prog 15 S10:=Uk.sound
noncomputable def Qv:List (Nat×Spec):=[(77,S39),(94,S63)]
theorem ajX:∀ f s,tbl Qv f=some s->ak Tryd.prog f s:=tc oW<|tc Dm<|tn
attribute [go_sem] Qv
theorem lR{d:Dk}(h:ay d=true):jk d=d.setW (-1):=if_pos h
theorem AK{d:Dk}(h:ay d=false):jk d=zD:=if_neg (by rw[h];decide)
theorem n6{d:Dk}{n:Int}(h:ay d=true):gV d n=FC d n:=if_pos h
theorem vk{d:Dk}{n:Int}(h:ay d=false):gV d n=zD:=if_neg (by rw[h];decide)
theorem oB{d:Dk}{n:Int}(h:hM d n=true):iT d n=d.setP d.wet.toNat ⟨(d.pg d.wet.toNat).co,(d.pg d.wet.toNat).st,((d.pg d.wet.toNat).su+1).tmod 1000003⟩:=if_pos h
theorem nE{d:Dk}{n:Int}(h:hM d n=false):iT d n=d:=if_neg (by rw[h];decide)
theorem vU{d:Dk}{n:Int}(h:hM d n=true):¬ d.wet<0:=by
 unfold hM at h
 simp only[Bool.and_eq_true,decide_eq_true_eq]at h
 omega
theorem IX{me:Int}{p:Pg}(h:aG me p=true):0<=p.su/\p.su<1000003:=by
 have hc:=uh h
 unfold aG at h
 simp only[Bool.and_eq_true,beq_iff_eq]at h
 rw[h.2]
 exact yq ⟨hc.1,by omega⟩ _
theorem yP{me:Int}{p:Pg}(h:aG me p=true):aG me ⟨p.co,p.st,(p.su+1).tmod 1000003⟩=false:=by
 obtain⟨h1,h2⟩:=IX h
 unfold aG at h |-
 simp only[Bool.and_eq_true,beq_iff_eq]at h
 have al:(p.su+1).tmod 1000003≠p.su:=by
  rw[Int.tmod_eq_emod_of_nonneg (by omega)]
  omega
 have :((p.su+1).tmod 1000003==dK p.st p.co)=false:=by
  rw[beq_eq_false_iff_ne,<-h.2];exact al
 rw[this,Bool.and_false]
theorem FA{d:Dk}{n:Int}(h:ay d=true):ay ((iT d n).setW (-1))=true:=by
 have hh:=h
 unfold ay iJ at hh
 simp only[Bool.and_eq_true]at hh
 obtain⟨⟨hs,_⟩,YW⟩:=hh
 have o7:∀ e:Dk,(e.setW (-1)).wet<0:=fun e=>by show (-1:Int)<0;omega
 unfold ay
 rw[nv (o7 _)]
 have Z8:iJ ((iT d n).setW (-1))=true:=by
  unfold iJ
  have e1:((iT d n).setW (-1)).me=d.me:=by
   cases hb:hM d n
   ·rw[nE hb];rfl
   ·rw[oB hb];exact Ia _ _ _
  have e2:((iT d n).setW (-1)).now=d.now:=by
   cases hb:hM d n
   ·rw[nE hb];rfl
   ·rw[oB hb];exact Dk.now_set _ _ _
  rw[e1,e2,hs];rfl
 rw[Z8,Bool.true_and]
 cases hb:hM d n with
 |false=>
  rw[nE hb]
  show ((aG d.me d.pa||aG d.me d.pb)&&!((aG d.me d.pa&&aG d.me d.pb)&&(d.pa.co==d.pb.co)))=true
  by_cases hw:d.wet<0
  ·rw[<-nv hw];exact YW
  ·obtain⟨h1,h2,h3,h4,h5⟩:=n9 h hw
   rw[h1,h2]
   have al:(d.pa.co==d.pb.co)=false:=by
    rw[beq_eq_false_iff_ne]
    have ie:d.wet=0\/d.wet=1:=by omega
    rcases ie with e | e<;>rw[e]at h5
    ·have pv:d.pb.co<d.pa.co:=h5
     omega
    ·have pv:d.pa.co<d.pb.co:=h5
     omega
   rw[al];rfl
 |true=>
  have hw:=vU hb
  rw[oB hb]
  obtain⟨h1,h2,h3,h4,_⟩:=n9 h hw
  have ie:d.wet=0\/d.wet=1:=by omega
  rcases ie with e | e<;>rw[e]
  ·show ((aG d.me ⟨d.pa.co,d.pa.st,(d.pa.su+1).tmod 1000003⟩||aG d.me d.pb)&&!((aG d.me ⟨d.pa.co,d.pa.st,(d.pa.su+1).tmod 1000003⟩&&aG d.me d.pb)&&(d.pa.co==d.pb.co)))=true
   rw[yP h1,h2];rfl
  ·show ((aG d.me d.pa||aG d.me ⟨d.pb.co,d.pb.st,(d.pb.su+1).tmod 1000003⟩)&&!((aG d.me d.pa&&aG d.me ⟨d.pb.co,d.pb.st,(d.pb.su+1).tmod 1000003⟩)&&(d.pa.co==d.pb.co)))=true
   rw[yP h2,h1];rfl
noncomputable def Qt:List (Nat×Spec):=[(39,S23),(43,S53)]
theorem adH:∀ f s,tbl Qt f=some s->ak Tryd.prog f s:=tc oX<|tc Dn<|tn
attribute [go_sem] Qt
noncomputable def P12:PSpec:=p1 dE (fun d=>eO d) (fun d=>.tup [encDk (jk d),vInt (j7 d)]) false
noncomputable def S12:Spec:=P12.toSpec
attribute [go_sem] P12 S12
set_option maxHeartbeats 4000000 in
theorem T6:aR Tryd.prog 16 P12:=by
 refine w1 (rs:=[.cell 2 44,.tmp 3]) Tryd.func16 Tryd.ntmps16 (by rfl) (by kernel_rfl) (by decide) (fun h=>by cases h) ⟨_,rfl,lb rfl,fun d hp hw=>?_⟩
 have hP:=be
 simp only[dE]at hw |-
 have hΓ:=adH
 have hs:eO d:=hp
 repeat refine sq ?_
 refine rx hΓ [1,2] [[1,0],[2,0]] (fun K' hK=>by simp only[go_sem];(repeat (refine⟨ah,?_⟩));exact hK _ (by simp only[go_sem]) (by simp only[go_sem]<;>rfl)) ?_
 refine aL (oy [2,0] _ (an zD) rfl rfl [1,2] [[1,0],[2,0]] ?_ rfl) ?_
 ·simp only[go_sem]
 simp only[go_sem]
 refine aL (cG [1,0] (an d) rfl [1,2] [[1,0],[2,0]] ?_ rfl) ?_
 ·simp only[go_sem]
 simp only[go_sem]
 repeat refine sq ?_
 refine rx hΓ [1,2,4] [[1,0],[2,0]] (fun K' hK=>by simp only[go_sem];(repeat (refine⟨ah,?_⟩));exact hK _ (by simp only[go_sem]) (by simp only[go_sem]<;>rfl)) ?_
 repeat refine sq ?_
 refine rx hΓ [1,2,4,9] [[1,0],[2,0]] (fun K' hK=>by simp only[go_sem];(repeat (refine⟨ah,?_⟩));exact hK _ (by simp only[go_sem]) (by simp only[go_sem]<;>rfl)) ?_
 repeat refine sq ?_
 refine au rfl rfl (fun hb=>?_) (fun hb=>?_)
 ·repeat refine sq ?_
  have hd:=ti hb
  repeat refine sq ?_
  refine rx hΓ [2,3] [[2,0]] (fun K' hK=>by simp only[go_sem,List.append_nil];(repeat (refine⟨ah,?_⟩));exact hK _ (by simp only[go_sem]) (by simp only[go_sem]<;>rfl)) ?_
  refine ar ?_
  simp only[go_sem]
  first | (rw[AK hd];done) | (rw[AK hd];rfl) | (rw[lR hd,eT hd];done) | (rw[lR hd,eT hd];rfl)
 ·repeat refine sq ?_
  have hd:=th hb
  refine ax ?_
  repeat refine sq ?_
  refine rx hΓ [2,5] [[2,0],[22,0,13,0]] (fun K' hK=>by simp only[go_sem,hs,List.append_nil];(repeat (refine⟨ah,?_⟩));exact hK _ (by simp only[go_sem]) (by simp only[go_sem]<;>rfl)) ?_
  repeat refine sq ?_
  refine rx hΓ [2,5] [[2,0],[22,0,13,0]] (fun K' hK=>by simp only[go_sem,List.append_nil];(repeat (refine⟨ah,?_⟩));exact hK _ (by simp only[go_sem]) (by simp only[go_sem]<;>rfl)) ?_
  repeat refine sq ?_
  refine rx hΓ [2,3] [[2,0]] (fun K' hK=>by simp only[go_sem,List.append_nil];(repeat (refine⟨ah,?_⟩));exact hK _ (by simp only[go_sem]) (by simp only[go_sem]<;>rfl)) ?_
  refine ar ?_
  simp only[go_sem]
  first | (rw[AK hd];done) | (rw[AK hd];rfl) | (rw[lR hd,eT hd];done) | (rw[lR hd,eT hd];rfl)
theorem LH:ak Tryd.prog 16 S12:=T6.sound
noncomputable def Qr:List (Nat×Spec):=[(77,S39)]
theorem ajW:∀ f s,tbl Qr f=some s->ak Tryd.prog f s:=tc oW<|tn
attribute [go_sem] Qr
noncomputable def P21:PSpec:=p2 iI iI (fun n m=>0<m/\m<=1000000) (fun n m=>vInt (n % m)) true
noncomputable def S21:Spec:=P21.toSpec
attribute [go_sem] P21 S21
theorem TW:aR Tryd.prog 12 P21:=by
 refine w2 (rs:=[.tmp 4]) Tryd.func12 Tryd.ntmps12 (by rfl) (by kernel_rfl) (by decide) (fun _ _ _=>rfl) ⟨_,rfl,lb rfl,fun n m hp hw=>?_⟩
 have hP:=be
 simp only[iI]at hw |-
 have hΓ:=@kq Tryd.prog
 obtain⟨hm,fo⟩:=hp
 have h0:m≠0:=by omega
 have b9: -m<n.tmod m/\n.tmod m<m:=⟨Int.lt_tmod_of_pos _ hm,Int.tmod_lt_of_pos _ hm⟩
 have w2:IntKind.i64.wrap (n.tmod m+m)=n.tmod m+m:=wrap_i64 (by omega) (by omega)
 have e1:(n.tmod m+m).tmod m=n % m:=by
  rw[Int.tmod_eq_emod_of_nonneg (by omega),Int.add_emod_right]
  have h1:=Int.tmod_add_mul_tdiv n m
  have h2:(n.tmod m+m*n.tdiv m) % m=n.tmod m % m:=Int.add_mul_emod_self_left _ _ _
  rw[<-h2,h1]
 repeat refine sq ?_
 refine rx hΓ [0,1] [] (fun K' hK=>by simp only[go_sem];(repeat (refine⟨ah,?_⟩));exact hK _ (by simp only[go_sem]) (by simp only[go_sem]<;>rfl)) ?_
 repeat refine sq ?_
 refine rx hΓ [4] [] (fun K' hK=>by simp only[go_sem,w2,e1,h0,ne_eq,not_false_eq_true];(repeat (refine⟨by first | exact ah | exact h0,?_⟩));exact hK _ (by simp only[go_sem]) (by simp only[go_sem]<;>rfl)) ?_
 refine ar ?_
 simp only[go_sem]
 skip
theorem zy:ak Tryd.prog 12 S21:=TW.sound
theorem ahP(n:Int):(n % 2==1)=(n.tmod 2 != 0):=by
 rw[Bool.eq_iff_iff,beq_iff_eq,bne_iff_ne]
 have h1:=Int.tmod_add_mul_tdiv n 2
 have h2:=Int.emod_add_mul_ediv n 2
 have h3:=Int.lt_tmod_of_pos n (b:=2) (by decide)
 have h6:=Int.tmod_lt_of_pos n (b:=2) (by decide)
 constructor<;>intro h<;>omega
def ji(d:Dk)(n:Int):Dk:=(iT d n).setW (-1)
structure FlF (d:Dk) (n:Int):Prop where
 f0:0<=bj (ji d n)
 f2:bj (ji d n)<2
 k:(bj (ji d n)).toNat<2
 sz:kh (aQ (ji d n))
theorem aaX{d:Dk}{n:Int}(h:ay d=true):FlF d n:=by
 obtain⟨h1,h2,h3,h4⟩:=pA (FA (n:=n) h)
 exact⟨h1,h2,h3,h4.sz⟩
theorem aaV(d:Dk)(n:Int):List.take 1 (List.map D.v (an (ji d n)))++List.map D.v (aC (aQ (ji d n)))++List.drop 20 (List.map D.v (an (ji d n)))=List.map D.v (an (FC d n)):=abd (ji d n) (aQ (ji d n))
theorem HZ{d:Dk}{n:Int}:hM d n=(if (decide (d.wet>=0))=true then(n.tmod 2 != 0)else false):=by
 unfold hM
 by_cases h:0<=d.wet
 ·rw[decide_eq_true h];rfl
 ·rw[decide_eq_false h];rfl
noncomputable def Qq:List (Nat×Spec):=[(39,S23),(43,S53),(45,S58),(37,S59)]
theorem adG:∀ f s,tbl Qq f=some s->ak Tryd.prog f s:=tc oX<|tc Dn<|tc zx<|tc wD<|tn
attribute [go_sem] Qq
noncomputable def P14:PSpec:=p2 dE iI (fun d _=>eO d) (fun d n=>.tup [encDk (gV d n),vInt (j7 d)]) false
noncomputable def S14:Spec:=P14.toSpec
attribute [go_sem] P14 S14
set_option maxHeartbeats 4000000 in
theorem TZ:aR Tryd.prog 31 P14:=by
 refine w2 (rs:=[.cell 4 44,.tmp 5]) Tryd.func31 Tryd.ntmps31 (by rfl) (by kernel_rfl) (by decide) (fun h=>by cases h) ⟨_,rfl,lb rfl,fun d n hp hw=>?_⟩
 have hP:=be
 simp only[dE,iI]at hw |-
 have hΓ:=adG
 have hs:eO d:=hp
 repeat refine sq ?_
 refine rx hΓ [1,2,4] [[2,0],[4,0]] (fun K' hK=>by simp only[go_sem];(repeat (refine⟨ah,?_⟩));exact hK _ (by simp only[go_sem]) (by simp only[go_sem]<;>rfl)) ?_
 refine aL (oy [4,0] _ (an zD) rfl rfl [1,2,4] [[2,0],[4,0]] ?_ rfl) ?_
 ·simp only[go_sem]
 simp only[go_sem]
 refine aL (cG [2,0] (an d) rfl [1,2,4] [[2,0],[4,0]] ?_ rfl) ?_
 ·simp only[go_sem]
 simp only[go_sem]
 repeat refine sq ?_
 refine rx hΓ [1,2,4,6] [[2,0],[4,0]] (fun K' hK=>by simp only[go_sem];(repeat (refine⟨ah,?_⟩));exact hK _ (by simp only[go_sem]) (by simp only[go_sem]<;>rfl)) ?_
 repeat refine sq ?_
 refine rx hΓ [1,2,4,6,12] [[2,0],[4,0]] (fun K' hK=>by simp only[go_sem];(repeat (refine⟨ah,?_⟩));exact hK _ (by simp only[go_sem]) (by simp only[go_sem]<;>rfl)) ?_
 repeat refine sq ?_
 refine au rfl rfl (fun hb=>?_) (fun hb=>?_)
 ·repeat refine sq ?_
  have hd:=ti hb
  repeat refine sq ?_
  refine rx hΓ [4,5] [[4,0]] (fun K' hK=>by simp only[go_sem];(repeat (refine⟨ah,?_⟩));exact hK _ (by simp only[go_sem]) (by simp only[go_sem]<;>rfl)) ?_
  refine ar ?_
  simp only[go_sem]
  first | (rw[vk hd];done) | (rw[vk hd];rfl) | (rw[n6 hd,eT hd];done) | (rw[n6 hd,eT hd];rfl)
 ·repeat refine sq ?_
  have hd:=th hb
  have HF:=aaX (n:=n) hd
  have g0:=HF.f0;have g2:=HF.f2;have gk:=HF.k;have gN:=aaV d n
  have qI:∀ (F:Name->Option O) (t:Name),F [22,0,16,0]=some (.box ((an (ji d n)).map .v))->S59.app (fun nm=>if own [0] nm=true then F nm else none) t [.ref [22,0,16,0] (20+(bj (ji d n)).toNat*21+1)]=⟨True,.v (.agg (aC (aQ (ji d n)))),fun nm=>if own [0] nm=true then F nm else none⟩:=fun F t h=>pV (s:=aQ (ji d n)) (L:=an (ji d n)) h (F8 _ gk) HF.sz
  refine ax ?_
  repeat refine sq ?_
  refine rx hΓ [1,4,7] [[4,0],[22,0,16,0]] (fun K' hK=>by simp only[go_sem,hs];(repeat (refine⟨ah,?_⟩));exact hK _ (by simp only[go_sem]) (by simp only[go_sem]<;>rfl)) ?_
  repeat refine sq ?_
  refine rx hΓ [4,7,27] [[4,0],[22,0,16,0]] (fun K' hK=>by simp only[go_sem,Nat.add_zero];(repeat (refine⟨ah,?_⟩));exact hK _ (by simp only[go_sem]) (by simp only[go_sem]<;>rfl)) ?_
  repeat refine sq ?_
  refine au rfl rfl (fun hb=>?_) (fun hb=>?_)
  ·repeat refine sq ?_
   have o4:hM d n=true:=by rw[HZ];simpa using hb
   have hw:=vU o4
   obtain⟨b1,b2,b3,b4,_⟩:=n9 hd hw
   have b0:0<=d.wet:=by omega
   have hu:=IX (Ct b1 b2 d.wet.toNat)
   have u1:=abh d b3
   have u2:IntKind.i64.wrap ((d.pg d.wet.toNat).su+1)=(d.pg d.wet.toNat).su+1:=wrap_i64 (by omega) (by omega)
   have u3:List.take (20+d.wet.toNat*21+20) (List.map D.v (an d))++[D.v (vInt (((d.pg d.wet.toNat).su+1).tmod 1000003))]++List.drop (20+d.wet.toNat*21+20+1) (List.map D.v (an d))=List.map D.v (an (iT d n)):=by rw[N4 d b3,oB o4]
   have u4:(iT d n).setW (-1)=ji d n:=rfl
   repeat refine sq ?_
   refine dx hΓ hP [[],[],[1],[1,2],[1,2,3],[1,2,3,4],[0],[0,6],[0,6,7],[0,1,2,3,4,5,6,7,8],[0,1,2,3,4,5,6,7,8,9]] [4,7,8] [[4,0],[22,0,16,0]] (by kernel_rfl) (fun K' hK=>by simp only[go_sem,b0,b4];(repeat (refine⟨ah,?_⟩));(first | refine⟨by rfl,?_⟩ | skip);exact hK _ (by simp only[go_sem]) (by simp only[go_sem]<;>rfl)) ?_
   repeat refine sq ?_
   refine rx hΓ [4,7] [[4,0],[22,0,16,0]] (fun K' hK=>by simp only[go_sem,u1,u2,u3];(repeat (refine⟨ah,?_⟩));exact hK _ (by simp only[go_sem]) (by simp only[go_sem]<;>rfl)) ?_
   repeat refine sq ?_
   refine rx hΓ [4,7] [[4,0],[22,0,16,0]] (fun K' hK=>by simp only[go_sem,u4];(repeat (refine⟨ah,?_⟩));exact hK _ (by simp only[go_sem]) (by simp only[go_sem]<;>rfl)) ?_
   repeat refine sq ?_
   refine dx hΓ hP [[],[],[],[2],[2,3],[2,3,4],[2,3,4,5],[1],[1,7],[1,7,8],[1,2,3,4,5,6,7,8,9],[1,2,3,4,5,6,7,8,9,10],[1,2,3,4,5,6,7,8,9,10,11],[0,1,2,3,4,5,6,7,8,9,10,11,12],[0,1,2,3,4,5,6,7,8,9,10,11,12,13],[0,1,2,3,4,5,6,7,8,9,10,11,12,13,14],[0,1,2,3,4,5,6,7,8,9,10,11,12,13,14,15]] [4,7] [[4,0],[22,0,16,0]] (by kernel_rfl) (fun K' hK=>by simp only[go_sem,g0,g2,qI,gN];(repeat (refine⟨ah,?_⟩));(first | refine⟨by rfl,?_⟩ | skip);exact hK _ (by simp only[go_sem]) (by simp only[go_sem]<;>rfl)) ?_
   repeat refine sq ?_
   refine rx hΓ [4,5] [[4,0]] (fun K' hK=>by simp only[go_sem];(repeat (refine⟨ah,?_⟩));exact hK _ (by simp only[go_sem]) (by simp only[go_sem]<;>rfl)) ?_
   refine ar ?_
   simp only[go_sem]
   first | (rw[vk hd];done) | (rw[vk hd];rfl) | (rw[n6 hd,eT hd];done) | (rw[n6 hd,eT hd];rfl)
  ·repeat refine sq ?_
   have o4:hM d n=false:=by rw[HZ];simpa using hb
   have u4:d.setW (-1)=ji d n:=by unfold ji;rw[nE o4]
   refine ax ?_
   repeat refine sq ?_
   refine rx hΓ [4,7] [[4,0],[22,0,16,0]] (fun K' hK=>by simp only[go_sem,u4];(repeat (refine⟨ah,?_⟩));exact hK _ (by simp only[go_sem]) (by simp only[go_sem]<;>rfl)) ?_
   repeat refine sq ?_
   refine dx hΓ hP [[],[],[],[2],[2,3],[2,3,4],[2,3,4,5],[1],[1,7],[1,7,8],[1,2,3,4,5,6,7,8,9],[1,2,3,4,5,6,7,8,9,10],[1,2,3,4,5,6,7,8,9,10,11],[0,1,2,3,4,5,6,7,8,9,10,11,12],[0,1,2,3,4,5,6,7,8,9,10,11,12,13],[0,1,2,3,4,5,6,7,8,9,10,11,12,13,14],[0,1,2,3,4,5,6,7,8,9,10,11,12,13,14,15]] [4,7] [[4,0],[22,0,16,0]] (by kernel_rfl) (fun K' hK=>by simp only[go_sem,g0,g2,qI,gN];(repeat (refine⟨ah,?_⟩));(first | refine⟨by rfl,?_⟩ | skip);exact hK _ (by simp only[go_sem]) (by simp only[go_sem]<;>rfl)) ?_
   repeat refine sq ?_
   refine rx hΓ [4,5] [[4,0]] (fun K' hK=>by simp only[go_sem];(repeat (refine⟨ah,?_⟩));exact hK _ (by simp only[go_sem]) (by simp only[go_sem]<;>rfl)) ?_
   refine ar ?_
   simp only[go_sem]
   first | (rw[vk hd];done) | (rw[vk hd];rfl) | (rw[n6 hd,eT hd];done) | (rw[n6 hd,eT hd];rfl)
theorem LG:ak Tryd.prog 31 S14:=TZ.sound
noncomputable def Qp:List (Nat×Spec):=[(77,S39),(12,S21)]
theorem ajV:∀ f s,tbl Qp f=some s->ak Tryd.prog f s:=tc oW<|tc zy<|tn
attribute [go_sem] Qp
open Go
def dJ(a b:Name)(nm:Name):Name:=if nm=a then b else if nm=b then a else nm
theorem R6(a b nm:Name):dJ a b (dJ a b nm)=nm:=by
 unfold dJ
 by_cases h1:nm=a
 ·rw[if_pos h1]
  by_cases h2:b=a
  ·rw[if_pos h2,h2,h1]
  ·rw[if_neg h2,if_pos rfl,h1]
 ·rw[if_neg h1]
  by_cases h2:nm=b
  ·rw[if_pos h2,if_pos rfl,h2]
  ·rw[if_neg h2,if_neg h1,if_neg h2]
theorem R7{a b nm:Name}(h1:nm≠a)(h2:nm≠b):dJ a b nm=nm:=by unfold dJ;rw[if_neg h1,if_neg h2]
mutual
theorem D.clos_tt:∀ d:D,D.clos (fun _=>true) d=true
 | .v _=>rfl
 | .nilsl=>rfl
 | .nilmap=>rfl
 | .any=>rfl
 | .ref _ _=>rfl
 | .msl _ _=>rfl
 | .aref _ _ _ _=>rfl
 | .map _=>rfl
 | .yld _=>rfl
 | .clo _ a b=>by simp only[D.clos,D.closL_tt a,D.closL_tt b,Bool.and_self]
 | .agg l=>by simp only[D.clos,D.closL_tt l]
 | .tup l=>by simp only[D.clos,D.closL_tt l]
theorem D.closL_tt:∀ l:List D,D.closL (fun _=>true) l=true
 |[]=>rfl
 |d::r=>by simp only[D.closL,D.clos_tt d,D.closL_tt r,Bool.and_self]
end
theorem O.clos_tt(o:O):O.clos (fun _=>true) o=true:=by
 cases o<;>first | rfl | exact D.closL_tt _
mutual
theorem D.ren_fix{f:Name->Name}{dom:Name->Bool}(hf:∀ nm,dom nm=true->f nm=nm):∀ d:D,D.clos dom d=true->d.ren f=d
 | .v _,_=>rfl
 | .nilsl,_=>rfl
 | .nilmap,_=>rfl
 | .any,_=>rfl
 | .ref nm _,h=>by simp only[D.ren];rw[hf nm h]
 | .msl nm _,h=>by simp only[D.ren];rw[hf nm h]
 | .aref nm _ _ _,h=>by simp only[D.ren];rw[hf nm h]
 | .map nm,h=>by simp only[D.ren];rw[hf nm h]
 | .yld nm,h=>by simp only[D.ren];rw[hf nm h]
 | .clo _ a b,h=>by
   simp only[D.clos,Bool.and_eq_true]at h
   simp only[D.ren];rw[D.renL_fix hf a h.1,D.renL_fix hf b h.2]
 | .agg l,h=>by simp only[D.clos]at h;simp only[D.ren];rw[D.renL_fix hf l h]
 | .tup l,h=>by simp only[D.clos]at h;simp only[D.ren];rw[D.renL_fix hf l h]
theorem D.renL_fix{f:Name->Name}{dom:Name->Bool}(hf:∀ nm,dom nm=true->f nm=nm):∀ l:List D,D.closL dom l=true->D.renL f l=l
 |[],_=>rfl
 |d::r,h=>by
  simp only[D.closL,Bool.and_eq_true]at h
  simp only[D.renL];rw[D.ren_fix hf d h.1,D.renL_fix hf r h.2]
end
theorem O.ren_fix{f:Name->Name}{dom:Name->Bool}(hf:∀ nm,dom nm=true->f nm=nm)(o:O)(h:O.clos dom o=true):o.ren f=o:=by
 cases o with
 |box cs=>simp only[O.clos]at h;simp only[O.ren];rw[D.renL_fix hf cs h]
 |loop env ps asg body st bo=>
  simp only[O.clos]at h
  simp only[O.ren,O.loop.injEq,and_true]
  refine List.ext_getElem (by simp) fun i h1 h2=>?_
  have :=iP (l:=env.map (·.d)) (i:=i) (by simpa using h2) h
  simp only[List.getElem_map,E.ren]at this |-
  rw[D.ren_fix hf _ this]
 |_=>rfl
def tQ(a b:Name)(σ:S):S:=
 ⟨σ.nt,fun t=>(σ.env t).ren (dJ a b),fun nm=>if own σ.pre nm=true then(σ.obj (dJ a b nm)).map (O.ren (dJ a b))else σ.obj nm,σ.pre,σ.base⟩
theorem Rj{σ:S}(a b:Name)(ha:own σ.pre a=true)(hb:own σ.pre b=true)(hO:b7 σ.pre (fun nm=>!own σ.pre nm) σ.obj):dB σ (tQ a b σ):=by
 intro G φ m x w hC
 obtain⟨f,hf⟩:∃ f,f=dJ a b:=⟨_,rfl⟩
 have Aj:∀ nm,f (f nm)=nm:=fun nm=>by rw[hf];exact R6 a b nm
 have ER:∀ nm,own σ.pre nm=false->f nm=nm:=fun nm h=>by
  rw[hf]
  exact R7 (fun e=>by rw[e,ha]at h;cases h) (fun e=>by rw[e,hb]at h;cases h)
 have o6:∀ nm,(tQ a b σ).obj nm=(σ.obj (f nm)).map (O.ren f):=fun nm=>by
  show (if own σ.pre nm=true then(σ.obj (dJ a b nm)).map (O.ren (dJ a b))else σ.obj nm)=_
  rw[<-hf]
  cases ho:own σ.pre nm with
  |true=>rw[if_pos rfl]
  |false=>
   rw[if_neg (by simp),ER nm ho]
   cases hn:σ.obj nm with
   |none=>rfl
   |some o=>
    rw[Option.map_some,O.ren_fix (dom:=fun nm=>!own σ.pre nm) (fun x hx=>ER x (by simpa using hx)) o (hO nm o ho hn)]
 have jZ:∀ nm o,(tQ a b σ).obj nm=some o->∃ o',σ.obj (f nm)=some o'/\o=o'.ren f:=fun nm o h=>by
  rw[o6]at h
  cases hn:σ.obj (f nm)with
  |none=>rw[hn]at h;cases h
  |some o'=>rw[hn]at h;cases h;exact⟨o',rfl,rfl⟩
 have hX:vI f φ (fun nm=>φ (f nm)) σ.obj (tQ a b σ).obj (fun _=>true):=fun nm o _ ho=>
  ⟨o.ren f,by rw[o6,Aj,ho];rfl,.inl ⟨O.len_ren f o,by show φ (f (f nm))=φ nm;rw[Aj],O.sz_ren f o⟩⟩
 have hh:∀ nm,holds (fun nm=>φ (f nm)) (tQ a b σ).obj nm->holds φ σ.obj (f nm):=by
  rintro nm ⟨o,h1,h2,h3⟩
  obtain⟨o',h4,rfl⟩:=jZ nm o h1
  exact⟨o',h4,by rw[<-O.mut_ren f];exact h2,h3⟩
 refine⟨fun nm=>φ (f nm),?_⟩
 constructor
 ·intro t
  have :(tQ a b σ).env t=(σ.env t).ren f:=by rw[hf];rfl
  rw[this]
  exact(hC.tmps t).renx (Mem.le_refl m) hX (D.clos_tt _)
 ·exact hC.size
 ·exact hC.defers
 ·intro nm o h
  obtain⟨o',h4,rfl⟩:=jZ nm o h
  exact(hC.objs (f nm) o' h4).ren (Mem.le_refl m) hX (O.clos_tt o') (fun _ _=>rfl)
 ·exact hC.mem
 ·exact fun nm hn=>hC.apart (f nm) (hh nm hn)
 ·intro nm jP h1 h2 e
  have :=hC.inj _ _ (hh nm h1) (hh jP h2) e
  rw[<-Aj nm,this,Aj]
 ·exact fun nm hn=>hC.own (f nm) (hh nm hn)
 ·exact hC.fr
 ·exact hC.fresh
 ·refine⟨hC.kept.1,fun nm o ho=>?_⟩
  obtain⟨o',h1,h2⟩:=hC.kept.2 nm o ho
  have hn:=ER nm (hC.kept.1 nm o ho)
  refine⟨o'.ren f,by rw[o6,hn,h1];rfl,?_⟩
  rw[O.len_ren,O.sz_ren]
  show _/\φ (f nm)=_/\_\/_
  rw[hn]
  exact h2
theorem Rq{nt:Nat}{p:Name}{H:Name->Option O}{l l':List (Nat×E)}{h h':List (Name×O)}(a b:Name)(ks:List Nat)(ns:List Name)(ha:own p a=true)(hb:own p b=true)
 (hO:b7 p (bT p []) H) (hn:(ns.all fun nm=>own p nm)=true)
 (hl:(ks.map fun t=>(t,(dw eAny l t).ren (dJ a b)))=l')
 (hh:(ns.filterMap fun nm=>(dw none (h.map fun q=>(q.1,some q.2)) (dJ a b nm)).map fun o=>(nm,o.ren (dJ a b)))=h')
 (hc:((l'.all fun q=>D.clos (bT p h') q.2.d)&&(h'.all fun q=>O.clos (bT p h') q.2))=true):cT (aT nt p H l h) (aT nt p H l' h'):=by
 have iw:b7 p (fun nm=>!own p nm) H:=by
  intro x q hx hq
  have :=hO x q hx hq
  have e:bT p []=fun nm=>!own p nm:=by funext nm;simp[bT]
  rw[e]at this;exact this
 have hw:=Rj (σ:=aT nt p H l h) a b ha hb (fun nm o h1 h2=>by
  have :(aT nt p H l h).obj nm=H nm:=if_neg (by rw[show own p nm=false from h1];decide)
  rw[this]at h2
  exact iw nm o h1 h2)
 have Y':∀ nm,own p nm=true->own p (dJ a b nm)=true:=fun nm h=>by
  unfold dJ
  split
  ·exact hb
  ·split
   ·exact ha
   ·exact h
 refine(hw.trans (Fits.weak (p:=p) (H:=H) (l:=l') (h:=h') ⟨rfl,fun nm aq=>?_,fun q hq=>?_,fun q hq=>?_,?_,?_,?_⟩)).toM
 ·show (if own p nm=true then _ else(if own p nm=true then _ else H nm))=H nm
  rw[if_neg (by rw[aq];decide),if_neg (by rw[aq];decide)]
 ·rw[<-hl]at hq
  obtain⟨t,_,rfl⟩:=List.mem_map.1 hq
  rfl
 ·rw[<-hh]at hq
  obtain⟨nm,hm,e⟩:=List.mem_filterMap.1 hq
  have Mn:=List.all_eq_true.1 hn nm hm
  cases ho:dw none (h.map fun q=>(q.1,some q.2)) (dJ a b nm)with
  |none=>rw[ho]at e;cases e
  |some o=>
   rw[ho]at e
   cases e
   show (if own p nm=true then Option.map _ (if own p (dJ a b nm)=true then dw none (h.map fun q=>(q.1,some q.2)) (dJ a b nm)else H (dJ a b nm))else _)=_
   rw[if_pos Mn,if_pos (Y' nm Mn),ho]
   rfl
 ·rw[Bool.and_eq_true]at hc;exact hc.1
 ·rw[Bool.and_eq_true]at hc;exact hc.2
 ·exact adf iw h'
def Spec.ite(c:Name->List D->Bool)(s1 s2:Spec):Spec where
 app obj t ds:=if c t ds=true then s1.app obj t ds else s2.app obj t ds
 foot obj t ds:=if c t ds=true then s1.foot obj t ds else s2.foot obj t ds
 wrt obj t ds:=if c t ds=true then s1.wrt obj t ds else s2.wrt obj t ds
theorem Spec.ite_near{c:Name->List D->Bool}{s1 s2:Spec}(h1:s1.Near)(h2:s2.Near):(Spec.ite c s1 s2).Near:=by
 refine⟨fun obj obj2 t ds h=>?_,fun obj obj2 t ds h=>?_,fun obj t ds nm hn=>?_,fun obj obj2 t ds h=>?_⟩<;>simp only[Spec.ite]at *
 ·split
  ·rename_i hc;simp only[hc,if_true]at h;exact h1.like _ _ _ _ h
  ·rename_i hc;simp only[hc,if_false,Bool.false_eq_true]at h;exact h2.like _ _ _ _ h
 ·split
  ·rename_i hc;simp only[hc,if_true]at h;exact h1.foot _ _ _ _ h
  ·rename_i hc;simp only[hc,if_false,Bool.false_eq_true]at h;exact h2.foot _ _ _ _ h
 ·by_cases hc:c t ds=true
  ·rw[if_pos hc]at hn |-;exact h1.sub _ _ _ _ hn
  ·rw[if_neg hc]at hn |-;exact h2.sub _ _ _ _ hn
 ·split
  ·rename_i hc;simp only[hc,if_true]at h;exact h1.wrt _ _ _ _ h
  ·rename_i hc;simp only[hc,if_false,Bool.false_eq_true]at h;exact h2.wrt _ _ _ _ h
theorem ak.ite{P:Program}{f:FuncId}{s1 s2:Spec}(c:Name->List D->Bool)(h1:ak P f s1)(h2:ak P f s2)(al:f≠yid):ak P f (Spec.ite c s1 s2):=by
 refine⟨Spec.ite_near h1.near h2.near,h1.enter,fun hf G φ m σ a w hC t ds us ht hl hr aa=>?_,fun e=>(al e).elim⟩
 simp only[Spec.ite]at aa |-
 split
 ·rename_i hc
  rw[if_pos hc]at aa
  exact h1.calls hf G φ m σ a w hC t ds us ht hl hr aa
 ·rename_i hc
  rw[if_neg hc]at aa
  exact h2.calls hf G φ m σ a w hC t ds us ht hl hr aa
def uJ(s:Stk)(j z:Nat):List V:=if j<z then(s.un.get j).map encPa else[]
def gI(nm:Name)(s:Stk)(j z:Nat):List D:=(kR s z).set (1+j) (.msl nm (uJ s j z).length)
theorem AZ{dom:Name->Bool}{nm:Name}{n:Nat}:∀ {cs:List D} {i:Nat},D.closL dom cs=true->D.closL dom (cs.set i (.msl nm n))=(dom nm||decide (cs.length<=i))
 |[],i,_=>by simp[D.closL]
 |d::r,0,h=>by
  simp only[D.closL,Bool.and_eq_true]at h
  simp[D.closL,D.clos,h.2]
 |d::r,i+1,h=>by
  simp only[D.closL,Bool.and_eq_true]at h
  simp only[List.set_cons_succ,D.closL,h.1,Bool.true_and,AZ h.2,List.length_cons,Nat.add_le_add_iff_right]
@[go_sem] theorem aiF(dom:Name->Bool)(nm:Name)(s:Stk)(j z:Nat):D.closL dom (gI nm s j z)=(dom nm||decide (19<=1+j)):=AZ (abQ dom s z)
@[go_sem] theorem Oz(nm:Name)(s:Stk)(j z:Nat):(gI nm s j z).length=19:=by
  unfold gI;rw[List.length_set];rfl
@[go_sem] theorem aiG(nm:Name)(s:Stk)(j z:Nat):(gI nm s j z).take 19=gI nm s j z:=List.take_of_length_le (by rw[Oz];exact Nat.le_refl _)
@[go_sem] theorem aiE(nm:Name)(s:Stk)(j z:Nat):(gI nm s j z).drop 19=[]:=List.drop_of_length_le (by rw[Oz];exact Nat.le_refl _)
theorem ajw{a:D}{r:List D}{j:Nat}(h:j<6):(a:: .nilsl:: .nilsl:: .nilsl:: .nilsl:: .nilsl:: .nilsl::r)[1+j]?=some .nilsl:=by
 match j,h with
 | 0,_=>rfl
 | 1,_=>rfl
 | 2,_=>rfl
 | 3,_=>rfl
 | 4,_=>rfl
 | 5,_=>rfl
theorem aiC(nm:Name)(s:Stk){i j:Nat}(hi:i<6)(hj:j<6)(h:i≠j):List.take (1+i) (gI nm s j i)++[D.v (.sl ((s.un.get i).map encPa))]++List.drop (1+i+1) (gI nm s j i)=gI nm s j (i+1):=by
 match i,hi with
 | 0,_=>match j,hj with
   | 0,_=>exact absurd rfl h
   | 1,_=>rfl
   | 2,_=>rfl
   | 3,_=>rfl
   | 4,_=>rfl
   | 5,_=>rfl
 | 1,_=>match j,hj with
   | 0,_=>rfl
   | 1,_=>exact absurd rfl h
   | 2,_=>rfl
   | 3,_=>rfl
   | 4,_=>rfl
   | 5,_=>rfl
 | 2,_=>match j,hj with
   | 0,_=>rfl
   | 1,_=>rfl
   | 2,_=>exact absurd rfl h
   | 3,_=>rfl
   | 4,_=>rfl
   | 5,_=>rfl
 | 3,_=>match j,hj with
   | 0,_=>rfl
   | 1,_=>rfl
   | 2,_=>rfl
   | 3,_=>exact absurd rfl h
   | 4,_=>rfl
   | 5,_=>rfl
 | 4,_=>match j,hj with
   | 0,_=>rfl
   | 1,_=>rfl
   | 2,_=>rfl
   | 3,_=>rfl
   | 4,_=>exact absurd rfl h
   | 5,_=>rfl
 | 5,_=>match j,hj with
   | 0,_=>rfl
   | 1,_=>rfl
   | 2,_=>rfl
   | 3,_=>rfl
   | 4,_=>rfl
   | 5,_=>exact absurd rfl h
theorem Hz(s:Stk){i j:Nat}(h:i≠j):uJ s j i=uJ s j (i+1):=by
 unfold uJ
 by_cases h1:j<i
 ·rw[if_pos h1,if_pos (by omega)]
 ·rw[if_neg h1,if_neg (by omega)]
theorem RD(s:Stk)(j:Nat):uJ s j (j+1)=(s.un.get j).map encPa:=if_pos (Nat.lt_succ_self j)
theorem aiB(s:Stk){j:Nat}(hj:j<6):D.renL (dJ [24,0] [99,0]) (List.take (1+j) (gI [99,0] s j j)++[D.msl [24,0] (s.un.get j).length]++List.drop (1+j+1) (gI [99,0] s j j))=gI [99,0] s j (j+1):=by
 match j,hj with
 | 0,_=>simp[gI,kR,qV,uJ,D.renL,D.ren,dJ,aS.get]
 | 1,_=>simp[gI,kR,qV,uJ,D.renL,D.ren,dJ,aS.get]
 | 2,_=>simp[gI,kR,qV,uJ,D.renL,D.ren,dJ,aS.get]
 | 3,_=>simp[gI,kR,qV,uJ,D.renL,D.ren,dJ,aS.get]
 | 4,_=>simp[gI,kR,qV,uJ,D.renL,D.ren,dJ,aS.get]
 | 5,_=>simp[gI,kR,qV,uJ,D.renL,D.ren,dJ,aS.get]
theorem aiH(s:Stk)(j:Nat):List.set [D.v (V.sl (List.map vInt s.ho)),D.nilsl,D.nilsl,D.nilsl,D.nilsl,D.nilsl,D.nilsl,D.v (vInt s.se.a),D.v (vInt s.se.b),D.v (vInt s.se.c),D.v (vInt s.se.d),D.v (vInt s.se.e),D.v (vInt s.se.f),D.v (vInt s.ta.a),D.v (vInt s.ta.b),D.v (vInt s.ta.c),D.v (vInt s.ta.d),D.v (vInt s.ta.e),D.v (vInt s.ta.f)] (1+j) (D.msl [99,0] 0)=gI [99,0] s j 0:=rfl
theorem uJ0(s:Stk)(j:Nat):uJ s j 0=[]:=rfl
@[go_sem] theorem OG(dom:Name->Bool)(l:List V)(i:Nat)(nm:Name)(n:Nat):D.closL dom ((List.map D.v l).set i (.msl nm n))=(dom nm||decide (l.length<=i)):=by
  rw[AZ (qX dom l),List.length_map]
@[go_sem] theorem nF(l:List V)(i:Nat)(d:D):((List.map D.v l).set i d).length=l.length:=by simp
@[go_sem] theorem agw(s:Stk)(i:Nat)(d:D):List.take 19 ((List.map D.v (aC s)).set i d)=(List.map D.v (aC s)).set i d:=List.take_of_length_le (by rw[nF];exact Nat.le_refl _)
@[go_sem] theorem N5(s:Dk)(i:Nat)(d:D):List.take 63 ((List.map D.v (an s)).set i d)=(List.map D.v (an s)).set i d:=List.take_of_length_le (by rw[nF];exact Nat.le_refl _)
theorem BL(s:Stk){j:Nat}(hj:j<6):uJ s j 6=(s.un.get j).map encPa:=if_pos hj
theorem qW{dom:Name->Bool}{cs:List D}:D.closL dom cs=true↔∀ d∈cs,D.clos dom d=true:=by
 induction cs with
 |nil=>simp[D.closL]
 |cons d r ih=>simp[D.closL,ih]
@[go_sem] theorem aiI{dom:Name->Bool}{cs:List D}(n:Nat)(h:D.closL dom cs=true):D.closL dom (cs.take n)=true:=qW.2 fun d hd=>qW.1 h d (List.mem_of_mem_take hd)
@[go_sem] theorem aiK{dom:Name->Bool}{cs:List D}(n:Nat)(h:D.closL dom cs=true):D.closL dom (cs.drop n)=true:=qW.2 fun d hd=>qW.1 h d (List.mem_of_mem_drop hd)
theorem aiD(nm:Name)(s:Stk){j:Nat}(hj:j<6):gI nm s j 6=(List.map D.v (aC s)).set (1+j) (.msl nm (s.un.get j).length):=by
 unfold gI
 rw[abP,uJ,if_pos hj,List.length_map]
theorem Rs{σ τ:S}(p:Prop)[Decidable p](h1:p->cT σ τ)(h2:¬ p->cT σ τ):cT σ τ:=by
 by_cases h:p
 ·exact h1 h
 ·exact h2 h
def zb:D->D
 | .nilsl=>.v (.sl [])
 |d=>d
theorem Rx{σ:S}(b:Name)(cs:List D)(hb:σ.obj b=some (.box cs)):cT σ ⟨σ.nt,σ.env,upd σ.obj b (some (.box (cs.map zb))),σ.pre,σ.base⟩:=by
 intro G φ m a w hC
 obtain⟨h1,h2,h3,us,T,f,h4,h5,h6,h7⟩:=hC.objs b _ hb
 have iZ:=Ext.same (φ:=φ) (o':=.box (cs.map zb)) hb rfl rfl
 have si:=iZ
 rw[eN]at si
 refine⟨_,m,hC.chg (w':=w) b (.box (cs.map zb)) _ iZ ⟨rfl,rfl,rfl,Nat.le_refl _⟩ (fun _ _ _=>rfl) (fun _=>.inr ⟨⟨_,hb,rfl,h2⟩,rfl⟩) ?_⟩
 rw[eN]
 refine⟨h1,h2,fun d hd=>?_,us,T,f,h4,h5,by rw[List.length_map];exact h6,fun j hj e7=>?_⟩
 ·obtain⟨x,hx,rfl⟩:=List.mem_map.1 hd
  have :=h3 x hx
  cases x<;>first | exact this | rfl
 ·have ir:j<cs.length:=by simpa using hj
  simp only[List.getElem_map]
  have :=(h7 j ir e7).ext (Mem.le_refl m) si
  generalize cs[j]=d at this
  cases d with
  |nilsl=>
   generalize us[j]=u at this
   cases this with
   |nilsl a=>exact .v _ _ (.slnil a 0)
  |_=>exact this
theorem adX{σ τ:S}(b:Name)(cs kQ:List D)(hb:σ.obj b=some (.box cs))(hl:cs.map zb=kQ)(ks:List Nat)(ns:List Name)
 (h:fI ks ns ⟨σ.nt,σ.env,upd σ.obj b (some (.box kQ)),σ.pre,σ.base⟩) (hk:fP ks ns ⟨σ.nt,σ.env,upd σ.obj b (some (.box kQ)),σ.pre,σ.base⟩=τ):cT σ τ:=by
 subst hl
 exact(Rx b cs hb).trans (nw ks ns h hk)
theorem Rk{σ:S}(nm:Name)(sz:Nat)(hn:σ.obj nm=none):dB σ ⟨σ.nt,σ.env,upd σ.obj nm (some (.arr sz [])),σ.pre,σ.base⟩:=by
 intro G φ m a w hC
 have hx:=Ext.new (φ:=φ) hn ⟨0,0,0,true,none⟩ (.arr sz [])
 exact⟨_,hC.chg (w':=w) nm (.arr sz []) ⟨0,0,0,true,none⟩ hx ⟨rfl,rfl,rfl,Nat.le_refl _⟩ (fun _ _ _=>rfl) (fun h=>by cases h) (.inl ⟨rfl,rfl⟩)⟩
theorem Rr{σ τ:S}(nm:Name)(sz:Nat)(hn:σ.obj nm=none)(ks:List Nat)(ns:List Name)
 (h:fI ks ns ⟨σ.nt,σ.env,upd σ.obj nm (some (.arr sz [])),σ.pre,σ.base⟩) (hk:fP ks ns ⟨σ.nt,σ.env,upd σ.obj nm (some (.arr sz [])),σ.pre,σ.base⟩=τ):cT σ τ:=
 (Rk nm sz hn).toM.trans (nw ks ns h hk)
theorem Ch(f:Name->Name)(l:List V)(i:Nat)(nm:Name)(n:Nat):D.renL f ((List.map D.v l).set i (.msl nm n))=(List.map D.v l).set i (.msl (f nm) n):=by
 rw[iE,List.map_set,List.map_map]
 rfl
attribute [go_sem] Ch
theorem ajh(s:Stk)(i:Nat)(x:D)(X:List D):List.take 61 ((List.map D.v (aC s)).set i x++X)=(List.map D.v (aC s)).set i x++List.take 42 X:=by
 rw[List.take_append,nF,List.take_of_length_le (by rw[nF];exact lb rfl)]
 rfl
theorem ajg(s:Stk)(i:Nat)(x:D)(X:List D):List.drop 62 ((List.map D.v (aC s)).set i x++X)=List.drop 43 X:=by
 rw[List.drop_append,nF,List.drop_of_length_le (by rw[nF];exact lb rfl),List.nil_append]
 rfl
attribute [go_sem] Spec.ite List.headD_cons decide_true decide_false
def lT(nm:Name)(d:Dk)(j:Nat):List D:=(List.map D.v (an d)).set (2+j) (.msl nm (d.now.un.get j).length)
@[go_sem] theorem ain(dom:Name->Bool)(nm:Name)(d:Dk)(j:Nat):D.closL dom (lT nm d j)=(dom nm||decide (63<=2+j)):=OG dom (an d) _ nm _
@[go_sem] theorem abl(nm:Name)(d:Dk)(j:Nat):(lT nm d j).length=63:=nF _ _ _
@[go_sem] theorem aio(nm:Name)(d:Dk)(j:Nat):(lT nm d j).take 63=lT nm d j:=N5 d _ _
@[go_sem] theorem aim(nm:Name)(d:Dk)(j:Nat):(lT nm d j).drop 63=[]:=List.drop_of_length_le (by rw[abl];exact Nat.le_refl _)
theorem aik(nm:Name)(d:Dk){i j:Nat}(h:i<2)(hj:j<6):List.take (20+i*21) (lT nm (te d i) j)++List.map D.v (cH ⟨(d.pg i).co,(d.pg i).st,(d.pg i).su⟩)++List.drop (20+i*21+21) (lT nm (te d i) j)=lT nm (te d (i+1)) j:=by
 match i,h with
 | 0,_=>match j,hj with
   | 0,_=>rfl
   | 1,_=>rfl
   | 2,_=>rfl
   | 3,_=>rfl
   | 4,_=>rfl
   | 5,_=>rfl
 | 1,_=>match j,hj with
   | 0,_=>rfl
   | 1,_=>rfl
   | 2,_=>rfl
   | 3,_=>rfl
   | 4,_=>rfl
   | 5,_=>rfl
def fV(l:List Int)(p:Int)(z:Nat):List Int:=(l.take z).filter fun x=>x != p
def js(s:Stk)(p:Int)(j:Nat):Stk:=⟨fV s.ho p s.ho.length,s.un.set j (s.un.get j++[⟨s.se.get j+1,p⟩]),s.se.set j (s.se.get j+1),s.ta⟩
def oS(d:Dk)(t:Int):Bool:=(((d.now.un.get t.toNat).length:Int)==40)||(d.now.se.get t.toNat==99999)
def nc(d:Dk)(p:Int):Bool:=decide ((fV d.now.ho p d.now.ho.length).length=d.now.ho.length)
def c7(d:Dk)(p t:Int):Int:=if ay d=true then(if aO p 1 999=true then(if ez d t=true then(if nc d p=true then 95 else if oS d t=true then 2 else 0)else 94)else 1)else 92
def iV(d:Dk)(p t:Int):Dk:=if c7 d p t=0 then d.setN (js d.now p t.toNat)else zD
theorem SG{d:Dk}{p t:Int}(h:ay d=false):iV d p t=zD/\c7 d p t=92:=by
 have :c7 d p t=92:=if_neg (by rw[h];decide)
 exact⟨if_neg (by rw[this];decide),this⟩
theorem SK{d:Dk}{p t:Int}(h:ay d=true)(h1:aO p 1 999=false):iV d p t=zD/\c7 d p t=1:=by
 have :c7 d p t=1:=by unfold c7;rw[if_pos h,if_neg (by rw[h1];decide)]
 exact⟨if_neg (by rw[this];decide),this⟩
theorem SE{d:Dk}{p t:Int}(h:ay d=true)(h1:aO p 1 999=true)(h2:ez d t=false):iV d p t=zD/\c7 d p t=94:=by
 have :c7 d p t=94:=by unfold c7;rw[if_pos h,if_pos h1,if_neg (by rw[h2];decide)]
 exact⟨if_neg (by rw[this];decide),this⟩
theorem SJ{d:Dk}{p t:Int}(h:ay d=true)(h1:aO p 1 999=true)(h2:ez d t=true)(h3:nc d p=true):iV d p t=zD/\c7 d p t=95:=by
 have :c7 d p t=95:=by unfold c7;rw[if_pos h,if_pos h1,if_pos h2,if_pos h3]
 exact⟨if_neg (by rw[this];decide),this⟩
theorem SH{d:Dk}{p t:Int}(h:ay d=true)(h1:aO p 1 999=true)(h2:ez d t=true)(h3:nc d p=false)(h4:oS d t=true):iV d p t=zD/\c7 d p t=2:=by
 have :c7 d p t=2:=by unfold c7;rw[if_pos h,if_pos h1,if_pos h2,if_neg (by rw[h3];decide),if_pos h4]
 exact⟨if_neg (by rw[this];decide),this⟩
theorem SF{d:Dk}{p t:Int}(h:ay d=true)(h1:aO p 1 999=true)(h2:ez d t=true)(h3:nc d p=false)(h4:oS d t=false):iV d p t=d.setN (js d.now p t.toNat)/\c7 d p t=0:=by
 have :c7 d p t=0:=by unfold c7;rw[if_pos h,if_pos h1,if_pos h2,if_neg (by rw[h3];decide),if_neg (by rw[h4];decide)]
 exact⟨if_pos this,this⟩
theorem NH{l:List Int}{p:Int}{z:Nat}(h:z<l.length):fV l p (z+1)=if (l[z] != p)=true then fV l p z++[l[z]]else fV l p z:=by
 unfold fV
 rw[List.take_add_one,List.getElem?_eq_getElem h,List.filter_append]
 show _++List.filter _ [l[z]]=_
 by_cases hp:(l[z] != p)=true
 ·rw[if_pos hp]
  have :List.filter (fun x=>x != p) [l[z]]=[l[z]]:=by simp[List.filter,hp]
  rw[this]
 ·rw[if_neg hp]
  have :List.filter (fun x=>x != p) [l[z]]=[]:=by simp[List.filter,hp]
  rw[this,List.append_nil]
theorem ahK{l:List Int}{p:Int}{z:Nat}(h:z<l.length)(hp:(l[z] != p)=true):fV l p (z+1)=fV l p z++[l[z]]:=by rw[NH h,if_pos hp]
theorem ahL{l:List Int}{p:Int}{z:Nat}(h:z<l.length)(hp:(l[z] != p)=false):fV l p (z+1)=fV l p z:=by rw[NH h,if_neg (by rw[hp];decide)]
theorem aa0(l:List Int)(p:Int)(z:Nat):(fV l p z).length<=l.length:=by
 unfold fV
 refine Nat.le_trans (List.length_filter_le _ _) ?_
 rw[List.length_take];omega
def bQ(d:Dk)(j:Nat)(hd:D)(nm:Name)(n:Nat)(se:Int):List D:=(((List.map D.v (an d)).set 1 hd).set (8+j) (.v (vInt se))).set (2+j) (.msl nm n)
theorem gK{P:Nat->Prop}(h0:P 0)(h1:P 1)(h2:P 2)(h3:P 3)(h4:P 4)(h5:P 5):∀ {j:Nat},j<6->P j
 | 0,_=>h0
 | 1,_=>h1
 | 2,_=>h2
 | 3,_=>h3
 | 4,_=>h4
 | 5,_=>h5
theorem ai1(d:Dk)(nm:Name){j:Nat}(hj:j<6):lT nm d j=bQ d j (.v (gv d.now.ho)) nm (d.now.un.get j).length (d.now.se.get j):=
 gK (P:=fun j=>lT nm d j=bQ d j (.v (gv d.now.ho)) nm (d.now.un.get j).length (d.now.se.get j)) rfl rfl rfl rfl rfl rfl hj
@[go_sem] theorem na(d:Dk)(j:Nat)(hd:D)(nm:Name)(n:Nat)(se:Int):(bQ d j hd nm n se).length=63:=by
  simp[bQ,qP]
theorem tX{α:Type}{C:List α}{i:Nat}{x:α}(h:i<C.length):List.take i C++[x]++List.drop (i+1) C=C.set i x:=by
 rw[List.append_assoc,List.set_eq_take_append_cons_drop,if_pos h];rfl
@[go_sem] theorem aiZ(d:Dk)(j:Nat)(hd gf:D)(nm:Name)(n:Nat)(se:Int):List.take 1 (bQ d j hd nm n se)++[gf]++List.drop 2 (bQ d j hd nm n se)=bQ d j gf nm n se:=by
  rw[tX (i:=1) (by rw[na];omega)]
  unfold bQ
  rw[List.set_comm (D.msl nm n) gf (show 2+j≠1 by omega),List.set_comm (D.v (vInt se)) gf (show 8+j≠1 by omega),List.set_set]
theorem acf(d:Dk){j:Nat}(hd:D)(nm:Name)(n:Nat)(se se':Int)(hj:j<6):List.take (8+j) (bQ d j hd nm n se)++[.v (vInt se')]++List.drop (8+j+1) (bQ d j hd nm n se)=bQ d j hd nm n se':=by
 rw[tX (by rw[na];omega)]
 unfold bQ
 rw[List.set_comm (D.msl nm n) (D.v (vInt se')) (show 2+j≠8+j by omega),List.set_set]
theorem acd(d:Dk){j:Nat}(hd:D)(nm:Name)(n n':Nat)(se:Int)(hj:j<6):List.take (2+j) (bQ d j hd nm n se)++[.msl nm n']++List.drop (2+j+1) (bQ d j hd nm n se)=bQ d j hd nm n' se:=by
 rw[tX (by rw[na];omega)]
 unfold bQ
 rw[List.set_set]
theorem O1(d:Dk)(j:Nat)(hd:D)(nm:Name)(n:Nat)(se:Int):(bQ d j hd nm n se)[1]?=some hd:=by
 unfold bQ
 rw[List.getElem?_set_ne (by omega),List.getElem?_set_ne (by omega),List.getElem?_set_self (by simp[qP])]
theorem ach(d:Dk){j:Nat}(hd:D)(nm:Name)(n:Nat)(se:Int)(hj:j<6):(bQ d j hd nm n se)[8+j]?=some (.v (vInt se)):=by
 unfold bQ
 rw[List.getElem?_set_ne (by omega),List.getElem?_set_self (by simp[qP];omega)]
theorem O0(d:Dk){j:Nat}(hd:D)(nm:Name)(n:Nat)(se:Int)(hj:j<6):(bQ d j hd nm n se)[2+j]?=some (.msl nm n):=by
 unfold bQ
 rw[List.getElem?_set_self (by simp[qP];omega)]
@[go_sem] theorem ai0(d:Dk)(j:Nat)(hd:D)(nm:Name)(n:Nat)(se:Int):(bQ d j hd nm n se).getD 1 .any=hd:=by rw[List.getD_eq_getElem?_getD,O1];rfl
theorem OX(d:Dk){j:Nat}(hd:D)(nm:Name)(n:Nat)(se:Int)(hj:j<6):(bQ d j hd nm n se).getD (8+j) .any=.v (vInt se):=by rw[List.getD_eq_getElem?_getD,ach _ _ _ _ _ hj];rfl
theorem OW(d:Dk){j:Nat}(hd:D)(nm:Name)(n:Nat)(se:Int)(hj:j<6):(bQ d j hd nm n se).getD (2+j) .any=.msl nm n:=by rw[List.getD_eq_getElem?_getD,O0 _ _ _ _ _ hj];rfl
theorem OH{dom:Name->Bool}{d:D}(hd:D.clos dom d=true):∀ {cs:List D} {i:Nat},D.closL dom cs=true->D.closL dom (cs.set i d)=true
 |[],i,_=>by simp[D.closL]
 |a::r,0,h=>by
  simp only[D.closL,Bool.and_eq_true]at h
  simp[D.closL,hd,h.2]
 |a::r,i+1,h=>by
  simp only[D.closL,Bool.and_eq_true]at h
  simp only[List.set_cons_succ,D.closL,h.1,Bool.true_and,OH hd h.2]
theorem Gt{dom:Name->Bool}{cs:List D}:D.closL dom cs=true↔∀ (i:Nat) (d:D),cs[i]?=some d->D.clos dom d=true:=by
 rw[qW]
 constructor
 ·intro h i d hi
  obtain⟨hl,e⟩:=List.getElem?_eq_some_iff.1 hi
  exact h d (e▸List.getElem_mem hl)
 ·intro h d hd
  obtain⟨i,hi,rfl⟩:=List.getElem_of_mem hd
  exact h i _ (List.getElem?_eq_getElem hi)
@[go_sem] theorem OZ(dom:Name->Bool)(d:Dk)(j:Nat)(hd:D)(nm:Name)(n:Nat)(se:Int):D.closL dom (bQ d j hd nm n se)=(D.clos dom hd&&(dom nm||decide (63<=2+j))):=by
  rw[Bool.eq_iff_iff,Gt]
  simp only[Bool.and_eq_true,Bool.or_eq_true,decide_eq_true_eq]
  constructor
  ·intro h
   refine⟨h 1 hd (O1 _ _ _ _ _ _),?_⟩
   by_cases hj:63<=2+j
   ·exact .inr hj
   ·refine .inl ?_
    have :=h (2+j) (.msl nm n) (by unfold bQ;rw[List.getElem?_set_self (by simp[qP];omega)])
    simpa[D.clos]using this
  ·rintro⟨h1,h2⟩ i x hi
   have ae:=(List.getElem?_eq_some_iff.1 hi).1
   rw[na]at ae
   unfold bQ at hi
   by_cases e1:2+j=i
   ·subst e1
    rw[List.getElem?_set_self (by simp[qP];omega)]at hi
    cases hi
    simp only[D.clos]
    rcases h2 with h2 | h2
    ·exact h2
    ·omega
   ·rw[List.getElem?_set_ne e1]at hi
    by_cases e2:8+j=i
    ·subst e2
     rw[List.getElem?_set_self (by simp[qP];omega)]at hi
     cases hi
     rfl
    ·rw[List.getElem?_set_ne e2]at hi
     by_cases e3:1=i
     ·subst e3
      rw[List.getElem?_set_self (by simp[qP])]at hi
      cases hi
      exact h1
     ·rw[List.getElem?_set_ne e3,List.getElem?_map]at hi
      cases hq:(an d)[i]? with
      |none=>rw[hq]at hi;cases hi
      |some y=>rw[hq]at hi;cases hi;rfl
@[go_sem] theorem aci(d:Dk)(j:Nat)(hd:D)(nm:Name)(n:Nat)(se:Int):(bQ d j hd nm n se).take 63=bQ d j hd nm n se:=List.take_of_length_le (by rw[na];exact Nat.le_refl _)
@[go_sem] theorem acg(d:Dk)(j:Nat)(hd:D)(nm:Name)(n:Nat)(se:Int):(bQ d j hd nm n se).drop 63=[]:=List.drop_of_length_le (by rw[na];exact Nat.le_refl _)
theorem ace(d:Dk)(j:Nat)(hd gf:D)(nm:Name)(n:Nat)(se:Int):(bQ d j hd nm n se).set 1 gf=bQ d j gf nm n se:=by
 unfold bQ
 rw[List.set_comm (D.msl nm n) gf (show 2+j≠1 by omega),List.set_comm (D.v (vInt se)) gf (show 8+j≠1 by omega),List.set_set]
theorem GD(d:Dk){j:Nat}(l:List Int)(nm:Name)(n:Nat)(se:Int)(ps:List Par)(hj:j<6):(bQ d j (.v (gv l)) nm n se).set (2+j) (.v (.sl (ps.map encPa)))=List.map D.v (an (d.setN ⟨l,d.now.un.set j ps,d.now.se.set j se,d.now.ta⟩)):=
 gK (P:=fun j=>(bQ d j (.v (gv l)) nm n se).set (2+j) (.v (.sl (ps.map encPa)))=List.map D.v (an (d.setN ⟨l,d.now.un.set j ps,d.now.se.set j se,d.now.ta⟩))) rfl rfl rfl rfl rfl rfl hj
@[go_sem] theorem ail(f:Name->Name)(nm:Name)(d:Dk)(j:Nat):D.renL f (lT nm d j)=lT (f nm) d j:=Ch _ _ _ _ _
theorem abi(d:Dk){j:Nat}(h:j<6):(an d).getD (2+j) default=rowP (d.now.un.get j):=abj d h
theorem abk(d:Dk){j:Nat}(h:j<6):(an d).getD (8+j) default=vInt (d.now.se.get j):=
 gK (P:=fun j=>(an d).getD (8+j) default=vInt (d.now.se.get j)) rfl rfl rfl rfl rfl rfl h
theorem OY(d:Dk){j:Nat}(l:List Int)(nm:Name)(n:Nat)(se:Int)(ps:List Par)(a b:Int)(hj:j<6):(bQ d j (.v (gv l)) nm n se).set (2+j) (.v (.sl (ps.map encPa++[.agg [vInt a,vInt b]])))=List.map D.v (an (d.setN ⟨l,d.now.un.set j (ps++[⟨a,b⟩]),d.now.se.set j se,d.now.ta⟩)):=by
 have h:=GD d l nm n se (ps++[(⟨a,b⟩:Par)]) hj
 rw[List.map_append]at h
 exact h
theorem UF(d:Dk)(t:Int):∃ j,j<6/\(ez d t=true->t.toNat=j):=by
 by_cases h:t.toNat<6
 ·exact⟨t.toNat,h,fun _=>rfl⟩
 ·exact⟨0,by omega,fun hk=>absurd (BN hk).2.2 h⟩
noncomputable def S77g:Spec:=tq Tryd.prog 34
noncomputable def S76g:Spec:=tq Tryd.prog 35
theorem XI:ak Tryd.prog 36 S77g:=OK Gu
theorem XJ:ak Tryd.prog 46 S76g:=OK Gv
attribute [go_sem] S77g S76g
def iS(hn un:Name)(s:Stk)(j:Nat):List D:=((List.map D.v (aC s)).set 0 (.msl hn s.ho.length)).set (1+j) (.msl un (s.un.get j).length)
@[go_sem] theorem HS(hn un:Name)(s:Stk)(j:Nat):(iS hn un s j).length=19:=by
  unfold iS;rw[List.length_set,nF];rfl
theorem OE(dom:Name->Bool)(l:List V){i k:Nat}(hn un:Name)(a b:Nat)(hi:i<l.length)(xc:i≠k):D.closL dom (((List.map D.v l).set i (.msl hn a)).set k (.msl un b))=(dom hn&&(dom un||decide (l.length<=k))):=by
 rw[Bool.eq_iff_iff,Gt]
 simp only[Bool.and_eq_true,Bool.or_eq_true,decide_eq_true_eq]
 constructor
 ·intro h
  refine⟨?_,?_⟩
  ·have:=h i (.msl hn a) (by rw[List.getElem?_set_ne xc.symm,List.getElem?_set_self (by simpa using hi)])
   simpa[D.clos]using this
  ·by_cases hk:l.length<=k
   ·exact .inr hk
   ·refine .inl ?_
    have :=h k (.msl un b) (by rw[List.getElem?_set_self (by simp;omega)])
    simpa[D.clos]using this
 ·rintro⟨h1,h2⟩ q x hq
  have ae:=(List.getElem?_eq_some_iff.1 hq).1
  simp only[List.length_set,List.length_map]at ae
  by_cases e1:k=q
  ·subst e1
   rw[List.getElem?_set_self (by simpa using ae)]at hq
   cases hq
   simp only[D.clos]
   rcases h2 with h2 | h2
   ·exact h2
   ·omega
  ·rw[List.getElem?_set_ne e1]at hq
   by_cases e2:i=q
   ·subst e2
    rw[List.getElem?_set_self (by simpa using ae)]at hq
    cases hq
    exact h1
   ·rw[List.getElem?_set_ne e2,List.getElem?_map]at hq
    cases hz:l[q]? with
    |none=>rw[hz]at hq;cases hq
    |some y=>rw[hz]at hq;cases hq;rfl
@[go_sem] theorem agG(dom:Name->Bool)(hn un:Name)(s:Stk)(j:Nat):D.closL dom (iS hn un s j)=(dom hn&&(dom un||decide (19<=1+j))):=OE dom (aC s) hn un _ _ (lb rfl) (by omega)
theorem IB(f:Name->Name)(l:List V)(i k:Nat)(hn un:Name)(a b:Nat):D.renL f (((List.map D.v l).set i (.msl hn a)).set k (.msl un b))=((List.map D.v l).set i (.msl (f hn) a)).set k (.msl (f un) b):=by
 rw[iE,List.map_set,List.map_set,List.map_map]
 rfl
@[go_sem] theorem Sg(f:Name->Name)(hn un:Name)(s:Stk)(j:Nat):D.renL f (iS hn un s j)=iS (f hn) (f un) s j:=IB _ _ _ _ _ _ _ _
@[go_sem] theorem agH(hn un:Name)(s:Stk)(j:Nat):(iS hn un s j).take 19=iS hn un s j:=List.take_of_length_le (by rw[HS];exact Nat.le_refl _)
@[go_sem] theorem agF(hn un:Name)(s:Stk)(j:Nat):(iS hn un s j).drop 19=[]:=List.drop_of_length_le (by rw[HS];exact Nat.le_refl _)
def ff(s:Stk)(j z:Nat):List D:=((List.map D.v (aC s)).set 0 (.msl [12,0] s.ho.length)).set (1+j) (if j<z then .msl [99,0] (s.un.get j).length else .v (rowP (s.un.get j)))
@[go_sem] theorem rz(s:Stk)(j z:Nat):(ff s j z).length=19:=by
  unfold ff;rw[List.length_set,nF];rfl
@[go_sem] theorem agK(s:Stk)(j z:Nat):(ff s j z).take 19=ff s j z:=List.take_of_length_le (by rw[rz];exact Nat.le_refl _)
@[go_sem] theorem agI(s:Stk)(j z:Nat):(ff s j z).drop 19=[]:=List.drop_of_length_le (by rw[rz];exact Nat.le_refl _)
theorem B1(s:Stk){j:Nat}(hj:j<6):ff s j 6=iS [12,0] [99,0] s j:=by
 unfold ff iS;rw[if_pos hj]
theorem B2(s:Stk){j:Nat}(hj:j<6):D.msl [12,0] s.ho.length::List.drop 1 (List.map D.v (aC s))=ff s j 0:=
 gK (P:=fun j=>D.msl [12,0] s.ho.length::List.drop 1 (List.map D.v (aC s))=ff s j 0) rfl rfl rfl rfl rfl rfl hj
theorem abW(dom:Name->Bool)(l:List V)(hn:Name)(a:Nat)(hl:0<l.length):D.closL dom ((List.map D.v l).set 0 (.msl hn a))=dom hn:=by
 rw[AZ (qX dom l),List.length_map]
 have :decide (l.length<=0)=false:=decide_eq_false (by omega)
 rw[this,Bool.or_false]
@[go_sem] theorem agJ(dom:Name->Bool)(s:Stk)(j z:Nat):D.closL dom (ff s j z)=(dom [12,0]&&(dom [99,0]||(decide (19<=1+j)||!decide (j<z)))):=by
  by_cases h:j<z
  ·have:=OE dom (aC s) [12,0] [99,0] s.ho.length (s.un.get j).length (i:=0) (k:=1+j) (lb rfl) (by omega)
   unfold ff
   rw[if_pos h,this,decide_eq_true h,ki]
   simp
  ·unfold ff
   rw[if_neg h,decide_eq_false h]
   simp only[Bool.not_false,Bool.or_true,Bool.and_true]
   rw[Bool.eq_iff_iff]
   constructor
   ·intro h1
    have :=Gt.1 h1 0 (.msl [12,0] s.ho.length) (by rw[List.getElem?_set_ne (by omega),List.getElem?_set_self (by exact lb rfl)])
    simpa[D.clos]using this
   ·intro h1
    have h2:=abW dom (aC s) [12,0] s.ho.length (lb rfl)
    rw[h1]at h2
    exact OH rfl h2
theorem HY(s:Stk){i j:Nat}(hi:i<6)(hj:j<6)(h:i≠j):List.take (1+i) (ff s j i)++[D.v (.sl ((s.un.get i).map encPa))]++List.drop (1+i+1) (ff s j i)=ff s j (i+1):=by
 rw[tX (by rw[rz];omega)]
 unfold ff
 have e:(if j<i then D.msl [99,0] (s.un.get j).length else .v (rowP (s.un.get j)))=(if j<i+1 then D.msl [99,0] (s.un.get j).length else .v (rowP (s.un.get j))):=by
  by_cases h1:j<i
  ·rw[if_pos h1,if_pos (by omega)]
  ·rw[if_neg h1,if_neg (by omega)]
 rw[e,List.set_comm _ (D.v (.sl ((s.un.get i).map encPa))) (show 1+j≠1+i by omega),List.set_comm _ (D.v (.sl ((s.un.get i).map encPa))) (show 0≠1+i by omega)]
 congr 2
 exact gK (P:=fun i=>(List.map D.v (aC s)).set (1+i) (D.v (.sl ((s.un.get i).map encPa)))=List.map D.v (aC s)) rfl rfl rfl rfl rfl rfl hi
theorem Sj(s:Stk){j:Nat}(hj:j<6):D.renL (dJ [24,0] [99,0]) (List.take (1+j) (ff s j j)++[D.msl [24,0] (s.un.get j).length]++List.drop (1+j+1) (ff s j j))=ff s j (j+1):=by
 rw[tX (by rw[rz];omega)]
 unfold ff
 rw[List.set_set,IB,if_pos (Nat.lt_succ_self j)]
 have e1:dJ [24,0] [99,0] [12,0]=[12,0]:=by decide
 have e2:dJ [24,0] [99,0] [24,0]=[99,0]:=by decide
 rw[e1,e2]
def ry(s:Stk)(j:Nat):List (Name×O):=[([12,0],.arr 1 (s.ho.map vInt)),([99,0],.arr 2 ((s.un.get j).map encPa))]
def BX(os:List O):List V:=match os with
 |[.box cs]=>(lX cs).getD []
 |_=>[]
def BZ(ds:List D):Nat:=match ds with
 |[.ref _ off]=>off
 |_=>0
noncomputable def B0(j:Nat):CSpec where
 pre os ds:=∃ (l:List V) (off:Nat) (s:Stk),os=[.box (l.map .v)]/\ds=[.ref [0,1] off]/\(l.drop off).take 19=aC s/\kh s
 out os ds:=⟨[],ry (fG (((BX os).drop (BZ ds)).take 19)) j,.agg (iS [12,0] [99,0] (fG (((BX os).drop (BZ ds)).take 19)) j)⟩
noncomputable def yc(j:Nat):Spec:=(B0 j).toSpec
theorem HX(j:Nat){l:List V}{off:Nat}{s:Stk}(h:(l.drop off).take 19=aC s):(B0 j).out [.box (l.map .v)] [.ref [0,1] off]=⟨[],ry s j,.agg (iS [12,0] [99,0] s j)⟩:=by
 have e:fG (((BX [.box (l.map .v)]).drop (BZ [.ref [0,1] off])).take 19)=s:=by
  show fG ((((lX (l.map .v)).getD []).drop off).take 19)=s
  rw[GV,Option.getD_some,h,pC]
 show (⟨[],ry _ j,.agg (iS _ _ _ j)⟩:Out)=_
 rw[e]
theorem Sh(j:Nat){l:List V}{off:Nat}{s:Stk}{obj:Name->Option O}{nm t:Name}(ho:obj nm=some (.box (l.map .v)))(h:(l.drop off).take 19=aC s)(hs:kh s):
 (yc j).app obj t [.ref nm off]=⟨fresh obj t (ry s j)=true,.agg (iS ([12,0]++t) ([99,0]++t) s j),upd (upd obj ([12,0]++t) (some (.arr 1 (s.ho.map vInt)))) ([99,0]++t) (some (.arr 2 ((s.un.get j).map encPa)))⟩:=by
 have hr:reach obj [.ref nm off]=[nm]:=vT.reach (l,off,s) [nm] obj rfl (by simp) ⟨ho,trivial⟩
 have e1:cl obj [.ref nm off]=[.box (l.map .v)]:=by
  unfold cl
  rw[hr]
  simp only[List.map_cons,List.map_nil,cf,ho,O.ren,ub]
 have e2:cO obj [.ref nm off]=[.ref [0,1] off]:=by
  unfold cO
  rw[hr]
  simp[D.renL,D.ren,cin,idx]
 have fZ:shut obj [nm]=true:=by simp[shut,ho,O.clos,qX]
 have bS:D.closL (cj [nm]) [.ref nm off]=true:=by simp[D.closL,D.clos,cj]
 have hp:(B0 j).pre [.box (l.map .v)] [.ref [0,1] off]:=⟨l,off,s,rfl,rfl,h,hs⟩
 have c1:cout [nm] t [12,0]=[12,0]++t:=rfl
 have c2:cout [nm] t [99,0]=[99,0]++t:=rfl
 simp only[yc,CSpec.toSpec,e1,e2,hr,fZ,bS,Bool.true_and,hp,and_true,HX j h,cg]
 simp only[D.ren,Sg,c1,c2,ry,dt,O.ren]
theorem Vp(l:List V):∀ hs,b7 [0] (bT [0] hs) (aW [.box (l.map .v)])=True:=Ro.outC vT (l,0,zS)
attribute [go_sem] ry
noncomputable def Qo:List (Nat×Spec):=[(46,S76g),(36,S77g)]
attribute [go_sem] Qo
theorem adF:∀ f s,tbl Qo f=some s->ak Tryd.prog f s:=tc XJ<|tc XI<|tn
set_option maxHeartbeats 4000000 in
theorem XS{j:Nat}(hj:j<6):ak Tryd.prog 37 (yc j):=by
 refine mV (nt:=29) (rs:=[.cell 2 39]) Tryd.func37 rfl (by rfl) (by kernel_rfl) (iN Tryd.func37 rfl (by kernel_rfl)) (oN _ (by decide)) ?_
 rintro os ds ⟨l,off,s,rfl,rfl,kI,bm⟩
 rw[HX j kI]
 refine⟨lb rfl,jm ?_⟩
 have hΓ:=adF
 have hO:=Vp l
 have h0:aW [.box (l.map .v)] [0,1]=some (.box (l.map .v)):=rfl
 generalize aW [.box (l.map .v)]=H at *
 simp only[ft,Nat.zero_add]at h0 |-
 have Mb:=bm.1
 have hA:=Oq kI
 have hB:=Gl kI (show 0<19 by omega)
 have hL:=Gj kI
 have lx:(l.map D.v).getD off .any=.v (gv s.ho):=hB
 repeat refine sq ?_
 refine rx hΓ [0,2] [[2,0],[12,0],[99,0]] (fun K' hK=>by simp only[go_sem,hO,h0];(repeat (refine⟨ah,?_⟩));exact hK _ (by simp only[go_sem,hO,h0]) (by simp only[go_sem,hO,h0]<;>rfl)) ?_
 repeat refine sq ?_
 refine rx hΓ [0,2,3] [[2,0],[3,0],[12,0],[99,0]] (fun K' hK=>by simp only[go_sem,hO,h0,hA,hB,hL,List.length_map,List.append_nil,ki];(repeat (refine⟨ah,?_⟩));exact hK _ (by simp only[go_sem,hO,h0,hA,hB,hL,List.length_map,List.append_nil,ki]) (by simp only[go_sem,hO,h0,hA,hB,hL,List.length_map,List.append_nil,ki]<;>rfl)) ?_
 repeat refine sq ?_
 refine rx hΓ [0,2,3] [[2,0],[3,0],[12,0],[99,0]] (fun K' hK=>by simp only[go_sem,hO,h0,Nat.add_zero,lx,bm.1,B2 s hj,Nat.not_lt_zero,decide_false,Bool.not_false,Bool.or_true];(repeat (refine⟨ah,?_⟩));exact hK _ (by simp only[go_sem,hO,h0,Nat.add_zero,lx,bm.1,B2 s hj,Nat.not_lt_zero,decide_false,Bool.not_false,Bool.or_true]) (by simp only[go_sem,hO,h0,Nat.add_zero,lx,bm.1,B2 s hj,Nat.not_lt_zero,decide_false,Bool.not_false,Bool.or_true]<;>rfl)) ?_
 refine aL (Rr [99,0] 2 rfl [0,2,3] [[2,0],[3,0],[12,0],[99,0]] ?_ rfl) ?_
 ·simp only[go_sem,hO,h0]
 simp only[go_sem,hO,h0]
 repeat refine sq ?_
 refine rx hΓ [0,2,3,14] [[2,0],[3,0],[12,0],[99,0]] (fun K' hK=>by simp only[go_sem,hO,h0];(repeat (refine⟨ah,?_⟩));exact hK _ (by simp only[go_sem,hO,h0]) (by simp only[go_sem,hO,h0]<;>rfl)) ?_
 repeat refine sq ?_
 refine aN ?_
 repeat refine sq ?_
 refine cN (fun z:Nat=>[(14,⟨true,.v (vInt z)⟩)]) (fun z=>[([3,0],.box (ff s j z)),([99,0],.arr 2 (uJ s j z))]) (fun z=>z<=6) (fun z=>6-z) 0 ?_ ?_ ?_ ?_
 ·exact Nat.zero_le _
 ·rfl
 ·rfl
 rintro i hi
 simp only[go_sem]
 repeat refine sq ?_
 refine rx hΓ [0,2,3,14,15] [[2,0],[3,0],[12,0],[99,0]] (fun K' hK=>by simp only[go_sem,hO,h0];(repeat (refine⟨ah,?_⟩));exact hK _ (by simp only[go_sem,hO,h0]) (by simp only[go_sem,hO,h0]<;>rfl)) ?_
 repeat refine sq ?_
 refine au rfl rfl (fun hb=>?_) (fun hb=>?_)
 ·have ae:i<6:=by have hq:(i:Int)<6:=(by simpa using hb);omega
  have ai:(i:Int)<6:=by omega
  clear hb
  have hC:=On kI ae
  have jw:=bm.2 i ae
  repeat refine sq ?_
  refine ax ?_
  repeat refine sq ?_
  refine aN ?_
  repeat refine sq ?_
  refine rx hΓ [0,2,3,4,14] [[2,0],[3,0],[12,0],[99,0]] (fun K' hK=>by simp only[go_sem,hO,h0,Int.toNat_natCast,Int.natCast_nonneg,ai];(repeat (refine⟨ah,?_⟩));exact hK _ (by simp only[go_sem,hO,h0,Int.toNat_natCast,Int.natCast_nonneg,ai]) (by simp only[go_sem,hO,h0,Int.toNat_natCast,Int.natCast_nonneg,ai]<;>rfl)) ?_
  repeat refine sq ?_
  refine aP hΓ fun K' hK=>?_
  simp only[go_sem,hO,h0,Int.toNat_natCast,Int.natCast_nonneg,ai,hC,jw,Int.toNat_natCast,Int.natCast_nonneg,ai]
  repeat (refine⟨ah,?_⟩)
  refine hK _ ?_
  clear K' hK
  refine aL (nw [0,2,3,14] [[2,0],[3,0],[12,0],[24,0],[99,0]] ?_ rfl) ?_
  ·simp only[go_sem,hO,h0]
  simp only[go_sem,hO,h0]
  refine aL (σ':=aT 29 [0] H [(0,⟨true,.ref [0,1] off⟩),(2,⟨true,.ref [2,0] 0⟩),(3,⟨true,.ref [3,0] 0⟩),(14,⟨true,.v (vInt i)⟩)] ([([2,0],.box [.nilsl,.nilsl,.nilsl,.nilsl,.nilsl,.nilsl,.nilsl,.v (.int .i64 0),.v (.int .i64 0),.v (.int .i64 0),.v (.int .i64 0),.v (.int .i64 0),.v (.int .i64 0),.v (.int .i64 0),.v (.int .i64 0),.v (.int .i64 0),.v (.int .i64 0),.v (.int .i64 0),.v (.int .i64 0)])]++[([3,0],.box (ff s j (i+1))),([12,0],.arr 1 (s.ho.map vInt)),([99,0],.arr 2 (uJ s j (i+1)))])) (Rs (i=j) (fun iG=>?_) (fun iG=>?_)) ?_
  ·subst iG
   refine Rq (p:=[0]) [24,0] [99,0] [0,2,3,14] [[2,0],[3,0],[12,0],[99,0]] rfl rfl ?_ ?_ ?_ ?_ ?_
   ·simp only[hO]
   ·simp only[go_sem]
   ·simp only[go_sem,E.ren,D.ren,dJ]
   ·simp only[go_sem,O.ren,Sj s ae,RD,dJ]
   ·simp only[go_sem]
  ·refine ey [3,0] [24,0] (1+i) _ _ _ _ rfl (VF (by show 1+i<(ff s j i).length;rw[rz];omega)) rfl (by simp only[List.length_map]) [0,2,3,14] [[2,0],[3,0],[12,0],[99,0]] ?_ ?_
   ·simp only[go_sem,hO,h0,JG (show 1+i<(ff s j i).length by rw[rz];omega),HY s ae hj iG,<-Hz s iG]
   ·simp only[go_sem,hO,h0,JG (show 1+i<(ff s j i).length by rw[rz];omega),HY s ae hj iG,<-Hz s iG]
  simp only[go_sem]
  refine kS [0,2,3,14] [[2,0],[3,0],[12,0],[99,0]] ?_ ?_
  ·simp only[go_sem,hO,h0]
  simp only[go_sem,hO,h0]
  repeat refine sq ?_
  refine aP hΓ fun K' hK=>?_
  simp only[go_sem,hO,h0,Int.toNat_natCast,Int.natCast_nonneg,ai]
  repeat (refine⟨ah,?_⟩)
  refine hK _ ?_
  clear K' hK
  simp only[go_sem]
  refine⟨i+1,ae,by(show 6-(i+1)<6-i;omega),?_⟩
  refine bk [0,2,3,14] [[2,0],[3,0],[12,0],[99,0]] ?_ ?_
  ·simp only[go_sem,aF ae (lb rfl:(6:Nat)<=maxLen),Int.natCast_add,Int.natCast_one,hO,h0]
  ·simp only[go_sem,aF ae (lb rfl:(6:Nat)<=maxLen),Int.natCast_add,Int.natCast_one,hO,h0]
 ·have bb:i=6:=by
   have :¬ (i:Int)<6:=by simpa using hb
   omega
  clear hb
  subst bb
  repeat refine sq ?_
  refine cr ?_
  simp only[go_sem]
  refine kS [2,3] [[2,0],[3,0],[12,0],[99,0]] ?_ ?_
  ·simp only[go_sem,hO,h0]
  simp only[go_sem,hO,h0]
  repeat refine sq ?_
  refine rx hΓ [2] [[2,0],[12,0],[99,0]] (fun K' hK=>by simp only[go_sem,hO,h0,B1 s hj,BL s hj];(repeat (refine⟨ah,?_⟩));exact hK _ (by simp only[go_sem,hO,h0,B1 s hj,BL s hj]) (by simp only[go_sem,hO,h0,B1 s hj,BL s hj]<;>rfl)) ?_
  refine ar ?_
  simp only[go_sem,hO,h0]
  skip
structure R2 where
 d:Dk
 j:Nat
 i:Nat
 hj:j<6
def cZ(d:Dk)(j:Nat)(h u:Name):List D:=bQ d j (.msl h d.now.ho.length) u (d.now.un.get j).length (d.now.se.get j)
def km:Ro R2 where
 m:=3
 fam a Ls:=[.box (cZ a.d a.j (Ls.getD 1 []) (Ls.getD 2 [])),.arr 1 (a.d.now.ho.map vInt),.arr 2 ((a.d.now.un.get a.j).map encPa)]
 args a Ls:=[.ref (Ls.getD 0 []) (20+a.i*21+1)]
 ok a:=a.i<2/\kh (a.d.pg a.i).st
 val a:=.v (n8 (a.d.pg a.i).st)
theorem wu{Ls:List Name}(h:Ls.length=3):∃ a b c,Ls=[a,b,c]:=by
 match Ls,h with
 |[a,b,c],_=>exact⟨a,b,c,rfl⟩
theorem O2(f:Name->Name)(d:Dk)(j:Nat)(h u:Name):D.renL f (cZ d j h u)=cZ d j (f h) (f u):=by
 unfold cZ bQ
 rw[iE,List.map_set,List.map_set,List.map_set,List.map_map]
 rfl
theorem xQ(d:Dk)(j:Nat)(h u:Name){i:Nat}(hi:i<2)(hj:j<6):List.take 19 (List.drop (20+i*21+1) (cZ d j h u))=List.map D.v (aC (d.pg i).st):=by
 unfold cZ bQ
 rw[List.drop_set_of_lt (by omega),List.drop_set_of_lt (by omega),List.drop_set_of_lt (by omega)]
 exact N6 d hi
theorem Vw(d:Dk){j:Nat}(h u:Name)(hj:j<6):cU (cZ d j h u)=[h,u]:=
 gK (P:=fun j=>cU (cZ d j h u)=[h,u]) rfl rfl rfl rfl rfl rfl hj
theorem BW:km.Ok where
 len:=fun _ _ _=>rfl
 renF:=fun a f Ls h=>by
  obtain⟨x,y,z,rfl⟩:=wu h
  simp only[km,List.map_cons,List.map_nil,O.ren,O2,List.getD_cons_zero,List.getD_cons_succ]
 renA:=fun a f Ls h=>by
  obtain⟨x,y,z,rfl⟩:=wu h
  rfl
 reach:=fun a Ls obj h hn hF=>by
  obtain⟨x,y,z,rfl⟩:=wu h
  obtain⟨h1,h2,h3,_⟩:=hF
  simp only[List.nodup_cons,List.mem_cons,List.not_mem_nil,or_false,not_or]at hn
  obtain⟨⟨n1,n2⟩,n3,_⟩:=hn
  have en:cU (km.args a [x,y,z])=[x]:=rfl
  unfold Go.Eng.reach
  rw[en]
  show dO obj (2995+1+1+1+1+1) [x] []=[x,y,z]
  have hb:cU (cZ a.d a.j y z)=[y,z]:=Vw a.d y z a.hj
  simp only[List.getD_cons_zero,List.getD_cons_succ]at h1
  simp[dO,ic,h1,h2,h3,hb,my,Ne.symm n1,Ne.symm n2,Ne.symm n3]
 closF:=fun a dom Ls h hd o ho=>by
  obtain⟨x,y,z,rfl⟩:=wu h
  have hx:=hd x (by simp)
  have hy:=hd y (by simp)
  have hz:=hd z (by simp)
  simp only[km,List.mem_cons,List.not_mem_nil,or_false]at ho
  rcases ho with rfl | rfl | rfl
  ·simp only[O.clos,cZ,OZ,List.getD_cons_zero,List.getD_cons_succ,D.clos,hy,hz,Bool.true_and,Bool.true_or]
  ·rfl
  ·rfl
 closA:=fun a dom Ls h hd=>by
  obtain⟨x,y,z,rfl⟩:=wu h
  have hx:=hd x (by simp)
  simp only[km,D.closL,D.clos,List.getD_cons_zero,hx,Bool.and_self]
 det:=fun a b h1 h2 h3 h4=>by
  have e1:cZ a.d a.j [1,1] [2,1]=cZ b.d b.j [1,1] [2,1]:=O.box.inj (List.cons.inj h3).1
  have e2:20+a.i*21+1=20+b.i*21+1:=(D.ref.inj (List.cons.inj h4).1).2
  have e3:a.i=b.i:=by omega
  have e4:=xQ a.d a.j [1,1] [2,1] h1.1 a.hj
  rw[e1,e3,xQ b.d b.j [1,1] [2,1] h2.1 b.hj]at e4
  have e5:aC (b.d.pg b.i).st=aC (a.d.pg b.i).st:=CX e4
  have e6:(b.d.pg b.i).st=(a.d.pg b.i).st:=by rw[<-pC (b.d.pg b.i).st,e5,pC]
  simp only[km,e3,e6]
 vcl:=fun _ _=>rfl
 vren:=fun _ _=>rfl
noncomputable def S59r:Spec:=km.c.toSpec
theorem O3(d:Dk){j i k:Nat}(h u:Name)(hi:i<2)(hj:j<6)(hk:k<19):(cZ d j h u).getD (20+i*21+1+k) .any=.v ((aC (d.pg i).st).getD k default):=by
 have hc:=xQ d j h u hi hj
 have hlen:(cZ d j h u).length=63:=na _ _ _ _ _ _
 have e:(cZ d j h u)[20+i*21+1+k]?=(List.map D.v (aC (d.pg i).st))[k]?:=by
  rw[<-hc,List.getElem?_take,if_pos hk,List.getElem?_drop]
 rw[List.getD_eq_getElem?_getD,e,List.getElem?_map,List.getElem?_eq_getElem (show k<(aC (d.pg i).st).length by rw[ki];exact hk)]
 rw[j0 (show k<(aC (d.pg i).st).length by rw[ki];exact hk)]
 rfl
set_option maxHeartbeats 4000000 in
theorem XR:ak Tryd.prog 37 S59r:=by
 refine Ro.sound BW (rs:=[.cell 2 39]) Tryd.func37 Tryd.ntmps37 (by rfl) (by kernel_rfl) (by decide) ⟨_,rfl,?_⟩
 rintro⟨d,j,i0,hj⟩ ⟨lO,bm⟩
 replace lO:i0<2:=lO
 refine⟨lb rfl,?_⟩
 have hΓ:=QR
 have hO:=Ro.outC BW ⟨d,j,i0,hj⟩
 have h0:aW (km.fam ⟨d,j,i0,hj⟩ (LR km.m)) [0,1]=some (.box (cZ d j [1,1] [2,1])):=rfl
 generalize aW (km.fam ⟨d,j,i0,hj⟩ (LR km.m))=H at *
 obtain⟨s,im⟩:∃ s,s=(d.pg i0).st:=⟨_,rfl⟩
 have ha:km.args ⟨d,j,i0,hj⟩ (LR km.m)=[.ref [0,1] (20+i0*21+1)]:=rfl
 have hv:km.val ⟨d,j,i0,hj⟩=.v (n8 s):=by rw[im];rfl
 rw[ha,hv]
 simp only[ft,Nat.zero_add]at h0 |-
 replace bm:kh s:=by rw[im];exact bm
 have hA:List.take 19 (List.drop (20+i0*21+1) (cZ d j [1,1] [2,1]))=List.map D.v (aC s):=by rw[im];exact xQ d j _ _ lO hj
 have hlen:(cZ d j [1,1] [2,1]).length=63:=na _ _ _ _ _ _
 have hL:20+i0*21+1+19<=(cZ d j [1,1] [2,1]).length:=by omega
 have M8:20+i0*21+1<(cZ d j [1,1] [2,1]).length:=by omega
 have lx:(cZ d j [1,1] [2,1]).getD (20+i0*21+1) .any=.v (gv s.ho):=by rw[im];exact O3 d [1,1] [2,1] (k:=0) lO hj (by omega)
 obtain⟨off,uT⟩:∃ off,off=20+i0*21+1:=⟨_,rfl⟩
 have vi:∀ i,i<6->(cZ d j [1,1] [2,1]).getD (off+1+i) .any=.v (rowP (s.un.get i)):=fun i hi=>by
  rw[uT,Nat.add_assoc (20+i0*21+1),im,O3 d [1,1] [2,1] lO hj (show 1+i<19 by omega),dM _ hi]
 rw[<-uT]at hA hL M8 lx |-
 obtain⟨X,hX⟩:∃ X,X=cZ d j [1,1] [2,1]:=⟨_,rfl⟩
 rw[<-hX]at h0 hA hlen hL M8 lx vi
 repeat refine sq ?_
 refine rx hΓ [0,2] [[2,0]] (fun K' hK=>by simp only[go_sem,hO,h0];(repeat (refine⟨ah,?_⟩));exact hK _ (by simp only[go_sem,hO,h0]) (by simp only[go_sem,hO,h0]<;>rfl)) ?_
 repeat refine sq ?_
 refine rx hΓ [0,2,3] [[2,0],[3,0]] (fun K' hK=>by simp only[go_sem,hO,h0,hA,hlen,hL,List.length_map,List.append_nil,ki];(repeat (refine⟨ah,?_⟩));exact hK _ (by simp only[go_sem,hO,h0,hA,hlen,hL,List.length_map,List.append_nil,ki]) (by simp only[go_sem,hO,h0,hA,hlen,hL,List.length_map,List.append_nil,ki]<;>rfl)) ?_
 repeat refine sq ?_
 refine rx hΓ [0,2,3] [[2,0],[3,0]] (fun K' hK=>by simp only[go_sem,hO,h0,Nat.add_zero,lx,bm.1];(repeat (refine⟨ah,?_⟩));exact hK _ (by simp only[go_sem,hO,h0,Nat.add_zero,lx,bm.1]) (by simp only[go_sem,hO,h0,Nat.add_zero,lx,bm.1]<;>rfl)) ?_
 repeat refine sq ?_
 refine rx hΓ [0,2,3,14] [[2,0],[3,0]] (fun K' hK=>by simp only[go_sem,hO,h0];(repeat (refine⟨ah,?_⟩));exact hK _ (by simp only[go_sem,hO,h0]) (by simp only[go_sem,hO,h0]<;>rfl)) ?_
 repeat refine sq ?_
 refine aN ?_
 repeat refine sq ?_
 refine cN (fun z:Nat=>[(14,⟨true,.v (vInt z)⟩)]) (fun z=>[]) (fun z=>z<=6) (fun z=>6-z) 0 ?_ ?_ ?_ ?_
 ·exact Nat.zero_le _
 ·rfl
 ·rfl
 rintro i hi
 simp only[go_sem]
 repeat refine sq ?_
 refine rx hΓ [0,2,3,14,15] [[2,0],[3,0]] (fun K' hK=>by simp only[go_sem,hO,h0];(repeat (refine⟨ah,?_⟩));exact hK _ (by simp only[go_sem,hO,h0]) (by simp only[go_sem,hO,h0]<;>rfl)) ?_
 repeat refine sq ?_
 refine au rfl rfl (fun hb=>?_) (fun hb=>?_)
 ·have ae:i<6:=by have hq:(i:Int)<6:=(by simpa using hb);omega
  have ai:(i:Int)<6:=by omega
  clear hb
  have hC:=vi i ae
  have jw:=bm.2 i ae
  repeat refine sq ?_
  refine ax ?_
  repeat refine sq ?_
  refine aN ?_
  repeat refine sq ?_
  refine rx hΓ [0,2,3,4,14] [[2,0],[3,0]] (fun K' hK=>by simp only[go_sem,hO,h0,Int.toNat_natCast,Int.natCast_nonneg,ai];(repeat (refine⟨ah,?_⟩));exact hK _ (by simp only[go_sem,hO,h0,Int.toNat_natCast,Int.natCast_nonneg,ai]) (by simp only[go_sem,hO,h0,Int.toNat_natCast,Int.natCast_nonneg,ai]<;>rfl)) ?_
  repeat refine sq ?_
  refine aP hΓ fun K' hK=>?_
  simp only[go_sem,hO,h0,Int.toNat_natCast,Int.natCast_nonneg,ai,hC,jw,tW s ae,Int.toNat_natCast,Int.natCast_nonneg,ai]
  repeat (refine⟨ah,?_⟩)
  refine hK _ ?_
  clear K' hK
  simp only[go_sem]
  refine kS [0,2,3,14] [[2,0],[3,0]] ?_ ?_
  ·simp only[go_sem,hO,h0]
  simp only[go_sem,hO,h0]
  repeat refine sq ?_
  refine aP hΓ fun K' hK=>?_
  simp only[go_sem,hO,h0,Int.toNat_natCast,Int.natCast_nonneg,ai]
  repeat (refine⟨ah,?_⟩)
  refine hK _ ?_
  clear K' hK
  simp only[go_sem]
  refine⟨i+1,ae,by(show 6-(i+1)<6-i;omega),?_⟩
  refine bk [0,2,3,14] [[2,0],[3,0]] ?_ ?_
  ·simp only[go_sem,aF ae (lb rfl:(6:Nat)<=maxLen),Int.natCast_add,Int.natCast_one,tW s ae,hO,h0]
  ·simp only[go_sem,aF ae (lb rfl:(6:Nat)<=maxLen),Int.natCast_add,Int.natCast_one,tW s ae,hO,h0]
 ·have bb:i=6:=by
   have :¬ (i:Int)<6:=by simpa using hb
   omega
  clear hb
  subst bb
  repeat refine sq ?_
  refine cr ?_
  simp only[go_sem]
  refine kS [2,3] [[2,0],[3,0]] ?_ ?_
  ·simp only[go_sem,hO,h0]
  simp only[go_sem,hO,h0]
  repeat refine sq ?_
  refine rx hΓ [2] [[2,0]] (fun K' hK=>by simp only[go_sem,hO,h0,List.append_nil];(repeat (refine⟨ah,?_⟩));exact hK _ (by simp only[go_sem,hO,h0,List.append_nil]) (by simp only[go_sem,hO,h0,List.append_nil]<;>rfl)) ?_
  refine aL (cG [2,0] (aC s) rfl [2] [[2,0]] ?_ rfl) ?_
  ·simp only[go_sem,hO,h0]
  simp only[go_sem,hO,h0]
  refine ar ?_
  simp only[go_sem,hO,h0]
  exact .inr trivial
theorem TA{d:Dk}{j i:Nat}(hj:j<6)(hi:i<2)(hs:kh (d.pg i).st){obj:Name->Option O}{t b h u:Name}(hn:[b,h,u].Nodup)(hb:obj b=some (.box (cZ d j h u)))
 (hh:obj h=some (.arr 1 (d.now.ho.map vInt))) (hu:obj u=some (.arr 2 ((d.now.un.get j).map encPa))):
 S59r.app obj t [.ref b (20+i*21+1)]=⟨True,.v (.agg (aC (d.pg i).st)),obj⟩:=
 Ro.c_app BW (a:=⟨d,j,i,hj⟩) ⟨hi,hs⟩ (Ls:=[b,h,u]) rfl hn ⟨hb,hh,hu,trivial⟩
theorem ack(d:Dk){j:Nat}(h u:Name)(hj:j<6):List.take 1 (List.map D.v (an d))++iS h u d.now j++List.drop 20 (List.map D.v (an d))=cZ d j h u:=
 gK (P:=fun j=>List.take 1 (List.map D.v (an d))++iS h u d.now j++List.drop 20 (List.map D.v (an d))=cZ d j h u) rfl rfl rfl rfl rfl rfl hj
theorem Rc{α:Type}{C W:List α}{a n:Nat}(h:List.take n (List.drop a C)=W)(hn:a+n<=C.length):List.take a C++W++List.drop (a+n) C=C:=by
 rw[<-h,List.append_assoc,<-List.drop_drop,List.take_append_drop,List.take_append_drop]
theorem acj(d:Dk){j i:Nat}(h u:Name)(hi:i<2)(hj:j<6):List.take (20+i*21+1) (cZ d j h u)++List.map D.v (aC (d.pg i).st)++List.drop (20+i*21+1+19) (cZ d j h u)=cZ d j h u:=
 Rc (xQ d j h u hi hj) (by rw[show (cZ d j h u).length=63 from na _ _ _ _ _ _];omega)
@[go_sem] theorem ai2(d:Dk)(j:Nat)(h u:Name):(cZ d j h u).length=63:=na _ _ _ _ _ _
@[go_sem] theorem ai5(d:Dk)(j:Nat)(h u:Name):(cZ d j h u).take 63=cZ d j h u:=aci _ _ _ _ _ _
@[go_sem] theorem ai3(d:Dk)(j:Nat)(h u:Name):(cZ d j h u).drop 63=[]:=acg _ _ _ _ _ _
@[go_sem] theorem ai4(dom:Name->Bool)(d:Dk)(j:Nat)(h u:Name):D.closL dom (cZ d j h u)=(dom h&&(dom u||decide (63<=2+j))):=OZ _ _ _ _ _ _ _
attribute [go_sem] O2
noncomputable def G2(j:Nat):Spec:=Spec.ite (fun t _=>decide (t.headD 0=5)) (yc j) S59r
theorem XT{j:Nat}(hj:j<6):ak Tryd.prog 37 (G2 j):=(XS hj).ite _ XR (by decide)
attribute [go_sem] G2
noncomputable def Qn(j:Nat):List (Nat×Spec):=[(37,G2 j)]
attribute [go_sem] Qn
theorem adE{j:Nat}(hj:j<6):∀ f s,tbl (Qn j) f=some s->ak Tryd.prog f s:=tc (XT hj)<|tn
noncomputable def Bt(j:Nat):NSpec:=n1 dE (fun d=>eO d) (fun d=>[([22,0],.box (cZ d j [12,0,5,0] [99,0,5,0])),([12,0,5,0],.arr 1 (d.now.ho.map vInt)),([99,0,5,0],.arr 2 ((d.now.un.get j).map encPa))]) (fun _=>.ref [22,0] 0)
noncomputable def Br(j:Nat):Spec:=(Bt j).toSpec
attribute [go_sem] Bt Br
set_option maxHeartbeats 4000000 in
theorem LA(j:Nat)(hj:j<6):ak Tryd.prog 43 (Br j):=by
 refine Jx (nt:=23) (rs:=[.tmp 2]) Tryd.func43 rfl (by rfl) (by kernel_rfl) (by kernel_rfl) (by decide) ?_
 intro xs hp
 obtain⟨d,rfl,hp,pj,jf⟩:=JD hp
 replace pj:(Bt j).new _=_:=pj
 replace jf:(Bt j).d _=_:=jf
 rw[pj,jf]
 clear pj jf
 refine⟨lb rfl,?_⟩
 have hP:=be
 simp only[iI,iB,eH,iI,iB,uM,eH,wE,ll,iX,r9,dE,nM,DC,iC,iF,encPa,n8,xD,encDk,fX,List.map_cons,List.map_nil,ft,Nat.zero_add]
 have hΓ:=adE hj
 have hs:eO d:=hp
 have qo:=hs.now
 have Fo:∀ (F:Name->Option O),F [1,0]=some (.box ((an d).map .v))->(yc j).app (fun nm=>if own [0] nm=true then F nm else none) [5,0] [.ref [1,0] 1]=⟨fresh (fun nm=>if own [0] nm=true then F nm else none) [5,0] (ry d.now j)=true,.agg (iS [12,0,5,0] [99,0,5,0] d.now j),upd (upd (fun nm=>if own [0] nm=true then F nm else none) [12,0,5,0] (some (.arr 1 (d.now.ho.map vInt)))) [99,0,5,0] (some (.arr 2 ((d.now.un.get j).map encPa)))⟩:=fun F h=>Sh j (s:=d.now) (l:=an d) (off:=1) (by rw[<-h];rfl) (vq d) qo
 repeat refine sq ?_
 refine rx hΓ [1] [[1,0],[12,0,5,0],[99,0,5,0]] (fun K' hK=>by simp only[go_sem];(repeat (refine⟨ah,?_⟩));exact hK _ (by simp only[go_sem]) (by simp only[go_sem]<;>rfl)) ?_
 repeat refine sq ?_
 refine rx hΓ [1] [[1,0],[12,0,5,0],[99,0,5,0]] (fun K' hK=>by simp only[go_sem,Fo,ack d [12,0,5,0] [99,0,5,0] hj];(repeat (refine⟨ah,?_⟩));exact hK _ (by simp only[go_sem]) (by simp only[go_sem]<;>rfl)) ?_
 repeat refine sq ?_
 refine rx hΓ [1,7] [[1,0],[12,0,5,0],[99,0,5,0]] (fun K' hK=>by simp only[go_sem];(repeat (refine⟨ah,?_⟩));exact hK _ (by simp only[go_sem]) (by simp only[go_sem]<;>rfl)) ?_
 repeat refine sq ?_
 refine aN ?_
 repeat refine sq ?_
 refine cN (fun z:Nat=>[(7,⟨true,.v (vInt z)⟩)]) (fun z=>[]) (fun z=>z<=2) (fun z=>2-z) 0 ?_ ?_ ?_ ?_
 ·exact Nat.zero_le _
 ·rfl
 ·rfl
 rintro i hi
 simp only[go_sem]
 repeat refine sq ?_
 refine rx hΓ [1,7,8] [[1,0],[12,0,5,0],[99,0,5,0]] (fun K' hK=>by simp only[go_sem];(repeat (refine⟨ah,?_⟩));exact hK _ (by simp only[go_sem]) (by simp only[go_sem]<;>rfl)) ?_
 repeat refine sq ?_
 refine au rfl rfl (fun hb=>?_) (fun hb=>?_)
 ·have ae:i<2:=by have hq:(i:Int)<2:=(by simpa using hb);omega
  have ai:(i:Int)<2:=by omega
  clear hb
  have Fm:∀ (F:Name->Option O) (t:Name),F [1,0]=some (.box (cZ d j [12,0,5,0] [99,0,5,0]))->F [12,0,5,0]=some (.arr 1 (d.now.ho.map vInt))->F [99,0,5,0]=some (.arr 2 ((d.now.un.get j).map encPa))->S59r.app (fun nm=>if own [0] nm=true then F nm else none) t [.ref [1,0] (20+i*21+1)]=⟨True,.v (.agg (aC (d.pg i).st)),fun nm=>if own [0] nm=true then F nm else none⟩:=fun F t h1 h2 h3=>TA (b:=[1,0]) (h:=[12,0,5,0]) (u:=[99,0,5,0]) hj ae (hs.pg i ae) (by decide) (by rw[<-h1];rfl) (by rw[<-h2];rfl) (by rw[<-h3];rfl)
  repeat refine sq ?_
  refine ax ?_
  repeat refine sq ?_
  refine aN ?_
  repeat refine sq ?_
  refine rx hΓ [1,3,7] [[1,0],[12,0,5,0],[99,0,5,0]] (fun K' hK=>by simp only[go_sem,Int.toNat_natCast,Int.natCast_nonneg,ai];(repeat (refine⟨ah,?_⟩));exact hK _ (by simp only[go_sem]) (by simp only[go_sem]<;>rfl)) ?_
  repeat refine sq ?_
  refine aP hΓ fun K' hK=>?_
  simp only[go_sem,Int.toNat_natCast,Int.natCast_nonneg,ai,Fm,acj d [12,0,5,0] [99,0,5,0] ae hj,Int.toNat_natCast,Int.natCast_nonneg,ai]
  repeat (refine⟨ah,?_⟩)
  refine hK _ ?_
  clear K' hK
  simp only[go_sem]
  refine kp [1,7] [[1,0],[12,0,5,0],[99,0,5,0]] ?_
  repeat refine sq ?_
  refine aP hΓ fun K' hK=>?_
  simp only[go_sem,Int.toNat_natCast,Int.natCast_nonneg,ai]
  repeat (refine⟨ah,?_⟩)
  refine hK _ ?_
  clear K' hK
  simp only[go_sem]
  refine⟨i+1,ae,by(show 2-(i+1)<2-i;omega),?_⟩
  refine bk [1,7] [[1,0],[12,0,5,0],[99,0,5,0]] ?_ ?_
  ·simp only[go_sem,aF ae (lb rfl:(2:Nat)<=maxLen),Int.natCast_add,Int.natCast_one]
  ·simp only[go_sem,aF ae (lb rfl:(2:Nat)<=maxLen),Int.natCast_add,Int.natCast_one]
 ·have bb:i=2:=by
   have :¬ (i:Int)<2:=by simpa using hb
   omega
  clear hb
  subst bb
  repeat refine sq ?_
  refine cr ?_
  simp only[go_sem]
  refine kp [1] [[1,0],[12,0,5,0],[99,0,5,0]] ?_
  repeat refine sq ?_
  refine rx hΓ [2] [[22,0],[12,0,5,0],[99,0,5,0]] (fun K' hK=>by simp only[go_sem,List.append_nil];(repeat (refine⟨ah,?_⟩));exact hK _ (by simp only[go_sem]) (by simp only[go_sem]<;>rfl)) ?_
  refine ar ?_
  simp only[go_sem]
  skip
noncomputable def P116:PSpec:=p1 iI (fun _=>True) (fun _=>.bool false) true
noncomputable def S116:Spec:=P116.toSpec
attribute [go_sem] P116 S116
theorem T8:aR Tryd.prog 80 P116:=by
 refine w1 (rs:=[.tmp 2]) Tryd.func80 Tryd.ntmps80 (by rfl) (by kernel_rfl) (by decide) (fun _ _=>rfl) ⟨_,rfl,lb rfl,fun n hp hw=>?_⟩
 have hP:=be
 simp only[iI]at hw |-
 have hΓ:=@kq Tryd.prog
 repeat refine sq ?_
 refine rs hΓ [0] [] ?_
 repeat refine sq ?_
 refine rx hΓ [2] [] (fun K' hK=>by simp only[go_sem,bne_self_eq_false];(repeat (refine⟨ob,?_⟩));exact hK _ (by simp only[go_sem]) (by simp only[go_sem]<;>rfl)) ?_
 refine ar ?_
 simp only[go_sem]
 skip
theorem X9:ak Tryd.prog 80 S116:=T8.sound
noncomputable def P100:PSpec:=p1 iI (fun _=>True) (fun _=>.bool false) true
noncomputable def S100:Spec:=P100.toSpec
attribute [go_sem] P100 S100
theorem Uj:aR Tryd.prog 68 P100:=by
 refine w1 (rs:=[.tmp 2]) Tryd.func68 Tryd.ntmps68 (by rfl) (by kernel_rfl) (by decide) (fun _ _=>rfl) ⟨_,rfl,lb rfl,fun n hp hw=>?_⟩
 have hP:=be
 simp only[iI]at hw |-
 have hΓ:=@kq Tryd.prog
 repeat refine sq ?_
 refine rs hΓ [0] [] ?_
 repeat refine sq ?_
 refine rx hΓ [2] [] (fun K' hK=>by simp only[go_sem,bne_self_eq_false];(repeat (refine⟨ob,?_⟩));exact hK _ (by simp only[go_sem]) (by simp only[go_sem]<;>rfl)) ?_
 refine ar ?_
 simp only[go_sem]
 skip
theorem LL:ak Tryd.prog 68 S100:=Uj.sound
noncomputable def Qm:List (Nat×Spec):=[(80,S116),(68,S100)]
theorem adD:∀ f s,tbl Qm f=some s->ak Tryd.prog f s:=tc X9<|tc LL<|tn
attribute [go_sem] Qm
noncomputable def P99:PSpec:=p2 iI iI (fun _ _=>True) (fun a b=>.bool (decide (a<b))) true
noncomputable def S99:Spec:=P99.toSpec
attribute [go_sem] P99 S99
theorem Td:aR Tryd.prog 67 P99:=by
 refine w2 (rs:=[.tmp 4]) Tryd.func67 Tryd.ntmps67 (by rfl) (by kernel_rfl) (by decide) (fun _ _ _=>rfl) ⟨_,rfl,lb rfl,fun a b hp hw=>?_⟩
 have hP:=be
 simp only[iI]at hw |-
 have hΓ:=adD
 repeat refine sq ?_
 refine rs hΓ [0,1] [] ?_
 repeat refine sq ?_
 refine rs hΓ [4] [] ?_
 refine ar ?_
 simp only[go_sem]
 skip
theorem XE:ak Tryd.prog 67 S99:=Td.sound
noncomputable def Ql:List (Nat×Spec):=[(67,S99),(68,S100)]
theorem adC:∀ f s,tbl Ql f=some s->ak Tryd.prog f s:=tc XE<|tc LL<|tn
attribute [go_sem] Ql
def bC(l:List Int)(x:Int):Nat:=(l.takeWhile fun y=>decide (y<x)).length
def bu(l:List Int)(x:Int):Bool:=l.contains x
theorem VE{i j:Nat}(hi:i<=maxLen)(hj:j<=maxLen):IntKind.i64.wrap ((IntKind.u64.wrap (IntKind.i64.wrap ((i:Int)+(j:Int)))).fdiv (2 ^ min (Int.toNat 1) 64))=(((i+j) / 2:Nat):Int):=by
 unfold maxLen at hi hj
 have h1:min (Int.toNat 1) 64=1:=by decide
 have h2:IntKind.u64.wrap (IntKind.i64.wrap ((i:Int)+(j:Int)))=((i+j:Nat):Int):=by
  rw[IntKind.wrap_u64,IntKind.wrap_i64]
  omega
 rw[h1,h2]
 have h3:(((i+j:Nat):Int)).fdiv (2 ^ 1)=(((i+j) / 2:Nat):Int):=by
  rw[Int.fdiv_eq_ediv_of_nonneg _ (by decide)]
  omega
 rw[h3,wrap_i64 (by omega) (by omega)]
theorem VI{l:List Int}{x:Int}{i:Nat}(hi:i<=l.length)(h1:∀ k (h:k<l.length),k<i->l[k] <x)(h2:∀ k (h:k<l.length),i<=k->x<=l[k]):bC l x=i:=by
 unfold bC
 induction l generalizing i with
 |nil=>simp at hi |-;omega
 |cons a r ih=>
  cases i with
  |zero=>
   have :=h2 0 (by simp) (Nat.le_refl _)
   simp only[List.getElem_cons_zero]at this
   have hd:decide (a<x)=false:=by simp;omega
   simp[hd]
  |succ i=>
   have :=h1 0 (by simp) (by omega)
   simp only[List.getElem_cons_zero]at this
   have hd:decide (a<x)=true:=by simp;omega
   simp only[List.takeWhile_cons,hd,if_true,List.length_cons]
   rw[ih (by simpa using hi) (fun k hk jV=>by have:=h1 (k+1) (by simpa using hk) (by omega);simpa using this) (fun k hk jV=>by have:=h2 (k+1) (by simpa using hk) (by omega);simpa using this)]
theorem aaj{l:List Int}{x:Int}{i:Nat}(hs:l.Pairwise (· < ·))(hi:i<l.length)(h1:∀ k (h:k<l.length),k<i->l[k] <x)(h2:∀ k (h:k<l.length),i<=k->x<=l[k]):bu l x=(l[i]==x):=by
 unfold bu
 rw[Bool.eq_iff_iff]
 simp only[List.contains_iff_mem,beq_iff_eq]
 constructor
 ·intro h
  obtain⟨k,hk,e⟩:=List.getElem_of_mem h
  rcases Nat.lt_trichotomy k i with h3 | h3 | h3
  ·have:=h1 k hk h3;omega
  ·subst h3;exact e
  ·have:=List.pairwise_iff_getElem.1 hs i k hi hk h3
   have :=h2 i hi (Nat.le_refl _)
   omega
 ·rintro rfl;exact List.getElem_mem hi
theorem aai{l:List Int}{x:Int}(h1:∀ k (h:k<l.length),l[k] <x):bu l x=false:=by
 unfold bu
 rw[Bool.eq_false_iff]
 intro h
 obtain⟨k,hk,e⟩:=List.getElem_of_mem (List.contains_iff_mem.1 h)
 have :=h1 k hk
 omega
noncomputable def P52:PSpec:=p2 eH iI (fun l _=>l.Pairwise (· < ·)) (fun l x=>.tup [vInt (bC l x),.bool (bu l x)]) true
noncomputable def S52:Spec:=P52.toSpec
attribute [go_sem] P52 S52
set_option maxRecDepth 10000 in
set_option maxHeartbeats 4000000 in
theorem TG:aR Tryd.prog 42 P52:=by
 refine w2 (rs:=[.tmp 4,.tmp 5]) Tryd.func42 Tryd.ntmps42 (by rfl) (by kernel_rfl) (by decide) (fun _ _ _=>rfl) ⟨_,rfl,lb rfl,fun l x hp hw=>?_⟩
 have hP:=be
 simp only[iI,eH]at hw |-
 have hΓ:=adC
 have hs:l.Pairwise (· < ·):=hp
 have hl:l.length<=maxLen:=by have:=hw.1.1;simpa using this
 repeat refine sq ?_
 refine rs hΓ [0,1] [] ?_
 repeat refine sq ?_
 refine rs hΓ [0,1,6] [] ?_
 repeat refine sq ?_
 refine rs hΓ [0,1,6,7,8] [] ?_
 repeat refine sq ?_
 refine aN ?_
 repeat refine sq ?_
 refine cN (fun ij:Nat×Nat=>[(7,⟨true,.v (vInt ij.1)⟩),(8,⟨true,.v (vInt ij.2)⟩)]) (fun i=>[]) (fun ij=>ij.1<=ij.2/\ij.2<=l.length/\(∀ k (h:k<l.length),k<ij.1->l[k] <x)/\(∀ k (h:k<l.length),ij.2<=k->x<=l[k])) (fun ij=>ij.2-ij.1) (0,l.length) ?_ ?_ ?_ ?_
 ·exact⟨Nat.zero_le _,Nat.le_refl _,fun k h hk=>by omega,fun k h hk=>by omega⟩
 ·rfl
 ·rfl
 rintro⟨i,j⟩ ⟨iG,EE,fD,iH⟩
 simp only[go_sem]
 repeat refine sq ?_
 refine rs hΓ [0,1,6,7,8,15] [] ?_
 repeat refine sq ?_
 refine au rfl rfl (fun hb=>?_) (fun hb=>?_)
 ·have ae:i<j:=by simpa using hb
  repeat refine sq ?_
  refine ax ?_
  repeat refine sq ?_
  refine aN ?_
  repeat refine sq ?_
  refine rx hΓ [0,1,6,7,8,9] [] (fun K' hK=>by simp only[go_sem,VE (show i<=maxLen by omega) (show j<=maxLen by omega)];(repeat (refine⟨ob,?_⟩));exact hK _ (by simp only[go_sem]) (by simp only[go_sem]<;>rfl)) ?_
  obtain⟨h,hh⟩:∃ h,h=(i+j) / 2:=⟨_,rfl⟩
  rw[<-hh]
  have h1:i<=h:=by omega
  have h2:h<j:=by omega
  have h3:h<l.length:=by omega
  have vj:(h:Int)<l.length:=by omega
  repeat refine sq ?_
  refine rx hΓ [0,1,6,7,8,9,27] [] (fun K' hK=>by simp only[go_sem,aJ h3,Int.toNat_natCast,Int.natCast_nonneg,vj];(repeat (refine⟨ob,?_⟩));exact hK _ (by simp only[go_sem]) (by simp only[go_sem]<;>rfl)) ?_
  repeat refine sq ?_
  refine au rfl rfl (fun hb=>?_) (fun hb=>?_)
  ·have hx:l[h] <x:=of_decide_eq_true hb
   repeat refine sq ?_
   refine aP hΓ fun K' hK=>?_
   simp only[go_sem]
   repeat (refine⟨ob,?_⟩)
   refine hK _ ?_
   clear K' hK
   simp only[go_sem]
   refine⟨(h+1,j),⟨by omega,EE,fun k hk Ez=>?_,iH⟩,by omega,?_⟩
   ·rcases Nat.lt_succ_iff_lt_or_eq.1 Ez with h5 | h5
    ·have:=List.pairwise_iff_getElem.1 hs k h hk h3 h5;omega
    ·subst h5;exact hx
   ·refine bk [0,1,6,7,8] [] ?_ ?_
    ·simp only[go_sem,aF h3 hl,Int.natCast_add,Int.natCast_one]
    ·simp only[go_sem,aF h3 hl,Int.natCast_add,Int.natCast_one]
  ·have hx:x<=l[h]:=by
     have :¬ l[h] <x:=of_decide_eq_false hb
     omega
   repeat refine sq ?_
   refine aP hΓ fun K' hK=>?_
   simp only[go_sem]
   repeat (refine⟨ob,?_⟩)
   refine hK _ ?_
   clear K' hK
   simp only[go_sem]
   refine⟨(i,h),⟨by omega,by omega,fD,fun k hk Ez=>?_⟩,by omega,?_⟩
   ·rcases Nat.lt_or_eq_of_le Ez with h5 | h5
    ·have:=List.pairwise_iff_getElem.1 hs h k h3 hk h5;omega
    ·subst h5;exact hx
   ·refine bk [0,1,6,7,8] [] ?_ ?_
    ·simp only[go_sem]
    ·simp only[go_sem]
 ·have ZJ:i=j:=by
    have :¬ i<j:=by simpa using hb
    omega
  subst ZJ
  clear hb
  have sD:=VI EE fD iH
  repeat refine sq ?_
  refine cr ?_
  simp only[go_sem]
  refine kp [0,1,6,7] [] ?_
  repeat refine sq ?_
  rcases Nat.lt_or_ge i l.length with fS | fS
  ·have EG:(i:Int)<l.length:=by omega
   have EL:=aaj hs fS fD iH
   have hg:=aJ (f:=vInt) fS
   repeat refine sq ?_
   refine rx hΓ [4,5] [] (fun K' hK=>by simp only[go_sem,aJ fS,Int.toNat_natCast,Int.natCast_nonneg,EG,decide_true,sD];(repeat (refine⟨ob,?_⟩));exact hK _ (by simp only[go_sem]) (by simp only[go_sem]<;>rfl)) ?_
   refine ar ?_
   simp only[go_sem]
   rw[sD,EL]
   first | done | rfl
  ·have bb:¬ (i:Int)<l.length:=by omega
   have EL:bu l x=false:=aai fun k hk=>fD k hk (by omega)
   repeat refine sq ?_
   refine rx hΓ [4,5] [] (fun K' hK=>by simp only[go_sem,bb,decide_false,Int.toNat_natCast];(repeat (refine⟨ob,?_⟩));exact hK _ (by simp only[go_sem]) (by simp only[go_sem]<;>rfl)) ?_
   refine ar ?_
   simp only[go_sem]
   rw[sD,EL]
   first | done | rfl
theorem LB:ak Tryd.prog 42 S52:=TG.sound
set_option maxRecDepth 100000
def iY:En (List Dk):=⟨fun l=>.sl (l.map encDk),fun v=>match v with | .sl l=>l.map lU | _=>[]⟩
@[go_sem] theorem ahz(l:List Dk):iY.dec (.sl (l.map encDk))=l:=rZ Gf l
theorem cS{l:List Dk}{i:Nat}(h:i<l.length):(l.map encDk).getD i default=.agg (an l[i]):=by
 simp[List.getD_eq_getElem?_getD,List.getElem?_eq_getElem h,encDk]
def j6(l:List Dk)(i:Nat):Bool:=ay (l.getD i default)&&(i==0||decide ((l.getD (i-1) default).me<(l.getD i default).me))
def dd(l:List Dk):Bool:=gl l.length (j6 l)&&decide (l.length<=6)
theorem N3{l:List Dk}{i p:Nat}(hp:p=i-1)(hi:i<l.length)(bD:p<l.length):(!ay l[i]||(!(i==0)&&!decide (l[p].me<l[i].me)))=!j6 l i:=by
 subst hp
 unfold j6
 rw[getD_at hi,getD_at bD]
 cases ay l[i]<;>cases (i==0)<;>cases decide (l[i-1].me<l[i].me)<;>rfl
@[go_sem] theorem ahR(d:Dk):List.take 1 (an d)=[vInt d.me]:=rfl
theorem N7(d:Dk):(j7 d != 0)=!ay d:=by unfold j7;cases ay d<;>rfl
noncomputable def P6:List (Nat×Spec):=[(66,S74),(39,S23),(77,S39)]
theorem ads:∀ f s,tbl P6 f=some s->ak Tryd.prog f s:=tc Lu<|tc oX<|tc oW<|tn
attribute [go_sem] P6
noncomputable def P119:PSpec:=p1 iY (fun _=>True) (fun l=>.bool (dd l)) true
noncomputable def S119:Spec:=P119.toSpec
attribute [go_sem] P119 S119
set_option maxHeartbeats 4000000 in
theorem T7:aR Tryd.prog 59 P119:=by
 refine w1 (rs:=[.tmp 2]) Tryd.func59 Tryd.ntmps59 (by rfl) (by kernel_rfl) (by decide) (fun _ _=>rfl) ⟨_,rfl,lb rfl,fun l hp hw=>?_⟩
 have hP:=be
 simp only[iY]at hw |-
 have hΓ:=ads
 have hl:l.length<=maxLen:=by have:=hw.1.1;simpa using this
 repeat refine sq ?_
 refine rx hΓ [0] [] (fun K' hK=>by simp only[go_sem];(repeat (refine⟨ah,?_⟩));exact hK _ (by simp only[go_sem]) (by simp only[go_sem]<;>rfl)) ?_
 repeat refine sq ?_
 refine rx hΓ [0,5,6,7] [] (fun K' hK=>by simp only[go_sem];(repeat (refine⟨ah,?_⟩));exact hK _ (by simp only[go_sem]) (by simp only[go_sem]<;>rfl)) ?_
 repeat refine sq ?_
 refine aN ?_
 repeat refine sq ?_
 refine cN (fun s:Nat=>[(7,⟨true,.v (vInt s)⟩)]) (fun s=>[]) (fun s=>s<=l.length/\gl s (j6 l)=true) (fun s=>l.length-s) 0 ?_ ?_ ?_ ?_
 ·exact⟨Nat.zero_le _,rfl⟩
 ·rfl
 ·rfl
 rintro i ⟨hi,hR⟩
 simp only[go_sem]
 repeat refine sq ?_
 refine rx hΓ [0,5,6,7,8] [] (fun K' hK=>by simp only[go_sem];(repeat (refine⟨ah,?_⟩));exact hK _ (by simp only[go_sem]) (by simp only[go_sem]<;>rfl)) ?_
 repeat refine sq ?_
 refine au rfl rfl (fun hb=>?_) (fun hb=>?_)
 ·have ae:i<l.length:=by simpa using hb
  have ai:(i:Int)<l.length:=by omega
  clear hb
  obtain⟨p,hp,bD,fB,bK⟩:=ug ae hl
  have da:=N3 fB ae bD
  repeat refine sq ?_
  refine ax ?_
  repeat refine sq ?_
  refine aN ?_
  repeat refine sq ?_
  refine rx hΓ [0,3,4,5,6,7] [[4,0]] (fun K' hK=>by simp only[go_sem,cS ae,Int.toNat_natCast,Int.natCast_nonneg,ai,List.length_map,cS ae,Int.toNat_natCast,Int.natCast_nonneg,ai,List.length_map,List.append_nil];(repeat (refine⟨ah,?_⟩));exact hK _ (by simp only[go_sem]) (by simp only[go_sem]<;>rfl)) ?_
  refine aL (cG [4,0] (an l[i]) rfl [0,3,4,5,6,7] [[4,0]] ?_ rfl) ?_
  ·simp only[go_sem]
  simp only[go_sem]
  rcases Nat.eq_zero_or_pos i with h0 | h0
  ·have bF:(i==0)=true:=by simp[h0]
   repeat refine sq ?_
   refine dx hΓ hP [[],[0],[0,1],[0,1,2],[0,1,2,3],[0,1,2,3,4],[0,1,2,3,4,5],[0,1,2,3,4,5,6],[0,1,2,3,4,5,6],[0,1,2,3,4,5,6,8],[0,1,2,3,4,5,6,7,8,9],[0,1,2,3,4,5,6,7,8,9,10],[0,1,2,3,4,5,6,7,8,9,10,11],[0,1,2,3,4,5,6],[0,1,2,3,4,5,6,13],[0,1,2,3,4,5,6,7,8,9,10,11,12,13,14],[0,1,2,3,4,5,6,7,8,9,10,11,12,13,14,15],[0,1,2,3,4,5,6,7,8,9,10,11,12,13,14,15,16]] [0,5,6,7,29] [] (by kernel_rfl) (fun K' hK=>by simp only[go_sem,cS ae,Int.toNat_natCast,Int.natCast_nonneg,ai,List.length_map,bF,hp,cS bD,Int.toNat_natCast,Int.natCast_nonneg,ai,nG,not_lt,List.length_map];(repeat (refine⟨by first | exact ah | exact fun _=>⟨bP,bR,rfl⟩ | exact fun _=>⟨bP,bR⟩,?_⟩));(first | refine⟨by rfl,?_⟩ | skip);exact hK _ (by simp only[go_sem]) (by simp only[go_sem]<;>rfl)) ?_
   repeat refine sq ?_
   refine au rfl rfl (fun hb=>?_) (fun hb=>?_)
   ·repeat refine sq ?_
    have bA:j6 l i=false:=by simpa[bF,hb]using da.symm
    repeat refine sq ?_
    refine rx hΓ [2] [] (fun K' hK=>by simp only[go_sem,cS ae,Int.toNat_natCast,Int.natCast_nonneg,ai,List.length_map,bF];(repeat (refine⟨ah,?_⟩));exact hK _ (by simp only[go_sem]) (by simp only[go_sem]<;>rfl)) ?_
    refine ar ?_
    simp only[go_sem]
    first | simp only[dd,eV ae bA,Bool.false_and] | (simp only[dd,hR,Bool.true_and];done) | (simp only[dd,hR,Bool.true_and];congr 2;apply propext;omega)
   ·repeat refine sq ?_
    have bz:j6 l i=true:=by simpa[bF,hb]using da.symm
    refine ax ?_
    refine cM ?_
    simp only[go_sem]
    refine kp [0,5,6,7] [] ?_
    repeat refine sq ?_
    refine aP hΓ fun K' hK=>?_
    simp only[go_sem,cS ae,Int.toNat_natCast,Int.natCast_nonneg,ai,List.length_map,bF]
    repeat (refine⟨ah,?_⟩)
    refine hK _ ?_
    clear K' hK
    simp only[go_sem]
    refine⟨i+1,⟨ae,?_⟩,by(show l.length-(i+1)<l.length-i;omega),?_⟩
    ·exact j' hR bz
    refine bk [0,5,6,7] [] ?_ ?_
    ·simp only[go_sem,aF ae hl,Int.natCast_add,Int.natCast_one]
    ·simp only[go_sem,aF ae hl,Int.natCast_add,Int.natCast_one]
  ·have bF:(i==0)=false:=by rw[beq_eq_false_iff_ne];omega
   obtain⟨bP,bR⟩:=bK h0
   repeat refine sq ?_
   refine dx hΓ hP [[],[0],[0,1],[0,1,2],[0,1,2,3],[0,1,2,3,4],[0,1,2,3,4,5],[0,1,2,3,4,5,6],[0,1,2,3,4,5,6],[0,1,2,3,4,5,6,8],[0,1,2,3,4,5,6,7,8,9],[0,1,2,3,4,5,6,7,8,9,10],[0,1,2,3,4,5,6,7,8,9,10,11],[0,1,2,3,4,5,6],[0,1,2,3,4,5,6,13],[0,1,2,3,4,5,6,7,8,9,10,11,12,13,14],[0,1,2,3,4,5,6,7,8,9,10,11,12,13,14,15],[0,1,2,3,4,5,6,7,8,9,10,11,12,13,14,15,16]] [0,5,6,7,29] [] (by kernel_rfl) (fun K' hK=>by simp only[go_sem,cS ae,Int.toNat_natCast,Int.natCast_nonneg,ai,List.length_map,bF,bP,bR,hp,cS bD,Int.toNat_natCast,Int.natCast_nonneg,ai,nG,not_lt,List.length_map];(repeat (refine⟨by first | exact ah | exact fun _=>⟨bP,bR,rfl⟩ | exact fun _=>⟨bP,bR⟩,?_⟩));(first | refine⟨by rfl,?_⟩ | skip);exact hK _ (by simp only[go_sem]) (by simp only[go_sem]<;>rfl)) ?_
   repeat refine sq ?_
   refine au rfl rfl (fun hb=>?_) (fun hb=>?_)
   ·repeat refine sq ?_
    have bA:j6 l i=false:=by simpa[bF,<-Bool.or_assoc,hb]using da.symm
    repeat refine sq ?_
    refine rx hΓ [2] [] (fun K' hK=>by simp only[go_sem,cS ae,Int.toNat_natCast,Int.natCast_nonneg,ai,List.length_map,bF,bP,bR];(repeat (refine⟨ah,?_⟩));exact hK _ (by simp only[go_sem]) (by simp only[go_sem]<;>rfl)) ?_
    refine ar ?_
    simp only[go_sem]
    first | simp only[dd,eV ae bA,Bool.false_and] | (simp only[dd,hR,Bool.true_and];done) | (simp only[dd,hR,Bool.true_and];congr 2;apply propext;omega)
   ·repeat refine sq ?_
    have bz:j6 l i=true:=by simpa[bF,<-Bool.or_assoc,hb]using da.symm
    refine ax ?_
    refine cM ?_
    simp only[go_sem]
    refine kp [0,5,6,7] [] ?_
    repeat refine sq ?_
    refine aP hΓ fun K' hK=>?_
    simp only[go_sem,cS ae,Int.toNat_natCast,Int.natCast_nonneg,ai,List.length_map,bF,bP,bR]
    repeat (refine⟨ah,?_⟩)
    refine hK _ ?_
    clear K' hK
    simp only[go_sem]
    refine⟨i+1,⟨ae,?_⟩,by(show l.length-(i+1)<l.length-i;omega),?_⟩
    ·exact j' hR bz
    refine bk [0,5,6,7] [] ?_ ?_
    ·simp only[go_sem,aF ae hl,Int.natCast_add,Int.natCast_one]
    ·simp only[go_sem,aF ae hl,Int.natCast_add,Int.natCast_one]
 ·have bb:i=l.length:=by
   have :¬ (i:Int)<l.length:=by simpa using hb
   omega
  clear hb
  subst bb
  repeat refine sq ?_
  refine cr ?_
  simp only[go_sem]
  refine kp [0] [] ?_
  repeat refine sq ?_
  refine rx hΓ [2] [] (fun K' hK=>by simp only[go_sem];(repeat (refine⟨ah,?_⟩));exact hK _ (by simp only[go_sem]) (by simp only[go_sem]<;>rfl)) ?_
  refine ar ?_
  simp only[go_sem]
  first | simp only[dd,eV ae bA,Bool.false_and] | (simp only[dd,hR,Bool.true_and];done) | (simp only[dd,hR,Bool.true_and];congr 2;apply propext;omega)
theorem X8:ak Tryd.prog 59 S119:=T7.sound
def fg(l:List Dk)(p:Int):Int:=if dd l=true then(if aO p 1 999=true then 0 else 1)else 97
theorem rN{l:List Dk}{p:Int}(h:dd l=false):fg l p=97:=if_neg (by rw[h];decide)
theorem rM{l:List Dk}{p:Int}(h:dd l=true)(h1:aO p 1 999=false):fg l p=1:=by unfold fg;rw[if_pos h,if_neg (by rw[h1];decide)]
theorem rL{l:List Dk}{p:Int}(h:dd l=true)(h1:aO p 1 999=true):fg l p=0:=by unfold fg;rw[if_pos h,if_pos h1]
noncomputable def P5:List (Nat×Spec):=[(59,S119),(40,S50)]
theorem adr:∀ f s,tbl P5 f=some s->ak Tryd.prog f s:=tc X8<|tc Dq<|tn
attribute [go_sem] P5
noncomputable def P104:PSpec:=p2 iY iI (fun _ _=>True) (fun l p=>vInt (fg l p)) true
noncomputable def S104:Spec:=P104.toSpec
attribute [go_sem] P104 S104
theorem Ug:aR Tryd.prog 52 P104:=by
 refine w2 (rs:=[.tmp 4]) Tryd.func52 Tryd.ntmps52 (by rfl) (by kernel_rfl) (by decide) (fun _ _ _=>rfl) ⟨_,rfl,lb rfl,fun l p hp hw=>?_⟩
 have hP:=be
 simp only[iY,iI]at hw |-
 have hΓ:=adr
 repeat refine sq ?_
 refine rx hΓ [0,1] [] (fun K' hK=>by simp only[go_sem];(repeat (refine⟨ah,?_⟩));exact hK _ (by simp only[go_sem]) (by simp only[go_sem]<;>rfl)) ?_
 repeat refine sq ?_
 refine aN ?_
 repeat refine sq ?_
 refine rx hΓ [1,5] [] (fun K' hK=>by simp only[go_sem];(repeat (refine⟨ah,?_⟩));exact hK _ (by simp only[go_sem]) (by simp only[go_sem]<;>rfl)) ?_
 repeat refine sq ?_
 refine au rfl rfl (fun hb=>?_) (fun hb=>?_)
 ·repeat refine sq ?_
  have h1:dd l=false:=by simpa using hb
  repeat refine sq ?_
  refine rx hΓ [4] [] (fun K' hK=>by simp only[go_sem];(repeat (refine⟨ah,?_⟩));exact hK _ (by simp only[go_sem]) (by simp only[go_sem]<;>rfl)) ?_
  refine ar ?_
  simp only[go_sem]
  first | (rw[rN h1];done) | (rw[rM h1 h2];done) | (rw[rL h1 h2];done)
 ·repeat refine sq ?_
  have h1:dd l=true:=by simpa using hb
  repeat refine sq ?_
  refine rx hΓ [9] [] (fun K' hK=>by simp only[go_sem];(repeat (refine⟨ah,?_⟩));exact hK _ (by simp only[go_sem]) (by simp only[go_sem]<;>rfl)) ?_
  repeat refine sq ?_
  refine au rfl rfl (fun hb=>?_) (fun hb=>?_)
  ·repeat refine sq ?_
   have h2:aO p 1 999=false:=by simpa using hb
   repeat refine sq ?_
   refine rx hΓ [4] [] (fun K' hK=>by simp only[go_sem];(repeat (refine⟨ah,?_⟩));exact hK _ (by simp only[go_sem]) (by simp only[go_sem]<;>rfl)) ?_
   refine ar ?_
   simp only[go_sem]
   first | (rw[rN h1];done) | (rw[rM h1 h2];done) | (rw[rL h1 h2];done)
  ·repeat refine sq ?_
   have h2:aO p 1 999=true:=by simpa using hb
   refine ax ?_
   refine cM ?_
   simp only[go_sem]
   refine kp [] [] ?_
   repeat refine sq ?_
   refine rx hΓ [4] [] (fun K' hK=>by simp only[go_sem];(repeat (refine⟨ah,?_⟩));exact hK _ (by simp only[go_sem]) (by simp only[go_sem]<;>rfl)) ?_
   refine ar ?_
   simp only[go_sem]
   first | (rw[rN h1];done) | (rw[rM h1 h2];done) | (rw[rL h1 h2];done)
theorem LK:ak Tryd.prog 52 S104:=Ug.sound
noncomputable def P4:List (Nat×Spec):=[(77,S39)]
theorem adq:∀ f s,tbl P4 f=some s->ak Tryd.prog f s:=tc oW<|tn
attribute [go_sem] P4
noncomputable def P560:PSpec:=p1 iY (fun _=>True) (fun l=>.bool (dd l)) true
noncomputable def S560:Spec:=P560.toSpec
attribute [go_sem] P560 S560
set_option maxHeartbeats 4000000 in
theorem TC:aR Tryd.prog 60 P560:=by
 refine w1 (rs:=[.tmp 2]) Tryd.func60 Tryd.ntmps60 (by rfl) (by kernel_rfl) (by decide) (fun _ _=>rfl) ⟨_,rfl,lb rfl,fun l hp hw=>?_⟩
 have hP:=be
 simp only[iY]at hw |-
 have hΓ:=adq
 have hl:l.length<=maxLen:=by have:=hw.1.1;simpa using this
 repeat refine sq ?_
 refine rx hΓ [0] [] (fun K' hK=>by simp only[go_sem];(repeat (refine⟨ah,?_⟩));exact hK _ (by simp only[go_sem]) (by simp only[go_sem]<;>rfl)) ?_
 repeat refine sq ?_
 refine rx hΓ [0,6] [] (fun K' hK=>by simp only[go_sem];(repeat (refine⟨ah,?_⟩));exact hK _ (by simp only[go_sem]) (by simp only[go_sem]<;>rfl)) ?_
 repeat refine sq ?_
 refine au rfl rfl (fun hb=>?_) (fun hb=>?_)
 ·repeat refine sq ?_
  have Af:dd l=false:=by unfold dd;rw[decide_eq_false (by simp at hb;omega),Bool.and_false]
  repeat refine sq ?_
  refine rx hΓ [2] [] (fun K' hK=>by simp only[go_sem];(repeat (refine⟨ah,?_⟩));exact hK _ (by simp only[go_sem]) (by simp only[go_sem]<;>rfl)) ?_
  refine ar ?_
  simp only[go_sem]
  first | (rw[Af];done) | simp only[dd,eV ae bA,Bool.false_and] | (simp only[dd,hR,Bool.true_and,decide_eq_true zV];done)
 ·repeat refine sq ?_
  have zV:l.length<=6:=by simp at hb;omega
  refine ax ?_
  repeat refine sq ?_
  refine rx hΓ [0,3] [] (fun K' hK=>by simp only[go_sem];(repeat (refine⟨ah,?_⟩));exact hK _ (by simp only[go_sem]) (by simp only[go_sem]<;>rfl)) ?_
  repeat refine sq ?_
  refine aN ?_
  repeat refine sq ?_
  refine cN (fun s:Nat=>[(3,⟨true,.v (vInt s)⟩)]) (fun s=>[]) (fun s=>s<=l.length/\gl s (j6 l)=true) (fun s=>l.length-s) 0 ?_ ?_ ?_ ?_
  ·exact⟨Nat.zero_le _,rfl⟩
  ·rfl
  ·rfl
  rintro i ⟨hi,hR⟩
  simp only[go_sem]
  repeat refine sq ?_
  refine rx hΓ [0,3,10] [] (fun K' hK=>by simp only[go_sem];(repeat (refine⟨ah,?_⟩));exact hK _ (by simp only[go_sem]) (by simp only[go_sem]<;>rfl)) ?_
  repeat refine sq ?_
  refine au rfl rfl (fun hb=>?_) (fun hb=>?_)
  ·have ae:i<l.length:=by simpa using hb
   have ai:(i:Int)<l.length:=by omega
   clear hb
   obtain⟨p,hp,bD,fB,bK⟩:=ug ae hl
   have da:=N3 fB ae bD
   repeat refine sq ?_
   refine ax ?_
   repeat refine sq ?_
   refine aN ?_
   repeat refine sq ?_
   rcases Nat.eq_zero_or_pos i with h0 | h0
   ·have bF:(i==0)=true:=by simp[h0]
    repeat refine sq ?_
    refine dx hΓ hP [[],[],[0,1],[0,1,2],[0,1,2,3],[0,1,2,3,4],[0,1,2,3,4,5],[0,1,2,3,4,5,6],[0,1,2,3,4,5,6,7],[0,1,2,3,4,5,6,7,8],[0,1,2,3,4,5,6,7,8,9],[0,1,2,3,4,5,6,7,8,9],[0,1,2,3,4,5,6,7,8,9,11],[0,1,2,3,4,5,6,7,8,9,10,11,12],[0,1,2,3,4,5,6,7,8,9,10,11,12,13],[0,1,2,3,4,5,6,7,8,9,10,11,12,13,14],[0,1,2,3,4,5,6,7,8,9],[0,1,2,3,4,5,6,7,8,9],[0,1,2,3,4,5,6,7,8,9,16,17],[0,1,2,3,4,5,6,7,8,9,16,17,18],[0,1,2,3,4,5,6,7,8,9,16,17,18,19],[0,1,2,3,4,5,6,7,8,9,10,11,12,13,14,15,16,17,18,19,20],[0,1,2,3,4,5,6,7,8,9,10,11,12,13,14,15,16,17,18,19,20,21],[0,1,2,3,4,5,6,7,8,9,10,11,12,13,14,15,16,17,18,19,20,21,22]] [0,3,36] [] (by kernel_rfl) (fun K' hK=>by simp only[go_sem,cS ae,Int.toNat_natCast,Int.natCast_nonneg,ai,List.length_map,bF,hp,cS bD,cS ae,N7,Int.toNat_natCast,Int.natCast_nonneg,ai,nG,not_lt,List.length_map];(repeat (refine⟨by first | exact ah | exact fun _=>⟨bP,bR,rfl⟩ | exact fun _=>⟨bP,bR⟩,?_⟩));(first | refine⟨by rfl,?_⟩ | skip);exact hK _ (by simp only[go_sem]) (by simp only[go_sem]<;>rfl)) ?_
    repeat refine sq ?_
    refine au rfl rfl (fun hb=>?_) (fun hb=>?_)
    ·repeat refine sq ?_
     have bA:j6 l i=false:=by simpa[bF,hb]using da.symm
     repeat refine sq ?_
     refine rx hΓ [2] [] (fun K' hK=>by simp only[go_sem,cS ae,Int.toNat_natCast,Int.natCast_nonneg,ai,List.length_map,bF];(repeat (refine⟨ah,?_⟩));exact hK _ (by simp only[go_sem]) (by simp only[go_sem]<;>rfl)) ?_
     refine ar ?_
     simp only[go_sem]
     first | (rw[Af];done) | simp only[dd,eV ae bA,Bool.false_and] | (simp only[dd,hR,Bool.true_and,decide_eq_true zV];done)
    ·repeat refine sq ?_
     have bz:j6 l i=true:=by simpa[bF,hb]using da.symm
     refine ax ?_
     refine cM ?_
     simp only[go_sem]
     refine kp [0,3] [] ?_
     repeat refine sq ?_
     refine aP hΓ fun K' hK=>?_
     simp only[go_sem,cS ae,Int.toNat_natCast,Int.natCast_nonneg,ai,List.length_map,bF]
     repeat (refine⟨ah,?_⟩)
     refine hK _ ?_
     clear K' hK
     simp only[go_sem]
     refine⟨i+1,⟨ae,?_⟩,by(show l.length-(i+1)<l.length-i;omega),?_⟩
     ·exact j' hR bz
     refine bk [0,3] [] ?_ ?_
     ·simp only[go_sem,aF ae hl,Int.natCast_add,Int.natCast_one]
     ·simp only[go_sem,aF ae hl,Int.natCast_add,Int.natCast_one]
   ·have bF:(i==0)=false:=by rw[beq_eq_false_iff_ne];omega
    obtain⟨bP,bR⟩:=bK h0
    repeat refine sq ?_
    refine dx hΓ hP [[],[],[0,1],[0,1,2],[0,1,2,3],[0,1,2,3,4],[0,1,2,3,4,5],[0,1,2,3,4,5,6],[0,1,2,3,4,5,6,7],[0,1,2,3,4,5,6,7,8],[0,1,2,3,4,5,6,7,8,9],[0,1,2,3,4,5,6,7,8,9],[0,1,2,3,4,5,6,7,8,9,11],[0,1,2,3,4,5,6,7,8,9,10,11,12],[0,1,2,3,4,5,6,7,8,9,10,11,12,13],[0,1,2,3,4,5,6,7,8,9,10,11,12,13,14],[0,1,2,3,4,5,6,7,8,9],[0,1,2,3,4,5,6,7,8,9],[0,1,2,3,4,5,6,7,8,9,16,17],[0,1,2,3,4,5,6,7,8,9,16,17,18],[0,1,2,3,4,5,6,7,8,9,16,17,18,19],[0,1,2,3,4,5,6,7,8,9,10,11,12,13,14,15,16,17,18,19,20],[0,1,2,3,4,5,6,7,8,9,10,11,12,13,14,15,16,17,18,19,20,21],[0,1,2,3,4,5,6,7,8,9,10,11,12,13,14,15,16,17,18,19,20,21,22]] [0,3,36] [] (by kernel_rfl) (fun K' hK=>by simp only[go_sem,cS ae,Int.toNat_natCast,Int.natCast_nonneg,ai,List.length_map,bF,bP,bR,hp,cS bD,cS ae,N7,Int.toNat_natCast,Int.natCast_nonneg,ai,nG,not_lt,List.length_map];(repeat (refine⟨by first | exact ah | exact fun _=>⟨bP,bR,rfl⟩ | exact fun _=>⟨bP,bR⟩,?_⟩));(first | refine⟨by rfl,?_⟩ | skip);exact hK _ (by simp only[go_sem]) (by simp only[go_sem]<;>rfl)) ?_
    repeat refine sq ?_
    refine au rfl rfl (fun hb=>?_) (fun hb=>?_)
    ·repeat refine sq ?_
     have bA:j6 l i=false:=by simpa[bF,<-Bool.or_assoc,hb]using da.symm
     repeat refine sq ?_
     refine rx hΓ [2] [] (fun K' hK=>by simp only[go_sem,cS ae,Int.toNat_natCast,Int.natCast_nonneg,ai,List.length_map,bF,bP,bR];(repeat (refine⟨ah,?_⟩));exact hK _ (by simp only[go_sem]) (by simp only[go_sem]<;>rfl)) ?_
     refine ar ?_
     simp only[go_sem]
     first | (rw[Af];done) | simp only[dd,eV ae bA,Bool.false_and] | (simp only[dd,hR,Bool.true_and,decide_eq_true zV];done)
    ·repeat refine sq ?_
     have bz:j6 l i=true:=by simpa[bF,<-Bool.or_assoc,hb]using da.symm
     refine ax ?_
     refine cM ?_
     simp only[go_sem]
     refine kp [0,3] [] ?_
     repeat refine sq ?_
     refine aP hΓ fun K' hK=>?_
     simp only[go_sem,cS ae,Int.toNat_natCast,Int.natCast_nonneg,ai,List.length_map,bF,bP,bR]
     repeat (refine⟨ah,?_⟩)
     refine hK _ ?_
     clear K' hK
     simp only[go_sem]
     refine⟨i+1,⟨ae,?_⟩,by(show l.length-(i+1)<l.length-i;omega),?_⟩
     ·exact j' hR bz
     refine bk [0,3] [] ?_ ?_
     ·simp only[go_sem,aF ae hl,Int.natCast_add,Int.natCast_one]
     ·simp only[go_sem,aF ae hl,Int.natCast_add,Int.natCast_one]
  ·have bb:i=l.length:=by
    have :¬ (i:Int)<l.length:=by simpa using hb
    omega
   clear hb
   subst bb
   repeat refine sq ?_
   refine cr ?_
   simp only[go_sem]
   refine kp [] [] ?_
   repeat refine sq ?_
   refine rx hΓ [2] [] (fun K' hK=>by simp only[go_sem];(repeat (refine⟨ah,?_⟩));exact hK _ (by simp only[go_sem]) (by simp only[go_sem]<;>rfl)) ?_
   refine ar ?_
   simp only[go_sem]
   first | (rw[Af];done) | simp only[dd,eV ae bA,Bool.false_and] | (simp only[dd,hR,Bool.true_and,decide_eq_true zV];done)
theorem XU:ak Tryd.prog 60 S560:=TC.sound
noncomputable def P3:List (Nat×Spec):=[(60,S560),(76,S55)]
theorem adp:∀ f s,tbl P3 f=some s->ak Tryd.prog f s:=tc XU<|tc Lx<|tn
attribute [go_sem] P3
noncomputable def P554:PSpec:=p2 iY iI (fun _ _=>True) (fun l p=>vInt (fg l p)) true
noncomputable def S554:Spec:=P554.toSpec
attribute [go_sem] P554 S554
theorem TD:aR Tryd.prog 54 P554:=by
 refine w2 (rs:=[.tmp 4]) Tryd.func54 Tryd.ntmps54 (by rfl) (by kernel_rfl) (by decide) (fun _ _ _=>rfl) ⟨_,rfl,lb rfl,fun l p hp hw=>?_⟩
 have hP:=be
 simp only[iY,iI]at hw |-
 have hΓ:=adp
 repeat refine sq ?_
 refine rx hΓ [0,1] [] (fun K' hK=>by simp only[go_sem];(repeat (refine⟨ah,?_⟩));exact hK _ (by simp only[go_sem]) (by simp only[go_sem]<;>rfl)) ?_
 repeat refine sq ?_
 refine rx hΓ [1,7] [] (fun K' hK=>by simp only[go_sem];(repeat (refine⟨ah,?_⟩));exact hK _ (by simp only[go_sem]) (by simp only[go_sem]<;>rfl)) ?_
 repeat refine sq ?_
 refine au rfl rfl (fun hb=>?_) (fun hb=>?_)
 ·repeat refine sq ?_
  have h1:dd l=false:=by simpa using hb
  repeat refine sq ?_
  refine rx hΓ [4] [] (fun K' hK=>by simp only[go_sem];(repeat (refine⟨ah,?_⟩));exact hK _ (by simp only[go_sem]) (by simp only[go_sem]<;>rfl)) ?_
  refine ar ?_
  simp only[go_sem]
  first | (rw[rN h1];done) | (rw[rM h1 h2];done) | (rw[rL h1 h2];done)
 ·repeat refine sq ?_
  have h1:dd l=true:=by simpa using hb
  refine ax ?_
  repeat refine sq ?_
  refine rx hΓ [10] [] (fun K' hK=>by simp only[go_sem];(repeat (refine⟨ah,?_⟩));exact hK _ (by simp only[go_sem]) (by simp only[go_sem]<;>rfl)) ?_
  repeat refine sq ?_
  refine au rfl rfl (fun hb=>?_) (fun hb=>?_)
  ·repeat refine sq ?_
   have h2:aO p 1 999=false:=by simpa using hb
   repeat refine sq ?_
   refine rx hΓ [4] [] (fun K' hK=>by simp only[go_sem];(repeat (refine⟨ah,?_⟩));exact hK _ (by simp only[go_sem]) (by simp only[go_sem]<;>rfl)) ?_
   refine ar ?_
   simp only[go_sem]
   first | (rw[rN h1];done) | (rw[rM h1 h2];done) | (rw[rL h1 h2];done)
  ·repeat refine sq ?_
   have h2:aO p 1 999=true:=by simpa using hb
   refine ax ?_
   repeat refine sq ?_
   refine rx hΓ [4] [] (fun K' hK=>by simp only[go_sem];(repeat (refine⟨ah,?_⟩));exact hK _ (by simp only[go_sem]) (by simp only[go_sem]<;>rfl)) ?_
   refine ar ?_
   simp only[go_sem]
   first | (rw[rN h1];done) | (rw[rM h1 h2];done) | (rw[rL h1 h2];done)
theorem XV:ak Tryd.prog 54 S554:=TD.sound
end Go.Eng
