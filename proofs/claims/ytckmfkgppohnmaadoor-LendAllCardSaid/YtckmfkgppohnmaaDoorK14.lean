import Derived.Test.YtckmfkgppohnmaaDoorK13
import Derived.Laws.Bits64
/- Texts LS to NW81. -/
set_option linter.all false
namespace Go.Eng
open Go Go.Proofs
theorem PV:aR Tryd.prog 10 ⟨fun xs=>xs=[],fun _=>.bool true,true⟩:=
 Qs (b:=.bool true) G' (by
  intro fn h
  have e:Tryd.prog.funcs[10]?=some Tryd.f10:=Tryd.func10
  rw[e]at h
  obtain rfl:=Option.some.inj h
  exact(by kernel_rfl:(Tryd.f10.name== "runtime.NumGoroutine")=false)) (by decide) rfl
noncomputable def Ma:PSpec:=⟨fun xs=>xs=[],fun _=>.bool true,true⟩
noncomputable def S19:Spec:=Ma.toSpec
theorem TB:ak Tryd.prog 10 S19:=PV.sound
attribute [go_sem] Ma S19
def fK(d:Dk)(i:Nat)(o:Int):Bool:=(((i:Int) != d.wet)&&aW d.me (d.pg i))&&(decide (o<0)||decide ((d.pg i).co>(d.pg o.toNat).co))
def cv(d:Dk):Nat->Int
 | 0=> -1
 |i+1=>if fK d i (cv d i)=true then i else cv d i
def bB(d:Dk):Int:=cv d 2
theorem CC(d:Dk):∀ i,-1<=cv d i/\cv d i<i
 | 0=>⟨by show (-1:Int)<= -1;omega,by show (-1:Int)<0;omega⟩
 |i+1=>by
  have h:=CC d i
  unfold cv
  split
  ·exact⟨by omega,by omega⟩
  ·exact⟨h.1,by omega⟩
theorem WK(d:Dk):((aq d).drop 20).take 42=cm d.pa++cm d.pb:=rfl
theorem QE(d:Dk){i:Nat}(h:i<2):((cm d.pa++cm d.pb).drop (i*21)).take 21=cm (d.pg i):=by
 match i,h with
 | 0,_=>rfl
 | 1,_=>rfl
theorem QD(d:Dk){i:Nat}(h:i<2):i*21+21<=(cm d.pa++cm d.pb).length:=by
 show i*21+21<=42
 omega
theorem aeo(d:Dk){i:Nat}(h:i<2):((aq d).drop (20+i*21)).take 21=cm (d.pg i):=by
 match i,h with
 | 0,_=>rfl
 | 1,_=>rfl
theorem uR{d:Dk}{i:Nat}(h:fK d i (cv d i)=true):cv d (i+1)=i:=if_pos h
theorem xV{d:Dk}{i:Nat}(h:fK d i (cv d i)=false):cv d (i+1)=cv d i:=if_neg (by rw[h];decide)
noncomputable def MQ:List (Nat×Spec):=[(69,S90)]
theorem YY:∀ f s,tbl MQ f=some s->ak Tryd.prog f s:=tc AF<|tn
attribute [go_sem] MQ
noncomputable def P58:PSpec:=p1 dK (fun _=>True) (fun d=>vInt (bB d)) true
noncomputable def S58:Spec:=P58.toSpec
attribute [go_sem] P58 S58
set_option maxHeartbeats 4000000 in
theorem Pw:aR Tryd.prog 45 P58:=by
 refine w1 (rs:=[.tmp 2]) Tryd.func45 Tryd.ntmps45 (by rfl) (by kernel_rfl) (by decide) (fun _ _=>rfl) ⟨_,rfl,lb rfl,fun d hp hw=>?_⟩
 have hP:=bc
 simp only[dK]at hw |-
 have hΓ:=YY
 repeat refine sq ?_
 refine rs hΓ [1] [[1,0]] ?_
 refine bq (dd [1,0] (aq d) rfl [1] [[1,0]] ?_ rfl) ?_
 ·simp only[go_sem]
 simp only[go_sem]
 repeat refine sq ?_
 refine rs hΓ [1,3] [[1,0]] ?_
 repeat refine sq ?_
 refine rx hΓ [1,3,7,8] [[1,0]] (fun K' hK=>by simp only[go_sem,WK];(repeat (refine⟨ob,?_⟩));exact hK _ (by simp only[go_sem]) (by simp only[go_sem]<;>rfl)) ?_
 repeat refine sq ?_
 refine aJ ?_
 repeat refine sq ?_
 refine bR (fun z:Nat=>[(8,⟨true,.v (vInt z)⟩),(3,⟨true,.v (vInt (cv d z))⟩)]) (fun z=>[]) (fun z=>z<=2) (fun z=>2-z) 0 ?_ ?_ ?_ ?_
 ·exact Nat.zero_le _
 ·rfl
 ·rfl
 rintro i hi
 simp only[go_sem]
 repeat refine sq ?_
 refine rs hΓ [1,3,7,8,9] [[1,0]] ?_
 repeat refine sq ?_
 refine ax rfl rfl (fun hb=>?_) (fun hb=>?_)
 ·have ae:i<2:=by have hq:(i:Int)<2:=(by simpa using hb);omega
  have ai:(i:Int)<2:=by omega
  clear hb
  have bF:=QD d ae
  repeat refine sq ?_
  refine aC ?_
  repeat refine sq ?_
  refine aJ ?_
  repeat refine sq ?_
  refine rx hΓ [1,3,4,5,7,8] [[1,0],[5,0]] (fun K' hK=>by simp only[go_sem,Int.toNat_natCast,Int.natCast_nonneg,ai,QE d ae,bF,Int.toNat_natCast,Int.natCast_nonneg,ai,List.append_nil];(repeat (refine⟨ob,?_⟩));exact hK _ (by simp only[go_sem]) (by simp only[go_sem]<;>rfl)) ?_
  refine bq (dd [5,0] (cm (d.pg i)) rfl [1,3,4,5,7,8] [[1,0],[5,0]] ?_ rfl) ?_
  ·simp only[go_sem]
  simp only[go_sem]
  rcases ho:decide (cv d i<0)with _ | _
  ·have hr:=CC d i
   have jd:0<=cv d i:=by have:=of_decide_eq_false ho;omega
   have fW:cv d i<2:=by omega
   have xu:(cv d i).toNat<2:=by omega
   have ou:fK d i (cv d i)=((((i:Int) != d.wet)&&aW d.me (d.pg i))&&decide ((d.pg i).co>(d.pg (cv d i).toNat).co)):=by unfold fK;rw[ho,Bool.false_or]
   repeat refine sq ?_
   refine dx hΓ hP [[],[],[1],[0,1,2],[0,1,2,3],[0,1,2,3,4],[0,1,2,3,4,5],[0,1,2,3,4],[0,1,2,3,4,5,6,7],[0,1,2,3,4,5,6,7,8],[0,1,2,3,4,5,6,7,8,9],[0,1,2,3,4,5,6,7,8,9,10],[0,1,2,3,4,5,6,7,8,9,10,11],[0,1,2,3,4,5,6,7,8,9,10,11,12],[0,1,2,3,4,5,6,7,8,9,10,11,12,13],[0,1,2,3,4,5,6,7,8,9,10,11,12,13,14],[0,1,2,3,4,5,6,7,8,9,10,11,12,13],[0,1,2,3,4,5,6,7,8,9,10,11,12,13],[0,1,2,3,4,5,6,7,8,9,10,11,12,13,16,17],[0,1,2,3,4,5,6,7,8,9,10,11,12,13,16,17,18],[0,1,2,3,4,5,6,7,8,9,10,11,12,13,16,17,18,19],[0,1,2,3,4,5,6,7,8,9,10,11,12,13,14,15,16,17,18,19,20],[0,1,2,3,4,5,6,7,8,9,10,11,12,13,14,15,16,17,18,19,20,21],[0,1,2,3,4,5,6,7,8,9,10,11,12,13,14,15,16,17,18,19,20,21,22]] [1,3,4,7,8,35] [[1,0]] (by kernel_rfl) (fun K' hK=>by simp only[go_sem,Int.toNat_natCast,Int.natCast_nonneg,ai,ho,jd,fW,x7 d xu,Nat.add_zero];(repeat (refine⟨ob,?_⟩));(first | refine⟨by rfl,?_⟩ | skip);exact hK _ (by simp only[go_sem]) (by simp only[go_sem]<;>rfl)) ?_
   repeat refine sq ?_
   refine ax rfl rfl (fun hb=>?_) (fun hb=>?_)
   ·repeat refine sq ?_
    have e:=uR (ou.trans (by simpa[Bool.and_assoc]using hb))
    repeat refine sq ?_
    refine aQ hΓ fun K' hK=>?_
    simp only[go_sem,Int.toNat_natCast,Int.natCast_nonneg,ai,ho,jd,fW,x7 d xu,Nat.add_zero]
    repeat (refine⟨ob,?_⟩)
    refine hK _ ?_
    clear K' hK
    simp only[go_sem]
    refine kp [1,3,7,8] [[1,0]] ?_
    repeat refine sq ?_
    refine aQ hΓ fun K' hK=>?_
    simp only[go_sem,Int.toNat_natCast,Int.natCast_nonneg,ai,ho,jd,fW,x7 d xu,Nat.add_zero]
    repeat (refine⟨ob,?_⟩)
    refine hK _ ?_
    clear K' hK
    simp only[go_sem]
    refine⟨i+1,ae,by(show 2-(i+1)<2-i;omega),?_⟩
    refine bd [1,3,7,8] [[1,0]] ?_ ?_
    ·simp only[go_sem,aA ae (lb rfl:(2:Nat)<=maxLen),Int.natCast_add,Int.natCast_one,e]
    ·simp only[go_sem,aA ae (lb rfl:(2:Nat)<=maxLen),Int.natCast_add,Int.natCast_one,e]
   ·repeat refine sq ?_
    have e:=xV (ou.trans (by simpa[Bool.and_assoc]using hb))
    refine aC ?_
    refine cX ?_
    simp only[go_sem]
    refine kp [1,3,7,8] [[1,0]] ?_
    repeat refine sq ?_
    refine aQ hΓ fun K' hK=>?_
    simp only[go_sem,Int.toNat_natCast,Int.natCast_nonneg,ai,ho,jd,fW,x7 d xu,Nat.add_zero]
    repeat (refine⟨ob,?_⟩)
    refine hK _ ?_
    clear K' hK
    simp only[go_sem]
    refine⟨i+1,ae,by(show 2-(i+1)<2-i;omega),?_⟩
    refine bd [1,3,7,8] [[1,0]] ?_ ?_
    ·simp only[go_sem,aA ae (lb rfl:(2:Nat)<=maxLen),Int.natCast_add,Int.natCast_one,e]
    ·simp only[go_sem,aA ae (lb rfl:(2:Nat)<=maxLen),Int.natCast_add,Int.natCast_one,e]
  ·have ou:fK d i (cv d i)=(((i:Int) != d.wet)&&aW d.me (d.pg i)):=by unfold fK;rw[ho,Bool.true_or,Bool.and_true]
   repeat refine sq ?_
   refine dx hΓ hP [[],[],[1],[0,1,2],[0,1,2,3],[0,1,2,3,4],[0,1,2,3,4,5],[0,1,2,3,4],[0,1,2,3,4,5,6,7],[0,1,2,3,4,5,6,7,8],[0,1,2,3,4,5,6,7,8,9],[0,1,2,3,4,5,6,7,8,9,10],[0,1,2,3,4,5,6,7,8,9,10,11],[0,1,2,3,4,5,6,7,8,9,10,11,12],[0,1,2,3,4,5,6,7,8,9,10,11,12,13],[0,1,2,3,4,5,6,7,8,9,10,11,12,13,14],[0,1,2,3,4,5,6,7,8,9,10,11,12,13],[0,1,2,3,4,5,6,7,8,9,10,11,12,13],[0,1,2,3,4,5,6,7,8,9,10,11,12,13,16,17],[0,1,2,3,4,5,6,7,8,9,10,11,12,13,16,17,18],[0,1,2,3,4,5,6,7,8,9,10,11,12,13,16,17,18,19],[0,1,2,3,4,5,6,7,8,9,10,11,12,13,14,15,16,17,18,19,20],[0,1,2,3,4,5,6,7,8,9,10,11,12,13,14,15,16,17,18,19,20,21],[0,1,2,3,4,5,6,7,8,9,10,11,12,13,14,15,16,17,18,19,20,21,22]] [1,3,4,7,8,35] [[1,0]] (by kernel_rfl) (fun K' hK=>by simp only[go_sem,Int.toNat_natCast,Int.natCast_nonneg,ai,ho];(repeat (refine⟨ob,?_⟩));(first | refine⟨by rfl,?_⟩ | skip);exact hK _ (by simp only[go_sem]) (by simp only[go_sem]<;>rfl)) ?_
   repeat refine sq ?_
   refine ax rfl rfl (fun hb=>?_) (fun hb=>?_)
   ·repeat refine sq ?_
    have e:=uR (ou.trans (by simpa using hb))
    repeat refine sq ?_
    refine aQ hΓ fun K' hK=>?_
    simp only[go_sem,Int.toNat_natCast,Int.natCast_nonneg,ai,ho]
    repeat (refine⟨ob,?_⟩)
    refine hK _ ?_
    clear K' hK
    simp only[go_sem]
    refine kp [1,3,7,8] [[1,0]] ?_
    repeat refine sq ?_
    refine aQ hΓ fun K' hK=>?_
    simp only[go_sem,Int.toNat_natCast,Int.natCast_nonneg,ai,ho]
    repeat (refine⟨ob,?_⟩)
    refine hK _ ?_
    clear K' hK
    simp only[go_sem]
    refine⟨i+1,ae,by(show 2-(i+1)<2-i;omega),?_⟩
    refine bd [1,3,7,8] [[1,0]] ?_ ?_
    ·simp only[go_sem,aA ae (lb rfl:(2:Nat)<=maxLen),Int.natCast_add,Int.natCast_one,e]
    ·simp only[go_sem,aA ae (lb rfl:(2:Nat)<=maxLen),Int.natCast_add,Int.natCast_one,e]
   ·repeat refine sq ?_
    have e:=xV (ou.trans (by simpa using hb))
    refine aC ?_
    refine cX ?_
    simp only[go_sem]
    refine kp [1,3,7,8] [[1,0]] ?_
    repeat refine sq ?_
    refine aQ hΓ fun K' hK=>?_
    simp only[go_sem,Int.toNat_natCast,Int.natCast_nonneg,ai,ho]
    repeat (refine⟨ob,?_⟩)
    refine hK _ ?_
    clear K' hK
    simp only[go_sem]
    refine⟨i+1,ae,by(show 2-(i+1)<2-i;omega),?_⟩
    refine bd [1,3,7,8] [[1,0]] ?_ ?_
    ·simp only[go_sem,aA ae (lb rfl:(2:Nat)<=maxLen),Int.natCast_add,Int.natCast_one,e]
    ·simp only[go_sem,aA ae (lb rfl:(2:Nat)<=maxLen),Int.natCast_add,Int.natCast_one,e]
 ·have aV:i=2:=by
   have :¬ (i:Int)<2:=by simpa using hb
   omega
  clear hb
  subst aV
  repeat refine sq ?_
  refine bK ?_
  simp only[go_sem]
  refine kp [3] [] ?_
  repeat refine sq ?_
  refine rs hΓ [2] [] ?_
  refine av ?_
  simp only[go_sem]
  first | rfl
theorem wW:ak Tryd.prog 45 S58:=Pw.sound
noncomputable def MP:List (Nat×Spec):=[(85,S45)]
theorem af4:∀ f s,tbl MP f=some s->ak Tryd.prog f s:=tc H6<|tn
attribute [go_sem] MP
structure gM (d:Dk):Prop where
 now:iM d.now
 pg:∀ i,i<2->iM (d.pg i).st
def qv(d:Dk)(z:Nat):Dk:=⟨d.me,d.now,if 0<z then d.pa else zP,if 1<z then d.pb else zP,d.wet⟩
theorem aea(d:Dk):qv d 2=d:=rfl
theorem ad'(d:Dk){i:Nat}(h:i<2):List.take (20+i*21) (List.map D.v (aq (qv d i)))++List.map D.v (cm ⟨(d.pg i).co,(d.pg i).st,(d.pg i).su⟩)++List.drop (20+i*21+21) (List.map D.v (aq (qv d i)))=List.map D.v (aq (qv d (i+1))):=by
 match i,h with
 | 0,_=>rfl
 | 1,_=>rfl
noncomputable def MD:List (Nat×Spec):=[]
theorem afW:∀ f s,tbl MD f=some s->ak Tryd.prog f s:=tn
attribute [go_sem] MD
theorem WJ(d:Dk):List.take 1 (List.map D.v (aq d))++List.map D.v (aB d.now)++List.drop 20 (List.map D.v (aq d))=List.map D.v (aq d):=rfl
theorem CV(d:Dk){i:Nat}(h:i<2):List.take (20+i*21+1) (List.map D.v (aq d))++List.map D.v (aB (d.pg i).st)++List.drop (20+i*21+1+19) (List.map D.v (aq d))=List.map D.v (aq d):=by
 match i,h with
 | 0,_=>rfl
 | 1,_=>rfl
def FW(d:Dk):List (Name×O):=[([22,0],.box ((aq d).map .v))]
def FX(_:Dk):D:=.ref [22,0] 0
attribute [go_sem] FW FX
noncomputable def MC:List (Nat×Spec):=[(37,S59)]
theorem YU:∀ f s,tbl MC f=some s->ak Tryd.prog f s:=tc tw<|tn
attribute [go_sem] MC
noncomputable def yP:NSpec:=n1 dK (fun d=>gM d) FW FX
noncomputable def S53:Spec:=yP.toSpec
attribute [go_sem] yP S53
set_option maxHeartbeats 4000000 in
theorem AM:ak Tryd.prog 43 S53:=by
 refine F3 (nt:=23) (rs:=[.tmp 2]) Tryd.func43 rfl (by rfl) (by kernel_rfl) (by kernel_rfl) (by decide) ?_
 intro xs hp
 obtain⟨d,rfl,hp,mZ,jJ⟩:=F8 hp
 replace mZ:yP.new _=_:=mZ
 replace jJ:yP.d _=_:=jJ
 rw[mZ,jJ]
 clear mZ jJ
 refine⟨lb rfl,?_⟩
 have hP:=bc
 simp only[iI,iB,ei,iI,iB,rR,ei,tC,jF,gA,pH,dK,n5,AW,iC,iF,encPa,l7,uV,fM,qu,List.map_cons,List.map_nil,eA,Nat.zero_add]
 have hΓ:=YU
 have hs:gM d:=hp
 have rU:=hs.now
 have Co:∀ (F:Name->Option O) (t:Name),F [1,0]=some (.box ((aq d).map .v))->S59.app (fun nm=>if own [0] nm=true then F nm else none) t [.ref [1,0] 1]=⟨True,.v (.agg (aB d.now)),fun nm=>if own [0] nm=true then F nm else none⟩:=fun F t h=>nP (s:=d.now) (L:=aq d) (off:=1) h (so d) rU
 repeat refine sq ?_
 refine rx hΓ [1] [[1,0]] (fun K' hK=>by simp only[go_sem];(repeat (refine⟨ah,?_⟩));exact hK _ (by simp only[go_sem]) (by simp only[go_sem]<;>rfl)) ?_
 repeat refine sq ?_
 refine rx hΓ [1] [[1,0]] (fun K' hK=>by simp only[go_sem,Co,WJ];(repeat (refine⟨ah,?_⟩));exact hK _ (by simp only[go_sem]) (by simp only[go_sem]<;>rfl)) ?_
 repeat refine sq ?_
 refine rx hΓ [1,7] [[1,0]] (fun K' hK=>by simp only[go_sem];(repeat (refine⟨ah,?_⟩));exact hK _ (by simp only[go_sem]) (by simp only[go_sem]<;>rfl)) ?_
 repeat refine sq ?_
 refine aJ ?_
 repeat refine sq ?_
 refine bR (fun z:Nat=>[(7,⟨true,.v (vInt z)⟩)]) (fun z=>[]) (fun z=>z<=2) (fun z=>2-z) 0 ?_ ?_ ?_ ?_
 ·exact Nat.zero_le _
 ·rfl
 ·rfl
 rintro i hi
 simp only[go_sem]
 repeat refine sq ?_
 refine rx hΓ [1,7,8] [[1,0]] (fun K' hK=>by simp only[go_sem];(repeat (refine⟨ah,?_⟩));exact hK _ (by simp only[go_sem]) (by simp only[go_sem]<;>rfl)) ?_
 repeat refine sq ?_
 refine ax rfl rfl (fun hb=>?_) (fun hb=>?_)
 ·have ae:i<2:=by have hq:(i:Int)<2:=(by simpa using hb);omega
  have ai:(i:Int)<2:=by omega
  clear hb
  have Cn:∀ (F:Name->Option O) (t:Name),F [1,0]=some (.box ((aq d).map .v))->S59.app (fun nm=>if own [0] nm=true then F nm else none) t [.ref [1,0] (20+i*21+1)]=⟨True,.v (.agg (aB (d.pg i).st)),fun nm=>if own [0] nm=true then F nm else none⟩:=fun F t h=>nP (s:=(d.pg i).st) (L:=aq d) (off:=20+i*21+1) h (CY d ae) (hs.pg i ae)
  repeat refine sq ?_
  refine aC ?_
  repeat refine sq ?_
  refine aJ ?_
  repeat refine sq ?_
  refine rx hΓ [1,3,7] [[1,0]] (fun K' hK=>by simp only[go_sem,Int.toNat_natCast,Int.natCast_nonneg,ai];(repeat (refine⟨ah,?_⟩));exact hK _ (by simp only[go_sem]) (by simp only[go_sem]<;>rfl)) ?_
  repeat refine sq ?_
  refine aQ hΓ fun K' hK=>?_
  simp only[go_sem,Int.toNat_natCast,Int.natCast_nonneg,ai,Cn,CV d ae,Int.toNat_natCast,Int.natCast_nonneg,ai]
  repeat (refine⟨ah,?_⟩)
  refine hK _ ?_
  clear K' hK
  simp only[go_sem]
  refine kp [1,7] [[1,0]] ?_
  repeat refine sq ?_
  refine aQ hΓ fun K' hK=>?_
  simp only[go_sem,Int.toNat_natCast,Int.natCast_nonneg,ai]
  repeat (refine⟨ah,?_⟩)
  refine hK _ ?_
  clear K' hK
  simp only[go_sem]
  refine⟨i+1,ae,by(show 2-(i+1)<2-i;omega),?_⟩
  refine bd [1,7] [[1,0]] ?_ ?_
  ·simp only[go_sem,aA ae (lb rfl:(2:Nat)<=maxLen),Int.natCast_add,Int.natCast_one,CV d ae]
  ·simp only[go_sem,aA ae (lb rfl:(2:Nat)<=maxLen),Int.natCast_add,Int.natCast_one,CV d ae]
 ·have aV:i=2:=by
   have :¬ (i:Int)<2:=by simpa using hb
   omega
  clear hb
  subst aV
  repeat refine sq ?_
  refine bK ?_
  simp only[go_sem]
  refine kp [1] [[1,0]] ?_
  repeat refine sq ?_
  refine rx hΓ [2] [[22,0]] (fun K' hK=>by simp only[go_sem,List.append_nil];(repeat (refine⟨ah,?_⟩));exact hK _ (by simp only[go_sem]) (by simp only[go_sem]<;>rfl)) ?_
  refine av ?_
  simp only[go_sem]
  skip
theorem Cy(d:Dk):∀ i,cv d i= -1\/aW d.me (d.pg (cv d i).toNat)=true
 | 0=>.inl rfl
 |i+1=>by
  cases h:fK d i (cv d i)with
  |false=>rw[xV h];exact Cy d i
  |true=>
   rw[uR h]
   refine .inr ?_
   unfold fK at h
   simp only[Bool.and_eq_true]at h
   rw[Int.toNat_natCast]
   exact h.1.2
theorem Qz{me:Int}{p:Pg}(h:aW me p=true):ea p.st:=by
 unfold aW at h
 simp only[Bool.and_eq_true]at h
 exact rD h.1.2
def ez(d:Dk):Stk:=(d.pg (bB d).toNat).st
theorem qn{d:Dk}(h:aF d=true):0<=bB d/\bB d<2/\(bB d).toNat<2/\ea (ez d):=by
 have hr:=CC d 2
 have an:bB d≠ -1:=by
  intro he
  have h1:fK d 1 (cv d 1)=false:=by
   cases hc:fK d 1 (cv d 1)with
   |false=>rfl
   |true=>
    have h2:cv d 2=((1:Nat):Int):=uR hc
    have h3:cv d 2= -1:=he
    rw[h2]at h3
    exact absurd h3 (by decide)
  have e1:cv d 1= -1:=by rw[<-xV h1];exact he
  have h0:fK d 0 (cv d 0)=false:=by
   cases hc:fK d 0 (cv d 0)with
   |false=>rfl
   |true=>
    have h2:cv d 1=((0:Nat):Int):=uR hc
    rw[e1]at h2
    exact absurd h2 (by decide)
  rw[e1]at h1
  have a0:(((0:Int) != d.wet)&&aW d.me d.pa)=false:=by simpa[fK,cv,Dk.pg]using h0
  have a1:(((1:Int) != d.wet)&&aW d.me d.pb)=false:=by simpa[fK,Dk.pg]using h1
  unfold aF gp at h
  simp only[Bool.and_eq_true]at h
  obtain⟨⟨_,hi⟩,hw⟩:=h
  have hi:=dS.1 hi
  have mR:d.wet<0\/d.wet=0\/d.wet=1:=by omega
  rcases mR with hn | hz | ho
  ·rw[mo hn]at hw
   have b0:((0:Int) != d.wet)=true:=by simp;omega
   have b1:((1:Int) != d.wet)=true:=by simp;omega
   rw[b0,Bool.true_and]at a0
   rw[b1,Bool.true_and]at a1
   rw[a0,a1]at hw
   simp at hw
  ·rw[oX hz]at hw
   rw[hz]at a1
   have DL:aW d.me d.pb=false:=a1
   rw[DL]at hw
   simp at hw
  ·rw[oW ho]at hw
   rw[ho]at a0
   have Yo:aW d.me d.pa=false:=a0
   rw[Yo]at hw
   simp at hw
 have hi:0<=bB d:=by
  have h1:cv d 2≠ -1:=an
  show 0<=cv d 2
  omega
 have uw:bB d<2:=hr.2
 refine⟨hi,uw,by omega,?_⟩
 rcases Cy d 2 with h1 | h1
 ·exact absurd h1 an
 ·exact Qz h1
theorem sp{d:Dk}(h:(lg d != 0)=false):aF d=true:=by
 cases hb:aF d with
 |true=>rfl
 |false=>rw[jR hb]at h;exact absurd h (by decide)
theorem sr{d:Dk}(h:(lg d != 0)=true):aF d=false:=by
 cases hb:aF d with
 |false=>rfl
 |true=>rw[eO hb]at h;exact absurd h (by decide)
def Bw(d:Dk):List Int:=if aF d=true then d.now.ho else[]
theorem xt{d:Dk}(h:aF d=true):Bw d=d.now.ho:=if_pos h
theorem IJ{d:Dk}(h:aF d=false):Bw d=[]:=if_neg (by rw[h];decide)
theorem Ac{d:Dk}(h:aF d=true):ea d.now:=by
 unfold aF gp at h
 simp only[Bool.and_eq_true]at h
 exact rD h.1.1
@[go_sem] theorem aer(d:Dk):(aq d).getD 1 default=fo d.now.ho:=rfl
noncomputable def MN:List (Nat×Spec):=[(39,S23),(36,S77)]
theorem YX:∀ f s,tbl MN f=some s->ak Tryd.prog f s:=tc n0<|tc AK<|tn
attribute [go_sem] MN
noncomputable def P28:PSpec:=p1 dK (fun _=>True) (fun d=>.tup [.sl ((Bw d).map vInt),vInt (lg d)]) false
noncomputable def S28:Spec:=P28.toSpec
attribute [go_sem] P28 S28
set_option maxHeartbeats 4000000 in
theorem PQ:aR Tryd.prog 13 P28:=by
 refine w1 (rs:=[.tmp 2,.tmp 3]) Tryd.func13 Tryd.ntmps13 (by rfl) (by kernel_rfl) (by decide) (fun h=>by cases h) ⟨_,rfl,lb rfl,fun d hp hw=>?_⟩
 have hP:=bc
 simp only[dK]at hw |-
 have hΓ:=YX
 repeat refine sq ?_
 refine rx hΓ [1] [[1,0]] (fun K' hK=>by simp only[go_sem];(repeat (refine⟨ah,?_⟩));exact hK _ (by simp only[go_sem]) (by simp only[go_sem]<;>rfl)) ?_
 refine bq (dd [1,0] (aq d) rfl [1] [[1,0]] ?_ rfl) ?_
 ·simp only[go_sem]
 simp only[go_sem]
 repeat refine sq ?_
 refine rx hΓ [1,4] [[1,0]] (fun K' hK=>by simp only[go_sem];(repeat (refine⟨ah,?_⟩));exact hK _ (by simp only[go_sem]) (by simp only[go_sem]<;>rfl)) ?_
 repeat refine sq ?_
 refine rx hΓ [1,4,8] [[1,0]] (fun K' hK=>by simp only[go_sem];(repeat (refine⟨ah,?_⟩));exact hK _ (by simp only[go_sem]) (by simp only[go_sem]<;>rfl)) ?_
 repeat refine sq ?_
 refine ax rfl rfl (fun hb=>?_) (fun hb=>?_)
 ·repeat refine sq ?_
  have hd:=sr hb
  repeat refine sq ?_
  refine rx hΓ [2,3] [] (fun K' hK=>by simp only[go_sem];(repeat (refine⟨ah,?_⟩));exact hK _ (by simp only[go_sem]) (by simp only[go_sem]<;>rfl)) ?_
  refine av ?_
  simp only[go_sem]
  first | (rw[IJ hd];rfl) | (rw[xt hd,eO hd];done) | (rw[xt hd,eO hd];rfl)
 ·repeat refine sq ?_
  have hd:=sp hb
  have hz:d.now.ho.length*8<=140737488355328:=(Ac hd).sz.1
  refine aC ?_
  repeat refine sq ?_
  refine rx hΓ [2,3] [] (fun K' hK=>by simp only[go_sem,Nat.add_zero,hz];(repeat (refine⟨ah,?_⟩));exact hK _ (by simp only[go_sem]) (by simp only[go_sem]<;>rfl)) ?_
  refine av ?_
  simp only[go_sem]
  first | (rw[IJ hd];rfl) | (rw[xt hd,eO hd];done) | (rw[xt hd,eO hd];rfl)
theorem k28:ak Tryd.prog 13 S28:=PQ.sound
noncomputable def MM:List (Nat×Spec):=[(77,S39)]
theorem af3:∀ f s,tbl MM f=some s->ak Tryd.prog f s:=tc mM<|tn
attribute [go_sem] MM
def JU(d:Dk):Stk:=if aF d=true then ez d else zS
theorem adY{d:Dk}(h:aF d=true):JU d=ez d:=if_pos h
theorem adZ{d:Dk}(h:aF d=false):JU d=zS:=if_neg (by rw[h];decide)
theorem Cz{d:Dk}(h:aF d=true):((aq d).drop (20+(bB d).toNat*21+1)).take 19=aB (ez d):=CY d (qn h).2.2.1
theorem adR{d:Dk}(h:aF d=true):∀ (F:Name->Option O) (t:Name),F [1,0]=some (.box ((aq d).map .v))->S59.app (fun nm=>if own [0] nm=true then F nm else none) t [.ref [1,0] (20+(bB d).toNat*21+1)]=⟨True,.v (.agg (aB (ez d))),fun nm=>if own [0] nm=true then F nm else none⟩:=
 fun F t hF=>nP (s:=ez d) (L:=aq d) hF (Cz h) (qn h).2.2.2.sz
@[go_sem] theorem acF(s:Stk):((aB s).map D.v).drop 19=[]:=rfl
noncomputable def ML:List (Nat×Spec):=[(39,S23),(45,S58),(37,S59)]
theorem af2:∀ f s,tbl ML f=some s->ak Tryd.prog f s:=tc n0<|tc wW<|tc tw<|tn
attribute [go_sem] ML
noncomputable def MK:List (Nat×Spec):=[(77,S39)]
theorem af1:∀ f s,tbl MK f=some s->ak Tryd.prog f s:=tc mM<|tn
attribute [go_sem] MK
def eB(d:Dk)(t:Int):Bool:=aM t 0 5&&(t != d.me)
def nz(d:Dk)(t:Int):Bool:=aF d&&eB d t
def nA(d:Dk)(t:Int):Int:=if aF d=true then(if eB d t=true then 0 else 94)else 92
theorem yJ{d:Dk}{t:Int}(h:aF d=false):nA d t=92:=if_neg (by rw[h];decide)
theorem vn{d:Dk}{t:Int}(h:aF d=true)(k:eB d t=false):nA d t=94:=by unfold nA;rw[if_pos h,if_neg (by rw[k];decide)]
theorem oO{d:Dk}{t:Int}(h:aF d=true)(k:eB d t=true):nA d t=0:=by unfold nA;rw[if_pos h,if_pos k]
theorem NL(d:Dk)(t:Int):(!aM t 0 5||(t==d.me))=!eB d t:=by
 unfold eB
 have :(t != d.me)=!(t==d.me):=rfl
 rw[this]
 cases aM t 0 5<;>cases (t==d.me)<;>rfl
theorem LP{d:Dk}{t:Int}(h:(nA d t != 0)=false):aF d=true/\eB d t=true:=by
 cases h1:aF d with
 |false=>rw[yJ h1]at h;exact absurd h (by decide)
 |true=>
  cases h2:eB d t with
  |false=>rw[vn h1 h2]at h;exact absurd h (by decide)
  |true=>exact⟨rfl,rfl⟩
theorem LO{d:Dk}{t:Int}(h:(nA d t != 0)=true):nz d t=false:=by
 unfold nz
 cases h1:aF d with
 |false=>rfl
 |true=>
  cases h2:eB d t with
  |false=>rfl
  |true=>rw[oO h1 h2]at h;exact absurd h (by decide)
theorem yZ{d:Dk}{t:Int}(h:eB d t=true):0<=t/\t<6/\t.toNat<6:=by
 unfold eB at h
 simp only[Bool.and_eq_true]at h
 have :=dS.1 h.1
 exact⟨by omega,by omega,by omega⟩
noncomputable def MJ:List (Nat×Spec):=[(39,S23),(34,S82)]
theorem YW:∀ f s,tbl MJ f=some s->ak Tryd.prog f s:=tc n0<|tc wU<|tn
attribute [go_sem] MJ
noncomputable def P51:PSpec:=p2 dK iI (fun _ _=>True) (fun d t=>vInt (nA d t)) true
noncomputable def S51:Spec:=P51.toSpec
attribute [go_sem] P51 S51
set_option maxHeartbeats 4000000 in
theorem PG:aR Tryd.prog 41 P51:=by
 refine w2 (rs:=[.tmp 4]) Tryd.func41 Tryd.ntmps41 (by rfl) (by kernel_rfl) (by decide) (fun _ _ _=>rfl) ⟨_,rfl,lb rfl,fun d t hp hw=>?_⟩
 have hP:=bc
 simp only[dK,iI]at hw |-
 have hΓ:=YW
 repeat refine sq ?_
 refine rx hΓ [1,2] [[2,0]] (fun K' hK=>by simp only[go_sem];(repeat (refine⟨ah,?_⟩));exact hK _ (by simp only[go_sem]) (by simp only[go_sem]<;>rfl)) ?_
 refine bq (dd [2,0] (aq d) rfl [1,2] [[2,0]] ?_ rfl) ?_
 ·simp only[go_sem]
 simp only[go_sem]
 repeat refine sq ?_
 refine rx hΓ [1,2,5] [[2,0]] (fun K' hK=>by simp only[go_sem];(repeat (refine⟨ah,?_⟩));exact hK _ (by simp only[go_sem]) (by simp only[go_sem]<;>rfl)) ?_
 repeat refine sq ?_
 refine rx hΓ [1,2,5,9] [[2,0]] (fun K' hK=>by simp only[go_sem];(repeat (refine⟨ah,?_⟩));exact hK _ (by simp only[go_sem]) (by simp only[go_sem]<;>rfl)) ?_
 repeat refine sq ?_
 refine ax rfl rfl (fun hb=>?_) (fun hb=>?_)
 ·repeat refine sq ?_
  have hd:=sr hb
  have e1:=jR hd
  repeat refine sq ?_
  refine rx hΓ [4] [] (fun K' hK=>by simp only[go_sem];(repeat (refine⟨ah,?_⟩));exact hK _ (by simp only[go_sem]) (by simp only[go_sem]<;>rfl)) ?_
  refine av ?_
  simp only[go_sem]
  first | (rw[yJ hd,e1];done) | (rw[vn hd hk];done) | (rw[oO hd hk];done)
 ·repeat refine sq ?_
  have hd:=sp hb
  refine aC ?_
  repeat refine sq ?_
  refine rx hΓ [19] [] (fun K' hK=>by simp only[go_sem,NL];(repeat (refine⟨ah,?_⟩));exact hK _ (by simp only[go_sem]) (by simp only[go_sem]<;>rfl)) ?_
  repeat refine sq ?_
  refine ax rfl rfl (fun hb=>?_) (fun hb=>?_)
  ·repeat refine sq ?_
   have hk:eB d t=false:=by simpa using hb
   repeat refine sq ?_
   refine rx hΓ [4] [] (fun K' hK=>by simp only[go_sem];(repeat (refine⟨ah,?_⟩));exact hK _ (by simp only[go_sem]) (by simp only[go_sem]<;>rfl)) ?_
   refine av ?_
   simp only[go_sem]
   first | (rw[yJ hd,e1];done) | (rw[vn hd hk];done) | (rw[oO hd hk];done)
  ·repeat refine sq ?_
   have hk:eB d t=true:=by simpa using hb
   refine aC ?_
   repeat refine sq ?_
   refine rx hΓ [4] [] (fun K' hK=>by simp only[go_sem];(repeat (refine⟨ah,?_⟩));exact hK _ (by simp only[go_sem]) (by simp only[go_sem]<;>rfl)) ?_
   refine av ?_
   simp only[go_sem]
   first | (rw[yJ hd,e1];done) | (rw[vn hd hk];done) | (rw[oO hd hk];done)
theorem AN:ak Tryd.prog 41 S51:=PG.sound
noncomputable def MI:List (Nat×Spec):=[(77,S39),(90,S84)]
theorem af0:∀ f s,tbl MI f=some s->ak Tryd.prog f s:=tc mM<|tc wT<|tn
attribute [go_sem] MI
theorem Kz{l:List V}{off:Nat}{s:Stk}(h:(l.drop off).take 19=aB s){i:Nat}(hi:i<19):l.getD (off+i) default=(aB s).getD i default:=by
 have hlen:=C7 h
 rw[<-h,iz (show off+i<l.length by omega),iz (by rw[List.length_take,List.length_drop];omega)]
 simp
def Ed(d:Dk)(t:Int):List Int:=(d.now.un.get t.toNat).map Par.pa
def Eb(d:Dk)(t:Int):List Int:=if nz d t=true then Ed d t else[]
theorem aai{d:Dk}{t:Int}(h:aF d=true)(k:eB d t=true):Eb d t=Ed d t:=if_pos (by unfold nz;rw[h,k];rfl)
theorem aaj{d:Dk}{t:Int}(h:nz d t=false):Eb d t=[]:=if_neg (by rw[h];decide)
def pw(l:List Par)(z:Nat):List Int:=(l.take z).map Par.pa
theorem ac'{l:List Par}{z:Nat}(h:z<l.length):pw l (z+1)=pw l z++[l[z].pa]:=by
 unfold pw
 rw[List.take_add_one,List.getElem?_eq_getElem h,List.map_append]
 rfl
theorem ada{l:List Par}{z:Nat}(h:z<=l.length):(pw l z).length=z:=by
 unfold pw
 rw[List.length_map,List.length_take]
 omega
theorem adb(l:List Par):pw l l.length=l.map Par.pa:=by
 unfold pw
 rw[List.take_length]
theorem WN(d:Dk){i:Nat}(h:i<6):(aq d).getD (1+1+i) default=rowP (d.now.un.get i):=by
 match i,h with
 | 0,_=>rfl
 | 1,_=>rfl
 | 2,_=>rfl
 | 3,_=>rfl
 | 4,_=>rfl
 | 5,_=>rfl
noncomputable def MH:List (Nat×Spec):=[(41,S51)]
theorem afZ:∀ f s,tbl MH f=some s->ak Tryd.prog f s:=tc AN<|tn
attribute [go_sem] MH
noncomputable def MG:List (Nat×Spec):=[]
theorem afY:∀ f s,tbl MG f=some s->ak Tryd.prog f s:=tn
attribute [go_sem] MG
def zQ(d:Dk)(t:Int):Bag:=if nz d t=true then⟨d.me,t,(ez d).un.get t.toNat,(ez d).ta.get t.toNat⟩else⟨0,0,[],0⟩
theorem wg{d:Dk}{t:Int}(h:aF d=true)(k:eB d t=true):zQ d t=⟨d.me,t,(ez d).un.get t.toNat,(ez d).ta.get t.toNat⟩:=if_pos (by unfold nz;rw[h,k];rfl)
theorem wh{d:Dk}{t:Int}(h:nz d t=false):zQ d t=⟨0,0,[],0⟩:=if_neg (by rw[h];decide)
theorem Wm{d:Dk}(h:aF d=true){i:Nat}(hi:i<6):(aq d).getD (20+(bB d).toNat*21+1+1+i) default=rowP ((ez d).un.get i):=by
 rw[Nat.add_assoc (20+(bB d).toNat*21+1),Kz (Cz h) (show 1+i<19 by omega),dh _ hi]
theorem Wn{d:Dk}(h:aF d=true){i:Nat}(hi:i<6):(aq d).getD (20+(bB d).toNat*21+1+13+i) default=vInt ((ez d).ta.get i):=by
 rw[Nat.add_assoc (20+(bB d).toNat*21+1),Kz (Cz h) (show 13+i<19 by omega),dA _ hi]
noncomputable def MF:List (Nat×Spec):=[(41,S51),(45,S58),(46,S76)]
theorem YV:∀ f s,tbl MF f=some s->ak Tryd.prog f s:=tc AN<|tc wW<|tc HT<|tn
attribute [go_sem] MF
noncomputable def P26:PSpec:=p2 dK iI (fun _ _=>True) (fun d t=>.tup [qu (zQ d t),vInt (nA d t)]) false
noncomputable def S26:Spec:=P26.toSpec
attribute [go_sem] P26 S26
set_option maxHeartbeats 4000000 in
theorem PR:aR Tryd.prog 17 P26:=by
 refine w2 (rs:=[.cell 4 54,.tmp 5]) Tryd.func17 Tryd.ntmps17 (by rfl) (by kernel_rfl) (by decide) (fun h=>by cases h) ⟨_,rfl,lb rfl,fun d t hp hw=>?_⟩
 have hP:=bc
 simp only[dK,iI]at hw |-
 have hΓ:=YV
 repeat refine sq ?_
 refine rx hΓ [1,2,4] [[2,0],[4,0]] (fun K' hK=>by simp only[go_sem];(repeat (refine⟨ah,?_⟩));exact hK _ (by simp only[go_sem]) (by simp only[go_sem]<;>rfl)) ?_
 refine bq (dd [2,0] (aq d) rfl [1,2,4] [[2,0],[4,0]] ?_ rfl) ?_
 ·simp only[go_sem]
 simp only[go_sem]
 repeat refine sq ?_
 refine rx hΓ [1,2,4,6] [[2,0],[4,0]] (fun K' hK=>by simp only[go_sem];(repeat (refine⟨ah,?_⟩));exact hK _ (by simp only[go_sem]) (by simp only[go_sem]<;>rfl)) ?_
 repeat refine sq ?_
 refine rx hΓ [1,2,4,6,12] [[2,0],[4,0]] (fun K' hK=>by simp only[go_sem];(repeat (refine⟨ah,?_⟩));exact hK _ (by simp only[go_sem]) (by simp only[go_sem]<;>rfl)) ?_
 repeat refine sq ?_
 refine ax rfl rfl (fun hb=>?_) (fun hb=>?_)
 ·repeat refine sq ?_
  have hn:=LO hb
  repeat refine sq ?_
  refine rx hΓ [4,5] [[4,0]] (fun K' hK=>by simp only[go_sem];(repeat (refine⟨ah,?_⟩));exact hK _ (by simp only[go_sem]) (by simp only[go_sem]<;>rfl)) ?_
  refine av ?_
  simp only[go_sem]
  first | (rw[wh hn];done) | (rw[wh hn];rfl) | (rw[wg hd hk,oO hd hk];done) | (rw[wg hd hk,oO hd hk];rfl)
 ·repeat refine sq ?_
  obtain⟨hd,hk⟩:=LP hb
  obtain⟨tP,tO,ht⟩:=yZ hk
  obtain⟨uB,uA,xD,I7⟩:=qn hd
  have hu:=Wm hd ht
  have ha:=Wn hd ht
  have hz:=I7.sz.2 t.toNat ht
  refine aC ?_
  repeat refine sq ?_
  refine rx hΓ [1,2,4,7] [[2,0],[4,0]] (fun K' hK=>by simp only[go_sem,uB,uA];(repeat (refine⟨ah,?_⟩));exact hK _ (by simp only[go_sem]) (by simp only[go_sem]<;>rfl)) ?_
  repeat refine sq ?_
  refine dx hΓ hP [[],[0],[],[],[],[3],[3,5],[3,4,5,6],[3,4,5,6,7],[3,4,5,6,7,8],[],[],[10],[10,12],[10,11,12,13],[10,11,12,13,14],[0,1,2,3,4,5,6,7,8,9,10,11,12,13,14,15],[0,1,2,3,4,5,6,7,8,9,10,11,12,13,14,15,16],[0,1,2,3,4,5,6,7,8,9,10,11,12,13,14,15,16,17]] [4,5] [[4,0]] (by kernel_rfl) (fun K' hK=>by simp only[go_sem,hu,ha,tP,tO,hz,List.append_nil];(repeat (refine⟨ah,?_⟩));(first | refine⟨by rfl,?_⟩ | skip);exact hK _ (by simp only[go_sem]) (by simp only[go_sem]<;>rfl)) ?_
  refine av ?_
  simp only[go_sem]
  first | (rw[wh hn];done) | (rw[wh hn];rfl) | (rw[wg hd hk,oO hd hk];done) | (rw[wg hd hk,oO hd hk];rfl)
theorem k26:ak Tryd.prog 17 S26:=PR.sound
noncomputable def ME:List (Nat×Spec):=[]
theorem afX:∀ f s,tbl ME f=some s->ak Tryd.prog f s:=tn
attribute [go_sem] ME
attribute [go_sem] List.append_nil
def Dk.setP(d:Dk)(i:Nat)(p:Pg):Dk:=match i with
 | 0=>⟨d.me,d.now,p,d.pb,d.wet⟩
 |_=>⟨d.me,d.now,d.pa,p,d.wet⟩
def Dk.setW(d:Dk)(w:Int):Dk:=⟨d.me,d.now,d.pa,d.pb,w⟩
def Dk.setN(d:Dk)(s:Stk):Dk:=⟨d.me,s,d.pa,d.pb,d.wet⟩
theorem Dk.pg_set(d:Dk){i:Nat}(h:i<2)(p:Pg):(d.setP i p).pg i=p:=by
 match i,h with
 | 0,_=>rfl
 | 1,_=>rfl
theorem Dk.set_set(d:Dk){i:Nat}(h:i<2)(p q:Pg):(d.setP i p).setP i q=d.setP i q:=by
 match i,h with
 | 0,_=>rfl
 | 1,_=>rfl
theorem Dk.now_set(d:Dk)(i:Nat)(p:Pg):(d.setP i p).now=d.now:=by
 match i with
 | 0=>rfl
 |_+1=>rfl
theorem WE(d:Dk)(x:Int):List.take 62 (List.map D.v (aq d))++[D.v (vInt x)]++List.drop 63 (List.map D.v (aq d))=List.map D.v (aq (d.setW x)):=rfl
@[go_sem] theorem ad4(d:Dk)(x:Int):List.take 62 (List.map D.v (aq d))++[D.v (vInt x)]++[]=List.map D.v (aq (d.setW x)):=rfl
@[go_sem] theorem ad3(d:Dk)(x:Int):List.take 62 (List.map D.v (aq d))++[D.v (vInt x)]=List.map D.v (aq (d.setW x)):=rfl
theorem WI(d:Dk){i:Nat}(h:i<2)(c:Int):List.take (20+i*21) (List.map D.v (aq d))++[D.v (vInt c)]++List.drop (20+i*21+1) (List.map D.v (aq d))=List.map D.v (aq (d.setP i ⟨c,(d.pg i).st,(d.pg i).su⟩)):=by
 match i,h with
 | 0,_=>rfl
 | 1,_=>rfl
theorem WG(d:Dk){i:Nat}(h:i<2)(s:Stk):List.take (20+i*21+1) (List.map D.v (aq d))++List.map D.v (aB s)++List.drop (20+i*21+1+19) (List.map D.v (aq d))=List.map D.v (aq (d.setP i ⟨(d.pg i).co,s,(d.pg i).su⟩)):=by
 match i,h with
 | 0,_=>rfl
 | 1,_=>rfl
theorem Ka(d:Dk){i:Nat}(h:i<2)(c:Int):List.take (20+i*21+20) (List.map D.v (aq d))++[D.v (vInt c)]++List.drop (20+i*21+20+1) (List.map D.v (aq d))=List.map D.v (aq (d.setP i ⟨(d.pg i).co,(d.pg i).st,c⟩)):=by
 match i,h with
 | 0,_=>rfl
 | 1,_=>rfl
theorem WH(d:Dk)(s:Stk):List.take 1 (List.map D.v (aq d))++List.map D.v (aB s)++List.drop 20 (List.map D.v (aq d))=List.map D.v (aq (d.setN s)):=rfl
def vC(d:Dk):Int:=if d.wet<0 then 1-bB d else d.wet
def vB(d:Dk):Int:=if d.wet<0 then(d.pg (bB d).toNat).co+1 else(d.pg d.wet.toNat).co
def oV(d:Dk):Dk:=(d.setW (vC d)).setP (vC d).toNat ⟨vB d,d.now,hS d.now (vB d)⟩
def ju(d:Dk):Int:=if aF d=true then(if (decide (d.wet<0)&&((d.pg (bB d).toNat).co==99999))=true then 2 else 0)else 92
def sP(d:Dk):Dk:=if ju d=0 then oV d else zD
def CS(d:Dk):Dk:=if aF d=true then d.setW (-1)else zD
def j7(d:Dk)(n:Int):Bool:=decide (0<=d.wet)&&(n.tmod 2 != 0)
def kJ(d:Dk)(n:Int):Dk:=if j7 d n=true then d.setP d.wet.toNat ⟨(d.pg d.wet.toNat).co,(d.pg d.wet.toNat).st,((d.pg d.wet.toNat).su+1).tmod 1000003⟩else d
def CB(d:Dk)(n:Int):Dk:=((kJ d n).setW (-1)).setN (ez ((kJ d n).setW (-1)))
def CA(d:Dk)(n:Int):Dk:=if aF d=true then CB d n else zD
@[go_sem] theorem aeh(d:Dk):(List.map D.v (aq d)).getD 62 .any=.v (vInt d.wet):=rfl
@[go_sem] theorem aei(d:Dk):(List.map D.v (aq d)).getD 0 .any=.v (vInt d.me):=rfl
theorem CX(d:Dk){i:Nat}(h:i<2):(List.map D.v (aq d)).getD (20+i*21) .any=.v (vInt (d.pg i).co):=by
 match i,h with
 | 0,_=>rfl
 | 1,_=>rfl
theorem WL(d:Dk){i:Nat}(h:i<2):(List.map D.v (aq d)).getD (20+i*21+20) .any=.v (vInt (d.pg i).su):=by
 match i,h with
 | 0,_=>rfl
 | 1,_=>rfl
theorem Kd(d:Dk){i:Nat}(h:i<2):List.take 19 (List.drop (20+i*21+1) (List.map D.v (aq d)))=List.map D.v (aB (d.pg i).st):=by
 match i,h with
 | 0,_=>rfl
 | 1,_=>rfl
@[go_sem] theorem acT(d:Dk)(x:Int):(d.setW x).wet=x:=rfl
@[go_sem] theorem acU(d:Dk)(x:Int):(d.setW x).now=d.now:=rfl
@[go_sem] theorem Oo(d:Dk)(x:Int)(i:Nat):(d.setW x).pg i=d.pg i:=by
  cases i<;>rfl
theorem Ou(d:Dk)(i:Nat)(p:Pg):(d.setP i p).wet=d.wet:=by
 cases i<;>rfl
theorem Ov(d:Dk)(i:Nat)(p:Pg):(d.setP i p).me=d.me:=by
 cases i<;>rfl
theorem acX(d:Dk)(i:Nat)(p:Pg)(x:Int):(d.setP i p).setW x=(d.setW x).setP i p:=by
 cases i<;>rfl
theorem On(d:Dk):d.setW d.wet=d:=rfl
theorem acW(d:Dk)(i:Nat):d.setP i ⟨(d.pg i).co,(d.pg i).st,(d.pg i).su⟩=d:=by
 cases i<;>rfl
theorem Ng{d:Dk}(h:aF d=false):sP d=zD/\ju d=92:=by
 have :ju d=92:=if_neg (by rw[h];decide)
 exact⟨if_neg (by rw[this];decide),this⟩
theorem Nh{d:Dk}(h:aF d=true)(hw:d.wet<0)(hc:(d.pg (bB d).toNat).co=99999):sP d=zD/\ju d=2:=by
 have :ju d=2:=by unfold ju;rw[if_pos h,if_pos (by rw[hc];simpa using hw)]
 exact⟨if_neg (by rw[this];decide),this⟩
theorem Nf{d:Dk}(h:aF d=true)(hw:d.wet<0)(hc:(d.pg (bB d).toNat).co≠99999):sP d=oV d/\ju d=0:=by
 have :ju d=0:=by unfold ju;rw[if_pos h,if_neg (by simp[hc])]
 exact⟨if_pos this,this⟩
theorem Ni{d:Dk}(h:aF d=true)(hw:¬ d.wet<0):sP d=oV d/\ju d=0:=by
 have :ju d=0:=by unfold ju;rw[if_pos h,if_neg (by simp[hw])]
 exact⟨if_pos this,this⟩
structure sF (d E:Dk) (a:Int):Prop where
 a0:0<=a
 a2:a<2
 k:a.toNat<2
 wet:E.wet=a
 now:E.now=d.now
 okn:bO (E.pg a.toNat).co
 fin:E.setP a.toNat ⟨(E.pg a.toNat).co,d.now,hS d.now (E.pg a.toNat).co⟩=oV d
theorem zR{me:Int}{p:Pg}(h:aW me p=true):0<=p.co/\p.co<=99999:=by
 unfold aW at h
 simp only[Bool.and_eq_true]at h
 exact dS.1 h.1.1
theorem WD{d:Dk}(h:aF d=true): -1<=d.wet/\d.wet<=1:=by
 unfold aF gp at h
 simp only[Bool.and_eq_true]at h
 exact dS.1 h.1.2
theorem xZ{d:Dk}(h:aF d=true)(hw:¬ d.wet<0):aW d.me d.pa=true/\aW d.me d.pb=true/\d.wet.toNat<2/\d.wet<2/\(d.pg (1-d.wet).toNat).co<(d.pg d.wet.toNat).co:=by
 have hr:=WD h
 unfold aF jZ at h
 rw[if_neg hw]at h
 simp only[Bool.and_eq_true,decide_eq_true_eq]at h
 exact⟨h.2.1.1,h.2.1.2,by omega,by omega,h.2.2⟩
theorem Ft{d:Dk}(ha:aW d.me d.pa=true)(hb:aW d.me d.pb=true):∀ i,aW d.me (d.pg i)=true
 | 0=>ha
 |_+1=>hb
theorem Nc{d:Dk}(h:aF d=true)(hw:¬ d.wet<0):sF d d d.wet:=by
 obtain⟨h1,h2,h3,h4,_⟩:=xZ h hw
 have hp:=zR (Ft h1 h2 d.wet.toNat)
 refine⟨by omega,h4,h3,rfl,rfl,⟨hp.1,by omega⟩,?_⟩
 unfold oV vC vB
 rw[if_neg hw,if_neg hw,On]
theorem Wt{d:Dk}(h:aF d=true):aW d.me (d.pg (bB d).toNat)=true:=by
 rcases Cy d 2 with h1 | h1
 ·have:=(qn h).1
  have e:bB d= -1:=h1
  omega
 ·exact h1
def mm(d:Dk):Dk:=(d.setW (1-bB d)).setP (1-bB d).toNat ⟨(d.pg (bB d).toNat).co+1,(d.pg (1-bB d).toNat).st,(d.pg (1-bB d).toNat).su⟩
theorem Nb{d:Dk}(h:aF d=true)(hw:d.wet<0)(hc:(d.pg (bB d).toNat).co≠99999):sF d (mm d) (1-bB d)/\IntKind.i64.wrap (1-bB d)=1-bB d/\
 IntKind.i64.wrap ((d.pg (bB d).toNat).co+1)=(d.pg (bB d).toNat).co+1:=by
 obtain⟨uB,uA,xD,_⟩:=qn h
 have hp:=zR (Wt h)
 have hk:(1-bB d).toNat<2:=by omega
 refine⟨⟨by omega,by omega,hk,by unfold mm;rw[Ou];rfl,by unfold mm;rw[Dk.now_set];rfl,?_,?_⟩,wrap_i64 (by omega) (by omega),wrap_i64 (by omega) (by omega)⟩
 ·unfold mm
  rw[Dk.pg_set _ hk]
  exact⟨by show 0<=(d.pg (bB d).toNat).co+1;omega,by show (d.pg (bB d).toNat).co+1<=1000000;omega⟩
 ·unfold mm oV vC vB
  rw[if_pos hw,if_pos hw,Dk.pg_set _ hk,Dk.set_set _ hk]
attribute [go_sem] s4
theorem D2{d E:Dk}{a:Int}(H:sF d E a):List.take (20+a.toNat*21+1) (List.map D.v (aq E))++List.map D.v (aB d.now)++List.drop (20+a.toNat*21+1+19) (List.map D.v (aq E))=List.map D.v (aq (E.setP a.toNat ⟨(E.pg a.toNat).co,d.now,(E.pg a.toNat).su⟩)):=WG E H.k d.now
theorem D0{d E:Dk}{a:Int}(H:sF d E a):List.take 19 (List.drop (20+a.toNat*21+1) (List.map D.v (aq (E.setP a.toNat ⟨(E.pg a.toNat).co,d.now,(E.pg a.toNat).su⟩))))=List.map D.v (aB d.now):=by
 rw[Kd _ H.k,Dk.pg_set _ H.k]
theorem D3{d E:Dk}{a:Int}(H:sF d E a):(List.map D.v (aq (E.setP a.toNat ⟨(E.pg a.toNat).co,d.now,(E.pg a.toNat).su⟩))).getD (20+a.toNat*21) .any=.v (vInt (E.pg a.toNat).co):=by
 rw[CX _ H.k,Dk.pg_set _ H.k]
theorem D1{d E:Dk}{a:Int}(H:sF d E a):List.take (20+a.toNat*21+20) (List.map D.v (aq (E.setP a.toNat ⟨(E.pg a.toNat).co,d.now,(E.pg a.toNat).su⟩)))++[D.v (vInt (hS d.now (E.pg a.toNat).co))]++
 List.drop (20+a.toNat*21+20+1) (List.map D.v (aq (E.setP a.toNat ⟨(E.pg a.toNat).co,d.now,(E.pg a.toNat).su⟩)))=List.map D.v (aq (oV d)):=by
 rw[Ka _ H.k,Dk.pg_set _ H.k,Dk.set_set _ H.k,H.fin]
theorem adS{E:Dk}{s:Stk}(nm:Name)(e:E.now=s)(hs:iM s):∀ (F:Name->Option O) (t:Name),F nm=some (.box ((aq E).map .v))->S59.app (fun nm=>if own [0] nm=true then F nm else none) t [.ref nm 1]=(if own [0] nm=true then⟨True,.v (.agg (aB s)),fun nm=>if own [0] nm=true then F nm else none⟩else S59.app (fun nm=>if own [0] nm=true then F nm else none) t [.ref nm 1]):=fun F t h=>by
 by_cases ho:own [0] nm=true
 ·rw[if_pos ho]
  exact nP (s:=s) (L:=aq E) (off:=1) (by rw[if_pos ho];exact h) (by rw[<-e];exact so E) hs
 ·rw[if_neg ho]
noncomputable def MB:List (Nat×Spec):=[(39,S23),(43,S53),(45,S58),(37,S59),(38,S60)]
theorem YT:∀ f s,tbl MB f=some s->ak Tryd.prog f s:=tc n0<|tc AM<|tc wW<|tc tw<|tc wV<|tn
attribute [go_sem] MB
noncomputable def P10:PSpec:=p1 dK (fun d=>gM d) (fun d=>.tup [fM (sP d),vInt (ju d)]) false
noncomputable def S10:Spec:=P10.toSpec
attribute [go_sem] P10 S10
set_option maxHeartbeats 4000000 in
theorem Qa:aR Tryd.prog 15 P10:=by
 refine w1 (rs:=[.cell 2 44,.tmp 3]) Tryd.func15 Tryd.ntmps15 (by rfl) (by kernel_rfl) (by decide) (fun h=>by cases h) ⟨_,rfl,lb rfl,fun d hp hw=>?_⟩
 have hP:=bc
 simp only[dK]at hw |-
 have hΓ:=YT
 have hs:gM d:=hp
 repeat refine sq ?_
 refine rx hΓ [1,2] [[1,0],[2,0]] (fun K' hK=>by simp only[go_sem];(repeat (refine⟨ah,?_⟩));exact hK _ (by simp only[go_sem]) (by simp only[go_sem]<;>rfl)) ?_
 refine bq (oZ [2,0] _ (aq zD) rfl rfl [1,2] [[1,0],[2,0]] ?_ rfl) ?_
 ·simp only[go_sem]
 simp only[go_sem]
 refine bq (dd [1,0] (aq d) rfl [1,2] [[1,0],[2,0]] ?_ rfl) ?_
 ·simp only[go_sem]
 simp only[go_sem]
 repeat refine sq ?_
 refine rx hΓ [1,2,4] [[1,0],[2,0]] (fun K' hK=>by simp only[go_sem];(repeat (refine⟨ah,?_⟩));exact hK _ (by simp only[go_sem]) (by simp only[go_sem]<;>rfl)) ?_
 repeat refine sq ?_
 refine rx hΓ [1,2,4,11] [[1,0],[2,0]] (fun K' hK=>by simp only[go_sem];(repeat (refine⟨ah,?_⟩));exact hK _ (by simp only[go_sem]) (by simp only[go_sem]<;>rfl)) ?_
 repeat refine sq ?_
 refine ax rfl rfl (fun hb=>?_) (fun hb=>?_)
 ·repeat refine sq ?_
  have hd:=sr hb
  have hq:=Ng hd
  have e1:=jR hd
  repeat refine sq ?_
  refine rx hΓ [2,3] [[2,0]] (fun K' hK=>by simp only[go_sem,List.append_nil];(repeat (refine⟨ah,?_⟩));exact hK _ (by simp only[go_sem]) (by simp only[go_sem]<;>rfl)) ?_
  refine av ?_
  simp only[go_sem]
  first | (rw[hq.1,hq.2];done) | (rw[hq.1,hq.2];rfl) | (rw[hq.1,hq.2,e1];done) | (rw[hq.1,hq.2,e1];rfl)
 ·repeat refine sq ?_
  have hd:=sp hb
  obtain⟨uB,uA,xD,I7⟩:=qn hd
  have rU:=(Ac hd)
  refine aC ?_
  repeat refine sq ?_
  refine rx hΓ [1,2,5] [[1,0],[2,0],[22,0,15,0]] (fun K' hK=>by simp only[go_sem,hs,List.append_nil];(repeat (refine⟨ah,?_⟩));exact hK _ (by simp only[go_sem]) (by simp only[go_sem]<;>rfl)) ?_
  repeat refine sq ?_
  refine rx hΓ [2,5,6] [[2,0],[22,0,15,0]] (fun K' hK=>by simp only[go_sem];(repeat (refine⟨ah,?_⟩));exact hK _ (by simp only[go_sem]) (by simp only[go_sem]<;>rfl)) ?_
  repeat refine sq ?_
  refine rx hΓ [2,5,6,23] [[2,0],[22,0,15,0]] (fun K' hK=>by simp only[go_sem,Nat.add_zero];(repeat (refine⟨ah,?_⟩));exact hK _ (by simp only[go_sem]) (by simp only[go_sem]<;>rfl)) ?_
  repeat refine sq ?_
  refine ax rfl rfl (fun hb=>?_) (fun hb=>?_)
  ·repeat refine sq ?_
   have hw:d.wet<0:=by simpa using hb
   have qc:=CX d xD
   repeat refine sq ?_
   refine rx hΓ [2,5,6,32] [[2,0],[22,0,15,0]] (fun K' hK=>by simp only[go_sem,Nat.add_zero,uB,uA,qc];(repeat (refine⟨ah,?_⟩));exact hK _ (by simp only[go_sem]) (by simp only[go_sem]<;>rfl)) ?_
   repeat refine sq ?_
   refine ax rfl rfl (fun hb=>?_) (fun hb=>?_)
   ·repeat refine sq ?_
    have hc:(d.pg (bB d).toNat).co=99999:=by simpa using hb
    have hq:=Nh hd hw hc
    repeat refine sq ?_
    refine rx hΓ [2,3] [[2,0]] (fun K' hK=>by simp only[go_sem,List.append_nil];(repeat (refine⟨ah,?_⟩));exact hK _ (by simp only[go_sem]) (by simp only[go_sem]<;>rfl)) ?_
    refine av ?_
    simp only[go_sem]
    first | (rw[hq.1,hq.2];done) | (rw[hq.1,hq.2];rfl) | (rw[hq.1,hq.2,e1];done) | (rw[hq.1,hq.2,e1];rfl)
   ·repeat refine sq ?_
    have hc:(d.pg (bB d).toNat).co≠99999:=by simpa using hb
    have hq:=Nf hd hw hc
    obtain⟨H,w1,w2⟩:=Nb hd hw hc
    have oy:∀ (F:Name->Option O) (t:Name),F [22,0,15,0]=some (.box ((aq (mm d)).map .v))->S59.app (fun nm=>if own [0] nm=true then F nm else none) t [.ref [22,0,15,0] 1]=⟨True,.v (.agg (aB d.now)),fun nm=>if own [0] nm=true then F nm else none⟩:=fun F t h=>nP (s:=d.now) (L:=aq (mm d)) (off:=1) h (by rw[so,H.now]) hs.now
    have v8:=H.a0;have v7:=H.a2;have qS:=D2 H;have qT:=D0 H;have qC:=D3 H;have qU:=D1 H;have qO:=H.okn
    have qw:(mm d).wet=1-bB d:=H.wet
    have qd:=CX (d.setW (1-bB d)) xD
    have qe:List.take (20+(1-bB d).toNat*21) (List.map D.v (aq (d.setW (1-bB d))))++[D.v (vInt ((d.pg (bB d).toNat).co+1))]++List.drop (20+(1-bB d).toNat*21+1) (List.map D.v (aq (d.setW (1-bB d))))=List.map D.v (aq (mm d)):=by rw[WI _ H.k,Oo];rfl
    refine aC ?_
    repeat refine sq ?_
    refine rx hΓ [2,5,6] [[2,0],[22,0,15,0]] (fun K' hK=>by simp only[go_sem,w1,WE];(repeat (refine⟨ah,?_⟩));exact hK _ (by simp only[go_sem]) (by simp only[go_sem]<;>rfl)) ?_
    repeat refine sq ?_
    refine dx hΓ hP [[],[],[1],[1,2],[1,2,3],[1,2,3,4],[],[],[6],[6,8],[6,8,9],[6,7,8,9,10],[6,7,8,9,10,11],[6,7,8,9,10,11,12],[6,7,8,9,10,11,12,13],[0],[0,15],[0,15,16],[0,1,2,3,4,5,6,7,8,9,10,11,12,13,14,15,16,17],[0,1,2,3,4,5,6,7,8,9,10,11,12,13,14,15,16,17,18],[0,1,2,3,4,5,6,7,8,9,10,11,12,13,14,15,16,17,18,19]] [2,5] [[2,0],[22,0,15,0]] (by kernel_rfl) (fun K' hK=>by simp only[go_sem,Nat.add_zero,uB,uA,qd,w2,v8,v7,qe];(repeat (refine⟨ah,?_⟩));(first | refine⟨by rfl,?_⟩ | skip);exact hK _ (by simp only[go_sem]) (by simp only[go_sem]<;>rfl)) ?_
    repeat refine sq ?_
    refine dx hΓ hP [[],[],[1],[1,2],[1,2,3],[1,2,3,4],[0],[0,6],[0,6,7],[0,1,2,3,4,5,6,7,8],[0,1,2,3,4,5,6,7,8,9]] [2,5,7] [[2,0],[22,0,15,0]] (by kernel_rfl) (fun K' hK=>by simp only[go_sem,v8,v7,qw];(repeat (refine⟨ah,?_⟩));(first | refine⟨by rfl,?_⟩ | skip);exact hK _ (by simp only[go_sem]) (by simp only[go_sem]<;>rfl)) ?_
    repeat refine sq ?_
    refine rx hΓ [2,5,7] [[2,0],[22,0,15,0]] (fun K' hK=>by simp only[go_sem,oy,qS];(repeat (refine⟨ah,?_⟩));exact hK _ (by simp only[go_sem]) (by simp only[go_sem]<;>rfl)) ?_
    repeat refine sq ?_
    refine dx hΓ hP [[],[],[1],[1,2],[1,2,3],[],[5],[5,6],[5,6,7],[1,2,3,4,5,6,7,8],[0,1,2,3,4,5,6,7,8,9],[0,1,2,3,4,5,6,7,8,9,10],[0,1,2,3,4,5,6,7,8,9,10,11]] [2,5] [[2,0],[22,0,15,0]] (by kernel_rfl) (fun K' hK=>by simp only[go_sem,Nat.add_zero,qT,qC,qU];(repeat (refine⟨by first | exact⟨rU,qO⟩ | exact ah,?_⟩));(first | refine⟨by rfl,?_⟩ | skip);exact hK _ (by simp only[go_sem]) (by simp only[go_sem]<;>rfl)) ?_
    repeat refine sq ?_
    refine rx hΓ [2,3] [[2,0]] (fun K' hK=>by simp only[go_sem,List.append_nil];(repeat (refine⟨ah,?_⟩));exact hK _ (by simp only[go_sem]) (by simp only[go_sem]<;>rfl)) ?_
    refine av ?_
    simp only[go_sem]
    first | (rw[hq.1,hq.2];done) | (rw[hq.1,hq.2];rfl) | (rw[hq.1,hq.2,e1];done) | (rw[hq.1,hq.2,e1];rfl)
  ·repeat refine sq ?_
   have hw:¬ d.wet<0:=by simpa using hb
   have H:=Nc hd hw
   have qw:True:=trivial
   have hq:=Ni hd hw
   have oy:∀ (F:Name->Option O) (t:Name),F [22,0,15,0]=some (.box ((aq d).map .v))->S59.app (fun nm=>if own [0] nm=true then F nm else none) t [.ref [22,0,15,0] 1]=⟨True,.v (.agg (aB d.now)),fun nm=>if own [0] nm=true then F nm else none⟩:=fun F t h=>nP (s:=d.now) (L:=aq d) (off:=1) h (so d) hs.now
   have v8:=H.a0;have v7:=H.a2;have qS:=D2 H;have qT:=D0 H;have qC:=D3 H;have qU:=D1 H;have qO:=H.okn
   refine aC ?_
   repeat refine sq ?_
   refine dx hΓ hP [[],[],[1],[1,2],[1,2,3],[1,2,3,4],[0],[0,6],[0,6,7],[0,1,2,3,4,5,6,7,8],[0,1,2,3,4,5,6,7,8,9]] [2,5,7] [[2,0],[22,0,15,0]] (by kernel_rfl) (fun K' hK=>by simp only[go_sem,v8,v7,qw];(repeat (refine⟨ah,?_⟩));(first | refine⟨by rfl,?_⟩ | skip);exact hK _ (by simp only[go_sem]) (by simp only[go_sem]<;>rfl)) ?_
   repeat refine sq ?_
   refine rx hΓ [2,5,7] [[2,0],[22,0,15,0]] (fun K' hK=>by simp only[go_sem,oy,qS];(repeat (refine⟨ah,?_⟩));exact hK _ (by simp only[go_sem]) (by simp only[go_sem]<;>rfl)) ?_
   repeat refine sq ?_
   refine dx hΓ hP [[],[],[1],[1,2],[1,2,3],[],[5],[5,6],[5,6,7],[1,2,3,4,5,6,7,8],[0,1,2,3,4,5,6,7,8,9],[0,1,2,3,4,5,6,7,8,9,10],[0,1,2,3,4,5,6,7,8,9,10,11]] [2,5] [[2,0],[22,0,15,0]] (by kernel_rfl) (fun K' hK=>by simp only[go_sem,Nat.add_zero,qT,qC,qU];(repeat (refine⟨by first | exact⟨rU,qO⟩ | exact ah,?_⟩));(first | refine⟨by rfl,?_⟩ | skip);exact hK _ (by simp only[go_sem]) (by simp only[go_sem]<;>rfl)) ?_
   repeat refine sq ?_
   refine rx hΓ [2,3] [[2,0]] (fun K' hK=>by simp only[go_sem,List.append_nil];(repeat (refine⟨ah,?_⟩));exact hK _ (by simp only[go_sem]) (by simp only[go_sem]<;>rfl)) ?_
   refine av ?_
   simp only[go_sem]
   first | (rw[hq.1,hq.2];done) | (rw[hq.1,hq.2];rfl) | (rw[hq.1,hq.2,e1];done) | (rw[hq.1,hq.2,e1];rfl)
theorem k10:ak Tryd.prog 15 S10:=Qa.sound
noncomputable def MA:List (Nat×Spec):=[(77,S39),(94,S63)]
theorem afV:∀ f s,tbl MA f=some s->ak Tryd.prog f s:=tc mM<|tc AL<|tn
attribute [go_sem] MA
theorem xX{d:Dk}(h:aF d=true):CS d=d.setW (-1):=if_pos h
theorem xY{d:Dk}(h:aF d=false):CS d=zD:=if_neg (by rw[h];decide)
theorem si{d:Dk}{n:Int}(h:aF d=true):CA d n=CB d n:=if_pos h
theorem sj{d:Dk}{n:Int}(h:aF d=false):CA d n=zD:=if_neg (by rw[h];decide)
theorem vN{d:Dk}{n:Int}(h:j7 d n=true):kJ d n=d.setP d.wet.toNat ⟨(d.pg d.wet.toNat).co,(d.pg d.wet.toNat).st,((d.pg d.wet.toNat).su+1).tmod 1000003⟩:=if_pos h
theorem vO{d:Dk}{n:Int}(h:j7 d n=false):kJ d n=d:=if_neg (by rw[h];decide)
theorem EF{d:Dk}{n:Int}(h:j7 d n=true):¬ d.wet<0:=by
 unfold j7 at h
 simp only[Bool.and_eq_true,decide_eq_true_eq]at h
 omega
theorem Fv{me:Int}{p:Pg}(h:aW me p=true):0<=p.su/\p.su<1000003:=by
 have hc:=zR h
 unfold aW at h
 simp only[Bool.and_eq_true,beq_iff_eq]at h
 rw[h.2]
 exact vJ ⟨hc.1,by omega⟩ _
theorem Fw{me:Int}{p:Pg}(h:aW me p=true):aW me ⟨p.co,p.st,(p.su+1).tmod 1000003⟩=false:=by
 obtain⟨h1,h2⟩:=Fv h
 unfold aW at h |-
 simp only[Bool.and_eq_true,beq_iff_eq]at h
 have an:(p.su+1).tmod 1000003≠p.su:=by
  rw[Int.tmod_eq_emod_of_nonneg (by omega)]
  omega
 have :((p.su+1).tmod 1000003==hS p.st p.co)=false:=by
  rw[beq_eq_false_iff_ne,<-h.2];exact an
 rw[this,Bool.and_false]
theorem Wq{d:Dk}{n:Int}(h:aF d=true):aF ((kJ d n).setW (-1))=true:=by
 have hh:=h
 unfold aF gp at hh
 simp only[Bool.and_eq_true]at hh
 obtain⟨⟨hs,_⟩,Uo⟩:=hh
 have mV:∀ e:Dk,(e.setW (-1)).wet<0:=fun e=>by show (-1:Int)<0;omega
 unfold aF
 rw[mo (mV _)]
 have Vk:gp ((kJ d n).setW (-1))=true:=by
  unfold gp
  have e1:((kJ d n).setW (-1)).me=d.me:=by
   cases hb:j7 d n
   ·rw[vO hb];rfl
   ·rw[vN hb];exact Ov _ _ _
  have e2:((kJ d n).setW (-1)).now=d.now:=by
   cases hb:j7 d n
   ·rw[vO hb];rfl
   ·rw[vN hb];exact Dk.now_set _ _ _
  rw[e1,e2,hs];rfl
 rw[Vk,Bool.true_and]
 cases hb:j7 d n with
 |false=>
  rw[vO hb]
  show ((aW d.me d.pa||aW d.me d.pb)&&!((aW d.me d.pa&&aW d.me d.pb)&&(d.pa.co==d.pb.co)))=true
  by_cases hw:d.wet<0
  ·rw[<-mo hw];exact Uo
  ·obtain⟨h1,h2,h3,h4,h5⟩:=xZ h hw
   rw[h1,h2]
   have an:(d.pa.co==d.pb.co)=false:=by
    rw[beq_eq_false_iff_ne]
    have mR:d.wet=0\/d.wet=1:=by omega
    rcases mR with e | e<;>rw[e]at h5
    ·have Cp:d.pb.co<d.pa.co:=h5
     omega
    ·have Cp:d.pa.co<d.pb.co:=h5
     omega
   rw[an];rfl
 |true=>
  have hw:=EF hb
  rw[vN hb]
  obtain⟨h1,h2,h3,h4,_⟩:=xZ h hw
  have mR:d.wet=0\/d.wet=1:=by omega
  rcases mR with e | e<;>rw[e]
  ·show ((aW d.me ⟨d.pa.co,d.pa.st,(d.pa.su+1).tmod 1000003⟩||aW d.me d.pb)&&!((aW d.me ⟨d.pa.co,d.pa.st,(d.pa.su+1).tmod 1000003⟩&&aW d.me d.pb)&&(d.pa.co==d.pb.co)))=true
   rw[Fw h1,h2];rfl
  ·show ((aW d.me d.pa||aW d.me ⟨d.pb.co,d.pb.st,(d.pb.su+1).tmod 1000003⟩)&&!((aW d.me d.pa&&aW d.me ⟨d.pb.co,d.pb.st,(d.pb.su+1).tmod 1000003⟩)&&(d.pa.co==d.pb.co)))=true
   rw[Fw h2,h1];rfl
noncomputable def My:List (Nat×Spec):=[(39,S23),(43,S53)]
theorem YS:∀ f s,tbl My f=some s->ak Tryd.prog f s:=tc n0<|tc AM<|tn
attribute [go_sem] My
noncomputable def P12:PSpec:=p1 dK (fun d=>gM d) (fun d=>.tup [fM (CS d),vInt (lg d)]) false
noncomputable def S12:Spec:=P12.toSpec
attribute [go_sem] P12 S12
set_option maxHeartbeats 4000000 in
theorem PZ:aR Tryd.prog 16 P12:=by
 refine w1 (rs:=[.cell 2 44,.tmp 3]) Tryd.func16 Tryd.ntmps16 (by rfl) (by kernel_rfl) (by decide) (fun h=>by cases h) ⟨_,rfl,lb rfl,fun d hp hw=>?_⟩
 have hP:=bc
 simp only[dK]at hw |-
 have hΓ:=YS
 have hs:gM d:=hp
 repeat refine sq ?_
 refine rx hΓ [1,2] [[1,0],[2,0]] (fun K' hK=>by simp only[go_sem];(repeat (refine⟨ah,?_⟩));exact hK _ (by simp only[go_sem]) (by simp only[go_sem]<;>rfl)) ?_
 refine bq (oZ [2,0] _ (aq zD) rfl rfl [1,2] [[1,0],[2,0]] ?_ rfl) ?_
 ·simp only[go_sem]
 simp only[go_sem]
 refine bq (dd [1,0] (aq d) rfl [1,2] [[1,0],[2,0]] ?_ rfl) ?_
 ·simp only[go_sem]
 simp only[go_sem]
 repeat refine sq ?_
 refine rx hΓ [1,2,4] [[1,0],[2,0]] (fun K' hK=>by simp only[go_sem];(repeat (refine⟨ah,?_⟩));exact hK _ (by simp only[go_sem]) (by simp only[go_sem]<;>rfl)) ?_
 repeat refine sq ?_
 refine rx hΓ [1,2,4,9] [[1,0],[2,0]] (fun K' hK=>by simp only[go_sem];(repeat (refine⟨ah,?_⟩));exact hK _ (by simp only[go_sem]) (by simp only[go_sem]<;>rfl)) ?_
 repeat refine sq ?_
 refine ax rfl rfl (fun hb=>?_) (fun hb=>?_)
 ·repeat refine sq ?_
  have hd:=sr hb
  repeat refine sq ?_
  refine rx hΓ [2,3] [[2,0]] (fun K' hK=>by simp only[go_sem,List.append_nil];(repeat (refine⟨ah,?_⟩));exact hK _ (by simp only[go_sem]) (by simp only[go_sem]<;>rfl)) ?_
  refine av ?_
  simp only[go_sem]
  first | (rw[xY hd];done) | (rw[xY hd];rfl) | (rw[xX hd,eO hd];done) | (rw[xX hd,eO hd];rfl)
 ·repeat refine sq ?_
  have hd:=sp hb
  refine aC ?_
  repeat refine sq ?_
  refine rx hΓ [2,5] [[2,0],[22,0,13,0]] (fun K' hK=>by simp only[go_sem,hs,List.append_nil];(repeat (refine⟨ah,?_⟩));exact hK _ (by simp only[go_sem]) (by simp only[go_sem]<;>rfl)) ?_
  repeat refine sq ?_
  refine rx hΓ [2,5] [[2,0],[22,0,13,0]] (fun K' hK=>by simp only[go_sem,List.append_nil];(repeat (refine⟨ah,?_⟩));exact hK _ (by simp only[go_sem]) (by simp only[go_sem]<;>rfl)) ?_
  repeat refine sq ?_
  refine rx hΓ [2,3] [[2,0]] (fun K' hK=>by simp only[go_sem,List.append_nil];(repeat (refine⟨ah,?_⟩));exact hK _ (by simp only[go_sem]) (by simp only[go_sem]<;>rfl)) ?_
  refine av ?_
  simp only[go_sem]
  first | (rw[xY hd];done) | (rw[xY hd];rfl) | (rw[xX hd,eO hd];done) | (rw[xX hd,eO hd];rfl)
theorem k12:ak Tryd.prog 16 S12:=PZ.sound
noncomputable def Mx:List (Nat×Spec):=[(77,S39)]
theorem afU:∀ f s,tbl Mx f=some s->ak Tryd.prog f s:=tc mM<|tn
attribute [go_sem] Mx
noncomputable def P21:PSpec:=p2 iI iI (fun n m=>0<m/\m<=1000000) (fun n m=>vInt (n % m)) true
noncomputable def S21:Spec:=P21.toSpec
attribute [go_sem] P21 S21
theorem PU:aR Tryd.prog 12 P21:=by
 refine w2 (rs:=[.tmp 4]) Tryd.func12 Tryd.ntmps12 (by rfl) (by kernel_rfl) (by decide) (fun _ _ _=>rfl) ⟨_,rfl,lb rfl,fun n m hp hw=>?_⟩
 have hP:=bc
 simp only[iI]at hw |-
 have hΓ:=@ig Tryd.prog
 obtain⟨hm,ev⟩:=hp
 have h0:m≠0:=by omega
 have bS: -m<n.tmod m/\n.tmod m<m:=⟨Int.lt_tmod_of_pos _ hm,Int.tmod_lt_of_pos _ hm⟩
 have w2:IntKind.i64.wrap (n.tmod m+m)=n.tmod m+m:=wrap_i64 (by omega) (by omega)
 have e1:(n.tmod m+m).tmod m=n % m:=by
  rw[Int.tmod_eq_emod_of_nonneg (by omega),Int.add_emod_right]
  have h1:=Int.tmod_add_mul_tdiv n m
  have h2:(n.tmod m+m*n.tdiv m) % m=n.tmod m % m:=Int.add_mul_emod_self_left _ _ _
  rw[<-h2,h1]
 repeat refine sq ?_
 refine rx hΓ [0,1] [] (fun K' hK=>by simp only[go_sem];(repeat (refine⟨ah,?_⟩));exact hK _ (by simp only[go_sem]) (by simp only[go_sem]<;>rfl)) ?_
 repeat refine sq ?_
 refine rx hΓ [4] [] (fun K' hK=>by simp only[go_sem,w2,e1,h0,ne_eq,not_false_eq_true];(repeat (refine⟨by first | exact ah | exact h0,?_⟩));exact hK _ (by simp only[go_sem]) (by simp only[go_sem]<;>rfl)) ?_
 refine av ?_
 simp only[go_sem]
 skip
theorem TA:ak Tryd.prog 12 S21:=PU.sound
theorem ad1(n:Int):(n % 2==1)=(n.tmod 2 != 0):=by
 rw[Bool.eq_iff_iff,beq_iff_eq,bne_iff_ne]
 have h1:=Int.tmod_add_mul_tdiv n 2
 have h2:=Int.emod_add_mul_ediv n 2
 have h3:=Int.lt_tmod_of_pos n (b:=2) (by decide)
 have h6:=Int.tmod_lt_of_pos n (b:=2) (by decide)
 constructor<;>intro h<;>omega
def gF(d:Dk)(n:Int):Dk:=(kJ d n).setW (-1)
structure Y4 (d:Dk) (n:Int):Prop where
 f0:0<=bB (gF d n)
 f2:bB (gF d n)<2
 k:(bB (gF d n)).toNat<2
 sz:iM (ez (gF d n))
theorem Wr{d:Dk}{n:Int}(h:aF d=true):Y4 d n:=by
 obtain⟨h1,h2,h3,h4⟩:=qn (Wq (n:=n) h)
 exact⟨h1,h2,h3,h4.sz⟩
theorem Wp(d:Dk)(n:Int):List.take 1 (List.map D.v (aq (gF d n)))++List.map D.v (aB (ez (gF d n)))++List.drop 20 (List.map D.v (aq (gF d n)))=List.map D.v (aq (CB d n)):=WH (gF d n) (ez (gF d n))
theorem EG{d:Dk}{n:Int}:j7 d n=(if (decide (d.wet>=0))=true then(n.tmod 2 != 0)else false):=by
 unfold j7
 by_cases h:0<=d.wet
 ·rw[decide_eq_true h];rfl
 ·rw[decide_eq_false h];rfl
noncomputable def Mw:List (Nat×Spec):=[(39,S23),(43,S53),(45,S58),(37,S59)]
theorem YR:∀ f s,tbl Mw f=some s->ak Tryd.prog f s:=tc n0<|tc AM<|tc wW<|tc tw<|tn
attribute [go_sem] Mw
noncomputable def P14:PSpec:=p2 dK iI (fun d _=>gM d) (fun d n=>.tup [fM (CA d n),vInt (lg d)]) false
noncomputable def S14:Spec:=P14.toSpec
attribute [go_sem] P14 S14
set_option maxHeartbeats 4000000 in
theorem PW:aR Tryd.prog 31 P14:=by
 refine w2 (rs:=[.cell 4 44,.tmp 5]) Tryd.func31 Tryd.ntmps31 (by rfl) (by kernel_rfl) (by decide) (fun h=>by cases h) ⟨_,rfl,lb rfl,fun d n hp hw=>?_⟩
 have hP:=bc
 simp only[dK,iI]at hw |-
 have hΓ:=YR
 have hs:gM d:=hp
 repeat refine sq ?_
 refine rx hΓ [1,2,4] [[2,0],[4,0]] (fun K' hK=>by simp only[go_sem];(repeat (refine⟨ah,?_⟩));exact hK _ (by simp only[go_sem]) (by simp only[go_sem]<;>rfl)) ?_
 refine bq (oZ [4,0] _ (aq zD) rfl rfl [1,2,4] [[2,0],[4,0]] ?_ rfl) ?_
 ·simp only[go_sem]
 simp only[go_sem]
 refine bq (dd [2,0] (aq d) rfl [1,2,4] [[2,0],[4,0]] ?_ rfl) ?_
 ·simp only[go_sem]
 simp only[go_sem]
 repeat refine sq ?_
 refine rx hΓ [1,2,4,6] [[2,0],[4,0]] (fun K' hK=>by simp only[go_sem];(repeat (refine⟨ah,?_⟩));exact hK _ (by simp only[go_sem]) (by simp only[go_sem]<;>rfl)) ?_
 repeat refine sq ?_
 refine rx hΓ [1,2,4,6,12] [[2,0],[4,0]] (fun K' hK=>by simp only[go_sem];(repeat (refine⟨ah,?_⟩));exact hK _ (by simp only[go_sem]) (by simp only[go_sem]<;>rfl)) ?_
 repeat refine sq ?_
 refine ax rfl rfl (fun hb=>?_) (fun hb=>?_)
 ·repeat refine sq ?_
  have hd:=sr hb
  repeat refine sq ?_
  refine rx hΓ [4,5] [[4,0]] (fun K' hK=>by simp only[go_sem];(repeat (refine⟨ah,?_⟩));exact hK _ (by simp only[go_sem]) (by simp only[go_sem]<;>rfl)) ?_
  refine av ?_
  simp only[go_sem]
  first | (rw[sj hd];done) | (rw[sj hd];rfl) | (rw[si hd,eO hd];done) | (rw[si hd,eO hd];rfl)
 ·repeat refine sq ?_
  have hd:=sp hb
  have HF:=Wr (n:=n) hd
  have g0:=HF.f0;have g2:=HF.f2;have gk:=HF.k;have gN:=Wp d n
  have oy:∀ (F:Name->Option O) (t:Name),F [22,0,16,0]=some (.box ((aq (gF d n)).map .v))->S59.app (fun nm=>if own [0] nm=true then F nm else none) t [.ref [22,0,16,0] (20+(bB (gF d n)).toNat*21+1)]=⟨True,.v (.agg (aB (ez (gF d n)))),fun nm=>if own [0] nm=true then F nm else none⟩:=fun F t h=>nP (s:=ez (gF d n)) (L:=aq (gF d n)) h (CY _ gk) HF.sz
  refine aC ?_
  repeat refine sq ?_
  refine rx hΓ [1,4,7] [[4,0],[22,0,16,0]] (fun K' hK=>by simp only[go_sem,hs];(repeat (refine⟨ah,?_⟩));exact hK _ (by simp only[go_sem]) (by simp only[go_sem]<;>rfl)) ?_
  repeat refine sq ?_
  refine rx hΓ [4,7,27] [[4,0],[22,0,16,0]] (fun K' hK=>by simp only[go_sem,Nat.add_zero];(repeat (refine⟨ah,?_⟩));exact hK _ (by simp only[go_sem]) (by simp only[go_sem]<;>rfl)) ?_
  repeat refine sq ?_
  refine ax rfl rfl (fun hb=>?_) (fun hb=>?_)
  ·repeat refine sq ?_
   have xi:j7 d n=true:=by rw[EG];simpa using hb
   have hw:=EF xi
   obtain⟨b1,b2,b3,b4,_⟩:=xZ hd hw
   have b0:0<=d.wet:=by omega
   have hu:=Fv (Ft b1 b2 d.wet.toNat)
   have u1:=WL d b3
   have u2:IntKind.i64.wrap ((d.pg d.wet.toNat).su+1)=(d.pg d.wet.toNat).su+1:=wrap_i64 (by omega) (by omega)
   have u3:List.take (20+d.wet.toNat*21+20) (List.map D.v (aq d))++[D.v (vInt (((d.pg d.wet.toNat).su+1).tmod 1000003))]++List.drop (20+d.wet.toNat*21+20+1) (List.map D.v (aq d))=List.map D.v (aq (kJ d n)):=by rw[Ka d b3,vN xi]
   have u4:(kJ d n).setW (-1)=gF d n:=rfl
   repeat refine sq ?_
   refine dx hΓ hP [[],[],[1],[1,2],[1,2,3],[1,2,3,4],[0],[0,6],[0,6,7],[0,1,2,3,4,5,6,7,8],[0,1,2,3,4,5,6,7,8,9]] [4,7,8] [[4,0],[22,0,16,0]] (by kernel_rfl) (fun K' hK=>by simp only[go_sem,b0,b4];(repeat (refine⟨ah,?_⟩));(first | refine⟨by rfl,?_⟩ | skip);exact hK _ (by simp only[go_sem]) (by simp only[go_sem]<;>rfl)) ?_
   repeat refine sq ?_
   refine rx hΓ [4,7] [[4,0],[22,0,16,0]] (fun K' hK=>by simp only[go_sem,u1,u2,u3];(repeat (refine⟨ah,?_⟩));exact hK _ (by simp only[go_sem]) (by simp only[go_sem]<;>rfl)) ?_
   repeat refine sq ?_
   refine rx hΓ [4,7] [[4,0],[22,0,16,0]] (fun K' hK=>by simp only[go_sem,u4];(repeat (refine⟨ah,?_⟩));exact hK _ (by simp only[go_sem]) (by simp only[go_sem]<;>rfl)) ?_
   repeat refine sq ?_
   refine dx hΓ hP [[],[],[],[2],[2,3],[2,3,4],[2,3,4,5],[1],[1,7],[1,7,8],[1,2,3,4,5,6,7,8,9],[1,2,3,4,5,6,7,8,9,10],[1,2,3,4,5,6,7,8,9,10,11],[0,1,2,3,4,5,6,7,8,9,10,11,12],[0,1,2,3,4,5,6,7,8,9,10,11,12,13],[0,1,2,3,4,5,6,7,8,9,10,11,12,13,14],[0,1,2,3,4,5,6,7,8,9,10,11,12,13,14,15]] [4,7] [[4,0],[22,0,16,0]] (by kernel_rfl) (fun K' hK=>by simp only[go_sem,g0,g2,oy,gN];(repeat (refine⟨ah,?_⟩));(first | refine⟨by rfl,?_⟩ | skip);exact hK _ (by simp only[go_sem]) (by simp only[go_sem]<;>rfl)) ?_
   repeat refine sq ?_
   refine rx hΓ [4,5] [[4,0]] (fun K' hK=>by simp only[go_sem];(repeat (refine⟨ah,?_⟩));exact hK _ (by simp only[go_sem]) (by simp only[go_sem]<;>rfl)) ?_
   refine av ?_
   simp only[go_sem]
   first | (rw[sj hd];done) | (rw[sj hd];rfl) | (rw[si hd,eO hd];done) | (rw[si hd,eO hd];rfl)
  ·repeat refine sq ?_
   have xi:j7 d n=false:=by rw[EG];simpa using hb
   have u4:d.setW (-1)=gF d n:=by unfold gF;rw[vO xi]
   refine aC ?_
   repeat refine sq ?_
   refine rx hΓ [4,7] [[4,0],[22,0,16,0]] (fun K' hK=>by simp only[go_sem,u4];(repeat (refine⟨ah,?_⟩));exact hK _ (by simp only[go_sem]) (by simp only[go_sem]<;>rfl)) ?_
   repeat refine sq ?_
   refine dx hΓ hP [[],[],[],[2],[2,3],[2,3,4],[2,3,4,5],[1],[1,7],[1,7,8],[1,2,3,4,5,6,7,8,9],[1,2,3,4,5,6,7,8,9,10],[1,2,3,4,5,6,7,8,9,10,11],[0,1,2,3,4,5,6,7,8,9,10,11,12],[0,1,2,3,4,5,6,7,8,9,10,11,12,13],[0,1,2,3,4,5,6,7,8,9,10,11,12,13,14],[0,1,2,3,4,5,6,7,8,9,10,11,12,13,14,15]] [4,7] [[4,0],[22,0,16,0]] (by kernel_rfl) (fun K' hK=>by simp only[go_sem,g0,g2,oy,gN];(repeat (refine⟨ah,?_⟩));(first | refine⟨by rfl,?_⟩ | skip);exact hK _ (by simp only[go_sem]) (by simp only[go_sem]<;>rfl)) ?_
   repeat refine sq ?_
   refine rx hΓ [4,5] [[4,0]] (fun K' hK=>by simp only[go_sem];(repeat (refine⟨ah,?_⟩));exact hK _ (by simp only[go_sem]) (by simp only[go_sem]<;>rfl)) ?_
   refine av ?_
   simp only[go_sem]
   first | (rw[sj hd];done) | (rw[sj hd];rfl) | (rw[si hd,eO hd];done) | (rw[si hd,eO hd];rfl)
theorem k14:ak Tryd.prog 31 S14:=PW.sound
noncomputable def Mv:List (Nat×Spec):=[(77,S39),(12,S21)]
theorem afT:∀ f s,tbl Mv f=some s->ak Tryd.prog f s:=tc mM<|tc TA<|tn
attribute [go_sem] Mv
open Go
def de(a b:Name)(nm:Name):Name:=if nm=a then b else if nm=b then a else nm
theorem N1(a b nm:Name):de a b (de a b nm)=nm:=by
 unfold de
 by_cases h1:nm=a
 ·rw[if_pos h1]
  by_cases h2:b=a
  ·rw[if_pos h2,h2,h1]
  ·rw[if_neg h2,if_pos rfl,h1]
 ·rw[if_neg h1]
  by_cases h2:nm=b
  ·rw[if_pos h2,if_pos rfl,h2]
  ·rw[if_neg h2,if_neg h1,if_neg h2]
theorem N2{a b nm:Name}(h1:nm≠a)(h2:nm≠b):de a b nm=nm:=by unfold de;rw[if_neg h1,if_neg h2]
mutual
theorem D.clos_tt:∀ d:D,D.clos (fun _=>true) d=true
 | .v _=>rfl
 | .nilsl=>rfl
 | .nilmap=>rfl
 | .any=>rfl
 | .ref _ _=>rfl
 | .msl _ _=>rfl
 | .aref _ _ _ _=>rfl
 | .map _=>rfl
 | .yld _=>rfl
 | .clo _ a b=>by simp only[D.clos,D.closL_tt a,D.closL_tt b,Bool.and_self]
 | .agg l=>by simp only[D.clos,D.closL_tt l]
 | .tup l=>by simp only[D.clos,D.closL_tt l]
theorem D.closL_tt:∀ l:List D,D.closL (fun _=>true) l=true
 |[]=>rfl
 |d::r=>by simp only[D.closL,D.clos_tt d,D.closL_tt r,Bool.and_self]
end
theorem O.clos_tt(o:O):O.clos (fun _=>true) o=true:=by
 cases o<;>first | rfl | exact D.closL_tt _
mutual
theorem D.ren_fix{f:Name->Name}{dom:Name->Bool}(hf:∀ nm,dom nm=true->f nm=nm):∀ d:D,D.clos dom d=true->d.ren f=d
 | .v _,_=>rfl
 | .nilsl,_=>rfl
 | .nilmap,_=>rfl
 | .any,_=>rfl
 | .ref nm _,h=>by simp only[D.ren];rw[hf nm h]
 | .msl nm _,h=>by simp only[D.ren];rw[hf nm h]
 | .aref nm _ _ _,h=>by simp only[D.ren];rw[hf nm h]
 | .map nm,h=>by simp only[D.ren];rw[hf nm h]
 | .yld nm,h=>by simp only[D.ren];rw[hf nm h]
 | .clo _ a b,h=>by
   simp only[D.clos,Bool.and_eq_true]at h
   simp only[D.ren];rw[D.renL_fix hf a h.1,D.renL_fix hf b h.2]
 | .agg l,h=>by simp only[D.clos]at h;simp only[D.ren];rw[D.renL_fix hf l h]
 | .tup l,h=>by simp only[D.clos]at h;simp only[D.ren];rw[D.renL_fix hf l h]
theorem D.renL_fix{f:Name->Name}{dom:Name->Bool}(hf:∀ nm,dom nm=true->f nm=nm):∀ l:List D,D.closL dom l=true->D.renL f l=l
 |[],_=>rfl
 |d::r,h=>by
  simp only[D.closL,Bool.and_eq_true]at h
  simp only[D.renL];rw[D.ren_fix hf d h.1,D.renL_fix hf r h.2]
end
theorem O.ren_fix{f:Name->Name}{dom:Name->Bool}(hf:∀ nm,dom nm=true->f nm=nm)(o:O)(h:O.clos dom o=true):o.ren f=o:=by
 cases o with
 |box cs=>simp only[O.clos]at h;simp only[O.ren];rw[D.renL_fix hf cs h]
 |loop env ps asg body st bf=>
  simp only[O.clos]at h
  simp only[O.ren,O.loop.injEq,and_true]
  refine List.ext_getElem (by simp) fun i h1 h2=>?_
  have :=gw (l:=env.map (·.d)) (i:=i) (by simpa using h2) h
  simp only[List.getElem_map,E.ren]at this |-
  rw[D.ren_fix hf _ this]
 |_=>rfl
def qW(a b:Name)(σ:S):S:=
 ⟨σ.nt,fun t=>(σ.env t).ren (de a b),fun nm=>if own σ.pre nm=true then(σ.obj (de a b nm)).map (O.ren (de a b))else σ.obj nm,σ.pre,σ.base⟩
theorem Np{σ:S}(a b:Name)(ha:own σ.pre a=true)(hb:own σ.pre b=true)(hO:cZ σ.pre (fun nm=>!own σ.pre nm) σ.obj):db σ (qW a b σ):=by
 intro G φ m x w hC
 obtain⟨f,hf⟩:∃ f,f=de a b:=⟨_,rfl⟩
 have xB:∀ nm,f (f nm)=nm:=fun nm=>by rw[hf];exact N1 a b nm
 have BW:∀ nm,own σ.pre nm=false->f nm=nm:=fun nm h=>by
  rw[hf]
  exact N2 (fun e=>by rw[e,ha]at h;cases h) (fun e=>by rw[e,hb]at h;cases h)
 have mU:∀ nm,(qW a b σ).obj nm=(σ.obj (f nm)).map (O.ren f):=fun nm=>by
  show (if own σ.pre nm=true then(σ.obj (de a b nm)).map (O.ren (de a b))else σ.obj nm)=_
  rw[<-hf]
  cases ho:own σ.pre nm with
  |true=>rw[if_pos rfl]
  |false=>
   rw[if_neg (by simp),BW nm ho]
   cases hn:σ.obj nm with
   |none=>rfl
   |some o=>
    rw[Option.map_some,O.ren_fix (dom:=fun nm=>!own σ.pre nm) (fun x hx=>BW x (by simpa using hx)) o (hO nm o ho hn)]
 have iy:∀ nm o,(qW a b σ).obj nm=some o->∃ o',σ.obj (f nm)=some o'/\o=o'.ren f:=fun nm o h=>by
  rw[mU]at h
  cases hn:σ.obj (f nm)with
  |none=>rw[hn]at h;cases h
  |some o'=>rw[hn]at h;cases h;exact⟨o',rfl,rfl⟩
 have hX:sJ f φ (fun nm=>φ (f nm)) σ.obj (qW a b σ).obj (fun _=>true):=fun nm o _ ho=>
  ⟨o.ren f,by rw[mU,xB,ho];rfl,.inl ⟨O.len_ren f o,by show φ (f (f nm))=φ nm;rw[xB],O.sz_ren f o⟩⟩
 have hh:∀ nm,holds (fun nm=>φ (f nm)) (qW a b σ).obj nm->holds φ σ.obj (f nm):=by
  rintro nm ⟨o,h1,h2,h3⟩
  obtain⟨o',h4,rfl⟩:=iy nm o h1
  exact⟨o',h4,by rw[<-O.mut_ren f];exact h2,h3⟩
 refine⟨fun nm=>φ (f nm),?_⟩
 constructor
 ·intro t
  have :(qW a b σ).env t=(σ.env t).ren f:=by rw[hf];rfl
  rw[this]
  exact(hC.tmps t).renx (Mem.le_refl m) hX (D.clos_tt _)
 ·exact hC.size
 ·exact hC.defers
 ·intro nm o h
  obtain⟨o',h4,rfl⟩:=iy nm o h
  exact(hC.objs (f nm) o' h4).ren (Mem.le_refl m) hX (O.clos_tt o') (fun _ _=>rfl)
 ·exact hC.mem
 ·exact fun nm hn=>hC.apart (f nm) (hh nm hn)
 ·intro nm im h1 h2 e
  have :=hC.inj _ _ (hh nm h1) (hh im h2) e
  rw[<-xB nm,this,xB]
 ·exact fun nm hn=>hC.own (f nm) (hh nm hn)
 ·exact hC.fr
 ·exact hC.fresh
 ·refine⟨hC.kept.1,fun nm o ho=>?_⟩
  obtain⟨o',h1,h2⟩:=hC.kept.2 nm o ho
  have hn:=BW nm (hC.kept.1 nm o ho)
  refine⟨o'.ren f,by rw[mU,hn,h1];rfl,?_⟩
  rw[O.len_ren,O.sz_ren]
  show _/\φ (f nm)=_/\_\/_
  rw[hn]
  exact h2
theorem Nv{nt:Nat}{p:Name}{H:Name->Option O}{l l':List (Nat×E)}{h h':List (Name×O)}(a b:Name)(ks:List Nat)(ns:List Name)(ha:own p a=true)(hb:own p b=true)
 (hO:cZ p (cM p []) H) (hn:(ns.all fun nm=>own p nm)=true)
 (hl:(ks.map fun t=>(t,(dj eAny l t).ren (de a b)))=l')
 (hh:(ns.filterMap fun nm=>(dj none (h.map fun q=>(q.1,some q.2)) (de a b nm)).map fun o=>(nm,o.ren (de a b)))=h')
 (hc:((l'.all fun q=>D.clos (cM p h') q.2.d)&&(h'.all fun q=>O.clos (cM p h') q.2))=true):cw (aS nt p H l h) (aS nt p H l' h'):=by
 have gb:cZ p (fun nm=>!own p nm) H:=by
  intro x q hx hq
  have :=hO x q hx hq
  have e:cM p []=fun nm=>!own p nm:=by funext nm;simp[cM]
  rw[e]at this;exact this
 have hw:=Np (σ:=aS nt p H l h) a b ha hb (fun nm o h1 h2=>by
  have :(aS nt p H l h).obj nm=H nm:=if_neg (by rw[show own p nm=false from h1];decide)
  rw[this]at h2
  exact gb nm o h1 h2)
 have Uy:∀ nm,own p nm=true->own p (de a b nm)=true:=fun nm h=>by
  unfold de
  split
  ·exact hb
  ·split
   ·exact ha
   ·exact h
 refine(hw.trans (Fits.weak (p:=p) (H:=H) (l:=l') (h:=h') ⟨rfl,fun nm al=>?_,fun q hq=>?_,fun q hq=>?_,?_,?_,?_⟩)).toM
 ·show (if own p nm=true then _ else(if own p nm=true then _ else H nm))=H nm
  rw[if_neg (by rw[al];decide),if_neg (by rw[al];decide)]
 ·rw[<-hl]at hq
  obtain⟨t,_,rfl⟩:=List.mem_map.1 hq
  rfl
 ·rw[<-hh]at hq
  obtain⟨nm,hm,e⟩:=List.mem_filterMap.1 hq
  have II:=List.all_eq_true.1 hn nm hm
  cases ho:dj none (h.map fun q=>(q.1,some q.2)) (de a b nm)with
  |none=>rw[ho]at e;cases e
  |some o=>
   rw[ho]at e
   cases e
   show (if own p nm=true then Option.map _ (if own p (de a b nm)=true then dj none (h.map fun q=>(q.1,some q.2)) (de a b nm)else H (de a b nm))else _)=_
   rw[if_pos II,if_pos (Uy nm II),ho]
   rfl
 ·rw[Bool.and_eq_true]at hc;exact hc.1
 ·rw[Bool.and_eq_true]at hc;exact hc.2
 ·exact Yu gb h'
def Spec.ite(c:Name->List D->Bool)(s1 s2:Spec):Spec where
 app obj t ds:=if c t ds=true then s1.app obj t ds else s2.app obj t ds
 foot obj t ds:=if c t ds=true then s1.foot obj t ds else s2.foot obj t ds
 wrt obj t ds:=if c t ds=true then s1.wrt obj t ds else s2.wrt obj t ds
theorem Spec.ite_near{c:Name->List D->Bool}{s1 s2:Spec}(h1:s1.Near)(h2:s2.Near):(Spec.ite c s1 s2).Near:=by
 refine⟨fun obj obj2 t ds h=>?_,fun obj obj2 t ds h=>?_,fun obj t ds nm hn=>?_,fun obj obj2 t ds h=>?_⟩<;>simp only[Spec.ite]at *
 ·split
  ·rename_i hc;simp only[hc,if_true]at h;exact h1.like _ _ _ _ h
  ·rename_i hc;simp only[hc,if_false,Bool.false_eq_true]at h;exact h2.like _ _ _ _ h
 ·split
  ·rename_i hc;simp only[hc,if_true]at h;exact h1.foot _ _ _ _ h
  ·rename_i hc;simp only[hc,if_false,Bool.false_eq_true]at h;exact h2.foot _ _ _ _ h
 ·by_cases hc:c t ds=true
  ·rw[if_pos hc]at hn |-;exact h1.sub _ _ _ _ hn
  ·rw[if_neg hc]at hn |-;exact h2.sub _ _ _ _ hn
 ·split
  ·rename_i hc;simp only[hc,if_true]at h;exact h1.wrt _ _ _ _ h
  ·rename_i hc;simp only[hc,if_false,Bool.false_eq_true]at h;exact h2.wrt _ _ _ _ h
theorem ak.ite{P:Program}{f:FuncId}{s1 s2:Spec}(c:Name->List D->Bool)(h1:ak P f s1)(h2:ak P f s2)(an:f≠yid):ak P f (Spec.ite c s1 s2):=by
 refine⟨Spec.ite_near h1.near h2.near,h1.enter,fun hf G φ m σ a w hC t ds us ht hl hr aa=>?_,fun e=>(an e).elim⟩
 simp only[Spec.ite]at aa |-
 split
 ·rename_i hc
  rw[if_pos hc]at aa
  exact h1.calls hf G φ m σ a w hC t ds us ht hl hr aa
 ·rename_i hc
  rw[if_neg hc]at aa
  exact h2.calls hf G φ m σ a w hC t ds us ht hl hr aa
def uJ(s:Stk)(j z:Nat):List V:=if j<z then(s.un.get j).map encPa else[]
def fE(nm:Name)(s:Stk)(j z:Nat):List D:=(jn s z).set (1+j) (.msl nm (uJ s j z).length)
theorem yj{dom:Name->Bool}{nm:Name}{n:Nat}:∀ {cs:List D} {i:Nat},D.closL dom cs=true->D.closL dom (cs.set i (.msl nm n))=(dom nm||decide (cs.length<=i))
 |[],i,_=>by simp[D.closL]
 |d::r,0,h=>by
  simp only[D.closL,Bool.and_eq_true]at h
  simp[D.closL,D.clos,h.2]
 |d::r,i+1,h=>by
  simp only[D.closL,Bool.and_eq_true]at h
  simp only[List.set_cons_succ,D.closL,h.1,Bool.true_and,yj h.2,List.length_cons,Nat.add_le_add_iff_right]
@[go_sem] theorem aeS(dom:Name->Bool)(nm:Name)(s:Stk)(j z:Nat):D.closL dom (fE nm s j z)=(dom nm||decide (19<=1+j)):=yj (Xe dom s z)
@[go_sem] theorem KH(nm:Name)(s:Stk)(j z:Nat):(fE nm s j z).length=19:=by
  unfold fE;rw[List.length_set];rfl
@[go_sem] theorem aeT(nm:Name)(s:Stk)(j z:Nat):(fE nm s j z).take 19=fE nm s j z:=List.take_of_length_le (by rw[KH];exact Nat.le_refl _)
@[go_sem] theorem aeR(nm:Name)(s:Stk)(j z:Nat):(fE nm s j z).drop 19=[]:=List.drop_of_length_le (by rw[KH];exact Nat.le_refl _)
theorem afF{a:D}{r:List D}{j:Nat}(h:j<6):(a:: .nilsl:: .nilsl:: .nilsl:: .nilsl:: .nilsl:: .nilsl::r)[1+j]?=some .nilsl:=by
 match j,h with
 | 0,_=>rfl
 | 1,_=>rfl
 | 2,_=>rfl
 | 3,_=>rfl
 | 4,_=>rfl
 | 5,_=>rfl
theorem aeP(nm:Name)(s:Stk){i j:Nat}(hi:i<6)(hj:j<6)(h:i≠j):List.take (1+i) (fE nm s j i)++[D.v (.sl ((s.un.get i).map encPa))]++List.drop (1+i+1) (fE nm s j i)=fE nm s j (i+1):=by
 match i,hi with
 | 0,_=>match j,hj with
   | 0,_=>exact absurd rfl h
   | 1,_=>rfl
   | 2,_=>rfl
   | 3,_=>rfl
   | 4,_=>rfl
   | 5,_=>rfl
 | 1,_=>match j,hj with
   | 0,_=>rfl
   | 1,_=>exact absurd rfl h
   | 2,_=>rfl
   | 3,_=>rfl
   | 4,_=>rfl
   | 5,_=>rfl
 | 2,_=>match j,hj with
   | 0,_=>rfl
   | 1,_=>rfl
   | 2,_=>exact absurd rfl h
   | 3,_=>rfl
   | 4,_=>rfl
   | 5,_=>rfl
 | 3,_=>match j,hj with
   | 0,_=>rfl
   | 1,_=>rfl
   | 2,_=>rfl
   | 3,_=>exact absurd rfl h
   | 4,_=>rfl
   | 5,_=>rfl
 | 4,_=>match j,hj with
   | 0,_=>rfl
   | 1,_=>rfl
   | 2,_=>rfl
   | 3,_=>rfl
   | 4,_=>exact absurd rfl h
   | 5,_=>rfl
 | 5,_=>match j,hj with
   | 0,_=>rfl
   | 1,_=>rfl
   | 2,_=>rfl
   | 3,_=>rfl
   | 4,_=>rfl
   | 5,_=>exact absurd rfl h
theorem Ef(s:Stk){i j:Nat}(h:i≠j):uJ s j i=uJ s j (i+1):=by
 unfold uJ
 by_cases h1:j<i
 ·rw[if_pos h1,if_pos (by omega)]
 ·rw[if_neg h1,if_neg (by omega)]
theorem NI(s:Stk)(j:Nat):uJ s j (j+1)=(s.un.get j).map encPa:=if_pos (Nat.lt_succ_self j)
theorem aeO(s:Stk){j:Nat}(hj:j<6):D.renL (de [24,0] [99,0]) (List.take (1+j) (fE [99,0] s j j)++[D.msl [24,0] (s.un.get j).length]++List.drop (1+j+1) (fE [99,0] s j j))=fE [99,0] s j (j+1):=by
 match j,hj with
 | 0,_=>simp[fE,jn,oL,uJ,D.renL,D.ren,de,bb.get]
 | 1,_=>simp[fE,jn,oL,uJ,D.renL,D.ren,de,bb.get]
 | 2,_=>simp[fE,jn,oL,uJ,D.renL,D.ren,de,bb.get]
 | 3,_=>simp[fE,jn,oL,uJ,D.renL,D.ren,de,bb.get]
 | 4,_=>simp[fE,jn,oL,uJ,D.renL,D.ren,de,bb.get]
 | 5,_=>simp[fE,jn,oL,uJ,D.renL,D.ren,de,bb.get]
theorem aeU(s:Stk)(j:Nat):List.set [D.v (V.sl (List.map vInt s.ho)),D.nilsl,D.nilsl,D.nilsl,D.nilsl,D.nilsl,D.nilsl,D.v (vInt s.se.a),D.v (vInt s.se.b),D.v (vInt s.se.c),D.v (vInt s.se.d),D.v (vInt s.se.e),D.v (vInt s.se.f),D.v (vInt s.ta.a),D.v (vInt s.ta.b),D.v (vInt s.ta.c),D.v (vInt s.ta.d),D.v (vInt s.ta.e),D.v (vInt s.ta.f)] (1+j) (D.msl [99,0] 0)=fE [99,0] s j 0:=rfl
theorem uJ0(s:Stk)(j:Nat):uJ s j 0=[]:=rfl
@[go_sem] theorem KP(dom:Name->Bool)(l:List V)(i:Nat)(nm:Name)(n:Nat):D.closL dom ((List.map D.v l).set i (.msl nm n))=(dom nm||decide (l.length<=i)):=by
  rw[yj (sB dom l),List.length_map]
@[go_sem] theorem lI(l:List V)(i:Nat)(d:D):((List.map D.v l).set i d).length=l.length:=by simp
@[go_sem] theorem acC(s:Stk)(i:Nat)(d:D):List.take 19 ((List.map D.v (aB s)).set i d)=(List.map D.v (aB s)).set i d:=List.take_of_length_le (by rw[lI];exact Nat.le_refl _)
@[go_sem] theorem Kc(s:Dk)(i:Nat)(d:D):List.take 63 ((List.map D.v (aq s)).set i d)=(List.map D.v (aq s)).set i d:=List.take_of_length_le (by rw[lI];exact Nat.le_refl _)
theorem yX(s:Stk){j:Nat}(hj:j<6):uJ s j 6=(s.un.get j).map encPa:=if_pos hj
theorem oM{dom:Name->Bool}{cs:List D}:D.closL dom cs=true↔∀ d∈cs,D.clos dom d=true:=by
 induction cs with
 |nil=>simp[D.closL]
 |cons d r ih=>simp[D.closL,ih]
@[go_sem] theorem aeV{dom:Name->Bool}{cs:List D}(n:Nat)(h:D.closL dom cs=true):D.closL dom (cs.take n)=true:=oM.2 fun d hd=>oM.1 h d (List.mem_of_mem_take hd)
@[go_sem] theorem aeX{dom:Name->Bool}{cs:List D}(n:Nat)(h:D.closL dom cs=true):D.closL dom (cs.drop n)=true:=oM.2 fun d hd=>oM.1 h d (List.mem_of_mem_drop hd)
theorem aeQ(nm:Name)(s:Stk){j:Nat}(hj:j<6):fE nm s j 6=(List.map D.v (aB s)).set (1+j) (.msl nm (s.un.get j).length):=by
 unfold fE
 rw[Xd,uJ,if_pos hj,List.length_map]
theorem Nx{σ τ:S}(p:Prop)[Decidable p](h1:p->cw σ τ)(h2:¬ p->cw σ τ):cw σ τ:=by
 by_cases h:p
 ·exact h1 h
 ·exact h2 h
def wB:D->D
 | .nilsl=>.v (.sl [])
 |d=>d
theorem ND{σ:S}(b:Name)(cs:List D)(hb:σ.obj b=some (.box cs)):cw σ ⟨σ.nt,σ.env,upd σ.obj b (some (.box (cs.map wB))),σ.pre,σ.base⟩:=by
 intro G φ m a w hC
 obtain⟨h1,h2,h3,us,T,f,h4,h5,h6,h7⟩:=hC.objs b _ hb
 have gB:=Ext.same (φ:=φ) (o':=.box (cs.map wB)) hb rfl rfl
 have pM:=gB
 rw[dY]at pM
 refine⟨_,m,hC.chg (w':=w) b (.box (cs.map wB)) _ gB ⟨rfl,rfl,rfl,Nat.le_refl _⟩ (fun _ _ _=>rfl) (fun _=>.inr ⟨⟨_,hb,rfl,h2⟩,rfl⟩) ?_⟩
 rw[dY]
 refine⟨h1,h2,fun d hd=>?_,us,T,f,h4,h5,by rw[List.length_map];exact h6,fun j hj ew=>?_⟩
 ·obtain⟨x,hx,rfl⟩:=List.mem_map.1 hd
  have :=h3 x hx
  cases x<;>first | exact this | rfl
 ·have fX:j<cs.length:=by simpa using hj
  simp only[List.getElem_map]
  have :=(h7 j fX ew).ext (Mem.le_refl m) pM
  generalize cs[j]=d at this
  cases d with
  |nilsl=>
   generalize us[j]=u at this
   cases this with
   |nilsl a=>exact .v _ _ (.slnil a 0)
  |_=>exact this
theorem aag{σ τ:S}(b:Name)(cs jm:List D)(hb:σ.obj b=some (.box cs))(hl:cs.map wB=jm)(ks:List Nat)(ns:List Name)
 (h:eQ ks ns ⟨σ.nt,σ.env,upd σ.obj b (some (.box jm)),σ.pre,σ.base⟩) (hk:eW ks ns ⟨σ.nt,σ.env,upd σ.obj b (some (.box jm)),σ.pre,σ.base⟩=τ):cw σ τ:=by
 subst hl
 exact(ND b cs hb).trans (lC ks ns h hk)
theorem Nq{σ:S}(nm:Name)(sz:Nat)(hn:σ.obj nm=none):db σ ⟨σ.nt,σ.env,upd σ.obj nm (some (.arr sz [])),σ.pre,σ.base⟩:=by
 intro G φ m a w hC
 have hx:=Ext.new (φ:=φ) hn ⟨0,0,0,true,none⟩ (.arr sz [])
 exact⟨_,hC.chg (w':=w) nm (.arr sz []) ⟨0,0,0,true,none⟩ hx ⟨rfl,rfl,rfl,Nat.le_refl _⟩ (fun _ _ _=>rfl) (fun h=>by cases h) (.inl ⟨rfl,rfl⟩)⟩
theorem Nw{σ τ:S}(nm:Name)(sz:Nat)(hn:σ.obj nm=none)(ks:List Nat)(ns:List Name)
 (h:eQ ks ns ⟨σ.nt,σ.env,upd σ.obj nm (some (.arr sz [])),σ.pre,σ.base⟩) (hk:eW ks ns ⟨σ.nt,σ.env,upd σ.obj nm (some (.arr sz [])),σ.pre,σ.base⟩=τ):cw σ τ:=
 (Nq nm sz hn).toM.trans (lC ks ns h hk)
theorem zC(f:Name->Name)(l:List V)(i:Nat)(nm:Name)(n:Nat):D.renL f ((List.map D.v l).set i (.msl nm n))=(List.map D.v l).set i (.msl (f nm) n):=by
 rw[gl,List.map_set,List.map_map]
 rfl
attribute [go_sem] zC
theorem afu(s:Stk)(i:Nat)(x:D)(X:List D):List.take 61 ((List.map D.v (aB s)).set i x++X)=(List.map D.v (aB s)).set i x++List.take 42 X:=by
 rw[List.take_append,lI,List.take_of_length_le (by rw[lI];exact lb rfl)]
 rfl
theorem aft(s:Stk)(i:Nat)(x:D)(X:List D):List.drop 62 ((List.map D.v (aB s)).set i x++X)=List.drop 43 X:=by
 rw[List.drop_append,lI,List.drop_of_length_le (by rw[lI];exact lb rfl),List.nil_append]
 rfl
attribute [go_sem] Spec.ite List.headD_cons decide_true decide_false
def kg(nm:Name)(d:Dk)(j:Nat):List D:=(List.map D.v (aq d)).set (2+j) (.msl nm (d.now.un.get j).length)
@[go_sem] theorem aeA(dom:Name->Bool)(nm:Name)(d:Dk)(j:Nat):D.closL dom (kg nm d j)=(dom nm||decide (63<=2+j)):=KP dom (aq d) _ nm _
@[go_sem] theorem WQ(nm:Name)(d:Dk)(j:Nat):(kg nm d j).length=63:=lI _ _ _
@[go_sem] theorem aeB(nm:Name)(d:Dk)(j:Nat):(kg nm d j).take 63=kg nm d j:=Kc d _ _
@[go_sem] theorem aez(nm:Name)(d:Dk)(j:Nat):(kg nm d j).drop 63=[]:=List.drop_of_length_le (by rw[WQ];exact Nat.le_refl _)
theorem aex(nm:Name)(d:Dk){i j:Nat}(h:i<2)(hj:j<6):List.take (20+i*21) (kg nm (qv d i) j)++List.map D.v (cm ⟨(d.pg i).co,(d.pg i).st,(d.pg i).su⟩)++List.drop (20+i*21+21) (kg nm (qv d i) j)=kg nm (qv d (i+1)) j:=by
 match i,h with
 | 0,_=>match j,hj with
   | 0,_=>rfl
   | 1,_=>rfl
   | 2,_=>rfl
   | 3,_=>rfl
   | 4,_=>rfl
   | 5,_=>rfl
 | 1,_=>match j,hj with
   | 0,_=>rfl
   | 1,_=>rfl
   | 2,_=>rfl
   | 3,_=>rfl
   | 4,_=>rfl
   | 5,_=>rfl
def gd(l:List Int)(p:Int)(z:Nat):List Int:=(l.take z).filter fun x=>x != p
def vR(s:Stk)(p:Int)(j:Nat):Stk:=⟨gd s.ho p s.ho.length,s.un.set j (s.un.get j++[⟨s.se.get j+1,p⟩]),s.se.set j (s.se.get j+1),s.ta⟩
def mJ(d:Dk)(t:Int):Bool:=(((d.now.un.get t.toNat).length:Int)==40)||(d.now.se.get t.toNat==99999)
def ny(d:Dk)(p:Int):Bool:=decide ((gd d.now.ho p d.now.ho.length).length=d.now.ho.length)
def fm(d:Dk)(p t:Int):Int:=if aF d=true then(if aM p 1 999=true then(if eB d t=true then(if ny d p=true then 95 else if mJ d t=true then 2 else 0)else 94)else 1)else 92
def kK(d:Dk)(p t:Int):Dk:=if fm d p t=0 then d.setN (vR d.now p t.toNat)else zD
theorem OB{d:Dk}{p t:Int}(h:aF d=false):kK d p t=zD/\fm d p t=92:=by
 have :fm d p t=92:=if_neg (by rw[h];decide)
 exact⟨if_neg (by rw[this];decide),this⟩
theorem OE{d:Dk}{p t:Int}(h:aF d=true)(h1:aM p 1 999=false):kK d p t=zD/\fm d p t=1:=by
 have :fm d p t=1:=by unfold fm;rw[if_pos h,if_neg (by rw[h1];decide)]
 exact⟨if_neg (by rw[this];decide),this⟩
theorem Oz{d:Dk}{p t:Int}(h:aF d=true)(h1:aM p 1 999=true)(h2:eB d t=false):kK d p t=zD/\fm d p t=94:=by
 have :fm d p t=94:=by unfold fm;rw[if_pos h,if_pos h1,if_neg (by rw[h2];decide)]
 exact⟨if_neg (by rw[this];decide),this⟩
theorem OD{d:Dk}{p t:Int}(h:aF d=true)(h1:aM p 1 999=true)(h2:eB d t=true)(h3:ny d p=true):kK d p t=zD/\fm d p t=95:=by
 have :fm d p t=95:=by unfold fm;rw[if_pos h,if_pos h1,if_pos h2,if_pos h3]
 exact⟨if_neg (by rw[this];decide),this⟩
theorem OC{d:Dk}{p t:Int}(h:aF d=true)(h1:aM p 1 999=true)(h2:eB d t=true)(h3:ny d p=false)(h4:mJ d t=true):kK d p t=zD/\fm d p t=2:=by
 have :fm d p t=2:=by unfold fm;rw[if_pos h,if_pos h1,if_pos h2,if_neg (by rw[h3];decide),if_pos h4]
 exact⟨if_neg (by rw[this];decide),this⟩
theorem OA{d:Dk}{p t:Int}(h:aF d=true)(h1:aM p 1 999=true)(h2:eB d t=true)(h3:ny d p=false)(h4:mJ d t=false):kK d p t=d.setN (vR d.now p t.toNat)/\fm d p t=0:=by
 have :fm d p t=0:=by unfold fm;rw[if_pos h,if_pos h1,if_pos h2,if_neg (by rw[h3];decide),if_neg (by rw[h4];decide)]
 exact⟨if_pos this,this⟩
theorem JR{l:List Int}{p:Int}{z:Nat}(h:z<l.length):gd l p (z+1)=if (l[z] != p)=true then gd l p z++[l[z]]else gd l p z:=by
 unfold gd
 rw[List.take_add_one,List.getElem?_eq_getElem h,List.filter_append]
 show _++List.filter _ [l[z]]=_
 by_cases hp:(l[z] != p)=true
 ·rw[if_pos hp]
  have :List.filter (fun x=>x != p) [l[z]]=[l[z]]:=by simp[List.filter,hp]
  rw[this]
 ·rw[if_neg hp]
  have :List.filter (fun x=>x != p) [l[z]]=[]:=by simp[List.filter,hp]
  rw[this,List.append_nil]
theorem adW{l:List Int}{p:Int}{z:Nat}(h:z<l.length)(hp:(l[z] != p)=true):gd l p (z+1)=gd l p z++[l[z]]:=by rw[JR h,if_pos hp]
theorem adX{l:List Int}{p:Int}{z:Nat}(h:z<l.length)(hp:(l[z] != p)=false):gd l p (z+1)=gd l p z:=by rw[JR h,if_neg (by rw[hp];decide)]
theorem Wv(l:List Int)(p:Int)(z:Nat):(gd l p z).length<=l.length:=by
 unfold gd
 refine Nat.le_trans (List.length_filter_le _ _) ?_
 rw[List.length_take];omega
def bG(d:Dk)(j:Nat)(hd:D)(nm:Name)(n:Nat)(se:Int):List D:=(((List.map D.v (aq d)).set 1 hd).set (8+j) (.v (vInt se))).set (2+j) (.msl nm n)
theorem jx{P:Nat->Prop}(h0:P 0)(h1:P 1)(h2:P 2)(h3:P 3)(h4:P 4)(h5:P 5):∀ {j:Nat},j<6->P j
 | 0,_=>h0
 | 1,_=>h1
 | 2,_=>h2
 | 3,_=>h3
 | 4,_=>h4
 | 5,_=>h5
theorem afe(d:Dk)(nm:Name){j:Nat}(hj:j<6):kg nm d j=bG d j (.v (fo d.now.ho)) nm (d.now.un.get j).length (d.now.se.get j):=
 jx (P:=fun j=>kg nm d j=bG d j (.v (fo d.now.ho)) nm (d.now.un.get j).length (d.now.se.get j)) rfl rfl rfl rfl rfl rfl hj
@[go_sem] theorem lr(d:Dk)(j:Nat)(hd:D)(nm:Name)(n:Nat)(se:Int):(bG d j hd nm n se).length=63:=by
  simp[bG,oG]
theorem re{α:Type}{C:List α}{i:Nat}{x:α}(h:i<C.length):List.take i C++[x]++List.drop (i+1) C=C.set i x:=by
 rw[List.append_assoc,List.set_eq_take_append_cons_drop,if_pos h];rfl
@[go_sem] theorem afc(d:Dk)(j:Nat)(hd ff:D)(nm:Name)(n:Nat)(se:Int):List.take 1 (bG d j hd nm n se)++[ff]++List.drop 2 (bG d j hd nm n se)=bG d j ff nm n se:=by
  rw[re (i:=1) (by rw[lr];omega)]
  unfold bG
  rw[List.set_comm (D.msl nm n) ff (show 2+j≠1 by omega),List.set_comm (D.v (vInt se)) ff (show 8+j≠1 by omega),List.set_set]
theorem XD(d:Dk){j:Nat}(hd:D)(nm:Name)(n:Nat)(se se':Int)(hj:j<6):List.take (8+j) (bG d j hd nm n se)++[.v (vInt se')]++List.drop (8+j+1) (bG d j hd nm n se)=bG d j hd nm n se':=by
 rw[re (by rw[lr];omega)]
 unfold bG
 rw[List.set_comm (D.msl nm n) (D.v (vInt se')) (show 2+j≠8+j by omega),List.set_set]
theorem XB(d:Dk){j:Nat}(hd:D)(nm:Name)(n n':Nat)(se:Int)(hj:j<6):List.take (2+j) (bG d j hd nm n se)++[.msl nm n']++List.drop (2+j+1) (bG d j hd nm n se)=bG d j hd nm n' se:=by
 rw[re (by rw[lr];omega)]
 unfold bG
 rw[List.set_set]
theorem Lf(d:Dk)(j:Nat)(hd:D)(nm:Name)(n:Nat)(se:Int):(bG d j hd nm n se)[1]?=some hd:=by
 unfold bG
 rw[List.getElem?_set_ne (by omega),List.getElem?_set_ne (by omega),List.getElem?_set_self (by simp[oG])]
theorem XG(d:Dk){j:Nat}(hd:D)(nm:Name)(n:Nat)(se:Int)(hj:j<6):(bG d j hd nm n se)[8+j]?=some (.v (vInt se)):=by
 unfold bG
 rw[List.getElem?_set_ne (by omega),List.getElem?_set_self (by simp[oG];omega)]
theorem Le(d:Dk){j:Nat}(hd:D)(nm:Name)(n:Nat)(se:Int)(hj:j<6):(bG d j hd nm n se)[2+j]?=some (.msl nm n):=by
 unfold bG
 rw[List.getElem?_set_self (by simp[oG];omega)]
@[go_sem] theorem afd(d:Dk)(j:Nat)(hd:D)(nm:Name)(n:Nat)(se:Int):(bG d j hd nm n se).getD 1 .any=hd:=by rw[List.getD_eq_getElem?_getD,Lf];rfl
theorem Lb(d:Dk){j:Nat}(hd:D)(nm:Name)(n:Nat)(se:Int)(hj:j<6):(bG d j hd nm n se).getD (8+j) .any=.v (vInt se):=by rw[List.getD_eq_getElem?_getD,XG _ _ _ _ _ hj];rfl
theorem XE(d:Dk){j:Nat}(hd:D)(nm:Name)(n:Nat)(se:Int)(hj:j<6):(bG d j hd nm n se).getD (2+j) .any=.msl nm n:=by rw[List.getD_eq_getElem?_getD,Le _ _ _ _ _ hj];rfl
theorem KQ{dom:Name->Bool}{d:D}(hd:D.clos dom d=true):∀ {cs:List D} {i:Nat},D.closL dom cs=true->D.closL dom (cs.set i d)=true
 |[],i,_=>by simp[D.closL]
 |a::r,0,h=>by
  simp only[D.closL,Bool.and_eq_true]at h
  simp[D.closL,hd,h.2]
 |a::r,i+1,h=>by
  simp only[D.closL,Bool.and_eq_true]at h
  simp only[List.set_cons_succ,D.closL,h.1,Bool.true_and,KQ hd h.2]
theorem Dg{dom:Name->Bool}{cs:List D}:D.closL dom cs=true↔∀ (i:Nat) (d:D),cs[i]?=some d->D.clos dom d=true:=by
 rw[oM]
 constructor
 ·intro h i d hi
  obtain⟨hl,e⟩:=List.getElem?_eq_some_iff.1 hi
  exact h d (e▸List.getElem_mem hl)
 ·intro h d hd
  obtain⟨i,hi,rfl⟩:=List.getElem_of_mem hd
  exact h i _ (List.getElem?_eq_getElem hi)
@[go_sem] theorem Ld(dom:Name->Bool)(d:Dk)(j:Nat)(hd:D)(nm:Name)(n:Nat)(se:Int):D.closL dom (bG d j hd nm n se)=(D.clos dom hd&&(dom nm||decide (63<=2+j))):=by
  rw[Bool.eq_iff_iff,Dg]
  simp only[Bool.and_eq_true,Bool.or_eq_true,decide_eq_true_eq]
  constructor
  ·intro h
   refine⟨h 1 hd (Lf _ _ _ _ _ _),?_⟩
   by_cases hj:63<=2+j
   ·exact .inr hj
   ·refine .inl ?_
    have :=h (2+j) (.msl nm n) (by unfold bG;rw[List.getElem?_set_self (by simp[oG];omega)])
    simpa[D.clos]using this
  ·rintro⟨h1,h2⟩ i x hi
   have ae:=(List.getElem?_eq_some_iff.1 hi).1
   rw[lr]at ae
   unfold bG at hi
   by_cases e1:2+j=i
   ·subst e1
    rw[List.getElem?_set_self (by simp[oG];omega)]at hi
    cases hi
    simp only[D.clos]
    rcases h2 with h2 | h2
    ·exact h2
    ·omega
   ·rw[List.getElem?_set_ne e1]at hi
    by_cases e2:8+j=i
    ·subst e2
     rw[List.getElem?_set_self (by simp[oG];omega)]at hi
     cases hi
     rfl
    ·rw[List.getElem?_set_ne e2]at hi
     by_cases e3:1=i
     ·subst e3
      rw[List.getElem?_set_self (by simp[oG])]at hi
      cases hi
      exact h1
     ·rw[List.getElem?_set_ne e3,List.getElem?_map]at hi
      cases hq:(aq d)[i]? with
      |none=>rw[hq]at hi;cases hi
      |some y=>rw[hq]at hi;cases hi;rfl
@[go_sem] theorem XH(d:Dk)(j:Nat)(hd:D)(nm:Name)(n:Nat)(se:Int):(bG d j hd nm n se).take 63=bG d j hd nm n se:=List.take_of_length_le (by rw[lr];exact Nat.le_refl _)
@[go_sem] theorem XF(d:Dk)(j:Nat)(hd:D)(nm:Name)(n:Nat)(se:Int):(bG d j hd nm n se).drop 63=[]:=List.drop_of_length_le (by rw[lr];exact Nat.le_refl _)
theorem XC(d:Dk)(j:Nat)(hd ff:D)(nm:Name)(n:Nat)(se:Int):(bG d j hd nm n se).set 1 ff=bG d j ff nm n se:=by
 unfold bG
 rw[List.set_comm (D.msl nm n) ff (show 2+j≠1 by omega),List.set_comm (D.v (vInt se)) ff (show 8+j≠1 by omega),List.set_set]
theorem Dp(d:Dk){j:Nat}(l:List Int)(nm:Name)(n:Nat)(se:Int)(ps:List Par)(hj:j<6):(bG d j (.v (fo l)) nm n se).set (2+j) (.v (.sl (ps.map encPa)))=List.map D.v (aq (d.setN ⟨l,d.now.un.set j ps,d.now.se.set j se,d.now.ta⟩)):=
 jx (P:=fun j=>(bG d j (.v (fo l)) nm n se).set (2+j) (.v (.sl (ps.map encPa)))=List.map D.v (aq (d.setN ⟨l,d.now.un.set j ps,d.now.se.set j se,d.now.ta⟩))) rfl rfl rfl rfl rfl rfl hj
@[go_sem] theorem aey(f:Name->Name)(nm:Name)(d:Dk)(j:Nat):D.renL f (kg nm d j)=kg (f nm) d j:=zC _ _ _ _ _
theorem WM(d:Dk){j:Nat}(h:j<6):(aq d).getD (2+j) default=rowP (d.now.un.get j):=WN d h
theorem WO(d:Dk){j:Nat}(h:j<6):(aq d).getD (8+j) default=vInt (d.now.se.get j):=
 jx (P:=fun j=>(aq d).getD (8+j) default=vInt (d.now.se.get j)) rfl rfl rfl rfl rfl rfl h
theorem Lc(d:Dk){j:Nat}(l:List Int)(nm:Name)(n:Nat)(se:Int)(ps:List Par)(a b:Int)(hj:j<6):(bG d j (.v (fo l)) nm n se).set (2+j) (.v (.sl (ps.map encPa++[.agg [vInt a,vInt b]])))=List.map D.v (aq (d.setN ⟨l,d.now.un.set j (ps++[⟨a,b⟩]),d.now.se.set j se,d.now.ta⟩)):=by
 have h:=Dp d l nm n se (ps++[(⟨a,b⟩:Par)]) hj
 rw[List.map_append]at h
 exact h
theorem Qy(d:Dk)(t:Int):∃ j,j<6/\(eB d t=true->t.toNat=j):=by
 by_cases h:t.toNat<6
 ·exact⟨t.toNat,h,fun _=>rfl⟩
 ·exact⟨0,by omega,fun hk=>absurd (yZ hk).2.2 h⟩
noncomputable def S77g:Spec:=qA Tryd.prog 34
noncomputable def S76g:Spec:=qA Tryd.prog 35
theorem Tk:ak Tryd.prog 36 S77g:=KT Dh
theorem Tl:ak Tryd.prog 46 S76g:=KT Di
attribute [go_sem] S77g S76g
def gz(hn un:Name)(s:Stk)(j:Nat):List D:=((List.map D.v (aB s)).set 0 (.msl hn s.ho.length)).set (1+j) (.msl un (s.un.get j).length)
@[go_sem] theorem Ey(hn un:Name)(s:Stk)(j:Nat):(gz hn un s j).length=19:=by
  unfold gz;rw[List.length_set,lI];rfl
theorem KN(dom:Name->Bool)(l:List V){i k:Nat}(hn un:Name)(a b:Nat)(hi:i<l.length)(uu:i≠k):D.closL dom (((List.map D.v l).set i (.msl hn a)).set k (.msl un b))=(dom hn&&(dom un||decide (l.length<=k))):=by
 rw[Bool.eq_iff_iff,Dg]
 simp only[Bool.and_eq_true,Bool.or_eq_true,decide_eq_true_eq]
 constructor
 ·intro h
  refine⟨?_,?_⟩
  ·have:=h i (.msl hn a) (by rw[List.getElem?_set_ne uu.symm,List.getElem?_set_self (by simpa using hi)])
   simpa[D.clos]using this
  ·by_cases hk:l.length<=k
   ·exact .inr hk
   ·refine .inl ?_
    have :=h k (.msl un b) (by rw[List.getElem?_set_self (by simp;omega)])
    simpa[D.clos]using this
 ·rintro⟨h1,h2⟩ q x hq
  have ae:=(List.getElem?_eq_some_iff.1 hq).1
  simp only[List.length_set,List.length_map]at ae
  by_cases e1:k=q
  ·subst e1
   rw[List.getElem?_set_self (by simpa using ae)]at hq
   cases hq
   simp only[D.clos]
   rcases h2 with h2 | h2
   ·exact h2
   ·omega
  ·rw[List.getElem?_set_ne e1]at hq
   by_cases e2:i=q
   ·subst e2
    rw[List.getElem?_set_self (by simpa using ae)]at hq
    cases hq
    exact h1
   ·rw[List.getElem?_set_ne e2,List.getElem?_map]at hq
    cases hz:l[q]? with
    |none=>rw[hz]at hq;cases hq
    |some y=>rw[hz]at hq;cases hq;rfl
@[go_sem] theorem acM(dom:Name->Bool)(hn un:Name)(s:Stk)(j:Nat):D.closL dom (gz hn un s j)=(dom hn&&(dom un||decide (19<=1+j))):=KN dom (aB s) hn un _ _ (lb rfl) (by omega)
theorem E8(f:Name->Name)(l:List V)(i k:Nat)(hn un:Name)(a b:Nat):D.renL f (((List.map D.v l).set i (.msl hn a)).set k (.msl un b))=((List.map D.v l).set i (.msl (f hn) a)).set k (.msl (f un) b):=by
 rw[gl,List.map_set,List.map_set,List.map_map]
 rfl
@[go_sem] theorem Ob(f:Name->Name)(hn un:Name)(s:Stk)(j:Nat):D.renL f (gz hn un s j)=gz (f hn) (f un) s j:=E8 _ _ _ _ _ _ _ _
@[go_sem] theorem acN(hn un:Name)(s:Stk)(j:Nat):(gz hn un s j).take 19=gz hn un s j:=List.take_of_length_le (by rw[Ey];exact Nat.le_refl _)
@[go_sem] theorem acL(hn un:Name)(s:Stk)(j:Nat):(gz hn un s j).drop 19=[]:=List.drop_of_length_le (by rw[Ey];exact Nat.le_refl _)
def ep(s:Stk)(j z:Nat):List D:=((List.map D.v (aB s)).set 0 (.msl [12,0] s.ho.length)).set (1+j) (if j<z then .msl [99,0] (s.un.get j).length else .v (rowP (s.un.get j)))
@[go_sem] theorem o8(s:Stk)(j z:Nat):(ep s j z).length=19:=by
  unfold ep;rw[List.length_set,lI];rfl
@[go_sem] theorem acQ(s:Stk)(j z:Nat):(ep s j z).take 19=ep s j z:=List.take_of_length_le (by rw[o8];exact Nat.le_refl _)
@[go_sem] theorem acO(s:Stk)(j z:Nat):(ep s j z).drop 19=[]:=List.drop_of_length_le (by rw[o8];exact Nat.le_refl _)
theorem zi(s:Stk){j:Nat}(hj:j<6):ep s j 6=gz [12,0] [99,0] s j:=by
 unfold ep gz;rw[if_pos hj]
theorem zj(s:Stk){j:Nat}(hj:j<6):D.msl [12,0] s.ho.length::List.drop 1 (List.map D.v (aB s))=ep s j 0:=
 jx (P:=fun j=>D.msl [12,0] s.ho.length::List.drop 1 (List.map D.v (aB s))=ep s j 0) rfl rfl rfl rfl rfl rfl hj
theorem Xk(dom:Name->Bool)(l:List V)(hn:Name)(a:Nat)(hl:0<l.length):D.closL dom ((List.map D.v l).set 0 (.msl hn a))=dom hn:=by
 rw[yj (sB dom l),List.length_map]
 have :decide (l.length<=0)=false:=decide_eq_false (by omega)
 rw[this,Bool.or_false]
@[go_sem] theorem acP(dom:Name->Bool)(s:Stk)(j z:Nat):D.closL dom (ep s j z)=(dom [12,0]&&(dom [99,0]||(decide (19<=1+j)||!decide (j<z)))):=by
  by_cases h:j<z
  ·have:=KN dom (aB s) [12,0] [99,0] s.ho.length (s.un.get j).length (i:=0) (k:=1+j) (lb rfl) (by omega)
   unfold ep
   rw[if_pos h,this,decide_eq_true h,iN]
   simp
  ·unfold ep
   rw[if_neg h,decide_eq_false h]
   simp only[Bool.not_false,Bool.or_true,Bool.and_true]
   rw[Bool.eq_iff_iff]
   constructor
   ·intro h1
    have :=Dg.1 h1 0 (.msl [12,0] s.ho.length) (by rw[List.getElem?_set_ne (by omega),List.getElem?_set_self (by exact lb rfl)])
    simpa[D.clos]using this
   ·intro h1
    have h2:=Xk dom (aB s) [12,0] s.ho.length (lb rfl)
    rw[h1]at h2
    exact KQ rfl h2
theorem EE(s:Stk){i j:Nat}(hi:i<6)(hj:j<6)(h:i≠j):List.take (1+i) (ep s j i)++[D.v (.sl ((s.un.get i).map encPa))]++List.drop (1+i+1) (ep s j i)=ep s j (i+1):=by
 rw[re (by rw[o8];omega)]
 unfold ep
 have e:(if j<i then D.msl [99,0] (s.un.get j).length else .v (rowP (s.un.get j)))=(if j<i+1 then D.msl [99,0] (s.un.get j).length else .v (rowP (s.un.get j))):=by
  by_cases h1:j<i
  ·rw[if_pos h1,if_pos (by omega)]
  ·rw[if_neg h1,if_neg (by omega)]
 rw[e,List.set_comm _ (D.v (.sl ((s.un.get i).map encPa))) (show 1+j≠1+i by omega),List.set_comm _ (D.v (.sl ((s.un.get i).map encPa))) (show 0≠1+i by omega)]
 congr 2
 exact jx (P:=fun i=>(List.map D.v (aB s)).set (1+i) (D.v (.sl ((s.un.get i).map encPa)))=List.map D.v (aB s)) rfl rfl rfl rfl rfl rfl hi
theorem Od(s:Stk){j:Nat}(hj:j<6):D.renL (de [24,0] [99,0]) (List.take (1+j) (ep s j j)++[D.msl [24,0] (s.un.get j).length]++List.drop (1+j+1) (ep s j j))=ep s j (j+1):=by
 rw[re (by rw[o8];omega)]
 unfold ep
 rw[List.set_set,E8,if_pos (Nat.lt_succ_self j)]
 have e1:de [24,0] [99,0] [12,0]=[12,0]:=by decide
 have e2:de [24,0] [99,0] [24,0]=[99,0]:=by decide
 rw[e1,e2]
def o7(s:Stk)(j:Nat):List (Name×O):=[([12,0],.arr 1 (s.ho.map vInt)),([99,0],.arr 2 ((s.un.get j).map encPa))]
def zf(os:List O):List V:=match os with
 |[.box cs]=>(kj cs).getD []
 |_=>[]
def zg(ds:List D):Nat:=match ds with
 |[.ref _ off]=>off
 |_=>0
noncomputable def zh(j:Nat):CSpec where
 pre os ds:=∃ (l:List V) (off:Nat) (s:Stk),os=[.box (l.map .v)]/\ds=[.ref [0,1] off]/\(l.drop off).take 19=aB s/\iM s
 out os ds:=⟨[],o7 (eP (((zf os).drop (zg ds)).take 19)) j,.agg (gz [12,0] [99,0] (eP (((zf os).drop (zg ds)).take 19)) j)⟩
noncomputable def vu(j:Nat):Spec:=(zh j).toSpec
theorem ED(j:Nat){l:List V}{off:Nat}{s:Stk}(h:(l.drop off).take 19=aB s):(zh j).out [.box (l.map .v)] [.ref [0,1] off]=⟨[],o7 s j,.agg (gz [12,0] [99,0] s j)⟩:=by
 have e:eP (((zf [.box (l.map .v)]).drop (zg [.ref [0,1] off])).take 19)=s:=by
  show eP ((((kj (l.map .v)).getD []).drop off).take 19)=s
  rw[DF,Option.getD_some,h,nw]
 show (⟨[],o7 _ j,.agg (gz _ _ _ j)⟩:Out)=_
 rw[e]
theorem Oc(j:Nat){l:List V}{off:Nat}{s:Stk}{obj:Name->Option O}{nm t:Name}(ho:obj nm=some (.box (l.map .v)))(h:(l.drop off).take 19=aB s)(hs:iM s):
 (vu j).app obj t [.ref nm off]=⟨fresh obj t (o7 s j)=true,.agg (gz ([12,0]++t) ([99,0]++t) s j),upd (upd obj ([12,0]++t) (some (.arr 1 (s.ho.map vInt)))) ([99,0]++t) (some (.arr 2 ((s.un.get j).map encPa)))⟩:=by
 have hr:reach obj [.ref nm off]=[nm]:=sU.reach (l,off,s) [nm] obj rfl (by simp) ⟨ho,trivial⟩
 have e1:bZ obj [.ref nm off]=[.box (l.map .v)]:=by
  unfold bZ
  rw[hr]
  simp only[List.map_cons,List.map_nil,bV,ho,O.ren,s4]
 have e2:cG obj [.ref nm off]=[.ref [0,1] off]:=by
  unfold cG
  rw[hr]
  simp[D.renL,D.ren,cin,idx]
 have fb:shut obj [nm]=true:=by simp[shut,ho,O.clos,sB]
 have bI:D.closL (bY [nm]) [.ref nm off]=true:=by simp[D.closL,D.clos,bY]
 have hp:(zh j).pre [.box (l.map .v)] [.ref [0,1] off]:=⟨l,off,s,rfl,rfl,h,hs⟩
 have c1:cout [nm] t [12,0]=[12,0]++t:=rfl
 have c2:cout [nm] t [99,0]=[99,0]++t:=rfl
 simp only[vu,CSpec.toSpec,e1,e2,hr,fb,bI,Bool.true_and,hp,and_true,ED j h,bX]
 simp only[D.ren,Ob,c1,c2,o7,cV,O.ren]
theorem Q5(l:List V):∀ hs,cZ [0] (cM [0] hs) (be [.box (l.map .v)])=True:=Ro.outC sU (l,0,zS)
attribute [go_sem] o7
noncomputable def Mu:List (Nat×Spec):=[(46,S76g),(36,S77g)]
attribute [go_sem] Mu
theorem YQ:∀ f s,tbl Mu f=some s->ak Tryd.prog f s:=tc Tl<|tc Tk<|tn
set_option maxHeartbeats 4000000 in
theorem Ts{j:Nat}(hj:j<6):ak Tryd.prog 37 (vu j):=by
 refine lk (nt:=29) (rs:=[.cell 2 39]) Tryd.func37 rfl (by rfl) (by kernel_rfl) (gv Tryd.func37 rfl (by kernel_rfl)) (mG _ (by decide)) ?_
 rintro os ds ⟨l,off,s,rfl,rfl,jh,bj⟩
 rw[ED j jh]
 refine⟨lb rfl,iD ?_⟩
 have hΓ:=YQ
 have hO:=Q5 l
 have h0:be [.box (l.map .v)] [0,1]=some (.box (l.map .v)):=rfl
 generalize be [.box (l.map .v)]=H at *
 simp only[eA,Nat.zero_add]at h0 |-
 have Is:=bj.1
 have hA:=KA jh
 have hB:=C9 jh (show 0<19 by omega)
 have hL:=C7 jh
 have jN:(l.map D.v).getD off .any=.v (fo s.ho):=hB
 repeat refine sq ?_
 refine rx hΓ [0,2] [[2,0],[12,0],[99,0]] (fun K' hK=>by simp only[go_sem,hO,h0];(repeat (refine⟨ah,?_⟩));exact hK _ (by simp only[go_sem,hO,h0]) (by simp only[go_sem,hO,h0]<;>rfl)) ?_
 repeat refine sq ?_
 refine rx hΓ [0,2,3] [[2,0],[3,0],[12,0],[99,0]] (fun K' hK=>by simp only[go_sem,hO,h0,hA,hB,hL,List.length_map,List.append_nil,iN];(repeat (refine⟨ah,?_⟩));exact hK _ (by simp only[go_sem,hO,h0,hA,hB,hL,List.length_map,List.append_nil,iN]) (by simp only[go_sem,hO,h0,hA,hB,hL,List.length_map,List.append_nil,iN]<;>rfl)) ?_
 repeat refine sq ?_
 refine rx hΓ [0,2,3] [[2,0],[3,0],[12,0],[99,0]] (fun K' hK=>by simp only[go_sem,hO,h0,Nat.add_zero,jN,bj.1,zj s hj,Nat.not_lt_zero,decide_false,Bool.not_false,Bool.or_true];(repeat (refine⟨ah,?_⟩));exact hK _ (by simp only[go_sem,hO,h0,Nat.add_zero,jN,bj.1,zj s hj,Nat.not_lt_zero,decide_false,Bool.not_false,Bool.or_true]) (by simp only[go_sem,hO,h0,Nat.add_zero,jN,bj.1,zj s hj,Nat.not_lt_zero,decide_false,Bool.not_false,Bool.or_true]<;>rfl)) ?_
 refine bq (Nw [99,0] 2 rfl [0,2,3] [[2,0],[3,0],[12,0],[99,0]] ?_ rfl) ?_
 ·simp only[go_sem,hO,h0]
 simp only[go_sem,hO,h0]
 repeat refine sq ?_
 refine rx hΓ [0,2,3,14] [[2,0],[3,0],[12,0],[99,0]] (fun K' hK=>by simp only[go_sem,hO,h0];(repeat (refine⟨ah,?_⟩));exact hK _ (by simp only[go_sem,hO,h0]) (by simp only[go_sem,hO,h0]<;>rfl)) ?_
 repeat refine sq ?_
 refine aJ ?_
 repeat refine sq ?_
 refine bR (fun z:Nat=>[(14,⟨true,.v (vInt z)⟩)]) (fun z=>[([3,0],.box (ep s j z)),([99,0],.arr 2 (uJ s j z))]) (fun z=>z<=6) (fun z=>6-z) 0 ?_ ?_ ?_ ?_
 ·exact Nat.zero_le _
 ·rfl
 ·rfl
 rintro i hi
 simp only[go_sem]
 repeat refine sq ?_
 refine rx hΓ [0,2,3,14,15] [[2,0],[3,0],[12,0],[99,0]] (fun K' hK=>by simp only[go_sem,hO,h0];(repeat (refine⟨ah,?_⟩));exact hK _ (by simp only[go_sem,hO,h0]) (by simp only[go_sem,hO,h0]<;>rfl)) ?_
 repeat refine sq ?_
 refine ax rfl rfl (fun hb=>?_) (fun hb=>?_)
 ·have ae:i<6:=by have hq:(i:Int)<6:=(by simpa using hb);omega
  have ai:(i:Int)<6:=by omega
  clear hb
  have hC:=Ky jh ae
  have gT:=bj.2 i ae
  repeat refine sq ?_
  refine aC ?_
  repeat refine sq ?_
  refine aJ ?_
  repeat refine sq ?_
  refine rx hΓ [0,2,3,4,14] [[2,0],[3,0],[12,0],[99,0]] (fun K' hK=>by simp only[go_sem,hO,h0,Int.toNat_natCast,Int.natCast_nonneg,ai];(repeat (refine⟨ah,?_⟩));exact hK _ (by simp only[go_sem,hO,h0,Int.toNat_natCast,Int.natCast_nonneg,ai]) (by simp only[go_sem,hO,h0,Int.toNat_natCast,Int.natCast_nonneg,ai]<;>rfl)) ?_
  repeat refine sq ?_
  refine aQ hΓ fun K' hK=>?_
  simp only[go_sem,hO,h0,Int.toNat_natCast,Int.natCast_nonneg,ai,hC,gT,Int.toNat_natCast,Int.natCast_nonneg,ai]
  repeat (refine⟨ah,?_⟩)
  refine hK _ ?_
  clear K' hK
  refine bq (lC [0,2,3,14] [[2,0],[3,0],[12,0],[24,0],[99,0]] ?_ rfl) ?_
  ·simp only[go_sem,hO,h0]
  simp only[go_sem,hO,h0]
  refine bq (σ':=aS 29 [0] H [(0,⟨true,.ref [0,1] off⟩),(2,⟨true,.ref [2,0] 0⟩),(3,⟨true,.ref [3,0] 0⟩),(14,⟨true,.v (vInt i)⟩)] ([([2,0],.box [.nilsl,.nilsl,.nilsl,.nilsl,.nilsl,.nilsl,.nilsl,.v (.int .i64 0),.v (.int .i64 0),.v (.int .i64 0),.v (.int .i64 0),.v (.int .i64 0),.v (.int .i64 0),.v (.int .i64 0),.v (.int .i64 0),.v (.int .i64 0),.v (.int .i64 0),.v (.int .i64 0),.v (.int .i64 0)])]++[([3,0],.box (ep s j (i+1))),([12,0],.arr 1 (s.ho.map vInt)),([99,0],.arr 2 (uJ s j (i+1)))])) (Nx (i=j) (fun gm=>?_) (fun gm=>?_)) ?_
  ·subst gm
   refine Nv (p:=[0]) [24,0] [99,0] [0,2,3,14] [[2,0],[3,0],[12,0],[99,0]] rfl rfl ?_ ?_ ?_ ?_ ?_
   ·simp only[hO]
   ·simp only[go_sem]
   ·simp only[go_sem,E.ren,D.ren,de]
   ·simp only[go_sem,O.ren,Od s ae,NI,de]
   ·simp only[go_sem]
  ·refine D9 [3,0] [24,0] (1+i) _ _ _ _ rfl (Rj (by show 1+i<(ep s j i).length;rw[o8];omega)) rfl (by simp only[List.length_map]) [0,2,3,14] [[2,0],[3,0],[12,0],[99,0]] ?_ ?_
   ·simp only[go_sem,hO,h0,Ga (show 1+i<(ep s j i).length by rw[o8];omega),EE s ae hj gm,<-Ef s gm]
   ·simp only[go_sem,hO,h0,Ga (show 1+i<(ep s j i).length by rw[o8];omega),EE s ae hj gm,<-Ef s gm]
  simp only[go_sem]
  refine mb [0,2,3,14] [[2,0],[3,0],[12,0],[99,0]] ?_ ?_
  ·simp only[go_sem,hO,h0]
  simp only[go_sem,hO,h0]
  repeat refine sq ?_
  refine aQ hΓ fun K' hK=>?_
  simp only[go_sem,hO,h0,Int.toNat_natCast,Int.natCast_nonneg,ai]
  repeat (refine⟨ah,?_⟩)
  refine hK _ ?_
  clear K' hK
  simp only[go_sem]
  refine⟨i+1,ae,by(show 6-(i+1)<6-i;omega),?_⟩
  refine bd [0,2,3,14] [[2,0],[3,0],[12,0],[99,0]] ?_ ?_
  ·simp only[go_sem,aA ae (lb rfl:(6:Nat)<=maxLen),Int.natCast_add,Int.natCast_one,hO,h0]
  ·simp only[go_sem,aA ae (lb rfl:(6:Nat)<=maxLen),Int.natCast_add,Int.natCast_one,hO,h0]
 ·have aV:i=6:=by
   have :¬ (i:Int)<6:=by simpa using hb
   omega
  clear hb
  subst aV
  repeat refine sq ?_
  refine bK ?_
  simp only[go_sem]
  refine mb [2,3] [[2,0],[3,0],[12,0],[99,0]] ?_ ?_
  ·simp only[go_sem,hO,h0]
  simp only[go_sem,hO,h0]
  repeat refine sq ?_
  refine rx hΓ [2] [[2,0],[12,0],[99,0]] (fun K' hK=>by simp only[go_sem,hO,h0,zi s hj,yX s hj];(repeat (refine⟨ah,?_⟩));exact hK _ (by simp only[go_sem,hO,h0,zi s hj,yX s hj]) (by simp only[go_sem,hO,h0,zi s hj,yX s hj]<;>rfl)) ?_
  refine av ?_
  simp only[go_sem,hO,h0]
  skip
structure R2 where
 d:Dk
 j:Nat
 i:Nat
 hj:j<6
def cH(d:Dk)(j:Nat)(h u:Name):List D:=bG d j (.msl h d.now.ho.length) u (d.now.un.get j).length (d.now.se.get j)
def iP:Ro R2 where
 m:=3
 fam a Ls:=[.box (cH a.d a.j (Ls.getD 1 []) (Ls.getD 2 [])),.arr 1 (a.d.now.ho.map vInt),.arr 2 ((a.d.now.un.get a.j).map encPa)]
 args a Ls:=[.ref (Ls.getD 0 []) (20+a.i*21+1)]
 ok a:=a.i<2/\iM (a.d.pg a.i).st
 val a:=.v (l7 (a.d.pg a.i).st)
theorem tj{Ls:List Name}(h:Ls.length=3):∃ a b c,Ls=[a,b,c]:=by
 match Ls,h with
 |[a,b,c],_=>exact⟨a,b,c,rfl⟩
theorem Lg(f:Name->Name)(d:Dk)(j:Nat)(h u:Name):D.renL f (cH d j h u)=cH d j (f h) (f u):=by
 unfold cH bG
 rw[gl,List.map_set,List.map_set,List.map_set,List.map_map]
 rfl
theorem vf(d:Dk)(j:Nat)(h u:Name){i:Nat}(hi:i<2)(hj:j<6):List.take 19 (List.drop (20+i*21+1) (cH d j h u))=List.map D.v (aB (d.pg i).st):=by
 unfold cH bG
 rw[List.drop_set_of_lt (by omega),List.drop_set_of_lt (by omega),List.drop_set_of_lt (by omega)]
 exact Kd d hi
theorem Q9(d:Dk){j:Nat}(h u:Name)(hj:j<6):c9 (cH d j h u)=[h,u]:=
 jx (P:=fun j=>c9 (cH d j h u)=[h,u]) rfl rfl rfl rfl rfl rfl hj
theorem ze:iP.Ok where
 len:=fun _ _ _=>rfl
 renF:=fun a f Ls h=>by
  obtain⟨x,y,z,rfl⟩:=tj h
  simp only[iP,List.map_cons,List.map_nil,O.ren,Lg,List.getD_cons_zero,List.getD_cons_succ]
 renA:=fun a f Ls h=>by
  obtain⟨x,y,z,rfl⟩:=tj h
  rfl
 reach:=fun a Ls obj h hn hF=>by
  obtain⟨x,y,z,rfl⟩:=tj h
  obtain⟨h1,h2,h3,_⟩:=hF
  simp only[List.nodup_cons,List.mem_cons,List.not_mem_nil,or_false,not_or]at hn
  obtain⟨⟨n1,n2⟩,n3,_⟩:=hn
  have en:c9 (iP.args a [x,y,z])=[x]:=rfl
  unfold Go.Eng.reach
  rw[en]
  show ef obj (2995+1+1+1+1+1) [x] []=[x,y,z]
  have hb:c9 (cH a.d a.j y z)=[y,z]:=Q9 a.d y z a.hj
  simp only[List.getD_cons_zero,List.getD_cons_succ]at h1
  simp[ef,gS,h1,h2,h3,hb,nW,Ne.symm n1,Ne.symm n2,Ne.symm n3]
 closF:=fun a dom Ls h hd o ho=>by
  obtain⟨x,y,z,rfl⟩:=tj h
  have hx:=hd x (by simp)
  have hy:=hd y (by simp)
  have hz:=hd z (by simp)
  simp only[iP,List.mem_cons,List.not_mem_nil,or_false]at ho
  rcases ho with rfl | rfl | rfl
  ·simp only[O.clos,cH,Ld,List.getD_cons_zero,List.getD_cons_succ,D.clos,hy,hz,Bool.true_and,Bool.true_or]
  ·rfl
  ·rfl
 closA:=fun a dom Ls h hd=>by
  obtain⟨x,y,z,rfl⟩:=tj h
  have hx:=hd x (by simp)
  simp only[iP,D.closL,D.clos,List.getD_cons_zero,hx,Bool.and_self]
 det:=fun a b h1 h2 h3 h4=>by
  have e1:cH a.d a.j [1,1] [2,1]=cH b.d b.j [1,1] [2,1]:=O.box.inj (List.cons.inj h3).1
  have e2:20+a.i*21+1=20+b.i*21+1:=(D.ref.inj (List.cons.inj h4).1).2
  have e3:a.i=b.i:=by omega
  have e4:=vf a.d a.j [1,1] [2,1] h1.1 a.hj
  rw[e1,e3,vf b.d b.j [1,1] [2,1] h2.1 b.hj]at e4
  have e5:aB (b.d.pg b.i).st=aB (a.d.pg b.i).st:=Ak e4
  have e6:(b.d.pg b.i).st=(a.d.pg b.i).st:=by rw[<-nw (b.d.pg b.i).st,e5,nw]
  simp only[iP,e3,e6]
 vcl:=fun _ _=>rfl
 vren:=fun _ _=>rfl
noncomputable def S59r:Spec:=iP.c.toSpec
theorem Lh(d:Dk){j i k:Nat}(h u:Name)(hi:i<2)(hj:j<6)(hk:k<19):(cH d j h u).getD (20+i*21+1+k) .any=.v ((aB (d.pg i).st).getD k default):=by
 have hc:=vf d j h u hi hj
 have hlen:(cH d j h u).length=63:=lr _ _ _ _ _ _
 have e:(cH d j h u)[20+i*21+1+k]?=(List.map D.v (aB (d.pg i).st))[k]?:=by
  rw[<-hc,List.getElem?_take,if_pos hk,List.getElem?_drop]
 rw[List.getD_eq_getElem?_getD,e,List.getElem?_map,List.getElem?_eq_getElem (show k<(aB (d.pg i).st).length by rw[iN];exact hk)]
 rw[iz (show k<(aB (d.pg i).st).length by rw[iN];exact hk)]
 rfl
set_option maxHeartbeats 4000000 in
theorem Tr:ak Tryd.prog 37 S59r:=by
 refine Ro.sound ze (rs:=[.cell 2 39]) Tryd.func37 Tryd.ntmps37 (by rfl) (by kernel_rfl) (by decide) ⟨_,rfl,?_⟩
 rintro⟨d,j,i0,hj⟩ ⟨ka,bj⟩
 replace ka:i0<2:=ka
 refine⟨lb rfl,?_⟩
 have hΓ:=MW
 have hO:=Ro.outC ze ⟨d,j,i0,hj⟩
 have h0:be (iP.fam ⟨d,j,i0,hj⟩ (LR iP.m)) [0,1]=some (.box (cH d j [1,1] [2,1])):=rfl
 generalize be (iP.fam ⟨d,j,i0,hj⟩ (LR iP.m))=H at *
 obtain⟨s,j8⟩:∃ s,s=(d.pg i0).st:=⟨_,rfl⟩
 have ha:iP.args ⟨d,j,i0,hj⟩ (LR iP.m)=[.ref [0,1] (20+i0*21+1)]:=rfl
 have hv:iP.val ⟨d,j,i0,hj⟩=.v (l7 s):=by rw[j8];rfl
 rw[ha,hv]
 simp only[eA,Nat.zero_add]at h0 |-
 replace bj:iM s:=by rw[j8];exact bj
 have hA:List.take 19 (List.drop (20+i0*21+1) (cH d j [1,1] [2,1]))=List.map D.v (aB s):=by rw[j8];exact vf d j _ _ ka hj
 have hlen:(cH d j [1,1] [2,1]).length=63:=lr _ _ _ _ _ _
 have hL:20+i0*21+1+19<=(cH d j [1,1] [2,1]).length:=by omega
 have Jq:20+i0*21+1<(cH d j [1,1] [2,1]).length:=by omega
 have jN:(cH d j [1,1] [2,1]).getD (20+i0*21+1) .any=.v (fo s.ho):=by rw[j8];exact Lh d [1,1] [2,1] (k:=0) ka hj (by omega)
 obtain⟨off,rZ⟩:∃ off,off=20+i0*21+1:=⟨_,rfl⟩
 have sg:∀ i,i<6->(cH d j [1,1] [2,1]).getD (off+1+i) .any=.v (rowP (s.un.get i)):=fun i hi=>by
  rw[rZ,Nat.add_assoc (20+i0*21+1),j8,Lh d [1,1] [2,1] ka hj (show 1+i<19 by omega),dh _ hi]
 rw[<-rZ]at hA hL Jq jN |-
 obtain⟨X,hX⟩:∃ X,X=cH d j [1,1] [2,1]:=⟨_,rfl⟩
 rw[<-hX]at h0 hA hlen hL Jq jN sg
 repeat refine sq ?_
 refine rx hΓ [0,2] [[2,0]] (fun K' hK=>by simp only[go_sem,hO,h0];(repeat (refine⟨ah,?_⟩));exact hK _ (by simp only[go_sem,hO,h0]) (by simp only[go_sem,hO,h0]<;>rfl)) ?_
 repeat refine sq ?_
 refine rx hΓ [0,2,3] [[2,0],[3,0]] (fun K' hK=>by simp only[go_sem,hO,h0,hA,hlen,hL,List.length_map,List.append_nil,iN];(repeat (refine⟨ah,?_⟩));exact hK _ (by simp only[go_sem,hO,h0,hA,hlen,hL,List.length_map,List.append_nil,iN]) (by simp only[go_sem,hO,h0,hA,hlen,hL,List.length_map,List.append_nil,iN]<;>rfl)) ?_
 repeat refine sq ?_
 refine rx hΓ [0,2,3] [[2,0],[3,0]] (fun K' hK=>by simp only[go_sem,hO,h0,Nat.add_zero,jN,bj.1];(repeat (refine⟨ah,?_⟩));exact hK _ (by simp only[go_sem,hO,h0,Nat.add_zero,jN,bj.1]) (by simp only[go_sem,hO,h0,Nat.add_zero,jN,bj.1]<;>rfl)) ?_
 repeat refine sq ?_
 refine rx hΓ [0,2,3,14] [[2,0],[3,0]] (fun K' hK=>by simp only[go_sem,hO,h0];(repeat (refine⟨ah,?_⟩));exact hK _ (by simp only[go_sem,hO,h0]) (by simp only[go_sem,hO,h0]<;>rfl)) ?_
 repeat refine sq ?_
 refine aJ ?_
 repeat refine sq ?_
 refine bR (fun z:Nat=>[(14,⟨true,.v (vInt z)⟩)]) (fun z=>[]) (fun z=>z<=6) (fun z=>6-z) 0 ?_ ?_ ?_ ?_
 ·exact Nat.zero_le _
 ·rfl
 ·rfl
 rintro i hi
 simp only[go_sem]
 repeat refine sq ?_
 refine rx hΓ [0,2,3,14,15] [[2,0],[3,0]] (fun K' hK=>by simp only[go_sem,hO,h0];(repeat (refine⟨ah,?_⟩));exact hK _ (by simp only[go_sem,hO,h0]) (by simp only[go_sem,hO,h0]<;>rfl)) ?_
 repeat refine sq ?_
 refine ax rfl rfl (fun hb=>?_) (fun hb=>?_)
 ·have ae:i<6:=by have hq:(i:Int)<6:=(by simpa using hb);omega
  have ai:(i:Int)<6:=by omega
  clear hb
  have hC:=sg i ae
  have gT:=bj.2 i ae
  repeat refine sq ?_
  refine aC ?_
  repeat refine sq ?_
  refine aJ ?_
  repeat refine sq ?_
  refine rx hΓ [0,2,3,4,14] [[2,0],[3,0]] (fun K' hK=>by simp only[go_sem,hO,h0,Int.toNat_natCast,Int.natCast_nonneg,ai];(repeat (refine⟨ah,?_⟩));exact hK _ (by simp only[go_sem,hO,h0,Int.toNat_natCast,Int.natCast_nonneg,ai]) (by simp only[go_sem,hO,h0,Int.toNat_natCast,Int.natCast_nonneg,ai]<;>rfl)) ?_
  repeat refine sq ?_
  refine aQ hΓ fun K' hK=>?_
  simp only[go_sem,hO,h0,Int.toNat_natCast,Int.natCast_nonneg,ai,hC,gT,ra s ae,Int.toNat_natCast,Int.natCast_nonneg,ai]
  repeat (refine⟨ah,?_⟩)
  refine hK _ ?_
  clear K' hK
  simp only[go_sem]
  refine mb [0,2,3,14] [[2,0],[3,0]] ?_ ?_
  ·simp only[go_sem,hO,h0]
  simp only[go_sem,hO,h0]
  repeat refine sq ?_
  refine aQ hΓ fun K' hK=>?_
  simp only[go_sem,hO,h0,Int.toNat_natCast,Int.natCast_nonneg,ai]
  repeat (refine⟨ah,?_⟩)
  refine hK _ ?_
  clear K' hK
  simp only[go_sem]
  refine⟨i+1,ae,by(show 6-(i+1)<6-i;omega),?_⟩
  refine bd [0,2,3,14] [[2,0],[3,0]] ?_ ?_
  ·simp only[go_sem,aA ae (lb rfl:(6:Nat)<=maxLen),Int.natCast_add,Int.natCast_one,ra s ae,hO,h0]
  ·simp only[go_sem,aA ae (lb rfl:(6:Nat)<=maxLen),Int.natCast_add,Int.natCast_one,ra s ae,hO,h0]
 ·have aV:i=6:=by
   have :¬ (i:Int)<6:=by simpa using hb
   omega
  clear hb
  subst aV
  repeat refine sq ?_
  refine bK ?_
  simp only[go_sem]
  refine mb [2,3] [[2,0],[3,0]] ?_ ?_
  ·simp only[go_sem,hO,h0]
  simp only[go_sem,hO,h0]
  repeat refine sq ?_
  refine rx hΓ [2] [[2,0]] (fun K' hK=>by simp only[go_sem,hO,h0,List.append_nil];(repeat (refine⟨ah,?_⟩));exact hK _ (by simp only[go_sem,hO,h0,List.append_nil]) (by simp only[go_sem,hO,h0,List.append_nil]<;>rfl)) ?_
  refine bq (dd [2,0] (aB s) rfl [2] [[2,0]] ?_ rfl) ?_
  ·simp only[go_sem,hO,h0]
  simp only[go_sem,hO,h0]
  refine av ?_
  simp only[go_sem,hO,h0]
  exact .inr trivial
theorem Pv{d:Dk}{j i:Nat}(hj:j<6)(hi:i<2)(hs:iM (d.pg i).st){obj:Name->Option O}{t b h u:Name}(hn:[b,h,u].Nodup)(hb:obj b=some (.box (cH d j h u)))
 (hh:obj h=some (.arr 1 (d.now.ho.map vInt))) (hu:obj u=some (.arr 2 ((d.now.un.get j).map encPa))):
 S59r.app obj t [.ref b (20+i*21+1)]=⟨True,.v (.agg (aB (d.pg i).st)),obj⟩:=
 Ro.c_app ze (a:=⟨d,j,i,hj⟩) ⟨hi,hs⟩ (Ls:=[b,h,u]) rfl hn ⟨hb,hh,hu,trivial⟩
theorem XJ(d:Dk){j:Nat}(h u:Name)(hj:j<6):List.take 1 (List.map D.v (aq d))++gz h u d.now j++List.drop 20 (List.map D.v (aq d))=cH d j h u:=
 jx (P:=fun j=>List.take 1 (List.map D.v (aq d))++gz h u d.now j++List.drop 20 (List.map D.v (aq d))=cH d j h u) rfl rfl rfl rfl rfl rfl hj
theorem Nj{α:Type}{C W:List α}{a n:Nat}(h:List.take n (List.drop a C)=W)(hn:a+n<=C.length):List.take a C++W++List.drop (a+n) C=C:=by
 rw[<-h,List.append_assoc,<-List.drop_drop,List.take_append_drop,List.take_append_drop]
theorem XI(d:Dk){j i:Nat}(h u:Name)(hi:i<2)(hj:j<6):List.take (20+i*21+1) (cH d j h u)++List.map D.v (aB (d.pg i).st)++List.drop (20+i*21+1+19) (cH d j h u)=cH d j h u:=
 Nj (vf d j h u hi hj) (by rw[show (cH d j h u).length=63 from lr _ _ _ _ _ _];omega)
@[go_sem] theorem aff(d:Dk)(j:Nat)(h u:Name):(cH d j h u).length=63:=lr _ _ _ _ _ _
@[go_sem] theorem afi(d:Dk)(j:Nat)(h u:Name):(cH d j h u).take 63=cH d j h u:=XH _ _ _ _ _ _
@[go_sem] theorem afg(d:Dk)(j:Nat)(h u:Name):(cH d j h u).drop 63=[]:=XF _ _ _ _ _ _
@[go_sem] theorem afh(dom:Name->Bool)(d:Dk)(j:Nat)(h u:Name):D.closL dom (cH d j h u)=(dom h&&(dom u||decide (63<=2+j))):=Ld _ _ _ _ _ _ _
attribute [go_sem] Lg
noncomputable def DM(j:Nat):Spec:=Spec.ite (fun t _=>decide (t.headD 0=5)) (vu j) S59r
theorem Tt{j:Nat}(hj:j<6):ak Tryd.prog 37 (DM j):=(Ts hj).ite _ Tr (by decide)
attribute [go_sem] DM
noncomputable def Mt(j:Nat):List (Nat×Spec):=[(37,DM j)]
attribute [go_sem] Mt
theorem YP{j:Nat}(hj:j<6):∀ f s,tbl (Mt j) f=some s->ak Tryd.prog f s:=tc (Tt hj)<|tn
noncomputable def yO(j:Nat):NSpec:=n1 dK (fun d=>gM d) (fun d=>[([22,0],.box (cH d j [12,0,5,0] [99,0,5,0])),([12,0,5,0],.arr 1 (d.now.ho.map vInt)),([99,0,5,0],.arr 2 ((d.now.un.get j).map encPa))]) (fun _=>.ref [22,0] 0)
noncomputable def DN(j:Nat):Spec:=(yO j).toSpec
attribute [go_sem] yO DN
set_option maxHeartbeats 4000000 in
theorem Tv(j:Nat)(hj:j<6):ak Tryd.prog 43 (DN j):=by
 refine F3 (nt:=23) (rs:=[.tmp 2]) Tryd.func43 rfl (by rfl) (by kernel_rfl) (by kernel_rfl) (by decide) ?_
 intro xs hp
 obtain⟨d,rfl,hp,mZ,jJ⟩:=F8 hp
 replace mZ:(yO j).new _=_:=mZ
 replace jJ:(yO j).d _=_:=jJ
 rw[mZ,jJ]
 clear mZ jJ
 refine⟨lb rfl,?_⟩
 have hP:=bc
 simp only[iI,iB,ei,iI,iB,rR,ei,tC,jF,gA,pH,dK,n5,AW,iC,iF,encPa,l7,uV,fM,qu,List.map_cons,List.map_nil,eA,Nat.zero_add]
 have hΓ:=YP hj
 have hs:gM d:=hp
 have rU:=hs.now
 have Co:∀ (F:Name->Option O),F [1,0]=some (.box ((aq d).map .v))->(vu j).app (fun nm=>if own [0] nm=true then F nm else none) [5,0] [.ref [1,0] 1]=⟨fresh (fun nm=>if own [0] nm=true then F nm else none) [5,0] (o7 d.now j)=true,.agg (gz [12,0,5,0] [99,0,5,0] d.now j),upd (upd (fun nm=>if own [0] nm=true then F nm else none) [12,0,5,0] (some (.arr 1 (d.now.ho.map vInt)))) [99,0,5,0] (some (.arr 2 ((d.now.un.get j).map encPa)))⟩:=fun F h=>Oc j (s:=d.now) (l:=aq d) (off:=1) (by rw[<-h];rfl) (so d) rU
 repeat refine sq ?_
 refine rx hΓ [1] [[1,0],[12,0,5,0],[99,0,5,0]] (fun K' hK=>by simp only[go_sem];(repeat (refine⟨ah,?_⟩));exact hK _ (by simp only[go_sem]) (by simp only[go_sem]<;>rfl)) ?_
 repeat refine sq ?_
 refine rx hΓ [1] [[1,0],[12,0,5,0],[99,0,5,0]] (fun K' hK=>by simp only[go_sem,Co,XJ d [12,0,5,0] [99,0,5,0] hj];(repeat (refine⟨ah,?_⟩));exact hK _ (by simp only[go_sem]) (by simp only[go_sem]<;>rfl)) ?_
 repeat refine sq ?_
 refine rx hΓ [1,7] [[1,0],[12,0,5,0],[99,0,5,0]] (fun K' hK=>by simp only[go_sem];(repeat (refine⟨ah,?_⟩));exact hK _ (by simp only[go_sem]) (by simp only[go_sem]<;>rfl)) ?_
 repeat refine sq ?_
 refine aJ ?_
 repeat refine sq ?_
 refine bR (fun z:Nat=>[(7,⟨true,.v (vInt z)⟩)]) (fun z=>[]) (fun z=>z<=2) (fun z=>2-z) 0 ?_ ?_ ?_ ?_
 ·exact Nat.zero_le _
 ·rfl
 ·rfl
 rintro i hi
 simp only[go_sem]
 repeat refine sq ?_
 refine rx hΓ [1,7,8] [[1,0],[12,0,5,0],[99,0,5,0]] (fun K' hK=>by simp only[go_sem];(repeat (refine⟨ah,?_⟩));exact hK _ (by simp only[go_sem]) (by simp only[go_sem]<;>rfl)) ?_
 repeat refine sq ?_
 refine ax rfl rfl (fun hb=>?_) (fun hb=>?_)
 ·have ae:i<2:=by have hq:(i:Int)<2:=(by simpa using hb);omega
  have ai:(i:Int)<2:=by omega
  clear hb
  have Cn:∀ (F:Name->Option O) (t:Name),F [1,0]=some (.box (cH d j [12,0,5,0] [99,0,5,0]))->F [12,0,5,0]=some (.arr 1 (d.now.ho.map vInt))->F [99,0,5,0]=some (.arr 2 ((d.now.un.get j).map encPa))->S59r.app (fun nm=>if own [0] nm=true then F nm else none) t [.ref [1,0] (20+i*21+1)]=⟨True,.v (.agg (aB (d.pg i).st)),fun nm=>if own [0] nm=true then F nm else none⟩:=fun F t h1 h2 h3=>Pv (b:=[1,0]) (h:=[12,0,5,0]) (u:=[99,0,5,0]) hj ae (hs.pg i ae) (by decide) (by rw[<-h1];rfl) (by rw[<-h2];rfl) (by rw[<-h3];rfl)
  repeat refine sq ?_
  refine aC ?_
  repeat refine sq ?_
  refine aJ ?_
  repeat refine sq ?_
  refine rx hΓ [1,3,7] [[1,0],[12,0,5,0],[99,0,5,0]] (fun K' hK=>by simp only[go_sem,Int.toNat_natCast,Int.natCast_nonneg,ai];(repeat (refine⟨ah,?_⟩));exact hK _ (by simp only[go_sem]) (by simp only[go_sem]<;>rfl)) ?_
  repeat refine sq ?_
  refine aQ hΓ fun K' hK=>?_
  simp only[go_sem,Int.toNat_natCast,Int.natCast_nonneg,ai,Cn,XI d [12,0,5,0] [99,0,5,0] ae hj,Int.toNat_natCast,Int.natCast_nonneg,ai]
  repeat (refine⟨ah,?_⟩)
  refine hK _ ?_
  clear K' hK
  simp only[go_sem]
  refine kp [1,7] [[1,0],[12,0,5,0],[99,0,5,0]] ?_
  repeat refine sq ?_
  refine aQ hΓ fun K' hK=>?_
  simp only[go_sem,Int.toNat_natCast,Int.natCast_nonneg,ai]
  repeat (refine⟨ah,?_⟩)
  refine hK _ ?_
  clear K' hK
  simp only[go_sem]
  refine⟨i+1,ae,by(show 2-(i+1)<2-i;omega),?_⟩
  refine bd [1,7] [[1,0],[12,0,5,0],[99,0,5,0]] ?_ ?_
  ·simp only[go_sem,aA ae (lb rfl:(2:Nat)<=maxLen),Int.natCast_add,Int.natCast_one]
  ·simp only[go_sem,aA ae (lb rfl:(2:Nat)<=maxLen),Int.natCast_add,Int.natCast_one]
 ·have aV:i=2:=by
   have :¬ (i:Int)<2:=by simpa using hb
   omega
  clear hb
  subst aV
  repeat refine sq ?_
  refine bK ?_
  simp only[go_sem]
  refine kp [1] [[1,0],[12,0,5,0],[99,0,5,0]] ?_
  repeat refine sq ?_
  refine rx hΓ [2] [[22,0],[12,0,5,0],[99,0,5,0]] (fun K' hK=>by simp only[go_sem,List.append_nil];(repeat (refine⟨ah,?_⟩));exact hK _ (by simp only[go_sem]) (by simp only[go_sem]<;>rfl)) ?_
  refine av ?_
  simp only[go_sem]
  skip
noncomputable def P116:PSpec:=p1 iI (fun _=>True) (fun _=>.bool false) true
noncomputable def S116:Spec:=P116.toSpec
attribute [go_sem] P116 S116
theorem P1:aR Tryd.prog 80 P116:=by
 refine w1 (rs:=[.tmp 2]) Tryd.func80 Tryd.ntmps80 (by rfl) (by kernel_rfl) (by decide) (fun _ _=>rfl) ⟨_,rfl,lb rfl,fun n hp hw=>?_⟩
 have hP:=bc
 simp only[iI]at hw |-
 have hΓ:=@ig Tryd.prog
 repeat refine sq ?_
 refine rs hΓ [0] [] ?_
 repeat refine sq ?_
 refine rx hΓ [2] [] (fun K' hK=>by simp only[go_sem,bne_self_eq_false];(repeat (refine⟨ob,?_⟩));exact hK _ (by simp only[go_sem]) (by simp only[go_sem]<;>rfl)) ?_
 refine av ?_
 simp only[go_sem]
 skip
theorem TE:ak Tryd.prog 80 S116:=P1.sound
noncomputable def P100:PSpec:=p1 iI (fun _=>True) (fun _=>.bool false) true
noncomputable def S100:Spec:=P100.toSpec
attribute [go_sem] P100 S100
theorem P':aR Tryd.prog 68 P100:=by
 refine w1 (rs:=[.tmp 2]) Tryd.func68 Tryd.ntmps68 (by rfl) (by kernel_rfl) (by decide) (fun _ _=>rfl) ⟨_,rfl,lb rfl,fun n hp hw=>?_⟩
 have hP:=bc
 simp only[iI]at hw |-
 have hΓ:=@ig Tryd.prog
 repeat refine sq ?_
 refine rs hΓ [0] [] ?_
 repeat refine sq ?_
 refine rx hΓ [2] [] (fun K' hK=>by simp only[go_sem,bne_self_eq_false];(repeat (refine⟨ob,?_⟩));exact hK _ (by simp only[go_sem]) (by simp only[go_sem]<;>rfl)) ?_
 refine av ?_
 simp only[go_sem]
 skip
theorem Ia:ak Tryd.prog 68 S100:=P'.sound
noncomputable def Ms:List (Nat×Spec):=[(80,S116),(68,S100)]
theorem YO:∀ f s,tbl Ms f=some s->ak Tryd.prog f s:=tc TE<|tc Ia<|tn
attribute [go_sem] Ms
noncomputable def P99:PSpec:=p2 iI iI (fun _ _=>True) (fun a b=>.bool (decide (a<b))) true
noncomputable def S99:Spec:=P99.toSpec
attribute [go_sem] P99 S99
theorem O5:aR Tryd.prog 67 P99:=by
 refine w2 (rs:=[.tmp 4]) Tryd.func67 Tryd.ntmps67 (by rfl) (by kernel_rfl) (by decide) (fun _ _ _=>rfl) ⟨_,rfl,lb rfl,fun a b hp hw=>?_⟩
 have hP:=bc
 simp only[iI]at hw |-
 have hΓ:=YO
 repeat refine sq ?_
 refine rs hΓ [0,1] [] ?_
 repeat refine sq ?_
 refine rs hΓ [4] [] ?_
 refine av ?_
 simp only[go_sem]
 skip
theorem Tg:ak Tryd.prog 67 S99:=O5.sound
noncomputable def Mr:List (Nat×Spec):=[(67,S99),(68,S100)]
theorem YN:∀ f s,tbl Mr f=some s->ak Tryd.prog f s:=tc Tg<|tc Ia<|tn
attribute [go_sem] Mr
def bz(l:List Int)(x:Int):Nat:=(l.takeWhile fun y=>decide (y<x)).length
def bQ(l:List Int)(x:Int):Bool:=l.contains x
theorem Ri{i j:Nat}(hi:i<=maxLen)(hj:j<=maxLen):IntKind.i64.wrap ((IntKind.u64.wrap (IntKind.i64.wrap ((i:Int)+(j:Int)))).fdiv (2 ^ min (Int.toNat 1) 64))=(((i+j) / 2:Nat):Int):=by
 unfold maxLen at hi hj
 have h1:min (Int.toNat 1) 64=1:=by decide
 have h2:IntKind.u64.wrap (IntKind.i64.wrap ((i:Int)+(j:Int)))=((i+j:Nat):Int):=by
  rw[IntKind.wrap_u64,IntKind.wrap_i64]
  omega
 rw[h1,h2]
 have h3:(((i+j:Nat):Int)).fdiv (2 ^ 1)=(((i+j) / 2:Nat):Int):=by
  rw[Int.fdiv_eq_ediv_of_nonneg _ (by decide)]
  omega
 rw[h3,wrap_i64 (by omega) (by omega)]
theorem Rm{l:List Int}{x:Int}{i:Nat}(hi:i<=l.length)(h1:∀ k (h:k<l.length),k<i->l[k] <x)(h2:∀ k (h:k<l.length),i<=k->x<=l[k]):bz l x=i:=by
 unfold bz
 induction l generalizing i with
 |nil=>simp at hi |-;omega
 |cons a r ih=>
  cases i with
  |zero=>
   have :=h2 0 (by simp) (Nat.le_refl _)
   simp only[List.getElem_cons_zero]at this
   have hd:decide (a<x)=false:=by simp;omega
   simp[hd]
  |succ i=>
   have :=h1 0 (by simp) (by omega)
   simp only[List.getElem_cons_zero]at this
   have hd:decide (a<x)=true:=by simp;omega
   simp only[List.takeWhile_cons,hd,if_true,List.length_cons]
   rw[ih (by simpa using hi) (fun k hk jH=>by have:=h1 (k+1) (by simpa using hk) (by omega);simpa using this) (fun k hk jH=>by have:=h2 (k+1) (by simpa using hk) (by omega);simpa using this)]
theorem Vx{l:List Int}{x:Int}{i:Nat}(hs:l.Pairwise (· < ·))(hi:i<l.length)(h1:∀ k (h:k<l.length),k<i->l[k] <x)(h2:∀ k (h:k<l.length),i<=k->x<=l[k]):bQ l x=(l[i]==x):=by
 unfold bQ
 rw[Bool.eq_iff_iff]
 simp only[List.contains_iff_mem,beq_iff_eq]
 constructor
 ·intro h
  obtain⟨k,hk,e⟩:=List.getElem_of_mem h
  rcases Nat.lt_trichotomy k i with h3 | h3 | h3
  ·have:=h1 k hk h3;omega
  ·subst h3;exact e
  ·have:=List.pairwise_iff_getElem.1 hs i k hi hk h3
   have :=h2 i hi (Nat.le_refl _)
   omega
 ·rintro rfl;exact List.getElem_mem hi
theorem Vw{l:List Int}{x:Int}(h1:∀ k (h:k<l.length),l[k] <x):bQ l x=false:=by
 unfold bQ
 rw[Bool.eq_false_iff]
 intro h
 obtain⟨k,hk,e⟩:=List.getElem_of_mem (List.contains_iff_mem.1 h)
 have :=h1 k hk
 omega
noncomputable def P52:PSpec:=p2 ei iI (fun l _=>l.Pairwise (· < ·)) (fun l x=>.tup [vInt (bz l x),.bool (bQ l x)]) true
noncomputable def S52:Spec:=P52.toSpec
attribute [go_sem] P52 S52
set_option maxRecDepth 10000 in
set_option maxHeartbeats 4000000 in
theorem PF:aR Tryd.prog 42 P52:=by
 refine w2 (rs:=[.tmp 4,.tmp 5]) Tryd.func42 Tryd.ntmps42 (by rfl) (by kernel_rfl) (by decide) (fun _ _ _=>rfl) ⟨_,rfl,lb rfl,fun l x hp hw=>?_⟩
 have hP:=bc
 simp only[iI,ei]at hw |-
 have hΓ:=YN
 have hs:l.Pairwise (· < ·):=hp
 have hl:l.length<=maxLen:=by have:=hw.1.1;simpa using this
 repeat refine sq ?_
 refine rs hΓ [0,1] [] ?_
 repeat refine sq ?_
 refine rs hΓ [0,1,6] [] ?_
 repeat refine sq ?_
 refine rs hΓ [0,1,6,7,8] [] ?_
 repeat refine sq ?_
 refine aJ ?_
 repeat refine sq ?_
 refine bR (fun ij:Nat×Nat=>[(7,⟨true,.v (vInt ij.1)⟩),(8,⟨true,.v (vInt ij.2)⟩)]) (fun i=>[]) (fun ij=>ij.1<=ij.2/\ij.2<=l.length/\(∀ k (h:k<l.length),k<ij.1->l[k] <x)/\(∀ k (h:k<l.length),ij.2<=k->x<=l[k])) (fun ij=>ij.2-ij.1) (0,l.length) ?_ ?_ ?_ ?_
 ·exact⟨Nat.zero_le _,Nat.le_refl _,fun k h hk=>by omega,fun k h hk=>by omega⟩
 ·rfl
 ·rfl
 rintro⟨i,j⟩ ⟨gm,BM,eL,gn⟩
 simp only[go_sem]
 repeat refine sq ?_
 refine rs hΓ [0,1,6,7,8,15] [] ?_
 repeat refine sq ?_
 refine ax rfl rfl (fun hb=>?_) (fun hb=>?_)
 ·have ae:i<j:=by simpa using hb
  repeat refine sq ?_
  refine aC ?_
  repeat refine sq ?_
  refine aJ ?_
  repeat refine sq ?_
  refine rx hΓ [0,1,6,7,8,9] [] (fun K' hK=>by simp only[go_sem,Ri (show i<=maxLen by omega) (show j<=maxLen by omega)];(repeat (refine⟨ob,?_⟩));exact hK _ (by simp only[go_sem]) (by simp only[go_sem]<;>rfl)) ?_
  obtain⟨h,hh⟩:∃ h,h=(i+j) / 2:=⟨_,rfl⟩
  rw[<-hh]
  have h1:i<=h:=by omega
  have h2:h<j:=by omega
  have h3:h<l.length:=by omega
  have sh:(h:Int)<l.length:=by omega
  repeat refine sq ?_
  refine rx hΓ [0,1,6,7,8,9,27] [] (fun K' hK=>by simp only[go_sem,aH h3,Int.toNat_natCast,Int.natCast_nonneg,sh];(repeat (refine⟨ob,?_⟩));exact hK _ (by simp only[go_sem]) (by simp only[go_sem]<;>rfl)) ?_
  repeat refine sq ?_
  refine ax rfl rfl (fun hb=>?_) (fun hb=>?_)
  ·have hx:l[h] <x:=of_decide_eq_true hb
   repeat refine sq ?_
   refine aQ hΓ fun K' hK=>?_
   simp only[go_sem]
   repeat (refine⟨ob,?_⟩)
   refine hK _ ?_
   clear K' hK
   simp only[go_sem]
   refine⟨(h+1,j),⟨by omega,BM,fun k hk BI=>?_,gn⟩,by omega,?_⟩
   ·rcases Nat.lt_succ_iff_lt_or_eq.1 BI with h5 | h5
    ·have:=List.pairwise_iff_getElem.1 hs k h hk h3 h5;omega
    ·subst h5;exact hx
   ·refine bd [0,1,6,7,8] [] ?_ ?_
    ·simp only[go_sem,aA h3 hl,Int.natCast_add,Int.natCast_one]
    ·simp only[go_sem,aA h3 hl,Int.natCast_add,Int.natCast_one]
  ·have hx:x<=l[h]:=by
     have :¬ l[h] <x:=of_decide_eq_false hb
     omega
   repeat refine sq ?_
   refine aQ hΓ fun K' hK=>?_
   simp only[go_sem]
   repeat (refine⟨ob,?_⟩)
   refine hK _ ?_
   clear K' hK
   simp only[go_sem]
   refine⟨(i,h),⟨by omega,by omega,eL,fun k hk BI=>?_⟩,by omega,?_⟩
   ·rcases Nat.lt_or_eq_of_le BI with h5 | h5
    ·have:=List.pairwise_iff_getElem.1 hs h k h3 hk h5;omega
    ·subst h5;exact hx
   ·refine bd [0,1,6,7,8] [] ?_ ?_
    ·simp only[go_sem]
    ·simp only[go_sem]
 ·have U1:i=j:=by
    have :¬ i<j:=by simpa using hb
    omega
  subst U1
  clear hb
  have p5:=Rm BM eL gn
  repeat refine sq ?_
  refine bK ?_
  simp only[go_sem]
  refine kp [0,1,6,7] [] ?_
  repeat refine sq ?_
  rcases Nat.lt_or_ge i l.length with fC | fC
  ·have U0:(i:Int)<l.length:=by omega
   have BR:=Vx hs fC eL gn
   have hg:=aH (f:=vInt) fC
   repeat refine sq ?_
   refine rx hΓ [4,5] [] (fun K' hK=>by simp only[go_sem,aH fC,Int.toNat_natCast,Int.natCast_nonneg,U0,decide_true,p5];(repeat (refine⟨ob,?_⟩));exact hK _ (by simp only[go_sem]) (by simp only[go_sem]<;>rfl)) ?_
   refine av ?_
   simp only[go_sem]
   rw[p5,BR]
   first | done | rfl
  ·have aV:¬ (i:Int)<l.length:=by omega
   have BR:bQ l x=false:=Vw fun k hk=>eL k hk (by omega)
   repeat refine sq ?_
   refine rx hΓ [4,5] [] (fun K' hK=>by simp only[go_sem,aV,decide_false,Int.toNat_natCast];(repeat (refine⟨ob,?_⟩));exact hK _ (by simp only[go_sem]) (by simp only[go_sem]<;>rfl)) ?_
   refine av ?_
   simp only[go_sem]
   rw[p5,BR]
   first | done | rfl
theorem H5:ak Tryd.prog 42 S52:=PF.sound
set_option maxRecDepth 100000
def dU:En (List Dk):=⟨fun l=>.sl (l.map fM),fun v=>match v with | .sl l=>l.map uZ | _=>[]⟩
@[go_sem] theorem Ud(l:List Dk):dU.dec (.sl (l.map fM))=l:=tp Km l
theorem bh{l:List Dk}{i:Nat}(h:i<l.length):(l.map fM).getD i default=.agg (aq l[i]):=by
 simp[List.getD_eq_getElem?_getD,List.getElem?_eq_getElem h,fM]
def jl(l:List Dk)(i:Nat):Bool:=aF (l.getD i default)&&(i==0||decide ((l.getD (i-1) default).me<(l.getD i default).me))
def bU(l:List Dk):Bool:=dP l.length (jl l)&&decide (l.length<=6)
theorem J9{l:List Dk}{i p:Nat}(hp:p=i-1)(hi:i<l.length)(bF:p<l.length):(!aF l[i]||(!(i==0)&&!decide (l[p].me<l[i].me)))=!jl l i:=by
 subst hp
 unfold jl
 rw[getD_at hi,getD_at bF]
 cases aF l[i]<;>cases (i==0)<;>cases decide (l[i-1].me<l[i].me)<;>rfl
@[go_sem] theorem ad2(d:Dk):List.take 1 (aq d)=[vInt d.me]:=rfl
theorem Ke(d:Dk):(lg d != 0)=!aF d:=by unfold lg;cases aF d<;>rfl
noncomputable def Ml:List (Nat×Spec):=[(66,S74),(39,S23),(77,S39)]
theorem YH:∀ f s,tbl Ml f=some s->ak Tryd.prog f s:=tc HV<|tc n0<|tc mM<|tn
attribute [go_sem] Ml
noncomputable def P119:PSpec:=p1 dU (fun _=>True) (fun l=>.bool (bU l)) true
noncomputable def S119:Spec:=P119.toSpec
attribute [go_sem] P119 S119
set_option maxHeartbeats 4000000 in
theorem P0:aR Tryd.prog 59 P119:=by
 refine w1 (rs:=[.tmp 2]) Tryd.func59 Tryd.ntmps59 (by rfl) (by kernel_rfl) (by decide) (fun _ _=>rfl) ⟨_,rfl,lb rfl,fun l hp hw=>?_⟩
 have hP:=bc
 simp only[dU]at hw |-
 have hΓ:=YH
 have hl:l.length<=maxLen:=by have:=hw.1.1;simpa using this
 repeat refine sq ?_
 refine rx hΓ [0] [] (fun K' hK=>by simp only[go_sem];(repeat (refine⟨ah,?_⟩));exact hK _ (by simp only[go_sem]) (by simp only[go_sem]<;>rfl)) ?_
 repeat refine sq ?_
 refine rx hΓ [0,5,6,7] [] (fun K' hK=>by simp only[go_sem];(repeat (refine⟨ah,?_⟩));exact hK _ (by simp only[go_sem]) (by simp only[go_sem]<;>rfl)) ?_
 repeat refine sq ?_
 refine aJ ?_
 repeat refine sq ?_
 refine bR (fun s:Nat=>[(7,⟨true,.v (vInt s)⟩)]) (fun s=>[]) (fun s=>s<=l.length/\dP s (jl l)=true) (fun s=>l.length-s) 0 ?_ ?_ ?_ ?_
 ·exact⟨Nat.zero_le _,rfl⟩
 ·rfl
 ·rfl
 rintro i ⟨hi,hR⟩
 simp only[go_sem]
 repeat refine sq ?_
 refine rx hΓ [0,5,6,7,8] [] (fun K' hK=>by simp only[go_sem];(repeat (refine⟨ah,?_⟩));exact hK _ (by simp only[go_sem]) (by simp only[go_sem]<;>rfl)) ?_
 repeat refine sq ?_
 refine ax rfl rfl (fun hb=>?_) (fun hb=>?_)
 ·have ae:i<l.length:=by simpa using hb
  have ai:(i:Int)<l.length:=by omega
  clear hb
  obtain⟨p,hp,bF,fA,bP⟩:=ru ae hl
  have cK:=J9 fA ae bF
  repeat refine sq ?_
  refine aC ?_
  repeat refine sq ?_
  refine aJ ?_
  repeat refine sq ?_
  refine rx hΓ [0,3,4,5,6,7] [[4,0]] (fun K' hK=>by simp only[go_sem,bh ae,Int.toNat_natCast,Int.natCast_nonneg,ai,List.length_map,bh ae,Int.toNat_natCast,Int.natCast_nonneg,ai,List.length_map,List.append_nil];(repeat (refine⟨ah,?_⟩));exact hK _ (by simp only[go_sem]) (by simp only[go_sem]<;>rfl)) ?_
  refine bq (dd [4,0] (aq l[i]) rfl [0,3,4,5,6,7] [[4,0]] ?_ rfl) ?_
  ·simp only[go_sem]
  simp only[go_sem]
  rcases Nat.eq_zero_or_pos i with h0 | h0
  ·have bw:(i==0)=true:=by simp[h0]
   repeat refine sq ?_
   refine dx hΓ hP [[],[0],[0,1],[0,1,2],[0,1,2,3],[0,1,2,3,4],[0,1,2,3,4,5],[0,1,2,3,4,5,6],[0,1,2,3,4,5,6],[0,1,2,3,4,5,6,8],[0,1,2,3,4,5,6,7,8,9],[0,1,2,3,4,5,6,7,8,9,10],[0,1,2,3,4,5,6,7,8,9,10,11],[0,1,2,3,4,5,6],[0,1,2,3,4,5,6,13],[0,1,2,3,4,5,6,7,8,9,10,11,12,13,14],[0,1,2,3,4,5,6,7,8,9,10,11,12,13,14,15],[0,1,2,3,4,5,6,7,8,9,10,11,12,13,14,15,16]] [0,5,6,7,29] [] (by kernel_rfl) (fun K' hK=>by simp only[go_sem,bh ae,Int.toNat_natCast,Int.natCast_nonneg,ai,List.length_map,bw,hp,bh bF,Int.toNat_natCast,Int.natCast_nonneg,ai,lM,not_lt,List.length_map];(repeat (refine⟨by first | exact ah | exact fun _=>⟨bE,bH,rfl⟩ | exact fun _=>⟨bE,bH⟩,?_⟩));(first | refine⟨by rfl,?_⟩ | skip);exact hK _ (by simp only[go_sem]) (by simp only[go_sem]<;>rfl)) ?_
   repeat refine sq ?_
   refine ax rfl rfl (fun hb=>?_) (fun hb=>?_)
   ·repeat refine sq ?_
    have aN:jl l i=false:=by simpa[bw,hb]using cK.symm
    repeat refine sq ?_
    refine rx hΓ [2] [] (fun K' hK=>by simp only[go_sem,bh ae,Int.toNat_natCast,Int.natCast_nonneg,ai,List.length_map,bw];(repeat (refine⟨ah,?_⟩));exact hK _ (by simp only[go_sem]) (by simp only[go_sem]<;>rfl)) ?_
    refine av ?_
    simp only[go_sem]
    first | simp only[bU,dO ae aN,Bool.false_and] | (simp only[bU,hR,Bool.true_and];done) | (simp only[bU,hR,Bool.true_and];congr 2;apply propext;omega)
   ·repeat refine sq ?_
    have bk:jl l i=true:=by simpa[bw,hb]using cK.symm
    refine aC ?_
    refine cX ?_
    simp only[go_sem]
    refine kp [0,5,6,7] [] ?_
    repeat refine sq ?_
    refine aQ hΓ fun K' hK=>?_
    simp only[go_sem,bh ae,Int.toNat_natCast,Int.natCast_nonneg,ai,List.length_map,bw]
    repeat (refine⟨ah,?_⟩)
    refine hK _ ?_
    clear K' hK
    simp only[go_sem]
    refine⟨i+1,⟨ae,?_⟩,by(show l.length-(i+1)<l.length-i;omega),?_⟩
    ·exact gg hR bk
    refine bd [0,5,6,7] [] ?_ ?_
    ·simp only[go_sem,aA ae hl,Int.natCast_add,Int.natCast_one]
    ·simp only[go_sem,aA ae hl,Int.natCast_add,Int.natCast_one]
  ·have bw:(i==0)=false:=by rw[beq_eq_false_iff_ne];omega
   obtain⟨bE,bH⟩:=bP h0
   repeat refine sq ?_
   refine dx hΓ hP [[],[0],[0,1],[0,1,2],[0,1,2,3],[0,1,2,3,4],[0,1,2,3,4,5],[0,1,2,3,4,5,6],[0,1,2,3,4,5,6],[0,1,2,3,4,5,6,8],[0,1,2,3,4,5,6,7,8,9],[0,1,2,3,4,5,6,7,8,9,10],[0,1,2,3,4,5,6,7,8,9,10,11],[0,1,2,3,4,5,6],[0,1,2,3,4,5,6,13],[0,1,2,3,4,5,6,7,8,9,10,11,12,13,14],[0,1,2,3,4,5,6,7,8,9,10,11,12,13,14,15],[0,1,2,3,4,5,6,7,8,9,10,11,12,13,14,15,16]] [0,5,6,7,29] [] (by kernel_rfl) (fun K' hK=>by simp only[go_sem,bh ae,Int.toNat_natCast,Int.natCast_nonneg,ai,List.length_map,bw,bE,bH,hp,bh bF,Int.toNat_natCast,Int.natCast_nonneg,ai,lM,not_lt,List.length_map];(repeat (refine⟨by first | exact ah | exact fun _=>⟨bE,bH,rfl⟩ | exact fun _=>⟨bE,bH⟩,?_⟩));(first | refine⟨by rfl,?_⟩ | skip);exact hK _ (by simp only[go_sem]) (by simp only[go_sem]<;>rfl)) ?_
   repeat refine sq ?_
   refine ax rfl rfl (fun hb=>?_) (fun hb=>?_)
   ·repeat refine sq ?_
    have aN:jl l i=false:=by simpa[bw,<-Bool.or_assoc,hb]using cK.symm
    repeat refine sq ?_
    refine rx hΓ [2] [] (fun K' hK=>by simp only[go_sem,bh ae,Int.toNat_natCast,Int.natCast_nonneg,ai,List.length_map,bw,bE,bH];(repeat (refine⟨ah,?_⟩));exact hK _ (by simp only[go_sem]) (by simp only[go_sem]<;>rfl)) ?_
    refine av ?_
    simp only[go_sem]
    first | simp only[bU,dO ae aN,Bool.false_and] | (simp only[bU,hR,Bool.true_and];done) | (simp only[bU,hR,Bool.true_and];congr 2;apply propext;omega)
   ·repeat refine sq ?_
    have bk:jl l i=true:=by simpa[bw,<-Bool.or_assoc,hb]using cK.symm
    refine aC ?_
    refine cX ?_
    simp only[go_sem]
    refine kp [0,5,6,7] [] ?_
    repeat refine sq ?_
    refine aQ hΓ fun K' hK=>?_
    simp only[go_sem,bh ae,Int.toNat_natCast,Int.natCast_nonneg,ai,List.length_map,bw,bE,bH]
    repeat (refine⟨ah,?_⟩)
    refine hK _ ?_
    clear K' hK
    simp only[go_sem]
    refine⟨i+1,⟨ae,?_⟩,by(show l.length-(i+1)<l.length-i;omega),?_⟩
    ·exact gg hR bk
    refine bd [0,5,6,7] [] ?_ ?_
    ·simp only[go_sem,aA ae hl,Int.natCast_add,Int.natCast_one]
    ·simp only[go_sem,aA ae hl,Int.natCast_add,Int.natCast_one]
 ·have aV:i=l.length:=by
   have :¬ (i:Int)<l.length:=by simpa using hb
   omega
  clear hb
  subst aV
  repeat refine sq ?_
  refine bK ?_
  simp only[go_sem]
  refine kp [0] [] ?_
  repeat refine sq ?_
  refine rx hΓ [2] [] (fun K' hK=>by simp only[go_sem];(repeat (refine⟨ah,?_⟩));exact hK _ (by simp only[go_sem]) (by simp only[go_sem]<;>rfl)) ?_
  refine av ?_
  simp only[go_sem]
  first | simp only[bU,dO ae aN,Bool.false_and] | (simp only[bU,hR,Bool.true_and];done) | (simp only[bU,hR,Bool.true_and];congr 2;apply propext;omega)
theorem H8:ak Tryd.prog 59 S119:=P0.sound
def eg(l:List Dk)(p:Int):Int:=if bU l=true then(if aM p 1 999=true then 0 else 1)else 97
theorem pt{l:List Dk}{p:Int}(h:bU l=false):eg l p=97:=if_neg (by rw[h];decide)
theorem pr{l:List Dk}{p:Int}(h:bU l=true)(h1:aM p 1 999=false):eg l p=1:=by unfold eg;rw[if_pos h,if_neg (by rw[h1];decide)]
theorem rv{l:List Dk}{p:Int}(h:bU l=true)(h1:aM p 1 999=true):eg l p=0:=by unfold eg;rw[if_pos h,if_pos h1]
noncomputable def Mk:List (Nat×Spec):=[(59,S119),(40,S50)]
theorem YG:∀ f s,tbl Mk f=some s->ak Tryd.prog f s:=tc H8<|tc AO<|tn
attribute [go_sem] Mk
noncomputable def P104:PSpec:=p2 dU iI (fun _ _=>True) (fun l p=>vInt (eg l p)) true
noncomputable def S104:Spec:=P104.toSpec
attribute [go_sem] P104 S104
theorem P7:aR Tryd.prog 52 P104:=by
 refine w2 (rs:=[.tmp 4]) Tryd.func52 Tryd.ntmps52 (by rfl) (by kernel_rfl) (by decide) (fun _ _ _=>rfl) ⟨_,rfl,lb rfl,fun l p hp hw=>?_⟩
 have hP:=bc
 simp only[dU,iI]at hw |-
 have hΓ:=YG
 repeat refine sq ?_
 refine rx hΓ [0,1] [] (fun K' hK=>by simp only[go_sem];(repeat (refine⟨ah,?_⟩));exact hK _ (by simp only[go_sem]) (by simp only[go_sem]<;>rfl)) ?_
 repeat refine sq ?_
 refine aJ ?_
 repeat refine sq ?_
 refine rx hΓ [1,5] [] (fun K' hK=>by simp only[go_sem];(repeat (refine⟨ah,?_⟩));exact hK _ (by simp only[go_sem]) (by simp only[go_sem]<;>rfl)) ?_
 repeat refine sq ?_
 refine ax rfl rfl (fun hb=>?_) (fun hb=>?_)
 ·repeat refine sq ?_
  have h1:bU l=false:=by simpa using hb
  repeat refine sq ?_
  refine rx hΓ [4] [] (fun K' hK=>by simp only[go_sem];(repeat (refine⟨ah,?_⟩));exact hK _ (by simp only[go_sem]) (by simp only[go_sem]<;>rfl)) ?_
  refine av ?_
  simp only[go_sem]
  first | (rw[pt h1];done) | (rw[pr h1 h2];done) | (rw[rv h1 h2];done)
 ·repeat refine sq ?_
  have h1:bU l=true:=by simpa using hb
  repeat refine sq ?_
  refine rx hΓ [9] [] (fun K' hK=>by simp only[go_sem];(repeat (refine⟨ah,?_⟩));exact hK _ (by simp only[go_sem]) (by simp only[go_sem]<;>rfl)) ?_
  repeat refine sq ?_
  refine ax rfl rfl (fun hb=>?_) (fun hb=>?_)
  ·repeat refine sq ?_
   have h2:aM p 1 999=false:=by simpa using hb
   repeat refine sq ?_
   refine rx hΓ [4] [] (fun K' hK=>by simp only[go_sem];(repeat (refine⟨ah,?_⟩));exact hK _ (by simp only[go_sem]) (by simp only[go_sem]<;>rfl)) ?_
   refine av ?_
   simp only[go_sem]
   first | (rw[pt h1];done) | (rw[pr h1 h2];done) | (rw[rv h1 h2];done)
  ·repeat refine sq ?_
   have h2:aM p 1 999=true:=by simpa using hb
   refine aC ?_
   refine cX ?_
   simp only[go_sem]
   refine kp [] [] ?_
   repeat refine sq ?_
   refine rx hΓ [4] [] (fun K' hK=>by simp only[go_sem];(repeat (refine⟨ah,?_⟩));exact hK _ (by simp only[go_sem]) (by simp only[go_sem]<;>rfl)) ?_
   refine av ?_
   simp only[go_sem]
   first | (rw[pt h1];done) | (rw[pr h1 h2];done) | (rw[rv h1 h2];done)
theorem H9:ak Tryd.prog 52 S104:=P7.sound
noncomputable def Mj:List (Nat×Spec):=[(77,S39)]
theorem YF:∀ f s,tbl Mj f=some s->ak Tryd.prog f s:=tc mM<|tn
attribute [go_sem] Mj
noncomputable def P560:PSpec:=p1 dU (fun _=>True) (fun l=>.bool (bU l)) true
noncomputable def S560:Spec:=P560.toSpec
attribute [go_sem] P560 S560
set_option maxHeartbeats 4000000 in
theorem Px:aR Tryd.prog 60 P560:=by
 refine w1 (rs:=[.tmp 2]) Tryd.func60 Tryd.ntmps60 (by rfl) (by kernel_rfl) (by decide) (fun _ _=>rfl) ⟨_,rfl,lb rfl,fun l hp hw=>?_⟩
 have hP:=bc
 simp only[dU]at hw |-
 have hΓ:=YF
 have hl:l.length<=maxLen:=by have:=hw.1.1;simpa using this
 repeat refine sq ?_
 refine rx hΓ [0] [] (fun K' hK=>by simp only[go_sem];(repeat (refine⟨ah,?_⟩));exact hK _ (by simp only[go_sem]) (by simp only[go_sem]<;>rfl)) ?_
 repeat refine sq ?_
 refine rx hΓ [0,6] [] (fun K' hK=>by simp only[go_sem];(repeat (refine⟨ah,?_⟩));exact hK _ (by simp only[go_sem]) (by simp only[go_sem]<;>rfl)) ?_
 repeat refine sq ?_
 refine ax rfl rfl (fun hb=>?_) (fun hb=>?_)
 ·repeat refine sq ?_
  have xx:bU l=false:=by unfold bU;rw[decide_eq_false (by simp at hb;omega),Bool.and_false]
  repeat refine sq ?_
  refine rx hΓ [2] [] (fun K' hK=>by simp only[go_sem];(repeat (refine⟨ah,?_⟩));exact hK _ (by simp only[go_sem]) (by simp only[go_sem]<;>rfl)) ?_
  refine av ?_
  simp only[go_sem]
  first | (rw[xx];done) | simp only[bU,dO ae aN,Bool.false_and] | (simp only[bU,hR,Bool.true_and,decide_eq_true xj];done)
 ·repeat refine sq ?_
  have xj:l.length<=6:=by simp at hb;omega
  refine aC ?_
  repeat refine sq ?_
  refine rx hΓ [0,3] [] (fun K' hK=>by simp only[go_sem];(repeat (refine⟨ah,?_⟩));exact hK _ (by simp only[go_sem]) (by simp only[go_sem]<;>rfl)) ?_
  repeat refine sq ?_
  refine aJ ?_
  repeat refine sq ?_
  refine bR (fun s:Nat=>[(3,⟨true,.v (vInt s)⟩)]) (fun s=>[]) (fun s=>s<=l.length/\dP s (jl l)=true) (fun s=>l.length-s) 0 ?_ ?_ ?_ ?_
  ·exact⟨Nat.zero_le _,rfl⟩
  ·rfl
  ·rfl
  rintro i ⟨hi,hR⟩
  simp only[go_sem]
  repeat refine sq ?_
  refine rx hΓ [0,3,10] [] (fun K' hK=>by simp only[go_sem];(repeat (refine⟨ah,?_⟩));exact hK _ (by simp only[go_sem]) (by simp only[go_sem]<;>rfl)) ?_
  repeat refine sq ?_
  refine ax rfl rfl (fun hb=>?_) (fun hb=>?_)
  ·have ae:i<l.length:=by simpa using hb
   have ai:(i:Int)<l.length:=by omega
   clear hb
   obtain⟨p,hp,bF,fA,bP⟩:=ru ae hl
   have cK:=J9 fA ae bF
   repeat refine sq ?_
   refine aC ?_
   repeat refine sq ?_
   refine aJ ?_
   repeat refine sq ?_
   rcases Nat.eq_zero_or_pos i with h0 | h0
   ·have bw:(i==0)=true:=by simp[h0]
    repeat refine sq ?_
    refine dx hΓ hP [[],[],[0,1],[0,1,2],[0,1,2,3],[0,1,2,3,4],[0,1,2,3,4,5],[0,1,2,3,4,5,6],[0,1,2,3,4,5,6,7],[0,1,2,3,4,5,6,7,8],[0,1,2,3,4,5,6,7,8,9],[0,1,2,3,4,5,6,7,8,9],[0,1,2,3,4,5,6,7,8,9,11],[0,1,2,3,4,5,6,7,8,9,10,11,12],[0,1,2,3,4,5,6,7,8,9,10,11,12,13],[0,1,2,3,4,5,6,7,8,9,10,11,12,13,14],[0,1,2,3,4,5,6,7,8,9],[0,1,2,3,4,5,6,7,8,9],[0,1,2,3,4,5,6,7,8,9,16,17],[0,1,2,3,4,5,6,7,8,9,16,17,18],[0,1,2,3,4,5,6,7,8,9,16,17,18,19],[0,1,2,3,4,5,6,7,8,9,10,11,12,13,14,15,16,17,18,19,20],[0,1,2,3,4,5,6,7,8,9,10,11,12,13,14,15,16,17,18,19,20,21],[0,1,2,3,4,5,6,7,8,9,10,11,12,13,14,15,16,17,18,19,20,21,22]] [0,3,36] [] (by kernel_rfl) (fun K' hK=>by simp only[go_sem,bh ae,Int.toNat_natCast,Int.natCast_nonneg,ai,List.length_map,bw,hp,bh bF,bh ae,Ke,Int.toNat_natCast,Int.natCast_nonneg,ai,lM,not_lt,List.length_map];(repeat (refine⟨by first | exact ah | exact fun _=>⟨bE,bH,rfl⟩ | exact fun _=>⟨bE,bH⟩,?_⟩));(first | refine⟨by rfl,?_⟩ | skip);exact hK _ (by simp only[go_sem]) (by simp only[go_sem]<;>rfl)) ?_
    repeat refine sq ?_
    refine ax rfl rfl (fun hb=>?_) (fun hb=>?_)
    ·repeat refine sq ?_
     have aN:jl l i=false:=by simpa[bw,hb]using cK.symm
     repeat refine sq ?_
     refine rx hΓ [2] [] (fun K' hK=>by simp only[go_sem,bh ae,Int.toNat_natCast,Int.natCast_nonneg,ai,List.length_map,bw];(repeat (refine⟨ah,?_⟩));exact hK _ (by simp only[go_sem]) (by simp only[go_sem]<;>rfl)) ?_
     refine av ?_
     simp only[go_sem]
     first | (rw[xx];done) | simp only[bU,dO ae aN,Bool.false_and] | (simp only[bU,hR,Bool.true_and,decide_eq_true xj];done)
    ·repeat refine sq ?_
     have bk:jl l i=true:=by simpa[bw,hb]using cK.symm
     refine aC ?_
     refine cX ?_
     simp only[go_sem]
     refine kp [0,3] [] ?_
     repeat refine sq ?_
     refine aQ hΓ fun K' hK=>?_
     simp only[go_sem,bh ae,Int.toNat_natCast,Int.natCast_nonneg,ai,List.length_map,bw]
     repeat (refine⟨ah,?_⟩)
     refine hK _ ?_
     clear K' hK
     simp only[go_sem]
     refine⟨i+1,⟨ae,?_⟩,by(show l.length-(i+1)<l.length-i;omega),?_⟩
     ·exact gg hR bk
     refine bd [0,3] [] ?_ ?_
     ·simp only[go_sem,aA ae hl,Int.natCast_add,Int.natCast_one]
     ·simp only[go_sem,aA ae hl,Int.natCast_add,Int.natCast_one]
   ·have bw:(i==0)=false:=by rw[beq_eq_false_iff_ne];omega
    obtain⟨bE,bH⟩:=bP h0
    repeat refine sq ?_
    refine dx hΓ hP [[],[],[0,1],[0,1,2],[0,1,2,3],[0,1,2,3,4],[0,1,2,3,4,5],[0,1,2,3,4,5,6],[0,1,2,3,4,5,6,7],[0,1,2,3,4,5,6,7,8],[0,1,2,3,4,5,6,7,8,9],[0,1,2,3,4,5,6,7,8,9],[0,1,2,3,4,5,6,7,8,9,11],[0,1,2,3,4,5,6,7,8,9,10,11,12],[0,1,2,3,4,5,6,7,8,9,10,11,12,13],[0,1,2,3,4,5,6,7,8,9,10,11,12,13,14],[0,1,2,3,4,5,6,7,8,9],[0,1,2,3,4,5,6,7,8,9],[0,1,2,3,4,5,6,7,8,9,16,17],[0,1,2,3,4,5,6,7,8,9,16,17,18],[0,1,2,3,4,5,6,7,8,9,16,17,18,19],[0,1,2,3,4,5,6,7,8,9,10,11,12,13,14,15,16,17,18,19,20],[0,1,2,3,4,5,6,7,8,9,10,11,12,13,14,15,16,17,18,19,20,21],[0,1,2,3,4,5,6,7,8,9,10,11,12,13,14,15,16,17,18,19,20,21,22]] [0,3,36] [] (by kernel_rfl) (fun K' hK=>by simp only[go_sem,bh ae,Int.toNat_natCast,Int.natCast_nonneg,ai,List.length_map,bw,bE,bH,hp,bh bF,bh ae,Ke,Int.toNat_natCast,Int.natCast_nonneg,ai,lM,not_lt,List.length_map];(repeat (refine⟨by first | exact ah | exact fun _=>⟨bE,bH,rfl⟩ | exact fun _=>⟨bE,bH⟩,?_⟩));(first | refine⟨by rfl,?_⟩ | skip);exact hK _ (by simp only[go_sem]) (by simp only[go_sem]<;>rfl)) ?_
    repeat refine sq ?_
    refine ax rfl rfl (fun hb=>?_) (fun hb=>?_)
    ·repeat refine sq ?_
     have aN:jl l i=false:=by simpa[bw,<-Bool.or_assoc,hb]using cK.symm
     repeat refine sq ?_
     refine rx hΓ [2] [] (fun K' hK=>by simp only[go_sem,bh ae,Int.toNat_natCast,Int.natCast_nonneg,ai,List.length_map,bw,bE,bH];(repeat (refine⟨ah,?_⟩));exact hK _ (by simp only[go_sem]) (by simp only[go_sem]<;>rfl)) ?_
     refine av ?_
     simp only[go_sem]
     first | (rw[xx];done) | simp only[bU,dO ae aN,Bool.false_and] | (simp only[bU,hR,Bool.true_and,decide_eq_true xj];done)
    ·repeat refine sq ?_
     have bk:jl l i=true:=by simpa[bw,<-Bool.or_assoc,hb]using cK.symm
     refine aC ?_
     refine cX ?_
     simp only[go_sem]
     refine kp [0,3] [] ?_
     repeat refine sq ?_
     refine aQ hΓ fun K' hK=>?_
     simp only[go_sem,bh ae,Int.toNat_natCast,Int.natCast_nonneg,ai,List.length_map,bw,bE,bH]
     repeat (refine⟨ah,?_⟩)
     refine hK _ ?_
     clear K' hK
     simp only[go_sem]
     refine⟨i+1,⟨ae,?_⟩,by(show l.length-(i+1)<l.length-i;omega),?_⟩
     ·exact gg hR bk
     refine bd [0,3] [] ?_ ?_
     ·simp only[go_sem,aA ae hl,Int.natCast_add,Int.natCast_one]
     ·simp only[go_sem,aA ae hl,Int.natCast_add,Int.natCast_one]
  ·have aV:i=l.length:=by
    have :¬ (i:Int)<l.length:=by simpa using hb
    omega
   clear hb
   subst aV
   repeat refine sq ?_
   refine bK ?_
   simp only[go_sem]
   refine kp [] [] ?_
   repeat refine sq ?_
   refine rx hΓ [2] [] (fun K' hK=>by simp only[go_sem];(repeat (refine⟨ah,?_⟩));exact hK _ (by simp only[go_sem]) (by simp only[go_sem]<;>rfl)) ?_
   refine av ?_
   simp only[go_sem]
   first | (rw[xx];done) | simp only[bU,dO ae aN,Bool.false_and] | (simp only[bU,hR,Bool.true_and,decide_eq_true xj];done)
theorem HY:ak Tryd.prog 60 S560:=Px.sound
noncomputable def Mi:List (Nat×Spec):=[(60,S560),(76,S55)]
theorem YE:∀ f s,tbl Mi f=some s->ak Tryd.prog f s:=tc HY<|tc H0<|tn
attribute [go_sem] Mi
noncomputable def P554:PSpec:=p2 dU iI (fun _ _=>True) (fun l p=>vInt (eg l p)) true
noncomputable def S554:Spec:=P554.toSpec
attribute [go_sem] P554 S554
theorem Pz:aR Tryd.prog 54 P554:=by
 refine w2 (rs:=[.tmp 4]) Tryd.func54 Tryd.ntmps54 (by rfl) (by kernel_rfl) (by decide) (fun _ _ _=>rfl) ⟨_,rfl,lb rfl,fun l p hp hw=>?_⟩
 have hP:=bc
 simp only[dU,iI]at hw |-
 have hΓ:=YE
 repeat refine sq ?_
 refine rx hΓ [0,1] [] (fun K' hK=>by simp only[go_sem];(repeat (refine⟨ah,?_⟩));exact hK _ (by simp only[go_sem]) (by simp only[go_sem]<;>rfl)) ?_
 repeat refine sq ?_
 refine rx hΓ [1,7] [] (fun K' hK=>by simp only[go_sem];(repeat (refine⟨ah,?_⟩));exact hK _ (by simp only[go_sem]) (by simp only[go_sem]<;>rfl)) ?_
 repeat refine sq ?_
 refine ax rfl rfl (fun hb=>?_) (fun hb=>?_)
 ·repeat refine sq ?_
  have h1:bU l=false:=by simpa using hb
  repeat refine sq ?_
  refine rx hΓ [4] [] (fun K' hK=>by simp only[go_sem];(repeat (refine⟨ah,?_⟩));exact hK _ (by simp only[go_sem]) (by simp only[go_sem]<;>rfl)) ?_
  refine av ?_
  simp only[go_sem]
  first | (rw[pt h1];done) | (rw[pr h1 h2];done) | (rw[rv h1 h2];done)
 ·repeat refine sq ?_
  have h1:bU l=true:=by simpa using hb
  refine aC ?_
  repeat refine sq ?_
  refine rx hΓ [10] [] (fun K' hK=>by simp only[go_sem];(repeat (refine⟨ah,?_⟩));exact hK _ (by simp only[go_sem]) (by simp only[go_sem]<;>rfl)) ?_
  repeat refine sq ?_
  refine ax rfl rfl (fun hb=>?_) (fun hb=>?_)
  ·repeat refine sq ?_
   have h2:aM p 1 999=false:=by simpa using hb
   repeat refine sq ?_
   refine rx hΓ [4] [] (fun K' hK=>by simp only[go_sem];(repeat (refine⟨ah,?_⟩));exact hK _ (by simp only[go_sem]) (by simp only[go_sem]<;>rfl)) ?_
   refine av ?_
   simp only[go_sem]
   first | (rw[pt h1];done) | (rw[pr h1 h2];done) | (rw[rv h1 h2];done)
  ·repeat refine sq ?_
   have h2:aM p 1 999=true:=by simpa using hb
   refine aC ?_
   repeat refine sq ?_
   refine rx hΓ [4] [] (fun K' hK=>by simp only[go_sem];(repeat (refine⟨ah,?_⟩));exact hK _ (by simp only[go_sem]) (by simp only[go_sem]<;>rfl)) ?_
   refine av ?_
   simp only[go_sem]
   first | (rw[pt h1];done) | (rw[pr h1 h2];done) | (rw[rv h1 h2];done)
theorem HZ:ak Tryd.prog 54 S554:=Pz.sound
end Go.Eng
