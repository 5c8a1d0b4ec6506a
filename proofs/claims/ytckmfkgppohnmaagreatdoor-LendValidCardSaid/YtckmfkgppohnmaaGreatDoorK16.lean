import Derived.Test.YtckmfkgppohnmaaGreatDoorK15
import GoSem.ClaimChange
import Derived.DataReads
import Derived.ChangeReads
/- Texts LS to EngR. -/
set_option linter.all false
namespace Go.Eng
open Go Go.Proofs
theorem R6:aQ Tryz.prog 19 ⟨fun xs=>xs=[],fun _=>.bool true,true⟩:=
 SI (b:=.bool true) Vd (by
  intro fn h
  have e:Tryz.prog.funcs[19]?=some Tryz.f19:=Tryz.func19
  rw[e]at h
  obtain rfl:=Option.some.inj h
  exact(by kernel_rfl:(Tryz.f19.name== "runtime.NumGoroutine")=false)) (by decide) rfl
noncomputable def OD:PSpec:=⟨fun xs=>xs=[],fun _=>.bool true,true⟩
noncomputable def S19:Spec:=OD.toSpec
theorem Wi:al Tryz.prog 19 S19:=R6.sound
attribute [go_sem] OD S19
set_option maxRecDepth 20000
def WZ:En (Int×Int×Int):=⟨fun n=>.agg [vInt n.1,vInt n.2.1,vInt n.2.2],fun v=>match v with | .agg [.int _ a,.int _ b,.int _ c]=>(a,b,c) | _=>(0,0,0)⟩
attribute [go_sem] WZ
noncomputable def K65:List (Nat×Spec):=[(8,S8),(9,S9),(10,S10),(11,S11),(12,S12),(13,S13),(14,S14),(15,S15),(16,S16),(17,S17),(18,S18),(19,S19)]
attribute [go_sem] K65
structure Act where
 (kd dk pp to pi:Int)
 deriving Inhabited,DecidableEq
def jO(a:Act):List V:=[vInt a.kd,vInt a.dk,vInt a.pp,vInt a.to,vInt a.pi]
def rq:En Act:=⟨fun a=>.agg (jO a),fun v=>match v with | .agg [.int _ a,.int _ b,.int _ c,.int _ d,.int _ e]=>⟨a,b,c,d,e⟩ | _=>default⟩
def qN(n:Int):List Int:=[10*n+1,10*n+4,10*n+7]
def qM(l:List Int)(n:Int):Int:=if l=[]then 1 else l.getD (n % (l.length:Int)).toNat 0
theorem ZE{l:List Int}{i:Nat}(h:i<l.length):(l.map vInt).getD i default=vInt (l.getD i 0):=by
 simp[List.getD_eq_getElem?_getD,List.getElem?_eq_getElem h]
theorem SR{l:List Int}{n:Int}(h:l≠[]):qM l n=l.getD (n % (l.length:Int)).toNat 0:=if_neg h
noncomputable def P108:PSpec:=p1 iI (fun n=>0<=n/\n<6) (fun n=>.sl ((qN n).map vInt)) false
noncomputable def S108:Spec:=P108.toSpec
attribute [go_sem] P108 S108
theorem Sk:aQ Tryz.prog 108 P108:=by
 refine w1 (rs:=[.tmp 2]) Tryz.func108 Tryz.ntmps108 (by rfl) (by kernel_rfl) (by decide) (fun h=>by cases h) ⟨_,rfl,lb rfl,fun n hp hw=>?_⟩
 have hP:=ba
 simp only[iI]at hw |-
 have hΓ:=@jY Tryz.prog
 obtain⟨h0,h6⟩:=hp
 have w1:IntKind.i64.wrap (10*n)=10*n:=wrap_i64 (by omega) (by omega)
 have w2:IntKind.i64.wrap (10*n+1)=10*n+1:=wrap_i64 (by omega) (by omega)
 have w3:IntKind.i64.wrap (10*n+4)=10*n+4:=wrap_i64 (by omega) (by omega)
 have w4:IntKind.i64.wrap (10*n+7)=10*n+7:=wrap_i64 (by omega) (by omega)
 repeat refine sq ?_
 refine rs hΓ [0] [] ?_
 repeat refine sq ?_
 refine rx hΓ [2] [] (fun K' hK=>by simp only[go_sem,w1,w2,w3,w4];(repeat (refine⟨ob,?_⟩));exact hK _ (by simp only[go_sem]) (by simp only[go_sem]<;>rfl)) ?_
 refine an ?_
 simp only[go_sem]
 first | rfl
theorem Wx:al Tryz.prog 108 S108:=Sk.sound
noncomputable def ON:List (Nat×Spec):=[(21,S21)]
theorem abW:∀ f s,tbl ON f=some s->al Tryz.prog f s:=tc yM<|tn
attribute [go_sem] ON
noncomputable def P121:PSpec:=p2 dY iI (fun l _=>l.length<=1000000) (fun l n=>vInt (qM l n)) true
noncomputable def S121:Spec:=P121.toSpec
attribute [go_sem] P121 S121
theorem Sd:aQ Tryz.prog 121 P121:=by
 refine w2 (rs:=[.tmp 4]) Tryz.func121 Tryz.ntmps121 (by rfl) (by kernel_rfl) (by decide) (fun _ _ _=>rfl) ⟨_,rfl,lb rfl,fun l n hp hw=>?_⟩
 have hP:=ba
 simp only[iI,dY]at hw |-
 have hΓ:=abW
 replace hp:l.length<=1000000:=hp
 repeat refine sq ?_
 refine rs hΓ [0,1] [] ?_
 repeat refine sq ?_
 refine rs hΓ [0,1,7] [] ?_
 repeat refine sq ?_
 refine au rfl rfl (fun hb=>?_) (fun hb=>?_)
 ·repeat refine sq ?_
  have e:l=[]:=by simpa using hb
  repeat refine sq ?_
  refine rs hΓ [4] [] ?_
  refine an ?_
  simp only[go_sem]
  first | (subst e;rfl) | (rw[gp];done) | (rw[gp];rfl)
 ·repeat refine sq ?_
  have ar:l≠[]:=by simpa using hb
  have bY:0<l.length:=List.length_pos_iff.2 ar
  have hm:(0:Int)<(l.length:Int)/\(l.length:Int)<=1000000:=⟨by omega,by omega⟩
  have g0:=Int.emod_nonneg n (by omega:(l.length:Int)≠0)
  have g1:=Int.emod_lt_of_pos n hm.1
  have gk:(n % (l.length:Int)).toNat<l.length:=by omega
  have gd:=ZE gk
  have gp:=SR (n:=n) ar
  refine av ?_
  repeat refine sq ?_
  refine rx hΓ [4] [] (fun K' hK=>by simp only[go_sem,g0,g1,gk,gd];(repeat (refine⟨by first | exact hm | exact ob,?_⟩));exact hK _ (by simp only[go_sem]) (by simp only[go_sem]<;>rfl)) ?_
  refine an ?_
  simp only[go_sem]
  first | (subst e;rfl) | (rw[gp];done) | (rw[gp];rfl)
theorem Wq:al Tryz.prog 121 S121:=Sd.sound
@[go_sem] theorem agY(a:Act):(jO a).length=5:=rfl
@[go_sem] theorem ag4(a:Act):(jO a).getD 0 default=vInt a.kd:=rfl
@[go_sem] theorem ag3(a:Act):(jO a).getD 1 default=vInt a.dk:=rfl
@[go_sem] theorem ag2(a:Act):(jO a).getD 2 default=vInt a.pp:=rfl
@[go_sem] theorem ag1(a:Act):(jO a).getD 3 default=vInt a.to:=rfl
@[go_sem] theorem ag0(a:Act):(jO a).getD 4 default=vInt a.pi:=rfl
@[go_sem] theorem afJ(a:Act):rq.dec (.agg (jO a))=a:=rfl
noncomputable def OM:List (Nat×Spec):=[(121,S121)]
theorem abV:∀ f s,tbl OM f=some s->al Tryz.prog f s:=tc Wq<|tn
attribute [go_sem] OM
noncomputable def P109:PSpec:=p2 rq bu (fun _ d=>d.now.ho.length<=1000000) (fun a d=>vInt (qM d.now.ho a.pp)) true
noncomputable def S109:Spec:=P109.toSpec
attribute [go_sem] P109 S109
theorem Sj:aQ Tryz.prog 109 P109:=by
 refine w2 (rs:=[.tmp 4]) Tryz.func109 Tryz.ntmps109 (by rfl) (by kernel_rfl) (by decide) (fun _ _ _=>rfl) ⟨_,rfl,lb rfl,fun a d hp hw=>?_⟩
 have hP:=ba
 simp only[rq,bu]at hw |-
 have hΓ:=abV
 replace hp:d.now.ho.length<=1000000:=hp
 repeat refine sq ?_
 refine rs hΓ [2,3] [[2,0],[3,0]] ?_
 refine aE (bz [2,0] (jO a) rfl [2,3] [[2,0],[3,0]] ?_ rfl) ?_
 ·simp only[go_sem]
 simp only[go_sem]
 refine aE (bz [3,0] (ak d) rfl [2,3] [[2,0],[3,0]] ?_ rfl) ?_
 ·simp only[go_sem]
 simp only[go_sem]
 repeat refine sq ?_
 refine rx hΓ [4] [] (fun K' hK=>by simp only[go_sem,hp];(repeat (refine⟨by first | exact hp | exact ob,?_⟩));exact hK _ (by simp only[go_sem]) (by simp only[go_sem]<;>rfl)) ?_
 refine an ?_
 simp only[go_sem]
 skip
theorem Ww:al Tryz.prog 109 S109:=Sj.sound
def ra(d:Dk)(i:Nat):Bool:=((i:Int) != d.wet)&&aJ d.me (d.pg i)
def ju(d:Dk):Nat->Int
 | 0=> -1
 |i+1=>if ra d i=true then(if (d.pg i).co>ju d i then(d.pg i).co else ju d i)else ju d i
def jZ(d:Dk):Int:=ju d 2
theorem Tz{d:Dk}{i:Nat}(h:ra d i=true):ju d (i+1)=(if (d.pg i).co>ju d i then(d.pg i).co else ju d i):=if_pos h
theorem IE{d:Dk}{i:Nat}(h:ra d i=false):ju d (i+1)=ju d i:=if_neg (by rw[h];decide)
noncomputable def OL:List (Nat×Spec):=[(44,S44)]
theorem abU:∀ f s,tbl OL f=some s->al Tryz.prog f s:=tc V'<|tn
attribute [go_sem] OL
noncomputable def P25:PSpec:=p1 bu (fun _=>True) (fun d=>vInt (jZ d)) true
noncomputable def S25:Spec:=P25.toSpec
attribute [go_sem] P25 S25
set_option maxHeartbeats 4000000 in
theorem RZ:aQ Tryz.prog 25 P25:=by
 refine w1 (rs:=[.tmp 2]) Tryz.func25 Tryz.ntmps25 (by rfl) (by kernel_rfl) (by decide) (fun _ _=>rfl) ⟨_,rfl,lb rfl,fun d hp hw=>?_⟩
 have hP:=ba
 simp only[bu]at hw |-
 have hΓ:=abU
 repeat refine sq ?_
 refine rs hΓ [1] [[1,0]] ?_
 refine aE (bz [1,0] (ak d) rfl [1] [[1,0]] ?_ rfl) ?_
 ·simp only[go_sem]
 simp only[go_sem]
 repeat refine sq ?_
 refine rs hΓ [1,3] [[1,0]] ?_
 repeat refine sq ?_
 refine rs hΓ [1,3,4] [[1,0]] ?_
 repeat refine sq ?_
 refine aO ?_
 repeat refine sq ?_
 refine cv (fun z:Nat=>[(4,⟨true,.v (vInt z)⟩),(3,⟨true,.v (vInt (ju d z))⟩)]) (fun z=>[]) (fun z=>z<=2) (fun z=>2-z) 0 ?_ ?_ ?_ ?_
 ·exact Nat.zero_le _
 ·rfl
 ·rfl
 rintro i hi
 simp only[go_sem]
 repeat refine sq ?_
 refine rs hΓ [1,3,4,6] [[1,0]] ?_
 repeat refine sq ?_
 refine au rfl rfl (fun hb=>?_) (fun hb=>?_)
 ·have ae:i<2:=by have hq:(i:Int)<2:=(by simpa using hb);omega
  have ai:(i:Int)<2:=by omega
  clear hb
  repeat refine sq ?_
  refine av ?_
  repeat refine sq ?_
  refine aO ?_
  repeat refine sq ?_
  rcases hk:aJ d.me (d.pg i)with _ | _
  ·have gD:ra d i=false:=by unfold ra;rw[hk,Bool.and_false]
   repeat refine sq ?_
   refine dx hΓ hP [[],[],[1],[0,1,2],[0,1,2,3],[0,1,2,3,4],[0,1,2,3,4,5],[0,1,2,3,4],[0,1,2,3,4],[0,1,2,3,4,7,8],[0,1,2,3,4,7,8,9],[0,1,2,3,4,5,6,7,8,9,10],[0,1,2,3,4,5,6,7,8,9,10,11],[0,1,2,3,4,5,6,7,8,9,10,11,12]] [1,3,4,22] [[1,0]] (by kernel_rfl) (fun K' hK=>by simp only[go_sem,Int.toNat_natCast,Int.natCast_nonneg,ai,hk,ek d ae,jc d ae,gR,Int.toNat_natCast,Int.natCast_nonneg,ai];(repeat (refine⟨ob,?_⟩));(first | refine⟨by rfl,?_⟩ | skip);exact hK _ (by simp only[go_sem]) (by simp only[go_sem]<;>rfl)) ?_
   repeat refine sq ?_
   refine au rfl rfl (fun hb=>?_) (fun hb=>?_)
   ·repeat refine sq ?_
    have e:ju d (i+1)=(if (d.pg i).co>ju d i then(d.pg i).co else ju d i):=absurd hb (by decide)
    repeat refine sq ?_
    refine aL hΓ fun K' hK=>?_
    simp only[go_sem,Int.toNat_natCast,Int.natCast_nonneg,ai,hk,ek d ae,jc d ae,gR,Int.toNat_natCast,Int.natCast_nonneg,ai,Nat.add_zero,ek d ae,Int.toNat_natCast,Int.natCast_nonneg,ai]
    repeat (refine⟨ob,?_⟩)
    refine hK _ ?_
    clear K' hK
    simp only[go_sem]
    refine kp [1,3,4] [[1,0]] ?_
    repeat refine sq ?_
    refine aL hΓ fun K' hK=>?_
    simp only[go_sem,Int.toNat_natCast,Int.natCast_nonneg,ai,hk,ek d ae,jc d ae,gR,Int.toNat_natCast,Int.natCast_nonneg,ai]
    repeat (refine⟨ob,?_⟩)
    refine hK _ ?_
    clear K' hK
    simp only[go_sem]
    refine⟨i+1,ae,by(show 2-(i+1)<2-i;omega),?_⟩
    refine bk [1,3,4] [[1,0]] ?_ ?_
    ·simp only[go_sem,aD ae (lb rfl:(2:Nat)<=maxLen),Int.natCast_add,Int.natCast_one,e]
    ·simp only[go_sem,aD ae (lb rfl:(2:Nat)<=maxLen),Int.natCast_add,Int.natCast_one,e]
   ·repeat refine sq ?_
    have e:ju d (i+1)=ju d i:=IE gD
    refine av ?_
    refine ct ?_
    simp only[go_sem]
    refine kp [1,3,4] [[1,0]] ?_
    repeat refine sq ?_
    refine aL hΓ fun K' hK=>?_
    simp only[go_sem,Int.toNat_natCast,Int.natCast_nonneg,ai,hk,ek d ae,jc d ae,gR,Int.toNat_natCast,Int.natCast_nonneg,ai]
    repeat (refine⟨ob,?_⟩)
    refine hK _ ?_
    clear K' hK
    simp only[go_sem]
    refine⟨i+1,ae,by(show 2-(i+1)<2-i;omega),?_⟩
    refine bk [1,3,4] [[1,0]] ?_ ?_
    ·simp only[go_sem,aD ae (lb rfl:(2:Nat)<=maxLen),Int.natCast_add,Int.natCast_one,e]
    ·simp only[go_sem,aD ae (lb rfl:(2:Nat)<=maxLen),Int.natCast_add,Int.natCast_one,e]
  ·have gD:ra d i=((i:Int) != d.wet):=by unfold ra;rw[hk,Bool.and_true]
   repeat refine sq ?_
   refine dx hΓ hP [[],[],[1],[0,1,2],[0,1,2,3],[0,1,2,3,4],[0,1,2,3,4,5],[0,1,2,3,4],[0,1,2,3,4],[0,1,2,3,4,7,8],[0,1,2,3,4,7,8,9],[0,1,2,3,4,5,6,7,8,9,10],[0,1,2,3,4,5,6,7,8,9,10,11],[0,1,2,3,4,5,6,7,8,9,10,11,12]] [1,3,4,22] [[1,0]] (by kernel_rfl) (fun K' hK=>by simp only[go_sem,Int.toNat_natCast,Int.natCast_nonneg,ai,hk,ek d ae,jc d ae,gR,Int.toNat_natCast,Int.natCast_nonneg,ai];(repeat (refine⟨ob,?_⟩));(first | refine⟨by rfl,?_⟩ | skip);exact hK _ (by simp only[go_sem]) (by simp only[go_sem]<;>rfl)) ?_
   repeat refine sq ?_
   refine au rfl rfl (fun hb=>?_) (fun hb=>?_)
   ·repeat refine sq ?_
    have e:=Tz (gD.trans (by simpa using hb))
    repeat refine sq ?_
    refine aL hΓ fun K' hK=>?_
    simp only[go_sem,Int.toNat_natCast,Int.natCast_nonneg,ai,hk,ek d ae,jc d ae,gR,Int.toNat_natCast,Int.natCast_nonneg,ai,Nat.add_zero,ek d ae,Int.toNat_natCast,Int.natCast_nonneg,ai]
    repeat (refine⟨ob,?_⟩)
    refine hK _ ?_
    clear K' hK
    simp only[go_sem]
    refine kp [1,3,4] [[1,0]] ?_
    repeat refine sq ?_
    refine aL hΓ fun K' hK=>?_
    simp only[go_sem,Int.toNat_natCast,Int.natCast_nonneg,ai,hk,ek d ae,jc d ae,gR,Int.toNat_natCast,Int.natCast_nonneg,ai]
    repeat (refine⟨ob,?_⟩)
    refine hK _ ?_
    clear K' hK
    simp only[go_sem]
    refine⟨i+1,ae,by(show 2-(i+1)<2-i;omega),?_⟩
    refine bk [1,3,4] [[1,0]] ?_ ?_
    ·simp only[go_sem,aD ae (lb rfl:(2:Nat)<=maxLen),Int.natCast_add,Int.natCast_one,e]
    ·simp only[go_sem,aD ae (lb rfl:(2:Nat)<=maxLen),Int.natCast_add,Int.natCast_one,e]
   ·repeat refine sq ?_
    have e:=IE (gD.trans (by simpa using hb))
    refine av ?_
    refine ct ?_
    simp only[go_sem]
    refine kp [1,3,4] [[1,0]] ?_
    repeat refine sq ?_
    refine aL hΓ fun K' hK=>?_
    simp only[go_sem,Int.toNat_natCast,Int.natCast_nonneg,ai,hk,ek d ae,jc d ae,gR,Int.toNat_natCast,Int.natCast_nonneg,ai]
    repeat (refine⟨ob,?_⟩)
    refine hK _ ?_
    clear K' hK
    simp only[go_sem]
    refine⟨i+1,ae,by(show 2-(i+1)<2-i;omega),?_⟩
    refine bk [1,3,4] [[1,0]] ?_ ?_
    ·simp only[go_sem,aD ae (lb rfl:(2:Nat)<=maxLen),Int.natCast_add,Int.natCast_one,e]
    ·simp only[go_sem,aD ae (lb rfl:(2:Nat)<=maxLen),Int.natCast_add,Int.natCast_one,e]
 ·have aW:i=2:=by
   have :¬ (i:Int)<2:=by simpa using hb
   omega
  clear hb
  subst aW
  repeat refine sq ?_
  refine b7 ?_
  simp only[go_sem]
  refine kp [3] [] ?_
  repeat refine sq ?_
  refine rs hΓ [2] [] ?_
  refine an ?_
  simp only[go_sem]
  first | rfl
theorem Wf:al Tryz.prog 25 S25:=RZ.sound
structure Sx where
 ds:bj Dk
 bs:List Bag
def bt(x:Sx):List V:=ak x.ds.a++(ak x.ds.b++(ak x.ds.c++(ak x.ds.d++(ak x.ds.e++(ak x.ds.f++[.sl (x.bs.map fD)])))))
def zX:Sx:=⟨fG fun _=>zD,[]⟩
@[go_sem] theorem Qp(x:Sx):(bt x).length=379:=by kernel_rfl
@[go_sem] theorem Qq(x:Sx):(bt x).take 379=bt x:=by kernel_rfl
@[go_sem] theorem Qo(x:Sx):((bt x).map D.v).length=379:=by rw[List.length_map];exact Qp x
@[go_sem] theorem aeY(x:Sx):((bt x).map D.v).take 379=(bt x).map D.v:=by rw[<-List.map_take,Qq]
@[go_sem] theorem aeX(x:Sx):((bt x).map D.v).drop 379=[]:=by rw[List.drop_eq_nil_iff,Qo];exact Nat.le_refl _
@[go_sem] theorem Qr(x:Sx):(bt x).getD 378 default=.sl (x.bs.map fD):=by kernel_rfl
theorem GM(x:Sx){i:Nat}(h:i<6):((bt x).drop (i*63)).take 63=ak (x.ds.get i):=
 ix (P:=fun i=>((bt x).drop (i*63)).take 63=ak (x.ds.get i)) (by kernel_rfl) (by kernel_rfl) (by kernel_rfl) (by kernel_rfl) (by kernel_rfl) (by kernel_rfl) h
theorem Bg(x:Sx)(d:Dk){i:Nat}(h:i<6):List.take (i*63) (List.map D.v (bt x))++List.map D.v (ak d)++List.drop (i*63+63) (List.map D.v (bt x))=List.map D.v (bt ⟨x.ds.set i d,x.bs⟩):=
 ix (P:=fun i=>List.take (i*63) (List.map D.v (bt x))++List.map D.v (ak d)++List.drop (i*63+63) (List.map D.v (bt x))=List.map D.v (bt ⟨x.ds.set i d,x.bs⟩)) (by kernel_rfl) (by kernel_rfl) (by kernel_rfl) (by kernel_rfl) (by kernel_rfl) (by kernel_rfl) h
def mF:Nat->Sx
 | 0=>zX
 |z+1=>⟨(mF z).ds.set z (tH z (qN z)),[]⟩
theorem FK:∀ z,(mF z).bs=[]
 | 0=>rfl
 |_+1=>rfl
theorem NU{i:Nat}(h:i<6):List.take (i*63) (List.map D.v (bt (mF i)))++List.map D.v (ak (tH i (qN i)))++List.drop (i*63+63) (List.map D.v (bt (mF i)))=List.map D.v (bt (mF (i+1))):=by
 rw[Bg _ _ h,FK];rfl
set_option maxRecDepth 100000
def p0(g:V)(fl:Bool):PSpec:=⟨fun xs=>xs=[],fun _=>g,fl⟩
theorem w0{P:Program}{f:FuncId}{fn:Func}{nt:Nat}{rs:List ResultVar}{g:V}{fl:Bool}(hf:P.funcs[f]?=some fn)(eQ:fn.ntmps=nt)(fx:fn.results.toList=rs)(hn:(fn.name== "runtime.NumGoroutine")=false)(hy:f<1000000000)
 (fi:fl=true->g.flat=true) (hb:∃ c,fn.body=some c/\0<=nt/\(True->V.wfL []->CL P [c] (aU nt [0] (fun _=>none) (gh 0 []) []) (pn P rs g))):aQ P f (p0 g fl):=by
 obtain⟨c,hc,h1,h⟩:=hb
 refine vj hf eQ fx hn hy (fun e xs _=>fi e) ⟨c,hc,fun xs hp hw=>?_⟩
 have zd:xs=[]:=hp
 subst zd
 exact⟨h1,h trivial hw⟩
noncomputable def OK:List (Nat×Spec):=[(108,S108),(38,S38)]
theorem abT:∀ f s,tbl OK f=some s->al Tryz.prog f s:=tc Wx<|tc Wc<|tn
attribute [go_sem] OK
noncomputable def P72:PSpec:=p0 (.agg (bt (mF 6))) false
noncomputable def S72:Spec:=P72.toSpec
attribute [go_sem] P72 S72
set_option maxHeartbeats 4000000 in
theorem RB:aQ Tryz.prog 72 P72:=by
 refine w0 (rs:=[.cell 0 50]) Tryz.func72 Tryz.ntmps72 (by rfl) (by kernel_rfl) (by decide) (fun h=>by cases h) ⟨_,rfl,lb rfl,fun hp hw=>?_⟩
 have hP:=ba
 have hΓ:=abT
 repeat refine sq ?_
 refine rx hΓ [0] [[0,0]] (fun K' hK=>by simp only[go_sem];(repeat (refine⟨ah,?_⟩));exact hK _ (by simp only[go_sem]) (by simp only[go_sem]<;>rfl)) ?_
 refine aE (ft [0,0] _ (bt zX) rfl rfl [0] [[0,0]] ?_ rfl) ?_
 ·simp only[go_sem]
 simp only[go_sem]
 repeat refine sq ?_
 refine rx hΓ [0,1] [[0,0],[1,0]] (fun K' hK=>by simp only[go_sem];(repeat (refine⟨ah,?_⟩));exact hK _ (by simp only[go_sem]) (by simp only[go_sem]<;>rfl)) ?_
 refine aE (ft [1,0] _ (bt zX) rfl rfl [0,1] [[0,0],[1,0]] ?_ rfl) ?_
 ·simp only[go_sem]
 simp only[go_sem]
 repeat refine sq ?_
 refine rx hΓ [0,1,2] [[0,0],[1,0]] (fun K' hK=>by simp only[go_sem];(repeat (refine⟨ah,?_⟩));exact hK _ (by simp only[go_sem]) (by simp only[go_sem]<;>rfl)) ?_
 repeat refine sq ?_
 refine aO ?_
 repeat refine sq ?_
 refine cv (fun z:Nat=>[(2,⟨true,.v (vInt z)⟩)]) (fun z=>[([1,0],.box ((bt (mF z)).map .v))]) (fun z=>z<=6) (fun z=>6-z) 0 ?_ ?_ ?_ ?_
 ·exact Nat.zero_le _
 ·rfl
 ·rfl
 rintro i hi
 simp only[go_sem]
 repeat refine sq ?_
 refine rx hΓ [0,1,2,4] [[0,0],[1,0]] (fun K' hK=>by simp only[go_sem];(repeat (refine⟨ah,?_⟩));exact hK _ (by simp only[go_sem]) (by simp only[go_sem]<;>rfl)) ?_
 repeat refine sq ?_
 refine au rfl rfl (fun hb=>?_) (fun hb=>?_)
 ·have ae:i<6:=by have hq:(i:Int)<6:=(by simpa using hb);omega
  have ai:(i:Int)<6:=by omega
  clear hb
  have hr:(0:Int)<=(i:Int)/\(i:Int)<6:=⟨by omega,by omega⟩
  repeat refine sq ?_
  refine av ?_
  repeat refine sq ?_
  refine aO ?_
  repeat refine sq ?_
  refine aL hΓ fun K' hK=>?_
  simp only[go_sem,Int.toNat_natCast,Int.natCast_nonneg,ai,Int.toNat_natCast,Int.natCast_nonneg,ai,hr,List.append_nil,Nat.zero_add]
  repeat (refine⟨by first | exact hr | exact ah,?_⟩)
  refine hK _ ?_
  clear K' hK
  simp only[go_sem]
  refine kp [0,1,2] [[0,0],[1,0]] ?_
  repeat refine sq ?_
  refine aL hΓ fun K' hK=>?_
  simp only[go_sem,Int.toNat_natCast,Int.natCast_nonneg,ai]
  repeat (refine⟨ah,?_⟩)
  refine hK _ ?_
  clear K' hK
  simp only[go_sem]
  refine⟨i+1,ae,by(show 6-(i+1)<6-i;omega),?_⟩
  refine bk [0,1,2] [[0,0],[1,0]] ?_ ?_
  ·simp only[go_sem,aD ae (lb rfl:(6:Nat)<=maxLen),Int.natCast_add,Int.natCast_one,NU ae]
  ·simp only[go_sem,aD ae (lb rfl:(6:Nat)<=maxLen),Int.natCast_add,Int.natCast_one,NU ae]
 ·have aW:i=6:=by
   have :¬ (i:Int)<6:=by simpa using hb
   omega
  clear hb
  subst aW
  repeat refine sq ?_
  refine b7 ?_
  simp only[go_sem]
  refine kp [0,1] [[0,0],[1,0]] ?_
  repeat refine sq ?_
  refine rx hΓ [0] [[0,0]] (fun K' hK=>by simp only[go_sem,List.append_nil];(repeat (refine⟨ah,?_⟩));exact hK _ (by simp only[go_sem]) (by simp only[go_sem]<;>rfl)) ?_
  refine an ?_
  simp only[go_sem]
  skip
theorem VW:al Tryz.prog 72 S72:=RB.sound
end Go.Eng
set_option linter.constructorNameAsVariable false
namespace Go.Eng
open Go Go.Proofs
def PT(e:Int):List Par->Prop
 |[]=>True
 |p::r=>p.no+(r.length:Int)=e/\(1<=p.no/\p.no<=99999/\1<=p.pa/\p.pa<=999)/\PT e r
theorem Gb{e:Int}:∀ {l:List Par},PT e l↔∀ i (h:i<l.length),l[i].no+(l.length:Int)=e+1+(i:Int)/\(1<=l[i].no/\l[i].no<=99999/\1<=l[i].pa/\l[i].pa<=999)
 |[]=>⟨fun _ i h=>by simp at h,fun _=>trivial⟩
 |p::r=>by
  show (_/\_/\PT e r)↔_
  rw[Gb (l:=r)]
  constructor
  ·rintro⟨h1,h2,h3⟩ i hi
   cases i with
   |zero=>exact⟨by simp only[List.getElem_cons_zero,List.length_cons];omega,h2⟩
   |succ i=>
    have :=h3 i (by simpa using hi)
    simp only[List.getElem_cons_succ,List.length_cons]
    exact⟨by omega,this.2⟩
  ·intro h
   refine⟨?_,(h 0 (by simp)).2,fun i hi=>?_⟩
   ·have:=(h 0 (by simp)).1
    simp only[List.getElem_cons_zero,List.length_cons]at this
    omega
   ·have:=h (i+1) (by simpa using hi)
    simp only[List.getElem_cons_succ,List.length_cons]at this
    exact⟨by omega,this.2⟩
theorem OC{e:Int}{q:Par}:∀ {l:List Par},PT e l->q.no=e+1->(1<=q.no/\q.no<=99999/\1<=q.pa/\q.pa<=999)->PT (e+1) (l++[q])
 |[],_,h1,h2=>⟨by show q.no+0=e+1;omega,h2,trivial⟩
 |p::r,h,h1,h2=>⟨by have:=h.1;show p.no+((r++[q]).length:Int)=e+1;rw[List.length_append];simp only[List.length_cons,List.length_nil];omega,h.2.1,OC h.2.2 h1 h2⟩
theorem OB{e ta:Int}:∀ {l:List Par},PT e l->PT e (l.filter fun p=>decide (p.no>ta))
 |[],_=>trivial
 |p::r,h=>by
  by_cases hp:p.no>ta
  ·have ei:r.filter (fun p=>decide (p.no>ta))=r:=by
     rw[List.filter_eq_self]
     intro q hq
     obtain⟨i,hi,rfl⟩:=List.getElem_of_mem hq
     have h1:=(Gb.1 h.2.2 i hi).1
     have h2:=h.1
     simp only[gt_iff_lt,decide_eq_true_eq]
     omega
   rw[List.filter_cons_of_pos (by simpa using hp),ei]
   exact h
  ·rw[List.filter_cons_of_neg (by simpa using hp)]
   exact OB h.2.2
theorem SP{l:List Par}{e:Int}:(cf l&&(l.length==0||(l.getD (l.length-1) default).no==e))=true↔PT e l/\l.length<=40:=by
 rw[Bool.and_eq_true,Gb]
 constructor
 ·rintro⟨h,hl⟩
  have dJ:=x8 h
  unfold cf at h
  rw[Bool.and_eq_true,decide_eq_true_eq,jf]at h
  refine⟨fun i hi=>?_,h.2⟩
  have X3:(l.length==0)=false:=by simp;intro h0;subst h0;simp at hi
  rw[X3,Bool.false_or,beq_iff_eq,getD_at (by omega)]at hl
  have h1:=dJ i hi
  have h2:=dJ (l.length-1) (by omega)
  have :=h.1 i hi
  unfold fI at this
  rw[getD_at hi]at this
  simp only[Bool.and_eq_true]at this
  have a:=dQ.1 this.1.1
  have c:=dQ.1 this.1.2
  exact⟨by omega,a.1,a.2,c.1,c.2⟩
 ·rintro⟨h,hl⟩
  refine⟨?_,?_⟩
  ·unfold cf
   rw[Bool.and_eq_true,decide_eq_true_eq,jf]
   refine⟨fun i hi=>?_,hl⟩
   obtain⟨h1,h2,h3,h4,h5⟩:=h i hi
   unfold fI
   rw[getD_at hi]
   simp only[Bool.and_eq_true,Bool.or_eq_true,beq_iff_eq]
   refine⟨⟨dQ.2 ⟨h2,h3⟩,dQ.2 ⟨h4,h5⟩⟩,?_⟩
   cases i with
   |zero=>exact .inl rfl
   |succ i=>
    have :=(h i (by omega)).1
    rw[show i+1-1=i from rfl,getD_at (by omega)]
    exact .inr (by omega)
  ·simp only[Bool.or_eq_true,beq_iff_eq]
   rcases Nat.eq_zero_or_pos l.length with h0 | h0
   ·exact .inl h0
   ·rw[getD_at (by omega)]
    have :=(h (l.length-1) (by omega)).1
    exact .inr (by omega)
theorem HZ{l:List Int}:fJ l=true↔l.Pairwise (· < ·)/\(∀ x∈l,1<=x/\x<=999)/\l.length<=40:=by
 constructor
 ·intro h
  refine⟨BV h,fun x hx=>?_,(tq h).1⟩
  obtain⟨i,hi,rfl⟩:=List.getElem_of_mem hx
  unfold fJ at h
  rw[Bool.and_eq_true,jf]at h
  have :=h.1 i hi
  unfold kC at this
  rw[getD_at hi,Bool.and_eq_true]at this
  exact dQ.1 this.1
 ·rintro⟨h1,h2,h3⟩
  unfold fJ
  rw[Bool.and_eq_true,decide_eq_true_eq,jf]
  refine⟨fun i hi=>?_,h3⟩
  unfold kC
  rw[getD_at hi,Bool.and_eq_true]
  refine⟨dQ.2 (h2 _ (List.getElem_mem hi)),?_⟩
  cases i with
  |zero=>rfl
  |succ i=>
   rw[show i+1-1=i from rfl,getD_at (show i<l.length by omega)]
   have :=List.pairwise_iff_getElem.1 h1 i (i+1) (by omega) hi (by omega)
   simp[this]
structure gJ (me:Int) (s:Stk):Prop where
 m0:0<=me
 m6:me<6
 ri:s.ho.Pairwise (· < ·)
 rn:∀ x∈s.ho,1<=x/\x<=999
 ln:s.ho.length<=40
 u0:s.un.get me.toNat=[]
 s0:s.se.get me.toNat=0
 t0:s.ta.get me.toNat=0
 se:∀ i,i<6->0<=s.se.get i/\s.se.get i<=99999
 ta:∀ i,i<6->0<=s.ta.get i/\s.ta.get i<=99999
 un:∀ i,i<6->PT (s.se.get i) (s.un.get i)/\(s.un.get i).length<=40
theorem xF{me:Int}{s:Stk}:c9 me s=true↔gJ me s:=by
 have jI:∀ i,fU s i=true↔(0<=s.se.get i/\s.se.get i<=99999)/\(0<=s.ta.get i/\s.ta.get i<=99999)/\PT (s.se.get i) (s.un.get i)/\(s.un.get i).length<=40:=by
  intro i
  rw[<-SP,<-dQ,<-dQ]
  unfold fU
  simp only[Bool.and_eq_true,and_assoc]
 unfold c9
 simp only[Bool.and_eq_true,beq_iff_eq,jf,List.length_eq_zero_iff]
 rw[HZ,dQ]
 constructor
 ·rintro⟨⟨⟨⟨⟨h1,h2⟩,h3⟩,h4⟩,h5⟩,h6⟩
  exact⟨h1.1,by omega,h2.1,h2.2.1,h2.2.2,h3,h4,h5,fun i hi=>((jI i).1 (h6 i hi)).1,fun i hi=>((jI i).1 (h6 i hi)).2.1,fun i hi=>((jI i).1 (h6 i hi)).2.2⟩
 ·intro h
  exact⟨⟨⟨⟨⟨⟨h.m0,by have:=h.m6;omega⟩,h.ri,h.rn,h.ln⟩,h.u0⟩,h.s0⟩,h.t0⟩,fun i hi=>(jI i).2 ⟨h.se i hi,h.ta i hi,h.un i hi⟩⟩
end Go.Eng
set_option linter.constructorNameAsVariable false
namespace Go.Eng
open Go Go.Proofs
theorem s6(d:Dk)(s:Stk):∀ k,(d.setN s).pg k=d.pg k
 | 0=>rfl
 |_+1=>rfl
theorem ZK(d:Dk)(s:Stk)(i:Nat)(o:Int):eb (d.setN s) i o=eb d i o:=by
 unfold eb
 rw[s6,s6]
 rfl
theorem Mp(d:Dk)(s:Stk):∀ i,bD (d.setN s) i=bD d i
 | 0=>rfl
 |i+1=>by
  show (if eb (d.setN s) i (bD (d.setN s) i)=true then(i:Int)else bD (d.setN s) i)=if eb d i (bD d i)=true then(i:Int)else bD d i
  rw[Mp d s i,ZK]
theorem ZM(d:Dk)(s:Stk):bc (d.setN s)=bc d:=Mp d s 2
theorem EJ(d:Dk)(s:Stk):bZ (d.setN s)=bZ d:=by
 unfold bZ
 rw[ZM,s6]
theorem PF(d:Dk)(s:Stk):lq (d.setN s)=lq d:=by
 unfold lq
 rw[s6,s6]
 rfl
theorem oP{d:Dk}:aF d=true↔gJ d.me d.now/\(-1<=d.wet/\d.wet<=1)/\lq d=true:=by
 unfold aF gW
 rw[Bool.and_eq_true,Bool.and_eq_true,xF,dQ,and_assoc]
theorem E8{d:Dk}{s:Stk}(h:aF d=true)(hs:gJ d.me s):aF (d.setN s)=true:=by
 obtain⟨_,h2,h3⟩:=oP.1 h
 exact oP.2 ⟨hs,h2,by rw[PF];exact h3⟩
theorem gJ.sz{me:Int}{s:Stk}(h:gJ me s):gM s:=(vq (xF.2 h)).sz
theorem Bf{d:Dk}{s:Stk}{me:Int}(h:b8 d)(hs:gJ me s):b8 (d.setN s):=⟨hs.sz,fun i hi=>by rw[s6];exact h.pg i hi⟩
theorem QU{me:Int}{s:Stk}{p:Int}{j:Nat}(h:gJ me s)(hj:j<6)(ar:me.toNat≠j)(hl:(s.un.get j).length≠40)(iU:s.se.get j≠99999)(hp:1<=p/\p<=999):gJ me (xM s p j):=by
 have m0:=h.m0;have m6:=h.m6
 have rO:me.toNat<6:=by omega
 have hu:=h.un j hj
 have hs:=h.se j hj
 refine⟨m0,m6,?_,fun x hx=>h.rn x ?_,?_,?_,?_,h.t0,fun i hi=>?_,h.ta,fun i hi=>?_⟩
 ·show (fm s.ho p s.ho.length).Pairwise (· < ·)
  unfold fm
  rw[List.take_length]
  exact h.ri.sublist List.filter_sublist
 ·have hx:x∈fm s.ho p s.ho.length:=hx
  unfold fm at hx
  rw[List.take_length]at hx
  exact(List.mem_filter.1 hx).1
 ·exact Nat.le_trans (Mx _ _ _) h.ln
 ·show (s.un.set j _).get me.toNat=[]
  rw[(s.un.get_set (i:=j) (j:=me.toNat) _ hj).2 rO ar]
  exact h.u0
 ·show (s.se.set j _).get me.toNat=0
  rw[(s.se.get_set (i:=j) (j:=me.toNat) _ hj).2 rO ar]
  exact h.s0
 ·show 0<=(s.se.set j _).get i/\(s.se.set j _).get i<=99999
  by_cases e:i=j
  ·subst e
   rw[(s.se.get_set (i:=i) (j:=i) _ hj).1]
   omega
  ·rw[(s.se.get_set (i:=j) (j:=i) _ hj).2 hi e]
   exact h.se i hi
 ·show PT ((s.se.set j _).get i) ((s.un.set j _).get i)/\((s.un.set j _).get i).length<=40
  by_cases e:i=j
  ·subst e
   rw[(s.se.get_set (i:=i) (j:=i) _ hj).1,(s.un.get_set (i:=i) (j:=i) _ hj).1]
   refine⟨OC hu.1 rfl ⟨?_,?_,hp.1,hp.2⟩,?_⟩
   ·show 1<=s.se.get i+1;omega
   ·show s.se.get i+1<=99999;omega
   ·rw[List.length_append]
    have :=hu.2
    simp only[List.length_cons,List.length_nil]
    omega
  ·rw[(s.se.get_set (i:=j) (j:=i) _ hj).2 hi e,(s.un.get_set (i:=j) (j:=i) _ hj).2 hi e]
   exact h.un i hi
theorem Tm{me:Int}{s:Stk}{f:Nat}{ta:Int}(h:gJ me s)(hf:f<6):gJ me (qQ s f ta):=by
 have m0:=h.m0;have m6:=h.m6
 have rO:me.toNat<6:=by omega
 refine⟨m0,m6,h.ri,h.rn,h.ln,?_,h.s0,h.t0,h.se,h.ta,fun i hi=>?_⟩
 ·show (s.un.set f _).get me.toNat=[]
  by_cases e:me.toNat=f
  ·rw[<-e,(s.un.get_set (i:=me.toNat) (j:=me.toNat) _ rO).1,h.u0]
   rfl
  ·rw[(s.un.get_set (i:=f) (j:=me.toNat) _ hf).2 rO e]
   exact h.u0
 ·show PT (s.se.get i) ((s.un.set f _).get i)/\((s.un.set f _).get i).length<=40
  by_cases e:i=f
  ·subst e
   rw[(s.un.get_set (i:=i) (j:=i) _ hf).1]
   refine⟨?_,Nat.le_trans (GA _ _ _) (h.un i hf).2⟩
   unfold fv
   rw[List.take_length]
   exact OB (h.un i hf).1
  ·rw[(s.un.get_set (i:=f) (j:=i) _ hf).2 hi e]
   exact h.un i hi
theorem WN{l:List Int}{x y:Int}(h:y∈cA l x):y=x\/y∈l:=by
 unfold cA at h
 rcases List.mem_append.1 h with h | h
 ·rcases List.mem_append.1 h with h | h
  ·exact .inr (List.mem_of_mem_take h)
  ·exact .inl (by simpa using h)
 ·exact .inr (List.mem_of_mem_drop h)
theorem Qf{me:Int}{s:Stk}{f:Nat}{p:Par}(h:gJ me s)(hf:f<6)(ar:me.toNat≠f)(hp:p.no<=99999/\1<=p.pa/\p.pa<=999)(he:eu f s p=0):gJ me (ku f s p):=by
 unfold ku
 unfold eu at he
 have m0:=h.m0;have m6:=h.m6
 have rO:me.toNat<6:=by omega
 have ht:=h.ta f hf
 by_cases hn:di f s p=true
 ·rw[if_pos hn]at he |-
  by_cases hh:bO s.ho p.pa=true
  ·rw[if_pos hh]at he;cases he
  ·rw[if_neg hh]at he
   by_cases hl:40<(cA s.ho p.pa).length
   ·rw[if_pos hl]at he;cases he
   ·unfold di at hn
    have dJ:p.no=s.ta.get f+1:=by simpa using hn
    refine⟨m0,m6,Ku h.ri (by simpa using hh),fun x hx=>?_,by show (cA s.ho p.pa).length<=40;omega,h.u0,h.s0,?_,h.se,fun i hi=>?_,h.un⟩
    ·rcases WN hx with rfl | hx
     ·exact hp.2
     ·exact h.rn x hx
    ·show (s.ta.set f _).get me.toNat=0
     rw[(s.ta.get_set (i:=f) (j:=me.toNat) _ hf).2 rO ar]
     exact h.t0
    ·show 0<=(s.ta.set f _).get i/\(s.ta.set f _).get i<=99999
     by_cases e:i=f
     ·subst e
      rw[(s.ta.get_set (i:=i) (j:=i) _ hf).1]
      omega
     ·rw[(s.ta.get_set (i:=f) (j:=i) _ hf).2 hi e]
      exact h.ta i hi
 ·rw[if_neg hn];exact h
theorem Hp{me:Int}{f:Nat}{ps:List Par}{s0:Stk}(h0:gJ me s0)(hf:f<6)(ar:me.toNat≠f)(hp:∀ p∈ps,p.no<=99999/\1<=p.pa/\p.pa<=999):∀ {z:Nat},z<=ps.length->dS f ps s0 z=0->gJ me (bA f ps s0 z)
 | 0,_,_=>h0
 |z+1,hz,he=>by
  have mm:(if dS f ps s0 z=0 then eu f (bA f ps s0 z) (ps.getD z default)else dS f ps s0 z)=0:=he
  by_cases h1:dS f ps s0 z=0
  ·rw[if_pos h1]at mm
   have hg:ps.getD z default=ps[z]'(by omega):=getD_at (by omega)
   exact Qf (Hp h0 hf ar hp (by omega) h1) hf ar (by rw[hg];exact hp _ (List.getElem_mem _)) mm
  ·rw[if_neg h1]at mm;exact absurd mm h1
structure Kept (d e:Dk):Prop where
 ok:aF e=true
 me:e.me=d.me
 sz:b8 d->b8 e
theorem He{d:Dk}{p t:Int}(h:aF d=true)(he:eF d p t=0):Kept d (iQ d p t)/\bZ (iQ d p t)=bZ d:=by
 have hV:iQ d p t=d.setN (xM d.now p t.toNat):=by unfold iQ;rw[if_pos he]
 unfold eF at he
 rw[if_pos h]at he
 by_cases h1:aY p 1 999=true
 ·rw[if_pos h1]at he
  by_cases h2:et d t=true
  ·rw[if_pos h2]at he
   by_cases h3:lg d p=true
   ·rw[if_pos h3]at he;cases he
   ·rw[if_neg h3]at he
    by_cases h4:kG d t=true
    ·rw[if_pos h4]at he;cases he
    ·have hs:=(oP.1 h).1
     have m0:=hs.m0
     unfold et at h2
     rw[Bool.and_eq_true,dQ]at h2
     have ar:t≠d.me:=by simpa using h2.2
     unfold kG at h4
     simp only[Bool.or_eq_true,beq_iff_eq,not_or]at h4
     have hk:=QU (p:=p) (j:=t.toNat) hs (by omega) (by omega) (by omega) h4.2 (dQ.1 h1)
     rw[hV]
     exact⟨⟨E8 h hk,rfl,fun hz=>Bf hz hk⟩,EJ _ _⟩
  ·rw[if_neg h2]at he;cases he
 ·rw[if_neg h1]at he;cases he
theorem yf{d:Dk}{b:Bag}(h:aF d=true)(he:e8 d b=0):(Kept d (e7 d b)/\bZ (e7 d b)=bZ d)/\ib d b=true/\dS b.fr.toNat b.ps (bp d b) b.ps.length=0/\e7 d b=d.setN (bA b.fr.toNat b.ps (bp d b) b.ps.length):=by
 have hV:e7 d b=d.setN (bA b.fr.toNat b.ps (bp d b) b.ps.length):=by unfold e7;rw[if_pos he]
 unfold e8 at he
 rw[if_pos h]at he
 by_cases h1:ib d b=true
 ·rw[if_pos h1]at he
  have hs:=(oP.1 h).1
  have m0:=hs.m0
  have mi:=h1
  unfold ib at h1
  rw[Bool.and_eq_true,beq_iff_eq]at h1
  obtain⟨f0,f6,fk,_,fZ,_,_⟩:=qm h1.1
  have ar:b.fr≠b.to:=by
   have :=h1.1
   unfold fq at this
   simp only[Bool.and_eq_true]at this
   intro e
   simp[e]at this
  have hk:=Hp (Tm (ta:=b.ta) hs fk) fk (by omega) (fun p hp=>⟨(fZ p hp).2.1,(fZ p hp).2.2⟩) (Nat.le_refl _) he
  rw[hV]
  exact⟨⟨⟨E8 h hk,rfl,fun hz=>Bf hz hk⟩,EJ _ _⟩,mi,he,rfl⟩
 ·rw[if_neg h1]at he;cases he
end Go.Eng
set_option linter.constructorNameAsVariable false
namespace Go.Eng
open Go Go.Proofs
def g0(d:Dk):Bool:=(0 != d.wet)&&aJ d.me d.pa
def g1(d:Dk):Bool:=(1 != d.wet)&&aJ d.me d.pb
theorem ZL(d:Dk):eb d 0 (-1)=g0 d:=by
 show ((((0:Int) != d.wet)&&aJ d.me d.pa)&&(decide ((-1:Int)<0)||decide ((d.pg 0).co>(d.pg (-1:Int).toNat).co)))=_
 rw[show decide ((-1:Int)<0)=true from rfl,Bool.true_or,Bool.and_true]
 rfl
theorem Mo(d:Dk):bc d=if (g1 d&&(!g0 d||decide (d.pb.co>d.pa.co)))=true then 1 else if g0 d=true then 0 else -1:=by
 have h1:bD d 1=if g0 d=true then 0 else -1:=by
  show (if eb d 0 (-1)=true then((0:Nat):Int)else -1)=_
  rw[ZL];rfl
 have h2:eb d 1 (bD d 1)=(g1 d&&(!g0 d||decide (d.pb.co>d.pa.co))):=by
  rw[h1]
  unfold g1
  cases g0 d
  ·rw[if_neg (by decide)]
   rfl
  ·rw[if_pos rfl]
   rfl
 show (if eb d 1 (bD d 1)=true then((1:Nat):Int)else bD d 1)=_
 rw[h2,h1];rfl
theorem Mn{d:Dk}(hw:d.wet=0)(h:aJ d.me d.pb=true):bc d=1:=by
 rw[Mo]
 have a:g0 d=false:=by unfold g0;rw[hw];rfl
 have b:g1 d=true:=by unfold g1;rw[hw,h];rfl
 rw[a,b];rfl
theorem Mm{d:Dk}(hw:d.wet=1)(h:aJ d.me d.pa=true):bc d=0:=by
 rw[Mo]
 have a:g0 d=true:=by unfold g0;rw[hw,h];rfl
 have b:g1 d=false:=by unfold g1;rw[hw];rfl
 rw[a,b];rfl
theorem xZ{me:Int}{s:Stk}{c:Int}(hs:gJ me s)(hc:0<=c/\c<=99999):aJ me ⟨c,s,dV s c⟩=true:=by
 unfold aJ
 rw[Bool.and_eq_true,Bool.and_eq_true,dQ,xF]
 exact⟨⟨hc,hs⟩,by simp⟩
theorem BT{me:Int}{p:Pg}(h:aJ me p=true):gJ me p.st:=by
 unfold aJ at h
 simp only[Bool.and_eq_true]at h
 exact xF.1 h.1.2
theorem Gq{me c:Int}{s:Stk}{q:Pg}(hs:gJ me s)(hc:0<=c/\c<=99999)(hq:aJ me q=true)(ae:q.co<c):
 aF ⟨me,s,⟨c,s,dV s c⟩,q,0⟩=true/\bZ ⟨me,s,⟨c,s,dV s c⟩,q,0⟩=q.st/\b8 ⟨me,s,⟨c,s,dV s c⟩,q,0⟩:=by
 have hp:=xZ (c:=c) hs hc
 refine⟨oP.2 ⟨hs,⟨by show (-1:Int)<=0;omega,by show (0:Int)<=1;omega⟩,?_⟩,?_,⟨hs.sz,fun i hi=>?_⟩⟩
 ·rw[o5 rfl]
  show ((aJ me _&&aJ me q)&&decide (c>q.co))=true
  rw[hp,hq,decide_eq_true ae];rfl
 ·unfold bZ
  rw[Mn rfl hq];rfl
 ·match i,hi with
  | 0,_=>exact hs.sz
  | 1,_=>exact(BT hq).sz
theorem Gp{me c:Int}{s:Stk}{q:Pg}(hs:gJ me s)(hc:0<=c/\c<=99999)(hq:aJ me q=true)(ae:q.co<c):
 aF ⟨me,s,q,⟨c,s,dV s c⟩,1⟩=true/\bZ ⟨me,s,q,⟨c,s,dV s c⟩,1⟩=q.st/\b8 ⟨me,s,q,⟨c,s,dV s c⟩,1⟩:=by
 have hp:=xZ (c:=c) hs hc
 refine⟨oP.2 ⟨hs,⟨by show (-1:Int)<=1;omega,by show (1:Int)<=1;omega⟩,?_⟩,?_,⟨hs.sz,fun i hi=>?_⟩⟩
 ·rw[o4 rfl]
  show ((aJ me q&&aJ me _)&&decide (c>q.co))=true
  rw[hp,hq,decide_eq_true ae];rfl
 ·unfold bZ
  rw[Mm rfl hq];rfl
 ·match i,hi with
  | 0,_=>exact(BT hq).sz
  | 1,_=>exact hs.sz
theorem Gn{d:Dk}(h:aF d=true)(he:gK d=0):Kept d (jS d)/\bZ (jS d)=bZ d:=by
 have hV:jS d=iN d:=by unfold jS;rw[if_pos he]
 have hs:=(oP.1 h).1
 rw[hV]
 by_cases hw:d.wet<0
 ·have hc:(d.pg (bc d).toNat).co≠99999:=by
    intro hc
    have :=(A5 h hw hc).2
    rw[he]at this;cases this
  obtain⟨f0,f2,_,_⟩:=nE h
  have hp:=EM h
  have zG:=tp hp
  have zw:bZ d=(d.pg (bc d).toNat).st:=rfl
  have hf:bc d=0\/bc d=1:=by omega
  rcases hf with hf | hf
  ·rw[hf]at hp zG hc zw
   have e:iN d=⟨d.me,d.now,d.pa,⟨d.pa.co+1,d.now,dV d.now (d.pa.co+1)⟩,1⟩:=by
    unfold iN oZ oY
    rw[if_pos hw,if_pos hw,hf];rfl
   have Yx:0<=d.pa.co/\d.pa.co<=99999:=zG
   have jH:d.pa.co≠99999:=hc
   obtain⟨a,b,c⟩:=Gp (c:=d.pa.co+1) hs ⟨by omega,by omega⟩ hp (by show d.pa.co<_;omega)
   rw[e,zw]
   exact⟨⟨a,rfl,fun _=>c⟩,b⟩
  ·rw[hf]at hp zG hc zw
   have e:iN d=⟨d.me,d.now,⟨d.pb.co+1,d.now,dV d.now (d.pb.co+1)⟩,d.pb,0⟩:=by
    unfold iN oZ oY
    rw[if_pos hw,if_pos hw,hf];rfl
   have Yx:0<=d.pb.co/\d.pb.co<=99999:=zG
   have jH:d.pb.co≠99999:=hc
   obtain⟨a,b,c⟩:=Gq (c:=d.pb.co+1) hs ⟨by omega,by omega⟩ hp (by show d.pb.co<_;omega)
   rw[e,zw]
   exact⟨⟨a,rfl,fun _=>c⟩,b⟩
 ·obtain⟨h1,h2,h3,h4,h5⟩:=p8 h hw
  have jy:d.wet=0\/d.wet=1:=by omega
  rcases jy with e | e
  ·have e':iN d=⟨d.me,d.now,⟨d.pa.co,d.now,dV d.now d.pa.co⟩,d.pb,0⟩:=by
     unfold iN oZ oY
     rw[if_neg hw,if_neg hw,e];rfl
   rw[e]at h5
   have sb:d.pb.co<d.pa.co:=h5
   obtain⟨a,b,c⟩:=Gq (c:=d.pa.co) hs (tp h1) h2 sb
   rw[e']
   exact⟨⟨a,rfl,fun _=>c⟩,by rw[b];unfold bZ;rw[Mn e h2];rfl⟩
  ·have e':iN d=⟨d.me,d.now,d.pa,⟨d.pb.co,d.now,dV d.now d.pb.co⟩,1⟩:=by
     unfold iN oZ oY
     rw[if_neg hw,if_neg hw,e];rfl
   rw[e]at h5
   have sb:d.pa.co<d.pb.co:=h5
   obtain⟨a,b,c⟩:=Gp (c:=d.pb.co) hs (tp h2) h1 sb
   rw[e']
   exact⟨⟨a,rfl,fun _=>c⟩,by rw[b];unfold bZ;rw[Mm e h1];rfl⟩
def yv(a b:Bool)(x y:Int):Int:=if b=true then(if y>(if a=true then(if x> -1 then x else -1)else -1)then y else(if a=true then(if x> -1 then x else -1)else -1))else(if a=true then(if x> -1 then x else -1)else -1)
theorem ne_eq(d:Dk):jZ d=yv (g0 d) (g1 d) d.pa.co d.pb.co:=rfl
theorem Cg{a b a' b':Bool}{x y:Int}(h1:a=true->a'=true)(h2:b=true->b'=true):yv a b x y<=yv a' b' x y:=by
 unfold yv
 cases a<;>cases b<;>cases a'<;>cases b'<;>simp at h1 h2 |- <;>repeat' split
 all_goals first | omega | contradiction | skip
theorem TA(d:Dk)(s:Stk):jZ (d.setN s)=jZ d:=rfl
theorem E2{d:Dk}(h:aF d=true):Kept d (oO d)/\jZ d<=jZ (oO d):=by
 have hb:gq d 0=false:=by unfold gq;rw[show (Int.tmod 0 2 != 0)=false from rfl,Bool.and_false]
 have hk:=EK (n:=0) h
 rw[nS hb]at hk
 rw[nG h]
 refine⟨⟨hk,rfl,fun hz=>⟨hz.now,fun i hi=>?_⟩⟩,?_⟩
 ·match i,hi with
  | 0,_=>exact hz.pg 0 (by omega)
  | 1,_=>exact hz.pg 1 (by omega)
 ·rw[ne_eq,ne_eq]
  refine Cg (x:=d.pa.co) (y:=d.pb.co) (fun e=>?_) (fun e=>?_)
  ·unfold g0 at e |-
   rw[Bool.and_eq_true]at e
   show ((0:Int) != -1&&aJ d.me d.pa)=true
   rw[e.2];rfl
  ·unfold g1 at e |-
   rw[Bool.and_eq_true]at e
   show ((1:Int) != -1&&aJ d.me d.pb)=true
   rw[e.2];rfl
theorem Mk{d:Dk}{n:Int}(h:aF d=true):Kept d (kV d n)/\jZ d<=jZ (kV d n)/\bZ (kV d n)=(kV d n).now:=by
 have hk:=EK (n:=n) h
 rw[kU h]
 have db:=BT (EM hk)
 have aZ:((iP d n).setW (-1)).me=d.me:=by
  cases hb:gq d n
  ·rw[nS hb];rfl
  ·rw[pf hb];exact G6 _ _ _
 have bf:b8 d->b8 ((iP d n).setW (-1)):=fun hz=>by
  cases hb:gq d n
  ·rw[nS hb]
   exact⟨hz.now,fun i hi=>by match i,hi with | 0,_=>exact hz.pg 0 (by omega) | 1,_=>exact hz.pg 1 (by omega)⟩
  ·rw[pf hb]
   have hw:=u6 hb
   obtain⟨h1,h2,h3,h4,_⟩:=p8 h hw
   have jy:d.wet=0\/d.wet=1:=by omega
   rcases jy with e | e<;>rw[e]
   ·exact⟨hz.now,fun i hi=>by match i,hi with | 0,_=>exact hz.pg 0 (by omega) | 1,_=>exact hz.pg 1 (by omega)⟩
   ·exact⟨hz.now,fun i hi=>by match i,hi with | 0,_=>exact hz.pg 0 (by omega) | 1,_=>exact hz.pg 1 (by omega)⟩
 refine⟨⟨E8 hk db,aZ,fun hz=>Bf (bf hz) db⟩,?_,?_⟩
 ·show jZ d<=jZ (((iP d n).setW (-1)).setN _)
  rw[TA]
  cases hb:gq d n
  ·rw[nS hb]
   have :=(E2 h).2
   rw[nG h]at this
   exact this
  ·rw[pf hb]
   have hw:=u6 hb
   obtain⟨h1,h2,h3,h4,_⟩:=p8 h hw
   have jy:d.wet=0\/d.wet=1:=by omega
   rw[ne_eq,ne_eq]
   rcases jy with e | e<;>rw[e]
   ·refine Cg (x:=d.pa.co) (y:=d.pb.co) (fun k=>?_) (fun k=>?_)
    ·unfold g0 at k;rw[e]at k;cases k
    ·show ((1:Int) != -1&&aJ d.me d.pb)=true
     rw[h2];rfl
   ·refine Cg (x:=d.pa.co) (y:=d.pb.co) (fun k=>?_) (fun k=>?_)
    ·show ((0:Int) != -1&&aJ d.me d.pa)=true
     rw[h1];rfl
    ·unfold g1 at k;rw[e]at k;cases k
 ·exact EJ _ _
theorem IA{me:Int}{l:List Int}(h:n9 me l=true):aF (qZ me l)=true:=by
 unfold n9 at h
 rw[Bool.and_eq_true,dQ,HZ]at h
 obtain⟨⟨m0,m5⟩,h1,h2,h3⟩:=h
 have z:∀ {α:Type} (x:α) (i:Nat),(fG fun _=>x).get i=x:=fun x i=>by
  unfold bj.get fG
  split<;>rfl
 have hs:∀ k:List Int,k.Pairwise (· < ·)->(∀ x∈k,1<=x/\x<=999)->k.length<=40->gJ me (iO k):=fun k a b c=>by
  refine⟨m0,by omega,a,b,c,z _ _,z _ _,z _ _,fun i _=>?_,fun i _=>?_,fun i _=>?_⟩
  ·rw[show (iO k).se.get i=0 from z _ _];omega
  ·rw[show (iO k).ta.get i=0 from z _ _];omega
  ·rw[show (iO k).un.get i=[]from z _ _];exact⟨trivial,by simp⟩
 have a:=hs l h1 h2 h3
 have b:=hs [] List.Pairwise.nil (fun _ h=>by cases h) (by simp)
 refine oP.2 ⟨a,⟨by show (-1:Int)<= -1;omega,by show (-1:Int)<=1;omega⟩,?_⟩
 rw[mQ (show (-1:Int)<0 by decide)]
 have pa:=xZ (c:=1) a ⟨by decide,by decide⟩
 have pb:=xZ (c:=0) b ⟨by decide,by decide⟩
 show ((aJ me ⟨1,iO l,dV (iO l) 1⟩||aJ me ⟨0,zS,dV zS 0⟩)&&!((aJ me ⟨1,iO l,dV (iO l) 1⟩&&aJ me ⟨0,zS,dV zS 0⟩)&&((1:Int)==0)))=true
 rw[pa];simp
theorem Tw{me:Int}{l:List Int}(h:n9 me l=true):b8 (qZ me l):=by
 have hk:=IA h
 obtain⟨hs,_,_⟩:=oP.1 hk
 refine⟨hs.sz,fun i hi=>?_⟩
 match i,hi with
 | 0,_=>exact hs.sz
 | 1,_=>exact Io.sz
end Go.Eng
set_option linter.constructorNameAsVariable false
namespace Go.Eng
open Go Go.Proofs
theorem Qc(f:Nat)(s:Stk)(p:Par):(ku f s p).un=s.un:=by
 unfold ku
 split<;>rfl
theorem GU(f:Nat)(ps:List Par)(s0:Stk):∀ z,(bA f ps s0 z).un=s0.un
 | 0=>rfl
 |z+1=>(Qc f _ _).trans (GU f ps s0 z)
theorem IB{f:Nat}{ps:List Par}{s0:Stk}(hf:f<6)(pM:cf ps=true):∀ z,z<=ps.length->∀ i (h:i<ps.length),i<z->ps[i].no≠(bA f ps s0 z).ta.get f+1
 | 0,_,_,_,h=>by omega
 |z+1,hz,i,hi,hiz=>by
  have dJ:=x8 pM
  show _≠(ku f (bA f ps s0 z) (ps.getD z default)).ta.get f+1
  rw[getD_at (show z<ps.length by omega)]
  unfold ku
  by_cases hn:di f (bA f ps s0 z) (ps[z]'(by omega))=true
  ·rw[if_pos hn]
   show _≠((bA f ps s0 z).ta.set f _).get f+1
   rw[((bA f ps s0 z).ta.get_set (i:=f) (j:=f) _ hf).1]
   unfold di at hn
   have rN:(ps[z]'(by omega)).no=(bA f ps s0 z).ta.get f+1:=by simpa using hn
   have h1:=dJ i hi
   have h2:=dJ z (by omega)
   omega
  ·rw[if_neg hn]
   by_cases e:i=z
   ·subst e
    unfold di at hn
    simpa using hn
   ·exact IB hf pM z (by omega) i hi (by omega)
theorem Hr{f:Nat}{ps:List Par}{s:Stk}(h:∀ i (hi:i<ps.length),di f s ps[i]=false):∀ z,z<=ps.length->bA f ps s z=s/\dS f ps s z=0
 | 0,_=>⟨rfl,rfl⟩
 |z+1,hz=>by
  obtain⟨h1,h2⟩:=Hr h z (by omega)
  have hb:=h z (by omega)
  have hg:ps.getD z default=ps[z]'(by omega):=getD_at (by omega)
  constructor
  ·show ku f (bA f ps s z) (ps.getD z default)=s
   rw[h1,hg]
   unfold ku
   rw[if_neg (by rw[hb];decide)]
  ·show (if dS f ps s z=0 then eu f (bA f ps s z) (ps.getD z default)else dS f ps s z)=0
   rw[if_pos h2,h1,hg]
   unfold eu
   rw[if_neg (by rw[hb];decide)]
theorem Tn{s s0:Stk}{f:Nat}{ta:Int}(hf:f<6)(h:s.un=(qQ s0 f ta).un):qQ s f ta=s:=by
 have hg:s.un.get f=fv (s0.un.get f) ta (s0.un.get f).length:=by
  rw[h]
  exact(s0.un.get_set (i:=f) (j:=f) _ hf).1
 have he:fv (s.un.get f) ta (s.un.get f).length=s.un.get f:=by
  unfold fv
  rw[List.take_length,List.filter_eq_self]
  intro p hp
  rw[hg]at hp
  unfold fv at hp
  exact(List.mem_filter.1 hp).2
 unfold qQ
 rw[he,bj.set_self _ _ hf]
theorem To{d:Dk}{b:Bag}(h:aF d=true)(he:e8 d b=0):e8 (e7 d b) b=0/\e7 (e7 d b) b=e7 d b:=by
 obtain⟨⟨hk,_⟩,mi,D7,hV⟩:=yf h he
 have gZ:fq b=true:=by unfold ib at mi;rw[Bool.and_eq_true]at mi;exact mi.1
 obtain⟨_,_,fk,_,_,_,_⟩:=qm gZ
 have pM:cf b.ps=true:=by unfold fq at gZ;simp only[Bool.and_eq_true]at gZ;exact gZ.1.2
 have Yi:ib (e7 d b) b=true:=by
  unfold ib at mi |-
  rw[hk.me];exact mi
 have hO:bp (e7 d b) b=bA b.fr.toNat b.ps (bp d b) b.ps.length:=by
  rw[hV]
  exact Tn (s:=bA b.fr.toNat b.ps (bp d b) b.ps.length) (s0:=d.now) fk (GU _ _ _ _)
 have dJ:=IB (s0:=bp d b) fk pM b.ps.length (Nat.le_refl _)
 obtain⟨r1,r2⟩:=Hr (f:=b.fr.toNat) (ps:=b.ps) (s:=bA b.fr.toNat b.ps (bp d b) b.ps.length) (fun i hi=>by
  unfold di
  rw[beq_eq_false_iff_ne]
  exact dJ i hi hi) b.ps.length (Nat.le_refl _)
 have h2:dS b.fr.toNat b.ps (bp (e7 d b) b) b.ps.length=0:=by rw[hO];exact r2
 obtain⟨a,c⟩:=B5 hk.ok Yi h2
 refine⟨c,?_⟩
 rw[a,hO,r1]
 rw[hV]
 rfl
def Sx.set(x:Sx)(k:Nat)(d:Dk):Sx:=⟨x.ds.set k d,x.bs⟩
def eC(y:Act):Int:=y.kd % 16
def cV(y:Act):Nat:=(y.dk % 6).toNat
def lD(y:Act):Int:=y.to % 6
def kh(x:Sx)(y:Act):Bag:=x.bs.getD (y.pi % (x.bs.length:Int)).toNat default
def iv(x:Sx)(y:Act):Sx:=
 if eC y<=2 then(if eF (x.ds.get (cV y)) (qM (x.ds.get (cV y)).now.ho y.pp) (lD y)=0 then x.set (cV y) (iQ (x.ds.get (cV y)) (qM (x.ds.get (cV y)).now.ho y.pp) (lD y))else x)
 else if eC y<=4 then(if gK (x.ds.get (cV y))=0 then x.set (cV y) (jS (x.ds.get (cV y)))else x)
 else if eC y<=6 then(if jd (x.ds.get (cV y))=0 then x.set (cV y) (oO (x.ds.get (cV y)))else x)
 else if eC y<=7 then(if jd (x.ds.get (cV y))=0 then x.set (cV y) (kV (x.ds.get (cV y)) y.pi)else x)
 else if eC y<=10 then(if ie (x.ds.get (cV y)) (lD y)=0 then⟨x.ds,x.bs++[nZ (x.ds.get (cV y)) (lD y)]⟩else x)
 else if x.bs=[]then x
 else if e8 (x.ds.get (kh x y).to.toNat) (kh x y)=0 then x.set (kh x y).to.toNat (e7 (x.ds.get (kh x y).to.toNat) (kh x y))else x
structure jR (x:Sx) (n:Nat):Prop where
 ok:∀ i,i<6->aF (x.ds.get i)=true
 me:∀ i,i<6->(x.ds.get i).me=i
 sz:∀ i,i<6->b8 (x.ds.get i)
 bg:∀ b∈x.bs,0<=b.to/\b.to<6
 ln:x.bs.length<=n
theorem z'{x:Sx}{y:Act}(h:eC y=0\/eC y=1\/eC y=2):iv x y=if eF (x.ds.get (cV y)) (qM (x.ds.get (cV y)).now.ho y.pp) (lD y)=0 then x.set (cV y) (iQ (x.ds.get (cV y)) (qM (x.ds.get (cV y)).now.ho y.pp) (lD y))else x:=if_pos (by omega)
theorem E5{x:Sx}{y:Act}(h:eC y=3\/eC y=4):iv x y=if gK (x.ds.get (cV y))=0 then x.set (cV y) (jS (x.ds.get (cV y)))else x:=by
 unfold iv;rw[if_neg (by omega),if_pos (by omega)]
theorem E6{x:Sx}{y:Act}(h:eC y=5\/eC y=6):iv x y=if jd (x.ds.get (cV y))=0 then x.set (cV y) (oO (x.ds.get (cV y)))else x:=by
 unfold iv;rw[if_neg (by omega),if_neg (by omega),if_pos (by omega)]
theorem MS{x:Sx}{y:Act}(h:eC y=7):iv x y=if jd (x.ds.get (cV y))=0 then x.set (cV y) (kV (x.ds.get (cV y)) y.pi)else x:=by
 unfold iv;rw[if_neg (by omega),if_neg (by omega),if_neg (by omega),if_pos (by omega)]
theorem Aa{x:Sx}{y:Act}(h:eC y=8\/eC y=9\/eC y=10):iv x y=if ie (x.ds.get (cV y)) (lD y)=0 then⟨x.ds,x.bs++[nZ (x.ds.get (cV y)) (lD y)]⟩else x:=by
 unfold iv;rw[if_neg (by omega),if_neg (by omega),if_neg (by omega),if_neg (by omega),if_pos (by omega)]
theorem MR{x:Sx}{y:Act}(h:11<=eC y)(hb:x.bs=[]):iv x y=x:=by
 unfold iv;rw[if_neg (by omega),if_neg (by omega),if_neg (by omega),if_neg (by omega),if_neg (by omega),if_pos hb]
theorem MQ{x:Sx}{y:Act}(h:11<=eC y)(hb:x.bs≠[]):iv x y=if e8 (x.ds.get (kh x y).to.toNat) (kh x y)=0 then x.set (kh x y).to.toNat (e7 (x.ds.get (kh x y).to.toNat) (kh x y))else x:=by
 unfold iv;rw[if_neg (by omega),if_neg (by omega),if_neg (by omega),if_neg (by omega),if_neg (by omega),if_neg hb]
theorem bj.get_set_all{α:Type}{Q:Nat->α->Prop}{s:bj α}{k:Nat}{d:α}(hk:k<6)(h:∀ i,i<6->Q i (s.get i))(hd:Q k d):∀ i,i<6->Q i ((s.set k d).get i):=fun i hi=>by
 by_cases e:i=k
 ·subst e;rw[(s.get_set (i:=i) (j:=i) d hk).1];exact hd
 ·rw[(s.get_set (i:=k) (j:=i) d hk).2 hi e];exact h i hi
theorem jR.kept{x:Sx}{n k:Nat}{e:Dk}(h:jR x n)(hk:k<6)(he:Kept (x.ds.get k) e):jR (x.set k e) n:=
 ⟨bj.get_set_all (Q:=fun _ d=>aF d=true) hk h.ok he.ok,bj.get_set_all (Q:=fun i (d:Dk)=>d.me=(i:Int)) hk h.me (he.me.trans (h.me k hk)),bj.get_set_all (Q:=fun _ d=>b8 d) hk h.sz (he.sz (h.sz k hk)),h.bg,h.ln⟩
theorem jR.mono{x:Sx}{n m:Nat}(h:jR x n)(hm:n<=m):jR x m:=⟨h.ok,h.me,h.sz,h.bg,Nat.le_trans h.ln hm⟩
theorem MT(y:Act):cV y<6:=by unfold cV;omega
theorem MU{x:Sx}{y:Act}(h:x.bs≠[]):kh x y∈x.bs:=by
 have hl:=List.length_pos_iff.2 h
 have g0:=Int.emod_nonneg y.pi (by omega:(x.bs.length:Int)≠0)
 have g1:=Int.emod_lt_of_pos y.pi (by omega:(0:Int)<(x.bs.length:Int))
 unfold kh
 rw[getD_at (by omega)]
 exact List.getElem_mem _
theorem ZX{x:Sx}{y:Act}{n:Nat}(h:jR x n):jR (iv x y) (n+1):=by
 have hk:=MT y
 have hd:=h.ok _ hk
 have h':=h.mono (Nat.le_succ n)
 have ez:0<=eC y:=by unfold eC;omega
 by_cases c1:eC y<=2
 ·rw[z' (by omega)]
  split
  ·next he=>exact h'.kept hk (He hd he).1
  ·exact h'
 by_cases c2:eC y<=4
 ·rw[E5 (by omega)]
  split
  ·next he=>exact h'.kept hk (Gn hd he).1
  ·exact h'
 by_cases c3:eC y<=6
 ·rw[E6 (by omega)]
  split
  ·exact h'.kept hk (E2 hd).1
  ·exact h'
 by_cases c4:eC y<=7
 ·rw[MS (by omega)]
  split
  ·exact h'.kept hk (Mk hd).1
  ·exact h'
 by_cases c5:eC y<=10
 ·rw[Aa (by omega)]
  split
  ·next he=>
   refine⟨h.ok,h.me,h.sz,fun b hb=>?_,?_⟩
   ·rcases List.mem_append.1 hb with hb | hb
    ·exact h.bg b hb
    ·simp only[List.mem_cons,List.not_mem_nil,or_false]at hb
     subst hb
     have hp:0<=lD y/\lD y<6:=by unfold lD;omega
     unfold nZ
     split
     ·exact hp
     ·exact⟨by show (0:Int)<=0;omega,by show (0:Int)<6;omega⟩
   ·show (x.bs++_).length<=n+1
    have :=h.ln
    rw[List.length_append]
    simp only[List.length_cons,List.length_nil]
    omega
  ·exact h'
 by_cases c6:x.bs=[]
 ·rw[MR (by omega) c6];exact h'
 ·rw[MQ (by omega) c6]
  have hb:=h.bg _ (MU (y:=y) c6)
  split
  ·next he=>exact h'.kept (by omega) (yf (h.ok _ (by omega)) he).1.1
  ·exact h'
def nQ(l:List Act):Nat->Sx
 | 0=>mF 6
 |z+1=>iv (nQ l z) (l.getD z default)
theorem aba:jR (mF 6) 0:=by
 have e:∀ i,i<6->(mF 6).ds.get i=qZ i (qN i)/\n9 i (qN i)=true:=fun i hi=>
  ix (P:=fun i=>(mF 6).ds.get i=qZ i (qN i)/\n9 i (qN i)=true) ⟨rfl,rfl⟩ ⟨rfl,rfl⟩ ⟨rfl,rfl⟩ ⟨rfl,rfl⟩ ⟨rfl,rfl⟩ ⟨rfl,rfl⟩ hi
 exact⟨fun i hi=>by rw[(e i hi).1];exact IA (e i hi).2,fun i hi=>by rw[(e i hi).1];rfl,fun i hi=>by rw[(e i hi).1];exact Tw (e i hi).2,fun b hb=>(by rw[FK]at hb;cases hb),by rw[FK];exact Nat.le_refl _⟩
theorem Bb(l:List Act):∀ z,jR (nQ l z) z
 | 0=>aba
 |z+1=>ZX (Bb l z)
set_option maxRecDepth 100000
def yU:En Sx:=⟨fun x=>.agg (bt x),fun v=>⟨fG fun i=>oR (((V.L v).drop (i*63)).take 63),match (V.L v).getD 378 default with | .sl l=>l.map qa | _=>[]⟩⟩
theorem WY(x:Sx):yU.dec (.agg (bt x))=x:=by
 show (⟨fG fun i=>oR (((bt x).drop (i*63)).take 63),match (bt x).getD 378 default with | .sl l=>l.map qa | _=>[]⟩:Sx)=x
 have e:(fG fun i=>oR (((bt x).drop (i*63)).take 63))=x.ds:=G2 fun i hi=>by
  have :(fG fun i=>oR (((bt x).drop (i*63)).take 63)).get i=oR (((bt x).drop (i*63)).take 63):=
   ix (P:=fun j=>(fG fun i=>oR (((bt x).drop (i*63)).take 63)).get j=oR (((bt x).drop (j*63)).take 63)) rfl rfl rfl rfl rfl rfl hi
  rw[this,GM x hi,Fj]
 rw[e,Qr]
 obtain⟨ds,bs⟩:=x
 show (⟨ds,(bs.map fD).map qa⟩:Sx)=_
 rw[vx uK]
@[go_sem] theorem afH(x:Sx):yU.dec (.agg (bt x))=x:=WY x
theorem xD(x:Sx){i:Nat}(h:i<6):List.take 63 (List.drop (i*63) (List.map D.v (bt x)))=List.map D.v (ak (x.ds.get i)):=by
 rw[<-List.map_drop,<-List.map_take,GM x h]
theorem qz(x:Sx):(List.map D.v (bt x)).getD 378 .any=.v (.sl (x.bs.map fD)):=by kernel_rfl
theorem qA(x:Sx):List.take 1 (List.drop 378 (List.map D.v (bt x)))=[.v (.sl (x.bs.map fD))]:=by kernel_rfl
@[go_sem] theorem agZ(a:Act):(jO a).take 5=jO a:=rfl
theorem B7(l:List Bag):∀ y∈l.map fD,y.cells.length=4/\y.okc=true:=by
 intro y hy;obtain⟨x,_,rfl⟩:=List.mem_map.1 hy;exact⟨rfl,rfl⟩
def uM(x:Sx)(nm:Name)(n:Nat):List D:=List.take 378 (List.map D.v (bt x))++[.msl nm n]
theorem FH(x:Sx)(nm:Name)(n:Nat):List.take 378 (List.map D.v (bt x))++[.msl nm n]=uM x nm n:=rfl
theorem je(x:Sx)(nm:Name)(n:Nat):(uM x nm n)[378]?=some (.msl nm n):=by kernel_rfl
@[go_sem] theorem agH(dom:Name->Bool)(x:Sx)(nm:Name)(n:Nat):D.closL dom (uM x nm n)=dom nm:=by
  unfold uM
  rw[<-List.map_take]
  have h:∀ l:List V,D.closL dom (l.map D.v++[.msl nm n])=dom nm:=fun l=>by
   induction l with
   |nil=>show (D.clos dom (.msl nm n)&&true)=_;rw[Bool.and_true];rfl
   |cons a r ih=>show (true&&D.closL dom (r.map D.v++[.msl nm n]))=_;rw[Bool.true_and,ih]
  exact h _
theorem aa1(x:Sx)(nm:Name)(n:Nat)(l:List Bag):(uM x nm n).set 378 (.v (.sl (l.map fD)))=List.map D.v (bt ⟨x.ds,l⟩):=by kernel_rfl
theorem dp(x:Sx)(nm:Name)(n:Nat)(b:Bag):(uM x nm n).set 378 (.v (.sl (List.map fD x.bs++[.agg (aP b)])))=List.map D.v (bt ⟨x.ds,x.bs++[b]⟩):=by
 have :=aa1 x nm n (x.bs++[b])
 rw[List.map_append]at this
 exact this
noncomputable def OJ:List (Nat×Spec):=[(21,S21),(109,S109),(9,S9),(11,S11),(13,S13),(15,S15),(17,S17),(27,S27)]
theorem abR:∀ f s,tbl OJ f=some s->al Tryz.prog f s:=tc yM<|tc Ww<|tc k9<|tc Wv<|tc Wo<|tc Wm<|tc Wk<|tc We<|tn
attribute [go_sem] OJ
noncomputable def P73:PSpec:=p2 yU rq (fun x _=>jR x 1000) (fun x y=>.agg (bt (iv x y))) false
noncomputable def S73:Spec:=P73.toSpec
attribute [go_sem] P73 S73
set_option maxHeartbeats 8000000 in
theorem RA:aQ Tryz.prog 73 P73:=by
 refine w2 (rs:=[.cell 4 50]) Tryz.func73 Tryz.ntmps73 (by rfl) (by kernel_rfl) (by decide) (fun h=>by cases h) ⟨_,rfl,lb rfl,fun x y hp hw=>?_⟩
 have hP:=ba
 simp only[rq,yU]at hw |-
 have hΓ:=abR
 replace hp:jR x 1000:=hp
 obtain⟨k,hk⟩:∃ k,k=cV y:=⟨_,rfl⟩
 have uf:k<6:=by rw[hk];exact MT y
 have v7:(y.dk % 6).toNat=k:=hk.symm
 have r0:(0:Int)<=y.dk % 6:=by omega
 have r6:y.dk % 6<6:=by omega
 have dK:(0:Int)<6/\(6:Int)<=1000000:=by omega
 have XW:(0:Int)<16/\(16:Int)<=1000000:=by omega
 obtain⟨d,hd⟩:∃ d,d=x.ds.get k:=⟨_,rfl⟩
 have DN:List.take 63 (List.drop (k*63) (List.map D.v (bt x)))=List.map D.v (ak d):=by rw[hd];exact xD x uf
 have lA:aF d=true:=by rw[hd];exact hp.ok k uf
 have dz:b8 d:=by rw[hd];exact hp.sz k uf
 have ug:d.now.ho.length<=1000000:=by have:=(qY lA).hol;omega
 have fw:∀ (z:Sx) (e:Dk),List.take (k*63) (List.map D.v (bt z))++List.map D.v (ak e)++List.drop (k*63+63) (List.map D.v (bt z))=List.map D.v (bt (z.set k e)):=fun z e=>Bg z e uf
 have uy:lD y=y.to % 6:=rfl
 have q0:=r0
 have q6:=r6
 have qk:=v7
 have hln:x.bs.length<=1000:=hp.ln
 repeat refine sq ?_
 refine rx hΓ [2,3,4] [[2,0],[3,0],[4,0],[103,0],[106,0]] (fun K' hK=>by simp only[go_sem];(repeat (refine⟨ah,?_⟩));exact hK _ (by simp only[go_sem]) (by simp only[go_sem]<;>rfl)) ?_
 refine aE (ft [4,0] _ (bt zX) rfl rfl [2,3,4] [[2,0],[3,0],[4,0],[103,0],[106,0]] ?_ rfl) ?_
 ·simp only[go_sem]
 simp only[go_sem]
 refine aE (bz [3,0] (jO y) rfl [2,3,4] [[2,0],[3,0],[4,0],[103,0],[106,0]] ?_ rfl) ?_
 ·simp only[go_sem]
 simp only[go_sem]
 repeat refine sq ?_
 refine rx hΓ [2,3,4,5] [[2,0],[3,0],[4,0],[103,0],[106,0]] (fun K' hK=>by simp only[go_sem];(repeat (refine⟨by first | exact dK | exact ah,?_⟩));exact hK _ (by simp only[go_sem]) (by simp only[go_sem]<;>rfl)) ?_
 repeat refine sq ?_
 refine rx hΓ [2,3,4,5,6] [[2,0],[3,0],[4,0],[6,0],[103,0],[106,0]] (fun K' hK=>by simp only[go_sem,Nat.zero_add,v7,r0,r6,DN,List.append_nil];(repeat (refine⟨ah,?_⟩));exact hK _ (by simp only[go_sem]) (by simp only[go_sem]<;>rfl)) ?_
 repeat refine sq ?_
 refine rx hΓ [2,3,4,5,6,7] [[2,0],[3,0],[4,0],[6,0],[103,0],[106,0]] (fun K' hK=>by simp only[go_sem];(repeat (refine⟨by first | exact dK | exact ah,?_⟩));exact hK _ (by simp only[go_sem]) (by simp only[go_sem]<;>rfl)) ?_
 repeat refine sq ?_
 refine rx hΓ [2,3,4,5,6,7,8] [[2,0],[3,0],[4,0],[6,0],[103,0],[106,0]] (fun K' hK=>by simp only[go_sem];(repeat (refine⟨ah,?_⟩));exact hK _ (by simp only[go_sem]) (by simp only[go_sem]<;>rfl)) ?_
 repeat refine sq ?_
 refine rx hΓ [2,3,4,5,6,7,8,24] [[2,0],[3,0],[4,0],[6,0],[103,0],[106,0]] (fun K' hK=>by simp only[go_sem];(repeat (refine⟨by first | exact XW | exact ah,?_⟩));exact hK _ (by simp only[go_sem]) (by simp only[go_sem]<;>rfl)) ?_
 repeat refine sq ?_
 refine aO ?_
 repeat refine sq ?_
 refine rx hΓ [2,3,4,5,6,7,8,24,50] [[2,0],[3,0],[4,0],[6,0],[103,0],[106,0]] (fun K' hK=>by simp only[go_sem];(repeat (refine⟨ah,?_⟩));exact hK _ (by simp only[go_sem]) (by simp only[go_sem]<;>rfl)) ?_
 repeat refine sq ?_
 refine au rfl rfl (fun hb=>?_) (fun hb=>?_)
 ·repeat refine sq ?_
  have nr:=hb
  refine av ?_
  repeat refine sq ?_
  refine au rfl rfl (fun hb=>?_) (fun hb=>?_)
  ·repeat refine sq ?_
   have e:=z' (x:=x) (y:=y) (by show y.kd % 16=0\/y.kd % 16=1\/y.kd % 16=2;have h5:=nr;simp only[beq_iff_eq]at h5;omega)
   rw[<-hk,<-hd,uy]at e
   repeat refine sq ?_
   refine km hΓ hP [[],[],[],[1,2],[],[0,1,2,3,4],[0,1,2,3,4,5],[0,1,2,3,4,5,6],[0,1,2,3,4,5,6],[0,1,2,3,4,5,6,7],[0,1,2,3,4,5,6,7,8,9]] (by kernel_rfl) fun K' hK=>?_
   simp only[go_sem,ug,dz,List.append_nil]
   repeat (refine⟨by first | exact ug | exact dz | exact ah,?_⟩)
   first | refine⟨by rfl,?_⟩ | skip
   refine hK _ ?_
   clear K' hK
   simp only[go_sem]
   refine kp [2,4,5,6,8] [[2,0],[4,0],[6,0],[103,0],[106,0]] ?_
   first | (have _:=hU;refine aE (ed [2,0] [103,0] 378 _ _ _ _ rfl (je _ _ _) rfl (by simp only[List.length_append,List.length_map,List.length_cons,List.length_nil]) [2,4,5,6,8] [[2,0],[4,0],[6,0]] ?_ rfl) ?_;(simp only[go_sem,dp]);(simp only[go_sem,dp])) | skip
   repeat refine sq ?_
   refine rx hΓ [2,4,5,6,109] [[2,0],[4,0],[6,0],[103,0],[106,0]] (fun K' hK=>by simp only[go_sem];(repeat (refine⟨ah,?_⟩));exact hK _ (by simp only[go_sem]) (by simp only[go_sem]<;>rfl)) ?_
   repeat refine sq ?_
   refine au rfl rfl (fun hb=>?_) (fun hb=>?_)
   ·repeat refine sq ?_
    refine rx hΓ [2,4] [[2,0],[4,0],[103,0],[106,0]] (fun K' hK=>by simp only[go_sem,Nat.zero_add,q0,q6,qk,fw,List.append_nil];(repeat (refine⟨ah,?_⟩));exact hK _ (by simp only[go_sem]) (by simp only[go_sem]<;>rfl)) ?_
    repeat refine sq ?_
    refine rx hΓ [4] [[4,0],[103,0],[106,0]] (fun K' hK=>by simp only[go_sem,List.append_nil];(repeat (refine⟨ah,?_⟩));exact hK _ (by simp only[go_sem]) (by simp only[go_sem]<;>rfl)) ?_
    refine an ?_
    simp only[go_sem]
    first | (cases hb;done) | (rw[e,if_pos (by simpa using hb)];done) | (rw[e,if_neg (by simpa using hb)];done) | (rw[e,if_pos (by simpa using hb)];rfl) | (rw[e,if_neg (by simpa using hb)];rfl) | (rw[e,if_pos ay];done) | (rw[e,if_neg ay];done) | (rw[e,if_pos ay];rfl) | (rw[e,if_neg ay];rfl) | (rw[e];done)
   ·repeat refine sq ?_
    refine av ?_
    repeat refine sq ?_
    refine rx hΓ [4] [[4,0],[103,0],[106,0]] (fun K' hK=>by simp only[go_sem,List.append_nil];(repeat (refine⟨ah,?_⟩));exact hK _ (by simp only[go_sem]) (by simp only[go_sem]<;>rfl)) ?_
    refine an ?_
    simp only[go_sem]
    first | (cases hb;done) | (rw[e,if_pos (by simpa using hb)];done) | (rw[e,if_neg (by simpa using hb)];done) | (rw[e,if_pos (by simpa using hb)];rfl) | (rw[e,if_neg (by simpa using hb)];rfl) | (rw[e,if_pos ay];done) | (rw[e,if_neg ay];done) | (rw[e,if_pos ay];rfl) | (rw[e,if_neg ay];rfl) | (rw[e];done)
  ·exact Bool.noConfusion (nr.symm.trans hb)
 ·repeat refine sq ?_
  have nr:=hb
  repeat refine sq ?_
  refine rx hΓ [2,3,4,5,6,7,8,24,50] [[2,0],[3,0],[4,0],[6,0],[103,0],[106,0]] (fun K' hK=>by simp only[go_sem];(repeat (refine⟨ah,?_⟩));exact hK _ (by simp only[go_sem]) (by simp only[go_sem]<;>rfl)) ?_
  repeat refine sq ?_
  refine au rfl rfl (fun hb=>?_) (fun hb=>?_)
  ·repeat refine sq ?_
   have nr:=hb
   refine av ?_
   repeat refine sq ?_
   refine au rfl rfl (fun hb=>?_) (fun hb=>?_)
   ·repeat refine sq ?_
    have e:=z' (x:=x) (y:=y) (by show y.kd % 16=0\/y.kd % 16=1\/y.kd % 16=2;have h5:=nr;simp only[beq_iff_eq]at h5;omega)
    rw[<-hk,<-hd,uy]at e
    repeat refine sq ?_
    refine km hΓ hP [[],[],[],[1,2],[],[0,1,2,3,4],[0,1,2,3,4,5],[0,1,2,3,4,5,6],[0,1,2,3,4,5,6],[0,1,2,3,4,5,6,7],[0,1,2,3,4,5,6,7,8,9]] (by kernel_rfl) fun K' hK=>?_
    simp only[go_sem,ug,dz,List.append_nil]
    repeat (refine⟨by first | exact ug | exact dz | exact ah,?_⟩)
    first | refine⟨by rfl,?_⟩ | skip
    refine hK _ ?_
    clear K' hK
    simp only[go_sem]
    refine kp [2,4,5,6,8] [[2,0],[4,0],[6,0],[103,0],[106,0]] ?_
    first | (have _:=hU;refine aE (ed [2,0] [103,0] 378 _ _ _ _ rfl (je _ _ _) rfl (by simp only[List.length_append,List.length_map,List.length_cons,List.length_nil]) [2,4,5,6,8] [[2,0],[4,0],[6,0]] ?_ rfl) ?_;(simp only[go_sem,dp]);(simp only[go_sem,dp])) | skip
    repeat refine sq ?_
    refine rx hΓ [2,4,5,6,109] [[2,0],[4,0],[6,0],[103,0],[106,0]] (fun K' hK=>by simp only[go_sem];(repeat (refine⟨ah,?_⟩));exact hK _ (by simp only[go_sem]) (by simp only[go_sem]<;>rfl)) ?_
    repeat refine sq ?_
    refine au rfl rfl (fun hb=>?_) (fun hb=>?_)
    ·repeat refine sq ?_
     refine rx hΓ [2,4] [[2,0],[4,0],[103,0],[106,0]] (fun K' hK=>by simp only[go_sem,Nat.zero_add,q0,q6,qk,fw,List.append_nil];(repeat (refine⟨ah,?_⟩));exact hK _ (by simp only[go_sem]) (by simp only[go_sem]<;>rfl)) ?_
     repeat refine sq ?_
     refine rx hΓ [4] [[4,0],[103,0],[106,0]] (fun K' hK=>by simp only[go_sem,List.append_nil];(repeat (refine⟨ah,?_⟩));exact hK _ (by simp only[go_sem]) (by simp only[go_sem]<;>rfl)) ?_
     refine an ?_
     simp only[go_sem]
     first | (cases hb;done) | (rw[e,if_pos (by simpa using hb)];done) | (rw[e,if_neg (by simpa using hb)];done) | (rw[e,if_pos (by simpa using hb)];rfl) | (rw[e,if_neg (by simpa using hb)];rfl) | (rw[e,if_pos ay];done) | (rw[e,if_neg ay];done) | (rw[e,if_pos ay];rfl) | (rw[e,if_neg ay];rfl) | (rw[e];done)
    ·repeat refine sq ?_
     refine av ?_
     repeat refine sq ?_
     refine rx hΓ [4] [[4,0],[103,0],[106,0]] (fun K' hK=>by simp only[go_sem,List.append_nil];(repeat (refine⟨ah,?_⟩));exact hK _ (by simp only[go_sem]) (by simp only[go_sem]<;>rfl)) ?_
     refine an ?_
     simp only[go_sem]
     first | (cases hb;done) | (rw[e,if_pos (by simpa using hb)];done) | (rw[e,if_neg (by simpa using hb)];done) | (rw[e,if_pos (by simpa using hb)];rfl) | (rw[e,if_neg (by simpa using hb)];rfl) | (rw[e,if_pos ay];done) | (rw[e,if_neg ay];done) | (rw[e,if_pos ay];rfl) | (rw[e,if_neg ay];rfl) | (rw[e];done)
   ·exact Bool.noConfusion (nr.symm.trans hb)
  ·repeat refine sq ?_
   have nr:=hb
   repeat refine sq ?_
   refine rx hΓ [2,3,4,5,6,7,8,24,50] [[2,0],[3,0],[4,0],[6,0],[103,0],[106,0]] (fun K' hK=>by simp only[go_sem];(repeat (refine⟨ah,?_⟩));exact hK _ (by simp only[go_sem]) (by simp only[go_sem]<;>rfl)) ?_
   repeat refine sq ?_
   refine au rfl rfl (fun hb=>?_) (fun hb=>?_)
   ·repeat refine sq ?_
    have nr:=hb
    have e:=z' (x:=x) (y:=y) (by show y.kd % 16=0\/y.kd % 16=1\/y.kd % 16=2;have h5:=nr;simp only[beq_iff_eq]at h5;omega)
    rw[<-hk,<-hd,uy]at e
    repeat refine sq ?_
    refine km hΓ hP [[],[],[],[1,2],[],[0,1,2,3,4],[0,1,2,3,4,5],[0,1,2,3,4,5,6],[0,1,2,3,4,5,6],[0,1,2,3,4,5,6,7],[0,1,2,3,4,5,6,7,8,9]] (by kernel_rfl) fun K' hK=>?_
    simp only[go_sem,ug,dz,List.append_nil]
    repeat (refine⟨by first | exact ug | exact dz | exact ah,?_⟩)
    first | refine⟨by rfl,?_⟩ | skip
    refine hK _ ?_
    clear K' hK
    simp only[go_sem]
    refine kp [2,4,5,6,8] [[2,0],[4,0],[6,0],[103,0],[106,0]] ?_
    first | (have _:=hU;refine aE (ed [2,0] [103,0] 378 _ _ _ _ rfl (je _ _ _) rfl (by simp only[List.length_append,List.length_map,List.length_cons,List.length_nil]) [2,4,5,6,8] [[2,0],[4,0],[6,0]] ?_ rfl) ?_;(simp only[go_sem,dp]);(simp only[go_sem,dp])) | skip
    repeat refine sq ?_
    refine rx hΓ [2,4,5,6,109] [[2,0],[4,0],[6,0],[103,0],[106,0]] (fun K' hK=>by simp only[go_sem];(repeat (refine⟨ah,?_⟩));exact hK _ (by simp only[go_sem]) (by simp only[go_sem]<;>rfl)) ?_
    repeat refine sq ?_
    refine au rfl rfl (fun hb=>?_) (fun hb=>?_)
    ·repeat refine sq ?_
     refine rx hΓ [2,4] [[2,0],[4,0],[103,0],[106,0]] (fun K' hK=>by simp only[go_sem,Nat.zero_add,q0,q6,qk,fw,List.append_nil];(repeat (refine⟨ah,?_⟩));exact hK _ (by simp only[go_sem]) (by simp only[go_sem]<;>rfl)) ?_
     repeat refine sq ?_
     refine rx hΓ [4] [[4,0],[103,0],[106,0]] (fun K' hK=>by simp only[go_sem,List.append_nil];(repeat (refine⟨ah,?_⟩));exact hK _ (by simp only[go_sem]) (by simp only[go_sem]<;>rfl)) ?_
     refine an ?_
     simp only[go_sem]
     first | (cases hb;done) | (rw[e,if_pos (by simpa using hb)];done) | (rw[e,if_neg (by simpa using hb)];done) | (rw[e,if_pos (by simpa using hb)];rfl) | (rw[e,if_neg (by simpa using hb)];rfl) | (rw[e,if_pos ay];done) | (rw[e,if_neg ay];done) | (rw[e,if_pos ay];rfl) | (rw[e,if_neg ay];rfl) | (rw[e];done)
    ·repeat refine sq ?_
     refine av ?_
     repeat refine sq ?_
     refine rx hΓ [4] [[4,0],[103,0],[106,0]] (fun K' hK=>by simp only[go_sem,List.append_nil];(repeat (refine⟨ah,?_⟩));exact hK _ (by simp only[go_sem]) (by simp only[go_sem]<;>rfl)) ?_
     refine an ?_
     simp only[go_sem]
     first | (cases hb;done) | (rw[e,if_pos (by simpa using hb)];done) | (rw[e,if_neg (by simpa using hb)];done) | (rw[e,if_pos (by simpa using hb)];rfl) | (rw[e,if_neg (by simpa using hb)];rfl) | (rw[e,if_pos ay];done) | (rw[e,if_neg ay];done) | (rw[e,if_pos ay];rfl) | (rw[e,if_neg ay];rfl) | (rw[e];done)
   ·repeat refine sq ?_
    have nr:=hb
    repeat refine sq ?_
    refine rx hΓ [2,3,4,5,6,7,8,24,63] [[2,0],[3,0],[4,0],[6,0],[103,0],[106,0]] (fun K' hK=>by simp only[go_sem];(repeat (refine⟨ah,?_⟩));exact hK _ (by simp only[go_sem]) (by simp only[go_sem]<;>rfl)) ?_
    repeat refine sq ?_
    refine au rfl rfl (fun hb=>?_) (fun hb=>?_)
    ·repeat refine sq ?_
     have ue:=hb
     refine av ?_
     repeat refine sq ?_
     refine au rfl rfl (fun hb=>?_) (fun hb=>?_)
     ·repeat refine sq ?_
      have e:=E5 (x:=x) (y:=y) (by show y.kd % 16=3\/y.kd % 16=4;have h5:=ue;simp only[beq_iff_eq]at h5;omega)
      rw[<-hk,<-hd]at e
      repeat refine sq ?_
      refine aL hΓ fun K' hK=>?_
      simp only[go_sem,dz,List.append_nil]
      repeat (refine⟨by first | exact dz | exact ah,?_⟩)
      refine hK _ ?_
      clear K' hK
      simp only[go_sem]
      refine kp [2,4,5,6,8] [[2,0],[4,0],[6,0],[103,0],[106,0]] ?_
      first | (have _:=hU;refine aE (ed [2,0] [103,0] 378 _ _ _ _ rfl (je _ _ _) rfl (by simp only[List.length_append,List.length_map,List.length_cons,List.length_nil]) [2,4,5,6,8] [[2,0],[4,0],[6,0]] ?_ rfl) ?_;(simp only[go_sem,dp]);(simp only[go_sem,dp])) | skip
      repeat refine sq ?_
      refine rx hΓ [2,4,5,6,109] [[2,0],[4,0],[6,0],[103,0],[106,0]] (fun K' hK=>by simp only[go_sem];(repeat (refine⟨ah,?_⟩));exact hK _ (by simp only[go_sem]) (by simp only[go_sem]<;>rfl)) ?_
      repeat refine sq ?_
      refine au rfl rfl (fun hb=>?_) (fun hb=>?_)
      ·repeat refine sq ?_
       refine rx hΓ [2,4] [[2,0],[4,0],[103,0],[106,0]] (fun K' hK=>by simp only[go_sem,Nat.zero_add,q0,q6,qk,fw,List.append_nil];(repeat (refine⟨ah,?_⟩));exact hK _ (by simp only[go_sem]) (by simp only[go_sem]<;>rfl)) ?_
       repeat refine sq ?_
       refine rx hΓ [4] [[4,0],[103,0],[106,0]] (fun K' hK=>by simp only[go_sem,List.append_nil];(repeat (refine⟨ah,?_⟩));exact hK _ (by simp only[go_sem]) (by simp only[go_sem]<;>rfl)) ?_
       refine an ?_
       simp only[go_sem]
       first | (cases hb;done) | (rw[e,if_pos (by simpa using hb)];done) | (rw[e,if_neg (by simpa using hb)];done) | (rw[e,if_pos (by simpa using hb)];rfl) | (rw[e,if_neg (by simpa using hb)];rfl) | (rw[e,if_pos ay];done) | (rw[e,if_neg ay];done) | (rw[e,if_pos ay];rfl) | (rw[e,if_neg ay];rfl) | (rw[e];done)
      ·repeat refine sq ?_
       refine av ?_
       repeat refine sq ?_
       refine rx hΓ [4] [[4,0],[103,0],[106,0]] (fun K' hK=>by simp only[go_sem,List.append_nil];(repeat (refine⟨ah,?_⟩));exact hK _ (by simp only[go_sem]) (by simp only[go_sem]<;>rfl)) ?_
       refine an ?_
       simp only[go_sem]
       first | (cases hb;done) | (rw[e,if_pos (by simpa using hb)];done) | (rw[e,if_neg (by simpa using hb)];done) | (rw[e,if_pos (by simpa using hb)];rfl) | (rw[e,if_neg (by simpa using hb)];rfl) | (rw[e,if_pos ay];done) | (rw[e,if_neg ay];done) | (rw[e,if_pos ay];rfl) | (rw[e,if_neg ay];rfl) | (rw[e];done)
     ·exact Bool.noConfusion (ue.symm.trans hb)
    ·repeat refine sq ?_
     have ue:=hb
     repeat refine sq ?_
     refine rx hΓ [2,3,4,5,6,7,8,24,63] [[2,0],[3,0],[4,0],[6,0],[103,0],[106,0]] (fun K' hK=>by simp only[go_sem];(repeat (refine⟨ah,?_⟩));exact hK _ (by simp only[go_sem]) (by simp only[go_sem]<;>rfl)) ?_
     repeat refine sq ?_
     refine au rfl rfl (fun hb=>?_) (fun hb=>?_)
     ·repeat refine sq ?_
      have ue:=hb
      have e:=E5 (x:=x) (y:=y) (by show y.kd % 16=3\/y.kd % 16=4;have h5:=ue;simp only[beq_iff_eq]at h5;omega)
      rw[<-hk,<-hd]at e
      repeat refine sq ?_
      refine aL hΓ fun K' hK=>?_
      simp only[go_sem,dz,List.append_nil]
      repeat (refine⟨by first | exact dz | exact ah,?_⟩)
      refine hK _ ?_
      clear K' hK
      simp only[go_sem]
      refine kp [2,4,5,6,8] [[2,0],[4,0],[6,0],[103,0],[106,0]] ?_
      first | (have _:=hU;refine aE (ed [2,0] [103,0] 378 _ _ _ _ rfl (je _ _ _) rfl (by simp only[List.length_append,List.length_map,List.length_cons,List.length_nil]) [2,4,5,6,8] [[2,0],[4,0],[6,0]] ?_ rfl) ?_;(simp only[go_sem,dp]);(simp only[go_sem,dp])) | skip
      repeat refine sq ?_
      refine rx hΓ [2,4,5,6,109] [[2,0],[4,0],[6,0],[103,0],[106,0]] (fun K' hK=>by simp only[go_sem];(repeat (refine⟨ah,?_⟩));exact hK _ (by simp only[go_sem]) (by simp only[go_sem]<;>rfl)) ?_
      repeat refine sq ?_
      refine au rfl rfl (fun hb=>?_) (fun hb=>?_)
      ·repeat refine sq ?_
       refine rx hΓ [2,4] [[2,0],[4,0],[103,0],[106,0]] (fun K' hK=>by simp only[go_sem,Nat.zero_add,q0,q6,qk,fw,List.append_nil];(repeat (refine⟨ah,?_⟩));exact hK _ (by simp only[go_sem]) (by simp only[go_sem]<;>rfl)) ?_
       repeat refine sq ?_
       refine rx hΓ [4] [[4,0],[103,0],[106,0]] (fun K' hK=>by simp only[go_sem,List.append_nil];(repeat (refine⟨ah,?_⟩));exact hK _ (by simp only[go_sem]) (by simp only[go_sem]<;>rfl)) ?_
       refine an ?_
       simp only[go_sem]
       first | (cases hb;done) | (rw[e,if_pos (by simpa using hb)];done) | (rw[e,if_neg (by simpa using hb)];done) | (rw[e,if_pos (by simpa using hb)];rfl) | (rw[e,if_neg (by simpa using hb)];rfl) | (rw[e,if_pos ay];done) | (rw[e,if_neg ay];done) | (rw[e,if_pos ay];rfl) | (rw[e,if_neg ay];rfl) | (rw[e];done)
      ·repeat refine sq ?_
       refine av ?_
       repeat refine sq ?_
       refine rx hΓ [4] [[4,0],[103,0],[106,0]] (fun K' hK=>by simp only[go_sem,List.append_nil];(repeat (refine⟨ah,?_⟩));exact hK _ (by simp only[go_sem]) (by simp only[go_sem]<;>rfl)) ?_
       refine an ?_
       simp only[go_sem]
       first | (cases hb;done) | (rw[e,if_pos (by simpa using hb)];done) | (rw[e,if_neg (by simpa using hb)];done) | (rw[e,if_pos (by simpa using hb)];rfl) | (rw[e,if_neg (by simpa using hb)];rfl) | (rw[e,if_pos ay];done) | (rw[e,if_neg ay];done) | (rw[e,if_pos ay];rfl) | (rw[e,if_neg ay];rfl) | (rw[e];done)
     ·repeat refine sq ?_
      have ue:=hb
      repeat refine sq ?_
      refine rx hΓ [2,3,4,5,6,7,8,24,71] [[2,0],[3,0],[4,0],[6,0],[103,0],[106,0]] (fun K' hK=>by simp only[go_sem];(repeat (refine⟨ah,?_⟩));exact hK _ (by simp only[go_sem]) (by simp only[go_sem]<;>rfl)) ?_
      repeat refine sq ?_
      refine au rfl rfl (fun hb=>?_) (fun hb=>?_)
      ·repeat refine sq ?_
       have ub:=hb
       refine av ?_
       repeat refine sq ?_
       refine au rfl rfl (fun hb=>?_) (fun hb=>?_)
       ·repeat refine sq ?_
        have e:=E6 (x:=x) (y:=y) (by show y.kd % 16=5\/y.kd % 16=6;have h5:=ub;simp only[beq_iff_eq]at h5;omega)
        rw[<-hk,<-hd]at e
        repeat refine sq ?_
        refine aL hΓ fun K' hK=>?_
        simp only[go_sem,dz,List.append_nil]
        repeat (refine⟨by first | exact dz | exact ah,?_⟩)
        refine hK _ ?_
        clear K' hK
        simp only[go_sem]
        refine kp [2,4,5,6,8] [[2,0],[4,0],[6,0],[103,0],[106,0]] ?_
        first | (have _:=hU;refine aE (ed [2,0] [103,0] 378 _ _ _ _ rfl (je _ _ _) rfl (by simp only[List.length_append,List.length_map,List.length_cons,List.length_nil]) [2,4,5,6,8] [[2,0],[4,0],[6,0]] ?_ rfl) ?_;(simp only[go_sem,dp]);(simp only[go_sem,dp])) | skip
        repeat refine sq ?_
        refine rx hΓ [2,4,5,6,109] [[2,0],[4,0],[6,0],[103,0],[106,0]] (fun K' hK=>by simp only[go_sem];(repeat (refine⟨ah,?_⟩));exact hK _ (by simp only[go_sem]) (by simp only[go_sem]<;>rfl)) ?_
        repeat refine sq ?_
        refine au rfl rfl (fun hb=>?_) (fun hb=>?_)
        ·repeat refine sq ?_
         refine rx hΓ [2,4] [[2,0],[4,0],[103,0],[106,0]] (fun K' hK=>by simp only[go_sem,Nat.zero_add,q0,q6,qk,fw,List.append_nil];(repeat (refine⟨ah,?_⟩));exact hK _ (by simp only[go_sem]) (by simp only[go_sem]<;>rfl)) ?_
         repeat refine sq ?_
         refine rx hΓ [4] [[4,0],[103,0],[106,0]] (fun K' hK=>by simp only[go_sem,List.append_nil];(repeat (refine⟨ah,?_⟩));exact hK _ (by simp only[go_sem]) (by simp only[go_sem]<;>rfl)) ?_
         refine an ?_
         simp only[go_sem]
         first | (cases hb;done) | (rw[e,if_pos (by simpa using hb)];done) | (rw[e,if_neg (by simpa using hb)];done) | (rw[e,if_pos (by simpa using hb)];rfl) | (rw[e,if_neg (by simpa using hb)];rfl) | (rw[e,if_pos ay];done) | (rw[e,if_neg ay];done) | (rw[e,if_pos ay];rfl) | (rw[e,if_neg ay];rfl) | (rw[e];done)
        ·repeat refine sq ?_
         refine av ?_
         repeat refine sq ?_
         refine rx hΓ [4] [[4,0],[103,0],[106,0]] (fun K' hK=>by simp only[go_sem,List.append_nil];(repeat (refine⟨ah,?_⟩));exact hK _ (by simp only[go_sem]) (by simp only[go_sem]<;>rfl)) ?_
         refine an ?_
         simp only[go_sem]
         first | (cases hb;done) | (rw[e,if_pos (by simpa using hb)];done) | (rw[e,if_neg (by simpa using hb)];done) | (rw[e,if_pos (by simpa using hb)];rfl) | (rw[e,if_neg (by simpa using hb)];rfl) | (rw[e,if_pos ay];done) | (rw[e,if_neg ay];done) | (rw[e,if_pos ay];rfl) | (rw[e,if_neg ay];rfl) | (rw[e];done)
       ·exact Bool.noConfusion (ub.symm.trans hb)
      ·repeat refine sq ?_
       have ub:=hb
       repeat refine sq ?_
       refine rx hΓ [2,3,4,5,6,7,8,24,71] [[2,0],[3,0],[4,0],[6,0],[103,0],[106,0]] (fun K' hK=>by simp only[go_sem];(repeat (refine⟨ah,?_⟩));exact hK _ (by simp only[go_sem]) (by simp only[go_sem]<;>rfl)) ?_
       repeat refine sq ?_
       refine au rfl rfl (fun hb=>?_) (fun hb=>?_)
       ·repeat refine sq ?_
        have ub:=hb
        have e:=E6 (x:=x) (y:=y) (by show y.kd % 16=5\/y.kd % 16=6;have h5:=ub;simp only[beq_iff_eq]at h5;omega)
        rw[<-hk,<-hd]at e
        repeat refine sq ?_
        refine aL hΓ fun K' hK=>?_
        simp only[go_sem,dz,List.append_nil]
        repeat (refine⟨by first | exact dz | exact ah,?_⟩)
        refine hK _ ?_
        clear K' hK
        simp only[go_sem]
        refine kp [2,4,5,6,8] [[2,0],[4,0],[6,0],[103,0],[106,0]] ?_
        first | (have _:=hU;refine aE (ed [2,0] [103,0] 378 _ _ _ _ rfl (je _ _ _) rfl (by simp only[List.length_append,List.length_map,List.length_cons,List.length_nil]) [2,4,5,6,8] [[2,0],[4,0],[6,0]] ?_ rfl) ?_;(simp only[go_sem,dp]);(simp only[go_sem,dp])) | skip
        repeat refine sq ?_
        refine rx hΓ [2,4,5,6,109] [[2,0],[4,0],[6,0],[103,0],[106,0]] (fun K' hK=>by simp only[go_sem];(repeat (refine⟨ah,?_⟩));exact hK _ (by simp only[go_sem]) (by simp only[go_sem]<;>rfl)) ?_
        repeat refine sq ?_
        refine au rfl rfl (fun hb=>?_) (fun hb=>?_)
        ·repeat refine sq ?_
         refine rx hΓ [2,4] [[2,0],[4,0],[103,0],[106,0]] (fun K' hK=>by simp only[go_sem,Nat.zero_add,q0,q6,qk,fw,List.append_nil];(repeat (refine⟨ah,?_⟩));exact hK _ (by simp only[go_sem]) (by simp only[go_sem]<;>rfl)) ?_
         repeat refine sq ?_
         refine rx hΓ [4] [[4,0],[103,0],[106,0]] (fun K' hK=>by simp only[go_sem,List.append_nil];(repeat (refine⟨ah,?_⟩));exact hK _ (by simp only[go_sem]) (by simp only[go_sem]<;>rfl)) ?_
         refine an ?_
         simp only[go_sem]
         first | (cases hb;done) | (rw[e,if_pos (by simpa using hb)];done) | (rw[e,if_neg (by simpa using hb)];done) | (rw[e,if_pos (by simpa using hb)];rfl) | (rw[e,if_neg (by simpa using hb)];rfl) | (rw[e,if_pos ay];done) | (rw[e,if_neg ay];done) | (rw[e,if_pos ay];rfl) | (rw[e,if_neg ay];rfl) | (rw[e];done)
        ·repeat refine sq ?_
         refine av ?_
         repeat refine sq ?_
         refine rx hΓ [4] [[4,0],[103,0],[106,0]] (fun K' hK=>by simp only[go_sem,List.append_nil];(repeat (refine⟨ah,?_⟩));exact hK _ (by simp only[go_sem]) (by simp only[go_sem]<;>rfl)) ?_
         refine an ?_
         simp only[go_sem]
         first | (cases hb;done) | (rw[e,if_pos (by simpa using hb)];done) | (rw[e,if_neg (by simpa using hb)];done) | (rw[e,if_pos (by simpa using hb)];rfl) | (rw[e,if_neg (by simpa using hb)];rfl) | (rw[e,if_pos ay];done) | (rw[e,if_neg ay];done) | (rw[e,if_pos ay];rfl) | (rw[e,if_neg ay];rfl) | (rw[e];done)
       ·repeat refine sq ?_
        have ub:=hb
        repeat refine sq ?_
        refine rx hΓ [2,3,4,5,6,7,8,24,79] [[2,0],[3,0],[4,0],[6,0],[103,0],[106,0]] (fun K' hK=>by simp only[go_sem];(repeat (refine⟨ah,?_⟩));exact hK _ (by simp only[go_sem]) (by simp only[go_sem]<;>rfl)) ?_
        repeat refine sq ?_
        refine au rfl rfl (fun hb=>?_) (fun hb=>?_)
        ·repeat refine sq ?_
         have e:=MS (x:=x) (y:=y) (by show y.kd % 16=7;have h5:=hb;simp only[beq_iff_eq]at h5;omega)
         rw[<-hk,<-hd]at e
         repeat refine sq ?_
         refine aL hΓ fun K' hK=>?_
         simp only[go_sem,dz,List.append_nil]
         repeat (refine⟨by first | exact dz | exact ah,?_⟩)
         refine hK _ ?_
         clear K' hK
         simp only[go_sem]
         refine kp [2,4,5,6,8] [[2,0],[4,0],[6,0],[103,0],[106,0]] ?_
         first | (have _:=hU;refine aE (ed [2,0] [103,0] 378 _ _ _ _ rfl (je _ _ _) rfl (by simp only[List.length_append,List.length_map,List.length_cons,List.length_nil]) [2,4,5,6,8] [[2,0],[4,0],[6,0]] ?_ rfl) ?_;(simp only[go_sem,dp]);(simp only[go_sem,dp])) | skip
         repeat refine sq ?_
         refine rx hΓ [2,4,5,6,109] [[2,0],[4,0],[6,0],[103,0],[106,0]] (fun K' hK=>by simp only[go_sem];(repeat (refine⟨ah,?_⟩));exact hK _ (by simp only[go_sem]) (by simp only[go_sem]<;>rfl)) ?_
         repeat refine sq ?_
         refine au rfl rfl (fun hb=>?_) (fun hb=>?_)
         ·repeat refine sq ?_
          refine rx hΓ [2,4] [[2,0],[4,0],[103,0],[106,0]] (fun K' hK=>by simp only[go_sem,Nat.zero_add,q0,q6,qk,fw,List.append_nil];(repeat (refine⟨ah,?_⟩));exact hK _ (by simp only[go_sem]) (by simp only[go_sem]<;>rfl)) ?_
          repeat refine sq ?_
          refine rx hΓ [4] [[4,0],[103,0],[106,0]] (fun K' hK=>by simp only[go_sem,List.append_nil];(repeat (refine⟨ah,?_⟩));exact hK _ (by simp only[go_sem]) (by simp only[go_sem]<;>rfl)) ?_
          refine an ?_
          simp only[go_sem]
          first | (cases hb;done) | (rw[e,if_pos (by simpa using hb)];done) | (rw[e,if_neg (by simpa using hb)];done) | (rw[e,if_pos (by simpa using hb)];rfl) | (rw[e,if_neg (by simpa using hb)];rfl) | (rw[e,if_pos ay];done) | (rw[e,if_neg ay];done) | (rw[e,if_pos ay];rfl) | (rw[e,if_neg ay];rfl) | (rw[e];done)
         ·repeat refine sq ?_
          refine av ?_
          repeat refine sq ?_
          refine rx hΓ [4] [[4,0],[103,0],[106,0]] (fun K' hK=>by simp only[go_sem,List.append_nil];(repeat (refine⟨ah,?_⟩));exact hK _ (by simp only[go_sem]) (by simp only[go_sem]<;>rfl)) ?_
          refine an ?_
          simp only[go_sem]
          first | (cases hb;done) | (rw[e,if_pos (by simpa using hb)];done) | (rw[e,if_neg (by simpa using hb)];done) | (rw[e,if_pos (by simpa using hb)];rfl) | (rw[e,if_neg (by simpa using hb)];rfl) | (rw[e,if_pos ay];done) | (rw[e,if_neg ay];done) | (rw[e,if_pos ay];rfl) | (rw[e,if_neg ay];rfl) | (rw[e];done)
        ·repeat refine sq ?_
         refine rx hΓ [2,3,4,5,6,7,8,24,88] [[2,0],[3,0],[4,0],[6,0],[103,0],[106,0]] (fun K' hK=>by simp only[go_sem];(repeat (refine⟨ah,?_⟩));exact hK _ (by simp only[go_sem]) (by simp only[go_sem]<;>rfl)) ?_
         repeat refine sq ?_
         refine au rfl rfl (fun hb=>?_) (fun hb=>?_)
         ·repeat refine sq ?_
          have nq:=hb
          refine av ?_
          repeat refine sq ?_
          refine au rfl rfl (fun hb=>?_) (fun hb=>?_)
          ·repeat refine sq ?_
           have e:=Aa (x:=x) (y:=y) (by show y.kd % 16=8\/y.kd % 16=9\/y.kd % 16=10;have h5:=nq;simp only[beq_iff_eq]at h5;omega)
           rw[<-hk,<-hd,uy]at e
           repeat refine sq ?_
           refine rx hΓ [2,4,5,6,8,9,10] [[2,0],[4,0],[6,0],[9,0],[103,0],[106,0]] (fun K' hK=>by simp only[go_sem,List.append_nil];(repeat (refine⟨ah,?_⟩));exact hK _ (by simp only[go_sem]) (by simp only[go_sem]<;>rfl)) ?_
           refine aE (bz [9,0] (aP (nZ d (y.to % 6))) rfl [2,4,5,6,8,9,10] [[2,0],[4,0],[6,0],[9,0],[103,0],[106,0]] ?_ rfl) ?_
           ·simp only[go_sem]
           simp only[go_sem]
           repeat refine sq ?_
           refine rx hΓ [2,4,5,6,8,9,99] [[2,0],[4,0],[6,0],[9,0],[103,0],[106,0]] (fun K' hK=>by simp only[go_sem];(repeat (refine⟨ah,?_⟩));exact hK _ (by simp only[go_sem]) (by simp only[go_sem]<;>rfl)) ?_
           repeat refine sq ?_
           refine au rfl rfl (fun hb=>?_) (fun hb=>?_)
           ·repeat refine sq ?_
            have ay:ie d (y.to % 6)=0:=by simpa using hb
            have hU:=ay
            repeat refine sq ?_
            refine km hΓ hP [[],[],[1],[0,1,2],[],[4],[0,1,2,3,4,5],[0,1,2,3,4,5,6],[0,1,2,3,4,5,6,7]] (by kernel_rfl) fun K' hK=>?_
            simp only[go_sem,qA,qz,FH,List.append_nil]
            repeat (refine⟨by first | exact⟨B7 _,rfl,by omega,by unfold maxLen;omega⟩ | exact ah,?_⟩)
            first | refine⟨by rfl,?_⟩ | skip
            refine hK _ ?_
            clear K' hK
            simp only[go_sem]
            refine kp [2,4,5,6,8] [[2,0],[4,0],[6,0],[103,0],[106,0]] ?_
            first | (have _:=hU;refine aE (ed [2,0] [103,0] 378 _ _ _ _ rfl (je _ _ _) rfl (by simp only[List.length_append,List.length_map,List.length_cons,List.length_nil]) [2,4,5,6,8] [[2,0],[4,0],[6,0]] ?_ rfl) ?_;(simp only[go_sem,dp]);(simp only[go_sem,dp])) | skip
            repeat refine sq ?_
            refine rx hΓ [2,4,5,6,109] [[2,0],[4,0],[6,0],[103,0],[106,0]] (fun K' hK=>by simp only[go_sem];(repeat (refine⟨ah,?_⟩));exact hK _ (by simp only[go_sem]) (by simp only[go_sem]<;>rfl)) ?_
            repeat refine sq ?_
            refine au rfl rfl (fun hb=>?_) (fun hb=>?_)
            ·repeat refine sq ?_
             refine rx hΓ [2,4] [[2,0],[4,0],[103,0],[106,0]] (fun K' hK=>by simp only[go_sem,Nat.zero_add,q0,q6,qk,fw,List.append_nil];(repeat (refine⟨ah,?_⟩));exact hK _ (by simp only[go_sem]) (by simp only[go_sem]<;>rfl)) ?_
             repeat refine sq ?_
             refine rx hΓ [4] [[4,0],[103,0],[106,0]] (fun K' hK=>by simp only[go_sem,List.append_nil];(repeat (refine⟨ah,?_⟩));exact hK _ (by simp only[go_sem]) (by simp only[go_sem]<;>rfl)) ?_
             refine an ?_
             simp only[go_sem]
             first | (cases hb;done) | (rw[e,if_pos (by simpa using hb)];done) | (rw[e,if_neg (by simpa using hb)];done) | (rw[e,if_pos (by simpa using hb)];rfl) | (rw[e,if_neg (by simpa using hb)];rfl) | (rw[e,if_pos ay];done) | (rw[e,if_neg ay];done) | (rw[e,if_pos ay];rfl) | (rw[e,if_neg ay];rfl) | (rw[e];done)
            ·repeat refine sq ?_
             refine av ?_
             repeat refine sq ?_
             refine rx hΓ [4] [[4,0],[103,0],[106,0]] (fun K' hK=>by simp only[go_sem,List.append_nil];(repeat (refine⟨ah,?_⟩));exact hK _ (by simp only[go_sem]) (by simp only[go_sem]<;>rfl)) ?_
             refine an ?_
             simp only[go_sem]
             first | (cases hb;done) | (rw[e,if_pos (by simpa using hb)];done) | (rw[e,if_neg (by simpa using hb)];done) | (rw[e,if_pos (by simpa using hb)];rfl) | (rw[e,if_neg (by simpa using hb)];rfl) | (rw[e,if_pos ay];done) | (rw[e,if_neg ay];done) | (rw[e,if_pos ay];rfl) | (rw[e,if_neg ay];rfl) | (rw[e];done)
           ·repeat refine sq ?_
            have ay:¬ ie d (y.to % 6)=0:=by simpa using hb
            refine av ?_
            refine ct ?_
            simp only[go_sem]
            refine kp [2,4,5,6,8] [[2,0],[4,0],[6,0],[103,0],[106,0]] ?_
            first | (have _:=hU;refine aE (ed [2,0] [103,0] 378 _ _ _ _ rfl (je _ _ _) rfl (by simp only[List.length_append,List.length_map,List.length_cons,List.length_nil]) [2,4,5,6,8] [[2,0],[4,0],[6,0]] ?_ rfl) ?_;(simp only[go_sem,dp]);(simp only[go_sem,dp])) | skip
            repeat refine sq ?_
            refine rx hΓ [2,4,5,6,109] [[2,0],[4,0],[6,0],[103,0],[106,0]] (fun K' hK=>by simp only[go_sem];(repeat (refine⟨ah,?_⟩));exact hK _ (by simp only[go_sem]) (by simp only[go_sem]<;>rfl)) ?_
            repeat refine sq ?_
            refine au rfl rfl (fun hb=>?_) (fun hb=>?_)
            ·repeat refine sq ?_
             refine rx hΓ [2,4] [[2,0],[4,0],[103,0],[106,0]] (fun K' hK=>by simp only[go_sem,Nat.zero_add,q0,q6,qk,fw,List.append_nil];(repeat (refine⟨ah,?_⟩));exact hK _ (by simp only[go_sem]) (by simp only[go_sem]<;>rfl)) ?_
             repeat refine sq ?_
             refine rx hΓ [4] [[4,0],[103,0],[106,0]] (fun K' hK=>by simp only[go_sem,List.append_nil];(repeat (refine⟨ah,?_⟩));exact hK _ (by simp only[go_sem]) (by simp only[go_sem]<;>rfl)) ?_
             refine an ?_
             simp only[go_sem]
             first | (cases hb;done) | (rw[e,if_pos (by simpa using hb)];done) | (rw[e,if_neg (by simpa using hb)];done) | (rw[e,if_pos (by simpa using hb)];rfl) | (rw[e,if_neg (by simpa using hb)];rfl) | (rw[e,if_pos ay];done) | (rw[e,if_neg ay];done) | (rw[e,if_pos ay];rfl) | (rw[e,if_neg ay];rfl) | (rw[e];done)
            ·repeat refine sq ?_
             refine av ?_
             repeat refine sq ?_
             refine rx hΓ [4] [[4,0],[103,0],[106,0]] (fun K' hK=>by simp only[go_sem,List.append_nil];(repeat (refine⟨ah,?_⟩));exact hK _ (by simp only[go_sem]) (by simp only[go_sem]<;>rfl)) ?_
             refine an ?_
             simp only[go_sem]
             first | (cases hb;done) | (rw[e,if_pos (by simpa using hb)];done) | (rw[e,if_neg (by simpa using hb)];done) | (rw[e,if_pos (by simpa using hb)];rfl) | (rw[e,if_neg (by simpa using hb)];rfl) | (rw[e,if_pos ay];done) | (rw[e,if_neg ay];done) | (rw[e,if_pos ay];rfl) | (rw[e,if_neg ay];rfl) | (rw[e];done)
          ·exact Bool.noConfusion (nq.symm.trans hb)
         ·repeat refine sq ?_
          have nq:=hb
          repeat refine sq ?_
          refine rx hΓ [2,3,4,5,6,7,8,24,88] [[2,0],[3,0],[4,0],[6,0],[103,0],[106,0]] (fun K' hK=>by simp only[go_sem];(repeat (refine⟨ah,?_⟩));exact hK _ (by simp only[go_sem]) (by simp only[go_sem]<;>rfl)) ?_
          repeat refine sq ?_
          refine au rfl rfl (fun hb=>?_) (fun hb=>?_)
          ·repeat refine sq ?_
           have nq:=hb
           refine av ?_
           repeat refine sq ?_
           refine au rfl rfl (fun hb=>?_) (fun hb=>?_)
           ·repeat refine sq ?_
            have e:=Aa (x:=x) (y:=y) (by show y.kd % 16=8\/y.kd % 16=9\/y.kd % 16=10;have h5:=nq;simp only[beq_iff_eq]at h5;omega)
            rw[<-hk,<-hd,uy]at e
            repeat refine sq ?_
            refine rx hΓ [2,4,5,6,8,9,10] [[2,0],[4,0],[6,0],[9,0],[103,0],[106,0]] (fun K' hK=>by simp only[go_sem,List.append_nil];(repeat (refine⟨ah,?_⟩));exact hK _ (by simp only[go_sem]) (by simp only[go_sem]<;>rfl)) ?_
            refine aE (bz [9,0] (aP (nZ d (y.to % 6))) rfl [2,4,5,6,8,9,10] [[2,0],[4,0],[6,0],[9,0],[103,0],[106,0]] ?_ rfl) ?_
            ·simp only[go_sem]
            simp only[go_sem]
            repeat refine sq ?_
            refine rx hΓ [2,4,5,6,8,9,99] [[2,0],[4,0],[6,0],[9,0],[103,0],[106,0]] (fun K' hK=>by simp only[go_sem];(repeat (refine⟨ah,?_⟩));exact hK _ (by simp only[go_sem]) (by simp only[go_sem]<;>rfl)) ?_
            repeat refine sq ?_
            refine au rfl rfl (fun hb=>?_) (fun hb=>?_)
            ·repeat refine sq ?_
             have ay:ie d (y.to % 6)=0:=by simpa using hb
             have hU:=ay
             repeat refine sq ?_
             refine km hΓ hP [[],[],[1],[0,1,2],[],[4],[0,1,2,3,4,5],[0,1,2,3,4,5,6],[0,1,2,3,4,5,6,7]] (by kernel_rfl) fun K' hK=>?_
             simp only[go_sem,qA,qz,FH,List.append_nil]
             repeat (refine⟨by first | exact⟨B7 _,rfl,by omega,by unfold maxLen;omega⟩ | exact ah,?_⟩)
             first | refine⟨by rfl,?_⟩ | skip
             refine hK _ ?_
             clear K' hK
             simp only[go_sem]
             refine kp [2,4,5,6,8] [[2,0],[4,0],[6,0],[103,0],[106,0]] ?_
             first | (have _:=hU;refine aE (ed [2,0] [103,0] 378 _ _ _ _ rfl (je _ _ _) rfl (by simp only[List.length_append,List.length_map,List.length_cons,List.length_nil]) [2,4,5,6,8] [[2,0],[4,0],[6,0]] ?_ rfl) ?_;(simp only[go_sem,dp]);(simp only[go_sem,dp])) | skip
             repeat refine sq ?_
             refine rx hΓ [2,4,5,6,109] [[2,0],[4,0],[6,0],[103,0],[106,0]] (fun K' hK=>by simp only[go_sem];(repeat (refine⟨ah,?_⟩));exact hK _ (by simp only[go_sem]) (by simp only[go_sem]<;>rfl)) ?_
             repeat refine sq ?_
             refine au rfl rfl (fun hb=>?_) (fun hb=>?_)
             ·repeat refine sq ?_
              refine rx hΓ [2,4] [[2,0],[4,0],[103,0],[106,0]] (fun K' hK=>by simp only[go_sem,Nat.zero_add,q0,q6,qk,fw,List.append_nil];(repeat (refine⟨ah,?_⟩));exact hK _ (by simp only[go_sem]) (by simp only[go_sem]<;>rfl)) ?_
              repeat refine sq ?_
              refine rx hΓ [4] [[4,0],[103,0],[106,0]] (fun K' hK=>by simp only[go_sem,List.append_nil];(repeat (refine⟨ah,?_⟩));exact hK _ (by simp only[go_sem]) (by simp only[go_sem]<;>rfl)) ?_
              refine an ?_
              simp only[go_sem]
              first | (cases hb;done) | (rw[e,if_pos (by simpa using hb)];done) | (rw[e,if_neg (by simpa using hb)];done) | (rw[e,if_pos (by simpa using hb)];rfl) | (rw[e,if_neg (by simpa using hb)];rfl) | (rw[e,if_pos ay];done) | (rw[e,if_neg ay];done) | (rw[e,if_pos ay];rfl) | (rw[e,if_neg ay];rfl) | (rw[e];done)
             ·repeat refine sq ?_
              refine av ?_
              repeat refine sq ?_
              refine rx hΓ [4] [[4,0],[103,0],[106,0]] (fun K' hK=>by simp only[go_sem,List.append_nil];(repeat (refine⟨ah,?_⟩));exact hK _ (by simp only[go_sem]) (by simp only[go_sem]<;>rfl)) ?_
              refine an ?_
              simp only[go_sem]
              first | (cases hb;done) | (rw[e,if_pos (by simpa using hb)];done) | (rw[e,if_neg (by simpa using hb)];done) | (rw[e,if_pos (by simpa using hb)];rfl) | (rw[e,if_neg (by simpa using hb)];rfl) | (rw[e,if_pos ay];done) | (rw[e,if_neg ay];done) | (rw[e,if_pos ay];rfl) | (rw[e,if_neg ay];rfl) | (rw[e];done)
            ·repeat refine sq ?_
             have ay:¬ ie d (y.to % 6)=0:=by simpa using hb
             refine av ?_
             refine ct ?_
             simp only[go_sem]
             refine kp [2,4,5,6,8] [[2,0],[4,0],[6,0],[103,0],[106,0]] ?_
             first | (have _:=hU;refine aE (ed [2,0] [103,0] 378 _ _ _ _ rfl (je _ _ _) rfl (by simp only[List.length_append,List.length_map,List.length_cons,List.length_nil]) [2,4,5,6,8] [[2,0],[4,0],[6,0]] ?_ rfl) ?_;(simp only[go_sem,dp]);(simp only[go_sem,dp])) | skip
             repeat refine sq ?_
             refine rx hΓ [2,4,5,6,109] [[2,0],[4,0],[6,0],[103,0],[106,0]] (fun K' hK=>by simp only[go_sem];(repeat (refine⟨ah,?_⟩));exact hK _ (by simp only[go_sem]) (by simp only[go_sem]<;>rfl)) ?_
             repeat refine sq ?_
             refine au rfl rfl (fun hb=>?_) (fun hb=>?_)
             ·repeat refine sq ?_
              refine rx hΓ [2,4] [[2,0],[4,0],[103,0],[106,0]] (fun K' hK=>by simp only[go_sem,Nat.zero_add,q0,q6,qk,fw,List.append_nil];(repeat (refine⟨ah,?_⟩));exact hK _ (by simp only[go_sem]) (by simp only[go_sem]<;>rfl)) ?_
              repeat refine sq ?_
              refine rx hΓ [4] [[4,0],[103,0],[106,0]] (fun K' hK=>by simp only[go_sem,List.append_nil];(repeat (refine⟨ah,?_⟩));exact hK _ (by simp only[go_sem]) (by simp only[go_sem]<;>rfl)) ?_
              refine an ?_
              simp only[go_sem]
              first | (cases hb;done) | (rw[e,if_pos (by simpa using hb)];done) | (rw[e,if_neg (by simpa using hb)];done) | (rw[e,if_pos (by simpa using hb)];rfl) | (rw[e,if_neg (by simpa using hb)];rfl) | (rw[e,if_pos ay];done) | (rw[e,if_neg ay];done) | (rw[e,if_pos ay];rfl) | (rw[e,if_neg ay];rfl) | (rw[e];done)
             ·repeat refine sq ?_
              refine av ?_
              repeat refine sq ?_
              refine rx hΓ [4] [[4,0],[103,0],[106,0]] (fun K' hK=>by simp only[go_sem,List.append_nil];(repeat (refine⟨ah,?_⟩));exact hK _ (by simp only[go_sem]) (by simp only[go_sem]<;>rfl)) ?_
              refine an ?_
              simp only[go_sem]
              first | (cases hb;done) | (rw[e,if_pos (by simpa using hb)];done) | (rw[e,if_neg (by simpa using hb)];done) | (rw[e,if_pos (by simpa using hb)];rfl) | (rw[e,if_neg (by simpa using hb)];rfl) | (rw[e,if_pos ay];done) | (rw[e,if_neg ay];done) | (rw[e,if_pos ay];rfl) | (rw[e,if_neg ay];rfl) | (rw[e];done)
           ·exact Bool.noConfusion (nq.symm.trans hb)
          ·repeat refine sq ?_
           have nq:=hb
           repeat refine sq ?_
           refine rx hΓ [2,3,4,5,6,7,8,88] [[2,0],[3,0],[4,0],[6,0],[103,0],[106,0]] (fun K' hK=>by simp only[go_sem];(repeat (refine⟨ah,?_⟩));exact hK _ (by simp only[go_sem]) (by simp only[go_sem]<;>rfl)) ?_
           repeat refine sq ?_
           refine au rfl rfl (fun hb=>?_) (fun hb=>?_)
           ·repeat refine sq ?_
            have nq:=hb
            have e:=Aa (x:=x) (y:=y) (by show y.kd % 16=8\/y.kd % 16=9\/y.kd % 16=10;have h5:=nq;simp only[beq_iff_eq]at h5;omega)
            rw[<-hk,<-hd,uy]at e
            repeat refine sq ?_
            refine rx hΓ [2,4,5,6,8,9,10] [[2,0],[4,0],[6,0],[9,0],[103,0],[106,0]] (fun K' hK=>by simp only[go_sem,List.append_nil];(repeat (refine⟨ah,?_⟩));exact hK _ (by simp only[go_sem]) (by simp only[go_sem]<;>rfl)) ?_
            refine aE (bz [9,0] (aP (nZ d (y.to % 6))) rfl [2,4,5,6,8,9,10] [[2,0],[4,0],[6,0],[9,0],[103,0],[106,0]] ?_ rfl) ?_
            ·simp only[go_sem]
            simp only[go_sem]
            repeat refine sq ?_
            refine rx hΓ [2,4,5,6,8,9,99] [[2,0],[4,0],[6,0],[9,0],[103,0],[106,0]] (fun K' hK=>by simp only[go_sem];(repeat (refine⟨ah,?_⟩));exact hK _ (by simp only[go_sem]) (by simp only[go_sem]<;>rfl)) ?_
            repeat refine sq ?_
            refine au rfl rfl (fun hb=>?_) (fun hb=>?_)
            ·repeat refine sq ?_
             have ay:ie d (y.to % 6)=0:=by simpa using hb
             have hU:=ay
             repeat refine sq ?_
             refine km hΓ hP [[],[],[1],[0,1,2],[],[4],[0,1,2,3,4,5],[0,1,2,3,4,5,6],[0,1,2,3,4,5,6,7]] (by kernel_rfl) fun K' hK=>?_
             simp only[go_sem,qA,qz,FH,List.append_nil]
             repeat (refine⟨by first | exact⟨B7 _,rfl,by omega,by unfold maxLen;omega⟩ | exact ah,?_⟩)
             first | refine⟨by rfl,?_⟩ | skip
             refine hK _ ?_
             clear K' hK
             simp only[go_sem]
             refine kp [2,4,5,6,8] [[2,0],[4,0],[6,0],[103,0],[106,0]] ?_
             first | (have _:=hU;refine aE (ed [2,0] [103,0] 378 _ _ _ _ rfl (je _ _ _) rfl (by simp only[List.length_append,List.length_map,List.length_cons,List.length_nil]) [2,4,5,6,8] [[2,0],[4,0],[6,0]] ?_ rfl) ?_;(simp only[go_sem,dp]);(simp only[go_sem,dp])) | skip
             repeat refine sq ?_
             refine rx hΓ [2,4,5,6,109] [[2,0],[4,0],[6,0],[103,0],[106,0]] (fun K' hK=>by simp only[go_sem];(repeat (refine⟨ah,?_⟩));exact hK _ (by simp only[go_sem]) (by simp only[go_sem]<;>rfl)) ?_
             repeat refine sq ?_
             refine au rfl rfl (fun hb=>?_) (fun hb=>?_)
             ·repeat refine sq ?_
              refine rx hΓ [2,4] [[2,0],[4,0],[103,0],[106,0]] (fun K' hK=>by simp only[go_sem,Nat.zero_add,q0,q6,qk,fw,List.append_nil];(repeat (refine⟨ah,?_⟩));exact hK _ (by simp only[go_sem]) (by simp only[go_sem]<;>rfl)) ?_
              repeat refine sq ?_
              refine rx hΓ [4] [[4,0],[103,0],[106,0]] (fun K' hK=>by simp only[go_sem,List.append_nil];(repeat (refine⟨ah,?_⟩));exact hK _ (by simp only[go_sem]) (by simp only[go_sem]<;>rfl)) ?_
              refine an ?_
              simp only[go_sem]
              first | (cases hb;done) | (rw[e,if_pos (by simpa using hb)];done) | (rw[e,if_neg (by simpa using hb)];done) | (rw[e,if_pos (by simpa using hb)];rfl) | (rw[e,if_neg (by simpa using hb)];rfl) | (rw[e,if_pos ay];done) | (rw[e,if_neg ay];done) | (rw[e,if_pos ay];rfl) | (rw[e,if_neg ay];rfl) | (rw[e];done)
             ·repeat refine sq ?_
              refine av ?_
              repeat refine sq ?_
              refine rx hΓ [4] [[4,0],[103,0],[106,0]] (fun K' hK=>by simp only[go_sem,List.append_nil];(repeat (refine⟨ah,?_⟩));exact hK _ (by simp only[go_sem]) (by simp only[go_sem]<;>rfl)) ?_
              refine an ?_
              simp only[go_sem]
              first | (cases hb;done) | (rw[e,if_pos (by simpa using hb)];done) | (rw[e,if_neg (by simpa using hb)];done) | (rw[e,if_pos (by simpa using hb)];rfl) | (rw[e,if_neg (by simpa using hb)];rfl) | (rw[e,if_pos ay];done) | (rw[e,if_neg ay];done) | (rw[e,if_pos ay];rfl) | (rw[e,if_neg ay];rfl) | (rw[e];done)
            ·repeat refine sq ?_
             have ay:¬ ie d (y.to % 6)=0:=by simpa using hb
             refine av ?_
             refine ct ?_
             simp only[go_sem]
             refine kp [2,4,5,6,8] [[2,0],[4,0],[6,0],[103,0],[106,0]] ?_
             first | (have _:=hU;refine aE (ed [2,0] [103,0] 378 _ _ _ _ rfl (je _ _ _) rfl (by simp only[List.length_append,List.length_map,List.length_cons,List.length_nil]) [2,4,5,6,8] [[2,0],[4,0],[6,0]] ?_ rfl) ?_;(simp only[go_sem,dp]);(simp only[go_sem,dp])) | skip
             repeat refine sq ?_
             refine rx hΓ [2,4,5,6,109] [[2,0],[4,0],[6,0],[103,0],[106,0]] (fun K' hK=>by simp only[go_sem];(repeat (refine⟨ah,?_⟩));exact hK _ (by simp only[go_sem]) (by simp only[go_sem]<;>rfl)) ?_
             repeat refine sq ?_
             refine au rfl rfl (fun hb=>?_) (fun hb=>?_)
             ·repeat refine sq ?_
              refine rx hΓ [2,4] [[2,0],[4,0],[103,0],[106,0]] (fun K' hK=>by simp only[go_sem,Nat.zero_add,q0,q6,qk,fw,List.append_nil];(repeat (refine⟨ah,?_⟩));exact hK _ (by simp only[go_sem]) (by simp only[go_sem]<;>rfl)) ?_
              repeat refine sq ?_
              refine rx hΓ [4] [[4,0],[103,0],[106,0]] (fun K' hK=>by simp only[go_sem,List.append_nil];(repeat (refine⟨ah,?_⟩));exact hK _ (by simp only[go_sem]) (by simp only[go_sem]<;>rfl)) ?_
              refine an ?_
              simp only[go_sem]
              first | (cases hb;done) | (rw[e,if_pos (by simpa using hb)];done) | (rw[e,if_neg (by simpa using hb)];done) | (rw[e,if_pos (by simpa using hb)];rfl) | (rw[e,if_neg (by simpa using hb)];rfl) | (rw[e,if_pos ay];done) | (rw[e,if_neg ay];done) | (rw[e,if_pos ay];rfl) | (rw[e,if_neg ay];rfl) | (rw[e];done)
             ·repeat refine sq ?_
              refine av ?_
              repeat refine sq ?_
              refine rx hΓ [4] [[4,0],[103,0],[106,0]] (fun K' hK=>by simp only[go_sem,List.append_nil];(repeat (refine⟨ah,?_⟩));exact hK _ (by simp only[go_sem]) (by simp only[go_sem]<;>rfl)) ?_
              refine an ?_
              simp only[go_sem]
              first | (cases hb;done) | (rw[e,if_pos (by simpa using hb)];done) | (rw[e,if_neg (by simpa using hb)];done) | (rw[e,if_pos (by simpa using hb)];rfl) | (rw[e,if_neg (by simpa using hb)];rfl) | (rw[e,if_pos ay];done) | (rw[e,if_neg ay];done) | (rw[e,if_pos ay];rfl) | (rw[e,if_neg ay];rfl) | (rw[e];done)
           ·repeat refine sq ?_
            have nq:=hb
            have La:11<=eC y:=by show 11<=y.kd % 16;simp only[beq_eq_false_iff_ne,ne_eq]at *;omega
            repeat refine sq ?_
            refine rx hΓ [2,3,4,5,6,8,28] [[2,0],[3,0],[4,0],[6,0],[103,0],[106,0]] (fun K' hK=>by simp only[go_sem,qA,qz];(repeat (refine⟨ah,?_⟩));exact hK _ (by simp only[go_sem]) (by simp only[go_sem]<;>rfl)) ?_
            repeat refine sq ?_
            refine au rfl rfl (fun hb=>?_) (fun hb=>?_)
            ·repeat refine sq ?_
             have ar:x.bs≠[]:=by intro h0;simp[h0]at hb
             have bY:0<x.bs.length:=List.length_pos_iff.2 ar
             have zo:(0:Int)<(x.bs.length:Int)/\(x.bs.length:Int)<=1000000:=by have:=hp.ln;omega
             have g0:=Int.emod_nonneg y.pi (by omega:(x.bs.length:Int)≠0)
             have g1:=Int.emod_lt_of_pos y.pi zo.1
             have gk:(y.pi % (x.bs.length:Int)).toNat<x.bs.length:=by omega
             obtain⟨b,gZ⟩:∃ b,b=kh x y:=⟨_,rfl⟩
             have oF:(x.bs.map fD).getD (y.pi % (x.bs.length:Int)).toNat default=.agg (aP b):=by rw[gZ];unfold kh;simp[List.getD_eq_getElem?_getD,List.getElem?_eq_getElem gk,fD]
             have e:=MQ (y:=y) La ar
             rw[<-gZ]at e
             have wv:=hp.bg b (by rw[gZ];exact MU ar)
             obtain⟨k2,eT⟩:∃ k2,k2=b.to.toNat:=⟨_,rfl⟩
             rw[<-eT]at e
             have v8:k2<6:=by omega
             obtain⟨d2,oG⟩:∃ d2,d2=x.ds.get k2:=⟨_,rfl⟩
             rw[<-oG]at e
             have DM:List.take 63 (List.drop (k2*63) (List.map D.v (bt x)))=List.map D.v (ak d2):=by rw[oG];exact xD x v8
             have zC:b8 d2:=by rw[oG];exact hp.sz k2 v8
             have fw:∀ (z:Sx) (e:Dk),List.take (k2*63) (List.map D.v (bt z))++List.map D.v (ak e)++List.drop (k2*63+63) (List.map D.v (bt z))=List.map D.v (bt (z.set k2 e)):=fun z e=>Bg z e v8
             have q0:=wv.1
             have q6:=wv.2
             have qk:=eT.symm
             repeat refine sq ?_
             refine dx hΓ hP [[],[0],[],[2],[],[4],[4,5],[2,3,4,5,6],[0,1,2,3,4,5,6,7],[0,1,2,3,4,5,6,7,8],[],[0,1,2,3,4,5,6,7,8,9,10]] [2,4,6,11] [[2,0],[4,0],[6,0],[11,0],[103,0],[106,0]] (by kernel_rfl) (fun K' hK=>by simp only[go_sem,qA,qz,g0,g1,gk,oF,List.append_nil];(repeat (refine⟨by first | exact zo | exact ah,?_⟩));(first | refine⟨by rfl,?_⟩ | skip);exact hK _ (by simp only[go_sem]) (by simp only[go_sem]<;>rfl)) ?_
             refine aE (bz [11,0] (aP b) rfl [2,4,6,11] [[2,0],[4,0],[6,0],[11,0],[103,0],[106,0]] ?_ rfl) ?_
             ·simp only[go_sem]
             simp only[go_sem]
             repeat refine sq ?_
             refine rx hΓ [2,4,5,6,11] [[2,0],[4,0],[6,0],[11,0],[103,0],[106,0]] (fun K' hK=>by simp only[go_sem];(repeat (refine⟨ah,?_⟩));exact hK _ (by simp only[go_sem]) (by simp only[go_sem]<;>rfl)) ?_
             repeat refine sq ?_
             refine km hΓ hP [[],[],[0,1],[0,1,2],[],[0,1,2,3,4],[0,1,2,3,4,5],[0,1,2,3,4,5,6],[0,1,2,3,4,5,6],[0,1,2,3,4,5,6,7],[0,1,2,3,4,5,6,7,8,9]] (by kernel_rfl) fun K' hK=>?_
             simp only[go_sem,Nat.zero_add,q0,q6,qk,DM,zC,List.append_nil]
             repeat (refine⟨by first | exact zC | exact ah,?_⟩)
             first | refine⟨by rfl,?_⟩ | skip
             refine hK _ ?_
             clear K' hK
             simp only[go_sem]
             refine kp [2,4,5,6,8] [[2,0],[4,0],[6,0],[103,0],[106,0]] ?_
             first | (have _:=hU;refine aE (ed [2,0] [103,0] 378 _ _ _ _ rfl (je _ _ _) rfl (by simp only[List.length_append,List.length_map,List.length_cons,List.length_nil]) [2,4,5,6,8] [[2,0],[4,0],[6,0]] ?_ rfl) ?_;(simp only[go_sem,dp]);(simp only[go_sem,dp])) | skip
             repeat refine sq ?_
             refine rx hΓ [2,4,5,6,109] [[2,0],[4,0],[6,0],[103,0],[106,0]] (fun K' hK=>by simp only[go_sem];(repeat (refine⟨ah,?_⟩));exact hK _ (by simp only[go_sem]) (by simp only[go_sem]<;>rfl)) ?_
             repeat refine sq ?_
             refine au rfl rfl (fun hb=>?_) (fun hb=>?_)
             ·repeat refine sq ?_
              refine rx hΓ [2,4] [[2,0],[4,0],[103,0],[106,0]] (fun K' hK=>by simp only[go_sem,Nat.zero_add,q0,q6,qk,fw,List.append_nil];(repeat (refine⟨ah,?_⟩));exact hK _ (by simp only[go_sem]) (by simp only[go_sem]<;>rfl)) ?_
              repeat refine sq ?_
              refine rx hΓ [4] [[4,0],[103,0],[106,0]] (fun K' hK=>by simp only[go_sem,List.append_nil];(repeat (refine⟨ah,?_⟩));exact hK _ (by simp only[go_sem]) (by simp only[go_sem]<;>rfl)) ?_
              refine an ?_
              simp only[go_sem]
              first | (cases hb;done) | (rw[e,if_pos (by simpa using hb)];done) | (rw[e,if_neg (by simpa using hb)];done) | (rw[e,if_pos (by simpa using hb)];rfl) | (rw[e,if_neg (by simpa using hb)];rfl) | (rw[e,if_pos ay];done) | (rw[e,if_neg ay];done) | (rw[e,if_pos ay];rfl) | (rw[e,if_neg ay];rfl) | (rw[e];done)
             ·repeat refine sq ?_
              refine av ?_
              repeat refine sq ?_
              refine rx hΓ [4] [[4,0],[103,0],[106,0]] (fun K' hK=>by simp only[go_sem,List.append_nil];(repeat (refine⟨ah,?_⟩));exact hK _ (by simp only[go_sem]) (by simp only[go_sem]<;>rfl)) ?_
              refine an ?_
              simp only[go_sem]
              first | (cases hb;done) | (rw[e,if_pos (by simpa using hb)];done) | (rw[e,if_neg (by simpa using hb)];done) | (rw[e,if_pos (by simpa using hb)];rfl) | (rw[e,if_neg (by simpa using hb)];rfl) | (rw[e,if_pos ay];done) | (rw[e,if_neg ay];done) | (rw[e,if_pos ay];rfl) | (rw[e,if_neg ay];rfl) | (rw[e];done)
            ·repeat refine sq ?_
             have e:=MR (x:=x) (y:=y) La (by simpa using hb)
             refine av ?_
             refine ct ?_
             simp only[go_sem]
             refine kp [2,4,5,6,8] [[2,0],[4,0],[6,0],[103,0],[106,0]] ?_
             first | (have _:=hU;refine aE (ed [2,0] [103,0] 378 _ _ _ _ rfl (je _ _ _) rfl (by simp only[List.length_append,List.length_map,List.length_cons,List.length_nil]) [2,4,5,6,8] [[2,0],[4,0],[6,0]] ?_ rfl) ?_;(simp only[go_sem,dp]);(simp only[go_sem,dp])) | skip
             repeat refine sq ?_
             refine rx hΓ [2,4,5,6,109] [[2,0],[4,0],[6,0],[103,0],[106,0]] (fun K' hK=>by simp only[go_sem];(repeat (refine⟨ah,?_⟩));exact hK _ (by simp only[go_sem]) (by simp only[go_sem]<;>rfl)) ?_
             repeat refine sq ?_
             refine au rfl rfl (fun hb=>?_) (fun hb=>?_)
             ·repeat refine sq ?_
              refine rx hΓ [2,4] [[2,0],[4,0],[103,0],[106,0]] (fun K' hK=>by simp only[go_sem,Nat.zero_add,q0,q6,qk,fw,List.append_nil];(repeat (refine⟨ah,?_⟩));exact hK _ (by simp only[go_sem]) (by simp only[go_sem]<;>rfl)) ?_
              repeat refine sq ?_
              refine rx hΓ [4] [[4,0],[103,0],[106,0]] (fun K' hK=>by simp only[go_sem,List.append_nil];(repeat (refine⟨ah,?_⟩));exact hK _ (by simp only[go_sem]) (by simp only[go_sem]<;>rfl)) ?_
              refine an ?_
              simp only[go_sem]
              first | (cases hb;done) | (rw[e,if_pos (by simpa using hb)];done) | (rw[e,if_neg (by simpa using hb)];done) | (rw[e,if_pos (by simpa using hb)];rfl) | (rw[e,if_neg (by simpa using hb)];rfl) | (rw[e,if_pos ay];done) | (rw[e,if_neg ay];done) | (rw[e,if_pos ay];rfl) | (rw[e,if_neg ay];rfl) | (rw[e];done)
             ·repeat refine sq ?_
              refine av ?_
              repeat refine sq ?_
              refine rx hΓ [4] [[4,0],[103,0],[106,0]] (fun K' hK=>by simp only[go_sem,List.append_nil];(repeat (refine⟨ah,?_⟩));exact hK _ (by simp only[go_sem]) (by simp only[go_sem]<;>rfl)) ?_
              refine an ?_
              simp only[go_sem]
              first | (cases hb;done) | (rw[e,if_pos (by simpa using hb)];done) | (rw[e,if_neg (by simpa using hb)];done) | (rw[e,if_pos (by simpa using hb)];rfl) | (rw[e,if_neg (by simpa using hb)];rfl) | (rw[e,if_pos ay];done) | (rw[e,if_neg ay];done) | (rw[e,if_pos ay];rfl) | (rw[e,if_neg ay];rfl) | (rw[e];done)
theorem VV:al Tryz.prog 73 S73:=RA.sound
def sr(a:Act):V:=.agg (jO a)
def tT:En (List Act):=⟨fun l=>.sl (l.map sr),fun v=>match v with | .sl l=>l.map rq.dec | _=>[]⟩
theorem W6(l:List Act):(l.map sr).map rq.dec=l:=vx (fun _=>rfl) l
@[go_sem] theorem W5(l:List Act):tT.dec (.sl (l.map sr))=l:=W6 l
def nA(l:List Act):Nat:=min l.length 40
theorem abB{l:List Act}{i:Nat}(h:i<l.length):(l.map sr).getD i default=.agg (jO (l.getD i default)):=by
 simp[List.getD_eq_getElem?_getD,List.getElem?_eq_getElem h,sr]
@[go_sem] theorem afq(g:V)(fl:Bool)(xs:List V):(p0 g fl).fn xs=g:=rfl
@[go_sem] theorem afp(g:V)(fl:Bool)(xs:List V):(p0 g fl).pre xs=(xs=[]):=rfl
noncomputable def OI:List (Nat×Spec):=[(72,S72),(73,S73)]
theorem abQ:∀ f s,tbl OI f=some s->al Tryz.prog f s:=tc VW<|tc VV<|tn
attribute [go_sem] OI
noncomputable def P20:PSpec:=p2 tT iI (fun _ many=>many=40) (fun l _=>.agg (bt (nQ l (nA l)))) false
noncomputable def S20:Spec:=P20.toSpec
attribute [go_sem] P20 S20
set_option maxHeartbeats 8000000 in
theorem R5:aQ Tryz.prog 20 P20:=by
 refine w2 (rs:=[.cell 4 50]) Tryz.func20 Tryz.ntmps20 (by rfl) (by kernel_rfl) (by decide) (fun h=>by cases h) ⟨_,rfl,lb rfl,fun l many hp hw=>?_⟩
 have hP:=ba
 simp only[tT,iI]at hw |-
 have hΓ:=abQ
 replace hp:many=40:=hp
 subst hp
 have zq:nA l<=maxLen:=by have:nA l<=40:=Nat.min_le_right _ _;unfold maxLen;omega
 repeat refine sq ?_
 refine rx hΓ [0,1,4] [[4,0]] (fun K' hK=>by simp only[go_sem];(repeat (refine⟨ah,?_⟩));exact hK _ (by simp only[go_sem]) (by simp only[go_sem]<;>rfl)) ?_
 refine aE (ft [4,0] _ (bt zX) rfl rfl [0,1,4] [[4,0]] ?_ rfl) ?_
 ·simp only[go_sem]
 simp only[go_sem]
 repeat refine sq ?_
 refine rx hΓ [0,1,4,5] [[4,0],[5,0]] (fun K' hK=>by simp only[go_sem];(repeat (refine⟨ah,?_⟩));exact hK _ (by simp only[go_sem]) (by simp only[go_sem]<;>rfl)) ?_
 repeat refine sq ?_
 refine rx hΓ [0,1,4,5,6] [[4,0],[5,0]] (fun K' hK=>by simp only[go_sem];(repeat (refine⟨ah,?_⟩));exact hK _ (by simp only[go_sem]) (by simp only[go_sem]<;>rfl)) ?_
 repeat refine sq ?_
 refine aO ?_
 repeat refine sq ?_
 refine cv (fun z:Nat=>[(6,⟨true,.v (vInt z)⟩)]) (fun z=>[([5,0],.box ((bt (nQ l z)).map .v))]) (fun z=>z<=(nA l)) (fun z=>(nA l)-z) 0 ?_ ?_ ?_ ?_
 ·exact Nat.zero_le _
 ·rfl
 ·rfl
 rintro i hi
 simp only[go_sem]
 repeat refine sq ?_
 refine rx hΓ [0,1,4,5,6,16] [[4,0],[5,0]] (fun K' hK=>by simp only[go_sem];(repeat (refine⟨ah,?_⟩));exact hK _ (by simp only[go_sem]) (by simp only[go_sem]<;>rfl)) ?_
 repeat refine sq ?_
 refine au rfl rfl (fun hb=>?_) (fun hb=>?_)
 ·repeat refine sq ?_
  have ae:i<nA l:=by simp at hb;unfold nA;omega
  have fg:i<l.length:=by have h:=ae;unfold nA at h;omega
  have DW:(i:Int)<(l.length:Int):=by omega
  have YP:=abB fg
  have e:nQ l (i+1)=iv (nQ l i) (l.getD i default):=rfl
  have aa:jR (nQ l i) 1000:=(Bb l i).mono (by have:nA l<=40:=Nat.min_le_right _ _;omega)
  refine av ?_
  repeat refine sq ?_
  refine aO ?_
  repeat refine sq ?_
  refine km hΓ hP [[],[],[],[1,2],[1,2,3],[0,1,2,3,4],[0,1,2,3,4,5]] (by kernel_rfl) fun K' hK=>?_
  simp only[go_sem,YP,DW,Int.toNat_natCast,Int.natCast_nonneg,List.length_map,List.append_nil]
  repeat (refine⟨by first | exact aa | exact ah,?_⟩)
  first | refine⟨by rfl,?_⟩ | skip
  refine hK _ ?_
  clear K' hK
  simp only[go_sem]
  refine kp [0,1,4,5,6] [[4,0],[5,0]] ?_
  repeat refine sq ?_
  refine aL hΓ fun K' hK=>?_
  simp only[go_sem]
  repeat (refine⟨ah,?_⟩)
  refine hK _ ?_
  clear K' hK
  simp only[go_sem]
  refine⟨i+1,ae,by(show (nA l)-(i+1)<(nA l)-i;omega),?_⟩
  refine bk [0,1,4,5,6] [[4,0],[5,0]] ?_ ?_
  ·simp only[go_sem,aD ae zq,Int.natCast_add,Int.natCast_one,e]
  ·simp only[go_sem,aD ae zq,Int.natCast_add,Int.natCast_one,e]
 ·repeat refine sq ?_
  have aW:i=nA l:=by
   simp at hb
   have h:=hi
   unfold nA at h |-
   omega
  subst aW
  refine b7 ?_
  simp only[go_sem]
  refine kp [4,5] [[4,0],[5,0]] ?_
  repeat refine sq ?_
  refine rx hΓ [4] [[4,0]] (fun K' hK=>by simp only[go_sem,List.append_nil];(repeat (refine⟨ah,?_⟩));exact hK _ (by simp only[go_sem]) (by simp only[go_sem]<;>rfl)) ?_
  refine an ?_
  simp only[go_sem]
  skip
theorem Wh:al Tryz.prog 20 S20:=R5.sound
@[go_sem] theorem agP(b:Bag):((aP b).map D.v).take 4=(aP b).map D.v:=rfl
@[go_sem] theorem agN(b:Bag):((aP b).map D.v).length=4:=rfl
noncomputable def K25:List (Nat×Spec):=[(27,S27),(22,S22),(34,S34),(24,S24),(19,S19)]
attribute [go_sem] K25
structure N5 where
 (a b c d e:Int)
def iy(n:N5):List V:=[vInt n.a,vInt n.b,vInt n.c,vInt n.d,vInt n.e]
def CX:En N5:=⟨fun n=>.agg (iy n),fun v=>match v with | .agg [.int _ a,.int _ b,.int _ c,.int _ d,.int _ e]=>⟨a,b,c,d,e⟩ | _=>⟨0,0,0,0,0⟩⟩
@[go_sem] theorem afr(n:N5):(iy n).length=5:=rfl
@[go_sem] theorem afs(n:N5):(iy n).take 5=iy n:=rfl
@[go_sem] theorem afx(n:N5):(iy n).getD 0 default=vInt n.a:=rfl
@[go_sem] theorem afw(n:N5):(iy n).getD 1 default=vInt n.b:=rfl
@[go_sem] theorem afv(n:N5):(iy n).getD 2 default=vInt n.c:=rfl
@[go_sem] theorem afu(n:N5):(iy n).getD 3 default=vInt n.d:=rfl
@[go_sem] theorem aft(n:N5):(iy n).getD 4 default=vInt n.e:=rfl
@[go_sem] theorem afI(n:N5):CX.dec (.agg (iy n))=n:=rfl
@[go_sem] theorem agQ(b:Bag):(List.map D.v (aP b)).getD 1 .any=.v (vInt b.to):=rfl
@[go_sem] theorem agO(b:Bag):(List.map D.v (aP b)).drop 4=[]:=rfl
def o7(x:Sx)(n:N5):Bool:=decide ((0:Int)<(x.bs.length:Int))&&decide (0<n.e % 4)
def o6(x:Sx)(n:N5):Bag:=x.bs.getD (n.e % (x.bs.length:Int)).toNat default
def xv(x:Sx)(b:Bag)(n:N5):Bag:=if o7 x n=true then o6 x n else b
def qv(x:Sx)(n:N5):Dk:=if o7 x n=true then x.ds.get (o6 x n).to.toNat else x.ds.get (n.a % 6).toNat
theorem Gx{x:Sx}{n:N5}(h:o7 x n=true):o6 x n∈x.bs/\0<=n.e % (x.bs.length:Int)/\n.e % (x.bs.length:Int)<(x.bs.length:Int)/\(x.bs.map fD).getD (n.e % (x.bs.length:Int)).toNat default=.agg (aP (o6 x n)):=by
 unfold o7 at h
 simp only[Bool.and_eq_true,decide_eq_true_eq]at h
 have g0:=Int.emod_nonneg n.e (by omega:(x.bs.length:Int)≠0)
 have g1:=Int.emod_lt_of_pos n.e h.1
 have gk:(n.e % (x.bs.length:Int)).toNat<x.bs.length:=by omega
 unfold o6
 refine⟨?_,g0,g1,?_⟩
 ·rw[getD_at gk];exact List.getElem_mem _
 ·simp[List.getD_eq_getElem?_getD,List.getElem?_eq_getElem gk,fD]
theorem PX{x:Sx}{n:N5}(h:jR x 1000):aF (qv x n)=true/\b8 (qv x n):=by
 unfold qv
 split
 ·next hc=>
  have hb:=h.bg _ (Gx hc).1
  exact⟨h.ok _ (by omega),h.sz _ (by omega)⟩
 ·exact⟨h.ok _ (by omega),h.sz _ (by omega)⟩
def fT(d:Dk)(n:N5):List Dk:=if eF d n.b n.c=0 then[iQ d n.b n.c]else[]
def jT(d:Dk)(b:Bag)(l:List Dk):List Dk:=if e8 d b=0 then l++[e7 d b]else l
def o8(d:Dk)(l:List Dk):List Dk:=if gK d=0 then l++[jS d]else l
def xi(d e:Dk):Prop:=aF e=true/\bZ e=bZ d
theorem P0{d:Dk}{n:N5}(h:aF d=true):(∀ e∈fT d n,xi d e)/\(fT d n).length<=1:=by
 unfold fT
 split
 ·next he=>
  refine⟨fun e hm=>?_,Nat.le_refl _⟩
  rw[List.mem_singleton]at hm
  subst hm
  have :=He h he
  exact⟨this.1.ok,this.2⟩
 ·exact⟨fun e hm=>(by cases hm),Nat.zero_le _⟩
theorem PZ{d:Dk}{b:Bag}{l:List Dk}(h:aF d=true)(hl:∀ e∈l,xi d e){k:Nat}(hk:l.length<=k):(∀ e∈jT d b l,xi d e)/\(jT d b l).length<=k+1:=by
 unfold jT
 split
 ·next he=>
  refine⟨fun e hm=>?_,by rw[List.length_append];simp only[List.length_cons,List.length_nil];omega⟩
  rcases List.mem_append.1 hm with hm | hm
  ·exact hl e hm
  ·rw[List.mem_singleton]at hm
   subst hm
   have :=(yf h he).1
   exact⟨this.1.ok,this.2⟩
 ·exact⟨hl,by omega⟩
theorem PY{d:Dk}{l:List Dk}(h:aF d=true)(hl:∀ e∈l,xi d e){k:Nat}(hk:l.length<=k):(∀ e∈o8 d l,xi d e)/\(o8 d l).length<=k+1:=by
 unfold o8
 split
 ·next he=>
  refine⟨fun e hm=>?_,by rw[List.length_append];simp only[List.length_cons,List.length_nil];omega⟩
  rcases List.mem_append.1 hm with hm | hm
  ·exact hl e hm
  ·rw[List.mem_singleton]at hm
   subst hm
   have :=Gn h he
   exact⟨this.1.ok,this.2⟩
 ·exact⟨hl,by omega⟩
theorem wN{l:List Dk}{i:Nat}(h:i<l.length):(l.map eK).getD i default=.agg (ak l[i]):=by
 simp[List.getD_eq_getElem?_getD,List.getElem?_eq_getElem h,eK]
noncomputable def OH:List (Nat×Spec):=[(8,S8),(10,S10),(12,S12),(14,S14),(16,S16),(18,S18),(19,S19),(20,S20),(21,S21),(22,S22),(23,S23),(24,S24),(25,S25)]
theorem abP:∀ f s,tbl OH f=some s->al Tryz.prog f s:=tc k8<|tc WA<|tc Wr<|tc Wn<|tc Wl<|tc Wj<|tc Wi<|tc Wh<|tc yM<|tc Wg<|tc pB<|tc Kn<|tc Wf<|tn
attribute [go_sem] OH
noncomputable def P4:PSpec:=p3 tT jw CX (fun _ _ _=>True) (fun _ _ _=>.bool true) true
noncomputable def S4:Spec:=P4.toSpec
attribute [go_sem] P4 S4
set_option maxHeartbeats 16000000 in
theorem s4:aQ Tryz.prog 4 P4:=by
 refine w3 (rs:=[.tmp 6]) Tryz.func4 Tryz.ntmps4 (by rfl) (by kernel_rfl) (by decide) (fun _ _ _ _=>rfl) ⟨_,rfl,lb rfl,fun l b n hp hw=>?_⟩
 have hP:=ba
 simp only[tT,jw,CX]at hw |-
 have hΓ:=abP
 have y8:jR (nQ l (nA l)) 1000:=(Bb l _).mono (by have:nA l<=40:=Nat.min_le_right _ _;omega)
 obtain⟨x,hx⟩:∃ x,x=nQ l (nA l):=⟨_,rfl⟩
 rw[<-hx]at y8
 obtain⟨lA,dz⟩:=PX (n:=n) y8
 have dK:(0:Int)<6/\(6:Int)<=1000000:=by omega
 have XV:(0:Int)<4/\(4:Int)<=1000000:=by omega
 have r0:(0:Int)<=n.a % 6:=by omega
 have r6:n.a % 6<6:=by omega
 obtain⟨k,v7⟩:∃ k,(n.a % 6).toNat=k:=⟨_,rfl⟩
 have uf:k<6:=by omega
 have DN:List.take 63 (List.drop (k*63) (List.map D.v (bt x)))=List.map D.v (ak (x.ds.get k)):=xD x uf
 have LD:x.bs.length<=1000:=y8.ln
 repeat refine sq ?_
 refine rx hΓ [0,4,5] [[4,0],[5,0]] (fun K' hK=>by simp only[go_sem];(repeat (refine⟨ah,?_⟩));exact hK _ (by simp only[go_sem]) (by simp only[go_sem]<;>rfl)) ?_
 refine aE (bz [5,0] (iy n) rfl [0,4,5] [[4,0],[5,0]] ?_ rfl) ?_
 ·simp only[go_sem]
 simp only[go_sem]
 repeat refine sq ?_
 refine rx hΓ [4,5,7] [[4,0],[5,0],[7,0]] (fun K' hK=>by simp only[go_sem,<-hx];(repeat (refine⟨ah,?_⟩));exact hK _ (by simp only[go_sem]) (by simp only[go_sem]<;>rfl)) ?_
 repeat refine sq ?_
 refine rx hΓ [4,5,7,8] [[4,0],[5,0],[7,0],[8,0]] (fun K' hK=>by simp only[go_sem,Nat.zero_add,v7,r0,r6,DN,Int.cast_ofNat_Int,Int.reduceToNat,Int.toNat_one,Int.toNat_zero,Nat.reduceMul,Nat.reduceAdd,Nat.zero_mul,Nat.one_mul,Nat.add_zero,List.append_nil];(repeat (refine⟨by first | exact dK | exact ah,?_⟩));exact hK _ (by simp only[go_sem]) (by simp only[go_sem]<;>rfl)) ?_
 repeat refine sq ?_
 refine rx hΓ [4,5,7,8,46] [[4,0],[5,0],[7,0],[8,0]] (fun K' hK=>by simp only[go_sem,qA,qz,Int.cast_ofNat_Int,Int.reduceToNat,Int.toNat_one,Int.toNat_zero,Nat.reduceMul,Nat.reduceAdd,Nat.zero_mul,Nat.one_mul,Nat.add_zero];(repeat (refine⟨by first | exact XV | exact ah,?_⟩));exact hK _ (by simp only[go_sem]) (by simp only[go_sem]<;>rfl)) ?_
 repeat refine sq ?_
 refine An (aU 214 [0] (fun _=>none) [(4,⟨true,.ref [4,0] 0⟩),(5,⟨true,.ref [5,0] 0⟩),(8,⟨true,.ref [8,0] 0⟩)] [([4,0],.box ((aP (xv x b n)).map .v)),([5,0],.fbox (iy n)),([8,0],.box ((ak (qv x n)).map .v))]) rfl rfl (fun hb=>?_) (fun hb=>?_) ?_
 ·repeat refine sq ?_
  have hc:o7 x n=true:=by simpa[o7]using hb
  rw[show xv x b n=o6 x n from if_pos hc,show qv x n=x.ds.get (o6 x n).to.toNat from if_pos hc]
  obtain⟨gm,g0,g1,L5⟩:=Gx hc
  obtain⟨bb,gZ⟩:∃ bb,bb=o6 x n:=⟨_,rfl⟩
  rw[<-gZ]at gm L5 |-
  have wv:=y8.bg bb gm
  obtain⟨k2,eT⟩:∃ k2,bb.to.toNat=k2:=⟨_,rfl⟩
  rw[eT]
  have v8:k2<6:=by omega
  have q0:=wv.1
  have q6:=wv.2
  have DM:List.take 63 (List.drop (k2*63) (List.map D.v (bt x)))=List.map D.v (ak (x.ds.get k2)):=xD x v8
  have zo:(0:Int)<(x.bs.length:Int)/\(x.bs.length:Int)<=1000000:=by omega
  repeat refine sq ?_
  refine dx hΓ hP [[],[0],[],[2],[],[4],[4,5],[2,3,4,5,6],[0,1,2,3,4,5,6,7],[0,1,2,3,4,5,6,7,8],[0,1,2,3,4,5,6,7,8,9]] [4,5,7,8] [[4,0],[5,0],[7,0],[8,0]] (by kernel_rfl) (fun K' hK=>by simp only[go_sem,qA,qz,g0,g1,L5,Int.cast_ofNat_Int,Int.reduceToNat,Int.toNat_one,Int.toNat_zero,Nat.reduceMul,Nat.reduceAdd,Nat.zero_mul,Nat.one_mul,Nat.add_zero,List.append_nil,List.length_map];(repeat (refine⟨by first | exact zo | exact ah,?_⟩));(first | refine⟨by rfl,?_⟩ | skip);exact hK _ (by simp only[go_sem]) (by simp only[go_sem]<;>rfl)) ?_
  repeat refine sq ?_
  refine aL hΓ fun K' hK=>?_
  simp only[go_sem,Nat.zero_add,q0,q6,eT,DM,List.append_nil]
  repeat (refine⟨ah,?_⟩)
  refine hK _ ?_
  clear K' hK
  simp only[go_sem]
  refine gL [4,5,8] [[4,0],[5,0],[8,0]] ?_ ?_
  ·simp only[go_sem]
  ·simp only[go_sem]
 ·repeat refine sq ?_
  have hc:¬ o7 x n=true:=by simpa[o7]using hb
  rw[show xv x b n=b from if_neg hc,show qv x n=x.ds.get k from(if_neg hc).trans (by rw[v7])]
  refine av ?_
  refine ct ?_
  simp only[go_sem]
  refine gL [4,5,8] [[4,0],[5,0],[8,0]] ?_ ?_
  ·simp only[go_sem]
  ·simp only[go_sem]
 generalize qv x n=d at lA dz |-
 generalize xv x b n=b at *
 obtain⟨ly,fe⟩:=P0 (n:=n) lA
 obtain⟨dR,zm⟩:=PZ (b:=b) lA ly fe
 obtain⟨Lb,XQ⟩:=PY lA dR zm
 have hE:=cI lA
 have hF:=sj lA
 repeat refine sq ?_
 refine rx hΓ [4,5,8,9,10] [[4,0],[5,0],[8,0],[9,0]] (fun K' hK=>by simp only[go_sem,hE,hF];(repeat (refine⟨ah,?_⟩));exact hK _ (by simp only[go_sem]) (by simp only[go_sem]<;>rfl)) ?_
 repeat refine sq ?_
 refine rx hΓ [4,5,8,9,73] [[4,0],[5,0],[8,0],[9,0]] (fun K' hK=>by simp only[go_sem,hE];(repeat (refine⟨ah,?_⟩));exact hK _ (by simp only[go_sem]) (by simp only[go_sem]<;>rfl)) ?_
 repeat refine sq ?_
 refine au rfl rfl (fun hb=>?_) (fun hb=>?_)
 ·cases hb
 ·repeat refine sq ?_
  refine av ?_
  repeat refine sq ?_
  refine rx hΓ [4,5,8,9,11] [[4,0],[5,0],[8,0],[9,0],[94,0],[100,0],[125,0],[11,0]] (fun K' hK=>by simp only[go_sem];(repeat (refine⟨ah,?_⟩));exact hK _ (by simp only[go_sem]) (by simp only[go_sem]<;>rfl)) ?_
  refine aE (xu 11 [11,0] 63 (by simp only[go_sem]) (by simp only[go_sem]) [4,5,8,9,11] [[4,0],[5,0],[8,0],[9,0],[94,0],[100,0],[125,0],[11,0]] ?_ rfl) ?_
  ·simp only[go_sem]
  simp only[go_sem]
  repeat refine sq ?_
  refine rx hΓ [4,5,8,9,11,12,13] [[4,0],[5,0],[8,0],[9,0],[12,0],[94,0],[100,0],[125,0],[11,0]] (fun K' hK=>by simp only[go_sem,Int.cast_ofNat_Int,Int.reduceToNat,Int.toNat_one,Int.toNat_zero,Nat.reduceMul,Nat.reduceAdd,Nat.zero_mul,Nat.one_mul,Nat.add_zero,List.append_nil];(repeat (refine⟨by first | exact dz | exact ah,?_⟩));exact hK _ (by simp only[go_sem]) (by simp only[go_sem]<;>rfl)) ?_
  repeat refine sq ?_
  refine rx hΓ [4,5,8,9,11,12,13,14,15] [[4,0],[5,0],[8,0],[9,0],[12,0],[14,0],[94,0],[100,0],[125,0],[11,0]] (fun K' hK=>by simp only[go_sem,List.append_nil];(repeat (refine⟨by first | exact dz | exact ah,?_⟩));exact hK _ (by simp only[go_sem]) (by simp only[go_sem]<;>rfl)) ?_
  repeat refine sq ?_
  refine rx hΓ [4,5,8,9,11,12,14,15,90] [[4,0],[5,0],[8,0],[9,0],[12,0],[14,0],[94,0],[100,0],[125,0],[11,0]] (fun K' hK=>by simp only[go_sem];(repeat (refine⟨ah,?_⟩));exact hK _ (by simp only[go_sem]) (by simp only[go_sem]<;>rfl)) ?_
  repeat refine sq ?_
  refine An (aU 214 [0] (fun _=>none) [(4,⟨true,.ref [4,0] 0⟩),(5,⟨true,.ref [5,0] 0⟩),(8,⟨true,.ref [8,0] 0⟩),(9,⟨true,.ref [9,0] 0⟩),(11,⟨true,.msl [11,0] (fT d n).length⟩),(14,⟨true,.ref [14,0] 0⟩),(15,⟨true,.v (vInt (e8 d b))⟩)] [([4,0],.box ((aP b).map .v)),([5,0],.fbox (iy n)),([8,0],.box ((ak d).map .v)),([9,0],.box ((aB (bZ d)).map .v)),([14,0],.box ((ak (e7 d b)).map .v)),([11,0],.arr 63 ((fT d n).map eK))]) rfl rfl (fun hb=>?_) (fun hb=>?_) ?_
  ·repeat refine sq ?_
   rw[show fT d n=[iQ d n.b n.c]from if_pos (by simpa using hb)]
   repeat refine sq ?_
   refine aL hΓ fun K' hK=>?_
   simp only[go_sem,List.map_append,List.map_cons,List.map_nil,List.length_append,List.length_cons,List.length_nil,List.append_nil]
   repeat (refine⟨ah,?_⟩)
   refine hK _ ?_
   clear K' hK
   simp only[go_sem]
   refine gL [4,5,8,9,11,14,15] [[4,0],[5,0],[8,0],[9,0],[14,0],[94,0],[100,0],[125,0],[11,0]] ?_ ?_
   ·simp only[go_sem]
   ·simp only[go_sem,List.map_append,List.map_cons,List.map_nil,List.length_append,List.length_cons,List.length_nil]
  ·repeat refine sq ?_
   rw[show fT d n=[]from if_neg (by simpa using hb)]
   refine av ?_
   refine ct ?_
   simp only[go_sem]
   refine gL [4,5,8,9,11,14,15] [[4,0],[5,0],[8,0],[9,0],[14,0],[94,0],[100,0],[125,0],[11,0]] ?_ ?_
   ·simp only[go_sem]
   ·simp only[go_sem,List.map_append,List.map_cons,List.map_nil,List.length_append,List.length_cons,List.length_nil]
  repeat refine sq ?_
  refine rx hΓ [4,5,8,9,11,14,96] [[4,0],[5,0],[8,0],[9,0],[14,0],[94,0],[100,0],[125,0],[11,0]] (fun K' hK=>by simp only[go_sem];(repeat (refine⟨ah,?_⟩));exact hK _ (by simp only[go_sem]) (by simp only[go_sem]<;>rfl)) ?_
  repeat refine sq ?_
  refine An (aU 214 [0] (fun _=>none) [(5,⟨true,.ref [5,0] 0⟩),(8,⟨true,.ref [8,0] 0⟩),(9,⟨true,.ref [9,0] 0⟩),(11,⟨true,.msl [11,0] (jT d b (fT d n)).length⟩)] [([5,0],.fbox (iy n)),([8,0],.box ((ak d).map .v)),([9,0],.box ((aB (bZ d)).map .v)),([11,0],.arr 63 ((jT d b (fT d n)).map eK))]) rfl rfl (fun hb=>?_) (fun hb=>?_) ?_
  ·repeat refine sq ?_
   have he:e8 d b=0:=by simpa using hb
   rw[show jT d b (fT d n)=fT d n++[e7 d b]from if_pos he]
   obtain⟨LZ,LY⟩:=To lA he
   have zC:=(yf lA he).1.1.sz dz
   repeat refine sq ?_
   refine rx hΓ [4,5,8,9,11,14] [[4,0],[5,0],[8,0],[9,0],[14,0],[94,0],[100,0],[125,0],[11,0]] (fun K' hK=>by simp only[go_sem,List.map_append,List.map_cons,List.map_nil,List.length_append,List.length_cons,List.length_nil,List.append_nil];(repeat (refine⟨ah,?_⟩));exact hK _ (by simp only[go_sem]) (by simp only[go_sem]<;>rfl)) ?_
   repeat refine sq ?_
   refine rx hΓ [5,8,9,11,14,16,17] [[5,0],[8,0],[9,0],[14,0],[16,0],[94,0],[100,0],[125,0],[11,0]] (fun K' hK=>by simp only[go_sem,LZ,LY,List.append_nil];(repeat (refine⟨by first | exact zC | exact ah,?_⟩));exact hK _ (by simp only[go_sem]) (by simp only[go_sem]<;>rfl)) ?_
   repeat refine sq ?_
   refine rx hΓ [5,8,9,11,114] [[5,0],[8,0],[9,0],[94,0],[100,0],[125,0],[11,0]] (fun K' hK=>by simp only[go_sem,LZ,LY,decide_true,Bool.not_true,beq_self_eq_true];(repeat (refine⟨ah,?_⟩));exact hK _ (by simp only[go_sem]) (by simp only[go_sem]<;>rfl)) ?_
   repeat refine sq ?_
   refine au rfl rfl (fun hb=>?_) (fun hb=>?_)
   ·cases hb
   ·repeat refine sq ?_
    refine av ?_
    refine ct ?_
    simp only[go_sem]
    refine gL [5,8,9,11] [[5,0],[8,0],[9,0],[94,0],[100,0],[125,0],[11,0]] ?_ ?_
    ·simp only[go_sem]
    ·simp only[go_sem,List.map_append,List.map_cons,List.map_nil,List.length_append,List.length_cons,List.length_nil]
  ·repeat refine sq ?_
   rw[show jT d b (fT d n)=fT d n from if_neg (by simpa using hb)]
   refine av ?_
   refine ct ?_
   simp only[go_sem]
   refine gL [5,8,9,11] [[5,0],[8,0],[9,0],[94,0],[100,0],[125,0],[11,0]] ?_ ?_
   ·simp only[go_sem]
   ·simp only[go_sem,List.map_append,List.map_cons,List.map_nil,List.length_append,List.length_cons,List.length_nil]
  repeat refine sq ?_
  refine rx hΓ [5,8,9,11,18,19] [[5,0],[8,0],[9,0],[18,0],[94,0],[100,0],[125,0],[11,0]] (fun K' hK=>by simp only[go_sem,List.append_nil];(repeat (refine⟨by first | exact dz | exact ah,?_⟩));exact hK _ (by simp only[go_sem]) (by simp only[go_sem]<;>rfl)) ?_
  repeat refine sq ?_
  refine rx hΓ [5,8,9,11,18,121] [[5,0],[8,0],[9,0],[18,0],[94,0],[100,0],[125,0],[11,0]] (fun K' hK=>by simp only[go_sem];(repeat (refine⟨ah,?_⟩));exact hK _ (by simp only[go_sem]) (by simp only[go_sem]<;>rfl)) ?_
  repeat refine sq ?_
  refine An (aU 214 [0] (fun _=>none) [(5,⟨true,.ref [5,0] 0⟩),(8,⟨true,.ref [8,0] 0⟩),(9,⟨true,.ref [9,0] 0⟩),(11,⟨true,.msl [11,0] (o8 d (jT d b (fT d n))).length⟩)] [([5,0],.fbox (iy n)),([8,0],.box ((ak d).map .v)),([9,0],.box ((aB (bZ d)).map .v)),([11,0],.arr 63 ((o8 d (jT d b (fT d n))).map eK))]) rfl rfl (fun hb=>?_) (fun hb=>?_) ?_
  ·repeat refine sq ?_
   rw[show o8 d (jT d b (fT d n))=jT d b (fT d n)++[jS d]from if_pos (by simpa using hb)]
   repeat refine sq ?_
   refine aL hΓ fun K' hK=>?_
   simp only[go_sem,List.map_append,List.map_cons,List.map_nil,List.length_append,List.length_cons,List.length_nil,List.append_nil]
   repeat (refine⟨ah,?_⟩)
   refine hK _ ?_
   clear K' hK
   simp only[go_sem]
   refine gL [5,8,9,11] [[5,0],[8,0],[9,0],[94,0],[100,0],[125,0],[11,0]] ?_ ?_
   ·simp only[go_sem]
   ·simp only[go_sem,List.map_append,List.map_cons,List.map_nil,List.length_append,List.length_cons,List.length_nil]
  ·repeat refine sq ?_
   rw[show o8 d (jT d b (fT d n))=jT d b (fT d n)from if_neg (by simpa using hb)]
   refine av ?_
   refine ct ?_
   simp only[go_sem]
   refine gL [5,8,9,11] [[5,0],[8,0],[9,0],[94,0],[100,0],[125,0],[11,0]] ?_ ?_
   ·simp only[go_sem]
   ·simp only[go_sem,List.map_append,List.map_cons,List.map_nil,List.length_append,List.length_cons,List.length_nil]
  generalize o8 d (jT d b (fT d n))=nx at Lb XQ |-
  have KW:nx.length<=maxLen:=by unfold maxLen;omega
  repeat refine sq ?_
  refine rx hΓ [5,8,9,11,20] [[5,0],[8,0],[9,0],[94,0],[100,0],[125,0],[11,0]] (fun K' hK=>by simp only[go_sem];(repeat (refine⟨ah,?_⟩));exact hK _ (by simp only[go_sem]) (by simp only[go_sem]<;>rfl)) ?_
  refine aE (A8 11 (.msl [11,0] nx.length) (by simp only[go_sem]) (by simp only[go_sem]) [5,8,9,11,20] [[5,0],[8,0],[9,0],[94,0],[100,0],[125,0],[11,0]] ?_ rfl) ?_
  ·simp only[go_sem]
  simp only[go_sem]
  repeat refine sq ?_
  refine aO ?_
  repeat refine sq ?_
  refine cv (fun s:Nat=>[(20,⟨true,.v (vInt s)⟩)]) (fun s=>[]) (fun s=>s<=nx.length) (fun s=>nx.length-s) 0 ?_ ?_ ?_ ?_
  ·exact Nat.zero_le _
  ·rfl
  ·rfl
  rintro i hi
  simp only[go_sem]
  repeat refine sq ?_
  refine rx hΓ [5,8,9,11,20,129] [[5,0],[8,0],[9,0],[94,0],[100,0],[125,0],[11,0]] (fun K' hK=>by simp only[go_sem];(repeat (refine⟨ah,?_⟩));exact hK _ (by simp only[go_sem]) (by simp only[go_sem]<;>rfl)) ?_
  repeat refine sq ?_
  refine au rfl rfl (fun hb=>?_) (fun hb=>?_)
  ·have ae:i<nx.length:=by simpa using hb
   have ai:(i:Int)<nx.length:=by omega
   clear hb
   have D6:=Lb _ (List.getElem_mem ae)
   have MP:jd nx[i]=0:=cI D6.1
   have MO:wJ nx[i]=bZ d:=(sj D6.1).trans D6.2
   repeat refine sq ?_
   refine av ?_
   repeat refine sq ?_
   refine aO ?_
   repeat refine sq ?_
   refine rx hΓ [5,8,9,11,20,21,22] [[5,0],[8,0],[9,0],[21,0],[94,0],[100,0],[125,0],[11,0]] (fun K' hK=>by simp only[go_sem,wN ae,Int.toNat_natCast,Int.natCast_nonneg,ai,List.length_map,wN ae,Int.toNat_natCast,Int.natCast_nonneg,ai,List.length_map,MP,MO,List.append_nil];(repeat (refine⟨ah,?_⟩));exact hK _ (by simp only[go_sem]) (by simp only[go_sem]<;>rfl)) ?_
   repeat refine sq ?_
   refine rx hΓ [5,8,9,11,20,155] [[5,0],[8,0],[9,0],[94,0],[100,0],[125,0],[11,0]] (fun K' hK=>by simp only[go_sem,wN ae,Int.toNat_natCast,Int.natCast_nonneg,ai,List.length_map,wN ae,Int.toNat_natCast,Int.natCast_nonneg,ai,List.length_map,MP,MO,decide_true,Bool.not_true];(repeat (refine⟨ah,?_⟩));exact hK _ (by simp only[go_sem]) (by simp only[go_sem]<;>rfl)) ?_
   repeat refine sq ?_
   refine au rfl rfl (fun hb=>?_) (fun hb=>?_)
   ·cases hb
   ·repeat refine sq ?_
    refine av ?_
    refine ct ?_
    simp only[go_sem]
    refine kp [5,8,9,11,20] [[5,0],[8,0],[9,0],[94,0],[100,0],[125,0],[11,0]] ?_
    repeat refine sq ?_
    refine aL hΓ fun K' hK=>?_
    simp only[go_sem,wN ae,Int.toNat_natCast,Int.natCast_nonneg,ai,List.length_map]
    repeat (refine⟨ah,?_⟩)
    refine hK _ ?_
    clear K' hK
    simp only[go_sem]
    refine⟨i+1,ae,by(show nx.length-(i+1)<nx.length-i;omega),?_⟩
    refine bk [5,8,9,11,20] [[5,0],[8,0],[9,0],[94,0],[100,0],[125,0],[11,0]] ?_ ?_
    ·simp only[go_sem,aD ae KW,Int.natCast_add,Int.natCast_one,List.length_map]
    ·simp only[go_sem,aD ae KW,Int.natCast_add,Int.natCast_one,List.length_map]
  ·have aW:i=nx.length:=by
    have :¬ (i:Int)<nx.length:=by simpa using hb
    omega
   clear hb
   subst aW
   obtain⟨Xd,hy2⟩:=E2 lA
   obtain⟨fP,lx,pE⟩:=Mk (n:=n.d) lA
   have Zj:=cI Xd.ok
   have Es:=cI fP.ok
   have XK:decide (jZ (oO d)<jZ d)=false:=decide_eq_false (by omega)
   have XJ:decide (jZ (kV d n.d)<jZ d)=false:=decide_eq_false (by omega)
   have LU:wJ (kV d n.d)=(kV d n.d).now:=(sj fP.ok).trans pE
   repeat refine sq ?_
   refine b7 ?_
   simp only[go_sem]
   refine kp [5,8] [[5,0],[8,0]] ?_
   repeat refine sq ?_
   refine rx hΓ [5,8,23,24] [[5,0],[8,0],[23,0]] (fun K' hK=>by simp only[go_sem,hE,List.append_nil];(repeat (refine⟨by first | exact dz | exact ah,?_⟩));exact hK _ (by simp only[go_sem]) (by simp only[go_sem]<;>rfl)) ?_
   repeat refine sq ?_
   refine rx hΓ [8,23,24,25,26] [[8,0],[23,0],[25,0]] (fun K' hK=>by simp only[go_sem,hE,Int.cast_ofNat_Int,Int.reduceToNat,Int.toNat_one,Int.toNat_zero,Nat.reduceMul,Nat.reduceAdd,Nat.zero_mul,Nat.one_mul,Nat.add_zero,List.append_nil];(repeat (refine⟨by first | exact dz | exact ah,?_⟩));exact hK _ (by simp only[go_sem]) (by simp only[go_sem]<;>rfl)) ?_
   repeat refine sq ?_
   refine dx hΓ hP [[],[0],[0,1],[0,1,2],[0,1,2,3],[0,1,2,3,4],[0,1,2,3,4,5],[0,1,2,3,4,5,6],[0,1,2,3,4,5,6,7],[0,1,2,3,4,5,6,7,8],[0,1,2,3,4,5,6,7,8,9],[0,1,2,3,4,5,6,7,8,9,10],[0,1,2,3,4,5,6,7,8,9,10,11],[0,1,2,3,4,5,6,7,8,9,10,11,12],[0,1,2,3,4,5,6,7,8,9,10,11,12,13],[0,1,2,3,4,5,6,7,8,9,10,11,12,13,14],[0,1,2,3,4,5,6,7,8,9,10,11,12,13,14,15],[0,1,2,3,4,5,6,7,8,9,10,11,12,13,14,15,16],[0,1,2,3,4,5,6,7,8,9,10,11,12,13,14,15,16,17],[0,1,2,3,4,5,6,7,8,9,10,11,12,13,14,15,16],[0,1,2,3,4,5,6,7,8,9,10,11,12,13,14,15,16,17,18,19],[0,1,2,3,4,5,6,7,8,9,10,11,12,13,14,15,16,17,18,19,20],[0,1,2,3,4,5,6,7,8,9,10,11,12,13,14,15,16,17,18,19,20,21],[0,1,2,3,4,5,6,7,8,9,10,11,12,13,14,15,16,17,18,19,20,21,22],[0,1,2,3,4,5,6,7,8,9,10,11,12,13,14,15,16,17,18,19,20,21,22,23],[0,1,2,3,4,5,6,7,8,9,10,11,12,13,14,15,16,17,18,19,20,21,22,23,24],[0,1,2,3,4,5,6,7,8,9,10,11,12,13,14,15,16,17,18,19,20,21,22,23],[0,1,2,3,4,5,6,7,8,9,10,11,12,13,14,15,16,17,18,19,20,21,22,23,24,25,26],[0,1,2,3,4,5,6,7,8,9,10,11,12,13,14,15,16,17,18,19,20,21,22,23,24,25,26,27],[0,1,2,3,4,5,6,7,8,9,10,11,12,13,14,15,16,17,18,19,20,21,22,23,24,25,26,27,28]] [25,197] [[25,0]] (by kernel_rfl) (fun K' hK=>by simp only[go_sem,Zj,Es,XK,XJ,Bool.not_true];(repeat (refine⟨ah,?_⟩));(first | refine⟨by rfl,?_⟩ | skip);exact hK _ (by simp only[go_sem]) (by simp only[go_sem]<;>rfl)) ?_
   repeat refine sq ?_
   refine au rfl rfl (fun hb=>?_) (fun hb=>?_)
   ·cases hb
   ·repeat refine sq ?_
    refine av ?_
    repeat refine sq ?_
    refine rx hΓ [25,27,28] [[25,0],[27,0]] (fun K' hK=>by simp only[go_sem,Es,LU,List.append_nil];(repeat (refine⟨ah,?_⟩));exact hK _ (by simp only[go_sem]) (by simp only[go_sem]<;>rfl)) ?_
    repeat refine sq ?_
    refine rx hΓ [6] [] (fun K' hK=>by simp only[go_sem,Es,LU,decide_true,Bool.not_true];(repeat (refine⟨ah,?_⟩));exact hK _ (by simp only[go_sem]) (by simp only[go_sem]<;>rfl)) ?_
    refine an ?_
    simp only[go_sem]
    skip
theorem k4:al Tryz.prog 4 S4:=s4.sound
open Go
def im(P:Program)(t:TypeId):Bool:=match P.underlying t with | some (.struct _)=>true | some (.array _ _)=>true | _=>false
def l4(ag:Bool)(xs:List V):V:=if ag then .agg xs else xs.getD 0 default
def mU(P:Program):List Field->Nat->Nat->Bool
 |[],off,tot=>off==tot
 |f::r,off,tot=>f.offset==off&&mU P r (off+P.cellsOf f.type) tot
def kz(P:Program):Nat->TypeId->Bool
 | 0,_=>false
 |n+1,t=>match P.underlying t with
  |some .bool=>P.cellsOf t==1
  |some (.int _)=>P.cellsOf t==1
  |some .string=>P.cellsOf t==1
  |some (.slice e)=>P.cellsOf t==1&&kz P n e&&decide (0<P.cellsOf e)&&(im P e||P.cellsOf e==1)
  |some (.struct fs)=>mU P fs.toList 0 (P.cellsOf t)&&fs.toList.all fun f=>kz P n f.type
  |some (.array m e)=>P.cellsOf t==m*P.cellsOf e&&kz P n e
  |_=>false
def xe(S:TypeId->List V->Prop):List TypeId->List V->Prop
 |[],xs=>xs=[]
 |t::r,xs=>∃ a b,xs=a++b/\S t a/\xe S r b
def eX(P:Program):Nat->TypeId->List V->Prop
 | 0,_,_=>False
 |n+1,t,xs=>match P.underlying t with
  |some .bool=>∃ b,xs=[.bool b]
  |some (.int k)=>∃ z,xs=[.int k z]/\(Lit.int k z).wf=true
  |some .string=>∃ s,xs=[.str s]/\s.size<=maxLen
  |some (.slice e)=>∃ ls:List (List V),xs=[.sl (ls.map (l4 (im P e)))]/\ls.length<=maxLen/\∀ y∈ls,eX P n e y
  |some (.struct fs)=>xe (eX P n) (fs.toList.map (·.type)) xs
  |some (.array m e)=>xe (eX P n) (List.replicate m e) xs
  |_=>False
structure iM (m:Mem) (xs:List V) (cs:List Value):Prop where
 len:xs.length=cs.length
 rep:∀ i (h:i<xs.length) (h':i<cs.length),aC m xs[i] cs[i]
 one:∀ x∈xs,x.one=true
theorem iM.nil(m:Mem):iM m [] []:=⟨rfl,fun i h=>by simp at h,fun x h=>by simp at h⟩
theorem iM.append{m:Mem}{xs ys:List V}{cs ds:List Value}(h:iM m xs cs)(k:iM m ys ds):iM m (xs++ys) (cs++ds):=by
 refine⟨by simp[h.len,k.len],fun i h1 h2=>?_,fun x hx=>?_⟩
 ·by_cases hi:i<xs.length
  ·rw[List.getElem_append_left hi,List.getElem_append_left (by rw[<-h.len];exact hi)]
   exact h.rep i hi _
  ·have hl:=h.len
   have e:i-xs.length=i-cs.length:=by rw[hl]
   rw[List.getElem_append_right (by omega),List.getElem_append_right (by omega)]
   simp only[List.length_append]at h1 h2
   have :=k.rep (i-xs.length) (by omega) (by rw[<-k.len];omega)
   simp only[e]at this |-
   exact this
 ·rcases List.mem_append.1 hx with hx | hx
  ·exact h.one x hx
  ·exact k.one x hx
theorem iM.single{m:Mem}{x:V}{u:Value}(h:aC m x u)(ho:x.one=true):iM m [x] [u]:=
 ⟨rfl,fun i h1 h2=>by simp at h1;subst h1;exact h,fun y hy=>by simp at hy;subst hy;exact ho⟩
theorem mapM_some{α β:Type}{f:α->Option β}:∀ {l:List α} {r:List β},l.mapM f=some r->r.length=l.length/\∀ i (h:i<l.length) (h':i<r.length),f l[i]=some r[i]
 |[],r,h=>by
  simp only[List.mapM_nil]at h
  cases h
  exact⟨rfl,fun i h=>by simp at h⟩
 |a::l,r,h=>by
  simp only[List.mapM_cons,Option.bind_eq_bind,Option.bind_eq_some_iff]at h
  obtain⟨b,hb,bs,zM,hr⟩:=h
  cases hr
  obtain⟨h1,h2⟩:=mapM_some zM
  refine⟨by simp[h1],fun i hi bx=>?_⟩
  cases i with
  |zero=>exact hb
  |succ i=>exact h2 i (by simpa using hi) (by simpa using bx)
theorem GF{P:Program}:∀ {fs:List Field} {off tot:Nat},mU P fs off tot=true->off<=tot
 |[],off,tot,h=>by simp[mU]at h;omega
 |f::r,off,tot,h=>by
  simp only[mU,Bool.and_eq_true]at h
  have :=GF h.2
  omega
theorem Mz{P:Program}{m:Mem}{S:TypeId->List V->Prop}{cs:List Value}:∀ {fs:List Field} {off:Nat},mU P fs off cs.length=true->
 (∀ f∈fs,∃ xs,S f.type xs/\iM m xs ((cs.drop f.offset).take (P.cellsOf f.type)))->∃ xs,xe S (fs.map (·.type)) xs/\iM m xs (cs.drop off)
 |[],off,h,_=>by
  simp[mU]at h
  subst h
  exact⟨[],rfl,by simpa using iM.nil m⟩
 |f::r,off,h,hf=>by
  simp only[mU,Bool.and_eq_true,beq_iff_eq]at h
  obtain⟨h1,h2⟩:=h
  obtain⟨a,ha,Dl⟩:=hf f (by simp)
  obtain⟨b,hb,Dj⟩:=Mz h2 fun g hg=>hf g (by simp[hg])
  refine⟨a++b,⟨a,b,rfl,ha,hb⟩,?_⟩
  have e:cs.drop off=(cs.drop f.offset).take (P.cellsOf f.type)++cs.drop (off+P.cellsOf f.type):=by
   rw[h1,<-List.drop_drop,List.take_append_drop]
  rw[e]
  exact Dl.append Dj
theorem On{m:Mem}{S:TypeId->List V->Prop}{e:TypeId}{k:Nat}{cs:List Value}:∀ (n off:Nat),cs.length=(off+n)*k->
 (∀ i,i<off+n->∃ xs,S e xs/\iM m xs ((cs.drop (i*k)).take k))->∃ xs,xe S (List.replicate n e) xs/\iM m xs (cs.drop (off*k))
 | 0,off,h,_=>by
   have :cs.drop (off*k)=[]:=List.drop_eq_nil_of_le (by rw[h];simp)
   rw[this]
   exact⟨[],rfl,iM.nil m⟩
 |n+1,off,h,hf=>by
  obtain⟨a,ha,Dl⟩:=hf off (by omega)
  obtain⟨b,hb,Dj⟩:=On n (off+1) (by rw[h];congr 1;omega) fun i hi=>hf i (by omega)
  refine⟨a++b,⟨a,b,rfl,ha,hb⟩,?_⟩
  have e:cs.drop (off*k)=(cs.drop (off*k)).take k++cs.drop ((off+1)*k):=by
   rw[Nat.succ_mul,<-List.drop_drop,List.take_append_drop]
  rw[e]
  exact Dl.append Dj
theorem SV{ag:Bool}{xs:List V}(h:ag=true\/xs.length=1)(ho:∀ x∈xs,x.one=true):(l4 ag xs).cells=xs:=by
 cases ag with
 |true=>rfl
 |false=>
  rcases h with h | h
  ·cases h
  match xs,h with
  |[x],_=>
   have :=ho x (by simp)
   show x.cells=[x]
   cases x<;>first | rfl | (simp[V.one]at this)
def kF(w:World):Mem:=fun b off=>w.cell? ⟨b,off,none⟩
theorem Ov{a:Addr}(h:a.spot=none)(n:Nat):a.add n=⟨a.block,a.off+n,none⟩:=by
 obtain⟨b,o,s⟩:=a
 simp only at h
 subst h
 unfold Addr.add
 split
 ·rename_i e;subst e;rfl
 ·rfl
theorem xS{H:Type}{enc:TypeId×Value->H}{P:Program}{w:World}{base:Nat}{spare:Nat->Bool}{held:Bool}:
 ∀ (n fuel:Nat) (t:TypeId) (cs:List Value) (r:DataW H×List MemPlace),kz P n t=true->cs.length=P.cellsOf t->DataW.trod enc P w base spare held fuel t cs=some r->∃ xs,eX P n t xs/\iM (kF w) xs cs
 | 0,_,_,_,_,h,_,_=>by simp[kz]at h
 |n+1,0,_,_,_,_,_,h=>by simp[DataW.trod]at h
 |n+1,fuel+1,t,cs,r,hp,hlen,h=>by
  rw[DataW.trod_step]at h
  unfold DataW.trodStep at h
  unfold kz at hp
  unfold eX
  rcases hu:P.underlying t with _ | u
  ·rw[hu]at hp;simp at hp
  rw[hu]at hp h
  cases u with
  |bool=>
   have hb:∃ b,cs=[.bool b]:=by
    simp only at h
    split at h<;>simp_all
   obtain⟨b,rfl⟩:=hb
   exact⟨_,⟨b,rfl⟩,.single (.bool _) rfl⟩
  |int k=>
   simp only at hp h |-
   split at h<;>simp_all
   obtain⟨⟨rfl,h1⟩,_⟩:=h
   exact⟨_,⟨_,rfl,h1⟩,.single (.int _ _) rfl⟩
  |string=>
   simp only at hp h |-
   split at h<;>simp_all
   obtain⟨h1,_⟩:=h
   exact⟨_,⟨_,rfl,h1⟩,.single (.str _ h1) rfl⟩
  |slice e=>
   simp only[Bool.and_eq_true,decide_eq_true_eq,Bool.or_eq_true,beq_iff_eq]at hp |-
   obtain⟨⟨⟨_,iA⟩,bY⟩,YO⟩:=hp
   split at h<;>simp_all
   ·exact⟨_,⟨[],rfl,Nat.zero_le _,by simp⟩,.single (.slnil _ _) rfl⟩
   ·rename_i e' a len cap _ _
    obtain⟨⟨hb,X0,hcm⟩,h⟩:=h
    simp only[Option.bind_eq_some_iff]at h
    obtain⟨elems,oF,_⟩:=h
    obtain⟨l1,l2⟩:=mapM_some oF
    simp only[List.length_range]at l1
    have hx:∀ i,i<len->∃ xs cells,w.cells? base (a.add (i*P.cellsOf e')) (P.cellsOf e')=some cells/\eX P n e' xs/\iM (kF w) xs cells:=by
     intro i hi
     have h3:=l2 i (by simpa using hi) (by omega)
     simp only[List.getElem_range,Option.bind_eq_some_iff]at h3
     obtain⟨cells,h4,h5⟩:=h3
     obtain⟨xs,h6,h7⟩:=xS n fuel _ _ _ iA (World.cells?_some h4).2.1 h5
     exact⟨xs,cells,h4,h6,h7⟩
    rcases Nat.eq_zero_or_pos len with hz | XD
    ·subst hz
     exact⟨[.sl []],⟨[],rfl,Nat.zero_le _,by simp⟩,.single (.slnil _ _) rfl⟩
    have Dc:a.spot=none:=by
     obtain⟨xs,cells,h4,_⟩:=hx 0 XD
     have h8:=(World.cells?_some h4).2.2 0 bY
     have h9:=(World.cells?_some h4).2.1
     have sd:w.cell? ((a.add (0*P.cellsOf e')).add 0)=some (cells[0]'(by omega)):=by rw[h8];exact List.getElem?_eq_getElem (by omega)
     simpa[Addr.add]using World.cell?_spot sd
    let X:Nat->List V:=fun i=>if h:i<len then Classical.choose (hx i h)else[]
    let C:Nat->List Value:=fun i=>(w.cells? base (a.add (i*P.cellsOf e')) (P.cellsOf e')).getD []
    have hX:∀ i,i<len->eX P n e' (X i)/\iM (kF w) (X i) (C i)/\(C i).length=P.cellsOf e'/\∀ j,j<P.cellsOf e'->w.cell? ⟨a.block,a.off+i*P.cellsOf e'+j,none⟩=(C i)[j]?:=by
     intro i hi
     obtain⟨cells,h4,h6,h7⟩:=Classical.choose_spec (hx i hi)
     have e1:X i=Classical.choose (hx i hi):=dif_pos hi
     have e2:C i=cells:=by show (w.cells? _ _ _).getD []=cells;rw[h4];rfl
     rw[e1,e2]
     refine⟨h6,h7,(World.cells?_some h4).2.1,fun j hj=>?_⟩
     have h8:=(World.cells?_some h4).2.2 j hj
     rw[Ov Dc,Ov rfl]at h8
     exact h8
    have kM:∀ i,i<len->(l4 (im P e') (X i)).cells=X i:=fun i hi=>by
     obtain⟨h1,h2,h3,_⟩:=hX i hi
     refine SV ?_ h2.one
     rcases YO with h | h
     ·exact .inl h
     ·exact .inr (by rw[h2.len,h3,h])
    refine⟨[.sl (((List.range len).map X).map (l4 (im P e')))],⟨(List.range len).map X,rfl,by simp;omega,fun y hy=>?_⟩,.single ?_ rfl⟩
    ·simp only[List.mem_map,List.mem_range]at hy
     obtain⟨i,hi,rfl⟩:=hy
     exact(hX i hi).1
    ·obtain⟨b,o,s⟩:=a
     simp only at Dc hX
     subst Dc
     have key:=aC.sl (m:=kF w) (((List.range len).map X).map (l4 (im P e'))) b o cap (P.cellsOf e') (fun i j=>((C i)[j]?).getD undef) (by
         intro h;have:=congrArg List.length h;simp at this;omega) (by simp;omega) (by simpa using X0)
      (fun i hi=>by
        have bx:i<len:=by simpa using hi
        obtain⟨h1,h2,h3,_⟩:=hX i bx
        simp only[List.getElem_map,List.getElem_range]
        rw[kM i bx,h2.len,h3])
      (fun i j hi hj=>by
        have bx:i<len:=by simpa using hi
        obtain⟨h1,h2,h3,h4⟩:=hX i bx
        show w.cell? _=_
        rw[h4 j hj,List.getElem?_eq_getElem (by omega)]
        rfl)
      (fun i j hi hj=>by
        have bx:i<len:=by simpa using hi
        obtain⟨h1,h2,h3,h4⟩:=hX i bx
        simp only[List.getElem_map,List.getElem_range,kM i bx]at hj |-
        have eA:j<(C i).length:=by rw[<-h2.len];exact hj
        rw[List.getElem?_eq_getElem eA]
        exact h2.rep j hj eA)
      (fun i hi x hx=>by
        have bx:i<len:=by simpa using hi
        simp only[List.getElem_map,List.getElem_range,kM i bx]at hx
        exact(hX i bx).2.1.one x hx)
     simpa using key
  |struct fs=>
   simp only[Bool.and_eq_true,List.all_eq_true]at hp h |-
   obtain⟨ht,ei⟩:=hp
   rw[if_pos hlen]at h
   simp only[Option.map_eq_some_iff]at h
   obtain⟨ys,C2,_⟩:=h
   obtain⟨l1,l2⟩:=mapM_some C2
   have :=Mz (m:=kF w) (S:=eX P n) (cs:=cs) (fs:=fs.toList) (off:=0) (by rw[hlen];exact ht) fun f hf=>by
    obtain⟨i,hi,rfl⟩:=List.mem_iff_getElem.1 hf
    have h3:=l2 i hi (by omega)
    have hle:P.cellsOf fs.toList[i].type<=(cs.drop fs.toList[i].offset).length:=by
     have key:∀ (l:List Field) (off tot:Nat),mU P l off tot=true->∀ f∈l,f.offset+P.cellsOf f.type<=tot:=by
      intro l
      induction l with
      |nil=>intro _ _ _ f hf;simp at hf
      |cons g r ih=>
       intro off tot h f hf
       simp only[mU,Bool.and_eq_true,beq_iff_eq]at h
       rcases List.mem_cons.1 hf with rfl | hf
       ·have:=GF h.2;omega
       ·exact ih _ _ h.2 f hf
     have :=key _ _ _ ht _ hf
     simp only[List.length_drop]
     omega
    exact xS n fuel _ _ _ (ei _ hf) (by rw[List.length_take];omega) h3
   simpa using this
  |array m e=>
   simp only[Bool.and_eq_true,beq_iff_eq]at hp h |-
   obtain⟨ht,iA⟩:=hp
   rw[if_pos hlen]at h
   simp only[Option.map_eq_some_iff]at h
   obtain⟨ys,C2,_⟩:=h
   obtain⟨l1,l2⟩:=mapM_some C2
   have :=On (m:=kF w) (S:=eX P n) (e:=e) (k:=P.cellsOf e) (cs:=cs) m 0 (by rw[hlen,ht];simp) fun i hi=>by
    have bx:i<m:=by omega
    have h3:=l2 i (by simpa using bx) (by rw[l1];simpa using bx)
    simp only[List.getElem_range]at h3
    have hle:i*P.cellsOf e+P.cellsOf e<=cs.length:=by
     rw[hlen,ht,<-Nat.succ_mul];exact Nat.mul_le_mul_right _ bx
    exact xS n fuel _ _ _ iA (by rw[List.length_take,List.length_drop];omega) h3
   simpa using this
  |_=>simp at hp
end Go.Eng
