import Derived.Test.YtckmfkgppohnmaaDoorK15
import GoSem.ClaimChange
import Derived.DataReads
import Derived.ChangeReads
/- Texts LS to EngR. -/
set_option linter.all false
namespace Go.Eng
open Go Go.Proofs
theorem SV:aZ Tryd.prog 10 ⟨fun xs=>xs=[],fun _=>.bool true,true⟩:=
 Ts (b:=.bool true) J0 (by
  intro fn h
  have e:Tryd.prog.funcs[10]?=some Tryd.f10:=Tryd.func10
  rw[e]at h
  obtain rfl:=Option.some.inj h
  exact(by kernel_rfl:(Tryd.f10.name== "runtime.NumGoroutine")=false)) (by decide) rfl
noncomputable def Pc:PSpec:=⟨fun xs=>xs=[],fun _=>.bool true,true⟩
noncomputable def S19:Spec:=Pc.toSpec
theorem KP:ak Tryd.prog 10 S19:=SV.sound
attribute [go_sem] Pc S19
set_option maxRecDepth 20000
def Xt:En (Int×Int×Int):=⟨fun n=>.agg [vInt n.1,vInt n.2.1,vInt n.2.2],fun v=>match v with | .agg [.int _ a,.int _ b,.int _ c]=>(a,b,c) | _=>(0,0,0)⟩
attribute [go_sem] Xt
noncomputable def Pm:List (Nat×Spec):=[(14,S8),(15,S10),(16,S12),(31,S14),(18,S16),(10,S19)]
theorem aij:∀ f s,tbl Pm f=some s->ak Tryd.prog f s:=tc k8<|tc KT<|tc KR<|tc WS<|tc KQ<|tc KP<|tn
attribute [go_sem] Pm
structure Act where
 (kd dk pp to pi:Int)
 deriving Inhabited,DecidableEq
def o3(a:Act):List V:=[vInt a.kd,vInt a.dk,vInt a.pp,vInt a.to,vInt a.pi]
def C':En Act:=⟨fun a=>.agg (o3 a),fun v=>match v with | .agg [.int _ a,.int _ b,.int _ c,.int _ d,.int _ e]=>⟨a,b,c,d,e⟩ | _=>default⟩
def dn(n:Int):List Int:=[10*n+1,10*n+4,10*n+7]
def nj(l:List Int)(n:Int):Int:=if l=[]then 1 else l.getD (n % (l.length:Int)).toNat 0
theorem ZZ{l:List Int}{i:Nat}(h:i<l.length):(l.map vInt).getD i default=vInt (l.getD i 0):=by
 simp[List.getD_eq_getElem?_getD,List.getElem?_eq_getElem h]
theorem Tz{l:List Int}{n:Int}(h:l≠[]):nj l n=l.getD (n % (l.length:Int)).toNat 0:=if_neg h
noncomputable def P108:PSpec:=p1 iI (fun n=>0<=n/\n<6) (fun n=>.sl ((dn n).map vInt)) false
noncomputable def S108:Spec:=P108.toSpec
attribute [go_sem] P108 S108
theorem S6:aZ Tryd.prog 29 P108:=by
 refine w1 (rs:=[.tmp 2]) Tryd.func29 Tryd.ntmps29 (by rfl) (by kernel_rfl) (by decide) (fun h=>by cases h) ⟨_,rfl,lb rfl,fun n hp hw=>?_⟩
 have hP:=br
 simp only[iI]at hw |-
 have hΓ:=@kE Tryd.prog
 obtain⟨h0,h6⟩:=hp
 have w1:IntKind.i64.wrap (10*n)=10*n:=wrap_i64 (by omega) (by omega)
 have w2:IntKind.i64.wrap (10*n+1)=10*n+1:=wrap_i64 (by omega) (by omega)
 have w3:IntKind.i64.wrap (10*n+4)=10*n+4:=wrap_i64 (by omega) (by omega)
 have w4:IntKind.i64.wrap (10*n+7)=10*n+7:=wrap_i64 (by omega) (by omega)
 repeat refine sq ?_
 refine rs hΓ [0] [] ?_
 repeat refine sq ?_
 refine rx hΓ [2] [] (fun K' hK=>by simp only[go_sem,w1,w2,w3,w4];(repeat (refine⟨ob,?_⟩));exact hK _ (by simp only[go_sem]) (by simp only[go_sem]<;>rfl)) ?_
 refine ax ?_
 simp only[go_sem]
 first | rfl
theorem WY:ak Tryd.prog 29 S108:=S6.sound
noncomputable def Pl:List (Nat×Spec):=[(12,S21)]
theorem ach:∀ f s,tbl Pl f=some s->ak Tryd.prog f s:=tc CY<|tn
attribute [go_sem] Pl
noncomputable def P121:PSpec:=p2 dJ iI (fun l _=>l.length<=1000000) (fun l n=>vInt (nj l n)) true
noncomputable def S121:Spec:=P121.toSpec
attribute [go_sem] P121 S121
theorem SZ:aZ Tryd.prog 61 P121:=by
 refine w2 (rs:=[.tmp 4]) Tryd.func61 Tryd.ntmps61 (by rfl) (by kernel_rfl) (by decide) (fun _ _ _=>rfl) ⟨_,rfl,lb rfl,fun l n hp hw=>?_⟩
 have hP:=br
 simp only[iI,dJ]at hw |-
 have hΓ:=ach
 replace hp:l.length<=1000000:=hp
 repeat refine sq ?_
 refine rs hΓ [0,1] [] ?_
 repeat refine sq ?_
 refine rs hΓ [0,1,7] [] ?_
 repeat refine sq ?_
 refine aD rfl rfl (fun hb=>?_) (fun hb=>?_)
 ·repeat refine sq ?_
  have e:l=[]:=by simpa using hb
  repeat refine sq ?_
  refine rs hΓ [4] [] ?_
  refine ax ?_
  simp only[go_sem]
  first | (subst e;rfl) | (rw[gp];done) | (rw[gp];rfl)
 ·repeat refine sq ?_
  have aj:l≠[]:=by simpa using hb
  have bR:0<l.length:=List.length_pos_iff.2 aj
  have hm:(0:Int)<(l.length:Int)/\(l.length:Int)<=1000000:=⟨by omega,by omega⟩
  have g0:=Int.emod_nonneg n (by omega:(l.length:Int)≠0)
  have g1:=Int.emod_lt_of_pos n hm.1
  have gk:(n % (l.length:Int)).toNat<l.length:=by omega
  have gd:=ZZ gk
  have gp:=Tz (n:=n) aj
  refine aI ?_
  repeat refine sq ?_
  refine rx hΓ [4] [] (fun K' hK=>by simp only[go_sem,g0,g1,gk,gd];(repeat (refine⟨by first | exact hm | exact ob,?_⟩));exact hK _ (by simp only[go_sem]) (by simp only[go_sem]<;>rfl)) ?_
  refine ax ?_
  simp only[go_sem]
  first | (subst e;rfl) | (rw[gp];done) | (rw[gp];rfl)
theorem WU:ak Tryd.prog 61 S121:=SZ.sound
@[go_sem] theorem ah4(a:Act):(o3 a).length=5:=rfl
@[go_sem] theorem ah9(a:Act):(o3 a).getD 0 default=vInt a.kd:=rfl
@[go_sem] theorem ah8(a:Act):(o3 a).getD 1 default=vInt a.dk:=rfl
@[go_sem] theorem ah7(a:Act):(o3 a).getD 2 default=vInt a.pp:=rfl
@[go_sem] theorem ah6(a:Act):(o3 a).getD 3 default=vInt a.to:=rfl
@[go_sem] theorem ah5(a:Act):(o3 a).getD 4 default=vInt a.pi:=rfl
@[go_sem] theorem af'(a:Act):C'.dec (.agg (o3 a))=a:=rfl
noncomputable def Pk:List (Nat×Spec):=[(61,S121)]
theorem acg:∀ f s,tbl Pk f=some s->ak Tryd.prog f s:=tc WU<|tn
attribute [go_sem] Pk
noncomputable def P109:PSpec:=p2 C' dK (fun _ d=>d.now.ho.length<=1000000) (fun a d=>vInt (nj d.now.ho a.pp)) true
noncomputable def S109:Spec:=P109.toSpec
attribute [go_sem] P109 S109
theorem S5:aZ Tryd.prog 30 P109:=by
 refine w2 (rs:=[.tmp 4]) Tryd.func30 Tryd.ntmps30 (by rfl) (by kernel_rfl) (by decide) (fun _ _ _=>rfl) ⟨_,rfl,lb rfl,fun a d hp hw=>?_⟩
 have hP:=br
 simp only[C',dK]at hw |-
 have hΓ:=acg
 replace hp:d.now.ho.length<=1000000:=hp
 repeat refine sq ?_
 refine rs hΓ [2,3] [[2,0],[3,0]] ?_
 refine bq (dS [2,0] (o3 a) rfl [2,3] [[2,0],[3,0]] ?_ rfl) ?_
 ·simp only[go_sem]
 simp only[go_sem]
 refine bq (dS [3,0] (an d) rfl [2,3] [[2,0],[3,0]] ?_ rfl) ?_
 ·simp only[go_sem]
 simp only[go_sem]
 repeat refine sq ?_
 refine rx hΓ [4] [] (fun K' hK=>by simp only[go_sem,hp];(repeat (refine⟨by first | exact hp | exact ob,?_⟩));exact hK _ (by simp only[go_sem]) (by simp only[go_sem]<;>rfl)) ?_
 refine ax ?_
 simp only[go_sem]
 skip
theorem af5:ak Tryd.prog 30 S109:=S5.sound
def Cm(d:Dk)(i:Nat):Bool:=((i:Int) != d.wet)&&aE d.me (d.pg i)
def od(d:Dk):Nat->Int
 | 0=> -1
 |i+1=>if Cm d i=true then(if (d.pg i).co>od d i then(d.pg i).co else od d i)else od d i
def oc(d:Dk):Int:=od d 2
theorem afP{d:Dk}{i:Nat}(h:Cm d i=true):od d (i+1)=(if (d.pg i).co>od d i then(d.pg i).co else od d i):=if_pos h
theorem afQ{d:Dk}{i:Nat}(h:Cm d i=false):od d (i+1)=od d i:=if_neg (by rw[h];decide)
noncomputable def Pj:List (Nat×Spec):=[]
theorem aii:∀ f s,tbl Pj f=some s->ak Tryd.prog f s:=tn
attribute [go_sem] Pj
set_option maxRecDepth 100000
theorem Y'{l:List Int}{x:Int}{i:Nat}(h:i<l.length)(e:l[i]=x):bp l x=true:=by
 unfold bp
 rw[List.contains_iff_mem]
 exact e▸List.getElem_mem h
theorem Y9{l:List Int}{x:Int}(h:∀ k (hk:k<l.length),(l[k]==x)=false):bp l x=false:=by
 unfold bp
 rw[Bool.eq_false_iff]
 intro hc
 rw[List.contains_iff_mem]at hc
 obtain⟨k,hk,e⟩:=List.getElem_of_mem hc
 have :=h k hk
 rw[e]at this
 simp at this
noncomputable def P519:PSpec:=p2 dJ iI (fun _ _=>True) (fun l x=>.bool (bp l x)) true
noncomputable def S519:Spec:=P519.toSpec
attribute [go_sem] P519 S519
theorem SG:aZ Tryd.prog 19 P519:=by
 refine w2 (rs:=[.tmp 4]) Tryd.func19 Tryd.ntmps19 (by rfl) (by kernel_rfl) (by decide) (fun _ _ _=>rfl) ⟨_,rfl,lb rfl,fun l x hp hw=>?_⟩
 have hP:=br
 simp only[iI,dJ]at hw |-
 have hΓ:=@kE Tryd.prog
 have hl:l.length<=maxLen:=by have:=hw.1.1;simpa using this
 repeat refine sq ?_
 refine rx hΓ [0,1] [] (fun K' hK=>by simp only[go_sem];(repeat (refine⟨ai,?_⟩));exact hK _ (by simp only[go_sem]) (by simp only[go_sem]<;>rfl)) ?_
 repeat refine sq ?_
 refine rx hΓ [0,1,5] [] (fun K' hK=>by simp only[go_sem];(repeat (refine⟨ai,?_⟩));exact hK _ (by simp only[go_sem]) (by simp only[go_sem]<;>rfl)) ?_
 repeat refine sq ?_
 refine a8 ?_
 repeat refine sq ?_
 refine dR (fun z:Nat=>[(5,⟨true,.v (vInt z)⟩)]) (fun z=>[]) (fun z=>z<=l.length/\∀ k (h:k<l.length),k<z->(l[k]==x)=false) (fun z=>l.length-z) 0 ?_ ?_ ?_ ?_
 ·exact⟨Nat.zero_le _,fun k h hk=>absurd hk (by omega)⟩
 ·rfl
 ·rfl
 rintro i ⟨hi,hR⟩
 simp only[go_sem]
 repeat refine sq ?_
 refine rx hΓ [0,1,5,9] [] (fun K' hK=>by simp only[go_sem];(repeat (refine⟨ai,?_⟩));exact hK _ (by simp only[go_sem]) (by simp only[go_sem]<;>rfl)) ?_
 repeat refine sq ?_
 refine aD rfl rfl (fun hb=>?_) (fun hb=>?_)
 ·have ae:i<l.length:=by simpa using hb
  have aq:(i:Int)<l.length:=by omega
  clear hb
  repeat refine sq ?_
  refine aI ?_
  repeat refine sq ?_
  refine a8 ?_
  repeat refine sq ?_
  refine rx hΓ [0,1,5,17] [] (fun K' hK=>by simp only[go_sem,aK ae,Int.toNat_natCast,Int.natCast_nonneg,aq,aK ae,Int.toNat_natCast,Int.natCast_nonneg,aq];(repeat (refine⟨ai,?_⟩));exact hK _ (by simp only[go_sem]) (by simp only[go_sem]<;>rfl)) ?_
  repeat refine sq ?_
  refine aD rfl rfl (fun hb=>?_) (fun hb=>?_)
  ·repeat refine sq ?_
   have e:bp l x=true:=Y' ae (by simpa using hb)
   repeat refine sq ?_
   refine rx hΓ [4] [] (fun K' hK=>by simp only[go_sem,aK ae,Int.toNat_natCast,Int.natCast_nonneg,aq];(repeat (refine⟨ai,?_⟩));exact hK _ (by simp only[go_sem]) (by simp only[go_sem]<;>rfl)) ?_
   refine ax ?_
   simp only[go_sem]
   rw[e]
  ·repeat refine sq ?_
   refine aI ?_
   refine eo ?_
   simp only[go_sem]
   refine kp [0,1,5] [] ?_
   repeat refine sq ?_
   refine bc hΓ fun K' hK=>?_
   simp only[go_sem,aK ae,Int.toNat_natCast,Int.natCast_nonneg,aq]
   repeat (refine⟨ai,?_⟩)
   refine hK _ ?_
   clear K' hK
   simp only[go_sem]
   refine⟨i+1,⟨ae,?_⟩,by(show l.length-(i+1)<l.length-i;omega),?_⟩
   ·intro k hk kJ
    rcases Nat.lt_succ_iff_lt_or_eq.1 kJ with h5 | rfl
    ·exact hR k hk h5
    ·exact hb
   refine bJ [0,1,5] [] ?_ ?_
   ·simp only[go_sem,aM ae hl,Int.natCast_add,Int.natCast_one]
   ·simp only[go_sem,aM ae hl,Int.natCast_add,Int.natCast_one]
 ·have bo:i=l.length:=by
   have :¬ (i:Int)<l.length:=by simpa using hb
   omega
  clear hb
  subst bo
  repeat refine sq ?_
  refine di ?_
  simp only[go_sem]
  refine kp [] [] ?_
  repeat refine sq ?_
  refine rx hΓ [4] [] (fun K' hK=>by simp only[go_sem];(repeat (refine⟨ai,?_⟩));exact hK _ (by simp only[go_sem]) (by simp only[go_sem]<;>rfl)) ?_
  refine ax ?_
  simp only[go_sem]
  rw[Y9 fun k hk=>hR k hk hk]
theorem WL:ak Tryd.prog 19 S519:=SG.sound
structure Sx where
 ds:aR Dk
 bs:List Bag
def fL(x:Sx):List V:=an x.ds.a++(an x.ds.b++(an x.ds.c++(an x.ds.d++(an x.ds.e++(an x.ds.f++[.sl (x.bs.map kT)])))))
def zX:Sx:=⟨fM fun _=>zD,[]⟩
@[go_sem] theorem Ra(x:Sx):(fL x).length=379:=by kernel_rfl
@[go_sem] theorem Rb(x:Sx):(fL x).take 379=fL x:=by kernel_rfl
@[go_sem] theorem Q'(x:Sx):((fL x).map D.v).length=379:=by rw[List.length_map];exact Ra x
@[go_sem] theorem ae3(x:Sx):((fL x).map D.v).take 379=(fL x).map D.v:=by rw[<-List.map_take,Rb]
@[go_sem] theorem ae1(x:Sx):((fL x).map D.v).drop 379=[]:=by rw[List.drop_eq_nil_iff,Q'];exact Nat.le_refl _
@[go_sem] theorem ae5(x:Sx):(fL x).getD 378 default=.sl (x.bs.map kT):=by kernel_rfl
theorem ae4(x:Sx){i:Nat}(h:i<6):((fL x).drop (i*63)).take 63=an (x.ds.get i):=
 ia (P:=fun i=>((fL x).drop (i*63)).take 63=an (x.ds.get i)) (by kernel_rfl) (by kernel_rfl) (by kernel_rfl) (by kernel_rfl) (by kernel_rfl) (by kernel_rfl) h
theorem Q9(x:Sx)(d:Dk){i:Nat}(h:i<6):List.take (i*63) (List.map D.v (fL x))++List.map D.v (an d)++List.drop (i*63+63) (List.map D.v (fL x))=List.map D.v (fL ⟨x.ds.set i d,x.bs⟩):=
 ia (P:=fun i=>List.take (i*63) (List.map D.v (fL x))++List.map D.v (an d)++List.drop (i*63+63) (List.map D.v (fL x))=List.map D.v (fL ⟨x.ds.set i d,x.bs⟩)) (by kernel_rfl) (by kernel_rfl) (by kernel_rfl) (by kernel_rfl) (by kernel_rfl) (by kernel_rfl) h
theorem ae2(x:Sx)(l:List Bag):List.take 378 (List.map D.v (fL x))++[D.v (.sl (l.map kT))]++List.drop 379 (List.map D.v (fL x))=List.map D.v (fL ⟨x.ds,l⟩):=by kernel_rfl
def lC:Nat->Sx
 | 0=>zX
 |z+1=>⟨(lC z).ds.set z (pF z (dn z)),[]⟩
theorem Aw:∀ z,(lC z).bs=[]
 | 0=>rfl
 |_+1=>rfl
theorem ahR{i:Nat}(h:i<6):List.take (i*63) (List.map D.v (fL (lC i)))++List.map D.v (an (pF i (dn i)))++List.drop (i*63+63) (List.map D.v (fL (lC i)))=List.map D.v (fL (lC (i+1))):=by
 rw[Q9 _ _ h,Aw];rfl
def p0(g:V)(fl:Bool):PSpec:=⟨fun xs=>xs=[],fun _=>g,fl⟩
theorem w0{P:Program}{f:FuncId}{fn:Func}{nt:Nat}{rs:List ResultVar}{g:V}{fl:Bool}(hf:P.funcs[f]?=some fn)(eA:fn.ntmps=nt)(eP:fn.results.toList=rs)(hn:(fn.name== "runtime.NumGoroutine")=false)(hy:f<1000000000)
 (gm:fl=true->g.flat=true) (hb:∃ c,fn.body=some c/\0<=nt/\(True->V.wfL []->CL P [c] (aO nt [0] (fun _=>none) (gH 0 []) []) (py P rs g))):aZ P f (p0 g fl):=by
 obtain⟨c,hc,h1,h⟩:=hb
 refine vx hf eA eP hn hy (fun e xs _=>gm e) ⟨c,hc,fun xs hp hw=>?_⟩
 have rK:xs=[]:=hp
 subst rK
 exact⟨h1,h trivial hw⟩
noncomputable def Ph:List (Nat×Spec):=[(29,S108)]
theorem aih:∀ f s,tbl Ph f=some s->ak Tryd.prog f s:=tc WY<|tn
attribute [go_sem] Ph
end Go.Eng
set_option linter.constructorNameAsVariable false
namespace Go.Eng
open Go Go.Proofs
def PT(e:Int):List Par->Prop
 |[]=>True
 |p::r=>p.no+(r.length:Int)=e/\(1<=p.no/\p.no<=99999/\1<=p.pa/\p.pa<=999)/\PT e r
theorem xw{e:Int}:∀ {l:List Par},PT e l↔∀ i (h:i<l.length),l[i].no+(l.length:Int)=e+1+(i:Int)/\(1<=l[i].no/\l[i].no<=99999/\1<=l[i].pa/\l[i].pa<=999)
 |[]=>⟨fun _ i h=>by simp at h,fun _=>trivial⟩
 |p::r=>by
  show (_/\_/\PT e r)↔_
  rw[xw (l:=r)]
  constructor
  ·rintro⟨h1,h2,h3⟩ i hi
   cases i with
   |zero=>exact⟨by simp only[List.getElem_cons_zero,List.length_cons];omega,h2⟩
   |succ i=>
    have :=h3 i (by simpa using hi)
    simp only[List.getElem_cons_succ,List.length_cons]
    exact⟨by omega,this.2⟩
  ·intro h
   refine⟨?_,(h 0 (by simp)).2,fun i hi=>?_⟩
   ·have:=(h 0 (by simp)).1
    simp only[List.getElem_cons_zero,List.length_cons]at this
    omega
   ·have:=h (i+1) (by simpa using hi)
    simp only[List.getElem_cons_succ,List.length_cons]at this
    exact⟨by omega,this.2⟩
theorem Pb{e:Int}{q:Par}:∀ {l:List Par},PT e l->q.no=e+1->(1<=q.no/\q.no<=99999/\1<=q.pa/\q.pa<=999)->PT (e+1) (l++[q])
 |[],_,h1,h2=>⟨by show q.no+0=e+1;omega,h2,trivial⟩
 |p::r,h,h1,h2=>⟨by have:=h.1;show p.no+((r++[q]).length:Int)=e+1;rw[List.length_append];simp only[List.length_cons,List.length_nil];omega,h.2.1,Pb h.2.2 h1 h2⟩
theorem O'{e ta:Int}:∀ {l:List Par},PT e l->PT e (l.filter fun p=>decide (p.no>ta))
 |[],_=>trivial
 |p::r,h=>by
  by_cases hp:p.no>ta
  ·have dP:r.filter (fun p=>decide (p.no>ta))=r:=by
     rw[List.filter_eq_self]
     intro q hq
     obtain⟨i,hi,rfl⟩:=List.getElem_of_mem hq
     have h1:=(xw.1 h.2.2 i hi).1
     have h2:=h.1
     simp only[gt_iff_lt,decide_eq_true_eq]
     omega
   rw[List.filter_cons_of_pos (by simpa using hp),dP]
   exact h
  ·rw[List.filter_cons_of_neg (by simpa using hp)]
   exact O' h.2.2
theorem Ij{l:List Par}{e:Int}:(cj l&&(l.length==0||(l.getD (l.length-1) default).no==e))=true↔PT e l/\l.length<=40:=by
 rw[Bool.and_eq_true,xw]
 constructor
 ·rintro⟨h,hl⟩
  have dO:=yf h
  unfold cj at h
  rw[Bool.and_eq_true,decide_eq_true_eq,iS]at h
  refine⟨fun i hi=>?_,h.2⟩
  have Yr:(l.length==0)=false:=by simp;intro h0;subst h0;simp at hi
  rw[Yr,Bool.false_or,beq_iff_eq,getD_at (by omega)]at hl
  have h1:=dO i hi
  have h2:=dO (l.length-1) (by omega)
  have :=h.1 i hi
  unfold fY at this
  rw[getD_at hi]at this
  simp only[Bool.and_eq_true]at this
  have a:=ck.1 this.1.1
  have c:=ck.1 this.1.2
  exact⟨by omega,a.1,a.2,c.1,c.2⟩
 ·rintro⟨h,hl⟩
  refine⟨?_,?_⟩
  ·unfold cj
   rw[Bool.and_eq_true,decide_eq_true_eq,iS]
   refine⟨fun i hi=>?_,hl⟩
   obtain⟨h1,h2,h3,h4,h5⟩:=h i hi
   unfold fY
   rw[getD_at hi]
   simp only[Bool.and_eq_true,Bool.or_eq_true,beq_iff_eq]
   refine⟨⟨ck.2 ⟨h2,h3⟩,ck.2 ⟨h4,h5⟩⟩,?_⟩
   cases i with
   |zero=>exact .inl rfl
   |succ i=>
    have :=(h i (by omega)).1
    rw[show i+1-1=i from rfl,getD_at (by omega)]
    exact .inr (by omega)
  ·simp only[Bool.or_eq_true,beq_iff_eq]
   rcases Nat.eq_zero_or_pos l.length with h0 | h0
   ·exact .inl h0
   ·rw[getD_at (by omega)]
    have :=(h (l.length-1) (by omega)).1
    exact .inr (by omega)
theorem Im{l:List Int}:fZ l=true↔l.Pairwise (· < ·)/\(∀ x∈l,1<=x/\x<=999)/\l.length<=40:=by
 constructor
 ·intro h
  refine⟨BV h,fun x hx=>?_,(tp h).1⟩
  obtain⟨i,hi,rfl⟩:=List.getElem_of_mem hx
  unfold fZ at h
  rw[Bool.and_eq_true,iS]at h
  have :=h.1 i hi
  unfold kC at this
  rw[getD_at hi,Bool.and_eq_true]at this
  exact ck.1 this.1
 ·rintro⟨h1,h2,h3⟩
  unfold fZ
  rw[Bool.and_eq_true,decide_eq_true_eq,iS]
  refine⟨fun i hi=>?_,h3⟩
  unfold kC
  rw[getD_at hi,Bool.and_eq_true]
  refine⟨ck.2 (h2 _ (List.getElem_mem hi)),?_⟩
  cases i with
  |zero=>rfl
  |succ i=>
   rw[show i+1-1=i from rfl,getD_at (show i<l.length by omega)]
   have :=List.pairwise_iff_getElem.1 h1 i (i+1) (by omega) hi (by omega)
   simp[this]
structure fe (me:Int) (s:Stk):Prop where
 m0:0<=me
 m6:me<6
 ri:s.ho.Pairwise (· < ·)
 rn:∀ x∈s.ho,1<=x/\x<=999
 ln:s.ho.length<=40
 u0:s.un.get me.toNat=[]
 s0:s.se.get me.toNat=0
 t0:s.ta.get me.toNat=0
 se:∀ i,i<6->0<=s.se.get i/\s.se.get i<=99999
 ta:∀ i,i<6->0<=s.ta.get i/\s.ta.get i<=99999
 un:∀ i,i<6->PT (s.se.get i) (s.un.get i)/\(s.un.get i).length<=40
theorem xK{me:Int}{s:Stk}:cp me s=true↔fe me s:=by
 have jE:∀ i,fW s i=true↔(0<=s.se.get i/\s.se.get i<=99999)/\(0<=s.ta.get i/\s.ta.get i<=99999)/\PT (s.se.get i) (s.un.get i)/\(s.un.get i).length<=40:=by
  intro i
  rw[<-Ij,<-ck,<-ck]
  unfold fW
  simp only[Bool.and_eq_true,and_assoc]
 unfold cp
 simp only[Bool.and_eq_true,beq_iff_eq,iS,List.length_eq_zero_iff]
 rw[Im,ck]
 constructor
 ·rintro⟨⟨⟨⟨⟨h1,h2⟩,h3⟩,h4⟩,h5⟩,h6⟩
  exact⟨h1.1,by omega,h2.1,h2.2.1,h2.2.2,h3,h4,h5,fun i hi=>((jE i).1 (h6 i hi)).1,fun i hi=>((jE i).1 (h6 i hi)).2.1,fun i hi=>((jE i).1 (h6 i hi)).2.2⟩
 ·intro h
  exact⟨⟨⟨⟨⟨⟨h.m0,by have:=h.m6;omega⟩,h.ri,h.rn,h.ln⟩,h.u0⟩,h.s0⟩,h.t0⟩,fun i hi=>(jE i).2 ⟨h.se i hi,h.ta i hi,h.un i hi⟩⟩
end Go.Eng
set_option linter.constructorNameAsVariable false
namespace Go.Eng
open Go Go.Proofs
theorem qG(d:Dk)(s:Stk):∀ k,(d.setN s).pg k=d.pg k
 | 0=>rfl
 |_+1=>rfl
theorem Z'(d:Dk)(s:Stk)(i:Nat)(o:Int):fq (d.setN s) i o=fq d i o:=by
 unfold fq
 rw[qG,qG]
 rfl
theorem MS(d:Dk)(s:Stk):∀ i,cf (d.setN s) i=cf d i
 | 0=>rfl
 |i+1=>by
  show (if fq (d.setN s) i (cf (d.setN s) i)=true then(i:Int)else cf (d.setN s) i)=if fq d i (cf d i)=true then(i:Int)else cf d i
  rw[MS d s i,Z']
theorem aaf(d:Dk)(s:Stk):be (d.setN s)=be d:=MS d s 2
theorem wV(d:Dk)(s:Stk):aN (d.setN s)=aN d:=by
 unfold aN
 rw[aaf,qG]
theorem Qq(d:Dk)(s:Stk):lh (d.setN s)=lh d:=by
 unfold lh
 rw[qG,qG]
 rfl
theorem gX{d:Dk}:av d=true↔fe d.me d.now/\(-1<=d.wet/\d.wet<=1)/\lh d=true:=by
 unfold av im
 rw[Bool.and_eq_true,Bool.and_eq_true,xK,ck,and_assoc]
theorem Ft{d:Dk}{s:Stk}(h:av d=true)(hs:fe d.me s):av (d.setN s)=true:=by
 obtain⟨_,h2,h3⟩:=gX.1 h
 exact gX.2 ⟨hs,h2,by rw[Qq];exact h3⟩
theorem fe.sz{me:Int}{s:Stk}(h:fe me s):jN s:=(tD (xK.2 h)).sz
theorem Bg{d:Dk}{s:Stk}{me:Int}(h:eL d)(hs:fe me s):eL (d.setN s):=⟨hs.sz,fun i hi=>by rw[qG];exact h.pg i hi⟩
theorem RH{me:Int}{s:Stk}{p:Int}{j:Nat}(h:fe me s)(hj:j<6)(aj:me.toNat≠j)(hl:(s.un.get j).length≠40)(gi:s.se.get j≠99999)(hp:1<=p/\p<=999):fe me (iX s p j):=by
 have m0:=h.m0;have m6:=h.m6
 have rR:me.toNat<6:=by omega
 have hu:=h.un j hj
 have hs:=h.se j hj
 refine⟨m0,m6,?_,fun x hx=>h.rn x ?_,?_,?_,?_,h.t0,fun i hi=>?_,h.ta,fun i hi=>?_⟩
 ·show (fJ s.ho p s.ho.length).Pairwise (· < ·)
  unfold fJ
  rw[List.take_length]
  exact h.ri.sublist List.filter_sublist
 ·have hx:x∈fJ s.ho p s.ho.length:=hx
  unfold fJ at hx
  rw[List.take_length]at hx
  exact(List.mem_filter.1 hx).1
 ·exact Nat.le_trans (aah _ _ _) h.ln
 ·show (s.un.set j _).get me.toNat=[]
  rw[(s.un.get_set (i:=j) (j:=me.toNat) _ hj).2 rR aj]
  exact h.u0
 ·show (s.se.set j _).get me.toNat=0
  rw[(s.se.get_set (i:=j) (j:=me.toNat) _ hj).2 rR aj]
  exact h.s0
 ·show 0<=(s.se.set j _).get i/\(s.se.set j _).get i<=99999
  by_cases e:i=j
  ·subst e
   rw[(s.se.get_set (i:=i) (j:=i) _ hj).1]
   omega
  ·rw[(s.se.get_set (i:=j) (j:=i) _ hj).2 hi e]
   exact h.se i hi
 ·show PT ((s.se.set j _).get i) ((s.un.set j _).get i)/\((s.un.set j _).get i).length<=40
  by_cases e:i=j
  ·subst e
   rw[(s.se.get_set (i:=i) (j:=i) _ hj).1,(s.un.get_set (i:=i) (j:=i) _ hj).1]
   refine⟨Pb hu.1 rfl ⟨?_,?_,hp.1,hp.2⟩,?_⟩
   ·show 1<=s.se.get i+1;omega
   ·show s.se.get i+1<=99999;omega
   ·rw[List.length_append]
    have :=hu.2
    simp only[List.length_cons,List.length_nil]
    omega
  ·rw[(s.se.get_set (i:=j) (j:=i) _ hj).2 hi e,(s.un.get_set (i:=j) (j:=i) _ hj).2 hi e]
   exact h.un i hi
theorem Ua{me:Int}{s:Stk}{f:Nat}{ta:Int}(h:fe me s)(hf:f<6):fe me (qW s f ta):=by
 have m0:=h.m0;have m6:=h.m6
 have rR:me.toNat<6:=by omega
 refine⟨m0,m6,h.ri,h.rn,h.ln,?_,h.s0,h.t0,h.se,h.ta,fun i hi=>?_⟩
 ·show (s.un.set f _).get me.toNat=[]
  by_cases e:me.toNat=f
  ·rw[<-e,(s.un.get_set (i:=me.toNat) (j:=me.toNat) _ rR).1,h.u0]
   rfl
  ·rw[(s.un.get_set (i:=f) (j:=me.toNat) _ hf).2 rR e]
   exact h.u0
 ·show PT (s.se.get i) ((s.un.set f _).get i)/\((s.un.set f _).get i).length<=40
  by_cases e:i=f
  ·subst e
   rw[(s.un.get_set (i:=i) (j:=i) _ hf).1]
   refine⟨?_,Nat.le_trans (QJ _ _ _) (h.un i hf).2⟩
   unfold eV
   rw[List.take_length]
   exact O' (h.un i hf).1
  ·rw[(s.un.get_set (i:=f) (j:=i) _ hf).2 hi e]
   exact h.un i hi
theorem Xg{l:List Int}{x y:Int}(h:y∈bX l x):y=x\/y∈l:=by
 unfold bX at h
 rcases List.mem_append.1 h with h | h
 ·rcases List.mem_append.1 h with h | h
  ·exact .inr (List.mem_of_mem_take h)
  ·exact .inl (by simpa using h)
 ·exact .inr (List.mem_of_mem_drop h)
theorem QY{me:Int}{s:Stk}{f:Nat}{p:Par}(h:fe me s)(hf:f<6)(aj:me.toNat≠f)(hp:p.no<=99999/\1<=p.pa/\p.pa<=999)(he:eu f s p=0):fe me (gL f s p):=by
 unfold gL
 unfold eu at he
 have m0:=h.m0;have m6:=h.m6
 have rR:me.toNat<6:=by omega
 have ht:=h.ta f hf
 by_cases hn:dH f s p=true
 ·rw[if_pos hn]at he |-
  by_cases hh:bp s.ho p.pa=true
  ·rw[if_pos hh]at he;cases he
  ·rw[if_neg hh]at he
   by_cases hl:40<(bX s.ho p.pa).length
   ·rw[if_pos hl]at he;cases he
   ·unfold dH at hn
    have dO:p.no=s.ta.get f+1:=by simpa using hn
    refine⟨m0,m6,C3 h.ri (by simpa using hh),fun x hx=>?_,by show (bX s.ho p.pa).length<=40;omega,h.u0,h.s0,?_,h.se,fun i hi=>?_,h.un⟩
    ·rcases Xg hx with rfl | hx
     ·exact hp.2
     ·exact h.rn x hx
    ·show (s.ta.set f _).get me.toNat=0
     rw[(s.ta.get_set (i:=f) (j:=me.toNat) _ hf).2 rR aj]
     exact h.t0
    ·show 0<=(s.ta.set f _).get i/\(s.ta.set f _).get i<=99999
     by_cases e:i=f
     ·subst e
      rw[(s.ta.get_set (i:=i) (j:=i) _ hf).1]
      omega
     ·rw[(s.ta.get_set (i:=f) (j:=i) _ hf).2 hi e]
      exact h.ta i hi
 ·rw[if_neg hn];exact h
theorem HH{me:Int}{f:Nat}{ps:List Par}{s0:Stk}(h0:fe me s0)(hf:f<6)(aj:me.toNat≠f)(hp:∀ p∈ps,p.no<=99999/\1<=p.pa/\p.pa<=999):∀ {z:Nat},z<=ps.length->dr f ps s0 z=0->fe me (bC f ps s0 z)
 | 0,_,_=>h0
 |z+1,hz,he=>by
  have mn:(if dr f ps s0 z=0 then eu f (bC f ps s0 z) (ps.getD z default)else dr f ps s0 z)=0:=he
  by_cases h1:dr f ps s0 z=0
  ·rw[if_pos h1]at mn
   have hg:ps.getD z default=ps[z]'(by omega):=getD_at (by omega)
   exact QY (HH h0 hf aj hp (by omega) h1) hf aj (by rw[hg];exact hp _ (List.getElem_mem _)) mn
  ·rw[if_neg h1]at mn;exact absurd mn h1
structure Kept (d e:Dk):Prop where
 ok:av e=true
 me:e.me=d.me
 sz:eL d->eL e
theorem By{d:Dk}{p t:Int}(h:av d=true)(he:da d p t=0):Kept d (fX d p t)/\aN (fX d p t)=aN d:=by
 have hV:fX d p t=d.setN (iX d.now p t.toNat):=by unfold fX;rw[if_pos he]
 unfold da at he
 rw[if_pos h]at he
 by_cases h1:aT p 1 999=true
 ·rw[if_pos h1]at he
  by_cases h2:dF d t=true
  ·rw[if_pos h2]at he
   by_cases h3:lD d p=true
   ·rw[if_pos h3]at he;cases he
   ·rw[if_neg h3]at he
    by_cases h4:ma d t=true
    ·rw[if_pos h4]at he;cases he
    ·have hs:=(gX.1 h).1
     have m0:=hs.m0
     unfold dF at h2
     rw[Bool.and_eq_true,ck]at h2
     have aj:t≠d.me:=by simpa using h2.2
     unfold ma at h4
     simp only[Bool.or_eq_true,beq_iff_eq,not_or]at h4
     have hk:=RH (p:=p) (j:=t.toNat) hs (by omega) (by omega) (by omega) h4.2 (ck.1 h1)
     rw[hV]
     exact⟨⟨Ft h hk,rfl,fun hz=>Bg hz hk⟩,wV _ _⟩
  ·rw[if_neg h2]at he;cases he
 ·rw[if_neg h1]at he;cases he
theorem ym{d:Dk}{b:Bag}(h:av d=true)(he:fN d b=0):(Kept d (eG d b)/\aN (eG d b)=aN d)/\iM d b=true/\dr b.fr.toNat b.ps (bG d b) b.ps.length=0/\eG d b=d.setN (bC b.fr.toNat b.ps (bG d b) b.ps.length):=by
 have hV:eG d b=d.setN (bC b.fr.toNat b.ps (bG d b) b.ps.length):=by unfold eG;rw[if_pos he]
 unfold fN at he
 rw[if_pos h]at he
 by_cases h1:iM d b=true
 ·rw[if_pos h1]at he
  have hs:=(gX.1 h).1
  have m0:=hs.m0
  have kK:=h1
  unfold iM at h1
  rw[Bool.and_eq_true,beq_iff_eq]at h1
  obtain⟨f0,f6,fk,_,eZ,_,_⟩:=qp h1.1
  have aj:b.fr≠b.to:=by
   have :=h1.1
   unfold fx at this
   simp only[Bool.and_eq_true]at this
   intro e
   simp[e]at this
  have hk:=HH (Ua (ta:=b.ta) hs fk) fk (by omega) (fun p hp=>⟨(eZ p hp).2.1,(eZ p hp).2.2⟩) (Nat.le_refl _) he
  rw[hV]
  exact⟨⟨⟨Ft h hk,rfl,fun hz=>Bg hz hk⟩,wV _ _⟩,kK,he,rfl⟩
 ·rw[if_neg h1]at he;cases he
end Go.Eng
set_option linter.constructorNameAsVariable false
namespace Go.Eng
open Go Go.Proofs
def g0(d:Dk):Bool:=(0 != d.wet)&&aE d.me d.pa
def g1(d:Dk):Bool:=(1 != d.wet)&&aE d.me d.pb
theorem aab(d:Dk):fq d 0 (-1)=g0 d:=by
 show ((((0:Int) != d.wet)&&aE d.me d.pa)&&(decide ((-1:Int)<0)||decide ((d.pg 0).co>(d.pg (-1:Int).toNat).co)))=_
 rw[show decide ((-1:Int)<0)=true from rfl,Bool.true_or,Bool.and_true]
 rfl
theorem sj(d:Dk):be d=if (g1 d&&(!g0 d||decide (d.pb.co>d.pa.co)))=true then 1 else if g0 d=true then 0 else -1:=by
 have h1:cf d 1=if g0 d=true then 0 else -1:=by
  show (if fq d 0 (-1)=true then((0:Nat):Int)else -1)=_
  rw[aab];rfl
 have h2:fq d 1 (cf d 1)=(g1 d&&(!g0 d||decide (d.pb.co>d.pa.co))):=by
  rw[h1]
  unfold g1
  cases g0 d
  ·rw[if_neg (by decide)]
   rfl
  ·rw[if_pos rfl]
   rfl
 show (if fq d 1 (cf d 1)=true then((1:Nat):Int)else cf d 1)=_
 rw[h2,h1];rfl
theorem E6{d:Dk}(hw:d.wet=0)(h:aE d.me d.pb=true):be d=1:=by
 rw[sj]
 have a:g0 d=false:=by unfold g0;rw[hw];rfl
 have b:g1 d=true:=by unfold g1;rw[hw,h];rfl
 rw[a,b];rfl
theorem E5{d:Dk}(hw:d.wet=1)(h:aE d.me d.pa=true):be d=0:=by
 rw[sj]
 have a:g0 d=true:=by unfold g0;rw[hw,h];rfl
 have b:g1 d=false:=by unfold g1;rw[hw];rfl
 rw[a,b];rfl
theorem ti{me:Int}{s:Stk}{c:Int}(hs:fe me s)(hc:0<=c/\c<=99999):aE me ⟨c,s,c9 s c⟩=true:=by
 unfold aE
 rw[Bool.and_eq_true,Bool.and_eq_true,ck,xK]
 exact⟨⟨hc,hs⟩,by simp⟩
theorem vy{me:Int}{p:Pg}(h:aE me p=true):fe me p.st:=by
 unfold aE at h
 simp only[Bool.and_eq_true]at h
 exact xK.1 h.1.2
theorem GI{me c:Int}{s:Stk}{q:Pg}(hs:fe me s)(hc:0<=c/\c<=99999)(hq:aE me q=true)(ae:q.co<c):
 av ⟨me,s,⟨c,s,c9 s c⟩,q,0⟩=true/\aN ⟨me,s,⟨c,s,c9 s c⟩,q,0⟩=q.st/\eL ⟨me,s,⟨c,s,c9 s c⟩,q,0⟩:=by
 have hp:=ti (c:=c) hs hc
 refine⟨gX.2 ⟨hs,⟨by show (-1:Int)<=0;omega,by show (0:Int)<=1;omega⟩,?_⟩,?_,⟨hs.sz,fun i hi=>?_⟩⟩
 ·rw[pn rfl]
  show ((aE me _&&aE me q)&&decide (c>q.co))=true
  rw[hp,hq,decide_eq_true ae];rfl
 ·unfold aN
  rw[E6 rfl hq];rfl
 ·match i,hi with
  | 0,_=>exact hs.sz
  | 1,_=>exact(vy hq).sz
theorem GH{me c:Int}{s:Stk}{q:Pg}(hs:fe me s)(hc:0<=c/\c<=99999)(hq:aE me q=true)(ae:q.co<c):
 av ⟨me,s,q,⟨c,s,c9 s c⟩,1⟩=true/\aN ⟨me,s,q,⟨c,s,c9 s c⟩,1⟩=q.st/\eL ⟨me,s,q,⟨c,s,c9 s c⟩,1⟩:=by
 have hp:=ti (c:=c) hs hc
 refine⟨gX.2 ⟨hs,⟨by show (-1:Int)<=1;omega,by show (1:Int)<=1;omega⟩,?_⟩,?_,⟨hs.sz,fun i hi=>?_⟩⟩
 ·rw[pj rfl]
  show ((aE me q&&aE me _)&&decide (c>q.co))=true
  rw[hp,hq,decide_eq_true ae];rfl
 ·unfold aN
  rw[E5 rfl hq];rfl
 ·match i,hi with
  | 0,_=>exact(vy hq).sz
  | 1,_=>exact hs.sz
theorem xD{d:Dk}(h:av d=true)(he:fy d=0):Kept d (dE d)/\aN (dE d)=aN d:=by
 have hV:dE d=ff d:=by unfold dE;rw[if_pos he]
 have hs:=(gX.1 h).1
 rw[hV]
 by_cases hw:d.wet<0
 ·have hc:(d.pg (be d).toNat).co≠99999:=by
    intro hc
    have :=(GK h hw hc).2
    rw[he]at this;cases this
  obtain⟨f0,f2,_,_⟩:=oW h
  have hp:=Ac h
  have zO:=tj hp
  have eB:aN d=(d.pg (be d).toNat).st:=rfl
  have hf:be d=0\/be d=1:=by omega
  rcases hf with hf | hf
  ·rw[hf]at hp zO hc eB
   have e:ff d=⟨d.me,d.now,d.pa,⟨d.pa.co+1,d.now,c9 d.now (d.pa.co+1)⟩,1⟩:=by
    unfold ff ld mT
    rw[if_pos hw,if_pos hw,hf];rfl
   have YW:0<=d.pa.co/\d.pa.co<=99999:=zO
   have jD:d.pa.co≠99999:=hc
   obtain⟨a,b,c⟩:=GH (c:=d.pa.co+1) hs ⟨by omega,by omega⟩ hp (by show d.pa.co<_;omega)
   rw[e,eB]
   exact⟨⟨a,rfl,fun _=>c⟩,b⟩
  ·rw[hf]at hp zO hc eB
   have e:ff d=⟨d.me,d.now,⟨d.pb.co+1,d.now,c9 d.now (d.pb.co+1)⟩,d.pb,0⟩:=by
    unfold ff ld mT
    rw[if_pos hw,if_pos hw,hf];rfl
   have YW:0<=d.pb.co/\d.pb.co<=99999:=zO
   have jD:d.pb.co≠99999:=hc
   obtain⟨a,b,c⟩:=GI (c:=d.pb.co+1) hs ⟨by omega,by omega⟩ hp (by show d.pb.co<_;omega)
   rw[e,eB]
   exact⟨⟨a,rfl,fun _=>c⟩,b⟩
 ·obtain⟨h1,h2,h3,h4,h5⟩:=nJ h hw
  have gR:d.wet=0\/d.wet=1:=by omega
  rcases gR with e | e
  ·have e':ff d=⟨d.me,d.now,⟨d.pa.co,d.now,c9 d.now d.pa.co⟩,d.pb,0⟩:=by
     unfold ff ld mT
     rw[if_neg hw,if_neg hw,e];rfl
   rw[e]at h5
   have oQ:d.pb.co<d.pa.co:=h5
   obtain⟨a,b,c⟩:=GI (c:=d.pa.co) hs (tj h1) h2 oQ
   rw[e']
   exact⟨⟨a,rfl,fun _=>c⟩,by rw[b];unfold aN;rw[E6 e h2];rfl⟩
  ·have e':ff d=⟨d.me,d.now,d.pa,⟨d.pb.co,d.now,c9 d.now d.pb.co⟩,1⟩:=by
     unfold ff ld mT
     rw[if_neg hw,if_neg hw,e];rfl
   rw[e]at h5
   have oQ:d.pa.co<d.pb.co:=h5
   obtain⟨a,b,c⟩:=GH (c:=d.pb.co) hs (tj h2) h1 oQ
   rw[e']
   exact⟨⟨a,rfl,fun _=>c⟩,by rw[b];unfold aN;rw[E5 e h1];rfl⟩
def yE(a b:Bool)(x y:Int):Int:=if b=true then(if y>(if a=true then(if x> -1 then x else -1)else -1)then y else(if a=true then(if x> -1 then x else -1)else -1))else(if a=true then(if x> -1 then x else -1)else -1)
theorem ne_eq(d:Dk):oc d=yE (g0 d) (g1 d) d.pa.co d.pb.co:=rfl
theorem Co{a b a' b':Bool}{x y:Int}(h1:a=true->a'=true)(h2:b=true->b'=true):yE a b x y<=yE a' b' x y:=by
 unfold yE
 cases a<;>cases b<;>cases a'<;>cases b'<;>simp at h1 h2 |- <;>repeat' split
 all_goals first | omega | contradiction | skip
theorem Un(d:Dk)(s:Stk):oc (d.setN s)=oc d:=rfl
theorem Ae{d:Dk}(h:av d=true):Kept d (gr d)/\oc d<=oc (gr d):=by
 have hb:gM d 0=false:=by unfold gM;rw[show (Int.tmod 0 2 != 0)=false from rfl,Bool.and_false]
 have hk:=E2 (n:=0) h
 rw[nh hb]at hk
 rw[lz h]
 refine⟨⟨hk,rfl,fun hz=>⟨hz.now,fun i hi=>?_⟩⟩,?_⟩
 ·match i,hi with
  | 0,_=>exact hz.pg 0 (by omega)
  | 1,_=>exact hz.pg 1 (by omega)
 ·rw[ne_eq,ne_eq]
  refine Co (x:=d.pa.co) (y:=d.pb.co) (fun e=>?_) (fun e=>?_)
  ·unfold g0 at e |-
   rw[Bool.and_eq_true]at e
   show ((0:Int) != -1&&aE d.me d.pa)=true
   rw[e.2];rfl
  ·unfold g1 at e |-
   rw[Bool.and_eq_true]at e
   show ((1:Int) != -1&&aE d.me d.pb)=true
   rw[e.2];rfl
theorem E3{d:Dk}{n:Int}(h:av d=true):Kept d (gF d n)/\oc d<=oc (gF d n)/\aN (gF d n)=(gF d n).now:=by
 have hk:=E2 (n:=n) h
 rw[nG h]
 have bF:=vy (Ac hk)
 have aY:((iz d n).setW (-1)).me=d.me:=by
  cases hb:gM d n
  ·rw[nh hb];rfl
  ·rw[nW hb];exact Hr _ _ _
 have bf:eL d->eL ((iz d n).setW (-1)):=fun hz=>by
  cases hb:gM d n
  ·rw[nh hb]
   exact⟨hz.now,fun i hi=>by match i,hi with | 0,_=>exact hz.pg 0 (by omega) | 1,_=>exact hz.pg 1 (by omega)⟩
  ·rw[nW hb]
   have hw:=vm hb
   obtain⟨h1,h2,h3,h4,_⟩:=nJ h hw
   have gR:d.wet=0\/d.wet=1:=by omega
   rcases gR with e | e<;>rw[e]
   ·exact⟨hz.now,fun i hi=>by match i,hi with | 0,_=>exact hz.pg 0 (by omega) | 1,_=>exact hz.pg 1 (by omega)⟩
   ·exact⟨hz.now,fun i hi=>by match i,hi with | 0,_=>exact hz.pg 0 (by omega) | 1,_=>exact hz.pg 1 (by omega)⟩
 refine⟨⟨Ft hk bF,aY,fun hz=>Bg (bf hz) bF⟩,?_,?_⟩
 ·show oc d<=oc (((iz d n).setW (-1)).setN _)
  rw[Un]
  cases hb:gM d n
  ·rw[nh hb]
   have :=(Ae h).2
   rw[lz h]at this
   exact this
  ·rw[nW hb]
   have hw:=vm hb
   obtain⟨h1,h2,h3,h4,_⟩:=nJ h hw
   have gR:d.wet=0\/d.wet=1:=by omega
   rw[ne_eq,ne_eq]
   rcases gR with e | e<;>rw[e]
   ·refine Co (x:=d.pa.co) (y:=d.pb.co) (fun k=>?_) (fun k=>?_)
    ·unfold g0 at k;rw[e]at k;cases k
    ·show ((1:Int) != -1&&aE d.me d.pb)=true
     rw[h2];rfl
   ·refine Co (x:=d.pa.co) (y:=d.pb.co) (fun k=>?_) (fun k=>?_)
    ·show ((0:Int) != -1&&aE d.me d.pa)=true
     rw[h1];rfl
    ·unfold g1 at k;rw[e]at k;cases k
 ·exact wV _ _
theorem yw{me:Int}{l:List Int}(h:ll me l=true):av (eN me l)=true:=by
 unfold ll at h
 rw[Bool.and_eq_true,ck,Im]at h
 obtain⟨⟨m0,m5⟩,h1,h2,h3⟩:=h
 have z:∀ {α:Type} (x:α) (i:Nat),(fM fun _=>x).get i=x:=fun x i=>by
  unfold aR.get fM
  split<;>rfl
 have hs:∀ k:List Int,k.Pairwise (· < ·)->(∀ x∈k,1<=x/\x<=999)->k.length<=40->fe me (bE k):=fun k a b c=>by
  refine⟨m0,by omega,a,b,c,z _ _,z _ _,z _ _,fun i _=>?_,fun i _=>?_,fun i _=>?_⟩
  ·rw[show (bE k).se.get i=0 from z _ _];omega
  ·rw[show (bE k).ta.get i=0 from z _ _];omega
  ·rw[show (bE k).un.get i=[]from z _ _];exact⟨trivial,by simp⟩
 have a:=hs l h1 h2 h3
 have b:=hs [] List.Pairwise.nil (fun _ h=>by cases h) (by simp)
 refine gX.2 ⟨a,⟨by show (-1:Int)<= -1;omega,by show (-1:Int)<=1;omega⟩,?_⟩
 rw[mU (show (-1:Int)<0 by decide)]
 have pa:=ti (c:=1) a ⟨by decide,by decide⟩
 have pb:=ti (c:=0) b ⟨by decide,by decide⟩
 show ((aE me ⟨1,bE l,c9 (bE l) 1⟩||aE me ⟨0,zS,c9 zS 0⟩)&&!((aE me ⟨1,bE l,c9 (bE l) 1⟩&&aE me ⟨0,zS,c9 zS 0⟩)&&((1:Int)==0)))=true
 rw[pa];simp
theorem IU{me:Int}{l:List Int}(h:ll me l=true):eL (eN me l):=by
 have hk:=yw h
 obtain⟨hs,_,_⟩:=gX.1 hk
 refine⟨hs.sz,fun i hi=>?_⟩
 match i,hi with
 | 0,_=>exact hs.sz
 | 1,_=>exact IH.sz
end Go.Eng
set_option linter.constructorNameAsVariable false
namespace Go.Eng
open Go Go.Proofs
theorem QV(f:Nat)(s:Stk)(p:Par):(gL f s p).un=s.un:=by
 unfold gL
 split<;>rfl
theorem G9(f:Nat)(ps:List Par)(s0:Stk):∀ z,(bC f ps s0 z).un=s0.un
 | 0=>rfl
 |z+1=>(QV f _ _).trans (G9 f ps s0 z)
theorem IW{f:Nat}{ps:List Par}{s0:Stk}(hf:f<6)(lq:cj ps=true):∀ z,z<=ps.length->∀ i (h:i<ps.length),i<z->ps[i].no≠(bC f ps s0 z).ta.get f+1
 | 0,_,_,_,h=>by omega
 |z+1,hz,i,hi,hiz=>by
  have dO:=yf lq
  show _≠(gL f (bC f ps s0 z) (ps.getD z default)).ta.get f+1
  rw[getD_at (show z<ps.length by omega)]
  unfold gL
  by_cases hn:dH f (bC f ps s0 z) (ps[z]'(by omega))=true
  ·rw[if_pos hn]
   show _≠((bC f ps s0 z).ta.set f _).get f+1
   rw[((bC f ps s0 z).ta.get_set (i:=f) (j:=f) _ hf).1]
   unfold dH at hn
   have oC:(ps[z]'(by omega)).no=(bC f ps s0 z).ta.get f+1:=by simpa using hn
   have h1:=dO i hi
   have h2:=dO z (by omega)
   omega
  ·rw[if_neg hn]
   by_cases e:i=z
   ·subst e
    unfold dH at hn
    simpa using hn
   ·exact IW hf lq z (by omega) i hi (by omega)
theorem HJ{f:Nat}{ps:List Par}{s:Stk}(h:∀ i (hi:i<ps.length),dH f s ps[i]=false):∀ z,z<=ps.length->bC f ps s z=s/\dr f ps s z=0
 | 0,_=>⟨rfl,rfl⟩
 |z+1,hz=>by
  obtain⟨h1,h2⟩:=HJ h z (by omega)
  have hb:=h z (by omega)
  have hg:ps.getD z default=ps[z]'(by omega):=getD_at (by omega)
  constructor
  ·show gL f (bC f ps s z) (ps.getD z default)=s
   rw[h1,hg]
   unfold gL
   rw[if_neg (by rw[hb];decide)]
  ·show (if dr f ps s z=0 then eu f (bC f ps s z) (ps.getD z default)else dr f ps s z)=0
   rw[if_pos h2,h1,hg]
   unfold eu
   rw[if_neg (by rw[hb];decide)]
theorem Ub{s s0:Stk}{f:Nat}{ta:Int}(hf:f<6)(h:s.un=(qW s0 f ta).un):qW s f ta=s:=by
 have hg:s.un.get f=eV (s0.un.get f) ta (s0.un.get f).length:=by
  rw[h]
  exact(s0.un.get_set (i:=f) (j:=f) _ hf).1
 have he:eV (s.un.get f) ta (s.un.get f).length=s.un.get f:=by
  unfold eV
  rw[List.take_length,List.filter_eq_self]
  intro p hp
  rw[hg]at hp
  unfold eV at hp
  exact(List.mem_filter.1 hp).2
 unfold qW
 rw[he,aR.set_self _ _ hf]
theorem afM{d:Dk}{b:Bag}(h:av d=true)(he:fN d b=0):fN (eG d b) b=0/\eG (eG d b) b=eG d b:=by
 obtain⟨⟨hk,_⟩,kK,Ej,hV⟩:=ym h he
 have kM:fx b=true:=by unfold iM at kK;rw[Bool.and_eq_true]at kK;exact kK.1
 obtain⟨_,_,fk,_,_,_,_⟩:=qp kM
 have lq:cj b.ps=true:=by unfold fx at kM;simp only[Bool.and_eq_true]at kM;exact kM.1.2
 have YH:iM (eG d b) b=true:=by
  unfold iM at kK |-
  rw[hk.me];exact kK
 have hO:bG (eG d b) b=bC b.fr.toNat b.ps (bG d b) b.ps.length:=by
  rw[hV]
  exact Ub (s:=bC b.fr.toNat b.ps (bG d b) b.ps.length) (s0:=d.now) fk (G9 _ _ _ _)
 have dO:=IW (s0:=bG d b) fk lq b.ps.length (Nat.le_refl _)
 obtain⟨r1,r2⟩:=HJ (f:=b.fr.toNat) (ps:=b.ps) (s:=bC b.fr.toNat b.ps (bG d b) b.ps.length) (fun i hi=>by
  unfold dH
  rw[beq_eq_false_iff_ne]
  exact dO i hi hi) b.ps.length (Nat.le_refl _)
 have h2:dr b.fr.toNat b.ps (bG (eG d b) b) b.ps.length=0:=by rw[hO];exact r2
 obtain⟨a,c⟩:=Ca hk.ok YH h2
 refine⟨c,?_⟩
 rw[a,hO,r1]
 rw[hV]
 rfl
def Sx.set(x:Sx)(k:Nat)(d:Dk):Sx:=⟨x.ds.set k d,x.bs⟩
def dD(y:Act):Int:=y.kd % 16
def de(y:Act):Nat:=(y.dk % 6).toNat
def mC(y:Act):Int:=y.to % 6
def kf(x:Sx)(y:Act):Bag:=x.bs.getD (y.pi % (x.bs.length:Int)).toNat default
def iW(x:Sx)(y:Act):Sx:=
 if dD y<=2 then(if da (x.ds.get (de y)) (nj (x.ds.get (de y)).now.ho y.pp) (mC y)=0 then x.set (de y) (fX (x.ds.get (de y)) (nj (x.ds.get (de y)).now.ho y.pp) (mC y))else x)
 else if dD y<=4 then(if fy (x.ds.get (de y))=0 then x.set (de y) (dE (x.ds.get (de y)))else x)
 else if dD y<=6 then(if iQ (x.ds.get (de y))=0 then x.set (de y) (gr (x.ds.get (de y)))else x)
 else if dD y<=7 then(if iQ (x.ds.get (de y))=0 then x.set (de y) (gF (x.ds.get (de y)) y.pi)else x)
 else if dD y<=10 then(if gv (x.ds.get (de y)) (mC y)=0 then⟨x.ds,x.bs++[iZ (x.ds.get (de y)) (mC y)]⟩else x)
 else if x.bs=[]then x
 else if fN (x.ds.get (kf x y).to.toNat) (kf x y)=0 then x.set (kf x y).to.toNat (eG (x.ds.get (kf x y).to.toNat) (kf x y))else x
structure kZ (x:Sx) (n:Nat):Prop where
 ok:∀ i,i<6->av (x.ds.get i)=true
 me:∀ i,i<6->(x.ds.get i).me=i
 sz:∀ i,i<6->eL (x.ds.get i)
 bg:∀ b∈x.bs,0<=b.to/\b.to<6
 ln:x.bs.length<=n
theorem Nj{x:Sx}{y:Act}(h:dD y=0\/dD y=1\/dD y=2):iW x y=if da (x.ds.get (de y)) (nj (x.ds.get (de y)).now.ho y.pp) (mC y)=0 then x.set (de y) (fX (x.ds.get (de y)) (nj (x.ds.get (de y)).now.ho y.pp) (mC y))else x:=if_pos (by omega)
theorem Ni{x:Sx}{y:Act}(h:dD y=3\/dD y=4):iW x y=if fy (x.ds.get (de y))=0 then x.set (de y) (dE (x.ds.get (de y)))else x:=by
 unfold iW;rw[if_neg (by omega),if_pos (by omega)]
theorem Nq{x:Sx}{y:Act}(h:dD y=5\/dD y=6):iW x y=if iQ (x.ds.get (de y))=0 then x.set (de y) (gr (x.ds.get (de y)))else x:=by
 unfold iW;rw[if_neg (by omega),if_neg (by omega),if_pos (by omega)]
theorem Np{x:Sx}{y:Act}(h:dD y=7):iW x y=if iQ (x.ds.get (de y))=0 then x.set (de y) (gF (x.ds.get (de y)) y.pi)else x:=by
 unfold iW;rw[if_neg (by omega),if_neg (by omega),if_neg (by omega),if_pos (by omega)]
theorem Nk{x:Sx}{y:Act}(h:dD y=8\/dD y=9\/dD y=10):iW x y=if gv (x.ds.get (de y)) (mC y)=0 then⟨x.ds,x.bs++[iZ (x.ds.get (de y)) (mC y)]⟩else x:=by
 unfold iW;rw[if_neg (by omega),if_neg (by omega),if_neg (by omega),if_neg (by omega),if_pos (by omega)]
theorem No{x:Sx}{y:Act}(h:11<=dD y)(hb:x.bs=[]):iW x y=x:=by
 unfold iW;rw[if_neg (by omega),if_neg (by omega),if_neg (by omega),if_neg (by omega),if_neg (by omega),if_pos hb]
theorem Nl{x:Sx}{y:Act}(h:11<=dD y)(hb:x.bs≠[]):iW x y=if fN (x.ds.get (kf x y).to.toNat) (kf x y)=0 then x.set (kf x y).to.toNat (eG (x.ds.get (kf x y).to.toNat) (kf x y))else x:=by
 unfold iW;rw[if_neg (by omega),if_neg (by omega),if_neg (by omega),if_neg (by omega),if_neg (by omega),if_neg hb]
theorem aR.get_set_all{α:Type}{Q:Nat->α->Prop}{s:aR α}{k:Nat}{d:α}(hk:k<6)(h:∀ i,i<6->Q i (s.get i))(hd:Q k d):∀ i,i<6->Q i ((s.set k d).get i):=fun i hi=>by
 by_cases e:i=k
 ·subst e;rw[(s.get_set (i:=i) (j:=i) d hk).1];exact hd
 ·rw[(s.get_set (i:=k) (j:=i) d hk).2 hi e];exact h i hi
theorem kZ.kept{x:Sx}{n k:Nat}{e:Dk}(h:kZ x n)(hk:k<6)(he:Kept (x.ds.get k) e):kZ (x.set k e) n:=
 ⟨aR.get_set_all (Q:=fun _ d=>av d=true) hk h.ok he.ok,aR.get_set_all (Q:=fun i (d:Dk)=>d.me=(i:Int)) hk h.me (he.me.trans (h.me k hk)),aR.get_set_all (Q:=fun _ d=>eL d) hk h.sz (he.sz (h.sz k hk)),h.bg,h.ln⟩
theorem kZ.mono{x:Sx}{n m:Nat}(h:kZ x n)(hm:n<=m):kZ x m:=⟨h.ok,h.me,h.sz,h.bg,Nat.le_trans h.ln hm⟩
theorem Nr(y:Act):de y<6:=by unfold de;omega
theorem Fq{x:Sx}{y:Act}(h:x.bs≠[]):kf x y∈x.bs:=by
 have hl:=List.length_pos_iff.2 h
 have g0:=Int.emod_nonneg y.pi (by omega:(x.bs.length:Int)≠0)
 have g1:=Int.emod_lt_of_pos y.pi (by omega:(0:Int)<(x.bs.length:Int))
 unfold kf
 rw[getD_at (by omega)]
 exact List.getElem_mem _
theorem Nn{x:Sx}{y:Act}{n:Nat}(h:kZ x n):kZ (iW x y) (n+1):=by
 have hk:=Nr y
 have hd:=h.ok _ hk
 have h':=h.mono (Nat.le_succ n)
 have eR:0<=dD y:=by unfold dD;omega
 by_cases c1:dD y<=2
 ·rw[Nj (by omega)]
  split
  ·next he=>exact h'.kept hk (By hd he).1
  ·exact h'
 by_cases c2:dD y<=4
 ·rw[Ni (by omega)]
  split
  ·next he=>exact h'.kept hk (xD hd he).1
  ·exact h'
 by_cases c3:dD y<=6
 ·rw[Nq (by omega)]
  split
  ·exact h'.kept hk (Ae hd).1
  ·exact h'
 by_cases c4:dD y<=7
 ·rw[Np (by omega)]
  split
  ·exact h'.kept hk (E3 hd).1
  ·exact h'
 by_cases c5:dD y<=10
 ·rw[Nk (by omega)]
  split
  ·next he=>
   refine⟨h.ok,h.me,h.sz,fun b hb=>?_,?_⟩
   ·rcases List.mem_append.1 hb with hb | hb
    ·exact h.bg b hb
    ·simp only[List.mem_cons,List.not_mem_nil,or_false]at hb
     subst hb
     have hp:0<=mC y/\mC y<6:=by unfold mC;omega
     unfold iZ
     split
     ·exact hp
     ·exact⟨by show (0:Int)<=0;omega,by show (0:Int)<6;omega⟩
   ·show (x.bs++_).length<=n+1
    have :=h.ln
    rw[List.length_append]
    simp only[List.length_cons,List.length_nil]
    omega
  ·exact h'
 by_cases c6:x.bs=[]
 ·rw[No (by omega) c6];exact h'
 ·rw[Nl (by omega) c6]
  have hb:=h.bg _ (Fq (y:=y) c6)
  split
  ·next he=>exact h'.kept (by omega) (ym (h.ok _ (by omega)) he).1.1
  ·exact h'
def Bh(l:List Act):Nat->Sx
 | 0=>lC 6
 |z+1=>iW (Bh l z) (l.getD z default)
theorem uV:kZ (lC 6) 0:=by
 have e:∀ i,i<6->(lC 6).ds.get i=eN i (dn i)/\ll i (dn i)=true:=fun i hi=>
  ia (P:=fun i=>(lC 6).ds.get i=eN i (dn i)/\ll i (dn i)=true) ⟨rfl,rfl⟩ ⟨rfl,rfl⟩ ⟨rfl,rfl⟩ ⟨rfl,rfl⟩ ⟨rfl,rfl⟩ ⟨rfl,rfl⟩ hi
 exact⟨fun i hi=>by rw[(e i hi).1];exact yw (e i hi).2,fun i hi=>by rw[(e i hi).1];rfl,fun i hi=>by rw[(e i hi).1];exact IU (e i hi).2,fun b hb=>(by rw[Aw]at hb;cases hb),by rw[Aw];exact Nat.le_refl _⟩
theorem QO(l:List Act):∀ z,kZ (Bh l z) z
 | 0=>uV
 |z+1=>Nn (QO l z)
end Go.Eng
set_option linter.constructorNameAsVariable false
namespace Go.Eng
open Go Go.Proofs
def bd(f:Nat->Nat):Nat:=f 0+f 1+f 2+f 3+f 4+f 5
theorem kr{f g:Nat->Nat}(h:∀ i,i<6->f i=g i):bd f=bd g:=by
 unfold bd
 rw[h 0 (by omega),h 1 (by omega),h 2 (by omega),h 3 (by omega),h 4 (by omega),h 5 (by omega)]
theorem xJ(f g:Nat->Nat):bd (fun i=>f i+g i)=bd f+bd g:=by
 simp only[bd];omega
theorem vi{f:Nat->Nat}{i:Nat}(h:i<6):f i<=bd f:=by
 unfold bd
 match i,h with
 | 0,_=>omega
 | 1,_=>omega
 | 2,_=>omega
 | 3,_=>omega
 | 4,_=>omega
 | 5,_=>omega
theorem Rg(f:Nat->Nat->Nat):bd (fun i=>bd fun j=>f i j)=bd (fun j=>bd fun i=>f i j):=by
 simp only[bd];omega
theorem G4{f g:Nat->Nat}{i:Nat}(hi:i<6)(h:∀ k,k<6->k≠i->f k=g k):bd f+g i=bd g+f i:=by
 have a:∀ k,k<6->k=i\/f k=g k:=fun k hk=>by
  by_cases e:k=i
  ·exact .inl e
  ·exact .inr (h k hk e)
 have h0:=a 0 (by omega)
 have h1:=a 1 (by omega)
 have h2:=a 2 (by omega)
 have h3:=a 3 (by omega)
 have h4:=a 4 (by omega)
 have h5:=a 5 (by omega)
 unfold bd
 match i,hi with
 | 0,_=>omega
 | 1,_=>omega
 | 2,_=>omega
 | 3,_=>omega
 | 4,_=>omega
 | 5,_=>omega
def ct(x:Int)(l:List Int)(n:Int):Nat:=(l.take n.toNat).count x
theorem aaT{x:Int}{l l':List Int}{n:Int}(h:l.take n.toNat=l'.take n.toNat):ct x l n=ct x l' n:=by unfold ct;rw[h]
theorem aaU{x:Int}{l r:List Int}{n:Int}(h:n<=(l.length:Int)):ct x (l++r) n=ct x l n:=by
 unfold ct
 rw[List.take_append_of_le_length (by omega)]
theorem aaS(x:Int)(l:List Int)(y:Int){n:Int}(h:(l.length:Int)=n):ct x (l++[y]) (n+1)=ct x l n+(if y=x then 1 else 0):=by
 unfold ct
 rw[List.take_of_length_le (by rw[List.length_append];simp only[List.length_cons,List.length_nil];omega),List.take_of_length_le (by omega),List.count_append]
 congr 1
 by_cases e:y=x
 ·rw[if_pos e,e];simp
 ·rw[if_neg e];simp[List.count_cons,e]
theorem FN{x:Int}{l:List Int}{n:Int}{y:Int}(h0:0<=n)(h:l[n.toNat]?=some y):ct x l (n+1)=ct x l n+(if y=x then 1 else 0):=by
 unfold ct
 rw[show (n+1).toNat=n.toNat+1 by omega,List.take_add_one,h,List.count_append]
 congr 1
 by_cases e:y=x
 ·rw[if_pos e,e];simp
 ·rw[if_neg e];simp[List.count_cons,e]
theorem NR(x:Int)(l:List Int){m n:Int}(h:m<=n):ct x l m<=ct x l n:=by
 unfold ct
 exact(List.Sublist.count_le x (List.take_sublist_take_left (by omega)))
theorem NQ{x:Int}{l:List Int}{m n:Int}(h:m<=n):ct x (l.take n.toNat) m=ct x l m:=by
 unfold ct
 rw[List.take_take,Nat.min_eq_left (by omega)]
theorem at_take{l l':List Int}{m:Int}{i:Nat}(h:l.take m.toNat=l'.take m.toNat)(hi:i<m.toNat):l[i]?=l'[i]?:=by
 have :=congrArg (fun z=>z[i]?) h
 simpa[List.getElem?_take,hi]using this
theorem aai{l:List Int}{p x:Int}(hs:l.Pairwise (· < ·))(hp:p∈l):(fJ l p l.length).count x+(if p=x then 1 else 0)=l.count x:=by
 unfold fJ
 rw[List.take_length]
 have ie:l.Nodup:=hs.imp (fun h=>by omega)
 by_cases e:p=x
 ·subst e
  rw[if_pos rfl,List.count_eq_zero_of_not_mem (by simp[List.mem_filter]),ie.count,if_pos hp]
 ·rw[if_neg e,List.count_filter (by simp[Ne.symm e])]
  rfl
theorem Xi(l:List Int)(p x:Int):(bX l p).count x=l.count x+(if p=x then 1 else 0):=by
 unfold bX
 rw[List.count_append,List.count_append]
 have :(l.take (bz l p)).count x+(l.drop (bz l p)).count x=l.count x:=by
  rw[<-List.count_append,List.take_append_drop]
 have h2:List.count x [p]=if p=x then 1 else 0:=by
  by_cases e:p=x
  ·rw[if_pos e,e];simp
  ·rw[if_neg e];simp[List.count_cons,e]
 omega
theorem xv{e:Int}:∀ {l:List Par},PT e l->∀ p∈l,e-l.length<p.no/\p.no<=e
 |[],_,p,h=>by cases h
 |q::r,⟨h1,h2,h3⟩,p,h=>by
  rcases List.mem_cons.1 h with rfl | h
  ·simp only[List.length_cons];omega
  ·have:=xv h3 p h
   simp only[List.length_cons];omega
theorem QK{e ta:Int}{l:List Par}(h:PT e l):e-(eV l ta l.length).length<=e-l.length\/e-(eV l ta l.length).length<=ta:=by
 unfold eV
 rw[List.take_length]
 induction l with
 |nil=>left;simp
 |cons p r ih=>
  obtain⟨h1,h2,h3⟩:=h
  by_cases hp:p.no>ta
  ·left
   have :(p::r).filter (fun p=>decide (p.no>ta))=p::r:=by
    rw[List.filter_eq_self]
    intro q hq
    have :=xv (e:=e) (l:=p::r) ⟨h1,h2,h3⟩ q hq
    simp only[List.length_cons]at this
    simp only[gt_iff_lt,decide_eq_true_eq]
    omega
   rw[this];exact Int.le_refl _
  ·right
   rw[List.filter_cons_of_neg (by simpa using hp)]
   have :=ih h3
   omega
theorem N'{lg:List Int}{e t x:Int}(he:(lg.length:Int)=e)(h0:0<=t):∀ {l:List Par},PT e l->(∀ p∈l,lg[(p.no-1).toNat]?=some p.pa)->e-l.length<=t->
 (l.filter fun p=>p.pa==x&&decide (p.no>t)).length+ct x lg t=ct x lg (max e t)
 |[],_,_,hc=>by
  simp only[List.filter_nil,List.length_nil,Nat.zero_add]
  have :max e t=t:=by simp only[List.length_nil]at hc;omega
  rw[this]
 |p::r,⟨h1,h2,h3⟩,hl,hc=>by
  have wu:∀ p∈r,lg[(p.no-1).toNat]?=some p.pa:=fun q hq=>hl q (List.mem_cons_of_mem _ hq)
  have hp:=hl p (List.mem_cons_self ..)
  simp only[List.length_cons]at hc
  by_cases ht:p.no>t
  ·
   have Li:p.no=t+1:=by omega
   have ih:=N' (x:=x) (t:=t+1) he (by omega) h3 wu (by omega)
   have hm:max e (t+1)=max e t:=by omega
   rw[hm]at ih
   have hn:=FN (x:=x) (l:=lg) (n:=t) (y:=p.pa) h0 (by rw[<-hp];congr 1;omega)
   rw[hn]at ih
   have hf:r.filter (fun p=>p.pa==x&&decide (p.no>t))=r.filter (fun p=>p.pa==x&&decide (p.no>t+1)):=by
    apply List.filter_congr
    intro q hq
    have :=xv h3 q hq
    have a:decide (q.no>t)=true:=by simp only[gt_iff_lt,decide_eq_true_eq];omega
    have b:decide (q.no>t+1)=true:=by simp only[gt_iff_lt,decide_eq_true_eq];omega
    rw[a,b]
   by_cases e:p.pa=x
   ·rw[List.filter_cons_of_pos (by simp[e,ht]),List.length_cons,hf]
    rw[if_pos e]at ih
    omega
   ·rw[List.filter_cons_of_neg (by simp[e]),hf]
    rw[if_neg e]at ih
    omega
  ·rw[List.filter_cons_of_neg (by simp[ht])]
   exact N' he h0 h3 wu (by omega)
end Go.Eng
set_option linter.constructorNameAsVariable false
namespace Go.Eng
open Go Go.Proofs
def fE(d:Dk)(s:Stk):Prop:=s=aN d\/s=d.now\/(0<=d.wet/\s=(d.pg d.wet.toNat).st)
theorem af8{d:Dk}(h:av d=true){s:Stk}(hs:fE d s):fe d.me s:=by
 rcases hs with rfl | rfl | ⟨hw,rfl⟩
 ·exact vy (Ac h)
 ·exact(gX.1 h).1
 ·obtain⟨a,b,_⟩:=nJ h (by omega)
  exact vy (BS a b _)
theorem y7{d:Dk}{s t:Stk}(h:fE (d.setN t) s):s=t\/(s=aN d\/(0<=d.wet/\s=(d.pg d.wet.toNat).st)):=by
 rcases h with rfl | rfl | ⟨hw,rfl⟩
 ·rw[wV];exact .inr (.inl rfl)
 ·exact .inl rfl
 ·rw[qG];exact .inr (.inr ⟨hw,rfl⟩)
theorem GG{d:Dk}(h:av d=true)(he:fy d=0){s:Stk}(hs:fE (dE d) s):fE d s:=by
 have hf:=(xD h he).2
 have hV:dE d=ff d:=by unfold dE;rw[if_pos he]
 have hn:(dE d).now=d.now:=by
  rw[hV];unfold ff;rw[Dk.now_set];rfl
 have hw:(dE d).wet=ld d:=by
  rw[hV];unfold ff;rw[Hp];rfl
 rcases hs with rfl | rfl | ⟨ek,rfl⟩
 ·rw[hf];exact .inl rfl
 ·rw[hn];exact .inr (.inl rfl)
 ·refine .inr (.inl ?_)
  rw[hw]at ek |-
  have h2:(ld d).toNat<2:=by
   unfold ld at ek |-
   obtain⟨f0,f2,_⟩:=oW h
   have :=Fs h
   split<;>omega
  rw[hV]
  unfold ff
  rw[Dk.pg_set _ h2]
theorem Qi{d:Dk}(he:fy d=0):(dE d).now=d.now:=by
 have hV:dE d=ff d:=by unfold dE;rw[if_pos he]
 rw[hV];unfold ff;rw[Dk.now_set];rfl
theorem Qk{d:Dk}(h:av d=true){n:Int}(hn:d.pa.co<=n/\d.pb.co<=n)(he:fy d=0):(dE d).pa.co<=n+1/\(dE d).pb.co<=n+1:=by
 have hV:dE d=ff d:=by unfold dE;rw[if_pos he]
 have hc:∀ i,(d.pg i).co<=n:=fun i=>by
  match i with
  | 0=>exact hn.1
  |_+1=>exact hn.2
 have hC:mT d<=n+1:=by
  unfold mT
  split
  ·have:=hc (be d).toNat;omega
  ·have:=hc d.wet.toNat;omega
 rw[hV]
 unfold ff
 match (ld d).toNat with
 | 0=>exact⟨hC,by show d.pb.co<=n+1;omega⟩
 |_+1=>exact⟨by show d.pa.co<=n+1;omega,hC⟩
theorem Qj{d:Dk}(h:av d=true)(hn:d.pa.co<99999/\d.pb.co<99999):fy d=0:=by
 by_cases hw:d.wet<0
 ·refine(GJ h hw ?_).2
  match (be d).toNat with
  | 0=>show d.pa.co≠99999;omega
  |_+1=>show d.pb.co≠99999;omega
 ·exact(GL h hw).2
theorem aao{d:Dk}(h:av d=true):gr d=d\/(0<=d.wet/\aN (d.setW (-1))=(d.pg d.wet.toNat).st):=by
 rw[lz h]
 have hr:=Fs h
 by_cases hw:d.wet<0
 ·left
  have :d.wet= -1:=by omega
  rw[<-this];rfl
 ·right
  refine⟨by omega,?_⟩
  obtain⟨h1,h2,_,_,h5⟩:=nJ h hw
  have a:g0 (d.setW (-1))=true:=by
   show ((0:Int) != -1&&aE d.me d.pa)=true
   rw[h1];rfl
  have b:g1 (d.setW (-1))=true:=by
   show ((1:Int) != -1&&aE d.me d.pb)=true
   rw[h2];rfl
  have e:be (d.setW (-1))=if decide (d.pb.co>d.pa.co)=true then 1 else 0:=by
   rw[sj,a,b]
   show (if (true&&(!true||decide (d.pb.co>d.pa.co)))=true then(1:Int)else if true=true then 0 else -1)=_
   simp
  have gR:d.wet=0\/d.wet=1:=by omega
  unfold aN
  rw[e]
  rcases gR with hx | hx
  ·rw[hx]at h5 |-
   have oQ:d.pb.co<d.pa.co:=h5
   rw[if_neg (by simp;omega)];rfl
  ·rw[hx]at h5 |-
   have oQ:d.pa.co<d.pb.co:=h5
   rw[if_pos (by simp;omega)];rfl
theorem Fm{d:Dk}(h:av d=true){s:Stk}(hs:fE (gr d) s):fE d s/\(s=aN (gr d)\/s=d.now):=by
 rcases aao h with e | ⟨hw,e⟩
 ·rw[e]at hs |-
  refine⟨hs,?_⟩
  have hwn:d.wet<0:=by
   have :(gr d).wet= -1:=by rw[lz h];rfl
   rw[e]at this;omega
  rcases hs with h | h | ⟨h,_⟩
  ·exact .inl h
  ·exact .inr h
  ·omega
 ·have hd:=lz h
  rcases hs with h1 | h1 | ⟨h1,_⟩
  ·refine⟨.inr (.inr ⟨hw,?_⟩),.inl h1⟩
   rw[h1,hd,e]
  ·rw[hd]at h1
   exact⟨.inr (.inl h1),.inr h1⟩
  ·rw[hd]at h1
   have :(d.setW (-1)).wet= -1:=rfl
   omega
theorem uH{d:Dk}:fE d (aN d):=.inl rfl
theorem l8{d:Dk}:fE d d.now:=.inr (.inl rfl)
theorem aan{d:Dk}(h:av d=true):(gr d).now=d.now:=by rw[lz h];rfl
theorem Fl{d:Dk}(h:av d=true):fE d (aN (gr d)):=(Fm h uH).1
theorem aad{d:Dk}(n:Int)(h:av d=true):aN (gF d n)=aN d\/aN (gF d n)=aN (gr d):=by
 have hE:aN (gF d n)=aN ((iz d n).setW (-1)):=by rw[nG h];exact wV _ _
 rw[hE]
 cases hb:gM d n
 ·rw[nh hb,lz h]
  exact .inr rfl
 ·left
  have hw:=vm hb
  obtain⟨h1,h2,h3,h4,_⟩:=nJ h hw
  rw[nW hb]
  have gR:d.wet=0\/d.wet=1:=by omega
  rcases gR with e | e
  ·rw[e]
   have hs:=ye h1
   have a:g0 ((d.setP 0 ⟨d.pa.co,d.pa.st,(d.pa.su+1).tmod 1000003⟩).setW (-1))=false:=by
    show ((0:Int) != -1&&aE d.me ⟨d.pa.co,d.pa.st,(d.pa.su+1).tmod 1000003⟩)=false
    rw[hs];rfl
   have b:g1 ((d.setP 0 ⟨d.pa.co,d.pa.st,(d.pa.su+1).tmod 1000003⟩).setW (-1))=true:=by
    show ((1:Int) != -1&&aE d.me d.pb)=true
    rw[h2];rfl
   have hf:be ((d.setP 0 ⟨d.pa.co,d.pa.st,(d.pa.su+1).tmod 1000003⟩).setW (-1))=1:=by
    rw[sj,a,b];rfl
   show aN ((d.setP 0 ⟨d.pa.co,d.pa.st,(d.pa.su+1).tmod 1000003⟩).setW (-1))=_
   unfold aN
   rw[hf,E6 e h2];rfl
  ·rw[e]
   have hs:=ye h2
   have a:g0 ((d.setP 1 ⟨d.pb.co,d.pb.st,(d.pb.su+1).tmod 1000003⟩).setW (-1))=true:=by
    show ((0:Int) != -1&&aE d.me d.pa)=true
    rw[h1];rfl
   have b:g1 ((d.setP 1 ⟨d.pb.co,d.pb.st,(d.pb.su+1).tmod 1000003⟩).setW (-1))=false:=by
    show ((1:Int) != -1&&aE d.me ⟨d.pb.co,d.pb.st,(d.pb.su+1).tmod 1000003⟩)=false
    rw[hs];rfl
   have hf:be ((d.setP 1 ⟨d.pb.co,d.pb.st,(d.pb.su+1).tmod 1000003⟩).setW (-1))=0:=by
    rw[sj,a,b];rfl
   show aN ((d.setP 1 ⟨d.pb.co,d.pb.st,(d.pb.su+1).tmod 1000003⟩).setW (-1))=_
   unfold aN
   rw[hf,E5 e h1];rfl
theorem MR{d:Dk}(n:Int)(h:av d=true){s:Stk}(hs:fE (gF d n) s):s=aN (gF d n):=by
 have hn:=(E3 (n:=n) h).2.2
 have hw:(gF d n).wet= -1:=by rw[nG h];rfl
 rcases hs with h1 | h1 | ⟨h1,_⟩
 ·exact h1
 ·rw[hn];exact h1
 ·omega
theorem MQ{d:Dk}(n:Int)(h:av d=true):(gF d n).pa.co=d.pa.co/\(gF d n).pb.co=d.pb.co:=by
 rw[nG h]
 show (iz d n).pa.co=d.pa.co/\(iz d n).pb.co=d.pb.co
 cases hb:gM d n
 ·rw[nh hb];exact⟨rfl,rfl⟩
 ·rw[nW hb]
  match d.wet.toNat with
  | 0=>exact⟨rfl,rfl⟩
  |_+1=>exact⟨rfl,rfl⟩
end Go.Eng
set_option linter.constructorNameAsVariable false
namespace Go.Eng
open Go Go.Proofs
theorem Sx.get_set(x:Sx){k:Nat}(hk:k<6)(e:Dk):(x.set k e).ds.get k=e:=(x.ds.get_set (i:=k) (j:=k) e hk).1
theorem Sx.get_ne(x:Sx){k i:Nat}(hk:k<6)(hi:i<6)(aj:i≠k)(e:Dk):(x.set k e).ds.get i=x.ds.get i:=(x.ds.get_set (i:=k) (j:=i) e hk).2 hi aj
structure Si (aF:Nat->List Int) (lg:Nat->Nat->List Int) (i:Nat) (d:Dk) (s:Stk):Prop where
 ok:fe (i:Int) s
 sl:∀ j,j<6->(aN d).se.get j<=s.se.get j
 su:∀ j,j<6->s.se.get j<=d.now.se.get j
 tl:∀ j,j<6->(aN d).ta.get j<=s.ta.get j
 tu:∀ j,j<6->s.ta.get j<=d.now.ta.get j
 un:∀ j,j<6->∀ p∈s.un.get j,(lg i j)[(p.no-1).toNat]?=some p.pa
 co:∀ x,s.ho.count x+bd (fun j=>ct x (lg i j) (s.se.get j))=(aF i).count x+bd (fun j=>ct x (lg j i) (s.ta.get j))
structure A3 (lg:Nat->Nat->List Int) (x:Sx) (b:Bag):Prop where
 ok:fx b=true
 un:∀ p∈b.ps,(lg b.fr.toNat b.to.toNat)[(p.no-1).toNat]?=some p.pa/\p.no<=(aN (x.ds.get b.fr.toNat)).se.get b.to.toNat
 ta:b.ta<=(aN (x.ds.get b.fr.toNat)).ta.get b.to.toNat
structure bI (aF:Nat->List Int) (lg:Nat->Nat->List Int) (x:Sx) (n:Nat):Prop where
 ok:∀ i,i<6->av (x.ds.get i)=true
 me:∀ i,i<6->(x.ds.get i).me=(i:Int)
 len:∀ i,i<6->∀ j,j<6->((lg i j).length:Int)=(x.ds.get i).now.se.get j
 st:∀ i,i<6->∀ s,fE (x.ds.get i) s->Si aF lg i (x.ds.get i) s
 acks:∀ i,i<6->∀ j,j<6->(x.ds.get j).now.ta.get i<=(aN (x.ds.get i)).se.get j
 cov:∀ i,i<6->∀ s,fE (x.ds.get i) s->∀ j,j<6->s.se.get j-((s.un.get j).length:Int)<=(aN (x.ds.get j)).ta.get i
 bags:∀ b∈x.bs,A3 lg x b
 cnt:∀ i,i<6->(x.ds.get i).pa.co<=(n:Int)+1/\(x.ds.get i).pb.co<=(n:Int)+1
theorem fe.d0{k:Nat}{s:Stk}(h:fe (k:Int) s):s.un.get k=[]/\s.se.get k=0/\s.ta.get k=0:=by
 have a:=h.u0;have b:=h.s0;have c:=h.t0
 simp only[Int.toNat_natCast]at a b c
 exact⟨a,b,c⟩
theorem F4{b:Bag}(h:fx b=true):b.fr.toNat<6/\b.to.toNat<6/\b.fr.toNat≠b.to.toNat/\0<=b.fr/\0<=b.to/\cj b.ps=true/\0<=b.ta:=by
 unfold fx at h
 simp only[Bool.and_eq_true]at h
 obtain⟨⟨⟨⟨h1,h2⟩,h3⟩,h4⟩,h5⟩:=h
 have h1:=ck.1 h1
 have h2:=ck.1 h2
 have h5:=ck.1 h5
 have h3:b.fr≠b.to:=by simpa using h3
 exact⟨by omega,by omega,by omega,by omega,by omega,h4,h5.1⟩
theorem bI.set{aF:Nat->List Int}{lg dq:Nat->Nat->List Int}{x:Sx}{n m k:Nat}{e:Dk}(h:bI aF lg x n)(hk:k<6)(al:n<=m)
 (ok:av e=true) (me:e.me=(k:Int))
 (hl:∀ a b,a≠k->dq a b=lg a b)
 (len:∀ j,j<6->((dq k j).length:Int)=e.now.se.get j)
 (pre:∀ j,j<6->(dq k j).take ((aN (x.ds.get k)).se.get j).toNat=(lg k j).take ((aN (x.ds.get k)).se.get j).toNat)
 (Z4:∀ j,j<6->(aN (x.ds.get k)).se.get j<=(aN e).se.get j)
 (Z3:∀ j,j<6->(aN (x.ds.get k)).ta.get j<=(aN e).ta.get j)
 (st:∀ s,fE e s->Si aF dq k e s)
 (acks:∀ j,j<6->j≠k->e.now.ta.get j<=(aN (x.ds.get j)).se.get k)
 (cov:∀ s,fE e s->∀ j,j<6->j≠k->s.se.get j-((s.un.get j).length:Int)<=(aN (x.ds.get j)).ta.get k)
 (cnt:e.pa.co<=(m:Int)+1/\e.pb.co<=(m:Int)+1):bI aF dq (x.set k e) m:=by
 have Ic:∀ j,j<6->∀ t:Int,t<=(aN (x.ds.get k)).se.get j->(dq k j).take t.toNat=(lg k j).take t.toNat:=fun j hj t ht=>by
  have :=congrArg (List.take t.toNat) (pre j hj)
  rw[List.take_take,List.take_take,Nat.min_eq_left (by omega)]at this
  exact this
 have gk:=x.get_set hk e
 have gn:∀ i,i<6->i≠k->(x.set k e).ds.get i=x.ds.get i:=fun i hi aj=>x.get_ne hk hi aj e
 have d0:=(st _ l8).ok.d0
 have d1:=(st _ uH).ok.d0
 have MO:∀ a,a<6->∀ b,b<6->(aN (x.ds.get a)).se.get b<=(aN ((x.set k e).ds.get a)).se.get b:=fun a ha b hb=>by
  by_cases ea:a=k
  ·subst ea;rw[gk];exact Z4 b hb
  ·rw[gn a ha ea];exact Int.le_refl _
 have Aa:∀ a,a<6->∀ b,b<6->(aN (x.ds.get a)).ta.get b<=(aN ((x.set k e).ds.get a)).ta.get b:=fun a ha b hb=>by
  by_cases ea:a=k
  ·subst ea;rw[gk];exact Z3 b hb
  ·rw[gn a ha ea];exact Int.le_refl _
 have L8:∀ y a,a<6->∀ b,b<6->∀ t:Int,t<=(aN (x.ds.get a)).se.get b->ct y (dq a b) t=ct y (lg a b) t:=fun y a ha b hb t ht=>by
  by_cases ea:a=k
  ·subst ea;exact aaT (Ic b hb t ht)
  ·rw[hl a b ea]
 refine⟨fun i hi=>?_,fun i hi=>?_,fun i hi j hj=>?_,fun i hi s hs=>?_,fun i hi j hj=>?_,fun i hi s hs j hj=>?_,fun b hb=>?_,fun i hi=>?_⟩
 ·by_cases ei:i=k
  ·subst ei;rw[gk];exact ok
  ·rw[gn i hi ei];exact h.ok i hi
 ·by_cases ei:i=k
  ·subst ei;rw[gk];exact me
  ·rw[gn i hi ei];exact h.me i hi
 ·by_cases ei:i=k
  ·subst ei;rw[gk];exact len j hj
  ·rw[gn i hi ei,hl i j ei];exact h.len i hi j hj
 ·by_cases ei:i=k
  ·subst ei;rw[gk]at hs |-;exact st s hs
  ·rw[gn i hi ei]at hs |-
   have o:=h.st i hi s hs
   refine⟨o.ok,o.sl,o.su,o.tl,o.tu,fun j hj p hp=>?_,fun y=>?_⟩
   ·rw[hl i j ei];exact o.un j hj p hp
   ·have:=o.co y
    rw[kr (g:=fun j=>ct y (lg i j) (s.se.get j)) (fun j _=>by rw[hl i j ei]),this]
    congr 1
    refine kr fun j hj=>(L8 y j hj i hi _ ?_).symm
    exact Int.le_trans (o.tu j hj) (h.acks j hj i hi)
 ·by_cases ej:j=k
  ·subst ej
   rw[gk]
   by_cases ei:i=j
   ·subst ei;rw[gk,d0.2.2,d1.2.1];exact Int.le_refl _
   ·rw[gn i hi ei];exact acks i hi ei
  ·rw[gn j hj ej]
   exact Int.le_trans (h.acks i hi j hj) (MO i hi j hj)
 ·by_cases ei:i=k
  ·subst ei
   rw[gk]at hs
   by_cases ej:j=i
   ·subst ej
    have o:=(st s hs).ok.d0
    rw[gk,o.1,o.2.1,d1.2.2];exact Int.le_refl _
   ·rw[gn j hj ej];exact cov s hs j hj ej
  ·rw[gn i hi ei]at hs
   exact Int.le_trans (h.cov i hi s hs j hj) (Aa j hj i hi)
 ·have o:=h.bags b hb
  obtain⟨f6,t6,_⟩:=F4 o.ok
  refine⟨o.ok,fun p hp=>?_,Int.le_trans o.ta (Aa _ f6 _ t6)⟩
  obtain⟨u1,u2⟩:=o.un p hp
  refine⟨?_,Int.le_trans u2 (MO _ f6 _ t6)⟩
  by_cases ea:b.fr.toNat=k
  ·rw[ea]at u1 u2 |-
   rw[<-u1]
   have DE:=(qp o.ok).2.2.2.2.1 p hp
   exact at_take (m:=p.no) (Ic _ t6 _ u2) (by omega)
  ·rw[hl _ _ ea];exact u1
 ·by_cases ei:i=k
  ·subst ei;rw[gk];exact cnt
  ·rw[gn i hi ei];have:=h.cnt i hi;omega
theorem bI.total{aF:Nat->List Int}{lg:Nat->Nat->List Int}{x:Sx}{n:Nat}(h:bI aF lg x n)(y:Int){S:Nat->Stk}(hS:∀ i,i<6->(∀ z,(S i).ho.count z+bd (fun j=>ct z (lg i j) ((S i).se.get j))=(aF i).count z+bd (fun j=>ct z (lg j i) ((S i).ta.get j)))):
 bd (fun i=>(S i).ho.count y)+bd (fun i=>bd fun j=>ct y (lg i j) ((S i).se.get j))=bd (fun i=>(aF i).count y)+bd (fun i=>bd fun j=>ct y (lg i j) ((S j).ta.get i)):=by
 rw[<-xJ,Rg (fun i j=>ct y (lg i j) ((S j).ta.get i)),<-xJ]
 exact kr fun i hi=>hS i hi y
end Go.Eng
set_option linter.constructorNameAsVariable false
namespace Go.Eng
open Go Go.Proofs
theorem aR.set_at{α:Type}(s:aR α){k i:Nat}(hk:k<6)(hi:i<6)(e:α):(s.set k e).get i=if i=k then e else s.get i:=by
 by_cases h:i=k
 ·subst h;rw[if_pos rfl];exact(s.get_set (i:=i) (j:=i) e hk).1
 ·rw[if_neg h];exact(s.get_set (i:=k) (j:=i) e hk).2 hi h
theorem RL{d:Dk}{p t:Int}(he:da d p t=0):av d=true/\(1<=p/\p<=999)/\(0<=t/\t<=5)/\t≠d.me/\p∈d.now.ho/\fX d p t=d.setN (iX d.now p t.toNat):=by
 have hV:fX d p t=d.setN (iX d.now p t.toNat):=by unfold fX;rw[if_pos he]
 unfold da at he
 by_cases h:av d=true
 ·rw[if_pos h]at he
  by_cases h1:aT p 1 999=true
  ·rw[if_pos h1]at he
   by_cases h2:dF d t=true
   ·rw[if_pos h2]at he
    by_cases h3:lD d p=true
    ·rw[if_pos h3]at he;cases he
    ·have qa:=h2
     unfold dF at qa
     rw[Bool.and_eq_true,ck]at qa
     refine⟨h,ck.1 h1,qa.1,by simpa using qa.2,?_,hV⟩
     have hh:bp d.now.ho p=!lD d p:=zW
     rw[Bool.eq_false_iff.2 h3]at hh
     unfold bp at hh
     simpa using hh
   ·rw[if_neg h2]at he;cases he
  ·rw[if_neg h1]at he;cases he
 ·rw[if_neg h]at he;cases he
def Jd(lg:Nat->Nat->List Int)(k j:Nat)(p:Int):Nat->Nat->List Int:=fun a b=>if a=k/\b=j then lg k j++[p]else lg a b
theorem bI.send2{aF:Nat->List Int}{lg:Nat->Nat->List Int}{x:Sx}{n k:Nat}{p t:Int}(h:bI aF lg x n)(hk:k<6)(he:da (x.ds.get k) p t=0):bI aF (Jd lg k t.toNat p) (x.set k (fX (x.ds.get k) p t)) n:=by
 obtain⟨hd,hp,ht,XL,ub,hV⟩:=RL he
 obtain⟨⟨ok,me,_⟩,hf⟩:=By hd he
 have hm:=h.me k hk
 obtain⟨j,hj⟩:∃ j,j=t.toNat:=⟨_,rfl⟩
 have wy:j<6:=by omega
 have rZ:j≠k:=by intro e;apply XL;rw[hm];omega
 rw[<-hj]at hV
 rw[hV]at ok me hf |-
 have hlen:=h.len k hk
 have eQ:=h.st k hk _ l8
 rw[<-hj]
 obtain⟨dq,wq⟩:∃ dq,dq=Jd lg k j p:=⟨_,rfl⟩
 rw[<-wq]
 have l1:∀ a b,a≠k->dq a b=lg a b:=fun a b ha=>by rw[wq];exact if_neg (fun e=>ha e.1)
 have l2:∀ b,b≠j->dq k b=lg k b:=fun b hb=>by rw[wq];exact if_neg (fun e=>hb e.2)
 have l3:dq k j=lg k j++[p]:=by rw[wq];exact if_pos ⟨rfl,rfl⟩
 have l4:∀ b,dq b k=lg b k:=fun b=>by rw[wq];exact if_neg (fun e=>rZ e.2.symm)
 have wO:∀ b,b<6->(iX (x.ds.get k).now p j).se.get b=if b=j then(x.ds.get k).now.se.get j+1 else(x.ds.get k).now.se.get b:=fun b hb=>aR.set_at _ wy hb _
 have My:∀ b,b<6->(iX (x.ds.get k).now p j).un.get b=if b=j then(x.ds.get k).now.un.get j++[⟨(x.ds.get k).now.se.get j+1,p⟩]else(x.ds.get k).now.un.get b:=fun b hb=>aR.set_at _ wy hb _
 have Mz:∀ b,b<6->(x.ds.get k).now.se.get b<=(iX (x.ds.get k).now p j).se.get b:=fun b hb=>by
  rw[wO b hb];split
  ·next e=>subst e;omega
  ·exact Int.le_refl _
 have A':∀ b,b<6->∀ q:Par,(lg k b)[(q.no-1).toNat]?=some q.pa->(dq k b)[(q.no-1).toNat]?=some q.pa:=fun b hb q hq=>by
  by_cases eb:b=j
  ·subst eb
   rw[l3,List.getElem?_append_left (List.getElem?_eq_some_iff.1 hq).1];exact hq
  ·rw[l2 b eb];exact hq
 have ct1:∀ y b,b<6->∀ m:Int,m<=(x.ds.get k).now.se.get b->ct y (dq k b) m=ct y (lg k b) m:=fun y b hb m iJ=>by
  by_cases eb:b=j
  ·subst eb;rw[l3];exact aaU (by rw[hlen b hb];exact iJ)
  ·rw[l2 b eb]
 refine h.set hk (Nat.le_refl _) ok (by rw[me];exact hm) l1 (fun b hb=>?_) (fun b hb=>?_) (fun b _=>by rw[hf];exact Int.le_refl _) (fun b _=>by rw[hf];exact Int.le_refl _) (fun s hs=>?_) (fun b hb _=>h.acks b hb k hk) (fun s hs b hb _=>?_) (h.cnt k hk)
 ·show _=(iX (x.ds.get k).now p j).se.get b
  rw[wO b hb]
  by_cases eb:b=j
  ·subst eb
   rw[if_pos rfl,l3,List.length_append,<-hlen b hb];rfl
  ·rw[if_neg eb,l2 b eb];exact hlen b hb
 ·by_cases eb:b=j
  ·subst eb
   rw[l3,List.take_append_of_le_length]
   have a:=eQ.sl b hb
   have c:=hlen b hb
   omega
  ·rw[l2 b eb]
 ·have DQ:((x.ds.get k).setN (iX (x.ds.get k).now p j)).now=iX (x.ds.get k).now p j:=rfl
  rcases y7 hs with rfl | hold
  ·refine⟨?_,fun b hb=>?_,fun b hb=>Int.le_refl _,fun b hb=>?_,fun b hb=>Int.le_refl _,fun b hb q hq=>?_,fun y=>?_⟩
   ·have:=(gX.1 ok).1
    rw[me,hm]at this;exact this
   ·rw[hf];exact Int.le_trans (eQ.sl b hb) (Mz b hb)
   ·rw[hf];exact eQ.tl b hb
   ·rw[My b hb]at hq
    by_cases eb:b=j
    ·subst eb
     rw[if_pos rfl]at hq
     rcases List.mem_append.1 hq with hq | hq
     ·exact A' b hb q (eQ.un b hb q hq)
     ·rw[List.mem_singleton]at hq
      subst hq
      rw[l3]
      have :=hlen b hb
      have e:((x.ds.get k).now.se.get b+1-1).toNat=(lg k b).length:=by omega
      show (lg k b++[p])[((x.ds.get k).now.se.get b+1-1).toNat]?=some p
      rw[e,List.getElem?_append_right (Nat.le_refl _),Nat.sub_self];rfl
    ·rw[if_neg eb]at hq
     exact A' b hb q (eQ.un b hb q hq)
   ·have o:=eQ.co y
    have oK:(fJ (x.ds.get k).now.ho p (x.ds.get k).now.ho.length).count y+(if p=y then 1 else 0)=(x.ds.get k).now.ho.count y:=aai eQ.ok.ri ub
    have hu:=G4 (f:=fun b=>ct y (dq k b) ((iX (x.ds.get k).now p j).se.get b)) (g:=fun b=>ct y (lg k b) ((x.ds.get k).now.se.get b)) wy (fun b hb eb=>by
     show ct y (dq k b) ((iX (x.ds.get k).now p j).se.get b)=ct y (lg k b) ((x.ds.get k).now.se.get b)
     rw[wO b hb,if_neg eb,l2 b eb])
    have hjj:ct y (dq k j) ((iX (x.ds.get k).now p j).se.get j)=ct y (lg k j) ((x.ds.get k).now.se.get j)+(if p=y then 1 else 0):=by
     rw[wO j wy,if_pos rfl,l3]
     exact aaS y _ p (hlen j wy)
    have hr:bd (fun b=>ct y (dq b k) ((iX (x.ds.get k).now p j).ta.get b))=bd (fun b=>ct y (lg b k) ((x.ds.get k).now.ta.get b)):=kr fun b _=>by
     show ct y (dq b k) ((x.ds.get k).now.ta.get b)=_
     rw[l4 b]
    rw[hr]
    show (fJ (x.ds.get k).now.ho p (x.ds.get k).now.ho.length).count y+_=_
    omega
  ·have dd:fE (x.ds.get k) s:=by
     rcases hold with h1 | h1
     ·exact .inl h1
     ·exact .inr (.inr h1)
   have o:=h.st k hk s dd
   refine⟨o.ok,fun b hb=>by rw[hf];exact o.sl b hb,fun b hb=>Int.le_trans (o.su b hb) (Mz b hb),fun b hb=>by rw[hf];exact o.tl b hb,fun b hb=>o.tu b hb,fun b hb q hq=>A' b hb q (o.un b hb q hq),fun y=>?_⟩
   rw[kr (g:=fun b=>ct y (lg k b) (s.se.get b)) (fun b hb=>ct1 y b hb _ (o.su b hb)),o.co y]
   congr 1
   exact kr fun b _=>by rw[l4 b]
 ·rcases y7 hs with rfl | hold
  ·rw[wO b hb,My b hb]
   have c:=h.cov k hk _ l8 b hb
   by_cases eb:b=j
   ·subst eb
    rw[if_pos rfl,if_pos rfl,List.length_append]
    simp only[List.length_cons,List.length_nil]
    omega
   ·rw[if_neg eb,if_neg eb];exact c
  ·refine h.cov k hk s ?_ b hb
   rcases hold with h1 | h1
   ·exact .inl h1
   ·exact .inr (.inr h1)
theorem bI.send{aF:Nat->List Int}{lg:Nat->Nat->List Int}{x:Sx}{n k:Nat}{p t:Int}(h:bI aF lg x n)(hk:k<6)(he:da (x.ds.get k) p t=0):∃ dq,bI aF dq (x.set k (fX (x.ds.get k) p t)) n:=⟨_,h.send2 hk he⟩
theorem bI.step{aF:Nat->List Int}{lg:Nat->Nat->List Int}{x:Sx}{n m k:Nat}{e:Dk}(h:bI aF lg x n)(hk:k<6)(al:n<=m)(ok:av e=true)(me:e.me=(x.ds.get k).me)
 (eQ:e.now=(x.ds.get k).now) (eB:fE (x.ds.get k) (aN e)) (dd:∀ s,fE e s->fE (x.ds.get k) s)
 (hle:∀ s,fE e s->∀ j,j<6->(aN e).se.get j<=s.se.get j/\(aN e).ta.get j<=s.ta.get j)
 (cnt:e.pa.co<=(m:Int)+1/\e.pb.co<=(m:Int)+1):bI aF lg (x.set k e) m:=by
 have o:=h.st k hk _ eB
 refine h.set hk al ok (by rw[me];exact h.me k hk) (fun _ _ _=>rfl) (fun j hj=>by rw[eQ];exact h.len k hk j hj) (fun _ _=>rfl) o.sl o.tl (fun s hs=>?_) (fun j hj _=>by rw[eQ];exact h.acks j hj k hk) (fun s hs j hj _=>h.cov k hk s (dd s hs) j hj) cnt
 have q:=h.st k hk s (dd s hs)
 exact⟨q.ok,fun j hj=>(hle s hs j hj).1,fun j hj=>by rw[eQ];exact q.su j hj,fun j hj=>(hle s hs j hj).2,fun j hj=>by rw[eQ];exact q.tu j hj,q.un,q.co⟩
theorem bI.write{aF:Nat->List Int}{lg:Nat->Nat->List Int}{x:Sx}{n k:Nat}(h:bI aF lg x n)(hk:k<6)(hn:n<90000):fy (x.ds.get k)=0/\bI aF lg (x.set k (dE (x.ds.get k))) (n+1):=by
 have hd:=h.ok k hk
 have hc:=h.cnt k hk
 have he:=Qj hd ⟨by omega,by omega⟩
 obtain⟨⟨ok,me,_⟩,hf⟩:=xD hd he
 refine⟨he,h.step hk (by omega) ok me (Qi he) (by rw[hf];exact uH) (fun s=>GG hd he) (fun s hs j hj=>?_) ?_⟩
 ·have q:=h.st k hk s (GG hd he hs)
  rw[hf];exact⟨q.sl j hj,q.tl j hj⟩
 ·have:=Qk hd (n:=(n:Int)+1) hc he
  omega
theorem Nh{d:Dk}(h:av d=true):(gr d).pa=d.pa/\(gr d).pb=d.pb:=by rw[lz h];exact⟨rfl,rfl⟩
theorem bI.dry{aF:Nat->List Int}{lg:Nat->Nat->List Int}{x:Sx}{n k:Nat}(h:bI aF lg x n)(hk:k<6):bI aF lg (x.set k (gr (x.ds.get k))) n:=by
 have hd:=h.ok k hk
 have hc:=h.cnt k hk
 obtain⟨ok,me,_⟩:=(Ae hd).1
 refine h.step hk (Nat.le_refl _) ok me (aan hd) (Fl hd) (fun s hs=>(Fm hd hs).1) (fun s hs j hj=>?_) (by rw[(Nh hd).1,(Nh hd).2];exact hc)
 rcases(Fm hd hs).2 with rfl | rfl
 ·exact⟨Int.le_refl _,Int.le_refl _⟩
 ·have q:=h.st k hk _ (Fl hd)
  exact⟨q.su j hj,q.tu j hj⟩
theorem bI.flood{aF:Nat->List Int}{lg:Nat->Nat->List Int}{x:Sx}{n k:Nat}(c:Int)(h:bI aF lg x n)(hk:k<6):∃ dq,bI aF dq (x.set k (gF (x.ds.get k) c)) n:=by
 have hd:=h.ok k hk
 obtain⟨⟨ok,me,_⟩,_,eQ⟩:=E3 (n:=c) hd
 have dd:fE (x.ds.get k) (aN (gF (x.ds.get k) c)):=by
  rcases aad c hd with e | e
  ·rw[e];exact uH
  ·rw[e];exact Fl hd
 have o:=h.st k hk _ dd
 obtain⟨F,hF⟩:∃ F,F=aN (gF (x.ds.get k) c):=⟨_,rfl⟩
 rw[<-hF]at o dd eQ
 have hlen:=h.len k hk
 let dq:Nat->Nat->List Int:=fun a b=>if a=k then(lg k b).take (F.se.get b).toNat else lg a b
 have l1:∀ a b,a≠k->dq a b=lg a b:=fun a b ha=>if_neg ha
 have l2:∀ b,dq k b=(lg k b).take (F.se.get b).toNat:=fun b=>if_pos rfl
 have gi:=o.ok.se
 have tW:=o.ok.ta
 refine⟨dq,h.set hk (Nat.le_refl _) ok (by rw[me];exact h.me k hk) l1 (fun b hb=>?_) (fun b hb=>?_) (fun b hb=>by rw[<-hF];exact o.sl b hb) (fun b hb=>by rw[<-hF];exact o.tl b hb) (fun s hs=>?_) (fun b hb _=>?_) (fun s hs b hb _=>?_) ?_⟩
 ·rw[<-eQ,l2,List.length_take]
  have a:=hlen b hb
  have q:=o.su b hb
  have :=(gi b hb).1
  omega
 ·rw[l2,List.take_take]
  have :=o.sl b hb
  rw[Nat.min_eq_left (by omega)]
 ·have gj:=MR c hd hs
  rw[<-hF]at gj
  subst gj
  refine⟨o.ok,fun b _=>by rw[<-hF];exact Int.le_refl _,fun b _=>by rw[<-eQ];exact Int.le_refl _,fun b _=>by rw[<-hF];exact Int.le_refl _,fun b _=>by rw[<-eQ];exact Int.le_refl _,fun b hb q hq=>?_,fun y=>?_⟩
  ·rw[l2,<-o.un b hb q hq,List.getElem?_take,if_pos]
   have a:=xv (o.ok.un b hb).1 q hq
   have c2:1<=q.no:=by
    obtain⟨i,hi,rfl⟩:=List.getElem_of_mem hq
    exact((xw.1 (o.ok.un b hb).1) i hi).2.1
   omega
  ·rw[kr (g:=fun b=>ct y (lg k b) (s.se.get b)) (fun b _=>by rw[l2];exact NQ (Int.le_refl _)),o.co y]
   congr 1
   refine kr fun b hb=>?_
   by_cases eb:b=k
   ·subst eb
    rw[l2,o.ok.d0.2.2,o.ok.d0.2.1]
    exact(NQ (Int.le_refl _)).symm
   ·rw[l1 b k eb]
 ·rw[<-eQ]
  exact Int.le_trans (o.tu b hb) (h.acks b hb k hk)
 ·have gj:=MR c hd hs
  rw[<-hF]at gj
  subst gj
  exact h.cov k hk s dd b hb
 ·rw[(MQ c hd).1,(MQ c hd).2];exact h.cnt k hk
end Go.Eng
set_option linter.constructorNameAsVariable false
namespace Go.Eng
open Go Go.Proofs
theorem bI.same{aF:Nat->List Int}{lg:Nat->Nat->List Int}{x:Sx}{n m:Nat}(h:bI aF lg x n)(al:n<=m)(l:List Bag)(hl:∀ b∈l,A3 lg x b):bI aF lg ⟨x.ds,l⟩ m:=
 ⟨h.ok,h.me,h.len,h.st,h.acks,h.cov,fun b hb=>⟨(hl b hb).ok,(hl b hb).un,(hl b hb).ta⟩,fun i hi=>⟨Int.le_trans (h.cnt i hi).1 (by omega),Int.le_trans (h.cnt i hi).2 (by omega)⟩⟩
theorem bI.mono{aF:Nat->List Int}{lg:Nat->Nat->List Int}{x:Sx}{n m:Nat}(h:bI aF lg x n)(al:n<=m):bI aF lg x m:=h.same al x.bs h.bags
theorem OT{d:Dk}{t:Int}(h:av d=true)(h2:gv d t=0):lE d t=true:=by
 unfold gv at h2
 rw[if_pos h]at h2
 by_cases h3:dF d t=true
 ·unfold lE;rw[h,h3];rfl
 ·rw[if_neg h3]at h2;cases h2
theorem bI.bag{aF:Nat->List Int}{lg:Nat->Nat->List Int}{x:Sx}{n k:Nat}{t:Int}(h:bI aF lg x n)(hk:k<6)(he:gv (x.ds.get k) t=0):A3 lg x (iZ (x.ds.get k) t):=by
 have hd:=h.ok k hk
 have ha:=OT hd he
 have hV:iZ (x.ds.get k) t=⟨(x.ds.get k).me,t,(aN (x.ds.get k)).un.get t.toNat,(aN (x.ds.get k)).ta.get t.toNat⟩:=by unfold iZ;rw[if_pos ha]
 have hm:=h.me k hk
 unfold lE dF at ha
 simp only[Bool.and_eq_true,ck]at ha
 obtain⟨_,⟨t0,t5⟩,aj⟩:=ha
 have aj:t≠(x.ds.get k).me:=by simpa using aj
 have o:=h.st k hk _ uH
 have ow:t.toNat<6:=by omega
 have u:=o.ok.un _ ow
 have ta:=o.ok.ta _ ow
 rw[hV,hm]
 have lq:=Ij.2 u
 rw[Bool.and_eq_true]at lq
 refine⟨?_,fun p hp=>?_,?_⟩
 ·unfold fx
  simp only[Bool.and_eq_true]
  refine⟨⟨⟨⟨ck.2 ⟨by show (0:Int)<=(k:Int);omega,by show (k:Int)<=5;omega⟩,ck.2 ⟨t0,t5⟩⟩,?_⟩,lq.1⟩,ck.2 ta⟩
  show ((k:Int) != t)=true
  simp only[bne_iff_ne,ne_eq]
  rw[hm]at aj
  exact fun e=>aj e.symm
 ·show (lg (k:Int).toNat t.toNat)[(p.no-1).toNat]?=some p.pa/\p.no<=(aN (x.ds.get (k:Int).toNat)).se.get t.toNat
  rw[Int.toNat_natCast]
  exact⟨o.un _ ow p hp,(xv u.1 p hp).2⟩
 ·show _<=(aN (x.ds.get (k:Int).toNat)).ta.get t.toNat
  rw[Int.toNat_natCast]
  exact Int.le_refl _
theorem bI.pack{aF:Nat->List Int}{lg:Nat->Nat->List Int}{x:Sx}{n k:Nat}{t:Int}(h:bI aF lg x n)(hk:k<6)(he:gv (x.ds.get k) t=0):bI aF lg ⟨x.ds,x.bs++[iZ (x.ds.get k) t]⟩ n:=
 h.same (Nat.le_refl _) _ fun b hb=>by
  rcases List.mem_append.1 hb with hb | hb
  ·exact h.bags b hb
  ·rw[List.mem_singleton]at hb
   rw[hb];exact h.bag hk he
structure Qs (aF:Nat->List Int) (lg:Nat->Nat->List Int) (x:Sx) (k:Nat) (s:Stk):Prop where
 co:∀ y,s.ho.count y+bd (fun j=>ct y (lg k j) (s.se.get j))=(aF k).count y+bd (fun j=>ct y (lg j k) (s.ta.get j))
 tu:∀ j,j<6->s.ta.get j<=(aN (x.ds.get j)).se.get k
 sl:∀ j,j<6->(x.ds.get j).now.ta.get k<=s.se.get j
 d0:s.ta.get k<=s.se.get k
theorem bI.sum{aF:Nat->List Int}{lg:Nat->Nat->List Int}{x:Sx}{n k:Nat}(h:bI aF lg x n)(hk:k<6){s:Stk}(q:Qs aF lg x k s)(y:Int){S:Nat->Stk}(hS:S=fun i=>if i=k then s else(x.ds.get i).now):
 (∀ i,i<6->∀ j,j<6->(S j).ta.get i<=(S i).se.get j)/\bd (fun i=>(S i).ho.count y)+bd (fun i=>bd fun j=>ct y (lg i j) ((S i).se.get j)-ct y (lg i j) ((S j).ta.get i))=bd (fun i=>(aF i).count y):=by
 have gk:S k=s:=by rw[hS];exact if_pos rfl
 have gn:∀ i,i≠k->S i=(x.ds.get i).now:=fun i hi=>by rw[hS];exact if_neg hi
 have hle:∀ i,i<6->∀ j,j<6->(S j).ta.get i<=(S i).se.get j:=fun i hi j hj=>by
  by_cases ei:i=k
  ·subst ei
   by_cases ej:j=i
   ·subst ej;rw[gk];exact q.d0
   ·rw[gk,gn j ej];exact q.sl j hj
  ·rw[gn i ei]
   have f:=(h.st i hi _ l8).sl j hj
   by_cases ej:j=k
   ·subst ej;rw[gk];exact Int.le_trans (q.tu i hi) f
   ·rw[gn j ej];exact Int.le_trans (h.acks i hi j hj) f
 refine⟨hle,?_⟩
 have ht:=h.total y (S:=S) (fun i hi=>by
  by_cases ei:i=k
  ·subst ei;rw[gk];exact q.co
  ·rw[gn i ei];exact(h.st i hi _ l8).co)
 have hd:bd (fun i=>bd fun j=>ct y (lg i j) ((S i).se.get j))=bd (fun i=>bd fun j=>ct y (lg i j) ((S i).se.get j)-ct y (lg i j) ((S j).ta.get i))+bd (fun i=>bd fun j=>ct y (lg i j) ((S j).ta.get i)):=by
  rw[<-xJ]
  refine kr fun i hi=>?_
  rw[<-xJ]
  refine kr fun j hj=>?_
  have :=NR y (lg i j) (hle i hi j hj)
  omega
 omega
theorem Ci:∀ {l u:List Int},l.Nodup->(∀ y∈l,y∈u)->l.length<=u.length
 |[],_,_,_=>Nat.zero_le _
 |y::r,u,hn,h=>by
  rw[List.nodup_cons]at hn
  have hy:=h y (List.mem_cons_self ..)
  have :=Ci (l:=r) (u:=u.erase y) hn.2 (fun z hz=>by
   have aj:z≠y:=fun e=>hn.1 (e▸hz)
   exact(List.mem_erase_of_ne aj).2 (h z (List.mem_cons_of_mem _ hz)))
  rw[List.length_erase_of_mem hy]at this
  have bR:0<u.length:=List.length_pos_iff.2 (List.ne_nil_of_mem hy)
  simp only[List.length_cons]
  omega
structure xy (aF:Nat->List Int):Prop where
 one:∀ y,bd (fun i=>(aF i).count y)<=1
 few:bd (fun i=>(aF i).length)<=40
theorem bI.len40{aF:Nat->List Int}{lg:Nat->Nat->List Int}{x:Sx}{n k:Nat}(hi:xy aF)(h:bI aF lg x n)(hk:k<6){s:Stk}(q:Qs aF lg x k s)(hr:s.ho.Pairwise (· < ·)):s.ho.length<=40:=by
 have hn:s.ho.Nodup:=hr.imp (fun h=>by omega)
 have hu:(aF 0++(aF 1++(aF 2++(aF 3++(aF 4++aF 5))))).length<=40:=by
  have :=hi.few
  simp only[bd]at this
  simp only[List.length_append]
  omega
 refine Nat.le_trans (Ci hn fun y hy=>?_) hu
 obtain⟨S,hS⟩:∃ S:Nat->Stk,S=fun i=>if i=k then s else(x.ds.get i).now:=⟨_,rfl⟩
 have hs:=(h.sum hk q y hS).2
 have gk:S k=s:=by rw[hS];exact if_pos rfl
 have h1:1<=s.ho.count y:=List.count_pos_iff.2 hy
 have h2:(S k).ho.count y<=_:=vi (f:=fun i=>(S i).ho.count y) hk
 rw[gk]at h2
 have h3:1<=bd (fun i=>(aF i).count y):=by omega
 have hm:∀ i,y∉aF i->(aF i).count y=0:=fun i hi=>List.count_eq_zero_of_not_mem hi
 simp only[List.mem_append]
 by_cases c0:y∈aF 0
 ·exact .inl c0
 by_cases c1:y∈aF 1
 ·exact .inr (.inl c1)
 by_cases c2:y∈aF 2
 ·exact .inr (.inr (.inl c2))
 by_cases c3:y∈aF 3
 ·exact .inr (.inr (.inr (.inl c3)))
 by_cases c4:y∈aF 4
 ·exact .inr (.inr (.inr (.inr (.inl c4))))
 by_cases c5:y∈aF 5
 ·exact .inr (.inr (.inr (.inr (.inr c5))))
 exfalso
 simp only[bd]at h3
 rw[hm 0 c0,hm 1 c1,hm 2 c2,hm 3 c3,hm 4 c4,hm 5 c5]at h3
 omega
structure AX (aF:Nat->List Int) (lg:Nat->Nat->List Int) (x:Sx) (k f:Nat) (s0 s:Stk):Prop where
 q:Qs aF lg x k s
 ri:s.ho.Pairwise (· < ·)
 se:s.se=s0.se
 un:s.un=s0.un
 ta:∀ j,j<6->j≠f->s.ta.get j=s0.ta.get j
 tf:s0.ta.get f<=s.ta.get f
theorem bI.run{aF:Nat->List Int}{lg:Nat->Nat->List Int}{x:Sx}{n k f:Nat}(hi:xy aF)(h:bI aF lg x n)(hk:k<6)(hf:f<6)(jh:f≠k){ps:List Par}{s0:Stk}(hq:AX aF lg x k f s0 s0)(t0:0<=s0.ta.get f)
 (hp:∀ p∈ps,(lg f k)[(p.no-1).toNat]?=some p.pa/\p.no<=(aN (x.ds.get f)).se.get k):∀ z,z<=ps.length->dr f ps s0 z=0/\AX aF lg x k f s0 (bC f ps s0 z)
 | 0,_=>⟨rfl,hq⟩
 |z+1,hz=>by
  obtain⟨h1,r⟩:=bI.run hi h hk hf jh hq t0 hp z (by omega)
  obtain⟨s,hs⟩:∃ s,s=bC f ps s0 z:=⟨_,rfl⟩
  rw[<-hs]at r
  have hg:ps.getD z default=ps[z]'(by omega):=getD_at (by omega)
  obtain⟨p,gB⟩:∃ p,p=ps[z]'(by omega):=⟨_,rfl⟩
  have ub:p∈ps:=by rw[gB];exact List.getElem_mem _
  obtain⟨p1,p2⟩:=hp p ub
  rw[<-gB]at hg
  by_cases hn:dH f s p=true
  ·have dO:p.no=s.ta.get f+1:=by unfold dH at hn;simpa using hn
   have ht:=r.tf
   have wG:s.ho.count p.pa=0:=by
    obtain⟨S,hS⟩:∃ S:Nat->Stk,S=fun i=>if i=k then s else(x.ds.get i).now:=⟨_,rfl⟩
    obtain⟨_,hs⟩:=h.sum hk r.q p.pa hS
    have h5:S k=s:=by rw[hS];exact if_pos rfl
    have h6:S f=(x.ds.get f).now:=by rw[hS];exact if_neg jh
    have h2:(S k).ho.count p.pa<=_:=vi (f:=fun i=>(S i).ho.count p.pa) hk
    have h3:(bd fun j=>ct p.pa (lg f j) ((S f).se.get j)-ct p.pa (lg f j) ((S j).ta.get f))<=_:=vi (f:=fun i=>bd fun j=>ct p.pa (lg i j) ((S i).se.get j)-ct p.pa (lg i j) ((S j).ta.get i)) hf
    have h4:ct p.pa (lg f k) ((S f).se.get k)-ct p.pa (lg f k) ((S k).ta.get f)<=_:=vi (f:=fun j=>ct p.pa (lg f j) ((S f).se.get j)-ct p.pa (lg f j) ((S j).ta.get f)) hk
    rw[h5]at h2
    rw[h5]at h4
    have Mw:ct p.pa (lg f k) ((x.ds.get f).now.se.get k)-ct p.pa (lg f k) (s.ta.get f)<=bd fun j=>ct p.pa (lg f j) ((S f).se.get j)-ct p.pa (lg f j) ((S j).ta.get f):=by rw[<-h6];exact h4
    have mg:=(h.st f hf _ l8).sl k hk
    have hm:=NR p.pa (lg f k) (show s.ta.get f+1<=(x.ds.get f).now.se.get k by omega)
    rw[FN (y:=p.pa) (by omega) (by rw[<-p1];congr 1;omega),if_pos rfl]at hm
    have :=hi.one p.pa
    omega
   have hh:bp s.ho p.pa=false:=by
    unfold bp
    rw[List.contains_eq_mem,decide_eq_false_iff_not]
    exact fun hm=>absurd (List.count_pos_iff.2 hm) (by omega)
   have bF:bC f ps s0 (z+1)=⟨bX s.ho p.pa,s.un,s.se,s.ta.set f (s.ta.get f+1)⟩:=by
    show gL f (bC f ps s0 z) (ps.getD z default)=_
    rw[<-hs,hg]
    unfold gL
    rw[if_pos hn]
   have oH:∀ j,j<6->(s.ta.set f (s.ta.get f+1)).get j=if j=f then s.ta.get f+1 else s.ta.get j:=fun j hj=>aR.set_at _ hf hj _
   have hr:AX aF lg x k f s0 ⟨bX s.ho p.pa,s.un,s.se,s.ta.set f (s.ta.get f+1)⟩:=by
    refine⟨⟨fun y=>?_,fun j hj=>?_,r.q.sl,?_⟩,C3 r.ri hh,r.se,r.un,fun j hj aj=>?_,?_⟩
    ·have o:=r.q.co y
     have hu:=G4 (f:=fun j=>ct y (lg j k) ((s.ta.set f (s.ta.get f+1)).get j)) (g:=fun j=>ct y (lg j k) (s.ta.get j)) hf (fun j hj aj=>by
      show ct y (lg j k) ((s.ta.set f (s.ta.get f+1)).get j)=_
      rw[oH j hj,if_neg aj])
     rw[oH f hf,if_pos rfl,FN (y:=p.pa) (by omega) (by rw[<-p1];congr 1;omega)]at hu
     have hc:=Xi s.ho p.pa y
     show (bX s.ho p.pa).count y+bd (fun j=>ct y (lg k j) (s.se.get j))=(aF k).count y+bd (fun j=>ct y (lg j k) ((s.ta.set f (s.ta.get f+1)).get j))
     omega
    ·show (s.ta.set f (s.ta.get f+1)).get j<=_
     rw[oH j hj]
     split
     ·next e=>subst e;omega
     ·exact r.q.tu j hj
    ·show (s.ta.set f (s.ta.get f+1)).get k<=s.se.get k
     rw[oH k hk,if_neg (Ne.symm jh)];exact r.q.d0
    ·show (s.ta.set f (s.ta.get f+1)).get j=_
     rw[oH j hj,if_neg aj];exact r.ta j hj aj
    ·show _<=(s.ta.set f (s.ta.get f+1)).get f
     rw[oH f hf,if_pos rfl];omega
   have hlen:=bI.len40 hi h hk hr.q hr.ri
   rw[bF]
   refine⟨?_,hr⟩
   show (if dr f ps s0 z=0 then eu f (bC f ps s0 z) (ps.getD z default)else dr f ps s0 z)=0
   rw[if_pos h1,<-hs,hg]
   exact IB f s p hn hh (by show ¬ 40<(bX s.ho p.pa).length;have h9:(bX s.ho p.pa).length<=40:=hlen;omega)
  ·have hn:dH f s p=false:=by simpa using hn
   have bF:bC f ps s0 (z+1)=s:=by
    show gL f (bC f ps s0 z) (ps.getD z default)=_
    rw[<-hs,hg]
    unfold gL
    rw[if_neg (by rw[hn];decide)]
   rw[bF]
   refine⟨?_,r⟩
   show (if dr f ps s0 z=0 then eu f (bC f ps s0 z) (ps.getD z default)else dr f ps s0 z)=0
   rw[if_pos h1,<-hs,hg]
   exact IA f s p hn
theorem bI.open{aF:Nat->List Int}{lg:Nat->Nat->List Int}{x:Sx}{n k:Nat}{b:Bag}(hi:xy aF)(h:bI aF lg x n)(hb:A3 lg x b)(hk:k=b.to.toNat):fN (x.ds.get k) b=0/\bI aF lg (x.set k (eG (x.ds.get k) b)) n:=by
 obtain⟨f6,t6,aj,f0,t0,lq,Q3⟩:=F4 hb.ok
 have lu:k<6:=by omega
 have hd:=h.ok k lu
 have hm:=h.me k lu
 have kK:iM (x.ds.get k) b=true:=by
  unfold iM
  rw[Bool.and_eq_true,hb.ok,hm,beq_iff_eq]
  exact⟨rfl,by omega⟩
 have nk:=h.st k lu _ l8
 have jh:b.fr.toNat≠k:=by omega
 obtain⟨f,hf⟩:∃ f,f=b.fr.toNat:=⟨_,rfl⟩
 have XZ:AX aF lg x k f (bG (x.ds.get k) b) (bG (x.ds.get k) b):=⟨⟨nk.co,fun j hj=>h.acks j hj k lu,fun j hj=>Int.le_trans (h.acks k lu j hj) (nk.sl j hj),by
  have d:=nk.ok.d0
  show (x.ds.get k).now.ta.get k<=(x.ds.get k).now.se.get k
  rw[d.2.1,d.2.2];exact Int.le_refl _⟩,nk.ok.ri,rfl,rfl,fun _ _ _=>rfl,Int.le_refl _⟩
 have pP:=hb.un
 rw[<-hk,<-hf]at pP
 rw[<-hf]at f6 jh
 have cw:=bI.run hi h lu f6 jh XZ (nk.ok.ta f f6).1 pP b.ps.length (Nat.le_refl _)
 rw[hf]at cw
 obtain⟨he,r⟩:=cw
 rw[<-hf]at r
 obtain⟨_,hE⟩:=Ca hd kK he
 refine⟨hE,?_⟩
 obtain⟨⟨⟨ok,me,_⟩,eB⟩,_,_,hV⟩:=ym hd hE
 rw[hV]at ok me eB |-
 rw[<-hf]at ok me eB |-
 obtain⟨s,hs⟩:∃ s,s=bC f b.ps (bG (x.ds.get k) b) b.ps.length:=⟨_,rfl⟩
 rw[<-hs]at ok me eB r |-
 have gi:∀ j,s.se.get j=(x.ds.get k).now.se.get j:=fun j=>by rw[r.se];rfl
 have tW:∀ j,j<6->(x.ds.get k).now.ta.get j<=s.ta.get j:=fun j hj=>by
  by_cases e:j=f
  ·subst e;exact r.tf
  ·rw[r.ta j hj e];exact Int.le_refl _
 have XT:fe (k:Int) s:=by
  have :=(gX.1 ok).1
  rw[me,hm]at this;exact this
 have Ld:∀ j,j<6->s.un.get j=if j=f then eV ((x.ds.get k).now.un.get f) b.ta ((x.ds.get k).now.un.get f).length else(x.ds.get k).now.un.get j:=fun j hj=>by
  rw[r.un]
  show ((x.ds.get k).now.un.set b.fr.toNat _).get j=_
  rw[<-hf]
  exact aR.set_at _ f6 hj _
 have hold:∀ t,t=aN (x.ds.get k)\/(0<=(x.ds.get k).wet/\t=((x.ds.get k).pg (x.ds.get k).wet.toNat).st)->fE (x.ds.get k) t:=fun t ht=>by
  rcases ht with h1 | h1
  ·exact .inl h1
  ·exact .inr (.inr h1)
 refine h.set lu (Nat.le_refl _) ok (by rw[me];exact hm) (fun _ _ _=>rfl) (fun j hj=>by show _=s.se.get j;rw[gi];exact h.len k lu j hj) (fun _ _=>rfl) (fun j _=>by rw[eB];exact Int.le_refl _) (fun j _=>by rw[eB];exact Int.le_refl _) (fun t ht=>?_) (fun j hj _=>r.q.tu j hj) (fun t ht j hj _=>?_) (h.cnt k lu)
 ·rcases y7 ht with rfl | ht
  ·refine⟨XT,fun j hj=>by rw[eB,gi];exact nk.sl j hj,fun j _=>Int.le_refl _,fun j hj=>by rw[eB];exact Int.le_trans (nk.tl j hj) (tW j hj),fun j _=>Int.le_refl _,fun j hj p hp=>?_,r.q.co⟩
   rw[Ld j hj]at hp
   split at hp
   ·next e=>
    subst e
    unfold eV at hp
    rw[List.take_length]at hp
    exact nk.un j hj p (List.mem_filter.1 hp).1
   ·exact nk.un j hj p hp
  ·have o:=h.st k lu t (hold t ht)
   exact⟨o.ok,fun j hj=>by rw[eB];exact o.sl j hj,fun j hj=>by show _<=s.se.get j;rw[gi];exact o.su j hj,fun j hj=>by rw[eB];exact o.tl j hj,fun j hj=>Int.le_trans (o.tu j hj) (tW j hj),o.un,o.co⟩
 ·rcases y7 ht with rfl | ht
  ·have c:=h.cov k lu _ l8 j hj
   rw[gi,Ld j hj]
   split
   ·next e=>
    subst e
    rcases QK (ta:=b.ta) (nk.ok.un j hj).1 with h1 | h1
    ·omega
    ·have h2:=hb.ta
     rw[<-hk,<-hf]at h2
     omega
   ·exact c
  ·exact h.cov k lu t (hold t ht) j hj
end Go.Eng
set_option linter.constructorNameAsVariable false
namespace Go.Eng
open Go Go.Proofs
def ini0(i:Nat):List Int:=dn (i:Int)
theorem K0:xy ini0:=by
 refine⟨fun y=>?_,by decide⟩
 have hN:(ini0 0++(ini0 1++(ini0 2++(ini0 3++(ini0 4++ini0 5))))).Nodup:=by decide
 have hc:=hN.count (a:=y)
 simp only[List.count_append]at hc
 simp only[bd]
 split at hc<;>omega
structure o6 (n:Nat) (x:Sx):Prop where
 ok:kZ x n
 wl:∃ lg,bI ini0 lg x n
theorem afE{me:Int}{s:Stk}(h:fe me s)(n:Int):1<=nj s.ho n/\nj s.ho n<=999:=by
 unfold nj
 split
 ·exact⟨by decide,by decide⟩
 ·next aj=>
  have bR:0<s.ho.length:=List.length_pos_iff.2 aj
  have g0:=Int.emod_nonneg n (by omega:(s.ho.length:Int)≠0)
  have g1:=Int.emod_lt_of_pos n (by omega:(0:Int)<(s.ho.length:Int))
  rw[getD_at (show (n % (s.ho.length:Int)).toNat<s.ho.length by omega)]
  exact h.rn _ (List.getElem_mem _)
theorem afv{d:Dk}{p t:Int}(h:av d=true)(hp:1<=p/\p<=999):da d p t=0\/da d p t=94\/da d p t=95\/da d p t=2:=by
 unfold da
 rw[if_pos h,if_pos (ck.2 hp)]
 split
 ·split
  ·exact .inr (.inr (.inl rfl))
  ·split
   ·exact .inr (.inr (.inr rfl))
   ·exact .inl rfl
 ·exact .inr (.inl rfl)
theorem ask_cases{d:Dk}{t:Int}(h:av d=true)(ht:0<=t/\t<6):gv d t=0\/(gv d t=94/\t=d.me):=by
 unfold gv
 rw[if_pos h]
 split
 ·exact .inl rfl
 ·next hn=>
  refine .inr ⟨rfl,?_⟩
  unfold dF at hn
  rw[Bool.and_eq_true,ck]at hn
  by_cases e:t=d.me
  ·exact e
  ·exact absurd ⟨⟨ht.1,by omega⟩,by simpa using e⟩ hn
theorem o6.act{n:Nat}{x:Sx}(h:o6 n x)(hn:n<90000)(y:Act):o6 (n+1) (iW x y):=by
 refine⟨Nn h.ok,?_⟩
 obtain⟨lg,w⟩:=h.wl
 have hk:=Nr y
 have hd:=h.ok.ok _ hk
 by_cases c1:dD y<=2
 ·have hm:0<=dD y:=by unfold dD;omega
  rw[Nj (by omega)]
  split
  ·next he=>
   obtain⟨dq,w'⟩:=w.send hk he
   exact⟨dq,w'.mono (Nat.le_succ _)⟩
  ·exact⟨lg,w.mono (Nat.le_succ _)⟩
 by_cases c2:dD y<=4
 ·rw[Ni (by omega),if_pos (w.write hk hn).1]
  exact⟨lg,(w.write hk hn).2⟩
 by_cases c3:dD y<=6
 ·rw[Nq (by omega),if_pos (ed hd)]
  exact⟨lg,(w.dry hk).mono (Nat.le_succ _)⟩
 by_cases c4:dD y<=7
 ·rw[Np (by omega),if_pos (ed hd)]
  obtain⟨dq,w'⟩:=w.flood y.pi hk
  exact⟨dq,w'.mono (Nat.le_succ _)⟩
 by_cases c5:dD y<=10
 ·rw[Nk (by omega)]
  split
  ·next he=>exact⟨lg,(w.pack hk he).mono (Nat.le_succ _)⟩
  ·exact⟨lg,w.mono (Nat.le_succ _)⟩
 by_cases c6:x.bs=[]
 ·rw[No (by omega) c6]
  exact⟨lg,w.mono (Nat.le_succ _)⟩
 ·rw[Nl (by omega) c6]
  have ho:=w.open K0 (w.bags _ (Fq (y:=y) c6)) rfl
  rw[if_pos ho.1]
  exact⟨lg,ho.2.mono (Nat.le_succ _)⟩
theorem o6.open0{n:Nat}{x:Sx}(h:o6 n x){y:Act}(hb:x.bs≠[]):fN (x.ds.get (kf x y).to.toNat) (kf x y)=0:=by
 obtain⟨lg,w⟩:=h.wl
 exact(w.open K0 (w.bags _ (Fq (y:=y) hb)) rfl).1
theorem o6.write0{n:Nat}{x:Sx}(h:o6 n x)(hn:n<90000){k:Nat}(hk:k<6):fy (x.ds.get k)=0:=by
 obtain⟨lg,w⟩:=h.wl
 exact(w.write hk hn).1
theorem ag6(x:Int)(l:List Int):ct x l 0=0:=rfl
theorem abD:o6 0 (lC 6):=by
 refine⟨uV,fun _ _=>[],?_⟩
 have e:∀ i,i<6->(lC 6).ds.get i=eN i (dn i):=fun i hi=>
  ia (P:=fun i=>(lC 6).ds.get i=eN i (dn i)) rfl rfl rfl rfl rfl rfl hi
 have z:∀ {α:Type} (x:α) (i:Nat),(fM fun _=>x).get i=x:=fun x i=>by
  unfold aR.get fM
  split<;>rfl
 have eB:∀ i:Nat,i<6->aN (eN i (dn i))=bE (dn i):=fun i hi=>by
  have aa:=uV.ok i hi
  rw[e i hi]at aa
  have eQ:=(gX.1 aa).1
  have ha:aE (i:Int) ⟨1,bE (dn i),c9 (bE (dn i)) 1⟩=true:=ti eQ ⟨by decide,by decide⟩
  have g:g0 (eN i (dn i))=true:=by
   show ((0:Int) != -1&&aE (i:Int) ⟨1,bE (dn i),c9 (bE (dn i)) 1⟩)=true
   rw[ha];rfl
  have hf:be (eN i (dn i))=0:=by
   rw[sj,g,show decide ((eN i (dn i)).pb.co>(eN i (dn i)).pa.co)=false from rfl]
   simp
  unfold aN
  rw[hf];rfl
 have dd:∀ i:Nat,i<6->∀ s,fE (eN i (dn i)) s->s=bE (dn i):=fun i hi s hs=>by
  rcases hs with h | h | ⟨h,_⟩
  ·rw[h,eB i hi]
  ·exact h
  ·exact absurd h (by show ¬ (0:Int)<= -1;omega)
 refine⟨uV.ok,uV.me,fun i hi j hj=>?_,fun i hi s hs=>?_,fun i hi j hj=>?_,fun i hi s hs j hj=>?_,fun b hb=>?_,fun i hi=>?_⟩
 ·rw[e i hi]
  show (0:Int)=(bE (dn i)).se.get j
  exact(z _ _).symm
 ·rw[e i hi]at hs |-
  have :=dd i hi s hs
  subst this
  have aa:=uV.ok i hi
  rw[e i hi]at aa
  have eQ:=(gX.1 aa).1
  refine⟨eQ,fun j _=>by rw[eB i hi];exact Int.le_refl _,fun j _=>Int.le_refl _,fun j _=>by rw[eB i hi];exact Int.le_refl _,fun j _=>Int.le_refl _,fun j _ p hp=>?_,fun y=>?_⟩
  ·rw[show (bE (dn i)).un.get j=[]from z _ _]at hp;cases hp
  ·show (dn (i:Int)).count y+_=(dn (i:Int)).count y+_
   congr 1
 ·rw[e i hi,e j hj,eB i hi]
  show (bE (dn j)).ta.get i<=(bE (dn i)).se.get j
  rw[show (bE (dn j)).ta.get i=0 from z _ _,show (bE (dn i)).se.get j=0 from z _ _]
  exact Int.le_refl _
 ·rw[e i hi]at hs
  have :=dd i hi s hs
  subst this
  rw[e j hj,eB j hj,show (bE (dn i)).se.get j=0 from z _ _,show (bE (dn i)).un.get j=[]from z _ _,show (bE (dn j)).ta.get i=0 from z _ _]
  decide
 ·rw[Aw]at hb;cases hb
 ·rw[e i hi]
  exact⟨by show (1:Int)<=((0:Nat):Int)+1;decide,by show (0:Int)<=((0:Nat):Int)+1;decide⟩
theorem Q8(l:List Act):∀ z,z<90000->o6 z (Bh l z)
 | 0,_=>abD
 |z+1,h=>(Q8 l z (by omega)).act (by omega) _
end Go.Eng
set_option linter.constructorNameAsVariable false
namespace Go.Eng
open Go Go.Proofs
def orP:List Int:=[3,5,8,13,21,34]
def ini1(i:Nat):List Int:=if i=2 then orP else[]
theorem Xp:xy ini1:=by
 refine⟨fun y=>?_,by decide⟩
 have hN:orP.Nodup:=by decide
 have hc:=hN.count (a:=y)
 have e:bd (fun i=>(ini1 i).count y)=orP.count y:=by
  simp only[bd,ini1]
  simp
 rw[e,hc]
 split<;>omega
structure cW (n:Nat) (x:Sx) (sent:List Int):Prop where
 sx:kZ x n
 wl:∃ lg,bI ini1 lg x n/\lg 2 4=sent/\∀ i j,¬ (i=2/\j=4)->lg i j=[]
 bt:∀ b∈x.bs,b.to=4
theorem FM(y:Int)(n:Int):ct y [] n=0:=by unfold ct;simp
theorem cW.sent_sub{n:Nat}{x:Sx}{sent:List Int}(h:cW n x sent):sent.Nodup/\(∀ y∈sent,y∈orP)/\sent.length<=6/\(x.ds.get 2).now.se.get 4=(sent.length:Int):=by
 obtain⟨lg,w,e,h0⟩:=h.wl
 have o:=w.st 2 (by omega) _ l8
 have hl:=w.len 2 (by omega) 4 (by omega)
 rw[e]at hl
 have hle:∀ y,sent.count y<=orP.count y:=fun y=>by
  have hc:=o.co y
  have hr:bd (fun j=>ct y (lg j 2) ((x.ds.get 2).now.ta.get j))=0:=by
   have :bd (fun j=>ct y (lg j 2) ((x.ds.get 2).now.ta.get j))=bd (fun _=>0):=kr fun j _=>by
    rw[h0 j 2 (by omega)];exact FM _ _
   rw[this];rfl
  rw[hr]at hc
  have h4:ct y (lg 2 4) ((x.ds.get 2).now.se.get 4)<=_:=vi (f:=fun j=>ct y (lg 2 j) ((x.ds.get 2).now.se.get j)) (show 4<6 by omega)
  have L8:ct y (lg 2 4) ((x.ds.get 2).now.se.get 4)=sent.count y:=by
   unfold ct
   rw[e,<-hl,Int.toNat_natCast,List.take_length]
  have hi:(ini1 2).count y=orP.count y:=rfl
  omega
 have hN:orP.Nodup:=by decide
 have ie:sent.Nodup:=List.nodup_iff_count.2 fun y=>Nat.le_trans (hle y) (List.nodup_iff_count.1 hN y)
 have Lk:∀ y∈sent,y∈orP:=fun y hy=>List.count_pos_iff.1 (Nat.lt_of_lt_of_le (List.count_pos_iff.2 hy) (hle y))
 exact⟨ie,Lk,Ci (u:=orP) ie Lk,hl.symm⟩
theorem cW.d2{n:Nat}{x:Sx}{sent:List Int}(h:cW n x sent):av (x.ds.get 2)=true:=h.sx.ok 2 (by omega)
theorem cW.d4{n:Nat}{x:Sx}{sent:List Int}(h:cW n x sent):av (x.ds.get 4)=true:=h.sx.ok 4 (by omega)
theorem cW.to4{n:Nat}{x:Sx}{sent:List Int}(h:cW n x sent):dF (x.ds.get 2) 4=true:=by
 unfold dF
 rw[h.sx.me 2 (by omega)];rfl
theorem cW.lg4{n:Nat}{x:Sx}{sent:List Int}(h:cW n x sent):ma (x.ds.get 2) 4=false:=by
 obtain⟨_,_,h6,hs⟩:=h.sent_sub
 obtain⟨lg,w,_⟩:=h.wl
 obtain⟨p,_⟩:=(w.st 2 (by omega) _ l8).ok.un 4 (by omega)
 have hl:((x.ds.get 2).now.un.get 4).length<=6:=by
  by_cases h0:((x.ds.get 2).now.un.get 4).length=0
  ·omega
  ·have:=(xw.1 p) 0 (by omega)
   omega
 unfold ma
 show (((((x.ds.get 2).now.un.get 4).length:Nat):Int)==40||(x.ds.get 2).now.se.get 4==99999)=false
 rw[Bool.or_eq_false_iff]
 constructor
 ·simp only[beq_eq_false_iff_ne,ne_eq];omega
 ·simp only[beq_eq_false_iff_ne,ne_eq];omega
theorem cW.send{n:Nat}{x:Sx}{sent:List Int}{p:Int}(h:cW n x sent)(hp:p∈(x.ds.get 2).now.ho):
 da (x.ds.get 2) p 4=0/\cW n (x.set 2 (fX (x.ds.get 2) p 4)) (sent++[p]):=by
 have hd:=h.d2
 have hr:=(gX.1 hd).1.rn p hp
 have Y6:lD (x.ds.get 2) p=false:=by
  have h4:=zW (d:=x.ds.get 2) (p:=p)
  have h5:bp (x.ds.get 2).now.ho p=true:=by unfold bp;simpa using hp
  rw[h5]at h4;simpa using h4.symm
 have he:da (x.ds.get 2) p 4=0:=(Hu hd (ck.2 hr) h.to4 Y6 h.lg4).2
 refine⟨he,h.sx.kept (by omega) (By hd he).1,?_,h.bt⟩
 obtain⟨lg,w,e,h0⟩:=h.wl
 refine⟨_,w.send2 (by omega) he,?_,fun i j gl=>?_⟩
 ·show (if (2:Nat)=2/\(4:Nat)=4 then lg 2 4++[p]else lg 2 4)=_
  rw[if_pos ⟨rfl,rfl⟩,e]
 ·show (if i=2/\j=4 then lg 2 4++[p]else lg i j)=_
  rw[if_neg gl];exact h0 i j gl
theorem Sx.set_set(x:Sx){k:Nat}(hk:k<6)(d e:Dk):(x.set k d).set k e=x.set k e:=by
 show (⟨((x.ds.set k d).set k e),x.bs⟩:Sx)=⟨x.ds.set k e,x.bs⟩
 congr 1
 refine Rs fun i hi=>?_
 rw[aR.set_at _ hk hi,aR.set_at _ hk hi,aR.set_at _ hk hi]
 split<;>rfl
theorem cW.wd{n:Nat}{x:Sx}{sent:List Int}(h:cW n x sent)(hn:n<90000):
 fy (x.ds.get 2)=0/\av (dE (x.ds.get 2))=true/\eL (dE (x.ds.get 2))/\cW (n+1) (x.set 2 (gr (dE (x.ds.get 2)))) sent:=by
 obtain⟨lg,w,e,h0⟩:=h.wl
 obtain⟨he,w1⟩:=w.write (k:=2) (by omega) hn
 have w2:=w1.dry (k:=2) (by omega)
 rw[Sx.get_set _ (by omega),Sx.set_set _ (by omega)]at w2
 have k1:=(xD h.d2 he).1
 have k2:=(Ae k1.ok).1
 have s1:=h.sx.kept (k:=2) (by omega) k1
 have s2:=s1.kept (k:=2) (e:=gr (dE (x.ds.get 2))) (by omega) (by rw[Sx.get_set _ (by omega)];exact k2)
 rw[Sx.set_set _ (by omega)]at s2
 exact⟨he,k1.ok,k1.sz (h.sx.sz 2 (by omega)),s2.mono (Nat.le_succ _),⟨lg,w2,e,h0⟩,h.bt⟩
theorem cW.pack{n:Nat}{x:Sx}{sent:List Int}(h:cW n x sent):gv (x.ds.get 2) 4=0/\cW (n+1) ⟨x.ds,x.bs++[iZ (x.ds.get 2) 4]⟩ sent:=by
 have he:gv (x.ds.get 2) 4=0:=by unfold gv;rw[if_pos h.d2,if_pos h.to4]
 have ht:(iZ (x.ds.get 2) 4).to=4:=by unfold iZ;rw[if_pos (OT h.d2 he)]
 obtain⟨lg,w,e,h0⟩:=h.wl
 refine⟨he,⟨h.sx.ok,h.sx.me,h.sx.sz,fun b hb=>?_,?_⟩,⟨lg,(w.pack (by omega) he).mono (Nat.le_succ _),e,h0⟩,fun b hb=>?_⟩
 ·rcases List.mem_append.1 hb with hb | hb
  ·exact h.sx.bg b hb
  ·rw[List.mem_singleton]at hb
   subst hb
   rw[ht];exact⟨by omega,by omega⟩
 ·show (x.bs++_).length<=n+1
  have :=h.sx.ln
  rw[List.length_append]
  simp only[List.length_cons,List.length_nil]
  omega
 ·rcases List.mem_append.1 hb with hb | hb
  ·exact h.bt b hb
  ·rw[List.mem_singleton]at hb
   subst hb
   exact ht
theorem cW.held{n:Nat}{x:Sx}{sent:List Int}(h:cW n x sent):∃ t:Nat,(x.ds.get 4).now.ta.get 2=(t:Int)/\t<=sent.length/\((x.ds.get 4).now.ho).Perm (sent.take t):=by
 obtain⟨_,_,_,hs⟩:=h.sent_sub
 obtain⟨lg,w,e,h0⟩:=h.wl
 have o:=w.st 4 (by omega) _ l8
 have h2:=w.st 2 (by omega) _ uH
 have tW:=(o.ok.ta 2 (by omega)).1
 have hle:(x.ds.get 4).now.ta.get 2<=(sent.length:Int):=by
  rw[<-hs]
  exact Int.le_trans (w.acks 2 (by omega) 4 (by omega)) (h2.su 2 (by omega) |> fun _=>h2.su 4 (by omega))
 obtain⟨t,ht⟩:∃ t:Nat,(x.ds.get 4).now.ta.get 2=(t:Int):=⟨((x.ds.get 4).now.ta.get 2).toNat,by omega⟩
 refine⟨t,ht,by omega,List.perm_iff_count.2 fun y=>?_⟩
 have hc:=o.co y
 have hl:bd (fun j=>ct y (lg 4 j) ((x.ds.get 4).now.se.get j))=bd (fun _=>0):=kr fun j _=>by
  rw[h0 4 j (by omega)];exact FM _ _
 have hr:bd (fun j=>ct y (lg j 4) ((x.ds.get 4).now.ta.get j))=bd (fun j=>if j=2 then ct y sent t else 0):=kr fun j _=>by
  by_cases ej:j=2
  ·subst ej;rw[if_pos rfl,e,ht]
  ·rw[if_neg ej,h0 j 4 (by omega)];exact FM _ _
 rw[hl,hr]at hc
 have z0:bd (fun _=>0)=0:=rfl
 have z2:bd (fun j=>if j=2 then ct y sent t else 0)=ct y sent t:=by simp[bd]
 have zi:(ini1 4).count y=0:=rfl
 have zc:ct y sent (t:Int)=(sent.take t).count y:=by unfold ct;rw[Int.toNat_natCast]
 omega
theorem cW.fits{n:Nat}{x:Sx}{sent:List Int}(h:cW n x sent):(x.ds.get 4).now.ho.length<=sent.length/\∀ k,k<(x.ds.get 4).now.ho.length->sent.getD k default∈(x.ds.get 4).now.ho:=by
 obtain⟨t,_,ht,hp⟩:=h.held
 have hl:=hp.length_eq
 rw[List.length_take,Nat.min_eq_left ht]at hl
 refine⟨by omega,fun k hk=>hp.mem_iff.2 ?_⟩
 have jg:k<(sent.take t).length:=by rw[List.length_take];omega
 rw[getD_at (show k<sent.length by omega)]
 have :=List.getElem_mem jg
 rw[List.getElem_take]at this
 exact this
theorem QU{f:Nat}(hf:f<6)(s:Stk)(p:Par){j:Nat}(hj:j<6):s.ta.get j<=(gL f s p).ta.get j:=by
 unfold gL
 split
 ·show _<=(s.ta.set f (s.ta.get f+1)).get j
  rw[aR.set_at _ hf hj]
  split
  ·next e=>subst e;omega
  ·exact Int.le_refl _
 ·exact Int.le_refl _
theorem G8{f:Nat}(hf:f<6)(ps:List Par)(s0:Stk){j:Nat}(hj:j<6):∀ z,s0.ta.get j<=(bC f ps s0 z).ta.get j
 | 0=>Int.le_refl _
 |z+1=>Int.le_trans (G8 hf ps s0 hj z) (QU hf _ _ hj)
theorem cW.open{n:Nat}{x:Sx}{sent:List Int}{b:Bag}(h:cW n x sent)(hb:b∈x.bs):
 fN (x.ds.get 4) b=0/\cW n (x.set 4 (eG (x.ds.get 4) b)) sent/\(x.ds.get 4).now.ho.length<=(eG (x.ds.get 4) b).now.ho.length:=by
 have Y0:=h.bt b hb
 have hs:=h
 obtain⟨lg,w,e,h0⟩:=h.wl
 have bi:=w.bags b hb
 obtain⟨he,w1⟩:=w.open Xp bi (k:=4) (by rw[Y0];rfl)
 obtain⟨⟨kp,_⟩,_,_,hV⟩:=ym h.d4 he
 have h1:cW n (x.set 4 (eG (x.ds.get 4) b)) sent:=⟨h.sx.kept (by omega) kp,⟨lg,w1,e,h0⟩,h.bt⟩
 refine⟨he,h1,?_⟩
 obtain⟨t,ht,XN,hp⟩:=hs.held
 obtain⟨t',ht',XM,rK⟩:=h1.held
 rw[Sx.get_set _ (by omega)]at ht' rK
 have l1:=hp.length_eq
 have l2:=rK.length_eq
 rw[List.length_take,Nat.min_eq_left XN]at l1
 rw[List.length_take,Nat.min_eq_left XM]at l2
 have hup:(x.ds.get 4).now.ta.get 2<=(eG (x.ds.get 4) b).now.ta.get 2:=by
  rw[hV]
  exact G8 (F4 bi.ok).1 b.ps (bG (x.ds.get 4) b) (by omega) b.ps.length
 omega
structure Orr where
 x:Sx
 se:List Int
def n7(d:Dk)(q:Int):Int:=d.now.ho.getD (q % (d.now.ho.length:Int)).toNat default
def vC(z:Int):Int:=IntKind.i64.wrap (z.tdiv 3)
def ja(s:Orr)(z:Int):Orr:=
 if z % 3=0 then(if (s.x.ds.get 2).now.ho=[]then s else⟨s.x.set 2 (fX (s.x.ds.get 2) (n7 (s.x.ds.get 2) (vC z)) 4),s.se++[n7 (s.x.ds.get 2) (vC z)]⟩)
 else if z % 3=1 then⟨s.x.set 2 (gr (dE (s.x.ds.get 2))),s.se⟩
 else⟨⟨s.x.ds,s.x.bs++[iZ (s.x.ds.get 2) 4]⟩,s.se⟩
def l6:Sx:=⟨fM fun i=>eN i (ini1 i),[]⟩
def gy(l:List Int):Nat->Orr
 | 0=>⟨l6,[]⟩
 |z+1=>ja (gy l z) (l.getD z default)
theorem tw:∀ i,i<6->l6.ds.get i=eN i (ini1 i)/\ll i (ini1 i)=true:=fun i hi=>
 ia (P:=fun i=>l6.ds.get i=eN i (ini1 i)/\ll i (ini1 i)=true) ⟨rfl,rfl⟩ ⟨rfl,rfl⟩ ⟨rfl,rfl⟩ ⟨rfl,rfl⟩ ⟨rfl,rfl⟩ ⟨rfl,rfl⟩ hi
theorem TQ:kZ l6 0:=
 ⟨fun i hi=>by rw[(tw i hi).1];exact yw (tw i hi).2,fun i hi=>by rw[(tw i hi).1];rfl,fun i hi=>by rw[(tw i hi).1];exact IU (tw i hi).2,fun b hb=>(by cases hb),Nat.le_refl _⟩
theorem Xo{aF:Nat->List Int}{x:Sx}(e:∀ i,i<6->x.ds.get i=eN i (aF i)/\ll i (aF i)=true)(hb:x.bs=[]):bI aF (fun _ _=>[]) x 0:=by
 have z:∀ {α:Type} (x:α) (i:Nat),(fM fun _=>x).get i=x:=fun x i=>by
  unfold aR.get fM
  split<;>rfl
 have r6:∀ i:Nat,i<6->av (eN i (aF i))=true:=fun i hi=>yw (e i hi).2
 have eB:∀ i:Nat,i<6->aN (eN i (aF i))=bE (aF i):=fun i hi=>by
  have aa:=r6 i hi
  have eQ:=(gX.1 aa).1
  have ha:aE (i:Int) ⟨1,bE (aF i),c9 (bE (aF i)) 1⟩=true:=ti eQ ⟨by decide,by decide⟩
  have g:g0 (eN i (aF i))=true:=by
   show ((0:Int) != -1&&aE (i:Int) ⟨1,bE (aF i),c9 (bE (aF i)) 1⟩)=true
   rw[ha];rfl
  have hf:be (eN i (aF i))=0:=by
   rw[sj,g,show decide ((eN i (aF i)).pb.co>(eN i (aF i)).pa.co)=false from rfl]
   simp
  unfold aN
  rw[hf];rfl
 have dd:∀ i:Nat,i<6->∀ s,fE (eN i (aF i)) s->s=bE (aF i):=fun i hi s hs=>by
  rcases hs with h | h | ⟨h,_⟩
  ·rw[h,eB i hi]
  ·exact h
  ·exact absurd h (by show ¬ (0:Int)<= -1;omega)
 refine⟨fun i hi=>by rw[(e i hi).1];exact r6 i hi,fun i hi=>by rw[(e i hi).1];rfl,fun i hi j hj=>?_,fun i hi s hs=>?_,fun i hi j hj=>?_,fun i hi s hs j hj=>?_,fun b cB=>?_,fun i hi=>?_⟩
 ·rw[(e i hi).1]
  show (0:Int)=(bE (aF i)).se.get j
  exact(z _ _).symm
 ·rw[(e i hi).1]at hs |-
  have :=dd i hi s hs
  subst this
  have eQ:=(gX.1 (r6 i hi)).1
  refine⟨eQ,fun j _=>by rw[eB i hi];exact Int.le_refl _,fun j _=>Int.le_refl _,fun j _=>by rw[eB i hi];exact Int.le_refl _,fun j _=>Int.le_refl _,fun j _ p hp=>?_,fun y=>?_⟩
  ·rw[show (bE (aF i)).un.get j=[]from z _ _]at hp;cases hp
  ·show (aF i).count y+_=(aF i).count y+_
   congr 1
 ·rw[(e i hi).1,(e j hj).1,eB i hi]
  show (bE (aF j)).ta.get i<=(bE (aF i)).se.get j
  rw[show (bE (aF j)).ta.get i=0 from z _ _,show (bE (aF i)).se.get j=0 from z _ _]
  exact Int.le_refl _
 ·rw[(e i hi).1]at hs
  have :=dd i hi s hs
  subst this
  rw[(e j hj).1,eB j hj,show (bE (aF i)).se.get j=0 from z _ _,show (bE (aF i)).un.get j=[]from z _ _,show (bE (aF j)).ta.get i=0 from z _ _]
  decide
 ·rw[hb]at cB;cases cB
 ·rw[(e i hi).1]
  exact⟨by show (1:Int)<=((0:Nat):Int)+1;decide,by show (0:Int)<=((0:Nat):Int)+1;decide⟩
theorem TO:cW 0 l6 []:=
 ⟨TQ,⟨fun _ _=>[],Xo tw rfl,rfl,fun _ _ _=>rfl⟩,fun b hb=>(by cases hb)⟩
theorem B2{d:Dk}{q:Int}(h:d.now.ho≠[]):(0<=q % (d.now.ho.length:Int)/\q % (d.now.ho.length:Int)<(d.now.ho.length:Int))/\n7 d q∈d.now.ho:=by
 have bR:=List.length_pos_iff.2 h
 have g0:=Int.emod_nonneg q (by omega:(d.now.ho.length:Int)≠0)
 have g1:=Int.emod_lt_of_pos q (by omega:(0:Int)<(d.now.ho.length:Int))
 refine⟨⟨g0,g1⟩,?_⟩
 unfold n7
 rw[getD_at (show (q % (d.now.ho.length:Int)).toNat<d.now.ho.length by omega)]
 exact List.getElem_mem _
theorem B6{s:Orr}{z:Int}(h:z % 3=0)(hn:(s.x.ds.get 2).now.ho≠[]):ja s z=⟨s.x.set 2 (fX (s.x.ds.get 2) (n7 (s.x.ds.get 2) (vC z)) 4),s.se++[n7 (s.x.ds.get 2) (vC z)]⟩:=by
 unfold ja;rw[if_pos h,if_neg hn]
theorem B3{s:Orr}{z:Int}(h:z % 3=0)(hn:(s.x.ds.get 2).now.ho=[]):ja s z=s:=by
 unfold ja;rw[if_pos h,if_pos hn]
theorem B5{s:Orr}{z:Int}(h:z % 3=1):ja s z=⟨s.x.set 2 (gr (dE (s.x.ds.get 2))),s.se⟩:=by
 unfold ja;rw[if_neg (by omega),if_pos h]
theorem B4{s:Orr}{z:Int}(h0:¬ z % 3=0)(h:¬ z % 3=1):ja s z=⟨⟨s.x.ds,s.x.bs++[iZ (s.x.ds.get 2) 4]⟩,s.se⟩:=by
 unfold ja;rw[if_neg h0,if_neg h]
theorem cW.mono{n m:Nat}{x:Sx}{sent:List Int}(h:cW n x sent)(hm:n<=m):cW m x sent:=by
 obtain⟨lg,w,e⟩:=h.wl
 exact⟨h.sx.mono hm,⟨lg,w.mono hm,e⟩,h.bt⟩
theorem TP{n:Nat}{s:Orr}{z:Int}(h:cW n s.x s.se)(hn:n<90000):cW (n+1) (ja s z).x (ja s z).se:=by
 by_cases h0:z % 3=0
 ·by_cases hh:(s.x.ds.get 2).now.ho=[]
  ·rw[B3 h0 hh];exact h.mono (Nat.le_succ _)
  ·rw[B6 h0 hh]
   exact(h.send (B2 hh).2).2.mono (Nat.le_succ _)
 ·by_cases h1:z % 3=1
  ·rw[B5 h1];exact(h.wd hn).2.2.2
  ·rw[B4 h0 h1];exact h.pack.2
theorem B0(l:List Int):∀ z,z<90000->cW z (gy l z).x (gy l z).se
 | 0,_=>TO
 |z+1,h=>TP (B0 l z (by omega)) (by omega)
theorem TS(s:Orr)(z:Int):(ja s z).se.length<=s.se.length+1/\(ja s z).x.bs.length<=s.x.bs.length+1:=by
 by_cases h0:z % 3=0
 ·by_cases hh:(s.x.ds.get 2).now.ho=[]
  ·rw[B3 h0 hh];exact⟨Nat.le_succ _,Nat.le_succ _⟩
  ·rw[B6 h0 hh]
   exact⟨Nat.le_of_eq (by rw[List.length_append];rfl),Nat.le_succ _⟩
 ·by_cases h1:z % 3=1
  ·rw[B5 h1];exact⟨Nat.le_succ _,Nat.le_succ _⟩
  ·rw[B4 h0 h1]
   exact⟨Nat.le_succ _,Nat.le_of_eq (by rw[List.length_append];rfl)⟩
theorem B1(l:List Int):∀ z,(gy l z).se.length<=z/\(gy l z).x.bs.length<=z
 | 0=>⟨Nat.le_refl _,Nat.le_refl _⟩
 |z+1=>by
  have a:=B1 l z
  have b:=TS (gy l z) (l.getD z default)
  exact⟨Nat.le_trans b.1 (Nat.succ_le_succ a.1),Nat.le_trans b.2 (Nat.succ_le_succ a.2)⟩
def tz(x:Sx)(q:Int):Bag:=x.bs.getD (q % (x.bs.length:Int)).toNat default
def yk(x:Sx)(q:Int):Sx:=x.set 4 (eG (x.ds.get 4) (tz x q))
def pB(x:Sx)(l:List Int):Nat->Sx
 | 0=>x
 |z+1=>yk (pB x l z) (l.getD z default)
theorem B'{x:Sx}{q:Int}(h:x.bs≠[]):(0<=q % (x.bs.length:Int)/\q % (x.bs.length:Int)<(x.bs.length:Int))/\tz x q∈x.bs:=by
 have bR:=List.length_pos_iff.2 h
 have g0:=Int.emod_nonneg q (by omega:(x.bs.length:Int)≠0)
 have g1:=Int.emod_lt_of_pos q (by omega:(0:Int)<(x.bs.length:Int))
 refine⟨⟨g0,g1⟩,?_⟩
 unfold tz
 rw[getD_at (show (q % (x.bs.length:Int)).toNat<x.bs.length by omega)]
 exact List.getElem_mem _
theorem B8(x:Sx)(l:List Int):∀ z,(pB x l z).bs=x.bs
 | 0=>rfl
 |z+1=>B8 x l z
theorem Iy{n:Nat}{x:Sx}{sent:List Int}(h:cW n x sent)(hb:x.bs≠[])(l:List Int):∀ z,cW n (pB x l z) sent
 | 0=>h
 |z+1=>((Iy h hb l z).open (B' (by rw[B8];exact hb)).2).2.1
set_option maxRecDepth 100000
def nR(l:List Int):Nat:=min l.length 30
theorem Iw(l:List Int):∀ z,(gy l z).x.ds.get 4=l6.ds.get 4
 | 0=>rfl
 |z+1=>by
  have h:=Iw l z
  have hs:∀ e:Dk,((gy l z).x.set 2 e).ds.get 4=l6.ds.get 4:=fun e=>(Sx.get_ne _ (by omega) (by omega) (by omega) e).trans h
  show (ja (gy l z) (l.getD z default)).x.ds.get 4=_
  unfold ja
  split
  ·split
   ·exact h
   ·exact hs _
  ·split
   ·exact hs _
   ·exact h
theorem TR{d:Dk}{q:Int}(h:d.now.ho≠[]):(d.now.ho.map vInt).getD (q % (d.now.ho.length:Int)).toNat default=vInt (n7 d q):=by
 obtain⟨⟨g0,g1⟩,_⟩:=B2 (q:=q) h
 have gk:(q % (d.now.ho.length:Int)).toNat<d.now.ho.length:=by omega
 unfold n7
 rw[aK gk,getD_at gk]
theorem T8{x:Sx}{q:Int}(h:x.bs≠[]):(x.bs.map kT).getD (q % (x.bs.length:Int)).toNat default=.agg (aX (tz x q)):=by
 obtain⟨⟨g0,g1⟩,_⟩:=B' (q:=q) h
 have gk:(q % (x.bs.length:Int)).toNat<x.bs.length:=by omega
 unfold tz
 simp[List.getD_eq_getElem?_getD,List.getElem?_eq_getElem gk,kT]
noncomputable def Gu:List (Nat×Spec):=[(11,S37),(12,S21),(13,S28),(14,S8),(15,S10),(16,S12),(17,S26),(18,S16),(19,S519),(10,S19)]
theorem ace:∀ f s,tbl Gu f=some s->ak Tryd.prog f s:=tc WN<|tc CY<|tc WQ<|tc k8<|tc KT<|tc KR<|tc WR<|tc KQ<|tc WL<|tc KP<|tn
attribute [go_sem] Gu
noncomputable def P504:PSpec:=p2 dJ dJ (fun _ _=>True) (fun _ _=>.bool true) true
noncomputable def S504:Spec:=P504.toSpec
attribute [go_sem] P504 S504
set_option maxHeartbeats 16000000 in
theorem HD:aZ Tryd.prog 4 P504:=by
 refine w2 (rs:=[.tmp 4]) Tryd.func4 Tryd.ntmps4 (by rfl) (by kernel_rfl) (by decide) (fun _ _ _=>rfl) ⟨_,rfl,lb rfl,fun l pk hp hw=>?_⟩
 have hP:=br
 simp only[dJ]at hw |-
 obtain⟨Γ,hΓ,MD,g21,EU,g8,g10,g12,Z2,g16,Z1,g19⟩:∃ Γ:FuncId->Option Spec,(∀ f s,Γ f=some s->ak Tryd.prog f s)/\Γ 11=some S37/\Γ 12=some S21/\Γ 13=some S28/\Γ 14=some S8/\Γ 15=some S10/\Γ 16=some S12/\Γ 17=some S26/\Γ 18=some S16/\Γ 19=some S519/\Γ 10=some S19:=⟨tbl Gu,ace,rfl,rfl,rfl,rfl,rfl,rfl,rfl,rfl,rfl,rfl⟩
 have nA:nR l<=maxLen:=by have:nR l<=30:=Nat.min_le_right _ _;unfold maxLen;omega
 have hN:nR l<=30:=Nat.min_le_right _ _
 have kI:nR pk<=maxLen:=by have:nR pk<=30:=Nat.min_le_right _ _;unfold maxLen;omega
 have hN1:nR pk<=30:=Nat.min_le_right _ _
 have Ym:(0:Int)<3/\(3:Int)<=1000000:=by omega
 have uw:pF 2 [3,5,8,13,21,34]=(gy l 0).x.ds.get 2:=rfl
 have hd4:pF 4 []=l6.ds.get 4:=rfl
 have El:pE 2 [3,5,8,13,21,34]=0:=rfl
 have YR:pE 4 []=0:=rfl
 repeat refine sq ?_
 refine rx hΓ [0,1] [] (fun K' hK=>by simp only[go_sem];(repeat (refine⟨ai,?_⟩));exact hK _ (by simp only[go_sem]) (by simp only[go_sem]<;>rfl)) ?_
 repeat refine sq ?_
 refine rx hΓ [0,1,5] [] (fun K' hK=>by simp only[go_sem];(repeat (refine⟨ai,?_⟩));exact hK _ (by simp only[go_sem]) (by simp only[go_sem]<;>rfl)) ?_
 repeat refine sq ?_
 refine rx hΓ [0,1,6,7] [[6,0]] (fun K' hK=>by simp only[go_sem,MD,List.append_nil];(repeat (refine⟨ai,?_⟩));exact hK _ (by simp only[go_sem]) (by simp only[go_sem]<;>rfl)) ?_
 refine bq (mW [6,0] _ (an ((gy l 0).x.ds.get 2)) rfl rfl [0,1,6,7] [[6,0]] ?_ rfl) ?_
 ·simp only[go_sem]
 simp only[go_sem]
 repeat refine sq ?_
 refine rx hΓ [0,1,6,7,8,9] [[6,0],[8,0]] (fun K' hK=>by simp only[go_sem,MD,List.append_nil];(repeat (refine⟨ai,?_⟩));exact hK _ (by simp only[go_sem]) (by simp only[go_sem]<;>rfl)) ?_
 refine bq (mW [8,0] _ (an (l6.ds.get 4)) rfl rfl [0,1,6,7,8,9] [[6,0],[8,0]] ?_ rfl) ?_
 ·simp only[go_sem]
 simp only[go_sem]
 repeat refine sq ?_
 refine rx hΓ [0,1,6,8,43] [[6,0],[8,0]] (fun K' hK=>by simp only[go_sem,El,YR];(repeat (refine⟨ai,?_⟩));exact hK _ (by simp only[go_sem]) (by simp only[go_sem]<;>rfl)) ?_
 repeat refine sq ?_
 refine aD rfl rfl (fun hb=>?_) (fun hb=>?_)
 ·cases hb
 ·repeat refine sq ?_
  refine aI ?_
  repeat refine sq ?_
  refine rx hΓ [0,1,6,8,10] [[6,0],[8,0],[94,0],[10,0]] (fun K' hK=>by simp only[go_sem];(repeat (refine⟨ai,?_⟩));exact hK _ (by simp only[go_sem]) (by simp only[go_sem]<;>rfl)) ?_
  refine bq (vg 10 [10,0] 1 (by simp only[go_sem]) (by simp only[go_sem]) [0,1,6,8,10] [[6,0],[8,0],[94,0],[10,0]] ?_ rfl) ?_
  ·simp only[go_sem]
  simp only[go_sem]
  repeat refine sq ?_
  refine rx hΓ [0,1,6,8,10,11] [[6,0],[8,0],[67,0],[94,0],[10,0],[11,0]] (fun K' hK=>by simp only[go_sem];(repeat (refine⟨ai,?_⟩));exact hK _ (by simp only[go_sem]) (by simp only[go_sem]<;>rfl)) ?_
  refine bq (vg 11 [11,0] 4 (by simp only[go_sem]) (by simp only[go_sem]) [0,1,6,8,10,11] [[6,0],[8,0],[67,0],[94,0],[10,0],[11,0]] ?_ rfl) ?_
  ·simp only[go_sem]
  simp only[go_sem]
  repeat refine sq ?_
  refine rx hΓ [0,1,6,8,10,11,12] [[6,0],[8,0],[67,0],[94,0],[10,0],[11,0]] (fun K' hK=>by simp only[go_sem];(repeat (refine⟨ai,?_⟩));exact hK _ (by simp only[go_sem]) (by simp only[go_sem]<;>rfl)) ?_
  repeat refine sq ?_
  refine a8 ?_
  repeat refine sq ?_
  refine dR (fun z:Nat=>[(12,⟨true,.v (vInt z)⟩),(10,⟨true,.msl [10,0] (gy l z).se.length⟩),(11,⟨true,.msl [11,0] (gy l z).x.bs.length⟩)]) (fun z=>[([6,0],.box ((an ((gy l z).x.ds.get 2)).map .v)),([8,0],.box ((an (l6.ds.get 4)).map .v)),([10,0],.arr 1 ((gy l z).se.map vInt)),([11,0],.arr 4 ((gy l z).x.bs.map kT))]) (fun z=>z<=(nR l)) (fun z=>(nR l)-z) 0 ?_ ?_ ?_ ?_
  ·exact Nat.zero_le _
  ·rfl
  ·rfl
  rintro i hi
  simp only[go_sem]
  repeat refine sq ?_
  refine rx hΓ [0,1,6,8,10,11,12,51] [[6,0],[8,0],[67,0],[94,0],[10,0],[11,0]] (fun K' hK=>by simp only[go_sem];(repeat (refine⟨ai,?_⟩));exact hK _ (by simp only[go_sem]) (by simp only[go_sem]<;>rfl)) ?_
  repeat refine sq ?_
  refine aD rfl rfl (fun hb=>?_) (fun hb=>?_)
  ·repeat refine sq ?_
   have ae:i<nR l:=by simp at hb;unfold nR;omega
   have fm:i<l.length:=by have h:=ae;unfold nR at h;omega
   have zB:(i:Int)<(l.length:Int):=by omega
   have e0:gy l (i+1)=ja (gy l i) (l.getD i default):=rfl
   have aa:=B0 l i (by omega)
   obtain⟨gi,uC⟩:=B1 l i
   have Ea:(l.map vInt).getD i default=vInt (l.getD i default):=by rw[aK fm,getD_at fm]
   obtain⟨s,hs⟩:∃ s,s=gy l i:=⟨_,rfl⟩
   obtain⟨y,hy⟩:∃ y,y=l.getD i default:=⟨_,rfl⟩
   rw[<-hs,<-hy]at e0
   rw[<-hs]at aa gi uC |-
   rw[<-hy]at Ea
   have r6:=aa.d2
   have mo:=aa.sx.sz 2 (by omega)
   have hE:iQ (s.x.ds.get 2)=0:=ed r6
   have hH:uh (s.x.ds.get 2)=(s.x.ds.get 2).now.ho:=rM r6
   have D9:(s.x.ds.get 2).now.ho.length<=40:=(gX.1 r6).1.ln
   refine aI ?_
   repeat refine sq ?_
   refine a8 ?_
   repeat refine sq ?_
   refine rx hΓ [0,1,6,8,10,11,12] [[6,0],[8,0],[67,0],[94,0],[10,0],[11,0]] (fun K' hK=>by simp only[go_sem];(repeat (refine⟨ai,?_⟩));exact hK _ (by simp only[go_sem]) (by simp only[go_sem]<;>rfl)) ?_
   repeat refine sq ?_
   refine rx hΓ [0,1,6,8,10,11,12,58] [[6,0],[8,0],[67,0],[94,0],[10,0],[11,0]] (fun K' hK=>by simp only[go_sem,g21,Ea,zB,Int.toNat_natCast,Int.natCast_nonneg,List.length_map,List.append_nil];(repeat (refine⟨by first | exact Ym | exact ai,?_⟩));exact hK _ (by simp only[go_sem]) (by simp only[go_sem]<;>rfl)) ?_
   repeat refine sq ?_
   refine a8 ?_
   repeat refine sq ?_
   refine rx hΓ [0,1,6,8,10,11,12,58,68] [[6,0],[8,0],[67,0],[94,0],[10,0],[11,0]] (fun K' hK=>by simp only[go_sem];(repeat (refine⟨ai,?_⟩));exact hK _ (by simp only[go_sem]) (by simp only[go_sem]<;>rfl)) ?_
   repeat refine sq ?_
   refine aD rfl rfl (fun hb=>?_) (fun hb=>?_)
   ·repeat refine sq ?_
    have h0:y % 3=0:=by simpa using hb
    repeat refine sq ?_
    refine rx hΓ [0,1,6,8,10,11,12,14,15] [[6,0],[8,0],[67,0],[94,0],[10,0],[11,0]] (fun K' hK=>by simp only[go_sem,EU,hH,hE,List.append_nil];(repeat (refine⟨ai,?_⟩));exact hK _ (by simp only[go_sem]) (by simp only[go_sem]<;>rfl)) ?_
    repeat refine sq ?_
    refine rx hΓ [0,1,6,8,10,11,12,14,76] [[6,0],[8,0],[67,0],[94,0],[10,0],[11,0]] (fun K' hK=>by simp only[go_sem,hE];(repeat (refine⟨ai,?_⟩));exact hK _ (by simp only[go_sem]) (by simp only[go_sem]<;>rfl)) ?_
    repeat refine sq ?_
    refine aD rfl rfl (fun hb=>?_) (fun hb=>?_)
    ·cases hb
    ·repeat refine sq ?_
     refine aI ?_
     repeat refine sq ?_
     refine rx hΓ [0,1,6,8,10,11,12,14,79] [[6,0],[8,0],[67,0],[94,0],[10,0],[11,0]] (fun K' hK=>by simp only[go_sem,List.length_map];(repeat (refine⟨ai,?_⟩));exact hK _ (by simp only[go_sem]) (by simp only[go_sem]<;>rfl)) ?_
     repeat refine sq ?_
     refine aD rfl rfl (fun hb=>?_) (fun hb=>?_)
     ·repeat refine sq ?_
      have hn:(s.x.ds.get 2).now.ho=[]:=by simpa using hb
      have e1:=B3 (z:=y) h0 hn
      have eg:0=0:=rfl
      have eb:0=0:=rfl
      refine di ?_
      simp only[go_sem]
      refine kp [0,1,6,8,10,11,12] [[6,0],[8,0],[67,0],[94,0],[10,0],[11,0]] ?_
      repeat refine sq ?_
      refine bc hΓ fun K' hK=>?_
      simp only[go_sem]
      repeat (refine⟨ai,?_⟩)
      refine hK _ ?_
      clear K' hK
      simp only[go_sem]
      refine⟨i+1,ae,by(show (nR l)-(i+1)<(nR l)-i;omega),?_⟩
      refine bJ [0,1,6,8,10,11,12] [[6,0],[8,0],[67,0],[94,0],[10,0],[11,0]] ?_ ?_
      ·simp only[go_sem,aM ae nA,Int.natCast_add,Int.natCast_one,e0,e1,eg,eb,List.map_append,List.map_cons,List.map_nil,List.length_append,List.length_cons,List.length_nil]
      ·simp only[go_sem,aM ae nA,Int.natCast_add,Int.natCast_one,e0,e1,eg,eb,List.map_append,List.map_cons,List.map_nil,List.length_append,List.length_cons,List.length_nil]
     ·repeat refine sq ?_
      have hn:(s.x.ds.get 2).now.ho≠[]:=by simpa using hb
      have e1:=B6 h0 hn
      obtain⟨q,hq⟩:∃ q,IntKind.i64.wrap (y.tdiv 3)=q:=⟨_,rfl⟩
      rw[show vC y=q from hq]at e1
      obtain⟨⟨r0,r1⟩,ub⟩:=B2 (q:=q) hn
      have LV:=TR (q:=q) hn
      obtain⟨p,hp⟩:∃ p,p=n7 (s.x.ds.get 2) q:=⟨_,rfl⟩
      rw[<-hp]at e1 ub LV
      obtain⟨XW,uf⟩:=aa.send ub
      have eg:∀ e,(s.x.set 2 e).ds.get 2=e:=fun e=>Sx.get_set _ (by omega) e
      have eb:∀ e,(s.x.set 2 e).bs=s.x.bs:=fun e=>rfl
      have DU:(0:Int)<((s.x.ds.get 2).now.ho.length:Int)/\((s.x.ds.get 2).now.ho.length:Int)<=1000000:=by omega
      refine aI ?_
      repeat refine sq ?_
      refine rx hΓ [0,1,6,8,10,11,12,16] [[6,0],[8,0],[67,0],[94,0],[10,0],[11,0]] (fun K' hK=>by simp only[go_sem,g21,hq,Ea,zB,r0,r1,LV,Int.toNat_natCast,Int.natCast_nonneg,List.length_map,List.append_nil];(repeat (refine⟨by first | exact DU | exact ai,?_⟩));exact hK _ (by simp only[go_sem]) (by simp only[go_sem]<;>rfl)) ?_
      repeat refine sq ?_
      refine rx hΓ [0,1,6,8,10,11,12,16] [[6,0],[8,0],[67,0],[94,0],[10,0],[11,0]] (fun K' hK=>by simp only[go_sem,List.append_nil];(repeat (refine⟨by first | exact⟨Cb _,rfl,by omega,by unfold maxLen;omega⟩ | exact ai,?_⟩));exact hK _ (by simp only[go_sem]) (by simp only[go_sem]<;>rfl)) ?_
      repeat refine sq ?_
      refine bc hΓ fun K' hK=>?_
      simp only[go_sem,g8,XW,List.append_nil]
      repeat (refine⟨by first | exact mo | exact ai,?_⟩)
      refine hK _ ?_
      clear K' hK
      simp only[go_sem]
      refine kp [0,1,6,8,10,11,12,13] [[6,0],[8,0],[67,0],[94,0],[10,0],[11,0]] ?_
      repeat refine sq ?_
      refine rx hΓ [0,1,6,8,10,11,12,116] [[6,0],[8,0],[67,0],[94,0],[10,0],[11,0]] (fun K' hK=>by simp only[go_sem];(repeat (refine⟨ai,?_⟩));exact hK _ (by simp only[go_sem]) (by simp only[go_sem]<;>rfl)) ?_
      repeat refine sq ?_
      refine aD rfl rfl (fun hb=>?_) (fun hb=>?_)
      ·cases hb
      ·repeat refine sq ?_
       refine aI ?_
       refine eo ?_
       simp only[go_sem]
       refine kp [0,1,6,8,10,11,12] [[6,0],[8,0],[67,0],[94,0],[10,0],[11,0]] ?_
       repeat refine sq ?_
       refine bc hΓ fun K' hK=>?_
       simp only[go_sem]
       repeat (refine⟨ai,?_⟩)
       refine hK _ ?_
       clear K' hK
       simp only[go_sem]
       refine⟨i+1,ae,by(show (nR l)-(i+1)<(nR l)-i;omega),?_⟩
       refine bJ [0,1,6,8,10,11,12] [[6,0],[8,0],[67,0],[94,0],[10,0],[11,0]] ?_ ?_
       ·simp only[go_sem,aM ae nA,Int.natCast_add,Int.natCast_one,e0,e1,eg,eb,List.map_append,List.map_cons,List.map_nil,List.length_append,List.length_cons,List.length_nil]
       ·simp only[go_sem,aM ae nA,Int.natCast_add,Int.natCast_one,e0,e1,eg,eb,List.map_append,List.map_cons,List.map_nil,List.length_append,List.length_cons,List.length_nil]
   ·repeat refine sq ?_
    have h0:¬ y % 3=0:=by simpa using hb
    repeat refine sq ?_
    refine rx hΓ [0,1,6,8,10,11,12,101] [[6,0],[8,0],[67,0],[94,0],[10,0],[11,0]] (fun K' hK=>by simp only[go_sem];(repeat (refine⟨ai,?_⟩));exact hK _ (by simp only[go_sem]) (by simp only[go_sem]<;>rfl)) ?_
    repeat refine sq ?_
    refine aD rfl rfl (fun hb=>?_) (fun hb=>?_)
    ·repeat refine sq ?_
     have h1:y % 3=1:=by simpa using hb
     have e1:=B5 (s:=s) h1
     obtain⟨ek,ez,vU,uf⟩:=aa.wd (by omega)
     have EH:iQ (dE (s.x.ds.get 2))=0:=ed ez
     have eg:∀ e,(s.x.set 2 e).ds.get 2=e:=fun e=>Sx.get_set _ (by omega) e
     have eb:∀ e,(s.x.set 2 e).bs=s.x.bs:=fun e=>rfl
     repeat refine sq ?_
     refine rx hΓ [0,1,6,8,10,11,12,17,18] [[6,0],[8,0],[17,0],[67,0],[94,0],[10,0],[11,0]] (fun K' hK=>by simp only[go_sem,g10,ek,List.append_nil];(repeat (refine⟨by first | exact mo | exact ai,?_⟩));exact hK _ (by simp only[go_sem]) (by simp only[go_sem]<;>rfl)) ?_
     repeat refine sq ?_
     refine rx hΓ [0,1,6,8,10,11,12,17,109] [[6,0],[8,0],[17,0],[67,0],[94,0],[10,0],[11,0]] (fun K' hK=>by simp only[go_sem,ek];(repeat (refine⟨ai,?_⟩));exact hK _ (by simp only[go_sem]) (by simp only[go_sem]<;>rfl)) ?_
     repeat refine sq ?_
     refine aD rfl rfl (fun hb=>?_) (fun hb=>?_)
     ·cases hb
     ·repeat refine sq ?_
      refine aI ?_
      repeat refine sq ?_
      refine bc hΓ fun K' hK=>?_
      simp only[go_sem,g12,EH,List.append_nil]
      repeat (refine⟨by first | exact vU | exact ai,?_⟩)
      refine hK _ ?_
      clear K' hK
      simp only[go_sem]
      refine kp [0,1,6,8,10,11,12,13] [[6,0],[8,0],[67,0],[94,0],[10,0],[11,0]] ?_
      repeat refine sq ?_
      refine rx hΓ [0,1,6,8,10,11,12,116] [[6,0],[8,0],[67,0],[94,0],[10,0],[11,0]] (fun K' hK=>by simp only[go_sem];(repeat (refine⟨ai,?_⟩));exact hK _ (by simp only[go_sem]) (by simp only[go_sem]<;>rfl)) ?_
      repeat refine sq ?_
      refine aD rfl rfl (fun hb=>?_) (fun hb=>?_)
      ·cases hb
      ·repeat refine sq ?_
       refine aI ?_
       refine eo ?_
       simp only[go_sem]
       refine kp [0,1,6,8,10,11,12] [[6,0],[8,0],[67,0],[94,0],[10,0],[11,0]] ?_
       repeat refine sq ?_
       refine bc hΓ fun K' hK=>?_
       simp only[go_sem]
       repeat (refine⟨ai,?_⟩)
       refine hK _ ?_
       clear K' hK
       simp only[go_sem]
       refine⟨i+1,ae,by(show (nR l)-(i+1)<(nR l)-i;omega),?_⟩
       refine bJ [0,1,6,8,10,11,12] [[6,0],[8,0],[67,0],[94,0],[10,0],[11,0]] ?_ ?_
       ·simp only[go_sem,aM ae nA,Int.natCast_add,Int.natCast_one,e0,e1,eg,eb,List.map_append,List.map_cons,List.map_nil,List.length_append,List.length_cons,List.length_nil]
       ·simp only[go_sem,aM ae nA,Int.natCast_add,Int.natCast_one,e0,e1,eg,eb,List.map_append,List.map_cons,List.map_nil,List.length_append,List.length_cons,List.length_nil]
    ·repeat refine sq ?_
     have h1:¬ y % 3=1:=by simpa using hb
     have e1:=B4 (s:=s) h0 h1
     obtain⟨zm,uf⟩:=aa.pack
     have eg:0=0:=rfl
     have eb:0=0:=rfl
     repeat refine sq ?_
     refine rx hΓ [0,1,6,8,10,11,12,19] [[6,0],[8,0],[19,0],[67,0],[94,0],[10,0],[11,0]] (fun K' hK=>by simp only[go_sem];(repeat (refine⟨ai,?_⟩));exact hK _ (by simp only[go_sem]) (by simp only[go_sem]<;>rfl)) ?_
     repeat refine sq ?_
     refine rx hΓ [0,1,6,8,10,11,12,13,19] [[6,0],[8,0],[19,0],[67,0],[94,0],[10,0],[11,0]] (fun K' hK=>by simp only[go_sem,Z2,zm,List.append_nil];(repeat (refine⟨ai,?_⟩));exact hK _ (by simp only[go_sem]) (by simp only[go_sem]<;>rfl)) ?_
     refine bq (dS [19,0] (aX (iZ (s.x.ds.get 2) 4)) rfl [0,1,6,8,10,11,12,13,19] [[6,0],[8,0],[19,0],[67,0],[94,0],[10,0],[11,0]] ?_ rfl) ?_
     ·simp only[go_sem]
     simp only[go_sem]
     repeat refine sq ?_
     refine bc hΓ fun K' hK=>?_
     simp only[go_sem,List.append_nil]
     repeat (refine⟨by first | exact⟨afO _,rfl,by omega,by unfold maxLen;omega⟩ | exact ai,?_⟩)
     refine hK _ ?_
     clear K' hK
     simp only[go_sem]
     refine kp [0,1,6,8,10,11,12,13] [[6,0],[8,0],[67,0],[94,0],[10,0],[11,0]] ?_
     repeat refine sq ?_
     refine rx hΓ [0,1,6,8,10,11,12,116] [[6,0],[8,0],[67,0],[94,0],[10,0],[11,0]] (fun K' hK=>by simp only[go_sem];(repeat (refine⟨ai,?_⟩));exact hK _ (by simp only[go_sem]) (by simp only[go_sem]<;>rfl)) ?_
     repeat refine sq ?_
     refine aD rfl rfl (fun hb=>?_) (fun hb=>?_)
     ·cases hb
     ·repeat refine sq ?_
      refine aI ?_
      refine eo ?_
      simp only[go_sem]
      refine kp [0,1,6,8,10,11,12] [[6,0],[8,0],[67,0],[94,0],[10,0],[11,0]] ?_
      repeat refine sq ?_
      refine bc hΓ fun K' hK=>?_
      simp only[go_sem]
      repeat (refine⟨ai,?_⟩)
      refine hK _ ?_
      clear K' hK
      simp only[go_sem]
      refine⟨i+1,ae,by(show (nR l)-(i+1)<(nR l)-i;omega),?_⟩
      refine bJ [0,1,6,8,10,11,12] [[6,0],[8,0],[67,0],[94,0],[10,0],[11,0]] ?_ ?_
      ·simp only[go_sem,aM ae nA,Int.natCast_add,Int.natCast_one,e0,e1,eg,eb,List.map_append,List.map_cons,List.map_nil,List.length_append,List.length_cons,List.length_nil]
      ·simp only[go_sem,aM ae nA,Int.natCast_add,Int.natCast_one,e0,e1,eg,eb,List.map_append,List.map_cons,List.map_nil,List.length_append,List.length_cons,List.length_nil]
  ·repeat refine sq ?_
   have bo:i=nR l:=by
    simp at hb
    have h:=hi
    unfold nR at h |-
    omega
   subst bo
   have Ly:=B0 l (nR l) (by omega)
   obtain⟨XV,Y1⟩:=B1 l (nR l)
   obtain⟨s,hs⟩:∃ s,s=gy l (nR l):=⟨_,rfl⟩
   rw[<-hs]at Ly XV Y1 |-
   have ex0:l6.ds.get 4=(pB s.x pk 0).ds.get 4:=by rw[hs];exact(Iw l _).symm
   rw[ex0]
   refine di ?_
   simp only[go_sem]
   refine kp [1,8,10,11] [[8,0],[67,0],[94,0],[10,0],[11,0]] ?_
   repeat refine sq ?_
   refine rx hΓ [1,8,10,11,20] [[8,0],[67,0],[94,0],[10,0],[11,0]] (fun K' hK=>by simp only[go_sem];(repeat (refine⟨ai,?_⟩));exact hK _ (by simp only[go_sem]) (by simp only[go_sem]<;>rfl)) ?_
   repeat refine sq ?_
   refine a8 ?_
   repeat refine sq ?_
   refine dR (fun z:Nat=>[(20,⟨true,.v (vInt z)⟩)]) (fun z=>[([8,0],.box ((an ((pB s.x pk z).ds.get 4)).map .v))]) (fun z=>z<=(nR pk)) (fun z=>(nR pk)-z) 0 ?_ ?_ ?_ ?_
   ·exact Nat.zero_le _
   ·rfl
   ·rfl
   rintro i1 hi
   simp only[go_sem]
   repeat refine sq ?_
   refine rx hΓ [1,8,10,11,20,129] [[8,0],[67,0],[94,0],[10,0],[11,0]] (fun K' hK=>by simp only[go_sem];(repeat (refine⟨ai,?_⟩));exact hK _ (by simp only[go_sem]) (by simp only[go_sem]<;>rfl)) ?_
   repeat refine sq ?_
   refine aD rfl rfl (fun hb=>?_) (fun hb=>?_)
   ·repeat refine sq ?_
    have eS:i1<nR pk:=by simp at hb;unfold nR;omega
    have LQ:i1<pk.length:=by have h:=eS;unfold nR at h;omega
    have Yt:(i1:Int)<(pk.length:Int):=by omega
    have wH:s.x.bs≠[]:=by intro h0;simp[h0]at hb
    have e2:(pB s.x pk (i1+1)).ds.get 4=(yk (pB s.x pk i1) (pk.getD i1 default)).ds.get 4:=rfl
    have aa:=Iy Ly wH pk i1
    have Dc:=B8 s.x pk i1
    have LW:(pk.map vInt).getD i1 default=vInt (pk.getD i1 default):=by rw[aK LQ,getD_at LQ]
    obtain⟨x,hx⟩:∃ x,x=pB s.x pk i1:=⟨_,rfl⟩
    obtain⟨q,hq⟩:∃ q,q=pk.getD i1 default:=⟨_,rfl⟩
    rw[<-hx,<-hq]at e2
    rw[<-hx]at aa Dc |-
    rw[<-hq]at LW
    have uB:x.bs≠[]:=by rw[Dc];exact wH
    obtain⟨⟨r0,r1⟩,Mh⟩:=B' (q:=q) uB
    have Ee:=T8 (q:=q) uB
    obtain⟨b,kM⟩:∃ b,b=tz x q:=⟨_,rfl⟩
    rw[<-kM]at Mh Ee
    rw[Dc]at r0 r1 Ee
    obtain⟨ho,oz,hlen⟩:=aa.open Mh
    have mo:=aa.sx.sz 4 (by omega)
    have hE:iQ (x.ds.get 4)=0:=ed aa.d4
    have hH:uh (x.ds.get 4)=(x.ds.get 4).now.ho:=rM aa.d4
    have zM:=oz.d4
    obtain⟨ml,oL⟩:=oz.fits
    have D9:=(gX.1 oz.d4).1.ln
    have e3:(yk x q).ds.get 4=eG (x.ds.get 4) b:=by unfold yk;rw[<-kM];exact Sx.get_set _ (by omega) _
    rw[e3]at e2
    rw[Sx.get_set _ (by omega)]at zM ml oL D9
    obtain⟨d',fa⟩:∃ d',d'=eG (x.ds.get 4) b:=⟨_,rfl⟩
    rw[<-fa]at zM ml oL D9 hlen e2
    have ZK:iQ d'=0:=ed zM
    have ZC:uh d'=d'.now.ho:=rM zM
    have DU:(0:Int)<(s.x.bs.length:Int)/\(s.x.bs.length:Int)<=1000000:=by have:=List.length_pos_iff.2 wH;omega
    have mr:decide ((d'.now.ho.length:Int)<((x.ds.get 4).now.ho.length:Int))=false:=decide_eq_false (by omega)
    have oN:decide ((d'.now.ho.length:Int)>(s.se.length:Int))=false:=decide_eq_false (by omega)
    have LL:d'.now.ho.length<=maxLen:=by unfold maxLen;omega
    refine aI ?_
    repeat refine sq ?_
    refine a8 ?_
    repeat refine sq ?_
    refine rx hΓ [1,8,10,11,20,21,22] [[8,0],[67,0],[94,0],[10,0],[11,0]] (fun K' hK=>by simp only[go_sem,EU,hH,hE,List.append_nil];(repeat (refine⟨ai,?_⟩));exact hK _ (by simp only[go_sem]) (by simp only[go_sem]<;>rfl)) ?_
    repeat refine sq ?_
    refine dx hΓ hP [[],[],[],[],[2,3],[2,3,4],[],[6],[2,3,4,5,6,7],[1,2,3,4,5,6,7,8],[1,2,3,4,5,6,7,8,9],[0,1,2,3,4,5,6,7,8,9,10],[0,1,2,3,4,5,6,7,8,9,10,11],[0,1,2,3,4,5,6,7,8,9,10,11,12],[0,1,2,3,4,5,6,7,8,9,10,11,12],[],[0,1,2,3,4,5,6,7,8,9,10,11,12,13,15],[0,1,2,3,4,5,6,7,8,9,10,11,12,13,14,15,16]] [1,8,10,11,20,21,22,23,24] [[8,0],[23,0],[67,0],[94,0],[10,0],[11,0]] (by kernel_rfl) (fun K' hK=>by simp only[go_sem,g21,g16,LW,Yt,r0,r1,Ee,<-fa,ho,Int.toNat_natCast,Int.natCast_nonneg,List.length_map,List.append_nil];(repeat (refine⟨by first | exact DU | exact mo | exact ai,?_⟩));(first | refine⟨by rfl,?_⟩ | skip);exact hK _ (by simp only[go_sem]) (by simp only[go_sem]<;>rfl)) ?_
    repeat refine sq ?_
    refine rx hΓ [1,8,10,11,20,21,22,23,24,25,26] [[8,0],[23,0],[67,0],[94,0],[10,0],[11,0]] (fun K' hK=>by simp only[go_sem,EU,ZC,ZK,List.append_nil];(repeat (refine⟨ai,?_⟩));exact hK _ (by simp only[go_sem]) (by simp only[go_sem]<;>rfl)) ?_
    repeat refine sq ?_
    refine rx hΓ [1,8,10,11,20,23,25,180] [[8,0],[23,0],[67,0],[94,0],[10,0],[11,0]] (fun K' hK=>by simp only[go_sem,mr,oN,List.length_map];(repeat (refine⟨ai,?_⟩));exact hK _ (by simp only[go_sem]) (by simp only[go_sem]<;>rfl)) ?_
    repeat refine sq ?_
    refine aD rfl rfl (fun hb=>?_) (fun hb=>?_)
    ·cases hb
    ·repeat refine sq ?_
     refine aI ?_
     repeat refine sq ?_
     refine rx hΓ [1,8,10,11,20,23,25,27] [[8,0],[23,0],[67,0],[94,0],[10,0],[11,0]] (fun K' hK=>by simp only[go_sem];(repeat (refine⟨ai,?_⟩));exact hK _ (by simp only[go_sem]) (by simp only[go_sem]<;>rfl)) ?_
     repeat refine sq ?_
     refine a8 ?_
     repeat refine sq ?_
     refine dR (fun z:Nat=>[(27,⟨true,.v (vInt z)⟩)]) (fun z=>[]) (fun z=>z<=d'.now.ho.length) (fun z=>d'.now.ho.length-z) 0 ?_ ?_ ?_ ?_
     ·exact Nat.zero_le _
     ·rfl
     ·rfl
     rintro i2 hi
     simp only[go_sem]
     repeat refine sq ?_
     refine rx hΓ [1,8,10,11,20,23,25,27,184] [[8,0],[23,0],[67,0],[94,0],[10,0],[11,0]] (fun K' hK=>by simp only[go_sem];(repeat (refine⟨ai,?_⟩));exact hK _ (by simp only[go_sem]) (by simp only[go_sem]<;>rfl)) ?_
     repeat refine sq ?_
     refine aD rfl rfl (fun hb=>?_) (fun hb=>?_)
     ·have jf:i2<d'.now.ho.length:=by simpa using hb
      have pV:(i2:Int)<d'.now.ho.length:=by omega
      clear hb
      have hk:i2<s.se.length:=by omega
      have fQ:(i2:Int)<(s.se.length:Int):=by omega
      have Yz:(s.se.map vInt).getD i2 default=vInt (s.se.getD i2 default):=by rw[aK hk,getD_at hk]
      have wC:bp d'.now.ho (s.se.getD i2 default)=true:=by unfold bp;rw[List.contains_iff_mem];exact oL i2 jf
      repeat refine sq ?_
      refine aI ?_
      repeat refine sq ?_
      refine a8 ?_
      repeat refine sq ?_
      refine rx hΓ [1,8,10,11,20,23,25,27,193] [[8,0],[23,0],[67,0],[94,0],[10,0],[11,0]] (fun K' hK=>by simp only[go_sem,Int.toNat_natCast,Int.natCast_nonneg,pV,List.length_map,Z1,Yz,fQ,wC,Int.toNat_natCast,Int.natCast_nonneg,List.length_map];(repeat (refine⟨ai,?_⟩));exact hK _ (by simp only[go_sem]) (by simp only[go_sem]<;>rfl)) ?_
      repeat refine sq ?_
      refine aD rfl rfl (fun hb=>?_) (fun hb=>?_)
      ·cases hb
      ·repeat refine sq ?_
       refine aI ?_
       refine eo ?_
       simp only[go_sem]
       refine kp [1,8,10,11,20,23,25,27] [[8,0],[23,0],[67,0],[94,0],[10,0],[11,0]] ?_
       repeat refine sq ?_
       refine bc hΓ fun K' hK=>?_
       simp only[go_sem,Int.toNat_natCast,Int.natCast_nonneg,pV,List.length_map]
       repeat (refine⟨ai,?_⟩)
       refine hK _ ?_
       clear K' hK
       simp only[go_sem]
       refine⟨i2+1,jf,by(show d'.now.ho.length-(i2+1)<d'.now.ho.length-i2;omega),?_⟩
       refine bJ [1,8,10,11,20,23,25,27] [[8,0],[23,0],[67,0],[94,0],[10,0],[11,0]] ?_ ?_
       ·simp only[go_sem,aM jf LL,Int.natCast_add,Int.natCast_one,List.length_map]
       ·simp only[go_sem,aM jf LL,Int.natCast_add,Int.natCast_one,List.length_map]
     ·have Eb:i2=d'.now.ho.length:=by
       have :¬ (i2:Int)<d'.now.ho.length:=by simpa using hb
       omega
      clear hb
      subst Eb
      repeat refine sq ?_
      refine di ?_
      simp only[go_sem]
      refine kp [1,8,10,11,20,23] [[8,0],[23,0],[67,0],[94,0],[10,0],[11,0]] ?_
      repeat refine sq ?_
      refine bc hΓ fun K' hK=>?_
      simp only[go_sem]
      repeat (refine⟨ai,?_⟩)
      refine hK _ ?_
      clear K' hK
      simp only[go_sem]
      refine kp [1,8,10,11,20] [[8,0],[67,0],[94,0],[10,0],[11,0]] ?_
      repeat refine sq ?_
      refine bc hΓ fun K' hK=>?_
      simp only[go_sem]
      repeat (refine⟨ai,?_⟩)
      refine hK _ ?_
      clear K' hK
      simp only[go_sem]
      refine⟨i1+1,eS,by(show (nR pk)-(i1+1)<(nR pk)-i1;omega),?_⟩
      refine bJ [1,8,10,11,20] [[8,0],[67,0],[94,0],[10,0],[11,0]] ?_ ?_
      ·simp only[go_sem,aM eS kI,Int.natCast_add,Int.natCast_one,e2]
      ·simp only[go_sem,aM eS kI,Int.natCast_add,Int.natCast_one,e2]
   ·repeat refine sq ?_
    refine di ?_
    simp only[go_sem]
    refine kp [] [] ?_
    repeat refine sq ?_
    refine rx hΓ [4] [] (fun K' hK=>by simp only[go_sem,g19];(repeat (refine⟨ai,?_⟩));exact hK _ (by simp only[go_sem]) (by simp only[go_sem]<;>rfl)) ?_
    refine ax ?_
    simp only[go_sem]
    skip
theorem af4:ak Tryd.prog 4 S504:=HD.sound
open Go
def gZ(P:Program)(t:TypeId):Bool:=match P.underlying t with | some (.struct _)=>true | some (.array _ _)=>true | _=>false
def l5(ag:Bool)(xs:List V):V:=if ag then .agg xs else xs.getD 0 default
def na(P:Program):List Field->Nat->Nat->Bool
 |[],off,tot=>off==tot
 |f::r,off,tot=>f.offset==off&&na P r (off+P.cellsOf f.type) tot
def jR(P:Program):Nat->TypeId->Bool
 | 0,_=>false
 |n+1,t=>match P.underlying t with
  |some .bool=>P.cellsOf t==1
  |some (.int _)=>P.cellsOf t==1
  |some .string=>P.cellsOf t==1
  |some (.slice e)=>P.cellsOf t==1&&jR P n e&&decide (0<P.cellsOf e)&&(gZ P e||P.cellsOf e==1)
  |some (.struct fs)=>na P fs.toList 0 (P.cellsOf t)&&fs.toList.all fun f=>jR P n f.type
  |some (.array m e)=>P.cellsOf t==m*P.cellsOf e&&jR P n e
  |_=>false
def xr(S:TypeId->List V->Prop):List TypeId->List V->Prop
 |[],xs=>xs=[]
 |t::r,xs=>∃ a b,xs=a++b/\S t a/\xr S r b
def c7(P:Program):Nat->TypeId->List V->Prop
 | 0,_,_=>False
 |n+1,t,xs=>match P.underlying t with
  |some .bool=>∃ b,xs=[.bool b]
  |some (.int k)=>∃ z,xs=[.int k z]/\(Lit.int k z).wf=true
  |some .string=>∃ s,xs=[.str s]/\s.size<=maxLen
  |some (.slice e)=>∃ ls:List (List V),xs=[.sl (ls.map (l5 (gZ P e)))]/\ls.length<=maxLen/\∀ y∈ls,c7 P n e y
  |some (.struct fs)=>xr (c7 P n) (fs.toList.map (·.type)) xs
  |some (.array m e)=>xr (c7 P n) (List.replicate m e) xs
  |_=>False
structure iU (m:Mem) (xs:List V) (cs:List Value):Prop where
 len:xs.length=cs.length
 rep:∀ i (h:i<xs.length) (h':i<cs.length),ay m xs[i] cs[i]
 one:∀ x∈xs,x.one=true
theorem iU.nil(m:Mem):iU m [] []:=⟨rfl,fun i h=>by simp at h,fun x h=>by simp at h⟩
theorem iU.append{m:Mem}{xs ys:List V}{cs ds:List Value}(h:iU m xs cs)(k:iU m ys ds):iU m (xs++ys) (cs++ds):=by
 refine⟨by simp[h.len,k.len],fun i h1 h2=>?_,fun x hx=>?_⟩
 ·by_cases hi:i<xs.length
  ·rw[List.getElem_append_left hi,List.getElem_append_left (by rw[<-h.len];exact hi)]
   exact h.rep i hi _
  ·have hl:=h.len
   have e:i-xs.length=i-cs.length:=by rw[hl]
   rw[List.getElem_append_right (by omega),List.getElem_append_right (by omega)]
   simp only[List.length_append]at h1 h2
   have :=k.rep (i-xs.length) (by omega) (by rw[<-k.len];omega)
   simp only[e]at this |-
   exact this
 ·rcases List.mem_append.1 hx with hx | hx
  ·exact h.one x hx
  ·exact k.one x hx
theorem iU.single{m:Mem}{x:V}{u:Value}(h:ay m x u)(ho:x.one=true):iU m [x] [u]:=
 ⟨rfl,fun i h1 h2=>by simp at h1;subst h1;exact h,fun y hy=>by simp at hy;subst hy;exact ho⟩
theorem mapM_some{α β:Type}{f:α->Option β}:∀ {l:List α} {r:List β},l.mapM f=some r->r.length=l.length/\∀ i (h:i<l.length) (h':i<r.length),f l[i]=some r[i]
 |[],r,h=>by
  simp only[List.mapM_nil]at h
  cases h
  exact⟨rfl,fun i h=>by simp at h⟩
 |a::l,r,h=>by
  simp only[List.mapM_cons,Option.bind_eq_bind,Option.bind_eq_some_iff]at h
  obtain⟨b,hb,bs,uC,hr⟩:=h
  cases hr
  obtain⟨h1,h2⟩:=mapM_some uC
  refine⟨by simp[h1],fun i hi bj=>?_⟩
  cases i with
  |zero=>exact hb
  |succ i=>exact h2 i (by simpa using hi) (by simpa using bj)
theorem GV{P:Program}:∀ {fs:List Field} {off tot:Nat},na P fs off tot=true->off<=tot
 |[],off,tot,h=>by simp[na]at h;omega
 |f::r,off,tot,h=>by
  simp only[na,Bool.and_eq_true]at h
  have :=GV h.2
  omega
theorem M0{P:Program}{m:Mem}{S:TypeId->List V->Prop}{cs:List Value}:∀ {fs:List Field} {off:Nat},na P fs off cs.length=true->
 (∀ f∈fs,∃ xs,S f.type xs/\iU m xs ((cs.drop f.offset).take (P.cellsOf f.type)))->∃ xs,xr S (fs.map (·.type)) xs/\iU m xs (cs.drop off)
 |[],off,h,_=>by
  simp[na]at h
  subst h
  exact⟨[],rfl,by simpa using iU.nil m⟩
 |f::r,off,h,hf=>by
  simp only[na,Bool.and_eq_true,beq_iff_eq]at h
  obtain⟨h1,h2⟩:=h
  obtain⟨a,ha,Dv⟩:=hf f (by simp)
  obtain⟨b,hb,Du⟩:=M0 h2 fun g hg=>hf g (by simp[hg])
  refine⟨a++b,⟨a,b,rfl,ha,hb⟩,?_⟩
  have e:cs.drop off=(cs.drop f.offset).take (P.cellsOf f.type)++cs.drop (off+P.cellsOf f.type):=by
   rw[h1,<-List.drop_drop,List.take_append_drop]
  rw[e]
  exact Dv.append Du
theorem O0{m:Mem}{S:TypeId->List V->Prop}{e:TypeId}{k:Nat}{cs:List Value}:∀ (n off:Nat),cs.length=(off+n)*k->
 (∀ i,i<off+n->∃ xs,S e xs/\iU m xs ((cs.drop (i*k)).take k))->∃ xs,xr S (List.replicate n e) xs/\iU m xs (cs.drop (off*k))
 | 0,off,h,_=>by
   have :cs.drop (off*k)=[]:=List.drop_eq_nil_of_le (by rw[h];simp)
   rw[this]
   exact⟨[],rfl,iU.nil m⟩
 |n+1,off,h,hf=>by
  obtain⟨a,ha,Dv⟩:=hf off (by omega)
  obtain⟨b,hb,Du⟩:=O0 n (off+1) (by rw[h];congr 1;omega) fun i hi=>hf i (by omega)
  refine⟨a++b,⟨a,b,rfl,ha,hb⟩,?_⟩
  have e:cs.drop (off*k)=(cs.drop (off*k)).take k++cs.drop ((off+1)*k):=by
   rw[Nat.succ_mul,<-List.drop_drop,List.take_append_drop]
  rw[e]
  exact Dv.append Du
theorem TC{ag:Bool}{xs:List V}(h:ag=true\/xs.length=1)(ho:∀ x∈xs,x.one=true):(l5 ag xs).cells=xs:=by
 cases ag with
 |true=>rfl
 |false=>
  rcases h with h | h
  ·cases h
  match xs,h with
  |[x],_=>
   have :=ho x (by simp)
   show x.cells=[x]
   cases x<;>first | rfl | (simp[V.one]at this)
def jU(w:World):Mem:=fun b off=>w.cell? ⟨b,off,none⟩
theorem O6{a:Addr}(h:a.spot=none)(n:Nat):a.add n=⟨a.block,a.off+n,none⟩:=by
 obtain⟨b,o,s⟩:=a
 simp only at h
 subst h
 unfold Addr.add
 split
 ·rename_i e;subst e;rfl
 ·rfl
theorem xV{H:Type}{enc:TypeId×Value->H}{P:Program}{w:World}{base:Nat}{spare:Nat->Bool}{held:Bool}:
 ∀ (n fuel:Nat) (t:TypeId) (cs:List Value) (r:DataW H×List MemPlace),jR P n t=true->cs.length=P.cellsOf t->DataW.trod enc P w base spare held fuel t cs=some r->∃ xs,c7 P n t xs/\iU (jU w) xs cs
 | 0,_,_,_,_,h,_,_=>by simp[jR]at h
 |n+1,0,_,_,_,_,_,h=>by simp[DataW.trod]at h
 |n+1,fuel+1,t,cs,r,hp,hlen,h=>by
  rw[DataW.trod_step]at h
  unfold DataW.trodStep at h
  unfold jR at hp
  unfold c7
  rcases hu:P.underlying t with _ | u
  ·rw[hu]at hp;simp at hp
  rw[hu]at hp h
  cases u with
  |bool=>
   have hb:∃ b,cs=[.bool b]:=by
    simp only at h
    split at h<;>simp_all
   obtain⟨b,rfl⟩:=hb
   exact⟨_,⟨b,rfl⟩,.single (.bool _) rfl⟩
  |int k=>
   simp only at hp h |-
   split at h<;>simp_all
   obtain⟨⟨rfl,h1⟩,_⟩:=h
   exact⟨_,⟨_,rfl,h1⟩,.single (.int _ _) rfl⟩
  |string=>
   simp only at hp h |-
   split at h<;>simp_all
   obtain⟨h1,_⟩:=h
   exact⟨_,⟨_,rfl,h1⟩,.single (.str _ h1) rfl⟩
  |slice e=>
   simp only[Bool.and_eq_true,decide_eq_true_eq,Bool.or_eq_true,beq_iff_eq]at hp |-
   obtain⟨⟨⟨_,gB⟩,bR⟩,Zd⟩:=hp
   split at h<;>simp_all
   ·exact⟨_,⟨[],rfl,Nat.zero_le _,by simp⟩,.single (.slnil _ _) rfl⟩
   ·rename_i e' a len cap _ _
    obtain⟨⟨hb,Yp,hcm⟩,h⟩:=h
    simp only[Option.bind_eq_some_iff]at h
    obtain⟨elems,r5,_⟩:=h
    obtain⟨l1,l2⟩:=mapM_some r5
    simp only[List.length_range]at l1
    have hx:∀ i,i<len->∃ xs cells,w.cells? base (a.add (i*P.cellsOf e')) (P.cellsOf e')=some cells/\c7 P n e' xs/\iU (jU w) xs cells:=by
     intro i hi
     have h3:=l2 i (by simpa using hi) (by omega)
     simp only[List.getElem_range,Option.bind_eq_some_iff]at h3
     obtain⟨cells,h4,h5⟩:=h3
     obtain⟨xs,h6,h7⟩:=xV n fuel _ _ _ gB (World.cells?_some h4).2.1 h5
     exact⟨xs,cells,h4,h6,h7⟩
    rcases Nat.eq_zero_or_pos len with hz | X7
    ·subst hz
     exact⟨[.sl []],⟨[],rfl,Nat.zero_le _,by simp⟩,.single (.slnil _ _) rfl⟩
    have Dm:a.spot=none:=by
     obtain⟨xs,cells,h4,_⟩:=hx 0 X7
     have h8:=(World.cells?_some h4).2.2 0 bR
     have h9:=(World.cells?_some h4).2.1
     have oR:w.cell? ((a.add (0*P.cellsOf e')).add 0)=some (cells[0]'(by omega)):=by rw[h8];exact List.getElem?_eq_getElem (by omega)
     simpa[Addr.add]using World.cell?_spot oR
    let X:Nat->List V:=fun i=>if h:i<len then Classical.choose (hx i h)else[]
    let C:Nat->List Value:=fun i=>(w.cells? base (a.add (i*P.cellsOf e')) (P.cellsOf e')).getD []
    have hX:∀ i,i<len->c7 P n e' (X i)/\iU (jU w) (X i) (C i)/\(C i).length=P.cellsOf e'/\∀ j,j<P.cellsOf e'->w.cell? ⟨a.block,a.off+i*P.cellsOf e'+j,none⟩=(C i)[j]?:=by
     intro i hi
     obtain⟨cells,h4,h6,h7⟩:=Classical.choose_spec (hx i hi)
     have e1:X i=Classical.choose (hx i hi):=dif_pos hi
     have e2:C i=cells:=by show (w.cells? _ _ _).getD []=cells;rw[h4];rfl
     rw[e1,e2]
     refine⟨h6,h7,(World.cells?_some h4).2.1,fun j hj=>?_⟩
     have h8:=(World.cells?_some h4).2.2 j hj
     rw[O6 Dm,O6 rfl]at h8
     exact h8
    have kL:∀ i,i<len->(l5 (gZ P e') (X i)).cells=X i:=fun i hi=>by
     obtain⟨h1,h2,h3,_⟩:=hX i hi
     refine TC ?_ h2.one
     rcases Zd with h | h
     ·exact .inl h
     ·exact .inr (by rw[h2.len,h3,h])
    refine⟨[.sl (((List.range len).map X).map (l5 (gZ P e')))],⟨(List.range len).map X,rfl,by simp;omega,fun y hy=>?_⟩,.single ?_ rfl⟩
    ·simp only[List.mem_map,List.mem_range]at hy
     obtain⟨i,hi,rfl⟩:=hy
     exact(hX i hi).1
    ·obtain⟨b,o,s⟩:=a
     simp only at Dm hX
     subst Dm
     have key:=ay.sl (m:=jU w) (((List.range len).map X).map (l5 (gZ P e'))) b o cap (P.cellsOf e') (fun i j=>((C i)[j]?).getD undef) (by
         intro h;have:=congrArg List.length h;simp at this;omega) (by simp;omega) (by simpa using Yp)
      (fun i hi=>by
        have bj:i<len:=by simpa using hi
        obtain⟨h1,h2,h3,_⟩:=hX i bj
        simp only[List.getElem_map,List.getElem_range]
        rw[kL i bj,h2.len,h3])
      (fun i j hi hj=>by
        have bj:i<len:=by simpa using hi
        obtain⟨h1,h2,h3,h4⟩:=hX i bj
        show w.cell? _=_
        rw[h4 j hj,List.getElem?_eq_getElem (by omega)]
        rfl)
      (fun i j hi hj=>by
        have bj:i<len:=by simpa using hi
        obtain⟨h1,h2,h3,h4⟩:=hX i bj
        simp only[List.getElem_map,List.getElem_range,kL i bj]at hj |-
        have eT:j<(C i).length:=by rw[<-h2.len];exact hj
        rw[List.getElem?_eq_getElem eT]
        exact h2.rep j hj eT)
      (fun i hi x hx=>by
        have bj:i<len:=by simpa using hi
        simp only[List.getElem_map,List.getElem_range,kL i bj]at hx
        exact(hX i bj).2.1.one x hx)
     simpa using key
  |struct fs=>
   simp only[Bool.and_eq_true,List.all_eq_true]at hp h |-
   obtain⟨ht,dP⟩:=hp
   rw[if_pos hlen]at h
   simp only[Option.map_eq_some_iff]at h
   obtain⟨ys,Db,_⟩:=h
   obtain⟨l1,l2⟩:=mapM_some Db
   have :=M0 (m:=jU w) (S:=c7 P n) (cs:=cs) (fs:=fs.toList) (off:=0) (by rw[hlen];exact ht) fun f hf=>by
    obtain⟨i,hi,rfl⟩:=List.mem_iff_getElem.1 hf
    have h3:=l2 i hi (by omega)
    have hle:P.cellsOf fs.toList[i].type<=(cs.drop fs.toList[i].offset).length:=by
     have key:∀ (l:List Field) (off tot:Nat),na P l off tot=true->∀ f∈l,f.offset+P.cellsOf f.type<=tot:=by
      intro l
      induction l with
      |nil=>intro _ _ _ f hf;simp at hf
      |cons g r ih=>
       intro off tot h f hf
       simp only[na,Bool.and_eq_true,beq_iff_eq]at h
       rcases List.mem_cons.1 hf with rfl | hf
       ·have:=GV h.2;omega
       ·exact ih _ _ h.2 f hf
     have :=key _ _ _ ht _ hf
     simp only[List.length_drop]
     omega
    exact xV n fuel _ _ _ (dP _ hf) (by rw[List.length_take];omega) h3
   simpa using this
  |array m e=>
   simp only[Bool.and_eq_true,beq_iff_eq]at hp h |-
   obtain⟨ht,gB⟩:=hp
   rw[if_pos hlen]at h
   simp only[Option.map_eq_some_iff]at h
   obtain⟨ys,Db,_⟩:=h
   obtain⟨l1,l2⟩:=mapM_some Db
   have :=O0 (m:=jU w) (S:=c7 P n) (e:=e) (k:=P.cellsOf e) (cs:=cs) m 0 (by rw[hlen,ht];simp) fun i hi=>by
    have bj:i<m:=by omega
    have h3:=l2 i (by simpa using bj) (by rw[l1];simpa using bj)
    simp only[List.getElem_range]at h3
    have hle:i*P.cellsOf e+P.cellsOf e<=cs.length:=by
     rw[hlen,ht,<-Nat.succ_mul];exact Nat.mul_le_mul_right _ bj
    exact xV n fuel _ _ _ gB (by rw[List.length_take,List.length_drop];omega) h3
   simpa using this
  |_=>simp at hp
end Go.Eng
