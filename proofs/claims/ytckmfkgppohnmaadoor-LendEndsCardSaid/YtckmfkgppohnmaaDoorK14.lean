import Derived.Test.YtckmfkgppohnmaaDoorK13
import Derived.Test.YtckmfkgppohnmaaDoorProg
/- Texts NW53 to NW69. -/
set_option linter.all false
namespace Go.Eng
open Go Go.Proofs
@[go_sem] theorem ahj{dom:Name->Bool}(d:Dk)(i:Nat):D.closL dom (List.take i (List.map D.v (aq d))++[D.nilsl]++List.drop (i+1) (List.map D.v (aq d)))=true:=by
  rw[qx]
  intro x hx
  simp only[List.mem_append,List.mem_cons,List.not_mem_nil,or_false]at hx
  rcases hx with(hx | hx) | hx
  ·exact qx.1 (Od dom (aq d) i) x hx
  ·subst hx;rfl
  ·exact qx.1 (Og dom (aq d) (i+1)) x hx
@[go_sem] theorem agP(d:Dk):(List.map D.v (aq d)).getD 1 .any=.v (jE d.now.ho):=rfl
@[go_sem] theorem agK(d:Dk)(l:List Int):List.take 1 (List.map D.v (aq d))++[.v (.sl (l.map vInt))]++List.drop 2 (List.map D.v (aq d))=List.map D.v (aq (d.setN ⟨l,d.now.un,d.now.se,d.now.ta⟩)):=rfl
@[go_sem] theorem agb(d:Dk)(s:Stk):(d.setN s).now=s:=rfl
@[go_sem] theorem aga(d:Dk)(s s':Stk):(d.setN s).setN s'=d.setN s':=rfl
def As(d:Dk)(b:Bag):Bool:=(sQ b != 0)||(b.to != d.me)
theorem M6(d:Dk)(b:Bag):As d b=!ku d b:=by
 unfold As ku sQ
 have :(b.to != d.me)=!(b.to==d.me):=rfl
 rw[this]
 cases fR b<;>cases (b.to==d.me)<;>rfl
theorem Hr(f:Nat)(ps:List Par)(s0:Stk){i:Nat}(hi:i<ps.length)(hn:eg f (bO f ps s0 i) ps[i]=true):bO f ps s0 (i+1)=⟨cE (bO f ps s0 i).ho ps[i].pa,(bO f ps s0 i).un,(bO f ps s0 i).se,(bO f ps s0 i).ta.set f ((bO f ps s0 i).ta.get f+1)⟩:=by
 show gP f (bO f ps s0 i) (ps.getD i default)=_
 rw[getD_at hi]
 exact if_pos hn
theorem RD(f:Nat)(ps:List Par)(s0:Stk){i:Nat}(hi:i<ps.length)(hn:eg f (bO f ps s0 i) ps[i]=false):bO f ps s0 (i+1)=bO f ps s0 i:=by
 show gP f (bO f ps s0 i) (ps.getD i default)=_
 rw[getD_at hi]
 exact if_neg (by rw[hn];decide)
theorem IL(f:Nat)(s:Stk)(p:Par)(hn:eg f s p=false):eJ f s p=0:=if_neg (by rw[hn];decide)
theorem IP(f:Nat)(s:Stk)(p:Par)(hn:eg f s p=true)(hh:bB s.ho p.pa=true):eJ f s p=96:=by unfold eJ;rw[if_pos hn,if_pos hh]
theorem IN(f:Nat)(s:Stk)(p:Par)(hn:eg f s p=true)(hh:bB s.ho p.pa=false)(hl:40<(cE s.ho p.pa).length):eJ f s p=2:=by unfold eJ;rw[if_pos hn,if_neg (by rw[hh];decide),if_pos hl]
theorem IM(f:Nat)(s:Stk)(p:Par)(hn:eg f s p=true)(hh:bB s.ho p.pa=false)(hl:¬ 40<(cE s.ho p.pa).length):eJ f s p=0:=by unfold eJ;rw[if_pos hn,if_neg (by rw[hh];decide),if_neg hl]
theorem Nw{f:Nat}{ps:List Par}{s0:Stk}{i:Nat}(hi:i<ps.length)(h:eh f ps s0 i=0)(he:eJ f (bO f ps s0 i) ps[i]=0):eh f ps s0 (i+1)=0:=by
 show (if eh f ps s0 i=0 then eJ f (bO f ps s0 i) (ps.getD i default)else _)=0
 rw[if_pos h,getD_at hi,he]
noncomputable def K53:List (Nat×Spec):=[(77,S39),(55,GD)]
attribute [go_sem] K53
theorem abD{P:Program}{Γ:FuncId->Option Spec}(hΓ:∀ f s,Γ f=some s->an P f s){id:Nat}{l:List Oper}{c:Code}{r:List Code}{σ:S}{K:Exit->S->Prop}(ks:List Nat)(ns:List Name)
 (h:∀ K':S->Prop,(∀ σ',gq ks ns σ'->CL P (c::r) (gy ks ns σ') K->K' σ')->lT P Γ l.toArray l σ K'):CL P (.region id l.toArray false::c::r) σ K:=
 NW hΓ (h _ fun σ' hc hy=>FQ ks ns hc hy)
theorem H8{P:Program}{Γ:FuncId->Option Spec}{ops:Array Oper}{o:Oper}{r:List Oper}{σ:S}{K:S->Prop}(h1:kM P Γ ops σ o)(h2:lT P Γ ops r (aV P Γ ops σ o) K):lT P Γ ops (o::r) σ K:=.step h1 h2
def gb{α:Type}(p:α->Bool)(l:List α):List α:=l.filter fun d=>!p d
def mC{α:Type}(enc:α->V)(z:V)(p:α->Bool)(l:List α):List V:=(gb p l).map enc++List.replicate (l.length-(gb p l).length) z
def mT:Par:=⟨0,0⟩
def gW{α:Type}(p:α->Bool)(l:List α):Int:=if l.any p then(l.findIdx p:Int)else -1
theorem Di{α:Type}{p:α->Bool}{l:List α}{i:Nat}(h:i<l.length)(hp:p l[i]=true)(hn:∀ k (hk:k<l.length),k<i->p l[k]=false):gW p l=i:=by
 unfold gW
 rw[if_pos (List.any_eq_true.2 ⟨_,List.getElem_mem h,hp⟩)]
 congr 1
 rw[List.findIdx_eq h]
 exact⟨hp,fun j hj=>by simpa using hn j (by omega) hj⟩
theorem Lm{α:Type}{p:α->Bool}{l:List α}(hn:∀ k (hk:k<l.length),p l[k]=false):gW p l= -1:=by
 unfold gW
 rw[if_neg]
 intro h
 obtain⟨x,hx,hp⟩:=List.any_eq_true.1 h
 obtain⟨k,hk,rfl⟩:=List.getElem_of_mem hx
 rw[hn k hk]at hp
 cases hp
def mD:V->Bag
 | .ptr l=>nL (.agg l)
 |_=>default
def Dm:En Bag:=⟨fun b=>.ptr (aT b),mD⟩
def NS:V->Bag
 | .clo _ _ [x]=>mD x
 |_=>default
def Dn:En Bag:=⟨fun b=>.clo (.func 49) [] [.ptr (aT b)],NS⟩
@[go_sem] theorem aba(b:Bag):mD (.ptr (aT b))=b:=uY b
@[go_sem] theorem ahd(f:Fn)(b:Bag):NS (.clo f [] [.ptr (aT b)])=b:=uY b
attribute [go_sem] Dm Dn
@[go_sem] theorem ahy(b:Bag):List.take 1 (List.drop 3 (aT b))=[vInt b.ta]:=rfl
@[go_sem] theorem ahz(b:Bag):List.take 1 (List.drop 2 (aT b))=[rowP b.ps]:=rfl
@[go_sem] theorem ahA(b:Bag):List.take 1 (List.drop 1 (aT b))=[vInt b.to]:=rfl
@[go_sem] theorem ahB(b:Bag):List.take 1 (aT b)=[vInt b.fr]:=rfl
def eU(b:Bag)(p:Par):Bool:=decide (p.no<=b.ta)
noncomputable def P65:PSpec:=p2 vZ Dm (fun _ _=>True) (fun p b=>.bool (eU b p)) true
noncomputable def S65:Spec:=P65.toSpec
attribute [go_sem] P65 S65
theorem SJ:aZ Tryd.prog 49 P65:=by
 refine w2 (rs:=[.tmp 3]) Tryd.func49 Tryd.ntmps49 (by rfl) (by kernel_rfl) (by decide) (fun _ _ _=>rfl) ⟨_,rfl,lb rfl,fun p b hp hw=>?_⟩
 have hP:=bn
 simp only[Dm,vZ]at hw |-
 have hΓ:=@nk Tryd.prog
 repeat refine sq ?_
 refine rx hΓ [1,2] [[2,0]] (fun K' hK=>by simp only[go_sem];(repeat (refine⟨ah,?_⟩));exact hK _ (by simp only[go_sem]) (by simp only[go_sem]<;>rfl)) ?_
 repeat refine sq ?_
 refine rx hΓ [3] [] (fun K' hK=>by simp only[go_sem,Nat.add_zero];(repeat (refine⟨ah,?_⟩));exact hK _ (by simp only[go_sem]) (by simp only[go_sem]<;>rfl)) ?_
 refine av ?_
 simp only[go_sem]
 all_goals first | rfl | (simp;done) | (simp_all;done)
theorem KV:an Tryd.prog 49 S65:=SJ.sound
noncomputable def GM:List (Nat×Spec):=[(49,S65)]
theorem ac6:∀ f s,tbl GM f=some s->an Tryd.prog f s:=tc KV<|tn
attribute [go_sem] GM
noncomputable def P101:PSpec:=p2 lz Dn (fun _ _=>True) (fun l b=>vInt (gW (eU b) l)) true
noncomputable def S101:Spec:=P101.toSpec
attribute [go_sem] P101 S101
set_option maxHeartbeats 4000000 in
theorem Tn:aZ Tryd.prog 72 P101:=by
 refine w2 (rs:=[.tmp 4]) Tryd.func72 Tryd.ntmps72 (by rfl) (by kernel_rfl) (by decide) (fun _ _ _=>rfl) ⟨_,rfl,lb rfl,fun l b hp hw=>?_⟩
 have hP:=bn
 simp only[Dn,lz]at hw |-
 have hl:l.length<=maxLen:=by have:=hw.1.1;simpa using this
 obtain⟨Γ,sG,hΓ,hs,hg⟩:∃ (Γ:FuncId->Option Spec) (sG:Spec),(∀ f s,Γ f=some s->an Tryd.prog f s)/\Γ 49=some sG/\
  ∀ (obj:Name->Option O) (t:Name) (x:Par),sG.app obj t [.v (encPa x),.v (.ptr (aT b))]=⟨True,.v (.bool (eU b x)),obj⟩:=⟨tbl GM,S65,ac6,rfl,fun obj t x=>by simp only[go_sem]⟩
 simp only[encPa]at hg
 repeat refine sq ?_
 refine rx hΓ [0,1] [] (fun K' hK=>by simp only[go_sem];(repeat (refine⟨ah,?_⟩));exact hK _ (by simp only[go_sem]) (by simp only[go_sem]<;>rfl)) ?_
 repeat refine sq ?_
 refine rx hΓ [0,1,7,8] [] (fun K' hK=>by simp only[go_sem];(repeat (refine⟨ah,?_⟩));exact hK _ (by simp only[go_sem]) (by simp only[go_sem]<;>rfl)) ?_
 repeat refine sq ?_
 refine aL ?_
 repeat refine sq ?_
 refine cN (fun z:Nat=>[(8,⟨true,.v (vInt z)⟩)]) (fun z=>[]) (fun z=>z<=l.length/\∀ k (h:k<l.length),k<z->eU b l[k]=false) (fun z=>l.length-z) 0 ?_ ?_ ?_ ?_
 ·exact⟨Nat.zero_le _,fun k h hk=>absurd hk (by omega)⟩
 ·rfl
 ·rfl
 rintro i ⟨hi,hR⟩
 simp only[go_sem]
 repeat refine sq ?_
 refine rx hΓ [0,1,7,8,9] [] (fun K' hK=>by simp only[go_sem];(repeat (refine⟨ah,?_⟩));exact hK _ (by simp only[go_sem]) (by simp only[go_sem]<;>rfl)) ?_
 repeat refine sq ?_
 refine aw rfl rfl (fun hb=>?_) (fun hb=>?_)
 ·have ae:i<l.length:=by simpa using hb
  have ak:(i:Int)<l.length:=by omega
  clear hb
  repeat refine sq ?_
  refine aA ?_
  repeat refine sq ?_
  refine aL ?_
  repeat refine sq ?_
  refine rx hΓ [0,1,5,7,8] [] (fun K' hK=>by simp only[go_sem,ba ae,Int.toNat_natCast,Int.natCast_nonneg,ak];(repeat (refine⟨ah,?_⟩));exact hK _ (by simp only[go_sem]) (by simp only[go_sem]<;>rfl)) ?_
  repeat refine sq ?_
  refine rx hΓ [0,1,5,7,8,16] [] (fun K' hK=>by simp only[go_sem,ba ae,Int.toNat_natCast,Int.natCast_nonneg,ak,ba ae,hs,hg,Int.toNat_natCast,Int.natCast_nonneg,ak];(repeat (refine⟨ah,?_⟩));exact hK _ (by simp only[go_sem]) (by simp only[go_sem]<;>rfl)) ?_
  repeat refine sq ?_
  refine aw rfl rfl (fun hb=>?_) (fun hb=>?_)
  ·repeat refine sq ?_
   refine rx hΓ [4] [] (fun K' hK=>by simp only[go_sem,ba ae,Int.toNat_natCast,Int.natCast_nonneg,ak];(repeat (refine⟨ah,?_⟩));exact hK _ (by simp only[go_sem]) (by simp only[go_sem]<;>rfl)) ?_
   refine av ?_
   simp only[go_sem]
   rw[Di (p:=eU b) ae (by simpa using hb) hR]
  ·repeat refine sq ?_
   refine aA ?_
   refine dA ?_
   simp only[go_sem]
   refine kp [0,1,7,8] [] ?_
   repeat refine sq ?_
   refine aX hΓ fun K' hK=>?_
   simp only[go_sem,ba ae,Int.toNat_natCast,Int.natCast_nonneg,ak]
   repeat (refine⟨ah,?_⟩)
   refine hK _ ?_
   clear K' hK
   simp only[go_sem]
   refine⟨i+1,⟨ae,?_⟩,by(show l.length-(i+1)<l.length-i;omega),?_⟩
   ·intro k hk kR
    rcases Nat.lt_succ_iff_lt_or_eq.1 kR with h5 | rfl
    ·exact hR k hk h5
    ·simpa using hb
   refine bx [0,1,7,8] [] ?_ ?_
   ·simp only[go_sem,aH ae hl,Int.natCast_add,Int.natCast_one]
   ·simp only[go_sem,aH ae hl,Int.natCast_add,Int.natCast_one]
 ·have bf:i=l.length:=by
   have :¬ (i:Int)<l.length:=by simpa using hb
   omega
  clear hb
  subst bf
  repeat refine sq ?_
  refine cq ?_
  simp only[go_sem]
  refine kp [] [] ?_
  repeat refine sq ?_
  refine rx hΓ [4] [] (fun K' hK=>by simp only[go_sem];(repeat (refine⟨ah,?_⟩));exact hK _ (by simp only[go_sem]) (by simp only[go_sem]<;>rfl)) ?_
  refine av ?_
  simp only[go_sem]
  rw[Lm (p:=eU b) fun k hk=>hR k hk hk]
theorem Xs:an Tryd.prog 72 S101:=Tn.sound
noncomputable def GL:List (Nat×Spec):=[(49,S65),(72,S101)]
theorem ac5:∀ f s,tbl GL f=some s->an Tryd.prog f s:=tc KV<|tc Xs<|tn
attribute [go_sem] GL
theorem Gy:(#[35]:Array Nat).getD 0 0=35:=rfl
theorem Qp:((be Tryd.prog 75).bind fun z=>dX (jg z))=some (encPa mT):=by rw[Q1];rfl
theorem FZ{obj:Name->Option O}{nm:Name}{k i:Nat}{L:List V}(h:obj nm=some (.arr 2 L))(hk:k=L.length)(hi:i<L.length):
 lk Tryd.prog obj 35 35 (.msl nm k) (.v (vInt i))=⟨True,.any,upd obj nm (some (.arr 2 (L.take i++List.replicate (L.length-i) (encPa mT))))⟩:=by
 unfold lk
 simp only[He,h,Qp,Int.toNat_natCast]
 congr 1
 simp only[eq_iff_iff,iff_true]
 exact⟨hk,by omega,hi,trivial,rfl,rfl,trivial,by decide⟩
set_option maxRecDepth 10000 in
set_option maxHeartbeats 4000000 in
theorem QV(b:Bag){H:Name->Option O}{l:List Par}(hl:l.length<1000000)(qi:H [0,1]=some (.arr 2 (l.map encPa)))(ia:∀ hs,bU [0] (bL [0] hs) H=True)(gG:∀ hs sz L,bU [0] (bL [0] hs) (upd H [0,1] (some (.arr sz L)))=True)(MI:∀ hs sz L,bU [0] (bL [0] hs) (upd H [0,1] (some (.farr sz L)))=True):
 ∃ c,Tryd.f48.body=some c/\CL Tryd.prog [c] (aW 42 [0] H [(0,⟨true,.msl [0,1] l.length⟩),(1,⟨true,.clo (.func 49) [] [.v (.ptr (aT b))]⟩)] []) (fun e σ=>(e=.normal\/e=.ret)/\(σ.env 4).c=true/\
   (σ.env 4).d=.v (.sl ((gb (eU b) l).map encPa))/\σ.obj [0,1]=some (.farr 2 (mC encPa (encPa mT) (eU b) l))):=by
 obtain⟨Γ,sG,sI,hΓ,hs,hi,hp,hI⟩:∃ (Γ:FuncId->Option Spec) (sG sI:Spec),(∀ f s,Γ f=some s->an Tryd.prog f s)/\Γ 49=some sG/\Γ 72=some sI/\
  (∀ (obj:Name->Option O) (t:Name) (x:Par),sG.app obj t [.agg ((encPa x).cells.map .v),.v (.ptr (aT b))]=⟨True,.v (.bool (eU b x)),obj⟩)/\
  ∀ (obj:Name->Option O) (t:Name),obj [0,1]=some (.arr 2 (l.map encPa))->sI.app obj t [.msl [0,1] l.length,.clo (.func 49) [] [.v (.ptr (aT b))]]=⟨True,.v (vInt (gW (eU b) l)),obj⟩:=
  ⟨tbl GL,S65,S101,ac5,rfl,rfl,fun obj t x=>by simp only[go_sem],fun obj t e=>by simp only[go_sem,e,List.length_map]⟩
 generalize uH:mC encPa (encPa mT) (eU b) l=XX
 generalize hpg:eU b=p at *
 simp only[encPa,V.cells,List.map_cons,List.map_nil]at hp
 refine⟨_,rfl,?_⟩
 have hm:l.length<=maxLen:=by unfold maxLen;omega
 repeat refine sq ?_
 refine rx hΓ [0,1] [] (fun K' hK=>by simp only[go_sem,ia];(repeat (refine⟨ah,?_⟩));exact hK _ (by simp only[go_sem,ia]) (by simp only[go_sem,ia]<;>rfl)) ?_
 repeat refine sq ?_
 refine rx hΓ [0,1,5] [] (fun K' hK=>by simp only[go_sem,ia,hI,hi,qi,implies_true];(repeat (refine⟨ah,?_⟩));exact hK _ (by simp only[go_sem,ia,hI,hi,qi,implies_true]) (by simp only[go_sem,ia,hI,hi,qi,implies_true]<;>rfl)) ?_
 repeat refine sq ?_
 refine rx hΓ [0,1,5,12] [] (fun K' hK=>by simp only[go_sem,ia];(repeat (refine⟨ah,?_⟩));exact hK _ (by simp only[go_sem,ia]) (by simp only[go_sem,ia]<;>rfl)) ?_
 repeat refine sq ?_
 refine aw rfl rfl (fun hb=>?_) (fun hb=>?_)
 ·repeat refine sq ?_
  refine rx hΓ [4] [] (fun K' hK=>by simp only[go_sem,ia];(repeat (refine⟨ah,?_⟩));exact hK _ (by simp only[go_sem,ia]) (by simp only[go_sem,ia]<;>rfl)) ?_
  refine aN (Bu 4 (.msl [0,1] l.length) (by simp only[go_sem]) (by simp only[go_sem,qi,List.length_map]) [4] [] ?_ rfl) ?_
  ·simp only[go_sem,qi,MI]
  simp only[go_sem,qi]
  refine av ?_
  simp only[go_sem,qi]
  have da:gW p l= -1:=by simpa using hb
  have dI:∀ d∈l,p d=false:=by
   unfold gW at da
   split at da
   ·omega
   ·rename_i hn
    intro d hd
    cases YB:p d with
    |false=>rfl
    |true=>exact(hn (List.any_eq_true.2 ⟨d,hd,YB⟩)).elim
  have hk:gb p l=l:=List.filter_eq_self.2 fun d hd=>by rw[dI d hd];rfl
  have z':XX=l.map encPa:=by rw[<-uH];unfold mC;rw[hk];simp
  rw[hk,z']
  exact⟨.inr trivial,rfl,rfl⟩
 have hf:l.findIdx p<l.length:=by
  have da:¬ gW p l= -1:=by simpa using hb
  unfold gW at da
  split at da
  ·rename_i ZJ
   exact List.findIdx_lt_length_of_exists (by obtain⟨y,hy,hp⟩:=List.any_eq_true.1 ZJ;exact⟨y,hy,hp⟩)
  ·exact(da rfl).elim
 have qa:gW p l=(l.findIdx p:Int):=by unfold gW;rw[if_pos (List.any_eq_true.2 ⟨_,List.getElem_mem hf,List.findIdx_getElem (w:=hf)⟩)]
 rw[qa]
 clear hb qa hi hI
 have YA:p (l[l.findIdx p])=true:=List.findIdx_getElem (w:=hf)
 have LZ:∀ j (h:j<l.length),j<l.findIdx p->p l[j]=false:=fun j h hj=>by simpa using List.not_of_lt_findIdx hj
 generalize l.findIdx p=f at *
 repeat refine sq ?_
 refine aA ?_
 repeat refine sq ?_
 refine rx hΓ [0,1,5,6] [] (fun K' hK=>by simp only[go_sem,ia,aH hf hm,Int.natCast_add,Int.natCast_one];(repeat (refine⟨ah,?_⟩));exact hK _ (by simp only[go_sem,ia,aH hf hm,Int.natCast_add,Int.natCast_one]) (by simp only[go_sem,ia,aH hf hm,Int.natCast_add,Int.natCast_one]<;>rfl)) ?_
 repeat refine sq ?_
 refine aL ?_
 repeat refine sq ?_
 refine abF (fun x:Nat×Nat×List Par=>upd H [0,1] (some (.arr 2 (x.2.2.map encPa)))) (fun x=>[(5,⟨true,.v (vInt x.1)⟩),(6,⟨true,.v (vInt x.2.1)⟩)]) (fun x=>[]) (fun x=>x.1<x.2.1/\x.2.1<=l.length/\x.2.2.length=l.length/\x.2.2.take x.1=gb p (l.take x.2.1)/\x.2.2.drop x.2.1=l.drop x.2.1) (fun x=>l.length-x.2.1) (f,f+1,l) ?_ ?_ ?_ ?_ ?_
 ·refine⟨(show f<f+1 by omega),hf,rfl,?_,rfl⟩
  show l.take f=gb p (l.take (f+1))
  unfold gb
  rw[List.take_add_one,List.getElem?_eq_getElem hf,List.filter_append]
  simp only[Option.toList_some,List.filter_cons,YA,Bool.not_true,Bool.false_eq_true,if_false,List.filter_nil,List.append_nil]
  rw[List.filter_eq_self.2]
  intro d hd
  obtain⟨j,hj,rfl⟩:=List.getElem_of_mem hd
  have gl:j<f:=by simp at hj;omega
  rw[List.getElem_take,LZ j (by omega) gl]
  rfl
 ·congr 1
  rw[<-qi]
  funext x
  by_cases e:x=[0,1]
  ·subst e;rw[aG]
  ·rw[aK _ _ _ e]
 ·rfl
 ·rfl
 clear LZ
 rintro⟨i,j,A⟩ ⟨ix,hj,hA,hT,hD⟩
 simp only at ix hj hA hT hD
 dsimp only
 generalize sp:upd H [0,1] (some (O.arr 2 (List.map encPa A)))=H'
 have h0:H' [0,1]=some (.arr 2 (A.map encPa)):=by rw[<-sp,aG]
 have w5:∀ i,H' [i+1,1]=H [i+1,1]:=fun i=>by rw[<-sp,aK _ _ _ (by simp)]
 have ib:∀ hs,bU [0] (bL [0] hs) H'=True:=fun hs=>by rw[<-sp];exact gG _ _ _
 have kV:∀ hs sz L,bU [0] (bL [0] hs) (upd H' [0,1] (some (.arr sz L)))=True:=fun hs sz L=>by rw[<-sp,s9];exact gG _ _ _
 have Z0:∀ hs sz L,bU [0] (bL [0] hs) (upd H' [0,1] (some (.farr sz L)))=True:=fun hs sz L=>by rw[<-sp,s9];exact MI _ _ _
 simp only[go_sem]
 repeat refine sq ?_
 refine rx hΓ [0,1,5,6,19] [] (fun K' hK=>by simp only[go_sem,ib,kV,h0];(repeat (refine⟨ah,?_⟩));exact hK _ (by simp only[go_sem,ib,kV,h0]) (by simp only[go_sem,ib,kV,h0]<;>rfl)) ?_
 repeat refine sq ?_
 refine aw rfl rfl (fun hb=>?_) (fun hb=>?_)
 ·have ae:j<l.length:=by simpa using hb
  have Ei:j<A.length:=by omega
  have wM:i<A.length:=by omega
  have Y4:(i:Int)<l.length:=by omega
  have ak:(j:Int)<l.length:=by omega
  have EW:A[j]=l[j]:=by
   have h1:A[j]=(A.drop j)[0]'(by simp;omega):=by simp
   rw[h1]
   simp only[hD]
   simp
  clear hb
  repeat refine sq ?_
  refine aA ?_
  repeat refine sq ?_
  refine aL ?_
  repeat refine sq ?_
  refine rx hΓ [0,1,5,6,7] [[7,0]] (fun K' hK=>by simp only[go_sem,ib,kV,h0,ba Ei,Int.toNat_natCast,Int.natCast_nonneg,ak,hA,EW];(repeat (refine⟨ah,?_⟩));exact hK _ (by simp only[go_sem,ib,kV,h0,ba Ei,Int.toNat_natCast,Int.natCast_nonneg,ak,hA,EW]) (by simp only[go_sem,ib,kV,h0,ba Ei,Int.toNat_natCast,Int.natCast_nonneg,ak,hA,EW]<;>rfl)) ?_
  repeat refine sq ?_
  refine rx hΓ [0,1,5,6,7,29] [[7,0]] (fun K' hK=>by simp only[go_sem,ib,kV,h0,hs,hp];(repeat (refine⟨ah,?_⟩));exact hK _ (by simp only[go_sem,ib,kV,h0,hs,hp]) (by simp only[go_sem,ib,kV,h0,hs,hp]<;>rfl)) ?_
  repeat refine sq ?_
  refine aw rfl rfl (fun hb=>?_) (fun hb=>?_)
  ·have Yz:p l[j]=false:=by simpa using hb
   clear hb
   repeat refine sq ?_
   refine AR hΓ [0,1,5,6] [] fun K' hK=>?_
   simp only[go_sem,ib,kV,h0,Int.toNat_natCast,Int.natCast_nonneg,Y4,hA]
   repeat' apply And.intro
   all_goals first | rfl | omega | exact Int.le_refl _ | exact Bool.or_not_self _ | exact Bool.not_or_self _ | exact Fq _ | exact Fs _ | exact fun x hx=>(Fq _ x hx).1 | exact fun x hx=>(Fs _ x hx).1 | (simp only[List.length_take,List.length_append,List.length_map,List.length_drop,List.length_cons,List.length_nil];done) | (simp only[List.length_take,List.length_append,List.length_map,List.length_drop,List.length_cons,List.length_nil];omega) | (simp only[List.length_take,List.length_append,List.length_map,List.length_drop,List.length_cons,List.length_nil,maxLen];omega) | (exact fun _=>by decide) | (exact fun h=>⟨h,by decide⟩) | (simp only[decide_eq_true_eq];omega) | skip
   refine hK _ ?_ ?_
   ·simp only[go_sem,ib,kV]
   clear K' hK
   simp only[go_sem]
   obtain⟨H2,kq⟩:∃ H2,upd H' [0,1] (some (O.arr 2 ((List.map encPa A).set i (encPa l[j]))))=H2:=⟨_,rfl⟩
   have MO:=kq
   simp only[encPa]at MO
   rw[MO]
   have wZ:∀ hs,bU [0] (bL [0] hs) H2=True:=fun hs=>by rw[<-kq];exact kV _ _ _
   repeat refine sq ?_
   refine aX hΓ fun K' hK=>?_
   simp only[go_sem]
   repeat (refine⟨ah,?_⟩)
   refine hK _ ?_
   clear K' hK
   simp only[go_sem]
   refine kz [0,1,5,6] [] ?_ ?_
   ·simp only[go_sem,wZ]
   simp only[go_sem,wZ]
   repeat refine sq ?_
   refine aX hΓ fun K' hK=>?_
   simp only[go_sem]
   repeat (refine⟨ah,?_⟩)
   refine hK _ ?_
   clear K' hK
   simp only[go_sem]
   refine⟨(i+1,j+1,A.set i l[j]),⟨(show i+1<j+1 by omega),ae,by simpa using hA,?_,?_⟩,(show l.length-(j+1)<l.length-j by omega),?_⟩
   ·show (A.set i l[j]).take (i+1)=gb p (l.take (j+1))
    unfold gb at hT |-
    rw[List.take_add_one (l:=l),List.getElem?_eq_getElem ae,List.filter_append,<-hT]
    simp only[Option.toList_some,List.filter_cons,Yz,Bool.not_false,if_true,List.filter_nil]
    rw[List.take_add_one,List.take_set_of_le (Nat.le_refl i),List.getElem?_set_self wM]
    rfl
   ·show (A.set i l[j]).drop (j+1)=l.drop (j+1)
    rw[List.drop_set_of_lt (show i<j+1 by omega)]
    have :=congrArg (List.drop 1) hD
    simpa[List.drop_drop]using this
   ·refine bx [0,1,5,6] [] ?_ ?_
    ·simp only[go_sem,wZ]
    ·simp only[go_sem,aH ae hm,aH (show i<l.length by omega) hm,Int.natCast_add,Int.natCast_one]
     rw[<-kq,<-sp,s9,List.map_set]
     try rfl
  ·have Yx:p l[j]=true:=by simpa using hb
   clear hb
   repeat refine sq ?_
   refine aA ?_
   refine dA ?_
   simp only[go_sem]
   refine kz [0,1,5,6] [] ?_ ?_
   ·simp only[go_sem,ib]
   simp only[go_sem,ib]
   repeat refine sq ?_
   refine aX hΓ fun K' hK=>?_
   simp only[go_sem]
   repeat (refine⟨ah,?_⟩)
   refine hK _ ?_
   clear K' hK
   simp only[go_sem]
   refine⟨(i,j+1,A),⟨(show i<j+1 by omega),ae,hA,?_,?_⟩,(show l.length-(j+1)<l.length-j by omega),?_⟩
   ·show A.take i=gb p (l.take (j+1))
    unfold gb at hT |-
    rw[List.take_add_one (l:=l),List.getElem?_eq_getElem ae,List.filter_append,<-hT]
    simp only[Option.toList_some,List.filter_cons,Yx,Bool.not_true,Bool.false_eq_true,if_false,List.filter_nil,List.append_nil]
   ·show A.drop (j+1)=l.drop (j+1)
    have :=congrArg (List.drop 1) hD
    simpa[List.drop_drop]using this
   ·refine bx [0,1,5,6] [] ?_ ?_
    ·simp only[go_sem,ib]
    ·simp only[go_sem,aH ae hm,Int.natCast_add,Int.natCast_one]
     rw[<-sp]
 ·have bf:j=l.length:=by
    have :¬ (j:Int)<l.length:=by simpa using hb
    omega
  subst bf
  clear hb
  rw[List.take_length]at hT
  have wM:i<A.length:=by omega
  repeat refine sq ?_
  refine cq ?_
  simp only[go_sem]
  refine kz [0,5] [] ?_ ?_
  ·simp only[go_sem,ib]
  simp only[go_sem,ib]
  repeat refine sq ?_
  refine abD hΓ [0,5] [] fun K' hK=>?_
  refine H8 ?_ (H8 ?_ (.cut (T:=35) (x:=.tmp 36) (lo:=.tmp 37) (c:=38) rfl rfl ?_ ?_ ?_ ?_ (.nil ?_)))
  ·simp only[go_sem]
  ·simp only[go_sem]
  ·simp only[go_sem]
  ·simp only[go_sem]
  ·simp only[go_sem]
  ·have kn:=fun (obj:Name->Option O) (h:obj [0,1]=_)=>FZ (obj:=obj) (nm:=[0,1]) (k:=l.length) (i:=i) (L:=A.map encPa) h (by simpa using hA.symm) (by simpa using wM)
   simp only[go_sem,mF,Gy,kn,h0]
  ·refine hK _ ?_ ?_
   ·simp only[go_sem,qu,mF,Gy,FZ (obj:=fun nm=>if own [0] nm=true then none else H' nm) (nm:=[0,1]) (k:=l.length) (i:=i) (L:=A.map encPa) h0 (by simpa using hA.symm) (by simpa using wM),kV]
   clear K' hK
   simp only[go_sem,qu,mF,Gy,FZ (obj:=fun nm=>if own [0] nm=true then none else H' nm) (nm:=[0,1]) (k:=l.length) (i:=i) (L:=A.map encPa) h0 (by simpa using hA.symm) (by simpa using wM)]
   have kR:(gb p l).length=i:=by rw[<-hT,List.length_take];omega
   have EL:(List.take i (List.map encPa A)++List.replicate (A.length-i) (encPa mT))=XX:=by
    rw[<-uH]
    unfold mC
    rw[kR,<-hT,List.map_take,hA]
   have hZ1:XX.length=l.length:=by rw[<-uH];unfold mC;simp;omega
   have ZN:XX.take i=(gb p l).map encPa:=by
    rw[<-uH]
    unfold mC
    rw[List.take_append_of_le_length (by simp;omega),List.take_of_length_le (by simp;omega)]
   have ZM:∀ x∈XX,x.cells.length=2:=by
    intro x hx
    rw[<-uH]at hx
    rcases List.mem_append.1 hx with h | h
    ·obtain⟨y,_,rfl⟩:=List.mem_map.1 h;rfl
    ·rw[(List.mem_replicate.1 h).2];rfl
   simp only[encPa]at EL
   rw[EL]
   clear EL
   clear uH
   generalize XX=Z at *
   simp only[V.cells]at ZM
   generalize ko:upd H' [0,1] (some (O.arr 2 Z))=H3
   have h30:H3 [0,1]=some (.arr 2 Z):=by rw[<-ko,aG]
   have hI3:∀ i,H3 [i+1,1]=H [i+1,1]:=fun i=>by rw[<-ko,aK _ _ _ (by simp)];exact w5 i
   have ZZ:∀ hs sz L,bU [0] (bL [0] hs) (upd H3 [0,1] (some (.farr sz L)))=True:=fun hs sz L=>by rw[<-ko,s9];exact Z0 _ _ _
   have Y3:(i:Int)<=l.length:=by omega
   repeat refine sq ?_
   refine AR hΓ [4] [] fun K' hK=>?_
   simp only[go_sem,h30,He,Int.toNat_natCast,Int.natCast_nonneg,Y3]
   repeat' apply And.intro
   all_goals first | rfl | omega | exact Int.le_refl _ | exact Bool.or_not_self _ | exact Bool.not_or_self _ | exact Fq _ | exact Fs _ | exact fun x hx=>(Fq _ x hx).1 | exact fun x hx=>(Fs _ x hx).1 | (simp only[List.length_take,List.length_append,List.length_map,List.length_drop,List.length_cons,List.length_nil];done) | (simp only[List.length_take,List.length_append,List.length_map,List.length_drop,List.length_cons,List.length_nil];omega) | (simp only[List.length_take,List.length_append,List.length_map,List.length_drop,List.length_cons,List.length_nil,maxLen];omega) | (exact fun _=>by decide) | (exact fun h=>⟨h,by decide⟩) | (simp only[decide_eq_true_eq];omega) | skip
   refine hK _ ?_ ?_
   ·simp only[go_sem,ZZ]
   clear K' hK
   simp only[go_sem]
   refine av ?_
   simp only[go_sem,ZN]
   exact .inr trivial
noncomputable def delCP:CSpec where
 pre:=fun os ds=>∃ (l:List Par) (b:Bag),os=[.arr 2 (l.map encPa)]/\ds=[.msl [0,1] l.length,.clo (.func 49) [] [.v (.ptr (aT b))]]/\l.length<1000000
 out:=fun os ds=>match os,ds with
  |[.arr _ L],[_,.clo _ _ [.v x]]=>⟨[(0,.farr 2 (mC encPa (encPa mT) (eU (mD x)) (L.map jV)))],[],.v (.sl ((gb (eU (mD x)) (L.map jV)).map encPa))⟩
  |_,_=>⟨[],[],.any⟩
noncomputable def sJ(obj:Name->Option O)(_:Name):List D->R
 |[.msl nm k,.clo (.func 49) [] [.v (.ptr cs)]]=>match obj nm with
  |some (.arr 2 L)=>⟨k=L.length/\L.length<1000000/\(L.map jV).map encPa=L/\aT (mD (.ptr cs))=cs,.v (.sl ((gb (eU (mD (.ptr cs))) (L.map jV)).map encPa)),upd obj nm (some (.farr 2 (mC encPa (encPa mT) (eU (mD (.ptr cs))) (L.map jV))))⟩
  |_=>.bad obj
 |_=>.bad obj
def qt(_:Name->Option O)(_:Name):List D->List Name
 | .msl nm _::_=>[nm]
 |_=>[]
noncomputable def S64:Spec:=⟨sJ,qt,qt⟩
attribute [go_sem] S64 sJ
theorem aa4:S64.Near:=by
 refine CD fun obj obj2 t ds ha=>⟨rfl,?_⟩
 have eE:∀ wr,bq wr obj obj2->bD (R.bad obj) (R.bad obj2) obj obj2 wr:=fun wr h=>.none wr h
 unfold sJ
 split
 ·rename_i nm k cs
  have h1:obj2 nm=obj nm:=ha nm (by simp[qt])
  simp only[h1]
  split
  ·exact .one (by simp[qt]) ha
  ·exact eE _ ha
 ·exact eE _ ha
theorem WY:an Tryd.prog 48 delCP.toSpec:=by
 refine o6 (nt:=42) (rs:=[.tmp 4]) Tryd.func48 rfl (by rfl) (by kernel_rfl) (js Tryd.func48 rfl (by kernel_rfl)) (oe _ (by decide)) ?_
 rintro os ds ⟨l,b,rfl,rfl,hl⟩
 refine⟨lb rfl,?_⟩
 have gi:delCP.out [.arr 2 (l.map encPa)] [.msl [0,1] l.length,.clo (.func 49) [] [.v (.ptr (aT b))]]=⟨[(0,.farr 2 (mC encPa (encPa mT) (eU b) l))],[],.v (.sl ((gb (eU b) l).map encPa))⟩:=by
  simp only[delCP,FM,aba]
 rw[gi]
 have ia:∀ hs,bU [0] (bL [0] hs) (a8 [.arr 2 (l.map encPa)])=True:=fun hs=>eq_true (vK (by
  intro o ho dom hd
  simp only[List.mem_singleton]at ho
  subst ho
  rfl) hs)
 obtain⟨c,hc,h⟩:=QV b (H:=a8 [.arr 2 (l.map encPa)]) hl rfl ia (fun hs sz L=>eq_true (xN rfl (by rw[ia];trivial))) (fun hs sz L=>eq_true (xN rfl (by rw[ia];trivial)))
 have oS:∀ c2,Tryd.f48.body=some c2->c2=c:=fun c2 h2=>by rw[h2]at hc;exact Option.some.inj hc
 rw[<-oS _ rfl]at h
 refine CW.mono (lF h) ?_
 rintro e σ ⟨he,h1,h2,h3⟩
 have fin:(bY Tryd.prog σ [.tmp 4]).ok/\(bY Tryd.prog σ [.tmp 4]).d=.v (.sl ((gb (eU b) l).map encPa))/\ie [.arr 2 (l.map encPa)] ⟨[(0,.farr 2 (mC encPa (encPa mT) (eU b) l))],[],.v (.sl ((gb (eU b) l).map encPa))⟩ σ:=
  ⟨h1,h2,⟨h3,trivial⟩,trivial,rfl⟩
 rcases he with rfl | rfl
 ·exact fin
 ·exact fin
theorem WZ:an Tryd.prog 48 S64:=by
 refine BK WY aa4 (oe _ (by decide)) fun obj t ds aa=>?_
 change (sJ obj t ds).ok at aa
 refine⟨ds,rfl,fun _ _ _ _ h=>h,?_⟩
 show _/\_=(sJ obj t ds).d/\_=(sJ obj t ds).obj
 unfold sJ at aa |-
 split at aa
 ·rename_i nm k cs
  split at aa
  ·rename_i L ho
   obtain⟨rfl,hl,he,hg⟩:=aa
   have hr:reach obj [.msl nm L.length,.clo (.func 49) [] [.v (.ptr cs)]]=[nm]:=by
    unfold reach
    show dQ obj (2998+1+1) [nm] []=[nm]
    simp only[dQ,cK,List.any_nil,Bool.false_eq_true,if_false,ho,nl,List.nil_append]
   have i0:idx [nm] nm=0:=by simp[idx]
   have e1:cv obj [.msl nm L.length,.clo (.func 49) [] [.v (.ptr cs)]]=[.arr 2 L]:=by
    unfold cv
    rw[hr]
    simp only[List.map_cons,List.map_nil,cr,ho,O.ren]
   have e2:cO obj [.msl nm L.length,.clo (.func 49) [] [.v (.ptr cs)]]=[.msl [0,1] L.length,.clo (.func 49) [] [.v (.ptr cs)]]:=by
    unfold cO
    rw[hr]
    simp only[D.renL,D.ren,cin,i0]
   have e3:(shut obj [nm]&&D.closL (cK [nm]) [.msl nm L.length,.clo (.func 49) [] [.v (.ptr cs)]]&&fresh obj t [])=true:=by
    simp[shut,ho,O.clos,D.closL,D.clos,cK,fresh]
   have cL:delCP.pre [.arr 2 L] [.msl [0,1] L.length,.clo (.func 49) [] [.v (.ptr cs)]]:=⟨L.map jV,mD (.ptr cs),by rw[he],by rw[List.length_map,hg],by rw[List.length_map];exact hl⟩
   have gi:delCP.out [.arr 2 L] [.msl [0,1] L.length,.clo (.func 49) [] [.v (.ptr cs)]]=⟨[(0,.farr 2 (mC encPa (encPa mT) (eU (mD (.ptr cs))) (L.map jV)))],[],.v (.sl ((gb (eU (mD (.ptr cs))) (L.map jV)).map encPa))⟩:=rfl
   simp only[CSpec.toSpec,e1,e2,hr,gi,e3,cL,ho,and_self,dd]
   exact⟨trivial,rfl,rfl⟩
  ·exact aa.elim
 ·exact aa.elim
end Go.Eng
set_option linter.unusedVariables false
namespace Go.Eng
open Go Go.Proofs Go.RowKit Go.Lib Go.Shelf
set_option maxHeartbeats 4000000 in
set_option maxRecDepth 100000 in
theorem XI(b off n c i vb fA m vc:Nat)(cs vs:List Value)(w:World)(hi:i<n)(hm:0<m)(ki:n+m<=c)(MA:c<=9223372036854775807)(zy:vb≠b)
 (bS:cs.length=n) (Du:vs.length=m)
 (iA:∀ j v,cs[j]?=some v->w.cell? ⟨b,off+j,none⟩=some v) (mc:∀ j,j<n+m->(w.cell? ⟨b,off+j,none⟩).isSome=true) (p9:∀ j,w.frozen? ⟨b,j,none⟩=false)
 (rR:∀ j v,vs[j]?=some v->w.cell? ⟨vb,fA+j,none⟩=some v) (w7:∀ v∈cs,v.oneCell'=true) (E0:∀ v∈vs,v.oneCell'=true)
 (tA tB:TypeId) (kA kB:Nat) (wq:w.shape? vb=some (tA,kA)) (wo:w.shape? b=some (tB,kB)) (Ee:kA≠0):
 Calls Tryd.prog 74 #[.slice (some ⟨b,off,none⟩) n c,.int .i64 i,.slice (some ⟨vb,fA,none⟩) m vc] w fun e w'=>
  e=.returned (.slice (some ⟨b,off,none⟩) (n+m) c)/\w'=(w.drew.setCells b (off+(i+m)) (cs.drop (i))).setCells b (off+i) vs:=by
 have mixed:Tryd.prog.follows Departure.mixedOrders=true:=by kernel_rfl
 have jj:¬ ((m:Int)=0):=by omega
 have ma:¬ ((i:Int)=(n:Int)):=by omega
 have YC:∀ lb cb,(callFunc 81 #[.slice (some ⟨vb,fA,none⟩) m vc,.slice (some ⟨b,off+(i+m),none⟩) lb cb]).run Tryd.prog w=.ok (.value (.bool false)) w:=fun lb cb=>by
  rw[run_callFunc_extern Tryd.func81 (by kernel_rfl) (by kernel_rfl) (by kernel_rfl) (e:=Extern.SlicesOverlaps.overlaps #[34,34] #[4]) (by kernel_rfl),
   Tr w 34 4 3 Tryd.underlying34 1 Tryd.sizeOf3 ⟨vb,fA,none⟩ ⟨b,off+(i+m),none⟩ m vc lb cb zy tA tB kA kB wq wo Ee (p9 _) (p9 _)]
  rfl
 have uC:(cs.drop (i)).length=n-i:=by rw[List.length_drop,bS];try omega
 have eP:IntKind.i64.wrap ((i:Int)+(m:Int))=(i:Int)+(m:Int):=by rw[IntKind.wrap_i64];omega
 have fF:(0:Int)<=(i:Int)+(m:Int):=by omega
 have dH:i<=n:=by omega
 have Ye:((i:Int)+(m:Int)).toNat=i+m:=by omega
 have fq:¬ (c=i+m):=by omega
 have Ai:(i:Int)<=(n:Int)+(m:Int):=by omega
 have hb4:¬ (c=i):=by omega
 have wD:Nat.min (n+m-i) (n+m-(i+m))=n-i:=by simp only[Nat.min_def];split<;>omega
 have Mv:∀ ty dc sc,(Builtin.copy_ #[34,34] ty #[.slice (some ⟨b,off+(i+m),none⟩) (n+m-(i+m)) dc,.slice (some ⟨b,off+i,none⟩) (n+m-i) sc]).run Tryd.prog w.drew=.ok (goInt (n-i:Nat)) (w.drew.setCells b (off+(i+m)) (cs.drop (i))):=fun ty dc sc=>by
  have h:=yh (P:=Tryd.prog) 1 w.drew 34 34 ty 3 b (off+(i+m)) (n+m-(i+m)) dc ⟨b,off+i,none⟩ (n+m-i) sc (cs.drop (i)) Tryd.underlying34 Tryd.sizeOf3 (by rw[uC,wD];omega)
   (fun j v hj=>by rw[Addr.add_lit,Nat.add_assoc];exact iA (i+j) v (by rwa [List.getElem?_drop]at hj))
   (fun j hj=>by rw[Nat.add_assoc];exact mc _ (by omega)) (fun j hj=>by exact p9 _) (fun v hv=>w7 v (List.mem_of_mem_drop hv))
  rw[wD]at h
  exact h
 obtain⟨W1,iG⟩:∃ W1,W1=w.drew.setCells b (off+(i+m)) (cs.drop (i)):=⟨_,rfl⟩
 have Ym:∀ k,k<n+m->(W1.cell? ⟨b,off+k,none⟩).isSome=true:=fun k hk=>by
  rw[iG]
  exact isSome_setCells b _ _ _ (fun j hj=>by rw[Nat.add_assoc];exact mc _ (by omega)) _ (mc k hk)
 have wC:Nat.min m (n+m-i)=m:=by simp only[Nat.min_def];split<;>omega
 have Zs:∀ (W:World),(∀ x,W.cell? x=W1.cell? x)->(∀ x,W.frozen? x=W1.frozen? x)->∀ ty dc,(Builtin.copy_ #[34,34] ty #[.slice (some ⟨b,off+i,none⟩) (n+m-i) dc,.slice (some ⟨vb,fA,none⟩) m vc]).run Tryd.prog W=.ok (goInt m) (W.setCells b (off+i) vs):=fun W qh wW ty dc=>by
  have h:=yh (P:=Tryd.prog) 1 W 34 34 ty 3 b (off+i) (n+m-i) dc ⟨vb,fA,none⟩ m vc vs Tryd.underlying34 Tryd.sizeOf3 (by rw[wC,Du];omega)
   (fun j v hj=>by
     rw[Addr.add_lit,qh,iG,World.cell?_setCells_out b _ _ _ _ (fun h _=>absurd h zy)]
     exact rR j v hj)
   (fun j hj=>by rw[qh,Nat.add_assoc];exact Ym _ (by omega)) (fun j hj=>by rw[wW,iG,World.frozen?_setCells];exact p9 _) E0
  rw[wC]at h
  exact h
 rw[<-iG]at Mv
 go_enter Tryd.func74,Tryd.ntmps74
 go_wp2_with (simp only[YC])
 go_region_law_o (refine step_copy_runI rfl _ _ 34 34 rfl _ _ (by simp[Act.eval,Act.put]) (by simp[Act.eval,Act.put]) (Mv _ _ _) ?_)
 go_wp2_with (at_builtin;refine wpList_copy_runI _ rfl _ _ 34 34 rfl _ _ rfl rfl (Zs _ (fun _=>rfl) (fun _=>rfl) _ _) ?_)
 go_ret
 first | exact⟨rfl,rfl⟩ | exact⟨rfl,by rw[iG]⟩
set_option maxHeartbeats 4000000 in
set_option maxRecDepth 100000 in
theorem XK(b off n c i vb fA m vc:Nat)(cs vs:List Value)(w:World)(hi:i<n)(hm:0<m)(D2:n<=c)(ki:c<n+m)(ZC:(n+m)*8<=140737488355328)
 (bS:cs.length=n) (Du:vs.length=m)
 (iA:∀ j v,cs[j]?=some v->w.cell? ⟨b,off+j,none⟩=some v)
 (rR:∀ j v,vs[j]?=some v->w.cell? ⟨vb,fA+j,none⟩=some v) (w7:∀ v∈cs,v.oneCell'=true) (E0:∀ v∈vs,v.oneCell'=true):
 Calls Tryd.prog 74 #[.slice (some ⟨b,off,none⟩) n c,.int .i64 i,.slice (some ⟨vb,fA,none⟩) m vc] w fun e w'=>
  e=.returned (.slice (some ⟨w.heap.size,0,none⟩) (n+m) (grownCap w (n+m) c 3))/\
  w'=(((w.alloc (.cells ((cs.take (i)).toArray++Builtin.zeroCells (.int .i64 0:Value).cells (n+m-i)++Builtin.zeroCells (.int .i64 0:Value).cells (grownCap w (n+m) c 3-(n+m))) 3)).drew.setCells w.heap.size (i) vs).drew).setCells w.heap.size ((i+m)) (cs.drop (i)):=by
 have mixed:Tryd.prog.follows Departure.mixedOrders=true:=by kernel_rfl
 have uI:bI Tryd.prog 34=some (3,1,8):=by kernel_rfl
 have wX:be Tryd.prog 3=some (.int .i64 0):=by kernel_rfl
 obtain⟨i0,nz,cA,rN,Lt⟩:∃ i0,Tryd.prog.info? 3=some i0/\i0.zero=some (.int .i64 0)/\i0.size=1/\i0.bytes=8:=by
  obtain⟨hu,i0,h1,h2,h3⟩:=iN uI
  refine⟨i0,h1,?_,h2,h3⟩
  unfold be at wX
  rw[h1]at wX
  exact wX
 have jj:¬ ((m:Int)=0):=by omega
 have ma:¬ ((i:Int)=(n:Int)):=by omega
 have ug:(c:Int)<(n:Int)+(m:Int):=by omega
 have MB:b<w.heap.size:=block_lt_of_cell (iA 0 _ (List.getElem?_eq_getElem (by omega)))
 have Yb:vb<w.heap.size:=block_lt_of_cell (rR 0 _ (List.getElem?_eq_getElem (by omega)))
 have zV:(n:Int)+(m:Int)-(i:Int)=((n+m-i:Nat):Int):=by omega
 have wL:i+(n+m-i)=n+m:=by omega
 have hold:(Builtin.firstCells i0.size i (.slice (some ⟨b,off,none⟩) i c)).run Tryd.prog w.drew=.ok (cs.take (i)).toArray w.drew:=by
  rw[rN]
  exact run_firstCells_some w.drew 1 i ⟨b,off,none⟩ i c (cs.take (i)) (by rw[List.length_take];omega) (fun j v hj=>by
   rw[Addr.add_lit]
   rw[List.getElem?_take]at hj
   split at hj
   ·exact iA j v hj
   ·cases hj)
 have um:∀ ty,(Builtin.append_ #[34,3] ty #[.slice (some ⟨b,off,none⟩) i c,.int .i64 ((n:Int)+(m:Int)-(i:Int))]).run Tryd.prog w=
     .ok (.slice (some ⟨w.heap.size,0,none⟩) (n+m) (grownCap w (n+m) c 3)) (w.drew.alloc (.cells ((cs.take (i)).toArray++Builtin.zeroCells (.int .i64 0:Value).cells (n+m-i)++Builtin.zeroCells (.int .i64 0:Value).cells (grownCap w (n+m) c 3-(n+m))) 3)):=fun ty=>by
  have h:=Lib.run_append_grow_zeros w 34 3 ty 3 i0 _ .i64 .i64 Tryd.underlying34 Tryd.underlying3 nz cA (some ⟨b,off,none⟩) i c (cs.take (i)) hold (n+m-i) (by omega) (by omega) (by omega) (by omega) (by rw[Lt];omega) (by rw[Lt,wL];exact growslice_fits ki ZC)
  rw[wL]at h
  rw[zV]
  exact h
 obtain⟨G,hG⟩:∃ G,G=grownCap w (n+m) c 3:=⟨_,rfl⟩
 obtain⟨ROW,sk⟩:∃ ROW:Array Value,ROW=(cs.take (i)).toArray++Builtin.zeroCells (.int .i64 0:Value).cells (n+m-i)++Builtin.zeroCells (.int .i64 0:Value).cells (G-(n+m)):=⟨_,rfl⟩
 rw[<-hG]at um |-
 rw[<-sk]at um |-
 have ZT:n+m<=ROW.size:=by
  rw[sk]
  simp[Builtin.zeroCells,Value.cells]
  omega
 obtain⟨W1,iG⟩:∃ W1,W1=w.drew.alloc (.cells ROW 3):=⟨_,rfl⟩
 rw[<-iG]at um
 have hN:∀ j,j<n+m->(W1.cell? ⟨w.heap.size,j,none⟩).isSome=true:=fun j hj=>by
  rw[iG,World.cell?_alloc_at (w:=w.drew) ROW _ w.heap.size j rfl,Array.getElem?_eq_getElem (by omega)];rfl
 have MJ:∀ j,W1.frozen? ⟨w.heap.size,j,none⟩=false:=fun j=>by rw[iG];exact World.frozen?_alloc_at (w:=w.drew) ROW _ w.heap.size j rfl
 have wZ:∀ j v,w.cell? ⟨b,j,none⟩=some v->W1.cell? ⟨b,j,none⟩=some v:=fun j v h=>by rw[iG,World.cell?_alloc_past (w:=w.drew) _ b j MB];exact h
 have ZY:∀ j v,w.cell? ⟨vb,j,none⟩=some v->W1.cell? ⟨vb,j,none⟩=some v:=fun j v h=>by rw[iG,World.cell?_alloc_past (w:=w.drew) _ vb j Yb];exact h
 have wC:Nat.min m (n+m-i)=m:=by simp only[Nat.min_def];split<;>omega
 have wD:Nat.min (n-i) (n+m-(i+m))=n-i:=by simp only[Nat.min_def];split<;>omega
 have Zr:∀ (W:World),(∀ x,W.cell? x=W1.cell? x)->(∀ x,W.frozen? x=W1.frozen? x)->∀ ty dc,(Builtin.copy_ #[34,34] ty #[.slice (some ⟨w.heap.size,i,none⟩) (n+m-i) dc,.slice (some ⟨vb,fA,none⟩) m vc]).run Tryd.prog W=.ok (goInt m) (W.setCells w.heap.size (i) vs):=fun W qh wW ty dc=>by
  have h:=yh (P:=Tryd.prog) 1 W 34 34 ty 3 w.heap.size (i) (n+m-i) dc ⟨vb,fA,none⟩ m vc vs Tryd.underlying34 Tryd.sizeOf3 (by rw[wC,Du];omega)
   (fun j v hj=>by rw[Addr.add_lit,qh];exact ZY _ v (rR j v hj))
   (fun j hj=>by rw[qh];exact hN _ (by omega)) (fun j hj=>by rw[wW];exact MJ _) E0
  rw[wC]at h
  exact h
 have hGn:n+m<=G:=by rw[hG];exact grownCap_ge w _ _ _
 have agE:G<=9223372036854775807:=by
  have :=grownCap_le_maxLen w (n+m) c 3 (by unfold maxLen;omega)
  rw[<-hG]at this
  unfold maxLen at this
  omega
 have hGi:¬ (G=i):=by omega
 have agD:¬ (G=i+m):=by omega
 have Mx:¬ (c=i):=by omega
 have ZD:b≠w.heap.size:=by omega
 have uC:(cs.drop (i)).length=n-i:=by rw[List.length_drop,bS];try omega
 have Mu:∀ (W:World),(∀ x,W.cell? x=(W1.setCells w.heap.size (i) vs).cell? x)->(∀ x,W.frozen? x=(W1.setCells w.heap.size (i) vs).frozen? x)->∀ ty dc sc,(Builtin.copy_ #[34,34] ty #[.slice (some ⟨w.heap.size,(i+m),none⟩) (n+m-(i+m)) dc,.slice (some ⟨b,off+i,none⟩) (n-i) sc]).run Tryd.prog W=.ok (goInt (n-i:Nat)) (W.setCells w.heap.size ((i+m)) (cs.drop (i))):=fun W qh wW ty dc sc=>by
  have h:=yh (P:=Tryd.prog) 1 W 34 34 ty 3 w.heap.size ((i+m)) (n+m-(i+m)) dc ⟨b,off+i,none⟩ (n-i) sc (cs.drop (i)) Tryd.underlying34 Tryd.sizeOf3 (by rw[uC,wD];omega)
   (fun j v hj=>by
     rw[Addr.add_lit,qh,World.cell?_setCells_out _ _ _ _ _ (fun h _=>absurd h ZD),Nat.add_assoc]
     exact wZ _ v (iA (i+j) v (by rwa [List.getElem?_drop]at hj)))
   (fun j hj=>by rw[qh];exact isSome_setCells _ _ _ _ (fun t ht=>hN _ (by omega)) _ (hN _ (by omega)))
   (fun j hj=>by rw[wW,World.frozen?_setCells];exact MJ _) (fun v hv=>w7 v (List.mem_of_mem_drop hv))
  rw[wD]at h
  exact h
 subst iG
 have Al:∀ x,((w.alloc (.cells ROW 3)).drew).cell? x=(w.drew.alloc (.cells ROW 3)).cell? x:=fun x=>rfl
 have hE2:∀ x,((w.alloc (.cells ROW 3)).drew).frozen? x=(w.drew.alloc (.cells ROW 3)).frozen? x:=fun x=>rfl
 have hF1:∀ x,(((w.alloc (.cells ROW 3)).drew.setCells w.heap.size (i) vs).drew).cell? x=((w.drew.alloc (.cells ROW 3)).setCells w.heap.size (i) vs).cell? x:=fun x=>rfl
 have hF2:∀ x,(((w.alloc (.cells ROW 3)).drew.setCells w.heap.size (i) vs).drew).frozen? x=((w.drew.alloc (.cells ROW 3)).setCells w.heap.size (i) vs).frozen? x:=fun x=>rfl
 have eP:IntKind.i64.wrap ((i:Int)+(m:Int))=(i:Int)+(m:Int):=by rw[IntKind.wrap_i64];omega
 have fF:(0:Int)<=(i:Int)+(m:Int):=by omega
 have dH:i<=n:=by omega
 have Ye:((i:Int)+(m:Int)).toNat=i+m:=by omega
 have Ai:(i:Int)<=(n:Int):=by omega
 clear zV wL hold sk hG ZT
 go_enter Tryd.func74,Tryd.ntmps74
 go_wp2_with (first
  |(at_builtin;refine Lib.wpList_append_run _ rfl _ _ _ _ rfl _ _ rfl rfl _ _ (um _) ?_)
  |(at_builtin;refine wpList_copy_runI _ rfl _ _ 34 34 rfl _ _ rfl rfl (Zr _ Al hE2 _ _) ?_)
  |(at_builtin;refine wpList_copy_runI _ rfl _ _ 34 34 rfl _ _ rfl rfl (Mu _ (fun _=>rfl) (fun _=>rfl) _ _ _) ?_))
 go_region_law_o (refine step_copy_runI rfl _ _ 34 34 rfl (.slice (some ⟨w.heap.size,(i+m),none⟩) (n+m-(i+m)) (G-(i+m))) (.slice (some ⟨b,off+i,none⟩) (n-i) (c-i)) (by simp[Act.eval,Act.put]) (by simp[Act.eval,Act.put]) (Mu _ hF1 hF2 3 (G-(i+m)) (c-i)) ?_)
 go_wp2
 go_ret
 exact⟨rfl,rfl⟩
set_option maxHeartbeats 4000000 in
set_option maxRecDepth 100000 in
theorem XJ(base:Option Addr)(n c vb fA m vc:Nat)(w:World)(v':Value)(w':World)(hm:0<m)(hn:n<=c)(MA:c<=9223372036854775807)
 (cl:∀ ty,(Builtin.append_ #[34,34] ty #[.slice base n c,.slice (some ⟨vb,fA,none⟩) m vc]).run Tryd.prog w=.ok v' w'):
 Calls Tryd.prog 74 #[.slice base n c,.int .i64 n,.slice (some ⟨vb,fA,none⟩) m vc] w fun e w1=>e=.returned v'/\w1=w':=by
 have mixed:Tryd.prog.follows Departure.mixedOrders=true:=by kernel_rfl
 have jj:¬ ((m:Int)=0):=by omega
 go_enter Tryd.func74,Tryd.ntmps74
 cases base with
 |none=>
  go_wp2_with (at_builtin;refine Lib.wpList_append_run _ rfl _ _ _ _ rfl _ _ rfl rfl _ _ (cl _) ?_)
  all_goals (go_ret;exact⟨rfl,rfl⟩)
 |some a=>
  obtain⟨ab,ao,asp⟩:=a
  go_wp2_with (at_builtin;refine Lib.wpList_append_run _ rfl _ _ _ _ rfl _ _ rfl rfl _ _ (cl _) ?_)
  all_goals (go_ret;exact⟨rfl,rfl⟩)
open Go Go.Proofs
theorem XL:Qk Tryd.prog 74 34 3 1 8 (.int .i64 0):=
 ⟨by kernel_rfl,by kernel_rfl,by kernel_rfl,by decide,oe _ (by decide),js Tryd.func74 (by rfl) (by kernel_rfl),
   by simpa only[Nat.mul_one]using @XI,by simpa only[Nat.mul_one]using @XK,XJ⟩
noncomputable def S103:Spec:=vX Tryd.prog 34
theorem Xr:an Tryd.prog 74 S103:=XC XL
theorem Pw{p q:Prop}{d:D}{o:Name->Option O}(h:p=q):(⟨p,d,o⟩:R)=⟨q,d,o⟩:=by rw[h]
theorem XD{obj:Name->Option O}{nm t:Name}{l:List Int}{x:Int}(h:obj nm=some (.arr 1 (l.map vInt)))(hl:l.length<=1000):
 S103.app obj t [.msl nm l.length,.v (vInt (cQ l x)),.v (.sl [vInt x])]=⟨True,.msl nm (l.length+1),upd obj nm (some (.arr 1 ((cE l x).map vInt)))⟩:=by
 have r9:=CK l x
 have hm:l.length+1<=maxLen:=by unfold maxLen;omega
 have uG:cD Tryd.prog obj t 34 34 (.msl nm l.length) (.v (.sl [vInt x]))=⟨True,.msl nm (l.length+1),upd obj nm (some (.arr 1 (l.map vInt++[vInt x])))⟩:=by
  simp only[cD,Re,Q2,ax,h]
  have dI:∀ y∈[vInt x],y.cells.length=1/\y.okc=true:=by
   intro y hy
   simp only[List.mem_cons,List.not_mem_nil,or_false]at hy
   subst hy
   exact⟨rfl,rfl⟩
  simp only[List.length_map,List.length_cons,List.length_nil,Nat.zero_add]
  congr 1
  simp only[eq_iff_iff,iff_true]
  refine⟨trivial,?_⟩
  repeat' apply And.intro
  all_goals first | trivial | exact dI | rfl | omega
 show sR Tryd.prog obj t 34 (.msl nm l.length) (.v (vInt (cQ l x))) (.v (.sl [vInt x]))=_
 unfold sR
 simp only[h,uG,Int.toNat_natCast,List.length_map]
 cases hb:Nat.beq (cQ l x) l.length with
 |true=>
  have he:cQ l x=l.length:=Nat.eq_of_beq_eq_true hb
  simp only
  have hi:(cE l x).map vInt=l.map vInt++[vInt x]:=by
   unfold cE
   rw[he,List.take_length,List.drop_length,List.append_nil,List.map_append];rfl
  rw[hi]
  exact Pw (eq_true ⟨trivial,Int.natCast_nonneg _,by simp⟩)
 |false=>
  have he:cQ l x≠l.length:=fun e=>by rw[e,Nat.beq_refl]at hb;cases hb
  simp only
  have hi:(cE l x).map vInt=(l.map vInt).take (cQ l x)++[vInt x]++(l.map vInt).drop (cQ l x):=by
   unfold cE
   rw[List.map_append,List.map_append,List.map_take,List.map_drop];rfl
  rw[hi]
  exact Pw (eq_true ⟨trivial,Int.natCast_nonneg _,by omega,by simp⟩)
def jF(l:List Int)(x:Int):List Int:=if bB l x=true then l else cE l x
theorem Cf{l:List Int}{x:Int}(h:bB l x=true):jF l x=l:=if_pos h
theorem Cg{l:List Int}{x:Int}(h:bB l x=false):jF l x=cE l x:=if_neg (by rw[h];decide)
noncomputable def putC:CSpec where
 pre:=fun os ds=>∃ (l:List Int) (x:Int),os=[.arr 1 (l.map vInt)]/\ds=[.msl [0,1] l.length,.v (vInt x)]/\l.Pairwise (· < ·)/\l.length<=1000
 out:=fun os ds=>match os,ds with
  |[.arr _ L],[_,.v x]=>⟨[(0,.arr 1 ((jF (L.map dj) (dj x)).map vInt))],[],.tup [.msl [0,1] (jF (L.map dj) (dj x)).length,.v (.bool (!bB (L.map dj) (dj x)))]⟩
  |_,_=>⟨[],[],.any⟩
noncomputable def rp(obj:Name->Option O)(_:Name):List D->R
 |[.msl nm k,.v x]=>match obj nm with
  |some (.arr 1 L)=>⟨k=L.length/\(L.map dj).map vInt=L/\vInt (dj x)=x/\(L.map dj).Pairwise (· < ·)/\L.length<=1000,.tup [.msl nm (jF (L.map dj) (dj x)).length,.v (.bool (!bB (L.map dj) (dj x)))],upd obj nm (some (.arr 1 ((jF (L.map dj) (dj x)).map vInt)))⟩
  |_=>.bad obj
 |_=>.bad obj
noncomputable def S67:Spec:=⟨rp,qt,qt⟩
attribute [go_sem] S67 rp
theorem TM:S67.Near:=by
 refine CD fun obj obj2 t ds ha=>⟨rfl,?_⟩
 have eE:∀ wr,bq wr obj obj2->bD (R.bad obj) (R.bad obj2) obj obj2 wr:=fun wr h=>.none wr h
 unfold rp
 split
 ·rename_i nm k x
  have h1:obj2 nm=obj nm:=ha nm (by simp[qt])
  simp only[h1]
  split
  ·exact .one (by simp[qt]) ha
  ·exact eE _ ha
 ·exact eE _ ha
noncomputable def PW:List (Nat×Spec):=[(42,S52),(74,S103)]
attribute [go_sem] PW
theorem ac4:∀ f s,tbl PW f=some s->an Tryd.prog f s:=tc KY<|tc Xr<|tn
set_option maxHeartbeats 4000000 in
theorem WV:an Tryd.prog 51 putC.toSpec:=by
 refine o6 (nt:=21) (rs:=[.tmp 4,.tmp 5]) Tryd.func51 rfl (by rfl) (by kernel_rfl) (js Tryd.func51 rfl (by kernel_rfl)) (oe _ (by decide)) ?_
 rintro os ds ⟨l,x,rfl,rfl,hs,hl⟩
 refine⟨lb rfl,lF ?_⟩
 have gi:putC.out [.arr 1 (l.map vInt)] [.msl [0,1] l.length,.v (vInt x)]=⟨[(0,.arr 1 ((jF l x).map vInt))],[],.tup [.msl [0,1] (jF l x).length,.v (.bool (!bB l x))]⟩:=by
  simp only[putC,NR,dj]
 rw[gi]
 have hΓ:=ac4
 obtain⟨H,hH,h0,hO,gG⟩:=T6 1 (l.map vInt)
 rw[<-hH]
 clear hH gi
 have E2:∀ (F:Name->Option O) (t:Name),S103.app (fun nm=>if own [0] nm=true then F nm else H nm) t [.msl [0,1] l.length,.v (vInt (cQ l x)),.v (.sl [vInt x])]=⟨True,.msl [0,1] (l.length+1),upd (fun nm=>if own [0] nm=true then F nm else H nm) [0,1] (some (.arr 1 ((cE l x).map vInt)))⟩:=fun F t=>XD (by rw[<-h0];rfl) hl
 have wE:=XF l x
 simp only[fH,Nat.zero_add]
 repeat refine sq ?_
 refine rx hΓ [0,1] [] (fun K' hK=>by simp only[go_sem,hO,gG,h0];(repeat (refine⟨ah,?_⟩));exact hK _ (by simp only[go_sem,hO,gG,h0]) (by simp only[go_sem,hO,gG,h0]<;>rfl)) ?_
 repeat refine sq ?_
 refine rx hΓ [0,1,6,7] [] (fun K' hK=>by simp only[go_sem,hO,gG,h0,hs,List.length_map];(repeat (refine⟨ah,?_⟩));exact hK _ (by simp only[go_sem,hO,gG,h0,hs,List.length_map]) (by simp only[go_sem,hO,gG,h0,hs,List.length_map]<;>rfl)) ?_
 repeat refine sq ?_
 refine rx hΓ [0,1,6,14] [] (fun K' hK=>by simp only[go_sem,hO,gG,h0];(repeat (refine⟨ah,?_⟩));exact hK _ (by simp only[go_sem,hO,gG,h0]) (by simp only[go_sem,hO,gG,h0]<;>rfl)) ?_
 repeat refine sq ?_
 refine aw rfl rfl (fun hb=>?_) (fun hb=>?_)
 ·repeat refine sq ?_
  have hr:=Cf hb
  rw[hr,hb]
  repeat refine sq ?_
  refine rx hΓ [4,5] [] (fun K' hK=>by simp only[go_sem,hO,gG,h0];(repeat (refine⟨ah,?_⟩));exact hK _ (by simp only[go_sem,hO,gG,h0]) (by simp only[go_sem,hO,gG,h0]<;>rfl)) ?_
  refine av ?_
  simp only[go_sem,hO,gG,h0]
  skip
 ·repeat refine sq ?_
  have hr:=Cg hb
  rw[hr,hb,wE]
  refine aA ?_
  repeat refine sq ?_
  refine rx hΓ [4,5] [] (fun K' hK=>by simp only[go_sem,hO,gG,h0,E2];(repeat (refine⟨ah,?_⟩));exact hK _ (by simp only[go_sem,hO,gG,h0,E2]) (by simp only[go_sem,hO,gG,h0,E2]<;>rfl)) ?_
  refine av ?_
  simp only[go_sem,hO,gG,h0]
  skip
theorem WW:an Tryd.prog 51 S67:=by
 refine BK WV TM (oe _ (by decide)) fun obj t ds aa=>?_
 change (rp obj t ds).ok at aa
 refine⟨ds,rfl,fun _ _ _ _ h=>h,?_⟩
 show _/\_=(rp obj t ds).d/\_=(rp obj t ds).obj
 unfold rp at aa |-
 split at aa
 ·rename_i nm k x
  split at aa
  ·rename_i L ho
   obtain⟨rfl,he,hx,hs,hl⟩:=aa
   have hr:reach obj [.msl nm L.length,.v x]=[nm]:=by
    unfold reach
    show dQ obj (2998+1+1) [nm] []=[nm]
    simp only[dQ,cK,List.any_nil,Bool.false_eq_true,if_false,ho,nl,List.nil_append]
   have i0:idx [nm] nm=0:=by simp[idx]
   have e1:cv obj [.msl nm L.length,.v x]=[.arr 1 L]:=by
    unfold cv
    rw[hr]
    simp only[List.map_cons,List.map_nil,cr,ho,O.ren]
   have e2:cO obj [.msl nm L.length,.v x]=[.msl [0,1] L.length,.v x]:=by
    unfold cO
    rw[hr]
    simp only[D.renL,D.ren,cin,i0]
   have e3:(shut obj [nm]&&D.closL (cK [nm]) [.msl nm L.length,.v x]&&fresh obj t [])=true:=by
    simp[shut,ho,O.clos,D.closL,D.clos,cK,fresh]
   have cL:putC.pre [.arr 1 L] [.msl [0,1] L.length,.v x]:=⟨L.map dj,dj x,by rw[he],by rw[List.length_map,hx],hs,by rw[List.length_map];exact hl⟩
   have gi:putC.out [.arr 1 L] [.msl [0,1] L.length,.v x]=⟨[(0,.arr 1 ((jF (L.map dj) (dj x)).map vInt))],[],.tup [.msl [0,1] (jF (L.map dj) (dj x)).length,.v (.bool (!bB (L.map dj) (dj x)))]⟩:=rfl
   have c0:cout [nm] t [0,1]=nm:=rfl
   simp only[CSpec.toSpec,e1,e2,hr,gi,e3,cL,ho,and_self,dd]
   refine⟨trivial,?_,rfl⟩
   simp only[D.ren,D.renL,c0]
  ·exact aa.elim
 ·exact aa.elim
open Go
def Lp.J(r:Lp)(s:Nat):List O:=(if s=r.n then r.fin (LI r.m)else r.rc (LI r.m) .ready none)::r.fam (LI r.m) s
theorem Lp.last_e{r:Lp}(cF:∀ j,j+1<r.n->r.st j=none):r.e=r.n/\(r.n=0->r.pd=none)/\∀ j,j+1=r.n->r.pd=r.st j:=by
 have key:∀ k,r.n=k+1->(List.range r.n).find? (fun s=>(r.st s).isSome)=if (r.st k).isSome=true then some k else none:=by
  intro k hk
  have h0:(List.range k).find? (fun s=>(r.st s).isSome)=none:=List.find?_eq_none.2 fun s hs=>by
   rw[cF s (by have:=List.mem_range.1 hs;omega)];decide
  rw[hk,List.range_succ,List.find?_append,h0,Option.none_or]
  by_cases h:(r.st k).isSome=true
  ·rw[if_pos h];simp[List.find?,h]
  ·rw[if_neg h];simp[List.find?,h]
 cases hn:r.n with
 |zero=>
  have h0:(List.range r.n).find? (fun s=>(r.st s).isSome)=none:=by rw[hn];rfl
  refine⟨?_,fun _=>?_,fun j hj=>by omega⟩
  ·unfold Lp.e;rw[h0];exact hn
  ·unfold Lp.pd;rw[h0]
 |succ k=>
  have h0:=key k hn
  by_cases h:(r.st k).isSome=true
  ·rw[if_pos h]at h0
   refine⟨?_,fun h=>by omega,fun j hj=>?_⟩
   ·unfold Lp.e;rw[h0]
   ·obtain rfl:j=k:=by omega
    unfold Lp.pd;rw[h0]
  ·rw[if_neg h]at h0
   refine⟨?_,fun h=>by omega,fun j hj=>?_⟩
   ·unfold Lp.e;rw[h0];exact hn
   ·obtain rfl:j=k:=by omega
    unfold Lp.pd;rw[h0]
    cases hs:r.st j with
    |none=>rfl
    |some c=>rw[hs]at h;exact absurd rfl h
theorem Lp.J_zero{r:Lp}(cF:∀ j,j+1<r.n->r.st j=none):r.J 0=r.rc (LI r.m) .ready none::r.fam (LI r.m) 0:=by
 unfold Lp.J
 by_cases h:0=r.n
 ·rw[if_pos h]
  unfold Lp.fin
  rw[(Lp.last_e cF).2.1 h.symm]
  rfl
 ·rw[if_neg h]
theorem Lp.J_len{r:Lp}(hr:r.Ok)(s:Nat):(r.J s).length=r.m+1:=by unfold Lp.J;rw[List.length_cons,hr.len _ _ (gL _)]
theorem Lp.J_clos{r:Lp}(hr:r.Ok)(s:Nat):∀ o∈r.J s,∀ dom:Name->Bool,(∀ i,dom [i,1]=true)->O.clos dom o=true:=by
 intro o ho dom hd
 have hU:∀ x∈LI r.m,dom x=true:=fun x hx=>by
  obtain⟨i,_,rfl⟩:=List.mem_map.1 hx
  exact hd _
 rcases List.mem_cons.1 ho with rfl | ho
 ·split
  ·exact hr.closE _ _ (gL _) hU
  ·exact hr.closE _ _ (gL _) hU
 ·exact hr.closF _ _ _ (gL _) hU _ ho
theorem Lp.y_setJ{r:Lp}(hr:r.Ok)(cF:∀ j,j+1<r.n->r.st j=none){s:Nat}(hs:s<r.n)(obj:Name->Option O)(tm:Name)(ho:∀ nm,cJ nm=true->obj nm=a8 (r.J s) nm):
 r.y.toSpec.app obj tm (.yld [0,1]::r.vals s)=⟨True,.v (.bool (r.st s).isNone),jC obj (r.J (s+1))⟩:=by
 have so:(LI r.m).Nodup:=List.Pairwise.map _ (fun a b h=>by simpa using h) List.nodup_range
 have wY:([0,1]:Name)∉LI r.m:=fun h=>by
  obtain⟨i,_,hi⟩:=List.mem_map.1 h
  simp at hi
 have Z8:r.J s=r.rc (LI r.m) .ready none::r.fam (LI r.m) s:=by unfold Lp.J;rw[if_neg (by omega)]
 rw[Z8]at ho
 have h0:obj [0,1]=some (r.rc (LI r.m) .ready none):=by
  rw[ho _ rfl];rfl
 have hF:dE obj (LI r.m) (r.fam (LI r.m) s):=by
  rw[l8]
  refine List.ext_getElem (by rw[List.length_map,List.length_map,gL,hr.len _ _ (gL _)]) fun i h3 h4=>?_
  simp only[List.getElem_map,LI,List.getElem_range]
  rw[ho _ rfl]
  simp only[a8,List.getElem?_cons_succ]
  have h5:i<(r.fam (LI r.m) s).length:=by simpa using h4
  rw[List.getElem?_eq_getElem h5]
  rfl
 have uG:=Lp.y_app hr hs (fun j hj=>cF j (by omega)) (t:=tm) (gL _) so wY h0 hF
 rw[uG]
 have c9:r.rc (LI r.m) (if (r.st s).isNone then .ready else .done) (r.st s)=(if s+1=r.n then r.fin (LI r.m)else r.rc (LI r.m) .ready none):=by
  by_cases h:s+1=r.n
  ·rw[if_pos h]
   unfold Lp.fin
   rw[(Lp.last_e cF).2.2 s h]
  ·rw[if_neg h,cF s (by omega)]
   rfl
 rw[c9]
 congr 1
 funext nm
 have hlen:=hr.len (LI r.m) (s+1) (gL _)
 by_cases hR:nm=[0,1]
 ·subst hR
  rw[aG]
  rfl
 ·rw[aK _ _ _ hR]
  unfold jC
  cases hx:cJ nm with
  |false=>
   rw[yG hx,vz]
   intro gj
   obtain⟨i,_,rfl⟩:=List.mem_map.1 gj
   cases hx
  |true=>
   obtain⟨i,rfl⟩:=vW.1 hx
   have dI:=HI (obj:=obj) (F:=r.fam (LI r.m) (s+1)) so (by rw[gL,hlen])
   match i,hR with
   | 0,hR=>exact(hR rfl).elim
   |i+1,_=>
    simp only[Lp.J,a8,List.getElem?_cons_succ]
    by_cases hi:i<r.m
    ·have h6:=Cy dI i (by rw[gL];exact hi) (by rw[hlen];exact hi)
     simp only[LI,List.getElem_map,List.getElem_range]at h6
     rw[show (r.fam (LI r.m) (s+1))[i]?=some (r.fam (LI r.m) (s+1))[i]from List.getElem?_eq_getElem (by rw[hlen];exact hi)]
     exact h6
    ·rw[List.getElem?_eq_none (by rw[hlen];omega),vz]
     intro gj
     obtain⟨j,sd,Y0⟩:=List.mem_map.1 gj
     have :=List.mem_range.1 sd
     simp at Y0
     omega
theorem Lp.itJ_sound{P:Program}{r:Lp}(hr:r.Ok)(cF:∀ j,j+1<r.n->r.st j=none){dB:List Name->List D}{f:FuncId}{fn:Func}{nt:Nat}(hf:P.funcs[f]?=some fn)(ff:fn.ntmps=nt)(fJ:fn.results.toList=[])(hn:(fn.name== "runtime.NumGoroutine")=false)(hy:f<1000000000)
 (hw:∃ c,fn.body=some c/\(dB (LI r.m)).length+1<=nt/\CL P [c] (aW nt [0] (a8 (r.J 0)) (fH 0 (.yld [0,1]::dB (LI r.m))) []) (fun e σ=>(e=.normal\/e=.ret)/\∀ i,σ.obj [i,1]=a8 (r.J r.n) [i,1])):an P f (r.itC dB).toSpec:=by
 obtain⟨c,hc,hl,hw⟩:=hw
 refine o6 hf hc ff fJ (js hf hc hn) (Nat.ne_of_lt (show f<yid from hy)) ?_
 rintro os ds ⟨rfl,rfl⟩
 rw[Lp.J_zero cF]at hw
 refine⟨by simpa using hl,CW.mono (lF hw) ?_⟩
 rintro e σ ⟨he,fL⟩
 have fin:(bY P σ []).ok/\(bY P σ []).d=.tup []/\ie (r.rc (LI r.m) .ready none::r.fam (LI r.m) 0) ⟨(0,r.fin (LI r.m))::e8 1 (r.fam (LI r.m) r.e),[],.tup []⟩ σ:=by
  refine Lp.it_end hr ?_ ?_
  ·rw[fL]
   unfold Lp.J
   rw[if_pos rfl]
   rfl
  ·rw[(Lp.last_e cF).1,l8]
   refine List.ext_getElem (by rw[List.length_map,List.length_map,gL,hr.len _ _ (gL _)]) fun i h3 h4=>?_
   simp only[List.getElem_map,LI,List.getElem_range]
   rw[fL]
   simp only[Lp.J,a8,List.getElem?_cons_succ]
   have h5:i<(r.fam (LI r.m) r.n).length:=by simpa using h4
   rw[List.getElem?_eq_getElem h5]
   rfl
 rcases he with rfl | rfl
 ·exact fin
 ·exact fin
def bu(e:Dk)(hn:Name)(n:Nat):List D:=(List.map D.v (aq e)).set 1 (.msl hn n)
@[go_sem] theorem abX(e:Dk)(hn:Name)(n:Nat):(bu e hn n).length=63:=tr _ _ _
@[go_sem] theorem xy(dom:Name->Bool)(e:Dk)(hn:Name)(n:Nat):D.closL dom (bu e hn n)=dom hn:=by
  have :=Oe dom (aq e) 1 hn n
  rw[show decide ((aq e).length<=1)=false from rfl,Bool.or_false]at this
  exact this
@[go_sem] theorem OH(f:Name->Name)(e:Dk)(hn:Name)(n:Nat):D.renL f (bu e hn n)=bu e (f hn) n:=B7 _ _ _ _ _
@[go_sem] theorem ahv(e:Dk)(hn:Name)(n:Nat):(bu e hn n).take 63=bu e hn n:=NK _ _ _
@[go_sem] theorem ahu(e:Dk)(hn:Name)(n:Nat):(bu e hn n).drop 63=[]:=List.drop_of_length_le (by rw[abX];exact Nat.le_refl _)
theorem sO(e:Dk)(hn:Name)(n:Nat){f:Nat}(hf:f<6):(bu e hn n).getD (14+f) .any=.v (vInt (e.now.ta.get f)):=
 jB (P:=fun f=>(bu e hn n).getD (14+f) .any=.v (vInt (e.now.ta.get f))) rfl rfl rfl rfl rfl rfl hf
@[go_sem] theorem aht(e:Dk)(hn:Name)(n:Nat):(bu e hn n).getD 1 .any=.msl hn n:=rfl
@[go_sem] theorem ahs(e:Dk)(hn pY:Name)(n n':Nat):List.take 1 (bu e hn n)++[D.msl pY n']++List.drop 2 (bu e hn n)=bu e pY n':=rfl
theorem abW(e:Dk)(hn:Name)(n:Nat)(x:Int){f:Nat}(hf:f<6):List.take (14+f) (bu e hn n)++[D.v (vInt x)]++List.drop (14+f+1) (bu e hn n)=bu (e.setN ⟨e.now.ho,e.now.un,e.now.se,e.now.ta.set f x⟩) hn n:=
 jB (P:=fun f=>List.take (14+f) (bu e hn n)++[D.v (vInt x)]++List.drop (14+f+1) (bu e hn n)=bu (e.setN ⟨e.now.ho,e.now.un,e.now.se,e.now.ta.set f x⟩) hn n) rfl rfl rfl rfl rfl rfl hf
theorem abY(e:Dk)(hn:Name)(n:Nat):(bu e hn n)[1]?=some (.msl hn n):=rfl
theorem abV(e:Dk)(hn nm:Name)(n k:Nat)(se:Int)(ps:List Par){f:Nat}(hf:f<6)(fe:se=e.now.se.get f):List.take (2+f) (b8 e f (.msl hn n) nm k se)++[D.v (.sl (ps.map encPa))]++List.drop (2+f+1) (b8 e f (.msl hn n) nm k se)=bu (e.setN ⟨e.now.ho,e.now.un.set f ps,e.now.se,e.now.ta⟩) hn n:=by
 subst fe
 rw[tv (by rw[mJ];omega),<-abO e f (.v (jE e.now.ho)) (.msl hn n) nm k (e.now.se.get f),List.set_comm _ _ (show 1≠2+f by omega),OB e _ _ _ _ _ hf,aS.set_self _ _ hf]
 rfl
set_option maxRecDepth 10000 in
theorem yW(e:Dk)(hn:Name)(n:Nat):dS (bu e hn n)=[hn]:=rfl
def mA(x:V)(p:D):List (Name×O):=[([2,0],.box (x.L.map .v)),([3,0],.box [p])]
noncomputable def xc:CSpec where
 pre:=fun os ds=>∃ (b:Bag) (e:Dk) (n off:Nat) (l:List V),os=[.box (bu e [1,1] n),.arr 1 l]/\ds=[.v (.agg (aT b)),.ref [0,1] off]
 out:=fun _ ds=>match ds with
  |[.v x,p]=>⟨[],mA x p,.clo (.func 73) [] [.ref [2,0] 0,.ref [3,0] 0]⟩
  |_=>⟨[],[],.any⟩
noncomputable def S66:Spec:=xc.toSpec
theorem aav{b:Bag}{e:Dk}{n off:Nat}{l:List V}{obj:Name->Option O}{t nm h:Name}(h1:obj nm=some (.box (bu e h n)))(h2:obj h=some (.arr 1 l))(hn:nm≠h):
 S66.app obj t [.v (.agg (aT b)),.ref nm off]=⟨fresh obj t (mA (.agg (aT b)) (.ref nm off))=true,.clo (.func 73) [] [.ref ([2,0]++t) 0,.ref ([3,0]++t) 0],upd (upd obj ([2,0]++t) (some (.box ((aT b).map .v)))) ([3,0]++t) (some (.box [.ref nm off]))⟩:=by
 have hr:reach obj [.v (.agg (aT b)),.ref nm off]=[nm,h]:=by
  unfold reach
  show dQ obj (2996+1+1+1+1) [nm] []=[nm,h]
  simp[dQ,iw,h1,h2,nl,yW,Ne.symm hn]
 have i0:idx [nm,h] nm=0:=by simp[idx]
 have i1:idx [nm,h] h=1:=by simp[idx,hn]
 have e1:cv obj [.v (.agg (aT b)),.ref nm off]=[.box (bu e [1,1] n),.arr 1 l]:=by
  unfold cv
  rw[hr]
  simp only[List.map_cons,List.map_nil,cr,h1,h2,O.ren,OH,cin,i1]
 have e2:cO obj [.v (.agg (aT b)),.ref nm off]=[.v (.agg (aT b)),.ref [0,1] off]:=by
  unfold cO
  rw[hr]
  simp only[D.renL,D.ren,cin,i0]
 have gA:shut obj [nm,h]=true:=by simp[shut,h1,h2,O.clos,xy,cK]
 have bS:D.closL (cK [nm,h]) [.v (.agg (aT b)),.ref nm off]=true:=by simp[D.closL,D.clos,cK]
 have hp:xc.pre [.box (bu e [1,1] n),.arr 1 l] [.v (.agg (aT b)),.ref [0,1] off]:=⟨b,e,n,off,l,rfl,rfl⟩
 have gi:xc.out [.box (bu e [1,1] n),.arr 1 l] [.v (.agg (aT b)),.ref [0,1] off]=⟨[],mA (.agg (aT b)) (.ref [0,1] off),.clo (.func 73) [] [.ref [2,0] 0,.ref [3,0] 0]⟩:=rfl
 have c1:cout [nm,h] t [2,0]=[2,0]++t:=rfl
 have c2:cout [nm,h] t [3,0]=[3,0]++t:=rfl
 have c3:cout [nm,h] t [0,1]=nm:=rfl
 have cp:fresh obj t (mA (.agg (aT b)) (.ref [0,1] off))=fresh obj t (mA (.agg (aT b)) (.ref nm off)):=rfl
 simp only[S66,CSpec.toSpec,e1,e2,hr,gA,bS,Bool.true_and,hp,and_true,gi,cj,cp]
 simp only[D.ren,D.renL,c1,c2,mA,dd,O.ren,V.L,tG,c3]
attribute [go_sem] mA V.L
set_option maxHeartbeats 4000000 in
theorem WX:an Tryd.prog 50 S66:=by
 refine o6 (nt:=6) (rs:=[.tmp 4]) Tryd.func50 rfl (by rfl) (by kernel_rfl) (js Tryd.func50 rfl (by kernel_rfl)) (oe _ (by decide)) ?_
 rintro os ds ⟨b,e,n,off,l,rfl,rfl⟩
 refine⟨lb rfl,lF ?_⟩
 have gi:xc.out [.box (bu e [1,1] n),.arr 1 l] [.v (.agg (aT b)),.ref [0,1] off]=⟨[],mA (.agg (aT b)) (.ref [0,1] off),.clo (.func 73) [] [.ref [2,0] 0,.ref [3,0] 0]⟩:=rfl
 rw[gi]
 have hΓ:=@nk Tryd.prog
 have hO:∀ hs,bU [0] (bL [0] hs) (a8 [.box (bu e [1,1] n),.arr 1 l])=True:=fun hs=>eq_true (vK (by
  intro o ho dom hd
  simp only[List.mem_cons,List.not_mem_nil,or_false]at ho
  rcases ho with rfl | rfl
  ·simp only[O.clos,xy];exact hd 1
  ·rfl) hs)
 have h0:a8 [.box (bu e [1,1] n),.arr 1 l] [0,1]=some (.box (bu e [1,1] n)):=rfl
 have h1:a8 [.box (bu e [1,1] n),.arr 1 l] [1,1]=some (.arr 1 l):=rfl
 generalize a8 [.box (bu e [1,1] n),.arr 1 l]=H at *
 simp only[fH,Nat.zero_add]
 repeat refine sq ?_
 refine rx hΓ [2,3] [[2,0],[3,0]] (fun K' hK=>by simp only[go_sem,hO,h0,h1];(repeat (refine⟨ah,?_⟩));exact hK _ (by simp only[go_sem,hO,h0,h1]) (by simp only[go_sem,hO,h0,h1]<;>rfl)) ?_
 repeat refine sq ?_
 refine rx hΓ [4] [[2,0],[3,0]] (fun K' hK=>by simp only[go_sem,hO,h0,h1];(repeat (refine⟨ah,?_⟩));exact hK _ (by simp only[go_sem,hO,h0,h1]) (by simp only[go_sem,hO,h0,h1]<;>rfl)) ?_
 refine av ?_
 simp only[go_sem,hO,h0,h1]
 skip
abbrev oT (d:Dk) (b:Bag) (z:Nat):Stk:=bO b.fr.toNat b.ps (bP d b) z
abbrev oE (d:Dk) (b:Bag) (z:Nat):Int:=eh b.fr.toNat b.ps (bP d b) z
structure lU (d:Dk) (b:Bag) (k0 m n:Nat) (er:Int):Prop where
 hk:k0+m<=b.ps.length
 hn:(er=0/\n=m/\k0+m=b.ps.length)\/(er≠0/\n=m+1/\k0+m<b.ps.length)
 pre:∀ i (h:i<b.ps.length),i<k0->eg b.fr.toNat (bP d b) b.ps[i]=false
 T0:∀ i,i<=k0->oT d b i=bP d b
 good:∀ j,j<m->∀ h:k0+j<b.ps.length,eg b.fr.toNat (oT d b (k0+j)) b.ps[k0+j]=true/\eJ b.fr.toNat (oT d b (k0+j)) b.ps[k0+j]=0
 bad:er≠0->∀ h:k0+m<b.ps.length,eg b.fr.toNat (oT d b (k0+m)) b.ps[k0+m]=true/\eJ b.fr.toNat (oT d b (k0+m)) b.ps[k0+m]=er
 er0:∀ z,z<=k0+m->oE d b z=0
theorem Cl{l:List Par}(h:cw l=true):∀ i (hi:i<l.length),l[i].no=(l.getD 0 default).no+i:=by
 unfold cw at h
 rw[Bool.and_eq_true,gJ]at h
 intro i hi
 induction i with
 |zero=>rw[getD_at hi];simp
 |succ i ih=>
  have :=h.1 (i+1) hi
  unfold fW at this
  simp only[Bool.and_eq_true,Bool.or_eq_true,beq_iff_eq,Nat.add_sub_cancel]at this
  rw[getD_at (show i<l.length by omega),getD_at hi]at this
  have h2:=ih (by omega)
  rcases this.2 with h3 | h3
  ·omega
  ·omega
theorem T9{d:Dk}{b:Bag}(hb:fR b=true):∃ k0 m n er,lU d b k0 m n er:=by
 obtain⟨_,_,hf,_,_,_,_⟩:=sP hb
 have pV:cw b.ps=true:=by unfold fR at hb;simp only[Bool.and_eq_true]at hb;exact hb.1.2
 have eE:=Cl pV
 obtain⟨f,z1⟩:∃ f,f=b.fr.toNat:=⟨_,rfl⟩
 obtain⟨k0,Eg⟩:∃ k0,k0=b.ps.findIdx (fun p=>eg b.fr.toNat (bP d b) p):=⟨_,rfl⟩
 have sb:k0<=b.ps.length:=by rw[Eg];exact List.findIdx_le_length
 have cL:∀ i (h:i<b.ps.length),i<k0->eg b.fr.toNat (bP d b) b.ps[i]=false:=fun i h hi=>by
  have :=List.not_of_lt_findIdx (p:=fun p=>eg b.fr.toNat (bP d b) p) (xs:=b.ps) (by rw[<-Eg];exact hi)
  simpa using this
 have jR:∀ h:k0<b.ps.length,eg b.fr.toNat (bP d b) b.ps[k0]=true:=fun h=>by
  subst Eg
  exact List.findIdx_getElem (w:=h)
 have EN:∀ i,i<=k0->oT d b i=bP d b:=by
  intro i hi
  induction i with
  |zero=>rfl
  |succ i ih=>
   have h1:=ih (by omega)
   have h2:=RD b.fr.toNat b.ps (bP d b) (i:=i) (by omega) (by rw[show bO b.fr.toNat b.ps (bP d b) i=bP d b from h1];exact cL i (by omega) (by omega))
   exact h2.trans h1
 have MP:∀ i,i<=k0->oE d b i=0:=by
  intro i hi
  induction i with
  |zero=>rfl
  |succ i ih=>
   refine Nw (by omega) (ih (by omega)) (IL _ _ _ ?_)
   have h1:=EN i (by omega)
   rw[show bO b.fr.toNat b.ps (bP d b) i=bP d b from h1]
   exact cL i (by omega) (by omega)
 have oM:∀ j,k0+j<=b.ps.length->(∀ i,i<j->∀ h:k0+i<b.ps.length,eJ b.fr.toNat (oT d b (k0+i)) b.ps[k0+i]=0)->
     (oT d b (k0+j)).ta.get b.fr.toNat=(bP d b).ta.get b.fr.toNat+j/\oE d b (k0+j)=0/\∀ h:k0+j<b.ps.length,eg b.fr.toNat (oT d b (k0+j)) b.ps[k0+j]=true:=by
  intro j
  have zQ:∀ j,(oT d b (k0+j)).ta.get b.fr.toNat=(bP d b).ta.get b.fr.toNat+j->∀ h:k0+j<b.ps.length,eg b.fr.toNat (oT d b (k0+j)) b.ps[k0+j]=true:=by
   intro j ht h
   have h1:=jR (by omega)
   unfold eg at h1 |-
   rw[beq_iff_eq]at h1 |-
   rw[ht]
   have h2:=eE k0 (by omega)
   have h3:=eE (k0+j) h
   omega
  induction j with
  |zero=>
   intro _ _
   have h1:oT d b (k0+0)=bP d b:=EN k0 (Nat.le_refl _)
   refine⟨by rw[h1];simp,MP k0 (Nat.le_refl _),zQ 0 (by rw[h1];simp)⟩
  |succ j ih=>
   intro hj hg
   obtain⟨h1,h2,h3⟩:=ih (by omega) (fun i hi h=>hg i (by omega) h)
   have ae:k0+j<b.ps.length:=by omega
   have h4:=Hr b.fr.toNat b.ps (bP d b) ae (h3 ae)
   have h5:(oT d b (k0+(j+1))).ta.get b.fr.toNat=(bP d b).ta.get b.fr.toNat+((j+1:Nat):Int):=by
    have h6:oT d b (k0+(j+1))=_:=h4
    rw[h6]
    show ((oT d b (k0+j)).ta.set b.fr.toNat ((oT d b (k0+j)).ta.get b.fr.toNat+1)).get b.fr.toNat=_
    rw[((oT d b (k0+j)).ta.get_set (i:=b.fr.toNat) (j:=b.fr.toNat) _ hf).1,h1]
    omega
   exact⟨h5,Nw ae h2 (hg j (by omega) ae),zQ (j+1) h5⟩
 have fin:∀ m n er,k0+m<=b.ps.length->((er=0/\n=m/\k0+m=b.ps.length)\/(er≠0/\n=m+1/\k0+m<b.ps.length))->
     (∀ i,i<m->∀ h:k0+i<b.ps.length,eJ b.fr.toNat (oT d b (k0+i)) b.ps[k0+i]=0)->(er≠0->∀ h:k0+m<b.ps.length,eJ b.fr.toNat (oT d b (k0+m)) b.ps[k0+m]=er)->lU d b k0 m n er:=by
  intro m n er h1 h2 h3 h4
  refine⟨h1,h2,cL,EN,fun j hj h=>⟨(oM j (by omega) (fun i hi h=>h3 i (by omega) h)).2.2 h,h3 j hj h⟩,fun he h=>⟨(oM m h1 h3).2.2 h,h4 he h⟩,fun z hz=>?_⟩
  rcases Nat.lt_or_ge z k0 with h5 | h5
  ·exact MP z (by omega)
  ·have:=(oM (z-k0) (by omega) (fun i hi h=>h3 i (by omega) h)).2.1
   rwa [show k0+(z-k0)=z by omega]at this
 have go:∀ r j,k0+j+r=b.ps.length->(∀ i,i<j->∀ h:k0+i<b.ps.length,eJ b.fr.toNat (oT d b (k0+i)) b.ps[k0+i]=0)->∃ m n er,lU d b k0 m n er:=by
  intro r
  induction r with
  |zero=>intro j hj hg;exact⟨j,j,0,fin j j 0 (by omega) (.inl ⟨rfl,rfl,by omega⟩) hg (fun h=>absurd rfl h)⟩
  |succ r ih=>
   intro j hj hg
   have ae:k0+j<b.ps.length:=by omega
   by_cases he:eJ b.fr.toNat (oT d b (k0+j)) b.ps[k0+j]=0
   ·refine ih (j+1) (by omega) fun i hi h=>?_
    rcases Nat.lt_succ_iff_lt_or_eq.1 hi with h5 | h5
    ·exact hg i h5 h
    ·subst h5;exact he
   ·exact⟨j,j+1,_,fin j (j+1) _ (by omega) (.inr ⟨he,rfl,ae⟩) hg (fun _ _=>rfl)⟩
 obtain⟨m,n,er,h⟩:=go (b.ps.length-k0) 0 (by omega) (fun i hi=>by omega)
 exact⟨k0,m,n,er,h⟩
end Go.Eng
set_option linter.constructorNameAsVariable false
namespace Go.Eng
open Go Go.Proofs
def PT(e:Int):List Par->Prop
 |[]=>True
 |p::r=>p.no+(r.length:Int)=e/\(1<=p.no/\p.no<=99999/\1<=p.pa/\p.pa<=999)/\PT e r
theorem xM{e:Int}:∀ {l:List Par},PT e l↔∀ i (h:i<l.length),l[i].no+(l.length:Int)=e+1+(i:Int)/\(1<=l[i].no/\l[i].no<=99999/\1<=l[i].pa/\l[i].pa<=999)
 |[]=>⟨fun _ i h=>by simp at h,fun _=>trivial⟩
 |p::r=>by
  show (_/\_/\PT e r)↔_
  rw[xM (l:=r)]
  constructor
  ·rintro⟨h1,h2,h3⟩ i hi
   cases i with
   |zero=>exact⟨by simp only[List.getElem_cons_zero,List.length_cons];omega,h2⟩
   |succ i=>
    have :=h3 i (by simpa using hi)
    simp only[List.getElem_cons_succ,List.length_cons]
    exact⟨by omega,this.2⟩
  ·intro h
   refine⟨?_,(h 0 (by simp)).2,fun i hi=>?_⟩
   ·have:=(h 0 (by simp)).1
    simp only[List.getElem_cons_zero,List.length_cons]at this
    omega
   ·have:=h (i+1) (by simpa using hi)
    simp only[List.getElem_cons_succ,List.length_cons]at this
    exact⟨by omega,this.2⟩
theorem Py{e:Int}{q:Par}:∀ {l:List Par},PT e l->q.no=e+1->(1<=q.no/\q.no<=99999/\1<=q.pa/\q.pa<=999)->PT (e+1) (l++[q])
 |[],_,h1,h2=>⟨by show q.no+0=e+1;omega,h2,trivial⟩
 |p::r,h,h1,h2=>⟨by have:=h.1;show p.no+((r++[q]).length:Int)=e+1;rw[List.length_append];simp only[List.length_cons,List.length_nil];omega,h.2.1,Py h.2.2 h1 h2⟩
theorem Px{e ta:Int}:∀ {l:List Par},PT e l->PT e (l.filter fun p=>decide (p.no>ta))
 |[],_=>trivial
 |p::r,h=>by
  by_cases hp:p.no>ta
  ·have dI:r.filter (fun p=>decide (p.no>ta))=r:=by
     rw[List.filter_eq_self]
     intro q hq
     obtain⟨i,hi,rfl⟩:=List.getElem_of_mem hq
     have h1:=(xM.1 h.2.2 i hi).1
     have h2:=h.1
     simp only[gt_iff_lt,decide_eq_true_eq]
     omega
   rw[List.filter_cons_of_pos (by simpa using hp),dI]
   exact h
  ·rw[List.filter_cons_of_neg (by simpa using hp)]
   exact Px h.2.2
theorem Iy{l:List Par}{e:Int}:(cw l&&(l.length==0||(l.getD (l.length-1) default).no==e))=true↔PT e l/\l.length<=40:=by
 rw[Bool.and_eq_true,xM]
 constructor
 ·rintro⟨h,hl⟩
  have eE:=Cl h
  unfold cw at h
  rw[Bool.and_eq_true,decide_eq_true_eq,gJ]at h
  refine⟨fun i hi=>?_,h.2⟩
  have YW:(l.length==0)=false:=by simp;intro h0;subst h0;simp at hi
  rw[YW,Bool.false_or,beq_iff_eq,getD_at (by omega)]at hl
  have h1:=eE i hi
  have h2:=eE (l.length-1) (by omega)
  have :=h.1 i hi
  unfold fW at this
  rw[getD_at hi]at this
  simp only[Bool.and_eq_true]at this
  have a:=cf.1 this.1.1
  have c:=cf.1 this.1.2
  exact⟨by omega,a.1,a.2,c.1,c.2⟩
 ·rintro⟨h,hl⟩
  refine⟨?_,?_⟩
  ·unfold cw
   rw[Bool.and_eq_true,decide_eq_true_eq,gJ]
   refine⟨fun i hi=>?_,hl⟩
   obtain⟨h1,h2,h3,h4,h5⟩:=h i hi
   unfold fW
   rw[getD_at hi]
   simp only[Bool.and_eq_true,Bool.or_eq_true,beq_iff_eq]
   refine⟨⟨cf.2 ⟨h2,h3⟩,cf.2 ⟨h4,h5⟩⟩,?_⟩
   cases i with
   |zero=>exact .inl rfl
   |succ i=>
    have :=(h i (by omega)).1
    rw[show i+1-1=i from rfl,getD_at (by omega)]
    exact .inr (by omega)
  ·simp only[Bool.or_eq_true,beq_iff_eq]
   rcases Nat.eq_zero_or_pos l.length with h0 | h0
   ·exact .inl h0
   ·rw[getD_at (by omega)]
    have :=(h (l.length-1) (by omega)).1
    exact .inr (by omega)
theorem IB{l:List Int}:fX l=true↔l.Pairwise (· < ·)/\(∀ x∈l,1<=x/\x<=999)/\l.length<=40:=by
 constructor
 ·intro h
  refine⟨Cn h,fun x hx=>?_,(tK h).1⟩
  obtain⟨i,hi,rfl⟩:=List.getElem_of_mem hx
  unfold fX at h
  rw[Bool.and_eq_true,gJ]at h
  have :=h.1 i hi
  unfold kL at this
  rw[getD_at hi,Bool.and_eq_true]at this
  exact cf.1 this.1
 ·rintro⟨h1,h2,h3⟩
  unfold fX
  rw[Bool.and_eq_true,decide_eq_true_eq,gJ]
  refine⟨fun i hi=>?_,h3⟩
  unfold kL
  rw[getD_at hi,Bool.and_eq_true]
  refine⟨cf.2 (h2 _ (List.getElem_mem hi)),?_⟩
  cases i with
  |zero=>rfl
  |succ i=>
   rw[show i+1-1=i from rfl,getD_at (show i<l.length by omega)]
   have :=List.pairwise_iff_getElem.1 h1 i (i+1) (by omega) hi (by omega)
   simp[this]
structure e7 (me:Int) (s:Stk):Prop where
 m0:0<=me
 m6:me<6
 ri:s.ho.Pairwise (· < ·)
 rn:∀ x∈s.ho,1<=x/\x<=999
 ln:s.ho.length<=40
 u0:s.un.get me.toNat=[]
 s0:s.se.get me.toNat=0
 t0:s.ta.get me.toNat=0
 se:∀ i,i<6->0<=s.se.get i/\s.se.get i<=99999
 ta:∀ i,i<6->0<=s.ta.get i/\s.ta.get i<=99999
 un:∀ i,i<6->PT (s.se.get i) (s.un.get i)/\(s.un.get i).length<=40
theorem ya{me:Int}{s:Stk}:cZ me s=true↔e7 me s:=by
 have jR:∀ i,gv s i=true↔(0<=s.se.get i/\s.se.get i<=99999)/\(0<=s.ta.get i/\s.ta.get i<=99999)/\PT (s.se.get i) (s.un.get i)/\(s.un.get i).length<=40:=by
  intro i
  rw[<-Iy,<-cf,<-cf]
  unfold gv
  simp only[Bool.and_eq_true,and_assoc]
 unfold cZ
 simp only[Bool.and_eq_true,beq_iff_eq,gJ,List.length_eq_zero_iff]
 rw[IB,cf]
 constructor
 ·rintro⟨⟨⟨⟨⟨h1,h2⟩,h3⟩,h4⟩,h5⟩,h6⟩
  exact⟨h1.1,by omega,h2.1,h2.2.1,h2.2.2,h3,h4,h5,fun i hi=>((jR i).1 (h6 i hi)).1,fun i hi=>((jR i).1 (h6 i hi)).2.1,fun i hi=>((jR i).1 (h6 i hi)).2.2⟩
 ·intro h
  exact⟨⟨⟨⟨⟨⟨h.m0,by have:=h.m6;omega⟩,h.ri,h.rn,h.ln⟩,h.u0⟩,h.s0⟩,h.t0⟩,fun i hi=>(jR i).2 ⟨h.se i hi,h.ta i hi,h.un i hi⟩⟩
end Go.Eng
set_option linter.constructorNameAsVariable false
namespace Go.Eng
open Go Go.Proofs
theorem qW(d:Dk)(s:Stk):∀ k,(d.setN s).pg k=d.pg k
 | 0=>rfl
 |_+1=>rfl
theorem aay(d:Dk)(s:Stk)(i:Nat)(o:Int):fv (d.setN s) i o=fv d i o:=by
 unfold fv
 rw[qW,qW]
 rfl
theorem Nd(d:Dk)(s:Stk):∀ i,b7 (d.setN s) i=b7 d i
 | 0=>rfl
 |i+1=>by
  show (if fv (d.setN s) i (b7 (d.setN s) i)=true then(i:Int)else b7 (d.setN s) i)=if fv d i (b7 d i)=true then(i:Int)else b7 d i
  rw[Nd d s i,aay]
theorem aaD(d:Dk)(s:Stk):bj (d.setN s)=bj d:=Nd d s 2
theorem xf(d:Dk)(s:Stk):aE (d.setN s)=aE d:=by
 unfold aE
 rw[aaD,qW]
theorem QF(d:Dk)(s:Stk):lq (d.setN s)=lq d:=by
 unfold lq
 rw[qW,qW]
 rfl
theorem ju{d:Dk}:ay d=true↔e7 d.me d.now/\(-1<=d.wet/\d.wet<=1)/\lq d=true:=by
 unfold ay iz
 rw[Bool.and_eq_true,Bool.and_eq_true,ya,cf,and_assoc]
theorem FD{d:Dk}{s:Stk}(h:ay d=true)(hs:e7 d.me s):ay (d.setN s)=true:=by
 obtain⟨_,h2,h3⟩:=ju.1 h
 exact ju.2 ⟨hs,h2,by rw[QF];exact h3⟩
theorem e7.sz{me:Int}{s:Stk}(h:e7 me s):kG s:=(vM (ya.2 h)).sz
theorem BF{d:Dk}{s:Stk}{me:Int}(h:dZ d)(hs:e7 me s):dZ (d.setN s):=⟨hs.sz,fun i hi=>by rw[qW];exact h.pg i hi⟩
theorem RS{me:Int}{s:Stk}{p:Int}{j:Nat}(h:e7 me s)(hj:j<6)(aj:me.toNat≠j)(hl:(s.un.get j).length≠40)(fe:s.se.get j≠99999)(hp:1<=p/\p<=999):e7 me (je s p j):=by
 have m0:=h.m0;have m6:=h.m6
 have r7:me.toNat<6:=by omega
 have hu:=h.un j hj
 have hs:=h.se j hj
 refine⟨m0,m6,?_,fun x hx=>h.rn x ?_,?_,?_,?_,h.t0,fun i hi=>?_,h.ta,fun i hi=>?_⟩
 ·show (jT s.ho p s.ho.length).Pairwise (· < ·)
  unfold jT
  rw[List.take_length]
  exact h.ri.sublist List.filter_sublist
 ·have hx:x∈jT s.ho p s.ho.length:=hx
  unfold jT at hx
  rw[List.take_length]at hx
  exact(List.mem_filter.1 hx).1
 ·exact Nat.le_trans (aaF _ _ _) h.ln
 ·show (s.un.set j _).get me.toNat=[]
  rw[(s.un.get_set (i:=j) (j:=me.toNat) _ hj).2 r7 aj]
  exact h.u0
 ·show (s.se.set j _).get me.toNat=0
  rw[(s.se.get_set (i:=j) (j:=me.toNat) _ hj).2 r7 aj]
  exact h.s0
 ·show 0<=(s.se.set j _).get i/\(s.se.set j _).get i<=99999
  by_cases e:i=j
  ·subst e
   rw[(s.se.get_set (i:=i) (j:=i) _ hj).1]
   omega
  ·rw[(s.se.get_set (i:=j) (j:=i) _ hj).2 hi e]
   exact h.se i hi
 ·show PT ((s.se.set j _).get i) ((s.un.set j _).get i)/\((s.un.set j _).get i).length<=40
  by_cases e:i=j
  ·subst e
   rw[(s.se.get_set (i:=i) (j:=i) _ hj).1,(s.un.get_set (i:=i) (j:=i) _ hj).1]
   refine⟨Py hu.1 rfl ⟨?_,?_,hp.1,hp.2⟩,?_⟩
   ·show 1<=s.se.get i+1;omega
   ·show s.se.get i+1<=99999;omega
   ·rw[List.length_append]
    have :=hu.2
    simp only[List.length_cons,List.length_nil]
    omega
  ·rw[(s.se.get_set (i:=j) (j:=i) _ hj).2 hi e,(s.un.get_set (i:=j) (j:=i) _ hj).2 hi e]
   exact h.un i hi
theorem Um{me:Int}{s:Stk}{f:Nat}{ta:Int}(h:e7 me s)(hf:f<6):e7 me (Ct s f ta):=by
 have m0:=h.m0;have m6:=h.m6
 have r7:me.toNat<6:=by omega
 refine⟨m0,m6,h.ri,h.rn,h.ln,?_,h.s0,h.t0,h.se,h.ta,fun i hi=>?_⟩
 ·show (s.un.set f _).get me.toNat=[]
  by_cases e:me.toNat=f
  ·rw[<-e,(s.un.get_set (i:=me.toNat) (j:=me.toNat) _ r7).1,h.u0]
   rfl
  ·rw[(s.un.get_set (i:=f) (j:=me.toNat) _ hf).2 r7 e]
   exact h.u0
 ·show PT (s.se.get i) ((s.un.set f _).get i)/\((s.un.set f _).get i).length<=40
  by_cases e:i=f
  ·subst e
   rw[(s.un.get_set (i:=i) (j:=i) _ hf).1]
   refine⟨?_,Nat.le_trans (QY _ _ _) (h.un i hf).2⟩
   unfold jz
   rw[List.take_length]
   exact Px (h.un i hf).1
  ·rw[(s.un.get_set (i:=f) (j:=i) _ hf).2 hi e]
   exact h.un i hi
theorem XE{l:List Int}{x y:Int}(h:y∈cE l x):y=x\/y∈l:=by
 unfold cE at h
 rcases List.mem_append.1 h with h | h
 ·rcases List.mem_append.1 h with h | h
  ·exact .inr (List.mem_of_mem_take h)
  ·exact .inl (by simpa using h)
 ·exact .inr (List.mem_of_mem_drop h)
theorem Rf{me:Int}{s:Stk}{f:Nat}{p:Par}(h:e7 me s)(hf:f<6)(aj:me.toNat≠f)(hp:p.no<=99999/\1<=p.pa/\p.pa<=999)(he:eJ f s p=0):e7 me (gP f s p):=by
 unfold gP
 unfold eJ at he
 have m0:=h.m0;have m6:=h.m6
 have r7:me.toNat<6:=by omega
 have ht:=h.ta f hf
 by_cases hn:eg f s p=true
 ·rw[if_pos hn]at he |-
  by_cases hh:bB s.ho p.pa=true
  ·rw[if_pos hh]at he;cases he
  ·rw[if_neg hh]at he
   by_cases hl:40<(cE s.ho p.pa).length
   ·rw[if_pos hl]at he;cases he
   ·unfold eg at hn
    have eE:p.no=s.ta.get f+1:=by simpa using hn
    refine⟨m0,m6,Df h.ri (by simpa using hh),fun x hx=>?_,by show (cE s.ho p.pa).length<=40;omega,h.u0,h.s0,?_,h.se,fun i hi=>?_,h.un⟩
    ·rcases XE hx with rfl | hx
     ·exact hp.2
     ·exact h.rn x hx
    ·show (s.ta.set f _).get me.toNat=0
     rw[(s.ta.get_set (i:=f) (j:=me.toNat) _ hf).2 r7 aj]
     exact h.t0
    ·show 0<=(s.ta.set f _).get i/\(s.ta.set f _).get i<=99999
     by_cases e:i=f
     ·subst e
      rw[(s.ta.get_set (i:=i) (j:=i) _ hf).1]
      omega
     ·rw[(s.ta.get_set (i:=f) (j:=i) _ hf).2 hi e]
      exact h.ta i hi
 ·rw[if_neg hn];exact h
theorem HR{me:Int}{f:Nat}{ps:List Par}{s0:Stk}(h0:e7 me s0)(hf:f<6)(aj:me.toNat≠f)(hp:∀ p∈ps,p.no<=99999/\1<=p.pa/\p.pa<=999):∀ {z:Nat},z<=ps.length->eh f ps s0 z=0->e7 me (bO f ps s0 z)
 | 0,_,_=>h0
 |z+1,hz,he=>by
  have mq:(if eh f ps s0 z=0 then eJ f (bO f ps s0 z) (ps.getD z default)else eh f ps s0 z)=0:=he
  by_cases h1:eh f ps s0 z=0
  ·rw[if_pos h1]at mq
   have hg:ps.getD z default=ps[z]'(by omega):=getD_at (by omega)
   exact Rf (HR h0 hf aj hp (by omega) h1) hf aj (by rw[hg];exact hp _ (List.getElem_mem _)) mq
  ·rw[if_neg h1]at mq;exact absurd mq h1
structure Kept (d e:Dk):Prop where
 ok:ay e=true
 me:e.me=d.me
 sz:dZ d->dZ e
theorem HK{d:Dk}{p t:Int}(h:ay d=true)(he:cG d p t=0):Kept d (ir d p t)/\aE (ir d p t)=aE d:=by
 have hV:ir d p t=d.setN (je d.now p t.toNat):=by unfold ir;rw[if_pos he]
 unfold cG at he
 rw[if_pos h]at he
 by_cases h1:aP p 1 999=true
 ·rw[if_pos h1]at he
  by_cases h2:dY d t=true
  ·rw[if_pos h2]at he
   by_cases h3:mL d p=true
   ·rw[if_pos h3]at he;cases he
   ·rw[if_neg h3]at he
    by_cases h4:ot d t=true
    ·rw[if_pos h4]at he;cases he
    ·have hs:=(ju.1 h).1
     have m0:=hs.m0
     unfold dY at h2
     rw[Bool.and_eq_true,cf]at h2
     have aj:t≠d.me:=by simpa using h2.2
     unfold ot at h4
     simp only[Bool.or_eq_true,beq_iff_eq,not_or]at h4
     have hk:=RS (p:=p) (j:=t.toNat) hs (by omega) (by omega) (by omega) h4.2 (cf.1 h1)
     rw[hV]
     exact⟨⟨FD h hk,rfl,fun hz=>BF hz hk⟩,xf _ _⟩
  ·rw[if_neg h2]at he;cases he
 ·rw[if_neg h1]at he;cases he
theorem Cu{d:Dk}{b:Bag}(h:ay d=true)(he:fZ d b=0):(Kept d (eK d b)/\aE (eK d b)=aE d)/\ku d b=true/\eh b.fr.toNat b.ps (bP d b) b.ps.length=0/\eK d b=d.setN (bO b.fr.toNat b.ps (bP d b) b.ps.length):=by
 have hV:eK d b=d.setN (bO b.fr.toNat b.ps (bP d b) b.ps.length):=by unfold eK;rw[if_pos he]
 unfold fZ at he
 rw[if_pos h]at he
 by_cases h1:ku d b=true
 ·rw[if_pos h1]at he
  have hs:=(ju.1 h).1
  have m0:=hs.m0
  have sh:=h1
  unfold ku at h1
  rw[Bool.and_eq_true,beq_iff_eq]at h1
  obtain⟨f0,f6,fk,_,gB,_,_⟩:=sP h1.1
  have aj:b.fr≠b.to:=by
   have :=h1.1
   unfold fR at this
   simp only[Bool.and_eq_true]at this
   intro e
   simp[e]at this
  have hk:=HR (Um (ta:=b.ta) hs fk) fk (by omega) (fun p hp=>⟨(gB p hp).2.1,(gB p hp).2.2⟩) (Nat.le_refl _) he
  rw[hV]
  exact⟨⟨⟨FD h hk,rfl,fun hz=>BF hz hk⟩,xf _ _⟩,sh,he,rfl⟩
 ·rw[if_neg h1]at he;cases he
set_option maxRecDepth 100000
noncomputable def P120:PSpec:=p2 eO iI (fun _ _=>True) (fun l x=>vInt (gW (fun y=>y==x) l)) true
noncomputable def S120:Spec:=P120.toSpec
attribute [go_sem] P120 S120
theorem Tc:aZ Tryd.prog 75 P120:=by
 refine w2 (rs:=[.tmp 4]) Tryd.func75 Tryd.ntmps75 (by rfl) (by kernel_rfl) (by decide) (fun _ _ _=>rfl) ⟨_,rfl,lb rfl,fun l x hp hw=>?_⟩
 have hP:=bn
 simp only[iI,eO]at hw |-
 have hΓ:=@nk Tryd.prog
 have hl:l.length<=maxLen:=by have:=hw.1.1;simpa using this
 repeat refine sq ?_
 refine rx hΓ [0,1] [] (fun K' hK=>by simp only[go_sem];(repeat (refine⟨ah,?_⟩));exact hK _ (by simp only[go_sem]) (by simp only[go_sem]<;>rfl)) ?_
 repeat refine sq ?_
 refine rx hΓ [0,1,7,8] [] (fun K' hK=>by simp only[go_sem];(repeat (refine⟨ah,?_⟩));exact hK _ (by simp only[go_sem]) (by simp only[go_sem]<;>rfl)) ?_
 repeat refine sq ?_
 refine aL ?_
 repeat refine sq ?_
 refine cN (fun z:Nat=>[(8,⟨true,.v (vInt z)⟩)]) (fun z=>[]) (fun z=>z<=l.length/\∀ k (h:k<l.length),k<z->(l[k]==x)=false) (fun z=>l.length-z) 0 ?_ ?_ ?_ ?_
 ·exact⟨Nat.zero_le _,fun k h hk=>absurd hk (by omega)⟩
 ·rfl
 ·rfl
 rintro i ⟨hi,hR⟩
 simp only[go_sem]
 repeat refine sq ?_
 refine rx hΓ [0,1,7,8,9] [] (fun K' hK=>by simp only[go_sem];(repeat (refine⟨ah,?_⟩));exact hK _ (by simp only[go_sem]) (by simp only[go_sem]<;>rfl)) ?_
 repeat refine sq ?_
 refine aw rfl rfl (fun hb=>?_) (fun hb=>?_)
 ·have ae:i<l.length:=by simpa using hb
  have ak:(i:Int)<l.length:=by omega
  clear hb
  repeat refine sq ?_
  refine aA ?_
  repeat refine sq ?_
  refine aL ?_
  repeat refine sq ?_
  refine rx hΓ [0,1,5,7,8] [] (fun K' hK=>by simp only[go_sem,ba ae,Int.toNat_natCast,Int.natCast_nonneg,ak];(repeat (refine⟨ah,?_⟩));exact hK _ (by simp only[go_sem]) (by simp only[go_sem]<;>rfl)) ?_
  repeat refine sq ?_
  refine rx hΓ [0,1,5,7,8,16] [] (fun K' hK=>by simp only[go_sem,ba ae,Int.toNat_natCast,Int.natCast_nonneg,ak,ba ae,Int.toNat_natCast,Int.natCast_nonneg,ak];(repeat (refine⟨ah,?_⟩));exact hK _ (by simp only[go_sem]) (by simp only[go_sem]<;>rfl)) ?_
  repeat refine sq ?_
  refine aw rfl rfl (fun hb=>?_) (fun hb=>?_)
  ·repeat refine sq ?_
   refine rx hΓ [4] [] (fun K' hK=>by simp only[go_sem,ba ae,Int.toNat_natCast,Int.natCast_nonneg,ak];(repeat (refine⟨ah,?_⟩));exact hK _ (by simp only[go_sem]) (by simp only[go_sem]<;>rfl)) ?_
   refine av ?_
   simp only[go_sem]
   rw[Di (p:=fun y=>y==x) ae (by have h:=hb;simp only[beq_iff_eq]at h |-;omega) hR]
  ·repeat refine sq ?_
   refine aA ?_
   refine dA ?_
   simp only[go_sem]
   refine kp [0,1,7,8] [] ?_
   repeat refine sq ?_
   refine aX hΓ fun K' hK=>?_
   simp only[go_sem,ba ae,Int.toNat_natCast,Int.natCast_nonneg,ak]
   repeat (refine⟨ah,?_⟩)
   refine hK _ ?_
   clear K' hK
   simp only[go_sem]
   refine⟨i+1,⟨ae,?_⟩,by(show l.length-(i+1)<l.length-i;omega),?_⟩
   ·intro k hk kR
    rcases Nat.lt_succ_iff_lt_or_eq.1 kR with h5 | rfl
    ·exact hR k hk h5
    ·have h:=hb
     simp only[beq_eq_false_iff_ne,ne_eq]at h |-
     omega
   refine bx [0,1,7,8] [] ?_ ?_
   ·simp only[go_sem,aH ae hl,Int.natCast_add,Int.natCast_one]
   ·simp only[go_sem,aH ae hl,Int.natCast_add,Int.natCast_one]
 ·have bf:i=l.length:=by
   have :¬ (i:Int)<l.length:=by simpa using hb
   omega
  clear hb
  subst bf
  repeat refine sq ?_
  refine cq ?_
  simp only[go_sem]
  refine kp [] [] ?_
  repeat refine sq ?_
  refine rx hΓ [4] [] (fun K' hK=>by simp only[go_sem];(repeat (refine⟨ah,?_⟩));exact hK _ (by simp only[go_sem]) (by simp only[go_sem]<;>rfl)) ?_
  refine av ?_
  simp only[go_sem]
  rw[Lm (p:=fun y=>y==x) fun k hk=>hR k hk hk]
theorem Xk:an Tryd.prog 75 S120:=Tc.sound
theorem XO(l:List Int)(x:Int):decide (gW (fun y=>y==x) l>=0)=bB l x:=by
 unfold gW bB
 have e:(l.any fun y=>y==x)=l.contains x:=by
  rw[List.contains_eq_any_beq]
  congr 1
  funext y
  by_cases h:y=x
  ·rw[h]
  ·have h1:(y==x)=false:=by simpa using h
   have h2:(x==y)=false:=by simpa using Ne.symm h
   rw[h1,h2]
 rw[e]
 cases l.contains x
 ·rfl
 ·simp
noncomputable def PM:List (Nat×Spec):=[(75,S120)]
theorem acU:∀ f s,tbl PM f=some s->an Tryd.prog f s:=tc Xk<|tn
attribute [go_sem] PM
noncomputable def P107:PSpec:=p2 eO iI (fun _ _=>True) (fun l x=>.bool (bB l x)) true
noncomputable def S107:Spec:=P107.toSpec
attribute [go_sem] P107 S107
theorem Tk:aZ Tryd.prog 53 P107:=by
 refine w2 (rs:=[.tmp 4]) Tryd.func53 Tryd.ntmps53 (by rfl) (by kernel_rfl) (by decide) (fun _ _ _=>rfl) ⟨_,rfl,lb rfl,fun l x hp hw=>?_⟩
 have hP:=bn
 simp only[iI,eO]at hw |-
 have hΓ:=acU
 repeat refine sq ?_
 refine rx hΓ [0,1] [] (fun K' hK=>by simp only[go_sem];(repeat (refine⟨ah,?_⟩));exact hK _ (by simp only[go_sem]) (by simp only[go_sem]<;>rfl)) ?_
 repeat refine sq ?_
 refine rx hΓ [4] [] (fun K' hK=>by simp only[go_sem,XO];(repeat (refine⟨ah,?_⟩));exact hK _ (by simp only[go_sem]) (by simp only[go_sem]<;>rfl)) ?_
 refine av ?_
 simp only[go_sem]
 all_goals first | rfl | (simp;done) | (simp_all;done)
theorem Xp:an Tryd.prog 53 S107:=Tk.sound
@[go_sem] theorem afS(s:Stk):List.take 1 (aC s)=[jE s.ho]:=rfl
def gM(l:List Dk)(p:Int)(z:Nat):List Int:=((l.take z).filter fun d=>bB d.now.ho p).map Dk.me
theorem G4{l:List Dk}{p:Int}{z:Nat}(h:z<l.length)(hp:bB l[z].now.ho p=true):gM l p (z+1)=gM l p z++[l[z].me]:=by
 unfold gM
 rw[List.take_add_one,List.getElem?_eq_getElem h,List.filter_append,List.map_append]
 show _++(List.filter _ [l[z]]).map Dk.me=_
 rw[List.filter_cons_of_pos (by simpa using hp)]
 rfl
theorem G5{l:List Dk}{p:Int}{z:Nat}(h:z<l.length)(hp:bB l[z].now.ho p=false):gM l p (z+1)=gM l p z:=by
 unfold gM
 rw[List.take_add_one,List.getElem?_eq_getElem h,List.filter_append,List.map_append]
 show _++(List.filter _ [l[z]]).map Dk.me=_
 rw[List.filter_cons_of_neg (by simp[hp])]
 simp
theorem QB(l:List Dk)(p:Int)(z:Nat):(gM l p z).length<=l.length:=by
 unfold gM
 rw[List.length_map]
 refine Nat.le_trans (List.length_filter_le _ _) ?_
 rw[List.length_take];omega
def s6(l:List Dk)(p:Int):List Int:=if iv l p=0 then gM l p l.length else[]
theorem vm{l:List Dk}{p:Int}(h:iv l p=0):s6 l p=gM l p l.length:=if_pos h
theorem xT{l:List Dk}{p:Int}(h:iv l p≠0):s6 l p=[]:=if_neg h
theorem aaO{l:List Dk}(h:ek l=true):l.length<=6/\∀ i (hi:i<l.length),ay l[i]=true:=by
 unfold ek at h
 rw[Bool.and_eq_true,decide_eq_true_eq,gJ]at h
 refine⟨h.2,fun i hi=>?_⟩
 have :=h.1 i hi
 unfold nJ at this
 rw[Bool.and_eq_true,getD_at hi]at this
 exact this.1
theorem TW{l:List Dk}{p:Int}(h:iv l p=0):ek l=true/\aP p 1 999=true:=by
 cases h1:ek l
 ·rw[yD h1]at h;cases h
 ·cases h2:aP p 1 999
  ·rw[yC h1 h2]at h;cases h
  ·exact⟨rfl,rfl⟩
noncomputable def PL:List (Nat×Spec):=[(52,S104),(53,S107)]
theorem acT:∀ f s,tbl PL f=some s->an Tryd.prog f s:=tc Xq<|tc Xp<|tn
attribute [go_sem] PL
noncomputable def P70:PSpec:=p2 oy iI (fun _ _=>True) (fun l p=>.tup [.sl ((s6 l p).map vInt),vInt (iv l p)]) false
noncomputable def S70:Spec:=P70.toSpec
attribute [go_sem] P70 S70
set_option maxHeartbeats 4000000 in
theorem SI:aZ Tryd.prog 20 P70:=by
 refine w2 (rs:=[.tmp 4,.tmp 5]) Tryd.func20 Tryd.ntmps20 (by rfl) (by kernel_rfl) (by decide) (fun h=>by cases h) ⟨_,rfl,lb rfl,fun l p hp hw=>?_⟩
 have hP:=bn
 simp only[oy,iI]at hw |-
 have hΓ:=acT
 have hl:l.length<=maxLen:=by have:=hw.1.1;simpa using this
 repeat refine sq ?_
 refine rx hΓ [0,1] [] (fun K' hK=>by simp only[go_sem];(repeat (refine⟨ah,?_⟩));exact hK _ (by simp only[go_sem]) (by simp only[go_sem]<;>rfl)) ?_
 repeat refine sq ?_
 refine rx hΓ [0,1,6] [] (fun K' hK=>by simp only[go_sem];(repeat (refine⟨ah,?_⟩));exact hK _ (by simp only[go_sem]) (by simp only[go_sem]<;>rfl)) ?_
 repeat refine sq ?_
 refine rx hΓ [0,1,6,14] [] (fun K' hK=>by simp only[go_sem];(repeat (refine⟨ah,?_⟩));exact hK _ (by simp only[go_sem]) (by simp only[go_sem]<;>rfl)) ?_
 repeat refine sq ?_
 refine aw rfl rfl (fun hb=>?_) (fun hb=>?_)
 ·repeat refine sq ?_
  have he:iv l p≠0:=by simpa using hb
  repeat refine sq ?_
  refine rx hΓ [4,5] [[31,0]] (fun K' hK=>by simp only[go_sem];(repeat (refine⟨ah,?_⟩));exact hK _ (by simp only[go_sem]) (by simp only[go_sem]<;>rfl)) ?_
  refine av ?_
  simp only[go_sem]
  first | (rw[xT he];done) | (rw[xT he];rfl) | (rw[vm he,he];done) | (rw[vm he,he];rfl)
 ·repeat refine sq ?_
  have he:iv l p=0:=by simpa using hb
  refine aA ?_
  repeat refine sq ?_
  refine rx hΓ [0,1,7] [[31,0]] (fun K' hK=>by simp only[go_sem];(repeat (refine⟨ah,?_⟩));exact hK _ (by simp only[go_sem]) (by simp only[go_sem]<;>rfl)) ?_
  refine aN (xU 7 [31,0] 1 (by simp only[go_sem]) (by simp only[go_sem]) [0,1,7] [[31,0]] ?_ rfl) ?_
  ·simp only[go_sem]
  simp only[go_sem]
  repeat refine sq ?_
  refine rx hΓ [1,7,16,17,18] [[31,0]] (fun K' hK=>by simp only[go_sem];(repeat (refine⟨ah,?_⟩));exact hK _ (by simp only[go_sem]) (by simp only[go_sem]<;>rfl)) ?_
  repeat refine sq ?_
  refine aL ?_
  repeat refine sq ?_
  refine cN (fun z:Nat=>[(18,⟨true,.v (vInt z)⟩),(7,⟨true,.msl [31,0] (gM l p z).length⟩)]) (fun z=>[([31,0],.arr 1 ((gM l p z).map vInt))]) (fun z=>z<=l.length) (fun z=>l.length-z) 0 ?_ ?_ ?_ ?_
  ·exact Nat.zero_le _
  ·rfl
  ·rfl
  rintro i hi
  simp only[go_sem]
  repeat refine sq ?_
  refine rx hΓ [1,7,16,17,18,19] [[31,0]] (fun K' hK=>by simp only[go_sem];(repeat (refine⟨ah,?_⟩));exact hK _ (by simp only[go_sem]) (by simp only[go_sem]<;>rfl)) ?_
  repeat refine sq ?_
  refine aw rfl rfl (fun hb=>?_) (fun hb=>?_)
  ·have ae:i<l.length:=by simpa using hb
   have ak:(i:Int)<l.length:=by omega
   clear hb
   have hx:=QB l p i
   have hx6:=(aaO (TW he).1).1
   repeat refine sq ?_
   refine aA ?_
   repeat refine sq ?_
   refine aL ?_
   repeat refine sq ?_
   refine rx hΓ [1,7,9,16,17,18] [[9,0],[31,0]] (fun K' hK=>by simp only[go_sem,eY ae,Int.toNat_natCast,Int.natCast_nonneg,ak,List.length_map,eY ae,Int.toNat_natCast,Int.natCast_nonneg,ak,List.length_map,List.append_nil];(repeat (refine⟨ah,?_⟩));exact hK _ (by simp only[go_sem]) (by simp only[go_sem]<;>rfl)) ?_
   refine aN (cX [9,0] (aq l[i]) rfl [1,7,9,16,17,18] [[9,0],[31,0]] ?_ rfl) ?_
   ·simp only[go_sem]
   simp only[go_sem]
   repeat refine sq ?_
   refine rx hΓ [1,7,9,16,17,18,26] [[9,0],[31,0]] (fun K' hK=>by simp only[go_sem,eY ae,Int.toNat_natCast,Int.natCast_nonneg,ak,List.length_map];(repeat (refine⟨ah,?_⟩));exact hK _ (by simp only[go_sem]) (by simp only[go_sem]<;>rfl)) ?_
   repeat refine sq ?_
   refine aw rfl rfl (fun hb=>?_) (fun hb=>?_)
   ·repeat refine sq ?_
    have e:=G4 ae hb
    repeat refine sq ?_
    refine aX hΓ fun K' hK=>?_
    simp only[go_sem,eY ae,Int.toNat_natCast,Int.natCast_nonneg,ak,List.length_map,List.map_append,List.length_append,List.map_cons,List.map_nil,List.length_cons,List.length_nil]
    repeat (refine⟨by first | exact⟨rfl,by omega,by unfold maxLen;omega⟩ | exact ah,?_⟩)
    refine hK _ ?_
    clear K' hK
    simp only[go_sem]
    refine kp [1,7,16,17,18] [[31,0]] ?_
    repeat refine sq ?_
    refine aX hΓ fun K' hK=>?_
    simp only[go_sem,eY ae,Int.toNat_natCast,Int.natCast_nonneg,ak,List.length_map]
    repeat (refine⟨ah,?_⟩)
    refine hK _ ?_
    clear K' hK
    simp only[go_sem]
    refine⟨i+1,ae,by(show l.length-(i+1)<l.length-i;omega),?_⟩
    refine bx [1,7,16,17,18] [[31,0]] ?_ ?_
    ·simp only[go_sem,aH ae hl,Int.natCast_add,Int.natCast_one,e,List.map_append,List.length_append,List.map_cons,List.map_nil,List.length_cons,List.length_nil]
    ·simp only[go_sem,aH ae hl,Int.natCast_add,Int.natCast_one,e,List.map_append,List.length_append,List.map_cons,List.map_nil,List.length_cons,List.length_nil]
   ·repeat refine sq ?_
    have e:=G5 ae hb
    refine aA ?_
    refine dA ?_
    simp only[go_sem]
    refine kp [1,7,16,17,18] [[31,0]] ?_
    repeat refine sq ?_
    refine aX hΓ fun K' hK=>?_
    simp only[go_sem,eY ae,Int.toNat_natCast,Int.natCast_nonneg,ak,List.length_map]
    repeat (refine⟨ah,?_⟩)
    refine hK _ ?_
    clear K' hK
    simp only[go_sem]
    refine⟨i+1,ae,by(show l.length-(i+1)<l.length-i;omega),?_⟩
    refine bx [1,7,16,17,18] [[31,0]] ?_ ?_
    ·simp only[go_sem,aH ae hl,Int.natCast_add,Int.natCast_one,e,List.map_append,List.length_append,List.map_cons,List.map_nil,List.length_cons,List.length_nil]
    ·simp only[go_sem,aH ae hl,Int.natCast_add,Int.natCast_one,e,List.map_append,List.length_append,List.map_cons,List.map_nil,List.length_cons,List.length_nil]
  ·have bf:i=l.length:=by
    have :¬ (i:Int)<l.length:=by simpa using hb
    omega
   clear hb
   subst bf
   repeat refine sq ?_
   refine cq ?_
   simp only[go_sem]
   refine kp [7] [[31,0]] ?_
   repeat refine sq ?_
   refine rx hΓ [4,5] [[31,0]] (fun K' hK=>by simp only[go_sem];(repeat (refine⟨ah,?_⟩));exact hK _ (by simp only[go_sem]) (by simp only[go_sem]<;>rfl)) ?_
   refine av ?_
   simp only[go_sem]
   first | (rw[xT he];done) | (rw[xT he];rfl) | (rw[vm he,he];done) | (rw[vm he,he];rfl)
theorem WU:an Tryd.prog 20 S70:=SI.sound
noncomputable def acS:List (Nat×Spec):=[(55,GD)]
attribute [go_sem] acS
def XU:En Int:=⟨fun k=>.ptr [vInt k],fun v=>match v with | .ptr [.int _ k]=>k | _=>0⟩
def XV:En Int:=⟨fun k=>.clo (.func 57) [] [.ptr [vInt k]],fun v=>match v with | .clo _ _ [.ptr [.int _ k]]=>k | _=>0⟩
attribute [go_sem] XU XV
def ru(k:Int)(d:Dk):Bool:=d.me==k
noncomputable def K83:List (Nat×Spec):=[]
attribute [go_sem] K83
def xW(l:List Dk)(k:Int)(f:Nat):Int:=if gW (ru k) l<0 then -1 else(l.getD (gW (ru k) l).toNat default).now.ta.get f
def F4(l:List Dk)(p:Int)(d:Dk)(k:Nat)(q:Par):Bool:=q.pa==p&&decide (q.no>xW l k d.me.toNat)
def aaL(a:Int×Int):V:=.agg [vInt a.1,vInt a.2]
attribute [go_sem] aaL
def uZ(l:List Dk)(p:Int)(d:Dk)(k z:Nat):List (Int×Int):=(((d.now.un.get k).take z).filter (F4 l p d k)).map fun _=>(d.me,(k:Int))
def qv(l:List Dk)(p:Int)(d:Dk):Nat->List (Int×Int)
 | 0=>[]
 |k+1=>qv l p d k++uZ l p d k (d.now.un.get k).length
def mE(l:List Dk)(p:Int):Nat->List (Int×Int)
 | 0=>[]
 |i+1=>mE l p i++qv l p (l.getD i default) 6
def F3(l:List Dk)(p:Int):List (Int×Int):=if iv l p=0 then mE l p l.length else[]
theorem N5{l:List Dk}{p:Int}(h:iv l p=0):F3 l p=mE l p l.length:=if_pos h
theorem aaQ(d:Dk):((aq d).drop 2).take 6=d.now.un.L rowP:=rfl
theorem Rb{l:List Dk}{k:Int}{f j:Nat}(h:gW (ru k) l=(j:Int))(hj:j<l.length):xW l k f=l[j].now.ta.get f:=by
 unfold xW
 rw[h,if_neg (by omega),Int.toNat_natCast,getD_at hj]
@[go_sem] theorem ahC(b:Bag):(List.map D.v (aT b)).getD 2 .any=.v (rowP b.ps):=rfl
set_option maxRecDepth 10000 in
set_option maxHeartbeats 8000000 in
theorem QW{sY:Spec}(hY:an Tryd.prog yid sY){d:Dk}{b:Bag}{k0 m n:Nat}{er:Int}(hw:lU d b k0 m n er)(hf:b.fr.toNat<6)(bG:b.ps.length<=40)
 (pQ:∀ z,z<=k0+m->0<=(oT d b z).ta.get b.fr.toNat/\(oT d b z).ta.get b.fr.toNat<=99999)
 {J:Nat->List O} (hJ:∀ s,(J s).length=(J 0).length) (hc:∀ s,∀ o∈J s,∀ dom:Name->Bool,(∀ i,dom [i,1]=true)->O.clos dom o=true)
 (hA:∀ s,a8 (J s) [6,1]=some (.box ((aT b).map .v))) (hB:∀ s,a8 (J s) [7,1]=some (.box [.ref [4,1] (14+b.fr.toNat)]))
 {e:Nat->Dk} {q:Nat->Nat} (sn:∀ s,a8 (J s) [4,1]=some (.box (bu (e s) [5,1] (q s)))) (he:∀ s,s<=m->(e s).now.ta.get b.fr.toNat=(oT d b (k0+s)).ta.get b.fr.toNat)
 (kU:∀ s,s<n->∀ obj tm,(∀ nm,cJ nm=true->obj nm=a8 (J s) nm)->sY.app obj tm [.yld [0,1],.agg [.v (vInt (b.ps.getD (k0+s) default).no),.v (vInt (b.ps.getD (k0+s) default).pa)]]=⟨True,.v (.bool (decide (s<m))),jC obj (J (s+1))⟩):
 ∃ c',Tryd.f73.body=some c'/\CL Tryd.prog [c'] (aW 27 [0] (a8 (J 0)) [(0,⟨true,.yld [0,1]⟩),(1,⟨true,.ref [6,1] 0⟩),(2,⟨true,.ref [7,1] 0⟩)] [])
   (fun e σ=>(e=.normal\/e=.ret)/\∀ i,σ.obj [i,1]=a8 (J n) [i,1]):=by
 refine⟨_,rfl,?_⟩
 have hP:=bn
 obtain⟨Γ,hΓ,jO⟩:∃ Γ:FuncId->Option Spec,(∀ f s,Γ f=some s->an Tryd.prog f s)/\Γ 1000000000=some sY:=by
  refine⟨fun f=>if f=1000000000 then some sY else none,fun f s h=>?_,rfl⟩
  dsimp only at h
  split at h
  ·rename_i e;cases h;subst e;exact hY
  ·cases h
 have hO:∀ s hs,bU [0] (bL [0] hs) (a8 (J s))=True:=fun s hs=>eq_true (vK (hc s) hs)
 have gZ:∀ s,jC (a8 (J s)) (J (s+1))=a8 (J (s+1)):=fun s=>RN ((hJ _).trans (hJ s).symm)
 obtain⟨H,hH⟩:∃ H:Nat->Name->Option O,∀ s,a8 (J s)=H s:=⟨_,fun _=>rfl⟩
 simp only[hH]at hO gZ kU hA hB sn |-
 have hl:b.ps.length<=maxLen:=by unfold maxLen;omega
 have YL:n=m\/n=m+1:=by rcases hw.hn with h | h<;>omega
 repeat refine sq ?_
 refine rx hΓ [0,2,7,8,9] [] (fun K' hK=>by simp only[go_sem,hO,hA];(repeat (refine⟨ah,?_⟩));exact hK _ (by simp only[go_sem,hO,hA]) (by simp only[go_sem,hO,hA]<;>rfl)) ?_
 repeat refine sq ?_
 refine aL ?_
 repeat refine sq ?_
 refine F8 (fun z:Nat=>aW 27 [0] (H (z-k0)) [(0,⟨true,.yld [0,1]⟩),(2,⟨true,.ref [7,1] 0⟩),(7,⟨true,.v (.sl (b.ps.map encPa))⟩),(8,⟨true,.v (vInt b.ps.length)⟩),(9,⟨true,.v (vInt z)⟩)] [])
  (fun z=>z<=b.ps.length/\z<=k0+m) (fun z=>b.ps.length-z) 0 ⟨Nat.zero_le _,Nat.zero_le _⟩ (by rw[Nat.zero_sub];exact dC.refl _) ?_
 rintro i ⟨hi,him⟩
 repeat refine sq ?_
 refine rx hΓ [0,2,7,8,9,10] [] (fun K' hK=>by simp only[go_sem,hO];(repeat (refine⟨ah,?_⟩));exact hK _ (by simp only[go_sem,hO]) (by simp only[go_sem,hO]<;>rfl)) ?_
 repeat refine sq ?_
 refine aw rfl rfl (fun hb=>?_) (fun hb=>?_)
 ·have ae:i<b.ps.length:=by simpa using hb
  have ak:(i:Int)<b.ps.length:=by omega
  have zw:IntKind.i64.wrap ((i:Int)+1)=((i+1:Nat):Int):=aH ae hl
  clear hb
  have YO:i-k0<=m:=by omega
  have Dy:=he (i-k0) YO
  have pP:=pQ (k0+(i-k0)) (by omega)
  have w1:IntKind.i64.wrap ((e (i-k0)).now.ta.get b.fr.toNat+1)=(e (i-k0)).now.ta.get b.fr.toNat+1:=by rw[Dy];exact wrap_i64 (by omega) (by omega)
  repeat refine sq ?_
  refine aA ?_
  repeat refine sq ?_
  refine aL ?_
  repeat refine sq ?_
  refine rx hΓ [0,2,5,7,8,9] [[5,0]] (fun K' hK=>by simp only[go_sem,hO,ba ae,Int.toNat_natCast,Int.natCast_nonneg,ak];(repeat (refine⟨ah,?_⟩));exact hK _ (by simp only[go_sem,hO,ba ae,Int.toNat_natCast,Int.natCast_nonneg,ak]) (by simp only[go_sem,hO,ba ae,Int.toNat_natCast,Int.natCast_nonneg,ak]<;>rfl)) ?_
  by_cases X4:i<k0
  ·have hz:i-k0=0:=by omega
   have heq:(b.ps[i].no==(e (i-k0)).now.ta.get b.fr.toNat+1)=false:=by
    have h1:=hw.pre i ae X4
    rw[Dy,hz,Nat.add_zero,hw.T0 k0 (Nat.le_refl _)]
    exact h1
   have ma:i+1-k0=i-k0:=by omega
   repeat refine sq ?_
   refine dx hΓ hP [[],[0],[],[2],[2,3],[2,3,4],[0,1,2,3,4,5],[0,1,2,3,4,5,6],[0,1,2,3,4,5,6,7],[0,1,2,3,4,5,6,7],[0,1,2,3,4,5,6,7,8,9],[0,1,2,3,4,5,6,7,8,9,10],[0,1,2,3,4,5,6,7,8,9,10,11]] [0,2,7,8,9,25] [[5,0]] (by kernel_rfl) (fun K' hK=>by simp only[go_sem,hO,hB,sn,sO _ _ _ hf,w1,heq];(repeat (refine⟨ah,?_⟩));(first | refine⟨by rfl,?_⟩ | skip);exact hK _ (by simp only[go_sem,hO,hB,sn,sO _ _ _ hf,w1,heq]) (by simp only[go_sem,hO,hB,sn,sO _ _ _ hf,w1,heq]<;>rfl)) ?_
   repeat refine sq ?_
   refine aw rfl rfl (fun hb=>?_) (fun hb=>?_)
   ·cases hb
   repeat refine sq ?_
   refine aA ?_
   refine dA ?_
   simp only[go_sem]
   refine kz [0,2,7,8,9] [] ?_ ?_
   ·simp only[go_sem,hO]
   simp only[go_sem,hO]
   repeat refine sq ?_
   refine aX hΓ fun K' hK=>?_
   simp only[go_sem]
   repeat (refine⟨ah,?_⟩)
   refine hK _ ?_
   clear K' hK
   simp only[go_sem]
   refine⟨i+1,⟨ae,by omega⟩,by omega,?_⟩
   rw[ma]
   refine bx [0,2,7,8,9] [] ?_ ?_
   ·simp only[go_sem,hO,zw]
   ·simp only[go_sem,hO,zw]
  ·have kR:k0+(i-k0)=i:=by omega
   have pS:i-k0<n:=by
    rcases hw.hn with⟨_,h1,h2⟩ | ⟨_,h1,h2⟩<;>omega
   have zQ:eg b.fr.toNat (oT d b i) b.ps[i]=true:=by
    rcases Nat.lt_or_ge (i-k0) m with h1 | h1
    ·have h2:=(hw.good (i-k0) h1 (by omega)).1
     simp only[kR]at h2
     exact h2
    ·have h3:i=k0+m:=by omega
     rcases hw.hn with⟨_,h4,h5⟩ | ⟨h4,h5,h6⟩
     ·omega
     ·have h2:=(hw.bad h4 (by omega)).1
      simp only[<-h3]at h2
      exact h2
   have heq:(b.ps[i].no==(e (i-k0)).now.ta.get b.fr.toNat+1)=true:=by
    rw[Dy,kR]
    exact zQ
   have MG:=kU (i-k0) pS
   rw[kR,getD_at ae]at MG
   have EI:=fun (F:Name->Option O) (tm:Name)=>MG (fun nm=>if own [0] nm=true then F nm else H (i-k0) nm) tm fun nm hn=>by
    obtain⟨k,rfl⟩:=vW.1 hn
    simp[vJ]
   have DD:∀ (obj:Name->Option O) (L:List O),jC obj L [5,0]=obj [5,0]:=fun _ _=>rfl
   repeat refine sq ?_
   refine dx hΓ hP [[],[0],[],[2],[2,3],[2,3,4],[0,1,2,3,4,5],[0,1,2,3,4,5,6],[0,1,2,3,4,5,6,7],[0,1,2,3,4,5,6,7],[0,1,2,3,4,5,6,7,8,9],[0,1,2,3,4,5,6,7,8,9,10],[0,1,2,3,4,5,6,7,8,9,10,11]] [0,2,7,8,9,25] [[5,0]] (by kernel_rfl) (fun K' hK=>by simp only[go_sem,hO,hB,sn,sO _ _ _ hf,w1,heq,jO,EI,DD,CH,GJ,gZ];(repeat (refine⟨ah,?_⟩));(first | refine⟨by rfl,?_⟩ | skip);exact hK _ (by simp only[go_sem,hO,hB,sn,sO _ _ _ hf,w1,heq,jO,EI,DD,CH,GJ,gZ]) (by simp only[go_sem,hO,hB,sn,sO _ _ _ hf,w1,heq,jO,EI,DD,CH,GJ,gZ]<;>rfl)) ?_
   repeat refine sq ?_
   refine aw rfl rfl (fun hb=>?_) (fun hb=>?_)
   ·have h1:¬ i-k0<m:=by simpa using hb
    have h2:i-k0+1=n:=by omega
    refine av ?_
    simp only[go_sem]
    rw[h2]
    exact⟨.inr trivial,fun k=>by simp[vJ]⟩
   have h1:i-k0<m:=by simpa using hb
   have h2:i+1-k0=i-k0+1:=by omega
   repeat refine sq ?_
   refine aA ?_
   refine dA ?_
   simp only[go_sem]
   refine kz [0,2,7,8,9] [] ?_ ?_
   ·simp only[go_sem,hO]
   simp only[go_sem,hO]
   repeat refine sq ?_
   refine aX hΓ fun K' hK=>?_
   simp only[go_sem]
   repeat (refine⟨ah,?_⟩)
   refine hK _ ?_
   clear K' hK
   simp only[go_sem]
   refine⟨i+1,⟨ae,by omega⟩,by omega,?_⟩
   rw[h2]
   refine bx [0,2,7,8,9] [] ?_ ?_
   ·simp only[go_sem,hO,zw]
   ·simp only[go_sem,hO,zw]
 ·have bf:i=b.ps.length:=by
    have :¬ (i:Int)<b.ps.length:=by simpa using hb
    omega
  have aj:i-k0=n:=by
   rcases hw.hn with⟨_,h1,h2⟩ | ⟨_,h1,h2⟩<;>omega
  clear hb
  repeat refine sq ?_
  refine cq ?_
  simp only[go_sem]
  rw[aj]
  exact⟨.inl rfl,fun k=>by rw[Jf];simp[vJ]⟩
set_option maxRecDepth 10000
def qZ:Code->Option (Array Tmp×Code×Code)
 | .seq a b=>match qZ a with | some x=>some x | none=>qZ b
 | .block _ b=>qZ b
 | .loop b=>qZ b
 | .cond _ a b=>match qZ a with | some x=>some x | none=>qZ b
 | .rangeFunc _ ps a b=>some (ps,a,b)
 |_=>none
def yj(fn:Func):Array Tmp×Code×Code:=((fn.body.bind qZ).getD (#[],.skip,.skip))
theorem pG{Ls:List Name}(h:Ls.length=7):∃ a b c d e f g,Ls=[a,b,c,d,e,f,g]:=by
 match Ls,h with
 |[a,b,c,d,e,f,g],_=>exact⟨a,b,c,d,e,f,g,rfl⟩
def re(p:Par):D:=.agg [.v (vInt p.no),.v (vInt p.pa)]
def dr(d:Dk)(b:Bag)(k0 m s:Nat):Stk:=oT d b (k0+min s m)
def gC(d:Dk)(b:Bag)(k0 m s:Nat):List Int:=if s<=m then(oT d b (k0+min s m)).ho else jF (oT d b (k0+m)).ho (b.ps.getD (k0+m) default).pa
def jr(m:Nat)(er:Int)(s:Nat):Int:=if s<=m then 0 else er
noncomputable def dm(d:Dk)(b:Bag)(k0 m n:Nat)(er:Int):Lp where
 m:=7
 env:=fun Ls=>(List.range 106).map (dh eAny [(3,⟨true,.v (.ptr (aT b))⟩),(4,⟨true,.ref (Ls.getD 0 []) 0⟩),(5,⟨true,.ref (Ls.getD 1 []) 0⟩),(7,⟨true,.ref (Ls.getD 2 []) 0⟩),(58,⟨true,.clo (.func 73) [] [.ref (Ls.getD 5 []) 0,.ref (Ls.getD 6 []) 0]⟩)])
 fam:=fun Ls s=>[.box ((aq zD).map .v),.box [.v (vInt (jr m er s))],.box [.ref (Ls.getD 3 []) 0],.box (bu (d.setN (dr d b k0 m s)) (Ls.getD 4 []) (dr d b k0 m s).ho.length),.arr 1 ((gC d b k0 m s).map vInt),.box ((aT b).map .v),.box [.ref (Ls.getD 3 []) (14+b.fr.toNat)]]
 ps:=(yj Tryd.f18).1.toList
 asg:=(yj Tryd.f18).2.1
 body:=(yj Tryd.f18).2.2
 n:=n
 vals:=fun s=>[re (b.ps.getD (k0+s) default)]
 st:=fun j=>if j<m then none else some .ret
 fu:=200
theorem Cr{d:Dk}{b:Bag}{k0 m n:Nat}{er:Int}(hw:lU d b k0 m n er):k0+n<=b.ps.length/\n<=m+1/\m<=n:=by
 rcases hw.hn with⟨_,h1,h2⟩ | ⟨_,h1,h2⟩<;>omega
theorem Cs{d:Dk}{b:Bag}{k0 m n:Nat}{er:Int}(hw:lU d b k0 m n er)(hb:fR b=true):(dm d b k0 m n er).Ok where
 len:=fun Ls s _=>rfl
 renE:=fun f Ls h=>by obtain⟨a,b,c,d,e,f,g,rfl⟩:=pG h;rfl
 renF:=fun f Ls s h=>by
  obtain⟨x1,x2,x3,x4,x5,x6,x7,rfl⟩:=pG h
  simp only[dm,List.map_cons,List.map_nil,O.ren,tG,OH,List.getD_cons_zero,List.getD_cons_succ,D.renL,D.ren]
 reach:=fun Ls s obj acc q h iT hd hF=>by
  obtain⟨a,c,e,f,g,x,y,rfl⟩:=pG h
  obtain⟨h1,h2,h3,h4,h5,h6,h7,_⟩:=hF
  simp only[List.getD_cons_zero,List.getD_cons_succ]at h1 h2 h3 h4 h5 h6 h7
  have en:dS (((dm d b k0 m n er).env [a,c,e,f,g,x,y]).map (·.d))=[a,c,e,x,y]:=rfl
  rw[en]
  show dQ obj (q+190+1+1+1+1+1+1+1+1+1+1) _ acc=_
  simp only[List.mem_cons,List.not_mem_nil,or_false,forall_eq_or_imp,forall_eq]at hd
  obtain⟨d1,d2,d3,d4,d5,d6,d7⟩:=hd
  simp only[List.nodup_cons,List.mem_cons,List.not_mem_nil,or_false,not_or,not_false_eq_true,List.nodup_nil,and_true]at iT
  obtain⟨⟨a1,a2,a3,a4,a5,a6⟩,⟨b1,b2,b3,b4,b5⟩,⟨c1,c2,c3,c4⟩,⟨e1,e2,e3⟩,⟨f1,f2⟩,g1⟩:=iT
  simp[dQ,iw,h1,h2,h3,h4,h5,h6,h7,nl,dS,vO,yV,yW,d1,d2,d3,d4,d5,d6,d7,Ne.symm a1,Ne.symm a2,Ne.symm a3,Ne.symm a4,Ne.symm a5,Ne.symm a6,Ne.symm b1,Ne.symm b2,Ne.symm b3,Ne.symm b4,Ne.symm b5,Ne.symm c1,Ne.symm c2,Ne.symm c3,Ne.symm c4,Ne.symm e1,Ne.symm e2,Ne.symm e3,Ne.symm f1,Ne.symm f2,Ne.symm g1]
 closE:=fun dom Ls h hd=>by
  obtain⟨a,c,e,f,g,x,y,rfl⟩:=pG h
  have h1:=hd a (by simp)
  have h2:=hd c (by simp)
  have h3:=hd e (by simp)
  have h4:=hd x (by simp)
  have h5:=hd y (by simp)
  simp[dm,List.range,List.range.loop,dh,D.closL,D.clos,eAny,h1,h2,h3,h4,h5]
 closF:=fun dom Ls s h hd o ho=>by
  obtain⟨a,c,e,f,g,x,y,rfl⟩:=pG h
  have h1:=hd f (by simp)
  have h2:=hd g (by simp)
  simp only[dm,List.mem_cons,List.not_mem_nil,or_false,List.getD_cons_zero,List.getD_cons_succ]at ho
  rcases ho with rfl | rfl | rfl | rfl | rfl | rfl | rfl<;>simp[O.clos,D.closL,D.clos,qy,xy,h1,h2]
 psz:=fun Ls h=>by rfl
 args:=fun s=>by rfl
 fuel:=(show (200:Nat)<=2000 by decide)
 vnam:=fun _=>rfl
 vcl:=fun _ _=>rfl
 vren:=fun _ _=>rfl
 inj:=fun s s' hs gh h=>by
  have pV:cw b.ps=true:=by unfold fR at hb;simp only[Bool.and_eq_true]at hb;exact hb.1.2
  have eE:=Cl pV
  have h0:=(Cr hw).1
  have l1:k0+s<b.ps.length:=Nat.lt_of_lt_of_le (Nat.add_lt_add_left hs k0) h0
  have l2:k0+s'<b.ps.length:=Nat.lt_of_lt_of_le (Nat.add_lt_add_left gh k0) h0
  have e1:(b.ps.getD (k0+s) default).no=(b.ps.getD (k0+s') default).no:=by
   have :=(List.cons.inj h).1
   simp only[re,D.agg.injEq,List.cons.injEq,D.v.injEq,vInt,V.int.injEq,true_and,and_true]at this
   exact this.1
  rw[getD_at l1,getD_at l2,eE _ l1,eE _ l2]at e1
  omega
set_option maxRecDepth 20000
theorem Bx{p:Name}{H:Name->Option O}{x y:Name}{o q:Option O}(hx:own p x=true)(nm:Name)(hn:own p nm=false):upd (upd H x o) y q nm=upd H y q nm:=by
 by_cases e:nm=y
 ·subst e;rw[aG,aG]
 ·rw[aK _ _ _ e,aK _ _ _ e,aK _ _ _ (fun e2=>by rw[e2,hx]at hn;cases hn)]
@[go_sem] theorem agl{n:Nat}{p:Name}{H:Name->Option O}{x y:Name}{o q:Option O}{l:List (Nat×E)}{h:List (Name×O)}(hx:own p x=true):aW n p (upd (upd H x o) y q) l h=aW n p (upd H y q) l h:=
  vR fun nm hn=>Bx hx nm hn
@[go_sem] theorem ahS{p:Name}{dom:Name->Bool}{H:Name->Option O}{x y:Name}{o q:Option O}(hx:own p x=true):bU p dom (upd (upd H x o) y q)=bU p dom (upd H y q):=
  propext ⟨fun k nm z hn h=>k nm z hn (by rw[Bx hx nm hn];exact h),fun k nm z hn h=>k nm z hn (by rw[<-Bx (o:=o) hx nm hn];exact h)⟩
theorem PF{H:Name->Option O}(hO:∀ hs,bU [0] (bL [0] hs) H=True)(hs:List (Name×O))(sz:Nat)(L:List V):bU [0] (bL [0] hs) (upd H [4,1] (some (.arr sz L)))=True:=eq_true (xN rfl (of_eq_true (hO hs)))
theorem acG{H:Name->Option O}(hO:∀ hs,bU [0] (bL [0] hs) H=True)(hs:List (Name×O))(e:Dk)(n:Nat):bU [0] (bL [0] hs) (upd H [3,1] (some (.box (bu e [4,1] n))))=True:=
 eq_true (xN (by simp only[O.clos,xy];simp[bL,own]) (of_eq_true (hO hs)))
theorem On{P:Program}{Γ:FuncId->Option Spec}(hΓ:∀ f s,Γ f=some s->an P f s){id:Nat}{l:List Oper}{c:Code}{r:List Code}{σ:Eng.S}{K:Exit->Eng.S->Prop}
 (h:∀ K':Eng.S->Prop,(∀ σ',CL P (c::r) σ' K->K' σ')->nQ P Γ l.toArray l σ K'):CL P (.region id l.toArray false::c::r) σ K:=
 AM hΓ h
noncomputable def PV:List (Nat×Spec):=[(51,S67)]
attribute [go_sem] PV
theorem ac3:∀ f s,tbl PV f=some s->an Tryd.prog f s:=tc WW<|tn
set_option maxHeartbeats 8000000 in
theorem Ub{d:Dk}{b:Bag}{k0 m n:Nat}{er:Int}(hw:lU d b k0 m n er)(hb:fR b=true)(hI:∀ z,z<=k0+m->ph b.fr.toNat (oT d b z)):an Tryd.prog yid (dm d b k0 m n er).y.toSpec:=by
 refine Lp.y_sound (Cs hw hb) fun s hs _=>?_
 have hΓ:=ac3
 have hP:=bn
 obtain⟨qf,wP,hf,bG,DP,LA,Ly⟩:=sP hb
 have gh:s<n:=hs
 obtain⟨n1,n2,n3⟩:=Cr hw
 have oD:s<=m:=by omega
 have hlen:k0+s<b.ps.length:=by omega
 obtain⟨S,hS⟩:∃ S,S=oT d b (k0+s):=⟨_,rfl⟩
 obtain⟨P,oV⟩:∃ P,P=b.ps[k0+s]:=⟨_,rfl⟩
 have Ak:ph b.fr.toNat S:=by rw[hS];exact hI _ (by omega)
 have DG:=Ak.ri;have h40:=Ak.len;have uj:=Ak.t0;have LB:=Ak.t1
 have agF:S.ho.length<=1000:=by omega
 have w1:IntKind.i64.wrap (S.ta.get b.fr.toNat+1)=S.ta.get b.fr.toNat+1:=wrap_i64 (by omega) (by omega)
 have pR:dr d b k0 m s=S:=by rw[hS];unfold dr;rw[Nat.min_eq_left oD]
 have Mh:gC d b k0 m s=S.ho:=by rw[hS];unfold gC;rw[if_pos oD,Nat.min_eq_left oD]
 have Mp:jr m er s=0:=if_pos oD
 have mh:(dm d b k0 m n er).vals s=[re P]:=by
  show [re (b.ps.getD (k0+s) default)]=_
  rw[getD_at hlen,oV]
 have Zj:bB S.ho P.pa=true->(dm d b k0 m n er).st s=some .ret/\dr d b k0 m (s+1)=S/\gC d b k0 m (s+1)=S.ho/\jr m er (s+1)=96:=fun hh=>by
  have iR:s=m:=by
   rcases Nat.lt_or_ge s m with h1 | h1
   ·have h2:=(hw.good s h1 hlen)
    rw[<-hS,<-oV]at h2
    rw[IP _ _ _ h2.1 hh]at h2
    exact absurd h2.2 (by decide)
   ·omega
  subst iR
  have aj:er≠0:=by rcases hw.hn with⟨_,h1,_⟩ | ⟨h1,_,_⟩<;>first | exact h1 | omega
  have h2:=hw.bad aj hlen
  rw[<-hS,<-oV]at h2
  rw[IP _ _ _ h2.1 hh]at h2
  refine⟨if_neg (Nat.lt_irrefl _),?_,?_,?_⟩
  ·rw[hS];unfold dr;rw[Nat.min_eq_right (Nat.le_succ _)]
  ·unfold gC;rw[if_neg (by omega),getD_at hlen,<-hS,<-oV,Cf hh]
  ·unfold jr;rw[if_neg (by omega)];exact h2.2.symm
 have Zi:bB S.ho P.pa=false->40<(cE S.ho P.pa).length->(dm d b k0 m n er).st s=some .ret/\dr d b k0 m (s+1)=S/\gC d b k0 m (s+1)=cE S.ho P.pa/\jr m er (s+1)=2:=fun hh hl=>by
  have iR:s=m:=by
   rcases Nat.lt_or_ge s m with h1 | h1
   ·have h2:=(hw.good s h1 hlen)
    rw[<-hS,<-oV]at h2
    rw[IN _ _ _ h2.1 hh hl]at h2
    exact absurd h2.2 (by decide)
   ·omega
  subst iR
  have aj:er≠0:=by rcases hw.hn with⟨_,h1,_⟩ | ⟨h1,_,_⟩<;>first | exact h1 | omega
  have h2:=hw.bad aj hlen
  rw[<-hS,<-oV]at h2
  rw[IN _ _ _ h2.1 hh hl]at h2
  refine⟨if_neg (Nat.lt_irrefl _),?_,?_,?_⟩
  ·rw[hS];unfold dr;rw[Nat.min_eq_right (Nat.le_succ _)]
  ·unfold gC;rw[if_neg (by omega),getD_at hlen,<-hS,<-oV,Cg hh]
  ·unfold jr;rw[if_neg (by omega)];exact h2.2.symm
 have Zh:bB S.ho P.pa=false->¬ 40<(cE S.ho P.pa).length->(dm d b k0 m n er).st s=none/\dr d b k0 m (s+1)=⟨cE S.ho P.pa,S.un,S.se,S.ta.set b.fr.toNat (S.ta.get b.fr.toNat+1)⟩/\gC d b k0 m (s+1)=cE S.ho P.pa/\jr m er (s+1)=0:=fun hh hl=>by
  have iR:s<m:=by
   rcases Nat.lt_or_ge s m with h1 | h1
   ·exact h1
   ·have iR:s=m:=by omega
    subst iR
    have aj:er≠0:=by rcases hw.hn with⟨_,h1,_⟩ | ⟨h1,_,_⟩<;>first | exact h1 | omega
    have h2:=hw.bad aj hlen
    rw[<-hS,<-oV]at h2
    rw[IM _ _ _ h2.1 hh hl]at h2
    exact absurd h2.2.symm aj
  have h2:=(hw.good s iR hlen).1
  have h3:=Hr b.fr.toNat b.ps (bP d b) hlen h2
  have h4:oT d b (k0+(s+1))=⟨cE S.ho P.pa,S.un,S.se,S.ta.set b.fr.toNat (S.ta.get b.fr.toNat+1)⟩:=by
   rw[hS,oV];exact h3
  have h5:dr d b k0 m (s+1)=oT d b (k0+(s+1)):=by unfold dr;rw[Nat.min_eq_left iR]
  refine⟨if_pos iR,h5.trans h4,?_,if_pos iR⟩
  unfold gC;rw[if_pos (show s+1<=m from iR),Nat.min_eq_left (show s+1<=m from iR),h4]
 have qf:(dm d b k0 m n er).fam (LR 7) s=[.box ((aq zD).map .v),.box [.v (vInt 0)],.box [.ref [3,1] 0],.box (bu (d.setN S) [4,1] S.ho.length),.arr 1 (S.ho.map vInt),.box ((aT b).map .v),.box [.ref [3,1] (14+b.fr.toNat)]]:=by
  show [O.box ((aq zD).map .v),.box [.v (vInt (jr m er s))],.box [.ref [3,1] 0],.box (bu (d.setN (dr d b k0 m s)) [4,1] (dr d b k0 m s).ho.length),.arr 1 ((gC d b k0 m s).map vInt),.box ((aT b).map .v),.box [.ref [3,1] (14+b.fr.toNat)]]=_
  rw[pR,Mh,Mp]
 have qb:(dm d b k0 m n er).fam (LR 7) (s+1)=[.box ((aq zD).map .v),.box [.v (vInt (jr m er (s+1)))],.box [.ref [3,1] 0],.box (bu (d.setN (dr d b k0 m (s+1))) [4,1] (dr d b k0 m (s+1)).ho.length),.arr 1 ((gC d b k0 m (s+1)).map vInt),.box ((aT b).map .v),.box [.ref [3,1] (14+b.fr.toNat)]]:=rfl
 have YQ:(dm d b k0 m n er).m=7:=rfl
 rw[YQ,qf,qb,mh]
 clear qb pR Mh Mp
 generalize dr d b k0 m (s+1)=S1 at *
 generalize gC d b k0 m (s+1)=L1 at *
 generalize jr m er (s+1)=E1 at *
 generalize hx:(dm d b k0 m n er).st s=X1 at *
 generalize oF:[O.box ((aq zD).map .v),.box [.v (vInt 0)],.box [.ref [3,1] 0],.box (bu (d.setN S) [4,1] S.ho.length),.arr 1 (S.ho.map vInt),.box ((aT b).map .v),.box [.ref [3,1] (14+b.fr.toNat)]]=os
 have hO:∀ hs,bU [0] (bL [0] hs) (a8 os)=True:=by
  subst oF
  refine fun hs=>eq_true (vK ?_ hs)
  intro o ho dom hd
  simp only[List.mem_cons,List.not_mem_nil,or_false]at ho
  rcases ho with rfl | rfl | rfl | rfl | rfl | rfl | rfl<;>simp[O.clos,D.closL,D.clos,qy,xy,hd]
 have h0:a8 os [0,1]=some (.box ((aq zD).map .v)):=by subst oF;rfl
 have h1:a8 os [1,1]=some (.box [.v (vInt 0)]):=by subst oF;rfl
 have h2:a8 os [2,1]=some (.box [.ref [3,1] 0]):=by subst oF;rfl
 have h3:a8 os [3,1]=some (.box (bu (d.setN S) [4,1] S.ho.length)):=by subst oF;rfl
 have h4:a8 os [4,1]=some (.arr 1 (S.ho.map vInt)):=by subst oF;rfl
 have h5:a8 os [5,1]=some (.box ((aT b).map .v)):=by subst oF;rfl
 have h6:a8 os [6,1]=some (.box [.ref [3,1] (14+b.fr.toNat)]):=by subst oF;rfl
 generalize hH:a8 os=H at *
 clear oF hH qf
 have gF:=PF hO
 have fO:True:=trivial
 have Yr:yj Tryd.f18=(_,_,_):=rfl
 refine xr (QG 106 [0] H [(3,⟨true,.v (.ptr (aT b))⟩),(4,⟨true,.ref [0,1] 0⟩),(5,⟨true,.ref [1,1] 0⟩),(7,⟨true,.ref [2,1] 0⟩),(59,⟨true,re P⟩)] [] rfl rfl (fun _ _=>rfl) ?_ (by simp) ?_ ?_) ?_
 ·intro q hq
  simp only[List.mem_cons,List.not_mem_nil,or_false]at hq
  rcases hq with rfl | rfl | rfl | rfl | rfl<;>rfl
 ·simp[D.clos,D.closL,bL,own,re]
 ·rw[hO];trivial
 simp only[dm,Yr,re]
 refine lF ?_
 repeat refine sq ?_
 refine aX hΓ fun K' hK=>?_
 simp only[go_sem,hO,h0,h1,h2,h3,h4]
 repeat (refine⟨ah,?_⟩)
 refine hK _ ?_
 clear K' hK
 try simp only[go_sem]
 (show CW _ _ _ _)
 refine lF ?_
 repeat refine sq ?_
 refine aL ?_
 repeat refine sq ?_
 refine dx hΓ hP [[],[0],[0,1],[0,1,2],[0,1,2,3],[0,1,2,3,4],[],[6],[0,1,2,3,4,5,6,7],[0,1,2,3,4,5,6,7,8],[0,1,2,3,4,5,6,7,8,9],[0,1,2,3,4,5,6,7,8,9],[0,1,2,3,4,5,6,7,8,9,10],[0,1,2,3,4,5,6,7,8,9,10,11,12]] [3,4,5,7,9,10] [[3,0],[4,0],[5,0],[7,0]] (by kernel_rfl) (fun K' hK=>by simp only[go_sem,hO,gF,fO,h0,h1,h2,h3,h4];(repeat (refine⟨ah,?_⟩));(first | refine⟨by rfl,?_⟩ | skip);exact hK _ (by simp only[go_sem,hO,gF,fO,h0,h1,h2,h3,h4]) (by simp only[go_sem,hO,gF,fO,h0,h1,h2,h3,h4]<;>rfl)) ?_
 obtain⟨H2,kq⟩:∃ H2,upd H [4,1] (some (O.arr 1 (List.map vInt (jF S.ho P.pa))))=H2:=⟨_,rfl⟩
 rw[kq]
 replace hO:=PF hO
 replace hO:∀ hs,bU [0] (bL [0] hs) H2=True:=fun hs=>by rw[<-kq];exact hO _ _ _
 replace gF:True:=trivial
 have fO:=acG hO
 replace h0:=(show H2 [0,1]=H [0,1]by rw[<-kq,aK _ _ _ (by decide)]).trans h0
 replace h1:=(show H2 [1,1]=H [1,1]by rw[<-kq,aK _ _ _ (by decide)]).trans h1
 replace h2:=(show H2 [2,1]=H [2,1]by rw[<-kq,aK _ _ _ (by decide)]).trans h2
 replace h3:=(show H2 [3,1]=H [3,1]by rw[<-kq,aK _ _ _ (by decide)]).trans h3
 replace h4:H2 [4,1]=some (O.arr 1 (List.map vInt (jF S.ho P.pa))):=by rw[<-kq,aG]
 replace h5:=(show H2 [5,1]=H [5,1]by rw[<-kq,aK _ _ _ (by decide)]).trans h5
 replace h6:=(show H2 [6,1]=H [6,1]by rw[<-kq,aK _ _ _ (by decide)]).trans h6
 clear kq
 repeat refine sq ?_
 refine aL ?_
 repeat refine sq ?_
 refine rx hΓ [3,4,5,7,9,72] [[3,0],[4,0],[5,0],[7,0]] (fun K' hK=>by simp only[go_sem,hO,gF,fO,h0,h1,h2,h3,h4];(repeat (refine⟨ah,?_⟩));exact hK _ (by simp only[go_sem,hO,gF,fO,h0,h1,h2,h3,h4]) (by simp only[go_sem,hO,gF,fO,h0,h1,h2,h3,h4]<;>rfl)) ?_
 repeat refine sq ?_
 refine aw rfl rfl (fun hb=>?_) (fun hb=>?_)
 ·repeat refine sq ?_
  have hh:bB S.ho P.pa=true:=by simpa using hb
  obtain⟨g1,g2,g3,g4⟩:=Zj hh
  refine On hΓ fun K' hK=>?_
  simp only[go_sem,hO,gF,fO,h0,h1,h2,h3,h4]
  repeat (refine⟨ah,?_⟩)
  refine hK _ ?_
  clear K' hK
  refine aN (Bv [0,1] _ (aq zD) rfl rfl) ?_
  refine av ?_
  simp only[go_sem,hO,gF,fO,h0,h1,h2,h3,h4]
  rw[g1,g2,g3,g4]
  refine⟨rfl,?_⟩
  rw[Cf hh]at h4
  show dE _ [[0,1],[1,1],[2,1],[3,1],[4,1],[5,1],[6,1]] _
  simp only[dE,go_sem,h0,h1,h2,h3,h4,h5,h6]
  try trivial
 ·repeat refine sq ?_
  have hh:bB S.ho P.pa=false:=by simpa using hb
  have rX:=Cg hh
  repeat refine sq ?_
  refine rx hΓ [3,4,5,7,9,76] [[3,0],[4,0],[5,0],[7,0]] (fun K' hK=>by simp only[go_sem,hO,gF,fO,h0,h1,h2,h3,h4,List.length_map];(repeat (refine⟨ah,?_⟩));exact hK _ (by simp only[go_sem,hO,gF,fO,h0,h1,h2,h3,h4,List.length_map]) (by simp only[go_sem,hO,gF,fO,h0,h1,h2,h3,h4,List.length_map]<;>rfl)) ?_
  repeat refine sq ?_
  refine aw rfl rfl (fun hb=>?_) (fun hb=>?_)
  ·repeat refine sq ?_
   have hl:40<(cE S.ho P.pa).length:=by have h9:=of_decide_eq_true hb;rw[rX]at h9;omega
   obtain⟨g1,g2,g3,g4⟩:=Zi hh hl
   refine On hΓ fun K' hK=>?_
   simp only[go_sem,hO,gF,fO,h0,h1,h2,h3,h4]
   repeat (refine⟨ah,?_⟩)
   refine hK _ ?_
   clear K' hK
   refine aN (Bv [0,1] _ (aq zD) rfl rfl) ?_
   refine av ?_
   simp only[go_sem,hO,gF,fO,h0,h1,h2,h3,h4]
   rw[g1,g2,g3,g4]
   refine⟨rfl,?_⟩
   rw[rX]at h4
   show dE _ [[0,1],[1,1],[2,1],[3,1],[4,1],[5,1],[6,1]] _
   simp only[dE,go_sem,h0,h1,h2,h3,h4,h5,h6]
   try trivial
  ·repeat refine sq ?_
   have hl:¬ 40<(cE S.ho P.pa).length:=by have h9:=of_decide_eq_false hb;rw[rX]at h9;omega
   obtain⟨g1,g2,g3,g4⟩:=Zh hh hl
   refine aA ?_
   refine dA ?_
   simp only[go_sem]
   refine kz [3,4,5,7,9] [[3,0],[4,0],[5,0],[7,0]] ?_ ?_
   ·simp only[go_sem,hO,gF,fO,h0,h1,h2,h3,h4]
   simp only[go_sem,hO,gF,fO,h0,h1,h2,h3,h4]
   repeat refine sq ?_
   refine rx hΓ [3,4,5,7] [[3,0],[4,0],[5,0],[7,0]] (fun K' hK=>by simp only[go_sem,hO,gF,fO,h0,h1,h2,h3,h4];(repeat (refine⟨ah,?_⟩));exact hK _ (by simp only[go_sem,hO,gF,fO,h0,h1,h2,h3,h4]) (by simp only[go_sem,hO,gF,fO,h0,h1,h2,h3,h4]<;>rfl)) ?_
   obtain⟨H3,ko⟩:∃ H3,upd H2 [3,1] (some (O.box (bu (d.setN S) [4,1] (jF S.ho P.pa).length)))=H3:=⟨_,rfl⟩
   rw[ko]
   replace hO:∀ hs,bU [0] (bL [0] hs) H3=True:=fun hs=>by rw[<-ko];exact fO _ _ _
   replace fO:True:=trivial
   replace h0:=(show H3 [0,1]=H2 [0,1]by rw[<-ko,aK _ _ _ (by decide)]).trans h0
   replace h1:=(show H3 [1,1]=H2 [1,1]by rw[<-ko,aK _ _ _ (by decide)]).trans h1
   replace h2:=(show H3 [2,1]=H2 [2,1]by rw[<-ko,aK _ _ _ (by decide)]).trans h2
   replace h3:H3 [3,1]=some (O.box (bu (d.setN S) [4,1] (jF S.ho P.pa).length)):=by rw[<-ko,aG]
   replace h4:=(show H3 [4,1]=H2 [4,1]by rw[<-ko,aK _ _ _ (by decide)]).trans h4
   replace h5:=(show H3 [5,1]=H2 [5,1]by rw[<-ko,aK _ _ _ (by decide)]).trans h5
   replace h6:=(show H3 [6,1]=H2 [6,1]by rw[<-ko,aK _ _ _ (by decide)]).trans h6
   clear ko
   repeat refine sq ?_
   refine xu hΓ hP [[],[],[1],[0],[0,3],[0,3,4],[0,3,4,5],[0,1,2,3,4,5,6],[0,1,2,3,4,5,6,7],[0,1,2,3,4,5,6,7,8],[0],[0,10],[0,10,11],[0,10,11,12],[0,1,2,3,4,5,6,7,8,9,10,11,12,13],[0,1,2,3,4,5,6,7,8,9,10,11,12,13,14]] (by kernel_rfl) fun K' hK=>?_
   simp only[go_sem,hO,gF,fO,h0,h1,h2,h3,h4,sO _ _ _ hf,abW _ _ _ _ hf,w1,qf,wP]
   repeat (refine⟨ah,?_⟩)
   first | refine⟨by rfl,?_⟩ | skip
   refine hK _ ?_
   clear K' hK
   try simp only[go_sem]
   refine dA ?_
   rw[g1,g2,g3,g4]
   refine⟨rfl,?_⟩
   rw[rX]at h4 |-
   show dE _ [[0,1],[1,1],[2,1],[3,1],[4,1],[5,1],[6,1]] _
   simp only[dE,go_sem,h0,h1,h2,h3,h4,h5,h6]
   try trivial
def yJ(Ls:List Name):List D:=[.ref (Ls.getD 5 []) 0,.ref (Ls.getD 6 []) 0]
theorem Uk(d:Dk)(b:Bag)(k0 m n:Nat)(er:Int):GN (dm d b k0 m n er) yJ where
 ren:=fun f Ls h=>by obtain⟨x1,x2,x3,x4,x5,x6,x7,rfl⟩:=pG h;rfl
 clo:=fun dom Ls h hd=>by
  obtain⟨a,c,e,f,g,x,y,rfl⟩:=pG h
  have h4:=hd x (by simp)
  have h5:=hd y (by simp)
  simp[yJ,D.closL,D.clos,h4,h5]
 reach:=fun Ls s obj R k h iT hF hR=>by
  obtain⟨a,c,e,f,g,x,y,rfl⟩:=pG h
  obtain⟨h1,h2,h3,h4,h5,h6,h7,_⟩:=hF
  simp only[List.getD_cons_zero,List.getD_cons_succ]at h1 h2 h3 h4 h5 h6 h7
  have en:dS (((dm d b k0 m n er).env [a,c,e,f,g,x,y]).map (·.d))=[a,c,e,x,y]:=rfl
  have ZW:obj R=some (.loop ((dm d b k0 m n er).env [a,c,e,f,g,x,y]) (dm d b k0 m n er).ps (dm d b k0 m n er).asg (dm d b k0 m n er).body .ready none):=hR
  clear hR
  generalize (dm d b k0 m n er).env [a,c,e,f,g,x,y]=EV at *
  have ec:dS (yJ [a,c,e,f,g,x,y])=[x,y]:=rfl
  rw[ec]
  show dQ obj (k+190+1+1+1+1+1+1+1+1+1+1+1) [R,x,y] []=_
  simp only[List.nodup_cons,List.mem_cons,List.not_mem_nil,or_false,not_or,not_false_eq_true,List.nodup_nil,and_true]at iT
  obtain⟨⟨d1,d2,d3,d4,d5,d6,d7⟩,⟨a1,a2,a3,a4,a5,a6⟩,⟨b1,b2,b3,b4,b5⟩,⟨c1,c2,c3,c4⟩,⟨e1,e2,e3⟩,⟨f1,f2⟩,g1⟩:=iT
  simp[dQ,iw,ZW,en,h1,h2,h3,h4,h5,h6,h7,nl,dS,vO,yV,yW,Ne.symm d1,Ne.symm d2,Ne.symm d3,Ne.symm d4,Ne.symm d5,Ne.symm d6,Ne.symm d7,Ne.symm a1,Ne.symm a2,Ne.symm a3,Ne.symm a4,Ne.symm a5,Ne.symm a6,Ne.symm b1,Ne.symm b2,Ne.symm b3,Ne.symm b4,Ne.symm b5,Ne.symm c1,Ne.symm c2,Ne.symm c3,Ne.symm c4,Ne.symm e1,Ne.symm e2,Ne.symm e3,Ne.symm f1,Ne.symm f2,Ne.symm g1]
theorem yI{d:Dk}{b:Bag}{k0 m n:Nat}{er:Int}(hw:lU d b k0 m n er):∀ j,j+1<(dm d b k0 m n er).n->(dm d b k0 m n er).st j=none:=fun j hj=>by
 have h1:=(Cr hw).2.1
 have gl:j+1<n:=hj
 exact if_pos (by omega)
theorem Tm{d:Dk}{b:Bag}{k0 m n:Nat}{er:Int}(hw:lU d b k0 m n er)(hb:fR b=true)(hI:∀ z,z<=k0+m->ph b.fr.toNat (oT d b z)):an Tryd.prog 73 ((dm d b k0 m n er).itC yJ).toSpec:=by
 have aa:=Cs hw hb
 have cF:=yI hw
 obtain⟨qf,wP,hf,bG,DP,LA,Ly⟩:=sP hb
 obtain⟨c,hc,h⟩:=QW (Ub hw hb hI) hw hf bG (fun z hz=>⟨(hI z hz).t0,(hI z hz).t1⟩) (J:=(dm d b k0 m n er).J) (fun s=>by rw[Lp.J_len aa,Lp.J_len aa]) (fun s=>Lp.J_clos aa s)
  (fun s=>rfl) (fun s=>rfl) (e:=fun s=>d.setN (dr d b k0 m s)) (q:=fun s=>(dr d b k0 m s).ho.length) (fun s=>rfl)
  (fun s hs=>by show (dr d b k0 m s).ta.get _=_;unfold dr;rw[Nat.min_eq_left hs])
  (fun s hs obj tm ho=>by
    have h1:=Lp.y_setJ aa cF (s:=s) hs obj tm ho
    have h2:((dm d b k0 m n er).st s).isNone=decide (s<m):=by
     show (if s<m then(none:Option Code)else some .ret).isNone=_
     by_cases h3:s<m
     ·rw[if_pos h3,decide_eq_true h3];rfl
     ·rw[if_neg h3,decide_eq_false h3];rfl
    rw[h2]at h1
    exact h1)
 refine Lp.itJ_sound aa cF Tryd.func73 Tryd.ntmps73 (by rfl) (by kernel_rfl) (by decide) ⟨c,hc,lb rfl,?_⟩
 exact h
theorem V6(b:Bag)(l:List Par):gb (eU b) l=jz l b.ta l.length:=by
 unfold gb jz
 rw[List.take_length]
 congr 1
 funext p
 unfold eU
 by_cases h:p.no<=b.ta
 ·rw[decide_eq_true h,decide_eq_false (show ¬ p.no>b.ta by omega)];rfl
 ·rw[decide_eq_false h,decide_eq_true (show p.no>b.ta by omega)];rfl
theorem TR(b:Bag):∃ j,j<6/\(fR b=true->b.fr.toNat=j):=by
 by_cases h:b.fr.toNat<6
 ·exact⟨b.fr.toNat,h,fun _=>rfl⟩
 ·exact⟨0,by omega,fun hk=>absurd (sP hk).2.2.1 h⟩
theorem M2{b:Bag}{e:Dk}{n off:Nat}{l:List V}{obj:Name->Option O}{t nm h:Name}(h1:obj nm=some (.box (bu e h n)))(h2:obj h=some (.arr 1 l))(hn:nm≠h):
 S66.foot obj t [.v (.agg (aT b)),.ref nm off]=[nm,h]++[]++[[2,0]++t,[3,0]++t]/\S66.wrt obj t [.v (.agg (aT b)),.ref nm off]=[[2,0]++t,[3,0]++t]:=by
 have hr:reach obj [.v (.agg (aT b)),.ref nm off]=[nm,h]:=by
  unfold reach
  show dQ obj (2996+1+1+1+1) [nm] []=[nm,h]
  simp[dQ,iw,h1,h2,nl,yW,Ne.symm hn]
 have gi:∀ os p,xc.out os [.v (.agg (aT b)),p]=⟨[],mA (.agg (aT b)) p,.clo (.func 73) [] [.ref [2,0] 0,.ref [3,0] 0]⟩:=fun _ _=>rfl
 have e2:cO obj [.v (.agg (aT b)),.ref nm off]=[.v (.agg (aT b)),.ref (cin [nm,h] nm) off]:=by
  unfold cO
  rw[hr]
  simp only[D.renL,D.ren]
 simp only[S66,CSpec.toSpec,hr,e2,gi,mA,List.map_nil,List.map_cons,List.nil_append,and_self]
noncomputable def PU(j:Nat):List (Nat×Spec):=[(39,S23),(47,S40),(43,Bj j),(48,S64),(50,S66)]
attribute [go_sem] PU
theorem ac2{j:Nat}(hj:j<6):∀ f s,tbl (PU j) f=some s->an Tryd.prog f s:=tc rE<|tc Xd<|tc (KX j hj)<|tc WZ<|tc WX<|tn
@[go_sem] theorem ahx(b:Bag):List.take 4 (aT b)=aT b:=rfl
theorem Ug{d:Dk}{b:Bag}{k0 m n:Nat}{er:Int}(hw:lU d b k0 m n er)(Ls:List Name):(dm d b k0 m n er).fam Ls 0=[.box ((aq zD).map .v),.box [.v (vInt 0)],.box [.ref (Ls.getD 3 []) 0],.box (bu (d.setN (bP d b)) (Ls.getD 4 []) d.now.ho.length),.arr 1 (d.now.ho.map vInt),.box ((aT b).map .v),.box [.ref (Ls.getD 3 []) (14+b.fr.toNat)]]:=by
 have t0:oT d b k0=bP d b:=hw.T0 k0 (Nat.le_refl _)
 have h1:dr d b k0 m 0=bP d b:=by unfold dr;rw[Nat.zero_min,Nat.add_zero];exact t0
 have h2:gC d b k0 m 0=d.now.ho:=by unfold gC;rw[if_pos (Nat.zero_le _),Nat.zero_min,Nat.add_zero,t0];rfl
 have h3:jr m er 0=0:=if_pos (Nat.zero_le _)
 show [O.box ((aq zD).map .v),.box [.v (vInt (jr m er 0))],.box [.ref (Ls.getD 3 []) 0],.box (bu (d.setN (dr d b k0 m 0)) (Ls.getD 4 []) (dr d b k0 m 0).ho.length),.arr 1 ((gC d b k0 m 0).map vInt),.box ((aT b).map .v),.box [.ref (Ls.getD 3 []) (14+b.fr.toNat)]]=_
 rw[h1,h2,h3]
 rfl
theorem Ue{d:Dk}{b:Bag}{k0 m:Nat}{er:Int}(Ls:List Name):(dm d b k0 m m er).fam Ls m=[.box ((aq zD).map .v),.box [.v (vInt 0)],.box [.ref (Ls.getD 3 []) 0],.box (bu (d.setN (oT d b (k0+m))) (Ls.getD 4 []) (oT d b (k0+m)).ho.length),.arr 1 ((oT d b (k0+m)).ho.map vInt),.box ((aT b).map .v),.box [.ref (Ls.getD 3 []) (14+b.fr.toNat)]]:=by
 have h1:dr d b k0 m m=oT d b (k0+m):=by unfold dr;rw[Nat.min_self]
 have h2:gC d b k0 m m=(oT d b (k0+m)).ho:=by unfold gC;rw[if_pos (Nat.le_refl _),Nat.min_self]
 have h3:jr m er m=0:=if_pos (Nat.le_refl _)
 show [O.box ((aq zD).map .v),.box [.v (vInt (jr m er m))],.box [.ref (Ls.getD 3 []) 0],.box (bu (d.setN (dr d b k0 m m)) (Ls.getD 4 []) (dr d b k0 m m).ho.length),.arr 1 ((gC d b k0 m m).map vInt),.box ((aT b).map .v),.box [.ref (Ls.getD 3 []) (14+b.fr.toNat)]]=_
 rw[h1,h2,h3]
theorem Uf{d:Dk}{b:Bag}{k0 m:Nat}{er:Int}(Ls:List Name):∃ X Y,(dm d b k0 m (m+1) er).fam Ls (m+1)=[.box ((aq zD).map .v),.box [.v (vInt er)],.box [.ref (Ls.getD 3 []) 0],.box (bu X (Ls.getD 4 []) Y),.arr 1 ((gC d b k0 m (m+1)).map vInt),.box ((aT b).map .v),.box [.ref (Ls.getD 3 []) (14+b.fr.toNat)]]:=by
 have h3:jr m er (m+1)=er:=if_neg (by omega)
 refine⟨d.setN (dr d b k0 m (m+1)),(dr d b k0 m (m+1)).ho.length,?_⟩
 show [O.box ((aq zD).map .v),.box [.v (vInt (jr m er (m+1)))],.box [.ref (Ls.getD 3 []) 0],.box (bu (d.setN (dr d b k0 m (m+1))) (Ls.getD 4 []) (dr d b k0 m (m+1)).ho.length),.arr 1 ((gC d b k0 m (m+1)).map vInt),.box ((aT b).map .v),.box [.ref (Ls.getD 3 []) (14+b.fr.toNat)]]=_
 rw[h3]
theorem Ud{d:Dk}{b:Bag}{k0 m:Nat}{er:Int}(hw:lU d b k0 m m er):(dm d b k0 m m er).pd=none:=by
 obtain⟨_,h1,h2⟩:=Lp.last_e (yI hw)
 cases m with
 |zero=>exact h1 rfl
 |succ m=>rw[h2 m rfl];exact if_pos (Nat.lt_succ_self m)
theorem Uc{d:Dk}{b:Bag}{k0 m:Nat}{er:Int}(hw:lU d b k0 m (m+1) er):(dm d b k0 m (m+1) er).pd=some .ret:=by
 obtain⟨_,h1,h2⟩:=Lp.last_e (yI hw)
 rw[h2 m rfl]
 exact if_neg (Nat.lt_irrefl m)
theorem OI(d:Dk)(s:Stk)(hn:Name)(n:Nat):(bu (d.setN s) hn n).set 1 (.v (.sl (s.ho.map vInt)))=List.map D.v (aq (d.setN s)):=rfl
noncomputable def P16:PSpec:=p2 dV oz (fun d _=>dZ d) (fun d b=>.tup [encDk (eK d b),vInt (fZ d b)]) false
noncomputable def S16:Spec:=P16.toSpec
attribute [go_sem] P16 S16
set_option maxHeartbeats 8000000 in
theorem S9:aZ Tryd.prog 18 P16:=by
 refine w2 (rs:=[.cell 4 44,.cell 5 45]) Tryd.func18 Tryd.ntmps18 (by rfl) (by kernel_rfl) (by decide) (fun h=>by cases h) ⟨_,rfl,lb rfl,fun d b hp hw=>?_⟩
 have hP:=bn
 simp only[oz,dV]at hw |-
 obtain⟨j,hj,sd⟩:=TR b
 have hΓ:=ac2 hj
 have hs:dZ d:=hp
 repeat refine sq ?_
 refine rx hΓ [2,3,4,5] [[2,0],[3,0],[4,0],[5,0]] (fun K' hK=>by simp only[go_sem];(repeat (refine⟨ah,?_⟩));exact hK _ (by simp only[go_sem]) (by simp only[go_sem]<;>rfl)) ?_
 refine aN (Bu 3 (.ref [3,0] 0) (by simp only[go_sem]) (by simp only[go_sem]) [2,3,4,5] [[2,0],[3,0],[4,0],[5,0]] ?_ rfl) ?_
 ·simp only[go_sem]
 simp only[go_sem]
 refine aN (nU [4,0] _ (aq zD) rfl rfl [2,3,4,5] [[2,0],[3,0],[4,0],[5,0]] ?_ rfl) ?_
 ·simp only[go_sem]
 simp only[go_sem]
 refine aN (cX [2,0] (aq d) rfl [2,3,4,5] [[2,0],[3,0],[4,0],[5,0]] ?_ rfl) ?_
 ·simp only[go_sem]
 simp only[go_sem]
 repeat refine sq ?_
 refine rx hΓ [2,3,4,5,6] [[2,0],[3,0],[4,0],[5,0]] (fun K' hK=>by simp only[go_sem];(repeat (refine⟨ah,?_⟩));exact hK _ (by simp only[go_sem]) (by simp only[go_sem]<;>rfl)) ?_
 repeat refine sq ?_
 refine rx hΓ [2,3,4,5,6,14] [[2,0],[3,0],[4,0],[5,0]] (fun K' hK=>by simp only[go_sem];(repeat (refine⟨ah,?_⟩));exact hK _ (by simp only[go_sem]) (by simp only[go_sem]<;>rfl)) ?_
 repeat refine sq ?_
 refine aw rfl rfl (fun hb=>?_) (fun hb=>?_)
 ·repeat refine sq ?_
  have hd:=uT hb
  have hq:=Uo (b:=b) hd
  have e1:=ky hd
  repeat refine sq ?_
  refine rx hΓ [4,5] [[4,0],[5,0]] (fun K' hK=>by simp only[go_sem];(repeat (refine⟨ah,?_⟩));exact hK _ (by simp only[go_sem]) (by simp only[go_sem]<;>rfl)) ?_
  refine av ?_
  simp only[go_sem]
  first | (rw[hq.1,hq.2];done) | (rw[hq.1,hq.2];rfl) | (rw[hq.1,hq.2,e1];done) | (rw[hq.1,hq.2,e1];rfl)
 ·repeat refine sq ?_
  have hd:=uS hb
  refine aA ?_
  repeat refine sq ?_
  refine rx hΓ [2,3,4,5,26] [[2,0],[3,0],[4,0],[5,0]] (fun K' hK=>by simp only[go_sem,Nat.add_zero];(repeat (refine⟨ah,?_⟩));exact hK _ (by simp only[go_sem]) (by simp only[go_sem]<;>rfl)) ?_
  repeat refine sq ?_
  refine aw rfl rfl (fun hb=>?_) (fun hb=>?_)
  ·repeat refine sq ?_
   have h1:ku d b=false:=by have h4:=M6 d b;unfold As at h4;rw[hb]at h4;simpa using h4.symm
   have hq:=Uq hd h1
   repeat refine sq ?_
   refine rx hΓ [4,5] [[4,0],[5,0]] (fun K' hK=>by simp only[go_sem];(repeat (refine⟨ah,?_⟩));exact hK _ (by simp only[go_sem]) (by simp only[go_sem]<;>rfl)) ?_
   refine av ?_
   simp only[go_sem]
   first | (rw[hq.1,hq.2];done) | (rw[hq.1,hq.2];rfl) | (rw[hq.1,hq.2,e1];done) | (rw[hq.1,hq.2,e1];rfl)
  ·repeat refine sq ?_
   have h1:ku d b=true:=by have h4:=M6 d b;unfold As at h4;rw[hb]at h4;simpa using h4.symm
   have oU:fR b=true:=by unfold ku at h1;rw[Bool.and_eq_true]at h1;exact h1.1
   obtain⟨qf,wP,hf,bG,DP,LA,Ly⟩:=sP oU
   have p6:=sd oU
   subst p6
   have zz:=(yQ hd).unl b.fr.toNat hf
   have mz:=Ui (ta:=b.ta) hf hd
   have hI:=fun {z:Nat}=>IK (z:=z) hf mz (fun p hp=>(DP p hp).2.1)
   refine aA ?_
   repeat refine sq ?_
   refine rx hΓ [3,4,5,7] [[3,0],[4,0],[5,0],[7,0],[22,0,29,0],[12,0,5,0,29,0],[99,0,5,0,29,0]] (fun K' hK=>by simp only[go_sem,hs];(repeat (refine⟨ah,?_⟩));exact hK _ (by simp only[go_sem]) (by simp only[go_sem]<;>rfl)) ?_
   have EF:=abV d [12,0,5,0,29,0] [99,0,5,0,29,0] d.now.ho.length (d.now.un.get b.fr.toNat).length (d.now.se.get b.fr.toNat) (jz (d.now.un.get b.fr.toNat) b.ta (d.now.un.get b.fr.toNat).length) hf rfl
   replace EF:_=bu (d.setN (bP d b)) [12,0,5,0,29,0] d.now.ho.length:=EF
   have h66:∀ (F:Name->Option O),F [22,0,29,0]=some (.box (bu (d.setN (bP d b)) [12,0,5,0,29,0] d.now.ho.length))->F [12,0,5,0,29,0]=some (.arr 1 (d.now.ho.map vInt))->S66.app (fun nm=>if own [0] nm=true then F nm else none) [58,0] [.v (.agg (aT b)),.ref [22,0,29,0] (14+b.fr.toNat)]=⟨fresh (fun nm=>if own [0] nm=true then F nm else none) [58,0] (mA (.agg (aT b)) (.ref [22,0,29,0] (14+b.fr.toNat)))=true,.clo (.func 73) [] [.ref [2,0,58,0] 0,.ref [3,0,58,0] 0],upd (upd (fun nm=>if own [0] nm=true then F nm else none) [2,0,58,0] (some (.box ((aT b).map .v)))) [3,0,58,0] (some (.box [.ref [22,0,29,0] (14+b.fr.toNat)]))⟩:=fun F k1 k2=>aav (nm:=[22,0,29,0]) (h:=[12,0,5,0,29,0]) (by rw[<-k1];rfl) (by rw[<-k2];rfl) (by decide)
   have aam:∀ (F:Name->Option O),F [22,0,29,0]=some (.box (bu (d.setN (bP d b)) [12,0,5,0,29,0] d.now.ho.length))->F [12,0,5,0,29,0]=some (.arr 1 (d.now.ho.map vInt))->S66.foot (fun nm=>if own [0] nm=true then F nm else none) [58,0] [.v (.agg (aT b)),.ref [22,0,29,0] (14+b.fr.toNat)]=[[22,0,29,0],[12,0,5,0,29,0],[2,0,58,0],[3,0,58,0]]:=fun F k1 k2=>(M2 (nm:=[22,0,29,0]) (h:=[12,0,5,0,29,0]) (by rw[<-k1];rfl) (by rw[<-k2];rfl) (by decide)).1
   have aal:∀ (F:Name->Option O),F [22,0,29,0]=some (.box (bu (d.setN (bP d b)) [12,0,5,0,29,0] d.now.ho.length))->F [12,0,5,0,29,0]=some (.arr 1 (d.now.ho.map vInt))->S66.wrt (fun nm=>if own [0] nm=true then F nm else none) [58,0] [.v (.agg (aT b)),.ref [22,0,29,0] (14+b.fr.toNat)]=[[2,0,58,0],[3,0,58,0]]:=fun F k1 k2=>(M2 (nm:=[22,0,29,0]) (h:=[12,0,5,0,29,0]) (by rw[<-k1];rfl) (by rw[<-k2];rfl) (by decide)).2
   repeat refine sq ?_
   refine dx hΓ hP [[],[],[1],[],[],[4],[3],[3,6],[3,6,7],[3,6,7,8],[3,4,5,6,7,8,9],[3,4,5,6,7,8,9,10],[],[3,4,5,6,7,8,9,10,11,12],[0],[0,14],[0,14,15],[0,14,15,16],[0,1,2,3,4,5,6,7,8,9,10,11,12,13,14,15,16,17],[0,1,2,3,4,5,6,7,8,9,10,11,12,13,14,15,16,17,18]] [3,4,5,7] [[3,0],[4,0],[5,0],[7,0],[22,0,29,0],[12,0,5,0,29,0],[99,0,5,0,29,0]] (by kernel_rfl) (fun K' hK=>by simp only[go_sem,Oy d _ _ _ _ hf,qf,wP,V6,EF];(repeat (refine⟨ah,?_⟩));(first | refine⟨by rfl,?_⟩ | skip);exact hK _ (by simp only[go_sem]) (by simp only[go_sem]<;>rfl)) ?_
   repeat refine sq ?_
   refine dx hΓ hP [[],[],[],[2],[1],[1,4],[1,4,5],[1,4,5,6],[1,2,3,4,5,6,7],[0,1,2,3,4,5,6,7,8]] [3,4,5,7,58] [[3,0],[4,0],[5,0],[7,0],[22,0,29,0],[12,0,5,0,29,0],[99,0,5,0,29,0],[2,0,58,0],[3,0,58,0]] (by kernel_rfl) (fun K' hK=>by simp only[go_sem,qf,wP,h66,aam,aal];(repeat (refine⟨ah,?_⟩));(first | refine⟨by rfl,?_⟩ | skip);exact hK _ (by simp only[go_sem]) (by simp only[go_sem]<;>rfl)) ?_
   repeat refine sq ?_
   refine aL ?_
   repeat refine sq ?_
   obtain⟨k0,m,n,er,hw⟩:=T9 (d:=d) oU
   have Z9:∀ z,z<=k0+m->ph b.fr.toNat (oT d b z):=fun z hz=>hI (Nat.le_trans hz hw.hk) (hw.er0 z hz)
   have aa:=Cs hw oU
   have hM:=Tm hw oU Z9
   have cF:=yI hw
   have Ze:=Ug hw
   refine abG aa (Uk d b k0 m n er) 200 201 (f:=73) (Ls:=[[4,0],[5,0],[7,0],[22,0,29,0],[12,0,5,0,29,0],[2,0,58,0],[3,0,58,0]]) rfl rfl (by decide) hM rfl rfl rfl rfl rfl rfl (by decide) (show ([200,0]:Name)∉[[4,0],[5,0],[7,0],[22,0,29,0],[12,0,5,0,29,0],[2,0,58,0],[3,0,58,0]]by decide) (by rw[Ze];exact⟨rfl,rfl,rfl,rfl,rfl,rfl,rfl,trivial⟩) fun o=>?_
   rw[(Lp.last_e cF).1]
   show vI _ { aW _ _ _ _ _ with obj:=upd (et [[4,0],[5,0],[7,0],[22,0,29,0],[12,0,5,0,29,0],[2,0,58,0],[3,0,58,0]] ((dm d b k0 m n er).fam [[4,0],[5,0],[7,0],[22,0,29,0],[12,0,5,0,29,0],[2,0,58,0],[3,0,58,0]] n) _) _ _ } _
   rcases hw.hn with⟨Mq,hn,uw⟩ | ⟨aj,hn,uw⟩
   ·subst hn
    rw[Ud hw,Ue,uw]
    have z8:=hw.er0 (k0+n) (Nat.le_refl _)
    rw[uw]at z8
    have hq:=IU hd h1 z8
    simp only[vI,lu]
    refine dA ?_
    show CL Tryd.prog (_::_) _ _
    refine kz [4,5,7] [[4,0],[5,0],[7,0],[22,0,29,0],[12,0,5,0,29,0]] ?_ ?_
    ·simp only[go_sem,et]
    simp only[go_sem,et]
    refine aN (dK [22,0,29,0] [12,0,5,0,29,0] 1 _ _ _ _ rfl (abY _ _ _) rfl (by simp only[List.length_map]) [4,5,7] [[4,0],[5,0],[7,0],[22,0,29,0]] ?_ rfl) ?_
    ·simp only[go_sem,OI]
    simp only[go_sem,OI]
    repeat refine sq ?_
    refine rx hΓ [4,5] [[4,0],[5,0]] (fun K' hK=>by simp only[go_sem];(repeat (refine⟨ah,?_⟩));exact hK _ (by simp only[go_sem]) (by simp only[go_sem]<;>rfl)) ?_
    refine av ?_
    simp only[go_sem]
    rw[hq.1,hq.2]
   ·subst hn
    have hq:=Up hd h1 uw (hw.er0 (k0+m) (Nat.le_refl _)) (by rw[getD_at uw];exact(hw.bad aj uw).2) aj
    obtain⟨X,Y,ZO⟩:=Uf (d:=d) (b:=b) (k0:=k0) (m:=m) (er:=er) [[4,0],[5,0],[7,0],[22,0,29,0],[12,0,5,0,29,0],[2,0,58,0],[3,0,58,0]]
    rw[Uc hw,ZO]
    simp only[vI,lu]
    simp only[go_sem,et]
    rw[hq.1,hq.2]
theorem K5:an Tryd.prog 18 S16:=S9.sound
def XR:En (Int×Int×Int):=⟨fun n=>.agg [vInt n.1,vInt n.2.1,vInt n.2.2],fun v=>match v with | .agg [.int _ a,.int _ b,.int _ c]=>(a,b,c) | _=>(0,0,0)⟩
attribute [go_sem] XR
noncomputable def K65:List (Nat×Spec):=[(14,S8),(15,S10),(16,S12),(31,S14),(18,S16),(10,S19)]
attribute [go_sem] K65
structure Act where
 (kd dk pp to pi:Int)
 deriving Inhabited,DecidableEq
def j5(a:Act):List V:=[vInt a.kd,vInt a.dk,vInt a.pp,vInt a.to,vInt a.pi]
def rK:En Act:=⟨fun a=>.agg (j5 a),fun v=>match v with | .agg [.int _ a,.int _ b,.int _ c,.int _ d,.int _ e]=>⟨a,b,c,d,e⟩ | _=>default⟩
def bM(n:Int):List Int:=[10*n+1,10*n+4,10*n+7]
def gT(l:List Int)(n:Int):Int:=if l=[]then 1 else l.getD (n % (l.length:Int)).toNat 0
theorem aar{l:List Int}{i:Nat}(h:i<l.length):(l.map vInt).getD i default=vInt (l.getD i 0):=by
 simp[List.getD_eq_getElem?_getD,List.getElem?_eq_getElem h]
theorem TV{l:List Int}{n:Int}(h:l≠[]):gT l n=l.getD (n % (l.length:Int)).toNat 0:=if_neg h
noncomputable def P108:PSpec:=p1 iI (fun n=>0<=n/\n<6) (fun n=>.sl ((bM n).map vInt)) false
noncomputable def S108:Spec:=P108.toSpec
attribute [go_sem] P108 S108
theorem Tj:aZ Tryd.prog 29 P108:=by
 refine w1 (rs:=[.tmp 2]) Tryd.func29 Tryd.ntmps29 (by rfl) (by kernel_rfl) (by decide) (fun h=>by cases h) ⟨_,rfl,lb rfl,fun n hp hw=>?_⟩
 have hP:=bn
 simp only[iI]at hw |-
 have hΓ:=@nk Tryd.prog
 obtain⟨h0,h6⟩:=hp
 have w1:IntKind.i64.wrap (10*n)=10*n:=wrap_i64 (by omega) (by omega)
 have w2:IntKind.i64.wrap (10*n+1)=10*n+1:=wrap_i64 (by omega) (by omega)
 have w3:IntKind.i64.wrap (10*n+4)=10*n+4:=wrap_i64 (by omega) (by omega)
 have w4:IntKind.i64.wrap (10*n+7)=10*n+7:=wrap_i64 (by omega) (by omega)
 repeat refine sq ?_
 refine rs hΓ [0] [] ?_
 repeat refine sq ?_
 refine rx hΓ [2] [] (fun K' hK=>by simp only[go_sem,w1,w2,w3,w4];(repeat (refine⟨ob,?_⟩));exact hK _ (by simp only[go_sem]) (by simp only[go_sem]<;>rfl)) ?_
 refine av ?_
 simp only[go_sem]
 first | rfl
theorem Lb:an Tryd.prog 29 S108:=Tj.sound
noncomputable def PS:List (Nat×Spec):=[(12,S21)]
theorem ac1:∀ f s,tbl PS f=some s->an Tryd.prog f s:=tc K3<|tn
attribute [go_sem] PS
noncomputable def P121:PSpec:=p2 eO iI (fun l _=>l.length<=1000000) (fun l n=>vInt (gT l n)) true
noncomputable def S121:Spec:=P121.toSpec
attribute [go_sem] P121 S121
theorem Tb:aZ Tryd.prog 61 P121:=by
 refine w2 (rs:=[.tmp 4]) Tryd.func61 Tryd.ntmps61 (by rfl) (by kernel_rfl) (by decide) (fun _ _ _=>rfl) ⟨_,rfl,lb rfl,fun l n hp hw=>?_⟩
 have hP:=bn
 simp only[iI,eO]at hw |-
 have hΓ:=ac1
 replace hp:l.length<=1000000:=hp
 repeat refine sq ?_
 refine rs hΓ [0,1] [] ?_
 repeat refine sq ?_
 refine rs hΓ [0,1,7] [] ?_
 repeat refine sq ?_
 refine aw rfl rfl (fun hb=>?_) (fun hb=>?_)
 ·repeat refine sq ?_
  have e:l=[]:=by simpa using hb
  repeat refine sq ?_
  refine rs hΓ [4] [] ?_
  refine av ?_
  simp only[go_sem]
  first | (subst e;rfl) | (rw[gp];done) | (rw[gp];rfl)
 ·repeat refine sq ?_
  have aj:l≠[]:=by simpa using hb
  have bK:0<l.length:=List.length_pos_iff.2 aj
  have hm:(0:Int)<(l.length:Int)/\(l.length:Int)<=1000000:=⟨by omega,by omega⟩
  have g0:=Int.emod_nonneg n (by omega:(l.length:Int)≠0)
  have g1:=Int.emod_lt_of_pos n hm.1
  have gk:(n % (l.length:Int)).toNat<l.length:=by omega
  have gd:=aar gk
  have gp:=TV (n:=n) aj
  refine aA ?_
  repeat refine sq ?_
  refine rx hΓ [4] [] (fun K' hK=>by simp only[go_sem,g0,g1,gk,gd];(repeat (refine⟨by first | exact hm | exact ob,?_⟩));exact hK _ (by simp only[go_sem]) (by simp only[go_sem]<;>rfl)) ?_
  refine av ?_
  simp only[go_sem]
  first | (subst e;rfl) | (rw[gp];done) | (rw[gp];rfl)
theorem Xj:an Tryd.prog 61 S121:=Tb.sound
@[go_sem] theorem ahJ(a:Act):(j5 a).length=5:=rfl
@[go_sem] theorem ahP(a:Act):(j5 a).getD 0 default=vInt a.kd:=rfl
@[go_sem] theorem ahO(a:Act):(j5 a).getD 1 default=vInt a.dk:=rfl
@[go_sem] theorem ahN(a:Act):(j5 a).getD 2 default=vInt a.pp:=rfl
@[go_sem] theorem ahM(a:Act):(j5 a).getD 3 default=vInt a.to:=rfl
@[go_sem] theorem ahL(a:Act):(j5 a).getD 4 default=vInt a.pi:=rfl
@[go_sem] theorem agy(a:Act):rK.dec (.agg (j5 a))=a:=rfl
noncomputable def PR:List (Nat×Spec):=[(61,S121)]
theorem ac0:∀ f s,tbl PR f=some s->an Tryd.prog f s:=tc Xj<|tn
attribute [go_sem] PR
noncomputable def P109:PSpec:=p2 rK dV (fun _ d=>d.now.ho.length<=1000000) (fun a d=>vInt (gT d.now.ho a.pp)) true
noncomputable def S109:Spec:=P109.toSpec
attribute [go_sem] P109 S109
theorem Ti:aZ Tryd.prog 30 P109:=by
 refine w2 (rs:=[.tmp 4]) Tryd.func30 Tryd.ntmps30 (by rfl) (by kernel_rfl) (by decide) (fun _ _ _=>rfl) ⟨_,rfl,lb rfl,fun a d hp hw=>?_⟩
 have hP:=bn
 simp only[rK,dV]at hw |-
 have hΓ:=ac0
 replace hp:d.now.ho.length<=1000000:=hp
 repeat refine sq ?_
 refine rs hΓ [2,3] [[2,0],[3,0]] ?_
 refine aN (cX [2,0] (j5 a) rfl [2,3] [[2,0],[3,0]] ?_ rfl) ?_
 ·simp only[go_sem]
 simp only[go_sem]
 refine aN (cX [3,0] (aq d) rfl [2,3] [[2,0],[3,0]] ?_ rfl) ?_
 ·simp only[go_sem]
 simp only[go_sem]
 repeat refine sq ?_
 refine rx hΓ [4] [] (fun K' hK=>by simp only[go_sem,hp];(repeat (refine⟨by first | exact hp | exact ob,?_⟩));exact hK _ (by simp only[go_sem]) (by simp only[go_sem]<;>rfl)) ?_
 refine av ?_
 simp only[go_sem]
 skip
theorem Xo:an Tryd.prog 30 S109:=Ti.sound
def UE(d:Dk)(i:Nat):Bool:=((i:Int) != d.wet)&&aF d.me (d.pg i)
def yS(d:Dk):Nat->Int
 | 0=> -1
 |i+1=>if UE d i=true then(if (d.pg i).co>yS d i then(d.pg i).co else yS d i)else yS d i
def oh(d:Dk):Int:=yS d 2
noncomputable def acZ:List (Nat×Spec):=[]
attribute [go_sem] acZ
structure Sx where
 ds:aS Dk
 bs:List Bag
def fT(x:Sx):List V:=aq x.ds.a++(aq x.ds.b++(aq x.ds.c++(aq x.ds.d++(aq x.ds.e++(aq x.ds.f++[.sl (x.bs.map fQ)])))))
def zX:Sx:=⟨ef fun _=>zD,[]⟩
@[go_sem] theorem Rq(x:Sx):(fT x).length=379:=by kernel_rfl
@[go_sem] theorem Rs(x:Sx):(fT x).take 379=fT x:=by kernel_rfl
@[go_sem] theorem Rp(x:Sx):((fT x).map D.v).length=379:=by rw[List.length_map];exact Rq x
@[go_sem] theorem afR(x:Sx):((fT x).map D.v).take 379=(fT x).map D.v:=by rw[<-List.map_take,Rs]
@[go_sem] theorem afQ(x:Sx):((fT x).map D.v).drop 379=[]:=by rw[List.drop_eq_nil_iff,Rp];exact Nat.le_refl _
@[go_sem] theorem Rt(x:Sx):(fT x).getD 378 default=.sl (x.bs.map fQ):=by kernel_rfl
theorem Rr(x:Sx){i:Nat}(h:i<6):((fT x).drop (i*63)).take 63=aq (x.ds.get i):=
 jB (P:=fun i=>((fT x).drop (i*63)).take 63=aq (x.ds.get i)) (by kernel_rfl) (by kernel_rfl) (by kernel_rfl) (by kernel_rfl) (by kernel_rfl) (by kernel_rfl) h
def mK:Nat->Sx
 | 0=>zX
 |z+1=>⟨(mK z).ds.set z (rB z (bM z)),[]⟩
theorem Gg:∀ z,(mK z).bs=[]
 | 0=>rfl
 |_+1=>rfl
def p0(g:V)(fl:Bool):PSpec:=⟨fun xs=>xs=[],fun _=>g,fl⟩
theorem w0{P:Program}{f:FuncId}{fn:Func}{nt:Nat}{rs:List ResultVar}{g:V}{fl:Bool}(hf:P.funcs[f]?=some fn)(ff:fn.ntmps=nt)(fJ:fn.results.toList=rs)(hn:(fn.name== "runtime.NumGoroutine")=false)(hy:f<1000000000)
 (gm:fl=true->g.flat=true) (hb:∃ c,fn.body=some c/\0<=nt/\(True->V.wfL []->CL P [c] (aW nt [0] (fun _=>none) (gI 0 []) []) (py P rs g))):aZ P f (p0 g fl):=by
 obtain⟨c,hc,h1,h⟩:=hb
 refine vF hf ff fJ hn hy (fun e xs _=>gm e) ⟨c,hc,fun xs hp hw=>?_⟩
 have zG:xs=[]:=hp
 subst zG
 exact⟨h1,h trivial hw⟩
noncomputable def K68:List (Nat×Spec):=[(29,S108)]
attribute [go_sem] K68
end Go.Eng
