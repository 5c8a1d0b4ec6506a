import Derived.Test.YtepaolcgegdpoaaGreatK7
/- Texts LW42 to LW67. -/
set_option linter.all false
namespace Go.Eng
open Go Go.Proofs
set_option maxHeartbeats 8000000
set_option maxRecDepth 10000
noncomputable section
def du(k:Int)(f:Fol)(r:Rec):Bool:=(bY r.kn r.un k&&r.pa==f.pa)&&r.lv.contains f.le
def K42:List (Nat×Spec):=[(157,Ab),(15,rY)]
theorem aae:KS K42:=tc AP.sound<|tc xd.sound<|tn
attribute [go_sem] K42
@[go_sem] def P188:PSpec:=p3 nk iI kD (fun x a _=>0<=a/\a<x.l.rs.length) (fun x a f=>.bool (du x.k f (ax x.l a.toNat))) true
@[go_sem] def EE:Spec:=P188.toSpec
theorem PA:aW Tryz.prog 188 P188:=by
 refine kX (rs:=[.tmp 6]) Tryz.func188 Tryz.ntmps188 fun x a f hp hw=>?_
 simp only[kD,iI,nk,oQ]at hw |-
 have hΓ:=aae
 obtain⟨Wf,tv⟩:=hp
 obtain⟨n,rfl⟩:∃ n:Nat,a=n:=⟨a.toNat,by omega⟩
 have hn:n<x.l.rs.length:=by omega
 rw[ai,fg hn]
 repeat refine sq ?_
 refine rx hΓ [1,3,5] [[3,0],[5,0]] (fun K' hK=>by simp only[go_sem];exact an) ?_
 repeat refine sq ?_
 refine rx hΓ [3,5,7] [[3,0],[5,0],[7,0]] (fun K' hK=>by simp only[go_sem,ah hn,ai,ak,tv,List.length_map];exact an) ?_
 repeat refine sq ?_
 refine rx hΓ [6] [] (fun K' hK=>by simp only[go_sem,Bool.decide_and,Bool.decide_eq_true];exact an) ?_
 refine aA ?_
 simp only[go_sem]
 rfl
def fm(x:RV)(f:Fol)(day:Int):Nat->Int
 | 0=> -1
 |s+1=>if ((du x.k f (ax x.l s)&&decide ((ax x.l s).da<=day))&&(decide (fm x f day s<0)||decide ((ax x.l s).da>(ax x.l (fm x f day s).toNat).da)))=true then(s:Int)else fm x f day s
theorem Hz(x:RV)(f:Fol)(day:Int)(s:Nat):fm x f day s= -1\/∃ j,j<s/\fm x f day s=(j:Int):=by
 induction s with
 |zero=>exact .inl rfl
 |succ s ih=>
  unfold fm
  split
  ·exact .inr ⟨s,by omega,rfl⟩
  ·rcases ih with h | ⟨j,hj,h⟩
   ·exact .inl h
   ·exact .inr ⟨j,by omega,h⟩
def eg(x:RV)(f:Fol)(day:Int):Int:=fm x f day x.l.rs.length
def K42b:List (Nat×Spec):=[(188,EE)]
theorem aad:KS K42b:=tc PA.sound<|tn
attribute [go_sem] K42b
@[go_sem] def P159:PSpec:=p3 nk kD iI (fun x _ _=>bF x.l) (fun x f day=>vInt (eg x f day)) true
@[go_sem] def EF:Spec:=P159.toSpec
theorem PO:aW Tryz.prog 159 P159:=by
 refine kX (rs:=[.tmp 6]) Tryz.func159 Tryz.ntmps159 fun x f day hp hw=>?_
 simp only[kD,iI,nk,oQ]at hw |-
 have hΓ:=aad
 have mq:=hp.rsn
 have hl:x.l.rs.length<=maxLen:=by unfold maxLen;omega
 repeat refine sq ?_
 refine rx hΓ [2,3,4] [[3,0],[4,0]] (fun K' hK=>by simp only[go_sem];exact an) ?_
 repeat refine sq ?_
 refine rx hΓ [2,3,4,7] [[3,0],[4,0]] (fun K' hK=>by simp only[go_sem];exact an) ?_
 repeat refine sq ?_
 refine rx hΓ [2,3,4,7,8] [[3,0],[4,0]] (fun K' hK=>by simp only[go_sem];exact an) ?_
 repeat refine sq ?_
 refine aS ?_
 repeat refine sq ?_
 refine cv (fun s:Nat=>[(8,⟨true,.v (vInt s)⟩),(7,⟨true,.v (vInt (fm x f day s))⟩)]) (fun s=>[]) (fun s=>s<=x.l.rs.length) (fun s=>x.l.rs.length-s) 0 ?_ ?_ ?_ ?_
 ·exact Nat.zero_le _
 ·rfl
 ·rfl
 rintro i hi
 generalize hL:fm x f day i=L
 simp only[go_sem]
 repeat refine sq ?_
 refine rx hΓ [2,3,4,7,8,15] [[3,0],[4,0]] (fun K' hK=>by simp only[go_sem];exact an) ?_
 repeat refine sq ?_
 refine aB (fun hb=>?_) fun hb=>?_
 ·have ab:i<x.l.rs.length:=by simpa using hb
  have aq:(i:Int)<x.l.rs.length:=by omega
  clear hb
  have hc:=Hz x f day i
  rw[hL]at hc
  have lD:=fg ab
  have jQ:bP (-1) 0=0:=rfl
  have yR:0<x.l.rs.length:=by omega
  have yQ:(0:Int)<x.l.rs.length:=by omega
  repeat refine sq ?_
  refine aE ?_
  repeat refine sq ?_
  refine aS ?_
  repeat refine sq ?_
  refine rx hΓ [2,3,4,7,8,9] [[3,0],[4,0]] (fun K' hK=>by simp only[go_sem,ah ab,ai,ak,aq];exact an) ?_
  rcases hc with hc | ⟨j,hj,hc⟩
  ·subst hc
   repeat refine sq ?_
   refine rx hΓ [2,3,4,7,8,49] [[3,0],[4,0]] (fun K' hK=>by simp only[go_sem,ah ab,ai,ak,aq,jQ,ah yR,yQ,ai,xE,lD,Bool.decide_and,Bool.decide_eq_true];exact an) ?_
   repeat refine sq ?_
   refine aB (fun hb=>?_) fun hb=>?_
   ·repeat refine sq ?_
    have eL:fm x f day (i+1)=(i:Int):=by
     rw[fm,hL,lD,if_pos (by simpa using hb)]
    repeat refine sq ?_
    refine aY hΓ fun K' hK=>?_
    simp only[go_sem,ah ab,ai,ak,aq,jQ,ah yR,yQ,ai,xE,lD]
    repeat (refine⟨ao,?_⟩)
    refine hK _ ?_
    clear K' hK
    simp only[go_sem]
    refine kp [2,3,4,7,8] [[3,0],[4,0]] ?_
    repeat refine sq ?_
    refine aY hΓ fun K' hK=>?_
    simp only[go_sem,ah ab,ai,ak,aq,jQ,ah yR,yQ,ai,xE,lD]
    repeat (refine⟨ao,?_⟩)
    refine hK _ ?_
    clear K' hK
    simp only[go_sem]
    refine⟨i+1,ab,by(show x.l.rs.length-(i+1)<x.l.rs.length-i;omega),?_⟩
    refine bq [2,3,4,7,8] [[3,0],[4,0]] ?_ ?_<;>simp only[go_sem,bj ab hl,bn,eL]
   ·repeat refine sq ?_
    have eL:fm x f day (i+1)= -1:=by
     rw[fm,hL,lD,if_neg (by simpa using hb)]
    refine aE ?_
    refine cf ?_
    simp only[go_sem]
    refine kp [2,3,4,7,8] [[3,0],[4,0]] ?_
    repeat refine sq ?_
    refine aY hΓ fun K' hK=>?_
    simp only[go_sem,ah ab,ai,ak,aq,jQ,ah yR,yQ,ai,xE,lD]
    repeat (refine⟨ao,?_⟩)
    refine hK _ ?_
    clear K' hK
    simp only[go_sem]
    refine⟨i+1,ab,by(show x.l.rs.length-(i+1)<x.l.rs.length-i;omega),?_⟩
    refine bq [2,3,4,7,8] [[3,0],[4,0]] ?_ ?_<;>simp only[go_sem,bj ab hl,bn,eL]
  ·subst hc
   have fx:decide ((j:Int)<0)=false:=by simp
   have kG:(if (0:Int)>(j:Int)then(0:Int)else(j:Int))=j:=if_neg (by omega)
   have fy:j<x.l.rs.length:=by omega
   have yD:(j:Int)<x.l.rs.length:=by omega
   repeat refine sq ?_
   refine rx hΓ [2,3,4,7,8,49] [[3,0],[4,0]] (fun K' hK=>by simp only[go_sem,ah ab,ai,ak,aq,kG,fx,ah fy,yD,lD,Bool.decide_and,Bool.decide_eq_true];exact an) ?_
   repeat refine sq ?_
   refine aB (fun hb=>?_) fun hb=>?_
   ·repeat refine sq ?_
    have eL:fm x f day (i+1)=(i:Int):=by
     rw[fm,hL,lD,ai,fg fy,fx,Bool.false_or,if_pos (by simpa using hb)]
    repeat refine sq ?_
    refine aY hΓ fun K' hK=>?_
    simp only[go_sem,ah ab,ai,ak,aq,kG,fx,ah fy,yD,lD]
    repeat (refine⟨ao,?_⟩)
    refine hK _ ?_
    clear K' hK
    simp only[go_sem]
    refine kp [2,3,4,7,8] [[3,0],[4,0]] ?_
    repeat refine sq ?_
    refine aY hΓ fun K' hK=>?_
    simp only[go_sem,ah ab,ai,ak,aq,kG,fx,ah fy,yD,lD]
    repeat (refine⟨ao,?_⟩)
    refine hK _ ?_
    clear K' hK
    simp only[go_sem]
    refine⟨i+1,ab,by(show x.l.rs.length-(i+1)<x.l.rs.length-i;omega),?_⟩
    refine bq [2,3,4,7,8] [[3,0],[4,0]] ?_ ?_<;>simp only[go_sem,bj ab hl,bn,eL]
   ·repeat refine sq ?_
    have eL:fm x f day (i+1)=(j:Int):=by
     rw[fm,hL,lD,ai,fg fy,fx,Bool.false_or,if_neg (by simpa using hb)]
    refine aE ?_
    refine cf ?_
    simp only[go_sem]
    refine kp [2,3,4,7,8] [[3,0],[4,0]] ?_
    repeat refine sq ?_
    refine aY hΓ fun K' hK=>?_
    simp only[go_sem,ah ab,ai,ak,aq,kG,fx,ah fy,yD,lD]
    repeat (refine⟨ao,?_⟩)
    refine hK _ ?_
    clear K' hK
    simp only[go_sem]
    refine⟨i+1,ab,by(show x.l.rs.length-(i+1)<x.l.rs.length-i;omega),?_⟩
    refine bq [2,3,4,7,8] [[3,0],[4,0]] ?_ ?_<;>simp only[go_sem,bj ab hl,bn,eL]
 ·have bx:i=x.l.rs.length:=by
   have :¬ (i:Int)<x.l.rs.length:=by simpa using hb
   omega
  clear hb
  subst bx
  repeat refine sq ?_
  refine bV ?_
  simp only[go_sem]
  refine kp [7] [] ?_
  repeat refine sq ?_
  refine rx hΓ [6] [] (fun K' hK=>by simp only[go_sem];exact an) ?_
  refine aA ?_
  simp only[go_sem]
  rw[<-hL];rfl
def fH(l:Led)(i:Nat):Sig:=l.ss.getD i default
def uG(x:RV):Nat->List Int
 | 0=>[]
 |s+1=>if bY (fH x.l s).kn (fH x.l s).un x.k=true then uG x s++[(s:Int)]else uG x s
theorem Fv{l:Led}{i:Nat}(h:i<l.ss.length):fH l i=l.ss[i]:=by unfold fH;rw[List.getD_eq_getElem?_getD,List.getElem?_eq_getElem h];rfl
def aac:List (Nat×Spec):=[(157,Ab)]
attribute [go_sem] aac
end
noncomputable section
def va(x:RV)(r:Rec)(lv:List Int)(i:Nat)(j:Nat):Bool:=decide ((ax x.l i).da>r.da)&&du x.k ⟨r.pa,lv.getD j 0⟩ (ax x.l i)
def wm(x:RV)(r:Rec)(lv:List Int)(i:Nat)(hi:Int):Nat->Int
 | 0=>hi
 |j+1=>if va x r lv i j=true then dG (wm x r lv i hi j) (ax x.l i).da else wm x r lv i hi j
def rP(x:RV)(r:Rec)(t:Ret):Nat->Int
 | 0=>t.hi
 |i+1=>wm x r t.lv i (rP x r t i) t.lv.length
def rO(x:RV)(i:Nat):Rg:=if x.ts.getD i false=true then⟨mH (aH x.l i) (ax x.l (cR x.l (aH x.l i).re x.k).toNat),rP x (ax x.l (cR x.l (aH x.l i).re x.k).toNat) (aH x.l i) x.l.rs.length⟩else⟨0,100000⟩
def EK(x:RV):Prop:=bF x.l/\x.ts.length=x.l.ts.length/\∀ i,x.ts.getD i false=true->¬ cR x.l (aH x.l i).re x.k<0
def K43:List (Nat×Spec):=[(70,Aa),(158,EG),(188,EE)]
attribute [go_sem] K43
end
noncomputable section
theorem Sp(x:RV)(f:Fol)(day:Int):eg x f day= -1\/∃ j,j<x.l.rs.length/\eg x f day=(j:Int):=Hz x f day _
theorem Ql(x:RV)(i:Nat)(f:Int):dD x i f= -1\/∃ j,j<x.ts.length/\dD x i f=(j:Int):=by
 unfold dD
 by_cases h:(List.range x.ts.length).any (jh x (ax x.l i).so f)=true
 ·rw[if_pos h]
  have ab:(List.range x.ts.length).findIdx (jh x (ax x.l i).so f)<(List.range x.ts.length).length:=List.findIdx_lt_length_of_exists (by obtain⟨y,hy,hp⟩:=List.any_eq_true.1 h;exact⟨y,hy,hp⟩)
  exact .inr ⟨_,by simpa using ab,rfl⟩
 ·rw[if_neg h];exact .inl rfl
def dh(d:List Rg)(i:Nat):Rg:=d.getD i default
def gp(x:RV)(d:List Rg)(s:Sig):List Rg×Bool:=
 if eg x ⟨s.pa,s.le⟩ s.da<0 then(d,s.pe==0)else
 if dD x (eg x ⟨s.pa,s.le⟩ s.da).toNat s.le<0 then(d,s.pe==(ax x.l (eg x ⟨s.pa,s.le⟩ s.da).toNat).bo)else
 if s.pe==(ax x.l (eg x ⟨s.pa,s.le⟩ s.da).toNat).bo then
   (d.set (dD x (eg x ⟨s.pa,s.le⟩ s.da).toNat s.le).toNat ⟨bP (dh d (dD x (eg x ⟨s.pa,s.le⟩ s.da).toNat s.le).toNat).lo (s.da+1),(dh d (dD x (eg x ⟨s.pa,s.le⟩ s.da).toNat s.le).toNat).hi⟩,
     decide (bP (dh d (dD x (eg x ⟨s.pa,s.le⟩ s.da).toNat s.le).toNat).lo (s.da+1)<=(dh d (dD x (eg x ⟨s.pa,s.le⟩ s.da).toNat s.le).toNat).hi))
 else if s.pe==0 then
  (d.set (dD x (eg x ⟨s.pa,s.le⟩ s.da).toNat s.le).toNat ⟨(dh d (dD x (eg x ⟨s.pa,s.le⟩ s.da).toNat s.le).toNat).lo,dG (dh d (dD x (eg x ⟨s.pa,s.le⟩ s.da).toNat s.le).toNat).hi s.da⟩,
    decide ((dh d (dD x (eg x ⟨s.pa,s.le⟩ s.da).toNat s.le).toNat).lo<=dG (dh d (dD x (eg x ⟨s.pa,s.le⟩ s.da).toNat s.le).toNat).hi s.da))
 else(d,false)
theorem Q9{x:RV}{d:List Rg}{s:Sig}(h:eg x ⟨s.pa,s.le⟩ s.da= -1):gp x d s=(d,s.pe==0):=by unfold gp;rw[h];rfl
theorem Q8{x:RV}{d:List Rg}{s:Sig}{q:Nat}(h:eg x ⟨s.pa,s.le⟩ s.da=q)(hr:dD x q s.le= -1):gp x d s=(d,s.pe==(ax x.l q).bo):=by
 unfold gp;rw[h,if_neg (by omega),ai,hr];rfl
theorem Ra{x:RV}{d:List Rg}{s:Sig}{q j:Nat}(h:eg x ⟨s.pa,s.le⟩ s.da=q)(hr:dD x q s.le=j)(hm:(s.pe==(ax x.l q).bo)=true):
 gp x d s=(d.set j ⟨bP (dh d j).lo (s.da+1),(dh d j).hi⟩,decide (bP (dh d j).lo (s.da+1)<=(dh d j).hi)):=by
 unfold gp;rw[h,if_neg (by omega),ai,hr,if_neg (by omega),if_pos hm];rfl
theorem Rb{x:RV}{d:List Rg}{s:Sig}{q j:Nat}(h:eg x ⟨s.pa,s.le⟩ s.da=q)(hr:dD x q s.le=j)(hm:(s.pe==(ax x.l q).bo)=false)(h0:(s.pe==0)=true):
 gp x d s=(d.set j ⟨(dh d j).lo,dG (dh d j).hi s.da⟩,decide ((dh d j).lo<=dG (dh d j).hi s.da)):=by
 unfold gp;rw[h,if_neg (by omega),ai,hr,if_neg (by omega),if_neg (by rw[hm];decide),if_pos h0];rfl
theorem Q'{x:RV}{d:List Rg}{s:Sig}{q j:Nat}(h:eg x ⟨s.pa,s.le⟩ s.da=q)(hr:dD x q s.le=j)(hm:(s.pe==(ax x.l q).bo)=false)(h0:(s.pe==0)=false):gp x d s=(d,false):=by
 unfold gp;rw[h,if_neg (by omega),ai,hr,if_neg (by omega),if_neg (by rw[hm];decide),if_neg (by rw[h0];decide)]
theorem Ru(a b:Int):bP a b=if b>a then b else a:=rfl
def K44:List (Nat×Spec):=[(159,EF),(103,wE)]
attribute [go_sem] K44
end
noncomputable section
def oR(x:RV)(s:Nat):List Rg:=(List.range s).map (rO x)
theorem Ml(x:RV)(s:Nat):(oR x s).length=s:=by simp[oR]
def lE(x:RV)(is:List Int):Nat->List Rg×Bool
 | 0=>(oR x x.l.ts.length,true)
 |s+1=>((gp x (lE x is s).1 (fH x.l (is.getD s 0).toNat)).1,(lE x is s).2&&(gp x (lE x is s).1 (fH x.l (is.getD s 0).toNat)).2)
theorem Rc(x:RV)(d:List Rg)(s:Sig):(gp x d s).1.length=d.length:=by
 unfold gp
 split
 ·rfl
 ·split
  ·rfl
  ·split
   ·simp
   ·split
    ·simp
    ·rfl
theorem W9(x:RV)(is:List Int)(s:Nat):(lE x is s).1.length=x.l.ts.length:=by
 induction s with
 |zero=>exact Ml _ _
 |succ s ih=>unfold lE;rw[Rc,ih]
def K45:List (Nat×Spec):=[]
attribute [go_sem] K45
end
noncomputable section
def ba(l:Led)(k:Int):RV:=⟨l,k,bu l k l.ts.length,[]⟩
def K46:List (Nat×Spec):=[(71,EC)]
attribute [go_sem] K46
@[go_sem] def Zu:PSpec:=p2 iL iI (fun l _=>bF l) (fun l k=>DK (ba l k)) false
@[go_sem] def z':Spec:=Zu.toSpec
end
noncomputable section
def tP(x:RV)(a b:Nat)(f:Int):Bool:=(du x.k ⟨(ax x.l a).pa,f⟩ (ax x.l a)&&du x.k ⟨(ax x.l a).pa,f⟩ (ax x.l b))&&
 (((ax x.l a).da==(ax x.l b).da||decide (dD x a f<0))||decide (mH (aH x.l (dD x a f).toNat) (ax x.l a)>(ax x.l b).da))
def j7(x:RV)(a b:Nat):Bool:=(ax x.l a).lv.any (tP x a b)
def nF(x:RV)(a b:Nat):Bool:=if (ax x.l a).da>(ax x.l b).da then j7 x b a else j7 x a b
def K47:List (Nat×Spec):=[(188,EE),(103,wE),(158,EG)]
attribute [go_sem] K47
def Nu:PSpec:=p3 nk iI iI (fun x a b=>EK x/\(0<=a/\a<x.l.rs.length/\0<=b/\b<x.l.rs.length)/\¬ (ax x.l a.toNat).da>(ax x.l b.toNat).da) (fun x a b=>.bool (j7 x a.toNat b.toNat)) true
end
noncomputable section
def Zj:Spec:=Nu.toSpec
attribute [go_sem] Nu Zj
def K48:List (Nat×Spec):=[]
attribute [go_sem] K48
theorem aW.or{P:Program}{f:FuncId}{s s1 s2:PSpec}(h1:aW P f s1)(h2:aW P f s2)(hs:s.flat=true->s1.flat=true/\s2.flat=true)
 (hc:∀ xs,s.pre xs->(s1.pre xs/\s1.fn xs=s.fn xs)\/(s2.pre xs/\s2.fn xs=s.fn xs)):aW P f s where
 ne:=h1.ne
 enter:=h1.enter
 flat:=fun hf xs hp=>by
  rcases hc xs hp with⟨a,e⟩ | ⟨a,e⟩
  ·rw[<-e];exact h1.flat (hs hf).1 xs a
  ·rw[<-e];exact h2.flat (hs hf).2 xs a
 calls:=fun m w xs args ha hr hp=>by
  rcases hc xs hp with⟨a,e⟩ | ⟨a,e⟩
  ·rw[<-e];exact h1.calls m w xs args ha hr a
  ·rw[<-e];exact h2.calls m w xs args ha hr a
end
noncomputable section
def K49:List (Nat×Spec):=[(159,EF),(103,wE)]
attribute [go_sem] K49
end
noncomputable section
def zo(x:RV)(i:Nat):Option (Int×Int):=((List.range x.l.rs.length).find? fun j=>decide (i<j)&&nF x i j).map fun j=>((ax x.l i).so,(ax x.l j).so)
def ie(x:RV):Option (Int×Int):=(List.range x.l.rs.length).findSome? (zo x)
theorem Xt{x:RV}{i:Nat}(h:∀ j,i<j->j<x.l.rs.length->nF x i j=false):zo x i=none:=by
 unfold zo
 rw[List.find?_eq_none.2]
 ·rfl
 ·intro j hj
  have er:j<x.l.rs.length:=by simpa using hj
  by_cases cb:i<j
  ·rw[h j cb er];simp
  ·simp[cb]
theorem Xs{x:RV}(hb:∀ a,a<x.l.rs.length->∀ m,a<m->m<x.l.rs.length->nF x a m=false):ie x=none:=by
 unfold ie
 rw[List.findSome?_eq_none_iff]
 exact fun a ha=>Xt fun m h1 h2=>hb a (by simpa using ha) m h1 h2
def K50:List (Nat×Spec):=[]
attribute [go_sem] K50
end
noncomputable section
theorem uy(l:Led)(k:Int){s i:Nat}(h:(bu l k s).getD i false=true):i<s/\gE l k (bu l k i) i=true:=by
 induction s with
 |zero=>rw[wY l k (Nat.zero_le i)]at h;cases h
 |succ s ih=>
  by_cases hi:i<s
  ·have e:(bu l k (s+1)).getD i false=(bu l k s).getD i false:=by
     rw[bu]
     split
     ·rw[List.getD_eq_getElem?_getD,List.getElem?_set_ne (by omega),<-List.getD_eq_getElem?_getD]
     ·rfl
   rw[e]at h
   exact⟨by omega,(ih h).2⟩
  ·by_cases hs:i=s
   ·subst hs
    refine⟨by omega,?_⟩
    cases hb:gE l k (bu l k i) i with
    |true=>rfl
    |false=>rw[wX l k hb,wY l k (Nat.le_refl i)]at h;cases h
   ·rw[wY l k (by omega)]at h;cases h
theorem Fi{l:Led}{k:Int}{row:List Bool}{i:Nat}(h:gE l k row i=true):¬ cR l (aH l i).re k<0:=by
 unfold gE at h
 split at h
 ·cases h
 ·assumption
theorem P6{l:Led}(h:bF l)(k:Int):EK (ba l k):=⟨h,o8 _ _ _,fun _ hi=>Fi (uy l k hi).2⟩
def uH(l:Led)(k:Int):List Int:=uG (ba l k) l.ss.length
def j5(l:Led)(k:Int):List Rg×Bool:=lE (ba l k) (uH l k) (uH l k).length
def mY(l:Led)(k:Int):Int:=if (ie (ba l k)).isSome=true then 25 else if (j5 l k).2=true then 0 else 27
def xa(l:Led)(k:Int):RV:=if mY l k=0 then { ba l k with ds:=(j5 l k).1 }else ba l k
def K51:List (Nat×Spec):=[(73,z')]
attribute [go_sem] K51
end
noncomputable section
structure Ask where
 (da kn pa le pe so:Int)
 deriving Inhabited
def LA(x:Ask):V:=.agg [vInt x.da,vInt x.kn,vInt x.pa,vInt x.le,vInt x.pe,vInt x.so]
def LS:V->Ask
 | .agg [.int _ a,.int _ b,.int _ c,.int _ d,.int _ e,.int _ f]=>⟨a,b,c,d,e,f⟩
 |_=>default
def Ug:En Ask:=⟨LA,LS⟩
attribute [go_sem] LA LS Ug
@[go_sem] theorem aei(x:Ask):(⟨x.da,x.kn,x.pa,x.le,x.pe,x.so⟩:Ask)=x:=rfl
def K52:List (Nat×Spec):=[]
attribute [go_sem] K52
end
noncomputable section
def wV(l:Led)(k:Int)(az:List Int)(i:Nat):Bool:=bI (az.getD i 0) (dh (xa l k).ds i).lo (dh (xa l k).ds i).hi
def wU(l:Led)(k:Int)(az:List Int):Bool:=decide (mY l k=0)&&(decide (az.length=l.ts.length)&&iZ (wV l k az) az.length)
theorem MZ{p:Nat->Bool}{n:Nat}:iZ p n=true↔∀ j,j<n->p j=true:=by
 unfold iZ
 rw[List.all_eq_true]
 exact⟨fun h j hj=>h j (List.mem_range.2 hj),fun h j hj=>h j (List.mem_range.1 hj)⟩
def Z5:List (Nat×Spec):=[]
attribute [go_sem] Z5
def Z4:List (Nat×Spec):=[]
attribute [go_sem] Z4
def jD(x:RV)(f:Fol)(az:List Int)(day:Int):Int:=
 if eg x f day<0 then 0 else
 if(decide (dD x (eg x f day).toNat f.le>=0)&&decide (az.getD (dD x (eg x f day).toNat f.le).toNat 0<=day))=true then 0 else(ax x.l (eg x f day).toNat).bo
def K62c:List (Nat×Spec):=[(159,EF),(103,wE)]
theorem Z3:KS K62c:=tc PO.sound<|tc P3.sound<|tn
attribute [go_sem] K62c
@[go_sem] def P74:PSpec:=p4 nk kD eh iI (fun x _ az _=>EK x/\az.length=x.ts.length) (fun x f az day=>vInt (jD x f az day)) true
@[go_sem] def Nd:Spec:=P74.toSpec
set_option maxHeartbeats 8000000 in
theorem Pc:aW Tryz.prog 74 P74:=by
 refine qi (rs:=[.tmp 8]) Tryz.func74 Tryz.ntmps74 fun x f az day hp hw=>?_
 simp only[kD,iI,eh,nk,oQ]at hw |-
 have hΓ:=Z3
 obtain⟨⟨aa,mn,-⟩,rj⟩:=hp
 repeat refine sq ?_
 refine rx hΓ [2,3,4,5] [[4,0],[5,0]] (fun K' hK=>by simp only[go_sem];exact an) ?_
 rcases Sp x f day with gY | ⟨q,hq,gY⟩
 ·repeat refine sq ?_
  refine rx hΓ [2,3,4,5,9] [[4,0],[5,0]] (fun K' hK=>by simp only[go_sem,gY,lC];(repeat (refine⟨by first | exact ao | exact aa,?_⟩));exact eN) ?_
  repeat refine sq ?_
  refine rx hΓ [2,3,4,5,9,16] [[4,0],[5,0]] (fun K' hK=>by simp only[go_sem,gY,lC];exact an) ?_
  repeat refine sq ?_
  refine aB (fun hb=>?_) fun hb=>?_
  ·repeat refine sq ?_
   have e:jD x f az day=0:=by unfold jD;rw[gY];rfl
   repeat refine sq ?_
   refine rx hΓ [8] [] (fun K' hK=>by simp only[go_sem,gY,lC];exact an) ?_
   refine aA ?_
   simp only[go_sem]
   rw[e]
  ·cases hb
 ·have cj:(q:Int)<x.l.rs.length:=by omega
  have DH:=fg hq
  repeat refine sq ?_
  refine rx hΓ [2,3,4,5,9] [[4,0],[5,0]] (fun K' hK=>by simp only[go_sem,gY,lC];(repeat (refine⟨by first | exact ao | exact aa,?_⟩));exact eN) ?_
  repeat refine sq ?_
  refine rx hΓ [2,3,4,5,9,16] [[4,0],[5,0]] (fun K' hK=>by simp only[go_sem,gY,lC];exact an) ?_
  repeat refine sq ?_
  refine aB (fun hb=>?_) fun hb=>?_
  ·cases hb
  ·repeat refine sq ?_
   refine aE ?_
   rcases Ql x q f.le with iJ | ⟨j,hj,iJ⟩
   ·have jU:decide ((-1:Int)>=0)=false:=rfl
    have er:=jU
    have kG:=jU
    repeat refine sq ?_
    refine rx hΓ [2,3,4,9,10] [[4,0]] (fun K' hK=>by simp only[go_sem,gY,lC,iJ,ah hq,cj,ai,ak,List.length_map,ah hq,cj,ai,ak,List.length_map];(repeat (refine⟨by first | exact ao | exact⟨⟨aa,mn⟩,cj⟩,?_⟩));exact eN) ?_
    repeat refine sq ?_
    refine rx hΓ [4,9,32] [[4,0]] (fun K' hK=>by simp only[go_sem,gY,lC,iJ,ah hq,cj,ai,ak,List.length_map,kG,jU,er,ai,ak,List.length_map,decide_true,Bool.true_and,Bool.decide_and,Bool.decide_eq_true,true_and];exact an) ?_
    repeat refine sq ?_
    refine aB (fun hb=>?_) fun hb=>?_
    ·cases hb
    ·repeat refine sq ?_
     have e:jD x f az day=x.l.rs[q].bo:=by unfold jD;rw[gY,if_neg (by omega),ai,iJ,DH];rfl
     refine aE ?_
     repeat refine sq ?_
     refine rx hΓ [8] [] (fun K' hK=>by simp only[go_sem,gY,lC,iJ,ah hq,cj,ai,ak,List.length_map];exact an) ?_
     refine aA ?_
     simp only[go_sem]
     rw[e]
   ·have CU:j<az.length:=by omega
    have er:(j:Int)<az.length:=by omega
    have jU:(az.map vInt).getD j default=vInt az[j]:=ah CU
    have kG:(if (0:Int)>(j:Int)then(0:Int)else(j:Int))=j:=if_neg (by omega)
    have Kg:decide ((j:Int)>=0)=true:=by simp
    repeat refine sq ?_
    refine rx hΓ [2,3,4,9,10] [[4,0]] (fun K' hK=>by simp only[go_sem,gY,lC,iJ,ah hq,cj,ai,ak,List.length_map,ah hq,cj,ai,ak,List.length_map];(repeat (refine⟨by first | exact ao | exact⟨⟨aa,mn⟩,cj⟩,?_⟩));exact eN) ?_
    repeat refine sq ?_
    refine rx hΓ [4,9,32] [[4,0]] (fun K' hK=>by simp only[go_sem,gY,lC,iJ,ah hq,cj,ai,ak,List.length_map,kG,jU,er,ai,ak,List.length_map,decide_true,Bool.true_and,Bool.decide_and,Bool.decide_eq_true,true_and];exact an) ?_
    repeat refine sq ?_
    refine aB (fun hb=>?_) fun hb=>?_
    ·repeat refine sq ?_
     have e:jD x f az day=0:=by unfold jD;rw[gY,if_neg (by omega),ai,iJ,DH,ai,bW CU,Kg,Bool.true_and,if_pos (by simpa using hb)]
     repeat refine sq ?_
     refine rx hΓ [8] [] (fun K' hK=>by simp only[go_sem,gY,lC,iJ,ah hq,cj,ai,ak,List.length_map];exact an) ?_
     refine aA ?_
     simp only[go_sem]
     rw[e]
    ·repeat refine sq ?_
     have e:jD x f az day=x.l.rs[q].bo:=by unfold jD;rw[gY,if_neg (by omega),ai,iJ,DH,ai,bW CU,Kg,Bool.true_and,if_neg (by simpa using hb)]
     refine aE ?_
     repeat refine sq ?_
     refine rx hΓ [8] [] (fun K' hK=>by simp only[go_sem,gY,lC,iJ,ah hq,cj,ai,ak,List.length_map];exact an) ?_
     refine aA ?_
     simp only[go_sem]
     rw[e]
end
noncomputable section
def Z1:List (Nat×Spec):=[]
attribute [go_sem] Z1
end
theorem z5{α:Type}{fA:α->Bool}{num:α->Int}{l:List α}:i4 fA num l=true↔(∀ x∈l,fA x=true)/\l.Pairwise (fun a b=>num a<num b):=by
 rw[j']
 constructor
 ·intro h
  refine⟨fun x hx=>?_,?_⟩
  ·obtain⟨j,hj,rfl⟩:=List.getElem_of_mem hx
   exact(h j hj hj).1
  ·rw[List.pairwise_iff_getElem]
   exact fun i j hi hj cb=>uU h i j hi hj cb
 ·rintro⟨h1,h2⟩ j hj _
  refine⟨h1 _ (List.getElem_mem hj),fun h0=>?_⟩
  rw[List.pairwise_iff_getElem]at h2
  exact h2 (j-1) j (by omega) hj (by omega)
structure R5 where
 (a b c d e:Int)
 deriving Inhabited
structure R7 where
 (a b c d e f g:Int)
 deriving Inhabited
structure Raw where
 rs:List R5
 ts:List R7
 ss:List R5
 deriving Inhabited
def mps:List Pap:=[⟨1,4⟩,⟨2,3⟩,⟨5,2⟩]
def cX(n:Int):Pap:=mps.getD (aR n 3).toNat default
def r5(l:List R5)(i:Nat):R5:=l.getD i default
def r7(l:List R7)(i:Nat):R7:=l.getD i default
def eu(r:Raw):Nat->Int
 | 0=>0
 |i+1=>eu r i+aR (r5 r.rs i).d 20
def fJ(r:Raw)(i:Nat):Rec:=⟨3*i+1,1+aR (r5 r.rs i).a 4,(cX (r5 r.rs i).b).id,il (r5 r.rs i).c (cX (r5 r.rs i).b).lv,eu r (i+1),eu r (i+1)+aR (r5 r.rs i).e 5,0⟩
def eV(r:Raw)(m:Nat):List Rec:=(List.range m).map (fJ r)
def nR(r:Raw):Nat:=min r.rs.length 8
def xT(r:Raw)(j:Nat):Rec:=(eV r (nR r)).getD (aR (r7 r.ts j).a (nR r)).toNat zeroR
def ef(r:Raw)(j:Nat):Int:=(xT r j).da+aR (r7 r.ts j).c 30
def tM(r:Raw)(j:Nat):Ret:=⟨3*j+2,(xT r j).so,1+aR (r7 r.ts j).g 4,il (r7 r.ts j).b (cL mps (xT r j).pa),bP 0 (ef r j-aR (r7 r.ts j).d 12),ef r j+aR (r7 r.ts j).e 12,ef r j+aR (r7 r.ts j).e 12+aR (r7 r.ts j).f 9,0⟩
def nT(r:Raw):Nat:=if nR r=0 then 0 else min r.ts.length 8
def iv(r:Raw)(m:Nat):List Ret:=(List.range m).map (tM r)
def kO(r:Raw)(m:Nat):List Int:=(List.range m).map (ef r)
def eX(r:Raw)(ss:List Sig):Led:=⟨mps,eV r (nR r),iv r (nT r),ss⟩
def kh(r:Raw)(j:Nat):Int:=aR (r5 r.ss j).d (eu r (nR r)+20)
def mZ(r:Raw)(j:Nat):Int:=1+aR (r5 r.ss j).c (cX (r5 r.ss j).b).lv
def mX(r:Raw)(j:Nat)(ss:List Sig):Int:=if (aR (r5 r.ss j).e 4 != 3)=true then jD (ba (eX r ss) 900) ⟨(cX (r5 r.ss j).b).id,mZ r j⟩ (kO r (nT r)) (kh r j)else aR (r5 r.ss j).a 5
def sA(r:Raw)(j:Nat)(ss:List Sig):Sig:=⟨3*j+3,mX r j ss,(cX (r5 r.ss j).b).id,mZ r j,kh r j,kh r j+aR (r5 r.ss j).e 30,0⟩
def dg(r:Raw):Nat->List Sig
 | 0=>[]
 |j+1=>dg r j++[sA r j (dg r j)]
def nS(r:Raw):Nat:=min r.ss.length 6
def jN(r:Raw):Led:=eX r (dg r (nS r))
theorem ve(n:Int):cX n∈mps:=by
 have h:=dF (n:=n) (m:=3) (by decide)
 unfold cX
 have hl:(aR n 3).toNat<mps.length:=by show _<3;omega
 rw[bW hl]
 exact List.getElem_mem hl
theorem vd{p:Pap}(h:p∈mps):cL mps p.id=p.lv/\2<=p.lv/\p.lv<=4/\1<=p.id/\p.id<=5:=by
 unfold mps at h
 simp only[List.mem_cons,List.not_mem_nil,or_false]at h
 rcases h with rfl | rfl | rfl<;>decide
theorem zz(n:Int):∀ m,∀ x∈fe n m,1<=x/\x<=m
 | 0,x,h=>nomatch h
 |m+1,x,h=>by
  rw[fe]at h
  split at h
  ·rcases List.mem_append.1 h with h | h
   ·have:=zz n m x h;omega
   ·simp only[List.mem_singleton]at h;omega
  ·have:=zz n m x h;omega
theorem Ec(n:Int):∀ m,(fe n m).Pairwise (· < ·)
 | 0=>List.Pairwise.nil
 |m+1=>by
  rw[fe]
  split
  ·rw[List.pairwise_append]
   refine⟨Ec n m,List.pairwise_singleton _ _,fun a ha b hb=>?_⟩
   have :=zz n m a ha
   simp only[List.mem_singleton]at hb
   omega
  ·exact Ec n m
theorem Hy{l:List Int}{m:Int}(h0:l≠[])(hp:l.Pairwise (· < ·))(hm:∀ x∈l,1<=x/\x<=m)(KR:m<=30):kz l=true:=by
 have cB:0<l.length:=List.length_pos_iff.2 h0
 have ab:l.length-1<l.length:=by omega
 have h1:=hm _ (List.getElem_mem cB)
 have h2:=hm _ (List.getElem_mem ab)
 unfold kz bI
 rw[bW cB,bW ab]
 simp only[Bool.and_eq_true,decide_eq_true_eq]
 refine⟨⟨⟨cB,?_⟩,by omega⟩,by omega⟩
 rw[xi]
 intro j hj bB
 rw[List.pairwise_iff_getElem]at hp
 exact hp (j-1) j (by omega) hj (by omega)
theorem Mo(n:Int){m:Int}(h1:1<=m)(h2:m<=30):kz (il n m)=true/\∀ x∈il n m,1<=x/\x<=m:=by
 unfold il
 split
 ·refine⟨Hy (m:=1) (by simp) (List.pairwise_singleton _ _) (fun x hx=>?_) (by decide),fun x hx=>?_⟩
  ·simp only[List.mem_singleton]at hx;omega
  ·simp only[List.mem_singleton]at hx;omega
 ·rename_i h0
  have hm:∀ x∈fe n m.toNat,1<=x/\x<=m:=fun x hx=>by have:=zz n _ x hx;omega
  exact⟨Hy h0 (Ec n _) hm h2,hm⟩
theorem wg(r:Raw):∀ i,0<=eu r i/\eu r i<=20*i
 | 0=>by exact⟨Int.le_refl _,Int.le_refl _⟩
 |i+1=>by
  have :=wg r i
  have h:=dF (n:=(r5 r.rs i).d) (m:=20) (by decide)
  rw[eu]
  omega
theorem gW{n lo hi:Int}(h1:lo<=n)(h2:n<=hi):bI n lo hi=true:=by
 unfold bI
 rw[decide_eq_true h1,decide_eq_true h2];rfl
theorem Ax{k:Int}(h1:0<=k)(h2:k<=100000):kZ k 0=true:=by
 unfold kZ dayB
 rw[gW h1 h2];rfl
theorem uP(r:Raw){i:Nat}(hi:i<8):dP (fJ r i)=true/\oy (fJ r i).lv<=cL mps (fJ r i).pa/\(fJ r i).da<=160/\(fJ r i).bo<=4/\1<=(fJ r i).bo/\0<=(fJ r i).da/\2<=cL mps (fJ r i).pa/\cL mps (fJ r i).pa<=4:=by
 obtain⟨e,l1,l2,p1,p2⟩:=vd (ve (r5 r.rs i).b)
 obtain⟨b1,b2⟩:=Mo (r5 r.rs i).c (m:=(cX (r5 r.rs i).b).lv) (by omega) (by omega)
 have h4:=dF (n:=(r5 r.rs i).a) (m:=4) (by decide)
 have h5:=dF (n:=(r5 r.rs i).e) (m:=5) (by decide)
 have hd:=wg r (i+1)
 have Vb:oy (fJ r i).lv<=(cX (r5 r.rs i).b).lv:=by
  show oy (il _ _)<=_
  unfold oy
  have hb:=b1
  unfold kz at hb
  simp only[Bool.and_eq_true,decide_eq_true_eq]at hb
  have ab:(il (r5 r.rs i).c (cX (r5 r.rs i).b).lv).length-1<(il (r5 r.rs i).c (cX (r5 r.rs i).b).lv).length:=by omega
  rw[bW ab]
  exact(b2 _ (List.getElem_mem ab)).2
 refine⟨?_,by show _<=cL mps (cX _).id;rw[e];exact Vb,?_,?_,?_,hd.1,by show _<=cL mps (cX _).id;omega,by show cL mps (cX _).id<=_;omega⟩
 ·have ht:kZ (eu r (i+1)+aR (r5 r.rs i).e 5) 0=true:=Ax (by omega) (by omega)
  have hb:dP (fJ r i)=(bI (3*(i:Int)+1) 1 99999&&bI (1+aR (r5 r.rs i).a 4) 1 99&&bI (cX (r5 r.rs i).b).id 1 999&&kz (il (r5 r.rs i).c (cX (r5 r.rs i).b).lv)&&dayB (eu r (i+1))&&kZ (eu r (i+1)+aR (r5 r.rs i).e 5) 0):=rfl
  rw[hb,ht,b1,gW (by omega) (by omega),gW (by omega) (by omega),gW (by omega) (by omega)]
  unfold dayB
  rw[gW (by omega) (by omega)]
  rfl
 ·show eu r (i+1)<=160;omega
 ·show 1+aR _ 4<=4;omega
 ·show 1<=1+aR _ 4;omega
theorem ji(r:Raw)(m:Nat):(eV r m).length=m:=by unfold eV;simp
theorem AX{r:Raw}{m i:Nat}(h:i<(eV r m).length):(eV r m)[i]=fJ r i:=by
 have e:(eV r m)[i]=fJ r ((List.range m)[i]'(by simpa[eV]using h)):=List.getElem_map (fJ r) (h:=h)
 rw[e,List.getElem_range]
theorem qt(r:Raw):nR r<=8:=Nat.min_le_right _ _
theorem EX{r:Raw}(h:nR r≠0)(j:Nat):∃ i,i<nR r/\xT r j=fJ r i:=by
 have hm:=dF (n:=(r7 r.ts j).a) (m:=(nR r:Int)) (by omega)
 refine⟨(aR (r7 r.ts j).a (nR r)).toNat,by omega,?_⟩
 unfold xT
 rw[bW (by rw[ji];omega),AX]
theorem Fk{r:Raw}(h:nR r≠0){j:Nat}(hj:j<8):jj (tM r j)=true/\0<=ef r j/\ef r j<=200:=by
 obtain⟨i,hi,e⟩:=EX h j
 have h8:=qt r
 obtain⟨c1,-,c3,-,-,c6,c7,c8⟩:=uP r (show i<8 by omega)
 have vE:(xT r j).so=3*(i:Int)+1:=by rw[e];rfl
 have BE:=dF (n:=(r7 r.ts j).c) (m:=30) (by decide)
 have m4:=dF (n:=(r7 r.ts j).g) (m:=4) (by decide)
 have RL:=dF (n:=(r7 r.ts j).d) (m:=12) (by decide)
 have RK:=dF (n:=(r7 r.ts j).e) (m:=12) (by decide)
 have m9:=dF (n:=(r7 r.ts j).f) (m:=9) (by decide)
 have au:ef r j=(fJ r i).da+aR (r7 r.ts j).c 30:=by unfold ef;rw[e]
 obtain⟨b1,-⟩:=Mo (r7 r.ts j).b (m:=cL mps (xT r j).pa) (by rw[e];omega) (by rw[e];omega)
 have jQ:0<=bP 0 (ef r j-aR (r7 r.ts j).d 12)/\bP 0 (ef r j-aR (r7 r.ts j).d 12)<=ef r j:=by unfold bP;split<;>omega
 refine⟨?_,by omega,by omega⟩
 have hb:jj (tM r j)=(bI (3*(j:Int)+2) 1 99999&&bI (xT r j).so 1 99999&&bI (1+aR (r7 r.ts j).g 4) 1 99&&kz (il (r7 r.ts j).b (cL mps (xT r j).pa))&&bI (bP 0 (ef r j-aR (r7 r.ts j).d 12)) 0 (ef r j+aR (r7 r.ts j).e 12)&&dayB (ef r j+aR (r7 r.ts j).e 12)&&kZ (ef r j+aR (r7 r.ts j).e 12+aR (r7 r.ts j).f 9) 0):=rfl
 rw[hb,b1,Ax (by omega) (by omega),gW (by omega) (by omega),gW (by omega) (by omega),gW (by omega) (by omega),gW (by omega) (by omega)]
 unfold dayB
 rw[gW (by omega) (by omega)]
 rfl
theorem xF(r:Raw):nT r<=8:=by unfold nT;split<;>omega
theorem He{r:Raw}{j:Nat}(h:j<nT r):nR r≠0:=by
 intro h0
 unfold nT at h
 rw[if_pos h0]at h
 omega
theorem NN{r:Raw}{ss:List Sig}(f:Fol)(az:List Int)(day:Int):0<=jD (ba (eX r ss) 900) f az day/\jD (ba (eX r ss) 900) f az day<=4:=by
 have Kz:∀ q:Nat,0<=(ax (eX r ss) q).bo/\(ax (eX r ss) q).bo<=4:=fun q=>by
  by_cases hq:q<(eX r ss).rs.length
  ·rw[fg hq]
   have e:(eX r ss).rs[q]=fJ r q:=AX hq
   have hl:(eX r ss).rs.length=nR r:=ji _ _
   have h8:=qt r
   rw[e]
   obtain⟨-,-,-,c4,c5,-⟩:=uP r (show q<8 by omega)
   omega
  ·have:ax (eX r ss) q=zeroR:=by
     unfold ax
     rw[List.getD_eq_getElem?_getD,List.getElem?_eq_none (by omega)];rfl
   rw[this]
   decide
 unfold jD
 split
 ·decide
 ·split
  ·decide
  ·exact Kz _
theorem OB(r:Raw){j:Nat}(hj:j<6)(ss:List Sig):ld (sA r j ss)=true/\(sA r j ss).le<=cL mps (sA r j ss).pa:=by
 obtain⟨e,l1,l2,p1,p2⟩:=vd (ve (r5 r.ss j).b)
 have ml:=dF (n:=(r5 r.ss j).c) (m:=(cX (r5 r.ss j).b).lv) (by omega)
 have hd:=wg r (nR r)
 have h8:=qt r
 have md:=dF (n:=(r5 r.ss j).d) (m:=eu r (nR r)+20) (by omega)
 have BE:=dF (n:=(r5 r.ss j).e) (m:=30) (by decide)
 have m5:=dF (n:=(r5 r.ss j).a) (m:=5) (by decide)
 have yl:0<=mX r j ss/\mX r j ss<=4:=by
  unfold mX
  split
  ·exact NN _ _ _
  ·omega
 have gG:mZ r j=1+aR (r5 r.ss j).c (cX (r5 r.ss j).b).lv:=rfl
 have yh:kh r j=aR (r5 r.ss j).d (eu r (nR r)+20):=rfl
 refine⟨?_,?_⟩
 ·have hb:ld (sA r j ss)=(bI (3*(j:Int)+3) 1 99999&&bI (mX r j ss) 0 99&&bI (cX (r5 r.ss j).b).id 1 999&&bI (mZ r j) 1 30&&dayB (kh r j)&&kZ (kh r j+aR (r5 r.ss j).e 30) 0):=rfl
  rw[hb,Ax (by omega) (by omega),gW (by omega) (by omega),gW (by omega) (by omega),gW (by omega) (by omega),gW (by omega) (by omega)]
  unfold dayB
  rw[gW (by omega) (by omega)]
  rfl
 ·show mZ r j<=cL mps (cX (r5 r.ss j).b).id
  rw[e];omega
theorem AE(r:Raw):∀ s,(dg r s).length=s
 | 0=>rfl
 |s+1=>by rw[dg,List.length_append,AE];rfl
theorem w6(r:Raw):∀ s,s<=6->(∀ x∈dg r s,(ld x=true/\x.le<=cL mps x.pa)/\∃ j:Nat,j<s/\x.so=3*(j:Int)+3)/\(dg r s).Pairwise (fun a b=>a.so<b.so)
 | 0,_=>⟨fun x h=>(nomatch h),List.Pairwise.nil⟩
 |s+1,hs=>by
  obtain⟨h1,h2⟩:=w6 r s (by omega)
  rw[dg]
  refine⟨fun x hx=>?_,?_⟩
  ·rcases List.mem_append.1 hx with hx | hx
   ·obtain⟨a,j,hj,b⟩:=h1 x hx
    exact⟨a,j,by omega,b⟩
   ·simp only[List.mem_singleton]at hx
    subst hx
    exact⟨OB r (by omega) _,s,by omega,rfl⟩
  ·rw[List.pairwise_append]
   refine⟨h2,List.pairwise_singleton _ _,fun a ha b hb=>?_⟩
   obtain⟨-,j,hj,e⟩:=h1 a ha
   simp only[List.mem_singleton]at hb
   subst hb
   show a.so<3*(s:Int)+3
   omega
theorem Hk(r:Raw){s:Nat}(hs:s<=6):bF (eX r (dg r s)) where
 ps:=by
  rw[z5]
  show (∀ x∈mps,m7 x=true)/\mps.Pairwise (fun a b=>a.id<b.id)
  exact⟨by decide,by decide⟩
 psn:=by show 3<=12;decide
 rs:=by
  have h8:=qt r
  rw[z5]
  refine⟨fun x hx=>?_,?_⟩
  ·obtain⟨i,hi,rfl⟩:=List.mem_map.1 hx
   have bC:i<nR r:=List.mem_range.1 hi
   exact(uP r (by omega)).1
  ·show (eV r (nR r)).Pairwise _
   unfold eV
   rw[List.pairwise_map]
   refine List.pairwise_lt_range.imp fun {a b} vV=>?_
   show 3*(a:Int)+1<3*(b:Int)+1
   omega
 rsn:=by have:=qt r;show (eV r (nR r)).length<=60;rw[ji];omega
 ts:=by
  have h8:=xF r
  rw[z5]
  refine⟨fun x hx=>?_,?_⟩
  ·obtain⟨i,hi,rfl⟩:=List.mem_map.1 hx
   have bC:i<nT r:=List.mem_range.1 hi
   exact(Fk (He bC) (by omega)).1
  ·show (iv r (nT r)).Pairwise _
   unfold iv
   rw[List.pairwise_map]
   refine List.pairwise_lt_range.imp fun {a b} vV=>?_
   show 3*(a:Int)+2<3*(b:Int)+2
   omega
 tsn:=by have:=xF r;show ((List.range (nT r)).map _).length<=60;rw[List.length_map,List.length_range];omega
 ss:=by
  obtain⟨h1,h2⟩:=w6 r s hs
  rw[z5]
  exact⟨fun x hx=>(h1 x hx).1.1,h2⟩
 ssn:=by show (dg r s).length<=60;rw[AE];omega
 rl:=fun j hj=>by
  have e:(eX r (dg r s)).rs[j]=fJ r j:=AX hj
  have hl:(eX r (dg r s)).rs.length=nR r:=ji _ _
  have h8:=qt r
  rw[e]
  exact(uP r (by omega)).2.1
 sl:=fun j hj=>by
  obtain⟨h1,-⟩:=w6 r s hs
  exact(h1 _ (List.getElem_mem hj)).1.2
 nd:=by
  obtain⟨h1,h2⟩:=w6 r s hs
  unfold w7
  rw[List.nodup_append,List.nodup_append]
  have m1:∀ x∈(eX r (dg r s)).rs.map Rec.so,∃ i:Nat,x=3*(i:Int)+1:=fun x hx=>by
   obtain⟨y,hy,rfl⟩:=List.mem_map.1 hx
   obtain⟨i,-,rfl⟩:=List.mem_map.1 hy
   exact⟨i,rfl⟩
  have m2:∀ x∈(eX r (dg r s)).ts.map Ret.so,∃ i:Nat,x=3*(i:Int)+2:=fun x hx=>by
   obtain⟨y,hy,rfl⟩:=List.mem_map.1 hx
   obtain⟨i,-,rfl⟩:=List.mem_map.1 hy
   exact⟨i,rfl⟩
  have m3:∀ x∈(eX r (dg r s)).ss.map Sig.so,∃ i:Nat,x=3*(i:Int)+3:=fun x hx=>by
   obtain⟨y,hy,rfl⟩:=List.mem_map.1 hx
   obtain⟨-,j,-,e⟩:=h1 y hy
   exact⟨j,e⟩
  have n1:((eX r (dg r s)).rs.map Rec.so).Nodup:=by
   show ((eV r (nR r)).map Rec.so).Nodup
   unfold eV
   rw[List.map_map,List.nodup_iff_pairwise_ne,List.pairwise_map]
   refine List.pairwise_lt_range.imp fun {a b} vV=>?_
   show 3*(a:Int)+1≠3*(b:Int)+1
   omega
  have n2:((eX r (dg r s)).ts.map Ret.so).Nodup:=by
   show ((iv r (nT r)).map Ret.so).Nodup
   unfold iv
   rw[List.map_map,List.nodup_iff_pairwise_ne,List.pairwise_map]
   refine List.pairwise_lt_range.imp fun {a b} vV=>?_
   show 3*(a:Int)+2≠3*(b:Int)+2
   omega
  have n3:((eX r (dg r s)).ss.map Sig.so).Nodup:=by
   show ((dg r s).map Sig.so).Nodup
   rw[List.nodup_iff_pairwise_ne,List.pairwise_map]
   exact h2.imp fun {a b} vV=>by omega
  refine⟨⟨n1,n2,fun a ha b hb=>?_⟩,n3,fun a ha b hb=>?_⟩
  ·obtain⟨i,rfl⟩:=m1 a ha
   obtain⟨j,rfl⟩:=m2 b hb
   omega
  ·obtain⟨j,rfl⟩:=m3 b hb
   rcases List.mem_append.1 ha with ha | ha
   ·obtain⟨i,rfl⟩:=m1 a ha;omega
   ·obtain⟨i,rfl⟩:=m2 a ha;omega
open Go
def Jv:V->Bool
 | .int _ _=>true
 |_=>false
def xX(l:List V):Bool:=l.all fun x=>x.cells.all Jv
def l7(obj:Name->Option O):D->V
 | .v x=>x
 | .msl nm _=>match obj nm with
   |some (.arr _ l)=>.sl l
   |_=>default
 |_=>default
def mb(obj:Name->Option O):D->Bool
 | .v _=>true
 | .msl nm k=>match obj nm with
   |some (.arr _ l)=>decide (k=l.length)&&xX l
   |_=>false
 |_=>false
def xC:D->List Name
 | .msl nm _=>[nm]
 |_=>[]
def iy(obj:Name->Option O):D->V
 | .agg l=>.agg (l.map (l7 obj))
 |d=>l7 obj d
def oh(obj:Name->Option O):D->Bool
 | .agg l=>l.all (mb obj)
 |d=>mb obj d
def G':D->List Name
 | .agg l=>l.flatMap xC
 |d=>xC d
def Ya:V->Bool
 | .bool _=>true
 |_=>false
def PSpec.toSpecU(s:PSpec):Spec:=
 ⟨fun obj _ ds=>⟨(∀ d∈ds,oh obj d=true)/\s.pre (ds.map (iy obj)),.v (s.fn (ds.map (iy obj))),obj⟩,fun _ _ ds=>ds.flatMap G',fun _ _ _=>[]⟩
theorem lh{obj obj2:Name->Option O}{d:D}(h:bG (xC d) obj obj2):l7 obj2 d=l7 obj d/\mb obj2 d=mb obj d:=by
 cases d<;>try exact⟨rfl,rfl⟩
 rename_i nm k
 have :=h nm (by simp[xC])
 simp only[l7,mb,this,and_self]
theorem Qz{obj obj2:Name->Option O}{d:D}(h:bG (G' d) obj obj2):iy obj2 d=iy obj d/\oh obj2 d=oh obj d:=by
 cases d with
 |agg l=>
  have hx:∀ x∈l,l7 obj2 x=l7 obj x/\mb obj2 x=mb obj x:=fun x hx=>lh fun nm hn=>h nm (List.mem_flatMap.2 ⟨x,hx,hn⟩)
  simp only[iy,oh]
  refine⟨congrArg V.agg (List.map_congr_left fun x h=>(hx x h).1),?_⟩
  rw[Bool.eq_iff_iff,List.all_eq_true,List.all_eq_true]
  exact⟨fun k x h=>(hx x h).2▸k x h,fun k x h=>(hx x h).2.symm▸k x h⟩
 |v x=>exact lh (d:=.v x) h
 |nilsl=>exact lh (d:=.nilsl) h
 |nilmap=>exact lh (d:=.nilmap) h
 |ref a b=>exact lh (d:=.ref a b) h
 |msl a b=>exact lh (d:=.msl a b) h
 |aref a b c e=>exact lh (d:=.aref a b c e) h
 |map a=>exact lh (d:=.map a) h
 |yld a=>exact lh (d:=.yld a) h
 |clo a b c=>exact lh (d:=.clo a b c) h
 |tup a=>exact lh (d:=.tup a) h
 |any=>exact lh (d:=.any) h
theorem PSpec.nearU(s:PSpec):s.toSpecU.Near:=by
 refine⟨fun obj obj2 t ds h=>?_,fun obj obj2 t ds h=>rfl,fun obj t ds nm hn=>(nomatch hn),fun obj obj2 t ds h=>rfl⟩
 have hx:∀ x∈ds,iy obj2 x=iy obj x/\oh obj2 x=oh obj x:=fun x hx=>Qz fun nm hn=>h nm (List.mem_flatMap.2 ⟨x,hx,hn⟩)
 have e:ds.map (iy obj2)=ds.map (iy obj):=List.map_congr_left fun x h=>(hx x h).1
 refine bO.same ?_ (by simp only[PSpec.toSpecU,e]) rfl rfl
 simp only[PSpec.toSpecU,e]
 exact congrArg (· /\_) (propext ⟨fun k x h=>(hx x h).2▸k x h,fun k x h=>(hx x h).2.symm▸k x h⟩)
noncomputable def mh(m:Mem)(w:World):Mem:=fun b off=>match m b off with
 |some v=>some v
 |none=>match w.cell? ⟨b,off,none⟩with
  |some (.int k n)=>some (.int k n)
  |_=>none
theorem B7(m:Mem)(w:World):Mem.le m (mh m w):=fun b off v h=>by simp only[mh,h]
theorem Ju{m:Mem}{w:World}{b off:Nat}{v:Value}(h:mh m w b off=some v):m b off=some v\/∃ k n,v=.int k n/\w.cell? ⟨b,off,none⟩=some v:=by
 unfold mh at h
 split at h
 ·rename_i e;cases h;exact .inl e
 ·split at h
  ·rename_i e;cases h;exact .inr ⟨_,_,rfl,e⟩
  ·cases h
theorem Ua{m:Mem}{w:World}(hm:∀ b off v,m b off=some v->w.cell? ⟨b,off,none⟩=some v){b off:Nat}{k:IntKind}{n:Int}(h:w.cell? ⟨b,off,none⟩=some (.int k n)):mh m w b off=some (.int k n):=by
 unfold mh
 cases e:m b off with
 |some v=>have:=hm _ _ _ e;rw[h]at this;simpa using this.symm
 |none=>simp only[h]
theorem kj{G:Ghost}{φ:Name->Loc}{m:Mem}{σ:S}{a:Act}{w:World}(hC:aN G φ m σ a w){d:D}{u:Value}(hd:aD φ σ.obj m d u)(aa:mb σ.obj d=true):
 aL (mh m w) (l7 σ.obj d) u/\(d.one=true->(l7 σ.obj d).one=true):=by
 cases hd with
 |v x u h=>exact⟨h.mono (B7 m w),id⟩
 |msl nm k u hx hu=>
  obtain⟨o,n,ay,hlen,hk,cN⟩:=hx
  cases o with
  |arr sz l=>
   simp only[mb,ay,Bool.and_eq_true,decide_eq_true_eq]at aa
   simp only[l7,ay]
   refine⟨?_,fun _=>rfl⟩
   simp only[O.len?,Option.some.injEq]at hlen
   subst hlen
   obtain⟨Kc,hint⟩:=aa
   have e:=cN Kc
   subst e
   rcases hC.objs nm _ ay with⟨h,h'⟩ | ⟨h0,h1,h2,h3,h4,us,T,f,h5,h6,h7,h8⟩
   ·subst h'
    simp only[Loc.slice,h,if_true]
    exact .slnil _ _
   ·simp only[Loc.slice,h0,Bool.false_eq_true,if_false]
    rw[Kc]
    by_cases hl:l=[]
    ·subst hl;exact .slnil _ _
    ·have key:∀ i j (hi:i<l.length) (hj:j<(l[i].cells).length),∃ c,mh m w (φ nm).blk ((φ nm).off+i*sz+j)=some c/\us[(φ nm).off+i*sz+j]?=some c/\aL m (l[i].cells)[j] c:=by
       intro i j hi hj
       obtain⟨c,x,y⟩:=h8 i j hi hj
       refine⟨c,?_,x,y⟩
       have hc:Jv (l[i].cells)[j]=true:=by
        unfold xX at hint
        rw[List.all_eq_true]at hint
        have :=hint _ (List.getElem_mem hi)
        rw[List.all_eq_true]at this
        exact this _ (List.getElem_mem hj)
       have hw:w.cell? ⟨(φ nm).blk,(φ nm).off+i*sz+j,none⟩=some c:=by
        unfold World.cell?
        simp only[h5]
        exact x
       cases hv:(l[i].cells)[j]<;>rw[hv]at hc y<;>first | (cases hc;done) | skip
       cases y
       exact Ua hC.mem hw
     refine .sl l _ _ _ sz (fun i j=>(us[(φ nm).off+i*sz+j]?).getD undef) hl (by omega) h1 h3 (fun i j hi hj=>?_) (fun i j hi hj=>?_) h4
     ·obtain⟨c,x,y,_⟩:=key i j hi (by rw[h3];exact hj)
      rw[x,y];rfl
     ·obtain⟨c,_,y,z⟩:=key i j hi hj
      rw[y];exact z.mono (B7 m w)
  |_=>simp[mb,ay]at aa
 |_=>cases aa
theorem Qy{G:Ghost}{φ:Name->Loc}{m:Mem}{σ:S}{a:Act}{w:World}(hC:aN G φ m σ a w){d:D}{u:Value}(hd:aD φ σ.obj m d u)(aa:oh σ.obj d=true):
 aL (mh m w) (iy σ.obj d) u:=by
 cases d with
 |agg l=>
  cases hd with
  |agg _ us h ho hr=>
   simp only[oh,List.all_eq_true]at aa
   simp only[iy]
   refine .agg _ us (by simpa using h) (fun x hx=>?_) fun i hi bC=>?_
   ·obtain⟨d,hd,rfl⟩:=List.mem_map.1 hx
    obtain⟨j,hj,rfl⟩:=List.getElem_of_mem hd
    exact(kj hC (hr j hj (by omega)) (aa _ (List.getElem_mem hj))).2 (ho _ (List.getElem_mem hj))
   ·simp only[List.length_map]at hi
    rw[List.getElem_map]
    exact(kj hC (hr i hi bC) (aa _ (List.getElem_mem hi))).1
 |v x=>exact(kj (d:=.v x) hC hd aa).1
 |nilsl=>exact(kj (d:=.nilsl) hC hd aa).1
 |nilmap=>exact(kj (d:=.nilmap) hC hd aa).1
 |ref a b=>exact(kj (d:=.ref a b) hC hd aa).1
 |msl a b=>exact(kj (d:=.msl a b) hC hd aa).1
 |aref a b c e=>exact(kj (d:=.aref a b c e) hC hd aa).1
 |map a=>exact(kj (d:=.map a) hC hd aa).1
 |yld a=>exact(kj (d:=.yld a) hC hd aa).1
 |clo a b c=>exact(kj (d:=.clo a b c) hC hd aa).1
 |tup a=>exact(kj (d:=.tup a) hC hd aa).1
 |any=>exact(kj (d:=.any) hC hd aa).1
theorem aW.soundU{P:Program}{f:FuncId}{s:PSpec}(h:aW P f s)(hb:∀ xs,s.pre xs->∃ l,s.fn xs=.sl l/\l.all Ya=true):aM P f s.toSpecU:=by
 obtain⟨hy,kJ,_,rp⟩:=h
 refine⟨s.nearU,fun _=>kJ,fun _ G φ m σ a w hC t ds us _ hl hr aa=>?_,fun e=>(hy e).elim⟩
 obtain⟨vG,pJ⟩:=aa
 have jt:∀ b off v,mh m w b off=some v->w.cell? ⟨b,off,none⟩=some v:=fun b off v h=>by
  rcases Ju h with h | ⟨_,_,_,h⟩
  ·exact hC.mem _ _ _ h
  ·exact h
 refine(rp (mh m w) w (ds.map (iy σ.obj)) us jt ⟨by simpa using hl,fun i h h'=>?_⟩ pJ).mono ?_
 ·simp only[List.length_map]at h
  rw[List.getElem_map,Array.getElem_toList]
  exact Qy hC (hr i h (by simpa using h')) (vG _ (List.getElem_mem h))
 rintro e w' ⟨v,m',rfl,vT,hm,hn,hv⟩
 obtain⟨l,gg,dY⟩:=hb _ pJ
 let m2:Mem:=fun b off=>if w.heap.size<=b then m' b off else m b off
 have hle:Mem.le m m2:=fun b off v h=>by
  show (if w.heap.size<=b then m' b off else m b off)=some v
  split
  ·exact hm _ _ _ (B7 m w _ _ _ h)
  ·exact h
 have yd:aL m2 (s.fn (ds.map (iy σ.obj))) v:=by
  rw[gg]at hv |-
  rw[List.all_eq_true]at dY
  have vS:∀ i (h:i<l.length),l[i].cells=[l[i]]:=fun i h=>by
   have :=dY _ (List.getElem_mem h)
   cases hv:l[i]<;>rw[hv]at this<;>first | (cases this;done) | rfl
  cases hv with
  |slnil a cap=>exact .slnil _ _
  |sl _ b o cap sz c J3 yA iU hs hc hr ho=>
   have dv:sz=1:=by
    have h0:0<l.length:=List.length_pos_iff.2 J3
    rw[<-hs 0 h0,vS 0 h0];rfl
   subst dv
   have Kx:∀ i (h:i<l.length),∃ x,l[i]=.bool x/\c i 0=.bool x:=fun i h=>by
    have h1:=hr i 0 h (by rw[vS i h];exact Nat.zero_lt_one)
    have h2:=dY _ (List.getElem_mem h)
    simp only[vS i h,List.getElem_cons_zero]at h1
    cases hv:l[i]<;>rw[hv]at h2<;>first | (cases h2;done) | skip
    rw[hv]at h1
    generalize hc0:c i 0=cc at h1
    cases h1
    exact⟨_,rfl,rfl⟩
   refine .sl l b o cap 1 c J3 yA iU hs (fun i j hi hj=>?_) (fun i j hi hj=>?_) ho
   ·have bB:j=0:=by omega
    subst bB
    have h1:=hc i 0 hi hj
    show (if w.heap.size<=b then m' b (o+i*1+0)else m b (o+i*1+0))=_
    split
    ·exact h1
    ·rename_i ab
     obtain⟨x,_,hx⟩:=Kx i hi
     rcases hn _ _ _ h1 with h2 | ⟨h2,_⟩
     ·rcases Ju h2 with h3 | ⟨k,n,h3,_⟩
      ·exact h3
      ·rw[hx]at h3;cases h3
     ·exact(ab h2).elim
   ·obtain⟨x,h1,h2⟩:=Kx i hi
    have bB:j=0:=by rw[vS i hi]at hj;simpa using hj
    subst bB
    simp only[vS i hi,List.getElem_cons_zero]
    rw[h1,h2]
    exact .bool x
 refine⟨v,φ,m2,rfl,?_,.v _ _ yd,.refl _ _⟩
 simp only[PSpec.toSpecU]
 refine hC.imm hle ⟨vT.os,vT.tape,vT.output,vT.size⟩ vT.block fun b off v h=>?_
 have h':(if w.heap.size<=b then m' b off else m b off)=some v:=h
 split at h'
 ·rename_i bx
  rcases hn _ _ _ h' with h2 | h2
  ·have:=nL (jt _ _ _ h2);omega
  ·exact .inr h2
 ·exact .inl h'
structure Rn (α:Type) where
 m:Nat
 fam:α->List Name->List O
 args:α->List Name->List D
 ok:α->Prop
 val:α->List Name->D
structure Rn.Ok {α:Type} (r:Rn α):Prop where
 len:∀ a Ls,Ls.length=r.m->(r.fam a Ls).length=r.m
 renF:∀ a f Ls,Ls.length=r.m->(r.fam a Ls).map (O.ren f)=r.fam a (Ls.map f)
 renA:∀ a f Ls,Ls.length=r.m->D.renL f (r.args a Ls)=r.args a (Ls.map f)
 reach:∀ a Ls obj,Ls.length=r.m->Ls.Nodup->cK obj Ls (r.fam a Ls)->reach obj (r.args a Ls)=Ls
 closF:∀ a dom Ls,Ls.length=r.m->(∀ x∈Ls,dom x=true)->∀ o∈r.fam a Ls,O.clos dom o=true
 closA:∀ a dom Ls,Ls.length=r.m->(∀ x∈Ls,dom x=true)->D.closL dom (r.args a Ls)=true
 det:∀ a b,r.ok a->r.ok b->r.fam a (LR r.m)=r.fam b (LR r.m)->r.args a (LR r.m)=r.args b (LR r.m)->r.val a (LR r.m)=r.val b (LR r.m)
 vcl:∀ a dom Ls,Ls.length=r.m->(∀ x∈Ls,dom x=true)->D.clos dom (r.val a Ls)=true
 vren:∀ a f Ls,Ls.length=r.m->(r.val a Ls).ren f=r.val a (Ls.map f)
variable {α:Type}
noncomputable def Rn.c(r:Rn α):CSpec where
 pre:=fun os ds=>∃ a,r.ok a/\os=r.fam a (LR r.m)/\ds=r.args a (LR r.m)
 out:=fun os ds=>⟨[],[],by classical exact if h:∃ a,r.ok a/\os=r.fam a (LR r.m)/\ds=r.args a (LR r.m)then r.val h.choose (LR r.m)else .any⟩
theorem Rn.c_out{r:Rn α}(hr:r.Ok){a:α}(ha:r.ok a):r.c.out (r.fam a (LR r.m)) (r.args a (LR r.m))=⟨[],[],r.val a (LR r.m)⟩:=by
 have h:∃ b,r.ok b/\r.fam a (LR r.m)=r.fam b (LR r.m)/\r.args a (LR r.m)=r.args b (LR r.m):=⟨a,ha,rfl,rfl⟩
 have e:r.val h.choose (LR r.m)=r.val a (LR r.m):=(hr.det _ _ ha h.choose_spec.1 h.choose_spec.2.1 h.choose_spec.2.2).symm
 simp only[Rn.c]
 rw[dif_pos h,e]
theorem Rn.c_app{r:Rn α}(hr:r.Ok){a:α}(ha:r.ok a){obj:Name->Option O}{t:Name}{Ls:List Name}(hl:Ls.length=r.m)(hn:Ls.Nodup)(hF:cK obj Ls (r.fam a Ls)):
 r.c.toSpec.app obj t (r.args a Ls)=⟨True,r.val a Ls,obj⟩:=by
 have js:=hr.reach a Ls obj hl hn hF
 have rm:Ls.map (cin Ls)=LR r.m:=by rw[zw hn,hl]
 have e1:cp obj (r.args a Ls)=r.fam a (LR r.m):=by
  unfold cp
  rw[js]
  have mG:=hF
  rw[kq]at mG
  have :Ls.map (cw Ls obj)=(r.fam a Ls).map (O.ren (cin Ls)):=by
   refine List.ext_getElem (by simp[hr.len _ _ hl,hl]) fun i h1 h2=>?_
   have h3:i<Ls.length:=by simpa using h1
   have h4:i<(r.fam a Ls).length:=by rw[hr.len _ _ hl,<-hl];exact h3
   have h5:=congrArg (fun l=>l[i]?) mG
   have h6:obj Ls[i]=some (r.fam a Ls)[i]:=by simpa[h3,h4]using h5
   simp only[List.getElem_map,cw,h6]
  rw[this,hr.renF _ _ _ hl,rm]
 have e2:cQ obj (r.args a Ls)=r.args a (LR r.m):=by
  unfold cQ
  rw[js,hr.renA _ _ _ hl,rm]
 have iN:∀ x∈Ls,cM Ls x=true:=fun x hx=>gb.2 hx
 have jq:shut obj Ls=true:=by
  unfold shut
  rw[List.all_eq_true]
  intro x hx
  obtain⟨i,hi,rfl⟩:=List.getElem_of_mem hx
  have mG:=hF
  rw[kq]at mG
  have h4:i<(r.fam a Ls).length:=by rw[hr.len _ _ hl,<-hl];exact hi
  have h5:=congrArg (fun l=>l[i]?) mG
  have h6:obj Ls[i]=some (r.fam a Ls)[i]:=by simpa[hi,h4]using h5
  rw[h6]
  exact hr.closF _ _ _ hl iN _ (List.getElem_mem h4)
 have dI:r.c.pre (r.fam a (LR r.m)) (r.args a (LR r.m)):=⟨a,ha,rfl,rfl⟩
 simp only[CSpec.toSpec,e1,e2,js,Rn.c_out hr ha,jq,hr.closA _ _ _ hl iN,fresh,List.all_nil,Bool.and_self,dI,and_self,di,cr]
 rw[hr.vren _ _ _ (nQ _)]
 have :(LR r.m).map (cout Ls t)=Ls:=by rw[<-hl];exact L8 Ls t
 rw[this]
def F1(P:Program)(rs:List ResultVar)(v:D)(H:Name->Option O)(e:Exit)(σ:S):Prop:=
 (e=.normal\/e=.ret)/\(bL P σ rs).ok/\(bL P σ rs).d=v/\∀ i,σ.obj [i,1]=H [i,1]
theorem Rn.sound{P:Program}{r:Rn α}(hr:r.Ok){f:FuncId}{fn:Func}{nt:Nat}{rs:List ResultVar}(hf:P.funcs[f]?=some fn)(ca:fn.ntmps=nt)(bQ:fn.results.toList=rs)(hn:(fn.name== "runtime.NumGoroutine")=false)(hy:f<1000000000)
 (hw:∃ c,fn.body=some c/\∀ a,r.ok a->(r.args a (LR r.m)).length<=nt/\CL P [c] (bc nt [0] (aV (r.fam a (LR r.m))) (cW 0 (r.args a (LR r.m))) []) (F1 P rs (r.val a (LR r.m)) (aV (r.fam a (LR r.m))))):aM P f r.c.toSpec:=by
 obtain⟨c,hc,hw⟩:=hw
 refine nI hf hc ca bQ (ib hf hc hn) (Nat.ne_of_lt (show f<yid from hy)) ?_
 rintro os ds ⟨a,ha,rfl,rfl⟩
 obtain⟨hl,h⟩:=hw a ha
 refine⟨hl,?_⟩
 rw[Rn.c_out hr ha]
 refine CW.mono (iY h) ?_
 rintro e σ ⟨he,h1,h2,h3⟩
 have fin:(bL P σ rs).ok/\(bL P σ rs).d=r.val a (LR r.m)/\fT (r.fam a (LR r.m)) ⟨[],[],r.val a (LR r.m)⟩ σ:=by
  refine⟨h1,h2,Bj fun i hi=>?_,trivial,?_⟩
  ·rw[Nat.zero_add,h3]
   show (r.fam a (LR r.m))[i]?=_
   rw[List.getElem?_eq_getElem hi]
  ·have hv:D.clos (cV (r.fam a (LR r.m)).length []) (r.val a (LR r.m))=true:=hr.vcl _ _ _ (nQ _) fun x hx=>by
     obtain⟨i,hi,rfl⟩:=List.mem_map.1 hx
     rw[hr.len _ _ (nQ _)]
     simpa[cV]using hi
   simp[hv,distinct]
 rcases he with rfl | rfl
 ·exact fin
 ·exact fin
theorem Rn.outC{r:Rn α}(hr:r.Ok)(a:α):∀ hs,b7 [0] (bU [0] hs) (aV (r.fam a (LR r.m)))=True:=fun hs=>eq_true (od (fun o ho dom hd=>hr.closF a dom _ (nQ _) (fun x hx=>by
 obtain⟨i,_,rfl⟩:=List.mem_map.1 hx
 exact hd i) o ho) hs)
noncomputable section
attribute [go_sem] F1
def S71u:Spec:=P71.toSpecU
theorem TU:aM Tryz.prog 71 S71u:=Pg.soundU fun xs hp=>by
 obtain⟨l,hl⟩:∃ l:List Bool,P71.fn xs=.sl (l.map .bool):=by
  match xs,hp with
  |[a,b],_=>exact⟨_,rfl⟩
 refine⟨_,hl,?_⟩
 rw[List.all_eq_true]
 intro x hx
 obtain⟨y,_,rfl⟩:=List.mem_map.1 hx
 rfl
theorem Ub(l:List Sig):xX (l.map encS)=true:=by
 unfold xX
 rw[List.all_eq_true]
 intro x hx
 obtain⟨y,_,rfl⟩:=List.mem_map.1 hx
 rfl
def xf(l:Led)(k:Int)(nm:Name):D:=.agg [.v (.sl (l.ps.map dk)),.v (.sl (l.rs.map encR)),.v (.sl (l.ts.map dB)),.msl nm l.ss.length,.v (vInt k),.v (.sl ((bu l k l.ts.length).map .bool)),.nilsl]
def jm:Rn (Led×Int) where
 m:=1
 fam:=fun a _=>[.arr 7 (a.1.ss.map encS)]
 args:=fun a Ls=>[.agg [.v (.sl (a.1.ps.map dk)),.v (.sl (a.1.rs.map encR)),.v (.sl (a.1.ts.map dB)),.msl (Ls.getD 0 []) a.1.ss.length],.v (vInt a.2)]
 ok:=fun a=>bF a.1
 val:=fun a Ls=>xf a.1 a.2 (Ls.getD 0 [])
theorem sU{Ls:List Name}(h:Ls.length=1):∃ a,Ls=[a]:=by
 match Ls,h with
 |[a],_=>exact⟨a,rfl⟩
theorem BI:jm.Ok where
 len:=fun _ _ h=>by obtain⟨a,rfl⟩:=sU h;rfl
 renF:=fun a f Ls h=>rfl
 renA:=fun a f Ls h=>by obtain⟨a,rfl⟩:=sU h;rfl
 reach:=fun x Ls obj h bN hF=>by
  obtain⟨a,rfl⟩:=sU h
  obtain⟨h1,_⟩:=hF
  have en:cS (jm.args x [a])=[a]:=rfl
  unfold Go.Eng.reach
  rw[en]
  show dn obj (2993+1+1+1+1+1+1+1) _ []=_
  simp[dn,gb,h1,ln]
 closF:=fun x dom Ls h hd o ho=>by
  simp only[jm,List.mem_cons,List.not_mem_nil,or_false]at ho
  subst ho;rfl
 closA:=fun x dom Ls h hd=>by
  obtain⟨a,rfl⟩:=sU h
  have h1:=hd a (by simp)
  simp[jm,D.closL,D.clos,h1]
 det:=fun a b _ _ h1 h2=>by
  obtain⟨⟨p,r,t,s⟩,k⟩:=a
  obtain⟨⟨p2,r2,t2,s2⟩,k2⟩:=b
  simp only[jm,List.cons.injEq,D.agg.injEq,D.v.injEq,V.sl.injEq,O.arr.injEq,and_true,true_and]at h1 h2
  obtain⟨⟨e1,e2,e3,_⟩,e4⟩:=h2
  have e1:=congrArg (List.map pW) e1
  have e2:=congrArg (List.map j6) e2
  have e3:=congrArg (List.map lG) e3
  have e5:=congrArg (List.map iX) h1
  simp only[LL,zi,LJ,tL]at e1 e2 e3 e5
  have e6:k=k2:=by simpa[vInt]using e4
  subst e1 e2 e3 e5 e6
  rfl
 vcl:=fun x dom Ls h hd=>by
  obtain⟨a,rfl⟩:=sU h
  have h1:=hd a (by simp)
  simp[jm,xf,D.closL,D.clos,h1]
 vren:=fun x f Ls h=>by obtain⟨a,rfl⟩:=sU h;rfl
def S73m:Spec:=jm.c.toSpec
theorem Pe(l:Led)(k:Int)(obj:Name->Option O)(t nm:Name)(H:Name->Option O)(cO:obj nm=H nm)(h0:H nm=some (.arr 7 (l.ss.map encS)))(hl:bF l):
 S71u.app obj t [.agg [.v (.sl (l.ps.map dk)),.v (.sl (l.rs.map encR)),.v (.sl (l.ts.map dB)),.msl nm l.ss.length],.v (vInt k)]=⟨True,.v (.sl ((bu l k l.ts.length).map .bool)),obj⟩:=by
 have ho:=cO.trans h0
 have e:iy obj (.agg [.v (.sl (l.ps.map dk)),.v (.sl (l.rs.map encR)),.v (.sl (l.ts.map dB)),.msl nm l.ss.length])=fc l:=by
  simp[iy,l7,ho,fc]
 have e2:P71.fn [fc l,vInt k]=.sl ((bu l k l.ts.length).map .bool):=by
  simp only[go_sem]
 have e3:P71.pre [fc l,vInt k]:=by
  simp only[go_sem]
  exact hl
 simp only[S71u,PSpec.toSpecU,List.map_cons,List.map_nil,e,show iy obj (.v (vInt k))=vInt k from rfl,e2,R.mk.injEq,and_true,eq_iff_iff,iff_true]
 refine⟨fun d hd=>?_,e3⟩
 simp only[List.mem_cons,List.not_mem_nil,or_false]at hd
 rcases hd with rfl | rfl
 ·simp[oh,mb,ho,Ub]
 ·rfl
theorem Pf(l:Led)(k:Int)(t:Name){F H:Name->Option O}(h0:H [0,1]=some (.arr 7 (l.ss.map encS)))(hl:bF l):
 S71u.app (fun nm=>if own [0] nm=true then F nm else H nm) t [.agg [.v (.sl (l.ps.map dk)),.v (.sl (l.rs.map encR)),.v (.sl (l.ts.map dB)),.msl [0,1] l.ss.length],.v (vInt k)]=⟨True,.v (.sl ((bu l k l.ts.length).map .bool)),fun nm=>if own [0] nm=true then F nm else H nm⟩:=
 Pe l k _ t [0,1] H rfl h0 hl
def EO:FuncId->Option Spec:=fun f=>if f=71 then some S71u else none
theorem ZJ:∀ f s,EO f=some s->aM Tryz.prog f s:=fun f s h=>by
 unfold EO at h
 split at h
 ·rename_i e;cases h;subst e;exact TU
 ·cases h
@[go_sem] theorem aeq:EO 71=some S71u:=rfl
set_option maxHeartbeats 4000000 in
theorem TT:aM Tryz.prog 73 S73m:=by
 refine Rn.sound BI (rs:=[.cell 4 108]) Tryz.func73 Tryz.ntmps73 (by rfl) (by kernel_rfl) (by decide) ⟨_,rfl,?_⟩
 rintro⟨l,k⟩ hp
 refine⟨lb rfl,?_⟩
 have hΓ:=ZJ
 have hP:=fL
 have hO:=Rn.outC BI (l,k)
 have h0:aV (jm.fam (l,k) (LR jm.m)) [0,1]=some (.arr 7 (l.ss.map encS)):=rfl
 generalize aV (jm.fam (l,k) (LR jm.m))=H at *
 have ha:jm.args (l,k) (LR jm.m)=[.agg [.v (.sl (l.ps.map dk)),.v (.sl (l.rs.map encR)),.v (.sl (l.ts.map dB)),.msl [0,1] l.ss.length],.v (vInt k)]:=rfl
 have hv:jm.val (l,k) (LR jm.m)=xf l k [0,1]:=rfl
 rw[ha,hv]
 simp only[xf,cW,Nat.zero_add]at h0 |-
 repeat refine sq ?_
 refine rx hΓ [1,2,4] [[2,0],[4,0]] (fun K' hK=>by simp only[go_sem,hO,h0];(repeat (refine⟨ao,?_⟩));exact hK _ (by simp only[go_sem,hO,h0]) (by simp only[go_sem,hO,h0]<;>rfl)) ?_
 repeat refine sq ?_
 refine dx hΓ hP [[],[],[],[],[2,3],u5,u6] [4] [[4,0]] (by kernel_rfl) (fun K' hK=>by simp only[go_sem,hO,h0];rw[Pf l k _ h0 hp];simp only[go_sem,hO,h0];(repeat (refine⟨ao,?_⟩));(first | refine⟨by rfl,?_⟩ | skip);exact hK _ (by simp only[go_sem,hO,h0]) (by simp only[go_sem,hO,h0]<;>rfl)) ?_
 refine aA ?_
 simp only[go_sem,hO,h0]
 exact .inr trivial
theorem Pd{p:List Pap}{rr:List Rec}{tt:List Ret}{ss:List Sig}{k:Int}{n:Nat}{obj:Name->Option O}{t nm:Name}(ho:obj nm=some (.arr 7 (ss.map encS)))(hl:bF ⟨p,rr,tt,ss⟩)(hn:n=ss.length):
 S73m.app obj t [.agg [.v (.sl (p.map dk)),.v (.sl (rr.map encR)),.v (.sl (tt.map dB)),.msl nm n],.v (.int .i64 k)]=
  ⟨True,.agg [.v (.sl (p.map dk)),.v (.sl (rr.map encR)),.v (.sl (tt.map dB)),.msl nm ss.length,.v (.int .i64 k),.v (.sl ((bu ⟨p,rr,tt,ss⟩ k tt.length).map .bool)),.nilsl],obj⟩:=by
 subst hn
 exact Rn.c_app BI (a:=(⟨p,rr,tt,ss⟩,k)) hl (t:=t) (obj:=obj) (Ls:=[nm]) rfl (by simp) ⟨ho,trivial⟩
end
noncomputable section
def rH(x:R5):V:=.agg [vInt x.a,vInt x.b,vInt x.c,vInt x.d,vInt x.e]
def tF(x:R7):V:=.agg [vInt x.a,vInt x.b,vInt x.c,vInt x.d,vInt x.e,vInt x.f,vInt x.g]
def wh:V->R5
 | .agg [.int _ a,.int _ b,.int _ c,.int _ d,.int _ e]=>⟨a,b,c,d,e⟩
 |_=>default
def zj:V->R7
 | .agg [.int _ a,.int _ b,.int _ c,.int _ d,.int _ e,.int _ f,.int _ g]=>⟨a,b,c,d,e,f,g⟩
 |_=>default
def rG(r:Raw):V:=.agg [.sl (r.rs.map rH),.sl (r.ts.map tF),.sl (r.ss.map rH)]
def zh:V->Raw
 | .agg [.sl a,.sl b,.sl c]=>⟨a.map wh,b.map zj,c.map wh⟩
 |_=>default
def vq:En Raw:=⟨rG,zh⟩
theorem Xo(x:R5):wh (rH x)=x:=rfl
theorem Xm(x:R7):zj (tF x)=x:=rfl
@[go_sem] theorem Xn(l:List R5):(l.map rH).map wh=l:=qv Xo l
@[go_sem] theorem Xl(l:List R7):(l.map tF).map zj=l:=qv Xm l
attribute [go_sem] rH wh tF zj rG zh vq
@[go_sem] theorem aec(x:Raw):(⟨x.rs,x.ts,x.ss⟩:Raw)=x:=rfl
def K73:List (Nat×Spec):=[(20,Ng),(83,YX),(84,z8),(73,S73m),(74,Nd)]
theorem ZS:KS K73:=tc FM.sound<|tc Pb.sound<|tc O'.sound<|tc TT<|tc Pc.sound<|tn
attribute [go_sem] K73
@[go_sem] def P19:PSpec:=p1 vq (fun _=>True) (fun r=>.tup [fc (jN r),.sl ((kO r (nT r)).map vInt)]) false
@[go_sem] def Y':Spec:=P19.toSpec
set_option maxHeartbeats 1000000 in
theorem Py:aW Tryz.prog 19 P19:=by
 refine fV (rs:=[.cell 2 31,.tmp 3]) Tryz.func19 Tryz.ntmps19 fun r hp hw=>?_
 have hP:=fL
 simp only[vq]at hw |-
 have hΓ:=ZS
 have h8:=qt r
 have hl:nR r<=maxLen:=by unfold maxLen;omega
 repeat refine sq ?_
 refine rx hΓ [1,2] [[1,0],[2,0],[77,0],[158,0],[235,0]] (fun K' hK=>by simp only[go_sem];exact an) ?_
 repeat refine sq ?_
 refine rx hΓ [1,2,4] [[1,0],[2,0],[4,0],[77,0],[158,0],[235,0]] (fun K' hK=>by simp only[go_sem];exact an) ?_
 repeat refine sq ?_
 refine rx hΓ [1,2,4,5] [[1,0],[2,0],[4,0],[77,0],[158,0],[163,0],[235,0]] (fun K' hK=>by simp only[go_sem];exact an) ?_
 refine bZ (uh 5 [163,0] 1 (by simp only[go_sem]) (by simp only[go_sem]) [1,2,4,5] [[1,0],[2,0],[4,0],[77,0],[158,0],[163,0],[235,0]] ?_ rfl) ?_
 ·simp only[go_sem]
 simp only[go_sem]
 repeat refine sq ?_
 refine rx hΓ [1,2,4,5,6] [[1,0],[2,0],[4,0],[77,0],[158,0],[163,0],[235,0]] (fun K' hK=>by simp only[go_sem];exact an) ?_
 refine bZ (uj [4,0] [77,0] 1 7 _ rfl rfl rfl [1,2,4,5,6] [[1,0],[2,0],[4,0],[77,0],[158,0],[163,0],[235,0]] ?_ rfl) ?_
 ·simp only[go_sem,List.set_cons_succ,List.set_cons_zero]
 simp only[go_sem,List.set_cons_succ,List.set_cons_zero]
 refine bZ (uj [4,0] [158,0] 2 8 _ rfl rfl rfl [1,2,4,5,6] [[1,0],[2,0],[4,0],[77,0],[158,0],[163,0],[235,0]] ?_ rfl) ?_
 ·simp only[go_sem,List.set_cons_succ,List.set_cons_zero]
 simp only[go_sem,List.set_cons_succ,List.set_cons_zero]
 repeat refine sq ?_
 refine rx hΓ [1,2,4,5,6,7] [[1,0],[2,0],[4,0],[77,0],[158,0],[163,0],[235,0]] (fun K' hK=>by simp only[go_sem];exact an) ?_
 refine bZ (uj [4,0] [235,0] 3 7 _ rfl rfl rfl [1,2,4,5,6,7] [[1,0],[2,0],[4,0],[77,0],[158,0],[163,0],[235,0]] ?_ rfl) ?_
 ·simp only[go_sem,List.set_cons_succ,List.set_cons_zero]
 simp only[go_sem,List.set_cons_succ,List.set_cons_zero]
 repeat refine sq ?_
 refine aS ?_
 repeat refine sq ?_
 refine cv (fun s:Nat=>[(7,⟨true,.v (vInt s)⟩),(6,⟨true,.v (vInt (eu r s))⟩)]) (fun s=>[([4,0],.box [.v (.sl (mps.map dk)),.msl [77,0] (eV r s).length,.msl [158,0] 0,.msl [235,0] 0]),([77,0],.arr 7 ((eV r s).map encR))]) (fun s=>s<=(nR r)) (fun s=>(nR r)-s) 0 ?_ ?_ ?_ ?_
 ·exact Nat.zero_le _
 ·rfl
 ·rfl
 rintro i hi
 simp only[go_sem]
 repeat refine sq ?_
 refine rx hΓ [1,2,4,5,6,7,33] [[1,0],[2,0],[4,0],[77,0],[158,0],[163,0],[235,0]] (fun K' hK=>by simp only[go_sem];exact an) ?_
 repeat refine sq ?_
 refine aB (fun hb=>?_) fun hb=>?_
 ·repeat refine sq ?_
  have ab:i<nR r:=by simp at hb;unfold nR;omega
  have Km:i<r.rs.length:=by have h:=ab;unfold nR at h;omega
  have Vp:(i:Int)<r.rs.length:=by omega
  have e5:r5 r.rs i=r.rs[i]:=bW Km
  have m3:=dF (n:=r.rs[i].b) (m:=3) (by decide)
  have qV:0<=aR r.rs[i].b 3:=m3.1
  have J9:(mps.length:Int)=3:=rfl
  have nq:aR r.rs[i].b 3<(mps.length:Int):=by omega
  have vP:(mps.map dk).getD (aR r.rs[i].b 3).toNat default=dk (cX r.rs[i].b):=by
   have hl:(aR r.rs[i].b 3).toNat<mps.length:=by omega
   rw[ah hl];unfold cX;rw[bW hl]
  obtain⟨-,l1,l2,p1,p2⟩:=vd (ve r.rs[i].b)
  have d0:=wg r i
  have ed:eu r (i+1)=eu r i+aR r.rs[i].d 20:=by rw[eu,e5]
  have m20:=dF (n:=r.rs[i].d) (m:=20) (by decide)
  have m4:=dF (n:=r.rs[i].a) (m:=4) (by decide)
  have m5:=dF (n:=r.rs[i].e) (m:=5) (by decide)
  have gv:IntKind.i64.wrap (eu r i+aR r.rs[i].d 20)=eu r (i+1):=by rw[wrap_i64 (by omega) (by omega)];exact ed.symm
  have vy:IntKind.i64.wrap (3*(i:Int))=3*(i:Int):=wrap_i64 (by omega) (by omega)
  have Ux:IntKind.i64.wrap (3*(i:Int)+1)=3*(i:Int)+1:=wrap_i64 (by omega) (by omega)
  have Ch:IntKind.i64.wrap (1+aR r.rs[i].a 4)=1+aR r.rs[i].a 4:=wrap_i64 (by omega) (by omega)
  have s8:IntKind.i64.wrap (eu r (i+1)+aR r.rs[i].e 5)=eu r (i+1)+aR r.rs[i].e 5:=wrap_i64 (by omega) (by omega)
  have eS:eV r (i+1)=eV r i++[⟨3*(i:Int)+1,1+aR r.rs[i].a 4,(cX r.rs[i].b).id,il r.rs[i].c (cX r.rs[i].b).lv,eu r (i+1),eu r (i+1)+aR r.rs[i].e 5,0⟩]:=by
   unfold eV
   rw[List.range_succ,List.map_append]
   show _++[fJ r i]=_
   unfold fJ
   rw[e5]
  have pF:=ji r i
  refine aE ?_
  repeat refine sq ?_
  refine aS ?_
  repeat refine sq ?_
  refine rx hΓ [1,2,4,5,6,7,8] [[1,0],[2,0],[4,0],[8,0],[77,0],[158,0],[163,0],[235,0]] (fun K' hK=>by simp only[go_sem,ah Km,Vp,ai,ak,List.length_map];exact an) ?_
  repeat refine sq ?_
  refine dx hΓ hP [[],[0],[],[2],[2,3],u5,u6,[],u8] [1,2,4,5,6,7,8,9] [[1,0],[2,0],[4,0],[8,0],[9,0],[77,0],[158,0],[163,0],[235,0]] (by kernel_rfl) (fun K' hK=>by simp only[go_sem,Int.cast_ofNat_Int,Int.reduceToNat,Int.toNat_zero,Int.toNat_one,Nat.reduceMul,Nat.zero_mul,Nat.one_mul,List.getD_cons_succ,List.getD_cons_zero,vP,qV,nq,List.length_map];(repeat (refine⟨by first | exact ao | exact⟨by decide,by decide⟩,?_⟩));exact gL) ?_
  repeat refine sq ?_
  refine rx hΓ [1,2,4,5,6,7,8,9] [[1,0],[2,0],[4,0],[8,0],[9,0],[77,0],[158,0],[163,0],[235,0]] (fun K' hK=>by simp only[go_sem,Int.cast_ofNat_Int,Int.reduceToNat,Int.toNat_zero,Int.toNat_one,Nat.reduceMul,Nat.zero_mul,Nat.one_mul,List.getD_cons_succ,List.getD_cons_zero,gv];(repeat (refine⟨by first | exact ao | exact⟨by decide,by decide⟩,?_⟩));exact eN) ?_
  repeat refine sq ?_
  refine tU hΓ hP [[],[0],[],[2],[2,3],[],[5],[5,6],[5,6,7],[],[9],[],[11],[],[13],[5,6,7,11,12,13,14],[],[],[],[18],[5,6,7,11,12,13,14,15,18,19],[5,6,7,11,12,13,14,15,17,18,19,20],[2,3,4,5,6,7,8,9,10,11,12,13,14,15,16,17,18,19,20,21],[2,3,4,5,6,7,8,9,10,11,12,13,14,15,16,17,18,19,20,21,22],wR,sk,Au] (by kernel_rfl) fun K' hK=>?_
  simp only[go_sem,Int.cast_ofNat_Int,Int.reduceToNat,Int.toNat_zero,Int.toNat_one,Nat.reduceMul,Nat.zero_mul,Nat.one_mul,List.getD_cons_succ,List.getD_cons_zero,vy,Ux,Ch,s8]
  repeat (refine⟨by first | exact ao | exact⟨by decide,by decide⟩ | exact⟨by omega,by omega⟩,?_⟩)
  first | refine⟨by rfl,?_⟩ | skip
  refine hK _ ?_
  clear K' hK
  simp only[go_sem]
  refine kp [1,2,4,5,6,7] [[1,0],[2,0],[4,0],[77,0],[158,0],[163,0],[235,0]] ?_
  repeat refine sq ?_
  refine aY hΓ fun K' hK=>?_
  simp only[go_sem]
  repeat (refine⟨ao,?_⟩)
  refine hK _ ?_
  clear K' hK
  simp only[go_sem]
  refine⟨i+1,ab,by(show (nR r)-(i+1)<(nR r)-i;omega),?_⟩
  refine bq [1,2,4,5,6,7] [[1,0],[2,0],[4,0],[77,0],[158,0],[163,0],[235,0]] ?_ ?_<;>simp only[go_sem,bj ab hl,bn,eS,List.map_append,List.length_append,List.map_cons,List.map_nil,List.length_cons,List.length_nil]
 ·repeat refine sq ?_
  have bx:i=nR r:=by
   simp at hb
   have h:=hi
   unfold nR at h |-
   omega
  subst bx
  have qW:nT r<=maxLen:=by have:=xF r;unfold maxLen;omega
  refine bV ?_
  simp only[go_sem]
  refine kp [1,2,4,5,6] [[1,0],[2,0],[4,0],[77,0],[158,0],[163,0],[235,0]] ?_
  repeat refine sq ?_
  refine rx hΓ [1,2,4,5,6,10] [[1,0],[2,0],[4,0],[77,0],[158,0],[163,0],[235,0]] (fun K' hK=>by simp only[go_sem];exact an) ?_
  repeat refine sq ?_
  refine aS ?_
  repeat refine sq ?_
  refine cv (fun s:Nat=>[(10,⟨true,.v (vInt s)⟩),(5,⟨true,.msl [163,0] (kO r s).length⟩)]) (fun s=>[([4,0],.box [.v (.sl (mps.map dk)),.msl [77,0] (eV r (nR r)).length,.msl [158,0] (iv r s).length,.msl [235,0] 0]),([158,0],.arr 8 ((iv r s).map dB)),([163,0],.arr 1 ((kO r s).map vInt))]) (fun s=>s<=(nT r)) (fun s=>(nT r)-s) 0 ?_ ?_ ?_ ?_
  ·exact Nat.zero_le _
  ·rfl
  ·rfl
  rintro i1 hi
  simp only[go_sem]
  repeat refine sq ?_
  refine rx hΓ [1,2,4,5,6,10,93] [[1,0],[2,0],[4,0],[77,0],[158,0],[163,0],[235,0]] (fun K' hK=>by simp only[go_sem,ji];exact an) ?_
  repeat refine sq ?_
  refine aB (fun hb=>?_) fun hb=>?_
  ·repeat refine sq ?_
   have aU:i1<nT r:=by simp at hb;unfold nT;split<;>omega
   have CF:nR r≠0:=He aU
   have Kk:i1<r.ts.length:=by have h:=aU;unfold nT at h;rw[if_neg CF]at h;omega
   have Vn:(i1:Int)<r.ts.length:=by omega
   have h8t:=xF r
   have e7:r7 r.ts i1=r.ts[i1]:=bW Kk
   have mx:=dF (n:=r.ts[i1].a) (m:=(nR r:Int)) (by omega)
   have Ur:0<=aR r.ts[i1].a (nR r):=mx.1
   have oC:aR r.ts[i1].a (nR r)<nR r:=mx.2
   have vO:((eV r (nR r)).map encR).getD (aR r.ts[i1].a (nR r)).toNat default=encR (xT r i1):=by
    have hl:(aR r.ts[i1].a (nR r)).toNat<(eV r (nR r)).length:=by rw[ji];omega
    rw[ah hl];unfold xT;rw[e7,bW hl]
   obtain⟨ix,hix,ex⟩:=EX CF i1
   obtain⟨-,-,x3,-,-,x6,x7,x8⟩:=uP r (show ix<8 by omega)
   rw[<-ex]at x3 x6 x7 x8
   obtain⟨-,a0,a1⟩:=Fk CF (show i1<8 by omega)
   have ea:ef r i1=(xT r i1).da+aR r.ts[i1].c 30:=by unfold ef;rw[e7]
   have eS:iv r (i1+1)=iv r i1++[⟨3*(i1:Int)+2,(xT r i1).so,1+aR r.ts[i1].g 4,il r.ts[i1].b (cL mps (xT r i1).pa),if ef r i1-aR r.ts[i1].d 12>0 then ef r i1-aR r.ts[i1].d 12 else 0,ef r i1+aR r.ts[i1].e 12,ef r i1+aR r.ts[i1].e 12+aR r.ts[i1].f 9,0⟩]:=by
    unfold iv
    rw[List.range_succ,List.map_append]
    show _++[tM r i1]=_
    unfold tM
    rw[e7,Ru]
   have eD:kO r (i1+1)=kO r i1++[ef r i1]:=by
    unfold kO
    rw[List.range_succ,List.map_append];rfl
   have gG:(iv r i1).length=i1:=by unfold iv;simp
   have rj:(kO r i1).length=i1:=by unfold kO;simp
   generalize xT r i1=xx at *
   have BE:=dF (n:=r.ts[i1].c) (m:=30) (by decide)
   have m4:=dF (n:=r.ts[i1].g) (m:=4) (by decide)
   have RL:=dF (n:=r.ts[i1].d) (m:=12) (by decide)
   have RK:=dF (n:=r.ts[i1].e) (m:=12) (by decide)
   have m9:=dF (n:=r.ts[i1].f) (m:=9) (by decide)
   have Ci:IntKind.i64.wrap (xx.da+aR r.ts[i1].c 30)=ef r i1:=by rw[wrap_i64 (by omega) (by omega)];exact ea.symm
   have vy:IntKind.i64.wrap (3*(i1:Int))=3*(i1:Int):=wrap_i64 (by omega) (by omega)
   have Uw:IntKind.i64.wrap (3*(i1:Int)+2)=3*(i1:Int)+2:=wrap_i64 (by omega) (by omega)
   have pD:IntKind.i64.wrap (1+aR r.ts[i1].g 4)=1+aR r.ts[i1].g 4:=wrap_i64 (by omega) (by omega)
   have Us:IntKind.i64.wrap (ef r i1-aR r.ts[i1].d 12)=ef r i1-aR r.ts[i1].d 12:=wrap_i64 (by omega) (by omega)
   have Ut:IntKind.i64.wrap (ef r i1+aR r.ts[i1].e 12)=ef r i1+aR r.ts[i1].e 12:=wrap_i64 (by omega) (by omega)
   have s8:IntKind.i64.wrap (ef r i1+aR r.ts[i1].e 12+aR r.ts[i1].f 9)=ef r i1+aR r.ts[i1].e 12+aR r.ts[i1].f 9:=wrap_i64 (by omega) (by omega)
   refine aE ?_
   repeat refine sq ?_
   refine aS ?_
   repeat refine sq ?_
   refine rx hΓ [1,2,4,5,6,10,11] [[1,0],[2,0],[4,0],[11,0],[77,0],[158,0],[163,0],[235,0]] (fun K' hK=>by simp only[go_sem,ah Kk,Vn,ai,ak,List.length_map];exact an) ?_
   repeat refine sq ?_
   refine dx hΓ hP [[],[0],[],[2],[],[4],[4,5],[2,3,4,5,6],u8,u9,[],eG] [1,2,4,5,6,10,11,12] [[1,0],[2,0],[4,0],[11,0],[12,0],[77,0],[158,0],[163,0],[235,0]] (by kernel_rfl) (fun K' hK=>by simp only[go_sem,Int.cast_ofNat_Int,Int.reduceToNat,Int.toNat_zero,Int.toNat_one,Nat.reduceMul,Nat.zero_mul,Nat.one_mul,List.getD_cons_succ,List.getD_cons_zero,vO,Ur,oC,ji,List.length_map];(repeat (refine⟨by first | exact ao | exact⟨by omega,by omega⟩,?_⟩));exact gL) ?_
   repeat refine sq ?_
   refine dx hΓ hP [[],[0],[],[2],[2,3],u5,u6] [1,2,4,5,6,10,11,12,13] [[1,0],[2,0],[4,0],[11,0],[12,0],[77,0],[158,0],[163,0],[235,0]] (by kernel_rfl) (fun K' hK=>by simp only[go_sem,Int.cast_ofNat_Int,Int.reduceToNat,Int.toNat_zero,Int.toNat_one,Nat.reduceMul,Nat.zero_mul,Nat.one_mul,List.getD_cons_succ,List.getD_cons_zero,Ci];(repeat (refine⟨by first | exact ao | exact⟨by decide,by decide⟩,?_⟩));exact gL) ?_
   repeat refine sq ?_
   refine dx hΓ hP [[],[0],[0,1],[],[3],[],[5],[5,6],[5,6,7],[],[9],[],[],[12],[5,6,7,11,12,13],[5,6,7,9,10,11,12,13,14],[],[],[17],[5,6,7,9,10,11,12,13,14,15,17,18],[5,6,7,9,10,11,12,13,14,15,16,17,18,19],[5,6,7,9,10,11,12,13,14,15,16,17,18,19,20],[],[],[23],[5,6,7,9,10,11,12,13,14,15,17,18,19,23,24],[5,6,7,9,10,11,12,13,14,15,17,18,19,22,23,24,25],[5,6,7,9,10,11,12,13,14,15,16,17,18,19,20,21,22,23,24,25,26],sj,[],o6] [1,2,4,5,6,10,11,13,14] [[1,0],[2,0],[4,0],[11,0],[14,0],[77,0],[158,0],[163,0],[235,0]] (by kernel_rfl) (fun K' hK=>by simp only[go_sem,Int.cast_ofNat_Int,Int.reduceToNat,Int.toNat_zero,Int.toNat_one,Nat.reduceMul,Nat.zero_mul,Nat.one_mul,List.getD_cons_succ,List.getD_cons_zero,vy,Uw,pD,Us,Ut];(repeat (refine⟨by first | exact ao | exact(ji _ _).symm | exact⟨by decide,by decide⟩ | exact⟨by omega,by omega⟩,?_⟩));exact gL) ?_
   repeat refine sq ?_
   refine dx hΓ hP [[],[0],[0,1],[],[3],[3,4],u6,u7,u8] [1,2,4,5,6,10,13,14] [[1,0],[2,0],[4,0],[14,0],[77,0],[158,0],[163,0],[235,0]] (by kernel_rfl) (fun K' hK=>by simp only[go_sem,Int.cast_ofNat_Int,Int.reduceToNat,Int.toNat_zero,Int.toNat_one,Nat.reduceMul,Nat.zero_mul,Nat.one_mul,List.getD_cons_succ,List.getD_cons_zero,s8];(repeat (refine⟨by first | exact ao | exact⟨by decide,by decide⟩,?_⟩));exact gL) ?_
   repeat refine sq ?_
   refine rx hΓ [1,2,4,5,6,10,13] [[1,0],[2,0],[4,0],[77,0],[158,0],[163,0],[235,0]] (fun K' hK=>by simp only[go_sem];exact an) ?_
   repeat refine sq ?_
   refine aY hΓ fun K' hK=>?_
   simp only[go_sem]
   repeat (refine⟨ao,?_⟩)
   refine hK _ ?_
   clear K' hK
   simp only[go_sem]
   refine kp [1,2,4,5,6,10] [[1,0],[2,0],[4,0],[77,0],[158,0],[163,0],[235,0]] ?_
   repeat refine sq ?_
   refine aY hΓ fun K' hK=>?_
   simp only[go_sem]
   repeat (refine⟨ao,?_⟩)
   refine hK _ ?_
   clear K' hK
   simp only[go_sem]
   refine⟨i1+1,aU,by(show (nT r)-(i1+1)<(nT r)-i1;omega),?_⟩
   refine bq [1,2,4,5,6,10] [[1,0],[2,0],[4,0],[77,0],[158,0],[163,0],[235,0]] ?_ ?_<;>simp only[go_sem,bj aU qW,bn,ji,eS,eD,List.map_append,List.length_append,List.map_cons,List.map_nil,List.length_cons,List.length_nil]
  ·repeat refine sq ?_
   have kI:i1=nT r:=by
    simp at hb
    have h:=hi
    unfold nT at h |-
    split at h
    ·rename_i h0;rw[if_pos h0];omega
    ·rename_i h0;rw[if_neg h0];omega
   subst kI
   have gg:nS r<=maxLen:=by have:nS r<=6:=Nat.min_le_right _ _;unfold maxLen;omega
   refine bV ?_
   simp only[go_sem]
   refine kp [1,2,4,5,6] [[1,0],[2,0],[4,0],[77,0],[158,0],[163,0],[235,0]] ?_
   repeat refine sq ?_
   refine rx hΓ [1,2,4,5,6,15] [[1,0],[2,0],[4,0],[77,0],[158,0],[163,0],[235,0]] (fun K' hK=>by simp only[go_sem];exact an) ?_
   refine bZ (dt 5 (.msl [163,0] (kO r (nT r)).length) (by simp only[go_sem]) (by simp only[go_sem]) [1,2,4,5,6,15] [[1,0],[2,0],[4,0],[77,0],[158,0],[163,0],[235,0]] ?_ rfl) ?_
   ·simp only[go_sem]
   simp only[go_sem]
   refine bZ (wN [4,0] [77,0] 1 _ _ _ _ rfl rfl rfl (by first | rfl | (simp only[List.length_map,ji];done)) [1,2,4,5,6,15] [[1,0],[2,0],[4,0],[77,0],[158,0],[163,0],[235,0]] ?_ rfl) ?_
   ·simp only[go_sem,List.set_cons_succ,List.set_cons_zero,ji]
   simp only[go_sem,List.set_cons_succ,List.set_cons_zero,ji]
   refine bZ (wN [4,0] [158,0] 2 _ _ _ _ rfl rfl rfl (by first | rfl | (simp only[List.length_map];done)) [1,2,4,5,6,15] [[1,0],[2,0],[4,0],[77,0],[158,0],[163,0],[235,0]] ?_ rfl) ?_
   ·simp only[go_sem,List.set_cons_succ,List.set_cons_zero]
   simp only[go_sem,List.set_cons_succ,List.set_cons_zero]
   repeat refine sq ?_
   refine aS ?_
   repeat refine sq ?_
   refine cv (fun s:Nat=>[(15,⟨true,.v (vInt s)⟩)]) (fun s=>[([4,0],.box [.v (.sl (mps.map dk)),.v (.sl ((eV r (nR r)).map encR)),.v (.sl ((iv r (nT r)).map dB)),.msl [235,0] (dg r s).length]),([235,0],.arr 7 ((dg r s).map encS))]) (fun s=>s<=(nS r)) (fun s=>(nS r)-s) 0 ?_ ?_ ?_ ?_
   ·exact Nat.zero_le _
   ·rfl
   ·rfl
   rintro i2 hi
   simp only[go_sem]
   repeat refine sq ?_
   refine rx hΓ [1,2,4,5,6,15,172] [[1,0],[2,0],[4,0],[77,0],[158,0],[163,0],[235,0]] (fun K' hK=>by simp only[go_sem];exact an) ?_
   repeat refine sq ?_
   refine aB (fun hb=>?_) fun hb=>?_
   ·repeat refine sq ?_
    have dz:i2<nS r:=by simp at hb;unfold nS;omega
    have Kl:i2<r.ss.length:=by have h:=dz;unfold nS at h;omega
    have Vo:(i2:Int)<r.ss.length:=by omega
    have h6:i2<6:=by have h:=dz;unfold nS at h;omega
    have e6:r5 r.ss i2=r.ss[i2]:=bW Kl
    have m3:=dF (n:=r.ss[i2].b) (m:=3) (by decide)
    have qV:0<=aR r.ss[i2].b 3:=m3.1
    have J9:(mps.length:Int)=3:=rfl
    have nq:aR r.ss[i2].b 3<(mps.length:Int):=by omega
    have vP:(mps.map dk).getD (aR r.ss[i2].b 3).toNat default=dk (cX r.ss[i2].b):=by
     have hl:(aR r.ss[i2].b 3).toNat<mps.length:=by omega
     rw[ah hl];unfold cX;rw[bW hl]
    obtain⟨-,l1,l2,p1,p2⟩:=vd (ve r.ss[i2].b)
    have d0:=wg r (nR r)
    have ml:=dF (n:=r.ss[i2].c) (m:=(cX r.ss[i2].b).lv) (by omega)
    have md:=dF (n:=r.ss[i2].d) (m:=eu r (nR r)+20) (by omega)
    have BE:=dF (n:=r.ss[i2].e) (m:=30) (by decide)
    have gG:mZ r i2=1+aR r.ss[i2].c (cX r.ss[i2].b).lv:=by unfold mZ;rw[e6]
    have yh:kh r i2=aR r.ss[i2].d (eu r (nR r)+20):=by unfold kh;rw[e6]
    have vy:IntKind.i64.wrap (3*(i2:Int))=3*(i2:Int):=wrap_i64 (by omega) (by omega)
    have Uv:IntKind.i64.wrap (3*(i2:Int)+3)=3*(i2:Int)+3:=wrap_i64 (by omega) (by omega)
    have vx:IntKind.i64.wrap (1+aR r.ss[i2].c (cX r.ss[i2].b).lv)=mZ r i2:=by rw[wrap_i64 (by omega) (by omega)];exact gG.symm
    have gv:IntKind.i64.wrap (eu r (nR r)+20)=eu r (nR r)+20:=wrap_i64 (by omega) (by omega)
    have s8:IntKind.i64.wrap (kh r i2+aR r.ss[i2].e 30)=kh r i2+aR r.ss[i2].e 30:=wrap_i64 (by omega) (by omega)
    have Cl:=AE r i2
    have aa:=Hk r (s:=i2) (by omega)
    have rj:(kO r (nT r)).length=(ba (eX r (dg r i2)) 900).ts.length:=by
     show _=(bu _ _ _).length
     rw[o8]
     show ((List.range (nT r)).map _).length=((List.range (nT r)).map _).length
     rw[List.length_map,List.length_map]
    have eS:dg r (i2+1)=dg r i2++[⟨3*(i2:Int)+3,mX r i2 (dg r i2),(cX r.ss[i2].b).id,mZ r i2,kh r i2,kh r i2+aR r.ss[i2].e 30,0⟩]:=by
     rw[dg]
     unfold sA
     rw[e6]
    have Kt:(⟨mps,eV r (nR r),iv r (nT r),dg r i2⟩:Led)=eX r (dg r i2):=rfl
    have KF:(⟨⟨mps,eV r (nR r),iv r (nT r),dg r i2⟩,900,bu (eX r (dg r i2)) 900 (iv r (nT r)).length,[]⟩:RV)=ba (eX r (dg r i2)) 900:=rfl
    refine aE ?_
    repeat refine sq ?_
    refine aS ?_
    repeat refine sq ?_
    refine rx hΓ [1,2,4,5,6,15,16] [[1,0],[2,0],[4,0],[16,0],[77,0],[158,0],[163,0],[235,0]] (fun K' hK=>by simp only[go_sem,ah Kl,Vo,ai,ak,List.length_map];exact an) ?_
    repeat refine sq ?_
    refine dx hΓ hP [[],[0],[],[2],[2,3],u5,u6,[],u8] [1,2,4,5,6,15,16,17] [[1,0],[2,0],[4,0],[16,0],[17,0],[77,0],[158,0],[163,0],[235,0]] (by kernel_rfl) (fun K' hK=>by simp only[go_sem,Int.cast_ofNat_Int,Int.reduceToNat,Int.toNat_zero,Int.toNat_one,Nat.reduceMul,Nat.zero_mul,Nat.one_mul,List.getD_cons_succ,List.getD_cons_zero,vP,qV,nq,List.length_map];(repeat (refine⟨by first | exact ao | exact⟨by decide,by decide⟩,?_⟩));exact gL) ?_
    repeat refine sq ?_
    refine dx hΓ hP [[],[0],[0,1],[],[3],[],[5],[],[7],[5,6,7,8],[5,6,7,8,9],[],[11],[],[13],[5,6,7,8,9,11,12,13,14],[],[16],[5,6,7,8,9,11,12,13,14,15,16,17],lW,[],uu] [1,2,4,5,6,15,16,18] [[1,0],[2,0],[4,0],[16,0],[18,0],[77,0],[158,0],[163,0],[235,0]] (by kernel_rfl) (fun K' hK=>by simp only[go_sem,Int.cast_ofNat_Int,Int.reduceToNat,Int.toNat_zero,Int.toNat_one,Nat.reduceMul,Nat.zero_mul,Nat.one_mul,List.getD_cons_succ,List.getD_cons_zero,vy,Uv,vx,gv,<-yh];(repeat (refine⟨by first | exact ao | exact⟨by decide,by decide⟩ | exact⟨by omega,by omega⟩,?_⟩));exact gL) ?_
    repeat refine sq ?_
    refine rx hΓ [1,2,4,5,6,15,16,18,210] [[1,0],[2,0],[4,0],[16,0],[18,0],[77,0],[158,0],[163,0],[235,0]] (fun K' hK=>by simp only[go_sem,Int.cast_ofNat_Int,Int.reduceToNat,Int.toNat_zero,Int.toNat_one,Nat.reduceMul,Nat.zero_mul,Nat.one_mul,List.getD_cons_succ,List.getD_cons_zero];(repeat (refine⟨by first | exact ao | exact⟨by decide,by decide⟩,?_⟩));exact eN) ?_
    repeat refine sq ?_
    refine aB (fun hb=>?_) fun hb=>?_
    ·repeat refine sq ?_
     have ep:mX r i2 (dg r i2)=jD (ba (eX r (dg r i2)) 900) ⟨(cX r.ss[i2].b).id,mZ r i2⟩ (kO r (nT r)) (kh r i2):=by unfold mX;rw[e6,if_pos hb]
     repeat refine sq ?_
     refine rx hΓ [1,2,4,5,6,15,16,18,19] [[1,0],[2,0],[4,0],[16,0],[18,0],[19,0],[77,0],[158,0],[163,0],[235,0]] (fun K' hK=>by simp only[go_sem,Kt];rw[Pd (ss:=dg r i2) rfl aa rfl];simp only[go_sem,Kt];exact an) ?_
     repeat refine sq ?_
     refine rx hΓ [1,2,4,5,6,15,16,18] [[1,0],[2,0],[4,0],[16,0],[18,0],[77,0],[158,0],[163,0],[235,0]] (fun K' hK=>by simp only[go_sem];(repeat (refine⟨by first | exact ao | exact⟨P6 aa 900,rj⟩,?_⟩));exact eN) ?_
     repeat refine sq ?_
     refine dx hΓ hP [[],[0],[],[2],[2,3],u5,u6,u7] [1,2,4,5,6,15,18] [[1,0],[2,0],[4,0],[18,0],[77,0],[158,0],[163,0],[235,0]] (by kernel_rfl) (fun K' hK=>by simp only[go_sem,Int.cast_ofNat_Int,Int.reduceToNat,Int.toNat_zero,Int.toNat_one,Nat.reduceMul,Nat.zero_mul,Nat.one_mul,List.getD_cons_succ,List.getD_cons_zero,s8];(repeat (refine⟨by first | exact ao | exact⟨by decide,by decide⟩,?_⟩));exact gL) ?_
     repeat refine sq ?_
     refine aY hΓ fun K' hK=>?_
     simp only[go_sem]
     repeat (refine⟨ao,?_⟩)
     refine hK _ ?_
     clear K' hK
     simp only[go_sem]
     refine kp [1,2,4,5,6,15] [[1,0],[2,0],[4,0],[77,0],[158,0],[163,0],[235,0]] ?_
     repeat refine sq ?_
     refine aY hΓ fun K' hK=>?_
     simp only[go_sem]
     repeat (refine⟨ao,?_⟩)
     refine hK _ ?_
     clear K' hK
     simp only[go_sem]
     refine⟨i2+1,dz,by(show (nS r)-(i2+1)<(nS r)-i2;omega),?_⟩
     refine bq [1,2,4,5,6,15] [[1,0],[2,0],[4,0],[77,0],[158,0],[163,0],[235,0]] ?_ ?_<;>simp only[go_sem,bj dz gg,bn,ji,eS,ep,KF,List.map_append,List.length_append,List.map_cons,List.map_nil,List.length_cons,List.length_nil]
    ·repeat refine sq ?_
     have ep:mX r i2 (dg r i2)=aR r.ss[i2].a 5:=by unfold mX;rw[e6,if_neg (by rw[hb];decide)]
     refine aE ?_
     repeat refine sq ?_
     refine dx hΓ hP [[],[0],[],[2],[2,3],u5,u6,u7] [1,2,4,5,6,15,18] [[1,0],[2,0],[4,0],[18,0],[77,0],[158,0],[163,0],[235,0]] (by kernel_rfl) (fun K' hK=>by simp only[go_sem,Int.cast_ofNat_Int,Int.reduceToNat,Int.toNat_zero,Int.toNat_one,Nat.reduceMul,Nat.zero_mul,Nat.one_mul,List.getD_cons_succ,List.getD_cons_zero,s8];(repeat (refine⟨by first | exact ao | exact⟨by decide,by decide⟩,?_⟩));exact gL) ?_
     repeat refine sq ?_
     refine aY hΓ fun K' hK=>?_
     simp only[go_sem]
     repeat (refine⟨ao,?_⟩)
     refine hK _ ?_
     clear K' hK
     simp only[go_sem]
     refine kp [1,2,4,5,6,15] [[1,0],[2,0],[4,0],[77,0],[158,0],[163,0],[235,0]] ?_
     repeat refine sq ?_
     refine aY hΓ fun K' hK=>?_
     simp only[go_sem]
     repeat (refine⟨ao,?_⟩)
     refine hK _ ?_
     clear K' hK
     simp only[go_sem]
     refine⟨i2+1,dz,by(show (nS r)-(i2+1)<(nS r)-i2;omega),?_⟩
     refine bq [1,2,4,5,6,15] [[1,0],[2,0],[4,0],[77,0],[158,0],[163,0],[235,0]] ?_ ?_<;>simp only[go_sem,bj dz gg,bn,ji,eS,ep,KF,List.map_append,List.length_append,List.map_cons,List.map_nil,List.length_cons,List.length_nil]
   ·repeat refine sq ?_
    have rh:i2=nS r:=by
     simp at hb
     have h:=hi
     unfold nS at h |-
     omega
    subst rh
    refine bV ?_
    simp only[go_sem]
    refine kp [2,4,5] [[2,0],[4,0],[77,0],[158,0],[163,0],[235,0]] ?_
    repeat refine sq ?_
    refine rx hΓ [2,3] [[2,0],[77,0],[158,0],[163,0],[235,0]] (fun K' hK=>by simp only[go_sem];exact an) ?_
    refine aA ?_
    simp only[go_sem]
    first | rfl | trace_state
end
theorem WY{α:Type}(p:α->Bool)(l:List α):l.find? p=if dp p l<0 then none else l[(dp p l).toNat]?:=by
 unfold dp
 by_cases h:l.any p=true
 ·rw[if_pos h]
  have ab:l.findIdx p<l.length:=List.findIdx_lt_length_of_exists (by obtain⟨x,hx,hp⟩:=List.any_eq_true.1 h;exact⟨x,hx,hp⟩)
  rw[if_neg (by omega),Int.toNat_natCast,List.getElem?_eq_getElem ab]
  exact List.find?_eq_some_iff_getElem.2 ⟨List.findIdx_getElem (w:=ab),_,ab,rfl,fun j hj=>by simpa using List.not_of_lt_findIdx hj⟩
 ·rw[if_neg h,if_pos (by omega)]
  rw[List.find?_eq_none]
  intro x hx hp
  exact h (List.any_eq_true.2 ⟨x,hx,hp⟩)
theorem Gn(l:Led)(k so:Int):dU (bz l k) so=if cR l so k<0 then none else some (ax l (cR l so k).toNat):=by
 unfold dU bz
 rw[List.find?_filter]
 have e:(fun a:Rec=>decide (bY a.kn a.un k=true/\(a.so==so)=true))=fun r=>r.so==so&&bY r.kn r.un k:=by
  funext a
  cases bY a.kn a.un k<;>cases (a.so==so)<;>rfl
 rw[e,WY]
 show (if cR l so k<0 then none else l.rs[(cR l so k).toNat]?)=_
 rcases xe l so k with h | ⟨j,hj,h,-⟩
 ·rw[h];rfl
 ·rw[h,if_neg (by omega),if_neg (by omega),Int.toNat_natCast,fg hj,List.getElem?_eq_getElem hj]
theorem Od(l:Led)(k:Int){s j:Nat}(h:s<l.ts.length):(bu l k (s+1)).getD j false=if j=s then gE l k (bu l k s) s else(bu l k s).getD j false:=by
 rw[<-Fg l k h]
 by_cases hj:j=s
 ·subst hj
  rw[if_pos rfl,List.getD_eq_getElem?_getD,List.getElem?_set_self (by rw[o8];exact h)]
  rfl
 ·rw[if_neg hj,List.getD_eq_getElem?_getD,List.getElem?_set_ne (by omega),<-List.getD_eq_getElem?_getD]
theorem uw{l:Led}{k:Int}{s j:Nat}(h:(bu l k s).getD j false=true):j<s:=(uy l k h).1
structure z7 (l:Led) (k:Int) (s:Nat):Prop where
 ts:∀ j:Nat,(bu l k s).getD j false=true↔(j:Int)∈(aC l k s).ts
 tn:(aC l k s).ts.Nodup
 tl:∀ j∈(aC l k s).ts,0<=j/\j<s
 bk1:∀ so f i,bp (aC l k s).bk (so,f)=some i->∃ j:Nat,i=j/\(bu l k s).getD j false=true/\(aH l j).re=so/\f∈(aH l j).lv
 bk2:∀ j:Nat,(bu l k s).getD j false=true->∀ f∈(aH l j).lv,bp (aC l k s).bk ((aH l j).re,f)=some (j:Int)
 ds:∀ j:Nat,(bu l k s).getD j false=true->aP (aC l k s).ds j=(bP (aH l j).lo ((lj (bz l k) (aH l j).re).da+1),(aH l j).hi)
theorem ze(d:Ds)(i j:Int)(v:Int×Int):aP (mI d i v) j=if i=j then v else aP d j:=by
 induction d with
 |nil=>rfl
 |cons e r ih=>
  obtain⟨k,x⟩:=e
  simp only[mI]
  by_cases h:k=i
  ·rw[if_pos h]
   subst h
   simp only[aP]
   split<;>rfl
  ·rw[if_neg h]
   simp only[aP,ih]
   by_cases h2:k=j
   ·subst h2
    rw[if_pos rfl,if_pos rfl,if_neg (fun e=>h e.symm)]
   ·rw[if_neg h2,if_neg h2]
theorem YH{l:Led}{k:Int}{s:Nat}(h:z7 l k s)(x:Ret)(f:Int):(bp (aC l k s).bk (x.re,f)).isSome=!iZ (lX l (bu l k s) x f) s:=by
 cases hb:bp (aC l k s).bk (x.re,f)with
 |none=>
  have :iZ (lX l (bu l k s) x f) s=true:=by
   unfold iZ
   rw[List.all_eq_true]
   intro j _
   unfold lX
   cases hj:((bu l k s).getD j false&&(aH l j).re==x.re&&(aH l j).lv.contains f)with
   |false=>rfl
   |true=>
    simp only[Bool.and_eq_true,beq_iff_eq,List.contains_iff_mem]at hj
    have :=h.bk2 j hj.1.1 f hj.2
    rw[hj.1.2,hb]at this
    cases this
  rw[this];rfl
 |some i=>
  obtain⟨j,rfl,h1,h2,h3⟩:=h.bk1 _ _ _ hb
  have :iZ (lX l (bu l k s) x f) s=false:=by
   unfold iZ
   rw[List.all_eq_false]
   refine⟨j,List.mem_range.2 (uw h1),?_⟩
   unfold lX
   rw[h1,h2]
   simp[h3]
  rw[this];rfl
theorem Rk{l:Led}{k:Int}{s:Nat}(h:z7 l k s):gS k (bz l k) (aC l k s).bk (aH l s)=if gE l k (bu l k s) s=true then some (ax l (cR l (aH l s).re k).toNat)else none:=by
 unfold gS gE
 rw[Gn]
 by_cases hx:cR l (aH l s).re k<0
 ·rw[if_pos hx,if_pos hx];rfl
 ·rw[if_neg hx,if_neg hx]
  have vE:(ax l (cR l (aH l s).re k).toNat).so=(aH l s).re:=by
   rcases xe l (aH l s).re k with h | ⟨j,hj,h,hr⟩
   ·rw[h]at hx;exact absurd (by decide) hx
   ·rw[h,Int.toNat_natCast,fg hj]
    unfold lu at hr
    simp only[Bool.and_eq_true,beq_iff_eq]at hr
    exact hr.1
  have jy:((aH l s).lv.any fun f=>(bp (aC l k s).bk ((ax l (cR l (aH l s).re k).toNat).so,f)).isSome||!(ax l (cR l (aH l s).re k).toNat).lv.contains f)=!(aH l s).lv.all (ni l (bu l k s) s (ax l (cR l (aH l s).re k).toNat) (aH l s)):=by
   rw[vE,List.not_all_eq_any_not]
   congr 1
   funext f
   rw[YH h]
   unfold ni
   rw[Bool.not_and,Bool.or_comm]
  show (if (bY (aH l s).kn (aH l s).un k&&!(decide (bP (aH l s).lo ((ax l (cR l (aH l s).re k).toNat).da+1)>(aH l s).hi)||(aH l s).lv.any fun f=>(bp (aC l k s).bk ((ax l (cR l (aH l s).re k).toNat).so,f)).isSome||!(ax l (cR l (aH l s).re k).toNat).lv.contains f))=true then _ else _)=_
  rw[jy]
  unfold mH
  cases bY (aH l s).kn (aH l s).un k<;>cases decide (bP (aH l s).lo ((ax l (cR l (aH l s).re k).toNat).da+1)>(aH l s).hi)<;>cases (aH l s).lv.all (ni l (bu l k s) s (ax l (cR l (aH l s).re k).toNat) (aH l s))<;>rfl
theorem Fh(l:Led)(k:Int):∀ s,s<=l.ts.length->z7 l k s
 | 0,_=>by
   have hf:∀ j,¬ (bu l k 0).getD j false=true:=fun j h=>absurd (uw h) (Nat.not_lt_zero j)
   exact⟨fun j=>⟨fun h=>(hf j h).elim,fun h=>(nomatch h)⟩,List.nodup_nil,fun j h=>(nomatch h),fun so f i h=>(nomatch h),fun j h=>(hf j h).elim,fun j h=>(hf j h).elim⟩
 |s+1,hs=>by
  have ih:=Fh l k s (by omega)
  have hn:=Rk ih
  have cY:=fun j=>Od l k (s:=s) (j:=j) (by omega)
  by_cases hb:gE l k (bu l k s) s=true
  ·rw[if_pos hb]at hn
   have e:=BL hn
   obtain⟨qM,-,-,vB⟩:=Hd hn
   obtain⟨JO,bQ⟩:=Gr qM
   have mr:lj (bz l k) (aH l s).re=ax l (cR l (aH l s).re k).toNat:=by unfold lj;rw[qM];rfl
   generalize ax l (cR l (aH l s).re k).toNat=r at *
   have gf:∀ f∈(aH l s).lv,bp (aC l k s).bk (r.so,f)=none:=fun f hf=>by
    have :=List.any_eq_false.1 vB f hf
    unfold gR at this
    simp only[Bool.or_eq_true,not_or,Option.isSome_iff_ne_none,ne_eq,Decidable.not_not]at this
    exact this.1
   rw[hb]at cY
   have oD:∀ j:Nat,(bu l k (s+1)).getD j false=true↔(j:Int)∈(aC l k (s+1)).ts:=fun j=>by
    rw[cY,e]
    show _↔(j:Int)∈(aC l k s).ts++[(s:Int)]
    rw[List.mem_append,List.mem_singleton]
    by_cases hj:j=s
    ·subst hj;simp
    ·rw[if_neg hj,ih.ts j]
     constructor
     ·exact .inl
     ·rintro(h | h)
      ·exact h
      ·exact(hj (by omega)).elim
   refine⟨oD,?_,?_,?_,?_,?_⟩
   ·rw[e]
    refine List.nodup_append.2 ⟨ih.tn,by simp,fun a ha b cP vV=>?_⟩
    have :=ih.tl a ha
    simp only[List.mem_singleton]at cP
    omega
   ·intro j hj
    rw[e]at hj
    rcases List.mem_append.1 hj with hj | hj
    ·have:=ih.tl j hj;omega
    ·simp only[List.mem_singleton]at hj;omega
   ·intro so f i h
    rw[e]at h
    simp only[Ef]at h
    split at h
    ·rename_i hc
     cases h
     refine⟨s,rfl,by rw[cY,if_pos rfl],?_,hc.2⟩
     rw[<-bQ];exact hc.1.symm
    ·obtain⟨j,rfl,h1,h2,h3⟩:=ih.bk1 so f i h
     have :=uw h1
     exact⟨j,rfl,by rw[cY,if_neg (by omega)];exact h1,h2,h3⟩
   ·intro j h1 f hf
    rw[cY]at h1
    rw[e]
    simp only[Ef]
    by_cases hj:j=s
    ·subst hj
     rw[if_pos ⟨bQ.symm,hf⟩]
    ·rw[if_neg hj]at h1
     have h4:=ih.bk2 j h1 f hf
     rw[if_neg,h4]
     rintro⟨h5,h6⟩
     have :=gf f h6
     rw[<-h5,h4]at this
     cases this
   ·intro j h1
    rw[cY]at h1
    rw[e]
    show aP (mI (aC l k s).ds s (bP (aH l s).lo (r.da+1),(aH l s).hi)) j=_
    rw[ze]
    by_cases hj:j=s
    ·subst hj
     rw[if_pos rfl,mr]
    ·rw[if_neg hj]at h1
     rw[if_neg (by omega)]
     exact ih.ds j h1
  ·rw[if_neg hb]at hn
   have e:=vi hn
   have e2:bu l k (s+1)=bu l k s:=wX l k (by simpa using hb)
   exact⟨by rw[e,e2];exact ih.ts,by rw[e];exact ih.tn,fun j hj=>by rw[e]at hj;have:=ih.tl j hj;omega,by rw[e,e2];exact ih.bk1,by rw[e,e2];exact ih.bk2,by rw[e,e2];exact ih.ds⟩
theorem jd(l:Led)(k:Int):z7 l k l.ts.length:=Fh l k _ (Nat.le_refl _)
theorem xj(l:Led)(k:Int)(i:Nat)(f:Int):dD (ba l k) i f=(bp (aj l k).bk ((ax l i).so,f)).getD (-1):=by
 have hi:=jd l k
 show _=(bp (aC l k l.ts.length).bk ((ax l i).so,f)).getD (-1)
 cases hb:bp (aC l k l.ts.length).bk ((ax l i).so,f)with
 |none=>
  refine F2 fun m _ hm=>?_
  show jh (ba l k) (ax l i).so f m=false
  rw[Bool.eq_false_iff]
  intro h
  unfold jh at h
  simp only[Bool.and_eq_true,beq_iff_eq,List.contains_iff_mem]at h
  have h1:(bu l k l.ts.length).getD m false=true:=h.1.1
  have :=hi.bk2 m h1 f h.2
  have h2:(aH l m).re=(ax l i).so:=h.1.2
  rw[h2,hb]at this
  cases this
 |some q=>
  obtain⟨j,rfl,h1,h2,h3⟩:=hi.bk1 _ _ _ hb
  refine F3 (j:=j) ?_ ?_ ?_
  ·show j<(bu l k l.ts.length).length
   rw[o8];exact uw h1
  ·show (((bu l k l.ts.length).getD j false&&(aH l j).re==(ax l i).so)&&(aH l j).lv.contains f)=true
   rw[h1,h2]
   simp[h3]
  ·intro m _ kG
   show jh (ba l k) (ax l i).so f m=false
   rw[Bool.eq_false_iff]
   intro h
   unfold jh at h
   simp only[Bool.and_eq_true,beq_iff_eq,List.contains_iff_mem]at h
   have h4:(bu l k l.ts.length).getD m false=true:=h.1.1
   have :=hi.bk2 m h4 f h.2
   have h5:(aH l m).re=(ax l i).so:=h.1.2
   rw[h5,hb]at this
   have :(j:Int)=m:=Option.some.inj this
   omega
def uX(v:Int×Int)(da:Int)(os:List Rec):Int×Int:=os.foldl (fun v o=>if o.da>da then(bP v.1 0,dG v.2 o.da)else v) v
def nx(h da:Int)(os:List Rec):Int:=os.foldl (fun h o=>if o.da>da then dG h o.da else h) h
theorem Re{v:Int×Int}{da:Int}(os:List Rec)(h:0<=v.1):uX v da os=(v.1,nx v.2 da os):=by
 induction os generalizing v with
 |nil=>rfl
 |cons o r ih=>
  show uX (if o.da>da then(bP v.1 0,dG v.2 o.da)else v) da r=(v.1,nx (if o.da>da then dG v.2 o.da else v.2) da r)
  by_cases hc:o.da>da
  ·rw[if_pos hc,if_pos hc]
   have :bP v.1 0=v.1:=by unfold bP;rw[if_neg (by omega)]
   rw[this]
   exact ih (v:=(v.1,dG v.2 o.da)) h
  ·rw[if_neg hc,if_neg hc,ih h]
theorem Rh(d:Ds)(i da:Int)(os:List Rec)(j:Int):aP (kr d i da os) j=if i=j then uX (aP d i) da os else aP d j:=by
 induction os generalizing d with
 |nil=>
  show aP d j=if i=j then aP d i else aP d j
  split
  ·rename_i h;rw[h]
  ·rfl
 |cons o r ih=>
  show aP (kr (if o.da>da then jK d i ⟨0,o.da⟩else d) i da r) j=if i=j then uX (if o.da>da then(bP (aP d i).1 0,dG (aP d i).2 o.da)else aP d i) da r else aP d j
  rw[ih]
  by_cases hc:o.da>da
  ·rw[if_pos hc,if_pos hc]
   unfold jK
   rw[ze,if_pos rfl,ze]
   by_cases cb:i=j
   ·rw[if_pos cb,if_pos cb]
   ·rw[if_neg cb,if_neg cb,if_neg cb]
  ·rw[if_neg hc,if_neg hc]
theorem yS{ts:List Int}{m:Nat}(h:m<ts.length):ts.take (m+1)=ts.take m++[ts.getD m 0]:=by
 rw[List.take_add_one,List.getD_eq_getElem?_getD,List.getElem?_eq_getElem h];rfl
theorem Hs(l:Led)(rs:List Rec)(ts:List Int)(d:Ds)(hn:ts.Nodup):∀ m,m<=ts.length->∀ j,aP (gU l rs ts d m) j=
 if j∈ts.take m then uX (aP d j) (lj rs (aH l j.toNat).re).da (dm rs (lj rs (aH l j.toNat).re).pa (aH l j.toNat).lv)else aP d j
 | 0,_,j=>by rw[if_neg (by simp)];rfl
 |m+1,hm,j=>by
  have ih:=Hs l rs ts d hn m (by omega)
  rw[gU,Rh,yS (by omega)]
  have yt:ts.getD m 0∉ts.take m:=by
   have h1:(ts.take (m+1)).Nodup:=hn.sublist (List.take_sublist _ _)
   rw[yS (by omega)]at h1
   have :=(List.nodup_append.1 h1).2.2
   exact fun h=>this _ h _ (List.mem_singleton.2 rfl) rfl
  by_cases hj:ts.getD m 0=j
  ·subst hj
   rw[if_pos rfl,ih,if_neg yt,if_pos (by simp)]
  ·rw[if_neg hj,ih]
   have e:(j∈ts.take m++[ts.getD m 0])↔j∈ts.take m:=by
    rw[List.mem_append,List.mem_singleton]
    exact⟨fun h=>h.elim id fun h=>(hj h.symm).elim,.inl⟩
   simp only[e]
theorem RF(a b:Int):dG (dG a b) b=dG a b:=by
 unfold dG
 by_cases h:b<a
 ·rw[if_pos h,if_neg (by omega)]
 ·rw[if_neg h,if_neg h]
theorem MX{α:Type}(c:Bool)(p:α->Bool)(l:List α):(l.any fun n=>c&&p n)=(c&&l.any p):=by cases c<;>simp
theorem Mr(x:RV)(r:Rec)(lv:List Int)(i:Nat)(hi:Int):∀ m,wm x r lv i hi m=if (List.range m).any (va x r lv i)=true then dG hi (ax x.l i).da else hi
 | 0=>rfl
 |m+1=>by
  rw[wm,Mr x r lv i hi m,List.range_succ,List.any_append]
  by_cases h1:(List.range m).any (va x r lv i)=true
  ·rw[h1,if_pos rfl,Bool.true_or,if_pos rfl,RF]
   split<;>rfl
  ·rw[if_neg h1]
   have fb:(List.range m).any (va x r lv i)=false:=by simpa using h1
   rw[fb]
   simp only[List.any_cons,List.any_nil,Bool.or_false,Bool.false_or]
theorem YD{α:Type}(p:α->Bool)(lv:List α)(d:α):((List.range lv.length).any fun j=>p (lv.getD j d))=lv.any p:=by
 rw[Bool.eq_iff_iff,List.any_eq_true,List.any_eq_true]
 constructor
 ·rintro⟨j,hj,hp⟩
  have er:j<lv.length:=by simpa using hj
  rw[bW er]at hp
  exact⟨_,List.getElem_mem er,hp⟩
 ·rintro⟨a,ha,hp⟩
  obtain⟨j,hj,rfl⟩:=List.getElem_of_mem ha
  exact⟨j,by simpa using hj,by rw[bW hj];exact hp⟩
def vM(k:Int)(r:Rec)(lv:List Int)(o:Rec):Bool:=decide (o.da>r.da)&&(bY o.kn o.un k&&gx r.pa lv o)
theorem Ez(a b:List Int):(a.any fun n=>b.contains n)=b.any fun n=>a.contains n:=by
 rw[Bool.eq_iff_iff,List.any_eq_true,List.any_eq_true]
 constructor<;>(rintro⟨n,h1,h2⟩;exact⟨n,List.contains_iff_mem.1 h2,List.contains_iff_mem.2 h1⟩)
theorem Rw(x:RV)(r:Rec)(lv:List Int)(i:Nat):(List.range lv.length).any (va x r lv i)=vM x.k r lv (ax x.l i):=by
 have :=YD (fun n=>decide ((ax x.l i).da>r.da)&&du x.k ⟨r.pa,n⟩ (ax x.l i)) lv 0
 refine this.trans ?_
 unfold vM gx
 rw[MX,Ez]
 congr 1
 show (lv.any fun n=>(bY (ax x.l i).kn (ax x.l i).un x.k&&(ax x.l i).pa==r.pa)&&(ax x.l i).lv.contains n)=_
 rw[MX,Bool.and_assoc]
theorem Mq(x:RV)(r:Rec)(t:Ret):∀ m,m<=x.l.rs.length->rP x r t m=(x.l.rs.take m).foldl (fun h o=>if vM x.k r t.lv o=true then dG h o.da else h) t.hi
 | 0,_=>rfl
 |m+1,hm=>by
  rw[rP,Mr,Rw,Mq x r t m (by omega),List.take_add_one,List.getElem?_eq_getElem (by omega),List.foldl_append,fg (by omega)]
  rfl
theorem Mp(l:Led)(k:Int)(r:Rec)(t:Ret):rP (ba l k) r t l.rs.length=nx t.hi r.da (dm (bz l k) r.pa t.lv):=by
 have h:=Mq (ba l k) r t l.rs.length (Nat.le_refl _)
 refine h.trans ?_
 show (l.rs.take l.rs.length).foldl _ _=_
 rw[List.take_length]
 unfold nx dm bz
 rw[List.foldl_filter,List.foldl_filter]
 congr 1
 funext h o
 show (if vM k r t.lv o=true then dG h o.da else h)=_
 unfold vM
 by_cases h1:bY o.kn o.un k=true
 ·rw[if_pos h1]
  by_cases h2:gx r.pa t.lv o=true
  ·rw[if_pos h2,h1,h2];simp
  ·rw[if_neg h2];simp[h2]
 ·rw[if_neg h1];simp[h1]
theorem Ff{l:Led}{k:Int}{row:List Bool}{i:Nat}(h:gE l k row i=true):∃ q,∃ hq:q<l.rs.length,cR l (aH l i).re k=(q:Int)/\lu (aH l i).re k l.rs[q]=true:=by
 rcases xe l (aH l i).re k with h2 | ⟨q,hq,h2,h3⟩
 ·exact absurd (by rw[h2];decide) (Fi h)
 ·exact⟨q,hq,h2,h3⟩
theorem Mk{l:Led}(aa:bF l)(k:Int){j:Nat}(h:(bu l k l.ts.length).getD j false=true):rO (ba l k) j=⟨(aP (aj l k).ds j).1,(aP (aj l k).ds j).2⟩:=by
 have hi:=jd l k
 obtain⟨fx,jo⟩:=uy l k h
 obtain⟨q,hq,hx,hr⟩:=Ff jo
 have qM:lj (bz l k) (aH l j).re=ax l q:=by
  unfold lj
  rw[Gn,hx,if_neg (by omega),Int.toNat_natCast];rfl
 have Da:0<=(ax l q).da:=by rw[fg hq];exact(xy aa (List.getElem_mem hq)).1
 have h1:aP (aj l k).ds j=(bP (aH l j).lo ((ax l q).da+1),nx (aH l j).hi (ax l q).da (dm (bz l k) (ax l q).pa (aH l j).lv)):=by
  show aP (gU l (bz l k) (aC l k l.ts.length).ts (aC l k l.ts.length).ds (aC l k l.ts.length).ts.length) j=_
  rw[Hs _ _ _ _ hi.tn _ (Nat.le_refl _),List.take_length,if_pos ((hi.ts j).1 h),hi.ds j h,Int.toNat_natCast,qM]
  exact Re _ (by show 0<=bP _ _;unfold bP;split<;>omega)
 rw[h1]
 unfold rO
 rw[if_pos (show (ba l k).ts.getD j false=true from h)]
 show (⟨mH (aH l j) (ax l (cR l (aH l j).re k).toNat),rP (ba l k) (ax l (cR l (aH l j).re k).toNat) (aH l j) l.rs.length⟩:Rg)=_
 rw[hx,Int.toNat_natCast,Mp]
 rfl
theorem G3{k:Int}{r:Rec}{f:Int}(hc:bY r.kn r.un k=true)(hf:f∈r.lv):du k ⟨r.pa,f⟩ r=true:=by
 unfold du;simp[hc,hf]
theorem LU{l:Led}{k:Int}{i j:Nat}(hi:bY (ax l i).kn (ax l i).un k=true)(hj:bY (ax l j).kn (ax l j).un k=true):j7 (ba l k) i j=tO (aj l k) (ax l i) (ax l j):=by
 unfold j7 tO
 show (ax l i).lv.any _=_
 rw[Bool.eq_iff_iff,List.any_eq_true,List.any_eq_true]
 have hb:∀ f∈(ax l i).lv,tP (ba l k) i j f=(((ax l i).pa==(ax l j).pa&&(ax l j).lv.contains f)&&((ax l i).da==(ax l j).da||match bp (aj l k).bk ((ax l i).so,f)with
  |none=>true
  |some q=>decide (bP (aH (aj l k).l q.toNat).lo ((ax l i).da+1)>(ax l j).da))):=fun f hf=>by
  unfold tP
  rw[xj]
  show ((du k ⟨(ax l i).pa,f⟩ (ax l i)&&du k ⟨(ax l i).pa,f⟩ (ax l j))&&(((ax l i).da==(ax l j).da||decide ((bp (aj l k).bk ((ax l i).so,f)).getD (-1)<0))||decide (mH (aH l ((bp (aj l k).bk ((ax l i).so,f)).getD (-1)).toNat) (ax l i)>(ax l j).da)))=_
  rw[G3 hi hf]
  have h2:du k ⟨(ax l i).pa,f⟩ (ax l j)=((ax l i).pa==(ax l j).pa&&(ax l j).lv.contains f):=by
   unfold du
   rw[hj,Bool.true_and]
   congr 1
   rw[Bool.eq_iff_iff,beq_iff_eq,beq_iff_eq]
   exact eq_comm
  rw[h2,Bool.true_and]
  congr 1
  cases aK:bp (aj l k).bk ((ax l i).so,f)with
  |none=>simp
  |some q=>
   have hq:0<=q:=by
    obtain⟨m,rfl,-⟩:=(jd l k).bk1 _ _ _ aK
    omega
   have hl:(aj l k).l=l:=(ow l k l.ts.length).1
   simp only[Option.getD_some,hl,mH]
   have :decide (q<0)=false:=by simpa using hq
   rw[this,Bool.or_false]
   rfl
 constructor
 ·rintro⟨f,hf,h⟩;exact⟨f,hf,(hb f hf).symm.trans h⟩
 ·rintro⟨f,hf,h⟩;exact⟨f,hf,(hb f hf).trans h⟩
theorem DU(l:Led)(k:Int)(a m:Nat):nF (ba l k) a m=if (ax l a).da>(ax l m).da then j7 (ba l k) m a else j7 (ba l k) a m:=rfl
theorem LW{l:Led}{k:Int}{i j:Nat}(hi:bY (ax l i).kn (ax l i).un k=true)(hj:bY (ax l j).kn (ax l j).un k=true):nF (ba l k) i j=kQ (aj l k) (ax l i) (ax l j):=by
 unfold nF kQ
 show (if (ax l i).da>(ax l j).da then j7 (ba l k) j i else j7 (ba l k) i j)=_
 rw[LU hi hj,LU hj hi]
theorem LV{l:Led}{k:Int}{i j:Nat}(h:j7 (ba l k) i j=true):bY (ax l i).kn (ax l i).un k=true/\bY (ax l j).kn (ax l j).un k=true:=by
 unfold j7 at h
 obtain⟨f,-,h⟩:=List.any_eq_true.1 h
 unfold tP du at h
 simp only[Bool.and_eq_true]at h
 exact⟨h.1.1.1.1,h.1.2.1.1⟩
theorem Xq{l:Led}{k:Int}{i j:Nat}(h:nF (ba l k) i j=true):bY (ax l i).kn (ax l i).un k=true/\bY (ax l j).kn (ax l j).un k=true:=by
 unfold nF at h
 split at h
 ·exact(LV h).symm
 ·exact LV h
theorem zn(x:RV):ie x=none↔∀ a,a<x.l.rs.length->∀ m,a<m->m<x.l.rs.length->nF x a m=false:=by
 refine⟨fun h a ha m h1 h2=>?_,Xs⟩
 unfold ie at h
 rw[List.findSome?_eq_none_iff]at h
 have :=h a (List.mem_range.2 ha)
 unfold zo at this
 rw[Option.map_eq_none_iff,List.find?_eq_none]at this
 have :=this m (List.mem_range.2 h2)
 simpa[h1]using this
theorem QI(x:Vw):fi x=none↔x.rs.Pairwise fun a b=>kQ x a b=false:=by
 rw[List.pairwise_iff_getElem]
 constructor
 ·intro h i j hi hj cb
  unfold fi at h
  rw[List.findSome?_eq_none_iff]at h
  have :=h i (List.mem_range.2 hi)
  unfold l' at this
  rw[Option.map_eq_none_iff,List.find?_eq_none]at this
  have hm:x.rs[j]∈x.rs.drop (i+1):=by
   rw[List.mem_iff_getElem]
   exact⟨j-(i+1),by rw[List.length_drop];omega,by rw[List.getElem_drop];congr 1;omega⟩
  have h2:=this _ hm
  rw[bW hi]at h2
  simpa using h2
 ·intro h
  refine GC fun i hi=>GD hi fun m hm=>?_
  rw[List.length_drop]at hm
  rw[List.getElem_drop]
  exact h i (i+1+m) hi (by omega) (by omega)
theorem GB(l:Led)(k:Int):fi (aj l k)=none↔ie (ba l k)=none:=by
 rw[QI,zn]
 have bQ:(aj l k).rs=bz l k:=(ow l k l.ts.length).2
 rw[bQ]
 unfold bz
 rw[List.pairwise_filter,List.pairwise_iff_getElem]
 constructor
 ·intro h a ha m h1 h2
  show nF (ba l k) a m=false
  rw[Bool.eq_false_iff]
  intro hd
  have jW:=hd
  obtain⟨c1,c2⟩:=Xq hd
  rw[LW c1 c2]at jW
  have KC:a<l.rs.length:=ha
  have tz:m<l.rs.length:=h2
  rw[fg KC]at c1 jW
  rw[fg tz]at c2 jW
  rw[h a m KC tz h1 c1 c2]at jW
  cases jW
 ·intro h i j hi hj cb c1 c2
  have :=h i hi j cb hj
  rw[<-fg hi]at c1 |-
  rw[<-fg hj]at c2 |-
  rw[LW c1 c2]at this
  exact this
theorem Ri{l:Led}{k:Int}(h:ie (ba l k)=none)(f:Fol){i j:Nat}(cb:i<j)(hj:j<l.rs.length)(h1:du k f (ax l i)=true)(h2:du k f (ax l j)=true):(ax l i).da≠(ax l j).da:=by
 intro he
 have :=(zn _).1 h i (by show i<l.rs.length;omega) j cb hj
 rw[DU,if_neg (show ¬ (ax l i).da>(ax l j).da by omega)]at this
 unfold j7 at this
 have hf:f.le∈(ax l i).lv:=by unfold du at h1;simp at h1;exact h1.2
 have hp:(ax l i).pa=f.pa:=by unfold du at h1;simp at h1;exact h1.1.2
 have h3:=List.any_eq_false.1 this f.le hf
 apply h3
 unfold tP
 show ((du k ⟨(ax l i).pa,f.le⟩ (ax l i)&&du k ⟨(ax l i).pa,f.le⟩ (ax l j))&&(((ax l i).da==(ax l j).da||_)||_))=true
 rw[hp]
 have e:(⟨f.pa,f.le⟩:Fol)=f:=rfl
 rw[e,h1,h2,he]
 simp
theorem at_last{l:Led}{k:Int}(h:ie (ba l k)=none)(f:Fol)(day:Int):∀ s,s<=l.rs.length->
 (fm (ba l k) f day s= -1/\((l.rs.take s).filter (du k f)).foldl (oT day) none=none)\/
   ∃ q,q<s/\fm (ba l k) f day s=(q:Int)/\du k f (ax l q)=true/\((l.rs.take s).filter (du k f)).foldl (oT day) none=some (ax l q)
 | 0,_=>.inl ⟨rfl,rfl⟩
 |s+1,hs=>by
  have ih:=at_last h f day s (by omega)
  have gG:s<l.rs.length:=by omega
  have e1:l.rs.take (s+1)=l.rs.take s++[ax l s]:=by
   rw[List.take_add_one,List.getElem?_eq_getElem gG,fg gG];rfl
  rw[e1,List.filter_append]
  have e2:fm (ba l k) f day (s+1)=if ((du k f (ax l s)&&decide ((ax l s).da<=day))&&(decide (fm (ba l k) f day s<0)||decide ((ax l s).da>(ax l (fm (ba l k) f day s).toNat).da)))=true then(s:Int)else fm (ba l k) f day s:=rfl
  rw[e2]
  cases ho:du k f (ax l s)with
  |false=>
   rw[show [ax l s].filter (du k f)=[]by simp[ho],List.append_nil]
   simp only[Bool.false_and,Bool.false_eq_true,if_false]
   rcases ih with h | ⟨q,h1,h2⟩
   ·exact .inl h
   ·exact .inr ⟨q,by omega,h2⟩
  |true=>
   rw[show [ax l s].filter (du k f)=[ax l s]by simp[ho],List.foldl_append]
   simp only[List.foldl_cons,List.foldl_nil,Bool.true_and]
   rcases ih with⟨h1,h2⟩ | ⟨q,h1,h2,h3,h4⟩
   ·rw[h1,h2]
    unfold oT
    by_cases hd:(ax l s).da<=day
    ·exact .inr ⟨s,by omega,by simp[hd],ho,by simp[hd]⟩
    ·exact .inl ⟨by simp[hd],by simp[hd]⟩
   ·rw[h2,h4,Int.toNat_natCast]
    have aG:=Ri h f h1 gG h3 ho
    unfold oT
    have JV:¬ (q:Int)<0:=by omega
    by_cases hd:(ax l s).da<=day
    ·by_cases hg:(ax l s).da>(ax l q).da
     ·refine .inr ⟨s,by omega,by simp[hd,hg],ho,?_⟩
      have :(ax l s).da>=(ax l q).da:=by omega
      simp[hd,this]
     ·refine .inr ⟨q,by omega,by simp[hg,JV],h3,?_⟩
      have :¬ (ax l s).da>=(ax l q).da:=by omega
      simp[this]
    ·exact .inr ⟨q,by omega,by simp[hd],h3,by simp[hd]⟩
theorem NK(l:Led)(k pa le:Int):dm (bz l k) pa [le]=l.rs.filter (du k ⟨pa,le⟩):=by
 unfold dm bz
 rw[List.filter_filter]
 congr 1
 funext r
 unfold gx du
 rw[Ez]
 simp only[List.any_cons,List.any_nil,Bool.or_false]
 cases bY r.kn r.un k<;>cases (r.pa==pa)<;>cases r.lv.contains le<;>rfl
theorem So{l:Led}{k:Int}(h:ie (ba l k)=none)(f:Fol)(day:Int):
 (eg (ba l k) f day= -1/\ey (bz l k) f.pa f.le day=none)\/∃ q,q<l.rs.length/\eg (ba l k) f day=(q:Int)/\du k f (ax l q)=true/\ey (bz l k) f.pa f.le day=some (ax l q):=by
 have h1:=at_last h f day l.rs.length (Nat.le_refl _)
 rw[List.take_length]at h1
 unfold ey
 rw[NK]
 exact h1
def gD(l:Led)(k:Int)(j:Nat):Prop:=(bu l k l.ts.length).getD j false=true
def Rel(l:Led)(k:Int)(d:List Rg)(D:Ds):Prop:=d.length=l.ts.length/\∀ j:Nat,gD l k j->dh d j=⟨(aP D j).1,(aP D j).2⟩/\0<=(aP D j).1/\(aP D j).2<=100000
def nU(l:Led)(k:Int)(D:Ds):Prop:=∀ j:Nat,gD l k j->(aP D j).1<=(aP D j).2
theorem wW{l:Led}{k:Int}{j:Nat}(h:gD l k j):j<l.ts.length:=uw h
theorem Lc(l:Led)(k:Int)(D:Ds):y0 (aj l k).ts D=true↔nU l k D:=by
 have hi:=jd l k
 unfold y0 nU gD
 rw[List.all_eq_true]
 show (∀ i∈(aC l k l.ts.length).ts,_)↔_
 constructor
 ·intro h j hj
  have :=h j ((hi.ts j).1 hj)
  simpa using this
 ·intro h i hm
  have hb:=hi.tl i hm
  obtain⟨j,rfl⟩:∃ j:Nat,i=j:=⟨i.toNat,by omega⟩
  simpa using h j ((hi.ts j).2 hm)
theorem Mt{l:Led}{k so f i:Int}(h:bp (aj l k).bk (so,f)=some i):∃ j:Nat,i=j/\gD l k j:=by
 obtain⟨j,e,h1,-⟩:=(jd l k).bk1 _ _ _ h
 exact⟨j,e,h1⟩
theorem FZ{d:List Rg}{i:Nat}{r:Rg}(h:i<d.length)(j:Nat):dh (d.set i r) j=if i=j then r else dh d j:=by
 unfold dh
 rw[List.getD_eq_getElem?_getD,List.getElem?_set]
 by_cases cb:i=j
 ·subst cb
  simp[h]
 ·rw[if_neg cb,if_neg cb,List.getD_eq_getElem?_getD]
theorem RQ(l:Led)(k:Int):(aj l k).rs=bz l k:=(ow l k l.ts.length).2
theorem F8{l:Led}{k:Int}{d:List Rg}{D:Ds}(h:Rel l k d D){j:Nat}(hj:gD l k j)(r w:Rg)
 (h1:w=⟨bP (aP D j).1 r.lo,dG (aP D j).2 r.hi⟩):Rel l k (d.set j w) (jK D j r)/\(nU l k (jK D j r)↔(w.lo<=w.hi/\nU l k D)):=by
 have fy:j<d.length:=by rw[h.1];exact wW hj
 have e:∀ i:Nat,aP (jK D j r) i=if j=i then(w.lo,w.hi)else aP D i:=fun i=>by
  unfold jK
  rw[ze,h1]
  by_cases cb:j=i
  ·subst cb;rw[if_pos rfl,if_pos rfl]
  ·rw[if_neg (by omega),if_neg cb]
 have jQ:(aP D j).1<=w.lo:=by rw[h1];show _<=bP _ _;unfold bP;split<;>omega
 have CJ:w.hi<=(aP D j).2:=by rw[h1];show dG _ _<=_;unfold dG;split<;>omega
 refine⟨⟨by rw[List.length_set];exact h.1,fun i hi=>?_⟩,?_⟩
 ·rw[FZ fy,e]
  by_cases cb:j=i
  ·subst cb
   rw[if_pos rfl,if_pos rfl]
   have :=h.2 j hj
   exact⟨rfl,by show 0<=w.lo;omega,by show w.hi<=_;omega⟩
  ·rw[if_neg cb,if_neg cb];exact h.2 i hi
 ·constructor
  ·intro hf
   have er:=hf j hj
   rw[e,if_pos rfl]at er
   refine⟨er,fun i hi=>?_⟩
   by_cases cb:j=i
   ·subst cb
    have :w.lo<=w.hi:=er
    omega
   ·have:=hf i hi
    rw[e,if_neg cb]at this
    exact this
  ·rintro⟨hw,hf⟩ i hi
   rw[e]
   by_cases cb:j=i
   ·rw[if_pos cb];exact hw
   ·rw[if_neg cb];exact hf i hi
theorem Q7{l:Led}(aa:bF l){k:Int}(h0:ie (ba l k)=none){d:List Rg}{D:Ds}(h:Rel l k d D)(s:Sig):
 Rel l k (gp (ba l k) d s).1 (hM (aj l k) D s)/\(((gp (ba l k) d s).2=true/\nU l k D)↔(eI (aj l k) s=true/\nU l k (hM (aj l k) D s))):=by
 have bQ:=RQ l k
 rcases So h0 ⟨s.pa,s.le⟩ s.da with⟨e1,e2⟩ | ⟨q,hq,e1,-,e2⟩
 ·have tG:ey (aj l k).rs s.pa s.le s.da=none:=by rw[bQ];exact e2
  rw[Q9 e1]
  have hw:bw (aj l k) s=if s.pe=0 then(-1,cq)else(-1,cg):=by unfold bw;rw[tG]
  have hf:hM (aj l k) D s=D:=by unfold hM;rw[hw];split<;>rfl
  have hm:eI (aj l k) s=(s.pe==0):=by
   unfold eI;rw[hw]
   by_cases hp:s.pe=0
   ·rw[if_pos hp,hp];rfl
   ·rw[if_neg hp]
    have :(s.pe==0)=false:=by simpa using hp
    rw[this];rfl
  rw[hf,hm]
  exact⟨h,Iff.rfl⟩
 ·have tG:ey (aj l k).rs s.pa s.le s.da=some (ax l q):=by rw[bQ];exact e2
  have Kz:1<=(ax l q).bo:=by
   rw[fg hq]
   have :=aa.recs _ (List.getElem_mem hq)
   unfold dP bI at this
   simp only[Bool.and_eq_true,decide_eq_true_eq]at this
   exact this.1.1.1.1.2.1
  have iJ:=xj l k q s.le
  cases aK:bp (aj l k).bk ((ax l q).so,s.le)with
  |none=>
   rw[aK]at iJ
   rw[Q8 e1 iJ]
   have hw:bw (aj l k) s=if s.pe=(ax l q).bo then(-1,cq)else(-1,cg):=by unfold bw;rw[tG];simp only[aK]
   have hf:hM (aj l k) D s=D:=by unfold hM;rw[hw];split<;>rfl
   have hm:eI (aj l k) s=(s.pe==(ax l q).bo):=by
    unfold eI;rw[hw]
    by_cases hp:s.pe=(ax l q).bo
    ·rw[if_pos hp,hp,beq_self_eq_true];rfl
    ·rw[if_neg hp]
     have :(s.pe==(ax l q).bo)=false:=by simpa using hp
     rw[this];rfl
   rw[hf,hm]
   exact⟨h,Iff.rfl⟩
  |some i=>
   obtain⟨j,rfl,hj⟩:=Mt aK
   rw[aK]at iJ
   have Cq:dD (ba l k) q s.le=(j:Int):=iJ
   have hw:bw (aj l k) s=if s.pe=0 then((j:Int),(⟨0,s.da⟩:Rg))else if s.pe=(ax l q).bo then((j:Int),(⟨s.da+1,100000⟩:Rg))else(-1,cg):=by unfold bw;rw[tG];simp only[aK]
   obtain⟨dw,ft,UP⟩:=h.2 j hj
   have bB:(j:Int)>=0:=by omega
   by_cases np:s.pe=0
   ·have vI:(s.pe==(ax l q).bo)=false:=by rw[beq_eq_false_iff_ne];omega
    rw[Rb e1 Cq vI (by rw[np];rfl)]
    have hf:hM (aj l k) D s=jK D j ⟨0,s.da⟩:=by unfold hM;rw[hw,if_pos np];exact if_pos bB
    have hm:eI (aj l k) s=true:=by unfold eI;rw[hw,if_pos np];simp
    rw[hf,hm]
    obtain⟨g1,g2⟩:=F8 h hj ⟨0,s.da⟩ ⟨(dh d j).lo,dG (dh d j).hi s.da⟩ (by rw[dw];show (⟨(aP D j).1,dG (aP D j).2 s.da⟩:Rg)=⟨bP (aP D j).1 0,dG (aP D j).2 s.da⟩;unfold bP;rw[if_neg (by omega)])
    refine⟨g1,?_⟩
    rw[g2]
    simp
   ·by_cases te:s.pe=(ax l q).bo
    ·have vI:(s.pe==(ax l q).bo)=true:=by rw[beq_iff_eq];exact te
     rw[Ra e1 Cq vI]
     have hf:hM (aj l k) D s=jK D j ⟨s.da+1,100000⟩:=by unfold hM;rw[hw,if_neg np,if_pos te];exact if_pos bB
     have hm:eI (aj l k) s=true:=by unfold eI;rw[hw,if_neg np,if_pos te];simp
     rw[hf,hm]
     obtain⟨g1,g2⟩:=F8 h hj ⟨s.da+1,100000⟩ ⟨bP (dh d j).lo (s.da+1),(dh d j).hi⟩ (by rw[dw];show (⟨bP (aP D j).1 (s.da+1),(aP D j).2⟩:Rg)=⟨bP (aP D j).1 (s.da+1),dG (aP D j).2 100000⟩;unfold dG;rw[if_neg (by omega)])
     refine⟨g1,?_⟩
     rw[g2]
     simp
    ·have vI:(s.pe==(ax l q).bo)=false:=by rw[beq_eq_false_iff_ne];exact te
     rw[Q' e1 Cq vI (by rw[beq_eq_false_iff_ne];exact np)]
     have hf:hM (aj l k) D s=D:=by unfold hM;rw[hw,if_neg np,if_neg te];rfl
     have hm:eI (aj l k) s=false:=by unfold eI;rw[hw,if_neg np,if_neg te];rfl
     rw[hf,hm]
     exact⟨h,by simp⟩
theorem FC(l:Led)(k:Int):∀ n,n<=l.ss.length->(uG (ba l k) n).map (fun i=>fH l i.toNat)=(l.ss.take n).filter fun s=>bY s.kn s.un k
 | 0,_=>rfl
 |n+1,hn=>by
  rw[uG,List.take_add_one,List.getElem?_eq_getElem (by omega),List.filter_append,<-FC l k n (by omega)]
  have e:fH (ba l k).l n=l.ss[n]'(by omega):=Fv (l:=l) (by omega)
  rw[e]
  show (if bY _ _ k=true then _ else _:List Int).map _=_
  by_cases hc:bY (l.ss[n]'(by omega)).kn (l.ss[n]'(by omega)).un k=true
  ·rw[if_pos hc,List.map_append]
   simp only[Option.toList,List.filter_cons,hc,if_true,List.filter_nil,List.map_cons,List.map_nil,Int.toNat_natCast,Fv (show n<l.ss.length by omega)]
  ·rw[if_neg hc]
   simp[hc]
theorem OC(l:Led)(k:Int):(uH l k).map (fun i=>fH l i.toNat)=fD l k:=by
 unfold uH fD
 rw[FC l k _ (Nat.le_refl _),List.take_length]
theorem LB{l:Led}(aa:bF l){k:Int}(h0:ie (ba l k)=none){D0:Ds}(hD:D0=(aj l k).ds)(hr:Rel l k (oR (ba l k) l.ts.length) D0)(hf:nU l k D0)(is:List Int):∀ m,m<=is.length->
 Rel l k (lE (ba l k) is m).1 (eO (aj l k) D0 ((is.take m).map fun i=>fH l i.toNat))/\
  ((lE (ba l k) is m).2=true↔(((is.take m).map fun i=>fH l i.toNat).all (eI (aj l k))=true/\nU l k (eO (aj l k) D0 ((is.take m).map fun i=>fH l i.toNat))))
 | 0,_=>⟨hr,⟨fun _=>⟨rfl,hf⟩,fun _=>rfl⟩⟩
 |m+1,hm=>by
  obtain⟨i1,i2⟩:=LB aa h0 hD hr hf is m (by omega)
  have e:(is.take (m+1)).map (fun i=>fH l i.toNat)=(is.take m).map (fun i=>fH l i.toNat)++[fH l (is.getD m 0).toNat]:=by
   rw[yS (by omega),List.map_append];rfl
  rw[e,List.all_append,lE]
  have e2:eO (aj l k) D0 ((is.take m).map (fun i=>fH l i.toNat)++[fH l (is.getD m 0).toNat])=hM (aj l k) (eO (aj l k) D0 ((is.take m).map fun i=>fH l i.toNat)) (fH l (is.getD m 0).toNat):=by
   unfold eO
   rw[List.foldl_append];rfl
  rw[e2]
  obtain⟨s1,s2⟩:=Q7 aa h0 i1 (fH l (is.getD m 0).toNat)
  refine⟨s1,?_⟩
  show ((lE (ba l k) is m).2&&(gp (ba l k) (lE (ba l k) is m).1 (fH l (is.getD m 0).toNat)).2)=true↔_
  rw[Bool.and_eq_true,i2,Bool.and_eq_true]
  simp only[List.all_cons,List.all_nil,Bool.and_true]
  constructor
  ·rintro⟨⟨a,b⟩,c⟩
   obtain⟨d1,d2⟩:=s2.1 ⟨c,b⟩
   exact⟨⟨a,d1⟩,d2⟩
  ·rintro⟨⟨a,b⟩,c⟩
   obtain⟨d1,d2⟩:=s2.2 ⟨b,c⟩
   exact⟨⟨a,d2⟩,d1⟩
theorem Vl(b h da:Int)(os:List Rec)(h1:b<=h)(h2:∀ o∈os,o.da>da->b<=o.da):b<=nx h da os:=by
 induction os generalizing h with
 |nil=>exact h1
 |cons o r ih=>
  show b<=nx (if o.da>da then dG h o.da else h) da r
  refine ih _ ?_ fun o' h'=>h2 o' (by simp[h'])
  split
  ·rename_i hc
   have :=h2 o (by simp) hc
   unfold dG
   split<;>omega
  ·exact h1
theorem Vk(h da:Int)(os:List Rec):nx h da os<=h:=by
 induction os generalizing h with
 |nil=>exact Int.le_refl _
 |cons o r ih=>
  show nx (if o.da>da then dG h o.da else h) da r<=h
  refine Int.le_trans (ih _) ?_
  split
  ·unfold dG;split<;>omega
  ·exact Int.le_refl _
theorem LD{l:Led}(aa:bF l){k:Int}{j:Nat}(h:gD l k j):∃ q,∃ hq:q<l.rs.length,cR l (aH l j).re k=(q:Int)/\lu (aH l j).re k (ax l q)=true/\
 aP (aj l k).ds j=(mH (aH l j) (ax l q),nx (aH l j).hi (ax l q).da (dm (bz l k) (ax l q).pa (aH l j).lv)):=by
 obtain⟨fx,jo⟩:=uy l k h
 obtain⟨q,hq,hx,hr⟩:=Ff jo
 refine⟨q,hq,hx,by rw[fg hq];exact hr,?_⟩
 have e:=Mk aa k h
 unfold rO at e
 rw[if_pos (show (ba l k).ts.getD j false=true from h)]at e
 have e':(⟨mH (aH l j) (ax l (cR l (aH l j).re k).toNat),rP (ba l k) (ax l (cR l (aH l j).re k).toNat) (aH l j) l.rs.length⟩:Rg)=⟨(aP (aj l k).ds j).1,(aP (aj l k).ds j).2⟩:=e
 rw[hx,Int.toNat_natCast,Mp]at e'
 injection e' with a b
 exact Prod.ext a.symm b.symm
theorem Yg{l:Led}(aa:bF l)(k:Int):Rel l k (oR (ba l k) l.ts.length) (aj l k).ds:=by
 refine⟨Ml _ _,fun j hj=>?_⟩
 have fy:=wW hj
 obtain⟨q,hq,-,-,hd⟩:=LD aa hj
 refine⟨?_,?_,?_⟩
 ·have:dh (oR (ba l k) l.ts.length) j=rO (ba l k) j:=by
    unfold dh oR
    rw[List.getD_eq_getElem?_getD,List.getElem?_map,List.getElem?_range fy];rfl
  rw[this]
  exact Mk aa k hj
 ·rw[hd]
  have :0<=(ax l q).da:=by rw[fg hq];exact(xy aa (List.getElem_mem hq)).1
  show 0<=bP _ _
  unfold bP;split<;>omega
 ·rw[hd]
  refine Int.le_trans (Vk _ _ _) ?_
  have e:aH l j=l.ts[j]:=bW fy
  have :=oV aa.ts fy
  unfold jj dayB bI at this
  simp only[Bool.and_eq_true,decide_eq_true_eq]at this
  rw[e]
  exact this.1.2.2
theorem Yh{l:Led}(aa:bF l){k:Int}(h0:ie (ba l k)=none):nU l k (aj l k).ds:=by
 intro j hj
 obtain⟨q,hq,hx,hr,hd⟩:=LD aa hj
 obtain⟨fx,jo⟩:=uy l k hj
 rw[hd]
 unfold gE at jo
 rw[if_neg (by rw[hx];omega),hx,Int.toNat_natCast]at jo
 simp only[Bool.and_eq_true,Bool.not_eq_true',decide_eq_false_iff_not,List.all_eq_true]at jo
 obtain⟨⟨-,ad7⟩,nu⟩:=jo
 refine Vl _ _ _ _ (by omega) fun o ho Da=>?_
 unfold dm bz at ho
 simp only[List.mem_filter]at ho
 obtain⟨⟨UW,J2⟩,mz⟩:=ho
 obtain⟨m,hm,rfl⟩:=List.getElem_of_mem UW
 rw[<-fg hm]at J2 mz Da |-
 unfold gx at mz
 rw[Ez]at mz
 simp only[Bool.and_eq_true,List.any_eq_true,beq_iff_eq]at mz
 obtain⟨th,f,Kn,VC⟩:=mz
 have yG:=nu f Kn
 unfold ni at yG
 simp only[Bool.and_eq_true,List.contains_iff_mem]at yG
 unfold lu at hr
 simp only[Bool.and_eq_true,beq_iff_eq]at hr
 have aG:m≠q:=fun e=>by subst e;omega
 have jV:j7 (ba l k) q m=false:=by
  rcases Nat.lt_or_gt_of_ne aG with ab | tk
  ·have:=(zn _).1 h0 m hm q ab hq
   rw[DU,if_pos (show (ax l m).da>(ax l q).da from Da)]at this
   exact this
  ·have:=(zn _).1 h0 q hq m tk hm
   rw[DU,if_neg (show ¬ (ax l q).da>(ax l m).da by omega)]at this
   exact this
 unfold j7 at jV
 have h3:=List.any_eq_false.1 jV f yG.1
 unfold tP at h3
 have h4:dD (ba l k) q f=(j:Int):=by
  rw[xj]
  have :=(jd l k).bk2 j hj f Kn
  rw[<-hr.1]at this
  show (bp (aC l k l.ts.length).bk ((ax l q).so,f)).getD (-1)=_
  rw[this];rfl
 rw[h4]at h3
 have e1:du (ba l k).k ⟨(ax (ba l k).l q).pa,f⟩ (ax (ba l k).l q)=true:=G3 hr.2 yG.1
 have e2:du (ba l k).k ⟨(ax (ba l k).l q).pa,f⟩ (ax (ba l k).l m)=true:=by
  show du k ⟨(ax l q).pa,f⟩ (ax l m)=true
  unfold du
  simp[J2,th,List.contains_iff_mem.1 VC]
 rw[e1,e2,Int.toNat_natCast]at h3
 simp only[Bool.true_and,Bool.or_eq_true,decide_eq_true_eq,not_or]at h3
 exact Int.not_lt.1 h3.2
theorem LC{l:Led}(aa:bF l){k:Int}(h0:ie (ba l k)=none):Rel l k (j5 l k).1 (aO (aj l k) k).ds/\(j5 l k).2=gK (aj l k) (fD l k):=by
 have h:=LB aa h0 rfl (Yg aa k) (Yh aa h0) (uH l k) _ (Nat.le_refl _)
 rw[List.take_length,OC]at h
 have hs:(aO (aj l k) k).ds=eO (aj l k) (aj l k).ds (fD l k):=by
  unfold aO;rw[pv]
 rw[hs]
 refine⟨h.1,?_⟩
 rw[Bool.eq_iff_iff]
 unfold gK
 rw[Bool.and_eq_true,Lc]
 exact h.2
theorem w9{l:Led}(aa:bF l)(k:Int):mY l k=eS l k:=by
 unfold mY eS
 rw[pv]
 cases hp:fi (aj l k)with
 |none=>
  have h0:=(GB l k).1 hp
  rw[h0,(LC aa h0).2]
  cases gK (aj l k) (fD l k)<;>rfl
 |some p=>
  have h0:ie (ba l k)≠none:=fun h=>by rw[(GB l k).2 h]at hp;cases hp
  have :(ie (ba l k)).isSome=true:=by rw[Option.isSome_iff_ne_none];exact h0
  rw[this]
  rfl
theorem AF{l:Led}(aa:bF l){k:Int}(h:eS l k=0):ie (ba l k)=none/\xa l k={ ba l k with ds:=(j5 l k).1 }/\Rel l k (j5 l k).1 (aO (aj l k) k).ds/\nU l k (aO (aj l k) k).ds:=by
 have hs:mY l k=0:=by rw[w9 aa];exact h
 have h0:ie (ba l k)=none:=by
  unfold mY at hs
  split at hs
  ·cases hs
  ·rename_i hn
   simpa using hn
 have hd:(j5 l k).2=true:=by
  unfold mY at hs
  rw[h0]at hs
  cases hb:(j5 l k).2 with
  |true=>rfl
  |false=>rw[hb]at hs;cases hs
 obtain⟨h1,h2⟩:=LC aa h0
 refine⟨h0,by unfold xa;rw[if_pos hs],h1,?_⟩
 rw[h2]at hd
 unfold gK at hd
 rw[Bool.and_eq_true,Lc]at hd
 have e:(aO (aj l k) k).ds=eO (aj l k) (aj l k).ds (fD l k):=by
  unfold aO;rw[pv]
 rw[e];exact hd.2
noncomputable section
def ZR:List (Nat×Spec):=[]
attribute [go_sem] ZR
def ZQ:List (Nat×Spec):=[(71,EC)]
attribute [go_sem] ZQ
def ZP:List (Nat×Spec):=[(73,z')]
attribute [go_sem] ZP
end
noncomputable section
def ZO:List (Nat×Spec):=[]
attribute [go_sem] ZO
end
noncomputable section
def ZN:List (Nat×Spec):=[(75,mQ),(121,S121),(122,S122)]
attribute [go_sem] ZN
end
noncomputable section
def ZM:List (Nat×Spec):=[(70,Aa),(73,z')]
attribute [go_sem] ZM
end
noncomputable section
def K53:List (Nat×Spec):=[(71,EC)]
attribute [go_sem] K53
end
noncomputable section
def K55:List (Nat×Spec):=[(15,rY)]
attribute [go_sem] K55
def aab:List (Nat×Spec):=[]
attribute [go_sem] aab
end
noncomputable section
def Z':List (Nat×Spec):=[(84,z8)]
attribute [go_sem] Z'
end
noncomputable section
def Z9:List (Nat×Spec):=[(70,Aa),(103,wE)]
attribute [go_sem] Z9
end
theorem Yu(l:Led)(ds:List Int):Es l ds=ct l ds:=by
 unfold Es ct nK
 cases h:uV l with
 |false=>rfl
 |true=>
  have h0:(true=false)=False:=by simp
  rw[if_neg (by decide),if_pos (show fS true 24=0 from rfl)]
  have :(!ds.any fun d=>!dayB d)=ds.all dayB:=by
   rw[List.not_any_eq_all_not]
   simp
  rw[this]
  unfold fS
  rfl
theorem w8{l:Led}{k:Int}:gl l k=true↔eS l k=0:=by
 cases h:gl l k with
 |true=>exact⟨fun _=>(uC h).2.2,fun _=>rfl⟩
 |false=>
  refine⟨fun h=>(by cases h),fun h2=>?_⟩
  have :=(uD h).2.2
  rw[h2]at this
  cases this
theorem Av{l:Led}(h:bF l){i j:Nat}(hi:i<l.ts.length)(hj:j<l.ts.length)(e:(aH l i).so=(aH l j).so):i=j:=by
 have hs:srt Ret.so l.ts:=uU (j'.1 h.ts)
 have e1:aH l i=l.ts[i]:=bW hi
 have e2:aH l j=l.ts[j]:=bW hj
 rw[e1,e2]at e
 rcases Nat.lt_trichotomy i j with h1 | h1 | h1
 ·have:=hs i j hi hj h1;omega
 ·exact h1
 ·have:=hs j i hj hi h1;omega
set_option maxHeartbeats 8000000
noncomputable section
def mU(l:Led)(k:Int)(ds:List Int)(i:Int):Bool:=bI (ds.getD i.toNat 0) (aP (aO (aj l k) k).ds i).1 (aP (aO (aj l k) k).ds i).2
def fC(l:Led)(k:Int)(ds:List Int):Bool:=gl l k&&(decide (ds.length=l.ts.length)&&(ds.all dayB&&(aO (aj l k) k).ts.all (mU l k ds)))
theorem GF:pG (185,[])=fun n=>!dayB n:=rfl
theorem GZ:uW (185,[]):=.inr (.inl rfl)
theorem Fp(l:Led)(k:Int):(aO (aj l k) k).l=l:=pv l k
def K60:List (Nat×Spec):=[(78,S78),(160,S160),(96,rX)]
theorem Z8:KS K60:=tc xO<|tc B4<|tc sD.sound<|tn
attribute [go_sem] K60
@[go_sem] def P118:PSpec:=p3 mi iI eh (fun l _ _=>bF l) (fun l k az=>.bool (fC l k az)) true
@[go_sem] def Nr:Spec:=P118.toSpec
theorem FT:aW Tryz.prog 118 P118:=by
 refine kX (rs:=[.tmp 6]) Tryz.func118 Tryz.ntmps118 fun l k az hp hw=>?_
 have hP:=fL
 simp only[iI,eh,mi,iW]at hw |-
 have hΓ:=Z8
 repeat refine sq ?_
 refine rx hΓ [0,1,2] [] (fun K' hK=>by simp only[go_sem];exact an) ?_
 rcases bM:gl l k with _ | _
 ·obtain⟨q1,q2,q3⟩:=uD bM
  have e:fC l k az=false:=by unfold fC;rw[bM];rfl
  repeat refine sq ?_
  refine rx hΓ [0,2,7,8] [[26,0,11,0,11,0,14,0],[23,0,11,0,11,0,14,0],[24,0,11,0,11,0,14,0]] (fun K' hK=>by simp only[go_sem,q1,q2,q3];(repeat (refine⟨by first | exact ao | exact hp,?_⟩));exact eN) ?_
  repeat refine sq ?_
  refine rx hΓ [2,7,32] [[26,0,11,0,11,0,14,0],[23,0,11,0,11,0,14,0],[24,0,11,0,11,0,14,0]] (fun K' hK=>by simp only[go_sem,q1,q2,q3,GZ,GF,List.length_map];exact an) ?_
  repeat refine sq ?_
  refine aB (fun hb=>?_) fun hb=>?_
  ·repeat refine sq ?_
   refine rx hΓ [6] [] (fun K' hK=>by simp only[go_sem,q1,q2,q3];exact an) ?_
   refine aA ?_
   simp only[go_sem]
   rw[e]
  ·cases hb
 ·obtain⟨q1,q2,q3⟩:=uC bM
  obtain⟨hv,bN⟩:=AA hp k
  repeat refine sq ?_
  refine rx hΓ [0,2,7,8] [[26,0,11,0,11,0,14,0],[23,0,11,0,11,0,14,0],[24,0,11,0,11,0,14,0]] (fun K' hK=>by simp only[go_sem,q1,q2];(repeat (refine⟨by first | exact ao | exact hp,?_⟩));exact eN) ?_
  repeat refine sq ?_
  refine rx hΓ [2,7,32] [[26,0,11,0,11,0,14,0],[23,0,11,0,11,0,14,0],[24,0,11,0,11,0,14,0]] (fun K' hK=>by simp only[go_sem,q1,q2,GZ,GF,List.length_map];exact an) ?_
  repeat refine sq ?_
  refine aB (fun hb=>?_) fun hb=>?_
  ·repeat refine sq ?_
   have e:fC l k az=false:=by
    have cP:(!decide (az.length=l.ts.length)||az.any fun n=>!dayB n)=true:=by
     rw[Bool.or_eq_true]at hb |-
     refine hb.imp (fun h=>?_) id
     simp at h |-
     omega
    unfold fC
    cases h1:decide (az.length=l.ts.length)with
    |false=>simp
    |true=>
     rw[h1]at cP
     have h2:az.all dayB=false:=by
      rw[List.all_eq_false]
      obtain⟨n,hn,hd⟩:=List.any_eq_true.1 (show (az.any fun n=>!dayB n)=true from cP)
      exact⟨n,hn,by simpa using hd⟩
     rw[h2];simp
   repeat refine sq ?_
   refine rx hΓ [6] [] (fun K' hK=>by simp only[go_sem,q1,q2];exact an) ?_
   refine aA ?_
   simp only[go_sem]
   rw[e]
  ·repeat refine sq ?_
   have yx:az.length=l.ts.length:=by
    rw[Bool.or_eq_false_iff]at hb
    have :=hb.1
    simp at this
    omega
   have VR:az.all dayB=true:=by
    rw[Bool.or_eq_false_iff]at hb
    rw[List.all_eq_true]
    intro n hn
    have :=List.any_eq_false.1 hb.2 n hn
    simpa using this
   have qF:=hv.tn
   have hl:(aO (aj l k) k).ts.length<=maxLen:=by unfold maxLen;omega
   refine aE ?_
   repeat refine sq ?_
   refine rx hΓ [2,7,36,37,38] [[26,0,11,0,11,0,14,0],[23,0,11,0,11,0,14,0],[24,0,11,0,11,0,14,0]] (fun K' hK=>by simp only[go_sem,q1,q2];exact an) ?_
   repeat refine sq ?_
   refine aS ?_
   repeat refine sq ?_
   refine cv (fun s:Nat=>[(38,⟨true,.v (vInt s)⟩)]) (fun s=>[]) (fun s=>s<=(aO (aj l k) k).ts.length/\∀ m (hm:m<(aO (aj l k) k).ts.length),m<s->mU l k az (aO (aj l k) k).ts[m]=true) (fun s=>(aO (aj l k) k).ts.length-s) 0 ?_ ?_ ?_ ?_
   ·exact⟨Nat.zero_le _,fun m _ h=>by omega⟩
   ·rfl
   ·rfl
   rintro i ⟨hi,hR⟩
   simp only[go_sem]
   repeat refine sq ?_
   refine rx hΓ [2,7,36,37,38,39] [[26,0,11,0,11,0,14,0],[23,0,11,0,11,0,14,0],[24,0,11,0,11,0,14,0]] (fun K' hK=>by simp only[go_sem,q1,q2];exact an) ?_
   repeat refine sq ?_
   refine aB (fun hb=>?_) fun hb=>?_
   ·have ab:i<(aO (aj l k) k).ts.length:=by simpa using hb
    have aq:(i:Int)<(aO (aj l k) k).ts.length:=by omega
    clear hb
    obtain⟨bB,db⟩:=hv.ts _ (List.getElem_mem ab)
    rw[Fp,<-yx]at db
    have jU:(az.map vInt).getD ((aO (aj l k) k).ts[i]).toNat default=vInt (az.getD ((aO (aj l k) k).ts[i]).toNat 0):=by
     have :((aO (aj l k) k).ts[i]).toNat<az.length:=by omega
     rw[ah this,bW this]
    repeat refine sq ?_
    refine aE ?_
    repeat refine sq ?_
    refine aS ?_
    repeat refine sq ?_
    refine rx hΓ [2,7,10,36,37,38] [[26,0,11,0,11,0,14,0],[23,0,11,0,11,0,14,0],[24,0,11,0,11,0,14,0]] (fun K' hK=>by simp only[go_sem,q1,q2,ah ab,ai,ak,aq];exact an) ?_
    repeat refine sq ?_
    refine dx hΓ hP [[],[],[0,1],[0,1,2],[],[4],[4,5],[4,5,6],[],[4,5,6,7,8],[4,5,6,7,8,9],[],[11],[11,12],[11,12,13],[],[11,12,13,14,15],[11,12,13,14,15,16],jF,lW] [2,7,36,37,38,61] [[26,0,11,0,11,0,14,0],[23,0,11,0,11,0,14,0],[24,0,11,0,11,0,14,0]] (by kernel_rfl) (fun K' hK=>by simp only[go_sem,q1,q2,ah ab,ai,ak,aq,jU,bB,db,gr,List.length_map];exact kM) ?_
    repeat refine sq ?_
    refine aB (fun hb=>?_) fun hb=>?_
    ·repeat refine sq ?_
     have e:fC l k az=false:=by
      have h1:mU l k az (aO (aj l k) k).ts[i]=false:=by unfold mU;simpa using hb
      have h2:(aO (aj l k) k).ts.all (mU l k az)=false:=List.all_eq_false.2 ⟨_,List.getElem_mem ab,by rw[h1];decide⟩
      unfold fC;rw[h2];simp
     repeat refine sq ?_
     refine rx hΓ [6] [] (fun K' hK=>by simp only[go_sem,q1,q2,ah ab,ai,ak,aq];exact an) ?_
     refine aA ?_
     simp only[go_sem]
     rw[e]
    ·repeat refine sq ?_
     refine aE ?_
     refine cf ?_
     simp only[go_sem]
     refine kp [2,7,36,37,38] [[26,0,11,0,11,0,14,0],[23,0,11,0,11,0,14,0],[24,0,11,0,11,0,14,0]] ?_
     repeat refine sq ?_
     refine aY hΓ fun K' hK=>?_
     simp only[go_sem,q1,q2,ah ab,ai,ak,aq]
     repeat (refine⟨ao,?_⟩)
     refine hK _ ?_
     clear K' hK
     simp only[go_sem]
     refine⟨i+1,⟨ab,?_⟩,by(show (aO (aj l k) k).ts.length-(i+1)<(aO (aj l k) k).ts.length-i;omega),?_⟩
     ·intro m hm CN
      rcases Nat.lt_succ_iff_lt_or_eq.1 CN with h5 | rfl
      ·exact hR m hm h5
      ·unfold mU;simpa using hb
     refine bq [2,7,36,37,38] [[26,0,11,0,11,0,14,0],[23,0,11,0,11,0,14,0],[24,0,11,0,11,0,14,0]] ?_ ?_<;>simp only[go_sem,bj ab hl,bn]
   ·have bx:i=(aO (aj l k) k).ts.length:=by
     have :¬ (i:Int)<(aO (aj l k) k).ts.length:=by simpa using hb
     omega
    clear hb
    subst bx
    repeat refine sq ?_
    refine bV ?_
    simp only[go_sem]
    refine kp [] [] ?_
    repeat refine sq ?_
    refine rx hΓ [6] [] (fun K' hK=>by simp only[go_sem,q1,q2];exact an) ?_
    refine aA ?_
    simp only[go_sem]
    have e:fC l k az=true:=by
     have h2:(aO (aj l k) k).ts.all (mU l k az)=true:=List.all_eq_true.2 fun x hx=>by obtain⟨m,hm,rfl⟩:=List.getElem_of_mem hx;exact hR m hm hm
     unfold fC;rw[bM,VR,h2,yx];simp
    rw[e]
def nH(l:Led)(k:Int)(az:List Int):Int:=if ct l [k]=0 then fS (fC l k az) 29 else ct l [k]
def K60b:List (Nat×Spec):=[(75,mQ),(118,Nr)]
theorem Z7:KS K60b:=tc uJ.sound<|tc FT.sound<|tn
attribute [go_sem] K60b
@[go_sem] def P38:PSpec:=p3 iL iI eh (fun _ _ _=>True) (fun l k az=>vInt (nH l k az)) true
@[go_sem] def Y6:Spec:=P38.toSpec
theorem Ps:aW Tryz.prog 38 P38:=by
 refine kX (rs:=[.tmp 6]) Tryz.func38 Tryz.ntmps38 fun l k az hp hw=>?_
 simp only[iI,eh,iL,fc]at hw |-
 have hΓ:=Z7
 repeat refine sq ?_
 refine rx hΓ [1,2,3] [[3,0]] (fun K' hK=>by simp only[go_sem];exact an) ?_
 refine bZ (dt 3 (.ref [3,0] 0) (by simp only[go_sem]) (by simp only[go_sem]) [1,2,3] [[3,0]] ?_ rfl) ?_
 ·simp only[go_sem]
 simp only[go_sem]
 repeat refine sq ?_
 refine rx hΓ [1,2,3,7] [[3,0]] (fun K' hK=>by simp only[go_sem];exact an) ?_
 repeat refine sq ?_
 refine rx hΓ [1,2,3,7,13] [[3,0]] (fun K' hK=>by simp only[go_sem];exact an) ?_
 repeat refine sq ?_
 refine aB (fun hb=>?_) fun hb=>?_
 ·repeat refine sq ?_
  have hc:¬ ct l [k]=0:=by simpa using hb
  unfold nH;rw[if_neg hc]
  repeat refine sq ?_
  refine rx hΓ [6] [] (fun K' hK=>by simp only[go_sem];exact an) ?_
  refine aA ?_
  simp only[go_sem]
  all_goals exact dJ
 ·repeat refine sq ?_
  have hc:ct l [k]=0:=by simpa using hb
  unfold nH;rw[if_pos hc]
  obtain⟨aa,_⟩:=nG hc
  refine aE ?_
  repeat refine sq ?_
  refine rx hΓ [18] [] (fun K' hK=>by simp only[go_sem];(repeat (refine⟨by first | exact ao | exact aa,?_⟩));exact eN) ?_
  repeat refine sq ?_
  refine aB (fun hb=>?_) fun hb=>?_
  ·repeat refine sq ?_
   have h:fC l k az=false:=by simpa using hb
   rw[h]
   repeat refine sq ?_
   refine rx hΓ [6] [] (fun K' hK=>by simp only[go_sem];exact an) ?_
   refine aA ?_
   simp only[go_sem]
   all_goals exact dJ
  ·repeat refine sq ?_
   have h:fC l k az=true:=by simpa using hb
   rw[h]
   refine aE ?_
   repeat refine sq ?_
   refine rx hΓ [6] [] (fun K' hK=>by simp only[go_sem];exact an) ?_
   refine aA ?_
   simp only[go_sem]
   all_goals exact dJ
end
noncomputable section
def fh(x:Vw)(az:List Int)(pa day f:Int):Int:=match ey x.rs pa f day with
 |none=>0
 |some r=>match bp x.bk (r.so,f)with
  |none=>r.bo
  |some i=>if az.getD i.toNat 0>day then r.bo else 0
def eH(x:Vw)(az:List Int)(pa day:Int)(n:Nat):Nat->List Int
 | 0=>List.replicate n 0
 |m+1=>(eH x az pa day n m).set m (fh x az pa day ((m+1:Nat):Int))
theorem uS(x:Vw)(az:List Int)(pa day:Int)(n m:Nat):(eH x az pa day n m).length=n:=by
 induction m with
 |zero=>simp[eH]
 |succ m ih=>rw[eH,List.length_set,ih]
theorem QG(x:Vw)(az:List Int)(pa day:Int)(n:Nat):List.replicate n (vInt 0)=(eH x az pa day n 0).map vInt:=by rw[eH,List.map_replicate]
theorem QF(x:Vw)(az:List Int)(pa day:Int)(n:Nat){m j:Nat}(h:m<=j):(eH x az pa day n m).getD j 0=0:=by
 induction m with
 |zero=>
  rw[eH,List.getD_eq_getElem?_getD,List.getElem?_replicate]
  split<;>rfl
 |succ m ih=>
  rw[eH,List.getD_eq_getElem?_getD,List.getElem?_set_ne (by omega),<-List.getD_eq_getElem?_getD]
  exact ih (by omega)
theorem QE{x:Vw}{az:List Int}{pa day:Int}{n m:Nat}(h:m<n)(h0:fh x az pa day ((m+1:Nat):Int)=0):eH x az pa day n (m+1)=eH x az pa day n m:=by
 rw[eH,h0]
 have e:=QF x az pa day n (Nat.le_refl m)
 rw[List.getD_eq_getElem?_getD,List.getElem?_eq_getElem (by rw[uS];exact h)]at e
 have e':(eH x az pa day n m)[m]'(by rw[uS];exact h)=0:=e
 conv=>lhs;rw[<-e']
 exact List.set_getElem_self _
def lk(l:Led)(az:List Int)(pa day k:Int):Int:=if ct l [day,k]=0 then(if cL l.ps pa=0 then 26 else if fC l k az=true then 0 else 29)else ct l [day,k]
def l9(l:Led)(az:List Int)(pa day k:Int):List Int:=if lk l az pa day k=0 then eH (aj l k) az pa day (cL l.ps pa).toNat (cL l.ps pa).toNat else[]
theorem N9{l:Led}{k:Int}{az:List Int}(h:fC l k az=true):az.length=l.ts.length:=by
 unfold fC at h
 simp only[Bool.and_eq_true,decide_eq_true_eq]at h
 exact h.2.1
theorem xc(row:List Int)(i:Nat)(b:Int):(row.map vInt).set i (.int .i64 b)=(row.set i b).map vInt:=List.map_set.symm
def K61:List (Nat×Spec):=[(75,mQ),(79,wC),(118,Nr),(76,S76),(119,S119)]
theorem Z6:KS K61:=tc uJ.sound<|tc AO.sound<|tc FT.sound<|tc xP<|tc B5<|tn
attribute [go_sem] K61
@[go_sem] def P39:PSpec:=p5 iL eh iI iI iI (fun _ _ _ _ _=>True) (fun l az pa day k=>.tup [.sl ((l9 l az pa day k).map vInt),vInt (lk l az pa day k)]) false
@[go_sem] def Y5:Spec:=P39.toSpec
set_option maxHeartbeats 8000000 in
theorem Pr:aW Tryz.prog 39 P39:=by
 refine w5 (rs:=[.tmp 10,.tmp 11]) Tryz.func39 Tryz.ntmps39 (by rfl) (by kernel_rfl) (by decide) (fun h=>by cases h) ⟨_,rfl,lb rfl,fun l az pa day k hp hw=>?_⟩
 have hP:=fL
 simp only[iI,eh,iL,fc]at hw |-
 have hΓ:=Z6
 repeat refine sq ?_
 refine rx hΓ [1,2,3,4,5] [[5,0]] (fun K' hK=>by simp only[go_sem];exact an) ?_
 refine bZ (dt 5 (.ref [5,0] 0) (by simp only[go_sem]) (by simp only[go_sem]) [1,2,3,4,5] [[5,0]] ?_ rfl) ?_
 ·simp only[go_sem]
 simp only[go_sem]
 repeat refine sq ?_
 refine rx hΓ [1,2,3,4,5,12] [[5,0]] (fun K' hK=>by simp only[go_sem];exact an) ?_
 repeat refine sq ?_
 refine rx hΓ [1,2,3,4,5,12,27] [[5,0]] (fun K' hK=>by simp only[go_sem];exact an) ?_
 repeat refine sq ?_
 refine aB (fun hb=>?_) fun hb=>?_
 ·repeat refine sq ?_
  have hc:¬ ct l [day,k]=0:=by simpa using hb
  have e:lk l az pa day k=ct l [day,k]:=by unfold lk;rw[if_neg hc]
  have e2:l9 l az pa day k=[]:=by unfold l9;rw[e,if_neg hc]
  repeat refine sq ?_
  refine rx hΓ [10,11] [[40,0]] (fun K' hK=>by simp only[go_sem];exact an) ?_
  refine aA ?_
  simp only[go_sem]
  first | (rw[e,e2];done) | (rw[e,e2];rfl) | exact⟨fQ.symm,by rw[e,e2]⟩ | trace_state
 ·repeat refine sq ?_
  have hc:ct l [day,k]=0:=by simpa using hb
  obtain⟨aa,_⟩:=nG hc
  have ta:=aa.srt
  refine aE ?_
  repeat refine sq ?_
  refine rx hΓ [1,2,3,4,5,13] [[5,0]] (fun K' hK=>by simp only[go_sem,ta];exact an) ?_
  repeat refine sq ?_
  refine rx hΓ [1,2,3,4,5,13,32] [[5,0]] (fun K' hK=>by simp only[go_sem];exact an) ?_
  repeat refine sq ?_
  refine aB (fun hb=>?_) fun hb=>?_
  ·repeat refine sq ?_
   have e:lk l az pa day k=26:=by unfold lk;rw[if_pos hc,if_pos (by simpa using hb)]
   have e2:l9 l az pa day k=[]:=by unfold l9;rw[e];rfl
   repeat refine sq ?_
   refine rx hΓ [10,11] [[40,0]] (fun K' hK=>by simp only[go_sem];exact an) ?_
   refine aA ?_
   simp only[go_sem]
   first | (rw[e,e2];done) | (rw[e,e2];rfl) | exact⟨fQ.symm,by rw[e,e2]⟩ | trace_state
  ·repeat refine sq ?_
   have hz:¬ cL l.ps pa=0:=by simpa using hb
   refine aE ?_
   repeat refine sq ?_
   refine rx hΓ [1,2,3,4,5,13,36] [[5,0]] (fun K' hK=>by simp only[go_sem];(repeat (refine⟨by first | exact ao | exact aa,?_⟩));exact eN) ?_
   repeat refine sq ?_
   refine aB (fun hb=>?_) fun hb=>?_
   ·repeat refine sq ?_
    have e:lk l az pa day k=29:=by unfold lk;rw[if_pos hc,if_neg hz,if_neg (by simpa using hb)]
    have e2:l9 l az pa day k=[]:=by unfold l9;rw[e];rfl
    repeat refine sq ?_
    refine rx hΓ [10,11] [[40,0]] (fun K' hK=>by simp only[go_sem];exact an) ?_
    refine aA ?_
    simp only[go_sem]
    first | (rw[e,e2];done) | (rw[e,e2];rfl) | exact⟨fQ.symm,by rw[e,e2]⟩ | trace_state
   ·repeat refine sq ?_
    have JL:fC l k az=true:=by simpa using hb
    have e:lk l az pa day k=0:=by unfold lk;rw[if_pos hc,if_neg hz,if_pos JL]
    obtain⟨hv,bN⟩:=nh aa k
    obtain⟨Ka,qW⟩:=RM aa pa
    obtain⟨nn,qP⟩:∃ nn:Nat,cL l.ps pa=nn:=⟨(cL l.ps pa).toNat,by omega⟩
    have e2:l9 l az pa day k=eH (aj l k) az pa day nn nn:=by unfold l9;rw[if_pos e,qP,ai]
    have ay:nn+1<=maxLen:=by unfold maxLen;omega
    have yx:=N9 JL
    refine aE ?_
    repeat refine sq ?_
    refine rx hΓ [1,2,3,13,14] [[26,0,38,0],[23,0,38,0],[24,0,38,0]] (fun K' hK=>by simp only[go_sem];(repeat (refine⟨by first | exact ao | exact aa,?_⟩));exact eN) ?_
    repeat refine sq ?_
    refine rx hΓ [1,2,3,13,14,15] [[40,0],[26,0,38,0],[23,0,38,0],[24,0,38,0]] (fun K' hK=>by simp only[go_sem,qP,ai,QG (aj l k) az pa day nn];exact an) ?_
    repeat refine sq ?_
    refine rx hΓ [1,2,3,13,14,15,16] [[40,0],[26,0,38,0],[23,0,38,0],[24,0,38,0]] (fun K' hK=>by simp only[go_sem];exact an) ?_
    repeat refine sq ?_
    refine aS ?_
    repeat refine sq ?_
    refine cv (fun s:Nat=>[(16,⟨true,.v (vInt s)⟩)]) (fun s=>[([40,0],.arr 1 ((eH (aj l k) az pa day nn (s-1)).map vInt))]) (fun s=>s<=(nn+1)/\1<=s) (fun s=>(nn+1)-s) 1 ?_ ?_ ?_ ?_
    ·exact⟨by omega,Nat.le_refl 1⟩
    ·rfl
    ·rfl
    rintro i ⟨hi,hR⟩
    have fQ:=uS (aj l k) az pa day nn (i-1)
    simp only[go_sem]
    repeat refine sq ?_
    refine rx hΓ [1,2,3,13,14,15,16,43] [[40,0],[26,0,38,0],[23,0,38,0],[24,0,38,0]] (fun K' hK=>by simp only[go_sem];exact an) ?_
    repeat refine sq ?_
    refine aB (fun hb=>?_) fun hb=>?_
    ·repeat refine sq ?_
     have ab:i<nn+1:=by
      have :(i:Int)<=nn:=by simpa using hb
      omega
     have pD:IntKind.i64.wrap ((i:Int)-1)=((i-1:Nat):Int):=EZ hR hi ay
     have Kj:((i-1:Nat):Int)<nn:=by omega
     have eS:fh (aj l k) az pa day i=0->eH (aj l k) az pa day nn (i+1-1)=eH (aj l k) az pa day nn (i-1):=fun h=>by
      obtain⟨m,rfl⟩:∃ m,i=m+1:=⟨i-1,by omega⟩
      exact QE (by omega) h
     have eU:eH (aj l k) az pa day nn (i+1-1)=(eH (aj l k) az pa day nn (i-1)).set (i-1) (fh (aj l k) az pa day i):=by
      obtain⟨m,rfl⟩:∃ m,i=m+1:=⟨i-1,by omega⟩
      rfl
     generalize hT:eH (aj l k) az pa day nn (i-1)=T at *
     refine aE ?_
     repeat refine sq ?_
     refine aS ?_
     repeat refine sq ?_
     rcases au:ey (aj l k).rs pa i day with _ | r
     rotate_left
     rcases aK:bp (aj l k).bk (r.so,(i:Int))with _ | j
     rotate_left
     rotate_left
     ·have hF:fh (aj l k) az pa day i=0:=by unfold fh;rw[au]
      have eT:=eS hF
      repeat refine sq ?_
      refine rx hΓ [1,2,3,13,14,15,16,17,18] [[17,0],[40,0],[26,0,38,0],[23,0,38,0],[24,0,38,0]] (fun K' hK=>by simp only[go_sem,au,bh,Option.isSome_none,aw];(repeat (refine⟨by first | exact ao | exact⟨hv,bN⟩,?_⟩));exact eN) ?_
      repeat refine sq ?_
      refine dx hΓ hP [[],[0],[0,1],[0,1,2],[],[4],[],[4,5,6],u8,u9,cZ,cZ,eG,kg] [1,2,3,13,14,15,16,17,18,19,20] [[17,0],[40,0],[26,0,38,0],[23,0,38,0],[24,0,38,0]] (by kernel_rfl) (fun K' hK=>by simp only[go_sem,au,bh,Option.isSome_none,aw];exact kM) ?_
      repeat refine sq ?_
      refine rx hΓ [1,2,3,13,14,15,16,17,79] [[17,0],[40,0],[26,0,38,0],[23,0,38,0],[24,0,38,0]] (fun K' hK=>by simp only[go_sem,au,bh,Option.isSome_none,aw,List.length_map];exact an) ?_
      repeat refine sq ?_
      refine aB (fun hb=>?_) fun hb=>?_
      ·cases hb
      ·repeat refine sq ?_
       refine aE ?_
       refine cf ?_
       simp only[go_sem]
       refine kp [1,2,3,13,14,15,16] [[40,0],[26,0,38,0],[23,0,38,0],[24,0,38,0]] ?_
       repeat refine sq ?_
       refine aY hΓ fun K' hK=>?_
       simp only[go_sem,au,bh,Option.isSome_none,aw]
       repeat (refine⟨ao,?_⟩)
       refine hK _ ?_
       clear K' hK
       simp only[go_sem]
       refine⟨i+1,⟨ab,?_⟩,by(show (nn+1)-(i+1)<(nn+1)-i;omega),?_⟩
       ·omega
       refine bq [1,2,3,13,14,15,16] [[40,0],[26,0,38,0],[23,0,38,0],[24,0,38,0]] ?_ ?_<;>simp only[go_sem,bj ab ay,bn,eT]
     ·have hF:fh (aj l k) az pa day i=r.bo:=by unfold fh;rw[au];simp only[aK]
      have eT:=eU
      rw[hF]at eT
      repeat refine sq ?_
      refine rx hΓ [1,2,3,13,14,15,16,17,18] [[17,0],[40,0],[26,0,38,0],[23,0,38,0],[24,0,38,0]] (fun K' hK=>by simp only[go_sem,au,aF,Option.isSome_some,aw,aK,Option.map_none,Option.isSome_none,Option.getD_none];(repeat (refine⟨by first | exact ao | exact⟨hv,bN⟩,?_⟩));exact eN) ?_
      repeat refine sq ?_
      refine dx hΓ hP [[],[0],[0,1],[0,1,2],[],[4],[],[4,5,6],u8,u9,cZ,cZ,eG,kg] [1,2,3,13,14,15,16,17,18,19,20] [[17,0],[40,0],[26,0,38,0],[23,0,38,0],[24,0,38,0]] (by kernel_rfl) (fun K' hK=>by simp only[go_sem,au,aF,Option.isSome_some,aw,aK,Option.map_none,Option.isSome_none,Option.getD_none];exact kM) ?_
      repeat refine sq ?_
      refine rx hΓ [1,2,3,13,14,15,16,17,79] [[17,0],[40,0],[26,0,38,0],[23,0,38,0],[24,0,38,0]] (fun K' hK=>by simp only[go_sem,au,aF,Option.isSome_some,aw,aK,Option.map_none,Option.isSome_none,Option.getD_none,List.length_map];exact an) ?_
      repeat refine sq ?_
      refine aB (fun hb=>?_) fun hb=>?_
      ·repeat refine sq ?_
       refine aY hΓ fun K' hK=>?_
       simp only[go_sem,au,aF,Option.isSome_some,aw,aK,Option.map_none,Option.isSome_none,Option.getD_none,pD,Kj,fQ,xc,ai,ak,List.length_map]
       repeat (refine⟨ao,?_⟩)
       refine hK _ ?_
       clear K' hK
       simp only[go_sem]
       refine kp [1,2,3,13,14,15,16] [[40,0],[26,0,38,0],[23,0,38,0],[24,0,38,0]] ?_
       repeat refine sq ?_
       refine aY hΓ fun K' hK=>?_
       simp only[go_sem,au,aF,Option.isSome_some,aw,aK,Option.map_none,Option.isSome_none,Option.getD_none]
       repeat (refine⟨ao,?_⟩)
       refine hK _ ?_
       clear K' hK
       simp only[go_sem]
       refine⟨i+1,⟨ab,?_⟩,by(show (nn+1)-(i+1)<(nn+1)-i;omega),?_⟩
       ·omega
       refine bq [1,2,3,13,14,15,16] [[40,0],[26,0,38,0],[23,0,38,0],[24,0,38,0]] ?_ ?_<;>simp only[go_sem,bj ab ay,bn,eT]
      ·cases hb
     ·have hF:fh (aj l k) az pa day i=if az.getD j.toNat 0>day then r.bo else 0:=by unfold fh;rw[au];simp only[aK]
      obtain⟨bB,db⟩:=hv.bk _ _ aK
      rw[pv,<-yx]at db
      have jU:(az.map vInt).getD j.toNat default=vInt (az.getD j.toNat 0):=by
       have :j.toNat<az.length:=by omega
       rw[ah this,bW this]
      repeat refine sq ?_
      refine rx hΓ [1,2,3,13,14,15,16,17,18] [[17,0],[40,0],[26,0,38,0],[23,0,38,0],[24,0,38,0]] (fun K' hK=>by simp only[go_sem,au,aF,Option.isSome_some,aw,aK,Option.map_some,Option.isSome_some,Option.getD_some,jU,bB,db];(repeat (refine⟨by first | exact ao | exact⟨hv,bN⟩,?_⟩));exact eN) ?_
      repeat refine sq ?_
      refine dx hΓ hP [[],[0],[0,1],[0,1,2],[],[4],[],[4,5,6],u8,u9,cZ,cZ,eG,kg] [1,2,3,13,14,15,16,17,18,19,20] [[17,0],[40,0],[26,0,38,0],[23,0,38,0],[24,0,38,0]] (by kernel_rfl) (fun K' hK=>by simp only[go_sem,au,aF,Option.isSome_some,aw,aK,Option.map_some,Option.isSome_some,Option.getD_some,jU,bB,db];exact kM) ?_
      repeat refine sq ?_
      refine rx hΓ [1,2,3,13,14,15,16,17,79] [[17,0],[40,0],[26,0,38,0],[23,0,38,0],[24,0,38,0]] (fun K' hK=>by simp only[go_sem,au,aF,Option.isSome_some,aw,aK,Option.map_some,Option.isSome_some,Option.getD_some,jU,bB,db,List.length_map];exact an) ?_
      repeat refine sq ?_
      refine aB (fun hb=>?_) fun hb=>?_
      ·repeat refine sq ?_
       have eT:=eU
       rw[hF,if_pos (by simpa using hb)]at eT
       repeat refine sq ?_
       refine aY hΓ fun K' hK=>?_
       simp only[go_sem,au,aF,Option.isSome_some,aw,aK,Option.map_some,Option.isSome_some,Option.getD_some,jU,bB,db,pD,Kj,fQ,xc,ai,ak,List.length_map]
       repeat (refine⟨ao,?_⟩)
       refine hK _ ?_
       clear K' hK
       simp only[go_sem]
       refine kp [1,2,3,13,14,15,16] [[40,0],[26,0,38,0],[23,0,38,0],[24,0,38,0]] ?_
       repeat refine sq ?_
       refine aY hΓ fun K' hK=>?_
       simp only[go_sem,au,aF,Option.isSome_some,aw,aK,Option.map_some,Option.isSome_some,Option.getD_some,jU,bB,db]
       repeat (refine⟨ao,?_⟩)
       refine hK _ ?_
       clear K' hK
       simp only[go_sem]
       refine⟨i+1,⟨ab,?_⟩,by(show (nn+1)-(i+1)<(nn+1)-i;omega),?_⟩
       ·omega
       refine bq [1,2,3,13,14,15,16] [[40,0],[26,0,38,0],[23,0,38,0],[24,0,38,0]] ?_ ?_<;>simp only[go_sem,bj ab ay,bn,eT]
      ·repeat refine sq ?_
       have eT:=eS (by rw[hF,if_neg (by simpa using hb)])
       refine aE ?_
       refine cf ?_
       simp only[go_sem]
       refine kp [1,2,3,13,14,15,16] [[40,0],[26,0,38,0],[23,0,38,0],[24,0,38,0]] ?_
       repeat refine sq ?_
       refine aY hΓ fun K' hK=>?_
       simp only[go_sem,au,aF,Option.isSome_some,aw,aK,Option.map_some,Option.isSome_some,Option.getD_some,jU,bB,db]
       repeat (refine⟨ao,?_⟩)
       refine hK _ ?_
       clear K' hK
       simp only[go_sem]
       refine⟨i+1,⟨ab,?_⟩,by(show (nn+1)-(i+1)<(nn+1)-i;omega),?_⟩
       ·omega
       refine bq [1,2,3,13,14,15,16] [[40,0],[26,0,38,0],[23,0,38,0],[24,0,38,0]] ?_ ?_<;>simp only[go_sem,bj ab ay,bn,eT]
    ·repeat refine sq ?_
     have bx:i=nn+1:=by
      have :¬ (i:Int)<=nn:=by simpa using hb
      omega
     subst bx
     rw[Nat.add_sub_cancel]at fQ |-
     refine bV ?_
     simp only[go_sem]
     refine kp [15] [[40,0]] ?_
     repeat refine sq ?_
     refine rx hΓ [10,11] [[40,0]] (fun K' hK=>by simp only[go_sem];exact an) ?_
     refine aA ?_
     simp only[go_sem]
     first | (rw[e,e2];done) | (rw[e,e2];rfl) | exact⟨fQ.symm,by rw[e,e2]⟩ | trace_state
end
noncomputable section
def Z2:List (Nat×Spec):=[(84,z8),(73,z'),(74,Nd)]
attribute [go_sem] Z2
end
noncomputable section
def W5(w:List Int):V:=.sl (w.map vInt)
theorem ad2(L:List (List Int)):∀ y∈L.map W5,y.cells.length=1/\y.okc=true:=fun y hy=>by
 obtain⟨x,_,rfl⟩:=List.mem_map.1 hy
 exact⟨rfl,rfl⟩
def Z0:List (Nat×Spec):=[]
attribute [go_sem] Z0
end
noncomputable section
def ZZ:List (Nat×Spec):=[(15,rY)]
attribute [go_sem] ZZ
end
noncomputable section
def qz(l:Led)(so:Int):Int:=dp (fun t=>t.so==so) l.ts
@[go_sem] def P48:PSpec:=p2 iL iI (fun l _=>l.ts.length<=60) (fun l so=>vInt (qz l so)) true
@[go_sem] def Y2:Spec:=P48.toSpec
set_option maxHeartbeats 8000000 in
theorem Po:aW Tryz.prog 48 P48:=by
 refine ez (rs:=[.tmp 4]) Tryz.func48 Tryz.ntmps48 fun l so hp hw=>?_
 simp only[iI,iL,fc]at hw |-
 have hΓ:=@fj Tryz.prog
 have hl:l.ts.length<=maxLen:=by unfold maxLen;omega
 repeat refine sq ?_
 refine rx hΓ [1,2] [[2,0]] (fun K' hK=>by simp only[go_sem];exact an) ?_
 repeat refine sq ?_
 refine rx hΓ [1,2,5] [[2,0]] (fun K' hK=>by simp only[go_sem];exact an) ?_
 repeat refine sq ?_
 refine aS ?_
 repeat refine sq ?_
 refine cv (fun s:Nat=>[(5,⟨true,.v (vInt s)⟩)]) (fun s=>[]) (fun s=>s<=l.ts.length/\∀ j (hj:j<l.ts.length),j<s->(l.ts[j].so==so)=false) (fun s=>l.ts.length-s) 0 ?_ ?_ ?_ ?_
 ·exact⟨Nat.zero_le _,fun j _ h=>by omega⟩
 ·rfl
 ·rfl
 rintro i ⟨hi,hR⟩
 simp only[go_sem]
 repeat refine sq ?_
 refine rx hΓ [1,2,5,10] [[2,0]] (fun K' hK=>by simp only[go_sem];exact an) ?_
 repeat refine sq ?_
 refine aB (fun hb=>?_) fun hb=>?_
 ·have ab:i<l.ts.length:=by simpa using hb
  have aq:(i:Int)<l.ts.length:=by omega
  clear hb
  repeat refine sq ?_
  refine aE ?_
  repeat refine sq ?_
  refine aS ?_
  repeat refine sq ?_
  refine rx hΓ [1,2,5,20] [[2,0]] (fun K' hK=>by simp only[go_sem,ah ab,ai,ak,aq];exact an) ?_
  repeat refine sq ?_
  refine aB (fun hb=>?_) fun hb=>?_
  ·repeat refine sq ?_
   have e:qz l so=i:=nj ab (by simpa using hb) (fun j hj eC=>hR j hj eC)
   repeat refine sq ?_
   refine rx hΓ [4] [] (fun K' hK=>by simp only[go_sem,ah ab,ai,ak,aq];exact an) ?_
   refine aA ?_
   simp only[go_sem]
   rw[e]
  ·repeat refine sq ?_
   refine aE ?_
   refine cf ?_
   simp only[go_sem]
   refine kp [1,2,5] [[2,0]] ?_
   repeat refine sq ?_
   refine aY hΓ fun K' hK=>?_
   simp only[go_sem,ah ab,ai,ak,aq]
   repeat (refine⟨ao,?_⟩)
   refine hK _ ?_
   clear K' hK
   simp only[go_sem]
   refine⟨i+1,⟨ab,?_⟩,by(show l.ts.length-(i+1)<l.ts.length-i;omega),?_⟩
   ·intro j hj eC
    rcases Nat.lt_succ_iff_lt_or_eq.1 eC with h5 | rfl
    ·exact hR j hj h5
    ·simpa using hb
   refine bq [1,2,5] [[2,0]] ?_ ?_<;>simp only[go_sem,bj ab hl,bn]
 ·have bx:i=l.ts.length:=by
   have :¬ (i:Int)<l.ts.length:=by simpa using hb
   omega
  clear hb
  subst bx
  repeat refine sq ?_
  refine bV ?_
  simp only[go_sem]
  refine kp [] [] ?_
  repeat refine sq ?_
  refine rx hΓ [4] [] (fun K' hK=>by simp only[go_sem];exact an) ?_
  refine aA ?_
  simp only[go_sem]
  have e:qz l so= -1:=s6 fun j hj=>hR j hj hj
  rw[e]
end
end Go.Eng
