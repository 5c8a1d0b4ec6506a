import Derived.Test.YtepaolcgegdpoaaGreatK16
import GoSem.ClaimChange
import Derived.DataReads
import Derived.ChangeReads
import Derived.ProofKit
import Derived.Carry
import Derived.Test.YtepaolcgegdpoaaGreatRows
import Derived.Test.YtepaolcgegdpoaaGreatChecked
/- LoanNarrows is proved: with a sight that is right by some true days the ledger stays sound, no Days are wider, no Where has more, and no answer that was Yes or No is another one, at all arguments that the statement covers. -/
set_option linter.all false
namespace Go.Eng
open Go Go.Proofs
theorem Vc:aZ Tryz.prog 18 ⟨fun xs=>xs=[],fun _=>.bool true,true⟩:=
 Wg (b:=.bool true) Zb (by
  intro fn h
  have e:Tryz.prog.funcs[18]?=some Tryz.f18:=Tryz.func18
  rw[e]at h
  obtain rfl:=Option.some.inj h
  exact(by kernel_rfl:(Tryz.f18.name== "runtime.NumGoroutine")=false)) (by decide) rfl
set_option maxRecDepth 10000
noncomputable section
structure N4 where
 (a b c d:Int)
 deriving Inhabited
def QM(x:N4):V:=.agg [vInt x.a,vInt x.b,vInt x.c,vInt x.d]
def QY:V->N4
 | .agg [.int _ a,.int _ b,.int _ c,.int _ d]=>⟨a,b,c,d⟩
 |_=>default
def iN4:En N4:=⟨QM,QY⟩
attribute [go_sem] QM QY iN4
@[go_sem] theorem ajc(x:N4):(⟨x.a,x.b,x.c,x.d⟩:N4)=x:=rfl
def IK:Spec:=(⟨fun xs=>xs=[],fun _=>.bool true,true⟩:PSpec).toSpec
attribute [go_sem] IK
section
attribute [local irreducible] jn fx aP nT
theorem su{l:Led}(aa:bw l){ds:List Int}(h:∀ d∈ds,0<=d/\d<=100000):cB l ds=0:=by
 rw[<-adI]
 unfold Iw
 rw[if_neg (by rw[xU.2 aa];decide),if_pos]
 rw[List.all_eq_true]
 intro d hd
 unfold dayB
 exact eU (h d hd).1 (h d hd).2
def K95:List (Nat×Spec):=[(19,SP),(20,Dl),(49,SL),(23,SN),(27,SM),(15,qW),(18,IK)]
attribute [go_sem] K95
end
end
section
attribute [local irreducible] jn fx l0 d0 cr bg cq db
theorem sO{r:Raw}{m:Nat}{s:Sig}(h:s∈lU r m):∃ j,j<m/\s=fK r j:=by
 obtain⟨j,hj,rfl⟩:=List.mem_map.1 h
 exact⟨j,List.mem_range.1 hj,rfl⟩
theorem JS(r:Raw){j:Nat}(hj:j<6):iE (fK r j)=true/\(fK r j).le<=bT (l0 r).ps (fK r j).pa:=by
 obtain⟨e,l1,l2,p1,p2⟩:=qe (rJ (r5 r.ss j).b)
 have ml:=cY (n:=(r5 r.ss j).c) (m:=(bH (r5 r.ss j).b).lv) (by omega)
 have md:=cY (n:=(r5 r.ss j).d) (m:=200) (by decide)
 have me:=cY (n:=(r5 r.ss j).e) (m:=300) (by decide)
 have bM:0<=(fK r j).pe/\(fK r j).pe<=4:=by rw[JO];exact Wt _ _ _ _
 refine⟨?_,?_⟩
 ·have hb:iE (fK r j)=(bL (3*(j:Int)+3) 1 99999&&bL (fK r j).pe 0 99&&bL (bH (r5 r.ss j).b).id 1 999&&bL (1+aP (r5 r.ss j).c (bH (r5 r.ss j).b).lv) 1 30&&dayB (aP (r5 r.ss j).d 200)&&kV (aP (r5 r.ss j).e 300) 0):=rfl
  rw[hb,Ag (by omega) (by omega),eU (by omega) (by omega),eU (by omega) (by omega),eU (by omega) (by omega),eU (by omega) (by omega)]
  unfold dayB
  rw[eU (by omega) (by omega)]
  rfl
 ·show 1+aP (r5 r.ss j).c (bH (r5 r.ss j).b).lv<=bT (l0 r).ps (bH (r5 r.ss j).b).id
  rw[Yr];omega
theorem rG(r:Raw):nS r<=6:=Nat.min_le_right _ _
theorem aaV(r:Raw):(aK r).ps=(l0 r).ps:=rfl
theorem BJ(r:Raw):(aK r).rs=cq r:=rfl
theorem BI(r:Raw):(aK r).ts=rets (db r):=rfl
theorem oH(r:Raw):(aK r).ss=lU r (nS r):=rfl
theorem O2{r:Raw}{t:Ret}(h:t∈(aK r).ts):t∈(l0 r).ts:=by
 rw[BI]at h
 obtain⟨q,hq,rfl⟩:=List.mem_map.1 h
 exact(AB r (AJ r _)).subset (List.mem_map_of_mem (f:=(·.1)) ((show q∈gz (l0 r) (d0 r) (l0 r).ts.length by
  have :=(rz r).subset ((rA r).subset hq)
  rw[<-Et]at this
  exact this)))
theorem ju(r:Raw):bw (aK r) where
 ps:=(kz r).ps
 psn:=(kz r).psn
 rs:=(kz r).rs
 rsn:=(kz r).rsn
 ts:=(kz r).ts
 tsn:=(kz r).tsn
 ss:=by
  rw[qQ,oH]
  refine⟨fun x hx=>?_,?_⟩
  ·obtain⟨j,hj,rfl⟩:=sO hx
   exact(JS r (Nat.lt_of_lt_of_le hj (rG r))).1
  ·unfold lU
   rw[List.pairwise_map]
   refine List.pairwise_lt_range.imp fun {a b} qB=>?_
   show 3*(a:Int)+3<3*(b:Int)+3
   omega
 ssn:=by rw[oH,Ar];have:=rG r;omega
 rl:=(kz r).rl
 sl:=fun j hj=>by
  have hm:=List.getElem_mem hj
  generalize (aK r).ss[j]=s at hm
  rw[oH]at hm
  obtain⟨i,hi,rfl⟩:=sO hm
  rw[aaV]
  exact(JS r (Nat.lt_of_lt_of_le hi (rG r))).2
 nd:=by
  have h0:=(kz r).nd
  unfold lT at h0 |-
  have e0:(bR r).ss.map Sig.so=[]:=rfl
  rw[e0,List.append_nil]at h0
  rw[List.nodup_append]
  refine⟨h0,?_,?_⟩
  ·rw[oH]
   unfold lU
   rw[List.map_map,List.nodup_iff_pairwise_ne,List.pairwise_map]
   refine List.pairwise_lt_range.imp fun {a b} qB=>?_
   show 3*(a:Int)+3≠3*(b:Int)+3
   omega
  ·intro a ha b hb e
   subst e
   obtain⟨s,hs,e⟩:=List.mem_map.1 hb
   rw[oH]at hs
   obtain⟨j,hj,rfl⟩:=sO hs
   have hs3:(fK r j).so=3*(j:Int)+3:=rfl
   rcases List.mem_append.1 ha with ha | ha
   ·obtain⟨y,hy,e2⟩:=List.mem_map.1 ha
    rw[BJ]at hy
    obtain⟨⟨i,ei⟩,-⟩:=Fj r y (lM hy)
    omega
   ·obtain⟨y,hy,e2⟩:=List.mem_map.1 ha
    obtain⟨i,ei⟩:=Yp r y (O2 hy)
    omega
theorem BG(r:Raw):aj (aK r) 900={ aj (bR r) 900 with l:=aK r }:=by
 rw[aaU];exact L7 _ _ _
theorem acF(x:Vw)(l':Led)(h:l'.ts=x.l.ts):gH { x with l:=l' }=gH x:=by
 funext a b
 unfold gH sr aG
 simp only[h]
theorem KZ(x:Vw)(l':Led)(h:l'.ts=x.l.ts):ew { x with l:=l' }=ew x:=by
 rw[AO,AO,acF x l' h]
theorem aaS(r:Raw):ew (aj (aK r) 900)=none:=by
 rw[BG,KZ _ _ (by rw[jW,BI,xR])]
 exact EE r
theorem aaT(r:Raw)(L:List Sig):fI (aj (aK r) 900) L=fI (aj (bR r) 900) L:=by rw[BG];rfl
theorem WJ(r:Raw){L:List Sig}(hL:∀ s∈L,∃ j,s=fK r j):fI (aj (bR r) 900) L=true:=by
 rw[Co]
 refine⟨fun s hs=>?_,fun i hi=>?_⟩
 ·obtain⟨j,rfl⟩:=hL s hs
  unfold eR
  rcases Jb r j with⟨-,h2⟩ | ⟨m,-,h1,-⟩
  ·rw[h2];simp[cH]
  ·rw[h1];simp
 ·obtain⟨h0,h1⟩:=(gx (bR r) 900).tl i hi
  obtain⟨m,rfl⟩:∃ m:Nat,i=m:=⟨i.toNat,by omega⟩
  have hm:m<(db r).length:=by rw[xR,hS]at h1;omega
  obtain⟨a,b⟩:=Li r hL hm
  omega
theorem JR(r:Raw):∀ s∈du (aK r) 900,∃ j,s=fK r j:=fun s hs=>by
 have h:=(List.mem_filter.1 hs).1
 rw[oH]at h
 obtain⟨j,-,e⟩:=sO h
 exact⟨j,e⟩
theorem O4(r:Raw):fk (aK r) 900=true:=by
 unfold fk
 rw[aaS,jW,aaT,WJ r (JR r)];rfl
theorem Gc(r:Raw){ds:List Int}(h:∀ d∈ds,0<=d/\d<=100000):cB (aK r) ds=0:=su (ju r) h
theorem O3(r:Raw):lL (aK r) 900 (gU r)=0:=by
 unfold lL
 rw[if_pos (Gc r fun d hd=>by simp only[List.mem_singleton]at hd;omega)]
 have hlen:(gU r).length=(aK r).ts.length:=by rw[BH,nC,BI,hS]
 have ht:n7 (aK r) 900 (gU r)=true:=by
  unfold n7
  rw[O4,hlen]
  simp only[decide_true,Bool.true_and,Bool.and_eq_true,List.all_eq_true]
  refine⟨fun d hd=>?_,fun i hi=>?_⟩
  ·rw[BH]at hd
   obtain⟨q,hq,rfl⟩:=List.mem_map.1 hd
   have :=KV ((rz r).subset ((rA r).subset hq))
   unfold dayB
   exact eU this.1 (by omega)
  ·have bP:i∈(aj (aK r) 900).ts:=hi
   obtain⟨h0,h1⟩:=(gx (aK r) 900).tl i bP
   obtain⟨m,rfl⟩:∃ m:Nat,i=m:=⟨i.toNat,by omega⟩
   have hm:m<(db r).length:=by rw[BI,hS]at h1;omega
   obtain⟨a,b⟩:=Li r (JR r) hm
   unfold xq
   rw[Int.toNat_natCast]
   have e:(aN (aj (aK r) 900) 900).ds=cl (aj (bR r) 900) (aj (bR r) 900).ds (du (aK r) 900):=by
    unfold aN
    rw[BG];rfl
   rw[e]
   exact eU a b
 rw[ht];rfl
end
section
attribute [local irreducible] jn fx l0 d0 cr bg cq db
end
section
attribute [local irreducible] jn fx l0 d0 cr bg cq db
theorem aaP(r:Raw):bq (aK r) 900=cq r:=by
 unfold bq
 rw[BJ,List.filter_eq_self]
 exact fun x hx=>Fl r x (lM hx)
theorem aaQ{r:Raw}{x:Rec}(hx:x∈cq r):cO (cq r) x.so=some x:=by
 cases h:cO (cq r) x.so with
 |none=>
  unfold cO at h
  rw[List.find?_eq_none]at h
  have :=h x hx
  simp at this
 |some y=>
  obtain⟨h1,h2⟩:=ry h
  rw[Bc r (lM h1) (lM hx) h2]
theorem tO(r:Raw):eS (aK r) 900=0:=rk.1 (O4 r)
end
noncomputable section
def afE:List (Nat×Spec):=[(15,qW),(16,SV)]
attribute [go_sem] afE
end
section
attribute [local irreducible] jn fx l0 d0 cr bg cq db
end
theorem LQ{x:Vw}{i:Int}(hi:0<=i){L:List Sig}{d:Ds}{z:Int}:((aL (cl x d L) i).1<=z/\z<=(aL (cl x d L) i).2)↔
 ((aL d i).1<=z/\z<=(aL d i).2)/\∀ s∈L,(bd x s).1=i->(bd x s).2.lo<=z/\z<=(bd x s).2.hi:=by
 have hl:=v7 x i hi L d
 generalize aL (cl x d L) i=e at *
 have b1:=hl.b1
 have b2:=hl.b2
 constructor
 ·rintro⟨h1,h2⟩
  refine⟨⟨by omega,by omega⟩,fun s hs hw=>?_⟩
  have :=hl.s1 s hs hw
  omega
 ·rintro⟨⟨h1,h2⟩,h3⟩
  constructor
  ·rcases hl.a1 with h | ⟨s,hs,hw,h⟩
   ·rw[h];exact h1
   ·rw[<-h];exact(h3 s hs hw).1
  ·rcases hl.a2 with h | ⟨s,hs,hw,h⟩
   ·rw[h];exact h2
   ·rw[<-h];exact(h3 s hs hw).2
theorem Hq{x:Vw}{i:Int}(hi:0<=i){L L':List Sig}(h:∀ s∈L,s∈L')(d:Ds):
 (aL (cl x d L) i).1<=(aL (cl x d L') i).1/\(aL (cl x d L') i).2<=(aL (cl x d L) i).2:=by
 have h1:=v7 x i hi L d
 have h2:=v7 x i hi L' d
 generalize aL (cl x d L) i=e at *
 generalize aL (cl x d L') i=e' at *
 constructor
 ·rcases h1.a1 with h4 | ⟨s,hs,h4,h5⟩
  ·rw[h4];exact h2.b1
  ·rw[<-h5];exact(h2.s1 s (h s hs) h4).1
 ·rcases h1.a2 with h4 | ⟨s,hs,h4,h5⟩
  ·rw[h4];exact h2.b2
  ·rw[<-h5];exact(h2.s1 s (h s hs) h4).2
structure ve (x y:Vw):Prop where
 rs:y.rs=x.rs
 bk:y.bk=x.bk
 lo:∀ q i,bb x.bk q=some i->(aL x.ds i).1<=(aL y.ds i).1
 hi:∀ q i,bb x.bk q=some i->(aL y.ds i).2<=(aL x.ds i).2
 ne:∀ q i,bb x.bk q=some i->(aL y.ds i).1<=(aL y.ds i).2
theorem Yl{x y:Vw}(h:ve x y)(r:Rec)(day:Int)(h2:dJ x r day≠2):dJ y r day=dJ x r day:=by
 unfold dJ at h2 |-
 by_cases hd:r.da>day
 ·rw[if_pos hd,if_pos hd]
 ·rw[if_neg hd]at h2
  rw[if_neg hd,if_neg hd]
  have ho:∀ f,mT x r day f=true->mT y r day f=true:=fun f=>by
   unfold mT
   rw[h.bk]
   cases hb:bb x.bk (r.so,f)with
   |none=>exact id
   |some i=>
    have :=h.lo _ _ hb
    simp only[decide_eq_true_eq];omega
  have hm:∀ f,mY y r day f=true->mY x r day f=true:=fun f=>by
   unfold mY
   rw[h.bk]
   cases hb:bb x.bk (r.so,f)with
   |none=>exact id
   |some i=>
    have :=h.hi _ _ hb
    simp only[decide_eq_true_eq];omega
  by_cases ha:r.lv.any (mT x r day)=true
  ·rw[if_pos ha]
   obtain⟨f,hf,oQ⟩:=List.any_eq_true.1 ha
   rw[if_pos (List.any_eq_true.2 ⟨f,hf,ho f oQ⟩)]
  ·rw[if_neg ha]at h2 |-
   have hn:r.lv.any (mY x r day)=false:=by
    cases hc:r.lv.any (mY x r day)with
    |false=>rfl
    |true=>rw[hc]at h2;exact(h2 rfl).elim
   have qu:r.lv.any (mY y r day)=false:=by
    rw[List.any_eq_false]at hn |-
    exact fun f hf hh=>hn f hf (hm f hh)
   rw[hn,qu]
   rw[if_neg]
   intro hc
   obtain⟨f,hf,oQ⟩:=List.any_eq_true.1 hc
   rw[List.any_eq_false]at hn
   have e1:=hn f hf
   have e2:¬ mT x r day f=true:=fun hh=>ha (List.any_eq_true.2 ⟨f,hf,hh⟩)
   unfold mT at oQ e2
   unfold mY at e1
   rw[h.bk]at oQ
   cases hb:bb x.bk (r.so,f)with
   |none=>rw[hb]at e2;exact e2 rfl
   |some i=>
    rw[hb]at oQ e1
    simp only[decide_eq_true_eq]at oQ e1
    have :=h.hi _ _ hb
    have :=h.ne _ _ hb
    omega
theorem LX{x y:Vw}(h:ve x y)(pa day f:Int):(ib y pa day f=true->ib x pa day f=true)/\(gh x pa day f=true->gh y pa day f=true):=by
 unfold gh ib fC
 rw[h.rs,h.bk]
 cases eo x.rs pa f day with
 |none=>exact⟨id,id⟩
 |some r=>
  simp only[]
  cases hb:bb x.bk (r.so,f)with
  |none=>exact⟨id,id⟩
  |some i=>
   simp only[]
   have h1:=h.lo _ _ hb
   have h2:=h.hi _ _ hb
   have h3:=h.ne _ _ hb
   by_cases a1:(aL x.ds i).1<=day
   ·by_cases a2:(aL x.ds i).2>day
    ·rw[if_pos a1,if_pos a2]
     refine⟨fun _=>rfl,fun hh=>?_⟩
     simp at hh
    ·rw[if_pos a1,if_neg a2,if_pos (show (aL y.ds i).1<=day by omega),if_neg (show ¬ (aL y.ds i).2>day by omega)]
     exact⟨id,id⟩
   ·rw[if_neg a1,if_neg (show ¬ (aL y.ds i).1<=day by omega),if_pos (show (aL y.ds i).2>day by omega),if_pos (show (aL x.ds i).2>day by omega)]
    exact⟨id,id⟩
theorem CD{p q:Int->Bool}(h:∀ f,p f=true->q f=true):∀ n,fy p n<=fy q n
 | 0=>Int.le_refl _
 |n+1=>by
  have :=CD h n
  have h1:=h ((n+1:Nat):Int)
  simp only[fy]
  by_cases a:p ((n+1:Nat):Int)=true
  ·rw[if_pos a,if_pos (h1 a)];omega
  ·rw[if_neg a];split<;>omega
theorem Tk{x y:Vw}(h:ve x y)(pa day:Int)(n:Nat)
 (h2:pN (fy (gh x pa day) n) (fy (ib x pa day) n) n≠2):
 pN (fy (gh y pa day) n) (fy (ib y pa day) n) n=pN (fy (gh x pa day) n) (fy (ib x pa day) n) n:=by
 have s1:=CD (fun f=>(LX h pa day f).2) n
 have s2:=CD (fun f=>(LX h pa day f).1) n
 have s3:=CD (p:=gh y pa day) (q:=ib y pa day) (fun f hf=>by unfold gh at hf;simp at hf;exact hf.1) n
 have l1:=CE (gh y pa day) n
 unfold pN at h2 |-
 by_cases a:fy (gh x pa day) n=n
 ·rw[if_pos a,if_pos (by omega)]
 ·rw[if_neg a]at h2 |-
  by_cases b:fy (ib x pa day) n<n
  ·rw[if_pos b,if_neg (by omega),if_pos (by omega)]
  ·rw[if_neg b]at h2;exact(h2 rfl).elim
theorem KB{l:Led}(aa:bw l){k:Int}{r:Rec}(h:r∈(aj l k).rs):1<=r.bo:=by
 rw[qf]at h
 have hm:=(List.mem_filter.1 h).1
 obtain⟨j,hj,rfl⟩:=List.getElem_of_mem hm
 have :=lN aa.rs hj
 unfold dP bL at this
 simp at this
 omega
theorem Jc{l:Led}{k:Int}{az:List Int}(hd:cB l [k]=0)(h:lL l k az=0){s:Sig}(bM:s.pe=gi (aj l k) az s.pa s.da s.le):
 ((bd (aj l k) s).1= -1/\(bd (aj l k) s).2=cH)\/
 ∃ m:Nat,(m:Int)∈(aj l k).ts/\(bd (aj l k) s).1=m/\(bd (aj l k) s).2.lo<=az.getD m 0/\az.getD m 0<=(bd (aj l k) s).2.hi:=by
 obtain⟨aa,_⟩:=pH hd
 obtain⟨ht,hlen,_⟩:=Ac hd h
 have BA:∀ m:Nat,m<l.ts.length->0<=az.getD m 0/\az.getD m 0<=100000:=fun m hm=>by
  unfold n7 at ht
  simp only[Bool.and_eq_true,decide_eq_true_eq,List.all_eq_true]at ht
  have Pc:m<az.length:=by omega
  have e:az.getD m 0=az[m]:=cj Pc
  have :=ht.2.2.1 az[m] (List.getElem_mem Pc)
  rw[e]
  unfold dayB bL at this
  simpa using this
 unfold bd
 unfold gi at bM
 cases ay:eo (aj l k).rs s.pa s.le s.da with
 |none=>
  rw[ay]at bM
  left
  simp only[bM]
  exact⟨rfl,rfl⟩
 |some x=>
  rw[ay]at bM
  simp only at bM |-
  have zb:=KB aa (zI ay)
  cases aM:bb (aj l k).bk (x.so,s.le)with
  |none=>
   rw[aM]at bM
   simp only at bM |-
   left
   rw[if_pos bM]
   exact⟨rfl,rfl⟩
  |some i=>
   rw[aM]at bM
   simp only at bM |-
   obtain⟨m,rfl,hm⟩:=xa aM
   right
   refine⟨m,hm,?_⟩
   have oI:m<l.ts.length:=by have:=((gx l k).tl _ hm).2;omega
   have :=BA m oI
   rw[Int.toNat_natCast]at bM
   by_cases hc:az.getD m 0>s.da
   ·rw[if_pos hc]at bM
    rw[if_neg (by omega),if_pos bM]
    exact⟨rfl,by show s.da+1<=_;omega,by show _<=(100000:Int);omega⟩
   ·rw[if_neg hc]at bM
    rw[if_pos bM]
    exact⟨rfl,by show (0:Int)<=_;omega,by show _<=s.da;omega⟩
def cJ(l:Led)(s:Sig):Led:={ l with ss:=l.ss++[s] }
theorem qd(l:Led)(s:Sig)(k:Int):aj (cJ l s) k={ aj l k with l:=cJ l s }:=L7 l _ k
theorem E2(l:Led){s:Sig}{k:Int}(hc:bF s.kn s.un k=true):du (cJ l s) k=du l k++[s]:=by
 unfold du cJ
 rw[List.filter_append]
 congr 1
 simp[hc]
theorem x9(l:Led){s:Sig}{k:Int}(hc:bF s.kn s.un k=true):(aN (aj (cJ l s) k) k).ds=cl (aj l k) (aj l k).ds (du l k++[s]):=by
 show cl (aj (cJ l s) k) (aj (cJ l s) k).ds (du (aj (cJ l s) k).l k)=_
 rw[jW,E2 l hc,qd];rfl
theorem E3{l:Led}{k:Int}{az:List Int}(hd:cB l [k]=0)(h:lL l k az=0){s:Sig}(bM:s.pe=gi (aj l k) az s.pa s.da s.le)(hc:bF s.kn s.un k=true){i:Nat}(hi:(i:Int)∈(aj l k).ts):
 (aL (aN (aj (cJ l s) k) k).ds i).1<=az.getD i 0/\az.getD i 0<=(aL (aN (aj (cJ l s) k) k).ds i).2:=by
 rw[x9 l hc]
 have h1:=(Ac hd h).2.2 i hi
 have e:(aN (aj l k) k).ds=cl (aj l k) (aj l k).ds (du l k):=by
  show cl (aj l k) (aj l k).ds (du (aj l k).l k)=_
  rw[jW]
 rw[e,LQ (Int.natCast_nonneg i)]at h1
 rw[LQ (Int.natCast_nonneg i)]
 refine⟨h1.1,fun t ht hw=>?_⟩
 rcases List.mem_append.1 ht with ht | ht
 ·exact h1.2 t ht hw
 ·rw[List.mem_singleton]at ht
  subst ht
  rcases Jc hd h bM with⟨h2,-⟩ | ⟨m,-,h2,h3,h4⟩
  ·rw[h2]at hw;omega
  ·have:m=i:=by rw[h2]at hw;omega
   subst this;exact⟨h3,h4⟩
theorem Xy{l:Led}{k:Int}{az:List Int}(hd:cB l [k]=0)(h:lL l k az=0){s:Sig}(bM:s.pe=gi (aj l k) az s.pa s.da s.le)(hc:bF s.kn s.un k=true):fk (cJ l s) k=true:=by
 have hs:fk l k=true:=by
  have :=(Ac hd h).1
  unfold n7 at this
  simp only[Bool.and_eq_true]at this
  exact this.1
 unfold fk at hs |-
 rw[Bool.and_eq_true]at hs |-
 have e1:ew (aj (cJ l s) k)=ew (aj l k):=by
  rw[qd]
  exact KZ (aj l k) (cJ l s) (by rw[jW];rfl)
 refine⟨by rw[e1];exact hs.1,?_⟩
 have hf:=(Co _ _).1 hs.2
 rw[jW]at hf
 have em:∀ t,eR (aj (cJ l s) k) t=eR (aj l k) t:=fun t=>by rw[qd];rfl
 rw[jW,E2 l hc,Co]
 refine⟨fun t ht=>?_,fun i hi=>?_⟩
 ·rw[em]
  rcases List.mem_append.1 ht with ht | ht
  ·exact hf.1 t ht
  ·rw[List.mem_singleton]at ht
   subst ht
   unfold eR
   rcases Jc hd h bM with⟨-,h2⟩ | ⟨m,-,h2,-,-⟩
   ·rw[h2];simp[cH]
   ·rw[h2];simp
 ·have j9:i∈(aj l k).ts:=by rw[qd]at hi;exact hi
  have h0:=TQ l k i j9
  obtain⟨m,rfl⟩:∃ m:Nat,i=m:=⟨i.toNat,by omega⟩
  have :=E3 hd h bM hc j9
  have e:(aN (aj (cJ l s) k) k).ds=cl (aj (cJ l s) k) (aj (cJ l s) k).ds (du l k++[s]):=by
   show cl (aj (cJ l s) k) (aj (cJ l s) k).ds (du (aj (cJ l s) k).l k)=_
   rw[jW,E2 l hc]
  rw[<-e]
  omega
theorem XA{l:Led}{k:Int}{az:List Int}(hd:cB l [k]=0)(h:lL l k az=0){s:Sig}(bM:s.pe=gi (aj l k) az s.pa s.da s.le)(hc:bF s.kn s.un k=true):ve (aN (aj l k) k) (aN (aj (cJ l s) k) k):=by
 have e:(aN (aj l k) k).ds=cl (aj l k) (aj l k).ds (du l k):=by
  show cl (aj l k) (aj l k).ds (du (aj l k).l k)=_
  rw[jW]
 have key:∀ q i,bb (aN (aj l k) k).bk q=some i->∃ m:Nat,i=m/\(m:Int)∈(aj l k).ts:=fun q i hb=>xa hb
 refine⟨by rw[qd];rfl,by rw[qd];rfl,fun q i hb=>?_,fun q i hb=>?_,fun q i hb=>?_⟩
 ·obtain⟨m,rfl,hm⟩:=key q i hb
  rw[x9 l hc,e]
  exact(Hq (Int.natCast_nonneg m) (fun t ht=>List.mem_append.2 (.inl ht)) _).1
 ·obtain⟨m,rfl,hm⟩:=key q i hb
  rw[x9 l hc,e]
  exact(Hq (Int.natCast_nonneg m) (fun t ht=>List.mem_append.2 (.inl ht)) _).2
 ·obtain⟨m,rfl,hm⟩:=key q i hb
  have :=E3 hd h bM hc hm
  omega
theorem Xz{l:Led}{k:Int}{az:List Int}(hd:cB l [k]=0)(h:lL l k az=0){s:Sig}(bM:s.pe=gi (aj l k) az s.pa s.da s.le)(hc:bF s.kn s.un k=true):
 fC (aN (aj (cJ l s) k) k) s.pa s.le s.da=[s.pe]:=by
 obtain⟨aa,_⟩:=pH hd
 have hm:=fun (i:Nat) (hi:(i:Int)∈(aj l k).ts)=>E3 hd h bM hc hi
 have hw:=fun (i:Int) (hi:0<=i)=>(v7 (aj l k) i hi (du l k++[s]) (aj l k).ds).s1 s (by simp)
 rw[<-x9 l hc]at hw
 unfold fC
 have e1:(aN (aj (cJ l s) k) k).rs=(aj l k).rs:=by rw[qd];rfl
 have e2:(aN (aj (cJ l s) k) k).bk=(aj l k).bk:=by rw[qd];rfl
 rw[e1,e2]
 generalize (aN (aj (cJ l s) k) k).ds=D at *
 unfold bd at hw
 unfold gi at bM
 cases ay:eo (aj l k).rs s.pa s.le s.da with
 |none=>rw[ay]at bM;simp only[bM]
 |some x=>
  rw[ay]at bM hw
  simp only at bM hw |-
  have zb:=KB aa (zI ay)
  cases aM:bb (aj l k).bk (x.so,s.le)with
  |none=>rw[aM]at bM;simp only[bM]
  |some i=>
   rw[aM]at bM hw
   simp only at bM hw |-
   obtain⟨m,rfl,yK⟩:=xa aM
   have h1:=hm m yK
   have h2:=hw m (Int.natCast_nonneg m)
   rw[Int.toNat_natCast]at bM
   by_cases PM:az.getD m 0>s.da
   ·rw[if_pos PM]at bM
    rw[if_neg (by omega),if_pos bM]at h2
    have h3:=(h2 rfl).1
    simp only at h3
    rw[if_neg (by omega),if_pos (by omega),bM];rfl
   ·rw[if_neg PM]at bM
    rw[if_pos bM]at h2
    have h3:=(h2 rfl).2
    simp only at h3
    rw[if_pos (by omega),if_neg (by omega),bM];rfl
theorem O6(r:Raw):cB (aK r) [900]=0:=Gc r fun d hd=>by simp only[List.mem_singleton]at hd;omega
theorem aaR(r:Raw){pa f day w:Int}(hw:w∈fC (aN (aj (aK r) 900) 900) pa f day):∃ az,lL (aK r) 900 az=0/\w=gi (aj (aK r) 900) az pa day f:=by
 have hd:=O6 r
 have hs:=tO r
 obtain⟨l1,l2⟩:=Ja (ju r) hs pa f day
 by_cases h2:1<(fC (aN (aj (aK r) 900) 900) pa f day).length
 ·obtain⟨j,hj,hh⟩:=Tr hd hs h2
  rcases hh w hw with h | h
  ·exact⟨_,(at_tel hd hs hj false).2.2.1,h⟩
  ·exact⟨_,(at_tel hd hs hj true).2.2.1,h⟩
 ·refine⟨gU r,O3 r,?_⟩
  have dL:=Wu hd (O3 r) pa f day
  match hq:fC (aN (aj (aK r) 900) 900) pa f day,l1,h2,hw,dL with
  |[a],_,_,hw,dL=>
   rw[List.mem_singleton]at hw dL
   rw[hw,dL]
  |[],l1,_,_,_=>simp at l1
  |_::_::_,_,h2,_,_=>simp at h2
def dv(pe pa le da:Int):Sig:=⟨500,pe,pa,le,da,5,0⟩
theorem aaO(r:Raw){y:Rec}(hy:y∈(l0 r).rs):y.so≠500:=fun e=>by
 obtain⟨i,hi,rfl⟩:=List.getElem_of_mem hy
 obtain⟨e2,h⟩:=yf r hi
 have h8:=pq (r0 r)
 rw[e2]at e
 have e3:3*(i:Int)+1=500:=e
 omega
theorem aaN(r:Raw){y:Ret}(hy:y∈(l0 r).ts):y.so≠500:=fun e=>by
 obtain⟨i,hi,rfl⟩:=List.mem_map.1 (show y∈(List.range (nT (r0 r))).map (tM (r0 r))from hy)
 have h8:=ta (r0 r)
 have :=List.mem_range.1 hi
 have e3:3*(i:Int)+2=500:=e
 omega
section
attribute [local irreducible] jn fx l0 d0 cr bg cq db
theorem O5(r:Raw):¬ (500:Int)∈lT (aK r):=fun ha=>by
 unfold lT at ha
 rcases List.mem_append.1 ha with ha | ha
 ·rcases List.mem_append.1 ha with ha | ha
  ·obtain⟨y,hy,e⟩:=List.mem_map.1 ha
   rw[BJ]at hy
   exact aaO r (lM hy) e
  ·obtain⟨y,hy,e⟩:=List.mem_map.1 ha
   exact aaN r (O2 hy) e
 ·obtain⟨y,hy,e⟩:=List.mem_map.1 ha
  rw[oH]at hy
  obtain⟨j,hj,rfl⟩:=sO hy
  have :=rG r
  have e2:3*(j:Int)+3=500:=e
  omega
theorem W8(r:Raw){pe pa le da:Int}(hs:iE (dv pe pa le da)=true)(hle:le<=bT (aK r).ps pa):bw (cJ (aK r) (dv pe pa le da)) where
 ps:=(ju r).ps
 psn:=(ju r).psn
 rs:=(ju r).rs
 rsn:=(ju r).rsn
 ts:=(ju r).ts
 tsn:=(ju r).tsn
 ss:=by
  have h:=(ju r).ss
  rw[qQ]at h |-
  show (∀ x∈(aK r).ss++[dv pe pa le da],_)/\((aK r).ss++[dv pe pa le da]).Pairwise _
  refine⟨fun x hx=>?_,?_⟩
  ·rcases List.mem_append.1 hx with hx | hx
   ·exact h.1 x hx
   ·rw[List.mem_singleton]at hx;subst hx;exact hs
  ·rw[List.pairwise_append]
   refine⟨h.2,by simp,fun a ha b hb=>?_⟩
   rw[List.mem_singleton]at hb;subst hb
   rw[oH]at ha
   obtain⟨j,hj,rfl⟩:=sO ha
   have :=rG r
   show 3*(j:Int)+3<500
   omega
 ssn:=by
  show ((aK r).ss++[dv pe pa le da]).length<=60
  rw[List.length_append,oH,Ar]
  have :=rG r
  simp only[List.length_singleton];omega
 rl:=(ju r).rl
 sl:=fun j hj=>by
  have hm:=List.getElem_mem hj
  generalize (cJ (aK r) (dv pe pa le da)).ss[j]=s at hm
  rcases List.mem_append.1 (show s∈(aK r).ss++[dv pe pa le da]from hm)with h | h
  ·obtain⟨i,hi,rfl⟩:=List.getElem_of_mem h
   exact(ju r).sl i hi
  ·rw[List.mem_singleton]at h;subst h;exact hle
 nd:=by
  have h0:=(ju r).nd
  have e:lT (cJ (aK r) (dv pe pa le da))=lT (aK r)++[500]:=by
   unfold lT cJ
   rw[List.map_append,<-List.append_assoc];rfl
  rw[e,List.nodup_append]
  refine⟨h0,by simp,fun a ha b hb e=>?_⟩
  rw[List.mem_singleton]at hb
  subst hb
  subst e
  exact O5 r ha
end
theorem Jm{α:Type}{p:α->Bool}:∀ {l:List α},(∀ x∈l,p x=true)->l.takeWhile p=l
 |[],_=>rfl
 |a::l,h=>by
  rw[List.takeWhile_cons,if_pos (h a (by simp)),Jm fun x hx=>h x (by simp[hx])]
theorem Wv{l:Led}(aa:bw l)(k:Int)(az:List Int)(pa day f:Int):0<=gi (aj l k) az pa day f/\gi (aj l k) az pa day f<=99:=by
 have hb:∀ x∈(aj l k).rs,1<=x.bo/\x.bo<=99:=fun x h=>by
  rw[qf]at h
  have hm:=(List.mem_filter.1 h).1
  obtain⟨j,hj,rfl⟩:=List.getElem_of_mem hm
  have :=lN aa.rs hj
  unfold dP bL at this
  simp at this
  omega
 unfold gi
 split
 ·decide
 ·rename_i x hx
  have :=hb x (zI hx)
  split
  ·omega
  ·split<;>omega
section
attribute [local irreducible] jn fx l0 d0 cr bg cq db
theorem W6(r:Raw){pe pa le da:Int}(hs:iE (dv pe pa le da)=true)(hle:le<=bT (aK r).ps pa):kY (aK r) (dv pe pa le da)=(cJ (aK r) (dv pe pa le da),0):=by
 have h6:(aK r).ss.length<=6:=by rw[oH,Ar];exact rG r
 have hb:hasB (aK r) (dv pe pa le da).so=false:=by
  rw[<-abC,Bool.eq_false_iff,ne_eq,List.contains_iff_mem]
  exact O5 r
 have hd:decide ((dv pe pa le da).le>bT (aK r).ps (dv pe pa le da).pa)=false:=by
  rw[decide_eq_false_iff_not];show ¬ le>bT (aK r).ps pa;omega
 have tW:l7 Sig.so (aK r).ss (dv pe pa le da).so=(aK r).ss.length:=by
  unfold l7
  rw[Jm fun x hx=>?_]
  rw[oH]at hx
  obtain⟨j,hj,rfl⟩:=sO hx
  have :=rG r
  rw[decide_eq_true_eq]
  show 3*(j:Int)+3<500
  omega
 unfold kY
 rw[if_neg (by rw[xU.2 (ju r)];decide),if_neg (by rw[hs,hd,hb];decide),if_neg (by omega),tW]
 unfold cJ pv
 rw[List.take_length,List.drop_length,List.append_nil]
theorem Xf(pe pa le da:Int):bF (dv pe pa le da).kn (dv pe pa le da).un 900=true:=by
 show bF 5 0 900=true
 decide
theorem Xd(r:Raw){w pa le da:Int}(h1:1<=le)(h2:le<=bT (aK r).ps pa)(h3:1<=pa)(h4:pa<=5)(h5:le<=30)(h6:0<=da)(h7:da<220)
 (hw:w∈fC (aN (aj (aK r) 900) 900) pa le da):
 kY (aK r) (dv w pa le da)=(cJ (aK r) (dv w pa le da),0)/\bw (cJ (aK r) (dv w pa le da))/\fk (cJ (aK r) (dv w pa le da)) 900=true/\
 fC (aN (aj (cJ (aK r) (dv w pa le da)) 900) 900) pa le da=[w]/\
 ve (aN (aj (aK r) 900) 900) (aN (aj (cJ (aK r) (dv w pa le da)) 900) 900)/\
 ∀ i:Nat,i<(aK r).ts.length->mz (aK r) (eZ (aK r) i) 900=0/\mz (cJ (aK r) (dv w pa le da)) (eZ (aK r) i) 900=0/\
   (gI (aK r) (eZ (aK r) i) 900).1<=(gI (cJ (aK r) (dv w pa le da)) (eZ (aK r) i) 900).1/\
   (gI (cJ (aK r) (dv w pa le da)) (eZ (aK r) i) 900).2<=(gI (aK r) (eZ (aK r) i) 900).2:=by
 obtain⟨az,ha,mg⟩:=aaR r hw
 have hd:=O6 r
 have hr:=Wv (ju r) 900 az pa da le
 rw[<-mg]at hr
 have hs:iE (dv w pa le da)=true:=by
  unfold iE dv kV dayB
  simp only[eU (show (1:Int)<=500 by decide) (show (500:Int)<=99999 by decide),eU hr.1 hr.2,eU h3 (show pa<=999 by omega),eU h1 h5,eU h6 (show da<=100000 by omega)]
  rfl
 have hc:=Xf w pa le da
 have aa:=W8 r hs h2
 have rV:=Xy hd ha (s:=dv w pa le da) mg hc
 have hn:=XA hd ha (s:=dv w pa le da) mg hc
 have lC:cB (cJ (aK r) (dv w pa le da)) [900]=0:=su aa fun d hd=>by simp only[List.mem_singleton]at hd;omega
 refine⟨W6 r hs h2,aa,rV,Xz hd ha (s:=dv w pa le da) mg hc,hn,fun i hi=>?_⟩
 have ht:(i:Int)∈(aj (aK r) 900).ts:=by
  rw[BG]
  exact((gx (bR r) 900).ts i).1 (ED r i hi)
 have OH:(i:Int)∈(aj (cJ (aK r) (dv w pa le da)) 900).ts:=by rw[qd];exact ht
 have a1:=at_tel hd (tO r) ht true
 have a2:=at_tel lC (rk.1 rV) OH true
 have b1:=HU hd (tO r) ht
 have b2:=HU lC (rk.1 rV) OH
 have e:eZ (cJ (aK r) (dv w pa le da)) i=eZ (aK r) i:=rfl
 rw[e]at a2 b2
 refine⟨b1.2.2.1,b2.2.2.1,?_⟩
 rw[a1.2.2.2,a2.2.2.2]
 have e2:(aN (aj (aK r) 900) 900).ds=cl (aj (aK r) 900) (aj (aK r) 900).ds (du (aK r) 900):=by
  show cl (aj (aK r) 900) (aj (aK r) 900).ds (du (aj (aK r) 900).l 900)=_
  rw[jW]
 rw[x9 (aK r) hc,e2]
 exact Hq (Int.natCast_nonneg i) (fun t ht=>List.mem_append.2 (.inl ht)) _
end
section
attribute [local irreducible] jn fx aP nT l0 d0 cr bg cq db aK gU
theorem W4{l m:Led}{k:Int}(fH:m.ps=l.ps)(aa:bw l)(F7:bw m)(hs:eS l k=0)(FT:eS m k=0)(h:ve (aN (aj l k) k) (aN (aj m k) k)){pa day:Int}(h0:0<=day)(h1:day<=100000)(k0:0<=k)(k1:k<=100000)(lr:bT l.ps pa≠0):
 jK l pa day k=0/\jK m pa day k=0/\(jL l pa day k≠2->jL m pa day k=jL l pa day k):=by
 have hd:∀ d∈[day,k],0<=d/\d<=100000:=fun d hd=>by simp only[List.mem_cons,List.not_mem_nil,or_false]at hd;omega
 have e1:jK l pa day k=0:=by unfold jK;rw[if_pos (su aa hd),if_neg lr];exact hs
 have e2:jK m pa day k=0:=by unfold jK;rw[if_pos (su F7 hd),fH,if_neg lr];exact FT
 refine⟨e1,e2,?_⟩
 unfold jL
 rw[if_pos e1,if_pos e2,fH]
 have hr:=L3 aa pa
 have hc:(((bT l.ps pa).toNat:Nat):Int)=bT l.ps pa:=by omega
 have :=Tk h pa day (bT l.ps pa).toNat
 rw[hc]at this
 exact this
theorem Xc{l m:Led}{k:Int}(cg:m.rs=l.rs)(aa:bw l)(F7:bw m)(hs:eS l k=0)(FT:eS m k=0)(h:ve (aN (aj l k) k) (aN (aj m k) k)){so day:Int}(h0:0<=day)(h1:day<=100000)(k0:0<=k)(k1:k<=100000){r:Rec}(hr:cO (aj l k).rs so=some r):
 jX l so day k=0/\jX m so day k=0/\(jY l so day k≠2->jY m so day k=jY l so day k):=by
 have hd:∀ d∈[day,k],0<=d/\d<=100000:=fun d hd=>by simp only[List.mem_cons,List.not_mem_nil,or_false]at hd;omega
 have eH:cO (aj m k).rs so=some r:=by
  rw[qf]at hr |-
  unfold bq at hr |-
  rw[cg];exact hr
 have e1:jX l so day k=0:=by unfold jX;rw[if_pos (su aa hd),hr];exact hs
 have e2:jX m so day k=0:=by unfold jX;rw[if_pos (su F7 hd),eH];exact FT
 refine⟨e1,e2,?_⟩
 unfold jY
 rw[if_pos e1,if_pos e2,hr,eH]
 exact Yl h r day
end
theorem yH(r:Raw):(aK r).ps=mps:=rfl
section
attribute [local irreducible] jn fx aP nT l0 d0 cr bg cq db aK gU
theorem LM{a b:Int}(h:a≠2->b=a):((a != 2)&&(a != b))=false:=by
 by_cases e:a=2
 ·subst e;rfl
 ·rw[h e,bne_self_eq_false,Bool.and_false]
theorem Xg(r:Raw){w pa le da at_:Int}(h1:1<=le)(h2:le<=bT (aK r).ps pa)(h3:1<=pa)(h4:pa<=5)(h5:le<=30)(h6:0<=da)(h7:da<220)
 (a0:0<=at_) (a1:at_<220) (hw:w∈fC (aN (aj (aK r) 900) 900) pa le da):
 ∃ M,kY (aK r) ⟨500,w,pa,le,da,5,0⟩=(M,0)/\xA M 900=.tup [.bool true,vInt 0]/\
   kU M ⟨pa,le⟩ da 900=0/\vm M ⟨pa,le⟩ da 900=[w]/\
   (∀ i (h:i<(aK r).ts.length),mz (aK r) (aK r).ts[i].so 900=0/\mz M (aK r).ts[i].so 900=0/\
     decide ((gI M (aK r).ts[i].so 900).1<(gI (aK r) (aK r).ts[i].so 900).1)=false/\
     decide ((gI M (aK r).ts[i].so 900).2>(gI (aK r) (aK r).ts[i].so 900).2)=false)/\
   (∀ i (h:i<(aK r).ps.length),jK (aK r) (aK r).ps[i].id at_ 900=0/\jK M (aK r).ps[i].id at_ 900=0/\
     ((jL (aK r) (aK r).ps[i].id at_ 900 != 2)&&(jL (aK r) (aK r).ps[i].id at_ 900 != jL M (aK r).ps[i].id at_ 900))=false)/\
   (∀ i (h:i<(aK r).rs.length),jX (aK r) (aK r).rs[i].so at_ 900=0/\jX M (aK r).rs[i].so at_ 900=0/\
     ((jY (aK r) (aK r).rs[i].so at_ 900 != 2)&&(jY (aK r) (aK r).rs[i].so at_ 900 != jY M (aK r).rs[i].so at_ 900))=false):=by
 obtain⟨b1,b2,b3,b4,b5,b6⟩:=Xd r h1 h2 h3 h4 h5 h6 h7 hw
 have fH:(cJ (aK r) (dv w pa le da)).ps=(aK r).ps:=rfl
 have cg:(cJ (aK r) (dv w pa le da)).rs=(aK r).rs:=rfl
 refine⟨cJ (aK r) (dv w pa le da),b1,?_⟩
 generalize cJ (aK r) (dv w pa le da)=M at *
 have e9:cB M [900]=0:=su b2 fun d hd=>by simp only[List.mem_singleton]at hd;omega
 have es:=rk.1 b3
 have Oz:kU M ⟨pa,le⟩ da 900=0:=by
  unfold kU
  rw[if_pos (su b2 fun d hd=>by simp only[List.mem_cons,List.not_mem_nil,or_false]at hd;omega),if_pos (by show bL le 1 (bT M.ps pa)=true;rw[fH];exact eU h1 h2)]
  exact es
 refine⟨by unfold xA;rw[if_pos e9,b3],Oz,by unfold vm;rw[if_pos Oz];exact b4,fun i hi=>?_,fun i hi=>?_,fun i hi=>?_⟩
 ·have e:eZ (aK r) (i:Int)=(aK r).ts[i].so:=by
    unfold eZ aG;rw[Int.toNat_natCast,cj hi]
  obtain⟨c1,c2,c3,c4⟩:=b6 i hi
  rw[e]at c1 c2 c3 c4
  exact⟨c1,c2,decide_eq_false (by omega),decide_eq_false (by omega)⟩
 ·have hp:(aK r).ps[i]∈mps:=by rw[<-yH r];exact List.getElem_mem hi
  have kL:bT (aK r).ps (aK r).ps[i].id≠0:=by
   have h:=qe hp
   generalize (aK r).ps[i]=p at *
   rw[yH r]
   omega
  obtain⟨c1,c2,c3⟩:=W4 fH (ju r) b2 (tO r) es b5 (day:=at_) a0 (by omega) (by omega:(0:Int)<=900) (by omega) kL
  exact⟨c1,c2,LM c3⟩
 ·have hx:(aK r).rs[i]∈cq r:=by rw[<-BJ r];exact List.getElem_mem hi
  have qs:cO (aj (aK r) 900).rs (aK r).rs[i].so=some (aK r).rs[i]:=by
   rw[qf,aaP];exact aaQ hx
  obtain⟨c1,c2,c3⟩:=Xc cg (ju r) b2 (tO r) es b5 (day:=at_) a0 (by omega) (by omega:(0:Int)<=900) (by omega) qs
  exact⟨c1,c2,LM c3⟩
end
noncomputable section
def FI:En R5:=⟨qI,wX⟩
attribute [go_sem] FI
theorem aa1(r:Raw){f:Fol}{day:Int}(h0:0<=day)(h1:day<220)(hf:bL f.le 1 (bT (aK r).ps f.pa)=true):kU (aK r) f day 900=0/\vm (aK r) f day 900=fC (aN (aj (aK r) 900) 900) f.pa f.le day:=by
 have hd:cB (aK r) [day,900]=0:=Gc r fun d hd=>by simp only[List.mem_cons,List.not_mem_nil,or_false]at hd;omega
 have he:kU (aK r) f day 900=0:=by
  unfold kU
  rw[if_pos hd,if_pos hf];exact tO r
 exact⟨he,by unfold vm;rw[if_pos he]⟩
section
attribute [local irreducible] jn fx aP nT l0 d0 cr bg cq db aK gU
def K102:List (Nat×Spec):=[(14,S14),(20,Dl),(23,SN),(58,S58),(49,SL),(24,II),(27,SM),(17,S17),(16,SV),(18,IK)]
theorem afD:KS K102:=tc Vx.sound<|tc DY.sound<|tc U2.sound<|tc UY.sound<|tc UZ.sound<|tc U1.sound<|tc U0.sound<|tc Vj.sound<|tc Vq.sound<|tc Vc.sound<|tn
attribute [go_sem] K102
@[go_sem] def P13:PSpec:=p2 tp FI (fun _ _=>True) (fun _ _=>.bool true) true
@[go_sem] def S13:Spec:=P13.toSpec
set_option maxHeartbeats 4000000 in
theorem VA:aZ Tryz.prog 13 P13:=by
 refine dG (rs:=[.tmp 4]) Tryz.func13 Tryz.ntmps13 fun r n hp hw=>?_
 have hP:=fE
 simp only[FI,tp]at hw |-
 have hΓ:=afD
 have mb:=cY (n:=n.c) (m:=220) (by decide)
 have mc:=cY (n:=n.a) (m:=3) (by decide)
 have me:=cY (n:=n.e) (m:=220) (by decide)
 have aa:=ju r
 obtain⟨kL,l1,l2,p1,p2⟩:=qe (rJ n.a)
 have oI:(mps.length:Int)=3:=rfl
 have qw:0<=aP n.a 3:=mc.1
 have fO:aP n.a 3<((aK r).ps.length:Int):=by rw[yH];omega
 have uh:((aK r).ps.map cW).getD (aP n.a 3).toNat default=cW (bH n.a):=by
  rw[yH]
  have hl:(aP n.a 3).toNat<mps.length:=by omega
  rw[ai hl];unfold bH;rw[cj hl]
 have hlp:bT (aK r).ps (bH n.a).id=(bH n.a).lv:=by rw[yH];exact kL
 have ml:=cY (n:=n.b) (m:=(bH n.a).lv) (by omega)
 have hle:bL (1+aP n.b (bH n.a).lv) 1 (bT (aK r).ps (bH n.a).id)=true:=by rw[hlp];exact eU (by omega) (by omega)
 have yv:IntKind.i64.wrap (1+aP n.b (bH n.a).lv)=1+aP n.b (bH n.a).lv:=wrap_i64 (by omega) (by omega)
 obtain⟨v1,v2⟩:=aa1 r (f:=⟨(bH n.a).id,1+aP n.b (bH n.a).lv⟩) mb.1 mb.2 hle
 obtain⟨wl1,wl2⟩:=Ja aa (tO r) (bH n.a).id (1+aP n.b (bH n.a).lv) (aP n.c 220)
 have eM:=fun w hw=>Xg r (w:=w) (pa:=(bH n.a).id) (le:=1+aP n.b (bH n.a).lv) (da:=aP n.c 220) (at_:=aP n.e 220) (by omega) (by omega) p1 p2 (by omega) mb.1 mb.2 me.1 me.2 hw
 have b0:(aK r).ps.length<=maxLen:=by have:=aa.psn;unfold maxLen;omega
 have b1:(aK r).rs.length<=maxLen:=by have:=aa.rsn;unfold maxLen;omega
 have b2:(aK r).ts.length<=maxLen:=by have:=aa.tsn;unfold maxLen;omega
 repeat refine sq ?_
 refine rx hΓ [2,3] [[2,0],[3,0]] (fun K' hK=>by simp only[go_sem];exact aq) ?_
 repeat refine sq ?_
 refine rx hΓ [3,5] [[3,0],[5,0]] (fun K' hK=>by simp only[go_sem];exact aq) ?_
 repeat refine sq ?_
 refine dx hΓ hP [[],[0],[],[2],[2,3],u5,u6,[],u8] [3,5,7] [[3,0],[5,0],[7,0]] (by kernel_rfl) (fun K' hK=>by simp only[go_sem,Int.cast_ofNat_Int,Int.reduceToNat,Int.toNat_zero,Int.toNat_one,Nat.reduceMul,Nat.zero_mul,Nat.one_mul,List.getD_cons_succ,List.getD_cons_zero,uh,qw,fO,List.length_map];(repeat (refine⟨by first | exact au | exact⟨by decide,by decide⟩,?_⟩));exact fJ) ?_
 repeat refine sq ?_
 refine dx hΓ hP [[],[0],[],[2],[],[4],[2,3,4,5],[2,3,4,5,6],u8,[],ck] [3,5,8] [[3,0],[5,0],[8,0]] (by kernel_rfl) (fun K' hK=>by simp only[go_sem,Int.cast_ofNat_Int,Int.reduceToNat,Int.toNat_zero,Int.toNat_one,Nat.reduceMul,Nat.zero_mul,Nat.one_mul,List.getD_cons_succ,List.getD_cons_zero,yv];(repeat (refine⟨by first | exact au | exact⟨by omega,by omega⟩,?_⟩));exact fJ) ?_
 repeat refine sq ?_
 refine rx hΓ [3,5,8,9] [[3,0],[5,0],[8,0]] (fun K' hK=>by simp only[go_sem,Int.cast_ofNat_Int,Int.reduceToNat,Int.toNat_zero,Int.toNat_one,Nat.reduceMul,Nat.zero_mul,Nat.one_mul,List.getD_cons_succ,List.getD_cons_zero];(repeat (refine⟨by first | exact au | exact⟨by decide,by decide⟩,?_⟩));exact iz) ?_
 generalize hp:bH n.a=p at *
 generalize aiY:1+aP n.b p.lv=le at *
 generalize hdy:aP n.c 220=day at *
 generalize ay:aP n.e 220=at_ at *
 generalize hl:aK r=l at *
 generalize hW:fC (aN (aj l 900) 900) p.id le day=W at *
 have mw:=cY (n:=n.d) (m:=(W.length:Int)) (by omega)
 have Oy:(aP n.d (W.length:Int)).toNat<W.length:=by omega
 have hgw:(W.map vInt).getD (aP n.d (W.length:Int)).toNat default=vInt W[(aP n.d (W.length:Int)).toNat]:=ai Oy
 have gD:0<=aP n.d (W.length:Int):=mw.1
 have hm3:aP n.d (W.length:Int)<(W.length:Int):=mw.2
 obtain⟨M,s1,s2,s3,s4,s5,s6,s7⟩:=eM _ (List.getElem_mem Oy)
 generalize W[(aP n.d (W.length:Int)).toNat]=w0 at *
 have Tl:((W.length:Int)==0)=false:=by rw[beq_eq_false_iff_ne];omega
 repeat refine sq ?_
 refine rx hΓ [3,5,8,9,10,11] [[3,0],[5,0],[8,0]] (fun K' hK=>by simp only[go_sem,zZ,v1,v2];exact aq) ?_
 repeat refine sq ?_
 refine rx hΓ [3,5,8,9,10,72] [[3,0],[5,0],[8,0]] (fun K' hK=>by simp only[go_sem,Tl,List.length_map,bne_self_eq_false,Bool.or_self];exact aq) ?_
 repeat refine sq ?_
 refine aC (fun hb=>?_) fun hb=>?_
 ·cases hb
 ·repeat refine sq ?_
  refine aF ?_
  repeat refine sq ?_
  refine dx hΓ hP [[],[],[1],[],[3],[1,2,3,4],u6,u7,[],[8],[],[10],[],gK,[],vt] [3,5,8,9,12] [[3,0],[5,0],[8,0],[12,0]] (by kernel_rfl) (fun K' hK=>by simp only[go_sem,Int.cast_ofNat_Int,Int.reduceToNat,Int.toNat_zero,Int.toNat_one,Nat.reduceMul,Nat.zero_mul,Nat.one_mul,List.getD_cons_succ,List.getD_cons_zero,List.length_map,hgw,gD,hm3];(repeat (refine⟨by first | exact au | exact⟨by omega,by omega⟩,?_⟩));exact fJ) ?_
  repeat refine sq ?_
  refine rx hΓ [3,5,8,9,12,13,14] [[3,0],[5,0],[8,0],[12,0],[13,0]] (fun K' hK=>by simp only[go_sem,s1];exact aq) ?_
  repeat refine sq ?_
  refine rx hΓ [3,5,8,9,12,13,14,15,16] [[3,0],[5,0],[8,0],[12,0],[13,0]] (fun K' hK=>by simp only[go_sem,s2];exact aq) ?_
  repeat refine sq ?_
  refine rx hΓ [3,5,12,13,14,15,16,17,18] [[3,0],[5,0],[12,0],[13,0]] (fun K' hK=>by simp only[go_sem,zZ,s3,s4];exact aq) ?_
  repeat refine sq ?_
  refine rx hΓ [3,5,13,126] [[3,0],[5,0],[13,0]] (fun K' hK=>by simp only[go_sem,bne_self_eq_false,Bool.or_self,decide_true,Bool.not_true];exact aq) ?_
  repeat refine sq ?_
  refine aC (fun hb=>?_) fun hb=>?_
  ·cases hb
  ·repeat refine sq ?_
   refine aF ?_
   repeat refine sq ?_
   refine rx hΓ [3,5,13,19] [[3,0],[5,0],[13,0]] (fun K' hK=>by simp only[go_sem];exact aq) ?_
   repeat refine sq ?_
   refine aR ?_
   repeat refine sq ?_
   refine cp (fun s:Nat=>[(19,⟨true,.v (vInt s)⟩)]) (fun s=>[]) (fun s=>s<=l.ts.length) (fun s=>l.ts.length-s) 0 ?_ ?_ ?_ ?_
   ·exact Nat.zero_le _
   ·rfl
   ·rfl
   rintro i hi
   simp only[go_sem]
   repeat refine sq ?_
   refine rx hΓ [3,5,13,19,131] [[3,0],[5,0],[13,0]] (fun K' hK=>by simp only[go_sem];exact aq) ?_
   repeat refine sq ?_
   refine aC (fun hb=>?_) fun hb=>?_
   ·have ae:i<l.ts.length:=by simpa using hb
    have aw:(i:Int)<l.ts.length:=by omega
    clear hb
    obtain⟨z1,z2,z3,z4⟩:=s5 i ae
    repeat refine sq ?_
    refine aF ?_
    repeat refine sq ?_
    refine aR ?_
    repeat refine sq ?_
    refine dx hΓ hP [[],[],[1],[],[1,2,3],[1,2,3,4],[1,2,3,4,5],u7,u8,u9,u9,[],[0,1,2,3,4,5,6,7,8,9,11],gK] [3,5,13,19,20,21] [[3,0],[5,0],[13,0],[20,0]] (by kernel_rfl) (fun K' hK=>by simp only[go_sem,ai ae,ak,an,aw,ai ae,aw,ak,an,List.length_map];exact gX) ?_
    repeat refine sq ?_
    refine dx hΓ hP [[],[],[1],[],[1,2,3],[1,2,3,4],[1,2,3,4,5],u7,u8,u9,u9,[],[0,1,2,3,4,5,6,7,8,9,11],gK] [3,5,13,19,20,21,22,23] [[3,0],[5,0],[13,0],[20,0],[22,0]] (by kernel_rfl) (fun K' hK=>by simp only[go_sem,ai ae,ak,an,aw,ai ae,aw,ak,an,List.length_map];exact gX) ?_
    repeat refine sq ?_
    refine rx hΓ [3,5,13,19,175] [[3,0],[5,0],[13,0]] (fun K' hK=>by simp only[go_sem,ai ae,ak,an,aw,z1,z2,z3,z4,bne_self_eq_false,Bool.or_self];exact aq) ?_
    repeat refine sq ?_
    refine aC (fun hb=>?_) fun hb=>?_
    ·cases hb
    ·repeat refine sq ?_
     refine aF ?_
     refine bW ?_
     simp only[go_sem]
     refine kp [3,5,13,19] [[3,0],[5,0],[13,0]] ?_
     repeat refine sq ?_
     refine aW hΓ fun K' hK=>?_
     simp only[go_sem,ai ae,ak,an,aw]
     repeat (refine⟨au,?_⟩)
     refine hK _ ?_
     clear K' hK
     simp only[go_sem]
     refine⟨i+1,ae,by(show l.ts.length-(i+1)<l.ts.length-i;omega),?_⟩
     refine bh [3,5,13,19] [[3,0],[5,0],[13,0]] ?_ ?_<;>simp only[go_sem,bc ae b2,be]
   ·have bE:i=l.ts.length:=by
     have :¬ (i:Int)<l.ts.length:=by simpa using hb
     omega
    clear hb
    subst bE
    repeat refine sq ?_
    refine bN ?_
    simp only[go_sem]
    refine kp [3,5,13] [[3,0],[5,0],[13,0]] ?_
    repeat refine sq ?_
    refine rx hΓ [5,13,24] [[5,0],[13,0]] (fun K' hK=>by simp only[go_sem,ay,Int.cast_ofNat_Int,Int.reduceToNat,Int.toNat_zero,Int.toNat_one,Nat.reduceMul,Nat.zero_mul,Nat.one_mul,List.getD_cons_succ,List.getD_cons_zero];(repeat (refine⟨by first | exact au | exact⟨by decide,by decide⟩,?_⟩));exact iz) ?_
    repeat refine sq ?_
    refine rx hΓ [5,13,24,25] [[5,0],[13,0]] (fun K' hK=>by simp only[go_sem];exact aq) ?_
    repeat refine sq ?_
    refine aR ?_
    repeat refine sq ?_
    refine cp (fun s:Nat=>[(25,⟨true,.v (vInt s)⟩)]) (fun s=>[]) (fun s=>s<=l.ps.length) (fun s=>l.ps.length-s) 0 ?_ ?_ ?_ ?_
    ·exact Nat.zero_le _
    ·rfl
    ·rfl
    rintro i1 hi
    simp only[go_sem]
    repeat refine sq ?_
    refine rx hΓ [5,13,24,25,183] [[5,0],[13,0]] (fun K' hK=>by simp only[go_sem];exact aq) ?_
    repeat refine sq ?_
    refine aC (fun hb=>?_) fun hb=>?_
    ·have aS:i1<l.ps.length:=by simpa using hb
     have bC:(i1:Int)<l.ps.length:=by omega
     clear hb
     obtain⟨z1,z2,z3⟩:=s6 i1 aS
     repeat refine sq ?_
     refine aF ?_
     repeat refine sq ?_
     refine aR ?_
     repeat refine sq ?_
     refine dx hΓ hP [[],[],[1],[],[1,2,3],[1,2,3,4],[1,2,3,4,5],[],u8,u9,ck,ck,eF,gK] [5,13,24,25,26,27] [[5,0],[13,0]] (by kernel_rfl) (fun K' hK=>by simp only[go_sem,ai aS,ak,an,bC,ai aS,bC,ak,an,List.length_map];exact gX) ?_
     repeat refine sq ?_
     refine dx hΓ hP [[],[],[1],[],[1,2,3],[1,2,3,4],[1,2,3,4,5],[],u8,u9,ck,ck,eF,gK] [5,13,24,25,26,27,28,29] [[5,0],[13,0]] (by kernel_rfl) (fun K' hK=>by simp only[go_sem,ai aS,ak,an,bC,ai aS,bC,ak,an,List.length_map];exact gX) ?_
     repeat refine sq ?_
     refine rx hΓ [5,13,24,25,224] [[5,0],[13,0]] (fun K' hK=>by simp only[go_sem,ai aS,ak,an,bC,z1,z2,z3,bne_self_eq_false,Bool.or_self];exact aq) ?_
     repeat refine sq ?_
     refine aC (fun hb=>?_) fun hb=>?_
     ·cases hb
     ·repeat refine sq ?_
      refine aF ?_
      refine bW ?_
      simp only[go_sem]
      refine kp [5,13,24,25] [[5,0],[13,0]] ?_
      repeat refine sq ?_
      refine aW hΓ fun K' hK=>?_
      simp only[go_sem,ai aS,ak,an,bC]
      repeat (refine⟨au,?_⟩)
      refine hK _ ?_
      clear K' hK
      simp only[go_sem]
      refine⟨i1+1,aS,by(show l.ps.length-(i1+1)<l.ps.length-i1;omega),?_⟩
      refine bh [5,13,24,25] [[5,0],[13,0]] ?_ ?_<;>simp only[go_sem,bc aS b0,be]
    ·have jy:i1=l.ps.length:=by
      have :¬ (i1:Int)<l.ps.length:=by simpa using hb
      omega
     clear hb
     subst jy
     repeat refine sq ?_
     refine bN ?_
     simp only[go_sem]
     refine kp [5,13,24] [[5,0],[13,0]] ?_
     repeat refine sq ?_
     refine rx hΓ [5,13,24,30] [[5,0],[13,0]] (fun K' hK=>by simp only[go_sem];exact aq) ?_
     repeat refine sq ?_
     refine aR ?_
     repeat refine sq ?_
     refine cp (fun s:Nat=>[(30,⟨true,.v (vInt s)⟩)]) (fun s=>[]) (fun s=>s<=l.rs.length) (fun s=>l.rs.length-s) 0 ?_ ?_ ?_ ?_
     ·exact Nat.zero_le _
     ·rfl
     ·rfl
     rintro i2 hi
     simp only[go_sem]
     repeat refine sq ?_
     refine rx hΓ [5,13,24,30,229] [[5,0],[13,0]] (fun K' hK=>by simp only[go_sem];exact aq) ?_
     repeat refine sq ?_
     refine aC (fun hb=>?_) fun hb=>?_
     ·have bY:i2<l.rs.length:=by simpa using hb
      have fe:(i2:Int)<l.rs.length:=by omega
      clear hb
      obtain⟨z1,z2,z3⟩:=s7 i2 bY
      repeat refine sq ?_
      refine aF ?_
      repeat refine sq ?_
      refine aR ?_
      repeat refine sq ?_
      refine dx hΓ hP [[],[],[1],[],[1,2,3],[1,2,3,4],[1,2,3,4,5],[],u8,u9,ck,ck,eF,gK] [5,13,24,30,31,32] [[5,0],[13,0]] (by kernel_rfl) (fun K' hK=>by simp only[go_sem,ai bY,ak,an,fe,ai bY,fe,ak,an,List.length_map];exact gX) ?_
      repeat refine sq ?_
      refine dx hΓ hP [[],[],[1],[],[1,2,3],[1,2,3,4],[1,2,3,4,5],[],u8,u9,ck,ck,eF,gK] [5,13,24,30,31,32,33,34] [[5,0],[13,0]] (by kernel_rfl) (fun K' hK=>by simp only[go_sem,ai bY,ak,an,fe,ai bY,fe,ak,an,List.length_map];exact gX) ?_
      repeat refine sq ?_
      refine rx hΓ [5,13,24,30,270] [[5,0],[13,0]] (fun K' hK=>by simp only[go_sem,ai bY,ak,an,fe,z1,z2,z3,bne_self_eq_false,Bool.or_self];exact aq) ?_
      repeat refine sq ?_
      refine aC (fun hb=>?_) fun hb=>?_
      ·cases hb
      ·repeat refine sq ?_
       refine aF ?_
       refine bW ?_
       simp only[go_sem]
       refine kp [5,13,24,30] [[5,0],[13,0]] ?_
       repeat refine sq ?_
       refine aW hΓ fun K' hK=>?_
       simp only[go_sem,ai bY,ak,an,fe]
       repeat (refine⟨au,?_⟩)
       refine hK _ ?_
       clear K' hK
       simp only[go_sem]
       refine⟨i2+1,bY,by(show l.rs.length-(i2+1)<l.rs.length-i2;omega),?_⟩
       refine bh [5,13,24,30] [[5,0],[13,0]] ?_ ?_<;>simp only[go_sem,bc bY b1,be]
     ·have oM:i2=l.rs.length:=by
       have :¬ (i2:Int)<l.rs.length:=by simpa using hb
       omega
      clear hb
      subst oM
      repeat refine sq ?_
      refine bN ?_
      simp only[go_sem]
      refine kp [] [] ?_
      repeat refine sq ?_
      refine rx hΓ [4] [] (fun K' hK=>by simp only[go_sem];exact aq) ?_
      refine aB ?_
      simp only[go_sem]
      first | done | rfl
end
end
open Go
def ki(P:Program)(t:TypeId):Bool:=match P.underlying t with | some (.struct _)=>true | some (.array _ _)=>true | _=>false
def ov(ag:Bool)(xs:List V):V:=if ag then .agg xs else xs.getD 0 default
def pc(P:Program):List Field->Nat->Nat->Bool
 |[],off,tot=>off==tot
 |f::r,off,tot=>f.offset==off&&pc P r (off+P.cellsOf f.type) tot
def lY(P:Program):Nat->TypeId->Bool
 | 0,_=>false
 |n+1,t=>match P.underlying t with
  |some .bool=>P.cellsOf t==1
  |some (.int _)=>P.cellsOf t==1
  |some .string=>P.cellsOf t==1
  |some (.slice e)=>P.cellsOf t==1&&lY P n e&&decide (0<P.cellsOf e)&&(ki P e||P.cellsOf e==1)
  |some (.struct fs)=>pc P fs.toList 0 (P.cellsOf t)&&fs.toList.all fun f=>lY P n f.type
  |some (.array m e)=>P.cellsOf t==m*P.cellsOf e&&lY P n e
  |_=>false
def zN(S:TypeId->List V->Prop):List TypeId->List V->Prop
 |[],xs=>xs=[]
 |t::r,xs=>∃ a b,xs=a++b/\S t a/\zN S r b
def gw(P:Program):Nat->TypeId->List V->Prop
 | 0,_,_=>False
 |n+1,t,xs=>match P.underlying t with
  |some .bool=>∃ b,xs=[.bool b]
  |some (.int k)=>∃ z,xs=[.int k z]/\(Lit.int k z).wf=true
  |some .string=>∃ s,xs=[.str s]/\s.size<=maxLen
  |some (.slice e)=>∃ ls:List (List V),xs=[.sl (ls.map (ov (ki P e)))]/\ls.length<=maxLen/\∀ y∈ls,gw P n e y
  |some (.struct fs)=>zN (gw P n) (fs.toList.map (·.type)) xs
  |some (.array m e)=>zN (gw P n) (List.replicate m e) xs
  |_=>False
structure jJ (m:Mem) (xs:List V) (cs:List Value):Prop where
 len:xs.length=cs.length
 rep:∀ i (h:i<xs.length) (h':i<cs.length),aU m xs[i] cs[i]
 one:∀ x∈xs,x.one=true
theorem jJ.nil(m:Mem):jJ m [] []:=⟨rfl,fun i h=>by simp at h,fun x h=>by simp at h⟩
theorem jJ.append{m:Mem}{xs ys:List V}{cs ds:List Value}(h:jJ m xs cs)(k:jJ m ys ds):jJ m (xs++ys) (cs++ds):=by
 refine⟨by simp[h.len,k.len],fun i h1 h2=>?_,fun x hx=>?_⟩
 ·by_cases hi:i<xs.length
  ·rw[List.getElem_append_left hi,List.getElem_append_left (by rw[<-h.len];exact hi)]
   exact h.rep i hi _
  ·have hl:=h.len
   have e:i-xs.length=i-cs.length:=by rw[hl]
   rw[List.getElem_append_right (by omega),List.getElem_append_right (by omega)]
   simp only[List.length_append]at h1 h2
   have :=k.rep (i-xs.length) (by omega) (by rw[<-k.len];omega)
   simp only[e]at this |-
   exact this
 ·rcases List.mem_append.1 hx with hx | hx
  ·exact h.one x hx
  ·exact k.one x hx
theorem jJ.single{m:Mem}{x:V}{u:Value}(h:aU m x u)(ho:x.one=true):jJ m [x] [u]:=
 ⟨rfl,fun i h1 h2=>by simp at h1;subst h1;exact h,fun y hy=>by simp at hy;subst hy;exact ho⟩
theorem mapM_some{α β:Type}{f:α->Option β}:∀ {l:List α} {r:List β},l.mapM f=some r->r.length=l.length/\∀ i (h:i<l.length) (h':i<r.length),f l[i]=some r[i]
 |[],r,h=>by
  simp only[List.mapM_nil]at h
  cases h
  exact⟨rfl,fun i h=>by simp at h⟩
 |a::l,r,h=>by
  simp only[List.mapM_cons,Option.bind_eq_bind,Option.bind_eq_some_iff]at h
  obtain⟨b,hb,bs,B4,hr⟩:=h
  cases hr
  obtain⟨h1,h2⟩:=mapM_some B4
  refine⟨by simp[h1],fun i hi bP=>?_⟩
  cases i with
  |zero=>exact hb
  |succ i=>exact h2 i (by simpa using hi) (by simpa using bP)
theorem Jt{P:Program}:∀ {fs:List Field} {off tot:Nat},pc P fs off tot=true->off<=tot
 |[],off,tot,h=>by simp[pc]at h;omega
 |f::r,off,tot,h=>by
  simp only[pc,Bool.and_eq_true]at h
  have :=Jt h.2
  omega
theorem Qy{P:Program}{m:Mem}{S:TypeId->List V->Prop}{cs:List Value}:∀ {fs:List Field} {off:Nat},pc P fs off cs.length=true->
 (∀ f∈fs,∃ xs,S f.type xs/\jJ m xs ((cs.drop f.offset).take (P.cellsOf f.type)))->∃ xs,zN S (fs.map (·.type)) xs/\jJ m xs (cs.drop off)
 |[],off,h,_=>by
  simp[pc]at h
  subst h
  exact⟨[],rfl,by simpa using jJ.nil m⟩
 |f::r,off,h,hf=>by
  simp only[pc,Bool.and_eq_true,beq_iff_eq]at h
  obtain⟨h1,h2⟩:=h
  obtain⟨a,ha,dR⟩:=hf f (by simp)
  obtain⟨b,hb,tJ⟩:=Qy h2 fun g hg=>hf g (by simp[hg])
  refine⟨a++b,⟨a,b,rfl,ha,hb⟩,?_⟩
  have e:cs.drop off=(cs.drop f.offset).take (P.cellsOf f.type)++cs.drop (off+P.cellsOf f.type):=by
   rw[h1,<-List.drop_drop,List.take_append_drop]
  rw[e]
  exact dR.append tJ
theorem Sj{m:Mem}{S:TypeId->List V->Prop}{e:TypeId}{k:Nat}{cs:List Value}:∀ (n off:Nat),cs.length=(off+n)*k->
 (∀ i,i<off+n->∃ xs,S e xs/\jJ m xs ((cs.drop (i*k)).take k))->∃ xs,zN S (List.replicate n e) xs/\jJ m xs (cs.drop (off*k))
 | 0,off,h,_=>by
   have :cs.drop (off*k)=[]:=List.drop_eq_nil_of_le (by rw[h];simp)
   rw[this]
   exact⟨[],rfl,jJ.nil m⟩
 |n+1,off,h,hf=>by
  obtain⟨a,ha,dR⟩:=hf off (by omega)
  obtain⟨b,hb,tJ⟩:=Sj n (off+1) (by rw[h];congr 1;omega) fun i hi=>hf i (by omega)
  refine⟨a++b,⟨a,b,rfl,ha,hb⟩,?_⟩
  have e:cs.drop (off*k)=(cs.drop (off*k)).take k++cs.drop ((off+1)*k):=by
   rw[Nat.succ_mul,<-List.drop_drop,List.take_append_drop]
  rw[e]
  exact dR.append tJ
theorem Wy{ag:Bool}{xs:List V}(h:ag=true\/xs.length=1)(ho:∀ x∈xs,x.one=true):(ov ag xs).cells=xs:=by
 cases ag with
 |true=>rfl
 |false=>
  rcases h with h | h
  ·cases h
  match xs,h with
  |[x],_=>
   have :=ho x (by simp)
   show x.cells=[x]
   cases x<;>first | rfl | (simp[V.one]at this)
def l6(w:World):Mem:=fun b off=>w.cell? ⟨b,off,none⟩
theorem Su{a:Addr}(h:a.spot=none)(n:Nat):a.add n=⟨a.block,a.off+n,none⟩:=by
 obtain⟨b,o,s⟩:=a
 simp only at h
 subst h
 unfold Addr.add
 split
 ·rename_i e;subst e;rfl
 ·rfl
theorem AE{H:Type}{enc:TypeId×Value->H}{P:Program}{w:World}{base:Nat}{spare:Nat->Bool}{held:Bool}:
 ∀ (n fuel:Nat) (t:TypeId) (cs:List Value) (r:DataW H×List MemPlace),lY P n t=true->cs.length=P.cellsOf t->DataW.trod enc P w base spare held fuel t cs=some r->∃ xs,gw P n t xs/\jJ (l6 w) xs cs
 | 0,_,_,_,_,h,_,_=>by simp[lY]at h
 |n+1,0,_,_,_,_,_,h=>by simp[DataW.trod]at h
 |n+1,fuel+1,t,cs,r,hp,hlen,h=>by
  rw[DataW.trod_step]at h
  unfold DataW.trodStep at h
  unfold lY at hp
  unfold gw
  rcases hu:P.underlying t with _ | u
  ·rw[hu]at hp;simp at hp
  rw[hu]at hp h
  cases u with
  |bool=>
   have hb:∃ b,cs=[.bool b]:=by
    simp only at h
    split at h<;>simp_all
   obtain⟨b,rfl⟩:=hb
   exact⟨_,⟨b,rfl⟩,.single (.bool _) rfl⟩
  |int k=>
   simp only at hp h |-
   split at h<;>simp_all
   obtain⟨⟨rfl,h1⟩,_⟩:=h
   exact⟨_,⟨_,rfl,h1⟩,.single (.int _ _) rfl⟩
  |string=>
   simp only at hp h |-
   split at h<;>simp_all
   obtain⟨h1,_⟩:=h
   exact⟨_,⟨_,rfl,h1⟩,.single (.str _ h1) rfl⟩
  |slice e=>
   simp only[Bool.and_eq_true,decide_eq_true_eq,Bool.or_eq_true,beq_iff_eq]at hp |-
   obtain⟨⟨⟨_,bM⟩,cQ⟩,hag⟩:=hp
   split at h<;>simp_all
   ·exact⟨_,⟨[],rfl,Nat.zero_le _,by simp⟩,.single (.slnil _ _) rfl⟩
   ·rename_i e' a len cap _ _
    obtain⟨⟨hb,hlc,hcm⟩,h⟩:=h
    simp only[Option.bind_eq_some_iff]at h
    obtain⟨elems,GR,_⟩:=h
    obtain⟨l1,l2⟩:=mapM_some GR
    simp only[List.length_range]at l1
    have hx:∀ i,i<len->∃ xs cells,w.cells? base (a.add (i*P.cellsOf e')) (P.cellsOf e')=some cells/\gw P n e' xs/\jJ (l6 w) xs cells:=by
     intro i hi
     have h3:=l2 i (by simpa using hi) (by omega)
     simp only[List.getElem_range,Option.bind_eq_some_iff]at h3
     obtain⟨cells,h4,h5⟩:=h3
     obtain⟨xs,h6,h7⟩:=AE n fuel _ _ _ bM (World.cells?_some h4).2.1 h5
     exact⟨xs,cells,h4,h6,h7⟩
    rcases Nat.eq_zero_or_pos len with hz | aaM
    ·subst hz
     exact⟨[.sl []],⟨[],rfl,Nat.zero_le _,by simp⟩,.single (.slnil _ _) rfl⟩
    have FQ:a.spot=none:=by
     obtain⟨xs,cells,h4,_⟩:=hx 0 aaM
     have h8:=(World.cells?_some h4).2.2 0 cQ
     have h9:=(World.cells?_some h4).2.1
     have uB:w.cell? ((a.add (0*P.cellsOf e')).add 0)=some (cells[0]'(by omega)):=by rw[h8];exact List.getElem?_eq_getElem (by omega)
     simpa[Addr.add]using World.cell?_spot uB
    let X:Nat->List V:=fun i=>if h:i<len then Classical.choose (hx i h)else[]
    let C:Nat->List Value:=fun i=>(w.cells? base (a.add (i*P.cellsOf e')) (P.cellsOf e')).getD []
    have hX:∀ i,i<len->gw P n e' (X i)/\jJ (l6 w) (X i) (C i)/\(C i).length=P.cellsOf e'/\∀ j,j<P.cellsOf e'->w.cell? ⟨a.block,a.off+i*P.cellsOf e'+j,none⟩=(C i)[j]?:=by
     intro i hi
     obtain⟨cells,h4,h6,h7⟩:=Classical.choose_spec (hx i hi)
     have e1:X i=Classical.choose (hx i hi):=dif_pos hi
     have e2:C i=cells:=by show (w.cells? _ _ _).getD []=cells;rw[h4];rfl
     rw[e1,e2]
     refine⟨h6,h7,(World.cells?_some h4).2.1,fun j hj=>?_⟩
     have h8:=(World.cells?_some h4).2.2 j hj
     rw[Su FQ,Su rfl]at h8
     exact h8
    have uq:∀ i,i<len->(ov (ki P e') (X i)).cells=X i:=fun i hi=>by
     obtain⟨h1,h2,h3,_⟩:=hX i hi
     refine Wy ?_ h2.one
     rcases hag with h | h
     ·exact .inl h
     ·exact .inr (by rw[h2.len,h3,h])
    refine⟨[.sl (((List.range len).map X).map (ov (ki P e')))],⟨(List.range len).map X,rfl,by simp;omega,fun y hy=>?_⟩,.single ?_ rfl⟩
    ·simp only[List.mem_map,List.mem_range]at hy
     obtain⟨i,hi,rfl⟩:=hy
     exact(hX i hi).1
    ·obtain⟨b,o,s⟩:=a
     simp only at FQ hX
     subst FQ
     have key:=aU.sl (m:=l6 w) (((List.range len).map X).map (ov (ki P e'))) b o cap (P.cellsOf e') (fun i j=>((C i)[j]?).getD undef) (by
         intro h;have:=congrArg List.length h;simp at this;omega) (by simp;omega) (by simpa using hlc)
      (fun i hi=>by
        have bP:i<len:=by simpa using hi
        obtain⟨h1,h2,h3,_⟩:=hX i bP
        simp only[List.getElem_map,List.getElem_range]
        rw[uq i bP,h2.len,h3])
      (fun i j hi hj=>by
        have bP:i<len:=by simpa using hi
        obtain⟨h1,h2,h3,h4⟩:=hX i bP
        show w.cell? _=_
        rw[h4 j hj,List.getElem?_eq_getElem (by omega)]
        rfl)
      (fun i j hi hj=>by
        have bP:i<len:=by simpa using hi
        obtain⟨h1,h2,h3,h4⟩:=hX i bP
        simp only[List.getElem_map,List.getElem_range,uq i bP]at hj |-
        have eW:j<(C i).length:=by rw[<-h2.len];exact hj
        rw[List.getElem?_eq_getElem eW]
        exact h2.rep j hj eW)
      (fun i hi x hx=>by
        have bP:i<len:=by simpa using hi
        simp only[List.getElem_map,List.getElem_range,uq i bP]at hx
        exact(hX i bP).2.1.one x hx)
     simpa using key
  |struct fs=>
   simp only[Bool.and_eq_true,List.all_eq_true]at hp h |-
   obtain⟨ht,eM⟩:=hp
   rw[if_pos hlen]at h
   simp only[Option.map_eq_some_iff]at h
   obtain⟨ys,FM,_⟩:=h
   obtain⟨l1,l2⟩:=mapM_some FM
   have :=Qy (m:=l6 w) (S:=gw P n) (cs:=cs) (fs:=fs.toList) (off:=0) (by rw[hlen];exact ht) fun f hf=>by
    obtain⟨i,hi,rfl⟩:=List.mem_iff_getElem.1 hf
    have h3:=l2 i hi (by omega)
    have hle:P.cellsOf fs.toList[i].type<=(cs.drop fs.toList[i].offset).length:=by
     have key:∀ (l:List Field) (off tot:Nat),pc P l off tot=true->∀ f∈l,f.offset+P.cellsOf f.type<=tot:=by
      intro l
      induction l with
      |nil=>intro _ _ _ f hf;simp at hf
      |cons g r ih=>
       intro off tot h f hf
       simp only[pc,Bool.and_eq_true,beq_iff_eq]at h
       rcases List.mem_cons.1 hf with rfl | hf
       ·have:=Jt h.2;omega
       ·exact ih _ _ h.2 f hf
     have :=key _ _ _ ht _ hf
     simp only[List.length_drop]
     omega
    exact AE n fuel _ _ _ (eM _ hf) (by rw[List.length_take];omega) h3
   simpa using this
  |array m e=>
   simp only[Bool.and_eq_true,beq_iff_eq]at hp h |-
   obtain⟨ht,bM⟩:=hp
   rw[if_pos hlen]at h
   simp only[Option.map_eq_some_iff]at h
   obtain⟨ys,FM,_⟩:=h
   obtain⟨l1,l2⟩:=mapM_some FM
   have :=Sj (m:=l6 w) (S:=gw P n) (e:=e) (k:=P.cellsOf e) (cs:=cs) m 0 (by rw[hlen,ht];simp) fun i hi=>by
    have bP:i<m:=by omega
    have h3:=l2 i (by simpa using bP) (by rw[l1];simpa using bP)
    simp only[List.getElem_range]at h3
    have hle:i*P.cellsOf e+P.cellsOf e<=cs.length:=by
     rw[hlen,ht,<-Nat.succ_mul];exact Nat.mul_le_mul_right _ bP
    exact AE n fuel _ _ _ bM (by rw[List.length_take,List.length_drop];omega) h3
   simpa using this
  |_=>simp at hp
open Go Go.RowKit Go.ChangeShapes Go.WideShapes Go.ChangeAt
theorem WT{P:Program}{n:Nat}{t:TypeId}{W:World}{r:Reach}{base:Nat}{v:Value}(hp:lY P n t=true)(h:Value.okWide P W r base t v):
 v.cells.size=P.cellsOf t/\(ki P t=true->∃ cs,v=.agg cs)/\(ki P t=false->v.cells= #[v]/\P.cellsOf t=1):=by
 cases n with
 |zero=>simp[lY]at hp
 |succ n=>
  unfold lY at hp
  unfold ki
  rcases hu:P.underlying t with _ | u
  ·rw[hu]at hp;simp at hp
  rw[hu]at hp
  cases u with
  |bool=>
   obtain⟨b,rfl⟩:=okWide_bool hu h
   simp only[beq_iff_eq]at hp
   exact⟨by simp[Value.cells,hp],by simp,fun _=>⟨rfl,hp⟩⟩
  |int k=>
   obtain⟨b,rfl⟩:=okWide_int hu h
   simp only[beq_iff_eq]at hp
   exact⟨by simp[Value.cells,hp],by simp,fun _=>⟨rfl,hp⟩⟩
  |string=>
   obtain⟨b,rfl⟩:=okWide_string hu h
   simp only[beq_iff_eq]at hp
   exact⟨by simp[Value.cells,hp],by simp,fun _=>⟨rfl,hp⟩⟩
  |slice e=>
   obtain⟨a,len,cap,rfl⟩:=okWide_slice hu h
   simp only[Bool.and_eq_true,beq_iff_eq]at hp
   exact⟨by simp[Value.cells,hp.1.1.1],by simp,fun _=>⟨rfl,hp.1.1.1⟩⟩
  |struct fs=>
   simp only[Value.okWide,hu]at h
   obtain⟨cs,rfl,h2,_⟩:=h
   exact⟨h2,fun _=>⟨cs,rfl⟩,fun h=>by simp at h⟩
  |array m e=>
   simp only[Value.okWide,hu]at h
   obtain⟨cs,rfl,h2,_⟩:=h
   exact⟨h2,fun _=>⟨cs,rfl⟩,fun h=>by simp at h⟩
  |_=>simp at hp
def Dy(P:Program)(n:Nat)(t:TypeId)(x:V):Prop:=∃ xs,gw P n t xs/\x=ov (ki P t) xs
def xl(P:Program)(n:Nat):List TypeId->List V->Prop
 |[],xs=>xs=[]
 |t::r,xs=>∃ x ys,xs=x::ys/\Dy P n t x/\xl P n r ys
theorem adL{H:Type}{enc:TypeId×Value->H}{P:Program}{w:World}{b0:Nat}{spare:Nat->Bool}{held:Bool}{n:Nat}{t:TypeId}{r:Reach}{base:Nat}{v:Value}{d:DataW H}{ps:List MemPlace}
 (hp:lY P n t=true) (h:Value.okWide P w r base t v) (ht:DataW.Trod enc P w b0 spare held t v d ps):∃ x,Dy P n t x/\aU (l6 w) x v:=by
 obtain⟨h1,h2,h3⟩:=WT hp h
 obtain⟨fuel,hf⟩:=ht
 obtain⟨xs,k1,k2⟩:=AE n fuel t v.cells.toList _ hp (by simpa using h1) hf
 refine⟨ov (ki P t) xs,⟨xs,k1,rfl⟩,?_⟩
 cases ha:ki P t with
 |true=>
  obtain⟨cs,rfl⟩:=h2 ha
  simp only[ov,if_true]
  refine .agg xs cs (by simpa[Value.cells]using k2.len) k2.one fun i h h'=>?_
  have :=k2.rep i h (by simpa[Value.cells]using h')
  simpa[Value.cells]using this
 |false=>
  obtain⟨h4,h5⟩:=h3 ha
  have hl:xs.length=1:=by rw[k2.len];simp[h4]
  match xs,hl with
  |[x],_=>
   have :=k2.rep 0 (by simp) (by simp[h4])
   simp only[ov,Bool.false_eq_true,if_false,List.getD_cons_zero]
   simpa[h4]using this
theorem Sl{H:Type}{enc:TypeId×Value->H}{P:Program}{w:World}{b0:Nat}{spare:Nat->Bool}{held:Bool}{n:Nat}{r:Reach}{base:Nat}:∀ {ts:List TypeId} {vs:List Value} {ds:List (DataW H)} {ps:List MemPlace},
 (∀ t∈ts,lY P n t=true)->(∀ (j:Nat) t v,ts[j]?=some t->vs[j]?=some v->Value.okWide P w r base t v)->DataW.TrodAll enc P w b0 spare held ts vs ds ps->∃ xs,xl P n ts xs/\u3 (l6 w) xs vs
 |[],vs,ds,ps,_,_,h=>by
  cases vs with
  |nil=>exact⟨[],rfl,rfl,fun i h=>by simp at h⟩
  |cons=>cases ds<;>simp[DataW.TrodAll]at h
 |t::ts,[],ds,ps,_,_,h=>by cases ds<;>simp[DataW.TrodAll]at h
 |t::ts,v::vs,[],ps,_,_,h=>by simp[DataW.TrodAll]at h
 |t::ts,v::vs,d::ds,ps,hp,hv,h=>by
  obtain⟨p,q,h1,h2,_⟩:=h
  obtain⟨x,k1,k2⟩:=adL (hp t (by simp)) (hv 0 t v rfl rfl) h1
  obtain⟨ys,k3,k4,k5⟩:=Sl (fun t ht=>hp t (by simp[ht])) (fun j t v h h'=>hv (j+1) t v (by simpa using h) (by simpa using h')) h2
  refine⟨x::ys,⟨x,ys,rfl,k1,k3⟩,by simp[k4],fun i hi bP=>?_⟩
  cases i with
  |zero=>exact k2
  |succ i=>exact k5 i (by simpa using hi) (by simpa using bP)
theorem Sk{H:Type}{enc:TypeId×Value->H}{P:Program}(hl:laidOutB P=true){W W':World}(hb:Below W.heap.size W W'):∀ {ts:List TypeId} {vs:List Value} {ds:List (DataW H)} {ps:List MemPlace},
 (∀ t∈ts,P.readableRec t=true/\t<P.types.size)->DataW.TrodAll enc P W 0 (fun _=>true) true ts vs ds ps->(∀ x∈ps,x.block<W.heap.size)->DataW.TrodAll enc P W' 0 (fun b=>decide (b<W.heap.size)) true ts vs ds ps
 |[],vs,ds,ps,_,h,_=>by
  cases vs<;>cases ds<;>simp_all[DataW.TrodAll]
 |t::ts,[],ds,ps,_,h,_=>by cases ds<;>simp[DataW.TrodAll]at h
 |t::ts,v::vs,[],ps,_,h,_=>by simp[DataW.TrodAll]at h
 |t::ts,v::vs,d::ds,ps,hr,h,ae=>by
  obtain⟨p,q,h1,h2,rfl⟩:=h
  exact⟨p,q,Below.trod hl (hr t (by simp)).1 (hr t (by simp)).2 h1 hb (fun x hx=>ae x (by simp[hx])),
   Sk hl hb (fun t ht=>hr t (by simp[ht])) h2 (fun x hx=>ae x (by simp[hx])),rfl⟩
theorem Jn{H:Type}{enc:TypeId×Value->H}{P:Program}{w:World}{b0:Nat}{spare:Nat->Bool}{held:Bool}:∀ {ts:List TypeId} {vs:List Value} {ds:List (DataW H)} {ps:List MemPlace},DataW.TrodAll enc P w b0 spare held ts vs ds ps->ds.length=ts.length
 |[],vs,ds,ps,h=>by cases vs<;>cases ds<;>simp_all[DataW.TrodAll]
 |t::ts,[],ds,ps,h=>by cases ds<;>simp[DataW.TrodAll]at h
 |t::ts,v::vs,[],ps,h=>by simp[DataW.TrodAll]at h
 |t::ts,v::vs,d::ds,ps,h=>by
  obtain⟨p,q,_,h2,_⟩:=h
  simp[Jn h2]
theorem Yn{H:Type}{enc:TypeId×Value->H}{C:Checked}{os:Os}{f:FuncId}{fn:Func}{s:ChangeSpec}{conds:List PathCond}{n:Nat}{tb:TypeId}
 (own:ownKnob C.prog.godebug=none) (started:os.Started) (Xn:C.prog.inits.idxOf? f=none) (eK:C.prog.funcs[f]?=some fn)
 (witness:∃ (w:World) (tape:Tape) (i:Input),w.os=os/\(w.forCall tape i).Shaped C.prog/\i.vars=[]/\Input.okWide C.prog (w.forCall tape i) .any w.heap.size f i/\
   s.pre6 enc C.prog fn conds false (w.forCall tape i).memory i.args/\({}:Assume).holds C.prog (lone (Frame.enter C.prog f i.args .normal) [] (w.forCall tape i)))
 (hl:laidOutB C.prog=true) (fH:∀ t∈fn.params.toList,lY C.prog n t=true/\C.prog.readableRec t=true/\t<C.prog.types.size) (BB:fn.resultTypes= #[tb]) (kI:C.prog.underlying tb=some .bool)
 (OB:s.vars=[]) (hs:∀ ds:List (DataW H),ds.length=fn.params.toList.length->(s.fn H ds).results=[.lit (.bool true)]/\(s.fn H ds).args=ds/\(s.fn H ds).vars=[])
 (uv:∀ (W:World) (args:Array Value) (xs:List V),xl C.prog n fn.params.toList xs->u3 (l6 W) xs args.toList->Calls C.prog f args W fun e W'=>e=.returned (.bool true)/\Below W.heap.size W W'):
 ReturnsInHanded {} C os f .any (s.pre6 enc C.prog fn conds false) (s.post enc C.prog fn false true false false):=by
 refine returnsInHanded_of_change own started Xn eK witness ?_
 intro W base args ds gs before cV hW _ _
 have G2:=hW
 obtain⟨p,q,hA,hV,rfl,_,_⟩:=hW
 rw[OB]at hV
 obtain⟨rfl,rfl⟩:=trodVars_none hV
 simp only[List.append_nil]at G2
 have ae:∀ y∈p,y.block<W.heap.size:=fun y hy=>by simpa using G2.lt y hy
 obtain⟨xs,h1,h2⟩:=Sl (vs:=args.toList) (ts:=fn.params.toList) (fun t ht=>(fH t ht).1) (fun j t v h h'=>cV j t v (by simpa using h) (by simpa using h')) hA
 obtain⟨e1,e2,e3⟩:=hs ds (Jn hA)
 refine(uv W args xs h1 h2).mono fun e W' ⟨he,hn⟩=>?_
 subst he
 refine⟨_,rfl,ds,[],p,[],p,[],G2,?_,?_,?_,hn.frame _,fun h=>by cases h⟩
 ·rw[List.append_nil,e1,BB]
  exact trodAll_mk1 (shut_bool kI _)
 ·rw[List.append_nil,e2]
  exact Sk hl hn (fun t ht=>(fH t ht).2) hA ae
 ·rw[List.append_nil,e3,OB]
  rfl
open Go Go.Proofs Go.Proofs.YtepaolcgegdpoaaGreat Go.RowKit Go.ChangeShapes
theorem ZN:ownKnob Tryz.prog.godebug=none:=by kernel_rfl
theorem ZO:laidOutB Tryz.prog=true:=by kernel_rfl
end Go.Eng
set_option linter.constructorNameAsVariable false
set_option maxRecDepth 100000
namespace Go.Eng
open Go Go.Proofs
theorem mN{n:Nat}{xs:List V}(h:gw Tryz.prog (n+1) 3 xs):∃ k,xs=[vInt k]/\(Lit.int .i64 k).wf=true:=by
 unfold gw at h
 simp only[Tryz.underlying3]at h
 exact h
theorem LY{α β:Type}{f:α->β}{P:β->Prop}(h:∀ y,P y->∃ x,y=f x):∀ {l:List β},(∀ y∈l,P y)->∃ m:List α,l=m.map f
 |[],_=>⟨[],rfl⟩
 |y::r,hl=>by
  obtain⟨x,rfl⟩:=h y (hl y (by simp))
  obtain⟨m,rfl⟩:=LY h (l:=r) fun z hz=>hl z (by simp[hz])
  exact⟨x::m,rfl⟩
theorem JK{n:Nat}{T e:TypeId}{xs:List V}{α:Type}{f:α->V}(hu:Tryz.prog.underlying T=some (.slice e))(h:gw Tryz.prog (n+1) T xs)
 (he:∀ ys,gw Tryz.prog n e ys->∃ a,ov (ki Tryz.prog e) ys=f a):∃ l:List α,xs=[.sl (l.map f)]:=by
 unfold gw at h
 simp only[hu]at h
 obtain⟨ls,rfl,_,h3⟩:=h
 obtain⟨m,hm⟩:=LY (f:=f) (P:=fun y=>∃ d,y=f d) (fun y h=>h) (l:=ls.map (ov (ki Tryz.prog e))) fun y hy=>by
  obtain⟨z,hz,rfl⟩:=List.mem_map.1 hy
  exact he z (h3 z hz)
 exact⟨m,by rw[hm]⟩
theorem adk{f:FuncId}{s:PSpec}(h:aZ Tryz.prog f s){W:World}{args:Array Value}{xs:List V}(hr:u3 (l6 W) xs args.toList)(hp:s.pre xs)(ht:s.fn xs=.bool true):
 Calls Tryz.prog f args W fun e W'=>e=.returned (.bool true)/\RowKit.Below W.heap.size W W':=by
 refine(h.calls (l6 W) W xs args (fun b off v hv=>hv) hr hp).mono ?_
 rintro e W' ⟨v,m',rfl,hb,_,_,hv⟩
 rw[ht]at hv
 cases hv
 exact⟨rfl,hb⟩
end Go.Eng
set_option maxRecDepth 100000
namespace Go.Eng
open Go Go.Proofs
theorem ad1:ki Tryz.prog 25=true:=by kernel_rfl
theorem Ss:ki Tryz.prog 100=true:=by kernel_rfl
theorem ad2:ki Tryz.prog 131=true:=by kernel_rfl
theorem JM{n:Nat}{xs:List V}(h:gw Tryz.prog (n+2) 100 xs):∃ x:R5,.agg xs=qI x:=by
 unfold gw at h
 simp only[Tryz.underlying100]at h
 obtain⟨x1,y,rfl,h1,x2,y2,rfl,h2,x3,y3,rfl,h3,x4,y4,rfl,h4,x5,y5,rfl,h5,rfl⟩:=h
 obtain⟨a,rfl,_⟩:=mN h1
 obtain⟨b,rfl,_⟩:=mN h2
 obtain⟨c,rfl,_⟩:=mN h3
 obtain⟨d,rfl,_⟩:=mN h4
 obtain⟨e,rfl,_⟩:=mN h5
 exact⟨⟨a,b,c,d,e⟩,rfl⟩
theorem T8{n:Nat}{xs:List V}(h:gw Tryz.prog (n+2) 131 xs):∃ x:R7,.agg xs=wP x:=by
 unfold gw at h
 simp only[Tryz.underlying131]at h
 obtain⟨x1,y,rfl,h1,x2,y2,rfl,h2,x3,y3,rfl,h3,x4,y4,rfl,h4,x5,y5,rfl,h5,x6,y6,rfl,h6,x7,y7,rfl,h7,rfl⟩:=h
 obtain⟨a,rfl,_⟩:=mN h1
 obtain⟨b,rfl,_⟩:=mN h2
 obtain⟨c,rfl,_⟩:=mN h3
 obtain⟨d,rfl,_⟩:=mN h4
 obtain⟨e,rfl,_⟩:=mN h5
 obtain⟨f,rfl,_⟩:=mN h6
 obtain⟨g,rfl,_⟩:=mN h7
 exact⟨⟨a,b,c,d,e,f,g⟩,rfl⟩
theorem JL{n:Nat}{xs:List V}(h:gw Tryz.prog (n+3) 22 xs):∃ l:List R5,xs=[.sl (l.map qI)]:=
 JK Tryz.underlying22 h fun ys hy=>by
  obtain⟨x,hx⟩:=JM hy
  rw[Ss]
  exact⟨x,hx⟩
theorem T7{n:Nat}{xs:List V}(h:gw Tryz.prog (n+3) 23 xs):∃ l:List R7,xs=[.sl (l.map wP)]:=
 JK Tryz.underlying23 h fun ys hy=>by
  obtain⟨x,hx⟩:=T8 hy
  rw[ad2]
  exact⟨x,hx⟩
theorem T6{n:Nat}{xs:List V}(h:gw Tryz.prog (n+4) 25 xs):∃ r:Raw,.agg xs=uJ r:=by
 unfold gw at h
 simp only[Tryz.underlying25]at h
 obtain⟨x1,y,rfl,h1,x2,y2,rfl,h2,x3,y3,rfl,h3,rfl⟩:=h
 obtain⟨a,rfl⟩:=JL h1
 obtain⟨b,rfl⟩:=T7 h2
 obtain⟨c,rfl⟩:=JL h3
 exact⟨⟨a,b,c⟩,rfl⟩
theorem adM{x:V}(h:Dy Tryz.prog 6 25 x):∃ o:Raw,x=uJ o:=by
 obtain⟨xs,h1,rfl⟩:=h
 rw[ad1]
 exact T6 h1
theorem acy(r:Raw):Cu (uJ r)=r:=by
 cases r;simp only[uJ,Cu,acC,acA]
end Go.Eng
set_option linter.constructorNameAsVariable false
namespace Go.Eng
open Go Go.Proofs Go.Proofs.YtepaolcgegdpoaaGreat Go.RowKit Go.ChangeShapes
theorem XS(hc:∀ (W:World) (args:Array Value) (xs:List V),xl Tryz.prog 6 Tryz.f13.params.toList xs->u3 (l6 W) xs args.toList->Calls Tryz.prog 13 args W fun e W'=>e=.returned (.bool true)/\Below W.heap.size W W')
 (os:Os) (started:os.Started) (H:Type) (enc:TypeId×Value->H):
 ReturnsInHanded {} Tryz.checked os 13 .any (Rows.loanNarrowsSpec.pre6 enc Tryz.prog Tryz.f13 Rows.loanNarrowsRow.domain false) (Rows.loanNarrowsSpec.post enc Tryz.prog Tryz.f13 false true false false):=by
 refine Yn (C:=Tryz.checked) (n:=6) (tb:=4) ZN started (by kernel_rfl) Tryz.func13
  (ChangeSpec.witness6 (enc:=enc) (C:=Tryz.checked) false ⟨#[],#[.agg #[.slice none 0 0,.slice none 0 0,.slice none 0 0],.agg #[.int .i64 0,.int .i64 0,.int .i64 0,.int .i64 0,.int .i64 0]],[]⟩ 8 (by kernel_rfl) (by kernel_rfl) (by kernel_rfl) (by kernel_rfl))
  ZO ?_ (by kernel_rfl) (by kernel_rfl) rfl ?_ hc
 ·have h:(Tryz.f13.params.toList.all fun t=>lY Tryz.prog 6 t&&Tryz.prog.readableRec t&&decide (t<Tryz.prog.types.size))=true:=by kernel_rfl
  intro t ht
  have :=List.all_eq_true.1 h t ht
  simp only[Bool.and_eq_true,decide_eq_true_eq]at this
  exact⟨this.1.1,this.1.2,this.2⟩
 ·intro ds nl
  have hl:Tryz.f13.params.toList.length=2:=by kernel_rfl
  rw[hl]at nl
  match ds,nl with
  |[d1,d2],_=>exact⟨rfl,rfl,rfl⟩
theorem XR(hc:∀ (W:World) (args:Array Value) (xs:List V),xl Tryz.prog 6 Tryz.f13.params.toList xs->u3 (l6 W) xs args.toList->Calls Tryz.prog 13 args W fun e W'=>e=.returned (.bool true)/\Below W.heap.size W W'):
 Rows.LoanNarrowsSaid:=
 OpenClaim.holds_of_wide 13 Tryz.f13 rfl rfl rfl rfl rfl rfl rfl ⟨rfl,rfl,rfl,rfl,rfl⟩ rfl rfl rfl rfl rfl (by kernel_rfl) Tryz.func13 (by kernel_rfl)
  (of_decide_eq_true (by kernel_rfl)) (by unfold Func.isWrapper;first | (rw[if_pos (by decide+kernel)];kernel_rfl) | (rw[if_neg (by decide+kernel)];exact⟨rfl,rfl⟩))
  (fun os started H enc _=>XS hc os started H enc)
end Go.Eng
set_option maxRecDepth 100000
namespace Go.Eng
open Go Go.Proofs Go.Proofs.YtepaolcgegdpoaaGreat
theorem adN{x:V}(h:Dy Tryz.prog 6 100 x):∃ o:R5,x=qI o:=by
 obtain⟨xs,h1,rfl⟩:=h
 rw[Ss]
 exact JM h1
theorem loanNarrows_holds:Rows.LoanNarrowsSaid:=
 XR fun W args xs ha hr=>by
  obtain⟨x,ys,rfl,h1,y,zs,rfl,h2,rfl⟩:=(show xl Tryz.prog 6 [25,100] xs from ha)
  obtain⟨l,rfl⟩:=adM h1
  obtain⟨o,rfl⟩:=adN h2
  exact adk VA hr ⟨congrArg uJ (acy l),rfl,trivial⟩ rfl
end Go.Eng
namespace Go.Proofs.YtepaolcgegdpoaaGreat
theorem loanNarrows_holds : Rows.LoanNarrowsSaid := Go.Eng.loanNarrows_holds
end Go.Proofs.YtepaolcgegdpoaaGreat
#print axioms Go.Proofs.YtepaolcgegdpoaaGreat.loanNarrows_holds
