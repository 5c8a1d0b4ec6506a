import Derived.Test.YtepaolcgegdpoaaGreatK15
import GoSem.ClaimChange
import Derived.DataReads
import Derived.ChangeReads
import Derived.ProofKit
import Derived.Carry
import Derived.Test.YtepaolcgegdpoaaGreatRows
import Derived.Test.YtepaolcgegdpoaaGreatChecked
/- LoanBack is proved: after the last day of all returns and receipts a paper is whole exactly if each leaf of it that some receipt has has its return, and its receipts lie in the chest then exactly if one of their leaves has none, at all arguments that the statement covers. -/
set_option linter.all false
namespace Go.Eng
open Go Go.Proofs
theorem R6:aZ Tryz.prog 18 ⟨fun xs=>xs=[],fun _=>.bool true,true⟩:=
 S7 (b:=.bool true) VQ (by
  intro fn h
  have e:Tryz.prog.funcs[18]?=some Tryz.f18:=Tryz.func18
  rw[e]at h
  obtain rfl:=Option.some.inj h
  exact(by kernel_rfl:(Tryz.f18.name== "runtime.NumGoroutine")=false)) (by decide) rfl
set_option maxRecDepth 10000
noncomputable section
structure N4 where
 (a b c d:Int)
 deriving Inhabited
def N6(x:N4):V:=.agg [vInt x.a,vInt x.b,vInt x.c,vInt x.d]
def Oh:V->N4
 | .agg [.int _ a,.int _ b,.int _ c,.int _ d]=>⟨a,b,c,d⟩
 |_=>default
def WX:En N4:=⟨N6,Oh⟩
attribute [go_sem] N6 Oh WX
@[go_sem] theorem agW(x:N4):(⟨x.a,x.b,x.c,x.d⟩:N4)=x:=rfl
def GI:Spec:=(⟨fun xs=>xs=[],fun _=>.bool true,true⟩:PSpec).toSpec
attribute [go_sem] GI
section
attribute [local irreducible] l3 gd aQ nT
theorem aas{l:Led}(aa:bE l){ds:List Int}(h:∀ d∈ds,0<=d/\d<=100000):gN l ds=0:=by
 rw[<-abz]
 unfold Gt
 rw[if_neg (by rw[CS.2 aa];decide),if_pos]
 rw[List.all_eq_true]
 intro d hd
 unfold dayB
 exact gm (h d hd).1 (h d hd).2
def K95:List (Nat×Spec):=[(19,PW),(20,GG),(15,pR),(18,GI)]
attribute [go_sem] K95
end
end
section
attribute [local irreducible] l3 gd l0 d0 cm bj bI cI
theorem yM{r:Raw}{m:Nat}{s:Sig}(h:s∈la r m):∃ j,j<m/\s=fc r j:=by
 obtain⟨j,hj,rfl⟩:=List.mem_map.1 h
 exact⟨j,List.mem_range.1 hj,rfl⟩
theorem HP(r:Raw){j:Nat}(hj:j<6):kC (fc r j)=true/\(fc r j).le<=bW (l0 r).ps (fc r j).pa:=by
 obtain⟨e,l1,l2,p1,p2⟩:=qk (rV (r5 r.ss j).b)
 have ml:=dg (n:=(r5 r.ss j).c) (m:=(ca (r5 r.ss j).b).lv) (by omega)
 have md:=dg (n:=(r5 r.ss j).d) (m:=200) (by decide)
 have me:=dg (n:=(r5 r.ss j).e) (m:=300) (by decide)
 have ez:0<=(fc r j).pe/\(fc r j).pe<=4:=by rw[HM];exact Tj _ _ _ _
 refine⟨?_,?_⟩
 ·have hb:kC (fc r j)=(cb (3*(j:Int)+3) 1 99999&&cb (fc r j).pe 0 99&&cb (ca (r5 r.ss j).b).id 1 999&&cb (1+aQ (r5 r.ss j).c (ca (r5 r.ss j).b).lv) 1 30&&dayB (aQ (r5 r.ss j).d 200)&&kZ (aQ (r5 r.ss j).e 300) 0):=rfl
  rw[hb,yF (by omega) (by omega),gm (by omega) (by omega),gm (by omega) (by omega),gm (by omega) (by omega),gm (by omega) (by omega)]
  unfold dayB
  rw[gm (by omega) (by omega)]
  rfl
 ·show 1+aQ (r5 r.ss j).c (ca (r5 r.ss j).b).lv<=bW (l0 r).ps (ca (r5 r.ss j).b).id
  rw[U5];omega
theorem C9(r:Raw):nS r<=6:=Nat.min_le_right _ _
theorem z6(r:Raw):(aH r).ps=(l0 r).ps:=rfl
theorem z5(r:Raw):(aH r).rs=bI r:=rfl
theorem xg(r:Raw):(aH r).ts=rets (cI r):=rfl
theorem uX(r:Raw):(aH r).ss=la r (nS r):=rfl
theorem XE{r:Raw}{t:Ret}(h:t∈(aH r).ts):t∈(l0 r).ts:=by
 rw[xg]at h
 obtain⟨q,hq,rfl⟩:=List.mem_map.1 h
 exact(yR r (yY r _)).subset (List.mem_map_of_mem (f:=(·.1)) ((show q∈fS (l0 r) (d0 r) (l0 r).ts.length by
  have :=(qa r).subset ((qb r).subset hq)
  rw[<-CD]at this
  exact this)))
theorem Em(r:Raw):bE (aH r) where
 ps:=(jn r).ps
 psn:=(jn r).psn
 rs:=(jn r).rs
 rsn:=(jn r).rsn
 ts:=(jn r).ts
 tsn:=(jn r).tsn
 ss:=by
  rw[rj,uX]
  refine⟨fun x hx=>?_,?_⟩
  ·obtain⟨j,hj,rfl⟩:=yM hx
   exact(HP r (Nat.lt_of_lt_of_le hj (C9 r))).1
  ·unfold la
   rw[List.pairwise_map]
   refine List.pairwise_lt_range.imp fun {a b} sS=>?_
   show 3*(a:Int)+3<3*(b:Int)+3
   omega
 ssn:=by rw[uX,HL];have:=C9 r;omega
 rl:=(jn r).rl
 sl:=fun j hj=>by
  have hm:=List.getElem_mem hj
  generalize (aH r).ss[j]=s at hm
  rw[uX]at hm
  obtain⟨i,hi,rfl⟩:=yM hm
  rw[z6]
  exact(HP r (Nat.lt_of_lt_of_le hi (C9 r))).2
 nd:=by
  have h0:=(jn r).nd
  unfold tX at h0 |-
  have e0:(a8 r).ss.map Sig.so=[]:=rfl
  rw[e0,List.append_nil]at h0
  rw[List.nodup_append]
  refine⟨h0,?_,?_⟩
  ·rw[uX]
   unfold la
   rw[List.map_map,List.nodup_iff_pairwise_ne,List.pairwise_map]
   refine List.pairwise_lt_range.imp fun {a b} sS=>?_
   show 3*(a:Int)+3≠3*(b:Int)+3
   omega
  ·intro a ha b hb e
   subst e
   obtain⟨s,hs,e⟩:=List.mem_map.1 hb
   rw[uX]at hs
   obtain⟨j,hj,rfl⟩:=yM hs
   have hs3:(fc r j).so=3*(j:Int)+3:=rfl
   rcases List.mem_append.1 ha with ha | ha
   ·obtain⟨y,hy,e2⟩:=List.mem_map.1 ha
    rw[z5]at hy
    obtain⟨⟨i,ei⟩,-⟩:=zw r y (hJ hy)
    omega
   ·obtain⟨y,hy,e2⟩:=List.mem_map.1 ha
    obtain⟨i,ei⟩:=U3 r y (XE hy)
    omega
theorem z2(r:Raw):aw (aH r) 900={ aw (a8 r) 900 with l:=aH r }:=by
 rw[XM];exact Ut _ _ _
theorem aan(x:Vw)(l':Led)(h:l'.ts=x.l.ts):gf { x with l:=l' }=gf x:=by
 funext a b
 unfold gf qV aD
 simp only[h]
theorem Tk(x:Vw)(l':Led)(h:l'.ts=x.l.ts):eC { x with l:=l' }=eC x:=by
 rw[za,za,aan x l' h]
theorem XG(r:Raw):eC (aw (aH r) 900)=none:=by
 rw[z2,Tk _ _ (by rw[r8,xg,o9])]
 exact CN r
theorem XI(r:Raw)(L:List Sig):fa (aw (aH r) 900) L=fa (aw (a8 r) 900) L:=by rw[z2];rfl
theorem Tx(r:Raw){L:List Sig}(hL:∀ s∈L,∃ j,s=fc r j):fa (aw (a8 r) 900) L=true:=by
 rw[NG]
 refine⟨fun s hs=>?_,fun i hi=>?_⟩
 ·obtain⟨j,rfl⟩:=hL s hs
  unfold eO
  rcases G6 r j with⟨-,h2⟩ | ⟨m,-,h1,-⟩
  ·rw[h2];simp[cv]
  ·rw[h1];simp
 ·obtain⟨h0,h1⟩:=(jN (a8 r) 900).tl i hi
  obtain⟨m,rfl⟩:∃ m:Nat,i=m:=⟨i.toNat,by omega⟩
  have hm:m<(cI r).length:=by rw[o9,gR]at h1;omega
  obtain⟨a,b⟩:=I8 r hL hm
  omega
theorem HO(r:Raw):∀ s∈fb (aH r) 900,∃ j,s=fc r j:=fun s hs=>by
 have h:=(List.mem_filter.1 hs).1
 rw[uX]at h
 obtain⟨j,-,e⟩:=yM h
 exact⟨j,e⟩
theorem XF(r:Raw):kz (aH r) 900=true:=by
 unfold kz
 rw[XG,r8,XI,Tx r (HO r)];rfl
theorem XK(r:Raw){ds:List Int}(h:∀ d∈ds,0<=d/\d<=100000):gN (aH r) ds=0:=aas (Em r) h
end
theorem at_max{day:Int}{y:Rec}:∀ (l:List Rec) (o:Option Rec),l.foldl (jb day) o=some y->(∀ z∈l,z.da<=day->z.da<=y.da)/\∀ w,o=some w->w.da<=y.da
 |[],o,h=>⟨fun z hz=>(nomatch hz),fun w hw=>by
  have :some w=some y:=hw.symm.trans h
  simp only[Option.some.injEq]at this
  subst this;exact Int.le_refl _⟩
 |x::l,o,h=>by
  obtain⟨h1,h2⟩:=at_max l (jb day o x) h
  unfold jb at h2
  by_cases hc:(decide (x.da<=day)&&(o.isNone||decide (x.da>=(o.getD zeroR).da)))=true
  ·have h3:=h2 x (by rw[if_pos hc])
   simp only[Bool.and_eq_true,decide_eq_true_eq,Bool.or_eq_true]at hc
   refine⟨fun z hz hd=>?_,fun w hw=>?_⟩
   ·rcases List.mem_cons.1 hz with rfl | hz
    ·exact h3
    ·exact h1 z hz hd
   ·subst hw
    rcases hc.2 with h4 | h4
    ·cases h4
    ·simp only[Option.getD_some]at h4;omega
  ·have hn:∀ w,o=some w->w.da<=y.da:=fun w hw=>h2 w (by rw[if_neg hc];exact hw)
   refine⟨fun z hz hd=>?_,hn⟩
   rcases List.mem_cons.1 hz with rfl | hz
   ·simp only[Bool.and_eq_true,decide_eq_true_eq,Bool.or_eq_true,not_and,not_or]at hc
    have h4:=hc hd
    cases o with
    |none=>exact(h4.1 rfl).elim
    |some w=>
     have :=hn w rfl
     have h5:=h4.2
     simp only[Option.getD_some]at h5
     omega
   ·exact h1 z hz hd
theorem at_none{day:Int}:∀ (l:List Rec) (o:Option Rec),l.foldl (jb day) o=none->o=none/\∀ z∈l,¬ z.da<=day
 |[],o,h=>⟨h,fun z hz=>(nomatch hz)⟩
 |x::l,o,h=>by
  obtain⟨h1,h2⟩:=at_none l (jb day o x) h
  unfold jb at h1
  split at h1
  ·cases h1
  ·rename_i hc
   refine⟨h1,fun z hz hd=>?_⟩
   rcases List.mem_cons.1 hz with rfl | hz
   ·subst h1
    simp[hd]at hc
   ·exact h2 z hz hd
def lF(l:Led)(x:Rec)(f:Int):Bool:=l.ts.any fun t=>t.re==x.so&&t.lv.contains f
def oP(l:Led)(x:Rec):Bool:=x.lv.all (lF l x)
def rB(l:Led)(pa:Int):Bool:=l.rs.all fun x=>x.pa != pa||oP l x
theorem Th{r:Raw}{q:Pq}(h:q∈cm r):q.1.hi<=300:=by
 have h1:=(List.mem_filter.1 (show q∈List.filter (ox (l0 r)) (((l0 r).ts.zip (d0 r)).take (l0 r).ts.length)from h)).1
 obtain⟨j,hj,ej⟩:=List.getElem_of_mem (List.mem_of_mem_take h1)
 have iQ:j<(l0 r).ts.length:=by simp at hj;omega
 rw[List.getElem_zip]at ej
 have dM:j<nT (r0 r):=by
  have :(l0 r).ts.length=nT (r0 r):=by show ((List.range _).map _).length=_;simp
  omega
 have e1:(l0 r).ts[j]=tM (r0 r) j:=by
  show ((List.range (nT (r0 r))).map (tM (r0 r)))[j]'(by simpa using dM)=_
  simp
 have h8:=rT (r0 r)
 have av:=(vY (wE dM) (show j<8 by omega)).2.2
 have Dg:=dg (n:=(r7 (r0 r).ts j).e) (m:=12) (by decide)
 have FH:(tM (r0 r) j).hi=dk (r0 r) j+aQ (r7 (r0 r).ts j).e 12:=rfl
 rw[e1]at ej
 subst ej
 show (tM (r0 r) j).hi<=300
 rw[FH];omega
theorem JY(r:Raw):∀ x∈(l0 r).rs,x.da<=160:=fun x hx=>by
 obtain⟨i,hi,rfl⟩:=List.getElem_of_mem hx
 obtain⟨e,h⟩:=wL r hi
 have h8:=ot (r0 r)
 rw[e]
 exact(p9 (r0 r) (show i<8 by omega)).2.2.1
theorem MT{da:Int}:∀ (os:List Rec) (h:Int),jx h da os<=h
 |[],h=>Int.le_refl _
 |o::os,h=>by
  show jx (if o.da>da then dh h o.da else h) da os<=h
  refine Int.le_trans (MT os _) ?_
  split
  ·unfold dh;split<;>omega
  ·exact Int.le_refl _
section
attribute [local irreducible] l3 gd l0 d0 cm bj bI cI
theorem XL(r:Raw)(q:Int×Int):be (aw (aH r) 900).bk q=be (aw (a8 r) 900).bk q:=by rw[z2]
theorem NR(r:Raw)(x:Rec)(f:Int):lF (aH r) x f=(be (aw (a8 r) 900).bk (x.so,f)).isSome:=by
 cases hb:be (aw (a8 r) 900).bk (x.so,f)with
 |some i=>
  obtain⟨j,rfl,hj,h1,h2⟩:=(jN (a8 r) 900).bk1 _ _ _ hb
  have gJ:=rE hj
  unfold lF
  rw[Option.isSome_some,List.any_eq_true]
  refine⟨aD (a8 r) j,?_,?_⟩
  ·rw[xg,<-o9,jL gJ];exact List.getElem_mem gJ
  ·rw[h1,List.contains_iff_mem.2 h2];simp
 |none=>
  rw[Option.isSome_none,Bool.eq_false_iff]
  intro h
  unfold lF at h
  rw[List.any_eq_true]at h
  obtain⟨t,ht,h⟩:=h
  rw[Bool.and_eq_true,beq_iff_eq,List.contains_iff_mem]at h
  rw[xg,<-o9]at ht
  obtain⟨j,hj,e⟩:=List.getElem_of_mem ht
  have :=(jN (a8 r) 900).bk2 j (CM r j hj) f (by rw[jL hj,e];exact h.2)
  rw[jL hj,e,h.1]at this
  have dr:be (ay (a8 r) 900 (a8 r).ts.length).bk (x.so,f)=none:=hb
  rw[dr]at this
  cases this
theorem XJ(r:Raw):(bu (aw (aH r) 900) 900).ds=dI (aw (a8 r) 900) (aw (a8 r) 900).ds (fb (aH r) 900):=by
 unfold bu
 rw[z2];rfl
theorem Ek(r:Raw){q:Int×Int}{i:Int}(h:be (aw (a8 r) 900).bk q=some i):(aV (bu (aw (aH r) 900) 900).ds i).1<=900/\(aV (bu (aw (aH r) 900) 900).ds i).2<=900:=by
 obtain⟨a,b⟩:=q
 obtain⟨m,rfl,hm,-,-⟩:=(jN (a8 r) 900).bk1 _ _ _ h
 have MH:=rE hm
 have lz:m<(cI r).length:=by rw[o9,gR]at MH;exact MH
 have Yx:=I8 r (HO r) lz
 have hq:=(qa r).subset ((qb r).subset (List.getElem_mem lz))
 have D3:=IT hq
 have hd:(jv r).getD m 0=(cI r)[m].2:=by rw[El];exact AY lz
 rw[XJ]
 have hl:=Dp (aw (a8 r) 900) m (Int.natCast_nonneg _) (fb (aH r) 900) (aw (a8 r) 900).ds
 obtain⟨x,hx,gp,Ag,kP⟩:=AO (jn r) hm
 obtain⟨_,et⟩:=uw (o9 r) lz
 have gu:=Th hq
 have h2:=hl.b2
 rw[kP]at h2
 have h3:=MT (da:=(an (a8 r) x).da) (cU (bd (a8 r) 900) (an (a8 r) x).pa (aD (a8 r) m).lv) (aD (a8 r) m).hi
 rw[et]at h3 h2
 refine⟨by rw[hd]at Yx;omega,?_⟩
 have h4:((lH (cI r)[m].1 (an (a8 r) x),jx (cI r)[m].1.hi (an (a8 r) x).da (cU (bd (a8 r) 900) (an (a8 r) x).pa (cI r)[m].1.lv)):Int×Int).2=jx (cI r)[m].1.hi (an (a8 r) x).da (cU (bd (a8 r) 900) (an (a8 r) x).pa (cI r)[m].1.lv):=rfl
 rw[h4]at h2
 omega
end
section
attribute [local irreducible] l3 gd l0 d0 cm bj bI cI
theorem Ej(r:Raw):bd (aH r) 900=bI r:=by
 unfold bd
 rw[z5,List.filter_eq_self]
 exact fun x hx=>Dx r x (hJ hx)
theorem MA{r:Raw}{x:Rec}(hx:x∈bI r):cO (bI r) x.so=some x:=by
 cases h:cO (bI r) x.so with
 |none=>
  unfold cO at h
  rw[List.find?_eq_none]at h
  have :=h x hx
  simp at this
 |some y=>
  obtain⟨h1,h2⟩:=p8 h
  rw[wK r (hJ h1) (hJ hx) h2]
theorem MB(r:Raw):eS (aH r) 900=0:=HG.1 (XF r)
theorem MC(r:Raw):gN (aH r) [900,900]=0:=XK r fun d hd=>by
 simp only[List.mem_cons,List.not_mem_nil,or_false,or_self]at hd;omega
theorem BW(r:Raw)(q:Int×Int):be (bu (aw (aH r) 900) 900).bk q=be (aw (a8 r) 900).bk q:=XL r q
theorem QU(r:Raw):(bu (aw (aH r) 900) 900).rs=bI r:=by
 show (aw (aH r) 900).rs=_
 rw[ql,Ej]
theorem UY{r:Raw}{x:Rec}(hx:x∈bI r):nh (aH r) x.so 900 900=0/\ni (aH r) x.so 900 900=if oP (aH r) x=true then 0 else 1:=by
 have he:nh (aH r) x.so 900 900=0:=by
  unfold nh
  rw[if_pos (MC r),ql,Ej,MA hx]
  exact MB r
 refine⟨he,?_⟩
 unfold ni
 rw[if_pos he,ql,Ej,MA hx]
 show dD _ x 900=_
 have qJ:=JY r x (hJ hx)
 have h1:qd (bu (aw (aH r) 900) 900) x 900=fun f=>!lF (aH r) x f:=by
  funext f
  unfold qd
  rw[BW,NR]
  cases hb:be (aw (a8 r) 900).bk (x.so,f)with
  |none=>rfl
  |some i=>
   have :=(Ek r hb).1
   simp;omega
 have h2:rX (bu (aw (aH r) 900) 900) x 900=fun f=>false:=by
  funext f
  unfold rX
  rw[BW]
  cases hb:be (aw (a8 r) 900).bk (x.so,f)with
  |none=>rfl
  |some i=>
   have :=(Ek r hb).2
   simp;omega
 unfold dD oP
 rw[if_neg (by omega),h1,h2,<-List.not_all_eq_any_not]
 cases x.lv.all (lF (aH r) x)with
 |true=>
  have :(x.lv.any fun _=>false)=false:=by rw[List.any_eq_false];intro f _;decide
  rw[this];rfl
 |false=>rfl
def m8(r:Raw)(pa f:Int):Bool:=match eJ (bI r) pa f 900 with
 |none=>true
 |some y=>lF (aH r) y f
theorem G5(r:Raw)(pa f:Int):jX (bu (aw (aH r) 900) 900) pa 900 f=m8 r pa f/\jh (bu (aw (aH r) 900) 900) pa 900 f=m8 r pa f:=by
 unfold jh jX rA m8
 rw[QU]
 cases av:eJ (bI r) pa f 900 with
 |none=>exact⟨rfl,rfl⟩
 |some y=>
  simp only[BW,NR]
  cases hb:be (aw (a8 r) 900).bk (y.so,f)with
  |none=>
   obtain⟨-,h1,-⟩:=zw r y (hJ (Gs av))
   have :(y.bo==0)=false:=by rw[beq_eq_false_iff_ne];omega
   simp only[List.getD_cons_zero,this,Bool.false_and,Option.isSome_none,and_self]
  |some i=>
   obtain⟨h1,h2⟩:=Ek r hb
   simp only[]
   rw[if_pos h1,if_neg (by omega)]
   exact⟨rfl,rfl⟩
theorem OI{p:Int->Bool}:∀ n:Nat,hG p n=n↔∀ j:Nat,1<=j->j<=n->p j=true
 | 0=>⟨fun _ j h1 h2=>by omega,fun _=>rfl⟩
 |n+1=>by
  have ih:=OI (p:=p) n
  have hle:=xR p n
  rw[hG]
  by_cases h:p ((n+1:Nat):Int)=true
  ·rw[if_pos h]
   constructor
   ·intro hc j h1 h2
    by_cases e:j=n+1
    ·subst e;exact h
    ·exact ih.1 (by omega) j h1 (by omega)
   ·intro hc
    have :=ih.2 fun j h1 h2=>hc j h1 (by omega)
    omega
  ·rw[if_neg h]
   constructor
   ·intro hc;omega
   ·intro hc;exact(h (hc (n+1) (by omega) (Nat.le_refl _))).elim
theorem EJ{pa f:Int}{x:Rec}:fY pa [f] x=true↔x.pa=pa/\f∈x.lv:=by
 unfold fY
 rw[Bool.and_eq_true,beq_iff_eq,List.any_eq_true]
 constructor
 ·rintro⟨h,n,h1,h2⟩
  rw[List.contains_iff_mem,List.mem_singleton]at h2
  subst h2;exact⟨h,h1⟩
 ·rintro⟨h1,h2⟩
  exact⟨h1,f,h2,by simp⟩
theorem NQ{r:Raw}{x y:Rec}(hx:x∈bI r)(hy:y∈bI r)(hp:x.pa=y.pa){f:Int}(h1:f∈x.lv)(h2:f∈y.lv)(h:x.so<y.so):x.da≠y.da/\lF (aH r) x f=true:=by
 obtain⟨k,i,dH,hi,ek,ei,cp⟩:=A5 hx hy h
 obtain⟨aG,n,hn,dX,du,-⟩:=F6 cp (by rw[ek,ei];exact hp) (by rw[ek];exact h1) (by rw[ei];exact h2)
 rw[ek,ei]at aG
 rw[ek]at dX
 refine⟨aG,?_⟩
 have D9:=IJ (List.getElem_mem hn) hx dX
 unfold lF
 rw[List.any_eq_true]
 refine⟨(bj r)[n].1,?_,?_⟩
 ·rw[xg];exact List.mem_map_of_mem (f:=(·.1)) D9
 ·rw[dX,List.contains_iff_mem.2 du];simp
theorem TG(r:Raw)(pa:Int)(ka:∀ x∈bI r,∀ f∈x.lv,1<=f/\(x.pa=pa->f<=bW (l0 r).ps pa)):
 (∀ j:Nat,1<=j->j<=(bW (l0 r).ps pa).toNat->m8 r pa j=true)↔rB (aH r) pa=true:=by
 unfold rB
 rw[z5,List.all_eq_true]
 constructor
 ·intro h x hx
  rw[Bool.or_eq_true]
  by_cases iK:x.pa=pa
  ·right
   unfold oP
   rw[List.all_eq_true]
   intro f hf
   obtain⟨f1,f2⟩:=ka x hx f hf
   have f3:=f2 iK
   have aa:=h f.toNat (by omega) (by omega)
   have ef:((f.toNat:Nat):Int)=f:=by omega
   rw[ef]at aa
   unfold m8 at aa
   have L':x∈cU (bI r) pa [f]:=List.mem_filter.2 ⟨hx,EJ.2 ⟨iK,hf⟩⟩
   have qJ:=JY r x (hJ hx)
   cases av:eJ (bI r) pa f 900 with
   |none=>exact((at_none _ _ av).2 x L' (by omega)).elim
   |some y=>
    rw[av]at aa
    have wY:y∈cU (bI r) pa [f]:=by
     rcases at_fold _ _ av with h1 | h1
     ·exact h1
     ·cases h1
    have hy:=(List.mem_filter.1 wY).1
    obtain⟨yu,yf⟩:=EJ.1 (List.mem_filter.1 wY).2
    have agI:=(at_max _ _ av).1 x L' (by omega)
    rcases Int.lt_trichotomy x.so y.so with h1 | h1 | h1
    ·exact(NQ hx hy (by rw[iK,yu]) hf yf h1).2
    ·have:x=y:=wK r (hJ hx) (hJ hy) h1
     subst this;exact aa
    ·have h2:=(NQ hy hx (by rw[iK,yu]) yf hf h1).1
     have h3:=Ga hy hx h1
     omega
  ·left;simp[iK]
 ·intro h j h1 h2
  unfold m8
  cases av:eJ (bI r) pa j 900 with
  |none=>rfl
  |some y=>
   have wY:y∈cU (bI r) pa [(j:Int)]:=by
    rcases at_fold _ _ av with h1 | h1
    ·exact h1
    ·cases h1
   have hy:=(List.mem_filter.1 wY).1
   obtain⟨yu,yf⟩:=EJ.1 (List.mem_filter.1 wY).2
   have :=h y hy
   rw[Bool.or_eq_true]at this
   rcases this with h3 | h3
   ·rw[yu]at h3;simp at h3
   ·unfold oP at h3
    rw[List.all_eq_true]at h3
    exact h3 _ yf
theorem Qn(r:Raw){pa:Int}(h0:bW (l0 r).ps pa≠0)(ka:∀ x∈bI r,∀ f∈x.lv,1<=f/\(x.pa=pa->f<=bW (l0 r).ps pa)):
 mN (aH r) pa 900 900=0/\mO (aH r) pa 900 900=if rB (aH r) pa=true then 1 else 0:=by
 have he:mN (aH r) pa 900 900=0:=by
  unfold mN
  rw[if_pos (MC r),z6,if_neg h0]
  exact MB r
 refine⟨he,?_⟩
 unfold mO
 rw[if_pos he,z6]
 have e1:jh (bu (aw (aH r) 900) 900) pa 900=m8 r pa:=by funext f;exact(G5 r pa f).2
 have e2:jX (bu (aw (aH r) 900) 900) pa 900=m8 r pa:=by funext f;exact(G5 r pa f).1
 rw[e1,e2]
 have D3:=JE (Em r) pa
 rw[z6]at D3
 have hle:=xR (m8 r pa) (bW (l0 r).ps pa).toNat
 have As:=OI (p:=m8 r pa) (bW (l0 r).ps pa).toNat
 rw[TG r pa ka]at As
 unfold tw
 by_cases hw:rB (aH r) pa=true
 ·rw[if_pos hw,if_pos]
  have :=As.2 hw
  omega
 ·rw[if_neg hw,if_neg,if_pos]
  ·have:¬ hG (m8 r pa) (bW (l0 r).ps pa).toNat=((bW (l0 r).ps pa).toNat:Int):=fun h=>hw (As.1 h)
   omega
  ·intro h
   exact hw (As.1 (by omega))
end
noncomputable section
def xJ(l:Led)(x:Rec)(f:Int)(s:Nat):Bool:=(l.ts.take s).any fun t=>t.re==x.so&&t.lv.contains f
def xY(l:Led)(x:Rec)(s:Nat):Bool:=(x.lv.take s).all (lF l x)
def vP(l:Led)(pa:Int)(s:Nat):Bool:=(l.rs.take s).all fun x=>x.pa != pa||oP l x
theorem abI{α:Type}{p:α->Bool}{l:List α}{i:Nat}(h:i<l.length):(l.take (i+1)).any p=((l.take i).any p||p l[i]):=by
 rw[List.take_add_one,List.getElem?_eq_getElem h,List.any_append];simp
theorem PD{α:Type}{p:α->Bool}{l:List α}{i:Nat}(h:i<l.length):(l.take (i+1)).all p=((l.take i).all p&&p l[i]):=by
 rw[List.take_add_one,List.getElem?_eq_getElem h,List.all_append];simp
theorem ZW(l:Led)(x:Rec)(f:Int):xJ l x f l.ts.length=lF l x f:=by unfold xJ lF;rw[List.take_length]
theorem my(l:Led)(x:Rec):xY l x x.lv.length=oP l x:=by unfold xY oP;rw[List.take_length]
theorem tQ(l:Led)(pa:Int):vP l pa l.rs.length=rB l pa:=by unfold vP rB;rw[List.take_length]
theorem UZ(r:Raw)(pa:Int):∀ x∈bI r,∀ f∈x.lv,1<=f/\(x.pa=pa->f<=bW (l0 r).ps pa):=by
 intro x hx f hf
 obtain⟨i,hi,rfl⟩:=List.getElem_of_mem (hJ hx)
 have h1:=mA (qo r).rs hi
 have h2:=(qo r).rl i hi
 unfold dJ at h1
 simp only[Bool.and_eq_true]at h1
 obtain⟨a1,a2,a3,a4⟩:=ov.1 h1.1.1.2
 obtain⟨j,hj,rfl⟩:=List.getElem_of_mem hf
 have h3:=a4 j hj
 unfold cb at h3
 simp only[Bool.and_eq_true,decide_eq_true_eq]at h3
 refine⟨h3.1,fun e=>?_⟩
 rw[e]at h2
 refine Int.le_trans ?_ h2
 unfold ow
 rw[cz (show (l0 r).rs[i].lv.length-1<(l0 r).rs[i].lv.length by omega)]
 by_cases e2:j=(l0 r).rs[i].lv.length-1
 ·subst e2;exact Int.le_refl _
 ·exact Int.le_of_lt ((List.pairwise_iff_getElem.1 (SL a3)) j _ hj (by omega) (by omega))
theorem XH(r:Raw):∀ p∈(aH r).ps,bW (l0 r).ps p.id≠0:=by
 intro p hp
 have h:p∈mps:=hp
 have :=qk h
 show bW mps p.id≠0
 omega
section
attribute [local irreducible] l3 gd aQ nT l0 d0 cm bj bI cI aH jv
def K99:List (Nat×Spec):=[(14,S14),(15,pR),(16,S16),(17,S17),(18,GI)]
theorem acx:KS K99:=tc Sm.sound<|tc wh.sound<|tc Sg.sound<|tc R9.sound<|tc R6.sound<|tn
attribute [go_sem] K99
@[go_sem] def P3:PSpec:=p1 sd (fun _=>True) (fun _=>.bool true) true
@[go_sem] def S3:Spec:=P3.toSpec
set_option maxHeartbeats 4000000 in
theorem s3:aZ Tryz.prog 3 P3:=by
 refine fQ (rs:=[.tmp 2]) Tryz.func3 Tryz.ntmps3 fun r hp hw=>?_
 have hP:=fU
 simp only[sd]at hw |-
 have hΓ:=acx
 have aa:=Em r
 have b0:=aa.psn
 have b1:=aa.rsn
 have b2:=aa.tsn
 have c0:(aH r).ps.length<=maxLen:=by unfold maxLen;omega
 have c1:(aH r).rs.length<=maxLen:=by unfold maxLen;omega
 have c2:(aH r).ts.length<=maxLen:=by unfold maxLen;omega
 repeat refine sq ?_
 refine rx hΓ [1] [[1,0]] (fun K' hK=>by simp only[go_sem];exact aq) ?_
 repeat refine sq ?_
 refine rx hΓ [3] [[3,0]] (fun K' hK=>by simp only[go_sem];exact aq) ?_
 repeat refine sq ?_
 refine rx hΓ [3,5] [[3,0]] (fun K' hK=>by simp only[go_sem];exact aq) ?_
 repeat refine sq ?_
 refine aR ?_
 repeat refine sq ?_
 refine cr (fun s:Nat=>[(5,⟨true,.v (vInt s)⟩)]) (fun s=>[]) (fun s=>s<=(aH r).ps.length) (fun s=>(aH r).ps.length-s) 0 ?_ ?_ ?_ ?_
 ·exact Nat.zero_le _
 ·rfl
 ·rfl
 rintro i hi
 simp only[go_sem]
 repeat refine sq ?_
 refine rx hΓ [3,5,26] [[3,0]] (fun K' hK=>by simp only[go_sem];exact aq) ?_
 repeat refine sq ?_
 refine aB (fun hb=>?_) fun hb=>?_
 ·have ab:i<(aH r).ps.length:=by simpa using hb
  have ao:(i:Int)<(aH r).ps.length:=by omega
  clear hb
  have X0:=XH r _ (List.getElem_mem ab)
  repeat refine sq ?_
  refine aJ ?_
  repeat refine sq ?_
  refine aR ?_
  repeat refine sq ?_
  refine rx hΓ [3,5,6] [[3,0]] (fun K' hK=>by simp only[go_sem,ah ab,ai,aj,ao];exact aq) ?_
  repeat refine sq ?_
  refine rx hΓ [3,5,6,7] [[3,0]] (fun K' hK=>by simp only[go_sem,ah ab,ai,aj,ao];exact aq) ?_
  repeat refine sq ?_
  refine aR ?_
  repeat refine sq ?_
  refine cr (fun s:Nat=>[(7,⟨true,.v (vInt s)⟩),(6,⟨true,.v (.bool (vP (aH r) (aH r).ps[i].id s))⟩)]) (fun s=>[]) (fun s=>s<=(aH r).rs.length) (fun s=>(aH r).rs.length-s) 0 ?_ ?_ ?_ ?_
  ·exact Nat.zero_le _
  ·rfl
  ·rfl
  rintro i1 hi
  simp only[go_sem]
  repeat refine sq ?_
  refine rx hΓ [3,5,6,7,33] [[3,0]] (fun K' hK=>by simp only[go_sem,ah ab,ai,aj,ao];exact aq) ?_
  repeat refine sq ?_
  refine aB (fun hb=>?_) fun hb=>?_
  ·have aK:i1<(aH r).rs.length:=by simpa using hb
   have ba:(i1:Int)<(aH r).rs.length:=by omega
   clear hb
   have hX:(aH r).rs[i1]∈bI r:=by rw[<-z5];exact List.getElem_mem aK
   have Zd:(aH r).rs[i1].lv.length<=maxLen:=by
    have h1:=mA aa.rs aK
    unfold dJ at h1
    simp only[Bool.and_eq_true]at h1
    have :=(ov.1 h1.1.1.2).2.1
    unfold maxLen;omega
   have kK:vP (aH r) (aH r).ps[i].id (i1+1)=(vP (aH r) (aH r).ps[i].id i1&&((aH r).rs[i1].pa != (aH r).ps[i].id||oP (aH r) (aH r).rs[i1])):=PD aK
   obtain⟨l5,jq⟩:=UY hX
   repeat refine sq ?_
   refine aJ ?_
   repeat refine sq ?_
   refine aR ?_
   repeat refine sq ?_
   refine rx hΓ [3,5,6,7,8] [[3,0],[8,0]] (fun K' hK=>by simp only[go_sem,ah ab,ai,aj,ao,ah aK,ai,aj,ba,ah aK,ba,ai,aj,List.length_map];exact aq) ?_
   repeat refine sq ?_
   refine rx hΓ [3,5,6,7,8,9] [[3,0],[8,0]] (fun K' hK=>by simp only[go_sem,ah ab,ai,aj,ao,ah aK,ai,aj,ba];exact aq) ?_
   repeat refine sq ?_
   refine rx hΓ [3,5,6,7,8,9,10] [[3,0],[8,0]] (fun K' hK=>by simp only[go_sem,ah ab,ai,aj,ao,ah aK,ai,aj,ba];exact aq) ?_
   repeat refine sq ?_
   refine aR ?_
   repeat refine sq ?_
   refine cr (fun s:Nat=>[(10,⟨true,.v (vInt s)⟩),(9,⟨true,.v (.bool (xY (aH r) (aH r).rs[i1] s))⟩)]) (fun s=>[]) (fun s=>s<=(aH r).rs[i1].lv.length) (fun s=>(aH r).rs[i1].lv.length-s) 0 ?_ ?_ ?_ ?_
   ·exact Nat.zero_le _
   ·rfl
   ·rfl
   rintro i2 hi
   simp only[go_sem]
   repeat refine sq ?_
   refine rx hΓ [3,5,6,7,8,9,10,45] [[3,0],[8,0]] (fun K' hK=>by simp only[go_sem,ah ab,ai,aj,ao,ah aK,ai,aj,ba];exact aq) ?_
   repeat refine sq ?_
   refine aB (fun hb=>?_) fun hb=>?_
   ·have bN:i2<(aH r).rs[i1].lv.length:=by simpa using hb
    have dZ:(i2:Int)<(aH r).rs[i1].lv.length:=by omega
    clear hb
    have vh:xY (aH r) (aH r).rs[i1] (i2+1)=(xY (aH r) (aH r).rs[i1] i2&&lF (aH r) (aH r).rs[i1] (aH r).rs[i1].lv[i2]):=PD bN
    repeat refine sq ?_
    refine aJ ?_
    repeat refine sq ?_
    refine aR ?_
    repeat refine sq ?_
    refine rx hΓ [3,5,6,7,8,9,10,11] [[3,0],[8,0]] (fun K' hK=>by simp only[go_sem,ah ab,ai,aj,ao,ah aK,ai,aj,ba,ah bN,ai,aj,dZ];exact aq) ?_
    repeat refine sq ?_
    refine rx hΓ [3,5,6,7,8,9,10,11,12] [[3,0],[8,0]] (fun K' hK=>by simp only[go_sem,ah ab,ai,aj,ao,ah aK,ai,aj,ba,ah bN,ai,aj,dZ];exact aq) ?_
    repeat refine sq ?_
    refine aR ?_
    repeat refine sq ?_
    refine cr (fun s:Nat=>[(12,⟨true,.v (vInt s)⟩),(11,⟨true,.v (.bool (xJ (aH r) (aH r).rs[i1] (aH r).rs[i1].lv[i2] s))⟩)]) (fun s=>[]) (fun s=>s<=(aH r).ts.length) (fun s=>(aH r).ts.length-s) 0 ?_ ?_ ?_ ?_
    ·exact Nat.zero_le _
    ·rfl
    ·rfl
    rintro i3 hi
    simp only[go_sem]
    repeat refine sq ?_
    refine rx hΓ [3,5,6,7,8,9,10,11,12,52] [[3,0],[8,0]] (fun K' hK=>by simp only[go_sem,ah ab,ai,aj,ao,ah aK,ai,aj,ba,ah bN,ai,aj,dZ];exact aq) ?_
    repeat refine sq ?_
    refine aB (fun hb=>?_) fun hb=>?_
    ·have fX:i3<(aH r).ts.length:=by simpa using hb
     have qD:(i3:Int)<(aH r).ts.length:=by omega
     clear hb
     have lB:xJ (aH r) (aH r).rs[i1] (aH r).rs[i1].lv[i2] (i3+1)=(xJ (aH r) (aH r).rs[i1] (aH r).rs[i1].lv[i2] i3||((aH r).ts[i3].re==(aH r).rs[i1].so&&(aH r).ts[i3].lv.contains (aH r).rs[i1].lv[i2])):=abI fX
     repeat refine sq ?_
     refine aJ ?_
     repeat refine sq ?_
     refine aR ?_
     repeat refine sq ?_
     refine oM hΓ hP [[],[0],[0,1],[0,1,2],[0,1],u5,u6,u7,[0,1],[0,1,8],cB,fm,dO,kx,dO,vV,u16,lR,dO,[0,1,2,3,4,5,6,7,8,9,10,11,18],dO,[0,1,2,3,4,5,6,7,8,9,10,11,18,19,20],[0,1,2,3,4,5,6,7,8,9,10,11,18,19,20,21],rD,BS,vT,He] (by kernel_rfl) fun K' hK=>?_
     simp only[go_sem,ah ab,ai,aj,ao,ah aK,ai,aj,ba,ah bN,ai,aj,dZ,ah fX,ai,aj,qD,ah fX,qD,ah bN,dZ,ai,aj,List.length_map]
     repeat (refine⟨ak,?_⟩)
     first | refine⟨by rfl,?_⟩ | skip
     refine hK _ ?_
     clear K' hK
     simp only[go_sem]
     refine kp [3,5,6,7,8,9,10,11,12] [[3,0],[8,0]] ?_
     repeat refine sq ?_
     refine aS hΓ fun K' hK=>?_
     simp only[go_sem,ah ab,ai,aj,ao,ah aK,ai,aj,ba,ah bN,ai,aj,dZ,ah fX,ai,aj,qD]
     repeat (refine⟨ak,?_⟩)
     refine hK _ ?_
     clear K' hK
     simp only[go_sem]
     refine⟨i3+1,fX,by(show (aH r).ts.length-(i3+1)<(aH r).ts.length-i3;omega),?_⟩
     refine bg [3,5,6,7,8,9,10,11,12] [[3,0],[8,0]] ?_ ?_<;>simp only[go_sem,a7 fX c2,bb,lB]
    ·have xt:i3=(aH r).ts.length:=by
      have :¬ (i3:Int)<(aH r).ts.length:=by simpa using hb
      omega
     clear hb
     subst xt
     repeat refine sq ?_
     refine bR ?_
     simp only[go_sem]
     refine kp [3,5,6,7,8,9,10,11] [[3,0],[8,0]] ?_
     repeat refine sq ?_
     refine aS hΓ fun K' hK=>?_
     simp only[go_sem,ah ab,ai,aj,ao,ah aK,ai,aj,ba,ah bN,ai,aj,dZ,ZW]
     repeat (refine⟨ak,?_⟩)
     refine hK _ ?_
     clear K' hK
     simp only[go_sem]
     refine kp [3,5,6,7,8,9,10] [[3,0],[8,0]] ?_
     repeat refine sq ?_
     refine aS hΓ fun K' hK=>?_
     simp only[go_sem,ah ab,ai,aj,ao,ah aK,ai,aj,ba,ah bN,ai,aj,dZ]
     repeat (refine⟨ak,?_⟩)
     refine hK _ ?_
     clear K' hK
     simp only[go_sem]
     refine⟨i2+1,bN,by(show (aH r).rs[i1].lv.length-(i2+1)<(aH r).rs[i1].lv.length-i2;omega),?_⟩
     refine bg [3,5,6,7,8,9,10] [[3,0],[8,0]] ?_ ?_<;>simp only[go_sem,a7 bN Zd,bb,vh]
   ·have nD:i2=(aH r).rs[i1].lv.length:=by
     have :¬ (i2:Int)<(aH r).rs[i1].lv.length:=by simpa using hb
     omega
    clear hb
    subst nD
    repeat refine sq ?_
    refine bR ?_
    simp only[go_sem]
    refine kp [3,5,6,7,8,9] [[3,0],[8,0]] ?_
    rcases aI:oP (aH r) (aH r).rs[i1]with _ | _
    ·rw[aI]at jq kK
     simp only[Bool.false_eq_true,if_false]at jq
     repeat refine sq ?_
     refine rx hΓ [3,5,6,7,8,9,13,14] [[3,0],[8,0]] (fun K' hK=>by simp only[go_sem,ah ab,ai,aj,ao,ah aK,ai,aj,ba,l5,jq,my,aI];exact aq) ?_
     repeat refine sq ?_
     refine rx hΓ [3,5,6,7,8,9,103] [[3,0],[8,0]] (fun K' hK=>by simp only[go_sem,ah ab,ai,aj,ao,ah aK,ai,aj,ba,l5,jq,my,aI];exact aq) ?_
     repeat refine sq ?_
     refine aB (fun hb=>?_) fun hb=>?_
     ·cases hb
     ·repeat refine sq ?_
      refine aJ ?_
      repeat refine sq ?_
      refine dx hΓ hP [[],[0],[],[2],[],[2,3,4],[2,3,4,5],[2,3,4,5,6],u8] [3,5,6,7,9,112] [[3,0]] (by kernel_rfl) (fun K' hK=>by simp only[go_sem,ah ab,ai,aj,ao,ah aK,ai,aj,ba,l5,jq,my,aI,ah ab,ao,ai,aj,List.length_map];exact jC) ?_
      repeat refine sq ?_
      refine aB (fun hb=>?_) fun hb=>?_
      ·repeat refine sq ?_
       have ez:((aH r).rs[i1].pa != (aH r).ps[i].id)=false:=by rw[bne,show ((aH r).rs[i1].pa==(aH r).ps[i].id)=true from hb];rfl
       rw[ez,Bool.false_or]at kK
       repeat refine sq ?_
       refine aS hΓ fun K' hK=>?_
       simp only[go_sem,ah ab,ai,aj,ao,ah aK,ai,aj,ba,l5,jq,my,aI]
       repeat (refine⟨ak,?_⟩)
       refine hK _ ?_
       clear K' hK
       simp only[go_sem]
       refine kp [3,5,6,7] [[3,0]] ?_
       repeat refine sq ?_
       refine aS hΓ fun K' hK=>?_
       simp only[go_sem,ah ab,ai,aj,ao,ah aK,ai,aj,ba,l5,jq,my,aI]
       repeat (refine⟨ak,?_⟩)
       refine hK _ ?_
       clear K' hK
       simp only[go_sem]
       refine⟨i1+1,aK,by(show (aH r).rs.length-(i1+1)<(aH r).rs.length-i1;omega),?_⟩
       refine bg [3,5,6,7] [[3,0]] ?_ ?_<;>simp only[go_sem,a7 aK c1,bb,kK]
      ·repeat refine sq ?_
       have ez:((aH r).rs[i1].pa != (aH r).ps[i].id)=true:=by rw[bne,show ((aH r).rs[i1].pa==(aH r).ps[i].id)=false from hb];rfl
       rw[ez,Bool.true_or,Bool.and_true]at kK
       refine aJ ?_
       refine bV ?_
       simp only[go_sem]
       refine kp [3,5,6,7] [[3,0]] ?_
       repeat refine sq ?_
       refine aS hΓ fun K' hK=>?_
       simp only[go_sem,ah ab,ai,aj,ao,ah aK,ai,aj,ba,l5,jq,my,aI]
       repeat (refine⟨ak,?_⟩)
       refine hK _ ?_
       clear K' hK
       simp only[go_sem]
       refine⟨i1+1,aK,by(show (aH r).rs.length-(i1+1)<(aH r).rs.length-i1;omega),?_⟩
       refine bg [3,5,6,7] [[3,0]] ?_ ?_<;>simp only[go_sem,a7 aK c1,bb,kK]
    ·rw[aI]at jq kK
     simp only[if_true]at jq
     repeat refine sq ?_
     refine rx hΓ [3,5,6,7,8,9,13,14] [[3,0],[8,0]] (fun K' hK=>by simp only[go_sem,ah ab,ai,aj,ao,ah aK,ai,aj,ba,l5,jq,my,aI];exact aq) ?_
     repeat refine sq ?_
     refine rx hΓ [3,5,6,7,8,9,103] [[3,0],[8,0]] (fun K' hK=>by simp only[go_sem,ah ab,ai,aj,ao,ah aK,ai,aj,ba,l5,jq,my,aI];exact aq) ?_
     repeat refine sq ?_
     refine aB (fun hb=>?_) fun hb=>?_
     ·cases hb
     ·repeat refine sq ?_
      refine aJ ?_
      repeat refine sq ?_
      refine dx hΓ hP [[],[0],[],[2],[],[2,3,4],[2,3,4,5],[2,3,4,5,6],u8] [3,5,6,7,9,112] [[3,0]] (by kernel_rfl) (fun K' hK=>by simp only[go_sem,ah ab,ai,aj,ao,ah aK,ai,aj,ba,l5,jq,my,aI,ah ab,ao,ai,aj,List.length_map];exact jC) ?_
      repeat refine sq ?_
      refine aB (fun hb=>?_) fun hb=>?_
      ·repeat refine sq ?_
       have ez:((aH r).rs[i1].pa != (aH r).ps[i].id)=false:=by rw[bne,show ((aH r).rs[i1].pa==(aH r).ps[i].id)=true from hb];rfl
       rw[ez,Bool.false_or]at kK
       repeat refine sq ?_
       refine aS hΓ fun K' hK=>?_
       simp only[go_sem,ah ab,ai,aj,ao,ah aK,ai,aj,ba,l5,jq,my,aI]
       repeat (refine⟨ak,?_⟩)
       refine hK _ ?_
       clear K' hK
       simp only[go_sem]
       refine kp [3,5,6,7] [[3,0]] ?_
       repeat refine sq ?_
       refine aS hΓ fun K' hK=>?_
       simp only[go_sem,ah ab,ai,aj,ao,ah aK,ai,aj,ba,l5,jq,my,aI]
       repeat (refine⟨ak,?_⟩)
       refine hK _ ?_
       clear K' hK
       simp only[go_sem]
       refine⟨i1+1,aK,by(show (aH r).rs.length-(i1+1)<(aH r).rs.length-i1;omega),?_⟩
       refine bg [3,5,6,7] [[3,0]] ?_ ?_<;>simp only[go_sem,a7 aK c1,bb,kK]
      ·repeat refine sq ?_
       have ez:((aH r).rs[i1].pa != (aH r).ps[i].id)=true:=by rw[bne,show ((aH r).rs[i1].pa==(aH r).ps[i].id)=false from hb];rfl
       rw[ez,Bool.true_or,Bool.and_true]at kK
       refine aJ ?_
       refine bV ?_
       simp only[go_sem]
       refine kp [3,5,6,7] [[3,0]] ?_
       repeat refine sq ?_
       refine aS hΓ fun K' hK=>?_
       simp only[go_sem,ah ab,ai,aj,ao,ah aK,ai,aj,ba,l5,jq,my,aI]
       repeat (refine⟨ak,?_⟩)
       refine hK _ ?_
       clear K' hK
       simp only[go_sem]
       refine⟨i1+1,aK,by(show (aH r).rs.length-(i1+1)<(aH r).rs.length-i1;omega),?_⟩
       refine bg [3,5,6,7] [[3,0]] ?_ ?_<;>simp only[go_sem,a7 aK c1,bb,kK]
  ·have ke:i1=(aH r).rs.length:=by
    have :¬ (i1:Int)<(aH r).rs.length:=by simpa using hb
    omega
   clear hb
   subst ke
   obtain⟨tP,nZ⟩:=Qn r X0 (UZ r _)
   repeat refine sq ?_
   refine bR ?_
   simp only[go_sem]
   refine kp [3,5,6] [[3,0]] ?_
   rcases oA:rB (aH r) (aH r).ps[i].id with _ | _
   ·rw[oA]at nZ
    simp only[Bool.false_eq_true,if_false]at nZ
    repeat refine sq ?_
    refine dx hΓ hP [[],[],[1],[],[1,2,3],[1,2,3,4],[1,2,3,4,5],u7,u8,u9,u9,cB,dO] [3,5,6,15,16] [[3,0]] (by kernel_rfl) (fun K' hK=>by simp only[go_sem,ah ab,ai,aj,ao,tP,nZ,tQ,oA,ah ab,ao,ai,aj,List.length_map];exact jC) ?_
    repeat refine sq ?_
    refine rx hΓ [3,5,139] [[3,0]] (fun K' hK=>by simp only[go_sem,ah ab,ai,aj,ao,tP,nZ,tQ,oA];exact aq) ?_
    repeat refine sq ?_
    refine aB (fun hb=>?_) fun hb=>?_
    ·cases hb
    ·repeat refine sq ?_
     refine aJ ?_
     refine bV ?_
     simp only[go_sem]
     refine kp [3,5] [[3,0]] ?_
     repeat refine sq ?_
     refine aS hΓ fun K' hK=>?_
     simp only[go_sem,ah ab,ai,aj,ao,tP,nZ,tQ,oA]
     repeat (refine⟨ak,?_⟩)
     refine hK _ ?_
     clear K' hK
     simp only[go_sem]
     refine⟨i+1,ab,by(show (aH r).ps.length-(i+1)<(aH r).ps.length-i;omega),?_⟩
     refine bg [3,5] [[3,0]] ?_ ?_<;>simp only[go_sem,a7 ab c0,bb]
   ·rw[oA]at nZ
    simp only[if_true]at nZ
    repeat refine sq ?_
    refine dx hΓ hP [[],[],[1],[],[1,2,3],[1,2,3,4],[1,2,3,4,5],u7,u8,u9,u9,cB,dO] [3,5,6,15,16] [[3,0]] (by kernel_rfl) (fun K' hK=>by simp only[go_sem,ah ab,ai,aj,ao,tP,nZ,tQ,oA,ah ab,ao,ai,aj,List.length_map];exact jC) ?_
    repeat refine sq ?_
    refine rx hΓ [3,5,139] [[3,0]] (fun K' hK=>by simp only[go_sem,ah ab,ai,aj,ao,tP,nZ,tQ,oA];exact aq) ?_
    repeat refine sq ?_
    refine aB (fun hb=>?_) fun hb=>?_
    ·cases hb
    ·repeat refine sq ?_
     refine aJ ?_
     refine bV ?_
     simp only[go_sem]
     refine kp [3,5] [[3,0]] ?_
     repeat refine sq ?_
     refine aS hΓ fun K' hK=>?_
     simp only[go_sem,ah ab,ai,aj,ao,tP,nZ,tQ,oA]
     repeat (refine⟨ak,?_⟩)
     refine hK _ ?_
     clear K' hK
     simp only[go_sem]
     refine⟨i+1,ab,by(show (aH r).ps.length-(i+1)<(aH r).ps.length-i;omega),?_⟩
     refine bg [3,5] [[3,0]] ?_ ?_<;>simp only[go_sem,a7 ab c0,bb]
 ·have bF:i=(aH r).ps.length:=by
   have :¬ (i:Int)<(aH r).ps.length:=by simpa using hb
   omega
  clear hb
  subst bF
  repeat refine sq ?_
  refine bR ?_
  simp only[go_sem]
  refine kp [] [] ?_
  repeat refine sq ?_
  refine rx hΓ [2] [] (fun K' hK=>by simp only[go_sem];exact aq) ?_
  refine aC ?_
  simp only[go_sem]
  first | done | rfl
theorem k3:aN Tryz.prog 3 S3:=s3.sound
end
end
open Go
def jF(P:Program)(t:TypeId):Bool:=match P.underlying t with | some (.struct _)=>true | some (.array _ _)=>true | _=>false
def m7(ag:Bool)(xs:List V):V:=if ag then .agg xs else xs.getD 0 default
def n9(P:Program):List Field->Nat->Nat->Bool
 |[],off,tot=>off==tot
 |f::r,off,tot=>f.offset==off&&n9 P r (off+P.cellsOf f.type) tot
def lh(P:Program):Nat->TypeId->Bool
 | 0,_=>false
 |n+1,t=>match P.underlying t with
  |some .bool=>P.cellsOf t==1
  |some (.int _)=>P.cellsOf t==1
  |some .string=>P.cellsOf t==1
  |some (.slice e)=>P.cellsOf t==1&&lh P n e&&decide (0<P.cellsOf e)&&(jF P e||P.cellsOf e==1)
  |some (.struct fs)=>n9 P fs.toList 0 (P.cellsOf t)&&fs.toList.all fun f=>lh P n f.type
  |some (.array m e)=>P.cellsOf t==m*P.cellsOf e&&lh P n e
  |_=>false
def yk(S:TypeId->List V->Prop):List TypeId->List V->Prop
 |[],xs=>xs=[]
 |t::r,xs=>∃ a b,xs=a++b/\S t a/\yk S r b
def fP(P:Program):Nat->TypeId->List V->Prop
 | 0,_,_=>False
 |n+1,t,xs=>match P.underlying t with
  |some .bool=>∃ b,xs=[.bool b]
  |some (.int k)=>∃ z,xs=[.int k z]/\(Lit.int k z).wf=true
  |some .string=>∃ s,xs=[.str s]/\s.size<=maxLen
  |some (.slice e)=>∃ ls:List (List V),xs=[.sl (ls.map (m7 (jF P e)))]/\ls.length<=maxLen/\∀ y∈ls,fP P n e y
  |some (.struct fs)=>yk (fP P n) (fs.toList.map (·.type)) xs
  |some (.array m e)=>yk (fP P n) (List.replicate m e) xs
  |_=>False
structure je (m:Mem) (xs:List V) (cs:List Value):Prop where
 len:xs.length=cs.length
 rep:∀ i (h:i<xs.length) (h':i<cs.length),aO m xs[i] cs[i]
 one:∀ x∈xs,x.one=true
theorem je.nil(m:Mem):je m [] []:=⟨rfl,fun i h=>by simp at h,fun x h=>by simp at h⟩
theorem je.append{m:Mem}{xs ys:List V}{cs ds:List Value}(h:je m xs cs)(k:je m ys ds):je m (xs++ys) (cs++ds):=by
 refine⟨by simp[h.len,k.len],fun i h1 h2=>?_,fun x hx=>?_⟩
 ·by_cases hi:i<xs.length
  ·rw[List.getElem_append_left hi,List.getElem_append_left (by rw[<-h.len];exact hi)]
   exact h.rep i hi _
  ·have hl:=h.len
   have e:i-xs.length=i-cs.length:=by rw[hl]
   rw[List.getElem_append_right (by omega),List.getElem_append_right (by omega)]
   simp only[List.length_append]at h1 h2
   have :=k.rep (i-xs.length) (by omega) (by rw[<-k.len];omega)
   simp only[e]at this |-
   exact this
 ·rcases List.mem_append.1 hx with hx | hx
  ·exact h.one x hx
  ·exact k.one x hx
theorem je.single{m:Mem}{x:V}{u:Value}(h:aO m x u)(ho:x.one=true):je m [x] [u]:=
 ⟨rfl,fun i h1 h2=>by simp at h1;subst h1;exact h,fun y hy=>by simp at hy;subst hy;exact ho⟩
theorem mapM_some{α β:Type}{f:α->Option β}:∀ {l:List α} {r:List β},l.mapM f=some r->r.length=l.length/\∀ i (h:i<l.length) (h':i<r.length),f l[i]=some r[i]
 |[],r,h=>by
  simp only[List.mapM_nil]at h
  cases h
  exact⟨rfl,fun i h=>by simp at h⟩
 |a::l,r,h=>by
  simp only[List.mapM_cons,Option.bind_eq_bind,Option.bind_eq_some_iff]at h
  obtain⟨b,hb,bs,vh,hr⟩:=h
  cases hr
  obtain⟨h1,h2⟩:=mapM_some vh
  refine⟨by simp[h1],fun i hi bK=>?_⟩
  cases i with
  |zero=>exact hb
  |succ i=>exact h2 i (by simpa using hi) (by simpa using bK)
theorem Hm{P:Program}:∀ {fs:List Field} {off tot:Nat},n9 P fs off tot=true->off<=tot
 |[],off,tot,h=>by simp[n9]at h;omega
 |f::r,off,tot,h=>by
  simp only[n9,Bool.and_eq_true]at h
  have :=Hm h.2
  omega
theorem NO{P:Program}{m:Mem}{S:TypeId->List V->Prop}{cs:List Value}:∀ {fs:List Field} {off:Nat},n9 P fs off cs.length=true->
 (∀ f∈fs,∃ xs,S f.type xs/\je m xs ((cs.drop f.offset).take (P.cellsOf f.type)))->∃ xs,yk S (fs.map (·.type)) xs/\je m xs (cs.drop off)
 |[],off,h,_=>by
  simp[n9]at h
  subst h
  exact⟨[],rfl,by simpa using je.nil m⟩
 |f::r,off,h,hf=>by
  simp only[n9,Bool.and_eq_true,beq_iff_eq]at h
  obtain⟨h1,h2⟩:=h
  obtain⟨a,ha,dA⟩:=hf f (by simp)
  obtain⟨b,hb,sv⟩:=NO h2 fun g hg=>hf g (by simp[hg])
  refine⟨a++b,⟨a,b,rfl,ha,hb⟩,?_⟩
  have e:cs.drop off=(cs.drop f.offset).take (P.cellsOf f.type)++cs.drop (off+P.cellsOf f.type):=by
   rw[h1,<-List.drop_drop,List.take_append_drop]
  rw[e]
  exact dA.append sv
theorem Px{m:Mem}{S:TypeId->List V->Prop}{e:TypeId}{k:Nat}{cs:List Value}:∀ (n off:Nat),cs.length=(off+n)*k->
 (∀ i,i<off+n->∃ xs,S e xs/\je m xs ((cs.drop (i*k)).take k))->∃ xs,yk S (List.replicate n e) xs/\je m xs (cs.drop (off*k))
 | 0,off,h,_=>by
   have :cs.drop (off*k)=[]:=List.drop_eq_nil_of_le (by rw[h];simp)
   rw[this]
   exact⟨[],rfl,je.nil m⟩
 |n+1,off,h,hf=>by
  obtain⟨a,ha,dA⟩:=hf off (by omega)
  obtain⟨b,hb,sv⟩:=Px n (off+1) (by rw[h];congr 1;omega) fun i hi=>hf i (by omega)
  refine⟨a++b,⟨a,b,rfl,ha,hb⟩,?_⟩
  have e:cs.drop (off*k)=(cs.drop (off*k)).take k++cs.drop ((off+1)*k):=by
   rw[Nat.succ_mul,<-List.drop_drop,List.take_append_drop]
  rw[e]
  exact dA.append sv
theorem Tn{ag:Bool}{xs:List V}(h:ag=true\/xs.length=1)(ho:∀ x∈xs,x.one=true):(m7 ag xs).cells=xs:=by
 cases ag with
 |true=>rfl
 |false=>
  rcases h with h | h
  ·cases h
  match xs,h with
  |[x],_=>
   have :=ho x (by simp)
   show x.cells=[x]
   cases x<;>first | rfl | (simp[V.one]at this)
def lq(w:World):Mem:=fun b off=>w.cell? ⟨b,off,none⟩
theorem PF{a:Addr}(h:a.spot=none)(n:Nat):a.add n=⟨a.block,a.off+n,none⟩:=by
 obtain⟨b,o,s⟩:=a
 simp only at h
 subst h
 unfold Addr.add
 split
 ·rename_i e;subst e;rfl
 ·rfl
theorem yU{H:Type}{enc:TypeId×Value->H}{P:Program}{w:World}{base:Nat}{spare:Nat->Bool}{held:Bool}:
 ∀ (n fuel:Nat) (t:TypeId) (cs:List Value) (r:DataW H×List MemPlace),lh P n t=true->cs.length=P.cellsOf t->DataW.trod enc P w base spare held fuel t cs=some r->∃ xs,fP P n t xs/\je (lq w) xs cs
 | 0,_,_,_,_,h,_,_=>by simp[lh]at h
 |n+1,0,_,_,_,_,_,h=>by simp[DataW.trod]at h
 |n+1,fuel+1,t,cs,r,hp,hlen,h=>by
  rw[DataW.trod_step]at h
  unfold DataW.trodStep at h
  unfold lh at hp
  unfold fP
  rcases hu:P.underlying t with _ | u
  ·rw[hu]at hp;simp at hp
  rw[hu]at hp h
  cases u with
  |bool=>
   have hb:∃ b,cs=[.bool b]:=by
    simp only at h
    split at h<;>simp_all
   obtain⟨b,rfl⟩:=hb
   exact⟨_,⟨b,rfl⟩,.single (.bool _) rfl⟩
  |int k=>
   simp only at hp h |-
   split at h<;>simp_all
   obtain⟨⟨rfl,h1⟩,_⟩:=h
   exact⟨_,⟨_,rfl,h1⟩,.single (.int _ _) rfl⟩
  |string=>
   simp only at hp h |-
   split at h<;>simp_all
   obtain⟨h1,_⟩:=h
   exact⟨_,⟨_,rfl,h1⟩,.single (.str _ h1) rfl⟩
  |slice e=>
   simp only[Bool.and_eq_true,decide_eq_true_eq,Bool.or_eq_true,beq_iff_eq]at hp |-
   obtain⟨⟨⟨_,ez⟩,cL⟩,Y'⟩:=hp
   split at h<;>simp_all
   ·exact⟨_,⟨[],rfl,Nat.zero_le _,by simp⟩,.single (.slnil _ _) rfl⟩
   ·rename_i e' a len cap _ _
    obtain⟨⟨hb,X5,hcm⟩,h⟩:=h
    simp only[Option.bind_eq_some_iff]at h
    obtain⟨elems,EX,_⟩:=h
    obtain⟨l1,l2⟩:=mapM_some EX
    simp only[List.length_range]at l1
    have hx:∀ i,i<len->∃ xs cells,w.cells? base (a.add (i*P.cellsOf e')) (P.cellsOf e')=some cells/\fP P n e' xs/\je (lq w) xs cells:=by
     intro i hi
     have h3:=l2 i (by simpa using hi) (by omega)
     simp only[List.getElem_range,Option.bind_eq_some_iff]at h3
     obtain⟨cells,h4,h5⟩:=h3
     obtain⟨xs,h6,h7⟩:=yU n fuel _ _ _ ez (World.cells?_some h4).2.1 h5
     exact⟨xs,cells,h4,h6,h7⟩
    rcases Nat.eq_zero_or_pos len with hz | XB
    ·subst hz
     exact⟨[.sl []],⟨[],rfl,Nat.zero_le _,by simp⟩,.single (.slnil _ _) rfl⟩
    have DY:a.spot=none:=by
     obtain⟨xs,cells,h4,_⟩:=hx 0 XB
     have h8:=(World.cells?_some h4).2.2 0 cL
     have h9:=(World.cells?_some h4).2.1
     have sW:w.cell? ((a.add (0*P.cellsOf e')).add 0)=some (cells[0]'(by omega)):=by rw[h8];exact List.getElem?_eq_getElem (by omega)
     simpa[Addr.add]using World.cell?_spot sW
    let X:Nat->List V:=fun i=>if h:i<len then Classical.choose (hx i h)else[]
    let C:Nat->List Value:=fun i=>(w.cells? base (a.add (i*P.cellsOf e')) (P.cellsOf e')).getD []
    have hX:∀ i,i<len->fP P n e' (X i)/\je (lq w) (X i) (C i)/\(C i).length=P.cellsOf e'/\∀ j,j<P.cellsOf e'->w.cell? ⟨a.block,a.off+i*P.cellsOf e'+j,none⟩=(C i)[j]?:=by
     intro i hi
     obtain⟨cells,h4,h6,h7⟩:=Classical.choose_spec (hx i hi)
     have e1:X i=Classical.choose (hx i hi):=dif_pos hi
     have e2:C i=cells:=by show (w.cells? _ _ _).getD []=cells;rw[h4];rfl
     rw[e1,e2]
     refine⟨h6,h7,(World.cells?_some h4).2.1,fun j hj=>?_⟩
     have h8:=(World.cells?_some h4).2.2 j hj
     rw[PF DY,PF rfl]at h8
     exact h8
    have sP:∀ i,i<len->(m7 (jF P e') (X i)).cells=X i:=fun i hi=>by
     obtain⟨h1,h2,h3,_⟩:=hX i hi
     refine Tn ?_ h2.one
     rcases Y' with h | h
     ·exact .inl h
     ·exact .inr (by rw[h2.len,h3,h])
    refine⟨[.sl (((List.range len).map X).map (m7 (jF P e')))],⟨(List.range len).map X,rfl,by simp;omega,fun y hy=>?_⟩,.single ?_ rfl⟩
    ·simp only[List.mem_map,List.mem_range]at hy
     obtain⟨i,hi,rfl⟩:=hy
     exact(hX i hi).1
    ·obtain⟨b,o,s⟩:=a
     simp only at DY hX
     subst DY
     have key:=aO.sl (m:=lq w) (((List.range len).map X).map (m7 (jF P e'))) b o cap (P.cellsOf e') (fun i j=>((C i)[j]?).getD undef) (by
         intro h;have:=congrArg List.length h;simp at this;omega) (by simp;omega) (by simpa using X5)
      (fun i hi=>by
        have bK:i<len:=by simpa using hi
        obtain⟨h1,h2,h3,_⟩:=hX i bK
        simp only[List.getElem_map,List.getElem_range]
        rw[sP i bK,h2.len,h3])
      (fun i j hi hj=>by
        have bK:i<len:=by simpa using hi
        obtain⟨h1,h2,h3,h4⟩:=hX i bK
        show w.cell? _=_
        rw[h4 j hj,List.getElem?_eq_getElem (by omega)]
        rfl)
      (fun i j hi hj=>by
        have bK:i<len:=by simpa using hi
        obtain⟨h1,h2,h3,h4⟩:=hX i bK
        simp only[List.getElem_map,List.getElem_range,sP i bK]at hj |-
        have fy:j<(C i).length:=by rw[<-h2.len];exact hj
        rw[List.getElem?_eq_getElem fy]
        exact h2.rep j hj fy)
      (fun i hi x hx=>by
        have bK:i<len:=by simpa using hi
        simp only[List.getElem_map,List.getElem_range,sP i bK]at hx
        exact(hX i bK).2.1.one x hx)
     simpa using key
  |struct fs=>
   simp only[Bool.and_eq_true,List.all_eq_true]at hp h |-
   obtain⟨ht,eG⟩:=hp
   rw[if_pos hlen]at h
   simp only[Option.map_eq_some_iff]at h
   obtain⟨ys,DS,_⟩:=h
   obtain⟨l1,l2⟩:=mapM_some DS
   have :=NO (m:=lq w) (S:=fP P n) (cs:=cs) (fs:=fs.toList) (off:=0) (by rw[hlen];exact ht) fun f hf=>by
    obtain⟨i,hi,rfl⟩:=List.mem_iff_getElem.1 hf
    have h3:=l2 i hi (by omega)
    have hle:P.cellsOf fs.toList[i].type<=(cs.drop fs.toList[i].offset).length:=by
     have key:∀ (l:List Field) (off tot:Nat),n9 P l off tot=true->∀ f∈l,f.offset+P.cellsOf f.type<=tot:=by
      intro l
      induction l with
      |nil=>intro _ _ _ f hf;simp at hf
      |cons g r ih=>
       intro off tot h f hf
       simp only[n9,Bool.and_eq_true,beq_iff_eq]at h
       rcases List.mem_cons.1 hf with rfl | hf
       ·have:=Hm h.2;omega
       ·exact ih _ _ h.2 f hf
     have :=key _ _ _ ht _ hf
     simp only[List.length_drop]
     omega
    exact yU n fuel _ _ _ (eG _ hf) (by rw[List.length_take];omega) h3
   simpa using this
  |array m e=>
   simp only[Bool.and_eq_true,beq_iff_eq]at hp h |-
   obtain⟨ht,ez⟩:=hp
   rw[if_pos hlen]at h
   simp only[Option.map_eq_some_iff]at h
   obtain⟨ys,DS,_⟩:=h
   obtain⟨l1,l2⟩:=mapM_some DS
   have :=Px (m:=lq w) (S:=fP P n) (e:=e) (k:=P.cellsOf e) (cs:=cs) m 0 (by rw[hlen,ht];simp) fun i hi=>by
    have bK:i<m:=by omega
    have h3:=l2 i (by simpa using bK) (by rw[l1];simpa using bK)
    simp only[List.getElem_range]at h3
    have hle:i*P.cellsOf e+P.cellsOf e<=cs.length:=by
     rw[hlen,ht,<-Nat.succ_mul];exact Nat.mul_le_mul_right _ bK
    exact yU n fuel _ _ _ ez (by rw[List.length_take,List.length_drop];omega) h3
   simpa using this
  |_=>simp at hp
open Go Go.RowKit Go.ChangeShapes Go.WideShapes Go.ChangeAt
theorem TH{P:Program}{n:Nat}{t:TypeId}{W:World}{r:Reach}{base:Nat}{v:Value}(hp:lh P n t=true)(h:Value.okWide P W r base t v):
 v.cells.size=P.cellsOf t/\(jF P t=true->∃ cs,v=.agg cs)/\(jF P t=false->v.cells= #[v]/\P.cellsOf t=1):=by
 cases n with
 |zero=>simp[lh]at hp
 |succ n=>
  unfold lh at hp
  unfold jF
  rcases hu:P.underlying t with _ | u
  ·rw[hu]at hp;simp at hp
  rw[hu]at hp
  cases u with
  |bool=>
   obtain⟨b,rfl⟩:=okWide_bool hu h
   simp only[beq_iff_eq]at hp
   exact⟨by simp[Value.cells,hp],by simp,fun _=>⟨rfl,hp⟩⟩
  |int k=>
   obtain⟨b,rfl⟩:=okWide_int hu h
   simp only[beq_iff_eq]at hp
   exact⟨by simp[Value.cells,hp],by simp,fun _=>⟨rfl,hp⟩⟩
  |string=>
   obtain⟨b,rfl⟩:=okWide_string hu h
   simp only[beq_iff_eq]at hp
   exact⟨by simp[Value.cells,hp],by simp,fun _=>⟨rfl,hp⟩⟩
  |slice e=>
   obtain⟨a,len,cap,rfl⟩:=okWide_slice hu h
   simp only[Bool.and_eq_true,beq_iff_eq]at hp
   exact⟨by simp[Value.cells,hp.1.1.1],by simp,fun _=>⟨rfl,hp.1.1.1⟩⟩
  |struct fs=>
   simp only[Value.okWide,hu]at h
   obtain⟨cs,rfl,h2,_⟩:=h
   exact⟨h2,fun _=>⟨cs,rfl⟩,fun h=>by simp at h⟩
  |array m e=>
   simp only[Value.okWide,hu]at h
   obtain⟨cs,rfl,h2,_⟩:=h
   exact⟨h2,fun _=>⟨cs,rfl⟩,fun h=>by simp at h⟩
  |_=>simp at hp
def GZ(P:Program)(n:Nat)(t:TypeId)(x:V):Prop:=∃ xs,fP P n t xs/\x=m7 (jF P t) xs
def vO(P:Program)(n:Nat):List TypeId->List V->Prop
 |[],xs=>xs=[]
 |t::r,xs=>∃ x ys,xs=x::ys/\GZ P n t x/\vO P n r ys
theorem abC{H:Type}{enc:TypeId×Value->H}{P:Program}{w:World}{b0:Nat}{spare:Nat->Bool}{held:Bool}{n:Nat}{t:TypeId}{r:Reach}{base:Nat}{v:Value}{d:DataW H}{ps:List MemPlace}
 (hp:lh P n t=true) (h:Value.okWide P w r base t v) (ht:DataW.Trod enc P w b0 spare held t v d ps):∃ x,GZ P n t x/\aO (lq w) x v:=by
 obtain⟨h1,h2,h3⟩:=TH hp h
 obtain⟨fuel,hf⟩:=ht
 obtain⟨xs,k1,k2⟩:=yU n fuel t v.cells.toList _ hp (by simpa using h1) hf
 refine⟨m7 (jF P t) xs,⟨xs,k1,rfl⟩,?_⟩
 cases ha:jF P t with
 |true=>
  obtain⟨cs,rfl⟩:=h2 ha
  simp only[m7,if_true]
  refine .agg xs cs (by simpa[Value.cells]using k2.len) k2.one fun i h h'=>?_
  have :=k2.rep i h (by simpa[Value.cells]using h')
  simpa[Value.cells]using this
 |false=>
  obtain⟨h4,h5⟩:=h3 ha
  have hl:xs.length=1:=by rw[k2.len];simp[h4]
  match xs,hl with
  |[x],_=>
   have :=k2.rep 0 (by simp) (by simp[h4])
   simp only[m7,Bool.false_eq_true,if_false,List.getD_cons_zero]
   simpa[h4]using this
theorem Pz{H:Type}{enc:TypeId×Value->H}{P:Program}{w:World}{b0:Nat}{spare:Nat->Bool}{held:Bool}{n:Nat}{r:Reach}{base:Nat}:∀ {ts:List TypeId} {vs:List Value} {ds:List (DataW H)} {ps:List MemPlace},
 (∀ t∈ts,lh P n t=true)->(∀ (j:Nat) t v,ts[j]?=some t->vs[j]?=some v->Value.okWide P w r base t v)->DataW.TrodAll enc P w b0 spare held ts vs ds ps->∃ xs,vO P n ts xs/\tH (lq w) xs vs
 |[],vs,ds,ps,_,_,h=>by
  cases vs with
  |nil=>exact⟨[],rfl,rfl,fun i h=>by simp at h⟩
  |cons=>cases ds<;>simp[DataW.TrodAll]at h
 |t::ts,[],ds,ps,_,_,h=>by cases ds<;>simp[DataW.TrodAll]at h
 |t::ts,v::vs,[],ps,_,_,h=>by simp[DataW.TrodAll]at h
 |t::ts,v::vs,d::ds,ps,hp,hv,h=>by
  obtain⟨p,q,h1,h2,_⟩:=h
  obtain⟨x,k1,k2⟩:=abC (hp t (by simp)) (hv 0 t v rfl rfl) h1
  obtain⟨ys,k3,k4,k5⟩:=Pz (fun t ht=>hp t (by simp[ht])) (fun j t v h h'=>hv (j+1) t v (by simpa using h) (by simpa using h')) h2
  refine⟨x::ys,⟨x,ys,rfl,k1,k3⟩,by simp[k4],fun i hi bK=>?_⟩
  cases i with
  |zero=>exact k2
  |succ i=>exact k5 i (by simpa using hi) (by simpa using bK)
theorem Py{H:Type}{enc:TypeId×Value->H}{P:Program}(hl:laidOutB P=true){W W':World}(hb:Below W.heap.size W W'):∀ {ts:List TypeId} {vs:List Value} {ds:List (DataW H)} {ps:List MemPlace},
 (∀ t∈ts,P.readableRec t=true/\t<P.types.size)->DataW.TrodAll enc P W 0 (fun _=>true) true ts vs ds ps->(∀ x∈ps,x.block<W.heap.size)->DataW.TrodAll enc P W' 0 (fun b=>decide (b<W.heap.size)) true ts vs ds ps
 |[],vs,ds,ps,_,h,_=>by
  cases vs<;>cases ds<;>simp_all[DataW.TrodAll]
 |t::ts,[],ds,ps,_,h,_=>by cases ds<;>simp[DataW.TrodAll]at h
 |t::ts,v::vs,[],ps,_,h,_=>by simp[DataW.TrodAll]at h
 |t::ts,v::vs,d::ds,ps,hr,h,ab=>by
  obtain⟨p,q,h1,h2,rfl⟩:=h
  exact⟨p,q,Below.trod hl (hr t (by simp)).1 (hr t (by simp)).2 h1 hb (fun x hx=>ab x (by simp[hx])),
   Py hl hb (fun t ht=>hr t (by simp[ht])) h2 (fun x hx=>ab x (by simp[hx])),rfl⟩
theorem Hg{H:Type}{enc:TypeId×Value->H}{P:Program}{w:World}{b0:Nat}{spare:Nat->Bool}{held:Bool}:∀ {ts:List TypeId} {vs:List Value} {ds:List (DataW H)} {ps:List MemPlace},DataW.TrodAll enc P w b0 spare held ts vs ds ps->ds.length=ts.length
 |[],vs,ds,ps,h=>by cases vs<;>cases ds<;>simp_all[DataW.TrodAll]
 |t::ts,[],ds,ps,h=>by cases ds<;>simp[DataW.TrodAll]at h
 |t::ts,v::vs,[],ps,h=>by simp[DataW.TrodAll]at h
 |t::ts,v::vs,d::ds,ps,h=>by
  obtain⟨p,q,_,h2,_⟩:=h
  simp[Hg h2]
theorem U1{H:Type}{enc:TypeId×Value->H}{C:Checked}{os:Os}{f:FuncId}{fn:Func}{s:ChangeSpec}{conds:List PathCond}{n:Nat}{tb:TypeId}
 (own:ownKnob C.prog.godebug=none) (started:os.Started) (T3:C.prog.inits.idxOf? f=none) (ee:C.prog.funcs[f]?=some fn)
 (witness:∃ (w:World) (tape:Tape) (i:Input),w.os=os/\(w.forCall tape i).Shaped C.prog/\i.vars=[]/\Input.okWide C.prog (w.forCall tape i) .any w.heap.size f i/\
   s.pre6 enc C.prog fn conds false (w.forCall tape i).memory i.args/\({}:Assume).holds C.prog (lone (Frame.enter C.prog f i.args .normal) [] (w.forCall tape i)))
 (hl:laidOutB C.prog=true) (gF:∀ t∈fn.params.toList,lh C.prog n t=true/\C.prog.readableRec t=true/\t<C.prog.types.size) (zW:fn.resultTypes= #[tb]) (j5:C.prog.underlying tb=some .bool)
 (Mc:s.vars=[]) (hs:∀ ds:List (DataW H),ds.length=fn.params.toList.length->(s.fn H ds).results=[.lit (.bool true)]/\(s.fn H ds).args=ds/\(s.fn H ds).vars=[])
 (sR:∀ (W:World) (args:Array Value) (xs:List V),vO C.prog n fn.params.toList xs->tH (lq W) xs args.toList->Calls C.prog f args W fun e W'=>e=.returned (.bool true)/\Below W.heap.size W W'):
 ReturnsInHanded {} C os f .any (s.pre6 enc C.prog fn conds false) (s.post enc C.prog fn false true false false):=by
 refine returnsInHanded_of_change own started T3 ee witness ?_
 intro W base args ds gs before dp hW _ _
 have E5:=hW
 obtain⟨p,q,hA,hV,rfl,_,_⟩:=hW
 rw[Mc]at hV
 obtain⟨rfl,rfl⟩:=trodVars_none hV
 simp only[List.append_nil]at E5
 have ab:∀ y∈p,y.block<W.heap.size:=fun y hy=>by simpa using E5.lt y hy
 obtain⟨xs,h1,h2⟩:=Pz (vs:=args.toList) (ts:=fn.params.toList) (fun t ht=>(gF t ht).1) (fun j t v h h'=>dp j t v (by simpa using h) (by simpa using h')) hA
 obtain⟨e1,e2,e3⟩:=hs ds (Hg hA)
 refine(sR W args xs h1 h2).mono fun e W' ⟨he,hn⟩=>?_
 subst he
 refine⟨_,rfl,ds,[],p,[],p,[],E5,?_,?_,?_,hn.frame _,fun h=>by cases h⟩
 ·rw[List.append_nil,e1,zW]
  exact trodAll_mk1 (shut_bool j5 _)
 ·rw[List.append_nil,e2]
  exact Py hl hn (fun t ht=>(gF t ht).2) hA ab
 ·rw[List.append_nil,e3,Mc]
  rfl
open Go Go.Proofs Go.Proofs.YtepaolcgegdpoaaGreat Go.RowKit Go.ChangeShapes
theorem Wr:ownKnob Tryz.prog.godebug=none:=by kernel_rfl
theorem Ws:laidOutB Tryz.prog=true:=by kernel_rfl
end Go.Eng
set_option linter.constructorNameAsVariable false
set_option maxRecDepth 100000
namespace Go.Eng
open Go Go.Proofs
theorem lT{n:Nat}{xs:List V}(h:fP Tryz.prog (n+1) 3 xs):∃ k,xs=[vInt k]/\(Lit.int .i64 k).wf=true:=by
 unfold fP at h
 simp only[Tryz.underlying3]at h
 exact h
theorem JC{α β:Type}{f:α->β}{P:β->Prop}(h:∀ y,P y->∃ x,y=f x):∀ {l:List β},(∀ y∈l,P y)->∃ m:List α,l=m.map f
 |[],_=>⟨[],rfl⟩
 |y::r,hl=>by
  obtain⟨x,rfl⟩:=h y (hl y (by simp))
  obtain⟨m,rfl⟩:=JC h (l:=r) fun z hz=>hl z (by simp[hz])
  exact⟨x::m,rfl⟩
theorem HJ{n:Nat}{T e:TypeId}{xs:List V}{α:Type}{f:α->V}(hu:Tryz.prog.underlying T=some (.slice e))(h:fP Tryz.prog (n+1) T xs)
 (he:∀ ys,fP Tryz.prog n e ys->∃ a,m7 (jF Tryz.prog e) ys=f a):∃ l:List α,xs=[.sl (l.map f)]:=by
 unfold fP at h
 simp only[hu]at h
 obtain⟨ls,rfl,_,h3⟩:=h
 obtain⟨m,hm⟩:=JC (f:=f) (P:=fun y=>∃ d,y=f d) (fun y h=>h) (l:=ls.map (m7 (jF Tryz.prog e))) fun y hy=>by
  obtain⟨z,hz,rfl⟩:=List.mem_map.1 hy
  exact he z (h3 z hz)
 exact⟨m,by rw[hm]⟩
theorem aa9{f:FuncId}{s:PSpec}(h:aZ Tryz.prog f s){W:World}{args:Array Value}{xs:List V}(hr:tH (lq W) xs args.toList)(hp:s.pre xs)(ht:s.fn xs=.bool true):
 Calls Tryz.prog f args W fun e W'=>e=.returned (.bool true)/\RowKit.Below W.heap.size W W':=by
 refine(h.calls (lq W) W xs args (fun b off v hv=>hv) hr hp).mono ?_
 rintro e W' ⟨v,m',rfl,hb,_,_,hv⟩
 rw[ht]at hv
 cases hv
 exact⟨rfl,hb⟩
end Go.Eng
set_option maxRecDepth 100000
namespace Go.Eng
open Go Go.Proofs
theorem abR:jF Tryz.prog 25=true:=by kernel_rfl
theorem abT:jF Tryz.prog 100=true:=by kernel_rfl
theorem abS:jF Tryz.prog 131=true:=by kernel_rfl
theorem Q7{n:Nat}{xs:List V}(h:fP Tryz.prog (n+2) 100 xs):∃ x:R5,.agg xs=ta x:=by
 unfold fP at h
 simp only[Tryz.underlying100]at h
 obtain⟨x1,y,rfl,h1,x2,y2,rfl,h2,x3,y3,rfl,h3,x4,y4,rfl,h4,x5,y5,rfl,h5,rfl⟩:=h
 obtain⟨a,rfl,_⟩:=lT h1
 obtain⟨b,rfl,_⟩:=lT h2
 obtain⟨c,rfl,_⟩:=lT h3
 obtain⟨d,rfl,_⟩:=lT h4
 obtain⟨e,rfl,_⟩:=lT h5
 exact⟨⟨a,b,c,d,e⟩,rfl⟩
theorem Q6{n:Nat}{xs:List V}(h:fP Tryz.prog (n+2) 131 xs):∃ x:R7,.agg xs=vo x:=by
 unfold fP at h
 simp only[Tryz.underlying131]at h
 obtain⟨x1,y,rfl,h1,x2,y2,rfl,h2,x3,y3,rfl,h3,x4,y4,rfl,h4,x5,y5,rfl,h5,x6,y6,rfl,h6,x7,y7,rfl,h7,rfl⟩:=h
 obtain⟨a,rfl,_⟩:=lT h1
 obtain⟨b,rfl,_⟩:=lT h2
 obtain⟨c,rfl,_⟩:=lT h3
 obtain⟨d,rfl,_⟩:=lT h4
 obtain⟨e,rfl,_⟩:=lT h5
 obtain⟨f,rfl,_⟩:=lT h6
 obtain⟨g,rfl,_⟩:=lT h7
 exact⟨⟨a,b,c,d,e,f,g⟩,rfl⟩
theorem HK{n:Nat}{xs:List V}(h:fP Tryz.prog (n+3) 22 xs):∃ l:List R5,xs=[.sl (l.map ta)]:=
 HJ Tryz.underlying22 h fun ys hy=>by
  obtain⟨x,hx⟩:=Q7 hy
  rw[abT]
  exact⟨x,hx⟩
theorem Q5{n:Nat}{xs:List V}(h:fP Tryz.prog (n+3) 23 xs):∃ l:List R7,xs=[.sl (l.map vo)]:=
 HJ Tryz.underlying23 h fun ys hy=>by
  obtain⟨x,hx⟩:=Q6 hy
  rw[abS]
  exact⟨x,hx⟩
theorem Q4{n:Nat}{xs:List V}(h:fP Tryz.prog (n+4) 25 xs):∃ r:Raw,.agg xs=s9 r:=by
 unfold fP at h
 simp only[Tryz.underlying25]at h
 obtain⟨x1,y,rfl,h1,x2,y2,rfl,h2,x3,y3,rfl,h3,rfl⟩:=h
 obtain⟨a,rfl⟩:=HK h1
 obtain⟨b,rfl⟩:=Q5 h2
 obtain⟨c,rfl⟩:=HK h3
 exact⟨⟨a,b,c⟩,rfl⟩
theorem abD{x:V}(h:GZ Tryz.prog 6 25 x):∃ o:Raw,x=s9 o:=by
 obtain⟨xs,h1,rfl⟩:=h
 rw[abR]
 exact Q4 h1
theorem aag(r:Raw):AR (s9 r)=r:=by
 cases r;simp only[s9,AR,aak,aai]
end Go.Eng
set_option linter.constructorNameAsVariable false
namespace Go.Eng
open Go Go.Proofs Go.Proofs.YtepaolcgegdpoaaGreat Go.RowKit Go.ChangeShapes
theorem Uv(hc:∀ (W:World) (args:Array Value) (xs:List V),vO Tryz.prog 6 Tryz.f3.params.toList xs->tH (lq W) xs args.toList->Calls Tryz.prog 3 args W fun e W'=>e=.returned (.bool true)/\Below W.heap.size W W')
 (os:Os) (started:os.Started) (H:Type) (enc:TypeId×Value->H):
 ReturnsInHanded {} Tryz.checked os 3 .any (Rows.loanBackSpec.pre6 enc Tryz.prog Tryz.f3 Rows.loanBackRow.domain false) (Rows.loanBackSpec.post enc Tryz.prog Tryz.f3 false true false false):=by
 refine U1 (C:=Tryz.checked) (n:=6) (tb:=4) Wr started (by kernel_rfl) Tryz.func3
  (ChangeSpec.witness6 (enc:=enc) (C:=Tryz.checked) false ⟨#[],#[.agg #[.slice none 0 0,.slice none 0 0,.slice none 0 0]],[]⟩ 8 (by kernel_rfl) (by kernel_rfl) (by kernel_rfl) (by kernel_rfl))
  Ws ?_ (by kernel_rfl) (by kernel_rfl) rfl ?_ hc
 ·have h:(Tryz.f3.params.toList.all fun t=>lh Tryz.prog 6 t&&Tryz.prog.readableRec t&&decide (t<Tryz.prog.types.size))=true:=by kernel_rfl
  intro t ht
  have :=List.all_eq_true.1 h t ht
  simp only[Bool.and_eq_true,decide_eq_true_eq]at this
  exact⟨this.1.1,this.1.2,this.2⟩
 ·intro ds kP
  have hl:Tryz.f3.params.toList.length=1:=by kernel_rfl
  rw[hl]at kP
  match ds,kP with
  |[d1],_=>exact⟨rfl,rfl,rfl⟩
theorem Uu(hc:∀ (W:World) (args:Array Value) (xs:List V),vO Tryz.prog 6 Tryz.f3.params.toList xs->tH (lq W) xs args.toList->Calls Tryz.prog 3 args W fun e W'=>e=.returned (.bool true)/\Below W.heap.size W W'):
 Rows.LoanBackSaid:=
 OpenClaim.holds_of_wide 3 Tryz.f3 rfl rfl rfl rfl rfl rfl rfl ⟨rfl,rfl,rfl,rfl,rfl⟩ rfl rfl rfl rfl rfl (by kernel_rfl) Tryz.func3 (by kernel_rfl)
  (of_decide_eq_true (by kernel_rfl)) (by unfold Func.isWrapper;first | (rw[if_pos (by decide+kernel)];kernel_rfl) | (rw[if_neg (by decide+kernel)];exact⟨rfl,rfl⟩))
  (fun os started H enc _=>Uv hc os started H enc)
end Go.Eng
set_option maxRecDepth 100000
namespace Go.Eng
open Go Go.Proofs Go.Proofs.YtepaolcgegdpoaaGreat
theorem loanBack_holds:Rows.LoanBackSaid:=
 Uu fun W args xs ha hr=>by
  obtain⟨x,ys,rfl,h1,rfl⟩:=(show vO Tryz.prog 6 [25] xs from ha)
  obtain⟨l,rfl⟩:=abD h1
  exact aa9 s3 hr ⟨congrArg s9 (aag l),trivial⟩ rfl
end Go.Eng
namespace Go.Proofs.YtepaolcgegdpoaaGreat
theorem loanBack_holds : Rows.LoanBackSaid := Go.Eng.loanBack_holds
end Go.Proofs.YtepaolcgegdpoaaGreat
#print axioms Go.Proofs.YtepaolcgegdpoaaGreat.loanBack_holds
