import Derived.Test.YtepaolcgegdpoaaGreatK15
import GoSem.ClaimChange
import Derived.DataReads
import Derived.ChangeReads
import Derived.ProofKit
import Derived.Carry
import Derived.Test.YtepaolcgegdpoaaGreatRows
import Derived.Test.YtepaolcgegdpoaaGreatChecked
/- LoanTrue is proved: of a true history the days of returns are true ones, at the end of each day each leaf is in the chest or with just one borrower whose receipt for it lies in the chest then, it is with one of Where, the leaves that Has tells are there, and May has all that are, at all arguments that the statement covers. -/
set_option linter.all false
namespace Go.Eng
open Go Go.Proofs
theorem Tp:aU Tryz.prog 18 ⟨fun xs=>xs=[],fun _=>.bool true,true⟩:=
 Us (b:=.bool true) Xm (by
  intro fn h
  have e:Tryz.prog.funcs[18]?=some Tryz.f18:=Tryz.func18
  rw[e]at h
  obtain rfl:=Option.some.inj h
  exact(by kernel_rfl:(Tryz.f18.name== "runtime.NumGoroutine")=false)) (by decide) rfl
set_option maxRecDepth 10000
noncomputable section
structure N4 where
 (a b c d:Int)
 deriving Inhabited
def Pc(x:N4):V:=.agg [vInt x.a,vInt x.b,vInt x.c,vInt x.d]
def Pp:V->N4
 | .agg [.int _ a,.int _ b,.int _ c,.int _ d]=>⟨a,b,c,d⟩
 |_=>default
def Ys:En N4:=⟨Pc,Pp⟩
attribute [go_sem] Pc Pp Ys
@[go_sem] theorem aid(x:N4):(⟨x.a,x.b,x.c,x.d⟩:N4)=x:=rfl
def HE:Spec:=(⟨fun xs=>xs=[],fun _=>.bool true,true⟩:PSpec).toSpec
attribute [go_sem] HE
section
attribute [local irreducible] lN gl aM nT
theorem abw{l:Led}(aa:bA l){ds:List Int}(h:∀ d∈ds,0<=d/\d<=100000):cU l ds=0:=by
 rw[<-acF]
 unfold Hr
 rw[if_neg (by rw[DB.2 aa];decide),if_pos]
 rw[List.all_eq_true]
 intro d hd
 unfold dayB
 exact fy (h d hd).1 (h d hd).2
def K95:List (Nat×Spec):=[(19,Q2),(20,Ci),(23,Q0),(38,QZ),(39,QY),(15,ph),(18,HE)]
attribute [go_sem] K95
end
end
section
attribute [local irreducible] lN gl l0 d0 ct be b7 dr
theorem zy{r:Raw}{m:Nat}{s:Sig}(h:s∈lD r m):∃ j,j<m/\s=fv r j:=by
 obtain⟨j,hj,rfl⟩:=List.mem_map.1 h
 exact⟨j,List.mem_range.1 hj,rfl⟩
theorem IM(r:Raw){j:Nat}(hj:j<6):kN (fv r j)=true/\(fv r j).le<=cM (l0 r).ps (fv r j).pa:=by
 obtain⟨e,l1,l2,p1,p2⟩:=qU (pJ (r5 r.ss j).b)
 have ml:=de (n:=(r5 r.ss j).c) (m:=(bE (r5 r.ss j).b).lv) (by omega)
 have md:=de (n:=(r5 r.ss j).d) (m:=200) (by decide)
 have me:=de (n:=(r5 r.ss j).e) (m:=300) (by decide)
 have eV:0<=(fv r j).pe/\(fv r j).pe<=4:=by rw[IJ];exact UE _ _ _ _
 refine⟨?_,?_⟩
 ·have hb:kN (fv r j)=(bO (3*(j:Int)+3) 1 99999&&bO (fv r j).pe 0 99&&bO (bE (r5 r.ss j).b).id 1 999&&bO (1+aM (r5 r.ss j).c (bE (r5 r.ss j).b).lv) 1 30&&dayB (aM (r5 r.ss j).d 200)&&lA (aM (r5 r.ss j).e 300) 0):=rfl
  rw[hb,zn (by omega) (by omega),fy (by omega) (by omega),fy (by omega) (by omega),fy (by omega) (by omega),fy (by omega) (by omega)]
  unfold dayB
  rw[fy (by omega) (by omega)]
  rfl
 ·show 1+aM (r5 r.ss j).c (bE (r5 r.ss j).b).lv<=cM (l0 r).ps (bE (r5 r.ss j).b).id
  rw[Wz];omega
theorem DQ(r:Raw):nS r<=6:=Nat.min_le_right _ _
theorem Zf(r:Raw):(a8 r).ps=(l0 r).ps:=rfl
theorem vB(r:Raw):(a8 r).rs=b7 r:=rfl
theorem xS(r:Raw):(a8 r).ts=rets (dr r):=rfl
theorem vA(r:Raw):(a8 r).ss=lD r (nS r):=rfl
theorem Y'{r:Raw}{t:Ret}(h:t∈(a8 r).ts):t∈(l0 r).ts:=by
 rw[xS]at h
 obtain⟨q,hq,rfl⟩:=List.mem_map.1 h
 exact(zE r (zL r _)).subset (List.mem_map_of_mem (f:=(·.1)) ((show q∈gu (l0 r) (d0 r) (l0 r).ts.length by
  have :=(qI r).subset ((qJ r).subset hq)
  rw[<-Dm]at this
  exact this)))
theorem Ff(r:Raw):bA (a8 r) where
 ps:=(ka r).ps
 psn:=(ka r).psn
 rs:=(ka r).rs
 rsn:=(ka r).rsn
 ts:=(ka r).ts
 tsn:=(ka r).tsn
 ss:=by
  rw[r8,vA]
  refine⟨fun x hx=>?_,?_⟩
  ·obtain⟨j,hj,rfl⟩:=zy hx
   exact(IM r (Nat.lt_of_lt_of_le hj (DQ r))).1
  ·unfold lD
   rw[List.pairwise_map]
   refine List.pairwise_lt_range.imp fun {a b} qg=>?_
   show 3*(a:Int)+3<3*(b:Int)+3
   omega
 ssn:=by rw[vA,II];have:=DQ r;omega
 rl:=(ka r).rl
 sl:=fun j hj=>by
  have hm:=List.getElem_mem hj
  generalize (a8 r).ss[j]=s at hm
  rw[vA]at hm
  obtain⟨i,hi,rfl⟩:=zy hm
  rw[Zf]
  exact(IM r (Nat.lt_of_lt_of_le hi (DQ r))).2
 nd:=by
  have h0:=(ka r).nd
  unfold uI at h0 |-
  have e0:(bN r).ss.map Sig.so=[]:=rfl
  rw[e0,List.append_nil]at h0
  rw[List.nodup_append]
  refine⟨h0,?_,?_⟩
  ·rw[vA]
   unfold lD
   rw[List.map_map,List.nodup_iff_pairwise_ne,List.pairwise_map]
   refine List.pairwise_lt_range.imp fun {a b} qg=>?_
   show 3*(a:Int)+3≠3*(b:Int)+3
   omega
  ·intro a ha b hb e
   subst e
   obtain⟨s,hs,e⟩:=List.mem_map.1 hb
   rw[vA]at hs
   obtain⟨j,hj,rfl⟩:=zy hs
   have hs3:(fv r j).so=3*(j:Int)+3:=rfl
   rcases List.mem_append.1 ha with ha | ha
   ·obtain⟨y,hy,e2⟩:=List.mem_map.1 ha
    rw[vB]at hy
    obtain⟨⟨i,ei⟩,-⟩:=Ec r y (kF hy)
    omega
   ·obtain⟨y,hy,e2⟩:=List.mem_map.1 ha
    obtain⟨i,ei⟩:=Wx r y (Y' hy)
    omega
theorem Fc(r:Raw):aq (a8 r) 900={ aq (bN r) 900 with l:=a8 r }:=by
 rw[Ze];exact V0 _ _ _
theorem abq(x:Vw)(l':Led)(h:l'.ts=x.l.ts):gB { x with l:=l' }=gB x:=by
 funext a b
 unfold gB rP aG
 simp only[h]
theorem UK(x:Vw)(l':Led)(h:l'.ts=x.l.ts):eJ { x with l:=l' }=eJ x:=by
 rw[zP,zP,abq x l' h]
theorem Zb(r:Raw):eJ (aq (a8 r) 900)=none:=by
 rw[Fc,UK _ _ (by rw[pK,xS,w6])]
 exact Dw r
theorem Zc(r:Raw)(L:List Sig):fE (aq (a8 r) 900) L=fE (aq (bN r) 900) L:=by rw[Fc];rfl
theorem UZ(r:Raw){L:List Sig}(hL:∀ s∈L,∃ j,s=fv r j):fE (aq (bN r) 900) L=true:=by
 rw[ON]
 refine⟨fun s hs=>?_,fun i hi=>?_⟩
 ·obtain⟨j,rfl⟩:=hL s hs
  unfold fb
  rcases H0 r j with⟨-,h2⟩ | ⟨m,-,h1,-⟩
  ·rw[h2];simp[cG]
  ·rw[h1];simp
 ·obtain⟨h0,h1⟩:=(j5 (bN r) 900).tl i hi
  obtain⟨m,rfl⟩:∃ m:Nat,i=m:=⟨i.toNat,by omega⟩
  have hm:m<(dr r).length:=by rw[w6,gV]at h1;omega
  obtain⟨a,b⟩:=J5 r hL hm
  omega
theorem IL(r:Raw):∀ s∈fK (a8 r) 900,∃ j,s=fv r j:=fun s hs=>by
 have h:=(List.mem_filter.1 hs).1
 rw[vA]at h
 obtain⟨j,-,e⟩:=zy h
 exact⟨j,e⟩
theorem Nz(r:Raw):kM (a8 r) 900=true:=by
 unfold kM
 rw[Zb,pK,Zc,UZ r (IL r)];rfl
theorem rv(r:Raw){ds:List Int}(h:∀ d∈ds,0<=d/\d<=100000):cU (a8 r) ds=0:=abw (Ff r) h
theorem Fb(r:Raw):rS (a8 r) 900 (dE r)=0:=by
 unfold rS
 rw[if_pos (rv r fun d hd=>by simp only[List.mem_singleton]at hd;omega)]
 have hlen:(dE r).length=(a8 r).ts.length:=by rw[AM,m7,xS,gV]
 have ht:gq (a8 r) 900 (dE r)=true:=by
  unfold gq
  rw[Nz,hlen]
  simp only[decide_true,Bool.true_and,Bool.and_eq_true,List.all_eq_true]
  refine⟨fun d hd=>?_,fun i hi=>?_⟩
  ·rw[AM]at hd
   obtain⟨q,hq,rfl⟩:=List.mem_map.1 hd
   have :=JL ((qI r).subset ((qJ r).subset hq))
   unfold dayB
   exact fy this.1 (by omega)
  ·have bK:i∈(aq (a8 r) 900).ts:=hi
   obtain⟨h0,h1⟩:=(j5 (a8 r) 900).tl i bK
   obtain⟨m,rfl⟩:∃ m:Nat,i=m:=⟨i.toNat,by omega⟩
   have hm:m<(dr r).length:=by rw[xS,gV]at h1;omega
   obtain⟨a,b⟩:=J5 r (IL r) hm
   unfold pw
   rw[Int.toNat_natCast]
   have e:(ba (aq (a8 r) 900) 900).ds=dQ (aq (bN r) 900) (aq (bN r) 900).ds (fK (a8 r) 900):=by
    unfold ba
    rw[Fc];rfl
   rw[e]
   exact fy a b
 rw[ht];rfl
end
theorem at_max{day:Int}{y:Rec}:∀ (l:List Rec) (o:Option Rec),l.foldl (jw day) o=some y->(∀ z∈l,z.da<=day->z.da<=y.da)/\∀ w,o=some w->w.da<=y.da
 |[],o,h=>⟨fun z hz=>(nomatch hz),fun w hw=>by
  have :some w=some y:=hw.symm.trans h
  simp only[Option.some.injEq]at this
  subst this;exact Int.le_refl _⟩
 |x::l,o,h=>by
  obtain⟨h1,h2⟩:=at_max l (jw day o x) h
  unfold jw at h2
  by_cases hc:(decide (x.da<=day)&&(o.isNone||decide (x.da>=(o.getD zeroR).da)))=true
  ·have h3:=h2 x (by rw[if_pos hc])
   simp only[Bool.and_eq_true,decide_eq_true_eq,Bool.or_eq_true]at hc
   refine⟨fun z hz hd=>?_,fun w hw=>?_⟩
   ·rcases List.mem_cons.1 hz with rfl | hz
    ·exact h3
    ·exact h1 z hz hd
   ·subst hw
    rcases hc.2 with h4 | h4
    ·cases h4
    ·simp only[Option.getD_some]at h4;omega
  ·have hn:∀ w,o=some w->w.da<=y.da:=fun w hw=>h2 w (by rw[if_neg hc];exact hw)
   refine⟨fun z hz hd=>?_,hn⟩
   rcases List.mem_cons.1 hz with rfl | hz
   ·simp only[Bool.and_eq_true,decide_eq_true_eq,Bool.or_eq_true,not_and,not_or]at hc
    have h4:=hc hd
    cases o with
    |none=>exact(h4.1 rfl).elim
    |some w=>
     have :=hn w rfl
     have h5:=h4.2
     simp only[Option.getD_some]at h5
     omega
   ·exact h1 z hz hd
def OY(l:Led)(x:Rec)(f:Int):Bool:=l.ts.any fun t=>t.re==x.so&&t.lv.contains f
section
attribute [local irreducible] lN gl l0 d0 ct be b7 dr
end
section
attribute [local irreducible] lN gl l0 d0 ct be b7 dr
theorem Za(r:Raw):bn (a8 r) 900=b7 r:=by
 unfold bn
 rw[vB,List.filter_eq_self]
 exact fun x hx=>Ee r x (kF hx)
theorem NA{r:Raw}{x:Rec}(hx:x∈b7 r):cW (b7 r) x.so=some x:=by
 cases h:cW (b7 r) x.so with
 |none=>
  unfold cW at h
  rw[List.find?_eq_none]at h
  have :=h x hx
  simp at this
 |some y=>
  obtain⟨h1,h2⟩:=qH h
  rw[xo r (kF h1) (kF hx) h2]
theorem Fe(r:Raw):eS (a8 r) 900=0:=ID.1 (Nz r)
theorem NQ{pa f:Int}{x:Rec}:gx pa [f] x=true↔x.pa=pa/\f∈x.lv:=by
 unfold gx
 rw[Bool.and_eq_true,beq_iff_eq,List.any_eq_true]
 constructor
 ·rintro⟨h,n,h1,h2⟩
  rw[List.contains_iff_mem,List.mem_singleton]at h2
  subst h2;exact⟨h,h1⟩
 ·rintro⟨h1,h2⟩
  exact⟨h1,f,h2,by simp⟩
theorem OX{r:Raw}{x y:Rec}(hx:x∈b7 r)(hy:y∈b7 r)(hp:x.pa=y.pa){f:Int}(h1:f∈x.lv)(h2:f∈y.lv)(h:x.so<y.so):x.da≠y.da/\OY (a8 r) x f=true:=by
 obtain⟨k,i,dO,hi,ek,ei,cl⟩:=BJ hx hy h
 obtain⟨aF,n,hn,er,dm,-⟩:=G7 cl (by rw[ek,ei];exact hp) (by rw[ek];exact h1) (by rw[ei];exact h2)
 rw[ek,ei]at aF
 rw[ek]at er
 refine⟨aF,?_⟩
 have EZ:=JC (List.getElem_mem hn) hx er
 unfold OY
 rw[List.any_eq_true]
 refine⟨(be r)[n].1,?_,?_⟩
 ·rw[xS];exact List.mem_map_of_mem (f:=(·.1)) EZ
 ·rw[er,List.contains_iff_mem.2 dm];simp
end
noncomputable section
def oQ(l:Led)(f:Fol)(day q:Int)(x:Rec):Bool:=((x.pa==f.pa&&x.lv.contains f.le)&&decide (x.da<=day))&&(decide (q<0)||decide (x.da>(ao l q.toNat).da))
def iO(l:Led)(f:Fol)(day:Int):Nat->Int
 | 0=> -1
 |s+1=>if oQ l f day (iO l f day s) (ao l s)=true then(s:Int)else iO l f day s
theorem DX(l:Led)(f:Fol)(day:Int):∀ s,iO l f day s= -1\/∃ j:Nat,iO l f day s=j/\j<s
 | 0=>.inl rfl
 |s+1=>by
  unfold iO
  split
  ·exact .inr ⟨s,rfl,by omega⟩
  ·rcases DX l f day s with h | ⟨j,h,hj⟩
   ·exact .inl h
   ·exact .inr ⟨j,h,by omega⟩
def xk(l:Led)(b day q:Int):Int:=if (decide (q<0)||(ao l q.toNat).bo != b)=true then 0 else if (mI l (ao l q.toNat).so day 900 != 0||lO l (ao l q.toNat).so day 900==0)=true then 0 else 1
def mG(l:Led)(f:Fol)(b day:Int):Int:=xk l b day (iO l f day l.rs.length)
def K100:List (Nat×Spec):=[(15,ph),(16,S16)]
theorem aeE:KS K100:=tc uT.sound<|tc Ty.sound<|tn
attribute [go_sem] K100
@[go_sem] def P40:PSpec:=p3 iL iQ xy (fun l _ _=>l.rs.length<=60) (fun l f n=>vInt (mG l f n.a n.b)) true
@[go_sem] def S40:Spec:=P40.toSpec
set_option maxHeartbeats 4000000 in
theorem S':aU Tryz.prog 40 P40:=by
 refine mq (rs:=[.tmp 6]) Tryz.func40 Tryz.ntmps40 fun l f n hp hw=>?_
 have hP:=eK
 simp only[iQ,iL,xy,gA,ft]at hw |-
 have hΓ:=aeE
 have hl:l.rs.length<=maxLen:=by unfold maxLen;omega
 repeat refine sq ?_
 refine rx hΓ [3,4,5] [[3,0],[4,0],[5,0]] (fun K' hK=>by simp only[go_sem];exact ak) ?_
 repeat refine sq ?_
 refine rx hΓ [3,4,5,7] [[3,0],[4,0],[5,0]] (fun K' hK=>by simp only[go_sem];exact ak) ?_
 repeat refine sq ?_
 refine rx hΓ [3,4,5,7,8] [[3,0],[4,0],[5,0]] (fun K' hK=>by simp only[go_sem];exact ak) ?_
 repeat refine sq ?_
 refine aN ?_
 repeat refine sq ?_
 refine cB (fun s:Nat=>[(8,⟨true,.v (vInt s)⟩),(7,⟨true,.v (vInt (iO l f n.b s))⟩)]) (fun s=>[]) (fun s=>s<=l.rs.length) (fun s=>l.rs.length-s) 0 ?_ ?_ ?_ ?_
 ·exact Nat.zero_le _
 ·rfl
 ·rfl
 rintro i hi
 simp only[go_sem]
 repeat refine sq ?_
 refine rx hΓ [3,4,5,7,8,16] [[3,0],[4,0],[5,0]] (fun K' hK=>by simp only[go_sem];exact ak) ?_
 repeat refine sq ?_
 refine ay (fun hb=>?_) fun hb=>?_
 ·have ab:i<l.rs.length:=by simpa using hb
  have au:(i:Int)<l.rs.length:=by omega
  clear hb
  have hx:ao l i=l.rs[i]:=cm ab
  repeat refine sq ?_
  refine aE ?_
  repeat refine sq ?_
  refine aN ?_
  repeat refine sq ?_
  refine rx hΓ [3,4,5,7,8,9] [[3,0],[4,0],[5,0],[9,0]] (fun K' hK=>by simp only[go_sem,ah ab,ai,aj,au,ah ab,au,ai,aj,List.length_map];exact ak) ?_
  rcases DX l f n.b i with hq | ⟨q,hq,jM⟩
  ·repeat refine sq ?_
   refine dx hΓ hP [[],[0],[],[2],u4,u5,u6,u7,u6,[0,1,2,3,4,5,8],ca,dX,eg,gT,il,gT,[0,1,2,3,4,5,6,7,8,9,10,11,12,15],lz,gS,kK,nE,sh,uG,mr,zk,mr,[0,1,2,3,4,5,6,7,8,9,10,11,12,13,14,15,16,17,18,19,20,21,22,25],mr,[0,1,2,3,4,5,6,7,8,9,10,11,12,13,14,15,16,17,18,19,20,21,22,27],[0,1,2,3,4,5,6,7,8,9,10,11,12,13,14,15,16,17,18,19,20,21,22,25,26,27,28],[0,1,2,3,4,5,6,7,8,9,10,11,12,13,14,15,16,17,18,19,20,21,22,25,26,27,28,29],[0,1,2,3,4,5,6,7,8,9,10,11,12,13,14,15,16,17,18,19,20,21,22,25,26,27,28,29,30],u32,CA,H9] [3,4,5,7,8,58] [[3,0],[4,0],[5,0]] (by kernel_rfl) (fun K' hK=>by simp only[go_sem,ah ab,ai,aj,au,hq,mF,Bool.true_or,Int.cast_ofNat_Int,Int.reduceToNat,Int.toNat_zero,Int.toNat_one,Nat.reduceMul,Nat.zero_mul,Nat.one_mul,List.getD_cons_succ,List.getD_cons_zero,Bool.decide_and,Bool.decide_eq_true];exact fF) ?_
   repeat refine sq ?_
   refine ay (fun hb=>?_) fun hb=>?_
   ·repeat refine sq ?_
    have hc:oQ l f n.b (-1) l.rs[i]=true:=by unfold oQ;first | (simp at hb |-;simp_all;done) | grind
    have p6:iO l f n.b (i+1)=(i:Int):=by rw[iO,hq,hx,if_pos hc]
    repeat refine sq ?_
    refine aP hΓ fun K' hK=>?_
    simp only[go_sem,ah ab,ai,aj,au,hq,mF,Bool.true_or]
    repeat (refine⟨an,?_⟩)
    refine hK _ ?_
    clear K' hK
    simp only[go_sem]
    refine kp [3,4,5,7,8] [[3,0],[4,0],[5,0]] ?_
    repeat refine sq ?_
    refine aP hΓ fun K' hK=>?_
    simp only[go_sem,ah ab,ai,aj,au,hq,mF,Bool.true_or]
    repeat (refine⟨an,?_⟩)
    refine hK _ ?_
    clear K' hK
    simp only[go_sem]
    refine⟨i+1,ab,by(show l.rs.length-(i+1)<l.rs.length-i;omega),?_⟩
    refine bd [3,4,5,7,8] [[3,0],[4,0],[5,0]] ?_ ?_<;>simp only[go_sem,a7 ab hl,bb,p6]
   ·repeat refine sq ?_
    have hc:oQ l f n.b (-1) l.rs[i]=false:=by unfold oQ;first | (simp at hb |-;simp_all;done) | grind
    have p6:iO l f n.b (i+1)= -1:=by rw[iO,hq,hx,if_neg (by rw[hc];decide)]
    refine aE ?_
    refine bQ ?_
    simp only[go_sem]
    refine kp [3,4,5,7,8] [[3,0],[4,0],[5,0]] ?_
    repeat refine sq ?_
    refine aP hΓ fun K' hK=>?_
    simp only[go_sem,ah ab,ai,aj,au,hq,mF,Bool.true_or]
    repeat (refine⟨an,?_⟩)
    refine hK _ ?_
    clear K' hK
    simp only[go_sem]
    refine⟨i+1,ab,by(show l.rs.length-(i+1)<l.rs.length-i;omega),?_⟩
    refine bd [3,4,5,7,8] [[3,0],[4,0],[5,0]] ?_ ?_<;>simp only[go_sem,a7 ab hl,bb,p6]
  ·have kV:q<l.rs.length:=by omega
   have AH:(q:Int)<l.rs.length:=by omega
   have jm:decide ((q:Int)<0)=false:=by simp
   have fB:(if (0:Int)>(q:Int)then(0:Int)else(q:Int))=q:=by rw[if_neg (by omega)]
   repeat refine sq ?_
   refine dx hΓ hP [[],[0],[],[2],u4,u5,u6,u7,u6,[0,1,2,3,4,5,8],ca,dX,eg,gT,il,gT,[0,1,2,3,4,5,6,7,8,9,10,11,12,15],lz,gS,kK,nE,sh,uG,mr,zk,mr,[0,1,2,3,4,5,6,7,8,9,10,11,12,13,14,15,16,17,18,19,20,21,22,25],mr,[0,1,2,3,4,5,6,7,8,9,10,11,12,13,14,15,16,17,18,19,20,21,22,27],[0,1,2,3,4,5,6,7,8,9,10,11,12,13,14,15,16,17,18,19,20,21,22,25,26,27,28],[0,1,2,3,4,5,6,7,8,9,10,11,12,13,14,15,16,17,18,19,20,21,22,25,26,27,28,29],[0,1,2,3,4,5,6,7,8,9,10,11,12,13,14,15,16,17,18,19,20,21,22,25,26,27,28,29,30],u32,CA,H9] [3,4,5,7,8,58] [[3,0],[4,0],[5,0]] (by kernel_rfl) (fun K' hK=>by simp only[go_sem,ah ab,ai,aj,au,hq,jm,fB,ah kV,AH,ai,aj,List.length_map,Bool.false_or,Int.cast_ofNat_Int,Int.reduceToNat,Int.toNat_zero,Int.toNat_one,Nat.reduceMul,Nat.zero_mul,Nat.one_mul,List.getD_cons_succ,List.getD_cons_zero,Bool.decide_and,Bool.decide_eq_true];exact fF) ?_
   repeat refine sq ?_
   refine ay (fun hb=>?_) fun hb=>?_
   ·repeat refine sq ?_
    have hc:oQ l f n.b (q:Int) l.rs[i]=true:=by unfold oQ;rw[ai,cm kV];first | (simp at hb |-;simp_all;done) | grind
    have p6:iO l f n.b (i+1)=(i:Int):=by rw[iO,hq,hx,if_pos hc]
    repeat refine sq ?_
    refine aP hΓ fun K' hK=>?_
    simp only[go_sem,ah ab,ai,aj,au,hq,jm,fB,ah kV,AH,ai,aj,List.length_map,Bool.false_or]
    repeat (refine⟨an,?_⟩)
    refine hK _ ?_
    clear K' hK
    simp only[go_sem]
    refine kp [3,4,5,7,8] [[3,0],[4,0],[5,0]] ?_
    repeat refine sq ?_
    refine aP hΓ fun K' hK=>?_
    simp only[go_sem,ah ab,ai,aj,au,hq,jm,fB,ah kV,AH,ai,aj,List.length_map,Bool.false_or]
    repeat (refine⟨an,?_⟩)
    refine hK _ ?_
    clear K' hK
    simp only[go_sem]
    refine⟨i+1,ab,by(show l.rs.length-(i+1)<l.rs.length-i;omega),?_⟩
    refine bd [3,4,5,7,8] [[3,0],[4,0],[5,0]] ?_ ?_<;>simp only[go_sem,a7 ab hl,bb,p6]
   ·repeat refine sq ?_
    have hc:oQ l f n.b (q:Int) l.rs[i]=false:=by unfold oQ;rw[ai,cm kV];first | (simp at hb |-;simp_all;done) | grind
    have p6:iO l f n.b (i+1)=(q:Int):=by rw[iO,hq,hx,if_neg (by rw[hc];decide)]
    refine aE ?_
    refine bQ ?_
    simp only[go_sem]
    refine kp [3,4,5,7,8] [[3,0],[4,0],[5,0]] ?_
    repeat refine sq ?_
    refine aP hΓ fun K' hK=>?_
    simp only[go_sem,ah ab,ai,aj,au,hq,jm,fB,ah kV,AH,ai,aj,List.length_map,Bool.false_or]
    repeat (refine⟨an,?_⟩)
    refine hK _ ?_
    clear K' hK
    simp only[go_sem]
    refine⟨i+1,ab,by(show l.rs.length-(i+1)<l.rs.length-i;omega),?_⟩
    refine bd [3,4,5,7,8] [[3,0],[4,0],[5,0]] ?_ ?_<;>simp only[go_sem,a7 ab hl,bb,p6]
 ·have bB:i=l.rs.length:=by
   have :¬ (i:Int)<l.rs.length:=by simpa using hb
   omega
  clear hb
  subst bB
  repeat refine sq ?_
  refine bT ?_
  simp only[go_sem]
  refine kp [3,5,7] [[3,0],[5,0]] ?_
  rcases DX l f n.b l.rs.length with hz | ⟨z,hz,sQ⟩
  ·have e:mG l f n.a n.b=0:=by unfold mG;rw[hz];rfl
   repeat refine sq ?_
   refine dx hΓ hP [[],[0],[0,1],[0,1,2],u4,[0,1,2],u6,u7,u8,[0,1,2],[0,1,2,9],dX,eg] [3,5,7,72] [[3,0],[5,0]] (by kernel_rfl) (fun K' hK=>by simp only[go_sem,hz,mF,Bool.true_or,Int.cast_ofNat_Int,Int.reduceToNat,Int.toNat_zero,Int.toNat_one,Nat.reduceMul,Nat.zero_mul,Nat.one_mul,List.getD_cons_succ,List.getD_cons_zero];exact fF) ?_
   repeat refine sq ?_
   refine ay (fun hb=>?_) fun hb=>?_
   ·repeat refine sq ?_
    refine rx hΓ [6] [] (fun K' hK=>by simp only[go_sem,hz,mF,Bool.true_or];exact ak) ?_
    refine aA ?_
    simp only[go_sem]
    first | (rw[e];done) | (rw[e];rfl) | trace_state
   ·cases hb
  ·have vv:(z:Int)<l.rs.length:=by omega
   have rj:decide ((z:Int)<0)=false:=by simp
   have ez:mG l f n.a n.b=xk l n.a n.b z:=by unfold mG;rw[hz]
   have xN:ao l z=l.rs[z]:=cm sQ
   repeat refine sq ?_
   refine dx hΓ hP [[],[0],[0,1],[0,1,2],u4,[0,1,2],u6,u7,u8,[0,1,2],[0,1,2,9],dX,eg] [3,5,7,72] [[3,0],[5,0]] (by kernel_rfl) (fun K' hK=>by simp only[go_sem,hz,rj,ah sQ,vv,ai,aj,List.length_map,Bool.false_or,Int.cast_ofNat_Int,Int.reduceToNat,Int.toNat_zero,Int.toNat_one,Nat.reduceMul,Nat.zero_mul,Nat.one_mul,List.getD_cons_succ,List.getD_cons_zero];exact fF) ?_
   repeat refine sq ?_
   refine ay (fun hb=>?_) fun hb=>?_
   ·repeat refine sq ?_
    have e:mG l f n.a n.b=0:=by
     rw[ez]
     unfold xk
     rw[if_pos (by rw[ai,xN,rj,Bool.false_or];exact hb)]
    repeat refine sq ?_
    refine rx hΓ [6] [] (fun K' hK=>by simp only[go_sem,hz,rj,ah sQ,vv,ai,aj,List.length_map,Bool.false_or];exact ak) ?_
    refine aA ?_
    simp only[go_sem]
    first | (rw[e];done) | (rw[e];rfl) | trace_state
   ·repeat refine sq ?_
    have YA:(decide ((z:Int)<0)||(ao l (z:Int).toNat).bo != n.a)=false:=by rw[ai,xN,rj,Bool.false_or];exact hb
    have OZ:mG l f n.a n.b=if (mI l l.rs[z].so n.b 900 != 0||lO l l.rs[z].so n.b 900==0)=true then 0 else 1:=by
     rw[ez]
     unfold xk
     rw[if_neg (by rw[YA];decide),ai,xN]
    refine aE ?_
    repeat refine sq ?_
    refine dx hΓ hP [[],[],[1],[],[1,2,3],[1,2,3,4],[1,2,3,4,5],[],[7],u9,ca,dX,dX,eg,il] [10,11] [] (by kernel_rfl) (fun K' hK=>by simp only[go_sem,hz,rj,ah sQ,vv,ai,aj,List.length_map,Bool.false_or,Int.cast_ofNat_Int,Int.reduceToNat,Int.toNat_zero,Int.toNat_one,Nat.reduceMul,Nat.zero_mul,Nat.one_mul,List.getD_cons_succ,List.getD_cons_zero];exact fF) ?_
    repeat refine sq ?_
    refine rx hΓ [91] [] (fun K' hK=>by simp only[go_sem,hz,rj,ah sQ,vv,ai,aj,List.length_map,Bool.false_or];exact ak) ?_
    repeat refine sq ?_
    refine ay (fun hb=>?_) fun hb=>?_
    ·repeat refine sq ?_
     have e:mG l f n.a n.b=0:=by rw[OZ];exact if_pos hb
     repeat refine sq ?_
     refine rx hΓ [6] [] (fun K' hK=>by simp only[go_sem,hz,rj,ah sQ,vv,ai,aj,List.length_map,Bool.false_or];exact ak) ?_
     refine aA ?_
     simp only[go_sem]
     first | (rw[e];done) | (rw[e];rfl) | trace_state
    ·repeat refine sq ?_
     have e:mG l f n.a n.b=1:=by rw[OZ];exact if_neg (by rw[hb];decide)
     refine aE ?_
     repeat refine sq ?_
     refine rx hΓ [6] [] (fun K' hK=>by simp only[go_sem,hz,rj,ah sQ,vv,ai,aj,List.length_map,Bool.false_or];exact ak) ?_
     refine aA ?_
     simp only[go_sem]
     first | (rw[e];done) | (rw[e];rfl) | trace_state
end
section
attribute [local irreducible] lN gl l0 d0 ct be b7 dr
def oM(f:Fol)(day:Int)(x:Rec):Bool:=(x.pa==f.pa&&x.lv.contains f.le)&&decide (x.da<=day)
theorem KG(l:Led)(f:Fol)(day:Int):∀ s,s<=l.rs.length->
 (iO l f day s= -1/\∀ i,i<s->oM f day (ao l i)=false)\/
 ∃ j:Nat,iO l f day s=j/\j<s/\oM f day (ao l j)=true/\∀ i,i<s->oM f day (ao l i)=true->(ao l i).da<=(ao l j).da
 | 0,_=>.inl ⟨rfl,fun i h=>absurd h (Nat.not_lt_zero i)⟩
 |s+1,hs=>by
  have ih:=KG l f day s (by omega)
  rw[iO]
  have hc:∀ q,oQ l f day q (ao l s)=(oM f day (ao l s)&&(decide (q<0)||decide ((ao l s).da>(ao l q.toNat).da))):=fun q=>rfl
  rcases ih with⟨h1,h2⟩ | ⟨j,h1,hj,h2,h3⟩
  ·rw[h1,hc]
   by_cases hq:oM f day (ao l s)=true
   ·rw[hq,if_pos (show (true&&(decide ((-1:Int)<0)||decide ((ao l s).da>(ao l (-1:Int).toNat).da)))=true from rfl)]
    refine .inr ⟨s,rfl,by omega,hq,fun i hi jM=>?_⟩
    by_cases e:i=s
    ·subst e;exact Int.le_refl _
    ·rw[h2 i (by omega)]at jM;cases jM
   ·have bL:oM f day (ao l s)=false:=by simpa using hq
    rw[bL,if_neg (by simp)]
    refine .inl ⟨rfl,fun i hi=>?_⟩
    by_cases e:i=s
    ·subst e;exact bL
    ·exact h2 i (by omega)
  ·rw[h1,hc,Int.toNat_natCast,decide_eq_false (show ¬ (j:Int)<0 by omega),Bool.false_or]
   by_cases hq:oM f day (ao l s)=true/\(ao l s).da>(ao l j).da
   ·rw[hq.1,decide_eq_true hq.2,if_pos (by decide)]
    refine .inr ⟨s,rfl,by omega,hq.1,fun i hi jM=>?_⟩
    by_cases e:i=s
    ·subst e;exact Int.le_refl _
    ·have:=h3 i (by omega) jM;omega
   ·rw[if_neg (by rw[Bool.and_eq_true,decide_eq_true_eq];exact hq)]
    refine .inr ⟨j,rfl,by omega,h2,fun i hi jM=>?_⟩
    by_cases e:i=s
    ·subst e
     exact Int.not_lt.1 fun h=>hq ⟨jM,h⟩
    ·exact h3 i (by omega) jM
theorem JD{pa f day:Int}{x:Rec}:oM ⟨pa,f⟩ day x=true↔x.pa=pa/\f∈x.lv/\x.da<=day:=by
 unfold oM
 rw[Bool.and_eq_true,Bool.and_eq_true,beq_iff_eq,List.contains_iff_mem,decide_eq_true_eq,and_assoc]
theorem at_le{day:Int}{y:Rec}:∀ (l:List Rec) (o:Option Rec),l.foldl (jw day) o=some y->(∀ w,o=some w->w.da<=day)->y.da<=day
 |[],o,h,hw=>hw y h
 |x::l,o,h,hw=>at_le l (jw day o x) h fun w e=>by
  unfold jw at e
  split at e
  ·rename_i hc
   simp only[Option.some.injEq]at e
   subst e
   simp only[Bool.and_eq_true,decide_eq_true_eq]at hc
   exact hc.1
  ·exact hw w e
theorem Wt(r:Raw){pa f day:Int}(hd0:0<=day)(hd1:day<220)(hb:el (aq (a8 r) 900) (dE r) pa day f≠0):
 mG (a8 r) ⟨pa,f⟩ (el (aq (a8 r) 900) (dE r) pa day f) day=1:=by
 have bP:(aq (a8 r) 900).rs=b7 r:=by rw[vm,Za]
 have ye:cU (a8 r) [900]=0:=rv r fun d hd=>by simp only[List.mem_singleton]at hd;omega
 have FW:cU (a8 r) [day,900]=0:=rv r fun d hd=>by simp only[List.mem_cons,List.not_mem_nil,or_false]at hd;omega
 obtain⟨-,-,YT⟩:=CB ye (Fb r)
 unfold el at hb
 rw[bP]at hb
 cases av:eR (b7 r) pa f day with
 |none=>rw[av]at hb;exact(hb rfl).elim
 |some y=>
  rw[av]at hb
  simp only at hb
  have M8:y∈dA (b7 r) pa [f]:=by
   rcases at_fold _ _ av with h1 | h1
   ·exact h1
   ·cases h1
  have hy:=(List.mem_filter.1 M8).1
  obtain⟨Cs,yf⟩:=NQ.1 (List.mem_filter.1 M8).2
  have Rw:=at_le _ _ av fun w e=>by cases e
  have kW:el (aq (a8 r) 900) (dE r) pa day f=y.bo:=by
   unfold el
   rw[bP,av]
   simp only
   cases aI:bu (aq (a8 r) 900).bk (y.so,f)with
   |none=>rfl
   |some i=>
    rw[aI]at hb
    simp only at hb |-
    by_cases hc:(dE r).getD i.toNat 0>day
    ·rw[if_pos hc]
    ·rw[if_neg hc]at hb;exact(hb rfl).elim
  rw[kW]
  obtain⟨n,hn,en⟩:=List.getElem_of_mem hy
  have EH:ao (a8 r) n=y:=by
   have vD:n<(a8 r).rs.length:=by rw[vB];exact hn
   rw[cm vD]
   simp only[vB]
   exact en
  have s9:n<(a8 r).rs.length:=by rw[vB];exact hn
  have Nq:oM ⟨pa,f⟩ day y=true:=JD.2 ⟨Cs,yf,Rw⟩
  unfold mG
  rcases KG (a8 r) ⟨pa,f⟩ day (a8 r).rs.length (Nat.le_refl _)with⟨-,h2⟩ | ⟨j,h1,hj,h2,h3⟩
  ·have:=h2 n s9
   rw[EH,Nq]at this;cases this
  ·have AV:ao (a8 r) j∈b7 r:=by rw[cm hj,<-vB];exact List.getElem_mem hj
   obtain⟨Ev,jf,Yi⟩:=JD.1 h2
   have k1:=h3 n s9 (by rw[EH];exact Nq)
   rw[EH]at k1
   have k2:=(at_max _ _ av).1 (ao (a8 r) j) (List.mem_filter.2 ⟨AV,NQ.2 ⟨Ev,jf⟩⟩) Yi
   have ej:ao (a8 r) j=y:=by
    rcases Int.lt_trichotomy (ao (a8 r) j).so y.so with h4 | h4 | h4
    ·have:=(OX AV hy (by rw[Ev,Cs]) jf yf h4).1;omega
    ·exact xo r (kF AV) (kF hy) h4
    ·have:=(OX hy AV (by rw[Ev,Cs]) yf jf h4).1;omega
   rw[h1]
   unfold xk
   rw[Int.toNat_natCast,ej,decide_eq_false (show ¬ (j:Int)<0 by omega)]
   have hbb:(y.bo != y.bo)=false:=by simp
   rw[hbb,if_neg (by decide)]
   have he:mI (a8 r) y.so day 900=0:=by
    unfold mI
    rw[if_pos FW,bP,NA hy]
    exact Fe r
   have ha:(lO (a8 r) y.so day 900==0)=false:=by
    rw[beq_eq_false_iff_ne]
    unfold lO
    rw[if_pos he,bP,NA hy]
    show dI _ y day≠0
    unfold dI
    rw[if_neg (by omega)]
    cases gN:y.lv.any (qM (ba (aq (a8 r) 900) 900) y day)with
    |true=>rw[if_pos rfl];decide
    |false=>
     rw[if_neg (by decide)]
     have Zr:y.lv.any (sF (ba (aq (a8 r) 900) 900) y day)=true:=by
      rw[List.any_eq_true]
      refine⟨f,yf,?_⟩
      rw[List.any_eq_false]at gN
      have ho:=gN f yf
      unfold qM at ho
      unfold sF
      cases aI:bu (ba (aq (a8 r) 900) 900).bk (y.so,f)with
      |none=>rw[aI]at ho;exact(ho rfl).elim
      |some i=>
       have A9:bu (aq (a8 r) 900).bk (y.so,f)=some i:=aI
       rw[A9]at hb
       simp only at hb |-
       obtain⟨m,rfl,hm⟩:=Qa A9
       have :=YT m hm
       rw[Int.toNat_natCast]at hb
       by_cases hc:(dE r).getD m 0>day
       ·rw[decide_eq_true_eq];omega
       ·rw[if_neg hc]at hb;exact(hb rfl).elim
     rw[Zr];decide
   rw[he,ha]
   decide
end
theorem abp(x:Fol):By (gA x)=x:=rfl
@[go_sem] theorem aik(l:List Fol):(l.map gA).map By=l:=qV abp l
theorem OI{a b:Fol}(h:(a.pa==b.pa&&a.le==b.le)=true):a=b:=by
 obtain⟨p,q⟩:=a
 obtain⟨r,s⟩:=b
 simp only[Bool.and_eq_true,beq_iff_eq]at h
 rw[h.1,h.2]
noncomputable section
theorem aaR{a b:Fol}:(a.pa==b.pa&&a.le==b.le)=decide (a=b):=by
 rw[Bool.eq_iff_iff,decide_eq_true_eq]
 exact⟨OI,fun h=>by rw[h];simp⟩
@[go_sem] def P25:PSpec:=p2 (fP iQ) iQ (fun _ _=>True) (fun l f=>.bool (l.contains f)) true
@[go_sem] def S25:Spec:=P25.toSpec
set_option maxHeartbeats 4000000 in
theorem Te:aU Tryz.prog 25 P25:=by
 refine eZ (rs:=[.tmp 4]) Tryz.func25 Tryz.ntmps25 fun l f hp hw=>?_
 have hP:=eK
 simp only[iQ,fP,gA]at hw |-
 have hΓ:=@fx Tryz.prog
 have hl:l.length<=maxLen:=by have:=hw.1.1;simpa using this
 repeat refine sq ?_
 refine rx hΓ [0,3] [[3,0]] (fun K' hK=>by simp only[go_sem];exact ak) ?_
 repeat refine sq ?_
 refine rx hΓ [0,3,5] [[3,0]] (fun K' hK=>by simp only[go_sem];exact ak) ?_
 repeat refine sq ?_
 refine aN ?_
 repeat refine sq ?_
 refine cB (fun s:Nat=>[(5,⟨true,.v (vInt s)⟩)]) (fun s=>[]) (fun s=>s<=l.length/\∀ j (hj:j<l.length),j<s->¬ l[j]=f) (fun s=>l.length-s) 0 ?_ ?_ ?_ ?_
 ·exact⟨Nat.zero_le _,fun j _ h=>by omega⟩
 ·rfl
 ·rfl
 rintro i ⟨hi,hR⟩
 simp only[go_sem]
 repeat refine sq ?_
 refine rx hΓ [0,3,5,9] [[3,0]] (fun K' hK=>by simp only[go_sem];exact ak) ?_
 repeat refine sq ?_
 refine ay (fun hb=>?_) fun hb=>?_
 ·have ab:i<l.length:=by simpa using hb
  have au:(i:Int)<l.length:=by omega
  clear hb
  repeat refine sq ?_
  refine aE ?_
  repeat refine sq ?_
  refine aN ?_
  repeat refine sq ?_
  refine dx hΓ hP [[],[],[0,1],[0,1,2],[],u5] [0,3,5,17] [[3,0]] (by kernel_rfl) (fun K' hK=>by simp only[go_sem,ah ab,ai,aj,au];exact fF) ?_
  repeat refine sq ?_
  refine ay (fun hb=>?_) fun hb=>?_
  ·repeat refine sq ?_
   have e:l.contains f=true:=List.contains_iff_mem.2 (by rw[<-OI hb];exact List.getElem_mem ab)
   repeat refine sq ?_
   refine rx hΓ [4] [] (fun K' hK=>by simp only[go_sem,ah ab,ai,aj,au];exact ak) ?_
   refine aA ?_
   simp only[go_sem]
   rw[e]
  ·repeat refine sq ?_
   have e:¬ l[i]=f:=fun h=>by rw[aaR,decide_eq_true h]at hb;cases hb
   refine aE ?_
   refine bQ ?_
   simp only[go_sem]
   refine kp [0,3,5] [[3,0]] ?_
   repeat refine sq ?_
   refine aP hΓ fun K' hK=>?_
   simp only[go_sem,ah ab,ai,aj,au]
   repeat (refine⟨an,?_⟩)
   refine hK _ ?_
   clear K' hK
   simp only[go_sem]
   refine⟨i+1,⟨ab,?_⟩,by(show l.length-(i+1)<l.length-i;omega),?_⟩
   ·intro j hj fe
    rcases Nat.lt_succ_iff_lt_or_eq.1 fe with h5 | rfl
    ·exact hR j hj h5
    ·exact e
   refine bd [0,3,5] [[3,0]] ?_ ?_<;>simp only[go_sem,a7 ab hl,bb]
 ·have bB:i=l.length:=by
   have :¬ (i:Int)<l.length:=by simpa using hb
   omega
  clear hb
  subst bB
  repeat refine sq ?_
  refine bT ?_
  simp only[go_sem]
  refine kp [] [] ?_
  repeat refine sq ?_
  refine rx hΓ [4] [] (fun K' hK=>by simp only[go_sem];exact ak) ?_
  refine aA ?_
  simp only[go_sem]
  have e:l.contains f=false:=by
   rw[Bool.eq_false_iff]
   intro h
   obtain⟨j,hj,e⟩:=List.getElem_of_mem (List.contains_iff_mem.1 h)
   exact hR j hj hj e
  rw[e]
end
noncomputable section
structure N3 where
 (a b c:Int)
 deriving Inhabited
def Bq(x:N3):V:=.agg [vInt x.a,vInt x.b,vInt x.c]
def Pr:V->N3
 | .agg [.int _ a,.int _ b,.int _ c]=>⟨a,b,c⟩
 |_=>default
def ED:En N3:=⟨Bq,Pr⟩
attribute [go_sem] Bq Pr ED
@[go_sem] theorem aie(x:N3):(⟨x.a,x.b,x.c⟩:N3)=x:=rfl
theorem aaQ{l:Led}{p:Pap}(h:p∈l.ps){j:Nat}(h1:1<=j)(h2:(j:Int)<=p.lv):(⟨p.id,(j:Int)⟩:Fol)∈dG l:=by
 unfold dG
 refine List.mem_flatMap.2 ⟨p,h,?_⟩
 unfold pf
 refine List.mem_map.2 ⟨j-1,List.mem_range.2 (by omega),?_⟩
 have :((j-1+1:Nat):Int)=j:=by omega
 rw[this]
theorem VJ(r:Raw)(n:Int):bE n∈(a8 r).ps:=pJ n
theorem Fg(r:Raw):(a8 r).ps=mps:=rfl
theorem Y9(r:Raw){f:Fol}{day:Int}(h0:0<=day)(h1:day<220)(hf:bO f.le 1 (cM (a8 r).ps f.pa)=true):nD (a8 r) f day 900=0/\ze (a8 r) f day 900=pq (ba (aq (a8 r) 900) 900) f.pa f.le day:=by
 have hd:cU (a8 r) [day,900]=0:=rv r fun d hd=>by simp only[List.mem_cons,List.not_mem_nil,or_false]at hd;omega
 have he:nD (a8 r) f day 900=0:=by
  unfold nD
  rw[if_pos hd,if_pos hf];exact Fe r
 exact⟨he,by unfold ze;rw[if_pos he]⟩
theorem Fa(r:Raw){pe day:Int}(h0:0<=day)(h1:day<220)(p0:0<=pe)(p1:pe<5)(g:Nat×Int):jY (a8 r) pe day 900=0/\iK (a8 r) pe day 900 g=(dG (a8 r)).filter (l5 (ba (aq (a8 r) 900) 900) g day):=by
 have hd:cU (a8 r) [day,900]=0:=rv r fun d hd=>by simp only[List.mem_cons,List.not_mem_nil,or_false]at hd;omega
 have he:jY (a8 r) pe day 900=0:=by
  unfold jY
  rw[if_pos (G9 (Ff r)),if_pos (fy p0 (by omega)),if_pos hd];exact Fe r
 exact⟨he,by unfold iK;rw[if_pos he]⟩
theorem Zd(r:Raw){p:Pap}(hp:p∈(a8 r).ps){day pe:Int}(h0:0<=day)(h1:day<220)(p0:0<=pe)(p1:pe<5){j:Nat}(j1:1<=j)(j2:(j:Int)<=p.lv):
 (pq (ba (aq (a8 r) 900) 900) p.id j day).contains (el (aq (a8 r) 900) (dE r) p.id day j)=true/\
 ((iK (a8 r) pe day 900 (105,pe)).contains ⟨p.id,(j:Int)⟩&&(el (aq (a8 r) 900) (dE r) p.id day j != pe))=false/\
 (!(iK (a8 r) pe day 900 (107,pe)).contains ⟨p.id,(j:Int)⟩&&(el (aq (a8 r) 900) (dE r) p.id day j==pe))=false/\
 ((el (aq (a8 r) 900) (dE r) p.id day j != 0)&&(mG (a8 r) ⟨p.id,(j:Int)⟩ (el (aq (a8 r) 900) (dE r) p.id day j) day != 1))=false:=by
 have ye:cU (a8 r) [900]=0:=rv r fun d hd=>by simp only[List.mem_singleton]at hd;omega
 have fC:=UF ye (Fb r) p.id j day
 refine⟨List.contains_iff_mem.2 fC,?_,?_,?_⟩
 ·rw[Bool.eq_false_iff]
  intro h
  rw[Bool.and_eq_true,List.contains_iff_mem,(Fa r h0 h1 p0 p1 _).2,List.mem_filter,bne_iff_ne]at h
  obtain⟨⟨-,h2⟩,h3⟩:=h
  unfold l5 ra at h2
  rw[if_pos rfl,Bool.and_eq_true,beq_iff_eq,beq_iff_eq]at h2
  obtain⟨h4,h5⟩:=h2
  match hw:pq (ba (aq (a8 r) 900) 900) p.id j day,h4,h5,fC with
  |[a],_,h5,fC=>
   simp only[List.mem_singleton]at fC
   simp only[List.getD_cons_zero]at h5
   exact h3 (by rw[fC,h5])
  |[],h4,_,_=>simp at h4
  |_::_::_,h4,_,_=>simp at h4;omega
 ·rw[Bool.eq_false_iff]
  intro h
  rw[Bool.and_eq_true,Bool.not_eq_true',beq_iff_eq]at h
  obtain⟨h2,h3⟩:=h
  rw[h3]at fC
  have :(iK (a8 r) pe day 900 (107,pe)).contains ⟨p.id,(j:Int)⟩=true:=by
   rw[List.contains_iff_mem,(Fa r h0 h1 p0 p1 _).2,List.mem_filter]
   refine⟨aaQ hp j1 j2,?_⟩
   unfold l5 ra
   rw[if_neg (show ¬ (107:Nat)=105 by decide)]
   exact List.contains_iff_mem.2 fC
  rw[h2]at this;cases this
 ·rw[Bool.eq_false_iff]
  intro h
  rw[Bool.and_eq_true,bne_iff_ne,bne_iff_ne]at h
  exact h.2 (Wt r h0 h1 h.1)
section
attribute [local irreducible] lN gl aM nT l0 d0 ct be b7 dr a8 dE
def K101:List (Nat×Spec):=[(14,S14),(20,Ci),(37,Ch),(38,QZ),(39,QY),(32,S32),(34,S34),(23,Q0),(15,ph),(25,S25),(40,S40),(18,HE)]
theorem aeD:KS K101:=tc TE.sound<|tc CU.sound<|tc CT.sound<|tc Tb.sound<|tc Ta.sound<|tc Td.sound<|tc Tc.sound<|tc Tf.sound<|tc uT.sound<|tc Te.sound<|tc S'.sound<|tc Tp.sound<|tn
attribute [go_sem] K101
@[go_sem] def P6:PSpec:=p2 sO ED (fun _ _=>True) (fun _ _=>.bool true) true
@[go_sem] def S6:Spec:=P6.toSpec
set_option maxHeartbeats 4000000 in
theorem s6:aU Tryz.prog 6 P6:=by
 refine eZ (rs:=[.tmp 4]) Tryz.func6 Tryz.ntmps6 fun r n hp hw=>?_
 have hP:=eK
 simp only[ED,sO]at hw |-
 have hΓ:=aeD
 have m1:=de (n:=n.a) (m:=220) (by decide)
 have mc:=de (n:=n.b) (m:=3) (by decide)
 have m5:=de (n:=n.c) (m:=5) (by decide)
 have aa:=Ff r
 have aaf:=G9 aa
 have xI:=Fb r
 have ye:cU (a8 r) [900]=0:=rv r fun d hd=>by simp only[List.mem_singleton]at hd;omega
 have FW:cU (a8 r) [aM n.a 220,900]=0:=rv r fun d hd=>by simp only[List.mem_cons,List.not_mem_nil,or_false]at hd;omega
 obtain⟨jk,-,-⟩:=CB ye xI
 obtain⟨kZ,l1,l2,p1,p2⟩:=qU (pJ n.b)
 have pY:(mps.length:Int)=3:=rfl
 have pZ:0<=aM n.b 3:=mc.1
 have mP:aM n.b 3<((a8 r).ps.length:Int):=by rw[Fg];omega
 have tq:((a8 r).ps.map cP).getD (aM n.b 3).toNat default=cP (bE n.b):=by
  rw[Fg]
  have hl:(aM n.b 3).toNat<mps.length:=by omega
  rw[ah hl];unfold bE;rw[cj hl]
 have Y7:=VJ r n.b
 have Ft:cM (a8 r).ps (bE n.b).id=(bE n.b).lv:=by rw[Fg];exact kZ
 have x8:mC (a8 r) (dE r) (bE n.b).id (aM n.a 220) 900=0:=by unfold mC;rw[if_pos FW,Ft,if_neg (by omega),if_pos jk]
 have x9:nM (a8 r) (dE r) (bE n.b).id (aM n.a 220) 900=fw (aq (a8 r) 900) (dE r) (bE n.b).id (aM n.a 220) (bE n.b).lv.toNat (bE n.b).lv.toNat:=by unfold nM;rw[if_pos x8,Ft]
 have y1:=wX (aq (a8 r) 900) (dE r) (bE n.b).id (aM n.a 220) (bE n.b).lv.toNat (bE n.b).lv.toNat
 have y2:=JO (aq (a8 r) 900) (dE r) (bE n.b).id (aM n.a 220) (bE n.b).lv.toNat (bE n.b).lv.toNat (Nat.le_refl _)
 obtain⟨w1,-⟩:=Fa r m1.1 m1.2 m5.1 m5.2 (0,0)
 have b1:=aa.rsn
 repeat refine sq ?_
 refine rx hΓ [2,3] [[2,0],[3,0]] (fun K' hK=>by simp only[go_sem];exact ak) ?_
 repeat refine sq ?_
 refine rx hΓ [3,5,6] [[3,0],[5,0]] (fun K' hK=>by simp only[go_sem];exact ak) ?_
 repeat refine sq ?_
 refine rx hΓ [3,5,6,7] [[3,0],[5,0]] (fun K' hK=>by simp only[go_sem,Int.cast_ofNat_Int,Int.reduceToNat,Int.toNat_zero,Int.toNat_one,Nat.reduceMul,Nat.zero_mul,Nat.one_mul,List.getD_cons_succ,List.getD_cons_zero];(repeat (refine⟨by first | exact an | exact⟨by decide,by decide⟩,?_⟩));exact fD) ?_
 repeat refine sq ?_
 refine dx hΓ hP [[],[0],[],[2],[2,3],u5,u6,[],u8] [3,5,6,7,8] [[3,0],[5,0],[8,0]] (by kernel_rfl) (fun K' hK=>by simp only[go_sem,Int.cast_ofNat_Int,Int.reduceToNat,Int.toNat_zero,Int.toNat_one,Nat.reduceMul,Nat.zero_mul,Nat.one_mul,List.getD_cons_succ,List.getD_cons_zero,tq,pZ,mP,List.length_map];(repeat (refine⟨by first | exact an | exact⟨by decide,by decide⟩,?_⟩));exact fG) ?_
 repeat refine sq ?_
 refine rx hΓ [5,6,7,8,9] [[5,0],[8,0]] (fun K' hK=>by simp only[go_sem,Int.cast_ofNat_Int,Int.reduceToNat,Int.toNat_zero,Int.toNat_one,Nat.reduceMul,Nat.zero_mul,Nat.one_mul,List.getD_cons_succ,List.getD_cons_zero];(repeat (refine⟨by first | exact an | exact⟨by decide,by decide⟩,?_⟩));exact fD) ?_
 repeat refine sq ?_
 refine rx hΓ [5,6,7,8,9,46] [[5,0],[8,0]] (fun K' hK=>by simp only[go_sem,aaf,xI,bne_self_eq_false,Bool.or_self];exact ak) ?_
 repeat refine sq ?_
 refine ay (fun hb=>?_) fun hb=>?_
 ·cases hb
 ·repeat refine sq ?_
  refine aE ?_
  generalize hp_:bE n.b=p at *
  generalize ah3:aM n.a 220=day at *
  generalize eV:aM n.c 5=pe at *
  generalize hPL:fw (aq (a8 r) 900) (dE r) p.id day p.lv.toNat p.lv.toNat=PL at *
  have y5:(PL.length:Int)=p.lv:=by omega
  have y6:PL.length<=maxLen:=by unfold maxLen;omega
  repeat refine sq ?_
  refine rx hΓ [5,7,8,9,10,11] [[5,0],[8,0]] (fun K' hK=>by simp only[go_sem,x8,x9];exact ak) ?_
  repeat refine sq ?_
  refine rx hΓ [5,7,8,9,10,11,12,13] [[5,0],[8,0]] (fun K' hK=>by simp only[go_sem,w1];exact ak) ?_
  repeat refine sq ?_
  refine rx hΓ [5,7,8,9,10,11,12,13,14,15] [[5,0],[8,0]] (fun K' hK=>by simp only[go_sem,w1];exact ak) ?_
  repeat refine sq ?_
  refine rx hΓ [5,7,8,9,10,12,14,86] [[5,0],[8,0]] (fun K' hK=>by simp only[go_sem,y5,bne_self_eq_false,Bool.or_self];exact ak) ?_
  repeat refine sq ?_
  refine ay (fun hb=>?_) fun hb=>?_
  ·cases hb
  ·repeat refine sq ?_
   refine aE ?_
   repeat refine sq ?_
   refine rx hΓ [5,7,8,9,10,12,14,16] [[5,0],[8,0]] (fun K' hK=>by simp only[go_sem];exact ak) ?_
   repeat refine sq ?_
   refine aN ?_
   repeat refine sq ?_
   refine cB (fun s:Nat=>[(16,⟨true,.v (vInt s)⟩)]) (fun s=>[]) (fun s=>s<=PL.length) (fun s=>PL.length-s) 0 ?_ ?_ ?_ ?_
   ·exact Nat.zero_le _
   ·rfl
   ·rfl
   rintro i hi
   simp only[go_sem]
   repeat refine sq ?_
   refine rx hΓ [5,7,8,9,10,12,14,16,90] [[5,0],[8,0]] (fun K' hK=>by simp only[go_sem];exact ak) ?_
   repeat refine sq ?_
   refine ay (fun hb=>?_) fun hb=>?_
   ·have ab:i<PL.length:=by simpa using hb
    have au:(i:Int)<PL.length:=by omega
    clear hb
    have NY:((i+1:Nat):Int)=(i:Int)+1:=by omega
    have qb:=Zd r Y7 m1.1 m1.2 m5.1 m5.2 (j:=i+1) (by omega) (by omega)
    have kW:PL[i]=el (aq (a8 r) 900) (dE r) p.id day ((i+1:Nat):Int):=by rw[<-y2 i (by omega),cj ab]
    rw[<-kW]at qb
    obtain⟨z1,z2,z3,z4⟩:=qb
    obtain⟨v1,v2⟩:=Y9 r (f:=⟨p.id,((i+1:Nat):Int)⟩) m1.1 m1.2 (by show bO ((i+1:Nat):Int) 1 (cM (a8 r).ps p.id)=true;rw[Ft];exact fy (by omega) (by omega))
    rw[NY]at z1 z2 z3 z4 v1 v2
    have xG:IntKind.i64.wrap ((i:Int)+1)=(i:Int)+1:=wrap_i64 (by omega) (by unfold maxLen at y6;omega)
    repeat refine sq ?_
    refine aE ?_
    repeat refine sq ?_
    refine aN ?_
    repeat refine sq ?_
    refine rx hΓ [5,7,8,9,10,12,14,16,17] [[5,0],[8,0],[17,0]] (fun K' hK=>by simp only[go_sem,ah ab,ai,aj,au,xG];exact ak) ?_
    repeat refine sq ?_
    refine rx hΓ [5,7,8,9,10,12,14,16,17,18,19] [[5,0],[8,0],[17,0]] (fun K' hK=>by simp only[go_sem,ah ab,ai,aj,au,Cx,v1,v2];exact ak) ?_
    repeat refine sq ?_
    refine rx hΓ [5,7,8,9,10,12,14,16,17,142] [[5,0],[8,0],[17,0]] (fun K' hK=>by simp only[go_sem,ah ab,ai,aj,au,ah ab,au,z1,z2,z3,ai,aj,List.length_map,bne_self_eq_false,Bool.or_self,Bool.not_true,Bool.or_false,Bool.decide_and,Bool.decide_eq_true];exact ak) ?_
    repeat refine sq ?_
    refine ay (fun hb=>?_) fun hb=>?_
    ·cases hb
    ·repeat refine sq ?_
     refine aE ?_
     repeat refine sq ?_
     refine dx hΓ hP [[],[],[0,1],[0,1,2],u4,u5,u6,u6,u6,u6,[0,1,2,3,4,5,8,9],[0,1,2,3,4,5,8,9,10],u6,[0,1,2,3,4,5,8,9,10,11,12],il,wC,u16] [5,7,8,9,10,12,14,16,159] [[5,0],[8,0]] (by kernel_rfl) (fun K' hK=>by simp only[go_sem,ah ab,ai,aj,au,ah ab,au,z4,ai,aj,List.length_map,Bool.decide_and,Bool.decide_eq_true];(repeat (refine⟨by first | exact an | exact fun _=>b1,?_⟩));exact fG) ?_
     repeat refine sq ?_
     refine ay (fun hb=>?_) fun hb=>?_
     ·cases hb
     ·repeat refine sq ?_
      refine aE ?_
      refine bQ ?_
      simp only[go_sem]
      refine kp [5,7,8,9,10,12,14,16] [[5,0],[8,0]] ?_
      repeat refine sq ?_
      refine aP hΓ fun K' hK=>?_
      simp only[go_sem,ah ab,ai,aj,au]
      repeat (refine⟨an,?_⟩)
      refine hK _ ?_
      clear K' hK
      simp only[go_sem]
      refine⟨i+1,ab,by(show PL.length-(i+1)<PL.length-i;omega),?_⟩
      refine bd [5,7,8,9,10,12,14,16] [[5,0],[8,0]] ?_ ?_<;>simp only[go_sem,a7 ab y6,bb]
   ·have bB:i=PL.length:=by
     have :¬ (i:Int)<PL.length:=by simpa using hb
     omega
    clear hb
    subst bB
    repeat refine sq ?_
    refine bT ?_
    simp only[go_sem]
    refine kp [] [] ?_
    repeat refine sq ?_
    refine rx hΓ [4] [] (fun K' hK=>by simp only[go_sem];exact ak) ?_
    refine aA ?_
    simp only[go_sem]
    first | done | rfl
end
end
open Go
def jy(P:Program)(t:TypeId):Bool:=match P.underlying t with | some (.struct _)=>true | some (.array _ _)=>true | _=>false
def nO(ag:Bool)(xs:List V):V:=if ag then .agg xs else xs.getD 0 default
def oI(P:Program):List Field->Nat->Nat->Bool
 |[],off,tot=>off==tot
 |f::r,off,tot=>f.offset==off&&oI P r (off+P.cellsOf f.type) tot
def lH(P:Program):Nat->TypeId->Bool
 | 0,_=>false
 |n+1,t=>match P.underlying t with
  |some .bool=>P.cellsOf t==1
  |some (.int _)=>P.cellsOf t==1
  |some .string=>P.cellsOf t==1
  |some (.slice e)=>P.cellsOf t==1&&lH P n e&&decide (0<P.cellsOf e)&&(jy P e||P.cellsOf e==1)
  |some (.struct fs)=>oI P fs.toList 0 (P.cellsOf t)&&fs.toList.all fun f=>lH P n f.type
  |some (.array m e)=>P.cellsOf t==m*P.cellsOf e&&lH P n e
  |_=>false
def yV(S:TypeId->List V->Prop):List TypeId->List V->Prop
 |[],xs=>xs=[]
 |t::r,xs=>∃ a b,xs=a++b/\S t a/\yV S r b
def fJ(P:Program):Nat->TypeId->List V->Prop
 | 0,_,_=>False
 |n+1,t,xs=>match P.underlying t with
  |some .bool=>∃ b,xs=[.bool b]
  |some (.int k)=>∃ z,xs=[.int k z]/\(Lit.int k z).wf=true
  |some .string=>∃ s,xs=[.str s]/\s.size<=maxLen
  |some (.slice e)=>∃ ls:List (List V),xs=[.sl (ls.map (nO (jy P e)))]/\ls.length<=maxLen/\∀ y∈ls,fJ P n e y
  |some (.struct fs)=>yV (fJ P n) (fs.toList.map (·.type)) xs
  |some (.array m e)=>yV (fJ P n) (List.replicate m e) xs
  |_=>False
structure jz (m:Mem) (xs:List V) (cs:List Value):Prop where
 len:xs.length=cs.length
 rep:∀ i (h:i<xs.length) (h':i<cs.length),aO m xs[i] cs[i]
 one:∀ x∈xs,x.one=true
theorem jz.nil(m:Mem):jz m [] []:=⟨rfl,fun i h=>by simp at h,fun x h=>by simp at h⟩
theorem jz.append{m:Mem}{xs ys:List V}{cs ds:List Value}(h:jz m xs cs)(k:jz m ys ds):jz m (xs++ys) (cs++ds):=by
 refine⟨by simp[h.len,k.len],fun i h1 h2=>?_,fun x hx=>?_⟩
 ·by_cases hi:i<xs.length
  ·rw[List.getElem_append_left hi,List.getElem_append_left (by rw[<-h.len];exact hi)]
   exact h.rep i hi _
  ·have hl:=h.len
   have e:i-xs.length=i-cs.length:=by rw[hl]
   rw[List.getElem_append_right (by omega),List.getElem_append_right (by omega)]
   simp only[List.length_append]at h1 h2
   have :=k.rep (i-xs.length) (by omega) (by rw[<-k.len];omega)
   simp only[e]at this |-
   exact this
 ·rcases List.mem_append.1 hx with hx | hx
  ·exact h.one x hx
  ·exact k.one x hx
theorem jz.single{m:Mem}{x:V}{u:Value}(h:aO m x u)(ho:x.one=true):jz m [x] [u]:=
 ⟨rfl,fun i h1 h2=>by simp at h1;subst h1;exact h,fun y hy=>by simp at hy;subst hy;exact ho⟩
theorem mapM_some{α β:Type}{f:α->Option β}:∀ {l:List α} {r:List β},l.mapM f=some r->r.length=l.length/\∀ i (h:i<l.length) (h':i<r.length),f l[i]=some r[i]
 |[],r,h=>by
  simp only[List.mapM_nil]at h
  cases h
  exact⟨rfl,fun i h=>by simp at h⟩
 |a::l,r,h=>by
  simp only[List.mapM_cons,Option.bind_eq_bind,Option.bind_eq_some_iff]at h
  obtain⟨b,hb,bs,A8,hr⟩:=h
  cases hr
  obtain⟨h1,h2⟩:=mapM_some A8
  refine⟨by simp[h1],fun i hi bK=>?_⟩
  cases i with
  |zero=>exact hb
  |succ i=>exact h2 i (by simpa using hi) (by simpa using bK)
theorem Ik{P:Program}:∀ {fs:List Field} {off tot:Nat},oI P fs off tot=true->off<=tot
 |[],off,tot,h=>by simp[oI]at h;omega
 |f::r,off,tot,h=>by
  simp only[oI,Bool.and_eq_true]at h
  have :=Ik h.2
  omega
theorem OV{P:Program}{m:Mem}{S:TypeId->List V->Prop}{cs:List Value}:∀ {fs:List Field} {off:Nat},oI P fs off cs.length=true->
 (∀ f∈fs,∃ xs,S f.type xs/\jz m xs ((cs.drop f.offset).take (P.cellsOf f.type)))->∃ xs,yV S (fs.map (·.type)) xs/\jz m xs (cs.drop off)
 |[],off,h,_=>by
  simp[oI]at h
  subst h
  exact⟨[],rfl,by simpa using jz.nil m⟩
 |f::r,off,h,hf=>by
  simp only[oI,Bool.and_eq_true,beq_iff_eq]at h
  obtain⟨h1,h2⟩:=h
  obtain⟨a,ha,dD⟩:=hf f (by simp)
  obtain⟨b,hb,s5⟩:=OV h2 fun g hg=>hf g (by simp[hg])
  refine⟨a++b,⟨a,b,rfl,ha,hb⟩,?_⟩
  have e:cs.drop off=(cs.drop f.offset).take (P.cellsOf f.type)++cs.drop (off+P.cellsOf f.type):=by
   rw[h1,<-List.drop_drop,List.take_append_drop]
  rw[e]
  exact dD.append s5
theorem QB{m:Mem}{S:TypeId->List V->Prop}{e:TypeId}{k:Nat}{cs:List Value}:∀ (n off:Nat),cs.length=(off+n)*k->
 (∀ i,i<off+n->∃ xs,S e xs/\jz m xs ((cs.drop (i*k)).take k))->∃ xs,yV S (List.replicate n e) xs/\jz m xs (cs.drop (off*k))
 | 0,off,h,_=>by
   have :cs.drop (off*k)=[]:=List.drop_eq_nil_of_le (by rw[h];simp)
   rw[this]
   exact⟨[],rfl,jz.nil m⟩
 |n+1,off,h,hf=>by
  obtain⟨a,ha,dD⟩:=hf off (by omega)
  obtain⟨b,hb,s5⟩:=QB n (off+1) (by rw[h];congr 1;omega) fun i hi=>hf i (by omega)
  refine⟨a++b,⟨a,b,rfl,ha,hb⟩,?_⟩
  have e:cs.drop (off*k)=(cs.drop (off*k)).take k++cs.drop ((off+1)*k):=by
   rw[Nat.succ_mul,<-List.drop_drop,List.take_append_drop]
  rw[e]
  exact dD.append s5
theorem UN{ag:Bool}{xs:List V}(h:ag=true\/xs.length=1)(ho:∀ x∈xs,x.one=true):(nO ag xs).cells=xs:=by
 cases ag with
 |true=>rfl
 |false=>
  rcases h with h | h
  ·cases h
  match xs,h with
  |[x],_=>
   have :=ho x (by simp)
   show x.cells=[x]
   cases x<;>first | rfl | (simp[V.one]at this)
def lM(w:World):Mem:=fun b off=>w.cell? ⟨b,off,none⟩
theorem QI{a:Addr}(h:a.spot=none)(n:Nat):a.add n=⟨a.block,a.off+n,none⟩:=by
 obtain⟨b,o,s⟩:=a
 simp only at h
 subst h
 unfold Addr.add
 split
 ·rename_i e;subst e;rfl
 ·rfl
theorem zG{H:Type}{enc:TypeId×Value->H}{P:Program}{w:World}{base:Nat}{spare:Nat->Bool}{held:Bool}:
 ∀ (n fuel:Nat) (t:TypeId) (cs:List Value) (r:DataW H×List MemPlace),lH P n t=true->cs.length=P.cellsOf t->DataW.trod enc P w base spare held fuel t cs=some r->∃ xs,fJ P n t xs/\jz (lM w) xs cs
 | 0,_,_,_,_,h,_,_=>by simp[lH]at h
 |n+1,0,_,_,_,_,_,h=>by simp[DataW.trod]at h
 |n+1,fuel+1,t,cs,r,hp,hlen,h=>by
  rw[DataW.trod_step]at h
  unfold DataW.trodStep at h
  unfold lH at hp
  unfold fJ
  rcases hu:P.underlying t with _ | u
  ·rw[hu]at hp;simp at hp
  rw[hu]at hp h
  cases u with
  |bool=>
   have hb:∃ b,cs=[.bool b]:=by
    simp only at h
    split at h<;>simp_all
   obtain⟨b,rfl⟩:=hb
   exact⟨_,⟨b,rfl⟩,.single (.bool _) rfl⟩
  |int k=>
   simp only at hp h |-
   split at h<;>simp_all
   obtain⟨⟨rfl,h1⟩,_⟩:=h
   exact⟨_,⟨_,rfl,h1⟩,.single (.int _ _) rfl⟩
  |string=>
   simp only at hp h |-
   split at h<;>simp_all
   obtain⟨h1,_⟩:=h
   exact⟨_,⟨_,rfl,h1⟩,.single (.str _ h1) rfl⟩
  |slice e=>
   simp only[Bool.and_eq_true,decide_eq_true_eq,Bool.or_eq_true,beq_iff_eq]at hp |-
   obtain⟨⟨⟨_,eV⟩,cT⟩,hag⟩:=hp
   split at h<;>simp_all
   ·exact⟨_,⟨[],rfl,Nat.zero_le _,by simp⟩,.single (.slnil _ _) rfl⟩
   ·rename_i e' a len cap _ _
    obtain⟨⟨hb,Zv,hcm⟩,h⟩:=h
    simp only[Option.bind_eq_some_iff]at h
    obtain⟨elems,FT,_⟩:=h
    obtain⟨l1,l2⟩:=mapM_some FT
    simp only[List.length_range]at l1
    have hx:∀ i,i<len->∃ xs cells,w.cells? base (a.add (i*P.cellsOf e')) (P.cellsOf e')=some cells/\fJ P n e' xs/\jz (lM w) xs cells:=by
     intro i hi
     have h3:=l2 i (by simpa using hi) (by omega)
     simp only[List.getElem_range,Option.bind_eq_some_iff]at h3
     obtain⟨cells,h4,h5⟩:=h3
     obtain⟨xs,h6,h7⟩:=zG n fuel _ _ _ eV (World.cells?_some h4).2.1 h5
     exact⟨xs,cells,h4,h6,h7⟩
    rcases Nat.eq_zero_or_pos len with hz | Y6
    ·subst hz
     exact⟨[.sl []],⟨[],rfl,Nat.zero_le _,by simp⟩,.single (.slnil _ _) rfl⟩
    have EN:a.spot=none:=by
     obtain⟨xs,cells,h4,_⟩:=hx 0 Y6
     have h8:=(World.cells?_some h4).2.2 0 cT
     have h9:=(World.cells?_some h4).2.1
     have tH:w.cell? ((a.add (0*P.cellsOf e')).add 0)=some (cells[0]'(by omega)):=by rw[h8];exact List.getElem?_eq_getElem (by omega)
     simpa[Addr.add]using World.cell?_spot tH
    let X:Nat->List V:=fun i=>if h:i<len then Classical.choose (hx i h)else[]
    let C:Nat->List Value:=fun i=>(w.cells? base (a.add (i*P.cellsOf e')) (P.cellsOf e')).getD []
    have hX:∀ i,i<len->fJ P n e' (X i)/\jz (lM w) (X i) (C i)/\(C i).length=P.cellsOf e'/\∀ j,j<P.cellsOf e'->w.cell? ⟨a.block,a.off+i*P.cellsOf e'+j,none⟩=(C i)[j]?:=by
     intro i hi
     obtain⟨cells,h4,h6,h7⟩:=Classical.choose_spec (hx i hi)
     have e1:X i=Classical.choose (hx i hi):=dif_pos hi
     have e2:C i=cells:=by show (w.cells? _ _ _).getD []=cells;rw[h4];rfl
     rw[e1,e2]
     refine⟨h6,h7,(World.cells?_some h4).2.1,fun j hj=>?_⟩
     have h8:=(World.cells?_some h4).2.2 j hj
     rw[QI EN,QI rfl]at h8
     exact h8
    have tv:∀ i,i<len->(nO (jy P e') (X i)).cells=X i:=fun i hi=>by
     obtain⟨h1,h2,h3,_⟩:=hX i hi
     refine UN ?_ h2.one
     rcases hag with h | h
     ·exact .inl h
     ·exact .inr (by rw[h2.len,h3,h])
    refine⟨[.sl (((List.range len).map X).map (nO (jy P e')))],⟨(List.range len).map X,rfl,by simp;omega,fun y hy=>?_⟩,.single ?_ rfl⟩
    ·simp only[List.mem_map,List.mem_range]at hy
     obtain⟨i,hi,rfl⟩:=hy
     exact(hX i hi).1
    ·obtain⟨b,o,s⟩:=a
     simp only at EN hX
     subst EN
     have key:=aO.sl (m:=lM w) (((List.range len).map X).map (nO (jy P e'))) b o cap (P.cellsOf e') (fun i j=>((C i)[j]?).getD undef) (by
         intro h;have:=congrArg List.length h;simp at this;omega) (by simp;omega) (by simpa using Zv)
      (fun i hi=>by
        have bK:i<len:=by simpa using hi
        obtain⟨h1,h2,h3,_⟩:=hX i bK
        simp only[List.getElem_map,List.getElem_range]
        rw[tv i bK,h2.len,h3])
      (fun i j hi hj=>by
        have bK:i<len:=by simpa using hi
        obtain⟨h1,h2,h3,h4⟩:=hX i bK
        show w.cell? _=_
        rw[h4 j hj,List.getElem?_eq_getElem (by omega)]
        rfl)
      (fun i j hi hj=>by
        have bK:i<len:=by simpa using hi
        obtain⟨h1,h2,h3,h4⟩:=hX i bK
        simp only[List.getElem_map,List.getElem_range,tv i bK]at hj |-
        have fS:j<(C i).length:=by rw[<-h2.len];exact hj
        rw[List.getElem?_eq_getElem fS]
        exact h2.rep j hj fS)
      (fun i hi x hx=>by
        have bK:i<len:=by simpa using hi
        simp only[List.getElem_map,List.getElem_range,tv i bK]at hx
        exact(hX i bK).2.1.one x hx)
     simpa using key
  |struct fs=>
   simp only[Bool.and_eq_true,List.all_eq_true]at hp h |-
   obtain⟨ht,eO⟩:=hp
   rw[if_pos hlen]at h
   simp only[Option.map_eq_some_iff]at h
   obtain⟨ys,EG,_⟩:=h
   obtain⟨l1,l2⟩:=mapM_some EG
   have :=OV (m:=lM w) (S:=fJ P n) (cs:=cs) (fs:=fs.toList) (off:=0) (by rw[hlen];exact ht) fun f hf=>by
    obtain⟨i,hi,rfl⟩:=List.mem_iff_getElem.1 hf
    have h3:=l2 i hi (by omega)
    have hle:P.cellsOf fs.toList[i].type<=(cs.drop fs.toList[i].offset).length:=by
     have key:∀ (l:List Field) (off tot:Nat),oI P l off tot=true->∀ f∈l,f.offset+P.cellsOf f.type<=tot:=by
      intro l
      induction l with
      |nil=>intro _ _ _ f hf;simp at hf
      |cons g r ih=>
       intro off tot h f hf
       simp only[oI,Bool.and_eq_true,beq_iff_eq]at h
       rcases List.mem_cons.1 hf with rfl | hf
       ·have:=Ik h.2;omega
       ·exact ih _ _ h.2 f hf
     have :=key _ _ _ ht _ hf
     simp only[List.length_drop]
     omega
    exact zG n fuel _ _ _ (eO _ hf) (by rw[List.length_take];omega) h3
   simpa using this
  |array m e=>
   simp only[Bool.and_eq_true,beq_iff_eq]at hp h |-
   obtain⟨ht,eV⟩:=hp
   rw[if_pos hlen]at h
   simp only[Option.map_eq_some_iff]at h
   obtain⟨ys,EG,_⟩:=h
   obtain⟨l1,l2⟩:=mapM_some EG
   have :=QB (m:=lM w) (S:=fJ P n) (e:=e) (k:=P.cellsOf e) (cs:=cs) m 0 (by rw[hlen,ht];simp) fun i hi=>by
    have bK:i<m:=by omega
    have h3:=l2 i (by simpa using bK) (by rw[l1];simpa using bK)
    simp only[List.getElem_range]at h3
    have hle:i*P.cellsOf e+P.cellsOf e<=cs.length:=by
     rw[hlen,ht,<-Nat.succ_mul];exact Nat.mul_le_mul_right _ bK
    exact zG n fuel _ _ _ eV (by rw[List.length_take,List.length_drop];omega) h3
   simpa using this
  |_=>simp at hp
open Go Go.RowKit Go.ChangeShapes Go.WideShapes Go.ChangeAt
theorem Va{P:Program}{n:Nat}{t:TypeId}{W:World}{r:Reach}{base:Nat}{v:Value}(hp:lH P n t=true)(h:Value.okWide P W r base t v):
 v.cells.size=P.cellsOf t/\(jy P t=true->∃ cs,v=.agg cs)/\(jy P t=false->v.cells= #[v]/\P.cellsOf t=1):=by
 cases n with
 |zero=>simp[lH]at hp
 |succ n=>
  unfold lH at hp
  unfold jy
  rcases hu:P.underlying t with _ | u
  ·rw[hu]at hp;simp at hp
  rw[hu]at hp
  cases u with
  |bool=>
   obtain⟨b,rfl⟩:=okWide_bool hu h
   simp only[beq_iff_eq]at hp
   exact⟨by simp[Value.cells,hp],by simp,fun _=>⟨rfl,hp⟩⟩
  |int k=>
   obtain⟨b,rfl⟩:=okWide_int hu h
   simp only[beq_iff_eq]at hp
   exact⟨by simp[Value.cells,hp],by simp,fun _=>⟨rfl,hp⟩⟩
  |string=>
   obtain⟨b,rfl⟩:=okWide_string hu h
   simp only[beq_iff_eq]at hp
   exact⟨by simp[Value.cells,hp],by simp,fun _=>⟨rfl,hp⟩⟩
  |slice e=>
   obtain⟨a,len,cap,rfl⟩:=okWide_slice hu h
   simp only[Bool.and_eq_true,beq_iff_eq]at hp
   exact⟨by simp[Value.cells,hp.1.1.1],by simp,fun _=>⟨rfl,hp.1.1.1⟩⟩
  |struct fs=>
   simp only[Value.okWide,hu]at h
   obtain⟨cs,rfl,h2,_⟩:=h
   exact⟨h2,fun _=>⟨cs,rfl⟩,fun h=>by simp at h⟩
  |array m e=>
   simp only[Value.okWide,hu]at h
   obtain⟨cs,rfl,h2,_⟩:=h
   exact⟨h2,fun _=>⟨cs,rfl⟩,fun h=>by simp at h⟩
  |_=>simp at hp
def Cr(P:Program)(n:Nat)(t:TypeId)(x:V):Prop:=∃ xs,fJ P n t xs/\x=nO (jy P t) xs
def wy(P:Program)(n:Nat):List TypeId->List V->Prop
 |[],xs=>xs=[]
 |t::r,xs=>∃ x ys,xs=x::ys/\Cr P n t x/\wy P n r ys
theorem acI{H:Type}{enc:TypeId×Value->H}{P:Program}{w:World}{b0:Nat}{spare:Nat->Bool}{held:Bool}{n:Nat}{t:TypeId}{r:Reach}{base:Nat}{v:Value}{d:DataW H}{ps:List MemPlace}
 (hp:lH P n t=true) (h:Value.okWide P w r base t v) (ht:DataW.Trod enc P w b0 spare held t v d ps):∃ x,Cr P n t x/\aO (lM w) x v:=by
 obtain⟨h1,h2,h3⟩:=Va hp h
 obtain⟨fuel,hf⟩:=ht
 obtain⟨xs,k1,k2⟩:=zG n fuel t v.cells.toList _ hp (by simpa using h1) hf
 refine⟨nO (jy P t) xs,⟨xs,k1,rfl⟩,?_⟩
 cases ha:jy P t with
 |true=>
  obtain⟨cs,rfl⟩:=h2 ha
  simp only[nO,if_true]
  refine .agg xs cs (by simpa[Value.cells]using k2.len) k2.one fun i h h'=>?_
  have :=k2.rep i h (by simpa[Value.cells]using h')
  simpa[Value.cells]using this
 |false=>
  obtain⟨h4,h5⟩:=h3 ha
  have hl:xs.length=1:=by rw[k2.len];simp[h4]
  match xs,hl with
  |[x],_=>
   have :=k2.rep 0 (by simp) (by simp[h4])
   simp only[nO,Bool.false_eq_true,if_false,List.getD_cons_zero]
   simpa[h4]using this
theorem QD{H:Type}{enc:TypeId×Value->H}{P:Program}{w:World}{b0:Nat}{spare:Nat->Bool}{held:Bool}{n:Nat}{r:Reach}{base:Nat}:∀ {ts:List TypeId} {vs:List Value} {ds:List (DataW H)} {ps:List MemPlace},
 (∀ t∈ts,lH P n t=true)->(∀ (j:Nat) t v,ts[j]?=some t->vs[j]?=some v->Value.okWide P w r base t v)->DataW.TrodAll enc P w b0 spare held ts vs ds ps->∃ xs,wy P n ts xs/\uq (lM w) xs vs
 |[],vs,ds,ps,_,_,h=>by
  cases vs with
  |nil=>exact⟨[],rfl,rfl,fun i h=>by simp at h⟩
  |cons=>cases ds<;>simp[DataW.TrodAll]at h
 |t::ts,[],ds,ps,_,_,h=>by cases ds<;>simp[DataW.TrodAll]at h
 |t::ts,v::vs,[],ps,_,_,h=>by simp[DataW.TrodAll]at h
 |t::ts,v::vs,d::ds,ps,hp,hv,h=>by
  obtain⟨p,q,h1,h2,_⟩:=h
  obtain⟨x,k1,k2⟩:=acI (hp t (by simp)) (hv 0 t v rfl rfl) h1
  obtain⟨ys,k3,k4,k5⟩:=QD (fun t ht=>hp t (by simp[ht])) (fun j t v h h'=>hv (j+1) t v (by simpa using h) (by simpa using h')) h2
  refine⟨x::ys,⟨x,ys,rfl,k1,k3⟩,by simp[k4],fun i hi bK=>?_⟩
  cases i with
  |zero=>exact k2
  |succ i=>exact k5 i (by simpa using hi) (by simpa using bK)
theorem QC{H:Type}{enc:TypeId×Value->H}{P:Program}(hl:laidOutB P=true){W W':World}(hb:Below W.heap.size W W'):∀ {ts:List TypeId} {vs:List Value} {ds:List (DataW H)} {ps:List MemPlace},
 (∀ t∈ts,P.readableRec t=true/\t<P.types.size)->DataW.TrodAll enc P W 0 (fun _=>true) true ts vs ds ps->(∀ x∈ps,x.block<W.heap.size)->DataW.TrodAll enc P W' 0 (fun b=>decide (b<W.heap.size)) true ts vs ds ps
 |[],vs,ds,ps,_,h,_=>by
  cases vs<;>cases ds<;>simp_all[DataW.TrodAll]
 |t::ts,[],ds,ps,_,h,_=>by cases ds<;>simp[DataW.TrodAll]at h
 |t::ts,v::vs,[],ps,_,h,_=>by simp[DataW.TrodAll]at h
 |t::ts,v::vs,d::ds,ps,hr,h,ab=>by
  obtain⟨p,q,h1,h2,rfl⟩:=h
  exact⟨p,q,Below.trod hl (hr t (by simp)).1 (hr t (by simp)).2 h1 hb (fun x hx=>ab x (by simp[hx])),
   QC hl hb (fun t ht=>hr t (by simp[ht])) h2 (fun x hx=>ab x (by simp[hx])),rfl⟩
theorem Ie{H:Type}{enc:TypeId×Value->H}{P:Program}{w:World}{b0:Nat}{spare:Nat->Bool}{held:Bool}:∀ {ts:List TypeId} {vs:List Value} {ds:List (DataW H)} {ps:List MemPlace},DataW.TrodAll enc P w b0 spare held ts vs ds ps->ds.length=ts.length
 |[],vs,ds,ps,h=>by cases vs<;>cases ds<;>simp_all[DataW.TrodAll]
 |t::ts,[],ds,ps,h=>by cases ds<;>simp[DataW.TrodAll]at h
 |t::ts,v::vs,[],ps,h=>by simp[DataW.TrodAll]at h
 |t::ts,v::vs,d::ds,ps,h=>by
  obtain⟨p,q,_,h2,_⟩:=h
  simp[Ie h2]
theorem Wv{H:Type}{enc:TypeId×Value->H}{C:Checked}{os:Os}{f:FuncId}{fn:Func}{s:ChangeSpec}{conds:List PathCond}{n:Nat}{tb:TypeId}
 (own:ownKnob C.prog.godebug=none) (started:os.Started) (Vx:C.prog.inits.idxOf? f=none) (dT:C.prog.funcs[f]?=some fn)
 (witness:∃ (w:World) (tape:Tape) (i:Input),w.os=os/\(w.forCall tape i).Shaped C.prog/\i.vars=[]/\Input.okWide C.prog (w.forCall tape i) .any w.heap.size f i/\
   s.pre6 enc C.prog fn conds false (w.forCall tape i).memory i.args/\({}:Assume).holds C.prog (lone (Frame.enter C.prog f i.args .normal) [] (w.forCall tape i)))
 (hl:laidOutB C.prog=true) (fR:∀ t∈fn.params.toList,lH C.prog n t=true/\C.prog.readableRec t=true/\t<C.prog.types.size) (AG:fn.resultTypes= #[tb]) (jk:C.prog.underlying tb=some .bool)
 (Na:s.vars=[]) (hs:∀ ds:List (DataW H),ds.length=fn.params.toList.length->(s.fn H ds).results=[.lit (.bool true)]/\(s.fn H ds).args=ds/\(s.fn H ds).vars=[])
 (tz:∀ (W:World) (args:Array Value) (xs:List V),wy C.prog n fn.params.toList xs->uq (lM W) xs args.toList->Calls C.prog f args W fun e W'=>e=.returned (.bool true)/\Below W.heap.size W W'):
 ReturnsInHanded {} C os f .any (s.pre6 enc C.prog fn conds false) (s.post enc C.prog fn false true false false):=by
 refine returnsInHanded_of_change own started Vx dT witness ?_
 intro W base args ds gs before dt hW _ _
 have F4:=hW
 obtain⟨p,q,hA,hV,rfl,_,_⟩:=hW
 rw[Na]at hV
 obtain⟨rfl,rfl⟩:=trodVars_none hV
 simp only[List.append_nil]at F4
 have ab:∀ y∈p,y.block<W.heap.size:=fun y hy=>by simpa using F4.lt y hy
 obtain⟨xs,h1,h2⟩:=QD (vs:=args.toList) (ts:=fn.params.toList) (fun t ht=>(fR t ht).1) (fun j t v h h'=>dt j t v (by simpa using h) (by simpa using h')) hA
 obtain⟨e1,e2,e3⟩:=hs ds (Ie hA)
 refine(tz W args xs h1 h2).mono fun e W' ⟨he,hn⟩=>?_
 subst he
 refine⟨_,rfl,ds,[],p,[],p,[],F4,?_,?_,?_,hn.frame _,fun h=>by cases h⟩
 ·rw[List.append_nil,e1,AG]
  exact trodAll_mk1 (shut_bool jk _)
 ·rw[List.append_nil,e2]
  exact QC hl hn (fun t ht=>(fR t ht).2) hA ab
 ·rw[List.append_nil,e3,Na]
  rfl
open Go Go.Proofs Go.Proofs.YtepaolcgegdpoaaGreat Go.RowKit Go.ChangeShapes
theorem XZ:ownKnob Tryz.prog.godebug=none:=by kernel_rfl
theorem X0:laidOutB Tryz.prog=true:=by kernel_rfl
end Go.Eng
set_option linter.constructorNameAsVariable false
set_option maxRecDepth 100000
namespace Go.Eng
open Go Go.Proofs
theorem j7{n:Nat}{xs:List V}(h:fJ Tryz.prog (n+1) 3 xs):∃ k,xs=[vInt k]/\(Lit.int .i64 k).wf=true:=by
 unfold fJ at h
 simp only[Tryz.underlying3]at h
 exact h
theorem KB{α β:Type}{f:α->β}{P:β->Prop}(h:∀ y,P y->∃ x,y=f x):∀ {l:List β},(∀ y∈l,P y)->∃ m:List α,l=m.map f
 |[],_=>⟨[],rfl⟩
 |y::r,hl=>by
  obtain⟨x,rfl⟩:=h y (hl y (by simp))
  obtain⟨m,rfl⟩:=KB h (l:=r) fun z hz=>hl z (by simp[hz])
  exact⟨x::m,rfl⟩
theorem IG{n:Nat}{T e:TypeId}{xs:List V}{α:Type}{f:α->V}(hu:Tryz.prog.underlying T=some (.slice e))(h:fJ Tryz.prog (n+1) T xs)
 (he:∀ ys,fJ Tryz.prog n e ys->∃ a,nO (jy Tryz.prog e) ys=f a):∃ l:List α,xs=[.sl (l.map f)]:=by
 unfold fJ at h
 simp only[hu]at h
 obtain⟨ls,rfl,_,h3⟩:=h
 obtain⟨m,hm⟩:=KB (f:=f) (P:=fun y=>∃ d,y=f d) (fun y h=>h) (l:=ls.map (nO (jy Tryz.prog e))) fun y hy=>by
  obtain⟨z,hz,rfl⟩:=List.mem_map.1 hy
  exact he z (h3 z hz)
 exact⟨m,by rw[hm]⟩
theorem ace{f:FuncId}{s:PSpec}(h:aU Tryz.prog f s){W:World}{args:Array Value}{xs:List V}(hr:uq (lM W) xs args.toList)(hp:s.pre xs)(ht:s.fn xs=.bool true):
 Calls Tryz.prog f args W fun e W'=>e=.returned (.bool true)/\RowKit.Below W.heap.size W W':=by
 refine(h.calls (lM W) W xs args (fun b off v hv=>hv) hr hp).mono ?_
 rintro e W' ⟨v,m',rfl,hb,_,_,hv⟩
 rw[ht]at hv
 cases hv
 exact⟨rfl,hb⟩
end Go.Eng
set_option maxRecDepth 100000
namespace Go.Eng
open Go Go.Proofs
theorem acY:jy Tryz.prog 25=true:=by kernel_rfl
theorem ac0:jy Tryz.prog 100=true:=by kernel_rfl
theorem acZ:jy Tryz.prog 131=true:=by kernel_rfl
theorem Sm{n:Nat}{xs:List V}(h:fJ Tryz.prog (n+2) 100 xs):∃ x:R5,.agg xs=tR x:=by
 unfold fJ at h
 simp only[Tryz.underlying100]at h
 obtain⟨x1,y,rfl,h1,x2,y2,rfl,h2,x3,y3,rfl,h3,x4,y4,rfl,h4,x5,y5,rfl,h5,rfl⟩:=h
 obtain⟨a,rfl,_⟩:=j7 h1
 obtain⟨b,rfl,_⟩:=j7 h2
 obtain⟨c,rfl,_⟩:=j7 h3
 obtain⟨d,rfl,_⟩:=j7 h4
 obtain⟨e,rfl,_⟩:=j7 h5
 exact⟨⟨a,b,c,d,e⟩,rfl⟩
theorem Sl{n:Nat}{xs:List V}(h:fJ Tryz.prog (n+2) 131 xs):∃ x:R7,.agg xs=vS x:=by
 unfold fJ at h
 simp only[Tryz.underlying131]at h
 obtain⟨x1,y,rfl,h1,x2,y2,rfl,h2,x3,y3,rfl,h3,x4,y4,rfl,h4,x5,y5,rfl,h5,x6,y6,rfl,h6,x7,y7,rfl,h7,rfl⟩:=h
 obtain⟨a,rfl,_⟩:=j7 h1
 obtain⟨b,rfl,_⟩:=j7 h2
 obtain⟨c,rfl,_⟩:=j7 h3
 obtain⟨d,rfl,_⟩:=j7 h4
 obtain⟨e,rfl,_⟩:=j7 h5
 obtain⟨f,rfl,_⟩:=j7 h6
 obtain⟨g,rfl,_⟩:=j7 h7
 exact⟨⟨a,b,c,d,e,f,g⟩,rfl⟩
theorem IH{n:Nat}{xs:List V}(h:fJ Tryz.prog (n+3) 22 xs):∃ l:List R5,xs=[.sl (l.map tR)]:=
 IG Tryz.underlying22 h fun ys hy=>by
  obtain⟨x,hx⟩:=Sm hy
  rw[ac0]
  exact⟨x,hx⟩
theorem Sk{n:Nat}{xs:List V}(h:fJ Tryz.prog (n+3) 23 xs):∃ l:List R7,xs=[.sl (l.map vS)]:=
 IG Tryz.underlying23 h fun ys hy=>by
  obtain⟨x,hx⟩:=Sl hy
  rw[acZ]
  exact⟨x,hx⟩
theorem Sj{n:Nat}{xs:List V}(h:fJ Tryz.prog (n+4) 25 xs):∃ r:Raw,.agg xs=tQ r:=by
 unfold fJ at h
 simp only[Tryz.underlying25]at h
 obtain⟨x1,y,rfl,h1,x2,y2,rfl,h2,x3,y3,rfl,h3,rfl⟩:=h
 obtain⟨a,rfl⟩:=IH h1
 obtain⟨b,rfl⟩:=Sk h2
 obtain⟨c,rfl⟩:=IH h3
 exact⟨⟨a,b,c⟩,rfl⟩
theorem acK{x:V}(h:Cr Tryz.prog 6 25 x):∃ o:Raw,x=tQ o:=by
 obtain⟨xs,h1,rfl⟩:=h
 rw[acY]
 exact Sj h1
theorem abi(r:Raw):Bu (tQ r)=r:=by
 cases r;simp only[tQ,Bu,abm,abk]
end Go.Eng
set_option linter.constructorNameAsVariable false
namespace Go.Eng
open Go Go.Proofs Go.Proofs.YtepaolcgegdpoaaGreat Go.RowKit Go.ChangeShapes
theorem V2(hc:∀ (W:World) (args:Array Value) (xs:List V),wy Tryz.prog 6 Tryz.f6.params.toList xs->uq (lM W) xs args.toList->Calls Tryz.prog 6 args W fun e W'=>e=.returned (.bool true)/\Below W.heap.size W W')
 (os:Os) (started:os.Started) (H:Type) (enc:TypeId×Value->H):
 ReturnsInHanded {} Tryz.checked os 6 .any (Rows.loanTrueSpec.pre6 enc Tryz.prog Tryz.f6 Rows.loanTrueRow.domain false) (Rows.loanTrueSpec.post enc Tryz.prog Tryz.f6 false true false false):=by
 refine Wv (C:=Tryz.checked) (n:=6) (tb:=4) XZ started (by kernel_rfl) Tryz.func6
  (ChangeSpec.witness6 (enc:=enc) (C:=Tryz.checked) false ⟨#[],#[.agg #[.slice none 0 0,.slice none 0 0,.slice none 0 0],.agg #[.int .i64 0,.int .i64 0,.int .i64 0]],[]⟩ 8 (by kernel_rfl) (by kernel_rfl) (by kernel_rfl) (by kernel_rfl))
  X0 ?_ (by kernel_rfl) (by kernel_rfl) rfl ?_ hc
 ·have h:(Tryz.f6.params.toList.all fun t=>lH Tryz.prog 6 t&&Tryz.prog.readableRec t&&decide (t<Tryz.prog.types.size))=true:=by kernel_rfl
  intro t ht
  have :=List.all_eq_true.1 h t ht
  simp only[Bool.and_eq_true,decide_eq_true_eq]at this
  exact⟨this.1.1,this.1.2,this.2⟩
 ·intro ds mS
  have hl:Tryz.f6.params.toList.length=2:=by kernel_rfl
  rw[hl]at mS
  match ds,mS with
  |[d1,d2],_=>exact⟨rfl,rfl,rfl⟩
theorem V1(hc:∀ (W:World) (args:Array Value) (xs:List V),wy Tryz.prog 6 Tryz.f6.params.toList xs->uq (lM W) xs args.toList->Calls Tryz.prog 6 args W fun e W'=>e=.returned (.bool true)/\Below W.heap.size W W'):
 Rows.LoanTrueSaid:=
 OpenClaim.holds_of_wide 6 Tryz.f6 rfl rfl rfl rfl rfl rfl rfl ⟨rfl,rfl,rfl,rfl,rfl⟩ rfl rfl rfl rfl rfl (by kernel_rfl) Tryz.func6 (by kernel_rfl)
  (of_decide_eq_true (by kernel_rfl)) (by unfold Func.isWrapper;first | (rw[if_pos (by decide+kernel)];kernel_rfl) | (rw[if_neg (by decide+kernel)];exact⟨rfl,rfl⟩))
  (fun os started H enc _=>V2 hc os started H enc)
end Go.Eng
set_option maxRecDepth 100000
namespace Go.Eng
open Go Go.Proofs Go.Proofs.YtepaolcgegdpoaaGreat
theorem acX:jy Tryz.prog 49=true:=by kernel_rfl
theorem Si{n:Nat}{xs:List V}(h:fJ Tryz.prog (n+2) 49 xs):∃ x:N3,.agg xs=Bq x:=by
 unfold fJ at h
 simp only[Tryz.underlying49]at h
 obtain⟨x1,y,rfl,h1,x2,y2,rfl,h2,x3,y3,rfl,h3,rfl⟩:=h
 obtain⟨a,rfl,_⟩:=j7 h1
 obtain⟨b,rfl,_⟩:=j7 h2
 obtain⟨c,rfl,_⟩:=j7 h3
 exact⟨⟨a,b,c⟩,rfl⟩
theorem acJ{x:V}(h:Cr Tryz.prog 6 49 x):∃ o:N3,x=Bq o:=by
 obtain⟨xs,h1,rfl⟩:=h
 rw[acX]
 exact Si h1
theorem loanTrue_holds:Rows.LoanTrueSaid:=
 V1 fun W args xs ha hr=>by
  obtain⟨x,ys,rfl,h1,y,zs,rfl,h2,rfl⟩:=(show wy Tryz.prog 6 [25,49] xs from ha)
  obtain⟨l,rfl⟩:=acK h1
  obtain⟨o,rfl⟩:=acJ h2
  exact ace s6 hr ⟨congrArg tQ (abi l),rfl,trivial⟩ rfl
end Go.Eng
namespace Go.Proofs.YtepaolcgegdpoaaGreat
theorem loanTrue_holds : Rows.LoanTrueSaid := Go.Eng.loanTrue_holds
end Go.Proofs.YtepaolcgegdpoaaGreat
#print axioms Go.Proofs.YtepaolcgegdpoaaGreat.loanTrue_holds
