import Derived.Test.YtepaolcgegdpoaaGreatK9
/- Texts LP16 to LB. -/
set_option linter.all false
namespace Go.Eng
open Go Go.Proofs
theorem Jz{l:Led}{k:Int}{i:Nat}(h:i<l.ts.length):eY l k i↔gL l k (br l k i) i=true:=by
 unfold eY
 rw[Jy l.ts.length h (Nat.le_refl _)]
def SH(rs:List Rec)(k:Int)(t:Ret)(r:Rec):Prop:=cO rs t.re=some r/\bF t.kn t.un k=true/\bO t.lo (r.da+1)<=t.hi/\∀ f∈t.lv,f∈r.lv
theorem adU{l:Led}{k:Int}(h1:∀ i,i<l.ts.length->∃ r,SH (bq l k) k (aG l i) r)
 (h2:∀ i j,i<j->j<l.ts.length->(aG l i).re=(aG l j).re->∀ f∈(aG l i).lv,f∉(aG l j).lv):∀ i,i<l.ts.length->eY l k i:=by
 intro i hi
 rw[Jz hi]
 have hI:=Ak l k i (by omega)
 have hn:=EV hI
 by_cases hb:gL l k (br l k i) i=true
 ·exact hb
 ·exfalso
  rw[if_neg hb]at hn
  obtain⟨r,e1,e2,e3,e4⟩:=h1 i hi
  have ll:r.so=(aG l i).re:=(ry e1).2
  have jz:((aG l i).lv.any fun f=>(bb (aE l k i).bk (r.so,f)).isSome||!r.lv.contains f)=false:=by
   rw[List.any_eq_false]
   intro f hf
   have h3:r.lv.contains f=true:=List.contains_iff_mem.2 (e4 f hf)
   rw[h3]
   cases aM:bb (aE l k i).bk (r.so,f)with
   |none=>simp
   |some m=>
    obtain⟨j,rfl,hj,fq,hfj⟩:=hI.bk1 _ _ _ aM
    have ff:=(hI.tl _ ((hI.ts j).1 hj)).2
    exact(h2 j i (by omega) hi (by rw[fq,ll]) f hfj hf).elim
  unfold gA at hn
  rw[e1]at hn
  simp only[e2,jz,Bool.or_false,Bool.true_and,decide_eq_false (show ¬ bO (aG l i).lo (r.da+1)>(aG l i).hi by omega),Bool.not_false,if_true]at hn
  cases hn
theorem DI{l:Led}{k:Int}{i:Nat}(h:eY l k i):i<l.ts.length/\∃ r,SH (bq l k) k (aG l i) r:=by
 have hi:=sL h
 rw[Jz hi]at h
 refine⟨hi,?_⟩
 have hn:=EV (Ak l k i (by omega))
 rw[if_pos h]at hn
 unfold gA at hn
 cases hr:cO (bq l k) (aG l i).re with
 |none=>rw[hr]at hn;cases hn
 |some r=>
  rw[hr]at hn
  simp only at hn
  split at hn
  ·rename_i hc
   refine⟨r,hr,?_⟩
   simp only[Bool.and_eq_true,Bool.not_eq_true',Bool.or_eq_false_iff,decide_eq_false_iff_not,List.any_eq_false]at hc
   refine⟨hc.1,by omega,fun f hf=>?_⟩
   have :=hc.2.2 f hf
   simp only[Bool.or_eq_true,not_or,Bool.not_eq_true',Bool.not_eq_false]at this
   exact List.contains_iff_mem.1 (by simpa using this.2)
  ·cases hn
theorem Jv{l:Led}{k:Int}{i j:Nat}(hi:eY l k i)(hj:eY l k j)(aH:i≠j)(e:(aG l i).re=(aG l j).re):∀ f∈(aG l i).lv,f∉(aG l j).lv:=by
 intro f h1 h2
 have k1:=(gx l k).bk2 i hi f h1
 have k2:=(gx l k).bk2 j hj f h2
 rw[e,k2]at k1
 simp only[Option.some.injEq]at k1
 omega
theorem Es{A:List Pq}{t:List Bool}:∀ {s},s<=A.length->∀ q∈fT A t s,∃ j,∃ h:j<A.length,j<s/\t.getD j false=true/\q=A[j]
 | 0,_,q,h=>by simp[fT]at h
 |s+1,hs,q,h=>by
  rw[fT]at h
  split at h
  ·rename_i hb
   rcases List.mem_append.1 h with h | h
   ·obtain⟨j,h1,h2,h3,h4⟩:=Es (by omega) q h
    exact⟨j,h1,by omega,h3,h4⟩
   ·rw[cj (show s<A.length by omega)]at h
    exact⟨s,by omega,by omega,hb,by simpa using h⟩
  ·obtain⟨j,h1,h2,h3,h4⟩:=Es (by omega) q h
   exact⟨j,h1,by omega,h3,h4⟩
theorem Ep{r:Raw}{q:Pq}(h:q∈bg r):∃ j:Nat,eY (iA r) 900 j/\aG (iA r) j=q.1:=by
 unfold bg at h
 obtain⟨j,h1,h2,h3,h4⟩:=Es (A:=cr r) (by rw[xg];exact Nat.le_refl _) q h
 refine⟨j,h3,?_⟩
 have hj:j<(iA r).ts.length:=by rw[xg];exact h1
 rw[mL hj,h4]
 exact Ec _ _ _ h1
theorem JJ{a l:Led}{k:Int}(aa:bw l)(ht:∀ t∈l.ts,∃ j:Nat,eY a k j/\aG a j=t)(hr:∀ t∈l.ts,cO (bq l k) t.re=cO (bq a k) t.re):∀ i,i<l.ts.length->eY l k i:=by
 have jv:∀ i,i<l.ts.length->aG l i∈l.ts:=fun i h=>by rw[mL h];exact List.getElem_mem h
 refine adU (fun i hi=>?_) fun i j bJ hj e=>?_
 ·obtain⟨m,hm,e⟩:=ht _ (jv i hi)
  obtain⟨_,r,h1,h2⟩:=DI hm
  rw[e]at h1 h2
  exact⟨r,by rw[hr _ (jv i hi)];exact h1,h2⟩
 ·obtain⟨m,hm,em⟩:=ht _ (jv i (by omega))
  obtain⟨n,hn,en⟩:=ht _ (jv j hj)
  have aH:m≠n:=by
   rintro rfl
   have :=Ab aa (show i<l.ts.length by omega) hj (by rw[<-em,<-en])
   omega
  have :=Jv hm hn aH (by rw[em,en];exact e)
  rw[em,en]at this
  exact this
theorem Jo(r:Raw):∀ i,i<(dn r).ts.length->eY (dn r) 900 i:=
 JJ (a:=iA r) (Jp r) (fun t ht=>by
  obtain⟨q,hq,rfl⟩:=List.mem_map.1 (show t∈(bg r).map (·.1)from ht)
  exact Ep hq) fun t _=>rfl
theorem WI{r:Raw}{q:Pq}(hq:q∈db r):cO (bq (bR r) 900) q.1.re=cO (bq (iA r) 900) q.1.re:=by
 have dL:rP (l0 r).ps (cq r) q=true:=(List.mem_filter.1 (show q∈List.filter (rP (l0 r).ps (cq r)) ((bg r).take (bg r).length)from hq)).2
 obtain⟨j,hj,ej⟩:=Ep ((rA r).subset hq)
 obtain⟨_,x,h1,_⟩:=DI hj
 rw[ej]at h1
 rw[h1]
 have h2:¬ cw (bR r) q.1.re 900<0:=by
  unfold rP at dL
  have h3:cw ⟨(l0 r).ps,cq r,[],[]⟩ q.1.re 900>=0:=by simpa using dL
  exact Int.not_lt.2 h3
 have h4:=Em (bR r) 900 q.1.re
 rw[if_neg h2]at h4
 rw[h4]
 obtain⟨m1,e1⟩:=ry h4
 obtain⟨m2,e2⟩:=ry h1
 have k1:av (bR r) (cw (bR r) q.1.re 900).toNat∈(l0 r).rs:=(CM r).subset ((List.mem_filter.1 m1).1)
 have k2:x∈(l0 r).rs:=(List.mem_filter.1 m2).1
 have qt:=EI (v8 r).rs
 obtain⟨i,hi,ei⟩:=List.getElem_of_mem k1
 obtain⟨n,hn,en⟩:=List.getElem_of_mem k2
 rw[List.pairwise_iff_getElem]at qt
 have :i=n:=by
  rcases Nat.lt_trichotomy i n with h | h | h
  ·have:=qt i n hi hn h;rw[ei,en,e1,e2]at this;omega
  ·exact h
  ·have:=qt n i hn hi h;rw[ei,en,e1,e2]at this;omega
 subst this
 rw[<-ei,en]
theorem ED(r:Raw):∀ i,i<(bR r).ts.length->eY (bR r) 900 i:=
 JJ (a:=iA r) (kz r) (fun t ht=>by
  obtain⟨q,hq,rfl⟩:=List.mem_map.1 (show t∈(db r).map (·.1)from ht)
  exact Ep ((rA r).subset hq)) fun t ht=>by
  obtain⟨q,hq,rfl⟩:=List.mem_map.1 (show t∈(db r).map (·.1)from ht)
  exact WI hq
theorem Kd{l:Led}{so k:Int}{x:Rec}(hx:x∈l.rs)(h:jr so k x=true):¬ cw l so k<0:=by
 unfold cw dK
 have h2:(l.rs.any fun r=>r.so==so&&bF r.kn r.un k)=true:=List.any_eq_true.2 ⟨x,hx,h⟩
 rw[if_pos h2]
 omega
theorem Yq(r:Raw):(l0 r).rs=fm (r0 r) (nR (r0 r)):=rfl
theorem yf(r:Raw){i:Nat}(h:i<(l0 r).rs.length):(l0 r).rs[i]=gy (r0 r) i/\i<nR (r0 r):=by
 have h2:i<nR (r0 r):=by
  have :=h
  rw[Yq,jm]at this
  exact this
 refine⟨?_,h2⟩
 show (fm (r0 r) (nR (r0 r)))[i]'(by rw[jm];exact h2)=_
 unfold fm
 simp
theorem QS(r:Raw)(i:Nat):∀ j,i<=j->eC r i<=eC r j
 | 0,h=>by have:i=0:=by omega
           subst this;exact Int.le_refl _
 |j+1,h=>by
  by_cases e:i=j+1
  ·subst e;exact Int.le_refl _
  ·have:=QS r i j (by omega)
   have h2:=cY (n:=(r5 r.rs j).d) (m:=20) (by decide)
   rw[eC];omega
theorem Yt(r:Raw){i j:Nat}(bJ:i<=j)(hj:j<(l0 r).rs.length):(av (l0 r) i).da<=(av (l0 r) j).da:=by
 have hi:i<(l0 r).rs.length:=by omega
 rw[cT hi,cT hj,(yf r hi).1,(yf r hj).1]
 exact QS (r0 r) (i+1) (j+1) (by omega)
theorem Fl(r:Raw):∀ x∈(l0 r).rs,bF x.kn x.un 900=true:=by
 intro x hx
 obtain⟨i,hi,rfl⟩:=List.getElem_of_mem hx
 obtain⟨e,h⟩:=yf r hi
 have h8:=pq (r0 r)
 have hd:=(sV (r0 r) (show i<8 by omega)).2.2.1
 rw[e]
 have kP:eC (r0 r) (i+1)<=160:=hd
 have h2:=cY (n:=(r5 (r0 r).rs i).e) (m:=5) (by decide)
 unfold bF
 show (decide (eC (r0 r) (i+1)+aP (r5 (r0 r).rs i).e 5<=900)&&((0:Int)==0||_))=true
 rw[decide_eq_true (by omega)];rfl
theorem Fk(r:Raw){i j:Nat}(hi:i<(l0 r).rs.length)(hj:j<(l0 r).rs.length):(av (l0 r) i).so<(av (l0 r) j).so↔i<j:=by
 have qt:=EI (v8 r).rs
 rw[List.pairwise_iff_getElem]at qt
 rw[cT hi,cT hj]
 constructor
 ·intro h
  rcases Nat.lt_trichotomy i j with h1 | h1 | h1
  ·exact h1
  ·subst h1;omega
  ·have:=qt j i hj hi h1;omega
 ·exact qt i j hi hj
theorem Bc(r:Raw){x y:Rec}(hx:x∈(l0 r).rs)(hy:y∈(l0 r).rs)(e:x.so=y.so):x=y:=by
 obtain⟨i,hi,rfl⟩:=List.getElem_of_mem hx
 obtain⟨j,hj,rfl⟩:=List.getElem_of_mem hy
 have h1:=Fk r hi hj
 have h2:=Fk r hj hi
 rw[cT hi,cT hj]at h1 h2
 have :i=j:=by
  rcases Nat.lt_trichotomy i j with h | h | h
  ·have:=h1.2 h;omega
  ·exact h
  ·have:=h2.2 h;omega
 subst this;rfl
theorem RE(l:Led)(w:List Int):∀ s,fB l w s=((List.range s).filter fun i=>lH l w (fB l w i) i i).map (av l)
 | 0=>rfl
 |s+1=>by
  rw[fB,List.range_succ,List.filter_append,List.map_append,<-RE l w s]
  by_cases h:lH l w (fB l w s) s s=true
  ·rw[if_pos h];simp[h]
  ·rw[if_neg h];simp[h]
theorem RD{l:Led}{w:List Int}{s:Nat}{b:Rec}:b∈fB l w s↔∃ i,i<s/\lH l w (fB l w i) i i=true/\av l i=b:=by
 rw[RE,List.mem_map]
 constructor
 ·rintro⟨i,hi,e⟩
  rw[List.mem_filter,List.mem_range]at hi
  exact⟨i,hi.1,hi.2,e⟩
 ·rintro⟨i,h1,h2,e⟩
  exact⟨i,List.mem_filter.2 ⟨List.mem_range.2 h1,h2⟩,e⟩
theorem Qn{l:Led}{w:List Int}{C:List Rec}{i:Nat}:∀ {n},lH l w C i n=true↔∀ k,k<n->cw ⟨l.ps,C,[],[]⟩ (av l k).so 900<0\/mC l w k i=true
 | 0=>⟨fun _ k h=>absurd h (Nat.not_lt_zero k),fun _=>rfl⟩
 |n+1=>by
  rw[lH,Bool.and_eq_true,Qn,Bool.or_eq_true,decide_eq_true_eq]
  constructor
  ·rintro⟨h1,h2⟩ k hk
   by_cases e:k=n
   ·subst e;exact h2
   ·exact h1 k (by omega)
  ·exact fun h=>⟨fun k hk=>h k (by omega),h n (by omega)⟩
theorem RC{r:Raw}{b:Rec}(hb:b∈cq r):∃ i,i<(l0 r).rs.length/\av (l0 r) i=b/\lH (dn r) (cF (bg r)) (fB (dn r) (cF (bg r)) i) i i=true:=by
 obtain⟨i,h1,h2,h3⟩:=RD.1 hb
 exact⟨i,h1,h3,h2⟩
theorem lM{r:Raw}{b:Rec}(hb:b∈cq r):b∈(l0 r).rs:=(CM r).subset hb
theorem Ic{r:Raw}{a b:Rec}(ha:a∈cq r)(hb:b∈cq r)(h:a.so<b.so):∃ k i,k<i/\i<(l0 r).rs.length/\av (l0 r) k=a/\av (l0 r) i=b/\mC (dn r) (cF (bg r)) k i=true:=by
 obtain⟨k,k1,k2,k3⟩:=RC ha
 obtain⟨i,i1,i2,i3⟩:=RC hb
 have dE:k<i:=(Fk r k1 i1).1 (by rw[k2,i2];exact h)
 refine⟨k,i,dE,i1,k2,i2,?_⟩
 rcases Qn.1 i3 k dE with h1 | h1
 ·exfalso
  refine Kd (l:=⟨(dn r).ps,fB (dn r) (cF (bg r)) i,[],[]⟩) (x:=a) (RD.2 ⟨k,dE,k3,k2⟩) ?_ h1
  unfold jr
  rw[Fl r a (lM ha),show (av (dn r) k).so=a.so from congrArg Rec.so k2]
  simp
 ·exact h1
theorem KW{r:Raw}{q:Pq}(h:q∈cr r):q.1.lo<=q.2/\q.2<=q.1.hi/\∀ a∈(l0 r).rs,a.so=q.1.re->a.da<q.2:=by
 obtain⟨h1,h2⟩:=List.mem_filter.1 (show q∈List.filter (qm (l0 r)) (((l0 r).ts.zip (d0 r)).take (l0 r).ts.length)from h)
 have hz:=List.mem_of_mem_take h1
 obtain⟨j,hj,ej⟩:=List.getElem_of_mem hz
 have iu:j<(l0 r).ts.length:=by simp at hj;omega
 have Pp:j<(d0 r).length:=by simp at hj;omega
 rw[List.getElem_zip]at ej
 have eV:j<nT (r0 r):=by
  have :(l0 r).ts.length=nT (r0 r):=by show ((List.range _).map _).length=_;simp
  omega
 have e1:(l0 r).ts[j]=tM (r0 r) j:=by
  show ((List.range (nT (r0 r))).map (tM (r0 r)))[j]'(by simpa using eV)=_
  simp
 have e2:(d0 r)[j]=dF (r0 r) j:=by
  show ((List.range (nT (r0 r))).map (dF (r0 r)))[j]'(by simpa using eV)=_
  simp
 have h8:=ta (r0 r)
 have ay:=(Am (A4 eV) (show j<8 by omega)).2.1
 have L0:=cY (n:=(r7 (r0 r).ts j).d) (m:=12) (by decide)
 have LZ:=cY (n:=(r7 (r0 r).ts j).e) (m:=12) (by decide)
 have elo:(tM (r0 r) j).lo=bO 0 (dF (r0 r) j-aP (r7 (r0 r).ts j).d 12):=rfl
 have ehi:(tM (r0 r) j).hi=dF (r0 r) j+aP (r7 (r0 r).ts j).e 12:=rfl
 rw[e1,e2]at ej
 subst ej
 refine⟨?_,?_,fun a ha e=>?_⟩
 ·show (tM (r0 r) j).lo<=dF (r0 r) j
  rw[elo];unfold bO;split<;>omega
 ·show dF (r0 r) j<=(tM (r0 r) j).hi
  rw[ehi];omega
 ·unfold qm at h2
  simp only[Bool.and_eq_true,decide_eq_true_eq]at h2
  obtain⟨g1,g2⟩:=h2
  rcases vF (l0 r) (tM (r0 r) j).re 900 with hx | ⟨n,hn,hx,hr⟩
  ·rw[hx]at g1;exact absurd g1 (by decide)
  ·rw[hx,Int.toNat_natCast]at g2
   unfold jr at hr
   simp only[Bool.and_eq_true,beq_iff_eq]at hr
   have :a=(l0 r).rs[n]:=Bc r ha (List.getElem_mem hn) (by rw[e,hr.1])
   rw[this,<-cT hn]
   exact g2
theorem Af(r:Raw):(dn r).ts=rets (bg r):=rfl
theorem xR(r:Raw):(bR r).ts=rets (db r):=rfl
theorem WL(r:Raw):(bR r).rs=cq r:=rfl
theorem Wo(r:Raw):db r=((bg r).take (bg r).length).filter (rP (l0 r).ps (cq r)):=rfl
theorem Ae(r:Raw)(i:Nat):av (dn r) i=av (l0 r) i:=rfl
theorem xQ{r:Raw}{x:Rec}(h:x∈bq (bR r) 900):x∈cq r:=(List.mem_filter.1 h).1
section
attribute [local irreducible] jn fx l0 d0 cr bg cq db
theorem xP{Q:List Pq}{l:Led}(hl:l.ts=rets Q){m:Nat}(h:m<Q.length):m<l.ts.length/\aG l m=Q[m].1:=by
 have h1:m<l.ts.length:=by rw[hl,hS];exact h
 refine⟨h1,?_⟩
 rw[mL h1]
 have :l.ts[m]=(rets Q)[m]'(by rw[hS];exact h):=by simp only[hl]
 rw[this]
 exact Ec _ _ _ h
theorem HV{Q:List Pq}{m:Nat}(h:m<Q.length):(cF Q).getD m 0=Q[m].2:=by
 rw[cj (by rw[nC];exact h)]
 unfold cF
 rw[List.getElem_map]
theorem Rq{r:Raw}{k i:Nat}(h:mC (dn r) (cF (bg r)) k i=true)(hp:(av (l0 r) k).pa=(av (l0 r) i).pa){f:Int}(h1:f∈(av (l0 r) k).lv)(h2:f∈(av (l0 r) i).lv):
 (av (l0 r) k).da≠(av (l0 r) i).da/\∃ n,∃ hn:n<(bg r).length,(bg r)[n].1.re=(av (l0 r) k).so/\f∈(bg r)[n].1.lv/\(bg r)[n].2<=(av (l0 r) i).da:=by
 unfold mC at h
 rw[Ae,Ae]at h
 have aH:((av (l0 r) k).pa != (av (l0 r) i).pa)=false:=by rw[hp];simp
 rw[aH,Bool.false_or,List.all_eq_true]at h
 have h3:=h f h1
 unfold nD zy at h3
 rw[Ae,Ae,List.contains_iff_mem.2 h2,Bool.not_true,Bool.false_or,Bool.not_eq_true',Bool.or_eq_false_iff,Bool.or_eq_false_iff,decide_eq_false_iff_not,decide_eq_false_iff_not,beq_eq_false_iff_ne]at h3
 obtain⟨⟨g1,g2⟩,g3⟩:=h3
 refine⟨g2,?_⟩
 rw[vH]at g1 g3
 cases hb:bb (aj (dn r) 900).bk ((av (dn r) k).so,f)with
 |none=>rw[hb]at g1;exact absurd (by decide) g1
 |some m=>
  rw[hb]at g3
  obtain⟨n,rfl,hn,fq,dZ⟩:=(gx (dn r) 900).bk1 _ _ _ hb
  have BM:n<(dn r).ts.length:=sL hn
  have Gf:n<(bg r).length:=by rw[<-hS,<-Af];exact BM
  obtain⟨_,et⟩:=xP (Af r) Gf
  rw[et]at fq dZ
  refine⟨n,Gf,fq,dZ,?_⟩
  simp only[Option.getD_some,Int.toNat_natCast]at g3
  rw[HV Gf]at g3
  omega
theorem Wj{r:Raw}{q:Pq}(hq:q∈bg r){a:Rec}(ha:a∈cq r)(e:q.1.re=a.so):q∈db r:=by
 rw[Wo,List.take_length,List.mem_filter]
 refine⟨hq,?_⟩
 unfold rP
 rw[decide_eq_true_eq,e]
 refine Int.not_lt.1 (Kd (l:=⟨(l0 r).ps,cq r,[],[]⟩) (x:=a) ha ?_)
 unfold jr
 rw[Fl r a (lM ha)]
 simp
theorem Wr{α:Type}{p:α->α->Bool}{L:List α}(h:∀ i j (hi:i<L.length) (hj:j<L.length),i<j->p L[i] L[j]=false):jU p L=none:=by
 cases hp:jU p L with
 |none=>rfl
 |some q=>
  obtain⟨i,j,hi,hj,bJ,_,hc,_,_⟩:=AL hp
  rw[h i j hi hj bJ]at hc;cases hc
theorem RB{r:Raw}{a b:Rec}(ha:a∈cq r)(hb:b∈cq r)(h:a.so<b.so):a.da<=b.da:=by
 obtain⟨k,i,dE,hi,rfl,rfl,_⟩:=Ic ha hb h
 exact Yt r (Nat.le_of_lt dE) hi
theorem adg{r:Raw}{a b:Rec}(ha:a∈cq r)(hb:b∈cq r)(h:a.da<b.da):a.so<b.so:=by
 rcases Int.lt_trichotomy a.so b.so with h1 | h1 | h1
 ·exact h1
 ·have:=Bc r (lM ha) (lM hb) h1
  subst this;omega
 ·have:=RB hb ha h1;omega
theorem EE(r:Raw):ew (aj (bR r) 900)=none:=by
 rw[AO,qf,Wr fun i j hi hj bJ=>?_]
 ·rfl
 have qt:=V9 (kz r) 900
 have ll:=(List.pairwise_iff_getElem.1 qt) i j hi hj bJ
 have ma:=xQ (List.getElem_mem hi)
 have mb:=xQ (List.getElem_mem hj)
 generalize (bq (bR r) 900)[i]=a at *
 generalize (bq (bR r) 900)[j]=b at *
 have wE:=RB ma mb ll
 unfold gH
 rw[if_neg (by omega)]
 unfold sr
 rw[List.any_eq_false]
 intro f hf
 obtain⟨k,n,hkn,hn,rfl,rfl,cA⟩:=Ic ma mb ll
 by_cases hc:(av (l0 r) k).pa=(av (l0 r) n).pa/\f∈(av (l0 r) n).lv
 ·obtain⟨aH,m,hm,fq,dZ,hle⟩:=Rq cA hc.1 hf hc.2
  have hqo:=Wj (List.getElem_mem hm) ma fq
  obtain⟨u,hu,eu⟩:=List.getElem_of_mem hqo
  obtain⟨wq,et⟩:=xP (xR r) hu
  have Bx:=ED r u wq
  have aM:=(gx (bR r) 900).bk2 u Bx f (by rw[et,eu];exact dZ)
  rw[et,eu,fq]at aM
  obtain⟨p1,p2,p3⟩:=KW ((rz r).subset (List.getElem_mem hm))
  have p4:=p3 _ (lM ma) fq.symm
  have abA:bb (aj (bR r) 900).bk ((av (l0 r) k).so,f)=some (u:Int):=aM
  have ir:¬ bO (aG (bR r) u).lo ((av (l0 r) k).da+1)>(av (l0 r) n).da:=by
   rw[et,eu];unfold bO;split<;>omega
  have yI:((av (l0 r) k).da==(av (l0 r) n).da)=false:=beq_eq_false_iff_ne.2 aH
  simp only[abA,jW,Int.toNat_natCast,yI,Bool.false_or,decide_eq_false ir,Bool.and_false]
  decide
 ·have:((av (l0 r) k).pa==(av (l0 r) n).pa&&(av (l0 r) n).lv.contains f)=false:=by
    rw[Bool.eq_false_iff]
    intro h
    rw[Bool.and_eq_true,beq_iff_eq,List.contains_iff_mem]at h
    exact hc h
  rw[this,Bool.false_and]
  decide
theorem Pu{d da:Int}:∀ (os:List Rec) (h:Int),d<=h->(∀ o∈os,o.da>da->d<=o.da)->d<=nk h da os
 |[],h,h1,_=>h1
 |o::os,h,h1,h2=>by
  show d<=nk (if o.da>da then dH h o.da else h) da os
  refine Pu os _ ?_ fun x hx=>h2 x (by simp[hx])
  split
  ·rename_i hc
   have :=h2 o (by simp) hc
   unfold dH;split<;>omega
  ·exact h1
theorem WK(r:Raw){m:Nat}(hm:m<(db r).length):(aL (aj (bR r) 900).ds m).1<=(db r)[m].2/\(db r)[m].2<=(aL (aj (bR r) 900).ds m).2:=by
 obtain⟨oI,et⟩:=xP (xR r) hm
 have Bx:=ED r m oI
 obtain⟨x,hx,im,GA,nl⟩:=HI (kz r) Bx
 obtain⟨p1,p2,p3⟩:=KW ((rz r).subset ((rA r).subset (List.getElem_mem hm)))
 have B8:av (bR r) x∈cq r:=by rw[cT hx,<-WL];exact List.getElem_mem hx
 have ll:(av (bR r) x).so=(db r)[m].1.re:=by
  unfold jr at GA
  simp only[Bool.and_eq_true,beq_iff_eq]at GA
  rw[GA.1,et]
 have ae:=p3 _ (lM B8) ll
 obtain⟨_,a2,b1,_,_,b4⟩:=DI Bx
 have ze:a2=av (bR r) x:=by
  obtain⟨c1,c2⟩:=ry b1
  exact Bc r (lM (xQ c1)) (lM B8) (by rw[c2,et,ll])
 subst ze
 rw[nl,et]
 refine⟨?_,Pu _ _ p2 fun o ho wE=>?_⟩
 ·unfold ny bO;split<;>omega
 ·have wx:o∈bq (bR r) 900:=(List.mem_filter.1 ho).1
  have mj:=(List.mem_filter.1 ho).2
  have yF:=xQ wx
  unfold iv at mj
  rw[Bool.and_eq_true,beq_iff_eq,List.any_eq_true]at mj
  obtain⟨lr,f,um,oQ⟩:=mj
  rw[List.contains_iff_mem]at oQ
  obtain⟨k,n,hkn,hn,ek,en,cA⟩:=Ic B8 yF (adg B8 yF wE)
  rw[et]at b4
  have BZ:f∈(av (l0 r) k).lv:=by rw[ek];first | exact b4 f oQ | exact b4 f um
  have GM:f∈(av (l0 r) n).lv:=by rw[en];first | exact um | exact oQ
  obtain⟨_,u,hu,fq,dZ,hle⟩:=Rq cA (by rw[ek,en];exact lr.symm) BZ GM
  have F1:=(rA r).subset (List.getElem_mem hm)
  obtain⟨v,hv,ev⟩:=List.getElem_of_mem F1
  obtain⟨wq,eu⟩:=xP (Af r) hu
  obtain⟨rT,QG⟩:=xP (Af r) hv
  have huv:u=v:=by
   refine Classical.byContradiction fun aH=>?_
   refine Jv (Jo r u wq) (Jo r v rT) aH (by rw[eu,QG,fq,ev,ek,ll]) f (by rw[eu];exact dZ) ?_
   rw[QG,ev];first | exact oQ | exact um
  subst huv
  rw[ev]at hle
  rw[en]at hle
  exact hle
end
theorem at_fold{day:Int}{r:Rec}:∀ (l:List Rec) (o:Option Rec),l.foldl (o0 day) o=some r->r∈l\/o=some r
 |[],o,h=>.inr h
 |x::l,o,h=>by
  rcases at_fold l _ h with h1 | h1
  ·exact .inl (by simp[h1])
  ·unfold o0 at h1
   split at h1
   ·simp only[Option.some.injEq]at h1
    subst h1;exact .inl (by simp)
   ·exact .inr h1
theorem zI{rs:List Rec}{pa le day:Int}{r:Rec}(h:eo rs pa le day=some r):r∈rs:=by
 rcases at_fold _ _ h with h1 | h1
 ·exact(List.mem_filter.1 h1).1
 ·cases h1
theorem Ma(l:Led)(S:List Sig)(k:Int):∀ s,aE { l with ss:=S } k s={ aE l k s with l:={ l with ss:=S } }
 | 0=>rfl
 |s+1=>by
  show mZ _ k (aE { l with ss:=S } k s) s=_
  rw[Ma l S k s]
  show mZ _ k _ s={ mZ l k (aE l k s) s with l:={ l with ss:=S } }
  unfold mZ
  show (match gA k (aE l k s).rs (aE l k s).bk (aG l s)with
   |none=>_
   |some r=>_)=_
  cases gA k (aE l k s).rs (aE l k s).bk (aG l s)<;>rfl
theorem Mc(l:Led)(S:List Sig)(rs:List Rec)(ts:List Int)(d:Ds):∀ j,gP { l with ss:=S } rs ts d j=gP l rs ts d j
 | 0=>rfl
 |j+1=>by
  show kD (gP { l with ss:=S } rs ts d j) _ _ _=kD (gP l rs ts d j) _ _ _
  rw[Mc l S rs ts d j];rfl
theorem L7(l:Led)(S:List Sig)(k:Int):aj { l with ss:=S } k={ aj l k with l:={ l with ss:=S } }:=by
 unfold aj
 rw[Ma,Mc];rfl
theorem aaU(r:Raw):aK r={ bR r with ss:=lU r (nS r) }:=rfl
theorem BH(r:Raw):gU r=cF (db r):=rfl
theorem Yp(r:Raw):∀ x∈(l0 r).ts,∃ i:Nat,x.so=3*(i:Int)+2:=fun x hx=>by
 obtain⟨i,-,rfl⟩:=List.mem_map.1 (show x∈(List.range (nT (r0 r))).map (tM (r0 r))from hx)
 exact⟨i,rfl⟩
theorem Fj(r:Raw):∀ x∈(l0 r).rs,(∃ i:Nat,x.so=3*(i:Int)+1)/\1<=x.bo/\x.bo<=4:=fun x hx=>by
 obtain⟨i,hi,rfl⟩:=List.getElem_of_mem hx
 obtain⟨e,h⟩:=yf r hi
 have h8:=pq (r0 r)
 obtain⟨-,-,-,c4,c5,-⟩:=sV (r0 r) (show i<8 by omega)
 rw[e]
 exact⟨⟨i,rfl⟩,c5,c4⟩
theorem KV{r:Raw}{q:Pq}(h:q∈cr r):0<=q.2/\q.2<=200:=by
 have h1:=(List.mem_filter.1 (show q∈List.filter (qm (l0 r)) (((l0 r).ts.zip (d0 r)).take (l0 r).ts.length)from h)).1
 obtain⟨j,hj,ej⟩:=List.getElem_of_mem (List.mem_of_mem_take h1)
 have iu:j<(l0 r).ts.length:=by simp at hj;omega
 rw[List.getElem_zip]at ej
 have eV:j<nT (r0 r):=by
  have :(l0 r).ts.length=nT (r0 r):=by show ((List.range _).map _).length=_;simp
  omega
 have e2:(d0 r)[j]'(by simp at hj;omega)=dF (r0 r) j:=by
  show ((List.range (nT (r0 r))).map (dF (r0 r)))[j]'(by simpa using eV)=_
  simp
 have h8:=ta (r0 r)
 rw[e2]at ej
 subst ej
 exact(Am (A4 eV) (show j<8 by omega)).2
theorem Yr(r:Raw)(n:Int):bT (l0 r).ps (bH n).id=(bH n).lv:=(qe (rJ n)).1
section
attribute [local irreducible] jn fx l0 d0 cr bg cq db
theorem WH(r:Raw):eS (bR r) 900=0:=by
 have h0:gd (aY (bR r) 900)=none:=by rw[<-Ww];exact EE r
 refine rk.1 ?_
 unfold fk
 rw[EE,jW]
 show (true&&fI (aj (bR r) 900) [])=true
 rw[acb (kz r) h0];rfl
theorem JO(r:Raw)(j:Nat):(fK r j).pe=gi (aj (bR r) 900) (gU r) (fK r j).pa (fK r j).da (fK r j).le:=by
 rw[Tp (kz r) (by rw[vB (kz r)];exact WH r)]
 rfl
theorem Lh{r:Raw}{x:Rec}(h:x∈(aj (bR r) 900).rs):x∈(l0 r).rs:=by
 rw[qf]at h
 exact lM (xQ h)
theorem Wt(r:Raw)(pa day f:Int):0<=gi (aj (bR r) 900) (gU r) pa day f/\gi (aj (bR r) 900) (gU r) pa day f<=4:=by
 unfold gi
 split
 ·decide
 ·rename_i x hx
  obtain⟨-,h1,h2⟩:=Fj r x (Lh (zI hx))
  split
  ·omega
  ·split<;>omega
theorem Jb(r:Raw)(j:Nat):((bd (aj (bR r) 900) (fK r j)).1= -1/\(bd (aj (bR r) 900) (fK r j)).2=cH)\/
 ∃ m:Nat,m<(db r).length/\(bd (aj (bR r) 900) (fK r j)).1=m/\(bd (aj (bR r) 900) (fK r j)).2.lo<=(gU r).getD m 0/\(gU r).getD m 0<=(bd (aj (bR r) 900) (fK r j)).2.hi:=by
 have bM:=JO r j
 generalize fK r j=s at *
 unfold bd
 unfold gi at bM
 cases ay:eo (aj (bR r) 900).rs s.pa s.le s.da with
 |none=>
  rw[ay]at bM
  left
  simp only[bM]
  exact⟨rfl,rfl⟩
 |some x=>
  rw[ay]at bM
  simp only at bM |-
  obtain⟨-,zb,-⟩:=Fj r x (Lh (zI ay))
  cases aM:bb (aj (bR r) 900).bk (x.so,s.le)with
  |none=>
   rw[aM]at bM
   simp only at bM |-
   left
   rw[if_pos bM]
   exact⟨rfl,rfl⟩
  |some i=>
   rw[aM]at bM
   simp only at bM |-
   obtain⟨m,rfl,hm,-,-⟩:=(gx (bR r) 900).bk1 _ _ _ aM
   have oI:m<(db r).length:=by
    have :=sL hm
    rw[xR,hS]at this
    exact this
   right
   refine⟨m,oI,?_⟩
   have hd:(gU r).getD m 0=(db r)[m].2:=by rw[BH];exact HV oI
   have BA:=KV ((rz r).subset ((rA r).subset (List.getElem_mem oI)))
   rw[Int.toNat_natCast]at bM
   rw[hd]at bM |-
   by_cases hc:(db r)[m].2>s.da
   ·rw[if_pos hc]at bM
    rw[if_neg (by omega),if_pos bM]
    exact⟨rfl,by show s.da+1<=_;omega,by show _<=(100000:Int);omega⟩
   ·rw[if_neg hc]at bM
    rw[if_pos bM]
    exact⟨rfl,by show (0:Int)<=_;omega,by show _<=s.da;omega⟩
theorem Li(r:Raw){L:List Sig}(hL:∀ s∈L,∃ j,s=fK r j){m:Nat}(hm:m<(db r).length):
 (aL (cl (aj (bR r) 900) (aj (bR r) 900).ds L) m).1<=(gU r).getD m 0/\(gU r).getD m 0<=(aL (cl (aj (bR r) 900) (aj (bR r) 900).ds L) m).2:=by
 have hl:=v7 (aj (bR r) 900) m (Int.natCast_nonneg _) L (aj (bR r) 900).ds
 generalize aL (cl (aj (bR r) 900) (aj (bR r) 900).ds L) m=e at *
 obtain⟨b1,b2⟩:=WK r hm
 have hd:(gU r).getD m 0=(db r)[m].2:=by rw[BH];exact HV hm
 have key:∀ s∈L,(bd (aj (bR r) 900) s).1=(m:Int)->(bd (aj (bR r) 900) s).2.lo<=(gU r).getD m 0/\(gU r).getD m 0<=(bd (aj (bR r) 900) s).2.hi:=fun s hs hw=>by
  obtain⟨j,rfl⟩:=hL s hs
  rcases Jb r j with⟨h1,-⟩ | ⟨n,hn,h1,h2,h3⟩
  ·rw[h1]at hw;omega
  ·have:n=m:=by rw[h1]at hw;omega
   subst this;exact⟨h2,h3⟩
 constructor
 ·rcases hl.a1 with h | ⟨s,hs,h1,h2⟩
  ·rw[h,hd];exact b1
  ·rw[<-h2];exact(key s hs h1).1
 ·rcases hl.a2 with h | ⟨s,hs,h1,h2⟩
  ·rw[h,hd];exact b2
  ·rw[<-h2];exact(key s hs h1).2
end
noncomputable section
def L9(f:FuncId):Option SpecB:=
 match Nat.beq f 132 with
 |true=>some (CH Tryz.prog 29)
 |false=>match Nat.beq f 176 with
  |true=>some (CH Tryz.prog 26)
  |false=>match Nat.beq f 177 with
   |true=>some (CH Tryz.prog 27)
   |false=>match Nat.beq f 178 with
    |true=>some (CH Tryz.prog 28)
    |false=>match Nat.beq f 179 with
     |true=>some acW
     |false=>none
def Fu(_:FuncId->Option SpecB)(f:FuncId):Option SpecB:=L9 f
theorem acY:aZ Tryz.prog 179 pCloneI:=Rr Rs rfl
theorem Y4:∀ Γ:FuncId->Option SpecB,(∀ f s,bx Γ f=some s->aT Tryz.prog f s)->∀ f s,Fu Γ f=some s->aT Tryz.prog f s.spec:=by
 intro Γ _ f s h
 unfold Fu L9 at h
 split at h
 ·rename_i hb;have:=Nat.eq_of_beq_eq_true hb;subst this;cases h;exact w7 Rw
 ·split at h
  ·rename_i hb;have:=Nat.eq_of_beq_eq_true hb;subst this;cases h;exact w7 Rv
  ·split at h
   ·rename_i hb;have:=Nat.eq_of_beq_eq_true hb;subst this;cases h;exact w7 Ru
   ·split at h
    ·rename_i hb;have:=Nat.eq_of_beq_eq_true hb;subst this;cases h;exact w7 Rt
    ·split at h
     ·rename_i hb;have:=Nat.eq_of_beq_eq_true hb;subst this;cases h;exact acY.sound
     ·cases h
def MD(F:List Nat)(T:List Ent):FuncId->Option SpecB:=ΓB Tryz.prog (Il Tryz.prog Fu 100000 F T) 100000 24
theorem Y1{F:List Nat}{T:List Ent}(hT:∀ e∈T,a8 Tryz.prog e):∀ f s,bx (MD F T) f=some s->aT Tryz.prog f s:=
 I5 (adw (fun Γ h f s=>Y4 Γ h f s) hT) 24
theorem cZ{F:List Nat}{T:List Ent}(hT:∀ e∈T,a8 Tryz.prog e){e:Ent}(h:D9 Tryz.prog (MD F T) 100000 e=true):a8 Tryz.prog e:=VT (Y1 hT) h
theorem c9{P:Program}{e:Ent}{T:List Ent}(h:a8 P e)(hT:∀ e∈T,a8 P e):∀ x∈e::T,a8 P x:=by
 intro x hx
 rcases List.mem_cons.1 hx with rfl | hx
 ·exact h
 ·exact hT x hx
def Nj:List Ent:=[]
theorem N0:∀ e∈Nj,a8 Tryz.prog e:=fun e h=>by cases h
end
end Go.Eng
