import Derived.Test.YtepaolcgegdpoaaGreatK8
/- Texts LW68 to LB. -/
set_option linter.all false
namespace Go.Eng
open Go Go.Proofs
set_option maxRecDepth 10000
noncomputable section
def im(x:Vw)(n:Nat):Nat->List Int
 | 0=>List.replicate n 0
 |m+1=>(im x n m).set (x.ts.getD m 0).toNat (aP x.ds (x.ts.getD m 0)).1
theorem t'(x:Vw)(n m:Nat):(im x n m).length=n:=by
 induction m with
 |zero=>simp[im]
 |succ m ih=>rw[im,List.length_set,ih]
theorem YG(x:Vw)(n:Nat):List.replicate n (vInt 0)=(im x n 0).map vInt:=by rw[im,List.map_replicate]
def p9(x:Vw)(n:Nat):List Int:=im x n x.ts.length
def dd(l:Led)(so k:Int)(la:Bool):List Int:=if j9 l so k=0 then(if la then(p9 (aO (aj l k) k) l.ts.length).set (gm l so k).toNat (aP (aO (aj l k) k).ds (gm l so k)).2 else p9 (aO (aj l k) k) l.ts.length)else[]
theorem Qj{l:Led}{so k:Int}(h:fI l so k=0):0<=gm l so k/\gm l so k<l.ts.length:=by
 have h':=h
 unfold fI at h'
 split at h'
 ·rename_i hc
  have aa:=(nG hc).1
  obtain⟨hv,-⟩:=nh aa k
  unfold gm
  rw[if_pos hc]
  cases hr:m6 l so k with
  |none=>rw[hr]at h';cases h'
  |some i=>
   unfold m6 at hr
   have :=hv.ts i (List.mem_of_find?_eq_some hr)
   rw[pv]at this
   exact this
 ·rename_i hc;exact(hc h').elim
def K68:List (Nat×Spec):=[(97,Nc),(78,S78)]
theorem ZY:KS K68:=tc FL.sound<|tc xO<|tn
attribute [go_sem] K68
@[go_sem] def P47:PSpec:=p4 iL iI iI iB (fun _ _ _ _=>True) (fun l so k la=>.tup [.sl ((dd l so k la).map vInt),vInt (j9 l so k)]) false
@[go_sem] def Y3:Spec:=P47.toSpec
set_option maxHeartbeats 8000000 in
theorem Pp:aW Tryz.prog 47 P47:=by
 refine qi (rs:=[.tmp 8,.tmp 9]) Tryz.func47 Tryz.ntmps47 fun l so k la hp hw=>?_
 simp only[iB,iI,iL,fc]at hw |-
 have hΓ:=ZY
 repeat refine sq ?_
 refine rx hΓ [1,2,3,4] [[4,0]] (fun K' hK=>by simp only[go_sem];exact an) ?_
 refine bZ (dt 4 (.ref [4,0] 0) (by simp only[go_sem]) (by simp only[go_sem]) [1,2,3,4] [[4,0]] ?_ rfl) ?_
 ·simp only[go_sem]
 simp only[go_sem]
 repeat refine sq ?_
 refine rx hΓ [2,3,4,10,11] [[4,0]] (fun K' hK=>by simp only[go_sem];exact an) ?_
 repeat refine sq ?_
 refine rx hΓ [2,3,4,10,11,24] [[4,0]] (fun K' hK=>by simp only[go_sem];exact an) ?_
 repeat refine sq ?_
 refine aB (fun hb=>?_) fun hb=>?_
 ·repeat refine sq ?_
  have hc:¬ fI l so k=0:=by simpa using hb
  have e:j9 l so k=fI l so k:=by unfold j9;rw[if_neg hc]
  have e2:dd l so k la=[]:=by unfold dd;rw[e,if_neg hc]
  repeat refine sq ?_
  refine rx hΓ [8,9] [[37,0]] (fun K' hK=>by simp only[go_sem];exact an) ?_
  refine aA ?_
  simp only[go_sem]
  first | (rw[e,e2];done) | (rw[e,e2];rfl) | exact⟨fQ.symm,by rw[e,e2]⟩ | (refine⟨?_,by rw[e,e2]⟩;rw[List.length_set];exact fQ.symm) | trace_state
 ·repeat refine sq ?_
  have hc:fI l so k=0:=by simpa using hb
  obtain⟨aa,_⟩:=AZ hc
  have e:j9 l so k=eS l k:=by unfold j9;rw[if_pos hc]
  refine aE ?_
  rcases bM:gl l k with _ | _
  ·obtain⟨q1,q2,q3⟩:=uD bM
   have q4:¬ eS l k=0:=by simpa using q3
   have e2:dd l so k la=[]:=by unfold dd;rw[e,if_neg q4]
   repeat refine sq ?_
   refine rx hΓ [3,4,10,11,12] [[4,0],[26,0,11,0,11,0,28,0],[23,0,11,0,11,0,28,0],[24,0,11,0,11,0,28,0]] (fun K' hK=>by simp only[go_sem,q1,q2,q3];(repeat (refine⟨by first | exact ao | exact aa,?_⟩));exact eN) ?_
   repeat refine sq ?_
   refine rx hΓ [3,4,10,11,12,32] [[4,0],[26,0,11,0,11,0,28,0],[23,0,11,0,11,0,28,0],[24,0,11,0,11,0,28,0]] (fun K' hK=>by simp only[go_sem,q1,q2,q3];exact an) ?_
   repeat refine sq ?_
   refine aB (fun hb=>?_) fun hb=>?_
   ·repeat refine sq ?_
    refine rx hΓ [8,9] [[37,0]] (fun K' hK=>by simp only[go_sem,q1,q2,q3];exact an) ?_
    refine aA ?_
    simp only[go_sem]
    first | (rw[e,e2];done) | (rw[e,e2];rfl) | exact⟨fQ.symm,by rw[e,e2]⟩ | (refine⟨?_,by rw[e,e2]⟩;rw[List.length_set];exact fQ.symm) | trace_state
   ·cases hb
  ·obtain⟨q1,q2,q3⟩:=uC bM
   obtain⟨hv,bN⟩:=AA aa k
   obtain⟨yj,dw⟩:=Qj hc
   have e3:dd l so k la=if la then(p9 (aO (aj l k) k) l.ts.length).set (gm l so k).toNat (aP (aO (aj l k) k).ds (gm l so k)).2 else p9 (aO (aj l k) k) l.ts.length:=by unfold dd;rw[e,if_pos q3]
   rw[q3]at e
   have qF:=hv.tn
   have JM:=aa.tsn
   have hl:(aO (aj l k) k).ts.length<=maxLen:=by unfold maxLen;omega
   have lz:l.ts.length<=maxLen:=by unfold maxLen;omega
   repeat refine sq ?_
   refine rx hΓ [3,4,10,11,12] [[4,0],[26,0,11,0,11,0,28,0],[23,0,11,0,11,0,28,0],[24,0,11,0,11,0,28,0]] (fun K' hK=>by simp only[go_sem,q1,q2];(repeat (refine⟨by first | exact ao | exact aa,?_⟩));exact eN) ?_
   repeat refine sq ?_
   refine rx hΓ [3,4,10,11,12,32] [[4,0],[26,0,11,0,11,0,28,0],[23,0,11,0,11,0,28,0],[24,0,11,0,11,0,28,0]] (fun K' hK=>by simp only[go_sem,q1,q2];exact an) ?_
   repeat refine sq ?_
   refine aB (fun hb=>?_) fun hb=>?_
   ·cases hb
   ·repeat refine sq ?_
    refine aE ?_
    repeat refine sq ?_
    refine rx hΓ [3,10,12,13] [[37,0],[26,0,11,0,11,0,28,0],[23,0,11,0,11,0,28,0],[24,0,11,0,11,0,28,0]] (fun K' hK=>by simp only[go_sem,q1,q2,List.length_map,ai,YG (aO (aj l k) k) l.ts.length];exact an) ?_
    repeat refine sq ?_
    refine rx hΓ [3,10,12,13,41,42,43] [[37,0],[26,0,11,0,11,0,28,0],[23,0,11,0,11,0,28,0],[24,0,11,0,11,0,28,0]] (fun K' hK=>by simp only[go_sem,q1,q2];exact an) ?_
    repeat refine sq ?_
    refine aS ?_
    repeat refine sq ?_
    refine cv (fun s:Nat=>[(43,⟨true,.v (vInt s)⟩)]) (fun s=>[([37,0],.arr 1 ((im (aO (aj l k) k) l.ts.length s).map vInt))]) (fun s=>s<=(aO (aj l k) k).ts.length) (fun s=>(aO (aj l k) k).ts.length-s) 0 ?_ ?_ ?_ ?_
    ·exact Nat.zero_le _
    ·rfl
    ·rfl
    rintro i hi
    simp only[go_sem]
    repeat refine sq ?_
    refine rx hΓ [3,10,12,13,41,42,43,44] [[37,0],[26,0,11,0,11,0,28,0],[23,0,11,0,11,0,28,0],[24,0,11,0,11,0,28,0]] (fun K' hK=>by simp only[go_sem,q1,q2];exact an) ?_
    repeat refine sq ?_
    refine aB (fun hb=>?_) fun hb=>?_
    ·have ab:i<(aO (aj l k) k).ts.length:=by simpa using hb
     have aq:(i:Int)<(aO (aj l k) k).ts.length:=by omega
     clear hb
     have fQ:=t' (aO (aj l k) k) l.ts.length i
     obtain⟨bB,db⟩:=hv.ts _ (List.getElem_mem ab)
     rw[Fp]at db
     have eT:im (aO (aj l k) k) l.ts.length (i+1)=(im (aO (aj l k) k) l.ts.length i).set ((aO (aj l k) k).ts[i]).toNat (aP (aO (aj l k) k).ds (aO (aj l k) k).ts[i]).1:=by rw[im,bW ab]
     repeat refine sq ?_
     refine aE ?_
     repeat refine sq ?_
     refine aS ?_
     repeat refine sq ?_
     refine rx hΓ [3,10,12,13,15,41,42,43] [[37,0],[26,0,11,0,11,0,28,0],[23,0,11,0,11,0,28,0],[24,0,11,0,11,0,28,0]] (fun K' hK=>by simp only[go_sem,q1,q2,ah ab,ai,ak,aq];exact an) ?_
     repeat refine sq ?_
     refine aY hΓ fun K' hK=>?_
     simp only[go_sem,q1,q2,ah ab,ai,ak,aq,bB,db,gr,xc,fQ,List.length_map]
     repeat (refine⟨ao,?_⟩)
     refine hK _ ?_
     clear K' hK
     simp only[go_sem]
     refine kp [3,10,12,13,41,42,43] [[37,0],[26,0,11,0,11,0,28,0],[23,0,11,0,11,0,28,0],[24,0,11,0,11,0,28,0]] ?_
     repeat refine sq ?_
     refine aY hΓ fun K' hK=>?_
     simp only[go_sem,q1,q2,ah ab,ai,ak,aq]
     repeat (refine⟨ao,?_⟩)
     refine hK _ ?_
     clear K' hK
     simp only[go_sem]
     refine⟨i+1,ab,by(show (aO (aj l k) k).ts.length-(i+1)<(aO (aj l k) k).ts.length-i;omega),?_⟩
     refine bq [3,10,12,13,41,42,43] [[37,0],[26,0,11,0,11,0,28,0],[23,0,11,0,11,0,28,0],[24,0,11,0,11,0,28,0]] ?_ ?_<;>simp only[go_sem,bj ab hl,bn,eT]
    ·have bx:i=(aO (aj l k) k).ts.length:=by
      have :¬ (i:Int)<(aO (aj l k) k).ts.length:=by simpa using hb
      omega
     clear hb
     subst bx
     have fQ:=t' (aO (aj l k) k) l.ts.length (aO (aj l k) k).ts.length
     repeat refine sq ?_
     refine bV ?_
     simp only[go_sem]
     refine kp [3,10,12,13] [[37,0],[26,0,11,0,11,0,28,0],[23,0,11,0,11,0,28,0],[24,0,11,0,11,0,28,0]] ?_
     repeat refine sq ?_
     refine rx hΓ [10,12,13,58] [[37,0],[26,0,11,0,11,0,28,0],[23,0,11,0,11,0,28,0],[24,0,11,0,11,0,28,0]] (fun K' hK=>by simp only[go_sem,q1,q2];exact an) ?_
     repeat refine sq ?_
     refine aB (fun hb=>?_) fun hb=>?_
     ·repeat refine sq ?_
      have e2:dd l so k la=(im (aO (aj l k) k) l.ts.length (aO (aj l k) k).ts.length).set (gm l so k).toNat (aP (aO (aj l k) k).ds (gm l so k)).2:=by rw[e3,if_pos (by simpa using hb)];rfl
      repeat refine sq ?_
      refine rx hΓ [13] [[37,0]] (fun K' hK=>by simp only[go_sem,q1,q2,yj,dw,gr,xc,fQ,List.length_map];exact an) ?_
      repeat refine sq ?_
      refine rx hΓ [8,9] [[37,0]] (fun K' hK=>by simp only[go_sem,q1,q2];exact an) ?_
      refine aA ?_
      simp only[go_sem]
      first | (rw[e,e2];done) | (rw[e,e2];rfl) | exact⟨fQ.symm,by rw[e,e2]⟩ | (refine⟨?_,by rw[e,e2]⟩;rw[List.length_set];exact fQ.symm) | trace_state
     ·repeat refine sq ?_
      have e2:dd l so k la=im (aO (aj l k) k) l.ts.length (aO (aj l k) k).ts.length:=by rw[e3,if_neg (by simpa using hb)];rfl
      refine aE ?_
      repeat refine sq ?_
      refine rx hΓ [8,9] [[37,0]] (fun K' hK=>by simp only[go_sem,q1,q2];exact an) ?_
      refine aA ?_
      simp only[go_sem]
      first | (rw[e,e2];done) | (rw[e,e2];rfl) | exact⟨fQ.symm,by rw[e,e2]⟩ | (refine⟨?_,by rw[e,e2]⟩;rw[List.length_set];exact fQ.symm) | trace_state
end
noncomputable section
def ZX:List (Nat×Spec):=[(80,S80)]
attribute [go_sem] ZX
end
noncomputable section
def ZT:List (Nat×Spec):=[(75,mQ),(91,S91),(78,S78)]
attribute [go_sem] ZT
end
theorem On{l:Led}(aa:bF l){k:Int}:gl l k=decide (mY l k=0):=by
 rw[w9 aa,Bool.eq_iff_iff,decide_eq_true_eq]
 exact w8
def NT(l:Led)(k:Int)(d:List Rg):Prop:=∀ j,j<l.ts.length->¬ gD l k j->dh d j=⟨0,100000⟩
theorem G8{l:Led}{k:Int}{d:List Rg}(h:NT l k d)(hl:d.length=l.ts.length){j:Nat}(hj:gD l k j)(w:Rg):NT l k (d.set j w):=by
 intro i hi ht
 rw[FZ (by rw[hl];exact wW hj)]
 rw[if_neg (fun (e:j=i)=>ht (by subst e;exact hj))]
 exact h i hi ht
theorem Rd{l:Led}{k:Int}{d:List Rg}(h:NT l k d)(hl:d.length=l.ts.length)(s:Sig):NT l k (gp (ba l k) d s).1:=by
 have UN:∀ q:Nat,¬ dD (ba l k) q s.le<0->∃ j:Nat,dD (ba l k) q s.le=j/\gD l k j:=fun q hq=>by
  rw[xj]at hq |-
  cases hb:bp (aj l k).bk ((ax l q).so,s.le)with
  |none=>rw[hb]at hq;exact absurd (by decide) hq
  |some i=>
   obtain⟨j,rfl,hj⟩:=Mt hb
   exact⟨j,rfl,hj⟩
 unfold gp
 split
 ·exact h
 ·split
  ·exact h
  ·rename_i h1 h2
   obtain⟨j,e,hj⟩:=UN _ h2
   rw[e,Int.toNat_natCast]
   split
   ·exact G8 h hl hj _
   ·split
    ·exact G8 h hl hj _
    ·exact h
theorem Br(l:Led)(k:Int)(is:List Int):∀ s,NT l k (lE (ba l k) is s).1
 | 0=>by
   intro j hj ht
   show dh (oR (ba l k) l.ts.length) j=_
   unfold dh oR
   rw[List.getD_eq_getElem?_getD,List.getElem?_map,List.getElem?_range hj]
   show rO (ba l k) j=_
   unfold rO
   rw[if_neg (show ¬ (ba l k).ts.getD j false=true from ht)]
 |s+1=>Rd (Br l k is s) (W9 _ _ _) _
theorem N8{l:Led}(aa:bF l)(k:Int)(az:List Int):fC l k az=wU l k az:=by
 unfold fC wU
 rw[On aa]
 by_cases hs:mY l k=0
 ·rw[decide_eq_true hs,Bool.true_and,Bool.true_and]
  by_cases hl:az.length=l.ts.length
  ·rw[decide_eq_true hl,Bool.true_and,Bool.true_and]
   have jv:eS l k=0:=by rw[<-w9 aa];exact hs
   obtain⟨h0,hv,hr,mB⟩:=AF aa jv
   have ca:NT l k (j5 l k).1:=Br l k _ _
   have hi:=jd l k
   have oD:(aO (aj l k) k).ts=(aC l k l.ts.length).ts:=rfl
   rw[oD,Bool.eq_iff_iff,Bool.and_eq_true,List.all_eq_true,List.all_eq_true,MZ]
   have ht:∀ j,j<l.ts.length->wV l k az j=bI (az.getD j 0) (dh (j5 l k).1 j).lo (dh (j5 l k).1 j).hi:=fun j _=>by unfold wV;rw[hv]
   constructor
   ·rintro⟨h1,h2⟩ j hj
    rw[hl]at hj
    rw[ht j hj]
    by_cases hq:gD l k j
    ·rw[(hr.2 j hq).1]
     have :=h2 j ((hi.ts j).1 hq)
     unfold mU at this
     rw[Int.toNat_natCast]at this
     exact this
    ·rw[ca j hj hq]
     have er:j<az.length:=by omega
     rw[bW er]
     exact h1 _ (List.getElem_mem er)
   ·intro h
    refine⟨fun d hd=>?_,fun i hm=>?_⟩
    ·obtain⟨j,hj,rfl⟩:=List.getElem_of_mem hd
     have :=h j hj
     rw[ht j (by omega),bW hj]at this
     by_cases hq:gD l k j
     ·obtain⟨g1,g2,g3⟩:=hr.2 j hq
      rw[g1]at this
      unfold bI at this
      unfold dayB bI
      simp only[Bool.and_eq_true,decide_eq_true_eq]at this |-
      omega
     ·rw[ca j (by omega) hq]at this
      exact this
    ·have hb:=hi.tl i hm
     obtain⟨j,rfl⟩:∃ j:Nat,i=j:=⟨i.toNat,by omega⟩
     have hq:=(hi.ts j).2 hm
     have :=h j (by omega)
     rw[ht j (by omega),(hr.2 j hq).1]at this
     unfold mU
     rw[Int.toNat_natCast]
     exact this
  ·rw[decide_eq_false hl];rfl
 ·rw[decide_eq_false hs];rfl
instance acX (l:Led) (k:Int) (j:Nat):Decidable (gD l k j):=inferInstanceAs (Decidable ((bu l k l.ts.length).getD j false=true))
theorem MY{x:Vw}{n:Nat}(hx:∀ i∈x.ts,0<=i/\i<(n:Int)){j:Nat}(hj:j<n):∀ m,m<=x.ts.length->(im x n m).getD j 0=if (j:Int)∈x.ts.take m then(aP x.ds j).1 else 0
 | 0,_=>by
   rw[im,if_neg (by simp),List.getD_eq_getElem?_getD,List.getElem?_replicate]
   split<;>rfl
 |m+1,hm=>by
  have ih:=MY hx hj m (by omega)
  have jt:x.ts.getD m 0∈x.ts:=by rw[bW (by omega)];exact List.getElem_mem _
  obtain⟨b0,b1⟩:=hx _ jt
  rw[im,yS (by omega),List.getD_eq_getElem?_getD,List.getElem?_set]
  by_cases he:(x.ts.getD m 0).toNat=j
  ·rw[if_pos he,t',if_pos (by omega)]
   have :x.ts.getD m 0=(j:Int):=by omega
   rw[this,if_pos (by simp)];rfl
  ·rw[if_neg he,<-List.getD_eq_getElem?_getD,ih]
   have e:((j:Int)∈x.ts.take m++[x.ts.getD m 0])↔(j:Int)∈x.ts.take m:=by
    rw[List.mem_append,List.mem_singleton]
    exact⟨fun h=>h.elim id fun h=>(he (by omega)).elim,.inl⟩
   simp only[e]
theorem at_val{l:Led}{so k:Int}(h:j9 l so k=0)(la:Bool):∃ j:Nat,qz l so=(j:Int)/\j<(dd l so k la).length/\(dd l so k la).getD j 0=(if la then(j8 l so k).2 else(j8 l so k).1)/\nH l k (dd l so k la)=0:=by
 have cU:fI l so k=0:=by
  unfold j9 at h
  split at h
  ·assumption
  ·exact h
 have jv:eS l k=0:=by
  unfold j9 at h
  rw[if_pos cU]at h
  exact h
 obtain⟨aa,hk⟩:=AZ cU
 have Db:ct l [k]=0:=by
  unfold fI at cU
  split at cU
  ·assumption
  ·exact cU
 obtain⟨h0,hv,hr,mB⟩:=AF aa jv
 have hi:=jd l k
 have bM:=w8.2 jv
 have UK:j8 l so k=aP (aO (aj l k) k).ds (gm l so k):=by unfold j8;rw[if_pos ⟨cU,bM⟩]
 have UJ:∃ j:Nat,gm l so k=j/\gD l k j/\(aH l j).so=so:=by
  have h2:=cU
  unfold fI at h2
  rw[if_pos Db]at h2
  unfold gm
  rw[if_pos Db]
  cases qL:m6 l so k with
  |none=>rw[qL]at h2;cases h2
  |some i=>
   unfold m6 at qL
   have hm:=List.mem_of_find?_eq_some qL
   have he:=List.find?_some qL
   have hb:=hi.tl i hm
   obtain⟨m,rfl⟩:∃ m:Nat,i=m:=⟨i.toNat,by omega⟩
   unfold cE at he
   rw[Int.toNat_natCast,beq_iff_eq]at he
   exact⟨m,rfl,(hi.ts m).2 hm,he⟩
 obtain⟨j,ej,hj,vE⟩:=UJ
 have fy:=wW hj
 have Un:∀ i∈(aO (aj l k) k).ts,0<=i/\i<(l.ts.length:Int):=hi.tl
 have vU:∀ m:Nat,m<l.ts.length->(p9 (aO (aj l k) k) l.ts.length).getD m 0=if gD l k m then(aP (aO (aj l k) k).ds m).1 else 0:=fun m hm=>by
  unfold p9
  rw[MY Un hm _ (Nat.le_refl _),List.take_length]
  have :((m:Int)∈(aO (aj l k) k).ts)↔gD l k m:=(hi.ts m).symm
  simp only[this]
 have KB:dd l so k la=if la then(p9 (aO (aj l k) k) l.ts.length).set j (aP (aO (aj l k) k).ds j).2 else p9 (aO (aj l k) k) l.ts.length:=by
  unfold dd
  rw[if_pos h,ej,Int.toNat_natCast]
 have hlen:(dd l so k la).length=l.ts.length:=by
  rw[KB]
  split
  ·rw[List.length_set];exact t' _ _ _
  ·exact t' _ _ _
 have cN:∀ m:Nat,m<l.ts.length->(dd l so k la).getD m 0=if (la=true/\m=j)then(aP (aO (aj l k) k).ds j).2 else if gD l k m then(aP (aO (aj l k) k).ds m).1 else 0:=fun m hm=>by
  rw[KB]
  cases la with
  |false=>
   rw[if_neg (by simp),if_neg (by simp)]
   exact vU m hm
  |true=>
   rw[if_pos rfl,List.getD_eq_getElem?_getD,List.getElem?_set]
   by_cases he:j=m
   ·subst he
    rw[if_pos rfl,if_pos (by show j<(im _ _ _).length;rw[t'];exact hm),if_pos ⟨rfl,rfl⟩];rfl
   ·rw[if_neg he,if_neg (fun h=>he h.2.symm),<-List.getD_eq_getElem?_getD]
    exact vU m hm
 refine⟨j,?_,by rw[hlen];exact fy,?_,?_⟩
 ·unfold qz
  have e:aH l j=l.ts[j]:=bW fy
  refine nj fy (by rw[<-e,vE];exact beq_self_eq_true _) fun m hm kG=>?_
  rw[beq_eq_false_iff_ne]
  intro hh
  have e2:aH l m=l.ts[m]:=bW hm
  have :=Av aa hm fy (by rw[e2,hh,vE])
  omega
 ·rw[cN j fy,UK,ej]
  cases la with
  |false=>rw[if_neg (by simp),if_pos hj];rfl
  |true=>rw[if_pos ⟨rfl,rfl⟩];rfl
 ·unfold nH
  rw[if_pos Db,N8 aa]
  have :wU l k (dd l so k la)=true:=by
   unfold wU
   have hs:mY l k=0:=by rw[w9 aa];exact jv
   rw[hs,hlen]
   simp only[decide_true,Bool.true_and]
   rw[MZ]
   intro m hm
   unfold wV
   rw[cN m hm,hv]
   have ca:NT l k (j5 l k).1:=Br l k _ _
   show bI _ (dh (j5 l k).1 m).lo (dh (j5 l k).1 m).hi=true
   unfold bI
   by_cases hq:gD l k m
   ·obtain⟨g1,g2,g3⟩:=hr.2 m hq
    have g4:=mB m hq
    rw[g1,if_pos hq]
    simp only[Bool.and_eq_true,decide_eq_true_eq]
    split
    ·rename_i hc
     have :m=j:=hc.2
     subst this
     omega
    ·omega
   ·rw[ca m hm hq,if_neg (fun (hc:la=true/\m=j)=>hq (by rw[hc.2];exact hj)),if_neg hq]
    decide
  rw[this];rfl
noncomputable section
theorem Fq:∀ (A T:List Int),A.Nodup->(∀ a∈A,a∈T)->A.length<=T.length
 |[],_,_,_=>Nat.zero_le _
 |a::A,T,hn,h=>by
  rw[List.nodup_cons]at hn
  have h1:=h a (by simp)
  have h2:=Fq A (T.erase a) hn.2 fun x hx=>(List.mem_erase_of_ne (by rintro rfl;exact hn.1 hx)).2 (h x (by simp[hx]))
  rw[List.length_erase_of_mem h1]at h2
  have :=List.length_pos_of_mem h1
  simp only[List.length_cons]
  omega
def ZI:List (Nat×Spec):=[]
attribute [go_sem] ZI
end
end Go.Eng
set_option linter.unusedVariables false
namespace Go.Eng
open Go Go.Proofs Go.RowKit Go.Lib Go.Shelf
def zS:V:=.agg [.int .i64 0,.int .i64 0,.int .i64 0,.int .i64 0,.int .i64 0,.int .i64 0,.int .i64 0]
def M2(obj:Name->Option O):List D->R
 |[.msl nm k,.v (.int .i64 i),.v (.int .i64 j)]=>match obj nm with
  |some (.arr sz l)=>⟨k=l.length/\sz=7/\0<=i/\j=i+1/\i.toNat<l.length,.v (.sl (l.eraseIdx i.toNat)),upd obj nm (some (.farr sz (l.eraseIdx i.toNat++[zS])))⟩
  |_=>.bad obj
 |_=>.bad obj
def LH:List D->List Name
 |[.msl nm _,_,_]=>[nm]
 |_=>[]
def Zk:Spec:=⟨fun obj _ ds=>M2 obj ds,fun _ _ ds=>LH ds,fun _ _ ds=>LH ds⟩
open Go Go.Proofs
set_option maxRecDepth 10000
noncomputable section
attribute [go_sem] Zk M2
def ZH:List (Nat×Spec):=[(75,mQ),(121,S121),(122,S122),(108,wD),(130,Nq),(132,S132)]
attribute [go_sem] ZH
end
structure Lim (x:Vw) (d:Ds) (L:List Sig) (i:Int) (e:Int×Int):Prop where
 b1:(aP d i).1<=e.1
 b2:e.2<=(aP d i).2
 s1:∀ s∈L,(bw x s).1=i->(bw x s).2.lo<=e.1/\e.2<=(bw x s).2.hi
 a1:e.1=(aP d i).1\/∃ s∈L,(bw x s).1=i/\(bw x s).2.lo=e.1
 a2:e.2=(aP d i).2\/∃ s∈L,(bw x s).1=i/\(bw x s).2.hi=e.2
variable {x:Vw}
theorem LY{l:Led}{k:Int}(hd:ct l [k]=0)(hs:eS l k=0){i:Nat}(hi:(i:Int)∈(aj l k).ts):gm l (cE l i) k=i/\fI l (cE l i) k=0/\j9 l (cE l i) k=0/\qz l (cE l i)=i:=by
 obtain⟨aa,_⟩:=nG hd
 have hI:=jd l k
 have hi0:=hI.tl _ hi
 have oF:i<l.ts.length:=by omega
 have qL:m6 l (cE l i) k=some (i:Int):=by
  unfold m6
  rw[List.find?_eq_some_iff_getElem]
  obtain⟨q,hq,e⟩:=List.getElem_of_mem hi
  refine⟨by simp,q,hq,e,fun m hm=>?_⟩
  have J7:m<(aj l k).ts.length:=by omega
  have hb:=hI.tl _ (List.getElem_mem (show m<(aC l k l.ts.length).ts.length from J7))
  have hn:=hI.tn
  rw[Bool.not_eq_true',beq_eq_false_iff_ne]
  intro he
  unfold cE at he
  have cP:0<=(aj l k).ts[m]/\(aj l k).ts[m] <l.ts.length:=hb
  have e3:=Av aa (show ((aj l k).ts[m]).toNat<l.ts.length by omega) oF (by rw[he];simp)
  have e4:(aj l k).ts[m]=(aj l k).ts[q]:=by rw[e];omega
  have :=(List.getElem_inj (h₀:=J7) (h₁:=hq) hn).1 e4
  omega
 have hE:fI l (cE l i) k=0:=by unfold fI;rw[if_pos hd,qL];rfl
 refine⟨by unfold gm;rw[if_pos hd,qL];rfl,hE,by unfold j9;rw[if_pos hE];exact hs,?_⟩
 unfold qz
 have e:aH l i=l.ts[i]:=bW oF
 refine nj oF (by unfold cE;rw[Int.toNat_natCast,e];exact beq_self_eq_true _) fun m hm kG=>?_
 rw[beq_eq_false_iff_ne]
 intro hh
 have e2:aH l m=l.ts[m]:=bW hm
 have :=Av aa hm oF (by rw[e2,hh];unfold cE;rw[Int.toNat_natCast])
 omega
theorem Lb{l:Led}{k:Int}(aa:bF l)(hs:eS l k=0){i:Nat}(hi:(i:Int)∈(aj l k).ts):(aP (aO (aj l k) k).ds i).1<=(aP (aO (aj l k) k).ds i).2:=
 (AF aa hs).2.2.2 i (((jd l k).ts i).2 hi)
theorem at_tel{l:Led}{k:Int}(hd:ct l [k]=0)(hs:eS l k=0){i:Nat}(hi:(i:Int)∈(aj l k).ts)(c:Bool):
 i <(dd l (cE l i) k c).length/\(dd l (cE l i) k c).getD i 0=(if c then(aP (aO (aj l k) k).ds i).2 else(aP (aO (aj l k) k).ds i).1)/\nH l k (dd l (cE l i) k c)=0/\
 j8 l (cE l i) k=aP (aO (aj l k) k).ds i:=by
 obtain⟨h1,h2,h3,h4⟩:=LY hd hs hi
 obtain⟨j,e1,e2,e3,e4⟩:=at_val h3 c
 have hj:j=i:=by rw[h4]at e1;omega
 subst hj
 have hr:j8 l (cE l j) k=aP (aO (aj l k) k).ds j:=by unfold j8;rw[if_pos ⟨h2,w8.2 hs⟩,h1]
 rw[hr]at e3
 exact⟨e2,e3,e4,hr⟩
theorem E9{l:Led}{k:Int}{az:List Int}(hd:ct l [k]=0)(h:nH l k az=0):fC l k az=true/\az.length=l.ts.length/\∀ i:Nat,(i:Int)∈(aj l k).ts->(aP (aO (aj l k) k).ds i).1<=az.getD i 0/\az.getD i 0<=(aP (aO (aj l k) k).ds i).2:=by
 have ht:fC l k az=true:=by
  unfold nH at h
  rw[if_pos hd]at h
  cases hb:fC l k az with
  |true=>rfl
  |false=>rw[hb]at h;cases h
 refine⟨ht,?_⟩
 unfold fC at ht
 simp only[Bool.and_eq_true,decide_eq_true_eq,List.all_eq_true]at ht
 refine⟨ht.2.1,fun i hi=>?_⟩
 have :=ht.2.2.2 i hi
 unfold mU bI at this
 simpa using this
theorem Gz(x:Vw)(az:List Int)(pa day:Int)(n:Nat):∀ m,m<=n->∀ j,j<m->(eH x az pa day n m).getD j 0=fh x az pa day ((j+1:Nat):Int)
 | 0,_,j,hj=>absurd hj (Nat.not_lt_zero j)
 |m+1,hm,j,hj=>by
  rw[eH,List.getD_eq_getElem?_getD,List.getElem?_set]
  by_cases e:m=j
  ·subst e
   rw[if_pos rfl,if_pos (by rw[uS];omega)];rfl
  ·rw[if_neg e,<-List.getD_eq_getElem?_getD]
   exact Gz x az pa day n m (by omega) j (by omega)
theorem Ee{l:Led}{k:Int}{q:Int×Int}{i:Int}(h:bp (aj l k).bk q=some i):∃ j:Nat,i=j/\(j:Int)∈(aj l k).ts:=by
 obtain⟨a,b⟩:=q
 obtain⟨j,e,h2,_⟩:=(jd l k).bk1 a b i h
 exact⟨j,e,((jd l k).ts j).1 h2⟩
theorem QD{l:Led}{k:Int}{az:List Int}(hd:ct l [k]=0)(h:nH l k az=0)(pa f day:Int):fh (aj l k) az pa day f∈jE (aO (aj l k) k) pa f day:=by
 obtain⟨_,_,hm⟩:=E9 hd h
 unfold fh jE
 show _∈(match ey (aj l k).rs pa f day with
  |none=>[0]
  |some r=>match bp (aj l k).bk (r.so,f)with
   |none=>[r.bo]
   |some i=>(if (aP (aO (aj l k) k).ds i).1<=day then[0]else[])++(if (aP (aO (aj l k) k).ds i).2>day then[r.bo]else[]))
 cases ey (aj l k).rs pa f day with
 |none=>simp
 |some r=>
  simp only[]
  cases hb:bp (aj l k).bk (r.so,f)with
  |none=>simp
  |some i=>
   obtain⟨j,rfl,hj⟩:=Ee hb
   obtain⟨h1,h2⟩:=hm j hj
   simp only[Int.toNat_natCast]
   rw[List.mem_append]
   by_cases c:az.getD j 0>day
   ·rw[if_pos c];right;rw[if_pos (by omega)];simp
   ·rw[if_neg c];left;rw[if_pos (by omega)];simp
theorem NP{l:Led}{k:Int}(aa:bF l)(hs:eS l k=0)(pa f day:Int):1<=(jE (aO (aj l k) k) pa f day).length/\(jE (aO (aj l k) k) pa f day).length<=2:=by
 unfold jE
 split
 ·simp
 ·split
  ·simp
  ·rename_i i hb
   obtain⟨j,rfl,hj⟩:=Ee (l:=l) (k:=k) hb
   have :=Lb aa hs hj
   split<;>split<;>simp
   omega
theorem NO{l:Led}{k:Int}(hd:ct l [k]=0)(hs:eS l k=0){pa f day:Int}(h2:1<(jE (aO (aj l k) k) pa f day).length):
 ∃ j:Nat,(j:Int)∈(aj l k).ts/\∀ w∈jE (aO (aj l k) k) pa f day,w=fh (aj l k) (dd l (cE l j) k false) pa day f\/w=fh (aj l k) (dd l (cE l j) k true) pa day f:=by
 unfold jE at h2 |-
 unfold fh
 revert h2
 show 1<(match ey (aj l k).rs pa f day with
  |none=>[0]
  |some r=>match bp (aj l k).bk (r.so,f)with
   |none=>[r.bo]
   |some i=>(if (aP (aO (aj l k) k).ds i).1<=day then[0]else[])++(if (aP (aO (aj l k) k).ds i).2>day then[r.bo]else[])).length->∃ j:Nat,(j:Int)∈(aj l k).ts/\∀ w∈(match ey (aj l k).rs pa f day with
  |none=>[0]
  |some r=>match bp (aj l k).bk (r.so,f)with
   |none=>[r.bo]
   |some i=>(if (aP (aO (aj l k) k).ds i).1<=day then[0]else[])++(if (aP (aO (aj l k) k).ds i).2>day then[r.bo]else[])),_
 cases ey (aj l k).rs pa f day with
 |none=>intro h;simp at h
 |some r=>
  simp only[]
  cases hb:bp (aj l k).bk (r.so,f)with
  |none=>intro h;simp at h
  |some i=>
   obtain⟨j,rfl,hj⟩:=Ee hb
   simp only[Int.toNat_natCast]
   intro h
   refine⟨j,hj,?_⟩
   have e1:=(at_tel hd hs hj false).2.1
   have e2:=(at_tel hd hs hj true).2.1
   simp only[Bool.false_eq_true,if_false]at e1
   simp only[if_true]at e2
   simp only[Int.toNat_natCast,e1,e2]
   by_cases c1:(aP (aO (aj l k) k).ds j).1<=day
   ·by_cases c2:(aP (aO (aj l k) k).ds j).2>day
    ·intro w hw
     rw[if_pos c1,if_pos c2]at hw
     rw[if_neg (show ¬ (aP (aO (aj l k) k).ds j).1>day by omega),if_pos c2]
     simpa using hw
    ·rw[if_pos c1,if_neg c2]at h;simp at h
   ·by_cases c2:(aP (aO (aj l k) k).ds j).2>day
    ·rw[if_neg c1,if_pos c2]at h;simp at h
    ·rw[if_neg c1,if_neg c2]at h;simp at h
noncomputable section
def Hq(f:FuncId):Option SpecB:=
 match Nat.beq f 132 with
 |true=>some (zr Tryz.prog 29)
 |false=>match Nat.beq f 176 with
  |true=>some (zr Tryz.prog 26)
  |false=>match Nat.beq f 177 with
   |true=>some (zr Tryz.prog 27)
   |false=>match Nat.beq f 178 with
    |true=>some (zr Tryz.prog 28)
    |false=>match Nat.beq f 179 with
     |true=>some XI
     |false=>none
def BZ(_:FuncId->Option SpecB)(f:FuncId):Option SpecB:=Hq f
theorem XL:aW Tryz.prog 179 pCloneI:=XH XO rfl
theorem S2:∀ Γ:FuncId->Option SpecB,(∀ f s,bf Γ f=some s->aM Tryz.prog f s)->∀ f s,BZ Γ f=some s->aM Tryz.prog f s.spec:=by
 intro Γ _ f s h
 unfold BZ Hq at h
 split at h
 ·rename_i hb;have:=Nat.eq_of_beq_eq_true hb;subst this;cases h;exact tS Mb
 ·split at h
  ·rename_i hb;have:=Nat.eq_of_beq_eq_true hb;subst this;cases h;exact tS XY
  ·split at h
   ·rename_i hb;have:=Nat.eq_of_beq_eq_true hb;subst this;cases h;exact tS XU
   ·split at h
    ·rename_i hb;have:=Nat.eq_of_beq_eq_true hb;subst this;cases h;exact tS XR
    ·split at h
     ·rename_i hb;have:=Nat.eq_of_beq_eq_true hb;subst this;cases h;exact XL.sound
     ·cases h
def HR(F:List Nat)(T:List Ent):FuncId->Option SpecB:=ΓB Tryz.prog (Eg Tryz.prog BZ 100000 F T) 100000 24
theorem SZ{F:List Nat}{T:List Ent}(hT:∀ e∈T,aT Tryz.prog e):∀ f s,bf (HR F T) f=some s->aM Tryz.prog f s:=
 EV (Yi (fun Γ h f s=>S2 Γ h f s) hT) 24
theorem cz{F:List Nat}{T:List Ent}(hT:∀ e∈T,aT Tryz.prog e){e:Ent}(h:AW Tryz.prog (HR F T) 100000 e=true):aT Tryz.prog e:=Qe (SZ hT) h
theorem cF{P:Program}{e:Ent}{T:List Ent}(h:aT P e)(hT:∀ e∈T,aT P e):∀ x∈e::T,aT P x:=by
 intro x hx
 rcases List.mem_cons.1 hx with rfl | hx
 ·exact h
 ·exact hT x hx
def IC:List Ent:=[]
theorem Ji:∀ e∈IC,aT Tryz.prog e:=fun e h=>by cases h
end
end Go.Eng
