import Derived.Test.YtepaolcgegdpoaaGreatK8
/- Texts LM5 to LB. -/
set_option linter.all false
namespace Go.Eng
open Go Go.Proofs
theorem Dy{l l':Led}(h:bA l)(hp:l'.ps=l.ps)(hr:l'.rs.Sublist l.rs)(ht:l'.ts.Sublist l.ts)(hs:l'.ss.Sublist l.ss):bA l' where
 ps:=by rw[hp];exact h.ps
 psn:=by rw[hp];exact h.psn
 rs:=by
  have :=h.rs
  rw[r8]at this |-
  exact⟨fun x hx=>this.1 x (hr.subset hx),this.2.sublist hr⟩
 rsn:=Nat.le_trans hr.length_le h.rsn
 ts:=by
  have :=h.ts
  rw[r8]at this |-
  exact⟨fun x hx=>this.1 x (ht.subset hx),this.2.sublist ht⟩
 tsn:=Nat.le_trans ht.length_le h.tsn
 ss:=by
  have :=h.ss
  rw[r8]at this |-
  exact⟨fun x hx=>this.1 x (hs.subset hx),this.2.sublist hs⟩
 ssn:=Nat.le_trans hs.length_le h.ssn
 rl:=fun j hj=>by
  obtain⟨i,hi,e⟩:=List.getElem_of_mem (hr.subset (List.getElem_mem hj))
  have :=h.rl i hi
  rw[e]at this
  rw[hp];exact this
 sl:=fun j hj=>by
  obtain⟨i,hi,e⟩:=List.getElem_of_mem (hs.subset (List.getElem_mem hj))
  have :=h.sl i hi
  rw[e]at this
  rw[hp];exact this
 nd:=by
  refine List.Nodup.sublist ?_ h.nd
  unfold uI
  exact((hr.map _).append (ht.map _)).append (hs.map _)
abbrev Pq:=Ret×Int
def pR(l:Led)(q:Pq):Bool:=decide (cg l q.1.re 900>=0)&&decide (q.2>(ao l (cg l q.1.re 900).toNat).da)
def gu(l:Led)(d:List Int)(s:Nat):List Pq:=((l.ts.zip d).take s).filter (pR l)
def fL(A:List Pq)(t:List Bool):Nat->List Pq
 | 0=>[]
 |s+1=>if t.getD s false=true then fL A t s++[A.getD s default]else fL A t s
def rets(q:List Pq):List Ret:=q.map (·.1)
def cq(q:List Pq):List Int:=q.map (·.2)
def ln(l:Led)(w:List Int)(C:List Rec)(i:Nat):Nat->Bool
 | 0=>true
 |k+1=>ln l w C i k&&(decide (cg ⟨l.ps,C,[],[]⟩ (ao l k).so 900<0)||l9 l w k i)
def fh(l:Led)(w:List Int):Nat->List Rec
 | 0=>[]
 |i+1=>if ln l w (fh l w i) i i=true then fh l w i++[ao l i]else fh l w i
def ri(ps:List Pap)(C:List Rec)(q:Pq):Bool:=decide (cg ⟨ps,C,[],[]⟩ q.1.re 900>=0)
def jG(ps:List Pap)(C:List Rec)(T:List Pq)(s:Nat):List Pq:=(T.take s).filter (ri ps C)
theorem Dk(A:List Pq)(t:List Bool):∀ s,s<=A.length->(fL A t s).Sublist (A.take s)
 | 0,_=>by simp[fL]
 |s+1,h=>by
  have ih:=Dk A t s (by omega)
  have hs:s<A.length:=by omega
  rw[fL,List.take_add_one,List.getElem?_eq_getElem hs,cj hs]
  simp only[Option.toList_some]
  split
  ·exact ih.append (List.Sublist.refl _)
  ·exact ih.trans (List.sublist_append_left _ _)
theorem G'(l:Led)(w:List Int):∀ s,s<=l.rs.length->(fh l w s).Sublist (l.rs.take s)
 | 0,_=>by simp[fh]
 |s+1,h=>by
  have ih:=G' l w s (by omega)
  have hs:s<l.rs.length:=by omega
  rw[fh,List.take_add_one,List.getElem?_eq_getElem hs,cm hs]
  simp only[Option.toList_some]
  split
  ·exact ih.append (List.Sublist.refl _)
  ·exact ih.trans (List.sublist_append_left _ _)
def r0(r:Raw):Raw:=⟨r.rs,r.ts,[]⟩
def l0(r:Raw):Led:=lN (r0 r)
def d0(r:Raw):List Int:=gl (r0 r) (nT (r0 r))
def ct(r:Raw):List Pq:=gu (l0 r) (d0 r) (l0 r).ts.length
def ie(r:Raw):Led:=⟨(l0 r).ps,(l0 r).rs,rets (ct r),[]⟩
def be(r:Raw):List Pq:=fL (ct r) (bm (ie r) 900 (ie r).ts.length) (ie r).ts.length
def dh(r:Raw):Led:=⟨(l0 r).ps,(l0 r).rs,rets (be r),[]⟩
def b7(r:Raw):List Rec:=fh (dh r) (cq (be r)) (dh r).rs.length
def dr(r:Raw):List Pq:=jG (l0 r).ps (b7 r) (be r) (be r).length
def bN(r:Raw):Led:=⟨(l0 r).ps,b7 r,rets (dr r),[]⟩
def dE(r:Raw):List Int:=cq (dr r)
def fv(r:Raw)(j:Nat):Sig:=
 ⟨3*j+3,iM (aV (bN r) 900) ⟨(bE (r5 r.ss j).b).id,1+aM (r5 r.ss j).c (bE (r5 r.ss j).b).lv⟩ (dE r) (aM (r5 r.ss j).d 200),(bE (r5 r.ss j).b).id,1+aM (r5 r.ss j).c (bE (r5 r.ss j).b).lv,aM (r5 r.ss j).d 200,aM (r5 r.ss j).e 300,0⟩
def lD(r:Raw)(m:Nat):List Sig:=(List.range m).map (fv r)
def a8(r:Raw):Led:=⟨(l0 r).ps,b7 r,rets (dr r),lD r (nS r)⟩
theorem vo(r:Raw):bA (l0 r):=by unfold l0 lN;exact KA (r0 r) (Nat.min_le_right _ _)
theorem PB(r:Raw):(d0 r).length=(l0 r).ts.length:=by
 show ((List.range (nT (r0 r))).map _).length=((List.range (nT (r0 r))).map _).length
 rw[List.length_map,List.length_map]
theorem HV{α β:Type}:∀ (a:List α) (b:List β),a.length=b.length->(a.zip b).map (·.1)=a
 |[],[],_=>rfl
 |x::a,y::b,h=>by
  simp only[List.zip_cons_cons,List.map_cons]
  rw[HV a b (by simpa using h)]
theorem zL(r:Raw)(s:Nat):(gu (l0 r) (d0 r) s).Sublist ((l0 r).ts.zip (d0 r)):=List.filter_sublist.trans (List.take_sublist _ _)
theorem zE(r:Raw){q:List Pq}(h:q.Sublist ((l0 r).ts.zip (d0 r))):(rets q).Sublist (l0 r).ts:=by
 have :=h.map (·.1)
 rw[HV _ _ (PB r).symm]at this
 exact this
theorem acV(r:Raw):bA (ie r):=Dy (vo r) rfl (List.Sublist.refl _) (zE r (zL r _)) (List.nil_sublist _)
theorem gV(q:List Pq):(rets q).length=q.length:=by unfold rets;simp
theorem m7(q:List Pq):(cq q).length=q.length:=by unfold cq;simp
theorem wo(r:Raw):(ie r).ts.length=(ct r).length:=gV _
theorem qI(r:Raw):(be r).Sublist (ct r):=by
 have :=Dk (ct r) (bm (ie r) 900 (ie r).ts.length) (ie r).ts.length (by rw[wo];exact Nat.le_refl _)
 rw[wo]at this
 rw[List.take_length]at this
 unfold be
 rw[wo]
 exact this
theorem Ig(r:Raw):bA (dh r):=Dy (vo r) rfl (List.Sublist.refl _) (zE r ((qI r).trans (zL r _))) (List.nil_sublist _)
theorem BK(r:Raw):(b7 r).Sublist (l0 r).rs:=(G' (dh r) _ _ (Nat.le_refl _)).trans (List.take_sublist _ _)
theorem qJ(r:Raw):(dr r).Sublist (be r):=List.filter_sublist.trans (List.take_sublist _ _)
theorem ka(r:Raw):bA (bN r):=Dy (vo r) rfl (BK r) (zE r ((qJ r).trans ((qI r).trans (zL r _)))) (List.nil_sublist _)
set_option maxRecDepth 10000
noncomputable section
theorem UA{l:Led}{d:List Int}{i:Nat}(h:i<l.ts.length)(hd:i<d.length)(hc:pR l (l.ts[i],d[i])=true):gu l d (i+1)=gu l d i++[(l.ts[i],d[i])]:=by
 unfold gu
 have hz:i<(l.ts.zip d).length:=by simp;omega
 rw[qB hz,List.getElem_zip,if_pos hc]
theorem JE{l:Led}{d:List Int}{i:Nat}(h:i<l.ts.length)(hd:i<d.length)(hc:pR l (l.ts[i],d[i])=false):gu l d (i+1)=gu l d i:=by
 unfold gu
 have hz:i<(l.ts.zip d).length:=by simp;omega
 rw[qB hz,List.getElem_zip,if_neg (by rw[hc];decide)];simp
theorem JF(l:Led)(d:List Int)(s:Nat):(gu l d s).length<=l.ts.length:=by
 unfold gu
 refine Nat.le_trans (List.length_filter_le _ _) ?_
 simp;omega
theorem Uv{ps:List Pap}{C:List Rec}{T:List Pq}{i:Nat}(h:i<T.length)(hc:ri ps C T[i]=true):jG ps C T (i+1)=jG ps C T i++[T[i]]:=by
 unfold jG
 rw[qB h,if_pos hc]
theorem Uw{ps:List Pap}{C:List Rec}{T:List Pq}{i:Nat}(h:i<T.length)(hc:ri ps C T[i]=false):jG ps C T (i+1)=jG ps C T i:=by
 unfold jG
 rw[qB h,if_neg (by rw[hc];decide)];simp
theorem Ux(ps:List Pap)(C:List Rec)(T:List Pq)(s:Nat):(jG ps C T s).length<=T.length:=by
 unfold jG
 refine Nat.le_trans (List.length_filter_le _ _) ?_
 simp;omega
theorem Ut(A:List Pq)(t:List Bool){s:Nat}(h:s<=A.length):(fL A t s).length<=A.length:=Nat.le_trans (Dk A t s h).length_le (by simp;omega)
theorem aca(l:Led)(w:List Int){s:Nat}(h:s<=l.rs.length):(fh l w s).length<=l.rs.length:=Nat.le_trans (G' l w s h).length_le (by simp;omega)
theorem sv(a b:List Pq):rets (a++b)=rets a++rets b:=List.map_append
theorem tV(a b:List Pq):cq (a++b)=cq a++cq b:=List.map_append
theorem su(q:Pq):rets [q]=[q.1]:=rfl
theorem tU(q:Pq):cq [q]=[q.2]:=rfl
theorem WA(r:Raw):lN ⟨r.rs,r.ts,[]⟩=l0 r:=rfl
theorem abx(r:Raw):gl ⟨r.rs,r.ts,[]⟩ (nT ⟨r.rs,r.ts,[]⟩)=d0 r:=rfl
theorem La(r:Raw):(l0 r).ps=mps:=rfl
theorem Dm(r:Raw):gu (l0 r) (d0 r) (l0 r).ts.length=ct r:=rfl
theorem acW(r:Raw):(⟨(l0 r).ps,(l0 r).rs,rets (ct r),[]⟩:Led)=ie r:=rfl
theorem Ih(r:Raw):(⟨(l0 r).ps,(l0 r).rs,rets (be r),[]⟩:Led)=dh r:=rfl
theorem Uu(r:Raw):fL (ct r) (bm (ie r) 900 (rets (ct r)).length) (bm (ie r) 900 (rets (ct r)).length).length=be r:=by rw[lB];rfl
theorem acb(r:Raw):fh (dh r) (cq (be r)) (l0 r).rs.length=b7 r:=rfl
theorem Uy(r:Raw):jG (l0 r).ps (b7 r) (be r) (rets (be r)).length=dr r:=by rw[gV];rfl
theorem U5(r:Raw):(⟨(l0 r).ps,b7 r,rets (dr r),[]⟩:Led)=bN r:=rfl
theorem CZ(p:List Pap)(C:List Rec)(T:List Ret)(so k:Int):cg ⟨p,C,T,[]⟩ so k=cg ⟨p,C,[],[]⟩ so k:=rfl
theorem Ku:decide ((-1:Int)>=0)=false:=rfl
theorem II(r:Raw)(m:Nat):(lD r m).length=m:=by unfold lD;simp
theorem C8(q:List Pq)(i:Nat)(h:i<(rets q).length)(h':i<q.length):(rets q)[i]=q[i].1:=List.getElem_map _
section
attribute [local irreducible] lN gl aM nT l0 d0 ct be b7 dr
def K98:List (Nat×Spec):=[(19,Q2),(20,Ci),(70,yX),(71,Cg),(72,S72),(73,wq),(74,HC)]
theorem adF:KS K98:=tc Ti.sound<|tc CU.sound<|tc I0.sound<|tc CS.sound<|tc S2.sound<|tc IZ.sound<|tc IY.sound<|tn
attribute [go_sem] K98
@[go_sem] def P14:PSpec:=p1 sO (fun _=>True) (fun r=>.tup [ft (a8 r),.sl ((dE r).map vInt)]) false
@[go_sem] def S14:Spec:=P14.toSpec
set_option maxHeartbeats 4000000 in
theorem TE:aU Tryz.prog 14 P14:=by
 refine gp (rs:=[.cell 2 31,.tmp 3]) Tryz.func14 Tryz.ntmps14 fun r hp hw=>?_
 have hP:=eK
 simp only[sO]at hw |-
 have hΓ:=adF
 have aa:=vo r
 have b1:=aa.rsn
 have b2:=aa.tsn
 have rG:=PB r
 have hal:=acV r
 have Nf:=Ig r
 have Nv:=ka r
 have ku:(l0 r).ts.length<=maxLen:=by unfold maxLen;omega
 have ah0:(ct r).length<=(l0 r).ts.length:=by rw[<-Dm];exact JF _ _ _
 have ahZ:(be r).length<=(ct r).length:=(qI r).length_le
 have ahY:(bm (ie r) 900 (rets (ct r)).length).length=(ct r).length:=by rw[lB,wo]
 have Ng:(bm (ie r) 900 (rets (ct r)).length).length<=maxLen:=by unfold maxLen;omega
 have Nj:(l0 r).rs.length<=maxLen:=by unfold maxLen;omega
 have Nr:(rets (be r)).length<=maxLen:=by rw[gV];unfold maxLen;omega
 have Zi:nS r<=maxLen:=by have:nS r<=6:=Nat.min_le_right _ _;unfold maxLen;omega
 repeat refine sq ?_
 refine rx hΓ [1,2] [[1,0],[2,0],[161,0],[187,0],[254,0]] (fun K' hK=>by simp only[go_sem];exact ak) ?_
 repeat refine sq ?_
 refine rx hΓ [1,2,4,5] [[1,0],[2,0],[4,0],[161,0],[187,0],[254,0]] (fun K' hK=>by simp only[go_sem,WA,abx,List.map_nil];exact ak) ?_
 repeat refine sq ?_
 refine rx hΓ [1,2,4,5,6] [[1,0],[2,0],[4,0],[6,0],[77,0],[161,0],[187,0],[254,0]] (fun K' hK=>by simp only[go_sem];exact ak) ?_
 refine bD (mo [6,0] [77,0] 2 8 _ rfl rfl rfl [1,2,4,5,6] [[1,0],[2,0],[4,0],[6,0],[77,0],[161,0],[187,0],[254,0]] ?_ rfl) ?_
 ·simp only[go_sem,List.set_cons_succ,List.set_cons_zero]
 simp only[go_sem,List.set_cons_succ,List.set_cons_zero]
 repeat refine sq ?_
 refine rx hΓ [1,2,4,5,6,7] [[1,0],[2,0],[4,0],[6,0],[77,0],[85,0],[161,0],[187,0],[254,0]] (fun K' hK=>by simp only[go_sem];exact ak) ?_
 refine bD (uC 7 [85,0] 1 (by simp only[go_sem]) (by simp only[go_sem]) [1,2,4,5,6,7] [[1,0],[2,0],[4,0],[6,0],[77,0],[85,0],[161,0],[187,0],[254,0]] ?_ rfl) ?_
 ·simp only[go_sem]
 simp only[go_sem]
 repeat refine sq ?_
 refine rx hΓ [1,2,4,5,6,7,8] [[1,0],[2,0],[4,0],[6,0],[77,0],[85,0],[161,0],[187,0],[254,0]] (fun K' hK=>by simp only[go_sem];exact ak) ?_
 repeat refine sq ?_
 refine aN ?_
 repeat refine sq ?_
 refine cB (fun s:Nat=>[(8,⟨true,.v (vInt s)⟩),(7,⟨true,.msl [85,0] (cq (gu (l0 r) (d0 r) s)).length⟩)]) (fun s=>[([6,0],.box [.v (.sl ((l0 r).ps.map cP)),.v (.sl ((l0 r).rs.map encR)),.msl [77,0] (rets (gu (l0 r) (d0 r) s)).length,.nilsl]),([77,0],.arr 8 ((rets (gu (l0 r) (d0 r) s)).map c9)),([85,0],.arr 1 ((cq (gu (l0 r) (d0 r) s)).map vInt))]) (fun s=>s<=(l0 r).ts.length) (fun s=>(l0 r).ts.length-s) 0 ?_ ?_ ?_ ?_
 ·exact Nat.zero_le _
 ·rfl
 ·rfl
 rintro i hi
 simp only[go_sem]
 repeat refine sq ?_
 refine rx hΓ [1,2,4,5,6,7,8,43] [[1,0],[2,0],[4,0],[6,0],[77,0],[85,0],[161,0],[187,0],[254,0]] (fun K' hK=>by simp only[go_sem];exact ak) ?_
 repeat refine sq ?_
 refine ay (fun hb=>?_) fun hb=>?_
 ·have ab:i<(l0 r).ts.length:=by simpa using hb
  have au:(i:Int)<(l0 r).ts.length:=by omega
  clear hb
  have vJ:i<(d0 r).length:=by omega
  have FV:(i:Int)<(d0 r).length:=by omega
  have jm:=JF (l0 r) (d0 r) i
  have mL:=gV (gu (l0 r) (d0 r) i)
  have Ob:=m7 (gu (l0 r) (d0 r) i)
  repeat refine sq ?_
  refine aE ?_
  repeat refine sq ?_
  refine aN ?_
  repeat refine sq ?_
  refine dx hΓ hP [[],[],[1],[],[1,2,3],[1,2,3,4],[1,2,3,4,5],u7,u8] [1,2,4,5,6,7,8,9] [[1,0],[2,0],[4,0],[6,0],[77,0],[85,0],[161,0],[187,0],[254,0]] (by kernel_rfl) (fun K' hK=>by simp only[go_sem,ah ab,ai,aj,au,ah ab,au,ai,aj,List.length_map];(repeat (refine⟨by first | exact an | exact b1,?_⟩));exact fG) ?_
  rcases uU (l0 r) (l0 r).ts[i].re 900 with gM | ⟨q,hq,gM,-⟩
  ·repeat refine sq ?_
   refine dx hΓ hP [[],[0],[0,1],[0,1,2],[0,1,2],u5,u6,[0,1,2],[0,1,2,7],[0,1,2],[0,1,2,7,8,9],[0,1,2,7,8,9,10],[0,1,2,7,8,9,10,11],gT,il] [1,2,4,5,6,7,8,68] [[1,0],[2,0],[4,0],[6,0],[77,0],[85,0],[161,0],[187,0],[254,0]] (by kernel_rfl) (fun K' hK=>by simp only[go_sem,ah ab,ai,aj,au,gM,Ku,ah vJ,FV,ai,aj,List.length_map];exact fF) ?_
   repeat refine sq ?_
   refine ay (fun hb=>?_) fun hb=>?_
   ·cases hb
   ·repeat refine sq ?_
    have hf:gu (l0 r) (d0 r) (i+1)=gu (l0 r) (d0 r) i:=JE ab vJ (by unfold pR;simp only[gM];rfl)
    refine aE ?_
    refine bQ ?_
    simp only[go_sem]
    refine kp [1,2,4,5,6,7,8] [[1,0],[2,0],[4,0],[6,0],[77,0],[85,0],[161,0],[187,0],[254,0]] ?_
    repeat refine sq ?_
    refine aP hΓ fun K' hK=>?_
    simp only[go_sem,ah ab,ai,aj,au,gM,Ku]
    repeat (refine⟨an,?_⟩)
    refine hK _ ?_
    clear K' hK
    simp only[go_sem]
    refine⟨i+1,ab,by(show (l0 r).ts.length-(i+1)<(l0 r).ts.length-i;omega),?_⟩
    refine bd [1,2,4,5,6,7,8] [[1,0],[2,0],[4,0],[6,0],[77,0],[85,0],[161,0],[187,0],[254,0]] ?_ ?_<;>simp only[go_sem,a7 ab ku,bb,hf,sv,tV,su,tU,List.map_append,List.map_cons,List.map_nil,List.length_append,List.length_cons,List.length_nil]
  ·have bL:(q:Int)<(l0 r).rs.length:=by omega
   have oV:decide ((q:Int)>=0)=true:=by simp
   repeat refine sq ?_
   refine dx hΓ hP [[],[0],[0,1],[0,1,2],[0,1,2],u5,u6,[0,1,2],[0,1,2,7],[0,1,2],[0,1,2,7,8,9],[0,1,2,7,8,9,10],[0,1,2,7,8,9,10,11],gT,il] [1,2,4,5,6,7,8,68] [[1,0],[2,0],[4,0],[6,0],[77,0],[85,0],[161,0],[187,0],[254,0]] (by kernel_rfl) (fun K' hK=>by simp only[go_sem,ah ab,ai,aj,au,gM,oV,ah hq,bL,ah vJ,FV,ai,aj,List.length_map];exact fF) ?_
   repeat refine sq ?_
   refine ay (fun hb=>?_) fun hb=>?_
   ·repeat refine sq ?_
    have hf:=UA ab vJ (by unfold pR;simp only[gM,oV,ai,cm hq];simpa using hb)
    repeat refine sq ?_
    refine dx hΓ hP [[],[0],[],[2],[],[2,3,4],[2,3,4,5],[2,3,4,5,6],u8,u9,ca] [1,2,4,5,6,7,8] [[1,0],[2,0],[4,0],[6,0],[77,0],[85,0],[161,0],[187,0],[254,0]] (by kernel_rfl) (fun K' hK=>by simp only[go_sem,ah ab,ai,aj,au,gM,oV,ah hq,bL,ah ab,au,ai,aj,List.length_map];(repeat (refine⟨by first | exact an | exact⟨rfl,by omega,by unfold maxLen;omega⟩,?_⟩));exact fG) ?_
    repeat refine sq ?_
    refine aP hΓ fun K' hK=>?_
    simp only[go_sem,ah ab,ai,aj,au,gM,oV,ah hq,bL,ah vJ,FV,ai,aj,List.length_map]
    repeat (refine⟨by first | exact an | exact⟨rfl,by omega,by unfold maxLen;omega⟩,?_⟩)
    refine hK _ ?_
    clear K' hK
    simp only[go_sem]
    refine kp [1,2,4,5,6,7,8] [[1,0],[2,0],[4,0],[6,0],[77,0],[85,0],[161,0],[187,0],[254,0]] ?_
    repeat refine sq ?_
    refine aP hΓ fun K' hK=>?_
    simp only[go_sem,ah ab,ai,aj,au,gM,oV,ah hq,bL]
    repeat (refine⟨an,?_⟩)
    refine hK _ ?_
    clear K' hK
    simp only[go_sem]
    refine⟨i+1,ab,by(show (l0 r).ts.length-(i+1)<(l0 r).ts.length-i;omega),?_⟩
    refine bd [1,2,4,5,6,7,8] [[1,0],[2,0],[4,0],[6,0],[77,0],[85,0],[161,0],[187,0],[254,0]] ?_ ?_<;>simp only[go_sem,a7 ab ku,bb,hf,sv,tV,su,tU,List.map_append,List.map_cons,List.map_nil,List.length_append,List.length_cons,List.length_nil]
   ·repeat refine sq ?_
    have hf:gu (l0 r) (d0 r) (i+1)=gu (l0 r) (d0 r) i:=JE ab vJ (by unfold pR;simp only[gM,oV,ai,cm hq];simpa using hb)
    refine aE ?_
    refine bQ ?_
    simp only[go_sem]
    refine kp [1,2,4,5,6,7,8] [[1,0],[2,0],[4,0],[6,0],[77,0],[85,0],[161,0],[187,0],[254,0]] ?_
    repeat refine sq ?_
    refine aP hΓ fun K' hK=>?_
    simp only[go_sem,ah ab,ai,aj,au,gM,oV,ah hq,bL]
    repeat (refine⟨an,?_⟩)
    refine hK _ ?_
    clear K' hK
    simp only[go_sem]
    refine⟨i+1,ab,by(show (l0 r).ts.length-(i+1)<(l0 r).ts.length-i;omega),?_⟩
    refine bd [1,2,4,5,6,7,8] [[1,0],[2,0],[4,0],[6,0],[77,0],[85,0],[161,0],[187,0],[254,0]] ?_ ?_<;>simp only[go_sem,a7 ab ku,bb,hf,sv,tV,su,tU,List.map_append,List.map_cons,List.map_nil,List.length_append,List.length_cons,List.length_nil]
 ·have bB:i=(l0 r).ts.length:=by
   have :¬ (i:Int)<(l0 r).ts.length:=by simpa using hb
   omega
  clear hb
  subst bB
  repeat refine sq ?_
  refine bT ?_
  simp only[go_sem]
  refine kp [1,2,4,6,7] [[1,0],[2,0],[4,0],[6,0],[77,0],[85,0],[161,0],[187,0],[254,0]] ?_
  simp only[Dm]
  refine bD (pt [6,0] [77,0] 2 _ _ _ _ rfl rfl rfl (by first | rfl | (simp only[List.length_map];done)) [1,2,4,6,7] [[1,0],[2,0],[4,0],[6,0],[77,0],[85,0],[161,0],[187,0],[254,0]] ?_ rfl) ?_
  ·simp only[go_sem,List.set_cons_succ,List.set_cons_zero]
  simp only[go_sem,List.set_cons_succ,List.set_cons_zero]
  refine bD (dd 7 (.msl [85,0] (cq (ct r)).length) (by simp only[go_sem]) (by simp only[go_sem]) [1,2,4,6,7] [[1,0],[2,0],[4,0],[6,0],[77,0],[85,0],[161,0],[187,0],[254,0]] ?_ rfl) ?_
  ·simp only[go_sem]
  simp only[go_sem]
  repeat refine sq ?_
  refine rx hΓ [1,2,4,6,7,10] [[1,0],[2,0],[4,0],[6,0],[77,0],[85,0],[161,0],[187,0],[254,0]] (fun K' hK=>by simp only[go_sem,acW];(repeat (refine⟨by first | exact an | exact hal,?_⟩));exact fD) ?_
  repeat refine sq ?_
  refine rx hΓ [1,2,4,6,7,10,11] [[1,0],[2,0],[4,0],[6,0],[11,0],[77,0],[85,0],[108,0],[161,0],[187,0],[254,0]] (fun K' hK=>by simp only[go_sem];exact ak) ?_
  repeat refine sq ?_
  refine rx hΓ [1,2,4,6,7,10,11] [[1,0],[2,0],[4,0],[6,0],[11,0],[77,0],[85,0],[108,0],[161,0],[187,0],[254,0]] (fun K' hK=>by simp only[go_sem];exact ak) ?_
  refine bD (mo [11,0] [108,0] 2 8 _ rfl rfl rfl [1,2,4,6,7,10,11] [[1,0],[2,0],[4,0],[6,0],[11,0],[77,0],[85,0],[108,0],[161,0],[187,0],[254,0]] ?_ rfl) ?_
  ·simp only[go_sem,List.set_cons_succ,List.set_cons_zero]
  simp only[go_sem,List.set_cons_succ,List.set_cons_zero]
  repeat refine sq ?_
  refine rx hΓ [1,2,4,6,7,10,11,12] [[1,0],[2,0],[4,0],[6,0],[11,0],[77,0],[85,0],[108,0],[116,0],[161,0],[187,0],[254,0]] (fun K' hK=>by simp only[go_sem];exact ak) ?_
  refine bD (uC 12 [116,0] 1 (by simp only[go_sem]) (by simp only[go_sem]) [1,2,4,6,7,10,11,12] [[1,0],[2,0],[4,0],[6,0],[11,0],[77,0],[85,0],[108,0],[116,0],[161,0],[187,0],[254,0]] ?_ rfl) ?_
  ·simp only[go_sem]
  simp only[go_sem]
  generalize hT:bm (ie r) 900 (rets (ct r)).length=T at *
  have EY:fL (ct r) T T.length=be r:=by rw[<-hT];exact Uu r
  repeat refine sq ?_
  refine rx hΓ [1,2,4,6,7,10,11,12,13] [[1,0],[2,0],[4,0],[6,0],[11,0],[77,0],[85,0],[108,0],[116,0],[161,0],[187,0],[254,0]] (fun K' hK=>by simp only[go_sem];exact ak) ?_
  repeat refine sq ?_
  refine aN ?_
  repeat refine sq ?_
  refine cB (fun s:Nat=>[(13,⟨true,.v (vInt s)⟩),(12,⟨true,.msl [116,0] (cq (fL (ct r) T s)).length⟩)]) (fun s=>[([11,0],.box [.v (.sl ((l0 r).ps.map cP)),.v (.sl ((l0 r).rs.map encR)),.msl [108,0] (rets (fL (ct r) T s)).length,.nilsl]),([108,0],.arr 8 ((rets (fL (ct r) T s)).map c9)),([116,0],.arr 1 ((cq (fL (ct r) T s)).map vInt))]) (fun s=>s<=T.length) (fun s=>T.length-s) 0 ?_ ?_ ?_ ?_
  ·exact Nat.zero_le _
  ·rfl
  ·rfl
  rintro i1 hi
  simp only[go_sem]
  repeat refine sq ?_
  refine rx hΓ [1,2,4,6,7,10,11,12,13,93] [[1,0],[2,0],[4,0],[6,0],[11,0],[77,0],[85,0],[108,0],[116,0],[161,0],[187,0],[254,0]] (fun K' hK=>by simp only[go_sem];exact ak) ?_
  repeat refine sq ?_
  refine ay (fun hb=>?_) fun hb=>?_
  ·have aT:i1<T.length:=by simpa using hb
   have bH:(i1:Int)<T.length:=by omega
   clear hb
   have Bd:i1<(ct r).length:=by omega
   have A0:((rets (ct r)).map c9).getD i1 default=c9 (ct r)[i1].1:=by rw[ah (by rw[gV];exact Bd)];unfold rets;rw[List.getElem_map]
   have FN:((cq (ct r)).map vInt).getD i1 default=vInt (ct r)[i1].2:=by rw[ah (by rw[m7];exact Bd)];unfold cq;rw[List.getElem_map]
   have Zx:(i1:Int)<(rets (ct r)).length:=by rw[gV];omega
   have Fx:(i1:Int)<(cq (ct r)).length:=by rw[m7];omega
   have jm:=Ut (ct r) T (Nat.le_of_lt Bd)
   have mL:=gV (fL (ct r) T i1)
   have Ob:=m7 (fL (ct r) T i1)
   repeat refine sq ?_
   refine aE ?_
   repeat refine sq ?_
   refine aN ?_
   repeat refine sq ?_
   refine rx hΓ [1,2,4,6,7,10,11,12,13,99] [[1,0],[2,0],[4,0],[6,0],[11,0],[77,0],[85,0],[108,0],[116,0],[161,0],[187,0],[254,0]] (fun K' hK=>by simp only[go_sem,ah aT,ai,aj,bH,ah aT,bH,ai,aj,List.length_map];exact ak) ?_
   repeat refine sq ?_
   refine ay (fun hb=>?_) fun hb=>?_
   ·repeat refine sq ?_
    have hf:fL (ct r) T (i1+1)=fL (ct r) T i1++[(ct r)[i1]]:=by rw[fL,cj aT,if_pos hb,cj Bd]
    repeat refine sq ?_
    refine dx hΓ hP [[],[0],[],[2],[],[2,3,4],[2,3,4,5],[2,3,4,5,6],u8,u9,ca] [1,2,4,6,7,10,11,12,13] [[1,0],[2,0],[4,0],[6,0],[11,0],[77,0],[85,0],[108,0],[116,0],[161,0],[187,0],[254,0]] (by kernel_rfl) (fun K' hK=>by simp only[go_sem,ah aT,ai,aj,bH,A0,Zx,ai,aj,List.length_map];(repeat (refine⟨by first | exact an | exact⟨rfl,by omega,by unfold maxLen;omega⟩,?_⟩));exact fG) ?_
    repeat refine sq ?_
    refine aP hΓ fun K' hK=>?_
    simp only[go_sem,ah aT,ai,aj,bH,FN,Fx,ai,aj,List.length_map]
    repeat (refine⟨by first | exact an | exact⟨rfl,by omega,by unfold maxLen;omega⟩,?_⟩)
    refine hK _ ?_
    clear K' hK
    simp only[go_sem]
    refine kp [1,2,4,6,7,10,11,12,13] [[1,0],[2,0],[4,0],[6,0],[11,0],[77,0],[85,0],[108,0],[116,0],[161,0],[187,0],[254,0]] ?_
    repeat refine sq ?_
    refine aP hΓ fun K' hK=>?_
    simp only[go_sem,ah aT,ai,aj,bH]
    repeat (refine⟨an,?_⟩)
    refine hK _ ?_
    clear K' hK
    simp only[go_sem]
    refine⟨i1+1,aT,by(show T.length-(i1+1)<T.length-i1;omega),?_⟩
    refine bd [1,2,4,6,7,10,11,12,13] [[1,0],[2,0],[4,0],[6,0],[11,0],[77,0],[85,0],[108,0],[116,0],[161,0],[187,0],[254,0]] ?_ ?_<;>simp only[go_sem,a7 aT Ng,bb,hf,sv,tV,su,tU,List.map_append,List.map_cons,List.map_nil,List.length_append,List.length_cons,List.length_nil]
   ·repeat refine sq ?_
    have hf:fL (ct r) T (i1+1)=fL (ct r) T i1:=by rw[fL,cj aT,if_neg (by rw[hb];decide)]
    refine aE ?_
    refine bQ ?_
    simp only[go_sem]
    refine kp [1,2,4,6,7,10,11,12,13] [[1,0],[2,0],[4,0],[6,0],[11,0],[77,0],[85,0],[108,0],[116,0],[161,0],[187,0],[254,0]] ?_
    repeat refine sq ?_
    refine aP hΓ fun K' hK=>?_
    simp only[go_sem,ah aT,ai,aj,bH]
    repeat (refine⟨an,?_⟩)
    refine hK _ ?_
    clear K' hK
    simp only[go_sem]
    refine⟨i1+1,aT,by(show T.length-(i1+1)<T.length-i1;omega),?_⟩
    refine bd [1,2,4,6,7,10,11,12,13] [[1,0],[2,0],[4,0],[6,0],[11,0],[77,0],[85,0],[108,0],[116,0],[161,0],[187,0],[254,0]] ?_ ?_<;>simp only[go_sem,a7 aT Ng,bb,hf,sv,tV,su,tU,List.map_append,List.map_cons,List.map_nil,List.length_append,List.length_cons,List.length_nil]
  ·have lY:i1=T.length:=by
    have :¬ (i1:Int)<T.length:=by simpa using hb
    omega
   clear hb
   subst lY
   repeat refine sq ?_
   refine bT ?_
   simp only[go_sem]
   refine kp [1,2,4,11,12] [[1,0],[2,0],[4,0],[11,0],[77,0],[108,0],[116,0],[161,0],[187,0],[254,0]] ?_
   simp only[EY]
   refine bD (pt [11,0] [108,0] 2 _ _ _ _ rfl rfl rfl (by first | rfl | (simp only[List.length_map];done)) [1,2,4,11,12] [[1,0],[2,0],[4,0],[11,0],[77,0],[108,0],[116,0],[161,0],[187,0],[254,0]] ?_ rfl) ?_
   ·simp only[go_sem,List.set_cons_succ,List.set_cons_zero]
   simp only[go_sem,List.set_cons_succ,List.set_cons_zero]
   refine bD (dd 12 (.msl [116,0] (cq (be r)).length) (by simp only[go_sem]) (by simp only[go_sem]) [1,2,4,11,12] [[1,0],[2,0],[4,0],[11,0],[77,0],[108,0],[116,0],[161,0],[187,0],[254,0]] ?_ rfl) ?_
   ·simp only[go_sem]
   simp only[go_sem]
   repeat refine sq ?_
   refine rx hΓ [1,2,11,12,14] [[1,0],[2,0],[11,0],[14,0],[77,0],[108,0],[116,0],[161,0],[187,0],[254,0]] (fun K' hK=>by simp only[go_sem];exact ak) ?_
   refine bD (mo [14,0] [161,0] 1 7 _ rfl rfl rfl [1,2,11,12,14] [[1,0],[2,0],[11,0],[14,0],[77,0],[108,0],[116,0],[161,0],[187,0],[254,0]] ?_ rfl) ?_
   ·simp only[go_sem,List.set_cons_succ,List.set_cons_zero]
   simp only[go_sem,List.set_cons_succ,List.set_cons_zero]
   refine bD (mo [14,0] [187,0] 2 8 _ rfl rfl rfl [1,2,11,12,14] [[1,0],[2,0],[11,0],[14,0],[77,0],[108,0],[116,0],[161,0],[187,0],[254,0]] ?_ rfl) ?_
   ·simp only[go_sem,List.set_cons_succ,List.set_cons_zero]
   simp only[go_sem,List.set_cons_succ,List.set_cons_zero]
   repeat refine sq ?_
   refine rx hΓ [1,2,11,12,14,15] [[1,0],[2,0],[11,0],[14,0],[77,0],[108,0],[116,0],[161,0],[187,0],[254,0]] (fun K' hK=>by simp only[go_sem];exact ak) ?_
   repeat refine sq ?_
   refine aN ?_
   repeat refine sq ?_
   refine cB (fun s:Nat=>[(15,⟨true,.v (vInt s)⟩)]) (fun s=>[([14,0],.box [.v (.sl ((l0 r).ps.map cP)),.msl [161,0] (fh (dh r) (cq (be r)) s).length,.msl [187,0] 0,.nilsl]),([161,0],.arr 7 ((fh (dh r) (cq (be r)) s).map encR))]) (fun s=>s<=(l0 r).rs.length) (fun s=>(l0 r).rs.length-s) 0 ?_ ?_ ?_ ?_
   ·exact Nat.zero_le _
   ·rfl
   ·rfl
   rintro i2 hi
   simp only[go_sem]
   repeat refine sq ?_
   refine rx hΓ [1,2,11,12,14,15,124] [[1,0],[2,0],[11,0],[14,0],[77,0],[108,0],[116,0],[161,0],[187,0],[254,0]] (fun K' hK=>by simp only[go_sem];exact ak) ?_
   repeat refine sq ?_
   refine ay (fun hb=>?_) fun hb=>?_
   ·have cz:i2<(l0 r).rs.length:=by simpa using hb
    have gw:(i2:Int)<(l0 r).rs.length:=by omega
    clear hb
    have yh:=aca (dh r) (cq (be r)) (s:=i2) (Nat.le_of_lt cz)
    have Oe:fh (dh r) (cq (be r)) (i2+1)=if ln (dh r) (cq (be r)) (fh (dh r) (cq (be r)) i2) i2 i2=true then fh (dh r) (cq (be r)) i2++[(l0 r).rs[i2]]else fh (dh r) (cq (be r)) i2:=by rw[fh];rw[show ao (dh r) i2=(l0 r).rs[i2]from cm cz]
    have NX:i2<=maxLen:=by omega
    generalize hC:fh (dh r) (cq (be r)) i2=C at *
    have ah4:C.length<=60:=Nat.le_trans yh b1
    repeat refine sq ?_
    refine aE ?_
    repeat refine sq ?_
    refine aN ?_
    repeat refine sq ?_
    refine rx hΓ [1,2,11,12,14,15,16] [[1,0],[2,0],[11,0],[14,0],[77,0],[108,0],[116,0],[161,0],[187,0],[254,0]] (fun K' hK=>by simp only[go_sem,ah cz,ai,aj,gw];exact ak) ?_
    repeat refine sq ?_
    refine rx hΓ [1,2,11,12,14,15,16,17] [[1,0],[2,0],[11,0],[14,0],[77,0],[108,0],[116,0],[161,0],[187,0],[254,0]] (fun K' hK=>by simp only[go_sem,ah cz,ai,aj,gw];exact ak) ?_
    repeat refine sq ?_
    refine aN ?_
    repeat refine sq ?_
    refine cB (fun s:Nat=>[(17,⟨true,.v (vInt s)⟩),(16,⟨true,.v (.bool (ln (dh r) (cq (be r)) C i2 s))⟩)]) (fun s=>[]) (fun s=>s<=i2) (fun s=>i2-s) 0 ?_ ?_ ?_ ?_
    ·exact Nat.zero_le _
    ·rfl
    ·rfl
    rintro i3 hi
    simp only[go_sem]
    repeat refine sq ?_
    refine rx hΓ [1,2,11,12,14,15,16,17,129] [[1,0],[2,0],[11,0],[14,0],[77,0],[108,0],[116,0],[161,0],[187,0],[254,0]] (fun K' hK=>by simp only[go_sem,ah cz,ai,aj,gw];exact ak) ?_
    repeat refine sq ?_
    refine ay (fun hb=>?_) fun hb=>?_
    ·repeat refine sq ?_
     have kx:i3<i2:=by have h:=hb;simp at h;omega
     have F5:i3<(l0 r).rs.length:=by omega
     have On:(i3:Int)<(l0 r).rs.length:=by omega
     have lZ:ln (dh r) (cq (be r)) C i2 (i3+1)=(ln (dh r) (cq (be r)) C i2 i3&&(decide (cg ⟨(l0 r).ps,C,[],[]⟩ (l0 r).rs[i3].so 900<0)||l9 (dh r) (cq (be r)) i3 i2)):=by
      rw[ln,show ao (dh r) i3=(l0 r).rs[i3]from cm F5];rfl
     refine aE ?_
     repeat refine sq ?_
     refine aN ?_
     repeat refine sq ?_
     rcases dT:ln (dh r) (cq (be r)) C i2 i3 with _ | _
     ·repeat refine sq ?_
      refine qq hΓ hP [[],[0],[0,1],[0,1],[0,1,3],[0,1],[0,1,3,4,5],[0,1,3,4,5,6],[0,1,3,4,5,6,7],u9,ca,dX,eg,eg,eg,eg,[0,1,2,3,4,5,6,7,8,9,10,11,14,15],lz,gS,kK,nE] (by kernel_rfl) fun K' hK=>?_
      simp only[go_sem,ah cz,ai,aj,gw,dT,ah F5,On,Ih,Bool.or_not_self,CZ,List.map_nil,ai,aj,List.length_map]
      repeat (refine⟨by first | exact an | exact Nat.le_trans yh b1 | exact fun h=>⟨h,Nf,by rw[m7,gV]⟩,?_⟩)
      first | refine⟨by rfl,?_⟩ | skip
      refine hK _ ?_
      clear K' hK
      simp only[go_sem]
      refine kp [1,2,11,12,14,15,16,17] [[1,0],[2,0],[11,0],[14,0],[77,0],[108,0],[116,0],[161,0],[187,0],[254,0]] ?_
      repeat refine sq ?_
      refine aP hΓ fun K' hK=>?_
      simp only[go_sem,ah cz,ai,aj,gw,dT]
      repeat (refine⟨an,?_⟩)
      refine hK _ ?_
      clear K' hK
      simp only[go_sem]
      refine⟨i3+1,kx,by(show i2-(i3+1)<i2-i3;omega),?_⟩
      refine bd [1,2,11,12,14,15,16,17] [[1,0],[2,0],[11,0],[14,0],[77,0],[108,0],[116,0],[161,0],[187,0],[254,0]] ?_ ?_<;>simp only[go_sem,a7 kx NX,bb,lZ,dT]
     ·repeat refine sq ?_
      refine qq hΓ hP [[],[0],[0,1],[0,1],[0,1,3],[0,1],[0,1,3,4,5],[0,1,3,4,5,6],[0,1,3,4,5,6,7],u9,ca,dX,eg,eg,eg,eg,[0,1,2,3,4,5,6,7,8,9,10,11,14,15],lz,gS,kK,nE] (by kernel_rfl) fun K' hK=>?_
      simp only[go_sem,ah cz,ai,aj,gw,dT,ah F5,On,Ih,Bool.or_not_self,CZ,List.map_nil,ai,aj,List.length_map]
      repeat (refine⟨by first | exact an | exact Nat.le_trans yh b1 | exact fun h=>⟨h,Nf,by rw[m7,gV]⟩,?_⟩)
      first | refine⟨by rfl,?_⟩ | skip
      refine hK _ ?_
      clear K' hK
      simp only[go_sem]
      refine kp [1,2,11,12,14,15,16,17] [[1,0],[2,0],[11,0],[14,0],[77,0],[108,0],[116,0],[161,0],[187,0],[254,0]] ?_
      repeat refine sq ?_
      refine aP hΓ fun K' hK=>?_
      simp only[go_sem,ah cz,ai,aj,gw,dT]
      repeat (refine⟨an,?_⟩)
      refine hK _ ?_
      clear K' hK
      simp only[go_sem]
      refine⟨i3+1,kx,by(show i2-(i3+1)<i2-i3;omega),?_⟩
      refine bd [1,2,11,12,14,15,16,17] [[1,0],[2,0],[11,0],[14,0],[77,0],[108,0],[116,0],[161,0],[187,0],[254,0]] ?_ ?_<;>simp only[go_sem,a7 kx NX,bb,lZ,dT]
    ·repeat refine sq ?_
     have FL:i2=i3:=by
      have h:=hb
      simp at h
      omega
     subst FL
     refine bT ?_
     simp only[go_sem]
     refine kp [1,2,11,12,14,15,16] [[1,0],[2,0],[11,0],[14,0],[77,0],[108,0],[116,0],[161,0],[187,0],[254,0]] ?_
     repeat refine sq ?_
     refine rx hΓ [1,2,11,12,14,15,152] [[1,0],[2,0],[11,0],[14,0],[77,0],[108,0],[116,0],[161,0],[187,0],[254,0]] (fun K' hK=>by simp only[go_sem,ah cz,ai,aj,gw];exact ak) ?_
     repeat refine sq ?_
     refine ay (fun hb=>?_) fun hb=>?_
     ·repeat refine sq ?_
      have hf:fh (dh r) (cq (be r)) (i2+1)=C++[(l0 r).rs[i2]]:=by rw[Oe,if_pos hb]
      repeat refine sq ?_
      refine qq hΓ hP [[],[0],[],[2],[],[2,3,4],[2,3,4,5],[2,3,4,5,6],u8,u9,ca] (by kernel_rfl) fun K' hK=>?_
      simp only[go_sem,ah cz,ai,aj,gw,ah cz,gw,ai,aj,List.length_map]
      repeat (refine⟨by first | exact an | exact⟨rfl,by omega,by unfold maxLen;omega⟩ | exact Nat.one_ne_zero,?_⟩)
      first | refine⟨by rfl,?_⟩ | skip
      refine hK _ ?_
      clear K' hK
      simp only[go_sem]
      refine kp [1,2,11,12,14,15] [[1,0],[2,0],[11,0],[14,0],[77,0],[108,0],[116,0],[161,0],[187,0],[254,0]] ?_
      repeat refine sq ?_
      refine aP hΓ fun K' hK=>?_
      simp only[go_sem,ah cz,ai,aj,gw]
      repeat (refine⟨an,?_⟩)
      refine hK _ ?_
      clear K' hK
      simp only[go_sem]
      refine⟨i2+1,cz,by(show (l0 r).rs.length-(i2+1)<(l0 r).rs.length-i2;omega),?_⟩
      refine bd [1,2,11,12,14,15] [[1,0],[2,0],[11,0],[14,0],[77,0],[108,0],[116,0],[161,0],[187,0],[254,0]] ?_ ?_<;>simp only[go_sem,a7 cz Nj,bb,hf,List.map_append,List.map_cons,List.map_nil,List.length_append,List.length_cons,List.length_nil]
     ·repeat refine sq ?_
      have hf:fh (dh r) (cq (be r)) (i2+1)=C:=by rw[Oe,if_neg (by rw[hb];decide)]
      refine aE ?_
      refine bQ ?_
      simp only[go_sem]
      refine kp [1,2,11,12,14,15] [[1,0],[2,0],[11,0],[14,0],[77,0],[108,0],[116,0],[161,0],[187,0],[254,0]] ?_
      repeat refine sq ?_
      refine aP hΓ fun K' hK=>?_
      simp only[go_sem,ah cz,ai,aj,gw]
      repeat (refine⟨an,?_⟩)
      refine hK _ ?_
      clear K' hK
      simp only[go_sem]
      refine⟨i2+1,cz,by(show (l0 r).rs.length-(i2+1)<(l0 r).rs.length-i2;omega),?_⟩
      refine bd [1,2,11,12,14,15] [[1,0],[2,0],[11,0],[14,0],[77,0],[108,0],[116,0],[161,0],[187,0],[254,0]] ?_ ?_<;>simp only[go_sem,a7 cz Nj,bb,hf,List.map_append,List.map_cons,List.map_nil,List.length_append,List.length_cons,List.length_nil]
   ·have p8:i2=(l0 r).rs.length:=by
     have :¬ (i2:Int)<(l0 r).rs.length:=by simpa using hb
     omega
    clear hb
    subst p8
    repeat refine sq ?_
    refine bT ?_
    simp only[go_sem]
    refine kp [1,2,11,12,14] [[1,0],[2,0],[11,0],[14,0],[77,0],[108,0],[116,0],[161,0],[187,0],[254,0]] ?_
    simp only[acb]
    refine bD (pt [14,0] [161,0] 1 _ _ _ _ rfl rfl rfl (by first | rfl | (simp only[List.length_map];done)) [1,2,11,12,14] [[1,0],[2,0],[11,0],[14,0],[77,0],[108,0],[116,0],[161,0],[187,0],[254,0]] ?_ rfl) ?_
    ·simp only[go_sem,List.set_cons_succ,List.set_cons_zero]
    simp only[go_sem,List.set_cons_succ,List.set_cons_zero]
    repeat refine sq ?_
    refine rx hΓ [1,2,11,12,14,18] [[1,0],[2,0],[11,0],[14,0],[77,0],[108,0],[116,0],[161,0],[187,0],[195,0],[254,0]] (fun K' hK=>by simp only[go_sem];exact ak) ?_
    refine bD (uC 18 [195,0] 1 (by simp only[go_sem]) (by simp only[go_sem]) [1,2,11,12,14,18] [[1,0],[2,0],[11,0],[14,0],[77,0],[108,0],[116,0],[161,0],[187,0],[195,0],[254,0]] ?_ rfl) ?_
    ·simp only[go_sem]
    simp only[go_sem]
    repeat refine sq ?_
    refine rx hΓ [1,2,11,12,14,18,19] [[1,0],[2,0],[11,0],[14,0],[77,0],[108,0],[116,0],[161,0],[187,0],[195,0],[254,0]] (fun K' hK=>by simp only[go_sem];exact ak) ?_
    repeat refine sq ?_
    refine aN ?_
    repeat refine sq ?_
    refine cB (fun s:Nat=>[(19,⟨true,.v (vInt s)⟩),(18,⟨true,.msl [195,0] (cq (jG (l0 r).ps (b7 r) (be r) s)).length⟩)]) (fun s=>[([14,0],.box [.v (.sl ((l0 r).ps.map cP)),.v (.sl ((b7 r).map encR)),.msl [187,0] (rets (jG (l0 r).ps (b7 r) (be r) s)).length,.nilsl]),([187,0],.arr 8 ((rets (jG (l0 r).ps (b7 r) (be r) s)).map c9)),([195,0],.arr 1 ((cq (jG (l0 r).ps (b7 r) (be r) s)).map vInt))]) (fun s=>s<=(rets (be r)).length) (fun s=>(rets (be r)).length-s) 0 ?_ ?_ ?_ ?_
    ·exact Nat.zero_le _
    ·rfl
    ·rfl
    rintro i4 hi
    simp only[go_sem]
    repeat refine sq ?_
    refine rx hΓ [1,2,11,12,14,18,19,167] [[1,0],[2,0],[11,0],[14,0],[77,0],[108,0],[116,0],[161,0],[187,0],[195,0],[254,0]] (fun K' hK=>by simp only[go_sem];exact ak) ?_
    repeat refine sq ?_
    refine ay (fun hb=>?_) fun hb=>?_
    ·have oX:i4<(rets (be r)).length:=by simpa using hb
     have th:(i4:Int)<(rets (be r)).length:=by omega
     clear hb
     have yn:i4<(be r).length:=by rw[<-gV];exact oX
     have A0:((rets (be r)).map c9).getD i4 default=c9 (be r)[i4].1:=by rw[ah (by rw[gV];exact yn)];unfold rets;rw[List.getElem_map]
     have FN:((cq (be r)).map vInt).getD i4 default=vInt (be r)[i4].2:=by rw[ah (by rw[m7];exact yn)];unfold cq;rw[List.getElem_map]
     have N0:(rets (be r))[i4]=(be r)[i4].1:=C8 _ _ _ yn
     have Fx:(i4:Int)<(cq (be r)).length:=by rw[m7];omega
     have jm:=Ux (l0 r).ps (b7 r) (be r) i4
     have mL:=gV (jG (l0 r).ps (b7 r) (be r) i4)
     have Ob:=m7 (jG (l0 r).ps (b7 r) (be r) i4)
     have hch:=(BK r).length_le
     repeat refine sq ?_
     refine aE ?_
     repeat refine sq ?_
     refine aN ?_
     repeat refine sq ?_
     refine dx hΓ hP [[],[],[1],[],[1,2,3],[1,2,3,4],[1,2,3,4,5],u7,u8] [1,2,11,12,14,18,19,178] [[1,0],[2,0],[11,0],[14,0],[77,0],[108,0],[116,0],[161,0],[187,0],[195,0],[254,0]] (by kernel_rfl) (fun K' hK=>by simp only[go_sem,ah oX,ai,aj,th,A0,N0,th,CZ,ai,aj,List.length_map];(repeat (refine⟨by first | exact an | omega,?_⟩));exact fG) ?_
     repeat refine sq ?_
     refine ay (fun hb=>?_) fun hb=>?_
     ·repeat refine sq ?_
      have hf:=Uv yn (C:=b7 r) (ps:=(l0 r).ps) hb
      repeat refine sq ?_
      refine dx hΓ hP [[],[0],[],[2],[],[2,3,4],[2,3,4,5],[2,3,4,5,6],u8,u9,ca] [1,2,11,12,14,18,19] [[1,0],[2,0],[11,0],[14,0],[77,0],[108,0],[116,0],[161,0],[187,0],[195,0],[254,0]] (by kernel_rfl) (fun K' hK=>by simp only[go_sem,ah oX,ai,aj,th,A0,N0,th,ai,aj,List.length_map];(repeat (refine⟨by first | exact an | exact⟨rfl,by omega,by unfold maxLen;omega⟩,?_⟩));exact fG) ?_
      repeat refine sq ?_
      refine aP hΓ fun K' hK=>?_
      simp only[go_sem,ah oX,ai,aj,th,FN,Fx,ai,aj,List.length_map]
      repeat (refine⟨by first | exact an | exact⟨rfl,by omega,by unfold maxLen;omega⟩,?_⟩)
      refine hK _ ?_
      clear K' hK
      simp only[go_sem]
      refine kp [1,2,11,12,14,18,19] [[1,0],[2,0],[11,0],[14,0],[77,0],[108,0],[116,0],[161,0],[187,0],[195,0],[254,0]] ?_
      repeat refine sq ?_
      refine aP hΓ fun K' hK=>?_
      simp only[go_sem,ah oX,ai,aj,th]
      repeat (refine⟨an,?_⟩)
      refine hK _ ?_
      clear K' hK
      simp only[go_sem]
      refine⟨i4+1,oX,by(show (rets (be r)).length-(i4+1)<(rets (be r)).length-i4;omega),?_⟩
      refine bd [1,2,11,12,14,18,19] [[1,0],[2,0],[11,0],[14,0],[77,0],[108,0],[116,0],[161,0],[187,0],[195,0],[254,0]] ?_ ?_<;>simp only[go_sem,a7 oX Nr,bb,hf,sv,tV,su,tU,List.map_append,List.map_cons,List.map_nil,List.length_append,List.length_cons,List.length_nil]
     ·repeat refine sq ?_
      have hf:=Uw yn (C:=b7 r) (ps:=(l0 r).ps) hb
      refine aE ?_
      refine bQ ?_
      simp only[go_sem]
      refine kp [1,2,11,12,14,18,19] [[1,0],[2,0],[11,0],[14,0],[77,0],[108,0],[116,0],[161,0],[187,0],[195,0],[254,0]] ?_
      repeat refine sq ?_
      refine aP hΓ fun K' hK=>?_
      simp only[go_sem,ah oX,ai,aj,th]
      repeat (refine⟨an,?_⟩)
      refine hK _ ?_
      clear K' hK
      simp only[go_sem]
      refine⟨i4+1,oX,by(show (rets (be r)).length-(i4+1)<(rets (be r)).length-i4;omega),?_⟩
      refine bd [1,2,11,12,14,18,19] [[1,0],[2,0],[11,0],[14,0],[77,0],[108,0],[116,0],[161,0],[187,0],[195,0],[254,0]] ?_ ?_<;>simp only[go_sem,a7 oX Nr,bb,hf,sv,tV,su,tU,List.map_append,List.map_cons,List.map_nil,List.length_append,List.length_cons,List.length_nil]
    ·have ZR:i4=(rets (be r)).length:=by
      have :¬ (i4:Int)<(rets (be r)).length:=by simpa using hb
      omega
     clear hb
     subst ZR
     repeat refine sq ?_
     refine bT ?_
     simp only[go_sem]
     refine kp [1,2,14,18] [[1,0],[2,0],[14,0],[161,0],[187,0],[195,0],[254,0]] ?_
     simp only[Uy]
     refine bD (pt [14,0] [187,0] 2 _ _ _ _ rfl rfl rfl (by first | rfl | (simp only[List.length_map];done)) [1,2,14,18] [[1,0],[2,0],[14,0],[161,0],[187,0],[195,0],[254,0]] ?_ rfl) ?_
     ·simp only[go_sem,List.set_cons_succ,List.set_cons_zero]
     simp only[go_sem,List.set_cons_succ,List.set_cons_zero]
     refine bD (dd 18 (.msl [195,0] (cq (dr r)).length) (by simp only[go_sem]) (by simp only[go_sem]) [1,2,14,18] [[1,0],[2,0],[14,0],[161,0],[187,0],[195,0],[254,0]] ?_ rfl) ?_
     ·simp only[go_sem]
     simp only[go_sem]
     repeat refine sq ?_
     refine rx hΓ [1,2,14,18,20] [[1,0],[2,0],[14,0],[20,0],[161,0],[187,0],[195,0],[254,0]] (fun K' hK=>by simp only[go_sem,U5];(repeat (refine⟨by first | exact an | exact Nv,?_⟩));exact fD) ?_
     refine bD (mo [14,0] [254,0] 3 7 _ rfl rfl rfl [1,2,14,18,20] [[1,0],[2,0],[14,0],[20,0],[161,0],[187,0],[195,0],[254,0]] ?_ rfl) ?_
     ·simp only[go_sem,List.set_cons_succ,List.set_cons_zero]
     simp only[go_sem,List.set_cons_succ,List.set_cons_zero]
     repeat refine sq ?_
     refine rx hΓ [1,2,14,18,20,21] [[1,0],[2,0],[14,0],[20,0],[161,0],[187,0],[195,0],[254,0]] (fun K' hK=>by simp only[go_sem];exact ak) ?_
     repeat refine sq ?_
     refine aN ?_
     repeat refine sq ?_
     refine cB (fun s:Nat=>[(21,⟨true,.v (vInt s)⟩)]) (fun s=>[([14,0],.box [.v (.sl ((l0 r).ps.map cP)),.v (.sl ((b7 r).map encR)),.v (.sl ((rets (dr r)).map c9)),.msl [254,0] (lD r s).length]),([254,0],.arr 7 ((lD r s).map encS))]) (fun s=>s<=(nS r)) (fun s=>(nS r)-s) 0 ?_ ?_ ?_ ?_
     ·exact Nat.zero_le _
     ·rfl
     ·rfl
     rintro i5 hi
     simp only[go_sem]
     repeat refine sq ?_
     refine rx hΓ [1,2,14,18,20,21,206] [[1,0],[2,0],[14,0],[20,0],[161,0],[187,0],[195,0],[254,0]] (fun K' hK=>by simp only[go_sem];exact ak) ?_
     repeat refine sq ?_
     refine ay (fun hb=>?_) fun hb=>?_
     ·repeat refine sq ?_
      have AR:i5<nS r:=by simp at hb;unfold nS;omega
      have ya:i5<r.ss.length:=by have h:=AR;unfold nS at h;omega
      have FJ:(i5:Int)<r.ss.length:=by omega
      have h6:i5<6:=by have h:=AR;unfold nS at h;omega
      have e6:r5 r.ss i5=r.ss[i5]:=cj ya
      have m3:=de (n:=r.ss[i5].b) (m:=3) (by decide)
      have pZ:0<=aM r.ss[i5].b 3:=m3.1
      have pY:(mps.length:Int)=3:=rfl
      have mP:aM r.ss[i5].b 3<((l0 r).ps.length:Int):=by rw[La];omega
      have tq:((l0 r).ps.map cP).getD (aM r.ss[i5].b 3).toNat default=cP (bE r.ss[i5].b):=by
       rw[La]
       have hl:(aM r.ss[i5].b 3).toNat<mps.length:=by omega
       rw[ah hl];unfold bE;rw[cj hl]
      obtain⟨-,l1,l2,p1,p2⟩:=qU (pJ r.ss[i5].b)
      have ml:=de (n:=r.ss[i5].c) (m:=(bE r.ss[i5].b).lv) (by omega)
      have sS:IntKind.i64.wrap (3*(i5:Int))=3*(i5:Int):=wrap_i64 (by omega) (by omega)
      have EI:IntKind.i64.wrap (3*(i5:Int)+3)=3*(i5:Int)+3:=wrap_i64 (by omega) (by omega)
      have xF:IntKind.i64.wrap (1+aM r.ss[i5].c (bE r.ss[i5].b).lv)=1+aM r.ss[i5].c (bE r.ss[i5].b).lv:=wrap_i64 (by omega) (by omega)
      have AE:=II r i5
      have eS:lD r (i5+1)=lD r i5++[⟨3*(i5:Int)+3,iM (aV (bN r) 900) ⟨(bE r.ss[i5].b).id,1+aM r.ss[i5].c (bE r.ss[i5].b).lv⟩ (cq (dr r)) (aM r.ss[i5].d 200),(bE r.ss[i5].b).id,1+aM r.ss[i5].c (bE r.ss[i5].b).lv,aM r.ss[i5].d 200,aM r.ss[i5].e 300,0⟩]:=by
       unfold lD
       rw[List.range_succ,List.map_append]
       show _++[fv r i5]=_
       unfold fv
       rw[e6];rfl
      refine aE ?_
      repeat refine sq ?_
      refine aN ?_
      repeat refine sq ?_
      refine rx hΓ [1,2,14,18,20,21,22] [[1,0],[2,0],[14,0],[20,0],[22,0],[161,0],[187,0],[195,0],[254,0]] (fun K' hK=>by simp only[go_sem,ah ya,FJ,ai,aj,List.length_map];exact ak) ?_
      repeat refine sq ?_
      refine dx hΓ hP [[],[0],[],[2],[2,3],u5,u6,[],u8] [1,2,14,18,20,21,22,23] [[1,0],[2,0],[14,0],[20,0],[22,0],[23,0],[161,0],[187,0],[195,0],[254,0]] (by kernel_rfl) (fun K' hK=>by simp only[go_sem,Int.cast_ofNat_Int,Int.reduceToNat,Int.toNat_zero,Int.toNat_one,Nat.reduceMul,Nat.zero_mul,Nat.one_mul,List.getD_cons_succ,List.getD_cons_zero,tq,pZ,mP,List.length_map];(repeat (refine⟨by first | exact an | exact⟨by decide,by decide⟩,?_⟩));exact fG) ?_
      repeat refine sq ?_
      refine dx hΓ hP [[],[0],[0,1],[],[3],[],[5],[],[7],[5,6,7,8],[5,6,7,8,9],[],[11],[5,6,7,8,9,11,12],[],[14],[5,6,7,8,9,11,12,13,14,15],lz,[],kK] [1,2,14,18,20,21,24] [[1,0],[2,0],[14,0],[20,0],[24,0],[161,0],[187,0],[195,0],[254,0]] (by kernel_rfl) (fun K' hK=>by simp only[go_sem,Int.cast_ofNat_Int,Int.reduceToNat,Int.toNat_zero,Int.toNat_one,Nat.reduceMul,Nat.zero_mul,Nat.one_mul,List.getD_cons_succ,List.getD_cons_zero,sS,EI,xF];(repeat (refine⟨by first | exact an | exact⟨by decide,by decide⟩ | exact⟨by omega,by omega⟩,?_⟩));exact fG) ?_
      repeat refine sq ?_
      refine rx hΓ [1,2,14,18,20,21,24] [[1,0],[2,0],[14,0],[20,0],[24,0],[161,0],[187,0],[195,0],[254,0]] (fun K' hK=>by simp only[go_sem];(repeat (refine⟨by first | exact an | exact⟨C0 Nv 900,by rw[m7];show _=(bm _ _ _).length;rw[lB];exact(gV _).symm⟩,?_⟩));exact fD) ?_
      repeat refine sq ?_
      refine aP hΓ fun K' hK=>?_
      simp only[go_sem]
      repeat (refine⟨by first | exact an | exact⟨rfl,by rw[AE];omega,by rw[AE];unfold maxLen;omega⟩,?_⟩)
      refine hK _ ?_
      clear K' hK
      simp only[go_sem]
      refine kp [1,2,14,18,20,21] [[1,0],[2,0],[14,0],[20,0],[161,0],[187,0],[195,0],[254,0]] ?_
      repeat refine sq ?_
      refine aP hΓ fun K' hK=>?_
      simp only[go_sem]
      repeat (refine⟨an,?_⟩)
      refine hK _ ?_
      clear K' hK
      simp only[go_sem]
      refine⟨i5+1,AR,by(show (nS r)-(i5+1)<(nS r)-i5;omega),?_⟩
      refine bd [1,2,14,18,20,21] [[1,0],[2,0],[14,0],[20,0],[161,0],[187,0],[195,0],[254,0]] ?_ ?_<;>simp only[go_sem,a7 AR Zi,bb,eS,List.map_append,List.length_append,List.map_cons,List.map_nil,List.length_cons,List.length_nil]
     ·repeat refine sq ?_
      have ZQ:i5=nS r:=by
       simp at hb
       have h:=hi
       unfold nS at h |-
       omega
      subst ZQ
      refine bT ?_
      simp only[go_sem]
      refine kp [2,14,18] [[2,0],[14,0],[161,0],[187,0],[195,0],[254,0]] ?_
      repeat refine sq ?_
      refine rx hΓ [2,3] [[2,0],[161,0],[187,0],[195,0],[254,0]] (fun K' hK=>by simp only[go_sem];exact ak) ?_
      refine aA ?_
      simp only[go_sem]
      first | rfl | trace_state
end
end
theorem aa1{α:Type}(p:α->Bool)(l:List α):l.find? p=if dJ p l<0 then none else l[(dJ p l).toNat]?:=by
 unfold dJ
 by_cases h:l.any p=true
 ·rw[if_pos h]
  have ab:l.findIdx p<l.length:=List.findIdx_lt_length_of_exists (by obtain⟨x,hx,hp⟩:=List.any_eq_true.1 h;exact⟨x,hx,hp⟩)
  rw[if_neg (by omega),Int.toNat_natCast,List.getElem?_eq_getElem ab]
  exact List.find?_eq_some_iff_getElem.2 ⟨List.findIdx_getElem (w:=ab),_,ab,rfl,fun j hj=>by simpa using List.not_of_lt_findIdx hj⟩
 ·rw[if_neg h,if_pos (by omega)]
  rw[List.find?_eq_none]
  intro x hx hp
  exact h (List.any_eq_true.2 ⟨x,hx,hp⟩)
theorem Dh(l:Led)(k so:Int):cW (bn l k) so=if cg l so k<0 then none else some (ao l (cg l so k).toNat):=by
 unfold cW bn
 rw[List.find?_filter]
 have e:(fun a:Rec=>decide (bI a.kn a.un k=true/\(a.so==so)=true))=fun r=>r.so==so&&bI r.kn r.un k:=by
  funext a
  cases bI a.kn a.un k<;>cases (a.so==so)<;>rfl
 rw[e,aa1]
 show (if cg l so k<0 then none else l.rs[(cg l so k).toNat]?)=_
 rcases uU l so k with h | ⟨j,hj,h,-⟩
 ·rw[h];rfl
 ·rw[h,if_neg (by omega),if_neg (by omega),Int.toNat_natCast,cm hj,List.getElem?_eq_getElem hj]
theorem Io(l:Led)(k:Int){s j:Nat}(h:s<l.ts.length):(bm l k (s+1)).getD j false=if j=s then gD l k (bm l k s) s else(bm l k s).getD j false:=by
 rw[<-Ip l k h]
 by_cases hj:j=s
 ·subst hj
  rw[if_pos rfl,List.getD_eq_getElem?_getD,List.getElem?_set_self (by rw[lB];exact h)]
  rfl
 ·rw[if_neg hj,List.getD_eq_getElem?_getD,List.getElem?_set_ne (by omega),<-List.getD_eq_getElem?_getD]
theorem wE{l:Led}{k:Int}{s j:Nat}(h:(bm l k s).getD j false=true):j<s:=(wF l k h).1
structure Ce (l:Led) (k:Int) (s:Nat):Prop where
 ts:∀ j:Nat,(bm l k s).getD j false=true↔(j:Int)∈(aC l k s).ts
 tn:(aC l k s).ts.Nodup
 tl:∀ j∈(aC l k s).ts,0<=j/\j<s
 bk1:∀ so f i,bu (aC l k s).bk (so,f)=some i->∃ j:Nat,i=j/\(bm l k s).getD j false=true/\(aG l j).re=so/\f∈(aG l j).lv
 bk2:∀ j:Nat,(bm l k s).getD j false=true->∀ f∈(aG l j).lv,bu (aC l k s).bk ((aG l j).re,f)=some (j:Int)
 ds:∀ j:Nat,(bm l k s).getD j false=true->aW (aC l k s).ds j=(bJ (aG l j).lo ((mB (bn l k) (aG l j).re).da+1),(aG l j).hi)
theorem yx(d:Ds)(i j:Int)(v:Int×Int):aW (ox d i v) j=if i=j then v else aW d j:=by
 induction d with
 |nil=>rfl
 |cons e r ih=>
  obtain⟨k,x⟩:=e
  simp only[ox]
  by_cases h:k=i
  ·rw[if_pos h]
   subst h
   simp only[aW]
   split<;>rfl
  ·rw[if_neg h]
   simp only[aW,ih]
   by_cases h2:k=j
   ·subst h2
    rw[if_pos rfl,if_pos rfl,if_neg (fun e=>h e.symm)]
   ·rw[if_neg h2,if_neg h2]
theorem acS{l:Led}{k:Int}{s:Nat}(h:Ce l k s)(x:Ret)(f:Int):(bu (aC l k s).bk (x.re,f)).isSome=!mg (nF l (bm l k s) x f) s:=by
 cases hb:bu (aC l k s).bk (x.re,f)with
 |none=>
  have :mg (nF l (bm l k s) x f) s=true:=by
   unfold mg
   rw[List.all_eq_true]
   intro j _
   unfold nF
   cases hj:((bm l k s).getD j false&&(aG l j).re==x.re&&(aG l j).lv.contains f)with
   |false=>rfl
   |true=>
    simp only[Bool.and_eq_true,beq_iff_eq,List.contains_iff_mem]at hj
    have :=h.bk2 j hj.1.1 f hj.2
    rw[hj.1.2,hb]at this
    cases this
  rw[this];rfl
 |some i=>
  obtain⟨j,rfl,h1,h2,h3⟩:=h.bk1 _ _ _ hb
  have :mg (nF l (bm l k s) x f) s=false:=by
   unfold mg
   rw[List.all_eq_false]
   refine⟨j,List.mem_range.2 (wE h1),?_⟩
   unfold nF
   rw[h1,h2]
   simp[h3]
  rw[this];rfl
theorem DM{l:Led}{k:Int}{s:Nat}(h:Ce l k s):gG k (bn l k) (aC l k s).bk (aG l s)=if gD l k (bm l k s) s=true then some (ao l (cg l (aG l s).re k).toNat)else none:=by
 unfold gG gD
 rw[Dh]
 by_cases hx:cg l (aG l s).re k<0
 ·rw[if_pos hx,if_pos hx];rfl
 ·rw[if_neg hx,if_neg hx]
  have nZ:(ao l (cg l (aG l s).re k).toNat).so=(aG l s).re:=by
   rcases uU l (aG l s).re k with h | ⟨j,hj,h,hr⟩
   ·rw[h]at hx;exact absurd (by decide) hx
   ·rw[h,Int.toNat_natCast,cm hj]
    unfold jj at hr
    simp only[Bool.and_eq_true,beq_iff_eq]at hr
    exact hr.1
  have jo:((aG l s).lv.any fun f=>(bu (aC l k s).bk ((ao l (cg l (aG l s).re k).toNat).so,f)).isSome||!(ao l (cg l (aG l s).re k).toNat).lv.contains f)=!(aG l s).lv.all (oR l (bm l k s) s (ao l (cg l (aG l s).re k).toNat) (aG l s)):=by
   rw[nZ,List.not_all_eq_any_not]
   congr 1
   funext f
   rw[acS h]
   unfold oR
   rw[Bool.not_and,Bool.or_comm]
  show (if (bI (aG l s).kn (aG l s).un k&&!(decide (bJ (aG l s).lo ((ao l (cg l (aG l s).re k).toNat).da+1)>(aG l s).hi)||(aG l s).lv.any fun f=>(bu (aC l k s).bk ((ao l (cg l (aG l s).re k).toNat).so,f)).isSome||!(ao l (cg l (aG l s).re k).toNat).lv.contains f))=true then _ else _)=_
  rw[jo]
  unfold mY
  cases bI (aG l s).kn (aG l s).un k<;>cases decide (bJ (aG l s).lo ((ao l (cg l (aG l s).re k).toNat).da+1)>(aG l s).hi)<;>cases (aG l s).lv.all (oR l (bm l k s) s (ao l (cg l (aG l s).re k).toNat) (aG l s))<;>rfl
theorem zq(l:Led)(k:Int):∀ s,s<=l.ts.length->Ce l k s
 | 0,_=>by
   have hf:∀ j,¬ (bm l k 0).getD j false=true:=fun j h=>absurd (wE h) (Nat.not_lt_zero j)
   exact⟨fun j=>⟨fun h=>(hf j h).elim,fun h=>(nomatch h)⟩,List.nodup_nil,fun j h=>(nomatch h),fun so f i h=>(nomatch h),fun j h=>(hf j h).elim,fun j h=>(hf j h).elim⟩
 |s+1,hs=>by
  have ih:=zq l k s (by omega)
  have hn:=DM ih
  have cK:=fun j=>Io l k (s:=s) (j:=j) (by omega)
  by_cases hb:gD l k (bm l k s) s=true
  ·rw[if_pos hb]at hn
   have e:=D5 hn
   obtain⟨s4,-,-,xK⟩:=Kt hn
   obtain⟨Ni,bP⟩:=qH s4
   have n8:mB (bn l k) (aG l s).re=ao l (cg l (aG l s).re k).toNat:=by unfold mB;rw[s4];rfl
   generalize ao l (cg l (aG l s).re k).toNat=r at *
   have hJ:∀ f∈(aG l s).lv,bu (aC l k s).bk (r.so,f)=none:=fun f hf=>by
    have :=List.any_eq_false.1 xK f hf
    unfold jd at this
    simp only[Bool.or_eq_true,not_or,Option.isSome_iff_ne_none,ne_eq,Decidable.not_not]at this
    exact this.1
   rw[hb]at cK
   have sU:∀ j:Nat,(bm l k (s+1)).getD j false=true↔(j:Int)∈(aC l k (s+1)).ts:=fun j=>by
    rw[cK,e]
    show _↔(j:Int)∈(aC l k s).ts++[(s:Int)]
    rw[List.mem_append,List.mem_singleton]
    by_cases hj:j=s
    ·subst hj;simp
    ·rw[if_neg hj,ih.ts j]
     constructor
     ·exact .inl
     ·rintro(h | h)
      ·exact h
      ·exact(hj (by omega)).elim
   refine⟨sU,?_,?_,?_,?_,?_⟩
   ·rw[e]
    refine List.nodup_append.2 ⟨ih.tn,by simp,fun a ha b dn qg=>?_⟩
    have :=ih.tl a ha
    simp only[List.mem_singleton]at dn
    omega
   ·intro j hj
    rw[e]at hj
    rcases List.mem_append.1 hj with hj | hj
    ·have:=ih.tl j hj;omega
    ·simp only[List.mem_singleton]at hj;omega
   ·intro so f i h
    rw[e]at h
    simp only[Hg]at h
    split at h
    ·rename_i hc
     cases h
     refine⟨s,rfl,by rw[cK,if_pos rfl],?_,hc.2⟩
     rw[<-bP];exact hc.1.symm
    ·obtain⟨j,rfl,h1,h2,h3⟩:=ih.bk1 so f i h
     have :=wE h1
     exact⟨j,rfl,by rw[cK,if_neg (by omega)];exact h1,h2,h3⟩
   ·intro j h1 f hf
    rw[cK]at h1
    rw[e]
    simp only[Hg]
    by_cases hj:j=s
    ·subst hj
     rw[if_pos ⟨bP.symm,hf⟩]
    ·rw[if_neg hj]at h1
     have h4:=ih.bk2 j h1 f hf
     rw[if_neg,h4]
     rintro⟨h5,h6⟩
     have :=hJ f h6
     rw[<-h5,h4]at this
     cases this
   ·intro j h1
    rw[cK]at h1
    rw[e]
    show aW (ox (aC l k s).ds s (bJ (aG l s).lo (r.da+1),(aG l s).hi)) j=_
    rw[yx]
    by_cases hj:j=s
    ·subst hj
     rw[if_pos rfl,n8]
    ·rw[if_neg hj]at h1
     rw[if_neg (by omega)]
     exact ih.ds j h1
  ·rw[if_neg hb]at hn
   have e:=xn hn
   have e2:bm l k (s+1)=bm l k s:=zo l k (by simpa using hb)
   exact⟨by rw[e,e2];exact ih.ts,by rw[e];exact ih.tn,fun j hj=>by rw[e]at hj;have:=ih.tl j hj;omega,by rw[e,e2];exact ih.bk1,by rw[e,e2];exact ih.bk2,by rw[e,e2];exact ih.ds⟩
theorem j5(l:Led)(k:Int):Ce l k l.ts.length:=zq l k _ (Nat.le_refl _)
theorem wR(l:Led)(k:Int)(i:Nat)(f:Int):dq (aV l k) i f=(bu (aq l k).bk ((ao l i).so,f)).getD (-1):=by
 have hi:=j5 l k
 show _=(bu (aC l k l.ts.length).bk ((ao l i).so,f)).getD (-1)
 cases hb:bu (aC l k l.ts.length).bk ((ao l i).so,f)with
 |none=>
  refine Je fun m _ hm=>?_
  show jD (aV l k) (ao l i).so f m=false
  rw[Bool.eq_false_iff]
  intro h
  unfold jD at h
  simp only[Bool.and_eq_true,beq_iff_eq,List.contains_iff_mem]at h
  have h1:(bm l k l.ts.length).getD m false=true:=h.1.1
  have :=hi.bk2 m h1 f h.2
  have h2:(aG l m).re=(ao l i).so:=h.1.2
  rw[h2,hb]at this
  cases this
 |some q=>
  obtain⟨j,rfl,h1,h2,h3⟩:=hi.bk1 _ _ _ hb
  refine Jf (j:=j) ?_ ?_ ?_
  ·show j<(bm l k l.ts.length).length
   rw[lB];exact wE h1
  ·show (((bm l k l.ts.length).getD j false&&(aG l j).re==(ao l i).so)&&(aG l j).lv.contains f)=true
   rw[h1,h2]
   simp[h3]
  ·intro m _ mO
   show jD (aV l k) (ao l i).so f m=false
   rw[Bool.eq_false_iff]
   intro h
   unfold jD at h
   simp only[Bool.and_eq_true,beq_iff_eq,List.contains_iff_mem]at h
   have h4:(bm l k l.ts.length).getD m false=true:=h.1.1
   have :=hi.bk2 m h4 f h.2
   have h5:(aG l m).re=(ao l i).so:=h.1.2
   rw[h5,hb]at this
   have :(j:Int)=m:=Option.some.inj this
   omega
def xc(v:Int×Int)(da:Int)(os:List Rec):Int×Int:=os.foldl (fun v o=>if o.da>da then(bJ v.1 0,dw v.2 o.da)else v) v
def mR(h da:Int)(os:List Rec):Int:=os.foldl (fun h o=>if o.da>da then dw h o.da else h) h
theorem Vs{v:Int×Int}{da:Int}(os:List Rec)(h:0<=v.1):xc v da os=(v.1,mR v.2 da os):=by
 induction os generalizing v with
 |nil=>rfl
 |cons o r ih=>
  show xc (if o.da>da then(bJ v.1 0,dw v.2 o.da)else v) da r=(v.1,mR (if o.da>da then dw v.2 o.da else v.2) da r)
  by_cases hc:o.da>da
  ·rw[if_pos hc,if_pos hc]
   have :bJ v.1 0=v.1:=by unfold bJ;rw[if_neg (by omega)]
   rw[this]
   exact ih (v:=(v.1,dw v.2 o.da)) h
  ·rw[if_neg hc,if_neg hc,ih h]
theorem Vu(d:Ds)(i da:Int)(os:List Rec)(j:Int):aW (kg d i da os) j=if i=j then xc (aW d i) da os else aW d j:=by
 induction os generalizing d with
 |nil=>
  show aW d j=if i=j then aW d i else aW d j
  split
  ·rename_i h;rw[h]
  ·rfl
 |cons o r ih=>
  show aW (kg (if o.da>da then kh d i ⟨0,o.da⟩else d) i da r) j=if i=j then xc (if o.da>da then(bJ (aW d i).1 0,dw (aW d i).2 o.da)else aW d i) da r else aW d j
  rw[ih]
  by_cases hc:o.da>da
  ·rw[if_pos hc,if_pos hc]
   unfold kh
   rw[yx,if_pos rfl,yx]
   by_cases bF:i=j
   ·rw[if_pos bF,if_pos bF]
   ·rw[if_neg bF,if_neg bF,if_neg bF]
  ·rw[if_neg hc,if_neg hc]
theorem Gp{ts:List Int}{m:Nat}(h:m<ts.length):ts.take (m+1)=ts.take m++[ts.getD m 0]:=by
 rw[List.take_add_one,List.getD_eq_getElem?_getD,List.getElem?_eq_getElem h];rfl
theorem KO(l:Led)(rs:List Rec)(ts:List Int)(d:Ds)(hn:ts.Nodup):∀ m,m<=ts.length->∀ j,aW (gH l rs ts d m) j=
 if j∈ts.take m then xc (aW d j) (mB rs (aG l j.toNat).re).da (dA rs (mB rs (aG l j.toNat).re).pa (aG l j.toNat).lv)else aW d j
 | 0,_,j=>by rw[if_neg (by simp)];rfl
 |m+1,hm,j=>by
  have ih:=KO l rs ts d hn m (by omega)
  rw[gH,Vu,Gp (by omega)]
  have AN:ts.getD m 0∉ts.take m:=by
   have h1:(ts.take (m+1)).Nodup:=hn.sublist (List.take_sublist _ _)
   rw[Gp (by omega)]at h1
   have :=(List.nodup_append.1 h1).2.2
   exact fun h=>this _ h _ (List.mem_singleton.2 rfl) rfl
  by_cases hj:ts.getD m 0=j
  ·subst hj
   rw[if_pos rfl,ih,if_neg AN,if_pos (by simp)]
  ·rw[if_neg hj,ih]
   have e:(j∈ts.take m++[ts.getD m 0])↔j∈ts.take m:=by
    rw[List.mem_append,List.mem_singleton]
    exact⟨fun h=>h.elim id fun h=>(hj h.symm).elim,.inl⟩
   simp only[e]
theorem VS(a b:Int):dw (dw a b) b=dw a b:=by
 unfold dw
 by_cases h:b<a
 ·rw[if_pos h,if_neg (by omega)]
 ·rw[if_neg h,if_neg h]
theorem QG{α:Type}(c:Bool)(p:α->Bool)(l:List α):(l.any fun n=>c&&p n)=(c&&l.any p):=by cases c<;>simp
theorem P9(x:RV)(r:Rec)(lv:List Int)(i:Nat)(hi:Int):∀ m,yI x r lv i hi m=if (List.range m).any (xi x r lv i)=true then dw hi (ao x.l i).da else hi
 | 0=>rfl
 |m+1=>by
  rw[yI,P9 x r lv i hi m,List.range_succ,List.any_append]
  by_cases h1:(List.range m).any (xi x r lv i)=true
  ·rw[h1,if_pos rfl,Bool.true_or,if_pos rfl,VS]
   split<;>rfl
  ·rw[if_neg h1]
   have fU:(List.range m).any (xi x r lv i)=false:=by simpa using h1
   rw[fU]
   simp only[List.any_cons,List.any_nil,Bool.or_false,Bool.false_or]
theorem acP{α:Type}(p:α->Bool)(lv:List α)(d:α):((List.range lv.length).any fun j=>p (lv.getD j d))=lv.any p:=by
 rw[Bool.eq_iff_iff,List.any_eq_true,List.any_eq_true]
 constructor
 ·rintro⟨j,hj,hp⟩
  have fS:j<lv.length:=by simpa using hj
  rw[cj fS]at hp
  exact⟨_,List.getElem_mem fS,hp⟩
 ·rintro⟨a,ha,hp⟩
  obtain⟨j,hj,rfl⟩:=List.getElem_of_mem ha
  exact⟨j,by simpa using hj,by rw[cj hj];exact hp⟩
def xY(k:Int)(r:Rec)(lv:List Int)(o:Rec):Bool:=decide (o.da>r.da)&&(bI o.kn o.un k&&gx r.pa lv o)
theorem Hy(a b:List Int):(a.any fun n=>b.contains n)=b.any fun n=>a.contains n:=by
 rw[Bool.eq_iff_iff,List.any_eq_true,List.any_eq_true]
 constructor<;>(rintro⟨n,h1,h2⟩;exact⟨n,List.contains_iff_mem.1 h2,List.contains_iff_mem.2 h1⟩)
theorem VI(x:RV)(r:Rec)(lv:List Int)(i:Nat):(List.range lv.length).any (xi x r lv i)=xY x.k r lv (ao x.l i):=by
 have :=acP (fun n=>decide ((ao x.l i).da>r.da)&&dR x.k ⟨r.pa,n⟩ (ao x.l i)) lv 0
 refine this.trans ?_
 unfold xY gx
 rw[QG,Hy]
 congr 1
 show (lv.any fun n=>(bI (ao x.l i).kn (ao x.l i).un x.k&&(ao x.l i).pa==r.pa)&&(ao x.l i).lv.contains n)=_
 rw[QG,Bool.and_assoc]
theorem P8(x:RV)(r:Rec)(t:Ret):∀ m,m<=x.l.rs.length->ue x r t m=(x.l.rs.take m).foldl (fun h o=>if xY x.k r t.lv o=true then dw h o.da else h) t.hi
 | 0,_=>rfl
 |m+1,hm=>by
  rw[ue,P9,VI,P8 x r t m (by omega),List.take_add_one,List.getElem?_eq_getElem (by omega),List.foldl_append,cm (by omega)]
  rfl
theorem P7(l:Led)(k:Int)(r:Rec)(t:Ret):ue (aV l k) r t l.rs.length=mR t.hi r.da (dA (bn l k) r.pa t.lv):=by
 have h:=P8 (aV l k) r t l.rs.length (Nat.le_refl _)
 refine h.trans ?_
 show (l.rs.take l.rs.length).foldl _ _=_
 rw[List.take_length]
 unfold mR dA bn
 rw[List.foldl_filter,List.foldl_filter]
 congr 1
 funext h o
 show (if xY k r t.lv o=true then dw h o.da else h)=_
 unfold xY
 by_cases h1:bI o.kn o.un k=true
 ·rw[if_pos h1]
  by_cases h2:gx r.pa t.lv o=true
  ·rw[if_pos h2,h1,h2];simp
  ·rw[if_neg h2];simp[h2]
 ·rw[if_neg h1];simp[h1]
theorem Il{l:Led}{k:Int}{row:List Bool}{i:Nat}(h:gD l k row i=true):∃ q,∃ hq:q<l.rs.length,cg l (aG l i).re k=(q:Int)/\jj (aG l i).re k l.rs[q]=true:=by
 rcases uU l (aG l i).re k with h2 | ⟨q,hq,h2,h3⟩
 ·exact absurd (by rw[h2];decide) (Is h)
 ·exact⟨q,hq,h2,h3⟩
theorem P2{l:Led}(aa:bA l)(k:Int){j:Nat}(h:(bm l k l.ts.length).getD j false=true):yH (aV l k) j=⟨(aW (aq l k).ds j).1,(aW (aq l k).ds j).2⟩:=by
 have hi:=j5 l k
 obtain⟨eE,jk⟩:=wF l k h
 obtain⟨q,hq,hx,hr⟩:=Il jk
 have s4:mB (bn l k) (aG l j).re=ao l q:=by
  unfold mB
  rw[Dh,hx,if_neg (by omega),Int.toNat_natCast];rfl
 have vK:0<=(ao l q).da:=by rw[cm hq];exact(zX aa (List.getElem_mem hq)).1
 have h1:aW (aq l k).ds j=(bJ (aG l j).lo ((ao l q).da+1),mR (aG l j).hi (ao l q).da (dA (bn l k) (ao l q).pa (aG l j).lv)):=by
  show aW (gH l (bn l k) (aC l k l.ts.length).ts (aC l k l.ts.length).ds (aC l k l.ts.length).ts.length) j=_
  rw[KO _ _ _ _ hi.tn _ (Nat.le_refl _),List.take_length,if_pos ((hi.ts j).1 h),hi.ds j h,Int.toNat_natCast,s4]
  exact Vs _ (by show 0<=bJ _ _;unfold bJ;split<;>omega)
 rw[h1]
 unfold yH
 rw[if_pos (show (aV l k).ts.getD j false=true from h)]
 show (⟨mY (aG l j) (ao l (cg l (aG l j).re k).toNat),ue (aV l k) (ao l (cg l (aG l j).re k).toNat) (aG l j) l.rs.length⟩:Rg)=_
 rw[hx,Int.toNat_natCast,P7]
 rfl
theorem Kj{k:Int}{r:Rec}{f:Int}(hc:bI r.kn r.un k=true)(hf:f∈r.lv):dR k ⟨r.pa,f⟩ r=true:=by
 unfold dR;simp[hc,hf]
theorem Px{l:Led}{k:Int}{i j:Nat}(hi:bI (ao l i).kn (ao l i).un k=true)(hj:bI (ao l j).kn (ao l j).un k=true):lr (aV l k) i j=rP (aq l k) (ao l i) (ao l j):=by
 unfold lr rP
 show (ao l i).lv.any _=_
 rw[Bool.eq_iff_iff,List.any_eq_true,List.any_eq_true]
 have hb:∀ f∈(ao l i).lv,v5 (aV l k) i j f=(((ao l i).pa==(ao l j).pa&&(ao l j).lv.contains f)&&((ao l i).da==(ao l j).da||match bu (aq l k).bk ((ao l i).so,f)with
  |none=>true
  |some q=>decide (bJ (aG (aq l k).l q.toNat).lo ((ao l i).da+1)>(ao l j).da))):=fun f hf=>by
  unfold v5
  rw[wR]
  show ((dR k ⟨(ao l i).pa,f⟩ (ao l i)&&dR k ⟨(ao l i).pa,f⟩ (ao l j))&&(((ao l i).da==(ao l j).da||decide ((bu (aq l k).bk ((ao l i).so,f)).getD (-1)<0))||decide (mY (aG l ((bu (aq l k).bk ((ao l i).so,f)).getD (-1)).toNat) (ao l i)>(ao l j).da)))=_
  rw[Kj hi hf]
  have h2:dR k ⟨(ao l i).pa,f⟩ (ao l j)=((ao l i).pa==(ao l j).pa&&(ao l j).lv.contains f):=by
   unfold dR
   rw[hj,Bool.true_and]
   congr 1
   rw[Bool.eq_iff_iff,beq_iff_eq,beq_iff_eq]
   exact eq_comm
  rw[h2,Bool.true_and]
  congr 1
  cases aI:bu (aq l k).bk ((ao l i).so,f)with
  |none=>simp
  |some q=>
   have hq:0<=q:=by
    obtain⟨m,rfl,-⟩:=(j5 l k).bk1 _ _ _ aI
    omega
   have hl:(aq l k).l=l:=(pO l k l.ts.length).1
   simp only[Option.getD_some,hl,mY]
   have :decide (q<0)=false:=by simpa using hq
   rw[this,Bool.or_false]
   rfl
 constructor
 ·rintro⟨f,hf,h⟩;exact⟨f,hf,(hb f hf).symm.trans h⟩
 ·rintro⟨f,hf,h⟩;exact⟨f,hf,(hb f hf).trans h⟩
theorem GS(l:Led)(k:Int)(a m:Nat):iY (aV l k) a m=if (ao l a).da>(ao l m).da then lr (aV l k) m a else lr (aV l k) a m:=rfl
theorem GU{l:Led}{k:Int}{i j:Nat}(hi:bI (ao l i).kn (ao l i).un k=true)(hj:bI (ao l j).kn (ao l j).un k=true):iY (aV l k) i j=gB (aq l k) (ao l i) (ao l j):=by
 unfold iY gB
 show (if (ao l i).da>(ao l j).da then lr (aV l k) j i else lr (aV l k) i j)=_
 rw[Px hi hj,Px hj hi]
theorem Py{l:Led}{k:Int}{i j:Nat}(h:lr (aV l k) i j=true):bI (ao l i).kn (ao l i).un k=true/\bI (ao l j).kn (ao l j).un k=true:=by
 unfold lr at h
 obtain⟨f,-,h⟩:=List.any_eq_true.1 h
 unfold v5 dR at h
 simp only[Bool.and_eq_true]at h
 exact⟨h.1.1.1.1,h.1.2.1.1⟩
theorem GV{l:Led}{k:Int}{i j:Nat}(h:iY (aV l k) i j=true):bI (ao l i).kn (ao l i).un k=true/\bI (ao l j).kn (ao l j).un k=true:=by
 unfold iY at h
 split at h
 ·exact(Py h).symm
 ·exact Py h
theorem BB(x:RV):fV x=none↔∀ a,a<x.l.rs.length->∀ m,a<m->m<x.l.rs.length->iY x a m=false:=by
 refine⟨fun h a ha m h1 h2=>?_,Pz⟩
 unfold fV at h
 rw[List.findSome?_eq_none_iff]at h
 have :=h a (List.mem_range.2 ha)
 unfold v7 at this
 rw[Option.map_eq_none_iff,List.find?_eq_none]at this
 have :=this m (List.mem_range.2 h2)
 simpa[h1]using this
theorem UM(x:Vw):eJ x=none↔x.rs.Pairwise fun a b=>gB x a b=false:=by
 rw[List.pairwise_iff_getElem]
 constructor
 ·intro h i j hi hj bF
  unfold eJ at h
  rw[List.findSome?_eq_none_iff]at h
  have :=h i (List.mem_range.2 hi)
  unfold nN at this
  rw[Option.map_eq_none_iff,List.find?_eq_none]at this
  have hm:x.rs[j]∈x.rs.drop (i+1):=by
   rw[List.mem_iff_getElem]
   exact⟨j-(i+1),by rw[List.length_drop];omega,by rw[List.getElem_drop];congr 1;omega⟩
  have h2:=this _ hm
  rw[cj hi]at h2
  simpa using h2
 ·intro h
  refine Du fun i hi=>zQ hi fun m hm=>?_
  rw[List.length_drop]at hm
  rw[List.getElem_drop]
  exact h i (i+1+m) hi (by omega) (by omega)
theorem JR(l:Led)(k:Int):eJ (aq l k)=none↔fV (aV l k)=none:=by
 rw[UM,BB]
 have bP:(aq l k).rs=bn l k:=(pO l k l.ts.length).2
 rw[bP]
 unfold bn
 rw[List.pairwise_filter,List.pairwise_iff_getElem]
 constructor
 ·intro h a ha m h1 h2
  show iY (aV l k) a m=false
  rw[Bool.eq_false_iff]
  intro hd
  have kz:=hd
  obtain⟨c1,c2⟩:=GV hd
  rw[GU c1 c2]at kz
  have yl:a<l.rs.length:=ha
  have ql:m<l.rs.length:=h2
  rw[cm yl]at c1 kz
  rw[cm ql]at c2 kz
  rw[h a m yl ql h1 c1 c2]at kz
  cases kz
 ·intro h i j hi hj bF c1 c2
  have :=h i hi j bF hj
  rw[<-cm hi]at c1 |-
  rw[<-cm hj]at c2 |-
  rw[GU c1 c2]at this
  exact this
theorem Vv{l:Led}{k:Int}(h:fV (aV l k)=none)(f:Fol){i j:Nat}(bF:i<j)(hj:j<l.rs.length)(h1:dR k f (ao l i)=true)(h2:dR k f (ao l j)=true):(ao l i).da≠(ao l j).da:=by
 intro he
 have :=(BB _).1 h i (by show i<l.rs.length;omega) j bF hj
 rw[GS,if_neg (show ¬ (ao l i).da>(ao l j).da by omega)]at this
 unfold lr at this
 have hf:f.le∈(ao l i).lv:=by unfold dR at h1;simp at h1;exact h1.2
 have hp:(ao l i).pa=f.pa:=by unfold dR at h1;simp at h1;exact h1.1.2
 have h3:=List.any_eq_false.1 this f.le hf
 apply h3
 unfold v5
 show ((dR k ⟨(ao l i).pa,f.le⟩ (ao l i)&&dR k ⟨(ao l i).pa,f.le⟩ (ao l j))&&(((ao l i).da==(ao l j).da||_)||_))=true
 rw[hp]
 have e:(⟨f.pa,f.le⟩:Fol)=f:=rfl
 rw[e,h1,h2,he]
 simp
theorem at_last{l:Led}{k:Int}(h:fV (aV l k)=none)(f:Fol)(day:Int):∀ s,s<=l.rs.length->
 (gd (aV l k) f day s= -1/\((l.rs.take s).filter (dR k f)).foldl (jw day) none=none)\/
   ∃ q,q<s/\gd (aV l k) f day s=(q:Int)/\dR k f (ao l q)=true/\((l.rs.take s).filter (dR k f)).foldl (jw day) none=some (ao l q)
 | 0,_=>.inl ⟨rfl,rfl⟩
 |s+1,hs=>by
  have ih:=at_last h f day s (by omega)
  have iU:s<l.rs.length:=by omega
  have e1:l.rs.take (s+1)=l.rs.take s++[ao l s]:=by
   rw[List.take_add_one,List.getElem?_eq_getElem iU,cm iU];rfl
  rw[e1,List.filter_append]
  have e2:gd (aV l k) f day (s+1)=if ((dR k f (ao l s)&&decide ((ao l s).da<=day))&&(decide (gd (aV l k) f day s<0)||decide ((ao l s).da>(ao l (gd (aV l k) f day s).toNat).da)))=true then(s:Int)else gd (aV l k) f day s:=rfl
  rw[e2]
  cases ho:dR k f (ao l s)with
  |false=>
   rw[show [ao l s].filter (dR k f)=[]by simp[ho],List.append_nil]
   simp only[Bool.false_and,Bool.false_eq_true,if_false]
   rcases ih with h | ⟨q,h1,h2⟩
   ·exact .inl h
   ·exact .inr ⟨q,by omega,h2⟩
  |true=>
   rw[show [ao l s].filter (dR k f)=[ao l s]by simp[ho],List.foldl_append]
   simp only[List.foldl_cons,List.foldl_nil,Bool.true_and]
   rcases ih with⟨h1,h2⟩ | ⟨q,h1,h2,h3,h4⟩
   ·rw[h1,h2]
    unfold jw
    by_cases hd:(ao l s).da<=day
    ·exact .inr ⟨s,by omega,by simp[hd],ho,by simp[hd]⟩
    ·exact .inl ⟨by simp[hd],by simp[hd]⟩
   ·rw[h2,h4,Int.toNat_natCast]
    have aF:=Vv h f h1 iU h3 ho
    unfold jw
    have oV:¬ (q:Int)<0:=by omega
    by_cases hd:(ao l s).da<=day
    ·by_cases hg:(ao l s).da>(ao l q).da
     ·refine .inr ⟨s,by omega,by simp[hd,hg],ho,?_⟩
      have :(ao l s).da>=(ao l q).da:=by omega
      simp[hd,this]
     ·refine .inr ⟨q,by omega,by simp[hg,oV],h3,?_⟩
      have :¬ (ao l s).da>=(ao l q).da:=by omega
      simp[this]
    ·exact .inr ⟨q,by omega,by simp[hd],h3,by simp[hd]⟩
theorem Rz(l:Led)(k pa le:Int):dA (bn l k) pa [le]=l.rs.filter (dR k ⟨pa,le⟩):=by
 unfold dA bn
 rw[List.filter_filter]
 congr 1
 funext r
 unfold gx dR
 rw[Hy]
 simp only[List.any_cons,List.any_nil,Bool.or_false]
 cases bI r.kn r.un k<;>cases (r.pa==pa)<;>cases r.lv.contains le<;>rfl
theorem K8{l:Led}{k:Int}(h:fV (aV l k)=none)(f:Fol)(day:Int):
 (dZ (aV l k) f day= -1/\eR (bn l k) f.pa f.le day=none)\/∃ q,q<l.rs.length/\dZ (aV l k) f day=(q:Int)/\dR k f (ao l q)=true/\eR (bn l k) f.pa f.le day=some (ao l q):=by
 have h1:=at_last h f day l.rs.length (Nat.le_refl _)
 rw[List.take_length]at h1
 unfold eR
 rw[Rz]
 exact h1
def im(l:Led)(k:Int)(j:Nat):Prop:=(bm l k l.ts.length).getD j false=true
def Rel(l:Led)(k:Int)(d:List Rg)(D:Ds):Prop:=d.length=l.ts.length/\∀ j:Nat,im l k j->fj d j=⟨(aW D j).1,(aW D j).2⟩/\0<=(aW D j).1/\(aW D j).2<=100000
def pn(l:Led)(k:Int)(D:Ds):Prop:=∀ j:Nat,im l k j->(aW D j).1<=(aW D j).2
theorem wD{l:Led}{k:Int}{j:Nat}(h:im l k j):j<l.ts.length:=wE h
theorem Gu(l:Led)(k:Int)(D:Ds):vP (aq l k).ts D=true↔pn l k D:=by
 have hi:=j5 l k
 unfold vP pn im
 rw[List.all_eq_true]
 show (∀ i∈(aC l k l.ts.length).ts,_)↔_
 constructor
 ·intro h j hj
  have :=h j ((hi.ts j).1 hj)
  simpa using this
 ·intro h i hm
  have hb:=hi.tl i hm
  obtain⟨j,rfl⟩:∃ j:Nat,i=j:=⟨i.toNat,by omega⟩
  simpa using h j ((hi.ts j).2 hm)
theorem Qb{l:Led}{k so f i:Int}(h:bu (aq l k).bk (so,f)=some i):∃ j:Nat,i=j/\im l k j:=by
 obtain⟨j,e,h1,-⟩:=(j5 l k).bk1 _ _ _ h
 exact⟨j,e,h1⟩
theorem T9{d:List Rg}{i:Nat}{r:Rg}(h:i<d.length)(j:Nat):fj (d.set i r) j=if i=j then r else fj d j:=by
 unfold fj
 rw[List.getD_eq_getElem?_getD,List.getElem?_set]
 by_cases bF:i=j
 ·subst bF
  simp[h]
 ·rw[if_neg bF,if_neg bF,List.getD_eq_getElem?_getD]
theorem vm(l:Led)(k:Int):(aq l k).rs=bn l k:=(pO l k l.ts.length).2
theorem Jk{l:Led}{k:Int}{d:List Rg}{D:Ds}(h:Rel l k d D){j:Nat}(hj:im l k j)(r w:Rg)
 (h1:w=⟨bJ (aW D j).1 r.lo,dw (aW D j).2 r.hi⟩):Rel l k (d.set j w) (kh D j r)/\(pn l k (kh D j r)↔(w.lo<=w.hi/\pn l k D)):=by
 have iz:j<d.length:=by rw[h.1];exact wD hj
 have e:∀ i:Nat,aW (kh D j r) i=if j=i then(w.lo,w.hi)else aW D i:=fun i=>by
  unfold kh
  rw[yx,h1]
  by_cases bF:j=i
  ·subst bF;rw[if_pos rfl,if_pos rfl]
  ·rw[if_neg (by omega),if_neg bF]
 have fB:(aW D j).1<=w.lo:=by rw[h1];show _<=bJ _ _;unfold bJ;split<;>omega
 have Fm:w.hi<=(aW D j).2:=by rw[h1];show dw _ _<=_;unfold dw;split<;>omega
 refine⟨⟨by rw[List.length_set];exact h.1,fun i hi=>?_⟩,?_⟩
 ·rw[T9 iz,e]
  by_cases bF:j=i
  ·subst bF
   rw[if_pos rfl,if_pos rfl]
   have :=h.2 j hj
   exact⟨rfl,by show 0<=w.lo;omega,by show w.hi<=_;omega⟩
  ·rw[if_neg bF,if_neg bF];exact h.2 i hi
 ·constructor
  ·intro hf
   have fS:=hf j hj
   rw[e,if_pos rfl]at fS
   refine⟨fS,fun i hi=>?_⟩
   by_cases bF:j=i
   ·subst bF
    have :w.lo<=w.hi:=fS
    omega
   ·have:=hf i hi
    rw[e,if_neg bF]at this
    exact this
  ·rintro⟨hw,hf⟩ i hi
   rw[e]
   by_cases bF:j=i
   ·rw[if_pos bF];exact hw
   ·rw[if_neg bF];exact hf i hi
theorem Vm{l:Led}(aa:bA l){k:Int}(h0:fV (aV l k)=none){d:List Rg}{D:Ds}(h:Rel l k d D)(s:Sig):
 Rel l k (kf (aV l k) d s).1 (gz (aq l k) D s)/\(((kf (aV l k) d s).2=true/\pn l k D)↔(fb (aq l k) s=true/\pn l k (gz (aq l k) D s))):=by
 have bP:=vm l k
 rcases K8 h0 ⟨s.pa,s.le⟩ s.da with⟨e1,e2⟩ | ⟨q,hq,e1,-,e2⟩
 ·have vT:eR (aq l k).rs s.pa s.le s.da=none:=by rw[bP];exact e2
  rw[Vo e1]
  have hw:bp (aq l k) s=if s.pe=0 then(-1,cG)else(-1,cD):=by unfold bp;rw[vT]
  have hf:gz (aq l k) D s=D:=by unfold gz;rw[hw];split<;>rfl
  have hm:fb (aq l k) s=(s.pe==0):=by
   unfold fb;rw[hw]
   by_cases hp:s.pe=0
   ·rw[if_pos hp,hp];rfl
   ·rw[if_neg hp]
    have :(s.pe==0)=false:=by simpa using hp
    rw[this];rfl
  rw[hf,hm]
  exact⟨h,Iff.rfl⟩
 ·have vT:eR (aq l k).rs s.pa s.le s.da=some (ao l q):=by rw[bP];exact e2
  have F0:1<=(ao l q).bo:=by
   rw[cm hq]
   have :=aa.recs _ (List.getElem_mem hq)
   unfold eh bO at this
   simp only[Bool.and_eq_true,decide_eq_true_eq]at this
   exact this.1.1.1.1.2.1
  have er:=wR l k q s.le
  cases aI:bu (aq l k).bk ((ao l q).so,s.le)with
  |none=>
   rw[aI]at er
   rw[Vn e1 er]
   have hw:bp (aq l k) s=if s.pe=(ao l q).bo then(-1,cG)else(-1,cD):=by unfold bp;rw[vT];simp only[aI]
   have hf:gz (aq l k) D s=D:=by unfold gz;rw[hw];split<;>rfl
   have hm:fb (aq l k) s=(s.pe==(ao l q).bo):=by
    unfold fb;rw[hw]
    by_cases hp:s.pe=(ao l q).bo
    ·rw[if_pos hp,hp,beq_self_eq_true];rfl
    ·rw[if_neg hp]
     have :(s.pe==(ao l q).bo)=false:=by simpa using hp
     rw[this];rfl
   rw[hf,hm]
   exact⟨h,Iff.rfl⟩
  |some i=>
   obtain⟨j,rfl,hj⟩:=Qb aI
   rw[aI]at er
   have EV:dq (aV l k) q s.le=(j:Int):=er
   have hw:bp (aq l k) s=if s.pe=0 then((j:Int),(⟨0,s.da⟩:Rg))else if s.pe=(ao l q).bo then((j:Int),(⟨s.da+1,100000⟩:Rg))else(-1,cD):=by unfold bp;rw[vT];simp only[aI]
   obtain⟨ew,gh,Y2⟩:=h.2 j hj
   have cf:(j:Int)>=0:=by omega
   by_cases oW:s.pe=0
   ·have xU:(s.pe==(ao l q).bo)=false:=by rw[beq_eq_false_iff_ne];omega
    rw[Vr e1 EV xU (by rw[oW];rfl)]
    have hf:gz (aq l k) D s=kh D j ⟨0,s.da⟩:=by unfold gz;rw[hw,if_pos oW];exact if_pos cf
    have hm:fb (aq l k) s=true:=by unfold fb;rw[hw,if_pos oW];simp
    rw[hf,hm]
    obtain⟨g1,g2⟩:=Jk h hj ⟨0,s.da⟩ ⟨(fj d j).lo,dw (fj d j).hi s.da⟩ (by rw[ew];show (⟨(aW D j).1,dw (aW D j).2 s.da⟩:Rg)=⟨bJ (aW D j).1 0,dw (aW D j).2 s.da⟩;unfold bJ;rw[if_neg (by omega)])
    refine⟨g1,?_⟩
    rw[g2]
    simp
   ·by_cases s7:s.pe=(ao l q).bo
    ·have xU:(s.pe==(ao l q).bo)=true:=by rw[beq_iff_eq];exact s7
     rw[Vq e1 EV xU]
     have hf:gz (aq l k) D s=kh D j ⟨s.da+1,100000⟩:=by unfold gz;rw[hw,if_neg oW,if_pos s7];exact if_pos cf
     have hm:fb (aq l k) s=true:=by unfold fb;rw[hw,if_neg oW,if_pos s7];simp
     rw[hf,hm]
     obtain⟨g1,g2⟩:=Jk h hj ⟨s.da+1,100000⟩ ⟨bJ (fj d j).lo (s.da+1),(fj d j).hi⟩ (by rw[ew];show (⟨bJ (aW D j).1 (s.da+1),(aW D j).2⟩:Rg)=⟨bJ (aW D j).1 (s.da+1),dw (aW D j).2 100000⟩;unfold dw;rw[if_neg (by omega)])
     refine⟨g1,?_⟩
     rw[g2]
     simp
    ·have xU:(s.pe==(ao l q).bo)=false:=by rw[beq_eq_false_iff_ne];exact s7
     rw[Vp e1 EV xU (by rw[beq_eq_false_iff_ne];exact oW)]
     have hf:gz (aq l k) D s=D:=by unfold gz;rw[hw,if_neg oW,if_neg s7];rfl
     have hm:fb (aq l k) s=false:=by unfold fb;rw[hw,if_neg oW,if_neg s7];rfl
     rw[hf,hm]
     exact⟨h,by simp⟩
theorem IK(l:Led)(k:Int):∀ n,n<=l.ss.length->(wM (aV l k) n).map (fun i=>gE l i.toNat)=(l.ss.take n).filter fun s=>bI s.kn s.un k
 | 0,_=>rfl
 |n+1,hn=>by
  rw[wM,List.take_add_one,List.getElem?_eq_getElem (by omega),List.filter_append,<-IK l k n (by omega)]
  have e:gE (aV l k).l n=l.ss[n]'(by omega):=IA (l:=l) (by omega)
  rw[e]
  show (if bI _ _ k=true then _ else _:List Int).map _=_
  by_cases hc:bI (l.ss[n]'(by omega)).kn (l.ss[n]'(by omega)).un k=true
  ·rw[if_pos hc,List.map_append]
   simp only[Option.toList,List.filter_cons,hc,if_true,List.filter_nil,List.map_cons,List.map_nil,Int.toNat_natCast,IA (show n<l.ss.length by omega)]
  ·rw[if_neg hc]
   simp[hc]
theorem Sp(l:Led)(k:Int):(wN l k).map (fun i=>gE l i.toNat)=fK l k:=by
 unfold wN fK
 rw[IK l k _ (Nat.le_refl _),List.take_length]
theorem Pf{l:Led}(aa:bA l){k:Int}(h0:fV (aV l k)=none){D0:Ds}(hD:D0=(aq l k).ds)(hr:Rel l k (ub (aV l k) l.ts.length) D0)(hf:pn l k D0)(is:List Int):∀ m,m<=is.length->
 Rel l k (qp (aV l k) is m).1 (dQ (aq l k) D0 ((is.take m).map fun i=>gE l i.toNat))/\
  ((qp (aV l k) is m).2=true↔(((is.take m).map fun i=>gE l i.toNat).all (fb (aq l k))=true/\pn l k (dQ (aq l k) D0 ((is.take m).map fun i=>gE l i.toNat))))
 | 0,_=>⟨hr,⟨fun _=>⟨rfl,hf⟩,fun _=>rfl⟩⟩
 |m+1,hm=>by
  obtain⟨i1,i2⟩:=Pf aa h0 hD hr hf is m (by omega)
  have e:(is.take (m+1)).map (fun i=>gE l i.toNat)=(is.take m).map (fun i=>gE l i.toNat)++[gE l (is.getD m 0).toNat]:=by
   rw[Gp (by omega),List.map_append];rfl
  rw[e,List.all_append,qp]
  have e2:dQ (aq l k) D0 ((is.take m).map (fun i=>gE l i.toNat)++[gE l (is.getD m 0).toNat])=gz (aq l k) (dQ (aq l k) D0 ((is.take m).map fun i=>gE l i.toNat)) (gE l (is.getD m 0).toNat):=by
   unfold dQ
   rw[List.foldl_append];rfl
  rw[e2]
  obtain⟨s1,s2⟩:=Vm aa h0 i1 (gE l (is.getD m 0).toNat)
  refine⟨s1,?_⟩
  show ((qp (aV l k) is m).2&&(kf (aV l k) (qp (aV l k) is m).1 (gE l (is.getD m 0).toNat)).2)=true↔_
  rw[Bool.and_eq_true,i2,Bool.and_eq_true]
  simp only[List.all_cons,List.all_nil,Bool.and_true]
  constructor
  ·rintro⟨⟨a,b⟩,c⟩
   obtain⟨d1,d2⟩:=s2.1 ⟨c,b⟩
   exact⟨⟨a,d1⟩,d2⟩
  ·rintro⟨⟨a,b⟩,c⟩
   obtain⟨d1,d2⟩:=s2.2 ⟨b,c⟩
   exact⟨⟨a,d2⟩,d1⟩
theorem ZH(b h da:Int)(os:List Rec)(h1:b<=h)(h2:∀ o∈os,o.da>da->b<=o.da):b<=mR h da os:=by
 induction os generalizing h with
 |nil=>exact h1
 |cons o r ih=>
  show b<=mR (if o.da>da then dw h o.da else h) da r
  refine ih _ ?_ fun o' h'=>h2 o' (by simp[h'])
  split
  ·rename_i hc
   have :=h2 o (by simp) hc
   unfold dw
   split<;>omega
  ·exact h1
theorem ZG(h da:Int)(os:List Rec):mR h da os<=h:=by
 induction os generalizing h with
 |nil=>exact Int.le_refl _
 |cons o r ih=>
  show mR (if o.da>da then dw h o.da else h) da r<=h
  refine Int.le_trans (ih _) ?_
  split
  ·unfold dw;split<;>omega
  ·exact Int.le_refl _
theorem GK{l:Led}(aa:bA l){k:Int}{j:Nat}(h:im l k j):∃ q,∃ hq:q<l.rs.length,cg l (aG l j).re k=(q:Int)/\jj (aG l j).re k (ao l q)=true/\
 aW (aq l k).ds j=(mY (aG l j) (ao l q),mR (aG l j).hi (ao l q).da (dA (bn l k) (ao l q).pa (aG l j).lv)):=by
 obtain⟨eE,jk⟩:=wF l k h
 obtain⟨q,hq,hx,hr⟩:=Il jk
 refine⟨q,hq,hx,by rw[cm hq];exact hr,?_⟩
 have e:=P2 aa k h
 unfold yH at e
 rw[if_pos (show (aV l k).ts.getD j false=true from h)]at e
 have e':(⟨mY (aG l j) (ao l (cg l (aG l j).re k).toNat),ue (aV l k) (ao l (cg l (aG l j).re k).toNat) (aG l j) l.rs.length⟩:Rg)=⟨(aW (aq l k).ds j).1,(aW (aq l k).ds j).2⟩:=e
 rw[hx,Int.toNat_natCast,P7]at e'
 injection e' with a b
 exact Prod.ext a.symm b.symm
theorem acq{l:Led}(aa:bA l)(k:Int):Rel l k (ub (aV l k) l.ts.length) (aq l k).ds:=by
 refine⟨acf _ _,fun j hj=>?_⟩
 have iz:=wD hj
 obtain⟨q,hq,-,-,hd⟩:=GK aa hj
 refine⟨?_,?_,?_⟩
 ·have:fj (ub (aV l k) l.ts.length) j=yH (aV l k) j:=by
    unfold fj ub
    rw[List.getD_eq_getElem?_getD,List.getElem?_map,List.getElem?_range iz];rfl
  rw[this]
  exact P2 aa k hj
 ·rw[hd]
  have :0<=(ao l q).da:=by rw[cm hq];exact(zX aa (List.getElem_mem hq)).1
  show 0<=bJ _ _
  unfold bJ;split<;>omega
 ·rw[hd]
  refine Int.le_trans (ZG _ _ _) ?_
  have e:aG l j=l.ts[j]:=cj iz
  have :=ni aa.ts iz
  unfold j9 dayB bO at this
  simp only[Bool.and_eq_true,decide_eq_true_eq]at this
  rw[e]
  exact this.1.2.2
theorem Qc{l:Led}(aa:bA l){k:Int}(h0:fV (aV l k)=none):pn l k (aq l k).ds:=by
 intro j hj
 obtain⟨q,hq,hx,hr,hd⟩:=GK aa hj
 obtain⟨eE,jk⟩:=wF l k hj
 rw[hd]
 unfold gD at jk
 rw[if_neg (by rw[hx];omega),hx,Int.toNat_natCast]at jk
 simp only[Bool.and_eq_true,Bool.not_eq_true',decide_eq_false_iff_not,List.all_eq_true]at jk
 obtain⟨⟨-,ah2⟩,kZ⟩:=jk
 refine ZH _ _ _ _ (by omega) fun o ho vK=>?_
 unfold dA bn at ho
 simp only[List.mem_filter]at ho
 obtain⟨⟨Ny,xQ⟩,oh⟩:=ho
 obtain⟨m,hm,rfl⟩:=List.getElem_of_mem Ny
 rw[<-cm hm]at xQ oh vK |-
 unfold gx at oh
 rw[Hy]at oh
 simp only[Bool.and_eq_true,List.any_eq_true,beq_iff_eq]at oh
 obtain⟨n9,f,N1,FP⟩:=oh
 have A1:=kZ f N1
 unfold oR at A1
 simp only[Bool.and_eq_true,List.contains_iff_mem]at A1
 unfold jj at hr
 simp only[Bool.and_eq_true,beq_iff_eq]at hr
 have aF:m≠q:=fun e=>by subst e;omega
 have om:lr (aV l k) q m=false:=by
  rcases Nat.lt_or_gt_of_ne aF with ab | NZ
  ·have:=(BB _).1 h0 m hm q ab hq
   rw[GS,if_pos (show (ao l m).da>(ao l q).da from vK)]at this
   exact this
  ·have:=(BB _).1 h0 q hq m NZ hm
   rw[GS,if_neg (show ¬ (ao l q).da>(ao l m).da by omega)]at this
   exact this
 unfold lr at om
 have h3:=List.any_eq_false.1 om f A1.1
 unfold v5 at h3
 have h4:dq (aV l k) q f=(j:Int):=by
  rw[wR]
  have :=(j5 l k).bk2 j hj f N1
  rw[<-hr.1]at this
  show (bu (aC l k l.ts.length).bk ((ao l q).so,f)).getD (-1)=_
  rw[this];rfl
 rw[h4]at h3
 have e1:dR (aV l k).k ⟨(ao (aV l k).l q).pa,f⟩ (ao (aV l k).l q)=true:=Kj hr.2 A1.1
 have e2:dR (aV l k).k ⟨(ao (aV l k).l q).pa,f⟩ (ao (aV l k).l m)=true:=by
  show dR k ⟨(ao l q).pa,f⟩ (ao l m)=true
  unfold dR
  simp[xQ,n9,List.contains_iff_mem.1 FP]
 rw[e1,e2,Int.toNat_natCast]at h3
 simp only[Bool.true_and,Bool.or_eq_true,decide_eq_true_eq,not_or]at h3
 exact Int.not_lt.1 h3.2
theorem Pg{l:Led}(aa:bA l){k:Int}(h0:fV (aV l k)=none):Rel l k (rN l k).1 (ba (aq l k) k).ds/\(rN l k).2=fE (aq l k) (fK l k):=by
 have h:=Pf aa h0 rfl (acq aa k) (Qc aa h0) (wN l k) _ (Nat.le_refl _)
 rw[List.take_length,Sp]at h
 have hs:(ba (aq l k) k).ds=dQ (aq l k) (aq l k).ds (fK l k):=by
  unfold ba;rw[pK]
 rw[hs]
 refine⟨h.1,?_⟩
 rw[Bool.eq_iff_iff]
 unfold fE
 rw[Bool.and_eq_true,Gu]
 exact h.2
theorem CM{l:Led}(aa:bA l)(k:Int):sj l k=eS l k:=by
 unfold sj eS
 rw[pK]
 cases hp:eJ (aq l k)with
 |none=>
  have h0:=(JR l k).1 hp
  rw[h0,(Pg aa h0).2]
  cases fE (aq l k) (fK l k)<;>rfl
 |some p=>
  have h0:fV (aV l k)≠none:=fun h=>by rw[(JR l k).2 h]at hp;cases hp
  have :(fV (aV l k)).isSome=true:=by rw[Option.isSome_iff_ne_none];exact h0
  rw[this]
  rfl
theorem Se{l:Led}(aa:bA l){k:Int}(h:eS l k=0):fV (aV l k)=none/\IF l k={ aV l k with ds:=(rN l k).1 }/\Rel l k (rN l k).1 (ba (aq l k) k).ds/\pn l k (ba (aq l k) k).ds:=by
 have hs:sj l k=0:=by rw[CM aa];exact h
 have h0:fV (aV l k)=none:=by
  unfold sj at hs
  split at hs
  ·cases hs
  ·rename_i hn
   simpa using hn
 have hd:(rN l k).2=true:=by
  unfold sj at hs
  rw[h0]at hs
  cases hb:(rN l k).2 with
  |true=>rfl
  |false=>rw[hb]at hs;cases hs
 obtain⟨h1,h2⟩:=Pg aa h0
 refine⟨h0,by unfold IF;rw[if_pos hs],h1,?_⟩
 rw[h2]at hd
 unfold fE at hd
 rw[Bool.and_eq_true,Gu]at hd
 have e:(ba (aq l k) k).ds=dQ (aq l k) (aq l k).ds (fK l k):=by
  unfold ba;rw[pK]
 rw[e];exact hd.2
noncomputable section
def adL:List (Nat×Spec):=[]
attribute [go_sem] adL
def adK:List (Nat×Spec):=[(71,Cg)]
attribute [go_sem] adK
def adJ:List (Nat×Spec):=[(73,wq)]
attribute [go_sem] adJ
end
noncomputable section
def K76:List (Nat×Spec):=[]
attribute [go_sem] K76
end
noncomputable section
def K77:List (Nat×Spec):=[(75,oF),(121,S121),(122,S122)]
attribute [go_sem] K77
end
noncomputable section
def K78:List (Nat×Spec):=[(70,yX),(73,wq)]
attribute [go_sem] K78
end
def jH{α:Type}(p:α->α->Bool):List α->Option (α×α)
 |[]=>none
 |a::r=>match r.find? (p a)with
  |some b=>some (a,b)
  |none=>jH p r
theorem Dp{α:Type}{p:α->α->Bool}:∀ {L:List α},jH p L=none->∀ i j (hi:i<L.length) (hj:j<L.length),i<j->p L[i] L[j]=false
 |[],_,i,j,hi,_,_=>absurd hi (Nat.not_lt_zero i)
 |a::r,h,i,j,hi,hj,bF=>by
  rw[jH]at h
  split at h
  ·cases h
  ·rename_i hf
   rw[List.find?_eq_none]at hf
   match i,j,bF with
   | 0,j+1,_=>
     have :=hf (r[j]'(by simpa using hj)) (List.getElem_mem _)
     simpa using this
   |i+1,j+1,bF=>exact Dp h i j (by simpa using hi) (by simpa using hj) (by omega)
theorem zN{α:Type}{p:α->α->Bool}:∀ {L:List α} {q:α×α},jH p L=some q->∃ i j,∃ (hi:i<L.length) (hj:j<L.length),i<j/\q=(L[i],L[j])/\p L[i] L[j]=true/\
 (∀ m (hm:m<L.length),i<m->m<j->p L[i] L[m]=false)/\∀ a (ha:a<L.length),a<i->∀ m (hm:m<L.length),a<m->p L[a] L[m]=false
 |[],q,h=>by cases h
 |a::r,q,h=>by
  rw[jH]at h
  split at h
  ·rename_i b hf
   cases h
   obtain⟨hp,j,hj,rfl,hn⟩:=List.find?_eq_some_iff_getElem.1 hf
   refine⟨0,j+1,by simp,by simpa using hj,by omega,rfl,hp,fun m hm h1 h2=>?_,fun a ha h=>by omega⟩
   obtain⟨m,rfl⟩:∃ m',m=m'+1:=⟨m-1,by omega⟩
   have :=hn m (by omega)
   simpa using this
  ·rename_i hf
   rw[List.find?_eq_none]at hf
   obtain⟨i,j,hi,hj,bF,hq,hp,h1,h2⟩:=zN h
   refine⟨i+1,j+1,by simpa using hi,by simpa using hj,by omega,hq,hp,fun m hm h3 h4=>?_,fun a' ha h3 m hm h4=>?_⟩
   ·obtain⟨m,rfl⟩:∃ m',m=m'+1:=⟨m-1,by omega⟩
    exact h1 m (by simpa using hm) (by omega) (by omega)
   ·obtain⟨m,rfl⟩:∃ m',m=m'+1:=⟨m-1,by omega⟩
    match a',ha,h3,h4 with
    | 0,_,_,_=>
      have :=hf (r[m]'(by simpa using hm)) (List.getElem_mem _)
      simpa using this
    |a'+1,ha,h3,h4=>exact h2 a' (by simpa using ha) (by omega) m (by simpa using hm) (by omega)
theorem JK{α:Type}{p:α->α->Bool}{c:α->Bool}:∀ L:List α,jH p (L.filter c)=jH (fun a b=>c a&&(c b&&p a b)) L
 |[]=>rfl
 |a::r=>by
  have ih:=JK (p:=p) (c:=c) r
  by_cases hc:c a=true
  ·rw[List.filter_cons,if_pos hc,jH,jH,List.find?_filter,ih]
   have e:(fun b=>decide (c b=true/\p a b=true))=fun b=>c a&&(c b&&p a b):=by
    funext b
    rw[hc,Bool.true_and]
    cases c b<;>cases p a b<;>rfl
   rw[e]
  ·have iA:c a=false:=by simpa using hc
   rw[List.filter_cons,if_neg hc,ih,jH]
   have e:r.find? (fun b=>c a&&(c b&&p a b))=none:=by
    rw[List.find?_eq_none]
    intro b _
    rw[iA];simp
   rw[e]
theorem zP(x:Vw):eJ x=(jH (gB x) x.rs).map fun q=>(q.1.so,q.2.so):=by
 cases h:jH (gB x) x.rs with
 |none=>
  refine Du fun i hi=>zQ hi fun m hm=>?_
  rw[List.length_drop]at hm
  rw[List.getElem_drop]
  exact Dp h i (i+1+m) hi (by omega) (by omega)
 |some q=>
  obtain⟨i,j,hi,hj,bF,rfl,hp,h1,h2⟩:=zN h
  have ZC:j-(i+1)<(x.rs.drop (i+1)).length:=by rw[List.length_drop];omega
  have ej:(x.rs.drop (i+1))[j-(i+1)]=x.rs[j]:=by rw[List.getElem_drop];congr 1;omega
  show eJ x=some (x.rs[i].so,x.rs[j].so)
  rw[<-ej]
  refine JS hi (fun a ha=>zQ (by omega) fun m hm=>?_) (JT hi ZC (fun m hm mO=>?_) (by rw[ej];exact hp))
  ·rw[List.length_drop]at hm
   rw[List.getElem_drop]
   exact h2 a (by omega) ha (a+1+m) (by omega) (by omega)
  ·rw[List.length_drop]at hm
   rw[List.getElem_drop]
   exact h1 (i+1+m) (by omega) (by omega) (by omega)
theorem abu(l:Led)(k:Int):fV (aV l k)=(jH (fun a b=>bI a.kn a.un k&&(bI b.kn b.un k&&gB (aq l k) a b)) l.rs).map fun q=>(q.1.so,q.2.so):=by
 have hQ:∀ i j (hi:i<l.rs.length) (hj:j<l.rs.length),iY (aV l k) i j=(bI l.rs[i].kn l.rs[i].un k&&(bI l.rs[j].kn l.rs[j].un k&&gB (aq l k) l.rs[i] l.rs[j])):=fun i j hi hj=>by
  rw[<-cm hi,<-cm hj]
  by_cases c1:bI (ao l i).kn (ao l i).un k=true
  ·by_cases c2:bI (ao l j).kn (ao l j).un k=true
   ·rw[GU c1 c2,c1,c2];rfl
   ·have:iY (aV l k) i j=false:=by
      rw[Bool.eq_false_iff];exact fun h=>c2 (GV h).2
    rw[this]
    have c2':bI (ao l j).kn (ao l j).un k=false:=by simpa using c2
    rw[c2'];simp
  ·have:iY (aV l k) i j=false:=by
     rw[Bool.eq_false_iff];exact fun h=>c1 (GV h).1
   rw[this]
   have c1':bI (ao l i).kn (ao l i).un k=false:=by simpa using c1
   rw[c1'];rfl
 cases h:jH (fun a b=>bI a.kn a.un k&&(bI b.kn b.un k&&gB (aq l k) a b)) l.rs with
 |none=>
  refine Pz fun a ha m h1 h2=>?_
  have yl:a<l.rs.length:=ha
  have ql:m<l.rs.length:=h2
  rw[hQ a m yl ql]
  exact Dp h a m yl ql h1
 |some q=>
  obtain⟨i,j,hi,hj,bF,rfl,hp,h1,h2⟩:=zN h
  have :=abt (x:=aV l k) (i:=i) (j:=j) hi bF hj (by rw[hQ i j hi hj];exact hp) (fun m h3 h4=>by rw[hQ i m hi (by omega)];exact h1 m (by omega) h3 h4)
   (fun a ha m h3 h4=>by
     have Be:m<l.rs.length:=h4
     rw[hQ a m (by omega) Be];exact h2 a (by omega) ha m Be h3)
  rw[this]
  show some ((ao l i).so,(ao l j).so)=_
  rw[cm hi,cm hj];rfl
theorem UL(l:Led)(k:Int):eJ (aq l k)=fV (aV l k):=by
 rw[zP,abu,vm]
 unfold bn
 rw[JK]
theorem Iq{l:Led}{k:Int}{s:Nat}:∀ n,s<n->n<=l.ts.length->(bm l k n).getD s false=gD l k (bm l k s) s
 | 0,h,_=>absurd h (Nat.not_lt_zero s)
 |n+1,h,hn=>by
  rw[Io l k (by omega)]
  by_cases hs:s=n
  ·subst hs;rw[if_pos rfl]
  ·rw[if_neg hs];exact Iq n (by omega) (by omega)
noncomputable section
def K53:List (Nat×Spec):=[(71,Cg)]
attribute [go_sem] K53
end
noncomputable section
def K55:List (Nat×Spec):=[(15,ph)]
attribute [go_sem] K55
def adW:List (Nat×Spec):=[]
attribute [go_sem] adW
end
noncomputable section
def K56:List (Nat×Spec):=[(84,Cf)]
attribute [go_sem] K56
end
noncomputable section
def K57:List (Nat×Spec):=[(70,yX),(103,wt)]
attribute [go_sem] K57
end
theorem acF(l:Led)(ds:List Int):Hr l ds=cU l ds:=by
 unfold Hr cU kE
 cases h:xa l with
 |false=>rfl
 |true=>
  have h0:(true=false)=False:=by simp
  rw[if_neg (by decide),if_pos (show ib true 24=0 from rfl)]
  have :(!ds.any fun d=>!dayB d)=ds.all dayB:=by
   rw[List.not_any_eq_all_not]
   simp
  rw[this]
  unfold ib
  rfl
theorem ID{l:Led}{k:Int}:kM l k=true↔eS l k=0:=by
 cases h:kM l k with
 |true=>exact⟨fun _=>(wJ h).2.2,fun _=>rfl⟩
 |false=>
  refine⟨fun h=>(by cases h),fun h2=>?_⟩
  have :=(wK h).2.2
  rw[h2]at this
  cases this
theorem RZ{l:Led}(h:bA l){i j:Nat}(hi:i<l.ts.length)(hj:j<l.ts.length)(e:(aG l i).so=(aG l j).so):i=j:=by
 have hs:srt Ret.so l.ts:=w9 (kH.1 h.ts)
 have e1:aG l i=l.ts[i]:=cj hi
 have e2:aG l j=l.ts[j]:=cj hj
 rw[e1,e2]at e
 rcases Nat.lt_trichotomy i j with h1 | h1 | h1
 ·have:=hs i j hi hj h1;omega
 ·exact h1
 ·have:=hs j i hj hi h1;omega
set_option maxHeartbeats 8000000
noncomputable section
def pw(l:Led)(k:Int)(ds:List Int)(i:Int):Bool:=bO (ds.getD i.toNat 0) (aW (ba (aq l k) k).ds i).1 (aW (ba (aq l k) k).ds i).2
def gq(l:Led)(k:Int)(ds:List Int):Bool:=kM l k&&(decide (ds.length=l.ts.length)&&(ds.all dayB&&(ba (aq l k) k).ts.all (pw l k ds)))
theorem JU:pG (185,[])=fun n=>!dayB n:=rfl
theorem Kf:xb (185,[]):=.inr (.inl rfl)
theorem R'(l:Led)(k:Int):(ba (aq l k) k).l=l:=pK l k
def K60:List (Nat×Spec):=[(78,S78),(160,S160),(96,uo)]
theorem adV:KS K60:=tc Aj<|tc Et<|tc sk.sound<|tn
attribute [go_sem] K60
@[go_sem] def P118:PSpec:=p3 lS iI dL (fun l _ _=>bA l) (fun l k az=>.bool (gq l k az)) true
@[go_sem] def Ra:Spec:=P118.toSpec
theorem I5:aU Tryz.prog 118 P118:=by
 refine mq (rs:=[.tmp 6]) Tryz.func118 Tryz.ntmps118 fun l k az hp hw=>?_
 have hP:=eK
 simp only[iI,dL,lS,gk]at hw |-
 have hΓ:=adV
 repeat refine sq ?_
 refine rx hΓ [0,1,2] [] (fun K' hK=>by simp only[go_sem];exact ak) ?_
 rcases lU:kM l k with _ | _
 ·obtain⟨q1,q2,q3⟩:=wK lU
  have e:gq l k az=false:=by unfold gq;rw[lU];rfl
  repeat refine sq ?_
  refine rx hΓ [0,2,7,8] [[26,0,11,0,11,0,14,0],[23,0,11,0,11,0,14,0],[24,0,11,0,11,0,14,0]] (fun K' hK=>by simp only[go_sem,q1,q2,q3];(repeat (refine⟨by first | exact an | exact hp,?_⟩));exact fD) ?_
  repeat refine sq ?_
  refine rx hΓ [2,7,32] [[26,0,11,0,11,0,14,0],[23,0,11,0,11,0,14,0],[24,0,11,0,11,0,14,0]] (fun K' hK=>by simp only[go_sem,q1,q2,q3,Kf,JU,List.length_map];exact ak) ?_
  repeat refine sq ?_
  refine ay (fun hb=>?_) fun hb=>?_
  ·repeat refine sq ?_
   refine rx hΓ [6] [] (fun K' hK=>by simp only[go_sem,q1,q2,q3];exact ak) ?_
   refine aA ?_
   simp only[go_sem]
   rw[e]
  ·cases hb
 ·obtain⟨q1,q2,q3⟩:=wJ lU
  obtain⟨hv,bZ⟩:=zu hp k
  repeat refine sq ?_
  refine rx hΓ [0,2,7,8] [[26,0,11,0,11,0,14,0],[23,0,11,0,11,0,14,0],[24,0,11,0,11,0,14,0]] (fun K' hK=>by simp only[go_sem,q1,q2];(repeat (refine⟨by first | exact an | exact hp,?_⟩));exact fD) ?_
  repeat refine sq ?_
  refine rx hΓ [2,7,32] [[26,0,11,0,11,0,14,0],[23,0,11,0,11,0,14,0],[24,0,11,0,11,0,14,0]] (fun K' hK=>by simp only[go_sem,q1,q2,Kf,JU,List.length_map];exact ak) ?_
  repeat refine sq ?_
  refine ay (fun hb=>?_) fun hb=>?_
  ·repeat refine sq ?_
   have e:gq l k az=false:=by
    have dn:(!decide (az.length=l.ts.length)||az.any fun n=>!dayB n)=true:=by
     rw[Bool.or_eq_true]at hb |-
     refine hb.imp (fun h=>?_) id
     simp at h |-
     omega
    unfold gq
    cases h1:decide (az.length=l.ts.length)with
    |false=>simp
    |true=>
     rw[h1]at dn
     have h2:az.all dayB=false:=by
      rw[List.all_eq_false]
      obtain⟨n,hn,hd⟩:=List.any_eq_true.1 (show (az.any fun n=>!dayB n)=true from dn)
      exact⟨n,hn,by simpa using hd⟩
     rw[h2];simp
   repeat refine sq ?_
   refine rx hΓ [6] [] (fun K' hK=>by simp only[go_sem,q1,q2];exact ak) ?_
   refine aA ?_
   simp only[go_sem]
   rw[e]
  ·repeat refine sq ?_
   have AQ:az.length=l.ts.length:=by
    rw[Bool.or_eq_false_iff]at hb
    have :=hb.1
    simp at this
    omega
   have hdz:az.all dayB=true:=by
    rw[Bool.or_eq_false_iff]at hb
    rw[List.all_eq_true]
    intro n hn
    have :=List.any_eq_false.1 hb.2 n hn
    simpa using this
   have AB:=hv.tn
   have hl:(ba (aq l k) k).ts.length<=maxLen:=by unfold maxLen;omega
   refine aE ?_
   repeat refine sq ?_
   refine rx hΓ [2,7,36,37,38] [[26,0,11,0,11,0,14,0],[23,0,11,0,11,0,14,0],[24,0,11,0,11,0,14,0]] (fun K' hK=>by simp only[go_sem,q1,q2];exact ak) ?_
   repeat refine sq ?_
   refine aN ?_
   repeat refine sq ?_
   refine cB (fun s:Nat=>[(38,⟨true,.v (vInt s)⟩)]) (fun s=>[]) (fun s=>s<=(ba (aq l k) k).ts.length/\∀ m (hm:m<(ba (aq l k) k).ts.length),m<s->pw l k az (ba (aq l k) k).ts[m]=true) (fun s=>(ba (aq l k) k).ts.length-s) 0 ?_ ?_ ?_ ?_
   ·exact⟨Nat.zero_le _,fun m _ h=>by omega⟩
   ·rfl
   ·rfl
   rintro i ⟨hi,hR⟩
   simp only[go_sem]
   repeat refine sq ?_
   refine rx hΓ [2,7,36,37,38,39] [[26,0,11,0,11,0,14,0],[23,0,11,0,11,0,14,0],[24,0,11,0,11,0,14,0]] (fun K' hK=>by simp only[go_sem,q1,q2];exact ak) ?_
   repeat refine sq ?_
   refine ay (fun hb=>?_) fun hb=>?_
   ·have ab:i<(ba (aq l k) k).ts.length:=by simpa using hb
    have au:(i:Int)<(ba (aq l k) k).ts.length:=by omega
    clear hb
    obtain⟨cf,ff⟩:=hv.ts _ (List.getElem_mem ab)
    rw[R',<-AQ]at ff
    have la:(az.map vInt).getD ((ba (aq l k) k).ts[i]).toNat default=vInt (az.getD ((ba (aq l k) k).ts[i]).toNat 0):=by
     have :((ba (aq l k) k).ts[i]).toNat<az.length:=by omega
     rw[ah this,cj this]
    repeat refine sq ?_
    refine aE ?_
    repeat refine sq ?_
    refine aN ?_
    repeat refine sq ?_
    refine rx hΓ [2,7,10,36,37,38] [[26,0,11,0,11,0,14,0],[23,0,11,0,11,0,14,0],[24,0,11,0,11,0,14,0]] (fun K' hK=>by simp only[go_sem,q1,q2,ah ab,ai,aj,au];exact ak) ?_
    repeat refine sq ?_
    refine dx hΓ hP [[],[],[0,1],[0,1,2],[],[4],[4,5],[4,5,6],[],[4,5,6,7,8],[4,5,6,7,8,9],[],[11],[11,12],[11,12,13],[],[11,12,13,14,15],[11,12,13,14,15,16],gS,kK] [2,7,36,37,38,61] [[26,0,11,0,11,0,14,0],[23,0,11,0,11,0,14,0],[24,0,11,0,11,0,14,0]] (by kernel_rfl) (fun K' hK=>by simp only[go_sem,q1,q2,ah ab,ai,aj,au,la,cf,ff,fY,List.length_map];exact fF) ?_
    repeat refine sq ?_
    refine ay (fun hb=>?_) fun hb=>?_
    ·repeat refine sq ?_
     have e:gq l k az=false:=by
      have h1:pw l k az (ba (aq l k) k).ts[i]=false:=by unfold pw;simpa using hb
      have h2:(ba (aq l k) k).ts.all (pw l k az)=false:=List.all_eq_false.2 ⟨_,List.getElem_mem ab,by rw[h1];decide⟩
      unfold gq;rw[h2];simp
     repeat refine sq ?_
     refine rx hΓ [6] [] (fun K' hK=>by simp only[go_sem,q1,q2,ah ab,ai,aj,au];exact ak) ?_
     refine aA ?_
     simp only[go_sem]
     rw[e]
    ·repeat refine sq ?_
     refine aE ?_
     refine bQ ?_
     simp only[go_sem]
     refine kp [2,7,36,37,38] [[26,0,11,0,11,0,14,0],[23,0,11,0,11,0,14,0],[24,0,11,0,11,0,14,0]] ?_
     repeat refine sq ?_
     refine aP hΓ fun K' hK=>?_
     simp only[go_sem,q1,q2,ah ab,ai,aj,au]
     repeat (refine⟨an,?_⟩)
     refine hK _ ?_
     clear K' hK
     simp only[go_sem]
     refine⟨i+1,⟨ab,?_⟩,by(show (ba (aq l k) k).ts.length-(i+1)<(ba (aq l k) k).ts.length-i;omega),?_⟩
     ·intro m hm Fq
      rcases Nat.lt_succ_iff_lt_or_eq.1 Fq with h5 | rfl
      ·exact hR m hm h5
      ·unfold pw;simpa using hb
     refine bd [2,7,36,37,38] [[26,0,11,0,11,0,14,0],[23,0,11,0,11,0,14,0],[24,0,11,0,11,0,14,0]] ?_ ?_<;>simp only[go_sem,a7 ab hl,bb]
   ·have bB:i=(ba (aq l k) k).ts.length:=by
     have :¬ (i:Int)<(ba (aq l k) k).ts.length:=by simpa using hb
     omega
    clear hb
    subst bB
    repeat refine sq ?_
    refine bT ?_
    simp only[go_sem]
    refine kp [] [] ?_
    repeat refine sq ?_
    refine rx hΓ [6] [] (fun K' hK=>by simp only[go_sem,q1,q2];exact ak) ?_
    refine aA ?_
    simp only[go_sem]
    have e:gq l k az=true:=by
     have h2:(ba (aq l k) k).ts.all (pw l k az)=true:=List.all_eq_true.2 fun x hx=>by obtain⟨m,hm,rfl⟩:=List.getElem_of_mem hx;exact hR m hm hm
     unfold gq;rw[lU,hdz,h2,AQ];simp
    rw[e]
def rS(l:Led)(k:Int)(az:List Int):Int:=if cU l [k]=0 then ib (gq l k az) 29 else cU l [k]
def K60b:List (Nat×Spec):=[(75,oF),(118,Ra)]
theorem adU:KS K60b:=tc wO.sound<|tc I5.sound<|tn
attribute [go_sem] K60b
@[go_sem] def P38:PSpec:=p3 iL iI dL (fun _ _ _=>True) (fun l k az=>vInt (rS l k az)) true
@[go_sem] def QZ:Spec:=P38.toSpec
theorem Tb:aU Tryz.prog 38 P38:=by
 refine mq (rs:=[.tmp 6]) Tryz.func38 Tryz.ntmps38 fun l k az hp hw=>?_
 simp only[iI,dL,iL,ft]at hw |-
 have hΓ:=adU
 repeat refine sq ?_
 refine rx hΓ [1,2,3] [[3,0]] (fun K' hK=>by simp only[go_sem];exact ak) ?_
 refine bD (dd 3 (.ref [3,0] 0) (by simp only[go_sem]) (by simp only[go_sem]) [1,2,3] [[3,0]] ?_ rfl) ?_
 ·simp only[go_sem]
 simp only[go_sem]
 repeat refine sq ?_
 refine rx hΓ [1,2,3,7] [[3,0]] (fun K' hK=>by simp only[go_sem];exact ak) ?_
 repeat refine sq ?_
 refine rx hΓ [1,2,3,7,13] [[3,0]] (fun K' hK=>by simp only[go_sem];exact ak) ?_
 repeat refine sq ?_
 refine ay (fun hb=>?_) fun hb=>?_
 ·repeat refine sq ?_
  have hc:¬ cU l [k]=0:=by simpa using hb
  unfold rS;rw[if_neg hc]
  repeat refine sq ?_
  refine rx hΓ [6] [] (fun K' hK=>by simp only[go_sem];exact ak) ?_
  refine aA ?_
  simp only[go_sem]
  all_goals exact dV
 ·repeat refine sq ?_
  have hc:cU l [k]=0:=by simpa using hb
  unfold rS;rw[if_pos hc]
  obtain⟨aa,_⟩:=yz hc
  refine aE ?_
  repeat refine sq ?_
  refine rx hΓ [18] [] (fun K' hK=>by simp only[go_sem];(repeat (refine⟨by first | exact an | exact aa,?_⟩));exact fD) ?_
  repeat refine sq ?_
  refine ay (fun hb=>?_) fun hb=>?_
  ·repeat refine sq ?_
   have h:gq l k az=false:=by simpa using hb
   rw[h]
   repeat refine sq ?_
   refine rx hΓ [6] [] (fun K' hK=>by simp only[go_sem];exact ak) ?_
   refine aA ?_
   simp only[go_sem]
   all_goals exact dV
  ·repeat refine sq ?_
   have h:gq l k az=true:=by simpa using hb
   rw[h]
   refine aE ?_
   repeat refine sq ?_
   refine rx hΓ [6] [] (fun K' hK=>by simp only[go_sem];exact ak) ?_
   refine aA ?_
   simp only[go_sem]
   all_goals exact dV
end
noncomputable section
def el(x:Vw)(az:List Int)(pa day f:Int):Int:=match eR x.rs pa f day with
 |none=>0
 |some r=>match bu x.bk (r.so,f)with
  |none=>r.bo
  |some i=>if az.getD i.toNat 0>day then r.bo else 0
def fw(x:Vw)(az:List Int)(pa day:Int)(n:Nat):Nat->List Int
 | 0=>List.replicate n 0
 |m+1=>(fw x az pa day n m).set m (el x az pa day ((m+1:Nat):Int))
theorem wX(x:Vw)(az:List Int)(pa day:Int)(n m:Nat):(fw x az pa day n m).length=n:=by
 induction m with
 |zero=>simp[fw]
 |succ m ih=>rw[fw,List.length_set,ih]
theorem UI(x:Vw)(az:List Int)(pa day:Int)(n:Nat):List.replicate n (vInt 0)=(fw x az pa day n 0).map vInt:=by rw[fw,List.map_replicate]
theorem UH(x:Vw)(az:List Int)(pa day:Int)(n:Nat){m j:Nat}(h:m<=j):(fw x az pa day n m).getD j 0=0:=by
 induction m with
 |zero=>
  rw[fw,List.getD_eq_getElem?_getD,List.getElem?_replicate]
  split<;>rfl
 |succ m ih=>
  rw[fw,List.getD_eq_getElem?_getD,List.getElem?_set_ne (by omega),<-List.getD_eq_getElem?_getD]
  exact ih (by omega)
theorem UG{x:Vw}{az:List Int}{pa day:Int}{n m:Nat}(h:m<n)(h0:el x az pa day ((m+1:Nat):Int)=0):fw x az pa day n (m+1)=fw x az pa day n m:=by
 rw[fw,h0]
 have e:=UH x az pa day n (Nat.le_refl m)
 rw[List.getD_eq_getElem?_getD,List.getElem?_eq_getElem (by rw[wX];exact h)]at e
 have e':(fw x az pa day n m)[m]'(by rw[wX];exact h)=0:=e
 conv=>lhs;rw[<-e']
 exact List.set_getElem_self _
def mC(l:Led)(az:List Int)(pa day k:Int):Int:=if cU l [day,k]=0 then(if cM l.ps pa=0 then 26 else if gq l k az=true then 0 else 29)else cU l [day,k]
def nM(l:Led)(az:List Int)(pa day k:Int):List Int:=if mC l az pa day k=0 then fw (aq l k) az pa day (cM l.ps pa).toNat (cM l.ps pa).toNat else[]
theorem R0{l:Led}{k:Int}{az:List Int}(h:gq l k az=true):az.length=l.ts.length:=by
 unfold gq at h
 simp only[Bool.and_eq_true,decide_eq_true_eq]at h
 exact h.2.1
theorem IN(row:List Int)(i:Nat)(b:Int):(row.map vInt).set i (.int .i64 b)=(row.set i b).map vInt:=List.map_set.symm
def K61:List (Nat×Spec):=[(75,oF),(79,yW),(118,Ra),(76,S76),(119,S119)]
theorem adT:KS K61:=tc wO.sound<|tc CR.sound<|tc I5.sound<|tc Ep<|tc Eu<|tn
attribute [go_sem] K61
@[go_sem] def P39:PSpec:=p5 iL dL iI iI iI (fun _ _ _ _ _=>True) (fun l az pa day k=>.tup [.sl ((nM l az pa day k).map vInt),vInt (mC l az pa day k)]) false
@[go_sem] def QY:Spec:=P39.toSpec
set_option maxHeartbeats 8000000 in
theorem Ta:aU Tryz.prog 39 P39:=by
 refine w5 (rs:=[.tmp 10,.tmp 11]) Tryz.func39 Tryz.ntmps39 (by rfl) (by kernel_rfl) (by decide) (fun h=>by cases h) ⟨_,rfl,lb rfl,fun l az pa day k hp hw=>?_⟩
 have hP:=eK
 simp only[iI,dL,iL,ft]at hw |-
 have hΓ:=adT
 repeat refine sq ?_
 refine rx hΓ [1,2,3,4,5] [[5,0]] (fun K' hK=>by simp only[go_sem];exact ak) ?_
 refine bD (dd 5 (.ref [5,0] 0) (by simp only[go_sem]) (by simp only[go_sem]) [1,2,3,4,5] [[5,0]] ?_ rfl) ?_
 ·simp only[go_sem]
 simp only[go_sem]
 repeat refine sq ?_
 refine rx hΓ [1,2,3,4,5,12] [[5,0]] (fun K' hK=>by simp only[go_sem];exact ak) ?_
 repeat refine sq ?_
 refine rx hΓ [1,2,3,4,5,12,27] [[5,0]] (fun K' hK=>by simp only[go_sem];exact ak) ?_
 repeat refine sq ?_
 refine ay (fun hb=>?_) fun hb=>?_
 ·repeat refine sq ?_
  have hc:¬ cU l [day,k]=0:=by simpa using hb
  have e:mC l az pa day k=cU l [day,k]:=by unfold mC;rw[if_neg hc]
  have e2:nM l az pa day k=[]:=by unfold nM;rw[e,if_neg hc]
  repeat refine sq ?_
  refine rx hΓ [10,11] [[40,0]] (fun K' hK=>by simp only[go_sem];exact ak) ?_
  refine aA ?_
  simp only[go_sem]
  first | (rw[e,e2];done) | (rw[e,e2];rfl) | exact⟨qh.symm,by rw[e,e2]⟩ | trace_state
 ·repeat refine sq ?_
  have hc:cU l [day,k]=0:=by simpa using hb
  obtain⟨aa,_⟩:=yz hc
  have vz:=aa.srt
  refine aE ?_
  repeat refine sq ?_
  refine rx hΓ [1,2,3,4,5,13] [[5,0]] (fun K' hK=>by simp only[go_sem,vz];exact ak) ?_
  repeat refine sq ?_
  refine rx hΓ [1,2,3,4,5,13,32] [[5,0]] (fun K' hK=>by simp only[go_sem];exact ak) ?_
  repeat refine sq ?_
  refine ay (fun hb=>?_) fun hb=>?_
  ·repeat refine sq ?_
   have e:mC l az pa day k=26:=by unfold mC;rw[if_pos hc,if_pos (by simpa using hb)]
   have e2:nM l az pa day k=[]:=by unfold nM;rw[e];rfl
   repeat refine sq ?_
   refine rx hΓ [10,11] [[40,0]] (fun K' hK=>by simp only[go_sem];exact ak) ?_
   refine aA ?_
   simp only[go_sem]
   first | (rw[e,e2];done) | (rw[e,e2];rfl) | exact⟨qh.symm,by rw[e,e2]⟩ | trace_state
  ·repeat refine sq ?_
   have hz:¬ cM l.ps pa=0:=by simpa using hb
   refine aE ?_
   repeat refine sq ?_
   refine rx hΓ [1,2,3,4,5,13,36] [[5,0]] (fun K' hK=>by simp only[go_sem];(repeat (refine⟨by first | exact an | exact aa,?_⟩));exact fD) ?_
   repeat refine sq ?_
   refine ay (fun hb=>?_) fun hb=>?_
   ·repeat refine sq ?_
    have e:mC l az pa day k=29:=by unfold mC;rw[if_pos hc,if_neg hz,if_neg (by simpa using hb)]
    have e2:nM l az pa day k=[]:=by unfold nM;rw[e];rfl
    repeat refine sq ?_
    refine rx hΓ [10,11] [[40,0]] (fun K' hK=>by simp only[go_sem];exact ak) ?_
    refine aA ?_
    simp only[go_sem]
    first | (rw[e,e2];done) | (rw[e,e2];rfl) | exact⟨qh.symm,by rw[e,e2]⟩ | trace_state
   ·repeat refine sq ?_
    have xI:gq l k az=true:=by simpa using hb
    have e:mC l az pa day k=0:=by unfold mC;rw[if_pos hc,if_neg hz,if_pos xI]
    obtain⟨hv,bZ⟩:=sJ aa k
    obtain⟨NH,oY⟩:=VW aa pa
    obtain⟨nn,rA⟩:∃ nn:Nat,cM l.ps pa=nn:=⟨(cM l.ps pa).toNat,by omega⟩
    have e2:nM l az pa day k=fw (aq l k) az pa day nn nn:=by unfold nM;rw[if_pos e,rA,ai]
    have aB:nn+1<=maxLen:=by unfold maxLen;omega
    have AQ:=R0 xI
    refine aE ?_
    repeat refine sq ?_
    refine rx hΓ [1,2,3,13,14] [[26,0,38,0],[23,0,38,0],[24,0,38,0]] (fun K' hK=>by simp only[go_sem];(repeat (refine⟨by first | exact an | exact aa,?_⟩));exact fD) ?_
    repeat refine sq ?_
    refine rx hΓ [1,2,3,13,14,15] [[40,0],[26,0,38,0],[23,0,38,0],[24,0,38,0]] (fun K' hK=>by simp only[go_sem,rA,ai,UI (aq l k) az pa day nn];exact ak) ?_
    repeat refine sq ?_
    refine rx hΓ [1,2,3,13,14,15,16] [[40,0],[26,0,38,0],[23,0,38,0],[24,0,38,0]] (fun K' hK=>by simp only[go_sem];exact ak) ?_
    repeat refine sq ?_
    refine aN ?_
    repeat refine sq ?_
    refine cB (fun s:Nat=>[(16,⟨true,.v (vInt s)⟩)]) (fun s=>[([40,0],.arr 1 ((fw (aq l k) az pa day nn (s-1)).map vInt))]) (fun s=>s<=(nn+1)/\1<=s) (fun s=>(nn+1)-s) 1 ?_ ?_ ?_ ?_
    ·exact⟨by omega,Nat.le_refl 1⟩
    ·rfl
    ·rfl
    rintro i ⟨hi,hR⟩
    have qh:=wX (aq l k) az pa day nn (i-1)
    simp only[go_sem]
    repeat refine sq ?_
    refine rx hΓ [1,2,3,13,14,15,16,43] [[40,0],[26,0,38,0],[23,0,38,0],[24,0,38,0]] (fun K' hK=>by simp only[go_sem];exact ak) ?_
    repeat refine sq ?_
    refine ay (fun hb=>?_) fun hb=>?_
    ·repeat refine sq ?_
     have ab:i<nn+1:=by
      have :(i:Int)<=nn:=by simpa using hb
      omega
     have rm:IntKind.i64.wrap ((i:Int)-1)=((i-1:Nat):Int):=HZ hR hi aB
     have NS:((i-1:Nat):Int)<nn:=by omega
     have eS:el (aq l k) az pa day i=0->fw (aq l k) az pa day nn (i+1-1)=fw (aq l k) az pa day nn (i-1):=fun h=>by
      obtain⟨m,rfl⟩:∃ m,i=m+1:=⟨i-1,by omega⟩
      exact UG (by omega) h
     have eU:fw (aq l k) az pa day nn (i+1-1)=(fw (aq l k) az pa day nn (i-1)).set (i-1) (el (aq l k) az pa day i):=by
      obtain⟨m,rfl⟩:∃ m,i=m+1:=⟨i-1,by omega⟩
      rfl
     generalize hT:fw (aq l k) az pa day nn (i-1)=T at *
     refine aE ?_
     repeat refine sq ?_
     refine aN ?_
     repeat refine sq ?_
     rcases av:eR (aq l k).rs pa i day with _ | r
     rotate_left
     rcases aI:bu (aq l k).bk (r.so,(i:Int))with _ | j
     rotate_left
     rotate_left
     ·have hF:el (aq l k) az pa day i=0:=by unfold el;rw[av]
      have eT:=eS hF
      repeat refine sq ?_
      refine rx hΓ [1,2,3,13,14,15,16,17,18] [[17,0],[40,0],[26,0,38,0],[23,0,38,0],[24,0,38,0]] (fun K' hK=>by simp only[go_sem,av,bq,Option.isSome_none,ax];(repeat (refine⟨by first | exact an | exact⟨hv,bZ⟩,?_⟩));exact fD) ?_
      repeat refine sq ?_
      refine dx hΓ hP [[],[0],[0,1],[0,1,2],[],[4],[],[4,5,6],u8,u9,ca,ca,dX,gT] [1,2,3,13,14,15,16,17,18,19,20] [[17,0],[40,0],[26,0,38,0],[23,0,38,0],[24,0,38,0]] (by kernel_rfl) (fun K' hK=>by simp only[go_sem,av,bq,Option.isSome_none,ax];exact fF) ?_
      repeat refine sq ?_
      refine rx hΓ [1,2,3,13,14,15,16,17,79] [[17,0],[40,0],[26,0,38,0],[23,0,38,0],[24,0,38,0]] (fun K' hK=>by simp only[go_sem,av,bq,Option.isSome_none,ax,List.length_map];exact ak) ?_
      repeat refine sq ?_
      refine ay (fun hb=>?_) fun hb=>?_
      ·cases hb
      ·repeat refine sq ?_
       refine aE ?_
       refine bQ ?_
       simp only[go_sem]
       refine kp [1,2,3,13,14,15,16] [[40,0],[26,0,38,0],[23,0,38,0],[24,0,38,0]] ?_
       repeat refine sq ?_
       refine aP hΓ fun K' hK=>?_
       simp only[go_sem,av,bq,Option.isSome_none,ax]
       repeat (refine⟨an,?_⟩)
       refine hK _ ?_
       clear K' hK
       simp only[go_sem]
       refine⟨i+1,⟨ab,?_⟩,by(show (nn+1)-(i+1)<(nn+1)-i;omega),?_⟩
       ·omega
       refine bd [1,2,3,13,14,15,16] [[40,0],[26,0,38,0],[23,0,38,0],[24,0,38,0]] ?_ ?_<;>simp only[go_sem,a7 ab aB,bb,eT]
     ·have hF:el (aq l k) az pa day i=r.bo:=by unfold el;rw[av];simp only[aI]
      have eT:=eU
      rw[hF]at eT
      repeat refine sq ?_
      refine rx hΓ [1,2,3,13,14,15,16,17,18] [[17,0],[40,0],[26,0,38,0],[23,0,38,0],[24,0,38,0]] (fun K' hK=>by simp only[go_sem,av,aD,Option.isSome_some,ax,aI,Option.map_none,Option.isSome_none,Option.getD_none];(repeat (refine⟨by first | exact an | exact⟨hv,bZ⟩,?_⟩));exact fD) ?_
      repeat refine sq ?_
      refine dx hΓ hP [[],[0],[0,1],[0,1,2],[],[4],[],[4,5,6],u8,u9,ca,ca,dX,gT] [1,2,3,13,14,15,16,17,18,19,20] [[17,0],[40,0],[26,0,38,0],[23,0,38,0],[24,0,38,0]] (by kernel_rfl) (fun K' hK=>by simp only[go_sem,av,aD,Option.isSome_some,ax,aI,Option.map_none,Option.isSome_none,Option.getD_none];exact fF) ?_
      repeat refine sq ?_
      refine rx hΓ [1,2,3,13,14,15,16,17,79] [[17,0],[40,0],[26,0,38,0],[23,0,38,0],[24,0,38,0]] (fun K' hK=>by simp only[go_sem,av,aD,Option.isSome_some,ax,aI,Option.map_none,Option.isSome_none,Option.getD_none,List.length_map];exact ak) ?_
      repeat refine sq ?_
      refine ay (fun hb=>?_) fun hb=>?_
      ·repeat refine sq ?_
       refine aP hΓ fun K' hK=>?_
       simp only[go_sem,av,aD,Option.isSome_some,ax,aI,Option.map_none,Option.isSome_none,Option.getD_none,rm,NS,qh,IN,ai,aj,List.length_map]
       repeat (refine⟨an,?_⟩)
       refine hK _ ?_
       clear K' hK
       simp only[go_sem]
       refine kp [1,2,3,13,14,15,16] [[40,0],[26,0,38,0],[23,0,38,0],[24,0,38,0]] ?_
       repeat refine sq ?_
       refine aP hΓ fun K' hK=>?_
       simp only[go_sem,av,aD,Option.isSome_some,ax,aI,Option.map_none,Option.isSome_none,Option.getD_none]
       repeat (refine⟨an,?_⟩)
       refine hK _ ?_
       clear K' hK
       simp only[go_sem]
       refine⟨i+1,⟨ab,?_⟩,by(show (nn+1)-(i+1)<(nn+1)-i;omega),?_⟩
       ·omega
       refine bd [1,2,3,13,14,15,16] [[40,0],[26,0,38,0],[23,0,38,0],[24,0,38,0]] ?_ ?_<;>simp only[go_sem,a7 ab aB,bb,eT]
      ·cases hb
     ·have hF:el (aq l k) az pa day i=if az.getD j.toNat 0>day then r.bo else 0:=by unfold el;rw[av];simp only[aI]
      obtain⟨cf,ff⟩:=hv.bk _ _ aI
      rw[pK,<-AQ]at ff
      have la:(az.map vInt).getD j.toNat default=vInt (az.getD j.toNat 0):=by
       have :j.toNat<az.length:=by omega
       rw[ah this,cj this]
      repeat refine sq ?_
      refine rx hΓ [1,2,3,13,14,15,16,17,18] [[17,0],[40,0],[26,0,38,0],[23,0,38,0],[24,0,38,0]] (fun K' hK=>by simp only[go_sem,av,aD,Option.isSome_some,ax,aI,Option.map_some,Option.isSome_some,Option.getD_some,la,cf,ff];(repeat (refine⟨by first | exact an | exact⟨hv,bZ⟩,?_⟩));exact fD) ?_
      repeat refine sq ?_
      refine dx hΓ hP [[],[0],[0,1],[0,1,2],[],[4],[],[4,5,6],u8,u9,ca,ca,dX,gT] [1,2,3,13,14,15,16,17,18,19,20] [[17,0],[40,0],[26,0,38,0],[23,0,38,0],[24,0,38,0]] (by kernel_rfl) (fun K' hK=>by simp only[go_sem,av,aD,Option.isSome_some,ax,aI,Option.map_some,Option.isSome_some,Option.getD_some,la,cf,ff];exact fF) ?_
      repeat refine sq ?_
      refine rx hΓ [1,2,3,13,14,15,16,17,79] [[17,0],[40,0],[26,0,38,0],[23,0,38,0],[24,0,38,0]] (fun K' hK=>by simp only[go_sem,av,aD,Option.isSome_some,ax,aI,Option.map_some,Option.isSome_some,Option.getD_some,la,cf,ff,List.length_map];exact ak) ?_
      repeat refine sq ?_
      refine ay (fun hb=>?_) fun hb=>?_
      ·repeat refine sq ?_
       have eT:=eU
       rw[hF,if_pos (by simpa using hb)]at eT
       repeat refine sq ?_
       refine aP hΓ fun K' hK=>?_
       simp only[go_sem,av,aD,Option.isSome_some,ax,aI,Option.map_some,Option.isSome_some,Option.getD_some,la,cf,ff,rm,NS,qh,IN,ai,aj,List.length_map]
       repeat (refine⟨an,?_⟩)
       refine hK _ ?_
       clear K' hK
       simp only[go_sem]
       refine kp [1,2,3,13,14,15,16] [[40,0],[26,0,38,0],[23,0,38,0],[24,0,38,0]] ?_
       repeat refine sq ?_
       refine aP hΓ fun K' hK=>?_
       simp only[go_sem,av,aD,Option.isSome_some,ax,aI,Option.map_some,Option.isSome_some,Option.getD_some,la,cf,ff]
       repeat (refine⟨an,?_⟩)
       refine hK _ ?_
       clear K' hK
       simp only[go_sem]
       refine⟨i+1,⟨ab,?_⟩,by(show (nn+1)-(i+1)<(nn+1)-i;omega),?_⟩
       ·omega
       refine bd [1,2,3,13,14,15,16] [[40,0],[26,0,38,0],[23,0,38,0],[24,0,38,0]] ?_ ?_<;>simp only[go_sem,a7 ab aB,bb,eT]
      ·repeat refine sq ?_
       have eT:=eS (by rw[hF,if_neg (by simpa using hb)])
       refine aE ?_
       refine bQ ?_
       simp only[go_sem]
       refine kp [1,2,3,13,14,15,16] [[40,0],[26,0,38,0],[23,0,38,0],[24,0,38,0]] ?_
       repeat refine sq ?_
       refine aP hΓ fun K' hK=>?_
       simp only[go_sem,av,aD,Option.isSome_some,ax,aI,Option.map_some,Option.isSome_some,Option.getD_some,la,cf,ff]
       repeat (refine⟨an,?_⟩)
       refine hK _ ?_
       clear K' hK
       simp only[go_sem]
       refine⟨i+1,⟨ab,?_⟩,by(show (nn+1)-(i+1)<(nn+1)-i;omega),?_⟩
       ·omega
       refine bd [1,2,3,13,14,15,16] [[40,0],[26,0,38,0],[23,0,38,0],[24,0,38,0]] ?_ ?_<;>simp only[go_sem,a7 ab aB,bb,eT]
    ·repeat refine sq ?_
     have bB:i=nn+1:=by
      have :¬ (i:Int)<=nn:=by simpa using hb
      omega
     subst bB
     rw[Nat.add_sub_cancel]at qh |-
     refine bT ?_
     simp only[go_sem]
     refine kp [15] [[40,0]] ?_
     repeat refine sq ?_
     refine rx hΓ [10,11] [[40,0]] (fun K' hK=>by simp only[go_sem];exact ak) ?_
     refine aA ?_
     simp only[go_sem]
     first | (rw[e,e2];done) | (rw[e,e2];rfl) | exact⟨qh.symm,by rw[e,e2]⟩ | trace_state
end
noncomputable section
def K63:List (Nat×Spec):=[(84,Cf),(73,wq),(74,HC)]
attribute [go_sem] K63
end
noncomputable section
def aa8(w:List Int):V:=.sl (w.map vInt)
theorem ahU(L:List (List Int)):∀ y∈L.map aa8,y.cells.length=1/\y.okc=true:=fun y hy=>by
 obtain⟨x,_,rfl⟩:=List.mem_map.1 hy
 exact⟨rfl,rfl⟩
def K65:List (Nat×Spec):=[]
attribute [go_sem] K65
end
noncomputable section
def K66:List (Nat×Spec):=[(15,ph)]
attribute [go_sem] K66
end
noncomputable section
def K68:List (Nat×Spec):=[(78,S78)]
attribute [go_sem] K68
end
noncomputable section
def adQ:List (Nat×Spec):=[(80,S80)]
attribute [go_sem] adQ
end
noncomputable section
def K70:List (Nat×Spec):=[(75,oF),(91,S91),(78,S78),(93,QW)]
attribute [go_sem] K70
end
theorem RC{l:Led}(aa:bA l){k:Int}(hs:sj l k=0)(az:List Int)(pa day f:Int):el (aq l k) az pa day f=iM (aV l k) ⟨pa,f⟩ az day:=by
 obtain⟨h0,-⟩:=Se aa (by rw[<-CM aa];exact hs)
 unfold el iM
 rw[vm]
 show _=if dZ (aV l k) ⟨pa,f⟩ day<0 then 0 else if (decide (dq (aV l k) (dZ (aV l k) ⟨pa,f⟩ day).toNat f>=0)&&decide (az.getD (dq (aV l k) (dZ (aV l k) ⟨pa,f⟩ day).toNat f).toNat 0<=day))=true then 0 else(ao l (dZ (aV l k) ⟨pa,f⟩ day).toNat).bo
 rcases K8 h0 ⟨pa,f⟩ day with⟨a1,a2⟩ | ⟨q,hq,a1,-,a2⟩
 ·have HB:eR (bn l k) pa f day=none:=a2
  rw[a1,HB];rfl
 ·have HB:eR (bn l k) pa f day=some (ao l q):=a2
  rw[a1,HB,if_neg (by omega),Int.toNat_natCast,wR]
  simp only[]
  cases aI:bu (aq l k).bk ((ao l q).so,f)with
  |none=>rfl
  |some i=>
   obtain⟨j,rfl,hj⟩:=Qb aI
   simp only[Option.getD_some,Int.toNat_natCast]
   have hg:decide ((j:Int)>=0)=true:=by simp
   simp only[hg,Bool.true_and]
   by_cases c:az.getD j 0>day
   ·rw[if_pos c,if_neg (by rw[decide_eq_true_eq];omega)]
   ·rw[if_neg c,if_pos (by rw[decide_eq_true_eq];omega)]
instance agO (l:Led) (k:Int) (j:Nat):Decidable (im l k j):=inferInstanceAs (Decidable ((bm l k l.ts.length).getD j false=true))
noncomputable section
def K91:List (Nat×Spec):=[]
attribute [go_sem] K91
end
end Go.Eng
set_option linter.unusedVariables false
namespace Go.Eng
open Go Go.Proofs Go.RowKit Go.Lib Go.Shelf
def zS:V:=.agg [.int .i64 0,.int .i64 0,.int .i64 0,.int .i64 0,.int .i64 0,.int .i64 0,.int .i64 0]
def QK(obj:Name->Option O):List D->R
 |[.msl nm k,.v (.int .i64 i),.v (.int .i64 j)]=>match obj nm with
  |some (.arr sz l)=>⟨k=l.length/\sz=7/\0<=i/\j=i+1/\i.toNat<l.length,.v (.sl (l.eraseIdx i.toNat)),upd obj nm (some (.farr sz (l.eraseIdx i.toNat++[zS])))⟩
  |_=>.bad obj
 |_=>.bad obj
def Pl:List D->List Name
 |[.msl nm _,_,_]=>[nm]
 |_=>[]
def adk:Spec:=⟨fun obj _ ds=>QK obj ds,fun _ _ ds=>Pl ds,fun _ _ ds=>Pl ds⟩
open Go Go.Proofs
set_option maxRecDepth 10000
noncomputable section
attribute [go_sem] adk QK
def K92:List (Nat×Spec):=[(75,oF),(121,S121),(122,S122),(108,yY),(130,Q'),(132,S132)]
attribute [go_sem] K92
end
theorem DA{α:Type}{fI:α->Bool}{num:α->Int}{l:List α}(h:jx fI num l=true):l.Pairwise fun a b=>num a<num b:=by
 have h:=kH.1 h
 rw[List.pairwise_iff_getElem]
 intro i j hi hj bF
 induction j with
 |zero=>omega
 |succ j ih=>
  have h1:=(h (j+1) hj hj).2 (by omega)
  simp only[Nat.add_sub_cancel]at h1
  by_cases e:i=j
  ·subst e;exact h1
  ·exact Int.lt_trans (ih (by omega) (by omega)) h1
structure Rh (x:Vw) (d:Ds) (L:List Sig) (i:Int) (e:Int×Int):Prop where
 b1:(aW d i).1<=e.1
 b2:e.2<=(aW d i).2
 s1:∀ s∈L,(bp x s).1=i->(bp x s).2.lo<=e.1/\e.2<=(bp x s).2.hi
 a1:e.1=(aW d i).1\/∃ s∈L,(bp x s).1=i/\(bp x s).2.lo=e.1
 a2:e.2=(aW d i).2\/∃ s∈L,(bp x s).1=i/\(bp x s).2.hi=e.2
theorem Sb(x:Vw)(d:Ds)(s:Sig)(i:Int):aW (gz x d s) i=if (bp x s).1=i/\0<=i then(bJ (aW d i).1 (bp x s).2.lo,dw (aW d i).2 (bp x s).2.hi)else aW d i:=by
 unfold gz
 split
 ·unfold kh
  rw[yx]
  split
  ·rename_i h e;subst e;rw[if_pos ⟨rfl,h⟩]
  ·rename_i h e;rw[if_neg fun h2=>e h2.1]
 ·rename_i h
  rw[if_neg fun h2=>h (by omega)]
theorem KP(x:Vw)(i:Int)(hi:0<=i):∀ (L:List Sig) (d:Ds),Rh x d L i (aW (dQ x d L) i)
 |[],d=>⟨Int.le_refl _,Int.le_refl _,fun s h=>by simp at h,.inl rfl,.inl rfl⟩
 |s::L,d=>by
  have ih:=KP x i hi L (gz x d s)
  show Rh x d (s::L) i (aW (dQ x (gz x d s) L) i)
  generalize aW (dQ x (gz x d s) L) i=e at ih
  obtain⟨b1,b2,s1,a1,a2⟩:=ih
  rw[Sb]at b1 b2 a1 a2
  by_cases h:(bp x s).1=i/\0<=i
  ·rw[if_pos h]at b1 b2 a1 a2
   simp only[bJ,dw]at b1 b2 a1 a2
   refine⟨by split at b1<;>omega,by split at b2<;>omega,fun t ht hw=>?_,?_,?_⟩
   ·rcases List.mem_cons.1 ht with rfl | ht
    ·exact⟨by split at b1<;>omega,by split at b2<;>omega⟩
    ·exact s1 t ht hw
   ·rcases a1 with a1 | ⟨t,ht,h1,h2⟩
    ·split at a1
     ·exact .inr ⟨s,by simp,h.1,a1.symm⟩
     ·exact .inl a1
    ·exact .inr ⟨t,by simp[ht],h1,h2⟩
   ·rcases a2 with a2 | ⟨t,ht,h1,h2⟩
    ·split at a2
     ·exact .inr ⟨s,by simp,h.1,a2.symm⟩
     ·exact .inl a2
    ·exact .inr ⟨t,by simp[ht],h1,h2⟩
  ·rw[if_neg h]at b1 b2 a1 a2
   refine⟨b1,b2,fun t ht hw=>?_,?_,?_⟩
   ·rcases List.mem_cons.1 ht with rfl | ht
    ·exact(h ⟨hw,hi⟩).elim
    ·exact s1 t ht hw
   ·rcases a1 with a1 | ⟨t,ht,h1,h2⟩
    ·exact .inl a1
    ·exact .inr ⟨t,by simp[ht],h1,h2⟩
   ·rcases a2 with a2 | ⟨t,ht,h1,h2⟩
    ·exact .inl a2
    ·exact .inr ⟨t,by simp[ht],h1,h2⟩
theorem ON(x:Vw)(L:List Sig):fE x L=true↔(∀ s∈L,fb x s=true)/\∀ i∈x.ts,(aW (dQ x x.ds L) i).1<=(aW (dQ x x.ds L) i).2:=by
 unfold fE vP
 rw[Bool.and_eq_true,List.all_eq_true,List.all_eq_true]
 simp only[decide_eq_true_eq]
variable {x:Vw}
theorem acr{l:Led}(aa:bA l){k:Int}(h0:fV (aV l k)=none):∀ i∈(aq l k).ts,(aW (aq l k).ds i).1<=(aW (aq l k).ds i).2:=by
 have h:=(Gu l k _).2 (Qc aa h0)
 unfold vP at h
 rw[List.all_eq_true]at h
 exact fun i hi=>by simpa using h i hi
theorem aa0{l:Led}(aa:bA l){k:Int}(h0:fV (aV l k)=none):fE (aq l k) []=true:=(ON _ _).2 ⟨fun s h=>(nomatch h),acr aa h0⟩
theorem Ul{l:Led}(aa:bA l)(k:Int):(bn l k).Pairwise fun a b=>a.so<b.so:=by
 unfold bn
 exact(DA aa.rs).filter _
theorem CB{l:Led}{k:Int}{az:List Int}(hd:cU l [k]=0)(h:rS l k az=0):gq l k az=true/\az.length=l.ts.length/\∀ i:Nat,(i:Int)∈(aq l k).ts->(aW (ba (aq l k) k).ds i).1<=az.getD i 0/\az.getD i 0<=(aW (ba (aq l k) k).ds i).2:=by
 have ht:gq l k az=true:=by
  unfold rS at h
  rw[if_pos hd]at h
  cases hb:gq l k az with
  |true=>rfl
  |false=>rw[hb]at h;cases h
 refine⟨ht,?_⟩
 unfold gq at ht
 simp only[Bool.and_eq_true,decide_eq_true_eq,List.all_eq_true]at ht
 refine⟨ht.2.1,fun i hi=>?_⟩
 have :=ht.2.2.2 i hi
 unfold pw bO at this
 simpa using this
theorem JO(x:Vw)(az:List Int)(pa day:Int)(n:Nat):∀ m,m<=n->∀ j,j<m->(fw x az pa day n m).getD j 0=el x az pa day ((j+1:Nat):Int)
 | 0,_,j,hj=>absurd hj (Nat.not_lt_zero j)
 |m+1,hm,j,hj=>by
  rw[fw,List.getD_eq_getElem?_getD,List.getElem?_set]
  by_cases e:m=j
  ·subst e
   rw[if_pos rfl,if_pos (by rw[wX];omega)];rfl
  ·rw[if_neg e,<-List.getD_eq_getElem?_getD]
   exact JO x az pa day n m (by omega) j (by omega)
theorem Qa{l:Led}{k:Int}{q:Int×Int}{i:Int}(h:bu (aq l k).bk q=some i):∃ j:Nat,i=j/\(j:Int)∈(aq l k).ts:=by
 obtain⟨a,b⟩:=q
 obtain⟨j,e,h2,_⟩:=(j5 l k).bk1 a b i h
 exact⟨j,e,((j5 l k).ts j).1 h2⟩
theorem UF{l:Led}{k:Int}{az:List Int}(hd:cU l [k]=0)(h:rS l k az=0)(pa f day:Int):el (aq l k) az pa day f∈pq (ba (aq l k) k) pa f day:=by
 obtain⟨_,_,hm⟩:=CB hd h
 unfold el pq
 show _∈(match eR (aq l k).rs pa f day with
  |none=>[0]
  |some r=>match bu (aq l k).bk (r.so,f)with
   |none=>[r.bo]
   |some i=>(if (aW (ba (aq l k) k).ds i).1<=day then[0]else[])++(if (aW (ba (aq l k) k).ds i).2>day then[r.bo]else[]))
 cases eR (aq l k).rs pa f day with
 |none=>simp
 |some r=>
  simp only[]
  cases hb:bu (aq l k).bk (r.so,f)with
  |none=>simp
  |some i=>
   obtain⟨j,rfl,hj⟩:=Qa hb
   obtain⟨h1,h2⟩:=hm j hj
   simp only[Int.toNat_natCast]
   rw[List.mem_append]
   by_cases c:az.getD j 0>day
   ·rw[if_pos c];right;rw[if_pos (by omega)];simp
   ·rw[if_neg c];left;rw[if_pos (by omega)];simp
theorem Ir{l:Led}{k:Int}{i:Nat}(h:i<l.ts.length):im l k i↔gD l k (bm l k i) i=true:=by
 unfold im
 rw[Iq l.ts.length h (Nat.le_refl _)]
def QV(rs:List Rec)(k:Int)(t:Ret)(r:Rec):Prop:=cW rs t.re=some r/\bI t.kn t.un k=true/\bJ t.lo (r.da+1)<=t.hi/\∀ f∈t.lv,f∈r.lv
theorem acR{l:Led}{k:Int}(h1:∀ i,i<l.ts.length->∃ r,QV (bn l k) k (aG l i) r)
 (h2:∀ i j,i<j->j<l.ts.length->(aG l i).re=(aG l j).re->∀ f∈(aG l i).lv,f∉(aG l j).lv):∀ i,i<l.ts.length->im l k i:=by
 intro i hi
 rw[Ir hi]
 have hI:=zq l k i (by omega)
 have hn:=DM hI
 by_cases hb:gD l k (bm l k i) i=true
 ·exact hb
 ·exfalso
  rw[if_neg hb]at hn
  obtain⟨r,e1,e2,e3,e4⟩:=h1 i hi
  have nZ:r.so=(aG l i).re:=(qH e1).2
  have jo:((aG l i).lv.any fun f=>(bu (aC l k i).bk (r.so,f)).isSome||!r.lv.contains f)=false:=by
   rw[List.any_eq_false]
   intro f hf
   have h3:r.lv.contains f=true:=List.contains_iff_mem.2 (e4 f hf)
   rw[h3]
   cases aI:bu (aC l k i).bk (r.so,f)with
   |none=>simp
   |some m=>
    obtain⟨j,rfl,hj,er,ZW⟩:=hI.bk1 _ _ _ aI
    have fe:=(hI.tl _ ((hI.ts j).1 hj)).2
    exact(h2 j i (by omega) hi (by rw[er,nZ]) f ZW hf).elim
  unfold gG at hn
  rw[e1]at hn
  simp only[e2,jo,Bool.or_false,Bool.true_and,decide_eq_false (show ¬ bJ (aG l i).lo (r.da+1)>(aG l i).hi by omega),Bool.not_false,if_true]at hn
  cases hn
theorem CD{l:Led}{k:Int}{i:Nat}(h:im l k i):i<l.ts.length/\∃ r,QV (bn l k) k (aG l i) r:=by
 have hi:=wD h
 rw[Ir hi]at h
 refine⟨hi,?_⟩
 have hn:=DM (zq l k i (by omega))
 rw[if_pos h]at hn
 unfold gG at hn
 cases hr:cW (bn l k) (aG l i).re with
 |none=>rw[hr]at hn;cases hn
 |some r=>
  rw[hr]at hn
  simp only at hn
  split at hn
  ·rename_i hc
   refine⟨r,hr,?_⟩
   simp only[Bool.and_eq_true,Bool.not_eq_true',Bool.or_eq_false_iff,decide_eq_false_iff_not,List.any_eq_false]at hc
   refine⟨hc.1,by omega,fun f hf=>?_⟩
   have :=hc.2.2 f hf
   simp only[Bool.or_eq_true,not_or,Bool.not_eq_true',Bool.not_eq_false]at this
   exact List.contains_iff_mem.1 (by simpa using this.2)
  ·cases hn
theorem Im{l:Led}{k:Int}{i j:Nat}(hi:im l k i)(hj:im l k j)(aF:i≠j)(e:(aG l i).re=(aG l j).re):∀ f∈(aG l i).lv,f∉(aG l j).lv:=by
 intro f h1 h2
 have k1:=(j5 l k).bk2 i hi f h1
 have k2:=(j5 l k).bk2 j hj f h2
 rw[e,k2]at k1
 simp only[Option.some.injEq]at k1
 omega
theorem Dl{A:List Pq}{t:List Bool}:∀ {s},s<=A.length->∀ q∈fL A t s,∃ j,∃ h:j<A.length,j<s/\t.getD j false=true/\q=A[j]
 | 0,_,q,h=>by simp[fL]at h
 |s+1,hs,q,h=>by
  rw[fL]at h
  split at h
  ·rename_i hb
   rcases List.mem_append.1 h with h | h
   ·obtain⟨j,h1,h2,h3,h4⟩:=Dl (by omega) q h
    exact⟨j,h1,by omega,h3,h4⟩
   ·rw[cj (show s<A.length by omega)]at h
    exact⟨s,by omega,by omega,hb,by simpa using h⟩
  ·obtain⟨j,h1,h2,h3,h4⟩:=Dl (by omega) q h
   exact⟨j,h1,by omega,h3,h4⟩
theorem Dj{r:Raw}{q:Pq}(h:q∈be r):∃ j:Nat,im (ie r) 900 j/\aG (ie r) j=q.1:=by
 unfold be at h
 obtain⟨j,h1,h2,h3,h4⟩:=Dl (A:=ct r) (by rw[wo];exact Nat.le_refl _) q h
 refine⟨j,h3,?_⟩
 have hj:j<(ie r).ts.length:=by rw[wo];exact h1
 rw[mu hj,h4]
 exact C8 _ _ _ h1
theorem IE{a l:Led}{k:Int}(aa:bA l)(ht:∀ t∈l.ts,∃ j:Nat,im a k j/\aG a j=t)(hr:∀ t∈l.ts,cW (bn l k) t.re=cW (bn a k) t.re):∀ i,i<l.ts.length->im l k i:=by
 have kr:∀ i,i<l.ts.length->aG l i∈l.ts:=fun i h=>by rw[mu h];exact List.getElem_mem h
 refine acR (fun i hi=>?_) fun i j bF hj e=>?_
 ·obtain⟨m,hm,e⟩:=ht _ (kr i hi)
  obtain⟨_,r,h1,h2⟩:=CD hm
  rw[e]at h1 h2
  exact⟨r,by rw[hr _ (kr i hi)];exact h1,h2⟩
 ·obtain⟨m,hm,em⟩:=ht _ (kr i (by omega))
  obtain⟨n,hn,en⟩:=ht _ (kr j hj)
  have aF:m≠n:=by
   rintro rfl
   have :=RZ aa (show i<l.ts.length by omega) hj (by rw[<-em,<-en])
   omega
  have :=Im hm hn aF (by rw[em,en];exact e)
  rw[em,en]at this
  exact this
theorem If(r:Raw):∀ i,i<(dh r).ts.length->im (dh r) 900 i:=
 IE (a:=ie r) (Ig r) (fun t ht=>by
  obtain⟨q,hq,rfl⟩:=List.mem_map.1 (show t∈(be r).map (·.1)from ht)
  exact Dj hq) fun t _=>rfl
theorem UY{r:Raw}{q:Pq}(hq:q∈dr r):cW (bn (bN r) 900) q.1.re=cW (bn (ie r) 900) q.1.re:=by
 have fC:ri (l0 r).ps (b7 r) q=true:=(List.mem_filter.1 (show q∈List.filter (ri (l0 r).ps (b7 r)) ((be r).take (be r).length)from hq)).2
 obtain⟨j,hj,ej⟩:=Dj ((qJ r).subset hq)
 obtain⟨_,x,h1,_⟩:=CD hj
 rw[ej]at h1
 rw[h1]
 have h2:¬ cg (bN r) q.1.re 900<0:=by
  unfold ri at fC
  have h3:cg ⟨(l0 r).ps,b7 r,[],[]⟩ q.1.re 900>=0:=by simpa using fC
  exact Int.not_lt.2 h3
 have h4:=Dh (bN r) 900 q.1.re
 rw[if_neg h2]at h4
 rw[h4]
 obtain⟨m1,e1⟩:=qH h4
 obtain⟨m2,e2⟩:=qH h1
 have k1:ao (bN r) (cg (bN r) q.1.re 900).toNat∈(l0 r).rs:=(BK r).subset ((List.mem_filter.1 m1).1)
 have k2:x∈(l0 r).rs:=(List.mem_filter.1 m2).1
 have pX:=DA (vo r).rs
 obtain⟨i,hi,ei⟩:=List.getElem_of_mem k1
 obtain⟨n,hn,en⟩:=List.getElem_of_mem k2
 rw[List.pairwise_iff_getElem]at pX
 have :i=n:=by
  rcases Nat.lt_trichotomy i n with h | h | h
  ·have:=pX i n hi hn h;rw[ei,en,e1,e2]at this;omega
  ·exact h
  ·have:=pX n i hn hi h;rw[ei,en,e1,e2]at this;omega
 subst this
 rw[<-ei,en]
theorem J3(r:Raw):∀ i,i<(bN r).ts.length->im (bN r) 900 i:=
 IE (a:=ie r) (ka r) (fun t ht=>by
  obtain⟨q,hq,rfl⟩:=List.mem_map.1 (show t∈(dr r).map (·.1)from ht)
  exact Dj ((qJ r).subset hq)) fun t ht=>by
  obtain⟨q,hq,rfl⟩:=List.mem_map.1 (show t∈(dr r).map (·.1)from ht)
  exact UY hq
theorem I7{l:Led}{so k:Int}{x:Rec}(hx:x∈l.rs)(h:jj so k x=true):¬ cg l so k<0:=by
 unfold cg dJ
 have h2:(l.rs.any fun r=>r.so==so&&bI r.kn r.un k)=true:=List.any_eq_true.2 ⟨x,hx,h⟩
 rw[if_pos h2]
 omega
theorem Wy(r:Raw):(l0 r).rs=e8 (r0 r) (nR (r0 r)):=rfl
theorem Ag(r:Raw){i:Nat}(h:i<(l0 r).rs.length):(l0 r).rs[i]=gr (r0 r) i/\i<nR (r0 r):=by
 have h2:i<nR (r0 r):=by
  have :=h
  rw[Wy,jg]at this
  exact this
 refine⟨?_,h2⟩
 show (e8 (r0 r) (nR (r0 r)))[i]'(by rw[jg];exact h2)=_
 unfold e8
 simp
theorem Ph(r:Raw)(i:Nat):∀ j,i<=j->ef r i<=ef r j
 | 0,h=>by have:i=0:=by omega
           subst this;exact Int.le_refl _
 |j+1,h=>by
  by_cases e:i=j+1
  ·subst e;exact Int.le_refl _
  ·have:=Ph r i j (by omega)
   have h2:=de (n:=(r5 r.rs j).d) (m:=20) (by decide)
   rw[ef];omega
theorem WB(r:Raw){i j:Nat}(bF:i<=j)(hj:j<(l0 r).rs.length):(ao (l0 r) i).da<=(ao (l0 r) j).da:=by
 have hi:i<(l0 r).rs.length:=by omega
 rw[cm hi,cm hj,(Ag r hi).1,(Ag r hj).1]
 exact Ph (r0 r) (i+1) (j+1) (by omega)
theorem Ee(r:Raw):∀ x∈(l0 r).rs,bI x.kn x.un 900=true:=by
 intro x hx
 obtain⟨i,hi,rfl⟩:=List.getElem_of_mem hx
 obtain⟨e,h⟩:=Ag r hi
 have h8:=pI (r0 r)
 have hd:=(sx (r0 r) (show i<8 by omega)).2.2.1
 rw[e]
 have kz:ef (r0 r) (i+1)<=160:=hd
 have h2:=de (n:=(r5 (r0 r).rs i).e) (m:=5) (by decide)
 unfold bI
 show (decide (ef (r0 r) (i+1)+aM (r5 (r0 r).rs i).e 5<=900)&&((0:Int)==0||_))=true
 rw[decide_eq_true (by omega)];rfl
theorem Ed(r:Raw){i j:Nat}(hi:i<(l0 r).rs.length)(hj:j<(l0 r).rs.length):(ao (l0 r) i).so<(ao (l0 r) j).so↔i<j:=by
 have pX:=DA (vo r).rs
 rw[List.pairwise_iff_getElem]at pX
 rw[cm hi,cm hj]
 constructor
 ·intro h
  rcases Nat.lt_trichotomy i j with h1 | h1 | h1
  ·exact h1
  ·subst h1;omega
  ·have:=pX j i hj hi h1;omega
 ·exact pX i j hi hj
theorem xo(r:Raw){x y:Rec}(hx:x∈(l0 r).rs)(hy:y∈(l0 r).rs)(e:x.so=y.so):x=y:=by
 obtain⟨i,hi,rfl⟩:=List.getElem_of_mem hx
 obtain⟨j,hj,rfl⟩:=List.getElem_of_mem hy
 have h1:=Ed r hi hj
 have h2:=Ed r hj hi
 rw[cm hi,cm hj]at h1 h2
 have :i=j:=by
  rcases Nat.lt_trichotomy i j with h | h | h
  ·have:=h1.2 h;omega
  ·exact h
  ·have:=h2.2 h;omega
 subst this;rfl
theorem PX(l:Led)(w:List Int):∀ s,fh l w s=((List.range s).filter fun i=>ln l w (fh l w i) i i).map (ao l)
 | 0=>rfl
 |s+1=>by
  rw[fh,List.range_succ,List.filter_append,List.map_append,<-PX l w s]
  by_cases h:ln l w (fh l w s) s s=true
  ·rw[if_pos h];simp[h]
  ·rw[if_neg h];simp[h]
theorem PW{l:Led}{w:List Int}{s:Nat}{b:Rec}:b∈fh l w s↔∃ i,i<s/\ln l w (fh l w i) i i=true/\ao l i=b:=by
 rw[PX,List.mem_map]
 constructor
 ·rintro⟨i,hi,e⟩
  rw[List.mem_filter,List.mem_range]at hi
  exact⟨i,hi.1,hi.2,e⟩
 ·rintro⟨i,h1,h2,e⟩
  exact⟨i,List.mem_filter.2 ⟨List.mem_range.2 h1,h2⟩,e⟩
theorem OJ{l:Led}{w:List Int}{C:List Rec}{i:Nat}:∀ {n},ln l w C i n=true↔∀ k,k<n->cg ⟨l.ps,C,[],[]⟩ (ao l k).so 900<0\/l9 l w k i=true
 | 0=>⟨fun _ k h=>absurd h (Nat.not_lt_zero k),fun _=>rfl⟩
 |n+1=>by
  rw[ln,Bool.and_eq_true,OJ,Bool.or_eq_true,decide_eq_true_eq]
  constructor
  ·rintro⟨h1,h2⟩ k hk
   by_cases e:k=n
   ·subst e;exact h2
   ·exact h1 k (by omega)
  ·exact fun h=>⟨fun k hk=>h k (by omega),h n (by omega)⟩
theorem PV{r:Raw}{b:Rec}(hb:b∈b7 r):∃ i,i<(l0 r).rs.length/\ao (l0 r) i=b/\ln (dh r) (cq (be r)) (fh (dh r) (cq (be r)) i) i i=true:=by
 obtain⟨i,h1,h2,h3⟩:=PW.1 hb
 exact⟨i,h1,h3,h2⟩
theorem kF{r:Raw}{b:Rec}(hb:b∈b7 r):b∈(l0 r).rs:=(BK r).subset hb
theorem BJ{r:Raw}{a b:Rec}(ha:a∈b7 r)(hb:b∈b7 r)(h:a.so<b.so):∃ k i,k<i/\i<(l0 r).rs.length/\ao (l0 r) k=a/\ao (l0 r) i=b/\l9 (dh r) (cq (be r)) k i=true:=by
 obtain⟨k,k1,k2,k3⟩:=PV ha
 obtain⟨i,i1,i2,i3⟩:=PV hb
 have dO:k<i:=(Ed r k1 i1).1 (by rw[k2,i2];exact h)
 refine⟨k,i,dO,i1,k2,i2,?_⟩
 rcases OJ.1 i3 k dO with h1 | h1
 ·exfalso
  refine I7 (l:=⟨(dh r).ps,fh (dh r) (cq (be r)) i,[],[]⟩) (x:=a) (PW.2 ⟨k,dO,k3,k2⟩) ?_ h1
  unfold jj
  rw[Ee r a (kF ha),show (ao (dh r) k).so=a.so from congrArg Rec.so k2]
  simp
 ·exact h1
theorem JM{r:Raw}{q:Pq}(h:q∈ct r):q.1.lo<=q.2/\q.2<=q.1.hi/\∀ a∈(l0 r).rs,a.so=q.1.re->a.da<q.2:=by
 obtain⟨h1,h2⟩:=List.mem_filter.1 (show q∈List.filter (pR (l0 r)) (((l0 r).ts.zip (d0 r)).take (l0 r).ts.length)from h)
 have hz:=List.mem_of_mem_take h1
 obtain⟨j,hj,ej⟩:=List.getElem_of_mem hz
 have ff:j<(l0 r).ts.length:=by simp at hj;omega
 have NO:j<(d0 r).length:=by simp at hj;omega
 rw[List.getElem_zip]at ej
 have eE:j<nT (r0 r):=by
  have :(l0 r).ts.length=nT (r0 r):=by show ((List.range _).map _).length=_;simp
  omega
 have e1:(l0 r).ts[j]=tM (r0 r) j:=by
  show ((List.range (nT (r0 r))).map (tM (r0 r)))[j]'(by simpa using eE)=_
  simp
 have e2:(d0 r)[j]=du (r0 r) j:=by
  show ((List.range (nT (r0 r))).map (du (r0 r)))[j]'(by simpa using eE)=_
  simp
 have h8:=vj (r0 r)
 have av:=(zt (z' eE) (show j<8 by omega)).2.1
 have KD:=de (n:=(r7 (r0 r).ts j).d) (m:=12) (by decide)
 have KC:=de (n:=(r7 (r0 r).ts j).e) (m:=12) (by decide)
 have elo:(tM (r0 r) j).lo=bJ 0 (du (r0 r) j-aM (r7 (r0 r).ts j).d 12):=rfl
 have ehi:(tM (r0 r) j).hi=du (r0 r) j+aM (r7 (r0 r).ts j).e 12:=rfl
 rw[e1,e2]at ej
 subst ej
 refine⟨?_,?_,fun a ha e=>?_⟩
 ·show (tM (r0 r) j).lo<=du (r0 r) j
  rw[elo];unfold bJ;split<;>omega
 ·show du (r0 r) j<=(tM (r0 r) j).hi
  rw[ehi];omega
 ·unfold pR at h2
  simp only[Bool.and_eq_true,decide_eq_true_eq]at h2
  obtain⟨g1,g2⟩:=h2
  rcases uU (l0 r) (tM (r0 r) j).re 900 with hx | ⟨n,hn,hx,hr⟩
  ·rw[hx]at g1;exact absurd g1 (by decide)
  ·rw[hx,Int.toNat_natCast]at g2
   unfold jj at hr
   simp only[Bool.and_eq_true,beq_iff_eq]at hr
   have :a=(l0 r).rs[n]:=xo r ha (List.getElem_mem hn) (by rw[e,hr.1])
   rw[this,<-cm hn]
   exact g2
theorem zm(r:Raw):(dh r).ts=rets (be r):=rfl
theorem w6(r:Raw):(bN r).ts=rets (dr r):=rfl
theorem U4(r:Raw):(bN r).rs=b7 r:=rfl
theorem Uz(r:Raw):dr r=((be r).take (be r).length).filter (ri (l0 r).ps (b7 r)):=rfl
theorem zl(r:Raw)(i:Nat):ao (dh r) i=ao (l0 r) i:=rfl
theorem wZ{r:Raw}{x:Rec}(h:x∈bn (bN r) 900):x∈b7 r:=(List.mem_filter.1 h).1
section
attribute [local irreducible] lN gl l0 d0 ct be b7 dr
theorem wY{Q:List Pq}{l:Led}(hl:l.ts=rets Q){m:Nat}(h:m<Q.length):m<l.ts.length/\aG l m=Q[m].1:=by
 have h1:m<l.ts.length:=by rw[hl,gV];exact h
 refine⟨h1,?_⟩
 rw[mu h1]
 have :l.ts[m]=(rets Q)[m]'(by rw[gV];exact h):=by simp only[hl]
 rw[this]
 exact C8 _ _ _ h
theorem GX{Q:List Pq}{m:Nat}(h:m<Q.length):(cq Q).getD m 0=Q[m].2:=by
 rw[cj (by rw[m7];exact h)]
 unfold cq
 rw[List.getElem_map]
theorem G7{r:Raw}{k i:Nat}(h:l9 (dh r) (cq (be r)) k i=true)(hp:(ao (l0 r) k).pa=(ao (l0 r) i).pa){f:Int}(h1:f∈(ao (l0 r) k).lv)(h2:f∈(ao (l0 r) i).lv):
 (ao (l0 r) k).da≠(ao (l0 r) i).da/\∃ n,∃ hn:n<(be r).length,(be r)[n].1.re=(ao (l0 r) k).so/\f∈(be r)[n].1.lv/\(be r)[n].2<=(ao (l0 r) i).da:=by
 unfold l9 at h
 rw[zl,zl]at h
 have aF:((ao (l0 r) k).pa != (ao (l0 r) i).pa)=false:=by rw[hp];simp
 rw[aF,Bool.false_or,List.all_eq_true]at h
 have h3:=h f h1
 unfold na yD at h3
 rw[zl,zl,List.contains_iff_mem.2 h2,Bool.not_true,Bool.false_or,Bool.not_eq_true',Bool.or_eq_false_iff,Bool.or_eq_false_iff,decide_eq_false_iff_not,decide_eq_false_iff_not,beq_eq_false_iff_ne]at h3
 obtain⟨⟨g1,g2⟩,g3⟩:=h3
 refine⟨g2,?_⟩
 rw[wR]at g1 g3
 cases hb:bu (aq (dh r) 900).bk ((ao (dh r) k).so,f)with
 |none=>rw[hb]at g1;exact absurd (by decide) g1
 |some m=>
  rw[hb]at g3
  obtain⟨n,rfl,hn,er,dm⟩:=(j5 (dh r) 900).bk1 _ _ _ hb
  have s9:n<(dh r).ts.length:=wD hn
  have Fi:n<(be r).length:=by rw[<-gV,<-zm];exact s9
  obtain⟨_,et⟩:=wY (zm r) Fi
  rw[et]at er dm
  refine⟨n,Fi,er,dm,?_⟩
  simp only[Option.getD_some,Int.toNat_natCast]at g3
  rw[GX Fi]at g3
  omega
theorem JC{r:Raw}{q:Pq}(hq:q∈be r){a:Rec}(ha:a∈b7 r)(e:q.1.re=a.so):q∈dr r:=by
 rw[Uz,List.take_length,List.mem_filter]
 refine⟨hq,?_⟩
 unfold ri
 rw[decide_eq_true_eq,e]
 refine Int.not_lt.1 (I7 (l:=⟨(l0 r).ps,b7 r,[],[]⟩) (x:=a) ha ?_)
 unfold jj
 rw[Ee r a (kF ha)]
 simp
theorem UC{α:Type}{p:α->α->Bool}{L:List α}(h:∀ i j (hi:i<L.length) (hj:j<L.length),i<j->p L[i] L[j]=false):jH p L=none:=by
 cases hp:jH p L with
 |none=>rfl
 |some q=>
  obtain⟨i,j,hi,hj,bF,_,hc,_,_⟩:=zN hp
  rw[h i j hi hj bF]at hc;cases hc
theorem PU{r:Raw}{a b:Rec}(ha:a∈b7 r)(hb:b∈b7 r)(h:a.so<b.so):a.da<=b.da:=by
 obtain⟨k,i,dO,hi,rfl,rfl,_⟩:=BJ ha hb h
 exact WB r (Nat.le_of_lt dO) hi
theorem ab'{r:Raw}{a b:Rec}(ha:a∈b7 r)(hb:b∈b7 r)(h:a.da<b.da):a.so<b.so:=by
 rcases Int.lt_trichotomy a.so b.so with h1 | h1 | h1
 ·exact h1
 ·have:=xo r (kF ha) (kF hb) h1
  subst this;omega
 ·have:=PU hb ha h1;omega
theorem Dw(r:Raw):eJ (aq (bN r) 900)=none:=by
 rw[zP,vm,UC fun i j hi hj bF=>?_]
 ·rfl
 have pX:=Ul (ka r) 900
 have nZ:=(List.pairwise_iff_getElem.1 pX) i j hi hj bF
 have ma:=wZ (List.getElem_mem hi)
 have mb:=wZ (List.getElem_mem hj)
 generalize (bn (bN r) 900)[i]=a at *
 generalize (bn (bN r) 900)[j]=b at *
 have vK:=PU ma mb nZ
 unfold gB
 rw[if_neg (by omega)]
 unfold rP
 rw[List.any_eq_false]
 intro f hf
 obtain⟨k,n,Zz,hn,rfl,rfl,cl⟩:=BJ ma mb nZ
 by_cases hc:(ao (l0 r) k).pa=(ao (l0 r) n).pa/\f∈(ao (l0 r) n).lv
 ·obtain⟨aF,m,hm,er,dm,hle⟩:=G7 cl hc.1 hf hc.2
  have EZ:=JC (List.getElem_mem hm) ma er
  obtain⟨u,hu,eu⟩:=List.getElem_of_mem EZ
  obtain⟨vy,et⟩:=wY (w6 r) hu
  have AD:=J3 r u vy
  have aI:=(j5 (bN r) 900).bk2 u AD f (by rw[et,eu];exact dm)
  rw[et,eu,er]at aI
  obtain⟨p1,p2,p3⟩:=JM ((qI r).subset (List.getElem_mem hm))
  have p4:=p3 _ (kF ma) er.symm
  have A9:bu (aq (bN r) 900).bk ((ao (l0 r) k).so,f)=some (u:Int):=aI
  have fB:¬ bJ (aG (bN r) u).lo ((ao (l0 r) k).da+1)>(ao (l0 r) n).da:=by
   rw[et,eu];unfold bJ;split<;>omega
  have Zn:((ao (l0 r) k).da==(ao (l0 r) n).da)=false:=beq_eq_false_iff_ne.2 aF
  simp only[A9,pK,Int.toNat_natCast,Zn,Bool.false_or,decide_eq_false fB,Bool.and_false]
  decide
 ·have:((ao (l0 r) k).pa==(ao (l0 r) n).pa&&(ao (l0 r) n).lv.contains f)=false:=by
    rw[Bool.eq_false_iff]
    intro h
    rw[Bool.and_eq_true,beq_iff_eq,List.contains_iff_mem]at h
    exact hc h
  rw[this,Bool.false_and]
  decide
theorem NU{d da:Int}:∀ (os:List Rec) (h:Int),d<=h->(∀ o∈os,o.da>da->d<=o.da)->d<=mR h da os
 |[],h,h1,_=>h1
 |o::os,h,h1,h2=>by
  show d<=mR (if o.da>da then dw h o.da else h) da os
  refine NU os _ ?_ fun x hx=>h2 x (by simp[hx])
  split
  ·rename_i hc
   have :=h2 o (by simp) hc
   unfold dw;split<;>omega
  ·exact h1
theorem U0(r:Raw){m:Nat}(hm:m<(dr r).length):(aW (aq (bN r) 900).ds m).1<=(dr r)[m].2/\(dr r)[m].2<=(aW (aq (bN r) 900).ds m).2:=by
 obtain⟨pY,et⟩:=wY (w6 r) hm
 have AD:=J3 r m pY
 obtain⟨x,hx,hG,FF,mS⟩:=GK (ka r) AD
 obtain⟨p1,p2,p3⟩:=JM ((qI r).subset ((qJ r).subset (List.getElem_mem hm)))
 have Bb:ao (bN r) x∈b7 r:=by rw[cm hx,<-U4];exact List.getElem_mem hx
 have nZ:(ao (bN r) x).so=(dr r)[m].1.re:=by
  unfold jj at FF
  simp only[Bool.and_eq_true,beq_iff_eq]at FF
  rw[FF.1,et]
 have ab:=p3 _ (kF Bb) nZ
 obtain⟨_,a2,b1,_,_,b4⟩:=CD AD
 have yk:a2=ao (bN r) x:=by
  obtain⟨c1,c2⟩:=qH b1
  exact xo r (kF (wZ c1)) (kF Bb) (by rw[c2,et,nZ])
 subst yk
 rw[mS,et]
 refine⟨?_,NU _ _ p2 fun o ho vK=>?_⟩
 ·unfold mY bJ;split<;>omega
 ·have vC:o∈bn (bN r) 900:=(List.mem_filter.1 ho).1
  have ry:=(List.mem_filter.1 ho).2
  have xQ:=wZ vC
  unfold gx at ry
  rw[Bool.and_eq_true,beq_iff_eq,List.any_eq_true]at ry
  obtain⟨n9,f,qa,A2⟩:=ry
  rw[List.contains_iff_mem]at A2
  obtain⟨k,n,Zz,hn,ek,en,cl⟩:=BJ Bb xQ (ab' Bb xQ vK)
  rw[et]at b4
  have ZZ:f∈(ao (l0 r) k).lv:=by rw[ek];first | exact b4 f A2 | exact b4 f qa
  have FP:f∈(ao (l0 r) n).lv:=by rw[en];first | exact qa | exact A2
  obtain⟨_,u,hu,er,dm,hle⟩:=G7 cl (by rw[ek,en];exact n9.symm) ZZ FP
  have EY:=(qJ r).subset (List.getElem_mem hm)
  obtain⟨v,hv,ev⟩:=List.getElem_of_mem EY
  obtain⟨vy,eu⟩:=wY (zm r) hu
  obtain⟨Ax,O6⟩:=wY (zm r) hv
  have YQ:u=v:=by
   refine Classical.byContradiction fun aF=>?_
   refine Im (If r u vy) (If r v Ax) aF (by rw[eu,O6,er,ev,ek,nZ]) f (by rw[eu];exact dm) ?_
   rw[O6,ev];first | exact A2 | exact qa
  subst YQ
  rw[ev]at hle
  rw[en]at hle
  exact hle
end
theorem at_fold{day:Int}{r:Rec}:∀ (l:List Rec) (o:Option Rec),l.foldl (jw day) o=some r->r∈l\/o=some r
 |[],o,h=>.inr h
 |x::l,o,h=>by
  rcases at_fold l _ h with h1 | h1
  ·exact .inl (by simp[h1])
  ·unfold jw at h1
   split at h1
   ·simp only[Option.some.injEq]at h1
    subst h1;exact .inl (by simp)
   ·exact .inr h1
theorem Qz{rs:List Rec}{pa le day:Int}{r:Rec}(h:eR rs pa le day=some r):r∈rs:=by
 rcases at_fold _ _ h with h1 | h1
 ·exact(List.mem_filter.1 h1).1
 ·cases h1
theorem KL(l:Led)(S:List Sig)(k:Int):∀ s,aC { l with ss:=S } k s={ aC l k s with l:={ l with ss:=S } }
 | 0=>rfl
 |s+1=>by
  show mH _ k (aC { l with ss:=S } k s) s=_
  rw[KL l S k s]
  show mH _ k _ s={ mH l k (aC l k s) s with l:={ l with ss:=S } }
  unfold mH
  show (match gG k (aC l k s).rs (aC l k s).bk (aG l s)with
   |none=>_
   |some r=>_)=_
  cases gG k (aC l k s).rs (aC l k s).bk (aG l s)<;>rfl
theorem KN(l:Led)(S:List Sig)(rs:List Rec)(ts:List Int)(d:Ds):∀ j,gH { l with ss:=S } rs ts d j=gH l rs ts d j
 | 0=>rfl
 |j+1=>by
  show kg (gH { l with ss:=S } rs ts d j) _ _ _=kg (gH l rs ts d j) _ _ _
  rw[KN l S rs ts d j];rfl
theorem V0(l:Led)(S:List Sig)(k:Int):aq { l with ss:=S } k={ aq l k with l:={ l with ss:=S } }:=by
 unfold aq
 rw[KL,KN];rfl
theorem Ze(r:Raw):a8 r={ bN r with ss:=lD r (nS r) }:=rfl
theorem AM(r:Raw):dE r=cq (dr r):=rfl
theorem Wx(r:Raw):∀ x∈(l0 r).ts,∃ i:Nat,x.so=3*(i:Int)+2:=fun x hx=>by
 obtain⟨i,-,rfl⟩:=List.mem_map.1 (show x∈(List.range (nT (r0 r))).map (tM (r0 r))from hx)
 exact⟨i,rfl⟩
theorem Ec(r:Raw):∀ x∈(l0 r).rs,(∃ i:Nat,x.so=3*(i:Int)+1)/\1<=x.bo/\x.bo<=4:=fun x hx=>by
 obtain⟨i,hi,rfl⟩:=List.getElem_of_mem hx
 obtain⟨e,h⟩:=Ag r hi
 have h8:=pI (r0 r)
 obtain⟨-,-,-,c4,c5,-⟩:=sx (r0 r) (show i<8 by omega)
 rw[e]
 exact⟨⟨i,rfl⟩,c5,c4⟩
theorem JL{r:Raw}{q:Pq}(h:q∈ct r):0<=q.2/\q.2<=200:=by
 have h1:=(List.mem_filter.1 (show q∈List.filter (pR (l0 r)) (((l0 r).ts.zip (d0 r)).take (l0 r).ts.length)from h)).1
 obtain⟨j,hj,ej⟩:=List.getElem_of_mem (List.mem_of_mem_take h1)
 have ff:j<(l0 r).ts.length:=by simp at hj;omega
 rw[List.getElem_zip]at ej
 have eE:j<nT (r0 r):=by
  have :(l0 r).ts.length=nT (r0 r):=by show ((List.range _).map _).length=_;simp
  omega
 have e2:(d0 r)[j]'(by simp at hj;omega)=du (r0 r) j:=by
  show ((List.range (nT (r0 r))).map (du (r0 r)))[j]'(by simpa using eE)=_
  simp
 have h8:=vj (r0 r)
 rw[e2]at ej
 subst ej
 exact(zt (z' eE) (show j<8 by omega)).2
theorem Wz(r:Raw)(n:Int):cM (l0 r).ps (bE n).id=(bE n).lv:=(qU (pJ n)).1
section
attribute [local irreducible] lN gl l0 d0 ct be b7 dr
theorem UX(r:Raw):eS (bN r) 900=0:=by
 have h0:fV (aV (bN r) 900)=none:=by rw[<-UL];exact Dw r
 refine ID.1 ?_
 unfold kM
 rw[Dw,pK]
 show (true&&fE (aq (bN r) 900) [])=true
 rw[aa0 (ka r) h0];rfl
theorem IJ(r:Raw)(j:Nat):(fv r j).pe=el (aq (bN r) 900) (dE r) (fv r j).pa (fv r j).da (fv r j).le:=by
 rw[RC (ka r) (by rw[CM (ka r)];exact UX r)]
 rfl
theorem J4{r:Raw}{x:Rec}(h:x∈(aq (bN r) 900).rs):x∈(l0 r).rs:=by
 rw[vm]at h
 exact kF (wZ h)
theorem UE(r:Raw)(pa day f:Int):0<=el (aq (bN r) 900) (dE r) pa day f/\el (aq (bN r) 900) (dE r) pa day f<=4:=by
 unfold el
 split
 ·decide
 ·rename_i x hx
  obtain⟨-,h1,h2⟩:=Ec r x (J4 (Qz hx))
  split
  ·omega
  ·split<;>omega
theorem H0(r:Raw)(j:Nat):((bp (aq (bN r) 900) (fv r j)).1= -1/\(bp (aq (bN r) 900) (fv r j)).2=cG)\/
 ∃ m:Nat,m<(dr r).length/\(bp (aq (bN r) 900) (fv r j)).1=m/\(bp (aq (bN r) 900) (fv r j)).2.lo<=(dE r).getD m 0/\(dE r).getD m 0<=(bp (aq (bN r) 900) (fv r j)).2.hi:=by
 have eV:=IJ r j
 generalize fv r j=s at *
 unfold bp
 unfold el at eV
 cases av:eR (aq (bN r) 900).rs s.pa s.le s.da with
 |none=>
  rw[av]at eV
  left
  simp only[eV]
  exact⟨rfl,rfl⟩
 |some x=>
  rw[av]at eV
  simp only at eV |-
  obtain⟨-,F0,-⟩:=Ec r x (J4 (Qz av))
  cases aI:bu (aq (bN r) 900).bk (x.so,s.le)with
  |none=>
   rw[aI]at eV
   simp only at eV |-
   left
   rw[if_pos eV]
   exact⟨rfl,rfl⟩
  |some i=>
   rw[aI]at eV
   simp only at eV |-
   obtain⟨m,rfl,hm,-,-⟩:=(j5 (bN r) 900).bk1 _ _ _ aI
   have pY:m<(dr r).length:=by
    have :=wD hm
    rw[w6,gV]at this
    exact this
   right
   refine⟨m,pY,?_⟩
   have hd:(dE r).getD m 0=(dr r)[m].2:=by rw[AM];exact GX pY
   have hrg:=JL ((qI r).subset ((qJ r).subset (List.getElem_mem pY)))
   rw[Int.toNat_natCast]at eV
   rw[hd]at eV |-
   by_cases hc:(dr r)[m].2>s.da
   ·rw[if_pos hc]at eV
    rw[if_neg (by omega),if_pos eV]
    exact⟨rfl,by show s.da+1<=_;omega,by show _<=(100000:Int);omega⟩
   ·rw[if_neg hc]at eV
    rw[if_pos eV]
    exact⟨rfl,by show (0:Int)<=_;omega,by show _<=s.da;omega⟩
theorem J5(r:Raw){L:List Sig}(hL:∀ s∈L,∃ j,s=fv r j){m:Nat}(hm:m<(dr r).length):
 (aW (dQ (aq (bN r) 900) (aq (bN r) 900).ds L) m).1<=(dE r).getD m 0/\(dE r).getD m 0<=(aW (dQ (aq (bN r) 900) (aq (bN r) 900).ds L) m).2:=by
 have hl:=KP (aq (bN r) 900) m (Int.natCast_nonneg _) L (aq (bN r) 900).ds
 generalize aW (dQ (aq (bN r) 900) (aq (bN r) 900).ds L) m=e at *
 obtain⟨b1,b2⟩:=U0 r hm
 have hd:(dE r).getD m 0=(dr r)[m].2:=by rw[AM];exact GX hm
 have key:∀ s∈L,(bp (aq (bN r) 900) s).1=(m:Int)->(bp (aq (bN r) 900) s).2.lo<=(dE r).getD m 0/\(dE r).getD m 0<=(bp (aq (bN r) 900) s).2.hi:=fun s hs hw=>by
  obtain⟨j,rfl⟩:=hL s hs
  rcases H0 r j with⟨h1,-⟩ | ⟨n,hn,h1,h2,h3⟩
  ·rw[h1]at hw;omega
  ·have:n=m:=by rw[h1]at hw;omega
   subst this;exact⟨h2,h3⟩
 constructor
 ·rcases hl.a1 with h | ⟨s,hs,h1,h2⟩
  ·rw[h,hd];exact b1
  ·rw[<-h2];exact(key s hs h1).1
 ·rcases hl.a2 with h | ⟨s,hs,h1,h2⟩
  ·rw[h,hd];exact b2
  ·rw[<-h2];exact(key s hs h1).2
end
noncomputable section
def KJ(f:FuncId):Option SpecB:=
 match Nat.beq f 132 with
 |true=>some (BF Tryz.prog 29)
 |false=>match Nat.beq f 176 with
  |true=>some (BF Tryz.prog 26)
  |false=>match Nat.beq f 177 with
   |true=>some (BF Tryz.prog 27)
   |false=>match Nat.beq f 178 with
    |true=>some (BF Tryz.prog 28)
    |false=>match Nat.beq f 179 with
     |true=>some abN
     |false=>none
def El(_:FuncId->Option SpecB)(f:FuncId):Option SpecB:=KJ f
theorem abQ:aU Tryz.prog 179 pCloneI:=abM abT rfl
theorem Xe:∀ Γ:FuncId->Option SpecB,(∀ f s,bw Γ f=some s->aL Tryz.prog f s)->∀ f s,El Γ f=some s->aL Tryz.prog f s.spec:=by
 intro Γ _ f s h
 unfold El KJ at h
 split at h
 ·rename_i hb;have:=Nat.eq_of_beq_eq_true hb;subst this;cases h;exact wc PN
 ·split at h
  ·rename_i hb;have:=Nat.eq_of_beq_eq_true hb;subst this;cases h;exact wc ab2
  ·split at h
   ·rename_i hb;have:=Nat.eq_of_beq_eq_true hb;subst this;cases h;exact wc abZ
   ·split at h
    ·rename_i hb;have:=Nat.eq_of_beq_eq_true hb;subst this;cases h;exact wc abW
    ·split at h
     ·rename_i hb;have:=Nat.eq_of_beq_eq_true hb;subst this;cases h;exact abQ.sound
     ·cases h
def Lq(F:List Nat)(T:List Ent):FuncId->Option SpecB:=ΓB Tryz.prog (Hh Tryz.prog El 100000 F T) 100000 24
theorem Xb{F:List Nat}{T:List Ent}(hT:∀ e∈T,aX Tryz.prog e):∀ f s,bw (Lq F T) f=some s->aL Tryz.prog f s:=
 HU (acs (fun Γ h f s=>Xe Γ h f s) hT) 24
theorem cR{F:List Nat}{T:List Ent}(hT:∀ e∈T,aX Tryz.prog e){e:Ent}(h:C4 Tryz.prog (Lq F T) 100000 e=true):aX Tryz.prog e:=T3 (Xb hT) h
theorem cX{P:Program}{e:Ent}{T:List Ent}(h:aX P e)(hT:∀ e∈T,aX P e):∀ x∈e::T,aX P x:=by
 intro x hx
 rcases List.mem_cons.1 hx with rfl | hx
 ·exact h
 ·exact hT x hx
def Md:List Ent:=[]
theorem MS:∀ e∈Md,aX Tryz.prog e:=fun e h=>by cases h
end
end Go.Eng
