import Derived.Test.YtepaolcgegdpoaaGreatK8
/- Texts LW44 to LW61. -/
set_option linter.all false
namespace Go.Eng
open Go Go.Proofs
set_option maxRecDepth 10000
noncomputable section
theorem Tg(l:List Rg):∀ y∈l.map encRg,y.cells.length=2/\y.okc=true:=fun y hy=>by
 obtain⟨a,-,rfl⟩:=List.mem_map.1 hy
 exact⟨rfl,rfl⟩
theorem C4(x:RV)(f:Fol)(day:Int):cO x f day= -1\/∃ j,j<x.l.rs.length/\cO x f day=(j:Int):=Jy x f day _
theorem yJ(x:RV)(i:Nat)(f:Int):c5 x i f= -1\/∃ j,j<x.ts.length/\c5 x i f=(j:Int):=by
 unfold c5
 by_cases h:(List.range x.ts.length).any (j' x (aA x.l i).so f)=true
 ·rw[if_pos h]
  have aa:(List.range x.ts.length).findIdx (j' x (aA x.l i).so f)<(List.range x.ts.length).length:=List.findIdx_lt_length_of_exists (by obtain⟨y,hy,hp⟩:=List.any_eq_true.1 h;exact⟨y,hy,hp⟩)
  exact .inr ⟨_,by simpa using aa,rfl⟩
 ·rw[if_neg h];exact .inl rfl
def c0(d:List Rg)(i:Nat):Rg:=d.getD i default
def fV(x:RV)(d:List Rg)(s:Sig):List Rg×Bool:=
 if cO x ⟨s.pa,s.le⟩ s.da<0 then(d,s.pe==0)else
 if c5 x (cO x ⟨s.pa,s.le⟩ s.da).toNat s.le<0 then(d,s.pe==(aA x.l (cO x ⟨s.pa,s.le⟩ s.da).toNat).bo)else
 if s.pe==(aA x.l (cO x ⟨s.pa,s.le⟩ s.da).toNat).bo then
   (d.set (c5 x (cO x ⟨s.pa,s.le⟩ s.da).toNat s.le).toNat ⟨cI (c0 d (c5 x (cO x ⟨s.pa,s.le⟩ s.da).toNat s.le).toNat).lo (s.da+1),(c0 d (c5 x (cO x ⟨s.pa,s.le⟩ s.da).toNat s.le).toNat).hi⟩,
     decide (cI (c0 d (c5 x (cO x ⟨s.pa,s.le⟩ s.da).toNat s.le).toNat).lo (s.da+1)<=(c0 d (c5 x (cO x ⟨s.pa,s.le⟩ s.da).toNat s.le).toNat).hi))
 else if s.pe==0 then
  (d.set (c5 x (cO x ⟨s.pa,s.le⟩ s.da).toNat s.le).toNat ⟨(c0 d (c5 x (cO x ⟨s.pa,s.le⟩ s.da).toNat s.le).toNat).lo,dY (c0 d (c5 x (cO x ⟨s.pa,s.le⟩ s.da).toNat s.le).toNat).hi s.da⟩,
    decide ((c0 d (c5 x (cO x ⟨s.pa,s.le⟩ s.da).toNat s.le).toNat).lo<=dY (c0 d (c5 x (cO x ⟨s.pa,s.le⟩ s.da).toNat s.le).toNat).hi s.da))
 else(d,false)
theorem I4{x:RV}{d:List Rg}{s:Sig}(h:cO x ⟨s.pa,s.le⟩ s.da= -1):fV x d s=(d,s.pe==0):=by unfold fV;rw[h];rfl
theorem I3{x:RV}{d:List Rg}{s:Sig}{q:Nat}(h:cO x ⟨s.pa,s.le⟩ s.da=q)(hr:c5 x q s.le= -1):fV x d s=(d,s.pe==(aA x.l q).bo):=by
 unfold fV;rw[h,if_neg (by omega),ah,hr];rfl
theorem I6{x:RV}{d:List Rg}{s:Sig}{q j:Nat}(h:cO x ⟨s.pa,s.le⟩ s.da=q)(hr:c5 x q s.le=j)(hm:(s.pe==(aA x.l q).bo)=true):
 fV x d s=(d.set j ⟨cI (c0 d j).lo (s.da+1),(c0 d j).hi⟩,decide (cI (c0 d j).lo (s.da+1)<=(c0 d j).hi)):=by
 unfold fV;rw[h,if_neg (by omega),ah,hr,if_neg (by omega),if_pos hm];rfl
theorem I7{x:RV}{d:List Rg}{s:Sig}{q j:Nat}(h:cO x ⟨s.pa,s.le⟩ s.da=q)(hr:c5 x q s.le=j)(hm:(s.pe==(aA x.l q).bo)=false)(h0:(s.pe==0)=true):
 fV x d s=(d.set j ⟨(c0 d j).lo,dY (c0 d j).hi s.da⟩,decide ((c0 d j).lo<=dY (c0 d j).hi s.da)):=by
 unfold fV;rw[h,if_neg (by omega),ah,hr,if_neg (by omega),if_neg (by rw[hm];decide),if_pos h0];rfl
theorem I5{x:RV}{d:List Rg}{s:Sig}{q j:Nat}(h:cO x ⟨s.pa,s.le⟩ s.da=q)(hr:c5 x q s.le=j)(hm:(s.pe==(aA x.l q).bo)=false)(h0:(s.pe==0)=false):fV x d s=(d,false):=by
 unfold fV;rw[h,if_neg (by omega),ah,hr,if_neg (by omega),if_neg (by rw[hm];decide),if_neg (by rw[h0];decide)]
theorem kf(a b:Int):cI a b=if b>a then b else a:=rfl
theorem gz{d:List Rg}{j:Nat}(h:j<d.length):c0 d j=d[j]:=by unfold c0;rw[List.getD_eq_getElem?_getD,List.getElem?_eq_getElem h];rfl
theorem Hd(d:List Rg)(j:Nat)(a b:Int):(d.map encRg).set j (.agg [.int .i64 a,.int .i64 b])=(d.set j ⟨a,b⟩).map encRg:=by rw[List.map_set];rfl
theorem MN{d:List Rg}{j:Nat}{r:Rg}(h:j<d.length):((d.set j r).map encRg).getD j default=encRg r:=by
 rw[ae (by rw[List.length_set];exact h),List.getElem_set_self]
def K44:List (Nat×Spec):=[(159,Gf),(103,x9)]
theorem acH:KS K44:=tc BZ.sound<|tc yF.sound<|tn
attribute [go_sem] K44
@[go_sem] def P196:PSpec:=p3 e7 (cW wK) iS (fun x d so=>(od x/\d.length=x.ts.length)/\vX so) (fun x d so=>.tup [.sl ((fV x d so).1.map encRg),.bool (fV x d so).2]) false
@[go_sem] def abv:Spec:=P196.toSpec
set_option maxHeartbeats 8000000 in
theorem RB:aL Tryz.prog 196 P196:=by
 refine gL (rs:=[.tmp 6,.tmp 7]) Tryz.func196 Tryz.ntmps196 fun x d so hp hw=>?_
 have hP:=c8
 simp only[e7,wK,iS,cW,encS]at hw |-
 have hΓ:=acH
 obtain⟨⟨⟨ab,fE,-⟩,mC⟩,DC⟩:=hp
 have gm:=ab.rsn
 have ml:=ab.tsn
 have ED:d.length<=maxLen:=by unfold maxLen;omega
 have ags:d.length<=60:=by omega
 have jn:=vL DC
 repeat refine sq ?_
 refine rx hΓ [1,3,5] [[3,0],[5,0]] (fun K' hK=>by simp only[go_sem];exact ak) ?_
 repeat refine sq ?_
 refine rx hΓ [3,5,8] [[3,0],[5,0],[14,0]] (fun K' hK=>by simp only[go_sem,ED,List.length_map];(repeat (refine⟨by first | exact ao | exact⟨Tg _,rfl,by omega⟩,?_⟩));exact cF) ?_
 rcases C4 x ⟨so.pa,so.le⟩ so.da with bL | ⟨q,hq,bL⟩
 ·repeat refine sq ?_
  refine rx hΓ [3,5,8,9] [[3,0],[5,0],[14,0]] (fun K' hK=>by simp only[go_sem,bL];exact ak) ?_
  repeat refine sq ?_
  refine rx hΓ [3,5,8,9,25] [[3,0],[5,0],[14,0]] (fun K' hK=>by simp only[go_sem,bL];exact ak) ?_
  repeat refine sq ?_
  refine au (fun hb=>?_) fun hb=>?_
  ·repeat refine sq ?_
   have e:=I4 (d:=d) bL
   repeat refine sq ?_
   refine dx hΓ hP [[],[],[1],[1,2],[0],u5] [6,7] [[14,0]] (by kernel_rfl) (fun K' hK=>by simp only[go_sem,bL];exact eQ) ?_
   refine aq ?_
   simp only[go_sem]
   first | (rw[e];done) | (rw[e];simp only[gz eC,kf,jN];done) | (rw[e];simp only[gz eC,kf,jN];exact⟨rfl,List.length_set⟩) | (rw[e];simp[gz eC,kf,jN];trace_state;done)
  ·cases hb
 ·have bZ:(q:Int)<x.l.rs.length:=by omega
  have nT:=eh hq
  repeat refine sq ?_
  refine rx hΓ [3,5,8,9] [[3,0],[5,0],[14,0]] (fun K' hK=>by simp only[go_sem,bL];exact ak) ?_
  repeat refine sq ?_
  refine rx hΓ [3,5,8,9,25] [[3,0],[5,0],[14,0]] (fun K' hK=>by simp only[go_sem,bL];exact ak) ?_
  repeat refine sq ?_
  refine au (fun hb=>?_) fun hb=>?_
  ·cases hb
  ·repeat refine sq ?_
   refine ay ?_
   rcases yJ x q so.le with bP | ⟨j,hj,bP⟩
   ·repeat refine sq ?_
    refine rx hΓ [3,5,8,9,10] [[3,0],[5,0],[14,0]] (fun K' hK=>by simp only[go_sem,bL,bP,ah];(repeat (refine⟨by first | exact ao | exact⟨⟨ab,fE⟩,aj _,bZ⟩,?_⟩));exact cF) ?_
    repeat refine sq ?_
    refine dx hΓ hP [[],[0],[],[2],[2,3],[],[2,3,4,5],[2,3,4,5,6],[2,3,4,5,6,7],u9,bI] [5,8,10,11] [[5,0],[14,0]] (by kernel_rfl) (fun K' hK=>by simp only[go_sem,bL,bP,ae hq,bZ,ah,aj,List.length_map];exact eQ) ?_
    repeat refine sq ?_
    refine rx hΓ [5,8,10,11,46] [[5,0],[14,0]] (fun K' hK=>by simp only[go_sem,bL,bP];exact ak) ?_
    repeat refine sq ?_
    refine au (fun hb=>?_) fun hb=>?_
    ·repeat refine sq ?_
     have e:=I3 (d:=d) bL bP
     rw[nT]at e
     repeat refine sq ?_
     refine rx hΓ [6,7] [[14,0]] (fun K' hK=>by simp only[go_sem,bL,bP];exact ak) ?_
     refine aq ?_
     simp only[go_sem]
     first | (rw[e];done) | (rw[e];simp only[gz eC,kf,jN];done) | (rw[e];simp only[gz eC,kf,jN];exact⟨rfl,List.length_set⟩) | (rw[e];simp[gz eC,kf,jN];trace_state;done)
    ·cases hb
   ·have eC:j<d.length:=by omega
    have mA:(j:Int)<d.length:=by omega
    repeat refine sq ?_
    refine rx hΓ [3,5,8,9,10] [[3,0],[5,0],[14,0]] (fun K' hK=>by simp only[go_sem,bL,bP,ah];(repeat (refine⟨by first | exact ao | exact⟨⟨ab,fE⟩,aj _,bZ⟩,?_⟩));exact cF) ?_
    repeat refine sq ?_
    refine dx hΓ hP [[],[0],[],[2],[2,3],[],[2,3,4,5],[2,3,4,5,6],[2,3,4,5,6,7],u9,bI] [5,8,10,11] [[5,0],[14,0]] (by kernel_rfl) (fun K' hK=>by simp only[go_sem,bL,bP,ae hq,bZ,ah,aj,List.length_map];exact eQ) ?_
    repeat refine sq ?_
    refine rx hΓ [5,8,10,11,46] [[5,0],[14,0]] (fun K' hK=>by simp only[go_sem,bL,bP];exact ak) ?_
    repeat refine sq ?_
    refine au (fun hb=>?_) fun hb=>?_
    ·cases hb
    ·repeat refine sq ?_
     refine ay ?_
     repeat refine sq ?_
     refine rx hΓ [5,8,10,49] [[5,0],[14,0]] (fun K' hK=>by simp only[go_sem,bL,bP];exact ak) ?_
     repeat refine sq ?_
     refine au (fun hb=>?_) fun hb=>?_
     ·repeat refine sq ?_
      have e:=I6 (d:=d) bL bP (by rw[nT];simpa using hb)
      repeat refine sq ?_
      refine dx hΓ hP [[],[],[],[],[2,3],[2,3,4],[2,3,4,5],[],[7],[7,8],[2,3,4,5,6,7,8,9],cz,dS,fJ] [8,10] [[14,0]] (by kernel_rfl) (fun K' hK=>by simp only[go_sem,bL,bP,jn,vInt,Hd,ae eC,mA,ah,aj,List.length_map];exact eQ) ?_
      repeat refine sq ?_
      refine dx hΓ hP [[],[],[],[1,2],[1,2,3],[1,2,3,4],[],[],[6,7],[6,7,8],[6,7,8,9],[1,2,3,4,5,6,7,8,9,10],[0],fJ] [6,7] [[14,0]] (by kernel_rfl) (fun K' hK=>by simp only[go_sem,bL,bP,MN eC,mA,ah,aj,List.length_map,List.length_set];exact eQ) ?_
      refine aq ?_
      simp only[go_sem]
      first | (rw[e];done) | (rw[e];simp only[gz eC,kf,jN];done) | (rw[e];simp only[gz eC,kf,jN];exact⟨rfl,List.length_set⟩) | (rw[e];simp[gz eC,kf,jN];trace_state;done)
     ·repeat refine sq ?_
      have hm:(so.pe==(aA x.l q).bo)=false:=by rw[nT];simpa using hb
      repeat refine sq ?_
      refine rx hΓ [5,8,10,65] [[5,0],[14,0]] (fun K' hK=>by simp only[go_sem,bL,bP];exact ak) ?_
      repeat refine sq ?_
      refine au (fun hb=>?_) fun hb=>?_
      ·repeat refine sq ?_
       have e:=I7 (d:=d) bL bP hm (by simpa using hb)
       repeat refine sq ?_
       refine dx hΓ hP [[],[],[],[],[2,3],[2,3,4],[2,3,4,5],[],[7],[2,3,4,5,6,7,8],bI,cz,dS] [8,10] [[14,0]] (by kernel_rfl) (fun K' hK=>by simp only[go_sem,bL,bP,vInt,Hd,ae eC,mA,ah,aj,List.length_map];exact eQ) ?_
       repeat refine sq ?_
       refine dx hΓ hP [[],[],[],[1,2],[1,2,3],[1,2,3,4],[],[],[6,7],[6,7,8],[6,7,8,9],[1,2,3,4,5,6,7,8,9,10],[0],fJ] [6,7] [[14,0]] (by kernel_rfl) (fun K' hK=>by simp only[go_sem,bL,bP,MN eC,mA,ah,aj,List.length_map,List.length_set];exact eQ) ?_
       refine aq ?_
       simp only[go_sem]
       first | (rw[e];done) | (rw[e];simp only[gz eC,kf,jN];done) | (rw[e];simp only[gz eC,kf,jN];exact⟨rfl,List.length_set⟩) | (rw[e];simp[gz eC,kf,jN];trace_state;done)
      ·repeat refine sq ?_
       have e:=I5 (d:=d) bL bP hm (by simpa using hb)
       repeat refine sq ?_
       refine rx hΓ [6,7] [[14,0]] (fun K' hK=>by simp only[go_sem,bL,bP];exact ak) ?_
       refine aq ?_
       simp only[go_sem]
       first | (rw[e];done) | (rw[e];simp only[gz eC,kf,jN];done) | (rw[e];simp only[gz eC,kf,jN];exact⟨rfl,List.length_set⟩) | (rw[e];simp[gz eC,kf,jN];trace_state;done)
end
noncomputable section
def kD(x:RV)(s:Nat):List Rg:=(List.range s).map (lX x)
theorem aaB(x:RV)(s:Nat):kD x (s+1)=kD x s++[lX x s]:=by unfold kD;rw[List.range_succ,List.map_append];rfl
theorem FG(x:RV)(s:Nat):(kD x s).length=s:=by simp[kD]
def gI(x:RV)(is:List Int):Nat->List Rg×Bool
 | 0=>(kD x x.l.ts.length,true)
 |s+1=>((fV x (gI x is s).1 (gy x.l (is.getD s 0).toNat)).1,(gI x is s).2&&(fV x (gI x is s).1 (gy x.l (is.getD s 0).toNat)).2)
theorem Ts(x:RV)(d:List Rg)(s:Sig):(fV x d s).1.length=d.length:=by
 unfold fV
 split
 ·rfl
 ·split
  ·rfl
  ·split
   ·simp
   ·split
    ·simp
    ·rfl
theorem Fb(x:RV)(is:List Int)(s:Nat):(gI x is s).1.length=x.l.ts.length:=by
 induction s with
 |zero=>exact FG _ _
 |succ s ih=>unfold gI;rw[Ts,ih]
theorem Th{l:Led}(h:bp l){i:Nat}(hi:i<l.ss.length):vX l.ss[i]:=by
 have :=jC h.ss hi
 unfold jH at this
 simp only[Bool.and_eq_true]at this
 have hd:=this.1.2
 unfold dayB bT at hd
 simp at hd
 exact hd
def K45:List (Nat×Spec):=[(195,abw),(196,abv)]
theorem acG:KS K45:=tc RC.sound<|tc RB.sound<|tn
attribute [go_sem] K45
@[go_sem] def P183:PSpec:=p2 e7 cm (fun x is=>od x/\is.length<=60/\∀ a∈is,0<=a/\a<x.l.ss.length) (fun x is=>.tup [.sl ((gI x is is.length).1.map encRg),.bool (gI x is is.length).2]) false
@[go_sem] def abB:Spec:=P183.toSpec
set_option maxHeartbeats 8000000 in
theorem RJ:aL Tryz.prog 183 P183:=by
 refine cK (rs:=[.tmp 4,.tmp 5]) Tryz.func183 Tryz.ntmps183 fun x az hp hw=>?_
 have hP:=c8
 simp only[cm,e7]at hw |-
 have hΓ:=acG
 obtain⟨hv,mB,zS⟩:=hp
 have ab:=hv.1
 have gm:=ab.rsn
 have ml:=ab.tsn
 have fE:=hv.2.1
 have hl:x.l.ts.length<=maxLen:=by unfold maxLen;omega
 have Ed:az.length<=maxLen:=by unfold maxLen;omega
 repeat refine sq ?_
 refine rx hΓ [1,2] [[2,0]] (fun K' hK=>by simp only[go_sem];exact ak) ?_
 repeat refine sq ?_
 refine rx hΓ [1,2,6] [[2,0],[25,0]] (fun K' hK=>by simp only[go_sem];exact ak) ?_
 refine bH (ql 6 [25,0] 2 (by simp only[go_sem]) (by simp only[go_sem]) [1,2,6] [[2,0],[25,0]] ?_ rfl) ?_
 ·simp only[go_sem]
 simp only[go_sem]
 repeat refine sq ?_
 refine rx hΓ [1,2,6,7] [[2,0],[25,0]] (fun K' hK=>by simp only[go_sem];exact ak) ?_
 repeat refine sq ?_
 refine aC ?_
 repeat refine sq ?_
 refine bA (fun s:Nat=>[(7,⟨true,.v (vInt s)⟩),(6,⟨true,.msl [25,0] (kD x s).length⟩)]) (fun s=>[([25,0],.arr 2 ((kD x s).map encRg))]) (fun s=>s<=x.l.ts.length) (fun s=>x.l.ts.length-s) 0 ?_ ?_ ?_ ?_
 ·exact Nat.zero_le _
 ·rfl
 ·rfl
 rintro i hi
 simp only[go_sem]
 repeat refine sq ?_
 refine rx hΓ [1,2,6,7,17] [[2,0],[25,0]] (fun K' hK=>by simp only[go_sem];exact ak) ?_
 repeat refine sq ?_
 refine au (fun hb=>?_) fun hb=>?_
 ·have aa:i<x.l.ts.length:=by simpa using hb
  have an:(i:Int)<x.l.ts.length:=by omega
  clear hb
  have hbl:=FG x i
  repeat refine sq ?_
  refine ay ?_
  repeat refine sq ?_
  refine aC ?_
  repeat refine sq ?_
  refine aI hΓ fun K' hK=>?_
  simp only[go_sem,ae aa,ah,aj,an]
  repeat (refine⟨by first | exact ao | exact⟨hv,aj _,an⟩,?_⟩)
  refine hK _ ?_
  clear K' hK
  simp only[go_sem]
  refine kp [1,2,6,7] [[2,0],[25,0]] ?_
  repeat refine sq ?_
  refine aI hΓ fun K' hK=>?_
  simp only[go_sem,ae aa,ah,aj,an]
  repeat (refine⟨ao,?_⟩)
  refine hK _ ?_
  clear K' hK
  simp only[go_sem]
  refine⟨i+1,aa,by(show x.l.ts.length-(i+1)<x.l.ts.length-i;omega),?_⟩
  refine aT [1,2,6,7] [[2,0],[25,0]] ?_ ?_<;>simp only[go_sem,aO aa hl,aQ,aaB,List.map_append,List.length_append,List.map_cons,List.map_nil,List.length_cons,List.length_nil]
 ·have aV:i=x.l.ts.length:=by
   have :¬ (i:Int)<x.l.ts.length:=by simpa using hb
   omega
  clear hb
  subst aV
  repeat refine sq ?_
  refine be ?_
  simp only[go_sem]
  refine kp [1,2,6] [[2,0],[25,0]] ?_
  repeat refine sq ?_
  refine rx hΓ [1,2,6,8] [[2,0],[25,0]] (fun K' hK=>by simp only[go_sem];exact ak) ?_
  refine bH (cZ 6 (.msl [25,0] (kD x x.l.ts.length).length) (by simp only[go_sem]) (by simp only[go_sem]) [1,2,6,8] [[2,0]] ?_ rfl) ?_
  ·simp only[go_sem]
  simp only[go_sem]
  repeat refine sq ?_
  refine rx hΓ [1,2,6,8,9] [[2,0]] (fun K' hK=>by simp only[go_sem];exact ak) ?_
  repeat refine sq ?_
  refine aC ?_
  repeat refine sq ?_
  refine bA (fun s:Nat=>[(9,⟨true,.v (vInt s)⟩),(6,⟨true,.v (.sl ((gI x az s).1.map encRg))⟩),(8,⟨true,.v (.bool (gI x az s).2)⟩)]) (fun s=>[]) (fun s=>s<=az.length) (fun s=>az.length-s) 0 ?_ ?_ ?_ ?_
  ·exact Nat.zero_le _
  ·rfl
  ·rfl
  rintro i1 hi
  simp only[go_sem]
  repeat refine sq ?_
  refine rx hΓ [1,2,6,8,9,29] [[2,0]] (fun K' hK=>by simp only[go_sem];exact ak) ?_
  repeat refine sq ?_
  refine au (fun hb=>?_) fun hb=>?_
  ·have aE:i1<az.length:=by simpa using hb
   have bc:(i1:Int)<az.length:=by omega
   clear hb
   obtain⟨hz0,hz1⟩:=zS az[i1] (List.getElem_mem aE)
   obtain⟨m,hm⟩:∃ m:Nat,az[i1]=m:=⟨az[i1].toNat,by omega⟩
   have D8:m<x.l.ss.length:=by omega
   have X1:(m:Int)<x.l.ss.length:=by omega
   have mC:=(Fb x az i1).trans fE.symm
   have eD:gI x az (i1+1)=((fV x (gI x az i1).1 x.l.ss[m]).1,(gI x az i1).2&&(fV x (gI x az i1).1 x.l.ss[m]).2):=by
    have ez:az.getD i1 0=(m:Int):=by rw[List.getD_eq_getElem?_getD,List.getElem?_eq_getElem aE];exact hm
    rw[gI,ez,ah,vV D8]
   repeat refine sq ?_
   refine ay ?_
   repeat refine sq ?_
   refine aC ?_
   repeat refine sq ?_
   refine dx hΓ hP [[],[],[],[2],[2,3],[],[],[5,6],[5,6,7],[2,3,4,5,6,7,8],[2,3,4,5,6,7,8,9],cz,dS,fJ,fJ,eE,u16] [1,2,8,9,10,11] [[2,0]] (by kernel_rfl) (fun K' hK=>by simp only[go_sem,ae aE,ah,aj,bc,hm,ae D8,X1];(repeat (refine⟨by first | exact ao | exact⟨⟨hv,mC⟩,Th ab D8⟩,?_⟩));exact iw) ?_
   repeat refine sq ?_
   refine rx hΓ [1,2,6,8,9,11] [[2,0]] (fun K' hK=>by simp only[go_sem,ae aE,ah,aj,bc];exact ak) ?_
   repeat refine sq ?_
   refine aI hΓ fun K' hK=>?_
   simp only[go_sem,ae aE,ah,aj,bc]
   repeat (refine⟨ao,?_⟩)
   refine hK _ ?_
   clear K' hK
   simp only[go_sem]
   refine kp [1,2,6,8,9] [[2,0]] ?_
   repeat refine sq ?_
   refine aI hΓ fun K' hK=>?_
   simp only[go_sem,ae aE,ah,aj,bc]
   repeat (refine⟨ao,?_⟩)
   refine hK _ ?_
   clear K' hK
   simp only[go_sem]
   refine⟨i1+1,aE,by(show az.length-(i1+1)<az.length-i1;omega),?_⟩
   refine aT [1,2,6,8,9] [[2,0]] ?_ ?_<;>simp only[go_sem,aO aE Ed,aQ,eD]
  ·have fc:i1=az.length:=by
    have :¬ (i1:Int)<az.length:=by simpa using hb
    omega
   clear hb
   subst fc
   repeat refine sq ?_
   refine be ?_
   simp only[go_sem]
   refine kp [6,8] [] ?_
   repeat refine sq ?_
   refine rx hΓ [4,5] [] (fun K' hK=>by simp only[go_sem];exact ak) ?_
   refine aq ?_
   simp only[go_sem]
   skip
end
noncomputable section
def aX(l:Led)(k:Int):RV:=⟨l,k,bN l k l.ts.length,[]⟩
def K46:List (Nat×Spec):=[(71,O1)]
theorem acF:KS K46:=tc Hp.sound<|tn
attribute [go_sem] K46
@[go_sem] def P73:PSpec:=p2 iL iI (fun l _=>bp l) (fun l k=>vm (aX l k)) false
@[go_sem] def O0:Spec:=P73.toSpec
set_option maxHeartbeats 8000000 in
theorem Ho:aL Tryz.prog 73 P73:=by
 refine cK (rs:=[.cell 4 108]) Tryz.func73 Tryz.ntmps73 fun l k hp hw=>?_
 have hP:=c8
 simp only[iI,iL,dq]at hw |-
 have hΓ:=acF
 repeat refine sq ?_
 refine rx hΓ [1,2,4] [[2,0],[4,0],[10,0]] (fun K' hK=>by simp only[go_sem];exact ak) ?_
 repeat refine sq ?_
 refine dx hΓ hP [[],[],[],[],[2,3],u5,u6] [4] [[4,0],[10,0]] (by kernel_rfl) (fun K' hK=>by simp only[go_sem];exact eQ) ?_
 refine bH (l6 [4,0] [10,0] 6 2 _ rfl rfl rfl [4] [[4,0],[10,0]] ?_ rfl) ?_
 ·simp only[go_sem,List.set_cons_succ,List.set_cons_zero]
 simp only[go_sem,List.set_cons_succ,List.set_cons_zero]
 refine bH (yi [4,0] [10,0] 6 _ _ _ _ rfl rfl rfl (by first | rfl | (simp only[List.length_map];done)) [4] [[4,0]] ?_ rfl) ?_
 ·simp only[go_sem,List.set_cons_succ,List.set_cons_zero]
 simp only[go_sem,List.set_cons_succ,List.set_cons_zero]
 refine aq ?_
 simp only[go_sem]
 first | rfl | trace_state
end
noncomputable section
def kz(x:RV)(a b:Nat)(f:Int):Bool:=(dr x.k ⟨(aA x.l a).pa,f⟩ (aA x.l a)&&dr x.k ⟨(aA x.l a).pa,f⟩ (aA x.l b))&&
 (((aA x.l a).da==(aA x.l b).da||decide (c5 x a f<0))||decide (lk (aK x.l (c5 x a f).toNat) (aA x.l a)>(aA x.l b).da))
def fj(x:RV)(a b:Nat):Bool:=(aA x.l a).lv.any (kz x a b)
def fR(x:RV)(a b:Nat):Bool:=if (aA x.l a).da>(aA x.l b).da then fj x b a else fj x a b
theorem F4{α:Type}{p:α->Bool}{l:List α}(h:∀ j (hj:j<l.length),j<l.length->p l[j]=false):l.any p=false:=by
 rw[List.any_eq_false]
 intro y hy
 obtain⟨j,hj,rfl⟩:=List.getElem_of_mem hy
 rw[h j hj hj];decide
theorem Ti{l:Led}(h:bp l){i:Nat}(hi:i<l.rs.length):l.rs[i].lv.length<=30:=(lL.1 (Cf (jC h.rs hi))).2.1
def K47:List (Nat×Spec):=[(188,Ge),(103,x9),(158,Gg)]
theorem acE:KS K47:=tc BX.sound<|tc yF.sound<|tc B0.sound<|tn
attribute [go_sem] K47
def P137d:PSpec:=p3 e7 iI iI (fun x a b=>od x/\(0<=a/\a<x.l.rs.length/\0<=b/\b<x.l.rs.length)/\¬ (aA x.l a.toNat).da>(aA x.l b.toNat).da) (fun x a b=>.bool (fj x a.toNat b.toNat)) true
set_option maxHeartbeats 8000000 in
theorem HA:aL Tryz.prog 137 P137d:=by
 refine gL (rs:=[.tmp 6]) Tryz.func137 Tryz.ntmps137 fun x a b hp hw=>?_
 have hP:=c8
 simp only[e7,iI,vm]at hw |-
 have hΓ:=acE
 obtain⟨hv,⟨z8,ku,z6,iq⟩,hle⟩:=hp
 have ab:=hv.1
 have fE:=hv.2.1
 obtain⟨n,rfl⟩:∃ n:Nat,a=n:=⟨a.toNat,by omega⟩
 obtain⟨m,rfl⟩:∃ m:Nat,b=m:=⟨b.toNat,by omega⟩
 have hn:n<x.l.rs.length:=by omega
 have hm:m<x.l.rs.length:=by omega
 have lj:=eh hn
 have p8:=eh hm
 simp only[ah,lj,p8]at hle |-
 have Ef:decide (x.l.rs[n].da>x.l.rs[m].da)=false:=decide_eq_false hle
 have uV:=Ti ab hn
 have pE:x.l.rs[n].lv.length<=maxLen:=by unfold maxLen;omega
 repeat refine sq ?_
 refine rx hΓ [1,2,3] [[3,0]] (fun K' hK=>by simp only[go_sem];exact ak) ?_
 repeat refine sq ?_
 refine rx hΓ [1,2,3,7] [[3,0],[7,0]] (fun K' hK=>by simp only[go_sem,ae hn,ah,aj,ku,List.length_map];exact ak) ?_
 repeat refine sq ?_
 refine rx hΓ [1,2,3,7,8] [[3,0],[7,0],[8,0]] (fun K' hK=>by simp only[go_sem,ae hm,ah,aj,iq,List.length_map];exact ak) ?_
 repeat refine sq ?_
 refine rx hΓ [1,2,3,7,8,28] [[3,0],[7,0],[8,0]] (fun K' hK=>by simp only[go_sem,Ef];exact ak) ?_
 repeat refine sq ?_
 refine au (fun hb=>?_) fun hb=>?_
 ·cases hb
 ·repeat refine sq ?_
  refine ay ?_
  repeat refine sq ?_
  refine rx hΓ [1,2,3,7,8,9] [[3,0],[7,0],[8,0]] (fun K' hK=>by simp only[go_sem];exact ak) ?_
  repeat refine sq ?_
  refine aC ?_
  repeat refine sq ?_
  refine bA (fun s:Nat=>[(9,⟨true,.v (vInt s)⟩)]) (fun s=>[]) (fun s=>s<=x.l.rs[n].lv.length/\∀ j (hj:j<x.l.rs[n].lv.length),j<s->kz x n m x.l.rs[n].lv[j]=false) (fun s=>x.l.rs[n].lv.length-s) 0 ?_ ?_ ?_ ?_
  ·exact⟨Nat.zero_le _,by simp⟩
  ·rfl
  ·rfl
  rintro i ⟨hi,hR⟩
  simp only[go_sem]
  repeat refine sq ?_
  refine rx hΓ [1,2,3,7,8,9,37] [[3,0],[7,0],[8,0]] (fun K' hK=>by simp only[go_sem];exact ak) ?_
  repeat refine sq ?_
  refine au (fun hb=>?_) fun hb=>?_
  ·have aa:i<x.l.rs[n].lv.length:=by simpa using hb
   have an:(i:Int)<x.l.rs[n].lv.length:=by omega
   clear hb
   have elf:x.l.rs[n].lv.getD i 0=x.l.rs[n].lv[i]:=by rw[List.getD_eq_getElem?_getD,List.getElem?_eq_getElem aa];rfl
   repeat refine sq ?_
   refine ay ?_
   repeat refine sq ?_
   refine aC ?_
   repeat refine sq ?_
   refine dx hΓ hP [[],[0],[],[2],[],[2,3,4],[2,3,4,5],u7,[],u9] [1,2,3,7,8,9,10] [[3,0],[7,0],[8,0],[10,0]] (by kernel_rfl) (fun K' hK=>by simp only[go_sem,ae aa,ah,aj,an];exact eQ) ?_
   repeat refine sq ?_
   refine rx hΓ [1,2,3,7,8,9,10,59] [[3,0],[7,0],[8,0],[10,0]] (fun K' hK=>by simp only[go_sem,ae aa,ah,aj,an,ah,lj,p8];(repeat (refine⟨by first | exact ao | exact⟨aj _,ku⟩ | exact fun h=>⟨h,aj _,iq⟩,?_⟩));exact cF) ?_
   repeat refine sq ?_
   refine au (fun hb=>?_) fun hb=>?_
   ·repeat refine sq ?_
    have eF:kz x n m x.l.rs[n].lv[i]=false:=by
     unfold kz;rw[lj,p8]
     cases h1:dr x.k ⟨x.l.rs[n].pa,x.l.rs[n].lv[i]⟩ x.l.rs[n]<;>cases h2:dr x.k ⟨x.l.rs[n].pa,x.l.rs[n].lv[i]⟩ x.l.rs[m]<;>rw[h1,h2]at hb<;>first | rfl | (simp at hb;done)
    refine be ?_
    simp only[go_sem]
    refine kp [1,2,3,7,8,9] [[3,0],[7,0],[8,0]] ?_
    repeat refine sq ?_
    refine aI hΓ fun K' hK=>?_
    simp only[go_sem,ae aa,ah,aj,an]
    repeat (refine⟨ao,?_⟩)
    refine hK _ ?_
    clear K' hK
    simp only[go_sem]
    refine⟨i+1,⟨aa,?_⟩,by(show x.l.rs[n].lv.length-(i+1)<x.l.rs[n].lv.length-i;omega),?_⟩
    ·intro j hj dB
     rcases Nat.lt_succ_iff_lt_or_eq.1 dB with h5 | rfl
     ·exact hR j hj h5
     ·exact eF
    refine aT [1,2,3,7,8,9] [[3,0],[7,0],[8,0]] ?_ ?_<;>simp only[go_sem,aO aa pE,aQ]
   ·repeat refine sq ?_
    have h1:dr x.k ⟨x.l.rs[n].pa,x.l.rs[n].lv[i]⟩ x.l.rs[n]=true:=by
     cases h:dr x.k ⟨x.l.rs[n].pa,x.l.rs[n].lv[i]⟩ x.l.rs[n]with | true=>rfl | false=>rw[h]at hb;simp at hb
    have h2:dr x.k ⟨x.l.rs[n].pa,x.l.rs[n].lv[i]⟩ x.l.rs[m]=true:=by
     cases h:dr x.k ⟨x.l.rs[n].pa,x.l.rs[n].lv[i]⟩ x.l.rs[m]with | true=>rfl | false=>rw[h,h1]at hb;simp at hb
    clear hb
    refine ay ?_
    repeat refine sq ?_
    refine rx hΓ [1,2,3,7,8,9,11] [[3,0],[7,0],[8,0]] (fun K' hK=>by simp only[go_sem,ae aa,ah,aj,an,ah];(repeat (refine⟨by first | exact ao | exact⟨⟨ab,fE⟩,aj _,ku⟩,?_⟩));exact cF) ?_
    rcases yJ x n x.l.rs[n].lv[i]with bP | ⟨j,hj,bP⟩
    ·repeat refine sq ?_
     refine dx hΓ hP [[],[0],[],[2],u4,u5,u6,u7,u8,u9,bI,cz,dS,bI,eE,lx,bI,iG,bI,[0,1,2,3,4,5,6,7,8,9,18],gN,jG] [1,2,3,7,8,9,86] [[3,0],[7,0],[8,0]] (by kernel_rfl) (fun K' hK=>by simp only[go_sem,ae aa,ah,aj,an,bP,pr];(repeat (refine⟨by first | exact ao | exact fun h=>⟨h,r8 ab (List.getElem_mem hn)⟩,?_⟩));exact iw) ?_
     repeat refine sq ?_
     refine au (fun hb=>?_) fun hb=>?_
     ·repeat refine sq ?_
      have eF:kz x n m x.l.rs[n].lv[i]=true:=by unfold kz;rw[lj,p8,h1,h2,bP];simp
      have e:fj x n m=true:=by unfold fj;rw[lj];exact List.any_eq_true.2 ⟨_,List.getElem_mem aa,eF⟩
      repeat refine sq ?_
      refine rx hΓ [6] [] (fun K' hK=>by simp only[go_sem,ae aa,ah,aj,an,bP,pr];exact ak) ?_
      refine aq ?_
      simp only[go_sem]
      first | (rw[e];done) | (rw[show fj x n m=false from by unfold fj;rw[lj];exact F4 hR])
     ·cases hb
    ·have pP:j<x.l.ts.length:=by omega
     have va:(j:Int)<x.l.ts.length:=by omega
     have dn:decide ((j:Int)<0)=false:=by simp
     repeat refine sq ?_
     refine dx hΓ hP [[],[0],[],[2],u4,u5,u6,u7,u8,u9,bI,cz,dS,bI,eE,lx,bI,iG,bI,[0,1,2,3,4,5,6,7,8,9,18],gN,jG] [1,2,3,7,8,9,86] [[3,0],[7,0],[8,0]] (by kernel_rfl) (fun K' hK=>by simp only[go_sem,ae aa,ah,aj,an,bP,dn,ae pP,va,ah,aj,List.length_map];(repeat (refine⟨by first | exact ao | exact fun h=>⟨h,r8 ab (List.getElem_mem hn)⟩,?_⟩));exact iw) ?_
     repeat refine sq ?_
     refine au (fun hb=>?_) fun hb=>?_
     ·repeat refine sq ?_
      have eF:kz x n m x.l.rs[n].lv[i]=true:=by unfold kz;rw[lj,p8,h1,h2,bP,ah,kG pP,dn];simpa using hb
      have e:fj x n m=true:=by unfold fj;rw[lj];exact List.any_eq_true.2 ⟨_,List.getElem_mem aa,eF⟩
      repeat refine sq ?_
      refine rx hΓ [6] [] (fun K' hK=>by simp only[go_sem,ae aa,ah,aj,an,bP,dn,ae pP,va,ah,aj,List.length_map];exact ak) ?_
      refine aq ?_
      simp only[go_sem]
      first | (rw[e];done) | (rw[show fj x n m=false from by unfold fj;rw[lj];exact F4 hR])
     ·repeat refine sq ?_
      have eF:kz x n m x.l.rs[n].lv[i]=false:=by unfold kz;rw[lj,p8,h1,h2,bP,ah,kG pP,dn];simpa using hb
      refine ay ?_
      refine br ?_
      simp only[go_sem]
      refine kp [1,2,3,7,8,9] [[3,0],[7,0],[8,0]] ?_
      repeat refine sq ?_
      refine aI hΓ fun K' hK=>?_
      simp only[go_sem,ae aa,ah,aj,an,bP,dn,ae pP,va,ah,aj,List.length_map]
      repeat (refine⟨ao,?_⟩)
      refine hK _ ?_
      clear K' hK
      simp only[go_sem]
      refine⟨i+1,⟨aa,?_⟩,by(show x.l.rs[n].lv.length-(i+1)<x.l.rs[n].lv.length-i;omega),?_⟩
      ·intro j hj dB
       rcases Nat.lt_succ_iff_lt_or_eq.1 dB with h5 | rfl
       ·exact hR j hj h5
       ·exact eF
      refine aT [1,2,3,7,8,9] [[3,0],[7,0],[8,0]] ?_ ?_<;>simp only[go_sem,aO aa pE,aQ]
  ·have aV:i=x.l.rs[n].lv.length:=by
    have :¬ (i:Int)<x.l.rs[n].lv.length:=by simpa using hb
    omega
   clear hb
   subst aV
   repeat refine sq ?_
   refine be ?_
   simp only[go_sem]
   refine kp [] [] ?_
   repeat refine sq ?_
   refine rx hΓ [6] [] (fun K' hK=>by simp only[go_sem];exact ak) ?_
   refine aq ?_
   simp only[go_sem]
   first | (rw[e];done) | (rw[show fj x n m=false from by unfold fj;rw[lj];exact F4 hR])
end
noncomputable section
def Pe:Spec:=P137d.toSpec
attribute [go_sem] P137d Pe
def K48:List (Nat×Spec):=[(137,Pe)]
theorem acD:KS K48:=tc HA.sound<|tn
attribute [go_sem] K48
def P137u:PSpec:=p3 e7 iI iI (fun x a b=>od x/\(0<=a/\a<x.l.rs.length/\0<=b/\b<x.l.rs.length)/\(aA x.l a.toNat).da>(aA x.l b.toNat).da) (fun x a b=>.bool (fj x b.toNat a.toNat)) true
set_option maxHeartbeats 8000000 in
theorem R5:aL Tryz.prog 137 P137u:=by
 refine gL (rs:=[.tmp 6]) Tryz.func137 Tryz.ntmps137 fun x a b hp hw=>?_
 simp only[e7,iI,vm]at hw |-
 have hΓ:=acD
 obtain⟨hv,⟨z8,ku,z6,iq⟩,hle⟩:=hp
 obtain⟨n,rfl⟩:∃ n:Nat,a=n:=⟨a.toNat,by omega⟩
 obtain⟨m,rfl⟩:∃ m:Nat,b=m:=⟨b.toNat,by omega⟩
 have hn:n<x.l.rs.length:=by omega
 have hm:m<x.l.rs.length:=by omega
 have lj:=eh hn
 have p8:=eh hm
 simp only[ah,lj,p8]at hle |-
 have Ef:decide (x.l.rs[n].da>x.l.rs[m].da)=true:=decide_eq_true hle
 repeat refine sq ?_
 refine rx hΓ [1,2,3] [[3,0]] (fun K' hK=>by simp only[go_sem];exact ak) ?_
 repeat refine sq ?_
 refine rx hΓ [1,2,3,7] [[3,0],[7,0]] (fun K' hK=>by simp only[go_sem,ae hn,ah,aj,ku,List.length_map];exact ak) ?_
 repeat refine sq ?_
 refine rx hΓ [1,2,3,7,8] [[3,0],[7,0],[8,0]] (fun K' hK=>by simp only[go_sem,ae hm,ah,aj,iq,List.length_map];exact ak) ?_
 repeat refine sq ?_
 refine rx hΓ [1,2,3,7,8,28] [[3,0],[7,0],[8,0]] (fun K' hK=>by simp only[go_sem,Ef];exact ak) ?_
 repeat refine sq ?_
 refine au (fun hb=>?_) fun hb=>?_
 ·repeat refine sq ?_
  refine rx hΓ [6] [] (fun K' hK=>by simp only[go_sem,ah];(repeat (refine⟨by first | exact ao | exact⟨hv,⟨aj _,iq,aj _,ku⟩,by simp only[ah,lj,p8];omega⟩,?_⟩));exact cF) ?_
  refine aq ?_
  simp only[go_sem]
  skip
 ·cases hb
theorem aL.or{P:Program}{f:FuncId}{s s1 s2:PSpec}(h1:aL P f s1)(h2:aL P f s2)(hs:s.flat=true->s1.flat=true/\s2.flat=true)
 (hc:∀ xs,s.pre xs->(s1.pre xs/\s1.fn xs=s.fn xs)\/(s2.pre xs/\s2.fn xs=s.fn xs)):aL P f s where
 ne:=h1.ne
 enter:=h1.enter
 flat:=fun hf xs hp=>by
  rcases hc xs hp with⟨a,e⟩ | ⟨a,e⟩
  ·rw[<-e];exact h1.flat (hs hf).1 xs a
  ·rw[<-e];exact h2.flat (hs hf).2 xs a
 calls:=fun m w xs args ha hr hp=>by
  rcases hc xs hp with⟨a,e⟩ | ⟨a,e⟩
  ·rw[<-e];exact h1.calls m w xs args ha hr a
  ·rw[<-e];exact h2.calls m w xs args ha hr a
@[go_sem] def P137:PSpec:=p3 e7 iI iI (fun x a b=>od x/\0<=a/\a<x.l.rs.length/\0<=b/\b<x.l.rs.length) (fun x a b=>.bool (fR x a.toNat b.toNat)) true
@[go_sem] def abP:Spec:=P137.toSpec
theorem R6:aL Tryz.prog 137 P137:=by
 refine HA.or R5 (fun _=>⟨rfl,rfl⟩) fun xs hp=>?_
 unfold P137 p3 at hp
 dsimp only at hp
 split at hp
 ·rename_i x y z
  by_cases hle:(aA (e7.dec x).l (iI.dec y).toNat).da>(aA (e7.dec x).l (iI.dec z).toNat).da
  ·refine .inr ⟨⟨hp.1,hp.2.1,hp.2.2.1,hp.2.2.2.1,hp.2.2.2.2,hle⟩,?_⟩
   show V.bool (fj _ _ _)=V.bool (fR _ _ _)
   rw[fR,if_pos hle]
  ·refine .inl ⟨⟨hp.1,hp.2.1,hp.2.2.1,hp.2.2.2.1,hp.2.2.2.2,hle⟩,?_⟩
   show V.bool (fj _ _ _)=V.bool (fR _ _ _)
   rw[fR,if_neg hle]
 ·exact hp.elim
end
noncomputable section
def j6(x:RV)(f:Fol)(day:Int):List Int:=
 if cO x f day<0 then[0]else
 if(decide (c5 x (cO x f day).toNat f.le<0)||decide ((c0 x.ds (c5 x (cO x f day).toNat f.le).toNat).lo>day))=true then[(aA x.l (cO x f day).toNat).bo]else
 if(c0 x.ds (c5 x (cO x f day).toNat f.le).toNat).hi<=day then[0]else[0,(aA x.l (cO x f day).toNat).bo]
def K49:List (Nat×Spec):=[(159,Gf),(103,x9)]
theorem acC:KS K49:=tc BZ.sound<|tc yF.sound<|tn
attribute [go_sem] K49
@[go_sem] def P101:PSpec:=p3 e7 iQ iI (fun x _ _=>od x/\x.ds.length=x.ts.length) (fun x f day=>.sl ((j6 x f day).map vInt)) false
@[go_sem] def Bj:Spec:=P101.toSpec
set_option maxHeartbeats 8000000 in
theorem Si:aL Tryz.prog 101 P101:=by
 refine gL (rs:=[.tmp 6]) Tryz.func101 Tryz.ntmps101 fun x f day hp hw=>?_
 simp only[iQ,iI,e7,ea]at hw |-
 have hΓ:=acC
 obtain⟨⟨ab,fE,-⟩,mC⟩:=hp
 repeat refine sq ?_
 refine rx hΓ [2,3,4] [[3,0],[4,0]] (fun K' hK=>by simp only[go_sem];exact ak) ?_
 rcases C4 x f day with bL | ⟨q,hq,bL⟩
 ·repeat refine sq ?_
  refine rx hΓ [2,3,4,7] [[3,0],[4,0]] (fun K' hK=>by simp only[go_sem,bL,eR];(repeat (refine⟨by first | exact ao | exact ab,?_⟩));exact cF) ?_
  repeat refine sq ?_
  refine rx hΓ [2,3,4,7,15] [[3,0],[4,0]] (fun K' hK=>by simp only[go_sem,bL,eR];exact ak) ?_
  repeat refine sq ?_
  refine au (fun hb=>?_) fun hb=>?_
  ·repeat refine sq ?_
   have e:j6 x f day=[0]:=by unfold j6;rw[bL];rfl
   repeat refine sq ?_
   refine rx hΓ [6] [] (fun K' hK=>by simp only[go_sem,bL,eR];exact ak) ?_
   refine aq ?_
   simp only[go_sem]
   rw[e];rfl
  ·cases hb
 ·have bZ:(q:Int)<x.l.rs.length:=by omega
  have nT:=eh hq
  repeat refine sq ?_
  refine rx hΓ [2,3,4,7] [[3,0],[4,0]] (fun K' hK=>by simp only[go_sem,bL,eR];(repeat (refine⟨by first | exact ao | exact ab,?_⟩));exact cF) ?_
  repeat refine sq ?_
  refine rx hΓ [2,3,4,7,15] [[3,0],[4,0]] (fun K' hK=>by simp only[go_sem,bL,eR];exact ak) ?_
  repeat refine sq ?_
  refine au (fun hb=>?_) fun hb=>?_
  ·cases hb
  ·repeat refine sq ?_
   refine ay ?_
   repeat refine sq ?_
   refine rx hΓ [2,3,4,7,8] [[3,0],[4,0]] (fun K' hK=>by simp only[go_sem,bL,eR,ae hq,bZ,ah,aj,List.length_map];exact ak) ?_
   rcases yJ x q f.le with bP | ⟨j,hj,bP⟩
   ·repeat refine sq ?_
    refine rx hΓ [2,3,8,9] [[3,0]] (fun K' hK=>by simp only[go_sem,bL,eR,bP,pr,ah];(repeat (refine⟨by first | exact ao | exact⟨⟨ab,fE⟩,aj _,bZ⟩,?_⟩));exact cF) ?_
    repeat refine sq ?_
    refine rx hΓ [2,3,8,9,40] [[3,0]] (fun K' hK=>by simp only[go_sem,bL,eR,bP,pr];exact ak) ?_
    repeat refine sq ?_
    refine au (fun hb=>?_) fun hb=>?_
    ·repeat refine sq ?_
     have e:j6 x f day=[x.l.rs[q].bo]:=by unfold j6;rw[bL,if_neg (by omega),ah,bP,nT];rfl
     repeat refine sq ?_
     refine rx hΓ [6] [] (fun K' hK=>by simp only[go_sem,bL,eR,bP,pr];exact ak) ?_
     refine aq ?_
     simp only[go_sem]
     rw[e];rfl
    ·cases hb
   ·have eC:j<x.ds.length:=by omega
    have mA:(j:Int)<x.ds.length:=by omega
    have dn:decide ((j:Int)<0)=false:=by simp
    repeat refine sq ?_
    refine rx hΓ [2,3,8,9] [[3,0]] (fun K' hK=>by simp only[go_sem,bL,eR,bP,dn,ae eC,mA,ah,aj,List.length_map,ah];(repeat (refine⟨by first | exact ao | exact⟨⟨ab,fE⟩,aj _,bZ⟩,?_⟩));exact cF) ?_
    repeat refine sq ?_
    refine rx hΓ [2,3,8,9,40] [[3,0]] (fun K' hK=>by simp only[go_sem,bL,eR,bP,dn,ae eC,mA,ah,aj,List.length_map];exact ak) ?_
    repeat refine sq ?_
    refine au (fun hb=>?_) fun hb=>?_
    ·repeat refine sq ?_
     have e:j6 x f day=[x.l.rs[q].bo]:=by unfold j6;rw[bL,if_neg (by omega),ah,bP,nT,ah,gz eC,dn,Bool.false_or,if_pos (by simpa using hb)]
     repeat refine sq ?_
     refine rx hΓ [6] [] (fun K' hK=>by simp only[go_sem,bL,eR,bP,dn,ae eC,mA,ah,aj,List.length_map];exact ak) ?_
     refine aq ?_
     simp only[go_sem]
     rw[e];rfl
    ·repeat refine sq ?_
     have eB:¬ x.ds[j].lo>day:=by simpa using hb
     refine ay ?_
     repeat refine sq ?_
     refine rx hΓ [8,50] [] (fun K' hK=>by simp only[go_sem,bL,eR,bP,dn,ae eC,mA,ah,aj,List.length_map,ae eC,mA,ah,aj,List.length_map];exact ak) ?_
     repeat refine sq ?_
     refine au (fun hb=>?_) fun hb=>?_
     ·repeat refine sq ?_
      have e:j6 x f day=[0]:=by unfold j6;rw[bL,if_neg (by omega),ah,bP,ah,gz eC,if_neg (by simpa using eB),if_pos (by simpa using hb)]
      repeat refine sq ?_
      refine rx hΓ [6] [] (fun K' hK=>by simp only[go_sem,bL,eR,bP,dn,ae eC,mA,ah,aj,List.length_map];exact ak) ?_
      refine aq ?_
      simp only[go_sem]
      rw[e];rfl
     ·repeat refine sq ?_
      have e:j6 x f day=[0,x.l.rs[q].bo]:=by unfold j6;rw[bL,if_neg (by omega),ah,bP,nT,ah,gz eC,if_neg (by simpa using eB),if_neg (by simpa using hb)]
      refine ay ?_
      repeat refine sq ?_
      refine rx hΓ [6] [] (fun K' hK=>by simp only[go_sem,bL,eR,bP,dn,ae eC,mA,ah,aj,List.length_map];exact ak) ?_
      refine aq ?_
      simp only[go_sem]
      rw[e];rfl
end
noncomputable section
def vx(x:RV)(i:Nat):Option (Int×Int):=((List.range x.l.rs.length).find? fun j=>decide (i<j)&&fR x i j).map fun j=>((aA x.l i).so,(aA x.l j).so)
def gf(x:RV):Option (Int×Int):=(List.range x.l.rs.length).findSome? (vx x)
def ti(x:RV):List Int:=match gf x with
 |some p=>[p.1,p.2]
 |none=>[]
theorem ND{x:RV}{i:Nat}(h:∀ j,i<j->j<x.l.rs.length->fR x i j=false):vx x i=none:=by
 unfold vx
 rw[List.find?_eq_none.2]
 ·rfl
 ·intro j hj
  have dp:j<x.l.rs.length:=by simpa using hj
  by_cases b7:i<j
  ·rw[h j b7 dp];simp
  ·simp[b7]
theorem Z4{x:RV}{i j:Nat}(b7:i<j)(hj:j<x.l.rs.length)(h:fR x i j=true)(hn:∀ m,i<m->m<j->fR x i m=false):vx x i=some ((aA x.l i).so,(aA x.l j).so):=by
 unfold vx
 rw[(List.find?_eq_some_iff_getElem (b:=j)).2 ⟨by simp[b7,h],j,by simpa using hj,by simp,fun m hm=>by
  rw[List.getElem_range]
  by_cases Mi:i<m
  ·simp[hn m Mi hm]
  ·simp[Mi]⟩]
 rfl
theorem Z2{x:RV}{i j:Nat}(hi:i<x.l.rs.length)(b7:i<j)(hj:j<x.l.rs.length)(h:fR x i j=true)(hn:∀ m,i<m->m<j->fR x i m=false)
 (hb:∀ a,a<i->∀ m,a<m->m<x.l.rs.length->fR x a m=false):gf x=some ((aA x.l i).so,(aA x.l j).so):=by
 unfold gf
 rw[List.findSome?_eq_some_iff]
 refine⟨List.range i,i,(List.range' (i+1) (x.l.rs.length-(i+1))),?_,Z4 b7 hj h hn,fun a ha=>ND fun m h1 h2=>hb a (by simpa using ha) m h1 h2⟩
 rw[List.range_eq_range',List.range_eq_range',<-List.range'_succ]
 have h1:=List.range'_append_1 (s:=0) (m:=i) (n:=x.l.rs.length-(i+1)+1)
 rw[Nat.zero_add]at h1
 rw[h1]
 congr 1
 omega
theorem NC{x:RV}(hb:∀ a,a<x.l.rs.length->∀ m,a<m->m<x.l.rs.length->fR x a m=false):gf x=none:=by
 unfold gf
 rw[List.findSome?_eq_none_iff]
 exact fun a ha=>ND fun m h1 h2=>hb a (by simpa using ha) m h1 h2
def K50:List (Nat×Spec):=[(137,abP)]
theorem acB:KS K50:=tc R6.sound<|tn
attribute [go_sem] K50
@[go_sem] def P133:PSpec:=p1 e7 (fun x=>od x) (fun x=>.sl ((ti x).map vInt)) false
@[go_sem] def abR:Spec:=P133.toSpec
set_option maxHeartbeats 8000000 in
theorem R8:aL Tryz.prog 133 P133:=by
 refine dR (rs:=[.tmp 2]) Tryz.func133 Tryz.ntmps133 fun x hp hw=>?_
 have hP:=c8
 simp only[e7]at hw |-
 have hΓ:=acB
 have gm:=hp.1.rsn
 have hl:x.l.rs.length<=maxLen:=by unfold maxLen;omega
 repeat refine sq ?_
 refine rx hΓ [1] [[1,0]] (fun K' hK=>by simp only[go_sem];exact ak) ?_
 repeat refine sq ?_
 refine rx hΓ [1,3] [[1,0]] (fun K' hK=>by simp only[go_sem];exact ak) ?_
 repeat refine sq ?_
 refine aC ?_
 repeat refine sq ?_
 refine bA (fun s:Nat=>[(3,⟨true,.v (vInt s)⟩)]) (fun s=>[]) (fun s=>s<=x.l.rs.length/\∀ a,a<s->∀ m,a<m->m<x.l.rs.length->fR x a m=false) (fun s=>x.l.rs.length-s) 0 ?_ ?_ ?_ ?_
 ·exact⟨Nat.zero_le _,fun a h=>by omega⟩
 ·rfl
 ·rfl
 rintro i ⟨hi,hR⟩
 simp only[go_sem]
 repeat refine sq ?_
 refine rx hΓ [1,3,10] [[1,0]] (fun K' hK=>by simp only[go_sem];exact ak) ?_
 repeat refine sq ?_
 refine au (fun hb=>?_) fun hb=>?_
 ·have aa:i<x.l.rs.length:=by simpa using hb
  have an:(i:Int)<x.l.rs.length:=by omega
  clear hb
  have wQ:IntKind.i64.wrap ((i:Int)+1)=((i+1:Nat):Int):=aO aa hl
  have ZC:=eh aa
  have bU:(i:Int)<x.l.rs.length:=by omega
  repeat refine sq ?_
  refine ay ?_
  repeat refine sq ?_
  refine aC ?_
  repeat refine sq ?_
  refine rx hΓ [1,3,4] [[1,0]] (fun K' hK=>by simp only[go_sem,ae aa,ah,aj,an,wQ];exact ak) ?_
  repeat refine sq ?_
  refine aC ?_
  repeat refine sq ?_
  refine bA (fun s:Nat=>[(4,⟨true,.v (vInt s)⟩)]) (fun s=>[]) (fun s=>s<=x.l.rs.length/\i<s/\∀ m,i<m->m<s->fR x i m=false) (fun s=>x.l.rs.length-s) (i+1) ?_ ?_ ?_ ?_
  ·exact⟨aa,Nat.lt_succ_self i,fun m h1 h2=>by omega⟩
  ·rfl
  ·rfl
  rintro i1 ⟨hi,hR⟩
  simp only[go_sem]
  repeat refine sq ?_
  refine rx hΓ [1,3,4,20] [[1,0]] (fun K' hK=>by simp only[go_sem,ae aa,ah,aj,an];exact ak) ?_
  repeat refine sq ?_
  refine au (fun hb=>?_) fun hb=>?_
  ·have aE:i1<x.l.rs.length:=by simpa using hb
   have bc:(i1:Int)<x.l.rs.length:=by omega
   clear hb
   have ZB:=eh aE
   have dp:(i1:Int)<x.l.rs.length:=by omega
   repeat refine sq ?_
   refine ay ?_
   repeat refine sq ?_
   refine aC ?_
   repeat refine sq ?_
   refine rx hΓ [1,3,4,26] [[1,0]] (fun K' hK=>by simp only[go_sem,ae aa,ah,aj,an,ae aE,ah,aj,bc,ae aa,ae aE,bU,dp,ah,aj,List.length_map];(repeat (refine⟨by first | exact ao | exact⟨hp,aj _,bU,aj _,dp⟩,?_⟩));exact cF) ?_
   repeat refine sq ?_
   refine au (fun hb=>?_) fun hb=>?_
   ·repeat refine sq ?_
    have hd:fR x i i1=true:=by simpa using hb
    have e:ti x=[x.l.rs[i].so,x.l.rs[i1].so]:=by unfold ti;rw[Z2 aa hR.1 aE hd hR.2 (by assumption),ZC,ZB]
    repeat refine sq ?_
    refine dx hΓ hP [[],[0],[0,1],[],u4,u5,u6,[],[7],[7,8],[],[7,8,9,10],[7,8,9,10,11],[7,8,9,10,11,12],eE,lx] [2] [] (by kernel_rfl) (fun K' hK=>by simp only[go_sem,ae aa,ah,aj,an,ae aE,ah,aj,bc,ae aa,ae aE,bU,dp,ah,aj,List.length_map];exact eQ) ?_
    refine aq ?_
    simp only[go_sem]
    rw[e];rfl
   ·repeat refine sq ?_
    refine ay ?_
    refine br ?_
    simp only[go_sem]
    refine kp [1,3,4] [[1,0]] ?_
    repeat refine sq ?_
    refine aI hΓ fun K' hK=>?_
    simp only[go_sem,ae aa,ah,aj,an,ae aE,ah,aj,bc]
    repeat (refine⟨ao,?_⟩)
    refine hK _ ?_
    clear K' hK
    simp only[go_sem]
    refine⟨i1+1,⟨aE,?_⟩,by(show x.l.rs.length-(i1+1)<x.l.rs.length-i1;omega),?_⟩
    ·refine⟨by omega,fun m h1 h2=>?_⟩
     rcases Nat.lt_succ_iff_lt_or_eq.1 h2 with h5 | rfl
     ·exact hR.2 m h1 h5
     ·simpa using hb
    refine aT [1,3,4] [[1,0]] ?_ ?_<;>simp only[go_sem,aO aE hl,aQ]
  ·have fc:i1=x.l.rs.length:=by
    have :¬ (i1:Int)<x.l.rs.length:=by simpa using hb
    omega
   clear hb
   subst fc
   repeat refine sq ?_
   refine be ?_
   simp only[go_sem]
   refine kp [1,3] [[1,0]] ?_
   repeat refine sq ?_
   refine aI hΓ fun K' hK=>?_
   simp only[go_sem,ae aa,ah,aj,an]
   repeat (refine⟨ao,?_⟩)
   refine hK _ ?_
   clear K' hK
   simp only[go_sem]
   refine⟨i+1,⟨aa,?_⟩,by(show x.l.rs.length-(i+1)<x.l.rs.length-i;omega),?_⟩
   ·intro a ha m h1 h2
    rcases Nat.lt_succ_iff_lt_or_eq.1 ha with h5 | rfl
    ·exact(by assumption:∀ a,a<i->∀ m,a<m->m<x.l.rs.length->fR x a m=false) a h5 m h1 h2
    ·exact hR.2 m h1 (by omega)
   refine aT [1,3] [[1,0]] ?_ ?_<;>simp only[go_sem,aO aa hl,aQ]
 ·have aV:i=x.l.rs.length:=by
   have :¬ (i:Int)<x.l.rs.length:=by simpa using hb
   omega
  clear hb
  subst aV
  repeat refine sq ?_
  refine be ?_
  simp only[go_sem]
  refine kp [] [] ?_
  repeat refine sq ?_
  refine rx hΓ [2] [] (fun K' hK=>by simp only[go_sem];exact ak) ?_
  refine aq ?_
  simp only[go_sem]
  have e:ti x=[]:=by unfold ti;rw[NC hR]
  rw[e];rfl
end
noncomputable section
theorem tU(l:Led)(k:Int){s i:Nat}(h:(bN l k s).getD i false=true):i<s/\iJ l k (bN l k i) i=true:=by
 induction s with
 |zero=>rw[yr l k (Nat.zero_le i)]at h;cases h
 |succ s ih=>
  by_cases hi:i<s
  ·have e:(bN l k (s+1)).getD i false=(bN l k s).getD i false:=by
     rw[bN]
     split
     ·rw[List.getD_eq_getElem?_getD,List.getElem?_set_ne (by omega),<-List.getD_eq_getElem?_getD]
     ·rfl
   rw[e]at h
   exact⟨by omega,(ih h).2⟩
  ·by_cases hs:i=s
   ·subst hs
    refine⟨by omega,?_⟩
    cases hb:iJ l k (bN l k i) i with
    |true=>rfl
    |false=>rw[yq l k hb,yr l k (Nat.le_refl i)]at h;cases h
   ·rw[yr l k (by omega)]at h;cases h
theorem BD{l:Led}{k:Int}{row:List Bool}{i:Nat}(h:iJ l k row i=true):¬ dw l (aK l i).re k<0:=by
 unfold iJ at h
 split at h
 ·cases h
 ·assumption
theorem B5{l:Led}(h:bp l)(k:Int):od (aX l k):=⟨h,m5 _ _ _,fun _ hi=>BD (tU l k hi).2⟩
theorem BS(x:RV):∀ s,∀ a∈iK x s,0<=a/\a<s
 | 0,a,h=>nomatch h
 |s+1,a,h=>by
  rw[iK]at h
  split at h
  ·rcases List.mem_append.1 h with h | h
   ·have:=BS x s a h;omega
   ·simp only[List.mem_singleton]at h;omega
  ·have:=BS x s a h;omega
theorem Z3(x:RV):decide (((ti x).length:Int)>0)=(gf x).isSome:=by unfold ti;cases gf x<;>rfl
def v5(l:Led)(k:Int):List Int:=iK (aX l k) l.ss.length
def gJ(l:Led)(k:Int):List Rg×Bool:=gI (aX l k) (v5 l k) (v5 l k).length
def dX(l:Led)(k:Int):Int:=if (gf (aX l k)).isSome=true then 25 else if (gJ l k).2=true then 0 else 27
def eY(l:Led)(k:Int):RV:=if dX l k=0 then { aX l k with ds:=(gJ l k).1 }else aX l k
def K51:List (Nat×Spec):=[(73,O0),(133,abR),(135,abQ),(183,abB)]
theorem acA:KS K51:=tc Ho.sound<|tc R8.sound<|tc R7.sound<|tc RJ.sound<|tn
attribute [go_sem] K51
@[go_sem] def P99:PSpec:=p2 iL iI (fun l _=>bp l) (fun l k=>.tup [vm (eY l k),vInt (dX l k)]) false
@[go_sem] def tF:Spec:=P99.toSpec
set_option maxHeartbeats 8000000 in
theorem BW:aL Tryz.prog 99 P99:=by
 refine cK (rs:=[.cell 4 108,.tmp 5]) Tryz.func99 Tryz.ntmps99 fun l k hp hw=>?_
 have hP:=c8
 simp only[iI,iL,dq]at hw |-
 have hΓ:=acA
 have hv:=B5 hp k
 have wV:=hp.ssn
 have Yd:=BS (aX l k) l.ss.length
 have xi:=Hb (aX l k) l.ss.length
 repeat refine sq ?_
 refine rx hΓ [1,2,4] [[2,0],[4,0]] (fun K' hK=>by simp only[go_sem];exact ak) ?_
 repeat refine sq ?_
 refine rx hΓ [4,6] [[4,0],[6,0]] (fun K' hK=>by simp only[go_sem];(repeat (refine⟨by first | exact ao | exact hp,?_⟩));exact cF) ?_
 repeat refine sq ?_
 refine rx hΓ [4,6,15] [[4,0],[6,0]] (fun K' hK=>by simp only[go_sem,List.length_map,Z3];(repeat (refine⟨by first | exact ao | exact hv,?_⟩));exact cF) ?_
 repeat refine sq ?_
 refine au (fun hb=>?_) fun hb=>?_
 ·repeat refine sq ?_
  have e:dX l k=25:=by unfold dX;rw[if_pos hb]
  have e2:eY l k=aX l k:=by unfold eY;rw[e];rfl
  repeat refine sq ?_
  refine rx hΓ [4,5] [[4,0]] (fun K' hK=>by simp only[go_sem];exact ak) ?_
  refine aq ?_
  simp only[go_sem]
  first | (rw[e,e2];done) | (rw[e,e2];rfl)
 ·repeat refine sq ?_
  have h0:(gf (aX l k)).isSome=false:=by simpa using hb
  refine ay ?_
  repeat refine sq ?_
  refine dx hΓ hP [[],[],[1],[0,1,2],u4,u5,u5,u6,u8] [4,6,7,8] [[4,0],[6,0]] (by kernel_rfl) (fun K' hK=>by simp only[go_sem];(repeat (refine⟨by first | exact ao | first | exact hv | exact hp | exact⟨hv,Nat.le_trans xi wV,Yd⟩,?_⟩));exact iw) ?_
  repeat refine sq ?_
  refine rx hΓ [4,6,7,25] [[4,0],[6,0]] (fun K' hK=>by simp only[go_sem];exact ak) ?_
  repeat refine sq ?_
  refine au (fun hb=>?_) fun hb=>?_
  ·repeat refine sq ?_
   have h1:(gJ l k).2=false:=by have h:(!(gJ l k).2)=true:=hb;simpa using h
   have e:dX l k=27:=by unfold dX;rw[if_neg (by rw[h0];decide),if_neg (by rw[h1];decide)]
   have e2:eY l k=aX l k:=by unfold eY;rw[e];rfl
   repeat refine sq ?_
   refine rx hΓ [4,5] [[4,0]] (fun K' hK=>by simp only[go_sem];exact ak) ?_
   refine aq ?_
   simp only[go_sem]
   first | (rw[e,e2];done) | (rw[e,e2];rfl)
  ·repeat refine sq ?_
   have h1:(gJ l k).2=true:=by have h:(!(gJ l k).2)=false:=hb;simpa using h
   have e:dX l k=0:=by unfold dX;rw[if_neg (by rw[h0];decide),if_pos h1]
   have e2:eY l k={ aX l k with ds:=(gJ l k).1 }:=by unfold eY;rw[if_pos e]
   refine ay ?_
   repeat refine sq ?_
   refine rx hΓ [4,6] [[4,0],[6,0]] (fun K' hK=>by simp only[go_sem];exact ak) ?_
   repeat refine sq ?_
   refine rx hΓ [4,5] [[4,0]] (fun K' hK=>by simp only[go_sem];exact ak) ?_
   refine aq ?_
   simp only[go_sem]
   first | (rw[e,e2];done) | (rw[e,e2];rfl)
end
theorem Zz{α:Type}(p:α->Bool)(l:List α):l.find? p=if cf p l<0 then none else l[(cf p l).toNat]?:=by
 unfold cf
 by_cases h:l.any p=true
 ·rw[if_pos h]
  have aa:l.findIdx p<l.length:=List.findIdx_lt_length_of_exists (by obtain⟨x,hx,hp⟩:=List.any_eq_true.1 h;exact⟨x,hx,hp⟩)
  rw[if_neg (by omega),Int.toNat_natCast,List.getElem?_eq_getElem aa]
  exact List.find?_eq_some_iff_getElem.2 ⟨List.findIdx_getElem (w:=aa),_,aa,rfl,fun j hj=>by simpa using List.not_of_lt_findIdx hj⟩
 ·rw[if_neg h,if_pos (by omega)]
  rw[List.find?_eq_none]
  intro x hx hp
  exact h (List.any_eq_true.2 ⟨x,hx,hp⟩)
theorem Ic(l:Led)(k so:Int):eJ (bK l k) so=if dw l so k<0 then none else some (aA l (dw l so k).toNat):=by
 unfold eJ bK
 rw[List.find?_filter]
 have e:(fun a:Rec=>decide (cG a.kn a.un k=true/\(a.so==so)=true))=fun r=>r.so==so&&cG r.kn r.un k:=by
  funext a
  cases cG a.kn a.un k<;>cases (a.so==so)<;>rfl
 rw[e,Zz]
 show (if dw l so k<0 then none else l.rs[(dw l so k).toNat]?)=_
 rcases v8 l so k with h | ⟨j,hj,h,-⟩
 ·rw[h];rfl
 ·rw[h,if_neg (by omega),if_neg (by omega),Int.toNat_natCast,eh hj,List.getElem?_eq_getElem hj]
theorem Qb(l:Led)(k:Int){s j:Nat}(h:s<l.ts.length):(bN l k (s+1)).getD j false=if j=s then iJ l k (bN l k s) s else(bN l k s).getD j false:=by
 rw[<-GV l k h]
 by_cases hj:j=s
 ·subst hj
  rw[if_pos rfl,List.getD_eq_getElem?_getD,List.getElem?_set_self (by rw[m5];exact h)]
  rfl
 ·rw[if_neg hj,List.getD_eq_getElem?_getD,List.getElem?_set_ne (by omega),<-List.getD_eq_getElem?_getD]
theorem vR{l:Led}{k:Int}{s j:Nat}(h:(bN l k s).getD j false=true):j<s:=(tU l k h).1
structure Bg (l:Led) (k:Int) (s:Nat):Prop where
 ts:∀ j:Nat,(bN l k s).getD j false=true↔(j:Int)∈(aF l k s).ts
 tn:(aF l k s).ts.Nodup
 tl:∀ j∈(aF l k s).ts,0<=j/\j<s
 bk1:∀ so f i,bJ (aF l k s).bk (so,f)=some i->∃ j:Nat,i=j/\(bN l k s).getD j false=true/\(aK l j).re=so/\f∈(aK l j).lv
 bk2:∀ j:Nat,(bN l k s).getD j false=true->∀ f∈(aK l j).lv,bJ (aF l k s).bk ((aK l j).re,f)=some (j:Int)
 ds:∀ j:Nat,(bN l k s).getD j false=true->bt (aF l k s).ds j=(cI (aK l j).lo ((mb (bK l k) (aK l j).re).da+1),(aK l j).hi)
theorem Ao(d:Ds)(i j:Int)(v:Int×Int):bt (nW d i v) j=if i=j then v else bt d j:=by
 induction d with
 |nil=>rfl
 |cons e r ih=>
  obtain⟨k,x⟩:=e
  simp only[nW]
  by_cases h:k=i
  ·rw[if_pos h]
   subst h
   simp only[bt]
   split<;>rfl
  ·rw[if_neg h]
   simp only[bt,ih]
   by_cases h2:k=j
   ·subst h2
    rw[if_pos rfl,if_pos rfl,if_neg (fun e=>h e.symm)]
   ·rw[if_neg h2,if_neg h2]
theorem aba{l:Led}{k:Int}{s:Nat}(h:Bg l k s)(x:Ret)(f:Int):(bJ (aF l k s).bk (x.re,f)).isSome=!jB (m4 l (bN l k s) x f) s:=by
 cases hb:bJ (aF l k s).bk (x.re,f)with
 |none=>
  have :jB (m4 l (bN l k s) x f) s=true:=by
   unfold jB
   rw[List.all_eq_true]
   intro j _
   unfold m4
   cases hj:((bN l k s).getD j false&&(aK l j).re==x.re&&(aK l j).lv.contains f)with
   |false=>rfl
   |true=>
    simp only[Bool.and_eq_true,beq_iff_eq,List.contains_iff_mem]at hj
    have :=h.bk2 j hj.1.1 f hj.2
    rw[hj.1.2,hb]at this
    cases this
  rw[this];rfl
 |some i=>
  obtain⟨j,rfl,h1,h2,h3⟩:=h.bk1 _ _ _ hb
  have :jB (m4 l (bN l k s) x f) s=false:=by
   unfold jB
   rw[List.all_eq_false]
   refine⟨j,List.mem_range.2 (vR h1),?_⟩
   unfold m4
   rw[h1,h2]
   simp[h3]
  rw[this];rfl
theorem Tz{l:Led}{k:Int}{s:Nat}(h:Bg l k s):ji k (bK l k) (aF l k s).bk (aK l s)=if iJ l k (bN l k s) s=true then some (aA l (dw l (aK l s).re k).toNat)else none:=by
 unfold ji iJ
 rw[Ic]
 by_cases hx:dw l (aK l s).re k<0
 ·rw[if_pos hx,if_pos hx];rfl
 ·rw[if_neg hx,if_neg hx]
  have zx:(aA l (dw l (aK l s).re k).toNat).so=(aK l s).re:=by
   rcases v8 l (aK l s).re k with h | ⟨j,hj,h,hr⟩
   ·rw[h]at hx;exact absurd (by decide) hx
   ·rw[h,Int.toNat_natCast,eh hj]
    unfold mi at hr
    simp only[Bool.and_eq_true,beq_iff_eq]at hr
    exact hr.1
  have ir:((aK l s).lv.any fun f=>(bJ (aF l k s).bk ((aA l (dw l (aK l s).re k).toNat).so,f)).isSome||!(aA l (dw l (aK l s).re k).toNat).lv.contains f)=!(aK l s).lv.all (oE l (bN l k s) s (aA l (dw l (aK l s).re k).toNat) (aK l s)):=by
   rw[zx,List.not_all_eq_any_not]
   congr 1
   funext f
   rw[aba h]
   unfold oE
   rw[Bool.not_and,Bool.or_comm]
  show (if (cG (aK l s).kn (aK l s).un k&&!(decide (cI (aK l s).lo ((aA l (dw l (aK l s).re k).toNat).da+1)>(aK l s).hi)||(aK l s).lv.any fun f=>(bJ (aF l k s).bk ((aA l (dw l (aK l s).re k).toNat).so,f)).isSome||!(aA l (dw l (aK l s).re k).toNat).lv.contains f))=true then _ else _)=_
  rw[ir]
  unfold lk
  cases cG (aK l s).kn (aK l s).un k<;>cases decide (cI (aK l s).lo ((aA l (dw l (aK l s).re k).toNat).da+1)>(aK l s).hi)<;>cases (aK l s).lv.all (oE l (bN l k s) s (aA l (dw l (aK l s).re k).toNat) (aK l s))<;>rfl
theorem GW(l:Led)(k:Int):∀ s,s<=l.ts.length->Bg l k s
 | 0,_=>by
   have hf:∀ j,¬ (bN l k 0).getD j false=true:=fun j h=>absurd (vR h) (Nat.not_lt_zero j)
   exact⟨fun j=>⟨fun h=>(hf j h).elim,fun h=>(nomatch h)⟩,List.nodup_nil,fun j h=>(nomatch h),fun so f i h=>(nomatch h),fun j h=>(hf j h).elim,fun j h=>(hf j h).elim⟩
 |s+1,hs=>by
  have ih:=GW l k s (by omega)
  have hn:=Tz ih
  have cL:=fun j=>Qb l k (s:=s) (j:=j) (by omega)
  by_cases hb:iJ l k (bN l k s) s=true
  ·rw[if_pos hb]at hn
   have e:=CV hn
   obtain⟨sB,-,-,wS⟩:=Jc hn
   obtain⟨LL,cg⟩:=Ig sB
   have nA:mb (bK l k) (aK l s).re=aA l (dw l (aK l s).re k).toNat:=by unfold mb;rw[sB];rfl
   generalize aA l (dw l (aK l s).re k).toNat=r at *
   have fx:∀ f∈(aK l s).lv,bJ (aF l k s).bk (r.so,f)=none:=fun f hf=>by
    have :=List.any_eq_false.1 wS f hf
    unfold jf at this
    simp only[Bool.or_eq_true,not_or,Option.isSome_iff_ne_none,ne_eq,Decidable.not_not]at this
    exact this.1
   rw[hb]at cL
   have pF:∀ j:Nat,(bN l k (s+1)).getD j false=true↔(j:Int)∈(aF l k (s+1)).ts:=fun j=>by
    rw[cL,e]
    show _↔(j:Int)∈(aF l k s).ts++[(s:Int)]
    rw[List.mem_append,List.mem_singleton]
    by_cases hj:j=s
    ·subst hj;simp
    ·rw[if_neg hj,ih.ts j]
     constructor
     ·exact .inl
     ·rintro(h | h)
      ·exact h
      ·exact(hj (by omega)).elim
   refine⟨pF,?_,?_,?_,?_,?_⟩
   ·rw[e]
    refine List.nodup_append.2 ⟨ih.tn,by simp,fun a ha b cr oO=>?_⟩
    have :=ih.tl a ha
    simp only[List.mem_singleton]at cr
    omega
   ·intro j hj
    rw[e]at hj
    rcases List.mem_append.1 hj with hj | hj
    ·have:=ih.tl j hj;omega
    ·simp only[List.mem_singleton]at hj;omega
   ·intro so f i h
    rw[e]at h
    simp only[FJ]at h
    split at h
    ·rename_i hc
     cases h
     refine⟨s,rfl,by rw[cL,if_pos rfl],?_,hc.2⟩
     rw[<-cg];exact hc.1.symm
    ·obtain⟨j,rfl,h1,h2,h3⟩:=ih.bk1 so f i h
     have :=vR h1
     exact⟨j,rfl,by rw[cL,if_neg (by omega)];exact h1,h2,h3⟩
   ·intro j h1 f hf
    rw[cL]at h1
    rw[e]
    simp only[FJ]
    by_cases hj:j=s
    ·subst hj
     rw[if_pos ⟨cg.symm,hf⟩]
    ·rw[if_neg hj]at h1
     have h4:=ih.bk2 j h1 f hf
     rw[if_neg,h4]
     rintro⟨h5,h6⟩
     have :=fx f h6
     rw[<-h5,h4]at this
     cases this
   ·intro j h1
    rw[cL]at h1
    rw[e]
    show bt (nW (aF l k s).ds s (cI (aK l s).lo (r.da+1),(aK l s).hi)) j=_
    rw[Ao]
    by_cases hj:j=s
    ·subst hj
     rw[if_pos rfl,nA]
    ·rw[if_neg hj]at h1
     rw[if_neg (by omega)]
     exact ih.ds j h1
  ·rw[if_neg hb]at hn
   have e:=wD hn
   have e2:bN l k (s+1)=bN l k s:=yq l k (by simpa using hb)
   exact⟨by rw[e,e2];exact ih.ts,by rw[e];exact ih.tn,fun j hj=>by rw[e]at hj;have:=ih.tl j hj;omega,by rw[e,e2];exact ih.bk1,by rw[e,e2];exact ih.bk2,by rw[e,e2];exact ih.ds⟩
theorem o7(l:Led)(k:Int):Bg l k l.ts.length:=GW l k _ (Nat.le_refl _)
theorem uv(l:Led)(k:Int)(i:Nat)(f:Int):c5 (aX l k) i f=(bJ (ax l k).bk ((aA l i).so,f)).getD (-1):=by
 have hi:=o7 l k
 show _=(bJ (aF l k l.ts.length).bk ((aA l i).so,f)).getD (-1)
 cases hb:bJ (aF l k l.ts.length).bk ((aA l i).so,f)with
 |none=>
  refine HN fun m _ hm=>?_
  show j' (aX l k) (aA l i).so f m=false
  rw[Bool.eq_false_iff]
  intro h
  unfold j' at h
  simp only[Bool.and_eq_true,beq_iff_eq,List.contains_iff_mem]at h
  have h1:(bN l k l.ts.length).getD m false=true:=h.1.1
  have :=hi.bk2 m h1 f h.2
  have h2:(aK l m).re=(aA l i).so:=h.1.2
  rw[h2,hb]at this
  cases this
 |some q=>
  obtain⟨j,rfl,h1,h2,h3⟩:=hi.bk1 _ _ _ hb
  refine HO (j:=j) ?_ ?_ ?_
  ·show j<(bN l k l.ts.length).length
   rw[m5];exact vR h1
  ·show (((bN l k l.ts.length).getD j false&&(aK l j).re==(aA l i).so)&&(aK l j).lv.contains f)=true
   rw[h1,h2]
   simp[h3]
  ·intro m _ mw
   show j' (aX l k) (aA l i).so f m=false
   rw[Bool.eq_false_iff]
   intro h
   unfold j' at h
   simp only[Bool.and_eq_true,beq_iff_eq,List.contains_iff_mem]at h
   have h4:(bN l k l.ts.length).getD m false=true:=h.1.1
   have :=hi.bk2 m h4 f h.2
   have h5:(aK l m).re=(aA l i).so:=h.1.2
   rw[h5,hb]at this
   have :(j:Int)=m:=Option.some.inj this
   omega
def wu(v:Int×Int)(da:Int)(os:List Rec):Int×Int:=os.foldl (fun v o=>if o.da>da then(cI v.1 0,dY v.2 o.da)else v) v
def oJ(h da:Int)(os:List Rec):Int:=os.foldl (fun h o=>if o.da>da then dY h o.da else h) h
theorem Tu{v:Int×Int}{da:Int}(os:List Rec)(h:0<=v.1):wu v da os=(v.1,oJ v.2 da os):=by
 induction os generalizing v with
 |nil=>rfl
 |cons o r ih=>
  show wu (if o.da>da then(cI v.1 0,dY v.2 o.da)else v) da r=(v.1,oJ (if o.da>da then dY v.2 o.da else v.2) da r)
  by_cases hc:o.da>da
  ·rw[if_pos hc,if_pos hc]
   have :cI v.1 0=v.1:=by unfold cI;rw[if_neg (by omega)]
   rw[this]
   exact ih (v:=(v.1,dY v.2 o.da)) h
  ·rw[if_neg hc,if_neg hc,ih h]
theorem Tw(d:Ds)(i da:Int)(os:List Rec)(j:Int):bt (lH d i da os) j=if i=j then wu (bt d i) da os else bt d j:=by
 induction os generalizing d with
 |nil=>
  show bt d j=if i=j then bt d i else bt d j
  split
  ·rename_i h;rw[h]
  ·rfl
 |cons o r ih=>
  show bt (lH (if o.da>da then kN d i ⟨0,o.da⟩else d) i da r) j=if i=j then wu (if o.da>da then(cI (bt d i).1 0,dY (bt d i).2 o.da)else bt d i) da r else bt d j
  rw[ih]
  by_cases hc:o.da>da
  ·rw[if_pos hc,if_pos hc]
   unfold kN
   rw[Ao,if_pos rfl,Ao]
   by_cases b7:i=j
   ·rw[if_pos b7,if_pos b7]
   ·rw[if_neg b7,if_neg b7,if_neg b7]
  ·rw[if_neg hc,if_neg hc]
theorem Ab{ts:List Int}{m:Nat}(h:m<ts.length):ts.take (m+1)=ts.take m++[ts.getD m 0]:=by
 rw[List.take_add_one,List.getD_eq_getElem?_getD,List.getElem?_eq_getElem h];rfl
theorem Js(l:Led)(rs:List Rec)(ts:List Int)(d:Ds)(hn:ts.Nodup):∀ m,m<=ts.length->∀ j,bt (jk l rs ts d m) j=
 if j∈ts.take m then wu (bt d j) (mb rs (aK l j.toNat).re).da (dQ rs (mb rs (aK l j.toNat).re).pa (aK l j.toNat).lv)else bt d j
 | 0,_,j=>by rw[if_neg (by simp)];rfl
 |m+1,hm,j=>by
  have ih:=Js l rs ts d hn m (by omega)
  rw[jk,Tw,Ab (by omega)]
  have zI:ts.getD m 0∉ts.take m:=by
   have h1:(ts.take (m+1)).Nodup:=hn.sublist (List.take_sublist _ _)
   rw[Ab (by omega)]at h1
   have :=(List.nodup_append.1 h1).2.2
   exact fun h=>this _ h _ (List.mem_singleton.2 rfl) rfl
  by_cases hj:ts.getD m 0=j
  ·subst hj
   rw[if_pos rfl,ih,if_neg zI,if_pos (by simp)]
  ·rw[if_neg hj,ih]
   have e:(j∈ts.take m++[ts.getD m 0])↔j∈ts.take m:=by
    rw[List.mem_append,List.mem_singleton]
    exact⟨fun h=>h.elim id fun h=>(hj h.symm).elim,.inl⟩
   simp only[e]
theorem UI(a b:Int):dY (dY a b) b=dY a b:=by
 unfold dY
 by_cases h:b<a
 ·rw[if_pos h,if_neg (by omega)]
 ·rw[if_neg h,if_neg h]
theorem OI{α:Type}(c:Bool)(p:α->Bool)(l:List α):(l.any fun n=>c&&p n)=(c&&l.any p):=by cases c<;>simp
theorem N'(x:RV)(r:Rec)(lv:List Int)(i:Nat)(hi:Int):∀ m,n7 x r lv i hi m=if (List.range m).any (se x r lv i)=true then dY hi (aA x.l i).da else hi
 | 0=>rfl
 |m+1=>by
  rw[n7,N' x r lv i hi m,List.range_succ,List.any_append]
  by_cases h1:(List.range m).any (se x r lv i)=true
  ·rw[h1,if_pos rfl,Bool.true_or,if_pos rfl,UI]
   split<;>rfl
  ·rw[if_neg h1]
   have fe:(List.range m).any (se x r lv i)=false:=by simpa using h1
   rw[fe]
   simp only[List.any_cons,List.any_nil,Bool.or_false,Bool.false_or]
theorem aa7{α:Type}(p:α->Bool)(lv:List α)(d:α):((List.range lv.length).any fun j=>p (lv.getD j d))=lv.any p:=by
 rw[Bool.eq_iff_iff,List.any_eq_true,List.any_eq_true]
 constructor
 ·rintro⟨j,hj,hp⟩
  have dp:j<lv.length:=by simpa using hj
  rw[dd dp]at hp
  exact⟨_,List.getElem_mem dp,hp⟩
 ·rintro⟨a,ha,hp⟩
  obtain⟨j,hj,rfl⟩:=List.getElem_of_mem ha
  exact⟨j,by simpa using hj,by rw[dd hj];exact hp⟩
def xc(k:Int)(r:Rec)(lv:List Int)(o:Rec):Bool:=decide (o.da>r.da)&&(cG o.kn o.un k&&il r.pa lv o)
theorem F3(a b:List Int):(a.any fun n=>b.contains n)=b.any fun n=>a.contains n:=by
 rw[Bool.eq_iff_iff,List.any_eq_true,List.any_eq_true]
 constructor<;>(rintro⟨n,h1,h2⟩;exact⟨n,List.contains_iff_mem.1 h2,List.contains_iff_mem.2 h1⟩)
theorem Uw(x:RV)(r:Rec)(lv:List Int)(i:Nat):(List.range lv.length).any (se x r lv i)=xc x.k r lv (aA x.l i):=by
 have :=aa7 (fun n=>decide ((aA x.l i).da>r.da)&&dr x.k ⟨r.pa,n⟩ (aA x.l i)) lv 0
 refine this.trans ?_
 unfold xc il
 rw[OI,F3]
 congr 1
 show (lv.any fun n=>(cG (aA x.l i).kn (aA x.l i).un x.k&&(aA x.l i).pa==r.pa)&&(aA x.l i).lv.contains n)=_
 rw[OI,Bool.and_assoc]
theorem N9(x:RV)(r:Rec)(t:Ret):∀ m,m<=x.l.rs.length->n3 x r t m=(x.l.rs.take m).foldl (fun h o=>if xc x.k r t.lv o=true then dY h o.da else h) t.hi
 | 0,_=>rfl
 |m+1,hm=>by
  rw[n3,N',Uw,N9 x r t m (by omega),List.take_add_one,List.getElem?_eq_getElem (by omega),List.foldl_append,eh (by omega)]
  rfl
theorem N8(l:Led)(k:Int)(r:Rec)(t:Ret):n3 (aX l k) r t l.rs.length=oJ t.hi r.da (dQ (bK l k) r.pa t.lv):=by
 have h:=N9 (aX l k) r t l.rs.length (Nat.le_refl _)
 refine h.trans ?_
 show (l.rs.take l.rs.length).foldl _ _=_
 rw[List.take_length]
 unfold oJ dQ bK
 rw[List.foldl_filter,List.foldl_filter]
 congr 1
 funext h o
 show (if xc k r t.lv o=true then dY h o.da else h)=_
 unfold xc
 by_cases h1:cG o.kn o.un k=true
 ·rw[if_pos h1]
  by_cases h2:il r.pa t.lv o=true
  ·rw[if_pos h2,h1,h2];simp
  ·rw[if_neg h2];simp[h2]
 ·rw[if_neg h1];simp[h1]
theorem GU{l:Led}{k:Int}{row:List Bool}{i:Nat}(h:iJ l k row i=true):∃ q,∃ hq:q<l.rs.length,dw l (aK l i).re k=(q:Int)/\mi (aK l i).re k l.rs[q]=true:=by
 rcases v8 l (aK l i).re k with h2 | ⟨q,hq,h2,h3⟩
 ·exact absurd (by rw[h2];decide) (BD h)
 ·exact⟨q,hq,h2,h3⟩
theorem N6{l:Led}(ab:bp l)(k:Int){j:Nat}(h:(bN l k l.ts.length).getD j false=true):lX (aX l k) j=⟨(bt (ax l k).ds j).1,(bt (ax l k).ds j).2⟩:=by
 have hi:=o7 l k
 obtain⟨dn,kj⟩:=tU l k h
 obtain⟨q,hq,hx,hr⟩:=GU kj
 have sB:mb (bK l k) (aK l j).re=aA l q:=by
  unfold mb
  rw[Ic,hx,if_neg (by omega),Int.toNat_natCast];rfl
 have xk:0<=(aA l q).da:=by rw[eh hq];exact(r8 ab (List.getElem_mem hq)).1
 have h1:bt (ax l k).ds j=(cI (aK l j).lo ((aA l q).da+1),oJ (aK l j).hi (aA l q).da (dQ (bK l k) (aA l q).pa (aK l j).lv)):=by
  show bt (jk l (bK l k) (aF l k l.ts.length).ts (aF l k l.ts.length).ds (aF l k l.ts.length).ts.length) j=_
  rw[Js _ _ _ _ hi.tn _ (Nat.le_refl _),List.take_length,if_pos ((hi.ts j).1 h),hi.ds j h,Int.toNat_natCast,sB]
  exact Tu _ (by show 0<=cI _ _;unfold cI;split<;>omega)
 rw[h1]
 unfold lX
 rw[if_pos (show (aX l k).ts.getD j false=true from h)]
 show (⟨lk (aK l j) (aA l (dw l (aK l j).re k).toNat),n3 (aX l k) (aA l (dw l (aK l j).re k).toNat) (aK l j) l.rs.length⟩:Rg)=_
 rw[hx,Int.toNat_natCast,N8]
 rfl
theorem IX{k:Int}{r:Rec}{f:Int}(hc:cG r.kn r.un k=true)(hf:f∈r.lv):dr k ⟨r.pa,f⟩ r=true:=by
 unfold dr;simp[hc,hf]
theorem Nz{l:Led}{k:Int}{i j:Nat}(hi:cG (aA l i).kn (aA l i).un k=true)(hj:cG (aA l j).kn (aA l j).un k=true):fj (aX l k) i j=vw (ax l k) (aA l i) (aA l j):=by
 unfold fj vw
 show (aA l i).lv.any _=_
 rw[Bool.eq_iff_iff,List.any_eq_true,List.any_eq_true]
 have hb:∀ f∈(aA l i).lv,kz (aX l k) i j f=(((aA l i).pa==(aA l j).pa&&(aA l j).lv.contains f)&&((aA l i).da==(aA l j).da||match bJ (ax l k).bk ((aA l i).so,f)with
  |none=>true
  |some q=>decide (cI (aK (ax l k).l q.toNat).lo ((aA l i).da+1)>(aA l j).da))):=fun f hf=>by
  unfold kz
  rw[uv]
  show ((dr k ⟨(aA l i).pa,f⟩ (aA l i)&&dr k ⟨(aA l i).pa,f⟩ (aA l j))&&(((aA l i).da==(aA l j).da||decide ((bJ (ax l k).bk ((aA l i).so,f)).getD (-1)<0))||decide (lk (aK l ((bJ (ax l k).bk ((aA l i).so,f)).getD (-1)).toNat) (aA l i)>(aA l j).da)))=_
  rw[IX hi hf]
  have h2:dr k ⟨(aA l i).pa,f⟩ (aA l j)=((aA l i).pa==(aA l j).pa&&(aA l j).lv.contains f):=by
   unfold dr
   rw[hj,Bool.true_and]
   congr 1
   rw[Bool.eq_iff_iff,beq_iff_eq,beq_iff_eq]
   exact eq_comm
  rw[h2,Bool.true_and]
  congr 1
  cases aP:bJ (ax l k).bk ((aA l i).so,f)with
  |none=>simp
  |some q=>
   have hq:0<=q:=by
    obtain⟨m,rfl,-⟩:=(o7 l k).bk1 _ _ _ aP
    omega
   have hl:(ax l k).l=l:=(pA l k l.ts.length).1
   simp only[Option.getD_some,hl,lk]
   have :decide (q<0)=false:=by simpa using hq
   rw[this,Bool.or_false]
   rfl
 constructor
 ·rintro⟨f,hf,h⟩;exact⟨f,hf,(hb f hf).symm.trans h⟩
 ·rintro⟨f,hf,h⟩;exact⟨f,hf,(hb f hf).trans h⟩
theorem Fl(l:Led)(k:Int)(a m:Nat):fR (aX l k) a m=if (aA l a).da>(aA l m).da then fj (aX l k) m a else fj (aX l k) a m:=rfl
theorem NB{l:Led}{k:Int}{i j:Nat}(hi:cG (aA l i).kn (aA l i).un k=true)(hj:cG (aA l j).kn (aA l j).un k=true):fR (aX l k) i j=lU (ax l k) (aA l i) (aA l j):=by
 unfold fR lU
 show (if (aA l i).da>(aA l j).da then fj (aX l k) j i else fj (aX l k) i j)=_
 rw[Nz hi hj,Nz hj hi]
theorem NA{l:Led}{k:Int}{i j:Nat}(h:fj (aX l k) i j=true):cG (aA l i).kn (aA l i).un k=true/\cG (aA l j).kn (aA l j).un k=true:=by
 unfold fj at h
 obtain⟨f,-,h⟩:=List.any_eq_true.1 h
 unfold kz dr at h
 simp only[Bool.and_eq_true]at h
 exact⟨h.1.1.1.1,h.1.2.1.1⟩
theorem Z0{l:Led}{k:Int}{i j:Nat}(h:fR (aX l k) i j=true):cG (aA l i).kn (aA l i).un k=true/\cG (aA l j).kn (aA l j).un k=true:=by
 unfold fR at h
 split at h
 ·exact(NA h).symm
 ·exact NA h
theorem AA(x:RV):gf x=none↔∀ a,a<x.l.rs.length->∀ m,a<m->m<x.l.rs.length->fR x a m=false:=by
 refine⟨fun h a ha m h1 h2=>?_,NC⟩
 unfold gf at h
 rw[List.findSome?_eq_none_iff]at h
 have :=h a (List.mem_range.2 ha)
 unfold vx at this
 rw[Option.map_eq_none_iff,List.find?_eq_none]at this
 have :=this m (List.mem_range.2 h2)
 simpa[h1]using this
theorem SY(x:Vw):gk x=none↔x.rs.Pairwise fun a b=>lU x a b=false:=by
 rw[List.pairwise_iff_getElem]
 constructor
 ·intro h i j hi hj b7
  unfold gk at h
  rw[List.findSome?_eq_none_iff]at h
  have :=h i (List.mem_range.2 hi)
  unfold nl at this
  rw[Option.map_eq_none_iff,List.find?_eq_none]at this
  have hm:x.rs[j]∈x.rs.drop (i+1):=by
   rw[List.mem_iff_getElem]
   exact⟨j-(i+1),by rw[List.length_drop];omega,by rw[List.getElem_drop];congr 1;omega⟩
  have h2:=this _ hm
  rw[dd hi]at h2
  simpa using h2
 ·intro h
  refine Iv fun i hi=>Iw hi fun m hm=>?_
  rw[List.length_drop]at hm
  rw[List.getElem_drop]
  exact h i (i+1+m) hi (by omega) (by omega)
theorem Iu(l:Led)(k:Int):gk (ax l k)=none↔gf (aX l k)=none:=by
 rw[SY,AA]
 have cg:(ax l k).rs=bK l k:=(pA l k l.ts.length).2
 rw[cg]
 unfold bK
 rw[List.pairwise_filter,List.pairwise_iff_getElem]
 constructor
 ·intro h a ha m h1 h2
  show fR (aX l k) a m=false
  rw[Bool.eq_false_iff]
  intro hd
  have kY:=hd
  obtain⟨c1,c2⟩:=Z0 hd
  rw[NB c1 c2]at kY
  have Mx:a<l.rs.length:=ha
  have ri:m<l.rs.length:=h2
  rw[eh Mx]at c1 kY
  rw[eh ri]at c2 kY
  rw[h a m Mx ri h1 c1 c2]at kY
  cases kY
 ·intro h i j hi hj b7 c1 c2
  have :=h i hi j b7 hj
  rw[<-eh hi]at c1 |-
  rw[<-eh hj]at c2 |-
  rw[NB c1 c2]at this
  exact this
theorem Tx{l:Led}{k:Int}(h:gf (aX l k)=none)(f:Fol){i j:Nat}(b7:i<j)(hj:j<l.rs.length)(h1:dr k f (aA l i)=true)(h2:dr k f (aA l j)=true):(aA l i).da≠(aA l j).da:=by
 intro he
 have :=(AA _).1 h i (by show i<l.rs.length;omega) j b7 hj
 rw[Fl,if_neg (show ¬ (aA l i).da>(aA l j).da by omega)]at this
 unfold fj at this
 have hf:f.le∈(aA l i).lv:=by unfold dr at h1;simp at h1;exact h1.2
 have hp:(aA l i).pa=f.pa:=by unfold dr at h1;simp at h1;exact h1.1.2
 have h3:=List.any_eq_false.1 this f.le hf
 apply h3
 unfold kz
 show ((dr k ⟨(aA l i).pa,f.le⟩ (aA l i)&&dr k ⟨(aA l i).pa,f.le⟩ (aA l j))&&(((aA l i).da==(aA l j).da||_)||_))=true
 rw[hp]
 have e:(⟨f.pa,f.le⟩:Fol)=f:=rfl
 rw[e,h1,h2,he]
 simp
theorem at_last{l:Led}{k:Int}(h:gf (aX l k)=none)(f:Fol)(day:Int):∀ s,s<=l.rs.length->
 (fh (aX l k) f day s= -1/\((l.rs.take s).filter (dr k f)).foldl (qd day) none=none)\/
   ∃ q,q<s/\fh (aX l k) f day s=(q:Int)/\dr k f (aA l q)=true/\((l.rs.take s).filter (dr k f)).foldl (qd day) none=some (aA l q)
 | 0,_=>.inl ⟨rfl,rfl⟩
 |s+1,hs=>by
  have ih:=at_last h f day s (by omega)
  have iU:s<l.rs.length:=by omega
  have e1:l.rs.take (s+1)=l.rs.take s++[aA l s]:=by
   rw[List.take_add_one,List.getElem?_eq_getElem iU,eh iU];rfl
  rw[e1,List.filter_append]
  have e2:fh (aX l k) f day (s+1)=if ((dr k f (aA l s)&&decide ((aA l s).da<=day))&&(decide (fh (aX l k) f day s<0)||decide ((aA l s).da>(aA l (fh (aX l k) f day s).toNat).da)))=true then(s:Int)else fh (aX l k) f day s:=rfl
  rw[e2]
  cases ho:dr k f (aA l s)with
  |false=>
   rw[show [aA l s].filter (dr k f)=[]by simp[ho],List.append_nil]
   simp only[Bool.false_and,Bool.false_eq_true,if_false]
   rcases ih with h | ⟨q,h1,h2⟩
   ·exact .inl h
   ·exact .inr ⟨q,by omega,h2⟩
  |true=>
   rw[show [aA l s].filter (dr k f)=[aA l s]by simp[ho],List.foldl_append]
   simp only[List.foldl_cons,List.foldl_nil,Bool.true_and]
   rcases ih with⟨h1,h2⟩ | ⟨q,h1,h2,h3,h4⟩
   ·rw[h1,h2]
    unfold qd
    by_cases hd:(aA l s).da<=day
    ·exact .inr ⟨s,by omega,by simp[hd],ho,by simp[hd]⟩
    ·exact .inl ⟨by simp[hd],by simp[hd]⟩
   ·rw[h2,h4,Int.toNat_natCast]
    have aG:=Tx h f h1 iU h3 ho
    unfold qd
    have LS:¬ (q:Int)<0:=by omega
    by_cases hd:(aA l s).da<=day
    ·by_cases hg:(aA l s).da>(aA l q).da
     ·refine .inr ⟨s,by omega,by simp[hd,hg],ho,?_⟩
      have :(aA l s).da>=(aA l q).da:=by omega
      simp[hd,this]
     ·refine .inr ⟨q,by omega,by simp[hg,LS],h3,?_⟩
      have :¬ (aA l s).da>=(aA l q).da:=by omega
      simp[this]
    ·exact .inr ⟨q,by omega,by simp[hd],h3,by simp[hd]⟩
theorem PC(l:Led)(k pa le:Int):dQ (bK l k) pa [le]=l.rs.filter (dr k ⟨pa,le⟩):=by
 unfold dQ bK
 rw[List.filter_filter]
 congr 1
 funext r
 unfold il dr
 rw[F3]
 simp only[List.any_cons,List.any_nil,Bool.or_false]
 cases cG r.kn r.un k<;>cases (r.pa==pa)<;>cases r.lv.contains le<;>rfl
theorem C3{l:Led}{k:Int}(h:gf (aX l k)=none)(f:Fol)(day:Int):
 (cO (aX l k) f day= -1/\fS (bK l k) f.pa f.le day=none)\/∃ q,q<l.rs.length/\cO (aX l k) f day=(q:Int)/\dr k f (aA l q)=true/\fS (bK l k) f.pa f.le day=some (aA l q):=by
 have h1:=at_last h f day l.rs.length (Nat.le_refl _)
 rw[List.take_length]at h1
 unfold fS
 rw[PC]
 exact h1
def hM(l:Led)(k:Int)(j:Nat):Prop:=(bN l k l.ts.length).getD j false=true
def Rel(l:Led)(k:Int)(d:List Rg)(D:Ds):Prop:=d.length=l.ts.length/\∀ j:Nat,hM l k j->c0 d j=⟨(bt D j).1,(bt D j).2⟩/\0<=(bt D j).1/\(bt D j).2<=100000
def oZ(l:Led)(k:Int)(D:Ds):Prop:=∀ j:Nat,hM l k j->(bt D j).1<=(bt D j).2
theorem yp{l:Led}{k:Int}{j:Nat}(h:hM l k j):j<l.ts.length:=vR h
theorem M2(l:Led)(k:Int)(D:Ds):Aj (ax l k).ts D=true↔oZ l k D:=by
 have hi:=o7 l k
 unfold Aj oZ hM
 rw[List.all_eq_true]
 show (∀ i∈(aF l k l.ts.length).ts,_)↔_
 constructor
 ·intro h j hj
  have :=h j ((hi.ts j).1 hj)
  simpa using this
 ·intro h i hm
  have hb:=hi.tl i hm
  obtain⟨j,rfl⟩:∃ j:Nat,i=j:=⟨i.toNat,by omega⟩
  simpa using h j ((hi.ts j).2 hm)
theorem AN{l:Led}{k so f i:Int}(h:bJ (ax l k).bk (so,f)=some i):∃ j:Nat,i=j/\hM l k j:=by
 obtain⟨j,e,h1,-⟩:=(o7 l k).bk1 _ _ _ h
 exact⟨j,e,h1⟩
theorem HL{d:List Rg}{i:Nat}{r:Rg}(h:i<d.length)(j:Nat):c0 (d.set i r) j=if i=j then r else c0 d j:=by
 unfold c0
 rw[List.getD_eq_getElem?_getD,List.getElem?_set]
 by_cases b7:i=j
 ·subst b7
  simp[h]
 ·rw[if_neg b7,if_neg b7,List.getD_eq_getElem?_getD]
theorem CS(l:Led)(k:Int):(ax l k).rs=bK l k:=(pA l k l.ts.length).2
theorem HT{l:Led}{k:Int}{d:List Rg}{D:Ds}(h:Rel l k d D){j:Nat}(hj:hM l k j)(r w:Rg)
 (h1:w=⟨cI (bt D j).1 r.lo,dY (bt D j).2 r.hi⟩):Rel l k (d.set j w) (kN D j r)/\(oZ l k (kN D j r)↔(w.lo<=w.hi/\oZ l k D)):=by
 have fF:j<d.length:=by rw[h.1];exact yp hj
 have e:∀ i:Nat,bt (kN D j r) i=if j=i then(w.lo,w.hi)else bt D i:=fun i=>by
  unfold kN
  rw[Ao,h1]
  by_cases b7:j=i
  ·subst b7;rw[if_pos rfl,if_pos rfl]
  ·rw[if_neg (by omega),if_neg b7]
 have lR:(bt D j).1<=w.lo:=by rw[h1];show _<=cI _ _;unfold cI;split<;>omega
 have D5:w.hi<=(bt D j).2:=by rw[h1];show dY _ _<=_;unfold dY;split<;>omega
 refine⟨⟨by rw[List.length_set];exact h.1,fun i hi=>?_⟩,?_⟩
 ·rw[HL fF,e]
  by_cases b7:j=i
  ·subst b7
   rw[if_pos rfl,if_pos rfl]
   have :=h.2 j hj
   exact⟨rfl,by show 0<=w.lo;omega,by show w.hi<=_;omega⟩
  ·rw[if_neg b7,if_neg b7];exact h.2 i hi
 ·constructor
  ·intro hf
   have dp:=hf j hj
   rw[e,if_pos rfl]at dp
   refine⟨dp,fun i hi=>?_⟩
   by_cases b7:j=i
   ·subst b7
    have :w.lo<=w.hi:=dp
    omega
   ·have:=hf i hi
    rw[e,if_neg b7]at this
    exact this
  ·rintro⟨hw,hf⟩ i hi
   rw[e]
   by_cases b7:j=i
   ·rw[if_pos b7];exact hw
   ·rw[if_neg b7];exact hf i hi
theorem Tr{l:Led}(ab:bp l){k:Int}(h0:gf (aX l k)=none){d:List Rg}{D:Ds}(h:Rel l k d D)(s:Sig):
 Rel l k (fV (aX l k) d s).1 (jv (ax l k) D s)/\(((fV (aX l k) d s).2=true/\oZ l k D)↔(fC (ax l k) s=true/\oZ l k (jv (ax l k) D s))):=by
 have cg:=CS l k
 rcases C3 h0 ⟨s.pa,s.le⟩ s.da with⟨e1,e2⟩ | ⟨q,hq,e1,-,e2⟩
 ·have vo:fS (ax l k).rs s.pa s.le s.da=none:=by rw[cg];exact e2
  rw[I4 e1]
  have hw:bQ (ax l k) s=if s.pe=0 then(-1,cV)else(-1,cN):=by unfold bQ;rw[vo]
  have hf:jv (ax l k) D s=D:=by unfold jv;rw[hw];split<;>rfl
  have hm:fC (ax l k) s=(s.pe==0):=by
   unfold fC;rw[hw]
   by_cases hp:s.pe=0
   ·rw[if_pos hp,hp];rfl
   ·rw[if_neg hp]
    have :(s.pe==0)=false:=by simpa using hp
    rw[this];rfl
  rw[hf,hm]
  exact⟨h,Iff.rfl⟩
 ·have vo:fS (ax l k).rs s.pa s.le s.da=some (aA l q):=by rw[cg];exact e2
  have hbo:1<=(aA l q).bo:=by
   rw[eh hq]
   have :=ab.recs _ (List.getElem_mem hq)
   unfold dG bT at this
   simp only[Bool.and_eq_true,decide_eq_true_eq]at this
   exact this.1.1.1.1.2.1
  have bP:=uv l k q s.le
  cases aP:bJ (ax l k).bk ((aA l q).so,s.le)with
  |none=>
   rw[aP]at bP
   rw[I3 e1 bP]
   have hw:bQ (ax l k) s=if s.pe=(aA l q).bo then(-1,cV)else(-1,cN):=by unfold bQ;rw[vo];simp only[aP]
   have hf:jv (ax l k) D s=D:=by unfold jv;rw[hw];split<;>rfl
   have hm:fC (ax l k) s=(s.pe==(aA l q).bo):=by
    unfold fC;rw[hw]
    by_cases hp:s.pe=(aA l q).bo
    ·rw[if_pos hp,hp,beq_self_eq_true];rfl
    ·rw[if_neg hp]
     have :(s.pe==(aA l q).bo)=false:=by simpa using hp
     rw[this];rfl
   rw[hf,hm]
   exact⟨h,Iff.rfl⟩
  |some i=>
   obtain⟨j,rfl,hj⟩:=AN aP
   rw[aP]at bP
   have DI:c5 (aX l k) q s.le=(j:Int):=bP
   have hw:bQ (ax l k) s=if s.pe=0 then((j:Int),(⟨0,s.da⟩:Rg))else if s.pe=(aA l q).bo then((j:Int),(⟨s.da+1,100000⟩:Rg))else(-1,cN):=by unfold bQ;rw[vo];simp only[aP]
   obtain⟨dZ,ga,XO⟩:=h.2 j hj
   have cq:(j:Int)>=0:=by omega
   by_cases mo:s.pe=0
   ·have w8:(s.pe==(aA l q).bo)=false:=by rw[beq_eq_false_iff_ne];omega
    rw[I7 e1 DI w8 (by rw[mo];rfl)]
    have hf:jv (ax l k) D s=kN D j ⟨0,s.da⟩:=by unfold jv;rw[hw,if_pos mo];exact if_pos cq
    have hm:fC (ax l k) s=true:=by unfold fC;rw[hw,if_pos mo];simp
    rw[hf,hm]
    obtain⟨g1,g2⟩:=HT h hj ⟨0,s.da⟩ ⟨(c0 d j).lo,dY (c0 d j).hi s.da⟩ (by rw[dZ];show (⟨(bt D j).1,dY (bt D j).2 s.da⟩:Rg)=⟨cI (bt D j).1 0,dY (bt D j).2 s.da⟩;unfold cI;rw[if_neg (by omega)])
    refine⟨g1,?_⟩
    rw[g2]
    simp
   ·by_cases sD:s.pe=(aA l q).bo
    ·have w8:(s.pe==(aA l q).bo)=true:=by rw[beq_iff_eq];exact sD
     rw[I6 e1 DI w8]
     have hf:jv (ax l k) D s=kN D j ⟨s.da+1,100000⟩:=by unfold jv;rw[hw,if_neg mo,if_pos sD];exact if_pos cq
     have hm:fC (ax l k) s=true:=by unfold fC;rw[hw,if_neg mo,if_pos sD];simp
     rw[hf,hm]
     obtain⟨g1,g2⟩:=HT h hj ⟨s.da+1,100000⟩ ⟨cI (c0 d j).lo (s.da+1),(c0 d j).hi⟩ (by rw[dZ];show (⟨cI (bt D j).1 (s.da+1),(bt D j).2⟩:Rg)=⟨cI (bt D j).1 (s.da+1),dY (bt D j).2 100000⟩;unfold dY;rw[if_neg (by omega)])
     refine⟨g1,?_⟩
     rw[g2]
     simp
    ·have w8:(s.pe==(aA l q).bo)=false:=by rw[beq_eq_false_iff_ne];exact sD
     rw[I5 e1 DI w8 (by rw[beq_eq_false_iff_ne];exact mo)]
     have hf:jv (ax l k) D s=D:=by unfold jv;rw[hw,if_neg mo,if_neg sD];rfl
     have hm:fC (ax l k) s=false:=by unfold fC;rw[hw,if_neg mo,if_neg sD];rfl
     rw[hf,hm]
     exact⟨h,by simp⟩
theorem Ha(l:Led)(k:Int):∀ n,n<=l.ss.length->(iK (aX l k) n).map (fun i=>gy l i.toNat)=(l.ss.take n).filter fun s=>cG s.kn s.un k
 | 0,_=>rfl
 |n+1,hn=>by
  rw[iK,List.take_add_one,List.getElem?_eq_getElem (by omega),List.filter_append,<-Ha l k n (by omega)]
  have e:gy (aX l k).l n=l.ss[n]'(by omega):=vV (l:=l) (by omega)
  rw[e]
  show (if cG _ _ k=true then _ else _:List Int).map _=_
  by_cases hc:cG (l.ss[n]'(by omega)).kn (l.ss[n]'(by omega)).un k=true
  ·rw[if_pos hc,List.map_append]
   simp only[Option.toList,List.filter_cons,hc,if_true,List.filter_nil,List.map_cons,List.map_nil,Int.toNat_natCast,vV (show n<l.ss.length by omega)]
  ·rw[if_neg hc]
   simp[hc]
theorem Qw(l:Led)(k:Int):(v5 l k).map (fun i=>gy l i.toNat)=gj l k:=by
 unfold v5 gj
 rw[Ha l k _ (Nat.le_refl _),List.take_length]
theorem Nn{l:Led}(ab:bp l){k:Int}(h0:gf (aX l k)=none){D0:Ds}(hD:D0=(ax l k).ds)(hr:Rel l k (kD (aX l k) l.ts.length) D0)(hf:oZ l k D0)(is:List Int):∀ m,m<=is.length->
 Rel l k (gI (aX l k) is m).1 (fH (ax l k) D0 ((is.take m).map fun i=>gy l i.toNat))/\
  ((gI (aX l k) is m).2=true↔(((is.take m).map fun i=>gy l i.toNat).all (fC (ax l k))=true/\oZ l k (fH (ax l k) D0 ((is.take m).map fun i=>gy l i.toNat))))
 | 0,_=>⟨hr,⟨fun _=>⟨rfl,hf⟩,fun _=>rfl⟩⟩
 |m+1,hm=>by
  obtain⟨i1,i2⟩:=Nn ab h0 hD hr hf is m (by omega)
  have e:(is.take (m+1)).map (fun i=>gy l i.toNat)=(is.take m).map (fun i=>gy l i.toNat)++[gy l (is.getD m 0).toNat]:=by
   rw[Ab (by omega),List.map_append];rfl
  rw[e,List.all_append,gI]
  have e2:fH (ax l k) D0 ((is.take m).map (fun i=>gy l i.toNat)++[gy l (is.getD m 0).toNat])=jv (ax l k) (fH (ax l k) D0 ((is.take m).map fun i=>gy l i.toNat)) (gy l (is.getD m 0).toNat):=by
   unfold fH
   rw[List.foldl_append];rfl
  rw[e2]
  obtain⟨s1,s2⟩:=Tr ab h0 i1 (gy l (is.getD m 0).toNat)
  refine⟨s1,?_⟩
  show ((gI (aX l k) is m).2&&(fV (aX l k) (gI (aX l k) is m).1 (gy l (is.getD m 0).toNat)).2)=true↔_
  rw[Bool.and_eq_true,i2,Bool.and_eq_true]
  simp only[List.all_cons,List.all_nil,Bool.and_true]
  constructor
  ·rintro⟨⟨a,b⟩,c⟩
   obtain⟨d1,d2⟩:=s2.1 ⟨c,b⟩
   exact⟨⟨a,d1⟩,d2⟩
  ·rintro⟨⟨a,b⟩,c⟩
   obtain⟨d1,d2⟩:=s2.2 ⟨b,c⟩
   exact⟨⟨a,d2⟩,d1⟩
theorem Ya(b h da:Int)(os:List Rec)(h1:b<=h)(h2:∀ o∈os,o.da>da->b<=o.da):b<=oJ h da os:=by
 induction os generalizing h with
 |nil=>exact h1
 |cons o r ih=>
  show b<=oJ (if o.da>da then dY h o.da else h) da r
  refine ih _ ?_ fun o' h'=>h2 o' (by simp[h'])
  split
  ·rename_i hc
   have :=h2 o (by simp) hc
   unfold dY
   split<;>omega
  ·exact h1
theorem X'(h da:Int)(os:List Rec):oJ h da os<=h:=by
 induction os generalizing h with
 |nil=>exact Int.le_refl _
 |cons o r ih=>
  show oJ (if o.da>da then dY h o.da else h) da r<=h
  refine Int.le_trans (ih _) ?_
  split
  ·unfold dY;split<;>omega
  ·exact Int.le_refl _
theorem Np{l:Led}(ab:bp l){k:Int}{j:Nat}(h:hM l k j):∃ q,∃ hq:q<l.rs.length,dw l (aK l j).re k=(q:Int)/\mi (aK l j).re k (aA l q)=true/\
 bt (ax l k).ds j=(lk (aK l j) (aA l q),oJ (aK l j).hi (aA l q).da (dQ (bK l k) (aA l q).pa (aK l j).lv)):=by
 obtain⟨dn,kj⟩:=tU l k h
 obtain⟨q,hq,hx,hr⟩:=GU kj
 refine⟨q,hq,hx,by rw[eh hq];exact hr,?_⟩
 have e:=N6 ab k h
 unfold lX at e
 rw[if_pos (show (aX l k).ts.getD j false=true from h)]at e
 have e':(⟨lk (aK l j) (aA l (dw l (aK l j).re k).toNat),n3 (aX l k) (aA l (dw l (aK l j).re k).toNat) (aK l j) l.rs.length⟩:Rg)=⟨(bt (ax l k).ds j).1,(bt (ax l k).ds j).2⟩:=e
 rw[hx,Int.toNat_natCast,N8]at e'
 injection e' with a b
 exact Prod.ext a.symm b.symm
theorem aaK{l:Led}(ab:bp l)(k:Int):Rel l k (kD (aX l k) l.ts.length) (ax l k).ds:=by
 refine⟨FG _ _,fun j hj=>?_⟩
 have fF:=yp hj
 obtain⟨q,hq,-,-,hd⟩:=Np ab hj
 refine⟨?_,?_,?_⟩
 ·have:c0 (kD (aX l k) l.ts.length) j=lX (aX l k) j:=by
    unfold c0 kD
    rw[List.getD_eq_getElem?_getD,List.getElem?_map,List.getElem?_range fF];rfl
  rw[this]
  exact N6 ab k hj
 ·rw[hd]
  have :0<=(aA l q).da:=by rw[eh hq];exact(r8 ab (List.getElem_mem hq)).1
  show 0<=cI _ _
  unfold cI;split<;>omega
 ·rw[hd]
  refine Int.le_trans (X' _ _ _) ?_
  have e:aK l j=l.ts[j]:=dd fF
  have :=jC ab.ts fF
  unfold gR dayB bT at this
  simp only[Bool.and_eq_true,decide_eq_true_eq]at this
  rw[e]
  exact this.1.2.2
theorem aaL{l:Led}(ab:bp l){k:Int}(h0:gf (aX l k)=none):oZ l k (ax l k).ds:=by
 intro j hj
 obtain⟨q,hq,hx,hr,hd⟩:=Np ab hj
 obtain⟨dn,kj⟩:=tU l k hj
 rw[hd]
 unfold iJ at kj
 rw[if_neg (by rw[hx];omega),hx,Int.toNat_natCast]at kj
 simp only[Bool.and_eq_true,Bool.not_eq_true',decide_eq_false_iff_not,List.all_eq_true]at kj
 obtain⟨⟨-,agq⟩,pL⟩:=kj
 refine Ya _ _ _ _ (by omega) fun o ho xk=>?_
 unfold dQ bK at ho
 simp only[List.mem_filter]at ho
 obtain⟨⟨DU,L0⟩,nH⟩:=ho
 obtain⟨m,hm,rfl⟩:=List.getElem_of_mem DU
 rw[<-eh hm]at L0 nH xk |-
 unfold il at nH
 rw[F3]at nH
 simp only[Bool.and_eq_true,List.any_eq_true,beq_iff_eq]at nH
 obtain⟨uW,f,Ml,Yj⟩:=nH
 have zV:=pL f Ml
 unfold oE at zV
 simp only[Bool.and_eq_true,List.contains_iff_mem]at zV
 unfold mi at hr
 simp only[Bool.and_eq_true,beq_iff_eq]at hr
 have aG:m≠q:=fun e=>by subst e;omega
 have nK:fj (aX l k) q m=false:=by
  rcases Nat.lt_or_gt_of_ne aG with aa | Mk
  ·have:=(AA _).1 h0 m hm q aa hq
   rw[Fl,if_pos (show (aA l m).da>(aA l q).da from xk)]at this
   exact this
  ·have:=(AA _).1 h0 q hq m Mk hm
   rw[Fl,if_neg (show ¬ (aA l q).da>(aA l m).da by omega)]at this
   exact this
 unfold fj at nK
 have h3:=List.any_eq_false.1 nK f zV.1
 unfold kz at h3
 have h4:c5 (aX l k) q f=(j:Int):=by
  rw[uv]
  have :=(o7 l k).bk2 j hj f Ml
  rw[<-hr.1]at this
  show (bJ (aF l k l.ts.length).bk ((aA l q).so,f)).getD (-1)=_
  rw[this];rfl
 rw[h4]at h3
 have e1:dr (aX l k).k ⟨(aA (aX l k).l q).pa,f⟩ (aA (aX l k).l q)=true:=IX hr.2 zV.1
 have e2:dr (aX l k).k ⟨(aA (aX l k).l q).pa,f⟩ (aA (aX l k).l m)=true:=by
  show dr k ⟨(aA l q).pa,f⟩ (aA l m)=true
  unfold dr
  simp[L0,uW,List.contains_iff_mem.1 Yj]
 rw[e1,e2,Int.toNat_natCast]at h3
 simp only[Bool.true_and,Bool.or_eq_true,decide_eq_true_eq,not_or]at h3
 exact Int.not_lt.1 h3.2
theorem No{l:Led}(ab:bp l){k:Int}(h0:gf (aX l k)=none):Rel l k (gJ l k).1 (aW (ax l k) k).ds/\(gJ l k).2=iZ (ax l k) (gj l k):=by
 have h:=Nn ab h0 rfl (aaK ab k) (aaL ab h0) (v5 l k) _ (Nat.le_refl _)
 rw[List.take_length,Qw]at h
 have hs:(aW (ax l k) k).ds=fH (ax l k) (ax l k).ds (gj l k):=by
  unfold aW;rw[sg]
 rw[hs]
 refine⟨h.1,?_⟩
 rw[Bool.eq_iff_iff]
 unfold iZ
 rw[Bool.and_eq_true,M2]
 exact h.2
theorem ox{l:Led}(ab:bp l)(k:Int):dX l k=eS l k:=by
 unfold dX eS
 rw[sg]
 cases hp:gk (ax l k)with
 |none=>
  have h0:=(Iu l k).1 hp
  rw[h0,(No ab h0).2]
  cases iZ (ax l k) (gj l k)<;>rfl
 |some p=>
  have h0:gf (aX l k)≠none:=fun h=>by rw[(Iu l k).2 h]at hp;cases hp
  have :(gf (aX l k)).isSome=true:=by rw[Option.isSome_iff_ne_none];exact h0
  rw[this]
  rfl
theorem vW{l:Led}(ab:bp l){k:Int}(h:eS l k=0):gf (aX l k)=none/\eY l k={ aX l k with ds:=(gJ l k).1 }/\Rel l k (gJ l k).1 (aW (ax l k) k).ds/\oZ l k (aW (ax l k) k).ds:=by
 have hs:dX l k=0:=by rw[ox ab];exact h
 have h0:gf (aX l k)=none:=by
  unfold dX at hs
  split at hs
  ·cases hs
  ·rename_i hn
   simpa using hn
 have hd:(gJ l k).2=true:=by
  unfold dX at hs
  rw[h0]at hs
  cases hb:(gJ l k).2 with
  |true=>rfl
  |false=>rw[hb]at hs;cases hs
 obtain⟨h1,h2⟩:=No ab h0
 refine⟨h0,by unfold eY;rw[if_pos hs],h1,?_⟩
 rw[h2]at hd
 unfold iZ at hd
 rw[Bool.and_eq_true,M2]at hd
 have e:(aW (ax l k) k).ds=fH (ax l k) (ax l k).ds (gj l k):=by
  unfold aW;rw[sg]
 rw[e];exact hd.2
theorem JC(x:RV)(d:List Rg)(f:Fol)(day:Int):∀ s,fh { x with ds:=d } f day s=fh x f day s
 | 0=>rfl
 |s+1=>by
  rw[fh,JC x d f day s,fh]
theorem Vl(x:RV)(d:List Rg)(f:Fol)(day:Int):cO { x with ds:=d } f day=cO x f day:=JC x d f day _
theorem SE(x:RV)(d:List Rg)(i:Nat)(f:Int):c5 { x with ds:=d } i f=c5 x i f:=rfl
theorem GG{l:Led}(ab:bp l){k:Int}(h:eS l k=0)(f:Fol)(day:Int):j6 (eY l k) f day=tO (aW (ax l k) k) f.pa f.le day:=by
 obtain⟨h0,hv,hr,im⟩:=vW ab h
 rw[hv]
 have e1:(aW (ax l k) k).rs=bK l k:=CS l k
 have e2:(aW (ax l k) k).bk=(ax l k).bk:=rfl
 unfold j6 tO
 rw[e1,e2,Vl,SE]
 show (if cO (aX l k) f day<0 then[0]else if (decide (c5 (aX l k) (cO (aX l k) f day).toNat f.le<0)||decide ((c0 (gJ l k).1 (c5 (aX l k) (cO (aX l k) f day).toNat f.le).toNat).lo>day))=true then[(aA l (cO (aX l k) f day).toNat).bo]else
  if(c0 (gJ l k).1 (c5 (aX l k) (cO (aX l k) f day).toNat f.le).toNat).hi<=day then[0]else[0,(aA l (cO (aX l k) f day).toNat).bo])=_
 rcases C3 h0 f day with⟨a1,a2⟩ | ⟨q,hq,a1,-,a2⟩
 ·rw[a1,a2];rfl
 ·rw[a1,a2,if_neg (by omega),Int.toNat_natCast,uv]
  simp only[]
  cases aP:bJ (ax l k).bk ((aA l q).so,f.le)with
  |none=>rfl
  |some i=>
   obtain⟨j,rfl,hj⟩:=AN aP
   obtain⟨g1,-,-⟩:=hr.2 j hj
   have g2:=im j hj
   simp only[Option.getD_some,Int.toNat_natCast,g1]
   have hn:decide ((j:Int)<0)=false:=by simp
   rw[hn,Bool.false_or]
   by_cases c1:(bt (aW (ax l k) k).ds j).1>day
   ·rw[if_pos (by simpa using c1),if_neg (by omega),if_pos (by omega)];rfl
   ·rw[if_neg (by simpa using c1)]
    by_cases c2:(bt (aW (ax l k) k).ds j).2<=day
    ·rw[if_pos c2,if_pos (by omega),if_neg (by omega)];rfl
    ·rw[if_neg c2,if_pos (by omega),if_pos (by omega)];rfl
noncomputable section
structure Ask where
 (da kn pa le pe so:Int)
 deriving Inhabited
def Am(x:Ask):V:=.agg [vInt x.da,vInt x.kn,vInt x.pa,vInt x.le,vInt x.pe,vInt x.so]
def Ny:V->Ask
 | .agg [.int _ a,.int _ b,.int _ c,.int _ d,.int _ e,.int _ f]=>⟨a,b,c,d,e,f⟩
 |_=>default
def nx:En Ask:=⟨Am,Ny⟩
attribute [go_sem] Am Ny nx
@[go_sem] theorem agC(x:Ask):(⟨x.da,x.kn,x.pa,x.le,x.pe,x.so⟩:Ask)=x:=rfl
theorem A'{l:Led}{ds:List Int}(h:fg l ds=0):bp l/\∀ d∈ds,dayB d=true:=by
 unfold fg at h
 split at h
 ·cases h
 ·rename_i h1
  have fe:pj l=true:=by simpa using h1
  refine⟨Ct.1 fe,?_⟩
  split at h
  ·rename_i h2;exact List.all_eq_true.1 h2
  ·cases h
theorem G9{l:Led}(h:bp l)(k:Int):od (eY l k):=by
 unfold eY
 split
 ·exact⟨h,m5 _ _ _,fun _ hi=>BD (tU l k hi).2⟩
 ·exact B5 h k
theorem Qk(l:Led)(k:Int):(eY l k).ts=bN l k l.ts.length:=by unfold eY;split<;>rfl
theorem BM(l:Led)(k:Int):(eY l k).ts.length=l.ts.length:=by rw[Qk,m5]
theorem BN{l:Led}{k:Int}(h:dX l k=0):(eY l k).ds.length=(eY l k).ts.length:=by
 rw[BM]
 unfold eY
 rw[if_pos h]
 exact Fb _ _ _
def K52:List (Nat×Spec):=[(98,rF),(100,Gm),(99,tF),(101,Bj)]
attribute [go_sem] K52
end
noncomputable section
def s6(l:Led)(a:Ask)(j:Nat):Bool:=(bN l a.kn l.ts.length).getD j false&&(aK l j).so==a.so
def iA(l:Led)(a:Ask):Nat->Int
 | 0=> -1
 |s+1=>if s6 l a s=true then(s:Int)else iA l a s
theorem Fc(l:Led)(a:Ask):∀ s,iA l a s= -1\/∃ j,j<s/\iA l a s=(j:Int)/\s6 l a j=true
 | 0=>.inl rfl
 |s+1=>by
  rw[iA]
  split
  ·rename_i h;exact .inr ⟨s,by omega,rfl,h⟩
  ·rcases Fc l a s with h | ⟨j,h1,h2⟩
   ·exact .inl h
   ·exact .inr ⟨j,by omega,h2⟩
def nX(l:Led)(a:Ask):Int:=if fg l [a.kn]=0 then(if iA l a l.ts.length<0 then 3 else dX l a.kn)else fg l [a.kn]
def lT(l:Led)(a:Ask):Rg:=if nX l a=0 then c0 (eY l a.kn).ds (iA l a l.ts.length).toNat else⟨0,0⟩
def K53:List (Nat×Spec):=[(98,rF),(71,O1),(99,tF)]
theorem acz:KS K53:=tc yz.sound<|tc Hp.sound<|tc BW.sound<|tn
attribute [go_sem] K53
@[go_sem] def P28:PSpec:=p2 iL nx (fun _ _=>True) (fun l a=>.tup [encRg (lT l a),vInt (nX l a)]) false
@[go_sem] def S28:Spec:=P28.toSpec
set_option maxHeartbeats 8000000 in
theorem Ry:aL Tryz.prog 28 P28:=by
 refine cK (rs:=[.cell 4 38,.tmp 5]) Tryz.func28 Tryz.ntmps28 fun l a hp hw=>?_
 have hP:=c8
 simp only[nx,iL,dq]at hw |-
 have hΓ:=acz
 repeat refine sq ?_
 refine rx hΓ [2,3,4] [[2,0],[3,0],[4,0]] (fun K' hK=>by simp only[go_sem];exact ak) ?_
 repeat refine sq ?_
 refine rx hΓ [2,3,4,6] [[2,0],[3,0],[4,0]] (fun K' hK=>by simp only[go_sem];exact ak) ?_
 repeat refine sq ?_
 refine rx hΓ [2,3,4,6,18] [[2,0],[3,0],[4,0]] (fun K' hK=>by simp only[go_sem];exact ak) ?_
 repeat refine sq ?_
 refine au (fun hb=>?_) fun hb=>?_
 ·repeat refine sq ?_
  have hc:¬ fg l [a.kn]=0:=by simpa using hb
  have e:nX l a=fg l [a.kn]:=by unfold nX;rw[if_neg hc]
  have e2:lT l a=⟨0,0⟩:=by unfold lT;rw[e,if_neg hc]
  repeat refine sq ?_
  refine rx hΓ [4,5] [[4,0]] (fun K' hK=>by simp only[go_sem];exact ak) ?_
  refine aq ?_
  simp only[go_sem]
  first | (rw[e,e2];done) | (rw[e,e2];rfl)
 ·repeat refine sq ?_
  have hc:fg l [a.kn]=0:=by simpa using hb
  obtain⟨ab,_⟩:=A' hc
  have hv:=G9 ab a.kn
  have ml:=ab.tsn
  have fE:=m5 l a.kn l.ts.length
  have hl:l.ts.length<=maxLen:=by unfold maxLen;omega
  refine ay ?_
  repeat refine sq ?_
  refine rx hΓ [2,3,4,7] [[2,0],[3,0],[4,0]] (fun K' hK=>by simp only[go_sem];(repeat (refine⟨by first | exact ao | exact ab,?_⟩));exact cF) ?_
  repeat refine sq ?_
  refine rx hΓ [2,3,4,7,8] [[2,0],[3,0],[4,0]] (fun K' hK=>by simp only[go_sem];exact ak) ?_
  repeat refine sq ?_
  refine rx hΓ [2,3,4,7,8,9] [[2,0],[3,0],[4,0]] (fun K' hK=>by simp only[go_sem];exact ak) ?_
  repeat refine sq ?_
  refine aC ?_
  repeat refine sq ?_
  refine bA (fun s:Nat=>[(9,⟨true,.v (vInt s)⟩),(8,⟨true,.v (vInt (iA l a s))⟩)]) (fun s=>[]) (fun s=>s<=l.ts.length) (fun s=>l.ts.length-s) 0 ?_ ?_ ?_ ?_
  ·exact Nat.zero_le _
  ·rfl
  ·rfl
  rintro i hi
  generalize hB:iA l a i=B
  simp only[go_sem]
  repeat refine sq ?_
  refine rx hΓ [2,3,4,7,8,9,28] [[2,0],[3,0],[4,0]] (fun K' hK=>by simp only[go_sem,List.length_map,fE];exact ak) ?_
  repeat refine sq ?_
  refine au (fun hb=>?_) fun hb=>?_
  ·have aa:i<l.ts.length:=by simpa using hb
   have an:(i:Int)<l.ts.length:=by omega
   clear hb
   have oI:i<(bN l a.kn l.ts.length).length:=by omega
   have e0:=kG aa
   repeat refine sq ?_
   refine ay ?_
   repeat refine sq ?_
   refine aC ?_
   repeat refine sq ?_
   refine dx hΓ hP [[],[],[0,1],[0,1,2],u4,u5,u6,u5,u8,u9,bI,u5,[0,1,2,3,4,11],fJ,eE] [2,3,4,7,8,9,45] [[2,0],[3,0],[4,0]] (by kernel_rfl) (fun K' hK=>by simp only[go_sem,oD oI,ae aa,ah,aj,an,List.length_map,fE];exact eQ) ?_
   repeat refine sq ?_
   refine au (fun hb=>?_) fun hb=>?_
   ·repeat refine sq ?_
    have eD:iA l a (i+1)=(i:Int):=by rw[iA,if_pos (by unfold s6;rw[e0];simpa using hb)]
    repeat refine sq ?_
    refine aI hΓ fun K' hK=>?_
    simp only[go_sem,oD oI,ae aa,ah,aj,an,List.length_map,fE]
    repeat (refine⟨ao,?_⟩)
    refine hK _ ?_
    clear K' hK
    simp only[go_sem]
    refine kp [2,3,4,7,8,9] [[2,0],[3,0],[4,0]] ?_
    repeat refine sq ?_
    refine aI hΓ fun K' hK=>?_
    simp only[go_sem,oD oI,ae aa,ah,aj,an,List.length_map,fE]
    repeat (refine⟨ao,?_⟩)
    refine hK _ ?_
    clear K' hK
    simp only[go_sem]
    refine⟨i+1,aa,by(show l.ts.length-(i+1)<l.ts.length-i;omega),?_⟩
    refine aT [2,3,4,7,8,9] [[2,0],[3,0],[4,0]] ?_ ?_<;>simp only[go_sem,aO aa hl,aQ,eD]
   ·repeat refine sq ?_
    have eD:iA l a (i+1)=B:=by rw[iA,if_neg (by unfold s6;rw[e0];simpa using hb),hB]
    refine ay ?_
    refine br ?_
    simp only[go_sem]
    refine kp [2,3,4,7,8,9] [[2,0],[3,0],[4,0]] ?_
    repeat refine sq ?_
    refine aI hΓ fun K' hK=>?_
    simp only[go_sem,oD oI,ae aa,ah,aj,an,List.length_map,fE]
    repeat (refine⟨ao,?_⟩)
    refine hK _ ?_
    clear K' hK
    simp only[go_sem]
    refine⟨i+1,aa,by(show l.ts.length-(i+1)<l.ts.length-i;omega),?_⟩
    refine aT [2,3,4,7,8,9] [[2,0],[3,0],[4,0]] ?_ ?_<;>simp only[go_sem,aO aa hl,aQ,eD]
  ·have aV:i=l.ts.length:=by
    have :¬ (i:Int)<l.ts.length:=by simpa using hb
    omega
   clear hb
   subst aV
   subst hB
   have iX:=Fc l a l.ts.length
   repeat refine sq ?_
   refine be ?_
   simp only[go_sem]
   refine kp [2,3,4,8] [[2,0],[3,0],[4,0]] ?_
   repeat refine sq ?_
   refine rx hΓ [2,3,4,8,48] [[2,0],[3,0],[4,0]] (fun K' hK=>by simp only[go_sem];exact ak) ?_
   repeat refine sq ?_
   refine au (fun hb=>?_) fun hb=>?_
   ·repeat refine sq ?_
    have hq:iA l a l.ts.length<0:=by simpa using hb
    have e:nX l a=3:=by unfold nX;rw[if_pos hc,if_pos hq]
    have e2:lT l a=⟨0,0⟩:=by unfold lT;rw[e];rfl
    repeat refine sq ?_
    refine rx hΓ [4,5] [[4,0]] (fun K' hK=>by simp only[go_sem];exact ak) ?_
    refine aq ?_
    simp only[go_sem]
    first | (rw[e,e2];done) | (rw[e,e2];rfl)
   ·repeat refine sq ?_
    have hq:¬ iA l a l.ts.length<0:=by simpa using hb
    have e:nX l a=dX l a.kn:=by unfold nX;rw[if_pos hc,if_neg hq]
    refine ay ?_
    repeat refine sq ?_
    refine rx hΓ [4,8,10,11] [[4,0],[10,0]] (fun K' hK=>by simp only[go_sem];(repeat (refine⟨by first | exact ao | exact ab,?_⟩));exact cF) ?_
    repeat refine sq ?_
    refine rx hΓ [4,8,10,11,58] [[4,0],[10,0]] (fun K' hK=>by simp only[go_sem];exact ak) ?_
    repeat refine sq ?_
    refine au (fun hb=>?_) fun hb=>?_
    ·repeat refine sq ?_
     have hs:¬ dX l a.kn=0:=by simpa using hb
     have e2:lT l a=⟨0,0⟩:=by unfold lT;rw[e,if_neg hs]
     repeat refine sq ?_
     refine rx hΓ [4,5] [[4,0]] (fun K' hK=>by simp only[go_sem];exact ak) ?_
     refine aq ?_
     simp only[go_sem]
     first | (rw[e,e2];done) | (rw[e,e2];rfl)
    ·repeat refine sq ?_
     have hs:dX l a.kn=0:=by simpa using hb
     have mC:=BN hs
     rw[BM]at mC
     obtain⟨j,hj,Md⟩:∃ j:Nat,j<(eY l a.kn).ds.length/\iA l a l.ts.length=j:=by
      rcases iX with h | ⟨j,h1,h2,-⟩
      ·omega
      ·exact⟨j,by omega,h2⟩
     have dp:(j:Int)<(eY l a.kn).ds.length:=by omega
     have e2:lT l a=(eY l a.kn).ds[j]:=by unfold lT;rw[e,if_pos hs,Md,ah,gz hj]
     rw[hs]at e
     refine ay ?_
     repeat refine sq ?_
     refine rx hΓ [4,5] [[4,0]] (fun K' hK=>by simp only[go_sem,Md,ae hj,dp,ah,aj,List.length_map];exact ak) ?_
     refine aq ?_
     simp only[go_sem]
     first | (rw[e,e2];done) | (rw[e,e2];rfl)
end
noncomputable section
def mj(l:Led)(i:Nat):Nat->List Fol
 | 0=>gp l i
 |m+1=>mj l i m++[⟨(l.ps.getD i default).id,((m+1:Nat):Int)⟩]
theorem Dl(l:Led)(i:Nat):∀ m,mj l i m=gp l i++(List.range m).map fun j=>⟨(l.ps.getD i default).id,((j+1:Nat):Int)⟩
 | 0=>by rw[mj];simp
 |m+1=>by rw[mj,Dl l i m,List.range_succ,List.map_append,List.append_assoc];rfl
theorem Xj{l:Led}{i:Nat}(h:i<l.ps.length):mj l i (l.ps[i]).lv.toNat=gp l (i+1):=by
 rw[Dl,EX h,dd h];rfl
theorem It{p:Pap}(h:iM p=true):1<=p.lv/\p.lv<=30:=by
 unfold iM bT at h
 simp only[Bool.and_eq_true,decide_eq_true_eq]at h
 exact h.2
theorem MW{l:Led}(h:bp l):∀ i,i<=l.ps.length->(gp l i).length<=30*i
 | 0,_=>Nat.le_refl _
 |i+1,hi=>by
  have :=MW h i (by omega)
  have hp:=It (jC h.ps (show i<l.ps.length by omega))
  rw[EX (by omega),List.length_append,yR]
  omega
theorem Xi(l:Led)(i m:Nat):(mj l i m).length=(gp l i).length+m:=by rw[Dl];simp
@[go_sem] def P127:PSpec:=p1 iL (fun l=>bp l) (fun l=>.sl ((bf l).map ea)) false
@[go_sem] def Gk:Spec:=P127.toSpec
set_option maxHeartbeats 8000000 in
theorem HB:aL Tryz.prog 127 P127:=by
 refine dR (rs:=[.tmp 2]) Tryz.func127 Tryz.ntmps127 fun l hp hw=>?_
 simp only[iL,dq]at hw |-
 have hΓ:=@dT Tryz.prog
 have pJ:=hp.psn
 have hl:l.ps.length<=maxLen:=by unfold maxLen;omega
 repeat refine sq ?_
 refine rx hΓ [1] [[1,0]] (fun K' hK=>by simp only[go_sem];exact ak) ?_
 repeat refine sq ?_
 refine rx hΓ [1,3] [[1,0],[33,0]] (fun K' hK=>by simp only[go_sem];exact ak) ?_
 refine bH (ql 3 [33,0] 2 (by simp only[go_sem]) (by simp only[go_sem]) [1,3] [[1,0],[33,0]] ?_ rfl) ?_
 ·simp only[go_sem]
 simp only[go_sem]
 repeat refine sq ?_
 refine rx hΓ [1,3,4] [[1,0],[33,0]] (fun K' hK=>by simp only[go_sem];exact ak) ?_
 repeat refine sq ?_
 refine aC ?_
 repeat refine sq ?_
 refine bA (fun s:Nat=>[(4,⟨true,.v (vInt s)⟩),(3,⟨true,.msl [33,0] (gp l s).length⟩)]) (fun s=>[([33,0],.arr 2 ((gp l s).map ea))]) (fun s=>s<=l.ps.length) (fun s=>l.ps.length-s) 0 ?_ ?_ ?_ ?_
 ·exact Nat.zero_le _
 ·rfl
 ·rfl
 rintro i hi
 simp only[go_sem]
 repeat refine sq ?_
 refine rx hΓ [1,3,4,10] [[1,0],[33,0]] (fun K' hK=>by simp only[go_sem];exact ak) ?_
 repeat refine sq ?_
 refine au (fun hb=>?_) fun hb=>?_
 ·have aa:i<l.ps.length:=by simpa using hb
  have an:(i:Int)<l.ps.length:=by omega
  clear hb
  have dK:=MW hp i (by omega)
  obtain⟨hv0,Dw⟩:=It (jC hp.ps aa)
  have pE:(l.ps[i]).lv.toNat+1<=maxLen:=by unfold maxLen;omega
  repeat refine sq ?_
  refine ay ?_
  repeat refine sq ?_
  refine aC ?_
  repeat refine sq ?_
  refine rx hΓ [1,3,4,5] [[1,0],[33,0]] (fun K' hK=>by simp only[go_sem,ae aa,ah,aj,an];exact ak) ?_
  repeat refine sq ?_
  refine aC ?_
  repeat refine sq ?_
  refine bA (fun s:Nat=>[(5,⟨true,.v (vInt s)⟩),(3,⟨true,.msl [33,0] (mj l i (s-1)).length⟩)]) (fun s=>[([33,0],.arr 2 ((mj l i (s-1)).map ea))]) (fun s=>s<=((l.ps[i]).lv.toNat+1)/\1<=s) (fun s=>((l.ps[i]).lv.toNat+1)-s) 1 ?_ ?_ ?_ ?_
  ·exact⟨by omega,Nat.le_refl 1⟩
  ·rfl
  ·rfl
  rintro i1 ⟨hi,hR⟩
  simp only[go_sem]
  repeat refine sq ?_
  refine rx hΓ [1,3,4,5,20] [[1,0],[33,0]] (fun K' hK=>by simp only[go_sem,ae aa,ah,aj,an,ae aa,an,ah,aj,List.length_map];exact ak) ?_
  repeat refine sq ?_
  refine au (fun hb=>?_) fun hb=>?_
  ·repeat refine sq ?_
   have aE:i1<(l.ps[i]).lv.toNat+1:=by
    have :(i1:Int)<=(l.ps[i]).lv:=by simpa using hb
    omega
   have xd:=Xi l i (i1-1)
   have eI:mj l i (i1+1-1)=mj l i (i1-1)++[⟨(l.ps[i]).id,(i1:Int)⟩]:=by
    obtain⟨m,rfl⟩:∃ m,i1=m+1:=⟨i1-1,by omega⟩
    rw[Nat.add_sub_cancel,Nat.add_sub_cancel,mj,dd aa]
   refine ay ?_
   repeat refine sq ?_
   refine aC ?_
   repeat refine sq ?_
   refine aI hΓ fun K' hK=>?_
   simp only[go_sem,ae aa,ah,aj,an,ae aa,an,ah,aj,List.length_map]
   repeat (refine⟨ao,?_⟩)
   refine hK _ ?_
   clear K' hK
   simp only[go_sem]
   refine kp [1,3,4,5] [[1,0],[33,0]] ?_
   repeat refine sq ?_
   refine aI hΓ fun K' hK=>?_
   simp only[go_sem,ae aa,ah,aj,an]
   repeat (refine⟨ao,?_⟩)
   refine hK _ ?_
   clear K' hK
   simp only[go_sem]
   refine⟨i1+1,⟨aE,?_⟩,by(show ((l.ps[i]).lv.toNat+1)-(i1+1)<((l.ps[i]).lv.toNat+1)-i1;omega),?_⟩
   ·omega
   refine aT [1,3,4,5] [[1,0],[33,0]] ?_ ?_<;>simp only[go_sem,aO aE pE,aQ,eI,List.map_append,List.length_append,List.map_cons,List.map_nil,List.length_cons,List.length_nil]
  ·repeat refine sq ?_
   have fc:i1=(l.ps[i]).lv.toNat+1:=by
    have :¬ (i1:Int)<=(l.ps[i]).lv:=by simpa using hb
    omega
   have e9:mj l i (i1-1)=gp l (i+1):=by rw[fc,Nat.add_sub_cancel,Xj aa]
   refine be ?_
   simp only[go_sem]
   refine kp [1,3,4] [[1,0],[33,0]] ?_
   repeat refine sq ?_
   refine aI hΓ fun K' hK=>?_
   simp only[go_sem,ae aa,ah,aj,an]
   repeat (refine⟨ao,?_⟩)
   refine hK _ ?_
   clear K' hK
   simp only[go_sem]
   refine⟨i+1,aa,by(show l.ps.length-(i+1)<l.ps.length-i;omega),?_⟩
   refine aT [1,3,4] [[1,0],[33,0]] ?_ ?_<;>simp only[go_sem,aO aa hl,aQ,e9]
 ·have aV:i=l.ps.length:=by
   have :¬ (i:Int)<l.ps.length:=by simpa using hb
   omega
  clear hb
  subst aV
  repeat refine sq ?_
  refine be ?_
  simp only[go_sem]
  refine kp [3] [[33,0]] ?_
  repeat refine sq ?_
  refine rx hΓ [2] [[33,0]] (fun K' hK=>by simp only[go_sem,MX];exact ak) ?_
  refine aq ?_
  simp only[go_sem]
  all_goals exact cD
end
noncomputable section
def K55:List (Nat×Spec):=[(69,Gb),(146,tH),(98,rF),(99,tF),(127,Gk),(101,Bj),(15,vG)]
attribute [go_sem] K55
def acy:List (Nat×Spec):=[]
attribute [go_sem] acy
end
noncomputable section
def K56:List (Nat×Spec):=[(98,rF),(84,F9),(99,tF),(101,Bj)]
attribute [go_sem] K56
end
noncomputable section
def K57:List (Nat×Spec):=[(98,rF),(70,Ga),(99,tF),(103,x9)]
attribute [go_sem] K57
end
theorem A9(l:Led)(ds:List Int):fg l ds=eu l ds:=by
 unfold fg eu mL
 cases h:pj l with
 |false=>rfl
 |true=>
  have h0:(true=false)=False:=by simp
  rw[if_neg (by decide),if_pos (show dC true 24=0 from rfl)]
  have :(!ds.any fun d=>!dayB d)=ds.all dayB:=by
   rw[List.not_any_eq_all_not]
   simp
  rw[this]
  unfold dC
  rfl
theorem yv{l:Led}{k:Int}:kI l k=true↔eS l k=0:=by
 cases h:kI l k with
 |true=>exact⟨fun _=>(tW h).2.2,fun _=>rfl⟩
 |false=>
  refine⟨fun h=>(by cases h),fun h2=>?_⟩
  have :=(tX h).2.2
  rw[h2]at this
  cases this
theorem Sv{l:Led}{a:Ask}{s:Nat}(h:iA l a s= -1):∀ j,j<s->s6 l a j=false:=by
 induction s with
 |zero=>intro j hj;omega
 |succ s ih=>
  rw[iA]at h
  split at h
  ·omega
  ·rename_i hb
   intro j hj
   rcases Nat.lt_succ_iff_lt_or_eq.1 hj with h5 | rfl
   ·exact ih h j h5
   ·simpa using hb
theorem GN{l:Led}(h:bp l){i j:Nat}(hi:i<l.ts.length)(hj:j<l.ts.length)(e:(aK l i).so=(aK l j).so):i=j:=by
 have hs:srt Ret.so l.ts:=wq (gu.1 h.ts)
 have e1:aK l i=l.ts[i]:=dd hi
 have e2:aK l j=l.ts[j]:=dd hj
 rw[e1,e2]at e
 rcases Nat.lt_trichotomy i j with h1 | h1 | h1
 ·have:=hs i j hi hj h1;omega
 ·exact h1
 ·have:=hs j i hj hi h1;omega
theorem HK{l:Led}(ab:bp l)(a:Ask):(iA l a l.ts.length= -1/\m9 l a.so a.kn=none)\/∃ j:Nat,iA l a l.ts.length=j/\m9 l a.so a.kn=some (j:Int)/\hM l a.kn j:=by
 have hi:=o7 l a.kn
 have cp:m9 l a.so a.kn=(aF l a.kn l.ts.length).ts.find? fun i=>qt l i==a.so:=rfl
 rcases Fc l a l.ts.length with h | ⟨j,hj,h1,h2⟩
 ·refine .inl ⟨h,?_⟩
  rw[cp,List.find?_eq_none]
  intro i hm
  have hb:=hi.tl i hm
  obtain⟨j,rfl⟩:∃ j:Nat,i=j:=⟨i.toNat,by omega⟩
  have hf:=Sv h j (by omega)
  unfold s6 at hf
  rw[(hi.ts j).2 hm,Bool.true_and]at hf
  unfold qt
  rw[Int.toNat_natCast,hf]
  decide
 ·unfold s6 at h2
  simp only[Bool.and_eq_true,beq_iff_eq]at h2
  refine .inr ⟨j,h1,?_,h2.1⟩
  rw[cp]
  cases hf:(aF l a.kn l.ts.length).ts.find? fun i=>qt l i==a.so with
  |none=>
   rw[List.find?_eq_none]at hf
   have :=hf j ((hi.ts j).1 h2.1)
   unfold qt at this
   rw[Int.toNat_natCast,h2.2]at this
   exact absurd (beq_self_eq_true _) this
  |some i=>
   have hm:=List.mem_of_find?_eq_some hf
   have he:=List.find?_some hf
   have hb:=hi.tl i hm
   obtain⟨m,rfl⟩:∃ m:Nat,i=m:=⟨i.toNat,by omega⟩
   unfold qt at he
   rw[Int.toNat_natCast,beq_iff_eq]at he
   have :m=j:=GN ab (by omega) hj (he.trans h2.2.symm)
   rw[this]
theorem Nr(l:Led)(a:Ask):nX l a=i5 l a.so a.kn:=by
 unfold nX i5 gQ
 rw[A9]
 by_cases hc:eu l [a.kn]=0
 ·rw[if_pos hc,if_pos hc]
  have ab:=(mG hc).1
  rcases HK ab a with⟨h1,h2⟩ | ⟨j,h1,h2,-⟩
  ·rw[h1,h2,if_pos (by decide)];rfl
  ·rw[h1,h2,if_neg (by omega)]
   show _=if dC true 3=0 then eS l a.kn else dC true 3
   rw[if_pos (show dC true 3=0 from rfl),ox ab]
 ·rw[if_neg hc,if_neg hc,if_neg hc]
theorem Nq(l:Led)(a:Ask):lT l a=⟨(lV l a.so a.kn).1,(lV l a.so a.kn).2⟩:=by
 have he:=Nr l a
 unfold lT lV
 by_cases hz:nX l a=0
 ·rw[if_pos hz]
  have lO:=hz
  rw[he]at lO
  have cp:gQ l a.so a.kn=0:=by
   unfold i5 at lO
   split at lO
   ·assumption
   ·exact lO
  have oL:eS l a.kn=0:=by
   unfold i5 at lO
   rw[if_pos cp]at lO
   exact lO
  rw[if_pos ⟨cp,yv.2 oL⟩]
  obtain⟨ab,-⟩:=yH cp
  obtain⟨-,hv,hr,-⟩:=vW ab oL
  have vf:eu l [a.kn]=0:=by
   unfold gQ at cp
   split at cp
   ·assumption
   ·exact cp
  unfold jh
  rw[if_pos vf]
  unfold gQ at cp
  rw[if_pos vf]at cp
  rcases HK ab a with⟨h1,h2⟩ | ⟨j,h1,h2,h3⟩
  ·rw[h2]at cp;cases cp
  ·rw[h1,h2,Int.toNat_natCast,hv]
   exact(hr.2 j h3).1
 ·rw[if_neg hz,if_neg]
  rintro⟨h1,h2⟩
  apply hz
  rw[he]
  unfold i5
  rw[if_pos h1]
  exact yv.1 h2
noncomputable section
def bO(l:Led)(so:Int):Led:=⟨l.ps,l.rs.filter fun r=>r.so != so,l.ts.filter fun r=>r.so != so,l.ss.filter fun r=>r.so != so⟩
def iv{α:Type}(f:α->Int)(so:Int)(l:List α)(s:Nat):List α:=(l.take s).filter fun r=>f r != so
theorem EY{α:Type}{f:α->Int}{so:Int}{l:List α}{s:Nat}(h:s<l.length)(hc:(f l[s] != so)=true):iv f so l (s+1)=iv f so l s++[l[s]]:=by
 unfold iv
 rw[List.take_add_one,List.getElem?_eq_getElem h,List.filter_append]
 simp[hc]
theorem E0{α:Type}{f:α->Int}{so:Int}{l:List α}{s:Nat}(h:s<l.length)(hc:(f l[s] != so)=false):iv f so l (s+1)=iv f so l s:=by
 unfold iv
 rw[List.take_add_one,List.getElem?_eq_getElem h,List.filter_append]
 simp[hc]
theorem EZ{α:Type}(f:α->Int)(so:Int)(l:List α)(s:Nat):(iv f so l s).length<=s:=by
 unfold iv
 exact Nat.le_trans (List.length_filter_le _ _) (by simp;omega)
theorem Zw{α:Type}(f:α->Int)(so:Int)(l:List α):iv f so l l.length=l.filter fun r=>f r != so:=by unfold iv;rw[List.take_length]
def K64:List (Nat×Spec):=[(95,OX)]
theorem acp:KS K64:=tc Q7.sound<|tn
attribute [go_sem] K64
@[go_sem] def P22:PSpec:=p2 iL iI (fun l _=>yx l) (fun l so=>dq (bO l so)) false
@[go_sem] def S22:Spec:=P22.toSpec
set_option maxHeartbeats 8000000 in
theorem Rz:aL Tryz.prog 22 P22:=by
 refine cK (rs:=[.cell 4 31]) Tryz.func22 Tryz.ntmps22 fun l so hp hw=>?_
 have hP:=c8
 simp only[iI,iL,dq]at hw |-
 have hΓ:=acp
 have mo:=hp
 obtain⟨zN,mv,mu,D2,zM,zL⟩:=hp
 have jT:l.rs.length<=maxLen:=by unfold maxLen;omega
 have fP:l.ts.length<=maxLen:=by unfold maxLen;omega
 have pN:l.ss.length<=maxLen:=by unfold maxLen;omega
 repeat refine sq ?_
 refine rx hΓ [1,2,4] [[2,0],[4,0],[38,0],[63,0],[88,0]] (fun K' hK=>by simp only[go_sem];exact ak) ?_
 repeat refine sq ?_
 refine rx hΓ [1,4,5] [[4,0],[5,0],[38,0],[63,0],[88,0]] (fun K' hK=>by simp only[go_sem];(repeat (refine⟨by first | exact ao | exact mo,?_⟩));exact cF) ?_
 repeat refine sq ?_
 refine rx hΓ [1,4,5,6] [[4,0],[5,0],[6,0],[38,0],[63,0],[88,0]] (fun K' hK=>by simp only[go_sem];exact ak) ?_
 refine bH (l6 [6,0] [38,0] 1 7 _ rfl rfl rfl [1,4,5,6] [[4,0],[5,0],[6,0],[38,0],[63,0],[88,0]] ?_ rfl) ?_
 ·simp only[go_sem,List.set_cons_succ,List.set_cons_zero]
 simp only[go_sem,List.set_cons_succ,List.set_cons_zero]
 refine bH (l6 [6,0] [63,0] 2 8 _ rfl rfl rfl [1,4,5,6] [[4,0],[5,0],[6,0],[38,0],[63,0],[88,0]] ?_ rfl) ?_
 ·simp only[go_sem,List.set_cons_succ,List.set_cons_zero]
 simp only[go_sem,List.set_cons_succ,List.set_cons_zero]
 repeat refine sq ?_
 refine rx hΓ [1,4,5,6,7] [[4,0],[5,0],[6,0],[38,0],[63,0],[88,0]] (fun K' hK=>by simp only[go_sem];exact ak) ?_
 refine bH (l6 [6,0] [88,0] 3 7 _ rfl rfl rfl [1,4,5,6,7] [[4,0],[5,0],[6,0],[38,0],[63,0],[88,0]] ?_ rfl) ?_
 ·simp only[go_sem,List.set_cons_succ,List.set_cons_zero]
 simp only[go_sem,List.set_cons_succ,List.set_cons_zero]
 repeat refine sq ?_
 refine aC ?_
 repeat refine sq ?_
 refine bA (fun s:Nat=>[(7,⟨true,.v (vInt s)⟩)]) (fun s=>[([6,0],.box [.v (.sl (l.ps.map fA)),.msl [38,0] (iv Rec.so so l.rs s).length,.msl [63,0] 0,.msl [88,0] 0]),([38,0],.arr 7 ((iv Rec.so so l.rs s).map encR))]) (fun s=>s<=l.rs.length) (fun s=>l.rs.length-s) 0 ?_ ?_ ?_ ?_
 ·exact Nat.zero_le _
 ·rfl
 ·rfl
 rintro i hi
 simp only[go_sem]
 repeat refine sq ?_
 refine rx hΓ [1,4,5,6,7,19] [[4,0],[5,0],[6,0],[38,0],[63,0],[88,0]] (fun K' hK=>by simp only[go_sem];exact ak) ?_
 repeat refine sq ?_
 refine au (fun hb=>?_) fun hb=>?_
 ·have aa:i<l.rs.length:=by simpa using hb
  have an:(i:Int)<l.rs.length:=by omega
  clear hb
  have dK:=EZ Rec.so so l.rs i
  repeat refine sq ?_
  refine ay ?_
  repeat refine sq ?_
  refine aC ?_
  repeat refine sq ?_
  refine rx hΓ [1,4,5,6,7,29] [[4,0],[5,0],[6,0],[38,0],[63,0],[88,0]] (fun K' hK=>by simp only[go_sem,ae aa,ah,aj,an];exact ak) ?_
  repeat refine sq ?_
  refine au (fun hb=>?_) fun hb=>?_
  ·repeat refine sq ?_
   have eS:=EY (f:=Rec.so) (so:=so) aa (by simpa using hb)
   repeat refine sq ?_
   refine mK hΓ hP [[],[0],[],[2],[],[2,3,4],[2,3,4,5],[2,3,4,5,6],u8,u9,bI] (by kernel_rfl) fun K' hK=>?_
   simp only[go_sem,ae aa,ah,aj,an]
   repeat (refine⟨ao,?_⟩)
   first | refine⟨by rfl,?_⟩ | skip
   refine hK _ ?_
   clear K' hK
   simp only[go_sem]
   refine kp [1,4,5,6,7] [[4,0],[5,0],[6,0],[38,0],[63,0],[88,0]] ?_
   repeat refine sq ?_
   refine aI hΓ fun K' hK=>?_
   simp only[go_sem,ae aa,ah,aj,an]
   repeat (refine⟨ao,?_⟩)
   refine hK _ ?_
   clear K' hK
   simp only[go_sem]
   refine⟨i+1,aa,by(show l.rs.length-(i+1)<l.rs.length-i;omega),?_⟩
   refine aT [1,4,5,6,7] [[4,0],[5,0],[6,0],[38,0],[63,0],[88,0]] ?_ ?_<;>simp only[go_sem,aO aa jT,aQ,eS,List.map_append,List.length_append,List.map_cons,List.map_nil,List.length_cons,List.length_nil]
  ·repeat refine sq ?_
   have eS:=E0 (f:=Rec.so) (so:=so) aa (by simpa using hb)
   refine ay ?_
   refine br ?_
   simp only[go_sem]
   refine kp [1,4,5,6,7] [[4,0],[5,0],[6,0],[38,0],[63,0],[88,0]] ?_
   repeat refine sq ?_
   refine aI hΓ fun K' hK=>?_
   simp only[go_sem,ae aa,ah,aj,an]
   repeat (refine⟨ao,?_⟩)
   refine hK _ ?_
   clear K' hK
   simp only[go_sem]
   refine⟨i+1,aa,by(show l.rs.length-(i+1)<l.rs.length-i;omega),?_⟩
   refine aT [1,4,5,6,7] [[4,0],[5,0],[6,0],[38,0],[63,0],[88,0]] ?_ ?_<;>simp only[go_sem,aO aa jT,aQ,eS,List.map_append,List.length_append,List.map_cons,List.map_nil,List.length_cons,List.length_nil]
 ·have aV:i=l.rs.length:=by
   have :¬ (i:Int)<l.rs.length:=by simpa using hb
   omega
  clear hb
  subst aV
  repeat refine sq ?_
  refine be ?_
  simp only[go_sem]
  refine kp [1,4,5,6] [[4,0],[5,0],[6,0],[38,0],[63,0],[88,0]] ?_
  repeat refine sq ?_
  refine rx hΓ [1,4,5,6,8] [[4,0],[5,0],[6,0],[38,0],[63,0],[88,0]] (fun K' hK=>by simp only[go_sem];exact ak) ?_
  repeat refine sq ?_
  refine aC ?_
  repeat refine sq ?_
  refine bA (fun s:Nat=>[(8,⟨true,.v (vInt s)⟩)]) (fun s=>[([6,0],.box [.v (.sl (l.ps.map fA)),.msl [38,0] (iv Rec.so so l.rs l.rs.length).length,.msl [63,0] (iv Ret.so so l.ts s).length,.msl [88,0] 0]),([63,0],.arr 8 ((iv Ret.so so l.ts s).map encT))]) (fun s=>s<=l.ts.length) (fun s=>l.ts.length-s) 0 ?_ ?_ ?_ ?_
  ·exact Nat.zero_le _
  ·rfl
  ·rfl
  rintro i hi
  simp only[go_sem]
  repeat refine sq ?_
  refine rx hΓ [1,4,5,6,8,44] [[4,0],[5,0],[6,0],[38,0],[63,0],[88,0]] (fun K' hK=>by simp only[go_sem];exact ak) ?_
  repeat refine sq ?_
  refine au (fun hb=>?_) fun hb=>?_
  ·have aE:i<l.ts.length:=by simpa using hb
   have bc:(i:Int)<l.ts.length:=by omega
   clear hb
   have dK:=EZ Ret.so so l.ts i
   repeat refine sq ?_
   refine ay ?_
   repeat refine sq ?_
   refine aC ?_
   repeat refine sq ?_
   refine rx hΓ [1,4,5,6,8,54] [[4,0],[5,0],[6,0],[38,0],[63,0],[88,0]] (fun K' hK=>by simp only[go_sem,ae aE,ah,aj,bc];exact ak) ?_
   repeat refine sq ?_
   refine au (fun hb=>?_) fun hb=>?_
   ·repeat refine sq ?_
    have eS:=EY (f:=Ret.so) (so:=so) aE (by simpa using hb)
    repeat refine sq ?_
    refine mK hΓ hP [[],[0],[],[2],[],[2,3,4],[2,3,4,5],[2,3,4,5,6],u8,u9,bI] (by kernel_rfl) fun K' hK=>?_
    simp only[go_sem,ae aE,ah,aj,bc]
    repeat (refine⟨ao,?_⟩)
    first | refine⟨by rfl,?_⟩ | skip
    refine hK _ ?_
    clear K' hK
    simp only[go_sem]
    refine kp [1,4,5,6,8] [[4,0],[5,0],[6,0],[38,0],[63,0],[88,0]] ?_
    repeat refine sq ?_
    refine aI hΓ fun K' hK=>?_
    simp only[go_sem,ae aE,ah,aj,bc]
    repeat (refine⟨ao,?_⟩)
    refine hK _ ?_
    clear K' hK
    simp only[go_sem]
    refine⟨i+1,aE,by(show l.ts.length-(i+1)<l.ts.length-i;omega),?_⟩
    refine aT [1,4,5,6,8] [[4,0],[5,0],[6,0],[38,0],[63,0],[88,0]] ?_ ?_<;>simp only[go_sem,aO aE fP,aQ,eS,List.map_append,List.length_append,List.map_cons,List.map_nil,List.length_cons,List.length_nil]
   ·repeat refine sq ?_
    have eS:=E0 (f:=Ret.so) (so:=so) aE (by simpa using hb)
    refine ay ?_
    refine br ?_
    simp only[go_sem]
    refine kp [1,4,5,6,8] [[4,0],[5,0],[6,0],[38,0],[63,0],[88,0]] ?_
    repeat refine sq ?_
    refine aI hΓ fun K' hK=>?_
    simp only[go_sem,ae aE,ah,aj,bc]
    repeat (refine⟨ao,?_⟩)
    refine hK _ ?_
    clear K' hK
    simp only[go_sem]
    refine⟨i+1,aE,by(show l.ts.length-(i+1)<l.ts.length-i;omega),?_⟩
    refine aT [1,4,5,6,8] [[4,0],[5,0],[6,0],[38,0],[63,0],[88,0]] ?_ ?_<;>simp only[go_sem,aO aE fP,aQ,eS,List.map_append,List.length_append,List.map_cons,List.map_nil,List.length_cons,List.length_nil]
  ·have fc:i=l.ts.length:=by
    have :¬ (i:Int)<l.ts.length:=by simpa using hb
    omega
   clear hb
   subst fc
   repeat refine sq ?_
   refine be ?_
   simp only[go_sem]
   refine kp [1,4,5,6] [[4,0],[5,0],[6,0],[38,0],[63,0],[88,0]] ?_
   repeat refine sq ?_
   refine rx hΓ [1,4,5,6,9] [[4,0],[5,0],[6,0],[38,0],[63,0],[88,0]] (fun K' hK=>by simp only[go_sem];exact ak) ?_
   repeat refine sq ?_
   refine aC ?_
   repeat refine sq ?_
   refine bA (fun s:Nat=>[(9,⟨true,.v (vInt s)⟩)]) (fun s=>[([6,0],.box [.v (.sl (l.ps.map fA)),.msl [38,0] (iv Rec.so so l.rs l.rs.length).length,.msl [63,0] (iv Ret.so so l.ts l.ts.length).length,.msl [88,0] (iv Sig.so so l.ss s).length]),([88,0],.arr 7 ((iv Sig.so so l.ss s).map encS))]) (fun s=>s<=l.ss.length) (fun s=>l.ss.length-s) 0 ?_ ?_ ?_ ?_
   ·exact Nat.zero_le _
   ·rfl
   ·rfl
   rintro i hi
   simp only[go_sem]
   repeat refine sq ?_
   refine rx hΓ [1,4,5,6,9,69] [[4,0],[5,0],[6,0],[38,0],[63,0],[88,0]] (fun K' hK=>by simp only[go_sem];exact ak) ?_
   repeat refine sq ?_
   refine au (fun hb=>?_) fun hb=>?_
   ·have cC:i<l.ss.length:=by simpa using hb
    have gF:(i:Int)<l.ss.length:=by omega
    clear hb
    have dK:=EZ Sig.so so l.ss i
    repeat refine sq ?_
    refine ay ?_
    repeat refine sq ?_
    refine aC ?_
    repeat refine sq ?_
    refine rx hΓ [1,4,5,6,9,79] [[4,0],[5,0],[6,0],[38,0],[63,0],[88,0]] (fun K' hK=>by simp only[go_sem,ae cC,ah,aj,gF];exact ak) ?_
    repeat refine sq ?_
    refine au (fun hb=>?_) fun hb=>?_
    ·repeat refine sq ?_
     have eS:=EY (f:=Sig.so) (so:=so) cC (by simpa using hb)
     repeat refine sq ?_
     refine mK hΓ hP [[],[0],[],[2],[],[2,3,4],[2,3,4,5],[2,3,4,5,6],u8,u9,bI] (by kernel_rfl) fun K' hK=>?_
     simp only[go_sem,ae cC,ah,aj,gF]
     repeat (refine⟨ao,?_⟩)
     first | refine⟨by rfl,?_⟩ | skip
     refine hK _ ?_
     clear K' hK
     simp only[go_sem]
     refine kp [1,4,5,6,9] [[4,0],[5,0],[6,0],[38,0],[63,0],[88,0]] ?_
     repeat refine sq ?_
     refine aI hΓ fun K' hK=>?_
     simp only[go_sem,ae cC,ah,aj,gF]
     repeat (refine⟨ao,?_⟩)
     refine hK _ ?_
     clear K' hK
     simp only[go_sem]
     refine⟨i+1,cC,by(show l.ss.length-(i+1)<l.ss.length-i;omega),?_⟩
     refine aT [1,4,5,6,9] [[4,0],[5,0],[6,0],[38,0],[63,0],[88,0]] ?_ ?_<;>simp only[go_sem,aO cC pN,aQ,eS,List.map_append,List.length_append,List.map_cons,List.map_nil,List.length_cons,List.length_nil]
    ·repeat refine sq ?_
     have eS:=E0 (f:=Sig.so) (so:=so) cC (by simpa using hb)
     refine ay ?_
     refine br ?_
     simp only[go_sem]
     refine kp [1,4,5,6,9] [[4,0],[5,0],[6,0],[38,0],[63,0],[88,0]] ?_
     repeat refine sq ?_
     refine aI hΓ fun K' hK=>?_
     simp only[go_sem,ae cC,ah,aj,gF]
     repeat (refine⟨ao,?_⟩)
     refine hK _ ?_
     clear K' hK
     simp only[go_sem]
     refine⟨i+1,cC,by(show l.ss.length-(i+1)<l.ss.length-i;omega),?_⟩
     refine aT [1,4,5,6,9] [[4,0],[5,0],[6,0],[38,0],[63,0],[88,0]] ?_ ?_<;>simp only[go_sem,aO cC pN,aQ,eS,List.map_append,List.length_append,List.map_cons,List.map_nil,List.length_cons,List.length_nil]
   ·have nI:i=l.ss.length:=by
     have :¬ (i:Int)<l.ss.length:=by simpa using hb
     omega
    clear hb
    subst nI
    repeat refine sq ?_
    refine be ?_
    simp only[go_sem]
    refine kp [4,6] [[4,0],[6,0],[38,0],[63,0],[88,0]] ?_
    repeat refine sq ?_
    refine rx hΓ [4] [[4,0],[38,0],[63,0],[88,0]] (fun K' hK=>by simp only[go_sem,Zw];exact ak) ?_
    refine aq ?_
    simp only[go_sem]
    all_goals exact cD
end
theorem abd{α:Type}{fB:α->Bool}{num:α->Int}{l:List α}:ja fB num l=true↔(∀ x∈l,fB x=true)/\l.Pairwise (fun a b=>num a<num b):=by
 rw[gu]
 constructor
 ·intro h
  refine⟨fun x hx=>?_,?_⟩
  ·obtain⟨j,hj,rfl⟩:=List.getElem_of_mem hx
   exact(h j hj hj).1
  ·rw[List.pairwise_iff_getElem]
   exact fun i j hi hj b7=>wq h i j hi hj b7
 ·rintro⟨h1,h2⟩ j hj _
  refine⟨h1 _ (List.getElem_mem hj),fun h0=>?_⟩
  rw[List.pairwise_iff_getElem]at h2
  exact h2 (j-1) j (by omega) hj (by omega)
theorem F5{α:Type}{fB:α->Bool}{num:α->Int}{l:List α}(p:α->Bool)(h:ja fB num l=true):ja fB num (l.filter p)=true:=by
 rw[abd]at h |-
 exact⟨fun x hx=>h.1 x (List.mem_filter.1 hx).1,h.2.filter p⟩
theorem Bt{l:Led}(h:bp l)(so:Int):bp (bO l so) where
 ps:=h.ps
 psn:=h.psn
 rs:=F5 _ h.rs
 rsn:=Nat.le_trans (List.length_filter_le _ _) h.rsn
 ts:=F5 _ h.ts
 tsn:=Nat.le_trans (List.length_filter_le _ _) h.tsn
 ss:=F5 _ h.ss
 ssn:=Nat.le_trans (List.length_filter_le _ _) h.ssn
 rl:=fun j hj=>by
  have hm:(bO l so).rs[j]∈l.rs:=(List.mem_filter.1 (List.getElem_mem hj)).1
  obtain⟨i,hi,e⟩:=List.getElem_of_mem hm
  have :=h.rl i hi
  rw[e]at this
  exact this
 sl:=fun j hj=>by
  have hm:(bO l so).ss[j]∈l.ss:=(List.mem_filter.1 (List.getElem_mem hj)).1
  obtain⟨i,hi,e⟩:=List.getElem_of_mem hm
  have :=h.sl i hi
  rw[e]at this
  exact this
 nd:=by
  refine List.Nodup.sublist ?_ h.nd
  unfold m7 bO
  exact((List.filter_sublist.map _).append (List.filter_sublist.map _)).append (List.filter_sublist.map _)
theorem YN(l:Led)(so:Int):(m7 l).contains so=hasB l so:=by
 unfold m7 hasB
 rw[Bool.eq_iff_iff,List.contains_iff_mem,List.mem_append,List.mem_append,Bool.or_eq_true,Bool.or_eq_true,List.any_eq_true,List.any_eq_true,List.any_eq_true,List.mem_map,List.mem_map,List.mem_map]
 simp only[beq_iff_eq]
set_option maxHeartbeats 8000000
noncomputable section
def o4(l:Led)(k:Int)(ds:List Int)(i:Int):Bool:=bT (ds.getD i.toNat 0) (bt (aW (ax l k) k).ds i).1 (bt (aW (ax l k) k).ds i).2
def iH(l:Led)(k:Int)(ds:List Int):Bool:=kI l k&&(decide (ds.length=l.ts.length)&&(ds.all dayB&&(aW (ax l k) k).ts.all (o4 l k ds)))
theorem Ix:pG (185,[])=fun n=>!dayB n:=rfl
theorem IQ:wt (185,[]):=.inr (.inl rfl)
theorem G3(l:Led)(k:Int):(aW (ax l k) k).l=l:=sg l k
def K60:List (Nat×Spec):=[(78,S78),(160,S160),(96,tG)]
theorem acx:KS K60:=tc Dd<|tc Dh<|tc v7.sound<|tn
attribute [go_sem] K60
@[go_sem] def P118:PSpec:=p3 jQ iI cm (fun l _ _=>bp l) (fun l k az=>.bool (iH l k az)) true
@[go_sem] def Pg:Spec:=P118.toSpec
theorem HE:aL Tryz.prog 118 P118:=by
 refine gL (rs:=[.tmp 6]) Tryz.func118 Tryz.ntmps118 fun l k az hp hw=>?_
 have hP:=c8
 simp only[iI,cm,jQ,eV]at hw |-
 have hΓ:=acx
 repeat refine sq ?_
 refine rx hΓ [0,1,2] [] (fun K' hK=>by simp only[go_sem];exact ak) ?_
 rcases mn:kI l k with _ | _
 ·obtain⟨q1,q2,q3⟩:=tX mn
  have e:iH l k az=false:=by unfold iH;rw[mn];rfl
  repeat refine sq ?_
  refine rx hΓ [0,2,7,8] [[26,0,11,0,11,0,14,0],[23,0,11,0,11,0,14,0],[24,0,11,0,11,0,14,0]] (fun K' hK=>by simp only[go_sem,q1,q2,q3];(repeat (refine⟨by first | exact ao | exact hp,?_⟩));exact cF) ?_
  repeat refine sq ?_
  refine rx hΓ [2,7,32] [[26,0,11,0,11,0,14,0],[23,0,11,0,11,0,14,0],[24,0,11,0,11,0,14,0]] (fun K' hK=>by simp only[go_sem,q1,q2,q3,IQ,Ix,List.length_map];exact ak) ?_
  repeat refine sq ?_
  refine au (fun hb=>?_) fun hb=>?_
  ·repeat refine sq ?_
   refine rx hΓ [6] [] (fun K' hK=>by simp only[go_sem,q1,q2,q3];exact ak) ?_
   refine aq ?_
   simp only[go_sem]
   rw[e]
  ·cases hb
 ·obtain⟨q1,q2,q3⟩:=tW mn
  obtain⟨hv,ca⟩:=vS hp k
  repeat refine sq ?_
  refine rx hΓ [0,2,7,8] [[26,0,11,0,11,0,14,0],[23,0,11,0,11,0,14,0],[24,0,11,0,11,0,14,0]] (fun K' hK=>by simp only[go_sem,q1,q2];(repeat (refine⟨by first | exact ao | exact hp,?_⟩));exact cF) ?_
  repeat refine sq ?_
  refine rx hΓ [2,7,32] [[26,0,11,0,11,0,14,0],[23,0,11,0,11,0,14,0],[24,0,11,0,11,0,14,0]] (fun K' hK=>by simp only[go_sem,q1,q2,IQ,Ix,List.length_map];exact ak) ?_
  repeat refine sq ?_
  refine au (fun hb=>?_) fun hb=>?_
  ·repeat refine sq ?_
   have e:iH l k az=false:=by
    have cr:(!decide (az.length=l.ts.length)||az.any fun n=>!dayB n)=true:=by
     rw[Bool.or_eq_true]at hb |-
     refine hb.imp (fun h=>?_) id
     simp at h |-
     omega
    unfold iH
    cases h1:decide (az.length=l.ts.length)with
    |false=>simp
    |true=>
     rw[h1]at cr
     have h2:az.all dayB=false:=by
      rw[List.all_eq_false]
      obtain⟨n,hn,hd⟩:=List.any_eq_true.1 (show (az.any fun n=>!dayB n)=true from cr)
      exact⟨n,hn,by simpa using hd⟩
     rw[h2];simp
   repeat refine sq ?_
   refine rx hΓ [6] [] (fun K' hK=>by simp only[go_sem,q1,q2];exact ak) ?_
   refine aq ?_
   simp only[go_sem]
   rw[e]
  ·repeat refine sq ?_
   have qW:az.length=l.ts.length:=by
    rw[Bool.or_eq_false_iff]at hb
    have :=hb.1
    simp at this
    omega
   have Yy:az.all dayB=true:=by
    rw[Bool.or_eq_false_iff]at hb
    rw[List.all_eq_true]
    intro n hn
    have :=List.any_eq_false.1 hb.2 n hn
    simpa using this
   have ml:=hv.tn
   have hl:(aW (ax l k) k).ts.length<=maxLen:=by unfold maxLen;omega
   refine ay ?_
   repeat refine sq ?_
   refine rx hΓ [2,7,36,37,38] [[26,0,11,0,11,0,14,0],[23,0,11,0,11,0,14,0],[24,0,11,0,11,0,14,0]] (fun K' hK=>by simp only[go_sem,q1,q2];exact ak) ?_
   repeat refine sq ?_
   refine aC ?_
   repeat refine sq ?_
   refine bA (fun s:Nat=>[(38,⟨true,.v (vInt s)⟩)]) (fun s=>[]) (fun s=>s<=(aW (ax l k) k).ts.length/\∀ m (hm:m<(aW (ax l k) k).ts.length),m<s->o4 l k az (aW (ax l k) k).ts[m]=true) (fun s=>(aW (ax l k) k).ts.length-s) 0 ?_ ?_ ?_ ?_
   ·exact⟨Nat.zero_le _,fun m _ h=>by omega⟩
   ·rfl
   ·rfl
   rintro i ⟨hi,hR⟩
   simp only[go_sem]
   repeat refine sq ?_
   refine rx hΓ [2,7,36,37,38,39] [[26,0,11,0,11,0,14,0],[23,0,11,0,11,0,14,0],[24,0,11,0,11,0,14,0]] (fun K' hK=>by simp only[go_sem,q1,q2];exact ak) ?_
   repeat refine sq ?_
   refine au (fun hb=>?_) fun hb=>?_
   ·have aa:i<(aW (ax l k) k).ts.length:=by simpa using hb
    have an:(i:Int)<(aW (ax l k) k).ts.length:=by omega
    clear hb
    obtain⟨cq,dW⟩:=hv.ts _ (List.getElem_mem aa)
    rw[G3,<-qW]at dW
    have jq:(az.map vInt).getD ((aW (ax l k) k).ts[i]).toNat default=vInt (az.getD ((aW (ax l k) k).ts[i]).toNat 0):=by
     have :((aW (ax l k) k).ts[i]).toNat<az.length:=by omega
     rw[ae this,dd this]
    repeat refine sq ?_
    refine ay ?_
    repeat refine sq ?_
    refine aC ?_
    repeat refine sq ?_
    refine rx hΓ [2,7,10,36,37,38] [[26,0,11,0,11,0,14,0],[23,0,11,0,11,0,14,0],[24,0,11,0,11,0,14,0]] (fun K' hK=>by simp only[go_sem,q1,q2,ae aa,ah,aj,an];exact ak) ?_
    repeat refine sq ?_
    refine dx hΓ hP [[],[],[0,1],[0,1,2],[],[4],[4,5],[4,5,6],[],[4,5,6,7,8],[4,5,6,7,8,9],[],[11],[11,12],[11,12,13],[],[11,12,13,14,15],[11,12,13,14,15,16],gO,l7] [2,7,36,37,38,61] [[26,0,11,0,11,0,14,0],[23,0,11,0,11,0,14,0],[24,0,11,0,11,0,14,0]] (by kernel_rfl) (fun K' hK=>by simp only[go_sem,q1,q2,ae aa,ah,aj,an,jq,cq,dW,iO,List.length_map];exact eQ) ?_
    repeat refine sq ?_
    refine au (fun hb=>?_) fun hb=>?_
    ·repeat refine sq ?_
     have e:iH l k az=false:=by
      have h1:o4 l k az (aW (ax l k) k).ts[i]=false:=by unfold o4;simpa using hb
      have h2:(aW (ax l k) k).ts.all (o4 l k az)=false:=List.all_eq_false.2 ⟨_,List.getElem_mem aa,by rw[h1];decide⟩
      unfold iH;rw[h2];simp
     repeat refine sq ?_
     refine rx hΓ [6] [] (fun K' hK=>by simp only[go_sem,q1,q2,ae aa,ah,aj,an];exact ak) ?_
     refine aq ?_
     simp only[go_sem]
     rw[e]
    ·repeat refine sq ?_
     refine ay ?_
     refine br ?_
     simp only[go_sem]
     refine kp [2,7,36,37,38] [[26,0,11,0,11,0,14,0],[23,0,11,0,11,0,14,0],[24,0,11,0,11,0,14,0]] ?_
     repeat refine sq ?_
     refine aI hΓ fun K' hK=>?_
     simp only[go_sem,q1,q2,ae aa,ah,aj,an]
     repeat (refine⟨ao,?_⟩)
     refine hK _ ?_
     clear K' hK
     simp only[go_sem]
     refine⟨i+1,⟨aa,?_⟩,by(show (aW (ax l k) k).ts.length-(i+1)<(aW (ax l k) k).ts.length-i;omega),?_⟩
     ·intro m hm w9
      rcases Nat.lt_succ_iff_lt_or_eq.1 w9 with h5 | rfl
      ·exact hR m hm h5
      ·unfold o4;simpa using hb
     refine aT [2,7,36,37,38] [[26,0,11,0,11,0,14,0],[23,0,11,0,11,0,14,0],[24,0,11,0,11,0,14,0]] ?_ ?_<;>simp only[go_sem,aO aa hl,aQ]
   ·have aV:i=(aW (ax l k) k).ts.length:=by
     have :¬ (i:Int)<(aW (ax l k) k).ts.length:=by simpa using hb
     omega
    clear hb
    subst aV
    repeat refine sq ?_
    refine be ?_
    simp only[go_sem]
    refine kp [] [] ?_
    repeat refine sq ?_
    refine rx hΓ [6] [] (fun K' hK=>by simp only[go_sem,q1,q2];exact ak) ?_
    refine aq ?_
    simp only[go_sem]
    have e:iH l k az=true:=by
     have h2:(aW (ax l k) k).ts.all (o4 l k az)=true:=List.all_eq_true.2 fun x hx=>by obtain⟨m,hm,rfl⟩:=List.getElem_of_mem hx;exact hR m hm hm
     unfold iH;rw[mn,Yy,h2,qW];simp
    rw[e]
def tj(l:Led)(k:Int)(az:List Int):Int:=if eu l [k]=0 then dC (iH l k az) 29 else eu l [k]
def K60b:List (Nat×Spec):=[(75,qg),(118,Pg)]
theorem acw:KS K60b:=tc yA.sound<|tc HE.sound<|tn
attribute [go_sem] K60b
@[go_sem] def P38:PSpec:=p3 iL iI cm (fun _ _ _=>True) (fun l k az=>vInt (tj l k az)) true
@[go_sem] def S38:Spec:=P38.toSpec
theorem Rv:aL Tryz.prog 38 P38:=by
 refine gL (rs:=[.tmp 6]) Tryz.func38 Tryz.ntmps38 fun l k az hp hw=>?_
 simp only[iI,cm,iL,dq]at hw |-
 have hΓ:=acw
 repeat refine sq ?_
 refine rx hΓ [1,2,3] [[3,0]] (fun K' hK=>by simp only[go_sem];exact ak) ?_
 refine bH (cZ 3 (.ref [3,0] 0) (by simp only[go_sem]) (by simp only[go_sem]) [1,2,3] [[3,0]] ?_ rfl) ?_
 ·simp only[go_sem]
 simp only[go_sem]
 repeat refine sq ?_
 refine rx hΓ [1,2,3,7] [[3,0]] (fun K' hK=>by simp only[go_sem];exact ak) ?_
 repeat refine sq ?_
 refine rx hΓ [1,2,3,7,13] [[3,0]] (fun K' hK=>by simp only[go_sem];exact ak) ?_
 repeat refine sq ?_
 refine au (fun hb=>?_) fun hb=>?_
 ·repeat refine sq ?_
  have hc:¬ eu l [k]=0:=by simpa using hb
  unfold tj;rw[if_neg hc]
  repeat refine sq ?_
  refine rx hΓ [6] [] (fun K' hK=>by simp only[go_sem];exact ak) ?_
  refine aq ?_
  simp only[go_sem]
  all_goals exact cD
 ·repeat refine sq ?_
  have hc:eu l [k]=0:=by simpa using hb
  unfold tj;rw[if_pos hc]
  obtain⟨ab,_⟩:=mG hc
  refine ay ?_
  repeat refine sq ?_
  refine rx hΓ [18] [] (fun K' hK=>by simp only[go_sem];(repeat (refine⟨by first | exact ao | exact ab,?_⟩));exact cF) ?_
  repeat refine sq ?_
  refine au (fun hb=>?_) fun hb=>?_
  ·repeat refine sq ?_
   have h:iH l k az=false:=by simpa using hb
   rw[h]
   repeat refine sq ?_
   refine rx hΓ [6] [] (fun K' hK=>by simp only[go_sem];exact ak) ?_
   refine aq ?_
   simp only[go_sem]
   all_goals exact cD
  ·repeat refine sq ?_
   have h:iH l k az=true:=by simpa using hb
   rw[h]
   refine ay ?_
   repeat refine sq ?_
   refine rx hΓ [6] [] (fun K' hK=>by simp only[go_sem];exact ak) ?_
   refine aq ?_
   simp only[go_sem]
   all_goals exact cD
end
noncomputable section
def me(x:Vw)(az:List Int)(pa day f:Int):Int:=match fS x.rs pa f day with
 |none=>0
 |some r=>match bJ x.bk (r.so,f)with
  |none=>r.bo
  |some i=>if az.getD i.toNat 0>day then r.bo else 0
def fU(x:Vw)(az:List Int)(pa day:Int)(n:Nat):Nat->List Int
 | 0=>List.replicate n 0
 |m+1=>(fU x az pa day n m).set m (me x az pa day ((m+1:Nat):Int))
theorem Cm(x:Vw)(az:List Int)(pa day:Int)(n m:Nat):(fU x az pa day n m).length=n:=by
 induction m with
 |zero=>simp[fU]
 |succ m ih=>rw[fU,List.length_set,ih]
theorem SV(x:Vw)(az:List Int)(pa day:Int)(n:Nat):List.replicate n (vInt 0)=(fU x az pa day n 0).map vInt:=by rw[fU,List.map_replicate]
theorem SU(x:Vw)(az:List Int)(pa day:Int)(n:Nat){m j:Nat}(h:m<=j):(fU x az pa day n m).getD j 0=0:=by
 induction m with
 |zero=>
  rw[fU,List.getD_eq_getElem?_getD,List.getElem?_replicate]
  split<;>rfl
 |succ m ih=>
  rw[fU,List.getD_eq_getElem?_getD,List.getElem?_set_ne (by omega),<-List.getD_eq_getElem?_getD]
  exact ih (by omega)
theorem SS{x:Vw}{az:List Int}{pa day:Int}{n m:Nat}(h:m<n)(h0:me x az pa day ((m+1:Nat):Int)=0):fU x az pa day n (m+1)=fU x az pa day n m:=by
 rw[fU,h0]
 have e:=SU x az pa day n (Nat.le_refl m)
 rw[List.getD_eq_getElem?_getD,List.getElem?_eq_getElem (by rw[Cm];exact h)]at e
 have e':(fU x az pa day n m)[m]'(by rw[Cm];exact h)=0:=e
 conv=>lhs;rw[<-e']
 exact List.set_getElem_self _
def kK(l:Led)(az:List Int)(pa day k:Int):Int:=if eu l [day,k]=0 then(if ei l.ps pa=0 then 26 else if iH l k az=true then 0 else 29)else eu l [day,k]
def nk(l:Led)(az:List Int)(pa day k:Int):List Int:=if kK l az pa day k=0 then fU (ax l k) az pa day (ei l.ps pa).toNat (ei l.ps pa).toNat else[]
theorem P3{l:Led}{k:Int}{az:List Int}(h:iH l k az=true):az.length=l.ts.length:=by
 unfold iH at h
 simp only[Bool.and_eq_true,decide_eq_true_eq]at h
 exact h.2.1
theorem yy(row:List Int)(i:Nat)(b:Int):(row.map vInt).set i (.int .i64 b)=(row.set i b).map vInt:=List.map_set.symm
def K61:List (Nat×Spec):=[(75,qg),(79,x8),(118,Pg),(76,S76),(119,S119)]
theorem acv:KS K61:=tc yA.sound<|tc Hn.sound<|tc HE.sound<|tc De<|tc Di<|tn
attribute [go_sem] K61
@[go_sem] def P39:PSpec:=p5 iL cm iI iI iI (fun _ _ _ _ _=>True) (fun l az pa day k=>.tup [.sl ((nk l az pa day k).map vInt),vInt (kK l az pa day k)]) false
@[go_sem] def S39:Spec:=P39.toSpec
set_option maxHeartbeats 8000000 in
theorem Ru:aL Tryz.prog 39 P39:=by
 refine w5 (rs:=[.tmp 10,.tmp 11]) Tryz.func39 Tryz.ntmps39 (by rfl) (by kernel_rfl) (by decide) (fun h=>by cases h) ⟨_,rfl,lb rfl,fun l az pa day k hp hw=>?_⟩
 have hP:=c8
 simp only[iI,cm,iL,dq]at hw |-
 have hΓ:=acv
 repeat refine sq ?_
 refine rx hΓ [1,2,3,4,5] [[5,0]] (fun K' hK=>by simp only[go_sem];exact ak) ?_
 refine bH (cZ 5 (.ref [5,0] 0) (by simp only[go_sem]) (by simp only[go_sem]) [1,2,3,4,5] [[5,0]] ?_ rfl) ?_
 ·simp only[go_sem]
 simp only[go_sem]
 repeat refine sq ?_
 refine rx hΓ [1,2,3,4,5,12] [[5,0]] (fun K' hK=>by simp only[go_sem];exact ak) ?_
 repeat refine sq ?_
 refine rx hΓ [1,2,3,4,5,12,27] [[5,0]] (fun K' hK=>by simp only[go_sem];exact ak) ?_
 repeat refine sq ?_
 refine au (fun hb=>?_) fun hb=>?_
 ·repeat refine sq ?_
  have hc:¬ eu l [day,k]=0:=by simpa using hb
  have e:kK l az pa day k=eu l [day,k]:=by unfold kK;rw[if_neg hc]
  have e2:nk l az pa day k=[]:=by unfold nk;rw[e,if_neg hc]
  repeat refine sq ?_
  refine rx hΓ [10,11] [[40,0]] (fun K' hK=>by simp only[go_sem];exact ak) ?_
  refine aq ?_
  simp only[go_sem]
  first | (rw[e,e2];done) | (rw[e,e2];rfl) | exact⟨fG.symm,by rw[e,e2]⟩ | trace_state
 ·repeat refine sq ?_
  have hc:eu l [day,k]=0:=by simpa using hb
  obtain⟨ab,_⟩:=mG hc
  have zw:=ab.srt
  refine ay ?_
  repeat refine sq ?_
  refine rx hΓ [1,2,3,4,5,13] [[5,0]] (fun K' hK=>by simp only[go_sem,zw];exact ak) ?_
  repeat refine sq ?_
  refine rx hΓ [1,2,3,4,5,13,32] [[5,0]] (fun K' hK=>by simp only[go_sem];exact ak) ?_
  repeat refine sq ?_
  refine au (fun hb=>?_) fun hb=>?_
  ·repeat refine sq ?_
   have e:kK l az pa day k=26:=by unfold kK;rw[if_pos hc,if_pos (by simpa using hb)]
   have e2:nk l az pa day k=[]:=by unfold nk;rw[e];rfl
   repeat refine sq ?_
   refine rx hΓ [10,11] [[40,0]] (fun K' hK=>by simp only[go_sem];exact ak) ?_
   refine aq ?_
   simp only[go_sem]
   first | (rw[e,e2];done) | (rw[e,e2];rfl) | exact⟨fG.symm,by rw[e,e2]⟩ | trace_state
  ·repeat refine sq ?_
   have hz:¬ ei l.ps pa=0:=by simpa using hb
   refine ay ?_
   repeat refine sq ?_
   refine rx hΓ [1,2,3,4,5,13,36] [[5,0]] (fun K' hK=>by simp only[go_sem];(repeat (refine⟨by first | exact ao | exact ab,?_⟩));exact cF) ?_
   repeat refine sq ?_
   refine au (fun hb=>?_) fun hb=>?_
   ·repeat refine sq ?_
    have e:kK l az pa day k=29:=by unfold kK;rw[if_pos hc,if_neg hz,if_neg (by simpa using hb)]
    have e2:nk l az pa day k=[]:=by unfold nk;rw[e];rfl
    repeat refine sq ?_
    refine rx hΓ [10,11] [[40,0]] (fun K' hK=>by simp only[go_sem];exact ak) ?_
    refine aq ?_
    simp only[go_sem]
    first | (rw[e,e2];done) | (rw[e,e2];rfl) | exact⟨fG.symm,by rw[e,e2]⟩ | trace_state
   ·repeat refine sq ?_
    have qQ:iH l k az=true:=by simpa using hb
    have e:kK l az pa day k=0:=by unfold kK;rw[if_pos hc,if_neg hz,if_pos qQ]
    obtain⟨hv,ca⟩:=qH ab k
    obtain⟨Ei,u2⟩:=Jl ab pa
    obtain⟨nn,mq⟩:∃ nn:Nat,ei l.ps pa=nn:=⟨(ei l.ps pa).toNat,by omega⟩
    have e2:nk l az pa day k=fU (ax l k) az pa day nn nn:=by unfold nk;rw[if_pos e,mq,ah]
    have aD:nn+1<=maxLen:=by unfold maxLen;omega
    have qW:=P3 qQ
    refine ay ?_
    repeat refine sq ?_
    refine rx hΓ [1,2,3,13,14] [[26,0,38,0],[23,0,38,0],[24,0,38,0]] (fun K' hK=>by simp only[go_sem];(repeat (refine⟨by first | exact ao | exact ab,?_⟩));exact cF) ?_
    repeat refine sq ?_
    refine rx hΓ [1,2,3,13,14,15] [[40,0],[26,0,38,0],[23,0,38,0],[24,0,38,0]] (fun K' hK=>by simp only[go_sem,mq,ah,SV (ax l k) az pa day nn];exact ak) ?_
    repeat refine sq ?_
    refine rx hΓ [1,2,3,13,14,15,16] [[40,0],[26,0,38,0],[23,0,38,0],[24,0,38,0]] (fun K' hK=>by simp only[go_sem];exact ak) ?_
    repeat refine sq ?_
    refine aC ?_
    repeat refine sq ?_
    refine bA (fun s:Nat=>[(16,⟨true,.v (vInt s)⟩)]) (fun s=>[([40,0],.arr 1 ((fU (ax l k) az pa day nn (s-1)).map vInt))]) (fun s=>s<=(nn+1)/\1<=s) (fun s=>(nn+1)-s) 1 ?_ ?_ ?_ ?_
    ·exact⟨by omega,Nat.le_refl 1⟩
    ·rfl
    ·rfl
    rintro i ⟨hi,hR⟩
    have fG:=Cm (ax l k) az pa day nn (i-1)
    simp only[go_sem]
    repeat refine sq ?_
    refine rx hΓ [1,2,3,13,14,15,16,43] [[40,0],[26,0,38,0],[23,0,38,0],[24,0,38,0]] (fun K' hK=>by simp only[go_sem];exact ak) ?_
    repeat refine sq ?_
    refine au (fun hb=>?_) fun hb=>?_
    ·repeat refine sq ?_
     have aa:i<nn+1:=by
      have :(i:Int)<=nn:=by simpa using hb
      omega
     have zr:IntKind.i64.wrap ((i:Int)-1)=((i-1:Nat):Int):=GF hR hi aD
     have Mh:((i-1:Nat):Int)<nn:=by omega
     have eS:me (ax l k) az pa day i=0->fU (ax l k) az pa day nn (i+1-1)=fU (ax l k) az pa day nn (i-1):=fun h=>by
      obtain⟨m,rfl⟩:∃ m,i=m+1:=⟨i-1,by omega⟩
      exact SS (by omega) h
     have eU:fU (ax l k) az pa day nn (i+1-1)=(fU (ax l k) az pa day nn (i-1)).set (i-1) (me (ax l k) az pa day i):=by
      obtain⟨m,rfl⟩:∃ m,i=m+1:=⟨i-1,by omega⟩
      rfl
     generalize hT:fU (ax l k) az pa day nn (i-1)=T at *
     refine ay ?_
     repeat refine sq ?_
     refine aC ?_
     repeat refine sq ?_
     rcases aw:fS (ax l k).rs pa i day with _ | r
     rotate_left
     rcases aP:bJ (ax l k).bk (r.so,(i:Int))with _ | j
     rotate_left
     rotate_left
     ·have hF:me (ax l k) az pa day i=0:=by unfold me;rw[aw]
      have eT:=eS hF
      repeat refine sq ?_
      refine rx hΓ [1,2,3,13,14,15,16,17,18] [[17,0],[40,0],[26,0,38,0],[23,0,38,0],[24,0,38,0]] (fun K' hK=>by simp only[go_sem,aw,bz,Option.isSome_none,aB];(repeat (refine⟨by first | exact ao | exact⟨hv,ca⟩,?_⟩));exact cF) ?_
      repeat refine sq ?_
      refine dx hΓ hP [[],[0],[0,1],[0,1,2],[],[4],[],[4,5,6],u8,u9,bI,bI,cz,fJ] [1,2,3,13,14,15,16,17,18,19,20] [[17,0],[40,0],[26,0,38,0],[23,0,38,0],[24,0,38,0]] (by kernel_rfl) (fun K' hK=>by simp only[go_sem,aw,bz,Option.isSome_none,aB];exact eQ) ?_
      repeat refine sq ?_
      refine rx hΓ [1,2,3,13,14,15,16,17,79] [[17,0],[40,0],[26,0,38,0],[23,0,38,0],[24,0,38,0]] (fun K' hK=>by simp only[go_sem,aw,bz,Option.isSome_none,aB,List.length_map];exact ak) ?_
      repeat refine sq ?_
      refine au (fun hb=>?_) fun hb=>?_
      ·cases hb
      ·repeat refine sq ?_
       refine ay ?_
       refine br ?_
       simp only[go_sem]
       refine kp [1,2,3,13,14,15,16] [[40,0],[26,0,38,0],[23,0,38,0],[24,0,38,0]] ?_
       repeat refine sq ?_
       refine aI hΓ fun K' hK=>?_
       simp only[go_sem,aw,bz,Option.isSome_none,aB]
       repeat (refine⟨ao,?_⟩)
       refine hK _ ?_
       clear K' hK
       simp only[go_sem]
       refine⟨i+1,⟨aa,?_⟩,by(show (nn+1)-(i+1)<(nn+1)-i;omega),?_⟩
       ·omega
       refine aT [1,2,3,13,14,15,16] [[40,0],[26,0,38,0],[23,0,38,0],[24,0,38,0]] ?_ ?_<;>simp only[go_sem,aO aa aD,aQ,eT]
     ·have hF:me (ax l k) az pa day i=r.bo:=by unfold me;rw[aw];simp only[aP]
      have eT:=eU
      rw[hF]at eT
      repeat refine sq ?_
      refine rx hΓ [1,2,3,13,14,15,16,17,18] [[17,0],[40,0],[26,0,38,0],[23,0,38,0],[24,0,38,0]] (fun K' hK=>by simp only[go_sem,aw,aJ,Option.isSome_some,aB,aP,Option.map_none,Option.isSome_none,Option.getD_none];(repeat (refine⟨by first | exact ao | exact⟨hv,ca⟩,?_⟩));exact cF) ?_
      repeat refine sq ?_
      refine dx hΓ hP [[],[0],[0,1],[0,1,2],[],[4],[],[4,5,6],u8,u9,bI,bI,cz,fJ] [1,2,3,13,14,15,16,17,18,19,20] [[17,0],[40,0],[26,0,38,0],[23,0,38,0],[24,0,38,0]] (by kernel_rfl) (fun K' hK=>by simp only[go_sem,aw,aJ,Option.isSome_some,aB,aP,Option.map_none,Option.isSome_none,Option.getD_none];exact eQ) ?_
      repeat refine sq ?_
      refine rx hΓ [1,2,3,13,14,15,16,17,79] [[17,0],[40,0],[26,0,38,0],[23,0,38,0],[24,0,38,0]] (fun K' hK=>by simp only[go_sem,aw,aJ,Option.isSome_some,aB,aP,Option.map_none,Option.isSome_none,Option.getD_none,List.length_map];exact ak) ?_
      repeat refine sq ?_
      refine au (fun hb=>?_) fun hb=>?_
      ·repeat refine sq ?_
       refine aI hΓ fun K' hK=>?_
       simp only[go_sem,aw,aJ,Option.isSome_some,aB,aP,Option.map_none,Option.isSome_none,Option.getD_none,zr,Mh,fG,yy,ah,aj,List.length_map]
       repeat (refine⟨ao,?_⟩)
       refine hK _ ?_
       clear K' hK
       simp only[go_sem]
       refine kp [1,2,3,13,14,15,16] [[40,0],[26,0,38,0],[23,0,38,0],[24,0,38,0]] ?_
       repeat refine sq ?_
       refine aI hΓ fun K' hK=>?_
       simp only[go_sem,aw,aJ,Option.isSome_some,aB,aP,Option.map_none,Option.isSome_none,Option.getD_none]
       repeat (refine⟨ao,?_⟩)
       refine hK _ ?_
       clear K' hK
       simp only[go_sem]
       refine⟨i+1,⟨aa,?_⟩,by(show (nn+1)-(i+1)<(nn+1)-i;omega),?_⟩
       ·omega
       refine aT [1,2,3,13,14,15,16] [[40,0],[26,0,38,0],[23,0,38,0],[24,0,38,0]] ?_ ?_<;>simp only[go_sem,aO aa aD,aQ,eT]
      ·cases hb
     ·have hF:me (ax l k) az pa day i=if az.getD j.toNat 0>day then r.bo else 0:=by unfold me;rw[aw];simp only[aP]
      obtain⟨cq,dW⟩:=hv.bk _ _ aP
      rw[sg,<-qW]at dW
      have jq:(az.map vInt).getD j.toNat default=vInt (az.getD j.toNat 0):=by
       have :j.toNat<az.length:=by omega
       rw[ae this,dd this]
      repeat refine sq ?_
      refine rx hΓ [1,2,3,13,14,15,16,17,18] [[17,0],[40,0],[26,0,38,0],[23,0,38,0],[24,0,38,0]] (fun K' hK=>by simp only[go_sem,aw,aJ,Option.isSome_some,aB,aP,Option.map_some,Option.isSome_some,Option.getD_some,jq,cq,dW];(repeat (refine⟨by first | exact ao | exact⟨hv,ca⟩,?_⟩));exact cF) ?_
      repeat refine sq ?_
      refine dx hΓ hP [[],[0],[0,1],[0,1,2],[],[4],[],[4,5,6],u8,u9,bI,bI,cz,fJ] [1,2,3,13,14,15,16,17,18,19,20] [[17,0],[40,0],[26,0,38,0],[23,0,38,0],[24,0,38,0]] (by kernel_rfl) (fun K' hK=>by simp only[go_sem,aw,aJ,Option.isSome_some,aB,aP,Option.map_some,Option.isSome_some,Option.getD_some,jq,cq,dW];exact eQ) ?_
      repeat refine sq ?_
      refine rx hΓ [1,2,3,13,14,15,16,17,79] [[17,0],[40,0],[26,0,38,0],[23,0,38,0],[24,0,38,0]] (fun K' hK=>by simp only[go_sem,aw,aJ,Option.isSome_some,aB,aP,Option.map_some,Option.isSome_some,Option.getD_some,jq,cq,dW,List.length_map];exact ak) ?_
      repeat refine sq ?_
      refine au (fun hb=>?_) fun hb=>?_
      ·repeat refine sq ?_
       have eT:=eU
       rw[hF,if_pos (by simpa using hb)]at eT
       repeat refine sq ?_
       refine aI hΓ fun K' hK=>?_
       simp only[go_sem,aw,aJ,Option.isSome_some,aB,aP,Option.map_some,Option.isSome_some,Option.getD_some,jq,cq,dW,zr,Mh,fG,yy,ah,aj,List.length_map]
       repeat (refine⟨ao,?_⟩)
       refine hK _ ?_
       clear K' hK
       simp only[go_sem]
       refine kp [1,2,3,13,14,15,16] [[40,0],[26,0,38,0],[23,0,38,0],[24,0,38,0]] ?_
       repeat refine sq ?_
       refine aI hΓ fun K' hK=>?_
       simp only[go_sem,aw,aJ,Option.isSome_some,aB,aP,Option.map_some,Option.isSome_some,Option.getD_some,jq,cq,dW]
       repeat (refine⟨ao,?_⟩)
       refine hK _ ?_
       clear K' hK
       simp only[go_sem]
       refine⟨i+1,⟨aa,?_⟩,by(show (nn+1)-(i+1)<(nn+1)-i;omega),?_⟩
       ·omega
       refine aT [1,2,3,13,14,15,16] [[40,0],[26,0,38,0],[23,0,38,0],[24,0,38,0]] ?_ ?_<;>simp only[go_sem,aO aa aD,aQ,eT]
      ·repeat refine sq ?_
       have eT:=eS (by rw[hF,if_neg (by simpa using hb)])
       refine ay ?_
       refine br ?_
       simp only[go_sem]
       refine kp [1,2,3,13,14,15,16] [[40,0],[26,0,38,0],[23,0,38,0],[24,0,38,0]] ?_
       repeat refine sq ?_
       refine aI hΓ fun K' hK=>?_
       simp only[go_sem,aw,aJ,Option.isSome_some,aB,aP,Option.map_some,Option.isSome_some,Option.getD_some,jq,cq,dW]
       repeat (refine⟨ao,?_⟩)
       refine hK _ ?_
       clear K' hK
       simp only[go_sem]
       refine⟨i+1,⟨aa,?_⟩,by(show (nn+1)-(i+1)<(nn+1)-i;omega),?_⟩
       ·omega
       refine aT [1,2,3,13,14,15,16] [[40,0],[26,0,38,0],[23,0,38,0],[24,0,38,0]] ?_ ?_<;>simp only[go_sem,aO aa aD,aQ,eT]
    ·repeat refine sq ?_
     have aV:i=nn+1:=by
      have :¬ (i:Int)<=nn:=by simpa using hb
      omega
     subst aV
     rw[Nat.add_sub_cancel]at fG |-
     refine be ?_
     simp only[go_sem]
     refine kp [15] [[40,0]] ?_
     repeat refine sq ?_
     refine rx hΓ [10,11] [[40,0]] (fun K' hK=>by simp only[go_sem];exact ak) ?_
     refine aq ?_
     simp only[go_sem]
     first | (rw[e,e2];done) | (rw[e,e2];rfl) | exact⟨fG.symm,by rw[e,e2]⟩ | trace_state
end
end Go.Eng
