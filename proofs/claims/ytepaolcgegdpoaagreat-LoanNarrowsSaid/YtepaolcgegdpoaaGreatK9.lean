import Derived.Test.YtepaolcgegdpoaaGreatK8
/- Texts LW73 to LP13. -/
set_option linter.all false
namespace Go.Eng
open Go Go.Proofs
set_option maxRecDepth 10000
noncomputable section
def qI(x:R5):V:=.agg [vInt x.a,vInt x.b,vInt x.c,vInt x.d,vInt x.e]
def wP(x:R7):V:=.agg [vInt x.a,vInt x.b,vInt x.c,vInt x.d,vInt x.e,vInt x.f,vInt x.g]
def wX:V->R5
 | .agg [.int _ a,.int _ b,.int _ c,.int _ d,.int _ e]=>⟨a,b,c,d,e⟩
 |_=>default
def Cw:V->R7
 | .agg [.int _ a,.int _ b,.int _ c,.int _ d,.int _ e,.int _ f,.int _ g]=>⟨a,b,c,d,e,f,g⟩
 |_=>default
def uJ(r:Raw):V:=.agg [.sl (r.rs.map qI),.sl (r.ts.map wP),.sl (r.ss.map qI)]
def Cu:V->Raw
 | .agg [.sl a,.sl b,.sl c]=>⟨a.map wX,b.map Cw,c.map wX⟩
 |_=>default
def tp:En Raw:=⟨uJ,Cu⟩
theorem acD(x:R5):wX (qI x)=x:=rfl
theorem acB(x:R7):Cw (wP x)=x:=rfl
@[go_sem] theorem acC(l:List R5):(l.map qI).map wX=l:=te acD l
@[go_sem] theorem acA(l:List R7):(l.map wP).map Cw=l:=te acB l
attribute [go_sem] qI wX wP Cw uJ Cu tp
@[go_sem] theorem ai9(x:Raw):(⟨x.rs,x.ts,x.ss⟩:Raw)=x:=rfl
def K73:List (Nat×Spec):=[(20,Dl),(83,S83),(84,Dj),(73,S73m),(74,IG)]
theorem aeN:KS K73:=tc DY.sound<|tc UO.sound<|tc UN.sound<|tc ZU<|tc J2.sound<|tn
attribute [go_sem] K73
@[go_sem] def P19:PSpec:=p1 tp (fun _=>True) (fun r=>.tup [fw (jn r),.sl ((fx r (nT r)).map vInt)]) false
@[go_sem] def SP:Spec:=P19.toSpec
set_option maxHeartbeats 1000000 in
theorem U5:aZ Tryz.prog 19 P19:=by
 refine gJ (rs:=[.cell 2 31,.tmp 3]) Tryz.func19 Tryz.ntmps19 fun r hp hw=>?_
 have hP:=fE
 simp only[tp]at hw |-
 have hΓ:=aeN
 have h8:=pq r
 have hl:nR r<=maxLen:=by unfold maxLen;omega
 repeat refine sq ?_
 refine rx hΓ [1,2] [[1,0],[2,0],[77,0],[158,0],[235,0]] (fun K' hK=>by simp only[go_sem];exact aq) ?_
 repeat refine sq ?_
 refine rx hΓ [1,2,4] [[1,0],[2,0],[4,0],[77,0],[158,0],[235,0]] (fun K' hK=>by simp only[go_sem];exact aq) ?_
 repeat refine sq ?_
 refine rx hΓ [1,2,4,5] [[1,0],[2,0],[4,0],[77,0],[158,0],[163,0],[235,0]] (fun K' hK=>by simp only[go_sem];exact aq) ?_
 refine bQ (vl 5 [163,0] 1 (by simp only[go_sem]) (by simp only[go_sem]) [1,2,4,5] [[1,0],[2,0],[4,0],[77,0],[158,0],[163,0],[235,0]] ?_ rfl) ?_
 ·simp only[go_sem]
 simp only[go_sem]
 repeat refine sq ?_
 refine rx hΓ [1,2,4,5,6] [[1,0],[2,0],[4,0],[77,0],[158,0],[163,0],[235,0]] (fun K' hK=>by simp only[go_sem];exact aq) ?_
 refine bQ (nX [4,0] [77,0] 1 7 _ rfl rfl rfl [1,2,4,5,6] [[1,0],[2,0],[4,0],[77,0],[158,0],[163,0],[235,0]] ?_ rfl) ?_
 ·simp only[go_sem,List.set_cons_succ,List.set_cons_zero]
 simp only[go_sem,List.set_cons_succ,List.set_cons_zero]
 refine bQ (nX [4,0] [158,0] 2 8 _ rfl rfl rfl [1,2,4,5,6] [[1,0],[2,0],[4,0],[77,0],[158,0],[163,0],[235,0]] ?_ rfl) ?_
 ·simp only[go_sem,List.set_cons_succ,List.set_cons_zero]
 simp only[go_sem,List.set_cons_succ,List.set_cons_zero]
 repeat refine sq ?_
 refine rx hΓ [1,2,4,5,6,7] [[1,0],[2,0],[4,0],[77,0],[158,0],[163,0],[235,0]] (fun K' hK=>by simp only[go_sem];exact aq) ?_
 refine bQ (nX [4,0] [235,0] 3 7 _ rfl rfl rfl [1,2,4,5,6,7] [[1,0],[2,0],[4,0],[77,0],[158,0],[163,0],[235,0]] ?_ rfl) ?_
 ·simp only[go_sem,List.set_cons_succ,List.set_cons_zero]
 simp only[go_sem,List.set_cons_succ,List.set_cons_zero]
 repeat refine sq ?_
 refine aR ?_
 repeat refine sq ?_
 refine cp (fun s:Nat=>[(7,⟨true,.v (vInt s)⟩),(6,⟨true,.v (vInt (eC r s))⟩)]) (fun s=>[([4,0],.box [.v (.sl (mps.map cW)),.msl [77,0] (fm r s).length,.msl [158,0] 0,.msl [235,0] 0]),([77,0],.arr 7 ((fm r s).map encR))]) (fun s=>s<=(nR r)) (fun s=>(nR r)-s) 0 ?_ ?_ ?_ ?_
 ·exact Nat.zero_le _
 ·rfl
 ·rfl
 rintro i hi
 simp only[go_sem]
 repeat refine sq ?_
 refine rx hΓ [1,2,4,5,6,7,33] [[1,0],[2,0],[4,0],[77,0],[158,0],[163,0],[235,0]] (fun K' hK=>by simp only[go_sem];exact aq) ?_
 repeat refine sq ?_
 refine aC (fun hb=>?_) fun hb=>?_
 ·repeat refine sq ?_
  have ae:i<nR r:=by simp at hb;unfold nR;omega
  have Pw:i<r.rs.length:=by have h:=ae;unfold nR at h;omega
  have aba:(i:Int)<r.rs.length:=by omega
  have e5:r5 r.rs i=r.rs[i]:=cj Pw
  have m3:=cY (n:=r.rs[i].b) (m:=3) (by decide)
  have qw:0<=aP r.rs[i].b 3:=m3.1
  have oI:(mps.length:Int)=3:=rfl
  have fO:aP r.rs[i].b 3<(mps.length:Int):=by omega
  have uh:(mps.map cW).getD (aP r.rs[i].b 3).toNat default=cW (bH r.rs[i].b):=by
   have hl:(aP r.rs[i].b 3).toNat<mps.length:=by omega
   rw[ai hl];unfold bH;rw[cj hl]
  obtain⟨-,l1,l2,p1,p2⟩:=qe (rJ r.rs[i].b)
  have d0:=zu r i
  have ed:eC r (i+1)=eC r i+aP r.rs[i].d 20:=by rw[eC,e5]
  have m20:=cY (n:=r.rs[i].d) (m:=20) (by decide)
  have m4:=cY (n:=r.rs[i].a) (m:=4) (by decide)
  have m5:=cY (n:=r.rs[i].e) (m:=5) (by decide)
  have iM:IntKind.i64.wrap (eC r i+aP r.rs[i].d 20)=eC r (i+1):=by rw[wrap_i64 (by omega) (by omega)];exact ed.symm
  have tu:IntKind.i64.wrap (3*(i:Int))=3*(i:Int):=wrap_i64 (by omega) (by omega)
  have aau:IntKind.i64.wrap (3*(i:Int)+1)=3*(i:Int)+1:=wrap_i64 (by omega) (by omega)
  have hwb:IntKind.i64.wrap (1+aP r.rs[i].a 4)=1+aP r.rs[i].a 4:=wrap_i64 (by omega) (by omega)
  have wo:IntKind.i64.wrap (eC r (i+1)+aP r.rs[i].e 5)=eC r (i+1)+aP r.rs[i].e 5:=wrap_i64 (by omega) (by omega)
  have eS:fm r (i+1)=fm r i++[⟨3*(i:Int)+1,1+aP r.rs[i].a 4,(bH r.rs[i].b).id,jG r.rs[i].c (bH r.rs[i].b).lv,eC r (i+1),eC r (i+1)+aP r.rs[i].e 5,0⟩]:=by
   unfold fm
   rw[List.range_succ,List.map_append]
   show _++[gy r i]=_
   unfold gy
   rw[e5]
  have m8:=jm r i
  refine aF ?_
  repeat refine sq ?_
  refine aR ?_
  repeat refine sq ?_
  refine rx hΓ [1,2,4,5,6,7,8] [[1,0],[2,0],[4,0],[8,0],[77,0],[158,0],[163,0],[235,0]] (fun K' hK=>by simp only[go_sem,ai Pw,aba,ak,an,List.length_map];exact aq) ?_
  repeat refine sq ?_
  refine dx hΓ hP [[],[0],[],[2],[2,3],u5,u6,[],u8] [1,2,4,5,6,7,8,9] [[1,0],[2,0],[4,0],[8,0],[9,0],[77,0],[158,0],[163,0],[235,0]] (by kernel_rfl) (fun K' hK=>by simp only[go_sem,Int.cast_ofNat_Int,Int.reduceToNat,Int.toNat_zero,Int.toNat_one,Nat.reduceMul,Nat.zero_mul,Nat.one_mul,List.getD_cons_succ,List.getD_cons_zero,uh,qw,fO,List.length_map];(repeat (refine⟨by first | exact au | exact⟨by decide,by decide⟩,?_⟩));exact fJ) ?_
  repeat refine sq ?_
  refine rx hΓ [1,2,4,5,6,7,8,9] [[1,0],[2,0],[4,0],[8,0],[9,0],[77,0],[158,0],[163,0],[235,0]] (fun K' hK=>by simp only[go_sem,Int.cast_ofNat_Int,Int.reduceToNat,Int.toNat_zero,Int.toNat_one,Nat.reduceMul,Nat.zero_mul,Nat.one_mul,List.getD_cons_succ,List.getD_cons_zero,iM];(repeat (refine⟨by first | exact au | exact⟨by decide,by decide⟩,?_⟩));exact iz) ?_
  repeat refine sq ?_
  refine oZ hΓ hP [[],[0],[],[2],[2,3],[],[5],[5,6],[5,6,7],[],[9],[],[11],[],[13],[5,6,7,11,12,13,14],[],[],[],[18],[5,6,7,11,12,13,14,15,18,19],[5,6,7,11,12,13,14,15,17,18,19,20],[2,3,4,5,6,7,8,9,10,11,12,13,14,15,16,17,18,19,20,21],[2,3,4,5,6,7,8,9,10,11,12,13,14,15,16,17,18,19,20,21,22],Jk,z',TJ] (by kernel_rfl) fun K' hK=>?_
  simp only[go_sem,Int.cast_ofNat_Int,Int.reduceToNat,Int.toNat_zero,Int.toNat_one,Nat.reduceMul,Nat.zero_mul,Nat.one_mul,List.getD_cons_succ,List.getD_cons_zero,tu,aau,hwb,wo]
  repeat (refine⟨by first | exact au | exact⟨by decide,by decide⟩ | exact⟨by omega,by omega⟩,?_⟩)
  first | refine⟨by rfl,?_⟩ | skip
  refine hK _ ?_
  clear K' hK
  simp only[go_sem]
  refine kp [1,2,4,5,6,7] [[1,0],[2,0],[4,0],[77,0],[158,0],[163,0],[235,0]] ?_
  repeat refine sq ?_
  refine aW hΓ fun K' hK=>?_
  simp only[go_sem]
  repeat (refine⟨au,?_⟩)
  refine hK _ ?_
  clear K' hK
  simp only[go_sem]
  refine⟨i+1,ae,by(show (nR r)-(i+1)<(nR r)-i;omega),?_⟩
  refine bh [1,2,4,5,6,7] [[1,0],[2,0],[4,0],[77,0],[158,0],[163,0],[235,0]] ?_ ?_<;>simp only[go_sem,bc ae hl,be,eS,List.map_append,List.length_append,List.map_cons,List.map_nil,List.length_cons,List.length_nil]
 ·repeat refine sq ?_
  have bE:i=nR r:=by
   simp at hb
   have h:=hi
   unfold nR at h |-
   omega
  subst bE
  have sa:nT r<=maxLen:=by have:=ta r;unfold maxLen;omega
  refine bN ?_
  simp only[go_sem]
  refine kp [1,2,4,5,6] [[1,0],[2,0],[4,0],[77,0],[158,0],[163,0],[235,0]] ?_
  repeat refine sq ?_
  refine rx hΓ [1,2,4,5,6,10] [[1,0],[2,0],[4,0],[77,0],[158,0],[163,0],[235,0]] (fun K' hK=>by simp only[go_sem];exact aq) ?_
  repeat refine sq ?_
  refine aR ?_
  repeat refine sq ?_
  refine cp (fun s:Nat=>[(10,⟨true,.v (vInt s)⟩),(5,⟨true,.msl [163,0] (fx r s).length⟩)]) (fun s=>[([4,0],.box [.v (.sl (mps.map cW)),.msl [77,0] (fm r (nR r)).length,.msl [158,0] (jM r s).length,.msl [235,0] 0]),([158,0],.arr 8 ((jM r s).map encT)),([163,0],.arr 1 ((fx r s).map vInt))]) (fun s=>s<=(nT r)) (fun s=>(nT r)-s) 0 ?_ ?_ ?_ ?_
  ·exact Nat.zero_le _
  ·rfl
  ·rfl
  rintro i1 hi
  simp only[go_sem]
  repeat refine sq ?_
  refine rx hΓ [1,2,4,5,6,10,93] [[1,0],[2,0],[4,0],[77,0],[158,0],[163,0],[235,0]] (fun K' hK=>by simp only[go_sem,jm];exact aq) ?_
  repeat refine sq ?_
  refine aC (fun hb=>?_) fun hb=>?_
  ·repeat refine sq ?_
   have aS:i1<nT r:=by simp at hb;unfold nT;split<;>omega
   have Ge:nR r≠0:=A4 aS
   have Pv:i1<r.ts.length:=by have h:=aS;unfold nT at h;rw[if_neg Ge]at h;omega
   have aa':(i1:Int)<r.ts.length:=by omega
   have h8t:=ta r
   have e7:r7 r.ts i1=r.ts[i1]:=cj Pv
   have mx:=cY (n:=r.ts[i1].a) (m:=(nR r:Int)) (by omega)
   have hx0:0<=aP r.ts[i1].a (nR r):=mx.1
   have qp:aP r.ts[i1].a (nR r)<nR r:=mx.2
   have yW:((fm r (nR r)).map encR).getD (aP r.ts[i1].a (nR r)).toNat default=encR (xT r i1):=by
    have hl:(aP r.ts[i1].a (nR r)).toNat<(fm r (nR r)).length:=by rw[jm];omega
    rw[ai hl];unfold xT;rw[e7,cj hl]
   obtain⟨ix,hix,ex⟩:=I8 Ge i1
   obtain⟨-,-,x3,-,-,x6,x7,x8⟩:=sV r (show ix<8 by omega)
   rw[<-ex]at x3 x6 x7 x8
   obtain⟨-,a0,a1⟩:=Am Ge (show i1<8 by omega)
   have ea:dF r i1=(xT r i1).da+aP r.ts[i1].c 30:=by unfold dF;rw[e7]
   have eS:jM r (i1+1)=jM r i1++[⟨3*(i1:Int)+2,(xT r i1).so,1+aP r.ts[i1].g 4,jG r.ts[i1].b (bT mps (xT r i1).pa),if dF r i1-aP r.ts[i1].d 12>0 then dF r i1-aP r.ts[i1].d 12 else 0,dF r i1+aP r.ts[i1].e 12,dF r i1+aP r.ts[i1].e 12+aP r.ts[i1].f 9,0⟩]:=by
    unfold jM
    rw[List.range_succ,List.map_append]
    show _++[tM r i1]=_
    unfold tM
    rw[e7,Xw]
   have eD:fx r (i1+1)=fx r i1++[dF r i1]:=by
    unfold fx
    rw[List.range_succ,List.map_append];rfl
   have i6:(jM r i1).length=i1:=by unfold jM;simp
   have np:(fx r i1).length=i1:=by unfold fx;simp
   generalize xT r i1=xx at *
   have E7:=cY (n:=r.ts[i1].c) (m:=30) (by decide)
   have m4:=cY (n:=r.ts[i1].g) (m:=4) (by decide)
   have L0:=cY (n:=r.ts[i1].d) (m:=12) (by decide)
   have LZ:=cY (n:=r.ts[i1].e) (m:=12) (by decide)
   have m9:=cY (n:=r.ts[i1].f) (m:=9) (by decide)
   have hwa:IntKind.i64.wrap (xx.da+aP r.ts[i1].c 30)=dF r i1:=by rw[wrap_i64 (by omega) (by omega)];exact ea.symm
   have tu:IntKind.i64.wrap (3*(i1:Int))=3*(i1:Int):=wrap_i64 (by omega) (by omega)
   have aat:IntKind.i64.wrap (3*(i1:Int)+2)=3*(i1:Int)+2:=wrap_i64 (by omega) (by omega)
   have yt:IntKind.i64.wrap (1+aP r.ts[i1].g 4)=1+aP r.ts[i1].g 4:=wrap_i64 (by omega) (by omega)
   have aar:IntKind.i64.wrap (dF r i1-aP r.ts[i1].d 12)=dF r i1-aP r.ts[i1].d 12:=wrap_i64 (by omega) (by omega)
   have aas:IntKind.i64.wrap (dF r i1+aP r.ts[i1].e 12)=dF r i1+aP r.ts[i1].e 12:=wrap_i64 (by omega) (by omega)
   have wo:IntKind.i64.wrap (dF r i1+aP r.ts[i1].e 12+aP r.ts[i1].f 9)=dF r i1+aP r.ts[i1].e 12+aP r.ts[i1].f 9:=wrap_i64 (by omega) (by omega)
   refine aF ?_
   repeat refine sq ?_
   refine aR ?_
   repeat refine sq ?_
   refine rx hΓ [1,2,4,5,6,10,11] [[1,0],[2,0],[4,0],[11,0],[77,0],[158,0],[163,0],[235,0]] (fun K' hK=>by simp only[go_sem,ai Pv,aa',ak,an,List.length_map];exact aq) ?_
   repeat refine sq ?_
   refine dx hΓ hP [[],[0],[],[2],[],[4],[4,5],[2,3,4,5,6],u8,u9,[],eF] [1,2,4,5,6,10,11,12] [[1,0],[2,0],[4,0],[11,0],[12,0],[77,0],[158,0],[163,0],[235,0]] (by kernel_rfl) (fun K' hK=>by simp only[go_sem,Int.cast_ofNat_Int,Int.reduceToNat,Int.toNat_zero,Int.toNat_one,Nat.reduceMul,Nat.zero_mul,Nat.one_mul,List.getD_cons_succ,List.getD_cons_zero,yW,hx0,qp,jm,List.length_map];(repeat (refine⟨by first | exact au | exact⟨by omega,by omega⟩,?_⟩));exact fJ) ?_
   repeat refine sq ?_
   refine dx hΓ hP [[],[0],[],[2],[2,3],u5,u6] [1,2,4,5,6,10,11,12,13] [[1,0],[2,0],[4,0],[11,0],[12,0],[77,0],[158,0],[163,0],[235,0]] (by kernel_rfl) (fun K' hK=>by simp only[go_sem,Int.cast_ofNat_Int,Int.reduceToNat,Int.toNat_zero,Int.toNat_one,Nat.reduceMul,Nat.zero_mul,Nat.one_mul,List.getD_cons_succ,List.getD_cons_zero,hwa];(repeat (refine⟨by first | exact au | exact⟨by decide,by decide⟩,?_⟩));exact fJ) ?_
   repeat refine sq ?_
   refine dx hΓ hP [[],[0],[0,1],[],[3],[],[5],[5,6],[5,6,7],[],[9],[],[],[12],[5,6,7,11,12,13],[5,6,7,9,10,11,12,13,14],[],[],[17],[5,6,7,9,10,11,12,13,14,15,17,18],[5,6,7,9,10,11,12,13,14,15,16,17,18,19],[5,6,7,9,10,11,12,13,14,15,16,17,18,19,20],[],[],[23],[5,6,7,9,10,11,12,13,14,15,17,18,19,23,24],[5,6,7,9,10,11,12,13,14,15,17,18,19,22,23,24,25],[5,6,7,9,10,11,12,13,14,15,16,17,18,19,20,21,22,23,24,25,26],z8,[],Jj] [1,2,4,5,6,10,11,13,14] [[1,0],[2,0],[4,0],[11,0],[14,0],[77,0],[158,0],[163,0],[235,0]] (by kernel_rfl) (fun K' hK=>by simp only[go_sem,Int.cast_ofNat_Int,Int.reduceToNat,Int.toNat_zero,Int.toNat_one,Nat.reduceMul,Nat.zero_mul,Nat.one_mul,List.getD_cons_succ,List.getD_cons_zero,tu,aat,yt,aar,aas];(repeat (refine⟨by first | exact au | exact(jm _ _).symm | exact⟨by decide,by decide⟩ | exact⟨by omega,by omega⟩,?_⟩));exact fJ) ?_
   repeat refine sq ?_
   refine dx hΓ hP [[],[0],[0,1],[],[3],[3,4],u6,u7,u8] [1,2,4,5,6,10,13,14] [[1,0],[2,0],[4,0],[14,0],[77,0],[158,0],[163,0],[235,0]] (by kernel_rfl) (fun K' hK=>by simp only[go_sem,Int.cast_ofNat_Int,Int.reduceToNat,Int.toNat_zero,Int.toNat_one,Nat.reduceMul,Nat.zero_mul,Nat.one_mul,List.getD_cons_succ,List.getD_cons_zero,wo];(repeat (refine⟨by first | exact au | exact⟨by decide,by decide⟩,?_⟩));exact fJ) ?_
   repeat refine sq ?_
   refine rx hΓ [1,2,4,5,6,10,13] [[1,0],[2,0],[4,0],[77,0],[158,0],[163,0],[235,0]] (fun K' hK=>by simp only[go_sem];exact aq) ?_
   repeat refine sq ?_
   refine aW hΓ fun K' hK=>?_
   simp only[go_sem]
   repeat (refine⟨au,?_⟩)
   refine hK _ ?_
   clear K' hK
   simp only[go_sem]
   refine kp [1,2,4,5,6,10] [[1,0],[2,0],[4,0],[77,0],[158,0],[163,0],[235,0]] ?_
   repeat refine sq ?_
   refine aW hΓ fun K' hK=>?_
   simp only[go_sem]
   repeat (refine⟨au,?_⟩)
   refine hK _ ?_
   clear K' hK
   simp only[go_sem]
   refine⟨i1+1,aS,by(show (nT r)-(i1+1)<(nT r)-i1;omega),?_⟩
   refine bh [1,2,4,5,6,10] [[1,0],[2,0],[4,0],[77,0],[158,0],[163,0],[235,0]] ?_ ?_<;>simp only[go_sem,bc aS sa,be,jm,eS,eD,List.map_append,List.length_append,List.map_cons,List.map_nil,List.length_cons,List.length_nil]
  ·repeat refine sq ?_
   have jy:i1=nT r:=by
    simp at hb
    have h:=hi
    unfold nT at h |-
    split at h
    ·rename_i h0;rw[if_pos h0];omega
    ·rename_i h0;rw[if_neg h0];omega
   subst jy
   have gE:nS r<=maxLen:=by have:nS r<=6:=Nat.min_le_right _ _;unfold maxLen;omega
   refine bN ?_
   simp only[go_sem]
   refine kp [1,2,4,5,6] [[1,0],[2,0],[4,0],[77,0],[158,0],[163,0],[235,0]] ?_
   repeat refine sq ?_
   refine rx hΓ [1,2,4,5,6,15] [[1,0],[2,0],[4,0],[77,0],[158,0],[163,0],[235,0]] (fun K' hK=>by simp only[go_sem];exact aq) ?_
   refine bQ (dV 5 (.msl [163,0] (fx r (nT r)).length) (by simp only[go_sem]) (by simp only[go_sem]) [1,2,4,5,6,15] [[1,0],[2,0],[4,0],[77,0],[158,0],[163,0],[235,0]] ?_ rfl) ?_
   ·simp only[go_sem]
   simp only[go_sem]
   refine bQ (pU [4,0] [77,0] 1 _ _ _ _ rfl rfl rfl (by first | rfl | (simp only[List.length_map,jm];done)) [1,2,4,5,6,15] [[1,0],[2,0],[4,0],[77,0],[158,0],[163,0],[235,0]] ?_ rfl) ?_
   ·simp only[go_sem,List.set_cons_succ,List.set_cons_zero,jm]
   simp only[go_sem,List.set_cons_succ,List.set_cons_zero,jm]
   refine bQ (pU [4,0] [158,0] 2 _ _ _ _ rfl rfl rfl (by first | rfl | (simp only[List.length_map];done)) [1,2,4,5,6,15] [[1,0],[2,0],[4,0],[77,0],[158,0],[163,0],[235,0]] ?_ rfl) ?_
   ·simp only[go_sem,List.set_cons_succ,List.set_cons_zero]
   simp only[go_sem,List.set_cons_succ,List.set_cons_zero]
   repeat refine sq ?_
   refine aR ?_
   repeat refine sq ?_
   refine cp (fun s:Nat=>[(15,⟨true,.v (vInt s)⟩)]) (fun s=>[([4,0],.box [.v (.sl (mps.map cW)),.v (.sl ((fm r (nR r)).map encR)),.v (.sl ((jM r (nT r)).map encT)),.msl [235,0] (dN r s).length]),([235,0],.arr 7 ((dN r s).map encS))]) (fun s=>s<=(nS r)) (fun s=>(nS r)-s) 0 ?_ ?_ ?_ ?_
   ·exact Nat.zero_le _
   ·rfl
   ·rfl
   rintro i2 hi
   simp only[go_sem]
   repeat refine sq ?_
   refine rx hΓ [1,2,4,5,6,15,172] [[1,0],[2,0],[4,0],[77,0],[158,0],[163,0],[235,0]] (fun K' hK=>by simp only[go_sem];exact aq) ?_
   repeat refine sq ?_
   refine aC (fun hb=>?_) fun hb=>?_
   ·repeat refine sq ?_
    have bY:i2<nS r:=by simp at hb;unfold nS;omega
    have yS:i2<r.ss.length:=by have h:=bY;unfold nS at h;omega
    have GG:(i2:Int)<r.ss.length:=by omega
    have h6:i2<6:=by have h:=bY;unfold nS at h;omega
    have e6:r5 r.ss i2=r.ss[i2]:=cj yS
    have m3:=cY (n:=r.ss[i2].b) (m:=3) (by decide)
    have qw:0<=aP r.ss[i2].b 3:=m3.1
    have oI:(mps.length:Int)=3:=rfl
    have fO:aP r.ss[i2].b 3<(mps.length:Int):=by omega
    have uh:(mps.map cW).getD (aP r.ss[i2].b 3).toNat default=cW (bH r.ss[i2].b):=by
     have hl:(aP r.ss[i2].b 3).toNat<mps.length:=by omega
     rw[ai hl];unfold bH;rw[cj hl]
    obtain⟨-,l1,l2,p1,p2⟩:=qe (rJ r.ss[i2].b)
    have d0:=zu r (nR r)
    have ml:=cY (n:=r.ss[i2].c) (m:=(bH r.ss[i2].b).lv) (by omega)
    have md:=cY (n:=r.ss[i2].d) (m:=eC r (nR r)+20) (by omega)
    have E7:=cY (n:=r.ss[i2].e) (m:=30) (by decide)
    have i6:ph r i2=1+aP r.ss[i2].c (bH r.ss[i2].b).lv:=by unfold ph;rw[e6]
    have rV:lV r i2=aP r.ss[i2].d (eC r (nR r)+20):=by unfold lV;rw[e6]
    have tu:IntKind.i64.wrap (3*(i2:Int))=3*(i2:Int):=wrap_i64 (by omega) (by omega)
    have FO:IntKind.i64.wrap (3*(i2:Int)+3)=3*(i2:Int)+3:=wrap_i64 (by omega) (by omega)
    have yu:IntKind.i64.wrap (1+aP r.ss[i2].c (bH r.ss[i2].b).lv)=ph r i2:=by rw[wrap_i64 (by omega) (by omega)];exact i6.symm
    have iM:IntKind.i64.wrap (eC r (nR r)+20)=eC r (nR r)+20:=wrap_i64 (by omega) (by omega)
    have wo:IntKind.i64.wrap (lV r i2+aP r.ss[i2].e 30)=lV r i2+aP r.ss[i2].e 30:=wrap_i64 (by omega) (by omega)
    have wt:=DO r i2
    have aa:=LW r (s:=i2) (by omega)
    have np:(fx r (nT r)).length=(aY (fV r (dN r i2)) 900).ts.length:=by
     show _=(br _ _ _).length
     rw[lS]
     show ((List.range (nT r)).map _).length=((List.range (nT r)).map _).length
     rw[List.length_map,List.length_map]
    have eS:dN r (i2+1)=dN r i2++[⟨3*(i2:Int)+3,pg r i2 (dN r i2),(bH r.ss[i2].b).id,ph r i2,lV r i2,lV r i2+aP r.ss[i2].e 30,0⟩]:=by
     rw[dN]
     unfold vC
     rw[e6]
    have PJ:(⟨mps,fm r (nR r),jM r (nT r),dN r i2⟩:Led)=fV r (dN r i2):=rfl
    have P3:(⟨⟨mps,fm r (nR r),jM r (nT r),dN r i2⟩,900,br (fV r (dN r i2)) 900 (jM r (nT r)).length,[]⟩:RV)=aY (fV r (dN r i2)) 900:=rfl
    refine aF ?_
    repeat refine sq ?_
    refine aR ?_
    repeat refine sq ?_
    refine rx hΓ [1,2,4,5,6,15,16] [[1,0],[2,0],[4,0],[16,0],[77,0],[158,0],[163,0],[235,0]] (fun K' hK=>by simp only[go_sem,ai yS,GG,ak,an,List.length_map];exact aq) ?_
    repeat refine sq ?_
    refine dx hΓ hP [[],[0],[],[2],[2,3],u5,u6,[],u8] [1,2,4,5,6,15,16,17] [[1,0],[2,0],[4,0],[16,0],[17,0],[77,0],[158,0],[163,0],[235,0]] (by kernel_rfl) (fun K' hK=>by simp only[go_sem,Int.cast_ofNat_Int,Int.reduceToNat,Int.toNat_zero,Int.toNat_one,Nat.reduceMul,Nat.zero_mul,Nat.one_mul,List.getD_cons_succ,List.getD_cons_zero,uh,qw,fO,List.length_map];(repeat (refine⟨by first | exact au | exact⟨by decide,by decide⟩,?_⟩));exact fJ) ?_
    repeat refine sq ?_
    refine dx hΓ hP [[],[0],[0,1],[],[3],[],[5],[],[7],[5,6,7,8],[5,6,7,8,9],[],[11],[],[13],[5,6,7,8,9,11,12,13,14],[],[16],[5,6,7,8,9,11,12,13,14,15,16,17],nY,[],xp] [1,2,4,5,6,15,16,18] [[1,0],[2,0],[4,0],[16,0],[18,0],[77,0],[158,0],[163,0],[235,0]] (by kernel_rfl) (fun K' hK=>by simp only[go_sem,Int.cast_ofNat_Int,Int.reduceToNat,Int.toNat_zero,Int.toNat_one,Nat.reduceMul,Nat.zero_mul,Nat.one_mul,List.getD_cons_succ,List.getD_cons_zero,tu,FO,yu,iM,<-rV];(repeat (refine⟨by first | exact au | exact⟨by decide,by decide⟩ | exact⟨by omega,by omega⟩,?_⟩));exact fJ) ?_
    repeat refine sq ?_
    refine rx hΓ [1,2,4,5,6,15,16,18,210] [[1,0],[2,0],[4,0],[16,0],[18,0],[77,0],[158,0],[163,0],[235,0]] (fun K' hK=>by simp only[go_sem,Int.cast_ofNat_Int,Int.reduceToNat,Int.toNat_zero,Int.toNat_one,Nat.reduceMul,Nat.zero_mul,Nat.one_mul,List.getD_cons_succ,List.getD_cons_zero];(repeat (refine⟨by first | exact au | exact⟨by decide,by decide⟩,?_⟩));exact iz) ?_
    repeat refine sq ?_
    refine aC (fun hb=>?_) fun hb=>?_
    ·repeat refine sq ?_
     have ep:pg r i2 (dN r i2)=iY (aY (fV r (dN r i2)) 900) ⟨(bH r.ss[i2].b).id,ph r i2⟩ (fx r (nT r)) (lV r i2):=by unfold pg;rw[e6,if_pos hb]
     repeat refine sq ?_
     refine rx hΓ [1,2,4,5,6,15,16,18,19] [[1,0],[2,0],[4,0],[16,0],[18,0],[19,0],[77,0],[158,0],[163,0],[235,0]] (fun K' hK=>by simp only[go_sem,PJ];rw[UQ (ss:=dN r i2) rfl aa rfl];simp only[go_sem,PJ];exact aq) ?_
     repeat refine sq ?_
     refine rx hΓ [1,2,4,5,6,15,16,18] [[1,0],[2,0],[4,0],[16,0],[18,0],[77,0],[158,0],[163,0],[235,0]] (fun K' hK=>by simp only[go_sem];(repeat (refine⟨by first | exact au | exact⟨D5 aa 900,np⟩,?_⟩));exact iz) ?_
     repeat refine sq ?_
     refine dx hΓ hP [[],[0],[],[2],[2,3],u5,u6,u7] [1,2,4,5,6,15,18] [[1,0],[2,0],[4,0],[18,0],[77,0],[158,0],[163,0],[235,0]] (by kernel_rfl) (fun K' hK=>by simp only[go_sem,Int.cast_ofNat_Int,Int.reduceToNat,Int.toNat_zero,Int.toNat_one,Nat.reduceMul,Nat.zero_mul,Nat.one_mul,List.getD_cons_succ,List.getD_cons_zero,wo];(repeat (refine⟨by first | exact au | exact⟨by decide,by decide⟩,?_⟩));exact fJ) ?_
     repeat refine sq ?_
     refine aW hΓ fun K' hK=>?_
     simp only[go_sem]
     repeat (refine⟨au,?_⟩)
     refine hK _ ?_
     clear K' hK
     simp only[go_sem]
     refine kp [1,2,4,5,6,15] [[1,0],[2,0],[4,0],[77,0],[158,0],[163,0],[235,0]] ?_
     repeat refine sq ?_
     refine aW hΓ fun K' hK=>?_
     simp only[go_sem]
     repeat (refine⟨au,?_⟩)
     refine hK _ ?_
     clear K' hK
     simp only[go_sem]
     refine⟨i2+1,bY,by(show (nS r)-(i2+1)<(nS r)-i2;omega),?_⟩
     refine bh [1,2,4,5,6,15] [[1,0],[2,0],[4,0],[77,0],[158,0],[163,0],[235,0]] ?_ ?_<;>simp only[go_sem,bc bY gE,be,jm,eS,ep,P3,List.map_append,List.length_append,List.map_cons,List.map_nil,List.length_cons,List.length_nil]
    ·repeat refine sq ?_
     have ep:pg r i2 (dN r i2)=aP r.ss[i2].a 5:=by unfold pg;rw[e6,if_neg (by rw[hb];decide)]
     refine aF ?_
     repeat refine sq ?_
     refine dx hΓ hP [[],[0],[],[2],[2,3],u5,u6,u7] [1,2,4,5,6,15,18] [[1,0],[2,0],[4,0],[18,0],[77,0],[158,0],[163,0],[235,0]] (by kernel_rfl) (fun K' hK=>by simp only[go_sem,Int.cast_ofNat_Int,Int.reduceToNat,Int.toNat_zero,Int.toNat_one,Nat.reduceMul,Nat.zero_mul,Nat.one_mul,List.getD_cons_succ,List.getD_cons_zero,wo];(repeat (refine⟨by first | exact au | exact⟨by decide,by decide⟩,?_⟩));exact fJ) ?_
     repeat refine sq ?_
     refine aW hΓ fun K' hK=>?_
     simp only[go_sem]
     repeat (refine⟨au,?_⟩)
     refine hK _ ?_
     clear K' hK
     simp only[go_sem]
     refine kp [1,2,4,5,6,15] [[1,0],[2,0],[4,0],[77,0],[158,0],[163,0],[235,0]] ?_
     repeat refine sq ?_
     refine aW hΓ fun K' hK=>?_
     simp only[go_sem]
     repeat (refine⟨au,?_⟩)
     refine hK _ ?_
     clear K' hK
     simp only[go_sem]
     refine⟨i2+1,bY,by(show (nS r)-(i2+1)<(nS r)-i2;omega),?_⟩
     refine bh [1,2,4,5,6,15] [[1,0],[2,0],[4,0],[77,0],[158,0],[163,0],[235,0]] ?_ ?_<;>simp only[go_sem,bc bY gE,be,jm,eS,ep,P3,List.map_append,List.length_append,List.map_cons,List.map_nil,List.length_cons,List.length_nil]
   ·repeat refine sq ?_
    have oM:i2=nS r:=by
     simp at hb
     have h:=hi
     unfold nS at h |-
     omega
    subst oM
    refine bN ?_
    simp only[go_sem]
    refine kp [2,4,5] [[2,0],[4,0],[77,0],[158,0],[163,0],[235,0]] ?_
    repeat refine sq ?_
    refine rx hΓ [2,3] [[2,0],[77,0],[158,0],[163,0],[235,0]] (fun K' hK=>by simp only[go_sem];exact aq) ?_
    refine aB ?_
    simp only[go_sem]
    first | rfl | trace_state
end
noncomputable section
structure N2 where
 (a b:Int)
 deriving Inhabited
def QN(x:N2):V:=.agg [vInt x.a,vInt x.b]
def QZ:V->N2
 | .agg [.int _ a,.int _ b]=>⟨a,b⟩
 |_=>default
def FK:En N2:=⟨QN,QZ⟩
attribute [go_sem] QN QZ FK
@[go_sem] theorem ajd(x:N2):(⟨x.a,x.b⟩:N2)=x:=rfl
def zy(l:Led)(az:List Int)(a b:Nat)(f:Int):Bool:=!(decide (dp (aY l 900) a f<0)||(av l a).da==(av l b).da||decide (az.getD (dp (aY l 900) a f).toNat 0>(av l b).da))
def nD(l:Led)(az:List Int)(a b:Nat)(f:Int):Bool:=!(av l b).lv.contains f||zy l az a b f
def mC(l:Led)(az:List Int)(a b:Nat):Bool:=(av l a).pa != (av l b).pa||(av l a).lv.all (nD l az a b)
theorem Sq{p:Int->Bool}{l:List Int}{i:Nat}(h:i<l.length)(hp:p l[i]=false):l.all p=false:=by
 rw[Bool.eq_false_iff]
 intro h2
 rw[List.all_eq_true]at h2
 have :=h2 _ (List.getElem_mem h)
 rw[hp]at this;cases this
theorem adW{p:Int->Bool}{l:List Int}(h:∀ j (hj:j<l.length),p l[j]=true):l.all p=true:=by
 rw[List.all_eq_true]
 intro x hx
 obtain⟨j,hj,rfl⟩:=List.getElem_of_mem hx
 exact h j hj
theorem V2{x:RV}{i:Nat}{f:Int}:dp x i f= -1\/∃ j:Nat,dp x i f=j/\j<x.ts.length:=by
 unfold dp
 split
 ·rename_i h
  right
  refine⟨_,rfl,?_⟩
  have :=List.findIdx_lt_length_of_exists (p:=jO x (av x.l i).so f) (xs:=List.range x.ts.length) (by
   obtain⟨y,hy,hp⟩:=List.any_eq_true.1 h;exact⟨y,hy,hp⟩)
  simpa using this
 ·exact .inl rfl
def K97:List (Nat×Spec):=[(73,xh),(15,qW),(103,xi)]
theorem aeH:KS K97:=tc J3.sound<|tc Av.sound<|tc Kc.sound<|tn
attribute [go_sem] K97
@[go_sem] def P72:PSpec:=p3 iL fc FK (fun l az n=>(bw l/\az.length=l.ts.length)/\(0<=n.a/\n.a<l.rs.length)/\0<=n.b/\n.b<l.rs.length) (fun l az n=>.bool (mC l az n.a.toNat n.b.toNat)) true
@[go_sem] def S72:Spec:=P72.toSpec
set_option maxHeartbeats 4000000 in
theorem UR:aZ Tryz.prog 72 P72:=by
 refine lR (rs:=[.tmp 6]) Tryz.func72 Tryz.ntmps72 fun l az n hp hw=>?_
 have hP:=fE
 simp only[fc,iL,FK,fw]at hw |-
 have hΓ:=aeH
 obtain⟨⟨aa,haz⟩,⟨Hl,Hk⟩,h0b,h1b⟩:=hp
 have ha:n.a.toNat<l.rs.length:=by omega
 have B6:n.b.toNat<l.rs.length:=by omega
 have ga:(l.rs.map encR).getD n.a.toNat default=encR (av l n.a.toNat):=by rw[ai ha,cT ha]
 have gb:(l.rs.map encR).getD n.b.toNat default=encR (av l n.b.toNat):=by rw[ai B6,cT B6]
 have kL:(av l n.a.toNat).lv.length<=maxLen:=by
  have h1:=lN aa.rs ha
  rw[cT ha]
  unfold dP at h1
  simp only[Bool.and_eq_true]at h1
  have :=(pt.1 h1.1.1.2).2.1
  unfold maxLen;omega
 have hv:=D5 aa 900
 have m8:(aY l 900).ts.length=l.ts.length:=by show (br _ _ _).length=_;rw[lS]
 repeat refine sq ?_
 refine rx hΓ [1,3,5] [[3,0],[5,0]] (fun K' hK=>by simp only[go_sem];exact aq) ?_
 repeat refine sq ?_
 refine rx hΓ [1,3,5,7] [[3,0],[5,0],[7,0]] (fun K' hK=>by simp only[go_sem,Int.cast_ofNat_Int,Int.reduceToNat,Int.toNat_zero,Int.toNat_one,Nat.reduceMul,Nat.zero_mul,Nat.one_mul,List.getD_cons_succ,List.getD_cons_zero,ga,Hl,Hk,List.length_map];exact aq) ?_
 repeat refine sq ?_
 refine rx hΓ [1,3,5,7,8] [[3,0],[5,0],[7,0],[8,0]] (fun K' hK=>by simp only[go_sem,Int.cast_ofNat_Int,Int.reduceToNat,Int.toNat_zero,Int.toNat_one,Nat.reduceMul,Nat.zero_mul,Nat.one_mul,List.getD_cons_succ,List.getD_cons_zero,gb,h0b,h1b,List.length_map];exact aq) ?_
 generalize hA:av l n.a.toNat=A at *
 generalize hB:av l n.b.toNat=B at *
 have B3:mC l az n.a.toNat n.b.toNat=(A.pa != B.pa||A.lv.all (nD l az n.a.toNat n.b.toNat)):=by unfold mC;rw[hA,hB]
 repeat refine sq ?_
 refine rx hΓ [1,3,5,7,8,28] [[3,0],[5,0],[7,0],[8,0]] (fun K' hK=>by simp only[go_sem];exact aq) ?_
 repeat refine sq ?_
 refine aC (fun hb=>?_) fun hb=>?_
 ·repeat refine sq ?_
  have e:mC l az n.a.toNat n.b.toNat=true:=by rw[B3,show (A.pa != B.pa)=true from hb];rfl
  repeat refine sq ?_
  refine rx hΓ [6] [] (fun K' hK=>by simp only[go_sem];exact aq) ?_
  refine aB ?_
  simp only[go_sem]
  first | (rw[e];done) | (rw[e];rfl) | trace_state
 ·repeat refine sq ?_
  have lr:(A.pa != B.pa)=false:=hb
  refine aF ?_
  repeat refine sq ?_
  refine rx hΓ [1,5,7,8,9] [[5,0],[7,0],[8,0],[9,0]] (fun K' hK=>by simp only[go_sem];(repeat (refine⟨by first | exact au | exact aa,?_⟩));exact iz) ?_
  repeat refine sq ?_
  refine rx hΓ [1,5,7,8,9,10] [[5,0],[7,0],[8,0],[9,0]] (fun K' hK=>by simp only[go_sem];exact aq) ?_
  repeat refine sq ?_
  refine aR ?_
  repeat refine sq ?_
  refine cp (fun s:Nat=>[(10,⟨true,.v (vInt s)⟩)]) (fun s=>[]) (fun s=>s<=A.lv.length/\∀ j (hj:j<A.lv.length),j<s->nD l az n.a.toNat n.b.toNat A.lv[j]=true) (fun s=>A.lv.length-s) 0 ?_ ?_ ?_ ?_
  ·exact⟨Nat.zero_le _,fun j _ h=>by omega⟩
  ·rfl
  ·rfl
  rintro i ⟨hi,hR⟩
  simp only[go_sem]
  repeat refine sq ?_
  refine rx hΓ [1,5,7,8,9,10,35] [[5,0],[7,0],[8,0],[9,0]] (fun K' hK=>by simp only[go_sem];exact aq) ?_
  repeat refine sq ?_
  refine aC (fun hb=>?_) fun hb=>?_
  ·have ae:i<A.lv.length:=by simpa using hb
   have aw:(i:Int)<A.lv.length:=by omega
   clear hb
   repeat refine sq ?_
   refine aF ?_
   repeat refine sq ?_
   refine aR ?_
   repeat refine sq ?_
   refine dx hΓ hP [[],[0],[],[2],[],[2,3,4],[2,3,4,5],u7,u8] [1,5,7,8,9,10,46] [[5,0],[7,0],[8,0],[9,0]] (by kernel_rfl) (fun K' hK=>by simp only[go_sem,ai ae,ak,an,aw,ai ae,aw,ak,an,List.length_map];exact gX) ?_
   repeat refine sq ?_
   refine aC (fun hb=>?_) fun hb=>?_
   ·repeat refine sq ?_
    have hg:nD l az n.a.toNat n.b.toNat A.lv[i]=true:=by unfold nD;rw[hB,show (!B.lv.contains A.lv[i])=true from hb];rfl
    refine bN ?_
    simp only[go_sem]
    refine kp [1,5,7,8,9,10] [[5,0],[7,0],[8,0],[9,0]] ?_
    repeat refine sq ?_
    refine aW hΓ fun K' hK=>?_
    simp only[go_sem,ai ae,ak,an,aw]
    repeat (refine⟨au,?_⟩)
    refine hK _ ?_
    clear K' hK
    simp only[go_sem]
    refine⟨i+1,⟨ae,?_⟩,by(show A.lv.length-(i+1)<A.lv.length-i;omega),?_⟩
    ·intro j hj ff
     rcases Nat.lt_succ_iff_lt_or_eq.1 ff with h5 | rfl
     ·exact hR j hj h5
     ·exact hg
    refine bh [1,5,7,8,9,10] [[5,0],[7,0],[8,0],[9,0]] ?_ ?_<;>simp only[go_sem,bc ae kL,be]
   ·repeat refine sq ?_
    have GY:(!B.lv.contains A.lv[i])=false:=hb
    refine aF ?_
    repeat refine sq ?_
    refine dx hΓ hP [[],[],[1],[],[3],[],[3,4,5],[3,4,5,6],u8,u9] [1,5,7,8,9,10,11] [[5,0],[7,0],[8,0],[9,0]] (by kernel_rfl) (fun K' hK=>by simp only[go_sem,ai ae,ak,an,aw,ai ae,aw,ak,an,Int.cast_ofNat_Int,Int.reduceToNat,Int.toNat_zero,Nat.reduceMul,Nat.zero_mul,List.getD_cons_zero,List.length_map];(repeat (refine⟨by first | exact au | exact rfl | exact⟨hv,Hl,Hk⟩ | exact⟨⟨aa,by show (br _ _ _).length=_;rw[lS]⟩,Hl,Hk⟩,?_⟩));exact fJ) ?_
    rcases V2 (x:=aY l 900) (i:=n.a.toNat) (f:=A.lv[i])with gT | ⟨q,gT,hq⟩
    ·repeat refine sq ?_
     refine dx hΓ hP [[],[0],[0,1],[0,1,2],u4,[0,1,2],[0,1,2,5],u7,u8,u9,ck,ck,[0,1,2,3,4,5,6,7,8,9,11],gK,jk,ck,[0,1,2,3,4,5,6,7,8,9,15],nZ,jj] [1,5,7,8,9,10,74] [[5,0],[7,0],[8,0],[9,0]] (by kernel_rfl) (fun K' hK=>by simp only[go_sem,ai ae,ak,an,aw,gT,vT,Bool.true_or];exact gX) ?_
     repeat refine sq ?_
     refine aC (fun hb=>?_) fun hb=>?_
     ·repeat refine sq ?_
      have hg:nD l az n.a.toNat n.b.toNat A.lv[i]=false:=by unfold nD zy;rw[hA,hB,GY,gT];rfl
      have e:mC l az n.a.toNat n.b.toNat=false:=by rw[B3,lr,Sq ae hg];rfl
      repeat refine sq ?_
      refine rx hΓ [6] [] (fun K' hK=>by simp only[go_sem,ai ae,ak,an,aw,gT,vT,Bool.true_or];exact aq) ?_
      refine aB ?_
      simp only[go_sem]
      first | (rw[e];done) | (rw[e];rfl) | trace_state
     ·cases hb
    ·have bI:q<az.length:=by omega
     have ir:(if (0:Int)>(q:Int)then(0:Int)else(q:Int))=q:=by rw[if_neg (by omega)]
     have na:decide ((q:Int)<0)=false:=by simp
     have rY:(q:Int)<az.length:=by omega
     repeat refine sq ?_
     refine dx hΓ hP [[],[0],[0,1],[0,1,2],u4,[0,1,2],[0,1,2,5],u7,u8,u9,ck,ck,[0,1,2,3,4,5,6,7,8,9,11],gK,jk,ck,[0,1,2,3,4,5,6,7,8,9,15],nZ,jj] [1,5,7,8,9,10,74] [[5,0],[7,0],[8,0],[9,0]] (by kernel_rfl) (fun K' hK=>by simp only[go_sem,ai ae,ak,an,aw,gT,na,ir,ai bI,rY,ak,an,List.length_map,Bool.false_or];exact gX) ?_
     repeat refine sq ?_
     refine aC (fun hb=>?_) fun hb=>?_
     ·repeat refine sq ?_
      have hg:nD l az n.a.toNat n.b.toNat A.lv[i]=false:=by unfold nD zy;rw[hA,hB,GY,gT,na,ak,cj bI,Bool.or_assoc,hb];rfl
      have e:mC l az n.a.toNat n.b.toNat=false:=by rw[B3,lr,Sq ae hg];rfl
      repeat refine sq ?_
      refine rx hΓ [6] [] (fun K' hK=>by simp only[go_sem,ai ae,ak,an,aw,gT,na,ir,ai bI,rY,ak,an,List.length_map,Bool.false_or];exact aq) ?_
      refine aB ?_
      simp only[go_sem]
      first | (rw[e];done) | (rw[e];rfl) | trace_state
     ·repeat refine sq ?_
      have hg:nD l az n.a.toNat n.b.toNat A.lv[i]=true:=by unfold nD zy;rw[hA,hB,GY,gT,na,ak,cj bI,Bool.or_assoc,hb];rfl
      refine aF ?_
      refine bW ?_
      simp only[go_sem]
      refine kp [1,5,7,8,9,10] [[5,0],[7,0],[8,0],[9,0]] ?_
      repeat refine sq ?_
      refine aW hΓ fun K' hK=>?_
      simp only[go_sem,ai ae,ak,an,aw,gT,na,ir,ai bI,rY,ak,an,List.length_map,Bool.false_or]
      repeat (refine⟨au,?_⟩)
      refine hK _ ?_
      clear K' hK
      simp only[go_sem]
      refine⟨i+1,⟨ae,?_⟩,by(show A.lv.length-(i+1)<A.lv.length-i;omega),?_⟩
      ·intro j hj ff
       rcases Nat.lt_succ_iff_lt_or_eq.1 ff with h5 | rfl
       ·exact hR j hj h5
       ·exact hg
      refine bh [1,5,7,8,9,10] [[5,0],[7,0],[8,0],[9,0]] ?_ ?_<;>simp only[go_sem,bc ae kL,be]
  ·have bE:i=A.lv.length:=by
    have :¬ (i:Int)<A.lv.length:=by simpa using hb
    omega
   clear hb
   subst bE
   have e:mC l az n.a.toNat n.b.toNat=true:=by rw[B3,adW (fun j hj=>hR j hj hj),Bool.or_true]
   repeat refine sq ?_
   refine bN ?_
   simp only[go_sem]
   refine kp [] [] ?_
   repeat refine sq ?_
   refine rx hΓ [6] [] (fun K' hK=>by simp only[go_sem];exact aq) ?_
   refine aB ?_
   simp only[go_sem]
   first | (rw[e];done) | (rw[e];rfl) | trace_state
end
theorem EG{l l':Led}(h:bw l)(hp:l'.ps=l.ps)(hr:l'.rs.Sublist l.rs)(ht:l'.ts.Sublist l.ts)(hs:l'.ss.Sublist l.ss):bw l' where
 ps:=by rw[hp];exact h.ps
 psn:=by rw[hp];exact h.psn
 rs:=by
  have :=h.rs
  rw[qQ]at this |-
  exact⟨fun x hx=>this.1 x (hr.subset hx),this.2.sublist hr⟩
 rsn:=Nat.le_trans hr.length_le h.rsn
 ts:=by
  have :=h.ts
  rw[qQ]at this |-
  exact⟨fun x hx=>this.1 x (ht.subset hx),this.2.sublist ht⟩
 tsn:=Nat.le_trans ht.length_le h.tsn
 ss:=by
  have :=h.ss
  rw[qQ]at this |-
  exact⟨fun x hx=>this.1 x (hs.subset hx),this.2.sublist hs⟩
 ssn:=Nat.le_trans hs.length_le h.ssn
 rl:=fun j hj=>by
  obtain⟨i,hi,e⟩:=List.getElem_of_mem (hr.subset (List.getElem_mem hj))
  have :=h.rl i hi
  rw[e]at this
  rw[hp];exact this
 sl:=fun j hj=>by
  obtain⟨i,hi,e⟩:=List.getElem_of_mem (hs.subset (List.getElem_mem hj))
  have :=h.sl i hi
  rw[e]at this
  rw[hp];exact this
 nd:=by
  refine List.Nodup.sublist ?_ h.nd
  unfold lT
  exact((hr.map _).append (ht.map _)).append (hs.map _)
abbrev Pq:=Ret×Int
def qm(l:Led)(q:Pq):Bool:=decide (cw l q.1.re 900>=0)&&decide (q.2>(av l (cw l q.1.re 900).toNat).da)
def gz(l:Led)(d:List Int)(s:Nat):List Pq:=((l.ts.zip d).take s).filter (qm l)
def fT(A:List Pq)(t:List Bool):Nat->List Pq
 | 0=>[]
 |s+1=>if t.getD s false=true then fT A t s++[A.getD s default]else fT A t s
def rets(q:List Pq):List Ret:=q.map (·.1)
def cF(q:List Pq):List Int:=q.map (·.2)
def lH(l:Led)(w:List Int)(C:List Rec)(i:Nat):Nat->Bool
 | 0=>true
 |k+1=>lH l w C i k&&(decide (cw ⟨l.ps,C,[],[]⟩ (av l k).so 900<0)||mC l w k i)
def fB(l:Led)(w:List Int):Nat->List Rec
 | 0=>[]
 |i+1=>if lH l w (fB l w i) i i=true then fB l w i++[av l i]else fB l w i
def rP(ps:List Pap)(C:List Rec)(q:Pq):Bool:=decide (cw ⟨ps,C,[],[]⟩ q.1.re 900>=0)
def jT(ps:List Pap)(C:List Rec)(T:List Pq)(s:Nat):List Pq:=(T.take s).filter (rP ps C)
theorem Er(A:List Pq)(t:List Bool):∀ s,s<=A.length->(fT A t s).Sublist (A.take s)
 | 0,_=>by simp[fT]
 |s+1,h=>by
  have ih:=Er A t s (by omega)
  have hs:s<A.length:=by omega
  rw[fT,List.take_add_one,List.getElem?_eq_getElem hs,cj hs]
  simp only[Option.toList_some]
  split
  ·exact ih.append (List.Sublist.refl _)
  ·exact ih.trans (List.sublist_append_left _ _)
theorem Ie(l:Led)(w:List Int):∀ s,s<=l.rs.length->(fB l w s).Sublist (l.rs.take s)
 | 0,_=>by simp[fB]
 |s+1,h=>by
  have ih:=Ie l w s (by omega)
  have hs:s<l.rs.length:=by omega
  rw[fB,List.take_add_one,List.getElem?_eq_getElem hs,cT hs]
  simp only[Option.toList_some]
  split
  ·exact ih.append (List.Sublist.refl _)
  ·exact ih.trans (List.sublist_append_left _ _)
def r0(r:Raw):Raw:=⟨r.rs,r.ts,[]⟩
def l0(r:Raw):Led:=jn (r0 r)
def d0(r:Raw):List Int:=fx (r0 r) (nT (r0 r))
def cr(r:Raw):List Pq:=gz (l0 r) (d0 r) (l0 r).ts.length
def iA(r:Raw):Led:=⟨(l0 r).ps,(l0 r).rs,rets (cr r),[]⟩
def bg(r:Raw):List Pq:=fT (cr r) (br (iA r) 900 (iA r).ts.length) (iA r).ts.length
def dn(r:Raw):Led:=⟨(l0 r).ps,(l0 r).rs,rets (bg r),[]⟩
def cq(r:Raw):List Rec:=fB (dn r) (cF (bg r)) (dn r).rs.length
def db(r:Raw):List Pq:=jT (l0 r).ps (cq r) (bg r) (bg r).length
def bR(r:Raw):Led:=⟨(l0 r).ps,cq r,rets (db r),[]⟩
def gU(r:Raw):List Int:=cF (db r)
def fK(r:Raw)(j:Nat):Sig:=
 ⟨3*j+3,iY (aY (bR r) 900) ⟨(bH (r5 r.ss j).b).id,1+aP (r5 r.ss j).c (bH (r5 r.ss j).b).lv⟩ (gU r) (aP (r5 r.ss j).d 200),(bH (r5 r.ss j).b).id,1+aP (r5 r.ss j).c (bH (r5 r.ss j).b).lv,aP (r5 r.ss j).d 200,aP (r5 r.ss j).e 300,0⟩
def lU(r:Raw)(m:Nat):List Sig:=(List.range m).map (fK r)
def aK(r:Raw):Led:=⟨(l0 r).ps,cq r,rets (db r),lU r (nS r)⟩
theorem v8(r:Raw):bw (l0 r):=by unfold l0 jn;exact LW (r0 r) (Nat.min_le_right _ _)
theorem Q9(r:Raw):(d0 r).length=(l0 r).ts.length:=by
 show ((List.range (nT (r0 r))).map _).length=((List.range (nT (r0 r))).map _).length
 rw[List.length_map,List.length_map]
theorem I6{α β:Type}:∀ (a:List α) (b:List β),a.length=b.length->(a.zip b).map (·.1)=a
 |[],[],_=>rfl
 |x::a,y::b,h=>by
  simp only[List.zip_cons_cons,List.map_cons]
  rw[I6 a b (by simpa using h)]
theorem AJ(r:Raw)(s:Nat):(gz (l0 r) (d0 r) s).Sublist ((l0 r).ts.zip (d0 r)):=List.filter_sublist.trans (List.take_sublist _ _)
theorem AB(r:Raw){q:List Pq}(h:q.Sublist ((l0 r).ts.zip (d0 r))):(rets q).Sublist (l0 r).ts:=by
 have :=h.map (·.1)
 rw[I6 _ _ (Q9 r).symm]at this
 exact this
theorem adZ(r:Raw):bw (iA r):=EG (v8 r) rfl (List.Sublist.refl _) (AB r (AJ r _)) (List.nil_sublist _)
theorem hS(q:List Pq):(rets q).length=q.length:=by unfold rets;simp
theorem nC(q:List Pq):(cF q).length=q.length:=by unfold cF;simp
theorem xg(r:Raw):(iA r).ts.length=(cr r).length:=hS _
theorem rz(r:Raw):(bg r).Sublist (cr r):=by
 have :=Er (cr r) (br (iA r) 900 (iA r).ts.length) (iA r).ts.length (by rw[xg];exact Nat.le_refl _)
 rw[xg]at this
 rw[List.take_length]at this
 unfold bg
 rw[xg]
 exact this
theorem Jp(r:Raw):bw (dn r):=EG (v8 r) rfl (List.Sublist.refl _) (AB r ((rz r).trans (AJ r _))) (List.nil_sublist _)
theorem CM(r:Raw):(cq r).Sublist (l0 r).rs:=(Ie (dn r) _ _ (Nat.le_refl _)).trans (List.take_sublist _ _)
theorem rA(r:Raw):(db r).Sublist (bg r):=List.filter_sublist.trans (List.take_sublist _ _)
theorem kz(r:Raw):bw (bR r):=EG (v8 r) rfl (CM r) (AB r ((rA r).trans ((rz r).trans (AJ r _)))) (List.nil_sublist _)
noncomputable section
theorem Wp{l:Led}{d:List Int}{i:Nat}(h:i<l.ts.length)(hd:i<d.length)(hc:qm l (l.ts[i],d[i])=true):gz l d (i+1)=gz l d i++[(l.ts[i],d[i])]:=by
 unfold gz
 have hz:i<(l.ts.zip d).length:=by simp;omega
 rw[sM hz,List.getElem_zip,if_pos hc]
theorem KN{l:Led}{d:List Int}{i:Nat}(h:i<l.ts.length)(hd:i<d.length)(hc:qm l (l.ts[i],d[i])=false):gz l d (i+1)=gz l d i:=by
 unfold gz
 have hz:i<(l.ts.zip d).length:=by simp;omega
 rw[sM hz,List.getElem_zip,if_neg (by rw[hc];decide)];simp
theorem KO(l:Led)(d:List Int)(s:Nat):(gz l d s).length<=l.ts.length:=by
 unfold gz
 refine Nat.le_trans (List.length_filter_le _ _) ?_
 simp;omega
theorem Wk{ps:List Pap}{C:List Rec}{T:List Pq}{i:Nat}(h:i<T.length)(hc:rP ps C T[i]=true):jT ps C T (i+1)=jT ps C T i++[T[i]]:=by
 unfold jT
 rw[sM h,if_pos hc]
theorem Wl{ps:List Pap}{C:List Rec}{T:List Pq}{i:Nat}(h:i<T.length)(hc:rP ps C T[i]=false):jT ps C T (i+1)=jT ps C T i:=by
 unfold jT
 rw[sM h,if_neg (by rw[hc];decide)];simp
theorem Wm(ps:List Pap)(C:List Rec)(T:List Pq)(s:Nat):(jT ps C T s).length<=T.length:=by
 unfold jT
 refine Nat.le_trans (List.length_filter_le _ _) ?_
 simp;omega
theorem Wh(A:List Pq)(t:List Bool){s:Nat}(h:s<=A.length):(fT A t s).length<=A.length:=Nat.le_trans (Er A t s h).length_le (by simp;omega)
theorem adh(l:Led)(w:List Int){s:Nat}(h:s<=l.rs.length):(fB l w s).length<=l.rs.length:=Nat.le_trans (Ie l w s h).length_le (by simp;omega)
theorem sS(a b:List Pq):rets (a++b)=rets a++rets b:=List.map_append
theorem uN(a b:List Pq):cF (a++b)=cF a++cF b:=List.map_append
theorem sR(q:Pq):rets [q]=[q.1]:=rfl
theorem uM(q:Pq):cF [q]=[q.2]:=rfl
theorem Ys(r:Raw):jn ⟨r.rs,r.ts,[]⟩=l0 r:=rfl
theorem acL(r:Raw):fx ⟨r.rs,r.ts,[]⟩ (nT ⟨r.rs,r.ts,[]⟩)=d0 r:=rfl
theorem Mo(r:Raw):(l0 r).ps=mps:=rfl
theorem Et(r:Raw):gz (l0 r) (d0 r) (l0 r).ts.length=cr r:=rfl
theorem ad0(r:Raw):(⟨(l0 r).ps,(l0 r).rs,rets (cr r),[]⟩:Led)=iA r:=rfl
theorem Jq(r:Raw):(⟨(l0 r).ps,(l0 r).rs,rets (bg r),[]⟩:Led)=dn r:=rfl
theorem Wi(r:Raw):fT (cr r) (br (iA r) 900 (rets (cr r)).length) (br (iA r) 900 (rets (cr r)).length).length=bg r:=by rw[lS];rfl
theorem adi(r:Raw):fB (dn r) (cF (bg r)) (l0 r).rs.length=cq r:=rfl
theorem Wn(r:Raw):jT (l0 r).ps (cq r) (bg r) (rets (bg r)).length=db r:=by rw[hS];rfl
theorem WM(r:Raw):(⟨(l0 r).ps,cq r,rets (db r),[]⟩:Led)=bR r:=rfl
theorem D4(p:List Pap)(C:List Rec)(T:List Ret)(so k:Int):cw ⟨p,C,T,[]⟩ so k=cw ⟨p,C,[],[]⟩ so k:=rfl
theorem LL:decide ((-1:Int)>=0)=false:=rfl
theorem Ar(r:Raw)(m:Nat):(lU r m).length=m:=by unfold lU;simp
theorem Ec(q:List Pq)(i:Nat)(h:i<(rets q).length)(h':i<q.length):(rets q)[i]=q[i].1:=List.getElem_map _
section
attribute [local irreducible] jn fx aP nT l0 d0 cr bg cq db
def K98:List (Nat×Spec):=[(19,SP),(20,Dl),(70,zP),(71,Dk),(72,S72),(73,xh),(74,IG)]
theorem aeG:KS K98:=tc U5.sound<|tc DY.sound<|tc J4.sound<|tc DX.sound<|tc UR.sound<|tc J3.sound<|tc J2.sound<|tn
attribute [go_sem] K98
@[go_sem] def P14:PSpec:=p1 tp (fun _=>True) (fun r=>.tup [fw (aK r),.sl ((gU r).map vInt)]) false
@[go_sem] def S14:Spec:=P14.toSpec
set_option maxHeartbeats 4000000 in
theorem Vx:aZ Tryz.prog 14 P14:=by
 refine gJ (rs:=[.cell 2 31,.tmp 3]) Tryz.func14 Tryz.ntmps14 fun r hp hw=>?_
 have hP:=fE
 simp only[tp]at hw |-
 have hΓ:=aeG
 have aa:=v8 r
 have b1:=aa.rsn
 have b2:=aa.tsn
 have np:=Q9 r
 have Cb:=adZ r
 have OF:=Jp r
 have OX:=kz r
 have jw:(l0 r).ts.length<=maxLen:=by unfold maxLen;omega
 have aiX:(cr r).length<=(l0 r).ts.length:=by rw[<-Et];exact KO _ _ _
 have aiW:(bg r).length<=(cr r).length:=(rz r).length_le
 have aiV:(br (iA r) 900 (rets (cr r)).length).length=(cr r).length:=by rw[lS,xg]
 have OG:(br (iA r) 900 (rets (cr r)).length).length<=maxLen:=by unfold maxLen;omega
 have OK:(l0 r).rs.length<=maxLen:=by unfold maxLen;omega
 have OS:(rets (bg r)).length<=maxLen:=by rw[hS];unfold maxLen;omega
 have aaY:nS r<=maxLen:=by have:nS r<=6:=Nat.min_le_right _ _;unfold maxLen;omega
 repeat refine sq ?_
 refine rx hΓ [1,2] [[1,0],[2,0],[161,0],[187,0],[254,0]] (fun K' hK=>by simp only[go_sem];exact aq) ?_
 repeat refine sq ?_
 refine rx hΓ [1,2,4,5] [[1,0],[2,0],[4,0],[161,0],[187,0],[254,0]] (fun K' hK=>by simp only[go_sem,Ys,acL,List.map_nil];exact aq) ?_
 repeat refine sq ?_
 refine rx hΓ [1,2,4,5,6] [[1,0],[2,0],[4,0],[6,0],[77,0],[161,0],[187,0],[254,0]] (fun K' hK=>by simp only[go_sem];exact aq) ?_
 refine bQ (nX [6,0] [77,0] 2 8 _ rfl rfl rfl [1,2,4,5,6] [[1,0],[2,0],[4,0],[6,0],[77,0],[161,0],[187,0],[254,0]] ?_ rfl) ?_
 ·simp only[go_sem,List.set_cons_succ,List.set_cons_zero]
 simp only[go_sem,List.set_cons_succ,List.set_cons_zero]
 repeat refine sq ?_
 refine rx hΓ [1,2,4,5,6,7] [[1,0],[2,0],[4,0],[6,0],[77,0],[85,0],[161,0],[187,0],[254,0]] (fun K' hK=>by simp only[go_sem];exact aq) ?_
 refine bQ (vl 7 [85,0] 1 (by simp only[go_sem]) (by simp only[go_sem]) [1,2,4,5,6,7] [[1,0],[2,0],[4,0],[6,0],[77,0],[85,0],[161,0],[187,0],[254,0]] ?_ rfl) ?_
 ·simp only[go_sem]
 simp only[go_sem]
 repeat refine sq ?_
 refine rx hΓ [1,2,4,5,6,7,8] [[1,0],[2,0],[4,0],[6,0],[77,0],[85,0],[161,0],[187,0],[254,0]] (fun K' hK=>by simp only[go_sem];exact aq) ?_
 repeat refine sq ?_
 refine aR ?_
 repeat refine sq ?_
 refine cp (fun s:Nat=>[(8,⟨true,.v (vInt s)⟩),(7,⟨true,.msl [85,0] (cF (gz (l0 r) (d0 r) s)).length⟩)]) (fun s=>[([6,0],.box [.v (.sl ((l0 r).ps.map cW)),.v (.sl ((l0 r).rs.map encR)),.msl [77,0] (rets (gz (l0 r) (d0 r) s)).length,.nilsl]),([77,0],.arr 8 ((rets (gz (l0 r) (d0 r) s)).map encT)),([85,0],.arr 1 ((cF (gz (l0 r) (d0 r) s)).map vInt))]) (fun s=>s<=(l0 r).ts.length) (fun s=>(l0 r).ts.length-s) 0 ?_ ?_ ?_ ?_
 ·exact Nat.zero_le _
 ·rfl
 ·rfl
 rintro i hi
 simp only[go_sem]
 repeat refine sq ?_
 refine rx hΓ [1,2,4,5,6,7,8,43] [[1,0],[2,0],[4,0],[6,0],[77,0],[85,0],[161,0],[187,0],[254,0]] (fun K' hK=>by simp only[go_sem];exact aq) ?_
 repeat refine sq ?_
 refine aC (fun hb=>?_) fun hb=>?_
 ·have ae:i<(l0 r).ts.length:=by simpa using hb
  have aw:(i:Int)<(l0 r).ts.length:=by omega
  clear hb
  have wD:i<(d0 r).length:=by omega
  have GU:(i:Int)<(d0 r).length:=by omega
  have na:=KO (l0 r) (d0 r) i
  have m8:=hS (gz (l0 r) (d0 r) i)
  have PL:=nC (gz (l0 r) (d0 r) i)
  repeat refine sq ?_
  refine aF ?_
  repeat refine sq ?_
  refine aR ?_
  repeat refine sq ?_
  refine dx hΓ hP [[],[],[1],[],[1,2,3],[1,2,3,4],[1,2,3,4,5],u7,u8] [1,2,4,5,6,7,8,9] [[1,0],[2,0],[4,0],[6,0],[77,0],[85,0],[161,0],[187,0],[254,0]] (by kernel_rfl) (fun K' hK=>by simp only[go_sem,ai ae,ak,an,aw,ai ae,aw,ak,an,List.length_map];(repeat (refine⟨by first | exact au | exact b1,?_⟩));exact fJ) ?_
  rcases vF (l0 r) (l0 r).ts[i].re 900 with gT | ⟨q,hq,gT,-⟩
  ·repeat refine sq ?_
   refine dx hΓ hP [[],[0],[0,1],[0,1,2],[0,1,2],u5,u6,[0,1,2],[0,1,2,7],[0,1,2],[0,1,2,7,8,9],[0,1,2,7,8,9,10],[0,1,2,7,8,9,10,11],gK,jk] [1,2,4,5,6,7,8,68] [[1,0],[2,0],[4,0],[6,0],[77,0],[85,0],[161,0],[187,0],[254,0]] (by kernel_rfl) (fun K' hK=>by simp only[go_sem,ai ae,ak,an,aw,gT,LL,ai wD,GU,ak,an,List.length_map];exact gX) ?_
   repeat refine sq ?_
   refine aC (fun hb=>?_) fun hb=>?_
   ·cases hb
   ·repeat refine sq ?_
    have hf:gz (l0 r) (d0 r) (i+1)=gz (l0 r) (d0 r) i:=KN ae wD (by unfold qm;simp only[gT];rfl)
    refine aF ?_
    refine bW ?_
    simp only[go_sem]
    refine kp [1,2,4,5,6,7,8] [[1,0],[2,0],[4,0],[6,0],[77,0],[85,0],[161,0],[187,0],[254,0]] ?_
    repeat refine sq ?_
    refine aW hΓ fun K' hK=>?_
    simp only[go_sem,ai ae,ak,an,aw,gT,LL]
    repeat (refine⟨au,?_⟩)
    refine hK _ ?_
    clear K' hK
    simp only[go_sem]
    refine⟨i+1,ae,by(show (l0 r).ts.length-(i+1)<(l0 r).ts.length-i;omega),?_⟩
    refine bh [1,2,4,5,6,7,8] [[1,0],[2,0],[4,0],[6,0],[77,0],[85,0],[161,0],[187,0],[254,0]] ?_ ?_<;>simp only[go_sem,bc ae jw,be,hf,sS,uN,sR,uM,List.map_append,List.map_cons,List.map_nil,List.length_append,List.length_cons,List.length_nil]
  ·have bI:(q:Int)<(l0 r).rs.length:=by omega
   have py:decide ((q:Int)>=0)=true:=by simp
   repeat refine sq ?_
   refine dx hΓ hP [[],[0],[0,1],[0,1,2],[0,1,2],u5,u6,[0,1,2],[0,1,2,7],[0,1,2],[0,1,2,7,8,9],[0,1,2,7,8,9,10],[0,1,2,7,8,9,10,11],gK,jk] [1,2,4,5,6,7,8,68] [[1,0],[2,0],[4,0],[6,0],[77,0],[85,0],[161,0],[187,0],[254,0]] (by kernel_rfl) (fun K' hK=>by simp only[go_sem,ai ae,ak,an,aw,gT,py,ai hq,bI,ai wD,GU,ak,an,List.length_map];exact gX) ?_
   repeat refine sq ?_
   refine aC (fun hb=>?_) fun hb=>?_
   ·repeat refine sq ?_
    have hf:=Wp ae wD (by unfold qm;simp only[gT,py,ak,cT hq];simpa using hb)
    repeat refine sq ?_
    refine dx hΓ hP [[],[0],[],[2],[],[2,3,4],[2,3,4,5],[2,3,4,5,6],u8,u9,ck] [1,2,4,5,6,7,8] [[1,0],[2,0],[4,0],[6,0],[77,0],[85,0],[161,0],[187,0],[254,0]] (by kernel_rfl) (fun K' hK=>by simp only[go_sem,ai ae,ak,an,aw,gT,py,ai hq,bI,ai ae,aw,ak,an,List.length_map];(repeat (refine⟨by first | exact au | exact⟨rfl,by omega,by unfold maxLen;omega⟩,?_⟩));exact fJ) ?_
    repeat refine sq ?_
    refine aW hΓ fun K' hK=>?_
    simp only[go_sem,ai ae,ak,an,aw,gT,py,ai hq,bI,ai wD,GU,ak,an,List.length_map]
    repeat (refine⟨by first | exact au | exact⟨rfl,by omega,by unfold maxLen;omega⟩,?_⟩)
    refine hK _ ?_
    clear K' hK
    simp only[go_sem]
    refine kp [1,2,4,5,6,7,8] [[1,0],[2,0],[4,0],[6,0],[77,0],[85,0],[161,0],[187,0],[254,0]] ?_
    repeat refine sq ?_
    refine aW hΓ fun K' hK=>?_
    simp only[go_sem,ai ae,ak,an,aw,gT,py,ai hq,bI]
    repeat (refine⟨au,?_⟩)
    refine hK _ ?_
    clear K' hK
    simp only[go_sem]
    refine⟨i+1,ae,by(show (l0 r).ts.length-(i+1)<(l0 r).ts.length-i;omega),?_⟩
    refine bh [1,2,4,5,6,7,8] [[1,0],[2,0],[4,0],[6,0],[77,0],[85,0],[161,0],[187,0],[254,0]] ?_ ?_<;>simp only[go_sem,bc ae jw,be,hf,sS,uN,sR,uM,List.map_append,List.map_cons,List.map_nil,List.length_append,List.length_cons,List.length_nil]
   ·repeat refine sq ?_
    have hf:gz (l0 r) (d0 r) (i+1)=gz (l0 r) (d0 r) i:=KN ae wD (by unfold qm;simp only[gT,py,ak,cT hq];simpa using hb)
    refine aF ?_
    refine bW ?_
    simp only[go_sem]
    refine kp [1,2,4,5,6,7,8] [[1,0],[2,0],[4,0],[6,0],[77,0],[85,0],[161,0],[187,0],[254,0]] ?_
    repeat refine sq ?_
    refine aW hΓ fun K' hK=>?_
    simp only[go_sem,ai ae,ak,an,aw,gT,py,ai hq,bI]
    repeat (refine⟨au,?_⟩)
    refine hK _ ?_
    clear K' hK
    simp only[go_sem]
    refine⟨i+1,ae,by(show (l0 r).ts.length-(i+1)<(l0 r).ts.length-i;omega),?_⟩
    refine bh [1,2,4,5,6,7,8] [[1,0],[2,0],[4,0],[6,0],[77,0],[85,0],[161,0],[187,0],[254,0]] ?_ ?_<;>simp only[go_sem,bc ae jw,be,hf,sS,uN,sR,uM,List.map_append,List.map_cons,List.map_nil,List.length_append,List.length_cons,List.length_nil]
 ·have bE:i=(l0 r).ts.length:=by
   have :¬ (i:Int)<(l0 r).ts.length:=by simpa using hb
   omega
  clear hb
  subst bE
  repeat refine sq ?_
  refine bN ?_
  simp only[go_sem]
  refine kp [1,2,4,6,7] [[1,0],[2,0],[4,0],[6,0],[77,0],[85,0],[161,0],[187,0],[254,0]] ?_
  simp only[Et]
  refine bQ (pU [6,0] [77,0] 2 _ _ _ _ rfl rfl rfl (by first | rfl | (simp only[List.length_map];done)) [1,2,4,6,7] [[1,0],[2,0],[4,0],[6,0],[77,0],[85,0],[161,0],[187,0],[254,0]] ?_ rfl) ?_
  ·simp only[go_sem,List.set_cons_succ,List.set_cons_zero]
  simp only[go_sem,List.set_cons_succ,List.set_cons_zero]
  refine bQ (dV 7 (.msl [85,0] (cF (cr r)).length) (by simp only[go_sem]) (by simp only[go_sem]) [1,2,4,6,7] [[1,0],[2,0],[4,0],[6,0],[77,0],[85,0],[161,0],[187,0],[254,0]] ?_ rfl) ?_
  ·simp only[go_sem]
  simp only[go_sem]
  repeat refine sq ?_
  refine rx hΓ [1,2,4,6,7,10] [[1,0],[2,0],[4,0],[6,0],[77,0],[85,0],[161,0],[187,0],[254,0]] (fun K' hK=>by simp only[go_sem,ad0];(repeat (refine⟨by first | exact au | exact Cb,?_⟩));exact iz) ?_
  repeat refine sq ?_
  refine rx hΓ [1,2,4,6,7,10,11] [[1,0],[2,0],[4,0],[6,0],[11,0],[77,0],[85,0],[108,0],[161,0],[187,0],[254,0]] (fun K' hK=>by simp only[go_sem];exact aq) ?_
  repeat refine sq ?_
  refine rx hΓ [1,2,4,6,7,10,11] [[1,0],[2,0],[4,0],[6,0],[11,0],[77,0],[85,0],[108,0],[161,0],[187,0],[254,0]] (fun K' hK=>by simp only[go_sem];exact aq) ?_
  refine bQ (nX [11,0] [108,0] 2 8 _ rfl rfl rfl [1,2,4,6,7,10,11] [[1,0],[2,0],[4,0],[6,0],[11,0],[77,0],[85,0],[108,0],[161,0],[187,0],[254,0]] ?_ rfl) ?_
  ·simp only[go_sem,List.set_cons_succ,List.set_cons_zero]
  simp only[go_sem,List.set_cons_succ,List.set_cons_zero]
  repeat refine sq ?_
  refine rx hΓ [1,2,4,6,7,10,11,12] [[1,0],[2,0],[4,0],[6,0],[11,0],[77,0],[85,0],[108,0],[116,0],[161,0],[187,0],[254,0]] (fun K' hK=>by simp only[go_sem];exact aq) ?_
  refine bQ (vl 12 [116,0] 1 (by simp only[go_sem]) (by simp only[go_sem]) [1,2,4,6,7,10,11,12] [[1,0],[2,0],[4,0],[6,0],[11,0],[77,0],[85,0],[108,0],[116,0],[161,0],[187,0],[254,0]] ?_ rfl) ?_
  ·simp only[go_sem]
  simp only[go_sem]
  generalize hT:br (iA r) 900 (rets (cr r)).length=T at *
  have F1:fT (cr r) T T.length=bg r:=by rw[<-hT];exact Wi r
  repeat refine sq ?_
  refine rx hΓ [1,2,4,6,7,10,11,12,13] [[1,0],[2,0],[4,0],[6,0],[11,0],[77,0],[85,0],[108,0],[116,0],[161,0],[187,0],[254,0]] (fun K' hK=>by simp only[go_sem];exact aq) ?_
  repeat refine sq ?_
  refine aR ?_
  repeat refine sq ?_
  refine cp (fun s:Nat=>[(13,⟨true,.v (vInt s)⟩),(12,⟨true,.msl [116,0] (cF (fT (cr r) T s)).length⟩)]) (fun s=>[([11,0],.box [.v (.sl ((l0 r).ps.map cW)),.v (.sl ((l0 r).rs.map encR)),.msl [108,0] (rets (fT (cr r) T s)).length,.nilsl]),([108,0],.arr 8 ((rets (fT (cr r) T s)).map encT)),([116,0],.arr 1 ((cF (fT (cr r) T s)).map vInt))]) (fun s=>s<=T.length) (fun s=>T.length-s) 0 ?_ ?_ ?_ ?_
  ·exact Nat.zero_le _
  ·rfl
  ·rfl
  rintro i1 hi
  simp only[go_sem]
  repeat refine sq ?_
  refine rx hΓ [1,2,4,6,7,10,11,12,13,93] [[1,0],[2,0],[4,0],[6,0],[11,0],[77,0],[85,0],[108,0],[116,0],[161,0],[187,0],[254,0]] (fun K' hK=>by simp only[go_sem];exact aq) ?_
  repeat refine sq ?_
  refine aC (fun hb=>?_) fun hb=>?_
  ·have aS:i1<T.length:=by simpa using hb
   have bC:(i1:Int)<T.length:=by omega
   clear hb
   have Cd:i1<(cr r).length:=by omega
   have BV:((rets (cr r)).map encT).getD i1 default=encT (cr r)[i1].1:=by rw[ai (by rw[hS];exact Cd)];unfold rets;rw[List.getElem_map]
   have GK:((cF (cr r)).map vInt).getD i1 default=vInt (cr r)[i1].2:=by rw[ai (by rw[nC];exact Cd)];unfold cF;rw[List.getElem_map]
   have hlA:(i1:Int)<(rets (cr r)).length:=by rw[hS];omega
   have Gr:(i1:Int)<(cF (cr r)).length:=by rw[nC];omega
   have na:=Wh (cr r) T (Nat.le_of_lt Cd)
   have m8:=hS (fT (cr r) T i1)
   have PL:=nC (fT (cr r) T i1)
   repeat refine sq ?_
   refine aF ?_
   repeat refine sq ?_
   refine aR ?_
   repeat refine sq ?_
   refine rx hΓ [1,2,4,6,7,10,11,12,13,99] [[1,0],[2,0],[4,0],[6,0],[11,0],[77,0],[85,0],[108,0],[116,0],[161,0],[187,0],[254,0]] (fun K' hK=>by simp only[go_sem,ai aS,ak,an,bC,ai aS,bC,ak,an,List.length_map];exact aq) ?_
   repeat refine sq ?_
   refine aC (fun hb=>?_) fun hb=>?_
   ·repeat refine sq ?_
    have hf:fT (cr r) T (i1+1)=fT (cr r) T i1++[(cr r)[i1]]:=by rw[fT,cj aS,if_pos hb,cj Cd]
    repeat refine sq ?_
    refine dx hΓ hP [[],[0],[],[2],[],[2,3,4],[2,3,4,5],[2,3,4,5,6],u8,u9,ck] [1,2,4,6,7,10,11,12,13] [[1,0],[2,0],[4,0],[6,0],[11,0],[77,0],[85,0],[108,0],[116,0],[161,0],[187,0],[254,0]] (by kernel_rfl) (fun K' hK=>by simp only[go_sem,ai aS,ak,an,bC,BV,hlA,ak,an,List.length_map];(repeat (refine⟨by first | exact au | exact⟨rfl,by omega,by unfold maxLen;omega⟩,?_⟩));exact fJ) ?_
    repeat refine sq ?_
    refine aW hΓ fun K' hK=>?_
    simp only[go_sem,ai aS,ak,an,bC,GK,Gr,ak,an,List.length_map]
    repeat (refine⟨by first | exact au | exact⟨rfl,by omega,by unfold maxLen;omega⟩,?_⟩)
    refine hK _ ?_
    clear K' hK
    simp only[go_sem]
    refine kp [1,2,4,6,7,10,11,12,13] [[1,0],[2,0],[4,0],[6,0],[11,0],[77,0],[85,0],[108,0],[116,0],[161,0],[187,0],[254,0]] ?_
    repeat refine sq ?_
    refine aW hΓ fun K' hK=>?_
    simp only[go_sem,ai aS,ak,an,bC]
    repeat (refine⟨au,?_⟩)
    refine hK _ ?_
    clear K' hK
    simp only[go_sem]
    refine⟨i1+1,aS,by(show T.length-(i1+1)<T.length-i1;omega),?_⟩
    refine bh [1,2,4,6,7,10,11,12,13] [[1,0],[2,0],[4,0],[6,0],[11,0],[77,0],[85,0],[108,0],[116,0],[161,0],[187,0],[254,0]] ?_ ?_<;>simp only[go_sem,bc aS OG,be,hf,sS,uN,sR,uM,List.map_append,List.map_cons,List.map_nil,List.length_append,List.length_cons,List.length_nil]
   ·repeat refine sq ?_
    have hf:fT (cr r) T (i1+1)=fT (cr r) T i1:=by rw[fT,cj aS,if_neg (by rw[hb];decide)]
    refine aF ?_
    refine bW ?_
    simp only[go_sem]
    refine kp [1,2,4,6,7,10,11,12,13] [[1,0],[2,0],[4,0],[6,0],[11,0],[77,0],[85,0],[108,0],[116,0],[161,0],[187,0],[254,0]] ?_
    repeat refine sq ?_
    refine aW hΓ fun K' hK=>?_
    simp only[go_sem,ai aS,ak,an,bC]
    repeat (refine⟨au,?_⟩)
    refine hK _ ?_
    clear K' hK
    simp only[go_sem]
    refine⟨i1+1,aS,by(show T.length-(i1+1)<T.length-i1;omega),?_⟩
    refine bh [1,2,4,6,7,10,11,12,13] [[1,0],[2,0],[4,0],[6,0],[11,0],[77,0],[85,0],[108,0],[116,0],[161,0],[187,0],[254,0]] ?_ ?_<;>simp only[go_sem,bc aS OG,be,hf,sS,uN,sR,uM,List.map_append,List.map_cons,List.map_nil,List.length_append,List.length_cons,List.length_nil]
  ·have jy:i1=T.length:=by
    have :¬ (i1:Int)<T.length:=by simpa using hb
    omega
   clear hb
   subst jy
   repeat refine sq ?_
   refine bN ?_
   simp only[go_sem]
   refine kp [1,2,4,11,12] [[1,0],[2,0],[4,0],[11,0],[77,0],[108,0],[116,0],[161,0],[187,0],[254,0]] ?_
   simp only[F1]
   refine bQ (pU [11,0] [108,0] 2 _ _ _ _ rfl rfl rfl (by first | rfl | (simp only[List.length_map];done)) [1,2,4,11,12] [[1,0],[2,0],[4,0],[11,0],[77,0],[108,0],[116,0],[161,0],[187,0],[254,0]] ?_ rfl) ?_
   ·simp only[go_sem,List.set_cons_succ,List.set_cons_zero]
   simp only[go_sem,List.set_cons_succ,List.set_cons_zero]
   refine bQ (dV 12 (.msl [116,0] (cF (bg r)).length) (by simp only[go_sem]) (by simp only[go_sem]) [1,2,4,11,12] [[1,0],[2,0],[4,0],[11,0],[77,0],[108,0],[116,0],[161,0],[187,0],[254,0]] ?_ rfl) ?_
   ·simp only[go_sem]
   simp only[go_sem]
   repeat refine sq ?_
   refine rx hΓ [1,2,11,12,14] [[1,0],[2,0],[11,0],[14,0],[77,0],[108,0],[116,0],[161,0],[187,0],[254,0]] (fun K' hK=>by simp only[go_sem];exact aq) ?_
   refine bQ (nX [14,0] [161,0] 1 7 _ rfl rfl rfl [1,2,11,12,14] [[1,0],[2,0],[11,0],[14,0],[77,0],[108,0],[116,0],[161,0],[187,0],[254,0]] ?_ rfl) ?_
   ·simp only[go_sem,List.set_cons_succ,List.set_cons_zero]
   simp only[go_sem,List.set_cons_succ,List.set_cons_zero]
   refine bQ (nX [14,0] [187,0] 2 8 _ rfl rfl rfl [1,2,11,12,14] [[1,0],[2,0],[11,0],[14,0],[77,0],[108,0],[116,0],[161,0],[187,0],[254,0]] ?_ rfl) ?_
   ·simp only[go_sem,List.set_cons_succ,List.set_cons_zero]
   simp only[go_sem,List.set_cons_succ,List.set_cons_zero]
   repeat refine sq ?_
   refine rx hΓ [1,2,11,12,14,15] [[1,0],[2,0],[11,0],[14,0],[77,0],[108,0],[116,0],[161,0],[187,0],[254,0]] (fun K' hK=>by simp only[go_sem];exact aq) ?_
   repeat refine sq ?_
   refine aR ?_
   repeat refine sq ?_
   refine cp (fun s:Nat=>[(15,⟨true,.v (vInt s)⟩)]) (fun s=>[([14,0],.box [.v (.sl ((l0 r).ps.map cW)),.msl [161,0] (fB (dn r) (cF (bg r)) s).length,.msl [187,0] 0,.nilsl]),([161,0],.arr 7 ((fB (dn r) (cF (bg r)) s).map encR))]) (fun s=>s<=(l0 r).rs.length) (fun s=>(l0 r).rs.length-s) 0 ?_ ?_ ?_ ?_
   ·exact Nat.zero_le _
   ·rfl
   ·rfl
   rintro i2 hi
   simp only[go_sem]
   repeat refine sq ?_
   refine rx hΓ [1,2,11,12,14,15,124] [[1,0],[2,0],[11,0],[14,0],[77,0],[108,0],[116,0],[161,0],[187,0],[254,0]] (fun K' hK=>by simp only[go_sem];exact aq) ?_
   repeat refine sq ?_
   refine aC (fun hb=>?_) fun hb=>?_
   ·have bY:i2<(l0 r).rs.length:=by simpa using hb
    have fe:(i2:Int)<(l0 r).rs.length:=by omega
    clear hb
    have y0:=adh (dn r) (cF (bg r)) (s:=i2) (Nat.le_of_lt bY)
    have PV:fB (dn r) (cF (bg r)) (i2+1)=if lH (dn r) (cF (bg r)) (fB (dn r) (cF (bg r)) i2) i2 i2=true then fB (dn r) (cF (bg r)) i2++[(l0 r).rs[i2]]else fB (dn r) (cF (bg r)) i2:=by rw[fB];rw[show av (dn r) i2=(l0 r).rs[i2]from cT bY]
    have Px:i2<=maxLen:=by omega
    generalize hC:fB (dn r) (cF (bg r)) i2=C at *
    have ai1:C.length<=60:=Nat.le_trans y0 b1
    repeat refine sq ?_
    refine aF ?_
    repeat refine sq ?_
    refine aR ?_
    repeat refine sq ?_
    refine rx hΓ [1,2,11,12,14,15,16] [[1,0],[2,0],[11,0],[14,0],[77,0],[108,0],[116,0],[161,0],[187,0],[254,0]] (fun K' hK=>by simp only[go_sem,ai bY,ak,an,fe];exact aq) ?_
    repeat refine sq ?_
    refine rx hΓ [1,2,11,12,14,15,16,17] [[1,0],[2,0],[11,0],[14,0],[77,0],[108,0],[116,0],[161,0],[187,0],[254,0]] (fun K' hK=>by simp only[go_sem,ai bY,ak,an,fe];exact aq) ?_
    repeat refine sq ?_
    refine aR ?_
    repeat refine sq ?_
    refine cp (fun s:Nat=>[(17,⟨true,.v (vInt s)⟩),(16,⟨true,.v (.bool (lH (dn r) (cF (bg r)) C i2 s))⟩)]) (fun s=>[]) (fun s=>s<=i2) (fun s=>i2-s) 0 ?_ ?_ ?_ ?_
    ·exact Nat.zero_le _
    ·rfl
    ·rfl
    rintro i3 hi
    simp only[go_sem]
    repeat refine sq ?_
    refine rx hΓ [1,2,11,12,14,15,16,17,129] [[1,0],[2,0],[11,0],[14,0],[77,0],[108,0],[116,0],[161,0],[187,0],[254,0]] (fun K' hK=>by simp only[go_sem,ai bY,ak,an,fe];exact aq) ?_
    repeat refine sq ?_
    refine aC (fun hb=>?_) fun hb=>?_
    ·repeat refine sq ?_
     have kM:i3<i2:=by have h:=hb;simp at h;omega
     have G5:i3<(l0 r).rs.length:=by omega
     have P4:(i3:Int)<(l0 r).rs.length:=by omega
     have oN:lH (dn r) (cF (bg r)) C i2 (i3+1)=(lH (dn r) (cF (bg r)) C i2 i3&&(decide (cw ⟨(l0 r).ps,C,[],[]⟩ (l0 r).rs[i3].so 900<0)||mC (dn r) (cF (bg r)) i3 i2)):=by
      rw[lH,show av (dn r) i3=(l0 r).rs[i3]from cT G5];rfl
     refine aF ?_
     repeat refine sq ?_
     refine aR ?_
     repeat refine sq ?_
     rcases eK:lH (dn r) (cF (bg r)) C i2 i3 with _ | _
     ·repeat refine sq ?_
      refine oZ hΓ hP [[],[0],[0,1],[0,1],[0,1,3],[0,1],[0,1,3,4,5],[0,1,3,4,5,6],[0,1,3,4,5,6,7],u9,ck,eF,eO,eO,eO,eO,[0,1,2,3,4,5,6,7,8,9,10,11,14,15],nZ,jj,nY,pV] (by kernel_rfl) fun K' hK=>?_
      simp only[go_sem,ai bY,ak,an,fe,eK,ai G5,P4,Jq,Bool.or_not_self,D4,List.map_nil,ak,an,List.length_map]
      repeat (refine⟨by first | exact au | exact Nat.le_trans y0 b1 | exact fun h=>⟨h,OF,by rw[nC,hS]⟩,?_⟩)
      first | refine⟨by rfl,?_⟩ | skip
      refine hK _ ?_
      clear K' hK
      simp only[go_sem]
      refine kp [1,2,11,12,14,15,16,17] [[1,0],[2,0],[11,0],[14,0],[77,0],[108,0],[116,0],[161,0],[187,0],[254,0]] ?_
      repeat refine sq ?_
      refine aW hΓ fun K' hK=>?_
      simp only[go_sem,ai bY,ak,an,fe,eK]
      repeat (refine⟨au,?_⟩)
      refine hK _ ?_
      clear K' hK
      simp only[go_sem]
      refine⟨i3+1,kM,by(show i2-(i3+1)<i2-i3;omega),?_⟩
      refine bh [1,2,11,12,14,15,16,17] [[1,0],[2,0],[11,0],[14,0],[77,0],[108,0],[116,0],[161,0],[187,0],[254,0]] ?_ ?_<;>simp only[go_sem,bc kM Px,be,oN,eK]
     ·repeat refine sq ?_
      refine oZ hΓ hP [[],[0],[0,1],[0,1],[0,1,3],[0,1],[0,1,3,4,5],[0,1,3,4,5,6],[0,1,3,4,5,6,7],u9,ck,eF,eO,eO,eO,eO,[0,1,2,3,4,5,6,7,8,9,10,11,14,15],nZ,jj,nY,pV] (by kernel_rfl) fun K' hK=>?_
      simp only[go_sem,ai bY,ak,an,fe,eK,ai G5,P4,Jq,Bool.or_not_self,D4,List.map_nil,ak,an,List.length_map]
      repeat (refine⟨by first | exact au | exact Nat.le_trans y0 b1 | exact fun h=>⟨h,OF,by rw[nC,hS]⟩,?_⟩)
      first | refine⟨by rfl,?_⟩ | skip
      refine hK _ ?_
      clear K' hK
      simp only[go_sem]
      refine kp [1,2,11,12,14,15,16,17] [[1,0],[2,0],[11,0],[14,0],[77,0],[108,0],[116,0],[161,0],[187,0],[254,0]] ?_
      repeat refine sq ?_
      refine aW hΓ fun K' hK=>?_
      simp only[go_sem,ai bY,ak,an,fe,eK]
      repeat (refine⟨au,?_⟩)
      refine hK _ ?_
      clear K' hK
      simp only[go_sem]
      refine⟨i3+1,kM,by(show i2-(i3+1)<i2-i3;omega),?_⟩
      refine bh [1,2,11,12,14,15,16,17] [[1,0],[2,0],[11,0],[14,0],[77,0],[108,0],[116,0],[161,0],[187,0],[254,0]] ?_ ?_<;>simp only[go_sem,bc kM Px,be,oN,eK]
    ·repeat refine sq ?_
     have GI:i2=i3:=by
      have h:=hb
      simp at h
      omega
     subst GI
     refine bN ?_
     simp only[go_sem]
     refine kp [1,2,11,12,14,15,16] [[1,0],[2,0],[11,0],[14,0],[77,0],[108,0],[116,0],[161,0],[187,0],[254,0]] ?_
     repeat refine sq ?_
     refine rx hΓ [1,2,11,12,14,15,152] [[1,0],[2,0],[11,0],[14,0],[77,0],[108,0],[116,0],[161,0],[187,0],[254,0]] (fun K' hK=>by simp only[go_sem,ai bY,ak,an,fe];exact aq) ?_
     repeat refine sq ?_
     refine aC (fun hb=>?_) fun hb=>?_
     ·repeat refine sq ?_
      have hf:fB (dn r) (cF (bg r)) (i2+1)=C++[(l0 r).rs[i2]]:=by rw[PV,if_pos hb]
      repeat refine sq ?_
      refine oZ hΓ hP [[],[0],[],[2],[],[2,3,4],[2,3,4,5],[2,3,4,5,6],u8,u9,ck] (by kernel_rfl) fun K' hK=>?_
      simp only[go_sem,ai bY,ak,an,fe,ai bY,fe,ak,an,List.length_map]
      repeat (refine⟨by first | exact au | exact⟨rfl,by omega,by unfold maxLen;omega⟩ | exact Nat.one_ne_zero,?_⟩)
      first | refine⟨by rfl,?_⟩ | skip
      refine hK _ ?_
      clear K' hK
      simp only[go_sem]
      refine kp [1,2,11,12,14,15] [[1,0],[2,0],[11,0],[14,0],[77,0],[108,0],[116,0],[161,0],[187,0],[254,0]] ?_
      repeat refine sq ?_
      refine aW hΓ fun K' hK=>?_
      simp only[go_sem,ai bY,ak,an,fe]
      repeat (refine⟨au,?_⟩)
      refine hK _ ?_
      clear K' hK
      simp only[go_sem]
      refine⟨i2+1,bY,by(show (l0 r).rs.length-(i2+1)<(l0 r).rs.length-i2;omega),?_⟩
      refine bh [1,2,11,12,14,15] [[1,0],[2,0],[11,0],[14,0],[77,0],[108,0],[116,0],[161,0],[187,0],[254,0]] ?_ ?_<;>simp only[go_sem,bc bY OK,be,hf,List.map_append,List.map_cons,List.map_nil,List.length_append,List.length_cons,List.length_nil]
     ·repeat refine sq ?_
      have hf:fB (dn r) (cF (bg r)) (i2+1)=C:=by rw[PV,if_neg (by rw[hb];decide)]
      refine aF ?_
      refine bW ?_
      simp only[go_sem]
      refine kp [1,2,11,12,14,15] [[1,0],[2,0],[11,0],[14,0],[77,0],[108,0],[116,0],[161,0],[187,0],[254,0]] ?_
      repeat refine sq ?_
      refine aW hΓ fun K' hK=>?_
      simp only[go_sem,ai bY,ak,an,fe]
      repeat (refine⟨au,?_⟩)
      refine hK _ ?_
      clear K' hK
      simp only[go_sem]
      refine⟨i2+1,bY,by(show (l0 r).rs.length-(i2+1)<(l0 r).rs.length-i2;omega),?_⟩
      refine bh [1,2,11,12,14,15] [[1,0],[2,0],[11,0],[14,0],[77,0],[108,0],[116,0],[161,0],[187,0],[254,0]] ?_ ?_<;>simp only[go_sem,bc bY OK,be,hf,List.map_append,List.map_cons,List.map_nil,List.length_append,List.length_cons,List.length_nil]
   ·have oM:i2=(l0 r).rs.length:=by
     have :¬ (i2:Int)<(l0 r).rs.length:=by simpa using hb
     omega
    clear hb
    subst oM
    repeat refine sq ?_
    refine bN ?_
    simp only[go_sem]
    refine kp [1,2,11,12,14] [[1,0],[2,0],[11,0],[14,0],[77,0],[108,0],[116,0],[161,0],[187,0],[254,0]] ?_
    simp only[adi]
    refine bQ (pU [14,0] [161,0] 1 _ _ _ _ rfl rfl rfl (by first | rfl | (simp only[List.length_map];done)) [1,2,11,12,14] [[1,0],[2,0],[11,0],[14,0],[77,0],[108,0],[116,0],[161,0],[187,0],[254,0]] ?_ rfl) ?_
    ·simp only[go_sem,List.set_cons_succ,List.set_cons_zero]
    simp only[go_sem,List.set_cons_succ,List.set_cons_zero]
    repeat refine sq ?_
    refine rx hΓ [1,2,11,12,14,18] [[1,0],[2,0],[11,0],[14,0],[77,0],[108,0],[116,0],[161,0],[187,0],[195,0],[254,0]] (fun K' hK=>by simp only[go_sem];exact aq) ?_
    refine bQ (vl 18 [195,0] 1 (by simp only[go_sem]) (by simp only[go_sem]) [1,2,11,12,14,18] [[1,0],[2,0],[11,0],[14,0],[77,0],[108,0],[116,0],[161,0],[187,0],[195,0],[254,0]] ?_ rfl) ?_
    ·simp only[go_sem]
    simp only[go_sem]
    repeat refine sq ?_
    refine rx hΓ [1,2,11,12,14,18,19] [[1,0],[2,0],[11,0],[14,0],[77,0],[108,0],[116,0],[161,0],[187,0],[195,0],[254,0]] (fun K' hK=>by simp only[go_sem];exact aq) ?_
    repeat refine sq ?_
    refine aR ?_
    repeat refine sq ?_
    refine cp (fun s:Nat=>[(19,⟨true,.v (vInt s)⟩),(18,⟨true,.msl [195,0] (cF (jT (l0 r).ps (cq r) (bg r) s)).length⟩)]) (fun s=>[([14,0],.box [.v (.sl ((l0 r).ps.map cW)),.v (.sl ((cq r).map encR)),.msl [187,0] (rets (jT (l0 r).ps (cq r) (bg r) s)).length,.nilsl]),([187,0],.arr 8 ((rets (jT (l0 r).ps (cq r) (bg r) s)).map encT)),([195,0],.arr 1 ((cF (jT (l0 r).ps (cq r) (bg r) s)).map vInt))]) (fun s=>s<=(rets (bg r)).length) (fun s=>(rets (bg r)).length-s) 0 ?_ ?_ ?_ ?_
    ·exact Nat.zero_le _
    ·rfl
    ·rfl
    rintro i4 hi
    simp only[go_sem]
    repeat refine sq ?_
    refine rx hΓ [1,2,11,12,14,18,19,167] [[1,0],[2,0],[11,0],[14,0],[77,0],[108,0],[116,0],[161,0],[187,0],[195,0],[254,0]] (fun K' hK=>by simp only[go_sem];exact aq) ?_
    repeat refine sq ?_
    refine aC (fun hb=>?_) fun hb=>?_
    ·have pz:i4<(rets (bg r)).length:=by simpa using hb
     have tV:(i4:Int)<(rets (bg r)).length:=by omega
     clear hb
     have zl:i4<(bg r).length:=by rw[<-hS];exact pz
     have BV:((rets (bg r)).map encT).getD i4 default=encT (bg r)[i4].1:=by rw[ai (by rw[hS];exact zl)];unfold rets;rw[List.getElem_map]
     have GK:((cF (bg r)).map vInt).getD i4 default=vInt (bg r)[i4].2:=by rw[ai (by rw[nC];exact zl)];unfold cF;rw[List.getElem_map]
     have PA:(rets (bg r))[i4]=(bg r)[i4].1:=Ec _ _ _ zl
     have Gr:(i4:Int)<(cF (bg r)).length:=by rw[nC];omega
     have na:=Wm (l0 r).ps (cq r) (bg r) i4
     have m8:=hS (jT (l0 r).ps (cq r) (bg r) i4)
     have PL:=nC (jT (l0 r).ps (cq r) (bg r) i4)
     have hch:=(CM r).length_le
     repeat refine sq ?_
     refine aF ?_
     repeat refine sq ?_
     refine aR ?_
     repeat refine sq ?_
     refine dx hΓ hP [[],[],[1],[],[1,2,3],[1,2,3,4],[1,2,3,4,5],u7,u8] [1,2,11,12,14,18,19,178] [[1,0],[2,0],[11,0],[14,0],[77,0],[108,0],[116,0],[161,0],[187,0],[195,0],[254,0]] (by kernel_rfl) (fun K' hK=>by simp only[go_sem,ai pz,ak,an,tV,BV,PA,tV,D4,ak,an,List.length_map];(repeat (refine⟨by first | exact au | omega,?_⟩));exact fJ) ?_
     repeat refine sq ?_
     refine aC (fun hb=>?_) fun hb=>?_
     ·repeat refine sq ?_
      have hf:=Wk zl (C:=cq r) (ps:=(l0 r).ps) hb
      repeat refine sq ?_
      refine dx hΓ hP [[],[0],[],[2],[],[2,3,4],[2,3,4,5],[2,3,4,5,6],u8,u9,ck] [1,2,11,12,14,18,19] [[1,0],[2,0],[11,0],[14,0],[77,0],[108,0],[116,0],[161,0],[187,0],[195,0],[254,0]] (by kernel_rfl) (fun K' hK=>by simp only[go_sem,ai pz,ak,an,tV,BV,PA,tV,ak,an,List.length_map];(repeat (refine⟨by first | exact au | exact⟨rfl,by omega,by unfold maxLen;omega⟩,?_⟩));exact fJ) ?_
      repeat refine sq ?_
      refine aW hΓ fun K' hK=>?_
      simp only[go_sem,ai pz,ak,an,tV,GK,Gr,ak,an,List.length_map]
      repeat (refine⟨by first | exact au | exact⟨rfl,by omega,by unfold maxLen;omega⟩,?_⟩)
      refine hK _ ?_
      clear K' hK
      simp only[go_sem]
      refine kp [1,2,11,12,14,18,19] [[1,0],[2,0],[11,0],[14,0],[77,0],[108,0],[116,0],[161,0],[187,0],[195,0],[254,0]] ?_
      repeat refine sq ?_
      refine aW hΓ fun K' hK=>?_
      simp only[go_sem,ai pz,ak,an,tV]
      repeat (refine⟨au,?_⟩)
      refine hK _ ?_
      clear K' hK
      simp only[go_sem]
      refine⟨i4+1,pz,by(show (rets (bg r)).length-(i4+1)<(rets (bg r)).length-i4;omega),?_⟩
      refine bh [1,2,11,12,14,18,19] [[1,0],[2,0],[11,0],[14,0],[77,0],[108,0],[116,0],[161,0],[187,0],[195,0],[254,0]] ?_ ?_<;>simp only[go_sem,bc pz OS,be,hf,sS,uN,sR,uM,List.map_append,List.map_cons,List.map_nil,List.length_append,List.length_cons,List.length_nil]
     ·repeat refine sq ?_
      have hf:=Wl zl (C:=cq r) (ps:=(l0 r).ps) hb
      refine aF ?_
      refine bW ?_
      simp only[go_sem]
      refine kp [1,2,11,12,14,18,19] [[1,0],[2,0],[11,0],[14,0],[77,0],[108,0],[116,0],[161,0],[187,0],[195,0],[254,0]] ?_
      repeat refine sq ?_
      refine aW hΓ fun K' hK=>?_
      simp only[go_sem,ai pz,ak,an,tV]
      repeat (refine⟨au,?_⟩)
      refine hK _ ?_
      clear K' hK
      simp only[go_sem]
      refine⟨i4+1,pz,by(show (rets (bg r)).length-(i4+1)<(rets (bg r)).length-i4;omega),?_⟩
      refine bh [1,2,11,12,14,18,19] [[1,0],[2,0],[11,0],[14,0],[77,0],[108,0],[116,0],[161,0],[187,0],[195,0],[254,0]] ?_ ?_<;>simp only[go_sem,bc pz OS,be,hf,sS,uN,sR,uM,List.map_append,List.map_cons,List.map_nil,List.length_append,List.length_cons,List.length_nil]
    ·have abd:i4=(rets (bg r)).length:=by
      have :¬ (i4:Int)<(rets (bg r)).length:=by simpa using hb
      omega
     clear hb
     subst abd
     repeat refine sq ?_
     refine bN ?_
     simp only[go_sem]
     refine kp [1,2,14,18] [[1,0],[2,0],[14,0],[161,0],[187,0],[195,0],[254,0]] ?_
     simp only[Wn]
     refine bQ (pU [14,0] [187,0] 2 _ _ _ _ rfl rfl rfl (by first | rfl | (simp only[List.length_map];done)) [1,2,14,18] [[1,0],[2,0],[14,0],[161,0],[187,0],[195,0],[254,0]] ?_ rfl) ?_
     ·simp only[go_sem,List.set_cons_succ,List.set_cons_zero]
     simp only[go_sem,List.set_cons_succ,List.set_cons_zero]
     refine bQ (dV 18 (.msl [195,0] (cF (db r)).length) (by simp only[go_sem]) (by simp only[go_sem]) [1,2,14,18] [[1,0],[2,0],[14,0],[161,0],[187,0],[195,0],[254,0]] ?_ rfl) ?_
     ·simp only[go_sem]
     simp only[go_sem]
     repeat refine sq ?_
     refine rx hΓ [1,2,14,18,20] [[1,0],[2,0],[14,0],[20,0],[161,0],[187,0],[195,0],[254,0]] (fun K' hK=>by simp only[go_sem,WM];(repeat (refine⟨by first | exact au | exact OX,?_⟩));exact iz) ?_
     refine bQ (nX [14,0] [254,0] 3 7 _ rfl rfl rfl [1,2,14,18,20] [[1,0],[2,0],[14,0],[20,0],[161,0],[187,0],[195,0],[254,0]] ?_ rfl) ?_
     ·simp only[go_sem,List.set_cons_succ,List.set_cons_zero]
     simp only[go_sem,List.set_cons_succ,List.set_cons_zero]
     repeat refine sq ?_
     refine rx hΓ [1,2,14,18,20,21] [[1,0],[2,0],[14,0],[20,0],[161,0],[187,0],[195,0],[254,0]] (fun K' hK=>by simp only[go_sem];exact aq) ?_
     repeat refine sq ?_
     refine aR ?_
     repeat refine sq ?_
     refine cp (fun s:Nat=>[(21,⟨true,.v (vInt s)⟩)]) (fun s=>[([14,0],.box [.v (.sl ((l0 r).ps.map cW)),.v (.sl ((cq r).map encR)),.v (.sl ((rets (db r)).map encT)),.msl [254,0] (lU r s).length]),([254,0],.arr 7 ((lU r s).map encS))]) (fun s=>s<=(nS r)) (fun s=>(nS r)-s) 0 ?_ ?_ ?_ ?_
     ·exact Nat.zero_le _
     ·rfl
     ·rfl
     rintro i5 hi
     simp only[go_sem]
     repeat refine sq ?_
     refine rx hΓ [1,2,14,18,20,21,206] [[1,0],[2,0],[14,0],[20,0],[161,0],[187,0],[195,0],[254,0]] (fun K' hK=>by simp only[go_sem];exact aq) ?_
     repeat refine sq ?_
     refine aC (fun hb=>?_) fun hb=>?_
     ·repeat refine sq ?_
      have BP:i5<nS r:=by simp at hb;unfold nS;omega
      have yS:i5<r.ss.length:=by have h:=BP;unfold nS at h;omega
      have GG:(i5:Int)<r.ss.length:=by omega
      have h6:i5<6:=by have h:=BP;unfold nS at h;omega
      have e6:r5 r.ss i5=r.ss[i5]:=cj yS
      have m3:=cY (n:=r.ss[i5].b) (m:=3) (by decide)
      have qw:0<=aP r.ss[i5].b 3:=m3.1
      have oI:(mps.length:Int)=3:=rfl
      have fO:aP r.ss[i5].b 3<((l0 r).ps.length:Int):=by rw[Mo];omega
      have uh:((l0 r).ps.map cW).getD (aP r.ss[i5].b 3).toNat default=cW (bH r.ss[i5].b):=by
       rw[Mo]
       have hl:(aP r.ss[i5].b 3).toNat<mps.length:=by omega
       rw[ai hl];unfold bH;rw[cj hl]
      obtain⟨-,l1,l2,p1,p2⟩:=qe (rJ r.ss[i5].b)
      have ml:=cY (n:=r.ss[i5].c) (m:=(bH r.ss[i5].b).lv) (by omega)
      have tu:IntKind.i64.wrap (3*(i5:Int))=3*(i5:Int):=wrap_i64 (by omega) (by omega)
      have FO:IntKind.i64.wrap (3*(i5:Int)+3)=3*(i5:Int)+3:=wrap_i64 (by omega) (by omega)
      have yu:IntKind.i64.wrap (1+aP r.ss[i5].c (bH r.ss[i5].b).lv)=1+aP r.ss[i5].c (bH r.ss[i5].b).lv:=wrap_i64 (by omega) (by omega)
      have wt:=Ar r i5
      have eS:lU r (i5+1)=lU r i5++[⟨3*(i5:Int)+3,iY (aY (bR r) 900) ⟨(bH r.ss[i5].b).id,1+aP r.ss[i5].c (bH r.ss[i5].b).lv⟩ (cF (db r)) (aP r.ss[i5].d 200),(bH r.ss[i5].b).id,1+aP r.ss[i5].c (bH r.ss[i5].b).lv,aP r.ss[i5].d 200,aP r.ss[i5].e 300,0⟩]:=by
       unfold lU
       rw[List.range_succ,List.map_append]
       show _++[fK r i5]=_
       unfold fK
       rw[e6];rfl
      refine aF ?_
      repeat refine sq ?_
      refine aR ?_
      repeat refine sq ?_
      refine rx hΓ [1,2,14,18,20,21,22] [[1,0],[2,0],[14,0],[20,0],[22,0],[161,0],[187,0],[195,0],[254,0]] (fun K' hK=>by simp only[go_sem,ai yS,GG,ak,an,List.length_map];exact aq) ?_
      repeat refine sq ?_
      refine dx hΓ hP [[],[0],[],[2],[2,3],u5,u6,[],u8] [1,2,14,18,20,21,22,23] [[1,0],[2,0],[14,0],[20,0],[22,0],[23,0],[161,0],[187,0],[195,0],[254,0]] (by kernel_rfl) (fun K' hK=>by simp only[go_sem,Int.cast_ofNat_Int,Int.reduceToNat,Int.toNat_zero,Int.toNat_one,Nat.reduceMul,Nat.zero_mul,Nat.one_mul,List.getD_cons_succ,List.getD_cons_zero,uh,qw,fO,List.length_map];(repeat (refine⟨by first | exact au | exact⟨by decide,by decide⟩,?_⟩));exact fJ) ?_
      repeat refine sq ?_
      refine dx hΓ hP [[],[0],[0,1],[],[3],[],[5],[],[7],[5,6,7,8],[5,6,7,8,9],[],[11],[5,6,7,8,9,11,12],[],[14],[5,6,7,8,9,11,12,13,14,15],nZ,[],nY] [1,2,14,18,20,21,24] [[1,0],[2,0],[14,0],[20,0],[24,0],[161,0],[187,0],[195,0],[254,0]] (by kernel_rfl) (fun K' hK=>by simp only[go_sem,Int.cast_ofNat_Int,Int.reduceToNat,Int.toNat_zero,Int.toNat_one,Nat.reduceMul,Nat.zero_mul,Nat.one_mul,List.getD_cons_succ,List.getD_cons_zero,tu,FO,yu];(repeat (refine⟨by first | exact au | exact⟨by decide,by decide⟩ | exact⟨by omega,by omega⟩,?_⟩));exact fJ) ?_
      repeat refine sq ?_
      refine rx hΓ [1,2,14,18,20,21,24] [[1,0],[2,0],[14,0],[20,0],[24,0],[161,0],[187,0],[195,0],[254,0]] (fun K' hK=>by simp only[go_sem];(repeat (refine⟨by first | exact au | exact⟨D5 OX 900,by rw[nC];show _=(br _ _ _).length;rw[lS];exact(hS _).symm⟩,?_⟩));exact iz) ?_
      repeat refine sq ?_
      refine aW hΓ fun K' hK=>?_
      simp only[go_sem]
      repeat (refine⟨by first | exact au | exact⟨rfl,by rw[wt];omega,by rw[wt];unfold maxLen;omega⟩,?_⟩)
      refine hK _ ?_
      clear K' hK
      simp only[go_sem]
      refine kp [1,2,14,18,20,21] [[1,0],[2,0],[14,0],[20,0],[161,0],[187,0],[195,0],[254,0]] ?_
      repeat refine sq ?_
      refine aW hΓ fun K' hK=>?_
      simp only[go_sem]
      repeat (refine⟨au,?_⟩)
      refine hK _ ?_
      clear K' hK
      simp only[go_sem]
      refine⟨i5+1,BP,by(show (nS r)-(i5+1)<(nS r)-i5;omega),?_⟩
      refine bh [1,2,14,18,20,21] [[1,0],[2,0],[14,0],[20,0],[161,0],[187,0],[195,0],[254,0]] ?_ ?_<;>simp only[go_sem,bc BP aaY,be,eS,List.map_append,List.length_append,List.map_cons,List.map_nil,List.length_cons,List.length_nil]
     ·repeat refine sq ?_
      have abb:i5=nS r:=by
       simp at hb
       have h:=hi
       unfold nS at h |-
       omega
      subst abb
      refine bN ?_
      simp only[go_sem]
      refine kp [2,14,18] [[2,0],[14,0],[161,0],[187,0],[195,0],[254,0]] ?_
      repeat refine sq ?_
      refine rx hΓ [2,3] [[2,0],[161,0],[187,0],[195,0],[254,0]] (fun K' hK=>by simp only[go_sem];exact aq) ?_
      refine aB ?_
      simp only[go_sem]
      first | rfl | trace_state
end
end
theorem ace{α:Type}(p:α->Bool)(l:List α):l.find? p=if dK p l<0 then none else l[(dK p l).toNat]?:=by
 unfold dK
 by_cases h:l.any p=true
 ·rw[if_pos h]
  have ae:l.findIdx p<l.length:=List.findIdx_lt_length_of_exists (by obtain⟨x,hx,hp⟩:=List.any_eq_true.1 h;exact⟨x,hx,hp⟩)
  rw[if_neg (by omega),Int.toNat_natCast,List.getElem?_eq_getElem ae]
  exact List.find?_eq_some_iff_getElem.2 ⟨List.findIdx_getElem (w:=ae),_,ae,rfl,fun j hj=>by simpa using List.not_of_lt_findIdx hj⟩
 ·rw[if_neg h,if_pos (by omega)]
  rw[List.find?_eq_none]
  intro x hx hp
  exact h (List.any_eq_true.2 ⟨x,hx,hp⟩)
theorem Em(l:Led)(k so:Int):cO (bq l k) so=if cw l so k<0 then none else some (av l (cw l so k).toNat):=by
 unfold cO bq
 rw[List.find?_filter]
 have e:(fun a:Rec=>decide (bF a.kn a.un k=true/\(a.so==so)=true))=fun r=>r.so==so&&bF r.kn r.un k:=by
  funext a
  cases bF a.kn a.un k<;>cases (a.so==so)<;>rfl
 rw[e,ace]
 show (if cw l so k<0 then none else l.rs[(cw l so k).toNat]?)=_
 rcases vF l so k with h | ⟨j,hj,h,-⟩
 ·rw[h];rfl
 ·rw[h,if_neg (by omega),if_neg (by omega),Int.toNat_natCast,cT hj,List.getElem?_eq_getElem hj]
theorem Jw(l:Led)(k:Int){s j:Nat}(h:s<l.ts.length):(br l k (s+1)).getD j false=if j=s then gL l k (br l k s) s else(br l k s).getD j false:=by
 rw[<-Jx l k h]
 by_cases hj:j=s
 ·subst hj
  rw[if_pos rfl,List.getD_eq_getElem?_getD,List.getElem?_set_self (by rw[lS];exact h)]
  rfl
 ·rw[if_neg hj,List.getD_eq_getElem?_getD,List.getElem?_set_ne (by omega),<-List.getD_eq_getElem?_getD]
theorem xr{l:Led}{k:Int}{s j:Nat}(h:(br l k s).getD j false=true):j<s:=(xt l k h).1
structure Di (l:Led) (k:Int) (s:Nat):Prop where
 ts:∀ j:Nat,(br l k s).getD j false=true↔(j:Int)∈(aE l k s).ts
 tn:(aE l k s).ts.Nodup
 tl:∀ j∈(aE l k s).ts,0<=j/\j<s
 bk1:∀ so f i,bb (aE l k s).bk (so,f)=some i->∃ j:Nat,i=j/\(br l k s).getD j false=true/\(aG l j).re=so/\f∈(aG l j).lv
 bk2:∀ j:Nat,(br l k s).getD j false=true->∀ f∈(aG l j).lv,bb (aE l k s).bk ((aG l j).re,f)=some (j:Int)
 ds:∀ j:Nat,(br l k s).getD j false=true->aL (aE l k s).ds j=(bO (aG l j).lo ((mS (bq l k) (aG l j).re).da+1),(aG l j).hi)
theorem zw(d:Ds)(i j:Int)(v:Int×Int):aL (oW d i v) j=if i=j then v else aL d j:=by
 induction d with
 |nil=>rfl
 |cons e r ih=>
  obtain⟨k,x⟩:=e
  simp only[oW]
  by_cases h:k=i
  ·rw[if_pos h]
   subst h
   simp only[aL]
   split<;>rfl
  ·rw[if_neg h]
   simp only[aL,ih]
   by_cases h2:k=j
   ·subst h2
    rw[if_pos rfl,if_pos rfl,if_neg (fun e=>h e.symm)]
   ·rw[if_neg h2,if_neg h2]
theorem adV{l:Led}{k:Int}{s:Nat}(h:Di l k s)(x:Ret)(f:Int):(bb (aE l k s).bk (x.re,f)).isSome=!kh (n8 l (br l k s) x f) s:=by
 cases hb:bb (aE l k s).bk (x.re,f)with
 |none=>
  have :kh (n8 l (br l k s) x f) s=true:=by
   unfold kh
   rw[List.all_eq_true]
   intro j _
   unfold n8
   cases hj:((br l k s).getD j false&&(aG l j).re==x.re&&(aG l j).lv.contains f)with
   |false=>rfl
   |true=>
    simp only[Bool.and_eq_true,beq_iff_eq,List.contains_iff_mem]at hj
    have :=h.bk2 j hj.1.1 f hj.2
    rw[hj.1.2,hb]at this
    cases this
  rw[this];rfl
 |some i=>
  obtain⟨j,rfl,h1,h2,h3⟩:=h.bk1 _ _ _ hb
  have :kh (n8 l (br l k s) x f) s=false:=by
   unfold kh
   rw[List.all_eq_false]
   refine⟨j,List.mem_range.2 (xr h1),?_⟩
   unfold n8
   rw[h1,h2]
   simp[h3]
  rw[this];rfl
theorem EV{l:Led}{k:Int}{s:Nat}(h:Di l k s):gA k (bq l k) (aE l k s).bk (aG l s)=if gL l k (br l k s) s=true then some (av l (cw l (aG l s).re k).toNat)else none:=by
 unfold gA gL
 rw[Em]
 by_cases hx:cw l (aG l s).re k<0
 ·rw[if_pos hx,if_pos hx];rfl
 ·rw[if_neg hx,if_neg hx]
  have ll:(av l (cw l (aG l s).re k).toNat).so=(aG l s).re:=by
   rcases vF l (aG l s).re k with h | ⟨j,hj,h,hr⟩
   ·rw[h]at hx;exact absurd (by decide) hx
   ·rw[h,Int.toNat_natCast,cT hj]
    unfold jr at hr
    simp only[Bool.and_eq_true,beq_iff_eq]at hr
    exact hr.1
  have jz:((aG l s).lv.any fun f=>(bb (aE l k s).bk ((av l (cw l (aG l s).re k).toNat).so,f)).isSome||!(av l (cw l (aG l s).re k).toNat).lv.contains f)=!(aG l s).lv.all (pr l (br l k s) s (av l (cw l (aG l s).re k).toNat) (aG l s)):=by
   rw[ll,List.not_all_eq_any_not]
   congr 1
   funext f
   rw[adV h]
   unfold pr
   rw[Bool.not_and,Bool.or_comm]
  show (if (bF (aG l s).kn (aG l s).un k&&!(decide (bO (aG l s).lo ((av l (cw l (aG l s).re k).toNat).da+1)>(aG l s).hi)||(aG l s).lv.any fun f=>(bb (aE l k s).bk ((av l (cw l (aG l s).re k).toNat).so,f)).isSome||!(av l (cw l (aG l s).re k).toNat).lv.contains f))=true then _ else _)=_
  rw[jz]
  unfold ny
  cases bF (aG l s).kn (aG l s).un k<;>cases decide (bO (aG l s).lo ((av l (cw l (aG l s).re k).toNat).da+1)>(aG l s).hi)<;>cases (aG l s).lv.all (pr l (br l k s) s (av l (cw l (aG l s).re k).toNat) (aG l s))<;>rfl
theorem Ak(l:Led)(k:Int):∀ s,s<=l.ts.length->Di l k s
 | 0,_=>by
   have hf:∀ j,¬ (br l k 0).getD j false=true:=fun j h=>absurd (xr h) (Nat.not_lt_zero j)
   exact⟨fun j=>⟨fun h=>(hf j h).elim,fun h=>(nomatch h)⟩,List.nodup_nil,fun j h=>(nomatch h),fun so f i h=>(nomatch h),fun j h=>(hf j h).elim,fun j h=>(hf j h).elim⟩
 |s+1,hs=>by
  have ih:=Ak l k s (by omega)
  have hn:=EV ih
  have dq:=fun j=>Jw l k (s:=s) (j:=j) (by omega)
  by_cases hb:gL l k (br l k s) s=true
  ·rw[if_pos hb]at hn
   have e:=A' hn
   obtain⟨qs,-,-,yz⟩:=LK hn
   obtain⟨OJ,cg⟩:=ry qs
   have oG:mS (bq l k) (aG l s).re=av l (cw l (aG l s).re k).toNat:=by unfold mS;rw[qs];rfl
   generalize av l (cw l (aG l s).re k).toNat=r at *
   have iq:∀ f∈(aG l s).lv,bb (aE l k s).bk (r.so,f)=none:=fun f hf=>by
    have :=List.any_eq_false.1 yz f hf
    unfold jl at this
    simp only[Bool.or_eq_true,not_or,Option.isSome_iff_ne_none,ne_eq,Decidable.not_not]at this
    exact this.1
   rw[hb]at dq
   have qq:∀ j:Nat,(br l k (s+1)).getD j false=true↔(j:Int)∈(aE l k (s+1)).ts:=fun j=>by
    rw[dq,e]
    show _↔(j:Int)∈(aE l k s).ts++[(s:Int)]
    rw[List.mem_append,List.mem_singleton]
    by_cases hj:j=s
    ·subst hj;simp
    ·rw[if_neg hj,ih.ts j]
     constructor
     ·exact .inl
     ·rintro(h | h)
      ·exact h
      ·exact(hj (by omega)).elim
   refine⟨qq,?_,?_,?_,?_,?_⟩
   ·rw[e]
    refine List.nodup_append.2 ⟨ih.tn,by simp,fun a ha b dg qB=>?_⟩
    have :=ih.tl a ha
    simp only[List.mem_singleton]at dg
    omega
   ·intro j hj
    rw[e]at hj
    rcases List.mem_append.1 hj with hj | hj
    ·have:=ih.tl j hj;omega
    ·simp only[List.mem_singleton]at hj;omega
   ·intro so f i h
    rw[e]at h
    simp only[CQ]at h
    split at h
    ·rename_i hc
     cases h
     refine⟨s,rfl,by rw[dq,if_pos rfl],?_,hc.2⟩
     rw[<-cg];exact hc.1.symm
    ·obtain⟨j,rfl,h1,h2,h3⟩:=ih.bk1 so f i h
     have :=xr h1
     exact⟨j,rfl,by rw[dq,if_neg (by omega)];exact h1,h2,h3⟩
   ·intro j h1 f hf
    rw[dq]at h1
    rw[e]
    simp only[CQ]
    by_cases hj:j=s
    ·subst hj
     rw[if_pos ⟨cg.symm,hf⟩]
    ·rw[if_neg hj]at h1
     have h4:=ih.bk2 j h1 f hf
     rw[if_neg,h4]
     rintro⟨h5,h6⟩
     have :=iq f h6
     rw[<-h5,h4]at this
     cases this
   ·intro j h1
    rw[dq]at h1
    rw[e]
    show aL (oW (aE l k s).ds s (bO (aG l s).lo (r.da+1),(aG l s).hi)) j=_
    rw[zw]
    by_cases hj:j=s
    ·subst hj
     rw[if_pos rfl,oG]
    ·rw[if_neg hj]at h1
     rw[if_neg (by omega)]
     exact ih.ds j h1
  ·rw[if_neg hb]at hn
   have e:=v5 hn
   have e2:br l k (s+1)=br l k s:=Ai l k (by simpa using hb)
   exact⟨by rw[e,e2];exact ih.ts,by rw[e];exact ih.tn,fun j hj=>by rw[e]at hj;have:=ih.tl j hj;omega,by rw[e,e2];exact ih.bk1,by rw[e,e2];exact ih.bk2,by rw[e,e2];exact ih.ds⟩
theorem gx(l:Led)(k:Int):Di l k l.ts.length:=Ak l k _ (Nat.le_refl _)
theorem vH(l:Led)(k:Int)(i:Nat)(f:Int):dp (aY l k) i f=(bb (aj l k).bk ((av l i).so,f)).getD (-1):=by
 have hi:=gx l k
 show _=(bb (aE l k l.ts.length).bk ((av l i).so,f)).getD (-1)
 cases hb:bb (aE l k l.ts.length).bk ((av l i).so,f)with
 |none=>
  refine Kn fun m _ hm=>?_
  show jO (aY l k) (av l i).so f m=false
  rw[Bool.eq_false_iff]
  intro h
  unfold jO at h
  simp only[Bool.and_eq_true,beq_iff_eq,List.contains_iff_mem]at h
  have h1:(br l k l.ts.length).getD m false=true:=h.1.1
  have :=hi.bk2 m h1 f h.2
  have h2:(aG l m).re=(av l i).so:=h.1.2
  rw[h2,hb]at this
  cases this
 |some q=>
  obtain⟨j,rfl,h1,h2,h3⟩:=hi.bk1 _ _ _ hb
  refine Ko (j:=j) ?_ ?_ ?_
  ·show j<(br l k l.ts.length).length
   rw[lS];exact xr h1
  ·show (((br l k l.ts.length).getD j false&&(aG l j).re==(av l i).so)&&(aG l j).lv.contains f)=true
   rw[h1,h2]
   simp[h3]
  ·intro m _ lx
   show jO (aY l k) (av l i).so f m=false
   rw[Bool.eq_false_iff]
   intro h
   unfold jO at h
   simp only[Bool.and_eq_true,beq_iff_eq,List.contains_iff_mem]at h
   have h4:(br l k l.ts.length).getD m false=true:=h.1.1
   have :=hi.bk2 m h4 f h.2
   have h5:(aG l m).re=(av l i).so:=h.1.2
   rw[h5,hb]at this
   have :(j:Int)=m:=Option.some.inj this
   omega
def xV(v:Int×Int)(da:Int)(os:List Rec):Int×Int:=os.foldl (fun v o=>if o.da>da then(bO v.1 0,dH v.2 o.da)else v) v
def nk(h da:Int)(os:List Rec):Int:=os.foldl (fun h o=>if o.da>da then dH h o.da else h) h
theorem Xj{v:Int×Int}{da:Int}(os:List Rec)(h:0<=v.1):xV v da os=(v.1,nk v.2 da os):=by
 induction os generalizing v with
 |nil=>rfl
 |cons o r ih=>
  show xV (if o.da>da then(bO v.1 0,dH v.2 o.da)else v) da r=(v.1,nk (if o.da>da then dH v.2 o.da else v.2) da r)
  by_cases hc:o.da>da
  ·rw[if_pos hc,if_pos hc]
   have :bO v.1 0=v.1:=by unfold bO;rw[if_neg (by omega)]
   rw[this]
   exact ih (v:=(v.1,dH v.2 o.da)) h
  ·rw[if_neg hc,if_neg hc,ih h]
theorem Xl(d:Ds)(i da:Int)(os:List Rec)(j:Int):aL (kD d i da os) j=if i=j then xV (aL d i) da os else aL d j:=by
 induction os generalizing d with
 |nil=>
  show aL d j=if i=j then aL d i else aL d j
  split
  ·rename_i h;rw[h]
  ·rfl
 |cons o r ih=>
  show aL (kD (if o.da>da then kE d i ⟨0,o.da⟩else d) i da r) j=if i=j then xV (if o.da>da then(bO (aL d i).1 0,dH (aL d i).2 o.da)else aL d i) da r else aL d j
  rw[ih]
  by_cases hc:o.da>da
  ·rw[if_pos hc,if_pos hc]
   unfold kE
   rw[zw,if_pos rfl,zw]
   by_cases bJ:i=j
   ·rw[if_pos bJ,if_pos bJ]
   ·rw[if_neg bJ,if_neg bJ,if_neg bJ]
  ·rw[if_neg hc,if_neg hc]
theorem Ch{ts:List Int}{m:Nat}(h:m<ts.length):ts.take (m+1)=ts.take m++[ts.getD m 0]:=by
 rw[List.take_add_one,List.getD_eq_getElem?_getD,List.getElem?_eq_getElem h];rfl
theorem Md(l:Led)(rs:List Rec)(ts:List Int)(d:Ds)(hn:ts.Nodup):∀ m,m<=ts.length->∀ j,aL (gP l rs ts d m) j=
 if j∈ts.take m then xV (aL d j) (mS rs (aG l j.toNat).re).da (dU rs (mS rs (aG l j.toNat).re).pa (aG l j.toNat).lv)else aL d j
 | 0,_,j=>by rw[if_neg (by simp)];rfl
 |m+1,hm,j=>by
  have ih:=Md l rs ts d hn m (by omega)
  rw[gP,Xl,Ch (by omega)]
  have BK:ts.getD m 0∉ts.take m:=by
   have h1:(ts.take (m+1)).Nodup:=hn.sublist (List.take_sublist _ _)
   rw[Ch (by omega)]at h1
   have :=(List.nodup_append.1 h1).2.2
   exact fun h=>this _ h _ (List.mem_singleton.2 rfl) rfl
  by_cases hj:ts.getD m 0=j
  ·subst hj
   rw[if_pos rfl,ih,if_neg BK,if_pos (by simp)]
  ·rw[if_neg hj,ih]
   have e:(j∈ts.take m++[ts.getD m 0])↔j∈ts.take m:=by
    rw[List.mem_append,List.mem_singleton]
    exact⟨fun h=>h.elim id fun h=>(hj h.symm).elim,.inl⟩
   simp only[e]
theorem XK(a b:Int):dH (dH a b) b=dH a b:=by
 unfold dH
 by_cases h:b<a
 ·rw[if_pos h,if_neg (by omega)]
 ·rw[if_neg h,if_neg h]
theorem So{α:Type}(c:Bool)(p:α->Bool)(l:List α):(l.any fun n=>c&&p n)=(c&&l.any p):=by cases c<;>simp
theorem RQ(x:RV)(r:Rec)(lv:List Int)(i:Nat)(hi:Int):∀ m,zB x r lv i hi m=if (List.range m).any (ya x r lv i)=true then dH hi (av x.l i).da else hi
 | 0=>rfl
 |m+1=>by
  rw[zB,RQ x r lv i hi m,List.range_succ,List.any_append]
  by_cases h1:(List.range m).any (ya x r lv i)=true
  ·rw[h1,if_pos rfl,Bool.true_or,if_pos rfl,XK]
   split<;>rfl
  ·rw[if_neg h1]
   have fZ:(List.range m).any (ya x r lv i)=false:=by simpa using h1
   rw[fZ]
   simp only[List.any_cons,List.any_nil,Bool.or_false,Bool.false_or]
theorem adS{α:Type}(p:α->Bool)(lv:List α)(d:α):((List.range lv.length).any fun j=>p (lv.getD j d))=lv.any p:=by
 rw[Bool.eq_iff_iff,List.any_eq_true,List.any_eq_true]
 constructor
 ·rintro⟨j,hj,hp⟩
  have eW:j<lv.length:=by simpa using hj
  rw[cj eW]at hp
  exact⟨_,List.getElem_mem eW,hp⟩
 ·rintro⟨a,ha,hp⟩
  obtain⟨j,hj,rfl⟩:=List.getElem_of_mem ha
  exact⟨j,by simpa using hj,by rw[cj hj];exact hp⟩
def yQ(k:Int)(r:Rec)(lv:List Int)(o:Rec):Bool:=decide (o.da>r.da)&&(bF o.kn o.un k&&iv r.pa lv o)
theorem IC(a b:List Int):(a.any fun n=>b.contains n)=b.any fun n=>a.contains n:=by
 rw[Bool.eq_iff_iff,List.any_eq_true,List.any_eq_true]
 constructor<;>(rintro⟨n,h1,h2⟩;exact⟨n,List.contains_iff_mem.1 h2,List.contains_iff_mem.2 h1⟩)
theorem XB(x:RV)(r:Rec)(lv:List Int)(i:Nat):(List.range lv.length).any (ya x r lv i)=yQ x.k r lv (av x.l i):=by
 have :=adS (fun n=>decide ((av x.l i).da>r.da)&&ee x.k ⟨r.pa,n⟩ (av x.l i)) lv 0
 refine this.trans ?_
 unfold yQ iv
 rw[So,IC]
 congr 1
 show (lv.any fun n=>(bF (av x.l i).kn (av x.l i).un x.k&&(av x.l i).pa==r.pa)&&(av x.l i).lv.contains n)=_
 rw[So,Bool.and_assoc]
theorem RP(x:RV)(r:Rec)(t:Ret):∀ m,m<=x.l.rs.length->uT x r t m=(x.l.rs.take m).foldl (fun h o=>if yQ x.k r t.lv o=true then dH h o.da else h) t.hi
 | 0,_=>rfl
 |m+1,hm=>by
  rw[uT,RQ,XB,RP x r t m (by omega),List.take_add_one,List.getElem?_eq_getElem (by omega),List.foldl_append,cT (by omega)]
  rfl
theorem RO(l:Led)(k:Int)(r:Rec)(t:Ret):uT (aY l k) r t l.rs.length=nk t.hi r.da (dU (bq l k) r.pa t.lv):=by
 have h:=RP (aY l k) r t l.rs.length (Nat.le_refl _)
 refine h.trans ?_
 show (l.rs.take l.rs.length).foldl _ _=_
 rw[List.take_length]
 unfold nk dU bq
 rw[List.foldl_filter,List.foldl_filter]
 congr 1
 funext h o
 show (if yQ k r t.lv o=true then dH h o.da else h)=_
 unfold yQ
 by_cases h1:bF o.kn o.un k=true
 ·rw[if_pos h1]
  by_cases h2:iv r.pa t.lv o=true
  ·rw[if_pos h2,h1,h2];simp
  ·rw[if_neg h2];simp[h2]
 ·rw[if_neg h1];simp[h1]
theorem Ju{l:Led}{k:Int}{row:List Bool}{i:Nat}(h:gL l k row i=true):∃ q,∃ hq:q<l.rs.length,cw l (aG l i).re k=(q:Int)/\jr (aG l i).re k l.rs[q]=true:=by
 rcases vF l (aG l i).re k with h2 | ⟨q,hq,h2,h3⟩
 ·exact absurd (by rw[h2];decide) (JA h)
 ·exact⟨q,hq,h2,h3⟩
theorem RJ{l:Led}(aa:bw l)(k:Int){j:Nat}(h:(br l k l.ts.length).getD j false=true):uS (aY l k) j=⟨(aL (aj l k).ds j).1,(aL (aj l k).ds j).2⟩:=by
 have hi:=gx l k
 obtain⟨eV,kI⟩:=xt l k h
 obtain⟨q,hq,hx,hr⟩:=Ju kI
 have qs:mS (bq l k) (aG l j).re=av l q:=by
  unfold mS
  rw[Em,hx,if_neg (by omega),Int.toNat_natCast];rfl
 have wE:0<=(av l q).da:=by rw[cT hq];exact(AW aa (List.getElem_mem hq)).1
 have h1:aL (aj l k).ds j=(bO (aG l j).lo ((av l q).da+1),nk (aG l j).hi (av l q).da (dU (bq l k) (av l q).pa (aG l j).lv)):=by
  show aL (gP l (bq l k) (aE l k l.ts.length).ts (aE l k l.ts.length).ds (aE l k l.ts.length).ts.length) j=_
  rw[Md _ _ _ _ hi.tn _ (Nat.le_refl _),List.take_length,if_pos ((hi.ts j).1 h),hi.ds j h,Int.toNat_natCast,qs]
  exact Xj _ (by show 0<=bO _ _;unfold bO;split<;>omega)
 rw[h1]
 unfold uS
 rw[if_pos (show (aY l k).ts.getD j false=true from h)]
 show (⟨ny (aG l j) (av l (cw l (aG l j).re k).toNat),uT (aY l k) (av l (cw l (aG l j).re k).toNat) (aG l j) l.rs.length⟩:Rg)=_
 rw[hx,Int.toNat_natCast,RO]
 rfl
theorem Lx{k:Int}{r:Rec}{f:Int}(hc:bF r.kn r.un k=true)(hf:f∈r.lv):ee k ⟨r.pa,f⟩ r=true:=by
 unfold ee;simp[hc,hf]
theorem Q5{l:Led}{k:Int}{i j:Nat}(hi:bF (av l i).kn (av l i).un k=true)(hj:bF (av l j).kn (av l j).un k=true):lK (aY l k) i j=sr (aj l k) (av l i) (av l j):=by
 unfold lK sr
 show (av l i).lv.any _=_
 rw[Bool.eq_iff_iff,List.any_eq_true,List.any_eq_true]
 have hb:∀ f∈(av l i).lv,wY (aY l k) i j f=(((av l i).pa==(av l j).pa&&(av l j).lv.contains f)&&((av l i).da==(av l j).da||match bb (aj l k).bk ((av l i).so,f)with
  |none=>true
  |some q=>decide (bO (aG (aj l k).l q.toNat).lo ((av l i).da+1)>(av l j).da))):=fun f hf=>by
  unfold wY
  rw[vH]
  show ((ee k ⟨(av l i).pa,f⟩ (av l i)&&ee k ⟨(av l i).pa,f⟩ (av l j))&&(((av l i).da==(av l j).da||decide ((bb (aj l k).bk ((av l i).so,f)).getD (-1)<0))||decide (ny (aG l ((bb (aj l k).bk ((av l i).so,f)).getD (-1)).toNat) (av l i)>(av l j).da)))=_
  rw[Lx hi hf]
  have h2:ee k ⟨(av l i).pa,f⟩ (av l j)=((av l i).pa==(av l j).pa&&(av l j).lv.contains f):=by
   unfold ee
   rw[hj,Bool.true_and]
   congr 1
   rw[Bool.eq_iff_iff,beq_iff_eq,beq_iff_eq]
   exact eq_comm
  rw[h2,Bool.true_and]
  congr 1
  cases aM:bb (aj l k).bk ((av l i).so,f)with
  |none=>simp
  |some q=>
   have hq:0<=q:=by
    obtain⟨m,rfl,-⟩:=(gx l k).bk1 _ _ _ aM
    omega
   have hl:(aj l k).l=l:=(qj l k l.ts.length).1
   simp only[Option.getD_some,hl,ny]
   have :decide (q<0)=false:=by simpa using hq
   rw[this,Bool.or_false]
   rfl
 constructor
 ·rintro⟨f,hf,h⟩;exact⟨f,hf,(hb f hf).symm.trans h⟩
 ·rintro⟨f,hf,h⟩;exact⟨f,hf,(hb f hf).trans h⟩
theorem HQ(l:Led)(k:Int)(a m:Nat):jd (aY l k) a m=if (av l a).da>(av l m).da then lK (aY l k) m a else lK (aY l k) a m:=rfl
theorem HR{l:Led}{k:Int}{i j:Nat}(hi:bF (av l i).kn (av l i).un k=true)(hj:bF (av l j).kn (av l j).un k=true):jd (aY l k) i j=gH (aj l k) (av l i) (av l j):=by
 unfold jd gH
 show (if (av l i).da>(av l j).da then lK (aY l k) j i else lK (aY l k) i j)=_
 rw[Q5 hi hj,Q5 hj hi]
theorem Q6{l:Led}{k:Int}{i j:Nat}(h:lK (aY l k) i j=true):bF (av l i).kn (av l i).un k=true/\bF (av l j).kn (av l j).un k=true:=by
 unfold lK at h
 obtain⟨f,-,h⟩:=List.any_eq_true.1 h
 unfold wY ee at h
 simp only[Bool.and_eq_true]at h
 exact⟨h.1.1.1.1,h.1.2.1.1⟩
theorem HS{l:Led}{k:Int}{i j:Nat}(h:jd (aY l k) i j=true):bF (av l i).kn (av l i).un k=true/\bF (av l j).kn (av l j).un k=true:=by
 unfold jd at h
 split at h
 ·exact(Q6 h).symm
 ·exact Q6 h
theorem CA(x:RV):gd x=none↔∀ a,a<x.l.rs.length->∀ m,a<m->m<x.l.rs.length->jd x a m=false:=by
 refine⟨fun h a ha m h1 h2=>?_,Q7⟩
 unfold gd at h
 rw[List.findSome?_eq_none_iff]at h
 have :=h a (List.mem_range.2 ha)
 unfold wZ at this
 rw[Option.map_eq_none_iff,List.find?_eq_none]at this
 have :=this m (List.mem_range.2 h2)
 simpa[h1]using this
theorem Wx(x:Vw):ew x=none↔x.rs.Pairwise fun a b=>gH x a b=false:=by
 rw[List.pairwise_iff_getElem]
 constructor
 ·intro h i j hi hj bJ
  unfold ew at h
  rw[List.findSome?_eq_none_iff]at h
  have :=h i (List.mem_range.2 hi)
  unfold ou at this
  rw[Option.map_eq_none_iff,List.find?_eq_none]at this
  have hm:x.rs[j]∈x.rs.drop (i+1):=by
   rw[List.mem_iff_getElem]
   exact⟨j-(i+1),by rw[List.length_drop];omega,by rw[List.getElem_drop];congr 1;omega⟩
  have h2:=this _ hm
  rw[cj hi]at h2
  simpa using h2
 ·intro h
  refine EA fun i hi=>AP hi fun m hm=>?_
  rw[List.length_drop]at hm
  rw[List.getElem_drop]
  exact h i (i+1+m) hi (by omega) (by omega)
theorem K0(l:Led)(k:Int):ew (aj l k)=none↔gd (aY l k)=none:=by
 rw[Wx,CA]
 have cg:(aj l k).rs=bq l k:=(qj l k l.ts.length).2
 rw[cg]
 unfold bq
 rw[List.pairwise_filter,List.pairwise_iff_getElem]
 constructor
 ·intro h a ha m h1 h2
  show jd (aY l k) a m=false
  rw[Bool.eq_false_iff]
  intro hd
  have kP:=hd
  obtain⟨c1,c2⟩:=HS hd
  rw[HR c1 c2]at kP
  have zf:a<l.rs.length:=ha
  have qE:m<l.rs.length:=h2
  rw[cT zf]at c1 kP
  rw[cT qE]at c2 kP
  rw[h a m zf qE h1 c1 c2]at kP
  cases kP
 ·intro h i j hi hj bJ c1 c2
  have :=h i hi j bJ hj
  rw[<-cT hi]at c1 |-
  rw[<-cT hj]at c2 |-
  rw[HR c1 c2]at this
  exact this
theorem Xm{l:Led}{k:Int}(h:gd (aY l k)=none)(f:Fol){i j:Nat}(bJ:i<j)(hj:j<l.rs.length)(h1:ee k f (av l i)=true)(h2:ee k f (av l j)=true):(av l i).da≠(av l j).da:=by
 intro he
 have :=(CA _).1 h i (by show i<l.rs.length;omega) j bJ hj
 rw[HQ,if_neg (show ¬ (av l i).da>(av l j).da by omega)]at this
 unfold lK at this
 have hf:f.le∈(av l i).lv:=by unfold ee at h1;simp at h1;exact h1.2
 have hp:(av l i).pa=f.pa:=by unfold ee at h1;simp at h1;exact h1.1.2
 have h3:=List.any_eq_false.1 this f.le hf
 apply h3
 unfold wY
 show ((ee k ⟨(av l i).pa,f.le⟩ (av l i)&&ee k ⟨(av l i).pa,f.le⟩ (av l j))&&(((av l i).da==(av l j).da||_)||_))=true
 rw[hp]
 have e:(⟨f.pa,f.le⟩:Fol)=f:=rfl
 rw[e,h1,h2,he]
 simp
theorem at_last{l:Led}{k:Int}(h:gd (aY l k)=none)(f:Fol)(day:Int):∀ s,s<=l.rs.length->
 (gl (aY l k) f day s= -1/\((l.rs.take s).filter (ee k f)).foldl (o0 day) none=none)\/
   ∃ q,q<s/\gl (aY l k) f day s=(q:Int)/\ee k f (av l q)=true/\((l.rs.take s).filter (ee k f)).foldl (o0 day) none=some (av l q)
 | 0,_=>.inl ⟨rfl,rfl⟩
 |s+1,hs=>by
  have ih:=at_last h f day s (by omega)
  have i6:s<l.rs.length:=by omega
  have e1:l.rs.take (s+1)=l.rs.take s++[av l s]:=by
   rw[List.take_add_one,List.getElem?_eq_getElem i6,cT i6];rfl
  rw[e1,List.filter_append]
  have e2:gl (aY l k) f day (s+1)=if ((ee k f (av l s)&&decide ((av l s).da<=day))&&(decide (gl (aY l k) f day s<0)||decide ((av l s).da>(av l (gl (aY l k) f day s).toNat).da)))=true then(s:Int)else gl (aY l k) f day s:=rfl
  rw[e2]
  cases ho:ee k f (av l s)with
  |false=>
   rw[show [av l s].filter (ee k f)=[]by simp[ho],List.append_nil]
   simp only[Bool.false_and,Bool.false_eq_true,if_false]
   rcases ih with h | ⟨q,h1,h2⟩
   ·exact .inl h
   ·exact .inr ⟨q,by omega,h2⟩
  |true=>
   rw[show [av l s].filter (ee k f)=[av l s]by simp[ho],List.foldl_append]
   simp only[List.foldl_cons,List.foldl_nil,Bool.true_and]
   rcases ih with⟨h1,h2⟩ | ⟨q,h1,h2,h3,h4⟩
   ·rw[h1,h2]
    unfold o0
    by_cases hd:(av l s).da<=day
    ·exact .inr ⟨s,by omega,by simp[hd],ho,by simp[hd]⟩
    ·exact .inl ⟨by simp[hd],by simp[hd]⟩
   ·rw[h2,h4,Int.toNat_natCast]
    have aH:=Xm h f h1 i6 h3 ho
    unfold o0
    have py:¬ (q:Int)<0:=by omega
    by_cases hd:(av l s).da<=day
    ·by_cases hg:(av l s).da>(av l q).da
     ·refine .inr ⟨s,by omega,by simp[hd,hg],ho,?_⟩
      have :(av l s).da>=(av l q).da:=by omega
      simp[hd,this]
     ·refine .inr ⟨q,by omega,by simp[hg,py],h3,?_⟩
      have :¬ (av l s).da>=(av l q).da:=by omega
      simp[this]
    ·exact .inr ⟨q,by omega,by simp[hd],h3,by simp[hd]⟩
theorem Tm(l:Led)(k pa le:Int):dU (bq l k) pa [le]=l.rs.filter (ee k ⟨pa,le⟩):=by
 unfold dU bq
 rw[List.filter_filter]
 congr 1
 funext r
 unfold iv ee
 rw[IC]
 simp only[List.any_cons,List.any_nil,Bool.or_false]
 cases bF r.kn r.un k<;>cases (r.pa==pa)<;>cases r.lv.contains le<;>rfl
theorem Mn{l:Led}{k:Int}(h:gd (aY l k)=none)(f:Fol)(day:Int):
 (ez (aY l k) f day= -1/\eo (bq l k) f.pa f.le day=none)\/∃ q,q<l.rs.length/\ez (aY l k) f day=(q:Int)/\ee k f (av l q)=true/\eo (bq l k) f.pa f.le day=some (av l q):=by
 have h1:=at_last h f day l.rs.length (Nat.le_refl _)
 rw[List.take_length]at h1
 unfold eo
 rw[Tm]
 exact h1
def eY(l:Led)(k:Int)(j:Nat):Prop:=(br l k l.ts.length).getD j false=true
def Rel(l:Led)(k:Int)(d:List Rg)(D:Ds):Prop:=d.length=l.ts.length/\∀ j:Nat,eY l k j->dO d j=⟨(aL D j).1,(aL D j).2⟩/\0<=(aL D j).1/\(aL D j).2<=100000
def pR(l:Led)(k:Int)(D:Ds):Prop:=∀ j:Nat,eY l k j->(aL D j).1<=(aL D j).2
theorem sL{l:Led}{k:Int}{j:Nat}(h:eY l k j):j<l.ts.length:=xr h
theorem Hs(l:Led)(k:Int)(D:Ds):wL (aj l k).ts D=true↔pR l k D:=by
 have hi:=gx l k
 unfold wL pR eY
 rw[List.all_eq_true]
 show (∀ i∈(aE l k l.ts.length).ts,_)↔_
 constructor
 ·intro h j hj
  have :=h j ((hi.ts j).1 hj)
  simpa using this
 ·intro h i hm
  have hb:=hi.tl i hm
  obtain⟨j,rfl⟩:∃ j:Nat,i=j:=⟨i.toNat,by omega⟩
  simpa using h j ((hi.ts j).2 hm)
theorem Ik{l:Led}{k so f i:Int}(h:bb (aj l k).bk (so,f)=some i):∃ j:Nat,i=j/\eY l k j:=by
 obtain⟨j,e,h1,-⟩:=(gx l k).bk1 _ _ _ h
 exact⟨j,e,h1⟩
theorem Kk{d:List Rg}{i:Nat}{r:Rg}(h:i<d.length)(j:Nat):dO (d.set i r) j=if i=j then r else dO d j:=by
 unfold dO
 rw[List.getD_eq_getElem?_getD,List.getElem?_set]
 by_cases bJ:i=j
 ·subst bJ
  simp[h]
 ·rw[if_neg bJ,if_neg bJ,List.getD_eq_getElem?_getD]
theorem qf(l:Led)(k:Int):(aj l k).rs=bq l k:=(qj l k l.ts.length).2
theorem Kt{l:Led}{k:Int}{d:List Rg}{D:Ds}(h:Rel l k d D){j:Nat}(hj:eY l k j)(r w:Rg)
 (h1:w=⟨bO (aL D j).1 r.lo,dH (aL D j).2 r.hi⟩):Rel l k (d.set j w) (kE D j r)/\(pR l k (kE D j r)↔(w.lo<=w.hi/\pR l k D)):=by
 have ft:j<d.length:=by rw[h.1];exact sL hj
 have e:∀ i:Nat,aL (kE D j r) i=if j=i then(w.lo,w.hi)else aL D i:=fun i=>by
  unfold kE
  rw[zw,h1]
  by_cases bJ:j=i
  ·subst bJ;rw[if_pos rfl,if_pos rfl]
  ·rw[if_neg (by omega),if_neg bJ]
 have ir:(aL D j).1<=w.lo:=by rw[h1];show _<=bO _ _;unfold bO;split<;>omega
 have Gj:w.hi<=(aL D j).2:=by rw[h1];show dH _ _<=_;unfold dH;split<;>omega
 refine⟨⟨by rw[List.length_set];exact h.1,fun i hi=>?_⟩,?_⟩
 ·rw[Kk ft,e]
  by_cases bJ:j=i
  ·subst bJ
   rw[if_pos rfl,if_pos rfl]
   have :=h.2 j hj
   exact⟨rfl,by show 0<=w.lo;omega,by show w.hi<=_;omega⟩
  ·rw[if_neg bJ,if_neg bJ];exact h.2 i hi
 ·constructor
  ·intro hf
   have eW:=hf j hj
   rw[e,if_pos rfl]at eW
   refine⟨eW,fun i hi=>?_⟩
   by_cases bJ:j=i
   ·subst bJ
    have :w.lo<=w.hi:=eW
    omega
   ·have:=hf i hi
    rw[e,if_neg bJ]at this
    exact this
  ·rintro⟨hw,hf⟩ i hi
   rw[e]
   by_cases bJ:j=i
   ·rw[if_pos bJ];exact hw
   ·rw[if_neg bJ];exact hf i hi
theorem W5{l:Led}(aa:bw l){k:Int}(h0:gd (aY l k)=none){d:List Rg}{D:Ds}(h:Rel l k d D)(s:Sig):
 Rel l k (iH (aY l k) d s).1 (gG (aj l k) D s)/\(((iH (aY l k) d s).2=true/\pR l k D)↔(eR (aj l k) s=true/\pR l k (gG (aj l k) D s))):=by
 have cg:=qf l k
 rcases Mn h0 ⟨s.pa,s.le⟩ s.da with⟨e1,e2⟩ | ⟨q,hq,e1,-,e2⟩
 ·have wQ:eo (aj l k).rs s.pa s.le s.da=none:=by rw[cg];exact e2
  rw[W9 e1]
  have hw:bd (aj l k) s=if s.pe=0 then(-1,cH)else(-1,cI):=by unfold bd;rw[wQ]
  have hf:gG (aj l k) D s=D:=by unfold gG;rw[hw];split<;>rfl
  have hm:eR (aj l k) s=(s.pe==0):=by
   unfold eR;rw[hw]
   by_cases hp:s.pe=0
   ·rw[if_pos hp,hp];rfl
   ·rw[if_neg hp]
    have :(s.pe==0)=false:=by simpa using hp
    rw[this];rfl
  rw[hf,hm]
  exact⟨h,Iff.rfl⟩
 ·have wQ:eo (aj l k).rs s.pa s.le s.da=some (av l q):=by rw[cg];exact e2
  have zb:1<=(av l q).bo:=by
   rw[cT hq]
   have :=aa.recs _ (List.getElem_mem hq)
   unfold dP bL at this
   simp only[Bool.and_eq_true,decide_eq_true_eq]at this
   exact this.1.1.1.1.2.1
  have fq:=vH l k q s.le
  cases aM:bb (aj l k).bk ((av l q).so,s.le)with
  |none=>
   rw[aM]at fq
   rw[W7 e1 fq]
   have hw:bd (aj l k) s=if s.pe=(av l q).bo then(-1,cH)else(-1,cI):=by unfold bd;rw[wQ];simp only[aM]
   have hf:gG (aj l k) D s=D:=by unfold gG;rw[hw];split<;>rfl
   have hm:eR (aj l k) s=(s.pe==(av l q).bo):=by
    unfold eR;rw[hw]
    by_cases hp:s.pe=(av l q).bo
    ·rw[if_pos hp,hp,beq_self_eq_true];rfl
    ·rw[if_neg hp]
     have :(s.pe==(av l q).bo)=false:=by simpa using hp
     rw[this];rfl
   rw[hf,hm]
   exact⟨h,Iff.rfl⟩
  |some i=>
   obtain⟨j,rfl,hj⟩:=Ik aM
   rw[aM]at fq
   have FY:dp (aY l k) q s.le=(j:Int):=fq
   have hw:bd (aj l k) s=if s.pe=0 then((j:Int),(⟨0,s.da⟩:Rg))else if s.pe=(av l q).bo then((j:Int),(⟨s.da+1,100000⟩:Rg))else(-1,cI):=by unfold bd;rw[wQ];simp only[aM]
   obtain⟨dS,eH,hr3⟩:=h.2 j hj
   have cK:(j:Int)>=0:=by omega
   by_cases nh:s.pe=0
   ·have yL:(s.pe==(av l q).bo)=false:=by rw[beq_eq_false_iff_ne];omega
    rw[Xe e1 FY yL (by rw[nh];rfl)]
    have hf:gG (aj l k) D s=kE D j ⟨0,s.da⟩:=by unfold gG;rw[hw,if_pos nh];exact if_pos cK
    have hm:eR (aj l k) s=true:=by unfold eR;rw[hw,if_pos nh];simp
    rw[hf,hm]
    obtain⟨g1,g2⟩:=Kt h hj ⟨0,s.da⟩ ⟨(dO d j).lo,dH (dO d j).hi s.da⟩ (by rw[dS];show (⟨(aL D j).1,dH (aL D j).2 s.da⟩:Rg)=⟨bO (aL D j).1 0,dH (aL D j).2 s.da⟩;unfold bO;rw[if_neg (by omega)])
    refine⟨g1,?_⟩
    rw[g2]
    simp
   ·by_cases wv:s.pe=(av l q).bo
    ·have yL:(s.pe==(av l q).bo)=true:=by rw[beq_iff_eq];exact wv
     rw[Xb e1 FY yL]
     have hf:gG (aj l k) D s=kE D j ⟨s.da+1,100000⟩:=by unfold gG;rw[hw,if_neg nh,if_pos wv];exact if_pos cK
     have hm:eR (aj l k) s=true:=by unfold eR;rw[hw,if_neg nh,if_pos wv];simp
     rw[hf,hm]
     obtain⟨g1,g2⟩:=Kt h hj ⟨s.da+1,100000⟩ ⟨bO (dO d j).lo (s.da+1),(dO d j).hi⟩ (by rw[dS];show (⟨bO (aL D j).1 (s.da+1),(aL D j).2⟩:Rg)=⟨bO (aL D j).1 (s.da+1),dH (aL D j).2 100000⟩;unfold dH;rw[if_neg (by omega)])
     refine⟨g1,?_⟩
     rw[g2]
     simp
    ·have yL:(s.pe==(av l q).bo)=false:=by rw[beq_eq_false_iff_ne];exact wv
     rw[Xa e1 FY yL (by rw[beq_eq_false_iff_ne];exact nh)]
     have hf:gG (aj l k) D s=D:=by unfold gG;rw[hw,if_neg nh,if_neg wv];rfl
     have hm:eR (aj l k) s=false:=by unfold eR;rw[hw,if_neg nh,if_neg wv];rfl
     rw[hf,hm]
     exact⟨h,by simp⟩
theorem JP(l:Led)(k:Int):∀ n,n<=l.ss.length->(xC (aY l k) n).map (fun i=>gM l i.toNat)=(l.ss.take n).filter fun s=>bF s.kn s.un k
 | 0,_=>rfl
 |n+1,hn=>by
  rw[xC,List.take_add_one,List.getElem?_eq_getElem (by omega),List.filter_append,<-JP l k n (by omega)]
  have e:gM (aY l k).l n=l.ss[n]'(by omega):=JG (l:=l) (by omega)
  rw[e]
  show (if bF _ _ k=true then _ else _:List Int).map _=_
  by_cases hc:bF (l.ss[n]'(by omega)).kn (l.ss[n]'(by omega)).un k=true
  ·rw[if_pos hc,List.map_append]
   simp only[Option.toList,List.filter_cons,hc,if_true,List.filter_nil,List.map_cons,List.map_nil,Int.toNat_natCast,JG (show n<l.ss.length by omega)]
  ·rw[if_neg hc]
   simp[hc]
theorem Ua(l:Led)(k:Int):(xD l k).map (fun i=>gM l i.toNat)=du l k:=by
 unfold xD du
 rw[JP l k _ (Nat.le_refl _),List.take_length]
theorem QQ{l:Led}(aa:bw l){k:Int}(h0:gd (aY l k)=none){D0:Ds}(hD:D0=(aj l k).ds)(hr:Rel l k (qL (aY l k) l.ts.length) D0)(hf:pR l k D0)(is:List Int):∀ m,m<=is.length->
 Rel l k (nz (aY l k) is m).1 (cl (aj l k) D0 ((is.take m).map fun i=>gM l i.toNat))/\
  ((nz (aY l k) is m).2=true↔(((is.take m).map fun i=>gM l i.toNat).all (eR (aj l k))=true/\pR l k (cl (aj l k) D0 ((is.take m).map fun i=>gM l i.toNat))))
 | 0,_=>⟨hr,⟨fun _=>⟨rfl,hf⟩,fun _=>rfl⟩⟩
 |m+1,hm=>by
  obtain⟨i1,i2⟩:=QQ aa h0 hD hr hf is m (by omega)
  have e:(is.take (m+1)).map (fun i=>gM l i.toNat)=(is.take m).map (fun i=>gM l i.toNat)++[gM l (is.getD m 0).toNat]:=by
   rw[Ch (by omega),List.map_append];rfl
  rw[e,List.all_append,nz]
  have e2:cl (aj l k) D0 ((is.take m).map (fun i=>gM l i.toNat)++[gM l (is.getD m 0).toNat])=gG (aj l k) (cl (aj l k) D0 ((is.take m).map fun i=>gM l i.toNat)) (gM l (is.getD m 0).toNat):=by
   unfold cl
   rw[List.foldl_append];rfl
  rw[e2]
  obtain⟨s1,s2⟩:=W5 aa h0 i1 (gM l (is.getD m 0).toNat)
  refine⟨s1,?_⟩
  show ((nz (aY l k) is m).2&&(iH (aY l k) (nz (aY l k) is m).1 (gM l (is.getD m 0).toNat)).2)=true↔_
  rw[Bool.and_eq_true,i2,Bool.and_eq_true]
  simp only[List.all_cons,List.all_nil,Bool.and_true]
  constructor
  ·rintro⟨⟨a,b⟩,c⟩
   obtain⟨d1,d2⟩:=s2.1 ⟨c,b⟩
   exact⟨⟨a,d1⟩,d2⟩
  ·rintro⟨⟨a,b⟩,c⟩
   obtain⟨d1,d2⟩:=s2.2 ⟨b,c⟩
   exact⟨⟨a,d2⟩,d1⟩
theorem aa8(b h da:Int)(os:List Rec)(h1:b<=h)(h2:∀ o∈os,o.da>da->b<=o.da):b<=nk h da os:=by
 induction os generalizing h with
 |nil=>exact h1
 |cons o r ih=>
  show b<=nk (if o.da>da then dH h o.da else h) da r
  refine ih _ ?_ fun o' h'=>h2 o' (by simp[h'])
  split
  ·rename_i hc
   have :=h2 o (by simp) hc
   unfold dH
   split<;>omega
  ·exact h1
theorem aa7(h da:Int)(os:List Rec):nk h da os<=h:=by
 induction os generalizing h with
 |nil=>exact Int.le_refl _
 |cons o r ih=>
  show nk (if o.da>da then dH h o.da else h) da r<=h
  refine Int.le_trans (ih _) ?_
  split
  ·unfold dH;split<;>omega
  ·exact Int.le_refl _
theorem HI{l:Led}(aa:bw l){k:Int}{j:Nat}(h:eY l k j):∃ q,∃ hq:q<l.rs.length,cw l (aG l j).re k=(q:Int)/\jr (aG l j).re k (av l q)=true/\
 aL (aj l k).ds j=(ny (aG l j) (av l q),nk (aG l j).hi (av l q).da (dU (bq l k) (av l q).pa (aG l j).lv)):=by
 obtain⟨eV,kI⟩:=xt l k h
 obtain⟨q,hq,hx,hr⟩:=Ju kI
 refine⟨q,hq,hx,by rw[cT hq];exact hr,?_⟩
 have e:=RJ aa k h
 unfold uS at e
 rw[if_pos (show (aY l k).ts.getD j false=true from h)]at e
 have e':(⟨ny (aG l j) (av l (cw l (aG l j).re k).toNat),uT (aY l k) (av l (cw l (aG l j).re k).toNat) (aG l j) l.rs.length⟩:Rg)=⟨(aL (aj l k).ds j).1,(aL (aj l k).ds j).2⟩:=e
 rw[hx,Int.toNat_natCast,RO]at e'
 injection e' with a b
 exact Prod.ext a.symm b.symm
theorem adu{l:Led}(aa:bw l)(k:Int):Rel l k (qL (aY l k) l.ts.length) (aj l k).ds:=by
 refine⟨RK _ _,fun j hj=>?_⟩
 have ft:=sL hj
 obtain⟨q,hq,-,-,hd⟩:=HI aa hj
 refine⟨?_,?_,?_⟩
 ·have:dO (qL (aY l k) l.ts.length) j=uS (aY l k) j:=by
    unfold dO qL
    rw[List.getD_eq_getElem?_getD,List.getElem?_map,List.getElem?_range ft];rfl
  rw[this]
  exact RJ aa k hj
 ·rw[hd]
  have :0<=(av l q).da:=by rw[cT hq];exact(AW aa (List.getElem_mem hq)).1
  show 0<=bO _ _
  unfold bO;split<;>omega
 ·rw[hd]
  refine Int.le_trans (aa7 _ _ _) ?_
  have e:aG l j=l.ts[j]:=cj ft
  have :=lN aa.ts ft
  unfold jQ dayB bL at this
  simp only[Bool.and_eq_true,decide_eq_true_eq]at this
  rw[e]
  exact this.1.2.2
theorem RT{l:Led}(aa:bw l){k:Int}(h0:gd (aY l k)=none):pR l k (aj l k).ds:=by
 intro j hj
 obtain⟨q,hq,hx,hr,hd⟩:=HI aa hj
 obtain⟨eV,kI⟩:=xt l k hj
 rw[hd]
 unfold gL at kI
 rw[if_neg (by rw[hx];omega),hx,Int.toNat_natCast]at kI
 simp only[Bool.and_eq_true,Bool.not_eq_true',decide_eq_false_iff_not,List.all_eq_true]at kI
 obtain⟨⟨-,ai0⟩,kL⟩:=kI
 refine aa8 _ _ _ _ (by omega) fun o ho wE=>?_
 unfold dU bq at ho
 simp only[List.mem_filter]at ho
 obtain⟨⟨hol,yF⟩,oL⟩:=ho
 obtain⟨m,hm,rfl⟩:=List.getElem_of_mem hol
 rw[<-cT hm]at yF oL wE |-
 unfold iv at oL
 rw[IC]at oL
 simp only[Bool.and_eq_true,List.any_eq_true,beq_iff_eq]at oL
 obtain⟨lr,f,PB,GM⟩:=oL
 have BX:=kL f PB
 unfold pr at BX
 simp only[Bool.and_eq_true,List.contains_iff_mem]at BX
 unfold jr at hr
 simp only[Bool.and_eq_true,beq_iff_eq]at hr
 have aH:m≠q:=fun e=>by subst e;omega
 have lC:lK (aY l k) q m=false:=by
  rcases Nat.lt_or_gt_of_ne aH with ae | Pz
  ·have:=(CA _).1 h0 m hm q ae hq
   rw[HQ,if_pos (show (av l m).da>(av l q).da from wE)]at this
   exact this
  ·have:=(CA _).1 h0 q hq m Pz hm
   rw[HQ,if_neg (show ¬ (av l q).da>(av l m).da by omega)]at this
   exact this
 unfold lK at lC
 have h3:=List.any_eq_false.1 lC f BX.1
 unfold wY at h3
 have h4:dp (aY l k) q f=(j:Int):=by
  rw[vH]
  have :=(gx l k).bk2 j hj f PB
  rw[<-hr.1]at this
  show (bb (aE l k l.ts.length).bk ((av l q).so,f)).getD (-1)=_
  rw[this];rfl
 rw[h4]at h3
 have e1:ee (aY l k).k ⟨(av (aY l k).l q).pa,f⟩ (av (aY l k).l q)=true:=Lx hr.2 BX.1
 have e2:ee (aY l k).k ⟨(av (aY l k).l q).pa,f⟩ (av (aY l k).l m)=true:=by
  show ee k ⟨(av l q).pa,f⟩ (av l m)=true
  unfold ee
  simp[yF,lr,List.contains_iff_mem.1 GM]
 rw[e1,e2,Int.toNat_natCast]at h3
 simp only[Bool.true_and,Bool.or_eq_true,decide_eq_true_eq,not_or]at h3
 exact Int.not_lt.1 h3.2
theorem QR{l:Led}(aa:bw l){k:Int}(h0:gd (aY l k)=none):Rel l k (lI l k).1 (aN (aj l k) k).ds/\(lI l k).2=fI (aj l k) (du l k):=by
 have h:=QQ aa h0 rfl (adu aa k) (RT aa h0) (xD l k) _ (Nat.le_refl _)
 rw[List.take_length,Ua]at h
 have hs:(aN (aj l k) k).ds=cl (aj l k) (aj l k).ds (du l k):=by
  unfold aN;rw[jW]
 rw[hs]
 refine⟨h.1,?_⟩
 rw[Bool.eq_iff_iff]
 unfold fI
 rw[Bool.and_eq_true,Hs]
 exact h.2
theorem vB{l:Led}(aa:bw l)(k:Int):oc l k=eS l k:=by
 unfold oc eS
 rw[jW]
 cases hp:ew (aj l k)with
 |none=>
  have h0:=(K0 l k).1 hp
  rw[h0,(QR aa h0).2]
  cases fI (aj l k) (du l k)<;>rfl
 |some p=>
  have h0:gd (aY l k)≠none:=fun h=>by rw[(K0 l k).2 h]at hp;cases hp
  have :(gd (aY l k)).isSome=true:=by rw[Option.isSome_iff_ne_none];exact h0
  rw[this]
  rfl
theorem Ao{l:Led}(aa:bw l){k:Int}(h:eS l k=0):gd (aY l k)=none/\Ap l k={ aY l k with ds:=(lI l k).1 }/\Rel l k (lI l k).1 (aN (aj l k) k).ds/\pR l k (aN (aj l k) k).ds:=by
 have hs:oc l k=0:=by rw[vB aa];exact h
 have h0:gd (aY l k)=none:=by
  unfold oc at hs
  split at hs
  ·cases hs
  ·rename_i hn
   simpa using hn
 have hd:(lI l k).2=true:=by
  unfold oc at hs
  rw[h0]at hs
  cases hb:(lI l k).2 with
  |true=>rfl
  |false=>rw[hb]at hs;cases hs
 obtain⟨h1,h2⟩:=QR aa h0
 refine⟨h0,by unfold Ap;rw[if_pos hs],h1,?_⟩
 rw[h2]at hd
 unfold fI at hd
 rw[Bool.and_eq_true,Hs]at hd
 have e:(aN (aj l k) k).ds=cl (aj l k) (aj l k).ds (du l k):=by
  unfold aN;rw[jW]
 rw[e];exact hd.2
noncomputable section
def aeM:List (Nat×Spec):=[]
attribute [go_sem] aeM
def aeL:List (Nat×Spec):=[(71,Dk)]
attribute [go_sem] aeL
def aeK:List (Nat×Spec):=[(73,xh)]
attribute [go_sem] aeK
end
noncomputable section
def K76:List (Nat×Spec):=[]
attribute [go_sem] K76
end
noncomputable section
def K77:List (Nat×Spec):=[(75,o8),(121,S121),(122,S122)]
attribute [go_sem] K77
end
noncomputable section
def K78:List (Nat×Spec):=[(70,zP),(73,xh)]
attribute [go_sem] K78
end
def jU{α:Type}(p:α->α->Bool):List α->Option (α×α)
 |[]=>none
 |a::r=>match r.find? (p a)with
  |some b=>some (a,b)
  |none=>jU p r
theorem Ew{α:Type}{p:α->α->Bool}:∀ {L:List α},jU p L=none->∀ i j (hi:i<L.length) (hj:j<L.length),i<j->p L[i] L[j]=false
 |[],_,i,j,hi,_,_=>absurd hi (Nat.not_lt_zero i)
 |a::r,h,i,j,hi,hj,bJ=>by
  rw[jU]at h
  split at h
  ·cases h
  ·rename_i hf
   rw[List.find?_eq_none]at hf
   match i,j,bJ with
   | 0,j+1,_=>
     have :=hf (r[j]'(by simpa using hj)) (List.getElem_mem _)
     simpa using this
   |i+1,j+1,bJ=>exact Ew h i j (by simpa using hi) (by simpa using hj) (by omega)
theorem AL{α:Type}{p:α->α->Bool}:∀ {L:List α} {q:α×α},jU p L=some q->∃ i j,∃ (hi:i<L.length) (hj:j<L.length),i<j/\q=(L[i],L[j])/\p L[i] L[j]=true/\
 (∀ m (hm:m<L.length),i<m->m<j->p L[i] L[m]=false)/\∀ a (ha:a<L.length),a<i->∀ m (hm:m<L.length),a<m->p L[a] L[m]=false
 |[],q,h=>by cases h
 |a::r,q,h=>by
  rw[jU]at h
  split at h
  ·rename_i b hf
   cases h
   obtain⟨hp,j,hj,rfl,hn⟩:=List.find?_eq_some_iff_getElem.1 hf
   refine⟨0,j+1,by simp,by simpa using hj,by omega,rfl,hp,fun m hm h1 h2=>?_,fun a ha h=>by omega⟩
   obtain⟨m,rfl⟩:∃ m',m=m'+1:=⟨m-1,by omega⟩
   have :=hn m (by omega)
   simpa using this
  ·rename_i hf
   rw[List.find?_eq_none]at hf
   obtain⟨i,j,hi,hj,bJ,hq,hp,h1,h2⟩:=AL h
   refine⟨i+1,j+1,by simpa using hi,by simpa using hj,by omega,hq,hp,fun m hm h3 h4=>?_,fun a' ha h3 m hm h4=>?_⟩
   ·obtain⟨m,rfl⟩:∃ m',m=m'+1:=⟨m-1,by omega⟩
    exact h1 m (by simpa using hm) (by omega) (by omega)
   ·obtain⟨m,rfl⟩:∃ m',m=m'+1:=⟨m-1,by omega⟩
    match a',ha,h3,h4 with
    | 0,_,_,_=>
      have :=hf (r[m]'(by simpa using hm)) (List.getElem_mem _)
      simpa using this
    |a'+1,ha,h3,h4=>exact h2 a' (by simpa using ha) (by omega) m (by simpa using hm) (by omega)
theorem KU{α:Type}{p:α->α->Bool}{c:α->Bool}:∀ L:List α,jU p (L.filter c)=jU (fun a b=>c a&&(c b&&p a b)) L
 |[]=>rfl
 |a::r=>by
  have ih:=KU (p:=p) (c:=c) r
  by_cases hc:c a=true
  ·rw[List.filter_cons,if_pos hc,jU,jU,List.find?_filter,ih]
   have e:(fun b=>decide (c b=true/\p a b=true))=fun b=>c a&&(c b&&p a b):=by
    funext b
    rw[hc,Bool.true_and]
    cases c b<;>cases p a b<;>rfl
   rw[e]
  ·have iN:c a=false:=by simpa using hc
   rw[List.filter_cons,if_neg hc,ih,jU]
   have e:r.find? (fun b=>c a&&(c b&&p a b))=none:=by
    rw[List.find?_eq_none]
    intro b _
    rw[iN];simp
   rw[e]
theorem AO(x:Vw):ew x=(jU (gH x) x.rs).map fun q=>(q.1.so,q.2.so):=by
 cases h:jU (gH x) x.rs with
 |none=>
  refine EA fun i hi=>AP hi fun m hm=>?_
  rw[List.length_drop]at hm
  rw[List.getElem_drop]
  exact Ew h i (i+1+m) hi (by omega) (by omega)
 |some q=>
  obtain⟨i,j,hi,hj,bJ,rfl,hp,h1,h2⟩:=AL h
  have hjd:j-(i+1)<(x.rs.drop (i+1)).length:=by rw[List.length_drop];omega
  have ej:(x.rs.drop (i+1))[j-(i+1)]=x.rs[j]:=by rw[List.getElem_drop];congr 1;omega
  show ew x=some (x.rs[i].so,x.rs[j].so)
  rw[<-ej]
  refine K8 hi (fun a ha=>AP (by omega) fun m hm=>?_) (La hi hjd (fun m hm lx=>?_) (by rw[ej];exact hp))
  ·rw[List.length_drop]at hm
   rw[List.getElem_drop]
   exact h2 a (by omega) ha (a+1+m) (by omega) (by omega)
  ·rw[List.length_drop]at hm
   rw[List.getElem_drop]
   exact h1 (i+1+m) (by omega) (by omega) (by omega)
theorem acI(l:Led)(k:Int):gd (aY l k)=(jU (fun a b=>bF a.kn a.un k&&(bF b.kn b.un k&&gH (aj l k) a b)) l.rs).map fun q=>(q.1.so,q.2.so):=by
 have hQ:∀ i j (hi:i<l.rs.length) (hj:j<l.rs.length),jd (aY l k) i j=(bF l.rs[i].kn l.rs[i].un k&&(bF l.rs[j].kn l.rs[j].un k&&gH (aj l k) l.rs[i] l.rs[j])):=fun i j hi hj=>by
  rw[<-cT hi,<-cT hj]
  by_cases c1:bF (av l i).kn (av l i).un k=true
  ·by_cases c2:bF (av l j).kn (av l j).un k=true
   ·rw[HR c1 c2,c1,c2];rfl
   ·have:jd (aY l k) i j=false:=by
      rw[Bool.eq_false_iff];exact fun h=>c2 (HS h).2
    rw[this]
    have c2':bF (av l j).kn (av l j).un k=false:=by simpa using c2
    rw[c2'];simp
  ·have:jd (aY l k) i j=false:=by
     rw[Bool.eq_false_iff];exact fun h=>c1 (HS h).1
   rw[this]
   have c1':bF (av l i).kn (av l i).un k=false:=by simpa using c1
   rw[c1'];rfl
 cases h:jU (fun a b=>bF a.kn a.un k&&(bF b.kn b.un k&&gH (aj l k) a b)) l.rs with
 |none=>
  refine Q7 fun a ha m h1 h2=>?_
  have zf:a<l.rs.length:=ha
  have qE:m<l.rs.length:=h2
  rw[hQ a m zf qE]
  exact Ew h a m zf qE h1
 |some q=>
  obtain⟨i,j,hi,hj,bJ,rfl,hp,h1,h2⟩:=AL h
  have :=acH (x:=aY l k) (i:=i) (j:=j) hi bJ hj (by rw[hQ i j hi hj];exact hp) (fun m h3 h4=>by rw[hQ i m hi (by omega)];exact h1 m (by omega) h3 h4)
   (fun a ha m h3 h4=>by
     have Ce:m<l.rs.length:=h4
     rw[hQ a m (by omega) Ce];exact h2 a (by omega) ha m Ce h3)
  rw[this]
  show some ((av l i).so,(av l j).so)=_
  rw[cT hi,cT hj];rfl
theorem Ww(l:Led)(k:Int):ew (aj l k)=gd (aY l k):=by
 rw[AO,acI,qf]
 unfold bq
 rw[KU]
theorem Jy{l:Led}{k:Int}{s:Nat}:∀ n,s<n->n<=l.ts.length->(br l k n).getD s false=gL l k (br l k s) s
 | 0,h,_=>absurd h (Nat.not_lt_zero s)
 |n+1,h,hn=>by
  rw[Jw l k (by omega)]
  by_cases hs:s=n
  ·subst hs;rw[if_pos rfl]
  ·rw[if_neg hs];exact Jy n (by omega) (by omega)
noncomputable section
def K53:List (Nat×Spec):=[(71,Dk)]
attribute [go_sem] K53
end
noncomputable section
def K55:List (Nat×Spec):=[(15,qW)]
attribute [go_sem] K55
def aeT:List (Nat×Spec):=[]
attribute [go_sem] aeT
end
noncomputable section
def K56:List (Nat×Spec):=[(84,Dj)]
attribute [go_sem] K56
end
noncomputable section
def K57:List (Nat×Spec):=[(70,zP),(103,xi)]
attribute [go_sem] K57
end
theorem adI(l:Led)(ds:List Int):Iw l ds=cB l ds:=by
 unfold Iw cB mD
 cases h:p8 l with
 |false=>rfl
 |true=>
  have h0:(true=false)=False:=by simp
  rw[if_neg (by decide),if_pos (show gY true 24=0 from rfl)]
  have :(!ds.any fun d=>!dayB d)=ds.all dayB:=by
   rw[List.not_any_eq_all_not]
   simp
  rw[this]
  unfold gY
  rfl
theorem rk{l:Led}{k:Int}:fk l k=true↔eS l k=0:=by
 cases h:fk l k with
 |true=>exact⟨fun _=>(xy h).2.2,fun _=>rfl⟩
 |false=>
  refine⟨fun h=>(by cases h),fun h2=>?_⟩
  have :=(xz h).2.2
  rw[h2]at this
  cases this
theorem Ab{l:Led}(h:bw l){i j:Nat}(hi:i<l.ts.length)(hj:j<l.ts.length)(e:(aG l i).so=(aG l j).so):i=j:=by
 have hs:srt Ret.so l.ts:=sZ (jH.1 h.ts)
 have e1:aG l i=l.ts[i]:=cj hi
 have e2:aG l j=l.ts[j]:=cj hj
 rw[e1,e2]at e
 rcases Nat.lt_trichotomy i j with h1 | h1 | h1
 ·have:=hs i j hi hj h1;omega
 ·exact h1
 ·have:=hs j i hj hi h1;omega
noncomputable section
def xq(l:Led)(k:Int)(ds:List Int)(i:Int):Bool:=bL (ds.getD i.toNat 0) (aL (aN (aj l k) k).ds i).1 (aL (aN (aj l k) k).ds i).2
def n7(l:Led)(k:Int)(ds:List Int):Bool:=fk l k&&(decide (ds.length=l.ts.length)&&(ds.all dayB&&(aN (aj l k) k).ts.all (xq l k ds)))
def K60:List (Nat×Spec):=[(78,S78),(160,S160),(96,uZ)]
attribute [go_sem] K60
def lL(l:Led)(k:Int)(az:List Int):Int:=if cB l [k]=0 then gY (n7 l k az) 29 else cB l [k]
def aeS:List (Nat×Spec):=[(75,o8)]
attribute [go_sem] aeS
end
noncomputable section
def gi(x:Vw)(az:List Int)(pa day f:Int):Int:=match eo x.rs pa f day with
 |none=>0
 |some r=>match bb x.bk (r.so,f)with
  |none=>r.bo
  |some i=>if az.getD i.toNat 0>day then r.bo else 0
def K61:List (Nat×Spec):=[(75,o8),(79,zO),(76,S76),(119,S119)]
attribute [go_sem] K61
end
noncomputable section
def K63:List (Nat×Spec):=[(84,Dj),(73,xh),(74,IG)]
attribute [go_sem] K63
end
noncomputable section
def acm(w:List Int):V:=.sl (w.map vInt)
theorem aiR(L:List (List Int)):∀ y∈L.map acm,y.cells.length=1/\y.okc=true:=fun y hy=>by
 obtain⟨x,_,rfl⟩:=List.mem_map.1 hy
 exact⟨rfl,rfl⟩
def K65:List (Nat×Spec):=[]
attribute [go_sem] K65
end
noncomputable section
def K66:List (Nat×Spec):=[(15,qW),(24,II)]
attribute [go_sem] K66
end
def Bh(l:Led)(so:Int):Int:=dK (fun t=>t.so==so) l.ts
noncomputable section
def qP(x:Vw)(n:Nat):Nat->List Int
 | 0=>List.replicate n 0
 |m+1=>(qP x n m).set (x.ts.getD m 0).toNat (aL x.ds (x.ts.getD m 0)).1
theorem De(x:Vw)(n m:Nat):(qP x n m).length=n:=by
 induction m with
 |zero=>simp[qP]
 |succ m ih=>rw[qP,List.length_set,ih]
def xc(x:Vw)(n:Nat):List Int:=qP x n x.ts.length
def mE(l:Led)(so k:Int)(la:Bool):List Int:=if mz l so k=0 then(if la then(xc (aN (aj l k) k) l.ts.length).set (mP l so k).toNat (aL (aN (aj l k) k).ds (mP l so k)).2 else xc (aN (aj l k) k) l.ts.length)else[]
def K68:List (Nat×Spec):=[(97,SI),(78,S78)]
attribute [go_sem] K68
end
noncomputable section
def aeP:List (Nat×Spec):=[(80,S80)]
attribute [go_sem] aeP
end
noncomputable section
def K70:List (Nat×Spec):=[(75,o8),(85,SJ),(86,S86),(91,S91),(78,S78)]
attribute [go_sem] K70
end
theorem T3{l:Led}(aa:bw l){k:Int}:fk l k=decide (oc l k=0):=by
 rw[vB aa,Bool.eq_iff_iff,decide_eq_true_eq]
 exact rk
def NT(l:Led)(k:Int)(d:List Rg):Prop:=∀ j,j<l.ts.length->¬ eY l k j->dO d j=⟨0,100000⟩
theorem LD{l:Led}{k:Int}{d:List Rg}(h:NT l k d)(hl:d.length=l.ts.length){j:Nat}(hj:eY l k j)(w:Rg):NT l k (d.set j w):=by
 intro i hi ht
 rw[Kk (by rw[hl];exact sL hj)]
 rw[if_neg (fun (e:j=i)=>ht (by subst e;exact hj))]
 exact h i hi ht
theorem Xi{l:Led}{k:Int}{d:List Rg}(h:NT l k d)(hl:d.length=l.ts.length)(s:Sig):NT l k (iH (aY l k) d s).1:=by
 have aaJ:∀ q:Nat,¬ dp (aY l k) q s.le<0->∃ j:Nat,dp (aY l k) q s.le=j/\eY l k j:=fun q hq=>by
  rw[vH]at hq |-
  cases hb:bb (aj l k).bk ((av l q).so,s.le)with
  |none=>rw[hb]at hq;exact absurd (by decide) hq
  |some i=>
   obtain⟨j,rfl,hj⟩:=Ik hb
   exact⟨j,rfl,hj⟩
 unfold iH
 split
 ·exact h
 ·split
  ·exact h
  ·rename_i h1 h2
   obtain⟨j,e,hj⟩:=aaJ _ h2
   rw[e,Int.toNat_natCast]
   split
   ·exact LD h hl hj _
   ·split
    ·exact LD h hl hj _
    ·exact h
theorem ET(l:Led)(k:Int)(is:List Int):∀ s,NT l k (nz (aY l k) is s).1
 | 0=>by
   intro j hj ht
   show dO (qL (aY l k) l.ts.length) j=_
   unfold dO qL
   rw[List.getD_eq_getElem?_getD,List.getElem?_map,List.getElem?_range hj]
   show uS (aY l k) j=_
   unfold uS
   rw[if_neg (show ¬ (aY l k).ts.getD j false=true from ht)]
 |s+1=>Xi (ET l k is s) (acn _ _ _) _
theorem TL{l:Led}(aa:bw l)(k:Int)(az:List Int):n7 l k az=Ad l k az:=by
 unfold n7 Ad
 rw[T3 aa]
 by_cases hs:oc l k=0
 ·rw[decide_eq_true hs,Bool.true_and,Bool.true_and]
  by_cases hl:az.length=l.ts.length
  ·rw[decide_eq_true hl,Bool.true_and,Bool.true_and]
   have uo:eS l k=0:=by rw[<-vB aa];exact hs
   obtain⟨h0,hv,hr,oP⟩:=Ao aa uo
   have cM:NT l k (lI l k).1:=ET l k _ _
   have hi:=gx l k
   have qq:(aN (aj l k) k).ts=(aE l k l.ts.length).ts:=rfl
   rw[qq,Bool.eq_iff_iff,Bool.and_eq_true,List.all_eq_true,List.all_eq_true,Sr]
   have ht:∀ j,j<l.ts.length->Ah l k az j=bL (az.getD j 0) (dO (lI l k).1 j).lo (dO (lI l k).1 j).hi:=fun j _=>by unfold Ah;rw[hv]
   constructor
   ·rintro⟨h1,h2⟩ j hj
    rw[hl]at hj
    rw[ht j hj]
    by_cases hq:eY l k j
    ·rw[(hr.2 j hq).1]
     have :=h2 j ((hi.ts j).1 hq)
     unfold xq at this
     rw[Int.toNat_natCast]at this
     exact this
    ·rw[cM j hj hq]
     have eW:j<az.length:=by omega
     rw[cj eW]
     exact h1 _ (List.getElem_mem eW)
   ·intro h
    refine⟨fun d hd=>?_,fun i hm=>?_⟩
    ·obtain⟨j,hj,rfl⟩:=List.getElem_of_mem hd
     have :=h j hj
     rw[ht j (by omega),cj hj]at this
     by_cases hq:eY l k j
     ·obtain⟨g1,g2,g3⟩:=hr.2 j hq
      rw[g1]at this
      unfold bL at this
      unfold dayB bL
      simp only[Bool.and_eq_true,decide_eq_true_eq]at this |-
      omega
     ·rw[cM j (by omega) hq]at this
      exact this
    ·have hb:=hi.tl i hm
     obtain⟨j,rfl⟩:∃ j:Nat,i=j:=⟨i.toNat,by omega⟩
     have hq:=(hi.ts j).2 hm
     have :=h j (by omega)
     rw[ht j (by omega),(hr.2 j hq).1]at this
     unfold xq
     rw[Int.toNat_natCast]
     exact this
  ·rw[decide_eq_false hl];rfl
 ·rw[decide_eq_false hs];rfl
theorem Tp{l:Led}(aa:bw l){k:Int}(hs:oc l k=0)(az:List Int)(pa day f:Int):gi (aj l k) az pa day f=iY (aY l k) ⟨pa,f⟩ az day:=by
 obtain⟨h0,-⟩:=Ao aa (by rw[<-vB aa];exact hs)
 unfold gi iY
 rw[qf]
 show _=if ez (aY l k) ⟨pa,f⟩ day<0 then 0 else if (decide (dp (aY l k) (ez (aY l k) ⟨pa,f⟩ day).toNat f>=0)&&decide (az.getD (dp (aY l k) (ez (aY l k) ⟨pa,f⟩ day).toNat f).toNat 0<=day))=true then 0 else(av l (ez (aY l k) ⟨pa,f⟩ day).toNat).bo
 rcases Mn h0 ⟨pa,f⟩ day with⟨a1,a2⟩ | ⟨q,hq,a1,-,a2⟩
 ·have IF:eo (bq l k) pa f day=none:=a2
  rw[a1,IF];rfl
 ·have IF:eo (bq l k) pa f day=some (av l q):=a2
  rw[a1,IF,if_neg (by omega),Int.toNat_natCast,vH]
  simp only[]
  cases aM:bb (aj l k).bk ((av l q).so,f)with
  |none=>rfl
  |some i=>
   obtain⟨j,rfl,hj⟩:=Ik aM
   simp only[Option.getD_some,Int.toNat_natCast]
   have hg:decide ((j:Int)>=0)=true:=by simp
   simp only[hg,Bool.true_and]
   by_cases c:az.getD j 0>day
   ·rw[if_pos c,if_neg (by rw[decide_eq_true_eq];omega)]
   ·rw[if_neg c,if_pos (by rw[decide_eq_true_eq];omega)]
instance ahK (l:Led) (k:Int) (j:Nat):Decidable (eY l k j):=inferInstanceAs (Decidable ((br l k l.ts.length).getD j false=true))
theorem Sp{x:Vw}{n:Nat}(hx:∀ i∈x.ts,0<=i/\i<(n:Int)){j:Nat}(hj:j<n):∀ m,m<=x.ts.length->(qP x n m).getD j 0=if (j:Int)∈x.ts.take m then(aL x.ds j).1 else 0
 | 0,_=>by
   rw[qP,if_neg (by simp),List.getD_eq_getElem?_getD,List.getElem?_replicate]
   split<;>rfl
 |m+1,hm=>by
  have ih:=Sp hx hj m (by omega)
  have jv:x.ts.getD m 0∈x.ts:=by rw[cj (by omega)];exact List.getElem_mem _
  obtain⟨b0,b1⟩:=hx _ jv
  rw[qP,Ch (by omega),List.getD_eq_getElem?_getD,List.getElem?_set]
  by_cases he:(x.ts.getD m 0).toNat=j
  ·rw[if_pos he,De,if_pos (by omega)]
   have :x.ts.getD m 0=(j:Int):=by omega
   rw[this,if_pos (by simp)];rfl
  ·rw[if_neg he,<-List.getD_eq_getElem?_getD,ih]
   have e:((j:Int)∈x.ts.take m++[x.ts.getD m 0])↔(j:Int)∈x.ts.take m:=by
    rw[List.mem_append,List.mem_singleton]
    exact⟨fun h=>h.elim id fun h=>(he (by omega)).elim,.inl⟩
   simp only[e]
theorem at_val{l:Led}{so k:Int}(h:mz l so k=0)(la:Bool):∃ j:Nat,Bh l so=(j:Int)/\j<(mE l so k la).length/\(mE l so k la).getD j 0=(if la then(gI l so k).2 else(gI l so k).1)/\lL l k (mE l so k la)=0:=by
 have dA:jP l so k=0:=by
  unfold mz at h
  split at h
  ·assumption
  ·exact h
 have uo:eS l k=0:=by
  unfold mz at h
  rw[if_pos dA]at h
  exact h
 obtain⟨aa,hk⟩:=Kj dA
 have GW:cB l [k]=0:=by
  unfold jP at dA
  split at dA
  ·assumption
  ·exact dA
 obtain⟨h0,hv,hr,oP⟩:=Ao aa uo
 have hi:=gx l k
 have gC:=rk.2 uo
 have BA:gI l so k=aL (aN (aj l k) k).ds (mP l so k):=by unfold gI;rw[if_pos ⟨dA,gC⟩]
 have aaH:∃ j:Nat,mP l so k=j/\eY l k j/\(aG l j).so=so:=by
  have h2:=dA
  unfold jP at h2
  rw[if_pos GW]at h2
  unfold mP
  rw[if_pos GW]
  cases tI:rq l so k with
  |none=>rw[tI]at h2;cases h2
  |some i=>
   unfold rq at tI
   have hm:=List.mem_of_find?_eq_some tI
   have he:=List.find?_some tI
   have hb:=hi.tl i hm
   obtain⟨m,rfl⟩:∃ m:Nat,i=m:=⟨i.toNat,by omega⟩
   unfold eZ at he
   rw[Int.toNat_natCast,beq_iff_eq]at he
   exact⟨m,rfl,(hi.ts m).2 hm,he⟩
 obtain⟨j,ej,hj,ll⟩:=aaH
 have ft:=sL hj
 have hxm:∀ i∈(aN (aj l k) k).ts,0<=i/\i<(l.ts.length:Int):=hi.tl
 have zd:∀ m:Nat,m<l.ts.length->(xc (aN (aj l k) k) l.ts.length).getD m 0=if eY l k m then(aL (aN (aj l k) k).ds m).1 else 0:=fun m hm=>by
  unfold xc
  rw[Sp hxm hm _ (Nat.le_refl _),List.take_length]
  have :((m:Int)∈(aN (aj l k) k).ts)↔eY l k m:=(hi.ts m).symm
  simp only[this]
 have Cb:mE l so k la=if la then(xc (aN (aj l k) k) l.ts.length).set j (aL (aN (aj l k) k).ds j).2 else xc (aN (aj l k) k) l.ts.length:=by
  unfold mE
  rw[if_pos h,ej,Int.toNat_natCast]
 have hlen:(mE l so k la).length=l.ts.length:=by
  rw[Cb]
  split
  ·rw[List.length_set];exact De _ _ _
  ·exact De _ _ _
 have cV:∀ m:Nat,m<l.ts.length->(mE l so k la).getD m 0=if (la=true/\m=j)then(aL (aN (aj l k) k).ds j).2 else if eY l k m then(aL (aN (aj l k) k).ds m).1 else 0:=fun m hm=>by
  rw[Cb]
  cases la with
  |false=>
   rw[if_neg (by simp),if_neg (by simp)]
   exact zd m hm
  |true=>
   rw[if_pos rfl,List.getD_eq_getElem?_getD,List.getElem?_set]
   by_cases he:j=m
   ·subst he
    rw[if_pos rfl,if_pos (by show j<(qP _ _ _).length;rw[De];exact hm),if_pos ⟨rfl,rfl⟩];rfl
   ·rw[if_neg he,if_neg (fun h=>he h.2.symm),<-List.getD_eq_getElem?_getD]
    exact zd m hm
 refine⟨j,?_,by rw[hlen];exact ft,?_,?_⟩
 ·unfold Bh
  have e:aG l j=l.ts[j]:=cj ft
  refine oA ft (by rw[<-e,ll];exact beq_self_eq_true _) fun m hm lx=>?_
  rw[beq_eq_false_iff_ne]
  intro hh
  have e2:aG l m=l.ts[m]:=cj hm
  have :=Ab aa hm ft (by rw[e2,hh,ll])
  omega
 ·rw[cV j ft,BA,ej]
  cases la with
  |false=>rw[if_neg (by simp),if_pos hj];rfl
  |true=>rw[if_pos ⟨rfl,rfl⟩];rfl
 ·unfold lL
  rw[if_pos GW,TL aa]
  have :Ad l k (mE l so k la)=true:=by
   unfold Ad
   have hs:oc l k=0:=by rw[vB aa];exact uo
   rw[hs,hlen]
   simp only[decide_true,Bool.true_and]
   rw[Sr]
   intro m hm
   unfold Ah
   rw[cV m hm,hv]
   have cM:NT l k (lI l k).1:=ET l k _ _
   show bL _ (dO (lI l k).1 m).lo (dO (lI l k).1 m).hi=true
   unfold bL
   by_cases hq:eY l k m
   ·obtain⟨g1,g2,g3⟩:=hr.2 m hq
    have g4:=oP m hq
    rw[g1,if_pos hq]
    simp only[Bool.and_eq_true,decide_eq_true_eq]
    split
    ·rename_i hc
     have :m=j:=hc.2
     subst this
     omega
    ·omega
   ·rw[cM m hm hq,if_neg (fun (hc:la=true/\m=j)=>hq (by rw[hc.2];exact hj)),if_neg hq]
    decide
  rw[this];rfl
noncomputable section
def K91:List (Nat×Spec):=[]
attribute [go_sem] K91
end
end Go.Eng
set_option linter.unusedVariables false
namespace Go.Eng
open Go Go.Proofs Go.RowKit Go.Lib Go.Shelf
def zS:V:=.agg [.int .i64 0,.int .i64 0,.int .i64 0,.int .i64 0,.int .i64 0,.int .i64 0,.int .i64 0]
def Sw(obj:Name->Option O):List D->R
 |[.msl nm k,.v (.int .i64 i),.v (.int .i64 j)]=>match obj nm with
  |some (.arr sz l)=>⟨k=l.length/\sz=7/\0<=i/\j=i+1/\i.toNat<l.length,.v (.sl (l.eraseIdx i.toNat)),upd obj nm (some (.farr sz (l.eraseIdx i.toNat++[zS])))⟩
  |_=>.bad obj
 |_=>.bad obj
def QU:List D->List Name
 |[.msl nm _,_,_]=>[nm]
 |_=>[]
def aeo:Spec:=⟨fun obj _ ds=>Sw obj ds,fun _ _ ds=>QU ds,fun _ _ ds=>QU ds⟩
open Go Go.Proofs
set_option maxRecDepth 10000
noncomputable section
attribute [go_sem] aeo Sw
def K92:List (Nat×Spec):=[(75,o8),(121,S121),(122,S122),(108,zQ),(130,S0),(132,S132)]
attribute [go_sem] K92
end
theorem EI{α:Type}{fR:α->Bool}{num:α->Int}{l:List α}(h:jI fR num l=true):l.Pairwise fun a b=>num a<num b:=by
 have h:=jH.1 h
 rw[List.pairwise_iff_getElem]
 intro i j hi hj bJ
 induction j with
 |zero=>omega
 |succ j ih=>
  have h1:=(h (j+1) hj hj).2 (by omega)
  simp only[Nat.add_sub_cancel]at h1
  by_cases e:i=j
  ·subst e;exact h1
  ·exact Int.lt_trans (ih (by omega) (by omega)) h1
structure S4 (x:Vw) (d:Ds) (L:List Sig) (i:Int) (e:Int×Int):Prop where
 b1:(aL d i).1<=e.1
 b2:e.2<=(aL d i).2
 s1:∀ s∈L,(bd x s).1=i->(bd x s).2.lo<=e.1/\e.2<=(bd x s).2.hi
 a1:e.1=(aL d i).1\/∃ s∈L,(bd x s).1=i/\(bd x s).2.lo=e.1
 a2:e.2=(aL d i).2\/∃ s∈L,(bd x s).1=i/\(bd x s).2.hi=e.2
theorem TW(x:Vw)(d:Ds)(s:Sig)(i:Int):aL (gG x d s) i=if (bd x s).1=i/\0<=i then(bO (aL d i).1 (bd x s).2.lo,dH (aL d i).2 (bd x s).2.hi)else aL d i:=by
 unfold gG
 split
 ·unfold kE
  rw[zw]
  split
  ·rename_i h e;subst e;rw[if_pos ⟨rfl,h⟩]
  ·rename_i h e;rw[if_neg fun h2=>e h2.1]
 ·rename_i h
  rw[if_neg fun h2=>h (by omega)]
theorem v7(x:Vw)(i:Int)(hi:0<=i):∀ (L:List Sig) (d:Ds),S4 x d L i (aL (cl x d L) i)
 |[],d=>⟨Int.le_refl _,Int.le_refl _,fun s h=>by simp at h,.inl rfl,.inl rfl⟩
 |s::L,d=>by
  have ih:=v7 x i hi L (gG x d s)
  show S4 x d (s::L) i (aL (cl x (gG x d s) L) i)
  generalize aL (cl x (gG x d s) L) i=e at ih
  obtain⟨b1,b2,s1,a1,a2⟩:=ih
  rw[TW]at b1 b2 a1 a2
  by_cases h:(bd x s).1=i/\0<=i
  ·rw[if_pos h]at b1 b2 a1 a2
   simp only[bO,dH]at b1 b2 a1 a2
   refine⟨by split at b1<;>omega,by split at b2<;>omega,fun t ht hw=>?_,?_,?_⟩
   ·rcases List.mem_cons.1 ht with rfl | ht
    ·exact⟨by split at b1<;>omega,by split at b2<;>omega⟩
    ·exact s1 t ht hw
   ·rcases a1 with a1 | ⟨t,ht,h1,h2⟩
    ·split at a1
     ·exact .inr ⟨s,by simp,h.1,a1.symm⟩
     ·exact .inl a1
    ·exact .inr ⟨t,by simp[ht],h1,h2⟩
   ·rcases a2 with a2 | ⟨t,ht,h1,h2⟩
    ·split at a2
     ·exact .inr ⟨s,by simp,h.1,a2.symm⟩
     ·exact .inl a2
    ·exact .inr ⟨t,by simp[ht],h1,h2⟩
  ·rw[if_neg h]at b1 b2 a1 a2
   refine⟨b1,b2,fun t ht hw=>?_,?_,?_⟩
   ·rcases List.mem_cons.1 ht with rfl | ht
    ·exact(h ⟨hw,hi⟩).elim
    ·exact s1 t ht hw
   ·rcases a1 with a1 | ⟨t,ht,h1,h2⟩
    ·exact .inl a1
    ·exact .inr ⟨t,by simp[ht],h1,h2⟩
   ·rcases a2 with a2 | ⟨t,ht,h1,h2⟩
    ·exact .inl a2
    ·exact .inr ⟨t,by simp[ht],h1,h2⟩
theorem Co(x:Vw)(L:List Sig):fI x L=true↔(∀ s∈L,eR x s=true)/\∀ i∈x.ts,(aL (cl x x.ds L) i).1<=(aL (cl x x.ds L) i).2:=by
 unfold fI wL
 rw[Bool.and_eq_true,List.all_eq_true,List.all_eq_true]
 simp only[decide_eq_true_eq]
variable {x:Vw}
theorem TQ(l:Led)(k:Int):∀ i∈(aj l k).ts,0<=i:=by
 intro i hi
 exact((gx l k).tl i hi).1
theorem adv{l:Led}(aa:bw l){k:Int}(h0:gd (aY l k)=none):∀ i∈(aj l k).ts,(aL (aj l k).ds i).1<=(aL (aj l k).ds i).2:=by
 have h:=(Hs l k _).2 (RT aa h0)
 unfold wL at h
 rw[List.all_eq_true]at h
 exact fun i hi=>by simpa using h i hi
theorem acb{l:Led}(aa:bw l){k:Int}(h0:gd (aY l k)=none):fI (aj l k) []=true:=(Co _ _).2 ⟨fun s h=>(nomatch h),adv aa h0⟩
theorem V9{l:Led}(aa:bw l)(k:Int):(bq l k).Pairwise fun a b=>a.so<b.so:=by
 unfold bq
 exact(EI aa.rs).filter _
theorem HU{l:Led}{k:Int}(hd:cB l [k]=0)(hs:eS l k=0){i:Nat}(hi:(i:Int)∈(aj l k).ts):mP l (eZ l i) k=i/\jP l (eZ l i) k=0/\mz l (eZ l i) k=0/\Bh l (eZ l i)=i:=by
 obtain⟨aa,_⟩:=pH hd
 have hI:=gx l k
 have Py:=hI.tl _ hi
 have lA:i<l.ts.length:=by omega
 have tI:rq l (eZ l i) k=some (i:Int):=by
  unfold rq
  rw[List.find?_eq_some_iff_getElem]
  obtain⟨q,hq,e⟩:=List.getElem_of_mem hi
  refine⟨by simp,q,hq,e,fun m hm=>?_⟩
  have Pd:m<(aj l k).ts.length:=by omega
  have hb:=hI.tl _ (List.getElem_mem (show m<(aE l k l.ts.length).ts.length from Pd))
  have hn:=hI.tn
  rw[Bool.not_eq_true',beq_eq_false_iff_ne]
  intro he
  unfold eZ at he
  have dg:0<=(aj l k).ts[m]/\(aj l k).ts[m] <l.ts.length:=hb
  have e3:=Ab aa (show ((aj l k).ts[m]).toNat<l.ts.length by omega) lA (by rw[he];simp)
  have e4:(aj l k).ts[m]=(aj l k).ts[q]:=by rw[e];omega
  have :=(List.getElem_inj (h₀:=Pd) (h₁:=hq) hn).1 e4
  omega
 have hE:jP l (eZ l i) k=0:=by unfold jP;rw[if_pos hd,tI];rfl
 refine⟨by unfold mP;rw[if_pos hd,tI];rfl,hE,by unfold mz;rw[if_pos hE];exact hs,?_⟩
 unfold Bh
 have e:aG l i=l.ts[i]:=cj lA
 refine oA lA (by unfold eZ;rw[Int.toNat_natCast,e];exact beq_self_eq_true _) fun m hm lx=>?_
 rw[beq_eq_false_iff_ne]
 intro hh
 have e2:aG l m=l.ts[m]:=cj hm
 have :=Ab aa hm lA (by rw[e2,hh];unfold eZ;rw[Int.toNat_natCast])
 omega
theorem acd{l:Led}{k:Int}(aa:bw l)(hs:eS l k=0){i:Nat}(hi:(i:Int)∈(aj l k).ts):(aL (aN (aj l k) k).ds i).1<=(aL (aN (aj l k) k).ds i).2:=
 (Ao aa hs).2.2.2 i (((gx l k).ts i).2 hi)
theorem at_tel{l:Led}{k:Int}(hd:cB l [k]=0)(hs:eS l k=0){i:Nat}(hi:(i:Int)∈(aj l k).ts)(c:Bool):
 i <(mE l (eZ l i) k c).length/\(mE l (eZ l i) k c).getD i 0=(if c then(aL (aN (aj l k) k).ds i).2 else(aL (aN (aj l k) k).ds i).1)/\lL l k (mE l (eZ l i) k c)=0/\
 gI l (eZ l i) k=aL (aN (aj l k) k).ds i:=by
 obtain⟨h1,h2,h3,h4⟩:=HU hd hs hi
 obtain⟨j,e1,e2,e3,e4⟩:=at_val h3 c
 have hj:j=i:=by rw[h4]at e1;omega
 subst hj
 have hr:gI l (eZ l j) k=aL (aN (aj l k) k).ds j:=by unfold gI;rw[if_pos ⟨h2,rk.2 hs⟩,h1]
 rw[hr]at e3
 exact⟨e2,e3,e4,hr⟩
theorem Ac{l:Led}{k:Int}{az:List Int}(hd:cB l [k]=0)(h:lL l k az=0):n7 l k az=true/\az.length=l.ts.length/\∀ i:Nat,(i:Int)∈(aj l k).ts->(aL (aN (aj l k) k).ds i).1<=az.getD i 0/\az.getD i 0<=(aL (aN (aj l k) k).ds i).2:=by
 have ht:n7 l k az=true:=by
  unfold lL at h
  rw[if_pos hd]at h
  cases hb:n7 l k az with
  |true=>rfl
  |false=>rw[hb]at h;cases h
 refine⟨ht,?_⟩
 unfold n7 at ht
 simp only[Bool.and_eq_true,decide_eq_true_eq,List.all_eq_true]at ht
 refine⟨ht.2.1,fun i hi=>?_⟩
 have :=ht.2.2.2 i hi
 unfold xq bL at this
 simpa using this
theorem xa{l:Led}{k:Int}{q:Int×Int}{i:Int}(h:bb (aj l k).bk q=some i):∃ j:Nat,i=j/\(j:Int)∈(aj l k).ts:=by
 obtain⟨a,b⟩:=q
 obtain⟨j,e,h2,_⟩:=(gx l k).bk1 a b i h
 exact⟨j,e,((gx l k).ts j).1 h2⟩
theorem Wu{l:Led}{k:Int}{az:List Int}(hd:cB l [k]=0)(h:lL l k az=0)(pa f day:Int):gi (aj l k) az pa day f∈fC (aN (aj l k) k) pa f day:=by
 obtain⟨_,_,hm⟩:=Ac hd h
 unfold gi fC
 show _∈(match eo (aj l k).rs pa f day with
  |none=>[0]
  |some r=>match bb (aj l k).bk (r.so,f)with
   |none=>[r.bo]
   |some i=>(if (aL (aN (aj l k) k).ds i).1<=day then[0]else[])++(if (aL (aN (aj l k) k).ds i).2>day then[r.bo]else[]))
 cases eo (aj l k).rs pa f day with
 |none=>simp
 |some r=>
  simp only[]
  cases hb:bb (aj l k).bk (r.so,f)with
  |none=>simp
  |some i=>
   obtain⟨j,rfl,hj⟩:=xa hb
   obtain⟨h1,h2⟩:=hm j hj
   simp only[Int.toNat_natCast]
   rw[List.mem_append]
   by_cases c:az.getD j 0>day
   ·rw[if_pos c];right;rw[if_pos (by omega)];simp
   ·rw[if_neg c];left;rw[if_pos (by omega)];simp
theorem Ja{l:Led}{k:Int}(aa:bw l)(hs:eS l k=0)(pa f day:Int):1<=(fC (aN (aj l k) k) pa f day).length/\(fC (aN (aj l k) k) pa f day).length<=2:=by
 unfold fC
 split
 ·simp
 ·split
  ·simp
  ·rename_i i hb
   obtain⟨j,rfl,hj⟩:=xa (l:=l) (k:=k) hb
   have :=acd aa hs hj
   split<;>split<;>simp
   omega
theorem Tr{l:Led}{k:Int}(hd:cB l [k]=0)(hs:eS l k=0){pa f day:Int}(h2:1<(fC (aN (aj l k) k) pa f day).length):
 ∃ j:Nat,(j:Int)∈(aj l k).ts/\∀ w∈fC (aN (aj l k) k) pa f day,w=gi (aj l k) (mE l (eZ l j) k false) pa day f\/w=gi (aj l k) (mE l (eZ l j) k true) pa day f:=by
 unfold fC at h2 |-
 unfold gi
 revert h2
 show 1<(match eo (aj l k).rs pa f day with
  |none=>[0]
  |some r=>match bb (aj l k).bk (r.so,f)with
   |none=>[r.bo]
   |some i=>(if (aL (aN (aj l k) k).ds i).1<=day then[0]else[])++(if (aL (aN (aj l k) k).ds i).2>day then[r.bo]else[])).length->∃ j:Nat,(j:Int)∈(aj l k).ts/\∀ w∈(match eo (aj l k).rs pa f day with
  |none=>[0]
  |some r=>match bb (aj l k).bk (r.so,f)with
   |none=>[r.bo]
   |some i=>(if (aL (aN (aj l k) k).ds i).1<=day then[0]else[])++(if (aL (aN (aj l k) k).ds i).2>day then[r.bo]else[])),_
 cases eo (aj l k).rs pa f day with
 |none=>intro h;simp at h
 |some r=>
  simp only[]
  cases hb:bb (aj l k).bk (r.so,f)with
  |none=>intro h;simp at h
  |some i=>
   obtain⟨j,rfl,hj⟩:=xa hb
   simp only[Int.toNat_natCast]
   intro h
   refine⟨j,hj,?_⟩
   have e1:=(at_tel hd hs hj false).2.1
   have e2:=(at_tel hd hs hj true).2.1
   simp only[Bool.false_eq_true,if_false]at e1
   simp only[if_true]at e2
   simp only[Int.toNat_natCast,e1,e2]
   by_cases c1:(aL (aN (aj l k) k).ds j).1<=day
   ·by_cases c2:(aL (aN (aj l k) k).ds j).2>day
    ·intro w hw
     rw[if_pos c1,if_pos c2]at hw
     rw[if_neg (show ¬ (aL (aN (aj l k) k).ds j).1>day by omega),if_pos c2]
     simpa using hw
    ·rw[if_pos c1,if_neg c2]at h;simp at h
   ·by_cases c2:(aL (aN (aj l k) k).ds j).2>day
    ·rw[if_neg c1,if_pos c2]at h;simp at h
    ·rw[if_neg c1,if_neg c2]at h;simp at h
end Go.Eng
