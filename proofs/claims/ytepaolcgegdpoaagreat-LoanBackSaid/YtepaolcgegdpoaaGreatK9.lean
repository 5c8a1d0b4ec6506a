import Derived.Test.YtepaolcgegdpoaaGreatK8
/- Texts LW98 to LB. -/
set_option linter.all false
namespace Go.Eng
open Go Go.Proofs
set_option maxRecDepth 10000
noncomputable section
theorem Te{l:Led}{d:List Int}{i:Nat}(h:i<l.ts.length)(hd:i<d.length)(hc:ox l (l.ts[i],d[i])=true):fS l d (i+1)=fS l d i++[(l.ts[i],d[i])]:=by
 unfold fS
 have hz:i<(l.ts.zip d).length:=by simp;omega
 rw[rF hz,List.getElem_zip,if_pos hc]
theorem IK{l:Led}{d:List Int}{i:Nat}(h:i<l.ts.length)(hd:i<d.length)(hc:ox l (l.ts[i],d[i])=false):fS l d (i+1)=fS l d i:=by
 unfold fS
 have hz:i<(l.ts.zip d).length:=by simp;omega
 rw[rF hz,List.getElem_zip,if_neg (by rw[hc];decide)];simp
theorem IL(l:Led)(d:List Int)(s:Nat):(fS l d s).length<=l.ts.length:=by
 unfold fS
 refine Nat.le_trans (List.length_filter_le _ _) ?_
 simp;omega
theorem S'{ps:List Pap}{C:List Rec}{T:List Pq}{i:Nat}(h:i<T.length)(hc:qs ps C T[i]=true):jl ps C T (i+1)=jl ps C T i++[T[i]]:=by
 unfold jl
 rw[rF h,if_pos hc]
theorem Ta{ps:List Pap}{C:List Rec}{T:List Pq}{i:Nat}(h:i<T.length)(hc:qs ps C T[i]=false):jl ps C T (i+1)=jl ps C T i:=by
 unfold jl
 rw[rF h,if_neg (by rw[hc];decide)];simp
theorem Tb(ps:List Pap)(C:List Rec)(T:List Pq)(s:Nat):(jl ps C T s).length<=T.length:=by
 unfold jl
 refine Nat.le_trans (List.length_filter_le _ _) ?_
 simp;omega
theorem S8(A:List Pq)(t:List Bool){s:Nat}(h:s<=A.length):(fo A t s).length<=A.length:=Nat.le_trans (CB A t s h).length_le (by simp;omega)
theorem aa6(l:Led)(w:List Int){s:Nat}(h:s<=l.rs.length):(eU l w s).length<=l.rs.length:=Nat.le_trans (Gb l w s h).length_le (by simp;omega)
theorem rL(a b:List Pq):rets (a++b)=rets a++rets b:=List.map_append
theorem ti(a b:List Pq):cj (a++b)=cj a++cj b:=List.map_append
theorem rK(q:Pq):rets [q]=[q.1]:=rfl
theorem th(q:Pq):cj [q]=[q.2]:=rfl
theorem U6(r:Raw):l3 ⟨r.rs,r.ts,[]⟩=l0 r:=rfl
theorem aat(r:Raw):gd ⟨r.rs,r.ts,[]⟩ (nT ⟨r.rs,r.ts,[]⟩)=d0 r:=rfl
theorem JZ(r:Raw):(l0 r).ps=mps:=rfl
theorem CD(r:Raw):fS (l0 r) (d0 r) (l0 r).ts.length=cm r:=rfl
theorem abQ(r:Raw):(⟨(l0 r).ps,(l0 r).rs,rets (cm r),[]⟩:Led)=gO r:=rfl
theorem Hj(r:Raw):(⟨(l0 r).ps,(l0 r).rs,rets (bj r),[]⟩:Led)=db r:=rfl
theorem S9(r:Raw):fo (cm r) (bn (gO r) 900 (rets (cm r)).length) (bn (gO r) 900 (rets (cm r)).length).length=bj r:=by rw[k9];rfl
theorem aa7(r:Raw):eU (db r) (cj (bj r)) (l0 r).rs.length=bI r:=rfl
theorem Tc(r:Raw):jl (l0 r).ps (bI r) (bj r) (rets (bj r)).length=cI r:=by rw[gR];rfl
theorem TA(r:Raw):(⟨(l0 r).ps,bI r,rets (cI r),[]⟩:Led)=a8 r:=rfl
theorem Cf(p:List Pap)(C:List Rec)(T:List Ret)(so k:Int):b9 ⟨p,C,T,[]⟩ so k=b9 ⟨p,C,[],[]⟩ so k:=rfl
theorem Jv:decide ((-1:Int)>=0)=false:=rfl
theorem HL(r:Raw)(m:Nat):(la r m).length=m:=by unfold la;simp
theorem Co(q:List Pq)(i:Nat)(h:i<(rets q).length)(h':i<q.length):(rets q)[i]=q[i].1:=List.getElem_map _
section
attribute [local irreducible] l3 gd aQ nT l0 d0 cm bj bI cI
def K98:List (Nat×Spec):=[(19,PW),(20,GG),(70,ym),(71,BD),(72,S72),(73,vK),(74,GD)]
theorem acy:KS K98:=tc RZ.sound<|tc H5.sound<|tc H4.sound<|tc Ca.sound<|tc RO.sound<|tc H0.sound<|tc HZ.sound<|tn
attribute [go_sem] K98
@[go_sem] def P14:PSpec:=p1 sd (fun _=>True) (fun r=>.tup [gM (aH r),.sl ((jv r).map vInt)]) false
@[go_sem] def S14:Spec:=P14.toSpec
set_option maxHeartbeats 4000000 in
theorem Sm:aZ Tryz.prog 14 P14:=by
 refine fQ (rs:=[.cell 2 31,.tmp 3]) Tryz.func14 Tryz.ntmps14 fun r hp hw=>?_
 have hP:=fU
 simp only[sd]at hw |-
 have hΓ:=acy
 have aa:=qo r
 have b1:=aa.rsn
 have b2:=aa.tsn
 have qI:=Ox r
 have Y8:=abP r
 have Mg:=Hi r
 have Mx:=jn r
 have kb:(l0 r).ts.length<=maxLen:=by unfold maxLen;omega
 have agH:(cm r).length<=(l0 r).ts.length:=by rw[<-CD];exact IL _ _ _
 have agG:(bj r).length<=(cm r).length:=(qa r).length_le
 have agF:(bn (gO r) 900 (rets (cm r)).length).length=(cm r).length:=by rw[k9,vJ]
 have Mh:(bn (gO r) 900 (rets (cm r)).length).length<=maxLen:=by unfold maxLen;omega
 have Mk:(l0 r).rs.length<=maxLen:=by unfold maxLen;omega
 have Ms:(rets (bj r)).length<=maxLen:=by rw[gR];unfold maxLen;omega
 have XP:nS r<=maxLen:=by have:nS r<=6:=Nat.min_le_right _ _;unfold maxLen;omega
 repeat refine sq ?_
 refine rx hΓ [1,2] [[1,0],[2,0],[161,0],[187,0],[254,0]] (fun K' hK=>by simp only[go_sem];exact aq) ?_
 repeat refine sq ?_
 refine rx hΓ [1,2,4,5] [[1,0],[2,0],[4,0],[161,0],[187,0],[254,0]] (fun K' hK=>by simp only[go_sem,U6,aat,List.map_nil];exact aq) ?_
 repeat refine sq ?_
 refine rx hΓ [1,2,4,5,6] [[1,0],[2,0],[4,0],[6,0],[77,0],[161,0],[187,0],[254,0]] (fun K' hK=>by simp only[go_sem];exact aq) ?_
 refine bP (mP [6,0] [77,0] 2 8 _ rfl rfl rfl [1,2,4,5,6] [[1,0],[2,0],[4,0],[6,0],[77,0],[161,0],[187,0],[254,0]] ?_ rfl) ?_
 ·simp only[go_sem,List.set_cons_succ,List.set_cons_zero]
 simp only[go_sem,List.set_cons_succ,List.set_cons_zero]
 repeat refine sq ?_
 refine rx hΓ [1,2,4,5,6,7] [[1,0],[2,0],[4,0],[6,0],[77,0],[85,0],[161,0],[187,0],[254,0]] (fun K' hK=>by simp only[go_sem];exact aq) ?_
 refine bP (tS 7 [85,0] 1 (by simp only[go_sem]) (by simp only[go_sem]) [1,2,4,5,6,7] [[1,0],[2,0],[4,0],[6,0],[77,0],[85,0],[161,0],[187,0],[254,0]] ?_ rfl) ?_
 ·simp only[go_sem]
 simp only[go_sem]
 repeat refine sq ?_
 refine rx hΓ [1,2,4,5,6,7,8] [[1,0],[2,0],[4,0],[6,0],[77,0],[85,0],[161,0],[187,0],[254,0]] (fun K' hK=>by simp only[go_sem];exact aq) ?_
 repeat refine sq ?_
 refine aR ?_
 repeat refine sq ?_
 refine cr (fun s:Nat=>[(8,⟨true,.v (vInt s)⟩),(7,⟨true,.msl [85,0] (cj (fS (l0 r) (d0 r) s)).length⟩)]) (fun s=>[([6,0],.box [.v (.sl ((l0 r).ps.map c9)),.v (.sl ((l0 r).rs.map encR)),.msl [77,0] (rets (fS (l0 r) (d0 r) s)).length,.nilsl]),([77,0],.arr 8 ((rets (fS (l0 r) (d0 r) s)).map cT)),([85,0],.arr 1 ((cj (fS (l0 r) (d0 r) s)).map vInt))]) (fun s=>s<=(l0 r).ts.length) (fun s=>(l0 r).ts.length-s) 0 ?_ ?_ ?_ ?_
 ·exact Nat.zero_le _
 ·rfl
 ·rfl
 rintro i hi
 simp only[go_sem]
 repeat refine sq ?_
 refine rx hΓ [1,2,4,5,6,7,8,43] [[1,0],[2,0],[4,0],[6,0],[77,0],[85,0],[161,0],[187,0],[254,0]] (fun K' hK=>by simp only[go_sem];exact aq) ?_
 repeat refine sq ?_
 refine aB (fun hb=>?_) fun hb=>?_
 ·have ab:i<(l0 r).ts.length:=by simpa using hb
  have ao:(i:Int)<(l0 r).ts.length:=by omega
  clear hb
  have vd:i<(d0 r).length:=by omega
  have EZ:(i:Int)<(d0 r).length:=by omega
  have l9:=IL (l0 r) (d0 r) i
  have l8:=gR (fS (l0 r) (d0 r) i)
  have M8:=nM (fS (l0 r) (d0 r) i)
  repeat refine sq ?_
  refine aJ ?_
  repeat refine sq ?_
  refine aR ?_
  repeat refine sq ?_
  refine dx hΓ hP [[],[],[1],[],[1,2,3],[1,2,3,4],[1,2,3,4,5],u7,u8] [1,2,4,5,6,7,8,9] [[1,0],[2,0],[4,0],[6,0],[77,0],[85,0],[161,0],[187,0],[254,0]] (by kernel_rfl) (fun K' hK=>by simp only[go_sem,ah ab,ai,aj,ao,ah ab,ao,ai,aj,List.length_map];(repeat (refine⟨by first | exact ak | exact b1,?_⟩));exact fM) ?_
  rcases um (l0 r) (l0 r).ts[i].re 900 with gq | ⟨q,hq,gq,-⟩
  ·repeat refine sq ?_
   refine dx hΓ hP [[],[0],[0,1],[0,1,2],[0,1,2],u5,u6,[0,1,2],[0,1,2,7],[0,1,2],[0,1,2,7,8,9],[0,1,2,7,8,9,10],[0,1,2,7,8,9,10,11],kx,jK] [1,2,4,5,6,7,8,68] [[1,0],[2,0],[4,0],[6,0],[77,0],[85,0],[161,0],[187,0],[254,0]] (by kernel_rfl) (fun K' hK=>by simp only[go_sem,ah ab,ai,aj,ao,gq,Jv,ah vd,EZ,ai,aj,List.length_map];exact jC) ?_
   repeat refine sq ?_
   refine aB (fun hb=>?_) fun hb=>?_
   ·cases hb
   ·repeat refine sq ?_
    have hf:fS (l0 r) (d0 r) (i+1)=fS (l0 r) (d0 r) i:=IK ab vd (by unfold ox;simp only[gq];rfl)
    refine aJ ?_
    refine bV ?_
    simp only[go_sem]
    refine kp [1,2,4,5,6,7,8] [[1,0],[2,0],[4,0],[6,0],[77,0],[85,0],[161,0],[187,0],[254,0]] ?_
    repeat refine sq ?_
    refine aS hΓ fun K' hK=>?_
    simp only[go_sem,ah ab,ai,aj,ao,gq,Jv]
    repeat (refine⟨ak,?_⟩)
    refine hK _ ?_
    clear K' hK
    simp only[go_sem]
    refine⟨i+1,ab,by(show (l0 r).ts.length-(i+1)<(l0 r).ts.length-i;omega),?_⟩
    refine bg [1,2,4,5,6,7,8] [[1,0],[2,0],[4,0],[6,0],[77,0],[85,0],[161,0],[187,0],[254,0]] ?_ ?_<;>simp only[go_sem,a7 ab kb,bb,hf,rL,ti,rK,th,List.map_append,List.map_cons,List.map_nil,List.length_append,List.length_cons,List.length_nil]
  ·have bO:(q:Int)<(l0 r).rs.length:=by omega
   have oB:decide ((q:Int)>=0)=true:=by simp
   repeat refine sq ?_
   refine dx hΓ hP [[],[0],[0,1],[0,1,2],[0,1,2],u5,u6,[0,1,2],[0,1,2,7],[0,1,2],[0,1,2,7,8,9],[0,1,2,7,8,9,10],[0,1,2,7,8,9,10,11],kx,jK] [1,2,4,5,6,7,8,68] [[1,0],[2,0],[4,0],[6,0],[77,0],[85,0],[161,0],[187,0],[254,0]] (by kernel_rfl) (fun K' hK=>by simp only[go_sem,ah ab,ai,aj,ao,gq,oB,ah hq,bO,ah vd,EZ,ai,aj,List.length_map];exact jC) ?_
   repeat refine sq ?_
   refine aB (fun hb=>?_) fun hb=>?_
   ·repeat refine sq ?_
    have hf:=Te ab vd (by unfold ox;simp only[gq,oB,ai,cE hq];simpa using hb)
    repeat refine sq ?_
    refine dx hΓ hP [[],[0],[],[2],[],[2,3,4],[2,3,4,5],[2,3,4,5,6],u8,u9,cB] [1,2,4,5,6,7,8] [[1,0],[2,0],[4,0],[6,0],[77,0],[85,0],[161,0],[187,0],[254,0]] (by kernel_rfl) (fun K' hK=>by simp only[go_sem,ah ab,ai,aj,ao,gq,oB,ah hq,bO,ah ab,ao,ai,aj,List.length_map];(repeat (refine⟨by first | exact ak | exact⟨rfl,by omega,by unfold maxLen;omega⟩,?_⟩));exact fM) ?_
    repeat refine sq ?_
    refine aS hΓ fun K' hK=>?_
    simp only[go_sem,ah ab,ai,aj,ao,gq,oB,ah hq,bO,ah vd,EZ,ai,aj,List.length_map]
    repeat (refine⟨by first | exact ak | exact⟨rfl,by omega,by unfold maxLen;omega⟩,?_⟩)
    refine hK _ ?_
    clear K' hK
    simp only[go_sem]
    refine kp [1,2,4,5,6,7,8] [[1,0],[2,0],[4,0],[6,0],[77,0],[85,0],[161,0],[187,0],[254,0]] ?_
    repeat refine sq ?_
    refine aS hΓ fun K' hK=>?_
    simp only[go_sem,ah ab,ai,aj,ao,gq,oB,ah hq,bO]
    repeat (refine⟨ak,?_⟩)
    refine hK _ ?_
    clear K' hK
    simp only[go_sem]
    refine⟨i+1,ab,by(show (l0 r).ts.length-(i+1)<(l0 r).ts.length-i;omega),?_⟩
    refine bg [1,2,4,5,6,7,8] [[1,0],[2,0],[4,0],[6,0],[77,0],[85,0],[161,0],[187,0],[254,0]] ?_ ?_<;>simp only[go_sem,a7 ab kb,bb,hf,rL,ti,rK,th,List.map_append,List.map_cons,List.map_nil,List.length_append,List.length_cons,List.length_nil]
   ·repeat refine sq ?_
    have hf:fS (l0 r) (d0 r) (i+1)=fS (l0 r) (d0 r) i:=IK ab vd (by unfold ox;simp only[gq,oB,ai,cE hq];simpa using hb)
    refine aJ ?_
    refine bV ?_
    simp only[go_sem]
    refine kp [1,2,4,5,6,7,8] [[1,0],[2,0],[4,0],[6,0],[77,0],[85,0],[161,0],[187,0],[254,0]] ?_
    repeat refine sq ?_
    refine aS hΓ fun K' hK=>?_
    simp only[go_sem,ah ab,ai,aj,ao,gq,oB,ah hq,bO]
    repeat (refine⟨ak,?_⟩)
    refine hK _ ?_
    clear K' hK
    simp only[go_sem]
    refine⟨i+1,ab,by(show (l0 r).ts.length-(i+1)<(l0 r).ts.length-i;omega),?_⟩
    refine bg [1,2,4,5,6,7,8] [[1,0],[2,0],[4,0],[6,0],[77,0],[85,0],[161,0],[187,0],[254,0]] ?_ ?_<;>simp only[go_sem,a7 ab kb,bb,hf,rL,ti,rK,th,List.map_append,List.map_cons,List.map_nil,List.length_append,List.length_cons,List.length_nil]
 ·have bF:i=(l0 r).ts.length:=by
   have :¬ (i:Int)<(l0 r).ts.length:=by simpa using hb
   omega
  clear hb
  subst bF
  repeat refine sq ?_
  refine bR ?_
  simp only[go_sem]
  refine kp [1,2,4,6,7] [[1,0],[2,0],[4,0],[6,0],[77,0],[85,0],[161,0],[187,0],[254,0]] ?_
  simp only[CD]
  refine bP (oY [6,0] [77,0] 2 _ _ _ _ rfl rfl rfl (by first | rfl | (simp only[List.length_map];done)) [1,2,4,6,7] [[1,0],[2,0],[4,0],[6,0],[77,0],[85,0],[161,0],[187,0],[254,0]] ?_ rfl) ?_
  ·simp only[go_sem,List.set_cons_succ,List.set_cons_zero]
  simp only[go_sem,List.set_cons_succ,List.set_cons_zero]
  refine bP (el 7 (.msl [85,0] (cj (cm r)).length) (by simp only[go_sem]) (by simp only[go_sem]) [1,2,4,6,7] [[1,0],[2,0],[4,0],[6,0],[77,0],[85,0],[161,0],[187,0],[254,0]] ?_ rfl) ?_
  ·simp only[go_sem]
  simp only[go_sem]
  repeat refine sq ?_
  refine rx hΓ [1,2,4,6,7,10] [[1,0],[2,0],[4,0],[6,0],[77,0],[85,0],[161,0],[187,0],[254,0]] (fun K' hK=>by simp only[go_sem,abQ];(repeat (refine⟨by first | exact ak | exact Y8,?_⟩));exact ki) ?_
  repeat refine sq ?_
  refine rx hΓ [1,2,4,6,7,10,11] [[1,0],[2,0],[4,0],[6,0],[11,0],[77,0],[85,0],[108,0],[161,0],[187,0],[254,0]] (fun K' hK=>by simp only[go_sem];exact aq) ?_
  repeat refine sq ?_
  refine rx hΓ [1,2,4,6,7,10,11] [[1,0],[2,0],[4,0],[6,0],[11,0],[77,0],[85,0],[108,0],[161,0],[187,0],[254,0]] (fun K' hK=>by simp only[go_sem];exact aq) ?_
  refine bP (mP [11,0] [108,0] 2 8 _ rfl rfl rfl [1,2,4,6,7,10,11] [[1,0],[2,0],[4,0],[6,0],[11,0],[77,0],[85,0],[108,0],[161,0],[187,0],[254,0]] ?_ rfl) ?_
  ·simp only[go_sem,List.set_cons_succ,List.set_cons_zero]
  simp only[go_sem,List.set_cons_succ,List.set_cons_zero]
  repeat refine sq ?_
  refine rx hΓ [1,2,4,6,7,10,11,12] [[1,0],[2,0],[4,0],[6,0],[11,0],[77,0],[85,0],[108,0],[116,0],[161,0],[187,0],[254,0]] (fun K' hK=>by simp only[go_sem];exact aq) ?_
  refine bP (tS 12 [116,0] 1 (by simp only[go_sem]) (by simp only[go_sem]) [1,2,4,6,7,10,11,12] [[1,0],[2,0],[4,0],[6,0],[11,0],[77,0],[85,0],[108,0],[116,0],[161,0],[187,0],[254,0]] ?_ rfl) ?_
  ·simp only[go_sem]
  simp only[go_sem]
  generalize hT:bn (gO r) 900 (rets (cm r)).length=T at *
  have D8:fo (cm r) T T.length=bj r:=by rw[<-hT];exact S9 r
  repeat refine sq ?_
  refine rx hΓ [1,2,4,6,7,10,11,12,13] [[1,0],[2,0],[4,0],[6,0],[11,0],[77,0],[85,0],[108,0],[116,0],[161,0],[187,0],[254,0]] (fun K' hK=>by simp only[go_sem];exact aq) ?_
  repeat refine sq ?_
  refine aR ?_
  repeat refine sq ?_
  refine cr (fun s:Nat=>[(13,⟨true,.v (vInt s)⟩),(12,⟨true,.msl [116,0] (cj (fo (cm r) T s)).length⟩)]) (fun s=>[([11,0],.box [.v (.sl ((l0 r).ps.map c9)),.v (.sl ((l0 r).rs.map encR)),.msl [108,0] (rets (fo (cm r) T s)).length,.nilsl]),([108,0],.arr 8 ((rets (fo (cm r) T s)).map cT)),([116,0],.arr 1 ((cj (fo (cm r) T s)).map vInt))]) (fun s=>s<=T.length) (fun s=>T.length-s) 0 ?_ ?_ ?_ ?_
  ·exact Nat.zero_le _
  ·rfl
  ·rfl
  rintro i1 hi
  simp only[go_sem]
  repeat refine sq ?_
  refine rx hΓ [1,2,4,6,7,10,11,12,13,93] [[1,0],[2,0],[4,0],[6,0],[11,0],[77,0],[85,0],[108,0],[116,0],[161,0],[187,0],[254,0]] (fun K' hK=>by simp only[go_sem];exact aq) ?_
  repeat refine sq ?_
  refine aB (fun hb=>?_) fun hb=>?_
  ·have aK:i1<T.length:=by simpa using hb
   have ba:(i1:Int)<T.length:=by omega
   clear hb
   have AA:i1<(cm r).length:=by omega
   have Ak:((rets (cm r)).map cT).getD i1 default=cT (cm r)[i1].1:=by rw[ah (by rw[gR];exact AA)];unfold rets;rw[List.getElem_map]
   have ES:((cj (cm r)).map vInt).getD i1 default=vInt (cm r)[i1].2:=by rw[ah (by rw[nM];exact AA)];unfold cj;rw[List.getElem_map]
   have X7:(i1:Int)<(rets (cm r)).length:=by rw[gR];omega
   have EC:(i1:Int)<(cj (cm r)).length:=by rw[nM];omega
   have l9:=S8 (cm r) T (Nat.le_of_lt AA)
   have l8:=gR (fo (cm r) T i1)
   have M8:=nM (fo (cm r) T i1)
   repeat refine sq ?_
   refine aJ ?_
   repeat refine sq ?_
   refine aR ?_
   repeat refine sq ?_
   refine rx hΓ [1,2,4,6,7,10,11,12,13,99] [[1,0],[2,0],[4,0],[6,0],[11,0],[77,0],[85,0],[108,0],[116,0],[161,0],[187,0],[254,0]] (fun K' hK=>by simp only[go_sem,ah aK,ai,aj,ba,ah aK,ba,ai,aj,List.length_map];exact aq) ?_
   repeat refine sq ?_
   refine aB (fun hb=>?_) fun hb=>?_
   ·repeat refine sq ?_
    have hf:fo (cm r) T (i1+1)=fo (cm r) T i1++[(cm r)[i1]]:=by rw[fo,cz aK,if_pos hb,cz AA]
    repeat refine sq ?_
    refine dx hΓ hP [[],[0],[],[2],[],[2,3,4],[2,3,4,5],[2,3,4,5,6],u8,u9,cB] [1,2,4,6,7,10,11,12,13] [[1,0],[2,0],[4,0],[6,0],[11,0],[77,0],[85,0],[108,0],[116,0],[161,0],[187,0],[254,0]] (by kernel_rfl) (fun K' hK=>by simp only[go_sem,ah aK,ai,aj,ba,Ak,X7,ai,aj,List.length_map];(repeat (refine⟨by first | exact ak | exact⟨rfl,by omega,by unfold maxLen;omega⟩,?_⟩));exact fM) ?_
    repeat refine sq ?_
    refine aS hΓ fun K' hK=>?_
    simp only[go_sem,ah aK,ai,aj,ba,ES,EC,ai,aj,List.length_map]
    repeat (refine⟨by first | exact ak | exact⟨rfl,by omega,by unfold maxLen;omega⟩,?_⟩)
    refine hK _ ?_
    clear K' hK
    simp only[go_sem]
    refine kp [1,2,4,6,7,10,11,12,13] [[1,0],[2,0],[4,0],[6,0],[11,0],[77,0],[85,0],[108,0],[116,0],[161,0],[187,0],[254,0]] ?_
    repeat refine sq ?_
    refine aS hΓ fun K' hK=>?_
    simp only[go_sem,ah aK,ai,aj,ba]
    repeat (refine⟨ak,?_⟩)
    refine hK _ ?_
    clear K' hK
    simp only[go_sem]
    refine⟨i1+1,aK,by(show T.length-(i1+1)<T.length-i1;omega),?_⟩
    refine bg [1,2,4,6,7,10,11,12,13] [[1,0],[2,0],[4,0],[6,0],[11,0],[77,0],[85,0],[108,0],[116,0],[161,0],[187,0],[254,0]] ?_ ?_<;>simp only[go_sem,a7 aK Mh,bb,hf,rL,ti,rK,th,List.map_append,List.map_cons,List.map_nil,List.length_append,List.length_cons,List.length_nil]
   ·repeat refine sq ?_
    have hf:fo (cm r) T (i1+1)=fo (cm r) T i1:=by rw[fo,cz aK,if_neg (by rw[hb];decide)]
    refine aJ ?_
    refine bV ?_
    simp only[go_sem]
    refine kp [1,2,4,6,7,10,11,12,13] [[1,0],[2,0],[4,0],[6,0],[11,0],[77,0],[85,0],[108,0],[116,0],[161,0],[187,0],[254,0]] ?_
    repeat refine sq ?_
    refine aS hΓ fun K' hK=>?_
    simp only[go_sem,ah aK,ai,aj,ba]
    repeat (refine⟨ak,?_⟩)
    refine hK _ ?_
    clear K' hK
    simp only[go_sem]
    refine⟨i1+1,aK,by(show T.length-(i1+1)<T.length-i1;omega),?_⟩
    refine bg [1,2,4,6,7,10,11,12,13] [[1,0],[2,0],[4,0],[6,0],[11,0],[77,0],[85,0],[108,0],[116,0],[161,0],[187,0],[254,0]] ?_ ?_<;>simp only[go_sem,a7 aK Mh,bb,hf,rL,ti,rK,th,List.map_append,List.map_cons,List.map_nil,List.length_append,List.length_cons,List.length_nil]
  ·have ke:i1=T.length:=by
    have :¬ (i1:Int)<T.length:=by simpa using hb
    omega
   clear hb
   subst ke
   repeat refine sq ?_
   refine bR ?_
   simp only[go_sem]
   refine kp [1,2,4,11,12] [[1,0],[2,0],[4,0],[11,0],[77,0],[108,0],[116,0],[161,0],[187,0],[254,0]] ?_
   simp only[D8]
   refine bP (oY [11,0] [108,0] 2 _ _ _ _ rfl rfl rfl (by first | rfl | (simp only[List.length_map];done)) [1,2,4,11,12] [[1,0],[2,0],[4,0],[11,0],[77,0],[108,0],[116,0],[161,0],[187,0],[254,0]] ?_ rfl) ?_
   ·simp only[go_sem,List.set_cons_succ,List.set_cons_zero]
   simp only[go_sem,List.set_cons_succ,List.set_cons_zero]
   refine bP (el 12 (.msl [116,0] (cj (bj r)).length) (by simp only[go_sem]) (by simp only[go_sem]) [1,2,4,11,12] [[1,0],[2,0],[4,0],[11,0],[77,0],[108,0],[116,0],[161,0],[187,0],[254,0]] ?_ rfl) ?_
   ·simp only[go_sem]
   simp only[go_sem]
   repeat refine sq ?_
   refine rx hΓ [1,2,11,12,14] [[1,0],[2,0],[11,0],[14,0],[77,0],[108,0],[116,0],[161,0],[187,0],[254,0]] (fun K' hK=>by simp only[go_sem];exact aq) ?_
   refine bP (mP [14,0] [161,0] 1 7 _ rfl rfl rfl [1,2,11,12,14] [[1,0],[2,0],[11,0],[14,0],[77,0],[108,0],[116,0],[161,0],[187,0],[254,0]] ?_ rfl) ?_
   ·simp only[go_sem,List.set_cons_succ,List.set_cons_zero]
   simp only[go_sem,List.set_cons_succ,List.set_cons_zero]
   refine bP (mP [14,0] [187,0] 2 8 _ rfl rfl rfl [1,2,11,12,14] [[1,0],[2,0],[11,0],[14,0],[77,0],[108,0],[116,0],[161,0],[187,0],[254,0]] ?_ rfl) ?_
   ·simp only[go_sem,List.set_cons_succ,List.set_cons_zero]
   simp only[go_sem,List.set_cons_succ,List.set_cons_zero]
   repeat refine sq ?_
   refine rx hΓ [1,2,11,12,14,15] [[1,0],[2,0],[11,0],[14,0],[77,0],[108,0],[116,0],[161,0],[187,0],[254,0]] (fun K' hK=>by simp only[go_sem];exact aq) ?_
   repeat refine sq ?_
   refine aR ?_
   repeat refine sq ?_
   refine cr (fun s:Nat=>[(15,⟨true,.v (vInt s)⟩)]) (fun s=>[([14,0],.box [.v (.sl ((l0 r).ps.map c9)),.msl [161,0] (eU (db r) (cj (bj r)) s).length,.msl [187,0] 0,.nilsl]),([161,0],.arr 7 ((eU (db r) (cj (bj r)) s).map encR))]) (fun s=>s<=(l0 r).rs.length) (fun s=>(l0 r).rs.length-s) 0 ?_ ?_ ?_ ?_
   ·exact Nat.zero_le _
   ·rfl
   ·rfl
   rintro i2 hi
   simp only[go_sem]
   repeat refine sq ?_
   refine rx hΓ [1,2,11,12,14,15,124] [[1,0],[2,0],[11,0],[14,0],[77,0],[108,0],[116,0],[161,0],[187,0],[254,0]] (fun K' hK=>by simp only[go_sem];exact aq) ?_
   repeat refine sq ?_
   refine aB (fun hb=>?_) fun hb=>?_
   ·have bN:i2<(l0 r).rs.length:=by simpa using hb
    have dZ:(i2:Int)<(l0 r).rs.length:=by omega
    clear hb
    have xv:=aa6 (db r) (cj (bj r)) (s:=i2) (Nat.le_of_lt bN)
    have Na:eU (db r) (cj (bj r)) (i2+1)=if kT (db r) (cj (bj r)) (eU (db r) (cj (bj r)) i2) i2 i2=true then eU (db r) (cj (bj r)) i2++[(l0 r).rs[i2]]else eU (db r) (cj (bj r)) i2:=by rw[eU];rw[show an (db r) i2=(l0 r).rs[i2]from cE bN]
    have MX:i2<=maxLen:=by omega
    generalize hC:eU (db r) (cj (bj r)) i2=C at *
    have agL:C.length<=60:=Nat.le_trans xv b1
    repeat refine sq ?_
    refine aJ ?_
    repeat refine sq ?_
    refine aR ?_
    repeat refine sq ?_
    refine rx hΓ [1,2,11,12,14,15,16] [[1,0],[2,0],[11,0],[14,0],[77,0],[108,0],[116,0],[161,0],[187,0],[254,0]] (fun K' hK=>by simp only[go_sem,ah bN,ai,aj,dZ];exact aq) ?_
    repeat refine sq ?_
    refine rx hΓ [1,2,11,12,14,15,16,17] [[1,0],[2,0],[11,0],[14,0],[77,0],[108,0],[116,0],[161,0],[187,0],[254,0]] (fun K' hK=>by simp only[go_sem,ah bN,ai,aj,dZ];exact aq) ?_
    repeat refine sq ?_
    refine aR ?_
    repeat refine sq ?_
    refine cr (fun s:Nat=>[(17,⟨true,.v (vInt s)⟩),(16,⟨true,.v (.bool (kT (db r) (cj (bj r)) C i2 s))⟩)]) (fun s=>[]) (fun s=>s<=i2) (fun s=>i2-s) 0 ?_ ?_ ?_ ?_
    ·exact Nat.zero_le _
    ·rfl
    ·rfl
    rintro i3 hi
    simp only[go_sem]
    repeat refine sq ?_
    refine rx hΓ [1,2,11,12,14,15,16,17,129] [[1,0],[2,0],[11,0],[14,0],[77,0],[108,0],[116,0],[161,0],[187,0],[254,0]] (fun K' hK=>by simp only[go_sem,ah bN,ai,aj,dZ];exact aq) ?_
    repeat refine sq ?_
    refine aB (fun hb=>?_) fun hb=>?_
    ·repeat refine sq ?_
     have fX:i3<i2:=by have h:=hb;simp at h;omega
     have E6:i3<(l0 r).rs.length:=by omega
     have Nj:(i3:Int)<(l0 r).rs.length:=by omega
     have lB:kT (db r) (cj (bj r)) C i2 (i3+1)=(kT (db r) (cj (bj r)) C i2 i3&&(decide (b9 ⟨(l0 r).ps,C,[],[]⟩ (l0 r).rs[i3].so 900<0)||lK (db r) (cj (bj r)) i3 i2)):=by
      rw[kT,show an (db r) i3=(l0 r).rs[i3]from cE E6];rfl
     refine aJ ?_
     repeat refine sq ?_
     refine aR ?_
     repeat refine sq ?_
     rcases ee:kT (db r) (cj (bj r)) C i2 i3 with _ | _
     ·repeat refine sq ?_
      refine oM hΓ hP [[],[0],[0,1],[0,1],[0,1,3],[0,1],[0,1,3,4,5],[0,1,3,4,5,6],[0,1,3,4,5,6,7],u9,cB,fm,dO,dO,dO,dO,[0,1,2,3,4,5,6,7,8,9,10,11,14,15],lR,iA,mQ,oZ] (by kernel_rfl) fun K' hK=>?_
      simp only[go_sem,ah bN,ai,aj,dZ,ee,ah E6,Nj,Hj,Bool.or_not_self,Cf,List.map_nil,ai,aj,List.length_map]
      repeat (refine⟨by first | exact ak | exact Nat.le_trans xv b1 | exact fun h=>⟨h,Mg,by rw[nM,gR]⟩,?_⟩)
      first | refine⟨by rfl,?_⟩ | skip
      refine hK _ ?_
      clear K' hK
      simp only[go_sem]
      refine kp [1,2,11,12,14,15,16,17] [[1,0],[2,0],[11,0],[14,0],[77,0],[108,0],[116,0],[161,0],[187,0],[254,0]] ?_
      repeat refine sq ?_
      refine aS hΓ fun K' hK=>?_
      simp only[go_sem,ah bN,ai,aj,dZ,ee]
      repeat (refine⟨ak,?_⟩)
      refine hK _ ?_
      clear K' hK
      simp only[go_sem]
      refine⟨i3+1,fX,by(show i2-(i3+1)<i2-i3;omega),?_⟩
      refine bg [1,2,11,12,14,15,16,17] [[1,0],[2,0],[11,0],[14,0],[77,0],[108,0],[116,0],[161,0],[187,0],[254,0]] ?_ ?_<;>simp only[go_sem,a7 fX MX,bb,lB,ee]
     ·repeat refine sq ?_
      refine oM hΓ hP [[],[0],[0,1],[0,1],[0,1,3],[0,1],[0,1,3,4,5],[0,1,3,4,5,6],[0,1,3,4,5,6,7],u9,cB,fm,dO,dO,dO,dO,[0,1,2,3,4,5,6,7,8,9,10,11,14,15],lR,iA,mQ,oZ] (by kernel_rfl) fun K' hK=>?_
      simp only[go_sem,ah bN,ai,aj,dZ,ee,ah E6,Nj,Hj,Bool.or_not_self,Cf,List.map_nil,ai,aj,List.length_map]
      repeat (refine⟨by first | exact ak | exact Nat.le_trans xv b1 | exact fun h=>⟨h,Mg,by rw[nM,gR]⟩,?_⟩)
      first | refine⟨by rfl,?_⟩ | skip
      refine hK _ ?_
      clear K' hK
      simp only[go_sem]
      refine kp [1,2,11,12,14,15,16,17] [[1,0],[2,0],[11,0],[14,0],[77,0],[108,0],[116,0],[161,0],[187,0],[254,0]] ?_
      repeat refine sq ?_
      refine aS hΓ fun K' hK=>?_
      simp only[go_sem,ah bN,ai,aj,dZ,ee]
      repeat (refine⟨ak,?_⟩)
      refine hK _ ?_
      clear K' hK
      simp only[go_sem]
      refine⟨i3+1,fX,by(show i2-(i3+1)<i2-i3;omega),?_⟩
      refine bg [1,2,11,12,14,15,16,17] [[1,0],[2,0],[11,0],[14,0],[77,0],[108,0],[116,0],[161,0],[187,0],[254,0]] ?_ ?_<;>simp only[go_sem,a7 fX MX,bb,lB,ee]
    ·repeat refine sq ?_
     have xt:i2=i3:=by
      have h:=hb
      simp at h
      omega
     subst xt
     refine bR ?_
     simp only[go_sem]
     refine kp [1,2,11,12,14,15,16] [[1,0],[2,0],[11,0],[14,0],[77,0],[108,0],[116,0],[161,0],[187,0],[254,0]] ?_
     repeat refine sq ?_
     refine rx hΓ [1,2,11,12,14,15,152] [[1,0],[2,0],[11,0],[14,0],[77,0],[108,0],[116,0],[161,0],[187,0],[254,0]] (fun K' hK=>by simp only[go_sem,ah bN,ai,aj,dZ];exact aq) ?_
     repeat refine sq ?_
     refine aB (fun hb=>?_) fun hb=>?_
     ·repeat refine sq ?_
      have hf:eU (db r) (cj (bj r)) (i2+1)=C++[(l0 r).rs[i2]]:=by rw[Na,if_pos hb]
      repeat refine sq ?_
      refine oM hΓ hP [[],[0],[],[2],[],[2,3,4],[2,3,4,5],[2,3,4,5,6],u8,u9,cB] (by kernel_rfl) fun K' hK=>?_
      simp only[go_sem,ah bN,ai,aj,dZ,ah bN,dZ,ai,aj,List.length_map]
      repeat (refine⟨by first | exact ak | exact⟨rfl,by omega,by unfold maxLen;omega⟩ | exact Nat.one_ne_zero,?_⟩)
      first | refine⟨by rfl,?_⟩ | skip
      refine hK _ ?_
      clear K' hK
      simp only[go_sem]
      refine kp [1,2,11,12,14,15] [[1,0],[2,0],[11,0],[14,0],[77,0],[108,0],[116,0],[161,0],[187,0],[254,0]] ?_
      repeat refine sq ?_
      refine aS hΓ fun K' hK=>?_
      simp only[go_sem,ah bN,ai,aj,dZ]
      repeat (refine⟨ak,?_⟩)
      refine hK _ ?_
      clear K' hK
      simp only[go_sem]
      refine⟨i2+1,bN,by(show (l0 r).rs.length-(i2+1)<(l0 r).rs.length-i2;omega),?_⟩
      refine bg [1,2,11,12,14,15] [[1,0],[2,0],[11,0],[14,0],[77,0],[108,0],[116,0],[161,0],[187,0],[254,0]] ?_ ?_<;>simp only[go_sem,a7 bN Mk,bb,hf,List.map_append,List.map_cons,List.map_nil,List.length_append,List.length_cons,List.length_nil]
     ·repeat refine sq ?_
      have hf:eU (db r) (cj (bj r)) (i2+1)=C:=by rw[Na,if_neg (by rw[hb];decide)]
      refine aJ ?_
      refine bV ?_
      simp only[go_sem]
      refine kp [1,2,11,12,14,15] [[1,0],[2,0],[11,0],[14,0],[77,0],[108,0],[116,0],[161,0],[187,0],[254,0]] ?_
      repeat refine sq ?_
      refine aS hΓ fun K' hK=>?_
      simp only[go_sem,ah bN,ai,aj,dZ]
      repeat (refine⟨ak,?_⟩)
      refine hK _ ?_
      clear K' hK
      simp only[go_sem]
      refine⟨i2+1,bN,by(show (l0 r).rs.length-(i2+1)<(l0 r).rs.length-i2;omega),?_⟩
      refine bg [1,2,11,12,14,15] [[1,0],[2,0],[11,0],[14,0],[77,0],[108,0],[116,0],[161,0],[187,0],[254,0]] ?_ ?_<;>simp only[go_sem,a7 bN Mk,bb,hf,List.map_append,List.map_cons,List.map_nil,List.length_append,List.length_cons,List.length_nil]
   ·have nD:i2=(l0 r).rs.length:=by
     have :¬ (i2:Int)<(l0 r).rs.length:=by simpa using hb
     omega
    clear hb
    subst nD
    repeat refine sq ?_
    refine bR ?_
    simp only[go_sem]
    refine kp [1,2,11,12,14] [[1,0],[2,0],[11,0],[14,0],[77,0],[108,0],[116,0],[161,0],[187,0],[254,0]] ?_
    simp only[aa7]
    refine bP (oY [14,0] [161,0] 1 _ _ _ _ rfl rfl rfl (by first | rfl | (simp only[List.length_map];done)) [1,2,11,12,14] [[1,0],[2,0],[11,0],[14,0],[77,0],[108,0],[116,0],[161,0],[187,0],[254,0]] ?_ rfl) ?_
    ·simp only[go_sem,List.set_cons_succ,List.set_cons_zero]
    simp only[go_sem,List.set_cons_succ,List.set_cons_zero]
    repeat refine sq ?_
    refine rx hΓ [1,2,11,12,14,18] [[1,0],[2,0],[11,0],[14,0],[77,0],[108,0],[116,0],[161,0],[187,0],[195,0],[254,0]] (fun K' hK=>by simp only[go_sem];exact aq) ?_
    refine bP (tS 18 [195,0] 1 (by simp only[go_sem]) (by simp only[go_sem]) [1,2,11,12,14,18] [[1,0],[2,0],[11,0],[14,0],[77,0],[108,0],[116,0],[161,0],[187,0],[195,0],[254,0]] ?_ rfl) ?_
    ·simp only[go_sem]
    simp only[go_sem]
    repeat refine sq ?_
    refine rx hΓ [1,2,11,12,14,18,19] [[1,0],[2,0],[11,0],[14,0],[77,0],[108,0],[116,0],[161,0],[187,0],[195,0],[254,0]] (fun K' hK=>by simp only[go_sem];exact aq) ?_
    repeat refine sq ?_
    refine aR ?_
    repeat refine sq ?_
    refine cr (fun s:Nat=>[(19,⟨true,.v (vInt s)⟩),(18,⟨true,.msl [195,0] (cj (jl (l0 r).ps (bI r) (bj r) s)).length⟩)]) (fun s=>[([14,0],.box [.v (.sl ((l0 r).ps.map c9)),.v (.sl ((bI r).map encR)),.msl [187,0] (rets (jl (l0 r).ps (bI r) (bj r) s)).length,.nilsl]),([187,0],.arr 8 ((rets (jl (l0 r).ps (bI r) (bj r) s)).map cT)),([195,0],.arr 1 ((cj (jl (l0 r).ps (bI r) (bj r) s)).map vInt))]) (fun s=>s<=(rets (bj r)).length) (fun s=>(rets (bj r)).length-s) 0 ?_ ?_ ?_ ?_
    ·exact Nat.zero_le _
    ·rfl
    ·rfl
    rintro i4 hi
    simp only[go_sem]
    repeat refine sq ?_
    refine rx hΓ [1,2,11,12,14,18,19,167] [[1,0],[2,0],[11,0],[14,0],[77,0],[108,0],[116,0],[161,0],[187,0],[195,0],[254,0]] (fun K' hK=>by simp only[go_sem];exact aq) ?_
    repeat refine sq ?_
    refine aB (fun hb=>?_) fun hb=>?_
    ·have oD:i4<(rets (bj r)).length:=by simpa using hb
     have sF:(i4:Int)<(rets (bj r)).length:=by omega
     clear hb
     have xE:i4<(bj r).length:=by rw[<-gR];exact oD
     have Ak:((rets (bj r)).map cT).getD i4 default=cT (bj r)[i4].1:=by rw[ah (by rw[gR];exact xE)];unfold rets;rw[List.getElem_map]
     have ES:((cj (bj r)).map vInt).getD i4 default=vInt (bj r)[i4].2:=by rw[ah (by rw[nM];exact xE)];unfold cj;rw[List.getElem_map]
     have MZ:(rets (bj r))[i4]=(bj r)[i4].1:=Co _ _ _ xE
     have EC:(i4:Int)<(cj (bj r)).length:=by rw[nM];omega
     have l9:=Tb (l0 r).ps (bI r) (bj r) i4
     have l8:=gR (jl (l0 r).ps (bI r) (bj r) i4)
     have M8:=nM (jl (l0 r).ps (bI r) (bj r) i4)
     have hch:=(A6 r).length_le
     repeat refine sq ?_
     refine aJ ?_
     repeat refine sq ?_
     refine aR ?_
     repeat refine sq ?_
     refine dx hΓ hP [[],[],[1],[],[1,2,3],[1,2,3,4],[1,2,3,4,5],u7,u8] [1,2,11,12,14,18,19,178] [[1,0],[2,0],[11,0],[14,0],[77,0],[108,0],[116,0],[161,0],[187,0],[195,0],[254,0]] (by kernel_rfl) (fun K' hK=>by simp only[go_sem,ah oD,ai,aj,sF,Ak,MZ,sF,Cf,ai,aj,List.length_map];(repeat (refine⟨by first | exact ak | omega,?_⟩));exact fM) ?_
     repeat refine sq ?_
     refine aB (fun hb=>?_) fun hb=>?_
     ·repeat refine sq ?_
      have hf:=S' xE (C:=bI r) (ps:=(l0 r).ps) hb
      repeat refine sq ?_
      refine dx hΓ hP [[],[0],[],[2],[],[2,3,4],[2,3,4,5],[2,3,4,5,6],u8,u9,cB] [1,2,11,12,14,18,19] [[1,0],[2,0],[11,0],[14,0],[77,0],[108,0],[116,0],[161,0],[187,0],[195,0],[254,0]] (by kernel_rfl) (fun K' hK=>by simp only[go_sem,ah oD,ai,aj,sF,Ak,MZ,sF,ai,aj,List.length_map];(repeat (refine⟨by first | exact ak | exact⟨rfl,by omega,by unfold maxLen;omega⟩,?_⟩));exact fM) ?_
      repeat refine sq ?_
      refine aS hΓ fun K' hK=>?_
      simp only[go_sem,ah oD,ai,aj,sF,ES,EC,ai,aj,List.length_map]
      repeat (refine⟨by first | exact ak | exact⟨rfl,by omega,by unfold maxLen;omega⟩,?_⟩)
      refine hK _ ?_
      clear K' hK
      simp only[go_sem]
      refine kp [1,2,11,12,14,18,19] [[1,0],[2,0],[11,0],[14,0],[77,0],[108,0],[116,0],[161,0],[187,0],[195,0],[254,0]] ?_
      repeat refine sq ?_
      refine aS hΓ fun K' hK=>?_
      simp only[go_sem,ah oD,ai,aj,sF]
      repeat (refine⟨ak,?_⟩)
      refine hK _ ?_
      clear K' hK
      simp only[go_sem]
      refine⟨i4+1,oD,by(show (rets (bj r)).length-(i4+1)<(rets (bj r)).length-i4;omega),?_⟩
      refine bg [1,2,11,12,14,18,19] [[1,0],[2,0],[11,0],[14,0],[77,0],[108,0],[116,0],[161,0],[187,0],[195,0],[254,0]] ?_ ?_<;>simp only[go_sem,a7 oD Ms,bb,hf,rL,ti,rK,th,List.map_append,List.map_cons,List.map_nil,List.length_append,List.length_cons,List.length_nil]
     ·repeat refine sq ?_
      have hf:=Ta xE (C:=bI r) (ps:=(l0 r).ps) hb
      refine aJ ?_
      refine bV ?_
      simp only[go_sem]
      refine kp [1,2,11,12,14,18,19] [[1,0],[2,0],[11,0],[14,0],[77,0],[108,0],[116,0],[161,0],[187,0],[195,0],[254,0]] ?_
      repeat refine sq ?_
      refine aS hΓ fun K' hK=>?_
      simp only[go_sem,ah oD,ai,aj,sF]
      repeat (refine⟨ak,?_⟩)
      refine hK _ ?_
      clear K' hK
      simp only[go_sem]
      refine⟨i4+1,oD,by(show (rets (bj r)).length-(i4+1)<(rets (bj r)).length-i4;omega),?_⟩
      refine bg [1,2,11,12,14,18,19] [[1,0],[2,0],[11,0],[14,0],[77,0],[108,0],[116,0],[161,0],[187,0],[195,0],[254,0]] ?_ ?_<;>simp only[go_sem,a7 oD Ms,bb,hf,rL,ti,rK,th,List.map_append,List.map_cons,List.map_nil,List.length_append,List.length_cons,List.length_nil]
    ·have Yr:i4=(rets (bj r)).length:=by
      have :¬ (i4:Int)<(rets (bj r)).length:=by simpa using hb
      omega
     clear hb
     subst Yr
     repeat refine sq ?_
     refine bR ?_
     simp only[go_sem]
     refine kp [1,2,14,18] [[1,0],[2,0],[14,0],[161,0],[187,0],[195,0],[254,0]] ?_
     simp only[Tc]
     refine bP (oY [14,0] [187,0] 2 _ _ _ _ rfl rfl rfl (by first | rfl | (simp only[List.length_map];done)) [1,2,14,18] [[1,0],[2,0],[14,0],[161,0],[187,0],[195,0],[254,0]] ?_ rfl) ?_
     ·simp only[go_sem,List.set_cons_succ,List.set_cons_zero]
     simp only[go_sem,List.set_cons_succ,List.set_cons_zero]
     refine bP (el 18 (.msl [195,0] (cj (cI r)).length) (by simp only[go_sem]) (by simp only[go_sem]) [1,2,14,18] [[1,0],[2,0],[14,0],[161,0],[187,0],[195,0],[254,0]] ?_ rfl) ?_
     ·simp only[go_sem]
     simp only[go_sem]
     repeat refine sq ?_
     refine rx hΓ [1,2,14,18,20] [[1,0],[2,0],[14,0],[20,0],[161,0],[187,0],[195,0],[254,0]] (fun K' hK=>by simp only[go_sem,TA];(repeat (refine⟨by first | exact ak | exact Mx,?_⟩));exact ki) ?_
     refine bP (mP [14,0] [254,0] 3 7 _ rfl rfl rfl [1,2,14,18,20] [[1,0],[2,0],[14,0],[20,0],[161,0],[187,0],[195,0],[254,0]] ?_ rfl) ?_
     ·simp only[go_sem,List.set_cons_succ,List.set_cons_zero]
     simp only[go_sem,List.set_cons_succ,List.set_cons_zero]
     repeat refine sq ?_
     refine rx hΓ [1,2,14,18,20,21] [[1,0],[2,0],[14,0],[20,0],[161,0],[187,0],[195,0],[254,0]] (fun K' hK=>by simp only[go_sem];exact aq) ?_
     repeat refine sq ?_
     refine aR ?_
     repeat refine sq ?_
     refine cr (fun s:Nat=>[(21,⟨true,.v (vInt s)⟩)]) (fun s=>[([14,0],.box [.v (.sl ((l0 r).ps.map c9)),.v (.sl ((bI r).map encR)),.v (.sl ((rets (cI r)).map cT)),.msl [254,0] (la r s).length]),([254,0],.arr 7 ((la r s).map encS))]) (fun s=>s<=(nS r)) (fun s=>(nS r)-s) 0 ?_ ?_ ?_ ?_
     ·exact Nat.zero_le _
     ·rfl
     ·rfl
     rintro i5 hi
     simp only[go_sem]
     repeat refine sq ?_
     refine rx hΓ [1,2,14,18,20,21,206] [[1,0],[2,0],[14,0],[20,0],[161,0],[187,0],[195,0],[254,0]] (fun K' hK=>by simp only[go_sem];exact aq) ?_
     repeat refine sq ?_
     refine aB (fun hb=>?_) fun hb=>?_
     ·repeat refine sq ?_
      have Ac:i5<nS r:=by simp at hb;unfold nS;omega
      have xn:i5<r.ss.length:=by have h:=Ac;unfold nS at h;omega
      have EO:(i5:Int)<r.ss.length:=by omega
      have h6:i5<6:=by have h:=Ac;unfold nS at h;omega
      have e6:r5 r.ss i5=r.ss[i5]:=cz xn
      have m3:=dg (n:=r.ss[i5].b) (m:=3) (by decide)
      have sE:0<=aQ r.ss[i5].b 3:=m3.1
      have lz:(mps.length:Int)=3:=rfl
      have iN:aQ r.ss[i5].b 3<((l0 r).ps.length:Int):=by rw[JZ];omega
      have xq:((l0 r).ps.map c9).getD (aQ r.ss[i5].b 3).toNat default=c9 (ca r.ss[i5].b):=by
       rw[JZ]
       have hl:(aQ r.ss[i5].b 3).toNat<mps.length:=by omega
       rw[ah hl];unfold ca;rw[cz hl]
      obtain⟨-,l1,l2,p1,p2⟩:=qk (rV r.ss[i5].b)
      have ml:=dg (n:=r.ss[i5].c) (m:=(ca r.ss[i5].b).lv) (by omega)
      have sg:IntKind.i64.wrap (3*(i5:Int))=3*(i5:Int):=wrap_i64 (by omega) (by omega)
      have DU:IntKind.i64.wrap (3*(i5:Int)+3)=3*(i5:Int)+3:=wrap_i64 (by omega) (by omega)
      have w6:IntKind.i64.wrap (1+aQ r.ss[i5].c (ca r.ss[i5].b).lv)=1+aQ r.ss[i5].c (ca r.ss[i5].b).lv:=wrap_i64 (by omega) (by omega)
      have zT:=HL r i5
      have eS:la r (i5+1)=la r i5++[⟨3*(i5:Int)+3,ib (aU (a8 r) 900) ⟨(ca r.ss[i5].b).id,1+aQ r.ss[i5].c (ca r.ss[i5].b).lv⟩ (cj (cI r)) (aQ r.ss[i5].d 200),(ca r.ss[i5].b).id,1+aQ r.ss[i5].c (ca r.ss[i5].b).lv,aQ r.ss[i5].d 200,aQ r.ss[i5].e 300,0⟩]:=by
       unfold la
       rw[List.range_succ,List.map_append]
       show _++[fc r i5]=_
       unfold fc
       rw[e6];rfl
      refine aJ ?_
      repeat refine sq ?_
      refine aR ?_
      repeat refine sq ?_
      refine rx hΓ [1,2,14,18,20,21,22] [[1,0],[2,0],[14,0],[20,0],[22,0],[161,0],[187,0],[195,0],[254,0]] (fun K' hK=>by simp only[go_sem,ah xn,EO,ai,aj,List.length_map];exact aq) ?_
      repeat refine sq ?_
      refine dx hΓ hP [[],[0],[],[2],[2,3],u5,u6,[],u8] [1,2,14,18,20,21,22,23] [[1,0],[2,0],[14,0],[20,0],[22,0],[23,0],[161,0],[187,0],[195,0],[254,0]] (by kernel_rfl) (fun K' hK=>by simp only[go_sem,Int.cast_ofNat_Int,Int.reduceToNat,Int.toNat_zero,Int.toNat_one,Nat.reduceMul,Nat.zero_mul,Nat.one_mul,List.getD_cons_succ,List.getD_cons_zero,xq,sE,iN,List.length_map];(repeat (refine⟨by first | exact ak | exact⟨by decide,by decide⟩,?_⟩));exact fM) ?_
      repeat refine sq ?_
      refine dx hΓ hP [[],[0],[0,1],[],[3],[],[5],[],[7],[5,6,7,8],[5,6,7,8,9],[],[11],[5,6,7,8,9,11,12],[],[14],[5,6,7,8,9,11,12,13,14,15],lR,[],mQ] [1,2,14,18,20,21,24] [[1,0],[2,0],[14,0],[20,0],[24,0],[161,0],[187,0],[195,0],[254,0]] (by kernel_rfl) (fun K' hK=>by simp only[go_sem,Int.cast_ofNat_Int,Int.reduceToNat,Int.toNat_zero,Int.toNat_one,Nat.reduceMul,Nat.zero_mul,Nat.one_mul,List.getD_cons_succ,List.getD_cons_zero,sg,DU,w6];(repeat (refine⟨by first | exact ak | exact⟨by decide,by decide⟩ | exact⟨by omega,by omega⟩,?_⟩));exact fM) ?_
      repeat refine sq ?_
      refine rx hΓ [1,2,14,18,20,21,24] [[1,0],[2,0],[14,0],[20,0],[24,0],[161,0],[187,0],[195,0],[254,0]] (fun K' hK=>by simp only[go_sem];(repeat (refine⟨by first | exact ak | exact⟨Cg Mx 900,by rw[nM];show _=(bn _ _ _).length;rw[k9];exact(gR _).symm⟩,?_⟩));exact ki) ?_
      repeat refine sq ?_
      refine aS hΓ fun K' hK=>?_
      simp only[go_sem]
      repeat (refine⟨by first | exact ak | exact⟨rfl,by rw[zT];omega,by rw[zT];unfold maxLen;omega⟩,?_⟩)
      refine hK _ ?_
      clear K' hK
      simp only[go_sem]
      refine kp [1,2,14,18,20,21] [[1,0],[2,0],[14,0],[20,0],[161,0],[187,0],[195,0],[254,0]] ?_
      repeat refine sq ?_
      refine aS hΓ fun K' hK=>?_
      simp only[go_sem]
      repeat (refine⟨ak,?_⟩)
      refine hK _ ?_
      clear K' hK
      simp only[go_sem]
      refine⟨i5+1,Ac,by(show (nS r)-(i5+1)<(nS r)-i5;omega),?_⟩
      refine bg [1,2,14,18,20,21] [[1,0],[2,0],[14,0],[20,0],[161,0],[187,0],[195,0],[254,0]] ?_ ?_<;>simp only[go_sem,a7 Ac XP,bb,eS,List.map_append,List.length_append,List.map_cons,List.map_nil,List.length_cons,List.length_nil]
     ·repeat refine sq ?_
      have Yq:i5=nS r:=by
       simp at hb
       have h:=hi
       unfold nS at h |-
       omega
      subst Yq
      refine bR ?_
      simp only[go_sem]
      refine kp [2,14,18] [[2,0],[14,0],[161,0],[187,0],[195,0],[254,0]] ?_
      repeat refine sq ?_
      refine rx hΓ [2,3] [[2,0],[161,0],[187,0],[195,0],[254,0]] (fun K' hK=>by simp only[go_sem];exact aq) ?_
      refine aC ?_
      simp only[go_sem]
      first | rfl | trace_state
end
end
theorem ZU{α:Type}(p:α->Bool)(l:List α):l.find? p=if dE p l<0 then none else l[(dE p l).toNat]?:=by
 unfold dE
 by_cases h:l.any p=true
 ·rw[if_pos h]
  have ab:l.findIdx p<l.length:=List.findIdx_lt_length_of_exists (by obtain⟨x,hx,hp⟩:=List.any_eq_true.1 h;exact⟨x,hx,hp⟩)
  rw[if_neg (by omega),Int.toNat_natCast,List.getElem?_eq_getElem ab]
  exact List.find?_eq_some_iff_getElem.2 ⟨List.findIdx_getElem (w:=ab),_,ab,rfl,fun j hj=>by simpa using List.not_of_lt_findIdx hj⟩
 ·rw[if_neg h,if_pos (by omega)]
  rw[List.find?_eq_none]
  intro x hx hp
  exact h (List.any_eq_true.2 ⟨x,hx,hp⟩)
theorem Cy(l:Led)(k so:Int):cO (bd l k) so=if b9 l so k<0 then none else some (an l (b9 l so k).toNat):=by
 unfold cO bd
 rw[List.find?_filter]
 have e:(fun a:Rec=>decide (bG a.kn a.un k=true/\(a.so==so)=true))=fun r=>r.so==so&&bG r.kn r.un k:=by
  funext a
  cases bG a.kn a.un k<;>cases (a.so==so)<;>rfl
 rw[e,ZU]
 show (if b9 l so k<0 then none else l.rs[(b9 l so k).toNat]?)=_
 rcases um l so k with h | ⟨j,hj,h,-⟩
 ·rw[h];rfl
 ·rw[h,if_neg (by omega),if_neg (by omega),Int.toNat_natCast,cE hj,List.getElem?_eq_getElem hj]
theorem Hp(l:Led)(k:Int){s j:Nat}(h:s<l.ts.length):(bn l k (s+1)).getD j false=if j=s then gg l k (bn l k s) s else(bn l k s).getD j false:=by
 rw[<-Hq l k h]
 by_cases hj:j=s
 ·subst hj
  rw[if_pos rfl,List.getD_eq_getElem?_getD,List.getElem?_set_self (by rw[k9];exact h)]
  rfl
 ·rw[if_neg hj,List.getD_eq_getElem?_getD,List.getElem?_set_ne (by omega),<-List.getD_eq_getElem?_getD]
theorem vW{l:Led}{k:Int}{s j:Nat}(h:(bn l k s).getD j false=true):j<s:=(vX l k h).1
structure BB (l:Led) (k:Int) (s:Nat):Prop where
 ts:∀ j:Nat,(bn l k s).getD j false=true↔(j:Int)∈(ay l k s).ts
 tn:(ay l k s).ts.Nodup
 tl:∀ j∈(ay l k s).ts,0<=j/\j<s
 bk1:∀ so f i,be (ay l k s).bk (so,f)=some i->∃ j:Nat,i=j/\(bn l k s).getD j false=true/\(aD l j).re=so/\f∈(aD l j).lv
 bk2:∀ j:Nat,(bn l k s).getD j false=true->∀ f∈(aD l j).lv,be (ay l k s).bk ((aD l j).re,f)=some (j:Int)
 ds:∀ j:Nat,(bn l k s).getD j false=true->aV (ay l k s).ds j=(bH (aD l j).lo ((lW (bd l k) (aD l j).re).da+1),(aD l j).hi)
theorem xO(d:Ds)(i j:Int)(v:Int×Int):aV (nL d i v) j=if i=j then v else aV d j:=by
 induction d with
 |nil=>rfl
 |cons e r ih=>
  obtain⟨k,x⟩:=e
  simp only[nL]
  by_cases h:k=i
  ·rw[if_pos h]
   subst h
   simp only[aV]
   split<;>rfl
  ·rw[if_neg h]
   simp only[aV,ih]
   by_cases h2:k=j
   ·subst h2
    rw[if_pos rfl,if_pos rfl,if_neg (fun e=>h e.symm)]
   ·rw[if_neg h2,if_neg h2]
theorem abM{l:Led}{k:Int}{s:Nat}(h:BB l k s)(x:Ret)(f:Int):(be (ay l k s).bk (x.re,f)).isSome=!lM (mR l (bn l k s) x f) s:=by
 cases hb:be (ay l k s).bk (x.re,f)with
 |none=>
  have :lM (mR l (bn l k s) x f) s=true:=by
   unfold lM
   rw[List.all_eq_true]
   intro j _
   unfold mR
   cases hj:((bn l k s).getD j false&&(aD l j).re==x.re&&(aD l j).lv.contains f)with
   |false=>rfl
   |true=>
    simp only[Bool.and_eq_true,beq_iff_eq,List.contains_iff_mem]at hj
    have :=h.bk2 j hj.1.1 f hj.2
    rw[hj.1.2,hb]at this
    cases this
  rw[this];rfl
 |some i=>
  obtain⟨j,rfl,h1,h2,h3⟩:=h.bk1 _ _ _ hb
  have :lM (mR l (bn l k s) x f) s=false:=by
   unfold lM
   rw[List.all_eq_false]
   refine⟨j,List.mem_range.2 (vW h1),?_⟩
   unfold mR
   rw[h1,h2]
   simp[h3]
  rw[this];rfl
theorem C5{l:Led}{k:Int}{s:Nat}(h:BB l k s):fT k (bd l k) (ay l k s).bk (aD l s)=if gg l k (bn l k s) s=true then some (an l (b9 l (aD l s).re k).toNat)else none:=by
 unfold fT gg
 rw[Cy]
 by_cases hx:b9 l (aD l s).re k<0
 ·rw[if_pos hx,if_pos hx];rfl
 ·rw[if_neg hx,if_neg hx]
  have nu:(an l (b9 l (aD l s).re k).toNat).so=(aD l s).re:=by
   rcases um l (aD l s).re k with h | ⟨j,hj,h,hr⟩
   ·rw[h]at hx;exact absurd (by decide) hx
   ·rw[h,Int.toNat_natCast,cE hj]
    unfold iJ at hr
    simp only[Bool.and_eq_true,beq_iff_eq]at hr
    exact hr.1
  have iV:((aD l s).lv.any fun f=>(be (ay l k s).bk ((an l (b9 l (aD l s).re k).toNat).so,f)).isSome||!(an l (b9 l (aD l s).re k).toNat).lv.contains f)=!(aD l s).lv.all (ou l (bn l k s) s (an l (b9 l (aD l s).re k).toNat) (aD l s)):=by
   rw[nu,List.not_all_eq_any_not]
   congr 1
   funext f
   rw[abM h]
   unfold ou
   rw[Bool.not_and,Bool.or_comm]
  show (if (bG (aD l s).kn (aD l s).un k&&!(decide (bH (aD l s).lo ((an l (b9 l (aD l s).re k).toNat).da+1)>(aD l s).hi)||(aD l s).lv.any fun f=>(be (ay l k s).bk ((an l (b9 l (aD l s).re k).toNat).so,f)).isSome||!(an l (b9 l (aD l s).re k).toNat).lv.contains f))=true then _ else _)=_
  rw[iV]
  unfold lH
  cases bG (aD l s).kn (aD l s).un k<;>cases decide (bH (aD l s).lo ((an l (b9 l (aD l s).re k).toNat).da+1)>(aD l s).hi)<;>cases (aD l s).lv.all (ou l (bn l k s) s (an l (b9 l (aD l s).re k).toNat) (aD l s))<;>rfl
theorem yI(l:Led)(k:Int):∀ s,s<=l.ts.length->BB l k s
 | 0,_=>by
   have hf:∀ j,¬ (bn l k 0).getD j false=true:=fun j h=>absurd (vW h) (Nat.not_lt_zero j)
   exact⟨fun j=>⟨fun h=>(hf j h).elim,fun h=>(nomatch h)⟩,List.nodup_nil,fun j h=>(nomatch h),fun so f i h=>(nomatch h),fun j h=>(hf j h).elim,fun j h=>(hf j h).elim⟩
 |s+1,hs=>by
  have ih:=yI l k s (by omega)
  have hn:=C5 ih
  have dq:=fun j=>Hp l k (s:=s) (j:=j) (by omega)
  by_cases hb:gg l k (bn l k s) s=true
  ·rw[if_pos hb]at hn
   have e:=zt hn
   obtain⟨su,-,-,xa⟩:=Ju hn
   obtain⟨Mj,cf⟩:=p8 su
   have ny:lW (bd l k) (aD l s).re=an l (b9 l (aD l s).re k).toNat:=by unfold lW;rw[su];rfl
   generalize an l (b9 l (aD l s).re k).toNat=r at *
   have gG:∀ f∈(aD l s).lv,be (ay l k s).bk (r.so,f)=none:=fun f hf=>by
    have :=List.any_eq_false.1 xa f hf
    unfold iD at this
    simp only[Bool.or_eq_true,not_or,Option.isSome_iff_ne_none,ne_eq,Decidable.not_not]at this
    exact this.1
   rw[hb]at dq
   have si:∀ j:Nat,(bn l k (s+1)).getD j false=true↔(j:Int)∈(ay l k (s+1)).ts:=fun j=>by
    rw[dq,e]
    show _↔(j:Int)∈(ay l k s).ts++[(s:Int)]
    rw[List.mem_append,List.mem_singleton]
    by_cases hj:j=s
    ·subst hj;simp
    ·rw[if_neg hj,ih.ts j]
     constructor
     ·exact .inl
     ·rintro(h | h)
      ·exact h
      ·exact(hj (by omega)).elim
   refine⟨si,?_,?_,?_,?_,?_⟩
   ·rw[e]
    refine List.nodup_append.2 ⟨ih.tn,by simp,fun a ha b dr sS=>?_⟩
    have :=ih.tl a ha
    simp only[List.mem_singleton]at dr
    omega
   ·intro j hj
    rw[e]at hj
    rcases List.mem_append.1 hj with hj | hj
    ·have:=ih.tl j hj;omega
    ·simp only[List.mem_singleton]at hj;omega
   ·intro so f i h
    rw[e]at h
    simp only[A']at h
    split at h
    ·rename_i hc
     cases h
     refine⟨s,rfl,by rw[dq,if_pos rfl],?_,hc.2⟩
     rw[<-cf];exact hc.1.symm
    ·obtain⟨j,rfl,h1,h2,h3⟩:=ih.bk1 so f i h
     have :=vW h1
     exact⟨j,rfl,by rw[dq,if_neg (by omega)];exact h1,h2,h3⟩
   ·intro j h1 f hf
    rw[dq]at h1
    rw[e]
    simp only[A']
    by_cases hj:j=s
    ·subst hj
     rw[if_pos ⟨cf.symm,hf⟩]
    ·rw[if_neg hj]at h1
     have h4:=ih.bk2 j h1 f hf
     rw[if_neg,h4]
     rintro⟨h5,h6⟩
     have :=gG f h6
     rw[<-h5,h4]at this
     cases this
   ·intro j h1
    rw[dq]at h1
    rw[e]
    show aV (nL (ay l k s).ds s (bH (aD l s).lo (r.da+1),(aD l s).hi)) j=_
    rw[xO]
    by_cases hj:j=s
    ·subst hj
     rw[if_pos rfl,ny]
    ·rw[if_neg hj]at h1
     rw[if_neg (by omega)]
     exact ih.ds j h1
  ·rw[if_neg hb]at hn
   have e:=uN hn
   have e2:bn l k (s+1)=bn l k s:=yG l k (by simpa using hb)
   exact⟨by rw[e,e2];exact ih.ts,by rw[e];exact ih.tn,fun j hj=>by rw[e]at hj;have:=ih.tl j hj;omega,by rw[e,e2];exact ih.bk1,by rw[e,e2];exact ih.bk2,by rw[e,e2];exact ih.ds⟩
theorem jN(l:Led)(k:Int):BB l k l.ts.length:=yI l k _ (Nat.le_refl _)
theorem wm(l:Led)(k:Int)(i:Nat)(f:Int):dn (aU l k) i f=(be (aw l k).bk ((an l i).so,f)).getD (-1):=by
 have hi:=jN l k
 show _=(be (ay l k l.ts.length).bk ((an l i).so,f)).getD (-1)
 cases hb:be (ay l k l.ts.length).bk ((an l i).so,f)with
 |none=>
  refine Ik fun m _ hm=>?_
  show ji (aU l k) (an l i).so f m=false
  rw[Bool.eq_false_iff]
  intro h
  unfold ji at h
  simp only[Bool.and_eq_true,beq_iff_eq,List.contains_iff_mem]at h
  have h1:(bn l k l.ts.length).getD m false=true:=h.1.1
  have :=hi.bk2 m h1 f h.2
  have h2:(aD l m).re=(an l i).so:=h.1.2
  rw[h2,hb]at this
  cases this
 |some q=>
  obtain⟨j,rfl,h1,h2,h3⟩:=hi.bk1 _ _ _ hb
  refine Il (j:=j) ?_ ?_ ?_
  ·show j<(bn l k l.ts.length).length
   rw[k9];exact vW h1
  ·show (((bn l k l.ts.length).getD j false&&(aD l j).re==(an l i).so)&&(aD l j).lv.contains f)=true
   rw[h1,h2]
   simp[h3]
  ·intro m _ mg
   show ji (aU l k) (an l i).so f m=false
   rw[Bool.eq_false_iff]
   intro h
   unfold ji at h
   simp only[Bool.and_eq_true,beq_iff_eq,List.contains_iff_mem]at h
   have h4:(bn l k l.ts.length).getD m false=true:=h.1.1
   have :=hi.bk2 m h4 f h.2
   have h5:(aD l m).re=(an l i).so:=h.1.2
   rw[h5,hb]at this
   have :(j:Int)=m:=Option.some.inj this
   omega
def wA(v:Int×Int)(da:Int)(os:List Rec):Int×Int:=os.foldl (fun v o=>if o.da>da then(bH v.1 0,dh v.2 o.da)else v) v
def jx(h da:Int)(os:List Rec):Int:=os.foldl (fun h o=>if o.da>da then dh h o.da else h) h
theorem TW{v:Int×Int}{da:Int}(os:List Rec)(h:0<=v.1):wA v da os=(v.1,jx v.2 da os):=by
 induction os generalizing v with
 |nil=>rfl
 |cons o r ih=>
  show wA (if o.da>da then(bH v.1 0,dh v.2 o.da)else v) da r=(v.1,jx (if o.da>da then dh v.2 o.da else v.2) da r)
  by_cases hc:o.da>da
  ·rw[if_pos hc,if_pos hc]
   have :bH v.1 0=v.1:=by unfold bH;rw[if_neg (by omega)]
   rw[this]
   exact ih (v:=(v.1,dh v.2 o.da)) h
  ·rw[if_neg hc,if_neg hc,ih h]
theorem TY(d:Ds)(i da:Int)(os:List Rec)(j:Int):aV (jV d i da os) j=if i=j then wA (aV d i) da os else aV d j:=by
 induction os generalizing d with
 |nil=>
  show aV d j=if i=j then aV d i else aV d j
  split
  ·rename_i h;rw[h]
  ·rfl
 |cons o r ih=>
  show aV (jV (if o.da>da then jW d i ⟨0,o.da⟩else d) i da r) j=if i=j then wA (if o.da>da then(bH (aV d i).1 0,dh (aV d i).2 o.da)else aV d i) da r else aV d j
  rw[ih]
  by_cases hc:o.da>da
  ·rw[if_pos hc,if_pos hc]
   unfold jW
   rw[xO,if_pos rfl,xO]
   by_cases bD:i=j
   ·rw[if_pos bD,if_pos bD]
   ·rw[if_neg bD,if_neg bD,if_neg bD]
  ·rw[if_neg hc,if_neg hc]
theorem Fm{ts:List Int}{m:Nat}(h:m<ts.length):ts.take (m+1)=ts.take m++[ts.getD m 0]:=by
 rw[List.take_add_one,List.getD_eq_getElem?_getD,List.getElem?_eq_getElem h];rfl
theorem JN(l:Led)(rs:List Rec)(ts:List Int)(d:Ds)(hn:ts.Nodup):∀ m,m<=ts.length->∀ j,aV (gj l rs ts d m) j=
 if j∈ts.take m then wA (aV d j) (lW rs (aD l j.toNat).re).da (cU rs (lW rs (aD l j.toNat).re).pa (aD l j.toNat).lv)else aV d j
 | 0,_,j=>by rw[if_neg (by simp)];rfl
 |m+1,hm,j=>by
  have ih:=JN l rs ts d hn m (by omega)
  rw[gj,TY,Fm (by omega)]
  have z7:ts.getD m 0∉ts.take m:=by
   have h1:(ts.take (m+1)).Nodup:=hn.sublist (List.take_sublist _ _)
   rw[Fm (by omega)]at h1
   have :=(List.nodup_append.1 h1).2.2
   exact fun h=>this _ h _ (List.mem_singleton.2 rfl) rfl
  by_cases hj:ts.getD m 0=j
  ·subst hj
   rw[if_pos rfl,ih,if_neg z7,if_pos (by simp)]
  ·rw[if_neg hj,ih]
   have e:(j∈ts.take m++[ts.getD m 0])↔j∈ts.take m:=by
    rw[List.mem_append,List.mem_singleton]
    exact⟨fun h=>h.elim id fun h=>(hj h.symm).elim,.inl⟩
   simp only[e]
theorem Um(a b:Int):dh (dh a b) b=dh a b:=by
 unfold dh
 by_cases h:b<a
 ·rw[if_pos h,if_neg (by omega)]
 ·rw[if_neg h,if_neg h]
theorem PC{α:Type}(c:Bool)(p:α->Bool)(l:List α):(l.any fun n=>c&&p n)=(c&&l.any p):=by cases c<;>simp
theorem O3(x:RV)(r:Rec)(lv:List Int)(i:Nat)(hi:Int):∀ m,xX x r lv i hi m=if (List.range m).any (wG x r lv i)=true then dh hi (an x.l i).da else hi
 | 0=>rfl
 |m+1=>by
  rw[xX,O3 x r lv i hi m,List.range_succ,List.any_append]
  by_cases h1:(List.range m).any (wG x r lv i)=true
  ·rw[h1,if_pos rfl,Bool.true_or,if_pos rfl,Um]
   split<;>rfl
  ·rw[if_neg h1]
   have fA:(List.range m).any (wG x r lv i)=false:=by simpa using h1
   rw[fA]
   simp only[List.any_cons,List.any_nil,Bool.or_false,Bool.false_or]
theorem abJ{α:Type}(p:α->Bool)(lv:List α)(d:α):((List.range lv.length).any fun j=>p (lv.getD j d))=lv.any p:=by
 rw[Bool.eq_iff_iff,List.any_eq_true,List.any_eq_true]
 constructor
 ·rintro⟨j,hj,hp⟩
  have fy:j<lv.length:=by simpa using hj
  rw[cz fy]at hp
  exact⟨_,List.getElem_mem fy,hp⟩
 ·rintro⟨a,ha,hp⟩
  obtain⟨j,hj,rfl⟩:=List.getElem_of_mem ha
  exact⟨j,by simpa using hj,by rw[cz hj];exact hp⟩
def xl(k:Int)(r:Rec)(lv:List Int)(o:Rec):Bool:=decide (o.da>r.da)&&(bG o.kn o.un k&&fY r.pa lv o)
theorem Gz(a b:List Int):(a.any fun n=>b.contains n)=b.any fun n=>a.contains n:=by
 rw[Bool.eq_iff_iff,List.any_eq_true,List.any_eq_true]
 constructor<;>(rintro⟨n,h1,h2⟩;exact⟨n,List.contains_iff_mem.1 h2,List.contains_iff_mem.2 h1⟩)
theorem Ud(x:RV)(r:Rec)(lv:List Int)(i:Nat):(List.range lv.length).any (wG x r lv i)=xl x.k r lv (an x.l i):=by
 have :=abJ (fun n=>decide ((an x.l i).da>r.da)&&dK x.k ⟨r.pa,n⟩ (an x.l i)) lv 0
 refine this.trans ?_
 unfold xl fY
 rw[PC,Gz]
 congr 1
 show (lv.any fun n=>(bG (an x.l i).kn (an x.l i).un x.k&&(an x.l i).pa==r.pa)&&(an x.l i).lv.contains n)=_
 rw[PC,Bool.and_assoc]
theorem O2(x:RV)(r:Rec)(t:Ret):∀ m,m<=x.l.rs.length->tu x r t m=(x.l.rs.take m).foldl (fun h o=>if xl x.k r t.lv o=true then dh h o.da else h) t.hi
 | 0,_=>rfl
 |m+1,hm=>by
  rw[tu,O3,Ud,O2 x r t m (by omega),List.take_add_one,List.getElem?_eq_getElem (by omega),List.foldl_append,cE (by omega)]
  rfl
theorem O1(l:Led)(k:Int)(r:Rec)(t:Ret):tu (aU l k) r t l.rs.length=jx t.hi r.da (cU (bd l k) r.pa t.lv):=by
 have h:=O2 (aU l k) r t l.rs.length (Nat.le_refl _)
 refine h.trans ?_
 show (l.rs.take l.rs.length).foldl _ _=_
 rw[List.take_length]
 unfold jx cU bd
 rw[List.foldl_filter,List.foldl_filter]
 congr 1
 funext h o
 show (if xl k r t.lv o=true then dh h o.da else h)=_
 unfold xl
 by_cases h1:bG o.kn o.un k=true
 ·rw[if_pos h1]
  by_cases h2:fY r.pa t.lv o=true
  ·rw[if_pos h2,h1,h2];simp
  ·rw[if_neg h2];simp[h2]
 ·rw[if_neg h1];simp[h1]
theorem Hn{l:Led}{k:Int}{row:List Bool}{i:Nat}(h:gg l k row i=true):∃ q,∃ hq:q<l.rs.length,b9 l (aD l i).re k=(q:Int)/\iJ (aD l i).re k l.rs[q]=true:=by
 rcases um l (aD l i).re k with h2 | ⟨q,hq,h2,h3⟩
 ·exact absurd (by rw[h2];decide) (Ht h)
 ·exact⟨q,hq,h2,h3⟩
theorem OX{l:Led}(aa:bE l)(k:Int){j:Nat}(h:(bn l k l.ts.length).getD j false=true):xW (aU l k) j=⟨(aV (aw l k).ds j).1,(aV (aw l k).ds j).2⟩:=by
 have hi:=jN l k
 obtain⟨dM,j5⟩:=vX l k h
 obtain⟨q,hq,hx,hr⟩:=Hn j5
 have su:lW (bd l k) (aD l j).re=an l q:=by
  unfold lW
  rw[Cy,hx,if_neg (by omega),Int.toNat_natCast];rfl
 have qJ:0<=(an l q).da:=by rw[cE hq];exact(zh aa (List.getElem_mem hq)).1
 have h1:aV (aw l k).ds j=(bH (aD l j).lo ((an l q).da+1),jx (aD l j).hi (an l q).da (cU (bd l k) (an l q).pa (aD l j).lv)):=by
  show aV (gj l (bd l k) (ay l k l.ts.length).ts (ay l k l.ts.length).ds (ay l k l.ts.length).ts.length) j=_
  rw[JN _ _ _ _ hi.tn _ (Nat.le_refl _),List.take_length,if_pos ((hi.ts j).1 h),hi.ds j h,Int.toNat_natCast,su]
  exact TW _ (by show 0<=bH _ _;unfold bH;split<;>omega)
 rw[h1]
 unfold xW
 rw[if_pos (show (aU l k).ts.getD j false=true from h)]
 show (⟨lH (aD l j) (an l (b9 l (aD l j).re k).toNat),tu (aU l k) (an l (b9 l (aD l j).re k).toNat) (aD l j) l.rs.length⟩:Rg)=_
 rw[hx,Int.toNat_natCast,O1]
 rfl
theorem Jl{k:Int}{r:Rec}{f:Int}(hc:bG r.kn r.un k=true)(hf:f∈r.lv):dK k ⟨r.pa,f⟩ r=true:=by
 unfold dK;simp[hc,hf]
theorem Oq{l:Led}{k:Int}{i j:Nat}(hi:bG (an l i).kn (an l i).un k=true)(hj:bG (an l j).kn (an l j).un k=true):kV (aU l k) i j=qV (aw l k) (an l i) (an l j):=by
 unfold kV qV
 show (an l i).lv.any _=_
 rw[Bool.eq_iff_iff,List.any_eq_true,List.any_eq_true]
 have hb:∀ f∈(an l i).lv,vx (aU l k) i j f=(((an l i).pa==(an l j).pa&&(an l j).lv.contains f)&&((an l i).da==(an l j).da||match be (aw l k).bk ((an l i).so,f)with
  |none=>true
  |some q=>decide (bH (aD (aw l k).l q.toNat).lo ((an l i).da+1)>(an l j).da))):=fun f hf=>by
  unfold vx
  rw[wm]
  show ((dK k ⟨(an l i).pa,f⟩ (an l i)&&dK k ⟨(an l i).pa,f⟩ (an l j))&&(((an l i).da==(an l j).da||decide ((be (aw l k).bk ((an l i).so,f)).getD (-1)<0))||decide (lH (aD l ((be (aw l k).bk ((an l i).so,f)).getD (-1)).toNat) (an l i)>(an l j).da)))=_
  rw[Jl hi hf]
  have h2:dK k ⟨(an l i).pa,f⟩ (an l j)=((an l i).pa==(an l j).pa&&(an l j).lv.contains f):=by
   unfold dK
   rw[hj,Bool.true_and]
   congr 1
   rw[Bool.eq_iff_iff,beq_iff_eq,beq_iff_eq]
   exact eq_comm
  rw[h2,Bool.true_and]
  congr 1
  cases aI:be (aw l k).bk ((an l i).so,f)with
  |none=>simp
  |some q=>
   have hq:0<=q:=by
    obtain⟨m,rfl,-⟩:=(jN l k).bk1 _ _ _ aI
    omega
   have hl:(aw l k).l=l:=(pn l k l.ts.length).1
   simp only[Option.getD_some,hl,lH]
   have :decide (q<0)=false:=by simpa using hq
   rw[this,Bool.or_false]
   rfl
 constructor
 ·rintro⟨f,hf,h⟩;exact⟨f,hf,(hb f hf).symm.trans h⟩
 ·rintro⟨f,hf,h⟩;exact⟨f,hf,(hb f hf).trans h⟩
theorem FT(l:Led)(k:Int)(a m:Nat):ir (aU l k) a m=if (an l a).da>(an l m).da then kV (aU l k) m a else kV (aU l k) a m:=rfl
theorem FU{l:Led}{k:Int}{i j:Nat}(hi:bG (an l i).kn (an l i).un k=true)(hj:bG (an l j).kn (an l j).un k=true):ir (aU l k) i j=gf (aw l k) (an l i) (an l j):=by
 unfold ir gf
 show (if (an l i).da>(an l j).da then kV (aU l k) j i else kV (aU l k) i j)=_
 rw[Oq hi hj,Oq hj hi]
theorem Ot{l:Led}{k:Int}{i j:Nat}(h:kV (aU l k) i j=true):bG (an l i).kn (an l i).un k=true/\bG (an l j).kn (an l j).un k=true:=by
 unfold kV at h
 obtain⟨f,-,h⟩:=List.any_eq_true.1 h
 unfold vx dK at h
 simp only[Bool.and_eq_true]at h
 exact⟨h.1.1.1.1,h.1.2.1.1⟩
theorem FV{l:Led}{k:Int}{i j:Nat}(h:ir (aU l k) i j=true):bG (an l i).kn (an l i).un k=true/\bG (an l j).kn (an l j).un k=true:=by
 unfold ir at h
 split at h
 ·exact(Ot h).symm
 ·exact Ot h
theorem AX(x:RV):fB x=none↔∀ a,a<x.l.rs.length->∀ m,a<m->m<x.l.rs.length->ir x a m=false:=by
 refine⟨fun h a ha m h1 h2=>?_,Ou⟩
 unfold fB at h
 rw[List.findSome?_eq_none_iff]at h
 have :=h a (List.mem_range.2 ha)
 unfold vy at this
 rw[Option.map_eq_none_iff,List.find?_eq_none]at this
 have :=this m (List.mem_range.2 h2)
 simpa[h1]using this
theorem Tm(x:Vw):eC x=none↔x.rs.Pairwise fun a b=>gf x a b=false:=by
 rw[List.pairwise_iff_getElem]
 constructor
 ·intro h i j hi hj bD
  unfold eC at h
  rw[List.findSome?_eq_none_iff]at h
  have :=h i (List.mem_range.2 hi)
  unfold m6 at this
  rw[Option.map_eq_none_iff,List.find?_eq_none]at this
  have hm:x.rs[j]∈x.rs.drop (i+1):=by
   rw[List.mem_iff_getElem]
   exact⟨j-(i+1),by rw[List.length_drop];omega,by rw[List.getElem_drop];congr 1;omega⟩
  have h2:=this _ hm
  rw[cz hi]at h2
  simpa using h2
 ·intro h
  refine CJ fun i hi=>zb hi fun m hm=>?_
  rw[List.length_drop]at hm
  rw[List.getElem_drop]
  exact h i (i+1+m) hi (by omega) (by omega)
theorem IX(l:Led)(k:Int):eC (aw l k)=none↔fB (aU l k)=none:=by
 rw[Tm,AX]
 have cf:(aw l k).rs=bd l k:=(pn l k l.ts.length).2
 rw[cf]
 unfold bd
 rw[List.pairwise_filter,List.pairwise_iff_getElem]
 constructor
 ·intro h a ha m h1 h2
  show ir (aU l k) a m=false
  rw[Bool.eq_false_iff]
  intro hd
  have kg:=hd
  obtain⟨c1,c2⟩:=FV hd
  rw[FU c1 c2]at kg
  have xA:a<l.rs.length:=ha
  have pI:m<l.rs.length:=h2
  rw[cE xA]at c1 kg
  rw[cE pI]at c2 kg
  rw[h a m xA pI h1 c1 c2]at kg
  cases kg
 ·intro h i j hi hj bD c1 c2
  have :=h i hi j bD hj
  rw[<-cE hi]at c1 |-
  rw[<-cE hj]at c2 |-
  rw[FU c1 c2]at this
  exact this
theorem TZ{l:Led}{k:Int}(h:fB (aU l k)=none)(f:Fol){i j:Nat}(bD:i<j)(hj:j<l.rs.length)(h1:dK k f (an l i)=true)(h2:dK k f (an l j)=true):(an l i).da≠(an l j).da:=by
 intro he
 have :=(AX _).1 h i (by show i<l.rs.length;omega) j bD hj
 rw[FT,if_neg (show ¬ (an l i).da>(an l j).da by omega)]at this
 unfold kV at this
 have hf:f.le∈(an l i).lv:=by unfold dK at h1;simp at h1;exact h1.2
 have hp:(an l i).pa=f.pa:=by unfold dK at h1;simp at h1;exact h1.1.2
 have h3:=List.any_eq_false.1 this f.le hf
 apply h3
 unfold vx
 show ((dK k ⟨(an l i).pa,f.le⟩ (an l i)&&dK k ⟨(an l i).pa,f.le⟩ (an l j))&&(((an l i).da==(an l j).da||_)||_))=true
 rw[hp]
 have e:(⟨f.pa,f.le⟩:Fol)=f:=rfl
 rw[e,h1,h2,he]
 simp
theorem at_last{l:Led}{k:Int}(h:fB (aU l k)=none)(f:Fol)(day:Int):∀ s,s<=l.rs.length->
 (fG (aU l k) f day s= -1/\((l.rs.take s).filter (dK k f)).foldl (jb day) none=none)\/
   ∃ q,q<s/\fG (aU l k) f day s=(q:Int)/\dK k f (an l q)=true/\((l.rs.take s).filter (dK k f)).foldl (jb day) none=some (an l q)
 | 0,_=>.inl ⟨rfl,rfl⟩
 |s+1,hs=>by
  have ih:=at_last h f day s (by omega)
  have ig:s<l.rs.length:=by omega
  have e1:l.rs.take (s+1)=l.rs.take s++[an l s]:=by
   rw[List.take_add_one,List.getElem?_eq_getElem ig,cE ig];rfl
  rw[e1,List.filter_append]
  have e2:fG (aU l k) f day (s+1)=if ((dK k f (an l s)&&decide ((an l s).da<=day))&&(decide (fG (aU l k) f day s<0)||decide ((an l s).da>(an l (fG (aU l k) f day s).toNat).da)))=true then(s:Int)else fG (aU l k) f day s:=rfl
  rw[e2]
  cases ho:dK k f (an l s)with
  |false=>
   rw[show [an l s].filter (dK k f)=[]by simp[ho],List.append_nil]
   simp only[Bool.false_and,Bool.false_eq_true,if_false]
   rcases ih with h | ⟨q,h1,h2⟩
   ·exact .inl h
   ·exact .inr ⟨q,by omega,h2⟩
  |true=>
   rw[show [an l s].filter (dK k f)=[an l s]by simp[ho],List.foldl_append]
   simp only[List.foldl_cons,List.foldl_nil,Bool.true_and]
   rcases ih with⟨h1,h2⟩ | ⟨q,h1,h2,h3,h4⟩
   ·rw[h1,h2]
    unfold jb
    by_cases hd:(an l s).da<=day
    ·exact .inr ⟨s,by omega,by simp[hd],ho,by simp[hd]⟩
    ·exact .inl ⟨by simp[hd],by simp[hd]⟩
   ·rw[h2,h4,Int.toNat_natCast]
    have aG:=TZ h f h1 ig h3 ho
    unfold jb
    have oB:¬ (q:Int)<0:=by omega
    by_cases hd:(an l s).da<=day
    ·by_cases hg:(an l s).da>(an l q).da
     ·refine .inr ⟨s,by omega,by simp[hd,hg],ho,?_⟩
      have :(an l s).da>=(an l q).da:=by omega
      simp[hd,this]
     ·refine .inr ⟨q,by omega,by simp[hg,oB],h3,?_⟩
      have :¬ (an l s).da>=(an l q).da:=by omega
      simp[this]
    ·exact .inr ⟨q,by omega,by simp[hd],h3,by simp[hd]⟩
theorem Qo(l:Led)(k pa le:Int):cU (bd l k) pa [le]=l.rs.filter (dK k ⟨pa,le⟩):=by
 unfold cU bd
 rw[List.filter_filter]
 congr 1
 funext r
 unfold fY dK
 rw[Gz]
 simp only[List.any_cons,List.any_nil,Bool.or_false]
 cases bG r.kn r.un k<;>cases (r.pa==pa)<;>cases r.lv.contains le<;>rfl
theorem JX{l:Led}{k:Int}(h:fB (aU l k)=none)(f:Fol)(day:Int):
 (dR (aU l k) f day= -1/\eJ (bd l k) f.pa f.le day=none)\/∃ q,q<l.rs.length/\dR (aU l k) f day=(q:Int)/\dK k f (an l q)=true/\eJ (bd l k) f.pa f.le day=some (an l q):=by
 have h1:=at_last h f day l.rs.length (Nat.le_refl _)
 rw[List.take_length]at h1
 unfold eJ
 rw[Qo]
 exact h1
def gQ(l:Led)(k:Int)(j:Nat):Prop:=(bn l k l.ts.length).getD j false=true
def Rel(l:Led)(k:Int)(d:List Rg)(D:Ds):Prop:=d.length=l.ts.length/\∀ j:Nat,gQ l k j->eV d j=⟨(aV D j).1,(aV D j).2⟩/\0<=(aV D j).1/\(aV D j).2<=100000
def oV(l:Led)(k:Int)(D:Ds):Prop:=∀ j:Nat,gQ l k j->(aV D j).1<=(aV D j).2
theorem rE{l:Led}{k:Int}{j:Nat}(h:gQ l k j):j<l.ts.length:=vW h
theorem Ft(l:Led)(k:Int)(D:Ds):vl (aw l k).ts D=true↔oV l k D:=by
 have hi:=jN l k
 unfold vl oV gQ
 rw[List.all_eq_true]
 show (∀ i∈(ay l k l.ts.length).ts,_)↔_
 constructor
 ·intro h j hj
  have :=h j ((hi.ts j).1 hj)
  simpa using this
 ·intro h i hm
  have hb:=hi.tl i hm
  obtain⟨j,rfl⟩:∃ j:Nat,i=j:=⟨i.toNat,by omega⟩
  simpa using h j ((hi.ts j).2 hm)
theorem O6{l:Led}{k so f i:Int}(h:be (aw l k).bk (so,f)=some i):∃ j:Nat,i=j/\gQ l k j:=by
 obtain⟨j,e,h1,-⟩:=(jN l k).bk1 _ _ _ h
 exact⟨j,e,h1⟩
theorem SN{d:List Rg}{i:Nat}{r:Rg}(h:i<d.length)(j:Nat):eV (d.set i r) j=if i=j then r else eV d j:=by
 unfold eV
 rw[List.getD_eq_getElem?_getD,List.getElem?_set]
 by_cases bD:i=j
 ·subst bD
  simp[h]
 ·rw[if_neg bD,if_neg bD,List.getD_eq_getElem?_getD]
theorem ql(l:Led)(k:Int):(aw l k).rs=bd l k:=(pn l k l.ts.length).2
theorem Ir{l:Led}{k:Int}{d:List Rg}{D:Ds}(h:Rel l k d D){j:Nat}(hj:gQ l k j)(r w:Rg)
 (h1:w=⟨bH (aV D j).1 r.lo,dh (aV D j).2 r.hi⟩):Rel l k (d.set j w) (jW D j r)/\(oV l k (jW D j r)↔(w.lo<=w.hi/\oV l k D)):=by
 have gJ:j<d.length:=by rw[h.1];exact rE hj
 have e:∀ i:Nat,aV (jW D j r) i=if j=i then(w.lo,w.hi)else aV D i:=fun i=>by
  unfold jW
  rw[xO,h1]
  by_cases bD:j=i
  ·subst bD;rw[if_pos rfl,if_pos rfl]
  ·rw[if_neg (by omega),if_neg bD]
 have gH:(aV D j).1<=w.lo:=by rw[h1];show _<=bH _ _;unfold bH;split<;>omega
 have Eu:w.hi<=(aV D j).2:=by rw[h1];show dh _ _<=_;unfold dh;split<;>omega
 refine⟨⟨by rw[List.length_set];exact h.1,fun i hi=>?_⟩,?_⟩
 ·rw[SN gJ,e]
  by_cases bD:j=i
  ·subst bD
   rw[if_pos rfl,if_pos rfl]
   have :=h.2 j hj
   exact⟨rfl,by show 0<=w.lo;omega,by show w.hi<=_;omega⟩
  ·rw[if_neg bD,if_neg bD];exact h.2 i hi
 ·constructor
  ·intro hf
   have fy:=hf j hj
   rw[e,if_pos rfl]at fy
   refine⟨fy,fun i hi=>?_⟩
   by_cases bD:j=i
   ·subst bD
    have :w.lo<=w.hi:=fy
    omega
   ·have:=hf i hi
    rw[e,if_neg bD]at this
    exact this
  ·rintro⟨hw,hf⟩ i hi
   rw[e]
   by_cases bD:j=i
   ·rw[if_pos bD];exact hw
   ·rw[if_neg bD];exact hf i hi
theorem TQ{l:Led}(aa:bE l){k:Int}(h0:fB (aU l k)=none){d:List Rg}{D:Ds}(h:Rel l k d D)(s:Sig):
 Rel l k (jU (aU l k) d s).1 (fZ (aw l k) D s)/\(((jU (aU l k) d s).2=true/\oV l k D)↔(eO (aw l k) s=true/\oV l k (fZ (aw l k) D s))):=by
 have cf:=ql l k
 rcases JX h0 ⟨s.pa,s.le⟩ s.da with⟨e1,e2⟩ | ⟨q,hq,e1,-,e2⟩
 ·have vp:eJ (aw l k).rs s.pa s.le s.da=none:=by rw[cf];exact e2
  rw[TS e1]
  have hw:bp (aw l k) s=if s.pe=0 then(-1,cv)else(-1,ct):=by unfold bp;rw[vp]
  have hf:fZ (aw l k) D s=D:=by unfold fZ;rw[hw];split<;>rfl
  have hm:eO (aw l k) s=(s.pe==0):=by
   unfold eO;rw[hw]
   by_cases hp:s.pe=0
   ·rw[if_pos hp,hp];rfl
   ·rw[if_neg hp]
    have :(s.pe==0)=false:=by simpa using hp
    rw[this];rfl
  rw[hf,hm]
  exact⟨h,Iff.rfl⟩
 ·have vp:eJ (aw l k).rs s.pa s.le s.da=some (an l q):=by rw[cf];exact e2
  have E2:1<=(an l q).bo:=by
   rw[cE hq]
   have :=aa.recs _ (List.getElem_mem hq)
   unfold dJ cb at this
   simp only[Bool.and_eq_true,decide_eq_true_eq]at this
   exact this.1.1.1.1.2.1
  have dX:=wm l k q s.le
  cases aI:be (aw l k).bk ((an l q).so,s.le)with
  |none=>
   rw[aI]at dX
   rw[TR e1 dX]
   have hw:bp (aw l k) s=if s.pe=(an l q).bo then(-1,cv)else(-1,ct):=by unfold bp;rw[vp];simp only[aI]
   have hf:fZ (aw l k) D s=D:=by unfold fZ;rw[hw];split<;>rfl
   have hm:eO (aw l k) s=(s.pe==(an l q).bo):=by
    unfold eO;rw[hw]
    by_cases hp:s.pe=(an l q).bo
    ·rw[if_pos hp,hp,beq_self_eq_true];rfl
    ·rw[if_neg hp]
     have :(s.pe==(an l q).bo)=false:=by simpa using hp
     rw[this];rfl
   rw[hf,hm]
   exact⟨h,Iff.rfl⟩
  |some i=>
   obtain⟨j,rfl,hj⟩:=O6 aI
   rw[aI]at dX
   have D5:dn (aU l k) q s.le=(j:Int):=dX
   have hw:bp (aw l k) s=if s.pe=0 then((j:Int),(⟨0,s.da⟩:Rg))else if s.pe=(an l q).bo then((j:Int),(⟨s.da+1,100000⟩:Rg))else(-1,ct):=by unfold bp;rw[vp];simp only[aI]
   obtain⟨dY,fJ,Xx⟩:=h.2 j hj
   have cG:(j:Int)>=0:=by omega
   by_cases oC:s.pe=0
   ·have xh:(s.pe==(an l q).bo)=false:=by rw[beq_eq_false_iff_ne];omega
    rw[TV e1 D5 xh (by rw[oC];rfl)]
    have hf:fZ (aw l k) D s=jW D j ⟨0,s.da⟩:=by unfold fZ;rw[hw,if_pos oC];exact if_pos cG
    have hm:eO (aw l k) s=true:=by unfold eO;rw[hw,if_pos oC];simp
    rw[hf,hm]
    obtain⟨g1,g2⟩:=Ir h hj ⟨0,s.da⟩ ⟨(eV d j).lo,dh (eV d j).hi s.da⟩ (by rw[dY];show (⟨(aV D j).1,dh (aV D j).2 s.da⟩:Rg)=⟨bH (aV D j).1 0,dh (aV D j).2 s.da⟩;unfold bH;rw[if_neg (by omega)])
    refine⟨g1,?_⟩
    rw[g2]
    simp
   ·by_cases uW:s.pe=(an l q).bo
    ·have xh:(s.pe==(an l q).bo)=true:=by rw[beq_iff_eq];exact uW
     rw[TU e1 D5 xh]
     have hf:fZ (aw l k) D s=jW D j ⟨s.da+1,100000⟩:=by unfold fZ;rw[hw,if_neg oC,if_pos uW];exact if_pos cG
     have hm:eO (aw l k) s=true:=by unfold eO;rw[hw,if_neg oC,if_pos uW];simp
     rw[hf,hm]
     obtain⟨g1,g2⟩:=Ir h hj ⟨s.da+1,100000⟩ ⟨bH (eV d j).lo (s.da+1),(eV d j).hi⟩ (by rw[dY];show (⟨bH (aV D j).1 (s.da+1),(aV D j).2⟩:Rg)=⟨bH (aV D j).1 (s.da+1),dh (aV D j).2 100000⟩;unfold dh;rw[if_neg (by omega)])
     refine⟨g1,?_⟩
     rw[g2]
     simp
    ·have xh:(s.pe==(an l q).bo)=false:=by rw[beq_eq_false_iff_ne];exact uW
     rw[TT e1 D5 xh (by rw[beq_eq_false_iff_ne];exact oC)]
     have hf:fZ (aw l k) D s=D:=by unfold fZ;rw[hw,if_neg oC,if_neg uW];rfl
     have hm:eO (aw l k) s=false:=by unfold eO;rw[hw,if_neg oC,if_neg uW];rfl
     rw[hf,hm]
     exact⟨h,by simp⟩
theorem HN(l:Led)(k:Int):∀ n,n<=l.ss.length->(wc (aU l k) n).map (fun i=>gh l i.toNat)=(l.ss.take n).filter fun s=>bG s.kn s.un k
 | 0,_=>rfl
 |n+1,hn=>by
  rw[wc,List.take_add_one,List.getElem?_eq_getElem (by omega),List.filter_append,<-HN l k n (by omega)]
  have e:gh (aU l k).l n=l.ss[n]'(by omega):=HD (l:=l) (by omega)
  rw[e]
  show (if bG _ _ k=true then _ else _:List Int).map _=_
  by_cases hc:bG (l.ss[n]'(by omega)).kn (l.ss[n]'(by omega)).un k=true
  ·rw[if_pos hc,List.map_append]
   simp only[Option.toList,List.filter_cons,hc,if_true,List.filter_nil,List.map_cons,List.map_nil,Int.toNat_natCast,HD (show n<l.ss.length by omega)]
  ·rw[if_neg hc]
   simp[hc]
theorem Q'(l:Led)(k:Int):(we l k).map (fun i=>gh l i.toNat)=fb l k:=by
 unfold we fb
 rw[HN l k _ (Nat.le_refl _),List.take_length]
theorem N9{l:Led}(aa:bE l){k:Int}(h0:fB (aU l k)=none){D0:Ds}(hD:D0=(aw l k).ds)(hr:Rel l k (tr (aU l k) l.ts.length) D0)(hf:oV l k D0)(is:List Int):∀ m,m<=is.length->
 Rel l k (pM (aU l k) is m).1 (dI (aw l k) D0 ((is.take m).map fun i=>gh l i.toNat))/\
  ((pM (aU l k) is m).2=true↔(((is.take m).map fun i=>gh l i.toNat).all (eO (aw l k))=true/\oV l k (dI (aw l k) D0 ((is.take m).map fun i=>gh l i.toNat))))
 | 0,_=>⟨hr,⟨fun _=>⟨rfl,hf⟩,fun _=>rfl⟩⟩
 |m+1,hm=>by
  obtain⟨i1,i2⟩:=N9 aa h0 hD hr hf is m (by omega)
  have e:(is.take (m+1)).map (fun i=>gh l i.toNat)=(is.take m).map (fun i=>gh l i.toNat)++[gh l (is.getD m 0).toNat]:=by
   rw[Fm (by omega),List.map_append];rfl
  rw[e,List.all_append,pM]
  have e2:dI (aw l k) D0 ((is.take m).map (fun i=>gh l i.toNat)++[gh l (is.getD m 0).toNat])=fZ (aw l k) (dI (aw l k) D0 ((is.take m).map fun i=>gh l i.toNat)) (gh l (is.getD m 0).toNat):=by
   unfold dI
   rw[List.foldl_append];rfl
  rw[e2]
  obtain⟨s1,s2⟩:=TQ aa h0 i1 (gh l (is.getD m 0).toNat)
  refine⟨s1,?_⟩
  show ((pM (aU l k) is m).2&&(jU (aU l k) (pM (aU l k) is m).1 (gh l (is.getD m 0).toNat)).2)=true↔_
  rw[Bool.and_eq_true,i2,Bool.and_eq_true]
  simp only[List.all_cons,List.all_nil,Bool.and_true]
  constructor
  ·rintro⟨⟨a,b⟩,c⟩
   obtain⟨d1,d2⟩:=s2.1 ⟨c,b⟩
   exact⟨⟨a,d1⟩,d2⟩
  ·rintro⟨⟨a,b⟩,c⟩
   obtain⟨d1,d2⟩:=s2.2 ⟨b,c⟩
   exact⟨⟨a,d2⟩,d1⟩
theorem Yh(b h da:Int)(os:List Rec)(h1:b<=h)(h2:∀ o∈os,o.da>da->b<=o.da):b<=jx h da os:=by
 induction os generalizing h with
 |nil=>exact h1
 |cons o r ih=>
  show b<=jx (if o.da>da then dh h o.da else h) da r
  refine ih _ ?_ fun o' h'=>h2 o' (by simp[h'])
  split
  ·rename_i hc
   have :=h2 o (by simp) hc
   unfold dh
   split<;>omega
  ·exact h1
theorem Yg(h da:Int)(os:List Rec):jx h da os<=h:=by
 induction os generalizing h with
 |nil=>exact Int.le_refl _
 |cons o r ih=>
  show jx (if o.da>da then dh h o.da else h) da r<=h
  refine Int.le_trans (ih _) ?_
  split
  ·unfold dh;split<;>omega
  ·exact Int.le_refl _
theorem AO{l:Led}(aa:bE l){k:Int}{j:Nat}(h:gQ l k j):∃ q,∃ hq:q<l.rs.length,b9 l (aD l j).re k=(q:Int)/\iJ (aD l j).re k (an l q)=true/\
 aV (aw l k).ds j=(lH (aD l j) (an l q),jx (aD l j).hi (an l q).da (cU (bd l k) (an l q).pa (aD l j).lv)):=by
 obtain⟨dM,j5⟩:=vX l k h
 obtain⟨q,hq,hx,hr⟩:=Hn j5
 refine⟨q,hq,hx,by rw[cE hq];exact hr,?_⟩
 have e:=OX aa k h
 unfold xW at e
 rw[if_pos (show (aU l k).ts.getD j false=true from h)]at e
 have e':(⟨lH (aD l j) (an l (b9 l (aD l j).re k).toNat),tu (aU l k) (an l (b9 l (aD l j).re k).toNat) (aD l j) l.rs.length⟩:Rg)=⟨(aV (aw l k).ds j).1,(aV (aw l k).ds j).2⟩:=e
 rw[hx,Int.toNat_natCast,O1]at e'
 injection e' with a b
 exact Prod.ext a.symm b.symm
theorem abk{l:Led}(aa:bE l)(k:Int):Rel l k (tr (aU l k) l.ts.length) (aw l k).ds:=by
 refine⟨aa' _ _,fun j hj=>?_⟩
 have gJ:=rE hj
 obtain⟨q,hq,-,-,hd⟩:=AO aa hj
 refine⟨?_,?_,?_⟩
 ·have:eV (tr (aU l k) l.ts.length) j=xW (aU l k) j:=by
    unfold eV tr
    rw[List.getD_eq_getElem?_getD,List.getElem?_map,List.getElem?_range gJ];rfl
  rw[this]
  exact OX aa k hj
 ·rw[hd]
  have :0<=(an l q).da:=by rw[cE hq];exact(zh aa (List.getElem_mem hq)).1
  show 0<=bH _ _
  unfold bH;split<;>omega
 ·rw[hd]
  refine Int.le_trans (Yg _ _ _) ?_
  have e:aD l j=l.ts[j]:=cz gJ
  have :=mA aa.ts gJ
  unfold jR dayB cb at this
  simp only[Bool.and_eq_true,decide_eq_true_eq]at this
  rw[e]
  exact this.1.2.2
theorem O7{l:Led}(aa:bE l){k:Int}(h0:fB (aU l k)=none):oV l k (aw l k).ds:=by
 intro j hj
 obtain⟨q,hq,hx,hr,hd⟩:=AO aa hj
 obtain⟨dM,j5⟩:=vX l k hj
 rw[hd]
 unfold gg at j5
 rw[if_neg (by rw[hx];omega),hx,Int.toNat_natCast]at j5
 simp only[Bool.and_eq_true,Bool.not_eq_true',decide_eq_false_iff_not,List.all_eq_true]at j5
 obtain⟨⟨-,agK⟩,ka⟩:=j5
 refine Yh _ _ _ _ (by omega) fun o ho qJ=>?_
 unfold cU bd at ho
 simp only[List.mem_filter]at ho
 obtain⟨⟨XD,xe⟩,nC⟩:=ho
 obtain⟨m,hm,rfl⟩:=List.getElem_of_mem XD
 rw[<-cE hm]at xe nC qJ |-
 unfold fY at nC
 rw[Gz]at nC
 simp only[Bool.and_eq_true,List.any_eq_true,beq_iff_eq]at nC
 obtain⟨iK,f,M0,EU⟩:=nC
 have Al:=ka f M0
 unfold ou at Al
 simp only[Bool.and_eq_true,List.contains_iff_mem]at Al
 unfold iJ at hr
 simp only[Bool.and_eq_true,beq_iff_eq]at hr
 have aG:m≠q:=fun e=>by subst e;omega
 have nF:kV (aU l k) q m=false:=by
  rcases Nat.lt_or_gt_of_ne aG with ab | MY
  ·have:=(AX _).1 h0 m hm q ab hq
   rw[FT,if_pos (show (an l m).da>(an l q).da from qJ)]at this
   exact this
  ·have:=(AX _).1 h0 q hq m MY hm
   rw[FT,if_neg (show ¬ (an l q).da>(an l m).da by omega)]at this
   exact this
 unfold kV at nF
 have h3:=List.any_eq_false.1 nF f Al.1
 unfold vx at h3
 have h4:dn (aU l k) q f=(j:Int):=by
  rw[wm]
  have :=(jN l k).bk2 j hj f M0
  rw[<-hr.1]at this
  show (be (ay l k l.ts.length).bk ((an l q).so,f)).getD (-1)=_
  rw[this];rfl
 rw[h4]at h3
 have e1:dK (aU l k).k ⟨(an (aU l k).l q).pa,f⟩ (an (aU l k).l q)=true:=Jl hr.2 Al.1
 have e2:dK (aU l k).k ⟨(an (aU l k).l q).pa,f⟩ (an (aU l k).l m)=true:=by
  show dK k ⟨(an l q).pa,f⟩ (an l m)=true
  unfold dK
  simp[xe,iK,List.contains_iff_mem.1 EU]
 rw[e1,e2,Int.toNat_natCast]at h3
 simp only[Bool.true_and,Bool.or_eq_true,decide_eq_true_eq,not_or]at h3
 exact Int.not_lt.1 h3.2
theorem N'{l:Led}(aa:bE l){k:Int}(h0:fB (aU l k)=none):Rel l k (qR l k).1 (bu (aw l k) k).ds/\(qR l k).2=fa (aw l k) (fb l k):=by
 have h:=N9 aa h0 rfl (abk aa k) (O7 aa h0) (we l k) _ (Nat.le_refl _)
 rw[List.take_length,Q']at h
 have hs:(bu (aw l k) k).ds=dI (aw l k) (aw l k).ds (fb l k):=by
  unfold bu;rw[r8]
 rw[hs]
 refine⟨h.1,?_⟩
 rw[Bool.eq_iff_iff]
 unfold fa
 rw[Bool.and_eq_true,Ft]
 exact h.2
theorem B6{l:Led}(aa:bE l)(k:Int):rH l k=eS l k:=by
 unfold rH eS
 rw[r8]
 cases hp:eC (aw l k)with
 |none=>
  have h0:=(IX l k).1 hp
  rw[h0,(N' aa h0).2]
  cases fa (aw l k) (fb l k)<;>rfl
 |some p=>
  have h0:fB (aU l k)≠none:=fun h=>by rw[(IX l k).2 h]at hp;cases hp
  have :(fB (aU l k)).isSome=true:=by rw[Option.isSome_iff_ne_none];exact h0
  rw[this]
  rfl
theorem Q0{l:Led}(aa:bE l){k:Int}(h:eS l k=0):fB (aU l k)=none/\HI l k={ aU l k with ds:=(qR l k).1 }/\Rel l k (qR l k).1 (bu (aw l k) k).ds/\oV l k (bu (aw l k) k).ds:=by
 have hs:rH l k=0:=by rw[B6 aa];exact h
 have h0:fB (aU l k)=none:=by
  unfold rH at hs
  split at hs
  ·cases hs
  ·rename_i hn
   simpa using hn
 have hd:(qR l k).2=true:=by
  unfold rH at hs
  rw[h0]at hs
  cases hb:(qR l k).2 with
  |true=>rfl
  |false=>rw[hb]at hs;cases hs
 obtain⟨h1,h2⟩:=N' aa h0
 refine⟨h0,by unfold HI;rw[if_pos hs],h1,?_⟩
 rw[h2]at hd
 unfold fa at hd
 rw[Bool.and_eq_true,Ft]at hd
 have e:(bu (aw l k) k).ds=dI (aw l k) (aw l k).ds (fb l k):=by
  unfold bu;rw[r8]
 rw[e];exact hd.2
noncomputable section
def acE:List (Nat×Spec):=[]
attribute [go_sem] acE
def acD:List (Nat×Spec):=[(71,BD)]
attribute [go_sem] acD
def acC:List (Nat×Spec):=[(73,vK)]
attribute [go_sem] acC
end
noncomputable section
def K76:List (Nat×Spec):=[]
attribute [go_sem] K76
end
noncomputable section
def K77:List (Nat×Spec):=[(75,nX),(121,S121),(122,S122)]
attribute [go_sem] K77
end
noncomputable section
def K78:List (Nat×Spec):=[(70,ym),(73,vK)]
attribute [go_sem] K78
end
def jm{α:Type}(p:α->α->Bool):List α->Option (α×α)
 |[]=>none
 |a::r=>match r.find? (p a)with
  |some b=>some (a,b)
  |none=>jm p r
theorem CG{α:Type}{p:α->α->Bool}:∀ {L:List α},jm p L=none->∀ i j (hi:i<L.length) (hj:j<L.length),i<j->p L[i] L[j]=false
 |[],_,i,j,hi,_,_=>absurd hi (Nat.not_lt_zero i)
 |a::r,h,i,j,hi,hj,bD=>by
  rw[jm]at h
  split at h
  ·cases h
  ·rename_i hf
   rw[List.find?_eq_none]at hf
   match i,j,bD with
   | 0,j+1,_=>
     have :=hf (r[j]'(by simpa using hj)) (List.getElem_mem _)
     simpa using this
   |i+1,j+1,bD=>exact CG h i j (by simpa using hi) (by simpa using hj) (by omega)
theorem y0{α:Type}{p:α->α->Bool}:∀ {L:List α} {q:α×α},jm p L=some q->∃ i j,∃ (hi:i<L.length) (hj:j<L.length),i<j/\q=(L[i],L[j])/\p L[i] L[j]=true/\
 (∀ m (hm:m<L.length),i<m->m<j->p L[i] L[m]=false)/\∀ a (ha:a<L.length),a<i->∀ m (hm:m<L.length),a<m->p L[a] L[m]=false
 |[],q,h=>by cases h
 |a::r,q,h=>by
  rw[jm]at h
  split at h
  ·rename_i b hf
   cases h
   obtain⟨hp,j,hj,rfl,hn⟩:=List.find?_eq_some_iff_getElem.1 hf
   refine⟨0,j+1,by simp,by simpa using hj,by omega,rfl,hp,fun m hm h1 h2=>?_,fun a ha h=>by omega⟩
   obtain⟨m,rfl⟩:∃ m',m=m'+1:=⟨m-1,by omega⟩
   have :=hn m (by omega)
   simpa using this
  ·rename_i hf
   rw[List.find?_eq_none]at hf
   obtain⟨i,j,hi,hj,bD,hq,hp,h1,h2⟩:=y0 h
   refine⟨i+1,j+1,by simpa using hi,by simpa using hj,by omega,hq,hp,fun m hm h3 h4=>?_,fun a' ha h3 m hm h4=>?_⟩
   ·obtain⟨m,rfl⟩:∃ m',m=m'+1:=⟨m-1,by omega⟩
    exact h1 m (by simpa using hm) (by omega) (by omega)
   ·obtain⟨m,rfl⟩:∃ m',m=m'+1:=⟨m-1,by omega⟩
    match a',ha,h3,h4 with
    | 0,_,_,_=>
      have :=hf (r[m]'(by simpa using hm)) (List.getElem_mem _)
      simpa using this
    |a'+1,ha,h3,h4=>exact h2 a' (by simpa using ha) (by omega) m (by simpa using hm) (by omega)
theorem IS{α:Type}{p:α->α->Bool}{c:α->Bool}:∀ L:List α,jm p (L.filter c)=jm (fun a b=>c a&&(c b&&p a b)) L
 |[]=>rfl
 |a::r=>by
  have ih:=IS (p:=p) (c:=c) r
  by_cases hc:c a=true
  ·rw[List.filter_cons,if_pos hc,jm,jm,List.find?_filter,ih]
   have e:(fun b=>decide (c b=true/\p a b=true))=fun b=>c a&&(c b&&p a b):=by
    funext b
    rw[hc,Bool.true_and]
    cases c b<;>cases p a b<;>rfl
   rw[e]
  ·have gW:c a=false:=by simpa using hc
   rw[List.filter_cons,if_neg hc,ih,jm]
   have e:r.find? (fun b=>c a&&(c b&&p a b))=none:=by
    rw[List.find?_eq_none]
    intro b _
    rw[gW];simp
   rw[e]
theorem za(x:Vw):eC x=(jm (gf x) x.rs).map fun q=>(q.1.so,q.2.so):=by
 cases h:jm (gf x) x.rs with
 |none=>
  refine CJ fun i hi=>zb hi fun m hm=>?_
  rw[List.length_drop]at hm
  rw[List.getElem_drop]
  exact CG h i (i+1+m) hi (by omega) (by omega)
 |some q=>
  obtain⟨i,j,hi,hj,bD,rfl,hp,h1,h2⟩:=y0 h
  have Yc:j-(i+1)<(x.rs.drop (i+1)).length:=by rw[List.length_drop];omega
  have ej:(x.rs.drop (i+1))[j-(i+1)]=x.rs[j]:=by rw[List.getElem_drop];congr 1;omega
  show eC x=some (x.rs[i].so,x.rs[j].so)
  rw[<-ej]
  refine IY hi (fun a ha=>zb (by omega) fun m hm=>?_) (IZ hi Yc (fun m hm mg=>?_) (by rw[ej];exact hp))
  ·rw[List.length_drop]at hm
   rw[List.getElem_drop]
   exact h2 a (by omega) ha (a+1+m) (by omega) (by omega)
  ·rw[List.length_drop]at hm
   rw[List.getElem_drop]
   exact h1 (i+1+m) (by omega) (by omega) (by omega)
theorem aaq(l:Led)(k:Int):fB (aU l k)=(jm (fun a b=>bG a.kn a.un k&&(bG b.kn b.un k&&gf (aw l k) a b)) l.rs).map fun q=>(q.1.so,q.2.so):=by
 have hQ:∀ i j (hi:i<l.rs.length) (hj:j<l.rs.length),ir (aU l k) i j=(bG l.rs[i].kn l.rs[i].un k&&(bG l.rs[j].kn l.rs[j].un k&&gf (aw l k) l.rs[i] l.rs[j])):=fun i j hi hj=>by
  rw[<-cE hi,<-cE hj]
  by_cases c1:bG (an l i).kn (an l i).un k=true
  ·by_cases c2:bG (an l j).kn (an l j).un k=true
   ·rw[FU c1 c2,c1,c2];rfl
   ·have:ir (aU l k) i j=false:=by
      rw[Bool.eq_false_iff];exact fun h=>c2 (FV h).2
    rw[this]
    have c2':bG (an l j).kn (an l j).un k=false:=by simpa using c2
    rw[c2'];simp
  ·have:ir (aU l k) i j=false:=by
     rw[Bool.eq_false_iff];exact fun h=>c1 (FV h).1
   rw[this]
   have c1':bG (an l i).kn (an l i).un k=false:=by simpa using c1
   rw[c1'];rfl
 cases h:jm (fun a b=>bG a.kn a.un k&&(bG b.kn b.un k&&gf (aw l k) a b)) l.rs with
 |none=>
  refine Ou fun a ha m h1 h2=>?_
  have xA:a<l.rs.length:=ha
  have pI:m<l.rs.length:=h2
  rw[hQ a m xA pI]
  exact CG h a m xA pI h1
 |some q=>
  obtain⟨i,j,hi,hj,bD,rfl,hp,h1,h2⟩:=y0 h
  have :=aap (x:=aU l k) (i:=i) (j:=j) hi bD hj (by rw[hQ i j hi hj];exact hp) (fun m h3 h4=>by rw[hQ i m hi (by omega)];exact h1 m (by omega) h3 h4)
   (fun a ha m h3 h4=>by
     have AB:m<l.rs.length:=h4
     rw[hQ a m (by omega) AB];exact h2 a (by omega) ha m AB h3)
  rw[this]
  show some ((an l i).so,(an l j).so)=_
  rw[cE hi,cE hj];rfl
theorem Tl(l:Led)(k:Int):eC (aw l k)=fB (aU l k):=by
 rw[za,aaq,ql]
 unfold bd
 rw[IS]
theorem Hr{l:Led}{k:Int}{s:Nat}:∀ n,s<n->n<=l.ts.length->(bn l k n).getD s false=gg l k (bn l k s) s
 | 0,h,_=>absurd h (Nat.not_lt_zero s)
 |n+1,h,hn=>by
  rw[Hp l k (by omega)]
  by_cases hs:s=n
  ·subst hs;rw[if_pos rfl]
  ·rw[if_neg hs];exact Hr n (by omega) (by omega)
noncomputable section
def K53:List (Nat×Spec):=[(71,BD)]
attribute [go_sem] K53
end
noncomputable section
def K55:List (Nat×Spec):=[(15,pR)]
attribute [go_sem] K55
def acN:List (Nat×Spec):=[]
attribute [go_sem] acN
end
noncomputable section
def K56:List (Nat×Spec):=[(84,BC)]
attribute [go_sem] K56
end
noncomputable section
def K57:List (Nat×Spec):=[(70,ym),(103,vL)]
attribute [go_sem] K57
end
theorem abz(l:Led)(ds:List Int):Gt l ds=gN l ds:=by
 unfold Gt gN oN
 cases h:wz l with
 |false=>rfl
 |true=>
  have h0:(true=false)=False:=by simp
  rw[if_neg (by decide),if_pos (show gY true 24=0 from rfl)]
  have :(!ds.any fun d=>!dayB d)=ds.all dayB:=by
   rw[List.not_any_eq_all_not]
   simp
  rw[this]
  unfold gY
  rfl
theorem HG{l:Led}{k:Int}:kz l k=true↔eS l k=0:=by
 cases h:kz l k with
 |true=>exact⟨fun _=>(B1 h).2.2,fun _=>rfl⟩
 |false=>
  refine⟨fun h=>(by cases h),fun h2=>?_⟩
  have :=(B2 h).2.2
  rw[h2]at this
  cases this
theorem QM{l:Led}(h:bE l){i j:Nat}(hi:i<l.ts.length)(hj:j<l.ts.length)(e:(aD l i).so=(aD l j).so):i=j:=by
 have hs:srt Ret.so l.ts:=wy (kq.1 h.ts)
 have e1:aD l i=l.ts[i]:=cz hi
 have e2:aD l j=l.ts[j]:=cz hj
 rw[e1,e2]at e
 rcases Nat.lt_trichotomy i j with h1 | h1 | h1
 ·have:=hs i j hi hj h1;omega
 ·exact h1
 ·have:=hs j i hj hi h1;omega
noncomputable section
def K60:List (Nat×Spec):=[(78,S78),(160,S160),(96,tG)]
attribute [go_sem] K60
def acM:List (Nat×Spec):=[(75,nX)]
attribute [go_sem] acM
end
noncomputable section
def rO(x:Vw)(az:List Int)(pa day f:Int):Int:=match eJ x.rs pa f day with
 |none=>0
 |some r=>match be x.bk (r.so,f)with
  |none=>r.bo
  |some i=>if az.getD i.toNat 0>day then r.bo else 0
def K61:List (Nat×Spec):=[(75,nX),(79,yl),(76,S76),(119,S119)]
attribute [go_sem] K61
end
noncomputable section
def K63:List (Nat×Spec):=[(84,BC),(73,vK),(74,GD)]
attribute [go_sem] K63
end
noncomputable section
def Z2(w:List Int):V:=.sl (w.map vInt)
theorem agB(L:List (List Int)):∀ y∈L.map Z2,y.cells.length=1/\y.okc=true:=fun y hy=>by
 obtain⟨x,_,rfl⟩:=List.mem_map.1 hy
 exact⟨rfl,rfl⟩
def K65:List (Nat×Spec):=[]
attribute [go_sem] K65
end
noncomputable section
def K66:List (Nat×Spec):=[(15,pR)]
attribute [go_sem] K66
end
noncomputable section
def K68:List (Nat×Spec):=[(78,S78)]
attribute [go_sem] K68
end
noncomputable section
def acJ:List (Nat×Spec):=[(80,S80)]
attribute [go_sem] acJ
end
noncomputable section
def K70:List (Nat×Spec):=[(75,nX),(91,S91),(78,S78)]
attribute [go_sem] K70
end
theorem Qr{l:Led}(aa:bE l){k:Int}(hs:rH l k=0)(az:List Int)(pa day f:Int):rO (aw l k) az pa day f=ib (aU l k) ⟨pa,f⟩ az day:=by
 obtain⟨h0,-⟩:=Q0 aa (by rw[<-B6 aa];exact hs)
 unfold rO ib
 rw[ql]
 show _=if dR (aU l k) ⟨pa,f⟩ day<0 then 0 else if (decide (dn (aU l k) (dR (aU l k) ⟨pa,f⟩ day).toNat f>=0)&&decide (az.getD (dn (aU l k) (dR (aU l k) ⟨pa,f⟩ day).toNat f).toNat 0<=day))=true then 0 else(an l (dR (aU l k) ⟨pa,f⟩ day).toNat).bo
 rcases JX h0 ⟨pa,f⟩ day with⟨a1,a2⟩ | ⟨q,hq,a1,-,a2⟩
 ·have GC:eJ (bd l k) pa f day=none:=a2
  rw[a1,GC];rfl
 ·have GC:eJ (bd l k) pa f day=some (an l q):=a2
  rw[a1,GC,if_neg (by omega),Int.toNat_natCast,wm]
  simp only[]
  cases aI:be (aw l k).bk ((an l q).so,f)with
  |none=>rfl
  |some i=>
   obtain⟨j,rfl,hj⟩:=O6 aI
   simp only[Option.getD_some,Int.toNat_natCast]
   have hg:decide ((j:Int)>=0)=true:=by simp
   simp only[hg,Bool.true_and]
   by_cases c:az.getD j 0>day
   ·rw[if_pos c,if_neg (by rw[decide_eq_true_eq];omega)]
   ·rw[if_neg c,if_pos (by rw[decide_eq_true_eq];omega)]
instance afx (l:Led) (k:Int) (j:Nat):Decidable (gQ l k j):=inferInstanceAs (Decidable ((bn l k l.ts.length).getD j false=true))
noncomputable section
def K91:List (Nat×Spec):=[]
attribute [go_sem] K91
end
end Go.Eng
set_option linter.unusedVariables false
namespace Go.Eng
open Go Go.Proofs Go.RowKit Go.Lib Go.Shelf
def zS:V:=.agg [.int .i64 0,.int .i64 0,.int .i64 0,.int .i64 0,.int .i64 0,.int .i64 0,.int .i64 0]
def PH(obj:Name->Option O):List D->R
 |[.msl nm k,.v (.int .i64 i),.v (.int .i64 j)]=>match obj nm with
  |some (.arr sz l)=>⟨k=l.length/\sz=7/\0<=i/\j=i+1/\i.toNat<l.length,.v (.sl (l.eraseIdx i.toNat)),upd obj nm (some (.farr sz (l.eraseIdx i.toNat++[zS])))⟩
  |_=>.bad obj
 |_=>.bad obj
def Od:List D->List Name
 |[.msl nm _,_,_]=>[nm]
 |_=>[]
def acb:Spec:=⟨fun obj _ ds=>PH obj ds,fun _ _ ds=>Od ds,fun _ _ ds=>Od ds⟩
open Go Go.Proofs
set_option maxRecDepth 10000
noncomputable section
attribute [go_sem] acb PH
def K92:List (Nat×Spec):=[(75,nX),(121,S121),(122,S122),(108,yn),(130,P5),(132,S132)]
attribute [go_sem] K92
end
theorem CR{α:Type}{fj:α->Bool}{num:α->Int}{l:List α}(h:jd fj num l=true):l.Pairwise fun a b=>num a<num b:=by
 have h:=kq.1 h
 rw[List.pairwise_iff_getElem]
 intro i j hi hj bD
 induction j with
 |zero=>omega
 |succ j ih=>
  have h1:=(h (j+1) hj hj).2 (by omega)
  simp only[Nat.add_sub_cancel]at h1
  by_cases e:i=j
  ·subst e;exact h1
  ·exact Int.lt_trans (ih (by omega) (by omega)) h1
theorem SL{az:List Int}(h:p6 az=true):az.Pairwise (· < ·):=by
 have h:=wk.1 h
 rw[List.pairwise_iff_getElem]
 intro i j hi hj bD
 induction j with
 |zero=>omega
 |succ j ih=>
  have h1:=h (j+1) hj (by omega)
  simp only[Nat.add_sub_cancel]at h1
  by_cases e:i=j
  ·subst e;exact h1
  ·exact Int.lt_trans (ih (by omega) (by omega)) h1
structure P9 (x:Vw) (d:Ds) (L:List Sig) (i:Int) (e:Int×Int):Prop where
 b1:(aV d i).1<=e.1
 b2:e.2<=(aV d i).2
 s1:∀ s∈L,(bp x s).1=i->(bp x s).2.lo<=e.1/\e.2<=(bp x s).2.hi
 a1:e.1=(aV d i).1\/∃ s∈L,(bp x s).1=i/\(bp x s).2.lo=e.1
 a2:e.2=(aV d i).2\/∃ s∈L,(bp x s).1=i/\(bp x s).2.hi=e.2
theorem QX(x:Vw)(d:Ds)(s:Sig)(i:Int):aV (fZ x d s) i=if (bp x s).1=i/\0<=i then(bH (aV d i).1 (bp x s).2.lo,dh (aV d i).2 (bp x s).2.hi)else aV d i:=by
 unfold fZ
 split
 ·unfold jW
  rw[xO]
  split
  ·rename_i h e;subst e;rw[if_pos ⟨rfl,h⟩]
  ·rename_i h e;rw[if_neg fun h2=>e h2.1]
 ·rename_i h
  rw[if_neg fun h2=>h (by omega)]
theorem Dp(x:Vw)(i:Int)(hi:0<=i):∀ (L:List Sig) (d:Ds),P9 x d L i (aV (dI x d L) i)
 |[],d=>⟨Int.le_refl _,Int.le_refl _,fun s h=>by simp at h,.inl rfl,.inl rfl⟩
 |s::L,d=>by
  have ih:=Dp x i hi L (fZ x d s)
  show P9 x d (s::L) i (aV (dI x (fZ x d s) L) i)
  generalize aV (dI x (fZ x d s) L) i=e at ih
  obtain⟨b1,b2,s1,a1,a2⟩:=ih
  rw[QX]at b1 b2 a1 a2
  by_cases h:(bp x s).1=i/\0<=i
  ·rw[if_pos h]at b1 b2 a1 a2
   simp only[bH,dh]at b1 b2 a1 a2
   refine⟨by split at b1<;>omega,by split at b2<;>omega,fun t ht hw=>?_,?_,?_⟩
   ·rcases List.mem_cons.1 ht with rfl | ht
    ·exact⟨by split at b1<;>omega,by split at b2<;>omega⟩
    ·exact s1 t ht hw
   ·rcases a1 with a1 | ⟨t,ht,h1,h2⟩
    ·split at a1
     ·exact .inr ⟨s,by simp,h.1,a1.symm⟩
     ·exact .inl a1
    ·exact .inr ⟨t,by simp[ht],h1,h2⟩
   ·rcases a2 with a2 | ⟨t,ht,h1,h2⟩
    ·split at a2
     ·exact .inr ⟨s,by simp,h.1,a2.symm⟩
     ·exact .inl a2
    ·exact .inr ⟨t,by simp[ht],h1,h2⟩
  ·rw[if_neg h]at b1 b2 a1 a2
   refine⟨b1,b2,fun t ht hw=>?_,?_,?_⟩
   ·rcases List.mem_cons.1 ht with rfl | ht
    ·exact(h ⟨hw,hi⟩).elim
    ·exact s1 t ht hw
   ·rcases a1 with a1 | ⟨t,ht,h1,h2⟩
    ·exact .inl a1
    ·exact .inr ⟨t,by simp[ht],h1,h2⟩
   ·rcases a2 with a2 | ⟨t,ht,h1,h2⟩
    ·exact .inl a2
    ·exact .inr ⟨t,by simp[ht],h1,h2⟩
theorem NG(x:Vw)(L:List Sig):fa x L=true↔(∀ s∈L,eO x s=true)/\∀ i∈x.ts,(aV (dI x x.ds L) i).1<=(aV (dI x x.ds L) i).2:=by
 unfold fa vl
 rw[Bool.and_eq_true,List.all_eq_true,List.all_eq_true]
 simp only[decide_eq_true_eq]
variable {x:Vw}
theorem abl{l:Led}(aa:bE l){k:Int}(h0:fB (aU l k)=none):∀ i∈(aw l k).ts,(aV (aw l k).ds i).1<=(aV (aw l k).ds i).2:=by
 have h:=(Ft l k _).2 (O7 aa h0)
 unfold vl at h
 rw[List.all_eq_true]at h
 exact fun i hi=>by simpa using h i hi
theorem ZT{l:Led}(aa:bE l){k:Int}(h0:fB (aU l k)=none):fa (aw l k) []=true:=(NG _ _).2 ⟨fun s h=>(nomatch h),abl aa h0⟩
theorem SZ{l:Led}(aa:bE l)(k:Int):(bd l k).Pairwise fun a b=>a.so<b.so:=by
 unfold bd
 exact(CR aa.rs).filter _
theorem Hs{l:Led}{k:Int}{i:Nat}(h:i<l.ts.length):gQ l k i↔gg l k (bn l k i) i=true:=by
 unfold gQ
 rw[Hr l.ts.length h (Nat.le_refl _)]
def PT(rs:List Rec)(k:Int)(t:Ret)(r:Rec):Prop:=cO rs t.re=some r/\bG t.kn t.un k=true/\bH t.lo (r.da+1)<=t.hi/\∀ f∈t.lv,f∈r.lv
theorem abL{l:Led}{k:Int}(h1:∀ i,i<l.ts.length->∃ r,PT (bd l k) k (aD l i) r)
 (h2:∀ i j,i<j->j<l.ts.length->(aD l i).re=(aD l j).re->∀ f∈(aD l i).lv,f∉(aD l j).lv):∀ i,i<l.ts.length->gQ l k i:=by
 intro i hi
 rw[Hs hi]
 have hI:=yI l k i (by omega)
 have hn:=C5 hI
 by_cases hb:gg l k (bn l k i) i=true
 ·exact hb
 ·exfalso
  rw[if_neg hb]at hn
  obtain⟨r,e1,e2,e3,e4⟩:=h1 i hi
  have nu:r.so=(aD l i).re:=(p8 e1).2
  have iV:((aD l i).lv.any fun f=>(be (ay l k i).bk (r.so,f)).isSome||!r.lv.contains f)=false:=by
   rw[List.any_eq_false]
   intro f hf
   have h3:r.lv.contains f=true:=List.contains_iff_mem.2 (e4 f hf)
   rw[h3]
   cases aI:be (ay l k i).bk (r.so,f)with
   |none=>simp
   |some m=>
    obtain⟨j,rfl,hj,dX,Yw⟩:=hI.bk1 _ _ _ aI
    have fh:=(hI.tl _ ((hI.ts j).1 hj)).2
    exact(h2 j i (by omega) hi (by rw[dX,nu]) f Yw hf).elim
  unfold fT at hn
  rw[e1]at hn
  simp only[e2,iV,Bool.or_false,Bool.true_and,decide_eq_false (show ¬ bH (aD l i).lo (r.da+1)>(aD l i).hi by omega),Bool.not_false,if_true]at hn
  cases hn
theorem BU{l:Led}{k:Int}{i:Nat}(h:gQ l k i):i<l.ts.length/\∃ r,PT (bd l k) k (aD l i) r:=by
 have hi:=rE h
 rw[Hs hi]at h
 refine⟨hi,?_⟩
 have hn:=C5 (yI l k i (by omega))
 rw[if_pos h]at hn
 unfold fT at hn
 cases hr:cO (bd l k) (aD l i).re with
 |none=>rw[hr]at hn;cases hn
 |some r=>
  rw[hr]at hn
  simp only at hn
  split at hn
  ·rename_i hc
   refine⟨r,hr,?_⟩
   simp only[Bool.and_eq_true,Bool.not_eq_true',Bool.or_eq_false_iff,decide_eq_false_iff_not,List.any_eq_false]at hc
   refine⟨hc.1,by omega,fun f hf=>?_⟩
   have :=hc.2.2 f hf
   simp only[Bool.or_eq_true,not_or,Bool.not_eq_true',Bool.not_eq_false]at this
   exact List.contains_iff_mem.1 (by simpa using this.2)
  ·cases hn
theorem Ho{l:Led}{k:Int}{i j:Nat}(hi:gQ l k i)(hj:gQ l k j)(aG:i≠j)(e:(aD l i).re=(aD l j).re):∀ f∈(aD l i).lv,f∉(aD l j).lv:=by
 intro f h1 h2
 have k1:=(jN l k).bk2 i hi f h1
 have k2:=(jN l k).bk2 j hj f h2
 rw[e,k2]at k1
 simp only[Option.some.injEq]at k1
 omega
theorem CC{A:List Pq}{t:List Bool}:∀ {s},s<=A.length->∀ q∈fo A t s,∃ j,∃ h:j<A.length,j<s/\t.getD j false=true/\q=A[j]
 | 0,_,q,h=>by simp[fo]at h
 |s+1,hs,q,h=>by
  rw[fo]at h
  split at h
  ·rename_i hb
   rcases List.mem_append.1 h with h | h
   ·obtain⟨j,h1,h2,h3,h4⟩:=CC (by omega) q h
    exact⟨j,h1,by omega,h3,h4⟩
   ·rw[cz (show s<A.length by omega)]at h
    exact⟨s,by omega,by omega,hb,by simpa using h⟩
  ·obtain⟨j,h1,h2,h3,h4⟩:=CC (by omega) q h
   exact⟨j,h1,by omega,h3,h4⟩
theorem CA{r:Raw}{q:Pq}(h:q∈bj r):∃ j:Nat,gQ (gO r) 900 j/\aD (gO r) j=q.1:=by
 unfold bj at h
 obtain⟨j,h1,h2,h3,h4⟩:=CC (A:=cm r) (by rw[vJ];exact Nat.le_refl _) q h
 refine⟨j,h3,?_⟩
 have hj:j<(gO r).ts.length:=by rw[vJ];exact h1
 rw[jL hj,h4]
 exact Co _ _ _ h1
theorem HH{a l:Led}{k:Int}(aa:bE l)(ht:∀ t∈l.ts,∃ j:Nat,gQ a k j/\aD a j=t)(hr:∀ t∈l.ts,cO (bd l k) t.re=cO (bd a k) t.re):∀ i,i<l.ts.length->gQ l k i:=by
 have j':∀ i,i<l.ts.length->aD l i∈l.ts:=fun i h=>by rw[jL h];exact List.getElem_mem h
 refine abL (fun i hi=>?_) fun i j bD hj e=>?_
 ·obtain⟨m,hm,e⟩:=ht _ (j' i hi)
  obtain⟨_,r,h1,h2⟩:=BU hm
  rw[e]at h1 h2
  exact⟨r,by rw[hr _ (j' i hi)];exact h1,h2⟩
 ·obtain⟨m,hm,em⟩:=ht _ (j' i (by omega))
  obtain⟨n,hn,en⟩:=ht _ (j' j hj)
  have aG:m≠n:=by
   rintro rfl
   have :=QM aa (show i<l.ts.length by omega) hj (by rw[<-em,<-en])
   omega
  have :=Ho hm hn aG (by rw[em,en];exact e)
  rw[em,en]at this
  exact this
theorem Hh(r:Raw):∀ i,i<(db r).ts.length->gQ (db r) 900 i:=
 HH (a:=gO r) (Hi r) (fun t ht=>by
  obtain⟨q,hq,rfl⟩:=List.mem_map.1 (show t∈(bj r).map (·.1)from ht)
  exact CA hq) fun t _=>rfl
theorem Tw{r:Raw}{q:Pq}(hq:q∈cI r):cO (bd (a8 r) 900) q.1.re=cO (bd (gO r) 900) q.1.re:=by
 have iU:qs (l0 r).ps (bI r) q=true:=(List.mem_filter.1 (show q∈List.filter (qs (l0 r).ps (bI r)) ((bj r).take (bj r).length)from hq)).2
 obtain⟨j,hj,ej⟩:=CA ((qb r).subset hq)
 obtain⟨_,x,h1,_⟩:=BU hj
 rw[ej]at h1
 rw[h1]
 have h2:¬ b9 (a8 r) q.1.re 900<0:=by
  unfold qs at iU
  have h3:b9 ⟨(l0 r).ps,bI r,[],[]⟩ q.1.re 900>=0:=by simpa using iU
  exact Int.not_lt.2 h3
 have h4:=Cy (a8 r) 900 q.1.re
 rw[if_neg h2]at h4
 rw[h4]
 obtain⟨m1,e1⟩:=p8 h4
 obtain⟨m2,e2⟩:=p8 h1
 have k1:an (a8 r) (b9 (a8 r) q.1.re 900).toNat∈(l0 r).rs:=(A6 r).subset ((List.mem_filter.1 m1).1)
 have k2:x∈(l0 r).rs:=(List.mem_filter.1 m2).1
 have py:=CR (qo r).rs
 obtain⟨i,hi,ei⟩:=List.getElem_of_mem k1
 obtain⟨n,hn,en⟩:=List.getElem_of_mem k2
 rw[List.pairwise_iff_getElem]at py
 have :i=n:=by
  rcases Nat.lt_trichotomy i n with h | h | h
  ·have:=py i n hi hn h;rw[ei,en,e1,e2]at this;omega
  ·exact h
  ·have:=py n i hn hi h;rw[ei,en,e1,e2]at this;omega
 subst this
 rw[<-ei,en]
theorem CM(r:Raw):∀ i,i<(a8 r).ts.length->gQ (a8 r) 900 i:=
 HH (a:=gO r) (jn r) (fun t ht=>by
  obtain⟨q,hq,rfl⟩:=List.mem_map.1 (show t∈(cI r).map (·.1)from ht)
  exact CA ((qb r).subset hq)) fun t ht=>by
  obtain⟨q,hq,rfl⟩:=List.mem_map.1 (show t∈(cI r).map (·.1)from ht)
  exact Tw hq
theorem Ib{l:Led}{so k:Int}{x:Rec}(hx:x∈l.rs)(h:iJ so k x=true):¬ b9 l so k<0:=by
 unfold b9 dE
 have h2:(l.rs.any fun r=>r.so==so&&bG r.kn r.un k)=true:=List.any_eq_true.2 ⟨x,hx,h⟩
 rw[if_pos h2]
 omega
theorem U4(r:Raw):(l0 r).rs=eM (r0 r) (nR (r0 r)):=rfl
theorem wL(r:Raw){i:Nat}(h:i<(l0 r).rs.length):(l0 r).rs[i]=fR (r0 r) i/\i<nR (r0 r):=by
 have h2:i<nR (r0 r):=by
  have :=h
  rw[U4,iE]at this
  exact this
 refine⟨?_,h2⟩
 show (eM (r0 r) (nR (r0 r)))[i]'(by rw[iE];exact h2)=_
 unfold eM
 simp
theorem Oa(r:Raw)(i:Nat):∀ j,i<=j->dU r i<=dU r j
 | 0,h=>by have:i=0:=by omega
           subst this;exact Int.le_refl _
 |j+1,h=>by
  by_cases e:i=j+1
  ·subst e;exact Int.le_refl _
  ·have:=Oa r i j (by omega)
   have h2:=dg (n:=(r5 r.rs j).d) (m:=20) (by decide)
   rw[dU];omega
theorem U7(r:Raw){i j:Nat}(bD:i<=j)(hj:j<(l0 r).rs.length):(an (l0 r) i).da<=(an (l0 r) j).da:=by
 have hi:i<(l0 r).rs.length:=by omega
 rw[cE hi,cE hj,(wL r hi).1,(wL r hj).1]
 exact Oa (r0 r) (i+1) (j+1) (by omega)
theorem Dx(r:Raw):∀ x∈(l0 r).rs,bG x.kn x.un 900=true:=by
 intro x hx
 obtain⟨i,hi,rfl⟩:=List.getElem_of_mem hx
 obtain⟨e,h⟩:=wL r hi
 have h8:=ot (r0 r)
 have hd:=(p9 (r0 r) (show i<8 by omega)).2.2.1
 rw[e]
 have kg:dU (r0 r) (i+1)<=160:=hd
 have h2:=dg (n:=(r5 (r0 r).rs i).e) (m:=5) (by decide)
 unfold bG
 show (decide (dU (r0 r) (i+1)+aQ (r5 (r0 r).rs i).e 5<=900)&&((0:Int)==0||_))=true
 rw[decide_eq_true (by omega)];rfl
theorem Dw(r:Raw){i j:Nat}(hi:i<(l0 r).rs.length)(hj:j<(l0 r).rs.length):(an (l0 r) i).so<(an (l0 r) j).so↔i<j:=by
 have py:=CR (qo r).rs
 rw[List.pairwise_iff_getElem]at py
 rw[cE hi,cE hj]
 constructor
 ·intro h
  rcases Nat.lt_trichotomy i j with h1 | h1 | h1
  ·exact h1
  ·subst h1;omega
  ·have:=py j i hj hi h1;omega
 ·exact py i j hi hj
theorem wK(r:Raw){x y:Rec}(hx:x∈(l0 r).rs)(hy:y∈(l0 r).rs)(e:x.so=y.so):x=y:=by
 obtain⟨i,hi,rfl⟩:=List.getElem_of_mem hx
 obtain⟨j,hj,rfl⟩:=List.getElem_of_mem hy
 have h1:=Dw r hi hj
 have h2:=Dw r hj hi
 rw[cE hi,cE hj]at h1 h2
 have :i=j:=by
  rcases Nat.lt_trichotomy i j with h | h | h
  ·have:=h1.2 h;omega
  ·exact h
  ·have:=h2.2 h;omega
 subst this;rfl
theorem OS(l:Led)(w:List Int):∀ s,eU l w s=((List.range s).filter fun i=>kT l w (eU l w i) i i).map (an l)
 | 0=>rfl
 |s+1=>by
  rw[eU,List.range_succ,List.filter_append,List.map_append,<-OS l w s]
  by_cases h:kT l w (eU l w s) s s=true
  ·rw[if_pos h];simp[h]
  ·rw[if_neg h];simp[h]
theorem OR{l:Led}{w:List Int}{s:Nat}{b:Rec}:b∈eU l w s↔∃ i,i<s/\kT l w (eU l w i) i i=true/\an l i=b:=by
 rw[OS,List.mem_map]
 constructor
 ·rintro⟨i,hi,e⟩
  rw[List.mem_filter,List.mem_range]at hi
  exact⟨i,hi.1,hi.2,e⟩
 ·rintro⟨i,h1,h2,e⟩
  exact⟨i,List.mem_filter.2 ⟨List.mem_range.2 h1,h2⟩,e⟩
theorem NB{l:Led}{w:List Int}{C:List Rec}{i:Nat}:∀ {n},kT l w C i n=true↔∀ k,k<n->b9 ⟨l.ps,C,[],[]⟩ (an l k).so 900<0\/lK l w k i=true
 | 0=>⟨fun _ k h=>absurd h (Nat.not_lt_zero k),fun _=>rfl⟩
 |n+1=>by
  rw[kT,Bool.and_eq_true,NB,Bool.or_eq_true,decide_eq_true_eq]
  constructor
  ·rintro⟨h1,h2⟩ k hk
   by_cases e:k=n
   ·subst e;exact h2
   ·exact h1 k (by omega)
  ·exact fun h=>⟨fun k hk=>h k (by omega),h n (by omega)⟩
theorem OQ{r:Raw}{b:Rec}(hb:b∈bI r):∃ i,i<(l0 r).rs.length/\an (l0 r) i=b/\kT (db r) (cj (bj r)) (eU (db r) (cj (bj r)) i) i i=true:=by
 obtain⟨i,h1,h2,h3⟩:=OR.1 hb
 exact⟨i,h1,h3,h2⟩
theorem hJ{r:Raw}{b:Rec}(hb:b∈bI r):b∈(l0 r).rs:=(A6 r).subset hb
theorem A5{r:Raw}{a b:Rec}(ha:a∈bI r)(hb:b∈bI r)(h:a.so<b.so):∃ k i,k<i/\i<(l0 r).rs.length/\an (l0 r) k=a/\an (l0 r) i=b/\lK (db r) (cj (bj r)) k i=true:=by
 obtain⟨k,k1,k2,k3⟩:=OQ ha
 obtain⟨i,i1,i2,i3⟩:=OQ hb
 have dH:k<i:=(Dw r k1 i1).1 (by rw[k2,i2];exact h)
 refine⟨k,i,dH,i1,k2,i2,?_⟩
 rcases NB.1 i3 k dH with h1 | h1
 ·exfalso
  refine Ib (l:=⟨(db r).ps,eU (db r) (cj (bj r)) i,[],[]⟩) (x:=a) (OR.2 ⟨k,dH,k3,k2⟩) ?_ h1
  unfold iJ
  rw[Dx r a (hJ ha),show (an (db r) k).so=a.so from congrArg Rec.so k2]
  simp
 ·exact h1
theorem IU{r:Raw}{q:Pq}(h:q∈cm r):q.1.lo<=q.2/\q.2<=q.1.hi/\∀ a∈(l0 r).rs,a.so=q.1.re->a.da<q.2:=by
 obtain⟨h1,h2⟩:=List.mem_filter.1 (show q∈List.filter (ox (l0 r)) (((l0 r).ts.zip (d0 r)).take (l0 r).ts.length)from h)
 have hz:=List.mem_of_mem_take h1
 obtain⟨j,hj,ej⟩:=List.getElem_of_mem hz
 have iQ:j<(l0 r).ts.length:=by simp at hj;omega
 have MP:j<(d0 r).length:=by simp at hj;omega
 rw[List.getElem_zip]at ej
 have dM:j<nT (r0 r):=by
  have :(l0 r).ts.length=nT (r0 r):=by show ((List.range _).map _).length=_;simp
  omega
 have e1:(l0 r).ts[j]=tM (r0 r) j:=by
  show ((List.range (nT (r0 r))).map (tM (r0 r)))[j]'(by simpa using dM)=_
  simp
 have e2:(d0 r)[j]=dk (r0 r) j:=by
  show ((List.range (nT (r0 r))).map (dk (r0 r)))[j]'(by simpa using dM)=_
  simp
 have h8:=rT (r0 r)
 have av:=(vY (wE dM) (show j<8 by omega)).2.1
 have JD:=dg (n:=(r7 (r0 r).ts j).d) (m:=12) (by decide)
 have Dg:=dg (n:=(r7 (r0 r).ts j).e) (m:=12) (by decide)
 have Z3:(tM (r0 r) j).lo=bH 0 (dk (r0 r) j-aQ (r7 (r0 r).ts j).d 12):=rfl
 have FH:(tM (r0 r) j).hi=dk (r0 r) j+aQ (r7 (r0 r).ts j).e 12:=rfl
 rw[e1,e2]at ej
 subst ej
 refine⟨?_,?_,fun a ha e=>?_⟩
 ·show (tM (r0 r) j).lo<=dk (r0 r) j
  rw[Z3];unfold bH;split<;>omega
 ·show dk (r0 r) j<=(tM (r0 r) j).hi
  rw[FH];omega
 ·unfold ox at h2
  simp only[Bool.and_eq_true,decide_eq_true_eq]at h2
  obtain⟨g1,g2⟩:=h2
  rcases um (l0 r) (tM (r0 r) j).re 900 with hx | ⟨n,hn,hx,hr⟩
  ·rw[hx]at g1;exact absurd g1 (by decide)
  ·rw[hx,Int.toNat_natCast]at g2
   unfold iJ at hr
   simp only[Bool.and_eq_true,beq_iff_eq]at hr
   have :a=(l0 r).rs[n]:=wK r ha (List.getElem_mem hn) (by rw[e,hr.1])
   rw[this,<-cE hn]
   exact g2
theorem yE(r:Raw):(db r).ts=rets (bj r):=rfl
theorem o9(r:Raw):(a8 r).ts=rets (cI r):=rfl
theorem Tz(r:Raw):(a8 r).rs=bI r:=rfl
theorem Td(r:Raw):cI r=((bj r).take (bj r).length).filter (qs (l0 r).ps (bI r)):=rfl
theorem yD(r:Raw)(i:Nat):an (db r) i=an (l0 r) i:=rfl
theorem wv{r:Raw}{x:Rec}(h:x∈bd (a8 r) 900):x∈bI r:=(List.mem_filter.1 h).1
section
attribute [local irreducible] l3 gd l0 d0 cm bj bI cI
theorem uw{Q:List Pq}{l:Led}(hl:l.ts=rets Q){m:Nat}(h:m<Q.length):m<l.ts.length/\aD l m=Q[m].1:=by
 have h1:m<l.ts.length:=by rw[hl,gR];exact h
 refine⟨h1,?_⟩
 rw[jL h1]
 have :l.ts[m]=(rets Q)[m]'(by rw[gR];exact h):=by simp only[hl]
 rw[this]
 exact Co _ _ _ h
theorem AY{Q:List Pq}{m:Nat}(h:m<Q.length):(cj Q).getD m 0=Q[m].2:=by
 rw[cz (by rw[nM];exact h)]
 unfold cj
 rw[List.getElem_map]
theorem F6{r:Raw}{k i:Nat}(h:lK (db r) (cj (bj r)) k i=true)(hp:(an (l0 r) k).pa=(an (l0 r) i).pa){f:Int}(h1:f∈(an (l0 r) k).lv)(h2:f∈(an (l0 r) i).lv):
 (an (l0 r) k).da≠(an (l0 r) i).da/\∃ n,∃ hn:n<(bj r).length,(bj r)[n].1.re=(an (l0 r) k).so/\f∈(bj r)[n].1.lv/\(bj r)[n].2<=(an (l0 r) i).da:=by
 unfold lK at h
 rw[yD,yD]at h
 have aG:((an (l0 r) k).pa != (an (l0 r) i).pa)=false:=by rw[hp];simp
 rw[aG,Bool.false_or,List.all_eq_true]at h
 have h3:=h f h1
 unfold mv xS at h3
 rw[yD,yD,List.contains_iff_mem.2 h2,Bool.not_true,Bool.false_or,Bool.not_eq_true',Bool.or_eq_false_iff,Bool.or_eq_false_iff,decide_eq_false_iff_not,decide_eq_false_iff_not,beq_eq_false_iff_ne]at h3
 obtain⟨⟨g1,g2⟩,g3⟩:=h3
 refine⟨g2,?_⟩
 rw[wm]at g1 g3
 cases hb:be (aw (db r) 900).bk ((an (db r) k).so,f)with
 |none=>rw[hb]at g1;exact absurd (by decide) g1
 |some m=>
  rw[hb]at g3
  obtain⟨n,rfl,hn,dX,du⟩:=(jN (db r) 900).bk1 _ _ _ hb
  have z':n<(db r).ts.length:=rE hn
  have Ep:n<(bj r).length:=by rw[<-gR,<-yE];exact z'
  obtain⟨_,et⟩:=uw (yE r) Ep
  rw[et]at dX du
  refine⟨n,Ep,dX,du,?_⟩
  simp only[Option.getD_some,Int.toNat_natCast]at g3
  rw[AY Ep]at g3
  omega
theorem IJ{r:Raw}{q:Pq}(hq:q∈bj r){a:Rec}(ha:a∈bI r)(e:q.1.re=a.so):q∈cI r:=by
 rw[Td,List.take_length,List.mem_filter]
 refine⟨hq,?_⟩
 unfold qs
 rw[decide_eq_true_eq,e]
 refine Int.not_lt.1 (Ib (l:=⟨(l0 r).ps,bI r,[],[]⟩) (x:=a) ha ?_)
 unfold iJ
 rw[Dx r a (hJ ha)]
 simp
theorem Tg{α:Type}{p:α->α->Bool}{L:List α}(h:∀ i j (hi:i<L.length) (hj:j<L.length),i<j->p L[i] L[j]=false):jm p L=none:=by
 cases hp:jm p L with
 |none=>rfl
 |some q=>
  obtain⟨i,j,hi,hj,bD,_,hc,_,_⟩:=y0 hp
  rw[h i j hi hj bD]at hc;cases hc
theorem Ga{r:Raw}{a b:Rec}(ha:a∈bI r)(hb:b∈bI r)(h:a.so<b.so):a.da<=b.da:=by
 obtain⟨k,i,dH,hi,rfl,rfl,_⟩:=A5 ha hb h
 exact U7 r (Nat.le_of_lt dH) hi
theorem aa5{r:Raw}{a b:Rec}(ha:a∈bI r)(hb:b∈bI r)(h:a.da<b.da):a.so<b.so:=by
 rcases Int.lt_trichotomy a.so b.so with h1 | h1 | h1
 ·exact h1
 ·have:=wK r (hJ ha) (hJ hb) h1
  subst this;omega
 ·have:=Ga hb ha h1;omega
theorem CN(r:Raw):eC (aw (a8 r) 900)=none:=by
 rw[za,ql,Tg fun i j hi hj bD=>?_]
 ·rfl
 have py:=SZ (jn r) 900
 have nu:=(List.pairwise_iff_getElem.1 py) i j hi hj bD
 have ma:=wv (List.getElem_mem hi)
 have mb:=wv (List.getElem_mem hj)
 generalize (bd (a8 r) 900)[i]=a at *
 generalize (bd (a8 r) 900)[j]=b at *
 have qJ:=Ga ma mb nu
 unfold gf
 rw[if_neg (by omega)]
 unfold qV
 rw[List.any_eq_false]
 intro f hf
 obtain⟨k,n,X9,hn,rfl,rfl,cp⟩:=A5 ma mb nu
 by_cases hc:(an (l0 r) k).pa=(an (l0 r) n).pa/\f∈(an (l0 r) n).lv
 ·obtain⟨aG,m,hm,dX,du,hle⟩:=F6 cp hc.1 hf hc.2
  have D9:=IJ (List.getElem_mem hm) ma dX
  obtain⟨u,hu,eu⟩:=List.getElem_of_mem D9
  obtain⟨uU,et⟩:=uw (o9 r) hu
  have zQ:=CM r u uU
  have aI:=(jN (a8 r) 900).bk2 u zQ f (by rw[et,eu];exact du)
  rw[et,eu,dX]at aI
  obtain⟨p1,p2,p3⟩:=IU ((qa r).subset (List.getElem_mem hm))
  have p4:=p3 _ (hJ ma) dX.symm
  have Y2:be (aw (a8 r) 900).bk ((an (l0 r) k).so,f)=some (u:Int):=aI
  have gH:¬ bH (aD (a8 r) u).lo ((an (l0 r) k).da+1)>(an (l0 r) n).da:=by
   rw[et,eu];unfold bH;split<;>omega
  have XU:((an (l0 r) k).da==(an (l0 r) n).da)=false:=beq_eq_false_iff_ne.2 aG
  simp only[Y2,r8,Int.toNat_natCast,XU,Bool.false_or,decide_eq_false gH,Bool.and_false]
  decide
 ·have:((an (l0 r) k).pa==(an (l0 r) n).pa&&(an (l0 r) n).lv.contains f)=false:=by
    rw[Bool.eq_false_iff]
    intro h
    rw[Bool.and_eq_true,beq_iff_eq,List.contains_iff_mem]at h
    exact hc h
  rw[this,Bool.false_and]
  decide
theorem MU{d da:Int}:∀ (os:List Rec) (h:Int),d<=h->(∀ o∈os,o.da>da->d<=o.da)->d<=jx h da os
 |[],h,h1,_=>h1
 |o::os,h,h1,h2=>by
  show d<=jx (if o.da>da then dh h o.da else h) da os
  refine MU os _ ?_ fun x hx=>h2 x (by simp[hx])
  split
  ·rename_i hc
   have :=h2 o (by simp) hc
   unfold dh;split<;>omega
  ·exact h1
theorem Ty(r:Raw){m:Nat}(hm:m<(cI r).length):(aV (aw (a8 r) 900).ds m).1<=(cI r)[m].2/\(cI r)[m].2<=(aV (aw (a8 r) 900).ds m).2:=by
 obtain⟨lz,et⟩:=uw (o9 r) hm
 have zQ:=CM r m lz
 obtain⟨x,hx,gp,Ag,kP⟩:=AO (jn r) zQ
 obtain⟨p1,p2,p3⟩:=IU ((qa r).subset ((qb r).subset (List.getElem_mem hm)))
 have Aw:an (a8 r) x∈bI r:=by rw[cE hx,<-Tz];exact List.getElem_mem hx
 have nu:(an (a8 r) x).so=(cI r)[m].1.re:=by
  unfold iJ at Ag
  simp only[Bool.and_eq_true,beq_iff_eq]at Ag
  rw[Ag.1,et]
 have ab:=p3 _ (hJ Aw) nu
 obtain⟨_,a2,b1,_,_,b4⟩:=BU zQ
 have xz:a2=an (a8 r) x:=by
  obtain⟨c1,c2⟩:=p8 b1
  exact wK r (hJ (wv c1)) (hJ Aw) (by rw[c2,et,nu])
 subst xz
 rw[kP,et]
 refine⟨?_,MU _ _ p2 fun o ho qJ=>?_⟩
 ·unfold lH bH;split<;>omega
 ·have uY:o∈bd (a8 r) 900:=(List.mem_filter.1 ho).1
  have qz:=(List.mem_filter.1 ho).2
  have xe:=wv uY
  unfold fY at qz
  rw[Bool.and_eq_true,beq_iff_eq,List.any_eq_true]at qz
  obtain⟨iK,f,sO,Am⟩:=qz
  rw[List.contains_iff_mem]at Am
  obtain⟨k,n,X9,hn,ek,en,cp⟩:=A5 Aw xe (aa5 Aw xe qJ)
  rw[et]at b4
  have YA:f∈(an (l0 r) k).lv:=by rw[ek];first | exact b4 f Am | exact b4 f sO
  have EU:f∈(an (l0 r) n).lv:=by rw[en];first | exact sO | exact Am
  obtain⟨_,u,hu,dX,du,hle⟩:=F6 cp (by rw[ek,en];exact iK.symm) YA EU
  have D8:=(qb r).subset (List.getElem_mem hm)
  obtain⟨v,hv,ev⟩:=List.getElem_of_mem D8
  obtain⟨uU,eu⟩:=uw (yE r) hu
  obtain⟨zM,NY⟩:=uw (yE r) hv
  have Xk:u=v:=by
   refine Classical.byContradiction fun aG=>?_
   refine Ho (Hh r u uU) (Hh r v zM) aG (by rw[eu,NY,dX,ev,ek,nu]) f (by rw[eu];exact du) ?_
   rw[NY,ev];first | exact Am | exact sO
  subst Xk
  rw[ev]at hle
  rw[en]at hle
  exact hle
end
theorem at_fold{day:Int}{r:Rec}:∀ (l:List Rec) (o:Option Rec),l.foldl (jb day) o=some r->r∈l\/o=some r
 |[],o,h=>.inr h
 |x::l,o,h=>by
  rcases at_fold l _ h with h1 | h1
  ·exact .inl (by simp[h1])
  ·unfold jb at h1
   split at h1
   ·simp only[Option.some.injEq]at h1
    subst h1;exact .inl (by simp)
   ·exact .inr h1
theorem Gs{rs:List Rec}{pa le day:Int}{r:Rec}(h:eJ rs pa le day=some r):r∈rs:=by
 rcases at_fold _ _ h with h1 | h1
 ·exact(List.mem_filter.1 h1).1
 ·cases h1
theorem JK(l:Led)(S:List Sig)(k:Int):∀ s,ay { l with ss:=S } k s={ ay l k s with l:={ l with ss:=S } }
 | 0=>rfl
 |s+1=>by
  show l4 _ k (ay { l with ss:=S } k s) s=_
  rw[JK l S k s]
  show l4 _ k _ s={ l4 l k (ay l k s) s with l:={ l with ss:=S } }
  unfold l4
  show (match fT k (ay l k s).rs (ay l k s).bk (aD l s)with
   |none=>_
   |some r=>_)=_
  cases fT k (ay l k s).rs (ay l k s).bk (aD l s)<;>rfl
theorem JM(l:Led)(S:List Sig)(rs:List Rec)(ts:List Int)(d:Ds):∀ j,gj { l with ss:=S } rs ts d j=gj l rs ts d j
 | 0=>rfl
 |j+1=>by
  show jV (gj { l with ss:=S } rs ts d j) _ _ _=jV (gj l rs ts d j) _ _ _
  rw[JM l S rs ts d j];rfl
theorem Ut(l:Led)(S:List Sig)(k:Int):aw { l with ss:=S } k={ aw l k with l:={ l with ss:=S } }:=by
 unfold aw
 rw[JK,JM];rfl
theorem XM(r:Raw):aH r={ a8 r with ss:=la r (nS r) }:=rfl
theorem El(r:Raw):jv r=cj (cI r):=rfl
theorem U3(r:Raw):∀ x∈(l0 r).ts,∃ i:Nat,x.so=3*(i:Int)+2:=fun x hx=>by
 obtain⟨i,-,rfl⟩:=List.mem_map.1 (show x∈(List.range (nT (r0 r))).map (tM (r0 r))from hx)
 exact⟨i,rfl⟩
theorem zw(r:Raw):∀ x∈(l0 r).rs,(∃ i:Nat,x.so=3*(i:Int)+1)/\1<=x.bo/\x.bo<=4:=fun x hx=>by
 obtain⟨i,hi,rfl⟩:=List.getElem_of_mem hx
 obtain⟨e,h⟩:=wL r hi
 have h8:=ot (r0 r)
 obtain⟨-,-,-,c4,c5,-⟩:=p9 (r0 r) (show i<8 by omega)
 rw[e]
 exact⟨⟨i,rfl⟩,c5,c4⟩
theorem IT{r:Raw}{q:Pq}(h:q∈cm r):0<=q.2/\q.2<=200:=by
 have h1:=(List.mem_filter.1 (show q∈List.filter (ox (l0 r)) (((l0 r).ts.zip (d0 r)).take (l0 r).ts.length)from h)).1
 obtain⟨j,hj,ej⟩:=List.getElem_of_mem (List.mem_of_mem_take h1)
 have iQ:j<(l0 r).ts.length:=by simp at hj;omega
 rw[List.getElem_zip]at ej
 have dM:j<nT (r0 r):=by
  have :(l0 r).ts.length=nT (r0 r):=by show ((List.range _).map _).length=_;simp
  omega
 have e2:(d0 r)[j]'(by simp at hj;omega)=dk (r0 r) j:=by
  show ((List.range (nT (r0 r))).map (dk (r0 r)))[j]'(by simpa using dM)=_
  simp
 have h8:=rT (r0 r)
 rw[e2]at ej
 subst ej
 exact(vY (wE dM) (show j<8 by omega)).2
theorem U5(r:Raw)(n:Int):bW (l0 r).ps (ca n).id=(ca n).lv:=(qk (rV n)).1
section
attribute [local irreducible] l3 gd l0 d0 cm bj bI cI
theorem Tv(r:Raw):eS (a8 r) 900=0:=by
 have h0:fB (aU (a8 r) 900)=none:=by rw[<-Tl];exact CN r
 refine HG.1 ?_
 unfold kz
 rw[CN,r8]
 show (true&&fa (aw (a8 r) 900) [])=true
 rw[ZT (jn r) h0];rfl
theorem HM(r:Raw)(j:Nat):(fc r j).pe=rO (aw (a8 r) 900) (jv r) (fc r j).pa (fc r j).da (fc r j).le:=by
 rw[Qr (jn r) (by rw[B6 (jn r)];exact Tv r)]
 rfl
theorem I7{r:Raw}{x:Rec}(h:x∈(aw (a8 r) 900).rs):x∈(l0 r).rs:=by
 rw[ql]at h
 exact hJ (wv h)
theorem Tj(r:Raw)(pa day f:Int):0<=rO (aw (a8 r) 900) (jv r) pa day f/\rO (aw (a8 r) 900) (jv r) pa day f<=4:=by
 unfold rO
 split
 ·decide
 ·rename_i x hx
  obtain⟨-,h1,h2⟩:=zw r x (I7 (Gs hx))
  split
  ·omega
  ·split<;>omega
theorem G6(r:Raw)(j:Nat):((bp (aw (a8 r) 900) (fc r j)).1= -1/\(bp (aw (a8 r) 900) (fc r j)).2=cv)\/
 ∃ m:Nat,m<(cI r).length/\(bp (aw (a8 r) 900) (fc r j)).1=m/\(bp (aw (a8 r) 900) (fc r j)).2.lo<=(jv r).getD m 0/\(jv r).getD m 0<=(bp (aw (a8 r) 900) (fc r j)).2.hi:=by
 have ez:=HM r j
 generalize fc r j=s at *
 unfold bp
 unfold rO at ez
 cases av:eJ (aw (a8 r) 900).rs s.pa s.le s.da with
 |none=>
  rw[av]at ez
  left
  simp only[ez]
  exact⟨rfl,rfl⟩
 |some x=>
  rw[av]at ez
  simp only at ez |-
  obtain⟨-,E2,-⟩:=zw r x (I7 (Gs av))
  cases aI:be (aw (a8 r) 900).bk (x.so,s.le)with
  |none=>
   rw[aI]at ez
   simp only at ez |-
   left
   rw[if_pos ez]
   exact⟨rfl,rfl⟩
  |some i=>
   rw[aI]at ez
   simp only at ez |-
   obtain⟨m,rfl,hm,-,-⟩:=(jN (a8 r) 900).bk1 _ _ _ aI
   have lz:m<(cI r).length:=by
    have :=rE hm
    rw[o9,gR]at this
    exact this
   right
   refine⟨m,lz,?_⟩
   have hd:(jv r).getD m 0=(cI r)[m].2:=by rw[El];exact AY lz
   have D3:=IT ((qa r).subset ((qb r).subset (List.getElem_mem lz)))
   rw[Int.toNat_natCast]at ez
   rw[hd]at ez |-
   by_cases hc:(cI r)[m].2>s.da
   ·rw[if_pos hc]at ez
    rw[if_neg (by omega),if_pos ez]
    exact⟨rfl,by show s.da+1<=_;omega,by show _<=(100000:Int);omega⟩
   ·rw[if_neg hc]at ez
    rw[if_pos ez]
    exact⟨rfl,by show (0:Int)<=_;omega,by show _<=s.da;omega⟩
theorem I8(r:Raw){L:List Sig}(hL:∀ s∈L,∃ j,s=fc r j){m:Nat}(hm:m<(cI r).length):
 (aV (dI (aw (a8 r) 900) (aw (a8 r) 900).ds L) m).1<=(jv r).getD m 0/\(jv r).getD m 0<=(aV (dI (aw (a8 r) 900) (aw (a8 r) 900).ds L) m).2:=by
 have hl:=Dp (aw (a8 r) 900) m (Int.natCast_nonneg _) L (aw (a8 r) 900).ds
 generalize aV (dI (aw (a8 r) 900) (aw (a8 r) 900).ds L) m=e at *
 obtain⟨b1,b2⟩:=Ty r hm
 have hd:(jv r).getD m 0=(cI r)[m].2:=by rw[El];exact AY hm
 have key:∀ s∈L,(bp (aw (a8 r) 900) s).1=(m:Int)->(bp (aw (a8 r) 900) s).2.lo<=(jv r).getD m 0/\(jv r).getD m 0<=(bp (aw (a8 r) 900) s).2.hi:=fun s hs hw=>by
  obtain⟨j,rfl⟩:=hL s hs
  rcases G6 r j with⟨h1,-⟩ | ⟨n,hn,h1,h2,h3⟩
  ·rw[h1]at hw;omega
  ·have:n=m:=by rw[h1]at hw;omega
   subst this;exact⟨h2,h3⟩
 constructor
 ·rcases hl.a1 with h | ⟨s,hs,h1,h2⟩
  ·rw[h,hd];exact b1
  ·rw[<-h2];exact(key s hs h1).1
 ·rcases hl.a2 with h | ⟨s,hs,h1,h2⟩
  ·rw[h,hd];exact b2
  ·rw[<-h2];exact(key s hs h1).2
end
noncomputable section
def JJ(f:FuncId):Option SpecB:=
 match Nat.beq f 132 with
 |true=>some (A1 Tryz.prog 29)
 |false=>match Nat.beq f 176 with
  |true=>some (A1 Tryz.prog 26)
  |false=>match Nat.beq f 177 with
   |true=>some (A1 Tryz.prog 27)
   |false=>match Nat.beq f 178 with
    |true=>some (A1 Tryz.prog 28)
    |false=>match Nat.beq f 179 with
     |true=>some aaI
     |false=>none
def DE(_:FuncId->Option SpecB)(f:FuncId):Option SpecB:=JJ f
theorem aaL:aZ Tryz.prog 179 pCloneI:=aaH aaO rfl
theorem VI:∀ Γ:FuncId->Option SpecB,(∀ f s,bw Γ f=some s->aN Tryz.prog f s)->∀ f s,DE Γ f=some s->aN Tryz.prog f s.spec:=by
 intro Γ _ f s h
 unfold DE JJ at h
 split at h
 ·rename_i hb;have:=Nat.eq_of_beq_eq_true hb;subst this;cases h;exact vB OL
 ·split at h
  ·rename_i hb;have:=Nat.eq_of_beq_eq_true hb;subst this;cases h;exact vB aaX
  ·split at h
   ·rename_i hb;have:=Nat.eq_of_beq_eq_true hb;subst this;cases h;exact vB aaU
   ·split at h
    ·rename_i hb;have:=Nat.eq_of_beq_eq_true hb;subst this;cases h;exact vB aaR
    ·split at h
     ·rename_i hb;have:=Nat.eq_of_beq_eq_true hb;subst this;cases h;exact aaL.sound
     ·cases h
def Kd(F:List Nat)(T:List Ent):FuncId->Option SpecB:=ΓB Tryz.prog (Gh Tryz.prog DE 100000 F T) 100000 24
theorem VF{F:List Nat}{T:List Ent}(hT:∀ e∈T,aW Tryz.prog e):∀ f s,bw (Kd F T) f=some s->aN Tryz.prog f s:=
 G0 (abm (fun Γ h f s=>VI Γ h f s) hT) 24
theorem cJ{F:List Nat}{T:List Ent}(hT:∀ e∈T,aW Tryz.prog e){e:Ent}(h:Ck Tryz.prog (Kd F T) 100000 e=true):aW Tryz.prog e:=SG (VF hT) h
theorem cP{P:Program}{e:Ent}{T:List Ent}(h:aW P e)(hT:∀ e∈T,aW P e):∀ x∈e::T,aW P x:=by
 intro x hx
 rcases List.mem_cons.1 hx with rfl | hx
 ·exact h
 ·exact hT x hx
def KV:List Ent:=[]
theorem LN:∀ e∈KV,aW Tryz.prog e:=fun e h=>by cases h
end
end Go.Eng
