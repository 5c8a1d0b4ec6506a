import Derived.Test.YtepaolcgegdpoaaGreatK15
import GoSem.ClaimChange
import Derived.DataReads
import Derived.ChangeReads
import Derived.ProofKit
import Derived.Carry
import Derived.Test.YtepaolcgegdpoaaGreatRows
import Derived.Test.YtepaolcgegdpoaaGreatChecked
/- LoanAttained is proved: of a sound ledger that numbers describe both ends of Days, and each person of Where, are those of true days, and Where has one or two, at all arguments that the statement covers. -/
set_option linter.all false
namespace Go.Eng
open Go Go.Proofs
theorem PE:aW Tryz.prog 18 ⟨fun xs=>xs=[],fun _=>.bool true,true⟩:=
 QA (b:=.bool true) Ta (by
  intro fn h
  have e:Tryz.prog.funcs[18]?=some Tryz.f18:=Tryz.func18
  rw[e]at h
  obtain rfl:=Option.some.inj h
  exact(by kernel_rfl:(Tryz.f18.name== "runtime.NumGoroutine")=false)) (by decide) rfl
set_option maxRecDepth 10000
noncomputable section
structure N4 where
 (a b c d:Int)
 deriving Inhabited
def zc(x:N4):V:=.agg [vInt x.a,vInt x.b,vInt x.c,vInt x.d]
def LM:V->N4
 | .agg [.int _ a,.int _ b,.int _ c,.int _ d]=>⟨a,b,c,d⟩
 |_=>default
def Cb:En N4:=⟨zc,LM⟩
attribute [go_sem] zc LM Cb
@[go_sem] theorem aeg(x:N4):(⟨x.a,x.b,x.c,x.d⟩:N4)=x:=rfl
def Nj:Spec:=(⟨fun xs=>xs=[],fun _=>.bool true,true⟩:PSpec).toSpec
attribute [go_sem] Nj
theorem BD(r:Raw):(jN r).ps=mps:=rfl
theorem RJ(r:Raw):bF (jN r):=by unfold jN;exact Hk r (Nat.min_le_right _ _)
attribute [local irreducible] jN kO aR nT
theorem LX{l:Led}(aa:bF l){ds:List Int}(h:∀ d∈ds,0<=d/\d<=100000):ct l ds=0:=by
 rw[<-Yu]
 unfold Es
 rw[if_neg (by rw[Bg.2 aa];decide),if_pos]
 rw[List.all_eq_true]
 intro d hd
 unfold dayB
 exact gW (h d hd).1 (h d hd).2
def l3(l:Led)(k pa le day:Int)(s:Nat):List Int:=((aj l k).ts.take s).flatMap fun i=>[fh (aj l k) (dd l (cE l i) k false) pa day le,fh (aj l k) (dd l (cE l i) k true) pa day le]
def pb(l:Led)(k pa le day:Int)(i:Nat):Nat->List Int
 | 0=>l3 l k pa le day i
 |m+1=>pb l k pa le day i m++[fh (aj l k) (dd l (cE l ((aj l k).ts.getD i 0)) k ((m:Int)==1)) pa day le]
theorem Ot(l:Led)(k pa le day:Int){s:Nat}(h:s<=(aj l k).ts.length):(l3 l k pa le day s).length=2*s:=by
 unfold l3
 induction s with
 |zero=>simp
 |succ s ih=>
  rw[List.take_add_one,List.getElem?_eq_getElem (show s<(aj l k).ts.length by omega),List.flatMap_append,List.length_append,ih (by omega)]
  simp;omega
theorem Oo(l:Led)(k pa le day:Int){i:Nat}(h:i<=(aj l k).ts.length)(m:Nat):(pb l k pa le day i m).length=2*i+m:=by
 induction m with
 |zero=>exact Ot l k pa le day h
 |succ m ih=>rw[pb,List.length_append,ih];rfl
theorem AJ(l:Led)(k pa le day:Int)(i m:Nat):pb l k pa le day i (m+1)=pb l k pa le day i m++[fh (aj l k) (dd l (cE l ((aj l k).ts.getD i 0)) k ((m:Int)==1)) pa day le]:=rfl
theorem Oq(l:Led)(k pa le day:Int){i:Nat}(h:i<(aj l k).ts.length):pb l k pa le day i 2=l3 l k pa le day (i+1):=by
 rw[AJ,AJ]
 show (l3 l k pa le day i++_)++_=_
 unfold l3
 rw[List.take_add_one,List.getElem?_eq_getElem h,List.flatMap_append,bW h,List.append_assoc]
 rfl
theorem Fy{l:Led}{k pa le day:Int}{j:Int}(hj:j∈(aj l k).ts)(c:Bool):(l3 l k pa le day (aj l k).ts.length).contains (fh (aj l k) (dd l (cE l j) k c) pa day le)=true:=by
 rw[List.contains_iff_mem]
 unfold l3
 rw[List.take_length,List.mem_flatMap]
 exact⟨j,hj,by cases c<;>simp⟩
theorem N7(l:Led)(k:Int):(aj l k).ts.length<=l.ts.length:=by
 have h:=Fq (aj l k).ts ((List.range l.ts.length).map fun i:Nat=>(i:Int)) (jd l k).tn fun a ha=>by
  have :=(jd l k).tl a ha
  rw[List.mem_map]
  exact⟨a.toNat,List.mem_range.2 (by omega),by omega⟩
 simpa using h
def K95:List (Nat×Spec):=[(19,Y'),(20,Ng),(49,Y1),(23,Y8),(41,Y4),(27,Y7),(48,Y2),(47,Y3),(38,Y6),(39,Y5),(15,rY),(18,Nj)]
theorem ZG:KS K95:=tc Py.sound<|tc FM.sound<|tc Pn.sound<|tc Pv.sound<|tc Pq.sound<|tc Pu.sound<|tc Po.sound<|tc Pp.sound<|tc Ps.sound<|tc Pr.sound<|tc xd.sound<|tc PE.sound<|tn
attribute [go_sem] K95
@[go_sem] def P9:PSpec:=p2 vq Cb (fun _ _=>True) (fun _ _=>.bool true) true
@[go_sem] def S9:Spec:=P9.toSpec
set_option maxHeartbeats 4000000 in
theorem s9:aW Tryz.prog 9 P9:=by
 refine ez (rs:=[.tmp 4]) Tryz.func9 Tryz.ntmps9 fun r n hp hw=>?_
 have hP:=fL
 simp only[Cb,vq]at hw |-
 have hΓ:=ZG
 have m3:=dF (n:=n.a) (m:=300) (by decide)
 have m2:=dF (n:=n.b) (m:=220) (by decide)
 have mc:=dF (n:=n.c) (m:=3) (by decide)
 have aa:=RJ r
 have hd:ct (jN r) [aR n.a 300]=0:=LX aa fun d hd=>by
  simp only[List.mem_singleton]at hd;omega
 have jV:ct (jN r) [aR n.b 220,aR n.a 300]=0:=LX aa fun d hd=>by
  simp only[List.mem_cons,List.not_mem_nil,or_false]at hd;omega
 have c9:uE (jN r) (aR n.a 300)=.tup [.bool (gl (jN r) (aR n.a 300)),vInt 0]:=by unfold uE;rw[if_pos hd]
 obtain⟨nu,l1,l2,p1,p2⟩:=vd (ve n.c)
 have ml:=dF (n:=n.d) (m:=(cX n.c).lv) (by omega)
 have vx:IntKind.i64.wrap (1+aR n.d (cX n.c).lv)=1+aR n.d (cX n.c).lv:=wrap_i64 (by omega) (by omega)
 have J9:(mps.length:Int)=3:=rfl
 have qV:0<=aR n.c 3:=mc.1
 have nq:aR n.c 3<((jN r).ps.length:Int):=by rw[BD];omega
 have vP:((jN r).ps.map dk).getD (aR n.c 3).toNat default=dk (cX n.c):=by
  rw[BD]
  have hl:(aR n.c 3).toNat<mps.length:=by omega
  rw[ah hl];unfold cX;rw[bW hl]
 repeat refine sq ?_
 refine rx hΓ [2,3] [[2,0],[3,0]] (fun K' hK=>by simp only[go_sem];exact an) ?_
 repeat refine sq ?_
 refine rx hΓ [3,5] [[3,0],[5,0]] (fun K' hK=>by simp only[go_sem];exact an) ?_
 repeat refine sq ?_
 refine rx hΓ [3,5,7] [[3,0],[5,0]] (fun K' hK=>by simp only[go_sem,Int.cast_ofNat_Int,Int.reduceToNat,Int.toNat_zero,Int.toNat_one,Nat.reduceMul,Nat.zero_mul,Nat.one_mul,List.getD_cons_succ,List.getD_cons_zero];(repeat (refine⟨by first | exact ao | exact⟨by decide,by decide⟩,?_⟩));exact eN) ?_
 rcases bM:gl (jN r) (aR n.a 300)with _ | _
 ·repeat refine sq ?_
  refine rx hΓ [3,5,7,8,9] [[3,0],[5,0]] (fun K' hK=>by simp only[go_sem,c9,bM];exact an) ?_
  repeat refine sq ?_
  refine rx hΓ [3,5,7,9,47] [[3,0],[5,0]] (fun K' hK=>by simp only[go_sem,c9,bM];exact an) ?_
  repeat refine sq ?_
  refine aB (fun hb=>?_) fun hb=>?_
  ·repeat refine sq ?_
   refine rx hΓ [4] [] (fun K' hK=>by simp only[go_sem,c9,bM];exact an) ?_
   refine aA ?_
   simp only[go_sem]
   first | done | rfl
  ·cases hb
 ·have jv:eS (jN r) (aR n.a 300)=0:=w8.1 bM
  repeat refine sq ?_
  refine rx hΓ [3,5,7,8,9] [[3,0],[5,0]] (fun K' hK=>by simp only[go_sem,c9,bM];exact an) ?_
  repeat refine sq ?_
  refine rx hΓ [3,5,7,9,47] [[3,0],[5,0]] (fun K' hK=>by simp only[go_sem,c9,bM];exact an) ?_
  repeat refine sq ?_
  refine aB (fun hb=>?_) fun hb=>?_
  ·cases hb
  ·repeat refine sq ?_
   refine aE ?_
   repeat refine sq ?_
   refine rx hΓ [3,5,7,10] [[3,0],[5,0]] (fun K' hK=>by simp only[go_sem,c9,bM,Int.cast_ofNat_Int,Int.reduceToNat,Int.toNat_zero,Int.toNat_one,Nat.reduceMul,Nat.zero_mul,Nat.one_mul,List.getD_cons_succ,List.getD_cons_zero];(repeat (refine⟨by first | exact ao | exact⟨by decide,by decide⟩,?_⟩));exact eN) ?_
   repeat refine sq ?_
   refine dx hΓ hP [[],[0],[],[2],[2,3],u5,u6,[],u8] [3,5,7,10,11] [[3,0],[5,0],[11,0]] (by kernel_rfl) (fun K' hK=>by simp only[go_sem,c9,bM,Int.cast_ofNat_Int,Int.reduceToNat,Int.toNat_zero,Int.toNat_one,Nat.reduceMul,Nat.zero_mul,Nat.one_mul,List.getD_cons_succ,List.getD_cons_zero,vP,qV,nq,List.length_map];(repeat (refine⟨by first | exact ao | exact⟨by decide,by decide⟩,?_⟩));exact gL) ?_
   repeat refine sq ?_
   refine dx hΓ hP [[],[0],[],[2],[],[4],[2,3,4,5],[2,3,4,5,6],u8,[],cZ] [5,7,10,11,12] [[5,0],[11,0],[12,0]] (by kernel_rfl) (fun K' hK=>by simp only[go_sem,c9,bM,Int.cast_ofNat_Int,Int.reduceToNat,Int.toNat_zero,Int.toNat_one,Nat.reduceMul,Nat.zero_mul,Nat.one_mul,List.getD_cons_succ,List.getD_cons_zero,vx];(repeat (refine⟨by first | exact ao | exact⟨by omega,by omega⟩,?_⟩));exact gL) ?_
   generalize hp:cX n.c=p at *
   generalize hle:1+aR n.d p.lv=le at *
   generalize hk:aR n.a 300=k at *
   generalize hdy:aR n.b 220=day at *
   generalize hl:jN r=l at *
   have fF:l.ps=mps:=by rw[<-hl];exact BD r
   have CP:cL l.ps p.id=p.lv:=by rw[fF];exact nu
   have JD:mS l ⟨p.id,le⟩ day k=0:=by
    unfold mS
    rw[if_pos jV,if_pos (by show bI le 1 (cL l.ps p.id)=true;rw[CP];exact gW (by omega) (by omega))]
    exact jv
   have Uu:wO l ⟨p.id,le⟩ day k=jE (aO (aj l k) k) p.id le day:=by unfold wO;rw[if_pos JD]
   obtain⟨w1,w2⟩:=NP aa jv p.id le day
   have vz:=fun h=>NO (pa:=p.id) (f:=le) (day:=day) hd jv h
   have mn:uv l k=.tup [.sl (((aj l k).ts.map (cE l)).map vInt),vInt 0]:=by unfold uv;rw[if_pos hd]
   have iN:∀ az,nH l k az=0->(jE (aO (aj l k) k) p.id le day).contains (fh (aj l k) az p.id day le)=true:=fun az h=>List.contains_iff_mem.2 (QD hd h _ _ _)
   generalize hW:jE (aO (aj l k) k) p.id le day=W at *
   have Ci:decide ((W.length:Int)<1)=false:=by simp;omega
   have Ch:decide ((W.length:Int)>2)=false:=by simp;omega
   have qF:(aj l k).ts.length<=60:=Nat.le_trans (N7 l k) aa.tsn
   have JM:(aj l k).ts.length<=maxLen:=by unfold maxLen;omega
   repeat refine sq ?_
   refine rx hΓ [5,7,10,11,12,13,14] [[5,0],[11,0],[12,0]] (fun K' hK=>by simp only[go_sem,c9,bM,Ao,JD,Uu];exact an) ?_
   repeat refine sq ?_
   refine rx hΓ [5,7,10,11,12,13,14,15,16] [[5,0],[11,0],[12,0]] (fun K' hK=>by simp only[go_sem,c9,bM,mn];exact an) ?_
   repeat refine sq ?_
   refine rx hΓ [5,7,10,11,12,13,15,101] [[5,0],[11,0],[12,0]] (fun K' hK=>by simp only[go_sem,c9,bM,Ci,Ch,bne_self_eq_false,Bool.or_self];exact an) ?_
   repeat refine sq ?_
   refine aB (fun hb=>?_) fun hb=>?_
   ·cases hb
   ·repeat refine sq ?_
    refine aE ?_
    repeat refine sq ?_
    refine rx hΓ [5,7,10,11,12,13,15,17] [[5,0],[11,0],[12,0],[226,0]] (fun K' hK=>by simp only[go_sem,c9,bM];exact an) ?_
    refine bZ (uh 17 [226,0] 1 (by simp only[go_sem]) (by simp only[go_sem]) [5,7,10,11,12,13,15,17] [[5,0],[11,0],[12,0],[226,0]] ?_ rfl) ?_
    ·simp only[go_sem]
    simp only[go_sem]
    repeat refine sq ?_
    refine rx hΓ [5,7,10,11,12,13,15,17,18] [[5,0],[11,0],[12,0],[226,0]] (fun K' hK=>by simp only[go_sem,c9,bM];exact an) ?_
    repeat refine sq ?_
    refine aS ?_
    repeat refine sq ?_
    refine cv (fun s:Nat=>[(18,⟨true,.v (vInt s)⟩),(17,⟨true,.msl [226,0] (l3 l k p.id le day s).length⟩)]) (fun s=>[([226,0],.arr 1 ((l3 l k p.id le day s).map vInt))]) (fun s=>s<=(aj l k).ts.length) (fun s=>(aj l k).ts.length-s) 0 ?_ ?_ ?_ ?_
    ·exact Nat.zero_le _
    ·rfl
    ·rfl
    rintro i hi
    simp only[go_sem]
    repeat refine sq ?_
    refine rx hΓ [5,7,10,11,12,13,15,17,18,105] [[5,0],[11,0],[12,0],[226,0]] (fun K' hK=>by simp only[go_sem,c9,bM];exact an) ?_
    repeat refine sq ?_
    refine aB (fun hb=>?_) fun hb=>?_
    ·have ab:i<(aj l k).ts.length:=by simpa using hb
     have aq:(i:Int)<(aj l k).ts.length:=by omega
     clear hb
     have jt:=List.getElem_mem ab
     have hb0:=(jd l k).tl _ jt
     obtain⟨j,ej⟩:∃ j:Nat,(aj l k).ts[i]=(j:Int):=⟨((aj l k).ts[i]).toNat,by omega⟩
     have hj:(j:Int)∈(aj l k).ts:=by rw[<-ej];exact jt
     have tk:(((aj l k).ts.map (cE l)).map vInt).getD i default=vInt (cE l j):=by
      rw[ah (by rw[List.length_map];exact ab),List.getElem_map,ej]
     obtain⟨q1,q2,q3,q4⟩:=LY hd jv hj
     have q5:=(at_tel hd jv hj false).2.2.2
     have q6:=Lb aa jv hj
     have q7:decide ((aP (aO (aj l k) k).ds j).1>(aP (aO (aj l k) k).ds j).2)=false:=by simp;omega
     have UB:=aa.tsn
     have Vv:(aj l k).ts.getD i 0=(j:Int):=by rw[bW ab,ej]
     repeat refine sq ?_
     refine aE ?_
     repeat refine sq ?_
     refine aS ?_
     repeat refine sq ?_
     refine dx hΓ hP [[],[],[],[1,2],[1,2,3],[],u6,u7,u8,u8,[],[0,1,2,3,4,5,6,7,8,10],fG] [5,7,10,11,12,13,15,17,18,19,20] [[5,0],[11,0],[12,0],[19,0],[226,0]] (by kernel_rfl) (fun K' hK=>by simp only[go_sem,c9,bM,ah ab,ai,ak,aq,tk,aq,q3,q5,List.length_map,ai,ak];exact kM) ?_
     repeat refine sq ?_
     refine rx hΓ [5,7,10,11,12,13,15,17,18,19,126] [[5,0],[11,0],[12,0],[19,0],[226,0]] (fun K' hK=>by simp only[go_sem,c9,bM,ah ab,ai,ak,aq,q7,bne_self_eq_false,Bool.or_self];exact an) ?_
     repeat refine sq ?_
     refine aB (fun hb=>?_) fun hb=>?_
     ·cases hb
     ·repeat refine sq ?_
      refine aE ?_
      repeat refine sq ?_
      refine dx hΓ hP [[],[],[],[1,2],[1,2,3],u5,u6] [5,7,10,11,12,13,15,17,18,19,21] [[5,0],[11,0],[12,0],[19,0],[226,0]] (by kernel_rfl) (fun K' hK=>by simp only[go_sem,c9,bM,ah ab,ai,ak,aq,tk,aq,q4,List.length_map,ai,ak];(repeat (refine⟨by first | exact ao | exact UB,?_⟩));exact gL) ?_
      repeat refine sq ?_
      refine rx hΓ [5,7,10,11,12,13,15,17,18,19,21,22] [[5,0],[11,0],[12,0],[19,0],[226,0]] (fun K' hK=>by simp only[go_sem,c9,bM,ah ab,ai,ak,aq];exact an) ?_
      repeat refine sq ?_
      refine aS ?_
      repeat refine sq ?_
      refine cv (fun s:Nat=>[(22,⟨true,.v (vInt s)⟩),(17,⟨true,.msl [226,0] (pb l k p.id le day i s).length⟩)]) (fun s=>[([226,0],.arr 1 ((pb l k p.id le day i s).map vInt))]) (fun s=>s<=2) (fun s=>2-s) 0 ?_ ?_ ?_ ?_
      ·exact Nat.zero_le _
      ·rfl
      ·rfl
      rintro i1 hi
      simp only[go_sem]
      repeat refine sq ?_
      refine rx hΓ [5,7,10,11,12,13,15,17,18,19,21,22,134] [[5,0],[11,0],[12,0],[19,0],[226,0]] (fun K' hK=>by simp only[go_sem,c9,bM,ah ab,ai,ak,aq];exact an) ?_
      repeat refine sq ?_
      refine aB (fun hb=>?_) fun hb=>?_
      ·repeat refine sq ?_
       have aU:i1<2:=by have h:=hb;simp at h;omega
       have V5:(((i1:Int)==1)=false/\((i1:Int)==0)=true)\/(((i1:Int)==1)=true/\((i1:Int)==0)=false):=by
        rcases(show i1=0\/i1=1 by omega)with h | h<;>subst h
        ·exact .inl ⟨rfl,rfl⟩
        ·exact .inr ⟨rfl,rfl⟩
       obtain⟨x1,x2,x3,-⟩:=at_tel hd jv hj ((i1:Int)==1)
       have wK:(j:Int)<(dd l (cE l j) k ((i1:Int)==1)).length:=by omega
       have x4:((dd l (cE l j) k ((i1:Int)==1)).map vInt).getD j default=vInt (if ((i1:Int)==1)=true then(aP (aO (aj l k) k).ds j).2 else(aP (aO (aj l k) k).ds j).1):=by
        rw[ah x1,<-x2,bW x1]
       have x5:decide ((j:Int)<0)=false:=by simp
       have x6:=iN _ x3
       obtain⟨x7,-,-⟩:=E9 hd x3
       have x8:lk l (dd l (cE l j) k ((i1:Int)==1)) p.id day k=0:=by unfold lk;rw[if_pos jV,CP,if_neg (by omega),if_pos x7]
       have x9:l9 l (dd l (cE l j) k ((i1:Int)==1)) p.id day k=eH (aj l k) (dd l (cE l j) k ((i1:Int)==1)) p.id day p.lv.toNat p.lv.toNat:=by unfold l9;rw[if_pos x8,CP]
       have y1:=uS (aj l k) (dd l (cE l j) k ((i1:Int)==1)) p.id day p.lv.toNat p.lv.toNat
       have y2:=Gz (aj l k) (dd l (cE l j) k ((i1:Int)==1)) p.id day p.lv.toNat p.lv.toNat (Nat.le_refl _) (le-1).toNat (by omega)
       have y3:(((le-1).toNat+1:Nat):Int)=le:=by omega
       rw[y3]at y2
       have y4:=AJ l k p.id le day i i1
       rw[Vv]at y4
       generalize eH (aj l k) (dd l (cE l j) k ((i1:Int)==1)) p.id day p.lv.toNat p.lv.toNat=PL at *
       have y5:(PL.length:Int)=p.lv:=by omega
       have y6:IntKind.i64.wrap (le-1)=le-1:=wrap_i64 (by omega) (by omega)
       have y7:(PL.map vInt).getD (le-1).toNat default=vInt (fh (aj l k) (dd l (cE l j) k ((i1:Int)==1)) p.id day le):=by
        rw[ah (by omega),<-y2,bW (by omega)]
       have y8:0<=le-1:=by omega
       have y9:le-1<p.lv:=by omega
       have z1:=Oo l k p.id le day (Nat.le_of_lt ab) i1
       refine aE ?_
       repeat refine sq ?_
       refine aS ?_
       repeat refine sq ?_
       refine dx hΓ hP [[],[],[],[1,2],[1,2,3],[],[],[6],u8,u9,cZ,cZ,eG,kg] [5,7,10,11,12,13,15,17,18,19,21,22,23,24] [[5,0],[11,0],[12,0],[19,0],[226,0]] (by kernel_rfl) (fun K' hK=>by simp only[go_sem,c9,bM,ah ab,ai,ak,aq,tk,aq,q3,List.length_map,ai,ak];exact kM) ?_
       rcases V5 with⟨c1,c2⟩ | ⟨c1,c2⟩
       ·rw[c1]at wK x3 x4 x6 x8 x9 y4 y7
        simp only[Bool.false_eq_true,if_false]at x4
        repeat refine sq ?_
        refine dx hΓ hP [[],[0],[0,1],[0,1,2],[0,1,2],[0,1,2],u6,u7,u8,u9,cZ,eG,fG,kg,kf,sm,u16,kY,kY,lW,nX,kY,[0,1,2,3,4,5,6,7,8,9,10,11,12,13,14,15,16,21],o7,wR,sk,Au,As,sj,si,o6,o6,u32,Ar,o6,[0,1,2,3,4,5,6,7,8,9,10,11,12,13,14,15,16,17,18,19,20,21,22,23,24,25,26,27,28,29,34],E7,E6,E5] [5,7,10,11,12,13,15,17,18,19,21,22,23,187] [[5,0],[11,0],[12,0],[19,0],[226,0]] (by kernel_rfl) (fun K' hK=>by simp only[go_sem,c9,bM,ah ab,ai,ak,aq,c1,c2,x3,x4,x5,wK,ai,ak,List.length_map,bne_self_eq_false];exact kM) ?_
        repeat refine sq ?_
        refine aB (fun hb=>?_) fun hb=>?_
        ·cases hb
        ·repeat refine sq ?_
         refine aE ?_
         repeat refine sq ?_
         refine rx hΓ [5,7,10,11,12,13,15,17,18,19,21,22,25,26] [[5,0],[11,0],[12,0],[19,0],[226,0]] (fun K' hK=>by simp only[go_sem,c9,bM,ah ab,ai,ak,aq,c1,c2,x8,x9];exact an) ?_
         repeat refine sq ?_
         refine rx hΓ [5,7,10,11,12,13,15,17,18,19,21,22,25,217] [[5,0],[11,0],[12,0],[19,0],[226,0]] (fun K' hK=>by simp only[go_sem,c9,bM,ah ab,ai,ak,aq,c1,c2,y5,y6,y7,y8,y9,x6,bne_self_eq_false,List.length_map];exact an) ?_
         repeat refine sq ?_
         refine aB (fun hb=>?_) fun hb=>?_
         ·cases hb
         ·repeat refine sq ?_
          refine aE ?_
          repeat refine sq ?_
          refine aY hΓ fun K' hK=>?_
          simp only[go_sem,c9,bM,ah ab,ai,ak,aq,c1,c2,y5,y6,y7,y8,y9,List.length_map]
          repeat (refine⟨by first | exact ao | exact⟨rfl,by rw[z1];omega,by rw[z1];unfold maxLen;omega⟩,?_⟩)
          refine hK _ ?_
          clear K' hK
          simp only[go_sem]
          refine kp [5,7,10,11,12,13,15,17,18,19,21,22] [[5,0],[11,0],[12,0],[19,0],[226,0]] ?_
          repeat refine sq ?_
          refine aY hΓ fun K' hK=>?_
          simp only[go_sem,c9,bM,ah ab,ai,ak,aq,c1,c2]
          repeat (refine⟨ao,?_⟩)
          refine hK _ ?_
          clear K' hK
          simp only[go_sem]
          refine⟨i1+1,aU,by(show 2-(i1+1)<2-i1;omega),?_⟩
          refine bq [5,7,10,11,12,13,15,17,18,19,21,22] [[5,0],[11,0],[12,0],[19,0],[226,0]] ?_ ?_<;>simp only[go_sem,bj aU (by decide:2<=maxLen),bn,y4,List.map_append,List.map_cons,List.map_nil,List.length_append,List.length_cons,List.length_nil]
       ·rw[c1]at wK x3 x4 x6 x8 x9 y4 y7
        simp only[if_true]at x4
        repeat refine sq ?_
        refine dx hΓ hP [[],[0],[0,1],[0,1,2],[0,1,2],[0,1,2],u6,u7,u8,u9,cZ,eG,fG,kg,kf,sm,u16,kY,kY,lW,nX,kY,[0,1,2,3,4,5,6,7,8,9,10,11,12,13,14,15,16,21],o7,wR,sk,Au,As,sj,si,o6,o6,u32,Ar,o6,[0,1,2,3,4,5,6,7,8,9,10,11,12,13,14,15,16,17,18,19,20,21,22,23,24,25,26,27,28,29,34],E7,E6,E5] [5,7,10,11,12,13,15,17,18,19,21,22,23,187] [[5,0],[11,0],[12,0],[19,0],[226,0]] (by kernel_rfl) (fun K' hK=>by simp only[go_sem,c9,bM,ah ab,ai,ak,aq,c1,c2,x3,x4,x5,wK,ai,ak,List.length_map,bne_self_eq_false];exact kM) ?_
        repeat refine sq ?_
        refine aB (fun hb=>?_) fun hb=>?_
        ·cases hb
        ·repeat refine sq ?_
         refine aE ?_
         repeat refine sq ?_
         refine rx hΓ [5,7,10,11,12,13,15,17,18,19,21,22,25,26] [[5,0],[11,0],[12,0],[19,0],[226,0]] (fun K' hK=>by simp only[go_sem,c9,bM,ah ab,ai,ak,aq,c1,c2,x8,x9];exact an) ?_
         repeat refine sq ?_
         refine rx hΓ [5,7,10,11,12,13,15,17,18,19,21,22,25,217] [[5,0],[11,0],[12,0],[19,0],[226,0]] (fun K' hK=>by simp only[go_sem,c9,bM,ah ab,ai,ak,aq,c1,c2,y5,y6,y7,y8,y9,x6,bne_self_eq_false,List.length_map];exact an) ?_
         repeat refine sq ?_
         refine aB (fun hb=>?_) fun hb=>?_
         ·cases hb
         ·repeat refine sq ?_
          refine aE ?_
          repeat refine sq ?_
          refine aY hΓ fun K' hK=>?_
          simp only[go_sem,c9,bM,ah ab,ai,ak,aq,c1,c2,y5,y6,y7,y8,y9,List.length_map]
          repeat (refine⟨by first | exact ao | exact⟨rfl,by rw[z1];omega,by rw[z1];unfold maxLen;omega⟩,?_⟩)
          refine hK _ ?_
          clear K' hK
          simp only[go_sem]
          refine kp [5,7,10,11,12,13,15,17,18,19,21,22] [[5,0],[11,0],[12,0],[19,0],[226,0]] ?_
          repeat refine sq ?_
          refine aY hΓ fun K' hK=>?_
          simp only[go_sem,c9,bM,ah ab,ai,ak,aq,c1,c2]
          repeat (refine⟨ao,?_⟩)
          refine hK _ ?_
          clear K' hK
          simp only[go_sem]
          refine⟨i1+1,aU,by(show 2-(i1+1)<2-i1;omega),?_⟩
          refine bq [5,7,10,11,12,13,15,17,18,19,21,22] [[5,0],[11,0],[12,0],[19,0],[226,0]] ?_ ?_<;>simp only[go_sem,bj aU (by decide:2<=maxLen),bn,y4,List.map_append,List.map_cons,List.map_nil,List.length_append,List.length_cons,List.length_nil]
      ·repeat refine sq ?_
       have kI:i1=2:=by
        simp at hb
        omega
       subst kI
       refine bV ?_
       simp only[go_sem]
       refine kp [5,7,10,11,12,13,15,17,18] [[5,0],[11,0],[12,0],[226,0]] ?_
       repeat refine sq ?_
       refine aY hΓ fun K' hK=>?_
       simp only[go_sem,c9,bM,ah ab,ai,ak,aq]
       repeat (refine⟨ao,?_⟩)
       refine hK _ ?_
       clear K' hK
       simp only[go_sem]
       refine⟨i+1,ab,by(show (aj l k).ts.length-(i+1)<(aj l k).ts.length-i;omega),?_⟩
       refine bq [5,7,10,11,12,13,15,17,18] [[5,0],[11,0],[12,0],[226,0]] ?_ ?_<;>simp only[go_sem,bj ab JM,bn,Oq l k p.id le day ab]
    ·have bx:i=(aj l k).ts.length:=by
      have :¬ (i:Int)<(aj l k).ts.length:=by simpa using hb
      omega
     clear hb
     subst bx
     repeat refine sq ?_
     refine bV ?_
     simp only[go_sem]
     refine kp [13,17] [[226,0]] ?_
     repeat refine sq ?_
     refine rx hΓ [13,17,27] [[226,0]] (fun K' hK=>by simp only[go_sem,c9,bM];exact an) ?_
     repeat refine sq ?_
     refine aS ?_
     repeat refine sq ?_
     refine cv (fun s:Nat=>[(27,⟨true,.v (vInt s)⟩)]) (fun s=>[]) (fun s=>s<=W.length) (fun s=>W.length-s) 0 ?_ ?_ ?_ ?_
     ·exact Nat.zero_le _
     ·rfl
     ·rfl
     rintro i2 hi
     simp only[go_sem]
     repeat refine sq ?_
     refine rx hΓ [13,17,27,235] [[226,0]] (fun K' hK=>by simp only[go_sem,c9,bM];exact an) ?_
     repeat refine sq ?_
     refine aB (fun hb=>?_) fun hb=>?_
     ·repeat refine sq ?_
      have jx:=hb
      have dz:i2<W.length:=by simp at jx;omega
      have mv:(i2:Int)<W.length:=by omega
      have WL:1<W.length:=by simp at jx;omega
      have Cl:(l3 l k p.id le day (aj l k).ts.length).contains W[i2]=true:=by
       obtain⟨j,hj,h⟩:=vz WL
       rcases h _ (List.getElem_mem dz)with h | h<;>rw[h]
       ·exact Fy hj false
       ·exact Fy hj true
      refine aE ?_
      repeat refine sq ?_
      refine aS ?_
      repeat refine sq ?_
      refine rx hΓ [13,17,27,244] [[226,0]] (fun K' hK=>by simp only[go_sem,c9,bM,ah dz,mv,Cl,ai,ak,List.length_map];exact an) ?_
      repeat refine sq ?_
      refine aB (fun hb=>?_) fun hb=>?_
      ·cases hb
      ·repeat refine sq ?_
       refine aE ?_
       refine cf ?_
       simp only[go_sem]
       refine kp [13,17,27] [[226,0]] ?_
       repeat refine sq ?_
       refine aY hΓ fun K' hK=>?_
       simp only[go_sem,c9,bM]
       repeat (refine⟨ao,?_⟩)
       refine hK _ ?_
       clear K' hK
       simp only[go_sem]
       refine⟨i2+1,dz,by(show W.length-(i2+1)<W.length-i2;omega),?_⟩
       refine bq [13,17,27] [[226,0]] ?_ ?_<;>simp only[go_sem,bj dz (by unfold maxLen;omega:W.length<=maxLen),bn]
     ·repeat refine sq ?_
      clear hb
      refine bV ?_
      simp only[go_sem]
      refine kp [] [] ?_
      repeat refine sq ?_
      refine rx hΓ [4] [] (fun K' hK=>by simp only[go_sem,c9,bM];exact an) ?_
      refine aA ?_
      simp only[go_sem]
      first | done | rfl
end
open Go
def iq(P:Program)(t:TypeId):Bool:=match P.underlying t with | some (.struct _)=>true | some (.array _ _)=>true | _=>false
def ma(ag:Bool)(xs:List V):V:=if ag then .agg xs else xs.getD 0 default
def mV(P:Program):List Field->Nat->Nat->Bool
 |[],off,tot=>off==tot
 |f::r,off,tot=>f.offset==off&&mV P r (off+P.cellsOf f.type) tot
def km(P:Program):Nat->TypeId->Bool
 | 0,_=>false
 |n+1,t=>match P.underlying t with
  |some .bool=>P.cellsOf t==1
  |some (.int _)=>P.cellsOf t==1
  |some .string=>P.cellsOf t==1
  |some (.slice e)=>P.cellsOf t==1&&km P n e&&decide (0<P.cellsOf e)&&(iq P e||P.cellsOf e==1)
  |some (.struct fs)=>mV P fs.toList 0 (P.cellsOf t)&&fs.toList.all fun f=>km P n f.type
  |some (.array m e)=>P.cellsOf t==m*P.cellsOf e&&km P n e
  |_=>false
def wB(S:TypeId->List V->Prop):List TypeId->List V->Prop
 |[],xs=>xs=[]
 |t::r,xs=>∃ a b,xs=a++b/\S t a/\wB S r b
def eQ(P:Program):Nat->TypeId->List V->Prop
 | 0,_,_=>False
 |n+1,t,xs=>match P.underlying t with
  |some .bool=>∃ b,xs=[.bool b]
  |some (.int k)=>∃ z,xs=[.int k z]/\(Lit.int k z).wf=true
  |some .string=>∃ s,xs=[.str s]/\s.size<=maxLen
  |some (.slice e)=>∃ ls:List (List V),xs=[.sl (ls.map (ma (iq P e)))]/\ls.length<=maxLen/\∀ y∈ls,eQ P n e y
  |some (.struct fs)=>wB (eQ P n) (fs.toList.map (·.type)) xs
  |some (.array m e)=>wB (eQ P n) (List.replicate m e) xs
  |_=>False
structure ir (m:Mem) (xs:List V) (cs:List Value):Prop where
 len:xs.length=cs.length
 rep:∀ i (h:i<xs.length) (h':i<cs.length),aL m xs[i] cs[i]
 one:∀ x∈xs,x.one=true
theorem ir.nil(m:Mem):ir m [] []:=⟨rfl,fun i h=>by simp at h,fun x h=>by simp at h⟩
theorem ir.append{m:Mem}{xs ys:List V}{cs ds:List Value}(h:ir m xs cs)(k:ir m ys ds):ir m (xs++ys) (cs++ds):=by
 refine⟨by simp[h.len,k.len],fun i h1 h2=>?_,fun x hx=>?_⟩
 ·by_cases hi:i<xs.length
  ·rw[List.getElem_append_left hi,List.getElem_append_left (by rw[<-h.len];exact hi)]
   exact h.rep i hi _
  ·have hl:=h.len
   have e:i-xs.length=i-cs.length:=by rw[hl]
   rw[List.getElem_append_right (by omega),List.getElem_append_right (by omega)]
   simp only[List.length_append]at h1 h2
   have :=k.rep (i-xs.length) (by omega) (by rw[<-k.len];omega)
   simp only[e]at this |-
   exact this
 ·rcases List.mem_append.1 hx with hx | hx
  ·exact h.one x hx
  ·exact k.one x hx
theorem ir.single{m:Mem}{x:V}{u:Value}(h:aL m x u)(ho:x.one=true):ir m [x] [u]:=
 ⟨rfl,fun i h1 h2=>by simp at h1;subst h1;exact h,fun y hy=>by simp at hy;subst hy;exact ho⟩
theorem mapM_some{α β:Type}{f:α->Option β}:∀ {l:List α} {r:List β},l.mapM f=some r->r.length=l.length/\∀ i (h:i<l.length) (h':i<r.length),f l[i]=some r[i]
 |[],r,h=>by
  simp only[List.mapM_nil]at h
  cases h
  exact⟨rfl,fun i h=>by simp at h⟩
 |a::l,r,h=>by
  simp only[List.mapM_cons,Option.bind_eq_bind,Option.bind_eq_some_iff]at h
  obtain⟨b,hb,bs,yL,hr⟩:=h
  cases hr
  obtain⟨h1,h2⟩:=mapM_some yL
  refine⟨by simp[h1],fun i hi bC=>?_⟩
  cases i with
  |zero=>exact hb
  |succ i=>exact h2 i (by simpa using hi) (by simpa using bC)
theorem Fe{P:Program}:∀ {fs:List Field} {off tot:Nat},mV P fs off tot=true->off<=tot
 |[],off,tot,h=>by simp[mV]at h;omega
 |f::r,off,tot,h=>by
  simp only[mV,Bool.and_eq_true]at h
  have :=Fe h.2
  omega
theorem Lk{P:Program}{m:Mem}{S:TypeId->List V->Prop}{cs:List Value}:∀ {fs:List Field} {off:Nat},mV P fs off cs.length=true->
 (∀ f∈fs,∃ xs,S f.type xs/\ir m xs ((cs.drop f.offset).take (P.cellsOf f.type)))->∃ xs,wB S (fs.map (·.type)) xs/\ir m xs (cs.drop off)
 |[],off,h,_=>by
  simp[mV]at h
  subst h
  exact⟨[],rfl,by simpa using ir.nil m⟩
 |f::r,off,h,hf=>by
  simp only[mV,Bool.and_eq_true,beq_iff_eq]at h
  obtain⟨h1,h2⟩:=h
  obtain⟨a,ha,Cr⟩:=hf f (by simp)
  obtain⟨b,hb,vF⟩:=Lk h2 fun g hg=>hf g (by simp[hg])
  refine⟨a++b,⟨a,b,rfl,ha,hb⟩,?_⟩
  have e:cs.drop off=(cs.drop f.offset).take (P.cellsOf f.type)++cs.drop (off+P.cellsOf f.type):=by
   rw[h1,<-List.drop_drop,List.take_append_drop]
  rw[e]
  exact Cr.append vF
theorem MR{m:Mem}{S:TypeId->List V->Prop}{e:TypeId}{k:Nat}{cs:List Value}:∀ (n off:Nat),cs.length=(off+n)*k->
 (∀ i,i<off+n->∃ xs,S e xs/\ir m xs ((cs.drop (i*k)).take k))->∃ xs,wB S (List.replicate n e) xs/\ir m xs (cs.drop (off*k))
 | 0,off,h,_=>by
   have :cs.drop (off*k)=[]:=List.drop_eq_nil_of_le (by rw[h];simp)
   rw[this]
   exact⟨[],rfl,ir.nil m⟩
 |n+1,off,h,hf=>by
  obtain⟨a,ha,Cr⟩:=hf off (by omega)
  obtain⟨b,hb,vF⟩:=MR n (off+1) (by rw[h];congr 1;omega) fun i hi=>hf i (by omega)
  refine⟨a++b,⟨a,b,rfl,ha,hb⟩,?_⟩
  have e:cs.drop (off*k)=(cs.drop (off*k)).take k++cs.drop ((off+1)*k):=by
   rw[Nat.succ_mul,<-List.drop_drop,List.take_append_drop]
  rw[e]
  exact Cr.append vF
theorem QK{ag:Bool}{xs:List V}(h:ag=true\/xs.length=1)(ho:∀ x∈xs,x.one=true):(ma ag xs).cells=xs:=by
 cases ag with
 |true=>rfl
 |false=>
  rcases h with h | h
  ·cases h
  match xs,h with
  |[x],_=>
   have :=ho x (by simp)
   show x.cells=[x]
   cases x<;>first | rfl | (simp[V.one]at this)
def ky(w:World):Mem:=fun b off=>w.cell? ⟨b,off,none⟩
theorem M0{a:Addr}(h:a.spot=none)(n:Nat):a.add n=⟨a.block,a.off+n,none⟩:=by
 obtain⟨b,o,s⟩:=a
 simp only at h
 subst h
 unfold Addr.add
 split
 ·rename_i e;subst e;rfl
 ·rfl
theorem xl{H:Type}{enc:TypeId×Value->H}{P:Program}{w:World}{base:Nat}{spare:Nat->Bool}{held:Bool}:
 ∀ (n fuel:Nat) (t:TypeId) (cs:List Value) (r:DataW H×List MemPlace),km P n t=true->cs.length=P.cellsOf t->DataW.trod enc P w base spare held fuel t cs=some r->∃ xs,eQ P n t xs/\ir (ky w) xs cs
 | 0,_,_,_,_,h,_,_=>by simp[km]at h
 |n+1,0,_,_,_,_,_,h=>by simp[DataW.trod]at h
 |n+1,fuel+1,t,cs,r,hp,hlen,h=>by
  rw[DataW.trod_step]at h
  unfold DataW.trodStep at h
  unfold km at hp
  unfold eQ
  rcases hu:P.underlying t with _ | u
  ·rw[hu]at hp;simp at hp
  rw[hu]at hp h
  cases u with
  |bool=>
   have hb:∃ b,cs=[.bool b]:=by
    simp only at h
    split at h<;>simp_all
   obtain⟨b,rfl⟩:=hb
   exact⟨_,⟨b,rfl⟩,.single (.bool _) rfl⟩
  |int k=>
   simp only at hp h |-
   split at h<;>simp_all
   obtain⟨⟨rfl,h1⟩,_⟩:=h
   exact⟨_,⟨_,rfl,h1⟩,.single (.int _ _) rfl⟩
  |string=>
   simp only at hp h |-
   split at h<;>simp_all
   obtain⟨h1,_⟩:=h
   exact⟨_,⟨_,rfl,h1⟩,.single (.str _ h1) rfl⟩
  |slice e=>
   simp only[Bool.and_eq_true,decide_eq_true_eq,Bool.or_eq_true,beq_iff_eq]at hp |-
   obtain⟨⟨⟨_,yl⟩,cB⟩,We⟩:=hp
   split at h<;>simp_all
   ·exact⟨_,⟨[],rfl,Nat.zero_le _,by simp⟩,.single (.slnil _ _) rfl⟩
   ·rename_i e' a len cap _ _
    obtain⟨⟨hb,Va,hcm⟩,h⟩:=h
    simp only[Option.bind_eq_some_iff]at h
    obtain⟨elems,C9,_⟩:=h
    obtain⟨l1,l2⟩:=mapM_some C9
    simp only[List.length_range]at l1
    have hx:∀ i,i<len->∃ xs cells,w.cells? base (a.add (i*P.cellsOf e')) (P.cellsOf e')=some cells/\eQ P n e' xs/\ir (ky w) xs cells:=by
     intro i hi
     have h3:=l2 i (by simpa using hi) (by omega)
     simp only[List.getElem_range,Option.bind_eq_some_iff]at h3
     obtain⟨cells,h4,h5⟩:=h3
     obtain⟨xs,h6,h7⟩:=xl n fuel _ _ _ yl (World.cells?_some h4).2.1 h5
     exact⟨xs,cells,h4,h6,h7⟩
    rcases Nat.eq_zero_or_pos len with hz | UT
    ·subst hz
     exact⟨[.sl []],⟨[],rfl,Nat.zero_le _,by simp⟩,.single (.slnil _ _) rfl⟩
    have Ck:a.spot=none:=by
     obtain⟨xs,cells,h4,_⟩:=hx 0 UT
     have h8:=(World.cells?_some h4).2.2 0 cB
     have h9:=(World.cells?_some h4).2.1
     have ry:w.cell? ((a.add (0*P.cellsOf e')).add 0)=some (cells[0]'(by omega)):=by rw[h8];exact List.getElem?_eq_getElem (by omega)
     simpa[Addr.add]using World.cell?_spot ry
    let X:Nat->List V:=fun i=>if h:i<len then Classical.choose (hx i h)else[]
    let C:Nat->List Value:=fun i=>(w.cells? base (a.add (i*P.cellsOf e')) (P.cellsOf e')).getD []
    have hX:∀ i,i<len->eQ P n e' (X i)/\ir (ky w) (X i) (C i)/\(C i).length=P.cellsOf e'/\∀ j,j<P.cellsOf e'->w.cell? ⟨a.block,a.off+i*P.cellsOf e'+j,none⟩=(C i)[j]?:=by
     intro i hi
     obtain⟨cells,h4,h6,h7⟩:=Classical.choose_spec (hx i hi)
     have e1:X i=Classical.choose (hx i hi):=dif_pos hi
     have e2:C i=cells:=by show (w.cells? _ _ _).getD []=cells;rw[h4];rfl
     rw[e1,e2]
     refine⟨h6,h7,(World.cells?_some h4).2.1,fun j hj=>?_⟩
     have h8:=(World.cells?_some h4).2.2 j hj
     rw[M0 Ck,M0 rfl]at h8
     exact h8
    have rk:∀ i,i<len->(ma (iq P e') (X i)).cells=X i:=fun i hi=>by
     obtain⟨h1,h2,h3,_⟩:=hX i hi
     refine QK ?_ h2.one
     rcases We with h | h
     ·exact .inl h
     ·exact .inr (by rw[h2.len,h3,h])
    refine⟨[.sl (((List.range len).map X).map (ma (iq P e')))],⟨(List.range len).map X,rfl,by simp;omega,fun y hy=>?_⟩,.single ?_ rfl⟩
    ·simp only[List.mem_map,List.mem_range]at hy
     obtain⟨i,hi,rfl⟩:=hy
     exact(hX i hi).1
    ·obtain⟨b,o,s⟩:=a
     simp only at Ck hX
     subst Ck
     have key:=aL.sl (m:=ky w) (((List.range len).map X).map (ma (iq P e'))) b o cap (P.cellsOf e') (fun i j=>((C i)[j]?).getD undef) (by
         intro h;have:=congrArg List.length h;simp at this;omega) (by simp;omega) (by simpa using Va)
      (fun i hi=>by
        have bC:i<len:=by simpa using hi
        obtain⟨h1,h2,h3,_⟩:=hX i bC
        simp only[List.getElem_map,List.getElem_range]
        rw[rk i bC,h2.len,h3])
      (fun i j hi hj=>by
        have bC:i<len:=by simpa using hi
        obtain⟨h1,h2,h3,h4⟩:=hX i bC
        show w.cell? _=_
        rw[h4 j hj,List.getElem?_eq_getElem (by omega)]
        rfl)
      (fun i j hi hj=>by
        have bC:i<len:=by simpa using hi
        obtain⟨h1,h2,h3,h4⟩:=hX i bC
        simp only[List.getElem_map,List.getElem_range,rk i bC]at hj |-
        have er:j<(C i).length:=by rw[<-h2.len];exact hj
        rw[List.getElem?_eq_getElem er]
        exact h2.rep j hj er)
      (fun i hi x hx=>by
        have bC:i<len:=by simpa using hi
        simp only[List.getElem_map,List.getElem_range,rk i bC]at hx
        exact(hX i bC).2.1.one x hx)
     simpa using key
  |struct fs=>
   simp only[Bool.and_eq_true,List.all_eq_true]at hp h |-
   obtain⟨ht,dY⟩:=hp
   rw[if_pos hlen]at h
   simp only[Option.map_eq_some_iff]at h
   obtain⟨ys,Ce,_⟩:=h
   obtain⟨l1,l2⟩:=mapM_some Ce
   have :=Lk (m:=ky w) (S:=eQ P n) (cs:=cs) (fs:=fs.toList) (off:=0) (by rw[hlen];exact ht) fun f hf=>by
    obtain⟨i,hi,rfl⟩:=List.mem_iff_getElem.1 hf
    have h3:=l2 i hi (by omega)
    have hle:P.cellsOf fs.toList[i].type<=(cs.drop fs.toList[i].offset).length:=by
     have key:∀ (l:List Field) (off tot:Nat),mV P l off tot=true->∀ f∈l,f.offset+P.cellsOf f.type<=tot:=by
      intro l
      induction l with
      |nil=>intro _ _ _ f hf;simp at hf
      |cons g r ih=>
       intro off tot h f hf
       simp only[mV,Bool.and_eq_true,beq_iff_eq]at h
       rcases List.mem_cons.1 hf with rfl | hf
       ·have:=Fe h.2;omega
       ·exact ih _ _ h.2 f hf
     have :=key _ _ _ ht _ hf
     simp only[List.length_drop]
     omega
    exact xl n fuel _ _ _ (dY _ hf) (by rw[List.length_take];omega) h3
   simpa using this
  |array m e=>
   simp only[Bool.and_eq_true,beq_iff_eq]at hp h |-
   obtain⟨ht,yl⟩:=hp
   rw[if_pos hlen]at h
   simp only[Option.map_eq_some_iff]at h
   obtain⟨ys,Ce,_⟩:=h
   obtain⟨l1,l2⟩:=mapM_some Ce
   have :=MR (m:=ky w) (S:=eQ P n) (e:=e) (k:=P.cellsOf e) (cs:=cs) m 0 (by rw[hlen,ht];simp) fun i hi=>by
    have bC:i<m:=by omega
    have h3:=l2 i (by simpa using bC) (by rw[l1];simpa using bC)
    simp only[List.getElem_range]at h3
    have hle:i*P.cellsOf e+P.cellsOf e<=cs.length:=by
     rw[hlen,ht,<-Nat.succ_mul];exact Nat.mul_le_mul_right _ bC
    exact xl n fuel _ _ _ yl (by rw[List.length_take,List.length_drop];omega) h3
   simpa using this
  |_=>simp at hp
open Go Go.RowKit Go.ChangeShapes Go.WideShapes Go.ChangeAt
theorem QY{P:Program}{n:Nat}{t:TypeId}{W:World}{r:Reach}{base:Nat}{v:Value}(hp:km P n t=true)(h:Value.okWide P W r base t v):
 v.cells.size=P.cellsOf t/\(iq P t=true->∃ cs,v=.agg cs)/\(iq P t=false->v.cells= #[v]/\P.cellsOf t=1):=by
 cases n with
 |zero=>simp[km]at hp
 |succ n=>
  unfold km at hp
  unfold iq
  rcases hu:P.underlying t with _ | u
  ·rw[hu]at hp;simp at hp
  rw[hu]at hp
  cases u with
  |bool=>
   obtain⟨b,rfl⟩:=okWide_bool hu h
   simp only[beq_iff_eq]at hp
   exact⟨by simp[Value.cells,hp],by simp,fun _=>⟨rfl,hp⟩⟩
  |int k=>
   obtain⟨b,rfl⟩:=okWide_int hu h
   simp only[beq_iff_eq]at hp
   exact⟨by simp[Value.cells,hp],by simp,fun _=>⟨rfl,hp⟩⟩
  |string=>
   obtain⟨b,rfl⟩:=okWide_string hu h
   simp only[beq_iff_eq]at hp
   exact⟨by simp[Value.cells,hp],by simp,fun _=>⟨rfl,hp⟩⟩
  |slice e=>
   obtain⟨a,len,cap,rfl⟩:=okWide_slice hu h
   simp only[Bool.and_eq_true,beq_iff_eq]at hp
   exact⟨by simp[Value.cells,hp.1.1.1],by simp,fun _=>⟨rfl,hp.1.1.1⟩⟩
  |struct fs=>
   simp only[Value.okWide,hu]at h
   obtain⟨cs,rfl,h2,_⟩:=h
   exact⟨h2,fun _=>⟨cs,rfl⟩,fun h=>by simp at h⟩
  |array m e=>
   simp only[Value.okWide,hu]at h
   obtain⟨cs,rfl,h2,_⟩:=h
   exact⟨h2,fun _=>⟨cs,rfl⟩,fun h=>by simp at h⟩
  |_=>simp at hp
def Aj(P:Program)(n:Nat)(t:TypeId)(x:V):Prop:=∃ xs,eQ P n t xs/\x=ma (iq P t) xs
def ug(P:Program)(n:Nat):List TypeId->List V->Prop
 |[],xs=>xs=[]
 |t::r,xs=>∃ x ys,xs=x::ys/\Aj P n t x/\ug P n r ys
theorem Yx{H:Type}{enc:TypeId×Value->H}{P:Program}{w:World}{b0:Nat}{spare:Nat->Bool}{held:Bool}{n:Nat}{t:TypeId}{r:Reach}{base:Nat}{v:Value}{d:DataW H}{ps:List MemPlace}
 (hp:km P n t=true) (h:Value.okWide P w r base t v) (ht:DataW.Trod enc P w b0 spare held t v d ps):∃ x,Aj P n t x/\aL (ky w) x v:=by
 obtain⟨h1,h2,h3⟩:=QY hp h
 obtain⟨fuel,hf⟩:=ht
 obtain⟨xs,k1,k2⟩:=xl n fuel t v.cells.toList _ hp (by simpa using h1) hf
 refine⟨ma (iq P t) xs,⟨xs,k1,rfl⟩,?_⟩
 cases ha:iq P t with
 |true=>
  obtain⟨cs,rfl⟩:=h2 ha
  simp only[ma,if_true]
  refine .agg xs cs (by simpa[Value.cells]using k2.len) k2.one fun i h h'=>?_
  have :=k2.rep i h (by simpa[Value.cells]using h')
  simpa[Value.cells]using this
 |false=>
  obtain⟨h4,h5⟩:=h3 ha
  have hl:xs.length=1:=by rw[k2.len];simp[h4]
  match xs,hl with
  |[x],_=>
   have :=k2.rep 0 (by simp) (by simp[h4])
   simp only[ma,Bool.false_eq_true,if_false,List.getD_cons_zero]
   simpa[h4]using this
theorem MT{H:Type}{enc:TypeId×Value->H}{P:Program}{w:World}{b0:Nat}{spare:Nat->Bool}{held:Bool}{n:Nat}{r:Reach}{base:Nat}:∀ {ts:List TypeId} {vs:List Value} {ds:List (DataW H)} {ps:List MemPlace},
 (∀ t∈ts,km P n t=true)->(∀ (j:Nat) t v,ts[j]?=some t->vs[j]?=some v->Value.okWide P w r base t v)->DataW.TrodAll enc P w b0 spare held ts vs ds ps->∃ xs,ug P n ts xs/\rZ (ky w) xs vs
 |[],vs,ds,ps,_,_,h=>by
  cases vs with
  |nil=>exact⟨[],rfl,rfl,fun i h=>by simp at h⟩
  |cons=>cases ds<;>simp[DataW.TrodAll]at h
 |t::ts,[],ds,ps,_,_,h=>by cases ds<;>simp[DataW.TrodAll]at h
 |t::ts,v::vs,[],ps,_,_,h=>by simp[DataW.TrodAll]at h
 |t::ts,v::vs,d::ds,ps,hp,hv,h=>by
  obtain⟨p,q,h1,h2,_⟩:=h
  obtain⟨x,k1,k2⟩:=Yx (hp t (by simp)) (hv 0 t v rfl rfl) h1
  obtain⟨ys,k3,k4,k5⟩:=MT (fun t ht=>hp t (by simp[ht])) (fun j t v h h'=>hv (j+1) t v (by simpa using h) (by simpa using h')) h2
  refine⟨x::ys,⟨x,ys,rfl,k1,k3⟩,by simp[k4],fun i hi bC=>?_⟩
  cases i with
  |zero=>exact k2
  |succ i=>exact k5 i (by simpa using hi) (by simpa using bC)
theorem MS{H:Type}{enc:TypeId×Value->H}{P:Program}(hl:laidOutB P=true){W W':World}(hb:Below W.heap.size W W'):∀ {ts:List TypeId} {vs:List Value} {ds:List (DataW H)} {ps:List MemPlace},
 (∀ t∈ts,P.readableRec t=true/\t<P.types.size)->DataW.TrodAll enc P W 0 (fun _=>true) true ts vs ds ps->(∀ x∈ps,x.block<W.heap.size)->DataW.TrodAll enc P W' 0 (fun b=>decide (b<W.heap.size)) true ts vs ds ps
 |[],vs,ds,ps,_,h,_=>by
  cases vs<;>cases ds<;>simp_all[DataW.TrodAll]
 |t::ts,[],ds,ps,_,h,_=>by cases ds<;>simp[DataW.TrodAll]at h
 |t::ts,v::vs,[],ps,_,h,_=>by simp[DataW.TrodAll]at h
 |t::ts,v::vs,d::ds,ps,hr,h,ab=>by
  obtain⟨p,q,h1,h2,rfl⟩:=h
  exact⟨p,q,Below.trod hl (hr t (by simp)).1 (hr t (by simp)).2 h1 hb (fun x hx=>ab x (by simp[hx])),
   MS hl hb (fun t ht=>hr t (by simp[ht])) h2 (fun x hx=>ab x (by simp[hx])),rfl⟩
theorem Fa{H:Type}{enc:TypeId×Value->H}{P:Program}{w:World}{b0:Nat}{spare:Nat->Bool}{held:Bool}:∀ {ts:List TypeId} {vs:List Value} {ds:List (DataW H)} {ps:List MemPlace},DataW.TrodAll enc P w b0 spare held ts vs ds ps->ds.length=ts.length
 |[],vs,ds,ps,h=>by cases vs<;>cases ds<;>simp_all[DataW.TrodAll]
 |t::ts,[],ds,ps,h=>by cases ds<;>simp[DataW.TrodAll]at h
 |t::ts,v::vs,[],ps,h=>by simp[DataW.TrodAll]at h
 |t::ts,v::vs,d::ds,ps,h=>by
  obtain⟨p,q,_,h2,_⟩:=h
  simp[Fa h2]
theorem Sn{H:Type}{enc:TypeId×Value->H}{C:Checked}{os:Os}{f:FuncId}{fn:Func}{s:ChangeSpec}{conds:List PathCond}{n:Nat}{tb:TypeId}
 (own:ownKnob C.prog.godebug=none) (started:os.Started) (Rj:C.prog.inits.idxOf? f=none) (e8:C.prog.funcs[f]?=some fn)
 (witness:∃ (w:World) (tape:Tape) (i:Input),w.os=os/\(w.forCall tape i).Shaped C.prog/\i.vars=[]/\Input.okWide C.prog (w.forCall tape i) .any w.heap.size f i/\
   s.pre6 enc C.prog fn conds false (w.forCall tape i).memory i.args/\({}:Assume).holds C.prog (lone (Frame.enter C.prog f i.args .normal) [] (w.forCall tape i)))
 (hl:laidOutB C.prog=true) (fF:∀ t∈fn.params.toList,km C.prog n t=true/\C.prog.readableRec t=true/\t<C.prog.types.size) (yi:fn.resultTypes= #[tb]) (jo:C.prog.underlying tb=some .bool)
 (JG:s.vars=[]) (hs:∀ ds:List (DataW H),ds.length=fn.params.toList.length->(s.fn H ds).results=[.lit (.bool true)]/\(s.fn H ds).args=ds/\(s.fn H ds).vars=[])
 (rp:∀ (W:World) (args:Array Value) (xs:List V),ug C.prog n fn.params.toList xs->rZ (ky W) xs args.toList->Calls C.prog f args W fun e W'=>e=.returned (.bool true)/\Below W.heap.size W W'):
 ReturnsInHanded {} C os f .any (s.pre6 enc C.prog fn conds false) (s.post enc C.prog fn false true false false):=by
 refine returnsInHanded_of_change own started Rj e8 witness ?_
 intro W base args ds gs before cN hW _ _
 have Dg:=hW
 obtain⟨p,q,hA,hV,rfl,_,_⟩:=hW
 rw[JG]at hV
 obtain⟨rfl,rfl⟩:=trodVars_none hV
 simp only[List.append_nil]at Dg
 have ab:∀ y∈p,y.block<W.heap.size:=fun y hy=>by simpa using Dg.lt y hy
 obtain⟨xs,h1,h2⟩:=MT (vs:=args.toList) (ts:=fn.params.toList) (fun t ht=>(fF t ht).1) (fun j t v h h'=>cN j t v (by simpa using h) (by simpa using h')) hA
 obtain⟨e1,e2,e3⟩:=hs ds (Fa hA)
 refine(rp W args xs h1 h2).mono fun e W' ⟨he,hn⟩=>?_
 subst he
 refine⟨_,rfl,ds,[],p,[],p,[],Dg,?_,?_,?_,hn.frame _,fun h=>by cases h⟩
 ·rw[List.append_nil,e1,yi]
  exact trodAll_mk1 (shut_bool jo _)
 ·rw[List.append_nil,e2]
  exact MS hl hn (fun t ht=>(fF t ht).2) hA ab
 ·rw[List.append_nil,e3,JG]
  rfl
open Go Go.Proofs Go.Proofs.YtepaolcgegdpoaaGreat Go.RowKit Go.ChangeShapes
theorem TM:ownKnob Tryz.prog.godebug=none:=by kernel_rfl
theorem TN:laidOutB Tryz.prog=true:=by kernel_rfl
end Go.Eng
set_option linter.constructorNameAsVariable false
set_option maxRecDepth 100000
namespace Go.Eng
open Go Go.Proofs
theorem iw{n:Nat}{xs:List V}(h:eQ Tryz.prog (n+1) 3 xs):∃ k,xs=[vInt k]/\(Lit.int .i64 k).wf=true:=by
 unfold eQ at h
 simp only[Tryz.underlying3]at h
 exact h
theorem Hl{α β:Type}{f:α->β}{P:β->Prop}(h:∀ y,P y->∃ x,y=f x):∀ {l:List β},(∀ y∈l,P y)->∃ m:List α,l=m.map f
 |[],_=>⟨[],rfl⟩
 |y::r,hl=>by
  obtain⟨x,rfl⟩:=h y (hl y (by simp))
  obtain⟨m,rfl⟩:=Hl h (l:=r) fun z hz=>hl z (by simp[hz])
  exact⟨x::m,rfl⟩
theorem FA{n:Nat}{T e:TypeId}{xs:List V}{α:Type}{f:α->V}(hu:Tryz.prog.underlying T=some (.slice e))(h:eQ Tryz.prog (n+1) T xs)
 (he:∀ ys,eQ Tryz.prog n e ys->∃ a,ma (iq Tryz.prog e) ys=f a):∃ l:List α,xs=[.sl (l.map f)]:=by
 unfold eQ at h
 simp only[hu]at h
 obtain⟨ls,rfl,_,h3⟩:=h
 obtain⟨m,hm⟩:=Hl (f:=f) (P:=fun y=>∃ d,y=f d) (fun y h=>h) (l:=ls.map (ma (iq Tryz.prog e))) fun y hy=>by
  obtain⟨z,hz,rfl⟩:=List.mem_map.1 hy
  exact he z (h3 z hz)
 exact⟨m,by rw[hm]⟩
theorem X7{f:FuncId}{s:PSpec}(h:aW Tryz.prog f s){W:World}{args:Array Value}{xs:List V}(hr:rZ (ky W) xs args.toList)(hp:s.pre xs)(ht:s.fn xs=.bool true):
 Calls Tryz.prog f args W fun e W'=>e=.returned (.bool true)/\RowKit.Below W.heap.size W W':=by
 refine(h.calls (ky W) W xs args (fun b off v hv=>hv) hr hp).mono ?_
 rintro e W' ⟨v,m',rfl,hb,_,_,hv⟩
 rw[ht]at hv
 cases hv
 exact⟨rfl,hb⟩
end Go.Eng
set_option maxRecDepth 100000
namespace Go.Eng
open Go Go.Proofs
theorem YK:iq Tryz.prog 25=true:=by kernel_rfl
theorem YM:iq Tryz.prog 100=true:=by kernel_rfl
theorem YL:iq Tryz.prog 131=true:=by kernel_rfl
theorem OA{n:Nat}{xs:List V}(h:eQ Tryz.prog (n+2) 100 xs):∃ x:R5,.agg xs=rH x:=by
 unfold eQ at h
 simp only[Tryz.underlying100]at h
 obtain⟨x1,y,rfl,h1,x2,y2,rfl,h2,x3,y3,rfl,h3,x4,y4,rfl,h4,x5,y5,rfl,h5,rfl⟩:=h
 obtain⟨a,rfl,_⟩:=iw h1
 obtain⟨b,rfl,_⟩:=iw h2
 obtain⟨c,rfl,_⟩:=iw h3
 obtain⟨d,rfl,_⟩:=iw h4
 obtain⟨e,rfl,_⟩:=iw h5
 exact⟨⟨a,b,c,d,e⟩,rfl⟩
theorem Oz{n:Nat}{xs:List V}(h:eQ Tryz.prog (n+2) 131 xs):∃ x:R7,.agg xs=tF x:=by
 unfold eQ at h
 simp only[Tryz.underlying131]at h
 obtain⟨x1,y,rfl,h1,x2,y2,rfl,h2,x3,y3,rfl,h3,x4,y4,rfl,h4,x5,y5,rfl,h5,x6,y6,rfl,h6,x7,y7,rfl,h7,rfl⟩:=h
 obtain⟨a,rfl,_⟩:=iw h1
 obtain⟨b,rfl,_⟩:=iw h2
 obtain⟨c,rfl,_⟩:=iw h3
 obtain⟨d,rfl,_⟩:=iw h4
 obtain⟨e,rfl,_⟩:=iw h5
 obtain⟨f,rfl,_⟩:=iw h6
 obtain⟨g,rfl,_⟩:=iw h7
 exact⟨⟨a,b,c,d,e,f,g⟩,rfl⟩
theorem FB{n:Nat}{xs:List V}(h:eQ Tryz.prog (n+3) 22 xs):∃ l:List R5,xs=[.sl (l.map rH)]:=
 FA Tryz.underlying22 h fun ys hy=>by
  obtain⟨x,hx⟩:=OA hy
  rw[YM]
  exact⟨x,hx⟩
theorem Oy{n:Nat}{xs:List V}(h:eQ Tryz.prog (n+3) 23 xs):∃ l:List R7,xs=[.sl (l.map tF)]:=
 FA Tryz.underlying23 h fun ys hy=>by
  obtain⟨x,hx⟩:=Oz hy
  rw[YL]
  exact⟨x,hx⟩
theorem Ox{n:Nat}{xs:List V}(h:eQ Tryz.prog (n+4) 25 xs):∃ r:Raw,.agg xs=rG r:=by
 unfold eQ at h
 simp only[Tryz.underlying25]at h
 obtain⟨x1,y,rfl,h1,x2,y2,rfl,h2,x3,y3,rfl,h3,rfl⟩:=h
 obtain⟨a,rfl⟩:=FB h1
 obtain⟨b,rfl⟩:=Oy h2
 obtain⟨c,rfl⟩:=FB h3
 exact⟨⟨a,b,c⟩,rfl⟩
theorem Yz{x:V}(h:Aj Tryz.prog 6 25 x):∃ o:Raw,x=rG o:=by
 obtain⟨xs,h1,rfl⟩:=h
 rw[YK]
 exact Ox h1
theorem Xj(r:Raw):zh (rG r)=r:=by
 cases r;simp only[rG,zh,Xn,Xl]
end Go.Eng
set_option linter.constructorNameAsVariable false
namespace Go.Eng
open Go Go.Proofs Go.Proofs.YtepaolcgegdpoaaGreat Go.RowKit Go.ChangeShapes
theorem RS(hc:∀ (W:World) (args:Array Value) (xs:List V),ug Tryz.prog 6 Tryz.f9.params.toList xs->rZ (ky W) xs args.toList->Calls Tryz.prog 9 args W fun e W'=>e=.returned (.bool true)/\Below W.heap.size W W')
 (os:Os) (started:os.Started) (H:Type) (enc:TypeId×Value->H):
 ReturnsInHanded {} Tryz.checked os 9 .any (Rows.loanAttainedSpec.pre6 enc Tryz.prog Tryz.f9 Rows.loanAttainedRow.domain false) (Rows.loanAttainedSpec.post enc Tryz.prog Tryz.f9 false true false false):=by
 refine Sn (C:=Tryz.checked) (n:=6) (tb:=4) TM started (by kernel_rfl) Tryz.func9
  (ChangeSpec.witness6 (enc:=enc) (C:=Tryz.checked) false ⟨#[],#[.agg #[.slice none 0 0,.slice none 0 0,.slice none 0 0],.agg #[.int .i64 0,.int .i64 0,.int .i64 0,.int .i64 0]],[]⟩ 8 (by kernel_rfl) (by kernel_rfl) (by kernel_rfl) (by kernel_rfl))
  TN ?_ (by kernel_rfl) (by kernel_rfl) rfl ?_ hc
 ·have h:(Tryz.f9.params.toList.all fun t=>km Tryz.prog 6 t&&Tryz.prog.readableRec t&&decide (t<Tryz.prog.types.size))=true:=by kernel_rfl
  intro t ht
  have :=List.all_eq_true.1 h t ht
  simp only[Bool.and_eq_true,decide_eq_true_eq]at this
  exact⟨this.1.1,this.1.2,this.2⟩
 ·intro ds nz
  have hl:Tryz.f9.params.toList.length=2:=by kernel_rfl
  rw[hl]at nz
  match ds,nz with
  |[d1,d2],_=>exact⟨rfl,rfl,rfl⟩
theorem RR(hc:∀ (W:World) (args:Array Value) (xs:List V),ug Tryz.prog 6 Tryz.f9.params.toList xs->rZ (ky W) xs args.toList->Calls Tryz.prog 9 args W fun e W'=>e=.returned (.bool true)/\Below W.heap.size W W'):
 Rows.LoanAttainedSaid:=
 OpenClaim.holds_of_wide 9 Tryz.f9 rfl rfl rfl rfl rfl rfl rfl ⟨rfl,rfl,rfl,rfl,rfl⟩ rfl rfl rfl rfl rfl (by kernel_rfl) Tryz.func9 (by kernel_rfl)
  (of_decide_eq_true (by kernel_rfl)) (by unfold Func.isWrapper;first | (rw[if_pos (by decide+kernel)];kernel_rfl) | (rw[if_neg (by decide+kernel)];exact⟨rfl,rfl⟩))
  (fun os started H enc _=>RS hc os started H enc)
end Go.Eng
set_option maxRecDepth 100000
namespace Go.Eng
open Go Go.Proofs Go.Proofs.YtepaolcgegdpoaaGreat
theorem YJ:iq Tryz.prog 78=true:=by kernel_rfl
theorem Ow{n:Nat}{xs:List V}(h:eQ Tryz.prog (n+2) 78 xs):∃ x:N4,.agg xs=zc x:=by
 unfold eQ at h
 simp only[Tryz.underlying78]at h
 obtain⟨x1,y,rfl,h1,x2,y2,rfl,h2,x3,y3,rfl,h3,x4,y4,rfl,h4,rfl⟩:=h
 obtain⟨a,rfl,_⟩:=iw h1
 obtain⟨b,rfl,_⟩:=iw h2
 obtain⟨c,rfl,_⟩:=iw h3
 obtain⟨d,rfl,_⟩:=iw h4
 exact⟨⟨a,b,c,d⟩,rfl⟩
theorem Yy{x:V}(h:Aj Tryz.prog 6 78 x):∃ o:N4,x=zc o:=by
 obtain⟨xs,h1,rfl⟩:=h
 rw[YJ]
 exact Ow h1
theorem loanAttained_holds:Rows.LoanAttainedSaid:=
 RR fun W args xs ha hr=>by
  obtain⟨x,ys,rfl,h1,y,zs,rfl,h2,rfl⟩:=(show ug Tryz.prog 6 [25,78] xs from ha)
  obtain⟨l,rfl⟩:=Yz h1
  obtain⟨o,rfl⟩:=Yy h2
  exact X7 s9 hr ⟨congrArg rG (Xj l),rfl,trivial⟩ rfl
end Go.Eng
namespace Go.Proofs.YtepaolcgegdpoaaGreat
theorem loanAttained_holds : Rows.LoanAttainedSaid := Go.Eng.loanAttained_holds
end Go.Proofs.YtepaolcgegdpoaaGreat
#print axioms Go.Proofs.YtepaolcgegdpoaaGreat.loanAttained_holds
