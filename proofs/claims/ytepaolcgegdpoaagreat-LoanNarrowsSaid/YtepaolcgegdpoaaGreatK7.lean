import Derived.Test.YtepaolcgegdpoaaGreatK6
/- Texts LW24 to LW31. -/
set_option linter.all false
namespace Go.Eng
open Go Go.Proofs
set_option maxRecDepth 10000
noncomputable section
def gu:Option Rec->List D
 |some r=>uQ r
 |none=>[.v (vInt 0),.v (vInt 0),.v (vInt 0),.nilsl,.v (vInt 0),.v (vInt 0),.v (vInt 0)]
def nF(rs:List Rec)(pa le day:Int)(s:Nat):Option Rec:=((dU rs pa [le]).take s).foldl (o0 day) none
theorem adD{rs:List Rec}{pa le day:Int}{s:Nat}(h:s<(dU rs pa [le]).length):nF rs pa le day (s+1)=o0 day (nF rs pa le day s) (dU rs pa [le])[s]:=by
 unfold nF
 rw[List.take_add_one,List.getElem?_eq_getElem h,List.foldl_append]
 rfl
theorem adE(rs:List Rec)(pa le day:Int):nF rs pa le day (dU rs pa [le]).length=eo rs pa le day:=by
 unfold nF eo
 rw[List.take_length]
def jf(x:Vw)(pa le day:Int):Lp where
 m:=7
 env:=fun Ls=>(List.range 37).map (ey eAny [(5,⟨true,.v (.ptr [vInt day])⟩),(6,⟨true,.ref (Ls.getD 0 []) 0⟩),(8,⟨true,.ref (Ls.getD 1 []) 0⟩),(9,⟨true,.ref (Ls.getD 2 []) 0⟩),(17,⟨true,.clo (.func 193) [] (kR 3 pa [le] Ls)⟩)])
 fam:=fun Ls s=>[.box (gu none),.box (gu (nF x.rs pa le day s)),.box [.v (.bool (nF x.rs pa le day s).isSome)],.box [.ref (Ls.getD 4 []) 0],bG x (Ls.getD 5 []) (Ls.getD 6 []),.map 2 (cm x.bk),.map 0 (bU x.ds)]
 ps:=(ru Tryz.f119).1.toList
 asg:=(ru Tryz.f119).2.1
 body:=(ru Tryz.f119).2.2
 n:=(dU x.rs pa [le]).length
 vals:=fun s=>[hU ((dU x.rs pa [le]).getD s zeroR)]
 st:=fun _=>none
 fu:=100
theorem adj(f:Name->Name)(o:Option Rec):D.renL f (gu o)=gu o:=by cases o<;>rfl
theorem RF(o:Option Rec):dw (gu o)=[]:=by cases o<;>rfl
theorem CN(p:Name->Bool)(o:Option Rec):D.closL p (gu o)=true:=by cases o<;>rfl
theorem Iv(x:Vw)(pa le day:Int)(hn:x.rs.Nodup):(jf x pa le day).Ok where
 len:=fun Ls s _=>rfl
 renE:=fun f Ls h=>by obtain⟨a,b,c,d,e,f,g,rfl⟩:=rF h;rfl
 renF:=fun f Ls s h=>by
  obtain⟨a,b,c,d,e,f,g,rfl⟩:=rF h
  simp only[jf,List.map_cons,List.map_nil,O.ren,adj,D.renL,D.ren,bG,List.getD_cons_succ,List.getD_cons_zero]
 reach:=fun Ls s obj acc q h cz hd hF=>by
  obtain⟨a,b,c,d,e,f,g,rfl⟩:=rF h
  obtain⟨h1,h2,h3,h4,h5,h6,h7,_⟩:=hF
  have en:dw (((jf x pa le day).env [a,b,c,d,e,f,g]).map (·.d))=[a,b,c,d]:=rfl
  rw[en]
  show dW obj (q+91+1+1+1+1+1+1+1+1+1) _ acc=_
  simp only[List.mem_cons,List.not_mem_nil,or_false,forall_eq_or_imp,forall_eq]at hd
  obtain⟨d1,d2,d3,d4,d5,d6,d7⟩:=hd
  simp only[List.nodup_cons,List.mem_cons,List.not_mem_nil,or_false,not_or,not_false_eq_true,List.nodup_nil,and_true]at cz
  obtain⟨⟨a1,a2,a3,a4,a5,a6⟩,⟨b1,b2,b3,b4,b5⟩,⟨c1,c2,c3,c4⟩,⟨e1,e2,e3⟩,⟨f1,f2⟩,g1⟩:=cz
  simp[dW,ig,h1,h2,h3,h4,h5,h6,h7,mW,dw,mX,bG,RF,d1,d2,d3,d4,d5,d6,d7,Ne.symm a1,Ne.symm a2,Ne.symm a3,Ne.symm a4,Ne.symm a5,Ne.symm a6,Ne.symm b1,Ne.symm b2,Ne.symm b3,Ne.symm b4,Ne.symm b5,Ne.symm c1,Ne.symm c2,Ne.symm c3,Ne.symm c4,Ne.symm e1,Ne.symm e2,Ne.symm e3,Ne.symm f1,Ne.symm f2,Ne.symm g1]
 closE:=fun dom Ls h hd=>by
  obtain⟨a,b,c,d,e,f,g,rfl⟩:=rF h
  have h1:=hd a (by simp)
  have h2:=hd b (by simp)
  have h3:=hd c (by simp)
  have h4:=hd d (by simp)
  simp[jf,List.range,List.range.loop,ey,D.closL,D.clos,eAny,h1,h2,h3,h4,kR]
 closF:=fun dom Ls s h hd o ho=>by
  obtain⟨a,b,c,d,e,f,g,rfl⟩:=rF h
  have h1:=hd e (by simp)
  have h2:=hd f (by simp)
  have h3:=hd g (by simp)
  simp only[jf,List.mem_cons,List.not_mem_nil,or_false]at ho
  rcases ho with rfl | rfl | rfl | rfl | rfl | rfl | rfl<;>simp[O.clos,D.closL,D.clos,bG,CN,h1,h2,h3]
 psz:=fun Ls h=>by rfl
 args:=fun s=>by rfl
 fuel:=(show (100:Nat)<=2000 by decide)
 vnam:=fun _=>rfl
 vcl:=fun _ _=>rfl
 vren:=fun _ _=>rfl
 inj:=Je (hn.filter _)
theorem adH(x:Vw)(pa le day:Int):Dx (jf x pa le day) (kR 3 pa [le]) where
 ren:=fun f Ls h=>by obtain⟨a,b,c,d,e,f,g,rfl⟩:=rF h;rfl
 clo:=fun dom Ls h hd=>by
  obtain⟨a,b,c,d,e,f,g,rfl⟩:=rF h
  have h4:=hd d (by simp)
  simp[D.closL,D.clos,h4,kR]
 reach:=fun Ls s obj R q h cz hF h0=>by
  obtain⟨a,b,c,d,e,f,g,rfl⟩:=rF h
  obtain⟨h1,h2,h3,h4,h5,h6,h7,_⟩:=hF
  have en:dw (((jf x pa le day).env [a,b,c,d,e,f,g]).map (·.d))=[a,b,c,d]:=rfl
  have ec:dw (kR 3 pa [le] [a,b,c,d,e,f,g])=[d]:=rfl
  rw[ec]
  show dW obj (q+90+1+1+1+1+1+1+1+1+1+1+1) _ []=_
  simp only[List.nodup_cons,List.mem_cons,List.not_mem_nil,or_false,not_or,not_false_eq_true,List.nodup_nil,and_true]at cz
  obtain⟨⟨r1,r2,r3,r4,r5,r6,r7⟩,⟨a1,a2,a3,a4,a5,a6⟩,⟨b1,b2,b3,b4,b5⟩,⟨c1,c2,c3,c4⟩,⟨e1,e2,e3⟩,⟨f1,f2⟩,g1⟩:=cz
  simp[dW,ig,h0,h1,h2,h3,h4,h5,h6,h7,Lp.rc,mW,en,dw,mX,bG,RF,Ne.symm r1,Ne.symm r2,Ne.symm r3,Ne.symm r4,Ne.symm r5,Ne.symm r6,Ne.symm r7,Ne.symm a1,Ne.symm a2,Ne.symm a3,Ne.symm a4,Ne.symm a5,Ne.symm a6,Ne.symm b1,Ne.symm b2,Ne.symm b3,Ne.symm b4,Ne.symm b5,Ne.symm c1,Ne.symm c2,Ne.symm c3,Ne.symm c4,Ne.symm e1,Ne.symm e2,Ne.symm e3,Ne.symm f1,Ne.symm f2,Ne.symm g1]
theorem adF(day:Int)(o:Option Rec)(r:Rec):o0 day o r=if decide (r.da<=day)&&(!o.isSome||decide (r.da>=(o.getD zeroR).da))then some r else o:=by
 unfold o0
 cases o<;>rfl
theorem adG(x:Vw)(pa le day:Int)(hn:x.rs.Nodup):aT Tryz.prog yid (jf x pa le day).y.toSpec:=by
 refine Lp.y_sound (Iv x pa le day hn) fun s hs _=>?_
 have hΓ:=@fD Tryz.prog
 have i7:s<(dU x.rs pa [le]).length:=hs
 have GQ:(jf x pa le day).fam (LR 7) s=[.box (gu none),.box (gu (nF x.rs pa le day s)),.box [.v (.bool (nF x.rs pa le day s).isSome)],.box [.ref [4,1] 0],bG x [5,1] [6,1],.map 2 (cm x.bk),.map 0 (bU x.ds)]:=rfl
 have um:(jf x pa le day).fam (LR 7) (s+1)=[.box (gu none),.box (gu (nF x.rs pa le day (s+1))),.box [.v (.bool (nF x.rs pa le day (s+1)).isSome)],.box [.ref [4,1] 0],bG x [5,1] [6,1],.map 2 (cm x.bk),.map 0 (bU x.ds)]:=rfl
 have dq:(jf x pa le day).st s=none:=rfl
 have hv:(jf x pa le day).vals s=[hU ((dU x.rs pa [le])[s])]:=by rw[<-cj (z:=zeroR) i7];rfl
 have hm:(jf x pa le day).m=7:=rfl
 rw[hm,GQ,um,dq,hv,adD i7,adF]
 generalize (dU x.rs pa [le])[s]=r
 generalize nF x.rs pa le day s=o
 obtain⟨c3,e0,e1⟩:∃ c3,(c3=.nilsl\/∃ l,c3=.v (.sl l))/\gu o=[.v (vInt (o.getD zeroR).so),.v (vInt (o.getD zeroR).bo),.v (vInt (o.getD zeroR).pa),c3,.v (vInt (o.getD zeroR).da),.v (vInt (o.getD zeroR).kn),.v (vInt (o.getD zeroR).un)]:=by
  cases o with
  |none=>exact⟨_,.inl rfl,rfl⟩
  |some q=>exact⟨_,.inr ⟨_,rfl⟩,rfl⟩
 have e2:∀ p,D.clos p c3=true:=fun p=>by rcases e0 with rfl | ⟨l,rfl⟩<;>rfl
 generalize jt:[O.box (gu none),.box (gu o),.box [.v (.bool o.isSome)],.box [.ref [4,1] 0],bG x [5,1] [6,1],.map 2 (cm x.bk),.map 0 (bU x.ds)]=os
 have hO:∀ hs,cG [0] (cv [0] hs) (ba os)=True:=by
  subst jt
  refine fun hs=>eq_true (p7 ?_ hs)
  intro o ho dom hd
  simp only[List.mem_cons,List.not_mem_nil,or_false]at ho
  rcases ho with rfl | rfl | rfl | rfl | rfl | rfl | rfl<;>simp[O.clos,D.closL,D.clos,bG,hd,CN]
 have ah:∀ hs cs b,(∀ p,D.closL p cs=true)->cG [0] (cv [0] hs) (fun nm=>if nm=[2,1]then some (.box [.v (.bool b)])else if nm=[1,1]then some (.box cs)else ba os nm)=True:=fun hs cs b gF=>
  eq_true (vd (nm:=[2,1]) (o:=.box [.v (.bool b)]) rfl (vd (nm:=[1,1]) (o:=.box cs) (by simp[O.clos,gF]) (by rw[hO];trivial)))
 have h0:ba os [0,1]=some (.box (gu none)):=by subst jt;rfl
 have h1:ba os [1,1]=some (.box (gu o)):=by subst jt;rfl
 have h2:ba os [2,1]=some (.box [.v (.bool o.isSome)]):=by subst jt;rfl
 have h3:ba os [3,1]=some (.box [.ref [4,1] 0]):=by subst jt;rfl
 have h4:ba os [4,1]=some (bG x [5,1] [6,1]):=by subst jt;rfl
 have h5:ba os [5,1]=some (.map 2 (cm x.bk)):=by subst jt;rfl
 have h6:ba os [6,1]=some (.map 0 (bU x.ds)):=by subst jt;rfl
 generalize hH:ba os=H at *
 clear jt hH
 rw[e1]at h1
 have oF:ru Tryz.f119=(_,_,_):=rfl
 refine w5 (DC 37 [0] H [(5,⟨true,.v (.ptr [vInt day])⟩),(8,⟨true,.ref [1,1] 0⟩),(9,⟨true,.ref [2,1] 0⟩),(18,⟨true,hU r⟩)] [] rfl rfl (fun _ _=>rfl) ?_ (by simp) ?_ ?_) ?_
 ·intro q hq
  simp only[List.mem_cons,List.not_mem_nil,or_false]at hq
  rcases hq with rfl | rfl | rfl | rfl<;>rfl
 ·simp[D.clos,D.closL,cv,own,hU]
 ·rw[hO];trivial
 simp only[jf,oF]
 refine kg ?_
 repeat refine sq ?_
 refine aW hΓ fun K' hK=>?_
 simp only[go_sem,hO,h0,h1,h2,h3,h4,e2]
 repeat (refine⟨au,?_⟩)
 refine hK _ ?_
 clear K' hK
 simp only[go_sem]
 (show CW _ _ _ _)
 refine kg ?_
 repeat refine sq ?_
 refine aR ?_
 repeat refine sq ?_
 refine rx hΓ [5,8,9,10,33] [[5,0],[8,0],[9,0],[10,0]] (fun K' hK=>by simp only[go_sem,hO,h0,h1,h2,h3,h4,e2];(repeat (refine⟨au,?_⟩));exact hK _ (by simp only[go_sem,hO,h0,h1,h2,h3,h4,e2]) (by simp only[go_sem,hO,h0,h1,h2,h3,h4,e2]<;>rfl)) ?_
 repeat refine sq ?_
 refine aC (fun hb=>?_) fun hb=>?_
 ·repeat refine sq ?_
  refine aW hΓ fun K' hK=>?_
  simp only[go_sem,hO,h0,h1,h2,h3,h4,e2]
  repeat (refine⟨au,?_⟩)
  refine hK _ ?_
  clear K' hK
  simp only[go_sem]
  refine bW ?_
  rw[if_pos (by rw[<-Bool.and_eq_true];exact hb)]
  refine⟨rfl,?_⟩
  show di _ [[0,1],[1,1],[2,1],[3,1],[4,1],[5,1],[6,1]] _
  simp only[di,go_sem,h0,h1,h2,h3,h4,h5,h6]
  simp[gu,uQ]
 ·repeat refine sq ?_
  refine aF ?_
  refine bW ?_
  simp only[go_sem]
  rw[if_neg (by rw[<-Bool.and_eq_true,hb];decide)]
  refine⟨rfl,?_⟩
  show di _ [[0,1],[1,1],[2,1],[3,1],[4,1],[5,1],[6,1]] _
  simp only[di,go_sem,h0,h1,h2,h3,h4,h5,h6,e1]
  first | done | exact⟨trivial,trivial⟩
def Lr(p:Name)(H:Name->Option O):List Name->List O->Prop
 |x::xs,o::os=>(own p x=true\/H x=some o)/\Lr p H xs os
 |_,_=>True
theorem JV{p:Name}{H:Name->Option O}{nm:Name}(hn:own p nm=false):∀ {Ls:List Name} {F:List O} {obj:Name->Option O},Lr p H Ls F->obj nm=H nm->eP Ls F obj nm=H nm
 |[],_,_,_,h=>by simpa[eP]using h
 |x::xs,[],_,_,h=>by simpa[eP]using h
 |x::xs,o::os,obj,hk,h=>by
  simp only[eP]
  refine JV hn hk.2 ?_
  by_cases e:nm=x
  ·subst e
   rw[aX]
   rcases hk.1 with h1 | h1
   ·rw[hn]at h1;cases h1
   ·exact h1.symm
  ·rw[bm _ _ _ e];exact h
def K24:List (Nat×Spec):=[(164,S164)]
theorem afq:KS K24:=tc FA<|tn
attribute [go_sem] K24
def SG:VSpec:=v2 mf iI (fun x _ _=>o7 x/\x.rs.Nodup) (fun x f day=>.tup [om (eo x.rs f.pa f.le day),.v (.bool (eo x.rs f.pa f.le day).isSome)]) none
def S119:Spec:=SG.toSpec
attribute [go_sem] SG S119
set_option maxHeartbeats 8000000 in
theorem Od:aT Tryz.prog 119 S119:=by
 refine z5 (rs:=[.cell 6 36,.tmp 7]) Tryz.func119 Tryz.ntmps119 (by rfl) (by kernel_rfl) (by decide) (fun _ _ _=>by first | rfl | exact mQ _ _ | simp[D.clos,D.closL,mQ]) ⟨_,rfl,lb rfl,fun x f day hp H h0 h1 h2 hO ah=>?_⟩
 have hP:=fE
 simp only[mf,iI,qJ,bG,dt,List.map_cons,List.map_nil,Nat.zero_add,Option.map_some,Option.map_none]at h0 |-
 have hΓ:=afq
 obtain⟨hv,cz⟩:=hp
 obtain⟨pa,le⟩:=f
 repeat refine sq ?_
 refine rx hΓ [0,4,5,6] [[4,0],[5,0],[6,0]] (fun K' hK=>by simp only[go_sem,hO,ah,h0,h1,h2];(repeat (refine⟨au,?_⟩));exact hK _ (by simp only[go_sem,hO,ah,h0,h1,h2]) (by simp only[go_sem,hO,ah,h0,h1,h2]<;>rfl)) ?_
 refine bQ (dV 4 (.ref [4,0] 0) (by simp only[go_sem]) (by simp only[go_sem]) [0,4,5,6] [[4,0],[5,0],[6,0]] ?_ rfl) ?_
 ·simp only[go_sem,hO,ah,h0,h1,h2]
 simp only[go_sem,hO,ah,h0,h1,h2]
 repeat refine sq ?_
 refine rx hΓ [0,4,5,6,8] [[4,0],[5,0],[6,0],[8,0]] (fun K' hK=>by simp only[go_sem,hO,ah,h0,h1,h2];(repeat (refine⟨au,?_⟩));exact hK _ (by simp only[go_sem,hO,ah,h0,h1,h2]) (by simp only[go_sem,hO,ah,h0,h1,h2]<;>rfl)) ?_
 repeat refine sq ?_
 refine rx hΓ [0,4,5,6,8,9] [[4,0],[5,0],[6,0],[8,0],[9,0]] (fun K' hK=>by simp only[go_sem,hO,ah,h0,h1,h2];(repeat (refine⟨au,?_⟩));exact hK _ (by simp only[go_sem,hO,ah,h0,h1,h2]) (by simp only[go_sem,hO,ah,h0,h1,h2]<;>rfl)) ?_
 repeat refine sq ?_
 refine rx hΓ [5,6,8,9,17] [[5,0],[6,0],[8,0],[9,0],[3,0,17,0]] (fun K' hK=>by simp only[go_sem,hO,ah,h0,h1,h2];(repeat (refine⟨au,?_⟩));exact hK _ (by simp only[go_sem,hO,ah,h0,h1,h2]) (by simp only[go_sem,hO,ah,h0,h1,h2]<;>rfl)) ?_
 refine bQ (dV 5 (.ref [5,0] 0) (by simp only[go_sem]) (by simp only[go_sem]) [5,6,8,9,17] [[5,0],[6,0],[8,0],[9,0],[3,0,17,0]] ?_ rfl) ?_
 ·simp only[go_sem,hO,ah,h0,h1,h2]
 simp only[go_sem,hO,ah,h0,h1,h2]
 repeat refine sq ?_
 refine aR ?_
 repeat refine sq ?_
 have iw:aT Tryz.prog 193 ((jf x pa le day).itC (kR 3 pa [le])).toSpec:=J7 (Iv x pa le day cz) (fun _=>rfl) (adG x pa le day cz) hv.rs hv.rn rfl (fun _=>rfl) (j:=3) (jc:=4) (show 3<7 by decide) rfl rfl
 refine Rz (Iv x pa le day cz) (adH x pa le day) (f:=193) 30 31 (Ls:=[[6,0],[8,0],[9,0],[3,0,17,0],[0,1],[1,1],[2,1]]) rfl rfl (by decide) iw rfl rfl rfl rfl rfl rfl (by decide) (show ([30,0]:Name)∉[[6,0],[8,0],[9,0],[3,0,17,0],[0,1],[1,1],[2,1]]by decide) ⟨rfl,rfl,rfl,rfl,h0,h1,h2,trivial⟩ fun o=>?_
 obtain⟨g1,g2⟩:=Lp.go_e (r:=jf x pa le day) (fun _=>rfl)
 have g3:(jf x pa le day).fam [[6,0],[8,0],[9,0],[3,0,17,0],[0,1],[1,1],[2,1]] (jf x pa le day).e=[.box (gu none),.box (gu (eo x.rs pa le day)),.box [.v (.bool (eo x.rs pa le day).isSome)],.box [.ref [0,1] 0],bG x [1,1] [2,1],.map 2 (cm x.bk),.map 0 (bU x.ds)]:=by
  rw[g1,<-adE];rfl
 rw[g2,g3]
 simp only[AN,kr]
 refine bW ?_
 show CL Tryz.prog (_::_) _ _
 obtain⟨cs,gF,cA⟩:∃ cs,cs=gu (eo x.rs pa le day)/\∀ p,D.closL p cs=true:=⟨_,rfl,fun p=>CN p _⟩
 refine bQ (eN.toM (DC 37 [0] H [(6,⟨true,.ref [6,0] 0⟩),(8,⟨true,.ref [8,0] 0⟩),(9,⟨true,.ref [9,0] 0⟩)] [([6,0],.box (gu none)),([8,0],.box (gu (eo x.rs pa le day))),([9,0],.box [.v (.bool (eo x.rs pa le day).isSome)])] rfl rfl (fun nm hn=>?_) ?_ ?_ ?_ (by rw[hO];trivial))) ?_
 ·have e1:nm≠[30,0]:=by rintro rfl;cases hn
  show upd _ [30,0] _ nm=_
  rw[bm _ _ _ e1]
  exact JV hn ⟨.inl rfl,.inl rfl,.inl rfl,.inl rfl,.inr h0,.inr h1,.inr h2,trivial⟩ (by simp[bu,hn])
 ·intro q hq
  simp only[List.mem_cons,List.not_mem_nil,or_false]at hq
  rcases hq with rfl | rfl | rfl<;>rfl
 ·intro q hq
  simp only[List.mem_cons,List.not_mem_nil,or_false]at hq
  rcases hq with rfl | rfl | rfl<;>rfl
 ·simp[O.clos,D.closL,D.clos,CN,cv]
 clear gF cA
 generalize eo x.rs pa le day=o
 rcases o with _ | r
 ·simp only[gu,uQ,Option.isSome]
  repeat refine sq ?_
  refine dx hΓ hP [[],[],[0],[0,1,2]] [6,7] [[6,0]] (by kernel_rfl) (fun K' hK=>by simp only[go_sem,hO,h0,h1,h2];(repeat (refine⟨au,?_⟩));(first | refine⟨by rfl,?_⟩ | skip);exact hK _ (by simp only[go_sem,hO,h0,h1,h2]) (by simp only[go_sem,hO,h0,h1,h2]<;>rfl)) ?_
  refine aB ?_
  simp only[go_sem,hO,h0,h1,h2]
  rfl
 ·simp only[gu,uQ,Option.isSome]
  repeat refine sq ?_
  refine dx hΓ hP [[],[],[0],[0,1,2]] [6,7] [[6,0]] (by kernel_rfl) (fun K' hK=>by simp only[go_sem,hO,h0,h1,h2];(repeat (refine⟨au,?_⟩));(first | refine⟨by rfl,?_⟩ | skip);exact hK _ (by simp only[go_sem,hO,h0,h1,h2]) (by simp only[go_sem,hO,h0,h1,h2]<;>rfl)) ?_
  refine aB ?_
  simp only[go_sem,hO,h0,h1,h2]
  rfl
end
set_option maxHeartbeats 8000000
noncomputable section
theorem ac9{P:Program}{Γ:FuncId->Option Spec}(hΓ:∀ f s,Γ f=some s->aT P f s){id:Nat}{l:List Oper}{c:Code}{r:List Code}{σ:S}{K:Exit->S->Prop}(ks:List Nat)(ns:List Name)
 (h:∀ K':S->Prop,(∀ σ',je ks ns σ'->CL P (c::r) (jq ks ns σ') K->K' σ')->nU P Γ l.toArray l σ K'):CL P (.region id l.toArray false::c::r) σ K:=
 Rb hΓ (h _ fun σ' hc hy=>HY ks ns hc hy)
theorem Kv{P:Program}{Γ:FuncId->Option Spec}{ops:Array Oper}{o:Oper}{r:List Oper}{σ:S}{K:S->Prop}(h1:lZ P Γ ops σ o)(h2:nU P Γ ops r (bz P Γ ops σ o) K):nU P Γ ops (o::r) σ K:=.step h1 h2
def gn{α:Type}(p:α->Bool)(l:List α):List α:=l.filter fun d=>!p d
def my{α:Type}(enc:α->V)(z:V)(p:α->Bool)(l:List α):List V:=(gn p l).map enc++List.replicate (l.length-(gn p l).length) z
def Tf:Ret:=⟨0,0,0,[],0,0,0,0⟩
def o9:Sig:=⟨0,0,0,0,0,0,0⟩
def K25:List (Nat×Spec):=[(162,S162)]
theorem afp:KS K25:=tc N6<|tn
attribute [go_sem] K25
@[go_sem] def P186:PSpec:=p2 iS l9 (fun _ _=>True) (fun s k=>.bool (!bF s.kn s.un k)) true
@[go_sem] def aea:Spec:=P186.toSpec
theorem U8:aZ Tryz.prog 186 P186:=by
 refine dG (rs:=[.tmp 3]) Tryz.func186 Tryz.ntmps186 fun s k hp hw=>?_
 simp only[l9,iS,encS]at hw |-
 have hΓ:=afp
 repeat refine sq ?_
 refine rx hΓ [1,2] [[2,0]] (fun K' hK=>by simp only[go_sem];exact aq) ?_
 repeat refine sq ?_
 refine rx hΓ [3] [] (fun K' hK=>by simp only[go_sem];exact aq) ?_
 refine aB ?_
 simp only[go_sem]
 all_goals exact el
def Lc(g:Nat×Int)(x:Rec):Bool:=x.so==g.2
def Lb(g:Nat×Int)(x:Ret):Bool:=x.so==g.2
def fo(g:Nat×Int)(x:Sig):Bool:=if g.1=186 then !bF x.kn x.un g.2 else x.so==g.2
def WZ(g:Nat×Int):Prop:=g.1=88
def WY(g:Nat×Int):Prop:=g.1=90
def p9(g:Nat×Int):Prop:=g.1=92\/g.1=186
def KDR:List (Nat×Spec):=[]
attribute [go_sem] KDR
def KDT:List (Nat×Spec):=[]
attribute [go_sem] KDT
def KDS:List (Nat×Spec):=[(92,S92),(186,aea)]
theorem aeF:KS KDS:=tc UL.sound<|tc U8.sound<|tn
attribute [go_sem] KDS
abbrev TYR:=Rec
abbrev TYT:=Ret
abbrev zM:=Sig
def acr(obj:Name->Option O)(_:Name):List D->R
 |[.msl nm k,.clo (.func g) [] [.v (.ptr [.int .i64 q])]]=>match obj nm with
  |some (.arr 7 L)=>⟨k=L.length/\L.length<1000000/\(L.map lJ).map encR=L/\WZ (g,q),.v (.sl ((gn (Lc (g,q)) (L.map lJ)).map encR)),upd obj nm (some (.farr 7 (my encR (encR zeroR) (Lc (g,q)) (L.map lJ))))⟩
  |_=>.bad obj
 |_=>.bad obj
attribute [go_sem] acr
def acq(obj:Name->Option O)(_:Name):List D->R
 |[.msl nm k,.clo (.func g) [] [.v (.ptr [.int .i64 q])]]=>match obj nm with
  |some (.arr 8 L)=>⟨k=L.length/\L.length<1000000/\(L.map nB).map encT=L/\WY (g,q),.v (.sl ((gn (Lb (g,q)) (L.map nB)).map encT)),upd obj nm (some (.farr 8 (my encT (encT Tf) (Lb (g,q)) (L.map nB))))⟩
  |_=>.bad obj
 |_=>.bad obj
attribute [go_sem] acq
def IW:FuncId->Option Spec:=tbl KDS
theorem S6:∀ f s,IW f=some s->aT Tryz.prog f s:=aeF
theorem Lu{g:Nat×Int}(h:p9 g):∃ s,IW g.1=some s/\(¬ g.1=1000000000)/\(∀ obj t (x:zM),s.app obj t [.v (encS x),.v (.ptr [vInt g.2])]=⟨True,.v (.bool (fo g x)),obj⟩)/\
 ∀ obj t (x:zM),s.app obj t [.agg ((encS x).cells.map .v),.v (.ptr [vInt g.2])]=⟨True,.v (.bool (fo g x)),obj⟩:=by
 obtain⟨g,k⟩:=g
 rcases h with rfl | rfl
 all_goals exact⟨_,rfl,(by simp),fun obj t x=>by simp only[go_sem,fo];try rfl,fun obj t x=>by simp only[go_sem,fo,encS];try rfl⟩
theorem Iz:(#[29]:Array Nat).getD 0 0=29:=rfl
theorem Tg:((bp Tryz.prog 81).bind fun z=>eX (jV z))=some (encS o9):=by rw[Jl];rfl
theorem H6{obj:Name->Option O}{nm:Name}{k i:Nat}{L:List V}(h:obj nm=some (.arr 7 L))(hk:k=L.length)(hi:i<L.length):
 mI Tryz.prog obj 29 29 (.msl nm k) (.v (vInt i))=⟨True,.any,upd obj nm (some (.arr 7 (L.take i++List.replicate (L.length-i) (encS o9))))⟩:=by
 unfold mI
 simp only[DJ,h,Tg,ak]
 congr 1
 simp only[eq_iff_iff,iff_true]
 exact⟨hk,by omega,hi,trivial,rfl,rfl,trivial,by decide⟩
theorem Ub:aZ Tryz.prog 181 (p2 (dX iS) gB (fun _ g=>p9 g) (fun l g=>vInt (dK (fo g) l)) true):=by
 refine dG (rs:=[.tmp 4]) Tryz.func181 Tryz.ntmps181 fun l g hp hw=>?_
 simp only[gB,iS,dX]at hw |-
 have hΓ:=S6
 have hl:l.length<=maxLen:=by have:=hw.1.1;simpa using this
 obtain⟨s_,hs,hy,ha,_⟩:=Lu hp
 simp only[encS]at ha
 repeat refine sq ?_
 refine rx hΓ [0,1] [] (fun K' hK=>by simp only[go_sem];exact aq) ?_
 repeat refine sq ?_
 refine rx hΓ [0,1,7,8] [] (fun K' hK=>by simp only[go_sem];exact aq) ?_
 repeat refine sq ?_
 refine aR ?_
 repeat refine sq ?_
 refine cp (fun s:Nat=>[(8,⟨true,.v (vInt s)⟩)]) (fun s=>[]) (fun s=>s<=l.length/\∀ k (h:k<l.length),k<s->fo g l[k]=false) (fun s=>l.length-s) 0 ?_ ?_ ?_ ?_
 ·exact⟨Nat.zero_le _,by simp⟩
 ·rfl
 ·rfl
 rintro i ⟨hi,hR⟩
 simp only[go_sem]
 repeat refine sq ?_
 refine rx hΓ [0,1,7,8,9] [] (fun K' hK=>by simp only[go_sem];exact aq) ?_
 repeat refine sq ?_
 refine aC (fun hb=>?_) fun hb=>?_
 ·have ae:i<l.length:=by simpa using hb
  have aw:(i:Int)<l.length:=by omega
  clear hb
  repeat refine sq ?_
  refine aF ?_
  repeat refine sq ?_
  refine aR ?_
  repeat refine sq ?_
  refine rx hΓ [0,1,5,7,8] [] (fun K' hK=>by simp only[go_sem,ai ae,ak,an,aw];exact aq) ?_
  repeat refine sq ?_
  refine rx hΓ [0,1,5,7,8,16] [] (fun K' hK=>by simp only[go_sem,ai ae,ak,an,aw,hs,hy,ha];exact aq) ?_
  repeat refine sq ?_
  refine aC (fun hb=>?_) fun hb=>?_
  ·repeat refine sq ?_
   refine rx hΓ [4] [] (fun K' hK=>by simp only[go_sem,ai ae,ak,an,aw];exact aq) ?_
   refine aB ?_
   simp only[go_sem]
   rw[oA (p:=fo g) ae (by simpa using hb) hR]
  ·repeat refine sq ?_
   refine aF ?_
   refine bW ?_
   simp only[go_sem]
   refine kp [0,1,7,8] [] ?_
   repeat refine sq ?_
   refine aW hΓ fun K' hK=>?_
   simp only[go_sem,ai ae,ak,an,aw]
   repeat (refine⟨au,?_⟩)
   refine hK _ ?_
   clear K' hK
   simp only[go_sem]
   refine⟨i+1,⟨ae,?_⟩,by(show l.length-(i+1)<l.length-i;omega),?_⟩
   ·intro k hk dE
    rcases Nat.lt_succ_iff_lt_or_eq.1 dE with h5 | rfl
    ·exact hR k hk h5
    ·simpa using hb
   refine bh [0,1,7,8] [] ?_ ?_<;>simp only[go_sem,bc ae hl,be]
 ·have bE:i=l.length:=by
   have :¬ (i:Int)<l.length:=by simpa using hb
   omega
  clear hb
  subst bE
  repeat refine sq ?_
  refine bN ?_
  simp only[go_sem]
  refine kp [] [] ?_
  repeat refine sq ?_
  refine rx hΓ [4] [] (fun K' hK=>by simp only[go_sem];exact aq) ?_
  refine aB ?_
  simp only[go_sem]
  rw[tk (p:=fo g) fun k hk=>hR k hk hk]
set_option maxRecDepth 10000 in
theorem TC{g:Nat×Int}(aa:p9 g){H:Name->Option O}{l:List zM}(hl:l.length<1000000)(sf:H [0,1]=some (.arr 7 (l.map encS)))(eh:∀ hs,cG [0] (cv [0] hs) H=True)(ah:∀ hs sz L,cG [0] (cv [0] hs) (upd H [0,1] (some (.arr sz L)))=True)(bt:∀ hs sz L,cG [0] (cv [0] hs) (upd H [0,1] (some (.farr sz L)))=True):
 ∃ c,Tryz.f91.body=some c/\CL Tryz.prog [c] (bu 42 [0] H [(0,⟨true,.msl [0,1] l.length⟩),(1,⟨true,.clo (.func g.1) [] [.v (.ptr [vInt g.2])]⟩)] []) (fun e σ=>(e=.normal\/e=.ret)/\(σ.env 4).c=true/\
   (σ.env 4).d=.v (.sl ((gn (fo g) l).map encS))/\σ.obj [0,1]=some (.farr 7 (my encS (encS o9) (fo g) l))):=by
 obtain⟨sG,hs,hg,_,hp⟩:=Lu aa
 obtain⟨Γ,sI,hΓ,hs,hI,hi⟩:∃ (Γ:FuncId->Option Spec) (sI:Spec),(∀ f s,Γ f=some s->aT Tryz.prog f s)/\Γ g.1=some sG/\Γ 181=some sI/\
  ∀ (obj:Name->Option O) (t:Name),obj [0,1]=some (.arr 7 (l.map encS))->sI.app obj t [.msl [0,1] l.length,.clo (.func g.1) [] [.v (.ptr [vInt g.2])]]=⟨True,.v (vInt (dK (fo g) l)),obj⟩:=by
  refine⟨fun f=>if f=181 then some (p2 (dX iS) gB (fun _ g=>p9 g) (fun l g=>vInt (dK (fo g) l)) true).toSpec else IW f,_,fun f s h=>?_,?_,rfl,fun obj t e=>?_⟩
  ·dsimp only at h
   split at h
   ·rename_i e;cases h;subst e;exact Ub.sound
   ·exact S6 _ _ h
  ·dsimp only
   rw[if_neg (by intro e;have h':=aa;unfold p9 at h';simp[e]at h')];exact hs
  ·have fM:p9 (g.1,g.2):=aa
   simp only[go_sem,e,fM,List.length_map,HM]
 generalize wJ:my encS (encS o9) (fo g) l=XX
 generalize hpg:fo g=p at *
 simp only[encS,V.cells,List.map_cons,List.map_nil]at hp
 refine⟨_,rfl,?_⟩
 have hm:l.length<=maxLen:=by unfold maxLen;omega
 repeat refine sq ?_
 refine rx hΓ [0,1] [] (fun K' hK=>by simp only[go_sem,eh];(repeat (refine⟨au,?_⟩));exact hK _ (by simp only[go_sem,eh]) (by simp only[go_sem,eh]<;>rfl)) ?_
 repeat refine sq ?_
 refine rx hΓ [0,1,5] [] (fun K' hK=>by simp only[go_sem,eh,hI,hi,sf,implies_true];(repeat (refine⟨au,?_⟩));exact hK _ (by simp only[go_sem,eh,hI,hi,sf,implies_true]) (by simp only[go_sem,eh,hI,hi,sf,implies_true]<;>rfl)) ?_
 repeat refine sq ?_
 refine rx hΓ [0,1,5,12] [] (fun K' hK=>by simp only[go_sem,eh];(repeat (refine⟨au,?_⟩));exact hK _ (by simp only[go_sem,eh]) (by simp only[go_sem,eh]<;>rfl)) ?_
 repeat refine sq ?_
 refine aC (fun hb=>?_) fun hb=>?_
 ·repeat refine sq ?_
  refine rx hΓ [4] [] (fun K' hK=>by simp only[go_sem,eh];(repeat (refine⟨au,?_⟩));exact hK _ (by simp only[go_sem,eh]) (by simp only[go_sem,eh]<;>rfl)) ?_
  refine bQ (dV 4 (.msl [0,1] l.length) (by simp only[go_sem]) (by simp only[go_sem,sf,List.length_map]) [4] [] ?_ rfl) ?_
  ·simp only[go_sem,sf,bt]
  simp only[go_sem,sf]
  refine aB ?_
  simp only[go_sem,sf]
  have dg:dK p l= -1:=by simpa using hb
  have eM:∀ d∈l,p d=false:=by
   unfold dK at dg
   split at dg
   ·omega
   ·rename_i hn
    intro d hd
    cases nc:p d with
    |false=>rfl
    |true=>exact(hn (List.any_eq_true.2 ⟨d,hd,nc⟩)).elim
  have hk:gn p l=l:=List.filter_eq_self.2 fun d hd=>by rw[eM d hd];rfl
  have B1:XX=l.map encS:=by rw[<-wJ];unfold my;rw[hk];simp
  rw[hk,B1]
  exact⟨.inr trivial,rfl,rfl⟩
 have hf:l.findIdx p<l.length:=by
  have dg:¬ dK p l= -1:=by simpa using hb
  unfold dK at dg
  split at dg
  ·rename_i jz
   exact List.findIdx_lt_length_of_exists (by obtain⟨y,hy,hp⟩:=List.any_eq_true.1 jz;exact⟨y,hy,hp⟩)
  ·exact(dg rfl).elim
 have oP:dK p l=(l.findIdx p:Int):=by unfold dK;rw[if_pos (List.any_eq_true.2 ⟨_,List.getElem_mem hf,List.findIdx_getElem (w:=hf)⟩)]
 rw[oP]
 clear hb oP hi hI
 have hpf:p (l[l.findIdx p])=true:=List.findIdx_getElem (w:=hf)
 have O8:∀ j (h:j<l.length),j<l.findIdx p->p l[j]=false:=fun j h hj=>by simpa using List.not_of_lt_findIdx hj
 generalize l.findIdx p=f at *
 repeat refine sq ?_
 refine aF ?_
 repeat refine sq ?_
 refine rx hΓ [0,1,5,6] [] (fun K' hK=>by simp only[go_sem,eh,bc hf hm,be];(repeat (refine⟨au,?_⟩));exact hK _ (by simp only[go_sem,eh,bc hf hm,be]) (by simp only[go_sem,eh,bc hf hm,be]<;>rfl)) ?_
 repeat refine sq ?_
 refine aR ?_
 repeat refine sq ?_
 refine Ry (fun x:Nat×Nat×List zM=>upd H [0,1] (some (.arr 7 (x.2.2.map encS)))) (fun x=>[(5,⟨true,.v (vInt x.1)⟩),(6,⟨true,.v (vInt x.2.1)⟩)]) (fun x=>[]) (fun x=>x.1<x.2.1/\x.2.1<=l.length/\x.2.2.length=l.length/\x.2.2.take x.1=gn p (l.take x.2.1)/\x.2.2.drop x.2.1=l.drop x.2.1) (fun x=>l.length-x.2.1) (f,f+1,l) ?_ ?_ ?_ ?_ ?_
 ·refine⟨(show f<f+1 by omega),hf,rfl,?_,rfl⟩
  show l.take f=gn p (l.take (f+1))
  unfold gn
  rw[List.take_add_one,List.getElem?_eq_getElem hf,List.filter_append]
  simp only[Option.toList_some,List.filter_cons,hpf,Bool.not_true,Bool.false_eq_true,if_false,List.filter_nil,List.append_nil]
  rw[List.filter_eq_self.2]
  intro d hd
  obtain⟨j,hj,rfl⟩:=List.getElem_of_mem hd
  have eW:j<f:=by simp at hj;omega
  rw[List.getElem_take,O8 j (by omega) eW]
  rfl
 ·congr 1
  rw[<-sf]
  funext x
  by_cases e:x=[0,1]
  ·subst e;rw[aX]
  ·rw[bm _ _ _ e]
 ·rfl
 ·rfl
 clear O8
 rintro⟨i,j,A⟩ ⟨bJ,hj,hA,hT,hD⟩
 simp only at bJ hj hA hT hD
 dsimp only
 generalize gW:upd H [0,1] (some (O.arr 7 (List.map encS A)))=H'
 have h0:H' [0,1]=some (.arr 7 (A.map encS)):=by rw[<-gW,aX]
 have zk:∀ i,H' [i+1,1]=H [i+1,1]:=fun i=>by rw[<-gW,bm _ _ _ (by simp)]
 have ke:∀ hs,cG [0] (cv [0] hs) H'=True:=fun hs=>by rw[<-gW];exact ah _ _ _
 have mr:∀ hs sz L,cG [0] (cv [0] hs) (upd H' [0,1] (some (.arr sz L)))=True:=fun hs sz L=>by rw[<-gW,xn];exact ah _ _ _
 have abK:∀ hs sz L,cG [0] (cv [0] hs) (upd H' [0,1] (some (.farr sz L)))=True:=fun hs sz L=>by rw[<-gW,xn];exact bt _ _ _
 simp only[go_sem]
 repeat refine sq ?_
 refine rx hΓ [0,1,5,6,19] [] (fun K' hK=>by simp only[go_sem,ke,mr,h0];(repeat (refine⟨au,?_⟩));exact hK _ (by simp only[go_sem,ke,mr,h0]) (by simp only[go_sem,ke,mr,h0]<;>rfl)) ?_
 repeat refine sq ?_
 refine aC (fun hb=>?_) fun hb=>?_
 ·have ae:j<l.length:=by simpa using hb
  have Gy:j<A.length:=by omega
  have yR:i<A.length:=by omega
  have aa9:(i:Int)<l.length:=by omega
  have aw:(j:Int)<l.length:=by omega
  have He:A[j]=l[j]:=by
   have h1:A[j]=(A.drop j)[0]'(by simp;omega):=by simp
   rw[h1]
   simp only[hD]
   simp
  clear hb
  repeat refine sq ?_
  refine aF ?_
  repeat refine sq ?_
  refine aR ?_
  repeat refine sq ?_
  refine rx hΓ [0,1,5,6,7] [[7,0]] (fun K' hK=>by simp only[go_sem,ke,mr,h0,ai Gy,ak,an,aw,hA,He];(repeat (refine⟨au,?_⟩));exact hK _ (by simp only[go_sem,ke,mr,h0,ai Gy,ak,an,aw,hA,He]) (by simp only[go_sem,ke,mr,h0,ai Gy,ak,an,aw,hA,He]<;>rfl)) ?_
  repeat refine sq ?_
  refine rx hΓ [0,1,5,6,7,29] [[7,0]] (fun K' hK=>by simp only[go_sem,ke,mr,h0,hg,hs,hp];(repeat (refine⟨au,?_⟩));exact hK _ (by simp only[go_sem,ke,mr,h0,hg,hs,hp]) (by simp only[go_sem,ke,mr,h0,hg,hs,hp]<;>rfl)) ?_
  repeat refine sq ?_
  refine aC (fun hb=>?_) fun hb=>?_
  ·have OU:p l[j]=false:=by simpa using hb
   clear hb
   repeat refine sq ?_
   refine CJ hΓ [0,1,5,6] [] fun K' hK=>?_
   simp only[go_sem,ke,mr,h0,ak,an,aa9,hA]
   repeat' apply And.intro
   all_goals first | rfl | omega | exact Int.le_refl _ | exact Bool.or_not_self _ | exact Bool.not_or_self _ | exact HD _ | exact HE _ | exact fun x hx=>(HD _ x hx).1 | exact fun x hx=>(HE _ x hx).1 | (simp only[List.length_take,List.length_append,List.length_map,List.length_drop,List.length_cons,List.length_nil];done) | (simp only[List.length_take,List.length_append,List.length_map,List.length_drop,List.length_cons,List.length_nil];omega) | (simp only[List.length_take,List.length_append,List.length_map,List.length_drop,List.length_cons,List.length_nil,maxLen];omega) | (exact fun _=>by decide) | (exact fun h=>⟨h,by decide⟩) | (simp only[decide_eq_true_eq];omega) | skip
   refine hK _ ?_ ?_
   ·simp only[go_sem,ke,mr]
   clear K' hK
   simp only[go_sem]
   obtain⟨H2,G'⟩:∃ H2,upd H' [0,1] (some (O.arr 7 ((List.map encS A).set i (encS l[j]))))=H2:=⟨_,rfl⟩
   have Qc:=G'
   simp only[encS]at Qc
   rw[Qc]
   have zi:∀ hs,cG [0] (cv [0] hs) H2=True:=fun hs=>by rw[<-G'];exact mr _ _ _
   repeat refine sq ?_
   refine aW hΓ fun K' hK=>?_
   simp only[go_sem]
   repeat (refine⟨au,?_⟩)
   refine hK _ ?_
   clear K' hK
   simp only[go_sem]
   refine fz [0,1,5,6] [] ?_ ?_
   ·simp only[go_sem,zi]
   simp only[go_sem,zi]
   repeat refine sq ?_
   refine aW hΓ fun K' hK=>?_
   simp only[go_sem]
   repeat (refine⟨au,?_⟩)
   refine hK _ ?_
   clear K' hK
   simp only[go_sem]
   refine⟨(i+1,j+1,A.set i l[j]),⟨(show i+1<j+1 by omega),ae,by simpa using hA,?_,?_⟩,(show l.length-(j+1)<l.length-j by omega),?_⟩
   ·show (A.set i l[j]).take (i+1)=gn p (l.take (j+1))
    unfold gn at hT |-
    rw[List.take_add_one (l:=l),List.getElem?_eq_getElem ae,List.filter_append,<-hT]
    simp only[Option.toList_some,List.filter_cons,OU,Bool.not_false,if_true,List.filter_nil]
    rw[List.take_add_one,List.take_set_of_le (Nat.le_refl i),List.getElem?_set_self yR]
    rfl
   ·show (A.set i l[j]).drop (j+1)=l.drop (j+1)
    rw[List.drop_set_of_lt (show i<j+1 by omega)]
    have :=congrArg (List.drop 1) hD
    simpa[List.drop_drop]using this
   ·refine bh [0,1,5,6] [] ?_ ?_
    ·simp only[go_sem,zi]
    ·simp only[go_sem,bc ae hm,bc (show i<l.length by omega) hm,be]
     rw[<-G',<-gW,xn,List.map_set]
     try rfl
  ·have hpy:p l[j]=true:=by simpa using hb
   clear hb
   repeat refine sq ?_
   refine aF ?_
   refine bW ?_
   simp only[go_sem]
   refine fz [0,1,5,6] [] ?_ ?_
   ·simp only[go_sem,ke]
   simp only[go_sem,ke]
   repeat refine sq ?_
   refine aW hΓ fun K' hK=>?_
   simp only[go_sem]
   repeat (refine⟨au,?_⟩)
   refine hK _ ?_
   clear K' hK
   simp only[go_sem]
   refine⟨(i,j+1,A),⟨(show i<j+1 by omega),ae,hA,?_,?_⟩,(show l.length-(j+1)<l.length-j by omega),?_⟩
   ·show A.take i=gn p (l.take (j+1))
    unfold gn at hT |-
    rw[List.take_add_one (l:=l),List.getElem?_eq_getElem ae,List.filter_append,<-hT]
    simp only[Option.toList_some,List.filter_cons,hpy,Bool.not_true,Bool.false_eq_true,if_false,List.filter_nil,List.append_nil]
   ·show A.drop (j+1)=l.drop (j+1)
    have :=congrArg (List.drop 1) hD
    simpa[List.drop_drop]using this
   ·refine bh [0,1,5,6] [] ?_ ?_
    ·simp only[go_sem,ke]
    ·simp only[go_sem,bc ae hm,be]
     rw[<-gW]
 ·have bE:j=l.length:=by
    have :¬ (j:Int)<l.length:=by simpa using hb
    omega
  subst bE
  clear hb
  rw[List.take_length]at hT
  have yR:i<A.length:=by omega
  repeat refine sq ?_
  refine bN ?_
  simp only[go_sem]
  refine fz [0,5] [] ?_ ?_
  ·simp only[go_sem,ke]
  simp only[go_sem,ke]
  repeat refine sq ?_
  refine ac9 hΓ [0,5] [] fun K' hK=>?_
  refine Kv ?_ (Kv ?_ (.cut (T:=29) (x:=.tmp 36) (lo:=.tmp 37) (c:=38) rfl rfl ?_ ?_ ?_ ?_ (.nil ?_)))
  ·simp only[go_sem]
  ·simp only[go_sem]
  ·simp only[go_sem]
  ·simp only[go_sem]
  ·simp only[go_sem]
  ·have abq:=fun (obj:Name->Option O) (h:obj [0,1]=_)=>H6 (obj:=obj) (nm:=[0,1]) (k:=l.length) (i:=i) (L:=A.map encS) h (by simpa using hA.symm) (by simpa using yR)
   simp only[go_sem,oX,Iz,abq,h0]
  ·refine hK _ ?_ ?_
   ·simp only[go_sem,sv,oX,Iz,H6 (obj:=fun nm=>if own [0] nm=true then none else H' nm) (nm:=[0,1]) (k:=l.length) (i:=i) (L:=A.map encS) h0 (by simpa using hA.symm) (by simpa using yR),mr]
   clear K' hK
   simp only[go_sem,sv,oX,Iz,H6 (obj:=fun nm=>if own [0] nm=true then none else H' nm) (nm:=[0,1]) (k:=l.length) (i:=i) (L:=A.map encS) h0 (by simpa using hA.symm) (by simpa using yR)]
   have dE:(gn p l).length=i:=by rw[<-hT,List.length_take];omega
   have G1:(List.take i (List.map encS A)++List.replicate (A.length-i) (encS o9))=XX:=by
    rw[<-wJ]
    unfold my
    rw[dE,<-hT,List.map_take,hA]
   have hZ1:XX.length=l.length:=by rw[<-wJ];unfold my;simp;omega
   have hZ2:XX.take i=(gn p l).map encS:=by
    rw[<-wJ]
    unfold my
    rw[List.take_append_of_le_length (by simp;omega),List.take_of_length_le (by simp;omega)]
   have hZ3:∀ x∈XX,x.cells.length=7:=by
    intro x hx
    rw[<-wJ]at hx
    rcases List.mem_append.1 hx with h | h
    ·obtain⟨y,_,rfl⟩:=List.mem_map.1 h;rfl
    ·rw[(List.mem_replicate.1 h).2];rfl
   simp only[encS]at G1
   rw[G1]
   clear G1
   clear wJ
   generalize XX=Z at *
   simp only[V.cells]at hZ3
   generalize G9:upd H' [0,1] (some (O.arr 7 Z))=H3
   have Qf:H3 [0,1]=some (.arr 7 Z):=by rw[<-G9,aX]
   have hI3:∀ i,H3 [i+1,1]=H [i+1,1]:=fun i=>by rw[<-G9,bm _ _ _ (by simp)];exact zk i
   have abJ:∀ hs sz L,cG [0] (cv [0] hs) (upd H3 [0,1] (some (.farr sz L)))=True:=fun hs sz L=>by rw[<-G9,xn];exact abK _ _ _
   have hiZ:(i:Int)<=l.length:=by omega
   repeat refine sq ?_
   refine CJ hΓ [4] [] fun K' hK=>?_
   simp only[go_sem,Qf,DJ,ak,an,hiZ]
   repeat' apply And.intro
   all_goals first | rfl | omega | exact Int.le_refl _ | exact Bool.or_not_self _ | exact Bool.not_or_self _ | exact HD _ | exact HE _ | exact fun x hx=>(HD _ x hx).1 | exact fun x hx=>(HE _ x hx).1 | (simp only[List.length_take,List.length_append,List.length_map,List.length_drop,List.length_cons,List.length_nil];done) | (simp only[List.length_take,List.length_append,List.length_map,List.length_drop,List.length_cons,List.length_nil];omega) | (simp only[List.length_take,List.length_append,List.length_map,List.length_drop,List.length_cons,List.length_nil,maxLen];omega) | (exact fun _=>by decide) | (exact fun h=>⟨h,by decide⟩) | (simp only[decide_eq_true_eq];omega) | skip
   refine hK _ ?_ ?_
   ·simp only[go_sem,abJ]
   clear K' hK
   simp only[go_sem]
   refine aB ?_
   simp only[go_sem,hZ2]
   exact .inr trivial
def delCS:CSpec where
 pre:=fun os ds=>∃ (l:List zM) (g:Nat×Int),os=[.arr 7 (l.map encS)]/\ds=[.msl [0,1] l.length,.clo (.func g.1) [] [.v (.ptr [vInt g.2])]]/\l.length<1000000/\p9 g
 out:=fun os ds=>match os,ds with
  |[.arr _ L],[_,.clo (.func g) _ [.v (.ptr [.int _ k])]]=>⟨[(0,.farr 7 (my encS (encS o9) (fo (g,k)) (L.map kf)))],[],.v (.sl ((gn (fo (g,k)) (L.map kf)).map encS))⟩
  |_,_=>⟨[],[],.any⟩
def uK(obj:Name->Option O)(_:Name):List D->R
 |[.msl nm k,.clo (.func g) [] [.v (.ptr [.int .i64 q])]]=>match obj nm with
  |some (.arr 7 L)=>⟨k=L.length/\L.length<1000000/\(L.map kf).map encS=L/\p9 (g,q),.v (.sl ((gn (fo (g,q)) (L.map kf)).map encS)),upd obj nm (some (.farr 7 (my encS (encS o9) (fo (g,q)) (L.map kf))))⟩
  |_=>.bad obj
 |_=>.bad obj
def Cs(_:Name->Option O)(_:Name):List D->List Name
 | .msl nm _::_=>[nm]
 |_=>[]
def S91:Spec:=⟨uK,Cs,Cs⟩
attribute [go_sem] S91 uK
theorem acp:S91.Near:=by
 refine xX fun obj obj2 t ds ha=>⟨rfl,?_⟩
 have iq:∀ wr,bX wr obj obj2->b8 (R.bad obj) (R.bad obj2) obj obj2 wr:=fun wr h=>.none wr h
 unfold uK
 split
 ·rename_i nm k g q
  have h1:obj2 nm=obj nm:=ha nm (by simp[Cs])
  simp only[h1]
  split
  ·exact .one (by simp[Cs]) ha
  ·exact iq _ ha
 ·exact iq _ ha
theorem ZQ:aT Tryz.prog 91 delCS.toSpec:=by
 refine pI (nt:=42) (rs:=[.tmp 4]) Tryz.func91 rfl (by rfl) (by kernel_rfl) (jb Tryz.func91 rfl (by kernel_rfl)) (mU _ (by decide)) ?_
 rintro os ds ⟨l,g,rfl,rfl,hl,aa⟩
 refine⟨lb rfl,?_⟩
 have j7:delCS.out [.arr 7 (l.map encS)] [.msl [0,1] l.length,.clo (.func g.1) [] [.v (.ptr [vInt g.2])]]=⟨[(0,.farr 7 (my encS (encS o9) (fo g) l))],[],.v (.sl ((gn (fo g) l).map encS))⟩:=by
  simp only[delCS,wV]
 rw[j7]
 have eh:∀ hs,cG [0] (cv [0] hs) (ba [.arr 7 (l.map encS)])=True:=fun hs=>eq_true (p7 (by
  intro o ho dom hd
  simp only[List.mem_singleton]at ho
  subst ho
  rfl) hs)
 obtain⟨c,hc,h⟩:=TC aa (H:=ba [.arr 7 (l.map encS)]) hl rfl eh (fun hs sz L=>eq_true (vd rfl (by rw[eh];trivial))) (fun hs sz L=>eq_true (vd rfl (by rw[eh];trivial)))
 have y9:∀ c2,Tryz.f91.body=some c2->c2=c:=fun c2 h2=>by rw[h2]at hc;exact Option.some.inj hc
 rw[<-y9 _ rfl]at h
 refine CW.mono (kg h) ?_
 rintro e σ ⟨he,h1,h2,h3⟩
 have fin:(cf Tryz.prog σ [.tmp 4]).ok/\(cf Tryz.prog σ [.tmp 4]).d=.v (.sl ((gn (fo g) l).map encS))/\gZ [.arr 7 (l.map encS)] ⟨[(0,.farr 7 (my encS (encS o9) (fo g) l))],[],.v (.sl ((gn (fo g) l).map encS))⟩ σ:=
  ⟨h1,h2,⟨h3,trivial⟩,trivial,rfl⟩
 rcases he with rfl | rfl
 ·exact fin
 ·exact fin
theorem ZR:aT Tryz.prog 91 S91:=by
 refine xw ZQ acp (mU _ (by decide)) fun obj t ds aa=>?_
 change (uK obj t ds).ok at aa
 refine⟨ds,rfl,fun _ _ _ _ h=>h,?_⟩
 show _/\_=(uK obj t ds).d/\_=(uK obj t ds).obj
 unfold uK at aa |-
 split at aa
 ·rename_i nm k g q
  split at aa
  ·rename_i L ho
   obtain⟨rfl,hl,he,hg⟩:=aa
   have hr:reach obj [.msl nm L.length,.clo (.func g) [] [.v (.ptr [.int .i64 q])]]=[nm]:=by
    unfold reach
    show dW obj (2998+1+1) [nm] []=[nm]
    simp only[dW,dj,List.any_nil,Bool.false_eq_true,if_false,ho,mW,List.nil_append]
   have i0:idx [nm] nm=0:=by simp[idx]
   have e1:cS obj [.msl nm L.length,.clo (.func g) [] [.v (.ptr [.int .i64 q])]]=[.arr 7 L]:=by
    unfold cS
    rw[hr]
    simp only[List.map_cons,List.map_nil,cX,ho,O.ren]
   have e2:dr obj [.msl nm L.length,.clo (.func g) [] [.v (.ptr [.int .i64 q])]]=[.msl [0,1] L.length,.clo (.func g) [] [.v (.ptr [.int .i64 q])]]:=by
    unfold dr
    rw[hr]
    simp only[D.renL,D.ren,cin,i0]
   have e3:(shut obj [nm]&&D.closL (dj [nm]) [.msl nm L.length,.clo (.func g) [] [.v (.ptr [.int .i64 q])]]&&fresh obj t [])=true:=by
    simp[shut,ho,O.clos,D.closL,D.clos,dj,fresh]
   have eB:delCS.pre [.arr 7 L] [.msl [0,1] L.length,.clo (.func g) [] [.v (.ptr [.int .i64 q])]]:=⟨L.map kf,(g,q),by rw[he],by rw[List.length_map],by rw[List.length_map];exact hl,hg⟩
   have j7:delCS.out [.arr 7 L] [.msl [0,1] L.length,.clo (.func g) [] [.v (.ptr [.int .i64 q])]]=⟨[(0,.farr 7 (my encS (encS o9) (fo (g,q)) (L.map kf)))],[],.v (.sl ((gn (fo (g,q)) (L.map kf)).map encS))⟩:=rfl
   simp only[CSpec.toSpec,e1,e2,hr,j7,e3,eB,ho,and_self,dQ]
   exact⟨trivial,rfl,rfl⟩
  ·exact aa.elim
 ·exact aa.elim
end
set_option maxHeartbeats 8000000
noncomputable section
theorem Fv(l:List Sig)(k:Int):gn (fo (186,k)) l=l.filter fun s=>bF s.kn s.un k:=by
 unfold gn fo
 simp
theorem EJ(k:Int):p9 (186,k):=.inr rfl
def K26:List (Nat×Spec):=[(132,S132),(91,S91)]
theorem afo:KS K26:=tc N8<|tc ZR<|tn
attribute [go_sem] K26
def SE:VSpec:=v1 iI (fun x _=>x.l.ss.length<=60) (fun x k=>.v (.sl ((du x.l k).map encS))) none
def S122:Spec:=SE.toSpec
attribute [go_sem] SE S122
theorem Oa:aT Tryz.prog 122 S122:=by
 refine z6 (rs:=[.tmp 4]) Tryz.func122 Tryz.ntmps122 (by rfl) (by kernel_rfl) (by decide) (fun _ _=>by first | rfl | simp[D.clos,D.closL,mQ]) ⟨_,rfl,lb rfl,fun x k hp H h0 h1 h2 hO ah=>?_⟩
 simp only[iI,bG,dt,List.map_cons,List.map_nil,Nat.zero_add,Option.map_some,Option.map_none]at h0 |-
 have hΓ:=afo
 repeat refine sq ?_
 refine rx hΓ [0,3] [[3,0]] (fun K' hK=>by simp only[go_sem,hO,ah,h0,h1,h2];(repeat (refine⟨au,?_⟩));exact hK _ (by simp only[go_sem,hO,ah,h0,h1,h2]) (by simp only[go_sem,hO,ah,h0,h1,h2]<;>rfl)) ?_
 refine bQ (dV 3 (.ref [3,0] 0) (by simp only[go_sem]) (by simp only[go_sem]) [0,3] [[3,0]] ?_ rfl) ?_
 ·simp only[go_sem,hO,ah,h0,h1,h2]
 simp only[go_sem,hO,ah,h0,h1,h2]
 repeat refine sq ?_
 refine rx hΓ [4] [] (fun K' hK=>by simp only[go_sem,hO,ah,h0,h1,h2,wV,Fv,EJ,List.length_map];(repeat (refine⟨au,?_⟩));exact hK _ (by simp only[go_sem,hO,ah,h0,h1,h2,wV,Fv,EJ,List.length_map]) (by simp only[go_sem,hO,ah,h0,h1,h2,wV,Fv,EJ,List.length_map]<;>rfl)) ?_
 refine aB ?_
 simp only[go_sem,hO,ah,h0,h1,h2]
 all_goals exact el
def KG(r:Rg):D:=.agg [.v (vInt r.lo),.v (vInt r.hi)]
attribute [go_sem] KG
def K26b:List (Nat×Spec):=[(119,S119)]
theorem afn:KS K26b:=tc Od<|tn
attribute [go_sem] K26b
def DT(s:Sig):Prop:=0<=s.da/\s.da<=100000
theorem bA:om none=.agg [.v (vInt 0),.v (vInt 0),.v (vInt 0),.nilsl,.v (vInt 0),.v (vInt 0),.v (vInt 0)]:=rfl
theorem aJ(r:Rec):om (some r)=hU r:=rfl
def SA:VSpec:=v1 iS (fun x s=>(o7 x/\x.rs.Nodup)/\DT s) (fun x s=>.tup [.v (vInt (bd x s).1),KG (bd x s).2]) none
def S187:Spec:=SA.toSpec
attribute [go_sem] SA S187
theorem ZX:aT Tryz.prog 187 S187:=by
 refine z6 (rs:=[.tmp 4,.cell 5 38]) Tryz.func187 Tryz.ntmps187 (by rfl) (by kernel_rfl) (by decide) (fun _ _=>by first | rfl | exact aiQ _ _ | simp[D.clos,D.closL,mQ]) ⟨_,rfl,lb rfl,fun x s hp H h0 h1 h2 hO ah=>?_⟩
 have hP:=fE
 simp only[iS,encS,bG,dt,List.map_cons,List.map_nil,Nat.zero_add,Option.map_some,Option.map_none]at h0 |-
 have hΓ:=afn
 obtain⟨hv,hd⟩:=hp
 have iM:=zX hd
 repeat refine sq ?_
 refine rx hΓ [0,3,5] [[3,0],[5,0]] (fun K' hK=>by simp only[go_sem,hO,ah,h0,h1,h2];(repeat (refine⟨au,?_⟩));exact hK _ (by simp only[go_sem,hO,ah,h0,h1,h2]) (by simp only[go_sem,hO,ah,h0,h1,h2]<;>rfl)) ?_
 repeat refine sq ?_
 refine rx hΓ [0,3,5,6,7] [[3,0],[5,0],[6,0],[7,0]] (fun K' hK=>by simp only[go_sem,hO,ah,h0,h1,h2];(repeat (refine⟨au,?_⟩));exact hK _ (by simp only[go_sem,hO,ah,h0,h1,h2]) (by simp only[go_sem,hO,ah,h0,h1,h2]<;>rfl)) ?_
 rcases ay:eo x.rs s.pa s.le s.da with _ | r
 ·repeat refine sq ?_
  refine rx hΓ [0,3,5,6,7,8,9] [[3,0],[5,0],[6,0],[7,0],[8,0]] (fun K' hK=>by simp only[go_sem,hO,ah,h0,h1,h2,ay,bA,Option.isSome_none,aA];(repeat (refine⟨au,?_⟩));exact hK _ (by simp only[go_sem,hO,ah,h0,h1,h2,ay,bA,Option.isSome_none,aA]) (by simp only[go_sem,hO,ah,h0,h1,h2,ay,bA,Option.isSome_none,aA]<;>rfl)) ?_
  repeat refine sq ?_
  refine dx hΓ hP [[],[0],[0,1],[0,1,2],[],[4],[],[6],[4,5,6,7],u9,ck,eF,eF,eO,jk] [3,5,6,7,8,9,10,11] [[3,0],[5,0],[6,0],[7,0],[8,0]] (by kernel_rfl) (fun K' hK=>by simp only[go_sem,hO,ah,h0,h1,h2,ay,bA,Option.isSome_none,aA];(repeat (refine⟨au,?_⟩));(first | refine⟨by rfl,?_⟩ | skip);exact hK _ (by simp only[go_sem,hO,ah,h0,h1,h2,ay,bA,Option.isSome_none,aA]) (by simp only[go_sem,hO,ah,h0,h1,h2,ay,bA,Option.isSome_none,aA]<;>rfl)) ?_
  repeat refine sq ?_
  refine aR ?_
  repeat refine sq ?_
  refine rx hΓ [3,5,6,7,8,9,10,11,39] [[3,0],[5,0],[6,0],[7,0],[8,0]] (fun K' hK=>by simp only[go_sem,hO,ah,h0,h1,h2,ay,bA,Option.isSome_none,aA];(repeat (refine⟨au,?_⟩));exact hK _ (by simp only[go_sem,hO,ah,h0,h1,h2,ay,bA,Option.isSome_none,aA]) (by simp only[go_sem,hO,ah,h0,h1,h2,ay,bA,Option.isSome_none,aA]<;>rfl)) ?_
  repeat refine sq ?_
  refine aC (fun hb=>?_) fun hb=>?_
  ·repeat refine sq ?_
   refine aF ?_
   repeat refine sq ?_
   refine aC (fun hb=>?_) fun hb=>?_
   ·repeat refine sq ?_
    refine dx hΓ hP [[],[],[0,1]] [4,5] [[5,0]] (by kernel_rfl) (fun K' hK=>by simp only[go_sem,hO,ah,h0,h1,h2,ay,bA,Option.isSome_none,aA];(repeat (refine⟨au,?_⟩));(first | refine⟨by rfl,?_⟩ | skip);exact hK _ (by simp only[go_sem,hO,ah,h0,h1,h2,ay,bA,Option.isSome_none,aA]) (by simp only[go_sem,hO,ah,h0,h1,h2,ay,bA,Option.isSome_none,aA]<;>rfl)) ?_
    refine aB ?_
    simp only[go_sem,hO,ah,h0,h1,h2]
    first | (unfold bd;simp only[ay];simp_all[cH,cI];done) | (unfold bd;simp only[ay];rcases aM:bb x.bk (r.so,s.le)with _ | j<;>simp_all[cH,cI];done)
   ·repeat refine sq ?_
    refine rx hΓ [3,5,7,8,10,60] [[3,0],[5,0],[7,0],[8,0]] (fun K' hK=>by simp only[go_sem,hO,ah,h0,h1,h2,ay,bA,Option.isSome_none,aA];(repeat (refine⟨au,?_⟩));exact hK _ (by simp only[go_sem,hO,ah,h0,h1,h2,ay,bA,Option.isSome_none,aA]) (by simp only[go_sem,hO,ah,h0,h1,h2,ay,bA,Option.isSome_none,aA]<;>rfl)) ?_
    repeat refine sq ?_
    refine aC (fun hb=>?_) fun hb=>?_
    ·repeat refine sq ?_
     refine dx hΓ hP [[],[],[0,1]] [4,5] [[5,0]] (by kernel_rfl) (fun K' hK=>by simp only[go_sem,hO,ah,h0,h1,h2,ay,bA,Option.isSome_none,aA];(repeat (refine⟨au,?_⟩));(first | refine⟨by rfl,?_⟩ | skip);exact hK _ (by simp only[go_sem,hO,ah,h0,h1,h2,ay,bA,Option.isSome_none,aA]) (by simp only[go_sem,hO,ah,h0,h1,h2,ay,bA,Option.isSome_none,aA]<;>rfl)) ?_
     refine aB ?_
     simp only[go_sem,hO,ah,h0,h1,h2]
     first | (unfold bd;simp only[ay];simp_all[cH,cI];done) | (unfold bd;simp only[ay];rcases aM:bb x.bk (r.so,s.le)with _ | j<;>simp_all[cH,cI];done)
    ·repeat refine sq ?_
     refine rx hΓ [3,5,7,8,10,68] [[3,0],[5,0],[7,0],[8,0]] (fun K' hK=>by simp only[go_sem,hO,ah,h0,h1,h2,ay,bA,Option.isSome_none,aA];(repeat (refine⟨au,?_⟩));exact hK _ (by simp only[go_sem,hO,ah,h0,h1,h2,ay,bA,Option.isSome_none,aA]) (by simp only[go_sem,hO,ah,h0,h1,h2,ay,bA,Option.isSome_none,aA]<;>rfl)) ?_
     repeat refine sq ?_
     refine aC (fun hb=>?_) fun hb=>?_
     ·repeat refine sq ?_
      refine dx hΓ hP [[],[],[1],[1,2],[0],u5] [4,5] [[5,0]] (by kernel_rfl) (fun K' hK=>by simp only[go_sem,hO,ah,h0,h1,h2,ay,bA,Option.isSome_none,aA];(repeat (refine⟨au,?_⟩));(first | refine⟨by rfl,?_⟩ | skip);exact hK _ (by simp only[go_sem,hO,ah,h0,h1,h2,ay,bA,Option.isSome_none,aA]) (by simp only[go_sem,hO,ah,h0,h1,h2,ay,bA,Option.isSome_none,aA]<;>rfl)) ?_
      refine aB ?_
      simp only[go_sem,hO,ah,h0,h1,h2]
      first | (unfold bd;simp only[ay];simp_all[cH,cI];done) | (unfold bd;simp only[ay];rcases aM:bb x.bk (r.so,s.le)with _ | j<;>simp_all[cH,cI];done)
     ·repeat refine sq ?_
      refine rx hΓ [3,5,7,10,76] [[3,0],[5,0],[7,0]] (fun K' hK=>by simp only[go_sem,hO,ah,h0,h1,h2,ay,bA,Option.isSome_none,aA];(repeat (refine⟨au,?_⟩));exact hK _ (by simp only[go_sem,hO,ah,h0,h1,h2,ay,bA,Option.isSome_none,aA]) (by simp only[go_sem,hO,ah,h0,h1,h2,ay,bA,Option.isSome_none,aA]<;>rfl)) ?_
      repeat refine sq ?_
      refine aC (fun hb=>?_) fun hb=>?_
      ·repeat refine sq ?_
       refine dx hΓ hP [[],[],[1],[1,2],[1,2,3],[0],u6] [4,5] [[5,0]] (by kernel_rfl) (fun K' hK=>by simp only[go_sem,hO,ah,h0,h1,h2,ay,bA,Option.isSome_none,aA];(repeat (refine⟨au,?_⟩));(first | refine⟨by rfl,?_⟩ | skip);exact hK _ (by simp only[go_sem,hO,ah,h0,h1,h2,ay,bA,Option.isSome_none,aA]) (by simp only[go_sem,hO,ah,h0,h1,h2,ay,bA,Option.isSome_none,aA]<;>rfl)) ?_
       refine aB ?_
       simp only[go_sem,hO,ah,h0,h1,h2]
       first | (unfold bd;simp only[ay];simp_all[cH,cI];done) | (unfold bd;simp only[ay];rcases aM:bb x.bk (r.so,s.le)with _ | j<;>simp_all[cH,cI];done)
      ·repeat refine sq ?_
       refine aF ?_
       refine bW ?_
       simp only[go_sem]
       refine fz [5,7] [[5,0],[7,0]] ?_ ?_
       ·simp only[go_sem,hO,ah,h0,h1,h2]
       simp only[go_sem,hO,ah,h0,h1,h2]
       repeat refine sq ?_
       refine dx hΓ hP [[],[],[0,1]] [4,5] [[5,0]] (by kernel_rfl) (fun K' hK=>by simp only[go_sem,hO,ah,h0,h1,h2,ay,bA,Option.isSome_none,aA];(repeat (refine⟨au,?_⟩));(first | refine⟨by rfl,?_⟩ | skip);exact hK _ (by simp only[go_sem,hO,ah,h0,h1,h2,ay,bA,Option.isSome_none,aA]) (by simp only[go_sem,hO,ah,h0,h1,h2,ay,bA,Option.isSome_none,aA]<;>rfl)) ?_
       refine aB ?_
       simp only[go_sem,hO,ah,h0,h1,h2]
       first | (unfold bd;simp only[ay];simp_all[cH,cI];done) | (unfold bd;simp only[ay];rcases aM:bb x.bk (r.so,s.le)with _ | j<;>simp_all[cH,cI];done)
  ·repeat refine sq ?_
   refine rx hΓ [3,5,6,7,8,9,10,11,39] [[3,0],[5,0],[6,0],[7,0],[8,0]] (fun K' hK=>by simp only[go_sem,hO,ah,h0,h1,h2,ay,bA,Option.isSome_none,aA];(repeat (refine⟨au,?_⟩));exact hK _ (by simp only[go_sem,hO,ah,h0,h1,h2,ay,bA,Option.isSome_none,aA]) (by simp only[go_sem,hO,ah,h0,h1,h2,ay,bA,Option.isSome_none,aA]<;>rfl)) ?_
   repeat refine sq ?_
   refine aC (fun hb=>?_) fun hb=>?_
   ·repeat refine sq ?_
    refine dx hΓ hP [[],[],[0,1]] [4,5] [[5,0]] (by kernel_rfl) (fun K' hK=>by simp only[go_sem,hO,ah,h0,h1,h2,ay,bA,Option.isSome_none,aA];(repeat (refine⟨au,?_⟩));(first | refine⟨by rfl,?_⟩ | skip);exact hK _ (by simp only[go_sem,hO,ah,h0,h1,h2,ay,bA,Option.isSome_none,aA]) (by simp only[go_sem,hO,ah,h0,h1,h2,ay,bA,Option.isSome_none,aA]<;>rfl)) ?_
    refine aB ?_
    simp only[go_sem,hO,ah,h0,h1,h2]
    first | (unfold bd;simp only[ay];simp_all[cH,cI];done) | (unfold bd;simp only[ay];rcases aM:bb x.bk (r.so,s.le)with _ | j<;>simp_all[cH,cI];done)
   ·repeat refine sq ?_
    refine rx hΓ [3,5,7,8,10,60] [[3,0],[5,0],[7,0],[8,0]] (fun K' hK=>by simp only[go_sem,hO,ah,h0,h1,h2,ay,bA,Option.isSome_none,aA];(repeat (refine⟨au,?_⟩));exact hK _ (by simp only[go_sem,hO,ah,h0,h1,h2,ay,bA,Option.isSome_none,aA]) (by simp only[go_sem,hO,ah,h0,h1,h2,ay,bA,Option.isSome_none,aA]<;>rfl)) ?_
    repeat refine sq ?_
    refine aC (fun hb=>?_) fun hb=>?_
    ·repeat refine sq ?_
     refine dx hΓ hP [[],[],[0,1]] [4,5] [[5,0]] (by kernel_rfl) (fun K' hK=>by simp only[go_sem,hO,ah,h0,h1,h2,ay,bA,Option.isSome_none,aA];(repeat (refine⟨au,?_⟩));(first | refine⟨by rfl,?_⟩ | skip);exact hK _ (by simp only[go_sem,hO,ah,h0,h1,h2,ay,bA,Option.isSome_none,aA]) (by simp only[go_sem,hO,ah,h0,h1,h2,ay,bA,Option.isSome_none,aA]<;>rfl)) ?_
     refine aB ?_
     simp only[go_sem,hO,ah,h0,h1,h2]
     first | (unfold bd;simp only[ay];simp_all[cH,cI];done) | (unfold bd;simp only[ay];rcases aM:bb x.bk (r.so,s.le)with _ | j<;>simp_all[cH,cI];done)
    ·repeat refine sq ?_
     refine rx hΓ [3,5,7,8,10,68] [[3,0],[5,0],[7,0],[8,0]] (fun K' hK=>by simp only[go_sem,hO,ah,h0,h1,h2,ay,bA,Option.isSome_none,aA];(repeat (refine⟨au,?_⟩));exact hK _ (by simp only[go_sem,hO,ah,h0,h1,h2,ay,bA,Option.isSome_none,aA]) (by simp only[go_sem,hO,ah,h0,h1,h2,ay,bA,Option.isSome_none,aA]<;>rfl)) ?_
     repeat refine sq ?_
     refine aC (fun hb=>?_) fun hb=>?_
     ·repeat refine sq ?_
      refine dx hΓ hP [[],[],[1],[1,2],[0],u5] [4,5] [[5,0]] (by kernel_rfl) (fun K' hK=>by simp only[go_sem,hO,ah,h0,h1,h2,ay,bA,Option.isSome_none,aA];(repeat (refine⟨au,?_⟩));(first | refine⟨by rfl,?_⟩ | skip);exact hK _ (by simp only[go_sem,hO,ah,h0,h1,h2,ay,bA,Option.isSome_none,aA]) (by simp only[go_sem,hO,ah,h0,h1,h2,ay,bA,Option.isSome_none,aA]<;>rfl)) ?_
      refine aB ?_
      simp only[go_sem,hO,ah,h0,h1,h2]
      first | (unfold bd;simp only[ay];simp_all[cH,cI];done) | (unfold bd;simp only[ay];rcases aM:bb x.bk (r.so,s.le)with _ | j<;>simp_all[cH,cI];done)
     ·repeat refine sq ?_
      refine rx hΓ [3,5,7,10,76] [[3,0],[5,0],[7,0]] (fun K' hK=>by simp only[go_sem,hO,ah,h0,h1,h2,ay,bA,Option.isSome_none,aA];(repeat (refine⟨au,?_⟩));exact hK _ (by simp only[go_sem,hO,ah,h0,h1,h2,ay,bA,Option.isSome_none,aA]) (by simp only[go_sem,hO,ah,h0,h1,h2,ay,bA,Option.isSome_none,aA]<;>rfl)) ?_
      repeat refine sq ?_
      refine aC (fun hb=>?_) fun hb=>?_
      ·repeat refine sq ?_
       refine dx hΓ hP [[],[],[1],[1,2],[1,2,3],[0],u6] [4,5] [[5,0]] (by kernel_rfl) (fun K' hK=>by simp only[go_sem,hO,ah,h0,h1,h2,ay,bA,Option.isSome_none,aA];(repeat (refine⟨au,?_⟩));(first | refine⟨by rfl,?_⟩ | skip);exact hK _ (by simp only[go_sem,hO,ah,h0,h1,h2,ay,bA,Option.isSome_none,aA]) (by simp only[go_sem,hO,ah,h0,h1,h2,ay,bA,Option.isSome_none,aA]<;>rfl)) ?_
       refine aB ?_
       simp only[go_sem,hO,ah,h0,h1,h2]
       first | (unfold bd;simp only[ay];simp_all[cH,cI];done) | (unfold bd;simp only[ay];rcases aM:bb x.bk (r.so,s.le)with _ | j<;>simp_all[cH,cI];done)
      ·repeat refine sq ?_
       refine aF ?_
       refine bW ?_
       simp only[go_sem]
       refine fz [5,7] [[5,0],[7,0]] ?_ ?_
       ·simp only[go_sem,hO,ah,h0,h1,h2]
       simp only[go_sem,hO,ah,h0,h1,h2]
       repeat refine sq ?_
       refine dx hΓ hP [[],[],[0,1]] [4,5] [[5,0]] (by kernel_rfl) (fun K' hK=>by simp only[go_sem,hO,ah,h0,h1,h2,ay,bA,Option.isSome_none,aA];(repeat (refine⟨au,?_⟩));(first | refine⟨by rfl,?_⟩ | skip);exact hK _ (by simp only[go_sem,hO,ah,h0,h1,h2,ay,bA,Option.isSome_none,aA]) (by simp only[go_sem,hO,ah,h0,h1,h2,ay,bA,Option.isSome_none,aA]<;>rfl)) ?_
       refine aB ?_
       simp only[go_sem,hO,ah,h0,h1,h2]
       first | (unfold bd;simp only[ay];simp_all[cH,cI];done) | (unfold bd;simp only[ay];rcases aM:bb x.bk (r.so,s.le)with _ | j<;>simp_all[cH,cI];done)
 ·repeat refine sq ?_
  refine rx hΓ [0,3,5,6,7,8,9] [[3,0],[5,0],[6,0],[7,0],[8,0]] (fun K' hK=>by simp only[go_sem,hO,ah,h0,h1,h2,ay,aJ,Option.isSome_some,aA];(repeat (refine⟨au,?_⟩));exact hK _ (by simp only[go_sem,hO,ah,h0,h1,h2,ay,aJ,Option.isSome_some,aA]) (by simp only[go_sem,hO,ah,h0,h1,h2,ay,aJ,Option.isSome_some,aA]<;>rfl)) ?_
  repeat refine sq ?_
  refine dx hΓ hP [[],[0],[0,1],[0,1,2],[],[4],[],[6],[4,5,6,7],u9,ck,eF,eF,eO,jk] [3,5,6,7,8,9,10,11] [[3,0],[5,0],[6,0],[7,0],[8,0]] (by kernel_rfl) (fun K' hK=>by simp only[go_sem,hO,ah,h0,h1,h2,ay,aJ,Option.isSome_some,aA];(repeat (refine⟨au,?_⟩));(first | refine⟨by rfl,?_⟩ | skip);exact hK _ (by simp only[go_sem,hO,ah,h0,h1,h2,ay,aJ,Option.isSome_some,aA]) (by simp only[go_sem,hO,ah,h0,h1,h2,ay,aJ,Option.isSome_some,aA]<;>rfl)) ?_
  repeat refine sq ?_
  refine aR ?_
  repeat refine sq ?_
  refine rx hΓ [3,5,6,7,8,9,10,11,39] [[3,0],[5,0],[6,0],[7,0],[8,0]] (fun K' hK=>by simp only[go_sem,hO,ah,h0,h1,h2,ay,aJ,Option.isSome_some,aA];(repeat (refine⟨au,?_⟩));exact hK _ (by simp only[go_sem,hO,ah,h0,h1,h2,ay,aJ,Option.isSome_some,aA]) (by simp only[go_sem,hO,ah,h0,h1,h2,ay,aJ,Option.isSome_some,aA]<;>rfl)) ?_
  repeat refine sq ?_
  refine aC (fun hb=>?_) fun hb=>?_
  ·repeat refine sq ?_
   refine aF ?_
   repeat refine sq ?_
   refine aC (fun hb=>?_) fun hb=>?_
   ·repeat refine sq ?_
    refine dx hΓ hP [[],[],[0,1]] [4,5] [[5,0]] (by kernel_rfl) (fun K' hK=>by simp only[go_sem,hO,ah,h0,h1,h2,ay,aJ,Option.isSome_some,aA];(repeat (refine⟨au,?_⟩));(first | refine⟨by rfl,?_⟩ | skip);exact hK _ (by simp only[go_sem,hO,ah,h0,h1,h2,ay,aJ,Option.isSome_some,aA]) (by simp only[go_sem,hO,ah,h0,h1,h2,ay,aJ,Option.isSome_some,aA]<;>rfl)) ?_
    refine aB ?_
    simp only[go_sem,hO,ah,h0,h1,h2]
    first | (unfold bd;simp only[ay];simp_all[cH,cI];done) | (unfold bd;simp only[ay];rcases aM:bb x.bk (r.so,s.le)with _ | j<;>simp_all[cH,cI];done)
   ·repeat refine sq ?_
    refine rx hΓ [3,5,7,8,10,60] [[3,0],[5,0],[7,0],[8,0]] (fun K' hK=>by simp only[go_sem,hO,ah,h0,h1,h2,ay,aJ,Option.isSome_some,aA];(repeat (refine⟨au,?_⟩));exact hK _ (by simp only[go_sem,hO,ah,h0,h1,h2,ay,aJ,Option.isSome_some,aA]) (by simp only[go_sem,hO,ah,h0,h1,h2,ay,aJ,Option.isSome_some,aA]<;>rfl)) ?_
    repeat refine sq ?_
    refine aC (fun hb=>?_) fun hb=>?_
    ·repeat refine sq ?_
     refine dx hΓ hP [[],[],[0,1]] [4,5] [[5,0]] (by kernel_rfl) (fun K' hK=>by simp only[go_sem,hO,ah,h0,h1,h2,ay,aJ,Option.isSome_some,aA];(repeat (refine⟨au,?_⟩));(first | refine⟨by rfl,?_⟩ | skip);exact hK _ (by simp only[go_sem,hO,ah,h0,h1,h2,ay,aJ,Option.isSome_some,aA]) (by simp only[go_sem,hO,ah,h0,h1,h2,ay,aJ,Option.isSome_some,aA]<;>rfl)) ?_
     refine aB ?_
     simp only[go_sem,hO,ah,h0,h1,h2]
     first | (unfold bd;simp only[ay];simp_all[cH,cI];done) | (unfold bd;simp only[ay];rcases aM:bb x.bk (r.so,s.le)with _ | j<;>simp_all[cH,cI];done)
    ·repeat refine sq ?_
     refine rx hΓ [3,5,7,8,10,68] [[3,0],[5,0],[7,0],[8,0]] (fun K' hK=>by simp only[go_sem,hO,ah,h0,h1,h2,ay,aJ,Option.isSome_some,aA];(repeat (refine⟨au,?_⟩));exact hK _ (by simp only[go_sem,hO,ah,h0,h1,h2,ay,aJ,Option.isSome_some,aA]) (by simp only[go_sem,hO,ah,h0,h1,h2,ay,aJ,Option.isSome_some,aA]<;>rfl)) ?_
     repeat refine sq ?_
     refine aC (fun hb=>?_) fun hb=>?_
     ·repeat refine sq ?_
      refine dx hΓ hP [[],[],[1],[1,2],[0],u5] [4,5] [[5,0]] (by kernel_rfl) (fun K' hK=>by simp only[go_sem,hO,ah,h0,h1,h2,ay,aJ,Option.isSome_some,aA];(repeat (refine⟨au,?_⟩));(first | refine⟨by rfl,?_⟩ | skip);exact hK _ (by simp only[go_sem,hO,ah,h0,h1,h2,ay,aJ,Option.isSome_some,aA]) (by simp only[go_sem,hO,ah,h0,h1,h2,ay,aJ,Option.isSome_some,aA]<;>rfl)) ?_
      refine aB ?_
      simp only[go_sem,hO,ah,h0,h1,h2]
      first | (unfold bd;simp only[ay];simp_all[cH,cI];done) | (unfold bd;simp only[ay];rcases aM:bb x.bk (r.so,s.le)with _ | j<;>simp_all[cH,cI];done)
     ·repeat refine sq ?_
      refine rx hΓ [3,5,7,10,76] [[3,0],[5,0],[7,0]] (fun K' hK=>by simp only[go_sem,hO,ah,h0,h1,h2,ay,aJ,Option.isSome_some,aA];(repeat (refine⟨au,?_⟩));exact hK _ (by simp only[go_sem,hO,ah,h0,h1,h2,ay,aJ,Option.isSome_some,aA]) (by simp only[go_sem,hO,ah,h0,h1,h2,ay,aJ,Option.isSome_some,aA]<;>rfl)) ?_
      repeat refine sq ?_
      refine aC (fun hb=>?_) fun hb=>?_
      ·repeat refine sq ?_
       refine dx hΓ hP [[],[],[1],[1,2],[1,2,3],[0],u6] [4,5] [[5,0]] (by kernel_rfl) (fun K' hK=>by simp only[go_sem,hO,ah,h0,h1,h2,ay,aJ,Option.isSome_some,aA];(repeat (refine⟨au,?_⟩));(first | refine⟨by rfl,?_⟩ | skip);exact hK _ (by simp only[go_sem,hO,ah,h0,h1,h2,ay,aJ,Option.isSome_some,aA]) (by simp only[go_sem,hO,ah,h0,h1,h2,ay,aJ,Option.isSome_some,aA]<;>rfl)) ?_
       refine aB ?_
       simp only[go_sem,hO,ah,h0,h1,h2]
       first | (unfold bd;simp only[ay];simp_all[cH,cI];done) | (unfold bd;simp only[ay];rcases aM:bb x.bk (r.so,s.le)with _ | j<;>simp_all[cH,cI];done)
      ·repeat refine sq ?_
       refine aF ?_
       refine bW ?_
       simp only[go_sem]
       refine fz [5,7] [[5,0],[7,0]] ?_ ?_
       ·simp only[go_sem,hO,ah,h0,h1,h2]
       simp only[go_sem,hO,ah,h0,h1,h2]
       repeat refine sq ?_
       refine dx hΓ hP [[],[],[0,1]] [4,5] [[5,0]] (by kernel_rfl) (fun K' hK=>by simp only[go_sem,hO,ah,h0,h1,h2,ay,aJ,Option.isSome_some,aA];(repeat (refine⟨au,?_⟩));(first | refine⟨by rfl,?_⟩ | skip);exact hK _ (by simp only[go_sem,hO,ah,h0,h1,h2,ay,aJ,Option.isSome_some,aA]) (by simp only[go_sem,hO,ah,h0,h1,h2,ay,aJ,Option.isSome_some,aA]<;>rfl)) ?_
       refine aB ?_
       simp only[go_sem,hO,ah,h0,h1,h2]
       first | (unfold bd;simp only[ay];simp_all[cH,cI];done) | (unfold bd;simp only[ay];rcases aM:bb x.bk (r.so,s.le)with _ | j<;>simp_all[cH,cI];done)
  ·repeat refine sq ?_
   refine rx hΓ [3,5,6,7,8,9,10,11,39] [[3,0],[5,0],[6,0],[7,0],[8,0]] (fun K' hK=>by simp only[go_sem,hO,ah,h0,h1,h2,ay,aJ,Option.isSome_some,aA];(repeat (refine⟨au,?_⟩));exact hK _ (by simp only[go_sem,hO,ah,h0,h1,h2,ay,aJ,Option.isSome_some,aA]) (by simp only[go_sem,hO,ah,h0,h1,h2,ay,aJ,Option.isSome_some,aA]<;>rfl)) ?_
   repeat refine sq ?_
   refine aC (fun hb=>?_) fun hb=>?_
   ·repeat refine sq ?_
    refine dx hΓ hP [[],[],[0,1]] [4,5] [[5,0]] (by kernel_rfl) (fun K' hK=>by simp only[go_sem,hO,ah,h0,h1,h2,ay,aJ,Option.isSome_some,aA];(repeat (refine⟨au,?_⟩));(first | refine⟨by rfl,?_⟩ | skip);exact hK _ (by simp only[go_sem,hO,ah,h0,h1,h2,ay,aJ,Option.isSome_some,aA]) (by simp only[go_sem,hO,ah,h0,h1,h2,ay,aJ,Option.isSome_some,aA]<;>rfl)) ?_
    refine aB ?_
    simp only[go_sem,hO,ah,h0,h1,h2]
    first | (unfold bd;simp only[ay];simp_all[cH,cI];done) | (unfold bd;simp only[ay];rcases aM:bb x.bk (r.so,s.le)with _ | j<;>simp_all[cH,cI];done)
   ·repeat refine sq ?_
    refine rx hΓ [3,5,7,8,10,60] [[3,0],[5,0],[7,0],[8,0]] (fun K' hK=>by simp only[go_sem,hO,ah,h0,h1,h2,ay,aJ,Option.isSome_some,aA];(repeat (refine⟨au,?_⟩));exact hK _ (by simp only[go_sem,hO,ah,h0,h1,h2,ay,aJ,Option.isSome_some,aA]) (by simp only[go_sem,hO,ah,h0,h1,h2,ay,aJ,Option.isSome_some,aA]<;>rfl)) ?_
    repeat refine sq ?_
    refine aC (fun hb=>?_) fun hb=>?_
    ·repeat refine sq ?_
     refine dx hΓ hP [[],[],[0,1]] [4,5] [[5,0]] (by kernel_rfl) (fun K' hK=>by simp only[go_sem,hO,ah,h0,h1,h2,ay,aJ,Option.isSome_some,aA];(repeat (refine⟨au,?_⟩));(first | refine⟨by rfl,?_⟩ | skip);exact hK _ (by simp only[go_sem,hO,ah,h0,h1,h2,ay,aJ,Option.isSome_some,aA]) (by simp only[go_sem,hO,ah,h0,h1,h2,ay,aJ,Option.isSome_some,aA]<;>rfl)) ?_
     refine aB ?_
     simp only[go_sem,hO,ah,h0,h1,h2]
     first | (unfold bd;simp only[ay];simp_all[cH,cI];done) | (unfold bd;simp only[ay];rcases aM:bb x.bk (r.so,s.le)with _ | j<;>simp_all[cH,cI];done)
    ·repeat refine sq ?_
     refine rx hΓ [3,5,7,8,10,68] [[3,0],[5,0],[7,0],[8,0]] (fun K' hK=>by simp only[go_sem,hO,ah,h0,h1,h2,ay,aJ,Option.isSome_some,aA];(repeat (refine⟨au,?_⟩));exact hK _ (by simp only[go_sem,hO,ah,h0,h1,h2,ay,aJ,Option.isSome_some,aA]) (by simp only[go_sem,hO,ah,h0,h1,h2,ay,aJ,Option.isSome_some,aA]<;>rfl)) ?_
     repeat refine sq ?_
     refine aC (fun hb=>?_) fun hb=>?_
     ·repeat refine sq ?_
      refine dx hΓ hP [[],[],[1],[1,2],[0],u5] [4,5] [[5,0]] (by kernel_rfl) (fun K' hK=>by simp only[go_sem,hO,ah,h0,h1,h2,ay,aJ,Option.isSome_some,aA];(repeat (refine⟨au,?_⟩));(first | refine⟨by rfl,?_⟩ | skip);exact hK _ (by simp only[go_sem,hO,ah,h0,h1,h2,ay,aJ,Option.isSome_some,aA]) (by simp only[go_sem,hO,ah,h0,h1,h2,ay,aJ,Option.isSome_some,aA]<;>rfl)) ?_
      refine aB ?_
      simp only[go_sem,hO,ah,h0,h1,h2]
      first | (unfold bd;simp only[ay];simp_all[cH,cI];done) | (unfold bd;simp only[ay];rcases aM:bb x.bk (r.so,s.le)with _ | j<;>simp_all[cH,cI];done)
     ·repeat refine sq ?_
      refine rx hΓ [3,5,7,10,76] [[3,0],[5,0],[7,0]] (fun K' hK=>by simp only[go_sem,hO,ah,h0,h1,h2,ay,aJ,Option.isSome_some,aA];(repeat (refine⟨au,?_⟩));exact hK _ (by simp only[go_sem,hO,ah,h0,h1,h2,ay,aJ,Option.isSome_some,aA]) (by simp only[go_sem,hO,ah,h0,h1,h2,ay,aJ,Option.isSome_some,aA]<;>rfl)) ?_
      repeat refine sq ?_
      refine aC (fun hb=>?_) fun hb=>?_
      ·repeat refine sq ?_
       refine dx hΓ hP [[],[],[1],[1,2],[1,2,3],[0],u6] [4,5] [[5,0]] (by kernel_rfl) (fun K' hK=>by simp only[go_sem,hO,ah,h0,h1,h2,ay,aJ,Option.isSome_some,aA];(repeat (refine⟨au,?_⟩));(first | refine⟨by rfl,?_⟩ | skip);exact hK _ (by simp only[go_sem,hO,ah,h0,h1,h2,ay,aJ,Option.isSome_some,aA]) (by simp only[go_sem,hO,ah,h0,h1,h2,ay,aJ,Option.isSome_some,aA]<;>rfl)) ?_
       refine aB ?_
       simp only[go_sem,hO,ah,h0,h1,h2]
       first | (unfold bd;simp only[ay];simp_all[cH,cI];done) | (unfold bd;simp only[ay];rcases aM:bb x.bk (r.so,s.le)with _ | j<;>simp_all[cH,cI];done)
      ·repeat refine sq ?_
       refine aF ?_
       refine bW ?_
       simp only[go_sem]
       refine fz [5,7] [[5,0],[7,0]] ?_ ?_
       ·simp only[go_sem,hO,ah,h0,h1,h2]
       simp only[go_sem,hO,ah,h0,h1,h2]
       repeat refine sq ?_
       refine dx hΓ hP [[],[],[0,1]] [4,5] [[5,0]] (by kernel_rfl) (fun K' hK=>by simp only[go_sem,hO,ah,h0,h1,h2,ay,aJ,Option.isSome_some,aA];(repeat (refine⟨au,?_⟩));(first | refine⟨by rfl,?_⟩ | skip);exact hK _ (by simp only[go_sem,hO,ah,h0,h1,h2,ay,aJ,Option.isSome_some,aA]) (by simp only[go_sem,hO,ah,h0,h1,h2,ay,aJ,Option.isSome_some,aA]<;>rfl)) ?_
       refine aB ?_
       simp only[go_sem,hO,ah,h0,h1,h2]
       first | (unfold bd;simp only[ay];simp_all[cH,cI];done) | (unfold bd;simp only[ay];rcases aM:bb x.bk (r.so,s.le)with _ | j<;>simp_all[cH,cI];done)
end
noncomputable section
theorem zL{α:Type}{p:α->Bool}{l:List α}{i:Nat}(h:i<l.length):(l.take (i+1)).all p=((l.take i).all p&&p l[i]):=by
 rw[List.take_add_one,List.getElem?_eq_getElem h,List.all_append]
 simp
theorem Qq{x:Vw}{d:Ds}{l:List Sig}{i:Nat}(h:i<l.length):cl x d (l.take (i+1))=gG x (cl x d (l.take i)) l[i]:=by
 unfold cl
 rw[List.take_add_one,List.getElem?_eq_getElem h,List.foldl_append]
 rfl
theorem DE(x:Vw)(d:Ds)(s:Sig):bd ⟨x.l,x.rs,x.ts,x.bk,d⟩ s=bd x s:=rfl
theorem o7.ds{x:Vw}(h:o7 x)(d:Ds):o7 ⟨x.l,x.rs,x.ts,x.bk,d⟩:=⟨h.ok,h.bk,h.rs,h.rn,h.tn,h.ts⟩
theorem Xt(x:Vw)(d:Ds)(i:Int)(r:Rg):EX ⟨x.l,x.rs,x.ts,x.bk,d⟩ i r=kE d i r:=rfl
theorem aeC{H H':Name->Option O}{QH:List (V×V)}(gW:upd H [2,1] (some (.map 0 QH))=H')(ah:∀ hs es,cG [0] (cv [0] hs) (fun nm=>if nm=[2,1]then some (.map 0 es)else H nm)=True):
 (∀ hs,cG [0] (cv [0] hs) H'=True)/\∀ hs es,cG [0] (cv [0] hs) (fun nm=>if nm=[2,1]then some (.map 0 es)else H' nm)=True:=by
 refine⟨fun hs=>by rw[<-gW];exact ah hs QH,fun hs es=>?_⟩
 have e:(fun nm=>if nm=[2,1]then some (.map 0 es)else H' nm)=fun nm=>if nm=[2,1]then some (.map 0 es)else H nm:=by
  funext nm
  rw[<-gW]
  by_cases e:nm=[2,1]
  ·simp[e]
  ·simp[bm _ _ _ e,e]
 rw[e];exact ah hs es
theorem TF{α β:Type}[DecidableEq α]{f:α->β}{a:α}{b:β}(h:f a=b):upd f a b=f:=by
 funext x
 by_cases e:x=a
 ·subst e;rw[aX,h]
 ·rw[bm _ _ _ e]
def Az(d:Ds)(i:Int):Bool:=decide ((aL d i).1<=(aL d i).2)
def K27:List (Nat×Spec):=[(187,S187),(165,S165)]
theorem afm:KS K27:=tc ZX<|tc Fy<|tn
attribute [go_sem] K27
def SD:VSpec:=v1 (dX iS) (fun x l=>((o7 x/\x.rs.Nodup)/\l.length<=60)/\∀ s∈l,DT s) (fun x l=>.v (.bool (fI x l))) (some fun x l=>cl x x.ds l)
def S128:Spec:=SD.toSpec
attribute [go_sem] SD S128
set_option maxHeartbeats 8000000 in
theorem N':aT Tryz.prog 128 S128:=by
 refine z6 (rs:=[.tmp 4]) Tryz.func128 Tryz.ntmps128 (by rfl) (by kernel_rfl) (by decide) (fun _ _=>by first | rfl | simp[D.clos,D.closL,mQ]) ⟨_,rfl,lb rfl,fun x l hp H h0 h1 h2 hO ah=>?_⟩
 simp only[iS,dX,encS,bG,dt,List.map_cons,List.map_nil,Nat.zero_add,Option.map_some,Option.map_none]at h0 |-
 have hΓ:=afm
 obtain⟨⟨⟨hv,cz⟩,Pg⟩,rV⟩:=hp
 have wA:l.length<=maxLen:=by unfold maxLen;omega
 have tD:x.ts.length<=maxLen:=by have:=hv.tn;unfold maxLen;omega
 have bt:∀ hs es,cG [0] (cv [0] hs) (upd H [2,1] (some (.map 0 es)))=True:=ah
 repeat refine sq ?_
 refine rx hΓ [0,1] [] (fun K' hK=>by simp only[go_sem,hO,ah,bt,h0,h1,h2];(repeat (refine⟨au,?_⟩));exact hK _ (by simp only[go_sem,hO,ah,bt,h0,h1,h2]) (by simp only[go_sem,hO,ah,bt,h0,h1,h2]<;>rfl)) ?_
 repeat refine sq ?_
 refine rx hΓ [0,1,5] [] (fun K' hK=>by simp only[go_sem,hO,ah,bt,h0,h1,h2];(repeat (refine⟨au,?_⟩));exact hK _ (by simp only[go_sem,hO,ah,bt,h0,h1,h2]) (by simp only[go_sem,hO,ah,bt,h0,h1,h2]<;>rfl)) ?_
 repeat refine sq ?_
 refine rx hΓ [0,1,5,6] [] (fun K' hK=>by simp only[go_sem,hO,ah,bt,h0,h1,h2];(repeat (refine⟨au,?_⟩));exact hK _ (by simp only[go_sem,hO,ah,bt,h0,h1,h2]) (by simp only[go_sem,hO,ah,bt,h0,h1,h2]<;>rfl)) ?_
 repeat refine sq ?_
 refine rx hΓ [0,5,6,16,17,18] [] (fun K' hK=>by simp only[go_sem,hO,ah,bt,h0,h1,h2];(repeat (refine⟨au,?_⟩));exact hK _ (by simp only[go_sem,hO,ah,bt,h0,h1,h2]) (by simp only[go_sem,hO,ah,bt,h0,h1,h2]<;>rfl)) ?_
 repeat refine sq ?_
 refine aR ?_
 repeat refine sq ?_
 refine Ry (fun s:Nat=>upd H [2,1] (some (.map 0 (bU (cl x x.ds (l.take s)))))) (fun s:Nat=>[(18,⟨true,.v (vInt s)⟩),(5,⟨true,.v (.bool ((l.take s).all (eR x)))⟩)]) (fun s=>[]) (fun s=>s<=l.length) (fun s=>l.length-s) 0 ?_ ?_ ?_ ?_ ?_
 ·exact Nat.zero_le _
 ·congr 1;exact TF h2
 ·rfl
 ·rfl
 rintro i hi
 generalize gW:upd H [2,1] (some (.map 0 (bU (cl x x.ds (l.take i)))))=H'
 have h0:=(show H' [0,1]=H [0,1]by rw[<-gW,bm _ _ _ (by decide)]).trans h0
 have h1:=(show H' [1,1]=H [1,1]by rw[<-gW,bm _ _ _ (by decide)]).trans h1
 have h2:H' [2,1]=some (.map 0 (bU (cl x x.ds (l.take i)))):=by rw[<-gW,aX]
 obtain⟨hO,ah⟩:=aeC gW ah
 have bt:∀ hs es,cG [0] (cv [0] hs) (upd H' [2,1] (some (.map 0 es)))=True:=ah
 simp only[go_sem]
 repeat refine sq ?_
 refine rx hΓ [0,5,6,16,17,18,19] [] (fun K' hK=>by simp only[go_sem,hO,ah,bt,h0,h1,h2];(repeat (refine⟨au,?_⟩));exact hK _ (by simp only[go_sem,hO,ah,bt,h0,h1,h2]) (by simp only[go_sem,hO,ah,bt,h0,h1,h2]<;>rfl)) ?_
 repeat refine sq ?_
 refine aC (fun hb=>?_) fun hb=>?_
 ·have ae:i<l.length:=by simpa using hb
  have aw:(i:Int)<l.length:=by omega
  clear hb
  have ln:=rV l[i] (List.getElem_mem ae)
  repeat refine sq ?_
  refine aF ?_
  repeat refine sq ?_
  refine aR ?_
  repeat refine sq ?_
  refine rx hΓ [0,5,6,8,16,17,18] [[8,0]] (fun K' hK=>by simp only[go_sem,hO,ah,bt,h0,h1,h2,ai ae,ak,an,aw];(repeat (refine⟨au,?_⟩));exact hK _ (by simp only[go_sem,hO,ah,bt,h0,h1,h2,ai ae,ak,an,aw]) (by simp only[go_sem,hO,ah,bt,h0,h1,h2,ai ae,ak,an,aw]<;>rfl)) ?_
  repeat refine sq ?_
  refine rx hΓ [0,5,6,9,10,16,17,18] [[10,0]] (fun K' hK=>by simp only[go_sem,hO,ah,bt,h0,h1,h2,ai ae,ak,an,aw,DE];(repeat (refine⟨by first | exact au | exact⟨⟨hv.ds _,cz⟩,ln⟩,?_⟩));exact hK _ (by simp only[go_sem,hO,ah,bt,h0,h1,h2,ai ae,ak,an,aw,DE]) (by simp only[go_sem,hO,ah,bt,h0,h1,h2,ai ae,ak,an,aw,DE]<;>rfl)) ?_
  repeat refine sq ?_
  refine rx hΓ [0,5,6,9,10,16,17,18,29] [[10,0]] (fun K' hK=>by simp only[go_sem,hO,ah,bt,h0,h1,h2,ai ae,ak,an,aw];(repeat (refine⟨au,?_⟩));exact hK _ (by simp only[go_sem,hO,ah,bt,h0,h1,h2,ai ae,ak,an,aw]) (by simp only[go_sem,hO,ah,bt,h0,h1,h2,ai ae,ak,an,aw]<;>rfl)) ?_
  repeat refine sq ?_
  refine aC (fun hb=>?_) fun hb=>?_
  ·repeat refine sq ?_
   have kG:(bd x l[i]).1>=0:=by simpa using hb
   have hA:(l.take (i+1)).all (eR x)=(l.take i).all (eR x):=by rw[zL ae];simp[eR,kG]
   have hF:cl x x.ds (l.take (i+1))=kE (cl x x.ds (l.take i)) (bd x l[i]).1 (bd x l[i]).2:=by rw[Qq ae,gG,if_pos kG]
   repeat refine sq ?_
   refine aW hΓ fun K' hK=>?_
   simp only[go_sem,hO,ah,bt,h0,h1,h2,ai ae,ak,an,aw,Xt]
   repeat (refine⟨au,?_⟩)
   refine hK _ ?_
   clear K' hK
   simp only[go_sem]
   refine fz [0,5,6,16,17,18] [] ?_ ?_
   ·simp only[go_sem,hO,ah,bt,h0,h1,h2]
   simp only[go_sem,hO,ah,bt,h0,h1,h2]
   repeat refine sq ?_
   refine aW hΓ fun K' hK=>?_
   simp only[go_sem,hO,ah,bt,h0,h1,h2,ai ae,ak,an,aw]
   repeat (refine⟨au,?_⟩)
   refine hK _ ?_
   clear K' hK
   simp only[go_sem]
   refine⟨i+1,ae,by(show l.length-(i+1)<l.length-i;omega),?_⟩
   refine bh [0,5,6,16,17,18] [] ?_ ?_
   ·simp only[go_sem,bc ae wA,be,hA,hF,hO,ah,bt,h0,h1,h2]
   ·simp only[go_sem,bc ae wA,be,hA,hF,hO,ah,bt,h0,h1,h2]
    all_goals first | (rw[<-gW];done) | (congr 1;funext nm;rw[<-gW];by_cases e:nm=[2,1]<;>simp[e,aX,bm])
  ·repeat refine sq ?_
   have kG:¬ (bd x l[i]).1>=0:=by simpa using hb
   have hF:cl x x.ds (l.take (i+1))=cl x x.ds (l.take i):=by rw[Qq ae,gG,if_neg kG]
   repeat refine sq ?_
   refine rx hΓ [0,5,6,16,17,18,38] [] (fun K' hK=>by simp only[go_sem,hO,ah,bt,h0,h1,h2,ai ae,ak,an,aw];(repeat (refine⟨au,?_⟩));exact hK _ (by simp only[go_sem,hO,ah,bt,h0,h1,h2,ai ae,ak,an,aw]) (by simp only[go_sem,hO,ah,bt,h0,h1,h2,ai ae,ak,an,aw]<;>rfl)) ?_
   repeat refine sq ?_
   refine aC (fun hb=>?_) fun hb=>?_
   ·repeat refine sq ?_
    have hA:(l.take (i+1)).all (eR x)=false:=by rw[zL ae];simp[eR,kG];intro _;simpa using hb
    repeat refine sq ?_
    refine aW hΓ fun K' hK=>?_
    simp only[go_sem,hO,ah,bt,h0,h1,h2,ai ae,ak,an,aw]
    repeat (refine⟨au,?_⟩)
    refine hK _ ?_
    clear K' hK
    simp only[go_sem]
    refine fz [0,5,6,16,17,18] [] ?_ ?_
    ·simp only[go_sem,hO,ah,bt,h0,h1,h2]
    simp only[go_sem,hO,ah,bt,h0,h1,h2]
    repeat refine sq ?_
    refine aW hΓ fun K' hK=>?_
    simp only[go_sem,hO,ah,bt,h0,h1,h2,ai ae,ak,an,aw]
    repeat (refine⟨au,?_⟩)
    refine hK _ ?_
    clear K' hK
    simp only[go_sem]
    refine⟨i+1,ae,by(show l.length-(i+1)<l.length-i;omega),?_⟩
    refine bh [0,5,6,16,17,18] [] ?_ ?_
    ·simp only[go_sem,bc ae wA,be,hA,hF,hO,ah,bt,h0,h1,h2]
    ·simp only[go_sem,bc ae wA,be,hA,hF,hO,ah,bt,h0,h1,h2]
     all_goals first | (rw[<-gW];done) | (congr 1;funext nm;rw[<-gW];by_cases e:nm=[2,1]<;>simp[e,aX,bm])
   ·repeat refine sq ?_
    have hA:(l.take (i+1)).all (eR x)=(l.take i).all (eR x):=by rw[zL ae];simp[eR,kG];intro _;simpa using hb
    refine aF ?_
    refine bW ?_
    simp only[go_sem]
    refine fz [0,5,6,16,17,18] [] ?_ ?_
    ·simp only[go_sem,hO,ah,bt,h0,h1,h2]
    simp only[go_sem,hO,ah,bt,h0,h1,h2]
    repeat refine sq ?_
    refine aW hΓ fun K' hK=>?_
    simp only[go_sem,hO,ah,bt,h0,h1,h2,ai ae,ak,an,aw]
    repeat (refine⟨au,?_⟩)
    refine hK _ ?_
    clear K' hK
    simp only[go_sem]
    refine⟨i+1,ae,by(show l.length-(i+1)<l.length-i;omega),?_⟩
    refine bh [0,5,6,16,17,18] [] ?_ ?_
    ·simp only[go_sem,bc ae wA,be,hA,hF,hO,ah,bt,h0,h1,h2]
    ·simp only[go_sem,bc ae wA,be,hA,hF,hO,ah,bt,h0,h1,h2]
     all_goals first | (rw[<-gW];done) | (congr 1;funext nm;rw[<-gW];by_cases e:nm=[2,1]<;>simp[e,aX,bm])
 ·have bE:i=l.length:=by
   have :¬ (i:Int)<l.length:=by simpa using hb
   omega
  clear hb
  subst bE
  repeat refine sq ?_
  refine bN ?_
  simp only[go_sem]
  refine fz [0,5] [] ?_ ?_
  ·simp only[go_sem,hO,ah,bt,h0,h1,h2]
  simp only[go_sem,hO,ah,bt,h0,h1,h2]
  repeat refine sq ?_
  refine rx hΓ [0,5,43,44,45] [] (fun K' hK=>by simp only[go_sem,hO,ah,bt,h0,h1,h2];(repeat (refine⟨au,?_⟩));exact hK _ (by simp only[go_sem,hO,ah,bt,h0,h1,h2]) (by simp only[go_sem,hO,ah,bt,h0,h1,h2]<;>rfl)) ?_
  repeat refine sq ?_
  refine aR ?_
  repeat refine sq ?_
  refine cp (fun s:Nat=>[(45,⟨true,.v (vInt s)⟩),(5,⟨true,.v (.bool ((x.ts.take s).all (Az (cl x x.ds (l.take l.length)))&&(l.take l.length).all (eR x)))⟩)]) (fun s=>[]) (fun s=>s<=x.ts.length) (fun s=>x.ts.length-s) 0 ?_ ?_ ?_ ?_
  ·exact Nat.zero_le _
  ·rfl
  ·rfl
  rintro i1 hi
  generalize hB:((x.ts.take i1).all (Az (cl x x.ds (l.take l.length)))&&(l.take l.length).all (eR x))=B
  simp only[go_sem]
  repeat refine sq ?_
  refine rx hΓ [0,5,43,44,45,46] [] (fun K' hK=>by simp only[go_sem,hO,ah,bt,h0,h1,h2];(repeat (refine⟨au,?_⟩));exact hK _ (by simp only[go_sem,hO,ah,bt,h0,h1,h2]) (by simp only[go_sem,hO,ah,bt,h0,h1,h2]<;>rfl)) ?_
  repeat refine sq ?_
  refine aC (fun hb=>?_) fun hb=>?_
  ·have aS:i1<x.ts.length:=by simpa using hb
   have bC:(i1:Int)<x.ts.length:=by omega
   clear hb
   have hA:((x.ts.take (i1+1)).all (Az (cl x x.ds (l.take l.length)))&&(l.take l.length).all (eR x))=(B&&decide ((aL (cl x x.ds (l.take l.length)) x.ts[i1]).1<=(aL (cl x x.ds (l.take l.length)) x.ts[i1]).2)):=by
    rw[<-hB,zL aS,Bool.and_assoc,Bool.and_assoc,Bool.and_comm (Az _ _)];rfl
   repeat refine sq ?_
   refine aF ?_
   repeat refine sq ?_
   refine aR ?_
   repeat refine sq ?_
   refine rx hΓ [0,5,12,43,44,45] [] (fun K' hK=>by simp only[go_sem,hO,ah,bt,h0,h1,h2,ai aS,ak,an,bC];(repeat (refine⟨au,?_⟩));exact hK _ (by simp only[go_sem,hO,ah,bt,h0,h1,h2,ai aS,ak,an,bC]) (by simp only[go_sem,hO,ah,bt,h0,h1,h2,ai aS,ak,an,bC]<;>rfl)) ?_
   repeat refine sq ?_
   refine rx hΓ [0,5,13,43,44,45] [[13,0]] (fun K' hK=>by simp only[go_sem,hO,ah,bt,h0,h1,h2,ai aS,ak,an,bC,gj];(repeat (refine⟨au,?_⟩));exact hK _ (by simp only[go_sem,hO,ah,bt,h0,h1,h2,ai aS,ak,an,bC,gj]) (by simp only[go_sem,hO,ah,bt,h0,h1,h2,ai aS,ak,an,bC,gj]<;>rfl)) ?_
   repeat refine sq ?_
   refine aW hΓ fun K' hK=>?_
   simp only[go_sem,hO,ah,bt,h0,h1,h2,ai aS,ak,an,bC]
   repeat (refine⟨au,?_⟩)
   refine hK _ ?_
   clear K' hK
   simp only[go_sem]
   refine fz [0,5,43,44,45] [] ?_ ?_
   ·simp only[go_sem,hO,ah,bt,h0,h1,h2]
   simp only[go_sem,hO,ah,bt,h0,h1,h2]
   repeat refine sq ?_
   refine aW hΓ fun K' hK=>?_
   simp only[go_sem,hO,ah,bt,h0,h1,h2,ai aS,ak,an,bC]
   repeat (refine⟨au,?_⟩)
   refine hK _ ?_
   clear K' hK
   simp only[go_sem]
   refine⟨i1+1,aS,by(show x.ts.length-(i1+1)<x.ts.length-i1;omega),?_⟩
   refine bh [0,5,43,44,45] [] ?_ ?_<;>simp only[go_sem,bc aS tD,be,hA,hO,ah,bt,h0,h1,h2]
  ·have jy:i1=x.ts.length:=by
    have :¬ (i1:Int)<x.ts.length:=by simpa using hb
    omega
   clear hb
   subst jy
   repeat refine sq ?_
   refine bN ?_
   simp only[go_sem]
   refine fz [5] [] ?_ ?_
   ·simp only[go_sem,hO,ah,bt,h0,h1,h2]
   simp only[go_sem,hO,ah,bt,h0,h1,h2]
   repeat refine sq ?_
   refine rx hΓ [4] [] (fun K' hK=>by simp only[go_sem,hO,ah,bt,h0,h1,h2];(repeat (refine⟨au,?_⟩));exact hK _ (by simp only[go_sem,hO,ah,bt,h0,h1,h2]) (by simp only[go_sem,hO,ah,bt,h0,h1,h2]<;>rfl)) ?_
   refine aB ?_
   simp only[go_sem,hO,ah,bt,h0,h1,h2]
   rw[<-hB];simp only[List.take_length];exact⟨by unfold fI wL;rw[Bool.and_comm];rfl,trivial⟩
end
open Go
structure Ro (α:Type) where
 m:Nat
 fam:α->List Name->List O
 args:α->List Name->List D
 ok:α->Prop
 val:α->D
structure Ro.Ok {α:Type} (r:Ro α):Prop where
 len:∀ a Ls,Ls.length=r.m->(r.fam a Ls).length=r.m
 renF:∀ a f Ls,Ls.length=r.m->(r.fam a Ls).map (O.ren f)=r.fam a (Ls.map f)
 renA:∀ a f Ls,Ls.length=r.m->D.renL f (r.args a Ls)=r.args a (Ls.map f)
 reach:∀ a Ls obj,Ls.length=r.m->Ls.Nodup->di obj Ls (r.fam a Ls)->reach obj (r.args a Ls)=Ls
 closF:∀ a dom Ls,Ls.length=r.m->(∀ x∈Ls,dom x=true)->∀ o∈r.fam a Ls,O.clos dom o=true
 closA:∀ a dom Ls,Ls.length=r.m->(∀ x∈Ls,dom x=true)->D.closL dom (r.args a Ls)=true
 det:∀ a b,r.ok a->r.ok b->r.fam a (LR r.m)=r.fam b (LR r.m)->r.args a (LR r.m)=r.args b (LR r.m)->r.val a=r.val b
 vcl:∀ a dom,D.clos dom (r.val a)=true
 vren:∀ a f,(r.val a).ren f=r.val a
variable {α:Type}
noncomputable def Ro.c(r:Ro α):CSpec where
 pre:=fun os ds=>∃ a,r.ok a/\os=r.fam a (LR r.m)/\ds=r.args a (LR r.m)
 out:=fun os ds=>⟨[],[],by classical exact if h:∃ a,r.ok a/\os=r.fam a (LR r.m)/\ds=r.args a (LR r.m)then r.val h.choose else .any⟩
theorem Ro.c_out{r:Ro α}(hr:r.Ok){a:α}(ha:r.ok a):r.c.out (r.fam a (LR r.m)) (r.args a (LR r.m))=⟨[],[],r.val a⟩:=by
 have h:∃ b,r.ok b/\r.fam a (LR r.m)=r.fam b (LR r.m)/\r.args a (LR r.m)=r.args b (LR r.m):=⟨a,ha,rfl,rfl⟩
 have e:r.val h.choose=r.val a:=(hr.det _ _ ha h.choose_spec.1 h.choose_spec.2.1 h.choose_spec.2.2).symm
 simp only[Ro.c]
 rw[dif_pos h,e]
theorem Ro.c_app{r:Ro α}(hr:r.Ok){a:α}(ha:r.ok a){obj:Name->Option O}{t:Name}{Ls:List Name}(hl:Ls.length=r.m)(hn:Ls.Nodup)(hF:di obj Ls (r.fam a Ls)):
 r.c.toSpec.app obj t (r.args a Ls)=⟨True,r.val a,obj⟩:=by
 have kK:=hr.reach a Ls obj hl hn hF
 have uu:Ls.map (cin Ls)=LR r.m:=by rw[CK hn,hl]
 have e1:cS obj (r.args a Ls)=r.fam a (LR r.m):=by
  unfold cS
  rw[kK]
  have oV:=hF
  rw[l3]at oV
  have :Ls.map (cX Ls obj)=(r.fam a Ls).map (O.ren (cin Ls)):=by
   refine List.ext_getElem (by simp[hr.len _ _ hl,hl]) fun i h1 h2=>?_
   have h3:i<Ls.length:=by simpa using h1
   have h4:i<(r.fam a Ls).length:=by rw[hr.len _ _ hl,<-hl];exact h3
   have h5:=congrArg (fun l=>l[i]?) oV
   have h6:obj Ls[i]=some (r.fam a Ls)[i]:=by simpa[h3,h4]using h5
   simp only[List.getElem_map,cX,h6]
  rw[this,hr.renF _ _ _ hl,uu]
 have e2:dr obj (r.args a Ls)=r.args a (LR r.m):=by
  unfold dr
  rw[kK,hr.renA _ _ _ hl,uu]
 have dL:∀ x∈Ls,dj Ls x=true:=fun x hx=>ig.2 hx
 have js:shut obj Ls=true:=by
  unfold shut
  rw[List.all_eq_true]
  intro x hx
  obtain⟨i,hi,rfl⟩:=List.getElem_of_mem hx
  have oV:=hF
  rw[l3]at oV
  have h4:i<(r.fam a Ls).length:=by rw[hr.len _ _ hl,<-hl];exact hi
  have h5:=congrArg (fun l=>l[i]?) oV
  have h6:obj Ls[i]=some (r.fam a Ls)[i]:=by simpa[hi,h4]using h5
  rw[h6]
  exact hr.closF _ _ _ hl dL _ (List.getElem_mem h4)
 have eB:r.c.pre (r.fam a (LR r.m)) (r.args a (LR r.m)):=⟨a,ha,rfl,rfl⟩
 simp only[CSpec.toSpec,e1,e2,kK,Ro.c_out hr ha,js,hr.closA _ _ _ hl dL,fresh,List.all_nil,Bool.and_self,eB,and_self,dQ,cU,hr.vren]
def Kl(P:Program)(rs:List ResultVar)(v:D)(H:Name->Option O)(e:Exit)(σ:S):Prop:=
 (e=.normal\/e=.ret)/\(cf P σ rs).ok/\(cf P σ rs).d=v/\∀ i,σ.obj [i,1]=H [i,1]
theorem EL{σ:S}:∀ {os:List O} {k:Nat},(∀ i (h:i<os.length),σ.obj [k+i,1]=some os[i])->s8 σ [] k os
 |[],_,_=>trivial
 |o::r,k,h=>by
  refine⟨by have:=h 0 (by simp);simp only[Nat.add_zero,List.getElem_cons_zero]at this;exact this,EL fun i hi=>?_⟩
  have :=h (i+1) (by simpa using hi)
  rw[show k+1+i=k+(i+1)by omega]
  simpa using this
theorem Ro.sound{P:Program}{r:Ro α}(hr:r.Ok){f:FuncId}{fn:Func}{nt:Nat}{rs:List ResultVar}(hf:P.funcs[f]?=some fn)(cM:fn.ntmps=nt)(cg:fn.results.toList=rs)(hn:(fn.name== "runtime.NumGoroutine")=false)(hy:f<1000000000)
 (hw:∃ c,fn.body=some c/\∀ a,r.ok a->(r.args a (LR r.m)).length<=nt/\CL P [c] (bu nt [0] (ba (r.fam a (LR r.m))) (dt 0 (r.args a (LR r.m))) []) (Kl P rs (r.val a) (ba (r.fam a (LR r.m))))):aT P f r.c.toSpec:=by
 obtain⟨c,hc,hw⟩:=hw
 refine pI hf hc cM cg (jb hf hc hn) (Nat.ne_of_lt (show f<yid from hy)) ?_
 rintro os ds ⟨a,ha,rfl,rfl⟩
 obtain⟨hl,h⟩:=hw a ha
 refine⟨hl,?_⟩
 rw[Ro.c_out hr ha]
 refine CW.mono (kg h) ?_
 rintro e σ ⟨he,h1,h2,h3⟩
 have fin:(cf P σ rs).ok/\(cf P σ rs).d=r.val a/\gZ (r.fam a (LR r.m)) ⟨[],[],r.val a⟩ σ:=by
  refine⟨h1,h2,EL fun i hi=>?_,trivial,?_⟩
  ·rw[Nat.zero_add,h3]
   show (r.fam a (LR r.m))[i]?=_
   rw[List.getElem?_eq_getElem hi]
  ·simp[hr.vcl,distinct]
 rcases he with rfl | rfl
 ·exact fin
 ·exact fin
theorem Ro.outC{r:Ro α}(hr:r.Ok)(a:α):∀ hs,cG [0] (cv [0] hs) (ba (r.fam a (LR r.m)))=True:=fun hs=>eq_true (p7 (fun o ho dom hd=>hr.closF a dom _ (pQ _) (fun x hx=>by
 obtain⟨i,_,rfl⟩:=List.mem_map.1 hx
 exact hd i) o ho) hs)
set_option maxHeartbeats 8000000
noncomputable section
attribute [go_sem] Kl
theorem xY{Ls:List Name}(h:Ls.length=4):∃ a b c d,Ls=[a,b,c,d]:=by
 match Ls,h with
 |[a,b,c,d],_=>exact⟨a,b,c,d,rfl⟩
def lF(x:Vw)(nr nb nd:Name):O:=.box [.v (jE x.l),.v (.sl (x.rs.map encR)),.msl nr x.ts.length,.map nb,.map nd]
def sg(x:Vw)(Ls:List Name):List O:=[lF x (Ls.getD 1 []) (Ls.getD 2 []) (Ls.getD 3 []),.arr 1 (x.ts.map vInt),.map 2 (cm x.bk),.map 0 (bU x.ds)]
theorem ab9{x y:Vw}{a b c:Name}(h:lF x a b c=lF y a b c):x.rs=y.rs:=by
 simp only[lF,O.box.injEq,List.cons.injEq,D.v.injEq,V.sl.injEq]at h
 have :=congrArg (List.map lJ) h.2.1
 rwa [Cv,Cv]at this
def ky:Ro (Vw×Int) where
 m:=4
 fam:=fun a Ls=>sg a.1 Ls
 args:=fun a Ls=>[.ref (Ls.getD 0 []) 0,.v (vInt a.2)]
 ok:=fun _=>True
 val:=fun a=>.tup [om (cO a.1.rs a.2),.v (.bool (cO a.1.rs a.2).isSome)]
theorem Wd(o:Option Rec)(f:Name->Name):(om o).ren f=om o:=by cases o<;>rfl
theorem Eo:ky.Ok where
 len:=fun _ _ _=>rfl
 renF:=fun a f Ls h=>by obtain⟨a,b,c,d,rfl⟩:=xY h;rfl
 renA:=fun a f Ls h=>by obtain⟨a,b,c,d,rfl⟩:=xY h;rfl
 reach:=fun x Ls obj h cz hF=>by
  obtain⟨a,b,c,d,rfl⟩:=xY h
  obtain⟨h1,h2,h3,h4,_⟩:=hF
  have en:dw (ky.args x [a,b,c,d])=[a]:=rfl
  unfold Go.Eng.reach
  rw[en]
  show dW obj (2993+1+1+1+1+1+1+1) _ []=_
  simp only[List.nodup_cons,List.mem_cons,List.not_mem_nil,or_false,not_or,not_false_eq_true,List.nodup_nil,and_true]at cz
  obtain⟨⟨a1,a2,a3⟩,⟨b1,b2⟩,c1⟩:=cz
  simp[dW,ig,h1,h2,h3,h4,mW,dw,mX,lF,Ne.symm a1,Ne.symm a2,Ne.symm a3,Ne.symm b1,Ne.symm b2,Ne.symm c1]
 closF:=fun x dom Ls h hd o ho=>by
  obtain⟨a,b,c,d,rfl⟩:=xY h
  have h1:=hd b (by simp)
  have h2:=hd c (by simp)
  have h3:=hd d (by simp)
  simp only[ky,sg,List.mem_cons,List.not_mem_nil,or_false]at ho
  rcases ho with rfl | rfl | rfl | rfl<;>simp[O.clos,D.closL,D.clos,lF,h1,h2,h3]
 closA:=fun x dom Ls h hd=>by
  obtain⟨a,b,c,d,rfl⟩:=xY h
  have h1:=hd a (by simp)
  simp[ky,D.closL,D.clos,h1]
 det:=fun a b _ _ h1 h2=>by
  have e1:a.1.rs=b.1.rs:=ab9 (List.cons.inj h1).1
  have e2:a.2=b.2:=by
   have :=(List.cons.inj (List.cons.inj h2).2).1
   simpa[vInt]using this
  simp only[ky,e1,e2]
 vcl:=fun a dom=>by simp[ky,D.clos,D.closL,mQ]
 vren:=fun a f=>by simp[ky,D.ren,D.renL,Wd]
def S77m:Spec:=ky.c.toSpec
theorem ZT:aT Tryz.prog 77 S77m:=by
 refine Ro.sound Eo (rs:=[.cell 4 36,.tmp 5]) Tryz.func77 Tryz.ntmps77 (by rfl) (by kernel_rfl) (by decide) ⟨_,rfl,?_⟩
 rintro⟨x,s⟩ _
 refine⟨lb rfl,?_⟩
 have hΓ:=S'
 have hO:=Ro.outC Eo (x,s)
 have h0:ba (ky.fam (x,s) (LR ky.m)) [0,1]=some (lF x [1,1] [2,1] [3,1]):=rfl
 generalize ba (ky.fam (x,s) (LR ky.m))=H at *
 have ha:ky.args (x,s) (LR ky.m)=[.ref [0,1] 0,.v (vInt s)]:=rfl
 have hv:ky.val (x,s)=.tup [om (cO x.rs s),.v (.bool (cO x.rs s).isSome)]:=rfl
 rw[ha,hv]
 simp only[lF,dt,Nat.zero_add]at h0 |-
 repeat refine sq ?_
 refine rx hΓ [0,3,4] [[3,0],[4,0]] (fun K' hK=>by simp only[go_sem,hO,h0];(repeat (refine⟨au,?_⟩));exact hK _ (by simp only[go_sem,hO,h0]) (by simp only[go_sem,hO,h0]<;>rfl)) ?_
 repeat refine sq ?_
 refine rx hΓ [0,4,6] [[4,0]] (fun K' hK=>by simp only[go_sem,hO,h0,true_or,or_true];(repeat (refine⟨au,?_⟩));exact hK _ (by simp only[go_sem,hO,h0,true_or,or_true]) (by simp only[go_sem,hO,h0,true_or,or_true]<;>rfl)) ?_
 repeat refine sq ?_
 refine rx hΓ [0,4,6,14] [[4,0]] (fun K' hK=>by simp only[go_sem,hO,h0];(repeat (refine⟨au,?_⟩));exact hK _ (by simp only[go_sem,hO,h0]) (by simp only[go_sem,hO,h0]<;>rfl)) ?_
 repeat refine sq ?_
 refine aC (fun hb=>?_) fun hb=>?_
 ·repeat refine sq ?_
  have e:cO x.rs s=none:=KJ (by simpa using hb)
  repeat refine sq ?_
  refine rx hΓ [4,5] [[4,0]] (fun K' hK=>by simp only[go_sem,hO,h0];(repeat (refine⟨au,?_⟩));exact hK _ (by simp only[go_sem,hO,h0]) (by simp only[go_sem,hO,h0]<;>rfl)) ?_
  refine aB ?_
  simp only[go_sem,hO,h0]
  rw[e];exact⟨.inr trivial,rfl⟩
 ·repeat refine sq ?_
  obtain⟨i,hi,e1,e⟩:=KI (by simpa using hb)
  have bP:(i:Int)<x.rs.length:=by omega
  rw[e1]
  refine aF ?_
  repeat refine sq ?_
  refine rx hΓ [4,5] [[4,0]] (fun K' hK=>by simp only[go_sem,hO,h0,ai hi,ak,an,bP];(repeat (refine⟨au,?_⟩));exact hK _ (by simp only[go_sem,hO,h0,ai hi,ak,an,bP]) (by simp only[go_sem,hO,h0,ai hi,ak,an,bP]<;>rfl)) ?_
  refine aB ?_
  simp only[go_sem,hO,h0]
  rw[e];exact⟨.inr trivial,rfl⟩
def ot(r:Rec):V:=.ptr [vInt r.so,vInt r.bo,vInt r.pa,.sl (r.lv.map vInt),vInt r.da,vInt r.kn,vInt r.un]
theorem KR{a b:Rec}(h:ot a=ot b):a=b:=by
 refine KH ?_
 obtain⟨a1,a2,a3,al,a4,a5,a6⟩:=a
 obtain⟨b1,b2,b3,bl,b4,b5,b6⟩:=b
 simp only[ot,V.ptr.injEq,List.cons.injEq,and_true]at h
 simp only[hU,D.agg.injEq,List.cons.injEq,D.v.injEq,and_true]
 exact h
def jl(bk:Bk)(r:Rec)(f:Int):Bool:=(bb bk (r.so,f)).isSome||!r.lv.contains f
def vn{β:Type}(ar:β->Rec->Name->List D)(ok:β->Prop)(val:Bk->Rec->β->V):Ro (Vw×Rec×β) where
 m:=5
 fam:=fun a Ls=>.box [.ref (Ls.getD 1 []) 0]::sg a.1 (Ls.drop 1)
 args:=fun a Ls=>ar a.2.2 a.2.1 (Ls.getD 0 [])
 ok:=fun a=>ok a.2.2
 val:=fun a=>.v (val a.1.bk a.2.1 a.2.2)
theorem Jd{β:Type}{ar:β->Rec->Name->List D}{ok:β->Prop}{val:Bk->Rec->β->V}(h1:∀ b r n,dw (ar b r n)=[n])(h2:∀ f b r n,D.renL f (ar b r n)=ar b r (f n))(h3:∀ dom b r n,dom n=true->D.closL dom (ar b r n)=true)
 (h4:∀ b r b' r' n,ar b r n=ar b' r' n->b=b'/\r=r'):(vn ar ok val).Ok where
 len:=fun _ _ _=>rfl
 renF:=fun a f Ls h=>by obtain⟨a,b,c,d,e,rfl⟩:=l5 h;rfl
 renA:=fun a f Ls h=>by obtain⟨a,b,c,d,e,rfl⟩:=l5 h;exact h2 _ _ _ _
 reach:=fun x Ls obj h cz hF=>by
  obtain⟨a,b,c,d,e,rfl⟩:=l5 h
  obtain⟨k1,k2,k3,k4,k5,_⟩:=hF
  have en:dw ((vn ar ok val).args x [a,b,c,d,e])=[a]:=h1 _ _ _
  unfold Go.Eng.reach
  rw[en]
  show dW obj (2993+1+1+1+1+1+1+1) _ []=_
  simp only[List.nodup_cons,List.mem_cons,List.not_mem_nil,or_false,not_or,not_false_eq_true,List.nodup_nil,and_true]at cz
  obtain⟨⟨a1,a2,a3,a4⟩,⟨b1,b2,b3⟩,⟨c1,c2⟩,d1⟩:=cz
  simp[dW,ig,k1,k2,k3,k4,k5,mW,dw,mX,lF,Ne.symm a1,Ne.symm a2,Ne.symm a3,Ne.symm a4,Ne.symm b1,Ne.symm b2,Ne.symm b3,Ne.symm c1,Ne.symm c2,Ne.symm d1]
 closF:=fun x dom Ls h hd o ho=>by
  obtain⟨a,b,c,d,e,rfl⟩:=l5 h
  have h1:=hd b (by simp)
  have h2:=hd c (by simp)
  have h3:=hd d (by simp)
  have h4:=hd e (by simp)
  simp only[vn,sg,List.drop_succ_cons,List.drop_zero,List.mem_cons,List.not_mem_nil,or_false]at ho
  rcases ho with rfl | rfl | rfl | rfl | rfl<;>simp[O.clos,D.closL,D.clos,lF,h1,h2,h3,h4]
 closA:=fun x dom Ls h hd=>by
  obtain⟨a,b,c,d,e,rfl⟩:=l5 h
  exact h3 _ _ _ _ (hd a (by simp))
 det:=fun a b _ _ k1 k2=>by
  have e1:a.1.bk=b.1.bk:=by
   have :=(List.cons.inj (List.cons.inj (List.cons.inj (List.cons.inj k1).2).2).2).1
   simp only[O.map.injEq,true_and]at this
   have :=congrArg Cy this
   rwa [HP,HP]at this
  obtain⟨e2,e3⟩:=h4 _ _ _ _ _ k2
  simp only[vn,e1,e2,e3]
 vcl:=fun _ _=>rfl
 vren:=fun _ _=>rfl
def tkRo:Ro (Vw×Rec×Int):=vn (fun f r n=>[.v (vInt f),.ref n 0,.v (ot r)]) (fun _=>True) (fun bk r f=>.bool (jl bk r f))
theorem DH:tkRo.Ok:=Jd (fun _ _ _=>rfl) (fun _ _ _ _=>rfl) (fun dom b r n h=>by simp[D.closL,D.clos,h]) (fun b r b' r' n h=>by
 simp only[List.cons.injEq,D.v.injEq,and_true,true_and]at h
 exact⟨by simpa[vInt]using h.1,KR h.2⟩)
def S163m:Spec:=tkRo.c.toSpec
def K28a:List (Nat×Spec):=[(108,zQ)]
theorem afl:KS K28a:=tc D3.sound<|tn
attribute [go_sem] K28a
theorem Z2:aT Tryz.prog 163 S163m:=by
 refine Ro.sound DH (rs:=[.tmp 4]) Tryz.func163 Tryz.ntmps163 (by rfl) (by kernel_rfl) (by decide) ⟨_,rfl,?_⟩
 rintro⟨x,r,f⟩ _
 refine⟨lb rfl,?_⟩
 have hΓ:=afl
 have hP:=fE
 have hO:=Ro.outC DH (x,r,f)
 have h0:ba (tkRo.fam (x,r,f) (LR tkRo.m)) [0,1]=some (.box [.ref [1,1] 0]):=rfl
 have h1:ba (tkRo.fam (x,r,f) (LR tkRo.m)) [1,1]=some (lF x [2,1] [3,1] [4,1]):=rfl
 have h3:ba (tkRo.fam (x,r,f) (LR tkRo.m)) [3,1]=some (.map 2 (cm x.bk)):=rfl
 generalize ba (tkRo.fam (x,r,f) (LR tkRo.m))=H at *
 have ha:tkRo.args (x,r,f) (LR tkRo.m)=[.v (vInt f),.ref [0,1] 0,.v (ot r)]:=rfl
 have hv:tkRo.val (x,r,f)=.v (.bool (jl x.bk r f)):=rfl
 rw[ha,hv]
 simp only[lF,dt,Nat.zero_add,ot]at h1 |-
 repeat refine sq ?_
 refine rx hΓ [0,1,2] [] (fun K' hK=>by simp only[go_sem,hO,h0,h1,h3];(repeat (refine⟨au,?_⟩));exact hK _ (by simp only[go_sem,hO,h0,h1,h3]) (by simp only[go_sem,hO,h0,h1,h3]<;>rfl)) ?_
 repeat refine sq ?_
 refine dx hΓ hP [[],[0],[0,1],[0,1,2],[],[4],[],[4,5,6],u8,u9,ck,ck,eF,gK] [0,2,6] [] (by kernel_rfl) (fun K' hK=>by simp only[go_sem,hO,h0,h1,h3,aA];(repeat (refine⟨au,?_⟩));(first | refine⟨by rfl,?_⟩ | skip);exact hK _ (by simp only[go_sem,hO,h0,h1,h3,aA]) (by simp only[go_sem,hO,h0,h1,h3,aA]<;>rfl)) ?_
 repeat refine sq ?_
 refine rx hΓ [4] [] (fun K' hK=>by simp only[go_sem,hO,h0,h1,h3];(repeat (refine⟨au,?_⟩));exact hK _ (by simp only[go_sem,hO,h0,h1,h3]) (by simp only[go_sem,hO,h0,h1,h3]<;>rfl)) ?_
 refine aB ?_
 simp only[go_sem,hO,h0,h1,h3]
 exact⟨.inr trivial,by unfold jl;cases bb x.bk (r.so,f)<;>rfl⟩
def iV(v:Bk->Rec->List Int->V):Ro (Vw×Rec×List Int):=vn (fun l r n=>[.v (.sl (l.map vInt)),.clo (.func 163) [] [.ref n 0,.v (ot r)]]) (fun l=>l.length<=maxLen) v
theorem w8(v:Bk->Rec->List Int->V):(iV v).Ok:=Jd (fun _ _ _=>rfl) (fun _ _ _ _=>rfl) (fun dom b r n h=>by simp[D.closL,D.clos,h]) (fun b r b' r' n h=>by
 simp only[List.cons.injEq,D.v.injEq,D.clo.injEq,V.sl.injEq,and_true,true_and]at h
 refine⟨?_,KR h.2⟩
 have :=congrArg (List.map kQ) h.1
 rwa [sp,sp]at this)
def m6(bk:Bk)(r:Rec)(l:List Int):V:=vInt (dK (jl bk r) l)
def nE(bk:Bk)(r:Rec)(l:List Int):V:=.bool (l.any (jl bk r))
def S192m:Spec:=(iV m6).c.toSpec
def S160m:Spec:=(iV nE).c.toSpec
def I1:FuncId->Option Spec:=fun f=>if f=163 then some S163m else none
theorem afk:∀ f s,I1 f=some s->aT Tryz.prog f s:=fun f s h=>by
 unfold I1 at h
 split at h
 ·rename_i e;cases h;subst e;exact Z2
 ·cases h
theorem I0:I1 163=some S163m:=rfl
theorem ZW:aT Tryz.prog 192 S192m:=by
 refine Ro.sound (w8 m6) (rs:=[.tmp 4]) Tryz.func192 Tryz.ntmps192 (by rfl) (by kernel_rfl) (by decide) ⟨_,rfl,?_⟩
 rintro⟨x,r,l⟩ hl
 replace hl:l.length<=maxLen:=hl
 refine⟨lb rfl,?_⟩
 have hΓ:=afk
 have hO:=Ro.outC (w8 m6) (x,r,l)
 have eM:di (ba ((iV m6).fam (x,r,l) (LR (iV m6).m))) (LR 5) ((iV m6).fam (x,r,l) (LR 5)):=⟨rfl,rfl,rfl,rfl,rfl,trivial⟩
 generalize ba ((iV m6).fam (x,r,l) (LR (iV m6).m))=H at *
 have qz:∀ (F:Name->Option O) (t:Name) (f:Int),S163m.app (fun nm=>if own [0] nm=true then F nm else H nm) t [.v (vInt f),.ref [0,1] 0,.v (ot r)]=⟨True,.v (.bool (jl x.bk r f)),fun nm=>if own [0] nm=true then F nm else H nm⟩:=fun F t f=>Ro.c_app DH (a:=(x,r,f)) trivial (t:=t) (obj:=fun nm=>if own [0] nm=true then F nm else H nm) (Ls:=LR 5) rfl (S5 5) (EO eM fun y hy=>by
  obtain⟨i,_,rfl⟩:=List.mem_map.1 hy
  simp[vM])
 have ha:(iV m6).args (x,r,l) (LR (iV m6).m)=[.v (.sl (l.map vInt)),.clo (.func 163) [] [.ref [0,1] 0,.v (ot r)]]:=rfl
 have hv:(iV m6).val (x,r,l)=.v (vInt (dK (jl x.bk r) l)):=rfl
 rw[ha,hv]
 simp only[dt,Nat.zero_add]
 repeat refine sq ?_
 refine rx hΓ [0,1] [] (fun K' hK=>by simp only[go_sem,hO];(repeat (refine⟨au,?_⟩));exact hK _ (by simp only[go_sem,hO]) (by simp only[go_sem,hO]<;>rfl)) ?_
 repeat refine sq ?_
 refine rx hΓ [0,1,7,8] [] (fun K' hK=>by simp only[go_sem,hO];(repeat (refine⟨au,?_⟩));exact hK _ (by simp only[go_sem,hO]) (by simp only[go_sem,hO]<;>rfl)) ?_
 repeat refine sq ?_
 refine aR ?_
 repeat refine sq ?_
 refine cp (fun s:Nat=>[(8,⟨true,.v (vInt s)⟩)]) (fun s=>[]) (fun s=>s<=l.length/\∀ k (h:k<l.length),k<s->jl x.bk r l[k]=false) (fun s=>l.length-s) 0 ?_ ?_ ?_ ?_
 ·exact⟨Nat.zero_le _,by simp⟩
 ·rfl
 ·rfl
 rintro i ⟨hi,hR⟩
 simp only[go_sem]
 repeat refine sq ?_
 refine rx hΓ [0,1,7,8,9] [] (fun K' hK=>by simp only[go_sem,hO];(repeat (refine⟨au,?_⟩));exact hK _ (by simp only[go_sem,hO]) (by simp only[go_sem,hO]<;>rfl)) ?_
 repeat refine sq ?_
 refine aC (fun hb=>?_) fun hb=>?_
 ·have ae:i<l.length:=by simpa using hb
  have aw:(i:Int)<l.length:=by omega
  clear hb
  repeat refine sq ?_
  refine aF ?_
  repeat refine sq ?_
  refine aR ?_
  repeat refine sq ?_
  refine rx hΓ [0,1,5,7,8] [] (fun K' hK=>by simp only[go_sem,hO,ai ae,ak,an,aw];(repeat (refine⟨au,?_⟩));exact hK _ (by simp only[go_sem,hO,ai ae,ak,an,aw]) (by simp only[go_sem,hO,ai ae,ak,an,aw]<;>rfl)) ?_
  repeat refine sq ?_
  refine rx hΓ [0,1,5,7,8,16] [] (fun K' hK=>by simp only[go_sem,hO,ai ae,ak,an,aw,I0,qz];(repeat (refine⟨au,?_⟩));exact hK _ (by simp only[go_sem,hO,ai ae,ak,an,aw,I0,qz]) (by simp only[go_sem,hO,ai ae,ak,an,aw,I0,qz]<;>rfl)) ?_
  repeat refine sq ?_
  refine aC (fun hb=>?_) fun hb=>?_
  ·repeat refine sq ?_
   refine rx hΓ [4] [] (fun K' hK=>by simp only[go_sem,hO,ai ae,ak,an,aw];(repeat (refine⟨au,?_⟩));exact hK _ (by simp only[go_sem,hO,ai ae,ak,an,aw]) (by simp only[go_sem,hO,ai ae,ak,an,aw]<;>rfl)) ?_
   refine aB ?_
   simp only[go_sem,hO]
   rw[oA (p:=jl x.bk r) ae (by simpa using hb) hR];exact⟨.inr trivial,rfl⟩
  ·repeat refine sq ?_
   refine aF ?_
   refine bW ?_
   simp only[go_sem]
   refine fz [0,1,7,8] [] ?_ ?_
   ·simp only[go_sem,hO]
   simp only[go_sem,hO]
   repeat refine sq ?_
   refine aW hΓ fun K' hK=>?_
   simp only[go_sem,hO,ai ae,ak,an,aw]
   repeat (refine⟨au,?_⟩)
   refine hK _ ?_
   clear K' hK
   simp only[go_sem]
   refine⟨i+1,⟨ae,?_⟩,by(show l.length-(i+1)<l.length-i;omega),?_⟩
   ·intro k hk dE
    rcases Nat.lt_succ_iff_lt_or_eq.1 dE with h5 | rfl
    ·exact hR k hk h5
    ·simpa using hb
   refine bh [0,1,7,8] [] ?_ ?_<;>simp only[go_sem,bc ae hl,be,hO]
 ·have bE:i=l.length:=by
   have :¬ (i:Int)<l.length:=by simpa using hb
   omega
  clear hb
  subst bE
  repeat refine sq ?_
  refine bN ?_
  simp only[go_sem]
  refine fz [] [] ?_ ?_
  ·simp only[go_sem,hO]
  simp only[go_sem,hO]
  repeat refine sq ?_
  refine rx hΓ [4] [] (fun K' hK=>by simp only[go_sem,hO];(repeat (refine⟨au,?_⟩));exact hK _ (by simp only[go_sem,hO]) (by simp only[go_sem,hO]<;>rfl)) ?_
  refine aB ?_
  simp only[go_sem,hO]
  rw[tk (p:=jl x.bk r) fun k hk=>hR k hk hk];exact⟨.inr trivial,rfl⟩
def IZ:FuncId->Option Spec:=fun f=>if f=192 then some S192m else none
theorem afj:∀ f s,IZ f=some s->aT Tryz.prog f s:=fun f s h=>by
 unfold IZ at h
 split at h
 ·rename_i e;cases h;subst e;exact ZW
 ·cases h
theorem IY:IZ 192=some S192m:=rfl
theorem Z3:aT Tryz.prog 160 S160m:=by
 refine Ro.sound (w8 nE) (rs:=[.tmp 4]) Tryz.func160 Tryz.ntmps160 (by rfl) (by kernel_rfl) (by decide) ⟨_,rfl,?_⟩
 rintro⟨x,r,l⟩ hl
 replace hl:l.length<=maxLen:=hl
 refine⟨lb rfl,?_⟩
 have hΓ:=afj
 have hO:=Ro.outC (w8 nE) (x,r,l)
 have eM:di (ba ((iV nE).fam (x,r,l) (LR (iV nE).m))) (LR 5) ((iV nE).fam (x,r,l) (LR 5)):=⟨rfl,rfl,rfl,rfl,rfl,trivial⟩
 generalize ba ((iV nE).fam (x,r,l) (LR (iV nE).m))=H at *
 have qz:∀ (F:Name->Option O) (t:Name),S192m.app (fun nm=>if own [0] nm=true then F nm else H nm) t [.v (.sl (l.map vInt)),.clo (.func 163) [] [.ref [0,1] 0,.v (ot r)]]=⟨True,.v (vInt (dK (jl x.bk r) l)),fun nm=>if own [0] nm=true then F nm else H nm⟩:=fun F t=>Ro.c_app (w8 m6) (a:=(x,r,l)) hl (t:=t) (obj:=fun nm=>if own [0] nm=true then F nm else H nm) (Ls:=LR 5) rfl (S5 5) (EO eM fun y hy=>by
  obtain⟨i,_,rfl⟩:=List.mem_map.1 hy
  simp[vM])
 have ha:(iV nE).args (x,r,l) (LR (iV nE).m)=[.v (.sl (l.map vInt)),.clo (.func 163) [] [.ref [0,1] 0,.v (ot r)]]:=rfl
 have hv:(iV nE).val (x,r,l)=.v (.bool (l.any (jl x.bk r))):=rfl
 rw[ha,hv]
 simp only[dt,Nat.zero_add]
 repeat refine sq ?_
 refine rx hΓ [0,1] [] (fun K' hK=>by simp only[go_sem,hO];(repeat (refine⟨au,?_⟩));exact hK _ (by simp only[go_sem,hO]) (by simp only[go_sem,hO]<;>rfl)) ?_
 repeat refine sq ?_
 refine rx hΓ [4] [] (fun K' hK=>by simp only[go_sem,hO,IY,qz,rR];(repeat (refine⟨au,?_⟩));exact hK _ (by simp only[go_sem,hO,IY,qz,rR]) (by simp only[go_sem,hO,IY,qz,rR]<;>rfl)) ?_
 refine aB ?_
 simp only[go_sem,hO]
 first | exact .inr trivial | exact⟨.inr trivial,rfl⟩
end
theorem adq(b:Bk)(q p:Int×Int)(i:Int):bb (sA b q i) p=if q=p then some i else bb b p:=by
 induction b with
 |nil=>rfl
 |cons e r ih=>
  obtain⟨k,j⟩:=e
  simp only[sA]
  by_cases h:k=q
  ·rw[if_pos h]
   subst h
   simp only[bb]
   split<;>rfl
  ·rw[if_neg h]
   simp only[bb,ih]
   by_cases h2:k=p
   ·subst h2
    rw[if_pos rfl,if_pos rfl,if_neg (fun e=>h e.symm)]
   ·rw[if_neg h2,if_neg h2]
theorem CQ(so i:Int)(lv:List Int)(b:Bk)(s f:Int):bb (qM b so i lv) (s,f)=if s=so/\f∈lv then some i else bb b (s,f):=by
 induction lv generalizing b with
 |nil=>simp[qM]
 |cons a r ih=>
  show bb (qM (sA b (so,a) i) so i r) (s,f)=_
  rw[ih,adq]
  by_cases h1:s=so
  ·subst h1
   by_cases h2:f∈r
   ·simp[h2]
   ·by_cases h3:a=f
    ·subst h3;simp[h2]
    ·have h4:¬ f=a:=fun e=>h3 e.symm
     simp[h2,h3,h4]
  ·have h4:¬ (so,a)=(s,f):=fun e=>h1 (by cases e;rfl)
   simp[h1,h4]
theorem LK{k:Int}{rs:List Rec}{bk:Bk}{x:Ret}{r:Rec}(h:gA k rs bk x=some r):cO rs x.re=some r/\bF x.kn x.un k=true/\¬ bO x.lo (r.da+1)>x.hi/\x.lv.any (jl bk r)=false:=by
 unfold gA at h
 split at h
 ·cases h
 ·rename_i q hq
  split at h
  ·rename_i hc
   cases h
   simp only[Bool.and_eq_true,Bool.not_eq_true',Bool.or_eq_false_iff,decide_eq_false_iff_not]at hc
   exact⟨hq,hc.1,hc.2.1,hc.2.2⟩
  ·cases h
theorem Xr{k:Int}{rs:List Rec}{bk:Bk}{x:Ret}(h:cO rs x.re=none):gA k rs bk x=none:=by
 unfold gA;rw[h]
theorem Xq{k:Int}{rs:List Rec}{bk:Bk}{x:Ret}{r:Rec}(h:cO rs x.re=some r)(hc:bF x.kn x.un k=false):gA k rs bk x=none:=by
 unfold gA;rw[h];simp[hc]
theorem Xp{k:Int}{rs:List Rec}{bk:Bk}{x:Ret}{r:Rec}(h:cO rs x.re=some r)(hc:(decide (bO x.lo (r.da+1)>x.hi)||x.lv.any (jl bk r))=true):gA k rs bk x=none:=by
 unfold gA;rw[h]
 have iN:(decide (bO x.lo (r.da+1)>x.hi)||x.lv.any fun f=>(bb bk (r.so,f)).isSome||!r.lv.contains f)=true:=hc
 simp only[iN,Bool.not_true,Bool.and_false,Bool.false_eq_true,if_false]
theorem Xo{k:Int}{rs:List Rec}{bk:Bk}{x:Ret}{r:Rec}(h:cO rs x.re=some r)(h1:bF x.kn x.un k=true)(hc:(decide (bO x.lo (r.da+1)>x.hi)||x.lv.any (jl bk r))=false):gA k rs bk x=some r:=by
 unfold gA;rw[h]
 have iN:(decide (bO x.lo (r.da+1)>x.hi)||x.lv.any fun f=>(bb bk (r.so,f)).isSome||!r.lv.contains f)=false:=hc
 simp only[iN,h1,Bool.not_false,Bool.and_true,if_true]
theorem v5{l:Led}{k:Int}{i:Nat}(h:gA k (bq l k) (aE l k i).bk (aG l i)=none):aE l k (i+1)=aE l k i:=by
 show mZ l k (aE l k i) i=_
 unfold mZ
 rw[(qj l k i).2,h]
theorem A'{l:Led}{k:Int}{i:Nat}{r:Rec}(h:gA k (bq l k) (aE l k i).bk (aG l i)=some r):aE l k (i+1)=
 { aE l k i with bk:=qM (aE l k i).bk r.so i (aG l i).lv,ts:=(aE l k i).ts++[(i:Int)],ds:=oW (aE l k i).ds i (bO (aG l i).lo (r.da+1),(aG l i).hi) }:=by
 show mZ l k (aE l k i) i=_
 have h':gA k (aE l k i).rs (aE l k i).bk (aG l i)=some r:=by rw[(qj l k i).2];exact h
 unfold mZ
 rw[h']
structure aeE (l:Led) (k:Int) (i:Nat):Prop where
 bk:∀ q j,bb (aE l k i).bk q=some j->0<=j/\j<l.ts.length
 tn:(aE l k i).ts.length<=i
 ts:∀ j∈(aE l k i).ts,(0<=j/\j<l.ts.length)/\∃ r,cO (bq l k) (aG l j.toNat).re=some r
theorem Ba(l:Led)(k:Int):∀ i,i<=l.ts.length->aeE l k i
 | 0,_=>⟨fun q j (h:none=some j)=>(by cases h),Nat.le_refl 0,fun j (h:j∈([]:List Int))=>(by cases h)⟩
 |i+1,hi=>by
  have ih:=Ba l k i (by omega)
  cases hn:gA k (bq l k) (aE l k i).bk (aG l i)with
  |none=>
   have e:=v5 hn
   exact⟨by rw[e];exact ih.bk,by rw[e];exact Nat.le_succ_of_le ih.tn,by rw[e];exact ih.ts⟩
  |some r=>
   have e:=A' hn
   refine⟨?_,?_,?_⟩
   ·rintro⟨s,f⟩ j h
    rw[e]at h
    simp only[CQ]at h
    split at h
    ·cases h;omega
    ·exact ih.bk _ _ h
   ·rw[e]
    have :=ih.tn
    simp;omega
   ·intro j hj
    rw[e]at hj
    rcases List.mem_append.1 hj with hj | hj
    ·exact ih.ts j hj
    ·simp only[List.mem_singleton]at hj
     subst hj
     exact⟨by omega,r,by rw[Int.toNat_natCast];exact(LK hn).1⟩
theorem ry{rs:List Rec}{s:Int}{r:Rec}(h:cO rs s=some r):r∈rs/\r.so=s:=by
 unfold cO at h
 exact⟨List.mem_of_find?_eq_some h,by simpa using List.find?_some h⟩
theorem Eg{l:Led}(h:bw l)(k:Int):∀ r∈bq l k,dP r=true:=fun r hr=>h.recs r ((List.mem_filter.1 hr).1)
theorem KA{l:Led}(h:bw l)(k:Int):(bq l k).length<=60:=Nat.le_trans (List.length_filter_le _ _) h.rsn
theorem Kz{l:Led}(h:bw l)(k:Int):(bq l k).Nodup:=by
 refine List.Nodup.sublist List.filter_sublist ?_
 have hs:srt Rec.so l.rs:=sZ (jH.1 h.rs)
 rw[List.nodup_iff_pairwise_ne,List.pairwise_iff_getElem]
 intro i j hi hj bJ e
 have :=hs i j hi hj bJ
 rw[e]at this
 omega
theorem rK{l:Led}(h:bw l)(k:Int):o7 (aj l k)/\(aj l k).rs.Nodup:=by
 have hk:=Ba l k l.ts.length (Nat.le_refl _)
 obtain⟨e1,e2⟩:=qj l k l.ts.length
 refine⟨⟨?_,?_,?_,?_,?_,?_⟩,?_⟩
 ·show bw (aE l k l.ts.length).l;rw[e1];exact h
 ·show ∀ q i,bb (aE l k l.ts.length).bk q=some i->0<=i/\i<(aE l k l.ts.length).l.ts.length
  rw[e1];exact hk.bk
 ·show ∀ r∈(aE l k l.ts.length).rs,_;rw[e2];exact Eg h k
 ·show (aE l k l.ts.length).rs.length<=60;rw[e2];exact KA h k
 ·exact Nat.le_trans hk.tn h.tsn
 ·show ∀ i∈(aE l k l.ts.length).ts,0<=i/\i<(aE l k l.ts.length).l.ts.length
  rw[e1];exact fun i hi=>(hk.ts i hi).1
 ·show (aE l k l.ts.length).rs.Nodup;rw[e2];exact Kz h k
noncomputable section
theorem Qu{α:Type}{p:α->Bool}{l:List α}{i:Nat}(h:i<l.length):((l.take (i+1)).filter p)=(l.take i).filter p++(if p l[i]=true then[l[i]]else[]):=sM h
def xj:FuncId->Option Spec:=fun f=>if f=77 then some S77m else if f=160 then some S160m else if f=162 then some S162 else if f=164 then some S164 else none
theorem afi:∀ f s,xj f=some s->aT Tryz.prog f s:=fun f s h=>by
 unfold xj at h
 split at h
 ·rename_i e;cases h;subst e;exact ZT
 ·split at h
  ·rename_i e;cases h;subst e;exact Z3
  ·split at h
   ·rename_i e;cases h;subst e;exact N6
   ·split at h
    ·rename_i e;cases h;subst e;exact FA
    ·cases h
@[go_sem] theorem ajo:xj 77=some S77m:=rfl
@[go_sem] theorem ajr:xj 160=some S160m:=rfl
@[go_sem] theorem ajq:xj 162=some S162:=rfl
@[go_sem] theorem ajp:xj 164=some S164:=rfl
def od(l:Led)(k:Int)(s:Nat):List Rec:=(l.rs.take s).filter fun r=>bF r.kn r.un k
theorem VX(l:Led)(k:Int):od l k l.rs.length=bq l k:=by unfold od bq;rw[List.take_length]
theorem VU{l:Led}{k:Int}{i:Nat}(h:i<l.rs.length)(hc:bF l.rs[i].kn l.rs[i].un k=true):od l k (i+1)=od l k i++[l.rs[i]]:=by
 unfold od;rw[Qu h,if_pos hc]
theorem VV{l:Led}{k:Int}{i:Nat}(h:i<l.rs.length)(hc:bF l.rs[i].kn l.rs[i].un k=false):od l k (i+1)=od l k i:=by
 unfold od;rw[Qu h,if_neg (by rw[hc];decide)];simp
theorem VW(l:Led)(k:Int)(i:Nat):(od l k i).length<=l.rs.length:=Nat.le_trans (List.length_filter_le _ _) (by simp;omega)
attribute [go_sem] di
def K29b:List (Nat×Spec):=[(77,S77),(164,S164),(165,S165)]
theorem afh:KS K29b:=tc Fx<|tc FA<|tc Fy<|tn
attribute [go_sem] K29b
theorem XW(l:Led)(k i j:Int)(n:Nat)(x:Vw)(r:Rec)(lv:List Int):Dx (jo l k i j n x r lv) (kR 4 r.pa lv) where
 ren:=fun f Ls h=>by obtain⟨a,b,c,d,e,rfl⟩:=l5 h;rfl
 clo:=fun dom Ls h hd=>by
  obtain⟨a,b,c,d,e,rfl⟩:=l5 h
  have h4:=hd e (by simp)
  simp[D.closL,D.clos,h4,kR]
 reach:=fun Ls s obj R q h cz hF h0=>by
  obtain⟨a,b,c,d,e,rfl⟩:=l5 h
  obtain⟨h1,h2,h3,h4,h5,_⟩:=hF
  have en:dw (((jo l k i j n x r lv).env [a,b,c,d,e]).map (·.d))=[a,e]:=rfl
  have ec:dw (kR 4 r.pa lv [a,b,c,d,e])=[e]:=rfl
  rw[ec]
  show dW obj (q+90+1+1+1+1+1+1+1+1+1+1+1) _ []=_
  simp only[List.nodup_cons,List.mem_cons,List.not_mem_nil,or_false,not_or,not_false_eq_true,List.nodup_nil,and_true]at cz
  obtain⟨⟨r1,r2,r3,r4,r5⟩,⟨a1,a2,a3,a4⟩,⟨b1,b2,b3⟩,⟨c1,c2⟩,e1⟩:=cz
  simp[dW,ig,h0,h1,h2,h3,h4,h5,Lp.rc,mW,en,dw,mX,bG,Ne.symm r1,Ne.symm r2,Ne.symm r3,Ne.symm r4,Ne.symm r5,Ne.symm a1,Ne.symm a2,Ne.symm a3,Ne.symm a4,Ne.symm b1,Ne.symm b2,Ne.symm b3,Ne.symm c1,Ne.symm c2,Ne.symm e1]
theorem adr(b:Bk)(so i:Int){lv:List Int}{s:Nat}(h:s<lv.length):qM b so i (lv.take (s+1))=sA (qM b so i (lv.take s)) (so,lv[s]) i:=by
 unfold qM
 rw[List.take_add_one,List.getElem?_eq_getElem h,List.foldl_append]
 rfl
def Dq:NSpec:=n2 m7 iI (fun l _=>bw l) (fun l k=>[([26,0],bG (aj l k) [23,0] [24,0]),([23,0],.map 2 (cm (aj l k).bk)),([24,0],.map 0 (bU (aj l k).ds))]) (fun _ _=>.ref [26,0] 0)
def S76:Spec:=Dq.toSpec
attribute [go_sem] Dq S76
set_option maxHeartbeats 16000000 in
theorem Bg:aT Tryz.prog 76 S76:=by
 refine A1 (nt:=181) (rs:=[.tmp 4]) Tryz.func76 rfl (by rfl) (by kernel_rfl) (by kernel_rfl) (by decide) ?_
 intro xs hp
 obtain⟨l,k,rfl,hp,eJ,eI⟩:=EZ hp
 replace eJ:Dq.new _=_:=eJ
 replace eI:Dq.d _=_:=eI
 rw[eJ,eI]
 clear eJ eI
 refine⟨lb rfl,?_⟩
 have hP:=fE
 simp only[iI,iB,fc,iP,iR,iT,iS,iL,m7,dX,iC,iF,cW,encR,encT,encS,fw,jE,List.map_cons,List.map_nil,dt,Nat.zero_add]
 have hΓ:=afi
 have wz:l.rs.length<=maxLen:=by have:=hp.rsn;unfold maxLen;omega
 have jw:l.ts.length<=maxLen:=by have:=hp.tsn;unfold maxLen;omega
 repeat refine sq ?_
 refine rx hΓ [0,1] [] (fun K' hK=>by simp only[go_sem];exact aq) ?_
 repeat refine sq ?_
 refine rx hΓ [0,1,5] [[5,0],[23,0],[24,0],[26,0],[49,0],[124,0]] (fun K' hK=>by simp only[go_sem];exact aq) ?_
 refine bQ (nX [26,0] [49,0] 1 7 _ rfl rfl rfl [0,1,5] [[5,0],[23,0],[24,0],[26,0],[49,0],[124,0]] ?_ rfl) ?_
 ·simp only[go_sem,List.set_cons_succ,List.set_cons_zero]
 simp only[go_sem,List.set_cons_succ,List.set_cons_zero]
 refine bQ (nX [26,0] [124,0] 2 1 _ rfl rfl rfl [0,1,5] [[5,0],[23,0],[24,0],[26,0],[49,0],[124,0]] ?_ rfl) ?_
 ·simp only[go_sem,List.set_cons_succ,List.set_cons_zero]
 simp only[go_sem,List.set_cons_succ,List.set_cons_zero]
 repeat refine sq ?_
 refine rx hΓ [0,1,5,30,31,32] [[5,0],[23,0],[24,0],[26,0],[49,0],[124,0]] (fun K' hK=>by simp only[go_sem];exact aq) ?_
 repeat refine sq ?_
 refine aR ?_
 repeat refine sq ?_
 refine cp (fun s:Nat=>[(32,⟨true,.v (vInt s)⟩)]) (fun s=>[([26,0],.box [.v (jE l),.msl [49,0] (od l k s).length,.msl [124,0] 0,.map [23,0],.map [24,0]]),([49,0],.arr 7 ((od l k s).map encR))]) (fun s=>s<=l.rs.length) (fun s=>l.rs.length-s) 0 ?_ ?_ ?_ ?_
 ·exact Nat.zero_le _
 ·rfl
 ·rfl
 rintro i hi
 simp only[go_sem]
 repeat refine sq ?_
 refine rx hΓ [0,1,5,30,31,32,33] [[5,0],[23,0],[24,0],[26,0],[49,0],[124,0]] (fun K' hK=>by simp only[go_sem];exact aq) ?_
 repeat refine sq ?_
 refine aC (fun hb=>?_) fun hb=>?_
 ·have ae:i<l.rs.length:=by simpa using hb
  have aw:(i:Int)<l.rs.length:=by omega
  clear hb
  have m8:=VW l k i
  have oF:=hp.rsn
  repeat refine sq ?_
  refine aF ?_
  repeat refine sq ?_
  refine aR ?_
  repeat refine sq ?_
  refine rx hΓ [0,1,5,7,30,31,32] [[5,0],[7,0],[23,0],[24,0],[26,0],[49,0],[124,0]] (fun K' hK=>by simp only[go_sem,ai ae,ak,an,aw];exact aq) ?_
  repeat refine sq ?_
  refine rx hΓ [0,1,5,7,30,31,32,41] [[5,0],[7,0],[23,0],[24,0],[26,0],[49,0],[124,0]] (fun K' hK=>by simp only[go_sem,ai ae,ak,an,aw];exact aq) ?_
  repeat refine sq ?_
  refine aC (fun hb=>?_) fun hb=>?_
  ·repeat refine sq ?_
   have hT:=VU ae hb
   repeat refine sq ?_
   refine oZ hΓ hP [[],[],[1],[1,2],[1,2,3],[],[5],[1,2,3,4,5,6],u8,u9,ck] (by kernel_rfl) fun K' hK=>?_
   simp only[go_sem,ai ae,ak,an,aw]
   repeat (refine⟨au,?_⟩)
   first | refine⟨by rfl,?_⟩ | skip
   refine hK _ ?_
   clear K' hK
   simp only[go_sem]
   refine kp [0,1,5,30,31,32] [[5,0],[23,0],[24,0],[26,0],[49,0],[124,0]] ?_
   repeat refine sq ?_
   refine aW hΓ fun K' hK=>?_
   simp only[go_sem,ai ae,ak,an,aw]
   repeat (refine⟨au,?_⟩)
   refine hK _ ?_
   clear K' hK
   simp only[go_sem]
   refine⟨i+1,ae,by(show l.rs.length-(i+1)<l.rs.length-i;omega),?_⟩
   refine bh [0,1,5,30,31,32] [[5,0],[23,0],[24,0],[26,0],[49,0],[124,0]] ?_ ?_<;>simp only[go_sem,bc ae wz,be,hT,List.map_append,List.map_cons,List.map_nil,List.length_append,List.length_cons,List.length_nil]
  ·repeat refine sq ?_
   have hT:=VV ae hb
   refine aF ?_
   refine bW ?_
   simp only[go_sem]
   refine kp [0,1,5,30,31,32] [[5,0],[23,0],[24,0],[26,0],[49,0],[124,0]] ?_
   repeat refine sq ?_
   refine aW hΓ fun K' hK=>?_
   simp only[go_sem,ai ae,ak,an,aw]
   repeat (refine⟨au,?_⟩)
   refine hK _ ?_
   clear K' hK
   simp only[go_sem]
   refine⟨i+1,ae,by(show l.rs.length-(i+1)<l.rs.length-i;omega),?_⟩
   refine bh [0,1,5,30,31,32] [[5,0],[23,0],[24,0],[26,0],[49,0],[124,0]] ?_ ?_<;>simp only[go_sem,bc ae wz,be,hT,List.map_append,List.map_cons,List.map_nil,List.length_append,List.length_cons,List.length_nil]
 ·have bE:i=l.rs.length:=by
   have :¬ (i:Int)<l.rs.length:=by simpa using hb
   omega
  clear hb
  subst bE
  repeat refine sq ?_
  refine bN ?_
  simp only[go_sem]
  refine kp [0,1,5] [[5,0],[23,0],[24,0],[26,0],[49,0],[124,0]] ?_
  simp only[VX]
  repeat refine sq ?_
  refine rx hΓ [0,1,5,56,57,58] [[5,0],[23,0],[24,0],[26,0],[49,0],[124,0]] (fun K' hK=>by simp only[go_sem];exact aq) ?_
  refine bQ (pU [26,0] [49,0] 1 _ _ _ _ rfl rfl rfl (by first | rfl | (simp only[List.length_map];done)) [0,1,5,56,57,58] [[5,0],[23,0],[24,0],[26,0],[49,0],[124,0]] ?_ rfl) ?_
  ·simp only[go_sem,List.set_cons_succ,List.set_cons_zero]
  simp only[go_sem,List.set_cons_succ,List.set_cons_zero]
  repeat refine sq ?_
  refine aR ?_
  repeat refine sq ?_
  refine cp (fun s:Nat=>[(58,⟨true,.v (vInt s)⟩)]) (fun s=>[([26,0],.box [.v (jE l),.v (.sl ((bq l k).map encR)),.msl [124,0] (aE l k s).ts.length,.map [23,0],.map [24,0]]),([124,0],.arr 1 ((aE l k s).ts.map vInt)),([23,0],.map 2 (cm (aE l k s).bk)),([24,0],.map 0 (bU (aE l k s).ds))]) (fun s=>s<=l.ts.length) (fun s=>l.ts.length-s) 0 ?_ ?_ ?_ ?_
  ·exact Nat.zero_le _
  ·rfl
  ·rfl
  rintro i1 hi
  simp only[go_sem]
  repeat refine sq ?_
  refine rx hΓ [0,1,5,56,57,58,59] [[5,0],[23,0],[24,0],[26,0],[49,0],[124,0]] (fun K' hK=>by simp only[go_sem];exact aq) ?_
  repeat refine sq ?_
  refine aC (fun hb=>?_) fun hb=>?_
  ·have aS:i1<l.ts.length:=by simpa using hb
   have bC:(i1:Int)<l.ts.length:=by omega
   clear hb
   have hx:aG l i1=l.ts[i1]:=mL aS
   obtain⟨e1,e2⟩:=qj l k i1
   have hk:=Ba l k i1 (Nat.le_of_lt aS)
   have kI:=hp.rets aS
   rw[hx]at kI
   have kL:=(V3 kI).2
   have tX:l.ts[i1].lv.length<=maxLen:=by unfold maxLen;omega
   have yy:=hk.tn
   have aiU:=hp.tsn
   have qs:∀ (obj:Name->Option O) (t:Name),obj [26,0]=some (.box [.v (jE l),.v (.sl ((bq l k).map encR)),.msl [124,0] (aE l k i1).ts.length,.map [23,0],.map [24,0]])->obj [124,0]=some (.arr 1 ((aE l k i1).ts.map vInt))->obj [23,0]=some (.map 2 (cm (aE l k i1).bk))->obj [24,0]=some (.map 0 (bU (aE l k i1).ds))->
       S77m.app obj t [.ref [26,0] 0,.v (vInt l.ts[i1].re)]=⟨True,.tup [om (cO (bq l k) l.ts[i1].re),.v (.bool (cO (bq l k) l.ts[i1].re).isSome)],obj⟩:=fun obj t h1 h2 h3 h4=>by
    have :=Ro.c_app Eo (a:=(aE l k i1,l.ts[i1].re)) trivial (t:=t) (obj:=obj) (Ls:=[[26,0],[124,0],[23,0],[24,0]]) rfl (by decide) (by show di obj _ (sg (aE l k i1) _);simp only[sg,lF,e1,e2];exact⟨h1,h2,h3,h4,trivial⟩)
    refine this.trans ?_
    show (⟨True,.tup [om (cO (aE l k i1).rs l.ts[i1].re),.v (.bool (cO (aE l k i1).rs l.ts[i1].re).isSome)],obj⟩:R)=_
    rw[e2]
   have hcf:∀ (r:Rec) (obj:Name->Option O) (t:Name),obj [5,0]=some (.box [.ref [26,0] 0])->obj [26,0]=some (.box [.v (jE l),.v (.sl ((bq l k).map encR)),.msl [124,0] (aE l k i1).ts.length,.map [23,0],.map [24,0]])->obj [124,0]=some (.arr 1 ((aE l k i1).ts.map vInt))->obj [23,0]=some (.map 2 (cm (aE l k i1).bk))->obj [24,0]=some (.map 0 (bU (aE l k i1).ds))->
       S160m.app obj t [.v (.sl (l.ts[i1].lv.map vInt)),.clo (.func 163) [] [.ref [5,0] 0,.v (.ptr [vInt r.so,vInt r.bo,vInt r.pa,.sl (r.lv.map vInt),vInt r.da,vInt r.kn,vInt r.un])]]=⟨True,.v (.bool (l.ts[i1].lv.any (jl (aE l k i1).bk r))),obj⟩:=fun r obj t h0 h1 h2 h3 h4=>by
    have :=Ro.c_app (w8 nE) (a:=(aE l k i1,r,l.ts[i1].lv)) tX (t:=t) (obj:=obj) (Ls:=[[5,0],[26,0],[124,0],[23,0],[24,0]]) rfl (by decide) (by
     show di obj _ (.box [.ref [26,0] 0]::sg (aE l k i1) [[26,0],[124,0],[23,0],[24,0]])
     simp only[sg,lF,e1,e2];exact⟨h0,h1,h2,h3,h4,trivial⟩)
    exact this
   repeat refine sq ?_
   refine aF ?_
   repeat refine sq ?_
   refine aR ?_
   repeat refine sq ?_
   refine rx hΓ [0,1,5,8,9,56,57,58] [[5,0],[9,0],[23,0],[24,0],[26,0],[49,0],[124,0]] (fun K' hK=>by simp only[go_sem,ai aS,ak,an,bC];exact aq) ?_
   rcases dA:cO (bq l k) l.ts[i1].re with _ | r
   ·have r8:aE l k (i1+1)=aE l k i1:=v5 (Xr (by rw[hx];exact dA))
    repeat refine sq ?_
    refine rx hΓ [0,1,5,8,9,10,11,56,57,58] [[5,0],[9,0],[10,0],[23,0],[24,0],[26,0],[49,0],[124,0]] (fun K' hK=>by simp only[go_sem,ai aS,ak,an,bC,dA,bA,Option.isSome_none];rw[qs _ _ rfl rfl rfl rfl];simp only[go_sem,ai aS,ak,an,bC,dA,bA,Option.isSome_none];exact aq) ?_
    refine bQ (dV 10 (.ref [10,0] 0) (by simp only[go_sem]) (by simp only[go_sem]) [0,1,5,8,9,10,11,56,57,58] [[5,0],[9,0],[10,0],[23,0],[24,0],[26,0],[49,0],[124,0]] ?_ rfl) ?_
    ·simp only[go_sem]
    simp only[go_sem]
    repeat refine sq ?_
    refine rx hΓ [0,1,5,8,9,10,56,57,58,80] [[5,0],[9,0],[10,0],[23,0],[24,0],[26,0],[49,0],[124,0]] (fun K' hK=>by simp only[go_sem,ai aS,ak,an,bC,dA,bA,Option.isSome_none];exact aq) ?_
    repeat refine sq ?_
    refine aC (fun hb=>?_) fun hb=>?_
    ·repeat refine sq ?_
     refine bN ?_
     simp only[go_sem]
     refine kp [0,1,5,56,57,58] [[5,0],[23,0],[24,0],[26,0],[49,0],[124,0]] ?_
     repeat refine sq ?_
     refine aW hΓ fun K' hK=>?_
     simp only[go_sem,ai aS,ak,an,bC,dA,bA,Option.isSome_none]
     repeat (refine⟨au,?_⟩)
     refine hK _ ?_
     clear K' hK
     simp only[go_sem]
     refine⟨i1+1,aS,by(show l.ts.length-(i1+1)<l.ts.length-i1;omega),?_⟩
     refine bh [0,1,5,56,57,58] [[5,0],[23,0],[24,0],[26,0],[49,0],[124,0]] ?_ ?_<;>simp only[go_sem,bc aS jw,be,r8]
    ·cases hb
   ·obtain⟨OJ,cg⟩:=ry dA
    have tJ:=Eg hp k r OJ
    have iM:=zX (KD tJ)
    repeat refine sq ?_
    refine rx hΓ [0,1,5,8,9,10,11,56,57,58] [[5,0],[9,0],[10,0],[23,0],[24,0],[26,0],[49,0],[124,0]] (fun K' hK=>by simp only[go_sem,ai aS,ak,an,bC,dA,aJ,Option.isSome_some];rw[qs _ _ rfl rfl rfl rfl];simp only[go_sem,ai aS,ak,an,bC,dA,aJ,Option.isSome_some];exact aq) ?_
    refine bQ (dV 10 (.ref [10,0] 0) (by simp only[go_sem]) (by simp only[go_sem]) [0,1,5,8,9,10,11,56,57,58] [[5,0],[9,0],[10,0],[23,0],[24,0],[26,0],[49,0],[124,0]] ?_ rfl) ?_
    ·simp only[go_sem]
    simp only[go_sem]
    repeat refine sq ?_
    refine rx hΓ [0,1,5,8,9,10,56,57,58,80] [[5,0],[9,0],[10,0],[23,0],[24,0],[26,0],[49,0],[124,0]] (fun K' hK=>by simp only[go_sem,ai aS,ak,an,bC,dA,aJ,Option.isSome_some];exact aq) ?_
    repeat refine sq ?_
    refine aC (fun hb=>?_) fun hb=>?_
    ·repeat refine sq ?_
     have r8:aE l k (i1+1)=aE l k i1:=v5 (Xq (by rw[hx];exact dA) (by rw[hx];simpa using hb))
     refine bN ?_
     simp only[go_sem]
     refine kp [0,1,5,56,57,58] [[5,0],[23,0],[24,0],[26,0],[49,0],[124,0]] ?_
     repeat refine sq ?_
     refine aW hΓ fun K' hK=>?_
     simp only[go_sem,ai aS,ak,an,bC,dA,aJ,Option.isSome_some]
     repeat (refine⟨au,?_⟩)
     refine hK _ ?_
     clear K' hK
     simp only[go_sem]
     refine⟨i1+1,aS,by(show l.ts.length-(i1+1)<l.ts.length-i1;omega),?_⟩
     refine bh [0,1,5,56,57,58] [[5,0],[23,0],[24,0],[26,0],[49,0],[124,0]] ?_ ?_<;>simp only[go_sem,bc aS jw,be,r8]
    ·repeat refine sq ?_
     have y0:bF l.ts[i1].kn l.ts[i1].un k=true:=by simpa using hb
     refine aF ?_
     repeat refine sq ?_
     refine rx hΓ [0,1,5,8,9,10,12,56,57,58] [[5,0],[9,0],[10,0],[23,0],[24,0],[26,0],[49,0],[124,0]] (fun K' hK=>by simp only[go_sem,ai aS,ak,an,bC,dA,aJ,Option.isSome_some,iM];exact aq) ?_
     obtain⟨fs,oN⟩:∃ fs,bO l.ts[i1].lo (r.da+1)=fs:=⟨_,rfl⟩
     have PC:=oN
     unfold bO at PC
     rw[PC]
     repeat refine sq ?_
     refine rx hΓ [0,1,5,8,9,10,12,13,56,57,58] [[5,0],[9,0],[10,0],[23,0],[24,0],[26,0],[49,0],[124,0]] (fun K' hK=>by simp only[go_sem,ai aS,ak,an,bC,dA,aJ,Option.isSome_some];exact aq) ?_
     repeat refine sq ?_
     refine rx hΓ [0,1,5,8,9,10,12,56,57,58,99] [[5,0],[9,0],[10,0],[23,0],[24,0],[26,0],[49,0],[124,0]] (fun K' hK=>by simp only[go_sem,ai aS,ak,an,bC,dA,aJ,Option.isSome_some];rw[hcf r _ _ rfl rfl rfl rfl rfl];simp only[go_sem,ai aS,ak,an,bC,dA,aJ,Option.isSome_some];exact aq) ?_
     repeat refine sq ?_
     refine aC (fun hb=>?_) fun hb=>?_
     ·repeat refine sq ?_
      have r8:aE l k (i1+1)=aE l k i1:=v5 (Xp (by rw[hx];exact dA) (by rw[hx,oN];exact hb))
      refine bN ?_
      simp only[go_sem]
      refine kp [0,1,5,56,57,58] [[5,0],[23,0],[24,0],[26,0],[49,0],[124,0]] ?_
      repeat refine sq ?_
      refine aW hΓ fun K' hK=>?_
      simp only[go_sem,ai aS,ak,an,bC,dA,aJ,Option.isSome_some]
      repeat (refine⟨au,?_⟩)
      refine hK _ ?_
      clear K' hK
      simp only[go_sem]
      refine⟨i1+1,aS,by(show l.ts.length-(i1+1)<l.ts.length-i1;omega),?_⟩
      refine bh [0,1,5,56,57,58] [[5,0],[23,0],[24,0],[26,0],[49,0],[124,0]] ?_ ?_<;>simp only[go_sem,bc aS jw,be,r8]
     ·repeat refine sq ?_
      have r8:=A' (Xo (k:=k) (rs:=bq l k) (bk:=(aE l k i1).bk) (x:=aG l i1) (r:=r) (by rw[hx];exact dA) (by rw[hx];exact y0) (by rw[hx,oN];exact hb))
      rw[hx,oN]at r8
      refine aF ?_
      repeat refine sq ?_
      refine rx hΓ [0,1,5,8,9,10,12,56,57,58,101,102,103] [[5,0],[9,0],[10,0],[23,0],[24,0],[26,0],[49,0],[124,0]] (fun K' hK=>by simp only[go_sem,ai aS,ak,an,bC,dA,aJ,Option.isSome_some];exact aq) ?_
      repeat refine sq ?_
      refine aR ?_
      repeat refine sq ?_
      refine cp (fun s:Nat=>[(103,⟨true,.v (vInt s)⟩)]) (fun s=>[([23,0],.map 2 (cm (qM (aE l k i1).bk r.so i1 (l.ts[i1].lv.take s))))]) (fun s=>s<=l.ts[i1].lv.length) (fun s=>l.ts[i1].lv.length-s) 0 ?_ ?_ ?_ ?_
      ·exact Nat.zero_le _
      ·rfl
      ·rfl
      rintro i2 hi
      simp only[go_sem]
      repeat refine sq ?_
      refine rx hΓ [0,1,5,8,9,10,12,56,57,58,101,102,103,104] [[5,0],[9,0],[10,0],[23,0],[24,0],[26,0],[49,0],[124,0]] (fun K' hK=>by simp only[go_sem,ai aS,ak,an,bC,dA,aJ,Option.isSome_some];exact aq) ?_
      repeat refine sq ?_
      refine aC (fun hb=>?_) fun hb=>?_
      ·have bY:i2<l.ts[i1].lv.length:=by simpa using hb
       have fe:(i2:Int)<l.ts[i1].lv.length:=by omega
       clear hb
       have hB2:=adr (aE l k i1).bk r.so i1 bY
       repeat refine sq ?_
       refine aF ?_
       repeat refine sq ?_
       refine aR ?_
       repeat refine sq ?_
       refine rx hΓ [0,1,5,8,9,10,12,15,56,57,58,101,102,103] [[5,0],[9,0],[10,0],[23,0],[24,0],[26,0],[49,0],[124,0]] (fun K' hK=>by simp only[go_sem,ai aS,ak,an,bC,dA,aJ,Option.isSome_some,ai bY,ak,an,fe];exact aq) ?_
       repeat refine sq ?_
       refine oZ hΓ hP [[],[0],[0,1],[0,1,2],[],[4],[],[4,5,6],[],u9] (by kernel_rfl) fun K' hK=>?_
       simp only[go_sem,ai aS,ak,an,bC,dA,aJ,Option.isSome_some,ai bY,ak,an,fe,Xx]
       repeat (refine⟨au,?_⟩)
       first | refine⟨by rfl,?_⟩ | skip
       refine hK _ ?_
       clear K' hK
       simp only[go_sem]
       refine kp [0,1,5,8,9,10,12,56,57,58,101,102,103] [[5,0],[9,0],[10,0],[23,0],[24,0],[26,0],[49,0],[124,0]] ?_
       repeat refine sq ?_
       refine aW hΓ fun K' hK=>?_
       simp only[go_sem,ai aS,ak,an,bC,dA,aJ,Option.isSome_some,ai bY,ak,an,fe]
       repeat (refine⟨au,?_⟩)
       refine hK _ ?_
       clear K' hK
       simp only[go_sem]
       refine⟨i2+1,bY,by(show l.ts[i1].lv.length-(i2+1)<l.ts[i1].lv.length-i2;omega),?_⟩
       refine bh [0,1,5,8,9,10,12,56,57,58,101,102,103] [[5,0],[9,0],[10,0],[23,0],[24,0],[26,0],[49,0],[124,0]] ?_ ?_<;>simp only[go_sem,bc bY tX,be,hB2]
      ·have oM:i2=l.ts[i1].lv.length:=by
        have :¬ (i2:Int)<l.ts[i1].lv.length:=by simpa using hb
        omega
       clear hb
       subst oM
       repeat refine sq ?_
       refine bN ?_
       simp only[go_sem]
       refine kp [0,1,5,8,9,12,56,57,58] [[5,0],[9,0],[23,0],[24,0],[26,0],[49,0],[124,0]] ?_
       repeat refine sq ?_
       refine dx hΓ hP [[],[],[1],[1,2],[1,2,3],[],[5],[1,2,3,4,5,6],u8,u9,ck] [0,1,5,8,9,12,56,57,58] [[5,0],[9,0],[23,0],[24,0],[26,0],[49,0],[124,0]] (by kernel_rfl) (fun K' hK=>by simp only[go_sem,ai aS,ak,an,bC,dA,aJ,Option.isSome_some];exact gX) ?_
       repeat refine sq ?_
       refine oZ hΓ hP [[],[0],[0,1],[0,1,2],[],[],[],[6],[6,7],[5,6,7,8],ck] (by kernel_rfl) fun K' hK=>?_
       simp only[go_sem,ai aS,ak,an,bC,dA,aJ,Option.isSome_some,LO]
       repeat (refine⟨au,?_⟩)
       first | refine⟨by rfl,?_⟩ | skip
       refine hK _ ?_
       clear K' hK
       simp only[go_sem]
       refine kp [0,1,5,56,57,58] [[5,0],[23,0],[24,0],[26,0],[49,0],[124,0]] ?_
       repeat refine sq ?_
       refine aW hΓ fun K' hK=>?_
       simp only[go_sem,ai aS,ak,an,bC,dA,aJ,Option.isSome_some]
       repeat (refine⟨au,?_⟩)
       refine hK _ ?_
       clear K' hK
       simp only[go_sem]
       refine⟨i1+1,aS,by(show l.ts.length-(i1+1)<l.ts.length-i1;omega),?_⟩
       refine bh [0,1,5,56,57,58] [[5,0],[23,0],[24,0],[26,0],[49,0],[124,0]] ?_ ?_<;>simp only[go_sem,bc aS jw,be,r8,List.take_length,List.map_append,List.map_cons,List.map_nil,List.length_append,List.length_cons,List.length_nil]
  ·have jy:i1=l.ts.length:=by
    have :¬ (i1:Int)<l.ts.length:=by simpa using hb
    omega
   clear hb
   subst jy
   repeat refine sq ?_
   refine bN ?_
   simp only[go_sem]
   refine kp [0,5] [[5,0],[23,0],[24,0],[26,0],[49,0],[124,0]] ?_
   have hk:=Ba l k l.ts.length (Nat.le_refl _)
   obtain⟨e1,e2⟩:=qj l k l.ts.length
   have hΓ:=afh
   have aay:(aE l k l.ts.length).ts.length<=maxLen:=Nat.le_trans hk.tn jw
   refine bQ (pU [26,0] [124,0] 2 _ _ _ _ rfl rfl rfl (by first | rfl | (simp only[List.length_map];done)) [0,5] [[5,0],[23,0],[24,0],[26,0],[49,0],[124,0]] ?_ rfl) ?_
   ·simp only[go_sem,List.set_cons_succ,List.set_cons_zero]
   simp only[go_sem,List.set_cons_succ,List.set_cons_zero]
   repeat refine sq ?_
   refine rx hΓ [0,5,141,142,143] [[5,0],[23,0],[24,0],[26,0],[49,0],[124,0]] (fun K' hK=>by simp only[go_sem];exact aq) ?_
   repeat refine sq ?_
   refine aR ?_
   repeat refine sq ?_
   refine cp (fun s:Nat=>[(143,⟨true,.v (vInt s)⟩)]) (fun s=>[([24,0],.map 0 (bU (gP l (bq l k) (aE l k l.ts.length).ts (aE l k l.ts.length).ds s)))]) (fun s=>s<=(aE l k l.ts.length).ts.length) (fun s=>(aE l k l.ts.length).ts.length-s) 0 ?_ ?_ ?_ ?_
   ·exact Nat.zero_le _
   ·rfl
   ·rfl
   rintro i3 hi
   simp only[go_sem]
   repeat refine sq ?_
   refine rx hΓ [0,5,141,142,143,144] [[5,0],[23,0],[24,0],[26,0],[49,0],[124,0]] (fun K' hK=>by simp only[go_sem];exact aq) ?_
   repeat refine sq ?_
   refine aC (fun hb=>?_) fun hb=>?_
   ·have kM:i3<(aE l k l.ts.length).ts.length:=by simpa using hb
    have BQ:(i3:Int)<(aE l k l.ts.length).ts.length:=by omega
    clear hb
    obtain⟨⟨cK,iu⟩,r,oE⟩:=hk.ts (aE l k l.ts.length).ts[i3] (List.getElem_mem kM)
    have lk:=DG cK iu
    have hD:gP l (bq l k) (aE l k l.ts.length).ts (aE l k l.ts.length).ds (i3+1)=kD (gP l (bq l k) (aE l k l.ts.length).ts (aE l k l.ts.length).ds i3) (aE l k l.ts.length).ts[i3] r.da (dU (bq l k) r.pa (aG l (aE l k l.ts.length).ts[i3].toNat).lv):=by
     show kD _ ((aE l k l.ts.length).ts.getD i3 0) (mS (bq l k) (aG l ((aE l k l.ts.length).ts.getD i3 0).toNat).re).da (dU _ (mS (bq l k) (aG l ((aE l k l.ts.length).ts.getD i3 0).toNat).re).pa _)=_
     rw[cj kM];unfold mS;rw[oE];rfl
    repeat refine sq ?_
    refine aF ?_
    repeat refine sq ?_
    refine aR ?_
    repeat refine sq ?_
    refine rx hΓ [0,5,17,141,142,143] [[5,0],[17,0],[23,0],[24,0],[26,0],[49,0],[124,0]] (fun K' hK=>by simp only[go_sem,ai kM,ak,an,BQ];exact aq) ?_
    refine bQ (dV 17 (.ref [17,0] 0) (by simp only[go_sem]) (by simp only[go_sem]) [0,5,17,141,142,143] [[5,0],[17,0],[23,0],[24,0],[26,0],[49,0],[124,0]] ?_ rfl) ?_
    ·simp only[go_sem]
    simp only[go_sem]
    repeat refine sq ?_
    refine dx hΓ hP [[],[0],[0,1],[0,1,2],[],u5,u6,[],u8] [0,5,17,18,141,142,143] [[5,0],[17,0],[18,0],[23,0],[24,0],[26,0],[49,0],[124,0]] (by kernel_rfl) (fun K' hK=>by simp only[go_sem,ai kM,ak,an,BQ,lk,cK,iu];exact gX) ?_
    refine bQ (dV 18 (.ref [18,0] 0) (by simp only[go_sem]) (by simp only[go_sem]) [0,5,17,18,141,142,143] [[5,0],[17,0],[18,0],[23,0],[24,0],[26,0],[49,0],[124,0]] ?_ rfl) ?_
    ·simp only[go_sem]
    simp only[go_sem]
    repeat refine sq ?_
    refine rx hΓ [0,5,17,18,19,141,142,143] [[5,0],[17,0],[18,0],[19,0],[23,0],[24,0],[26,0],[49,0],[124,0]] (fun K' hK=>by simp only[go_sem,ai kM,ak,an,BQ,oE,aJ,Option.isSome_some];exact aq) ?_
    refine bQ (dV 19 (.ref [19,0] 0) (by simp only[go_sem]) (by simp only[go_sem]) [0,5,17,18,19,141,142,143] [[5,0],[17,0],[18,0],[19,0],[23,0],[24,0],[26,0],[49,0],[124,0]] ?_ rfl) ?_
    ·simp only[go_sem]
    simp only[go_sem]
    repeat refine sq ?_
    refine rx hΓ [0,5,17,19,141,142,143,166] [[5,0],[17,0],[19,0],[23,0],[24,0],[26,0],[49,0],[124,0],[3,0,166,0]] (fun K' hK=>by simp only[go_sem,ai kM,ak,an,BQ];exact aq) ?_
    repeat refine sq ?_
    refine aR ?_
    repeat refine sq ?_
    have cz:=Kz hp k
    have aa:=Mb l k (aE l k l.ts.length).ts[i3] (i3:Nat) (aE l k l.ts.length).ts.length ⟨l,bq l k,(aE l k l.ts.length).ts,(aE l k l.ts.length).bk,gP l (bq l k) (aE l k l.ts.length).ts (aE l k l.ts.length).ds i3⟩ r (aG l (aE l k l.ts.length).ts[i3].toNat).lv cz
    have iw:aT Tryz.prog 193 ((jo l k (aE l k l.ts.length).ts[i3] (i3:Nat) (aE l k l.ts.length).ts.length ⟨l,bq l k,(aE l k l.ts.length).ts,(aE l k l.ts.length).bk,gP l (bq l k) (aE l k l.ts.length).ts (aE l k l.ts.length).ds i3⟩ r (aG l (aE l k l.ts.length).ts[i3].toNat).lv).itC (kR 4 r.pa (aG l (aE l k l.ts.length).ts[i3].toNat).lv)).toSpec:=J7 aa (fun _=>rfl) (XV l k (aE l k l.ts.length).ts[i3] (i3:Nat) (aE l k l.ts.length).ts.length ⟨l,bq l k,(aE l k l.ts.length).ts,(aE l k l.ts.length).bk,gP l (bq l k) (aE l k l.ts.length).ts (aE l k l.ts.length).ds i3⟩ r (aG l (aE l k l.ts.length).ts[i3].toNat).lv cz) (Eg hp k) (KA hp k) rfl (fun _=>rfl) (j:=4) (jc:=1) (show 4<5 by decide) rfl rfl
    refine Rz aa (XW l k (aE l k l.ts.length).ts[i3] (i3:Nat) (aE l k l.ts.length).ts.length ⟨l,bq l k,(aE l k l.ts.length).ts,(aE l k l.ts.length).bk,gP l (bq l k) (aE l k l.ts.length).ts (aE l k l.ts.length).ds i3⟩ r (aG l (aE l k l.ts.length).ts[i3].toNat).lv) (f:=193) 200 201 (Ls:=[[5,0],[26,0],[23,0],[24,0],[3,0,166,0]]) rfl rfl (by decide) iw rfl rfl rfl rfl rfl rfl (by decide) (show ([200,0]:Name)∉[[5,0],[26,0],[23,0],[24,0],[3,0,166,0]]by decide) ⟨rfl,rfl,rfl,rfl,rfl,trivial⟩ fun o=>?_
    obtain⟨g1,g2⟩:=Lp.go_e (r:=(jo l k (aE l k l.ts.length).ts[i3] (i3:Nat) (aE l k l.ts.length).ts.length ⟨l,bq l k,(aE l k l.ts.length).ts,(aE l k l.ts.length).bk,gP l (bq l k) (aE l k l.ts.length).ts (aE l k l.ts.length).ds i3⟩ r (aG l (aE l k l.ts.length).ts[i3].toNat).lv)) (fun _=>rfl)
    have g3:(jo l k (aE l k l.ts.length).ts[i3] (i3:Nat) (aE l k l.ts.length).ts.length ⟨l,bq l k,(aE l k l.ts.length).ts,(aE l k l.ts.length).bk,gP l (bq l k) (aE l k l.ts.length).ts (aE l k l.ts.length).ds i3⟩ r (aG l (aE l k l.ts.length).ts[i3].toNat).lv).fam [[5,0],[26,0],[23,0],[24,0],[3,0,166,0]] (jo l k (aE l k l.ts.length).ts[i3] (i3:Nat) (aE l k l.ts.length).ts.length ⟨l,bq l k,(aE l k l.ts.length).ts,(aE l k l.ts.length).bk,gP l (bq l k) (aE l k l.ts.length).ts (aE l k l.ts.length).ds i3⟩ r (aG l (aE l k l.ts.length).ts[i3].toNat).lv).e=[.box [.ref [26,0] 0],bG ⟨l,bq l k,(aE l k l.ts.length).ts,(aE l k l.ts.length).bk,gP l (bq l k) (aE l k l.ts.length).ts (aE l k l.ts.length).ds i3⟩ [23,0] [24,0],.map 2 (cm (aE l k l.ts.length).bk),.map 0 (bU (gP l (bq l k) (aE l k l.ts.length).ts (aE l k l.ts.length).ds (i3+1))),.box [.ref [26,0] 0]]:=by
     rw[g1,hD,<-List.take_length (l:=dU (bq l k) r.pa (aG l (aE l k l.ts.length).ts[i3].toNat).lv)]
     rfl
    rw[g2,g3]
    simp only[AN,kr]
    refine bW ?_
    show CL Tryz.prog (_::_) _ _
    refine fz [0,5,141,142,143] [[5,0],[23,0],[24,0],[26,0],[49,0],[124,0]] ?_ ?_
    ·simp only[go_sem,eP]
    simp only[go_sem,eP]
    repeat refine sq ?_
    refine aW hΓ fun K' hK=>?_
    simp only[go_sem]
    repeat (refine⟨au,?_⟩)
    refine hK _ ?_
    clear K' hK
    simp only[go_sem]
    refine⟨i3+1,kM,by(show (aE l k l.ts.length).ts.length-(i3+1)<(aE l k l.ts.length).ts.length-i3;omega),?_⟩
    refine bh [0,5,141,142,143] [[5,0],[23,0],[24,0],[26,0],[49,0],[124,0]] ?_ ?_<;>simp only[go_sem,bc kM aay,be]
   ·have GI:i3=(aE l k l.ts.length).ts.length:=by
     have :¬ (i3:Int)<(aE l k l.ts.length).ts.length:=by simpa using hb
     omega
    clear hb
    subst GI
    repeat refine sq ?_
    refine bN ?_
    simp only[go_sem]
    refine kp [5] [[5,0],[23,0],[24,0],[26,0],[49,0],[124,0]] ?_
    repeat refine sq ?_
    refine rx hΓ [4] [[23,0],[24,0],[26,0],[49,0],[124,0]] (fun K' hK=>by simp only[go_sem];exact aq) ?_
    refine aB ?_
    simp only[go_sem]
    rw[show (aj l k).l=l from e1,show (aj l k).rs=bq l k from e2];first | exact⟨rfl,rfl,rfl⟩ | exact⟨rfl,rfl,rfl,trivial⟩ | exact⟨⟨rfl,rfl,rfl⟩,rfl⟩ | trace_state
end
set_option maxHeartbeats 8000000
noncomputable section
def cB(l:Led)(ds:List Int):Int:=if mD l=0 then gY (!ds.any fun d=>!dayB d) 6 else mD l
theorem Wz:pG (161,[])=fun n=>!dayB n:=rfl
theorem WW:AX (161,[]):=.inl rfl
def K30a:List (Nat×Spec):=[(37,IH),(160,S160)]
theorem aff:KS K30a:=tc J6.sound<|tc N7<|tn
attribute [go_sem] K30a
@[go_sem] def P75:PSpec:=p2 iL fc (fun _ _=>True) (fun l ds=>vInt (cB l ds)) true
@[go_sem] def o8:Spec:=P75.toSpec
theorem xH:aZ Tryz.prog 75 P75:=by
 refine dG (rs:=[.tmp 4]) Tryz.func75 Tryz.ntmps75 fun l ds hp hw=>?_
 simp only[fc,iL,fw]at hw |-
 have hΓ:=aff
 repeat refine sq ?_
 refine rx hΓ [1,2] [[2,0]] (fun K' hK=>by simp only[go_sem];exact aq) ?_
 refine bQ (dV 2 (.ref [2,0] 0) (by simp only[go_sem]) (by simp only[go_sem]) [1,2] [[2,0]] ?_ rfl) ?_
 ·simp only[go_sem]
 simp only[go_sem]
 repeat refine sq ?_
 refine rx hΓ [1,5] [] (fun K' hK=>by simp only[go_sem];exact aq) ?_
 repeat refine sq ?_
 refine rx hΓ [1,5,9] [] (fun K' hK=>by simp only[go_sem];exact aq) ?_
 repeat refine sq ?_
 refine aC (fun hb=>?_) fun hb=>?_
 ·repeat refine sq ?_
  have hc:¬ mD l=0:=by simpa using hb
  unfold cB;rw[if_neg hc]
  repeat refine sq ?_
  refine rx hΓ [4] [] (fun K' hK=>by simp only[go_sem];exact aq) ?_
  refine aB ?_
  simp only[go_sem]
  all_goals exact el
 ·repeat refine sq ?_
  have hc:mD l=0:=by simpa using hb
  unfold cB;rw[if_pos hc]
  refine aF ?_
  repeat refine sq ?_
  refine rx hΓ [12] [] (fun K' hK=>by simp only[go_sem,WW,Wz];exact aq) ?_
  repeat refine sq ?_
  refine aC (fun hb=>?_) fun hb=>?_
  ·repeat refine sq ?_
   rw[show (ds.any fun d=>!dayB d)=true from hb]
   repeat refine sq ?_
   refine rx hΓ [4] [] (fun K' hK=>by simp only[go_sem];exact aq) ?_
   refine aB ?_
   simp only[go_sem]
   all_goals exact el
  ·repeat refine sq ?_
   rw[show (ds.any fun d=>!dayB d)=false from hb]
   refine aF ?_
   repeat refine sq ?_
   refine rx hΓ [4] [] (fun K' hK=>by simp only[go_sem];exact aq) ?_
   refine aB ?_
   simp only[go_sem]
   all_goals exact el
def afe:List (Nat×Spec):=[(76,S76),(128,S128)]
attribute [go_sem] afe
def vp(x:Vw)(t:Name):List (Name×O):=[(26::0::t,bG x (23::0::t) (24::0::t)),(23::0::t,.map 2 (cm x.bk)),(24::0::t,.map 0 (bU x.ds))]
def IE:Option (Int×Int)->Vw->List (Name×O)
 |none,x=>vp x [11,0]
 |some _,_=>[]
def ID:Option (Int×Int)->D
 |none=>.tup [.ref [26,0,11,0] 0,.v (vInt 0)]
 |some _=>.tup [.v .nilp,.v (vInt 25)]
attribute [go_sem] vp
theorem qS(x:Vw):IE none x=vp x [11,0]:=rfl
theorem uW(p:Int×Int)(x:Vw):IE (some p) x=[]:=rfl
theorem qR:ID none=.tup [.ref [26,0,11,0] 0,.v (vInt 0)]:=rfl
theorem uV(p:Int×Int):ID (some p)=.tup [.v .nilp,.v (vInt 25)]:=rfl
theorem Ek(p:Int×Int):AH (some p)=.tup [.v (.sl [vInt p.1,vInt p.2]),.v (.bool true)]:=rfl
theorem El:AH none=.tup [.nilsl,.v (.bool false)]:=rfl
def K30c:List (Nat×Spec):=[(76,S76),(120,S120)]
theorem afd:KS K30c:=tc Bg<|tc Oc<|tn
attribute [go_sem] K30c
def Dr:NSpec:=n2 m7 iI (fun l _=>bw l) (fun l k=>IE (ew (aj l k)) (aj l k)) (fun l k=>ID (ew (aj l k)))
def S121:Spec:=Dr.toSpec
attribute [go_sem] Dr S121
theorem Ob:aT Tryz.prog 121 S121:=by
 refine A1 (nt:=19) (rs:=[.tmp 4,.tmp 5]) Tryz.func121 rfl (by rfl) (by kernel_rfl) (by kernel_rfl) (by decide) ?_
 intro xs hp
 obtain⟨l,k,rfl,hp,eJ,eI⟩:=EZ hp
 replace eJ:Dr.new _=_:=eJ
 replace eI:Dr.d _=_:=eI
 rw[eJ,eI]
 clear eJ eI
 refine⟨lb rfl,?_⟩
 simp only[iI,iB,fc,iP,iR,iT,iS,iL,m7,dX,iC,iF,cW,encR,encT,encS,fw,jE,List.map_cons,List.map_nil,dt,Nat.zero_add]
 have hΓ:=afd
 repeat refine sq ?_
 refine rx hΓ [0,1] [] (fun K' hK=>by simp only[go_sem];exact aq) ?_
 repeat refine sq ?_
 refine rx hΓ [6] [[26,0,11,0],[23,0,11,0],[24,0,11,0]] (fun K' hK=>by simp only[go_sem];exact aq) ?_
 rcases gp:ew (aj l k)with _ | p
 ·repeat refine sq ?_
  refine rx hΓ [6,8] [[26,0,11,0],[23,0,11,0],[24,0,11,0]] (fun K' hK=>by simp only[go_sem,gp,El];(repeat (refine⟨by first | exact au | exact(rK hp k).1,?_⟩));exact iz) ?_
  repeat refine sq ?_
  refine rx hΓ [6,17] [[26,0,11,0],[23,0,11,0],[24,0,11,0]] (fun K' hK=>by simp only[go_sem,gp,El];exact aq) ?_
  repeat refine sq ?_
  refine aC (fun hb=>?_) fun hb=>?_
  ·cases hb
  ·repeat refine sq ?_
   refine aF ?_
   repeat refine sq ?_
   refine rx hΓ [4,5] [[26,0,11,0],[23,0,11,0],[24,0,11,0]] (fun K' hK=>by simp only[go_sem,gp,El];exact aq) ?_
   refine aB ?_
   simp only[go_sem,qS,qR,uW,uV]
   all_goals first | done | rfl | trace_state
 ·repeat refine sq ?_
  refine rx hΓ [6,8] [[26,0,11,0],[23,0,11,0],[24,0,11,0]] (fun K' hK=>by simp only[go_sem,gp,Ek];(repeat (refine⟨by first | exact au | exact(rK hp k).1,?_⟩));exact iz) ?_
  repeat refine sq ?_
  refine rx hΓ [6,17] [[26,0,11,0],[23,0,11,0],[24,0,11,0]] (fun K' hK=>by simp only[go_sem,gp,Ek];exact aq) ?_
  repeat refine sq ?_
  refine aC (fun hb=>?_) fun hb=>?_
  ·repeat refine sq ?_
   refine rx hΓ [4,5] [[26,0,11,0],[23,0,11,0],[24,0,11,0]] (fun K' hK=>by simp only[go_sem,gp,Ek];exact aq) ?_
   refine aB ?_
   simp only[go_sem,qS,qR,uW,uV]
   all_goals first | done | rfl | trace_state
  ·cases hb
theorem JQ{l:Led}(h:bw l)(k:Int):(du l k).length<=60/\∀ s∈du l k,DT s:=by
 refine⟨Nat.le_trans (List.length_filter_le _ _) h.ssn,fun s hs=>?_⟩
 obtain⟨j,hj,rfl⟩:=List.getElem_of_mem (List.mem_filter.1 hs).1
 have :=lN h.ss hj
 unfold iE at this
 simp only[Bool.and_eq_true]at this
 have hd:=this.1.2
 unfold dayB bL at hd
 simp at hd
 exact hd
def aN(x:Vw)(k:Int):Vw:={ x with ds:=cl x x.ds (du x.l k) }
def vA:Option (Int×Int)->Bool->Vw->Int->List (Name×O)
 |none,true,x,k=>vp (aN x k) [11,0,11,0]
 |_,_,_,_=>[]
def TZ:Option (Int×Int)->Bool->Int
 |some _,_=>25
 |none,false=>27
 |none,true=>0
def vx:Option (Int×Int)->Bool->D
 |some _,_=>.tup [.v .nilp,.v (vInt 25)]
 |none,false=>.tup [.v .nilp,.v (vInt 27)]
 |none,true=>.tup [.ref [26,0,11,0,11,0] 0,.v (vInt 0)]
theorem vy(x:Vw)(k:Int):vA none true x k=vp (aN x k) [11,0,11,0]:=rfl
theorem vz(x:Vw)(k:Int):vA none false x k=[]:=rfl
theorem DQ(p:Int×Int)(b:Bool)(x:Vw)(k:Int):vA (some p) b x k=[]:=by cases b<;>rfl
theorem vv:vx none true=.tup [.ref [26,0,11,0,11,0] 0,.v (vInt 0)]:=rfl
theorem vw:vx none false=.tup [.v .nilp,.v (vInt 27)]:=rfl
theorem DP(p:Int×Int)(b:Bool):vx (some p) b=.tup [.v .nilp,.v (vInt 25)]:=by cases b<;>rfl
def K30d:List (Nat×Spec):=[(121,S121),(122,S122),(128,S128)]
theorem afc:KS K30d:=tc Ob<|tc Oa<|tc N'<|tn
attribute [go_sem] K30d
def Dp:NSpec:=n2 m7 iI (fun l _=>bw l) (fun l k=>vA (ew (aj l k)) (fI (aj l k) (du (aj l k).l k)) (aj l k) k) (fun l k=>vx (ew (aj l k)) (fI (aj l k) (du (aj l k).l k)))
def S78:Spec:=Dp.toSpec
attribute [go_sem] Dp S78
theorem Bf:aT Tryz.prog 78 S78:=by
 refine A1 (nt:=24) (rs:=[.tmp 4,.tmp 5]) Tryz.func78 rfl (by rfl) (by kernel_rfl) (by kernel_rfl) (by decide) ?_
 intro xs hp
 obtain⟨l,k,rfl,hp,eJ,eI⟩:=EZ hp
 replace eJ:Dp.new _=_:=eJ
 replace eI:Dp.d _=_:=eI
 rw[eJ,eI]
 clear eJ eI
 refine⟨lb rfl,?_⟩
 simp only[iI,iB,fc,iP,iR,iT,iS,iL,m7,dX,iC,iF,cW,encR,encT,encS,fw,jE,List.map_cons,List.map_nil,dt,Nat.zero_add]
 have hΓ:=afc
 obtain⟨hv,cz⟩:=rK hp k
 obtain⟨ln,oD⟩:=JQ hv.ok k
 repeat refine sq ?_
 refine rx hΓ [0,1] [] (fun K' hK=>by simp only[go_sem];exact aq) ?_
 rcases gp:ew (aj l k)with _ | p
 ·repeat refine sq ?_
  refine rx hΓ [1,6,7] [[26,0,11,0,11,0],[23,0,11,0,11,0],[24,0,11,0,11,0]] (fun K' hK=>by simp only[go_sem,gp,qS,qR];exact aq) ?_
  repeat refine sq ?_
  refine rx hΓ [1,6,7,15] [[26,0,11,0,11,0],[23,0,11,0,11,0],[24,0,11,0,11,0]] (fun K' hK=>by simp only[go_sem,gp,qS,qR];exact aq) ?_
  repeat refine sq ?_
  refine aC (fun hb=>?_) fun hb=>?_
  ·cases hb
  ·repeat refine sq ?_
   refine aF ?_
   repeat refine sq ?_
   refine rx hΓ [6,22] [[26,0,11,0,11,0],[23,0,11,0,11,0],[24,0,11,0,11,0]] (fun K' hK=>by simp only[go_sem,gp,qS,qR];(repeat (refine⟨by first | exact au | exact hv.ok.ssn | exact⟨⟨⟨hv,cz⟩,ln⟩,oD⟩,?_⟩));exact iz) ?_
   repeat refine sq ?_
   refine aC (fun hb=>?_) fun hb=>?_
   ·repeat refine sq ?_
    have hf:fI (aj l k) (du (aj l k).l k)=false:=by simpa using hb
    repeat refine sq ?_
    refine rx hΓ [4,5] [[26,0,11,0,11,0],[23,0,11,0,11,0],[24,0,11,0,11,0]] (fun K' hK=>by simp only[go_sem,gp,qS,qR];exact aq) ?_
    refine aB ?_
    simp only[go_sem,vy,vz,DQ,vv,vw,DP]
    all_goals first | done | rfl | (rw[hf];simp only[go_sem,vy,vz,vv,vw,aN];done) | trace_state
   ·repeat refine sq ?_
    have hf:fI (aj l k) (du (aj l k).l k)=true:=by simpa using hb
    refine aF ?_
    repeat refine sq ?_
    refine rx hΓ [4,5] [[26,0,11,0,11,0],[23,0,11,0,11,0],[24,0,11,0,11,0]] (fun K' hK=>by simp only[go_sem,gp,qS,qR];exact aq) ?_
    refine aB ?_
    simp only[go_sem,vy,vz,DQ,vv,vw,DP]
    all_goals first | done | rfl | (rw[hf];simp only[go_sem,vy,vz,vv,vw,aN];done) | trace_state
 ·repeat refine sq ?_
  refine rx hΓ [1,6,7] [[26,0,11,0,11,0],[23,0,11,0,11,0],[24,0,11,0,11,0]] (fun K' hK=>by simp only[go_sem,gp,uW,uV];exact aq) ?_
  repeat refine sq ?_
  refine rx hΓ [1,6,7,15] [[26,0,11,0,11,0],[23,0,11,0,11,0],[24,0,11,0,11,0]] (fun K' hK=>by simp only[go_sem,gp,uW,uV];exact aq) ?_
  repeat refine sq ?_
  refine aC (fun hb=>?_) fun hb=>?_
  ·repeat refine sq ?_
   refine rx hΓ [4,5] [[26,0,11,0,11,0],[23,0,11,0,11,0],[24,0,11,0,11,0]] (fun K' hK=>by simp only[go_sem,gp,uW,uV];exact aq) ?_
   refine aB ?_
   simp only[go_sem,vy,vz,DQ,vv,vw,DP]
   all_goals first | done | rfl | (rw[hf];simp only[go_sem,vy,vz,vv,vw,aN];done) | trace_state
  ·cases hb
end
noncomputable section
theorem jW(l:Led)(k:Int):(aj l k).l=l:=(qj l k l.ts.length).1
theorem pH{l:Led}{ds:List Int}(h:cB l ds=0):bw l/\∀ d∈ds,dayB d=true:=by
 unfold cB at h
 split at h
 ·rename_i hc
  refine⟨?_,?_⟩
  ·refine Classical.byContradiction fun hn=>?_
   rw[zz hn]at hc;cases hc
  ·unfold gY at h
   split at h
   ·rename_i hd
    intro d hdm
    have :(ds.any fun d=>!dayB d)=false:=by simpa using hd
    rw[List.any_eq_false]at this
    have :=this d hdm
    simpa using this
   ·cases h
 ·rename_i hc;exact(hc h).elim
def eZ(l:Led)(i:Int):Int:=(aG l i.toNat).so
def fk(l:Led)(k:Int):Bool:=(ew (aj l k)).isNone&&fI (aj l k) (du (aj l k).l k)
def xA(l:Led)(k:Int):V:=if cB l [k]=0 then .tup [.bool (fk l k),vInt 0]else .tup [.bool false,vInt (cB l [k])]
def K31:List (Nat×Spec):=[(75,o8),(76,S76),(120,S120),(121,S121),(122,S122),(128,S128),(77,S77),(129,S129)]
theorem afb:KS K31:=tc xH.sound<|tc Bg<|tc Oc<|tc Ob<|tc Oa<|tc N'<|tc Fx<|tc N9<|tn
attribute [go_sem] K31
@[go_sem] def P49:PSpec:=p2 iL iI (fun _ _=>True) (fun l k=>xA l k) false
@[go_sem] def SL:Spec:=P49.toSpec
set_option maxHeartbeats 4000000 in
theorem UZ:aZ Tryz.prog 49 P49:=by
 refine dG (rs:=[.tmp 4,.tmp 5]) Tryz.func49 Tryz.ntmps49 fun l k hp hw=>?_
 simp only[iI,iL,fw]at hw |-
 have hΓ:=afb
 repeat refine sq ?_
 refine rx hΓ [1,2] [[2,0]] (fun K' hK=>by simp only[go_sem];exact aq) ?_
 refine bQ (dV 2 (.ref [2,0] 0) (by simp only[go_sem]) (by simp only[go_sem]) [1,2] [[2,0]] ?_ rfl) ?_
 ·simp only[go_sem]
 simp only[go_sem]
 repeat refine sq ?_
 refine rx hΓ [1,2,6] [[2,0]] (fun K' hK=>by simp only[go_sem];exact aq) ?_
 repeat refine sq ?_
 refine rx hΓ [1,2,6,14] [[2,0]] (fun K' hK=>by simp only[go_sem];exact aq) ?_
 repeat refine sq ?_
 refine aC (fun hb=>?_) fun hb=>?_
 ·repeat refine sq ?_
  have hc:¬ cB l [k]=0:=by simpa using hb
  unfold xA;rw[if_neg hc]
  repeat refine sq ?_
  refine rx hΓ [4,5] [] (fun K' hK=>by simp only[go_sem];exact aq) ?_
  refine aB ?_
  simp only[go_sem]
  all_goals first | done | (unfold fk;rw[gp];rfl) | trace_state
 ·repeat refine sq ?_
  have hc:cB l [k]=0:=by simpa using hb
  unfold xA;rw[if_pos hc]
  obtain⟨aa,_⟩:=pH hc
  obtain⟨hv,cz⟩:=rK aa k
  obtain⟨ln,oD⟩:=JQ hv.ok k
  refine aF ?_
  rcases gp:ew (aj l k)with _ | p
  ·repeat refine sq ?_
   refine rx hΓ [1,7,8] [[26,0,11,0,18,0],[23,0,11,0,18,0],[24,0,11,0,18,0]] (fun K' hK=>by simp only[go_sem,gp,qS,qR];exact aq) ?_
   repeat refine sq ?_
   refine rx hΓ [4,5] [] (fun K' hK=>by simp only[go_sem,gp,qS,qR];(repeat (refine⟨by first | exact au | exact hv.ok.ssn | exact⟨⟨⟨hv,cz⟩,ln⟩,oD⟩ | exact fun _=>hv.ok.ssn | exact fun _=>⟨⟨⟨hv,cz⟩,ln⟩,oD⟩,?_⟩));exact iz) ?_
   refine aB ?_
   simp only[go_sem]
   all_goals first | done | (unfold fk;rw[gp];rfl) | trace_state
  ·have Qg:((25:Int)==0)=false:=rfl
   repeat refine sq ?_
   refine rx hΓ [1,7,8] [[26,0,11,0,18,0],[23,0,11,0,18,0],[24,0,11,0,18,0]] (fun K' hK=>by simp only[go_sem,gp,uW,uV,Qg];exact aq) ?_
   repeat refine sq ?_
   refine rx hΓ [4,5] [] (fun K' hK=>by simp only[go_sem,gp,uW,uV,Qg];(repeat (refine⟨by first | exact au | exact hv.ok.ssn | exact⟨⟨⟨hv,cz⟩,ln⟩,oD⟩ | exact fun _=>hv.ok.ssn | exact fun _=>⟨⟨⟨hv,cz⟩,ln⟩,oD⟩,?_⟩));exact iz) ?_
   refine aB ?_
   simp only[go_sem]
   all_goals first | done | (unfold fk;rw[gp];rfl) | trace_state
end
end Go.Eng
