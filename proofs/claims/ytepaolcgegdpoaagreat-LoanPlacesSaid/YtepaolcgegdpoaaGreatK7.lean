import Derived.Test.YtepaolcgegdpoaaGreatK6
/- Texts LW23 to EngRo. -/
set_option linter.all false
namespace Go.Eng
open Go Go.Proofs
set_option maxRecDepth 10000
noncomputable section
theorem yt{α:Type}{p:α->Bool}{l:List α}{s:Nat}(h:s<l.length):((l.take (s+1)).filter p)=(l.take s).filter p++(if p l[s]=true then[l[s]]else[]):=by
 rw[List.take_add_one,List.getElem?_eq_getElem h,List.filter_append]
 simp only[Option.toList_some,List.filter_cons,List.filter_nil]
theorem ZA{α:Type}{p:α->Bool}{l:List α}{s:Nat}{z:α}(h:s<l.length)(hp:p l[s]=true):((l.take s).filter p).length<(l.filter p).length/\(l.filter p).getD ((l.take s).filter p).length z=l[s]:=by
 have e:l.filter p=(l.take s).filter p++(l[s]::(l.drop (s+1)).filter p):=by
  conv=>lhs;rw[<-List.take_append_drop s l,List.filter_append,List.drop_eq_getElem_cons h,List.filter_cons,if_pos hp]
 refine⟨?_,?_⟩
 ·rw[e,List.length_append,List.length_cons];omega
 ·rw[e];simp[List.getD]
def kC(j:Nat)(pa:Int)(lv:List Int)(Ls:List Name):List D:=[.ref (Ls.getD j []) 0,.v (.ptr [vInt pa]),.v (.ptr [.sl (lv.map vInt)])]
theorem Hs{r:Lp}(hr:r.Ok)(cL:∀ j,r.st j=none)(hy:aM Tryz.prog yid r.y.toSpec){x:Vw}{nb nd:Name}{pa:Int}{lv:List Int}{j jc:Nat}(hv:∀ q∈x.rs,dG q=true)(gm:x.rs.length<=60)
 (hn:r.n=(dQ x.rs pa lv).length) (Dv:∀ s,r.vals s=[gS ((dQ x.rs pa lv).getD s ew)]) (hj:j<r.m) (ha:aS (r.I 0) [j+1,1]=some (.box [.ref [jc+1,1] 0])) (hx:aS (r.I 0) [jc+1,1]=some (bg x nb nd)):
 aM Tryz.prog 193 (r.itC (kC j pa lv)).toSpec:=by
 have iX:kC j pa lv (LI r.m)=[.ref [j+1,1] 0,.v (.ptr [vInt pa]),.v (.ptr [.sl (lv.map vInt)])]:=by
  unfold kC
  have :(LI r.m).getD j []=[j+1,1]:=by simp[LI,hj]
  rw[this]
 obtain⟨c,hc,h⟩:=PT hy (x:=x) (nb:=nb) (nd:=nd) (pa:=pa) (lv:=lv) (ia:=j+1) (ic:=jc+1) (I:=fun s=>r.I ((x.rs.take s).filter (il pa lv)).length) hv gm
  (fun s=>by rw[Lp.I_len hr,Lp.I_len hr]) (fun s=>Lp.I_clos hr _) (by simpa using ha) (by simpa using hx)
  (fun s hs hh=>by rw[yt hs,hh];simp)
  (fun s hs hh obj tm ho=>by
    obtain⟨h1,h2⟩:=ZA (z:=ew) hs hh
    have :=Lp.y_setU hr cL (s:=((x.rs.take s).filter (il pa lv)).length) (by rw[hn];exact h1) obj tm ho
    rw[Dv]at this
    unfold dQ at this
    rw[h2]at this
    rw[this,yt hs,hh]
    simp)
 refine Lp.itC_sound hr cL Tryz.func193 Tryz.ntmps193 (by rfl) (by kernel_rfl) (by decide) ⟨c,hc,by rw[iX];exact lb rfl,?_⟩
 rw[iX]
 have h0:r.I ((x.rs.take 0).filter (il pa lv)).length=r.I 0:=by simp
 have h9:r.I ((x.rs.take x.rs.length).filter (il pa lv)).length=r.I r.n:=by rw[List.take_length,hn];rfl
 simp only[h0,h9]at h
 exact h
theorem Ib{a b:Rec}(h:gS a=gS b):a=b:=by
 obtain⟨a1,a2,a3,al,a4,a5,a6⟩:=a
 obtain⟨b1,b2,b3,bl,b4,b5,b6⟩:=b
 simp only[gS,D.agg.injEq,List.cons.injEq,D.v.injEq,vInt,V.int.injEq,V.sl.injEq,true_and,and_true]at h
 obtain⟨rfl,rfl,rfl,hl,rfl,rfl,rfl⟩:=h
 have :=congrArg (List.map ky) hl
 have e:∀ l:List Int,(l.map fun n=>V.int .i64 n).map ky=l:=fun l=>p9 l
 rw[e,e]at this
 rw[this]
theorem GI{l:List Rec}(hn:l.Nodup):∀ s s',s<l.length->s'<l.length->([gS (l.getD s ew)]:List D)=[gS (l.getD s' ew)]->s=s':=by
 intro s s' h h' e
 have e1:=Ib (List.cons.inj e).1
 rw[dd h,dd h']at e1
 exact(List.getElem_inj hn).1 e1
def rU:Code->Option (Array Tmp×Code×Code)
 | .seq a b=>match rU a with | some x=>some x | none=>rU b
 | .block _ b=>rU b
 | .loop b=>rU b
 | .cond _ a b=>match rU a with | some x=>some x | none=>rU b
 | .rangeFunc _ ps a b=>some (ps,a,b)
 |_=>none
def jI(fn:Func):Array Tmp×Code×Code:=((fn.body.bind rU).getD (#[],.skip,.skip))
theorem lJ{Ls:List Name}(h:Ls.length=5):∃ a b c d e,Ls=[a,b,c,d,e]:=by
 match Ls,h with
 |[a,b,c,d,e],_=>exact⟨a,b,c,d,e,rfl⟩
theorem qE{Ls:List Name}(h:Ls.length=7):∃ a b c d e f g,Ls=[a,b,c,d,e,f,g]:=by
 match Ls,h with
 |[a,b,c,d,e,f,g],_=>exact⟨a,b,c,d,e,f,g,rfl⟩
def jj(l:Led)(k i j:Int)(n:Nat)(x:Vw)(r:Rec)(lv:List Int):Lp where
 m:=5
 env:=fun Ls=>(List.range 181).map (dH eAny [(0,⟨true,.v (eV l)⟩),(5,⟨true,.ref (Ls.getD 0 []) 0⟩),(17,⟨true,.v (.ptr [vInt i])⟩),(19,⟨true,.v (.ptr [vInt r.so,vInt r.bo,vInt r.pa,.sl (r.lv.map vInt),vInt r.da,vInt r.kn,vInt r.un])⟩),(141,⟨true,.v (.sl (x.ts.map vInt))⟩),(142,⟨true,.v (vInt n)⟩),(143,⟨true,.v (vInt j)⟩),(166,⟨true,.clo (.func 193) [] (kC 4 r.pa lv Ls)⟩)])
 fam:=fun Ls s=>[.box [.ref (Ls.getD 1 []) 0],bg x (Ls.getD 2 []) (Ls.getD 3 []),.map 2 (bM x.bk),.map 0 (bE (lH x.ds i r.da ((dQ x.rs r.pa lv).take s))),.box [.ref (Ls.getD 1 []) 0]]
 ps:=(jI Tryz.f76).1.toList
 asg:=(jI Tryz.f76).2.1
 body:=(jI Tryz.f76).2.2
 n:=(dQ x.rs r.pa lv).length
 vals:=fun s=>[gS ((dQ x.rs r.pa lv).getD s ew)]
 st:=fun _=>none
 fu:=100
theorem Jr(l:Led)(k i j:Int)(n:Nat)(x:Vw)(r:Rec)(lv:List Int)(hn:x.rs.Nodup):(jj l k i j n x r lv).Ok where
 len:=fun Ls s _=>rfl
 renE:=fun f Ls h=>by obtain⟨a,b,c,d,e,rfl⟩:=lJ h;rfl
 renF:=fun f Ls s h=>by obtain⟨a,b,c,d,e,rfl⟩:=lJ h;rfl
 reach:=fun Ls s obj acc q h ca hd hF=>by
  obtain⟨a,b,c,d,e,rfl⟩:=lJ h
  obtain⟨h1,h2,h3,h4,h5,_⟩:=hF
  have en:cA (((jj l k i j n x r lv).env [a,b,c,d,e]).map (·.d))=[a,e]:=rfl
  rw[en]
  show c6 obj (q+91+1+1+1+1+1+1+1+1+1) _ acc=_
  simp only[List.mem_cons,List.not_mem_nil,or_false,forall_eq_or_imp,forall_eq]at hd
  obtain⟨d1,d2,d3,d4,d5⟩:=hd
  simp only[List.nodup_cons,List.mem_cons,List.not_mem_nil,or_false,not_or,not_false_eq_true,List.nodup_nil,and_true]at ca
  obtain⟨⟨a1,a2,a3,a4⟩,⟨b1,b2,b3⟩,⟨c1,c2⟩,e1⟩:=ca
  simp[c6,gD,h1,h2,h3,h4,h5,jK,cA,jL,bg,d1,d2,d3,d4,d5,Ne.symm a1,Ne.symm a2,Ne.symm a3,Ne.symm a4,Ne.symm b1,Ne.symm b2,Ne.symm b3,Ne.symm c1,Ne.symm c2,Ne.symm e1]
 closE:=fun dom Ls h hd=>by
  obtain⟨a,b,c,d,e,rfl⟩:=lJ h
  have h1:=hd a (by simp)
  have h2:=hd e (by simp)
  simp[jj,List.range,List.range.loop,dH,D.closL,D.clos,eAny,h1,h2,kC]
 closF:=fun dom Ls s h hd o ho=>by
  obtain⟨a,b,c,d,e,rfl⟩:=lJ h
  have h1:=hd b (by simp)
  have h2:=hd c (by simp)
  have h3:=hd d (by simp)
  simp only[jj,List.mem_cons,List.not_mem_nil,or_false]at ho
  rcases ho with rfl | rfl | rfl | rfl | rfl<;>simp[O.clos,D.closL,D.clos,bg,h1,h2,h3]
 psz:=fun Ls h=>by rfl
 args:=fun s=>by rfl
 fuel:=(show (100:Nat)<=2000 by decide)
 vnam:=fun _=>rfl
 vcl:=fun _ _=>rfl
 vren:=fun _ _=>rfl
 inj:=GI (hn.filter _)
def K23:List (Nat×Spec):=[(165,S165)]
theorem adb:KS K23:=tc Df<|tn
attribute [go_sem] K23
theorem Tv(d:Ds)(i da:Int){os:List Rec}{s:Nat}(h:s<os.length):lH d i da (os.take (s+1))=if os[s].da>da then kN (lH d i da (os.take s)) i ⟨0,os[s].da⟩else lH d i da (os.take s):=by
 unfold lH
 rw[List.take_add_one,List.getElem?_eq_getElem h,List.foldl_append]
 rfl
set_option maxHeartbeats 4000000 in
theorem UT(l:Led)(k i j:Int)(n:Nat)(x:Vw)(r:Rec)(lv:List Int)(hn:x.rs.Nodup):aM Tryz.prog yid (jj l k i j n x r lv).y.toSpec:=by
 refine Lp.y_sound (Jr l k i j n x r lv hn) fun s hs _=>?_
 have hΓ:=adb
 have fN:s<(dQ x.rs r.pa lv).length:=hs
 have sP:(jj l k i j n x r lv).fam (LR 5) s=[.box [.ref [1,1] 0],bg x [2,1] [3,1],.map 2 (bM x.bk),.map 0 (bE (lH x.ds i r.da ((dQ x.rs r.pa lv).take s))),.box [.ref [1,1] 0]]:=rfl
 have sO:(jj l k i j n x r lv).fam (LR 5) (s+1)=[.box [.ref [1,1] 0],bg x [2,1] [3,1],.map 2 (bM x.bk),.map 0 (bE (lH x.ds i r.da ((dQ x.rs r.pa lv).take (s+1)))),.box [.ref [1,1] 0]]:=rfl
 have cL:(jj l k i j n x r lv).st s=none:=rfl
 have hv:(jj l k i j n x r lv).vals s=[gS ((dQ x.rs r.pa lv)[s])]:=by rw[<-dd (z:=ew) fN];rfl
 have hm:(jj l k i j n x r lv).m=5:=rfl
 rw[hm,sP,sO,cL,hv,Tv _ _ _ fN]
 generalize (dQ x.rs r.pa lv)[s]=o
 generalize lH x.ds i r.da ((dQ x.rs r.pa lv).take s)=d
 generalize dN:[O.box [.ref [1,1] 0],bg x [2,1] [3,1],.map 2 (bM x.bk),.map 0 (bE d),.box [.ref [1,1] 0]]=os
 have hO:∀ hs,bG [0] (bC [0] hs) (aS os)=True:=by
  subst dN
  refine fun hs=>eq_true (lE ?_ hs)
  intro o ho dom hd
  simp only[List.mem_cons,List.not_mem_nil,or_false]at ho
  rcases ho with rfl | rfl | rfl | rfl | rfl<;>simp[O.clos,D.closL,D.clos,bg,hd]
 have ai:∀ hs es,bG [0] (bC [0] hs) (fun nm=>if nm=[3,1]then some (.map 0 es)else aS os nm)=True:=fun hs es=>eq_true (oe (nm:=[3,1]) (o:=.map 0 es) rfl (by rw[hO];trivial))
 have h0:aS os [0,1]=some (.box [.ref [1,1] 0]):=by subst dN;rfl
 have h1:aS os [1,1]=some (bg x [2,1] [3,1]):=by subst dN;rfl
 have h2:aS os [2,1]=some (.map 2 (bM x.bk)):=by subst dN;rfl
 have h3:aS os [3,1]=some (.map 0 (bE d)):=by subst dN;rfl
 have h4:aS os [4,1]=some (.box [.ref [1,1] 0]):=by subst dN;rfl
 generalize hH:aS os=H at *
 clear dN hH
 simp only[bg]at h1 |-
 have gm:jI Tryz.f76=(_,_,_):=rfl
 refine rr (vM 181 [0] H [(5,⟨true,.ref [0,1] 0⟩),(17,⟨true,.v (.ptr [vInt i])⟩),(19,⟨true,.v (.ptr [vInt r.so,vInt r.bo,vInt r.pa,.sl (r.lv.map vInt),vInt r.da,vInt r.kn,vInt r.un])⟩),(167,⟨true,gS o⟩)] [] rfl rfl (fun _ _=>rfl) ?_ (by simp) ?_ ?_) ?_
 ·intro q hq
  simp only[List.mem_cons,List.not_mem_nil,or_false]at hq
  rcases hq with rfl | rfl | rfl | rfl<;>rfl
 ·simp[D.clos,D.closL,bC,own,gS]
 ·rw[hO];trivial
 simp only[jj,gm]
 refine gr ?_
 repeat refine sq ?_
 refine aI hΓ fun K' hK=>?_
 simp only[go_sem,hO,ai,h0,h1,h2,h3,h4]
 repeat (refine⟨ao,?_⟩)
 refine hK _ ?_
 clear K' hK
 simp only[go_sem]
 (show CW _ _ _ _)
 refine gr ?_
 repeat refine sq ?_
 refine aC ?_
 repeat refine sq ?_
 refine rx hΓ [5,17,19,21,172] [[5,0],[17,0],[19,0],[21,0],[23,0],[24,0],[26,0],[49,0],[124,0]] (fun K' hK=>by simp only[go_sem,hO,ai,h0,h1,h2,h3,h4];(repeat (refine⟨ao,?_⟩));exact hK _ (by simp only[go_sem,hO,ai,h0,h1,h2,h3,h4]) (by simp only[go_sem,hO,ai,h0,h1,h2,h3,h4]<;>rfl)) ?_
 repeat refine sq ?_
 refine au (fun hb=>?_) fun hb=>?_
 ·repeat refine sq ?_
  refine aI hΓ fun K' hK=>?_
  simp only[go_sem,hO,ai,h0,h1,h2,h3,h4]
  repeat (refine⟨ao,?_⟩)
  refine hK _ ?_
  clear K' hK
  simp only[go_sem]
  refine br ?_
  have cr:o.da>r.da:=by simpa using hb
  rw[if_pos cr]
  refine⟨rfl,?_⟩
  show ct _ [[0,1],[1,1],[2,1],[3,1],[4,1]] _
  simp only[ct,go_sem,h0,h1,h2,h3,h4,Fi]
  simp[CE,kN]
 ·repeat refine sq ?_
  refine ay ?_
  refine br ?_
  simp only[go_sem]
  have cr:¬ o.da>r.da:=by simpa using hb
  rw[if_neg cr]
  refine⟨rfl,?_⟩
  show ct _ [[0,1],[1,1],[2,1],[3,1],[4,1]] _
  simp only[ct,go_sem,h0,h1,h2,h3,h4,Fi]
end
noncomputable section
def gh:Option Rec->List D
 |some r=>tq r
 |none=>[.v (vInt 0),.v (vInt 0),.v (vInt 0),.nilsl,.v (vInt 0),.v (vInt 0),.v (vInt 0)]
def mN(rs:List Rec)(pa le day:Int)(s:Nat):Option Rec:=((dQ rs pa [le]).take s).foldl (qd day) none
theorem aaT{rs:List Rec}{pa le day:Int}{s:Nat}(h:s<(dQ rs pa [le]).length):mN rs pa le day (s+1)=qd day (mN rs pa le day s) (dQ rs pa [le])[s]:=by
 unfold mN
 rw[List.take_add_one,List.getElem?_eq_getElem h,List.foldl_append]
 rfl
theorem aaU(rs:List Rec)(pa le day:Int):mN rs pa le day (dQ rs pa [le]).length=fS rs pa le day:=by
 unfold mN fS
 rw[List.take_length]
def i7(x:Vw)(pa le day:Int):Lp where
 m:=7
 env:=fun Ls=>(List.range 37).map (dH eAny [(5,⟨true,.v (.ptr [vInt day])⟩),(6,⟨true,.ref (Ls.getD 0 []) 0⟩),(8,⟨true,.ref (Ls.getD 1 []) 0⟩),(9,⟨true,.ref (Ls.getD 2 []) 0⟩),(17,⟨true,.clo (.func 193) [] (kC 3 pa [le] Ls)⟩)])
 fam:=fun Ls s=>[.box (gh none),.box (gh (mN x.rs pa le day s)),.box [.v (.bool (mN x.rs pa le day s).isSome)],.box [.ref (Ls.getD 4 []) 0],bg x (Ls.getD 5 []) (Ls.getD 6 []),.map 2 (bM x.bk),.map 0 (bE x.ds)]
 ps:=(jI Tryz.f119).1.toList
 asg:=(jI Tryz.f119).2.1
 body:=(jI Tryz.f119).2.2
 n:=(dQ x.rs pa [le]).length
 vals:=fun s=>[gS ((dQ x.rs pa [le]).getD s ew)]
 st:=fun _=>none
 fu:=100
theorem aaz(f:Name->Name)(o:Option Rec):D.renL f (gh o)=gh o:=by cases o<;>rfl
theorem N2(o:Option Rec):cA (gh o)=[]:=by cases o<;>rfl
theorem AL(p:Name->Bool)(o:Option Rec):D.closL p (gh o)=true:=by cases o<;>rfl
theorem FV(x:Vw)(pa le day:Int)(hn:x.rs.Nodup):(i7 x pa le day).Ok where
 len:=fun Ls s _=>rfl
 renE:=fun f Ls h=>by obtain⟨a,b,c,d,e,f,g,rfl⟩:=qE h;rfl
 renF:=fun f Ls s h=>by
  obtain⟨a,b,c,d,e,f,g,rfl⟩:=qE h
  simp only[i7,List.map_cons,List.map_nil,O.ren,aaz,D.renL,D.ren,bg,List.getD_cons_succ,List.getD_cons_zero]
 reach:=fun Ls s obj acc q h ca hd hF=>by
  obtain⟨a,b,c,d,e,f,g,rfl⟩:=qE h
  obtain⟨h1,h2,h3,h4,h5,h6,h7,_⟩:=hF
  have en:cA (((i7 x pa le day).env [a,b,c,d,e,f,g]).map (·.d))=[a,b,c,d]:=rfl
  rw[en]
  show c6 obj (q+91+1+1+1+1+1+1+1+1+1) _ acc=_
  simp only[List.mem_cons,List.not_mem_nil,or_false,forall_eq_or_imp,forall_eq]at hd
  obtain⟨d1,d2,d3,d4,d5,d6,d7⟩:=hd
  simp only[List.nodup_cons,List.mem_cons,List.not_mem_nil,or_false,not_or,not_false_eq_true,List.nodup_nil,and_true]at ca
  obtain⟨⟨a1,a2,a3,a4,a5,a6⟩,⟨b1,b2,b3,b4,b5⟩,⟨c1,c2,c3,c4⟩,⟨e1,e2,e3⟩,⟨f1,f2⟩,g1⟩:=ca
  simp[c6,gD,h1,h2,h3,h4,h5,h6,h7,jK,cA,jL,bg,N2,d1,d2,d3,d4,d5,d6,d7,Ne.symm a1,Ne.symm a2,Ne.symm a3,Ne.symm a4,Ne.symm a5,Ne.symm a6,Ne.symm b1,Ne.symm b2,Ne.symm b3,Ne.symm b4,Ne.symm b5,Ne.symm c1,Ne.symm c2,Ne.symm c3,Ne.symm c4,Ne.symm e1,Ne.symm e2,Ne.symm e3,Ne.symm f1,Ne.symm f2,Ne.symm g1]
 closE:=fun dom Ls h hd=>by
  obtain⟨a,b,c,d,e,f,g,rfl⟩:=qE h
  have h1:=hd a (by simp)
  have h2:=hd b (by simp)
  have h3:=hd c (by simp)
  have h4:=hd d (by simp)
  simp[i7,List.range,List.range.loop,dH,D.closL,D.clos,eAny,h1,h2,h3,h4,kC]
 closF:=fun dom Ls s h hd o ho=>by
  obtain⟨a,b,c,d,e,f,g,rfl⟩:=qE h
  have h1:=hd e (by simp)
  have h2:=hd f (by simp)
  have h3:=hd g (by simp)
  simp only[i7,List.mem_cons,List.not_mem_nil,or_false]at ho
  rcases ho with rfl | rfl | rfl | rfl | rfl | rfl | rfl<;>simp[O.clos,D.closL,D.clos,bg,AL,h1,h2,h3]
 psz:=fun Ls h=>by rfl
 args:=fun s=>by rfl
 fuel:=(show (100:Nat)<=2000 by decide)
 vnam:=fun _=>rfl
 vcl:=fun _ _=>rfl
 vren:=fun _ _=>rfl
 inj:=GI (hn.filter _)
theorem aaX(x:Vw)(pa le day:Int):Bs (i7 x pa le day) (kC 3 pa [le]) where
 ren:=fun f Ls h=>by obtain⟨a,b,c,d,e,f,g,rfl⟩:=qE h;rfl
 clo:=fun dom Ls h hd=>by
  obtain⟨a,b,c,d,e,f,g,rfl⟩:=qE h
  have h4:=hd d (by simp)
  simp[D.closL,D.clos,h4,kC]
 reach:=fun Ls s obj R q h ca hF h0=>by
  obtain⟨a,b,c,d,e,f,g,rfl⟩:=qE h
  obtain⟨h1,h2,h3,h4,h5,h6,h7,_⟩:=hF
  have en:cA (((i7 x pa le day).env [a,b,c,d,e,f,g]).map (·.d))=[a,b,c,d]:=rfl
  have ec:cA (kC 3 pa [le] [a,b,c,d,e,f,g])=[d]:=rfl
  rw[ec]
  show c6 obj (q+90+1+1+1+1+1+1+1+1+1+1+1) _ []=_
  simp only[List.nodup_cons,List.mem_cons,List.not_mem_nil,or_false,not_or,not_false_eq_true,List.nodup_nil,and_true]at ca
  obtain⟨⟨r1,r2,r3,r4,r5,r6,r7⟩,⟨a1,a2,a3,a4,a5,a6⟩,⟨b1,b2,b3,b4,b5⟩,⟨c1,c2,c3,c4⟩,⟨e1,e2,e3⟩,⟨f1,f2⟩,g1⟩:=ca
  simp[c6,gD,h0,h1,h2,h3,h4,h5,h6,h7,Lp.rc,jK,en,cA,jL,bg,N2,Ne.symm r1,Ne.symm r2,Ne.symm r3,Ne.symm r4,Ne.symm r5,Ne.symm r6,Ne.symm r7,Ne.symm a1,Ne.symm a2,Ne.symm a3,Ne.symm a4,Ne.symm a5,Ne.symm a6,Ne.symm b1,Ne.symm b2,Ne.symm b3,Ne.symm b4,Ne.symm b5,Ne.symm c1,Ne.symm c2,Ne.symm c3,Ne.symm c4,Ne.symm e1,Ne.symm e2,Ne.symm e3,Ne.symm f1,Ne.symm f2,Ne.symm g1]
theorem aaV(day:Int)(o:Option Rec)(r:Rec):qd day o r=if decide (r.da<=day)&&(!o.isSome||decide (r.da>=(o.getD ew).da))then some r else o:=by
 unfold qd
 cases o<;>rfl
theorem aaW(x:Vw)(pa le day:Int)(hn:x.rs.Nodup):aM Tryz.prog yid (i7 x pa le day).y.toSpec:=by
 refine Lp.y_sound (FV x pa le day hn) fun s hs _=>?_
 have hΓ:=@dT Tryz.prog
 have fN:s<(dQ x.rs pa [le]).length:=hs
 have sP:(i7 x pa le day).fam (LR 7) s=[.box (gh none),.box (gh (mN x.rs pa le day s)),.box [.v (.bool (mN x.rs pa le day s).isSome)],.box [.ref [4,1] 0],bg x [5,1] [6,1],.map 2 (bM x.bk),.map 0 (bE x.ds)]:=rfl
 have sO:(i7 x pa le day).fam (LR 7) (s+1)=[.box (gh none),.box (gh (mN x.rs pa le day (s+1))),.box [.v (.bool (mN x.rs pa le day (s+1)).isSome)],.box [.ref [4,1] 0],bg x [5,1] [6,1],.map 2 (bM x.bk),.map 0 (bE x.ds)]:=rfl
 have cL:(i7 x pa le day).st s=none:=rfl
 have hv:(i7 x pa le day).vals s=[gS ((dQ x.rs pa [le])[s])]:=by rw[<-dd (z:=ew) fN];rfl
 have hm:(i7 x pa le day).m=7:=rfl
 rw[hm,sP,sO,cL,hv,aaT fN,aaV]
 generalize (dQ x.rs pa [le])[s]=r
 generalize mN x.rs pa le day s=o
 obtain⟨c3,e0,e1⟩:∃ c3,(c3=.nilsl\/∃ l,c3=.v (.sl l))/\gh o=[.v (vInt (o.getD ew).so),.v (vInt (o.getD ew).bo),.v (vInt (o.getD ew).pa),c3,.v (vInt (o.getD ew).da),.v (vInt (o.getD ew).kn),.v (vInt (o.getD ew).un)]:=by
  cases o with
  |none=>exact⟨_,.inl rfl,rfl⟩
  |some q=>exact⟨_,.inr ⟨_,rfl⟩,rfl⟩
 have e2:∀ p,D.clos p c3=true:=fun p=>by rcases e0 with rfl | ⟨l,rfl⟩<;>rfl
 generalize dN:[O.box (gh none),.box (gh o),.box [.v (.bool o.isSome)],.box [.ref [4,1] 0],bg x [5,1] [6,1],.map 2 (bM x.bk),.map 0 (bE x.ds)]=os
 have hO:∀ hs,bG [0] (bC [0] hs) (aS os)=True:=by
  subst dN
  refine fun hs=>eq_true (lE ?_ hs)
  intro o ho dom hd
  simp only[List.mem_cons,List.not_mem_nil,or_false]at ho
  rcases ho with rfl | rfl | rfl | rfl | rfl | rfl | rfl<;>simp[O.clos,D.closL,D.clos,bg,hd,AL]
 have ai:∀ hs cs b,(∀ p,D.closL p cs=true)->bG [0] (bC [0] hs) (fun nm=>if nm=[2,1]then some (.box [.v (.bool b)])else if nm=[1,1]then some (.box cs)else aS os nm)=True:=fun hs cs b iX=>
  eq_true (oe (nm:=[2,1]) (o:=.box [.v (.bool b)]) rfl (oe (nm:=[1,1]) (o:=.box cs) (by simp[O.clos,iX]) (by rw[hO];trivial)))
 have h0:aS os [0,1]=some (.box (gh none)):=by subst dN;rfl
 have h1:aS os [1,1]=some (.box (gh o)):=by subst dN;rfl
 have h2:aS os [2,1]=some (.box [.v (.bool o.isSome)]):=by subst dN;rfl
 have h3:aS os [3,1]=some (.box [.ref [4,1] 0]):=by subst dN;rfl
 have h4:aS os [4,1]=some (bg x [5,1] [6,1]):=by subst dN;rfl
 have h5:aS os [5,1]=some (.map 2 (bM x.bk)):=by subst dN;rfl
 have h6:aS os [6,1]=some (.map 0 (bE x.ds)):=by subst dN;rfl
 generalize hH:aS os=H at *
 clear dN hH
 rw[e1]at h1
 have gm:jI Tryz.f119=(_,_,_):=rfl
 refine rr (vM 37 [0] H [(5,⟨true,.v (.ptr [vInt day])⟩),(8,⟨true,.ref [1,1] 0⟩),(9,⟨true,.ref [2,1] 0⟩),(18,⟨true,gS r⟩)] [] rfl rfl (fun _ _=>rfl) ?_ (by simp) ?_ ?_) ?_
 ·intro q hq
  simp only[List.mem_cons,List.not_mem_nil,or_false]at hq
  rcases hq with rfl | rfl | rfl | rfl<;>rfl
 ·simp[D.clos,D.closL,bC,own,gS]
 ·rw[hO];trivial
 simp only[i7,gm]
 refine gr ?_
 repeat refine sq ?_
 refine aI hΓ fun K' hK=>?_
 simp only[go_sem,hO,h0,h1,h2,h3,h4,e2]
 repeat (refine⟨ao,?_⟩)
 refine hK _ ?_
 clear K' hK
 simp only[go_sem]
 (show CW _ _ _ _)
 refine gr ?_
 repeat refine sq ?_
 refine aC ?_
 repeat refine sq ?_
 refine rx hΓ [5,8,9,10,33] [[5,0],[8,0],[9,0],[10,0]] (fun K' hK=>by simp only[go_sem,hO,h0,h1,h2,h3,h4,e2];(repeat (refine⟨ao,?_⟩));exact hK _ (by simp only[go_sem,hO,h0,h1,h2,h3,h4,e2]) (by simp only[go_sem,hO,h0,h1,h2,h3,h4,e2]<;>rfl)) ?_
 repeat refine sq ?_
 refine au (fun hb=>?_) fun hb=>?_
 ·repeat refine sq ?_
  refine aI hΓ fun K' hK=>?_
  simp only[go_sem,hO,h0,h1,h2,h3,h4,e2]
  repeat (refine⟨ao,?_⟩)
  refine hK _ ?_
  clear K' hK
  simp only[go_sem]
  refine br ?_
  rw[if_pos (by rw[<-Bool.and_eq_true];exact hb)]
  refine⟨rfl,?_⟩
  show ct _ [[0,1],[1,1],[2,1],[3,1],[4,1],[5,1],[6,1]] _
  simp only[ct,go_sem,h0,h1,h2,h3,h4,h5,h6]
  simp[gh,tq]
 ·repeat refine sq ?_
  refine ay ?_
  refine br ?_
  simp only[go_sem]
  rw[if_neg (by rw[<-Bool.and_eq_true,hb];decide)]
  refine⟨rfl,?_⟩
  show ct _ [[0,1],[1,1],[2,1],[3,1],[4,1],[5,1],[6,1]] _
  simp only[ct,go_sem,h0,h1,h2,h3,h4,h5,h6,e1]
  first | done | exact⟨trivial,trivial⟩
def IL(p:Name)(H:Name->Option O):List Name->List O->Prop
 |x::xs,o::os=>(own p x=true\/H x=some o)/\IL p H xs os
 |_,_=>True
theorem Hh{p:Name}{H:Name->Option O}{nm:Name}(hn:own p nm=false):∀ {Ls:List Name} {F:List O} {obj:Name->Option O},IL p H Ls F->obj nm=H nm->ck Ls F obj nm=H nm
 |[],_,_,_,h=>by simpa[ck]using h
 |x::xs,[],_,_,h=>by simpa[ck]using h
 |x::xs,o::os,obj,hk,h=>by
  simp only[ck]
  refine Hh hn hk.2 ?_
  by_cases e:nm=x
  ·subst e
   rw[aU]
   rcases hk.1 with h1 | h1
   ·rw[hn]at h1;cases h1
   ·exact h1.symm
  ·rw[ba _ _ _ e];exact h
def K24:List (Nat×Spec):=[(164,S164)]
theorem ada:KS K24:=tc Dg<|tn
attribute [go_sem] K24
def OV:VSpec:=v2 iQ iI (fun x _ _=>l4 x/\x.rs.Nodup) (fun x f day=>.tup [nc (fS x.rs f.pa f.le day),.v (.bool (fS x.rs f.pa f.le day).isSome)]) none
def S119:Spec:=OV.toSpec
attribute [go_sem] OV S119
set_option maxHeartbeats 8000000 in
theorem Di:aM Tryz.prog 119 S119:=by
 refine yj (rs:=[.cell 6 36,.tmp 7]) Tryz.func119 Tryz.ntmps119 (by rfl) (by kernel_rfl) (by decide) (fun _ _ _=>by first | rfl | exact ma _ _ | simp[D.clos,D.closL,ma]) ⟨_,rfl,lb rfl,fun x f day hp H h0 h1 h2 hO ai=>?_⟩
 have hP:=c8
 simp only[iQ,iI,ea,bg,dD,List.map_cons,List.map_nil,Nat.zero_add,Option.map_some,Option.map_none]at h0 |-
 have hΓ:=ada
 obtain⟨hv,ca⟩:=hp
 obtain⟨pa,le⟩:=f
 repeat refine sq ?_
 refine rx hΓ [0,4,5,6] [[4,0],[5,0],[6,0]] (fun K' hK=>by simp only[go_sem,hO,ai,h0,h1,h2];(repeat (refine⟨ao,?_⟩));exact hK _ (by simp only[go_sem,hO,ai,h0,h1,h2]) (by simp only[go_sem,hO,ai,h0,h1,h2]<;>rfl)) ?_
 refine bH (cZ 4 (.ref [4,0] 0) (by simp only[go_sem]) (by simp only[go_sem]) [0,4,5,6] [[4,0],[5,0],[6,0]] ?_ rfl) ?_
 ·simp only[go_sem,hO,ai,h0,h1,h2]
 simp only[go_sem,hO,ai,h0,h1,h2]
 repeat refine sq ?_
 refine rx hΓ [0,4,5,6,8] [[4,0],[5,0],[6,0],[8,0]] (fun K' hK=>by simp only[go_sem,hO,ai,h0,h1,h2];(repeat (refine⟨ao,?_⟩));exact hK _ (by simp only[go_sem,hO,ai,h0,h1,h2]) (by simp only[go_sem,hO,ai,h0,h1,h2]<;>rfl)) ?_
 repeat refine sq ?_
 refine rx hΓ [0,4,5,6,8,9] [[4,0],[5,0],[6,0],[8,0],[9,0]] (fun K' hK=>by simp only[go_sem,hO,ai,h0,h1,h2];(repeat (refine⟨ao,?_⟩));exact hK _ (by simp only[go_sem,hO,ai,h0,h1,h2]) (by simp only[go_sem,hO,ai,h0,h1,h2]<;>rfl)) ?_
 repeat refine sq ?_
 refine rx hΓ [5,6,8,9,17] [[5,0],[6,0],[8,0],[9,0],[3,0,17,0]] (fun K' hK=>by simp only[go_sem,hO,ai,h0,h1,h2];(repeat (refine⟨ao,?_⟩));exact hK _ (by simp only[go_sem,hO,ai,h0,h1,h2]) (by simp only[go_sem,hO,ai,h0,h1,h2]<;>rfl)) ?_
 refine bH (cZ 5 (.ref [5,0] 0) (by simp only[go_sem]) (by simp only[go_sem]) [5,6,8,9,17] [[5,0],[6,0],[8,0],[9,0],[3,0,17,0]] ?_ rfl) ?_
 ·simp only[go_sem,hO,ai,h0,h1,h2]
 simp only[go_sem,hO,ai,h0,h1,h2]
 repeat refine sq ?_
 refine aC ?_
 repeat refine sq ?_
 have fb:aM Tryz.prog 193 ((i7 x pa le day).itC (kC 3 pa [le])).toSpec:=Hs (FV x pa le day ca) (fun _=>rfl) (aaW x pa le day ca) hv.rs hv.rn rfl (fun _=>rfl) (j:=3) (jc:=4) (show 3<7 by decide) rfl rfl
 refine NZ (FV x pa le day ca) (aaX x pa le day) (f:=193) 30 31 (Ls:=[[6,0],[8,0],[9,0],[3,0,17,0],[0,1],[1,1],[2,1]]) rfl rfl (by decide) fb rfl rfl rfl rfl rfl rfl (by decide) (show ([30,0]:Name)∉[[6,0],[8,0],[9,0],[3,0,17,0],[0,1],[1,1],[2,1]]by decide) ⟨rfl,rfl,rfl,rfl,h0,h1,h2,trivial⟩ fun o=>?_
 obtain⟨g1,g2⟩:=Lp.go_e (r:=i7 x pa le day) (fun _=>rfl)
 have g3:(i7 x pa le day).fam [[6,0],[8,0],[9,0],[3,0,17,0],[0,1],[1,1],[2,1]] (i7 x pa le day).e=[.box (gh none),.box (gh (fS x.rs pa le day)),.box [.v (.bool (fS x.rs pa le day).isSome)],.box [.ref [0,1] 0],bg x [1,1] [2,1],.map 2 (bM x.bk),.map 0 (bE x.ds)]:=by
  rw[g1,<-aaU];rfl
 rw[g2,g3]
 simp only[oy,gx]
 refine br ?_
 show CL Tryz.prog (_::_) _ _
 obtain⟨cs,iX,cT⟩:∃ cs,cs=gh (fS x.rs pa le day)/\∀ p,D.closL p cs=true:=⟨_,rfl,fun p=>AL p _⟩
 refine bH (ef.toM (vM 37 [0] H [(6,⟨true,.ref [6,0] 0⟩),(8,⟨true,.ref [8,0] 0⟩),(9,⟨true,.ref [9,0] 0⟩)] [([6,0],.box (gh none)),([8,0],.box (gh (fS x.rs pa le day))),([9,0],.box [.v (.bool (fS x.rs pa le day).isSome)])] rfl rfl (fun nm hn=>?_) ?_ ?_ ?_ (by rw[hO];trivial))) ?_
 ·have e1:nm≠[30,0]:=by rintro rfl;cases hn
  show upd _ [30,0] _ nm=_
  rw[ba _ _ _ e1]
  exact Hh hn ⟨.inl rfl,.inl rfl,.inl rfl,.inl rfl,.inr h0,.inr h1,.inr h2,trivial⟩ (by simp[bm,hn])
 ·intro q hq
  simp only[List.mem_cons,List.not_mem_nil,or_false]at hq
  rcases hq with rfl | rfl | rfl<;>rfl
 ·intro q hq
  simp only[List.mem_cons,List.not_mem_nil,or_false]at hq
  rcases hq with rfl | rfl | rfl<;>rfl
 ·simp[O.clos,D.closL,D.clos,AL,bC]
 clear iX cT
 generalize fS x.rs pa le day=o
 rcases o with _ | r
 ·simp only[gh,tq,Option.isSome]
  repeat refine sq ?_
  refine dx hΓ hP [[],[],[0],[0,1,2]] [6,7] [[6,0]] (by kernel_rfl) (fun K' hK=>by simp only[go_sem,hO,h0,h1,h2];(repeat (refine⟨ao,?_⟩));(first | refine⟨by rfl,?_⟩ | skip);exact hK _ (by simp only[go_sem,hO,h0,h1,h2]) (by simp only[go_sem,hO,h0,h1,h2]<;>rfl)) ?_
  refine aq ?_
  simp only[go_sem,hO,h0,h1,h2]
  rfl
 ·simp only[gh,tq,Option.isSome]
  repeat refine sq ?_
  refine dx hΓ hP [[],[],[0],[0,1,2]] [6,7] [[6,0]] (by kernel_rfl) (fun K' hK=>by simp only[go_sem,hO,h0,h1,h2];(repeat (refine⟨ao,?_⟩));(first | refine⟨by rfl,?_⟩ | skip);exact hK _ (by simp only[go_sem,hO,h0,h1,h2]) (by simp only[go_sem,hO,h0,h1,h2]<;>rfl)) ?_
  refine aq ?_
  simp only[go_sem,hO,h0,h1,h2]
  rfl
end
set_option maxHeartbeats 8000000
noncomputable section
theorem FD{P:Program}{Γ:FuncId->Option Spec}(hΓ:∀ f s,Γ f=some s->aM P f s){id:Nat}{l:List Oper}{c:Code}{r:List Code}{σ:S}{K:Exit->S->Prop}(ks:List Nat)(ns:List Name)
 (h:∀ K':S->Prop,(∀ σ',i6 ks ns σ'->CL P (c::r) (jl ks ns σ') K->K' σ')->mY P Γ l.toArray l σ K'):CL P (.region id l.toArray false::c::r) σ K:=
 NH hΓ (h _ fun σ' hc hy=>Fp ks ns hc hy)
theorem uw{P:Program}{Γ:FuncId->Option Spec}{ops:Array Oper}{o:Oper}{r:List Oper}{σ:S}{K:S->Prop}(h1:lF P Γ ops σ o)(h2:mY P Γ ops r (bx P Γ ops σ o) K):mY P Γ ops (o::r) σ K:=.step h1 h2
def bV{α:Type}(p:α->Bool)(l:List α):List α:=l.filter fun d=>!p d
def ee{α:Type}(enc:α->V)(z:V)(p:α->Bool)(l:List α):List V:=(bV p l).map enc++List.replicate (l.length-(bV p l).length) z
def oh:Ret:=⟨0,0,0,[],0,0,0,0⟩
def om:Sig:=⟨0,0,0,0,0,0,0⟩
def K25:List (Nat×Spec):=[(162,S162)]
theorem ac':KS K25:=tc Lq<|tn
attribute [go_sem] K25
@[go_sem] def P186:PSpec:=p2 iS jm (fun _ _=>True) (fun s k=>.bool (!cG s.kn s.un k)) true
@[go_sem] def abz:Spec:=P186.toSpec
theorem RG:aL Tryz.prog 186 P186:=by
 refine cK (rs:=[.tmp 3]) Tryz.func186 Tryz.ntmps186 fun s k hp hw=>?_
 simp only[jm,iS,encS]at hw |-
 have hΓ:=ac'
 repeat refine sq ?_
 refine rx hΓ [1,2] [[2,0]] (fun K' hK=>by simp only[go_sem];exact ak) ?_
 repeat refine sq ?_
 refine rx hΓ [3] [] (fun K' hK=>by simp only[go_sem];exact ak) ?_
 refine aq ?_
 simp only[go_sem]
 all_goals exact cD
def fq(g:Nat×Int)(x:Rec):Bool:=x.so==g.2
def fm(g:Nat×Int)(x:Ret):Bool:=x.so==g.2
def eZ(g:Nat×Int)(x:Sig):Bool:=if g.1=186 then !cG x.kn x.un g.2 else x.so==g.2
def pn(g:Nat×Int):Prop:=g.1=88
def pk(g:Nat×Int):Prop:=g.1=90
def oB(g:Nat×Int):Prop:=g.1=92\/g.1=186
def KDR:List (Nat×Spec):=[(88,S88)]
theorem acb:KS KDR:=tc Rb.sound<|tn
attribute [go_sem] KDR
def KDT:List (Nat×Spec):=[(90,S90)]
theorem ab':KS KDT:=tc Ra.sound<|tn
attribute [go_sem] KDT
def KDS:List (Nat×Spec):=[(92,S92),(186,abz)]
theorem aca:KS KDS:=tc Q'.sound<|tc RG.sound<|tn
attribute [go_sem] KDS
abbrev xY:=Rec
abbrev xW:=Ret
abbrev xX:=Sig
def Gt:FuncId->Option Spec:=tbl KDR
theorem Pn:∀ f s,Gt f=some s->aM Tryz.prog f s:=acb
theorem IU{g:Nat×Int}(h:pn g):∃ s,Gt g.1=some s/\(¬ g.1=1000000000)/\(∀ obj t (x:xY),s.app obj t [.v (encR x),.v (.ptr [vInt g.2])]=⟨True,.v (.bool (fq g x)),obj⟩)/\
 ∀ obj t (x:xY),s.app obj t [.agg ((encR x).cells.map .v),.v (.ptr [vInt g.2])]=⟨True,.v (.bool (fq g x)),obj⟩:=by
 obtain⟨g,k⟩:=g
 rcases h with rfl | rfl
 all_goals exact⟨_,rfl,(by simp),fun obj t x=>by simp only[go_sem,fq];try rfl,fun obj t x=>by simp only[go_sem,fq,encR];try rfl⟩
theorem F0:(#[27]:Array Nat).getD 0 0=27:=rfl
theorem Pz:((bu Tryz.prog 36).bind fun z=>el (iN z))=some (encR ew):=by rw[P0];rfl
theorem Fx{obj:Name->Option O}{nm:Name}{k i:Nat}{L:List V}(h:obj nm=some (.arr 7 L))(hk:k=L.length)(hi:i<L.length):
 jD Tryz.prog obj 27 27 (.msl nm k) (.v (vInt i))=⟨True,.any,upd obj nm (some (.arr 7 (L.take i++List.replicate (L.length-i) (encR ew))))⟩:=by
 unfold jD
 simp only[GZ,h,Pz,ah]
 congr 1
 simp only[eq_iff_iff,iff_true]
 exact⟨hk,by omega,hi,trivial,rfl,rfl,trivial,by decide⟩
theorem Qz:aL Tryz.prog 166 (p2 (cW iR) e8 (fun _ g=>pn g) (fun l g=>vInt (cf (fq g) l)) true):=by
 refine cK (rs:=[.tmp 4]) Tryz.func166 Tryz.ntmps166 fun l g hp hw=>?_
 simp only[e8,iR,cW]at hw |-
 have hΓ:=Pn
 have hl:l.length<=maxLen:=by have:=hw.1.1;simpa using this
 obtain⟨s_,hs,hy,ha,_⟩:=IU hp
 simp only[encR]at ha
 repeat refine sq ?_
 refine rx hΓ [0,1] [] (fun K' hK=>by simp only[go_sem];exact ak) ?_
 repeat refine sq ?_
 refine rx hΓ [0,1,7,8] [] (fun K' hK=>by simp only[go_sem];exact ak) ?_
 repeat refine sq ?_
 refine aC ?_
 repeat refine sq ?_
 refine bA (fun s:Nat=>[(8,⟨true,.v (vInt s)⟩)]) (fun s=>[]) (fun s=>s<=l.length/\∀ k (h:k<l.length),k<s->fq g l[k]=false) (fun s=>l.length-s) 0 ?_ ?_ ?_ ?_
 ·exact⟨Nat.zero_le _,by simp⟩
 ·rfl
 ·rfl
 rintro i ⟨hi,hR⟩
 simp only[go_sem]
 repeat refine sq ?_
 refine rx hΓ [0,1,7,8,9] [] (fun K' hK=>by simp only[go_sem];exact ak) ?_
 repeat refine sq ?_
 refine au (fun hb=>?_) fun hb=>?_
 ·have aa:i<l.length:=by simpa using hb
  have an:(i:Int)<l.length:=by omega
  clear hb
  repeat refine sq ?_
  refine ay ?_
  repeat refine sq ?_
  refine aC ?_
  repeat refine sq ?_
  refine rx hΓ [0,1,5,7,8] [] (fun K' hK=>by simp only[go_sem,ae aa,ah,aj,an];exact ak) ?_
  repeat refine sq ?_
  refine rx hΓ [0,1,5,7,8,16] [] (fun K' hK=>by simp only[go_sem,ae aa,ah,aj,an,hs,hy,ha];exact ak) ?_
  repeat refine sq ?_
  refine au (fun hb=>?_) fun hb=>?_
  ·repeat refine sq ?_
   refine rx hΓ [4] [] (fun K' hK=>by simp only[go_sem,ae aa,ah,aj,an];exact ak) ?_
   refine aq ?_
   simp only[go_sem]
   rw[lM (p:=fq g) aa (by simpa using hb) hR]
  ·repeat refine sq ?_
   refine ay ?_
   refine br ?_
   simp only[go_sem]
   refine kp [0,1,7,8] [] ?_
   repeat refine sq ?_
   refine aI hΓ fun K' hK=>?_
   simp only[go_sem,ae aa,ah,aj,an]
   repeat (refine⟨ao,?_⟩)
   refine hK _ ?_
   clear K' hK
   simp only[go_sem]
   refine⟨i+1,⟨aa,?_⟩,by(show l.length-(i+1)<l.length-i;omega),?_⟩
   ·intro k hk du
    rcases Nat.lt_succ_iff_lt_or_eq.1 du with h5 | rfl
    ·exact hR k hk h5
    ·simpa using hb
   refine aT [0,1,7,8] [] ?_ ?_<;>simp only[go_sem,aO aa hl,aQ]
 ·have aV:i=l.length:=by
   have :¬ (i:Int)<l.length:=by simpa using hb
   omega
  clear hb
  subst aV
  repeat refine sq ?_
  refine be ?_
  simp only[go_sem]
  refine kp [] [] ?_
  repeat refine sq ?_
  refine rx hΓ [4] [] (fun K' hK=>by simp only[go_sem];exact ak) ?_
  refine aq ?_
  simp only[go_sem]
  rw[oG (p:=fq g) fun k hk=>hR k hk hk]
set_option maxRecDepth 10000 in
theorem PS{g:Nat×Int}(ab:pn g){H:Name->Option O}{l:List xY}(hl:l.length<1000000)(fz:H [0,1]=some (.arr 7 (l.map encR)))(bD:∀ hs,bG [0] (bC [0] hs) H=True)(ai:∀ hs sz L,bG [0] (bC [0] hs) (upd H [0,1] (some (.arr sz L)))=True)(bj:∀ hs sz L,bG [0] (bC [0] hs) (upd H [0,1] (some (.farr sz L)))=True):
 ∃ c,Tryz.f87.body=some c/\CL Tryz.prog [c] (bm 42 [0] H [(0,⟨true,.msl [0,1] l.length⟩),(1,⟨true,.clo (.func g.1) [] [.v (.ptr [vInt g.2])]⟩)] []) (fun e σ=>(e=.normal\/e=.ret)/\(σ.env 4).c=true/\
   (σ.env 4).d=.v (.sl ((bV (fq g) l).map encR))/\σ.obj [0,1]=some (.farr 7 (ee encR (encR ew) (fq g) l))):=by
 obtain⟨sG,hs,hg,_,hp⟩:=IU ab
 obtain⟨Γ,sI,hΓ,hs,hI,hi⟩:∃ (Γ:FuncId->Option Spec) (sI:Spec),(∀ f s,Γ f=some s->aM Tryz.prog f s)/\Γ g.1=some sG/\Γ 166=some sI/\
  ∀ (obj:Name->Option O) (t:Name),obj [0,1]=some (.arr 7 (l.map encR))->sI.app obj t [.msl [0,1] l.length,.clo (.func g.1) [] [.v (.ptr [vInt g.2])]]=⟨True,.v (vInt (cf (fq g) l)),obj⟩:=by
  refine⟨fun f=>if f=166 then some (p2 (cW iR) e8 (fun _ g=>pn g) (fun l g=>vInt (cf (fq g) l)) true).toSpec else Gt f,_,fun f s h=>?_,?_,rfl,fun obj t e=>?_⟩
  ·dsimp only at h
   split at h
   ·rename_i e;cases h;subst e;exact Qz.sound
   ·exact Pn _ _ h
  ·dsimp only
   rw[if_neg (by intro e;have h':=ab;unfold pn at h';simp[e]at h')];exact hs
  ·have eN:pn (g.1,g.2):=ab
   simp only[go_sem,e,eN,List.length_map,xG]
 generalize gZ:ee encR (encR ew) (fq g) l=XX
 generalize LW:fq g=p at *
 simp only[encR,V.cells,List.map_cons,List.map_nil]at hp
 refine⟨_,rfl,?_⟩
 have hm:l.length<=maxLen:=by unfold maxLen;omega
 repeat refine sq ?_
 refine rx hΓ [0,1] [] (fun K' hK=>by simp only[go_sem,bD];(repeat (refine⟨ao,?_⟩));exact hK _ (by simp only[go_sem,bD]) (by simp only[go_sem,bD]<;>rfl)) ?_
 repeat refine sq ?_
 refine rx hΓ [0,1,5] [] (fun K' hK=>by simp only[go_sem,bD,hI,hi,fz,implies_true];(repeat (refine⟨ao,?_⟩));exact hK _ (by simp only[go_sem,bD,hI,hi,fz,implies_true]) (by simp only[go_sem,bD,hI,hi,fz,implies_true]<;>rfl)) ?_
 repeat refine sq ?_
 refine rx hΓ [0,1,5,12] [] (fun K' hK=>by simp only[go_sem,bD];(repeat (refine⟨ao,?_⟩));exact hK _ (by simp only[go_sem,bD]) (by simp only[go_sem,bD]<;>rfl)) ?_
 repeat refine sq ?_
 refine au (fun hb=>?_) fun hb=>?_
 ·repeat refine sq ?_
  refine rx hΓ [4] [] (fun K' hK=>by simp only[go_sem,bD];(repeat (refine⟨ao,?_⟩));exact hK _ (by simp only[go_sem,bD]) (by simp only[go_sem,bD]<;>rfl)) ?_
  refine bH (cZ 4 (.msl [0,1] l.length) (by simp only[go_sem]) (by simp only[go_sem,fz,List.length_map]) [4] [] ?_ rfl) ?_
  ·simp only[go_sem,fz,bj]
  simp only[go_sem,fz]
  refine aq ?_
  simp only[go_sem,fz]
  have cr:cf p l= -1:=by simpa using hb
  have eO:∀ d∈l,p d=false:=by
   unfold cf at cr
   split at cr
   ·omega
   ·rename_i hn
    intro d hd
    cases jS:p d with
    |false=>rfl
    |true=>exact(hn (List.any_eq_true.2 ⟨d,hd,jS⟩)).elim
  have hk:bV p l=l:=List.filter_eq_self.2 fun d hd=>by rw[eO d hd];rfl
  have qY:XX=l.map encR:=by rw[<-gZ];unfold ee;rw[hk];simp
  rw[hk,qY]
  exact⟨.inr trivial,rfl,rfl⟩
 have hf:l.findIdx p<l.length:=by
  have cr:¬ cf p l= -1:=by simpa using hb
  unfold cf at cr
  split at cr
  ·rename_i ir
   exact List.findIdx_lt_length_of_exists (by obtain⟨y,hy,hp⟩:=List.any_eq_true.1 ir;exact⟨y,hy,hp⟩)
  ·exact(cr rfl).elim
 have im:cf p l=(l.findIdx p:Int):=by unfold cf;rw[if_pos (List.any_eq_true.2 ⟨_,List.getElem_mem hf,List.findIdx_getElem (w:=hf)⟩)]
 rw[im]
 clear hb im hi hI
 have w6:p (l[l.findIdx p])=true:=List.findIdx_getElem (w:=hf)
 have qU:∀ j (h:j<l.length),j<l.findIdx p->p l[j]=false:=fun j h hj=>by simpa using List.not_of_lt_findIdx hj
 generalize l.findIdx p=f at *
 repeat refine sq ?_
 refine ay ?_
 repeat refine sq ?_
 refine rx hΓ [0,1,5,6] [] (fun K' hK=>by simp only[go_sem,bD,aO hf hm,aQ];(repeat (refine⟨ao,?_⟩));exact hK _ (by simp only[go_sem,bD,aO hf hm,aQ]) (by simp only[go_sem,bD,aO hf hm,aQ]<;>rfl)) ?_
 repeat refine sq ?_
 refine aC ?_
 repeat refine sq ?_
 refine AJ (fun x:Nat×Nat×List xY=>upd H [0,1] (some (.arr 7 (x.2.2.map encR)))) (fun x=>[(5,⟨true,.v (vInt x.1)⟩),(6,⟨true,.v (vInt x.2.1)⟩)]) (fun x=>[]) (fun x=>x.1<x.2.1/\x.2.1<=l.length/\x.2.2.length=l.length/\x.2.2.take x.1=bV p (l.take x.2.1)/\x.2.2.drop x.2.1=l.drop x.2.1) (fun x=>l.length-x.2.1) (f,f+1,l) ?_ ?_ ?_ ?_ ?_
 ·refine⟨(show f<f+1 by omega),hf,rfl,?_,rfl⟩
  show l.take f=bV p (l.take (f+1))
  unfold bV
  rw[List.take_add_one,List.getElem?_eq_getElem hf,List.filter_append]
  simp only[Option.toList_some,List.filter_cons,w6,Bool.not_true,Bool.false_eq_true,if_false,List.filter_nil,List.append_nil]
  rw[List.filter_eq_self.2]
  intro d hd
  obtain⟨j,hj,rfl⟩:=List.getElem_of_mem hd
  have dp:j<f:=by simp at hj;omega
  rw[List.getElem_take,qU j (by omega) dp]
  rfl
 ·congr 1
  rw[<-fz]
  funext x
  by_cases e:x=[0,1]
  ·subst e;rw[aU]
  ·rw[ba _ _ _ e]
 ·rfl
 ·rfl
 clear qU
 rintro⟨i,j,A⟩ ⟨b7,hj,hA,hT,hD⟩
 simp only at b7 hj hA hT hD
 dsimp only
 generalize dF:upd H [0,1] (some (O.arr 7 (List.map encR A)))=H'
 have h0:H' [0,1]=some (.arr 7 (A.map encR)):=by rw[<-dF,aU]
 have pX:∀ i,H' [i+1,1]=H [i+1,1]:=fun i=>by rw[<-dF,ba _ _ _ (by simp)]
 have cw:∀ hs,bG [0] (bC [0] hs) H'=True:=fun hs=>by rw[<-dF];exact ai _ _ _
 have dm:∀ hs sz L,bG [0] (bC [0] hs) (upd H' [0,1] (some (.arr sz L)))=True:=fun hs sz L=>by rw[<-dF,lu];exact ai _ _ _
 have xv:∀ hs sz L,bG [0] (bC [0] hs) (upd H' [0,1] (some (.farr sz L)))=True:=fun hs sz L=>by rw[<-dF,lu];exact bj _ _ _
 simp only[go_sem]
 repeat refine sq ?_
 refine rx hΓ [0,1,5,6,19] [] (fun K' hK=>by simp only[go_sem,cw,dm,h0];(repeat (refine⟨ao,?_⟩));exact hK _ (by simp only[go_sem,cw,dm,h0]) (by simp only[go_sem,cw,dm,h0]<;>rfl)) ?_
 repeat refine sq ?_
 refine au (fun hb=>?_) fun hb=>?_
 ·have aa:j<l.length:=by simpa using hb
  have nE:j<A.length:=by omega
  have jo:i<A.length:=by omega
  have xf:(i:Int)<l.length:=by omega
  have an:(j:Int)<l.length:=by omega
  have nS:A[j]=l[j]:=by
   have h1:A[j]=(A.drop j)[0]'(by simp;omega):=by simp
   rw[h1]
   simp only[hD]
   simp
  clear hb
  repeat refine sq ?_
  refine ay ?_
  repeat refine sq ?_
  refine aC ?_
  repeat refine sq ?_
  refine rx hΓ [0,1,5,6,7] [[7,0]] (fun K' hK=>by simp only[go_sem,cw,dm,h0,ae nE,ah,aj,an,hA,nS];(repeat (refine⟨ao,?_⟩));exact hK _ (by simp only[go_sem,cw,dm,h0,ae nE,ah,aj,an,hA,nS]) (by simp only[go_sem,cw,dm,h0,ae nE,ah,aj,an,hA,nS]<;>rfl)) ?_
  repeat refine sq ?_
  refine rx hΓ [0,1,5,6,7,29] [[7,0]] (fun K' hK=>by simp only[go_sem,cw,dm,h0,hg,hs,hp];(repeat (refine⟨ao,?_⟩));exact hK _ (by simp only[go_sem,cw,dm,h0,hg,hs,hp]) (by simp only[go_sem,cw,dm,h0,hg,hs,hp]<;>rfl)) ?_
  repeat refine sq ?_
  refine au (fun hb=>?_) fun hb=>?_
  ·have pJ:p l[j]=false:=by simpa using hb
   clear hb
   repeat refine sq ?_
   refine rv hΓ [0,1,5,6] [] fun K' hK=>?_
   simp only[go_sem,cw,dm,h0,ah,aj,xf,hA]
   repeat' apply And.intro
   all_goals first | rfl | omega | exact Int.le_refl _ | exact Bool.or_not_self _ | exact Bool.not_or_self _ | exact nU _ | exact nV _ | exact fun x hx=>(nU _ x hx).1 | exact fun x hx=>(nV _ x hx).1 | (simp only[List.length_take,List.length_append,List.length_map,List.length_drop,List.length_cons,List.length_nil];done) | (simp only[List.length_take,List.length_append,List.length_map,List.length_drop,List.length_cons,List.length_nil];omega) | (simp only[List.length_take,List.length_append,List.length_map,List.length_drop,List.length_cons,List.length_nil,maxLen];omega) | (exact fun _=>by decide) | (exact fun h=>⟨h,by decide⟩) | (simp only[decide_eq_true_eq];omega) | skip
   refine hK _ ?_ ?_
   ·simp only[go_sem,cw,dm]
   clear K' hK
   simp only[go_sem]
   obtain⟨H2,nR⟩:∃ H2,upd H' [0,1] (some (O.arr 7 ((List.map encR A).set i (encR l[j]))))=H2:=⟨_,rfl⟩
   have rh:=nR
   simp only[encR]at rh
   rw[rh]
   have nP:∀ hs,bG [0] (bC [0] hs) H2=True:=fun hs=>by rw[<-nR];exact dm _ _ _
   repeat refine sq ?_
   refine aI hΓ fun K' hK=>?_
   simp only[go_sem]
   repeat (refine⟨ao,?_⟩)
   refine hK _ ?_
   clear K' hK
   simp only[go_sem]
   refine dv [0,1,5,6] [] ?_ ?_
   ·simp only[go_sem,nP]
   simp only[go_sem,nP]
   repeat refine sq ?_
   refine aI hΓ fun K' hK=>?_
   simp only[go_sem]
   repeat (refine⟨ao,?_⟩)
   refine hK _ ?_
   clear K' hK
   simp only[go_sem]
   refine⟨(i+1,j+1,A.set i l[j]),⟨(show i+1<j+1 by omega),aa,by simpa using hA,?_,?_⟩,(show l.length-(j+1)<l.length-j by omega),?_⟩
   ·show (A.set i l[j]).take (i+1)=bV p (l.take (j+1))
    unfold bV at hT |-
    rw[List.take_add_one (l:=l),List.getElem?_eq_getElem aa,List.filter_append,<-hT]
    simp only[Option.toList_some,List.filter_cons,pJ,Bool.not_false,if_true,List.filter_nil]
    rw[List.take_add_one,List.take_set_of_le (Nat.le_refl i),List.getElem?_set_self jo]
    rfl
   ·show (A.set i l[j]).drop (j+1)=l.drop (j+1)
    rw[List.drop_set_of_lt (show i<j+1 by omega)]
    have :=congrArg (List.drop 1) hD
    simpa[List.drop_drop]using this
   ·refine aT [0,1,5,6] [] ?_ ?_
    ·simp only[go_sem,nP]
    ·simp only[go_sem,aO aa hm,aO (show i<l.length by omega) hm,aQ]
     rw[<-nR,<-dF,lu,List.map_set]
     try rfl
  ·have wZ:p l[j]=true:=by simpa using hb
   clear hb
   repeat refine sq ?_
   refine ay ?_
   refine br ?_
   simp only[go_sem]
   refine dv [0,1,5,6] [] ?_ ?_
   ·simp only[go_sem,cw]
   simp only[go_sem,cw]
   repeat refine sq ?_
   refine aI hΓ fun K' hK=>?_
   simp only[go_sem]
   repeat (refine⟨ao,?_⟩)
   refine hK _ ?_
   clear K' hK
   simp only[go_sem]
   refine⟨(i,j+1,A),⟨(show i<j+1 by omega),aa,hA,?_,?_⟩,(show l.length-(j+1)<l.length-j by omega),?_⟩
   ·show A.take i=bV p (l.take (j+1))
    unfold bV at hT |-
    rw[List.take_add_one (l:=l),List.getElem?_eq_getElem aa,List.filter_append,<-hT]
    simp only[Option.toList_some,List.filter_cons,wZ,Bool.not_true,Bool.false_eq_true,if_false,List.filter_nil,List.append_nil]
   ·show A.drop (j+1)=l.drop (j+1)
    have :=congrArg (List.drop 1) hD
    simpa[List.drop_drop]using this
   ·refine aT [0,1,5,6] [] ?_ ?_
    ·simp only[go_sem,cw]
    ·simp only[go_sem,aO aa hm,aQ]
     rw[<-dF]
 ·have aV:j=l.length:=by
    have :¬ (j:Int)<l.length:=by simpa using hb
    omega
  subst aV
  clear hb
  rw[List.take_length]at hT
  have jo:i<A.length:=by omega
  repeat refine sq ?_
  refine be ?_
  simp only[go_sem]
  refine dv [0,5] [] ?_ ?_
  ·simp only[go_sem,cw]
  simp only[go_sem,cw]
  repeat refine sq ?_
  refine FD hΓ [0,5] [] fun K' hK=>?_
  refine uw ?_ (uw ?_ (.cut (T:=27) (x:=.tmp 36) (lo:=.tmp 37) (c:=38) rfl rfl ?_ ?_ ?_ ?_ (.nil ?_)))
  ·simp only[go_sem]
  ·simp only[go_sem]
  ·simp only[go_sem]
  ·simp only[go_sem]
  ·simp only[go_sem]
  ·have xl:=fun (obj:Name->Option O) (h:obj [0,1]=_)=>Fx (obj:=obj) (nm:=[0,1]) (k:=l.length) (i:=i) (L:=A.map encR) h (by simpa using hA.symm) (by simpa using jo)
   simp only[go_sem,jz,F0,xl,h0]
  ·refine hK _ ?_ ?_
   ·simp only[go_sem,mH,jz,F0,Fx (obj:=fun nm=>if own [0] nm=true then none else H' nm) (nm:=[0,1]) (k:=l.length) (i:=i) (L:=A.map encR) h0 (by simpa using hA.symm) (by simpa using jo),dm]
   clear K' hK
   simp only[go_sem,mH,jz,F0,Fx (obj:=fun nm=>if own [0] nm=true then none else H' nm) (nm:=[0,1]) (k:=l.length) (i:=i) (L:=A.map encR) h0 (by simpa using hA.symm) (by simpa using jo)]
   have du:(bV p l).length=i:=by rw[<-hT,List.length_take];omega
   have nN:(List.take i (List.map encR A)++List.replicate (A.length-i) (encR ew))=XX:=by
    rw[<-gZ]
    unfold ee
    rw[du,<-hT,List.map_take,hA]
   have My:XX.length=l.length:=by rw[<-gZ];unfold ee;simp;omega
   have xr:XX.take i=(bV p l).map encR:=by
    rw[<-gZ]
    unfold ee
    rw[List.take_append_of_le_length (by simp;omega),List.take_of_length_le (by simp;omega)]
   have xq:∀ x∈XX,x.cells.length=7:=by
    intro x hx
    rw[<-gZ]at hx
    rcases List.mem_append.1 hx with h | h
    ·obtain⟨y,_,rfl⟩:=List.mem_map.1 h;rfl
    ·rw[(List.mem_replicate.1 h).2];rfl
   simp only[encR]at nN
   rw[nN]
   clear nN
   clear gZ
   generalize XX=Z at *
   simp only[V.cells]at xq
   generalize nQ:upd H' [0,1] (some (O.arr 7 Z))=H3
   have xx:H3 [0,1]=some (.arr 7 Z):=by rw[<-nQ,aU]
   have MJ:∀ i,H3 [i+1,1]=H [i+1,1]:=fun i=>by rw[<-nQ,ba _ _ _ (by simp)];exact pX i
   have xu:∀ hs sz L,bG [0] (bC [0] hs) (upd H3 [0,1] (some (.farr sz L)))=True:=fun hs sz L=>by rw[<-nQ,lu];exact xv _ _ _
   have xe:(i:Int)<=l.length:=by omega
   repeat refine sq ?_
   refine rv hΓ [4] [] fun K' hK=>?_
   simp only[go_sem,xx,GZ,ah,aj,xe]
   repeat' apply And.intro
   all_goals first | rfl | omega | exact Int.le_refl _ | exact Bool.or_not_self _ | exact Bool.not_or_self _ | exact nU _ | exact nV _ | exact fun x hx=>(nU _ x hx).1 | exact fun x hx=>(nV _ x hx).1 | (simp only[List.length_take,List.length_append,List.length_map,List.length_drop,List.length_cons,List.length_nil];done) | (simp only[List.length_take,List.length_append,List.length_map,List.length_drop,List.length_cons,List.length_nil];omega) | (simp only[List.length_take,List.length_append,List.length_map,List.length_drop,List.length_cons,List.length_nil,maxLen];omega) | (exact fun _=>by decide) | (exact fun h=>⟨h,by decide⟩) | (simp only[decide_eq_true_eq];omega) | skip
   refine hK _ ?_ ?_
   ·simp only[go_sem,xu]
   clear K' hK
   simp only[go_sem]
   refine aq ?_
   simp only[go_sem,xr]
   exact .inr trivial
def delCR:CSpec where
 pre:=fun os ds=>∃ (l:List xY) (g:Nat×Int),os=[.arr 7 (l.map encR)]/\ds=[.msl [0,1] l.length,.clo (.func g.1) [] [.v (.ptr [vInt g.2])]]/\l.length<1000000/\pn g
 out:=fun os ds=>match os,ds with
  |[.arr _ L],[_,.clo (.func g) _ [.v (.ptr [.int _ k])]]=>⟨[(0,.farr 7 (ee encR (encR ew) (fq (g,k)) (L.map i4)))],[],.v (.sl ((bV (fq (g,k)) (L.map i4)).map encR))⟩
  |_,_=>⟨[],[],.any⟩
def ta(obj:Name->Option O)(_:Name):List D->R
 |[.msl nm k,.clo (.func g) [] [.v (.ptr [.int .i64 q])]]=>match obj nm with
  |some (.arr 7 L)=>⟨k=L.length/\L.length<1000000/\(L.map i4).map encR=L/\pn (g,q),.v (.sl ((bV (fq (g,q)) (L.map i4)).map encR)),upd obj nm (some (.farr 7 (ee encR (encR ew) (fq (g,q)) (L.map i4))))⟩
  |_=>.bad obj
 |_=>.bad obj
def Ar(_:Name->Option O)(_:Name):List D->List Name
 | .msl nm _::_=>[nm]
 |_=>[]
def S87:Spec:=⟨ta,Ar,Ar⟩
attribute [go_sem] S87 ta
theorem ZQ:S87.Near:=by
 refine sb fun obj obj2 t ds ha=>⟨rfl,?_⟩
 have fx:∀ wr,bX wr obj obj2->cb (R.bad obj) (R.bad obj2) obj obj2 wr:=fun wr h=>.none wr h
 unfold ta
 split
 ·rename_i nm k g q
  have h1:obj2 nm=obj nm:=ha nm (by simp[Ar])
  simp only[h1]
  split
  ·exact .one (by simp[Ar]) ha
  ·exact fx _ ha
 ·exact fx _ ha
theorem WR:aM Tryz.prog 87 delCR.toSpec:=by
 refine mI (nt:=42) (rs:=[.tmp 4]) Tryz.func87 rfl (by rfl) (by kernel_rfl) (iz Tryz.func87 rfl (by kernel_rfl)) (ke _ (by decide)) ?_
 rintro os ds ⟨l,g,rfl,rfl,hl,ab⟩
 refine⟨lb rfl,?_⟩
 have fw:delCR.out [.arr 7 (l.map encR)] [.msl [0,1] l.length,.clo (.func g.1) [] [.v (.ptr [vInt g.2])]]=⟨[(0,.farr 7 (ee encR (encR ew) (fq g) l))],[],.v (.sl ((bV (fq g) l).map encR))⟩:=by
  simp only[delCR,vv]
 rw[fw]
 have bD:∀ hs,bG [0] (bC [0] hs) (aS [.arr 7 (l.map encR)])=True:=fun hs=>eq_true (lE (by
  intro o ho dom hd
  simp only[List.mem_singleton]at ho
  subst ho
  rfl) hs)
 obtain⟨c,hc,h⟩:=PS ab (H:=aS [.arr 7 (l.map encR)]) hl rfl bD (fun hs sz L=>eq_true (oe rfl (by rw[bD];trivial))) (fun hs sz L=>eq_true (oe rfl (by rw[bD];trivial)))
 have xo:∀ c2,Tryz.f87.body=some c2->c2=c:=fun c2 h2=>by rw[h2]at hc;exact Option.some.inj hc
 rw[<-xo _ rfl]at h
 refine CW.mono (gr h) ?_
 rintro e σ ⟨he,h1,h2,h3⟩
 have fin:(b9 Tryz.prog σ [.tmp 4]).ok/\(b9 Tryz.prog σ [.tmp 4]).d=.v (.sl ((bV (fq g) l).map encR))/\gq [.arr 7 (l.map encR)] ⟨[(0,.farr 7 (ee encR (encR ew) (fq g) l))],[],.v (.sl ((bV (fq g) l).map encR))⟩ σ:=
  ⟨h1,h2,⟨h3,trivial⟩,trivial,rfl⟩
 rcases he with rfl | rfl
 ·exact fin
 ·exact fin
theorem WS:aM Tryz.prog 87 S87:=by
 refine rS WR ZQ (ke _ (by decide)) fun obj t ds ab=>?_
 change (ta obj t ds).ok at ab
 refine⟨ds,rfl,fun _ _ _ _ h=>h,?_⟩
 show _/\_=(ta obj t ds).d/\_=(ta obj t ds).obj
 unfold ta at ab |-
 split at ab
 ·rename_i nm k g q
  split at ab
  ·rename_i L ho
   obtain⟨rfl,hl,he,hg⟩:=ab
   have hr:reach obj [.msl nm L.length,.clo (.func g) [] [.v (.ptr [.int .i64 q])]]=[nm]:=by
    unfold reach
    show c6 obj (2998+1+1) [nm] []=[nm]
    simp only[c6,cv,List.any_nil,Bool.false_eq_true,if_false,ho,jK,List.nil_append]
   have i0:idx [nm] nm=0:=by simp[idx]
   have e1:cJ obj [.msl nm L.length,.clo (.func g) [] [.v (.ptr [.int .i64 q])]]=[.arr 7 L]:=by
    unfold cJ
    rw[hr]
    simp only[List.map_cons,List.map_nil,cP,ho,O.ren]
   have e2:cY obj [.msl nm L.length,.clo (.func g) [] [.v (.ptr [.int .i64 q])]]=[.msl [0,1] L.length,.clo (.func g) [] [.v (.ptr [.int .i64 q])]]:=by
    unfold cY
    rw[hr]
    simp only[D.renL,D.ren,cin,i0]
   have e3:(shut obj [nm]&&D.closL (cv [nm]) [.msl nm L.length,.clo (.func g) [] [.v (.ptr [.int .i64 q])]]&&fresh obj t [])=true:=by
    simp[shut,ho,O.clos,D.closL,D.clos,cv,fresh]
   have dJ:delCR.pre [.arr 7 L] [.msl [0,1] L.length,.clo (.func g) [] [.v (.ptr [.int .i64 q])]]:=⟨L.map i4,(g,q),by rw[he],by rw[List.length_map],by rw[List.length_map];exact hl,hg⟩
   have fw:delCR.out [.arr 7 L] [.msl [0,1] L.length,.clo (.func g) [] [.v (.ptr [.int .i64 q])]]=⟨[(0,.farr 7 (ee encR (encR ew) (fq (g,q)) (L.map i4)))],[],.v (.sl ((bV (fq (g,q)) (L.map i4)).map encR))⟩:=rfl
   simp only[CSpec.toSpec,e1,e2,hr,fw,e3,dJ,ho,and_self,dE]
   exact⟨trivial,rfl,rfl⟩
  ·exact ab.elim
 ·exact ab.elim
def Gr:FuncId->Option Spec:=tbl KDT
theorem Pl:∀ f s,Gr f=some s->aM Tryz.prog f s:=ab'
theorem IS{g:Nat×Int}(h:pk g):∃ s,Gr g.1=some s/\(¬ g.1=1000000000)/\(∀ obj t (x:xW),s.app obj t [.v (encT x),.v (.ptr [vInt g.2])]=⟨True,.v (.bool (fm g x)),obj⟩)/\
 ∀ obj t (x:xW),s.app obj t [.agg ((encT x).cells.map .v),.v (.ptr [vInt g.2])]=⟨True,.v (.bool (fm g x)),obj⟩:=by
 obtain⟨g,k⟩:=g
 rcases h with rfl | rfl
 all_goals exact⟨_,rfl,(by simp),fun obj t x=>by simp only[go_sem,fm];try rfl,fun obj t x=>by simp only[go_sem,fm,encT];try rfl⟩
theorem FZ:(#[28]:Array Nat).getD 0 0=28:=rfl
theorem Py:((bu Tryz.prog 40).bind fun z=>el (iN z))=some (encT oh):=by rw[PZ];rfl
theorem Fw{obj:Name->Option O}{nm:Name}{k i:Nat}{L:List V}(h:obj nm=some (.arr 8 L))(hk:k=L.length)(hi:i<L.length):
 jD Tryz.prog obj 28 28 (.msl nm k) (.v (vInt i))=⟨True,.any,upd obj nm (some (.arr 8 (L.take i++List.replicate (L.length-i) (encT oh))))⟩:=by
 unfold jD
 simp only[GY,h,Py,ah]
 congr 1
 simp only[eq_iff_iff,iff_true]
 exact⟨hk,by omega,hi,trivial,rfl,rfl,trivial,by decide⟩
theorem Qy:aL Tryz.prog 180 (p2 (cW iT) e8 (fun _ g=>pk g) (fun l g=>vInt (cf (fm g) l)) true):=by
 refine cK (rs:=[.tmp 4]) Tryz.func180 Tryz.ntmps180 fun l g hp hw=>?_
 simp only[e8,iT,cW]at hw |-
 have hΓ:=Pl
 have hl:l.length<=maxLen:=by have:=hw.1.1;simpa using this
 obtain⟨s_,hs,hy,ha,_⟩:=IS hp
 simp only[encT]at ha
 repeat refine sq ?_
 refine rx hΓ [0,1] [] (fun K' hK=>by simp only[go_sem];exact ak) ?_
 repeat refine sq ?_
 refine rx hΓ [0,1,7,8] [] (fun K' hK=>by simp only[go_sem];exact ak) ?_
 repeat refine sq ?_
 refine aC ?_
 repeat refine sq ?_
 refine bA (fun s:Nat=>[(8,⟨true,.v (vInt s)⟩)]) (fun s=>[]) (fun s=>s<=l.length/\∀ k (h:k<l.length),k<s->fm g l[k]=false) (fun s=>l.length-s) 0 ?_ ?_ ?_ ?_
 ·exact⟨Nat.zero_le _,by simp⟩
 ·rfl
 ·rfl
 rintro i ⟨hi,hR⟩
 simp only[go_sem]
 repeat refine sq ?_
 refine rx hΓ [0,1,7,8,9] [] (fun K' hK=>by simp only[go_sem];exact ak) ?_
 repeat refine sq ?_
 refine au (fun hb=>?_) fun hb=>?_
 ·have aa:i<l.length:=by simpa using hb
  have an:(i:Int)<l.length:=by omega
  clear hb
  repeat refine sq ?_
  refine ay ?_
  repeat refine sq ?_
  refine aC ?_
  repeat refine sq ?_
  refine rx hΓ [0,1,5,7,8] [] (fun K' hK=>by simp only[go_sem,ae aa,ah,aj,an];exact ak) ?_
  repeat refine sq ?_
  refine rx hΓ [0,1,5,7,8,16] [] (fun K' hK=>by simp only[go_sem,ae aa,ah,aj,an,hs,hy,ha];exact ak) ?_
  repeat refine sq ?_
  refine au (fun hb=>?_) fun hb=>?_
  ·repeat refine sq ?_
   refine rx hΓ [4] [] (fun K' hK=>by simp only[go_sem,ae aa,ah,aj,an];exact ak) ?_
   refine aq ?_
   simp only[go_sem]
   rw[lM (p:=fm g) aa (by simpa using hb) hR]
  ·repeat refine sq ?_
   refine ay ?_
   refine br ?_
   simp only[go_sem]
   refine kp [0,1,7,8] [] ?_
   repeat refine sq ?_
   refine aI hΓ fun K' hK=>?_
   simp only[go_sem,ae aa,ah,aj,an]
   repeat (refine⟨ao,?_⟩)
   refine hK _ ?_
   clear K' hK
   simp only[go_sem]
   refine⟨i+1,⟨aa,?_⟩,by(show l.length-(i+1)<l.length-i;omega),?_⟩
   ·intro k hk du
    rcases Nat.lt_succ_iff_lt_or_eq.1 du with h5 | rfl
    ·exact hR k hk h5
    ·simpa using hb
   refine aT [0,1,7,8] [] ?_ ?_<;>simp only[go_sem,aO aa hl,aQ]
 ·have aV:i=l.length:=by
   have :¬ (i:Int)<l.length:=by simpa using hb
   omega
  clear hb
  subst aV
  repeat refine sq ?_
  refine be ?_
  simp only[go_sem]
  refine kp [] [] ?_
  repeat refine sq ?_
  refine rx hΓ [4] [] (fun K' hK=>by simp only[go_sem];exact ak) ?_
  refine aq ?_
  simp only[go_sem]
  rw[oG (p:=fm g) fun k hk=>hR k hk hk]
set_option maxRecDepth 10000 in
theorem PR{g:Nat×Int}(ab:pk g){H:Name->Option O}{l:List xW}(hl:l.length<1000000)(fz:H [0,1]=some (.arr 8 (l.map encT)))(bD:∀ hs,bG [0] (bC [0] hs) H=True)(ai:∀ hs sz L,bG [0] (bC [0] hs) (upd H [0,1] (some (.arr sz L)))=True)(bj:∀ hs sz L,bG [0] (bC [0] hs) (upd H [0,1] (some (.farr sz L)))=True):
 ∃ c,Tryz.f89.body=some c/\CL Tryz.prog [c] (bm 42 [0] H [(0,⟨true,.msl [0,1] l.length⟩),(1,⟨true,.clo (.func g.1) [] [.v (.ptr [vInt g.2])]⟩)] []) (fun e σ=>(e=.normal\/e=.ret)/\(σ.env 4).c=true/\
   (σ.env 4).d=.v (.sl ((bV (fm g) l).map encT))/\σ.obj [0,1]=some (.farr 8 (ee encT (encT oh) (fm g) l))):=by
 obtain⟨sG,hs,hg,_,hp⟩:=IS ab
 obtain⟨Γ,sI,hΓ,hs,hI,hi⟩:∃ (Γ:FuncId->Option Spec) (sI:Spec),(∀ f s,Γ f=some s->aM Tryz.prog f s)/\Γ g.1=some sG/\Γ 180=some sI/\
  ∀ (obj:Name->Option O) (t:Name),obj [0,1]=some (.arr 8 (l.map encT))->sI.app obj t [.msl [0,1] l.length,.clo (.func g.1) [] [.v (.ptr [vInt g.2])]]=⟨True,.v (vInt (cf (fm g) l)),obj⟩:=by
  refine⟨fun f=>if f=180 then some (p2 (cW iT) e8 (fun _ g=>pk g) (fun l g=>vInt (cf (fm g) l)) true).toSpec else Gr f,_,fun f s h=>?_,?_,rfl,fun obj t e=>?_⟩
  ·dsimp only at h
   split at h
   ·rename_i e;cases h;subst e;exact Qy.sound
   ·exact Pl _ _ h
  ·dsimp only
   rw[if_neg (by intro e;have h':=ab;unfold pk at h';simp[e]at h')];exact hs
  ·have eN:pk (g.1,g.2):=ab
   simp only[go_sem,e,eN,List.length_map,xG]
 generalize gZ:ee encT (encT oh) (fm g) l=XX
 generalize LW:fm g=p at *
 simp only[encT,V.cells,List.map_cons,List.map_nil]at hp
 refine⟨_,rfl,?_⟩
 have hm:l.length<=maxLen:=by unfold maxLen;omega
 repeat refine sq ?_
 refine rx hΓ [0,1] [] (fun K' hK=>by simp only[go_sem,bD];(repeat (refine⟨ao,?_⟩));exact hK _ (by simp only[go_sem,bD]) (by simp only[go_sem,bD]<;>rfl)) ?_
 repeat refine sq ?_
 refine rx hΓ [0,1,5] [] (fun K' hK=>by simp only[go_sem,bD,hI,hi,fz,implies_true];(repeat (refine⟨ao,?_⟩));exact hK _ (by simp only[go_sem,bD,hI,hi,fz,implies_true]) (by simp only[go_sem,bD,hI,hi,fz,implies_true]<;>rfl)) ?_
 repeat refine sq ?_
 refine rx hΓ [0,1,5,12] [] (fun K' hK=>by simp only[go_sem,bD];(repeat (refine⟨ao,?_⟩));exact hK _ (by simp only[go_sem,bD]) (by simp only[go_sem,bD]<;>rfl)) ?_
 repeat refine sq ?_
 refine au (fun hb=>?_) fun hb=>?_
 ·repeat refine sq ?_
  refine rx hΓ [4] [] (fun K' hK=>by simp only[go_sem,bD];(repeat (refine⟨ao,?_⟩));exact hK _ (by simp only[go_sem,bD]) (by simp only[go_sem,bD]<;>rfl)) ?_
  refine bH (cZ 4 (.msl [0,1] l.length) (by simp only[go_sem]) (by simp only[go_sem,fz,List.length_map]) [4] [] ?_ rfl) ?_
  ·simp only[go_sem,fz,bj]
  simp only[go_sem,fz]
  refine aq ?_
  simp only[go_sem,fz]
  have cr:cf p l= -1:=by simpa using hb
  have eO:∀ d∈l,p d=false:=by
   unfold cf at cr
   split at cr
   ·omega
   ·rename_i hn
    intro d hd
    cases jS:p d with
    |false=>rfl
    |true=>exact(hn (List.any_eq_true.2 ⟨d,hd,jS⟩)).elim
  have hk:bV p l=l:=List.filter_eq_self.2 fun d hd=>by rw[eO d hd];rfl
  have qY:XX=l.map encT:=by rw[<-gZ];unfold ee;rw[hk];simp
  rw[hk,qY]
  exact⟨.inr trivial,rfl,rfl⟩
 have hf:l.findIdx p<l.length:=by
  have cr:¬ cf p l= -1:=by simpa using hb
  unfold cf at cr
  split at cr
  ·rename_i ir
   exact List.findIdx_lt_length_of_exists (by obtain⟨y,hy,hp⟩:=List.any_eq_true.1 ir;exact⟨y,hy,hp⟩)
  ·exact(cr rfl).elim
 have im:cf p l=(l.findIdx p:Int):=by unfold cf;rw[if_pos (List.any_eq_true.2 ⟨_,List.getElem_mem hf,List.findIdx_getElem (w:=hf)⟩)]
 rw[im]
 clear hb im hi hI
 have w6:p (l[l.findIdx p])=true:=List.findIdx_getElem (w:=hf)
 have qU:∀ j (h:j<l.length),j<l.findIdx p->p l[j]=false:=fun j h hj=>by simpa using List.not_of_lt_findIdx hj
 generalize l.findIdx p=f at *
 repeat refine sq ?_
 refine ay ?_
 repeat refine sq ?_
 refine rx hΓ [0,1,5,6] [] (fun K' hK=>by simp only[go_sem,bD,aO hf hm,aQ];(repeat (refine⟨ao,?_⟩));exact hK _ (by simp only[go_sem,bD,aO hf hm,aQ]) (by simp only[go_sem,bD,aO hf hm,aQ]<;>rfl)) ?_
 repeat refine sq ?_
 refine aC ?_
 repeat refine sq ?_
 refine AJ (fun x:Nat×Nat×List xW=>upd H [0,1] (some (.arr 8 (x.2.2.map encT)))) (fun x=>[(5,⟨true,.v (vInt x.1)⟩),(6,⟨true,.v (vInt x.2.1)⟩)]) (fun x=>[]) (fun x=>x.1<x.2.1/\x.2.1<=l.length/\x.2.2.length=l.length/\x.2.2.take x.1=bV p (l.take x.2.1)/\x.2.2.drop x.2.1=l.drop x.2.1) (fun x=>l.length-x.2.1) (f,f+1,l) ?_ ?_ ?_ ?_ ?_
 ·refine⟨(show f<f+1 by omega),hf,rfl,?_,rfl⟩
  show l.take f=bV p (l.take (f+1))
  unfold bV
  rw[List.take_add_one,List.getElem?_eq_getElem hf,List.filter_append]
  simp only[Option.toList_some,List.filter_cons,w6,Bool.not_true,Bool.false_eq_true,if_false,List.filter_nil,List.append_nil]
  rw[List.filter_eq_self.2]
  intro d hd
  obtain⟨j,hj,rfl⟩:=List.getElem_of_mem hd
  have dp:j<f:=by simp at hj;omega
  rw[List.getElem_take,qU j (by omega) dp]
  rfl
 ·congr 1
  rw[<-fz]
  funext x
  by_cases e:x=[0,1]
  ·subst e;rw[aU]
  ·rw[ba _ _ _ e]
 ·rfl
 ·rfl
 clear qU
 rintro⟨i,j,A⟩ ⟨b7,hj,hA,hT,hD⟩
 simp only at b7 hj hA hT hD
 dsimp only
 generalize dF:upd H [0,1] (some (O.arr 8 (List.map encT A)))=H'
 have h0:H' [0,1]=some (.arr 8 (A.map encT)):=by rw[<-dF,aU]
 have pX:∀ i,H' [i+1,1]=H [i+1,1]:=fun i=>by rw[<-dF,ba _ _ _ (by simp)]
 have cw:∀ hs,bG [0] (bC [0] hs) H'=True:=fun hs=>by rw[<-dF];exact ai _ _ _
 have dm:∀ hs sz L,bG [0] (bC [0] hs) (upd H' [0,1] (some (.arr sz L)))=True:=fun hs sz L=>by rw[<-dF,lu];exact ai _ _ _
 have xv:∀ hs sz L,bG [0] (bC [0] hs) (upd H' [0,1] (some (.farr sz L)))=True:=fun hs sz L=>by rw[<-dF,lu];exact bj _ _ _
 simp only[go_sem]
 repeat refine sq ?_
 refine rx hΓ [0,1,5,6,19] [] (fun K' hK=>by simp only[go_sem,cw,dm,h0];(repeat (refine⟨ao,?_⟩));exact hK _ (by simp only[go_sem,cw,dm,h0]) (by simp only[go_sem,cw,dm,h0]<;>rfl)) ?_
 repeat refine sq ?_
 refine au (fun hb=>?_) fun hb=>?_
 ·have aa:j<l.length:=by simpa using hb
  have nE:j<A.length:=by omega
  have jo:i<A.length:=by omega
  have xf:(i:Int)<l.length:=by omega
  have an:(j:Int)<l.length:=by omega
  have nS:A[j]=l[j]:=by
   have h1:A[j]=(A.drop j)[0]'(by simp;omega):=by simp
   rw[h1]
   simp only[hD]
   simp
  clear hb
  repeat refine sq ?_
  refine ay ?_
  repeat refine sq ?_
  refine aC ?_
  repeat refine sq ?_
  refine rx hΓ [0,1,5,6,7] [[7,0]] (fun K' hK=>by simp only[go_sem,cw,dm,h0,ae nE,ah,aj,an,hA,nS];(repeat (refine⟨ao,?_⟩));exact hK _ (by simp only[go_sem,cw,dm,h0,ae nE,ah,aj,an,hA,nS]) (by simp only[go_sem,cw,dm,h0,ae nE,ah,aj,an,hA,nS]<;>rfl)) ?_
  repeat refine sq ?_
  refine rx hΓ [0,1,5,6,7,29] [[7,0]] (fun K' hK=>by simp only[go_sem,cw,dm,h0,hg,hs,hp];(repeat (refine⟨ao,?_⟩));exact hK _ (by simp only[go_sem,cw,dm,h0,hg,hs,hp]) (by simp only[go_sem,cw,dm,h0,hg,hs,hp]<;>rfl)) ?_
  repeat refine sq ?_
  refine au (fun hb=>?_) fun hb=>?_
  ·have pJ:p l[j]=false:=by simpa using hb
   clear hb
   repeat refine sq ?_
   refine rv hΓ [0,1,5,6] [] fun K' hK=>?_
   simp only[go_sem,cw,dm,h0,ah,aj,xf,hA]
   repeat' apply And.intro
   all_goals first | rfl | omega | exact Int.le_refl _ | exact Bool.or_not_self _ | exact Bool.not_or_self _ | exact nU _ | exact nV _ | exact fun x hx=>(nU _ x hx).1 | exact fun x hx=>(nV _ x hx).1 | (simp only[List.length_take,List.length_append,List.length_map,List.length_drop,List.length_cons,List.length_nil];done) | (simp only[List.length_take,List.length_append,List.length_map,List.length_drop,List.length_cons,List.length_nil];omega) | (simp only[List.length_take,List.length_append,List.length_map,List.length_drop,List.length_cons,List.length_nil,maxLen];omega) | (exact fun _=>by decide) | (exact fun h=>⟨h,by decide⟩) | (simp only[decide_eq_true_eq];omega) | skip
   refine hK _ ?_ ?_
   ·simp only[go_sem,cw,dm]
   clear K' hK
   simp only[go_sem]
   obtain⟨H2,nR⟩:∃ H2,upd H' [0,1] (some (O.arr 8 ((List.map encT A).set i (encT l[j]))))=H2:=⟨_,rfl⟩
   have rh:=nR
   simp only[encT]at rh
   rw[rh]
   have nP:∀ hs,bG [0] (bC [0] hs) H2=True:=fun hs=>by rw[<-nR];exact dm _ _ _
   repeat refine sq ?_
   refine aI hΓ fun K' hK=>?_
   simp only[go_sem]
   repeat (refine⟨ao,?_⟩)
   refine hK _ ?_
   clear K' hK
   simp only[go_sem]
   refine dv [0,1,5,6] [] ?_ ?_
   ·simp only[go_sem,nP]
   simp only[go_sem,nP]
   repeat refine sq ?_
   refine aI hΓ fun K' hK=>?_
   simp only[go_sem]
   repeat (refine⟨ao,?_⟩)
   refine hK _ ?_
   clear K' hK
   simp only[go_sem]
   refine⟨(i+1,j+1,A.set i l[j]),⟨(show i+1<j+1 by omega),aa,by simpa using hA,?_,?_⟩,(show l.length-(j+1)<l.length-j by omega),?_⟩
   ·show (A.set i l[j]).take (i+1)=bV p (l.take (j+1))
    unfold bV at hT |-
    rw[List.take_add_one (l:=l),List.getElem?_eq_getElem aa,List.filter_append,<-hT]
    simp only[Option.toList_some,List.filter_cons,pJ,Bool.not_false,if_true,List.filter_nil]
    rw[List.take_add_one,List.take_set_of_le (Nat.le_refl i),List.getElem?_set_self jo]
    rfl
   ·show (A.set i l[j]).drop (j+1)=l.drop (j+1)
    rw[List.drop_set_of_lt (show i<j+1 by omega)]
    have :=congrArg (List.drop 1) hD
    simpa[List.drop_drop]using this
   ·refine aT [0,1,5,6] [] ?_ ?_
    ·simp only[go_sem,nP]
    ·simp only[go_sem,aO aa hm,aO (show i<l.length by omega) hm,aQ]
     rw[<-nR,<-dF,lu,List.map_set]
     try rfl
  ·have wZ:p l[j]=true:=by simpa using hb
   clear hb
   repeat refine sq ?_
   refine ay ?_
   refine br ?_
   simp only[go_sem]
   refine dv [0,1,5,6] [] ?_ ?_
   ·simp only[go_sem,cw]
   simp only[go_sem,cw]
   repeat refine sq ?_
   refine aI hΓ fun K' hK=>?_
   simp only[go_sem]
   repeat (refine⟨ao,?_⟩)
   refine hK _ ?_
   clear K' hK
   simp only[go_sem]
   refine⟨(i,j+1,A),⟨(show i<j+1 by omega),aa,hA,?_,?_⟩,(show l.length-(j+1)<l.length-j by omega),?_⟩
   ·show A.take i=bV p (l.take (j+1))
    unfold bV at hT |-
    rw[List.take_add_one (l:=l),List.getElem?_eq_getElem aa,List.filter_append,<-hT]
    simp only[Option.toList_some,List.filter_cons,wZ,Bool.not_true,Bool.false_eq_true,if_false,List.filter_nil,List.append_nil]
   ·show A.drop (j+1)=l.drop (j+1)
    have :=congrArg (List.drop 1) hD
    simpa[List.drop_drop]using this
   ·refine aT [0,1,5,6] [] ?_ ?_
    ·simp only[go_sem,cw]
    ·simp only[go_sem,aO aa hm,aQ]
     rw[<-dF]
 ·have aV:j=l.length:=by
    have :¬ (j:Int)<l.length:=by simpa using hb
    omega
  subst aV
  clear hb
  rw[List.take_length]at hT
  have jo:i<A.length:=by omega
  repeat refine sq ?_
  refine be ?_
  simp only[go_sem]
  refine dv [0,5] [] ?_ ?_
  ·simp only[go_sem,cw]
  simp only[go_sem,cw]
  repeat refine sq ?_
  refine FD hΓ [0,5] [] fun K' hK=>?_
  refine uw ?_ (uw ?_ (.cut (T:=28) (x:=.tmp 36) (lo:=.tmp 37) (c:=38) rfl rfl ?_ ?_ ?_ ?_ (.nil ?_)))
  ·simp only[go_sem]
  ·simp only[go_sem]
  ·simp only[go_sem]
  ·simp only[go_sem]
  ·simp only[go_sem]
  ·have xl:=fun (obj:Name->Option O) (h:obj [0,1]=_)=>Fw (obj:=obj) (nm:=[0,1]) (k:=l.length) (i:=i) (L:=A.map encT) h (by simpa using hA.symm) (by simpa using jo)
   simp only[go_sem,jz,FZ,xl,h0]
  ·refine hK _ ?_ ?_
   ·simp only[go_sem,mH,jz,FZ,Fw (obj:=fun nm=>if own [0] nm=true then none else H' nm) (nm:=[0,1]) (k:=l.length) (i:=i) (L:=A.map encT) h0 (by simpa using hA.symm) (by simpa using jo),dm]
   clear K' hK
   simp only[go_sem,mH,jz,FZ,Fw (obj:=fun nm=>if own [0] nm=true then none else H' nm) (nm:=[0,1]) (k:=l.length) (i:=i) (L:=A.map encT) h0 (by simpa using hA.symm) (by simpa using jo)]
   have du:(bV p l).length=i:=by rw[<-hT,List.length_take];omega
   have nN:(List.take i (List.map encT A)++List.replicate (A.length-i) (encT oh))=XX:=by
    rw[<-gZ]
    unfold ee
    rw[du,<-hT,List.map_take,hA]
   have My:XX.length=l.length:=by rw[<-gZ];unfold ee;simp;omega
   have xr:XX.take i=(bV p l).map encT:=by
    rw[<-gZ]
    unfold ee
    rw[List.take_append_of_le_length (by simp;omega),List.take_of_length_le (by simp;omega)]
   have xq:∀ x∈XX,x.cells.length=8:=by
    intro x hx
    rw[<-gZ]at hx
    rcases List.mem_append.1 hx with h | h
    ·obtain⟨y,_,rfl⟩:=List.mem_map.1 h;rfl
    ·rw[(List.mem_replicate.1 h).2];rfl
   simp only[encT]at nN
   rw[nN]
   clear nN
   clear gZ
   generalize XX=Z at *
   simp only[V.cells]at xq
   generalize nQ:upd H' [0,1] (some (O.arr 8 Z))=H3
   have xx:H3 [0,1]=some (.arr 8 Z):=by rw[<-nQ,aU]
   have MJ:∀ i,H3 [i+1,1]=H [i+1,1]:=fun i=>by rw[<-nQ,ba _ _ _ (by simp)];exact pX i
   have xu:∀ hs sz L,bG [0] (bC [0] hs) (upd H3 [0,1] (some (.farr sz L)))=True:=fun hs sz L=>by rw[<-nQ,lu];exact xv _ _ _
   have xe:(i:Int)<=l.length:=by omega
   repeat refine sq ?_
   refine rv hΓ [4] [] fun K' hK=>?_
   simp only[go_sem,xx,GY,ah,aj,xe]
   repeat' apply And.intro
   all_goals first | rfl | omega | exact Int.le_refl _ | exact Bool.or_not_self _ | exact Bool.not_or_self _ | exact nU _ | exact nV _ | exact fun x hx=>(nU _ x hx).1 | exact fun x hx=>(nV _ x hx).1 | (simp only[List.length_take,List.length_append,List.length_map,List.length_drop,List.length_cons,List.length_nil];done) | (simp only[List.length_take,List.length_append,List.length_map,List.length_drop,List.length_cons,List.length_nil];omega) | (simp only[List.length_take,List.length_append,List.length_map,List.length_drop,List.length_cons,List.length_nil,maxLen];omega) | (exact fun _=>by decide) | (exact fun h=>⟨h,by decide⟩) | (simp only[decide_eq_true_eq];omega) | skip
   refine hK _ ?_ ?_
   ·simp only[go_sem,xu]
   clear K' hK
   simp only[go_sem]
   refine aq ?_
   simp only[go_sem,xr]
   exact .inr trivial
def delCT:CSpec where
 pre:=fun os ds=>∃ (l:List xW) (g:Nat×Int),os=[.arr 8 (l.map encT)]/\ds=[.msl [0,1] l.length,.clo (.func g.1) [] [.v (.ptr [vInt g.2])]]/\l.length<1000000/\pk g
 out:=fun os ds=>match os,ds with
  |[.arr _ L],[_,.clo (.func g) _ [.v (.ptr [.int _ k])]]=>⟨[(0,.farr 8 (ee encT (encT oh) (fm (g,k)) (L.map jW)))],[],.v (.sl ((bV (fm (g,k)) (L.map jW)).map encT))⟩
  |_,_=>⟨[],[],.any⟩
def s7(obj:Name->Option O)(_:Name):List D->R
 |[.msl nm k,.clo (.func g) [] [.v (.ptr [.int .i64 q])]]=>match obj nm with
  |some (.arr 8 L)=>⟨k=L.length/\L.length<1000000/\(L.map jW).map encT=L/\pk (g,q),.v (.sl ((bV (fm (g,q)) (L.map jW)).map encT)),upd obj nm (some (.farr 8 (ee encT (encT oh) (fm (g,q)) (L.map jW))))⟩
  |_=>.bad obj
 |_=>.bad obj
def Ap(_:Name->Option O)(_:Name):List D->List Name
 | .msl nm _::_=>[nm]
 |_=>[]
def S89:Spec:=⟨s7,Ap,Ap⟩
attribute [go_sem] S89 s7
theorem ZO:S89.Near:=by
 refine sb fun obj obj2 t ds ha=>⟨rfl,?_⟩
 have fx:∀ wr,bX wr obj obj2->cb (R.bad obj) (R.bad obj2) obj obj2 wr:=fun wr h=>.none wr h
 unfold s7
 split
 ·rename_i nm k g q
  have h1:obj2 nm=obj nm:=ha nm (by simp[Ap])
  simp only[h1]
  split
  ·exact .one (by simp[Ap]) ha
  ·exact fx _ ha
 ·exact fx _ ha
theorem WO:aM Tryz.prog 89 delCT.toSpec:=by
 refine mI (nt:=42) (rs:=[.tmp 4]) Tryz.func89 rfl (by rfl) (by kernel_rfl) (iz Tryz.func89 rfl (by kernel_rfl)) (ke _ (by decide)) ?_
 rintro os ds ⟨l,g,rfl,rfl,hl,ab⟩
 refine⟨lb rfl,?_⟩
 have fw:delCT.out [.arr 8 (l.map encT)] [.msl [0,1] l.length,.clo (.func g.1) [] [.v (.ptr [vInt g.2])]]=⟨[(0,.farr 8 (ee encT (encT oh) (fm g) l))],[],.v (.sl ((bV (fm g) l).map encT))⟩:=by
  simp only[delCT,Au]
 rw[fw]
 have bD:∀ hs,bG [0] (bC [0] hs) (aS [.arr 8 (l.map encT)])=True:=fun hs=>eq_true (lE (by
  intro o ho dom hd
  simp only[List.mem_singleton]at ho
  subst ho
  rfl) hs)
 obtain⟨c,hc,h⟩:=PR ab (H:=aS [.arr 8 (l.map encT)]) hl rfl bD (fun hs sz L=>eq_true (oe rfl (by rw[bD];trivial))) (fun hs sz L=>eq_true (oe rfl (by rw[bD];trivial)))
 have xo:∀ c2,Tryz.f89.body=some c2->c2=c:=fun c2 h2=>by rw[h2]at hc;exact Option.some.inj hc
 rw[<-xo _ rfl]at h
 refine CW.mono (gr h) ?_
 rintro e σ ⟨he,h1,h2,h3⟩
 have fin:(b9 Tryz.prog σ [.tmp 4]).ok/\(b9 Tryz.prog σ [.tmp 4]).d=.v (.sl ((bV (fm g) l).map encT))/\gq [.arr 8 (l.map encT)] ⟨[(0,.farr 8 (ee encT (encT oh) (fm g) l))],[],.v (.sl ((bV (fm g) l).map encT))⟩ σ:=
  ⟨h1,h2,⟨h3,trivial⟩,trivial,rfl⟩
 rcases he with rfl | rfl
 ·exact fin
 ·exact fin
theorem WQ:aM Tryz.prog 89 S89:=by
 refine rS WO ZO (ke _ (by decide)) fun obj t ds ab=>?_
 change (s7 obj t ds).ok at ab
 refine⟨ds,rfl,fun _ _ _ _ h=>h,?_⟩
 show _/\_=(s7 obj t ds).d/\_=(s7 obj t ds).obj
 unfold s7 at ab |-
 split at ab
 ·rename_i nm k g q
  split at ab
  ·rename_i L ho
   obtain⟨rfl,hl,he,hg⟩:=ab
   have hr:reach obj [.msl nm L.length,.clo (.func g) [] [.v (.ptr [.int .i64 q])]]=[nm]:=by
    unfold reach
    show c6 obj (2998+1+1) [nm] []=[nm]
    simp only[c6,cv,List.any_nil,Bool.false_eq_true,if_false,ho,jK,List.nil_append]
   have i0:idx [nm] nm=0:=by simp[idx]
   have e1:cJ obj [.msl nm L.length,.clo (.func g) [] [.v (.ptr [.int .i64 q])]]=[.arr 8 L]:=by
    unfold cJ
    rw[hr]
    simp only[List.map_cons,List.map_nil,cP,ho,O.ren]
   have e2:cY obj [.msl nm L.length,.clo (.func g) [] [.v (.ptr [.int .i64 q])]]=[.msl [0,1] L.length,.clo (.func g) [] [.v (.ptr [.int .i64 q])]]:=by
    unfold cY
    rw[hr]
    simp only[D.renL,D.ren,cin,i0]
   have e3:(shut obj [nm]&&D.closL (cv [nm]) [.msl nm L.length,.clo (.func g) [] [.v (.ptr [.int .i64 q])]]&&fresh obj t [])=true:=by
    simp[shut,ho,O.clos,D.closL,D.clos,cv,fresh]
   have dJ:delCT.pre [.arr 8 L] [.msl [0,1] L.length,.clo (.func g) [] [.v (.ptr [.int .i64 q])]]:=⟨L.map jW,(g,q),by rw[he],by rw[List.length_map],by rw[List.length_map];exact hl,hg⟩
   have fw:delCT.out [.arr 8 L] [.msl [0,1] L.length,.clo (.func g) [] [.v (.ptr [.int .i64 q])]]=⟨[(0,.farr 8 (ee encT (encT oh) (fm (g,q)) (L.map jW)))],[],.v (.sl ((bV (fm (g,q)) (L.map jW)).map encT))⟩:=rfl
   simp only[CSpec.toSpec,e1,e2,hr,fw,e3,dJ,ho,and_self,dE]
   exact⟨trivial,rfl,rfl⟩
  ·exact ab.elim
 ·exact ab.elim
def Gs:FuncId->Option Spec:=tbl KDS
theorem Pm:∀ f s,Gs f=some s->aM Tryz.prog f s:=aca
theorem IT{g:Nat×Int}(h:oB g):∃ s,Gs g.1=some s/\(¬ g.1=1000000000)/\(∀ obj t (x:xX),s.app obj t [.v (encS x),.v (.ptr [vInt g.2])]=⟨True,.v (.bool (eZ g x)),obj⟩)/\
 ∀ obj t (x:xX),s.app obj t [.agg ((encS x).cells.map .v),.v (.ptr [vInt g.2])]=⟨True,.v (.bool (eZ g x)),obj⟩:=by
 obtain⟨g,k⟩:=g
 rcases h with rfl | rfl
 all_goals exact⟨_,rfl,(by simp),fun obj t x=>by simp only[go_sem,eZ];try rfl,fun obj t x=>by simp only[go_sem,eZ,encS];try rfl⟩
theorem FY:(#[29]:Array Nat).getD 0 0=29:=rfl
theorem Px:((bu Tryz.prog 81).bind fun z=>el (iN z))=some (encS om):=by rw[PY];rfl
theorem Fv{obj:Name->Option O}{nm:Name}{k i:Nat}{L:List V}(h:obj nm=some (.arr 7 L))(hk:k=L.length)(hi:i<L.length):
 jD Tryz.prog obj 29 29 (.msl nm k) (.v (vInt i))=⟨True,.any,upd obj nm (some (.arr 7 (L.take i++List.replicate (L.length-i) (encS om))))⟩:=by
 unfold jD
 simp only[GX,h,Px,ah]
 congr 1
 simp only[eq_iff_iff,iff_true]
 exact⟨hk,by omega,hi,trivial,rfl,rfl,trivial,by decide⟩
theorem Qx:aL Tryz.prog 181 (p2 (cW iS) e8 (fun _ g=>oB g) (fun l g=>vInt (cf (eZ g) l)) true):=by
 refine cK (rs:=[.tmp 4]) Tryz.func181 Tryz.ntmps181 fun l g hp hw=>?_
 simp only[e8,iS,cW]at hw |-
 have hΓ:=Pm
 have hl:l.length<=maxLen:=by have:=hw.1.1;simpa using this
 obtain⟨s_,hs,hy,ha,_⟩:=IT hp
 simp only[encS]at ha
 repeat refine sq ?_
 refine rx hΓ [0,1] [] (fun K' hK=>by simp only[go_sem];exact ak) ?_
 repeat refine sq ?_
 refine rx hΓ [0,1,7,8] [] (fun K' hK=>by simp only[go_sem];exact ak) ?_
 repeat refine sq ?_
 refine aC ?_
 repeat refine sq ?_
 refine bA (fun s:Nat=>[(8,⟨true,.v (vInt s)⟩)]) (fun s=>[]) (fun s=>s<=l.length/\∀ k (h:k<l.length),k<s->eZ g l[k]=false) (fun s=>l.length-s) 0 ?_ ?_ ?_ ?_
 ·exact⟨Nat.zero_le _,by simp⟩
 ·rfl
 ·rfl
 rintro i ⟨hi,hR⟩
 simp only[go_sem]
 repeat refine sq ?_
 refine rx hΓ [0,1,7,8,9] [] (fun K' hK=>by simp only[go_sem];exact ak) ?_
 repeat refine sq ?_
 refine au (fun hb=>?_) fun hb=>?_
 ·have aa:i<l.length:=by simpa using hb
  have an:(i:Int)<l.length:=by omega
  clear hb
  repeat refine sq ?_
  refine ay ?_
  repeat refine sq ?_
  refine aC ?_
  repeat refine sq ?_
  refine rx hΓ [0,1,5,7,8] [] (fun K' hK=>by simp only[go_sem,ae aa,ah,aj,an];exact ak) ?_
  repeat refine sq ?_
  refine rx hΓ [0,1,5,7,8,16] [] (fun K' hK=>by simp only[go_sem,ae aa,ah,aj,an,hs,hy,ha];exact ak) ?_
  repeat refine sq ?_
  refine au (fun hb=>?_) fun hb=>?_
  ·repeat refine sq ?_
   refine rx hΓ [4] [] (fun K' hK=>by simp only[go_sem,ae aa,ah,aj,an];exact ak) ?_
   refine aq ?_
   simp only[go_sem]
   rw[lM (p:=eZ g) aa (by simpa using hb) hR]
  ·repeat refine sq ?_
   refine ay ?_
   refine br ?_
   simp only[go_sem]
   refine kp [0,1,7,8] [] ?_
   repeat refine sq ?_
   refine aI hΓ fun K' hK=>?_
   simp only[go_sem,ae aa,ah,aj,an]
   repeat (refine⟨ao,?_⟩)
   refine hK _ ?_
   clear K' hK
   simp only[go_sem]
   refine⟨i+1,⟨aa,?_⟩,by(show l.length-(i+1)<l.length-i;omega),?_⟩
   ·intro k hk du
    rcases Nat.lt_succ_iff_lt_or_eq.1 du with h5 | rfl
    ·exact hR k hk h5
    ·simpa using hb
   refine aT [0,1,7,8] [] ?_ ?_<;>simp only[go_sem,aO aa hl,aQ]
 ·have aV:i=l.length:=by
   have :¬ (i:Int)<l.length:=by simpa using hb
   omega
  clear hb
  subst aV
  repeat refine sq ?_
  refine be ?_
  simp only[go_sem]
  refine kp [] [] ?_
  repeat refine sq ?_
  refine rx hΓ [4] [] (fun K' hK=>by simp only[go_sem];exact ak) ?_
  refine aq ?_
  simp only[go_sem]
  rw[oG (p:=eZ g) fun k hk=>hR k hk hk]
set_option maxRecDepth 10000 in
theorem PQ{g:Nat×Int}(ab:oB g){H:Name->Option O}{l:List xX}(hl:l.length<1000000)(fz:H [0,1]=some (.arr 7 (l.map encS)))(bD:∀ hs,bG [0] (bC [0] hs) H=True)(ai:∀ hs sz L,bG [0] (bC [0] hs) (upd H [0,1] (some (.arr sz L)))=True)(bj:∀ hs sz L,bG [0] (bC [0] hs) (upd H [0,1] (some (.farr sz L)))=True):
 ∃ c,Tryz.f91.body=some c/\CL Tryz.prog [c] (bm 42 [0] H [(0,⟨true,.msl [0,1] l.length⟩),(1,⟨true,.clo (.func g.1) [] [.v (.ptr [vInt g.2])]⟩)] []) (fun e σ=>(e=.normal\/e=.ret)/\(σ.env 4).c=true/\
   (σ.env 4).d=.v (.sl ((bV (eZ g) l).map encS))/\σ.obj [0,1]=some (.farr 7 (ee encS (encS om) (eZ g) l))):=by
 obtain⟨sG,hs,hg,_,hp⟩:=IT ab
 obtain⟨Γ,sI,hΓ,hs,hI,hi⟩:∃ (Γ:FuncId->Option Spec) (sI:Spec),(∀ f s,Γ f=some s->aM Tryz.prog f s)/\Γ g.1=some sG/\Γ 181=some sI/\
  ∀ (obj:Name->Option O) (t:Name),obj [0,1]=some (.arr 7 (l.map encS))->sI.app obj t [.msl [0,1] l.length,.clo (.func g.1) [] [.v (.ptr [vInt g.2])]]=⟨True,.v (vInt (cf (eZ g) l)),obj⟩:=by
  refine⟨fun f=>if f=181 then some (p2 (cW iS) e8 (fun _ g=>oB g) (fun l g=>vInt (cf (eZ g) l)) true).toSpec else Gs f,_,fun f s h=>?_,?_,rfl,fun obj t e=>?_⟩
  ·dsimp only at h
   split at h
   ·rename_i e;cases h;subst e;exact Qx.sound
   ·exact Pm _ _ h
  ·dsimp only
   rw[if_neg (by intro e;have h':=ab;unfold oB at h';simp[e]at h')];exact hs
  ·have eN:oB (g.1,g.2):=ab
   simp only[go_sem,e,eN,List.length_map,xG]
 generalize gZ:ee encS (encS om) (eZ g) l=XX
 generalize LW:eZ g=p at *
 simp only[encS,V.cells,List.map_cons,List.map_nil]at hp
 refine⟨_,rfl,?_⟩
 have hm:l.length<=maxLen:=by unfold maxLen;omega
 repeat refine sq ?_
 refine rx hΓ [0,1] [] (fun K' hK=>by simp only[go_sem,bD];(repeat (refine⟨ao,?_⟩));exact hK _ (by simp only[go_sem,bD]) (by simp only[go_sem,bD]<;>rfl)) ?_
 repeat refine sq ?_
 refine rx hΓ [0,1,5] [] (fun K' hK=>by simp only[go_sem,bD,hI,hi,fz,implies_true];(repeat (refine⟨ao,?_⟩));exact hK _ (by simp only[go_sem,bD,hI,hi,fz,implies_true]) (by simp only[go_sem,bD,hI,hi,fz,implies_true]<;>rfl)) ?_
 repeat refine sq ?_
 refine rx hΓ [0,1,5,12] [] (fun K' hK=>by simp only[go_sem,bD];(repeat (refine⟨ao,?_⟩));exact hK _ (by simp only[go_sem,bD]) (by simp only[go_sem,bD]<;>rfl)) ?_
 repeat refine sq ?_
 refine au (fun hb=>?_) fun hb=>?_
 ·repeat refine sq ?_
  refine rx hΓ [4] [] (fun K' hK=>by simp only[go_sem,bD];(repeat (refine⟨ao,?_⟩));exact hK _ (by simp only[go_sem,bD]) (by simp only[go_sem,bD]<;>rfl)) ?_
  refine bH (cZ 4 (.msl [0,1] l.length) (by simp only[go_sem]) (by simp only[go_sem,fz,List.length_map]) [4] [] ?_ rfl) ?_
  ·simp only[go_sem,fz,bj]
  simp only[go_sem,fz]
  refine aq ?_
  simp only[go_sem,fz]
  have cr:cf p l= -1:=by simpa using hb
  have eO:∀ d∈l,p d=false:=by
   unfold cf at cr
   split at cr
   ·omega
   ·rename_i hn
    intro d hd
    cases jS:p d with
    |false=>rfl
    |true=>exact(hn (List.any_eq_true.2 ⟨d,hd,jS⟩)).elim
  have hk:bV p l=l:=List.filter_eq_self.2 fun d hd=>by rw[eO d hd];rfl
  have qY:XX=l.map encS:=by rw[<-gZ];unfold ee;rw[hk];simp
  rw[hk,qY]
  exact⟨.inr trivial,rfl,rfl⟩
 have hf:l.findIdx p<l.length:=by
  have cr:¬ cf p l= -1:=by simpa using hb
  unfold cf at cr
  split at cr
  ·rename_i ir
   exact List.findIdx_lt_length_of_exists (by obtain⟨y,hy,hp⟩:=List.any_eq_true.1 ir;exact⟨y,hy,hp⟩)
  ·exact(cr rfl).elim
 have im:cf p l=(l.findIdx p:Int):=by unfold cf;rw[if_pos (List.any_eq_true.2 ⟨_,List.getElem_mem hf,List.findIdx_getElem (w:=hf)⟩)]
 rw[im]
 clear hb im hi hI
 have w6:p (l[l.findIdx p])=true:=List.findIdx_getElem (w:=hf)
 have qU:∀ j (h:j<l.length),j<l.findIdx p->p l[j]=false:=fun j h hj=>by simpa using List.not_of_lt_findIdx hj
 generalize l.findIdx p=f at *
 repeat refine sq ?_
 refine ay ?_
 repeat refine sq ?_
 refine rx hΓ [0,1,5,6] [] (fun K' hK=>by simp only[go_sem,bD,aO hf hm,aQ];(repeat (refine⟨ao,?_⟩));exact hK _ (by simp only[go_sem,bD,aO hf hm,aQ]) (by simp only[go_sem,bD,aO hf hm,aQ]<;>rfl)) ?_
 repeat refine sq ?_
 refine aC ?_
 repeat refine sq ?_
 refine AJ (fun x:Nat×Nat×List xX=>upd H [0,1] (some (.arr 7 (x.2.2.map encS)))) (fun x=>[(5,⟨true,.v (vInt x.1)⟩),(6,⟨true,.v (vInt x.2.1)⟩)]) (fun x=>[]) (fun x=>x.1<x.2.1/\x.2.1<=l.length/\x.2.2.length=l.length/\x.2.2.take x.1=bV p (l.take x.2.1)/\x.2.2.drop x.2.1=l.drop x.2.1) (fun x=>l.length-x.2.1) (f,f+1,l) ?_ ?_ ?_ ?_ ?_
 ·refine⟨(show f<f+1 by omega),hf,rfl,?_,rfl⟩
  show l.take f=bV p (l.take (f+1))
  unfold bV
  rw[List.take_add_one,List.getElem?_eq_getElem hf,List.filter_append]
  simp only[Option.toList_some,List.filter_cons,w6,Bool.not_true,Bool.false_eq_true,if_false,List.filter_nil,List.append_nil]
  rw[List.filter_eq_self.2]
  intro d hd
  obtain⟨j,hj,rfl⟩:=List.getElem_of_mem hd
  have dp:j<f:=by simp at hj;omega
  rw[List.getElem_take,qU j (by omega) dp]
  rfl
 ·congr 1
  rw[<-fz]
  funext x
  by_cases e:x=[0,1]
  ·subst e;rw[aU]
  ·rw[ba _ _ _ e]
 ·rfl
 ·rfl
 clear qU
 rintro⟨i,j,A⟩ ⟨b7,hj,hA,hT,hD⟩
 simp only at b7 hj hA hT hD
 dsimp only
 generalize dF:upd H [0,1] (some (O.arr 7 (List.map encS A)))=H'
 have h0:H' [0,1]=some (.arr 7 (A.map encS)):=by rw[<-dF,aU]
 have pX:∀ i,H' [i+1,1]=H [i+1,1]:=fun i=>by rw[<-dF,ba _ _ _ (by simp)]
 have cw:∀ hs,bG [0] (bC [0] hs) H'=True:=fun hs=>by rw[<-dF];exact ai _ _ _
 have dm:∀ hs sz L,bG [0] (bC [0] hs) (upd H' [0,1] (some (.arr sz L)))=True:=fun hs sz L=>by rw[<-dF,lu];exact ai _ _ _
 have xv:∀ hs sz L,bG [0] (bC [0] hs) (upd H' [0,1] (some (.farr sz L)))=True:=fun hs sz L=>by rw[<-dF,lu];exact bj _ _ _
 simp only[go_sem]
 repeat refine sq ?_
 refine rx hΓ [0,1,5,6,19] [] (fun K' hK=>by simp only[go_sem,cw,dm,h0];(repeat (refine⟨ao,?_⟩));exact hK _ (by simp only[go_sem,cw,dm,h0]) (by simp only[go_sem,cw,dm,h0]<;>rfl)) ?_
 repeat refine sq ?_
 refine au (fun hb=>?_) fun hb=>?_
 ·have aa:j<l.length:=by simpa using hb
  have nE:j<A.length:=by omega
  have jo:i<A.length:=by omega
  have xf:(i:Int)<l.length:=by omega
  have an:(j:Int)<l.length:=by omega
  have nS:A[j]=l[j]:=by
   have h1:A[j]=(A.drop j)[0]'(by simp;omega):=by simp
   rw[h1]
   simp only[hD]
   simp
  clear hb
  repeat refine sq ?_
  refine ay ?_
  repeat refine sq ?_
  refine aC ?_
  repeat refine sq ?_
  refine rx hΓ [0,1,5,6,7] [[7,0]] (fun K' hK=>by simp only[go_sem,cw,dm,h0,ae nE,ah,aj,an,hA,nS];(repeat (refine⟨ao,?_⟩));exact hK _ (by simp only[go_sem,cw,dm,h0,ae nE,ah,aj,an,hA,nS]) (by simp only[go_sem,cw,dm,h0,ae nE,ah,aj,an,hA,nS]<;>rfl)) ?_
  repeat refine sq ?_
  refine rx hΓ [0,1,5,6,7,29] [[7,0]] (fun K' hK=>by simp only[go_sem,cw,dm,h0,hg,hs,hp];(repeat (refine⟨ao,?_⟩));exact hK _ (by simp only[go_sem,cw,dm,h0,hg,hs,hp]) (by simp only[go_sem,cw,dm,h0,hg,hs,hp]<;>rfl)) ?_
  repeat refine sq ?_
  refine au (fun hb=>?_) fun hb=>?_
  ·have pJ:p l[j]=false:=by simpa using hb
   clear hb
   repeat refine sq ?_
   refine rv hΓ [0,1,5,6] [] fun K' hK=>?_
   simp only[go_sem,cw,dm,h0,ah,aj,xf,hA]
   repeat' apply And.intro
   all_goals first | rfl | omega | exact Int.le_refl _ | exact Bool.or_not_self _ | exact Bool.not_or_self _ | exact nU _ | exact nV _ | exact fun x hx=>(nU _ x hx).1 | exact fun x hx=>(nV _ x hx).1 | (simp only[List.length_take,List.length_append,List.length_map,List.length_drop,List.length_cons,List.length_nil];done) | (simp only[List.length_take,List.length_append,List.length_map,List.length_drop,List.length_cons,List.length_nil];omega) | (simp only[List.length_take,List.length_append,List.length_map,List.length_drop,List.length_cons,List.length_nil,maxLen];omega) | (exact fun _=>by decide) | (exact fun h=>⟨h,by decide⟩) | (simp only[decide_eq_true_eq];omega) | skip
   refine hK _ ?_ ?_
   ·simp only[go_sem,cw,dm]
   clear K' hK
   simp only[go_sem]
   obtain⟨H2,nR⟩:∃ H2,upd H' [0,1] (some (O.arr 7 ((List.map encS A).set i (encS l[j]))))=H2:=⟨_,rfl⟩
   have rh:=nR
   simp only[encS]at rh
   rw[rh]
   have nP:∀ hs,bG [0] (bC [0] hs) H2=True:=fun hs=>by rw[<-nR];exact dm _ _ _
   repeat refine sq ?_
   refine aI hΓ fun K' hK=>?_
   simp only[go_sem]
   repeat (refine⟨ao,?_⟩)
   refine hK _ ?_
   clear K' hK
   simp only[go_sem]
   refine dv [0,1,5,6] [] ?_ ?_
   ·simp only[go_sem,nP]
   simp only[go_sem,nP]
   repeat refine sq ?_
   refine aI hΓ fun K' hK=>?_
   simp only[go_sem]
   repeat (refine⟨ao,?_⟩)
   refine hK _ ?_
   clear K' hK
   simp only[go_sem]
   refine⟨(i+1,j+1,A.set i l[j]),⟨(show i+1<j+1 by omega),aa,by simpa using hA,?_,?_⟩,(show l.length-(j+1)<l.length-j by omega),?_⟩
   ·show (A.set i l[j]).take (i+1)=bV p (l.take (j+1))
    unfold bV at hT |-
    rw[List.take_add_one (l:=l),List.getElem?_eq_getElem aa,List.filter_append,<-hT]
    simp only[Option.toList_some,List.filter_cons,pJ,Bool.not_false,if_true,List.filter_nil]
    rw[List.take_add_one,List.take_set_of_le (Nat.le_refl i),List.getElem?_set_self jo]
    rfl
   ·show (A.set i l[j]).drop (j+1)=l.drop (j+1)
    rw[List.drop_set_of_lt (show i<j+1 by omega)]
    have :=congrArg (List.drop 1) hD
    simpa[List.drop_drop]using this
   ·refine aT [0,1,5,6] [] ?_ ?_
    ·simp only[go_sem,nP]
    ·simp only[go_sem,aO aa hm,aO (show i<l.length by omega) hm,aQ]
     rw[<-nR,<-dF,lu,List.map_set]
     try rfl
  ·have wZ:p l[j]=true:=by simpa using hb
   clear hb
   repeat refine sq ?_
   refine ay ?_
   refine br ?_
   simp only[go_sem]
   refine dv [0,1,5,6] [] ?_ ?_
   ·simp only[go_sem,cw]
   simp only[go_sem,cw]
   repeat refine sq ?_
   refine aI hΓ fun K' hK=>?_
   simp only[go_sem]
   repeat (refine⟨ao,?_⟩)
   refine hK _ ?_
   clear K' hK
   simp only[go_sem]
   refine⟨(i,j+1,A),⟨(show i<j+1 by omega),aa,hA,?_,?_⟩,(show l.length-(j+1)<l.length-j by omega),?_⟩
   ·show A.take i=bV p (l.take (j+1))
    unfold bV at hT |-
    rw[List.take_add_one (l:=l),List.getElem?_eq_getElem aa,List.filter_append,<-hT]
    simp only[Option.toList_some,List.filter_cons,wZ,Bool.not_true,Bool.false_eq_true,if_false,List.filter_nil,List.append_nil]
   ·show A.drop (j+1)=l.drop (j+1)
    have :=congrArg (List.drop 1) hD
    simpa[List.drop_drop]using this
   ·refine aT [0,1,5,6] [] ?_ ?_
    ·simp only[go_sem,cw]
    ·simp only[go_sem,aO aa hm,aQ]
     rw[<-dF]
 ·have aV:j=l.length:=by
    have :¬ (j:Int)<l.length:=by simpa using hb
    omega
  subst aV
  clear hb
  rw[List.take_length]at hT
  have jo:i<A.length:=by omega
  repeat refine sq ?_
  refine be ?_
  simp only[go_sem]
  refine dv [0,5] [] ?_ ?_
  ·simp only[go_sem,cw]
  simp only[go_sem,cw]
  repeat refine sq ?_
  refine FD hΓ [0,5] [] fun K' hK=>?_
  refine uw ?_ (uw ?_ (.cut (T:=29) (x:=.tmp 36) (lo:=.tmp 37) (c:=38) rfl rfl ?_ ?_ ?_ ?_ (.nil ?_)))
  ·simp only[go_sem]
  ·simp only[go_sem]
  ·simp only[go_sem]
  ·simp only[go_sem]
  ·simp only[go_sem]
  ·have xl:=fun (obj:Name->Option O) (h:obj [0,1]=_)=>Fv (obj:=obj) (nm:=[0,1]) (k:=l.length) (i:=i) (L:=A.map encS) h (by simpa using hA.symm) (by simpa using jo)
   simp only[go_sem,jz,FY,xl,h0]
  ·refine hK _ ?_ ?_
   ·simp only[go_sem,mH,jz,FY,Fv (obj:=fun nm=>if own [0] nm=true then none else H' nm) (nm:=[0,1]) (k:=l.length) (i:=i) (L:=A.map encS) h0 (by simpa using hA.symm) (by simpa using jo),dm]
   clear K' hK
   simp only[go_sem,mH,jz,FY,Fv (obj:=fun nm=>if own [0] nm=true then none else H' nm) (nm:=[0,1]) (k:=l.length) (i:=i) (L:=A.map encS) h0 (by simpa using hA.symm) (by simpa using jo)]
   have du:(bV p l).length=i:=by rw[<-hT,List.length_take];omega
   have nN:(List.take i (List.map encS A)++List.replicate (A.length-i) (encS om))=XX:=by
    rw[<-gZ]
    unfold ee
    rw[du,<-hT,List.map_take,hA]
   have My:XX.length=l.length:=by rw[<-gZ];unfold ee;simp;omega
   have xr:XX.take i=(bV p l).map encS:=by
    rw[<-gZ]
    unfold ee
    rw[List.take_append_of_le_length (by simp;omega),List.take_of_length_le (by simp;omega)]
   have xq:∀ x∈XX,x.cells.length=7:=by
    intro x hx
    rw[<-gZ]at hx
    rcases List.mem_append.1 hx with h | h
    ·obtain⟨y,_,rfl⟩:=List.mem_map.1 h;rfl
    ·rw[(List.mem_replicate.1 h).2];rfl
   simp only[encS]at nN
   rw[nN]
   clear nN
   clear gZ
   generalize XX=Z at *
   simp only[V.cells]at xq
   generalize nQ:upd H' [0,1] (some (O.arr 7 Z))=H3
   have xx:H3 [0,1]=some (.arr 7 Z):=by rw[<-nQ,aU]
   have MJ:∀ i,H3 [i+1,1]=H [i+1,1]:=fun i=>by rw[<-nQ,ba _ _ _ (by simp)];exact pX i
   have xu:∀ hs sz L,bG [0] (bC [0] hs) (upd H3 [0,1] (some (.farr sz L)))=True:=fun hs sz L=>by rw[<-nQ,lu];exact xv _ _ _
   have xe:(i:Int)<=l.length:=by omega
   repeat refine sq ?_
   refine rv hΓ [4] [] fun K' hK=>?_
   simp only[go_sem,xx,GX,ah,aj,xe]
   repeat' apply And.intro
   all_goals first | rfl | omega | exact Int.le_refl _ | exact Bool.or_not_self _ | exact Bool.not_or_self _ | exact nU _ | exact nV _ | exact fun x hx=>(nU _ x hx).1 | exact fun x hx=>(nV _ x hx).1 | (simp only[List.length_take,List.length_append,List.length_map,List.length_drop,List.length_cons,List.length_nil];done) | (simp only[List.length_take,List.length_append,List.length_map,List.length_drop,List.length_cons,List.length_nil];omega) | (simp only[List.length_take,List.length_append,List.length_map,List.length_drop,List.length_cons,List.length_nil,maxLen];omega) | (exact fun _=>by decide) | (exact fun h=>⟨h,by decide⟩) | (simp only[decide_eq_true_eq];omega) | skip
   refine hK _ ?_ ?_
   ·simp only[go_sem,xu]
   clear K' hK
   simp only[go_sem]
   refine aq ?_
   simp only[go_sem,xr]
   exact .inr trivial
def delCS:CSpec where
 pre:=fun os ds=>∃ (l:List xX) (g:Nat×Int),os=[.arr 7 (l.map encS)]/\ds=[.msl [0,1] l.length,.clo (.func g.1) [] [.v (.ptr [vInt g.2])]]/\l.length<1000000/\oB g
 out:=fun os ds=>match os,ds with
  |[.arr _ L],[_,.clo (.func g) _ [.v (.ptr [.int _ k])]]=>⟨[(0,.farr 7 (ee encS (encS om) (eZ (g,k)) (L.map kx)))],[],.v (.sl ((bV (eZ (g,k)) (L.map kx)).map encS))⟩
  |_,_=>⟨[],[],.any⟩
def s9(obj:Name->Option O)(_:Name):List D->R
 |[.msl nm k,.clo (.func g) [] [.v (.ptr [.int .i64 q])]]=>match obj nm with
  |some (.arr 7 L)=>⟨k=L.length/\L.length<1000000/\(L.map kx).map encS=L/\oB (g,q),.v (.sl ((bV (eZ (g,q)) (L.map kx)).map encS)),upd obj nm (some (.farr 7 (ee encS (encS om) (eZ (g,q)) (L.map kx))))⟩
  |_=>.bad obj
 |_=>.bad obj
def Aq(_:Name->Option O)(_:Name):List D->List Name
 | .msl nm _::_=>[nm]
 |_=>[]
def S91:Spec:=⟨s9,Aq,Aq⟩
attribute [go_sem] S91 s9
theorem ZP:S91.Near:=by
 refine sb fun obj obj2 t ds ha=>⟨rfl,?_⟩
 have fx:∀ wr,bX wr obj obj2->cb (R.bad obj) (R.bad obj2) obj obj2 wr:=fun wr h=>.none wr h
 unfold s9
 split
 ·rename_i nm k g q
  have h1:obj2 nm=obj nm:=ha nm (by simp[Aq])
  simp only[h1]
  split
  ·exact .one (by simp[Aq]) ha
  ·exact fx _ ha
 ·exact fx _ ha
theorem WN:aM Tryz.prog 91 delCS.toSpec:=by
 refine mI (nt:=42) (rs:=[.tmp 4]) Tryz.func91 rfl (by rfl) (by kernel_rfl) (iz Tryz.func91 rfl (by kernel_rfl)) (ke _ (by decide)) ?_
 rintro os ds ⟨l,g,rfl,rfl,hl,ab⟩
 refine⟨lb rfl,?_⟩
 have fw:delCS.out [.arr 7 (l.map encS)] [.msl [0,1] l.length,.clo (.func g.1) [] [.v (.ptr [vInt g.2])]]=⟨[(0,.farr 7 (ee encS (encS om) (eZ g) l))],[],.v (.sl ((bV (eZ g) l).map encS))⟩:=by
  simp only[delCS,td]
 rw[fw]
 have bD:∀ hs,bG [0] (bC [0] hs) (aS [.arr 7 (l.map encS)])=True:=fun hs=>eq_true (lE (by
  intro o ho dom hd
  simp only[List.mem_singleton]at ho
  subst ho
  rfl) hs)
 obtain⟨c,hc,h⟩:=PQ ab (H:=aS [.arr 7 (l.map encS)]) hl rfl bD (fun hs sz L=>eq_true (oe rfl (by rw[bD];trivial))) (fun hs sz L=>eq_true (oe rfl (by rw[bD];trivial)))
 have xo:∀ c2,Tryz.f91.body=some c2->c2=c:=fun c2 h2=>by rw[h2]at hc;exact Option.some.inj hc
 rw[<-xo _ rfl]at h
 refine CW.mono (gr h) ?_
 rintro e σ ⟨he,h1,h2,h3⟩
 have fin:(b9 Tryz.prog σ [.tmp 4]).ok/\(b9 Tryz.prog σ [.tmp 4]).d=.v (.sl ((bV (eZ g) l).map encS))/\gq [.arr 7 (l.map encS)] ⟨[(0,.farr 7 (ee encS (encS om) (eZ g) l))],[],.v (.sl ((bV (eZ g) l).map encS))⟩ σ:=
  ⟨h1,h2,⟨h3,trivial⟩,trivial,rfl⟩
 rcases he with rfl | rfl
 ·exact fin
 ·exact fin
theorem Lo:aM Tryz.prog 91 S91:=by
 refine rS WN ZP (ke _ (by decide)) fun obj t ds ab=>?_
 change (s9 obj t ds).ok at ab
 refine⟨ds,rfl,fun _ _ _ _ h=>h,?_⟩
 show _/\_=(s9 obj t ds).d/\_=(s9 obj t ds).obj
 unfold s9 at ab |-
 split at ab
 ·rename_i nm k g q
  split at ab
  ·rename_i L ho
   obtain⟨rfl,hl,he,hg⟩:=ab
   have hr:reach obj [.msl nm L.length,.clo (.func g) [] [.v (.ptr [.int .i64 q])]]=[nm]:=by
    unfold reach
    show c6 obj (2998+1+1) [nm] []=[nm]
    simp only[c6,cv,List.any_nil,Bool.false_eq_true,if_false,ho,jK,List.nil_append]
   have i0:idx [nm] nm=0:=by simp[idx]
   have e1:cJ obj [.msl nm L.length,.clo (.func g) [] [.v (.ptr [.int .i64 q])]]=[.arr 7 L]:=by
    unfold cJ
    rw[hr]
    simp only[List.map_cons,List.map_nil,cP,ho,O.ren]
   have e2:cY obj [.msl nm L.length,.clo (.func g) [] [.v (.ptr [.int .i64 q])]]=[.msl [0,1] L.length,.clo (.func g) [] [.v (.ptr [.int .i64 q])]]:=by
    unfold cY
    rw[hr]
    simp only[D.renL,D.ren,cin,i0]
   have e3:(shut obj [nm]&&D.closL (cv [nm]) [.msl nm L.length,.clo (.func g) [] [.v (.ptr [.int .i64 q])]]&&fresh obj t [])=true:=by
    simp[shut,ho,O.clos,D.closL,D.clos,cv,fresh]
   have dJ:delCS.pre [.arr 7 L] [.msl [0,1] L.length,.clo (.func g) [] [.v (.ptr [.int .i64 q])]]:=⟨L.map kx,(g,q),by rw[he],by rw[List.length_map],by rw[List.length_map];exact hl,hg⟩
   have fw:delCS.out [.arr 7 L] [.msl [0,1] L.length,.clo (.func g) [] [.v (.ptr [.int .i64 q])]]=⟨[(0,.farr 7 (ee encS (encS om) (eZ (g,q)) (L.map kx)))],[],.v (.sl ((bV (eZ (g,q)) (L.map kx)).map encS))⟩:=rfl
   simp only[CSpec.toSpec,e1,e2,hr,fw,e3,dJ,ho,and_self,dE]
   exact⟨trivial,rfl,rfl⟩
  ·exact ab.elim
 ·exact ab.elim
end
set_option maxHeartbeats 8000000
noncomputable section
theorem Db(l:List Sig)(k:Int):bV (eZ (186,k)) l=l.filter fun s=>cG s.kn s.un k:=by
 unfold bV eZ
 simp
theorem Cu(k:Int):oB (186,k):=.inr rfl
def K26:List (Nat×Spec):=[(132,S132),(91,S91)]
theorem ac9:KS K26:=tc Lr<|tc Lo<|tn
attribute [go_sem] K26
def OT:VSpec:=v1 iI (fun x _=>x.l.ss.length<=60) (fun x k=>.v (.sl ((gj x.l k).map encS))) none
def S122:Spec:=OT.toSpec
attribute [go_sem] OT S122
theorem W7:aM Tryz.prog 122 S122:=by
 refine yk (rs:=[.tmp 4]) Tryz.func122 Tryz.ntmps122 (by rfl) (by kernel_rfl) (by decide) (fun _ _=>by first | rfl | simp[D.clos,D.closL,ma]) ⟨_,rfl,lb rfl,fun x k hp H h0 h1 h2 hO ai=>?_⟩
 simp only[iI,bg,dD,List.map_cons,List.map_nil,Nat.zero_add,Option.map_some,Option.map_none]at h0 |-
 have hΓ:=ac9
 repeat refine sq ?_
 refine rx hΓ [0,3] [[3,0]] (fun K' hK=>by simp only[go_sem,hO,ai,h0,h1,h2];(repeat (refine⟨ao,?_⟩));exact hK _ (by simp only[go_sem,hO,ai,h0,h1,h2]) (by simp only[go_sem,hO,ai,h0,h1,h2]<;>rfl)) ?_
 refine bH (cZ 3 (.ref [3,0] 0) (by simp only[go_sem]) (by simp only[go_sem]) [0,3] [[3,0]] ?_ rfl) ?_
 ·simp only[go_sem,hO,ai,h0,h1,h2]
 simp only[go_sem,hO,ai,h0,h1,h2]
 repeat refine sq ?_
 refine rx hΓ [4] [] (fun K' hK=>by simp only[go_sem,hO,ai,h0,h1,h2,td,Db,Cu,List.length_map];(repeat (refine⟨ao,?_⟩));exact hK _ (by simp only[go_sem,hO,ai,h0,h1,h2,td,Db,Cu,List.length_map]) (by simp only[go_sem,hO,ai,h0,h1,h2,td,Db,Cu,List.length_map]<;>rfl)) ?_
 refine aq ?_
 simp only[go_sem,hO,ai,h0,h1,h2]
 all_goals exact cD
def Ia(r:Rg):D:=.agg [.v (vInt r.lo),.v (vInt r.hi)]
attribute [go_sem] Ia
def K26b:List (Nat×Spec):=[(119,S119)]
theorem ac8:KS K26b:=tc Di<|tn
attribute [go_sem] K26b
def vX(s:Sig):Prop:=0<=s.da/\s.da<=100000
theorem bz:nc none=.agg [.v (vInt 0),.v (vInt 0),.v (vInt 0),.nilsl,.v (vInt 0),.v (vInt 0),.v (vInt 0)]:=rfl
theorem aJ(r:Rec):nc (some r)=gS r:=rfl
def OP:VSpec:=v1 iS (fun x s=>(l4 x/\x.rs.Nodup)/\vX s) (fun x s=>.tup [.v (vInt (bQ x s).1),Ia (bQ x s).2]) none
def S187:Spec:=OP.toSpec
attribute [go_sem] OP S187
theorem WY:aM Tryz.prog 187 S187:=by
 refine yk (rs:=[.tmp 4,.cell 5 38]) Tryz.func187 Tryz.ntmps187 (by rfl) (by kernel_rfl) (by decide) (fun _ _=>by first | rfl | exact agk _ _ | simp[D.clos,D.closL,ma]) ⟨_,rfl,lb rfl,fun x s hp H h0 h1 h2 hO ai=>?_⟩
 have hP:=c8
 simp only[iS,encS,bg,dD,List.map_cons,List.map_nil,Nat.zero_add,Option.map_some,Option.map_none]at h0 |-
 have hΓ:=ac8
 obtain⟨hv,hd⟩:=hp
 have jn:=vL hd
 repeat refine sq ?_
 refine rx hΓ [0,3,5] [[3,0],[5,0]] (fun K' hK=>by simp only[go_sem,hO,ai,h0,h1,h2];(repeat (refine⟨ao,?_⟩));exact hK _ (by simp only[go_sem,hO,ai,h0,h1,h2]) (by simp only[go_sem,hO,ai,h0,h1,h2]<;>rfl)) ?_
 repeat refine sq ?_
 refine rx hΓ [0,3,5,6,7] [[3,0],[5,0],[6,0],[7,0]] (fun K' hK=>by simp only[go_sem,hO,ai,h0,h1,h2];(repeat (refine⟨ao,?_⟩));exact hK _ (by simp only[go_sem,hO,ai,h0,h1,h2]) (by simp only[go_sem,hO,ai,h0,h1,h2]<;>rfl)) ?_
 rcases aw:fS x.rs s.pa s.le s.da with _ | r
 ·repeat refine sq ?_
  refine rx hΓ [0,3,5,6,7,8,9] [[3,0],[5,0],[6,0],[7,0],[8,0]] (fun K' hK=>by simp only[go_sem,hO,ai,h0,h1,h2,aw,bz,Option.isSome_none,aB];(repeat (refine⟨ao,?_⟩));exact hK _ (by simp only[go_sem,hO,ai,h0,h1,h2,aw,bz,Option.isSome_none,aB]) (by simp only[go_sem,hO,ai,h0,h1,h2,aw,bz,Option.isSome_none,aB]<;>rfl)) ?_
  repeat refine sq ?_
  refine dx hΓ hP [[],[0],[0,1],[0,1,2],[],[4],[],[6],[4,5,6,7],u9,bI,cz,cz,dS,eE] [3,5,6,7,8,9,10,11] [[3,0],[5,0],[6,0],[7,0],[8,0]] (by kernel_rfl) (fun K' hK=>by simp only[go_sem,hO,ai,h0,h1,h2,aw,bz,Option.isSome_none,aB];(repeat (refine⟨ao,?_⟩));(first | refine⟨by rfl,?_⟩ | skip);exact hK _ (by simp only[go_sem,hO,ai,h0,h1,h2,aw,bz,Option.isSome_none,aB]) (by simp only[go_sem,hO,ai,h0,h1,h2,aw,bz,Option.isSome_none,aB]<;>rfl)) ?_
  repeat refine sq ?_
  refine aC ?_
  repeat refine sq ?_
  refine rx hΓ [3,5,6,7,8,9,10,11,39] [[3,0],[5,0],[6,0],[7,0],[8,0]] (fun K' hK=>by simp only[go_sem,hO,ai,h0,h1,h2,aw,bz,Option.isSome_none,aB];(repeat (refine⟨ao,?_⟩));exact hK _ (by simp only[go_sem,hO,ai,h0,h1,h2,aw,bz,Option.isSome_none,aB]) (by simp only[go_sem,hO,ai,h0,h1,h2,aw,bz,Option.isSome_none,aB]<;>rfl)) ?_
  repeat refine sq ?_
  refine au (fun hb=>?_) fun hb=>?_
  ·repeat refine sq ?_
   refine ay ?_
   repeat refine sq ?_
   refine au (fun hb=>?_) fun hb=>?_
   ·repeat refine sq ?_
    refine dx hΓ hP [[],[],[0,1]] [4,5] [[5,0]] (by kernel_rfl) (fun K' hK=>by simp only[go_sem,hO,ai,h0,h1,h2,aw,bz,Option.isSome_none,aB];(repeat (refine⟨ao,?_⟩));(first | refine⟨by rfl,?_⟩ | skip);exact hK _ (by simp only[go_sem,hO,ai,h0,h1,h2,aw,bz,Option.isSome_none,aB]) (by simp only[go_sem,hO,ai,h0,h1,h2,aw,bz,Option.isSome_none,aB]<;>rfl)) ?_
    refine aq ?_
    simp only[go_sem,hO,ai,h0,h1,h2]
    first | (unfold bQ;simp only[aw];simp_all[cV,cN];done) | (unfold bQ;simp only[aw];rcases aP:bJ x.bk (r.so,s.le)with _ | j<;>simp_all[cV,cN];done)
   ·repeat refine sq ?_
    refine rx hΓ [3,5,7,8,10,60] [[3,0],[5,0],[7,0],[8,0]] (fun K' hK=>by simp only[go_sem,hO,ai,h0,h1,h2,aw,bz,Option.isSome_none,aB];(repeat (refine⟨ao,?_⟩));exact hK _ (by simp only[go_sem,hO,ai,h0,h1,h2,aw,bz,Option.isSome_none,aB]) (by simp only[go_sem,hO,ai,h0,h1,h2,aw,bz,Option.isSome_none,aB]<;>rfl)) ?_
    repeat refine sq ?_
    refine au (fun hb=>?_) fun hb=>?_
    ·repeat refine sq ?_
     refine dx hΓ hP [[],[],[0,1]] [4,5] [[5,0]] (by kernel_rfl) (fun K' hK=>by simp only[go_sem,hO,ai,h0,h1,h2,aw,bz,Option.isSome_none,aB];(repeat (refine⟨ao,?_⟩));(first | refine⟨by rfl,?_⟩ | skip);exact hK _ (by simp only[go_sem,hO,ai,h0,h1,h2,aw,bz,Option.isSome_none,aB]) (by simp only[go_sem,hO,ai,h0,h1,h2,aw,bz,Option.isSome_none,aB]<;>rfl)) ?_
     refine aq ?_
     simp only[go_sem,hO,ai,h0,h1,h2]
     first | (unfold bQ;simp only[aw];simp_all[cV,cN];done) | (unfold bQ;simp only[aw];rcases aP:bJ x.bk (r.so,s.le)with _ | j<;>simp_all[cV,cN];done)
    ·repeat refine sq ?_
     refine rx hΓ [3,5,7,8,10,68] [[3,0],[5,0],[7,0],[8,0]] (fun K' hK=>by simp only[go_sem,hO,ai,h0,h1,h2,aw,bz,Option.isSome_none,aB];(repeat (refine⟨ao,?_⟩));exact hK _ (by simp only[go_sem,hO,ai,h0,h1,h2,aw,bz,Option.isSome_none,aB]) (by simp only[go_sem,hO,ai,h0,h1,h2,aw,bz,Option.isSome_none,aB]<;>rfl)) ?_
     repeat refine sq ?_
     refine au (fun hb=>?_) fun hb=>?_
     ·repeat refine sq ?_
      refine dx hΓ hP [[],[],[1],[1,2],[0],u5] [4,5] [[5,0]] (by kernel_rfl) (fun K' hK=>by simp only[go_sem,hO,ai,h0,h1,h2,aw,bz,Option.isSome_none,aB];(repeat (refine⟨ao,?_⟩));(first | refine⟨by rfl,?_⟩ | skip);exact hK _ (by simp only[go_sem,hO,ai,h0,h1,h2,aw,bz,Option.isSome_none,aB]) (by simp only[go_sem,hO,ai,h0,h1,h2,aw,bz,Option.isSome_none,aB]<;>rfl)) ?_
      refine aq ?_
      simp only[go_sem,hO,ai,h0,h1,h2]
      first | (unfold bQ;simp only[aw];simp_all[cV,cN];done) | (unfold bQ;simp only[aw];rcases aP:bJ x.bk (r.so,s.le)with _ | j<;>simp_all[cV,cN];done)
     ·repeat refine sq ?_
      refine rx hΓ [3,5,7,10,76] [[3,0],[5,0],[7,0]] (fun K' hK=>by simp only[go_sem,hO,ai,h0,h1,h2,aw,bz,Option.isSome_none,aB];(repeat (refine⟨ao,?_⟩));exact hK _ (by simp only[go_sem,hO,ai,h0,h1,h2,aw,bz,Option.isSome_none,aB]) (by simp only[go_sem,hO,ai,h0,h1,h2,aw,bz,Option.isSome_none,aB]<;>rfl)) ?_
      repeat refine sq ?_
      refine au (fun hb=>?_) fun hb=>?_
      ·repeat refine sq ?_
       refine dx hΓ hP [[],[],[1],[1,2],[1,2,3],[0],u6] [4,5] [[5,0]] (by kernel_rfl) (fun K' hK=>by simp only[go_sem,hO,ai,h0,h1,h2,aw,bz,Option.isSome_none,aB];(repeat (refine⟨ao,?_⟩));(first | refine⟨by rfl,?_⟩ | skip);exact hK _ (by simp only[go_sem,hO,ai,h0,h1,h2,aw,bz,Option.isSome_none,aB]) (by simp only[go_sem,hO,ai,h0,h1,h2,aw,bz,Option.isSome_none,aB]<;>rfl)) ?_
       refine aq ?_
       simp only[go_sem,hO,ai,h0,h1,h2]
       first | (unfold bQ;simp only[aw];simp_all[cV,cN];done) | (unfold bQ;simp only[aw];rcases aP:bJ x.bk (r.so,s.le)with _ | j<;>simp_all[cV,cN];done)
      ·repeat refine sq ?_
       refine ay ?_
       refine br ?_
       simp only[go_sem]
       refine dv [5,7] [[5,0],[7,0]] ?_ ?_
       ·simp only[go_sem,hO,ai,h0,h1,h2]
       simp only[go_sem,hO,ai,h0,h1,h2]
       repeat refine sq ?_
       refine dx hΓ hP [[],[],[0,1]] [4,5] [[5,0]] (by kernel_rfl) (fun K' hK=>by simp only[go_sem,hO,ai,h0,h1,h2,aw,bz,Option.isSome_none,aB];(repeat (refine⟨ao,?_⟩));(first | refine⟨by rfl,?_⟩ | skip);exact hK _ (by simp only[go_sem,hO,ai,h0,h1,h2,aw,bz,Option.isSome_none,aB]) (by simp only[go_sem,hO,ai,h0,h1,h2,aw,bz,Option.isSome_none,aB]<;>rfl)) ?_
       refine aq ?_
       simp only[go_sem,hO,ai,h0,h1,h2]
       first | (unfold bQ;simp only[aw];simp_all[cV,cN];done) | (unfold bQ;simp only[aw];rcases aP:bJ x.bk (r.so,s.le)with _ | j<;>simp_all[cV,cN];done)
  ·repeat refine sq ?_
   refine rx hΓ [3,5,6,7,8,9,10,11,39] [[3,0],[5,0],[6,0],[7,0],[8,0]] (fun K' hK=>by simp only[go_sem,hO,ai,h0,h1,h2,aw,bz,Option.isSome_none,aB];(repeat (refine⟨ao,?_⟩));exact hK _ (by simp only[go_sem,hO,ai,h0,h1,h2,aw,bz,Option.isSome_none,aB]) (by simp only[go_sem,hO,ai,h0,h1,h2,aw,bz,Option.isSome_none,aB]<;>rfl)) ?_
   repeat refine sq ?_
   refine au (fun hb=>?_) fun hb=>?_
   ·repeat refine sq ?_
    refine dx hΓ hP [[],[],[0,1]] [4,5] [[5,0]] (by kernel_rfl) (fun K' hK=>by simp only[go_sem,hO,ai,h0,h1,h2,aw,bz,Option.isSome_none,aB];(repeat (refine⟨ao,?_⟩));(first | refine⟨by rfl,?_⟩ | skip);exact hK _ (by simp only[go_sem,hO,ai,h0,h1,h2,aw,bz,Option.isSome_none,aB]) (by simp only[go_sem,hO,ai,h0,h1,h2,aw,bz,Option.isSome_none,aB]<;>rfl)) ?_
    refine aq ?_
    simp only[go_sem,hO,ai,h0,h1,h2]
    first | (unfold bQ;simp only[aw];simp_all[cV,cN];done) | (unfold bQ;simp only[aw];rcases aP:bJ x.bk (r.so,s.le)with _ | j<;>simp_all[cV,cN];done)
   ·repeat refine sq ?_
    refine rx hΓ [3,5,7,8,10,60] [[3,0],[5,0],[7,0],[8,0]] (fun K' hK=>by simp only[go_sem,hO,ai,h0,h1,h2,aw,bz,Option.isSome_none,aB];(repeat (refine⟨ao,?_⟩));exact hK _ (by simp only[go_sem,hO,ai,h0,h1,h2,aw,bz,Option.isSome_none,aB]) (by simp only[go_sem,hO,ai,h0,h1,h2,aw,bz,Option.isSome_none,aB]<;>rfl)) ?_
    repeat refine sq ?_
    refine au (fun hb=>?_) fun hb=>?_
    ·repeat refine sq ?_
     refine dx hΓ hP [[],[],[0,1]] [4,5] [[5,0]] (by kernel_rfl) (fun K' hK=>by simp only[go_sem,hO,ai,h0,h1,h2,aw,bz,Option.isSome_none,aB];(repeat (refine⟨ao,?_⟩));(first | refine⟨by rfl,?_⟩ | skip);exact hK _ (by simp only[go_sem,hO,ai,h0,h1,h2,aw,bz,Option.isSome_none,aB]) (by simp only[go_sem,hO,ai,h0,h1,h2,aw,bz,Option.isSome_none,aB]<;>rfl)) ?_
     refine aq ?_
     simp only[go_sem,hO,ai,h0,h1,h2]
     first | (unfold bQ;simp only[aw];simp_all[cV,cN];done) | (unfold bQ;simp only[aw];rcases aP:bJ x.bk (r.so,s.le)with _ | j<;>simp_all[cV,cN];done)
    ·repeat refine sq ?_
     refine rx hΓ [3,5,7,8,10,68] [[3,0],[5,0],[7,0],[8,0]] (fun K' hK=>by simp only[go_sem,hO,ai,h0,h1,h2,aw,bz,Option.isSome_none,aB];(repeat (refine⟨ao,?_⟩));exact hK _ (by simp only[go_sem,hO,ai,h0,h1,h2,aw,bz,Option.isSome_none,aB]) (by simp only[go_sem,hO,ai,h0,h1,h2,aw,bz,Option.isSome_none,aB]<;>rfl)) ?_
     repeat refine sq ?_
     refine au (fun hb=>?_) fun hb=>?_
     ·repeat refine sq ?_
      refine dx hΓ hP [[],[],[1],[1,2],[0],u5] [4,5] [[5,0]] (by kernel_rfl) (fun K' hK=>by simp only[go_sem,hO,ai,h0,h1,h2,aw,bz,Option.isSome_none,aB];(repeat (refine⟨ao,?_⟩));(first | refine⟨by rfl,?_⟩ | skip);exact hK _ (by simp only[go_sem,hO,ai,h0,h1,h2,aw,bz,Option.isSome_none,aB]) (by simp only[go_sem,hO,ai,h0,h1,h2,aw,bz,Option.isSome_none,aB]<;>rfl)) ?_
      refine aq ?_
      simp only[go_sem,hO,ai,h0,h1,h2]
      first | (unfold bQ;simp only[aw];simp_all[cV,cN];done) | (unfold bQ;simp only[aw];rcases aP:bJ x.bk (r.so,s.le)with _ | j<;>simp_all[cV,cN];done)
     ·repeat refine sq ?_
      refine rx hΓ [3,5,7,10,76] [[3,0],[5,0],[7,0]] (fun K' hK=>by simp only[go_sem,hO,ai,h0,h1,h2,aw,bz,Option.isSome_none,aB];(repeat (refine⟨ao,?_⟩));exact hK _ (by simp only[go_sem,hO,ai,h0,h1,h2,aw,bz,Option.isSome_none,aB]) (by simp only[go_sem,hO,ai,h0,h1,h2,aw,bz,Option.isSome_none,aB]<;>rfl)) ?_
      repeat refine sq ?_
      refine au (fun hb=>?_) fun hb=>?_
      ·repeat refine sq ?_
       refine dx hΓ hP [[],[],[1],[1,2],[1,2,3],[0],u6] [4,5] [[5,0]] (by kernel_rfl) (fun K' hK=>by simp only[go_sem,hO,ai,h0,h1,h2,aw,bz,Option.isSome_none,aB];(repeat (refine⟨ao,?_⟩));(first | refine⟨by rfl,?_⟩ | skip);exact hK _ (by simp only[go_sem,hO,ai,h0,h1,h2,aw,bz,Option.isSome_none,aB]) (by simp only[go_sem,hO,ai,h0,h1,h2,aw,bz,Option.isSome_none,aB]<;>rfl)) ?_
       refine aq ?_
       simp only[go_sem,hO,ai,h0,h1,h2]
       first | (unfold bQ;simp only[aw];simp_all[cV,cN];done) | (unfold bQ;simp only[aw];rcases aP:bJ x.bk (r.so,s.le)with _ | j<;>simp_all[cV,cN];done)
      ·repeat refine sq ?_
       refine ay ?_
       refine br ?_
       simp only[go_sem]
       refine dv [5,7] [[5,0],[7,0]] ?_ ?_
       ·simp only[go_sem,hO,ai,h0,h1,h2]
       simp only[go_sem,hO,ai,h0,h1,h2]
       repeat refine sq ?_
       refine dx hΓ hP [[],[],[0,1]] [4,5] [[5,0]] (by kernel_rfl) (fun K' hK=>by simp only[go_sem,hO,ai,h0,h1,h2,aw,bz,Option.isSome_none,aB];(repeat (refine⟨ao,?_⟩));(first | refine⟨by rfl,?_⟩ | skip);exact hK _ (by simp only[go_sem,hO,ai,h0,h1,h2,aw,bz,Option.isSome_none,aB]) (by simp only[go_sem,hO,ai,h0,h1,h2,aw,bz,Option.isSome_none,aB]<;>rfl)) ?_
       refine aq ?_
       simp only[go_sem,hO,ai,h0,h1,h2]
       first | (unfold bQ;simp only[aw];simp_all[cV,cN];done) | (unfold bQ;simp only[aw];rcases aP:bJ x.bk (r.so,s.le)with _ | j<;>simp_all[cV,cN];done)
 ·repeat refine sq ?_
  refine rx hΓ [0,3,5,6,7,8,9] [[3,0],[5,0],[6,0],[7,0],[8,0]] (fun K' hK=>by simp only[go_sem,hO,ai,h0,h1,h2,aw,aJ,Option.isSome_some,aB];(repeat (refine⟨ao,?_⟩));exact hK _ (by simp only[go_sem,hO,ai,h0,h1,h2,aw,aJ,Option.isSome_some,aB]) (by simp only[go_sem,hO,ai,h0,h1,h2,aw,aJ,Option.isSome_some,aB]<;>rfl)) ?_
  repeat refine sq ?_
  refine dx hΓ hP [[],[0],[0,1],[0,1,2],[],[4],[],[6],[4,5,6,7],u9,bI,cz,cz,dS,eE] [3,5,6,7,8,9,10,11] [[3,0],[5,0],[6,0],[7,0],[8,0]] (by kernel_rfl) (fun K' hK=>by simp only[go_sem,hO,ai,h0,h1,h2,aw,aJ,Option.isSome_some,aB];(repeat (refine⟨ao,?_⟩));(first | refine⟨by rfl,?_⟩ | skip);exact hK _ (by simp only[go_sem,hO,ai,h0,h1,h2,aw,aJ,Option.isSome_some,aB]) (by simp only[go_sem,hO,ai,h0,h1,h2,aw,aJ,Option.isSome_some,aB]<;>rfl)) ?_
  repeat refine sq ?_
  refine aC ?_
  repeat refine sq ?_
  refine rx hΓ [3,5,6,7,8,9,10,11,39] [[3,0],[5,0],[6,0],[7,0],[8,0]] (fun K' hK=>by simp only[go_sem,hO,ai,h0,h1,h2,aw,aJ,Option.isSome_some,aB];(repeat (refine⟨ao,?_⟩));exact hK _ (by simp only[go_sem,hO,ai,h0,h1,h2,aw,aJ,Option.isSome_some,aB]) (by simp only[go_sem,hO,ai,h0,h1,h2,aw,aJ,Option.isSome_some,aB]<;>rfl)) ?_
  repeat refine sq ?_
  refine au (fun hb=>?_) fun hb=>?_
  ·repeat refine sq ?_
   refine ay ?_
   repeat refine sq ?_
   refine au (fun hb=>?_) fun hb=>?_
   ·repeat refine sq ?_
    refine dx hΓ hP [[],[],[0,1]] [4,5] [[5,0]] (by kernel_rfl) (fun K' hK=>by simp only[go_sem,hO,ai,h0,h1,h2,aw,aJ,Option.isSome_some,aB];(repeat (refine⟨ao,?_⟩));(first | refine⟨by rfl,?_⟩ | skip);exact hK _ (by simp only[go_sem,hO,ai,h0,h1,h2,aw,aJ,Option.isSome_some,aB]) (by simp only[go_sem,hO,ai,h0,h1,h2,aw,aJ,Option.isSome_some,aB]<;>rfl)) ?_
    refine aq ?_
    simp only[go_sem,hO,ai,h0,h1,h2]
    first | (unfold bQ;simp only[aw];simp_all[cV,cN];done) | (unfold bQ;simp only[aw];rcases aP:bJ x.bk (r.so,s.le)with _ | j<;>simp_all[cV,cN];done)
   ·repeat refine sq ?_
    refine rx hΓ [3,5,7,8,10,60] [[3,0],[5,0],[7,0],[8,0]] (fun K' hK=>by simp only[go_sem,hO,ai,h0,h1,h2,aw,aJ,Option.isSome_some,aB];(repeat (refine⟨ao,?_⟩));exact hK _ (by simp only[go_sem,hO,ai,h0,h1,h2,aw,aJ,Option.isSome_some,aB]) (by simp only[go_sem,hO,ai,h0,h1,h2,aw,aJ,Option.isSome_some,aB]<;>rfl)) ?_
    repeat refine sq ?_
    refine au (fun hb=>?_) fun hb=>?_
    ·repeat refine sq ?_
     refine dx hΓ hP [[],[],[0,1]] [4,5] [[5,0]] (by kernel_rfl) (fun K' hK=>by simp only[go_sem,hO,ai,h0,h1,h2,aw,aJ,Option.isSome_some,aB];(repeat (refine⟨ao,?_⟩));(first | refine⟨by rfl,?_⟩ | skip);exact hK _ (by simp only[go_sem,hO,ai,h0,h1,h2,aw,aJ,Option.isSome_some,aB]) (by simp only[go_sem,hO,ai,h0,h1,h2,aw,aJ,Option.isSome_some,aB]<;>rfl)) ?_
     refine aq ?_
     simp only[go_sem,hO,ai,h0,h1,h2]
     first | (unfold bQ;simp only[aw];simp_all[cV,cN];done) | (unfold bQ;simp only[aw];rcases aP:bJ x.bk (r.so,s.le)with _ | j<;>simp_all[cV,cN];done)
    ·repeat refine sq ?_
     refine rx hΓ [3,5,7,8,10,68] [[3,0],[5,0],[7,0],[8,0]] (fun K' hK=>by simp only[go_sem,hO,ai,h0,h1,h2,aw,aJ,Option.isSome_some,aB];(repeat (refine⟨ao,?_⟩));exact hK _ (by simp only[go_sem,hO,ai,h0,h1,h2,aw,aJ,Option.isSome_some,aB]) (by simp only[go_sem,hO,ai,h0,h1,h2,aw,aJ,Option.isSome_some,aB]<;>rfl)) ?_
     repeat refine sq ?_
     refine au (fun hb=>?_) fun hb=>?_
     ·repeat refine sq ?_
      refine dx hΓ hP [[],[],[1],[1,2],[0],u5] [4,5] [[5,0]] (by kernel_rfl) (fun K' hK=>by simp only[go_sem,hO,ai,h0,h1,h2,aw,aJ,Option.isSome_some,aB];(repeat (refine⟨ao,?_⟩));(first | refine⟨by rfl,?_⟩ | skip);exact hK _ (by simp only[go_sem,hO,ai,h0,h1,h2,aw,aJ,Option.isSome_some,aB]) (by simp only[go_sem,hO,ai,h0,h1,h2,aw,aJ,Option.isSome_some,aB]<;>rfl)) ?_
      refine aq ?_
      simp only[go_sem,hO,ai,h0,h1,h2]
      first | (unfold bQ;simp only[aw];simp_all[cV,cN];done) | (unfold bQ;simp only[aw];rcases aP:bJ x.bk (r.so,s.le)with _ | j<;>simp_all[cV,cN];done)
     ·repeat refine sq ?_
      refine rx hΓ [3,5,7,10,76] [[3,0],[5,0],[7,0]] (fun K' hK=>by simp only[go_sem,hO,ai,h0,h1,h2,aw,aJ,Option.isSome_some,aB];(repeat (refine⟨ao,?_⟩));exact hK _ (by simp only[go_sem,hO,ai,h0,h1,h2,aw,aJ,Option.isSome_some,aB]) (by simp only[go_sem,hO,ai,h0,h1,h2,aw,aJ,Option.isSome_some,aB]<;>rfl)) ?_
      repeat refine sq ?_
      refine au (fun hb=>?_) fun hb=>?_
      ·repeat refine sq ?_
       refine dx hΓ hP [[],[],[1],[1,2],[1,2,3],[0],u6] [4,5] [[5,0]] (by kernel_rfl) (fun K' hK=>by simp only[go_sem,hO,ai,h0,h1,h2,aw,aJ,Option.isSome_some,aB];(repeat (refine⟨ao,?_⟩));(first | refine⟨by rfl,?_⟩ | skip);exact hK _ (by simp only[go_sem,hO,ai,h0,h1,h2,aw,aJ,Option.isSome_some,aB]) (by simp only[go_sem,hO,ai,h0,h1,h2,aw,aJ,Option.isSome_some,aB]<;>rfl)) ?_
       refine aq ?_
       simp only[go_sem,hO,ai,h0,h1,h2]
       first | (unfold bQ;simp only[aw];simp_all[cV,cN];done) | (unfold bQ;simp only[aw];rcases aP:bJ x.bk (r.so,s.le)with _ | j<;>simp_all[cV,cN];done)
      ·repeat refine sq ?_
       refine ay ?_
       refine br ?_
       simp only[go_sem]
       refine dv [5,7] [[5,0],[7,0]] ?_ ?_
       ·simp only[go_sem,hO,ai,h0,h1,h2]
       simp only[go_sem,hO,ai,h0,h1,h2]
       repeat refine sq ?_
       refine dx hΓ hP [[],[],[0,1]] [4,5] [[5,0]] (by kernel_rfl) (fun K' hK=>by simp only[go_sem,hO,ai,h0,h1,h2,aw,aJ,Option.isSome_some,aB];(repeat (refine⟨ao,?_⟩));(first | refine⟨by rfl,?_⟩ | skip);exact hK _ (by simp only[go_sem,hO,ai,h0,h1,h2,aw,aJ,Option.isSome_some,aB]) (by simp only[go_sem,hO,ai,h0,h1,h2,aw,aJ,Option.isSome_some,aB]<;>rfl)) ?_
       refine aq ?_
       simp only[go_sem,hO,ai,h0,h1,h2]
       first | (unfold bQ;simp only[aw];simp_all[cV,cN];done) | (unfold bQ;simp only[aw];rcases aP:bJ x.bk (r.so,s.le)with _ | j<;>simp_all[cV,cN];done)
  ·repeat refine sq ?_
   refine rx hΓ [3,5,6,7,8,9,10,11,39] [[3,0],[5,0],[6,0],[7,0],[8,0]] (fun K' hK=>by simp only[go_sem,hO,ai,h0,h1,h2,aw,aJ,Option.isSome_some,aB];(repeat (refine⟨ao,?_⟩));exact hK _ (by simp only[go_sem,hO,ai,h0,h1,h2,aw,aJ,Option.isSome_some,aB]) (by simp only[go_sem,hO,ai,h0,h1,h2,aw,aJ,Option.isSome_some,aB]<;>rfl)) ?_
   repeat refine sq ?_
   refine au (fun hb=>?_) fun hb=>?_
   ·repeat refine sq ?_
    refine dx hΓ hP [[],[],[0,1]] [4,5] [[5,0]] (by kernel_rfl) (fun K' hK=>by simp only[go_sem,hO,ai,h0,h1,h2,aw,aJ,Option.isSome_some,aB];(repeat (refine⟨ao,?_⟩));(first | refine⟨by rfl,?_⟩ | skip);exact hK _ (by simp only[go_sem,hO,ai,h0,h1,h2,aw,aJ,Option.isSome_some,aB]) (by simp only[go_sem,hO,ai,h0,h1,h2,aw,aJ,Option.isSome_some,aB]<;>rfl)) ?_
    refine aq ?_
    simp only[go_sem,hO,ai,h0,h1,h2]
    first | (unfold bQ;simp only[aw];simp_all[cV,cN];done) | (unfold bQ;simp only[aw];rcases aP:bJ x.bk (r.so,s.le)with _ | j<;>simp_all[cV,cN];done)
   ·repeat refine sq ?_
    refine rx hΓ [3,5,7,8,10,60] [[3,0],[5,0],[7,0],[8,0]] (fun K' hK=>by simp only[go_sem,hO,ai,h0,h1,h2,aw,aJ,Option.isSome_some,aB];(repeat (refine⟨ao,?_⟩));exact hK _ (by simp only[go_sem,hO,ai,h0,h1,h2,aw,aJ,Option.isSome_some,aB]) (by simp only[go_sem,hO,ai,h0,h1,h2,aw,aJ,Option.isSome_some,aB]<;>rfl)) ?_
    repeat refine sq ?_
    refine au (fun hb=>?_) fun hb=>?_
    ·repeat refine sq ?_
     refine dx hΓ hP [[],[],[0,1]] [4,5] [[5,0]] (by kernel_rfl) (fun K' hK=>by simp only[go_sem,hO,ai,h0,h1,h2,aw,aJ,Option.isSome_some,aB];(repeat (refine⟨ao,?_⟩));(first | refine⟨by rfl,?_⟩ | skip);exact hK _ (by simp only[go_sem,hO,ai,h0,h1,h2,aw,aJ,Option.isSome_some,aB]) (by simp only[go_sem,hO,ai,h0,h1,h2,aw,aJ,Option.isSome_some,aB]<;>rfl)) ?_
     refine aq ?_
     simp only[go_sem,hO,ai,h0,h1,h2]
     first | (unfold bQ;simp only[aw];simp_all[cV,cN];done) | (unfold bQ;simp only[aw];rcases aP:bJ x.bk (r.so,s.le)with _ | j<;>simp_all[cV,cN];done)
    ·repeat refine sq ?_
     refine rx hΓ [3,5,7,8,10,68] [[3,0],[5,0],[7,0],[8,0]] (fun K' hK=>by simp only[go_sem,hO,ai,h0,h1,h2,aw,aJ,Option.isSome_some,aB];(repeat (refine⟨ao,?_⟩));exact hK _ (by simp only[go_sem,hO,ai,h0,h1,h2,aw,aJ,Option.isSome_some,aB]) (by simp only[go_sem,hO,ai,h0,h1,h2,aw,aJ,Option.isSome_some,aB]<;>rfl)) ?_
     repeat refine sq ?_
     refine au (fun hb=>?_) fun hb=>?_
     ·repeat refine sq ?_
      refine dx hΓ hP [[],[],[1],[1,2],[0],u5] [4,5] [[5,0]] (by kernel_rfl) (fun K' hK=>by simp only[go_sem,hO,ai,h0,h1,h2,aw,aJ,Option.isSome_some,aB];(repeat (refine⟨ao,?_⟩));(first | refine⟨by rfl,?_⟩ | skip);exact hK _ (by simp only[go_sem,hO,ai,h0,h1,h2,aw,aJ,Option.isSome_some,aB]) (by simp only[go_sem,hO,ai,h0,h1,h2,aw,aJ,Option.isSome_some,aB]<;>rfl)) ?_
      refine aq ?_
      simp only[go_sem,hO,ai,h0,h1,h2]
      first | (unfold bQ;simp only[aw];simp_all[cV,cN];done) | (unfold bQ;simp only[aw];rcases aP:bJ x.bk (r.so,s.le)with _ | j<;>simp_all[cV,cN];done)
     ·repeat refine sq ?_
      refine rx hΓ [3,5,7,10,76] [[3,0],[5,0],[7,0]] (fun K' hK=>by simp only[go_sem,hO,ai,h0,h1,h2,aw,aJ,Option.isSome_some,aB];(repeat (refine⟨ao,?_⟩));exact hK _ (by simp only[go_sem,hO,ai,h0,h1,h2,aw,aJ,Option.isSome_some,aB]) (by simp only[go_sem,hO,ai,h0,h1,h2,aw,aJ,Option.isSome_some,aB]<;>rfl)) ?_
      repeat refine sq ?_
      refine au (fun hb=>?_) fun hb=>?_
      ·repeat refine sq ?_
       refine dx hΓ hP [[],[],[1],[1,2],[1,2,3],[0],u6] [4,5] [[5,0]] (by kernel_rfl) (fun K' hK=>by simp only[go_sem,hO,ai,h0,h1,h2,aw,aJ,Option.isSome_some,aB];(repeat (refine⟨ao,?_⟩));(first | refine⟨by rfl,?_⟩ | skip);exact hK _ (by simp only[go_sem,hO,ai,h0,h1,h2,aw,aJ,Option.isSome_some,aB]) (by simp only[go_sem,hO,ai,h0,h1,h2,aw,aJ,Option.isSome_some,aB]<;>rfl)) ?_
       refine aq ?_
       simp only[go_sem,hO,ai,h0,h1,h2]
       first | (unfold bQ;simp only[aw];simp_all[cV,cN];done) | (unfold bQ;simp only[aw];rcases aP:bJ x.bk (r.so,s.le)with _ | j<;>simp_all[cV,cN];done)
      ·repeat refine sq ?_
       refine ay ?_
       refine br ?_
       simp only[go_sem]
       refine dv [5,7] [[5,0],[7,0]] ?_ ?_
       ·simp only[go_sem,hO,ai,h0,h1,h2]
       simp only[go_sem,hO,ai,h0,h1,h2]
       repeat refine sq ?_
       refine dx hΓ hP [[],[],[0,1]] [4,5] [[5,0]] (by kernel_rfl) (fun K' hK=>by simp only[go_sem,hO,ai,h0,h1,h2,aw,aJ,Option.isSome_some,aB];(repeat (refine⟨ao,?_⟩));(first | refine⟨by rfl,?_⟩ | skip);exact hK _ (by simp only[go_sem,hO,ai,h0,h1,h2,aw,aJ,Option.isSome_some,aB]) (by simp only[go_sem,hO,ai,h0,h1,h2,aw,aJ,Option.isSome_some,aB]<;>rfl)) ?_
       refine aq ?_
       simp only[go_sem,hO,ai,h0,h1,h2]
       first | (unfold bQ;simp only[aw];simp_all[cV,cN];done) | (unfold bQ;simp only[aw];rcases aP:bJ x.bk (r.so,s.le)with _ | j<;>simp_all[cV,cN];done)
end
noncomputable section
theorem xT{α:Type}{p:α->Bool}{l:List α}{i:Nat}(h:i<l.length):(l.take (i+1)).all p=((l.take i).all p&&p l[i]):=by
 rw[List.take_add_one,List.getElem?_eq_getElem h,List.all_append]
 simp
theorem M1{x:Vw}{d:Ds}{l:List Sig}{i:Nat}(h:i<l.length):fH x d (l.take (i+1))=jv x (fH x d (l.take i)) l[i]:=by
 unfold fH
 rw[List.take_add_one,List.getElem?_eq_getElem h,List.foldl_append]
 rfl
theorem Bx(x:Vw)(d:Ds)(s:Sig):bQ ⟨x.l,x.rs,x.ts,x.bk,d⟩ s=bQ x s:=rfl
theorem l4.ds{x:Vw}(h:l4 x)(d:Ds):l4 ⟨x.l,x.rs,x.ts,x.bk,d⟩:=⟨h.ok,h.bk,h.rs,h.rn,h.tn,h.ts⟩
theorem TF(x:Vw)(d:Ds)(i:Int)(r:Rg):CE ⟨x.l,x.rs,x.ts,x.bk,d⟩ i r=kN d i r:=rfl
theorem ab7{H H':Name->Option O}{Ni:List (V×V)}(dF:upd H [2,1] (some (.map 0 Ni))=H')(ai:∀ hs es,bG [0] (bC [0] hs) (fun nm=>if nm=[2,1]then some (.map 0 es)else H nm)=True):
 (∀ hs,bG [0] (bC [0] hs) H'=True)/\∀ hs es,bG [0] (bC [0] hs) (fun nm=>if nm=[2,1]then some (.map 0 es)else H' nm)=True:=by
 refine⟨fun hs=>by rw[<-dF];exact ai hs Ni,fun hs es=>?_⟩
 have e:(fun nm=>if nm=[2,1]then some (.map 0 es)else H' nm)=fun nm=>if nm=[2,1]then some (.map 0 es)else H nm:=by
  funext nm
  rw[<-dF]
  by_cases e:nm=[2,1]
  ·simp[e]
  ·simp[ba _ _ _ e,e]
 rw[e];exact ai hs es
theorem PW{α β:Type}[DecidableEq α]{f:α->β}{a:α}{b:β}(h:f a=b):upd f a b=f:=by
 funext x
 by_cases e:x=a
 ·subst e;rw[aU,h]
 ·rw[ba _ _ _ e]
def yI(d:Ds)(i:Int):Bool:=decide ((bt d i).1<=(bt d i).2)
def K27:List (Nat×Spec):=[(187,S187),(165,S165)]
theorem ac7:KS K27:=tc WY<|tc Df<|tn
attribute [go_sem] K27
def OS:VSpec:=v1 (cW iS) (fun x l=>((l4 x/\x.rs.Nodup)/\l.length<=60)/\∀ s∈l,vX s) (fun x l=>.v (.bool (iZ x l))) (some fun x l=>fH x x.ds l)
def S128:Spec:=OS.toSpec
attribute [go_sem] OS S128
set_option maxHeartbeats 8000000 in
theorem W6:aM Tryz.prog 128 S128:=by
 refine yk (rs:=[.tmp 4]) Tryz.func128 Tryz.ntmps128 (by rfl) (by kernel_rfl) (by decide) (fun _ _=>by first | rfl | simp[D.clos,D.closL,ma]) ⟨_,rfl,lb rfl,fun x l hp H h0 h1 h2 hO ai=>?_⟩
 simp only[iS,cW,encS,bg,dD,List.map_cons,List.map_nil,Nat.zero_add,Option.map_some,Option.map_none]at h0 |-
 have hΓ:=ac7
 obtain⟨⟨⟨hv,ca⟩,hln⟩,DC⟩:=hp
 have uY:l.length<=maxLen:=by unfold maxLen;omega
 have fE:x.ts.length<=maxLen:=by have:=hv.tn;unfold maxLen;omega
 have bj:∀ hs es,bG [0] (bC [0] hs) (upd H [2,1] (some (.map 0 es)))=True:=ai
 repeat refine sq ?_
 refine rx hΓ [0,1] [] (fun K' hK=>by simp only[go_sem,hO,ai,bj,h0,h1,h2];(repeat (refine⟨ao,?_⟩));exact hK _ (by simp only[go_sem,hO,ai,bj,h0,h1,h2]) (by simp only[go_sem,hO,ai,bj,h0,h1,h2]<;>rfl)) ?_
 repeat refine sq ?_
 refine rx hΓ [0,1,5] [] (fun K' hK=>by simp only[go_sem,hO,ai,bj,h0,h1,h2];(repeat (refine⟨ao,?_⟩));exact hK _ (by simp only[go_sem,hO,ai,bj,h0,h1,h2]) (by simp only[go_sem,hO,ai,bj,h0,h1,h2]<;>rfl)) ?_
 repeat refine sq ?_
 refine rx hΓ [0,1,5,6] [] (fun K' hK=>by simp only[go_sem,hO,ai,bj,h0,h1,h2];(repeat (refine⟨ao,?_⟩));exact hK _ (by simp only[go_sem,hO,ai,bj,h0,h1,h2]) (by simp only[go_sem,hO,ai,bj,h0,h1,h2]<;>rfl)) ?_
 repeat refine sq ?_
 refine rx hΓ [0,5,6,16,17,18] [] (fun K' hK=>by simp only[go_sem,hO,ai,bj,h0,h1,h2];(repeat (refine⟨ao,?_⟩));exact hK _ (by simp only[go_sem,hO,ai,bj,h0,h1,h2]) (by simp only[go_sem,hO,ai,bj,h0,h1,h2]<;>rfl)) ?_
 repeat refine sq ?_
 refine aC ?_
 repeat refine sq ?_
 refine AJ (fun s:Nat=>upd H [2,1] (some (.map 0 (bE (fH x x.ds (l.take s)))))) (fun s:Nat=>[(18,⟨true,.v (vInt s)⟩),(5,⟨true,.v (.bool ((l.take s).all (fC x)))⟩)]) (fun s=>[]) (fun s=>s<=l.length) (fun s=>l.length-s) 0 ?_ ?_ ?_ ?_ ?_
 ·exact Nat.zero_le _
 ·congr 1;exact PW h2
 ·rfl
 ·rfl
 rintro i hi
 generalize dF:upd H [2,1] (some (.map 0 (bE (fH x x.ds (l.take i)))))=H'
 have h0:=(show H' [0,1]=H [0,1]by rw[<-dF,ba _ _ _ (by decide)]).trans h0
 have h1:=(show H' [1,1]=H [1,1]by rw[<-dF,ba _ _ _ (by decide)]).trans h1
 have h2:H' [2,1]=some (.map 0 (bE (fH x x.ds (l.take i)))):=by rw[<-dF,aU]
 obtain⟨hO,ai⟩:=ab7 dF ai
 have bj:∀ hs es,bG [0] (bC [0] hs) (upd H' [2,1] (some (.map 0 es)))=True:=ai
 simp only[go_sem]
 repeat refine sq ?_
 refine rx hΓ [0,5,6,16,17,18,19] [] (fun K' hK=>by simp only[go_sem,hO,ai,bj,h0,h1,h2];(repeat (refine⟨ao,?_⟩));exact hK _ (by simp only[go_sem,hO,ai,bj,h0,h1,h2]) (by simp only[go_sem,hO,ai,bj,h0,h1,h2]<;>rfl)) ?_
 repeat refine sq ?_
 refine au (fun hb=>?_) fun hb=>?_
 ·have aa:i<l.length:=by simpa using hb
  have an:(i:Int)<l.length:=by omega
  clear hb
  have DE:=DC l[i] (List.getElem_mem aa)
  repeat refine sq ?_
  refine ay ?_
  repeat refine sq ?_
  refine aC ?_
  repeat refine sq ?_
  refine rx hΓ [0,5,6,8,16,17,18] [[8,0]] (fun K' hK=>by simp only[go_sem,hO,ai,bj,h0,h1,h2,ae aa,ah,aj,an];(repeat (refine⟨ao,?_⟩));exact hK _ (by simp only[go_sem,hO,ai,bj,h0,h1,h2,ae aa,ah,aj,an]) (by simp only[go_sem,hO,ai,bj,h0,h1,h2,ae aa,ah,aj,an]<;>rfl)) ?_
  repeat refine sq ?_
  refine rx hΓ [0,5,6,9,10,16,17,18] [[10,0]] (fun K' hK=>by simp only[go_sem,hO,ai,bj,h0,h1,h2,ae aa,ah,aj,an,Bx];(repeat (refine⟨by first | exact ao | exact⟨⟨hv.ds _,ca⟩,DE⟩,?_⟩));exact hK _ (by simp only[go_sem,hO,ai,bj,h0,h1,h2,ae aa,ah,aj,an,Bx]) (by simp only[go_sem,hO,ai,bj,h0,h1,h2,ae aa,ah,aj,an,Bx]<;>rfl)) ?_
  repeat refine sq ?_
  refine rx hΓ [0,5,6,9,10,16,17,18,29] [[10,0]] (fun K' hK=>by simp only[go_sem,hO,ai,bj,h0,h1,h2,ae aa,ah,aj,an];(repeat (refine⟨ao,?_⟩));exact hK _ (by simp only[go_sem,hO,ai,bj,h0,h1,h2,ae aa,ah,aj,an]) (by simp only[go_sem,hO,ai,bj,h0,h1,h2,ae aa,ah,aj,an]<;>rfl)) ?_
  repeat refine sq ?_
  refine au (fun hb=>?_) fun hb=>?_
  ·repeat refine sq ?_
   have lP:(bQ x l[i]).1>=0:=by simpa using hb
   have hA:(l.take (i+1)).all (fC x)=(l.take i).all (fC x):=by rw[xT aa];simp[fC,lP]
   have hF:fH x x.ds (l.take (i+1))=kN (fH x x.ds (l.take i)) (bQ x l[i]).1 (bQ x l[i]).2:=by rw[M1 aa,jv,if_pos lP]
   repeat refine sq ?_
   refine aI hΓ fun K' hK=>?_
   simp only[go_sem,hO,ai,bj,h0,h1,h2,ae aa,ah,aj,an,TF]
   repeat (refine⟨ao,?_⟩)
   refine hK _ ?_
   clear K' hK
   simp only[go_sem]
   refine dv [0,5,6,16,17,18] [] ?_ ?_
   ·simp only[go_sem,hO,ai,bj,h0,h1,h2]
   simp only[go_sem,hO,ai,bj,h0,h1,h2]
   repeat refine sq ?_
   refine aI hΓ fun K' hK=>?_
   simp only[go_sem,hO,ai,bj,h0,h1,h2,ae aa,ah,aj,an]
   repeat (refine⟨ao,?_⟩)
   refine hK _ ?_
   clear K' hK
   simp only[go_sem]
   refine⟨i+1,aa,by(show l.length-(i+1)<l.length-i;omega),?_⟩
   refine aT [0,5,6,16,17,18] [] ?_ ?_
   ·simp only[go_sem,aO aa uY,aQ,hA,hF,hO,ai,bj,h0,h1,h2]
   ·simp only[go_sem,aO aa uY,aQ,hA,hF,hO,ai,bj,h0,h1,h2]
    all_goals first | (rw[<-dF];done) | (congr 1;funext nm;rw[<-dF];by_cases e:nm=[2,1]<;>simp[e,aU,ba])
  ·repeat refine sq ?_
   have lP:¬ (bQ x l[i]).1>=0:=by simpa using hb
   have hF:fH x x.ds (l.take (i+1))=fH x x.ds (l.take i):=by rw[M1 aa,jv,if_neg lP]
   repeat refine sq ?_
   refine rx hΓ [0,5,6,16,17,18,38] [] (fun K' hK=>by simp only[go_sem,hO,ai,bj,h0,h1,h2,ae aa,ah,aj,an];(repeat (refine⟨ao,?_⟩));exact hK _ (by simp only[go_sem,hO,ai,bj,h0,h1,h2,ae aa,ah,aj,an]) (by simp only[go_sem,hO,ai,bj,h0,h1,h2,ae aa,ah,aj,an]<;>rfl)) ?_
   repeat refine sq ?_
   refine au (fun hb=>?_) fun hb=>?_
   ·repeat refine sq ?_
    have hA:(l.take (i+1)).all (fC x)=false:=by rw[xT aa];simp[fC,lP];intro _;simpa using hb
    repeat refine sq ?_
    refine aI hΓ fun K' hK=>?_
    simp only[go_sem,hO,ai,bj,h0,h1,h2,ae aa,ah,aj,an]
    repeat (refine⟨ao,?_⟩)
    refine hK _ ?_
    clear K' hK
    simp only[go_sem]
    refine dv [0,5,6,16,17,18] [] ?_ ?_
    ·simp only[go_sem,hO,ai,bj,h0,h1,h2]
    simp only[go_sem,hO,ai,bj,h0,h1,h2]
    repeat refine sq ?_
    refine aI hΓ fun K' hK=>?_
    simp only[go_sem,hO,ai,bj,h0,h1,h2,ae aa,ah,aj,an]
    repeat (refine⟨ao,?_⟩)
    refine hK _ ?_
    clear K' hK
    simp only[go_sem]
    refine⟨i+1,aa,by(show l.length-(i+1)<l.length-i;omega),?_⟩
    refine aT [0,5,6,16,17,18] [] ?_ ?_
    ·simp only[go_sem,aO aa uY,aQ,hA,hF,hO,ai,bj,h0,h1,h2]
    ·simp only[go_sem,aO aa uY,aQ,hA,hF,hO,ai,bj,h0,h1,h2]
     all_goals first | (rw[<-dF];done) | (congr 1;funext nm;rw[<-dF];by_cases e:nm=[2,1]<;>simp[e,aU,ba])
   ·repeat refine sq ?_
    have hA:(l.take (i+1)).all (fC x)=(l.take i).all (fC x):=by rw[xT aa];simp[fC,lP];intro _;simpa using hb
    refine ay ?_
    refine br ?_
    simp only[go_sem]
    refine dv [0,5,6,16,17,18] [] ?_ ?_
    ·simp only[go_sem,hO,ai,bj,h0,h1,h2]
    simp only[go_sem,hO,ai,bj,h0,h1,h2]
    repeat refine sq ?_
    refine aI hΓ fun K' hK=>?_
    simp only[go_sem,hO,ai,bj,h0,h1,h2,ae aa,ah,aj,an]
    repeat (refine⟨ao,?_⟩)
    refine hK _ ?_
    clear K' hK
    simp only[go_sem]
    refine⟨i+1,aa,by(show l.length-(i+1)<l.length-i;omega),?_⟩
    refine aT [0,5,6,16,17,18] [] ?_ ?_
    ·simp only[go_sem,aO aa uY,aQ,hA,hF,hO,ai,bj,h0,h1,h2]
    ·simp only[go_sem,aO aa uY,aQ,hA,hF,hO,ai,bj,h0,h1,h2]
     all_goals first | (rw[<-dF];done) | (congr 1;funext nm;rw[<-dF];by_cases e:nm=[2,1]<;>simp[e,aU,ba])
 ·have aV:i=l.length:=by
   have :¬ (i:Int)<l.length:=by simpa using hb
   omega
  clear hb
  subst aV
  repeat refine sq ?_
  refine be ?_
  simp only[go_sem]
  refine dv [0,5] [] ?_ ?_
  ·simp only[go_sem,hO,ai,bj,h0,h1,h2]
  simp only[go_sem,hO,ai,bj,h0,h1,h2]
  repeat refine sq ?_
  refine rx hΓ [0,5,43,44,45] [] (fun K' hK=>by simp only[go_sem,hO,ai,bj,h0,h1,h2];(repeat (refine⟨ao,?_⟩));exact hK _ (by simp only[go_sem,hO,ai,bj,h0,h1,h2]) (by simp only[go_sem,hO,ai,bj,h0,h1,h2]<;>rfl)) ?_
  repeat refine sq ?_
  refine aC ?_
  repeat refine sq ?_
  refine bA (fun s:Nat=>[(45,⟨true,.v (vInt s)⟩),(5,⟨true,.v (.bool ((x.ts.take s).all (yI (fH x x.ds (l.take l.length)))&&(l.take l.length).all (fC x)))⟩)]) (fun s=>[]) (fun s=>s<=x.ts.length) (fun s=>x.ts.length-s) 0 ?_ ?_ ?_ ?_
  ·exact Nat.zero_le _
  ·rfl
  ·rfl
  rintro i1 hi
  generalize hB:((x.ts.take i1).all (yI (fH x x.ds (l.take l.length)))&&(l.take l.length).all (fC x))=B
  simp only[go_sem]
  repeat refine sq ?_
  refine rx hΓ [0,5,43,44,45,46] [] (fun K' hK=>by simp only[go_sem,hO,ai,bj,h0,h1,h2];(repeat (refine⟨ao,?_⟩));exact hK _ (by simp only[go_sem,hO,ai,bj,h0,h1,h2]) (by simp only[go_sem,hO,ai,bj,h0,h1,h2]<;>rfl)) ?_
  repeat refine sq ?_
  refine au (fun hb=>?_) fun hb=>?_
  ·have aE:i1<x.ts.length:=by simpa using hb
   have bc:(i1:Int)<x.ts.length:=by omega
   clear hb
   have hA:((x.ts.take (i1+1)).all (yI (fH x x.ds (l.take l.length)))&&(l.take l.length).all (fC x))=(B&&decide ((bt (fH x x.ds (l.take l.length)) x.ts[i1]).1<=(bt (fH x x.ds (l.take l.length)) x.ts[i1]).2)):=by
    rw[<-hB,xT aE,Bool.and_assoc,Bool.and_assoc,Bool.and_comm (yI _ _)];rfl
   repeat refine sq ?_
   refine ay ?_
   repeat refine sq ?_
   refine aC ?_
   repeat refine sq ?_
   refine rx hΓ [0,5,12,43,44,45] [] (fun K' hK=>by simp only[go_sem,hO,ai,bj,h0,h1,h2,ae aE,ah,aj,bc];(repeat (refine⟨ao,?_⟩));exact hK _ (by simp only[go_sem,hO,ai,bj,h0,h1,h2,ae aE,ah,aj,bc]) (by simp only[go_sem,hO,ai,bj,h0,h1,h2,ae aE,ah,aj,bc]<;>rfl)) ?_
   repeat refine sq ?_
   refine rx hΓ [0,5,13,43,44,45] [[13,0]] (fun K' hK=>by simp only[go_sem,hO,ai,bj,h0,h1,h2,ae aE,ah,aj,bc,iO];(repeat (refine⟨ao,?_⟩));exact hK _ (by simp only[go_sem,hO,ai,bj,h0,h1,h2,ae aE,ah,aj,bc,iO]) (by simp only[go_sem,hO,ai,bj,h0,h1,h2,ae aE,ah,aj,bc,iO]<;>rfl)) ?_
   repeat refine sq ?_
   refine aI hΓ fun K' hK=>?_
   simp only[go_sem,hO,ai,bj,h0,h1,h2,ae aE,ah,aj,bc]
   repeat (refine⟨ao,?_⟩)
   refine hK _ ?_
   clear K' hK
   simp only[go_sem]
   refine dv [0,5,43,44,45] [] ?_ ?_
   ·simp only[go_sem,hO,ai,bj,h0,h1,h2]
   simp only[go_sem,hO,ai,bj,h0,h1,h2]
   repeat refine sq ?_
   refine aI hΓ fun K' hK=>?_
   simp only[go_sem,hO,ai,bj,h0,h1,h2,ae aE,ah,aj,bc]
   repeat (refine⟨ao,?_⟩)
   refine hK _ ?_
   clear K' hK
   simp only[go_sem]
   refine⟨i1+1,aE,by(show x.ts.length-(i1+1)<x.ts.length-i1;omega),?_⟩
   refine aT [0,5,43,44,45] [] ?_ ?_<;>simp only[go_sem,aO aE fE,aQ,hA,hO,ai,bj,h0,h1,h2]
  ·have fc:i1=x.ts.length:=by
    have :¬ (i1:Int)<x.ts.length:=by simpa using hb
    omega
   clear hb
   subst fc
   repeat refine sq ?_
   refine be ?_
   simp only[go_sem]
   refine dv [5] [] ?_ ?_
   ·simp only[go_sem,hO,ai,bj,h0,h1,h2]
   simp only[go_sem,hO,ai,bj,h0,h1,h2]
   repeat refine sq ?_
   refine rx hΓ [4] [] (fun K' hK=>by simp only[go_sem,hO,ai,bj,h0,h1,h2];(repeat (refine⟨ao,?_⟩));exact hK _ (by simp only[go_sem,hO,ai,bj,h0,h1,h2]) (by simp only[go_sem,hO,ai,bj,h0,h1,h2]<;>rfl)) ?_
   refine aq ?_
   simp only[go_sem,hO,ai,bj,h0,h1,h2]
   rw[<-hB];simp only[List.take_length];exact⟨by unfold iZ Aj;rw[Bool.and_comm];rfl,trivial⟩
end
open Go
structure Ro (α:Type) where
 m:Nat
 fam:α->List Name->List O
 args:α->List Name->List D
 ok:α->Prop
 val:α->D
structure Ro.Ok {α:Type} (r:Ro α):Prop where
 len:∀ a Ls,Ls.length=r.m->(r.fam a Ls).length=r.m
 renF:∀ a f Ls,Ls.length=r.m->(r.fam a Ls).map (O.ren f)=r.fam a (Ls.map f)
 renA:∀ a f Ls,Ls.length=r.m->D.renL f (r.args a Ls)=r.args a (Ls.map f)
 reach:∀ a Ls obj,Ls.length=r.m->Ls.Nodup->ct obj Ls (r.fam a Ls)->reach obj (r.args a Ls)=Ls
 closF:∀ a dom Ls,Ls.length=r.m->(∀ x∈Ls,dom x=true)->∀ o∈r.fam a Ls,O.clos dom o=true
 closA:∀ a dom Ls,Ls.length=r.m->(∀ x∈Ls,dom x=true)->D.closL dom (r.args a Ls)=true
 det:∀ a b,r.ok a->r.ok b->r.fam a (LR r.m)=r.fam b (LR r.m)->r.args a (LR r.m)=r.args b (LR r.m)->r.val a=r.val b
 vcl:∀ a dom,D.clos dom (r.val a)=true
 vren:∀ a f,(r.val a).ren f=r.val a
variable {α:Type}
noncomputable def Ro.c(r:Ro α):CSpec where
 pre:=fun os ds=>∃ a,r.ok a/\os=r.fam a (LR r.m)/\ds=r.args a (LR r.m)
 out:=fun os ds=>⟨[],[],by classical exact if h:∃ a,r.ok a/\os=r.fam a (LR r.m)/\ds=r.args a (LR r.m)then r.val h.choose else .any⟩
theorem Ro.c_out{r:Ro α}(hr:r.Ok){a:α}(ha:r.ok a):r.c.out (r.fam a (LR r.m)) (r.args a (LR r.m))=⟨[],[],r.val a⟩:=by
 have h:∃ b,r.ok b/\r.fam a (LR r.m)=r.fam b (LR r.m)/\r.args a (LR r.m)=r.args b (LR r.m):=⟨a,ha,rfl,rfl⟩
 have e:r.val h.choose=r.val a:=(hr.det _ _ ha h.choose_spec.1 h.choose_spec.2.1 h.choose_spec.2.2).symm
 simp only[Ro.c]
 rw[dif_pos h,e]
theorem Ro.c_app{r:Ro α}(hr:r.Ok){a:α}(ha:r.ok a){obj:Name->Option O}{t:Name}{Ls:List Name}(hl:Ls.length=r.m)(hn:Ls.Nodup)(hF:ct obj Ls (r.fam a Ls)):
 r.c.toSpec.app obj t (r.args a Ls)=⟨True,r.val a,obj⟩:=by
 have ko:=hr.reach a Ls obj hl hn hF
 have z1:Ls.map (cin Ls)=LR r.m:=by rw[FE hn,hl]
 have e1:cJ obj (r.args a Ls)=r.fam a (LR r.m):=by
  unfold cJ
  rw[ko]
  have xw:=hF
  rw[lG]at xw
  have :Ls.map (cP Ls obj)=(r.fam a Ls).map (O.ren (cin Ls)):=by
   refine List.ext_getElem (by simp[hr.len _ _ hl,hl]) fun i h1 h2=>?_
   have h3:i<Ls.length:=by simpa using h1
   have h4:i<(r.fam a Ls).length:=by rw[hr.len _ _ hl,<-hl];exact h3
   have h5:=congrArg (fun l=>l[i]?) xw
   have h6:obj Ls[i]=some (r.fam a Ls)[i]:=by simpa[h3,h4]using h5
   simp only[List.getElem_map,cP,h6]
  rw[this,hr.renF _ _ _ hl,z1]
 have e2:cY obj (r.args a Ls)=r.args a (LR r.m):=by
  unfold cY
  rw[ko,hr.renA _ _ _ hl,z1]
 have mB:∀ x∈Ls,cv Ls x=true:=fun x hx=>gD.2 hx
 have ie:shut obj Ls=true:=by
  unfold shut
  rw[List.all_eq_true]
  intro x hx
  obtain⟨i,hi,rfl⟩:=List.getElem_of_mem hx
  have xw:=hF
  rw[lG]at xw
  have h4:i<(r.fam a Ls).length:=by rw[hr.len _ _ hl,<-hl];exact hi
  have h5:=congrArg (fun l=>l[i]?) xw
  have h6:obj Ls[i]=some (r.fam a Ls)[i]:=by simpa[hi,h4]using h5
  rw[h6]
  exact hr.closF _ _ _ hl mB _ (List.getElem_mem h4)
 have dJ:r.c.pre (r.fam a (LR r.m)) (r.args a (LR r.m)):=⟨a,ha,rfl,rfl⟩
 simp only[CSpec.toSpec,e1,e2,ko,Ro.c_out hr ha,ie,hr.closA _ _ _ hl mB,fresh,List.all_nil,Bool.and_self,dJ,and_self,dE,cS,hr.vren]
def HM(P:Program)(rs:List ResultVar)(v:D)(H:Name->Option O)(e:Exit)(σ:S):Prop:=
 (e=.normal\/e=.ret)/\(b9 P σ rs).ok/\(b9 P σ rs).d=v/\∀ i,σ.obj [i,1]=H [i,1]
theorem I0{σ:S}:∀ {os:List O} {k:Nat},(∀ i (h:i<os.length),σ.obj [k+i,1]=some os[i])->r9 σ [] k os
 |[],_,_=>trivial
 |o::r,k,h=>by
  refine⟨by have:=h 0 (by simp);simp only[Nat.add_zero,List.getElem_cons_zero]at this;exact this,I0 fun i hi=>?_⟩
  have :=h (i+1) (by simpa using hi)
  rw[show k+1+i=k+(i+1)by omega]
  simpa using this
theorem Ro.sound{P:Program}{r:Ro α}(hr:r.Ok){f:FuncId}{fn:Func}{nt:Nat}{rs:List ResultVar}(hf:P.funcs[f]?=some fn)(cB:fn.ntmps=nt)(cg:fn.results.toList=rs)(hn:(fn.name== "runtime.NumGoroutine")=false)(hy:f<1000000000)
 (hw:∃ c,fn.body=some c/\∀ a,r.ok a->(r.args a (LR r.m)).length<=nt/\CL P [c] (bm nt [0] (aS (r.fam a (LR r.m))) (dD 0 (r.args a (LR r.m))) []) (HM P rs (r.val a) (aS (r.fam a (LR r.m))))):aM P f r.c.toSpec:=by
 obtain⟨c,hc,hw⟩:=hw
 refine mI hf hc cB cg (iz hf hc hn) (Nat.ne_of_lt (show f<yid from hy)) ?_
 rintro os ds ⟨a,ha,rfl,rfl⟩
 obtain⟨hl,h⟩:=hw a ha
 refine⟨hl,?_⟩
 rw[Ro.c_out hr ha]
 refine CW.mono (gr h) ?_
 rintro e σ ⟨he,h1,h2,h3⟩
 have fin:(b9 P σ rs).ok/\(b9 P σ rs).d=r.val a/\gq (r.fam a (LR r.m)) ⟨[],[],r.val a⟩ σ:=by
  refine⟨h1,h2,I0 fun i hi=>?_,trivial,?_⟩
  ·rw[Nat.zero_add,h3]
   show (r.fam a (LR r.m))[i]?=_
   rw[List.getElem?_eq_getElem hi]
  ·simp[hr.vcl,distinct]
 rcases he with rfl | rfl
 ·exact fin
 ·exact fin
theorem Ro.outC{r:Ro α}(hr:r.Ok)(a:α):∀ hs,bG [0] (bC [0] hs) (aS (r.fam a (LR r.m)))=True:=fun hs=>eq_true (lE (fun o ho dom hd=>hr.closF a dom _ (vI _) (fun x hx=>by
 obtain⟨i,_,rfl⟩:=List.mem_map.1 hx
 exact hd i) o ho) hs)
end Go.Eng
