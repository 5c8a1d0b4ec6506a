import Derived.Test.YtepaolcgegdpoaaGreatK7
/- Texts L5 to LW97. -/
set_option linter.all false
namespace Go.Eng
open Go
def p5{α β γ δ ε:Type}(A:En α)(B:En β)(C:En γ)(D:En δ)(E':En ε)(p:α->β->γ->δ->ε->Prop)(g:α->β->γ->δ->ε->V)(fl:Bool):PSpec:=
 ⟨fun xs=>match xs with | [x,y,z,u,v]=>A.enc (A.dec x)=x/\B.enc (B.dec y)=y/\C.enc (C.dec z)=z/\D.enc (D.dec u)=u/\E'.enc (E'.dec v)=v/\p (A.dec x) (B.dec y) (C.dec z) (D.dec u) (E'.dec v) | _=>False,
  fun xs=>match xs with | [x,y,z,u,v]=>g (A.dec x) (B.dec y) (C.dec z) (D.dec u) (E'.dec v) | _=>.bool false,fl⟩
theorem JX{α β γ δ ε:Type}{A:En α}{B:En β}{C:En γ}{D:En δ}{E':En ε}{p:α->β->γ->δ->ε->Prop}{g:α->β->γ->δ->ε->V}{fl:Bool}{xs:List V}(h:(p5 A B C D E' p g fl).pre xs):
 ∃ a b c d e,xs=[A.enc a,B.enc b,C.enc c,D.enc d,E'.enc e]/\p a b c d e/\(p5 A B C D E' p g fl).fn xs=g a b c d e:=by
 unfold p5 at h
 simp only at h
 split at h
 ·exact⟨_,_,_,_,_,by rw[h.1,h.2.1,h.2.2.1,h.2.2.2.1,h.2.2.2.2.1],h.2.2.2.2.2,rfl⟩
 ·exact h.elim
theorem UP{α β γ δ ε:Type}{A:En α}{B:En β}{C:En γ}{D:En δ}{E':En ε}{p:α->β->γ->δ->ε->Prop}{g:α->β->γ->δ->ε->V}{fl:Bool}(hg:∀ a b c d e,(g a b c d e).flat=true):
 (p5 A B C D E' p g fl).flat=true->∀ xs,(p5 A B C D E' p g fl).pre xs->((p5 A B C D E' p g fl).fn xs).flat=true:=by
 intro _ xs h
 obtain⟨a,b,c,d,e,_,_,hh⟩:=JX h
 rw[hh];exact hg _ _ _ _ _
attribute [go_sem] p5
theorem w5{P:Program}{f:FuncId}{fn:Func}{nt:Nat}{rs:List ResultVar}{α β γ δ ε:Type}{A:En α}{B:En β}{C:En γ}{D:En δ}{E':En ε}{p:α->β->γ->δ->ε->Prop}{g:α->β->γ->δ->ε->V}{fl:Bool}(hf:P.funcs[f]?=some fn)(cN:fn.ntmps=nt)(bP:fn.results.toList=rs)(hn:(fn.name== "runtime.NumGoroutine")=false)(hy:f<1000000000)
 (dm:fl=true->∀ a b c d e,(g a b c d e).flat=true) (hb:∃ c,fn.body=some c/\5<=nt/\∀ a b d e e',p a b d e e'->V.wfL [A.enc a,B.enc b,C.enc d,D.enc e,E'.enc e']->CL P [c] (bg nt [0] (fun _=>none) (fX 0 [A.enc a,B.enc b,C.enc d,D.enc e,E'.enc e']) []) (my P rs (g a b d e e'))):aU P f (p5 A B C D E' p g fl):=by
 obtain⟨c,hc,h1,h⟩:=hb
 refine wW hf cN bP hn hy (fun e=>UP (dm e) e) ⟨c,hc,fun xs hp hw=>?_⟩
 obtain⟨a,b,d,e,e',rfl,hp,hg⟩:=JX hp
 rw[hg]
 exact⟨h1,h a b d e e' hp hw⟩
open Go Go.Proofs
set_option maxHeartbeats 8000000
set_option maxRecDepth 10000
noncomputable section
theorem To{r:Lp}(hr:r.Ok)(cK:∀ j,r.st j=none)(hy:aL Tryz.prog yid r.y.toSpec){l:Led}(aa:bA l)
 (hn:r.n=(dG l).length) (EK:∀ s,r.vals s=[.agg [.v (vInt ((dG l).getD s default).pa),.v (vInt ((dG l).getD s default).le)]]):aL Tryz.prog 182 (r.it [.ptr [gk l]]).toSpec:=by
 obtain⟨c,hc,h⟩:=RQ hy aa (I:=r.I) (fun s=>by rw[Lp.I_len hr,Lp.I_len hr]) (fun s=>Lp.I_clos hr _)
  (fun s hs obj tm ho=>by
    have :=Lp.y_setU hr cK (s:=s) (by rw[hn];exact hs) obj tm ho
    rw[EK]at this
    exact this)
 refine Lp.it_sound hr cK Tryz.func182 Tryz.ntmps182 (by rfl) (by kernel_rfl) (by decide) ⟨c,hc,lb rfl,?_⟩
 rw[hn]
 exact h
theorem ab6{P:Program}{r:Lp}(hr:r.Ok){caps:List V}{g:Operand}{ps:Array Tmp}{asg body:Code}{σ:S}{rest:List Code}{K:Exit->S->Prop}(k k':Nat){f:FuncId}{Ls:List Name}
 (hc:cQ σ g=true) (hg:aw σ g=.v (.clo (.func f) [] caps)) (aF:f≠yid) (hs:aL P f (r.it caps).toSpec) (oc:σ.obj (k::σ.pre)=none)
 (he:(List.range σ.nt).map σ.env=r.env Ls) (fR:ps.toList=r.ps) (ha:asg=r.asg) (hb:body=r.body) (hl:Ls.length=r.m) (hn:Ls.Nodup) (hR:(k::σ.pre)∉Ls) (hF:cv σ.obj Ls (r.fam Ls 0))
 (hK:∀ o:O,sA (iN (fun σ'=>CL P rest σ' K) K) { σ with obj:=upd (cC Ls (r.fam Ls r.e) σ.obj) (k::σ.pre) (some o) } r.pd):CL P (.rangeFunc g ps asg body::rest) σ K:=
 ab7 (Γ:=fun x=>if x=f then some (r.it caps).toSpec else none) (fun x s hx=>by
  split at hx
  ·rename_i e;cases hx;subst e;exact hs
  ·cases hx) hr k k' hc hg aF (if_pos rfl) oc he fR ha hb hl hn hR hF hK
def ra(g:Nat×Int)(w:List Int):Bool:=if g.1=105 then(w.length:Int)==1&&w.getD 0 0==g.2 else w.contains g.2
def w8(g:Nat×Int):Prop:=g.1=105\/g.1=107
theorem Wu{l:List Int}(h:¬ ∃ a,l=[a]):((l.length:Int)==1)=false:=by
 match l,h with
 |[],_=>rfl
 |[a],h=>exact(h ⟨a,rfl⟩).elim
 |_::_::r,_=>simp;omega
@[go_sem] def P105:PSpec:=p2 dL lR (fun _ _=>True) (fun w p=>.bool (ra (105,p) w)) true
@[go_sem] def Rc:Spec:=P105.toSpec
theorem TP:aU Tryz.prog 105 P105:=by
 refine eZ (rs:=[.tmp 3]) Tryz.func105 Tryz.ntmps105 fun w p hp hw=>?_
 have hP:=eK
 simp only[dL,lR]at hw |-
 have hΓ:=@fx Tryz.prog
 repeat refine sq ?_
 refine rx hΓ [0,1] [] (fun K' hK=>by simp only[go_sem];exact ak) ?_
 by_cases oY:∃ a,w=[a]
 ·obtain⟨a,rfl⟩:=oY
  repeat refine sq ?_
  refine dx hΓ hP [[],[0],[0,1],[0,1,2],u4,u5,u6,u4,u8,u9,ca] [3] [] (by kernel_rfl) (fun K' hK=>by simp only[go_sem,Int.cast_ofNat_Int,Int.reduceBEq,Int.reduceToNat,List.getD_cons_zero,Int.reduceLT];exact fF) ?_
  refine aA ?_
  simp only[go_sem]
  first | rfl | (simp[ra,AU];done) | trace_state
 ·have AU:=Wu oY
  repeat refine sq ?_
  refine dx hΓ hP [[],[0],[0,1],[0,1,2],u4,u5,u6,u4,u8,u9,ca] [3] [] (by kernel_rfl) (fun K' hK=>by simp only[go_sem,AU];exact fF) ?_
  refine aA ?_
  simp only[go_sem]
  first | rfl | (simp[ra,AU];done) | trace_state
def K37a:List (Nat×Spec):=[(108,yY)]
theorem ad8:KS K37a:=tc zz.sound<|tn
attribute [go_sem] K37a
@[go_sem] def P107:PSpec:=p2 dL lR (fun _ _=>True) (fun w p=>.bool (ra (107,p) w)) true
@[go_sem] def Rb:Spec:=P107.toSpec
theorem TO:aU Tryz.prog 107 P107:=by
 refine eZ (rs:=[.tmp 3]) Tryz.func107 Tryz.ntmps107 fun w p hp hw=>?_
 simp only[dL,lR]at hw |-
 have hΓ:=ad8
 repeat refine sq ?_
 refine rx hΓ [0,1] [] (fun K' hK=>by simp only[go_sem];exact ak) ?_
 repeat refine sq ?_
 refine rx hΓ [3] [] (fun K' hK=>by simp only[go_sem];exact ak) ?_
 refine aA ?_
 simp only[go_sem]
 all_goals exact dV
def K37b:List (Nat×Spec):=[(105,Rc),(107,Rb)]
theorem ad7:KS K37b:=tc TP.sound<|tc TO.sound<|tn
attribute [go_sem] K37b
def HM:FuncId->Option Spec:=tbl K37b
theorem adD:∀ f s,HM f=some s->aL Tryz.prog f s:=ad7
theorem Vb{g:Nat×Int}(h:w8 g):∃ s,HM g.1=some s/\(¬ g.1=1000000000)/\(¬ g.1=80)/\(∀ obj t (w:List Int),s.app obj t [.v (.sl (w.map vInt)),.v (.ptr [vInt g.2])]=⟨True,.v (.bool (ra g w)),obj⟩)/\
 (∀ obj t (w:List Int),s.foot obj t [.v (.sl (w.map vInt)),.v (.ptr [vInt g.2])]=[])/\∀ obj t (w:List Int),s.wrt obj t [.v (.sl (w.map vInt)),.v (.ptr [vInt g.2])]=[]:=by
 obtain⟨g,p⟩:=g
 rcases h with h | h
 ·obtain rfl:g=105:=h
  exact⟨Rc,rfl,by simp,by simp,fun obj t w=>by simp only[go_sem,o7],fun _ _ _=>rfl,fun _ _ _=>rfl⟩
 ·obtain rfl:g=107:=h
  exact⟨Rb,rfl,by simp,by simp,fun obj t w=>by simp only[go_sem,o7],fun _ _ _=>rfl,fun _ _ _=>rfl⟩
theorem xf{Ls:List Name}(h:Ls.length=6):∃ a b c d e f,Ls=[a,b,c,d,e,f]:=by
 match Ls,h with
 |[a,b,c,d,e,f],_=>exact⟨a,b,c,d,e,f,rfl⟩
def l5(x:Vw)(g:Nat×Int)(day:Int)(f:Fol):Bool:=ra g (pq x f.pa f.le day)
def lI(l:Led)(x:Vw)(g:Nat×Int)(day:Int)(s:Nat):List Fol:=((dG l).take s).filter (l5 x g day)
theorem JP{p:Pap}{f:Fol}(h:f∈pf p):f.pa=p.id:=by
 obtain⟨a,_,rfl⟩:=List.mem_map.1 h
 rfl
theorem UJ(p:Pap):(pf p).Nodup:=by
 unfold pf
 refine List.Pairwise.map _ (fun a b qg e=>qg ?_) List.nodup_range
 simp at e
 omega
theorem Kp:∀ ps:List Pap,ps.Pairwise (fun p q=>p.id<q.id)->(ps.flatMap pf).Nodup
 |[],_=>by simp
 |p::r,h=>by
  obtain⟨h1,h2⟩:=List.pairwise_cons.1 h
  rw[List.flatMap_cons,List.nodup_append]
  refine⟨UJ p,Kp r h2,fun a ha b hb e=>?_⟩
  subst e
  obtain⟨q,hq,hb⟩:=List.mem_flatMap.1 hb
  have e1:=JP ha
  have e2:=JP hb
  have :=h1 q hq
  omega
theorem aaX{l:Led}(h:bA l):(dG l).Nodup:=by
 have hs:Go.Eng.srt Pap.id l.ps:=h.srt
 exact Kp _ (List.pairwise_iff_getElem.2 fun i j hi hj bF=>hs i j hi hj bF)
theorem aaY{l:Led}(h:bA l):(dG l).length<=360:=by
 have hl:∀ ps:List Pap,(∀ p∈ps,p.lv<=30)->(ps.flatMap pf).length<=30*ps.length:=by
  intro ps
  induction ps with
  |nil=>intro _;simp
  |cons p r ih=>
   intro hh
   have h1:=hh p (by simp)
   have h2:=ih fun q hq=>hh q (by simp[hq])
   rw[List.flatMap_cons,List.length_append,Dq,List.length_cons]
   omega
 have h1:=hl l.ps fun p hp=>by
  obtain⟨j,hj,rfl⟩:=List.getElem_of_mem hp
  have :=ni h.ps hj
  unfold mD bO at this
  simp at this
  omega
 have :=h.psn
 unfold dG
 omega
def qG(f:Fol):D:=.agg [.v (vInt f.pa),.v (vInt f.le)]
theorem aaT{l:List Fol}(hn:l.Nodup):∀ s s',s<l.length->s'<l.length->([qG (l.getD s default)]:List D)=[qG (l.getD s' default)]->s=s':=by
 intro s s' h h' e
 rw[cj h,cj h']at e
 have e1:l[s]=l[s']:=by
  generalize l[s]=a at e |-
  generalize l[s']=b at e |-
  obtain⟨a1,a2⟩:=a
  obtain⟨b1,b2⟩:=b
  simp only[qG,List.cons.injEq,D.agg.injEq,D.v.injEq,vInt,V.int.injEq,true_and,and_true]at e
  rw[e.1,e.2]
 exact(List.getElem_inj hn).1 e1
def jZ(l:Led)(x:Vw)(g:Nat×Int)(day:Int):Lp where
 m:=6
 env:=fun Ls=>(List.range 55).map (dH eAny [(7,⟨true,.v (.ptr [vInt day])⟩),(9,⟨true,.v (.ptr [.clo (.func g.1) [] [.ptr [vInt g.2]]])⟩),(14,⟨true,.ref (Ls.getD 0 []) 0⟩),(16,⟨true,.ref (Ls.getD 4 []) 0⟩),(42,⟨true,.v (.clo (.func 182) [] [.ptr [gk l]])⟩)])
 fam:=fun Ls s=>[.box [.ref (Ls.getD 1 []) 0],bt x (Ls.getD 2 []) (Ls.getD 3 []),.map 2 (bS x.bk),.map 0 (bG x.ds),.box [.msl (Ls.getD 5 []) (lI l x g day s).length],.arr 2 ((lI l x g day s).map gA)]
 ps:=(mw Tryz.f104).1.toList
 asg:=(mw Tryz.f104).2.1
 body:=(mw Tryz.f104).2.2
 n:=(dG l).length
 vals:=fun s=>[qG ((dG l).getD s default)]
 st:=fun _=>none
 fu:=100
theorem Cv{l:Led}(aa:bA l)(x:Vw)(g:Nat×Int)(day:Int):(jZ l x g day).Ok where
 len:=fun Ls s _=>rfl
 renE:=fun f Ls h=>by obtain⟨a,b,c,d,e,f,rfl⟩:=xf h;rfl
 renF:=fun f Ls s h=>by obtain⟨a,b,c,d,e,f,rfl⟩:=xf h;rfl
 reach:=fun Ls s obj acc q h bZ hd hF=>by
  obtain⟨a,b,c,d,e,f,rfl⟩:=xf h
  obtain⟨h1,h2,h3,h4,h5,h6,_⟩:=hF
  have en:cw (((jZ l x g day).env [a,b,c,d,e,f]).map (·.d))=[a,e]:=rfl
  rw[en]
  show dk obj (q+91+1+1+1+1+1+1+1+1+1) _ acc=_
  simp only[List.mem_cons,List.not_mem_nil,or_false,forall_eq_or_imp,forall_eq]at hd
  obtain⟨d1,d2,d3,d4,d5,d6⟩:=hd
  simp only[List.nodup_cons,List.mem_cons,List.not_mem_nil,or_false,not_or,not_false_eq_true,List.nodup_nil,and_true]at bZ
  obtain⟨⟨a1,a2,a3,a4,a5⟩,⟨b1,b2,b3,b4⟩,⟨c1,c2,c3⟩,⟨e1,e2⟩,f1⟩:=bZ
  simp[dk,gv,h1,h2,h3,h4,h5,h6,kQ,cw,ki,bt,d1,d2,d3,d4,d5,d6,Ne.symm a1,Ne.symm a2,Ne.symm a3,Ne.symm a4,Ne.symm a5,Ne.symm b1,Ne.symm b2,Ne.symm b3,Ne.symm b4,Ne.symm c1,Ne.symm c2,Ne.symm c3,Ne.symm e1,Ne.symm e2,Ne.symm f1]
 closE:=fun dom Ls h hd=>by
  obtain⟨a,b,c,d,e,f,rfl⟩:=xf h
  have h1:=hd a (by simp)
  have h2:=hd e (by simp)
  simp[jZ,List.range,List.range.loop,dH,D.closL,D.clos,eAny,h1,h2]
 closF:=fun dom Ls s h hd o ho=>by
  obtain⟨a,b,c,d,e,f,rfl⟩:=xf h
  have h1:=hd b (by simp)
  have h2:=hd c (by simp)
  have h3:=hd d (by simp)
  have h4:=hd f (by simp)
  simp only[jZ,List.mem_cons,List.not_mem_nil,or_false]at ho
  rcases ho with rfl | rfl | rfl | rfl | rfl | rfl<;>simp[O.clos,D.closL,D.clos,bt,h1,h2,h3,h4]
 psz:=fun Ls h=>by rfl
 args:=fun s=>by rfl
 fuel:=(show (100:Nat)<=2000 by decide)
 vnam:=fun _=>rfl
 vcl:=fun _ _=>rfl
 vren:=fun _ _=>rfl
 inj:=aaT (aaX aa)
theorem U1{l:Led}{x:Vw}{g:Nat×Int}{day:Int}{s:Nat}(h:s<(dG l).length):lI l x g day (s+1)=lI l x g day s++(if l5 x g day (dG l)[s]=true then[(dG l)[s]]else[]):=qB h
theorem U2(l:Led)(x:Vw)(g:Nat×Int)(day:Int)(s:Nat):(lI l x g day s).length<=(dG l).length:=Nat.le_trans (List.length_filter_le _ _) (by simp;omega)
theorem ahV(l:List Fol):∀ y∈l.map gA,y.cells.length=2/\y.okc=true:=by
 intro y hy;obtain⟨x,_,rfl⟩:=List.mem_map.1 hy;exact⟨rfl,rfl⟩
theorem RE{l:Led}(aa:bA l){x:Vw}(hv:nA x)(bZ:x.rs.Nodup){g:Nat×Int}(hg:w8 g)(day:Int):aL Tryz.prog yid (jZ l x g day).y.toSpec:=by
 refine Lp.y_sound (Cv aa x g day) fun s hs _=>?_
 obtain⟨sG,hG1,Gg,hG3,Gf,Ge,Gd⟩:=Vb hg
 obtain⟨Γ,hΓ,eF,dP⟩:∃ Γ:FuncId->Option Spec,(∀ f s,Γ f=some s->aL Tryz.prog f s)/\Γ g.1=some sG/\Γ 80=some S80:=by
  refine⟨fun f=>if f=80 then some S80 else HM f,fun f s h=>?_,?_,rfl⟩
  ·dsimp only at h
   split at h
   ·rename_i e;cases h;subst e;exact MV
   ·exact adD _ _ h
  ·dsimp only
   rw[if_neg hG3];exact hG1
 have hP:=eK
 have gL:s<(dG l).length:=hs
 have yd:(jZ l x g day).fam (LR 6) s=[.box [.ref [1,1] 0],bt x [2,1] [3,1],.map 2 (bS x.bk),.map 0 (bG x.ds),.box [.msl [5,1] (lI l x g day s).length],.arr 2 ((lI l x g day s).map gA)]:=rfl
 have qa:(jZ l x g day).fam (LR 6) (s+1)=[.box [.ref [1,1] 0],bt x [2,1] [3,1],.map 2 (bS x.bk),.map 0 (bG x.ds),.box [.msl [5,1] (lI l x g day (s+1)).length],.arr 2 ((lI l x g day (s+1)).map gA)]:=rfl
 have cK:(jZ l x g day).st s=none:=rfl
 have YO:(jZ l x g day).vals s=[qG ((dG l)[s])]:=by rw[<-cj (z:=default) gL];rfl
 have hm:(jZ l x g day).m=6:=rfl
 have Ny:(lI l x g day s).length<=360:=Nat.le_trans (U2 l x g day s) (aaY aa)
 rw[hm,yd,qa,cK,YO,U1 gL]
 generalize (dG l)[s]=fo
 generalize lI l x g day s=ou at *
 generalize fq:[O.box [.ref [1,1] 0],bt x [2,1] [3,1],.map 2 (bS x.bk),.map 0 (bG x.ds),.box [.msl [5,1] ou.length],.arr 2 (ou.map gA)]=os
 have hO:∀ hs,ck [0] (bY [0] hs) (aR os)=True:=by
  subst fq
  refine fun hs=>eq_true (nP ?_ hs)
  intro o ho dom hd
  simp only[List.mem_cons,List.not_mem_nil,or_false]at ho
  rcases ho with rfl | rfl | rfl | rfl | rfl | rfl<;>simp[O.clos,D.closL,D.clos,bt,hd]
 have h0:aR os [0,1]=some (.box [.ref [1,1] 0]):=by subst fq;rfl
 have h1:aR os [1,1]=some (bt x [2,1] [3,1]):=by subst fq;rfl
 have h2:aR os [2,1]=some (.map 2 (bS x.bk)):=by subst fq;rfl
 have h3:aR os [3,1]=some (.map 0 (bG x.ds)):=by subst fq;rfl
 have h4:aR os [4,1]=some (.box [.msl [5,1] ou.length]):=by subst fq;rfl
 have h5:aR os [5,1]=some (.arr 2 (ou.map gA)):=by subst fq;rfl
 generalize hH:aR os=H at *
 clear fq hH
 obtain⟨fp,fl⟩:=fo
 simp only[bt]at h1 |-
 have lV:mw Tryz.f104=(_,_,_):=rfl
 refine tW (zd 55 [0] H [(7,⟨true,.v (.ptr [vInt day])⟩),(9,⟨true,.v (.ptr [.clo (.func g.1) [] [.ptr [vInt g.2]]])⟩),(14,⟨true,.ref [0,1] 0⟩),(16,⟨true,.ref [4,1] 0⟩),(43,⟨true,qG ⟨fp,fl⟩⟩)] [] rfl rfl (fun _ _=>rfl) ?_ (by simp) ?_ ?_) ?_
 ·intro q hq
  simp only[List.mem_cons,List.not_mem_nil,or_false]at hq
  rcases hq with rfl | rfl | rfl | rfl | rfl<;>rfl
 ·simp[D.clos,D.closL,bY,own,qG]
 ·rw[hO];trivial
 simp only[jZ,lV,qG]
 refine iG ?_
 repeat refine sq ?_
 refine aP hΓ fun K' hK=>?_
 simp only[go_sem,hO,h0,h1,h2,h3,h4,h5]
 repeat (refine⟨an,?_⟩)
 refine hK _ ?_
 clear K' hK
 simp only[go_sem]
 (show CW _ _ _ _)
 refine iG ?_
 repeat refine sq ?_
 refine aN ?_
 repeat refine sq ?_
 refine dx hΓ hP [[],[],[],[],[1,2,3],u5] [7,9,14,16,17,49] [[7,0],[9,0],[14,0],[16,0],[17,0],[53,0]] (by kernel_rfl) (fun K' hK=>by simp only[go_sem,hO,h0,h1,h2,h3,h4,h5,eF,dP,Gg,Gf,Ge,Gd,VSpec.foot];(repeat (refine⟨by first | exact an | exact⟨hv,bZ⟩,?_⟩));(first | refine⟨by rfl,?_⟩ | skip);exact hK _ (by simp only[go_sem,hO,h0,h1,h2,h3,h4,h5,eF,dP,Gg,Gf,Ge,Gd,VSpec.foot]) (by simp only[go_sem,hO,h0,h1,h2,h3,h4,h5,eF,dP,Gg,Gf,Ge,Gd,VSpec.foot]<;>rfl)) ?_
 repeat refine sq ?_
 refine ay (fun hb=>?_) fun hb=>?_
 ·repeat refine sq ?_
  refine aP hΓ fun K' hK=>?_
  simp only[go_sem,hO,h0,h1,h2,h3,h4,h5]
  repeat (refine⟨an,?_⟩)
  refine hK _ ?_
  clear K' hK
  simp only[go_sem]
  refine bQ ?_
  rw[if_pos (show l5 x g day ⟨fp,fl⟩=true from hb)]
  refine⟨rfl,?_⟩
  show cv _ [[0,1],[1,1],[2,1],[3,1],[4,1],[5,1]] _
  simp only[cv,go_sem,h0,h1,h2,h3,h4,h5,List.map_append,List.map_cons,List.map_nil,List.length_append,List.length_cons,List.length_nil]
 ·repeat refine sq ?_
  refine aE ?_
  refine bQ ?_
  simp only[go_sem]
  rw[if_neg (show ¬ l5 x g day ⟨fp,fl⟩=true from fun h=>by rw[show l5 x g day ⟨fp,fl⟩=false from hb]at h;cases h),List.append_nil]
  refine⟨rfl,?_⟩
  show cv _ [[0,1],[1,1],[2,1],[3,1],[4,1],[5,1]] _
  simp only[cv,go_sem,h0,h1,h2,h3,h4,h5]
end
set_option maxHeartbeats 8000000
noncomputable section
def jY(l:Led)(pe day k:Int):Int:=if kE l=0 then(if bO pe 0 99=true then(if cU l [day,k]=0 then eS l k else cU l [day,k])else 1)else kE l
def iK(l:Led)(pe day k:Int)(g:Nat×Int):List Fol:=if jY l pe day k=0 then(dG l).filter (l5 (ba (aq l k) k) g day)else[]
theorem U3(l:Led)(x:Vw)(g:Nat×Int)(day:Int):lI l x g day (dG l).length=(dG l).filter (l5 x g day):=by unfold lI;rw[List.take_length]
def K38:List (Nat×Spec):=[(37,Ch),(96,uo),(75,oF),(78,S78),(93,QW)]
theorem ad6:KS K38:=tc CT.sound<|tc sk.sound<|tc wO.sound<|tc Aj<|tc SX.sound<|tn
attribute [go_sem] K38
@[go_sem] def P104:PSpec:=p5 iL iI iI iI oT (fun _ _ _ _ g=>w8 g) (fun l pe day k g=>.tup [.sl ((iK l pe day k g).map gA),vInt (jY l pe day k)]) false
@[go_sem] def adt:Spec:=P104.toSpec
theorem TQ:aU Tryz.prog 104 P104:=by
 refine w5 (rs:=[.tmp 10,.tmp 11]) Tryz.func104 Tryz.ntmps104 (by rfl) (by kernel_rfl) (by decide) (fun h=>by cases h) ⟨_,rfl,lb rfl,fun l pe day k g hp hw=>?_⟩
 simp only[oT,iI,iL,ft]at hw |-
 have hΓ:=ad6
 repeat refine sq ?_
 refine rx hΓ [1,3,5,7,9] [[5,0],[7,0],[9,0]] (fun K' hK=>by simp only[go_sem];exact ak) ?_
 refine bD (dd 5 (.ref [5,0] 0) (by simp only[go_sem]) (by simp only[go_sem]) [1,3,5,7,9] [[5,0],[7,0],[9,0]] ?_ rfl) ?_
 ·simp only[go_sem]
 simp only[go_sem]
 refine bD (dd 7 (.ref [7,0] 0) (by simp only[go_sem]) (by simp only[go_sem]) [1,3,5,7,9] [[5,0],[7,0],[9,0]] ?_ rfl) ?_
 ·simp only[go_sem]
 simp only[go_sem]
 refine bD (dd 9 (.ref [9,0] 0) (by simp only[go_sem]) (by simp only[go_sem]) [1,3,5,7,9] [[5,0],[7,0],[9,0]] ?_ rfl) ?_
 ·simp only[go_sem]
 simp only[go_sem]
 repeat refine sq ?_
 refine rx hΓ [1,3,5,7,9,12] [[5,0],[7,0],[9,0]] (fun K' hK=>by simp only[go_sem];exact ak) ?_
 repeat refine sq ?_
 refine rx hΓ [1,3,5,7,9,12,21] [[5,0],[7,0],[9,0]] (fun K' hK=>by simp only[go_sem];exact ak) ?_
 repeat refine sq ?_
 refine ay (fun hb=>?_) fun hb=>?_
 ·repeat refine sq ?_
  have hc:¬ kE l=0:=by simpa using hb
  have he:jY l pe day k=kE l:=by unfold jY;rw[if_neg hc]
  have ha:iK l pe day k g=[]:=by unfold iK;rw[he,if_neg hc]
  rw[he,ha]
  repeat refine sq ?_
  refine rx hΓ [10,11] [[53,0]] (fun K' hK=>by simp only[go_sem];exact ak) ?_
  refine aA ?_
  simp only[go_sem]
  all_goals first | done | rfl | trace_state
 ·repeat refine sq ?_
  have hc:kE l=0:=by simpa using hb
  refine aE ?_
  repeat refine sq ?_
  refine rx hΓ [3,5,7,9,25] [[5,0],[7,0],[9,0]] (fun K' hK=>by simp only[go_sem];exact ak) ?_
  repeat refine sq ?_
  refine ay (fun hb=>?_) fun hb=>?_
  ·repeat refine sq ?_
   have eV:¬ bO pe 0 99=true:=by simpa using hb
   have he:jY l pe day k=1:=by unfold jY;rw[if_pos hc,if_neg eV]
   have ha:iK l pe day k g=[]:=by unfold iK;rw[he,if_neg (by decide)]
   rw[he,ha]
   repeat refine sq ?_
   refine rx hΓ [10,11] [[53,0]] (fun K' hK=>by simp only[go_sem];exact ak) ?_
   refine aA ?_
   simp only[go_sem]
   all_goals first | done | rfl | trace_state
  ·repeat refine sq ?_
   have eV:bO pe 0 99=true:=by simpa using hb
   refine aE ?_
   repeat refine sq ?_
   refine rx hΓ [3,5,7,9,13] [[5,0],[7,0],[9,0]] (fun K' hK=>by simp only[go_sem];exact ak) ?_
   repeat refine sq ?_
   refine rx hΓ [3,5,7,9,13,32] [[5,0],[7,0],[9,0]] (fun K' hK=>by simp only[go_sem];exact ak) ?_
   repeat refine sq ?_
   refine ay (fun hb=>?_) fun hb=>?_
   ·repeat refine sq ?_
    have hd:¬ cU l [day,k]=0:=by simpa using hb
    have he:jY l pe day k=cU l [day,k]:=by unfold jY;rw[if_pos hc,if_pos eV,if_neg hd]
    have ha:iK l pe day k g=[]:=by unfold iK;rw[he,if_neg hd]
    rw[he,ha]
    repeat refine sq ?_
    refine rx hΓ [10,11] [[53,0]] (fun K' hK=>by simp only[go_sem];exact ak) ?_
    refine aA ?_
    simp only[go_sem]
    all_goals first | done | rfl | trace_state
   ·repeat refine sq ?_
    have hd:cU l [day,k]=0:=by simpa using hb
    have he:jY l pe day k=eS l k:=by unfold jY;rw[if_pos hc,if_pos eV,if_pos hd]
    obtain⟨aa,_⟩:=yz hd
    refine aE ?_
    rcases lU:kM l k with _ | _
    ·obtain⟨q1,q2,q3⟩:=wK lU
     have q4:¬ eS l k=0:=by simpa using q3
     have ha:iK l pe day k g=[]:=by unfold iK;rw[he,if_neg q4]
     rw[he,ha]
     repeat refine sq ?_
     refine rx hΓ [5,7,9,14,15] [[5,0],[7,0],[9,0],[14,0],[26,0,11,0,11,0,36,0],[23,0,11,0,11,0,36,0],[24,0,11,0,11,0,36,0]] (fun K' hK=>by simp only[go_sem,q1,q2,q3];exact ak) ?_
     repeat refine sq ?_
     refine rx hΓ [5,7,9,14,15,40] [[5,0],[7,0],[9,0],[14,0],[26,0,11,0,11,0,36,0],[23,0,11,0,11,0,36,0],[24,0,11,0,11,0,36,0]] (fun K' hK=>by simp only[go_sem,q1,q2,q3];exact ak) ?_
     repeat refine sq ?_
     refine ay (fun hb=>?_) fun hb=>?_
     ·repeat refine sq ?_
      refine rx hΓ [10,11] [[53,0]] (fun K' hK=>by simp only[go_sem,q1,q2,q3];exact ak) ?_
      refine aA ?_
      simp only[go_sem]
      all_goals first | done | rfl | trace_state
     ·cases hb
    ·obtain⟨q1,q2,q3⟩:=wJ lU
     obtain⟨hv,bZ⟩:=zu aa k
     have ha:iK l pe day k g=(dG l).filter (l5 (ba (aq l k) k) g day):=by unfold iK;rw[he,if_pos q3]
     rw[he,ha,q3]
     repeat refine sq ?_
     refine rx hΓ [5,7,9,14,15] [[5,0],[7,0],[9,0],[14,0],[26,0,11,0,11,0,36,0],[23,0,11,0,11,0,36,0],[24,0,11,0,11,0,36,0]] (fun K' hK=>by simp only[go_sem,q1,q2];exact ak) ?_
     repeat refine sq ?_
     refine rx hΓ [5,7,9,14,15,40] [[5,0],[7,0],[9,0],[14,0],[26,0,11,0,11,0,36,0],[23,0,11,0,11,0,36,0],[24,0,11,0,11,0,36,0]] (fun K' hK=>by simp only[go_sem,q1,q2];exact ak) ?_
     repeat refine sq ?_
     refine ay (fun hb=>?_) fun hb=>?_
     ·cases hb
     ·repeat refine sq ?_
      refine aE ?_
      repeat refine sq ?_
      refine rx hΓ [5,7,9,14,16] [[5,0],[7,0],[9,0],[14,0],[16,0],[53,0],[26,0,11,0,11,0,36,0],[23,0,11,0,11,0,36,0],[24,0,11,0,11,0,36,0]] (fun K' hK=>by simp only[go_sem,q1,q2];exact ak) ?_
      refine bD (mo [16,0] [53,0] 0 2 _ rfl rfl rfl [5,7,9,14,16] [[5,0],[7,0],[9,0],[14,0],[16,0],[53,0],[26,0,11,0,11,0,36,0],[23,0,11,0,11,0,36,0],[24,0,11,0,11,0,36,0]] ?_ rfl) ?_
      ·simp only[go_sem,List.set_cons_succ,List.set_cons_zero]
      simp only[go_sem,List.set_cons_succ,List.set_cons_zero]
      repeat refine sq ?_
      refine rx hΓ [7,9,14,16,42] [[7,0],[9,0],[14,0],[16,0],[53,0],[26,0,11,0,11,0,36,0],[23,0,11,0,11,0,36,0],[24,0,11,0,11,0,36,0]] (fun K' hK=>by simp only[go_sem,q1,q2];exact ak) ?_
      repeat refine sq ?_
      refine aN ?_
      repeat refine sq ?_
      have gy:aL Tryz.prog 182 ((jZ l (ba (aq l k) k) g day).it [.ptr [gk l]]).toSpec:=To (Cv aa _ g day) (fun _=>rfl) (RE aa hv bZ hp day) aa rfl (fun _=>rfl)
      refine ab6 (Cv aa (ba (aq l k) k) g day) 200 201 (f:=182) (Ls:=[[14,0],[26,0,11,0,11,0,36,0],[23,0,11,0,11,0,36,0],[24,0,11,0,11,0,36,0],[16,0],[53,0]]) rfl rfl (by decide) gy rfl rfl rfl rfl rfl rfl (by decide) (show ([200,0]:Name)∉[[14,0],[26,0,11,0,11,0,36,0],[23,0,11,0,11,0,36,0],[24,0,11,0,11,0,36,0],[16,0],[53,0]]by decide) ⟨rfl,rfl,rfl,rfl,rfl,rfl,trivial⟩ fun o=>?_
      obtain⟨g1,g2⟩:=Lp.go_e (r:=jZ l (ba (aq l k) k) g day) (fun _=>rfl)
      have g3:(jZ l (ba (aq l k) k) g day).fam [[14,0],[26,0,11,0,11,0,36,0],[23,0,11,0,11,0,36,0],[24,0,11,0,11,0,36,0],[16,0],[53,0]] (jZ l (ba (aq l k) k) g day).e=[.box [.ref [26,0,11,0,11,0,36,0] 0],bt (ba (aq l k) k) [23,0,11,0,11,0,36,0] [24,0,11,0,11,0,36,0],.map 2 (bS (ba (aq l k) k).bk),.map 0 (bG (ba (aq l k) k).ds),.box [.msl [53,0] ((dG l).filter (l5 (ba (aq l k) k) g day)).length],.arr 2 (((dG l).filter (l5 (ba (aq l k) k) g day)).map gA)]:=by
       rw[g1,<-U3];rfl
      rw[g2,g3]
      simp only[sA,iN]
      refine bQ ?_
      show CL Tryz.prog (_::_) _ _
      refine eG [16] [[16,0],[53,0]] ?_ ?_
      ·simp only[go_sem,cC]
      simp only[go_sem,cC]
      repeat refine sq ?_
      refine rx hΓ [10,11] [[53,0]] (fun K' hK=>by simp only[go_sem];exact ak) ?_
      refine aA ?_
      simp only[go_sem]
theorem Vd(p:Int):w8 (105,p):=.inl rfl
theorem Vc(p:Int):w8 (107,p):=.inr rfl
def K38b:List (Nat×Spec):=[(104,adt)]
theorem Rk:KS K38b:=tc TQ.sound<|tn
attribute [go_sem] K38b
@[go_sem] def P32:PSpec:=p4 iL iI iI iI (fun _ _ _ _=>True) (fun l pe day k=>.tup [.sl ((iK l pe day k (105,pe)).map gA),vInt (jY l pe day k)]) false
@[go_sem] def S32:Spec:=P32.toSpec
theorem Td:aU Tryz.prog 32 P32:=by
 refine pv (rs:=[.tmp 8,.tmp 9]) Tryz.func32 Tryz.ntmps32 fun l pe day k hp hw=>?_
 simp only[iI,iL,ft]at hw |-
 have hΓ:=Rk
 repeat refine sq ?_
 refine rx hΓ [2,3,4,5] [[4,0],[5,0]] (fun K' hK=>by simp only[go_sem];exact ak) ?_
 refine bD (dd 4 (.ref [4,0] 0) (by simp only[go_sem]) (by simp only[go_sem]) [2,3,4,5] [[4,0],[5,0]] ?_ rfl) ?_
 ·simp only[go_sem]
 simp only[go_sem]
 refine bD (dd 5 (.ref [5,0] 0) (by simp only[go_sem]) (by simp only[go_sem]) [2,3,4,5] [[4,0],[5,0]] ?_ rfl) ?_
 ·simp only[go_sem]
 simp only[go_sem]
 repeat refine sq ?_
 refine rx hΓ [8,9] [] (fun K' hK=>by simp only[go_sem,Vd];exact ak) ?_
 refine aA ?_
 simp only[go_sem]
 all_goals exact dV
@[go_sem] def P34:PSpec:=p4 iL iI iI iI (fun _ _ _ _=>True) (fun l pe day k=>.tup [.sl ((iK l pe day k (107,pe)).map gA),vInt (jY l pe day k)]) false
@[go_sem] def S34:Spec:=P34.toSpec
theorem Tc:aU Tryz.prog 34 P34:=by
 refine pv (rs:=[.tmp 8,.tmp 9]) Tryz.func34 Tryz.ntmps34 fun l pe day k hp hw=>?_
 simp only[iI,iL,ft]at hw |-
 have hΓ:=Rk
 repeat refine sq ?_
 refine rx hΓ [2,3,4,5] [[4,0],[5,0]] (fun K' hK=>by simp only[go_sem];exact ak) ?_
 refine bD (dd 4 (.ref [4,0] 0) (by simp only[go_sem]) (by simp only[go_sem]) [2,3,4,5] [[4,0],[5,0]] ?_ rfl) ?_
 ·simp only[go_sem]
 simp only[go_sem]
 refine bD (dd 5 (.ref [5,0] 0) (by simp only[go_sem]) (by simp only[go_sem]) [2,3,4,5] [[4,0],[5,0]] ?_ rfl) ?_
 ·simp only[go_sem]
 simp only[go_sem]
 repeat refine sq ?_
 refine rx hΓ [8,9] [] (fun K' hK=>by simp only[go_sem,Vc];exact ak) ?_
 refine aA ?_
 simp only[go_sem]
 all_goals exact dV
end
set_option maxHeartbeats 8000000
noncomputable section
def aM(n m:Int):Int:=(n.tmod m+m).tmod m
theorem Ii{n m:Int}(h:0<m): -m<n.tmod m/\n.tmod m<m:=by
 have h1:=Int.tmod_lt_of_pos n h
 have h2:=Int.tmod_lt_of_pos (-n) h
 rw[Int.neg_tmod]at h2
 omega
theorem de{n m:Int}(h:0<m):0<=aM n m/\aM n m<m:=by
 unfold aM
 have h1:=Ii (n:=n) h
 exact⟨Int.tmod_nonneg _ (by omega),Int.tmod_lt_of_pos _ h⟩
@[go_sem] def P20:PSpec:=p2 iI iI (fun _ m=>0<m/\m<=1000000) (fun n m=>vInt (aM n m)) true
@[go_sem] def Ci:Spec:=P20.toSpec
theorem CU:aU Tryz.prog 20 P20:=by
 refine eZ (rs:=[.tmp 4]) Tryz.func20 Tryz.ntmps20 fun n m hp hw=>?_
 simp only[iI]at hw |-
 have hΓ:=@fx Tryz.prog
 have pZ:m≠0:=by omega
 have hr:=Ii (n:=n) hp.1
 have rm:IntKind.i64.wrap (n.tmod m+m)=n.tmod m+m:=wrap_i64 (by omega) (by omega)
 repeat refine sq ?_
 refine rx hΓ [0,1] [] (fun K' hK=>by simp only[go_sem];exact ak) ?_
 repeat refine sq ?_
 refine rx hΓ [4] [] (fun K' hK=>by simp only[go_sem,pZ,rm];exact ak) ?_
 refine aA ?_
 simp only[go_sem]
 rfl
def Hf(n i:Int):Bool:=IntKind.i64.wrap ((BitVec.ofInt 64 n&&& BitVec.ofInt 64 (IntKind.i64.wrap (1*2 ^ min i.toNat 64))).toNat:Int) != 0
def fW(n:Int):Nat->List Int
 | 0=>[]
 |m+1=>if Hf n ((m+1:Nat):Int)=true then fW n m++[((m+1:Nat):Int)]else fW n m
theorem P4(n:Int):∀ m,(fW n m).length<=m
 | 0=>Nat.le_refl _
 |m+1=>by
  have :=P4 n m
  rw[fW]
  split
  ·rw[List.length_append];simp;omega
  ·omega
def jv(n many:Int):List Int:=if fW n many.toNat=[]then[1]else fW n many.toNat
@[go_sem] def P83:PSpec:=p2 iI iI (fun _ m=>0<=m/\m<=30) (fun n m=>.sl ((jv n m).map vInt)) false
@[go_sem] def S83:Spec:=P83.toSpec
theorem S0:aU Tryz.prog 83 P83:=by
 refine eZ (rs:=[.tmp 4]) Tryz.func83 Tryz.ntmps83 fun n m hp hw=>?_
 simp only[iI]at hw |-
 have hΓ:=@fx Tryz.prog
 obtain⟨nn,rfl⟩:∃ nn:Nat,m=nn:=⟨m.toNat,by omega⟩
 have aB:nn+1<=maxLen:=by unfold maxLen;omega
 repeat refine sq ?_
 refine rx hΓ [0,1] [] (fun K' hK=>by simp only[go_sem];exact ak) ?_
 repeat refine sq ?_
 refine rx hΓ [0,1,5] [[20,0]] (fun K' hK=>by simp only[go_sem];exact ak) ?_
 refine bD (uC 5 [20,0] 1 (by simp only[go_sem]) (by simp only[go_sem]) [0,1,5] [[20,0]] ?_ rfl) ?_
 ·simp only[go_sem]
 simp only[go_sem]
 repeat refine sq ?_
 refine rx hΓ [0,1,5,6] [[20,0]] (fun K' hK=>by simp only[go_sem];exact ak) ?_
 repeat refine sq ?_
 refine aN ?_
 repeat refine sq ?_
 refine cB (fun s:Nat=>[(6,⟨true,.v (vInt s)⟩),(5,⟨true,.msl [20,0] (fW n (s-1)).length⟩)]) (fun s=>[([20,0],.arr 1 ((fW n (s-1)).map vInt))]) (fun s=>s<=(nn+1)/\1<=s) (fun s=>(nn+1)-s) 1 ?_ ?_ ?_ ?_
 ·exact⟨by omega,Nat.le_refl 1⟩
 ·rfl
 ·rfl
 rintro i ⟨hi,hR⟩
 have qh:=P4 n (i-1)
 simp only[go_sem]
 repeat refine sq ?_
 refine rx hΓ [0,1,5,6,9] [[20,0]] (fun K' hK=>by simp only[go_sem];exact ak) ?_
 repeat refine sq ?_
 refine ay (fun hb=>?_) fun hb=>?_
 ·repeat refine sq ?_
  have ab:i<nn+1:=by
   have :(i:Int)<=nn:=by simpa using hb
   omega
  refine aE ?_
  repeat refine sq ?_
  refine aN ?_
  repeat refine sq ?_
  refine rx hΓ [0,1,5,6,16] [[20,0]] (fun K' hK=>by simp only[go_sem];exact ak) ?_
  repeat refine sq ?_
  refine ay (fun hb=>?_) fun hb=>?_
  ·repeat refine sq ?_
   have eS:fW n (i+1-1)=fW n (i-1)++[(i:Int)]:=by
    obtain⟨m,rfl⟩:∃ m,i=m+1:=⟨i-1,by omega⟩
    rw[Nat.add_sub_cancel,Nat.add_sub_cancel,fW,if_pos (show Hf n ((m+1:Nat):Int)=true from hb)]
   repeat refine sq ?_
   refine aP hΓ fun K' hK=>?_
   simp only[go_sem]
   repeat (refine⟨an,?_⟩)
   refine hK _ ?_
   clear K' hK
   simp only[go_sem]
   refine kp [0,1,5,6] [[20,0]] ?_
   repeat refine sq ?_
   refine aP hΓ fun K' hK=>?_
   simp only[go_sem]
   repeat (refine⟨an,?_⟩)
   refine hK _ ?_
   clear K' hK
   simp only[go_sem]
   refine⟨i+1,⟨ab,?_⟩,by(show (nn+1)-(i+1)<(nn+1)-i;omega),?_⟩
   ·omega
   refine bd [0,1,5,6] [[20,0]] ?_ ?_<;>simp only[go_sem,a7 ab aB,bb,eS,List.map_append,List.length_append,List.map_cons,List.map_nil,List.length_cons,List.length_nil]
  ·repeat refine sq ?_
   have eS:fW n (i+1-1)=fW n (i-1):=by
    obtain⟨m,rfl⟩:∃ m,i=m+1:=⟨i-1,by omega⟩
    rw[Nat.add_sub_cancel,Nat.add_sub_cancel,fW,if_neg (fun h=>by rw[show Hf n ((m+1:Nat):Int)=false from hb]at h;cases h)]
   refine aE ?_
   refine bQ ?_
   simp only[go_sem]
   refine kp [0,1,5,6] [[20,0]] ?_
   repeat refine sq ?_
   refine aP hΓ fun K' hK=>?_
   simp only[go_sem]
   repeat (refine⟨an,?_⟩)
   refine hK _ ?_
   clear K' hK
   simp only[go_sem]
   refine⟨i+1,⟨ab,?_⟩,by(show (nn+1)-(i+1)<(nn+1)-i;omega),?_⟩
   ·omega
   refine bd [0,1,5,6] [[20,0]] ?_ ?_<;>simp only[go_sem,a7 ab aB,bb,eS,List.map_append,List.length_append,List.map_cons,List.map_nil,List.length_cons,List.length_nil]
 ·repeat refine sq ?_
  have bB:i=nn+1:=by
   have :¬ (i:Int)<=nn:=by simpa using hb
   omega
  subst bB
  rw[Nat.add_sub_cancel]at qh
  refine bT ?_
  simp only[go_sem]
  refine kp [5] [[20,0]] ?_
  repeat refine sq ?_
  refine rx hΓ [5,23] [[20,0]] (fun K' hK=>by simp only[go_sem];exact ak) ?_
  repeat refine sq ?_
  refine ay (fun hb=>?_) fun hb=>?_
  ·repeat refine sq ?_
   have hz:fW n nn=[]:=by
    apply List.eq_nil_of_length_eq_zero
    have :((fW n nn).length:Int)=0:=by simpa using hb
    omega
   have e:jv n nn=[1]:=by unfold jv;rw[ai,if_pos hz]
   repeat refine sq ?_
   refine rx hΓ [5] [[20,0]] (fun K' hK=>by simp only[go_sem];exact ak) ?_
   repeat refine sq ?_
   refine rx hΓ [4] [[20,0]] (fun K' hK=>by simp only[go_sem];exact ak) ?_
   refine aA ?_
   simp only[go_sem]
   first | (rw[e];done) | (rw[e];rfl) | trace_state
  ·repeat refine sq ?_
   have hz:¬ fW n nn=[]:=by
    intro h
    have h2:(((fW n nn).length:Int)==0)=false:=hb
    rw[h]at h2
    cases h2
   have e:jv n nn=fW n nn:=by unfold jv;rw[ai,if_neg hz]
   refine aE ?_
   repeat refine sq ?_
   refine rx hΓ [4] [[20,0]] (fun K' hK=>by simp only[go_sem];exact ak) ?_
   refine aA ?_
   simp only[go_sem]
   first | (rw[e];done) | (rw[e];rfl) | trace_state
end
set_option maxHeartbeats 8000000
noncomputable section
def cg(l:Led)(so k:Int):Int:=dJ (fun r=>r.so==so&&bI r.kn r.un k) l.rs
def jj(so k:Int)(r:Rec):Bool:=r.so==so&&bI r.kn r.un k
theorem TS{l:Led}{so k:Int}{i:Nat}(h:i<l.rs.length)(hp:jj so k l.rs[i]=true)(hn:∀ j (hj:j<l.rs.length),j<i->jj so k l.rs[j]=false):cg l so k=i:=sN h hp hn
theorem TR{l:Led}{so k:Int}(hn:∀ j (hj:j<l.rs.length),j<l.rs.length->jj so k l.rs[j]=false):cg l so k= -1:=by
 unfold cg dJ
 rw[if_neg]
 intro h
 obtain⟨x,hx,hp⟩:=List.any_eq_true.1 h
 obtain⟨j,hj,rfl⟩:=List.getElem_of_mem hx
 have :=hn j hj hj
 unfold jj at this
 rw[this]at hp
 exact absurd hp (by decide)
def K39:List (Nat×Spec):=[(157,Cj)]
theorem ad5:KS K39:=tc CV.sound<|tn
attribute [go_sem] K39
@[go_sem] def P70:PSpec:=p3 iL iI iI (fun l _ _=>l.rs.length<=60) (fun l so k=>vInt (cg l so k)) true
@[go_sem] def yX:Spec:=P70.toSpec
theorem I0:aU Tryz.prog 70 P70:=by
 refine mq (rs:=[.tmp 6]) Tryz.func70 Tryz.ntmps70 fun l so k hp hw=>?_
 simp only[iI,iL,ft]at hw |-
 have hΓ:=ad5
 have hl:l.rs.length<=maxLen:=by unfold maxLen;omega
 repeat refine sq ?_
 refine rx hΓ [1,2,3] [[3,0]] (fun K' hK=>by simp only[go_sem];exact ak) ?_
 repeat refine sq ?_
 refine rx hΓ [1,2,3,7] [[3,0]] (fun K' hK=>by simp only[go_sem];exact ak) ?_
 repeat refine sq ?_
 refine aN ?_
 repeat refine sq ?_
 refine cB (fun s:Nat=>[(7,⟨true,.v (vInt s)⟩)]) (fun s=>[]) (fun s=>s<=l.rs.length/\∀ j (hj:j<l.rs.length),j<s->jj so k l.rs[j]=false) (fun s=>l.rs.length-s) 0 ?_ ?_ ?_ ?_
 ·exact⟨Nat.zero_le _,by simp⟩
 ·rfl
 ·rfl
 rintro i ⟨hi,hR⟩
 simp only[go_sem]
 repeat refine sq ?_
 refine rx hΓ [1,2,3,7,13] [[3,0]] (fun K' hK=>by simp only[go_sem];exact ak) ?_
 repeat refine sq ?_
 refine ay (fun hb=>?_) fun hb=>?_
 ·have ab:i<l.rs.length:=by simpa using hb
  have au:(i:Int)<l.rs.length:=by omega
  clear hb
  repeat refine sq ?_
  refine aE ?_
  repeat refine sq ?_
  refine aN ?_
  repeat refine sq ?_
  refine rx hΓ [1,2,3,7,8] [[3,0],[8,0]] (fun K' hK=>by simp only[go_sem,ah ab,ai,aj,au];exact ak) ?_
  repeat refine sq ?_
  refine rx hΓ [1,2,3,7,32] [[3,0]] (fun K' hK=>by simp only[go_sem,ah ab,ai,aj,au];exact ak) ?_
  repeat refine sq ?_
  refine ay (fun hb=>?_) fun hb=>?_
  ·repeat refine sq ?_
   have e:cg l so k=i:=TS ab (by unfold jj;simpa using hb) (fun j hj fe=>hR j hj fe)
   repeat refine sq ?_
   refine rx hΓ [6] [] (fun K' hK=>by simp only[go_sem,ah ab,ai,aj,au];exact ak) ?_
   refine aA ?_
   simp only[go_sem]
   rw[e]
  ·repeat refine sq ?_
   refine aE ?_
   refine bQ ?_
   simp only[go_sem]
   refine kp [1,2,3,7] [[3,0]] ?_
   repeat refine sq ?_
   refine aP hΓ fun K' hK=>?_
   simp only[go_sem,ah ab,ai,aj,au]
   repeat (refine⟨an,?_⟩)
   refine hK _ ?_
   clear K' hK
   simp only[go_sem]
   refine⟨i+1,⟨ab,?_⟩,by(show l.rs.length-(i+1)<l.rs.length-i;omega),?_⟩
   ·intro j hj fe
    rcases Nat.lt_succ_iff_lt_or_eq.1 fe with h5 | rfl
    ·exact hR j hj h5
    ·unfold jj;simpa using hb
   refine bd [1,2,3,7] [[3,0]] ?_ ?_<;>simp only[go_sem,a7 ab hl,bb]
 ·have bB:i=l.rs.length:=by
   have :¬ (i:Int)<l.rs.length:=by simpa using hb
   omega
  clear hb
  subst bB
  repeat refine sq ?_
  refine bT ?_
  simp only[go_sem]
  refine kp [] [] ?_
  repeat refine sq ?_
  refine rx hΓ [6] [] (fun K' hK=>by simp only[go_sem];exact ak) ?_
  refine aA ?_
  simp only[go_sem]
  rw[TR hR]
def mY(t:Ret)(r:Rec):Int:=bJ t.lo (r.da+1)
def Js(r:Rec):Prop:=0<=r.da/\r.da<=100000
@[go_sem] def P158:PSpec:=p2 iT iR (fun _ r=>Js r) (fun t r=>vInt (mY t r)) true
@[go_sem] def HG:Spec:=P158.toSpec
theorem TA:aU Tryz.prog 158 P158:=by
 refine eZ (rs:=[.tmp 4]) Tryz.func158 Tryz.ntmps158 fun t r hp hw=>?_
 simp only[iR,iT,encR,c9]at hw |-
 have hΓ:=@fx Tryz.prog
 have iw:=zb hp
 repeat refine sq ?_
 refine rx hΓ [2,3] [[2,0],[3,0]] (fun K' hK=>by simp only[go_sem];exact ak) ?_
 repeat refine sq ?_
 refine rx hΓ [4] [] (fun K' hK=>by simp only[go_sem,iw];exact ak) ?_
 refine aA ?_
 simp only[go_sem]
 all_goals exact dV
def Hr(l:Led)(ds:List Int):Int:=if xa l=false then 24 else if ds.all dayB then 0 else 6
def ad4:List (Nat×Spec):=[]
attribute [go_sem] ad4
end
noncomputable section
theorem zX{l:Led}(h:bA l){r:Rec}(hr:r∈l.rs):Js r:=by
 obtain⟨j,hj,rfl⟩:=List.getElem_of_mem hr
 have :=ni h.rs hj
 unfold eh at this
 simp only[Bool.and_eq_true]at this
 have hd:=this.1.2
 unfold dayB bO at hd
 simp at hd
 exact hd
theorem Ve{l:Led}(h:bA l){i:Nat}(hi:i<l.ts.length):l.ts[i].lv.length<=30:=by
 have :=ni h.ts hi
 unfold j9 at this
 simp only[Bool.and_eq_true]at this
 exact(qY.1 this.1.1.1.2).2.1
def ao(l:Led)(i:Nat):Rec:=l.rs.getD i zeroR
theorem uU(l:Led)(so k:Int):cg l so k= -1\/∃ j,∃ h:j<l.rs.length,cg l so k=(j:Int)/\jj so k l.rs[j]=true:=by
 unfold cg dJ
 by_cases h:(l.rs.any fun r=>r.so==so&&bI r.kn r.un k)=true
 ·rw[if_pos h]
  have ab:l.rs.findIdx (fun r=>r.so==so&&bI r.kn r.un k)<l.rs.length:=List.findIdx_lt_length_of_exists (by obtain⟨x,hx,hp⟩:=List.any_eq_true.1 h;exact⟨x,hx,hp⟩)
  exact .inr ⟨_,ab,rfl,List.findIdx_getElem (w:=ab)⟩
 ·rw[if_neg h];exact .inl rfl
def nF(l:Led)(row:List Bool)(x:Ret)(f:Int)(j:Nat):Bool:=!(row.getD j false&&(aG l j).re==x.re&&(aG l j).lv.contains f)
def mg(p:Nat->Bool)(j:Nat):Bool:=(List.range j).all p
def oR(l:Led)(row:List Bool)(i:Nat)(r:Rec)(x:Ret)(f:Int):Bool:=r.lv.contains f&&mg (nF l row x f) i
def gD(l:Led)(k:Int)(row:List Bool)(i:Nat):Bool:=
 if cg l (aG l i).re k<0 then false else
   (bI (aG l i).kn (aG l i).un k&&!decide (mY (aG l i) (ao l (cg l (aG l i).re k).toNat)>(aG l i).hi))&&
     (aG l i).lv.all (oR l row i (ao l (cg l (aG l i).re k).toNat) (aG l i))
def bm(l:Led)(k:Int):Nat->List Bool
 | 0=>List.replicate l.ts.length false
 |s+1=>if gD l k (bm l k s) s=true then(bm l k s).set s true else bm l k s
theorem lB(l:Led)(k:Int)(s:Nat):(bm l k s).length=l.ts.length:=by
 induction s with
 |zero=>simp[bm]
 |succ s ih=>unfold bm;split<;>simp[ih]
theorem zp(l:Led)(k:Int){s j:Nat}(h:s<=j):(bm l k s).getD j false=false:=by
 induction s with
 |zero=>
  simp only[bm,List.getD_eq_getElem?_getD,List.getElem?_replicate]
  split<;>rfl
 |succ s ih=>
  unfold bm
  split
  ·rw[List.getD_eq_getElem?_getD,List.getElem?_set_ne (by omega),<-List.getD_eq_getElem?_getD];exact ih (by omega)
  ·exact ih (by omega)
theorem Ip(l:Led)(k:Int){s:Nat}(h:s<l.ts.length):(bm l k s).set s (gD l k (bm l k s) s)=bm l k (s+1):=by
 rw[bm]
 split
 ·rename_i e;rw[e]
 ·rename_i e
  have e2:gD l k (bm l k s) s=false:=by simpa using e
  have e3:=zp l k (Nat.le_refl s)
  rw[List.getD_eq_getElem?_getD,List.getElem?_eq_getElem (by rw[lB];exact h)]at e3
  have e4:(bm l k s)[s]'(by rw[lB];exact h)=false:=e3
  rw[e2,<-e4]
  exact List.set_getElem_self _
theorem zo(l:Led)(k:Int){s:Nat}(e:gD l k (bm l k s) s=false):bm l k (s+1)=bm l k s:=by
 rw[bm,if_neg (by rw[e];decide)]
theorem Ui(l:Led)(k:Int):List.replicate l.ts.length (V.bool false)=(bm l k 0).map V.bool:=by rw[bm,List.map_replicate]
theorem cm{l:Led}{i:Nat}(h:i<l.rs.length):ao l i=l.rs[i]:=by unfold ao;rw[List.getD_eq_getElem?_getD,List.getElem?_eq_getElem h];rfl
theorem xj{L:List Bool}{j:Nat}{d:V}(h:j<L.length):(L.map V.bool).getD j d=.bool (L.getD j false):=by
 simp[List.getD_eq_getElem?_getD,h]
theorem acU(p:Nat->Bool)(j:Nat):mg p (j+1)=(mg p j&&p j):=by
 unfold mg
 rw[List.range_succ,List.all_append];simp
theorem mF:decide ((-1:Int)<0)=true:=rfl
theorem Sr(row:List Bool)(i:Nat)(b:Bool):(row.map V.bool).set i (.bool b)=(row.set i b).map V.bool:=List.map_set.symm
def K40:List (Nat×Spec):=[(70,yX),(157,Cj),(158,HG),(15,ph)]
theorem ad2:KS K40:=tc I0.sound<|tc CV.sound<|tc TA.sound<|tc uT.sound<|tn
attribute [go_sem] K40
@[go_sem] def P71:PSpec:=p2 iL iI (fun l _=>bA l) (fun l k=>.sl ((bm l k l.ts.length).map .bool)) false
@[go_sem] def Cg:Spec:=P71.toSpec
set_option maxHeartbeats 8000000 in
theorem CS:aU Tryz.prog 71 P71:=by
 refine eZ (rs:=[.tmp 4]) Tryz.func71 Tryz.ntmps71 fun l k hp hw=>?_
 have hP:=eK
 simp only[iI,iL,ft]at hw |-
 have hΓ:=ad2
 have lV:=hp.rsn
 have AB:=hp.tsn
 have ku:l.ts.length<=maxLen:=by unfold maxLen;omega
 repeat refine sq ?_
 refine rx hΓ [1,2] [[2,0]] (fun K' hK=>by simp only[go_sem];exact ak) ?_
 repeat refine sq ?_
 refine rx hΓ [1,2,5] [[2,0],[15,0]] (fun K' hK=>by simp only[go_sem,ai,Ui l k];exact ak) ?_
 repeat refine sq ?_
 refine rx hΓ [1,2,5,6] [[2,0],[15,0]] (fun K' hK=>by simp only[go_sem];exact ak) ?_
 repeat refine sq ?_
 refine aN ?_
 repeat refine sq ?_
 refine cB (fun s:Nat=>[(6,⟨true,.v (vInt s)⟩)]) (fun s=>[([15,0],.arr 1 ((bm l k s).map .bool))]) (fun s=>s<=l.ts.length) (fun s=>l.ts.length-s) 0 ?_ ?_ ?_ ?_
 ·exact Nat.zero_le _
 ·rfl
 ·rfl
 rintro i hi
 simp only[go_sem]
 repeat refine sq ?_
 refine rx hΓ [1,2,5,6,20] [[2,0],[15,0]] (fun K' hK=>by simp only[go_sem];exact ak) ?_
 repeat refine sq ?_
 refine ay (fun hb=>?_) fun hb=>?_
 ·have ab:i<l.ts.length:=by simpa using hb
  have au:(i:Int)<l.ts.length:=by omega
  clear hb
  have mL:=lB l k i
  generalize ET:bm l k i=row at mL
  repeat refine sq ?_
  refine aE ?_
  repeat refine sq ?_
  refine aN ?_
  repeat refine sq ?_
  refine rx hΓ [1,2,5,6,7] [[2,0],[7,0],[15,0]] (fun K' hK=>by simp only[go_sem,ah ab,ai,aj,au];exact ak) ?_
  repeat refine sq ?_
  refine rx hΓ [1,2,5,6,7,8] [[2,0],[7,0],[15,0]] (fun K' hK=>by simp only[go_sem,ah ab,ai,aj,au,lV];exact ak) ?_
  rcases uU l l.ts[i].re k with hG | ⟨j0,cf,hG,hrp⟩
  ·repeat refine sq ?_
   refine dx hΓ hP [[],[0],[0,1],[0,1,2],u4,[0,1,2],[0,1,2,5],[0,1,2],u8,u9,ca,dX,eg,eg,[0,1,2,3,4,5,6,7,8,9,10,11,13],eg,[0,1,2,3,4,5,6,7,8,9,10,11,13,14,15],[0,1,2,3,4,5,6,7,8,9,10,11,13,14,15,16],gS,eg,[0,1,2,3,4,5,6,7,8,9,10,11,19],[0,1,2,3,4,5,6,7,8,9,10,11,19,20],uG,mr] [1,2,5,6,7,8,56] [[2,0],[7,0],[15,0]] (by kernel_rfl) (fun K' hK=>by simp only[go_sem,ah ab,ai,aj,au,hG,List.length_map];(repeat (refine⟨by first | exact an | exact fun h=>⟨h,zX hp (List.getElem_mem cf)⟩ | (cases bI l.ts[i].kn l.ts[i].un k<;>rfl),?_⟩));exact fG) ?_
   repeat refine sq ?_
   refine ay (fun hb=>?_) fun hb=>?_
   ·repeat refine sq ?_
    have e0:bm l k (i+1)=row:=by
     rw[zo l k (by unfold gD;rw[mu ab,hG];rfl),ET]
    refine bT ?_
    simp only[go_sem]
    refine kp [1,2,5,6] [[2,0],[15,0]] ?_
    repeat refine sq ?_
    refine aP hΓ fun K' hK=>?_
    simp only[go_sem,ah ab,ai,aj,au,hG]
    repeat (refine⟨an,?_⟩)
    refine hK _ ?_
    clear K' hK
    simp only[go_sem]
    refine⟨i+1,ab,by(show l.ts.length-(i+1)<l.ts.length-i;omega),?_⟩
    refine bd [1,2,5,6] [[2,0],[15,0]] ?_ ?_<;>simp only[go_sem,a7 ab ku,bb,e0]
   ·cases hb
  ·have eE:decide ((j0:Int)<0)=false:=by simp
   have FE:(j0:Int)<l.rs.length:=by omega
   repeat refine sq ?_
   refine dx hΓ hP [[],[0],[0,1],[0,1,2],u4,[0,1,2],[0,1,2,5],[0,1,2],u8,u9,ca,dX,eg,eg,[0,1,2,3,4,5,6,7,8,9,10,11,13],eg,[0,1,2,3,4,5,6,7,8,9,10,11,13,14,15],[0,1,2,3,4,5,6,7,8,9,10,11,13,14,15,16],gS,eg,[0,1,2,3,4,5,6,7,8,9,10,11,19],[0,1,2,3,4,5,6,7,8,9,10,11,19,20],uG,mr] [1,2,5,6,7,8,56] [[2,0],[7,0],[15,0]] (by kernel_rfl) (fun K' hK=>by simp only[go_sem,ah ab,ai,aj,au,hG,ah cf,eE,List.length_map];(repeat (refine⟨by first | exact an | exact fun h=>⟨h,zX hp (List.getElem_mem cf)⟩ | (cases bI l.ts[i].kn l.ts[i].un k<;>rfl),?_⟩));exact fG) ?_
   repeat refine sq ?_
   refine ay (fun hb=>?_) fun hb=>?_
   ·repeat refine sq ?_
    have e0:bm l k (i+1)=row:=by
     rw[zo l k (by unfold gD;rw[mu ab,hG,if_neg (by omega),ai,cm cf];simp only[Bool.and_eq_false_iff];exact .inl (by simpa[Bool.and_eq_false_iff]using hb)),ET]
    refine bT ?_
    simp only[go_sem]
    refine kp [1,2,5,6] [[2,0],[15,0]] ?_
    repeat refine sq ?_
    refine aP hΓ fun K' hK=>?_
    simp only[go_sem,ah ab,ai,aj,au,hG,ah cf,eE]
    repeat (refine⟨an,?_⟩)
    refine hK _ ?_
    clear K' hK
    simp only[go_sem]
    refine⟨i+1,ab,by(show l.ts.length-(i+1)<l.ts.length-i;omega),?_⟩
    refine bd [1,2,5,6] [[2,0],[15,0]] ?_ ?_<;>simp only[go_sem,a7 ab ku,bb,e0]
   ·repeat refine sq ?_
    have Od:bI l.ts[i].kn l.ts[i].un k=true:=by cases hcb:bI l.ts[i].kn l.ts[i].un k with | true=>rfl | false=>rw[hcb]at hb;simp at hb
    have Z8:¬ mY l.ts[i] l.rs[j0]>l.ts[i].hi:=by rw[Od]at hb;simpa using hb
    have YV:gD l k row i=l.ts[i].lv.all (oR l row i l.rs[j0] l.ts[i]):=by
     unfold gD
     rw[mu ab,hG,if_neg (by omega),ai,cm cf,Od,decide_eq_false Z8]
     rfl
    have Ax:=Ve hp ab
    have YP:l.ts[i].lv.length<=maxLen:=by unfold maxLen;omega
    clear hb
    refine aE ?_
    repeat refine sq ?_
    refine rx hΓ [1,2,5,6,7,8,9] [[2,0],[7,0],[15,0]] (fun K' hK=>by simp only[go_sem,ah ab,ai,aj,au,hG,ah cf,eE];exact ak) ?_
    repeat refine sq ?_
    refine rx hΓ [1,2,5,6,7,8,9,10] [[2,0],[7,0],[15,0]] (fun K' hK=>by simp only[go_sem,ah ab,ai,aj,au,hG,ah cf,eE];exact ak) ?_
    repeat refine sq ?_
    refine aN ?_
    repeat refine sq ?_
    refine cB (fun s:Nat=>[(10,⟨true,.v (vInt s)⟩),(9,⟨true,.v (.bool ((l.ts[i].lv.take s).all (oR l row i l.rs[j0] l.ts[i])))⟩)]) (fun s=>[]) (fun s=>s<=l.ts[i].lv.length) (fun s=>l.ts[i].lv.length-s) 0 ?_ ?_ ?_ ?_
    ·exact Nat.zero_le _
    ·rfl
    ·rfl
    rintro i1 hi
    generalize hB:(l.ts[i].lv.take i1).all (oR l row i l.rs[j0] l.ts[i])=B
    simp only[go_sem]
    repeat refine sq ?_
    refine rx hΓ [1,2,5,6,7,8,9,10,61] [[2,0],[7,0],[15,0]] (fun K' hK=>by simp only[go_sem,ah ab,ai,aj,au,hG,ah cf,eE];exact ak) ?_
    repeat refine sq ?_
    refine ay (fun hb=>?_) fun hb=>?_
    ·have aT:i1<l.ts[i].lv.length:=by simpa using hb
     have bH:(i1:Int)<l.ts[i].lv.length:=by omega
     clear hb
     have hA:(l.ts[i].lv.take (i1+1)).all (oR l row i l.rs[j0] l.ts[i])=(mg (nF l row l.ts[i] l.ts[i].lv[i1]) i&&(B&&l.rs[j0].lv.contains l.ts[i].lv[i1])):=by rw[<-hB,yQ aT,oR,<-Bool.and_assoc,Bool.and_comm]
     repeat refine sq ?_
     refine aE ?_
     repeat refine sq ?_
     refine aN ?_
     repeat refine sq ?_
     refine dx hΓ hP [[],[0],[0,1],[0,1,2],[0,1],u5,u6,u7,[0,1],[0,1,8],[0,1],[0,1,8,9,10],[0,1,8,9,10,11],gT,il,wC] [1,2,5,6,7,8,9,10] [[2,0],[7,0],[15,0]] (by kernel_rfl) (fun K' hK=>by simp only[go_sem,ah ab,ai,aj,au,hG,ah cf,eE,ah aT,ai,aj,bH,ah cf,FE];exact fF) ?_
     repeat refine sq ?_
     refine rx hΓ [1,2,5,6,7,8,9,10,11] [[2,0],[7,0],[15,0]] (fun K' hK=>by simp only[go_sem,ah ab,ai,aj,au,hG,ah cf,eE,ah aT,ai,aj,bH];exact ak) ?_
     repeat refine sq ?_
     refine aN ?_
     repeat refine sq ?_
     refine cB (fun s:Nat=>[(11,⟨true,.v (vInt s)⟩),(9,⟨true,.v (.bool (mg (nF l row l.ts[i] l.ts[i].lv[i1]) s&&(B&&l.rs[j0].lv.contains l.ts[i].lv[i1])))⟩)]) (fun s=>[]) (fun s=>s<=i) (fun s=>i-s) 0 ?_ ?_ ?_ ?_
     ·exact Nat.zero_le _
     ·rfl
     ·rfl
     rintro j hi
     generalize hC:(mg (nF l row l.ts[i] l.ts[i].lv[i1]) j&&(B&&l.rs[j0].lv.contains l.ts[i].lv[i1]))=C
     simp only[go_sem]
     repeat refine sq ?_
     refine rx hΓ [1,2,5,6,7,8,9,10,11,81] [[2,0],[7,0],[15,0]] (fun K' hK=>by simp only[go_sem,ah ab,ai,aj,au,hG,ah cf,eE,ah aT,ai,aj,bH];exact ak) ?_
     repeat refine sq ?_
     refine ay (fun hb=>?_) fun hb=>?_
     ·have cz:j<i:=by simpa using hb
      have gw:(j:Int)<i:=by omega
      clear hb
      have FB:j<l.ts.length:=by omega
      have NM:j<row.length:=by omega
      have NL:(j:Int)<l.ts.length:=by omega
      have hT:(mg (nF l row l.ts[i] l.ts[i].lv[i1]) (j+1)&&(B&&l.rs[j0].lv.contains l.ts[i].lv[i1]))=(C&&!((row.getD j false&&l.ts[j].re==l.ts[i].re)&&l.ts[j].lv.contains l.ts[i].lv[i1])):=by
       rw[<-hC,acU,nF,mu FB,Bool.and_right_comm]
      repeat refine sq ?_
      refine aE ?_
      repeat refine sq ?_
      refine aN ?_
      repeat refine sq ?_
      refine qq hΓ hP [[],[0],[0,1],[0,1],u4,u5,u6,u7,u8,u7,ca,dX,eg,u7,[0,1,2,3,4,5,6,13],wC,u16,lz,gS,kK,gS,sh,uG,mr,gS,[0,1,2,3,4,5,6,7,8,9,10,11,12,13,14,15,16,17,24],gS,[0,1,2,3,4,5,6,7,8,9,10,11,12,13,14,15,16,17,24,25,26],[0,1,2,3,4,5,6,7,8,9,10,11,12,13,14,15,16,17,24,25,26,27],zh,Ib,Ia,u32,CA] (by kernel_rfl) fun K' hK=>?_
      simp only[go_sem,ah ab,ai,aj,au,hG,ah cf,eE,ah aT,ai,aj,bH,ah ab,ah aT,ah cf,FE,xj NM,ah FB,NL,bH,au,ai,aj,List.length_map,Bool.decide_and,Bool.decide_eq_true]
      repeat (refine⟨an,?_⟩)
      first | refine⟨by rfl,?_⟩ | skip
      refine hK _ ?_
      clear K' hK
      simp only[go_sem]
      refine kp [1,2,5,6,7,8,9,10,11] [[2,0],[7,0],[15,0]] ?_
      repeat refine sq ?_
      refine aP hΓ fun K' hK=>?_
      simp only[go_sem,ah ab,ai,aj,au,hG,ah cf,eE,ah aT,ai,aj,bH,ah ab,ah aT,ah cf,FE,xj NM,ah FB,NL,bH,au,ai,aj,List.length_map]
      repeat (refine⟨an,?_⟩)
      refine hK _ ?_
      clear K' hK
      simp only[go_sem]
      refine⟨j+1,cz,by(show i-(j+1)<i-j;omega),?_⟩
      refine bd [1,2,5,6,7,8,9,10,11] [[2,0],[7,0],[15,0]] ?_ ?_<;>simp only[go_sem,a7 cz (by omega),bb,hT]
     ·have p8:j=i:=by
       have :¬ (j:Int)<i:=by simpa using hb
       omega
      clear hb
      rw[p8]at hC
      repeat refine sq ?_
      refine bT ?_
      simp only[go_sem]
      refine kp [1,2,5,6,7,8,9,10] [[2,0],[7,0],[15,0]] ?_
      repeat refine sq ?_
      refine aP hΓ fun K' hK=>?_
      simp only[go_sem,ah ab,ai,aj,au,hG,ah cf,eE,ah aT,ai,aj,bH]
      repeat (refine⟨an,?_⟩)
      refine hK _ ?_
      clear K' hK
      simp only[go_sem]
      refine⟨i1+1,aT,by(show l.ts[i].lv.length-(i1+1)<l.ts[i].lv.length-i1;omega),?_⟩
      refine bd [1,2,5,6,7,8,9,10] [[2,0],[7,0],[15,0]] ?_ ?_<;>simp only[go_sem,a7 aT YP,bb,hA,hC]
    ·have lY:i1=l.ts[i].lv.length:=by
      have :¬ (i1:Int)<l.ts[i].lv.length:=by simpa using hb
      omega
     clear hb
     subst lY
     repeat refine sq ?_
     refine bT ?_
     simp only[go_sem]
     refine kp [1,2,5,6,9] [[2,0],[15,0]] ?_
     have e0:bm l k (i+1)=row.set i B:=by
      rw[<-Ip l k ab,ET,YV,<-hB,List.take_length]
     repeat refine sq ?_
     refine aP hΓ fun K' hK=>?_
     simp only[go_sem,ah ab,ai,aj,au,hG,ah cf,eE,Sr]
     repeat (refine⟨an,?_⟩)
     refine hK _ ?_
     clear K' hK
     simp only[go_sem]
     refine kp [1,2,5,6] [[2,0],[15,0]] ?_
     repeat refine sq ?_
     refine aP hΓ fun K' hK=>?_
     simp only[go_sem,ah ab,ai,aj,au,hG,ah cf,eE]
     repeat (refine⟨an,?_⟩)
     refine hK _ ?_
     clear K' hK
     simp only[go_sem]
     refine⟨i+1,ab,by(show l.ts.length-(i+1)<l.ts.length-i;omega),?_⟩
     refine bd [1,2,5,6] [[2,0],[15,0]] ?_ ?_<;>simp only[go_sem,a7 ab ku,bb,e0]
 ·have bB:i=l.ts.length:=by
   have :¬ (i:Int)<l.ts.length:=by simpa using hb
   omega
  clear hb
  subst bB
  repeat refine sq ?_
  refine bT ?_
  simp only[go_sem]
  refine kp [5] [[15,0]] ?_
  repeat refine sq ?_
  refine rx hΓ [4] [[15,0]] (fun K' hK=>by simp only[go_sem];exact ak) ?_
  refine aA ?_
  simp only[go_sem]
  rw[lB]
end
noncomputable section
structure RV where
 l:Led
 k:Int
 ts:List Bool
 ds:List Rg
 deriving Inhabited
def GH(x:RV):V:=.agg [.sl (x.l.ps.map cP),.sl (x.l.rs.map encR),.sl (x.l.ts.map c9),.sl (x.l.ss.map encS),vInt x.k,.sl (x.ts.map .bool),.sl (x.ds.map tP)]
def Pn:V->RV
 | .agg [.sl a,.sl b,.sl c,.sl d,.int _ k,.sl t,.sl g]=>⟨⟨a.map rO,b.map lq,c.map m6,d.map jT⟩,k,t.map BA,g.map vZ⟩
 |_=>default
theorem abh(r:Rg):vZ (tP r)=r:=rfl
@[go_sem] theorem aij(l:List Rg):(l.map tP).map vZ=l:=qV abh l
def oS:En RV:=⟨GH,Pn⟩
attribute [go_sem] GH Pn oS tP vZ
@[go_sem] theorem aia(x:RV):(⟨x.l,x.k,x.ts,x.ds⟩:RV)=x:=rfl
def jD(x:RV)(so f:Int)(j:Nat):Bool:=(x.ts.getD j false&&(aG x.l j).re==so)&&(aG x.l j).lv.contains f
def dq(x:RV)(i:Nat)(f:Int):Int:=if (List.range x.ts.length).any (jD x (ao x.l i).so f)=true then((List.range x.ts.length).findIdx (jD x (ao x.l i).so f):Int)else -1
theorem Jf{x:RV}{i:Nat}{f:Int}{j:Nat}(h:j<x.ts.length)(hp:jD x (ao x.l i).so f j=true)(hn:∀ m,m<x.ts.length->m<j->jD x (ao x.l i).so f m=false):dq x i f=j:=by
 have :=sN (p:=jD x (ao x.l i).so f) (l:=List.range x.ts.length) (i:=j) (by simpa using h) (by simpa using hp) (fun m hm mO=>by simpa using hn m (by simpa using hm) mO)
 exact this
theorem Je{x:RV}{i:Nat}{f:Int}(hn:∀ m,m<x.ts.length->m<x.ts.length->jD x (ao x.l i).so f m=false):dq x i f= -1:=by
 unfold dq
 rw[if_neg]
 intro h
 obtain⟨m,hm,hp⟩:=List.any_eq_true.1 h
 have kY:m<x.ts.length:=by simpa using hm
 rw[hn m kY kY]at hp
 exact absurd hp (by decide)
def K41:List (Nat×Spec):=[(15,ph)]
theorem ad1:KS K41:=tc uT.sound<|tn
attribute [go_sem] K41
@[go_sem] def P103:PSpec:=p3 oS iI iI (fun x a _=>(bA x.l/\x.ts.length=x.l.ts.length)/\0<=a/\a<x.l.rs.length) (fun x a f=>vInt (dq x a.toNat f)) true
@[go_sem] def wt:Spec:=P103.toSpec
set_option maxHeartbeats 8000000 in
theorem I6:aU Tryz.prog 103 P103:=by
 refine mq (rs:=[.tmp 6]) Tryz.func103 Tryz.ntmps103 fun x a f hp hw=>?_
 have hP:=eK
 simp only[iI,oS]at hw |-
 have hΓ:=ad1
 obtain⟨⟨aa,xJ⟩,ha0,vN⟩:=hp
 have AB:=aa.tsn
 have hl:x.ts.length<=maxLen:=by unfold maxLen;omega
 obtain⟨n,rfl⟩:∃ n:Nat,a=n:=⟨a.toNat,by omega⟩
 have hn:n<x.l.rs.length:=by omega
 rw[ai]
 repeat refine sq ?_
 refine rx hΓ [1,2,3] [[3,0]] (fun K' hK=>by simp only[go_sem];exact ak) ?_
 repeat refine sq ?_
 refine rx hΓ [1,2,3,7] [[3,0]] (fun K' hK=>by simp only[go_sem];exact ak) ?_
 repeat refine sq ?_
 refine aN ?_
 repeat refine sq ?_
 refine cB (fun s:Nat=>[(7,⟨true,.v (vInt s)⟩)]) (fun s=>[]) (fun s=>s<=x.ts.length/\∀ m,m<x.ts.length->m<s->jD x (ao x.l n).so f m=false) (fun s=>x.ts.length-s) 0 ?_ ?_ ?_ ?_
 ·exact⟨Nat.zero_le _,fun m _ h=>by omega⟩
 ·rfl
 ·rfl
 rintro i ⟨hi,hR⟩
 simp only[go_sem]
 repeat refine sq ?_
 refine rx hΓ [1,2,3,7,12] [[3,0]] (fun K' hK=>by simp only[go_sem];exact ak) ?_
 repeat refine sq ?_
 refine ay (fun hb=>?_) fun hb=>?_
 ·have ab:i<x.ts.length:=by simpa using hb
  have au:(i:Int)<x.ts.length:=by omega
  clear hb
  have xV:i<x.l.ts.length:=by omega
  have Fs:(i:Int)<x.l.ts.length:=by omega
  have te:(n:Int)<x.l.rs.length:=by omega
  repeat refine sq ?_
  refine aE ?_
  repeat refine sq ?_
  refine aN ?_
  repeat refine sq ?_
  refine dx hΓ hP [[],[0],[],[0,1,2],u4,u5,u6,u7,u8,u6,ca,dX,eg,u6,[0,1,2,3,4,5,13],[0,1,2,3,4,5,13,14],u6,[0,1,2,3,4,5,13,14,15,16],[0,1,2,3,4,5,13,14,15,16,17],[0,1,2,3,4,5,13,14,15,16,17,18],nE,sh,uG,mr,zk,zj,mr,RU,zi,zh,mr,Ia,u32] [1,2,3,7,47] [[3,0]] (by kernel_rfl) (fun K' hK=>by simp only[go_sem,xj ab,ah hn,ah xV,te,Fs,ai,aj,au,List.length_map];exact fF) ?_
  repeat refine sq ?_
  refine ay (fun hb=>?_) fun hb=>?_
  ·repeat refine sq ?_
   have e:dq x n f=i:=Jf ab (by unfold jD;rw[mu xV,cm hn];simpa using hb) hR
   repeat refine sq ?_
   refine rx hΓ [6] [] (fun K' hK=>by simp only[go_sem,xj ab,ah hn,ah xV,te,Fs,ai,aj,au,List.length_map];exact ak) ?_
   refine aA ?_
   simp only[go_sem]
   rw[e]
  ·repeat refine sq ?_
   refine aE ?_
   refine bQ ?_
   simp only[go_sem]
   refine kp [1,2,3,7] [[3,0]] ?_
   repeat refine sq ?_
   refine aP hΓ fun K' hK=>?_
   simp only[go_sem,xj ab,ah hn,ah xV,te,Fs,ai,aj,au,List.length_map]
   repeat (refine⟨an,?_⟩)
   refine hK _ ?_
   clear K' hK
   simp only[go_sem]
   refine⟨i+1,⟨ab,?_⟩,by(show x.ts.length-(i+1)<x.ts.length-i;omega),?_⟩
   ·intro m hm Fq
    rcases Nat.lt_succ_iff_lt_or_eq.1 Fq with h5 | rfl
    ·exact hR m hm h5
    ·unfold jD;rw[mu xV,cm hn];simpa using hb
   refine bd [1,2,3,7] [[3,0]] ?_ ?_<;>simp only[go_sem,a7 ab hl,bb]
 ·have bB:i=x.ts.length:=by
   have :¬ (i:Int)<x.ts.length:=by simpa using hb
   omega
  clear hb
  subst bB
  repeat refine sq ?_
  refine bT ?_
  simp only[go_sem]
  refine kp [] [] ?_
  repeat refine sq ?_
  refine rx hΓ [6] [] (fun K' hK=>by simp only[go_sem];exact ak) ?_
  refine aA ?_
  simp only[go_sem]
  rw[Je hR]
end
set_option maxHeartbeats 8000000
noncomputable section
def dR(k:Int)(f:Fol)(r:Rec):Bool:=(bI r.kn r.un k&&r.pa==f.pa)&&r.lv.contains f.le
def K42:List (Nat×Spec):=[(157,Cj),(15,ph)]
theorem ad0:KS K42:=tc CV.sound<|tc uT.sound<|tn
attribute [go_sem] K42
@[go_sem] def P188:PSpec:=p3 oS iI iQ (fun x a _=>0<=a/\a<x.l.rs.length) (fun x a f=>.bool (dR x.k f (ao x.l a.toNat))) true
@[go_sem] def HD:Spec:=P188.toSpec
theorem Tk:aU Tryz.prog 188 P188:=by
 refine mq (rs:=[.tmp 6]) Tryz.func188 Tryz.ntmps188 fun x a f hp hw=>?_
 simp only[iQ,iI,oS,gA]at hw |-
 have hΓ:=ad0
 obtain⟨ha0,vN⟩:=hp
 obtain⟨n,rfl⟩:∃ n:Nat,a=n:=⟨a.toNat,by omega⟩
 have hn:n<x.l.rs.length:=by omega
 rw[ai,cm hn]
 repeat refine sq ?_
 refine rx hΓ [1,3,5] [[3,0],[5,0]] (fun K' hK=>by simp only[go_sem];exact ak) ?_
 repeat refine sq ?_
 refine rx hΓ [3,5,7] [[3,0],[5,0],[7,0]] (fun K' hK=>by simp only[go_sem,ah hn,ai,aj,vN,List.length_map];exact ak) ?_
 repeat refine sq ?_
 refine rx hΓ [6] [] (fun K' hK=>by simp only[go_sem,Bool.decide_and,Bool.decide_eq_true];exact ak) ?_
 refine aA ?_
 simp only[go_sem]
 rfl
def gd(x:RV)(f:Fol)(day:Int):Nat->Int
 | 0=> -1
 |s+1=>if ((dR x.k f (ao x.l s)&&decide ((ao x.l s).da<=day))&&(decide (gd x f day s<0)||decide ((ao x.l s).da>(ao x.l (gd x f day s).toNat).da)))=true then(s:Int)else gd x f day s
theorem KX(x:RV)(f:Fol)(day:Int)(s:Nat):gd x f day s= -1\/∃ j,j<s/\gd x f day s=(j:Int):=by
 induction s with
 |zero=>exact .inl rfl
 |succ s ih=>
  unfold gd
  split
  ·exact .inr ⟨s,by omega,rfl⟩
  ·rcases ih with h | ⟨j,hj,h⟩
   ·exact .inl h
   ·exact .inr ⟨j,by omega,h⟩
def dZ(x:RV)(f:Fol)(day:Int):Int:=gd x f day x.l.rs.length
def K42b:List (Nat×Spec):=[(188,HD)]
theorem adZ:KS K42b:=tc Tk.sound<|tn
attribute [go_sem] K42b
@[go_sem] def P159:PSpec:=p3 oS iQ iI (fun x _ _=>bA x.l) (fun x f day=>vInt (dZ x f day)) true
@[go_sem] def HF:Spec:=P159.toSpec
theorem Tz:aU Tryz.prog 159 P159:=by
 refine mq (rs:=[.tmp 6]) Tryz.func159 Tryz.ntmps159 fun x f day hp hw=>?_
 simp only[iQ,iI,oS,gA]at hw |-
 have hΓ:=adZ
 have lV:=hp.rsn
 have hl:x.l.rs.length<=maxLen:=by unfold maxLen;omega
 repeat refine sq ?_
 refine rx hΓ [2,3,4] [[3,0],[4,0]] (fun K' hK=>by simp only[go_sem];exact ak) ?_
 repeat refine sq ?_
 refine rx hΓ [2,3,4,7] [[3,0],[4,0]] (fun K' hK=>by simp only[go_sem];exact ak) ?_
 repeat refine sq ?_
 refine rx hΓ [2,3,4,7,8] [[3,0],[4,0]] (fun K' hK=>by simp only[go_sem];exact ak) ?_
 repeat refine sq ?_
 refine aN ?_
 repeat refine sq ?_
 refine cB (fun s:Nat=>[(8,⟨true,.v (vInt s)⟩),(7,⟨true,.v (vInt (gd x f day s))⟩)]) (fun s=>[]) (fun s=>s<=x.l.rs.length) (fun s=>x.l.rs.length-s) 0 ?_ ?_ ?_ ?_
 ·exact Nat.zero_le _
 ·rfl
 ·rfl
 rintro i hi
 generalize hL:gd x f day i=L
 simp only[go_sem]
 repeat refine sq ?_
 refine rx hΓ [2,3,4,7,8,15] [[3,0],[4,0]] (fun K' hK=>by simp only[go_sem];exact ak) ?_
 repeat refine sq ?_
 refine ay (fun hb=>?_) fun hb=>?_
 ·have ab:i<x.l.rs.length:=by simpa using hb
  have au:(i:Int)<x.l.rs.length:=by omega
  clear hb
  have hc:=KX x f day i
  rw[hL]at hc
  have mX:=cm ab
  have fB:bJ (-1) 0=0:=rfl
  have Bg:0<x.l.rs.length:=by omega
  have Bf:(0:Int)<x.l.rs.length:=by omega
  repeat refine sq ?_
  refine aE ?_
  repeat refine sq ?_
  refine aN ?_
  repeat refine sq ?_
  refine rx hΓ [2,3,4,7,8,9] [[3,0],[4,0]] (fun K' hK=>by simp only[go_sem,ah ab,ai,aj,au];exact ak) ?_
  rcases hc with hc | ⟨j,hj,hc⟩
  ·subst hc
   repeat refine sq ?_
   refine rx hΓ [2,3,4,7,8,49] [[3,0],[4,0]] (fun K' hK=>by simp only[go_sem,ah ab,ai,aj,au,fB,ah Bg,Bf,ai,mF,mX,Bool.decide_and,Bool.decide_eq_true];exact ak) ?_
   repeat refine sq ?_
   refine ay (fun hb=>?_) fun hb=>?_
   ·repeat refine sq ?_
    have eL:gd x f day (i+1)=(i:Int):=by
     rw[gd,hL,mX,if_pos (by simpa using hb)]
    repeat refine sq ?_
    refine aP hΓ fun K' hK=>?_
    simp only[go_sem,ah ab,ai,aj,au,fB,ah Bg,Bf,ai,mF,mX]
    repeat (refine⟨an,?_⟩)
    refine hK _ ?_
    clear K' hK
    simp only[go_sem]
    refine kp [2,3,4,7,8] [[3,0],[4,0]] ?_
    repeat refine sq ?_
    refine aP hΓ fun K' hK=>?_
    simp only[go_sem,ah ab,ai,aj,au,fB,ah Bg,Bf,ai,mF,mX]
    repeat (refine⟨an,?_⟩)
    refine hK _ ?_
    clear K' hK
    simp only[go_sem]
    refine⟨i+1,ab,by(show x.l.rs.length-(i+1)<x.l.rs.length-i;omega),?_⟩
    refine bd [2,3,4,7,8] [[3,0],[4,0]] ?_ ?_<;>simp only[go_sem,a7 ab hl,bb,eL]
   ·repeat refine sq ?_
    have eL:gd x f day (i+1)= -1:=by
     rw[gd,hL,mX,if_neg (by simpa using hb)]
    refine aE ?_
    refine bQ ?_
    simp only[go_sem]
    refine kp [2,3,4,7,8] [[3,0],[4,0]] ?_
    repeat refine sq ?_
    refine aP hΓ fun K' hK=>?_
    simp only[go_sem,ah ab,ai,aj,au,fB,ah Bg,Bf,ai,mF,mX]
    repeat (refine⟨an,?_⟩)
    refine hK _ ?_
    clear K' hK
    simp only[go_sem]
    refine⟨i+1,ab,by(show x.l.rs.length-(i+1)<x.l.rs.length-i;omega),?_⟩
    refine bd [2,3,4,7,8] [[3,0],[4,0]] ?_ ?_<;>simp only[go_sem,a7 ab hl,bb,eL]
  ·subst hc
   have eE:decide ((j:Int)<0)=false:=by simp
   have mO:(if (0:Int)>(j:Int)then(0:Int)else(j:Int))=j:=if_neg (by omega)
   have iz:j<x.l.rs.length:=by omega
   have AW:(j:Int)<x.l.rs.length:=by omega
   repeat refine sq ?_
   refine rx hΓ [2,3,4,7,8,49] [[3,0],[4,0]] (fun K' hK=>by simp only[go_sem,ah ab,ai,aj,au,mO,eE,ah iz,AW,mX,Bool.decide_and,Bool.decide_eq_true];exact ak) ?_
   repeat refine sq ?_
   refine ay (fun hb=>?_) fun hb=>?_
   ·repeat refine sq ?_
    have eL:gd x f day (i+1)=(i:Int):=by
     rw[gd,hL,mX,ai,cm iz,eE,Bool.false_or,if_pos (by simpa using hb)]
    repeat refine sq ?_
    refine aP hΓ fun K' hK=>?_
    simp only[go_sem,ah ab,ai,aj,au,mO,eE,ah iz,AW,mX]
    repeat (refine⟨an,?_⟩)
    refine hK _ ?_
    clear K' hK
    simp only[go_sem]
    refine kp [2,3,4,7,8] [[3,0],[4,0]] ?_
    repeat refine sq ?_
    refine aP hΓ fun K' hK=>?_
    simp only[go_sem,ah ab,ai,aj,au,mO,eE,ah iz,AW,mX]
    repeat (refine⟨an,?_⟩)
    refine hK _ ?_
    clear K' hK
    simp only[go_sem]
    refine⟨i+1,ab,by(show x.l.rs.length-(i+1)<x.l.rs.length-i;omega),?_⟩
    refine bd [2,3,4,7,8] [[3,0],[4,0]] ?_ ?_<;>simp only[go_sem,a7 ab hl,bb,eL]
   ·repeat refine sq ?_
    have eL:gd x f day (i+1)=(j:Int):=by
     rw[gd,hL,mX,ai,cm iz,eE,Bool.false_or,if_neg (by simpa using hb)]
    refine aE ?_
    refine bQ ?_
    simp only[go_sem]
    refine kp [2,3,4,7,8] [[3,0],[4,0]] ?_
    repeat refine sq ?_
    refine aP hΓ fun K' hK=>?_
    simp only[go_sem,ah ab,ai,aj,au,mO,eE,ah iz,AW,mX]
    repeat (refine⟨an,?_⟩)
    refine hK _ ?_
    clear K' hK
    simp only[go_sem]
    refine⟨i+1,ab,by(show x.l.rs.length-(i+1)<x.l.rs.length-i;omega),?_⟩
    refine bd [2,3,4,7,8] [[3,0],[4,0]] ?_ ?_<;>simp only[go_sem,a7 ab hl,bb,eL]
 ·have bB:i=x.l.rs.length:=by
   have :¬ (i:Int)<x.l.rs.length:=by simpa using hb
   omega
  clear hb
  subst bB
  repeat refine sq ?_
  refine bT ?_
  simp only[go_sem]
  refine kp [7] [] ?_
  repeat refine sq ?_
  refine rx hΓ [6] [] (fun K' hK=>by simp only[go_sem];exact ak) ?_
  refine aA ?_
  simp only[go_sem]
  rw[<-hL];rfl
def gE(l:Led)(i:Nat):Sig:=l.ss.getD i default
def wM(x:RV):Nat->List Int
 | 0=>[]
 |s+1=>if bI (gE x.l s).kn (gE x.l s).un x.k=true then wM x s++[(s:Int)]else wM x s
theorem IA{l:Led}{i:Nat}(h:i<l.ss.length):gE l i=l.ss[i]:=by unfold gE;rw[List.getD_eq_getElem?_getD,List.getElem?_eq_getElem h];rfl
def adY:List (Nat×Spec):=[(157,Cj)]
attribute [go_sem] adY
end
noncomputable section
def xi(x:RV)(r:Rec)(lv:List Int)(i:Nat)(j:Nat):Bool:=decide ((ao x.l i).da>r.da)&&dR x.k ⟨r.pa,lv.getD j 0⟩ (ao x.l i)
def yI(x:RV)(r:Rec)(lv:List Int)(i:Nat)(hi:Int):Nat->Int
 | 0=>hi
 |j+1=>if xi x r lv i j=true then dw (yI x r lv i hi j) (ao x.l i).da else yI x r lv i hi j
def ue(x:RV)(r:Rec)(t:Ret):Nat->Int
 | 0=>t.hi
 |i+1=>yI x r t.lv i (ue x r t i) t.lv.length
def yH(x:RV)(i:Nat):Rg:=if x.ts.getD i false=true then⟨mY (aG x.l i) (ao x.l (cg x.l (aG x.l i).re x.k).toNat),ue x (ao x.l (cg x.l (aG x.l i).re x.k).toNat) (aG x.l i) x.l.rs.length⟩else⟨0,100000⟩
def HK(x:RV):Prop:=bA x.l/\x.ts.length=x.l.ts.length/\∀ i,x.ts.getD i false=true->¬ cg x.l (aG x.l i).re x.k<0
def K43:List (Nat×Spec):=[(70,yX),(158,HG),(188,HD)]
attribute [go_sem] K43
end
noncomputable section
theorem Ww(x:RV)(f:Fol)(day:Int):dZ x f day= -1\/∃ j,j<x.l.rs.length/\dZ x f day=(j:Int):=KX x f day _
theorem Ua(x:RV)(i:Nat)(f:Int):dq x i f= -1\/∃ j,j<x.ts.length/\dq x i f=(j:Int):=by
 unfold dq
 by_cases h:(List.range x.ts.length).any (jD x (ao x.l i).so f)=true
 ·rw[if_pos h]
  have ab:(List.range x.ts.length).findIdx (jD x (ao x.l i).so f)<(List.range x.ts.length).length:=List.findIdx_lt_length_of_exists (by obtain⟨y,hy,hp⟩:=List.any_eq_true.1 h;exact⟨y,hy,hp⟩)
  exact .inr ⟨_,by simpa using ab,rfl⟩
 ·rw[if_neg h];exact .inl rfl
def fj(d:List Rg)(i:Nat):Rg:=d.getD i default
def kf(x:RV)(d:List Rg)(s:Sig):List Rg×Bool:=
 if dZ x ⟨s.pa,s.le⟩ s.da<0 then(d,s.pe==0)else
 if dq x (dZ x ⟨s.pa,s.le⟩ s.da).toNat s.le<0 then(d,s.pe==(ao x.l (dZ x ⟨s.pa,s.le⟩ s.da).toNat).bo)else
 if s.pe==(ao x.l (dZ x ⟨s.pa,s.le⟩ s.da).toNat).bo then
   (d.set (dq x (dZ x ⟨s.pa,s.le⟩ s.da).toNat s.le).toNat ⟨bJ (fj d (dq x (dZ x ⟨s.pa,s.le⟩ s.da).toNat s.le).toNat).lo (s.da+1),(fj d (dq x (dZ x ⟨s.pa,s.le⟩ s.da).toNat s.le).toNat).hi⟩,
     decide (bJ (fj d (dq x (dZ x ⟨s.pa,s.le⟩ s.da).toNat s.le).toNat).lo (s.da+1)<=(fj d (dq x (dZ x ⟨s.pa,s.le⟩ s.da).toNat s.le).toNat).hi))
 else if s.pe==0 then
  (d.set (dq x (dZ x ⟨s.pa,s.le⟩ s.da).toNat s.le).toNat ⟨(fj d (dq x (dZ x ⟨s.pa,s.le⟩ s.da).toNat s.le).toNat).lo,dw (fj d (dq x (dZ x ⟨s.pa,s.le⟩ s.da).toNat s.le).toNat).hi s.da⟩,
    decide ((fj d (dq x (dZ x ⟨s.pa,s.le⟩ s.da).toNat s.le).toNat).lo<=dw (fj d (dq x (dZ x ⟨s.pa,s.le⟩ s.da).toNat s.le).toNat).hi s.da))
 else(d,false)
theorem Vo{x:RV}{d:List Rg}{s:Sig}(h:dZ x ⟨s.pa,s.le⟩ s.da= -1):kf x d s=(d,s.pe==0):=by unfold kf;rw[h];rfl
theorem Vn{x:RV}{d:List Rg}{s:Sig}{q:Nat}(h:dZ x ⟨s.pa,s.le⟩ s.da=q)(hr:dq x q s.le= -1):kf x d s=(d,s.pe==(ao x.l q).bo):=by
 unfold kf;rw[h,if_neg (by omega),ai,hr];rfl
theorem Vq{x:RV}{d:List Rg}{s:Sig}{q j:Nat}(h:dZ x ⟨s.pa,s.le⟩ s.da=q)(hr:dq x q s.le=j)(hm:(s.pe==(ao x.l q).bo)=true):
 kf x d s=(d.set j ⟨bJ (fj d j).lo (s.da+1),(fj d j).hi⟩,decide (bJ (fj d j).lo (s.da+1)<=(fj d j).hi)):=by
 unfold kf;rw[h,if_neg (by omega),ai,hr,if_neg (by omega),if_pos hm];rfl
theorem Vr{x:RV}{d:List Rg}{s:Sig}{q j:Nat}(h:dZ x ⟨s.pa,s.le⟩ s.da=q)(hr:dq x q s.le=j)(hm:(s.pe==(ao x.l q).bo)=false)(h0:(s.pe==0)=true):
 kf x d s=(d.set j ⟨(fj d j).lo,dw (fj d j).hi s.da⟩,decide ((fj d j).lo<=dw (fj d j).hi s.da)):=by
 unfold kf;rw[h,if_neg (by omega),ai,hr,if_neg (by omega),if_neg (by rw[hm];decide),if_pos h0];rfl
theorem Vp{x:RV}{d:List Rg}{s:Sig}{q j:Nat}(h:dZ x ⟨s.pa,s.le⟩ s.da=q)(hr:dq x q s.le=j)(hm:(s.pe==(ao x.l q).bo)=false)(h0:(s.pe==0)=false):kf x d s=(d,false):=by
 unfold kf;rw[h,if_neg (by omega),ai,hr,if_neg (by omega),if_neg (by rw[hm];decide),if_neg (by rw[h0];decide)]
theorem VG(a b:Int):bJ a b=if b>a then b else a:=rfl
def K44:List (Nat×Spec):=[(159,HF),(103,wt)]
attribute [go_sem] K44
end
noncomputable section
def ub(x:RV)(s:Nat):List Rg:=(List.range s).map (yH x)
theorem acf(x:RV)(s:Nat):(ub x s).length=s:=by simp[ub]
def qp(x:RV)(is:List Int):Nat->List Rg×Bool
 | 0=>(ub x x.l.ts.length,true)
 |s+1=>((kf x (qp x is s).1 (gE x.l (is.getD s 0).toNat)).1,(qp x is s).2&&(kf x (qp x is s).1 (gE x.l (is.getD s 0).toNat)).2)
def K45:List (Nat×Spec):=[]
attribute [go_sem] K45
end
noncomputable section
def aV(l:Led)(k:Int):RV:=⟨l,k,bm l k l.ts.length,[]⟩
def K46:List (Nat×Spec):=[(71,Cg)]
theorem adX:KS K46:=tc CS.sound<|tn
attribute [go_sem] K46
@[go_sem] def P73:PSpec:=p2 iL iI (fun l _=>bA l) (fun l k=>GH (aV l k)) false
@[go_sem] def wq:Spec:=P73.toSpec
set_option maxHeartbeats 8000000 in
theorem IZ:aU Tryz.prog 73 P73:=by
 refine eZ (rs:=[.cell 4 108]) Tryz.func73 Tryz.ntmps73 fun l k hp hw=>?_
 have hP:=eK
 simp only[iI,iL,ft]at hw |-
 have hΓ:=adX
 repeat refine sq ?_
 refine rx hΓ [1,2,4] [[2,0],[4,0],[10,0]] (fun K' hK=>by simp only[go_sem];exact ak) ?_
 repeat refine sq ?_
 refine dx hΓ hP [[],[],[],[],[2,3],u5,u6] [4] [[4,0],[10,0]] (by kernel_rfl) (fun K' hK=>by simp only[go_sem];exact fF) ?_
 refine bD (mo [4,0] [10,0] 6 2 _ rfl rfl rfl [4] [[4,0],[10,0]] ?_ rfl) ?_
 ·simp only[go_sem,List.set_cons_succ,List.set_cons_zero]
 simp only[go_sem,List.set_cons_succ,List.set_cons_zero]
 refine bD (pt [4,0] [10,0] 6 _ _ _ _ rfl rfl rfl (by first | rfl | (simp only[List.length_map];done)) [4] [[4,0]] ?_ rfl) ?_
 ·simp only[go_sem,List.set_cons_succ,List.set_cons_zero]
 simp only[go_sem,List.set_cons_succ,List.set_cons_zero]
 refine aA ?_
 simp only[go_sem]
 first | rfl | trace_state
end
noncomputable section
def v5(x:RV)(a b:Nat)(f:Int):Bool:=(dR x.k ⟨(ao x.l a).pa,f⟩ (ao x.l a)&&dR x.k ⟨(ao x.l a).pa,f⟩ (ao x.l b))&&
 (((ao x.l a).da==(ao x.l b).da||decide (dq x a f<0))||decide (mY (aG x.l (dq x a f).toNat) (ao x.l a)>(ao x.l b).da))
def lr(x:RV)(a b:Nat):Bool:=(ao x.l a).lv.any (v5 x a b)
def iY(x:RV)(a b:Nat):Bool:=if (ao x.l a).da>(ao x.l b).da then lr x b a else lr x a b
def K47:List (Nat×Spec):=[(188,HD),(103,wt),(158,HG)]
attribute [go_sem] K47
def Rf:PSpec:=p3 oS iI iI (fun x a b=>HK x/\(0<=a/\a<x.l.rs.length/\0<=b/\b<x.l.rs.length)/\¬ (ao x.l a.toNat).da>(ao x.l b.toNat).da) (fun x a b=>.bool (lr x a.toNat b.toNat)) true
end
noncomputable section
def adj:Spec:=Rf.toSpec
attribute [go_sem] Rf adj
def K48:List (Nat×Spec):=[]
attribute [go_sem] K48
theorem aU.or{P:Program}{f:FuncId}{s s1 s2:PSpec}(h1:aU P f s1)(h2:aU P f s2)(hs:s.flat=true->s1.flat=true/\s2.flat=true)
 (hc:∀ xs,s.pre xs->(s1.pre xs/\s1.fn xs=s.fn xs)\/(s2.pre xs/\s2.fn xs=s.fn xs)):aU P f s where
 ne:=h1.ne
 enter:=h1.enter
 flat:=fun hf xs hp=>by
  rcases hc xs hp with⟨a,e⟩ | ⟨a,e⟩
  ·rw[<-e];exact h1.flat (hs hf).1 xs a
  ·rw[<-e];exact h2.flat (hs hf).2 xs a
 calls:=fun m w xs args ha hr hp=>by
  rcases hc xs hp with⟨a,e⟩ | ⟨a,e⟩
  ·rw[<-e];exact h1.calls m w xs args ha hr a
  ·rw[<-e];exact h2.calls m w xs args ha hr a
end
noncomputable section
def K49:List (Nat×Spec):=[(159,HF),(103,wt)]
attribute [go_sem] K49
end
noncomputable section
def v7(x:RV)(i:Nat):Option (Int×Int):=((List.range x.l.rs.length).find? fun j=>decide (i<j)&&iY x i j).map fun j=>((ao x.l i).so,(ao x.l j).so)
def fV(x:RV):Option (Int×Int):=(List.range x.l.rs.length).findSome? (v7 x)
theorem PA{x:RV}{i:Nat}(h:∀ j,i<j->j<x.l.rs.length->iY x i j=false):v7 x i=none:=by
 unfold v7
 rw[List.find?_eq_none.2]
 ·rfl
 ·intro j hj
  have fS:j<x.l.rs.length:=by simpa using hj
  by_cases bF:i<j
  ·rw[h j bF fS];simp
  ·simp[bF]
theorem abv{x:RV}{i j:Nat}(bF:i<j)(hj:j<x.l.rs.length)(h:iY x i j=true)(hn:∀ m,i<m->m<j->iY x i m=false):v7 x i=some ((ao x.l i).so,(ao x.l j).so):=by
 unfold v7
 rw[(List.find?_eq_some_iff_getElem (b:=j)).2 ⟨by simp[bF,h],j,by simpa using hj,by simp,fun m hm=>by
  rw[List.getElem_range]
  by_cases NT:i<m
  ·simp[hn m NT hm]
  ·simp[NT]⟩]
 rfl
theorem abt{x:RV}{i j:Nat}(hi:i<x.l.rs.length)(bF:i<j)(hj:j<x.l.rs.length)(h:iY x i j=true)(hn:∀ m,i<m->m<j->iY x i m=false)
 (hb:∀ a,a<i->∀ m,a<m->m<x.l.rs.length->iY x a m=false):fV x=some ((ao x.l i).so,(ao x.l j).so):=by
 unfold fV
 rw[List.findSome?_eq_some_iff]
 refine⟨List.range i,i,(List.range' (i+1) (x.l.rs.length-(i+1))),?_,abv bF hj h hn,fun a ha=>PA fun m h1 h2=>hb a (by simpa using ha) m h1 h2⟩
 rw[List.range_eq_range',List.range_eq_range',<-List.range'_succ]
 have h1:=List.range'_append_1 (s:=0) (m:=i) (n:=x.l.rs.length-(i+1)+1)
 rw[Nat.zero_add]at h1
 rw[h1]
 congr 1
 omega
theorem Pz{x:RV}(hb:∀ a,a<x.l.rs.length->∀ m,a<m->m<x.l.rs.length->iY x a m=false):fV x=none:=by
 unfold fV
 rw[List.findSome?_eq_none_iff]
 exact fun a ha=>PA fun m h1 h2=>hb a (by simpa using ha) m h1 h2
def K50:List (Nat×Spec):=[]
attribute [go_sem] K50
end
noncomputable section
theorem wF(l:Led)(k:Int){s i:Nat}(h:(bm l k s).getD i false=true):i<s/\gD l k (bm l k i) i=true:=by
 induction s with
 |zero=>rw[zp l k (Nat.zero_le i)]at h;cases h
 |succ s ih=>
  by_cases hi:i<s
  ·have e:(bm l k (s+1)).getD i false=(bm l k s).getD i false:=by
     rw[bm]
     split
     ·rw[List.getD_eq_getElem?_getD,List.getElem?_set_ne (by omega),<-List.getD_eq_getElem?_getD]
     ·rfl
   rw[e]at h
   exact⟨by omega,(ih h).2⟩
  ·by_cases hs:i=s
   ·subst hs
    refine⟨by omega,?_⟩
    cases hb:gD l k (bm l k i) i with
    |true=>rfl
    |false=>rw[zo l k hb,zp l k (Nat.le_refl i)]at h;cases h
   ·rw[zp l k (by omega)]at h;cases h
theorem Is{l:Led}{k:Int}{row:List Bool}{i:Nat}(h:gD l k row i=true):¬ cg l (aG l i).re k<0:=by
 unfold gD at h
 split at h
 ·cases h
 ·assumption
theorem C0{l:Led}(h:bA l)(k:Int):HK (aV l k):=⟨h,lB _ _ _,fun _ hi=>Is (wF l k hi).2⟩
def wN(l:Led)(k:Int):List Int:=wM (aV l k) l.ss.length
def rN(l:Led)(k:Int):List Rg×Bool:=qp (aV l k) (wN l k) (wN l k).length
def sj(l:Led)(k:Int):Int:=if (fV (aV l k)).isSome=true then 25 else if (rN l k).2=true then 0 else 27
def IF(l:Led)(k:Int):RV:=if sj l k=0 then { aV l k with ds:=(rN l k).1 }else aV l k
def K51:List (Nat×Spec):=[(73,wq)]
attribute [go_sem] K51
end
noncomputable section
structure Ask where
 (da kn pa le pe so:Int)
 deriving Inhabited
def Pe(x:Ask):V:=.agg [vInt x.da,vInt x.kn,vInt x.pa,vInt x.le,vInt x.pe,vInt x.so]
def Pw:V->Ask
 | .agg [.int _ a,.int _ b,.int _ c,.int _ d,.int _ e,.int _ f]=>⟨a,b,c,d,e,f⟩
 |_=>default
def Yv:En Ask:=⟨Pe,Pw⟩
attribute [go_sem] Pe Pw Yv
@[go_sem] theorem aii(x:Ask):(⟨x.da,x.kn,x.pa,x.le,x.pe,x.so⟩:Ask)=x:=rfl
def K52:List (Nat×Spec):=[]
attribute [go_sem] K52
end
noncomputable section
def K62:List (Nat×Spec):=[]
attribute [go_sem] K62
def adS:List (Nat×Spec):=[]
attribute [go_sem] adS
def iM(x:RV)(f:Fol)(az:List Int)(day:Int):Int:=
 if dZ x f day<0 then 0 else
 if(decide (dq x (dZ x f day).toNat f.le>=0)&&decide (az.getD (dq x (dZ x f day).toNat f.le).toNat 0<=day))=true then 0 else(ao x.l (dZ x f day).toNat).bo
def K62c:List (Nat×Spec):=[(159,HF),(103,wt)]
theorem adR:KS K62c:=tc Tz.sound<|tc I6.sound<|tn
attribute [go_sem] K62c
@[go_sem] def P74:PSpec:=p4 oS iQ dL iI (fun x _ az _=>HK x/\az.length=x.ts.length) (fun x f az day=>vInt (iM x f az day)) true
@[go_sem] def HC:Spec:=P74.toSpec
set_option maxHeartbeats 8000000 in
theorem IY:aU Tryz.prog 74 P74:=by
 refine pv (rs:=[.tmp 8]) Tryz.func74 Tryz.ntmps74 fun x f az day hp hw=>?_
 simp only[iQ,iI,dL,oS,gA]at hw |-
 have hΓ:=adR
 obtain⟨⟨aa,xJ,-⟩,rG⟩:=hp
 repeat refine sq ?_
 refine rx hΓ [2,3,4,5] [[4,0],[5,0]] (fun K' hK=>by simp only[go_sem];exact ak) ?_
 rcases Ww x f day with jn | ⟨q,hq,jn⟩
 ·repeat refine sq ?_
  refine rx hΓ [2,3,4,5,9] [[4,0],[5,0]] (fun K' hK=>by simp only[go_sem,jn,mW];(repeat (refine⟨by first | exact an | exact aa,?_⟩));exact fD) ?_
  repeat refine sq ?_
  refine rx hΓ [2,3,4,5,9,16] [[4,0],[5,0]] (fun K' hK=>by simp only[go_sem,jn,mW];exact ak) ?_
  repeat refine sq ?_
  refine ay (fun hb=>?_) fun hb=>?_
  ·repeat refine sq ?_
   have e:iM x f az day=0:=by unfold iM;rw[jn];rfl
   repeat refine sq ?_
   refine rx hΓ [8] [] (fun K' hK=>by simp only[go_sem,jn,mW];exact ak) ?_
   refine aA ?_
   simp only[go_sem]
   rw[e]
  ·cases hb
 ·have bL:(q:Int)<x.l.rs.length:=by omega
  have GD:=cm hq
  repeat refine sq ?_
  refine rx hΓ [2,3,4,5,9] [[4,0],[5,0]] (fun K' hK=>by simp only[go_sem,jn,mW];(repeat (refine⟨by first | exact an | exact aa,?_⟩));exact fD) ?_
  repeat refine sq ?_
  refine rx hΓ [2,3,4,5,9,16] [[4,0],[5,0]] (fun K' hK=>by simp only[go_sem,jn,mW];exact ak) ?_
  repeat refine sq ?_
  refine ay (fun hb=>?_) fun hb=>?_
  ·cases hb
  ·repeat refine sq ?_
   refine aE ?_
   rcases Ua x q f.le with er | ⟨j,hj,er⟩
   ·have la:decide ((-1:Int)>=0)=false:=rfl
    have fS:=la
    have mO:=la
    repeat refine sq ?_
    refine rx hΓ [2,3,4,9,10] [[4,0]] (fun K' hK=>by simp only[go_sem,jn,mW,er,ah hq,bL,ai,aj,List.length_map,ah hq,bL,ai,aj,List.length_map];(repeat (refine⟨by first | exact an | exact⟨⟨aa,xJ⟩,bL⟩,?_⟩));exact fD) ?_
    repeat refine sq ?_
    refine rx hΓ [4,9,32] [[4,0]] (fun K' hK=>by simp only[go_sem,jn,mW,er,ah hq,bL,ai,aj,List.length_map,mO,la,fS,ai,aj,List.length_map,decide_true,Bool.true_and,Bool.decide_and,Bool.decide_eq_true,true_and];exact ak) ?_
    repeat refine sq ?_
    refine ay (fun hb=>?_) fun hb=>?_
    ·cases hb
    ·repeat refine sq ?_
     have e:iM x f az day=x.l.rs[q].bo:=by unfold iM;rw[jn,if_neg (by omega),ai,er,GD];rfl
     refine aE ?_
     repeat refine sq ?_
     refine rx hΓ [8] [] (fun K' hK=>by simp only[go_sem,jn,mW,er,ah hq,bL,ai,aj,List.length_map];exact ak) ?_
     refine aA ?_
     simp only[go_sem]
     rw[e]
   ·have FA:j<az.length:=by omega
    have fS:(j:Int)<az.length:=by omega
    have la:(az.map vInt).getD j default=vInt az[j]:=ah FA
    have mO:(if (0:Int)>(j:Int)then(0:Int)else(j:Int))=j:=if_neg (by omega)
    have NN:decide ((j:Int)>=0)=true:=by simp
    repeat refine sq ?_
    refine rx hΓ [2,3,4,9,10] [[4,0]] (fun K' hK=>by simp only[go_sem,jn,mW,er,ah hq,bL,ai,aj,List.length_map,ah hq,bL,ai,aj,List.length_map];(repeat (refine⟨by first | exact an | exact⟨⟨aa,xJ⟩,bL⟩,?_⟩));exact fD) ?_
    repeat refine sq ?_
    refine rx hΓ [4,9,32] [[4,0]] (fun K' hK=>by simp only[go_sem,jn,mW,er,ah hq,bL,ai,aj,List.length_map,mO,la,fS,ai,aj,List.length_map,decide_true,Bool.true_and,Bool.decide_and,Bool.decide_eq_true,true_and];exact ak) ?_
    repeat refine sq ?_
    refine ay (fun hb=>?_) fun hb=>?_
    ·repeat refine sq ?_
     have e:iM x f az day=0:=by unfold iM;rw[jn,if_neg (by omega),ai,er,GD,ai,cj FA,NN,Bool.true_and,if_pos (by simpa using hb)]
     repeat refine sq ?_
     refine rx hΓ [8] [] (fun K' hK=>by simp only[go_sem,jn,mW,er,ah hq,bL,ai,aj,List.length_map];exact ak) ?_
     refine aA ?_
     simp only[go_sem]
     rw[e]
    ·repeat refine sq ?_
     have e:iM x f az day=x.l.rs[q].bo:=by unfold iM;rw[jn,if_neg (by omega),ai,er,GD,ai,cj FA,NN,Bool.true_and,if_neg (by simpa using hb)]
     refine aE ?_
     repeat refine sq ?_
     refine rx hΓ [8] [] (fun K' hK=>by simp only[go_sem,jn,mW,er,ah hq,bL,ai,aj,List.length_map];exact ak) ?_
     refine aA ?_
     simp only[go_sem]
     rw[e]
end
noncomputable section
def K64:List (Nat×Spec):=[]
attribute [go_sem] K64
end
theorem r8{α:Type}{fI:α->Bool}{num:α->Int}{l:List α}:jx fI num l=true↔(∀ x∈l,fI x=true)/\l.Pairwise (fun a b=>num a<num b):=by
 rw[kH]
 constructor
 ·intro h
  refine⟨fun x hx=>?_,?_⟩
  ·obtain⟨j,hj,rfl⟩:=List.getElem_of_mem hx
   exact(h j hj hj).1
  ·rw[List.pairwise_iff_getElem]
   exact fun i j hi hj bF=>w9 h i j hi hj bF
 ·rintro⟨h1,h2⟩ j hj _
  refine⟨h1 _ (List.getElem_mem hj),fun h0=>?_⟩
  rw[List.pairwise_iff_getElem]at h2
  exact h2 (j-1) j (by omega) hj (by omega)
structure R5 where
 (a b c d e:Int)
 deriving Inhabited
structure R7 where
 (a b c d e f g:Int)
 deriving Inhabited
structure Raw where
 rs:List R5
 ts:List R7
 ss:List R5
 deriving Inhabited
def mps:List Pap:=[⟨1,4⟩,⟨2,3⟩,⟨5,2⟩]
def bE(n:Int):Pap:=mps.getD (aM n 3).toNat default
def r5(l:List R5)(i:Nat):R5:=l.getD i default
def r7(l:List R7)(i:Nat):R7:=l.getD i default
def ef(r:Raw):Nat->Int
 | 0=>0
 |i+1=>ef r i+aM (r5 r.rs i).d 20
def gr(r:Raw)(i:Nat):Rec:=⟨3*i+1,1+aM (r5 r.rs i).a 4,(bE (r5 r.rs i).b).id,jv (r5 r.rs i).c (bE (r5 r.rs i).b).lv,ef r (i+1),ef r (i+1)+aM (r5 r.rs i).e 5,0⟩
def e8(r:Raw)(m:Nat):List Rec:=(List.range m).map (gr r)
def nR(r:Raw):Nat:=min r.rs.length 8
def xT(r:Raw)(j:Nat):Rec:=(e8 r (nR r)).getD (aM (r7 r.ts j).a (nR r)).toNat zeroR
def du(r:Raw)(j:Nat):Int:=(xT r j).da+aM (r7 r.ts j).c 30
def tM(r:Raw)(j:Nat):Ret:=⟨3*j+2,(xT r j).so,1+aM (r7 r.ts j).g 4,jv (r7 r.ts j).b (cM mps (xT r j).pa),bJ 0 (du r j-aM (r7 r.ts j).d 12),du r j+aM (r7 r.ts j).e 12,du r j+aM (r7 r.ts j).e 12+aM (r7 r.ts j).f 9,0⟩
def nT(r:Raw):Nat:=if nR r=0 then 0 else min r.ts.length 8
def jB(r:Raw)(m:Nat):List Ret:=(List.range m).map (tM r)
def gl(r:Raw)(m:Nat):List Int:=(List.range m).map (du r)
def fN(r:Raw)(ss:List Sig):Led:=⟨mps,e8 r (nR r),jB r (nT r),ss⟩
def lE(r:Raw)(j:Nat):Int:=aM (r5 r.ss j).d (ef r (nR r)+20)
def oL(r:Raw)(j:Nat):Int:=1+aM (r5 r.ss j).c (bE (r5 r.ss j).b).lv
def oK(r:Raw)(j:Nat)(ss:List Sig):Int:=if (aM (r5 r.ss j).e 4 != 3)=true then iM (aV (fN r ss) 900) ⟨(bE (r5 r.ss j).b).id,oL r j⟩ (gl r (nT r)) (lE r j)else aM (r5 r.ss j).a 5
def uP(r:Raw)(j:Nat)(ss:List Sig):Sig:=⟨3*j+3,oK r j ss,(bE (r5 r.ss j).b).id,oL r j,lE r j,lE r j+aM (r5 r.ss j).e 30,0⟩
def dC(r:Raw):Nat->List Sig
 | 0=>[]
 |j+1=>dC r j++[uP r j (dC r j)]
def nS(r:Raw):Nat:=min r.ss.length 6
def lN(r:Raw):Led:=fN r (dC r (nS r))
theorem pJ(n:Int):bE n∈mps:=by
 have h:=de (n:=n) (m:=3) (by decide)
 unfold bE
 have hl:(aM n 3).toNat<mps.length:=by show _<3;omega
 rw[cj hl]
 exact List.getElem_mem hl
theorem qU{p:Pap}(h:p∈mps):cM mps p.id=p.lv/\2<=p.lv/\p.lv<=4/\1<=p.id/\p.id<=5:=by
 unfold mps at h
 simp only[List.mem_cons,List.not_mem_nil,or_false]at h
 rcases h with rfl | rfl | rfl<;>decide
theorem BN(n:Int):∀ m,∀ x∈fW n m,1<=x/\x<=m
 | 0,x,h=>nomatch h
 |m+1,x,h=>by
  rw[fW]at h
  split at h
  ·rcases List.mem_append.1 h with h | h
   ·have:=BN n m x h;omega
   ·simp only[List.mem_singleton]at h;omega
  ·have:=BN n m x h;omega
theorem He(n:Int):∀ m,(fW n m).Pairwise (· < ·)
 | 0=>List.Pairwise.nil
 |m+1=>by
  rw[fW]
  split
  ·rw[List.pairwise_append]
   refine⟨He n m,List.pairwise_singleton _ _,fun a ha b hb=>?_⟩
   have :=BN n m a ha
   simp only[List.mem_singleton]at hb
   omega
  ·exact He n m
theorem KW{l:List Int}{m:Int}(h0:l≠[])(hp:l.Pairwise (· < ·))(hm:∀ x∈l,1<=x/\x<=m)(OB:m<=30):lP l=true:=by
 have cT:0<l.length:=List.length_pos_iff.2 h0
 have ab:l.length-1<l.length:=by omega
 have h1:=hm _ (List.getElem_mem cT)
 have h2:=hm _ (List.getElem_mem ab)
 unfold lP bO
 rw[cj cT,cj ab]
 simp only[Bool.and_eq_true,decide_eq_true_eq]
 refine⟨⟨⟨cT,?_⟩,by omega⟩,by omega⟩
 rw[zD]
 intro j hj cf
 rw[List.pairwise_iff_getElem]at hp
 exact hp (j-1) j (by omega) hj (by omega)
theorem P5(n:Int){m:Int}(h1:1<=m)(h2:m<=30):lP (jv n m)=true/\∀ x∈jv n m,1<=x/\x<=m:=by
 unfold jv
 split
 ·refine⟨KW (m:=1) (by simp) (List.pairwise_singleton _ _) (fun x hx=>?_) (by decide),fun x hx=>?_⟩
  ·simp only[List.mem_singleton]at hx;omega
  ·simp only[List.mem_singleton]at hx;omega
 ·rename_i h0
  have hm:∀ x∈fW n m.toNat,1<=x/\x<=m:=fun x hx=>by have:=BN n _ x hx;omega
  exact⟨KW h0 (He n _) hm h2,hm⟩
theorem yw(r:Raw):∀ i,0<=ef r i/\ef r i<=20*i
 | 0=>by exact⟨Int.le_refl _,Int.le_refl _⟩
 |i+1=>by
  have :=yw r i
  have h:=de (n:=(r5 r.rs i).d) (m:=20) (by decide)
  rw[ef]
  omega
theorem fy{n lo hi:Int}(h1:lo<=n)(h2:n<=hi):bO n lo hi=true:=by
 unfold bO
 rw[decide_eq_true h1,decide_eq_true h2];rfl
theorem zn{k:Int}(h1:0<=k)(h2:k<=100000):lA k 0=true:=by
 unfold lA dayB
 rw[fy h1 h2];rfl
theorem sx(r:Raw){i:Nat}(hi:i<8):eh (gr r i)=true/\pQ (gr r i).lv<=cM mps (gr r i).pa/\(gr r i).da<=160/\(gr r i).bo<=4/\1<=(gr r i).bo/\0<=(gr r i).da/\2<=cM mps (gr r i).pa/\cM mps (gr r i).pa<=4:=by
 obtain⟨e,l1,l2,p1,p2⟩:=qU (pJ (r5 r.rs i).b)
 obtain⟨b1,b2⟩:=P5 (r5 r.rs i).c (m:=(bE (r5 r.rs i).b).lv) (by omega) (by omega)
 have h4:=de (n:=(r5 r.rs i).a) (m:=4) (by decide)
 have h5:=de (n:=(r5 r.rs i).e) (m:=5) (by decide)
 have hd:=yw r (i+1)
 have Zw:pQ (gr r i).lv<=(bE (r5 r.rs i).b).lv:=by
  show pQ (jv _ _)<=_
  unfold pQ
  have hb:=b1
  unfold lP at hb
  simp only[Bool.and_eq_true,decide_eq_true_eq]at hb
  have ab:(jv (r5 r.rs i).c (bE (r5 r.rs i).b).lv).length-1<(jv (r5 r.rs i).c (bE (r5 r.rs i).b).lv).length:=by omega
  rw[cj ab]
  exact(b2 _ (List.getElem_mem ab)).2
 refine⟨?_,by show _<=cM mps (bE _).id;rw[e];exact Zw,?_,?_,?_,hd.1,by show _<=cM mps (bE _).id;omega,by show cM mps (bE _).id<=_;omega⟩
 ·have ht:lA (ef r (i+1)+aM (r5 r.rs i).e 5) 0=true:=zn (by omega) (by omega)
  have hb:eh (gr r i)=(bO (3*(i:Int)+1) 1 99999&&bO (1+aM (r5 r.rs i).a 4) 1 99&&bO (bE (r5 r.rs i).b).id 1 999&&lP (jv (r5 r.rs i).c (bE (r5 r.rs i).b).lv)&&dayB (ef r (i+1))&&lA (ef r (i+1)+aM (r5 r.rs i).e 5) 0):=rfl
  rw[hb,ht,b1,fy (by omega) (by omega),fy (by omega) (by omega),fy (by omega) (by omega)]
  unfold dayB
  rw[fy (by omega) (by omega)]
  rfl
 ·show ef r (i+1)<=160;omega
 ·show 1+aM _ 4<=4;omega
 ·show 1<=1+aM _ 4;omega
theorem jg(r:Raw)(m:Nat):(e8 r m).length=m:=by unfold e8;simp
theorem C5{r:Raw}{m i:Nat}(h:i<(e8 r m).length):(e8 r m)[i]=gr r i:=by
 have e:(e8 r m)[i]=gr r ((List.range m)[i]'(by simpa[e8]using h)):=List.getElem_map (gr r) (h:=h)
 rw[e,List.getElem_range]
theorem pI(r:Raw):nR r<=8:=Nat.min_le_right _ _
theorem HX{r:Raw}(h:nR r≠0)(j:Nat):∃ i,i<nR r/\xT r j=gr r i:=by
 have hm:=de (n:=(r7 r.ts j).a) (m:=(nR r:Int)) (by omega)
 refine⟨(aM (r7 r.ts j).a (nR r)).toNat,by omega,?_⟩
 unfold xT
 rw[cj (by rw[jg];omega),C5]
theorem zt{r:Raw}(h:nR r≠0){j:Nat}(hj:j<8):j9 (tM r j)=true/\0<=du r j/\du r j<=200:=by
 obtain⟨i,hi,e⟩:=HX h j
 have h8:=pI r
 obtain⟨c1,-,c3,-,-,c6,c7,c8⟩:=sx r (show i<8 by omega)
 have nZ:(xT r j).so=3*(i:Int)+1:=by rw[e];rfl
 have DW:=de (n:=(r7 r.ts j).c) (m:=30) (by decide)
 have m4:=de (n:=(r7 r.ts j).g) (m:=4) (by decide)
 have KD:=de (n:=(r7 r.ts j).d) (m:=12) (by decide)
 have KC:=de (n:=(r7 r.ts j).e) (m:=12) (by decide)
 have m9:=de (n:=(r7 r.ts j).f) (m:=9) (by decide)
 have av:du r j=(gr r i).da+aM (r7 r.ts j).c 30:=by unfold du;rw[e]
 obtain⟨b1,-⟩:=P5 (r7 r.ts j).b (m:=cM mps (xT r j).pa) (by rw[e];omega) (by rw[e];omega)
 have fB:0<=bJ 0 (du r j-aM (r7 r.ts j).d 12)/\bJ 0 (du r j-aM (r7 r.ts j).d 12)<=du r j:=by unfold bJ;split<;>omega
 refine⟨?_,by omega,by omega⟩
 have hb:j9 (tM r j)=(bO (3*(j:Int)+2) 1 99999&&bO (xT r j).so 1 99999&&bO (1+aM (r7 r.ts j).g 4) 1 99&&lP (jv (r7 r.ts j).b (cM mps (xT r j).pa))&&bO (bJ 0 (du r j-aM (r7 r.ts j).d 12)) 0 (du r j+aM (r7 r.ts j).e 12)&&dayB (du r j+aM (r7 r.ts j).e 12)&&lA (du r j+aM (r7 r.ts j).e 12+aM (r7 r.ts j).f 9) 0):=rfl
 rw[hb,b1,zn (by omega) (by omega),fy (by omega) (by omega),fy (by omega) (by omega),fy (by omega) (by omega),fy (by omega) (by omega)]
 unfold dayB
 rw[fy (by omega) (by omega)]
 rfl
theorem vj(r:Raw):nT r<=8:=by unfold nT;split<;>omega
theorem z'{r:Raw}{j:Nat}(h:j<nT r):nR r≠0:=by
 intro h0
 unfold nT at h
 rw[if_pos h0]at h
 omega
theorem RD{r:Raw}{ss:List Sig}(f:Fol)(az:List Int)(day:Int):0<=iM (aV (fN r ss) 900) f az day/\iM (aV (fN r ss) 900) f az day<=4:=by
 have F0:∀ q:Nat,0<=(ao (fN r ss) q).bo/\(ao (fN r ss) q).bo<=4:=fun q=>by
  by_cases hq:q<(fN r ss).rs.length
  ·rw[cm hq]
   have e:(fN r ss).rs[q]=gr r q:=C5 hq
   have hl:(fN r ss).rs.length=nR r:=jg _ _
   have h8:=pI r
   rw[e]
   obtain⟨-,-,-,c4,c5,-⟩:=sx r (show q<8 by omega)
   omega
  ·have:ao (fN r ss) q=zeroR:=by
     unfold ao
     rw[List.getD_eq_getElem?_getD,List.getElem?_eq_none (by omega)];rfl
   rw[this]
   decide
 unfold iM
 split
 ·decide
 ·split
  ·decide
  ·exact F0 _
theorem Sn(r:Raw){j:Nat}(hj:j<6)(ss:List Sig):kN (uP r j ss)=true/\(uP r j ss).le<=cM mps (uP r j ss).pa:=by
 obtain⟨e,l1,l2,p1,p2⟩:=qU (pJ (r5 r.ss j).b)
 have ml:=de (n:=(r5 r.ss j).c) (m:=(bE (r5 r.ss j).b).lv) (by omega)
 have hd:=yw r (nR r)
 have h8:=pI r
 have md:=de (n:=(r5 r.ss j).d) (m:=ef r (nR r)+20) (by omega)
 have DW:=de (n:=(r5 r.ss j).e) (m:=30) (by decide)
 have m5:=de (n:=(r5 r.ss j).a) (m:=5) (by decide)
 have eV:0<=oK r j ss/\oK r j ss<=4:=by
  unfold oK
  split
  ·exact RD _ _ _
  ·omega
 have iU:oL r j=1+aM (r5 r.ss j).c (bE (r5 r.ss j).b).lv:=rfl
 have AF:lE r j=aM (r5 r.ss j).d (ef r (nR r)+20):=rfl
 refine⟨?_,?_⟩
 ·have hb:kN (uP r j ss)=(bO (3*(j:Int)+3) 1 99999&&bO (oK r j ss) 0 99&&bO (bE (r5 r.ss j).b).id 1 999&&bO (oL r j) 1 30&&dayB (lE r j)&&lA (lE r j+aM (r5 r.ss j).e 30) 0):=rfl
  rw[hb,zn (by omega) (by omega),fy (by omega) (by omega),fy (by omega) (by omega),fy (by omega) (by omega),fy (by omega) (by omega)]
  unfold dayB
  rw[fy (by omega) (by omega)]
  rfl
 ·show oL r j<=cM mps (bE (r5 r.ss j).b).id
  rw[e];omega
theorem CH(r:Raw):∀ s,(dC r s).length=s
 | 0=>rfl
 |s+1=>by rw[dC,List.length_append,CH];rfl
theorem zw(r:Raw):∀ s,s<=6->(∀ x∈dC r s,(kN x=true/\x.le<=cM mps x.pa)/\∃ j:Nat,j<s/\x.so=3*(j:Int)+3)/\(dC r s).Pairwise (fun a b=>a.so<b.so)
 | 0,_=>⟨fun x h=>(nomatch h),List.Pairwise.nil⟩
 |s+1,hs=>by
  obtain⟨h1,h2⟩:=zw r s (by omega)
  rw[dC]
  refine⟨fun x hx=>?_,?_⟩
  ·rcases List.mem_append.1 hx with hx | hx
   ·obtain⟨a,j,hj,b⟩:=h1 x hx
    exact⟨a,j,by omega,b⟩
   ·simp only[List.mem_singleton]at hx
    subst hx
    exact⟨Sn r (by omega) _,s,by omega,rfl⟩
  ·rw[List.pairwise_append]
   refine⟨h2,List.pairwise_singleton _ _,fun a ha b hb=>?_⟩
   obtain⟨-,j,hj,e⟩:=h1 a ha
   simp only[List.mem_singleton]at hb
   subst hb
   show a.so<3*(s:Int)+3
   omega
theorem KA(r:Raw){s:Nat}(hs:s<=6):bA (fN r (dC r s)) where
 ps:=by
  rw[r8]
  show (∀ x∈mps,mD x=true)/\mps.Pairwise (fun a b=>a.id<b.id)
  exact⟨by decide,by decide⟩
 psn:=by show 3<=12;decide
 rs:=by
  have h8:=pI r
  rw[r8]
  refine⟨fun x hx=>?_,?_⟩
  ·obtain⟨i,hi,rfl⟩:=List.mem_map.1 hx
   have bK:i<nR r:=List.mem_range.1 hi
   exact(sx r (by omega)).1
  ·show (e8 r (nR r)).Pairwise _
   unfold e8
   rw[List.pairwise_map]
   refine List.pairwise_lt_range.imp fun {a b} qg=>?_
   show 3*(a:Int)+1<3*(b:Int)+1
   omega
 rsn:=by have:=pI r;show (e8 r (nR r)).length<=60;rw[jg];omega
 ts:=by
  have h8:=vj r
  rw[r8]
  refine⟨fun x hx=>?_,?_⟩
  ·obtain⟨i,hi,rfl⟩:=List.mem_map.1 hx
   have bK:i<nT r:=List.mem_range.1 hi
   exact(zt (z' bK) (by omega)).1
  ·show (jB r (nT r)).Pairwise _
   unfold jB
   rw[List.pairwise_map]
   refine List.pairwise_lt_range.imp fun {a b} qg=>?_
   show 3*(a:Int)+2<3*(b:Int)+2
   omega
 tsn:=by have:=vj r;show ((List.range (nT r)).map _).length<=60;rw[List.length_map,List.length_range];omega
 ss:=by
  obtain⟨h1,h2⟩:=zw r s hs
  rw[r8]
  exact⟨fun x hx=>(h1 x hx).1.1,h2⟩
 ssn:=by show (dC r s).length<=60;rw[CH];omega
 rl:=fun j hj=>by
  have e:(fN r (dC r s)).rs[j]=gr r j:=C5 hj
  have hl:(fN r (dC r s)).rs.length=nR r:=jg _ _
  have h8:=pI r
  rw[e]
  exact(sx r (by omega)).2.1
 sl:=fun j hj=>by
  obtain⟨h1,-⟩:=zw r s hs
  exact(h1 _ (List.getElem_mem hj)).1.2
 nd:=by
  obtain⟨h1,h2⟩:=zw r s hs
  unfold uI
  rw[List.nodup_append,List.nodup_append]
  have m1:∀ x∈(fN r (dC r s)).rs.map Rec.so,∃ i:Nat,x=3*(i:Int)+1:=fun x hx=>by
   obtain⟨y,hy,rfl⟩:=List.mem_map.1 hx
   obtain⟨i,-,rfl⟩:=List.mem_map.1 hy
   exact⟨i,rfl⟩
  have m2:∀ x∈(fN r (dC r s)).ts.map Ret.so,∃ i:Nat,x=3*(i:Int)+2:=fun x hx=>by
   obtain⟨y,hy,rfl⟩:=List.mem_map.1 hx
   obtain⟨i,-,rfl⟩:=List.mem_map.1 hy
   exact⟨i,rfl⟩
  have m3:∀ x∈(fN r (dC r s)).ss.map Sig.so,∃ i:Nat,x=3*(i:Int)+3:=fun x hx=>by
   obtain⟨y,hy,rfl⟩:=List.mem_map.1 hx
   obtain⟨-,j,-,e⟩:=h1 y hy
   exact⟨j,e⟩
  have n1:((fN r (dC r s)).rs.map Rec.so).Nodup:=by
   show ((e8 r (nR r)).map Rec.so).Nodup
   unfold e8
   rw[List.map_map,List.nodup_iff_pairwise_ne,List.pairwise_map]
   refine List.pairwise_lt_range.imp fun {a b} qg=>?_
   show 3*(a:Int)+1≠3*(b:Int)+1
   omega
  have n2:((fN r (dC r s)).ts.map Ret.so).Nodup:=by
   show ((jB r (nT r)).map Ret.so).Nodup
   unfold jB
   rw[List.map_map,List.nodup_iff_pairwise_ne,List.pairwise_map]
   refine List.pairwise_lt_range.imp fun {a b} qg=>?_
   show 3*(a:Int)+2≠3*(b:Int)+2
   omega
  have n3:((fN r (dC r s)).ss.map Sig.so).Nodup:=by
   show ((dC r s).map Sig.so).Nodup
   rw[List.nodup_iff_pairwise_ne,List.pairwise_map]
   exact h2.imp fun {a b} qg=>by omega
  refine⟨⟨n1,n2,fun a ha b hb=>?_⟩,n3,fun a ha b hb=>?_⟩
  ·obtain⟨i,rfl⟩:=m1 a ha
   obtain⟨j,rfl⟩:=m2 b hb
   omega
  ·obtain⟨j,rfl⟩:=m3 b hb
   rcases List.mem_append.1 ha with ha | ha
   ·obtain⟨i,rfl⟩:=m1 a ha;omega
   ·obtain⟨i,rfl⟩:=m2 a ha;omega
def M1:V->Bool
 | .int _ _=>true
 |_=>false
def Aq(l:List V):Bool:=l.all fun x=>x.cells.all M1
def nK(obj:Name->Option O):D->V
 | .v x=>x
 | .msl nm _=>match obj nm with
   |some (.arr _ l)=>.sl l
   |_=>default
 |_=>default
def nQ(obj:Name->Option O):D->Bool
 | .v _=>true
 | .msl nm k=>match obj nm with
   |some (.arr _ l)=>decide (k=l.length)&&Aq l
   |_=>false
 |_=>false
def z7:D->List Name
 | .msl nm _=>[nm]
 |_=>[]
def jE(obj:Name->Option O):D->V
 | .agg l=>.agg (l.map (nK obj))
 |d=>nK obj d
def pE(obj:Name->Option O):D->Bool
 | .agg l=>l.all (nQ obj)
 |d=>nQ obj d
def Kq:D->List Name
 | .agg l=>l.flatMap z7
 |d=>z7 d
def acj:V->Bool
 | .bool _=>true
 |_=>false
def PSpec.toSpecU(s:PSpec):Spec:=
 ⟨fun obj _ ds=>⟨(∀ d∈ds,pE obj d=true)/\s.pre (ds.map (jE obj)),.v (s.fn (ds.map (jE obj))),obj⟩,fun _ _ ds=>ds.flatMap Kq,fun _ _ _=>[]⟩
theorem mA{obj obj2:Name->Option O}{d:D}(h:bU (z7 d) obj obj2):nK obj2 d=nK obj d/\nQ obj2 d=nQ obj d:=by
 cases d<;>try exact⟨rfl,rfl⟩
 rename_i nm k
 have :=h nm (by simp[z7])
 simp only[nK,nQ,this,and_self]
theorem Ur{obj obj2:Name->Option O}{d:D}(h:bU (Kq d) obj obj2):jE obj2 d=jE obj d/\pE obj2 d=pE obj d:=by
 cases d with
 |agg l=>
  have hx:∀ x∈l,nK obj2 x=nK obj x/\nQ obj2 x=nQ obj x:=fun x hx=>mA fun nm hn=>h nm (List.mem_flatMap.2 ⟨x,hx,hn⟩)
  simp only[jE,pE]
  refine⟨congrArg V.agg (List.map_congr_left fun x h=>(hx x h).1),?_⟩
  rw[Bool.eq_iff_iff,List.all_eq_true,List.all_eq_true]
  exact⟨fun k x h=>(hx x h).2▸k x h,fun k x h=>(hx x h).2.symm▸k x h⟩
 |v x=>exact mA (d:=.v x) h
 |nilsl=>exact mA (d:=.nilsl) h
 |nilmap=>exact mA (d:=.nilmap) h
 |ref a b=>exact mA (d:=.ref a b) h
 |msl a b=>exact mA (d:=.msl a b) h
 |aref a b c e=>exact mA (d:=.aref a b c e) h
 |map a=>exact mA (d:=.map a) h
 |yld a=>exact mA (d:=.yld a) h
 |clo a b c=>exact mA (d:=.clo a b c) h
 |tup a=>exact mA (d:=.tup a) h
 |any=>exact mA (d:=.any) h
theorem PSpec.nearU(s:PSpec):s.toSpecU.Near:=by
 refine⟨fun obj obj2 t ds h=>?_,fun obj obj2 t ds h=>rfl,fun obj t ds nm hn=>(nomatch hn),fun obj obj2 t ds h=>rfl⟩
 have hx:∀ x∈ds,jE obj2 x=jE obj x/\pE obj2 x=pE obj x:=fun x hx=>Ur fun nm hn=>h nm (List.mem_flatMap.2 ⟨x,hx,hn⟩)
 have e:ds.map (jE obj2)=ds.map (jE obj):=List.map_congr_left fun x h=>(hx x h).1
 refine b8.same ?_ (by simp only[PSpec.toSpecU,e]) rfl rfl
 simp only[PSpec.toSpecU,e]
 exact congrArg (· /\_) (propext ⟨fun k x h=>(hx x h).2▸k x h,fun k x h=>(hx x h).2.symm▸k x h⟩)
noncomputable def nX(m:Mem)(w:World):Mem:=fun b off=>match m b off with
 |some v=>some v
 |none=>match w.cell? ⟨b,off,none⟩with
  |some (.int k n)=>some (.int k n)
  |_=>none
theorem Ey(m:Mem)(w:World):Mem.le m (nX m w):=fun b off v h=>by simp only[nX,h]
theorem M0{m:Mem}{w:World}{b off:Nat}{v:Value}(h:nX m w b off=some v):m b off=some v\/∃ k n,v=.int k n/\w.cell? ⟨b,off,none⟩=some v:=by
 unfold nX at h
 split at h
 ·rename_i e;cases h;exact .inl e
 ·split at h
  ·rename_i e;cases h;exact .inr ⟨_,_,rfl,e⟩
  ·cases h
theorem Yo{m:Mem}{w:World}(hm:∀ b off v,m b off=some v->w.cell? ⟨b,off,none⟩=some v){b off:Nat}{k:IntKind}{n:Int}(h:w.cell? ⟨b,off,none⟩=some (.int k n)):nX m w b off=some (.int k n):=by
 unfold nX
 cases e:m b off with
 |some v=>have:=hm _ _ _ e;rw[h]at this;simpa using this.symm
 |none=>simp only[h]
theorem lG{G:Ghost}{φ:Name->Loc}{m:Mem}{σ:S}{a:Act}{w:World}(hC:aQ G φ m σ a w){d:D}{u:Value}(hd:aH φ σ.obj m d u)(aa:nQ σ.obj d=true):
 aO (nX m w) (nK σ.obj d) u/\(d.one=true->(nK σ.obj d).one=true):=by
 cases hd with
 |v x u h=>exact⟨h.mono (Ey m w),id⟩
 |msl nm k u hx hu=>
  obtain⟨o,n,aB,hlen,hk,dt⟩:=hx
  cases o with
  |arr sz l=>
   simp only[nQ,aB,Bool.and_eq_true,decide_eq_true_eq]at aa
   simp only[nK,aB]
   refine⟨?_,fun _=>rfl⟩
   simp only[O.len?,Option.some.injEq]at hlen
   subst hlen
   obtain⟨NJ,hint⟩:=aa
   have e:=dt NJ
   subst e
   rcases hC.objs nm _ aB with⟨h,h'⟩ | ⟨h0,h1,h2,h3,h4,us,T,f,h5,h6,h7,h8⟩
   ·subst h'
    simp only[Loc.slice,h,if_true]
    exact .slnil _ _
   ·simp only[Loc.slice,h0,Bool.false_eq_true,if_false]
    rw[NJ]
    by_cases hl:l=[]
    ·subst hl;exact .slnil _ _
    ·have key:∀ i j (hi:i<l.length) (hj:j<(l[i].cells).length),∃ c,nX m w (φ nm).blk ((φ nm).off+i*sz+j)=some c/\us[(φ nm).off+i*sz+j]?=some c/\aO m (l[i].cells)[j] c:=by
       intro i j hi hj
       obtain⟨c,x,y⟩:=h8 i j hi hj
       refine⟨c,?_,x,y⟩
       have hc:M1 (l[i].cells)[j]=true:=by
        unfold Aq at hint
        rw[List.all_eq_true]at hint
        have :=hint _ (List.getElem_mem hi)
        rw[List.all_eq_true]at this
        exact this _ (List.getElem_mem hj)
       have hw:w.cell? ⟨(φ nm).blk,(φ nm).off+i*sz+j,none⟩=some c:=by
        unfold World.cell?
        simp only[h5]
        exact x
       cases hv:(l[i].cells)[j]<;>rw[hv]at hc y<;>first | (cases hc;done) | skip
       cases y
       exact Yo hC.mem hw
     refine .sl l _ _ _ sz (fun i j=>(us[(φ nm).off+i*sz+j]?).getD undef) hl (by omega) h1 h3 (fun i j hi hj=>?_) (fun i j hi hj=>?_) h4
     ·obtain⟨c,x,y,_⟩:=key i j hi (by rw[h3];exact hj)
      rw[x,y];rfl
     ·obtain⟨c,_,y,z⟩:=key i j hi hj
      rw[y];exact z.mono (Ey m w)
  |_=>simp[nQ,aB]at aa
 |_=>cases aa
theorem Uq{G:Ghost}{φ:Name->Loc}{m:Mem}{σ:S}{a:Act}{w:World}(hC:aQ G φ m σ a w){d:D}{u:Value}(hd:aH φ σ.obj m d u)(aa:pE σ.obj d=true):
 aO (nX m w) (jE σ.obj d) u:=by
 cases d with
 |agg l=>
  cases hd with
  |agg _ us h ho hr=>
   simp only[pE,List.all_eq_true]at aa
   simp only[jE]
   refine .agg _ us (by simpa using h) (fun x hx=>?_) fun i hi bK=>?_
   ·obtain⟨d,hd,rfl⟩:=List.mem_map.1 hx
    obtain⟨j,hj,rfl⟩:=List.getElem_of_mem hd
    exact(lG hC (hr j hj (by omega)) (aa _ (List.getElem_mem hj))).2 (ho _ (List.getElem_mem hj))
   ·simp only[List.length_map]at hi
    rw[List.getElem_map]
    exact(lG hC (hr i hi bK) (aa _ (List.getElem_mem hi))).1
 |v x=>exact(lG (d:=.v x) hC hd aa).1
 |nilsl=>exact(lG (d:=.nilsl) hC hd aa).1
 |nilmap=>exact(lG (d:=.nilmap) hC hd aa).1
 |ref a b=>exact(lG (d:=.ref a b) hC hd aa).1
 |msl a b=>exact(lG (d:=.msl a b) hC hd aa).1
 |aref a b c e=>exact(lG (d:=.aref a b c e) hC hd aa).1
 |map a=>exact(lG (d:=.map a) hC hd aa).1
 |yld a=>exact(lG (d:=.yld a) hC hd aa).1
 |clo a b c=>exact(lG (d:=.clo a b c) hC hd aa).1
 |tup a=>exact(lG (d:=.tup a) hC hd aa).1
 |any=>exact(lG (d:=.any) hC hd aa).1
theorem aU.soundU{P:Program}{f:FuncId}{s:PSpec}(h:aU P f s)(hb:∀ xs,s.pre xs->∃ l,s.fn xs=.sl l/\l.all acj=true):aL P f s.toSpecU:=by
 obtain⟨hy,l3,_,tz⟩:=h
 refine⟨s.nearU,fun _=>l3,fun _ G φ m σ a w hC t ds us _ hl hr aa=>?_,fun e=>(hy e).elim⟩
 obtain⟨xP,ru⟩:=aa
 have kr:∀ b off v,nX m w b off=some v->w.cell? ⟨b,off,none⟩=some v:=fun b off v h=>by
  rcases M0 h with h | ⟨_,_,_,h⟩
  ·exact hC.mem _ _ _ h
  ·exact h
 refine(tz (nX m w) w (ds.map (jE σ.obj)) us kr ⟨by simpa using hl,fun i h h'=>?_⟩ ru).mono ?_
 ·simp only[List.length_map]at h
  rw[List.getElem_map,Array.getElem_toList]
  exact Uq hC (hr i h (by simpa using h')) (xP _ (List.getElem_mem h))
 rintro e w' ⟨v,m',rfl,yj,hm,hn,hv⟩
 obtain⟨l,hM,eO⟩:=hb _ ru
 let m2:Mem:=fun b off=>if w.heap.size<=b then m' b off else m b off
 have hle:Mem.le m m2:=fun b off v h=>by
  show (if w.heap.size<=b then m' b off else m b off)=some v
  split
  ·exact hm _ _ _ (Ey m w _ _ _ h)
  ·exact h
 have Ay:aO m2 (s.fn (ds.map (jE σ.obj))) v:=by
  rw[hM]at hv |-
  rw[List.all_eq_true]at eO
  have yi:∀ i (h:i<l.length),l[i].cells=[l[i]]:=fun i h=>by
   have :=eO _ (List.getElem_mem h)
   cases hv:l[i]<;>rw[hv]at this<;>first | (cases this;done) | rfl
  cases hv with
  |slnil a cap=>exact .slnil _ _
  |sl _ b o cap sz c s9 ti jR hs hc hr ho=>
   have dS:sz=1:=by
    have h0:0<l.length:=List.length_pos_iff.2 s9
    rw[<-hs 0 h0,yi 0 h0];rfl
   subst dS
   have Of:∀ i (h:i<l.length),∃ x,l[i]=.bool x/\c i 0=.bool x:=fun i h=>by
    have h1:=hr i 0 h (by rw[yi i h];exact Nat.zero_lt_one)
    have h2:=eO _ (List.getElem_mem h)
    simp only[yi i h,List.getElem_cons_zero]at h1
    cases hv:l[i]<;>rw[hv]at h2<;>first | (cases h2;done) | skip
    rw[hv]at h1
    generalize hc0:c i 0=cc at h1
    cases h1
    exact⟨_,rfl,rfl⟩
   refine .sl l b o cap 1 c s9 ti jR hs (fun i j hi hj=>?_) (fun i j hi hj=>?_) ho
   ·have cf:j=0:=by omega
    subst cf
    have h1:=hc i 0 hi hj
    show (if w.heap.size<=b then m' b (o+i*1+0)else m b (o+i*1+0))=_
    split
    ·exact h1
    ·rename_i ab
     obtain⟨x,_,hx⟩:=Of i hi
     rcases hn _ _ _ h1 with h2 | ⟨h2,_⟩
     ·rcases M0 h2 with h3 | ⟨k,n,h3,_⟩
      ·exact h3
      ·rw[hx]at h3;cases h3
     ·exact(ab h2).elim
   ·obtain⟨x,h1,h2⟩:=Of i hi
    have cf:j=0:=by rw[yi i hi]at hj;simpa using hj
    subst cf
    simp only[yi i hi,List.getElem_cons_zero]
    rw[h1,h2]
    exact .bool x
 refine⟨v,φ,m2,rfl,?_,.v _ _ Ay,.refl _ _⟩
 simp only[PSpec.toSpecU]
 refine hC.imm hle ⟨yj.os,yj.tape,yj.output,yj.size⟩ yj.block fun b off v h=>?_
 have h':(if w.heap.size<=b then m' b off else m b off)=some v:=h
 split at h'
 ·rename_i bB
  rcases hn _ _ _ h' with h2 | h2
  ·have:=o9 (kr _ _ _ h2);omega
  ·exact .inr h2
 ·exact .inl h'
structure Rn (α:Type) where
 m:Nat
 fam:α->List Name->List O
 args:α->List Name->List D
 ok:α->Prop
 val:α->List Name->D
structure Rn.Ok {α:Type} (r:Rn α):Prop where
 len:∀ a Ls,Ls.length=r.m->(r.fam a Ls).length=r.m
 renF:∀ a f Ls,Ls.length=r.m->(r.fam a Ls).map (O.ren f)=r.fam a (Ls.map f)
 renA:∀ a f Ls,Ls.length=r.m->D.renL f (r.args a Ls)=r.args a (Ls.map f)
 reach:∀ a Ls obj,Ls.length=r.m->Ls.Nodup->cv obj Ls (r.fam a Ls)->reach obj (r.args a Ls)=Ls
 closF:∀ a dom Ls,Ls.length=r.m->(∀ x∈Ls,dom x=true)->∀ o∈r.fam a Ls,O.clos dom o=true
 closA:∀ a dom Ls,Ls.length=r.m->(∀ x∈Ls,dom x=true)->D.closL dom (r.args a Ls)=true
 det:∀ a b,r.ok a->r.ok b->r.fam a (LR r.m)=r.fam b (LR r.m)->r.args a (LR r.m)=r.args b (LR r.m)->r.val a (LR r.m)=r.val b (LR r.m)
 vcl:∀ a dom Ls,Ls.length=r.m->(∀ x∈Ls,dom x=true)->D.clos dom (r.val a Ls)=true
 vren:∀ a f Ls,Ls.length=r.m->(r.val a Ls).ren f=r.val a (Ls.map f)
variable {α:Type}
noncomputable def Rn.c(r:Rn α):CSpec where
 pre:=fun os ds=>∃ a,r.ok a/\os=r.fam a (LR r.m)/\ds=r.args a (LR r.m)
 out:=fun os ds=>⟨[],[],by classical exact if h:∃ a,r.ok a/\os=r.fam a (LR r.m)/\ds=r.args a (LR r.m)then r.val h.choose (LR r.m)else .any⟩
theorem Rn.c_out{r:Rn α}(hr:r.Ok){a:α}(ha:r.ok a):r.c.out (r.fam a (LR r.m)) (r.args a (LR r.m))=⟨[],[],r.val a (LR r.m)⟩:=by
 have h:∃ b,r.ok b/\r.fam a (LR r.m)=r.fam b (LR r.m)/\r.args a (LR r.m)=r.args b (LR r.m):=⟨a,ha,rfl,rfl⟩
 have e:r.val h.choose (LR r.m)=r.val a (LR r.m):=(hr.det _ _ ha h.choose_spec.1 h.choose_spec.2.1 h.choose_spec.2.2).symm
 simp only[Rn.c]
 rw[dif_pos h,e]
theorem Rn.c_app{r:Rn α}(hr:r.Ok){a:α}(ha:r.ok a){obj:Name->Option O}{t:Name}{Ls:List Name}(hl:Ls.length=r.m)(hn:Ls.Nodup)(hF:cv obj Ls (r.fam a Ls)):
 r.c.toSpec.app obj t (r.args a Ls)=⟨True,r.val a Ls,obj⟩:=by
 have iy:=hr.reach a Ls obj hl hn hF
 have tw:Ls.map (cin Ls)=LR r.m:=by rw[BI hn,hl]
 have e1:cF obj (r.args a Ls)=r.fam a (LR r.m):=by
  unfold cF
  rw[iy]
  have ow:=hF
  rw[ke]at ow
  have :Ls.map (cE Ls obj)=(r.fam a Ls).map (O.ren (cin Ls)):=by
   refine List.ext_getElem (by simp[hr.len _ _ hl,hl]) fun i h1 h2=>?_
   have h3:i<Ls.length:=by simpa using h1
   have h4:i<(r.fam a Ls).length:=by rw[hr.len _ _ hl,<-hl];exact h3
   have h5:=congrArg (fun l=>l[i]?) ow
   have h6:obj Ls[i]=some (r.fam a Ls)[i]:=by simpa[h3,h4]using h5
   simp only[List.getElem_map,cE,h6]
  rw[this,hr.renF _ _ _ hl,tw]
 have e2:db obj (r.args a Ls)=r.args a (LR r.m):=by
  unfold db
  rw[iy,hr.renA _ _ _ hl,tw]
 have fC:∀ x∈Ls,cJ Ls x=true:=fun x hx=>gv.2 hx
 have jl:shut obj Ls=true:=by
  unfold shut
  rw[List.all_eq_true]
  intro x hx
  obtain⟨i,hi,rfl⟩:=List.getElem_of_mem hx
  have ow:=hF
  rw[ke]at ow
  have h4:i<(r.fam a Ls).length:=by rw[hr.len _ _ hl,<-hl];exact hi
  have h5:=congrArg (fun l=>l[i]?) ow
  have h6:obj Ls[i]=some (r.fam a Ls)[i]:=by simpa[hi,h4]using h5
  rw[h6]
  exact hr.closF _ _ _ hl fC _ (List.getElem_mem h4)
 have dM:r.c.pre (r.fam a (LR r.m)) (r.args a (LR r.m)):=⟨a,ha,rfl,rfl⟩
 simp only[CSpec.toSpec,e1,e2,iy,Rn.c_out hr ha,jl,hr.closA _ _ _ hl fC,fresh,List.all_nil,Bool.and_self,dM,and_self,dv,cH]
 rw[hr.vren _ _ _ (pk _)]
 have :(LR r.m).map (cout Ls t)=Ls:=by rw[<-hl];exact PI Ls t
 rw[this]
def Jd(P:Program)(rs:List ResultVar)(v:D)(H:Name->Option O)(e:Exit)(σ:S):Prop:=
 (e=.normal\/e=.ret)/\(bX P σ rs).ok/\(bX P σ rs).d=v/\∀ i,σ.obj [i,1]=H [i,1]
theorem Rn.sound{P:Program}{r:Rn α}(hr:r.Ok){f:FuncId}{fn:Func}{nt:Nat}{rs:List ResultVar}(hf:P.funcs[f]?=some fn)(cN:fn.ntmps=nt)(bP:fn.results.toList=rs)(hn:(fn.name== "runtime.NumGoroutine")=false)(hy:f<1000000000)
 (hw:∃ c,fn.body=some c/\∀ a,r.ok a->(r.args a (LR r.m)).length<=nt/\CL P [c] (bg nt [0] (aR (r.fam a (LR r.m))) (dj 0 (r.args a (LR r.m))) []) (Jd P rs (r.val a (LR r.m)) (aR (r.fam a (LR r.m))))):aL P f r.c.toSpec:=by
 obtain⟨c,hc,hw⟩:=hw
 refine oy hf hc cN bP (iX hf hc hn) (Nat.ne_of_lt (show f<yid from hy)) ?_
 rintro os ds ⟨a,ha,rfl,rfl⟩
 obtain⟨hl,h⟩:=hw a ha
 refine⟨hl,?_⟩
 rw[Rn.c_out hr ha]
 refine CW.mono (iG h) ?_
 rintro e σ ⟨he,h1,h2,h3⟩
 have fin:(bX P σ rs).ok/\(bX P σ rs).d=r.val a (LR r.m)/\gQ (r.fam a (LR r.m)) ⟨[],[],r.val a (LR r.m)⟩ σ:=by
  refine⟨h1,h2,DE fun i hi=>?_,trivial,?_⟩
  ·rw[Nat.zero_add,h3]
   show (r.fam a (LR r.m))[i]?=_
   rw[List.getElem?_eq_getElem hi]
  ·have hv:D.clos (dp (r.fam a (LR r.m)).length []) (r.val a (LR r.m))=true:=hr.vcl _ _ _ (pk _) fun x hx=>by
     obtain⟨i,hi,rfl⟩:=List.mem_map.1 hx
     rw[hr.len _ _ (pk _)]
     simpa[dp]using hi
   simp[hv,distinct]
 rcases he with rfl | rfl
 ·exact fin
 ·exact fin
theorem Rn.outC{r:Rn α}(hr:r.Ok)(a:α):∀ hs,ck [0] (bY [0] hs) (aR (r.fam a (LR r.m)))=True:=fun hs=>eq_true (nP (fun o ho dom hd=>hr.closF a dom _ (pk _) (fun x hx=>by
 obtain⟨i,_,rfl⟩:=List.mem_map.1 hx
 exact hd i) o ho) hs)
noncomputable section
attribute [go_sem] Jd
def S71u:Spec:=P71.toSpecU
theorem X6:aL Tryz.prog 71 S71u:=CS.soundU fun xs hp=>by
 obtain⟨l,hl⟩:∃ l:List Bool,P71.fn xs=.sl (l.map .bool):=by
  match xs,hp with
  |[a,b],_=>exact⟨_,rfl⟩
 refine⟨_,hl,?_⟩
 rw[List.all_eq_true]
 intro x hx
 obtain⟨y,_,rfl⟩:=List.mem_map.1 hx
 rfl
theorem Yp(l:List Sig):Aq (l.map encS)=true:=by
 unfold Aq
 rw[List.all_eq_true]
 intro x hx
 obtain⟨y,_,rfl⟩:=List.mem_map.1 hx
 rfl
def zA(l:Led)(k:Int)(nm:Name):D:=.agg [.v (.sl (l.ps.map cP)),.v (.sl (l.rs.map encR)),.v (.sl (l.ts.map c9)),.msl nm l.ss.length,.v (vInt k),.v (.sl ((bm l k l.ts.length).map .bool)),.nilsl]
def kj:Rn (Led×Int) where
 m:=1
 fam:=fun a _=>[.arr 7 (a.1.ss.map encS)]
 args:=fun a Ls=>[.agg [.v (.sl (a.1.ps.map cP)),.v (.sl (a.1.rs.map encR)),.v (.sl (a.1.ts.map c9)),.msl (Ls.getD 0 []) a.1.ss.length],.v (vInt a.2)]
 ok:=fun a=>bA a.1
 val:=fun a Ls=>zA a.1 a.2 (Ls.getD 0 [])
theorem vi{Ls:List Name}(h:Ls.length=1):∃ a,Ls=[a]:=by
 match Ls,h with
 |[a],_=>exact⟨a,rfl⟩
theorem D2:kj.Ok where
 len:=fun _ _ h=>by obtain⟨a,rfl⟩:=vi h;rfl
 renF:=fun a f Ls h=>rfl
 renA:=fun a f Ls h=>by obtain⟨a,rfl⟩:=vi h;rfl
 reach:=fun x Ls obj h bZ hF=>by
  obtain⟨a,rfl⟩:=vi h
  obtain⟨h1,_⟩:=hF
  have en:cw (kj.args x [a])=[a]:=rfl
  unfold Go.Eng.reach
  rw[en]
  show dk obj (2993+1+1+1+1+1+1+1) _ []=_
  simp[dk,gv,h1,kQ]
 closF:=fun x dom Ls h hd o ho=>by
  simp only[kj,List.mem_cons,List.not_mem_nil,or_false]at ho
  subst ho;rfl
 closA:=fun x dom Ls h hd=>by
  obtain⟨a,rfl⟩:=vi h
  have h1:=hd a (by simp)
  simp[kj,D.closL,D.clos,h1]
 det:=fun a b _ _ h1 h2=>by
  obtain⟨⟨p,r,t,s⟩,k⟩:=a
  obtain⟨⟨p2,r2,t2,s2⟩,k2⟩:=b
  simp only[kj,List.cons.injEq,D.agg.injEq,D.v.injEq,V.sl.injEq,O.arr.injEq,and_true,true_and]at h1 h2
  obtain⟨⟨e1,e2,e3,_⟩,e4⟩:=h2
  have e1:=congrArg (List.map rO) e1
  have e2:=congrArg (List.map lq) e2
  have e3:=congrArg (List.map m6) e3
  have e5:=congrArg (List.map jT) h1
  simp only[Po,Bv,Pm,vY]at e1 e2 e3 e5
  have e6:k=k2:=by simpa[vInt]using e4
  subst e1 e2 e3 e5 e6
  rfl
 vcl:=fun x dom Ls h hd=>by
  obtain⟨a,rfl⟩:=vi h
  have h1:=hd a (by simp)
  simp[kj,zA,D.closL,D.clos,h1]
 vren:=fun x f Ls h=>by obtain⟨a,rfl⟩:=vi h;rfl
def S73m:Spec:=kj.c.toSpec
theorem S3(l:Led)(k:Int)(obj:Name->Option O)(t nm:Name)(H:Name->Option O)(dg:obj nm=H nm)(h0:H nm=some (.arr 7 (l.ss.map encS)))(hl:bA l):
 S71u.app obj t [.agg [.v (.sl (l.ps.map cP)),.v (.sl (l.rs.map encR)),.v (.sl (l.ts.map c9)),.msl nm l.ss.length],.v (vInt k)]=⟨True,.v (.sl ((bm l k l.ts.length).map .bool)),obj⟩:=by
 have ho:=dg.trans h0
 have e:jE obj (.agg [.v (.sl (l.ps.map cP)),.v (.sl (l.rs.map encR)),.v (.sl (l.ts.map c9)),.msl nm l.ss.length])=ft l:=by
  simp[jE,nK,ho,ft]
 have e2:P71.fn [ft l,vInt k]=.sl ((bm l k l.ts.length).map .bool):=by
  simp only[go_sem]
 have e3:P71.pre [ft l,vInt k]:=by
  simp only[go_sem]
  exact hl
 simp only[S71u,PSpec.toSpecU,List.map_cons,List.map_nil,e,show jE obj (.v (vInt k))=vInt k from rfl,e2,R.mk.injEq,and_true,eq_iff_iff,iff_true]
 refine⟨fun d hd=>?_,e3⟩
 simp only[List.mem_cons,List.not_mem_nil,or_false]at hd
 rcases hd with rfl | rfl
 ·simp[pE,nQ,ho,Yp]
 ·rfl
theorem S4(l:Led)(k:Int)(t:Name){F H:Name->Option O}(h0:H [0,1]=some (.arr 7 (l.ss.map encS)))(hl:bA l):
 S71u.app (fun nm=>if own [0] nm=true then F nm else H nm) t [.agg [.v (.sl (l.ps.map cP)),.v (.sl (l.rs.map encR)),.v (.sl (l.ts.map c9)),.msl [0,1] l.ss.length],.v (vInt k)]=⟨True,.v (.sl ((bm l k l.ts.length).map .bool)),fun nm=>if own [0] nm=true then F nm else H nm⟩:=
 S3 l k _ t [0,1] H rfl h0 hl
def HO:FuncId->Option Spec:=fun f=>if f=71 then some S71u else none
theorem adH:∀ f s,HO f=some s->aL Tryz.prog f s:=fun f s h=>by
 unfold HO at h
 split at h
 ·rename_i e;cases h;subst e;exact X6
 ·cases h
@[go_sem] theorem air:HO 71=some S71u:=rfl
set_option maxHeartbeats 4000000 in
theorem X5:aL Tryz.prog 73 S73m:=by
 refine Rn.sound D2 (rs:=[.cell 4 108]) Tryz.func73 Tryz.ntmps73 (by rfl) (by kernel_rfl) (by decide) ⟨_,rfl,?_⟩
 rintro⟨l,k⟩ hp
 refine⟨lb rfl,?_⟩
 have hΓ:=adH
 have hP:=eK
 have hO:=Rn.outC D2 (l,k)
 have h0:aR (kj.fam (l,k) (LR kj.m)) [0,1]=some (.arr 7 (l.ss.map encS)):=rfl
 generalize aR (kj.fam (l,k) (LR kj.m))=H at *
 have ha:kj.args (l,k) (LR kj.m)=[.agg [.v (.sl (l.ps.map cP)),.v (.sl (l.rs.map encR)),.v (.sl (l.ts.map c9)),.msl [0,1] l.ss.length],.v (vInt k)]:=rfl
 have hv:kj.val (l,k) (LR kj.m)=zA l k [0,1]:=rfl
 rw[ha,hv]
 simp only[zA,dj,Nat.zero_add]at h0 |-
 repeat refine sq ?_
 refine rx hΓ [1,2,4] [[2,0],[4,0]] (fun K' hK=>by simp only[go_sem,hO,h0];(repeat (refine⟨an,?_⟩));exact hK _ (by simp only[go_sem,hO,h0]) (by simp only[go_sem,hO,h0]<;>rfl)) ?_
 repeat refine sq ?_
 refine dx hΓ hP [[],[],[],[],[2,3],u5,u6] [4] [[4,0]] (by kernel_rfl) (fun K' hK=>by simp only[go_sem,hO,h0];rw[S4 l k _ h0 hp];simp only[go_sem,hO,h0];(repeat (refine⟨an,?_⟩));(first | refine⟨by rfl,?_⟩ | skip);exact hK _ (by simp only[go_sem,hO,h0]) (by simp only[go_sem,hO,h0]<;>rfl)) ?_
 refine aA ?_
 simp only[go_sem,hO,h0]
 exact .inr trivial
theorem S1{p:List Pap}{rr:List Rec}{tt:List Ret}{ss:List Sig}{k:Int}{n:Nat}{obj:Name->Option O}{t nm:Name}(ho:obj nm=some (.arr 7 (ss.map encS)))(hl:bA ⟨p,rr,tt,ss⟩)(hn:n=ss.length):
 S73m.app obj t [.agg [.v (.sl (p.map cP)),.v (.sl (rr.map encR)),.v (.sl (tt.map c9)),.msl nm n],.v (.int .i64 k)]=
  ⟨True,.agg [.v (.sl (p.map cP)),.v (.sl (rr.map encR)),.v (.sl (tt.map c9)),.msl nm ss.length,.v (.int .i64 k),.v (.sl ((bm ⟨p,rr,tt,ss⟩ k tt.length).map .bool)),.nilsl],obj⟩:=by
 subst hn
 exact Rn.c_app D2 (a:=(⟨p,rr,tt,ss⟩,k)) hl (t:=t) (obj:=obj) (Ls:=[nm]) rfl (by simp) ⟨ho,trivial⟩
end
noncomputable section
def tR(x:R5):V:=.agg [vInt x.a,vInt x.b,vInt x.c,vInt x.d,vInt x.e]
def vS(x:R7):V:=.agg [vInt x.a,vInt x.b,vInt x.c,vInt x.d,vInt x.e,vInt x.f,vInt x.g]
def yy:V->R5
 | .agg [.int _ a,.int _ b,.int _ c,.int _ d,.int _ e]=>⟨a,b,c,d,e⟩
 |_=>default
def Bw:V->R7
 | .agg [.int _ a,.int _ b,.int _ c,.int _ d,.int _ e,.int _ f,.int _ g]=>⟨a,b,c,d,e,f,g⟩
 |_=>default
def tQ(r:Raw):V:=.agg [.sl (r.rs.map tR),.sl (r.ts.map vS),.sl (r.ss.map tR)]
def Bu:V->Raw
 | .agg [.sl a,.sl b,.sl c]=>⟨a.map yy,b.map Bw,c.map yy⟩
 |_=>default
def sO:En Raw:=⟨tQ,Bu⟩
theorem abn(x:R5):yy (tR x)=x:=rfl
theorem abl(x:R7):Bw (vS x)=x:=rfl
@[go_sem] theorem abm(l:List R5):(l.map tR).map yy=l:=qV abn l
@[go_sem] theorem abk(l:List R7):(l.map vS).map Bw=l:=qV abl l
attribute [go_sem] tR yy vS Bw tQ Bu sO
@[go_sem] theorem ah'(x:Raw):(⟨x.rs,x.ts,x.ss⟩:Raw)=x:=rfl
def K73:List (Nat×Spec):=[(20,Ci),(83,S83),(84,Cf),(73,S73m),(74,HC)]
theorem adM:KS K73:=tc CU.sound<|tc S0.sound<|tc SZ.sound<|tc X5<|tc IY.sound<|tn
attribute [go_sem] K73
@[go_sem] def P19:PSpec:=p1 sO (fun _=>True) (fun r=>.tup [ft (lN r),.sl ((gl r (nT r)).map vInt)]) false
@[go_sem] def Q2:Spec:=P19.toSpec
set_option maxHeartbeats 1000000 in
theorem Ti:aU Tryz.prog 19 P19:=by
 refine gp (rs:=[.cell 2 31,.tmp 3]) Tryz.func19 Tryz.ntmps19 fun r hp hw=>?_
 have hP:=eK
 simp only[sO]at hw |-
 have hΓ:=adM
 have h8:=pI r
 have hl:nR r<=maxLen:=by unfold maxLen;omega
 repeat refine sq ?_
 refine rx hΓ [1,2] [[1,0],[2,0],[77,0],[158,0],[235,0]] (fun K' hK=>by simp only[go_sem];exact ak) ?_
 repeat refine sq ?_
 refine rx hΓ [1,2,4] [[1,0],[2,0],[4,0],[77,0],[158,0],[235,0]] (fun K' hK=>by simp only[go_sem];exact ak) ?_
 repeat refine sq ?_
 refine rx hΓ [1,2,4,5] [[1,0],[2,0],[4,0],[77,0],[158,0],[163,0],[235,0]] (fun K' hK=>by simp only[go_sem];exact ak) ?_
 refine bD (uC 5 [163,0] 1 (by simp only[go_sem]) (by simp only[go_sem]) [1,2,4,5] [[1,0],[2,0],[4,0],[77,0],[158,0],[163,0],[235,0]] ?_ rfl) ?_
 ·simp only[go_sem]
 simp only[go_sem]
 repeat refine sq ?_
 refine rx hΓ [1,2,4,5,6] [[1,0],[2,0],[4,0],[77,0],[158,0],[163,0],[235,0]] (fun K' hK=>by simp only[go_sem];exact ak) ?_
 refine bD (mo [4,0] [77,0] 1 7 _ rfl rfl rfl [1,2,4,5,6] [[1,0],[2,0],[4,0],[77,0],[158,0],[163,0],[235,0]] ?_ rfl) ?_
 ·simp only[go_sem,List.set_cons_succ,List.set_cons_zero]
 simp only[go_sem,List.set_cons_succ,List.set_cons_zero]
 refine bD (mo [4,0] [158,0] 2 8 _ rfl rfl rfl [1,2,4,5,6] [[1,0],[2,0],[4,0],[77,0],[158,0],[163,0],[235,0]] ?_ rfl) ?_
 ·simp only[go_sem,List.set_cons_succ,List.set_cons_zero]
 simp only[go_sem,List.set_cons_succ,List.set_cons_zero]
 repeat refine sq ?_
 refine rx hΓ [1,2,4,5,6,7] [[1,0],[2,0],[4,0],[77,0],[158,0],[163,0],[235,0]] (fun K' hK=>by simp only[go_sem];exact ak) ?_
 refine bD (mo [4,0] [235,0] 3 7 _ rfl rfl rfl [1,2,4,5,6,7] [[1,0],[2,0],[4,0],[77,0],[158,0],[163,0],[235,0]] ?_ rfl) ?_
 ·simp only[go_sem,List.set_cons_succ,List.set_cons_zero]
 simp only[go_sem,List.set_cons_succ,List.set_cons_zero]
 repeat refine sq ?_
 refine aN ?_
 repeat refine sq ?_
 refine cB (fun s:Nat=>[(7,⟨true,.v (vInt s)⟩),(6,⟨true,.v (vInt (ef r s))⟩)]) (fun s=>[([4,0],.box [.v (.sl (mps.map cP)),.msl [77,0] (e8 r s).length,.msl [158,0] 0,.msl [235,0] 0]),([77,0],.arr 7 ((e8 r s).map encR))]) (fun s=>s<=(nR r)) (fun s=>(nR r)-s) 0 ?_ ?_ ?_ ?_
 ·exact Nat.zero_le _
 ·rfl
 ·rfl
 rintro i hi
 simp only[go_sem]
 repeat refine sq ?_
 refine rx hΓ [1,2,4,5,6,7,33] [[1,0],[2,0],[4,0],[77,0],[158,0],[163,0],[235,0]] (fun K' hK=>by simp only[go_sem];exact ak) ?_
 repeat refine sq ?_
 refine ay (fun hb=>?_) fun hb=>?_
 ·repeat refine sq ?_
  have ab:i<nR r:=by simp at hb;unfold nR;omega
  have NW:i<r.rs.length:=by have h:=ab;unfold nR at h;omega
  have ZK:(i:Int)<r.rs.length:=by omega
  have e5:r5 r.rs i=r.rs[i]:=cj NW
  have m3:=de (n:=r.rs[i].b) (m:=3) (by decide)
  have pZ:0<=aM r.rs[i].b 3:=m3.1
  have pY:(mps.length:Int)=3:=rfl
  have mP:aM r.rs[i].b 3<(mps.length:Int):=by omega
  have tq:(mps.map cP).getD (aM r.rs[i].b 3).toNat default=cP (bE r.rs[i].b):=by
   have hl:(aM r.rs[i].b 3).toNat<mps.length:=by omega
   rw[ah hl];unfold bE;rw[cj hl]
  obtain⟨-,l1,l2,p1,p2⟩:=qU (pJ r.rs[i].b)
  have d0:=yw r i
  have ed:ef r (i+1)=ef r i+aM r.rs[i].d 20:=by rw[ef,e5]
  have m20:=de (n:=r.rs[i].d) (m:=20) (by decide)
  have m4:=de (n:=r.rs[i].a) (m:=4) (by decide)
  have m5:=de (n:=r.rs[i].e) (m:=5) (by decide)
  have iw:IntKind.i64.wrap (ef r i+aM r.rs[i].d 20)=ef r (i+1):=by rw[wrap_i64 (by omega) (by omega)];exact ed.symm
  have sS:IntKind.i64.wrap (3*(i:Int))=3*(i:Int):=wrap_i64 (by omega) (by omega)
  have YN:IntKind.i64.wrap (3*(i:Int)+1)=3*(i:Int)+1:=wrap_i64 (by omega) (by omega)
  have YK:IntKind.i64.wrap (1+aM r.rs[i].a 4)=1+aM r.rs[i].a 4:=wrap_i64 (by omega) (by omega)
  have vx:IntKind.i64.wrap (ef r (i+1)+aM r.rs[i].e 5)=ef r (i+1)+aM r.rs[i].e 5:=wrap_i64 (by omega) (by omega)
  have eS:e8 r (i+1)=e8 r i++[⟨3*(i:Int)+1,1+aM r.rs[i].a 4,(bE r.rs[i].b).id,jv r.rs[i].c (bE r.rs[i].b).lv,ef r (i+1),ef r (i+1)+aM r.rs[i].e 5,0⟩]:=by
   unfold e8
   rw[List.range_succ,List.map_append]
   show _++[gr r i]=_
   unfold gr
   rw[e5]
  have mL:=jg r i
  refine aE ?_
  repeat refine sq ?_
  refine aN ?_
  repeat refine sq ?_
  refine rx hΓ [1,2,4,5,6,7,8] [[1,0],[2,0],[4,0],[8,0],[77,0],[158,0],[163,0],[235,0]] (fun K' hK=>by simp only[go_sem,ah NW,ZK,ai,aj,List.length_map];exact ak) ?_
  repeat refine sq ?_
  refine dx hΓ hP [[],[0],[],[2],[2,3],u5,u6,[],u8] [1,2,4,5,6,7,8,9] [[1,0],[2,0],[4,0],[8,0],[9,0],[77,0],[158,0],[163,0],[235,0]] (by kernel_rfl) (fun K' hK=>by simp only[go_sem,Int.cast_ofNat_Int,Int.reduceToNat,Int.toNat_zero,Int.toNat_one,Nat.reduceMul,Nat.zero_mul,Nat.one_mul,List.getD_cons_succ,List.getD_cons_zero,tq,pZ,mP,List.length_map];(repeat (refine⟨by first | exact an | exact⟨by decide,by decide⟩,?_⟩));exact fG) ?_
  repeat refine sq ?_
  refine rx hΓ [1,2,4,5,6,7,8,9] [[1,0],[2,0],[4,0],[8,0],[9,0],[77,0],[158,0],[163,0],[235,0]] (fun K' hK=>by simp only[go_sem,Int.cast_ofNat_Int,Int.reduceToNat,Int.toNat_zero,Int.toNat_one,Nat.reduceMul,Nat.zero_mul,Nat.one_mul,List.getD_cons_succ,List.getD_cons_zero,iw];(repeat (refine⟨by first | exact an | exact⟨by decide,by decide⟩,?_⟩));exact fD) ?_
  repeat refine sq ?_
  refine qq hΓ hP [[],[0],[],[2],[2,3],[],[5],[5,6],[5,6,7],[],[9],[],[11],[],[13],[5,6,7,11,12,13,14],[],[],[],[18],[5,6,7,11,12,13,14,15,18,19],[5,6,7,11,12,13,14,15,17,18,19,20],[2,3,4,5,6,7,8,9,10,11,12,13,14,15,16,17,18,19,20,21],[2,3,4,5,6,7,8,9,10,11,12,13,14,15,16,17,18,19,20,21,22],zk,zj,RW] (by kernel_rfl) fun K' hK=>?_
  simp only[go_sem,Int.cast_ofNat_Int,Int.reduceToNat,Int.toNat_zero,Int.toNat_one,Nat.reduceMul,Nat.zero_mul,Nat.one_mul,List.getD_cons_succ,List.getD_cons_zero,sS,YN,YK,vx]
  repeat (refine⟨by first | exact an | exact⟨by decide,by decide⟩ | exact⟨by omega,by omega⟩,?_⟩)
  first | refine⟨by rfl,?_⟩ | skip
  refine hK _ ?_
  clear K' hK
  simp only[go_sem]
  refine kp [1,2,4,5,6,7] [[1,0],[2,0],[4,0],[77,0],[158,0],[163,0],[235,0]] ?_
  repeat refine sq ?_
  refine aP hΓ fun K' hK=>?_
  simp only[go_sem]
  repeat (refine⟨an,?_⟩)
  refine hK _ ?_
  clear K' hK
  simp only[go_sem]
  refine⟨i+1,ab,by(show (nR r)-(i+1)<(nR r)-i;omega),?_⟩
  refine bd [1,2,4,5,6,7] [[1,0],[2,0],[4,0],[77,0],[158,0],[163,0],[235,0]] ?_ ?_<;>simp only[go_sem,a7 ab hl,bb,eS,List.map_append,List.length_append,List.map_cons,List.map_nil,List.length_cons,List.length_nil]
 ·repeat refine sq ?_
  have bB:i=nR r:=by
   simp at hb
   have h:=hi
   unfold nR at h |-
   omega
  subst bB
  have oY:nT r<=maxLen:=by have:=vj r;unfold maxLen;omega
  refine bT ?_
  simp only[go_sem]
  refine kp [1,2,4,5,6] [[1,0],[2,0],[4,0],[77,0],[158,0],[163,0],[235,0]] ?_
  repeat refine sq ?_
  refine rx hΓ [1,2,4,5,6,10] [[1,0],[2,0],[4,0],[77,0],[158,0],[163,0],[235,0]] (fun K' hK=>by simp only[go_sem];exact ak) ?_
  repeat refine sq ?_
  refine aN ?_
  repeat refine sq ?_
  refine cB (fun s:Nat=>[(10,⟨true,.v (vInt s)⟩),(5,⟨true,.msl [163,0] (gl r s).length⟩)]) (fun s=>[([4,0],.box [.v (.sl (mps.map cP)),.msl [77,0] (e8 r (nR r)).length,.msl [158,0] (jB r s).length,.msl [235,0] 0]),([158,0],.arr 8 ((jB r s).map c9)),([163,0],.arr 1 ((gl r s).map vInt))]) (fun s=>s<=(nT r)) (fun s=>(nT r)-s) 0 ?_ ?_ ?_ ?_
  ·exact Nat.zero_le _
  ·rfl
  ·rfl
  rintro i1 hi
  simp only[go_sem]
  repeat refine sq ?_
  refine rx hΓ [1,2,4,5,6,10,93] [[1,0],[2,0],[4,0],[77,0],[158,0],[163,0],[235,0]] (fun K' hK=>by simp only[go_sem,jg];exact ak) ?_
  repeat refine sq ?_
  refine ay (fun hb=>?_) fun hb=>?_
  ·repeat refine sq ?_
   have aT:i1<nT r:=by simp at hb;unfold nT;split<;>omega
   have Fh:nR r≠0:=z' aT
   have NV:i1<r.ts.length:=by have h:=aT;unfold nT at h;rw[if_neg Fh]at h;omega
   have ZJ:(i1:Int)<r.ts.length:=by omega
   have h8t:=vj r
   have e7:r7 r.ts i1=r.ts[i1]:=cj NV
   have mx:=de (n:=r.ts[i1].a) (m:=(nR r:Int)) (by omega)
   have YG:0<=aM r.ts[i1].a (nR r):=mx.1
   have pU:aM r.ts[i1].a (nR r)<nR r:=mx.2
   have yb:((e8 r (nR r)).map encR).getD (aM r.ts[i1].a (nR r)).toNat default=encR (xT r i1):=by
    have hl:(aM r.ts[i1].a (nR r)).toNat<(e8 r (nR r)).length:=by rw[jg];omega
    rw[ah hl];unfold xT;rw[e7,cj hl]
   obtain⟨ix,hix,ex⟩:=HX Fh i1
   obtain⟨-,-,x3,-,-,x6,x7,x8⟩:=sx r (show ix<8 by omega)
   rw[<-ex]at x3 x6 x7 x8
   obtain⟨-,a0,a1⟩:=zt Fh (show i1<8 by omega)
   have ea:du r i1=(xT r i1).da+aM r.ts[i1].c 30:=by unfold du;rw[e7]
   have eS:jB r (i1+1)=jB r i1++[⟨3*(i1:Int)+2,(xT r i1).so,1+aM r.ts[i1].g 4,jv r.ts[i1].b (cM mps (xT r i1).pa),if du r i1-aM r.ts[i1].d 12>0 then du r i1-aM r.ts[i1].d 12 else 0,du r i1+aM r.ts[i1].e 12,du r i1+aM r.ts[i1].e 12+aM r.ts[i1].f 9,0⟩]:=by
    unfold jB
    rw[List.range_succ,List.map_append]
    show _++[tM r i1]=_
    unfold tM
    rw[e7,VG]
   have eD:gl r (i1+1)=gl r i1++[du r i1]:=by
    unfold gl
    rw[List.range_succ,List.map_append];rfl
   have iU:(jB r i1).length=i1:=by unfold jB;simp
   have rG:(gl r i1).length=i1:=by unfold gl;simp
   generalize xT r i1=xx at *
   have DW:=de (n:=r.ts[i1].c) (m:=30) (by decide)
   have m4:=de (n:=r.ts[i1].g) (m:=4) (by decide)
   have KD:=de (n:=r.ts[i1].d) (m:=12) (by decide)
   have KC:=de (n:=r.ts[i1].e) (m:=12) (by decide)
   have m9:=de (n:=r.ts[i1].f) (m:=9) (by decide)
   have YL:IntKind.i64.wrap (xx.da+aM r.ts[i1].c 30)=du r i1:=by rw[wrap_i64 (by omega) (by omega)];exact ea.symm
   have sS:IntKind.i64.wrap (3*(i1:Int))=3*(i1:Int):=wrap_i64 (by omega) (by omega)
   have YM:IntKind.i64.wrap (3*(i1:Int)+2)=3*(i1:Int)+2:=wrap_i64 (by omega) (by omega)
   have rm:IntKind.i64.wrap (1+aM r.ts[i1].g 4)=1+aM r.ts[i1].g 4:=wrap_i64 (by omega) (by omega)
   have YH:IntKind.i64.wrap (du r i1-aM r.ts[i1].d 12)=du r i1-aM r.ts[i1].d 12:=wrap_i64 (by omega) (by omega)
   have YJ:IntKind.i64.wrap (du r i1+aM r.ts[i1].e 12)=du r i1+aM r.ts[i1].e 12:=wrap_i64 (by omega) (by omega)
   have vx:IntKind.i64.wrap (du r i1+aM r.ts[i1].e 12+aM r.ts[i1].f 9)=du r i1+aM r.ts[i1].e 12+aM r.ts[i1].f 9:=wrap_i64 (by omega) (by omega)
   refine aE ?_
   repeat refine sq ?_
   refine aN ?_
   repeat refine sq ?_
   refine rx hΓ [1,2,4,5,6,10,11] [[1,0],[2,0],[4,0],[11,0],[77,0],[158,0],[163,0],[235,0]] (fun K' hK=>by simp only[go_sem,ah NV,ZJ,ai,aj,List.length_map];exact ak) ?_
   repeat refine sq ?_
   refine dx hΓ hP [[],[0],[],[2],[],[4],[4,5],[2,3,4,5,6],u8,u9,[],dX] [1,2,4,5,6,10,11,12] [[1,0],[2,0],[4,0],[11,0],[12,0],[77,0],[158,0],[163,0],[235,0]] (by kernel_rfl) (fun K' hK=>by simp only[go_sem,Int.cast_ofNat_Int,Int.reduceToNat,Int.toNat_zero,Int.toNat_one,Nat.reduceMul,Nat.zero_mul,Nat.one_mul,List.getD_cons_succ,List.getD_cons_zero,yb,YG,pU,jg,List.length_map];(repeat (refine⟨by first | exact an | exact⟨by omega,by omega⟩,?_⟩));exact fG) ?_
   repeat refine sq ?_
   refine dx hΓ hP [[],[0],[],[2],[2,3],u5,u6] [1,2,4,5,6,10,11,12,13] [[1,0],[2,0],[4,0],[11,0],[12,0],[77,0],[158,0],[163,0],[235,0]] (by kernel_rfl) (fun K' hK=>by simp only[go_sem,Int.cast_ofNat_Int,Int.reduceToNat,Int.toNat_zero,Int.toNat_one,Nat.reduceMul,Nat.zero_mul,Nat.one_mul,List.getD_cons_succ,List.getD_cons_zero,YL];(repeat (refine⟨by first | exact an | exact⟨by decide,by decide⟩,?_⟩));exact fG) ?_
   repeat refine sq ?_
   refine dx hΓ hP [[],[0],[0,1],[],[3],[],[5],[5,6],[5,6,7],[],[9],[],[],[12],[5,6,7,11,12,13],[5,6,7,9,10,11,12,13,14],[],[],[17],[5,6,7,9,10,11,12,13,14,15,17,18],[5,6,7,9,10,11,12,13,14,15,16,17,18,19],[5,6,7,9,10,11,12,13,14,15,16,17,18,19,20],[],[],[23],[5,6,7,9,10,11,12,13,14,15,17,18,19,23,24],[5,6,7,9,10,11,12,13,14,15,17,18,19,22,23,24,25],[5,6,7,9,10,11,12,13,14,15,16,17,18,19,20,21,22,23,24,25,26],zi,[],Ib] [1,2,4,5,6,10,11,13,14] [[1,0],[2,0],[4,0],[11,0],[14,0],[77,0],[158,0],[163,0],[235,0]] (by kernel_rfl) (fun K' hK=>by simp only[go_sem,Int.cast_ofNat_Int,Int.reduceToNat,Int.toNat_zero,Int.toNat_one,Nat.reduceMul,Nat.zero_mul,Nat.one_mul,List.getD_cons_succ,List.getD_cons_zero,sS,YM,rm,YH,YJ];(repeat (refine⟨by first | exact an | exact(jg _ _).symm | exact⟨by decide,by decide⟩ | exact⟨by omega,by omega⟩,?_⟩));exact fG) ?_
   repeat refine sq ?_
   refine dx hΓ hP [[],[0],[0,1],[],[3],[3,4],u6,u7,u8] [1,2,4,5,6,10,13,14] [[1,0],[2,0],[4,0],[14,0],[77,0],[158,0],[163,0],[235,0]] (by kernel_rfl) (fun K' hK=>by simp only[go_sem,Int.cast_ofNat_Int,Int.reduceToNat,Int.toNat_zero,Int.toNat_one,Nat.reduceMul,Nat.zero_mul,Nat.one_mul,List.getD_cons_succ,List.getD_cons_zero,vx];(repeat (refine⟨by first | exact an | exact⟨by decide,by decide⟩,?_⟩));exact fG) ?_
   repeat refine sq ?_
   refine rx hΓ [1,2,4,5,6,10,13] [[1,0],[2,0],[4,0],[77,0],[158,0],[163,0],[235,0]] (fun K' hK=>by simp only[go_sem];exact ak) ?_
   repeat refine sq ?_
   refine aP hΓ fun K' hK=>?_
   simp only[go_sem]
   repeat (refine⟨an,?_⟩)
   refine hK _ ?_
   clear K' hK
   simp only[go_sem]
   refine kp [1,2,4,5,6,10] [[1,0],[2,0],[4,0],[77,0],[158,0],[163,0],[235,0]] ?_
   repeat refine sq ?_
   refine aP hΓ fun K' hK=>?_
   simp only[go_sem]
   repeat (refine⟨an,?_⟩)
   refine hK _ ?_
   clear K' hK
   simp only[go_sem]
   refine⟨i1+1,aT,by(show (nT r)-(i1+1)<(nT r)-i1;omega),?_⟩
   refine bd [1,2,4,5,6,10] [[1,0],[2,0],[4,0],[77,0],[158,0],[163,0],[235,0]] ?_ ?_<;>simp only[go_sem,a7 aT oY,bb,jg,eS,eD,List.map_append,List.length_append,List.map_cons,List.map_nil,List.length_cons,List.length_nil]
  ·repeat refine sq ?_
   have lY:i1=nT r:=by
    simp at hb
    have h:=hi
    unfold nT at h |-
    split at h
    ·rename_i h0;rw[if_pos h0];omega
    ·rename_i h0;rw[if_neg h0];omega
   subst lY
   have hM:nS r<=maxLen:=by have:nS r<=6:=Nat.min_le_right _ _;unfold maxLen;omega
   refine bT ?_
   simp only[go_sem]
   refine kp [1,2,4,5,6] [[1,0],[2,0],[4,0],[77,0],[158,0],[163,0],[235,0]] ?_
   repeat refine sq ?_
   refine rx hΓ [1,2,4,5,6,15] [[1,0],[2,0],[4,0],[77,0],[158,0],[163,0],[235,0]] (fun K' hK=>by simp only[go_sem];exact ak) ?_
   refine bD (dd 5 (.msl [163,0] (gl r (nT r)).length) (by simp only[go_sem]) (by simp only[go_sem]) [1,2,4,5,6,15] [[1,0],[2,0],[4,0],[77,0],[158,0],[163,0],[235,0]] ?_ rfl) ?_
   ·simp only[go_sem]
   simp only[go_sem]
   refine bD (pt [4,0] [77,0] 1 _ _ _ _ rfl rfl rfl (by first | rfl | (simp only[List.length_map,jg];done)) [1,2,4,5,6,15] [[1,0],[2,0],[4,0],[77,0],[158,0],[163,0],[235,0]] ?_ rfl) ?_
   ·simp only[go_sem,List.set_cons_succ,List.set_cons_zero,jg]
   simp only[go_sem,List.set_cons_succ,List.set_cons_zero,jg]
   refine bD (pt [4,0] [158,0] 2 _ _ _ _ rfl rfl rfl (by first | rfl | (simp only[List.length_map];done)) [1,2,4,5,6,15] [[1,0],[2,0],[4,0],[77,0],[158,0],[163,0],[235,0]] ?_ rfl) ?_
   ·simp only[go_sem,List.set_cons_succ,List.set_cons_zero]
   simp only[go_sem,List.set_cons_succ,List.set_cons_zero]
   repeat refine sq ?_
   refine aN ?_
   repeat refine sq ?_
   refine cB (fun s:Nat=>[(15,⟨true,.v (vInt s)⟩)]) (fun s=>[([4,0],.box [.v (.sl (mps.map cP)),.v (.sl ((e8 r (nR r)).map encR)),.v (.sl ((jB r (nT r)).map c9)),.msl [235,0] (dC r s).length]),([235,0],.arr 7 ((dC r s).map encS))]) (fun s=>s<=(nS r)) (fun s=>(nS r)-s) 0 ?_ ?_ ?_ ?_
   ·exact Nat.zero_le _
   ·rfl
   ·rfl
   rintro i2 hi
   simp only[go_sem]
   repeat refine sq ?_
   refine rx hΓ [1,2,4,5,6,15,172] [[1,0],[2,0],[4,0],[77,0],[158,0],[163,0],[235,0]] (fun K' hK=>by simp only[go_sem];exact ak) ?_
   repeat refine sq ?_
   refine ay (fun hb=>?_) fun hb=>?_
   ·repeat refine sq ?_
    have cz:i2<nS r:=by simp at hb;unfold nS;omega
    have ya:i2<r.ss.length:=by have h:=cz;unfold nS at h;omega
    have FJ:(i2:Int)<r.ss.length:=by omega
    have h6:i2<6:=by have h:=cz;unfold nS at h;omega
    have e6:r5 r.ss i2=r.ss[i2]:=cj ya
    have m3:=de (n:=r.ss[i2].b) (m:=3) (by decide)
    have pZ:0<=aM r.ss[i2].b 3:=m3.1
    have pY:(mps.length:Int)=3:=rfl
    have mP:aM r.ss[i2].b 3<(mps.length:Int):=by omega
    have tq:(mps.map cP).getD (aM r.ss[i2].b 3).toNat default=cP (bE r.ss[i2].b):=by
     have hl:(aM r.ss[i2].b 3).toNat<mps.length:=by omega
     rw[ah hl];unfold bE;rw[cj hl]
    obtain⟨-,l1,l2,p1,p2⟩:=qU (pJ r.ss[i2].b)
    have d0:=yw r (nR r)
    have ml:=de (n:=r.ss[i2].c) (m:=(bE r.ss[i2].b).lv) (by omega)
    have md:=de (n:=r.ss[i2].d) (m:=ef r (nR r)+20) (by omega)
    have DW:=de (n:=r.ss[i2].e) (m:=30) (by decide)
    have iU:oL r i2=1+aM r.ss[i2].c (bE r.ss[i2].b).lv:=by unfold oL;rw[e6]
    have AF:lE r i2=aM r.ss[i2].d (ef r (nR r)+20):=by unfold lE;rw[e6]
    have sS:IntKind.i64.wrap (3*(i2:Int))=3*(i2:Int):=wrap_i64 (by omega) (by omega)
    have EI:IntKind.i64.wrap (3*(i2:Int)+3)=3*(i2:Int)+3:=wrap_i64 (by omega) (by omega)
    have xF:IntKind.i64.wrap (1+aM r.ss[i2].c (bE r.ss[i2].b).lv)=oL r i2:=by rw[wrap_i64 (by omega) (by omega)];exact iU.symm
    have iw:IntKind.i64.wrap (ef r (nR r)+20)=ef r (nR r)+20:=wrap_i64 (by omega) (by omega)
    have vx:IntKind.i64.wrap (lE r i2+aM r.ss[i2].e 30)=lE r i2+aM r.ss[i2].e 30:=wrap_i64 (by omega) (by omega)
    have AE:=CH r i2
    have aa:=KA r (s:=i2) (by omega)
    have rG:(gl r (nT r)).length=(aV (fN r (dC r i2)) 900).ts.length:=by
     show _=(bm _ _ _).length
     rw[lB]
     show ((List.range (nT r)).map _).length=((List.range (nT r)).map _).length
     rw[List.length_map,List.length_map]
    have eS:dC r (i2+1)=dC r i2++[⟨3*(i2:Int)+3,oK r i2 (dC r i2),(bE r.ss[i2].b).id,oL r i2,lE r i2,lE r i2+aM r.ss[i2].e 30,0⟩]:=by
     rw[dC]
     unfold uP
     rw[e6]
    have N':(⟨mps,e8 r (nR r),jB r (nT r),dC r i2⟩:Led)=fN r (dC r i2):=rfl
    have Om:(⟨⟨mps,e8 r (nR r),jB r (nT r),dC r i2⟩,900,bm (fN r (dC r i2)) 900 (jB r (nT r)).length,[]⟩:RV)=aV (fN r (dC r i2)) 900:=rfl
    refine aE ?_
    repeat refine sq ?_
    refine aN ?_
    repeat refine sq ?_
    refine rx hΓ [1,2,4,5,6,15,16] [[1,0],[2,0],[4,0],[16,0],[77,0],[158,0],[163,0],[235,0]] (fun K' hK=>by simp only[go_sem,ah ya,FJ,ai,aj,List.length_map];exact ak) ?_
    repeat refine sq ?_
    refine dx hΓ hP [[],[0],[],[2],[2,3],u5,u6,[],u8] [1,2,4,5,6,15,16,17] [[1,0],[2,0],[4,0],[16,0],[17,0],[77,0],[158,0],[163,0],[235,0]] (by kernel_rfl) (fun K' hK=>by simp only[go_sem,Int.cast_ofNat_Int,Int.reduceToNat,Int.toNat_zero,Int.toNat_one,Nat.reduceMul,Nat.zero_mul,Nat.one_mul,List.getD_cons_succ,List.getD_cons_zero,tq,pZ,mP,List.length_map];(repeat (refine⟨by first | exact an | exact⟨by decide,by decide⟩,?_⟩));exact fG) ?_
    repeat refine sq ?_
    refine dx hΓ hP [[],[0],[0,1],[],[3],[],[5],[],[7],[5,6,7,8],[5,6,7,8,9],[],[11],[],[13],[5,6,7,8,9,11,12,13,14],[],[16],[5,6,7,8,9,11,12,13,14,15,16,17],kK,[],sh] [1,2,4,5,6,15,16,18] [[1,0],[2,0],[4,0],[16,0],[18,0],[77,0],[158,0],[163,0],[235,0]] (by kernel_rfl) (fun K' hK=>by simp only[go_sem,Int.cast_ofNat_Int,Int.reduceToNat,Int.toNat_zero,Int.toNat_one,Nat.reduceMul,Nat.zero_mul,Nat.one_mul,List.getD_cons_succ,List.getD_cons_zero,sS,EI,xF,iw,<-AF];(repeat (refine⟨by first | exact an | exact⟨by decide,by decide⟩ | exact⟨by omega,by omega⟩,?_⟩));exact fG) ?_
    repeat refine sq ?_
    refine rx hΓ [1,2,4,5,6,15,16,18,210] [[1,0],[2,0],[4,0],[16,0],[18,0],[77,0],[158,0],[163,0],[235,0]] (fun K' hK=>by simp only[go_sem,Int.cast_ofNat_Int,Int.reduceToNat,Int.toNat_zero,Int.toNat_one,Nat.reduceMul,Nat.zero_mul,Nat.one_mul,List.getD_cons_succ,List.getD_cons_zero];(repeat (refine⟨by first | exact an | exact⟨by decide,by decide⟩,?_⟩));exact fD) ?_
    repeat refine sq ?_
    refine ay (fun hb=>?_) fun hb=>?_
    ·repeat refine sq ?_
     have ep:oK r i2 (dC r i2)=iM (aV (fN r (dC r i2)) 900) ⟨(bE r.ss[i2].b).id,oL r i2⟩ (gl r (nT r)) (lE r i2):=by unfold oK;rw[e6,if_pos hb]
     repeat refine sq ?_
     refine rx hΓ [1,2,4,5,6,15,16,18,19] [[1,0],[2,0],[4,0],[16,0],[18,0],[19,0],[77,0],[158,0],[163,0],[235,0]] (fun K' hK=>by simp only[go_sem,N'];rw[S1 (ss:=dC r i2) rfl aa rfl];simp only[go_sem,N'];exact ak) ?_
     repeat refine sq ?_
     refine rx hΓ [1,2,4,5,6,15,16,18] [[1,0],[2,0],[4,0],[16,0],[18,0],[77,0],[158,0],[163,0],[235,0]] (fun K' hK=>by simp only[go_sem];(repeat (refine⟨by first | exact an | exact⟨C0 aa 900,rG⟩,?_⟩));exact fD) ?_
     repeat refine sq ?_
     refine dx hΓ hP [[],[0],[],[2],[2,3],u5,u6,u7] [1,2,4,5,6,15,18] [[1,0],[2,0],[4,0],[18,0],[77,0],[158,0],[163,0],[235,0]] (by kernel_rfl) (fun K' hK=>by simp only[go_sem,Int.cast_ofNat_Int,Int.reduceToNat,Int.toNat_zero,Int.toNat_one,Nat.reduceMul,Nat.zero_mul,Nat.one_mul,List.getD_cons_succ,List.getD_cons_zero,vx];(repeat (refine⟨by first | exact an | exact⟨by decide,by decide⟩,?_⟩));exact fG) ?_
     repeat refine sq ?_
     refine aP hΓ fun K' hK=>?_
     simp only[go_sem]
     repeat (refine⟨an,?_⟩)
     refine hK _ ?_
     clear K' hK
     simp only[go_sem]
     refine kp [1,2,4,5,6,15] [[1,0],[2,0],[4,0],[77,0],[158,0],[163,0],[235,0]] ?_
     repeat refine sq ?_
     refine aP hΓ fun K' hK=>?_
     simp only[go_sem]
     repeat (refine⟨an,?_⟩)
     refine hK _ ?_
     clear K' hK
     simp only[go_sem]
     refine⟨i2+1,cz,by(show (nS r)-(i2+1)<(nS r)-i2;omega),?_⟩
     refine bd [1,2,4,5,6,15] [[1,0],[2,0],[4,0],[77,0],[158,0],[163,0],[235,0]] ?_ ?_<;>simp only[go_sem,a7 cz hM,bb,jg,eS,ep,Om,List.map_append,List.length_append,List.map_cons,List.map_nil,List.length_cons,List.length_nil]
    ·repeat refine sq ?_
     have ep:oK r i2 (dC r i2)=aM r.ss[i2].a 5:=by unfold oK;rw[e6,if_neg (by rw[hb];decide)]
     refine aE ?_
     repeat refine sq ?_
     refine dx hΓ hP [[],[0],[],[2],[2,3],u5,u6,u7] [1,2,4,5,6,15,18] [[1,0],[2,0],[4,0],[18,0],[77,0],[158,0],[163,0],[235,0]] (by kernel_rfl) (fun K' hK=>by simp only[go_sem,Int.cast_ofNat_Int,Int.reduceToNat,Int.toNat_zero,Int.toNat_one,Nat.reduceMul,Nat.zero_mul,Nat.one_mul,List.getD_cons_succ,List.getD_cons_zero,vx];(repeat (refine⟨by first | exact an | exact⟨by decide,by decide⟩,?_⟩));exact fG) ?_
     repeat refine sq ?_
     refine aP hΓ fun K' hK=>?_
     simp only[go_sem]
     repeat (refine⟨an,?_⟩)
     refine hK _ ?_
     clear K' hK
     simp only[go_sem]
     refine kp [1,2,4,5,6,15] [[1,0],[2,0],[4,0],[77,0],[158,0],[163,0],[235,0]] ?_
     repeat refine sq ?_
     refine aP hΓ fun K' hK=>?_
     simp only[go_sem]
     repeat (refine⟨an,?_⟩)
     refine hK _ ?_
     clear K' hK
     simp only[go_sem]
     refine⟨i2+1,cz,by(show (nS r)-(i2+1)<(nS r)-i2;omega),?_⟩
     refine bd [1,2,4,5,6,15] [[1,0],[2,0],[4,0],[77,0],[158,0],[163,0],[235,0]] ?_ ?_<;>simp only[go_sem,a7 cz hM,bb,jg,eS,ep,Om,List.map_append,List.length_append,List.map_cons,List.map_nil,List.length_cons,List.length_nil]
   ·repeat refine sq ?_
    have p8:i2=nS r:=by
     simp at hb
     have h:=hi
     unfold nS at h |-
     omega
    subst p8
    refine bT ?_
    simp only[go_sem]
    refine kp [2,4,5] [[2,0],[4,0],[77,0],[158,0],[163,0],[235,0]] ?_
    repeat refine sq ?_
    refine rx hΓ [2,3] [[2,0],[77,0],[158,0],[163,0],[235,0]] (fun K' hK=>by simp only[go_sem];exact ak) ?_
    refine aA ?_
    simp only[go_sem]
    first | rfl | trace_state
end
noncomputable section
structure N2 where
 (a b:Int)
 deriving Inhabited
def Pd(x:N2):V:=.agg [vInt x.a,vInt x.b]
def Ps:V->N2
 | .agg [.int _ a,.int _ b]=>⟨a,b⟩
 |_=>default
def xy:En N2:=⟨Pd,Ps⟩
attribute [go_sem] Pd Ps xy
@[go_sem] theorem aif(x:N2):(⟨x.a,x.b⟩:N2)=x:=rfl
def yD(l:Led)(az:List Int)(a b:Nat)(f:Int):Bool:=!(decide (dq (aV l 900) a f<0)||(ao l a).da==(ao l b).da||decide (az.getD (dq (aV l 900) a f).toNat 0>(ao l b).da))
def na(l:Led)(az:List Int)(a b:Nat)(f:Int):Bool:=!(ao l b).lv.contains f||yD l az a b f
def l9(l:Led)(az:List Int)(a b:Nat):Bool:=(ao l a).pa != (ao l b).pa||(ao l a).lv.all (na l az a b)
theorem QH{p:Int->Bool}{l:List Int}{i:Nat}(h:i<l.length)(hp:p l[i]=false):l.all p=false:=by
 rw[Bool.eq_false_iff]
 intro h2
 rw[List.all_eq_true]at h2
 have :=h2 _ (List.getElem_mem h)
 rw[hp]at this;cases this
theorem acT{p:Int->Bool}{l:List Int}(h:∀ j (hj:j<l.length),p l[j]=true):l.all p=true:=by
 rw[List.all_eq_true]
 intro x hx
 obtain⟨j,hj,rfl⟩:=List.getElem_of_mem hx
 exact h j hj
theorem Ud{x:RV}{i:Nat}{f:Int}:dq x i f= -1\/∃ j:Nat,dq x i f=j/\j<x.ts.length:=by
 unfold dq
 split
 ·rename_i h
  right
  refine⟨_,rfl,?_⟩
  have :=List.findIdx_lt_length_of_exists (p:=jD x (ao x.l i).so f) (xs:=List.range x.ts.length) (by
   obtain⟨y,hy,hp⟩:=List.any_eq_true.1 h;exact⟨y,hy,hp⟩)
  simpa using this
 ·exact .inl rfl
def K97:List (Nat×Spec):=[(73,wq),(15,ph),(103,wt)]
theorem adG:KS K97:=tc IZ.sound<|tc uT.sound<|tc I6.sound<|tn
attribute [go_sem] K97
@[go_sem] def P72:PSpec:=p3 iL dL xy (fun l az n=>(bA l/\az.length=l.ts.length)/\(0<=n.a/\n.a<l.rs.length)/\0<=n.b/\n.b<l.rs.length) (fun l az n=>.bool (l9 l az n.a.toNat n.b.toNat)) true
@[go_sem] def S72:Spec:=P72.toSpec
set_option maxHeartbeats 4000000 in
theorem S2:aU Tryz.prog 72 P72:=by
 refine mq (rs:=[.tmp 6]) Tryz.func72 Tryz.ntmps72 fun l az n hp hw=>?_
 have hP:=eK
 simp only[dL,iL,xy,ft]at hw |-
 have hΓ:=adG
 obtain⟨⟨aa,haz⟩,⟨Gm,Gl⟩,h0b,h1b⟩:=hp
 have ha:n.a.toNat<l.rs.length:=by omega
 have Ba:n.b.toNat<l.rs.length:=by omega
 have ga:(l.rs.map encR).getD n.a.toNat default=encR (ao l n.a.toNat):=by rw[ah ha,cm ha]
 have gb:(l.rs.map encR).getD n.b.toNat default=encR (ao l n.b.toNat):=by rw[ah Ba,cm Ba]
 have kZ:(ao l n.a.toNat).lv.length<=maxLen:=by
  have h1:=ni aa.rs ha
  rw[cm ha]
  unfold eh at h1
  simp only[Bool.and_eq_true]at h1
  have :=(qY.1 h1.1.1.2).2.1
  unfold maxLen;omega
 have hv:=C0 aa 900
 have mL:(aV l 900).ts.length=l.ts.length:=by show (bm _ _ _).length=_;rw[lB]
 repeat refine sq ?_
 refine rx hΓ [1,3,5] [[3,0],[5,0]] (fun K' hK=>by simp only[go_sem];exact ak) ?_
 repeat refine sq ?_
 refine rx hΓ [1,3,5,7] [[3,0],[5,0],[7,0]] (fun K' hK=>by simp only[go_sem,Int.cast_ofNat_Int,Int.reduceToNat,Int.toNat_zero,Int.toNat_one,Nat.reduceMul,Nat.zero_mul,Nat.one_mul,List.getD_cons_succ,List.getD_cons_zero,ga,Gm,Gl,List.length_map];exact ak) ?_
 repeat refine sq ?_
 refine rx hΓ [1,3,5,7,8] [[3,0],[5,0],[7,0],[8,0]] (fun K' hK=>by simp only[go_sem,Int.cast_ofNat_Int,Int.reduceToNat,Int.toNat_zero,Int.toNat_one,Nat.reduceMul,Nat.zero_mul,Nat.one_mul,List.getD_cons_succ,List.getD_cons_zero,gb,h0b,h1b,List.length_map];exact ak) ?_
 generalize hA:ao l n.a.toNat=A at *
 generalize hB:ao l n.b.toNat=B at *
 have A7:l9 l az n.a.toNat n.b.toNat=(A.pa != B.pa||A.lv.all (na l az n.a.toNat n.b.toNat)):=by unfold l9;rw[hA,hB]
 repeat refine sq ?_
 refine rx hΓ [1,3,5,7,8,28] [[3,0],[5,0],[7,0],[8,0]] (fun K' hK=>by simp only[go_sem];exact ak) ?_
 repeat refine sq ?_
 refine ay (fun hb=>?_) fun hb=>?_
 ·repeat refine sq ?_
  have e:l9 l az n.a.toNat n.b.toNat=true:=by rw[A7,show (A.pa != B.pa)=true from hb];rfl
  repeat refine sq ?_
  refine rx hΓ [6] [] (fun K' hK=>by simp only[go_sem];exact ak) ?_
  refine aA ?_
  simp only[go_sem]
  first | (rw[e];done) | (rw[e];rfl) | trace_state
 ·repeat refine sq ?_
  have n9:(A.pa != B.pa)=false:=hb
  refine aE ?_
  repeat refine sq ?_
  refine rx hΓ [1,5,7,8,9] [[5,0],[7,0],[8,0],[9,0]] (fun K' hK=>by simp only[go_sem];(repeat (refine⟨by first | exact an | exact aa,?_⟩));exact fD) ?_
  repeat refine sq ?_
  refine rx hΓ [1,5,7,8,9,10] [[5,0],[7,0],[8,0],[9,0]] (fun K' hK=>by simp only[go_sem];exact ak) ?_
  repeat refine sq ?_
  refine aN ?_
  repeat refine sq ?_
  refine cB (fun s:Nat=>[(10,⟨true,.v (vInt s)⟩)]) (fun s=>[]) (fun s=>s<=A.lv.length/\∀ j (hj:j<A.lv.length),j<s->na l az n.a.toNat n.b.toNat A.lv[j]=true) (fun s=>A.lv.length-s) 0 ?_ ?_ ?_ ?_
  ·exact⟨Nat.zero_le _,fun j _ h=>by omega⟩
  ·rfl
  ·rfl
  rintro i ⟨hi,hR⟩
  simp only[go_sem]
  repeat refine sq ?_
  refine rx hΓ [1,5,7,8,9,10,35] [[5,0],[7,0],[8,0],[9,0]] (fun K' hK=>by simp only[go_sem];exact ak) ?_
  repeat refine sq ?_
  refine ay (fun hb=>?_) fun hb=>?_
  ·have ab:i<A.lv.length:=by simpa using hb
   have au:(i:Int)<A.lv.length:=by omega
   clear hb
   repeat refine sq ?_
   refine aE ?_
   repeat refine sq ?_
   refine aN ?_
   repeat refine sq ?_
   refine dx hΓ hP [[],[0],[],[2],[],[2,3,4],[2,3,4,5],u7,u8] [1,5,7,8,9,10,46] [[5,0],[7,0],[8,0],[9,0]] (by kernel_rfl) (fun K' hK=>by simp only[go_sem,ah ab,ai,aj,au,ah ab,au,ai,aj,List.length_map];exact fF) ?_
   repeat refine sq ?_
   refine ay (fun hb=>?_) fun hb=>?_
   ·repeat refine sq ?_
    have hg:na l az n.a.toNat n.b.toNat A.lv[i]=true:=by unfold na;rw[hB,show (!B.lv.contains A.lv[i])=true from hb];rfl
    refine bT ?_
    simp only[go_sem]
    refine kp [1,5,7,8,9,10] [[5,0],[7,0],[8,0],[9,0]] ?_
    repeat refine sq ?_
    refine aP hΓ fun K' hK=>?_
    simp only[go_sem,ah ab,ai,aj,au]
    repeat (refine⟨an,?_⟩)
    refine hK _ ?_
    clear K' hK
    simp only[go_sem]
    refine⟨i+1,⟨ab,?_⟩,by(show A.lv.length-(i+1)<A.lv.length-i;omega),?_⟩
    ·intro j hj fe
     rcases Nat.lt_succ_iff_lt_or_eq.1 fe with h5 | rfl
     ·exact hR j hj h5
     ·exact hg
    refine bd [1,5,7,8,9,10] [[5,0],[7,0],[8,0],[9,0]] ?_ ?_<;>simp only[go_sem,a7 ab kZ,bb]
   ·repeat refine sq ?_
    have FZ:(!B.lv.contains A.lv[i])=false:=hb
    refine aE ?_
    repeat refine sq ?_
    refine dx hΓ hP [[],[],[1],[],[3],[],[3,4,5],[3,4,5,6],u8,u9] [1,5,7,8,9,10,11] [[5,0],[7,0],[8,0],[9,0]] (by kernel_rfl) (fun K' hK=>by simp only[go_sem,ah ab,ai,aj,au,ah ab,au,ai,aj,Int.cast_ofNat_Int,Int.reduceToNat,Int.toNat_zero,Nat.reduceMul,Nat.zero_mul,List.getD_cons_zero,List.length_map];(repeat (refine⟨by first | exact an | exact rfl | exact⟨hv,Gm,Gl⟩ | exact⟨⟨aa,by show (bm _ _ _).length=_;rw[lB]⟩,Gm,Gl⟩,?_⟩));exact fG) ?_
    rcases Ud (x:=aV l 900) (i:=n.a.toNat) (f:=A.lv[i])with gM | ⟨q,gM,hq⟩
    ·repeat refine sq ?_
     refine dx hΓ hP [[],[0],[0,1],[0,1,2],u4,[0,1,2],[0,1,2,5],u7,u8,u9,ca,ca,[0,1,2,3,4,5,6,7,8,9,11],gT,il,ca,[0,1,2,3,4,5,6,7,8,9,15],lz,gS] [1,5,7,8,9,10,74] [[5,0],[7,0],[8,0],[9,0]] (by kernel_rfl) (fun K' hK=>by simp only[go_sem,ah ab,ai,aj,au,gM,mF,Bool.true_or];exact fF) ?_
     repeat refine sq ?_
     refine ay (fun hb=>?_) fun hb=>?_
     ·repeat refine sq ?_
      have hg:na l az n.a.toNat n.b.toNat A.lv[i]=false:=by unfold na yD;rw[hA,hB,FZ,gM];rfl
      have e:l9 l az n.a.toNat n.b.toNat=false:=by rw[A7,n9,QH ab hg];rfl
      repeat refine sq ?_
      refine rx hΓ [6] [] (fun K' hK=>by simp only[go_sem,ah ab,ai,aj,au,gM,mF,Bool.true_or];exact ak) ?_
      refine aA ?_
      simp only[go_sem]
      first | (rw[e];done) | (rw[e];rfl) | trace_state
     ·cases hb
    ·have bL:q<az.length:=by omega
     have fB:(if (0:Int)>(q:Int)then(0:Int)else(q:Int))=q:=by rw[if_neg (by omega)]
     have jm:decide ((q:Int)<0)=false:=by simp
     have rq:(q:Int)<az.length:=by omega
     repeat refine sq ?_
     refine dx hΓ hP [[],[0],[0,1],[0,1,2],u4,[0,1,2],[0,1,2,5],u7,u8,u9,ca,ca,[0,1,2,3,4,5,6,7,8,9,11],gT,il,ca,[0,1,2,3,4,5,6,7,8,9,15],lz,gS] [1,5,7,8,9,10,74] [[5,0],[7,0],[8,0],[9,0]] (by kernel_rfl) (fun K' hK=>by simp only[go_sem,ah ab,ai,aj,au,gM,jm,fB,ah bL,rq,ai,aj,List.length_map,Bool.false_or];exact fF) ?_
     repeat refine sq ?_
     refine ay (fun hb=>?_) fun hb=>?_
     ·repeat refine sq ?_
      have hg:na l az n.a.toNat n.b.toNat A.lv[i]=false:=by unfold na yD;rw[hA,hB,FZ,gM,jm,ai,cj bL,Bool.or_assoc,hb];rfl
      have e:l9 l az n.a.toNat n.b.toNat=false:=by rw[A7,n9,QH ab hg];rfl
      repeat refine sq ?_
      refine rx hΓ [6] [] (fun K' hK=>by simp only[go_sem,ah ab,ai,aj,au,gM,jm,fB,ah bL,rq,ai,aj,List.length_map,Bool.false_or];exact ak) ?_
      refine aA ?_
      simp only[go_sem]
      first | (rw[e];done) | (rw[e];rfl) | trace_state
     ·repeat refine sq ?_
      have hg:na l az n.a.toNat n.b.toNat A.lv[i]=true:=by unfold na yD;rw[hA,hB,FZ,gM,jm,ai,cj bL,Bool.or_assoc,hb];rfl
      refine aE ?_
      refine bQ ?_
      simp only[go_sem]
      refine kp [1,5,7,8,9,10] [[5,0],[7,0],[8,0],[9,0]] ?_
      repeat refine sq ?_
      refine aP hΓ fun K' hK=>?_
      simp only[go_sem,ah ab,ai,aj,au,gM,jm,fB,ah bL,rq,ai,aj,List.length_map,Bool.false_or]
      repeat (refine⟨an,?_⟩)
      refine hK _ ?_
      clear K' hK
      simp only[go_sem]
      refine⟨i+1,⟨ab,?_⟩,by(show A.lv.length-(i+1)<A.lv.length-i;omega),?_⟩
      ·intro j hj fe
       rcases Nat.lt_succ_iff_lt_or_eq.1 fe with h5 | rfl
       ·exact hR j hj h5
       ·exact hg
      refine bd [1,5,7,8,9,10] [[5,0],[7,0],[8,0],[9,0]] ?_ ?_<;>simp only[go_sem,a7 ab kZ,bb]
  ·have bB:i=A.lv.length:=by
    have :¬ (i:Int)<A.lv.length:=by simpa using hb
    omega
   clear hb
   subst bB
   have e:l9 l az n.a.toNat n.b.toNat=true:=by rw[A7,acT (fun j hj=>hR j hj hj),Bool.or_true]
   repeat refine sq ?_
   refine bT ?_
   simp only[go_sem]
   refine kp [] [] ?_
   repeat refine sq ?_
   refine rx hΓ [6] [] (fun K' hK=>by simp only[go_sem];exact ak) ?_
   refine aA ?_
   simp only[go_sem]
   first | (rw[e];done) | (rw[e];rfl) | trace_state
end
end Go.Eng
