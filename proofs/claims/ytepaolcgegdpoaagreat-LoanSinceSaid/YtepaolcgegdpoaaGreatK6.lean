import Derived.Test.YtepaolcgegdpoaaGreatK5
/- Texts EngP to LW26. -/
set_option linter.all false
namespace Go.Eng
open Go
def cD(obj:Name->Option O):List Name->List O->Prop
 |[],[]=>True
 |x::xs,o::os=>obj x=some o/\cD obj xs os
 |_,_=>False
theorem jE{obj:Name->Option O}:∀ {Ls:List Name} {F:List O},cD obj Ls F↔Ls.map obj=F.map some
 |[],[]=>by simp[cD]
 |x::xs,o::os=>by simp only[cD,List.map_cons,List.cons.injEq,jE]
 |[],_::_=>by simp[cD]
 |_::_,[]=>by simp[cD]
theorem Au{obj obj2:Name->Option O}{Ls:List Name}{F:List O}(h:cD obj Ls F)(ha:∀ x∈Ls,obj2 x=obj x):cD obj2 Ls F:=by
 rw[jE]at h |-
 rw[<-h]
 exact List.map_congr_left ha
theorem As{obj:Name->Option O}:∀ {Ls:List Name} {F:List O},cD obj Ls F->∀ i (h:i<Ls.length) (h':i<F.length),obj Ls[i]=some F[i]
 |_::_,_::_,h,0,_,_=>h.1
 |_::_,_::_,h,i+1,h1,h2=>by
  simp only[List.getElem_cons_succ]
  exact As h.2 i (by simpa using h1) (by simpa using h2)
def wB(K:Exit->S->Prop)(σ:S):Option Code->Prop
 |none=>K .normal σ
 |some .ret=>K .ret σ
 |some (.exit id)=>K (.exit id) σ
 |_=>False
theorem QP{K:Exit->S->Prop}{obj:Name->Option O}{nm:Name}{σ:S}{env:List E}{ps:List Nat}{a b:Code}(pd:Option Code)(h:obj nm=some (.loop env ps a b (if pd.isNone then .ready else .done) pd))
 (hK:wB K σ pd):oL K obj nm σ:=by
 unfold oL
 rw[h]
 rcases pd with _ | c
 ·exact hK
 ·cases c<;>first | exact hK.elim | exact hK
def LR(m:Nat):List Name:=(List.range m).map fun i=>[i,1]
def LI(m:Nat):List Name:=(List.range m).map fun i=>[i+1,1]
theorem mV(m:Nat):(LR m).length=m:=by simp[LR]
theorem gb(m:Nat):(LI m).length=m:=by simp[LI]
theorem Me(m:Nat):(LR m).Nodup:=by
 unfold LR
 exact List.Pairwise.map _ (fun a b h=>by simpa using h) List.nodup_range
theorem yz{Ls:List Name}(hn:Ls.Nodup):Ls.map (cin Ls)=LR Ls.length:=by
 refine List.ext_getElem (by simp[LR]) fun i h1 h2=>?_
 simp only[List.getElem_map,LR,List.getElem_range,cin]
 rw[Bm hn (by simpa using h1)]
theorem De{R:Name}{Ls:List Name}(hn:Ls.Nodup)(hR:R∉Ls):Ls.map (cin (R::Ls))=LI Ls.length:=by
 refine List.ext_getElem (by simp[LI]) fun i h1 h2=>?_
 simp only[List.getElem_map,LI,List.getElem_range,cin]
 have h3:i<Ls.length:=by simpa using h1
 have h4:=Bm (L:=R::Ls) (List.nodup_cons.2 ⟨hR,hn⟩) (i:=i+1) (by simp;omega)
 simp only[List.getElem_cons_succ]at h4
 rw[h4]
theorem KE(Ls:List Name)(t:Name):(LR Ls.length).map (cout Ls t)=Ls:=by
 refine List.ext_getElem (by simp[LR]) fun i h1 h2=>?_
 simp only[List.getElem_map,LR,List.getElem_range,cout]
 exact jU h2
theorem KD(R:Name)(Ls:List Name)(t:Name):(LI Ls.length).map (cout (R::Ls) t)=Ls:=by
 refine List.ext_getElem (by simp[LI]) fun i h1 h2=>?_
 simp only[List.getElem_map,LI,List.getElem_range,cout]
 rw[jU (by simpa using h2)]
 simp
def dA:List Name->List O->(Name->Option O)->(Name->Option O)
 |x::xs,o::os,obj=>dA xs os (upd obj x (some o))
 |_,_,obj=>obj
theorem tC:∀ {Ls:List Name} {F:List O} {obj:Name->Option O} {x:Name},x∉Ls->dA Ls F obj x=obj x
 |[],_,_,_,_=>by simp[dA]
 |_::_,[],_,_,_=>by simp[dA]
 |y::ys,o::os,obj,x,h=>by
  simp only[List.mem_cons,not_or]at h
  simp only[dA]
  rw[tC h.2,aV _ _ _ h.1]
theorem EF:∀ {Ls:List Name} {F:List O} {obj:Name->Option O},Ls.Nodup->Ls.length=F.length->cD (dA Ls F obj) Ls F
 |[],[],_,_,_=>trivial
 |[],_::_,_,_,h=>by simp at h
 |_::_,[],_,_,h=>by simp at h
 |y::ys,o::os,obj,hn,h=>by
  rw[List.nodup_cons]at hn
  refine⟨?_,EF (obj:=upd obj y (some o)) hn.2 (by simpa using h)⟩
  simp only[dA]
  rw[tC hn.1,aN]
def eE:Nat->List O->List (Nat×O)
 |_,[]=>[]
 |k,o::r=>(k,o)::eE (k+1) r
theorem Af{t:Name}{L:List Name}:∀ {Ls:List Name} {k:Nat} {F:List O} {obj:Name->Option O},Ls.length=F.length->(∀ i (h:i<Ls.length),L.getD (k+i) []=Ls[i])->
 cf L t (eE k F) obj=dA Ls (F.map (O.ren (cout L t))) obj
 |[],k,[],obj,_,_=>rfl
 |[],k,_::_,obj,h,_=>by simp at h
 |_::_,k,[],obj,h,_=>by simp at h
 |x::xs,k,o::os,obj,h,hL=>by
  simp only[eE,cf,List.map_cons,dA]
  have h0:=hL 0 (by simp)
  simp only[Nat.add_zero,List.getElem_cons_zero]at h0
  rw[h0]
  exact Af (by simpa using h) fun i hi=>by
   have :=hL (i+1) (by simpa using hi)
   rw[show k+1+i=k+(i+1)by omega]
   simpa using this
theorem A3:∀ {F:List O} {k i:Nat} {o:O},i<k->eo (eE k F) i o=o
 |[],k,i,o,_=>rfl
 |f::r,k,i,o,h=>by
  simp only[eE,eo]
  rw[if_neg (by omega)]
  exact A3 (by omega)
theorem Ap{σ:S}:∀ {F os:List O} {k:Nat} {u:List (Nat×O)},F.length=os.length->(∀ i,k<=i->∀ o,eo u i o=eo (eE k F) i o)->
 (∀ i (h:i<F.length),σ.obj [k+i,1]=some F[i])->pP σ u k os
 |[],[],_,_,_,_,_=>trivial
 |[],_::_,_,_,h,_,_=>by simp at h
 |_::_,[],_,_,h,_,_=>by simp at h
 |f::fs,o::os,k,u,h,hu,hs=>by
  refine⟨?_,Ap (F:=fs) (by simpa using h) (fun i hi x=>?_) fun i hi=>?_⟩
  ·have h0:=hs 0 (by simp)
   simp only[Nat.add_zero,List.getElem_cons_zero]at h0
   rw[h0,hu k (Nat.le_refl _) o]
   simp only[eE,eo,if_true]
   rw[A3 (by omega)]
  ·rw[hu i (by omega) x]
   simp only[eE,eo]
   rw[if_neg (by omega)]
  ·have:=hs (i+1) (by simpa using hi)
   rw[show k+1+i=k+(i+1)by omega]
   simpa using this
structure Lp where
 m:Nat
 env:List Name->List E
 fam:List Name->Nat->List O
 ps:List Nat
 asg:Code
 body:Code
 n:Nat
 vals:Nat->List D
 st:Nat->Option Code
 fu:Nat
structure Lp.Ok (r:Lp):Prop where
 len:∀ Ls s,Ls.length=r.m->(r.fam Ls s).length=r.m
 renE:∀ f Ls,Ls.length=r.m->(r.env Ls).map (E.ren f)=r.env (Ls.map f)
 renF:∀ f Ls s,Ls.length=r.m->(r.fam Ls s).map (O.ren f)=r.fam (Ls.map f) s
 reach:∀ Ls s obj acc k,Ls.length=r.m->Ls.Nodup->(∀ x∈Ls,x∉acc)->cD obj Ls (r.fam Ls s)->cY obj (k+r.fu) (cI ((r.env Ls).map (·.d))) acc=acc++Ls
 closE:∀ dom Ls,Ls.length=r.m->(∀ x∈Ls,dom x=true)->D.closL dom ((r.env Ls).map (·.d))=true
 closF:∀ dom Ls s,Ls.length=r.m->(∀ x∈Ls,dom x=true)->∀ o∈r.fam Ls s,O.clos dom o=true
 psz:∀ Ls,Ls.length=r.m->(r.ps.all fun p=>decide (p<(r.env Ls).length))=true
 args:∀ s,(r.vals s).length=r.ps.length
 fuel:r.fu<=2000
 vnam:∀ s,cI (r.vals s)=[]
 vcl:∀ s dom,D.closL dom (r.vals s)=true
 vren:∀ s f,D.renL f (r.vals s)=r.vals s
 inj:∀ s s',s<r.n->s'<r.n->r.vals s=r.vals s'->s=s'
theorem P0(a b:List D):cI (a++b)=cI a++cI b:=by
 induction a with
 |nil=>rfl
 |cons x r ih=>simp only[List.cons_append,cI,ih,List.append_assoc]
theorem We(dom:Name->Bool)(a b:List D):D.closL dom (a++b)=(D.closL dom a&&D.closL dom b):=by
 induction a with
 |nil=>simp[D.closL]
 |cons x r ih=>simp only[List.cons_append,D.closL,ih,Bool.and_assoc]
noncomputable def Lp.y(r:Lp):YSpec where
 pre:=fun env ps asg body os ds=>∃ s,s<r.n/\(∀ j,j<s->r.st j=none)/\env=r.env (LR r.m)/\ps=r.ps/\asg=r.asg/\body=r.body/\os=r.fam (LR r.m) s/\ds=r.vals s
 out:=fun _ _ _ _ _ ds=>by
  classical exact if h:∃ s,s<r.n/\ds=r.vals s then(⟨eE 0 (r.fam (LR r.m) (h.choose+1)),[],.v (.bool true)⟩,r.st h.choose)else(⟨[],[],.any⟩,none)
theorem Lp.y_out{r:Lp}(hr:r.Ok){s:Nat}(hs:s<r.n)(env:List E)(ps:List Nat)(asg body:Code)(os:List O):
 r.y.out env ps asg body os (r.vals s)=(⟨eE 0 (r.fam (LR r.m) (s+1)),[],.v (.bool true)⟩,r.st s):=by
 have h:∃ s',s'<r.n/\r.vals s=r.vals s':=⟨s,hs,rfl⟩
 have e:h.choose=s:=(hr.inj _ _ hs h.choose_spec.1 h.choose_spec.2).symm
 simp only[Lp.y]
 rw[dif_pos h,e]
def O0(m:Nat)(F:List O)(p:Option Code):Exit->S->Prop
 | .normal,σ=>p=none/\cD σ.obj (LR m) F
 | .ret,σ=>p=some .ret/\cD σ.obj (LR m) F
 | .exit id,σ=>p=some (.exit id)/\cD σ.obj (LR m) F
 |_,_=>False
theorem VE{os F:List O}{σ:S}{m:Nat}(h1:os.length=m)(h2:F.length=m)(hc:∀ dom:Name->Bool,(∀ x∈LR m,dom x=true)->∀ o∈F,O.clos dom o=true)(h:cD σ.obj (LR m) F):
 ft os ⟨eE 0 F,[],.v (.bool true)⟩ σ:=by
 have qq:∀ i (hi:i<F.length),σ.obj [i,1]=some F[i]:=by
  rw[jE]at h
  intro i hi
  have h3:=congrArg (fun l=>l[i]?) h
  have bu:i<m:=by omega
  simpa[LR,hi,bu]using h3
 refine⟨Ap (F:=F) (by omega) (fun i _ o=>rfl) fun i hi=>by rw[Nat.zero_add];exact qq i hi,trivial,?_⟩
 have o0:∀ x∈LR m,cL os.length [] x=true:=by
  intro x hx
  obtain⟨i,hi,rfl⟩:=List.mem_map.1 hx
  have :=List.mem_range.1 hi
  simp[cL]
  omega
 have dO:∀ (F':List O) (k:Nat),(∀ o∈F',O.clos (cL os.length []) o=true)->k+F'.length<=os.length->((eE k F').all fun x=>O.clos (cL os.length []) x.2&&decide (x.1<os.length))=true:=by
  intro F'
  induction F' with
  |nil=>intros;rfl
  |cons f fs ih=>
   intro k hf hk
   simp only[List.length_cons]at hk
   simp only[eE,List.all_cons,Bool.and_eq_true,decide_eq_true_eq]
   exact⟨⟨hf f (by simp),by omega⟩,by have:=ih (k+1) (fun o ho=>hf o (by simp[ho])) (by omega);simpa using this⟩
 have :=dO F 0 (hc _ o0) (by omega)
 simp only[D.clos,this,List.all_nil,List.map_nil,distinct,Bool.and_self]
theorem Lp.y_sound{P:Program}{r:Lp}(hr:r.Ok)(h:∀ s,s<r.n->(∀ j,j<s->r.st j=none)->
 CW P r.asg ⟨(r.env (LR r.m)).length,ov (qH (r.env (LR r.m))) r.ps (r.vals s),aS (r.fam (LR r.m) s),[0],0⟩ (FE fun σ1=>CW P r.body σ1 (O0 r.m (r.fam (LR r.m) (s+1)) (r.st s)))):aL P yid r.y.toSpec:=by
 refine D0 ?_
 rintro env ps asg body os ds ⟨s,hs,hj,rfl,rfl,rfl,rfl,rfl,rfl⟩ _
 rw[Lp.y_out hr hs]
 refine CW.mono (h s hs hj) fun e σ hk=>?_
 cases e with
 |normal=>
  refine CW.mono hk fun e σ hk=>?_
  have fin:cD σ.obj (LR r.m) (r.fam (LR r.m) (s+1))->ft (r.fam (LR r.m) s) ⟨eE 0 (r.fam (LR r.m) (s+1)),[],.v (.bool true)⟩ σ:=
   VE (hr.len _ _ (mV _)) (hr.len _ _ (mV _)) fun dom hd=>hr.closF dom _ _ (mV _) hd
  cases e with
  |normal=>exact⟨hk.1,fin hk.2⟩
  |ret=>exact⟨hk.1,fin hk.2⟩
  |exit id=>exact⟨hk.1,fin hk.2⟩
  |goto l=>exact hk.elim
  |panic c=>exact hk.elim
  |outgrown=>exact hk.elim
 |ret=>exact hk.elim
 |exit id=>exact hk.elim
 |goto l=>exact hk.elim
 |panic c=>exact hk.elim
 |outgrown=>exact hk.elim
def Lp.rc(r:Lp)(Ls:List Name)(st:LoopState)(pd:Option Code):O:=.loop (r.env Ls) r.ps r.asg r.body st pd
theorem Lp.y_app{r:Lp}(hr:r.Ok){s:Nat}(hs:s<r.n)(hj:∀ j,j<s->r.st j=none){obj:Name->Option O}{t R:Name}{Ls:List Name}(hl:Ls.length=r.m)(hn:Ls.Nodup)(hR:R∉Ls)
 (h0:obj R=some (r.rc Ls .ready none)) (hF:cD obj Ls (r.fam Ls s)):
 r.y.toSpec.app obj t (.yld R::r.vals s)=⟨True,.v (.bool (r.st s).isNone),upd (dA Ls (r.fam Ls (s+1)) obj) R (some (r.rc Ls (if (r.st s).isNone then .ready else .done) (r.st s)))⟩:=by
 have iO:reach obj (roots (r.env Ls) (r.vals s))=Ls:=by
  unfold reach roots
  rw[P0,hr.vnam,List.append_nil]
  have :=hr.reach Ls s obj [] (3000-r.fu) hl hn (fun _ _=>by simp) hF
  rwa [show 3000-r.fu+r.fu=3000 by have:=hr.fuel;omega]at this
 have e1:cb obj (roots (r.env Ls) (r.vals s))=r.fam (LR r.m) s:=by
  unfold cb
  rw[iO]
  have :Ls.map (ck Ls obj)=(r.fam Ls s).map (O.ren (cin Ls)):=by
   rw[jE]at hF
   refine List.ext_getElem (by simp[hr.len _ _ hl,hl]) fun i h1 h2=>?_
   have h3:i<Ls.length:=by simpa using h1
   have h4:i<(r.fam Ls s).length:=by rw[hr.len _ _ hl,<-hl];exact h3
   have h5:=congrArg (fun l=>l[i]?) hF
   have h6:obj Ls[i]=some (r.fam Ls s)[i]:=by simpa[h3,h4]using h5
   simp only[List.getElem_map,ck,h6]
  rw[this,hr.renF _ _ _ hl,yz hn,hl]
 have e2:gw obj (r.env Ls) (r.vals s)=r.env (LR r.m):=by
  unfold gw
  rw[iO,hr.renE _ _ hl,yz hn,hl]
 have e3:iu obj (r.env Ls) (r.vals s)=r.vals s:=by
  unfold iu
  exact hr.vren s _
 have e4:r.y.o obj (r.env Ls) r.ps r.asg r.body (r.vals s)=(⟨eE 0 (r.fam (LR r.m) (s+1)),[],.v (.bool true)⟩,r.st s):=by
  unfold YSpec.o
  rw[e1,e2,e3,Lp.y_out hr hs]
 have dn:r.y.pre (r.env (LR r.m)) r.ps r.asg r.body (r.fam (LR r.m) s) (r.vals s):=⟨s,hs,hj,rfl,rfl,rfl,rfl,rfl,rfl⟩
 have cq:D.closL (cE Ls) (roots (r.env Ls) (r.vals s))=true:=by
  unfold roots
  rw[We,hr.vcl,Bool.and_true]
  exact hr.closE _ _ hl fun x hx=>fD.2 hx
 have iM:shut obj Ls=true:=by
  unfold shut
  rw[List.all_eq_true]
  intro x hx
  obtain⟨i,hi,rfl⟩:=List.getElem_of_mem hx
  rw[jE]at hF
  have h4:i<(r.fam Ls s).length:=by rw[hr.len _ _ hl,<-hl];exact hi
  have h5:=congrArg (fun l=>l[i]?) hF
  have h6:obj Ls[i]=some (r.fam Ls s)[i]:=by simpa[hi,h4]using h5
  rw[h6]
  exact hr.closF _ _ _ hl (fun x hx=>fD.2 hx) _ (List.getElem_mem h4)
 have Tr:cE Ls R=false:=by
  cases h:cE Ls R with
  |false=>rfl
  |true=>exact(hR (fD.1 h)).elim
 have hp:cf Ls t (eE 0 (r.fam (LR r.m) (s+1))) obj=dA Ls (r.fam Ls (s+1)) obj:=by
  rw[Af (Ls:=Ls) (by rw[hr.len _ _ (mV _),hl]) fun i hi=>by rw[Nat.zero_add];exact jU hi,hr.renF _ _ _ (mV _)]
  have :(LR r.m).map (cout Ls t)=Ls:=by rw[<-hl];exact KE Ls t
  rw[this]
 unfold Lp.rc at h0
 simp only[YSpec.toSpec,h0,e1,e2,e3,e4,iO,cq,iM,Tr,fresh,List.all_nil,Bool.and_self,Bool.not_false,hr.args,decide_true,hr.psz Ls hl,dn,cV,hp,and_self]
 rfl
def Lp.e(r:Lp):Nat:=match (List.range r.n).find? (fun s=>(r.st s).isSome)with | some s=>s+1 | none=>r.n
def Lp.pd(r:Lp):Option Code:=match (List.range r.n).find? (fun s=>(r.st s).isSome)with | some s=>r.st s | none=>none
def Lp.fin(r:Lp)(Ls:List Name):O:=r.rc Ls (if r.pd.isNone then .ready else .done) r.pd
def Lp.it(r:Lp)(dq:List V):CSpec where
 pre:=fun os ds=>os=r.rc (LI r.m) .ready none::r.fam (LI r.m) 0/\ds=.yld [0,1]::dq.map .v
 out:=fun _ _=>⟨(0,r.fin (LI r.m))::eE 1 (r.fam (LI r.m) r.e),[],.tup []⟩
theorem Lp.it_end{P:Program}{r:Lp}(hr:r.Ok){σ:S}(h0:σ.obj [0,1]=some (r.fin (LI r.m)))(h1:cD σ.obj (LI r.m) (r.fam (LI r.m) r.e)):
 (bF P σ []).ok/\(bF P σ []).d=.tup []/\ft (r.rc (LI r.m) .ready none::r.fam (LI r.m) 0) ⟨(0,r.fin (LI r.m))::eE 1 (r.fam (LI r.m) r.e),[],.tup []⟩ σ:=by
 have TC:=hr.len (LI r.m) 0 (gb _)
 have hle:=hr.len (LI r.m) r.e (gb _)
 have qq:∀ i (hi:i<(r.fam (LI r.m) r.e).length),σ.obj [1+i,1]=some (r.fam (LI r.m) r.e)[i]:=by
  intro i hi
  have h3:=As h1 i (by rw[gb];omega) hi
  rw[Nat.add_comm]
  simpa only[LI,List.getElem_map,List.getElem_range]using h3
 have o0:∀ x∈LI r.m,cL (r.m+1) [] x=true:=by
  intro x hx
  obtain⟨i,hi,rfl⟩:=List.mem_map.1 hx
  have :=List.mem_range.1 hi
  simp[cL]
  omega
 refine⟨fun x hx=>by simp at hx,rfl,⟨⟨?_,Ap (F:=r.fam (LI r.m) r.e) (by omega) (fun i hi o=>by simp only[eo];rw[if_neg (by omega)]) qq⟩,trivial,?_⟩⟩
 ·simp only[eo,if_true]
  rw[h0,A3 (by omega)]
 have dO:∀ (F':List O) (k:Nat),(∀ o∈F',O.clos (cL (r.m+1) []) o=true)->k+F'.length<=r.m+1->((eE k F').all fun x=>O.clos (cL (r.m+1) []) x.2&&decide (x.1<r.m+1))=true:=by
  intro F'
  induction F' with
  |nil=>intros;rfl
  |cons f fs ih=>
   intro k hf hk
   simp only[List.length_cons]at hk
   simp only[eE,List.all_cons,Bool.and_eq_true,decide_eq_true_eq]
   exact⟨⟨hf f (by simp),by omega⟩,by have:=ih (k+1) (fun o ho=>hf o (by simp[ho])) (by omega);simpa using this⟩
 have h5:=dO (r.fam (LI r.m) r.e) 1 (hr.closF _ _ _ (gb _) o0) (by omega)
 have h6:O.clos (cL (r.m+1) []) (r.fin (LI r.m))=true:=hr.closE _ _ (gb _) o0
 have hlen:(r.rc (LI r.m) .ready none::r.fam (LI r.m) 0).length=r.m+1:=by rw[List.length_cons,TC]
 have h7:D.clos (cL (r.m+1) []) (.tup [])=true:=rfl
 simp only[hlen,h7,List.all_cons,h6,h5,List.all_nil,List.map_nil,distinct,Bool.and_self,Bool.true_and,Bool.and_true]
 simp
structure zp (r:Lp) (dq:List Name->List D):Prop where
 ren:∀ f Ls,Ls.length=r.m->D.renL f (dq Ls)=dq (Ls.map f)
 clo:∀ dom Ls,Ls.length=r.m->(∀ x∈Ls,dom x=true)->D.closL dom (dq Ls)=true
 reach:∀ Ls s obj R k,Ls.length=r.m->(R::Ls).Nodup->cD obj Ls (r.fam Ls s)->obj R=some (r.rc Ls .ready none)->cY obj (k+r.fu+1) (R::cI (dq Ls)) []=R::Ls
def Lp.itC(r:Lp)(dq:List Name->List D):CSpec where
 pre:=fun os ds=>os=r.rc (LI r.m) .ready none::r.fam (LI r.m) 0/\ds=.yld [0,1]::dq (LI r.m)
 out:=fun _ _=>⟨(0,r.fin (LI r.m))::eE 1 (r.fam (LI r.m) r.e),[],.tup []⟩
theorem Lp.itC_app{r:Lp}(hr:r.Ok){dq:List Name->List D}(uW:zp r dq){obj:Name->Option O}{t R:Name}{Ls:List Name}(hl:Ls.length=r.m)(hn:Ls.Nodup)(hR:R∉Ls)
 (h0:obj R=some (r.rc Ls .ready none)) (hF:cD obj Ls (r.fam Ls 0)):
 (r.itC dq).toSpec.app obj t (.yld R::dq Ls)=⟨True,.tup [],dA Ls (r.fam Ls r.e) (upd obj R (some (r.fin Ls)))⟩:=by
 have xC:(R::Ls).Nodup:=List.nodup_cons.2 ⟨hR,hn⟩
 have iO:reach obj (.yld R::dq Ls)=R::Ls:=by
  unfold reach
  have :=uW.reach Ls 0 obj R (2999-r.fu) hl xC hF h0
  rw[show 2999-r.fu+r.fu+1=3000 by have:=hr.fuel;omega]at this
  exact this
 have Us:∀ s,cD obj Ls (r.fam Ls s)->Ls.map (ck (R::Ls) obj)=(r.fam Ls s).map (O.ren (cin (R::Ls))):=by
  intro s hF
  rw[jE]at hF
  refine List.ext_getElem (by simp[hr.len _ _ hl,hl]) fun i h1 h2=>?_
  have h3:i<Ls.length:=by simpa using h1
  have h4:i<(r.fam Ls s).length:=by rw[hr.len _ _ hl,<-hl];exact h3
  have h5:=congrArg (fun l=>l[i]?) hF
  have h6:obj Ls[i]=some (r.fam Ls s)[i]:=by simpa[h3,h4]using h5
  simp only[List.getElem_map,ck,h6]
 have e1:cb obj (.yld R::dq Ls)=r.rc (LI r.m) .ready none::r.fam (LI r.m) 0:=by
  unfold cb
  rw[iO,List.map_cons,Us 0 hF,hr.renF _ _ _ hl,De hn hR,hl]
  congr 1
  unfold Lp.rc at h0 |-
  simp only[ck,h0,O.ren]
  rw[hr.renE _ _ hl,De hn hR,hl]
 have e2:cH obj (.yld R::dq Ls)=.yld [0,1]::dq (LI r.m):=by
  unfold cH
  rw[iO]
  simp only[D.renL,D.ren,uW.ren _ _ hl]
  rw[De hn hR,hl]
  simp only[cin,idx,if_true]
 have dn:(r.itC dq).pre (r.rc (LI r.m) .ready none::r.fam (LI r.m) 0) (.yld [0,1]::dq (LI r.m)):=⟨rfl,rfl⟩
 have hG:∀ os ds,(r.itC dq).out os ds=⟨(0,r.fin (LI r.m))::eE 1 (r.fam (LI r.m) r.e),[],.tup []⟩:=fun _ _=>rfl
 have B6:∀ x∈Ls,cE (R::Ls) x=true:=fun x hx=>fD.2 (List.mem_cons_of_mem _ hx)
 have iM:shut obj (R::Ls)=true:=by
  unfold shut
  rw[List.all_eq_true]
  intro x hx
  rcases List.mem_cons.1 hx with rfl | hx
  ·rw[h0]
   unfold Lp.rc
   exact hr.closE _ _ hl B6
  obtain⟨i,hi,rfl⟩:=List.getElem_of_mem hx
  rw[jE]at hF
  have h4:i<(r.fam Ls 0).length:=by rw[hr.len _ _ hl,<-hl];exact hi
  have h5:=congrArg (fun l=>l[i]?) hF
  have h6:obj Ls[i]=some (r.fam Ls 0)[i]:=by simpa[hi,h4]using h5
  rw[h6]
  exact hr.closF _ _ _ hl B6 _ (List.getElem_mem h4)
 have cq:D.closL (cE (R::Ls)) (.yld R::dq Ls)=true:=by
  show (cE (R::Ls) R&&D.closL _ _)=true
  rw[uW.clo _ _ hl B6]
  simp[cE]
 have hp:∀ obj',cf (R::Ls) t (eE 1 (r.fam (LI r.m) r.e)) obj'=dA Ls (r.fam Ls r.e) obj':=by
  intro obj'
  rw[Af (Ls:=Ls) (by rw[hr.len _ _ (gb _),hl]) fun i hi=>by
   rw[Nat.add_comm,List.getD_cons_succ];exact jU hi,hr.renF _ _ _ (gb _)]
  have :(LI r.m).map (cout (R::Ls) t)=Ls:=by rw[<-hl];exact KD R Ls t
  rw[this]
 have hf:O.ren (cout (R::Ls) t) (r.fin (LI r.m))=r.fin Ls:=by
  unfold Lp.fin Lp.rc
  simp only[O.ren]
  rw[hr.renE _ _ (gb _)]
  have :(LI r.m).map (cout (R::Ls) t)=Ls:=by rw[<-hl];exact KD R Ls t
  rw[this]
 simp only[CSpec.toSpec,e1,e2,iO,hG,iM,cq,fresh,List.all_nil,Bool.and_self,dn,and_self,cV,cf,List.getD_cons_zero,hf,hp,D.ren,D.renL]
theorem KN{P:Program}{r:Lp}(hr:r.Ok){dq:List Name->List D}(uW:zp r dq){g:Operand}{ps:Array Tmp}{asg body:Code}{σ:S}{rest:List Code}{K:Exit->S->Prop}(k k':Nat){f:FuncId}{Ls:List Name}
 (hc:cC σ g=true) (hg:an σ g=.clo (.func f) [] (dq Ls)) (aD:f≠yid) (hs:aL P f (r.itC dq).toSpec) (qi:σ.obj (k::σ.pre)=none)
 (he:(List.range σ.nt).map σ.env=r.env Ls) (fF:ps.toList=r.ps) (ha:asg=r.asg) (hb:body=r.body) (hl:Ls.length=r.m) (hn:Ls.Nodup) (hR:(k::σ.pre)∉Ls) (hF:cD σ.obj Ls (r.fam Ls 0))
 (hK:∀ o:O,wB (iv (fun σ'=>CL P rest σ' K) K) { σ with obj:=upd (dA Ls (r.fam Ls r.e) σ.obj) (k::σ.pre) (some o) } r.pd):CL P (.rangeFunc g ps asg body::rest) σ K:=by
 subst ha
 subst hb
 generalize uY:k::σ.pre=R at *
 have UD:∀ x∈Ls,(upd σ.obj R (some (r.rc Ls .ready none))) x=σ.obj x:=fun x hx=>aV _ _ _ (by rintro rfl;exact hR hx)
 have xW:=Lp.itC_app hr uW (t:=k'::σ.pre) hl hn hR (aN σ.obj R (some (r.rc Ls .ready none))) (Au hF UD)
 have IM:O.loop ((List.range σ.nt).map σ.env) ps.toList r.asg r.body .ready none=r.rc Ls .ready none:=by unfold Lp.rc;rw[he,fF]
 have nO:eh (an σ g) [.yld R]=.yld R::dq Ls:=by rw[hg];rfl
 have eO:fv (an σ g)=some f:=by rw[hg];simp[fv,aD]
 have S':∀ (F:List O) (obj:Name->Option O) (a b:Option O),upd (dA Ls F (upd obj R a)) R b=upd (dA Ls F obj) R b:=by
  intro F obj a b
  funext x
  by_cases h:x=R
  ·subst h;rw[aN,aN]
  ·rw[aV _ _ _ h,aV _ _ _ h]
   have :∀ (Ls:List Name) (F:List O) (o1 o2:Name->Option O),o1 x=o2 x->dA Ls F o1 x=dA Ls F o2 x:=by
    intro Ls
    induction Ls with
    |nil=>intro F o1 o2 h;simpa[dA]using h
    |cons y ys ih=>
     intro F o1 o2 h
     cases F with
     |nil=>simpa[dA]using h
     |cons f fs=>
      simp only[dA]
      refine ih fs _ _ ?_
      by_cases e:x=y
      ·subst e;rw[aN,aN]
      ·rw[aV _ _ _ e,aV _ _ _ e,h]
   exact this Ls F _ _ (aV _ _ _ h)
 refine WA (Γ:=fun x=>if x=f then some (r.itC dq).toSpec else none) (fun x s hx=>by
  split at hx
  ·rename_i e;cases hx;subst e;exact hs
  ·cases hx) k k' hc eO aD (if_pos rfl) (by rw[uY];exact qi) ?_ ?_
 ·rw[uY,nO,IM,xW];trivial
 ·rw[uY,nO,IM,xW]
  have lS:dA Ls (r.fam Ls r.e) (upd (upd σ.obj R (some (r.rc Ls .ready none))) R (some (r.fin Ls))) R=some (r.fin Ls):=by rw[tC hR,aN]
  have qd:lk (dA Ls (r.fam Ls r.e) (upd (upd σ.obj R (some (r.rc Ls .ready none))) R (some (r.fin Ls)))) R=
      upd (dA Ls (r.fam Ls r.e) σ.obj) R (some (r.rc Ls .exhausted r.pd)):=by
   unfold lk
   rw[lS]
   unfold Lp.fin Lp.rc
   simp only[S']
  refine QP r.pd lS ?_
  rw[qd]
  exact hK (r.rc Ls .exhausted r.pd)
theorem MC{σ:S}(b nm:Name)(i k sz:Nat)(cs:List D)(L:List V)(hb:σ.obj b=some (.box cs))(hi:cs[i]?=some (.msl nm k))(hn:σ.obj nm=some (.arr sz L))(hk:k=L.length):
 ga σ ⟨σ.nt,σ.env,upd (upd σ.obj nm (some (.farr sz L))) b (some (.box (cs.set i (.v (.sl L))))),σ.pre,σ.base⟩:=by
 intro G φ m a w hC
 have aD:b≠nm:=fun e=>by subst e;rw[hb]at hn;cases hn
 obtain⟨h1,h2,h3,us,T,f,h4,h5,h6,h7⟩:=hC.objs b _ hb
 obtain⟨oX,B8⟩:=List.getElem?_eq_some_iff.1 hi
 have h0:i<us.size:=by omega
 have h8:=h7 i oX h0
 rw[B8]at h8
 have cB:aH 6 σ.obj (.msl nm k)=⟨k=L.length,.sl L,upd σ.obj nm (some (.farr sz L))⟩:=by simp only[aH,hn]
 obtain⟨m2,k1,k2,k3,k4,_⟩:=nV 6 _ _ _ _ _ _ hC _ _ h8 (by rw[cB];exact hk)
 rw[cB]at k2 k3 k4
 simp only at k2 k3 k4
 have cX:(upd σ.obj nm (some (.farr sz L))) b=some (.box cs):=by rw[aV _ _ _ aD];exact hb
 have sm:=Ext.same (φ:=φ) (o':=.box (cs.set i (.v (.sl L)))) cX rfl rfl
 have IA:=sm
 rw[fx]at IA
 refine⟨_,m2,k2.chg (w':=w) b (.box (cs.set i (.v (.sl L)))) _ sm ⟨rfl,rfl,rfl,Nat.le_refl _⟩ (fun _ _ _=>rfl) (fun _=>.inr ⟨⟨_,cX,rfl,h2⟩,rfl⟩) ?_⟩
 rw[fx]
 refine⟨h1,h2,fun d hd=>?_,us,T,f,h4,h5,by simpa using h6,fun j hj eA=>?_⟩
 ·rcases List.mem_or_eq_of_mem_set hd with h | h
  ·exact h3 d h
  ·subst h;rfl
 ·simp only[List.length_set]at hj
  rw[List.getElem_set]
  by_cases fb:i=j
  ·subst fb
   rw[if_pos rfl]
   exact .v _ _ k4
  ·rw[if_neg fb]
   exact((h7 j hj eA).ext k1 k3).ext (Mem.le_refl m2) IA
theorem vP{σ τ:S}(b nm:Name)(i k sz:Nat)(cs:List D)(L:List V)(hb:σ.obj b=some (.box cs))(hi:cs[i]?=some (.msl nm k))(hn:σ.obj nm=some (.arr sz L))(hk:k=L.length)(ks:List Nat)(ns:List Name)
 (h:gp ks ns ⟨σ.nt,σ.env,upd (upd σ.obj nm (some (.farr sz L))) b (some (.box (cs.set i (.v (.sl L))))),σ.pre,σ.base⟩)
 (hJ:gB ks ns ⟨σ.nt,σ.env,upd (upd σ.obj nm (some (.farr sz L))) b (some (.box (cs.set i (.v (.sl L))))),σ.pre,σ.base⟩=τ):ga σ τ:=
 (MC b nm i k sz cs L hb hi hn hk).trans (ru ks ns h hJ)
open Go Go.Proofs
set_option maxHeartbeats 8000000
noncomputable section
@[go_sem] def P184:PSpec:=p2 ev iI (fun _ _=>True) (fun l v=>vInt (db (fun x=>v==x) l)) true
@[go_sem] def XC:Spec:=P184.toSpec
theorem Oe:aU Tryz.prog 184 P184:=by
 refine dV (rs:=[.tmp 4]) Tryz.func184 Tryz.ntmps184 fun l v hp hw=>?_
 simp only[iI,ev]at hw |-
 have hΓ:=@eT Tryz.prog
 have hl:l.length<=maxLen:=by have:=hw.1.1;simpa using this
 repeat refine sq ?_
 refine rx hΓ [0,1] [] (fun K' hK=>by simp only[go_sem];exact ao) ?_
 repeat refine sq ?_
 refine rx hΓ [0,1,7,8] [] (fun K' hK=>by simp only[go_sem];exact ao) ?_
 repeat refine sq ?_
 refine aQ ?_
 repeat refine sq ?_
 refine cr (fun s:Nat=>[(8,⟨true,.v (vInt s)⟩)]) (fun s=>[]) (fun s=>s<=l.length/\∀ k (h:k<l.length),k<s->(fun x:Int=>v==x) l[k]=false) (fun s=>l.length-s) 0 ?_ ?_ ?_ ?_
 ·exact⟨Nat.zero_le _,by simp⟩
 ·rfl
 ·rfl
 rintro i ⟨hi,hR⟩
 simp only[go_sem]
 repeat refine sq ?_
 refine rx hΓ [0,1,7,8,9] [] (fun K' hK=>by simp only[go_sem];exact ao) ?_
 repeat refine sq ?_
 refine aB (fun hb=>?_) fun hb=>?_
 ·have ae:i<l.length:=by simpa using hb
  have au:(i:Int)<l.length:=by omega
  clear hb
  repeat refine sq ?_
  refine aG ?_
  repeat refine sq ?_
  refine aQ ?_
  repeat refine sq ?_
  refine rx hΓ [0,1,5,7,8] [] (fun K' hK=>by simp only[go_sem,ah ae,ai,aj,au];exact ao) ?_
  repeat refine sq ?_
  refine rx hΓ [0,1,5,7,8,16] [] (fun K' hK=>by simp only[go_sem,ah ae,ai,aj,au];exact ao) ?_
  repeat refine sq ?_
  refine aB (fun hb=>?_) fun hb=>?_
  ·repeat refine sq ?_
   refine rx hΓ [4] [] (fun K' hK=>by simp only[go_sem,ah ae,ai,aj,au];exact ao) ?_
   refine ay ?_
   simp only[go_sem]
   rw[p0 (p:=fun x=>v==x) ae (by simpa using hb) hR]
  ·repeat refine sq ?_
   refine aG ?_
   refine bV ?_
   simp only[go_sem]
   refine kp [0,1,7,8] [] ?_
   repeat refine sq ?_
   refine aY hΓ fun K' hK=>?_
   simp only[go_sem,ah ae,ai,aj,au]
   repeat (refine⟨ak,?_⟩)
   refine hK _ ?_
   clear K' hK
   simp only[go_sem]
   refine⟨i+1,⟨ae,?_⟩,by(show l.length-(i+1)<l.length-i;omega),?_⟩
   ·intro k hk dY
    rcases Nat.lt_succ_iff_lt_or_eq.1 dY with h5 | rfl
    ·exact hR k hk h5
    ·simpa using hb
   refine bq [0,1,7,8] [] ?_ ?_<;>simp only[go_sem,be ae hl,bj]
 ·have bw:i=l.length:=by
   have :¬ (i:Int)<l.length:=by simpa using hb
   omega
  clear hb
  subst bw
  repeat refine sq ?_
  refine bM ?_
  simp only[go_sem]
  refine kp [] [] ?_
  repeat refine sq ?_
  refine rx hΓ [4] [] (fun K' hK=>by simp only[go_sem];exact ao) ?_
  refine ay ?_
  simp only[go_sem]
  rw[uo (p:=fun x=>v==x) fun k hk=>hR k hk hk]
def K18a:List (Nat×Spec):=[(184,XC)]
theorem Zr:KS K18a:=tc Oe.sound<|tn
attribute [go_sem] K18a
theorem Xc(l:List Int)(v:Int):(l.any fun x=>v==x)=l.contains v:=(List.contains_eq_any_beq (l:=l) (a:=v)).symm
@[go_sem] def P108:PSpec:=p2 ev iI (fun _ _=>True) (fun l v=>.bool (l.contains v)) true
@[go_sem] def vE:Spec:=P108.toSpec
theorem zW:aU Tryz.prog 108 P108:=by
 refine dV (rs:=[.tmp 4]) Tryz.func108 Tryz.ntmps108 fun l v hp hw=>?_
 simp only[iI,ev]at hw |-
 have hΓ:=Zr
 repeat refine sq ?_
 refine rx hΓ [0,1] [] (fun K' hK=>by simp only[go_sem];exact ao) ?_
 repeat refine sq ?_
 refine rx hΓ [4] [] (fun K' hK=>by simp only[go_sem,true_or,uq,Xc];exact ao) ?_
 refine ay ?_
 simp only[go_sem]
 all_goals exact dp
def K18b:List (Nat×Spec):=[(108,vE),(150,DM)]
theorem DY:KS K18b:=tc zW.sound<|tc zU.sound<|tn
attribute [go_sem] K18b
def Bo:En (List Int):=⟨fun l=>.ptr [.sl (l.map vInt)],fun v=>match v with | .ptr [.sl l]=>l.map iW | _=>[]⟩
attribute [go_sem] Bo
@[go_sem] def P194:PSpec:=p2 iI Bo (fun _ _=>True) (fun n l=>.bool (l.contains n)) true
@[go_sem] def LZ:Spec:=P194.toSpec
theorem N8:aU Tryz.prog 194 P194:=by
 refine dV (rs:=[.tmp 3]) Tryz.func194 Tryz.ntmps194 fun n l hp hw=>?_
 simp only[iI,Bo]at hw |-
 have hΓ:=DY
 repeat refine sq ?_
 refine rx hΓ [0,1] [] (fun K' hK=>by simp only[go_sem];exact ao) ?_
 repeat refine sq ?_
 refine rx hΓ [3] [] (fun K' hK=>by simp only[go_sem];exact ao) ?_
 refine ay ?_
 simp only[go_sem]
 all_goals exact dp
@[go_sem] def P161:PSpec:=p1 iI (fun _=>True) (fun n=>.bool (!dayB n)) true
@[go_sem] def L6:Spec:=P161.toSpec
theorem On:aU Tryz.prog 161 P161:=by
 refine fw (rs:=[.tmp 2]) Tryz.func161 Tryz.ntmps161 fun n hp hw=>?_
 simp only[iI]at hw |-
 have hΓ:=DY
 repeat refine sq ?_
 refine rx hΓ [0] [] (fun K' hK=>by simp only[go_sem];exact ao) ?_
 repeat refine sq ?_
 refine rx hΓ [2] [] (fun K' hK=>by simp only[go_sem];exact ao) ?_
 refine ay ?_
 simp only[go_sem]
 all_goals exact dp
@[go_sem] def P185:PSpec:=p1 iI (fun _=>True) (fun n=>.bool (!dayB n)) true
@[go_sem] def L3:Spec:=P185.toSpec
theorem Od:aU Tryz.prog 185 P185:=by
 refine fw (rs:=[.tmp 2]) Tryz.func185 Tryz.ntmps185 fun n hp hw=>?_
 simp only[iI]at hw |-
 have hΓ:=DY
 repeat refine sq ?_
 refine rx hΓ [0] [] (fun K' hK=>by simp only[go_sem];exact ao) ?_
 repeat refine sq ?_
 refine rx hΓ [2] [] (fun K' hK=>by simp only[go_sem];exact ao) ?_
 refine ay ?_
 simp only[go_sem]
 all_goals exact dp
def uv:En (Nat×List V):=⟨fun g=>.clo (.func g.1) [] g.2,fun v=>match v with | .clo (.func g) _ cs=>(g,cs) | _=>(0,[])⟩
def pG:Nat×List V->Int->Bool
 |(194,[.ptr [.sl l]]),x=>(l.map iW).contains x
 |_,x=>!dayB x
def wI(g:Nat×List V):Prop:=g=(161,[])\/g=(185,[])\/∃ lv:List Int,g=(194,[.ptr [.sl (lv.map vInt)]])
def K18c:List (Nat×Spec):=[(194,LZ),(161,L6),(185,L3)]
theorem Zq:KS K18c:=tc N8.sound<|tc On.sound<|tc Od.sound<|tn
attribute [go_sem] K18c
def Mh:FuncId->Option Spec:=tbl K18c
theorem Zo:∀ f s,Mh f=some s->aL Tryz.prog f s:=Zq
theorem PJ{g:Nat×List V}(h:wI g):∃ s,Mh g.1=some s/\(¬ g.1=1000000000)/\∀ obj t x,s.app obj t (.v (vInt x)::g.2.map .v)=⟨True,.v (.bool (pG g x)),obj⟩:=by
 rcases h with rfl | rfl | ⟨lv,rfl⟩
 ·exact⟨L6,rfl,by decide,fun obj t x=>by simp only[go_sem,List.map_nil];rfl⟩
 ·exact⟨L3,rfl,by decide,fun obj t x=>by simp only[go_sem,List.map_nil];rfl⟩
 ·exact⟨LZ,rfl,(show ¬ (194:Nat)=1000000000 by decide),fun obj t x=>by simp only[go_sem,List.map_cons,List.map_nil,pf,pG]⟩
@[go_sem] def P192:PSpec:=p2 ev uv (fun _ g=>wI g) (fun l g=>vInt (db (pG g) l)) true
@[go_sem] def Xz:Spec:=P192.toSpec
theorem N9:aU Tryz.prog 192 P192:=by
 refine dV (rs:=[.tmp 4]) Tryz.func192 Tryz.ntmps192 fun l g hp hw=>?_
 simp only[uv,ev]at hw |-
 have hΓ:=Zo
 have hl:l.length<=maxLen:=by have:=hw.1.1;simpa using this
 obtain⟨s_,hs,hy,ha⟩:=PJ hp
 repeat refine sq ?_
 refine rx hΓ [0,1] [] (fun K' hK=>by simp only[go_sem];exact ao) ?_
 repeat refine sq ?_
 refine rx hΓ [0,1,7,8] [] (fun K' hK=>by simp only[go_sem];exact ao) ?_
 repeat refine sq ?_
 refine aQ ?_
 repeat refine sq ?_
 refine cr (fun s:Nat=>[(8,⟨true,.v (vInt s)⟩)]) (fun s=>[]) (fun s=>s<=l.length/\∀ k (h:k<l.length),k<s->pG g l[k]=false) (fun s=>l.length-s) 0 ?_ ?_ ?_ ?_
 ·exact⟨Nat.zero_le _,by simp⟩
 ·rfl
 ·rfl
 rintro i ⟨hi,hR⟩
 simp only[go_sem]
 repeat refine sq ?_
 refine rx hΓ [0,1,7,8,9] [] (fun K' hK=>by simp only[go_sem];exact ao) ?_
 repeat refine sq ?_
 refine aB (fun hb=>?_) fun hb=>?_
 ·have ae:i<l.length:=by simpa using hb
  have au:(i:Int)<l.length:=by omega
  clear hb
  repeat refine sq ?_
  refine aG ?_
  repeat refine sq ?_
  refine aQ ?_
  repeat refine sq ?_
  refine rx hΓ [0,1,5,7,8] [] (fun K' hK=>by simp only[go_sem,ah ae,ai,aj,au];exact ao) ?_
  repeat refine sq ?_
  refine rx hΓ [0,1,5,7,8,16] [] (fun K' hK=>by simp only[go_sem,ah ae,ai,aj,au,hs,hy,ha];exact ao) ?_
  repeat refine sq ?_
  refine aB (fun hb=>?_) fun hb=>?_
  ·repeat refine sq ?_
   refine rx hΓ [4] [] (fun K' hK=>by simp only[go_sem,ah ae,ai,aj,au];exact ao) ?_
   refine ay ?_
   simp only[go_sem]
   rw[p0 (p:=pG g) ae (by simpa using hb) hR]
  ·repeat refine sq ?_
   refine aG ?_
   refine bV ?_
   simp only[go_sem]
   refine kp [0,1,7,8] [] ?_
   repeat refine sq ?_
   refine aY hΓ fun K' hK=>?_
   simp only[go_sem,ah ae,ai,aj,au]
   repeat (refine⟨ak,?_⟩)
   refine hK _ ?_
   clear K' hK
   simp only[go_sem]
   refine⟨i+1,⟨ae,?_⟩,by(show l.length-(i+1)<l.length-i;omega),?_⟩
   ·intro k hk dY
    rcases Nat.lt_succ_iff_lt_or_eq.1 dY with h5 | rfl
    ·exact hR k hk h5
    ·simpa using hb
   refine bq [0,1,7,8] [] ?_ ?_<;>simp only[go_sem,be ae hl,bj]
 ·have bw:i=l.length:=by
   have :¬ (i:Int)<l.length:=by simpa using hb
   omega
  clear hb
  subst bw
  repeat refine sq ?_
  refine bM ?_
  simp only[go_sem]
  refine kp [] [] ?_
  repeat refine sq ?_
  refine rx hΓ [4] [] (fun K' hK=>by simp only[go_sem];exact ao) ?_
  refine ay ?_
  simp only[go_sem]
  rw[uo (p:=pG g) fun k hk=>hR k hk hk]
def K18d:List (Nat×Spec):=[(192,Xz)]
theorem Zp:KS K18d:=tc N9.sound<|tn
attribute [go_sem] K18d
@[go_sem] def P160:PSpec:=p2 ev uv (fun _ g=>wI g) (fun l g=>.bool (l.any (pG g))) true
@[go_sem] def S160:Spec:=P160.toSpec
theorem Oo:aU Tryz.prog 160 P160:=by
 refine dV (rs:=[.tmp 4]) Tryz.func160 Tryz.ntmps160 fun l g hp hw=>?_
 simp only[uv,ev]at hw |-
 have hΓ:=Zp
 repeat refine sq ?_
 refine rx hΓ [0,1] [] (fun K' hK=>by simp only[go_sem];exact ao) ?_
 repeat refine sq ?_
 refine rx hΓ [4] [] (fun K' hK=>by simp only[go_sem,true_or,uq,hp];exact ao) ?_
 refine ay ?_
 simp only[go_sem]
 all_goals exact dp
theorem Il:aL Tryz.prog 160 S160:=Oo.sound
end
noncomputable section
structure l9 (x:Vw):Prop where
 ok:b7 x.l
 bk:∀ q i,bt x.bk q=some i->0<=i/\i<x.l.ts.length
 rs:∀ r∈x.rs,dK r=true
 rn:x.rs.length<=60
 tn:x.ts.length<=60
 ts:∀ i∈x.ts,0<=i/\i<x.l.ts.length
theorem E9{r:Rec}(h:dK r=true):0<r.lv.length/\r.lv.length<=30:=by
 unfold dK at h
 simp only[Bool.and_eq_true]at h
 exact⟨(pV.1 h.1.1.2).1,(pV.1 h.1.1.2).2.1⟩
theorem Fa{r:Rec}(h:dK r=true):0<=r.da/\r.da<=100000:=by
 unfold dK at h
 simp only[Bool.and_eq_true]at h
 have :=h.1.2
 unfold dayB b8 at this
 simpa using this
theorem O3{r:Ret}(h:i7 r=true):0<r.lv.length/\r.lv.length<=30:=by
 unfold i7 at h
 simp only[Bool.and_eq_true]at h
 exact⟨(pV.1 h.1.1.1.2).1,(pV.1 h.1.1.1.2).2.1⟩
theorem vM{d:Int}(h:0<=d/\d<=100000):IntKind.i64.wrap (d+1)=d+1:=wrap_i64 (by omega) (by omega)
theorem lg{l:Led}{i:Nat}(h:i<l.ts.length):aI l i=l.ts[i]:=by unfold aI;exact dv h
theorem b7.recs{l:Led}(h:b7 l):∀ r∈l.rs,dK r=true:=fun r hr=>by
 obtain⟨j,hj,rfl⟩:=List.getElem_of_mem hr
 exact qW h.rs hj
theorem b7.rets{l:Led}(h:b7 l){i:Nat}(hi:i<l.ts.length):i7 (aI l i)=true:=by
 rw[lg hi]
 exact qW h.ts hi
def qN(x:Vw)(a b:Rec)(f:Int):Bool:=(a.pa==b.pa&&b.lv.contains f)&&(a.da==b.da||match bt x.bk (a.so,f)with
 |none=>true
 |some i=>decide (dk (aI x.l i.toNat).lo (a.da+1)>b.da))
theorem C3(x:Vw)(a b:Rec):qO x a b=a.lv.any (qN x a b):=rfl
theorem LC{α:Type}{p:α->Bool}{l:List α}{i:Nat}(h:i<l.length)(hp:p l[i]=true):l.any p=true:=List.any_eq_true.2 ⟨_,List.getElem_mem h,hp⟩
theorem Xb{α:Type}{p:α->Bool}{l:List α}(h:∀ k (hk:k<l.length),p l[k]=false):l.any p=false:=by
 rw[List.any_eq_false]
 intro x hx
 obtain⟨k,hk,rfl⟩:=List.getElem_of_mem hx
 rw[h k hk];decide
theorem zA{l:Led}{i:Int}(h0:0<=i)(h:i<l.ts.length):(l.ts.map c9).getD i.toNat default=c9 (aI l i.toNat):=by
 have h':i.toNat<l.ts.length:=by omega
 rw[ah h',lg h']
def oI(a b:Rec):Rec:=if a.da>b.da then b else a
def jP(a b:Rec):Rec:=if a.da>b.da then a else b
theorem V2(x:Vw)(a b:Rec):jY x a b=qO x (oI a b) (jP a b):=by
 unfold jY oI jP
 split<;>rfl
theorem Qo{a b:Rec}(ha:dK a=true)(hb:dK b=true):dK (oI a b)=true/\dK (jP a b)=true:=by
 unfold oI jP
 split
 ·exact⟨hb,ha⟩
 ·exact⟨ha,hb⟩
def qR(r:Rec):List D:=[.v (vInt r.so),.v (vInt r.bo),.v (vInt r.pa),.v (.sl (r.lv.map vInt)),.v (vInt r.da),.v (vInt r.kn),.v (vInt r.un)]
attribute [go_sem] qR
def K19:List (Nat×Spec):=[(108,vE)]
theorem Zn:KS K19:=tc zW.sound<|tn
attribute [go_sem] K19
def LN:VSpec:=v2 iR iR (fun x a b=>l9 x/\dK a=true/\dK b=true) (fun x a b=>.v (.bool (jY x a b))) none
def S129:Spec:=LN.toSpec
attribute [go_sem] LN S129
set_option maxHeartbeats 8000000 in
theorem Im:aL Tryz.prog 129 S129:=by
 refine vR (rs:=[.tmp 6]) Tryz.func129 Tryz.ntmps129 (by rfl) (by kernel_rfl) (by decide) (fun _ _ _=>by first | rfl | simp[D.clos,D.closL,km]) ⟨_,rfl,lb rfl,fun x a b hp H h0 h1 h2 hO ab=>?_⟩
 have hP:=fB
 simp only[iR,encR,bp,cN,List.map_cons,List.map_nil,Nat.zero_add,Option.map_some,Option.map_none]at h0 |-
 have hΓ:=Zn
 obtain⟨hv,ha,Uy⟩:=hp
 rw[V2]
 obtain⟨xt,jN⟩:=Qo ha Uy
 repeat refine sq ?_
 refine rx hΓ [0,4,5] [[4,0],[5,0]] (fun K' hK=>by simp only[go_sem,hO,ab,h0,h1,h2];(repeat (refine⟨ak,?_⟩));exact hK _ (by simp only[go_sem,hO,ab,h0,h1,h2]) (by simp only[go_sem,hO,ab,h0,h1,h2]<;>rfl)) ?_
 repeat refine sq ?_
 refine rx hΓ [0,4,5,15] [[4,0],[5,0]] (fun K' hK=>by simp only[go_sem,hO,ab,h0,h1,h2];(repeat (refine⟨ak,?_⟩));exact hK _ (by simp only[go_sem,hO,ab,h0,h1,h2]) (by simp only[go_sem,hO,ab,h0,h1,h2]<;>rfl)) ?_
 repeat refine sq ?_
 refine WC (ba 80 [0] H [(0,⟨true,.ref [0,1] 0⟩),(4,⟨true,.ref [4,0] 0⟩),(5,⟨true,.ref [5,0] 0⟩)] [([4,0],.box (qR (oI a b))),([5,0],.box (qR (jP a b)))]) rfl rfl (fun hb=>?_) (fun hb=>?_) ?_
 ·repeat refine sq ?_
  rw[show oI a b=b from if_pos (by simpa using hb),show jP a b=a from if_pos (by simpa using hb)]
  repeat refine sq ?_
  refine aY hΓ fun K' hK=>?_
  simp only[go_sem,hO,ab,h0,h1,h2]
  repeat (refine⟨ak,?_⟩)
  refine hK _ ?_
  clear K' hK
  simp only[go_sem]
  refine ru [0,4,5] [[4,0],[5,0]] ?_ ?_
  ·simp only[go_sem,hO,ab,h0,h1,h2]
  ·simp only[go_sem,hO,ab,h0,h1,h2]
 ·repeat refine sq ?_
  rw[show oI a b=a from if_neg (by simpa using hb),show jP a b=b from if_neg (by simpa using hb)]
  refine aG ?_
  refine bV ?_
  simp only[go_sem]
  refine ru [0,4,5] [[4,0],[5,0]] ?_ ?_
  ·simp only[go_sem,hO,ab,h0,h1,h2]
  ·simp only[go_sem,hO,ab,h0,h1,h2]
 generalize oI a b=p at *
 generalize jP a b=q at *
 have hl:p.lv.length<=maxLen:=by have:=(E9 xt).2;unfold maxLen;omega
 repeat refine sq ?_
 refine rx hΓ [0,4,5,19,20,21] [[4,0],[5,0]] (fun K' hK=>by simp only[go_sem,hO,ab,h0,h1,h2];(repeat (refine⟨ak,?_⟩));exact hK _ (by simp only[go_sem,hO,ab,h0,h1,h2]) (by simp only[go_sem,hO,ab,h0,h1,h2]<;>rfl)) ?_
 repeat refine sq ?_
 refine aQ ?_
 repeat refine sq ?_
 refine cr (fun s:Nat=>[(21,⟨true,.v (vInt s)⟩)]) (fun s=>[]) (fun s=>s<=p.lv.length/\∀ k (h:k<p.lv.length),k<s->qN x p q p.lv[k]=false) (fun s=>p.lv.length-s) 0 ?_ ?_ ?_ ?_
 ·exact⟨Nat.zero_le _,by simp⟩
 ·rfl
 ·rfl
 rintro i ⟨hi,hR⟩
 simp only[go_sem]
 repeat refine sq ?_
 refine rx hΓ [0,4,5,19,20,21,22] [[4,0],[5,0]] (fun K' hK=>by simp only[go_sem,hO,ab,h0,h1,h2];(repeat (refine⟨ak,?_⟩));exact hK _ (by simp only[go_sem,hO,ab,h0,h1,h2]) (by simp only[go_sem,hO,ab,h0,h1,h2]<;>rfl)) ?_
 repeat refine sq ?_
 refine aB (fun hb=>?_) fun hb=>?_
 ·have ae:i<p.lv.length:=by simpa using hb
  have au:(i:Int)<p.lv.length:=by omega
  clear hb
  have fS:=vM (Fa xt)
  repeat refine sq ?_
  refine aG ?_
  repeat refine sq ?_
  refine aQ ?_
  repeat refine sq ?_
  refine rx hΓ [0,4,5,8,19,20,21] [[4,0],[5,0]] (fun K' hK=>by simp only[go_sem,hO,ab,h0,h1,h2,ah ae,ai,aj,au];(repeat (refine⟨ak,?_⟩));exact hK _ (by simp only[go_sem,hO,ab,h0,h1,h2,ah ae,ai,aj,au]) (by simp only[go_sem,hO,ab,h0,h1,h2,ah ae,ai,aj,au]<;>rfl)) ?_
  repeat refine sq ?_
  refine rx hΓ [0,4,5,8,19,20,21,36] [[4,0],[5,0]] (fun K' hK=>by simp only[go_sem,hO,ab,h0,h1,h2,ah ae,ai,aj,au];(repeat (refine⟨ak,?_⟩));exact hK _ (by simp only[go_sem,hO,ab,h0,h1,h2,ah ae,ai,aj,au]) (by simp only[go_sem,hO,ab,h0,h1,h2,ah ae,ai,aj,au]<;>rfl)) ?_
  repeat refine sq ?_
  refine aB (fun hb=>?_) fun hb=>?_
  ·repeat refine sq ?_
   refine bM ?_
   simp only[go_sem]
   refine eg [0,4,5,19,20,21] [[4,0],[5,0]] ?_ ?_
   ·simp only[go_sem,hO,ab,h0,h1,h2]
   simp only[go_sem,hO,ab,h0,h1,h2]
   repeat refine sq ?_
   refine aY hΓ fun K' hK=>?_
   simp only[go_sem,hO,ab,h0,h1,h2,ah ae,ai,aj,au]
   repeat (refine⟨ak,?_⟩)
   refine hK _ ?_
   clear K' hK
   simp only[go_sem]
   refine⟨i+1,⟨ae,?_⟩,by(show p.lv.length-(i+1)<p.lv.length-i;omega),?_⟩
   ·intro k hk dY
    rcases Nat.lt_succ_iff_lt_or_eq.1 dY with h5 | rfl
    ·exact hR k hk h5
    ·unfold qN;grind
   refine bq [0,4,5,19,20,21] [[4,0],[5,0]] ?_ ?_<;>simp only[go_sem,be ae hl,bj,hO,ab,h0,h1,h2]
  ·repeat refine sq ?_
   refine aG ?_
   rcases aP:bt x.bk (p.so,p.lv[i])with _ | j
   ·repeat refine sq ?_
    refine dx hΓ hP [[],[0],[0,1],[0,1,2],[],[4],[],[4,5,6],u8,u9,dI,dI,fO,pF] [0,4,5,9,10,19,20,21] [[4,0],[5,0]] (by kernel_rfl) (fun K' hK=>by simp only[go_sem,hO,ab,h0,h1,h2,ah ae,ai,aj,au,av,aP,Option.map_none,Option.isSome_none,Option.getD_none];(repeat (refine⟨ak,?_⟩));(first | refine⟨by rfl,?_⟩ | skip);exact hK _ (by simp only[go_sem,hO,ab,h0,h1,h2,ah ae,ai,aj,au,av,aP,Option.map_none,Option.isSome_none,Option.getD_none]) (by simp only[go_sem,hO,ab,h0,h1,h2,ah ae,ai,aj,au,av,aP,Option.map_none,Option.isSome_none,Option.getD_none]<;>rfl)) ?_
    repeat refine sq ?_
    refine dx hΓ hP [[],[0],[],[2],u4,u5,u6,u7,u8,u9,dI,fO,gd,pF,lf,vX,u16,dI,jy,oq,pE,tj,dI,[0,1,2,3,4,5,6,7,8,9,22],[0,1,2,3,4,5,6,7,8,9,22,23],vV,dI,[0,1,2,3,4,5,6,7,8,9,26],vU,vT] [0,4,5,19,20,21,78] [[4,0],[5,0]] (by kernel_rfl) (fun K' hK=>by simp only[go_sem,hO,ab,h0,h1,h2,ah ae,ai,aj,au,av,aP,Option.map_none,Option.isSome_none,Option.getD_none];(repeat (refine⟨ak,?_⟩));(first | refine⟨by rfl,?_⟩ | skip);exact hK _ (by simp only[go_sem,hO,ab,h0,h1,h2,ah ae,ai,aj,au,av,aP,Option.map_none,Option.isSome_none,Option.getD_none]) (by simp only[go_sem,hO,ab,h0,h1,h2,ah ae,ai,aj,au,av,aP,Option.map_none,Option.isSome_none,Option.getD_none]<;>rfl)) ?_
    repeat refine sq ?_
    refine aB (fun hb=>?_) fun hb=>?_
    ·repeat refine sq ?_
     refine rx hΓ [6] [] (fun K' hK=>by simp only[go_sem,hO,ab,h0,h1,h2,ah ae,ai,aj,au,av,aP,Option.map_none,Option.isSome_none,Option.getD_none];(repeat (refine⟨ak,?_⟩));exact hK _ (by simp only[go_sem,hO,ab,h0,h1,h2,ah ae,ai,aj,au,av,aP,Option.map_none,Option.isSome_none,Option.getD_none]) (by simp only[go_sem,hO,ab,h0,h1,h2,ah ae,ai,aj,au,av,aP,Option.map_none,Option.isSome_none,Option.getD_none]<;>rfl)) ?_
     refine ay ?_
     simp only[go_sem,hO,ab,h0,h1,h2]
     rw[C3,LC ae (by unfold qN;rw[aP];grind [dk])]
    ·repeat refine sq ?_
     refine aG ?_
     refine bV ?_
     simp only[go_sem]
     refine eg [0,4,5,19,20,21] [[4,0],[5,0]] ?_ ?_
     ·simp only[go_sem,hO,ab,h0,h1,h2]
     simp only[go_sem,hO,ab,h0,h1,h2]
     repeat refine sq ?_
     refine aY hΓ fun K' hK=>?_
     simp only[go_sem,hO,ab,h0,h1,h2,ah ae,ai,aj,au,av,aP,Option.map_none,Option.isSome_none,Option.getD_none]
     repeat (refine⟨ak,?_⟩)
     refine hK _ ?_
     clear K' hK
     simp only[go_sem]
     refine⟨i+1,⟨ae,?_⟩,by(show p.lv.length-(i+1)<p.lv.length-i;omega),?_⟩
     ·intro k hk dY
      rcases Nat.lt_succ_iff_lt_or_eq.1 dY with h5 | rfl
      ·exact hR k hk h5
      ·unfold qN;rw[aP];grind [dk]
     refine bq [0,4,5,19,20,21] [[4,0],[5,0]] ?_ ?_<;>simp only[go_sem,be ae hl,bj,hO,ab,h0,h1,h2]
   ·obtain⟨cj,gm⟩:=hv.bk _ _ aP
    have jh:=zA cj gm
    repeat refine sq ?_
    refine dx hΓ hP [[],[0],[0,1],[0,1,2],[],[4],[],[4,5,6],u8,u9,dI,dI,fO,pF] [0,4,5,9,10,19,20,21] [[4,0],[5,0]] (by kernel_rfl) (fun K' hK=>by simp only[go_sem,hO,ab,h0,h1,h2,ah ae,ai,aj,au,av,aP,Option.map_some,Option.isSome_some,Option.getD_some,jh,cj,gm,fS];(repeat (refine⟨ak,?_⟩));(first | refine⟨by rfl,?_⟩ | skip);exact hK _ (by simp only[go_sem,hO,ab,h0,h1,h2,ah ae,ai,aj,au,av,aP,Option.map_some,Option.isSome_some,Option.getD_some,jh,cj,gm,fS]) (by simp only[go_sem,hO,ab,h0,h1,h2,ah ae,ai,aj,au,av,aP,Option.map_some,Option.isSome_some,Option.getD_some,jh,cj,gm,fS]<;>rfl)) ?_
    repeat refine sq ?_
    refine dx hΓ hP [[],[0],[],[2],u4,u5,u6,u7,u8,u9,dI,fO,gd,pF,lf,vX,u16,dI,jy,oq,pE,tj,dI,[0,1,2,3,4,5,6,7,8,9,22],[0,1,2,3,4,5,6,7,8,9,22,23],vV,dI,[0,1,2,3,4,5,6,7,8,9,26],vU,vT] [0,4,5,19,20,21,78] [[4,0],[5,0]] (by kernel_rfl) (fun K' hK=>by simp only[go_sem,hO,ab,h0,h1,h2,ah ae,ai,aj,au,av,aP,Option.map_some,Option.isSome_some,Option.getD_some,jh,cj,gm,fS];(repeat (refine⟨ak,?_⟩));(first | refine⟨by rfl,?_⟩ | skip);exact hK _ (by simp only[go_sem,hO,ab,h0,h1,h2,ah ae,ai,aj,au,av,aP,Option.map_some,Option.isSome_some,Option.getD_some,jh,cj,gm,fS]) (by simp only[go_sem,hO,ab,h0,h1,h2,ah ae,ai,aj,au,av,aP,Option.map_some,Option.isSome_some,Option.getD_some,jh,cj,gm,fS]<;>rfl)) ?_
    repeat refine sq ?_
    refine aB (fun hb=>?_) fun hb=>?_
    ·repeat refine sq ?_
     refine rx hΓ [6] [] (fun K' hK=>by simp only[go_sem,hO,ab,h0,h1,h2,ah ae,ai,aj,au,av,aP,Option.map_some,Option.isSome_some,Option.getD_some,jh,cj,gm,fS];(repeat (refine⟨ak,?_⟩));exact hK _ (by simp only[go_sem,hO,ab,h0,h1,h2,ah ae,ai,aj,au,av,aP,Option.map_some,Option.isSome_some,Option.getD_some,jh,cj,gm,fS]) (by simp only[go_sem,hO,ab,h0,h1,h2,ah ae,ai,aj,au,av,aP,Option.map_some,Option.isSome_some,Option.getD_some,jh,cj,gm,fS]<;>rfl)) ?_
     refine ay ?_
     simp only[go_sem,hO,ab,h0,h1,h2]
     rw[C3,LC ae (by unfold qN;rw[aP];grind [dk])]
    ·repeat refine sq ?_
     refine aG ?_
     refine bV ?_
     simp only[go_sem]
     refine eg [0,4,5,19,20,21] [[4,0],[5,0]] ?_ ?_
     ·simp only[go_sem,hO,ab,h0,h1,h2]
     simp only[go_sem,hO,ab,h0,h1,h2]
     repeat refine sq ?_
     refine aY hΓ fun K' hK=>?_
     simp only[go_sem,hO,ab,h0,h1,h2,ah ae,ai,aj,au,av,aP,Option.map_some,Option.isSome_some,Option.getD_some,jh,cj,gm,fS]
     repeat (refine⟨ak,?_⟩)
     refine hK _ ?_
     clear K' hK
     simp only[go_sem]
     refine⟨i+1,⟨ae,?_⟩,by(show p.lv.length-(i+1)<p.lv.length-i;omega),?_⟩
     ·intro k hk dY
      rcases Nat.lt_succ_iff_lt_or_eq.1 dY with h5 | rfl
      ·exact hR k hk h5
      ·unfold qN;rw[aP];grind [dk]
     refine bq [0,4,5,19,20,21] [[4,0],[5,0]] ?_ ?_<;>simp only[go_sem,be ae hl,bj,hO,ab,h0,h1,h2]
 ·have bw:i=p.lv.length:=by
   have :¬ (i:Int)<p.lv.length:=by simpa using hb
   omega
  clear hb
  subst bw
  repeat refine sq ?_
  refine bM ?_
  simp only[go_sem]
  refine eg [] [] ?_ ?_
  ·simp only[go_sem,hO,ab,h0,h1,h2]
  simp only[go_sem,hO,ab,h0,h1,h2]
  repeat refine sq ?_
  refine rx hΓ [6] [] (fun K' hK=>by simp only[go_sem,hO,ab,h0,h1,h2];(repeat (refine⟨ak,?_⟩));exact hK _ (by simp only[go_sem,hO,ab,h0,h1,h2]) (by simp only[go_sem,hO,ab,h0,h1,h2]<;>rfl)) ?_
  refine ay ?_
  simp only[go_sem,hO,ab,h0,h1,h2]
  rw[C3,Xb fun k hk=>hR k hk hk]
end
noncomputable section
@[go_sem] theorem adp(x:Vw):(⟨x.l,x.rs,x.ts,x.bk,x.ds⟩:Vw)=x:=rfl
def wv:Option (Int×Int)->D
 |some p=>.tup [.v (.sl [vInt p.1,vInt p.2]),.v (.bool true)]
 |none=>.tup [.nilsl,.v (.bool false)]
theorem Pb(r:Option (Int×Int))(p:Name->Bool):D.clos p (wv r)=true:=by cases r<;>rfl
theorem Ps{x:Vw}{i:Nat}(h:i<x.rs.length)(hn:∀ k (hk:k<(x.rs.drop (i+1)).length),jY x x.rs[i] (x.rs.drop (i+1))[k]=false):lz x i=none:=by
 unfold lz
 have e:(x.rs.drop (i+1)).find? (jY x x.rs[i])=none:=List.find?_eq_none.2 fun y hy=>by
  obtain⟨k,hk,rfl⟩:=List.getElem_of_mem hy
  rw[hn k hk];decide
 rw[dv h,e]
 rfl
theorem Pr{x:Vw}{i k:Nat}(h:i<x.rs.length)(hk:k<(x.rs.drop (i+1)).length)(hn:∀ j (hj:j<(x.rs.drop (i+1)).length),j<k->jY x x.rs[i] (x.rs.drop (i+1))[j]=false)(hb:jY x x.rs[i] (x.rs.drop (i+1))[k]=true):
 lz x i=some (x.rs[i].so,(x.rs.drop (i+1))[k].so):=by
 unfold lz
 have e:(x.rs.drop (i+1)).find? (jY x x.rs[i])=some (x.rs.drop (i+1))[k]:=List.find?_eq_some_iff_getElem.2 ⟨hb,k,hk,rfl,fun j hj=>by rw[hn j (by omega) hj];rfl⟩
 rw[dv h,e]
 rfl
theorem Pp{x:Vw}{i:Nat}{p:Int×Int}(h:i<x.rs.length)(hn:∀ k,k<i->lz x k=none)(hp:lz x i=some p):ek x=some p:=by
 unfold ek
 rw[List.findSome?_eq_some_iff]
 refine⟨List.range i,i,(List.range' (i+1) (x.rs.length-(i+1))),?_,hp,fun a ha=>hn a (List.mem_range.1 ha)⟩
 rw[List.range_eq_range',List.range_eq_range']
 have :x.rs.length=i+(1+(x.rs.length-(i+1))):=by omega
 conv=>lhs;rw[this]
 rw[<-List.range'_append_1,<-List.range'_append_1,Nat.zero_add]
 rfl
theorem Pq{x:Vw}(hn:∀ k,k<x.rs.length->lz x k=none):ek x=none:=by
 unfold ek
 rw[List.findSome?_eq_none_iff]
 exact fun a ha=>hn a (List.mem_range.1 ha)
def K20:List (Nat×Spec):=[(129,S129)]
theorem Zm:KS K20:=tc Im<|tn
attribute [go_sem] K20
def LQ:VSpec:=v0 (fun x=>l9 x) (fun x=>wv (ek x)) none
def S120:Spec:=LQ.toSpec
attribute [go_sem] LQ S120
set_option maxHeartbeats 8000000 in
theorem Io:aL Tryz.prog 120 S120:=by
 refine MH (rs:=[.tmp 2,.tmp 3]) Tryz.func120 Tryz.ntmps120 (by rfl) (by kernel_rfl) (by decide) (fun _=>by first | rfl | exact Pb _ _ | simp[D.clos,D.closL,km]) ⟨_,rfl,lb rfl,fun x hp H h0 h1 h2 hO ab=>?_⟩
 simp only[bp,cN,List.map_cons,List.map_nil,Nat.zero_add,Option.map_some,Option.map_none]at h0 |-
 have hΓ:=Zm
 have oR:x.rs.length<=maxLen:=by have:=hp.rn;unfold maxLen;omega
 repeat refine sq ?_
 refine rx hΓ [0] [] (fun K' hK=>by simp only[go_sem,hO,ab,h0,h1,h2];(repeat (refine⟨ak,?_⟩));exact hK _ (by simp only[go_sem,hO,ab,h0,h1,h2]) (by simp only[go_sem,hO,ab,h0,h1,h2]<;>rfl)) ?_
 repeat refine sq ?_
 refine rx hΓ [0,11,12,13] [] (fun K' hK=>by simp only[go_sem,hO,ab,h0,h1,h2];(repeat (refine⟨ak,?_⟩));exact hK _ (by simp only[go_sem,hO,ab,h0,h1,h2]) (by simp only[go_sem,hO,ab,h0,h1,h2]<;>rfl)) ?_
 repeat refine sq ?_
 refine aQ ?_
 repeat refine sq ?_
 refine cr (fun s:Nat=>[(13,⟨true,.v (vInt s)⟩)]) (fun s=>[]) (fun s=>s<=x.rs.length/\∀ k,k<s->lz x k=none) (fun s=>x.rs.length-s) 0 ?_ ?_ ?_ ?_
 ·exact⟨Nat.zero_le _,by simp⟩
 ·rfl
 ·rfl
 rintro i ⟨hi,hR⟩
 simp only[go_sem]
 repeat refine sq ?_
 refine rx hΓ [0,11,12,13,14] [] (fun K' hK=>by simp only[go_sem,hO,ab,h0,h1,h2];(repeat (refine⟨ak,?_⟩));exact hK _ (by simp only[go_sem,hO,ab,h0,h1,h2]) (by simp only[go_sem,hO,ab,h0,h1,h2]<;>rfl)) ?_
 repeat refine sq ?_
 refine aB (fun hb=>?_) fun hb=>?_
 ·have ae:i<x.rs.length:=by simpa using hb
  have au:(i:Int)<x.rs.length:=by omega
  clear hb
  have uD:IntKind.i64.wrap ((i:Int)+1)=((i+1:Nat):Int):=be ae oR
  have o3:x.rs.length-(i+1)<=maxLen:=by omega
  have p9:List.take (x.rs.length-(i+1)) ((x.rs.drop (i+1)).map encR)=(x.rs.drop (i+1)).map encR:=List.take_of_length_le (by simp)
  have dS:=hp.rs x.rs[i] (List.getElem_mem ae)
  repeat refine sq ?_
  refine aG ?_
  repeat refine sq ?_
  refine aQ ?_
  repeat refine sq ?_
  refine rx hΓ [0,4,5,11,12,13] [[5,0]] (fun K' hK=>by simp only[go_sem,hO,ab,h0,h1,h2,ah ae,ai,aj,au];(repeat (refine⟨ak,?_⟩));exact hK _ (by simp only[go_sem,hO,ab,h0,h1,h2,ah ae,ai,aj,au]) (by simp only[go_sem,hO,ab,h0,h1,h2,ah ae,ai,aj,au]<;>rfl)) ?_
  repeat refine sq ?_
  refine rx hΓ [0,5,11,12,13,24,25,26] [[5,0]] (fun K' hK=>by simp only[go_sem,hO,ab,h0,h1,h2,ah ae,ai,aj,au,uD,<-List.map_drop,p9];(repeat (refine⟨by first | exact ak | exact⟨by omega,Int.le_refl _,fun y hy=>(An _ y hy).1⟩,?_⟩));exact hK _ (by simp only[go_sem,hO,ab,h0,h1,h2,ah ae,ai,aj,au,uD,<-List.map_drop,p9]) (by simp only[go_sem,hO,ab,h0,h1,h2,ah ae,ai,aj,au,uD,<-List.map_drop,p9]<;>rfl)) ?_
  repeat refine sq ?_
  refine aQ ?_
  repeat refine sq ?_
  refine cr (fun s:Nat=>[(26,⟨true,.v (vInt s)⟩)]) (fun s=>[]) (fun s=>s<=(x.rs.drop (i+1)).length/\∀ k (hk:k<(x.rs.drop (i+1)).length),k<s->jY x x.rs[i] (x.rs.drop (i+1))[k]=false) (fun s=>(x.rs.drop (i+1)).length-s) 0 ?_ ?_ ?_ ?_
  ·exact⟨Nat.zero_le _,by simp⟩
  ·rfl
  ·rfl
  rintro i1 ⟨hi,hR⟩
  simp only[go_sem]
  repeat refine sq ?_
  refine rx hΓ [0,5,11,12,13,24,25,26,27] [[5,0]] (fun K' hK=>by simp only[go_sem,hO,ab,h0,h1,h2,ah ae,ai,aj,au];(repeat (refine⟨ak,?_⟩));exact hK _ (by simp only[go_sem,hO,ab,h0,h1,h2,ah ae,ai,aj,au]) (by simp only[go_sem,hO,ab,h0,h1,h2,ah ae,ai,aj,au]<;>rfl)) ?_
  repeat refine sq ?_
  refine aB (fun hb=>?_) fun hb=>?_
  ·have aJ:i1<(x.rs.drop (i+1)).length:=by simpa using hb
   have bh:(i1:Int)<(x.rs.drop (i+1)).length:=by omega
   clear hb
   have fa:=hp.rs (x.rs.drop (i+1))[i1] (List.mem_of_mem_drop (List.getElem_mem aJ))
   repeat refine sq ?_
   refine aG ?_
   repeat refine sq ?_
   refine aQ ?_
   repeat refine sq ?_
   refine rx hΓ [0,5,7,11,12,13,24,25,26] [[5,0],[7,0]] (fun K' hK=>by simp only[go_sem,hO,ab,h0,h1,h2,ah ae,ai,aj,au,ah aJ,ai,aj,bh];(repeat (refine⟨ak,?_⟩));exact hK _ (by simp only[go_sem,hO,ab,h0,h1,h2,ah ae,ai,aj,au,ah aJ,ai,aj,bh]) (by simp only[go_sem,hO,ab,h0,h1,h2,ah ae,ai,aj,au,ah aJ,ai,aj,bh]<;>rfl)) ?_
   repeat refine sq ?_
   refine rx hΓ [0,5,7,11,12,13,24,25,26,33] [[5,0],[7,0]] (fun K' hK=>by simp only[go_sem,hO,ab,h0,h1,h2,ah ae,ai,aj,au,ah aJ,ai,aj,bh];(repeat (refine⟨ak,?_⟩));exact hK _ (by simp only[go_sem,hO,ab,h0,h1,h2,ah ae,ai,aj,au,ah aJ,ai,aj,bh]) (by simp only[go_sem,hO,ab,h0,h1,h2,ah ae,ai,aj,au,ah aJ,ai,aj,bh]<;>rfl)) ?_
   repeat refine sq ?_
   refine aB (fun hb=>?_) fun hb=>?_
   ·repeat refine sq ?_
    refine rx hΓ [2,3] [] (fun K' hK=>by simp only[go_sem,hO,ab,h0,h1,h2,ah ae,ai,aj,au,ah aJ,ai,aj,bh];(repeat (refine⟨ak,?_⟩));exact hK _ (by simp only[go_sem,hO,ab,h0,h1,h2,ah ae,ai,aj,au,ah aJ,ai,aj,bh]) (by simp only[go_sem,hO,ab,h0,h1,h2,ah ae,ai,aj,au,ah aJ,ai,aj,bh]<;>rfl)) ?_
    refine ay ?_
    simp only[go_sem,hO,ab,h0,h1,h2]
    rw[Pp ae (by assumption) (Pr ae aJ hR (by simpa using hb))];rfl
   ·repeat refine sq ?_
    refine aG ?_
    refine bV ?_
    simp only[go_sem]
    refine eg [0,5,11,12,13,24,25,26] [[5,0]] ?_ ?_
    ·simp only[go_sem,hO,ab,h0,h1,h2]
    simp only[go_sem,hO,ab,h0,h1,h2]
    repeat refine sq ?_
    refine aY hΓ fun K' hK=>?_
    simp only[go_sem,hO,ab,h0,h1,h2,ah ae,ai,aj,au,ah aJ,ai,aj,bh]
    repeat (refine⟨ak,?_⟩)
    refine hK _ ?_
    clear K' hK
    simp only[go_sem]
    refine⟨i1+1,⟨aJ,?_⟩,by(show (x.rs.drop (i+1)).length-(i1+1)<(x.rs.drop (i+1)).length-i1;omega),?_⟩
    ·intro k hk dY
     rcases Nat.lt_succ_iff_lt_or_eq.1 dY with h5 | rfl
     ·exact hR k hk h5
     ·simpa using hb
    refine bq [0,5,11,12,13,24,25,26] [[5,0]] ?_ ?_<;>simp only[go_sem,be aJ (by rw[List.length_drop];omega:(x.rs.drop (i+1)).length<=maxLen),bj,hO,ab,h0,h1,h2]
  ·have iQ:i1=(x.rs.drop (i+1)).length:=by
    have :¬ (i1:Int)<(x.rs.drop (i+1)).length:=by simpa using hb
    omega
   clear hb
   subst iQ
   repeat refine sq ?_
   refine bM ?_
   simp only[go_sem]
   refine eg [0,11,12,13] [] ?_ ?_
   ·simp only[go_sem,hO,ab,h0,h1,h2]
   simp only[go_sem,hO,ab,h0,h1,h2]
   repeat refine sq ?_
   refine aY hΓ fun K' hK=>?_
   simp only[go_sem,hO,ab,h0,h1,h2,ah ae,ai,aj,au]
   repeat (refine⟨ak,?_⟩)
   refine hK _ ?_
   clear K' hK
   simp only[go_sem]
   refine⟨i+1,⟨ae,?_⟩,by(show x.rs.length-(i+1)<x.rs.length-i;omega),?_⟩
   ·intro k hk
    rcases Nat.lt_succ_iff_lt_or_eq.1 hk with h5 | rfl
    ·exact(by assumption:∀ k,k<i->lz x k=none) k h5
    ·exact Ps ae fun j hj=>hR j hj hj
   refine bq [0,11,12,13] [] ?_ ?_<;>simp only[go_sem,be ae oR,bj,hO,ab,h0,h1,h2]
 ·have bw:i=x.rs.length:=by
   have :¬ (i:Int)<x.rs.length:=by simpa using hb
   omega
  clear hb
  subst bw
  repeat refine sq ?_
  refine bM ?_
  simp only[go_sem]
  refine eg [] [] ?_ ?_
  ·simp only[go_sem,hO,ab,h0,h1,h2]
  simp only[go_sem,hO,ab,h0,h1,h2]
  repeat refine sq ?_
  refine rx hΓ [2,3] [] (fun K' hK=>by simp only[go_sem,hO,ab,h0,h1,h2];(repeat (refine⟨ak,?_⟩));exact hK _ (by simp only[go_sem,hO,ab,h0,h1,h2]) (by simp only[go_sem,hO,ab,h0,h1,h2]<;>rfl)) ?_
  refine ay ?_
  simp only[go_sem,hO,ab,h0,h1,h2]
  rw[Pq hR];rfl
end
def i6(obj:Name->Option O)(L:List O):Name->Option O:=fun nm=>match aS L nm with | some o=>some o | none=>obj nm
theorem Nh{L1 L2:List O}(h:L2.length=L1.length):i6 (aS L1) L2=aS L2:=by
 funext nm
 unfold i6
 cases hx:cJ nm with
 |false=>rw[wC hx,wC hx]
 |true=>
  obtain⟨i,rfl⟩:=um.1 hx
  simp only[aS]
  by_cases hi:i<L2.length
  ·rw[List.getElem?_eq_getElem hi]
  ·rw[List.getElem?_eq_none (by omega),List.getElem?_eq_none (by omega)]
theorem AI(n:Nat)(p:Name)(F H:Name->Option O)(L:List O)(l:List (Nat×E))(h:List (Name×O)):
 ba n p (i6 (fun nm=>if own p nm=true then F nm else H nm) L) l h=ba n p (i6 H L) l h:=
 wT fun nm hn=>by unfold i6;simp[hn]
theorem DQ(p:Name)(dom:Name->Bool)(F H:Name->Option O)(L:List O):
 bP p dom (i6 (fun nm=>if own p nm=true then F nm else H nm) L)=bP p dom (i6 H L):=by
 have e:∀ nm,own p nm=false->i6 (fun nm=>if own p nm=true then F nm else H nm) L nm=i6 H L nm:=fun nm hn=>by unfold i6;simp[hn]
 exact propext ⟨fun k nm q hn h=>k nm q hn (by rw[e nm hn];exact h),fun k nm q hn h=>k nm q hn (by rw[<-e nm hn];exact h)⟩
def Lp.I(r:Lp)(s:Nat):List O:=r.rc (LI r.m) .ready none::r.fam (LI r.m) s
theorem Lp.I_len{r:Lp}(hr:r.Ok)(s:Nat):(r.I s).length=r.m+1:=by unfold Lp.I;rw[List.length_cons,hr.len _ _ (gb _)]
theorem Lp.I_clos{r:Lp}(hr:r.Ok)(s:Nat):∀ o∈r.I s,∀ dom:Name->Bool,(∀ i,dom [i,1]=true)->O.clos dom o=true:=by
 intro o ho dom hd
 have o4:∀ x∈LI r.m,dom x=true:=fun x hx=>by
  obtain⟨i,_,rfl⟩:=List.mem_map.1 hx
  exact hd _
 rcases List.mem_cons.1 ho with rfl | ho
 ·exact hr.closE _ _ (gb _) o4
 ·exact hr.closF _ _ _ (gb _) o4 _ ho
theorem Lp.y_setU{r:Lp}(hr:r.Ok)(cP:∀ j,r.st j=none){s:Nat}(hs:s<r.n)(obj:Name->Option O)(tm:Name)(ho:∀ nm,cJ nm=true->obj nm=aS (r.I s) nm):
 r.y.toSpec.app obj tm (.yld [0,1]::r.vals s)=⟨True,.v (.bool true),i6 obj (r.I (s+1))⟩:=by
 have qy:(LI r.m).Nodup:=List.Pairwise.map _ (fun a b h=>by simpa using h) List.nodup_range
 have uY:([0,1]:Name)∉LI r.m:=fun h=>by
  obtain⟨i,_,hi⟩:=List.mem_map.1 h
  simp at hi
 have h0:obj [0,1]=some (r.rc (LI r.m) .ready none):=by
  rw[ho _ rfl];rfl
 have hF:cD obj (LI r.m) (r.fam (LI r.m) s):=by
  rw[jE]
  refine List.ext_getElem (by rw[List.length_map,List.length_map,gb,hr.len _ _ (gb _)]) fun i h3 h4=>?_
  simp only[List.getElem_map,LI,List.getElem_range]
  rw[ho _ rfl]
  simp only[Lp.I,aS,List.getElem?_cons_succ]
  have h5:i<(r.fam (LI r.m) s).length:=by simpa using h4
  rw[List.getElem?_eq_getElem h5]
  rfl
 have xW:=Lp.y_app hr hs (fun j _=>cP j) (t:=tm) (gb _) qy uY h0 hF
 rw[xW,cP s]
 simp only[Option.isNone_none,if_true]
 congr 1
 funext nm
 have hlen:=hr.len (LI r.m) (s+1) (gb _)
 by_cases hR:nm=[0,1]
 ·subst hR
  rw[aN]
  rfl
 ·rw[aV _ _ _ hR]
  unfold i6
  cases hx:cJ nm with
  |false=>
   rw[wC hx,tC]
   intro gl
   obtain⟨i,_,rfl⟩:=List.mem_map.1 gl
   cases hx
  |true=>
   obtain⟨i,rfl⟩:=um.1 hx
   have dO:=EF (obj:=obj) (F:=r.fam (LI r.m) (s+1)) qy (by rw[gb,hlen])
   match i,hR with
   | 0,hR=>exact(hR rfl).elim
   |i+1,_=>
    simp only[Lp.I,aS,List.getElem?_cons_succ]
    by_cases hi:i<r.m
    ·have h6:=As dO i (by rw[gb];exact hi) (by rw[hlen];exact hi)
     simp only[LI,List.getElem_map,List.getElem_range]at h6
     rw[show (r.fam (LI r.m) (s+1))[i]?=some (r.fam (LI r.m) (s+1))[i]from List.getElem?_eq_getElem (by rw[hlen];exact hi)]
     exact h6
    ·rw[List.getElem?_eq_none (by rw[hlen];omega),tC]
     intro gl
     obtain⟨j,TI,TH⟩:=List.mem_map.1 gl
     have :=List.mem_range.1 TI
     simp at TH
     omega
theorem Lp.go_e{r:Lp}(cP:∀ j,r.st j=none):r.e=r.n/\r.pd=none:=by
 have :(List.range r.n).find? (fun s=>(r.st s).isSome)=none:=List.find?_eq_none.2 fun s _=>by rw[cP s];decide
 unfold Lp.e Lp.pd
 rw[this]
 exact⟨rfl,rfl⟩
theorem Lp.go_end{P:Program}{r:Lp}(hr:r.Ok)(cP:∀ j,r.st j=none){σ:S}(ez:∀ i,σ.obj [i,1]=aS (r.I r.n) [i,1]):
 (bF P σ []).ok/\(bF P σ []).d=.tup []/\ft (r.rc (LI r.m) .ready none::r.fam (LI r.m) 0) ⟨(0,r.fin (LI r.m))::eE 1 (r.fam (LI r.m) r.e),[],.tup []⟩ σ:=by
 obtain⟨e1,e2⟩:=Lp.go_e cP
 refine Lp.it_end hr ?_ ?_
 ·rw[ez]
  unfold Lp.fin
  rw[e2]
  rfl
 ·rw[jE,e1]
  refine List.ext_getElem (by rw[List.length_map,List.length_map,gb,hr.len _ _ (gb _)]) fun i h3 h4=>?_
  simp only[List.getElem_map,LI,List.getElem_range]
  rw[ez]
  simp only[Lp.I,aS,List.getElem?_cons_succ]
  have h5:i<(r.fam (LI r.m) r.n).length:=by simpa using h4
  rw[List.getElem?_eq_getElem h5]
  rfl
theorem Lp.itC_sound{P:Program}{r:Lp}(hr:r.Ok)(cP:∀ j,r.st j=none){dq:List Name->List D}{f:FuncId}{fn:Func}{nt:Nat}(hf:P.funcs[f]?=some fn)(cG:fn.ntmps=nt)(bW:fn.results.toList=[])(hn:(fn.name== "runtime.NumGoroutine")=false)(hy:f<1000000000)
 (hw:∃ c,fn.body=some c/\(dq (LI r.m)).length+1<=nt/\CL P [c] (ba nt [0] (aS (r.I 0)) (cN 0 (.yld [0,1]::dq (LI r.m))) []) (fun e σ=>(e=.normal\/e=.ret)/\∀ i,σ.obj [i,1]=aS (r.I r.n) [i,1])):aL P f (r.itC dq).toSpec:=by
 obtain⟨c,hc,hl,hw⟩:=hw
 refine mM hf hc cG bW (gK hf hc hn) (Nat.ne_of_lt (show f<yid from hy)) ?_
 rintro os ds ⟨rfl,rfl⟩
 refine⟨by simpa using hl,CW.mono (il hw) ?_⟩
 rintro e σ ⟨he,ez⟩
 rcases he with rfl | rfl
 ·exact Lp.go_end hr cP ez
 ·exact Lp.go_end hr cP ez
noncomputable section
def oe(obj:Name->Option O)(t:Name):List D->R
 |[.ref nv 0,.v (.int .i64 pa),.v (.sl lv)]=>match gF obj nv with
  |some (nb,nd,x)=>⟨mq obj nv nb nd x/\obj (3::0::t)=none,.clo (.func 193) [] [.ref (3::0::t) 0,.v (.ptr [vInt pa]),.v (.ptr [.sl lv])],upd obj (3::0::t) (some (.box [.ref nv 0]))⟩
  |_=>.bad obj
 |_=>.bad obj
def zu(obj:Name->Option O)(t:Name):List D->List Name
 | .ref nv _::_=>(3::0::t)::nv::(match obj nv with | some (.box [_,_,_,.map nb,.map nd])=>[nb,nd] | _=>[])
 |_=>[]
def withS:Spec:=⟨oe,zu,zu⟩
theorem Vi{obj obj2:Name->Option O}{nv:Name}(h1:obj2 nv=obj nv)(h2:∀ nm∈(match obj nv with | some (.box [_,_,_,.map nb,.map nd])=>[nb,nd] | _=>[]),obj2 nm=obj nm):gF obj2 nv=gF obj nv:=by
 unfold gF
 rw[h1]
 split
 ·rename_i lp rs ts nb nd h
  rw[h]at h2
  rw[h2 nb (by simp),h2 nd (by simp)]
 ·rfl
theorem Vh{obj:Name->Option O}{nv nb nd:Name}{x:Vw}(h:gF obj nv=some (nb,nd,x)):(match obj nv with | some (.box [_,_,_,.map nb,.map nd])=>[nb,nd] | _=>[])=[nb,nd]:=by
 unfold gF at h
 split at h
 ·rename_i e
  split at h
  ·cases h;rw[e]
  ·cases h
 ·cases h
theorem Mu:withS.Near:=by
 refine tS fun obj obj2 t ds ha=>?_
 unfold zu at ha |-
 split
 ·rename_i nv off r
  simp only at ha
  have h1:obj2 nv=obj nv:=ha nv (by simp)
  have hg:=Vi h1 fun nm hn=>ha nm (by simp[hn])
  refine⟨by rw[h1],?_⟩
  unfold oe
  split
  ·rename_i nv' pa lv e
   cases e
   simp only[hg]
   split
   ·rename_i nb nd x hx
    have ax:=Vh hx
    rw[ax]at ha |-
    have aa:mq obj2 nv nb nd x=mq obj nv nb nd x:=by unfold mq;rw[h1,ha nb (by simp),ha nd (by simp)]
    rw[aa,ha (3::0::t) (by simp)]
    exact .one (by simp) ha
   ·exact .none _ ha
  ·exact .none _ ha
 ·refine⟨rfl,?_⟩
  rename_i jR
  unfold oe
  split
  ·exact(jR _ _ _ rfl).elim
  ·exact .none _ (fun _ h=>by cases h)
attribute [go_sem] withS oe
def vN:CSpec where
 pre:=fun os ds=>∃ (x:Vw) (pa:Int) (lv:List V),os=[bp x [1,1] [2,1],.map 2 (bH x.bk),.map 0 (bz x.ds)]/\ds=[.ref [0,1] 0,.v (vInt pa),.v (.sl lv)]
 out:=fun _ ds=>match ds with
  |[_,.v p,.v l]=>⟨[],[([3,0],.box [.ref [0,1] 0])],.clo (.func 193) [] [.ref [3,0] 0,.v (.ptr [p]),.v (.ptr [l])]⟩
  |_=>⟨[],[],.any⟩
theorem Mt{f:FuncId}(h:aL Tryz.prog f vN.toSpec)(aD:f≠yid):aL Tryz.prog f withS:=by
 refine tu h Mu aD fun obj t ds aa=>?_
 change (oe obj t ds).ok at aa
 refine⟨ds,rfl,fun _ _ _ _ h=>h,?_⟩
 show _/\_=(oe obj t ds).d/\_=(oe obj t ds).obj
 unfold oe at aa |-
 split at aa
 ·rename_i nv pa lv
  split at aa
  ·rename_i nb nd x uT
   obtain⟨hv,cB⟩:=aa
   have p8:=hv
   obtain⟨h1,h2,h3,h4,h5,h6⟩:=p8
   have n4:nv≠nb:=by simpa using h4
   have n5:nv≠nd:=by simpa using h5
   have n6:nb≠nd:=by simpa using h6
   have hr:=Fb hv [vInt pa,.sl lv]
   simp only[List.map_cons,List.map_nil]at hr
   have i0:idx [nv,nb,nd] nv=0:=by simp[idx]
   have i1:idx [nv,nb,nd] nb=1:=by simp[idx,n4]
   have i2:idx [nv,nb,nd] nd=2:=by simp[idx,n5,n6]
   have e1:cb obj [.ref nv 0,.v (vInt pa),.v (.sl lv)]=[bp x [1,1] [2,1],.map 2 (bH x.bk),.map 0 (bz x.ds)]:=by
    unfold cb
    rw[hr]
    simp only[List.map_cons,List.map_nil,ck,h1,h2,h3,bp,O.ren,D.renL,D.ren,cin,i1,i2]
   have e2:cH obj [.ref nv 0,.v (vInt pa),.v (.sl lv)]=[.ref [0,1] 0,.v (vInt pa),.v (.sl lv)]:=by
    unfold cH
    rw[hr]
    simp only[D.renL,D.ren,cin,i0]
   have e5:(shut obj [nv,nb,nd]&&D.closL (cE [nv,nb,nd]) [.ref nv 0,.v (vInt pa),.v (.sl lv)]&&fresh obj t [([3,0],.box [.ref [0,1] 0])])=true:=by
    simp[shut,h1,h2,h3,bp,O.clos,D.closL,D.clos,cE,fresh,cB]
   have e4:vN.pre [bp x [1,1] [2,1],.map 2 (bH x.bk),.map 0 (bz x.ds)] [.ref [0,1] 0,.v (vInt pa),.v (.sl lv)]:=⟨x,pa,lv,rfl,rfl⟩
   have e6:∀ os,vN.out os [.ref [0,1] 0,.v (vInt pa),.v (.sl lv)]=⟨[],[([3,0],.box [.ref [0,1] 0])],.clo (.func 193) [] [.ref [3,0] 0,.v (.ptr [vInt pa]),.v (.ptr [.sl lv])]⟩:=fun _=>rfl
   have VH:cH obj [.ref nv 0,.v (V.int .i64 pa),.v (.sl lv)]=[.ref [0,1] 0,.v (vInt pa),.v (.sl lv)]:=e2
   have VJ:cb obj [.ref nv 0,.v (V.int .i64 pa),.v (.sl lv)]=_:=e1
   have oS:reach obj [.ref nv 0,.v (V.int .i64 pa),.v (.sl lv)]=_:=hr
   have VG:(shut obj [nv,nb,nd]&&D.closL (cE [nv,nb,nd]) [.ref nv 0,.v (V.int .i64 pa),.v (.sl lv)]&&fresh obj t [([3,0],.box [.ref [0,1] 0])])=true:=e5
   simp only[CSpec.toSpec,VJ,VH,oS,e6,e4,VG,uT,and_self,cV,cf]
   exact⟨trivial,rfl,rfl⟩
  ·exact aa.elim
 ·exact aa.elim
def S164:Spec:=withS
attribute [go_sem] S164
set_option maxHeartbeats 4000000 in
theorem Be:aL Tryz.prog 164 S164:=by
 refine Mt ?_ (lC _ (by decide))
 refine mM (nt:=8) (rs:=[.tmp 6]) Tryz.func164 rfl (by rfl) (by kernel_rfl) (gK Tryz.func164 rfl (by kernel_rfl)) (lC _ (by decide)) ?_
 rintro os ds ⟨x,pa,lv,rfl,rfl⟩
 refine⟨lb rfl,?_⟩
 have hG:∀ os,vN.out os [.ref [0,1] 0,.v (vInt pa),.v (.sl lv)]=⟨[],[([3,0],.box [.ref [0,1] 0])],.clo (.func 193) [] [.ref [3,0] 0,.v (.ptr [vInt pa]),.v (.ptr [.sl lv])]⟩:=fun _=>rfl
 rw[hG]
 refine il ?_
 have hΓ:=@eT Tryz.prog
 have hO:∀ hs,bP [0] (bL [0] hs) (aS [bp x [1,1] [2,1],.map 2 (bH x.bk),.map 0 (bz x.ds)])=True:=fun hs=>eq_true (nj (by
  intro o ho dom hd
  simp only[List.mem_cons,List.not_mem_nil,or_false]at ho
  rcases ho with rfl | rfl | rfl
  ·simp[bp,O.clos,D.closL,D.clos,hd]
  ·rfl
  ·rfl) hs)
 have h0:aS [bp x [1,1] [2,1],.map 2 (bH x.bk),.map 0 (bz x.ds)] [0,1]=some (bp x [1,1] [2,1]):=rfl
 have h1:aS [bp x [1,1] [2,1],.map 2 (bH x.bk),.map 0 (bz x.ds)] [1,1]=some (.map 2 (bH x.bk)):=rfl
 have h2:aS [bp x [1,1] [2,1],.map 2 (bH x.bk),.map 0 (bz x.ds)] [2,1]=some (.map 0 (bz x.ds)):=rfl
 generalize aS [bp x [1,1] [2,1],.map 2 (bH x.bk),.map 0 (bz x.ds)]=H at *
 repeat refine sq ?_
 refine rx hΓ [3,4,5] [[3,0],[4,0],[5,0]] (fun K' hK=>by simp only[go_sem,hO];(repeat (refine⟨ak,?_⟩));exact hK _ (by simp only[go_sem,hO]) (by simp only[go_sem,hO]<;>rfl)) ?_
 refine bU (dH 4 (.ref [4,0] 0) (by simp only[go_sem]) (by simp only[go_sem]) [3,4,5] [[3,0],[4,0],[5,0]] ?_ rfl) ?_
 ·simp only[go_sem,hO]
 simp only[go_sem,hO]
 refine bU (dH 5 (.ref [5,0] 0) (by simp only[go_sem]) (by simp only[go_sem]) [3,4,5] [[3,0]] ?_ rfl) ?_
 ·simp only[go_sem,hO]
 simp only[go_sem,hO]
 repeat refine sq ?_
 refine rx hΓ [6] [[3,0],[4,0],[5,0]] (fun K' hK=>by simp only[go_sem,hO];(repeat (refine⟨ak,?_⟩));exact hK _ (by simp only[go_sem,hO]) (by simp only[go_sem,hO]<;>rfl)) ?_
 refine ay ?_
 simp only[go_sem,hO]
 exact⟨⟨h0,h1,h2⟩,rfl⟩
end
attribute [go_sem] uv
theorem rV(lv:List Int):pG (194,[.ptr [.sl (lv.map vInt)]])=fun n=>lv.contains n:=by
 funext n
 simp only[pG,pf]
set_option maxHeartbeats 8000000 in
theorem MG{sY:Spec}(hY:aL Tryz.prog yid sY){x:Vw}{nb nd:Name}{pa:Int}{lv:List Int}{ia ic:Nat}{I:Nat->List O}(hv:∀ r∈x.rs,dK r=true)(lJ:x.rs.length<=60)
 (hI:∀ s,(I s).length=(I 0).length) (hc:∀ s,∀ o∈I s,∀ dom:Name->Bool,(∀ i,dom [i,1]=true)->O.clos dom o=true)
 (ha:aS (I 0) [ia,1]=some (.box [.ref [ic,1] 0])) (hx:aS (I 0) [ic,1]=some (bp x nb nd))
 (cP:∀ s (h:s<x.rs.length),jl pa lv x.rs[s]=false->I (s+1)=I s)
 (lV:∀ s (h:s<x.rs.length),jl pa lv x.rs[s]=true->∀ obj tm,(∀ nm,cJ nm=true->obj nm=aS (I s) nm)->sY.app obj tm [.yld [0,1],fz x.rs[s]]=⟨True,.v (.bool true),i6 obj (I (s+1))⟩):
 ∃ c',Tryz.f193.body=some c'/\CL Tryz.prog [c'] (ba 33 [0] (aS (I 0)) [(0,⟨true,.yld [0,1]⟩),(1,⟨true,.ref [ia,1] 0⟩),(2,⟨true,.v (.ptr [vInt pa])⟩),(3,⟨true,.v (.ptr [.sl (lv.map vInt)])⟩)] [])
   (fun e σ=>(e=.normal\/e=.ret)/\∀ i,σ.obj [i,1]=aS (I x.rs.length) [i,1]):=by
 refine⟨_,rfl,?_⟩
 obtain⟨Γ,hΓ,et,er⟩:∃ Γ:FuncId->Option Spec,(∀ f s,Γ f=some s->aL Tryz.prog f s)/\Γ 160=some S160/\Γ 1000000000=some sY:=by
  refine⟨fun f=>if f=160 then some S160 else if f=1000000000 then some sY else none,fun f s h=>?_,rfl,rfl⟩
  dsimp only at h
  split at h
  ·rename_i e;cases h;subst e;exact Il
  ·split at h
   ·rename_i e;cases h;subst e;exact hY
   ·cases h
 have hO:∀ s hs,bP [0] (bL [0] hs) (aS (I s))=True:=fun s hs=>eq_true (nj (hc s) hs)
 have xn:∀ s,i6 (aS (I s)) (I (s+1))=aS (I (s+1)):=fun s=>Nh ((hI _).trans (hI s).symm)
 obtain⟨H,hH⟩:∃ H:Nat->Name->Option O,∀ s,aS (I s)=H s:=⟨_,fun _=>rfl⟩
 simp only[hH]at hO xn lV ha hx |-
 simp only[bp]at hx
 have oR:x.rs.length<=maxLen:=by unfold maxLen;omega
 repeat refine sq ?_
 refine rx hΓ [0,2,3,10,11,12] [] (fun K' hK=>by simp only[go_sem,hO,ha,hx];(repeat (refine⟨ak,?_⟩));exact hK _ (by simp only[go_sem,hO,ha,hx]) (by simp only[go_sem,hO,ha,hx]<;>rfl)) ?_
 repeat refine sq ?_
 refine aQ ?_
 repeat refine sq ?_
 refine Dd (fun s:Nat=>ba 33 [0] (H s) [(0,⟨true,.yld [0,1]⟩),(2,⟨true,.v (.ptr [vInt pa])⟩),(3,⟨true,.v (.ptr [.sl (lv.map vInt)])⟩),(10,⟨true,.v (.sl (x.rs.map encR))⟩),(11,⟨true,.v (vInt x.rs.length)⟩),(12,⟨true,.v (vInt s)⟩)] [])
  (fun s=>s<=x.rs.length) (fun s=>x.rs.length-s) 0 (Nat.zero_le _) (dz.refl _) ?_
 rintro i hi
 repeat refine sq ?_
 refine rx hΓ [0,2,3,10,11,12,13] [] (fun K' hK=>by simp only[go_sem,hO];(repeat (refine⟨ak,?_⟩));exact hK _ (by simp only[go_sem,hO]) (by simp only[go_sem,hO]<;>rfl)) ?_
 repeat refine sq ?_
 refine aB (fun hb=>?_) fun hb=>?_
 ·have ae:i<x.rs.length:=by simpa using hb
  have au:(i:Int)<x.rs.length:=by omega
  have Bt:IntKind.i64.wrap ((i:Int)+1)=((i+1:Nat):Int):=be ae oR
  clear hb
  have hlf:=E9 (hv x.rs[i] (List.getElem_mem ae))
  repeat refine sq ?_
  refine aG ?_
  repeat refine sq ?_
  refine aQ ?_
  repeat refine sq ?_
  refine rx hΓ [0,2,3,6,10,11,12] [[6,0]] (fun K' hK=>by simp only[go_sem,hO,ah ae,ai,aj,au];(repeat (refine⟨ak,?_⟩));exact hK _ (by simp only[go_sem,hO,ah ae,ai,aj,au]) (by simp only[go_sem,hO,ah ae,ai,aj,au]<;>rfl)) ?_
  have Jo:(if jl pa lv x.rs[i]=true then H (i+1)else H i)=H (i+1):=by
   split
   ·rfl
   ·rename_i h;rw[<-hH,<-hH,cP i ae (by simpa using h)]
  by_cases xr:x.rs[i].pa=pa
  ·have kC:(x.rs[i].pa==pa)=true:=by simp[xr]
   cases iV:x.rs[i].lv.any fun n=>lv.contains n with
   |true=>
    have uR:jl pa lv x.rs[i]=true:=by unfold jl;rw[iV];simp[xr]
    have xX:=fun (F:Name->Option O) (tm:Name)=>lV i ae uR (fun nm=>if own [0] nm=true then F nm else H i nm) tm fun nm hn=>by
     obtain⟨k,rfl⟩:=um.1 hn
     simp[rX]
    simp only[fz]at xX
    repeat refine sq ?_
    refine rx hΓ [0,2,3,10,11,12,31] [] (fun K' hK=>by simp only[go_sem,hO,et,er,kC,rV,iV,xX,AI,DQ,xn,Bool.not_true];(repeat (refine⟨by first | exact ak | exact⟨trivial,.inr (.inr ⟨_,rfl⟩)⟩ | exact .inr (.inr ⟨_,rfl⟩),?_⟩));exact hK _ (by simp only[go_sem,hO,et,er,kC,rV,iV,xX,AI,DQ,xn,Bool.not_true]) (by simp only[go_sem,hO,et,er,kC,rV,iV,xX,AI,DQ,xn,Bool.not_true]<;>rfl)) ?_
    repeat refine sq ?_
    refine aB (fun hb=>?_) fun hb=>?_
    ·cases hb
    repeat refine sq ?_
    refine aG ?_
    refine bV ?_
    simp only[go_sem]
    refine eg [0,2,3,10,11,12] [] ?_ ?_
    ·simp only[go_sem,hO]
    simp only[go_sem,hO]
    repeat refine sq ?_
    refine aY hΓ fun K' hK=>?_
    simp only[go_sem]
    repeat (refine⟨ak,?_⟩)
    refine hK _ ?_
    clear K' hK
    simp only[go_sem]
    refine⟨i+1,ae,by omega,?_⟩
    refine bq [0,2,3,10,11,12] [] ?_ ?_<;>simp only[go_sem,hO,Bt,bj]
   |false=>
    have uR:jl pa lv x.rs[i]=false:=by unfold jl;rw[iV];simp
    have Cp:H (i+1)=H i:=by rw[<-hH,<-hH,cP i ae uR]
    repeat refine sq ?_
    refine rx hΓ [0,2,3,10,11,12,31] [] (fun K' hK=>by simp only[go_sem,hO,et,er,kC,rV,iV];(repeat (refine⟨by first | exact ak | exact⟨trivial,.inr (.inr ⟨_,rfl⟩)⟩ | exact .inr (.inr ⟨_,rfl⟩),?_⟩));exact hK _ (by simp only[go_sem,hO,et,er,kC,rV,iV]) (by simp only[go_sem,hO,et,er,kC,rV,iV]<;>rfl)) ?_
    repeat refine sq ?_
    refine aB (fun hb=>?_) fun hb=>?_
    ·cases hb
    repeat refine sq ?_
    refine aG ?_
    refine bV ?_
    simp only[go_sem]
    refine eg [0,2,3,10,11,12] [] ?_ ?_
    ·simp only[go_sem,hO]
    simp only[go_sem,hO]
    repeat refine sq ?_
    refine aY hΓ fun K' hK=>?_
    simp only[go_sem]
    repeat (refine⟨ak,?_⟩)
    refine hK _ ?_
    clear K' hK
    simp only[go_sem]
    refine⟨i+1,ae,by omega,?_⟩
    rw[Cp]
    refine bq [0,2,3,10,11,12] [] ?_ ?_<;>simp only[go_sem,hO,Bt,bj]
  ·have kC:(x.rs[i].pa==pa)=false:=by simp[xr]
   have uR:jl pa lv x.rs[i]=false:=by unfold jl;simp[xr]
   have Cp:H (i+1)=H i:=by rw[<-hH,<-hH,cP i ae uR]
   repeat refine sq ?_
   refine rx hΓ [0,2,3,10,11,12,31] [] (fun K' hK=>by simp only[go_sem,hO,et,er,kC];(repeat (refine⟨ak,?_⟩));exact hK _ (by simp only[go_sem,hO,et,er,kC]) (by simp only[go_sem,hO,et,er,kC]<;>rfl)) ?_
   repeat refine sq ?_
   refine aB (fun hb=>?_) fun hb=>?_
   ·cases hb
   repeat refine sq ?_
   refine aG ?_
   refine bV ?_
   simp only[go_sem]
   refine eg [0,2,3,10,11,12] [] ?_ ?_
   ·simp only[go_sem,hO]
   simp only[go_sem,hO]
   repeat refine sq ?_
   refine aY hΓ fun K' hK=>?_
   simp only[go_sem]
   repeat (refine⟨ak,?_⟩)
   refine hK _ ?_
   clear K' hK
   simp only[go_sem]
   refine⟨i+1,ae,by omega,?_⟩
   rw[Cp]
   refine bq [0,2,3,10,11,12] [] ?_ ?_<;>simp only[go_sem,hO,Bt,bj]
 ·have bw:i=x.rs.length:=by
    have :¬ (i:Int)<x.rs.length:=by simpa using hb
    omega
  subst bw
  clear hb
  repeat refine sq ?_
  refine bM ?_
  simp only[go_sem]
  refine bV ?_
  simp only[go_sem]
  first | exact .inl trivial | exact⟨by simp,fun k=>by simp[rX]⟩
set_option maxRecDepth 10000
noncomputable section
theorem tp{α:Type}{p:α->Bool}{l:List α}{s:Nat}(h:s<l.length):((l.take (s+1)).filter p)=(l.take s).filter p++(if p l[s]=true then[l[s]]else[]):=by
 rw[List.take_add_one,List.getElem?_eq_getElem h,List.filter_append]
 simp only[Option.toList_some,List.filter_cons,List.filter_nil]
theorem Vy{α:Type}{p:α->Bool}{l:List α}{s:Nat}{z:α}(h:s<l.length)(hp:p l[s]=true):((l.take s).filter p).length<(l.filter p).length/\(l.filter p).getD ((l.take s).filter p).length z=l[s]:=by
 have e:l.filter p=(l.take s).filter p++(l[s]::(l.drop (s+1)).filter p):=by
  conv=>lhs;rw[<-List.take_append_drop s l,List.filter_append,List.drop_eq_getElem_cons h,List.filter_cons,if_pos hp]
 refine⟨?_,?_⟩
 ·rw[e,List.length_append,List.length_cons];omega
 ·rw[e];simp[List.getD]
def iX(j:Nat)(pa:Int)(lv:List Int)(Ls:List Name):List D:=[.ref (Ls.getD j []) 0,.v (.ptr [vInt pa]),.v (.ptr [.sl (lv.map vInt)])]
theorem EL{r:Lp}(hr:r.Ok)(cP:∀ j,r.st j=none)(hy:aL Tryz.prog yid r.y.toSpec){x:Vw}{nb nd:Name}{pa:Int}{lv:List Int}{j jc:Nat}(hv:∀ q∈x.rs,dK q=true)(lJ:x.rs.length<=60)
 (hn:r.n=(dU x.rs pa lv).length) (S3:∀ s,r.vals s=[fz ((dU x.rs pa lv).getD s zeroR)]) (hj:j<r.m) (ha:aS (r.I 0) [j+1,1]=some (.box [.ref [jc+1,1] 0])) (hx:aS (r.I 0) [jc+1,1]=some (bp x nb nd)):
 aL Tryz.prog 193 (r.itC (iX j pa lv)).toSpec:=by
 have hM:iX j pa lv (LI r.m)=[.ref [j+1,1] 0,.v (.ptr [vInt pa]),.v (.ptr [.sl (lv.map vInt)])]:=by
  unfold iX
  have :(LI r.m).getD j []=[j+1,1]:=by simp[LI,hj]
  rw[this]
 obtain⟨c,hc,h⟩:=MG hy (x:=x) (nb:=nb) (nd:=nd) (pa:=pa) (lv:=lv) (ia:=j+1) (ic:=jc+1) (I:=fun s=>r.I ((x.rs.take s).filter (jl pa lv)).length) hv lJ
  (fun s=>by rw[Lp.I_len hr,Lp.I_len hr]) (fun s=>Lp.I_clos hr _) (by simpa using ha) (by simpa using hx)
  (fun s hs hh=>by rw[tp hs,hh];simp)
  (fun s hs hh obj tm ho=>by
    obtain⟨h1,h2⟩:=Vy (z:=zeroR) hs hh
    have :=Lp.y_setU hr cP (s:=((x.rs.take s).filter (jl pa lv)).length) (by rw[hn];exact h1) obj tm ho
    rw[S3]at this
    unfold dU at this
    rw[h2]at this
    rw[this,tp hs,hh]
    simp)
 refine Lp.itC_sound hr cP Tryz.func193 Tryz.ntmps193 (by rfl) (by kernel_rfl) (by decide) ⟨c,hc,by rw[hM];exact lb rfl,?_⟩
 rw[hM]
 have h0:r.I ((x.rs.take 0).filter (jl pa lv)).length=r.I 0:=by simp
 have h9:r.I ((x.rs.take x.rs.length).filter (jl pa lv)).length=r.I r.n:=by rw[List.take_length,hn];rfl
 simp only[h0,h9]at h
 exact h
theorem Ff{a b:Rec}(h:fz a=fz b):a=b:=by
 obtain⟨a1,a2,a3,al,a4,a5,a6⟩:=a
 obtain⟨b1,b2,b3,bl,b4,b5,b6⟩:=b
 simp only[fz,D.agg.injEq,List.cons.injEq,D.v.injEq,vInt,V.int.injEq,V.sl.injEq,true_and,and_true]at h
 obtain⟨rfl,rfl,rfl,hl,rfl,rfl,rfl⟩:=h
 have :=congrArg (List.map iW) hl
 have e:∀ l:List Int,(l.map fun n=>V.int .i64 n).map iW=l:=fun l=>pf l
 rw[e,e]at this
 rw[this]
theorem D4{l:List Rec}(hn:l.Nodup):∀ s s',s<l.length->s'<l.length->([fz (l.getD s zeroR)]:List D)=[fz (l.getD s' zeroR)]->s=s':=by
 intro s s' h h' e
 have e1:=Ff (List.cons.inj e).1
 rw[dv h,dv h']at e1
 exact(List.getElem_inj hn).1 e1
def pK:Code->Option (Array Tmp×Code×Code)
 | .seq a b=>match pK a with | some x=>some x | none=>pK b
 | .block _ b=>pK b
 | .loop b=>pK b
 | .cond _ a b=>match pK a with | some x=>some x | none=>pK b
 | .rangeFunc _ ps a b=>some (ps,a,b)
 |_=>none
def oy(fn:Func):Array Tmp×Code×Code:=((fn.body.bind pK).getD (#[],.skip,.skip))
theorem jH{Ls:List Name}(h:Ls.length=5):∃ a b c d e,Ls=[a,b,c,d,e]:=by
 match Ls,h with
 |[a,b,c,d,e],_=>exact⟨a,b,c,d,e,rfl⟩
theorem oE{Ls:List Name}(h:Ls.length=7):∃ a b c d e f g,Ls=[a,b,c,d,e,f,g]:=by
 match Ls,h with
 |[a,b,c,d,e,f,g],_=>exact⟨a,b,c,d,e,f,g,rfl⟩
def gz(l:Led)(k i j:Int)(n:Nat)(x:Vw)(r:Rec)(lv:List Int):Lp where
 m:=5
 env:=fun Ls=>(List.range 181).map (di eAny [(0,⟨true,.v (ie l)⟩),(5,⟨true,.ref (Ls.getD 0 []) 0⟩),(17,⟨true,.v (.ptr [vInt i])⟩),(19,⟨true,.v (.ptr [vInt r.so,vInt r.bo,vInt r.pa,.sl (r.lv.map vInt),vInt r.da,vInt r.kn,vInt r.un])⟩),(141,⟨true,.v (.sl (x.ts.map vInt))⟩),(142,⟨true,.v (vInt n)⟩),(143,⟨true,.v (vInt j)⟩),(166,⟨true,.clo (.func 193) [] (iX 4 r.pa lv Ls)⟩)])
 fam:=fun Ls s=>[.box [.ref (Ls.getD 1 []) 0],bp x (Ls.getD 2 []) (Ls.getD 3 []),.map 2 (bH x.bk),.map 0 (bz (jF x.ds i r.da ((dU x.rs r.pa lv).take s))),.box [.ref (Ls.getD 1 []) 0]]
 ps:=(oy Tryz.f76).1.toList
 asg:=(oy Tryz.f76).2.1
 body:=(oy Tryz.f76).2.2
 n:=(dU x.rs r.pa lv).length
 vals:=fun s=>[fz ((dU x.rs r.pa lv).getD s zeroR)]
 st:=fun _=>none
 fu:=100
theorem Gl(l:Led)(k i j:Int)(n:Nat)(x:Vw)(r:Rec)(lv:List Int)(hn:x.rs.Nodup):(gz l k i j n x r lv).Ok where
 len:=fun Ls s _=>rfl
 renE:=fun f Ls h=>by obtain⟨a,b,c,d,e,rfl⟩:=jH h;rfl
 renF:=fun f Ls s h=>by obtain⟨a,b,c,d,e,rfl⟩:=jH h;rfl
 reach:=fun Ls s obj acc q h b9 hd hF=>by
  obtain⟨a,b,c,d,e,rfl⟩:=jH h
  obtain⟨h1,h2,h3,h4,h5,_⟩:=hF
  have en:cI (((gz l k i j n x r lv).env [a,b,c,d,e]).map (·.d))=[a,e]:=rfl
  rw[en]
  show cY obj (q+91+1+1+1+1+1+1+1+1+1) _ acc=_
  simp only[List.mem_cons,List.not_mem_nil,or_false,forall_eq_or_imp,forall_eq]at hd
  obtain⟨d1,d2,d3,d4,d5⟩:=hd
  simp only[List.nodup_cons,List.mem_cons,List.not_mem_nil,or_false,not_or,not_false_eq_true,List.nodup_nil,and_true]at b9
  obtain⟨⟨a1,a2,a3,a4⟩,⟨b1,b2,b3⟩,⟨c1,c2⟩,e1⟩:=b9
  simp[cY,fD,h1,h2,h3,h4,h5,kx,cI,ky,bp,d1,d2,d3,d4,d5,Ne.symm a1,Ne.symm a2,Ne.symm a3,Ne.symm a4,Ne.symm b1,Ne.symm b2,Ne.symm b3,Ne.symm c1,Ne.symm c2,Ne.symm e1]
 closE:=fun dom Ls h hd=>by
  obtain⟨a,b,c,d,e,rfl⟩:=jH h
  have h1:=hd a (by simp)
  have h2:=hd e (by simp)
  simp[gz,List.range,List.range.loop,di,D.closL,D.clos,eAny,h1,h2,iX]
 closF:=fun dom Ls s h hd o ho=>by
  obtain⟨a,b,c,d,e,rfl⟩:=jH h
  have h1:=hd b (by simp)
  have h2:=hd c (by simp)
  have h3:=hd d (by simp)
  simp only[gz,List.mem_cons,List.not_mem_nil,or_false]at ho
  rcases ho with rfl | rfl | rfl | rfl | rfl<;>simp[O.clos,D.closL,D.clos,bp,h1,h2,h3]
 psz:=fun Ls h=>by rfl
 args:=fun s=>by rfl
 fuel:=(show (100:Nat)<=2000 by decide)
 vnam:=fun _=>rfl
 vcl:=fun _ _=>rfl
 vren:=fun _ _=>rfl
 inj:=D4 (hn.filter _)
def K23:List (Nat×Spec):=[(165,S165)]
theorem Zl:KS K23:=tc Bd<|tn
attribute [go_sem] K23
theorem PR(d:Ds)(i da:Int){os:List Rec}{s:Nat}(h:s<os.length):jF d i da (os.take (s+1))=if os[s].da>da then nu (jF d i da (os.take s)) i ⟨0,os[s].da⟩else jF d i da (os.take s):=by
 unfold jF
 rw[List.take_add_one,List.getElem?_eq_getElem h,List.foldl_append]
 rfl
set_option maxHeartbeats 4000000 in
theorem Qq(l:Led)(k i j:Int)(n:Nat)(x:Vw)(r:Rec)(lv:List Int)(hn:x.rs.Nodup):aL Tryz.prog yid (gz l k i j n x r lv).y.toSpec:=by
 refine Lp.y_sound (Gl l k i j n x r lv hn) fun s hs _=>?_
 have hΓ:=Zl
 have gk:s<(dU x.rs r.pa lv).length:=hs
 have Ce:(gz l k i j n x r lv).fam (LR 5) s=[.box [.ref [1,1] 0],bp x [2,1] [3,1],.map 2 (bH x.bk),.map 0 (bz (jF x.ds i r.da ((dU x.rs r.pa lv).take s))),.box [.ref [1,1] 0]]:=rfl
 have Cd:(gz l k i j n x r lv).fam (LR 5) (s+1)=[.box [.ref [1,1] 0],bp x [2,1] [3,1],.map 2 (bH x.bk),.map 0 (bz (jF x.ds i r.da ((dU x.rs r.pa lv).take (s+1)))),.box [.ref [1,1] 0]]:=rfl
 have cP:(gz l k i j n x r lv).st s=none:=rfl
 have hv:(gz l k i j n x r lv).vals s=[fz ((dU x.rs r.pa lv)[s])]:=by rw[<-dv (z:=zeroR) gk];rfl
 have hm:(gz l k i j n x r lv).m=5:=rfl
 rw[hm,Ce,Cd,cP,hv,PR _ _ _ gk]
 generalize (dU x.rs r.pa lv)[s]=o
 generalize jF x.ds i r.da ((dU x.rs r.pa lv).take s)=d
 generalize gC:[O.box [.ref [1,1] 0],bp x [2,1] [3,1],.map 2 (bH x.bk),.map 0 (bz d),.box [.ref [1,1] 0]]=os
 have hO:∀ hs,bP [0] (bL [0] hs) (aS os)=True:=by
  subst gC
  refine fun hs=>eq_true (nj ?_ hs)
  intro o ho dom hd
  simp only[List.mem_cons,List.not_mem_nil,or_false]at ho
  rcases ho with rfl | rfl | rfl | rfl | rfl<;>simp[O.clos,D.closL,D.clos,bp,hd]
 have ab:∀ hs es,bP [0] (bL [0] hs) (fun nm=>if nm=[3,1]then some (.map 0 es)else aS os nm)=True:=fun hs es=>eq_true (ri (nm:=[3,1]) (o:=.map 0 es) rfl (by rw[hO];trivial))
 have h0:aS os [0,1]=some (.box [.ref [1,1] 0]):=by subst gC;rfl
 have h1:aS os [1,1]=some (bp x [2,1] [3,1]):=by subst gC;rfl
 have h2:aS os [2,1]=some (.map 2 (bH x.bk)):=by subst gC;rfl
 have h3:aS os [3,1]=some (.map 0 (bz d)):=by subst gC;rfl
 have h4:aS os [4,1]=some (.box [.ref [1,1] 0]):=by subst gC;rfl
 generalize hH:aS os=H at *
 clear gC hH
 simp only[bp]at h1 |-
 have lJ:oy Tryz.f76=(_,_,_):=rfl
 refine sS (zw 181 [0] H [(5,⟨true,.ref [0,1] 0⟩),(17,⟨true,.v (.ptr [vInt i])⟩),(19,⟨true,.v (.ptr [vInt r.so,vInt r.bo,vInt r.pa,.sl (r.lv.map vInt),vInt r.da,vInt r.kn,vInt r.un])⟩),(167,⟨true,fz o⟩)] [] rfl rfl (fun _ _=>rfl) ?_ (by simp) ?_ ?_) ?_
 ·intro q hq
  simp only[List.mem_cons,List.not_mem_nil,or_false]at hq
  rcases hq with rfl | rfl | rfl | rfl<;>rfl
 ·simp[D.clos,D.closL,bL,own,fz]
 ·rw[hO];trivial
 simp only[gz,lJ]
 refine il ?_
 repeat refine sq ?_
 refine aY hΓ fun K' hK=>?_
 simp only[go_sem,hO,ab,h0,h1,h2,h3,h4]
 repeat (refine⟨ak,?_⟩)
 refine hK _ ?_
 clear K' hK
 simp only[go_sem]
 (show CW _ _ _ _)
 refine il ?_
 repeat refine sq ?_
 refine aQ ?_
 repeat refine sq ?_
 refine rx hΓ [5,17,19,21,172] [[5,0],[17,0],[19,0],[21,0],[23,0],[24,0],[26,0],[49,0],[124,0]] (fun K' hK=>by simp only[go_sem,hO,ab,h0,h1,h2,h3,h4];(repeat (refine⟨ak,?_⟩));exact hK _ (by simp only[go_sem,hO,ab,h0,h1,h2,h3,h4]) (by simp only[go_sem,hO,ab,h0,h1,h2,h3,h4]<;>rfl)) ?_
 repeat refine sq ?_
 refine aB (fun hb=>?_) fun hb=>?_
 ·repeat refine sq ?_
  refine aY hΓ fun K' hK=>?_
  simp only[go_sem,hO,ab,h0,h1,h2,h3,h4]
  repeat (refine⟨ak,?_⟩)
  refine hK _ ?_
  clear K' hK
  simp only[go_sem]
  refine bV ?_
  have cX:o.da>r.da:=by simpa using hb
  rw[if_pos cX]
  refine⟨rfl,?_⟩
  show cD _ [[0,1],[1,1],[2,1],[3,1],[4,1]] _
  simp only[cD,go_sem,h0,h1,h2,h3,h4,C0]
  simp[AD,nu]
 ·repeat refine sq ?_
  refine aG ?_
  refine bV ?_
  simp only[go_sem]
  have cX:¬ o.da>r.da:=by simpa using hb
  rw[if_neg cX]
  refine⟨rfl,?_⟩
  show cD _ [[0,1],[1,1],[2,1],[3,1],[4,1]] _
  simp only[cD,go_sem,h0,h1,h2,h3,h4,C0]
end
noncomputable section
def eZ:Option Rec->List D
 |some r=>qR r
 |none=>[.v (vInt 0),.v (vInt 0),.v (vInt 0),.nilsl,.v (vInt 0),.v (vInt 0),.v (vInt 0)]
def kP(rs:List Rec)(pa le day:Int)(s:Nat):Option Rec:=((dU rs pa [le]).take s).foldl (vx day) none
theorem WY{rs:List Rec}{pa le day:Int}{s:Nat}(h:s<(dU rs pa [le]).length):kP rs pa le day (s+1)=vx day (kP rs pa le day s) (dU rs pa [le])[s]:=by
 unfold kP
 rw[List.take_add_one,List.getElem?_eq_getElem h,List.foldl_append]
 rfl
theorem WZ(rs:List Rec)(pa le day:Int):kP rs pa le day (dU rs pa [le]).length=gN rs pa le day:=by
 unfold kP gN
 rw[List.take_length]
def gq(x:Vw)(pa le day:Int):Lp where
 m:=7
 env:=fun Ls=>(List.range 37).map (di eAny [(5,⟨true,.v (.ptr [vInt day])⟩),(6,⟨true,.ref (Ls.getD 0 []) 0⟩),(8,⟨true,.ref (Ls.getD 1 []) 0⟩),(9,⟨true,.ref (Ls.getD 2 []) 0⟩),(17,⟨true,.clo (.func 193) [] (iX 3 pa [le] Ls)⟩)])
 fam:=fun Ls s=>[.box (eZ none),.box (eZ (kP x.rs pa le day s)),.box [.v (.bool (kP x.rs pa le day s).isSome)],.box [.ref (Ls.getD 4 []) 0],bp x (Ls.getD 5 []) (Ls.getD 6 []),.map 2 (bH x.bk),.map 0 (bz x.ds)]
 ps:=(oy Tryz.f119).1.toList
 asg:=(oy Tryz.f119).2.1
 body:=(oy Tryz.f119).2.2
 n:=(dU x.rs pa [le]).length
 vals:=fun s=>[fz ((dU x.rs pa [le]).getD s zeroR)]
 st:=fun _=>none
 fu:=100
theorem WE(f:Name->Name)(o:Option Rec):D.renL f (eZ o)=eZ o:=by cases o<;>rfl
theorem KP(o:Option Rec):cI (eZ o)=[]:=by cases o<;>rfl
theorem yA(p:Name->Bool)(o:Option Rec):D.closL p (eZ o)=true:=by cases o<;>rfl
theorem Dv(x:Vw)(pa le day:Int)(hn:x.rs.Nodup):(gq x pa le day).Ok where
 len:=fun Ls s _=>rfl
 renE:=fun f Ls h=>by obtain⟨a,b,c,d,e,f,g,rfl⟩:=oE h;rfl
 renF:=fun f Ls s h=>by
  obtain⟨a,b,c,d,e,f,g,rfl⟩:=oE h
  simp only[gq,List.map_cons,List.map_nil,O.ren,WE,D.renL,D.ren,bp,List.getD_cons_succ,List.getD_cons_zero]
 reach:=fun Ls s obj acc q h b9 hd hF=>by
  obtain⟨a,b,c,d,e,f,g,rfl⟩:=oE h
  obtain⟨h1,h2,h3,h4,h5,h6,h7,_⟩:=hF
  have en:cI (((gq x pa le day).env [a,b,c,d,e,f,g]).map (·.d))=[a,b,c,d]:=rfl
  rw[en]
  show cY obj (q+91+1+1+1+1+1+1+1+1+1) _ acc=_
  simp only[List.mem_cons,List.not_mem_nil,or_false,forall_eq_or_imp,forall_eq]at hd
  obtain⟨d1,d2,d3,d4,d5,d6,d7⟩:=hd
  simp only[List.nodup_cons,List.mem_cons,List.not_mem_nil,or_false,not_or,not_false_eq_true,List.nodup_nil,and_true]at b9
  obtain⟨⟨a1,a2,a3,a4,a5,a6⟩,⟨b1,b2,b3,b4,b5⟩,⟨c1,c2,c3,c4⟩,⟨e1,e2,e3⟩,⟨f1,f2⟩,g1⟩:=b9
  simp[cY,fD,h1,h2,h3,h4,h5,h6,h7,kx,cI,ky,bp,KP,d1,d2,d3,d4,d5,d6,d7,Ne.symm a1,Ne.symm a2,Ne.symm a3,Ne.symm a4,Ne.symm a5,Ne.symm a6,Ne.symm b1,Ne.symm b2,Ne.symm b3,Ne.symm b4,Ne.symm b5,Ne.symm c1,Ne.symm c2,Ne.symm c3,Ne.symm c4,Ne.symm e1,Ne.symm e2,Ne.symm e3,Ne.symm f1,Ne.symm f2,Ne.symm g1]
 closE:=fun dom Ls h hd=>by
  obtain⟨a,b,c,d,e,f,g,rfl⟩:=oE h
  have h1:=hd a (by simp)
  have h2:=hd b (by simp)
  have h3:=hd c (by simp)
  have h4:=hd d (by simp)
  simp[gq,List.range,List.range.loop,di,D.closL,D.clos,eAny,h1,h2,h3,h4,iX]
 closF:=fun dom Ls s h hd o ho=>by
  obtain⟨a,b,c,d,e,f,g,rfl⟩:=oE h
  have h1:=hd e (by simp)
  have h2:=hd f (by simp)
  have h3:=hd g (by simp)
  simp only[gq,List.mem_cons,List.not_mem_nil,or_false]at ho
  rcases ho with rfl | rfl | rfl | rfl | rfl | rfl | rfl<;>simp[O.clos,D.closL,D.clos,bp,yA,h1,h2,h3]
 psz:=fun Ls h=>by rfl
 args:=fun s=>by rfl
 fuel:=(show (100:Nat)<=2000 by decide)
 vnam:=fun _=>rfl
 vcl:=fun _ _=>rfl
 vren:=fun _ _=>rfl
 inj:=D4 (hn.filter _)
theorem W2(x:Vw)(pa le day:Int):zp (gq x pa le day) (iX 3 pa [le]) where
 ren:=fun f Ls h=>by obtain⟨a,b,c,d,e,f,g,rfl⟩:=oE h;rfl
 clo:=fun dom Ls h hd=>by
  obtain⟨a,b,c,d,e,f,g,rfl⟩:=oE h
  have h4:=hd d (by simp)
  simp[D.closL,D.clos,h4,iX]
 reach:=fun Ls s obj R q h b9 hF h0=>by
  obtain⟨a,b,c,d,e,f,g,rfl⟩:=oE h
  obtain⟨h1,h2,h3,h4,h5,h6,h7,_⟩:=hF
  have en:cI (((gq x pa le day).env [a,b,c,d,e,f,g]).map (·.d))=[a,b,c,d]:=rfl
  have ec:cI (iX 3 pa [le] [a,b,c,d,e,f,g])=[d]:=rfl
  rw[ec]
  show cY obj (q+90+1+1+1+1+1+1+1+1+1+1+1) _ []=_
  simp only[List.nodup_cons,List.mem_cons,List.not_mem_nil,or_false,not_or,not_false_eq_true,List.nodup_nil,and_true]at b9
  obtain⟨⟨r1,r2,r3,r4,r5,r6,r7⟩,⟨a1,a2,a3,a4,a5,a6⟩,⟨b1,b2,b3,b4,b5⟩,⟨c1,c2,c3,c4⟩,⟨e1,e2,e3⟩,⟨f1,f2⟩,g1⟩:=b9
  simp[cY,fD,h0,h1,h2,h3,h4,h5,h6,h7,Lp.rc,kx,en,cI,ky,bp,KP,Ne.symm r1,Ne.symm r2,Ne.symm r3,Ne.symm r4,Ne.symm r5,Ne.symm r6,Ne.symm r7,Ne.symm a1,Ne.symm a2,Ne.symm a3,Ne.symm a4,Ne.symm a5,Ne.symm a6,Ne.symm b1,Ne.symm b2,Ne.symm b3,Ne.symm b4,Ne.symm b5,Ne.symm c1,Ne.symm c2,Ne.symm c3,Ne.symm c4,Ne.symm e1,Ne.symm e2,Ne.symm e3,Ne.symm f1,Ne.symm f2,Ne.symm g1]
theorem W0(day:Int)(o:Option Rec)(r:Rec):vx day o r=if decide (r.da<=day)&&(!o.isSome||decide (r.da>=(o.getD zeroR).da))then some r else o:=by
 unfold vx
 cases o<;>rfl
theorem W1(x:Vw)(pa le day:Int)(hn:x.rs.Nodup):aL Tryz.prog yid (gq x pa le day).y.toSpec:=by
 refine Lp.y_sound (Dv x pa le day hn) fun s hs _=>?_
 have hΓ:=@eT Tryz.prog
 have gk:s<(dU x.rs pa [le]).length:=hs
 have Ce:(gq x pa le day).fam (LR 7) s=[.box (eZ none),.box (eZ (kP x.rs pa le day s)),.box [.v (.bool (kP x.rs pa le day s).isSome)],.box [.ref [4,1] 0],bp x [5,1] [6,1],.map 2 (bH x.bk),.map 0 (bz x.ds)]:=rfl
 have Cd:(gq x pa le day).fam (LR 7) (s+1)=[.box (eZ none),.box (eZ (kP x.rs pa le day (s+1))),.box [.v (.bool (kP x.rs pa le day (s+1)).isSome)],.box [.ref [4,1] 0],bp x [5,1] [6,1],.map 2 (bH x.bk),.map 0 (bz x.ds)]:=rfl
 have cP:(gq x pa le day).st s=none:=rfl
 have hv:(gq x pa le day).vals s=[fz ((dU x.rs pa [le])[s])]:=by rw[<-dv (z:=zeroR) gk];rfl
 have hm:(gq x pa le day).m=7:=rfl
 rw[hm,Ce,Cd,cP,hv,WY gk,W0]
 generalize (dU x.rs pa [le])[s]=r
 generalize kP x.rs pa le day s=o
 obtain⟨c3,e0,e1⟩:∃ c3,(c3=.nilsl\/∃ l,c3=.v (.sl l))/\eZ o=[.v (vInt (o.getD zeroR).so),.v (vInt (o.getD zeroR).bo),.v (vInt (o.getD zeroR).pa),c3,.v (vInt (o.getD zeroR).da),.v (vInt (o.getD zeroR).kn),.v (vInt (o.getD zeroR).un)]:=by
  cases o with
  |none=>exact⟨_,.inl rfl,rfl⟩
  |some q=>exact⟨_,.inr ⟨_,rfl⟩,rfl⟩
 have e2:∀ p,D.clos p c3=true:=fun p=>by rcases e0 with rfl | ⟨l,rfl⟩<;>rfl
 generalize gC:[O.box (eZ none),.box (eZ o),.box [.v (.bool o.isSome)],.box [.ref [4,1] 0],bp x [5,1] [6,1],.map 2 (bH x.bk),.map 0 (bz x.ds)]=os
 have hO:∀ hs,bP [0] (bL [0] hs) (aS os)=True:=by
  subst gC
  refine fun hs=>eq_true (nj ?_ hs)
  intro o ho dom hd
  simp only[List.mem_cons,List.not_mem_nil,or_false]at ho
  rcases ho with rfl | rfl | rfl | rfl | rfl | rfl | rfl<;>simp[O.clos,D.closL,D.clos,bp,hd,yA]
 have ab:∀ hs cs b,(∀ p,D.closL p cs=true)->bP [0] (bL [0] hs) (fun nm=>if nm=[2,1]then some (.box [.v (.bool b)])else if nm=[1,1]then some (.box cs)else aS os nm)=True:=fun hs cs b hM=>
  eq_true (ri (nm:=[2,1]) (o:=.box [.v (.bool b)]) rfl (ri (nm:=[1,1]) (o:=.box cs) (by simp[O.clos,hM]) (by rw[hO];trivial)))
 have h0:aS os [0,1]=some (.box (eZ none)):=by subst gC;rfl
 have h1:aS os [1,1]=some (.box (eZ o)):=by subst gC;rfl
 have h2:aS os [2,1]=some (.box [.v (.bool o.isSome)]):=by subst gC;rfl
 have h3:aS os [3,1]=some (.box [.ref [4,1] 0]):=by subst gC;rfl
 have h4:aS os [4,1]=some (bp x [5,1] [6,1]):=by subst gC;rfl
 have h5:aS os [5,1]=some (.map 2 (bH x.bk)):=by subst gC;rfl
 have h6:aS os [6,1]=some (.map 0 (bz x.ds)):=by subst gC;rfl
 generalize hH:aS os=H at *
 clear gC hH
 rw[e1]at h1
 have lJ:oy Tryz.f119=(_,_,_):=rfl
 refine sS (zw 37 [0] H [(5,⟨true,.v (.ptr [vInt day])⟩),(8,⟨true,.ref [1,1] 0⟩),(9,⟨true,.ref [2,1] 0⟩),(18,⟨true,fz r⟩)] [] rfl rfl (fun _ _=>rfl) ?_ (by simp) ?_ ?_) ?_
 ·intro q hq
  simp only[List.mem_cons,List.not_mem_nil,or_false]at hq
  rcases hq with rfl | rfl | rfl | rfl<;>rfl
 ·simp[D.clos,D.closL,bL,own,fz]
 ·rw[hO];trivial
 simp only[gq,lJ]
 refine il ?_
 repeat refine sq ?_
 refine aY hΓ fun K' hK=>?_
 simp only[go_sem,hO,h0,h1,h2,h3,h4,e2]
 repeat (refine⟨ak,?_⟩)
 refine hK _ ?_
 clear K' hK
 simp only[go_sem]
 (show CW _ _ _ _)
 refine il ?_
 repeat refine sq ?_
 refine aQ ?_
 repeat refine sq ?_
 refine rx hΓ [5,8,9,10,33] [[5,0],[8,0],[9,0],[10,0]] (fun K' hK=>by simp only[go_sem,hO,h0,h1,h2,h3,h4,e2];(repeat (refine⟨ak,?_⟩));exact hK _ (by simp only[go_sem,hO,h0,h1,h2,h3,h4,e2]) (by simp only[go_sem,hO,h0,h1,h2,h3,h4,e2]<;>rfl)) ?_
 repeat refine sq ?_
 refine aB (fun hb=>?_) fun hb=>?_
 ·repeat refine sq ?_
  refine aY hΓ fun K' hK=>?_
  simp only[go_sem,hO,h0,h1,h2,h3,h4,e2]
  repeat (refine⟨ak,?_⟩)
  refine hK _ ?_
  clear K' hK
  simp only[go_sem]
  refine bV ?_
  rw[if_pos (by rw[<-Bool.and_eq_true];exact hb)]
  refine⟨rfl,?_⟩
  show cD _ [[0,1],[1,1],[2,1],[3,1],[4,1],[5,1],[6,1]] _
  simp only[cD,go_sem,h0,h1,h2,h3,h4,h5,h6]
  simp[eZ,qR]
 ·repeat refine sq ?_
  refine aG ?_
  refine bV ?_
  simp only[go_sem]
  rw[if_neg (by rw[<-Bool.and_eq_true,hb];decide)]
  refine⟨rfl,?_⟩
  show cD _ [[0,1],[1,1],[2,1],[3,1],[4,1],[5,1],[6,1]] _
  simp only[cD,go_sem,h0,h1,h2,h3,h4,h5,h6,e1]
  first | done | exact⟨trivial,trivial⟩
def FJ(p:Name)(H:Name->Option O):List Name->List O->Prop
 |x::xs,o::os=>(own p x=true\/H x=some o)/\FJ p H xs os
 |_,_=>True
theorem EE{p:Name}{H:Name->Option O}{nm:Name}(hn:own p nm=false):∀ {Ls:List Name} {F:List O} {obj:Name->Option O},FJ p H Ls F->obj nm=H nm->dA Ls F obj nm=H nm
 |[],_,_,_,h=>by simpa[dA]using h
 |x::xs,[],_,_,h=>by simpa[dA]using h
 |x::xs,o::os,obj,hk,h=>by
  simp only[dA]
  refine EE hn hk.2 ?_
  by_cases e:nm=x
  ·subst e
   rw[aN]
   rcases hk.1 with h1 | h1
   ·rw[hn]at h1;cases h1
   ·exact h1.symm
  ·rw[aV _ _ _ e];exact h
def K24:List (Nat×Spec):=[(164,S164)]
theorem Zk:KS K24:=tc Be<|tn
attribute [go_sem] K24
def LS:VSpec:=v2 jL iI (fun x _ _=>l9 x/\x.rs.Nodup) (fun x f day=>.tup [lu (gN x.rs f.pa f.le day),.v (.bool (gN x.rs f.pa f.le day).isSome)]) none
def S119:Spec:=LS.toSpec
attribute [go_sem] LS S119
set_option maxHeartbeats 8000000 in
theorem Ip:aL Tryz.prog 119 S119:=by
 refine vR (rs:=[.cell 6 36,.tmp 7]) Tryz.func119 Tryz.ntmps119 (by rfl) (by kernel_rfl) (by decide) (fun _ _ _=>by first | rfl | exact km _ _ | simp[D.clos,D.closL,km]) ⟨_,rfl,lb rfl,fun x f day hp H h0 h1 h2 hO ab=>?_⟩
 have hP:=fB
 simp only[jL,iI,lZ,bp,cN,List.map_cons,List.map_nil,Nat.zero_add,Option.map_some,Option.map_none]at h0 |-
 have hΓ:=Zk
 obtain⟨hv,b9⟩:=hp
 obtain⟨pa,le⟩:=f
 repeat refine sq ?_
 refine rx hΓ [0,4,5,6] [[4,0],[5,0],[6,0]] (fun K' hK=>by simp only[go_sem,hO,ab,h0,h1,h2];(repeat (refine⟨ak,?_⟩));exact hK _ (by simp only[go_sem,hO,ab,h0,h1,h2]) (by simp only[go_sem,hO,ab,h0,h1,h2]<;>rfl)) ?_
 refine bU (dH 4 (.ref [4,0] 0) (by simp only[go_sem]) (by simp only[go_sem]) [0,4,5,6] [[4,0],[5,0],[6,0]] ?_ rfl) ?_
 ·simp only[go_sem,hO,ab,h0,h1,h2]
 simp only[go_sem,hO,ab,h0,h1,h2]
 repeat refine sq ?_
 refine rx hΓ [0,4,5,6,8] [[4,0],[5,0],[6,0],[8,0]] (fun K' hK=>by simp only[go_sem,hO,ab,h0,h1,h2];(repeat (refine⟨ak,?_⟩));exact hK _ (by simp only[go_sem,hO,ab,h0,h1,h2]) (by simp only[go_sem,hO,ab,h0,h1,h2]<;>rfl)) ?_
 repeat refine sq ?_
 refine rx hΓ [0,4,5,6,8,9] [[4,0],[5,0],[6,0],[8,0],[9,0]] (fun K' hK=>by simp only[go_sem,hO,ab,h0,h1,h2];(repeat (refine⟨ak,?_⟩));exact hK _ (by simp only[go_sem,hO,ab,h0,h1,h2]) (by simp only[go_sem,hO,ab,h0,h1,h2]<;>rfl)) ?_
 repeat refine sq ?_
 refine rx hΓ [5,6,8,9,17] [[5,0],[6,0],[8,0],[9,0],[3,0,17,0]] (fun K' hK=>by simp only[go_sem,hO,ab,h0,h1,h2];(repeat (refine⟨ak,?_⟩));exact hK _ (by simp only[go_sem,hO,ab,h0,h1,h2]) (by simp only[go_sem,hO,ab,h0,h1,h2]<;>rfl)) ?_
 refine bU (dH 5 (.ref [5,0] 0) (by simp only[go_sem]) (by simp only[go_sem]) [5,6,8,9,17] [[5,0],[6,0],[8,0],[9,0],[3,0,17,0]] ?_ rfl) ?_
 ·simp only[go_sem,hO,ab,h0,h1,h2]
 simp only[go_sem,hO,ab,h0,h1,h2]
 repeat refine sq ?_
 refine aQ ?_
 repeat refine sq ?_
 have fJ:aL Tryz.prog 193 ((gq x pa le day).itC (iX 3 pa [le])).toSpec:=EL (Dv x pa le day b9) (fun _=>rfl) (W1 x pa le day b9) hv.rs hv.rn rfl (fun _=>rfl) (j:=3) (jc:=4) (show 3<7 by decide) rfl rfl
 refine KN (Dv x pa le day b9) (W2 x pa le day) (f:=193) 30 31 (Ls:=[[6,0],[8,0],[9,0],[3,0,17,0],[0,1],[1,1],[2,1]]) rfl rfl (by decide) fJ rfl rfl rfl rfl rfl rfl (by decide) (show ([30,0]:Name)∉[[6,0],[8,0],[9,0],[3,0,17,0],[0,1],[1,1],[2,1]]by decide) ⟨rfl,rfl,rfl,rfl,h0,h1,h2,trivial⟩ fun o=>?_
 obtain⟨g1,g2⟩:=Lp.go_e (r:=gq x pa le day) (fun _=>rfl)
 have g3:(gq x pa le day).fam [[6,0],[8,0],[9,0],[3,0,17,0],[0,1],[1,1],[2,1]] (gq x pa le day).e=[.box (eZ none),.box (eZ (gN x.rs pa le day)),.box [.v (.bool (gN x.rs pa le day).isSome)],.box [.ref [0,1] 0],bp x [1,1] [2,1],.map 2 (bH x.bk),.map 0 (bz x.ds)]:=by
  rw[g1,<-WZ];rfl
 rw[g2,g3]
 simp only[wB,iv]
 refine bV ?_
 show CL Tryz.prog (_::_) _ _
 obtain⟨cs,hM,cq⟩:∃ cs,cs=eZ (gN x.rs pa le day)/\∀ p,D.closL p cs=true:=⟨_,rfl,fun p=>yA p _⟩
 refine bU (dz.toM (zw 37 [0] H [(6,⟨true,.ref [6,0] 0⟩),(8,⟨true,.ref [8,0] 0⟩),(9,⟨true,.ref [9,0] 0⟩)] [([6,0],.box (eZ none)),([8,0],.box (eZ (gN x.rs pa le day))),([9,0],.box [.v (.bool (gN x.rs pa le day).isSome)])] rfl rfl (fun nm hn=>?_) ?_ ?_ ?_ (by rw[hO];trivial))) ?_
 ·have e1:nm≠[30,0]:=by rintro rfl;cases hn
  show upd _ [30,0] _ nm=_
  rw[aV _ _ _ e1]
  exact EE hn ⟨.inl rfl,.inl rfl,.inl rfl,.inl rfl,.inr h0,.inr h1,.inr h2,trivial⟩ (by simp[ba,hn])
 ·intro q hq
  simp only[List.mem_cons,List.not_mem_nil,or_false]at hq
  rcases hq with rfl | rfl | rfl<;>rfl
 ·intro q hq
  simp only[List.mem_cons,List.not_mem_nil,or_false]at hq
  rcases hq with rfl | rfl | rfl<;>rfl
 ·simp[O.clos,D.closL,D.clos,yA,bL]
 clear hM cq
 generalize gN x.rs pa le day=o
 rcases o with _ | r
 ·simp only[eZ,qR,Option.isSome]
  repeat refine sq ?_
  refine dx hΓ hP [[],[],[0],[0,1,2]] [6,7] [[6,0]] (by kernel_rfl) (fun K' hK=>by simp only[go_sem,hO,h0,h1,h2];(repeat (refine⟨ak,?_⟩));(first | refine⟨by rfl,?_⟩ | skip);exact hK _ (by simp only[go_sem,hO,h0,h1,h2]) (by simp only[go_sem,hO,h0,h1,h2]<;>rfl)) ?_
  refine ay ?_
  simp only[go_sem,hO,h0,h1,h2]
  rfl
 ·simp only[eZ,qR,Option.isSome]
  repeat refine sq ?_
  refine dx hΓ hP [[],[],[0],[0,1,2]] [6,7] [[6,0]] (by kernel_rfl) (fun K' hK=>by simp only[go_sem,hO,h0,h1,h2];(repeat (refine⟨ak,?_⟩));(first | refine⟨by rfl,?_⟩ | skip);exact hK _ (by simp only[go_sem,hO,h0,h1,h2]) (by simp only[go_sem,hO,h0,h1,h2]<;>rfl)) ?_
  refine ay ?_
  simp only[go_sem,hO,h0,h1,h2]
  rfl
end
set_option maxHeartbeats 8000000
noncomputable section
theorem Wz{P:Program}{Γ:FuncId->Option Spec}(hΓ:∀ f s,Γ f=some s->aL P f s){id:Nat}{l:List Oper}{c:Code}{r:List Code}{σ:S}{K:Exit->S->Prop}(ks:List Nat)(ns:List Name)
 (h:∀ K':S->Prop,(∀ σ',gp ks ns σ'->CL P (c::r) (gB ks ns σ') K->K' σ')->k9 P Γ l.toArray l σ K'):CL P (.region id l.toArray false::c::r) σ K:=
 Kz hΓ (h _ fun σ' hc hy=>C5 ks ns hc hy)
theorem E2{P:Program}{Γ:FuncId->Option Spec}{ops:Array Oper}{o:Oper}{r:List Oper}{σ:S}{K:S->Prop}(h1:jD P Γ ops σ o)(h2:k9 P Γ ops r (bc P Γ ops σ o) K):k9 P Γ ops (o::r) σ K:=.step h1 h2
def eW{α:Type}(p:α->Bool)(l:List α):List α:=l.filter fun d=>!p d
def jX{α:Type}(enc:α->V)(z:V)(p:α->Bool)(l:List α):List V:=(eW p l).map enc++List.replicate (l.length-(eW p l).length) z
def Mo:Ret:=⟨0,0,0,[],0,0,0,0⟩
def mb:Sig:=⟨0,0,0,0,0,0,0⟩
def K25:List (Nat×Spec):=[(162,S162)]
theorem Zj:KS K25:=tc Ik<|tn
attribute [go_sem] K25
@[go_sem] def P186:PSpec:=p2 iS nG (fun _ _=>True) (fun s k=>.bool (!cQ s.kn s.un k)) true
@[go_sem] def XB:Spec:=P186.toSpec
theorem Oc:aU Tryz.prog 186 P186:=by
 refine dV (rs:=[.tmp 3]) Tryz.func186 Tryz.ntmps186 fun s k hp hw=>?_
 simp only[nG,iS,encS]at hw |-
 have hΓ:=Zj
 repeat refine sq ?_
 refine rx hΓ [1,2] [[2,0]] (fun K' hK=>by simp only[go_sem];exact ao) ?_
 repeat refine sq ?_
 refine rx hΓ [3] [] (fun K' hK=>by simp only[go_sem];exact ao) ?_
 refine ay ?_
 simp only[go_sem]
 all_goals exact dp
def Fv(g:Nat×Int)(x:Rec):Bool:=x.so==g.2
def Fu(g:Nat×Int)(x:Ret):Bool:=x.so==g.2
def dW(g:Nat×Int)(x:Sig):Bool:=if g.1=186 then !cQ x.kn x.un g.2 else x.so==g.2
def PL(g:Nat×Int):Prop:=g.1=88
def PK(g:Nat×Int):Prop:=g.1=90
def nk(g:Nat×Int):Prop:=g.1=92\/g.1=186
def X6:List (Nat×Spec):=[]
attribute [go_sem] X6
def X4:List (Nat×Spec):=[]
attribute [go_sem] X4
def KDS:List (Nat×Spec):=[(92,Xs),(186,XB)]
theorem X5:KS KDS:=tc NO.sound<|tc Oc.sound<|tn
attribute [go_sem] KDS
abbrev TYR:=Rec
abbrev TYT:=Ret
abbrev vB:=Sig
def VN(obj:Name->Option O)(_:Name):List D->R
 |[.msl nm k,.clo (.func g) [] [.v (.ptr [.int .i64 q])]]=>match obj nm with
  |some (.arr 7 L)=>⟨k=L.length/\L.length<1000000/\(L.map jt).map encR=L/\PL (g,q),.v (.sl ((eW (Fv (g,q)) (L.map jt)).map encR)),upd obj nm (some (.farr 7 (jX encR (encR zeroR) (Fv (g,q)) (L.map jt))))⟩
  |_=>.bad obj
 |_=>.bad obj
attribute [go_sem] VN
def VM(obj:Name->Option O)(_:Name):List D->R
 |[.msl nm k,.clo (.func g) [] [.v (.ptr [.int .i64 q])]]=>match obj nm with
  |some (.arr 8 L)=>⟨k=L.length/\L.length<1000000/\(L.map kL).map c9=L/\PK (g,q),.v (.sl ((eW (Fu (g,q)) (L.map kL)).map c9)),upd obj nm (some (.farr 8 (jX c9 (c9 Mo) (Fu (g,q)) (L.map kL))))⟩
  |_=>.bad obj
 |_=>.bad obj
attribute [go_sem] VM
def DS:FuncId->Option Spec:=tbl KDS
theorem Mf:∀ f s,DS f=some s->aL Tryz.prog f s:=X5
theorem FM{g:Nat×Int}(h:nk g):∃ s,DS g.1=some s/\(¬ g.1=1000000000)/\(∀ obj t (x:vB),s.app obj t [.v (encS x),.v (.ptr [vInt g.2])]=⟨True,.v (.bool (dW g x)),obj⟩)/\
 ∀ obj t (x:vB),s.app obj t [.agg ((encS x).cells.map .v),.v (.ptr [vInt g.2])]=⟨True,.v (.bool (dW g x)),obj⟩:=by
 obtain⟨g,k⟩:=g
 rcases h with rfl | rfl
 all_goals exact⟨_,rfl,(by simp),fun obj t x=>by simp only[go_sem,dW];try rfl,fun obj t x=>by simp only[go_sem,dW,encS];try rfl⟩
theorem Dy:(#[29]:Array Nat).getD 0 0=29:=rfl
theorem Mp:((a8 Tryz.prog 81).bind fun z=>dG (gV z))=some (encS mb):=by rw[MP];rfl
theorem C'{obj:Name->Option O}{nm:Name}{k i:Nat}{L:List V}(h:obj nm=some (.arr 7 L))(hk:k=L.length)(hi:i<L.length):
 j' Tryz.prog obj 29 29 (.msl nm k) (.v (vInt i))=⟨True,.any,upd obj nm (some (.arr 7 (L.take i++List.replicate (L.length-i) (encS mb))))⟩:=by
 unfold j'
 simp only[Ej,h,Mp,ai]
 congr 1
 simp only[eq_iff_iff,iff_true]
 exact⟨hk,by omega,hi,trivial,rfl,rfl,trivial,by decide⟩
theorem Nf:aU Tryz.prog 181 (p2 (eM iS) oO (fun _ g=>nk g) (fun l g=>vInt (db (dW g) l)) true):=by
 refine dV (rs:=[.tmp 4]) Tryz.func181 Tryz.ntmps181 fun l g hp hw=>?_
 simp only[oO,iS,eM]at hw |-
 have hΓ:=Mf
 have hl:l.length<=maxLen:=by have:=hw.1.1;simpa using this
 obtain⟨s_,hs,hy,ha,_⟩:=FM hp
 simp only[encS]at ha
 repeat refine sq ?_
 refine rx hΓ [0,1] [] (fun K' hK=>by simp only[go_sem];exact ao) ?_
 repeat refine sq ?_
 refine rx hΓ [0,1,7,8] [] (fun K' hK=>by simp only[go_sem];exact ao) ?_
 repeat refine sq ?_
 refine aQ ?_
 repeat refine sq ?_
 refine cr (fun s:Nat=>[(8,⟨true,.v (vInt s)⟩)]) (fun s=>[]) (fun s=>s<=l.length/\∀ k (h:k<l.length),k<s->dW g l[k]=false) (fun s=>l.length-s) 0 ?_ ?_ ?_ ?_
 ·exact⟨Nat.zero_le _,by simp⟩
 ·rfl
 ·rfl
 rintro i ⟨hi,hR⟩
 simp only[go_sem]
 repeat refine sq ?_
 refine rx hΓ [0,1,7,8,9] [] (fun K' hK=>by simp only[go_sem];exact ao) ?_
 repeat refine sq ?_
 refine aB (fun hb=>?_) fun hb=>?_
 ·have ae:i<l.length:=by simpa using hb
  have au:(i:Int)<l.length:=by omega
  clear hb
  repeat refine sq ?_
  refine aG ?_
  repeat refine sq ?_
  refine aQ ?_
  repeat refine sq ?_
  refine rx hΓ [0,1,5,7,8] [] (fun K' hK=>by simp only[go_sem,ah ae,ai,aj,au];exact ao) ?_
  repeat refine sq ?_
  refine rx hΓ [0,1,5,7,8,16] [] (fun K' hK=>by simp only[go_sem,ah ae,ai,aj,au,hs,hy,ha];exact ao) ?_
  repeat refine sq ?_
  refine aB (fun hb=>?_) fun hb=>?_
  ·repeat refine sq ?_
   refine rx hΓ [4] [] (fun K' hK=>by simp only[go_sem,ah ae,ai,aj,au];exact ao) ?_
   refine ay ?_
   simp only[go_sem]
   rw[p0 (p:=dW g) ae (by simpa using hb) hR]
  ·repeat refine sq ?_
   refine aG ?_
   refine bV ?_
   simp only[go_sem]
   refine kp [0,1,7,8] [] ?_
   repeat refine sq ?_
   refine aY hΓ fun K' hK=>?_
   simp only[go_sem,ah ae,ai,aj,au]
   repeat (refine⟨ak,?_⟩)
   refine hK _ ?_
   clear K' hK
   simp only[go_sem]
   refine⟨i+1,⟨ae,?_⟩,by(show l.length-(i+1)<l.length-i;omega),?_⟩
   ·intro k hk dY
    rcases Nat.lt_succ_iff_lt_or_eq.1 dY with h5 | rfl
    ·exact hR k hk h5
    ·simpa using hb
   refine bq [0,1,7,8] [] ?_ ?_<;>simp only[go_sem,be ae hl,bj]
 ·have bw:i=l.length:=by
   have :¬ (i:Int)<l.length:=by simpa using hb
   omega
  clear hb
  subst bw
  repeat refine sq ?_
  refine bM ?_
  simp only[go_sem]
  refine kp [] [] ?_
  repeat refine sq ?_
  refine rx hΓ [4] [] (fun K' hK=>by simp only[go_sem];exact ao) ?_
  refine ay ?_
  simp only[go_sem]
  rw[uo (p:=dW g) fun k hk=>hR k hk hk]
set_option maxRecDepth 10000 in
theorem MF{g:Nat×Int}(aa:nk g){H:Name->Option O}{l:List vB}(hl:l.length<1000000)(o5:H [0,1]=some (.arr 7 (l.map encS)))(dg:∀ hs,bP [0] (bL [0] hs) H=True)(ab:∀ hs sz L,bP [0] (bL [0] hs) (upd H [0,1] (some (.arr sz L)))=True)(a7:∀ hs sz L,bP [0] (bL [0] hs) (upd H [0,1] (some (.farr sz L)))=True):
 ∃ c,Tryz.f91.body=some c/\CL Tryz.prog [c] (ba 42 [0] H [(0,⟨true,.msl [0,1] l.length⟩),(1,⟨true,.clo (.func g.1) [] [.v (.ptr [vInt g.2])]⟩)] []) (fun e σ=>(e=.normal\/e=.ret)/\(σ.env 4).c=true/\
   (σ.env 4).d=.v (.sl ((eW (dW g) l).map encS))/\σ.obj [0,1]=some (.farr 7 (jX encS (encS mb) (dW g) l))):=by
 obtain⟨sG,hs,hg,_,hp⟩:=FM aa
 obtain⟨Γ,sI,hΓ,hs,hI,hi⟩:∃ (Γ:FuncId->Option Spec) (sI:Spec),(∀ f s,Γ f=some s->aL Tryz.prog f s)/\Γ g.1=some sG/\Γ 181=some sI/\
  ∀ (obj:Name->Option O) (t:Name),obj [0,1]=some (.arr 7 (l.map encS))->sI.app obj t [.msl [0,1] l.length,.clo (.func g.1) [] [.v (.ptr [vInt g.2])]]=⟨True,.v (vInt (db (dW g) l)),obj⟩:=by
  refine⟨fun f=>if f=181 then some (p2 (eM iS) oO (fun _ g=>nk g) (fun l g=>vInt (db (dW g) l)) true).toSpec else DS f,_,fun f s h=>?_,?_,rfl,fun obj t e=>?_⟩
  ·dsimp only at h
   split at h
   ·rename_i e;cases h;subst e;exact Nf.sound
   ·exact Mf _ _ h
  ·dsimp only
   rw[if_neg (by intro e;have h':=aa;unfold nk at h';simp[e]at h')];exact hs
  ·have ey:nk (g.1,g.2):=aa
   simp only[go_sem,e,ey,List.length_map,CZ]
 generalize sH:jX encS (encS mb) (dW g) l=XX
 generalize hpg:dW g=p at *
 simp only[encS,V.cells,List.map_cons,List.map_nil]at hp
 refine⟨_,rfl,?_⟩
 have hm:l.length<=maxLen:=by unfold maxLen;omega
 repeat refine sq ?_
 refine rx hΓ [0,1] [] (fun K' hK=>by simp only[go_sem,dg];(repeat (refine⟨ak,?_⟩));exact hK _ (by simp only[go_sem,dg]) (by simp only[go_sem,dg]<;>rfl)) ?_
 repeat refine sq ?_
 refine rx hΓ [0,1,5] [] (fun K' hK=>by simp only[go_sem,dg,hI,hi,o5,implies_true];(repeat (refine⟨ak,?_⟩));exact hK _ (by simp only[go_sem,dg,hI,hi,o5,implies_true]) (by simp only[go_sem,dg,hI,hi,o5,implies_true]<;>rfl)) ?_
 repeat refine sq ?_
 refine rx hΓ [0,1,5,12] [] (fun K' hK=>by simp only[go_sem,dg];(repeat (refine⟨ak,?_⟩));exact hK _ (by simp only[go_sem,dg]) (by simp only[go_sem,dg]<;>rfl)) ?_
 repeat refine sq ?_
 refine aB (fun hb=>?_) fun hb=>?_
 ·repeat refine sq ?_
  refine rx hΓ [4] [] (fun K' hK=>by simp only[go_sem,dg];(repeat (refine⟨ak,?_⟩));exact hK _ (by simp only[go_sem,dg]) (by simp only[go_sem,dg]<;>rfl)) ?_
  refine bU (dH 4 (.msl [0,1] l.length) (by simp only[go_sem]) (by simp only[go_sem,o5,List.length_map]) [4] [] ?_ rfl) ?_
  ·simp only[go_sem,o5,a7]
  simp only[go_sem,o5]
  refine ay ?_
  simp only[go_sem,o5]
  have cX:db p l= -1:=by simpa using hb
  have dO:∀ d∈l,p d=false:=by
   unfold db at cX
   split at cX
   ·omega
   ·rename_i hn
    intro d hd
    cases kC:p d with
    |false=>rfl
    |true=>exact(hn (List.any_eq_true.2 ⟨d,hd,kC⟩)).elim
  have hk:eW p l=l:=List.filter_eq_self.2 fun d hd=>by rw[dO d hd];rfl
  have xQ:XX=l.map encS:=by rw[<-sH];unfold jX;rw[hk];simp
  rw[hk,xQ]
  exact⟨.inr trivial,rfl,rfl⟩
 have hf:l.findIdx p<l.length:=by
  have cX:¬ db p l= -1:=by simpa using hb
  unfold db at cX
  split at cX
  ·rename_i iV
   exact List.findIdx_lt_length_of_exists (by obtain⟨y,hy,hp⟩:=List.any_eq_true.1 iV;exact⟨y,hy,hp⟩)
  ·exact(cX rfl).elim
 have oZ:db p l=(l.findIdx p:Int):=by unfold db;rw[if_pos (List.any_eq_true.2 ⟨_,List.getElem_mem hf,List.findIdx_getElem (w:=hf)⟩)]
 rw[oZ]
 clear hb oZ hi hI
 have Tj:p (l[l.findIdx p])=true:=List.findIdx_getElem (w:=hf)
 have I4:∀ j (h:j<l.length),j<l.findIdx p->p l[j]=false:=fun j h hj=>by simpa using List.not_of_lt_findIdx hj
 generalize l.findIdx p=f at *
 repeat refine sq ?_
 refine aG ?_
 repeat refine sq ?_
 refine rx hΓ [0,1,5,6] [] (fun K' hK=>by simp only[go_sem,dg,be hf hm,bj];(repeat (refine⟨ak,?_⟩));exact hK _ (by simp only[go_sem,dg,be hf hm,bj]) (by simp only[go_sem,dg,be hf hm,bj]<;>rfl)) ?_
 repeat refine sq ?_
 refine aQ ?_
 repeat refine sq ?_
 refine KM (fun x:Nat×Nat×List vB=>upd H [0,1] (some (.arr 7 (x.2.2.map encS)))) (fun x=>[(5,⟨true,.v (vInt x.1)⟩),(6,⟨true,.v (vInt x.2.1)⟩)]) (fun x=>[]) (fun x=>x.1<x.2.1/\x.2.1<=l.length/\x.2.2.length=l.length/\x.2.2.take x.1=eW p (l.take x.2.1)/\x.2.2.drop x.2.1=l.drop x.2.1) (fun x=>l.length-x.2.1) (f,f+1,l) ?_ ?_ ?_ ?_ ?_
 ·refine⟨(show f<f+1 by omega),hf,rfl,?_,rfl⟩
  show l.take f=eW p (l.take (f+1))
  unfold eW
  rw[List.take_add_one,List.getElem?_eq_getElem hf,List.filter_append]
  simp only[Option.toList_some,List.filter_cons,Tj,Bool.not_true,Bool.false_eq_true,if_false,List.filter_nil,List.append_nil]
  rw[List.filter_eq_self.2]
  intro d hd
  obtain⟨j,hj,rfl⟩:=List.getElem_of_mem hd
  have eA:j<f:=by simp at hj;omega
  rw[List.getElem_take,I4 j (by omega) eA]
  rfl
 ·congr 1
  rw[<-o5]
  funext x
  by_cases e:x=[0,1]
  ·subst e;rw[aN]
  ·rw[aV _ _ _ e]
 ·rfl
 ·rfl
 clear I4
 rintro⟨i,j,A⟩ ⟨fb,hj,hA,hT,hD⟩
 simp only at fb hj hA hT hD
 dsimp only
 generalize fo:upd H [0,1] (some (O.arr 7 (List.map encS A)))=H'
 have h0:H' [0,1]=some (.arr 7 (A.map encS)):=by rw[<-fo,aN]
 have uZ:∀ i,H' [i+1,1]=H [i+1,1]:=fun i=>by rw[<-fo,aV _ _ _ (by simp)]
 have ib:∀ hs,bP [0] (bL [0] hs) H'=True:=fun hs=>by rw[<-fo];exact ab _ _ _
 have jT:∀ hs sz L,bP [0] (bL [0] hs) (upd H' [0,1] (some (.arr sz L)))=True:=fun hs sz L=>by rw[<-fo,th];exact ab _ _ _
 have UO:∀ hs sz L,bP [0] (bL [0] hs) (upd H' [0,1] (some (.farr sz L)))=True:=fun hs sz L=>by rw[<-fo,th];exact a7 _ _ _
 simp only[go_sem]
 repeat refine sq ?_
 refine rx hΓ [0,1,5,6,19] [] (fun K' hK=>by simp only[go_sem,ib,jT,h0];(repeat (refine⟨ak,?_⟩));exact hK _ (by simp only[go_sem,ib,jT,h0]) (by simp only[go_sem,ib,jT,h0]<;>rfl)) ?_
 repeat refine sq ?_
 refine aB (fun hb=>?_) fun hb=>?_
 ·have ae:j<l.length:=by simpa using hb
  have B4:j<A.length:=by omega
  have uQ:i<A.length:=by omega
  have TL:(i:Int)<l.length:=by omega
  have au:(j:Int)<l.length:=by omega
  have Cv:A[j]=l[j]:=by
   have h1:A[j]=(A.drop j)[0]'(by simp;omega):=by simp
   rw[h1]
   simp only[hD]
   simp
  clear hb
  repeat refine sq ?_
  refine aG ?_
  repeat refine sq ?_
  refine aQ ?_
  repeat refine sq ?_
  refine rx hΓ [0,1,5,6,7] [[7,0]] (fun K' hK=>by simp only[go_sem,ib,jT,h0,ah B4,ai,aj,au,hA,Cv];(repeat (refine⟨ak,?_⟩));exact hK _ (by simp only[go_sem,ib,jT,h0,ah B4,ai,aj,au,hA,Cv]) (by simp only[go_sem,ib,jT,h0,ah B4,ai,aj,au,hA,Cv]<;>rfl)) ?_
  repeat refine sq ?_
  refine rx hΓ [0,1,5,6,7,29] [[7,0]] (fun K' hK=>by simp only[go_sem,ib,jT,h0,hg,hs,hp];(repeat (refine⟨ak,?_⟩));exact hK _ (by simp only[go_sem,ib,jT,h0,hg,hs,hp]) (by simp only[go_sem,ib,jT,h0,hg,hs,hp]<;>rfl)) ?_
  repeat refine sq ?_
  refine aB (fun hb=>?_) fun hb=>?_
  ·have IX:p l[j]=false:=by simpa using hb
   clear hb
   repeat refine sq ?_
   refine yy hΓ [0,1,5,6] [] fun K' hK=>?_
   simp only[go_sem,ib,jT,h0,ai,aj,TL,hA]
   repeat' apply And.intro
   all_goals first | rfl | omega | exact Int.le_refl _ | exact Bool.or_not_self _ | exact Bool.not_or_self _ | exact CQ _ | exact CR _ | exact fun x hx=>(CQ _ x hx).1 | exact fun x hx=>(CR _ x hx).1 | (simp only[List.length_take,List.length_append,List.length_map,List.length_drop,List.length_cons,List.length_nil];done) | (simp only[List.length_take,List.length_append,List.length_map,List.length_drop,List.length_cons,List.length_nil];omega) | (simp only[List.length_take,List.length_append,List.length_map,List.length_drop,List.length_cons,List.length_nil,maxLen];omega) | (exact fun _=>by decide) | (exact fun h=>⟨h,by decide⟩) | (simp only[decide_eq_true_eq];omega) | skip
   refine hK _ ?_ ?_
   ·simp only[go_sem,ib,jT]
   clear K' hK
   simp only[go_sem]
   obtain⟨H2,Cr⟩:∃ H2,upd H' [0,1] (some (O.arr 7 ((List.map encS A).set i (encS l[j]))))=H2:=⟨_,rfl⟩
   have JJ:=Cr
   simp only[encS]at JJ
   rw[JJ]
   have Cm:∀ hs,bP [0] (bL [0] hs) H2=True:=fun hs=>by rw[<-Cr];exact jT _ _ _
   repeat refine sq ?_
   refine aY hΓ fun K' hK=>?_
   simp only[go_sem]
   repeat (refine⟨ak,?_⟩)
   refine hK _ ?_
   clear K' hK
   simp only[go_sem]
   refine eg [0,1,5,6] [] ?_ ?_
   ·simp only[go_sem,Cm]
   simp only[go_sem,Cm]
   repeat refine sq ?_
   refine aY hΓ fun K' hK=>?_
   simp only[go_sem]
   repeat (refine⟨ak,?_⟩)
   refine hK _ ?_
   clear K' hK
   simp only[go_sem]
   refine⟨(i+1,j+1,A.set i l[j]),⟨(show i+1<j+1 by omega),ae,by simpa using hA,?_,?_⟩,(show l.length-(j+1)<l.length-j by omega),?_⟩
   ·show (A.set i l[j]).take (i+1)=eW p (l.take (j+1))
    unfold eW at hT |-
    rw[List.take_add_one (l:=l),List.getElem?_eq_getElem ae,List.filter_append,<-hT]
    simp only[Option.toList_some,List.filter_cons,IX,Bool.not_false,if_true,List.filter_nil]
    rw[List.take_add_one,List.take_set_of_le (Nat.le_refl i),List.getElem?_set_self uQ]
    rfl
   ·show (A.set i l[j]).drop (j+1)=l.drop (j+1)
    rw[List.drop_set_of_lt (show i<j+1 by omega)]
    have :=congrArg (List.drop 1) hD
    simpa[List.drop_drop]using this
   ·refine bq [0,1,5,6] [] ?_ ?_
    ·simp only[go_sem,Cm]
    ·simp only[go_sem,be ae hm,be (show i<l.length by omega) hm,bj]
     rw[<-Cr,<-fo,th,List.map_set]
     try rfl
  ·have Th:p l[j]=true:=by simpa using hb
   clear hb
   repeat refine sq ?_
   refine aG ?_
   refine bV ?_
   simp only[go_sem]
   refine eg [0,1,5,6] [] ?_ ?_
   ·simp only[go_sem,ib]
   simp only[go_sem,ib]
   repeat refine sq ?_
   refine aY hΓ fun K' hK=>?_
   simp only[go_sem]
   repeat (refine⟨ak,?_⟩)
   refine hK _ ?_
   clear K' hK
   simp only[go_sem]
   refine⟨(i,j+1,A),⟨(show i<j+1 by omega),ae,hA,?_,?_⟩,(show l.length-(j+1)<l.length-j by omega),?_⟩
   ·show A.take i=eW p (l.take (j+1))
    unfold eW at hT |-
    rw[List.take_add_one (l:=l),List.getElem?_eq_getElem ae,List.filter_append,<-hT]
    simp only[Option.toList_some,List.filter_cons,Th,Bool.not_true,Bool.false_eq_true,if_false,List.filter_nil,List.append_nil]
   ·show A.drop (j+1)=l.drop (j+1)
    have :=congrArg (List.drop 1) hD
    simpa[List.drop_drop]using this
   ·refine bq [0,1,5,6] [] ?_ ?_
    ·simp only[go_sem,ib]
    ·simp only[go_sem,be ae hm,bj]
     rw[<-fo]
 ·have bw:j=l.length:=by
    have :¬ (j:Int)<l.length:=by simpa using hb
    omega
  subst bw
  clear hb
  rw[List.take_length]at hT
  have uQ:i<A.length:=by omega
  repeat refine sq ?_
  refine bM ?_
  simp only[go_sem]
  refine eg [0,5] [] ?_ ?_
  ·simp only[go_sem,ib]
  simp only[go_sem,ib]
  repeat refine sq ?_
  refine Wz hΓ [0,5] [] fun K' hK=>?_
  refine E2 ?_ (E2 ?_ (.cut (T:=29) (x:=.tmp 36) (lo:=.tmp 37) (c:=38) rfl rfl ?_ ?_ ?_ ?_ (.nil ?_)))
  ·simp only[go_sem]
  ·simp only[go_sem]
  ·simp only[go_sem]
  ·simp only[go_sem]
  ·simp only[go_sem]
  ·have Uj:=fun (obj:Name->Option O) (h:obj [0,1]=_)=>C' (obj:=obj) (nm:=[0,1]) (k:=l.length) (i:=i) (L:=A.map encS) h (by simpa using hA.symm) (by simpa using uQ)
   simp only[go_sem,l3,Dy,Uj,h0]
  ·refine hK _ ?_ ?_
   ·simp only[go_sem,ph,l3,Dy,C' (obj:=fun nm=>if own [0] nm=true then none else H' nm) (nm:=[0,1]) (k:=l.length) (i:=i) (L:=A.map encS) h0 (by simpa using hA.symm) (by simpa using uQ),jT]
   clear K' hK
   simp only[go_sem,ph,l3,Dy,C' (obj:=fun nm=>if own [0] nm=true then none else H' nm) (nm:=[0,1]) (k:=l.length) (i:=i) (L:=A.map encS) h0 (by simpa using hA.symm) (by simpa using uQ)]
   have dY:(eW p l).length=i:=by rw[<-hT,List.length_take];omega
   have Ck:(List.take i (List.map encS A)++List.replicate (A.length-i) (encS mb))=XX:=by
    rw[<-sH]
    unfold jX
    rw[dY,<-hT,List.map_take,hA]
   have hZ1:XX.length=l.length:=by rw[<-sH];unfold jX;simp;omega
   have UH:XX.take i=(eW p l).map encS:=by
    rw[<-sH]
    unfold jX
    rw[List.take_append_of_le_length (by simp;omega),List.take_of_length_le (by simp;omega)]
   have UG:∀ x∈XX,x.cells.length=7:=by
    intro x hx
    rw[<-sH]at hx
    rcases List.mem_append.1 hx with h | h
    ·obtain⟨y,_,rfl⟩:=List.mem_map.1 h;rfl
    ·rw[(List.mem_replicate.1 h).2];rfl
   simp only[encS]at Ck
   rw[Ck]
   clear Ck
   clear sH
   generalize XX=Z at *
   simp only[V.cells]at UG
   generalize Cq:upd H' [0,1] (some (O.arr 7 Z))=H3
   have JM:H3 [0,1]=some (.arr 7 Z):=by rw[<-Cq,aN]
   have hI3:∀ i,H3 [i+1,1]=H [i+1,1]:=fun i=>by rw[<-Cq,aV _ _ _ (by simp)];exact uZ i
   have UN:∀ hs sz L,bP [0] (bL [0] hs) (upd H3 [0,1] (some (.farr sz L)))=True:=fun hs sz L=>by rw[<-Cq,th];exact UO _ _ _
   have TK:(i:Int)<=l.length:=by omega
   repeat refine sq ?_
   refine yy hΓ [4] [] fun K' hK=>?_
   simp only[go_sem,JM,Ej,ai,aj,TK]
   repeat' apply And.intro
   all_goals first | rfl | omega | exact Int.le_refl _ | exact Bool.or_not_self _ | exact Bool.not_or_self _ | exact CQ _ | exact CR _ | exact fun x hx=>(CQ _ x hx).1 | exact fun x hx=>(CR _ x hx).1 | (simp only[List.length_take,List.length_append,List.length_map,List.length_drop,List.length_cons,List.length_nil];done) | (simp only[List.length_take,List.length_append,List.length_map,List.length_drop,List.length_cons,List.length_nil];omega) | (simp only[List.length_take,List.length_append,List.length_map,List.length_drop,List.length_cons,List.length_nil,maxLen];omega) | (exact fun _=>by decide) | (exact fun h=>⟨h,by decide⟩) | (simp only[decide_eq_true_eq];omega) | skip
   refine hK _ ?_ ?_
   ·simp only[go_sem,UN]
   clear K' hK
   simp only[go_sem]
   refine ay ?_
   simp only[go_sem,UH]
   exact .inr trivial
def delCS:CSpec where
 pre:=fun os ds=>∃ (l:List vB) (g:Nat×Int),os=[.arr 7 (l.map encS)]/\ds=[.msl [0,1] l.length,.clo (.func g.1) [] [.v (.ptr [vInt g.2])]]/\l.length<1000000/\nk g
 out:=fun os ds=>match os,ds with
  |[.arr _ L],[_,.clo (.func g) _ [.v (.ptr [.int _ k])]]=>⟨[(0,.farr 7 (jX encS (encS mb) (dW (g,k)) (L.map ig)))],[],.v (.sl ((eW (dW (g,k)) (L.map ig)).map encS))⟩
  |_,_=>⟨[],[],.any⟩
def qM(obj:Name->Option O)(_:Name):List D->R
 |[.msl nm k,.clo (.func g) [] [.v (.ptr [.int .i64 q])]]=>match obj nm with
  |some (.arr 7 L)=>⟨k=L.length/\L.length<1000000/\(L.map ig).map encS=L/\nk (g,q),.v (.sl ((eW (dW (g,q)) (L.map ig)).map encS)),upd obj nm (some (.farr 7 (jX encS (encS mb) (dW (g,q)) (L.map ig))))⟩
  |_=>.bad obj
 |_=>.bad obj
def yk(_:Name->Option O)(_:Name):List D->List Name
 | .msl nm _::_=>[nm]
 |_=>[]
def S91:Spec:=⟨qM,yk,yk⟩
attribute [go_sem] S91 qM
theorem VL:S91.Near:=by
 refine tS fun obj obj2 t ds ha=>⟨rfl,?_⟩
 have fG:∀ wr,bC wr obj obj2->bG (R.bad obj) (R.bad obj2) obj obj2 wr:=fun wr h=>.none wr h
 unfold qM
 split
 ·rename_i nm k g q
  have h1:obj2 nm=obj nm:=ha nm (by simp[yk])
  simp only[h1]
  split
  ·exact .one (by simp[yk]) ha
  ·exact fG _ ha
 ·exact fG _ ha
theorem Sj:aL Tryz.prog 91 delCS.toSpec:=by
 refine mM (nt:=42) (rs:=[.tmp 4]) Tryz.func91 rfl (by rfl) (by kernel_rfl) (gK Tryz.func91 rfl (by kernel_rfl)) (lC _ (by decide)) ?_
 rintro os ds ⟨l,g,rfl,rfl,hl,aa⟩
 refine⟨lb rfl,?_⟩
 have hG:delCS.out [.arr 7 (l.map encS)] [.msl [0,1] l.length,.clo (.func g.1) [] [.v (.ptr [vInt g.2])]]=⟨[(0,.farr 7 (jX encS (encS mb) (dW g) l))],[],.v (.sl ((eW (dW g) l).map encS))⟩:=by
  simp only[delCS,sQ]
 rw[hG]
 have dg:∀ hs,bP [0] (bL [0] hs) (aS [.arr 7 (l.map encS)])=True:=fun hs=>eq_true (nj (by
  intro o ho dom hd
  simp only[List.mem_singleton]at ho
  subst ho
  rfl) hs)
 obtain⟨c,hc,h⟩:=MF aa (H:=aS [.arr 7 (l.map encS)]) hl rfl dg (fun hs sz L=>eq_true (ri rfl (by rw[dg];trivial))) (fun hs sz L=>eq_true (ri rfl (by rw[dg];trivial)))
 have Ut:∀ c2,Tryz.f91.body=some c2->c2=c:=fun c2 h2=>by rw[h2]at hc;exact Option.some.inj hc
 rw[<-Ut _ rfl]at h
 refine CW.mono (il h) ?_
 rintro e σ ⟨he,h1,h2,h3⟩
 have fin:(bF Tryz.prog σ [.tmp 4]).ok/\(bF Tryz.prog σ [.tmp 4]).d=.v (.sl ((eW (dW g) l).map encS))/\ft [.arr 7 (l.map encS)] ⟨[(0,.farr 7 (jX encS (encS mb) (dW g) l))],[],.v (.sl ((eW (dW g) l).map encS))⟩ σ:=
  ⟨h1,h2,⟨h3,trivial⟩,trivial,rfl⟩
 rcases he with rfl | rfl
 ·exact fin
 ·exact fin
theorem Sk:aL Tryz.prog 91 S91:=by
 refine tu Sj VL (lC _ (by decide)) fun obj t ds aa=>?_
 change (qM obj t ds).ok at aa
 refine⟨ds,rfl,fun _ _ _ _ h=>h,?_⟩
 show _/\_=(qM obj t ds).d/\_=(qM obj t ds).obj
 unfold qM at aa |-
 split at aa
 ·rename_i nm k g q
  split at aa
  ·rename_i L ho
   obtain⟨rfl,hl,he,hg⟩:=aa
   have hr:reach obj [.msl nm L.length,.clo (.func g) [] [.v (.ptr [.int .i64 q])]]=[nm]:=by
    unfold reach
    show cY obj (2998+1+1) [nm] []=[nm]
    simp only[cY,cE,List.any_nil,Bool.false_eq_true,if_false,ho,kx,List.nil_append]
   have i0:idx [nm] nm=0:=by simp[idx]
   have e1:cb obj [.msl nm L.length,.clo (.func g) [] [.v (.ptr [.int .i64 q])]]=[.arr 7 L]:=by
    unfold cb
    rw[hr]
    simp only[List.map_cons,List.map_nil,ck,ho,O.ren]
   have e2:cH obj [.msl nm L.length,.clo (.func g) [] [.v (.ptr [.int .i64 q])]]=[.msl [0,1] L.length,.clo (.func g) [] [.v (.ptr [.int .i64 q])]]:=by
    unfold cH
    rw[hr]
    simp only[D.renL,D.ren,cin,i0]
   have e3:(shut obj [nm]&&D.closL (cE [nm]) [.msl nm L.length,.clo (.func g) [] [.v (.ptr [.int .i64 q])]]&&fresh obj t [])=true:=by
    simp[shut,ho,O.clos,D.closL,D.clos,cE,fresh]
   have dn:delCS.pre [.arr 7 L] [.msl [0,1] L.length,.clo (.func g) [] [.v (.ptr [.int .i64 q])]]:=⟨L.map ig,(g,q),by rw[he],by rw[List.length_map],by rw[List.length_map];exact hl,hg⟩
   have hG:delCS.out [.arr 7 L] [.msl [0,1] L.length,.clo (.func g) [] [.v (.ptr [.int .i64 q])]]=⟨[(0,.farr 7 (jX encS (encS mb) (dW (g,q)) (L.map ig)))],[],.v (.sl ((eW (dW (g,q)) (L.map ig)).map encS))⟩:=rfl
   simp only[CSpec.toSpec,e1,e2,hr,hG,e3,dn,ho,and_self,cV]
   exact⟨trivial,rfl,rfl⟩
  ·exact aa.elim
 ·exact aa.elim
end
set_option maxHeartbeats 8000000
noncomputable section
theorem Ba(l:List Sig)(k:Int):eW (dW (186,k)) l=l.filter fun s=>cQ s.kn s.un k:=by
 unfold eW dW
 simp
theorem Ao(k:Int):nk (186,k):=.inr rfl
def K26:List (Nat×Spec):=[(132,S132),(91,S91)]
theorem Zi:KS K26:=tc Sv<|tc Sk<|tn
attribute [go_sem] K26
def LP:VSpec:=v1 iI (fun x _=>x.l.ss.length<=60) (fun x k=>.v (.sl ((bm x.l k).map encS))) none
def S122:Spec:=LP.toSpec
attribute [go_sem] LP S122
theorem Bg:aL Tryz.prog 122 S122:=by
 refine vS (rs:=[.tmp 4]) Tryz.func122 Tryz.ntmps122 (by rfl) (by kernel_rfl) (by decide) (fun _ _=>by first | rfl | simp[D.clos,D.closL,km]) ⟨_,rfl,lb rfl,fun x k hp H h0 h1 h2 hO ab=>?_⟩
 simp only[iI,bp,cN,List.map_cons,List.map_nil,Nat.zero_add,Option.map_some,Option.map_none]at h0 |-
 have hΓ:=Zi
 repeat refine sq ?_
 refine rx hΓ [0,3] [[3,0]] (fun K' hK=>by simp only[go_sem,hO,ab,h0,h1,h2];(repeat (refine⟨ak,?_⟩));exact hK _ (by simp only[go_sem,hO,ab,h0,h1,h2]) (by simp only[go_sem,hO,ab,h0,h1,h2]<;>rfl)) ?_
 refine bU (dH 3 (.ref [3,0] 0) (by simp only[go_sem]) (by simp only[go_sem]) [0,3] [[3,0]] ?_ rfl) ?_
 ·simp only[go_sem,hO,ab,h0,h1,h2]
 simp only[go_sem,hO,ab,h0,h1,h2]
 repeat refine sq ?_
 refine rx hΓ [4] [] (fun K' hK=>by simp only[go_sem,hO,ab,h0,h1,h2,sQ,Ba,Ao,List.length_map];(repeat (refine⟨ak,?_⟩));exact hK _ (by simp only[go_sem,hO,ab,h0,h1,h2,sQ,Ba,Ao,List.length_map]) (by simp only[go_sem,hO,ab,h0,h1,h2,sQ,Ba,Ao,List.length_map]<;>rfl)) ?_
 refine ay ?_
 simp only[go_sem,hO,ab,h0,h1,h2]
 all_goals exact dp
def Fe(r:Rg):D:=.agg [.v (vInt r.lo),.v (vInt r.hi)]
attribute [go_sem] Fe
def K26b:List (Nat×Spec):=[(119,S119)]
theorem Zh:KS K26b:=tc Ip<|tn
attribute [go_sem] K26b
def we(s:Sig):Prop:=0<=s.da/\s.da<=100000
theorem bg:lu none=.agg [.v (vInt 0),.v (vInt 0),.v (vInt 0),.nilsl,.v (vInt 0),.v (vInt 0),.v (vInt 0)]:=rfl
theorem aF(r:Rec):lu (some r)=fz r:=rfl
def LL:VSpec:=v1 iS (fun x s=>(l9 x/\x.rs.Nodup)/\we s) (fun x s=>.tup [.v (vInt (bf x s).1),Fe (bf x s).2]) none
def S187:Spec:=LL.toSpec
attribute [go_sem] LL S187
theorem Sr:aL Tryz.prog 187 S187:=by
 refine vS (rs:=[.tmp 4,.cell 5 38]) Tryz.func187 Tryz.ntmps187 (by rfl) (by kernel_rfl) (by decide) (fun _ _=>by first | rfl | exact adi _ _ | simp[D.clos,D.closL,km]) ⟨_,rfl,lb rfl,fun x s hp H h0 h1 h2 hO ab=>?_⟩
 have hP:=fB
 simp only[iS,encS,bp,cN,List.map_cons,List.map_nil,Nat.zero_add,Option.map_some,Option.map_none]at h0 |-
 have hΓ:=Zh
 obtain⟨hv,hd⟩:=hp
 have fS:=vM hd
 repeat refine sq ?_
 refine rx hΓ [0,3,5] [[3,0],[5,0]] (fun K' hK=>by simp only[go_sem,hO,ab,h0,h1,h2];(repeat (refine⟨ak,?_⟩));exact hK _ (by simp only[go_sem,hO,ab,h0,h1,h2]) (by simp only[go_sem,hO,ab,h0,h1,h2]<;>rfl)) ?_
 repeat refine sq ?_
 refine rx hΓ [0,3,5,6,7] [[3,0],[5,0],[6,0],[7,0]] (fun K' hK=>by simp only[go_sem,hO,ab,h0,h1,h2];(repeat (refine⟨ak,?_⟩));exact hK _ (by simp only[go_sem,hO,ab,h0,h1,h2]) (by simp only[go_sem,hO,ab,h0,h1,h2]<;>rfl)) ?_
 rcases aq:gN x.rs s.pa s.le s.da with _ | r
 ·repeat refine sq ?_
  refine rx hΓ [0,3,5,6,7,8,9] [[3,0],[5,0],[6,0],[7,0],[8,0]] (fun K' hK=>by simp only[go_sem,hO,ab,h0,h1,h2,aq,bg,Option.isSome_none,av];(repeat (refine⟨ak,?_⟩));exact hK _ (by simp only[go_sem,hO,ab,h0,h1,h2,aq,bg,Option.isSome_none,av]) (by simp only[go_sem,hO,ab,h0,h1,h2,aq,bg,Option.isSome_none,av]<;>rfl)) ?_
  repeat refine sq ?_
  refine dx hΓ hP [[],[0],[0,1],[0,1,2],[],[4],[],[6],[4,5,6,7],u9,dI,fO,fO,gd,lf] [3,5,6,7,8,9,10,11] [[3,0],[5,0],[6,0],[7,0],[8,0]] (by kernel_rfl) (fun K' hK=>by simp only[go_sem,hO,ab,h0,h1,h2,aq,bg,Option.isSome_none,av];(repeat (refine⟨ak,?_⟩));(first | refine⟨by rfl,?_⟩ | skip);exact hK _ (by simp only[go_sem,hO,ab,h0,h1,h2,aq,bg,Option.isSome_none,av]) (by simp only[go_sem,hO,ab,h0,h1,h2,aq,bg,Option.isSome_none,av]<;>rfl)) ?_
  repeat refine sq ?_
  refine aQ ?_
  repeat refine sq ?_
  refine rx hΓ [3,5,6,7,8,9,10,11,39] [[3,0],[5,0],[6,0],[7,0],[8,0]] (fun K' hK=>by simp only[go_sem,hO,ab,h0,h1,h2,aq,bg,Option.isSome_none,av];(repeat (refine⟨ak,?_⟩));exact hK _ (by simp only[go_sem,hO,ab,h0,h1,h2,aq,bg,Option.isSome_none,av]) (by simp only[go_sem,hO,ab,h0,h1,h2,aq,bg,Option.isSome_none,av]<;>rfl)) ?_
  repeat refine sq ?_
  refine aB (fun hb=>?_) fun hb=>?_
  ·repeat refine sq ?_
   refine aG ?_
   repeat refine sq ?_
   refine aB (fun hb=>?_) fun hb=>?_
   ·repeat refine sq ?_
    refine dx hΓ hP [[],[],[0,1]] [4,5] [[5,0]] (by kernel_rfl) (fun K' hK=>by simp only[go_sem,hO,ab,h0,h1,h2,aq,bg,Option.isSome_none,av];(repeat (refine⟨ak,?_⟩));(first | refine⟨by rfl,?_⟩ | skip);exact hK _ (by simp only[go_sem,hO,ab,h0,h1,h2,aq,bg,Option.isSome_none,av]) (by simp only[go_sem,hO,ab,h0,h1,h2,aq,bg,Option.isSome_none,av]<;>rfl)) ?_
    refine ay ?_
    simp only[go_sem,hO,ab,h0,h1,h2]
    first | (unfold bf;simp only[aq];simp_all[ct,cg];done) | (unfold bf;simp only[aq];rcases aP:bt x.bk (r.so,s.le)with _ | j<;>simp_all[ct,cg];done)
   ·repeat refine sq ?_
    refine rx hΓ [3,5,7,8,10,60] [[3,0],[5,0],[7,0],[8,0]] (fun K' hK=>by simp only[go_sem,hO,ab,h0,h1,h2,aq,bg,Option.isSome_none,av];(repeat (refine⟨ak,?_⟩));exact hK _ (by simp only[go_sem,hO,ab,h0,h1,h2,aq,bg,Option.isSome_none,av]) (by simp only[go_sem,hO,ab,h0,h1,h2,aq,bg,Option.isSome_none,av]<;>rfl)) ?_
    repeat refine sq ?_
    refine aB (fun hb=>?_) fun hb=>?_
    ·repeat refine sq ?_
     refine dx hΓ hP [[],[],[0,1]] [4,5] [[5,0]] (by kernel_rfl) (fun K' hK=>by simp only[go_sem,hO,ab,h0,h1,h2,aq,bg,Option.isSome_none,av];(repeat (refine⟨ak,?_⟩));(first | refine⟨by rfl,?_⟩ | skip);exact hK _ (by simp only[go_sem,hO,ab,h0,h1,h2,aq,bg,Option.isSome_none,av]) (by simp only[go_sem,hO,ab,h0,h1,h2,aq,bg,Option.isSome_none,av]<;>rfl)) ?_
     refine ay ?_
     simp only[go_sem,hO,ab,h0,h1,h2]
     first | (unfold bf;simp only[aq];simp_all[ct,cg];done) | (unfold bf;simp only[aq];rcases aP:bt x.bk (r.so,s.le)with _ | j<;>simp_all[ct,cg];done)
    ·repeat refine sq ?_
     refine rx hΓ [3,5,7,8,10,68] [[3,0],[5,0],[7,0],[8,0]] (fun K' hK=>by simp only[go_sem,hO,ab,h0,h1,h2,aq,bg,Option.isSome_none,av];(repeat (refine⟨ak,?_⟩));exact hK _ (by simp only[go_sem,hO,ab,h0,h1,h2,aq,bg,Option.isSome_none,av]) (by simp only[go_sem,hO,ab,h0,h1,h2,aq,bg,Option.isSome_none,av]<;>rfl)) ?_
     repeat refine sq ?_
     refine aB (fun hb=>?_) fun hb=>?_
     ·repeat refine sq ?_
      refine dx hΓ hP [[],[],[1],[1,2],[0],u5] [4,5] [[5,0]] (by kernel_rfl) (fun K' hK=>by simp only[go_sem,hO,ab,h0,h1,h2,aq,bg,Option.isSome_none,av];(repeat (refine⟨ak,?_⟩));(first | refine⟨by rfl,?_⟩ | skip);exact hK _ (by simp only[go_sem,hO,ab,h0,h1,h2,aq,bg,Option.isSome_none,av]) (by simp only[go_sem,hO,ab,h0,h1,h2,aq,bg,Option.isSome_none,av]<;>rfl)) ?_
      refine ay ?_
      simp only[go_sem,hO,ab,h0,h1,h2]
      first | (unfold bf;simp only[aq];simp_all[ct,cg];done) | (unfold bf;simp only[aq];rcases aP:bt x.bk (r.so,s.le)with _ | j<;>simp_all[ct,cg];done)
     ·repeat refine sq ?_
      refine rx hΓ [3,5,7,10,76] [[3,0],[5,0],[7,0]] (fun K' hK=>by simp only[go_sem,hO,ab,h0,h1,h2,aq,bg,Option.isSome_none,av];(repeat (refine⟨ak,?_⟩));exact hK _ (by simp only[go_sem,hO,ab,h0,h1,h2,aq,bg,Option.isSome_none,av]) (by simp only[go_sem,hO,ab,h0,h1,h2,aq,bg,Option.isSome_none,av]<;>rfl)) ?_
      repeat refine sq ?_
      refine aB (fun hb=>?_) fun hb=>?_
      ·repeat refine sq ?_
       refine dx hΓ hP [[],[],[1],[1,2],[1,2,3],[0],u6] [4,5] [[5,0]] (by kernel_rfl) (fun K' hK=>by simp only[go_sem,hO,ab,h0,h1,h2,aq,bg,Option.isSome_none,av];(repeat (refine⟨ak,?_⟩));(first | refine⟨by rfl,?_⟩ | skip);exact hK _ (by simp only[go_sem,hO,ab,h0,h1,h2,aq,bg,Option.isSome_none,av]) (by simp only[go_sem,hO,ab,h0,h1,h2,aq,bg,Option.isSome_none,av]<;>rfl)) ?_
       refine ay ?_
       simp only[go_sem,hO,ab,h0,h1,h2]
       first | (unfold bf;simp only[aq];simp_all[ct,cg];done) | (unfold bf;simp only[aq];rcases aP:bt x.bk (r.so,s.le)with _ | j<;>simp_all[ct,cg];done)
      ·repeat refine sq ?_
       refine aG ?_
       refine bV ?_
       simp only[go_sem]
       refine eg [5,7] [[5,0],[7,0]] ?_ ?_
       ·simp only[go_sem,hO,ab,h0,h1,h2]
       simp only[go_sem,hO,ab,h0,h1,h2]
       repeat refine sq ?_
       refine dx hΓ hP [[],[],[0,1]] [4,5] [[5,0]] (by kernel_rfl) (fun K' hK=>by simp only[go_sem,hO,ab,h0,h1,h2,aq,bg,Option.isSome_none,av];(repeat (refine⟨ak,?_⟩));(first | refine⟨by rfl,?_⟩ | skip);exact hK _ (by simp only[go_sem,hO,ab,h0,h1,h2,aq,bg,Option.isSome_none,av]) (by simp only[go_sem,hO,ab,h0,h1,h2,aq,bg,Option.isSome_none,av]<;>rfl)) ?_
       refine ay ?_
       simp only[go_sem,hO,ab,h0,h1,h2]
       first | (unfold bf;simp only[aq];simp_all[ct,cg];done) | (unfold bf;simp only[aq];rcases aP:bt x.bk (r.so,s.le)with _ | j<;>simp_all[ct,cg];done)
  ·repeat refine sq ?_
   refine rx hΓ [3,5,6,7,8,9,10,11,39] [[3,0],[5,0],[6,0],[7,0],[8,0]] (fun K' hK=>by simp only[go_sem,hO,ab,h0,h1,h2,aq,bg,Option.isSome_none,av];(repeat (refine⟨ak,?_⟩));exact hK _ (by simp only[go_sem,hO,ab,h0,h1,h2,aq,bg,Option.isSome_none,av]) (by simp only[go_sem,hO,ab,h0,h1,h2,aq,bg,Option.isSome_none,av]<;>rfl)) ?_
   repeat refine sq ?_
   refine aB (fun hb=>?_) fun hb=>?_
   ·repeat refine sq ?_
    refine dx hΓ hP [[],[],[0,1]] [4,5] [[5,0]] (by kernel_rfl) (fun K' hK=>by simp only[go_sem,hO,ab,h0,h1,h2,aq,bg,Option.isSome_none,av];(repeat (refine⟨ak,?_⟩));(first | refine⟨by rfl,?_⟩ | skip);exact hK _ (by simp only[go_sem,hO,ab,h0,h1,h2,aq,bg,Option.isSome_none,av]) (by simp only[go_sem,hO,ab,h0,h1,h2,aq,bg,Option.isSome_none,av]<;>rfl)) ?_
    refine ay ?_
    simp only[go_sem,hO,ab,h0,h1,h2]
    first | (unfold bf;simp only[aq];simp_all[ct,cg];done) | (unfold bf;simp only[aq];rcases aP:bt x.bk (r.so,s.le)with _ | j<;>simp_all[ct,cg];done)
   ·repeat refine sq ?_
    refine rx hΓ [3,5,7,8,10,60] [[3,0],[5,0],[7,0],[8,0]] (fun K' hK=>by simp only[go_sem,hO,ab,h0,h1,h2,aq,bg,Option.isSome_none,av];(repeat (refine⟨ak,?_⟩));exact hK _ (by simp only[go_sem,hO,ab,h0,h1,h2,aq,bg,Option.isSome_none,av]) (by simp only[go_sem,hO,ab,h0,h1,h2,aq,bg,Option.isSome_none,av]<;>rfl)) ?_
    repeat refine sq ?_
    refine aB (fun hb=>?_) fun hb=>?_
    ·repeat refine sq ?_
     refine dx hΓ hP [[],[],[0,1]] [4,5] [[5,0]] (by kernel_rfl) (fun K' hK=>by simp only[go_sem,hO,ab,h0,h1,h2,aq,bg,Option.isSome_none,av];(repeat (refine⟨ak,?_⟩));(first | refine⟨by rfl,?_⟩ | skip);exact hK _ (by simp only[go_sem,hO,ab,h0,h1,h2,aq,bg,Option.isSome_none,av]) (by simp only[go_sem,hO,ab,h0,h1,h2,aq,bg,Option.isSome_none,av]<;>rfl)) ?_
     refine ay ?_
     simp only[go_sem,hO,ab,h0,h1,h2]
     first | (unfold bf;simp only[aq];simp_all[ct,cg];done) | (unfold bf;simp only[aq];rcases aP:bt x.bk (r.so,s.le)with _ | j<;>simp_all[ct,cg];done)
    ·repeat refine sq ?_
     refine rx hΓ [3,5,7,8,10,68] [[3,0],[5,0],[7,0],[8,0]] (fun K' hK=>by simp only[go_sem,hO,ab,h0,h1,h2,aq,bg,Option.isSome_none,av];(repeat (refine⟨ak,?_⟩));exact hK _ (by simp only[go_sem,hO,ab,h0,h1,h2,aq,bg,Option.isSome_none,av]) (by simp only[go_sem,hO,ab,h0,h1,h2,aq,bg,Option.isSome_none,av]<;>rfl)) ?_
     repeat refine sq ?_
     refine aB (fun hb=>?_) fun hb=>?_
     ·repeat refine sq ?_
      refine dx hΓ hP [[],[],[1],[1,2],[0],u5] [4,5] [[5,0]] (by kernel_rfl) (fun K' hK=>by simp only[go_sem,hO,ab,h0,h1,h2,aq,bg,Option.isSome_none,av];(repeat (refine⟨ak,?_⟩));(first | refine⟨by rfl,?_⟩ | skip);exact hK _ (by simp only[go_sem,hO,ab,h0,h1,h2,aq,bg,Option.isSome_none,av]) (by simp only[go_sem,hO,ab,h0,h1,h2,aq,bg,Option.isSome_none,av]<;>rfl)) ?_
      refine ay ?_
      simp only[go_sem,hO,ab,h0,h1,h2]
      first | (unfold bf;simp only[aq];simp_all[ct,cg];done) | (unfold bf;simp only[aq];rcases aP:bt x.bk (r.so,s.le)with _ | j<;>simp_all[ct,cg];done)
     ·repeat refine sq ?_
      refine rx hΓ [3,5,7,10,76] [[3,0],[5,0],[7,0]] (fun K' hK=>by simp only[go_sem,hO,ab,h0,h1,h2,aq,bg,Option.isSome_none,av];(repeat (refine⟨ak,?_⟩));exact hK _ (by simp only[go_sem,hO,ab,h0,h1,h2,aq,bg,Option.isSome_none,av]) (by simp only[go_sem,hO,ab,h0,h1,h2,aq,bg,Option.isSome_none,av]<;>rfl)) ?_
      repeat refine sq ?_
      refine aB (fun hb=>?_) fun hb=>?_
      ·repeat refine sq ?_
       refine dx hΓ hP [[],[],[1],[1,2],[1,2,3],[0],u6] [4,5] [[5,0]] (by kernel_rfl) (fun K' hK=>by simp only[go_sem,hO,ab,h0,h1,h2,aq,bg,Option.isSome_none,av];(repeat (refine⟨ak,?_⟩));(first | refine⟨by rfl,?_⟩ | skip);exact hK _ (by simp only[go_sem,hO,ab,h0,h1,h2,aq,bg,Option.isSome_none,av]) (by simp only[go_sem,hO,ab,h0,h1,h2,aq,bg,Option.isSome_none,av]<;>rfl)) ?_
       refine ay ?_
       simp only[go_sem,hO,ab,h0,h1,h2]
       first | (unfold bf;simp only[aq];simp_all[ct,cg];done) | (unfold bf;simp only[aq];rcases aP:bt x.bk (r.so,s.le)with _ | j<;>simp_all[ct,cg];done)
      ·repeat refine sq ?_
       refine aG ?_
       refine bV ?_
       simp only[go_sem]
       refine eg [5,7] [[5,0],[7,0]] ?_ ?_
       ·simp only[go_sem,hO,ab,h0,h1,h2]
       simp only[go_sem,hO,ab,h0,h1,h2]
       repeat refine sq ?_
       refine dx hΓ hP [[],[],[0,1]] [4,5] [[5,0]] (by kernel_rfl) (fun K' hK=>by simp only[go_sem,hO,ab,h0,h1,h2,aq,bg,Option.isSome_none,av];(repeat (refine⟨ak,?_⟩));(first | refine⟨by rfl,?_⟩ | skip);exact hK _ (by simp only[go_sem,hO,ab,h0,h1,h2,aq,bg,Option.isSome_none,av]) (by simp only[go_sem,hO,ab,h0,h1,h2,aq,bg,Option.isSome_none,av]<;>rfl)) ?_
       refine ay ?_
       simp only[go_sem,hO,ab,h0,h1,h2]
       first | (unfold bf;simp only[aq];simp_all[ct,cg];done) | (unfold bf;simp only[aq];rcases aP:bt x.bk (r.so,s.le)with _ | j<;>simp_all[ct,cg];done)
 ·repeat refine sq ?_
  refine rx hΓ [0,3,5,6,7,8,9] [[3,0],[5,0],[6,0],[7,0],[8,0]] (fun K' hK=>by simp only[go_sem,hO,ab,h0,h1,h2,aq,aF,Option.isSome_some,av];(repeat (refine⟨ak,?_⟩));exact hK _ (by simp only[go_sem,hO,ab,h0,h1,h2,aq,aF,Option.isSome_some,av]) (by simp only[go_sem,hO,ab,h0,h1,h2,aq,aF,Option.isSome_some,av]<;>rfl)) ?_
  repeat refine sq ?_
  refine dx hΓ hP [[],[0],[0,1],[0,1,2],[],[4],[],[6],[4,5,6,7],u9,dI,fO,fO,gd,lf] [3,5,6,7,8,9,10,11] [[3,0],[5,0],[6,0],[7,0],[8,0]] (by kernel_rfl) (fun K' hK=>by simp only[go_sem,hO,ab,h0,h1,h2,aq,aF,Option.isSome_some,av];(repeat (refine⟨ak,?_⟩));(first | refine⟨by rfl,?_⟩ | skip);exact hK _ (by simp only[go_sem,hO,ab,h0,h1,h2,aq,aF,Option.isSome_some,av]) (by simp only[go_sem,hO,ab,h0,h1,h2,aq,aF,Option.isSome_some,av]<;>rfl)) ?_
  repeat refine sq ?_
  refine aQ ?_
  repeat refine sq ?_
  refine rx hΓ [3,5,6,7,8,9,10,11,39] [[3,0],[5,0],[6,0],[7,0],[8,0]] (fun K' hK=>by simp only[go_sem,hO,ab,h0,h1,h2,aq,aF,Option.isSome_some,av];(repeat (refine⟨ak,?_⟩));exact hK _ (by simp only[go_sem,hO,ab,h0,h1,h2,aq,aF,Option.isSome_some,av]) (by simp only[go_sem,hO,ab,h0,h1,h2,aq,aF,Option.isSome_some,av]<;>rfl)) ?_
  repeat refine sq ?_
  refine aB (fun hb=>?_) fun hb=>?_
  ·repeat refine sq ?_
   refine aG ?_
   repeat refine sq ?_
   refine aB (fun hb=>?_) fun hb=>?_
   ·repeat refine sq ?_
    refine dx hΓ hP [[],[],[0,1]] [4,5] [[5,0]] (by kernel_rfl) (fun K' hK=>by simp only[go_sem,hO,ab,h0,h1,h2,aq,aF,Option.isSome_some,av];(repeat (refine⟨ak,?_⟩));(first | refine⟨by rfl,?_⟩ | skip);exact hK _ (by simp only[go_sem,hO,ab,h0,h1,h2,aq,aF,Option.isSome_some,av]) (by simp only[go_sem,hO,ab,h0,h1,h2,aq,aF,Option.isSome_some,av]<;>rfl)) ?_
    refine ay ?_
    simp only[go_sem,hO,ab,h0,h1,h2]
    first | (unfold bf;simp only[aq];simp_all[ct,cg];done) | (unfold bf;simp only[aq];rcases aP:bt x.bk (r.so,s.le)with _ | j<;>simp_all[ct,cg];done)
   ·repeat refine sq ?_
    refine rx hΓ [3,5,7,8,10,60] [[3,0],[5,0],[7,0],[8,0]] (fun K' hK=>by simp only[go_sem,hO,ab,h0,h1,h2,aq,aF,Option.isSome_some,av];(repeat (refine⟨ak,?_⟩));exact hK _ (by simp only[go_sem,hO,ab,h0,h1,h2,aq,aF,Option.isSome_some,av]) (by simp only[go_sem,hO,ab,h0,h1,h2,aq,aF,Option.isSome_some,av]<;>rfl)) ?_
    repeat refine sq ?_
    refine aB (fun hb=>?_) fun hb=>?_
    ·repeat refine sq ?_
     refine dx hΓ hP [[],[],[0,1]] [4,5] [[5,0]] (by kernel_rfl) (fun K' hK=>by simp only[go_sem,hO,ab,h0,h1,h2,aq,aF,Option.isSome_some,av];(repeat (refine⟨ak,?_⟩));(first | refine⟨by rfl,?_⟩ | skip);exact hK _ (by simp only[go_sem,hO,ab,h0,h1,h2,aq,aF,Option.isSome_some,av]) (by simp only[go_sem,hO,ab,h0,h1,h2,aq,aF,Option.isSome_some,av]<;>rfl)) ?_
     refine ay ?_
     simp only[go_sem,hO,ab,h0,h1,h2]
     first | (unfold bf;simp only[aq];simp_all[ct,cg];done) | (unfold bf;simp only[aq];rcases aP:bt x.bk (r.so,s.le)with _ | j<;>simp_all[ct,cg];done)
    ·repeat refine sq ?_
     refine rx hΓ [3,5,7,8,10,68] [[3,0],[5,0],[7,0],[8,0]] (fun K' hK=>by simp only[go_sem,hO,ab,h0,h1,h2,aq,aF,Option.isSome_some,av];(repeat (refine⟨ak,?_⟩));exact hK _ (by simp only[go_sem,hO,ab,h0,h1,h2,aq,aF,Option.isSome_some,av]) (by simp only[go_sem,hO,ab,h0,h1,h2,aq,aF,Option.isSome_some,av]<;>rfl)) ?_
     repeat refine sq ?_
     refine aB (fun hb=>?_) fun hb=>?_
     ·repeat refine sq ?_
      refine dx hΓ hP [[],[],[1],[1,2],[0],u5] [4,5] [[5,0]] (by kernel_rfl) (fun K' hK=>by simp only[go_sem,hO,ab,h0,h1,h2,aq,aF,Option.isSome_some,av];(repeat (refine⟨ak,?_⟩));(first | refine⟨by rfl,?_⟩ | skip);exact hK _ (by simp only[go_sem,hO,ab,h0,h1,h2,aq,aF,Option.isSome_some,av]) (by simp only[go_sem,hO,ab,h0,h1,h2,aq,aF,Option.isSome_some,av]<;>rfl)) ?_
      refine ay ?_
      simp only[go_sem,hO,ab,h0,h1,h2]
      first | (unfold bf;simp only[aq];simp_all[ct,cg];done) | (unfold bf;simp only[aq];rcases aP:bt x.bk (r.so,s.le)with _ | j<;>simp_all[ct,cg];done)
     ·repeat refine sq ?_
      refine rx hΓ [3,5,7,10,76] [[3,0],[5,0],[7,0]] (fun K' hK=>by simp only[go_sem,hO,ab,h0,h1,h2,aq,aF,Option.isSome_some,av];(repeat (refine⟨ak,?_⟩));exact hK _ (by simp only[go_sem,hO,ab,h0,h1,h2,aq,aF,Option.isSome_some,av]) (by simp only[go_sem,hO,ab,h0,h1,h2,aq,aF,Option.isSome_some,av]<;>rfl)) ?_
      repeat refine sq ?_
      refine aB (fun hb=>?_) fun hb=>?_
      ·repeat refine sq ?_
       refine dx hΓ hP [[],[],[1],[1,2],[1,2,3],[0],u6] [4,5] [[5,0]] (by kernel_rfl) (fun K' hK=>by simp only[go_sem,hO,ab,h0,h1,h2,aq,aF,Option.isSome_some,av];(repeat (refine⟨ak,?_⟩));(first | refine⟨by rfl,?_⟩ | skip);exact hK _ (by simp only[go_sem,hO,ab,h0,h1,h2,aq,aF,Option.isSome_some,av]) (by simp only[go_sem,hO,ab,h0,h1,h2,aq,aF,Option.isSome_some,av]<;>rfl)) ?_
       refine ay ?_
       simp only[go_sem,hO,ab,h0,h1,h2]
       first | (unfold bf;simp only[aq];simp_all[ct,cg];done) | (unfold bf;simp only[aq];rcases aP:bt x.bk (r.so,s.le)with _ | j<;>simp_all[ct,cg];done)
      ·repeat refine sq ?_
       refine aG ?_
       refine bV ?_
       simp only[go_sem]
       refine eg [5,7] [[5,0],[7,0]] ?_ ?_
       ·simp only[go_sem,hO,ab,h0,h1,h2]
       simp only[go_sem,hO,ab,h0,h1,h2]
       repeat refine sq ?_
       refine dx hΓ hP [[],[],[0,1]] [4,5] [[5,0]] (by kernel_rfl) (fun K' hK=>by simp only[go_sem,hO,ab,h0,h1,h2,aq,aF,Option.isSome_some,av];(repeat (refine⟨ak,?_⟩));(first | refine⟨by rfl,?_⟩ | skip);exact hK _ (by simp only[go_sem,hO,ab,h0,h1,h2,aq,aF,Option.isSome_some,av]) (by simp only[go_sem,hO,ab,h0,h1,h2,aq,aF,Option.isSome_some,av]<;>rfl)) ?_
       refine ay ?_
       simp only[go_sem,hO,ab,h0,h1,h2]
       first | (unfold bf;simp only[aq];simp_all[ct,cg];done) | (unfold bf;simp only[aq];rcases aP:bt x.bk (r.so,s.le)with _ | j<;>simp_all[ct,cg];done)
  ·repeat refine sq ?_
   refine rx hΓ [3,5,6,7,8,9,10,11,39] [[3,0],[5,0],[6,0],[7,0],[8,0]] (fun K' hK=>by simp only[go_sem,hO,ab,h0,h1,h2,aq,aF,Option.isSome_some,av];(repeat (refine⟨ak,?_⟩));exact hK _ (by simp only[go_sem,hO,ab,h0,h1,h2,aq,aF,Option.isSome_some,av]) (by simp only[go_sem,hO,ab,h0,h1,h2,aq,aF,Option.isSome_some,av]<;>rfl)) ?_
   repeat refine sq ?_
   refine aB (fun hb=>?_) fun hb=>?_
   ·repeat refine sq ?_
    refine dx hΓ hP [[],[],[0,1]] [4,5] [[5,0]] (by kernel_rfl) (fun K' hK=>by simp only[go_sem,hO,ab,h0,h1,h2,aq,aF,Option.isSome_some,av];(repeat (refine⟨ak,?_⟩));(first | refine⟨by rfl,?_⟩ | skip);exact hK _ (by simp only[go_sem,hO,ab,h0,h1,h2,aq,aF,Option.isSome_some,av]) (by simp only[go_sem,hO,ab,h0,h1,h2,aq,aF,Option.isSome_some,av]<;>rfl)) ?_
    refine ay ?_
    simp only[go_sem,hO,ab,h0,h1,h2]
    first | (unfold bf;simp only[aq];simp_all[ct,cg];done) | (unfold bf;simp only[aq];rcases aP:bt x.bk (r.so,s.le)with _ | j<;>simp_all[ct,cg];done)
   ·repeat refine sq ?_
    refine rx hΓ [3,5,7,8,10,60] [[3,0],[5,0],[7,0],[8,0]] (fun K' hK=>by simp only[go_sem,hO,ab,h0,h1,h2,aq,aF,Option.isSome_some,av];(repeat (refine⟨ak,?_⟩));exact hK _ (by simp only[go_sem,hO,ab,h0,h1,h2,aq,aF,Option.isSome_some,av]) (by simp only[go_sem,hO,ab,h0,h1,h2,aq,aF,Option.isSome_some,av]<;>rfl)) ?_
    repeat refine sq ?_
    refine aB (fun hb=>?_) fun hb=>?_
    ·repeat refine sq ?_
     refine dx hΓ hP [[],[],[0,1]] [4,5] [[5,0]] (by kernel_rfl) (fun K' hK=>by simp only[go_sem,hO,ab,h0,h1,h2,aq,aF,Option.isSome_some,av];(repeat (refine⟨ak,?_⟩));(first | refine⟨by rfl,?_⟩ | skip);exact hK _ (by simp only[go_sem,hO,ab,h0,h1,h2,aq,aF,Option.isSome_some,av]) (by simp only[go_sem,hO,ab,h0,h1,h2,aq,aF,Option.isSome_some,av]<;>rfl)) ?_
     refine ay ?_
     simp only[go_sem,hO,ab,h0,h1,h2]
     first | (unfold bf;simp only[aq];simp_all[ct,cg];done) | (unfold bf;simp only[aq];rcases aP:bt x.bk (r.so,s.le)with _ | j<;>simp_all[ct,cg];done)
    ·repeat refine sq ?_
     refine rx hΓ [3,5,7,8,10,68] [[3,0],[5,0],[7,0],[8,0]] (fun K' hK=>by simp only[go_sem,hO,ab,h0,h1,h2,aq,aF,Option.isSome_some,av];(repeat (refine⟨ak,?_⟩));exact hK _ (by simp only[go_sem,hO,ab,h0,h1,h2,aq,aF,Option.isSome_some,av]) (by simp only[go_sem,hO,ab,h0,h1,h2,aq,aF,Option.isSome_some,av]<;>rfl)) ?_
     repeat refine sq ?_
     refine aB (fun hb=>?_) fun hb=>?_
     ·repeat refine sq ?_
      refine dx hΓ hP [[],[],[1],[1,2],[0],u5] [4,5] [[5,0]] (by kernel_rfl) (fun K' hK=>by simp only[go_sem,hO,ab,h0,h1,h2,aq,aF,Option.isSome_some,av];(repeat (refine⟨ak,?_⟩));(first | refine⟨by rfl,?_⟩ | skip);exact hK _ (by simp only[go_sem,hO,ab,h0,h1,h2,aq,aF,Option.isSome_some,av]) (by simp only[go_sem,hO,ab,h0,h1,h2,aq,aF,Option.isSome_some,av]<;>rfl)) ?_
      refine ay ?_
      simp only[go_sem,hO,ab,h0,h1,h2]
      first | (unfold bf;simp only[aq];simp_all[ct,cg];done) | (unfold bf;simp only[aq];rcases aP:bt x.bk (r.so,s.le)with _ | j<;>simp_all[ct,cg];done)
     ·repeat refine sq ?_
      refine rx hΓ [3,5,7,10,76] [[3,0],[5,0],[7,0]] (fun K' hK=>by simp only[go_sem,hO,ab,h0,h1,h2,aq,aF,Option.isSome_some,av];(repeat (refine⟨ak,?_⟩));exact hK _ (by simp only[go_sem,hO,ab,h0,h1,h2,aq,aF,Option.isSome_some,av]) (by simp only[go_sem,hO,ab,h0,h1,h2,aq,aF,Option.isSome_some,av]<;>rfl)) ?_
      repeat refine sq ?_
      refine aB (fun hb=>?_) fun hb=>?_
      ·repeat refine sq ?_
       refine dx hΓ hP [[],[],[1],[1,2],[1,2,3],[0],u6] [4,5] [[5,0]] (by kernel_rfl) (fun K' hK=>by simp only[go_sem,hO,ab,h0,h1,h2,aq,aF,Option.isSome_some,av];(repeat (refine⟨ak,?_⟩));(first | refine⟨by rfl,?_⟩ | skip);exact hK _ (by simp only[go_sem,hO,ab,h0,h1,h2,aq,aF,Option.isSome_some,av]) (by simp only[go_sem,hO,ab,h0,h1,h2,aq,aF,Option.isSome_some,av]<;>rfl)) ?_
       refine ay ?_
       simp only[go_sem,hO,ab,h0,h1,h2]
       first | (unfold bf;simp only[aq];simp_all[ct,cg];done) | (unfold bf;simp only[aq];rcases aP:bt x.bk (r.so,s.le)with _ | j<;>simp_all[ct,cg];done)
      ·repeat refine sq ?_
       refine aG ?_
       refine bV ?_
       simp only[go_sem]
       refine eg [5,7] [[5,0],[7,0]] ?_ ?_
       ·simp only[go_sem,hO,ab,h0,h1,h2]
       simp only[go_sem,hO,ab,h0,h1,h2]
       repeat refine sq ?_
       refine dx hΓ hP [[],[],[0,1]] [4,5] [[5,0]] (by kernel_rfl) (fun K' hK=>by simp only[go_sem,hO,ab,h0,h1,h2,aq,aF,Option.isSome_some,av];(repeat (refine⟨ak,?_⟩));(first | refine⟨by rfl,?_⟩ | skip);exact hK _ (by simp only[go_sem,hO,ab,h0,h1,h2,aq,aF,Option.isSome_some,av]) (by simp only[go_sem,hO,ab,h0,h1,h2,aq,aF,Option.isSome_some,av]<;>rfl)) ?_
       refine ay ?_
       simp only[go_sem,hO,ab,h0,h1,h2]
       first | (unfold bf;simp only[aq];simp_all[ct,cg];done) | (unfold bf;simp only[aq];rcases aP:bt x.bk (r.so,s.le)with _ | j<;>simp_all[ct,cg];done)
end
end Go.Eng
