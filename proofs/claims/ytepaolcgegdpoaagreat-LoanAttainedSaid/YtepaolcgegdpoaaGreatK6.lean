import Derived.Test.YtepaolcgegdpoaaGreatK5
/- Texts EngP to LW26. -/
set_option linter.all false
namespace Go.Eng
open Go
def cK(obj:Name->Option O):List Name->List O->Prop
 |[],[]=>True
 |x::xs,o::os=>obj x=some o/\cK obj xs os
 |_,_=>False
theorem kq{obj:Name->Option O}:∀ {Ls:List Name} {F:List O},cK obj Ls F↔Ls.map obj=F.map some
 |[],[]=>by simp[cK]
 |x::xs,o::os=>by simp only[cK,List.map_cons,List.cons.injEq,kq]
 |[],_::_=>by simp[cK]
 |_::_,[]=>by simp[cK]
theorem Bn{obj obj2:Name->Option O}{Ls:List Name}{F:List O}(h:cK obj Ls F)(ha:∀ x∈Ls,obj2 x=obj x):cK obj2 Ls F:=by
 rw[kq]at h |-
 rw[<-h]
 exact List.map_congr_left ha
theorem Bm{obj:Name->Option O}:∀ {Ls:List Name} {F:List O},cK obj Ls F->∀ i (h:i<Ls.length) (h':i<F.length),obj Ls[i]=some F[i]
 |_::_,_::_,h,0,_,_=>h.1
 |_::_,_::_,h,i+1,h1,h2=>by
  simp only[List.getElem_cons_succ]
  exact Bm h.2 i (by simpa using h1) (by simpa using h2)
def xq(K:Exit->S->Prop)(σ:S):Option Code->Prop
 |none=>K .normal σ
 |some .ret=>K .ret σ
 |some (.exit id)=>K (.exit id) σ
 |_=>False
theorem Sm{K:Exit->S->Prop}{obj:Name->Option O}{nm:Name}{σ:S}{env:List E}{ps:List Nat}{a b:Code}(pd:Option Code)(h:obj nm=some (.loop env ps a b (if pd.isNone then .ready else .done) pd))
 (hK:xq K σ pd):py K obj nm σ:=by
 unfold py
 rw[h]
 rcases pd with _ | c
 ·exact hK
 ·cases c<;>first | exact hK.elim | exact hK
def LR(m:Nat):List Name:=(List.range m).map fun i=>[i,1]
def LI(m:Nat):List Name:=(List.range m).map fun i=>[i+1,1]
theorem nQ(m:Nat):(LR m).length=m:=by simp[LR]
theorem gC(m:Nat):(LI m).length=m:=by simp[LI]
theorem Nv(m:Nat):(LR m).Nodup:=by
 unfold LR
 exact List.Pairwise.map _ (fun a b h=>by simpa using h) List.nodup_range
theorem zw{Ls:List Name}(hn:Ls.Nodup):Ls.map (cin Ls)=LR Ls.length:=by
 refine List.ext_getElem (by simp[LR]) fun i h1 h2=>?_
 simp only[List.getElem_map,LR,List.getElem_range,cin]
 rw[B9 hn (by simpa using h1)]
theorem D8{R:Name}{Ls:List Name}(hn:Ls.Nodup)(hR:R∉Ls):Ls.map (cin (R::Ls))=LI Ls.length:=by
 refine List.ext_getElem (by simp[LI]) fun i h1 h2=>?_
 simp only[List.getElem_map,LI,List.getElem_range,cin]
 have h3:i<Ls.length:=by simpa using h1
 have h4:=B9 (L:=R::Ls) (List.nodup_cons.2 ⟨hR,hn⟩) (i:=i+1) (by simp;omega)
 simp only[List.getElem_cons_succ]at h4
 rw[h4]
theorem L8(Ls:List Name)(t:Name):(LR Ls.length).map (cout Ls t)=Ls:=by
 refine List.ext_getElem (by simp[LR]) fun i h1 h2=>?_
 simp only[List.getElem_map,LR,List.getElem_range,cout]
 exact kL h2
theorem L7(R:Name)(Ls:List Name)(t:Name):(LI Ls.length).map (cout (R::Ls) t)=Ls:=by
 refine List.ext_getElem (by simp[LI]) fun i h1 h2=>?_
 simp only[List.getElem_map,LI,List.getElem_range,cout]
 rw[kL (by simpa using h2)]
 simp
def dO:List Name->List O->(Name->Option O)->(Name->Option O)
 |x::xs,o::os,obj=>dO xs os (upd obj x (some o))
 |_,_,obj=>obj
theorem uI:∀ {Ls:List Name} {F:List O} {obj:Name->Option O} {x:Name},x∉Ls->dO Ls F obj x=obj x
 |[],_,_,_,_=>by simp[dO]
 |_::_,[],_,_,_=>by simp[dO]
 |y::ys,o::os,obj,x,h=>by
  simp only[List.mem_cons,not_or]at h
  simp only[dO]
  rw[uI h.2,aZ _ _ _ h.1]
theorem FH:∀ {Ls:List Name} {F:List O} {obj:Name->Option O},Ls.Nodup->Ls.length=F.length->cK (dO Ls F obj) Ls F
 |[],[],_,_,_=>trivial
 |[],_::_,_,_,h=>by simp at h
 |_::_,[],_,_,h=>by simp at h
 |y::ys,o::os,obj,hn,h=>by
  rw[List.nodup_cons]at hn
  refine⟨?_,FH (obj:=upd obj y (some o)) hn.2 (by simpa using h)⟩
  simp only[dO]
  rw[uI hn.1,aQ]
def eR:Nat->List O->List (Nat×O)
 |_,[]=>[]
 |k,o::r=>(k,o)::eR (k+1) r
theorem A'{t:Name}{L:List Name}:∀ {Ls:List Name} {k:Nat} {F:List O} {obj:Name->Option O},Ls.length=F.length->(∀ i (h:i<Ls.length),L.getD (k+i) []=Ls[i])->
 cr L t (eR k F) obj=dO Ls (F.map (O.ren (cout L t))) obj
 |[],k,[],obj,_,_=>rfl
 |[],k,_::_,obj,h,_=>by simp at h
 |_::_,k,[],obj,h,_=>by simp at h
 |x::xs,k,o::os,obj,h,hL=>by
  simp only[eR,cr,List.map_cons,dO]
  have h0:=hL 0 (by simp)
  simp only[Nat.add_zero,List.getElem_cons_zero]at h0
  rw[h0]
  exact A' (by simpa using h) fun i hi=>by
   have :=hL (i+1) (by simpa using hi)
   rw[show k+1+i=k+(i+1)by omega]
   simpa using this
theorem BR:∀ {F:List O} {k i:Nat} {o:O},i<k->eB (eR k F) i o=o
 |[],k,i,o,_=>rfl
 |f::r,k,i,o,h=>by
  simp only[eR,eB]
  rw[if_neg (by omega)]
  exact BR (by omega)
theorem Bi{σ:S}:∀ {F os:List O} {k:Nat} {u:List (Nat×O)},F.length=os.length->(∀ i,k<=i->∀ o,eB u i o=eB (eR k F) i o)->
 (∀ i (h:i<F.length),σ.obj [k+i,1]=some F[i])->qq σ u k os
 |[],[],_,_,_,_,_=>trivial
 |[],_::_,_,_,h,_,_=>by simp at h
 |_::_,[],_,_,h,_,_=>by simp at h
 |f::fs,o::os,k,u,h,hu,hs=>by
  refine⟨?_,Bi (F:=fs) (by simpa using h) (fun i hi x=>?_) fun i hi=>?_⟩
  ·have h0:=hs 0 (by simp)
   simp only[Nat.add_zero,List.getElem_cons_zero]at h0
   rw[h0,hu k (Nat.le_refl _) o]
   simp only[eR,eB,if_true]
   rw[BR (by omega)]
  ·rw[hu i (by omega) x]
   simp only[eR,eB]
   rw[if_neg (by omega)]
  ·have:=hs (i+1) (by simpa using hi)
   rw[show k+1+i=k+(i+1)by omega]
   simpa using this
structure Lp where
 m:Nat
 env:List Name->List E
 fam:List Name->Nat->List O
 ps:List Nat
 asg:Code
 body:Code
 n:Nat
 vals:Nat->List D
 st:Nat->Option Code
 fu:Nat
structure Lp.Ok (r:Lp):Prop where
 len:∀ Ls s,Ls.length=r.m->(r.fam Ls s).length=r.m
 renE:∀ f Ls,Ls.length=r.m->(r.env Ls).map (E.ren f)=r.env (Ls.map f)
 renF:∀ f Ls s,Ls.length=r.m->(r.fam Ls s).map (O.ren f)=r.fam (Ls.map f) s
 reach:∀ Ls s obj acc k,Ls.length=r.m->Ls.Nodup->(∀ x∈Ls,x∉acc)->cK obj Ls (r.fam Ls s)->dn obj (k+r.fu) (cS ((r.env Ls).map (·.d))) acc=acc++Ls
 closE:∀ dom Ls,Ls.length=r.m->(∀ x∈Ls,dom x=true)->D.closL dom ((r.env Ls).map (·.d))=true
 closF:∀ dom Ls s,Ls.length=r.m->(∀ x∈Ls,dom x=true)->∀ o∈r.fam Ls s,O.clos dom o=true
 psz:∀ Ls,Ls.length=r.m->(r.ps.all fun p=>decide (p<(r.env Ls).length))=true
 args:∀ s,(r.vals s).length=r.ps.length
 fuel:r.fu<=2000
 vnam:∀ s,cS (r.vals s)=[]
 vcl:∀ s dom,D.closL dom (r.vals s)=true
 vren:∀ s f,D.renL f (r.vals s)=r.vals s
 inj:∀ s s',s<r.n->s'<r.n->r.vals s=r.vals s'->s=s'
theorem Rt(a b:List D):cS (a++b)=cS a++cS b:=by
 induction a with
 |nil=>rfl
 |cons x r ih=>simp only[List.cons_append,cS,ih,List.append_assoc]
theorem XF(dom:Name->Bool)(a b:List D):D.closL dom (a++b)=(D.closL dom a&&D.closL dom b):=by
 induction a with
 |nil=>simp[D.closL]
 |cons x r ih=>simp only[List.cons_append,D.closL,ih,Bool.and_assoc]
noncomputable def Lp.y(r:Lp):YSpec where
 pre:=fun env ps asg body os ds=>∃ s,s<r.n/\(∀ j,j<s->r.st j=none)/\env=r.env (LR r.m)/\ps=r.ps/\asg=r.asg/\body=r.body/\os=r.fam (LR r.m) s/\ds=r.vals s
 out:=fun _ _ _ _ _ ds=>by
  classical exact if h:∃ s,s<r.n/\ds=r.vals s then(⟨eR 0 (r.fam (LR r.m) (h.choose+1)),[],.v (.bool true)⟩,r.st h.choose)else(⟨[],[],.any⟩,none)
theorem Lp.y_out{r:Lp}(hr:r.Ok){s:Nat}(hs:s<r.n)(env:List E)(ps:List Nat)(asg body:Code)(os:List O):
 r.y.out env ps asg body os (r.vals s)=(⟨eR 0 (r.fam (LR r.m) (s+1)),[],.v (.bool true)⟩,r.st s):=by
 have h:∃ s',s'<r.n/\r.vals s=r.vals s':=⟨s,hs,rfl⟩
 have e:h.choose=s:=(hr.inj _ _ hs h.choose_spec.1 h.choose_spec.2).symm
 simp only[Lp.y]
 rw[dif_pos h,e]
def Qn(m:Nat)(F:List O)(p:Option Code):Exit->S->Prop
 | .normal,σ=>p=none/\cK σ.obj (LR m) F
 | .ret,σ=>p=some .ret/\cK σ.obj (LR m) F
 | .exit id,σ=>p=some (.exit id)/\cK σ.obj (LR m) F
 |_,_=>False
theorem W4{os F:List O}{σ:S}{m:Nat}(h1:os.length=m)(h2:F.length=m)(hc:∀ dom:Name->Bool,(∀ x∈LR m,dom x=true)->∀ o∈F,O.clos dom o=true)(h:cK σ.obj (LR m) F):
 fT os ⟨eR 0 F,[],.v (.bool true)⟩ σ:=by
 have ra:∀ i (hi:i<F.length),σ.obj [i,1]=some F[i]:=by
  rw[kq]at h
  intro i hi
  have h3:=congrArg (fun l=>l[i]?) h
  have bC:i<m:=by omega
  simpa[LR,hi,bC]using h3
 refine⟨Bi (F:=F) (by omega) (fun i _ o=>rfl) fun i hi=>by rw[Nat.zero_add];exact ra i hi,trivial,?_⟩
 have pP:∀ x∈LR m,cV os.length [] x=true:=by
  intro x hx
  obtain⟨i,hi,rfl⟩:=List.mem_map.1 hx
  have :=List.mem_range.1 hi
  simp[cV]
  omega
 have dY:∀ (F':List O) (k:Nat),(∀ o∈F',O.clos (cV os.length []) o=true)->k+F'.length<=os.length->((eR k F').all fun x=>O.clos (cV os.length []) x.2&&decide (x.1<os.length))=true:=by
  intro F'
  induction F' with
  |nil=>intros;rfl
  |cons f fs ih=>
   intro k hf hk
   simp only[List.length_cons]at hk
   simp only[eR,List.all_cons,Bool.and_eq_true,decide_eq_true_eq]
   exact⟨⟨hf f (by simp),by omega⟩,by have:=ih (k+1) (fun o ho=>hf o (by simp[ho])) (by omega);simpa using this⟩
 have :=dY F 0 (hc _ pP) (by omega)
 simp only[D.clos,this,List.all_nil,List.map_nil,distinct,Bool.and_self]
theorem Lp.y_sound{P:Program}{r:Lp}(hr:r.Ok)(h:∀ s,s<r.n->(∀ j,j<s->r.st j=none)->
 CW P r.asg ⟨(r.env (LR r.m)).length,pc (rE (r.env (LR r.m))) r.ps (r.vals s),aV (r.fam (LR r.m) s),[0],0⟩ (GQ fun σ1=>CW P r.body σ1 (Qn r.m (r.fam (LR r.m) (s+1)) (r.st s)))):aM P yid r.y.toSpec:=by
 refine EW ?_
 rintro env ps asg body os ds ⟨s,hs,hj,rfl,rfl,rfl,rfl,rfl,rfl⟩ _
 rw[Lp.y_out hr hs]
 refine CW.mono (h s hs hj) fun e σ hk=>?_
 cases e with
 |normal=>
  refine CW.mono hk fun e σ hk=>?_
  have fin:cK σ.obj (LR r.m) (r.fam (LR r.m) (s+1))->fT (r.fam (LR r.m) s) ⟨eR 0 (r.fam (LR r.m) (s+1)),[],.v (.bool true)⟩ σ:=
   W4 (hr.len _ _ (nQ _)) (hr.len _ _ (nQ _)) fun dom hd=>hr.closF dom _ _ (nQ _) hd
  cases e with
  |normal=>exact⟨hk.1,fin hk.2⟩
  |ret=>exact⟨hk.1,fin hk.2⟩
  |exit id=>exact⟨hk.1,fin hk.2⟩
  |goto l=>exact hk.elim
  |panic c=>exact hk.elim
  |outgrown=>exact hk.elim
 |ret=>exact hk.elim
 |exit id=>exact hk.elim
 |goto l=>exact hk.elim
 |panic c=>exact hk.elim
 |outgrown=>exact hk.elim
def Lp.rc(r:Lp)(Ls:List Name)(st:LoopState)(pd:Option Code):O:=.loop (r.env Ls) r.ps r.asg r.body st pd
theorem Lp.y_app{r:Lp}(hr:r.Ok){s:Nat}(hs:s<r.n)(hj:∀ j,j<s->r.st j=none){obj:Name->Option O}{t R:Name}{Ls:List Name}(hl:Ls.length=r.m)(hn:Ls.Nodup)(hR:R∉Ls)
 (h0:obj R=some (r.rc Ls .ready none)) (hF:cK obj Ls (r.fam Ls s)):
 r.y.toSpec.app obj t (.yld R::r.vals s)=⟨True,.v (.bool (r.st s).isNone),upd (dO Ls (r.fam Ls (s+1)) obj) R (some (r.rc Ls (if (r.st s).isNone then .ready else .done) (r.st s)))⟩:=by
 have js:reach obj (roots (r.env Ls) (r.vals s))=Ls:=by
  unfold reach roots
  rw[Rt,hr.vnam,List.append_nil]
  have :=hr.reach Ls s obj [] (3000-r.fu) hl hn (fun _ _=>by simp) hF
  rwa [show 3000-r.fu+r.fu=3000 by have:=hr.fuel;omega]at this
 have e1:cp obj (roots (r.env Ls) (r.vals s))=r.fam (LR r.m) s:=by
  unfold cp
  rw[js]
  have :Ls.map (cw Ls obj)=(r.fam Ls s).map (O.ren (cin Ls)):=by
   rw[kq]at hF
   refine List.ext_getElem (by simp[hr.len _ _ hl,hl]) fun i h1 h2=>?_
   have h3:i<Ls.length:=by simpa using h1
   have h4:i<(r.fam Ls s).length:=by rw[hr.len _ _ hl,<-hl];exact h3
   have h5:=congrArg (fun l=>l[i]?) hF
   have h6:obj Ls[i]=some (r.fam Ls s)[i]:=by simpa[h3,h4]using h5
   simp only[List.getElem_map,cw,h6]
  rw[this,hr.renF _ _ _ hl,zw hn,hl]
 have e2:gP obj (r.env Ls) (r.vals s)=r.env (LR r.m):=by
  unfold gP
  rw[js,hr.renE _ _ hl,zw hn,hl]
 have e3:ja obj (r.env Ls) (r.vals s)=r.vals s:=by
  unfold ja
  exact hr.vren s _
 have e4:r.y.o obj (r.env Ls) r.ps r.asg r.body (r.vals s)=(⟨eR 0 (r.fam (LR r.m) (s+1)),[],.v (.bool true)⟩,r.st s):=by
  unfold YSpec.o
  rw[e1,e2,e3,Lp.y_out hr hs]
 have dI:r.y.pre (r.env (LR r.m)) r.ps r.asg r.body (r.fam (LR r.m) s) (r.vals s):=⟨s,hs,hj,rfl,rfl,rfl,rfl,rfl,rfl⟩
 have cC:D.closL (cM Ls) (roots (r.env Ls) (r.vals s))=true:=by
  unfold roots
  rw[XF,hr.vcl,Bool.and_true]
  exact hr.closE _ _ hl fun x hx=>gb.2 hx
 have jq:shut obj Ls=true:=by
  unfold shut
  rw[List.all_eq_true]
  intro x hx
  obtain⟨i,hi,rfl⟩:=List.getElem_of_mem hx
  rw[kq]at hF
  have h4:i<(r.fam Ls s).length:=by rw[hr.len _ _ hl,<-hl];exact hi
  have h5:=congrArg (fun l=>l[i]?) hF
  have h6:obj Ls[i]=some (r.fam Ls s)[i]:=by simpa[hi,h4]using h5
  rw[h6]
  exact hr.closF _ _ _ hl (fun x hx=>gb.2 hx) _ (List.getElem_mem h4)
 have U3:cM Ls R=false:=by
  cases h:cM Ls R with
  |false=>rfl
  |true=>exact(hR (gb.1 h)).elim
 have hp:cr Ls t (eR 0 (r.fam (LR r.m) (s+1))) obj=dO Ls (r.fam Ls (s+1)) obj:=by
  rw[A' (Ls:=Ls) (by rw[hr.len _ _ (nQ _),hl]) fun i hi=>by rw[Nat.zero_add];exact kL hi,hr.renF _ _ _ (nQ _)]
  have :(LR r.m).map (cout Ls t)=Ls:=by rw[<-hl];exact L8 Ls t
  rw[this]
 unfold Lp.rc at h0
 simp only[YSpec.toSpec,h0,e1,e2,e3,e4,js,cC,jq,U3,fresh,List.all_nil,Bool.and_self,Bool.not_false,hr.args,decide_true,hr.psz Ls hl,dI,di,hp,and_self]
 rfl
def Lp.e(r:Lp):Nat:=match (List.range r.n).find? (fun s=>(r.st s).isSome)with | some s=>s+1 | none=>r.n
def Lp.pd(r:Lp):Option Code:=match (List.range r.n).find? (fun s=>(r.st s).isSome)with | some s=>r.st s | none=>none
def Lp.fin(r:Lp)(Ls:List Name):O:=r.rc Ls (if r.pd.isNone then .ready else .done) r.pd
def Lp.it(r:Lp)(dK:List V):CSpec where
 pre:=fun os ds=>os=r.rc (LI r.m) .ready none::r.fam (LI r.m) 0/\ds=.yld [0,1]::dK.map .v
 out:=fun _ _=>⟨(0,r.fin (LI r.m))::eR 1 (r.fam (LI r.m) r.e),[],.tup []⟩
theorem Lp.it_end{P:Program}{r:Lp}(hr:r.Ok){σ:S}(h0:σ.obj [0,1]=some (r.fin (LI r.m)))(h1:cK σ.obj (LI r.m) (r.fam (LI r.m) r.e)):
 (bL P σ []).ok/\(bL P σ []).d=.tup []/\fT (r.rc (LI r.m) .ready none::r.fam (LI r.m) 0) ⟨(0,r.fin (LI r.m))::eR 1 (r.fam (LI r.m) r.e),[],.tup []⟩ σ:=by
 have Ka:=hr.len (LI r.m) 0 (gC _)
 have hle:=hr.len (LI r.m) r.e (gC _)
 have ra:∀ i (hi:i<(r.fam (LI r.m) r.e).length),σ.obj [1+i,1]=some (r.fam (LI r.m) r.e)[i]:=by
  intro i hi
  have h3:=Bm h1 i (by rw[gC];omega) hi
  rw[Nat.add_comm]
  simpa only[LI,List.getElem_map,List.getElem_range]using h3
 have pP:∀ x∈LI r.m,cV (r.m+1) [] x=true:=by
  intro x hx
  obtain⟨i,hi,rfl⟩:=List.mem_map.1 hx
  have :=List.mem_range.1 hi
  simp[cV]
  omega
 refine⟨fun x hx=>by simp at hx,rfl,⟨⟨?_,Bi (F:=r.fam (LI r.m) r.e) (by omega) (fun i hi o=>by simp only[eB];rw[if_neg (by omega)]) ra⟩,trivial,?_⟩⟩
 ·simp only[eB,if_true]
  rw[h0,BR (by omega)]
 have dY:∀ (F':List O) (k:Nat),(∀ o∈F',O.clos (cV (r.m+1) []) o=true)->k+F'.length<=r.m+1->((eR k F').all fun x=>O.clos (cV (r.m+1) []) x.2&&decide (x.1<r.m+1))=true:=by
  intro F'
  induction F' with
  |nil=>intros;rfl
  |cons f fs ih=>
   intro k hf hk
   simp only[List.length_cons]at hk
   simp only[eR,List.all_cons,Bool.and_eq_true,decide_eq_true_eq]
   exact⟨⟨hf f (by simp),by omega⟩,by have:=ih (k+1) (fun o ho=>hf o (by simp[ho])) (by omega);simpa using this⟩
 have h5:=dY (r.fam (LI r.m) r.e) 1 (hr.closF _ _ _ (gC _) pP) (by omega)
 have h6:O.clos (cV (r.m+1) []) (r.fin (LI r.m))=true:=hr.closE _ _ (gC _) pP
 have hlen:(r.rc (LI r.m) .ready none::r.fam (LI r.m) 0).length=r.m+1:=by rw[List.length_cons,Ka]
 have h7:D.clos (cV (r.m+1) []) (.tup [])=true:=rfl
 simp only[hlen,h7,List.all_cons,h6,h5,List.all_nil,List.map_nil,distinct,Bool.and_self,Bool.true_and,Bool.and_true]
 simp
structure Ai (r:Lp) (dK:List Name->List D):Prop where
 ren:∀ f Ls,Ls.length=r.m->D.renL f (dK Ls)=dK (Ls.map f)
 clo:∀ dom Ls,Ls.length=r.m->(∀ x∈Ls,dom x=true)->D.closL dom (dK Ls)=true
 reach:∀ Ls s obj R k,Ls.length=r.m->(R::Ls).Nodup->cK obj Ls (r.fam Ls s)->obj R=some (r.rc Ls .ready none)->dn obj (k+r.fu+1) (R::cS (dK Ls)) []=R::Ls
def Lp.itC(r:Lp)(dK:List Name->List D):CSpec where
 pre:=fun os ds=>os=r.rc (LI r.m) .ready none::r.fam (LI r.m) 0/\ds=.yld [0,1]::dK (LI r.m)
 out:=fun _ _=>⟨(0,r.fin (LI r.m))::eR 1 (r.fam (LI r.m) r.e),[],.tup []⟩
theorem Lp.itC_app{r:Lp}(hr:r.Ok){dK:List Name->List D}(vR:Ai r dK){obj:Name->Option O}{t R:Name}{Ls:List Name}(hl:Ls.length=r.m)(hn:Ls.Nodup)(hR:R∉Ls)
 (h0:obj R=some (r.rc Ls .ready none)) (hF:cK obj Ls (r.fam Ls 0)):
 (r.itC dK).toSpec.app obj t (.yld R::dK Ls)=⟨True,.tup [],dO Ls (r.fam Ls r.e) (upd obj R (some (r.fin Ls)))⟩:=by
 have qP:(R::Ls).Nodup:=List.nodup_cons.2 ⟨hR,hn⟩
 have js:reach obj (.yld R::dK Ls)=R::Ls:=by
  unfold reach
  have :=vR.reach Ls 0 obj R (2999-r.fu) hl qP hF h0
  rw[show 2999-r.fu+r.fu+1=3000 by have:=hr.fuel;omega]at this
  exact this
 have V3:∀ s,cK obj Ls (r.fam Ls s)->Ls.map (cw (R::Ls) obj)=(r.fam Ls s).map (O.ren (cin (R::Ls))):=by
  intro s hF
  rw[kq]at hF
  refine List.ext_getElem (by simp[hr.len _ _ hl,hl]) fun i h1 h2=>?_
  have h3:i<Ls.length:=by simpa using h1
  have h4:i<(r.fam Ls s).length:=by rw[hr.len _ _ hl,<-hl];exact h3
  have h5:=congrArg (fun l=>l[i]?) hF
  have h6:obj Ls[i]=some (r.fam Ls s)[i]:=by simpa[h3,h4]using h5
  simp only[List.getElem_map,cw,h6]
 have e1:cp obj (.yld R::dK Ls)=r.rc (LI r.m) .ready none::r.fam (LI r.m) 0:=by
  unfold cp
  rw[js,List.map_cons,V3 0 hF,hr.renF _ _ _ hl,D8 hn hR,hl]
  congr 1
  unfold Lp.rc at h0 |-
  simp only[cw,h0,O.ren]
  rw[hr.renE _ _ hl,D8 hn hR,hl]
 have e2:cQ obj (.yld R::dK Ls)=.yld [0,1]::dK (LI r.m):=by
  unfold cQ
  rw[js]
  simp only[D.renL,D.ren,vR.ren _ _ hl]
  rw[D8 hn hR,hl]
  simp only[cin,idx,if_true]
 have dI:(r.itC dK).pre (r.rc (LI r.m) .ready none::r.fam (LI r.m) 0) (.yld [0,1]::dK (LI r.m)):=⟨rfl,rfl⟩
 have iK:∀ os ds,(r.itC dK).out os ds=⟨(0,r.fin (LI r.m))::eR 1 (r.fam (LI r.m) r.e),[],.tup []⟩:=fun _ _=>rfl
 have CZ:∀ x∈Ls,cM (R::Ls) x=true:=fun x hx=>gb.2 (List.mem_cons_of_mem _ hx)
 have jq:shut obj (R::Ls)=true:=by
  unfold shut
  rw[List.all_eq_true]
  intro x hx
  rcases List.mem_cons.1 hx with rfl | hx
  ·rw[h0]
   unfold Lp.rc
   exact hr.closE _ _ hl CZ
  obtain⟨i,hi,rfl⟩:=List.getElem_of_mem hx
  rw[kq]at hF
  have h4:i<(r.fam Ls 0).length:=by rw[hr.len _ _ hl,<-hl];exact hi
  have h5:=congrArg (fun l=>l[i]?) hF
  have h6:obj Ls[i]=some (r.fam Ls 0)[i]:=by simpa[hi,h4]using h5
  rw[h6]
  exact hr.closF _ _ _ hl CZ _ (List.getElem_mem h4)
 have cC:D.closL (cM (R::Ls)) (.yld R::dK Ls)=true:=by
  show (cM (R::Ls) R&&D.closL _ _)=true
  rw[vR.clo _ _ hl CZ]
  simp[cM]
 have hp:∀ obj',cr (R::Ls) t (eR 1 (r.fam (LI r.m) r.e)) obj'=dO Ls (r.fam Ls r.e) obj':=by
  intro obj'
  rw[A' (Ls:=Ls) (by rw[hr.len _ _ (gC _),hl]) fun i hi=>by
   rw[Nat.add_comm,List.getD_cons_succ];exact kL hi,hr.renF _ _ _ (gC _)]
  have :(LI r.m).map (cout (R::Ls) t)=Ls:=by rw[<-hl];exact L7 R Ls t
  rw[this]
 have hf:O.ren (cout (R::Ls) t) (r.fin (LI r.m))=r.fin Ls:=by
  unfold Lp.fin Lp.rc
  simp only[O.ren]
  rw[hr.renE _ _ (gC _)]
  have :(LI r.m).map (cout (R::Ls) t)=Ls:=by rw[<-hl];exact L7 R Ls t
  rw[this]
 simp only[CSpec.toSpec,e1,e2,js,iK,jq,cC,fresh,List.all_nil,Bool.and_self,dI,and_self,di,cr,List.getD_cons_zero,hf,hp,D.ren,D.renL]
theorem Me{P:Program}{r:Lp}(hr:r.Ok){dK:List Name->List D}(vR:Ai r dK){g:Operand}{ps:Array Tmp}{asg body:Code}{σ:S}{rest:List Code}{K:Exit->S->Prop}(k k':Nat){f:FuncId}{Ls:List Name}
 (hc:cJ σ g=true) (hg:av σ g=.clo (.func f) [] (dK Ls)) (aG:f≠yid) (hs:aM P f (r.itC dK).toSpec) (qR:σ.obj (k::σ.pre)=none)
 (he:(List.range σ.nt).map σ.env=r.env Ls) (fF:ps.toList=r.ps) (ha:asg=r.asg) (hb:body=r.body) (hl:Ls.length=r.m) (hn:Ls.Nodup) (hR:(k::σ.pre)∉Ls) (hF:cK σ.obj Ls (r.fam Ls 0))
 (hK:∀ o:O,xq (jb (fun σ'=>CL P rest σ' K) K) { σ with obj:=upd (dO Ls (r.fam Ls r.e) σ.obj) (k::σ.pre) (some o) } r.pd):CL P (.rangeFunc g ps asg body::rest) σ K:=by
 subst ha
 subst hb
 generalize vW:k::σ.pre=R at *
 have Wd:∀ x∈Ls,(upd σ.obj R (some (r.rc Ls .ready none))) x=σ.obj x:=fun x hx=>aZ _ _ _ (by rintro rfl;exact hR hx)
 have yO:=Lp.itC_app hr vR (t:=k'::σ.pre) hl hn hR (aQ σ.obj R (some (r.rc Ls .ready none))) (Bn hF Wd)
 have JP:O.loop ((List.range σ.nt).map σ.env) ps.toList r.asg r.body .ready none=r.rc Ls .ready none:=by unfold Lp.rc;rw[he,fF]
 have oK:ew (av σ g) [.yld R]=.yld R::dK Ls:=by rw[hg];rfl
 have e8:fU (av σ g)=some f:=by rw[hg];simp[fU,aG]
 have UG:∀ (F:List O) (obj:Name->Option O) (a b:Option O),upd (dO Ls F (upd obj R a)) R b=upd (dO Ls F obj) R b:=by
  intro F obj a b
  funext x
  by_cases h:x=R
  ·subst h;rw[aQ,aQ]
  ·rw[aZ _ _ _ h,aZ _ _ _ h]
   have :∀ (Ls:List Name) (F:List O) (o1 o2:Name->Option O),o1 x=o2 x->dO Ls F o1 x=dO Ls F o2 x:=by
    intro Ls
    induction Ls with
    |nil=>intro F o1 o2 h;simpa[dO]using h
    |cons y ys ih=>
     intro F o1 o2 h
     cases F with
     |nil=>simpa[dO]using h
     |cons f fs=>
      simp only[dO]
      refine ih fs _ _ ?_
      by_cases e:x=y
      ·subst e;rw[aQ,aQ]
      ·rw[aZ _ _ _ e,aZ _ _ _ e,h]
   exact this Ls F _ _ (aZ _ _ _ h)
 refine X2 (Γ:=fun x=>if x=f then some (r.itC dK).toSpec else none) (fun x s hx=>by
  split at hx
  ·rename_i e;cases hx;subst e;exact hs
  ·cases hx) k k' hc e8 aG (if_pos rfl) (by rw[vW];exact qR) ?_ ?_
 ·rw[vW,oK,JP,yO];trivial
 ·rw[vW,oK,JP,yO]
  have mA:dO Ls (r.fam Ls r.e) (upd (upd σ.obj R (some (r.rc Ls .ready none))) R (some (r.fin Ls))) R=some (r.fin Ls):=by rw[uI hR,aQ]
  have qJ:lZ (dO Ls (r.fam Ls r.e) (upd (upd σ.obj R (some (r.rc Ls .ready none))) R (some (r.fin Ls)))) R=
      upd (dO Ls (r.fam Ls r.e) σ.obj) R (some (r.rc Ls .exhausted r.pd)):=by
   unfold lZ
   rw[mA]
   unfold Lp.fin Lp.rc
   simp only[UG]
  refine Sm r.pd mA ?_
  rw[qJ]
  exact hK (r.rc Ls .exhausted r.pd)
theorem NX{σ:S}(b nm:Name)(i k sz:Nat)(cs:List D)(L:List V)(hb:σ.obj b=some (.box cs))(hi:cs[i]?=some (.msl nm k))(hn:σ.obj nm=some (.arr sz L))(hk:k=L.length):
 gB σ ⟨σ.nt,σ.env,upd (upd σ.obj nm (some (.farr sz L))) b (some (.box (cs.set i (.v (.sl L))))),σ.pre,σ.base⟩:=by
 intro G φ m a w hC
 have aG:b≠nm:=fun e=>by subst e;rw[hb]at hn;cases hn
 obtain⟨h1,h2,h3,us,T,f,h4,h5,h6,h7⟩:=hC.objs b _ hb
 obtain⟨oF,C1⟩:=List.getElem?_eq_some_iff.1 hi
 have h0:i<us.size:=by omega
 have h8:=h7 i oF h0
 rw[C1]at h8
 have cI:aJ 6 σ.obj (.msl nm k)=⟨k=L.length,.sl L,upd σ.obj nm (some (.farr sz L))⟩:=by simp only[aJ,hn]
 obtain⟨m2,k1,k2,k3,k4,_⟩:=oN 6 _ _ _ _ _ _ hC _ _ h8 (by rw[cI];exact hk)
 rw[cI]at k2 k3 k4
 simp only at k2 k3 k4
 have cP:(upd σ.obj nm (some (.farr sz L))) b=some (.box cs):=by rw[aZ _ _ _ aG];exact hb
 have s7:=Ext.same (φ:=φ) (o':=.box (cs.set i (.v (.sl L)))) cP rfl rfl
 have JC:=s7
 rw[fW]at JC
 refine⟨_,m2,k2.chg (w':=w) b (.box (cs.set i (.v (.sl L)))) _ s7 ⟨rfl,rfl,rfl,Nat.le_refl _⟩ (fun _ _ _=>rfl) (fun _=>.inr ⟨⟨_,cP,rfl,h2⟩,rfl⟩) ?_⟩
 rw[fW]
 refine⟨h1,h2,fun d hd=>?_,us,T,f,h4,h5,by simpa using h6,fun j hj er=>?_⟩
 ·rcases List.mem_or_eq_of_mem_set hd with h | h
  ·exact h3 d h
  ·subst h;rfl
 ·simp only[List.length_set]at hj
  rw[List.getElem_set]
  by_cases cb:i=j
  ·subst cb
   rw[if_pos rfl]
   exact .v _ _ k4
  ·rw[if_neg cb]
   exact((h7 j hj er).ext k1 k3).ext (Mem.le_refl m2) JC
theorem wN{σ τ:S}(b nm:Name)(i k sz:Nat)(cs:List D)(L:List V)(hb:σ.obj b=some (.box cs))(hi:cs[i]?=some (.msl nm k))(hn:σ.obj nm=some (.arr sz L))(hk:k=L.length)(ks:List Nat)(ns:List Name)
 (h:gM ks ns ⟨σ.nt,σ.env,upd (upd σ.obj nm (some (.farr sz L))) b (some (.box (cs.set i (.v (.sl L))))),σ.pre,σ.base⟩)
 (iM:gV ks ns ⟨σ.nt,σ.env,upd (upd σ.obj nm (some (.farr sz L))) b (some (.box (cs.set i (.v (.sl L))))),σ.pre,σ.base⟩=τ):gB σ τ:=
 (NX b nm i k sz cs L hb hi hn hk).trans (se ks ns h iM)
open Go Go.Proofs
set_option maxHeartbeats 8000000
noncomputable section
@[go_sem] def P184:PSpec:=p2 eh iI (fun _ _=>True) (fun l v=>vInt (dp (fun x=>v==x) l)) true
@[go_sem] def Zc:Spec:=P184.toSpec
theorem PD:aW Tryz.prog 184 P184:=by
 refine ez (rs:=[.tmp 4]) Tryz.func184 Tryz.ntmps184 fun l v hp hw=>?_
 simp only[iI,eh]at hw |-
 have hΓ:=@fj Tryz.prog
 have hl:l.length<=maxLen:=by have:=hw.1.1;simpa using this
 repeat refine sq ?_
 refine rx hΓ [0,1] [] (fun K' hK=>by simp only[go_sem];exact an) ?_
 repeat refine sq ?_
 refine rx hΓ [0,1,7,8] [] (fun K' hK=>by simp only[go_sem];exact an) ?_
 repeat refine sq ?_
 refine aS ?_
 repeat refine sq ?_
 refine cv (fun s:Nat=>[(8,⟨true,.v (vInt s)⟩)]) (fun s=>[]) (fun s=>s<=l.length/\∀ k (h:k<l.length),k<s->(fun x:Int=>v==x) l[k]=false) (fun s=>l.length-s) 0 ?_ ?_ ?_ ?_
 ·exact⟨Nat.zero_le _,by simp⟩
 ·rfl
 ·rfl
 rintro i ⟨hi,hR⟩
 simp only[go_sem]
 repeat refine sq ?_
 refine rx hΓ [0,1,7,8,9] [] (fun K' hK=>by simp only[go_sem];exact an) ?_
 repeat refine sq ?_
 refine aB (fun hb=>?_) fun hb=>?_
 ·have ab:i<l.length:=by simpa using hb
  have aq:(i:Int)<l.length:=by omega
  clear hb
  repeat refine sq ?_
  refine aE ?_
  repeat refine sq ?_
  refine aS ?_
  repeat refine sq ?_
  refine rx hΓ [0,1,5,7,8] [] (fun K' hK=>by simp only[go_sem,ah ab,ai,ak,aq];exact an) ?_
  repeat refine sq ?_
  refine rx hΓ [0,1,5,7,8,16] [] (fun K' hK=>by simp only[go_sem,ah ab,ai,ak,aq];exact an) ?_
  repeat refine sq ?_
  refine aB (fun hb=>?_) fun hb=>?_
  ·repeat refine sq ?_
   refine rx hΓ [4] [] (fun K' hK=>by simp only[go_sem,ah ab,ai,ak,aq];exact an) ?_
   refine aA ?_
   simp only[go_sem]
   rw[nj (p:=fun x=>v==x) ab (by simpa using hb) hR]
  ·repeat refine sq ?_
   refine aE ?_
   refine cf ?_
   simp only[go_sem]
   refine kp [0,1,7,8] [] ?_
   repeat refine sq ?_
   refine aY hΓ fun K' hK=>?_
   simp only[go_sem,ah ab,ai,ak,aq]
   repeat (refine⟨ao,?_⟩)
   refine hK _ ?_
   clear K' hK
   simp only[go_sem]
   refine⟨i+1,⟨ab,?_⟩,by(show l.length-(i+1)<l.length-i;omega),?_⟩
   ·intro k hk eo
    rcases Nat.lt_succ_iff_lt_or_eq.1 eo with h5 | rfl
    ·exact hR k hk h5
    ·simpa using hb
   refine bq [0,1,7,8] [] ?_ ?_<;>simp only[go_sem,bj ab hl,bn]
 ·have bx:i=l.length:=by
   have :¬ (i:Int)<l.length:=by simpa using hb
   omega
  clear hb
  subst bx
  repeat refine sq ?_
  refine bV ?_
  simp only[go_sem]
  refine kp [] [] ?_
  repeat refine sq ?_
  refine rx hΓ [4] [] (fun K' hK=>by simp only[go_sem];exact an) ?_
  refine aA ?_
  simp only[go_sem]
  rw[s6 (p:=fun x=>v==x) fun k hk=>hR k hk hk]
def K18a:List (Nat×Spec):=[(184,Zc)]
theorem aaN:KS K18a:=tc PD.sound<|tn
attribute [go_sem] K18a
theorem YF(l:List Int)(v:Int):(l.any fun x=>v==x)=l.contains v:=(List.contains_eq_any_beq (l:=l) (a:=v)).symm
@[go_sem] def P108:PSpec:=p2 eh iI (fun _ _=>True) (fun l v=>.bool (l.contains v)) true
@[go_sem] def wD:Spec:=P108.toSpec
theorem AS:aW Tryz.prog 108 P108:=by
 refine ez (rs:=[.tmp 4]) Tryz.func108 Tryz.ntmps108 fun l v hp hw=>?_
 simp only[iI,eh]at hw |-
 have hΓ:=aaN
 repeat refine sq ?_
 refine rx hΓ [0,1] [] (fun K' hK=>by simp only[go_sem];exact an) ?_
 repeat refine sq ?_
 refine rx hΓ [4] [] (fun K' hK=>by simp only[go_sem,true_or,vp,YF];exact an) ?_
 refine aA ?_
 simp only[go_sem]
 all_goals exact dJ
def K18b:List (Nat×Spec):=[(108,wD),(150,EH)]
theorem EU:KS K18b:=tc AS.sound<|tc AQ.sound<|tn
attribute [go_sem] K18b
def Ca:En (List Int):=⟨fun l=>.ptr [.sl (l.map vInt)],fun v=>match v with | .ptr [.sl l]=>l.map jz | _=>[]⟩
attribute [go_sem] Ca
@[go_sem] def P194:PSpec:=p2 iI Ca (fun _ _=>True) (fun n l=>.bool (l.contains n)) true
@[go_sem] def Nh:Spec:=P194.toSpec
theorem Pw:aW Tryz.prog 194 P194:=by
 refine ez (rs:=[.tmp 3]) Tryz.func194 Tryz.ntmps194 fun n l hp hw=>?_
 simp only[iI,Ca]at hw |-
 have hΓ:=EU
 repeat refine sq ?_
 refine rx hΓ [0,1] [] (fun K' hK=>by simp only[go_sem];exact an) ?_
 repeat refine sq ?_
 refine rx hΓ [3] [] (fun K' hK=>by simp only[go_sem];exact an) ?_
 refine aA ?_
 simp only[go_sem]
 all_goals exact dJ
@[go_sem] def P161:PSpec:=p1 iI (fun _=>True) (fun n=>.bool (!dayB n)) true
@[go_sem] def Nm:Spec:=P161.toSpec
theorem PM:aW Tryz.prog 161 P161:=by
 refine fV (rs:=[.tmp 2]) Tryz.func161 Tryz.ntmps161 fun n hp hw=>?_
 simp only[iI]at hw |-
 have hΓ:=EU
 repeat refine sq ?_
 refine rx hΓ [0] [] (fun K' hK=>by simp only[go_sem];exact an) ?_
 repeat refine sq ?_
 refine rx hΓ [2] [] (fun K' hK=>by simp only[go_sem];exact an) ?_
 refine aA ?_
 simp only[go_sem]
 all_goals exact dJ
@[go_sem] def P185:PSpec:=p1 iI (fun _=>True) (fun n=>.bool (!dayB n)) true
@[go_sem] def Ni:Spec:=P185.toSpec
theorem PC:aW Tryz.prog 185 P185:=by
 refine fV (rs:=[.tmp 2]) Tryz.func185 Tryz.ntmps185 fun n hp hw=>?_
 simp only[iI]at hw |-
 have hΓ:=EU
 repeat refine sq ?_
 refine rx hΓ [0] [] (fun K' hK=>by simp only[go_sem];exact an) ?_
 repeat refine sq ?_
 refine rx hΓ [2] [] (fun K' hK=>by simp only[go_sem];exact an) ?_
 refine aA ?_
 simp only[go_sem]
 all_goals exact dJ
def vr:En (Nat×List V):=⟨fun g=>.clo (.func g.1) [] g.2,fun v=>match v with | .clo (.func g) _ cs=>(g,cs) | _=>(0,[])⟩
def pG:Nat×List V->Int->Bool
 |(194,[.ptr [.sl l]]),x=>(l.map jz).contains x
 |_,x=>!dayB x
def uW(g:Nat×List V):Prop:=g=(161,[])\/g=(185,[])\/∃ lv:List Int,g=(194,[.ptr [.sl (lv.map vInt)]])
def K18c:List (Nat×Spec):=[(194,Nh),(161,Nm),(185,Ni)]
theorem aaM:KS K18c:=tc Pw.sound<|tc PM.sound<|tc PC.sound<|tn
attribute [go_sem] K18c
def Ny:FuncId->Option Spec:=tbl K18c
theorem aaK:∀ f s,Ny f=some s->aM Tryz.prog f s:=aaM
theorem Q1{g:Nat×List V}(h:uW g):∃ s,Ny g.1=some s/\(¬ g.1=1000000000)/\∀ obj t x,s.app obj t (.v (vInt x)::g.2.map .v)=⟨True,.v (.bool (pG g x)),obj⟩:=by
 rcases h with rfl | rfl | ⟨lv,rfl⟩
 ·exact⟨Nm,rfl,by decide,fun obj t x=>by simp only[go_sem,List.map_nil];rfl⟩
 ·exact⟨Ni,rfl,by decide,fun obj t x=>by simp only[go_sem,List.map_nil];rfl⟩
 ·exact⟨Nh,rfl,(show ¬ (194:Nat)=1000000000 by decide),fun obj t x=>by simp only[go_sem,List.map_cons,List.map_nil,pX,pG]⟩
@[go_sem] def P192:PSpec:=p2 eh vr (fun _ g=>uW g) (fun l g=>vInt (dp (pG g) l)) true
@[go_sem] def Y9:Spec:=P192.toSpec
theorem Px:aW Tryz.prog 192 P192:=by
 refine ez (rs:=[.tmp 4]) Tryz.func192 Tryz.ntmps192 fun l g hp hw=>?_
 simp only[vr,eh]at hw |-
 have hΓ:=aaK
 have hl:l.length<=maxLen:=by have:=hw.1.1;simpa using this
 obtain⟨s_,hs,hy,ha⟩:=Q1 hp
 repeat refine sq ?_
 refine rx hΓ [0,1] [] (fun K' hK=>by simp only[go_sem];exact an) ?_
 repeat refine sq ?_
 refine rx hΓ [0,1,7,8] [] (fun K' hK=>by simp only[go_sem];exact an) ?_
 repeat refine sq ?_
 refine aS ?_
 repeat refine sq ?_
 refine cv (fun s:Nat=>[(8,⟨true,.v (vInt s)⟩)]) (fun s=>[]) (fun s=>s<=l.length/\∀ k (h:k<l.length),k<s->pG g l[k]=false) (fun s=>l.length-s) 0 ?_ ?_ ?_ ?_
 ·exact⟨Nat.zero_le _,by simp⟩
 ·rfl
 ·rfl
 rintro i ⟨hi,hR⟩
 simp only[go_sem]
 repeat refine sq ?_
 refine rx hΓ [0,1,7,8,9] [] (fun K' hK=>by simp only[go_sem];exact an) ?_
 repeat refine sq ?_
 refine aB (fun hb=>?_) fun hb=>?_
 ·have ab:i<l.length:=by simpa using hb
  have aq:(i:Int)<l.length:=by omega
  clear hb
  repeat refine sq ?_
  refine aE ?_
  repeat refine sq ?_
  refine aS ?_
  repeat refine sq ?_
  refine rx hΓ [0,1,5,7,8] [] (fun K' hK=>by simp only[go_sem,ah ab,ai,ak,aq];exact an) ?_
  repeat refine sq ?_
  refine rx hΓ [0,1,5,7,8,16] [] (fun K' hK=>by simp only[go_sem,ah ab,ai,ak,aq,hs,hy,ha];exact an) ?_
  repeat refine sq ?_
  refine aB (fun hb=>?_) fun hb=>?_
  ·repeat refine sq ?_
   refine rx hΓ [4] [] (fun K' hK=>by simp only[go_sem,ah ab,ai,ak,aq];exact an) ?_
   refine aA ?_
   simp only[go_sem]
   rw[nj (p:=pG g) ab (by simpa using hb) hR]
  ·repeat refine sq ?_
   refine aE ?_
   refine cf ?_
   simp only[go_sem]
   refine kp [0,1,7,8] [] ?_
   repeat refine sq ?_
   refine aY hΓ fun K' hK=>?_
   simp only[go_sem,ah ab,ai,ak,aq]
   repeat (refine⟨ao,?_⟩)
   refine hK _ ?_
   clear K' hK
   simp only[go_sem]
   refine⟨i+1,⟨ab,?_⟩,by(show l.length-(i+1)<l.length-i;omega),?_⟩
   ·intro k hk eo
    rcases Nat.lt_succ_iff_lt_or_eq.1 eo with h5 | rfl
    ·exact hR k hk h5
    ·simpa using hb
   refine bq [0,1,7,8] [] ?_ ?_<;>simp only[go_sem,bj ab hl,bn]
 ·have bx:i=l.length:=by
   have :¬ (i:Int)<l.length:=by simpa using hb
   omega
  clear hb
  subst bx
  repeat refine sq ?_
  refine bV ?_
  simp only[go_sem]
  refine kp [] [] ?_
  repeat refine sq ?_
  refine rx hΓ [4] [] (fun K' hK=>by simp only[go_sem];exact an) ?_
  refine aA ?_
  simp only[go_sem]
  rw[s6 (p:=pG g) fun k hk=>hR k hk hk]
def K18d:List (Nat×Spec):=[(192,Y9)]
theorem aaL:KS K18d:=tc Px.sound<|tn
attribute [go_sem] K18d
@[go_sem] def P160:PSpec:=p2 eh vr (fun _ g=>uW g) (fun l g=>.bool (l.any (pG g))) true
@[go_sem] def S160:Spec:=P160.toSpec
theorem PN:aW Tryz.prog 160 P160:=by
 refine ez (rs:=[.tmp 4]) Tryz.func160 Tryz.ntmps160 fun l g hp hw=>?_
 simp only[vr,eh]at hw |-
 have hΓ:=aaL
 repeat refine sq ?_
 refine rx hΓ [0,1] [] (fun K' hK=>by simp only[go_sem];exact an) ?_
 repeat refine sq ?_
 refine rx hΓ [4] [] (fun K' hK=>by simp only[go_sem,true_or,vp,hp];exact an) ?_
 refine aA ?_
 simp only[go_sem]
 all_goals exact dJ
theorem B4:aM Tryz.prog 160 S160:=PN.sound
end
noncomputable section
structure mP (x:Vw):Prop where
 ok:bF x.l
 bk:∀ q i,bp x.bk q=some i->0<=i/\i<x.l.ts.length
 rs:∀ r∈x.rs,dP r=true
 rn:x.rs.length<=60
 tn:x.ts.length<=60
 ts:∀ i∈x.ts,0<=i/\i<x.l.ts.length
theorem Gh{r:Rec}(h:dP r=true):0<r.lv.length/\r.lv.length<=30:=by
 unfold dP at h
 simp only[Bool.and_eq_true]at h
 exact⟨(qx.1 h.1.1.2).1,(qx.1 h.1.1.2).2.1⟩
theorem Gi{r:Rec}(h:dP r=true):0<=r.da/\r.da<=100000:=by
 unfold dP at h
 simp only[Bool.and_eq_true]at h
 have :=h.1.2
 unfold dayB bI at this
 simpa using this
theorem Qo{r:Ret}(h:jj r=true):0<r.lv.length/\r.lv.length<=30:=by
 unfold jj at h
 simp only[Bool.and_eq_true]at h
 exact⟨(qx.1 h.1.1.1.2).1,(qx.1 h.1.1.1.2).2.1⟩
theorem wL{d:Int}(h:0<=d/\d<=100000):IntKind.i64.wrap (d+1)=d+1:=wrap_i64 (by omega) (by omega)
theorem nY{l:Led}{i:Nat}(h:i<l.ts.length):aH l i=l.ts[i]:=by unfold aH;exact bW h
theorem bF.recs{l:Led}(h:bF l):∀ r∈l.rs,dP r=true:=fun r hr=>by
 obtain⟨j,hj,rfl⟩:=List.getElem_of_mem hr
 exact oV h.rs hj
theorem bF.rets{l:Led}(h:bF l){i:Nat}(hi:i<l.ts.length):jj (aH l i)=true:=by
 rw[nY hi]
 exact oV h.ts hi
def rJ(x:Vw)(a b:Rec)(f:Int):Bool:=(a.pa==b.pa&&b.lv.contains f)&&(a.da==b.da||match bp x.bk (a.so,f)with
 |none=>true
 |some i=>decide (bP (aH x.l i.toNat).lo (a.da+1)>b.da))
theorem DV(x:Vw)(a b:Rec):tO x a b=a.lv.any (rJ x a b):=rfl
theorem MW{α:Type}{p:α->Bool}{l:List α}{i:Nat}(h:i<l.length)(hp:p l[i]=true):l.any p=true:=List.any_eq_true.2 ⟨_,List.getElem_mem h,hp⟩
theorem YE{α:Type}{p:α->Bool}{l:List α}(h:∀ k (hk:k<l.length),p l[k]=false):l.any p=false:=by
 rw[List.any_eq_false]
 intro x hx
 obtain⟨k,hk,rfl⟩:=List.getElem_of_mem hx
 rw[h k hk];decide
theorem wT{l:Led}{i:Int}(h0:0<=i)(h:i<l.ts.length):(l.ts.map dB).getD i.toNat default=dB (aH l i.toNat):=by
 have h':i.toNat<l.ts.length:=by omega
 rw[ah h',nY h']
def pw(a b:Rec):Rec:=if a.da>b.da then b else a
def kH(a b:Rec):Rec:=if a.da>b.da then a else b
theorem Xr(x:Vw)(a b:Rec):kQ x a b=tO x (pw a b) (kH a b):=by
 unfold kQ pw kH
 split<;>rfl
theorem RT{a b:Rec}(ha:dP a=true)(hb:dP b=true):dP (pw a b)=true/\dP (kH a b)=true:=by
 unfold pw kH
 split
 ·exact⟨hb,ha⟩
 ·exact⟨ha,hb⟩
def rM(r:Rec):List D:=[.v (vInt r.so),.v (vInt r.bo),.v (vInt r.pa),.v (.sl (r.lv.map vInt)),.v (vInt r.da),.v (vInt r.kn),.v (vInt r.un)]
attribute [go_sem] rM
def K19:List (Nat×Spec):=[(108,wD)]
theorem aaJ:KS K19:=tc AS.sound<|tn
attribute [go_sem] K19
def M8:VSpec:=v2 iR iR (fun x a b=>mP x/\dP a=true/\dP b=true) (fun x a b=>.v (.bool (kQ x a b))) none
def S129:Spec:=M8.toSpec
attribute [go_sem] M8 S129
set_option maxHeartbeats 8000000 in
theorem Jn:aM Tryz.prog 129 S129:=by
 refine wP (rs:=[.tmp 6]) Tryz.func129 Tryz.ntmps129 (by rfl) (by kernel_rfl) (by decide) (fun _ _ _=>by first | rfl | simp[D.clos,D.closL,lg]) ⟨_,rfl,lb rfl,fun x a b hp H h0 h1 h2 hO ae=>?_⟩
 have hP:=fL
 simp only[iR,encR,bt,cW,List.map_cons,List.map_nil,Nat.zero_add,Option.map_some,Option.map_none]at h0 |-
 have hΓ:=aaJ
 obtain⟨hv,ha,V9⟩:=hp
 rw[Xr]
 obtain⟨ym,kF⟩:=RT ha V9
 repeat refine sq ?_
 refine rx hΓ [0,4,5] [[4,0],[5,0]] (fun K' hK=>by simp only[go_sem,hO,ae,h0,h1,h2];(repeat (refine⟨ao,?_⟩));exact hK _ (by simp only[go_sem,hO,ae,h0,h1,h2]) (by simp only[go_sem,hO,ae,h0,h1,h2]<;>rfl)) ?_
 repeat refine sq ?_
 refine rx hΓ [0,4,5,15] [[4,0],[5,0]] (fun K' hK=>by simp only[go_sem,hO,ae,h0,h1,h2];(repeat (refine⟨ao,?_⟩));exact hK _ (by simp only[go_sem,hO,ae,h0,h1,h2]) (by simp only[go_sem,hO,ae,h0,h1,h2]<;>rfl)) ?_
 repeat refine sq ?_
 refine X4 (bc 80 [0] H [(0,⟨true,.ref [0,1] 0⟩),(4,⟨true,.ref [4,0] 0⟩),(5,⟨true,.ref [5,0] 0⟩)] [([4,0],.box (rM (pw a b))),([5,0],.box (rM (kH a b)))]) rfl rfl (fun hb=>?_) (fun hb=>?_) ?_
 ·repeat refine sq ?_
  rw[show pw a b=b from if_pos (by simpa using hb),show kH a b=a from if_pos (by simpa using hb)]
  repeat refine sq ?_
  refine aY hΓ fun K' hK=>?_
  simp only[go_sem,hO,ae,h0,h1,h2]
  repeat (refine⟨ao,?_⟩)
  refine hK _ ?_
  clear K' hK
  simp only[go_sem]
  refine se [0,4,5] [[4,0],[5,0]] ?_ ?_
  ·simp only[go_sem,hO,ae,h0,h1,h2]
  ·simp only[go_sem,hO,ae,h0,h1,h2]
 ·repeat refine sq ?_
  rw[show pw a b=a from if_neg (by simpa using hb),show kH a b=b from if_neg (by simpa using hb)]
  refine aE ?_
  refine cf ?_
  simp only[go_sem]
  refine se [0,4,5] [[4,0],[5,0]] ?_ ?_
  ·simp only[go_sem,hO,ae,h0,h1,h2]
  ·simp only[go_sem,hO,ae,h0,h1,h2]
 generalize pw a b=p at *
 generalize kH a b=q at *
 have hl:p.lv.length<=maxLen:=by have:=(Gh ym).2;unfold maxLen;omega
 repeat refine sq ?_
 refine rx hΓ [0,4,5,19,20,21] [[4,0],[5,0]] (fun K' hK=>by simp only[go_sem,hO,ae,h0,h1,h2];(repeat (refine⟨ao,?_⟩));exact hK _ (by simp only[go_sem,hO,ae,h0,h1,h2]) (by simp only[go_sem,hO,ae,h0,h1,h2]<;>rfl)) ?_
 repeat refine sq ?_
 refine aS ?_
 repeat refine sq ?_
 refine cv (fun s:Nat=>[(21,⟨true,.v (vInt s)⟩)]) (fun s=>[]) (fun s=>s<=p.lv.length/\∀ k (h:k<p.lv.length),k<s->rJ x p q p.lv[k]=false) (fun s=>p.lv.length-s) 0 ?_ ?_ ?_ ?_
 ·exact⟨Nat.zero_le _,by simp⟩
 ·rfl
 ·rfl
 rintro i ⟨hi,hR⟩
 simp only[go_sem]
 repeat refine sq ?_
 refine rx hΓ [0,4,5,19,20,21,22] [[4,0],[5,0]] (fun K' hK=>by simp only[go_sem,hO,ae,h0,h1,h2];(repeat (refine⟨ao,?_⟩));exact hK _ (by simp only[go_sem,hO,ae,h0,h1,h2]) (by simp only[go_sem,hO,ae,h0,h1,h2]<;>rfl)) ?_
 repeat refine sq ?_
 refine aB (fun hb=>?_) fun hb=>?_
 ·have ab:i<p.lv.length:=by simpa using hb
  have aq:(i:Int)<p.lv.length:=by omega
  clear hb
  have gv:=wL (Gi ym)
  repeat refine sq ?_
  refine aE ?_
  repeat refine sq ?_
  refine aS ?_
  repeat refine sq ?_
  refine rx hΓ [0,4,5,8,19,20,21] [[4,0],[5,0]] (fun K' hK=>by simp only[go_sem,hO,ae,h0,h1,h2,ah ab,ai,ak,aq];(repeat (refine⟨ao,?_⟩));exact hK _ (by simp only[go_sem,hO,ae,h0,h1,h2,ah ab,ai,ak,aq]) (by simp only[go_sem,hO,ae,h0,h1,h2,ah ab,ai,ak,aq]<;>rfl)) ?_
  repeat refine sq ?_
  refine rx hΓ [0,4,5,8,19,20,21,36] [[4,0],[5,0]] (fun K' hK=>by simp only[go_sem,hO,ae,h0,h1,h2,ah ab,ai,ak,aq];(repeat (refine⟨ao,?_⟩));exact hK _ (by simp only[go_sem,hO,ae,h0,h1,h2,ah ab,ai,ak,aq]) (by simp only[go_sem,hO,ae,h0,h1,h2,ah ab,ai,ak,aq]<;>rfl)) ?_
  repeat refine sq ?_
  refine aB (fun hb=>?_) fun hb=>?_
  ·repeat refine sq ?_
   refine bV ?_
   simp only[go_sem]
   refine ev [0,4,5,19,20,21] [[4,0],[5,0]] ?_ ?_
   ·simp only[go_sem,hO,ae,h0,h1,h2]
   simp only[go_sem,hO,ae,h0,h1,h2]
   repeat refine sq ?_
   refine aY hΓ fun K' hK=>?_
   simp only[go_sem,hO,ae,h0,h1,h2,ah ab,ai,ak,aq]
   repeat (refine⟨ao,?_⟩)
   refine hK _ ?_
   clear K' hK
   simp only[go_sem]
   refine⟨i+1,⟨ab,?_⟩,by(show p.lv.length-(i+1)<p.lv.length-i;omega),?_⟩
   ·intro k hk eo
    rcases Nat.lt_succ_iff_lt_or_eq.1 eo with h5 | rfl
    ·exact hR k hk h5
    ·unfold rJ;grind
   refine bq [0,4,5,19,20,21] [[4,0],[5,0]] ?_ ?_<;>simp only[go_sem,bj ab hl,bn,hO,ae,h0,h1,h2]
  ·repeat refine sq ?_
   refine aE ?_
   rcases aK:bp x.bk (p.so,p.lv[i])with _ | j
   ·repeat refine sq ?_
    refine dx hΓ hP [[],[0],[0,1],[0,1,2],[],[4],[],[4,5,6],u8,u9,cZ,cZ,eG,kg] [0,4,5,9,10,19,20,21] [[4,0],[5,0]] (by kernel_rfl) (fun K' hK=>by simp only[go_sem,hO,ae,h0,h1,h2,ah ab,ai,ak,aq,aw,aK,Option.map_none,Option.isSome_none,Option.getD_none];(repeat (refine⟨ao,?_⟩));(first | refine⟨by rfl,?_⟩ | skip);exact hK _ (by simp only[go_sem,hO,ae,h0,h1,h2,ah ab,ai,ak,aq,aw,aK,Option.map_none,Option.isSome_none,Option.getD_none]) (by simp only[go_sem,hO,ae,h0,h1,h2,ah ab,ai,ak,aq,aw,aK,Option.map_none,Option.isSome_none,Option.getD_none]<;>rfl)) ?_
    repeat refine sq ?_
    refine dx hΓ hP [[],[0],[],[2],u4,u5,u6,u7,u8,u9,cZ,eG,fG,kg,kf,sm,u16,cZ,jF,lW,nX,uu,cZ,[0,1,2,3,4,5,6,7,8,9,22],[0,1,2,3,4,5,6,7,8,9,22,23],sk,cZ,[0,1,2,3,4,5,6,7,8,9,26],sj,si] [0,4,5,19,20,21,78] [[4,0],[5,0]] (by kernel_rfl) (fun K' hK=>by simp only[go_sem,hO,ae,h0,h1,h2,ah ab,ai,ak,aq,aw,aK,Option.map_none,Option.isSome_none,Option.getD_none];(repeat (refine⟨ao,?_⟩));(first | refine⟨by rfl,?_⟩ | skip);exact hK _ (by simp only[go_sem,hO,ae,h0,h1,h2,ah ab,ai,ak,aq,aw,aK,Option.map_none,Option.isSome_none,Option.getD_none]) (by simp only[go_sem,hO,ae,h0,h1,h2,ah ab,ai,ak,aq,aw,aK,Option.map_none,Option.isSome_none,Option.getD_none]<;>rfl)) ?_
    repeat refine sq ?_
    refine aB (fun hb=>?_) fun hb=>?_
    ·repeat refine sq ?_
     refine rx hΓ [6] [] (fun K' hK=>by simp only[go_sem,hO,ae,h0,h1,h2,ah ab,ai,ak,aq,aw,aK,Option.map_none,Option.isSome_none,Option.getD_none];(repeat (refine⟨ao,?_⟩));exact hK _ (by simp only[go_sem,hO,ae,h0,h1,h2,ah ab,ai,ak,aq,aw,aK,Option.map_none,Option.isSome_none,Option.getD_none]) (by simp only[go_sem,hO,ae,h0,h1,h2,ah ab,ai,ak,aq,aw,aK,Option.map_none,Option.isSome_none,Option.getD_none]<;>rfl)) ?_
     refine aA ?_
     simp only[go_sem,hO,ae,h0,h1,h2]
     rw[DV,MW ab (by unfold rJ;rw[aK];grind [bP])]
    ·repeat refine sq ?_
     refine aE ?_
     refine cf ?_
     simp only[go_sem]
     refine ev [0,4,5,19,20,21] [[4,0],[5,0]] ?_ ?_
     ·simp only[go_sem,hO,ae,h0,h1,h2]
     simp only[go_sem,hO,ae,h0,h1,h2]
     repeat refine sq ?_
     refine aY hΓ fun K' hK=>?_
     simp only[go_sem,hO,ae,h0,h1,h2,ah ab,ai,ak,aq,aw,aK,Option.map_none,Option.isSome_none,Option.getD_none]
     repeat (refine⟨ao,?_⟩)
     refine hK _ ?_
     clear K' hK
     simp only[go_sem]
     refine⟨i+1,⟨ab,?_⟩,by(show p.lv.length-(i+1)<p.lv.length-i;omega),?_⟩
     ·intro k hk eo
      rcases Nat.lt_succ_iff_lt_or_eq.1 eo with h5 | rfl
      ·exact hR k hk h5
      ·unfold rJ;rw[aK];grind [bP]
     refine bq [0,4,5,19,20,21] [[4,0],[5,0]] ?_ ?_<;>simp only[go_sem,bj ab hl,bn,hO,ae,h0,h1,h2]
   ·obtain⟨bB,db⟩:=hv.bk _ _ aK
    have iH:=wT bB db
    repeat refine sq ?_
    refine dx hΓ hP [[],[0],[0,1],[0,1,2],[],[4],[],[4,5,6],u8,u9,cZ,cZ,eG,kg] [0,4,5,9,10,19,20,21] [[4,0],[5,0]] (by kernel_rfl) (fun K' hK=>by simp only[go_sem,hO,ae,h0,h1,h2,ah ab,ai,ak,aq,aw,aK,Option.map_some,Option.isSome_some,Option.getD_some,iH,bB,db,gv];(repeat (refine⟨ao,?_⟩));(first | refine⟨by rfl,?_⟩ | skip);exact hK _ (by simp only[go_sem,hO,ae,h0,h1,h2,ah ab,ai,ak,aq,aw,aK,Option.map_some,Option.isSome_some,Option.getD_some,iH,bB,db,gv]) (by simp only[go_sem,hO,ae,h0,h1,h2,ah ab,ai,ak,aq,aw,aK,Option.map_some,Option.isSome_some,Option.getD_some,iH,bB,db,gv]<;>rfl)) ?_
    repeat refine sq ?_
    refine dx hΓ hP [[],[0],[],[2],u4,u5,u6,u7,u8,u9,cZ,eG,fG,kg,kf,sm,u16,cZ,jF,lW,nX,uu,cZ,[0,1,2,3,4,5,6,7,8,9,22],[0,1,2,3,4,5,6,7,8,9,22,23],sk,cZ,[0,1,2,3,4,5,6,7,8,9,26],sj,si] [0,4,5,19,20,21,78] [[4,0],[5,0]] (by kernel_rfl) (fun K' hK=>by simp only[go_sem,hO,ae,h0,h1,h2,ah ab,ai,ak,aq,aw,aK,Option.map_some,Option.isSome_some,Option.getD_some,iH,bB,db,gv];(repeat (refine⟨ao,?_⟩));(first | refine⟨by rfl,?_⟩ | skip);exact hK _ (by simp only[go_sem,hO,ae,h0,h1,h2,ah ab,ai,ak,aq,aw,aK,Option.map_some,Option.isSome_some,Option.getD_some,iH,bB,db,gv]) (by simp only[go_sem,hO,ae,h0,h1,h2,ah ab,ai,ak,aq,aw,aK,Option.map_some,Option.isSome_some,Option.getD_some,iH,bB,db,gv]<;>rfl)) ?_
    repeat refine sq ?_
    refine aB (fun hb=>?_) fun hb=>?_
    ·repeat refine sq ?_
     refine rx hΓ [6] [] (fun K' hK=>by simp only[go_sem,hO,ae,h0,h1,h2,ah ab,ai,ak,aq,aw,aK,Option.map_some,Option.isSome_some,Option.getD_some,iH,bB,db,gv];(repeat (refine⟨ao,?_⟩));exact hK _ (by simp only[go_sem,hO,ae,h0,h1,h2,ah ab,ai,ak,aq,aw,aK,Option.map_some,Option.isSome_some,Option.getD_some,iH,bB,db,gv]) (by simp only[go_sem,hO,ae,h0,h1,h2,ah ab,ai,ak,aq,aw,aK,Option.map_some,Option.isSome_some,Option.getD_some,iH,bB,db,gv]<;>rfl)) ?_
     refine aA ?_
     simp only[go_sem,hO,ae,h0,h1,h2]
     rw[DV,MW ab (by unfold rJ;rw[aK];grind [bP])]
    ·repeat refine sq ?_
     refine aE ?_
     refine cf ?_
     simp only[go_sem]
     refine ev [0,4,5,19,20,21] [[4,0],[5,0]] ?_ ?_
     ·simp only[go_sem,hO,ae,h0,h1,h2]
     simp only[go_sem,hO,ae,h0,h1,h2]
     repeat refine sq ?_
     refine aY hΓ fun K' hK=>?_
     simp only[go_sem,hO,ae,h0,h1,h2,ah ab,ai,ak,aq,aw,aK,Option.map_some,Option.isSome_some,Option.getD_some,iH,bB,db,gv]
     repeat (refine⟨ao,?_⟩)
     refine hK _ ?_
     clear K' hK
     simp only[go_sem]
     refine⟨i+1,⟨ab,?_⟩,by(show p.lv.length-(i+1)<p.lv.length-i;omega),?_⟩
     ·intro k hk eo
      rcases Nat.lt_succ_iff_lt_or_eq.1 eo with h5 | rfl
      ·exact hR k hk h5
      ·unfold rJ;rw[aK];grind [bP]
     refine bq [0,4,5,19,20,21] [[4,0],[5,0]] ?_ ?_<;>simp only[go_sem,bj ab hl,bn,hO,ae,h0,h1,h2]
 ·have bx:i=p.lv.length:=by
   have :¬ (i:Int)<p.lv.length:=by simpa using hb
   omega
  clear hb
  subst bx
  repeat refine sq ?_
  refine bV ?_
  simp only[go_sem]
  refine ev [] [] ?_ ?_
  ·simp only[go_sem,hO,ae,h0,h1,h2]
  simp only[go_sem,hO,ae,h0,h1,h2]
  repeat refine sq ?_
  refine rx hΓ [6] [] (fun K' hK=>by simp only[go_sem,hO,ae,h0,h1,h2];(repeat (refine⟨ao,?_⟩));exact hK _ (by simp only[go_sem,hO,ae,h0,h1,h2]) (by simp only[go_sem,hO,ae,h0,h1,h2]<;>rfl)) ?_
  refine aA ?_
  simp only[go_sem,hO,ae,h0,h1,h2]
  rw[DV,YE fun k hk=>hR k hk hk]
end
noncomputable section
@[go_sem] theorem ad9(x:Vw):(⟨x.l,x.rs,x.ts,x.bk,x.ds⟩:Vw)=x:=rfl
def xo:Option (Int×Int)->D
 |some p=>.tup [.v (.sl [vInt p.1,vInt p.2]),.v (.bool true)]
 |none=>.tup [.nilsl,.v (.bool false)]
theorem Qw(r:Option (Int×Int))(p:Name->Bool):D.clos p (xo r)=true:=by cases r<;>rfl
theorem GD{x:Vw}{i:Nat}(h:i<x.rs.length)(hn:∀ k (hk:k<(x.rs.drop (i+1)).length),kQ x x.rs[i] (x.rs.drop (i+1))[k]=false):l' x i=none:=by
 unfold l'
 have e:(x.rs.drop (i+1)).find? (kQ x x.rs[i])=none:=List.find?_eq_none.2 fun y hy=>by
  obtain⟨k,hk,rfl⟩:=List.getElem_of_mem hy
  rw[hn k hk];decide
 rw[bW h,e]
 rfl
theorem QJ{x:Vw}{i k:Nat}(h:i<x.rs.length)(hk:k<(x.rs.drop (i+1)).length)(hn:∀ j (hj:j<(x.rs.drop (i+1)).length),j<k->kQ x x.rs[i] (x.rs.drop (i+1))[j]=false)(hb:kQ x x.rs[i] (x.rs.drop (i+1))[k]=true):
 l' x i=some (x.rs[i].so,(x.rs.drop (i+1))[k].so):=by
 unfold l'
 have e:(x.rs.drop (i+1)).find? (kQ x x.rs[i])=some (x.rs.drop (i+1))[k]:=List.find?_eq_some_iff_getElem.2 ⟨hb,k,hk,rfl,fun j hj=>by rw[hn j (by omega) hj];rfl⟩
 rw[bW h,e]
 rfl
theorem QH{x:Vw}{i:Nat}{p:Int×Int}(h:i<x.rs.length)(hn:∀ k,k<i->l' x k=none)(hp:l' x i=some p):fi x=some p:=by
 unfold fi
 rw[List.findSome?_eq_some_iff]
 refine⟨List.range i,i,(List.range' (i+1) (x.rs.length-(i+1))),?_,hp,fun a ha=>hn a (List.mem_range.1 ha)⟩
 rw[List.range_eq_range',List.range_eq_range']
 have :x.rs.length=i+(1+(x.rs.length-(i+1))):=by omega
 conv=>lhs;rw[this]
 rw[<-List.range'_append_1,<-List.range'_append_1,Nat.zero_add]
 rfl
theorem GC{x:Vw}(hn:∀ k,k<x.rs.length->l' x k=none):fi x=none:=by
 unfold fi
 rw[List.findSome?_eq_none_iff]
 exact fun a ha=>hn a (List.mem_range.1 ha)
def K20:List (Nat×Spec):=[(129,S129)]
theorem aaI:KS K20:=tc Jn<|tn
attribute [go_sem] K20
def Na:VSpec:=v0 (fun x=>mP x) (fun x=>xo (fi x)) none
def S120:Spec:=Na.toSpec
attribute [go_sem] Na S120
set_option maxHeartbeats 8000000 in
theorem Jr:aM Tryz.prog 120 S120:=by
 refine N2 (rs:=[.tmp 2,.tmp 3]) Tryz.func120 Tryz.ntmps120 (by rfl) (by kernel_rfl) (by decide) (fun _=>by first | rfl | exact Qw _ _ | simp[D.clos,D.closL,lg]) ⟨_,rfl,lb rfl,fun x hp H h0 h1 h2 hO ae=>?_⟩
 simp only[bt,cW,List.map_cons,List.map_nil,Nat.zero_add,Option.map_some,Option.map_none]at h0 |-
 have hΓ:=aaI
 have pF:x.rs.length<=maxLen:=by have:=hp.rn;unfold maxLen;omega
 repeat refine sq ?_
 refine rx hΓ [0] [] (fun K' hK=>by simp only[go_sem,hO,ae,h0,h1,h2];(repeat (refine⟨ao,?_⟩));exact hK _ (by simp only[go_sem,hO,ae,h0,h1,h2]) (by simp only[go_sem,hO,ae,h0,h1,h2]<;>rfl)) ?_
 repeat refine sq ?_
 refine rx hΓ [0,11,12,13] [] (fun K' hK=>by simp only[go_sem,hO,ae,h0,h1,h2];(repeat (refine⟨ao,?_⟩));exact hK _ (by simp only[go_sem,hO,ae,h0,h1,h2]) (by simp only[go_sem,hO,ae,h0,h1,h2]<;>rfl)) ?_
 repeat refine sq ?_
 refine aS ?_
 repeat refine sq ?_
 refine cv (fun s:Nat=>[(13,⟨true,.v (vInt s)⟩)]) (fun s=>[]) (fun s=>s<=x.rs.length/\∀ k,k<s->l' x k=none) (fun s=>x.rs.length-s) 0 ?_ ?_ ?_ ?_
 ·exact⟨Nat.zero_le _,by simp⟩
 ·rfl
 ·rfl
 rintro i ⟨hi,hR⟩
 simp only[go_sem]
 repeat refine sq ?_
 refine rx hΓ [0,11,12,13,14] [] (fun K' hK=>by simp only[go_sem,hO,ae,h0,h1,h2];(repeat (refine⟨ao,?_⟩));exact hK _ (by simp only[go_sem,hO,ae,h0,h1,h2]) (by simp only[go_sem,hO,ae,h0,h1,h2]<;>rfl)) ?_
 repeat refine sq ?_
 refine aB (fun hb=>?_) fun hb=>?_
 ·have ab:i<x.rs.length:=by simpa using hb
  have aq:(i:Int)<x.rs.length:=by omega
  clear hb
  have Cg:IntKind.i64.wrap ((i:Int)+1)=((i+1:Nat):Int):=bj ab pF
  have rj:x.rs.length-(i+1)<=maxLen:=by omega
  have vB:List.take (x.rs.length-(i+1)) ((x.rs.drop (i+1)).map encR)=(x.rs.drop (i+1)).map encR:=List.take_of_length_le (by simp)
  have dw:=hp.rs x.rs[i] (List.getElem_mem ab)
  repeat refine sq ?_
  refine aE ?_
  repeat refine sq ?_
  refine aS ?_
  repeat refine sq ?_
  refine rx hΓ [0,4,5,11,12,13] [[5,0]] (fun K' hK=>by simp only[go_sem,hO,ae,h0,h1,h2,ah ab,ai,ak,aq];(repeat (refine⟨ao,?_⟩));exact hK _ (by simp only[go_sem,hO,ae,h0,h1,h2,ah ab,ai,ak,aq]) (by simp only[go_sem,hO,ae,h0,h1,h2,ah ab,ai,ak,aq]<;>rfl)) ?_
  repeat refine sq ?_
  refine rx hΓ [0,5,11,12,13,24,25,26] [[5,0]] (fun K' hK=>by simp only[go_sem,hO,ae,h0,h1,h2,ah ab,ai,ak,aq,Cg,<-List.map_drop,vB];(repeat (refine⟨by first | exact ao | exact⟨by omega,Int.le_refl _,fun y hy=>(Bf _ y hy).1⟩,?_⟩));exact hK _ (by simp only[go_sem,hO,ae,h0,h1,h2,ah ab,ai,ak,aq,Cg,<-List.map_drop,vB]) (by simp only[go_sem,hO,ae,h0,h1,h2,ah ab,ai,ak,aq,Cg,<-List.map_drop,vB]<;>rfl)) ?_
  repeat refine sq ?_
  refine aS ?_
  repeat refine sq ?_
  refine cv (fun s:Nat=>[(26,⟨true,.v (vInt s)⟩)]) (fun s=>[]) (fun s=>s<=(x.rs.drop (i+1)).length/\∀ k (hk:k<(x.rs.drop (i+1)).length),k<s->kQ x x.rs[i] (x.rs.drop (i+1))[k]=false) (fun s=>(x.rs.drop (i+1)).length-s) 0 ?_ ?_ ?_ ?_
  ·exact⟨Nat.zero_le _,by simp⟩
  ·rfl
  ·rfl
  rintro i1 ⟨hi,hR⟩
  simp only[go_sem]
  repeat refine sq ?_
  refine rx hΓ [0,5,11,12,13,24,25,26,27] [[5,0]] (fun K' hK=>by simp only[go_sem,hO,ae,h0,h1,h2,ah ab,ai,ak,aq];(repeat (refine⟨ao,?_⟩));exact hK _ (by simp only[go_sem,hO,ae,h0,h1,h2,ah ab,ai,ak,aq]) (by simp only[go_sem,hO,ae,h0,h1,h2,ah ab,ai,ak,aq]<;>rfl)) ?_
  repeat refine sq ?_
  refine aB (fun hb=>?_) fun hb=>?_
  ·have aU:i1<(x.rs.drop (i+1)).length:=by simpa using hb
   have bJ:(i1:Int)<(x.rs.drop (i+1)).length:=by omega
   clear hb
   have ft:=hp.rs (x.rs.drop (i+1))[i1] (List.mem_of_mem_drop (List.getElem_mem aU))
   repeat refine sq ?_
   refine aE ?_
   repeat refine sq ?_
   refine aS ?_
   repeat refine sq ?_
   refine rx hΓ [0,5,7,11,12,13,24,25,26] [[5,0],[7,0]] (fun K' hK=>by simp only[go_sem,hO,ae,h0,h1,h2,ah ab,ai,ak,aq,ah aU,ai,ak,bJ];(repeat (refine⟨ao,?_⟩));exact hK _ (by simp only[go_sem,hO,ae,h0,h1,h2,ah ab,ai,ak,aq,ah aU,ai,ak,bJ]) (by simp only[go_sem,hO,ae,h0,h1,h2,ah ab,ai,ak,aq,ah aU,ai,ak,bJ]<;>rfl)) ?_
   repeat refine sq ?_
   refine rx hΓ [0,5,7,11,12,13,24,25,26,33] [[5,0],[7,0]] (fun K' hK=>by simp only[go_sem,hO,ae,h0,h1,h2,ah ab,ai,ak,aq,ah aU,ai,ak,bJ];(repeat (refine⟨ao,?_⟩));exact hK _ (by simp only[go_sem,hO,ae,h0,h1,h2,ah ab,ai,ak,aq,ah aU,ai,ak,bJ]) (by simp only[go_sem,hO,ae,h0,h1,h2,ah ab,ai,ak,aq,ah aU,ai,ak,bJ]<;>rfl)) ?_
   repeat refine sq ?_
   refine aB (fun hb=>?_) fun hb=>?_
   ·repeat refine sq ?_
    refine rx hΓ [2,3] [] (fun K' hK=>by simp only[go_sem,hO,ae,h0,h1,h2,ah ab,ai,ak,aq,ah aU,ai,ak,bJ];(repeat (refine⟨ao,?_⟩));exact hK _ (by simp only[go_sem,hO,ae,h0,h1,h2,ah ab,ai,ak,aq,ah aU,ai,ak,bJ]) (by simp only[go_sem,hO,ae,h0,h1,h2,ah ab,ai,ak,aq,ah aU,ai,ak,bJ]<;>rfl)) ?_
    refine aA ?_
    simp only[go_sem,hO,ae,h0,h1,h2]
    rw[QH ab (by assumption) (QJ ab aU hR (by simpa using hb))];rfl
   ·repeat refine sq ?_
    refine aE ?_
    refine cf ?_
    simp only[go_sem]
    refine ev [0,5,11,12,13,24,25,26] [[5,0]] ?_ ?_
    ·simp only[go_sem,hO,ae,h0,h1,h2]
    simp only[go_sem,hO,ae,h0,h1,h2]
    repeat refine sq ?_
    refine aY hΓ fun K' hK=>?_
    simp only[go_sem,hO,ae,h0,h1,h2,ah ab,ai,ak,aq,ah aU,ai,ak,bJ]
    repeat (refine⟨ao,?_⟩)
    refine hK _ ?_
    clear K' hK
    simp only[go_sem]
    refine⟨i1+1,⟨aU,?_⟩,by(show (x.rs.drop (i+1)).length-(i1+1)<(x.rs.drop (i+1)).length-i1;omega),?_⟩
    ·intro k hk eo
     rcases Nat.lt_succ_iff_lt_or_eq.1 eo with h5 | rfl
     ·exact hR k hk h5
     ·simpa using hb
    refine bq [0,5,11,12,13,24,25,26] [[5,0]] ?_ ?_<;>simp only[go_sem,bj aU (by rw[List.length_drop];omega:(x.rs.drop (i+1)).length<=maxLen),bn,hO,ae,h0,h1,h2]
  ·have kI:i1=(x.rs.drop (i+1)).length:=by
    have :¬ (i1:Int)<(x.rs.drop (i+1)).length:=by simpa using hb
    omega
   clear hb
   subst kI
   repeat refine sq ?_
   refine bV ?_
   simp only[go_sem]
   refine ev [0,11,12,13] [] ?_ ?_
   ·simp only[go_sem,hO,ae,h0,h1,h2]
   simp only[go_sem,hO,ae,h0,h1,h2]
   repeat refine sq ?_
   refine aY hΓ fun K' hK=>?_
   simp only[go_sem,hO,ae,h0,h1,h2,ah ab,ai,ak,aq]
   repeat (refine⟨ao,?_⟩)
   refine hK _ ?_
   clear K' hK
   simp only[go_sem]
   refine⟨i+1,⟨ab,?_⟩,by(show x.rs.length-(i+1)<x.rs.length-i;omega),?_⟩
   ·intro k hk
    rcases Nat.lt_succ_iff_lt_or_eq.1 hk with h5 | rfl
    ·exact(by assumption:∀ k,k<i->l' x k=none) k h5
    ·exact GD ab fun j hj=>hR j hj hj
   refine bq [0,11,12,13] [] ?_ ?_<;>simp only[go_sem,bj ab pF,bn,hO,ae,h0,h1,h2]
 ·have bx:i=x.rs.length:=by
   have :¬ (i:Int)<x.rs.length:=by simpa using hb
   omega
  clear hb
  subst bx
  repeat refine sq ?_
  refine bV ?_
  simp only[go_sem]
  refine ev [] [] ?_ ?_
  ·simp only[go_sem,hO,ae,h0,h1,h2]
  simp only[go_sem,hO,ae,h0,h1,h2]
  repeat refine sq ?_
  refine rx hΓ [2,3] [] (fun K' hK=>by simp only[go_sem,hO,ae,h0,h1,h2];(repeat (refine⟨ao,?_⟩));exact hK _ (by simp only[go_sem,hO,ae,h0,h1,h2]) (by simp only[go_sem,hO,ae,h0,h1,h2]<;>rfl)) ?_
  refine aA ?_
  simp only[go_sem,hO,ae,h0,h1,h2]
  rw[GC hR];rfl
end
def jH(obj:Name->Option O)(L:List O):Name->Option O:=fun nm=>match aV L nm with | some o=>some o | none=>obj nm
theorem OF{L1 L2:List O}(h:L2.length=L1.length):jH (aV L1) L2=aV L2:=by
 funext nm
 unfold jH
 cases hx:cT nm with
 |false=>rw[xr hx,xr hx]
 |true=>
  obtain⟨i,rfl⟩:=vo.1 hx
  simp only[aV]
  by_cases hi:i<L2.length
  ·rw[List.getElem?_eq_getElem hi]
  ·rw[List.getElem?_eq_none (by omega),List.getElem?_eq_none (by omega)]
theorem BA(n:Nat)(p:Name)(F H:Name->Option O)(L:List O)(l:List (Nat×E))(h:List (Name×O)):
 bc n p (jH (fun nm=>if own p nm=true then F nm else H nm) L) l h=bc n p (jH H L) l h:=
 xI fun nm hn=>by unfold jH;simp[hn]
theorem EL(p:Name)(dom:Name->Bool)(F H:Name->Option O)(L:List O):
 b7 p dom (jH (fun nm=>if own p nm=true then F nm else H nm) L)=b7 p dom (jH H L):=by
 have e:∀ nm,own p nm=false->jH (fun nm=>if own p nm=true then F nm else H nm) L nm=jH H L nm:=fun nm hn=>by unfold jH;simp[hn]
 exact propext ⟨fun k nm q hn h=>k nm q hn (by rw[e nm hn];exact h),fun k nm q hn h=>k nm q hn (by rw[<-e nm hn];exact h)⟩
def Lp.I(r:Lp)(s:Nat):List O:=r.rc (LI r.m) .ready none::r.fam (LI r.m) s
theorem Lp.I_len{r:Lp}(hr:r.Ok)(s:Nat):(r.I s).length=r.m+1:=by unfold Lp.I;rw[List.length_cons,hr.len _ _ (gC _)]
theorem Lp.I_clos{r:Lp}(hr:r.Ok)(s:Nat):∀ o∈r.I s,∀ dom:Name->Bool,(∀ i,dom [i,1]=true)->O.clos dom o=true:=by
 intro o ho dom hd
 have jW:∀ x∈LI r.m,dom x=true:=fun x hx=>by
  obtain⟨i,_,rfl⟩:=List.mem_map.1 hx
  exact hd _
 rcases List.mem_cons.1 ho with rfl | ho
 ·exact hr.closE _ _ (gC _) jW
 ·exact hr.closF _ _ _ (gC _) jW _ ho
theorem Lp.y_setU{r:Lp}(hr:r.Ok)(cY:∀ j,r.st j=none){s:Nat}(hs:s<r.n)(obj:Name->Option O)(tm:Name)(ho:∀ nm,cT nm=true->obj nm=aV (r.I s) nm):
 r.y.toSpec.app obj tm (.yld [0,1]::r.vals s)=⟨True,.v (.bool true),jH obj (r.I (s+1))⟩:=by
 have ru:(LI r.m).Nodup:=List.Pairwise.map _ (fun a b h=>by simpa using h) List.nodup_range
 have vW:([0,1]:Name)∉LI r.m:=fun h=>by
  obtain⟨i,_,hi⟩:=List.mem_map.1 h
  simp at hi
 have h0:obj [0,1]=some (r.rc (LI r.m) .ready none):=by
  rw[ho _ rfl];rfl
 have hF:cK obj (LI r.m) (r.fam (LI r.m) s):=by
  rw[kq]
  refine List.ext_getElem (by rw[List.length_map,List.length_map,gC,hr.len _ _ (gC _)]) fun i h3 h4=>?_
  simp only[List.getElem_map,LI,List.getElem_range]
  rw[ho _ rfl]
  simp only[Lp.I,aV,List.getElem?_cons_succ]
  have h5:i<(r.fam (LI r.m) s).length:=by simpa using h4
  rw[List.getElem?_eq_getElem h5]
  rfl
 have yO:=Lp.y_app hr hs (fun j _=>cY j) (t:=tm) (gC _) ru vW h0 hF
 rw[yO,cY s]
 simp only[Option.isNone_none,if_true]
 congr 1
 funext nm
 have hlen:=hr.len (LI r.m) (s+1) (gC _)
 by_cases hR:nm=[0,1]
 ·subst hR
  rw[aQ]
  rfl
 ·rw[aZ _ _ _ hR]
  unfold jH
  cases hx:cT nm with
  |false=>
   rw[xr hx,uI]
   intro gI
   obtain⟨i,_,rfl⟩:=List.mem_map.1 gI
   cases hx
  |true=>
   obtain⟨i,rfl⟩:=vo.1 hx
   have dY:=FH (obj:=obj) (F:=r.fam (LI r.m) (s+1)) ru (by rw[gC,hlen])
   match i,hR with
   | 0,hR=>exact(hR rfl).elim
   |i+1,_=>
    simp only[Lp.I,aV,List.getElem?_cons_succ]
    by_cases hi:i<r.m
    ·have h6:=Bm dY i (by rw[gC];exact hi) (by rw[hlen];exact hi)
     simp only[LI,List.getElem_map,List.getElem_range]at h6
     rw[show (r.fam (LI r.m) (s+1))[i]?=some (r.fam (LI r.m) (s+1))[i]from List.getElem?_eq_getElem (by rw[hlen];exact hi)]
     exact h6
    ·rw[List.getElem?_eq_none (by rw[hlen];omega),uI]
     intro gI
     obtain⟨j,Vh,Vg⟩:=List.mem_map.1 gI
     have :=List.mem_range.1 Vh
     simp at Vg
     omega
theorem Lp.go_e{r:Lp}(cY:∀ j,r.st j=none):r.e=r.n/\r.pd=none:=by
 have :(List.range r.n).find? (fun s=>(r.st s).isSome)=none:=List.find?_eq_none.2 fun s _=>by rw[cY s];decide
 unfold Lp.e Lp.pd
 rw[this]
 exact⟨rfl,rfl⟩
theorem Lp.go_end{P:Program}{r:Lp}(hr:r.Ok)(cY:∀ j,r.st j=none){σ:S}(eM:∀ i,σ.obj [i,1]=aV (r.I r.n) [i,1]):
 (bL P σ []).ok/\(bL P σ []).d=.tup []/\fT (r.rc (LI r.m) .ready none::r.fam (LI r.m) 0) ⟨(0,r.fin (LI r.m))::eR 1 (r.fam (LI r.m) r.e),[],.tup []⟩ σ:=by
 obtain⟨e1,e2⟩:=Lp.go_e cY
 refine Lp.it_end hr ?_ ?_
 ·rw[eM]
  unfold Lp.fin
  rw[e2]
  rfl
 ·rw[kq,e1]
  refine List.ext_getElem (by rw[List.length_map,List.length_map,gC,hr.len _ _ (gC _)]) fun i h3 h4=>?_
  simp only[List.getElem_map,LI,List.getElem_range]
  rw[eM]
  simp only[Lp.I,aV,List.getElem?_cons_succ]
  have h5:i<(r.fam (LI r.m) r.n).length:=by simpa using h4
  rw[List.getElem?_eq_getElem h5]
  rfl
theorem Lp.itC_sound{P:Program}{r:Lp}(hr:r.Ok)(cY:∀ j,r.st j=none){dK:List Name->List D}{f:FuncId}{fn:Func}{nt:Nat}(hf:P.funcs[f]?=some fn)(ca:fn.ntmps=nt)(bQ:fn.results.toList=[])(hn:(fn.name== "runtime.NumGoroutine")=false)(hy:f<1000000000)
 (hw:∃ c,fn.body=some c/\(dK (LI r.m)).length+1<=nt/\CL P [c] (bc nt [0] (aV (r.I 0)) (cW 0 (.yld [0,1]::dK (LI r.m))) []) (fun e σ=>(e=.normal\/e=.ret)/\∀ i,σ.obj [i,1]=aV (r.I r.n) [i,1])):aM P f (r.itC dK).toSpec:=by
 obtain⟨c,hc,hl,hw⟩:=hw
 refine nI hf hc ca bQ (ib hf hc hn) (Nat.ne_of_lt (show f<yid from hy)) ?_
 rintro os ds ⟨rfl,rfl⟩
 refine⟨by simpa using hl,CW.mono (iY hw) ?_⟩
 rintro e σ ⟨he,eM⟩
 rcases he with rfl | rfl
 ·exact Lp.go_end hr cY eM
 ·exact Lp.go_end hr cY eM
noncomputable section
def o4(obj:Name->Option O)(t:Name):List D->R
 |[.ref nv 0,.v (.int .i64 pa),.v (.sl lv)]=>match hG obj nv with
  |some (nb,nd,x)=>⟨na obj nv nb nd x/\obj (3::0::t)=none,.clo (.func 193) [] [.ref (3::0::t) 0,.v (.ptr [vInt pa]),.v (.ptr [.sl lv])],upd obj (3::0::t) (some (.box [.ref nv 0]))⟩
  |_=>.bad obj
 |_=>.bad obj
def Al(obj:Name->Option O)(t:Name):List D->List Name
 | .ref nv _::_=>(3::0::t)::nv::(match obj nv with | some (.box [_,_,_,.map nb,.map nd])=>[nb,nd] | _=>[])
 |_=>[]
def withS:Spec:=⟨o4,Al,Al⟩
theorem WU{obj obj2:Name->Option O}{nv:Name}(h1:obj2 nv=obj nv)(h2:∀ nm∈(match obj nv with | some (.box [_,_,_,.map nb,.map nd])=>[nb,nd] | _=>[]),obj2 nm=obj nm):hG obj2 nv=hG obj nv:=by
 unfold hG
 rw[h1]
 split
 ·rename_i lp rs ts nb nd h
  rw[h]at h2
  rw[h2 nb (by simp),h2 nd (by simp)]
 ·rfl
theorem WT{obj:Name->Option O}{nv nb nd:Name}{x:Vw}(h:hG obj nv=some (nb,nd,x)):(match obj nv with | some (.box [_,_,_,.map nb,.map nd])=>[nb,nd] | _=>[])=[nb,nd]:=by
 unfold hG at h
 split at h
 ·rename_i e
  split at h
  ·cases h;rw[e]
  ·cases h
 ·cases h
theorem NM:withS.Near:=by
 refine uZ fun obj obj2 t ds ha=>?_
 unfold Al at ha |-
 split
 ·rename_i nv off r
  simp only at ha
  have h1:obj2 nv=obj nv:=ha nv (by simp)
  have hg:=WU h1 fun nm hn=>ha nm (by simp[hn])
  refine⟨by rw[h1],?_⟩
  unfold o4
  split
  ·rename_i nv' pa lv e
   cases e
   simp only[hg]
   split
   ·rename_i nb nd x hx
    have ay:=WT hx
    rw[ay]at ha |-
    have aa:na obj2 nv nb nd x=na obj nv nb nd x:=by unfold na;rw[h1,ha nb (by simp),ha nd (by simp)]
    rw[aa,ha (3::0::t) (by simp)]
    exact .one (by simp) ha
   ·exact .none _ ha
  ·exact .none _ ha
 ·refine⟨rfl,?_⟩
  rename_i nz
  unfold o4
  split
  ·exact(nz _ _ _ rfl).elim
  ·exact .none _ (fun _ h=>by cases h)
attribute [go_sem] withS o4
def wM:CSpec where
 pre:=fun os ds=>∃ (x:Vw) (pa:Int) (lv:List V),os=[bt x [1,1] [2,1],.map 2 (bR x.bk),.map 0 (bD x.ds)]/\ds=[.ref [0,1] 0,.v (vInt pa),.v (.sl lv)]
 out:=fun _ ds=>match ds with
  |[_,.v p,.v l]=>⟨[],[([3,0],.box [.ref [0,1] 0])],.clo (.func 193) [] [.ref [3,0] 0,.v (.ptr [p]),.v (.ptr [l])]⟩
  |_=>⟨[],[],.any⟩
theorem NL{f:FuncId}(h:aM Tryz.prog f wM.toSpec)(aG:f≠yid):aM Tryz.prog f withS:=by
 refine uB h NM aG fun obj t ds aa=>?_
 change (o4 obj t ds).ok at aa
 refine⟨ds,rfl,fun _ _ _ _ h=>h,?_⟩
 show _/\_=(o4 obj t ds).d/\_=(o4 obj t ds).obj
 unfold o4 at aa |-
 split at aa
 ·rename_i nv pa lv
  split at aa
  ·rename_i nb nd x vO
   obtain⟨hv,cI⟩:=aa
   have qE:=hv
   obtain⟨h1,h2,h3,h4,h5,h6⟩:=qE
   have n4:nv≠nb:=by simpa using h4
   have n5:nv≠nd:=by simpa using h5
   have n6:nb≠nd:=by simpa using h6
   have hr:=Gj hv [vInt pa,.sl lv]
   simp only[List.map_cons,List.map_nil]at hr
   have i0:idx [nv,nb,nd] nv=0:=by simp[idx]
   have i1:idx [nv,nb,nd] nb=1:=by simp[idx,n4]
   have i2:idx [nv,nb,nd] nd=2:=by simp[idx,n5,n6]
   have e1:cp obj [.ref nv 0,.v (vInt pa),.v (.sl lv)]=[bt x [1,1] [2,1],.map 2 (bR x.bk),.map 0 (bD x.ds)]:=by
    unfold cp
    rw[hr]
    simp only[List.map_cons,List.map_nil,cw,h1,h2,h3,bt,O.ren,D.renL,D.ren,cin,i1,i2]
   have e2:cQ obj [.ref nv 0,.v (vInt pa),.v (.sl lv)]=[.ref [0,1] 0,.v (vInt pa),.v (.sl lv)]:=by
    unfold cQ
    rw[hr]
    simp only[D.renL,D.ren,cin,i0]
   have e5:(shut obj [nv,nb,nd]&&D.closL (cM [nv,nb,nd]) [.ref nv 0,.v (vInt pa),.v (.sl lv)]&&fresh obj t [([3,0],.box [.ref [0,1] 0])])=true:=by
    simp[shut,h1,h2,h3,bt,O.clos,D.closL,D.clos,cM,fresh,cI]
   have e4:wM.pre [bt x [1,1] [2,1],.map 2 (bR x.bk),.map 0 (bD x.ds)] [.ref [0,1] 0,.v (vInt pa),.v (.sl lv)]:=⟨x,pa,lv,rfl,rfl⟩
   have e6:∀ os,wM.out os [.ref [0,1] 0,.v (vInt pa),.v (.sl lv)]=⟨[],[([3,0],.box [.ref [0,1] 0])],.clo (.func 193) [] [.ref [3,0] 0,.v (.ptr [vInt pa]),.v (.ptr [.sl lv])]⟩:=fun _=>rfl
   have tG:cQ obj [.ref nv 0,.v (V.int .i64 pa),.v (.sl lv)]=[.ref [0,1] 0,.v (vInt pa),.v (.sl lv)]:=e2
   have W8:cp obj [.ref nv 0,.v (V.int .i64 pa),.v (.sl lv)]=_:=e1
   have pH:reach obj [.ref nv 0,.v (V.int .i64 pa),.v (.sl lv)]=_:=hr
   have W6:(shut obj [nv,nb,nd]&&D.closL (cM [nv,nb,nd]) [.ref nv 0,.v (V.int .i64 pa),.v (.sl lv)]&&fresh obj t [([3,0],.box [.ref [0,1] 0])])=true:=e5
   simp only[CSpec.toSpec,W8,tG,pH,e6,e4,W6,vO,and_self,di,cr]
   exact⟨trivial,rfl,rfl⟩
  ·exact aa.elim
 ·exact aa.elim
def S164:Spec:=withS
attribute [go_sem] S164
set_option maxHeartbeats 4000000 in
theorem B3:aM Tryz.prog 164 S164:=by
 refine NL ?_ (me _ (by decide))
 refine nI (nt:=8) (rs:=[.tmp 6]) Tryz.func164 rfl (by rfl) (by kernel_rfl) (ib Tryz.func164 rfl (by kernel_rfl)) (me _ (by decide)) ?_
 rintro os ds ⟨x,pa,lv,rfl,rfl⟩
 refine⟨lb rfl,?_⟩
 have iK:∀ os,wM.out os [.ref [0,1] 0,.v (vInt pa),.v (.sl lv)]=⟨[],[([3,0],.box [.ref [0,1] 0])],.clo (.func 193) [] [.ref [3,0] 0,.v (.ptr [vInt pa]),.v (.ptr [.sl lv])]⟩:=fun _=>rfl
 rw[iK]
 refine iY ?_
 have hΓ:=@fj Tryz.prog
 have hO:∀ hs,b7 [0] (bU [0] hs) (aV [bt x [1,1] [2,1],.map 2 (bR x.bk),.map 0 (bD x.ds)])=True:=fun hs=>eq_true (od (by
  intro o ho dom hd
  simp only[List.mem_cons,List.not_mem_nil,or_false]at ho
  rcases ho with rfl | rfl | rfl
  ·simp[bt,O.clos,D.closL,D.clos,hd]
  ·rfl
  ·rfl) hs)
 have h0:aV [bt x [1,1] [2,1],.map 2 (bR x.bk),.map 0 (bD x.ds)] [0,1]=some (bt x [1,1] [2,1]):=rfl
 have h1:aV [bt x [1,1] [2,1],.map 2 (bR x.bk),.map 0 (bD x.ds)] [1,1]=some (.map 2 (bR x.bk)):=rfl
 have h2:aV [bt x [1,1] [2,1],.map 2 (bR x.bk),.map 0 (bD x.ds)] [2,1]=some (.map 0 (bD x.ds)):=rfl
 generalize aV [bt x [1,1] [2,1],.map 2 (bR x.bk),.map 0 (bD x.ds)]=H at *
 repeat refine sq ?_
 refine rx hΓ [3,4,5] [[3,0],[4,0],[5,0]] (fun K' hK=>by simp only[go_sem,hO];(repeat (refine⟨ao,?_⟩));exact hK _ (by simp only[go_sem,hO]) (by simp only[go_sem,hO]<;>rfl)) ?_
 refine bZ (dt 4 (.ref [4,0] 0) (by simp only[go_sem]) (by simp only[go_sem]) [3,4,5] [[3,0],[4,0],[5,0]] ?_ rfl) ?_
 ·simp only[go_sem,hO]
 simp only[go_sem,hO]
 refine bZ (dt 5 (.ref [5,0] 0) (by simp only[go_sem]) (by simp only[go_sem]) [3,4,5] [[3,0]] ?_ rfl) ?_
 ·simp only[go_sem,hO]
 simp only[go_sem,hO]
 repeat refine sq ?_
 refine rx hΓ [6] [[3,0],[4,0],[5,0]] (fun K' hK=>by simp only[go_sem,hO];(repeat (refine⟨ao,?_⟩));exact hK _ (by simp only[go_sem,hO]) (by simp only[go_sem,hO]<;>rfl)) ?_
 refine aA ?_
 simp only[go_sem,hO]
 exact⟨⟨h0,h1,h2⟩,rfl⟩
end
attribute [go_sem] vr
theorem sK(lv:List Int):pG (194,[.ptr [.sl (lv.map vInt)]])=fun n=>lv.contains n:=by
 funext n
 simp only[pG,pX]
set_option maxHeartbeats 8000000 in
theorem N1{sY:Spec}(hY:aM Tryz.prog yid sY){x:Vw}{nb nd:Name}{pa:Int}{lv:List Int}{ia ic:Nat}{I:Nat->List O}(hv:∀ r∈x.rs,dP r=true)(mq:x.rs.length<=60)
 (hI:∀ s,(I s).length=(I 0).length) (hc:∀ s,∀ o∈I s,∀ dom:Name->Bool,(∀ i,dom [i,1]=true)->O.clos dom o=true)
 (ha:aV (I 0) [ia,1]=some (.box [.ref [ic,1] 0])) (hx:aV (I 0) [ic,1]=some (bt x nb nd))
 (cY:∀ s (h:s<x.rs.length),gx pa lv x.rs[s]=false->I (s+1)=I s)
 (mE:∀ s (h:s<x.rs.length),gx pa lv x.rs[s]=true->∀ obj tm,(∀ nm,cT nm=true->obj nm=aV (I s) nm)->sY.app obj tm [.yld [0,1],fY x.rs[s]]=⟨True,.v (.bool true),jH obj (I (s+1))⟩):
 ∃ c',Tryz.f193.body=some c'/\CL Tryz.prog [c'] (bc 33 [0] (aV (I 0)) [(0,⟨true,.yld [0,1]⟩),(1,⟨true,.ref [ia,1] 0⟩),(2,⟨true,.v (.ptr [vInt pa])⟩),(3,⟨true,.v (.ptr [.sl (lv.map vInt)])⟩)] [])
   (fun e σ=>(e=.normal\/e=.ret)/\∀ i,σ.obj [i,1]=aV (I x.rs.length) [i,1]):=by
 refine⟨_,rfl,?_⟩
 obtain⟨Γ,hΓ,eF,eE⟩:∃ Γ:FuncId->Option Spec,(∀ f s,Γ f=some s->aM Tryz.prog f s)/\Γ 160=some S160/\Γ 1000000000=some sY:=by
  refine⟨fun f=>if f=160 then some S160 else if f=1000000000 then some sY else none,fun f s h=>?_,rfl,rfl⟩
  dsimp only at h
  split at h
  ·rename_i e;cases h;subst e;exact B4
  ·split at h
   ·rename_i e;cases h;subst e;exact hY
   ·cases h
 have hO:∀ s hs,b7 [0] (bU [0] hs) (aV (I s))=True:=fun s hs=>eq_true (od (hc s) hs)
 have yg:∀ s,jH (aV (I s)) (I (s+1))=aV (I (s+1)):=fun s=>OF ((hI _).trans (hI s).symm)
 obtain⟨H,hH⟩:∃ H:Nat->Name->Option O,∀ s,aV (I s)=H s:=⟨_,fun _=>rfl⟩
 simp only[hH]at hO yg mE ha hx |-
 simp only[bt]at hx
 have pF:x.rs.length<=maxLen:=by unfold maxLen;omega
 repeat refine sq ?_
 refine rx hΓ [0,2,3,10,11,12] [] (fun K' hK=>by simp only[go_sem,hO,ha,hx];(repeat (refine⟨ao,?_⟩));exact hK _ (by simp only[go_sem,hO,ha,hx]) (by simp only[go_sem,hO,ha,hx]<;>rfl)) ?_
 repeat refine sq ?_
 refine aS ?_
 repeat refine sq ?_
 refine D7 (fun s:Nat=>bc 33 [0] (H s) [(0,⟨true,.yld [0,1]⟩),(2,⟨true,.v (.ptr [vInt pa])⟩),(3,⟨true,.v (.ptr [.sl (lv.map vInt)])⟩),(10,⟨true,.v (.sl (x.rs.map encR))⟩),(11,⟨true,.v (vInt x.rs.length)⟩),(12,⟨true,.v (vInt s)⟩)] [])
  (fun s=>s<=x.rs.length) (fun s=>x.rs.length-s) 0 (Nat.zero_le _) (dN.refl _) ?_
 rintro i hi
 repeat refine sq ?_
 refine rx hΓ [0,2,3,10,11,12,13] [] (fun K' hK=>by simp only[go_sem,hO];(repeat (refine⟨ao,?_⟩));exact hK _ (by simp only[go_sem,hO]) (by simp only[go_sem,hO]<;>rfl)) ?_
 repeat refine sq ?_
 refine aB (fun hb=>?_) fun hb=>?_
 ·have ab:i<x.rs.length:=by simpa using hb
  have aq:(i:Int)<x.rs.length:=by omega
  have Cf:IntKind.i64.wrap ((i:Int)+1)=((i+1:Nat):Int):=bj ab pF
  clear hb
  have hlf:=Gh (hv x.rs[i] (List.getElem_mem ab))
  repeat refine sq ?_
  refine aE ?_
  repeat refine sq ?_
  refine aS ?_
  repeat refine sq ?_
  refine rx hΓ [0,2,3,6,10,11,12] [[6,0]] (fun K' hK=>by simp only[go_sem,hO,ah ab,ai,ak,aq];(repeat (refine⟨ao,?_⟩));exact hK _ (by simp only[go_sem,hO,ah ab,ai,ak,aq]) (by simp only[go_sem,hO,ah ab,ai,ak,aq]<;>rfl)) ?_
  have Kr:(if gx pa lv x.rs[i]=true then H (i+1)else H i)=H (i+1):=by
   split
   ·rfl
   ·rename_i h;rw[<-hH,<-hH,cY i ab (by simpa using h)]
  by_cases th:x.rs[i].pa=pa
  ·have lx:(x.rs[i].pa==pa)=true:=by simp[th]
   cases jy:x.rs[i].lv.any fun n=>lv.contains n with
   |true=>
    have mz:gx pa lv x.rs[i]=true:=by unfold gx;rw[jy];simp[th]
    have yP:=fun (F:Name->Option O) (tm:Name)=>mE i ab mz (fun nm=>if own [0] nm=true then F nm else H i nm) tm fun nm hn=>by
     obtain⟨k,rfl⟩:=vo.1 hn
     simp[sL]
    simp only[fY]at yP
    repeat refine sq ?_
    refine rx hΓ [0,2,3,10,11,12,31] [] (fun K' hK=>by simp only[go_sem,hO,eF,eE,lx,sK,jy,yP,BA,EL,yg,Bool.not_true];(repeat (refine⟨by first | exact ao | exact⟨trivial,.inr (.inr ⟨_,rfl⟩)⟩ | exact .inr (.inr ⟨_,rfl⟩),?_⟩));exact hK _ (by simp only[go_sem,hO,eF,eE,lx,sK,jy,yP,BA,EL,yg,Bool.not_true]) (by simp only[go_sem,hO,eF,eE,lx,sK,jy,yP,BA,EL,yg,Bool.not_true]<;>rfl)) ?_
    repeat refine sq ?_
    refine aB (fun hb=>?_) fun hb=>?_
    ·cases hb
    repeat refine sq ?_
    refine aE ?_
    refine cf ?_
    simp only[go_sem]
    refine ev [0,2,3,10,11,12] [] ?_ ?_
    ·simp only[go_sem,hO]
    simp only[go_sem,hO]
    repeat refine sq ?_
    refine aY hΓ fun K' hK=>?_
    simp only[go_sem]
    repeat (refine⟨ao,?_⟩)
    refine hK _ ?_
    clear K' hK
    simp only[go_sem]
    refine⟨i+1,ab,by omega,?_⟩
    refine bq [0,2,3,10,11,12] [] ?_ ?_<;>simp only[go_sem,hO,Cf,bn]
   |false=>
    have mz:gx pa lv x.rs[i]=false:=by unfold gx;rw[jy];simp
    have Dk:H (i+1)=H i:=by rw[<-hH,<-hH,cY i ab mz]
    repeat refine sq ?_
    refine rx hΓ [0,2,3,10,11,12,31] [] (fun K' hK=>by simp only[go_sem,hO,eF,eE,lx,sK,jy];(repeat (refine⟨by first | exact ao | exact⟨trivial,.inr (.inr ⟨_,rfl⟩)⟩ | exact .inr (.inr ⟨_,rfl⟩),?_⟩));exact hK _ (by simp only[go_sem,hO,eF,eE,lx,sK,jy]) (by simp only[go_sem,hO,eF,eE,lx,sK,jy]<;>rfl)) ?_
    repeat refine sq ?_
    refine aB (fun hb=>?_) fun hb=>?_
    ·cases hb
    repeat refine sq ?_
    refine aE ?_
    refine cf ?_
    simp only[go_sem]
    refine ev [0,2,3,10,11,12] [] ?_ ?_
    ·simp only[go_sem,hO]
    simp only[go_sem,hO]
    repeat refine sq ?_
    refine aY hΓ fun K' hK=>?_
    simp only[go_sem]
    repeat (refine⟨ao,?_⟩)
    refine hK _ ?_
    clear K' hK
    simp only[go_sem]
    refine⟨i+1,ab,by omega,?_⟩
    rw[Dk]
    refine bq [0,2,3,10,11,12] [] ?_ ?_<;>simp only[go_sem,hO,Cf,bn]
  ·have lx:(x.rs[i].pa==pa)=false:=by simp[th]
   have mz:gx pa lv x.rs[i]=false:=by unfold gx;simp[th]
   have Dk:H (i+1)=H i:=by rw[<-hH,<-hH,cY i ab mz]
   repeat refine sq ?_
   refine rx hΓ [0,2,3,10,11,12,31] [] (fun K' hK=>by simp only[go_sem,hO,eF,eE,lx];(repeat (refine⟨ao,?_⟩));exact hK _ (by simp only[go_sem,hO,eF,eE,lx]) (by simp only[go_sem,hO,eF,eE,lx]<;>rfl)) ?_
   repeat refine sq ?_
   refine aB (fun hb=>?_) fun hb=>?_
   ·cases hb
   repeat refine sq ?_
   refine aE ?_
   refine cf ?_
   simp only[go_sem]
   refine ev [0,2,3,10,11,12] [] ?_ ?_
   ·simp only[go_sem,hO]
   simp only[go_sem,hO]
   repeat refine sq ?_
   refine aY hΓ fun K' hK=>?_
   simp only[go_sem]
   repeat (refine⟨ao,?_⟩)
   refine hK _ ?_
   clear K' hK
   simp only[go_sem]
   refine⟨i+1,ab,by omega,?_⟩
   rw[Dk]
   refine bq [0,2,3,10,11,12] [] ?_ ?_<;>simp only[go_sem,hO,Cf,bn]
 ·have bx:i=x.rs.length:=by
    have :¬ (i:Int)<x.rs.length:=by simpa using hb
    omega
  subst bx
  clear hb
  repeat refine sq ?_
  refine bV ?_
  simp only[go_sem]
  refine cf ?_
  simp only[go_sem]
  first | exact .inl trivial | exact⟨by simp,fun k=>by simp[sL]⟩
set_option maxRecDepth 10000
noncomputable section
theorem Ay{α:Type}{p:α->Bool}{l:List α}{s:Nat}(h:s<l.length):((l.take (s+1)).filter p)=(l.take s).filter p++(if p l[s]=true then[l[s]]else[]):=by
 rw[List.take_add_one,List.getElem?_eq_getElem h,List.filter_append]
 simp only[Option.toList_some,List.filter_cons,List.filter_nil]
theorem WZ{α:Type}{p:α->Bool}{l:List α}{s:Nat}{z:α}(h:s<l.length)(hp:p l[s]=true):((l.take s).filter p).length<(l.filter p).length/\(l.filter p).getD ((l.take s).filter p).length z=l[s]:=by
 have e:l.filter p=(l.take s).filter p++(l[s]::(l.drop (s+1)).filter p):=by
  conv=>lhs;rw[<-List.take_append_drop s l,List.filter_append,List.drop_eq_getElem_cons h,List.filter_cons,if_pos hp]
 refine⟨?_,?_⟩
 ·rw[e,List.length_append,List.length_cons];omega
 ·rw[e];simp[List.getD]
def jA(j:Nat)(pa:Int)(lv:List Int)(Ls:List Name):List D:=[.ref (Ls.getD j []) 0,.v (.ptr [vInt pa]),.v (.ptr [.sl (lv.map vInt)])]
theorem FN{r:Lp}(hr:r.Ok)(cY:∀ j,r.st j=none)(hy:aM Tryz.prog yid r.y.toSpec){x:Vw}{nb nd:Name}{pa:Int}{lv:List Int}{j jc:Nat}(hv:∀ q∈x.rs,dP q=true)(mq:x.rs.length<=60)
 (hn:r.n=(dm x.rs pa lv).length) (Uz:∀ s,r.vals s=[fY ((dm x.rs pa lv).getD s zeroR)]) (hj:j<r.m) (ha:aV (r.I 0) [j+1,1]=some (.box [.ref [jc+1,1] 0])) (hx:aV (r.I 0) [jc+1,1]=some (bt x nb nd)):
 aM Tryz.prog 193 (r.itC (jA j pa lv)).toSpec:=by
 have iO:jA j pa lv (LI r.m)=[.ref [j+1,1] 0,.v (.ptr [vInt pa]),.v (.ptr [.sl (lv.map vInt)])]:=by
  unfold jA
  have :(LI r.m).getD j []=[j+1,1]:=by simp[LI,hj]
  rw[this]
 obtain⟨c,hc,h⟩:=N1 hy (x:=x) (nb:=nb) (nd:=nd) (pa:=pa) (lv:=lv) (ia:=j+1) (ic:=jc+1) (I:=fun s=>r.I ((x.rs.take s).filter (gx pa lv)).length) hv mq
  (fun s=>by rw[Lp.I_len hr,Lp.I_len hr]) (fun s=>Lp.I_clos hr _) (by simpa using ha) (by simpa using hx)
  (fun s hs hh=>by rw[Ay hs,hh];simp)
  (fun s hs hh obj tm ho=>by
    obtain⟨h1,h2⟩:=WZ (z:=zeroR) hs hh
    have :=Lp.y_setU hr cY (s:=((x.rs.take s).filter (gx pa lv)).length) (by rw[hn];exact h1) obj tm ho
    rw[Uz]at this
    unfold dm at this
    rw[h2]at this
    rw[this,Ay hs,hh]
    simp)
 refine Lp.itC_sound hr cY Tryz.func193 Tryz.ntmps193 (by rfl) (by kernel_rfl) (by decide) ⟨c,hc,by rw[iO];exact lb rfl,?_⟩
 rw[iO]
 have h0:r.I ((x.rs.take 0).filter (gx pa lv)).length=r.I 0:=by simp
 have h9:r.I ((x.rs.take x.rs.length).filter (gx pa lv)).length=r.I r.n:=by rw[List.take_length,hn];rfl
 simp only[h0,h9]at h
 exact h
theorem Gm{a b:Rec}(h:fY a=fY b):a=b:=by
 obtain⟨a1,a2,a3,al,a4,a5,a6⟩:=a
 obtain⟨b1,b2,b3,bl,b4,b5,b6⟩:=b
 simp only[fY,D.agg.injEq,List.cons.injEq,D.v.injEq,vInt,V.int.injEq,V.sl.injEq,true_and,and_true]at h
 obtain⟨rfl,rfl,rfl,hl,rfl,rfl,rfl⟩:=h
 have :=congrArg (List.map jz) hl
 have e:∀ l:List Int,(l.map fun n=>V.int .i64 n).map jz=l:=fun l=>pX l
 rw[e,e]at this
 rw[this]
theorem E1{l:List Rec}(hn:l.Nodup):∀ s s',s<l.length->s'<l.length->([fY (l.getD s zeroR)]:List D)=[fY (l.getD s' zeroR)]->s=s':=by
 intro s s' h h' e
 have e1:=Gm (List.cons.inj e).1
 rw[bW h,bW h']at e1
 exact(List.getElem_inj hn).1 e1
def ql:Code->Option (Array Tmp×Code×Code)
 | .seq a b=>match ql a with | some x=>some x | none=>ql b
 | .block _ b=>ql b
 | .loop b=>ql b
 | .cond _ a b=>match ql a with | some x=>some x | none=>ql b
 | .rangeFunc _ ps a b=>some (ps,a,b)
 |_=>none
def pg(fn:Func):Array Tmp×Code×Code:=((fn.body.bind ql).getD (#[],.skip,.skip))
theorem kx{Ls:List Name}(h:Ls.length=5):∃ a b c d e,Ls=[a,b,c,d,e]:=by
 match Ls,h with
 |[a,b,c,d,e],_=>exact⟨a,b,c,d,e,rfl⟩
theorem pq{Ls:List Name}(h:Ls.length=7):∃ a b c d e f g,Ls=[a,b,c,d,e,f,g]:=by
 match Ls,h with
 |[a,b,c,d,e,f,g],_=>exact⟨a,b,c,d,e,f,g,rfl⟩
def gT(l:Led)(k i j:Int)(n:Nat)(x:Vw)(r:Rec)(lv:List Int):Lp where
 m:=5
 env:=fun Ls=>(List.range 181).map (dE eAny [(0,⟨true,.v (iW l)⟩),(5,⟨true,.ref (Ls.getD 0 []) 0⟩),(17,⟨true,.v (.ptr [vInt i])⟩),(19,⟨true,.v (.ptr [vInt r.so,vInt r.bo,vInt r.pa,.sl (r.lv.map vInt),vInt r.da,vInt r.kn,vInt r.un])⟩),(141,⟨true,.v (.sl (x.ts.map vInt))⟩),(142,⟨true,.v (vInt n)⟩),(143,⟨true,.v (vInt j)⟩),(166,⟨true,.clo (.func 193) [] (jA 4 r.pa lv Ls)⟩)])
 fam:=fun Ls s=>[.box [.ref (Ls.getD 1 []) 0],bt x (Ls.getD 2 []) (Ls.getD 3 []),.map 2 (bR x.bk),.map 0 (bD (kr x.ds i r.da ((dm x.rs r.pa lv).take s))),.box [.ref (Ls.getD 1 []) 0]]
 ps:=(pg Tryz.f76).1.toList
 asg:=(pg Tryz.f76).2.1
 body:=(pg Tryz.f76).2.2
 n:=(dm x.rs r.pa lv).length
 vals:=fun s=>[fY ((dm x.rs r.pa lv).getD s zeroR)]
 st:=fun _=>none
 fu:=100
theorem Hr(l:Led)(k i j:Int)(n:Nat)(x:Vw)(r:Rec)(lv:List Int)(hn:x.rs.Nodup):(gT l k i j n x r lv).Ok where
 len:=fun Ls s _=>rfl
 renE:=fun f Ls h=>by obtain⟨a,b,c,d,e,rfl⟩:=kx h;rfl
 renF:=fun f Ls s h=>by obtain⟨a,b,c,d,e,rfl⟩:=kx h;rfl
 reach:=fun Ls s obj acc q h bN hd hF=>by
  obtain⟨a,b,c,d,e,rfl⟩:=kx h
  obtain⟨h1,h2,h3,h4,h5,_⟩:=hF
  have en:cS (((gT l k i j n x r lv).env [a,b,c,d,e]).map (·.d))=[a,e]:=rfl
  rw[en]
  show dn obj (q+91+1+1+1+1+1+1+1+1+1) _ acc=_
  simp only[List.mem_cons,List.not_mem_nil,or_false,forall_eq_or_imp,forall_eq]at hd
  obtain⟨d1,d2,d3,d4,d5⟩:=hd
  simp only[List.nodup_cons,List.mem_cons,List.not_mem_nil,or_false,not_or,not_false_eq_true,List.nodup_nil,and_true]at bN
  obtain⟨⟨a1,a2,a3,a4⟩,⟨b1,b2,b3⟩,⟨c1,c2⟩,e1⟩:=bN
  simp[dn,gb,h1,h2,h3,h4,h5,ln,cS,lq,bt,d1,d2,d3,d4,d5,Ne.symm a1,Ne.symm a2,Ne.symm a3,Ne.symm a4,Ne.symm b1,Ne.symm b2,Ne.symm b3,Ne.symm c1,Ne.symm c2,Ne.symm e1]
 closE:=fun dom Ls h hd=>by
  obtain⟨a,b,c,d,e,rfl⟩:=kx h
  have h1:=hd a (by simp)
  have h2:=hd e (by simp)
  simp[gT,List.range,List.range.loop,dE,D.closL,D.clos,eAny,h1,h2,jA]
 closF:=fun dom Ls s h hd o ho=>by
  obtain⟨a,b,c,d,e,rfl⟩:=kx h
  have h1:=hd b (by simp)
  have h2:=hd c (by simp)
  have h3:=hd d (by simp)
  simp only[gT,List.mem_cons,List.not_mem_nil,or_false]at ho
  rcases ho with rfl | rfl | rfl | rfl | rfl<;>simp[O.clos,D.closL,D.clos,bt,h1,h2,h3]
 psz:=fun Ls h=>by rfl
 args:=fun s=>by rfl
 fuel:=(show (100:Nat)<=2000 by decide)
 vnam:=fun _=>rfl
 vcl:=fun _ _=>rfl
 vren:=fun _ _=>rfl
 inj:=E1 (hn.filter _)
def K23:List (Nat×Spec):=[(165,S165)]
theorem aaH:KS K23:=tc B2<|tn
attribute [go_sem] K23
theorem Rf(d:Ds)(i da:Int){os:List Rec}{s:Nat}(h:s<os.length):kr d i da (os.take (s+1))=if os[s].da>da then jK (kr d i da (os.take s)) i ⟨0,os[s].da⟩else kr d i da (os.take s):=by
 unfold kr
 rw[List.take_add_one,List.getElem?_eq_getElem h,List.foldl_append]
 rfl
set_option maxHeartbeats 4000000 in
theorem RW(l:Led)(k i j:Int)(n:Nat)(x:Vw)(r:Rec)(lv:List Int)(hn:x.rs.Nodup):aM Tryz.prog yid (gT l k i j n x r lv).y.toSpec:=by
 refine Lp.y_sound (Hr l k i j n x r lv hn) fun s hs _=>?_
 have hΓ:=aaH
 have gH:s<(dm x.rs r.pa lv).length:=hs
 have C8:(gT l k i j n x r lv).fam (LR 5) s=[.box [.ref [1,1] 0],bt x [2,1] [3,1],.map 2 (bR x.bk),.map 0 (bD (kr x.ds i r.da ((dm x.rs r.pa lv).take s))),.box [.ref [1,1] 0]]:=rfl
 have C7:(gT l k i j n x r lv).fam (LR 5) (s+1)=[.box [.ref [1,1] 0],bt x [2,1] [3,1],.map 2 (bR x.bk),.map 0 (bD (kr x.ds i r.da ((dm x.rs r.pa lv).take (s+1)))),.box [.ref [1,1] 0]]:=rfl
 have cY:(gT l k i j n x r lv).st s=none:=rfl
 have hv:(gT l k i j n x r lv).vals s=[fY ((dm x.rs r.pa lv)[s])]:=by rw[<-bW (z:=zeroR) gH];rfl
 have hm:(gT l k i j n x r lv).m=5:=rfl
 rw[hm,C8,C7,cY,hv,Rf _ _ _ gH]
 generalize (dm x.rs r.pa lv)[s]=o
 generalize kr x.ds i r.da ((dm x.rs r.pa lv).take s)=d
 generalize gX:[O.box [.ref [1,1] 0],bt x [2,1] [3,1],.map 2 (bR x.bk),.map 0 (bD d),.box [.ref [1,1] 0]]=os
 have hO:∀ hs,b7 [0] (bU [0] hs) (aV os)=True:=by
  subst gX
  refine fun hs=>eq_true (od ?_ hs)
  intro o ho dom hd
  simp only[List.mem_cons,List.not_mem_nil,or_false]at ho
  rcases ho with rfl | rfl | rfl | rfl | rfl<;>simp[O.clos,D.closL,D.clos,bt,hd]
 have ae:∀ hs es,b7 [0] (bU [0] hs) (fun nm=>if nm=[3,1]then some (.map 0 es)else aV os nm)=True:=fun hs es=>eq_true (r9 (nm:=[3,1]) (o:=.map 0 es) rfl (by rw[hO];trivial))
 have h0:aV os [0,1]=some (.box [.ref [1,1] 0]):=by subst gX;rfl
 have h1:aV os [1,1]=some (bt x [2,1] [3,1]):=by subst gX;rfl
 have h2:aV os [2,1]=some (.map 2 (bR x.bk)):=by subst gX;rfl
 have h3:aV os [3,1]=some (.map 0 (bD d)):=by subst gX;rfl
 have h4:aV os [4,1]=some (.box [.ref [1,1] 0]):=by subst gX;rfl
 generalize hH:aV os=H at *
 clear gX hH
 simp only[bt]at h1 |-
 have mq:pg Tryz.f76=(_,_,_):=rfl
 refine tQ (Am 181 [0] H [(5,⟨true,.ref [0,1] 0⟩),(17,⟨true,.v (.ptr [vInt i])⟩),(19,⟨true,.v (.ptr [vInt r.so,vInt r.bo,vInt r.pa,.sl (r.lv.map vInt),vInt r.da,vInt r.kn,vInt r.un])⟩),(167,⟨true,fY o⟩)] [] rfl rfl (fun _ _=>rfl) ?_ (by simp) ?_ ?_) ?_
 ·intro q hq
  simp only[List.mem_cons,List.not_mem_nil,or_false]at hq
  rcases hq with rfl | rfl | rfl | rfl<;>rfl
 ·simp[D.clos,D.closL,bU,own,fY]
 ·rw[hO];trivial
 simp only[gT,mq]
 refine iY ?_
 repeat refine sq ?_
 refine aY hΓ fun K' hK=>?_
 simp only[go_sem,hO,ae,h0,h1,h2,h3,h4]
 repeat (refine⟨ao,?_⟩)
 refine hK _ ?_
 clear K' hK
 simp only[go_sem]
 (show CW _ _ _ _)
 refine iY ?_
 repeat refine sq ?_
 refine aS ?_
 repeat refine sq ?_
 refine rx hΓ [5,17,19,21,172] [[5,0],[17,0],[19,0],[21,0],[23,0],[24,0],[26,0],[49,0],[124,0]] (fun K' hK=>by simp only[go_sem,hO,ae,h0,h1,h2,h3,h4];(repeat (refine⟨ao,?_⟩));exact hK _ (by simp only[go_sem,hO,ae,h0,h1,h2,h3,h4]) (by simp only[go_sem,hO,ae,h0,h1,h2,h3,h4]<;>rfl)) ?_
 repeat refine sq ?_
 refine aB (fun hb=>?_) fun hb=>?_
 ·repeat refine sq ?_
  refine aY hΓ fun K' hK=>?_
  simp only[go_sem,hO,ae,h0,h1,h2,h3,h4]
  repeat (refine⟨ao,?_⟩)
  refine hK _ ?_
  clear K' hK
  simp only[go_sem]
  refine cf ?_
  have cP:o.da>r.da:=by simpa using hb
  rw[if_pos cP]
  refine⟨rfl,?_⟩
  show cK _ [[0,1],[1,1],[2,1],[3,1],[4,1]] _
  simp only[cK,go_sem,h0,h1,h2,h3,h4,DR]
  simp[Bv,jK]
 ·repeat refine sq ?_
  refine aE ?_
  refine cf ?_
  simp only[go_sem]
  have cP:¬ o.da>r.da:=by simpa using hb
  rw[if_neg cP]
  refine⟨rfl,?_⟩
  show cK _ [[0,1],[1,1],[2,1],[3,1],[4,1]] _
  simp only[cK,go_sem,h0,h1,h2,h3,h4,DR]
end
noncomputable section
def fB:Option Rec->List D
 |some r=>rM r
 |none=>[.v (vInt 0),.v (vInt 0),.v (vInt 0),.nilsl,.v (vInt 0),.v (vInt 0),.v (vInt 0)]
def lJ(rs:List Rec)(pa le day:Int)(s:Nat):Option Rec:=((dm rs pa [le]).take s).foldl (oT day) none
theorem Yp{rs:List Rec}{pa le day:Int}{s:Nat}(h:s<(dm rs pa [le]).length):lJ rs pa le day (s+1)=oT day (lJ rs pa le day s) (dm rs pa [le])[s]:=by
 unfold lJ
 rw[List.take_add_one,List.getElem?_eq_getElem h,List.foldl_append]
 rfl
theorem Yq(rs:List Rec)(pa le day:Int):lJ rs pa le day (dm rs pa [le]).length=ey rs pa le day:=by
 unfold lJ ey
 rw[List.take_length]
def gN(x:Vw)(pa le day:Int):Lp where
 m:=7
 env:=fun Ls=>(List.range 37).map (dE eAny [(5,⟨true,.v (.ptr [vInt day])⟩),(6,⟨true,.ref (Ls.getD 0 []) 0⟩),(8,⟨true,.ref (Ls.getD 1 []) 0⟩),(9,⟨true,.ref (Ls.getD 2 []) 0⟩),(17,⟨true,.clo (.func 193) [] (jA 3 pa [le] Ls)⟩)])
 fam:=fun Ls s=>[.box (fB none),.box (fB (lJ x.rs pa le day s)),.box [.v (.bool (lJ x.rs pa le day s).isSome)],.box [.ref (Ls.getD 4 []) 0],bt x (Ls.getD 5 []) (Ls.getD 6 []),.map 2 (bR x.bk),.map 0 (bD x.ds)]
 ps:=(pg Tryz.f119).1.toList
 asg:=(pg Tryz.f119).2.1
 body:=(pg Tryz.f119).2.2
 n:=(dm x.rs pa [le]).length
 vals:=fun s=>[fY ((dm x.rs pa [le]).getD s zeroR)]
 st:=fun _=>none
 fu:=100
theorem X6(f:Name->Name)(o:Option Rec):D.renL f (fB o)=fB o:=by cases o<;>rfl
theorem Mg(o:Option Rec):cS (fB o)=[]:=by cases o<;>rfl
theorem zx(p:Name->Bool)(o:Option Rec):D.closL p (fB o)=true:=by cases o<;>rfl
theorem Er(x:Vw)(pa le day:Int)(hn:x.rs.Nodup):(gN x pa le day).Ok where
 len:=fun Ls s _=>rfl
 renE:=fun f Ls h=>by obtain⟨a,b,c,d,e,f,g,rfl⟩:=pq h;rfl
 renF:=fun f Ls s h=>by
  obtain⟨a,b,c,d,e,f,g,rfl⟩:=pq h
  simp only[gN,List.map_cons,List.map_nil,O.ren,X6,D.renL,D.ren,bt,List.getD_cons_succ,List.getD_cons_zero]
 reach:=fun Ls s obj acc q h bN hd hF=>by
  obtain⟨a,b,c,d,e,f,g,rfl⟩:=pq h
  obtain⟨h1,h2,h3,h4,h5,h6,h7,_⟩:=hF
  have en:cS (((gN x pa le day).env [a,b,c,d,e,f,g]).map (·.d))=[a,b,c,d]:=rfl
  rw[en]
  show dn obj (q+91+1+1+1+1+1+1+1+1+1) _ acc=_
  simp only[List.mem_cons,List.not_mem_nil,or_false,forall_eq_or_imp,forall_eq]at hd
  obtain⟨d1,d2,d3,d4,d5,d6,d7⟩:=hd
  simp only[List.nodup_cons,List.mem_cons,List.not_mem_nil,or_false,not_or,not_false_eq_true,List.nodup_nil,and_true]at bN
  obtain⟨⟨a1,a2,a3,a4,a5,a6⟩,⟨b1,b2,b3,b4,b5⟩,⟨c1,c2,c3,c4⟩,⟨e1,e2,e3⟩,⟨f1,f2⟩,g1⟩:=bN
  simp[dn,gb,h1,h2,h3,h4,h5,h6,h7,ln,cS,lq,bt,Mg,d1,d2,d3,d4,d5,d6,d7,Ne.symm a1,Ne.symm a2,Ne.symm a3,Ne.symm a4,Ne.symm a5,Ne.symm a6,Ne.symm b1,Ne.symm b2,Ne.symm b3,Ne.symm b4,Ne.symm b5,Ne.symm c1,Ne.symm c2,Ne.symm c3,Ne.symm c4,Ne.symm e1,Ne.symm e2,Ne.symm e3,Ne.symm f1,Ne.symm f2,Ne.symm g1]
 closE:=fun dom Ls h hd=>by
  obtain⟨a,b,c,d,e,f,g,rfl⟩:=pq h
  have h1:=hd a (by simp)
  have h2:=hd b (by simp)
  have h3:=hd c (by simp)
  have h4:=hd d (by simp)
  simp[gN,List.range,List.range.loop,dE,D.closL,D.clos,eAny,h1,h2,h3,h4,jA]
 closF:=fun dom Ls s h hd o ho=>by
  obtain⟨a,b,c,d,e,f,g,rfl⟩:=pq h
  have h1:=hd e (by simp)
  have h2:=hd f (by simp)
  have h3:=hd g (by simp)
  simp only[gN,List.mem_cons,List.not_mem_nil,or_false]at ho
  rcases ho with rfl | rfl | rfl | rfl | rfl | rfl | rfl<;>simp[O.clos,D.closL,D.clos,bt,zx,h1,h2,h3]
 psz:=fun Ls h=>by rfl
 args:=fun s=>by rfl
 fuel:=(show (100:Nat)<=2000 by decide)
 vnam:=fun _=>rfl
 vcl:=fun _ _=>rfl
 vren:=fun _ _=>rfl
 inj:=E1 (hn.filter _)
theorem Yt(x:Vw)(pa le day:Int):Ai (gN x pa le day) (jA 3 pa [le]) where
 ren:=fun f Ls h=>by obtain⟨a,b,c,d,e,f,g,rfl⟩:=pq h;rfl
 clo:=fun dom Ls h hd=>by
  obtain⟨a,b,c,d,e,f,g,rfl⟩:=pq h
  have h4:=hd d (by simp)
  simp[D.closL,D.clos,h4,jA]
 reach:=fun Ls s obj R q h bN hF h0=>by
  obtain⟨a,b,c,d,e,f,g,rfl⟩:=pq h
  obtain⟨h1,h2,h3,h4,h5,h6,h7,_⟩:=hF
  have en:cS (((gN x pa le day).env [a,b,c,d,e,f,g]).map (·.d))=[a,b,c,d]:=rfl
  have ec:cS (jA 3 pa [le] [a,b,c,d,e,f,g])=[d]:=rfl
  rw[ec]
  show dn obj (q+90+1+1+1+1+1+1+1+1+1+1+1) _ []=_
  simp only[List.nodup_cons,List.mem_cons,List.not_mem_nil,or_false,not_or,not_false_eq_true,List.nodup_nil,and_true]at bN
  obtain⟨⟨r1,r2,r3,r4,r5,r6,r7⟩,⟨a1,a2,a3,a4,a5,a6⟩,⟨b1,b2,b3,b4,b5⟩,⟨c1,c2,c3,c4⟩,⟨e1,e2,e3⟩,⟨f1,f2⟩,g1⟩:=bN
  simp[dn,gb,h0,h1,h2,h3,h4,h5,h6,h7,Lp.rc,ln,en,cS,lq,bt,Mg,Ne.symm r1,Ne.symm r2,Ne.symm r3,Ne.symm r4,Ne.symm r5,Ne.symm r6,Ne.symm r7,Ne.symm a1,Ne.symm a2,Ne.symm a3,Ne.symm a4,Ne.symm a5,Ne.symm a6,Ne.symm b1,Ne.symm b2,Ne.symm b3,Ne.symm b4,Ne.symm b5,Ne.symm c1,Ne.symm c2,Ne.symm c3,Ne.symm c4,Ne.symm e1,Ne.symm e2,Ne.symm e3,Ne.symm f1,Ne.symm f2,Ne.symm g1]
theorem Yr(day:Int)(o:Option Rec)(r:Rec):oT day o r=if decide (r.da<=day)&&(!o.isSome||decide (r.da>=(o.getD zeroR).da))then some r else o:=by
 unfold oT
 cases o<;>rfl
theorem Ys(x:Vw)(pa le day:Int)(hn:x.rs.Nodup):aM Tryz.prog yid (gN x pa le day).y.toSpec:=by
 refine Lp.y_sound (Er x pa le day hn) fun s hs _=>?_
 have hΓ:=@fj Tryz.prog
 have gH:s<(dm x.rs pa [le]).length:=hs
 have C8:(gN x pa le day).fam (LR 7) s=[.box (fB none),.box (fB (lJ x.rs pa le day s)),.box [.v (.bool (lJ x.rs pa le day s).isSome)],.box [.ref [4,1] 0],bt x [5,1] [6,1],.map 2 (bR x.bk),.map 0 (bD x.ds)]:=rfl
 have C7:(gN x pa le day).fam (LR 7) (s+1)=[.box (fB none),.box (fB (lJ x.rs pa le day (s+1))),.box [.v (.bool (lJ x.rs pa le day (s+1)).isSome)],.box [.ref [4,1] 0],bt x [5,1] [6,1],.map 2 (bR x.bk),.map 0 (bD x.ds)]:=rfl
 have cY:(gN x pa le day).st s=none:=rfl
 have hv:(gN x pa le day).vals s=[fY ((dm x.rs pa [le])[s])]:=by rw[<-bW (z:=zeroR) gH];rfl
 have hm:(gN x pa le day).m=7:=rfl
 rw[hm,C8,C7,cY,hv,Yp gH,Yr]
 generalize (dm x.rs pa [le])[s]=r
 generalize lJ x.rs pa le day s=o
 obtain⟨c3,e0,e1⟩:∃ c3,(c3=.nilsl\/∃ l,c3=.v (.sl l))/\fB o=[.v (vInt (o.getD zeroR).so),.v (vInt (o.getD zeroR).bo),.v (vInt (o.getD zeroR).pa),c3,.v (vInt (o.getD zeroR).da),.v (vInt (o.getD zeroR).kn),.v (vInt (o.getD zeroR).un)]:=by
  cases o with
  |none=>exact⟨_,.inl rfl,rfl⟩
  |some q=>exact⟨_,.inr ⟨_,rfl⟩,rfl⟩
 have e2:∀ p,D.clos p c3=true:=fun p=>by rcases e0 with rfl | ⟨l,rfl⟩<;>rfl
 generalize gX:[O.box (fB none),.box (fB o),.box [.v (.bool o.isSome)],.box [.ref [4,1] 0],bt x [5,1] [6,1],.map 2 (bR x.bk),.map 0 (bD x.ds)]=os
 have hO:∀ hs,b7 [0] (bU [0] hs) (aV os)=True:=by
  subst gX
  refine fun hs=>eq_true (od ?_ hs)
  intro o ho dom hd
  simp only[List.mem_cons,List.not_mem_nil,or_false]at ho
  rcases ho with rfl | rfl | rfl | rfl | rfl | rfl | rfl<;>simp[O.clos,D.closL,D.clos,bt,hd,zx]
 have ae:∀ hs cs b,(∀ p,D.closL p cs=true)->b7 [0] (bU [0] hs) (fun nm=>if nm=[2,1]then some (.box [.v (.bool b)])else if nm=[1,1]then some (.box cs)else aV os nm)=True:=fun hs cs b iO=>
  eq_true (r9 (nm:=[2,1]) (o:=.box [.v (.bool b)]) rfl (r9 (nm:=[1,1]) (o:=.box cs) (by simp[O.clos,iO]) (by rw[hO];trivial)))
 have h0:aV os [0,1]=some (.box (fB none)):=by subst gX;rfl
 have h1:aV os [1,1]=some (.box (fB o)):=by subst gX;rfl
 have h2:aV os [2,1]=some (.box [.v (.bool o.isSome)]):=by subst gX;rfl
 have h3:aV os [3,1]=some (.box [.ref [4,1] 0]):=by subst gX;rfl
 have h4:aV os [4,1]=some (bt x [5,1] [6,1]):=by subst gX;rfl
 have h5:aV os [5,1]=some (.map 2 (bR x.bk)):=by subst gX;rfl
 have h6:aV os [6,1]=some (.map 0 (bD x.ds)):=by subst gX;rfl
 generalize hH:aV os=H at *
 clear gX hH
 rw[e1]at h1
 have mq:pg Tryz.f119=(_,_,_):=rfl
 refine tQ (Am 37 [0] H [(5,⟨true,.v (.ptr [vInt day])⟩),(8,⟨true,.ref [1,1] 0⟩),(9,⟨true,.ref [2,1] 0⟩),(18,⟨true,fY r⟩)] [] rfl rfl (fun _ _=>rfl) ?_ (by simp) ?_ ?_) ?_
 ·intro q hq
  simp only[List.mem_cons,List.not_mem_nil,or_false]at hq
  rcases hq with rfl | rfl | rfl | rfl<;>rfl
 ·simp[D.clos,D.closL,bU,own,fY]
 ·rw[hO];trivial
 simp only[gN,mq]
 refine iY ?_
 repeat refine sq ?_
 refine aY hΓ fun K' hK=>?_
 simp only[go_sem,hO,h0,h1,h2,h3,h4,e2]
 repeat (refine⟨ao,?_⟩)
 refine hK _ ?_
 clear K' hK
 simp only[go_sem]
 (show CW _ _ _ _)
 refine iY ?_
 repeat refine sq ?_
 refine aS ?_
 repeat refine sq ?_
 refine rx hΓ [5,8,9,10,33] [[5,0],[8,0],[9,0],[10,0]] (fun K' hK=>by simp only[go_sem,hO,h0,h1,h2,h3,h4,e2];(repeat (refine⟨ao,?_⟩));exact hK _ (by simp only[go_sem,hO,h0,h1,h2,h3,h4,e2]) (by simp only[go_sem,hO,h0,h1,h2,h3,h4,e2]<;>rfl)) ?_
 repeat refine sq ?_
 refine aB (fun hb=>?_) fun hb=>?_
 ·repeat refine sq ?_
  refine aY hΓ fun K' hK=>?_
  simp only[go_sem,hO,h0,h1,h2,h3,h4,e2]
  repeat (refine⟨ao,?_⟩)
  refine hK _ ?_
  clear K' hK
  simp only[go_sem]
  refine cf ?_
  rw[if_pos (by rw[<-Bool.and_eq_true];exact hb)]
  refine⟨rfl,?_⟩
  show cK _ [[0,1],[1,1],[2,1],[3,1],[4,1],[5,1],[6,1]] _
  simp only[cK,go_sem,h0,h1,h2,h3,h4,h5,h6]
  simp[fB,rM]
 ·repeat refine sq ?_
  refine aE ?_
  refine cf ?_
  simp only[go_sem]
  rw[if_neg (by rw[<-Bool.and_eq_true,hb];decide)]
  refine⟨rfl,?_⟩
  show cK _ [[0,1],[1,1],[2,1],[3,1],[4,1],[5,1],[6,1]] _
  simp only[cK,go_sem,h0,h1,h2,h3,h4,h5,h6,e1]
  first | done | exact⟨trivial,trivial⟩
def GX(p:Name)(H:Name->Option O):List Name->List O->Prop
 |x::xs,o::os=>(own p x=true\/H x=some o)/\GX p H xs os
 |_,_=>True
theorem FG{p:Name}{H:Name->Option O}{nm:Name}(hn:own p nm=false):∀ {Ls:List Name} {F:List O} {obj:Name->Option O},GX p H Ls F->obj nm=H nm->dO Ls F obj nm=H nm
 |[],_,_,_,h=>by simpa[dO]using h
 |x::xs,[],_,_,h=>by simpa[dO]using h
 |x::xs,o::os,obj,hk,h=>by
  simp only[dO]
  refine FG hn hk.2 ?_
  by_cases e:nm=x
  ·subst e
   rw[aQ]
   rcases hk.1 with h1 | h1
   ·rw[hn]at h1;cases h1
   ·exact h1.symm
  ·rw[aZ _ _ _ e];exact h
def K24:List (Nat×Spec):=[(164,S164)]
theorem aaG:KS K24:=tc B3<|tn
attribute [go_sem] K24
def Nb:VSpec:=v2 kD iI (fun x _ _=>mP x/\x.rs.Nodup) (fun x f day=>.tup [l6 (ey x.rs f.pa f.le day),.v (.bool (ey x.rs f.pa f.le day).isSome)]) none
def S119:Spec:=Nb.toSpec
attribute [go_sem] Nb S119
set_option maxHeartbeats 8000000 in
theorem B5:aM Tryz.prog 119 S119:=by
 refine wP (rs:=[.cell 6 36,.tmp 7]) Tryz.func119 Tryz.ntmps119 (by rfl) (by kernel_rfl) (by decide) (fun _ _ _=>by first | rfl | exact lg _ _ | simp[D.clos,D.closL,lg]) ⟨_,rfl,lb rfl,fun x f day hp H h0 h1 h2 hO ae=>?_⟩
 have hP:=fL
 simp only[kD,iI,oQ,bt,cW,List.map_cons,List.map_nil,Nat.zero_add,Option.map_some,Option.map_none]at h0 |-
 have hΓ:=aaG
 obtain⟨hv,bN⟩:=hp
 obtain⟨pa,le⟩:=f
 repeat refine sq ?_
 refine rx hΓ [0,4,5,6] [[4,0],[5,0],[6,0]] (fun K' hK=>by simp only[go_sem,hO,ae,h0,h1,h2];(repeat (refine⟨ao,?_⟩));exact hK _ (by simp only[go_sem,hO,ae,h0,h1,h2]) (by simp only[go_sem,hO,ae,h0,h1,h2]<;>rfl)) ?_
 refine bZ (dt 4 (.ref [4,0] 0) (by simp only[go_sem]) (by simp only[go_sem]) [0,4,5,6] [[4,0],[5,0],[6,0]] ?_ rfl) ?_
 ·simp only[go_sem,hO,ae,h0,h1,h2]
 simp only[go_sem,hO,ae,h0,h1,h2]
 repeat refine sq ?_
 refine rx hΓ [0,4,5,6,8] [[4,0],[5,0],[6,0],[8,0]] (fun K' hK=>by simp only[go_sem,hO,ae,h0,h1,h2];(repeat (refine⟨ao,?_⟩));exact hK _ (by simp only[go_sem,hO,ae,h0,h1,h2]) (by simp only[go_sem,hO,ae,h0,h1,h2]<;>rfl)) ?_
 repeat refine sq ?_
 refine rx hΓ [0,4,5,6,8,9] [[4,0],[5,0],[6,0],[8,0],[9,0]] (fun K' hK=>by simp only[go_sem,hO,ae,h0,h1,h2];(repeat (refine⟨ao,?_⟩));exact hK _ (by simp only[go_sem,hO,ae,h0,h1,h2]) (by simp only[go_sem,hO,ae,h0,h1,h2]<;>rfl)) ?_
 repeat refine sq ?_
 refine rx hΓ [5,6,8,9,17] [[5,0],[6,0],[8,0],[9,0],[3,0,17,0]] (fun K' hK=>by simp only[go_sem,hO,ae,h0,h1,h2];(repeat (refine⟨ao,?_⟩));exact hK _ (by simp only[go_sem,hO,ae,h0,h1,h2]) (by simp only[go_sem,hO,ae,h0,h1,h2]<;>rfl)) ?_
 refine bZ (dt 5 (.ref [5,0] 0) (by simp only[go_sem]) (by simp only[go_sem]) [5,6,8,9,17] [[5,0],[6,0],[8,0],[9,0],[3,0,17,0]] ?_ rfl) ?_
 ·simp only[go_sem,hO,ae,h0,h1,h2]
 simp only[go_sem,hO,ae,h0,h1,h2]
 repeat refine sq ?_
 refine aS ?_
 repeat refine sq ?_
 have gh:aM Tryz.prog 193 ((gN x pa le day).itC (jA 3 pa [le])).toSpec:=FN (Er x pa le day bN) (fun _=>rfl) (Ys x pa le day bN) hv.rs hv.rn rfl (fun _=>rfl) (j:=3) (jc:=4) (show 3<7 by decide) rfl rfl
 refine Me (Er x pa le day bN) (Yt x pa le day) (f:=193) 30 31 (Ls:=[[6,0],[8,0],[9,0],[3,0,17,0],[0,1],[1,1],[2,1]]) rfl rfl (by decide) gh rfl rfl rfl rfl rfl rfl (by decide) (show ([30,0]:Name)∉[[6,0],[8,0],[9,0],[3,0,17,0],[0,1],[1,1],[2,1]]by decide) ⟨rfl,rfl,rfl,rfl,h0,h1,h2,trivial⟩ fun o=>?_
 obtain⟨g1,g2⟩:=Lp.go_e (r:=gN x pa le day) (fun _=>rfl)
 have g3:(gN x pa le day).fam [[6,0],[8,0],[9,0],[3,0,17,0],[0,1],[1,1],[2,1]] (gN x pa le day).e=[.box (fB none),.box (fB (ey x.rs pa le day)),.box [.v (.bool (ey x.rs pa le day).isSome)],.box [.ref [0,1] 0],bt x [1,1] [2,1],.map 2 (bR x.bk),.map 0 (bD x.ds)]:=by
  rw[g1,<-Yq];rfl
 rw[g2,g3]
 simp only[xq,jb]
 refine cf ?_
 show CL Tryz.prog (_::_) _ _
 obtain⟨cs,iO,cC⟩:∃ cs,cs=fB (ey x.rs pa le day)/\∀ p,D.closL p cs=true:=⟨_,rfl,fun p=>zx p _⟩
 refine bZ (dN.toM (Am 37 [0] H [(6,⟨true,.ref [6,0] 0⟩),(8,⟨true,.ref [8,0] 0⟩),(9,⟨true,.ref [9,0] 0⟩)] [([6,0],.box (fB none)),([8,0],.box (fB (ey x.rs pa le day))),([9,0],.box [.v (.bool (ey x.rs pa le day).isSome)])] rfl rfl (fun nm hn=>?_) ?_ ?_ ?_ (by rw[hO];trivial))) ?_
 ·have e1:nm≠[30,0]:=by rintro rfl;cases hn
  show upd _ [30,0] _ nm=_
  rw[aZ _ _ _ e1]
  exact FG hn ⟨.inl rfl,.inl rfl,.inl rfl,.inl rfl,.inr h0,.inr h1,.inr h2,trivial⟩ (by simp[bc,hn])
 ·intro q hq
  simp only[List.mem_cons,List.not_mem_nil,or_false]at hq
  rcases hq with rfl | rfl | rfl<;>rfl
 ·intro q hq
  simp only[List.mem_cons,List.not_mem_nil,or_false]at hq
  rcases hq with rfl | rfl | rfl<;>rfl
 ·simp[O.clos,D.closL,D.clos,zx,bU]
 clear iO cC
 generalize ey x.rs pa le day=o
 rcases o with _ | r
 ·simp only[fB,rM,Option.isSome]
  repeat refine sq ?_
  refine dx hΓ hP [[],[],[0],[0,1,2]] [6,7] [[6,0]] (by kernel_rfl) (fun K' hK=>by simp only[go_sem,hO,h0,h1,h2];(repeat (refine⟨ao,?_⟩));(first | refine⟨by rfl,?_⟩ | skip);exact hK _ (by simp only[go_sem,hO,h0,h1,h2]) (by simp only[go_sem,hO,h0,h1,h2]<;>rfl)) ?_
  refine aA ?_
  simp only[go_sem,hO,h0,h1,h2]
  rfl
 ·simp only[fB,rM,Option.isSome]
  repeat refine sq ?_
  refine dx hΓ hP [[],[],[0],[0,1,2]] [6,7] [[6,0]] (by kernel_rfl) (fun K' hK=>by simp only[go_sem,hO,h0,h1,h2];(repeat (refine⟨ao,?_⟩));(first | refine⟨by rfl,?_⟩ | skip);exact hK _ (by simp only[go_sem,hO,h0,h1,h2]) (by simp only[go_sem,hO,h0,h1,h2]<;>rfl)) ?_
  refine aA ?_
  simp only[go_sem,hO,h0,h1,h2]
  rfl
end
set_option maxHeartbeats 8000000
noncomputable section
theorem X1{P:Program}{Γ:FuncId->Option Spec}(hΓ:∀ f s,Γ f=some s->aM P f s){id:Nat}{l:List Oper}{c:Code}{r:List Code}{σ:S}{K:Exit->S->Prop}(ks:List Nat)(ns:List Name)
 (h:∀ K':S->Prop,(∀ σ',gM ks ns σ'->CL P (c::r) (gV ks ns σ') K->K' σ')->lU P Γ l.toArray l σ K'):CL P (.region id l.toArray false::c::r) σ K:=
 L3 hΓ (h _ fun σ' hc hy=>DX ks ns hc hy)
theorem Ga{P:Program}{Γ:FuncId->Option Spec}{ops:Array Oper}{o:Oper}{r:List Oper}{σ:S}{K:S->Prop}(h1:ko P Γ ops σ o)(h2:lU P Γ ops r (bg P Γ ops σ o) K):lU P Γ ops (o::r) σ K:=.step h1 h2
def fq{α:Type}(p:α->Bool)(l:List α):List α:=l.filter fun d=>!p d
def kP{α:Type}(enc:α->V)(z:V)(p:α->Bool)(l:List α):List V:=(fq p l).map enc++List.replicate (l.length-(fq p l).length) z
def NG:Ret:=⟨0,0,0,[],0,0,0,0⟩
def mR:Sig:=⟨0,0,0,0,0,0,0⟩
def K25:List (Nat×Spec):=[(162,S162)]
theorem aaF:KS K25:=tc Jm<|tn
attribute [go_sem] K25
@[go_sem] def P186:PSpec:=p2 iS oB (fun _ _=>True) (fun s k=>.bool (!bY s.kn s.un k)) true
@[go_sem] def Zb:Spec:=P186.toSpec
theorem PB:aW Tryz.prog 186 P186:=by
 refine ez (rs:=[.tmp 3]) Tryz.func186 Tryz.ntmps186 fun s k hp hw=>?_
 simp only[oB,iS,encS]at hw |-
 have hΓ:=aaF
 repeat refine sq ?_
 refine rx hΓ [1,2] [[2,0]] (fun K' hK=>by simp only[go_sem];exact an) ?_
 repeat refine sq ?_
 refine rx hΓ [3] [] (fun K' hK=>by simp only[go_sem];exact an) ?_
 refine aA ?_
 simp only[go_sem]
 all_goals exact dJ
def GH(g:Nat×Int)(x:Rec):Bool:=x.so==g.2
def GG(g:Nat×Int)(x:Ret):Bool:=x.so==g.2
def ek(g:Nat×Int)(x:Sig):Bool:=if g.1=186 then !bY x.kn x.un g.2 else x.so==g.2
def Q3(g:Nat×Int):Prop:=g.1=88
def Q2(g:Nat×Int):Prop:=g.1=90
def oe(g:Nat×Int):Prop:=g.1=92\/g.1=186
def ZF:List (Nat×Spec):=[]
attribute [go_sem] ZF
def ZD:List (Nat×Spec):=[]
attribute [go_sem] ZD
def KDS:List (Nat×Spec):=[(92,YW),(186,Zb)]
theorem ZE:KS KDS:=tc O9.sound<|tc PB.sound<|tn
attribute [go_sem] KDS
abbrev TYR:=Rec
abbrev TYT:=Ret
abbrev wA:=Sig
def Xd(obj:Name->Option O)(_:Name):List D->R
 |[.msl nm k,.clo (.func g) [] [.v (.ptr [.int .i64 q])]]=>match obj nm with
  |some (.arr 7 L)=>⟨k=L.length/\L.length<1000000/\(L.map j6).map encR=L/\Q3 (g,q),.v (.sl ((fq (GH (g,q)) (L.map j6)).map encR)),upd obj nm (some (.farr 7 (kP encR (encR zeroR) (GH (g,q)) (L.map j6))))⟩
  |_=>.bad obj
 |_=>.bad obj
attribute [go_sem] Xd
def Xc(obj:Name->Option O)(_:Name):List D->R
 |[.msl nm k,.clo (.func g) [] [.v (.ptr [.int .i64 q])]]=>match obj nm with
  |some (.arr 8 L)=>⟨k=L.length/\L.length<1000000/\(L.map lG).map dB=L/\Q2 (g,q),.v (.sl ((fq (GG (g,q)) (L.map lG)).map dB)),upd obj nm (some (.farr 8 (kP dB (dB NG) (GG (g,q)) (L.map lG))))⟩
  |_=>.bad obj
 |_=>.bad obj
attribute [go_sem] Xc
def EN:FuncId->Option Spec:=tbl KDS
theorem Nw:∀ f s,EN f=some s->aM Tryz.prog f s:=ZE
theorem G0{g:Nat×Int}(h:oe g):∃ s,EN g.1=some s/\(¬ g.1=1000000000)/\(∀ obj t (x:wA),s.app obj t [.v (encS x),.v (.ptr [vInt g.2])]=⟨True,.v (.bool (ek g x)),obj⟩)/\
 ∀ obj t (x:wA),s.app obj t [.agg ((encS x).cells.map .v),.v (.ptr [vInt g.2])]=⟨True,.v (.bool (ek g x)),obj⟩:=by
 obtain⟨g,k⟩:=g
 rcases h with rfl | rfl
 all_goals exact⟨_,rfl,(by simp),fun obj t x=>by simp only[go_sem,ek];try rfl,fun obj t x=>by simp only[go_sem,ek,encS];try rfl⟩
theorem Ev:(#[29]:Array Nat).getD 0 0=29:=rfl
theorem NH:((be Tryz.prog 81).bind fun z=>dS (iA z))=some (encS mR):=by rw[N6];rfl
theorem D3{obj:Name->Option O}{nm:Name}{k i:Nat}{L:List V}(h:obj nm=some (.arr 7 L))(hk:k=L.length)(hi:i<L.length):
 kV Tryz.prog obj 29 29 (.msl nm k) (.v (vInt i))=⟨True,.any,upd obj nm (some (.arr 7 (L.take i++List.replicate (L.length-i) (encS mR))))⟩:=by
 unfold kV
 simp only[Fj,h,NH,ai]
 congr 1
 simp only[eq_iff_iff,iff_true]
 exact⟨hk,by omega,hi,trivial,rfl,rfl,trivial,by decide⟩
theorem OD:aW Tryz.prog 181 (p2 (fE iS) pB (fun _ g=>oe g) (fun l g=>vInt (dp (ek g) l)) true):=by
 refine ez (rs:=[.tmp 4]) Tryz.func181 Tryz.ntmps181 fun l g hp hw=>?_
 simp only[pB,iS,fE]at hw |-
 have hΓ:=Nw
 have hl:l.length<=maxLen:=by have:=hw.1.1;simpa using this
 obtain⟨s_,hs,hy,ha,_⟩:=G0 hp
 simp only[encS]at ha
 repeat refine sq ?_
 refine rx hΓ [0,1] [] (fun K' hK=>by simp only[go_sem];exact an) ?_
 repeat refine sq ?_
 refine rx hΓ [0,1,7,8] [] (fun K' hK=>by simp only[go_sem];exact an) ?_
 repeat refine sq ?_
 refine aS ?_
 repeat refine sq ?_
 refine cv (fun s:Nat=>[(8,⟨true,.v (vInt s)⟩)]) (fun s=>[]) (fun s=>s<=l.length/\∀ k (h:k<l.length),k<s->ek g l[k]=false) (fun s=>l.length-s) 0 ?_ ?_ ?_ ?_
 ·exact⟨Nat.zero_le _,by simp⟩
 ·rfl
 ·rfl
 rintro i ⟨hi,hR⟩
 simp only[go_sem]
 repeat refine sq ?_
 refine rx hΓ [0,1,7,8,9] [] (fun K' hK=>by simp only[go_sem];exact an) ?_
 repeat refine sq ?_
 refine aB (fun hb=>?_) fun hb=>?_
 ·have ab:i<l.length:=by simpa using hb
  have aq:(i:Int)<l.length:=by omega
  clear hb
  repeat refine sq ?_
  refine aE ?_
  repeat refine sq ?_
  refine aS ?_
  repeat refine sq ?_
  refine rx hΓ [0,1,5,7,8] [] (fun K' hK=>by simp only[go_sem,ah ab,ai,ak,aq];exact an) ?_
  repeat refine sq ?_
  refine rx hΓ [0,1,5,7,8,16] [] (fun K' hK=>by simp only[go_sem,ah ab,ai,ak,aq,hs,hy,ha];exact an) ?_
  repeat refine sq ?_
  refine aB (fun hb=>?_) fun hb=>?_
  ·repeat refine sq ?_
   refine rx hΓ [4] [] (fun K' hK=>by simp only[go_sem,ah ab,ai,ak,aq];exact an) ?_
   refine aA ?_
   simp only[go_sem]
   rw[nj (p:=ek g) ab (by simpa using hb) hR]
  ·repeat refine sq ?_
   refine aE ?_
   refine cf ?_
   simp only[go_sem]
   refine kp [0,1,7,8] [] ?_
   repeat refine sq ?_
   refine aY hΓ fun K' hK=>?_
   simp only[go_sem,ah ab,ai,ak,aq]
   repeat (refine⟨ao,?_⟩)
   refine hK _ ?_
   clear K' hK
   simp only[go_sem]
   refine⟨i+1,⟨ab,?_⟩,by(show l.length-(i+1)<l.length-i;omega),?_⟩
   ·intro k hk eo
    rcases Nat.lt_succ_iff_lt_or_eq.1 eo with h5 | rfl
    ·exact hR k hk h5
    ·simpa using hb
   refine bq [0,1,7,8] [] ?_ ?_<;>simp only[go_sem,bj ab hl,bn]
 ·have bx:i=l.length:=by
   have :¬ (i:Int)<l.length:=by simpa using hb
   omega
  clear hb
  subst bx
  repeat refine sq ?_
  refine bV ?_
  simp only[go_sem]
  refine kp [] [] ?_
  repeat refine sq ?_
  refine rx hΓ [4] [] (fun K' hK=>by simp only[go_sem];exact an) ?_
  refine aA ?_
  simp only[go_sem]
  rw[s6 (p:=ek g) fun k hk=>hR k hk hk]
set_option maxRecDepth 10000 in
theorem N0{g:Nat×Int}(aa:oe g){H:Name->Option O}{l:List wA}(hl:l.length<1000000)(pQ:H [0,1]=some (.arr 7 (l.map encS)))(dA:∀ hs,b7 [0] (bU [0] hs) H=True)(ae:∀ hs sz L,b7 [0] (bU [0] hs) (upd H [0,1] (some (.arr sz L)))=True)(bd:∀ hs sz L,b7 [0] (bU [0] hs) (upd H [0,1] (some (.farr sz L)))=True):
 ∃ c,Tryz.f91.body=some c/\CL Tryz.prog [c] (bc 42 [0] H [(0,⟨true,.msl [0,1] l.length⟩),(1,⟨true,.clo (.func g.1) [] [.v (.ptr [vInt g.2])]⟩)] []) (fun e σ=>(e=.normal\/e=.ret)/\(σ.env 4).c=true/\
   (σ.env 4).d=.v (.sl ((fq (ek g) l).map encS))/\σ.obj [0,1]=some (.farr 7 (kP encS (encS mR) (ek g) l))):=by
 obtain⟨sG,hs,hg,_,hp⟩:=G0 aa
 obtain⟨Γ,sI,hΓ,hs,hI,hi⟩:∃ (Γ:FuncId->Option Spec) (sI:Spec),(∀ f s,Γ f=some s->aM Tryz.prog f s)/\Γ g.1=some sG/\Γ 181=some sI/\
  ∀ (obj:Name->Option O) (t:Name),obj [0,1]=some (.arr 7 (l.map encS))->sI.app obj t [.msl [0,1] l.length,.clo (.func g.1) [] [.v (.ptr [vInt g.2])]]=⟨True,.v (vInt (dp (ek g) l)),obj⟩:=by
  refine⟨fun f=>if f=181 then some (p2 (fE iS) pB (fun _ g=>oe g) (fun l g=>vInt (dp (ek g) l)) true).toSpec else EN f,_,fun f s h=>?_,?_,rfl,fun obj t e=>?_⟩
  ·dsimp only at h
   split at h
   ·rename_i e;cases h;subst e;exact OD.sound
   ·exact Nw _ _ h
  ·dsimp only
   rw[if_neg (by intro e;have h':=aa;unfold oe at h';simp[e]at h')];exact hs
  ·have eK:oe (g.1,g.2):=aa
   simp only[go_sem,e,eK,List.length_map,DQ]
 generalize tw:kP encS (encS mR) (ek g) l=XX
 generalize hpg:ek g=p at *
 simp only[encS,V.cells,List.map_cons,List.map_nil]at hp
 refine⟨_,rfl,?_⟩
 have hm:l.length<=maxLen:=by unfold maxLen;omega
 repeat refine sq ?_
 refine rx hΓ [0,1] [] (fun K' hK=>by simp only[go_sem,dA];(repeat (refine⟨ao,?_⟩));exact hK _ (by simp only[go_sem,dA]) (by simp only[go_sem,dA]<;>rfl)) ?_
 repeat refine sq ?_
 refine rx hΓ [0,1,5] [] (fun K' hK=>by simp only[go_sem,dA,hI,hi,pQ,implies_true];(repeat (refine⟨ao,?_⟩));exact hK _ (by simp only[go_sem,dA,hI,hi,pQ,implies_true]) (by simp only[go_sem,dA,hI,hi,pQ,implies_true]<;>rfl)) ?_
 repeat refine sq ?_
 refine rx hΓ [0,1,5,12] [] (fun K' hK=>by simp only[go_sem,dA];(repeat (refine⟨ao,?_⟩));exact hK _ (by simp only[go_sem,dA]) (by simp only[go_sem,dA]<;>rfl)) ?_
 repeat refine sq ?_
 refine aB (fun hb=>?_) fun hb=>?_
 ·repeat refine sq ?_
  refine rx hΓ [4] [] (fun K' hK=>by simp only[go_sem,dA];(repeat (refine⟨ao,?_⟩));exact hK _ (by simp only[go_sem,dA]) (by simp only[go_sem,dA]<;>rfl)) ?_
  refine bZ (dt 4 (.msl [0,1] l.length) (by simp only[go_sem]) (by simp only[go_sem,pQ,List.length_map]) [4] [] ?_ rfl) ?_
  ·simp only[go_sem,pQ,bd]
  simp only[go_sem,pQ]
  refine aA ?_
  simp only[go_sem,pQ]
  have cP:dp p l= -1:=by simpa using hb
  have dY:∀ d∈l,p d=false:=by
   unfold dp at cP
   split at cP
   ·omega
   ·rename_i hn
    intro d hd
    cases lx:p d with
    |false=>rfl
    |true=>exact(hn (List.any_eq_true.2 ⟨d,hd,lx⟩)).elim
  have hk:fq p l=l:=List.filter_eq_self.2 fun d hd=>by rw[dY d hd];rfl
  have yJ:XX=l.map encS:=by rw[<-tw];unfold kP;rw[hk];simp
  rw[hk,yJ]
  exact⟨.inr trivial,rfl,rfl⟩
 have hf:l.findIdx p<l.length:=by
  have cP:¬ dp p l= -1:=by simpa using hb
  unfold dp at cP
  split at cP
  ·rename_i jy
   exact List.findIdx_lt_length_of_exists (by obtain⟨y,hy,hp⟩:=List.any_eq_true.1 jy;exact⟨y,hy,hp⟩)
  ·exact(cP rfl).elim
 have mB:dp p l=(l.findIdx p:Int):=by unfold dp;rw[if_pos (List.any_eq_true.2 ⟨_,List.getElem_mem hf,List.findIdx_getElem (w:=hf)⟩)]
 rw[mB]
 clear hb mB hi hI
 have UU:p (l[l.findIdx p])=true:=List.findIdx_getElem (w:=hf)
 have J5:∀ j (h:j<l.length),j<l.findIdx p->p l[j]=false:=fun j h hj=>by simpa using List.not_of_lt_findIdx hj
 generalize l.findIdx p=f at *
 repeat refine sq ?_
 refine aE ?_
 repeat refine sq ?_
 refine rx hΓ [0,1,5,6] [] (fun K' hK=>by simp only[go_sem,dA,bj hf hm,bn];(repeat (refine⟨ao,?_⟩));exact hK _ (by simp only[go_sem,dA,bj hf hm,bn]) (by simp only[go_sem,dA,bj hf hm,bn]<;>rfl)) ?_
 repeat refine sq ?_
 refine aS ?_
 repeat refine sq ?_
 refine Md (fun x:Nat×Nat×List wA=>upd H [0,1] (some (.arr 7 (x.2.2.map encS)))) (fun x=>[(5,⟨true,.v (vInt x.1)⟩),(6,⟨true,.v (vInt x.2.1)⟩)]) (fun x=>[]) (fun x=>x.1<x.2.1/\x.2.1<=l.length/\x.2.2.length=l.length/\x.2.2.take x.1=fq p (l.take x.2.1)/\x.2.2.drop x.2.1=l.drop x.2.1) (fun x=>l.length-x.2.1) (f,f+1,l) ?_ ?_ ?_ ?_ ?_
 ·refine⟨(show f<f+1 by omega),hf,rfl,?_,rfl⟩
  show l.take f=fq p (l.take (f+1))
  unfold fq
  rw[List.take_add_one,List.getElem?_eq_getElem hf,List.filter_append]
  simp only[Option.toList_some,List.filter_cons,UU,Bool.not_true,Bool.false_eq_true,if_false,List.filter_nil,List.append_nil]
  rw[List.filter_eq_self.2]
  intro d hd
  obtain⟨j,hj,rfl⟩:=List.getElem_of_mem hd
  have er:j<f:=by simp at hj;omega
  rw[List.getElem_take,J5 j (by omega) er]
  rfl
 ·congr 1
  rw[<-pQ]
  funext x
  by_cases e:x=[0,1]
  ·subst e;rw[aQ]
  ·rw[aZ _ _ _ e]
 ·rfl
 ·rfl
 clear J5
 rintro⟨i,j,A⟩ ⟨cb,hj,hA,hT,hD⟩
 simp only at cb hj hA hT hD
 dsimp only
 generalize fR:upd H [0,1] (some (O.arr 7 (List.map encS A)))=H'
 have h0:H' [0,1]=some (.arr 7 (A.map encS)):=by rw[<-fR,aQ]
 have vX:∀ i,H' [i+1,1]=H [i+1,1]:=fun i=>by rw[<-fR,aZ _ _ _ (by simp)]
 have iV:∀ hs,b7 [0] (bU [0] hs) H'=True:=fun hs=>by rw[<-fR];exact ae _ _ _
 have kK:∀ hs sz L,b7 [0] (bU [0] hs) (upd H' [0,1] (some (.arr sz L)))=True:=fun hs sz L=>by rw[<-fR,uo];exact ae _ _ _
 have Wn:∀ hs sz L,b7 [0] (bU [0] hs) (upd H' [0,1] (some (.farr sz L)))=True:=fun hs sz L=>by rw[<-fR,uo];exact bd _ _ _
 simp only[go_sem]
 repeat refine sq ?_
 refine rx hΓ [0,1,5,6,19] [] (fun K' hK=>by simp only[go_sem,iV,kK,h0];(repeat (refine⟨ao,?_⟩));exact hK _ (by simp only[go_sem,iV,kK,h0]) (by simp only[go_sem,iV,kK,h0]<;>rfl)) ?_
 repeat refine sq ?_
 refine aB (fun hb=>?_) fun hb=>?_
 ·have ab:j<l.length:=by simpa using hb
  have CX:j<A.length:=by omega
  have vN:i<A.length:=by omega
  have Vm:(i:Int)<l.length:=by omega
  have aq:(j:Int)<l.length:=by omega
  have Dr:A[j]=l[j]:=by
   have h1:A[j]=(A.drop j)[0]'(by simp;omega):=by simp
   rw[h1]
   simp only[hD]
   simp
  clear hb
  repeat refine sq ?_
  refine aE ?_
  repeat refine sq ?_
  refine aS ?_
  repeat refine sq ?_
  refine rx hΓ [0,1,5,6,7] [[7,0]] (fun K' hK=>by simp only[go_sem,iV,kK,h0,ah CX,ai,ak,aq,hA,Dr];(repeat (refine⟨ao,?_⟩));exact hK _ (by simp only[go_sem,iV,kK,h0,ah CX,ai,ak,aq,hA,Dr]) (by simp only[go_sem,iV,kK,h0,ah CX,ai,ak,aq,hA,Dr]<;>rfl)) ?_
  repeat refine sq ?_
  refine rx hΓ [0,1,5,6,7,29] [[7,0]] (fun K' hK=>by simp only[go_sem,iV,kK,h0,hg,hs,hp];(repeat (refine⟨ao,?_⟩));exact hK _ (by simp only[go_sem,iV,kK,h0,hg,hs,hp]) (by simp only[go_sem,iV,kK,h0,hg,hs,hp]<;>rfl)) ?_
  repeat refine sq ?_
  refine aB (fun hb=>?_) fun hb=>?_
  ·have JX:p l[j]=false:=by simpa using hb
   clear hb
   repeat refine sq ?_
   refine zu hΓ [0,1,5,6] [] fun K' hK=>?_
   simp only[go_sem,iV,kK,h0,ai,ak,Vm,hA]
   repeat' apply And.intro
   all_goals first | rfl | omega | exact Int.le_refl _ | exact Bool.or_not_self _ | exact Bool.not_or_self _ | exact DI _ | exact DJ _ | exact fun x hx=>(DI _ x hx).1 | exact fun x hx=>(DJ _ x hx).1 | (simp only[List.length_take,List.length_append,List.length_map,List.length_drop,List.length_cons,List.length_nil];done) | (simp only[List.length_take,List.length_append,List.length_map,List.length_drop,List.length_cons,List.length_nil];omega) | (simp only[List.length_take,List.length_append,List.length_map,List.length_drop,List.length_cons,List.length_nil,maxLen];omega) | (exact fun _=>by decide) | (exact fun h=>⟨h,by decide⟩) | (simp only[decide_eq_true_eq];omega) | skip
   refine hK _ ?_ ?_
   ·simp only[go_sem,iV,kK]
   clear K' hK
   simp only[go_sem]
   obtain⟨H2,Dm⟩:∃ H2,upd H' [0,1] (some (O.arr 7 ((List.map encS A).set i (encS l[j]))))=H2:=⟨_,rfl⟩
   have KO:=Dm
   simp only[encS]at KO
   rw[KO]
   have Dh:∀ hs,b7 [0] (bU [0] hs) H2=True:=fun hs=>by rw[<-Dm];exact kK _ _ _
   repeat refine sq ?_
   refine aY hΓ fun K' hK=>?_
   simp only[go_sem]
   repeat (refine⟨ao,?_⟩)
   refine hK _ ?_
   clear K' hK
   simp only[go_sem]
   refine ev [0,1,5,6] [] ?_ ?_
   ·simp only[go_sem,Dh]
   simp only[go_sem,Dh]
   repeat refine sq ?_
   refine aY hΓ fun K' hK=>?_
   simp only[go_sem]
   repeat (refine⟨ao,?_⟩)
   refine hK _ ?_
   clear K' hK
   simp only[go_sem]
   refine⟨(i+1,j+1,A.set i l[j]),⟨(show i+1<j+1 by omega),ab,by simpa using hA,?_,?_⟩,(show l.length-(j+1)<l.length-j by omega),?_⟩
   ·show (A.set i l[j]).take (i+1)=fq p (l.take (j+1))
    unfold fq at hT |-
    rw[List.take_add_one (l:=l),List.getElem?_eq_getElem ab,List.filter_append,<-hT]
    simp only[Option.toList_some,List.filter_cons,JX,Bool.not_false,if_true,List.filter_nil]
    rw[List.take_add_one,List.take_set_of_le (Nat.le_refl i),List.getElem?_set_self vN]
    rfl
   ·show (A.set i l[j]).drop (j+1)=l.drop (j+1)
    rw[List.drop_set_of_lt (show i<j+1 by omega)]
    have :=congrArg (List.drop 1) hD
    simpa[List.drop_drop]using this
   ·refine bq [0,1,5,6] [] ?_ ?_
    ·simp only[go_sem,Dh]
    ·simp only[go_sem,bj ab hm,bj (show i<l.length by omega) hm,bn]
     rw[<-Dm,<-fR,uo,List.map_set]
     try rfl
  ·have US:p l[j]=true:=by simpa using hb
   clear hb
   repeat refine sq ?_
   refine aE ?_
   refine cf ?_
   simp only[go_sem]
   refine ev [0,1,5,6] [] ?_ ?_
   ·simp only[go_sem,iV]
   simp only[go_sem,iV]
   repeat refine sq ?_
   refine aY hΓ fun K' hK=>?_
   simp only[go_sem]
   repeat (refine⟨ao,?_⟩)
   refine hK _ ?_
   clear K' hK
   simp only[go_sem]
   refine⟨(i,j+1,A),⟨(show i<j+1 by omega),ab,hA,?_,?_⟩,(show l.length-(j+1)<l.length-j by omega),?_⟩
   ·show A.take i=fq p (l.take (j+1))
    unfold fq at hT |-
    rw[List.take_add_one (l:=l),List.getElem?_eq_getElem ab,List.filter_append,<-hT]
    simp only[Option.toList_some,List.filter_cons,US,Bool.not_true,Bool.false_eq_true,if_false,List.filter_nil,List.append_nil]
   ·show A.drop (j+1)=l.drop (j+1)
    have :=congrArg (List.drop 1) hD
    simpa[List.drop_drop]using this
   ·refine bq [0,1,5,6] [] ?_ ?_
    ·simp only[go_sem,iV]
    ·simp only[go_sem,bj ab hm,bn]
     rw[<-fR]
 ·have bx:j=l.length:=by
    have :¬ (j:Int)<l.length:=by simpa using hb
    omega
  subst bx
  clear hb
  rw[List.take_length]at hT
  have vN:i<A.length:=by omega
  repeat refine sq ?_
  refine bV ?_
  simp only[go_sem]
  refine ev [0,5] [] ?_ ?_
  ·simp only[go_sem,iV]
  simp only[go_sem,iV]
  repeat refine sq ?_
  refine X1 hΓ [0,5] [] fun K' hK=>?_
  refine Ga ?_ (Ga ?_ (.cut (T:=29) (x:=.tmp 36) (lo:=.tmp 37) (c:=38) rfl rfl ?_ ?_ ?_ ?_ (.nil ?_)))
  ·simp only[go_sem]
  ·simp only[go_sem]
  ·simp only[go_sem]
  ·simp only[go_sem]
  ·simp only[go_sem]
  ·have VU:=fun (obj:Name->Option O) (h:obj [0,1]=_)=>D3 (obj:=obj) (nm:=[0,1]) (k:=l.length) (i:=i) (L:=A.map encS) h (by simpa using hA.symm) (by simpa using vN)
   simp only[go_sem,mJ,Ev,VU,h0]
  ·refine hK _ ?_ ?_
   ·simp only[go_sem,pY,mJ,Ev,D3 (obj:=fun nm=>if own [0] nm=true then none else H' nm) (nm:=[0,1]) (k:=l.length) (i:=i) (L:=A.map encS) h0 (by simpa using hA.symm) (by simpa using vN),kK]
   clear K' hK
   simp only[go_sem,pY,mJ,Ev,D3 (obj:=fun nm=>if own [0] nm=true then none else H' nm) (nm:=[0,1]) (k:=l.length) (i:=i) (L:=A.map encS) h0 (by simpa using hA.symm) (by simpa using vN)]
   have eo:(fq p l).length=i:=by rw[<-hT,List.length_take];omega
   have Df:(List.take i (List.map encS A)++List.replicate (A.length-i) (encS mR))=XX:=by
    rw[<-tw]
    unfold kP
    rw[eo,<-hT,List.map_take,hA]
   have hZ1:XX.length=l.length:=by rw[<-tw];unfold kP;simp;omega
   have Wh:XX.take i=(fq p l).map encS:=by
    rw[<-tw]
    unfold kP
    rw[List.take_append_of_le_length (by simp;omega),List.take_of_length_le (by simp;omega)]
   have Wg:∀ x∈XX,x.cells.length=7:=by
    intro x hx
    rw[<-tw]at hx
    rcases List.mem_append.1 hx with h | h
    ·obtain⟨y,_,rfl⟩:=List.mem_map.1 h;rfl
    ·rw[(List.mem_replicate.1 h).2];rfl
   simp only[encS]at Df
   rw[Df]
   clear Df
   clear tw
   generalize XX=Z at *
   simp only[V.cells]at Wg
   generalize Dl:upd H' [0,1] (some (O.arr 7 Z))=H3
   have KR:H3 [0,1]=some (.arr 7 Z):=by rw[<-Dl,aQ]
   have hI3:∀ i,H3 [i+1,1]=H [i+1,1]:=fun i=>by rw[<-Dl,aZ _ _ _ (by simp)];exact vX i
   have Wm:∀ hs sz L,b7 [0] (bU [0] hs) (upd H3 [0,1] (some (.farr sz L)))=True:=fun hs sz L=>by rw[<-Dl,uo];exact Wn _ _ _
   have Vj:(i:Int)<=l.length:=by omega
   repeat refine sq ?_
   refine zu hΓ [4] [] fun K' hK=>?_
   simp only[go_sem,KR,Fj,ai,ak,Vj]
   repeat' apply And.intro
   all_goals first | rfl | omega | exact Int.le_refl _ | exact Bool.or_not_self _ | exact Bool.not_or_self _ | exact DI _ | exact DJ _ | exact fun x hx=>(DI _ x hx).1 | exact fun x hx=>(DJ _ x hx).1 | (simp only[List.length_take,List.length_append,List.length_map,List.length_drop,List.length_cons,List.length_nil];done) | (simp only[List.length_take,List.length_append,List.length_map,List.length_drop,List.length_cons,List.length_nil];omega) | (simp only[List.length_take,List.length_append,List.length_map,List.length_drop,List.length_cons,List.length_nil,maxLen];omega) | (exact fun _=>by decide) | (exact fun h=>⟨h,by decide⟩) | (simp only[decide_eq_true_eq];omega) | skip
   refine hK _ ?_ ?_
   ·simp only[go_sem,Wm]
   clear K' hK
   simp only[go_sem]
   refine aA ?_
   simp only[go_sem,Wh]
   exact .inr trivial
def delCS:CSpec where
 pre:=fun os ds=>∃ (l:List wA) (g:Nat×Int),os=[.arr 7 (l.map encS)]/\ds=[.msl [0,1] l.length,.clo (.func g.1) [] [.v (.ptr [vInt g.2])]]/\l.length<1000000/\oe g
 out:=fun os ds=>match os,ds with
  |[.arr _ L],[_,.clo (.func g) _ [.v (.ptr [.int _ k])]]=>⟨[(0,.farr 7 (kP encS (encS mR) (ek (g,k)) (L.map iX)))],[],.v (.sl ((fq (ek (g,k)) (L.map iX)).map encS))⟩
  |_,_=>⟨[],[],.any⟩
def rI(obj:Name->Option O)(_:Name):List D->R
 |[.msl nm k,.clo (.func g) [] [.v (.ptr [.int .i64 q])]]=>match obj nm with
  |some (.arr 7 L)=>⟨k=L.length/\L.length<1000000/\(L.map iX).map encS=L/\oe (g,q),.v (.sl ((fq (ek (g,q)) (L.map iX)).map encS)),upd obj nm (some (.farr 7 (kP encS (encS mR) (ek (g,q)) (L.map iX))))⟩
  |_=>.bad obj
 |_=>.bad obj
def zf(_:Name->Option O)(_:Name):List D->List Name
 | .msl nm _::_=>[nm]
 |_=>[]
def S91:Spec:=⟨rI,zf,zf⟩
attribute [go_sem] S91 rI
theorem Xb:S91.Near:=by
 refine uZ fun obj obj2 t ds ha=>⟨rfl,?_⟩
 have gf:∀ wr,bG wr obj obj2->bO (R.bad obj) (R.bad obj2) obj obj2 wr:=fun wr h=>.none wr h
 unfold rI
 split
 ·rename_i nm k g q
  have h1:obj2 nm=obj nm:=ha nm (by simp[zf])
  simp only[h1]
  split
  ·exact .one (by simp[zf]) ha
  ·exact gf _ ha
 ·exact gf _ ha
theorem TP:aM Tryz.prog 91 delCS.toSpec:=by
 refine nI (nt:=42) (rs:=[.tmp 4]) Tryz.func91 rfl (by rfl) (by kernel_rfl) (ib Tryz.func91 rfl (by kernel_rfl)) (me _ (by decide)) ?_
 rintro os ds ⟨l,g,rfl,rfl,hl,aa⟩
 refine⟨lb rfl,?_⟩
 have iK:delCS.out [.arr 7 (l.map encS)] [.msl [0,1] l.length,.clo (.func g.1) [] [.v (.ptr [vInt g.2])]]=⟨[(0,.farr 7 (kP encS (encS mR) (ek g) l))],[],.v (.sl ((fq (ek g) l).map encS))⟩:=by
  simp only[delCS,tL]
 rw[iK]
 have dA:∀ hs,b7 [0] (bU [0] hs) (aV [.arr 7 (l.map encS)])=True:=fun hs=>eq_true (od (by
  intro o ho dom hd
  simp only[List.mem_singleton]at ho
  subst ho
  rfl) hs)
 obtain⟨c,hc,h⟩:=N0 aa (H:=aV [.arr 7 (l.map encS)]) hl rfl dA (fun hs sz L=>eq_true (r9 rfl (by rw[dA];trivial))) (fun hs sz L=>eq_true (r9 rfl (by rw[dA];trivial)))
 have V4:∀ c2,Tryz.f91.body=some c2->c2=c:=fun c2 h2=>by rw[h2]at hc;exact Option.some.inj hc
 rw[<-V4 _ rfl]at h
 refine CW.mono (iY h) ?_
 rintro e σ ⟨he,h1,h2,h3⟩
 have fin:(bL Tryz.prog σ [.tmp 4]).ok/\(bL Tryz.prog σ [.tmp 4]).d=.v (.sl ((fq (ek g) l).map encS))/\fT [.arr 7 (l.map encS)] ⟨[(0,.farr 7 (kP encS (encS mR) (ek g) l))],[],.v (.sl ((fq (ek g) l).map encS))⟩ σ:=
  ⟨h1,h2,⟨h3,trivial⟩,trivial,rfl⟩
 rcases he with rfl | rfl
 ·exact fin
 ·exact fin
theorem TQ:aM Tryz.prog 91 S91:=by
 refine uB TP Xb (me _ (by decide)) fun obj t ds aa=>?_
 change (rI obj t ds).ok at aa
 refine⟨ds,rfl,fun _ _ _ _ h=>h,?_⟩
 show _/\_=(rI obj t ds).d/\_=(rI obj t ds).obj
 unfold rI at aa |-
 split at aa
 ·rename_i nm k g q
  split at aa
  ·rename_i L ho
   obtain⟨rfl,hl,he,hg⟩:=aa
   have hr:reach obj [.msl nm L.length,.clo (.func g) [] [.v (.ptr [.int .i64 q])]]=[nm]:=by
    unfold reach
    show dn obj (2998+1+1) [nm] []=[nm]
    simp only[dn,cM,List.any_nil,Bool.false_eq_true,if_false,ho,ln,List.nil_append]
   have i0:idx [nm] nm=0:=by simp[idx]
   have e1:cp obj [.msl nm L.length,.clo (.func g) [] [.v (.ptr [.int .i64 q])]]=[.arr 7 L]:=by
    unfold cp
    rw[hr]
    simp only[List.map_cons,List.map_nil,cw,ho,O.ren]
   have e2:cQ obj [.msl nm L.length,.clo (.func g) [] [.v (.ptr [.int .i64 q])]]=[.msl [0,1] L.length,.clo (.func g) [] [.v (.ptr [.int .i64 q])]]:=by
    unfold cQ
    rw[hr]
    simp only[D.renL,D.ren,cin,i0]
   have e3:(shut obj [nm]&&D.closL (cM [nm]) [.msl nm L.length,.clo (.func g) [] [.v (.ptr [.int .i64 q])]]&&fresh obj t [])=true:=by
    simp[shut,ho,O.clos,D.closL,D.clos,cM,fresh]
   have dI:delCS.pre [.arr 7 L] [.msl [0,1] L.length,.clo (.func g) [] [.v (.ptr [.int .i64 q])]]:=⟨L.map iX,(g,q),by rw[he],by rw[List.length_map],by rw[List.length_map];exact hl,hg⟩
   have iK:delCS.out [.arr 7 L] [.msl [0,1] L.length,.clo (.func g) [] [.v (.ptr [.int .i64 q])]]=⟨[(0,.farr 7 (kP encS (encS mR) (ek (g,q)) (L.map iX)))],[],.v (.sl ((fq (ek (g,q)) (L.map iX)).map encS))⟩:=rfl
   simp only[CSpec.toSpec,e1,e2,hr,iK,e3,dI,ho,and_self,di]
   exact⟨trivial,rfl,rfl⟩
  ·exact aa.elim
 ·exact aa.elim
end
set_option maxHeartbeats 8000000
noncomputable section
theorem B0(l:List Sig)(k:Int):fq (ek (186,k)) l=l.filter fun s=>bY s.kn s.un k:=by
 unfold fq ek
 simp
theorem Bh(k:Int):oe (186,k):=.inr rfl
def K26:List (Nat×Spec):=[(132,S132),(91,S91)]
theorem aaE:KS K26:=tc TZ<|tc TQ<|tn
attribute [go_sem] K26
def M':VSpec:=v1 iI (fun x _=>x.l.ss.length<=60) (fun x k=>.v (.sl ((fD x.l k).map encS))) none
def S122:Spec:=M'.toSpec
attribute [go_sem] M' S122
theorem Jp:aM Tryz.prog 122 S122:=by
 refine wQ (rs:=[.tmp 4]) Tryz.func122 Tryz.ntmps122 (by rfl) (by kernel_rfl) (by decide) (fun _ _=>by first | rfl | simp[D.clos,D.closL,lg]) ⟨_,rfl,lb rfl,fun x k hp H h0 h1 h2 hO ae=>?_⟩
 simp only[iI,bt,cW,List.map_cons,List.map_nil,Nat.zero_add,Option.map_some,Option.map_none]at h0 |-
 have hΓ:=aaE
 repeat refine sq ?_
 refine rx hΓ [0,3] [[3,0]] (fun K' hK=>by simp only[go_sem,hO,ae,h0,h1,h2];(repeat (refine⟨ao,?_⟩));exact hK _ (by simp only[go_sem,hO,ae,h0,h1,h2]) (by simp only[go_sem,hO,ae,h0,h1,h2]<;>rfl)) ?_
 refine bZ (dt 3 (.ref [3,0] 0) (by simp only[go_sem]) (by simp only[go_sem]) [0,3] [[3,0]] ?_ rfl) ?_
 ·simp only[go_sem,hO,ae,h0,h1,h2]
 simp only[go_sem,hO,ae,h0,h1,h2]
 repeat refine sq ?_
 refine rx hΓ [4] [] (fun K' hK=>by simp only[go_sem,hO,ae,h0,h1,h2,tL,B0,Bh,List.length_map];(repeat (refine⟨ao,?_⟩));exact hK _ (by simp only[go_sem,hO,ae,h0,h1,h2,tL,B0,Bh,List.length_map]) (by simp only[go_sem,hO,ae,h0,h1,h2,tL,B0,Bh,List.length_map]<;>rfl)) ?_
 refine aA ?_
 simp only[go_sem,hO,ae,h0,h1,h2]
 all_goals exact dJ
def Gl(r:Rg):D:=.agg [.v (vInt r.lo),.v (vInt r.hi)]
attribute [go_sem] Gl
def K26b:List (Nat×Spec):=[(119,S119)]
theorem aaD:KS K26b:=tc B5<|tn
attribute [go_sem] K26b
def AL(s:Sig):Prop:=0<=s.da/\s.da<=100000
theorem bh:l6 none=.agg [.v (vInt 0),.v (vInt 0),.v (vInt 0),.nilsl,.v (vInt 0),.v (vInt 0),.v (vInt 0)]:=rfl
theorem aF(r:Rec):l6 (some r)=fY r:=rfl
def M6:VSpec:=v1 iS (fun x s=>(mP x/\x.rs.Nodup)/\AL s) (fun x s=>.tup [.v (vInt (bw x s).1),Gl (bw x s).2]) none
def S187:Spec:=M6.toSpec
attribute [go_sem] M6 S187
theorem TW:aM Tryz.prog 187 S187:=by
 refine wQ (rs:=[.tmp 4,.cell 5 38]) Tryz.func187 Tryz.ntmps187 (by rfl) (by kernel_rfl) (by decide) (fun _ _=>by first | rfl | exact ad1 _ _ | simp[D.clos,D.closL,lg]) ⟨_,rfl,lb rfl,fun x s hp H h0 h1 h2 hO ae=>?_⟩
 have hP:=fL
 simp only[iS,encS,bt,cW,List.map_cons,List.map_nil,Nat.zero_add,Option.map_some,Option.map_none]at h0 |-
 have hΓ:=aaD
 obtain⟨hv,hd⟩:=hp
 have gv:=wL hd
 repeat refine sq ?_
 refine rx hΓ [0,3,5] [[3,0],[5,0]] (fun K' hK=>by simp only[go_sem,hO,ae,h0,h1,h2];(repeat (refine⟨ao,?_⟩));exact hK _ (by simp only[go_sem,hO,ae,h0,h1,h2]) (by simp only[go_sem,hO,ae,h0,h1,h2]<;>rfl)) ?_
 repeat refine sq ?_
 refine rx hΓ [0,3,5,6,7] [[3,0],[5,0],[6,0],[7,0]] (fun K' hK=>by simp only[go_sem,hO,ae,h0,h1,h2];(repeat (refine⟨ao,?_⟩));exact hK _ (by simp only[go_sem,hO,ae,h0,h1,h2]) (by simp only[go_sem,hO,ae,h0,h1,h2]<;>rfl)) ?_
 rcases au:ey x.rs s.pa s.le s.da with _ | r
 ·repeat refine sq ?_
  refine rx hΓ [0,3,5,6,7,8,9] [[3,0],[5,0],[6,0],[7,0],[8,0]] (fun K' hK=>by simp only[go_sem,hO,ae,h0,h1,h2,au,bh,Option.isSome_none,aw];(repeat (refine⟨ao,?_⟩));exact hK _ (by simp only[go_sem,hO,ae,h0,h1,h2,au,bh,Option.isSome_none,aw]) (by simp only[go_sem,hO,ae,h0,h1,h2,au,bh,Option.isSome_none,aw]<;>rfl)) ?_
  repeat refine sq ?_
  refine dx hΓ hP [[],[0],[0,1],[0,1,2],[],[4],[],[6],[4,5,6,7],u9,cZ,eG,eG,fG,kf] [3,5,6,7,8,9,10,11] [[3,0],[5,0],[6,0],[7,0],[8,0]] (by kernel_rfl) (fun K' hK=>by simp only[go_sem,hO,ae,h0,h1,h2,au,bh,Option.isSome_none,aw];(repeat (refine⟨ao,?_⟩));(first | refine⟨by rfl,?_⟩ | skip);exact hK _ (by simp only[go_sem,hO,ae,h0,h1,h2,au,bh,Option.isSome_none,aw]) (by simp only[go_sem,hO,ae,h0,h1,h2,au,bh,Option.isSome_none,aw]<;>rfl)) ?_
  repeat refine sq ?_
  refine aS ?_
  repeat refine sq ?_
  refine rx hΓ [3,5,6,7,8,9,10,11,39] [[3,0],[5,0],[6,0],[7,0],[8,0]] (fun K' hK=>by simp only[go_sem,hO,ae,h0,h1,h2,au,bh,Option.isSome_none,aw];(repeat (refine⟨ao,?_⟩));exact hK _ (by simp only[go_sem,hO,ae,h0,h1,h2,au,bh,Option.isSome_none,aw]) (by simp only[go_sem,hO,ae,h0,h1,h2,au,bh,Option.isSome_none,aw]<;>rfl)) ?_
  repeat refine sq ?_
  refine aB (fun hb=>?_) fun hb=>?_
  ·repeat refine sq ?_
   refine aE ?_
   repeat refine sq ?_
   refine aB (fun hb=>?_) fun hb=>?_
   ·repeat refine sq ?_
    refine dx hΓ hP [[],[],[0,1]] [4,5] [[5,0]] (by kernel_rfl) (fun K' hK=>by simp only[go_sem,hO,ae,h0,h1,h2,au,bh,Option.isSome_none,aw];(repeat (refine⟨ao,?_⟩));(first | refine⟨by rfl,?_⟩ | skip);exact hK _ (by simp only[go_sem,hO,ae,h0,h1,h2,au,bh,Option.isSome_none,aw]) (by simp only[go_sem,hO,ae,h0,h1,h2,au,bh,Option.isSome_none,aw]<;>rfl)) ?_
    refine aA ?_
    simp only[go_sem,hO,ae,h0,h1,h2]
    first | (unfold bw;simp only[au];simp_all[cq,cg];done) | (unfold bw;simp only[au];rcases aK:bp x.bk (r.so,s.le)with _ | j<;>simp_all[cq,cg];done)
   ·repeat refine sq ?_
    refine rx hΓ [3,5,7,8,10,60] [[3,0],[5,0],[7,0],[8,0]] (fun K' hK=>by simp only[go_sem,hO,ae,h0,h1,h2,au,bh,Option.isSome_none,aw];(repeat (refine⟨ao,?_⟩));exact hK _ (by simp only[go_sem,hO,ae,h0,h1,h2,au,bh,Option.isSome_none,aw]) (by simp only[go_sem,hO,ae,h0,h1,h2,au,bh,Option.isSome_none,aw]<;>rfl)) ?_
    repeat refine sq ?_
    refine aB (fun hb=>?_) fun hb=>?_
    ·repeat refine sq ?_
     refine dx hΓ hP [[],[],[0,1]] [4,5] [[5,0]] (by kernel_rfl) (fun K' hK=>by simp only[go_sem,hO,ae,h0,h1,h2,au,bh,Option.isSome_none,aw];(repeat (refine⟨ao,?_⟩));(first | refine⟨by rfl,?_⟩ | skip);exact hK _ (by simp only[go_sem,hO,ae,h0,h1,h2,au,bh,Option.isSome_none,aw]) (by simp only[go_sem,hO,ae,h0,h1,h2,au,bh,Option.isSome_none,aw]<;>rfl)) ?_
     refine aA ?_
     simp only[go_sem,hO,ae,h0,h1,h2]
     first | (unfold bw;simp only[au];simp_all[cq,cg];done) | (unfold bw;simp only[au];rcases aK:bp x.bk (r.so,s.le)with _ | j<;>simp_all[cq,cg];done)
    ·repeat refine sq ?_
     refine rx hΓ [3,5,7,8,10,68] [[3,0],[5,0],[7,0],[8,0]] (fun K' hK=>by simp only[go_sem,hO,ae,h0,h1,h2,au,bh,Option.isSome_none,aw];(repeat (refine⟨ao,?_⟩));exact hK _ (by simp only[go_sem,hO,ae,h0,h1,h2,au,bh,Option.isSome_none,aw]) (by simp only[go_sem,hO,ae,h0,h1,h2,au,bh,Option.isSome_none,aw]<;>rfl)) ?_
     repeat refine sq ?_
     refine aB (fun hb=>?_) fun hb=>?_
     ·repeat refine sq ?_
      refine dx hΓ hP [[],[],[1],[1,2],[0],u5] [4,5] [[5,0]] (by kernel_rfl) (fun K' hK=>by simp only[go_sem,hO,ae,h0,h1,h2,au,bh,Option.isSome_none,aw];(repeat (refine⟨ao,?_⟩));(first | refine⟨by rfl,?_⟩ | skip);exact hK _ (by simp only[go_sem,hO,ae,h0,h1,h2,au,bh,Option.isSome_none,aw]) (by simp only[go_sem,hO,ae,h0,h1,h2,au,bh,Option.isSome_none,aw]<;>rfl)) ?_
      refine aA ?_
      simp only[go_sem,hO,ae,h0,h1,h2]
      first | (unfold bw;simp only[au];simp_all[cq,cg];done) | (unfold bw;simp only[au];rcases aK:bp x.bk (r.so,s.le)with _ | j<;>simp_all[cq,cg];done)
     ·repeat refine sq ?_
      refine rx hΓ [3,5,7,10,76] [[3,0],[5,0],[7,0]] (fun K' hK=>by simp only[go_sem,hO,ae,h0,h1,h2,au,bh,Option.isSome_none,aw];(repeat (refine⟨ao,?_⟩));exact hK _ (by simp only[go_sem,hO,ae,h0,h1,h2,au,bh,Option.isSome_none,aw]) (by simp only[go_sem,hO,ae,h0,h1,h2,au,bh,Option.isSome_none,aw]<;>rfl)) ?_
      repeat refine sq ?_
      refine aB (fun hb=>?_) fun hb=>?_
      ·repeat refine sq ?_
       refine dx hΓ hP [[],[],[1],[1,2],[1,2,3],[0],u6] [4,5] [[5,0]] (by kernel_rfl) (fun K' hK=>by simp only[go_sem,hO,ae,h0,h1,h2,au,bh,Option.isSome_none,aw];(repeat (refine⟨ao,?_⟩));(first | refine⟨by rfl,?_⟩ | skip);exact hK _ (by simp only[go_sem,hO,ae,h0,h1,h2,au,bh,Option.isSome_none,aw]) (by simp only[go_sem,hO,ae,h0,h1,h2,au,bh,Option.isSome_none,aw]<;>rfl)) ?_
       refine aA ?_
       simp only[go_sem,hO,ae,h0,h1,h2]
       first | (unfold bw;simp only[au];simp_all[cq,cg];done) | (unfold bw;simp only[au];rcases aK:bp x.bk (r.so,s.le)with _ | j<;>simp_all[cq,cg];done)
      ·repeat refine sq ?_
       refine aE ?_
       refine cf ?_
       simp only[go_sem]
       refine ev [5,7] [[5,0],[7,0]] ?_ ?_
       ·simp only[go_sem,hO,ae,h0,h1,h2]
       simp only[go_sem,hO,ae,h0,h1,h2]
       repeat refine sq ?_
       refine dx hΓ hP [[],[],[0,1]] [4,5] [[5,0]] (by kernel_rfl) (fun K' hK=>by simp only[go_sem,hO,ae,h0,h1,h2,au,bh,Option.isSome_none,aw];(repeat (refine⟨ao,?_⟩));(first | refine⟨by rfl,?_⟩ | skip);exact hK _ (by simp only[go_sem,hO,ae,h0,h1,h2,au,bh,Option.isSome_none,aw]) (by simp only[go_sem,hO,ae,h0,h1,h2,au,bh,Option.isSome_none,aw]<;>rfl)) ?_
       refine aA ?_
       simp only[go_sem,hO,ae,h0,h1,h2]
       first | (unfold bw;simp only[au];simp_all[cq,cg];done) | (unfold bw;simp only[au];rcases aK:bp x.bk (r.so,s.le)with _ | j<;>simp_all[cq,cg];done)
  ·repeat refine sq ?_
   refine rx hΓ [3,5,6,7,8,9,10,11,39] [[3,0],[5,0],[6,0],[7,0],[8,0]] (fun K' hK=>by simp only[go_sem,hO,ae,h0,h1,h2,au,bh,Option.isSome_none,aw];(repeat (refine⟨ao,?_⟩));exact hK _ (by simp only[go_sem,hO,ae,h0,h1,h2,au,bh,Option.isSome_none,aw]) (by simp only[go_sem,hO,ae,h0,h1,h2,au,bh,Option.isSome_none,aw]<;>rfl)) ?_
   repeat refine sq ?_
   refine aB (fun hb=>?_) fun hb=>?_
   ·repeat refine sq ?_
    refine dx hΓ hP [[],[],[0,1]] [4,5] [[5,0]] (by kernel_rfl) (fun K' hK=>by simp only[go_sem,hO,ae,h0,h1,h2,au,bh,Option.isSome_none,aw];(repeat (refine⟨ao,?_⟩));(first | refine⟨by rfl,?_⟩ | skip);exact hK _ (by simp only[go_sem,hO,ae,h0,h1,h2,au,bh,Option.isSome_none,aw]) (by simp only[go_sem,hO,ae,h0,h1,h2,au,bh,Option.isSome_none,aw]<;>rfl)) ?_
    refine aA ?_
    simp only[go_sem,hO,ae,h0,h1,h2]
    first | (unfold bw;simp only[au];simp_all[cq,cg];done) | (unfold bw;simp only[au];rcases aK:bp x.bk (r.so,s.le)with _ | j<;>simp_all[cq,cg];done)
   ·repeat refine sq ?_
    refine rx hΓ [3,5,7,8,10,60] [[3,0],[5,0],[7,0],[8,0]] (fun K' hK=>by simp only[go_sem,hO,ae,h0,h1,h2,au,bh,Option.isSome_none,aw];(repeat (refine⟨ao,?_⟩));exact hK _ (by simp only[go_sem,hO,ae,h0,h1,h2,au,bh,Option.isSome_none,aw]) (by simp only[go_sem,hO,ae,h0,h1,h2,au,bh,Option.isSome_none,aw]<;>rfl)) ?_
    repeat refine sq ?_
    refine aB (fun hb=>?_) fun hb=>?_
    ·repeat refine sq ?_
     refine dx hΓ hP [[],[],[0,1]] [4,5] [[5,0]] (by kernel_rfl) (fun K' hK=>by simp only[go_sem,hO,ae,h0,h1,h2,au,bh,Option.isSome_none,aw];(repeat (refine⟨ao,?_⟩));(first | refine⟨by rfl,?_⟩ | skip);exact hK _ (by simp only[go_sem,hO,ae,h0,h1,h2,au,bh,Option.isSome_none,aw]) (by simp only[go_sem,hO,ae,h0,h1,h2,au,bh,Option.isSome_none,aw]<;>rfl)) ?_
     refine aA ?_
     simp only[go_sem,hO,ae,h0,h1,h2]
     first | (unfold bw;simp only[au];simp_all[cq,cg];done) | (unfold bw;simp only[au];rcases aK:bp x.bk (r.so,s.le)with _ | j<;>simp_all[cq,cg];done)
    ·repeat refine sq ?_
     refine rx hΓ [3,5,7,8,10,68] [[3,0],[5,0],[7,0],[8,0]] (fun K' hK=>by simp only[go_sem,hO,ae,h0,h1,h2,au,bh,Option.isSome_none,aw];(repeat (refine⟨ao,?_⟩));exact hK _ (by simp only[go_sem,hO,ae,h0,h1,h2,au,bh,Option.isSome_none,aw]) (by simp only[go_sem,hO,ae,h0,h1,h2,au,bh,Option.isSome_none,aw]<;>rfl)) ?_
     repeat refine sq ?_
     refine aB (fun hb=>?_) fun hb=>?_
     ·repeat refine sq ?_
      refine dx hΓ hP [[],[],[1],[1,2],[0],u5] [4,5] [[5,0]] (by kernel_rfl) (fun K' hK=>by simp only[go_sem,hO,ae,h0,h1,h2,au,bh,Option.isSome_none,aw];(repeat (refine⟨ao,?_⟩));(first | refine⟨by rfl,?_⟩ | skip);exact hK _ (by simp only[go_sem,hO,ae,h0,h1,h2,au,bh,Option.isSome_none,aw]) (by simp only[go_sem,hO,ae,h0,h1,h2,au,bh,Option.isSome_none,aw]<;>rfl)) ?_
      refine aA ?_
      simp only[go_sem,hO,ae,h0,h1,h2]
      first | (unfold bw;simp only[au];simp_all[cq,cg];done) | (unfold bw;simp only[au];rcases aK:bp x.bk (r.so,s.le)with _ | j<;>simp_all[cq,cg];done)
     ·repeat refine sq ?_
      refine rx hΓ [3,5,7,10,76] [[3,0],[5,0],[7,0]] (fun K' hK=>by simp only[go_sem,hO,ae,h0,h1,h2,au,bh,Option.isSome_none,aw];(repeat (refine⟨ao,?_⟩));exact hK _ (by simp only[go_sem,hO,ae,h0,h1,h2,au,bh,Option.isSome_none,aw]) (by simp only[go_sem,hO,ae,h0,h1,h2,au,bh,Option.isSome_none,aw]<;>rfl)) ?_
      repeat refine sq ?_
      refine aB (fun hb=>?_) fun hb=>?_
      ·repeat refine sq ?_
       refine dx hΓ hP [[],[],[1],[1,2],[1,2,3],[0],u6] [4,5] [[5,0]] (by kernel_rfl) (fun K' hK=>by simp only[go_sem,hO,ae,h0,h1,h2,au,bh,Option.isSome_none,aw];(repeat (refine⟨ao,?_⟩));(first | refine⟨by rfl,?_⟩ | skip);exact hK _ (by simp only[go_sem,hO,ae,h0,h1,h2,au,bh,Option.isSome_none,aw]) (by simp only[go_sem,hO,ae,h0,h1,h2,au,bh,Option.isSome_none,aw]<;>rfl)) ?_
       refine aA ?_
       simp only[go_sem,hO,ae,h0,h1,h2]
       first | (unfold bw;simp only[au];simp_all[cq,cg];done) | (unfold bw;simp only[au];rcases aK:bp x.bk (r.so,s.le)with _ | j<;>simp_all[cq,cg];done)
      ·repeat refine sq ?_
       refine aE ?_
       refine cf ?_
       simp only[go_sem]
       refine ev [5,7] [[5,0],[7,0]] ?_ ?_
       ·simp only[go_sem,hO,ae,h0,h1,h2]
       simp only[go_sem,hO,ae,h0,h1,h2]
       repeat refine sq ?_
       refine dx hΓ hP [[],[],[0,1]] [4,5] [[5,0]] (by kernel_rfl) (fun K' hK=>by simp only[go_sem,hO,ae,h0,h1,h2,au,bh,Option.isSome_none,aw];(repeat (refine⟨ao,?_⟩));(first | refine⟨by rfl,?_⟩ | skip);exact hK _ (by simp only[go_sem,hO,ae,h0,h1,h2,au,bh,Option.isSome_none,aw]) (by simp only[go_sem,hO,ae,h0,h1,h2,au,bh,Option.isSome_none,aw]<;>rfl)) ?_
       refine aA ?_
       simp only[go_sem,hO,ae,h0,h1,h2]
       first | (unfold bw;simp only[au];simp_all[cq,cg];done) | (unfold bw;simp only[au];rcases aK:bp x.bk (r.so,s.le)with _ | j<;>simp_all[cq,cg];done)
 ·repeat refine sq ?_
  refine rx hΓ [0,3,5,6,7,8,9] [[3,0],[5,0],[6,0],[7,0],[8,0]] (fun K' hK=>by simp only[go_sem,hO,ae,h0,h1,h2,au,aF,Option.isSome_some,aw];(repeat (refine⟨ao,?_⟩));exact hK _ (by simp only[go_sem,hO,ae,h0,h1,h2,au,aF,Option.isSome_some,aw]) (by simp only[go_sem,hO,ae,h0,h1,h2,au,aF,Option.isSome_some,aw]<;>rfl)) ?_
  repeat refine sq ?_
  refine dx hΓ hP [[],[0],[0,1],[0,1,2],[],[4],[],[6],[4,5,6,7],u9,cZ,eG,eG,fG,kf] [3,5,6,7,8,9,10,11] [[3,0],[5,0],[6,0],[7,0],[8,0]] (by kernel_rfl) (fun K' hK=>by simp only[go_sem,hO,ae,h0,h1,h2,au,aF,Option.isSome_some,aw];(repeat (refine⟨ao,?_⟩));(first | refine⟨by rfl,?_⟩ | skip);exact hK _ (by simp only[go_sem,hO,ae,h0,h1,h2,au,aF,Option.isSome_some,aw]) (by simp only[go_sem,hO,ae,h0,h1,h2,au,aF,Option.isSome_some,aw]<;>rfl)) ?_
  repeat refine sq ?_
  refine aS ?_
  repeat refine sq ?_
  refine rx hΓ [3,5,6,7,8,9,10,11,39] [[3,0],[5,0],[6,0],[7,0],[8,0]] (fun K' hK=>by simp only[go_sem,hO,ae,h0,h1,h2,au,aF,Option.isSome_some,aw];(repeat (refine⟨ao,?_⟩));exact hK _ (by simp only[go_sem,hO,ae,h0,h1,h2,au,aF,Option.isSome_some,aw]) (by simp only[go_sem,hO,ae,h0,h1,h2,au,aF,Option.isSome_some,aw]<;>rfl)) ?_
  repeat refine sq ?_
  refine aB (fun hb=>?_) fun hb=>?_
  ·repeat refine sq ?_
   refine aE ?_
   repeat refine sq ?_
   refine aB (fun hb=>?_) fun hb=>?_
   ·repeat refine sq ?_
    refine dx hΓ hP [[],[],[0,1]] [4,5] [[5,0]] (by kernel_rfl) (fun K' hK=>by simp only[go_sem,hO,ae,h0,h1,h2,au,aF,Option.isSome_some,aw];(repeat (refine⟨ao,?_⟩));(first | refine⟨by rfl,?_⟩ | skip);exact hK _ (by simp only[go_sem,hO,ae,h0,h1,h2,au,aF,Option.isSome_some,aw]) (by simp only[go_sem,hO,ae,h0,h1,h2,au,aF,Option.isSome_some,aw]<;>rfl)) ?_
    refine aA ?_
    simp only[go_sem,hO,ae,h0,h1,h2]
    first | (unfold bw;simp only[au];simp_all[cq,cg];done) | (unfold bw;simp only[au];rcases aK:bp x.bk (r.so,s.le)with _ | j<;>simp_all[cq,cg];done)
   ·repeat refine sq ?_
    refine rx hΓ [3,5,7,8,10,60] [[3,0],[5,0],[7,0],[8,0]] (fun K' hK=>by simp only[go_sem,hO,ae,h0,h1,h2,au,aF,Option.isSome_some,aw];(repeat (refine⟨ao,?_⟩));exact hK _ (by simp only[go_sem,hO,ae,h0,h1,h2,au,aF,Option.isSome_some,aw]) (by simp only[go_sem,hO,ae,h0,h1,h2,au,aF,Option.isSome_some,aw]<;>rfl)) ?_
    repeat refine sq ?_
    refine aB (fun hb=>?_) fun hb=>?_
    ·repeat refine sq ?_
     refine dx hΓ hP [[],[],[0,1]] [4,5] [[5,0]] (by kernel_rfl) (fun K' hK=>by simp only[go_sem,hO,ae,h0,h1,h2,au,aF,Option.isSome_some,aw];(repeat (refine⟨ao,?_⟩));(first | refine⟨by rfl,?_⟩ | skip);exact hK _ (by simp only[go_sem,hO,ae,h0,h1,h2,au,aF,Option.isSome_some,aw]) (by simp only[go_sem,hO,ae,h0,h1,h2,au,aF,Option.isSome_some,aw]<;>rfl)) ?_
     refine aA ?_
     simp only[go_sem,hO,ae,h0,h1,h2]
     first | (unfold bw;simp only[au];simp_all[cq,cg];done) | (unfold bw;simp only[au];rcases aK:bp x.bk (r.so,s.le)with _ | j<;>simp_all[cq,cg];done)
    ·repeat refine sq ?_
     refine rx hΓ [3,5,7,8,10,68] [[3,0],[5,0],[7,0],[8,0]] (fun K' hK=>by simp only[go_sem,hO,ae,h0,h1,h2,au,aF,Option.isSome_some,aw];(repeat (refine⟨ao,?_⟩));exact hK _ (by simp only[go_sem,hO,ae,h0,h1,h2,au,aF,Option.isSome_some,aw]) (by simp only[go_sem,hO,ae,h0,h1,h2,au,aF,Option.isSome_some,aw]<;>rfl)) ?_
     repeat refine sq ?_
     refine aB (fun hb=>?_) fun hb=>?_
     ·repeat refine sq ?_
      refine dx hΓ hP [[],[],[1],[1,2],[0],u5] [4,5] [[5,0]] (by kernel_rfl) (fun K' hK=>by simp only[go_sem,hO,ae,h0,h1,h2,au,aF,Option.isSome_some,aw];(repeat (refine⟨ao,?_⟩));(first | refine⟨by rfl,?_⟩ | skip);exact hK _ (by simp only[go_sem,hO,ae,h0,h1,h2,au,aF,Option.isSome_some,aw]) (by simp only[go_sem,hO,ae,h0,h1,h2,au,aF,Option.isSome_some,aw]<;>rfl)) ?_
      refine aA ?_
      simp only[go_sem,hO,ae,h0,h1,h2]
      first | (unfold bw;simp only[au];simp_all[cq,cg];done) | (unfold bw;simp only[au];rcases aK:bp x.bk (r.so,s.le)with _ | j<;>simp_all[cq,cg];done)
     ·repeat refine sq ?_
      refine rx hΓ [3,5,7,10,76] [[3,0],[5,0],[7,0]] (fun K' hK=>by simp only[go_sem,hO,ae,h0,h1,h2,au,aF,Option.isSome_some,aw];(repeat (refine⟨ao,?_⟩));exact hK _ (by simp only[go_sem,hO,ae,h0,h1,h2,au,aF,Option.isSome_some,aw]) (by simp only[go_sem,hO,ae,h0,h1,h2,au,aF,Option.isSome_some,aw]<;>rfl)) ?_
      repeat refine sq ?_
      refine aB (fun hb=>?_) fun hb=>?_
      ·repeat refine sq ?_
       refine dx hΓ hP [[],[],[1],[1,2],[1,2,3],[0],u6] [4,5] [[5,0]] (by kernel_rfl) (fun K' hK=>by simp only[go_sem,hO,ae,h0,h1,h2,au,aF,Option.isSome_some,aw];(repeat (refine⟨ao,?_⟩));(first | refine⟨by rfl,?_⟩ | skip);exact hK _ (by simp only[go_sem,hO,ae,h0,h1,h2,au,aF,Option.isSome_some,aw]) (by simp only[go_sem,hO,ae,h0,h1,h2,au,aF,Option.isSome_some,aw]<;>rfl)) ?_
       refine aA ?_
       simp only[go_sem,hO,ae,h0,h1,h2]
       first | (unfold bw;simp only[au];simp_all[cq,cg];done) | (unfold bw;simp only[au];rcases aK:bp x.bk (r.so,s.le)with _ | j<;>simp_all[cq,cg];done)
      ·repeat refine sq ?_
       refine aE ?_
       refine cf ?_
       simp only[go_sem]
       refine ev [5,7] [[5,0],[7,0]] ?_ ?_
       ·simp only[go_sem,hO,ae,h0,h1,h2]
       simp only[go_sem,hO,ae,h0,h1,h2]
       repeat refine sq ?_
       refine dx hΓ hP [[],[],[0,1]] [4,5] [[5,0]] (by kernel_rfl) (fun K' hK=>by simp only[go_sem,hO,ae,h0,h1,h2,au,aF,Option.isSome_some,aw];(repeat (refine⟨ao,?_⟩));(first | refine⟨by rfl,?_⟩ | skip);exact hK _ (by simp only[go_sem,hO,ae,h0,h1,h2,au,aF,Option.isSome_some,aw]) (by simp only[go_sem,hO,ae,h0,h1,h2,au,aF,Option.isSome_some,aw]<;>rfl)) ?_
       refine aA ?_
       simp only[go_sem,hO,ae,h0,h1,h2]
       first | (unfold bw;simp only[au];simp_all[cq,cg];done) | (unfold bw;simp only[au];rcases aK:bp x.bk (r.so,s.le)with _ | j<;>simp_all[cq,cg];done)
  ·repeat refine sq ?_
   refine rx hΓ [3,5,6,7,8,9,10,11,39] [[3,0],[5,0],[6,0],[7,0],[8,0]] (fun K' hK=>by simp only[go_sem,hO,ae,h0,h1,h2,au,aF,Option.isSome_some,aw];(repeat (refine⟨ao,?_⟩));exact hK _ (by simp only[go_sem,hO,ae,h0,h1,h2,au,aF,Option.isSome_some,aw]) (by simp only[go_sem,hO,ae,h0,h1,h2,au,aF,Option.isSome_some,aw]<;>rfl)) ?_
   repeat refine sq ?_
   refine aB (fun hb=>?_) fun hb=>?_
   ·repeat refine sq ?_
    refine dx hΓ hP [[],[],[0,1]] [4,5] [[5,0]] (by kernel_rfl) (fun K' hK=>by simp only[go_sem,hO,ae,h0,h1,h2,au,aF,Option.isSome_some,aw];(repeat (refine⟨ao,?_⟩));(first | refine⟨by rfl,?_⟩ | skip);exact hK _ (by simp only[go_sem,hO,ae,h0,h1,h2,au,aF,Option.isSome_some,aw]) (by simp only[go_sem,hO,ae,h0,h1,h2,au,aF,Option.isSome_some,aw]<;>rfl)) ?_
    refine aA ?_
    simp only[go_sem,hO,ae,h0,h1,h2]
    first | (unfold bw;simp only[au];simp_all[cq,cg];done) | (unfold bw;simp only[au];rcases aK:bp x.bk (r.so,s.le)with _ | j<;>simp_all[cq,cg];done)
   ·repeat refine sq ?_
    refine rx hΓ [3,5,7,8,10,60] [[3,0],[5,0],[7,0],[8,0]] (fun K' hK=>by simp only[go_sem,hO,ae,h0,h1,h2,au,aF,Option.isSome_some,aw];(repeat (refine⟨ao,?_⟩));exact hK _ (by simp only[go_sem,hO,ae,h0,h1,h2,au,aF,Option.isSome_some,aw]) (by simp only[go_sem,hO,ae,h0,h1,h2,au,aF,Option.isSome_some,aw]<;>rfl)) ?_
    repeat refine sq ?_
    refine aB (fun hb=>?_) fun hb=>?_
    ·repeat refine sq ?_
     refine dx hΓ hP [[],[],[0,1]] [4,5] [[5,0]] (by kernel_rfl) (fun K' hK=>by simp only[go_sem,hO,ae,h0,h1,h2,au,aF,Option.isSome_some,aw];(repeat (refine⟨ao,?_⟩));(first | refine⟨by rfl,?_⟩ | skip);exact hK _ (by simp only[go_sem,hO,ae,h0,h1,h2,au,aF,Option.isSome_some,aw]) (by simp only[go_sem,hO,ae,h0,h1,h2,au,aF,Option.isSome_some,aw]<;>rfl)) ?_
     refine aA ?_
     simp only[go_sem,hO,ae,h0,h1,h2]
     first | (unfold bw;simp only[au];simp_all[cq,cg];done) | (unfold bw;simp only[au];rcases aK:bp x.bk (r.so,s.le)with _ | j<;>simp_all[cq,cg];done)
    ·repeat refine sq ?_
     refine rx hΓ [3,5,7,8,10,68] [[3,0],[5,0],[7,0],[8,0]] (fun K' hK=>by simp only[go_sem,hO,ae,h0,h1,h2,au,aF,Option.isSome_some,aw];(repeat (refine⟨ao,?_⟩));exact hK _ (by simp only[go_sem,hO,ae,h0,h1,h2,au,aF,Option.isSome_some,aw]) (by simp only[go_sem,hO,ae,h0,h1,h2,au,aF,Option.isSome_some,aw]<;>rfl)) ?_
     repeat refine sq ?_
     refine aB (fun hb=>?_) fun hb=>?_
     ·repeat refine sq ?_
      refine dx hΓ hP [[],[],[1],[1,2],[0],u5] [4,5] [[5,0]] (by kernel_rfl) (fun K' hK=>by simp only[go_sem,hO,ae,h0,h1,h2,au,aF,Option.isSome_some,aw];(repeat (refine⟨ao,?_⟩));(first | refine⟨by rfl,?_⟩ | skip);exact hK _ (by simp only[go_sem,hO,ae,h0,h1,h2,au,aF,Option.isSome_some,aw]) (by simp only[go_sem,hO,ae,h0,h1,h2,au,aF,Option.isSome_some,aw]<;>rfl)) ?_
      refine aA ?_
      simp only[go_sem,hO,ae,h0,h1,h2]
      first | (unfold bw;simp only[au];simp_all[cq,cg];done) | (unfold bw;simp only[au];rcases aK:bp x.bk (r.so,s.le)with _ | j<;>simp_all[cq,cg];done)
     ·repeat refine sq ?_
      refine rx hΓ [3,5,7,10,76] [[3,0],[5,0],[7,0]] (fun K' hK=>by simp only[go_sem,hO,ae,h0,h1,h2,au,aF,Option.isSome_some,aw];(repeat (refine⟨ao,?_⟩));exact hK _ (by simp only[go_sem,hO,ae,h0,h1,h2,au,aF,Option.isSome_some,aw]) (by simp only[go_sem,hO,ae,h0,h1,h2,au,aF,Option.isSome_some,aw]<;>rfl)) ?_
      repeat refine sq ?_
      refine aB (fun hb=>?_) fun hb=>?_
      ·repeat refine sq ?_
       refine dx hΓ hP [[],[],[1],[1,2],[1,2,3],[0],u6] [4,5] [[5,0]] (by kernel_rfl) (fun K' hK=>by simp only[go_sem,hO,ae,h0,h1,h2,au,aF,Option.isSome_some,aw];(repeat (refine⟨ao,?_⟩));(first | refine⟨by rfl,?_⟩ | skip);exact hK _ (by simp only[go_sem,hO,ae,h0,h1,h2,au,aF,Option.isSome_some,aw]) (by simp only[go_sem,hO,ae,h0,h1,h2,au,aF,Option.isSome_some,aw]<;>rfl)) ?_
       refine aA ?_
       simp only[go_sem,hO,ae,h0,h1,h2]
       first | (unfold bw;simp only[au];simp_all[cq,cg];done) | (unfold bw;simp only[au];rcases aK:bp x.bk (r.so,s.le)with _ | j<;>simp_all[cq,cg];done)
      ·repeat refine sq ?_
       refine aE ?_
       refine cf ?_
       simp only[go_sem]
       refine ev [5,7] [[5,0],[7,0]] ?_ ?_
       ·simp only[go_sem,hO,ae,h0,h1,h2]
       simp only[go_sem,hO,ae,h0,h1,h2]
       repeat refine sq ?_
       refine dx hΓ hP [[],[],[0,1]] [4,5] [[5,0]] (by kernel_rfl) (fun K' hK=>by simp only[go_sem,hO,ae,h0,h1,h2,au,aF,Option.isSome_some,aw];(repeat (refine⟨ao,?_⟩));(first | refine⟨by rfl,?_⟩ | skip);exact hK _ (by simp only[go_sem,hO,ae,h0,h1,h2,au,aF,Option.isSome_some,aw]) (by simp only[go_sem,hO,ae,h0,h1,h2,au,aF,Option.isSome_some,aw]<;>rfl)) ?_
       refine aA ?_
       simp only[go_sem,hO,ae,h0,h1,h2]
       first | (unfold bw;simp only[au];simp_all[cq,cg];done) | (unfold bw;simp only[au];rcases aK:bp x.bk (r.so,s.le)with _ | j<;>simp_all[cq,cg];done)
end
end Go.Eng
