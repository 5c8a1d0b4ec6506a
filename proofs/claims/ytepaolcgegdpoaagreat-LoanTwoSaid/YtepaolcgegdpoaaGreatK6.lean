import Derived.Test.YtepaolcgegdpoaaGreatK5
/- Texts EngP to LW26. -/
set_option linter.all false
namespace Go.Eng
open Go
def cF(obj:Name->Option O):List Name->List O->Prop
 |[],[]=>True
 |x::xs,o::os=>obj x=some o/\cF obj xs os
 |_,_=>False
theorem jT{obj:Name->Option O}:∀ {Ls:List Name} {F:List O},cF obj Ls F↔Ls.map obj=F.map some
 |[],[]=>by simp[cF]
 |x::xs,o::os=>by simp only[cF,List.map_cons,List.cons.injEq,jT]
 |[],_::_=>by simp[cF]
 |_::_,[]=>by simp[cF]
theorem AA{obj obj2:Name->Option O}{Ls:List Name}{F:List O}(h:cF obj Ls F)(ha:∀ x∈Ls,obj2 x=obj x):cF obj2 Ls F:=by
 rw[jT]at h |-
 rw[<-h]
 exact List.map_congr_left ha
theorem Az{obj:Name->Option O}:∀ {Ls:List Name} {F:List O},cF obj Ls F->∀ i (h:i<Ls.length) (h':i<F.length),obj Ls[i]=some F[i]
 |_::_,_::_,h,0,_,_=>h.1
 |_::_,_::_,h,i+1,h1,h2=>by
  simp only[List.getElem_cons_succ]
  exact Az h.2 i (by simpa using h1) (by simpa using h2)
def wI(K:Exit->S->Prop)(σ:S):Option Code->Prop
 |none=>K .normal σ
 |some .ret=>K .ret σ
 |some (.exit id)=>K (.exit id) σ
 |_=>False
theorem QT{K:Exit->S->Prop}{obj:Name->Option O}{nm:Name}{σ:S}{env:List E}{ps:List Nat}{a b:Code}(pd:Option Code)(h:obj nm=some (.loop env ps a b (if pd.isNone then .ready else .done) pd))
 (hK:wI K σ pd):oS K obj nm σ:=by
 unfold oS
 rw[h]
 rcases pd with _ | c
 ·exact hK
 ·cases c<;>first | exact hK.elim | exact hK
def LR(m:Nat):List Name:=(List.range m).map fun i=>[i,1]
def LI(m:Nat):List Name:=(List.range m).map fun i=>[i+1,1]
theorem na(m:Nat):(LR m).length=m:=by simp[LR]
theorem gf(m:Nat):(LI m).length=m:=by simp[LI]
theorem Mt(m:Nat):(LR m).Nodup:=by
 unfold LR
 exact List.Pairwise.map _ (fun a b h=>by simpa using h) List.nodup_range
theorem yA{Ls:List Name}(hn:Ls.Nodup):Ls.map (cin Ls)=LR Ls.length:=by
 refine List.ext_getElem (by simp[LR]) fun i h1 h2=>?_
 simp only[List.getElem_map,LR,List.getElem_range,cin]
 rw[Bi hn (by simpa using h1)]
theorem Dd{R:Name}{Ls:List Name}(hn:Ls.Nodup)(hR:R∉Ls):Ls.map (cin (R::Ls))=LI Ls.length:=by
 refine List.ext_getElem (by simp[LI]) fun i h1 h2=>?_
 simp only[List.getElem_map,LI,List.getElem_range,cin]
 have h3:i<Ls.length:=by simpa using h1
 have h4:=Bi (L:=R::Ls) (List.nodup_cons.2 ⟨hR,hn⟩) (i:=i+1) (by simp;omega)
 simp only[List.getElem_cons_succ]at h4
 rw[h4]
theorem KR(Ls:List Name)(t:Name):(LR Ls.length).map (cout Ls t)=Ls:=by
 refine List.ext_getElem (by simp[LR]) fun i h1 h2=>?_
 simp only[List.getElem_map,LR,List.getElem_range,cout]
 exact ke h2
theorem KQ(R:Name)(Ls:List Name)(t:Name):(LI Ls.length).map (cout (R::Ls) t)=Ls:=by
 refine List.ext_getElem (by simp[LI]) fun i h1 h2=>?_
 simp only[List.getElem_map,LI,List.getElem_range,cout]
 rw[ke (by simpa using h2)]
 simp
def dH:List Name->List O->(Name->Option O)->(Name->Option O)
 |x::xs,o::os,obj=>dH xs os (upd obj x (some o))
 |_,_,obj=>obj
theorem tO:∀ {Ls:List Name} {F:List O} {obj:Name->Option O} {x:Name},x∉Ls->dH Ls F obj x=obj x
 |[],_,_,_,_=>by simp[dH]
 |_::_,[],_,_,_=>by simp[dH]
 |y::ys,o::os,obj,x,h=>by
  simp only[List.mem_cons,not_or]at h
  simp only[dH]
  rw[tO h.2,aU _ _ _ h.1]
theorem EE:∀ {Ls:List Name} {F:List O} {obj:Name->Option O},Ls.Nodup->Ls.length=F.length->cF (dH Ls F obj) Ls F
 |[],[],_,_,_=>trivial
 |[],_::_,_,_,h=>by simp at h
 |_::_,[],_,_,h=>by simp at h
 |y::ys,o::os,obj,hn,h=>by
  rw[List.nodup_cons]at hn
  refine⟨?_,EE (obj:=upd obj y (some o)) hn.2 (by simpa using h)⟩
  simp only[dH]
  rw[tO hn.1,aM]
def eF:Nat->List O->List (Nat×O)
 |_,[]=>[]
 |k,o::r=>(k,o)::eF (k+1) r
theorem Ag{t:Name}{L:List Name}:∀ {Ls:List Name} {k:Nat} {F:List O} {obj:Name->Option O},Ls.length=F.length->(∀ i (h:i<Ls.length),L.getD (k+i) []=Ls[i])->
 cj L t (eF k F) obj=dH Ls (F.map (O.ren (cout L t))) obj
 |[],k,[],obj,_,_=>rfl
 |[],k,_::_,obj,h,_=>by simp at h
 |_::_,k,[],obj,h,_=>by simp at h
 |x::xs,k,o::os,obj,h,hL=>by
  simp only[eF,cj,List.map_cons,dH]
  have h0:=hL 0 (by simp)
  simp only[Nat.add_zero,List.getElem_cons_zero]at h0
  rw[h0]
  exact Ag (by simpa using h) fun i hi=>by
   have :=hL (i+1) (by simpa using hi)
   rw[show k+1+i=k+(i+1)by omega]
   simpa using this
theorem A1:∀ {F:List O} {k i:Nat} {o:O},i<k->eu (eF k F) i o=o
 |[],k,i,o,_=>rfl
 |f::r,k,i,o,h=>by
  simp only[eF,eu]
  rw[if_neg (by omega)]
  exact A1 (by omega)
theorem Aw{σ:S}:∀ {F os:List O} {k:Nat} {u:List (Nat×O)},F.length=os.length->(∀ i,k<=i->∀ o,eu u i o=eu (eF k F) i o)->
 (∀ i (h:i<F.length),σ.obj [k+i,1]=some F[i])->pU σ u k os
 |[],[],_,_,_,_,_=>trivial
 |[],_::_,_,_,h,_,_=>by simp at h
 |_::_,[],_,_,h,_,_=>by simp at h
 |f::fs,o::os,k,u,h,hu,hs=>by
  refine⟨?_,Aw (F:=fs) (by simpa using h) (fun i hi x=>?_) fun i hi=>?_⟩
  ·have h0:=hs 0 (by simp)
   simp only[Nat.add_zero,List.getElem_cons_zero]at h0
   rw[h0,hu k (Nat.le_refl _) o]
   simp only[eF,eu,if_true]
   rw[A1 (by omega)]
  ·rw[hu i (by omega) x]
   simp only[eF,eu]
   rw[if_neg (by omega)]
  ·have:=hs (i+1) (by simpa using hi)
   rw[show k+1+i=k+(i+1)by omega]
   simpa using this
structure Lp where
 m:Nat
 env:List Name->List E
 fam:List Name->Nat->List O
 ps:List Nat
 asg:Code
 body:Code
 n:Nat
 vals:Nat->List D
 st:Nat->Option Code
 fu:Nat
structure Lp.Ok (r:Lp):Prop where
 len:∀ Ls s,Ls.length=r.m->(r.fam Ls s).length=r.m
 renE:∀ f Ls,Ls.length=r.m->(r.env Ls).map (E.ren f)=r.env (Ls.map f)
 renF:∀ f Ls s,Ls.length=r.m->(r.fam Ls s).map (O.ren f)=r.fam (Ls.map f) s
 reach:∀ Ls s obj acc k,Ls.length=r.m->Ls.Nodup->(∀ x∈Ls,x∉acc)->cF obj Ls (r.fam Ls s)->dd obj (k+r.fu) (cP ((r.env Ls).map (·.d))) acc=acc++Ls
 closE:∀ dom Ls,Ls.length=r.m->(∀ x∈Ls,dom x=true)->D.closL dom ((r.env Ls).map (·.d))=true
 closF:∀ dom Ls s,Ls.length=r.m->(∀ x∈Ls,dom x=true)->∀ o∈r.fam Ls s,O.clos dom o=true
 psz:∀ Ls,Ls.length=r.m->(r.ps.all fun p=>decide (p<(r.env Ls).length))=true
 args:∀ s,(r.vals s).length=r.ps.length
 fuel:r.fu<=2000
 vnam:∀ s,cP (r.vals s)=[]
 vcl:∀ s dom,D.closL dom (r.vals s)=true
 vren:∀ s f,D.renL f (r.vals s)=r.vals s
 inj:∀ s s',s<r.n->s'<r.n->r.vals s=r.vals s'->s=s'
theorem P4(a b:List D):cP (a++b)=cP a++cP b:=by
 induction a with
 |nil=>rfl
 |cons x r ih=>simp only[List.cons_append,cP,ih,List.append_assoc]
theorem Wj(dom:Name->Bool)(a b:List D):D.closL dom (a++b)=(D.closL dom a&&D.closL dom b):=by
 induction a with
 |nil=>simp[D.closL]
 |cons x r ih=>simp only[List.cons_append,D.closL,ih,Bool.and_assoc]
noncomputable def Lp.y(r:Lp):YSpec where
 pre:=fun env ps asg body os ds=>∃ s,s<r.n/\(∀ j,j<s->r.st j=none)/\env=r.env (LR r.m)/\ps=r.ps/\asg=r.asg/\body=r.body/\os=r.fam (LR r.m) s/\ds=r.vals s
 out:=fun _ _ _ _ _ ds=>by
  classical exact if h:∃ s,s<r.n/\ds=r.vals s then(⟨eF 0 (r.fam (LR r.m) (h.choose+1)),[],.v (.bool true)⟩,r.st h.choose)else(⟨[],[],.any⟩,none)
theorem Lp.y_out{r:Lp}(hr:r.Ok){s:Nat}(hs:s<r.n)(env:List E)(ps:List Nat)(asg body:Code)(os:List O):
 r.y.out env ps asg body os (r.vals s)=(⟨eF 0 (r.fam (LR r.m) (s+1)),[],.v (.bool true)⟩,r.st s):=by
 have h:∃ s',s'<r.n/\r.vals s=r.vals s':=⟨s,hs,rfl⟩
 have e:h.choose=s:=(hr.inj _ _ hs h.choose_spec.1 h.choose_spec.2).symm
 simp only[Lp.y]
 rw[dif_pos h,e]
def Pe(m:Nat)(F:List O)(p:Option Code):Exit->S->Prop
 | .normal,σ=>p=none/\cF σ.obj (LR m) F
 | .ret,σ=>p=some .ret/\cF σ.obj (LR m) F
 | .exit id,σ=>p=some (.exit id)/\cF σ.obj (LR m) F
 |_,_=>False
theorem VF{os F:List O}{σ:S}{m:Nat}(h1:os.length=m)(h2:F.length=m)(hc:∀ dom:Name->Bool,(∀ x∈LR m,dom x=true)->∀ o∈F,O.clos dom o=true)(h:cF σ.obj (LR m) F):
 fx os ⟨eF 0 F,[],.v (.bool true)⟩ σ:=by
 have l4:∀ i (hi:i<F.length),σ.obj [i,1]=some F[i]:=by
  rw[jT]at h
  intro i hi
  have h3:=congrArg (fun l=>l[i]?) h
  have bA:i<m:=by omega
  simpa[LR,hi,bA]using h3
 refine⟨Aw (F:=F) (by omega) (fun i _ o=>rfl) fun i hi=>by rw[Nat.zero_add];exact l4 i hi,trivial,?_⟩
 have pg:∀ x∈LR m,cS os.length [] x=true:=by
  intro x hx
  obtain⟨i,hi,rfl⟩:=List.mem_map.1 hx
  have :=List.mem_range.1 hi
  simp[cS]
  omega
 have dU:∀ (F':List O) (k:Nat),(∀ o∈F',O.clos (cS os.length []) o=true)->k+F'.length<=os.length->((eF k F').all fun x=>O.clos (cS os.length []) x.2&&decide (x.1<os.length))=true:=by
  intro F'
  induction F' with
  |nil=>intros;rfl
  |cons f fs ih=>
   intro k hf hk
   simp only[List.length_cons]at hk
   simp only[eF,List.all_cons,Bool.and_eq_true,decide_eq_true_eq]
   exact⟨⟨hf f (by simp),by omega⟩,by have:=ih (k+1) (fun o ho=>hf o (by simp[ho])) (by omega);simpa using this⟩
 have :=dU F 0 (hc _ pg) (by omega)
 simp only[D.clos,this,List.all_nil,List.map_nil,distinct,Bool.and_self]
theorem Lp.y_sound{P:Program}{r:Lp}(hr:r.Ok)(h:∀ s,s<r.n->(∀ j,j<s->r.st j=none)->
 CW P r.asg ⟨(r.env (LR r.m)).length,oC (qM (r.env (LR r.m))) r.ps (r.vals s),aQ (r.fam (LR r.m) s),[0],0⟩ (FT fun σ1=>CW P r.body σ1 (Pe r.m (r.fam (LR r.m) (s+1)) (r.st s)))):aK P yid r.y.toSpec:=by
 refine D0 ?_
 rintro env ps asg body os ds ⟨s,hs,hj,rfl,rfl,rfl,rfl,rfl,rfl⟩ _
 rw[Lp.y_out hr hs]
 refine CW.mono (h s hs hj) fun e σ hk=>?_
 cases e with
 |normal=>
  refine CW.mono hk fun e σ hk=>?_
  have fin:cF σ.obj (LR r.m) (r.fam (LR r.m) (s+1))->fx (r.fam (LR r.m) s) ⟨eF 0 (r.fam (LR r.m) (s+1)),[],.v (.bool true)⟩ σ:=
   VF (hr.len _ _ (na _)) (hr.len _ _ (na _)) fun dom hd=>hr.closF dom _ _ (na _) hd
  cases e with
  |normal=>exact⟨hk.1,fin hk.2⟩
  |ret=>exact⟨hk.1,fin hk.2⟩
  |exit id=>exact⟨hk.1,fin hk.2⟩
  |goto l=>exact hk.elim
  |panic c=>exact hk.elim
  |outgrown=>exact hk.elim
 |ret=>exact hk.elim
 |exit id=>exact hk.elim
 |goto l=>exact hk.elim
 |panic c=>exact hk.elim
 |outgrown=>exact hk.elim
def Lp.rc(r:Lp)(Ls:List Name)(st:LoopState)(pd:Option Code):O:=.loop (r.env Ls) r.ps r.asg r.body st pd
theorem Lp.y_app{r:Lp}(hr:r.Ok){s:Nat}(hs:s<r.n)(hj:∀ j,j<s->r.st j=none){obj:Name->Option O}{t R:Name}{Ls:List Name}(hl:Ls.length=r.m)(hn:Ls.Nodup)(hR:R∉Ls)
 (h0:obj R=some (r.rc Ls .ready none)) (hF:cF obj Ls (r.fam Ls s)):
 r.y.toSpec.app obj t (.yld R::r.vals s)=⟨True,.v (.bool (r.st s).isNone),upd (dH Ls (r.fam Ls (s+1)) obj) R (some (r.rc Ls (if (r.st s).isNone then .ready else .done) (r.st s)))⟩:=by
 have iW:reach obj (roots (r.env Ls) (r.vals s))=Ls:=by
  unfold reach roots
  rw[P4,hr.vnam,List.append_nil]
  have :=hr.reach Ls s obj [] (3000-r.fu) hl hn (fun _ _=>by simp) hF
  rwa [show 3000-r.fu+r.fu=3000 by have:=hr.fuel;omega]at this
 have e1:cg obj (roots (r.env Ls) (r.vals s))=r.fam (LR r.m) s:=by
  unfold cg
  rw[iW]
  have :Ls.map (cm Ls obj)=(r.fam Ls s).map (O.ren (cin Ls)):=by
   rw[jT]at hF
   refine List.ext_getElem (by simp[hr.len _ _ hl,hl]) fun i h1 h2=>?_
   have h3:i<Ls.length:=by simpa using h1
   have h4:i<(r.fam Ls s).length:=by rw[hr.len _ _ hl,<-hl];exact h3
   have h5:=congrArg (fun l=>l[i]?) hF
   have h6:obj Ls[i]=some (r.fam Ls s)[i]:=by simpa[h3,h4]using h5
   simp only[List.getElem_map,cm,h6]
  rw[this,hr.renF _ _ _ hl,yA hn,hl]
 have e2:gw obj (r.env Ls) (r.vals s)=r.env (LR r.m):=by
  unfold gw
  rw[iW,hr.renE _ _ hl,yA hn,hl]
 have e3:iD obj (r.env Ls) (r.vals s)=r.vals s:=by
  unfold iD
  exact hr.vren s _
 have e4:r.y.o obj (r.env Ls) r.ps r.asg r.body (r.vals s)=(⟨eF 0 (r.fam (LR r.m) (s+1)),[],.v (.bool true)⟩,r.st s):=by
  unfold YSpec.o
  rw[e1,e2,e3,Lp.y_out hr hs]
 have dr:r.y.pre (r.env (LR r.m)) r.ps r.asg r.body (r.fam (LR r.m) s) (r.vals s):=⟨s,hs,hj,rfl,rfl,rfl,rfl,rfl,rfl⟩
 have cb:D.closL (cG Ls) (roots (r.env Ls) (r.vals s))=true:=by
  unfold roots
  rw[Wj,hr.vcl,Bool.and_true]
  exact hr.closE _ _ hl fun x hx=>fG.2 hx
 have iU:shut obj Ls=true:=by
  unfold shut
  rw[List.all_eq_true]
  intro x hx
  obtain⟨i,hi,rfl⟩:=List.getElem_of_mem hx
  rw[jT]at hF
  have h4:i<(r.fam Ls s).length:=by rw[hr.len _ _ hl,<-hl];exact hi
  have h5:=congrArg (fun l=>l[i]?) hF
  have h6:obj Ls[i]=some (r.fam Ls s)[i]:=by simpa[hi,h4]using h5
  rw[h6]
  exact hr.closF _ _ _ hl (fun x hx=>fG.2 hx) _ (List.getElem_mem h4)
 have Tv:cG Ls R=false:=by
  cases h:cG Ls R with
  |false=>rfl
  |true=>exact(hR (fG.1 h)).elim
 have hp:cj Ls t (eF 0 (r.fam (LR r.m) (s+1))) obj=dH Ls (r.fam Ls (s+1)) obj:=by
  rw[Ag (Ls:=Ls) (by rw[hr.len _ _ (na _),hl]) fun i hi=>by rw[Nat.zero_add];exact ke hi,hr.renF _ _ _ (na _)]
  have :(LR r.m).map (cout Ls t)=Ls:=by rw[<-hl];exact KR Ls t
  rw[this]
 unfold Lp.rc at h0
 simp only[YSpec.toSpec,h0,e1,e2,e3,e4,iW,cb,iU,Tv,fresh,List.all_nil,Bool.and_self,Bool.not_false,hr.args,decide_true,hr.psz Ls hl,dr,c9,hp,and_self]
 rfl
def Lp.e(r:Lp):Nat:=match (List.range r.n).find? (fun s=>(r.st s).isSome)with | some s=>s+1 | none=>r.n
def Lp.pd(r:Lp):Option Code:=match (List.range r.n).find? (fun s=>(r.st s).isSome)with | some s=>r.st s | none=>none
def Lp.fin(r:Lp)(Ls:List Name):O:=r.rc Ls (if r.pd.isNone then .ready else .done) r.pd
def Lp.it(r:Lp)(dz:List V):CSpec where
 pre:=fun os ds=>os=r.rc (LI r.m) .ready none::r.fam (LI r.m) 0/\ds=.yld [0,1]::dz.map .v
 out:=fun _ _=>⟨(0,r.fin (LI r.m))::eF 1 (r.fam (LI r.m) r.e),[],.tup []⟩
theorem Lp.it_end{P:Program}{r:Lp}(hr:r.Ok){σ:S}(h0:σ.obj [0,1]=some (r.fin (LI r.m)))(h1:cF σ.obj (LI r.m) (r.fam (LI r.m) r.e)):
 (bI P σ []).ok/\(bI P σ []).d=.tup []/\fx (r.rc (LI r.m) .ready none::r.fam (LI r.m) 0) ⟨(0,r.fin (LI r.m))::eF 1 (r.fam (LI r.m) r.e),[],.tup []⟩ σ:=by
 have TF:=hr.len (LI r.m) 0 (gf _)
 have hle:=hr.len (LI r.m) r.e (gf _)
 have l4:∀ i (hi:i<(r.fam (LI r.m) r.e).length),σ.obj [1+i,1]=some (r.fam (LI r.m) r.e)[i]:=by
  intro i hi
  have h3:=Az h1 i (by rw[gf];omega) hi
  rw[Nat.add_comm]
  simpa only[LI,List.getElem_map,List.getElem_range]using h3
 have pg:∀ x∈LI r.m,cS (r.m+1) [] x=true:=by
  intro x hx
  obtain⟨i,hi,rfl⟩:=List.mem_map.1 hx
  have :=List.mem_range.1 hi
  simp[cS]
  omega
 refine⟨fun x hx=>by simp at hx,rfl,⟨⟨?_,Aw (F:=r.fam (LI r.m) r.e) (by omega) (fun i hi o=>by simp only[eu];rw[if_neg (by omega)]) l4⟩,trivial,?_⟩⟩
 ·simp only[eu,if_true]
  rw[h0,A1 (by omega)]
 have dU:∀ (F':List O) (k:Nat),(∀ o∈F',O.clos (cS (r.m+1) []) o=true)->k+F'.length<=r.m+1->((eF k F').all fun x=>O.clos (cS (r.m+1) []) x.2&&decide (x.1<r.m+1))=true:=by
  intro F'
  induction F' with
  |nil=>intros;rfl
  |cons f fs ih=>
   intro k hf hk
   simp only[List.length_cons]at hk
   simp only[eF,List.all_cons,Bool.and_eq_true,decide_eq_true_eq]
   exact⟨⟨hf f (by simp),by omega⟩,by have:=ih (k+1) (fun o ho=>hf o (by simp[ho])) (by omega);simpa using this⟩
 have h5:=dU (r.fam (LI r.m) r.e) 1 (hr.closF _ _ _ (gf _) pg) (by omega)
 have h6:O.clos (cS (r.m+1) []) (r.fin (LI r.m))=true:=hr.closE _ _ (gf _) pg
 have hlen:(r.rc (LI r.m) .ready none::r.fam (LI r.m) 0).length=r.m+1:=by rw[List.length_cons,TF]
 have h7:D.clos (cS (r.m+1) []) (.tup [])=true:=rfl
 simp only[hlen,h7,List.all_cons,h6,h5,List.all_nil,List.map_nil,distinct,Bool.and_self,Bool.true_and,Bool.and_true]
 simp
structure zp (r:Lp) (dz:List Name->List D):Prop where
 ren:∀ f Ls,Ls.length=r.m->D.renL f (dz Ls)=dz (Ls.map f)
 clo:∀ dom Ls,Ls.length=r.m->(∀ x∈Ls,dom x=true)->D.closL dom (dz Ls)=true
 reach:∀ Ls s obj R k,Ls.length=r.m->(R::Ls).Nodup->cF obj Ls (r.fam Ls s)->obj R=some (r.rc Ls .ready none)->dd obj (k+r.fu+1) (R::cP (dz Ls)) []=R::Ls
def Lp.itC(r:Lp)(dz:List Name->List D):CSpec where
 pre:=fun os ds=>os=r.rc (LI r.m) .ready none::r.fam (LI r.m) 0/\ds=.yld [0,1]::dz (LI r.m)
 out:=fun _ _=>⟨(0,r.fin (LI r.m))::eF 1 (r.fam (LI r.m) r.e),[],.tup []⟩
theorem Lp.itC_app{r:Lp}(hr:r.Ok){dz:List Name->List D}(vf:zp r dz){obj:Name->Option O}{t R:Name}{Ls:List Name}(hl:Ls.length=r.m)(hn:Ls.Nodup)(hR:R∉Ls)
 (h0:obj R=some (r.rc Ls .ready none)) (hF:cF obj Ls (r.fam Ls 0)):
 (r.itC dz).toSpec.app obj t (.yld R::dz Ls)=⟨True,.tup [],dH Ls (r.fam Ls r.e) (upd obj R (some (r.fin Ls)))⟩:=by
 have xE:(R::Ls).Nodup:=List.nodup_cons.2 ⟨hR,hn⟩
 have iW:reach obj (.yld R::dz Ls)=R::Ls:=by
  unfold reach
  have :=vf.reach Ls 0 obj R (2999-r.fu) hl xE hF h0
  rw[show 2999-r.fu+r.fu+1=3000 by have:=hr.fuel;omega]at this
  exact this
 have Uy:∀ s,cF obj Ls (r.fam Ls s)->Ls.map (cm (R::Ls) obj)=(r.fam Ls s).map (O.ren (cin (R::Ls))):=by
  intro s hF
  rw[jT]at hF
  refine List.ext_getElem (by simp[hr.len _ _ hl,hl]) fun i h1 h2=>?_
  have h3:i<Ls.length:=by simpa using h1
  have h4:i<(r.fam Ls s).length:=by rw[hr.len _ _ hl,<-hl];exact h3
  have h5:=congrArg (fun l=>l[i]?) hF
  have h6:obj Ls[i]=some (r.fam Ls s)[i]:=by simpa[h3,h4]using h5
  simp only[List.getElem_map,cm,h6]
 have e1:cg obj (.yld R::dz Ls)=r.rc (LI r.m) .ready none::r.fam (LI r.m) 0:=by
  unfold cg
  rw[iW,List.map_cons,Uy 0 hF,hr.renF _ _ _ hl,Dd hn hR,hl]
  congr 1
  unfold Lp.rc at h0 |-
  simp only[cm,h0,O.ren]
  rw[hr.renE _ _ hl,Dd hn hR,hl]
 have e2:cN obj (.yld R::dz Ls)=.yld [0,1]::dz (LI r.m):=by
  unfold cN
  rw[iW]
  simp only[D.renL,D.ren,vf.ren _ _ hl]
  rw[Dd hn hR,hl]
  simp only[cin,idx,if_true]
 have dr:(r.itC dz).pre (r.rc (LI r.m) .ready none::r.fam (LI r.m) 0) (.yld [0,1]::dz (LI r.m)):=⟨rfl,rfl⟩
 have ie:∀ os ds,(r.itC dz).out os ds=⟨(0,r.fin (LI r.m))::eF 1 (r.fam (LI r.m) r.e),[],.tup []⟩:=fun _ _=>rfl
 have B3:∀ x∈Ls,cG (R::Ls) x=true:=fun x hx=>fG.2 (List.mem_cons_of_mem _ hx)
 have iU:shut obj (R::Ls)=true:=by
  unfold shut
  rw[List.all_eq_true]
  intro x hx
  rcases List.mem_cons.1 hx with rfl | hx
  ·rw[h0]
   unfold Lp.rc
   exact hr.closE _ _ hl B3
  obtain⟨i,hi,rfl⟩:=List.getElem_of_mem hx
  rw[jT]at hF
  have h4:i<(r.fam Ls 0).length:=by rw[hr.len _ _ hl,<-hl];exact hi
  have h5:=congrArg (fun l=>l[i]?) hF
  have h6:obj Ls[i]=some (r.fam Ls 0)[i]:=by simpa[hi,h4]using h5
  rw[h6]
  exact hr.closF _ _ _ hl B3 _ (List.getElem_mem h4)
 have cb:D.closL (cG (R::Ls)) (.yld R::dz Ls)=true:=by
  show (cG (R::Ls) R&&D.closL _ _)=true
  rw[vf.clo _ _ hl B3]
  simp[cG]
 have hp:∀ obj',cj (R::Ls) t (eF 1 (r.fam (LI r.m) r.e)) obj'=dH Ls (r.fam Ls r.e) obj':=by
  intro obj'
  rw[Ag (Ls:=Ls) (by rw[hr.len _ _ (gf _),hl]) fun i hi=>by
   rw[Nat.add_comm,List.getD_cons_succ];exact ke hi,hr.renF _ _ _ (gf _)]
  have :(LI r.m).map (cout (R::Ls) t)=Ls:=by rw[<-hl];exact KQ R Ls t
  rw[this]
 have hf:O.ren (cout (R::Ls) t) (r.fin (LI r.m))=r.fin Ls:=by
  unfold Lp.fin Lp.rc
  simp only[O.ren]
  rw[hr.renE _ _ (gf _)]
  have :(LI r.m).map (cout (R::Ls) t)=Ls:=by rw[<-hl];exact KQ R Ls t
  rw[this]
 simp only[CSpec.toSpec,e1,e2,iW,ie,iU,cb,fresh,List.all_nil,Bool.and_self,dr,and_self,c9,cj,List.getD_cons_zero,hf,hp,D.ren,D.renL]
theorem KZ{P:Program}{r:Lp}(hr:r.Ok){dz:List Name->List D}(vf:zp r dz){g:Operand}{ps:Array Tmp}{asg body:Code}{σ:S}{rest:List Code}{K:Exit->S->Prop}(k k':Nat){f:FuncId}{Ls:List Name}
 (hc:cE σ g=true) (hg:ao σ g=.clo (.func f) [] (dz Ls)) (aC:f≠yid) (hs:aK P f (r.itC dz).toSpec) (qt:σ.obj (k::σ.pre)=none)
 (he:(List.range σ.nt).map σ.env=r.env Ls) (fI:ps.toList=r.ps) (ha:asg=r.asg) (hb:body=r.body) (hl:Ls.length=r.m) (hn:Ls.Nodup) (hR:(k::σ.pre)∉Ls) (hF:cF σ.obj Ls (r.fam Ls 0))
 (hK:∀ o:O,wI (iE (fun σ'=>CL P rest σ' K) K) { σ with obj:=upd (dH Ls (r.fam Ls r.e) σ.obj) (k::σ.pre) (some o) } r.pd):CL P (.rangeFunc g ps asg body::rest) σ K:=by
 subst ha
 subst hb
 generalize vj:k::σ.pre=R at *
 have UJ:∀ x∈Ls,(upd σ.obj R (some (r.rc Ls .ready none))) x=σ.obj x:=fun x hx=>aU _ _ _ (by rintro rfl;exact hR hx)
 have xW:=Lp.itC_app hr vf (t:=k'::σ.pre) hl hn hR (aM σ.obj R (some (r.rc Ls .ready none))) (AA hF UJ)
 have IS:O.loop ((List.range σ.nt).map σ.env) ps.toList r.asg r.body .ready none=r.rc Ls .ready none:=by unfold Lp.rc;rw[he,fI]
 have nZ:er (ao σ g) [.yld R]=.yld R::dz Ls:=by rw[hg];rfl
 have eP:fy (ao σ g)=some f:=by rw[hg];simp[fy,aC]
 have Tc:∀ (F:List O) (obj:Name->Option O) (a b:Option O),upd (dH Ls F (upd obj R a)) R b=upd (dH Ls F obj) R b:=by
  intro F obj a b
  funext x
  by_cases h:x=R
  ·subst h;rw[aM,aM]
  ·rw[aU _ _ _ h,aU _ _ _ h]
   have :∀ (Ls:List Name) (F:List O) (o1 o2:Name->Option O),o1 x=o2 x->dH Ls F o1 x=dH Ls F o2 x:=by
    intro Ls
    induction Ls with
    |nil=>intro F o1 o2 h;simpa[dH]using h
    |cons y ys ih=>
     intro F o1 o2 h
     cases F with
     |nil=>simpa[dH]using h
     |cons f fs=>
      simp only[dH]
      refine ih fs _ _ ?_
      by_cases e:x=y
      ·subst e;rw[aM,aM]
      ·rw[aU _ _ _ e,aU _ _ _ e,h]
   exact this Ls F _ _ (aU _ _ _ h)
 refine WG (Γ:=fun x=>if x=f then some (r.itC dz).toSpec else none) (fun x s hx=>by
  split at hx
  ·rename_i e;cases hx;subst e;exact hs
  ·cases hx) k k' hc eP aC (if_pos rfl) (by rw[vj];exact qt) ?_ ?_
 ·rw[vj,nZ,IS,xW];trivial
 ·rw[vj,nZ,IS,xW]
  have l5:dH Ls (r.fam Ls r.e) (upd (upd σ.obj R (some (r.rc Ls .ready none))) R (some (r.fin Ls))) R=some (r.fin Ls):=by rw[tO hR,aM]
  have qm:lA (dH Ls (r.fam Ls r.e) (upd (upd σ.obj R (some (r.rc Ls .ready none))) R (some (r.fin Ls)))) R=
      upd (dH Ls (r.fam Ls r.e) σ.obj) R (some (r.rc Ls .exhausted r.pd)):=by
   unfold lA
   rw[l5]
   unfold Lp.fin Lp.rc
   simp only[Tc]
  refine QT r.pd l5 ?_
  rw[qm]
  exact hK (r.rc Ls .exhausted r.pd)
theorem MS{σ:S}(b nm:Name)(i k sz:Nat)(cs:List D)(L:List V)(hb:σ.obj b=some (.box cs))(hi:cs[i]?=some (.msl nm k))(hn:σ.obj nm=some (.arr sz L))(hk:k=L.length):
 gd σ ⟨σ.nt,σ.env,upd (upd σ.obj nm (some (.farr sz L))) b (some (.box (cs.set i (.v (.sl L))))),σ.pre,σ.base⟩:=by
 intro G φ m a w hC
 have aC:b≠nm:=fun e=>by subst e;rw[hb]at hn;cases hn
 obtain⟨h1,h2,h3,us,T,f,h4,h5,h6,h7⟩:=hC.objs b _ hb
 obtain⟨j8,B5⟩:=List.getElem?_eq_some_iff.1 hi
 have h0:i<us.size:=by omega
 have h8:=h7 i j8 h0
 rw[B5]at h8
 have cD:aH 6 σ.obj (.msl nm k)=⟨k=L.length,.sl L,upd σ.obj nm (some (.farr sz L))⟩:=by simp only[aH,hn]
 obtain⟨m2,k1,k2,k3,k4,_⟩:=n9 6 _ _ _ _ _ _ hC _ _ h8 (by rw[cD];exact hk)
 rw[cD]at k2 k3 k4
 simp only at k2 k3 k4
 have cX:(upd σ.obj nm (some (.farr sz L))) b=some (.box cs):=by rw[aU _ _ _ aC];exact hb
 have oX:=Ext.same (φ:=φ) (o':=.box (cs.set i (.v (.sl L)))) cX rfl rfl
 have IF:=oX
 rw[fb]at IF
 refine⟨_,m2,k2.chg (w':=w) b (.box (cs.set i (.v (.sl L)))) _ oX ⟨rfl,rfl,rfl,Nat.le_refl _⟩ (fun _ _ _=>rfl) (fun _=>.inr ⟨⟨_,cX,rfl,h2⟩,rfl⟩) ?_⟩
 rw[fb]
 refine⟨h1,h2,fun d hd=>?_,us,T,f,h4,h5,by simpa using h6,fun j hj fK=>?_⟩
 ·rcases List.mem_or_eq_of_mem_set hd with h | h
  ·exact h3 d h
  ·subst h;rfl
 ·simp only[List.length_set]at hj
  rw[List.getElem_set]
  by_cases bL:i=j
  ·subst bL
   rw[if_pos rfl]
   exact .v _ _ k4
  ·rw[if_neg bL]
   exact((h7 j hj fK).ext k1 k3).ext (Mem.le_refl m2) IF
theorem vY{σ τ:S}(b nm:Name)(i k sz:Nat)(cs:List D)(L:List V)(hb:σ.obj b=some (.box cs))(hi:cs[i]?=some (.msl nm k))(hn:σ.obj nm=some (.arr sz L))(hk:k=L.length)(ks:List Nat)(ns:List Name)
 (h:gp ks ns ⟨σ.nt,σ.env,upd (upd σ.obj nm (some (.farr sz L))) b (some (.box (cs.set i (.v (.sl L))))),σ.pre,σ.base⟩)
 (il:gJ ks ns ⟨σ.nt,σ.env,upd (upd σ.obj nm (some (.farr sz L))) b (some (.box (cs.set i (.v (.sl L))))),σ.pre,σ.base⟩=τ):gd σ τ:=
 (MS b nm i k sz cs L hb hi hn hk).trans (rB ks ns h il)
open Go Go.Proofs
set_option maxHeartbeats 8000000
noncomputable section
@[go_sem] def P184:PSpec:=p2 ef iI (fun _ _=>True) (fun l v=>vInt (di (fun x=>v==x) l)) true
@[go_sem] def X4:Spec:=P184.toSpec
theorem Ou:aT Tryz.prog 184 P184:=by
 refine ev (rs:=[.tmp 4]) Tryz.func184 Tryz.ntmps184 fun l v hp hw=>?_
 simp only[iI,ef]at hw |-
 have hΓ:=@ff Tryz.prog
 have hl:l.length<=maxLen:=by have:=hw.1.1;simpa using this
 repeat refine sq ?_
 refine rx hΓ [0,1] [] (fun K' hK=>by simp only[go_sem];exact ak) ?_
 repeat refine sq ?_
 refine rx hΓ [0,1,7,8] [] (fun K' hK=>by simp only[go_sem];exact ak) ?_
 repeat refine sq ?_
 refine aS ?_
 repeat refine sq ?_
 refine cM (fun s:Nat=>[(8,⟨true,.v (vInt s)⟩)]) (fun s=>[]) (fun s=>s<=l.length/\∀ k (h:k<l.length),k<s->(fun x:Int=>v==x) l[k]=false) (fun s=>l.length-s) 0 ?_ ?_ ?_ ?_
 ·exact⟨Nat.zero_le _,by simp⟩
 ·rfl
 ·rfl
 rintro i ⟨hi,hR⟩
 simp only[go_sem]
 repeat refine sq ?_
 refine rx hΓ [0,1,7,8,9] [] (fun K' hK=>by simp only[go_sem];exact ak) ?_
 repeat refine sq ?_
 refine aB (fun hb=>?_) fun hb=>?_
 ·have ab:i<l.length:=by simpa using hb
  have aq:(i:Int)<l.length:=by omega
  clear hb
  repeat refine sq ?_
  refine aF ?_
  repeat refine sq ?_
  refine aS ?_
  repeat refine sq ?_
  refine rx hΓ [0,1,5,7,8] [] (fun K' hK=>by simp only[go_sem,ah ab,ai,aj,aq];exact ak) ?_
  repeat refine sq ?_
  refine rx hΓ [0,1,5,7,8,16] [] (fun K' hK=>by simp only[go_sem,ah ab,ai,aj,aq];exact ak) ?_
  repeat refine sq ?_
  refine aB (fun hb=>?_) fun hb=>?_
  ·repeat refine sq ?_
   refine rx hΓ [4] [] (fun K' hK=>by simp only[go_sem,ah ab,ai,aj,aq];exact ak) ?_
   refine av ?_
   simp only[go_sem]
   rw[qc (p:=fun x=>v==x) ab (by simpa using hb) hR]
  ·repeat refine sq ?_
   refine aF ?_
   refine b9 ?_
   simp only[go_sem]
   refine kp [0,1,7,8] [] ?_
   repeat refine sq ?_
   refine bc hΓ fun K' hK=>?_
   simp only[go_sem,ah ab,ai,aj,aq]
   repeat (refine⟨an,?_⟩)
   refine hK _ ?_
   clear K' hK
   simp only[go_sem]
   refine⟨i+1,⟨ab,?_⟩,by(show l.length-(i+1)<l.length-i;omega),?_⟩
   ·intro k hk eh
    rcases Nat.lt_succ_iff_lt_or_eq.1 eh with h5 | rfl
    ·exact hR k hk h5
    ·simpa using hb
   refine bu [0,1,7,8] [] ?_ ?_<;>simp only[go_sem,bn ab hl,br]
 ·have bF:i=l.length:=by
   have :¬ (i:Int)<l.length:=by simpa using hb
   omega
  clear hb
  subst bF
  repeat refine sq ?_
  refine bW ?_
  simp only[go_sem]
  refine kp [] [] ?_
  repeat refine sq ?_
  refine rx hΓ [4] [] (fun K' hK=>by simp only[go_sem];exact ak) ?_
  refine av ?_
  simp only[go_sem]
  rw[uA (p:=fun x=>v==x) fun k hk=>hR k hk hk]
def K18a:List (Nat×Spec):=[(184,X4)]
theorem ZQ:KS K18a:=tc Ou.sound<|tn
attribute [go_sem] K18a
theorem Xw(l:List Int)(v:Int):(l.any fun x=>v==x)=l.contains v:=(List.contains_eq_any_beq (l:=l) (a:=v)).symm
@[go_sem] def P108:PSpec:=p2 ef iI (fun _ _=>True) (fun l v=>.bool (l.contains v)) true
@[go_sem] def vO:Spec:=P108.toSpec
theorem wu:aT Tryz.prog 108 P108:=by
 refine ev (rs:=[.tmp 4]) Tryz.func108 Tryz.ntmps108 fun l v hp hw=>?_
 simp only[iI,ef]at hw |-
 have hΓ:=ZQ
 repeat refine sq ?_
 refine rx hΓ [0,1] [] (fun K' hK=>by simp only[go_sem];exact ak) ?_
 repeat refine sq ?_
 refine rx hΓ [4] [] (fun K' hK=>by simp only[go_sem,true_or,uB,Xw];exact ak) ?_
 refine av ?_
 simp only[go_sem]
 all_goals exact dM
def K18b:List (Nat×Spec):=[(108,vO),(150,DK)]
theorem DX:KS K18b:=tc wu.sound<|tc zW.sound<|tn
attribute [go_sem] K18b
def Bl:En (List Int):=⟨fun l=>.ptr [.sl (l.map vInt)],fun v=>match v with | .ptr [.sl l]=>l.map jb | _=>[]⟩
attribute [go_sem] Bl
@[go_sem] def P194:PSpec:=p2 iI Bl (fun _ _=>True) (fun n l=>.bool (l.contains n)) true
@[go_sem] def Me:Spec:=P194.toSpec
theorem Oj:aT Tryz.prog 194 P194:=by
 refine ev (rs:=[.tmp 3]) Tryz.func194 Tryz.ntmps194 fun n l hp hw=>?_
 simp only[iI,Bl]at hw |-
 have hΓ:=DX
 repeat refine sq ?_
 refine rx hΓ [0,1] [] (fun K' hK=>by simp only[go_sem];exact ak) ?_
 repeat refine sq ?_
 refine rx hΓ [3] [] (fun K' hK=>by simp only[go_sem];exact ak) ?_
 refine av ?_
 simp only[go_sem]
 all_goals exact dM
@[go_sem] def P161:PSpec:=p1 iI (fun _=>True) (fun n=>.bool (!dayB n)) true
@[go_sem] def Mj:Spec:=P161.toSpec
theorem OC:aT Tryz.prog 161 P161:=by
 refine fz (rs:=[.tmp 2]) Tryz.func161 Tryz.ntmps161 fun n hp hw=>?_
 simp only[iI]at hw |-
 have hΓ:=DX
 repeat refine sq ?_
 refine rx hΓ [0] [] (fun K' hK=>by simp only[go_sem];exact ak) ?_
 repeat refine sq ?_
 refine rx hΓ [2] [] (fun K' hK=>by simp only[go_sem];exact ak) ?_
 refine av ?_
 simp only[go_sem]
 all_goals exact dM
@[go_sem] def P185:PSpec:=p1 iI (fun _=>True) (fun n=>.bool (!dayB n)) true
@[go_sem] def Mf:Spec:=P185.toSpec
theorem Ot:aT Tryz.prog 185 P185:=by
 refine fz (rs:=[.tmp 2]) Tryz.func185 Tryz.ntmps185 fun n hp hw=>?_
 simp only[iI]at hw |-
 have hΓ:=DX
 repeat refine sq ?_
 refine rx hΓ [0] [] (fun K' hK=>by simp only[go_sem];exact ak) ?_
 repeat refine sq ?_
 refine rx hΓ [2] [] (fun K' hK=>by simp only[go_sem];exact ak) ?_
 refine av ?_
 simp only[go_sem]
 all_goals exact dM
def uD:En (Nat×List V):=⟨fun g=>.clo (.func g.1) [] g.2,fun v=>match v with | .clo (.func g) _ cs=>(g,cs) | _=>(0,[])⟩
def pG:Nat×List V->Int->Bool
 |(194,[.ptr [.sl l]]),x=>(l.map jb).contains x
 |_,x=>!dayB x
def wP(g:Nat×List V):Prop:=g=(161,[])\/g=(185,[])\/∃ lv:List Int,g=(194,[.ptr [.sl (lv.map vInt)]])
def K18c:List (Nat×Spec):=[(194,Me),(161,Mj),(185,Mf)]
theorem ZP:KS K18c:=tc Oj.sound<|tc OC.sound<|tc Ot.sound<|tn
attribute [go_sem] K18c
def Mv:FuncId->Option Spec:=tbl K18c
theorem ZN:∀ f s,Mv f=some s->aK Tryz.prog f s:=ZP
theorem PM{g:Nat×List V}(h:wP g):∃ s,Mv g.1=some s/\(¬ g.1=1000000000)/\∀ obj t x,s.app obj t (.v (vInt x)::g.2.map .v)=⟨True,.v (.bool (pG g x)),obj⟩:=by
 rcases h with rfl | rfl | ⟨lv,rfl⟩
 ·exact⟨Mj,rfl,by decide,fun obj t x=>by simp only[go_sem,List.map_nil];rfl⟩
 ·exact⟨Mf,rfl,by decide,fun obj t x=>by simp only[go_sem,List.map_nil];rfl⟩
 ·exact⟨Me,rfl,(show ¬ (194:Nat)=1000000000 by decide),fun obj t x=>by simp only[go_sem,List.map_cons,List.map_nil,oe,pG]⟩
@[go_sem] def P192:PSpec:=p2 ef uD (fun _ g=>wP g) (fun l g=>vInt (di (pG g) l)) true
@[go_sem] def X0:Spec:=P192.toSpec
theorem Ol:aT Tryz.prog 192 P192:=by
 refine ev (rs:=[.tmp 4]) Tryz.func192 Tryz.ntmps192 fun l g hp hw=>?_
 simp only[uD,ef]at hw |-
 have hΓ:=ZN
 have hl:l.length<=maxLen:=by have:=hw.1.1;simpa using this
 obtain⟨s_,hs,hy,ha⟩:=PM hp
 repeat refine sq ?_
 refine rx hΓ [0,1] [] (fun K' hK=>by simp only[go_sem];exact ak) ?_
 repeat refine sq ?_
 refine rx hΓ [0,1,7,8] [] (fun K' hK=>by simp only[go_sem];exact ak) ?_
 repeat refine sq ?_
 refine aS ?_
 repeat refine sq ?_
 refine cM (fun s:Nat=>[(8,⟨true,.v (vInt s)⟩)]) (fun s=>[]) (fun s=>s<=l.length/\∀ k (h:k<l.length),k<s->pG g l[k]=false) (fun s=>l.length-s) 0 ?_ ?_ ?_ ?_
 ·exact⟨Nat.zero_le _,by simp⟩
 ·rfl
 ·rfl
 rintro i ⟨hi,hR⟩
 simp only[go_sem]
 repeat refine sq ?_
 refine rx hΓ [0,1,7,8,9] [] (fun K' hK=>by simp only[go_sem];exact ak) ?_
 repeat refine sq ?_
 refine aB (fun hb=>?_) fun hb=>?_
 ·have ab:i<l.length:=by simpa using hb
  have aq:(i:Int)<l.length:=by omega
  clear hb
  repeat refine sq ?_
  refine aF ?_
  repeat refine sq ?_
  refine aS ?_
  repeat refine sq ?_
  refine rx hΓ [0,1,5,7,8] [] (fun K' hK=>by simp only[go_sem,ah ab,ai,aj,aq];exact ak) ?_
  repeat refine sq ?_
  refine rx hΓ [0,1,5,7,8,16] [] (fun K' hK=>by simp only[go_sem,ah ab,ai,aj,aq,hs,hy,ha];exact ak) ?_
  repeat refine sq ?_
  refine aB (fun hb=>?_) fun hb=>?_
  ·repeat refine sq ?_
   refine rx hΓ [4] [] (fun K' hK=>by simp only[go_sem,ah ab,ai,aj,aq];exact ak) ?_
   refine av ?_
   simp only[go_sem]
   rw[qc (p:=pG g) ab (by simpa using hb) hR]
  ·repeat refine sq ?_
   refine aF ?_
   refine b9 ?_
   simp only[go_sem]
   refine kp [0,1,7,8] [] ?_
   repeat refine sq ?_
   refine bc hΓ fun K' hK=>?_
   simp only[go_sem,ah ab,ai,aj,aq]
   repeat (refine⟨an,?_⟩)
   refine hK _ ?_
   clear K' hK
   simp only[go_sem]
   refine⟨i+1,⟨ab,?_⟩,by(show l.length-(i+1)<l.length-i;omega),?_⟩
   ·intro k hk eh
    rcases Nat.lt_succ_iff_lt_or_eq.1 eh with h5 | rfl
    ·exact hR k hk h5
    ·simpa using hb
   refine bu [0,1,7,8] [] ?_ ?_<;>simp only[go_sem,bn ab hl,br]
 ·have bF:i=l.length:=by
   have :¬ (i:Int)<l.length:=by simpa using hb
   omega
  clear hb
  subst bF
  repeat refine sq ?_
  refine bW ?_
  simp only[go_sem]
  refine kp [] [] ?_
  repeat refine sq ?_
  refine rx hΓ [4] [] (fun K' hK=>by simp only[go_sem];exact ak) ?_
  refine av ?_
  simp only[go_sem]
  rw[uA (p:=pG g) fun k hk=>hR k hk hk]
def K18d:List (Nat×Spec):=[(192,X0)]
theorem ZO:KS K18d:=tc Ol.sound<|tn
attribute [go_sem] K18d
@[go_sem] def P160:PSpec:=p2 ef uD (fun _ g=>wP g) (fun l g=>.bool (l.any (pG g))) true
@[go_sem] def S160:Spec:=P160.toSpec
theorem OD:aT Tryz.prog 160 P160:=by
 refine ev (rs:=[.tmp 4]) Tryz.func160 Tryz.ntmps160 fun l g hp hw=>?_
 simp only[uD,ef]at hw |-
 have hΓ:=ZO
 repeat refine sq ?_
 refine rx hΓ [0,1] [] (fun K' hK=>by simp only[go_sem];exact ak) ?_
 repeat refine sq ?_
 refine rx hΓ [4] [] (fun K' hK=>by simp only[go_sem,true_or,uB,hp];exact ak) ?_
 refine av ?_
 simp only[go_sem]
 all_goals exact dM
theorem Iq:aK Tryz.prog 160 S160:=OD.sound
end
noncomputable section
structure m7 (x:Vw):Prop where
 ok:bN x.l
 bk:∀ q i,bD x.bk q=some i->0<=i/\i<x.l.ts.length
 rs:∀ r∈x.rs,dQ r=true
 rn:x.rs.length<=60
 tn:x.ts.length<=60
 ts:∀ i∈x.ts,0<=i/\i<x.l.ts.length
theorem Ff{r:Rec}(h:dQ r=true):0<r.lv.length/\r.lv.length<=30:=by
 unfold dQ at h
 simp only[Bool.and_eq_true]at h
 exact⟨(p7.1 h.1.1.2).1,(p7.1 h.1.1.2).2.1⟩
theorem Fg{r:Rec}(h:dQ r=true):0<=r.da/\r.da<=100000:=by
 unfold dQ at h
 simp only[Bool.and_eq_true]at h
 have :=h.1.2
 unfold dayB cl at this
 simpa using this
theorem Pf{r:Ret}(h:jo r=true):0<r.lv.length/\r.lv.length<=30:=by
 unfold jo at h
 simp only[Bool.and_eq_true]at h
 exact⟨(p7.1 h.1.1.1.2).1,(p7.1 h.1.1.1.2).2.1⟩
theorem vW{d:Int}(h:0<=d/\d<=100000):IntKind.i64.wrap (d+1)=d+1:=wrap_i64 (by omega) (by omega)
theorem nk{l:Led}{i:Nat}(h:i<l.ts.length):aG l i=l.ts[i]:=by unfold aG;exact dt h
theorem bN.recs{l:Led}(h:bN l):∀ r∈l.rs,dQ r=true:=fun r hr=>by
 obtain⟨j,hj,rfl⟩:=List.getElem_of_mem hr
 exact ri h.rs hj
theorem bN.rets{l:Led}(h:bN l){i:Nat}(hi:i<l.ts.length):jo (aG l i)=true:=by
 rw[nk hi]
 exact ri h.ts hi
def qV(x:Vw)(a b:Rec)(f:Int):Bool:=(a.pa==b.pa&&b.lv.contains f)&&(a.da==b.da||match bD x.bk (a.so,f)with
 |none=>true
 |some i=>decide (cB (aG x.l i.toNat).lo (a.da+1)>b.da))
theorem C2(x:Vw)(a b:Rec):sX x a b=a.lv.any (qV x a b):=rfl
theorem LV{α:Type}{p:α->Bool}{l:List α}{i:Nat}(h:i<l.length)(hp:p l[i]=true):l.any p=true:=List.any_eq_true.2 ⟨_,List.getElem_mem h,hp⟩
theorem Xv{α:Type}{p:α->Bool}{l:List α}(h:∀ k (hk:k<l.length),p l[k]=false):l.any p=false:=by
 rw[List.any_eq_false]
 intro x hx
 obtain⟨k,hk,rfl⟩:=List.getElem_of_mem hx
 rw[h k hk];decide
theorem Ec{l:Led}{i:Int}(h0:0<=i)(h:i<l.ts.length):(l.ts.map du).getD i.toNat default=du (aG l i.toNat):=by
 have h':i.toNat<l.ts.length:=by omega
 rw[ah h',nk h']
def oP(a b:Rec):Rec:=if a.da>b.da then b else a
def j9(a b:Rec):Rec:=if a.da>b.da then a else b
theorem V5(x:Vw)(a b:Rec):fZ x a b=sX x (oP a b) (j9 a b):=by
 unfold fZ oP j9
 split<;>rfl
theorem Qr{a b:Rec}(ha:dQ a=true)(hb:dQ b=true):dQ (oP a b)=true/\dQ (j9 a b)=true:=by
 unfold oP j9
 split
 ·exact⟨hb,ha⟩
 ·exact⟨ha,hb⟩
def qY(r:Rec):List D:=[.v (vInt r.so),.v (vInt r.bo),.v (vInt r.pa),.v (.sl (r.lv.map vInt)),.v (vInt r.da),.v (vInt r.kn),.v (vInt r.un)]
attribute [go_sem] qY
def K19:List (Nat×Spec):=[(108,vO)]
theorem ZM:KS K19:=tc wu.sound<|tn
attribute [go_sem] K19
def L6:VSpec:=v2 iR iR (fun x a b=>m7 x/\dQ a=true/\dQ b=true) (fun x a b=>.v (.bool (fZ x a b))) none
def S129:Spec:=L6.toSpec
attribute [go_sem] L6 S129
set_option maxHeartbeats 8000000 in
theorem Is:aK Tryz.prog 129 S129:=by
 refine zz (rs:=[.tmp 6]) Tryz.func129 Tryz.ntmps129 (by rfl) (by kernel_rfl) (by decide) (fun _ _ _=>by first | rfl | simp[D.clos,D.closL,lE]) ⟨_,rfl,lb rfl,fun x a b hp H h0 h1 h2 hO ae=>?_⟩
 have hP:=gE
 simp only[iR,encR,bq,cY,List.map_cons,List.map_nil,Nat.zero_add,Option.map_some,Option.map_none]at h0 |-
 have hΓ:=ZM
 obtain⟨hv,ha,UE⟩:=hp
 rw[V5]
 obtain⟨uQ,jy⟩:=Qr ha UE
 repeat refine sq ?_
 refine rx hΓ [0,4,5] [[4,0],[5,0]] (fun K' hK=>by simp only[go_sem,hO,ae,h0,h1,h2];(repeat (refine⟨an,?_⟩));exact hK _ (by simp only[go_sem,hO,ae,h0,h1,h2]) (by simp only[go_sem,hO,ae,h0,h1,h2]<;>rfl)) ?_
 repeat refine sq ?_
 refine rx hΓ [0,4,5,15] [[4,0],[5,0]] (fun K' hK=>by simp only[go_sem,hO,ae,h0,h1,h2];(repeat (refine⟨an,?_⟩));exact hK _ (by simp only[go_sem,hO,ae,h0,h1,h2]) (by simp only[go_sem,hO,ae,h0,h1,h2]<;>rfl)) ?_
 repeat refine sq ?_
 refine WK (bb 80 [0] H [(0,⟨true,.ref [0,1] 0⟩),(4,⟨true,.ref [4,0] 0⟩),(5,⟨true,.ref [5,0] 0⟩)] [([4,0],.box (qY (oP a b))),([5,0],.box (qY (j9 a b)))]) rfl rfl (fun hb=>?_) (fun hb=>?_) ?_
 ·repeat refine sq ?_
  rw[show oP a b=b from if_pos (by simpa using hb),show j9 a b=a from if_pos (by simpa using hb)]
  repeat refine sq ?_
  refine bc hΓ fun K' hK=>?_
  simp only[go_sem,hO,ae,h0,h1,h2]
  repeat (refine⟨an,?_⟩)
  refine hK _ ?_
  clear K' hK
  simp only[go_sem]
  refine rB [0,4,5] [[4,0],[5,0]] ?_ ?_
  ·simp only[go_sem,hO,ae,h0,h1,h2]
  ·simp only[go_sem,hO,ae,h0,h1,h2]
 ·repeat refine sq ?_
  rw[show oP a b=a from if_neg (by simpa using hb),show j9 a b=b from if_neg (by simpa using hb)]
  refine aF ?_
  refine b9 ?_
  simp only[go_sem]
  refine rB [0,4,5] [[4,0],[5,0]] ?_ ?_
  ·simp only[go_sem,hO,ae,h0,h1,h2]
  ·simp only[go_sem,hO,ae,h0,h1,h2]
 generalize oP a b=p at *
 generalize j9 a b=q at *
 have hl:p.lv.length<=maxLen:=by have:=(Ff uQ).2;unfold maxLen;omega
 repeat refine sq ?_
 refine rx hΓ [0,4,5,19,20,21] [[4,0],[5,0]] (fun K' hK=>by simp only[go_sem,hO,ae,h0,h1,h2];(repeat (refine⟨an,?_⟩));exact hK _ (by simp only[go_sem,hO,ae,h0,h1,h2]) (by simp only[go_sem,hO,ae,h0,h1,h2]<;>rfl)) ?_
 repeat refine sq ?_
 refine aS ?_
 repeat refine sq ?_
 refine cM (fun s:Nat=>[(21,⟨true,.v (vInt s)⟩)]) (fun s=>[]) (fun s=>s<=p.lv.length/\∀ k (h:k<p.lv.length),k<s->qV x p q p.lv[k]=false) (fun s=>p.lv.length-s) 0 ?_ ?_ ?_ ?_
 ·exact⟨Nat.zero_le _,by simp⟩
 ·rfl
 ·rfl
 rintro i ⟨hi,hR⟩
 simp only[go_sem]
 repeat refine sq ?_
 refine rx hΓ [0,4,5,19,20,21,22] [[4,0],[5,0]] (fun K' hK=>by simp only[go_sem,hO,ae,h0,h1,h2];(repeat (refine⟨an,?_⟩));exact hK _ (by simp only[go_sem,hO,ae,h0,h1,h2]) (by simp only[go_sem,hO,ae,h0,h1,h2]<;>rfl)) ?_
 repeat refine sq ?_
 refine aB (fun hb=>?_) fun hb=>?_
 ·have ab:i<p.lv.length:=by simpa using hb
  have aq:(i:Int)<p.lv.length:=by omega
  clear hb
  have fT:=vW (Fg uQ)
  repeat refine sq ?_
  refine aF ?_
  repeat refine sq ?_
  refine aS ?_
  repeat refine sq ?_
  refine rx hΓ [0,4,5,8,19,20,21] [[4,0],[5,0]] (fun K' hK=>by simp only[go_sem,hO,ae,h0,h1,h2,ah ab,ai,aj,aq];(repeat (refine⟨an,?_⟩));exact hK _ (by simp only[go_sem,hO,ae,h0,h1,h2,ah ab,ai,aj,aq]) (by simp only[go_sem,hO,ae,h0,h1,h2,ah ab,ai,aj,aq]<;>rfl)) ?_
  repeat refine sq ?_
  refine rx hΓ [0,4,5,8,19,20,21,36] [[4,0],[5,0]] (fun K' hK=>by simp only[go_sem,hO,ae,h0,h1,h2,ah ab,ai,aj,aq];(repeat (refine⟨an,?_⟩));exact hK _ (by simp only[go_sem,hO,ae,h0,h1,h2,ah ab,ai,aj,aq]) (by simp only[go_sem,hO,ae,h0,h1,h2,ah ab,ai,aj,aq]<;>rfl)) ?_
  repeat refine sq ?_
  refine aB (fun hb=>?_) fun hb=>?_
  ·repeat refine sq ?_
   refine bW ?_
   simp only[go_sem]
   refine eo [0,4,5,19,20,21] [[4,0],[5,0]] ?_ ?_
   ·simp only[go_sem,hO,ae,h0,h1,h2]
   simp only[go_sem,hO,ae,h0,h1,h2]
   repeat refine sq ?_
   refine bc hΓ fun K' hK=>?_
   simp only[go_sem,hO,ae,h0,h1,h2,ah ab,ai,aj,aq]
   repeat (refine⟨an,?_⟩)
   refine hK _ ?_
   clear K' hK
   simp only[go_sem]
   refine⟨i+1,⟨ab,?_⟩,by(show p.lv.length-(i+1)<p.lv.length-i;omega),?_⟩
   ·intro k hk eh
    rcases Nat.lt_succ_iff_lt_or_eq.1 eh with h5 | rfl
    ·exact hR k hk h5
    ·unfold qV;grind
   refine bu [0,4,5,19,20,21] [[4,0],[5,0]] ?_ ?_<;>simp only[go_sem,bn ab hl,br,hO,ae,h0,h1,h2]
  ·repeat refine sq ?_
   refine aF ?_
   rcases bX:bD x.bk (p.so,p.lv[i])with _ | j
   ·repeat refine sq ?_
    refine dx hΓ hP [[],[0],[0,1],[0,1,2],[],[4],[],[4,5,6],u8,u9,ew,ew,gy,pM] [0,4,5,9,10,19,20,21] [[4,0],[5,0]] (by kernel_rfl) (fun K' hK=>by simp only[go_sem,hO,ae,h0,h1,h2,ah ab,ai,aj,aq,aD,bX,Option.map_none,Option.isSome_none,Option.getD_none];(repeat (refine⟨an,?_⟩));(first | refine⟨by rfl,?_⟩ | skip);exact hK _ (by simp only[go_sem,hO,ae,h0,h1,h2,ah ab,ai,aj,aq,aD,bX,Option.map_none,Option.isSome_none,Option.getD_none]) (by simp only[go_sem,hO,ae,h0,h1,h2,ah ab,ai,aj,aq,aD,bX,Option.map_none,Option.isSome_none,Option.getD_none]<;>rfl)) ?_
    repeat refine sq ?_
    refine dx hΓ hP [[],[0],[],[2],u4,u5,u6,u7,u8,u9,ew,gy,gW,pM,nj,we,u16,ew,jN,oz,pL,tF,ew,[0,1,2,3,4,5,6,7,8,9,22],[0,1,2,3,4,5,6,7,8,9,22,23],v8,ew,[0,1,2,3,4,5,6,7,8,9,26],v7,v5] [0,4,5,19,20,21,78] [[4,0],[5,0]] (by kernel_rfl) (fun K' hK=>by simp only[go_sem,hO,ae,h0,h1,h2,ah ab,ai,aj,aq,aD,bX,Option.map_none,Option.isSome_none,Option.getD_none];(repeat (refine⟨an,?_⟩));(first | refine⟨by rfl,?_⟩ | skip);exact hK _ (by simp only[go_sem,hO,ae,h0,h1,h2,ah ab,ai,aj,aq,aD,bX,Option.map_none,Option.isSome_none,Option.getD_none]) (by simp only[go_sem,hO,ae,h0,h1,h2,ah ab,ai,aj,aq,aD,bX,Option.map_none,Option.isSome_none,Option.getD_none]<;>rfl)) ?_
    repeat refine sq ?_
    refine aB (fun hb=>?_) fun hb=>?_
    ·repeat refine sq ?_
     refine rx hΓ [6] [] (fun K' hK=>by simp only[go_sem,hO,ae,h0,h1,h2,ah ab,ai,aj,aq,aD,bX,Option.map_none,Option.isSome_none,Option.getD_none];(repeat (refine⟨an,?_⟩));exact hK _ (by simp only[go_sem,hO,ae,h0,h1,h2,ah ab,ai,aj,aq,aD,bX,Option.map_none,Option.isSome_none,Option.getD_none]) (by simp only[go_sem,hO,ae,h0,h1,h2,ah ab,ai,aj,aq,aD,bX,Option.map_none,Option.isSome_none,Option.getD_none]<;>rfl)) ?_
     refine av ?_
     simp only[go_sem,hO,ae,h0,h1,h2]
     rw[C2,LV ab (by unfold qV;rw[bX];grind [cB])]
    ·repeat refine sq ?_
     refine aF ?_
     refine b9 ?_
     simp only[go_sem]
     refine eo [0,4,5,19,20,21] [[4,0],[5,0]] ?_ ?_
     ·simp only[go_sem,hO,ae,h0,h1,h2]
     simp only[go_sem,hO,ae,h0,h1,h2]
     repeat refine sq ?_
     refine bc hΓ fun K' hK=>?_
     simp only[go_sem,hO,ae,h0,h1,h2,ah ab,ai,aj,aq,aD,bX,Option.map_none,Option.isSome_none,Option.getD_none]
     repeat (refine⟨an,?_⟩)
     refine hK _ ?_
     clear K' hK
     simp only[go_sem]
     refine⟨i+1,⟨ab,?_⟩,by(show p.lv.length-(i+1)<p.lv.length-i;omega),?_⟩
     ·intro k hk eh
      rcases Nat.lt_succ_iff_lt_or_eq.1 eh with h5 | rfl
      ·exact hR k hk h5
      ·unfold qV;rw[bX];grind [cB]
     refine bu [0,4,5,19,20,21] [[4,0],[5,0]] ?_ ?_<;>simp only[go_sem,bn ab hl,br,hO,ae,h0,h1,h2]
   ·obtain⟨cK,jB⟩:=hv.bk _ _ bX
    have kO:=Ec cK jB
    repeat refine sq ?_
    refine dx hΓ hP [[],[0],[0,1],[0,1,2],[],[4],[],[4,5,6],u8,u9,ew,ew,gy,pM] [0,4,5,9,10,19,20,21] [[4,0],[5,0]] (by kernel_rfl) (fun K' hK=>by simp only[go_sem,hO,ae,h0,h1,h2,ah ab,ai,aj,aq,aD,bX,Option.map_some,Option.isSome_some,Option.getD_some,kO,cK,jB,fT];(repeat (refine⟨an,?_⟩));(first | refine⟨by rfl,?_⟩ | skip);exact hK _ (by simp only[go_sem,hO,ae,h0,h1,h2,ah ab,ai,aj,aq,aD,bX,Option.map_some,Option.isSome_some,Option.getD_some,kO,cK,jB,fT]) (by simp only[go_sem,hO,ae,h0,h1,h2,ah ab,ai,aj,aq,aD,bX,Option.map_some,Option.isSome_some,Option.getD_some,kO,cK,jB,fT]<;>rfl)) ?_
    repeat refine sq ?_
    refine dx hΓ hP [[],[0],[],[2],u4,u5,u6,u7,u8,u9,ew,gy,gW,pM,nj,we,u16,ew,jN,oz,pL,tF,ew,[0,1,2,3,4,5,6,7,8,9,22],[0,1,2,3,4,5,6,7,8,9,22,23],v8,ew,[0,1,2,3,4,5,6,7,8,9,26],v7,v5] [0,4,5,19,20,21,78] [[4,0],[5,0]] (by kernel_rfl) (fun K' hK=>by simp only[go_sem,hO,ae,h0,h1,h2,ah ab,ai,aj,aq,aD,bX,Option.map_some,Option.isSome_some,Option.getD_some,kO,cK,jB,fT];(repeat (refine⟨an,?_⟩));(first | refine⟨by rfl,?_⟩ | skip);exact hK _ (by simp only[go_sem,hO,ae,h0,h1,h2,ah ab,ai,aj,aq,aD,bX,Option.map_some,Option.isSome_some,Option.getD_some,kO,cK,jB,fT]) (by simp only[go_sem,hO,ae,h0,h1,h2,ah ab,ai,aj,aq,aD,bX,Option.map_some,Option.isSome_some,Option.getD_some,kO,cK,jB,fT]<;>rfl)) ?_
    repeat refine sq ?_
    refine aB (fun hb=>?_) fun hb=>?_
    ·repeat refine sq ?_
     refine rx hΓ [6] [] (fun K' hK=>by simp only[go_sem,hO,ae,h0,h1,h2,ah ab,ai,aj,aq,aD,bX,Option.map_some,Option.isSome_some,Option.getD_some,kO,cK,jB,fT];(repeat (refine⟨an,?_⟩));exact hK _ (by simp only[go_sem,hO,ae,h0,h1,h2,ah ab,ai,aj,aq,aD,bX,Option.map_some,Option.isSome_some,Option.getD_some,kO,cK,jB,fT]) (by simp only[go_sem,hO,ae,h0,h1,h2,ah ab,ai,aj,aq,aD,bX,Option.map_some,Option.isSome_some,Option.getD_some,kO,cK,jB,fT]<;>rfl)) ?_
     refine av ?_
     simp only[go_sem,hO,ae,h0,h1,h2]
     rw[C2,LV ab (by unfold qV;rw[bX];grind [cB])]
    ·repeat refine sq ?_
     refine aF ?_
     refine b9 ?_
     simp only[go_sem]
     refine eo [0,4,5,19,20,21] [[4,0],[5,0]] ?_ ?_
     ·simp only[go_sem,hO,ae,h0,h1,h2]
     simp only[go_sem,hO,ae,h0,h1,h2]
     repeat refine sq ?_
     refine bc hΓ fun K' hK=>?_
     simp only[go_sem,hO,ae,h0,h1,h2,ah ab,ai,aj,aq,aD,bX,Option.map_some,Option.isSome_some,Option.getD_some,kO,cK,jB,fT]
     repeat (refine⟨an,?_⟩)
     refine hK _ ?_
     clear K' hK
     simp only[go_sem]
     refine⟨i+1,⟨ab,?_⟩,by(show p.lv.length-(i+1)<p.lv.length-i;omega),?_⟩
     ·intro k hk eh
      rcases Nat.lt_succ_iff_lt_or_eq.1 eh with h5 | rfl
      ·exact hR k hk h5
      ·unfold qV;rw[bX];grind [cB]
     refine bu [0,4,5,19,20,21] [[4,0],[5,0]] ?_ ?_<;>simp only[go_sem,bn ab hl,br,hO,ae,h0,h1,h2]
 ·have bF:i=p.lv.length:=by
   have :¬ (i:Int)<p.lv.length:=by simpa using hb
   omega
  clear hb
  subst bF
  repeat refine sq ?_
  refine bW ?_
  simp only[go_sem]
  refine eo [] [] ?_ ?_
  ·simp only[go_sem,hO,ae,h0,h1,h2]
  simp only[go_sem,hO,ae,h0,h1,h2]
  repeat refine sq ?_
  refine rx hΓ [6] [] (fun K' hK=>by simp only[go_sem,hO,ae,h0,h1,h2];(repeat (refine⟨an,?_⟩));exact hK _ (by simp only[go_sem,hO,ae,h0,h1,h2]) (by simp only[go_sem,hO,ae,h0,h1,h2]<;>rfl)) ?_
  refine av ?_
  simp only[go_sem,hO,ae,h0,h1,h2]
  rw[C2,Xv fun k hk=>hR k hk hk]
end
noncomputable section
@[go_sem] theorem ado(x:Vw):(⟨x.l,x.rs,x.ts,x.bk,x.ds⟩:Vw)=x:=rfl
def wF:Option (Int×Int)->D
 |some p=>.tup [.v (.sl [vInt p.1,vInt p.2]),.v (.bool true)]
 |none=>.tup [.nilsl,.v (.bool false)]
theorem Po(r:Option (Int×Int))(p:Name->Bool):D.clos p (wF r)=true:=by cases r<;>rfl
theorem Am{x:Vw}{i:Nat}(h:i<x.rs.length)(hn:∀ k (hk:k<(x.rs.drop (i+1)).length),fZ x x.rs[i] (x.rs.drop (i+1))[k]=false):mA x i=none:=by
 unfold mA
 have e:(x.rs.drop (i+1)).find? (fZ x x.rs[i])=none:=List.find?_eq_none.2 fun y hy=>by
  obtain⟨k,hk,rfl⟩:=List.getElem_of_mem hy
  rw[hn k hk];decide
 rw[dt h,e]
 rfl
theorem FH{x:Vw}{i k:Nat}(h:i<x.rs.length)(hk:k<(x.rs.drop (i+1)).length)(hn:∀ j (hj:j<(x.rs.drop (i+1)).length),j<k->fZ x x.rs[i] (x.rs.drop (i+1))[j]=false)(hb:fZ x x.rs[i] (x.rs.drop (i+1))[k]=true):
 mA x i=some (x.rs[i].so,(x.rs.drop (i+1))[k].so):=by
 unfold mA
 have e:(x.rs.drop (i+1)).find? (fZ x x.rs[i])=some (x.rs.drop (i+1))[k]:=List.find?_eq_some_iff_getElem.2 ⟨hb,k,hk,rfl,fun j hj=>by rw[hn j (by omega) hj];rfl⟩
 rw[dt h,e]
 rfl
theorem FF{x:Vw}{i:Nat}{p:Int×Int}(h:i<x.rs.length)(hn:∀ k,k<i->mA x k=none)(hp:mA x i=some p):fe x=some p:=by
 unfold fe
 rw[List.findSome?_eq_some_iff]
 refine⟨List.range i,i,(List.range' (i+1) (x.rs.length-(i+1))),?_,hp,fun a ha=>hn a (List.mem_range.1 ha)⟩
 rw[List.range_eq_range',List.range_eq_range']
 have :x.rs.length=i+(1+(x.rs.length-(i+1))):=by omega
 conv=>lhs;rw[this]
 rw[<-List.range'_append_1,<-List.range'_append_1,Nat.zero_add]
 rfl
theorem FG{x:Vw}(hn:∀ k,k<x.rs.length->mA x k=none):fe x=none:=by
 unfold fe
 rw[List.findSome?_eq_none_iff]
 exact fun a ha=>hn a (List.mem_range.1 ha)
def K20:List (Nat×Spec):=[(129,S129)]
theorem ZL:KS K20:=tc Is<|tn
attribute [go_sem] K20
def L9:VSpec:=v0 (fun x=>m7 x) (fun x=>wF (fe x)) none
def S120:Spec:=L9.toSpec
attribute [go_sem] L9 S120
set_option maxHeartbeats 8000000 in
theorem Iu:aK Tryz.prog 120 S120:=by
 refine MX (rs:=[.tmp 2,.tmp 3]) Tryz.func120 Tryz.ntmps120 (by rfl) (by kernel_rfl) (by decide) (fun _=>by first | rfl | exact Po _ _ | simp[D.clos,D.closL,lE]) ⟨_,rfl,lb rfl,fun x hp H h0 h1 h2 hO ae=>?_⟩
 simp only[bq,cY,List.map_cons,List.map_nil,Nat.zero_add,Option.map_some,Option.map_none]at h0 |-
 have hΓ:=ZL
 have oZ:x.rs.length<=maxLen:=by have:=hp.rn;unfold maxLen;omega
 repeat refine sq ?_
 refine rx hΓ [0] [] (fun K' hK=>by simp only[go_sem,hO,ae,h0,h1,h2];(repeat (refine⟨an,?_⟩));exact hK _ (by simp only[go_sem,hO,ae,h0,h1,h2]) (by simp only[go_sem,hO,ae,h0,h1,h2]<;>rfl)) ?_
 repeat refine sq ?_
 refine rx hΓ [0,11,12,13] [] (fun K' hK=>by simp only[go_sem,hO,ae,h0,h1,h2];(repeat (refine⟨an,?_⟩));exact hK _ (by simp only[go_sem,hO,ae,h0,h1,h2]) (by simp only[go_sem,hO,ae,h0,h1,h2]<;>rfl)) ?_
 repeat refine sq ?_
 refine aS ?_
 repeat refine sq ?_
 refine cM (fun s:Nat=>[(13,⟨true,.v (vInt s)⟩)]) (fun s=>[]) (fun s=>s<=x.rs.length/\∀ k,k<s->mA x k=none) (fun s=>x.rs.length-s) 0 ?_ ?_ ?_ ?_
 ·exact⟨Nat.zero_le _,by simp⟩
 ·rfl
 ·rfl
 rintro i ⟨hi,hR⟩
 simp only[go_sem]
 repeat refine sq ?_
 refine rx hΓ [0,11,12,13,14] [] (fun K' hK=>by simp only[go_sem,hO,ae,h0,h1,h2];(repeat (refine⟨an,?_⟩));exact hK _ (by simp only[go_sem,hO,ae,h0,h1,h2]) (by simp only[go_sem,hO,ae,h0,h1,h2]<;>rfl)) ?_
 repeat refine sq ?_
 refine aB (fun hb=>?_) fun hb=>?_
 ·have ab:i<x.rs.length:=by simpa using hb
  have aq:(i:Int)<x.rs.length:=by omega
  clear hb
  have qe:IntKind.i64.wrap ((i:Int)+1)=((i+1:Nat):Int):=bn ab oZ
  have ph:x.rs.length-(i+1)<=maxLen:=by omega
  have qi:List.take (x.rs.length-(i+1)) ((x.rs.drop (i+1)).map encR)=(x.rs.drop (i+1)).map encR:=List.take_of_length_le (by simp)
  have dq:=hp.rs x.rs[i] (List.getElem_mem ab)
  repeat refine sq ?_
  refine aF ?_
  repeat refine sq ?_
  refine aS ?_
  repeat refine sq ?_
  refine rx hΓ [0,4,5,11,12,13] [[5,0]] (fun K' hK=>by simp only[go_sem,hO,ae,h0,h1,h2,ah ab,ai,aj,aq];(repeat (refine⟨an,?_⟩));exact hK _ (by simp only[go_sem,hO,ae,h0,h1,h2,ah ab,ai,aj,aq]) (by simp only[go_sem,hO,ae,h0,h1,h2,ah ab,ai,aj,aq]<;>rfl)) ?_
  repeat refine sq ?_
  refine rx hΓ [0,5,11,12,13,24,25,26] [[5,0]] (fun K' hK=>by simp only[go_sem,hO,ae,h0,h1,h2,ah ab,ai,aj,aq,qe,<-List.map_drop,qi];(repeat (refine⟨by first | exact an | exact⟨by omega,Int.le_refl _,fun y hy=>(Ar _ y hy).1⟩,?_⟩));exact hK _ (by simp only[go_sem,hO,ae,h0,h1,h2,ah ab,ai,aj,aq,qe,<-List.map_drop,qi]) (by simp only[go_sem,hO,ae,h0,h1,h2,ah ab,ai,aj,aq,qe,<-List.map_drop,qi]<;>rfl)) ?_
  repeat refine sq ?_
  refine aS ?_
  repeat refine sq ?_
  refine cM (fun s:Nat=>[(26,⟨true,.v (vInt s)⟩)]) (fun s=>[]) (fun s=>s<=(x.rs.drop (i+1)).length/\∀ k (hk:k<(x.rs.drop (i+1)).length),k<s->fZ x x.rs[i] (x.rs.drop (i+1))[k]=false) (fun s=>(x.rs.drop (i+1)).length-s) 0 ?_ ?_ ?_ ?_
  ·exact⟨Nat.zero_le _,by simp⟩
  ·rfl
  ·rfl
  rintro i1 ⟨hi,hR⟩
  simp only[go_sem]
  repeat refine sq ?_
  refine rx hΓ [0,5,11,12,13,24,25,26,27] [[5,0]] (fun K' hK=>by simp only[go_sem,hO,ae,h0,h1,h2,ah ab,ai,aj,aq];(repeat (refine⟨an,?_⟩));exact hK _ (by simp only[go_sem,hO,ae,h0,h1,h2,ah ab,ai,aj,aq]) (by simp only[go_sem,hO,ae,h0,h1,h2,ah ab,ai,aj,aq]<;>rfl)) ?_
  repeat refine sq ?_
  refine aB (fun hb=>?_) fun hb=>?_
  ·have aI:i1<(x.rs.drop (i+1)).length:=by simpa using hb
   have bj:(i1:Int)<(x.rs.drop (i+1)).length:=by omega
   clear hb
   have fg:=hp.rs (x.rs.drop (i+1))[i1] (List.mem_of_mem_drop (List.getElem_mem aI))
   repeat refine sq ?_
   refine aF ?_
   repeat refine sq ?_
   refine aS ?_
   repeat refine sq ?_
   refine rx hΓ [0,5,7,11,12,13,24,25,26] [[5,0],[7,0]] (fun K' hK=>by simp only[go_sem,hO,ae,h0,h1,h2,ah ab,ai,aj,aq,ah aI,ai,aj,bj];(repeat (refine⟨an,?_⟩));exact hK _ (by simp only[go_sem,hO,ae,h0,h1,h2,ah ab,ai,aj,aq,ah aI,ai,aj,bj]) (by simp only[go_sem,hO,ae,h0,h1,h2,ah ab,ai,aj,aq,ah aI,ai,aj,bj]<;>rfl)) ?_
   repeat refine sq ?_
   refine rx hΓ [0,5,7,11,12,13,24,25,26,33] [[5,0],[7,0]] (fun K' hK=>by simp only[go_sem,hO,ae,h0,h1,h2,ah ab,ai,aj,aq,ah aI,ai,aj,bj];(repeat (refine⟨an,?_⟩));exact hK _ (by simp only[go_sem,hO,ae,h0,h1,h2,ah ab,ai,aj,aq,ah aI,ai,aj,bj]) (by simp only[go_sem,hO,ae,h0,h1,h2,ah ab,ai,aj,aq,ah aI,ai,aj,bj]<;>rfl)) ?_
   repeat refine sq ?_
   refine aB (fun hb=>?_) fun hb=>?_
   ·repeat refine sq ?_
    refine rx hΓ [2,3] [] (fun K' hK=>by simp only[go_sem,hO,ae,h0,h1,h2,ah ab,ai,aj,aq,ah aI,ai,aj,bj];(repeat (refine⟨an,?_⟩));exact hK _ (by simp only[go_sem,hO,ae,h0,h1,h2,ah ab,ai,aj,aq,ah aI,ai,aj,bj]) (by simp only[go_sem,hO,ae,h0,h1,h2,ah ab,ai,aj,aq,ah aI,ai,aj,bj]<;>rfl)) ?_
    refine av ?_
    simp only[go_sem,hO,ae,h0,h1,h2]
    rw[FF ab (by assumption) (FH ab aI hR (by simpa using hb))];rfl
   ·repeat refine sq ?_
    refine aF ?_
    refine b9 ?_
    simp only[go_sem]
    refine eo [0,5,11,12,13,24,25,26] [[5,0]] ?_ ?_
    ·simp only[go_sem,hO,ae,h0,h1,h2]
    simp only[go_sem,hO,ae,h0,h1,h2]
    repeat refine sq ?_
    refine bc hΓ fun K' hK=>?_
    simp only[go_sem,hO,ae,h0,h1,h2,ah ab,ai,aj,aq,ah aI,ai,aj,bj]
    repeat (refine⟨an,?_⟩)
    refine hK _ ?_
    clear K' hK
    simp only[go_sem]
    refine⟨i1+1,⟨aI,?_⟩,by(show (x.rs.drop (i+1)).length-(i1+1)<(x.rs.drop (i+1)).length-i1;omega),?_⟩
    ·intro k hk eh
     rcases Nat.lt_succ_iff_lt_or_eq.1 eh with h5 | rfl
     ·exact hR k hk h5
     ·simpa using hb
    refine bu [0,5,11,12,13,24,25,26] [[5,0]] ?_ ?_<;>simp only[go_sem,bn aI (by rw[List.length_drop];omega:(x.rs.drop (i+1)).length<=maxLen),br,hO,ae,h0,h1,h2]
  ·have iY:i1=(x.rs.drop (i+1)).length:=by
    have :¬ (i1:Int)<(x.rs.drop (i+1)).length:=by simpa using hb
    omega
   clear hb
   subst iY
   repeat refine sq ?_
   refine bW ?_
   simp only[go_sem]
   refine eo [0,11,12,13] [] ?_ ?_
   ·simp only[go_sem,hO,ae,h0,h1,h2]
   simp only[go_sem,hO,ae,h0,h1,h2]
   repeat refine sq ?_
   refine bc hΓ fun K' hK=>?_
   simp only[go_sem,hO,ae,h0,h1,h2,ah ab,ai,aj,aq]
   repeat (refine⟨an,?_⟩)
   refine hK _ ?_
   clear K' hK
   simp only[go_sem]
   refine⟨i+1,⟨ab,?_⟩,by(show x.rs.length-(i+1)<x.rs.length-i;omega),?_⟩
   ·intro k hk
    rcases Nat.lt_succ_iff_lt_or_eq.1 hk with h5 | rfl
    ·exact(by assumption:∀ k,k<i->mA x k=none) k h5
    ·exact Am ab fun j hj=>hR j hj hj
   refine bu [0,11,12,13] [] ?_ ?_<;>simp only[go_sem,bn ab oZ,br,hO,ae,h0,h1,h2]
 ·have bF:i=x.rs.length:=by
   have :¬ (i:Int)<x.rs.length:=by simpa using hb
   omega
  clear hb
  subst bF
  repeat refine sq ?_
  refine bW ?_
  simp only[go_sem]
  refine eo [] [] ?_ ?_
  ·simp only[go_sem,hO,ae,h0,h1,h2]
  simp only[go_sem,hO,ae,h0,h1,h2]
  repeat refine sq ?_
  refine rx hΓ [2,3] [] (fun K' hK=>by simp only[go_sem,hO,ae,h0,h1,h2];(repeat (refine⟨an,?_⟩));exact hK _ (by simp only[go_sem,hO,ae,h0,h1,h2]) (by simp only[go_sem,hO,ae,h0,h1,h2]<;>rfl)) ?_
  refine av ?_
  simp only[go_sem,hO,ae,h0,h1,h2]
  rw[FG hR];rfl
end
def jl(obj:Name->Option O)(L:List O):Name->Option O:=fun nm=>match aQ L nm with | some o=>some o | none=>obj nm
theorem Nw{L1 L2:List O}(h:L2.length=L1.length):jl (aQ L1) L2=aQ L2:=by
 funext nm
 unfold jl
 cases hx:cQ nm with
 |false=>rw[wJ hx,wJ hx]
 |true=>
  obtain⟨i,rfl⟩:=uz.1 hx
  simp only[aQ]
  by_cases hi:i<L2.length
  ·rw[List.getElem?_eq_getElem hi]
  ·rw[List.getElem?_eq_none (by omega),List.getElem?_eq_none (by omega)]
theorem AL(n:Nat)(p:Name)(F H:Name->Option O)(L:List O)(l:List (Nat×E))(h:List (Name×O)):
 bb n p (jl (fun nm=>if own p nm=true then F nm else H nm) L) l h=bb n p (jl H L) l h:=
 w6 fun nm hn=>by unfold jl;simp[hn]
theorem DO(p:Name)(dom:Name->Bool)(F H:Name->Option O)(L:List O):
 bU p dom (jl (fun nm=>if own p nm=true then F nm else H nm) L)=bU p dom (jl H L):=by
 have e:∀ nm,own p nm=false->jl (fun nm=>if own p nm=true then F nm else H nm) L nm=jl H L nm:=fun nm hn=>by unfold jl;simp[hn]
 exact propext ⟨fun k nm q hn h=>k nm q hn (by rw[e nm hn];exact h),fun k nm q hn h=>k nm q hn (by rw[<-e nm hn];exact h)⟩
def Lp.I(r:Lp)(s:Nat):List O:=r.rc (LI r.m) .ready none::r.fam (LI r.m) s
theorem Lp.I_len{r:Lp}(hr:r.Ok)(s:Nat):(r.I s).length=r.m+1:=by unfold Lp.I;rw[List.length_cons,hr.len _ _ (gf _)]
theorem Lp.I_clos{r:Lp}(hr:r.Ok)(s:Nat):∀ o∈r.I s,∀ dom:Name->Bool,(∀ i,dom [i,1]=true)->O.clos dom o=true:=by
 intro o ho dom hd
 have pj:∀ x∈LI r.m,dom x=true:=fun x hx=>by
  obtain⟨i,_,rfl⟩:=List.mem_map.1 hx
  exact hd _
 rcases List.mem_cons.1 ho with rfl | ho
 ·exact hr.closE _ _ (gf _) pj
 ·exact hr.closF _ _ _ (gf _) pj _ ho
theorem Lp.y_setU{r:Lp}(hr:r.Ok)(cH:∀ j,r.st j=none){s:Nat}(hs:s<r.n)(obj:Name->Option O)(tm:Name)(ho:∀ nm,cQ nm=true->obj nm=aQ (r.I s) nm):
 r.y.toSpec.app obj tm (.yld [0,1]::r.vals s)=⟨True,.v (.bool true),jl obj (r.I (s+1))⟩:=by
 have qE:(LI r.m).Nodup:=List.Pairwise.map _ (fun a b h=>by simpa using h) List.nodup_range
 have vj:([0,1]:Name)∉LI r.m:=fun h=>by
  obtain⟨i,_,hi⟩:=List.mem_map.1 h
  simp at hi
 have h0:obj [0,1]=some (r.rc (LI r.m) .ready none):=by
  rw[ho _ rfl];rfl
 have hF:cF obj (LI r.m) (r.fam (LI r.m) s):=by
  rw[jT]
  refine List.ext_getElem (by rw[List.length_map,List.length_map,gf,hr.len _ _ (gf _)]) fun i h3 h4=>?_
  simp only[List.getElem_map,LI,List.getElem_range]
  rw[ho _ rfl]
  simp only[Lp.I,aQ,List.getElem?_cons_succ]
  have h5:i<(r.fam (LI r.m) s).length:=by simpa using h4
  rw[List.getElem?_eq_getElem h5]
  rfl
 have xW:=Lp.y_app hr hs (fun j _=>cH j) (t:=tm) (gf _) qE vj h0 hF
 rw[xW,cH s]
 simp only[Option.isNone_none,if_true]
 congr 1
 funext nm
 have hlen:=hr.len (LI r.m) (s+1) (gf _)
 by_cases hR:nm=[0,1]
 ·subst hR
  rw[aM]
  rfl
 ·rw[aU _ _ _ hR]
  unfold jl
  cases hx:cQ nm with
  |false=>
   rw[wJ hx,tO]
   intro gk
   obtain⟨i,_,rfl⟩:=List.mem_map.1 gk
   cases hx
  |true=>
   obtain⟨i,rfl⟩:=uz.1 hx
   have dU:=EE (obj:=obj) (F:=r.fam (LI r.m) (s+1)) qE (by rw[gf,hlen])
   match i,hR with
   | 0,hR=>exact(hR rfl).elim
   |i+1,_=>
    simp only[Lp.I,aQ,List.getElem?_cons_succ]
    by_cases hi:i<r.m
    ·have h6:=Az dU i (by rw[gf];exact hi) (by rw[hlen];exact hi)
     simp only[LI,List.getElem_map,List.getElem_range]at h6
     rw[show (r.fam (LI r.m) (s+1))[i]?=some (r.fam (LI r.m) (s+1))[i]from List.getElem?_eq_getElem (by rw[hlen];exact hi)]
     exact h6
    ·rw[List.getElem?_eq_none (by rw[hlen];omega),tO]
     intro gk
     obtain⟨j,TM,TL⟩:=List.mem_map.1 gk
     have :=List.mem_range.1 TM
     simp at TL
     omega
theorem Lp.go_e{r:Lp}(cH:∀ j,r.st j=none):r.e=r.n/\r.pd=none:=by
 have :(List.range r.n).find? (fun s=>(r.st s).isSome)=none:=List.find?_eq_none.2 fun s _=>by rw[cH s];decide
 unfold Lp.e Lp.pd
 rw[this]
 exact⟨rfl,rfl⟩
theorem Lp.go_end{P:Program}{r:Lp}(hr:r.Ok)(cH:∀ j,r.st j=none){σ:S}(eA:∀ i,σ.obj [i,1]=aQ (r.I r.n) [i,1]):
 (bI P σ []).ok/\(bI P σ []).d=.tup []/\fx (r.rc (LI r.m) .ready none::r.fam (LI r.m) 0) ⟨(0,r.fin (LI r.m))::eF 1 (r.fam (LI r.m) r.e),[],.tup []⟩ σ:=by
 obtain⟨e1,e2⟩:=Lp.go_e cH
 refine Lp.it_end hr ?_ ?_
 ·rw[eA]
  unfold Lp.fin
  rw[e2]
  rfl
 ·rw[jT,e1]
  refine List.ext_getElem (by rw[List.length_map,List.length_map,gf,hr.len _ _ (gf _)]) fun i h3 h4=>?_
  simp only[List.getElem_map,LI,List.getElem_range]
  rw[eA]
  simp only[Lp.I,aQ,List.getElem?_cons_succ]
  have h5:i<(r.fam (LI r.m) r.n).length:=by simpa using h4
  rw[List.getElem?_eq_getElem h5]
  rfl
theorem Lp.itC_sound{P:Program}{r:Lp}(hr:r.Ok)(cH:∀ j,r.st j=none){dz:List Name->List D}{f:FuncId}{fn:Func}{nt:Nat}(hf:P.funcs[f]?=some fn)(cJ:fn.ntmps=nt)(bY:fn.results.toList=[])(hn:(fn.name== "runtime.NumGoroutine")=false)(hy:f<1000000000)
 (hw:∃ c,fn.body=some c/\(dz (LI r.m)).length+1<=nt/\CL P [c] (bb nt [0] (aQ (r.I 0)) (cY 0 (.yld [0,1]::dz (LI r.m))) []) (fun e σ=>(e=.normal\/e=.ret)/\∀ i,σ.obj [i,1]=aQ (r.I r.n) [i,1])):aK P f (r.itC dz).toSpec:=by
 obtain⟨c,hc,hl,hw⟩:=hw
 refine mS hf hc cJ bY (gn hf hc hn) (Nat.ne_of_lt (show f<yid from hy)) ?_
 rintro os ds ⟨rfl,rfl⟩
 refine⟨by simpa using hl,CW.mono (iw hw) ?_⟩
 rintro e σ ⟨he,eA⟩
 rcases he with rfl | rfl
 ·exact Lp.go_end hr cH eA
 ·exact Lp.go_end hr cH eA
noncomputable section
def ox(obj:Name->Option O)(t:Name):List D->R
 |[.ref nv 0,.v (.int .i64 pa),.v (.sl lv)]=>match gM obj nv with
  |some (nb,nd,x)=>⟨mC obj nv nb nd x/\obj (3::0::t)=none,.clo (.func 193) [] [.ref (3::0::t) 0,.v (.ptr [vInt pa]),.v (.ptr [.sl lv])],upd obj (3::0::t) (some (.box [.ref nv 0]))⟩
  |_=>.bad obj
 |_=>.bad obj
def zt(obj:Name->Option O)(t:Name):List D->List Name
 | .ref nv _::_=>(3::0::t)::nv::(match obj nv with | some (.box [_,_,_,.map nb,.map nd])=>[nb,nd] | _=>[])
 |_=>[]
def withS:Spec:=⟨ox,zt,zt⟩
theorem Vr{obj obj2:Name->Option O}{nv:Name}(h1:obj2 nv=obj nv)(h2:∀ nm∈(match obj nv with | some (.box [_,_,_,.map nb,.map nd])=>[nb,nd] | _=>[]),obj2 nm=obj nm):gM obj2 nv=gM obj nv:=by
 unfold gM
 rw[h1]
 split
 ·rename_i lp rs ts nb nd h
  rw[h]at h2
  rw[h2 nb (by simp),h2 nd (by simp)]
 ·rfl
theorem Vq{obj:Name->Option O}{nv nb nd:Name}{x:Vw}(h:gM obj nv=some (nb,nd,x)):(match obj nv with | some (.box [_,_,_,.map nb,.map nd])=>[nb,nd] | _=>[])=[nb,nd]:=by
 unfold gM at h
 split at h
 ·rename_i e
  split at h
  ·cases h;rw[e]
  ·cases h
 ·cases h
theorem MJ:withS.Near:=by
 refine t' fun obj obj2 t ds ha=>?_
 unfold zt at ha |-
 split
 ·rename_i nv off r
  simp only at ha
  have h1:obj2 nv=obj nv:=ha nv (by simp)
  have hg:=Vr h1 fun nm hn=>ha nm (by simp[hn])
  refine⟨by rw[h1],?_⟩
  unfold ox
  split
  ·rename_i nv' pa lv e
   cases e
   simp only[hg]
   split
   ·rename_i nb nd x hx
    have au:=Vq hx
    rw[au]at ha |-
    have aa:mC obj2 nv nb nd x=mC obj nv nb nd x:=by unfold mC;rw[h1,ha nb (by simp),ha nd (by simp)]
    rw[aa,ha (3::0::t) (by simp)]
    exact .one (by simp) ha
   ·exact .none _ ha
  ·exact .none _ ha
 ·refine⟨rfl,?_⟩
  rename_i mM
  unfold ox
  split
  ·exact(mM _ _ _ rfl).elim
  ·exact .none _ (fun _ h=>by cases h)
attribute [go_sem] withS ox
def vX:CSpec where
 pre:=fun os ds=>∃ (x:Vw) (pa:Int) (lv:List V),os=[bq x [1,1] [2,1],.map 2 (bM x.bk),.map 0 (bB x.ds)]/\ds=[.ref [0,1] 0,.v (vInt pa),.v (.sl lv)]
 out:=fun _ ds=>match ds with
  |[_,.v p,.v l]=>⟨[],[([3,0],.box [.ref [0,1] 0])],.clo (.func 193) [] [.ref [3,0] 0,.v (.ptr [p]),.v (.ptr [l])]⟩
  |_=>⟨[],[],.any⟩
theorem MI{f:FuncId}(h:aK Tryz.prog f vX.toSpec)(aC:f≠yid):aK Tryz.prog f withS:=by
 refine tK h MJ aC fun obj t ds aa=>?_
 change (ox obj t ds).ok at aa
 refine⟨ds,rfl,fun _ _ _ _ h=>h,?_⟩
 show _/\_=(ox obj t ds).d/\_=(ox obj t ds).obj
 unfold ox at aa |-
 split at aa
 ·rename_i nv pa lv
  split at aa
  ·rename_i nb nd x vd
   obtain⟨hv,cD⟩:=aa
   have qf:=hv
   obtain⟨h1,h2,h3,h4,h5,h6⟩:=qf
   have n4:nv≠nb:=by simpa using h4
   have n5:nv≠nd:=by simpa using h5
   have n6:nb≠nd:=by simpa using h6
   have hr:=Fh hv [vInt pa,.sl lv]
   simp only[List.map_cons,List.map_nil]at hr
   have i0:idx [nv,nb,nd] nv=0:=by simp[idx]
   have i1:idx [nv,nb,nd] nb=1:=by simp[idx,n4]
   have i2:idx [nv,nb,nd] nd=2:=by simp[idx,n5,n6]
   have e1:cg obj [.ref nv 0,.v (vInt pa),.v (.sl lv)]=[bq x [1,1] [2,1],.map 2 (bM x.bk),.map 0 (bB x.ds)]:=by
    unfold cg
    rw[hr]
    simp only[List.map_cons,List.map_nil,cm,h1,h2,h3,bq,O.ren,D.renL,D.ren,cin,i1,i2]
   have e2:cN obj [.ref nv 0,.v (vInt pa),.v (.sl lv)]=[.ref [0,1] 0,.v (vInt pa),.v (.sl lv)]:=by
    unfold cN
    rw[hr]
    simp only[D.renL,D.ren,cin,i0]
   have e5:(shut obj [nv,nb,nd]&&D.closL (cG [nv,nb,nd]) [.ref nv 0,.v (vInt pa),.v (.sl lv)]&&fresh obj t [([3,0],.box [.ref [0,1] 0])])=true:=by
    simp[shut,h1,h2,h3,bq,O.clos,D.closL,D.clos,cG,fresh,cD]
   have e4:vX.pre [bq x [1,1] [2,1],.map 2 (bM x.bk),.map 0 (bB x.ds)] [.ref [0,1] 0,.v (vInt pa),.v (.sl lv)]:=⟨x,pa,lv,rfl,rfl⟩
   have e6:∀ os,vX.out os [.ref [0,1] 0,.v (vInt pa),.v (.sl lv)]=⟨[],[([3,0],.box [.ref [0,1] 0])],.clo (.func 193) [] [.ref [3,0] 0,.v (.ptr [vInt pa]),.v (.ptr [.sl lv])]⟩:=fun _=>rfl
   have VI:cN obj [.ref nv 0,.v (V.int .i64 pa),.v (.sl lv)]=[.ref [0,1] 0,.v (vInt pa),.v (.sl lv)]:=e2
   have VK:cg obj [.ref nv 0,.v (V.int .i64 pa),.v (.sl lv)]=_:=e1
   have o0:reach obj [.ref nv 0,.v (V.int .i64 pa),.v (.sl lv)]=_:=hr
   have VH:(shut obj [nv,nb,nd]&&D.closL (cG [nv,nb,nd]) [.ref nv 0,.v (V.int .i64 pa),.v (.sl lv)]&&fresh obj t [([3,0],.box [.ref [0,1] 0])])=true:=e5
   simp only[CSpec.toSpec,VK,VI,o0,e6,e4,VH,vd,and_self,c9,cj]
   exact⟨trivial,rfl,rfl⟩
  ·exact aa.elim
 ·exact aa.elim
def S164:Spec:=withS
attribute [go_sem] S164
set_option maxHeartbeats 4000000 in
theorem Bc:aK Tryz.prog 164 S164:=by
 refine MI ?_ (lK _ (by decide))
 refine mS (nt:=8) (rs:=[.tmp 6]) Tryz.func164 rfl (by rfl) (by kernel_rfl) (gn Tryz.func164 rfl (by kernel_rfl)) (lK _ (by decide)) ?_
 rintro os ds ⟨x,pa,lv,rfl,rfl⟩
 refine⟨lb rfl,?_⟩
 have ie:∀ os,vX.out os [.ref [0,1] 0,.v (vInt pa),.v (.sl lv)]=⟨[],[([3,0],.box [.ref [0,1] 0])],.clo (.func 193) [] [.ref [3,0] 0,.v (.ptr [vInt pa]),.v (.ptr [.sl lv])]⟩:=fun _=>rfl
 rw[ie]
 refine iw ?_
 have hΓ:=@ff Tryz.prog
 have hO:∀ hs,bU [0] (bP [0] hs) (aQ [bq x [1,1] [2,1],.map 2 (bM x.bk),.map 0 (bB x.ds)])=True:=fun hs=>eq_true (nz (by
  intro o ho dom hd
  simp only[List.mem_cons,List.not_mem_nil,or_false]at ho
  rcases ho with rfl | rfl | rfl
  ·simp[bq,O.clos,D.closL,D.clos,hd]
  ·rfl
  ·rfl) hs)
 have h0:aQ [bq x [1,1] [2,1],.map 2 (bM x.bk),.map 0 (bB x.ds)] [0,1]=some (bq x [1,1] [2,1]):=rfl
 have h1:aQ [bq x [1,1] [2,1],.map 2 (bM x.bk),.map 0 (bB x.ds)] [1,1]=some (.map 2 (bM x.bk)):=rfl
 have h2:aQ [bq x [1,1] [2,1],.map 2 (bM x.bk),.map 0 (bB x.ds)] [2,1]=some (.map 0 (bB x.ds)):=rfl
 generalize aQ [bq x [1,1] [2,1],.map 2 (bM x.bk),.map 0 (bB x.ds)]=H at *
 repeat refine sq ?_
 refine rx hΓ [3,4,5] [[3,0],[4,0],[5,0]] (fun K' hK=>by simp only[go_sem,hO];(repeat (refine⟨an,?_⟩));exact hK _ (by simp only[go_sem,hO]) (by simp only[go_sem,hO]<;>rfl)) ?_
 refine dw (gg 4 (.ref [4,0] 0) (by simp only[go_sem]) (by simp only[go_sem]) [3,4,5] [[3,0],[4,0],[5,0]] ?_ rfl) ?_
 ·simp only[go_sem,hO]
 simp only[go_sem,hO]
 refine dw (gg 5 (.ref [5,0] 0) (by simp only[go_sem]) (by simp only[go_sem]) [3,4,5] [[3,0]] ?_ rfl) ?_
 ·simp only[go_sem,hO]
 simp only[go_sem,hO]
 repeat refine sq ?_
 refine rx hΓ [6] [[3,0],[4,0],[5,0]] (fun K' hK=>by simp only[go_sem,hO];(repeat (refine⟨an,?_⟩));exact hK _ (by simp only[go_sem,hO]) (by simp only[go_sem,hO]<;>rfl)) ?_
 refine av ?_
 simp only[go_sem,hO]
 exact⟨⟨h0,h1,h2⟩,rfl⟩
end
attribute [go_sem] uD
theorem rZ(lv:List Int):pG (194,[.ptr [.sl (lv.map vInt)]])=fun n=>lv.contains n:=by
 funext n
 simp only[pG,oe]
set_option maxHeartbeats 8000000 in
theorem MW{sY:Spec}(hY:aK Tryz.prog yid sY){x:Vw}{nb nd:Name}{pa:Int}{lv:List Int}{ia ic:Nat}{I:Nat->List O}(hv:∀ r∈x.rs,dQ r=true)(lQ:x.rs.length<=60)
 (hI:∀ s,(I s).length=(I 0).length) (hc:∀ s,∀ o∈I s,∀ dom:Name->Bool,(∀ i,dom [i,1]=true)->O.clos dom o=true)
 (ha:aQ (I 0) [ia,1]=some (.box [.ref [ic,1] 0])) (hx:aQ (I 0) [ic,1]=some (bq x nb nd))
 (cH:∀ s (h:s<x.rs.length),gl pa lv x.rs[s]=false->I (s+1)=I s)
 (l7:∀ s (h:s<x.rs.length),gl pa lv x.rs[s]=true->∀ obj tm,(∀ nm,cQ nm=true->obj nm=aQ (I s) nm)->sY.app obj tm [.yld [0,1],fB x.rs[s]]=⟨True,.v (.bool true),jl obj (I (s+1))⟩):
 ∃ c',Tryz.f193.body=some c'/\CL Tryz.prog [c'] (bb 33 [0] (aQ (I 0)) [(0,⟨true,.yld [0,1]⟩),(1,⟨true,.ref [ia,1] 0⟩),(2,⟨true,.v (.ptr [vInt pa])⟩),(3,⟨true,.v (.ptr [.sl (lv.map vInt)])⟩)] [])
   (fun e σ=>(e=.normal\/e=.ret)/\∀ i,σ.obj [i,1]=aQ (I x.rs.length) [i,1]):=by
 refine⟨_,rfl,?_⟩
 obtain⟨Γ,hΓ,fv,ft⟩:∃ Γ:FuncId->Option Spec,(∀ f s,Γ f=some s->aK Tryz.prog f s)/\Γ 160=some S160/\Γ 1000000000=some sY:=by
  refine⟨fun f=>if f=160 then some S160 else if f=1000000000 then some sY else none,fun f s h=>?_,rfl,rfl⟩
  dsimp only at h
  split at h
  ·rename_i e;cases h;subst e;exact Iq
  ·split at h
   ·rename_i e;cases h;subst e;exact hY
   ·cases h
 have hO:∀ s hs,bU [0] (bP [0] hs) (aQ (I s))=True:=fun s hs=>eq_true (nz (hc s) hs)
 have xr:∀ s,jl (aQ (I s)) (I (s+1))=aQ (I (s+1)):=fun s=>Nw ((hI _).trans (hI s).symm)
 obtain⟨H,hH⟩:∃ H:Nat->Name->Option O,∀ s,aQ (I s)=H s:=⟨_,fun _=>rfl⟩
 simp only[hH]at hO xr l7 ha hx |-
 simp only[bq]at hx
 have oZ:x.rs.length<=maxLen:=by unfold maxLen;omega
 repeat refine sq ?_
 refine rx hΓ [0,2,3,10,11,12] [] (fun K' hK=>by simp only[go_sem,hO,ha,hx];(repeat (refine⟨an,?_⟩));exact hK _ (by simp only[go_sem,hO,ha,hx]) (by simp only[go_sem,hO,ha,hx]<;>rfl)) ?_
 repeat refine sq ?_
 refine aS ?_
 repeat refine sq ?_
 refine Dc (fun s:Nat=>bb 33 [0] (H s) [(0,⟨true,.yld [0,1]⟩),(2,⟨true,.v (.ptr [vInt pa])⟩),(3,⟨true,.v (.ptr [.sl (lv.map vInt)])⟩),(10,⟨true,.v (.sl (x.rs.map encR))⟩),(11,⟨true,.v (vInt x.rs.length)⟩),(12,⟨true,.v (vInt s)⟩)] [])
  (fun s=>s<=x.rs.length) (fun s=>x.rs.length-s) 0 (Nat.zero_le _) (dG.refl _) ?_
 rintro i hi
 repeat refine sq ?_
 refine rx hΓ [0,2,3,10,11,12,13] [] (fun K' hK=>by simp only[go_sem,hO];(repeat (refine⟨an,?_⟩));exact hK _ (by simp only[go_sem,hO]) (by simp only[go_sem,hO]<;>rfl)) ?_
 repeat refine sq ?_
 refine aB (fun hb=>?_) fun hb=>?_
 ·have ab:i<x.rs.length:=by simpa using hb
  have aq:(i:Int)<x.rs.length:=by omega
  have Bo:IntKind.i64.wrap ((i:Int)+1)=((i+1:Nat):Int):=bn ab oZ
  clear hb
  have hlf:=Ff (hv x.rs[i] (List.getElem_mem ab))
  repeat refine sq ?_
  refine aF ?_
  repeat refine sq ?_
  refine aS ?_
  repeat refine sq ?_
  refine rx hΓ [0,2,3,6,10,11,12] [[6,0]] (fun K' hK=>by simp only[go_sem,hO,ah ab,ai,aj,aq];(repeat (refine⟨an,?_⟩));exact hK _ (by simp only[go_sem,hO,ah ab,ai,aj,aq]) (by simp only[go_sem,hO,ah ab,ai,aj,aq]<;>rfl)) ?_
  have Ju:(if gl pa lv x.rs[i]=true then H (i+1)else H i)=H (i+1):=by
   split
   ·rfl
   ·rename_i h;rw[<-hH,<-hH,cH i ab (by simpa using h)]
  by_cases sx:x.rs[i].pa=pa
  ·have iX:(x.rs[i].pa==pa)=true:=by simp[sx]
   cases i6:x.rs[i].lv.any fun n=>lv.contains n with
   |true=>
    have l3:gl pa lv x.rs[i]=true:=by unfold gl;rw[i6];simp[sx]
    have xX:=fun (F:Name->Option O) (tm:Name)=>l7 i ab l3 (fun nm=>if own [0] nm=true then F nm else H i nm) tm fun nm hn=>by
     obtain⟨k,rfl⟩:=uz.1 hn
     simp[r8]
    simp only[fB]at xX
    repeat refine sq ?_
    refine rx hΓ [0,2,3,10,11,12,31] [] (fun K' hK=>by simp only[go_sem,hO,fv,ft,iX,rZ,i6,xX,AL,DO,xr,Bool.not_true];(repeat (refine⟨by first | exact an | exact⟨trivial,.inr (.inr ⟨_,rfl⟩)⟩ | exact .inr (.inr ⟨_,rfl⟩),?_⟩));exact hK _ (by simp only[go_sem,hO,fv,ft,iX,rZ,i6,xX,AL,DO,xr,Bool.not_true]) (by simp only[go_sem,hO,fv,ft,iX,rZ,i6,xX,AL,DO,xr,Bool.not_true]<;>rfl)) ?_
    repeat refine sq ?_
    refine aB (fun hb=>?_) fun hb=>?_
    ·cases hb
    repeat refine sq ?_
    refine aF ?_
    refine b9 ?_
    simp only[go_sem]
    refine eo [0,2,3,10,11,12] [] ?_ ?_
    ·simp only[go_sem,hO]
    simp only[go_sem,hO]
    repeat refine sq ?_
    refine bc hΓ fun K' hK=>?_
    simp only[go_sem]
    repeat (refine⟨an,?_⟩)
    refine hK _ ?_
    clear K' hK
    simp only[go_sem]
    refine⟨i+1,ab,by omega,?_⟩
    refine bu [0,2,3,10,11,12] [] ?_ ?_<;>simp only[go_sem,hO,Bo,br]
   |false=>
    have l3:gl pa lv x.rs[i]=false:=by unfold gl;rw[i6];simp
    have Cq:H (i+1)=H i:=by rw[<-hH,<-hH,cH i ab l3]
    repeat refine sq ?_
    refine rx hΓ [0,2,3,10,11,12,31] [] (fun K' hK=>by simp only[go_sem,hO,fv,ft,iX,rZ,i6];(repeat (refine⟨by first | exact an | exact⟨trivial,.inr (.inr ⟨_,rfl⟩)⟩ | exact .inr (.inr ⟨_,rfl⟩),?_⟩));exact hK _ (by simp only[go_sem,hO,fv,ft,iX,rZ,i6]) (by simp only[go_sem,hO,fv,ft,iX,rZ,i6]<;>rfl)) ?_
    repeat refine sq ?_
    refine aB (fun hb=>?_) fun hb=>?_
    ·cases hb
    repeat refine sq ?_
    refine aF ?_
    refine b9 ?_
    simp only[go_sem]
    refine eo [0,2,3,10,11,12] [] ?_ ?_
    ·simp only[go_sem,hO]
    simp only[go_sem,hO]
    repeat refine sq ?_
    refine bc hΓ fun K' hK=>?_
    simp only[go_sem]
    repeat (refine⟨an,?_⟩)
    refine hK _ ?_
    clear K' hK
    simp only[go_sem]
    refine⟨i+1,ab,by omega,?_⟩
    rw[Cq]
    refine bu [0,2,3,10,11,12] [] ?_ ?_<;>simp only[go_sem,hO,Bo,br]
  ·have iX:(x.rs[i].pa==pa)=false:=by simp[sx]
   have l3:gl pa lv x.rs[i]=false:=by unfold gl;simp[sx]
   have Cq:H (i+1)=H i:=by rw[<-hH,<-hH,cH i ab l3]
   repeat refine sq ?_
   refine rx hΓ [0,2,3,10,11,12,31] [] (fun K' hK=>by simp only[go_sem,hO,fv,ft,iX];(repeat (refine⟨an,?_⟩));exact hK _ (by simp only[go_sem,hO,fv,ft,iX]) (by simp only[go_sem,hO,fv,ft,iX]<;>rfl)) ?_
   repeat refine sq ?_
   refine aB (fun hb=>?_) fun hb=>?_
   ·cases hb
   repeat refine sq ?_
   refine aF ?_
   refine b9 ?_
   simp only[go_sem]
   refine eo [0,2,3,10,11,12] [] ?_ ?_
   ·simp only[go_sem,hO]
   simp only[go_sem,hO]
   repeat refine sq ?_
   refine bc hΓ fun K' hK=>?_
   simp only[go_sem]
   repeat (refine⟨an,?_⟩)
   refine hK _ ?_
   clear K' hK
   simp only[go_sem]
   refine⟨i+1,ab,by omega,?_⟩
   rw[Cq]
   refine bu [0,2,3,10,11,12] [] ?_ ?_<;>simp only[go_sem,hO,Bo,br]
 ·have bF:i=x.rs.length:=by
    have :¬ (i:Int)<x.rs.length:=by simpa using hb
    omega
  subst bF
  clear hb
  repeat refine sq ?_
  refine bW ?_
  simp only[go_sem]
  refine b9 ?_
  simp only[go_sem]
  first | exact .inl trivial | exact⟨by simp,fun k=>by simp[r8]⟩
set_option maxRecDepth 10000
noncomputable section
theorem tH{α:Type}{p:α->Bool}{l:List α}{s:Nat}(h:s<l.length):((l.take (s+1)).filter p)=(l.take s).filter p++(if p l[s]=true then[l[s]]else[]):=by
 rw[List.take_add_one,List.getElem?_eq_getElem h,List.filter_append]
 simp only[Option.toList_some,List.filter_cons,List.filter_nil]
theorem VA{α:Type}{p:α->Bool}{l:List α}{s:Nat}{z:α}(h:s<l.length)(hp:p l[s]=true):((l.take s).filter p).length<(l.filter p).length/\(l.filter p).getD ((l.take s).filter p).length z=l[s]:=by
 have e:l.filter p=(l.take s).filter p++(l[s]::(l.drop (s+1)).filter p):=by
  conv=>lhs;rw[<-List.take_append_drop s l,List.filter_append,List.drop_eq_getElem_cons h,List.filter_cons,if_pos hp]
 refine⟨?_,?_⟩
 ·rw[e,List.length_append,List.length_cons];omega
 ·rw[e];simp[List.getD]
def je(j:Nat)(pa:Int)(lv:List Int)(Ls:List Name):List D:=[.ref (Ls.getD j []) 0,.v (.ptr [vInt pa]),.v (.ptr [.sl (lv.map vInt)])]
theorem EK{r:Lp}(hr:r.Ok)(cH:∀ j,r.st j=none)(hy:aK Tryz.prog yid r.y.toSpec){x:Vw}{nb nd:Name}{pa:Int}{lv:List Int}{j jc:Nat}(hv:∀ q∈x.rs,dQ q=true)(lQ:x.rs.length<=60)
 (hn:r.n=(dk x.rs pa lv).length) (S6:∀ s,r.vals s=[fB ((dk x.rs pa lv).getD s zeroR)]) (hj:j<r.m) (ha:aQ (r.I 0) [j+1,1]=some (.box [.ref [jc+1,1] 0])) (hx:aQ (r.I 0) [jc+1,1]=some (bq x nb nd)):
 aK Tryz.prog 193 (r.itC (je j pa lv)).toSpec:=by
 have fV:je j pa lv (LI r.m)=[.ref [j+1,1] 0,.v (.ptr [vInt pa]),.v (.ptr [.sl (lv.map vInt)])]:=by
  unfold je
  have :(LI r.m).getD j []=[j+1,1]:=by simp[LI,hj]
  rw[this]
 obtain⟨c,hc,h⟩:=MW hy (x:=x) (nb:=nb) (nd:=nd) (pa:=pa) (lv:=lv) (ia:=j+1) (ic:=jc+1) (I:=fun s=>r.I ((x.rs.take s).filter (gl pa lv)).length) hv lQ
  (fun s=>by rw[Lp.I_len hr,Lp.I_len hr]) (fun s=>Lp.I_clos hr _) (by simpa using ha) (by simpa using hx)
  (fun s hs hh=>by rw[tH hs,hh];simp)
  (fun s hs hh obj tm ho=>by
    obtain⟨h1,h2⟩:=VA (z:=zeroR) hs hh
    have :=Lp.y_setU hr cH (s:=((x.rs.take s).filter (gl pa lv)).length) (by rw[hn];exact h1) obj tm ho
    rw[S6]at this
    unfold dk at this
    rw[h2]at this
    rw[this,tH hs,hh]
    simp)
 refine Lp.itC_sound hr cH Tryz.func193 Tryz.ntmps193 (by rfl) (by kernel_rfl) (by decide) ⟨c,hc,by rw[fV];exact lb rfl,?_⟩
 rw[fV]
 have h0:r.I ((x.rs.take 0).filter (gl pa lv)).length=r.I 0:=by simp
 have h9:r.I ((x.rs.take x.rs.length).filter (gl pa lv)).length=r.I r.n:=by rw[List.take_length,hn];rfl
 simp only[h0,h9]at h
 exact h
theorem Fk{a b:Rec}(h:fB a=fB b):a=b:=by
 obtain⟨a1,a2,a3,al,a4,a5,a6⟩:=a
 obtain⟨b1,b2,b3,bl,b4,b5,b6⟩:=b
 simp only[fB,D.agg.injEq,List.cons.injEq,D.v.injEq,vInt,V.int.injEq,V.sl.injEq,true_and,and_true]at h
 obtain⟨rfl,rfl,rfl,hl,rfl,rfl,rfl⟩:=h
 have :=congrArg (List.map jb) hl
 have e:∀ l:List Int,(l.map fun n=>V.int .i64 n).map jb=l:=fun l=>oe l
 rw[e,e]at this
 rw[this]
theorem D4{l:List Rec}(hn:l.Nodup):∀ s s',s<l.length->s'<l.length->([fB (l.getD s zeroR)]:List D)=[fB (l.getD s' zeroR)]->s=s':=by
 intro s s' h h' e
 have e1:=Fk (List.cons.inj e).1
 rw[dt h,dt h']at e1
 exact(List.getElem_inj hn).1 e1
def pP:Code->Option (Array Tmp×Code×Code)
 | .seq a b=>match pP a with | some x=>some x | none=>pP b
 | .block _ b=>pP b
 | .loop b=>pP b
 | .cond _ a b=>match pP a with | some x=>some x | none=>pP b
 | .rangeFunc _ ps a b=>some (ps,a,b)
 |_=>none
def oF(fn:Func):Array Tmp×Code×Code:=((fn.body.bind pP).getD (#[],.skip,.skip))
theorem jW{Ls:List Name}(h:Ls.length=5):∃ a b c d e,Ls=[a,b,c,d,e]:=by
 match Ls,h with
 |[a,b,c,d,e],_=>exact⟨a,b,c,d,e,rfl⟩
theorem oL{Ls:List Name}(h:Ls.length=7):∃ a b c d e f g,Ls=[a,b,c,d,e,f,g]:=by
 match Ls,h with
 |[a,b,c,d,e,f,g],_=>exact⟨a,b,c,d,e,f,g,rfl⟩
def gG(l:Led)(k i j:Int)(n:Nat)(x:Vw)(r:Rec)(lv:List Int):Lp where
 m:=5
 env:=fun Ls=>(List.range 181).map (dn eAny [(0,⟨true,.v (ja l)⟩),(5,⟨true,.ref (Ls.getD 0 []) 0⟩),(17,⟨true,.v (.ptr [vInt i])⟩),(19,⟨true,.v (.ptr [vInt r.so,vInt r.bo,vInt r.pa,.sl (r.lv.map vInt),vInt r.da,vInt r.kn,vInt r.un])⟩),(141,⟨true,.v (.sl (x.ts.map vInt))⟩),(142,⟨true,.v (vInt n)⟩),(143,⟨true,.v (vInt j)⟩),(166,⟨true,.clo (.func 193) [] (je 4 r.pa lv Ls)⟩)])
 fam:=fun Ls s=>[.box [.ref (Ls.getD 1 []) 0],bq x (Ls.getD 2 []) (Ls.getD 3 []),.map 2 (bM x.bk),.map 0 (bB (jU x.ds i r.da ((dk x.rs r.pa lv).take s))),.box [.ref (Ls.getD 1 []) 0]]
 ps:=(oF Tryz.f76).1.toList
 asg:=(oF Tryz.f76).2.1
 body:=(oF Tryz.f76).2.2
 n:=(dk x.rs r.pa lv).length
 vals:=fun s=>[fB ((dk x.rs r.pa lv).getD s zeroR)]
 st:=fun _=>none
 fu:=100
theorem Gt(l:Led)(k i j:Int)(n:Nat)(x:Vw)(r:Rec)(lv:List Int)(hn:x.rs.Nodup):(gG l k i j n x r lv).Ok where
 len:=fun Ls s _=>rfl
 renE:=fun f Ls h=>by obtain⟨a,b,c,d,e,rfl⟩:=jW h;rfl
 renF:=fun f Ls s h=>by obtain⟨a,b,c,d,e,rfl⟩:=jW h;rfl
 reach:=fun Ls s obj acc q h b7 hd hF=>by
  obtain⟨a,b,c,d,e,rfl⟩:=jW h
  obtain⟨h1,h2,h3,h4,h5,_⟩:=hF
  have en:cP (((gG l k i j n x r lv).env [a,b,c,d,e]).map (·.d))=[a,e]:=rfl
  rw[en]
  show dd obj (q+91+1+1+1+1+1+1+1+1+1) _ acc=_
  simp only[List.mem_cons,List.not_mem_nil,or_false,forall_eq_or_imp,forall_eq]at hd
  obtain⟨d1,d2,d3,d4,d5⟩:=hd
  simp only[List.nodup_cons,List.mem_cons,List.not_mem_nil,or_false,not_or,not_false_eq_true,List.nodup_nil,and_true]at b7
  obtain⟨⟨a1,a2,a3,a4⟩,⟨b1,b2,b3⟩,⟨c1,c2⟩,e1⟩:=b7
  simp[dd,fG,h1,h2,h3,h4,h5,kK,cP,kL,bq,d1,d2,d3,d4,d5,Ne.symm a1,Ne.symm a2,Ne.symm a3,Ne.symm a4,Ne.symm b1,Ne.symm b2,Ne.symm b3,Ne.symm c1,Ne.symm c2,Ne.symm e1]
 closE:=fun dom Ls h hd=>by
  obtain⟨a,b,c,d,e,rfl⟩:=jW h
  have h1:=hd a (by simp)
  have h2:=hd e (by simp)
  simp[gG,List.range,List.range.loop,dn,D.closL,D.clos,eAny,h1,h2,je]
 closF:=fun dom Ls s h hd o ho=>by
  obtain⟨a,b,c,d,e,rfl⟩:=jW h
  have h1:=hd b (by simp)
  have h2:=hd c (by simp)
  have h3:=hd d (by simp)
  simp only[gG,List.mem_cons,List.not_mem_nil,or_false]at ho
  rcases ho with rfl | rfl | rfl | rfl | rfl<;>simp[O.clos,D.closL,D.clos,bq,h1,h2,h3]
 psz:=fun Ls h=>by rfl
 args:=fun s=>by rfl
 fuel:=(show (100:Nat)<=2000 by decide)
 vnam:=fun _=>rfl
 vcl:=fun _ _=>rfl
 vren:=fun _ _=>rfl
 inj:=D4 (hn.filter _)
def K23:List (Nat×Spec):=[(165,S165)]
theorem ZK:KS K23:=tc Bb<|tn
attribute [go_sem] K23
theorem PU(d:Ds)(i da:Int){os:List Rec}{s:Nat}(h:s<os.length):jU d i da (os.take (s+1))=if os[s].da>da then nE (jU d i da (os.take s)) i ⟨0,os[s].da⟩else jU d i da (os.take s):=by
 unfold jU
 rw[List.take_add_one,List.getElem?_eq_getElem h,List.foldl_append]
 rfl
set_option maxHeartbeats 4000000 in
theorem Qt(l:Led)(k i j:Int)(n:Nat)(x:Vw)(r:Rec)(lv:List Int)(hn:x.rs.Nodup):aK Tryz.prog yid (gG l k i j n x r lv).y.toSpec:=by
 refine Lp.y_sound (Gt l k i j n x r lv hn) fun s hs _=>?_
 have hΓ:=ZK
 have gj:s<(dk x.rs r.pa lv).length:=hs
 have Cd:(gG l k i j n x r lv).fam (LR 5) s=[.box [.ref [1,1] 0],bq x [2,1] [3,1],.map 2 (bM x.bk),.map 0 (bB (jU x.ds i r.da ((dk x.rs r.pa lv).take s))),.box [.ref [1,1] 0]]:=rfl
 have Cc:(gG l k i j n x r lv).fam (LR 5) (s+1)=[.box [.ref [1,1] 0],bq x [2,1] [3,1],.map 2 (bM x.bk),.map 0 (bB (jU x.ds i r.da ((dk x.rs r.pa lv).take (s+1)))),.box [.ref [1,1] 0]]:=rfl
 have cH:(gG l k i j n x r lv).st s=none:=rfl
 have hv:(gG l k i j n x r lv).vals s=[fB ((dk x.rs r.pa lv)[s])]:=by rw[<-dt (z:=zeroR) gj];rfl
 have hm:(gG l k i j n x r lv).m=5:=rfl
 rw[hm,Cd,Cc,cH,hv,PU _ _ _ gj]
 generalize (dk x.rs r.pa lv)[s]=o
 generalize jU x.ds i r.da ((dk x.rs r.pa lv).take s)=d
 generalize gK:[O.box [.ref [1,1] 0],bq x [2,1] [3,1],.map 2 (bM x.bk),.map 0 (bB d),.box [.ref [1,1] 0]]=os
 have hO:∀ hs,bU [0] (bP [0] hs) (aQ os)=True:=by
  subst gK
  refine fun hs=>eq_true (nz ?_ hs)
  intro o ho dom hd
  simp only[List.mem_cons,List.not_mem_nil,or_false]at ho
  rcases ho with rfl | rfl | rfl | rfl | rfl<;>simp[O.clos,D.closL,D.clos,bq,hd]
 have ae:∀ hs es,bU [0] (bP [0] hs) (fun nm=>if nm=[3,1]then some (.map 0 es)else aQ os nm)=True:=fun hs es=>eq_true (ru (nm:=[3,1]) (o:=.map 0 es) rfl (by rw[hO];trivial))
 have h0:aQ os [0,1]=some (.box [.ref [1,1] 0]):=by subst gK;rfl
 have h1:aQ os [1,1]=some (bq x [2,1] [3,1]):=by subst gK;rfl
 have h2:aQ os [2,1]=some (.map 2 (bM x.bk)):=by subst gK;rfl
 have h3:aQ os [3,1]=some (.map 0 (bB d)):=by subst gK;rfl
 have h4:aQ os [4,1]=some (.box [.ref [1,1] 0]):=by subst gK;rfl
 generalize hH:aQ os=H at *
 clear gK hH
 simp only[bq]at h1 |-
 have lQ:oF Tryz.f76=(_,_,_):=rfl
 refine s5 (zu 181 [0] H [(5,⟨true,.ref [0,1] 0⟩),(17,⟨true,.v (.ptr [vInt i])⟩),(19,⟨true,.v (.ptr [vInt r.so,vInt r.bo,vInt r.pa,.sl (r.lv.map vInt),vInt r.da,vInt r.kn,vInt r.un])⟩),(167,⟨true,fB o⟩)] [] rfl rfl (fun _ _=>rfl) ?_ (by simp) ?_ ?_) ?_
 ·intro q hq
  simp only[List.mem_cons,List.not_mem_nil,or_false]at hq
  rcases hq with rfl | rfl | rfl | rfl<;>rfl
 ·simp[D.clos,D.closL,bP,own,fB]
 ·rw[hO];trivial
 simp only[gG,lQ]
 refine iw ?_
 repeat refine sq ?_
 refine bc hΓ fun K' hK=>?_
 simp only[go_sem,hO,ae,h0,h1,h2,h3,h4]
 repeat (refine⟨an,?_⟩)
 refine hK _ ?_
 clear K' hK
 simp only[go_sem]
 (show CW _ _ _ _)
 refine iw ?_
 repeat refine sq ?_
 refine aS ?_
 repeat refine sq ?_
 refine rx hΓ [5,17,19,21,172] [[5,0],[17,0],[19,0],[21,0],[23,0],[24,0],[26,0],[49,0],[124,0]] (fun K' hK=>by simp only[go_sem,hO,ae,h0,h1,h2,h3,h4];(repeat (refine⟨an,?_⟩));exact hK _ (by simp only[go_sem,hO,ae,h0,h1,h2,h3,h4]) (by simp only[go_sem,hO,ae,h0,h1,h2,h3,h4]<;>rfl)) ?_
 repeat refine sq ?_
 refine aB (fun hb=>?_) fun hb=>?_
 ·repeat refine sq ?_
  refine bc hΓ fun K' hK=>?_
  simp only[go_sem,hO,ae,h0,h1,h2,h3,h4]
  repeat (refine⟨an,?_⟩)
  refine hK _ ?_
  clear K' hK
  simp only[go_sem]
  refine b9 ?_
  have cX:o.da>r.da:=by simpa using hb
  rw[if_pos cX]
  refine⟨rfl,?_⟩
  show cF _ [[0,1],[1,1],[2,1],[3,1],[4,1]] _
  simp only[cF,go_sem,h0,h1,h2,h3,h4,CZ]
  simp[AH,nE]
 ·repeat refine sq ?_
  refine aF ?_
  refine b9 ?_
  simp only[go_sem]
  have cX:¬ o.da>r.da:=by simpa using hb
  rw[if_neg cX]
  refine⟨rfl,?_⟩
  show cF _ [[0,1],[1,1],[2,1],[3,1],[4,1]] _
  simp only[cF,go_sem,h0,h1,h2,h3,h4,CZ]
end
noncomputable section
def e8:Option Rec->List D
 |some r=>qY r
 |none=>[.v (vInt 0),.v (vInt 0),.v (vInt 0),.nilsl,.v (vInt 0),.v (vInt 0),.v (vInt 0)]
def k9(rs:List Rec)(pa le day:Int)(s:Nat):Option Rec:=((dk rs pa [le]).take s).foldl (vI day) none
theorem Xf{rs:List Rec}{pa le day:Int}{s:Nat}(h:s<(dk rs pa [le]).length):k9 rs pa le day (s+1)=vI day (k9 rs pa le day s) (dk rs pa [le])[s]:=by
 unfold k9
 rw[List.take_add_one,List.getElem?_eq_getElem h,List.foldl_append]
 rfl
theorem Xg(rs:List Rec)(pa le day:Int):k9 rs pa le day (dk rs pa [le]).length=ko rs pa le day:=by
 unfold k9 ko
 rw[List.take_length]
def gr(x:Vw)(pa le day:Int):Lp where
 m:=7
 env:=fun Ls=>(List.range 37).map (dn eAny [(5,⟨true,.v (.ptr [vInt day])⟩),(6,⟨true,.ref (Ls.getD 0 []) 0⟩),(8,⟨true,.ref (Ls.getD 1 []) 0⟩),(9,⟨true,.ref (Ls.getD 2 []) 0⟩),(17,⟨true,.clo (.func 193) [] (je 3 pa [le] Ls)⟩)])
 fam:=fun Ls s=>[.box (e8 none),.box (e8 (k9 x.rs pa le day s)),.box [.v (.bool (k9 x.rs pa le day s).isSome)],.box [.ref (Ls.getD 4 []) 0],bq x (Ls.getD 5 []) (Ls.getD 6 []),.map 2 (bM x.bk),.map 0 (bB x.ds)]
 ps:=(oF Tryz.f119).1.toList
 asg:=(oF Tryz.f119).2.1
 body:=(oF Tryz.f119).2.2
 n:=(dk x.rs pa [le]).length
 vals:=fun s=>[fB ((dk x.rs pa [le]).getD s zeroR)]
 st:=fun _=>none
 fu:=100
theorem WO(f:Name->Name)(o:Option Rec):D.renL f (e8 o)=e8 o:=by cases o<;>rfl
theorem K8(o:Option Rec):cP (e8 o)=[]:=by cases o<;>rfl
theorem yC(p:Name->Bool)(o:Option Rec):D.closL p (e8 o)=true:=by cases o<;>rfl
theorem Dw(x:Vw)(pa le day:Int)(hn:x.rs.Nodup):(gr x pa le day).Ok where
 len:=fun Ls s _=>rfl
 renE:=fun f Ls h=>by obtain⟨a,b,c,d,e,f,g,rfl⟩:=oL h;rfl
 renF:=fun f Ls s h=>by
  obtain⟨a,b,c,d,e,f,g,rfl⟩:=oL h
  simp only[gr,List.map_cons,List.map_nil,O.ren,WO,D.renL,D.ren,bq,List.getD_cons_succ,List.getD_cons_zero]
 reach:=fun Ls s obj acc q h b7 hd hF=>by
  obtain⟨a,b,c,d,e,f,g,rfl⟩:=oL h
  obtain⟨h1,h2,h3,h4,h5,h6,h7,_⟩:=hF
  have en:cP (((gr x pa le day).env [a,b,c,d,e,f,g]).map (·.d))=[a,b,c,d]:=rfl
  rw[en]
  show dd obj (q+91+1+1+1+1+1+1+1+1+1) _ acc=_
  simp only[List.mem_cons,List.not_mem_nil,or_false,forall_eq_or_imp,forall_eq]at hd
  obtain⟨d1,d2,d3,d4,d5,d6,d7⟩:=hd
  simp only[List.nodup_cons,List.mem_cons,List.not_mem_nil,or_false,not_or,not_false_eq_true,List.nodup_nil,and_true]at b7
  obtain⟨⟨a1,a2,a3,a4,a5,a6⟩,⟨b1,b2,b3,b4,b5⟩,⟨c1,c2,c3,c4⟩,⟨e1,e2,e3⟩,⟨f1,f2⟩,g1⟩:=b7
  simp[dd,fG,h1,h2,h3,h4,h5,h6,h7,kK,cP,kL,bq,K8,d1,d2,d3,d4,d5,d6,d7,Ne.symm a1,Ne.symm a2,Ne.symm a3,Ne.symm a4,Ne.symm a5,Ne.symm a6,Ne.symm b1,Ne.symm b2,Ne.symm b3,Ne.symm b4,Ne.symm b5,Ne.symm c1,Ne.symm c2,Ne.symm c3,Ne.symm c4,Ne.symm e1,Ne.symm e2,Ne.symm e3,Ne.symm f1,Ne.symm f2,Ne.symm g1]
 closE:=fun dom Ls h hd=>by
  obtain⟨a,b,c,d,e,f,g,rfl⟩:=oL h
  have h1:=hd a (by simp)
  have h2:=hd b (by simp)
  have h3:=hd c (by simp)
  have h4:=hd d (by simp)
  simp[gr,List.range,List.range.loop,dn,D.closL,D.clos,eAny,h1,h2,h3,h4,je]
 closF:=fun dom Ls s h hd o ho=>by
  obtain⟨a,b,c,d,e,f,g,rfl⟩:=oL h
  have h1:=hd e (by simp)
  have h2:=hd f (by simp)
  have h3:=hd g (by simp)
  simp only[gr,List.mem_cons,List.not_mem_nil,or_false]at ho
  rcases ho with rfl | rfl | rfl | rfl | rfl | rfl | rfl<;>simp[O.clos,D.closL,D.clos,bq,yC,h1,h2,h3]
 psz:=fun Ls h=>by rfl
 args:=fun s=>by rfl
 fuel:=(show (100:Nat)<=2000 by decide)
 vnam:=fun _=>rfl
 vcl:=fun _ _=>rfl
 vren:=fun _ _=>rfl
 inj:=D4 (hn.filter _)
theorem Xj(x:Vw)(pa le day:Int):zp (gr x pa le day) (je 3 pa [le]) where
 ren:=fun f Ls h=>by obtain⟨a,b,c,d,e,f,g,rfl⟩:=oL h;rfl
 clo:=fun dom Ls h hd=>by
  obtain⟨a,b,c,d,e,f,g,rfl⟩:=oL h
  have h4:=hd d (by simp)
  simp[D.closL,D.clos,h4,je]
 reach:=fun Ls s obj R q h b7 hF h0=>by
  obtain⟨a,b,c,d,e,f,g,rfl⟩:=oL h
  obtain⟨h1,h2,h3,h4,h5,h6,h7,_⟩:=hF
  have en:cP (((gr x pa le day).env [a,b,c,d,e,f,g]).map (·.d))=[a,b,c,d]:=rfl
  have ec:cP (je 3 pa [le] [a,b,c,d,e,f,g])=[d]:=rfl
  rw[ec]
  show dd obj (q+90+1+1+1+1+1+1+1+1+1+1+1) _ []=_
  simp only[List.nodup_cons,List.mem_cons,List.not_mem_nil,or_false,not_or,not_false_eq_true,List.nodup_nil,and_true]at b7
  obtain⟨⟨r1,r2,r3,r4,r5,r6,r7⟩,⟨a1,a2,a3,a4,a5,a6⟩,⟨b1,b2,b3,b4,b5⟩,⟨c1,c2,c3,c4⟩,⟨e1,e2,e3⟩,⟨f1,f2⟩,g1⟩:=b7
  simp[dd,fG,h0,h1,h2,h3,h4,h5,h6,h7,Lp.rc,kK,en,cP,kL,bq,K8,Ne.symm r1,Ne.symm r2,Ne.symm r3,Ne.symm r4,Ne.symm r5,Ne.symm r6,Ne.symm r7,Ne.symm a1,Ne.symm a2,Ne.symm a3,Ne.symm a4,Ne.symm a5,Ne.symm a6,Ne.symm b1,Ne.symm b2,Ne.symm b3,Ne.symm b4,Ne.symm b5,Ne.symm c1,Ne.symm c2,Ne.symm c3,Ne.symm c4,Ne.symm e1,Ne.symm e2,Ne.symm e3,Ne.symm f1,Ne.symm f2,Ne.symm g1]
theorem Xh(day:Int)(o:Option Rec)(r:Rec):vI day o r=if decide (r.da<=day)&&(!o.isSome||decide (r.da>=(o.getD zeroR).da))then some r else o:=by
 unfold vI
 cases o<;>rfl
theorem Xi(x:Vw)(pa le day:Int)(hn:x.rs.Nodup):aK Tryz.prog yid (gr x pa le day).y.toSpec:=by
 refine Lp.y_sound (Dw x pa le day hn) fun s hs _=>?_
 have hΓ:=@ff Tryz.prog
 have gj:s<(dk x.rs pa [le]).length:=hs
 have Cd:(gr x pa le day).fam (LR 7) s=[.box (e8 none),.box (e8 (k9 x.rs pa le day s)),.box [.v (.bool (k9 x.rs pa le day s).isSome)],.box [.ref [4,1] 0],bq x [5,1] [6,1],.map 2 (bM x.bk),.map 0 (bB x.ds)]:=rfl
 have Cc:(gr x pa le day).fam (LR 7) (s+1)=[.box (e8 none),.box (e8 (k9 x.rs pa le day (s+1))),.box [.v (.bool (k9 x.rs pa le day (s+1)).isSome)],.box [.ref [4,1] 0],bq x [5,1] [6,1],.map 2 (bM x.bk),.map 0 (bB x.ds)]:=rfl
 have cH:(gr x pa le day).st s=none:=rfl
 have hv:(gr x pa le day).vals s=[fB ((dk x.rs pa [le])[s])]:=by rw[<-dt (z:=zeroR) gj];rfl
 have hm:(gr x pa le day).m=7:=rfl
 rw[hm,Cd,Cc,cH,hv,Xf gj,Xh]
 generalize (dk x.rs pa [le])[s]=r
 generalize k9 x.rs pa le day s=o
 obtain⟨c3,e0,e1⟩:∃ c3,(c3=.nilsl\/∃ l,c3=.v (.sl l))/\e8 o=[.v (vInt (o.getD zeroR).so),.v (vInt (o.getD zeroR).bo),.v (vInt (o.getD zeroR).pa),c3,.v (vInt (o.getD zeroR).da),.v (vInt (o.getD zeroR).kn),.v (vInt (o.getD zeroR).un)]:=by
  cases o with
  |none=>exact⟨_,.inl rfl,rfl⟩
  |some q=>exact⟨_,.inr ⟨_,rfl⟩,rfl⟩
 have e2:∀ p,D.clos p c3=true:=fun p=>by rcases e0 with rfl | ⟨l,rfl⟩<;>rfl
 generalize gK:[O.box (e8 none),.box (e8 o),.box [.v (.bool o.isSome)],.box [.ref [4,1] 0],bq x [5,1] [6,1],.map 2 (bM x.bk),.map 0 (bB x.ds)]=os
 have hO:∀ hs,bU [0] (bP [0] hs) (aQ os)=True:=by
  subst gK
  refine fun hs=>eq_true (nz ?_ hs)
  intro o ho dom hd
  simp only[List.mem_cons,List.not_mem_nil,or_false]at ho
  rcases ho with rfl | rfl | rfl | rfl | rfl | rfl | rfl<;>simp[O.clos,D.closL,D.clos,bq,hd,yC]
 have ae:∀ hs cs b,(∀ p,D.closL p cs=true)->bU [0] (bP [0] hs) (fun nm=>if nm=[2,1]then some (.box [.v (.bool b)])else if nm=[1,1]then some (.box cs)else aQ os nm)=True:=fun hs cs b fV=>
  eq_true (ru (nm:=[2,1]) (o:=.box [.v (.bool b)]) rfl (ru (nm:=[1,1]) (o:=.box cs) (by simp[O.clos,fV]) (by rw[hO];trivial)))
 have h0:aQ os [0,1]=some (.box (e8 none)):=by subst gK;rfl
 have h1:aQ os [1,1]=some (.box (e8 o)):=by subst gK;rfl
 have h2:aQ os [2,1]=some (.box [.v (.bool o.isSome)]):=by subst gK;rfl
 have h3:aQ os [3,1]=some (.box [.ref [4,1] 0]):=by subst gK;rfl
 have h4:aQ os [4,1]=some (bq x [5,1] [6,1]):=by subst gK;rfl
 have h5:aQ os [5,1]=some (.map 2 (bM x.bk)):=by subst gK;rfl
 have h6:aQ os [6,1]=some (.map 0 (bB x.ds)):=by subst gK;rfl
 generalize hH:aQ os=H at *
 clear gK hH
 rw[e1]at h1
 have lQ:oF Tryz.f119=(_,_,_):=rfl
 refine s5 (zu 37 [0] H [(5,⟨true,.v (.ptr [vInt day])⟩),(8,⟨true,.ref [1,1] 0⟩),(9,⟨true,.ref [2,1] 0⟩),(18,⟨true,fB r⟩)] [] rfl rfl (fun _ _=>rfl) ?_ (by simp) ?_ ?_) ?_
 ·intro q hq
  simp only[List.mem_cons,List.not_mem_nil,or_false]at hq
  rcases hq with rfl | rfl | rfl | rfl<;>rfl
 ·simp[D.clos,D.closL,bP,own,fB]
 ·rw[hO];trivial
 simp only[gr,lQ]
 refine iw ?_
 repeat refine sq ?_
 refine bc hΓ fun K' hK=>?_
 simp only[go_sem,hO,h0,h1,h2,h3,h4,e2]
 repeat (refine⟨an,?_⟩)
 refine hK _ ?_
 clear K' hK
 simp only[go_sem]
 (show CW _ _ _ _)
 refine iw ?_
 repeat refine sq ?_
 refine aS ?_
 repeat refine sq ?_
 refine rx hΓ [5,8,9,10,33] [[5,0],[8,0],[9,0],[10,0]] (fun K' hK=>by simp only[go_sem,hO,h0,h1,h2,h3,h4,e2];(repeat (refine⟨an,?_⟩));exact hK _ (by simp only[go_sem,hO,h0,h1,h2,h3,h4,e2]) (by simp only[go_sem,hO,h0,h1,h2,h3,h4,e2]<;>rfl)) ?_
 repeat refine sq ?_
 refine aB (fun hb=>?_) fun hb=>?_
 ·repeat refine sq ?_
  refine bc hΓ fun K' hK=>?_
  simp only[go_sem,hO,h0,h1,h2,h3,h4,e2]
  repeat (refine⟨an,?_⟩)
  refine hK _ ?_
  clear K' hK
  simp only[go_sem]
  refine b9 ?_
  rw[if_pos (by rw[<-Bool.and_eq_true];exact hb)]
  refine⟨rfl,?_⟩
  show cF _ [[0,1],[1,1],[2,1],[3,1],[4,1],[5,1],[6,1]] _
  simp only[cF,go_sem,h0,h1,h2,h3,h4,h5,h6]
  simp[e8,qY]
 ·repeat refine sq ?_
  refine aF ?_
  refine b9 ?_
  simp only[go_sem]
  rw[if_neg (by rw[<-Bool.and_eq_true,hb];decide)]
  refine⟨rfl,?_⟩
  show cF _ [[0,1],[1,1],[2,1],[3,1],[4,1],[5,1],[6,1]] _
  simp only[cF,go_sem,h0,h1,h2,h3,h4,h5,h6,e1]
  first | done | exact⟨trivial,trivial⟩
def FX(p:Name)(H:Name->Option O):List Name->List O->Prop
 |x::xs,o::os=>(own p x=true\/H x=some o)/\FX p H xs os
 |_,_=>True
theorem ED{p:Name}{H:Name->Option O}{nm:Name}(hn:own p nm=false):∀ {Ls:List Name} {F:List O} {obj:Name->Option O},FX p H Ls F->obj nm=H nm->dH Ls F obj nm=H nm
 |[],_,_,_,h=>by simpa[dH]using h
 |x::xs,[],_,_,h=>by simpa[dH]using h
 |x::xs,o::os,obj,hk,h=>by
  simp only[dH]
  refine ED hn hk.2 ?_
  by_cases e:nm=x
  ·subst e
   rw[aM]
   rcases hk.1 with h1 | h1
   ·rw[hn]at h1;cases h1
   ·exact h1.symm
  ·rw[aU _ _ _ e];exact h
def K24:List (Nat×Spec):=[(164,S164)]
theorem ZJ:KS K24:=tc Bc<|tn
attribute [go_sem] K24
def Ma:VSpec:=v2 mG iI (fun x _ _=>m7 x/\x.rs.Nodup) (fun x f day=>.tup [lF (ko x.rs f.pa f.le day),.v (.bool (ko x.rs f.pa f.le day).isSome)]) none
def S119:Spec:=Ma.toSpec
attribute [go_sem] Ma S119
set_option maxHeartbeats 8000000 in
theorem Sy:aK Tryz.prog 119 S119:=by
 refine zz (rs:=[.cell 6 36,.tmp 7]) Tryz.func119 Tryz.ntmps119 (by rfl) (by kernel_rfl) (by decide) (fun _ _ _=>by first | rfl | exact lE _ _ | simp[D.clos,D.closL,lE]) ⟨_,rfl,lb rfl,fun x f day hp H h0 h1 h2 hO ae=>?_⟩
 have hP:=gE
 simp only[mG,iI,qQ,bq,cY,List.map_cons,List.map_nil,Nat.zero_add,Option.map_some,Option.map_none]at h0 |-
 have hΓ:=ZJ
 obtain⟨hv,b7⟩:=hp
 obtain⟨pa,le⟩:=f
 repeat refine sq ?_
 refine rx hΓ [0,4,5,6] [[4,0],[5,0],[6,0]] (fun K' hK=>by simp only[go_sem,hO,ae,h0,h1,h2];(repeat (refine⟨an,?_⟩));exact hK _ (by simp only[go_sem,hO,ae,h0,h1,h2]) (by simp only[go_sem,hO,ae,h0,h1,h2]<;>rfl)) ?_
 refine dw (gg 4 (.ref [4,0] 0) (by simp only[go_sem]) (by simp only[go_sem]) [0,4,5,6] [[4,0],[5,0],[6,0]] ?_ rfl) ?_
 ·simp only[go_sem,hO,ae,h0,h1,h2]
 simp only[go_sem,hO,ae,h0,h1,h2]
 repeat refine sq ?_
 refine rx hΓ [0,4,5,6,8] [[4,0],[5,0],[6,0],[8,0]] (fun K' hK=>by simp only[go_sem,hO,ae,h0,h1,h2];(repeat (refine⟨an,?_⟩));exact hK _ (by simp only[go_sem,hO,ae,h0,h1,h2]) (by simp only[go_sem,hO,ae,h0,h1,h2]<;>rfl)) ?_
 repeat refine sq ?_
 refine rx hΓ [0,4,5,6,8,9] [[4,0],[5,0],[6,0],[8,0],[9,0]] (fun K' hK=>by simp only[go_sem,hO,ae,h0,h1,h2];(repeat (refine⟨an,?_⟩));exact hK _ (by simp only[go_sem,hO,ae,h0,h1,h2]) (by simp only[go_sem,hO,ae,h0,h1,h2]<;>rfl)) ?_
 repeat refine sq ?_
 refine rx hΓ [5,6,8,9,17] [[5,0],[6,0],[8,0],[9,0],[3,0,17,0]] (fun K' hK=>by simp only[go_sem,hO,ae,h0,h1,h2];(repeat (refine⟨an,?_⟩));exact hK _ (by simp only[go_sem,hO,ae,h0,h1,h2]) (by simp only[go_sem,hO,ae,h0,h1,h2]<;>rfl)) ?_
 refine dw (gg 5 (.ref [5,0] 0) (by simp only[go_sem]) (by simp only[go_sem]) [5,6,8,9,17] [[5,0],[6,0],[8,0],[9,0],[3,0,17,0]] ?_ rfl) ?_
 ·simp only[go_sem,hO,ae,h0,h1,h2]
 simp only[go_sem,hO,ae,h0,h1,h2]
 repeat refine sq ?_
 refine aS ?_
 repeat refine sq ?_
 have fL:aK Tryz.prog 193 ((gr x pa le day).itC (je 3 pa [le])).toSpec:=EK (Dw x pa le day b7) (fun _=>rfl) (Xi x pa le day b7) hv.rs hv.rn rfl (fun _=>rfl) (j:=3) (jc:=4) (show 3<7 by decide) rfl rfl
 refine KZ (Dw x pa le day b7) (Xj x pa le day) (f:=193) 30 31 (Ls:=[[6,0],[8,0],[9,0],[3,0,17,0],[0,1],[1,1],[2,1]]) rfl rfl (by decide) fL rfl rfl rfl rfl rfl rfl (by decide) (show ([30,0]:Name)∉[[6,0],[8,0],[9,0],[3,0,17,0],[0,1],[1,1],[2,1]]by decide) ⟨rfl,rfl,rfl,rfl,h0,h1,h2,trivial⟩ fun o=>?_
 obtain⟨g1,g2⟩:=Lp.go_e (r:=gr x pa le day) (fun _=>rfl)
 have g3:(gr x pa le day).fam [[6,0],[8,0],[9,0],[3,0,17,0],[0,1],[1,1],[2,1]] (gr x pa le day).e=[.box (e8 none),.box (e8 (ko x.rs pa le day)),.box [.v (.bool (ko x.rs pa le day).isSome)],.box [.ref [0,1] 0],bq x [1,1] [2,1],.map 2 (bM x.bk),.map 0 (bB x.ds)]:=by
  rw[g1,<-Xg];rfl
 rw[g2,g3]
 simp only[wI,iE]
 refine b9 ?_
 show CL Tryz.prog (_::_) _ _
 obtain⟨cs,fV,cb⟩:∃ cs,cs=e8 (ko x.rs pa le day)/\∀ p,D.closL p cs=true:=⟨_,rfl,fun p=>yC p _⟩
 refine dw (dG.toM (zu 37 [0] H [(6,⟨true,.ref [6,0] 0⟩),(8,⟨true,.ref [8,0] 0⟩),(9,⟨true,.ref [9,0] 0⟩)] [([6,0],.box (e8 none)),([8,0],.box (e8 (ko x.rs pa le day))),([9,0],.box [.v (.bool (ko x.rs pa le day).isSome)])] rfl rfl (fun nm hn=>?_) ?_ ?_ ?_ (by rw[hO];trivial))) ?_
 ·have e1:nm≠[30,0]:=by rintro rfl;cases hn
  show upd _ [30,0] _ nm=_
  rw[aU _ _ _ e1]
  exact ED hn ⟨.inl rfl,.inl rfl,.inl rfl,.inl rfl,.inr h0,.inr h1,.inr h2,trivial⟩ (by simp[bb,hn])
 ·intro q hq
  simp only[List.mem_cons,List.not_mem_nil,or_false]at hq
  rcases hq with rfl | rfl | rfl<;>rfl
 ·intro q hq
  simp only[List.mem_cons,List.not_mem_nil,or_false]at hq
  rcases hq with rfl | rfl | rfl<;>rfl
 ·simp[O.clos,D.closL,D.clos,yC,bP]
 clear fV cb
 generalize ko x.rs pa le day=o
 rcases o with _ | r
 ·simp only[e8,qY,Option.isSome]
  repeat refine sq ?_
  refine dx hΓ hP [[],[],[0],[0,1,2]] [6,7] [[6,0]] (by kernel_rfl) (fun K' hK=>by simp only[go_sem,hO,h0,h1,h2];(repeat (refine⟨an,?_⟩));(first | refine⟨by rfl,?_⟩ | skip);exact hK _ (by simp only[go_sem,hO,h0,h1,h2]) (by simp only[go_sem,hO,h0,h1,h2]<;>rfl)) ?_
  refine av ?_
  simp only[go_sem,hO,h0,h1,h2]
  rfl
 ·simp only[e8,qY,Option.isSome]
  repeat refine sq ?_
  refine dx hΓ hP [[],[],[0],[0,1,2]] [6,7] [[6,0]] (by kernel_rfl) (fun K' hK=>by simp only[go_sem,hO,h0,h1,h2];(repeat (refine⟨an,?_⟩));(first | refine⟨by rfl,?_⟩ | skip);exact hK _ (by simp only[go_sem,hO,h0,h1,h2]) (by simp only[go_sem,hO,h0,h1,h2]<;>rfl)) ?_
  refine av ?_
  simp only[go_sem,hO,h0,h1,h2]
  rfl
end
set_option maxHeartbeats 8000000
noncomputable section
theorem WE{P:Program}{Γ:FuncId->Option Spec}(hΓ:∀ f s,Γ f=some s->aK P f s){id:Nat}{l:List Oper}{c:Code}{r:List Code}{σ:S}{K:Exit->S->Prop}(ks:List Nat)(ns:List Name)
 (h:∀ K':S->Prop,(∀ σ',gp ks ns σ'->CL P (c::r) (gJ ks ns σ') K->K' σ')->lr P Γ l.toArray l σ K'):CL P (.region id l.toArray false::c::r) σ K:=
 KM hΓ (h _ fun σ' hc hy=>C4 ks ns hc hy)
theorem E6{P:Program}{Γ:FuncId->Option Spec}{ops:Array Oper}{o:Oper}{r:List Oper}{σ:S}{K:S->Prop}(h1:jS P Γ ops σ o)(h2:lr P Γ ops r (be P Γ ops σ o) K):lr P Γ ops (o::r) σ K:=.step h1 h2
def eW{α:Type}(p:α->Bool)(l:List α):List α:=l.filter fun d=>!p d
def kh{α:Type}(enc:α->V)(z:V)(p:α->Bool)(l:List α):List V:=(eW p l).map enc++List.replicate (l.length-(eW p l).length) z
def MC:Ret:=⟨0,0,0,[],0,0,0,0⟩
def mq:Sig:=⟨0,0,0,0,0,0,0⟩
def K25:List (Nat×Spec):=[(162,S162)]
theorem ZI:KS K25:=tc Ip<|tn
attribute [go_sem] K25
@[go_sem] def P186:PSpec:=p2 iS nM (fun _ _=>True) (fun s k=>.bool (!bJ s.kn s.un k)) true
@[go_sem] def X3:Spec:=P186.toSpec
theorem Oq:aT Tryz.prog 186 P186:=by
 refine ev (rs:=[.tmp 3]) Tryz.func186 Tryz.ntmps186 fun s k hp hw=>?_
 simp only[nM,iS,encS]at hw |-
 have hΓ:=ZI
 repeat refine sq ?_
 refine rx hΓ [1,2] [[2,0]] (fun K' hK=>by simp only[go_sem];exact ak) ?_
 repeat refine sq ?_
 refine rx hΓ [3] [] (fun K' hK=>by simp only[go_sem];exact ak) ?_
 refine av ?_
 simp only[go_sem]
 all_goals exact dM
def FJ(g:Nat×Int)(x:Rec):Bool:=x.so==g.2
def FI(g:Nat×Int)(x:Ret):Bool:=x.so==g.2
def ee(g:Nat×Int)(x:Sig):Bool:=if g.1=186 then !bJ x.kn x.un g.2 else x.so==g.2
def PO(g:Nat×Int):Prop:=g.1=88
def PN(g:Nat×Int):Prop:=g.1=90
def nA(g:Nat×Int):Prop:=g.1=92\/g.1=186
def Yv:List (Nat×Spec):=[]
attribute [go_sem] Yv
def Yt:List (Nat×Spec):=[]
attribute [go_sem] Yt
def KDS:List (Nat×Spec):=[(92,XP),(186,X3)]
theorem Yu:KS KDS:=tc N0.sound<|tc Oq.sound<|tn
attribute [go_sem] KDS
abbrev TYR:=Rec
abbrev TYT:=Ret
abbrev vL:=Sig
def VP(obj:Name->Option O)(_:Name):List D->R
 |[.msl nm k,.clo (.func g) [] [.v (.ptr [.int .i64 q])]]=>match obj nm with
  |some (.arr 7 L)=>⟨k=L.length/\L.length<1000000/\(L.map jH).map encR=L/\PO (g,q),.v (.sl ((eW (FJ (g,q)) (L.map jH)).map encR)),upd obj nm (some (.farr 7 (kh encR (encR zeroR) (FJ (g,q)) (L.map jH))))⟩
  |_=>.bad obj
 |_=>.bad obj
attribute [go_sem] VP
def VO(obj:Name->Option O)(_:Name):List D->R
 |[.msl nm k,.clo (.func g) [] [.v (.ptr [.int .i64 q])]]=>match obj nm with
  |some (.arr 8 L)=>⟨k=L.length/\L.length<1000000/\(L.map kX).map du=L/\PN (g,q),.v (.sl ((eW (FI (g,q)) (L.map kX)).map du)),upd obj nm (some (.farr 8 (kh du (du MC) (FI (g,q)) (L.map kX))))⟩
  |_=>.bad obj
 |_=>.bad obj
attribute [go_sem] VO
def DQ:FuncId->Option Spec:=tbl KDS
theorem Mu:∀ f s,DQ f=some s->aK Tryz.prog f s:=Yu
theorem F0{g:Nat×Int}(h:nA g):∃ s,DQ g.1=some s/\(¬ g.1=1000000000)/\(∀ obj t (x:vL),s.app obj t [.v (encS x),.v (.ptr [vInt g.2])]=⟨True,.v (.bool (ee g x)),obj⟩)/\
 ∀ obj t (x:vL),s.app obj t [.agg ((encS x).cells.map .v),.v (.ptr [vInt g.2])]=⟨True,.v (.bool (ee g x)),obj⟩:=by
 obtain⟨g,k⟩:=g
 rcases h with rfl | rfl
 all_goals exact⟨_,rfl,(by simp),fun obj t x=>by simp only[go_sem,ee];try rfl,fun obj t x=>by simp only[go_sem,ee,encS];try rfl⟩
theorem DA:(#[29]:Array Nat).getD 0 0=29:=rfl
theorem MD:((a8 Tryz.prog 81).bind fun z=>dO (hJ z))=some (encS mq):=by rw[M3];rfl
theorem C9{obj:Name->Option O}{nm:Name}{k i:Nat}{L:List V}(h:obj nm=some (.arr 7 L))(hk:k=L.length)(hi:i<L.length):
 ky Tryz.prog obj 29 29 (.msl nm k) (.v (vInt i))=⟨True,.any,upd obj nm (some (.arr 7 (L.take i++List.replicate (L.length-i) (encS mq))))⟩:=by
 unfold ky
 simp only[El,h,MD,ai]
 congr 1
 simp only[eq_iff_iff,iff_true]
 exact⟨hk,by omega,hi,trivial,rfl,rfl,trivial,by decide⟩
theorem Nu:aT Tryz.prog 181 (p2 (eX iS) oV (fun _ g=>nA g) (fun l g=>vInt (di (ee g) l)) true):=by
 refine ev (rs:=[.tmp 4]) Tryz.func181 Tryz.ntmps181 fun l g hp hw=>?_
 simp only[oV,iS,eX]at hw |-
 have hΓ:=Mu
 have hl:l.length<=maxLen:=by have:=hw.1.1;simpa using this
 obtain⟨s_,hs,hy,ha,_⟩:=F0 hp
 simp only[encS]at ha
 repeat refine sq ?_
 refine rx hΓ [0,1] [] (fun K' hK=>by simp only[go_sem];exact ak) ?_
 repeat refine sq ?_
 refine rx hΓ [0,1,7,8] [] (fun K' hK=>by simp only[go_sem];exact ak) ?_
 repeat refine sq ?_
 refine aS ?_
 repeat refine sq ?_
 refine cM (fun s:Nat=>[(8,⟨true,.v (vInt s)⟩)]) (fun s=>[]) (fun s=>s<=l.length/\∀ k (h:k<l.length),k<s->ee g l[k]=false) (fun s=>l.length-s) 0 ?_ ?_ ?_ ?_
 ·exact⟨Nat.zero_le _,by simp⟩
 ·rfl
 ·rfl
 rintro i ⟨hi,hR⟩
 simp only[go_sem]
 repeat refine sq ?_
 refine rx hΓ [0,1,7,8,9] [] (fun K' hK=>by simp only[go_sem];exact ak) ?_
 repeat refine sq ?_
 refine aB (fun hb=>?_) fun hb=>?_
 ·have ab:i<l.length:=by simpa using hb
  have aq:(i:Int)<l.length:=by omega
  clear hb
  repeat refine sq ?_
  refine aF ?_
  repeat refine sq ?_
  refine aS ?_
  repeat refine sq ?_
  refine rx hΓ [0,1,5,7,8] [] (fun K' hK=>by simp only[go_sem,ah ab,ai,aj,aq];exact ak) ?_
  repeat refine sq ?_
  refine rx hΓ [0,1,5,7,8,16] [] (fun K' hK=>by simp only[go_sem,ah ab,ai,aj,aq,hs,hy,ha];exact ak) ?_
  repeat refine sq ?_
  refine aB (fun hb=>?_) fun hb=>?_
  ·repeat refine sq ?_
   refine rx hΓ [4] [] (fun K' hK=>by simp only[go_sem,ah ab,ai,aj,aq];exact ak) ?_
   refine av ?_
   simp only[go_sem]
   rw[qc (p:=ee g) ab (by simpa using hb) hR]
  ·repeat refine sq ?_
   refine aF ?_
   refine b9 ?_
   simp only[go_sem]
   refine kp [0,1,7,8] [] ?_
   repeat refine sq ?_
   refine bc hΓ fun K' hK=>?_
   simp only[go_sem,ah ab,ai,aj,aq]
   repeat (refine⟨an,?_⟩)
   refine hK _ ?_
   clear K' hK
   simp only[go_sem]
   refine⟨i+1,⟨ab,?_⟩,by(show l.length-(i+1)<l.length-i;omega),?_⟩
   ·intro k hk eh
    rcases Nat.lt_succ_iff_lt_or_eq.1 eh with h5 | rfl
    ·exact hR k hk h5
    ·simpa using hb
   refine bu [0,1,7,8] [] ?_ ?_<;>simp only[go_sem,bn ab hl,br]
 ·have bF:i=l.length:=by
   have :¬ (i:Int)<l.length:=by simpa using hb
   omega
  clear hb
  subst bF
  repeat refine sq ?_
  refine bW ?_
  simp only[go_sem]
  refine kp [] [] ?_
  repeat refine sq ?_
  refine rx hΓ [4] [] (fun K' hK=>by simp only[go_sem];exact ak) ?_
  refine av ?_
  simp only[go_sem]
  rw[uA (p:=ee g) fun k hk=>hR k hk hk]
set_option maxRecDepth 10000 in
theorem MV{g:Nat×Int}(aa:nA g){H:Name->Option O}{l:List vL}(hl:l.length<1000000)(pn:H [0,1]=some (.arr 7 (l.map encS)))(dj:∀ hs,bU [0] (bP [0] hs) H=True)(ae:∀ hs sz L,bU [0] (bP [0] hs) (upd H [0,1] (some (.arr sz L)))=True)(ba:∀ hs sz L,bU [0] (bP [0] hs) (upd H [0,1] (some (.farr sz L)))=True):
 ∃ c,Tryz.f91.body=some c/\CL Tryz.prog [c] (bb 42 [0] H [(0,⟨true,.msl [0,1] l.length⟩),(1,⟨true,.clo (.func g.1) [] [.v (.ptr [vInt g.2])]⟩)] []) (fun e σ=>(e=.normal\/e=.ret)/\(σ.env 4).c=true/\
   (σ.env 4).d=.v (.sl ((eW (ee g) l).map encS))/\σ.obj [0,1]=some (.farr 7 (kh encS (encS mq) (ee g) l))):=by
 obtain⟨sG,hs,hg,_,hp⟩:=F0 aa
 obtain⟨Γ,sI,hΓ,hs,hI,hi⟩:∃ (Γ:FuncId->Option Spec) (sI:Spec),(∀ f s,Γ f=some s->aK Tryz.prog f s)/\Γ g.1=some sG/\Γ 181=some sI/\
  ∀ (obj:Name->Option O) (t:Name),obj [0,1]=some (.arr 7 (l.map encS))->sI.app obj t [.msl [0,1] l.length,.clo (.func g.1) [] [.v (.ptr [vInt g.2])]]=⟨True,.v (vInt (di (ee g) l)),obj⟩:=by
  refine⟨fun f=>if f=181 then some (p2 (eX iS) oV (fun _ g=>nA g) (fun l g=>vInt (di (ee g) l)) true).toSpec else DQ f,_,fun f s h=>?_,?_,rfl,fun obj t e=>?_⟩
  ·dsimp only at h
   split at h
   ·rename_i e;cases h;subst e;exact Nu.sound
   ·exact Mu _ _ h
  ·dsimp only
   rw[if_neg (by intro e;have h':=aa;unfold nA at h';simp[e]at h')];exact hs
  ·have ez:nA (g.1,g.2):=aa
   simp only[go_sem,e,ez,List.length_map,CY]
 generalize sM:kh encS (encS mq) (ee g) l=XX
 generalize hpg:ee g=p at *
 simp only[encS,V.cells,List.map_cons,List.map_nil]at hp
 refine⟨_,rfl,?_⟩
 have hm:l.length<=maxLen:=by unfold maxLen;omega
 repeat refine sq ?_
 refine rx hΓ [0,1] [] (fun K' hK=>by simp only[go_sem,dj];(repeat (refine⟨an,?_⟩));exact hK _ (by simp only[go_sem,dj]) (by simp only[go_sem,dj]<;>rfl)) ?_
 repeat refine sq ?_
 refine rx hΓ [0,1,5] [] (fun K' hK=>by simp only[go_sem,dj,hI,hi,pn,implies_true];(repeat (refine⟨an,?_⟩));exact hK _ (by simp only[go_sem,dj,hI,hi,pn,implies_true]) (by simp only[go_sem,dj,hI,hi,pn,implies_true]<;>rfl)) ?_
 repeat refine sq ?_
 refine rx hΓ [0,1,5,12] [] (fun K' hK=>by simp only[go_sem,dj];(repeat (refine⟨an,?_⟩));exact hK _ (by simp only[go_sem,dj]) (by simp only[go_sem,dj]<;>rfl)) ?_
 repeat refine sq ?_
 refine aB (fun hb=>?_) fun hb=>?_
 ·repeat refine sq ?_
  refine rx hΓ [4] [] (fun K' hK=>by simp only[go_sem,dj];(repeat (refine⟨an,?_⟩));exact hK _ (by simp only[go_sem,dj]) (by simp only[go_sem,dj]<;>rfl)) ?_
  refine dw (gg 4 (.msl [0,1] l.length) (by simp only[go_sem]) (by simp only[go_sem,pn,List.length_map]) [4] [] ?_ rfl) ?_
  ·simp only[go_sem,pn,ba]
  simp only[go_sem,pn]
  refine av ?_
  simp only[go_sem,pn]
  have cX:di p l= -1:=by simpa using hb
  have dU:∀ d∈l,p d=false:=by
   unfold di at cX
   split at cX
   ·omega
   ·rename_i hn
    intro d hd
    cases iX:p d with
    |false=>rfl
    |true=>exact(hn (List.any_eq_true.2 ⟨d,hd,iX⟩)).elim
  have hk:eW p l=l:=List.filter_eq_self.2 fun d hd=>by rw[dU d hd];rfl
  have xQ:XX=l.map encS:=by rw[<-sM];unfold kh;rw[hk];simp
  rw[hk,xQ]
  exact⟨.inr trivial,rfl,rfl⟩
 have hf:l.findIdx p<l.length:=by
  have cX:¬ di p l= -1:=by simpa using hb
  unfold di at cX
  split at cX
  ·rename_i i6
   exact List.findIdx_lt_length_of_exists (by obtain⟨y,hy,hp⟩:=List.any_eq_true.1 i6;exact⟨y,hy,hp⟩)
  ·exact(cX rfl).elim
 have pf:di p l=(l.findIdx p:Int):=by unfold di;rw[if_pos (List.any_eq_true.2 ⟨_,List.getElem_mem hf,List.findIdx_getElem (w:=hf)⟩)]
 rw[pf]
 clear hb pf hi hI
 have Tm:p (l[l.findIdx p])=true:=List.findIdx_getElem (w:=hf)
 have I8:∀ j (h:j<l.length),j<l.findIdx p->p l[j]=false:=fun j h hj=>by simpa using List.not_of_lt_findIdx hj
 generalize l.findIdx p=f at *
 repeat refine sq ?_
 refine aF ?_
 repeat refine sq ?_
 refine rx hΓ [0,1,5,6] [] (fun K' hK=>by simp only[go_sem,dj,bn hf hm,br];(repeat (refine⟨an,?_⟩));exact hK _ (by simp only[go_sem,dj,bn hf hm,br]) (by simp only[go_sem,dj,bn hf hm,br]<;>rfl)) ?_
 repeat refine sq ?_
 refine aS ?_
 repeat refine sq ?_
 refine KY (fun x:Nat×Nat×List vL=>upd H [0,1] (some (.arr 7 (x.2.2.map encS)))) (fun x=>[(5,⟨true,.v (vInt x.1)⟩),(6,⟨true,.v (vInt x.2.1)⟩)]) (fun x=>[]) (fun x=>x.1<x.2.1/\x.2.1<=l.length/\x.2.2.length=l.length/\x.2.2.take x.1=eW p (l.take x.2.1)/\x.2.2.drop x.2.1=l.drop x.2.1) (fun x=>l.length-x.2.1) (f,f+1,l) ?_ ?_ ?_ ?_ ?_
 ·refine⟨(show f<f+1 by omega),hf,rfl,?_,rfl⟩
  show l.take f=eW p (l.take (f+1))
  unfold eW
  rw[List.take_add_one,List.getElem?_eq_getElem hf,List.filter_append]
  simp only[Option.toList_some,List.filter_cons,Tm,Bool.not_true,Bool.false_eq_true,if_false,List.filter_nil,List.append_nil]
  rw[List.filter_eq_self.2]
  intro d hd
  obtain⟨j,hj,rfl⟩:=List.getElem_of_mem hd
  have fK:j<f:=by simp at hj;omega
  rw[List.getElem_take,I8 j (by omega) fK]
  rfl
 ·congr 1
  rw[<-pn]
  funext x
  by_cases e:x=[0,1]
  ·subst e;rw[aM]
  ·rw[aU _ _ _ e]
 ·rfl
 ·rfl
 clear I8
 rintro⟨i,j,A⟩ ⟨bL,hj,hA,hT,hD⟩
 simp only at bL hj hA hT hD
 dsimp only
 generalize fw:upd H [0,1] (some (O.arr 7 (List.map encS A)))=H'
 have h0:H' [0,1]=some (.arr 7 (A.map encS)):=by rw[<-fw,aM]
 have vk:∀ i,H' [i+1,1]=H [i+1,1]:=fun i=>by rw[<-fw,aU _ _ _ (by simp)]
 have iu:∀ hs,bU [0] (bP [0] hs) H'=True:=fun hs=>by rw[<-fw];exact ae _ _ _
 have kb:∀ hs sz L,bU [0] (bP [0] hs) (upd H' [0,1] (some (.arr sz L)))=True:=fun hs sz L=>by rw[<-fw,rD];exact ae _ _ _
 have UW:∀ hs sz L,bU [0] (bP [0] hs) (upd H' [0,1] (some (.farr sz L)))=True:=fun hs sz L=>by rw[<-fw,rD];exact ba _ _ _
 simp only[go_sem]
 repeat refine sq ?_
 refine rx hΓ [0,1,5,6,19] [] (fun K' hK=>by simp only[go_sem,iu,kb,h0];(repeat (refine⟨an,?_⟩));exact hK _ (by simp only[go_sem,iu,kb,h0]) (by simp only[go_sem,iu,kb,h0]<;>rfl)) ?_
 repeat refine sq ?_
 refine aB (fun hb=>?_) fun hb=>?_
 ·have ab:j<l.length:=by simpa using hb
  have B1:j<A.length:=by omega
  have u3:i<A.length:=by omega
  have TQ:(i:Int)<l.length:=by omega
  have aq:(j:Int)<l.length:=by omega
  have Cw:A[j]=l[j]:=by
   have h1:A[j]=(A.drop j)[0]'(by simp;omega):=by simp
   rw[h1]
   simp only[hD]
   simp
  clear hb
  repeat refine sq ?_
  refine aF ?_
  repeat refine sq ?_
  refine aS ?_
  repeat refine sq ?_
  refine rx hΓ [0,1,5,6,7] [[7,0]] (fun K' hK=>by simp only[go_sem,iu,kb,h0,ah B1,ai,aj,aq,hA,Cw];(repeat (refine⟨an,?_⟩));exact hK _ (by simp only[go_sem,iu,kb,h0,ah B1,ai,aj,aq,hA,Cw]) (by simp only[go_sem,iu,kb,h0,ah B1,ai,aj,aq,hA,Cw]<;>rfl)) ?_
  repeat refine sq ?_
  refine rx hΓ [0,1,5,6,7,29] [[7,0]] (fun K' hK=>by simp only[go_sem,iu,kb,h0,hg,hs,hp];(repeat (refine⟨an,?_⟩));exact hK _ (by simp only[go_sem,iu,kb,h0,hg,hs,hp]) (by simp only[go_sem,iu,kb,h0,hg,hs,hp]<;>rfl)) ?_
  repeat refine sq ?_
  refine aB (fun hb=>?_) fun hb=>?_
  ·have I0:p l[j]=false:=by simpa using hb
   clear hb
   repeat refine sq ?_
   refine yz hΓ [0,1,5,6] [] fun K' hK=>?_
   simp only[go_sem,iu,kb,h0,ai,aj,TQ,hA]
   repeat' apply And.intro
   all_goals first | rfl | omega | exact Int.le_refl _ | exact Bool.or_not_self _ | exact Bool.not_or_self _ | exact CN _ | exact CO _ | exact fun x hx=>(CN _ x hx).1 | exact fun x hx=>(CO _ x hx).1 | (simp only[List.length_take,List.length_append,List.length_map,List.length_drop,List.length_cons,List.length_nil];done) | (simp only[List.length_take,List.length_append,List.length_map,List.length_drop,List.length_cons,List.length_nil];omega) | (simp only[List.length_take,List.length_append,List.length_map,List.length_drop,List.length_cons,List.length_nil,maxLen];omega) | (exact fun _=>by decide) | (exact fun h=>⟨h,by decide⟩) | (simp only[decide_eq_true_eq];omega) | skip
   refine hK _ ?_ ?_
   ·simp only[go_sem,iu,kb]
   clear K' hK
   simp only[go_sem]
   obtain⟨H2,Cs⟩:∃ H2,upd H' [0,1] (some (O.arr 7 ((List.map encS A).set i (encS l[j]))))=H2:=⟨_,rfl⟩
   have JS:=Cs
   simp only[encS]at JS
   rw[JS]
   have Cn:∀ hs,bU [0] (bP [0] hs) H2=True:=fun hs=>by rw[<-Cs];exact kb _ _ _
   repeat refine sq ?_
   refine bc hΓ fun K' hK=>?_
   simp only[go_sem]
   repeat (refine⟨an,?_⟩)
   refine hK _ ?_
   clear K' hK
   simp only[go_sem]
   refine eo [0,1,5,6] [] ?_ ?_
   ·simp only[go_sem,Cn]
   simp only[go_sem,Cn]
   repeat refine sq ?_
   refine bc hΓ fun K' hK=>?_
   simp only[go_sem]
   repeat (refine⟨an,?_⟩)
   refine hK _ ?_
   clear K' hK
   simp only[go_sem]
   refine⟨(i+1,j+1,A.set i l[j]),⟨(show i+1<j+1 by omega),ab,by simpa using hA,?_,?_⟩,(show l.length-(j+1)<l.length-j by omega),?_⟩
   ·show (A.set i l[j]).take (i+1)=eW p (l.take (j+1))
    unfold eW at hT |-
    rw[List.take_add_one (l:=l),List.getElem?_eq_getElem ab,List.filter_append,<-hT]
    simp only[Option.toList_some,List.filter_cons,I0,Bool.not_false,if_true,List.filter_nil]
    rw[List.take_add_one,List.take_set_of_le (Nat.le_refl i),List.getElem?_set_self u3]
    rfl
   ·show (A.set i l[j]).drop (j+1)=l.drop (j+1)
    rw[List.drop_set_of_lt (show i<j+1 by omega)]
    have :=congrArg (List.drop 1) hD
    simpa[List.drop_drop]using this
   ·refine bu [0,1,5,6] [] ?_ ?_
    ·simp only[go_sem,Cn]
    ·simp only[go_sem,bn ab hm,bn (show i<l.length by omega) hm,br]
     rw[<-Cs,<-fw,rD,List.map_set]
     try rfl
  ·have Tk:p l[j]=true:=by simpa using hb
   clear hb
   repeat refine sq ?_
   refine aF ?_
   refine b9 ?_
   simp only[go_sem]
   refine eo [0,1,5,6] [] ?_ ?_
   ·simp only[go_sem,iu]
   simp only[go_sem,iu]
   repeat refine sq ?_
   refine bc hΓ fun K' hK=>?_
   simp only[go_sem]
   repeat (refine⟨an,?_⟩)
   refine hK _ ?_
   clear K' hK
   simp only[go_sem]
   refine⟨(i,j+1,A),⟨(show i<j+1 by omega),ab,hA,?_,?_⟩,(show l.length-(j+1)<l.length-j by omega),?_⟩
   ·show A.take i=eW p (l.take (j+1))
    unfold eW at hT |-
    rw[List.take_add_one (l:=l),List.getElem?_eq_getElem ab,List.filter_append,<-hT]
    simp only[Option.toList_some,List.filter_cons,Tk,Bool.not_true,Bool.false_eq_true,if_false,List.filter_nil,List.append_nil]
   ·show A.drop (j+1)=l.drop (j+1)
    have :=congrArg (List.drop 1) hD
    simpa[List.drop_drop]using this
   ·refine bu [0,1,5,6] [] ?_ ?_
    ·simp only[go_sem,iu]
    ·simp only[go_sem,bn ab hm,br]
     rw[<-fw]
 ·have bF:j=l.length:=by
    have :¬ (j:Int)<l.length:=by simpa using hb
    omega
  subst bF
  clear hb
  rw[List.take_length]at hT
  have u3:i<A.length:=by omega
  repeat refine sq ?_
  refine bW ?_
  simp only[go_sem]
  refine eo [0,5] [] ?_ ?_
  ·simp only[go_sem,iu]
  simp only[go_sem,iu]
  repeat refine sq ?_
  refine WE hΓ [0,5] [] fun K' hK=>?_
  refine E6 ?_ (E6 ?_ (.cut (T:=29) (x:=.tmp 36) (lo:=.tmp 37) (c:=38) rfl rfl ?_ ?_ ?_ ?_ (.nil ?_)))
  ·simp only[go_sem]
  ·simp only[go_sem]
  ·simp only[go_sem]
  ·simp only[go_sem]
  ·simp only[go_sem]
  ·have Ur:=fun (obj:Name->Option O) (h:obj [0,1]=_)=>C9 (obj:=obj) (nm:=[0,1]) (k:=l.length) (i:=i) (L:=A.map encS) h (by simpa using hA.symm) (by simpa using u3)
   simp only[go_sem,mc,DA,Ur,h0]
  ·refine hK _ ?_ ?_
   ·simp only[go_sem,py,mc,DA,C9 (obj:=fun nm=>if own [0] nm=true then none else H' nm) (nm:=[0,1]) (k:=l.length) (i:=i) (L:=A.map encS) h0 (by simpa using hA.symm) (by simpa using u3),kb]
   clear K' hK
   simp only[go_sem,py,mc,DA,C9 (obj:=fun nm=>if own [0] nm=true then none else H' nm) (nm:=[0,1]) (k:=l.length) (i:=i) (L:=A.map encS) h0 (by simpa using hA.symm) (by simpa using u3)]
   have eh:(eW p l).length=i:=by rw[<-hT,List.length_take];omega
   have Cl:(List.take i (List.map encS A)++List.replicate (A.length-i) (encS mq))=XX:=by
    rw[<-sM]
    unfold kh
    rw[eh,<-hT,List.map_take,hA]
   have hZ1:XX.length=l.length:=by rw[<-sM];unfold kh;simp;omega
   have UN:XX.take i=(eW p l).map encS:=by
    rw[<-sM]
    unfold kh
    rw[List.take_append_of_le_length (by simp;omega),List.take_of_length_le (by simp;omega)]
   have UM:∀ x∈XX,x.cells.length=7:=by
    intro x hx
    rw[<-sM]at hx
    rcases List.mem_append.1 hx with h | h
    ·obtain⟨y,_,rfl⟩:=List.mem_map.1 h;rfl
    ·rw[(List.mem_replicate.1 h).2];rfl
   simp only[encS]at Cl
   rw[Cl]
   clear Cl
   clear sM
   generalize XX=Z at *
   simp only[V.cells]at UM
   generalize Cr:upd H' [0,1] (some (O.arr 7 Z))=H3
   have JV:H3 [0,1]=some (.arr 7 Z):=by rw[<-Cr,aM]
   have hI3:∀ i,H3 [i+1,1]=H [i+1,1]:=fun i=>by rw[<-Cr,aU _ _ _ (by simp)];exact vk i
   have UU:∀ hs sz L,bU [0] (bP [0] hs) (upd H3 [0,1] (some (.farr sz L)))=True:=fun hs sz L=>by rw[<-Cr,rD];exact UW _ _ _
   have TO:(i:Int)<=l.length:=by omega
   repeat refine sq ?_
   refine yz hΓ [4] [] fun K' hK=>?_
   simp only[go_sem,JV,El,ai,aj,TO]
   repeat' apply And.intro
   all_goals first | rfl | omega | exact Int.le_refl _ | exact Bool.or_not_self _ | exact Bool.not_or_self _ | exact CN _ | exact CO _ | exact fun x hx=>(CN _ x hx).1 | exact fun x hx=>(CO _ x hx).1 | (simp only[List.length_take,List.length_append,List.length_map,List.length_drop,List.length_cons,List.length_nil];done) | (simp only[List.length_take,List.length_append,List.length_map,List.length_drop,List.length_cons,List.length_nil];omega) | (simp only[List.length_take,List.length_append,List.length_map,List.length_drop,List.length_cons,List.length_nil,maxLen];omega) | (exact fun _=>by decide) | (exact fun h=>⟨h,by decide⟩) | (simp only[decide_eq_true_eq];omega) | skip
   refine hK _ ?_ ?_
   ·simp only[go_sem,UU]
   clear K' hK
   simp only[go_sem]
   refine av ?_
   simp only[go_sem,UN]
   exact .inr trivial
def delCS:CSpec where
 pre:=fun os ds=>∃ (l:List vL) (g:Nat×Int),os=[.arr 7 (l.map encS)]/\ds=[.msl [0,1] l.length,.clo (.func g.1) [] [.v (.ptr [vInt g.2])]]/\l.length<1000000/\nA g
 out:=fun os ds=>match os,ds with
  |[.arr _ L],[_,.clo (.func g) _ [.v (.ptr [.int _ k])]]=>⟨[(0,.farr 7 (kh encS (encS mq) (ee (g,k)) (L.map iv)))],[],.v (.sl ((eW (ee (g,k)) (L.map iv)).map encS))⟩
  |_,_=>⟨[],[],.any⟩
def qR(obj:Name->Option O)(_:Name):List D->R
 |[.msl nm k,.clo (.func g) [] [.v (.ptr [.int .i64 q])]]=>match obj nm with
  |some (.arr 7 L)=>⟨k=L.length/\L.length<1000000/\(L.map iv).map encS=L/\nA (g,q),.v (.sl ((eW (ee (g,q)) (L.map iv)).map encS)),upd obj nm (some (.farr 7 (kh encS (encS mq) (ee (g,q)) (L.map iv))))⟩
  |_=>.bad obj
 |_=>.bad obj
def ym(_:Name->Option O)(_:Name):List D->List Name
 | .msl nm _::_=>[nm]
 |_=>[]
def S91:Spec:=⟨qR,ym,ym⟩
attribute [go_sem] S91 qR
theorem VN:S91.Near:=by
 refine t' fun obj obj2 t ds ha=>⟨rfl,?_⟩
 have fJ:∀ wr,bE wr obj obj2->bK (R.bad obj) (R.bad obj2) obj obj2 wr:=fun wr h=>.none wr h
 unfold qR
 split
 ·rename_i nm k g q
  have h1:obj2 nm=obj nm:=ha nm (by simp[ym])
  simp only[h1]
  split
  ·exact .one (by simp[ym]) ha
  ·exact fJ _ ha
 ·exact fJ _ ha
theorem Sn:aK Tryz.prog 91 delCS.toSpec:=by
 refine mS (nt:=42) (rs:=[.tmp 4]) Tryz.func91 rfl (by rfl) (by kernel_rfl) (gn Tryz.func91 rfl (by kernel_rfl)) (lK _ (by decide)) ?_
 rintro os ds ⟨l,g,rfl,rfl,hl,aa⟩
 refine⟨lb rfl,?_⟩
 have ie:delCS.out [.arr 7 (l.map encS)] [.msl [0,1] l.length,.clo (.func g.1) [] [.v (.ptr [vInt g.2])]]=⟨[(0,.farr 7 (kh encS (encS mq) (ee g) l))],[],.v (.sl ((eW (ee g) l).map encS))⟩:=by
  simp only[delCS,qS]
 rw[ie]
 have dj:∀ hs,bU [0] (bP [0] hs) (aQ [.arr 7 (l.map encS)])=True:=fun hs=>eq_true (nz (by
  intro o ho dom hd
  simp only[List.mem_singleton]at ho
  subst ho
  rfl) hs)
 obtain⟨c,hc,h⟩:=MV aa (H:=aQ [.arr 7 (l.map encS)]) hl rfl dj (fun hs sz L=>eq_true (ru rfl (by rw[dj];trivial))) (fun hs sz L=>eq_true (ru rfl (by rw[dj];trivial)))
 have Uz:∀ c2,Tryz.f91.body=some c2->c2=c:=fun c2 h2=>by rw[h2]at hc;exact Option.some.inj hc
 rw[<-Uz _ rfl]at h
 refine CW.mono (iw h) ?_
 rintro e σ ⟨he,h1,h2,h3⟩
 have fin:(bI Tryz.prog σ [.tmp 4]).ok/\(bI Tryz.prog σ [.tmp 4]).d=.v (.sl ((eW (ee g) l).map encS))/\fx [.arr 7 (l.map encS)] ⟨[(0,.farr 7 (kh encS (encS mq) (ee g) l))],[],.v (.sl ((eW (ee g) l).map encS))⟩ σ:=
  ⟨h1,h2,⟨h3,trivial⟩,trivial,rfl⟩
 rcases he with rfl | rfl
 ·exact fin
 ·exact fin
theorem So:aK Tryz.prog 91 S91:=by
 refine tK Sn VN (lK _ (by decide)) fun obj t ds aa=>?_
 change (qR obj t ds).ok at aa
 refine⟨ds,rfl,fun _ _ _ _ h=>h,?_⟩
 show _/\_=(qR obj t ds).d/\_=(qR obj t ds).obj
 unfold qR at aa |-
 split at aa
 ·rename_i nm k g q
  split at aa
  ·rename_i L ho
   obtain⟨rfl,hl,he,hg⟩:=aa
   have hr:reach obj [.msl nm L.length,.clo (.func g) [] [.v (.ptr [.int .i64 q])]]=[nm]:=by
    unfold reach
    show dd obj (2998+1+1) [nm] []=[nm]
    simp only[dd,cG,List.any_nil,Bool.false_eq_true,if_false,ho,kK,List.nil_append]
   have i0:idx [nm] nm=0:=by simp[idx]
   have e1:cg obj [.msl nm L.length,.clo (.func g) [] [.v (.ptr [.int .i64 q])]]=[.arr 7 L]:=by
    unfold cg
    rw[hr]
    simp only[List.map_cons,List.map_nil,cm,ho,O.ren]
   have e2:cN obj [.msl nm L.length,.clo (.func g) [] [.v (.ptr [.int .i64 q])]]=[.msl [0,1] L.length,.clo (.func g) [] [.v (.ptr [.int .i64 q])]]:=by
    unfold cN
    rw[hr]
    simp only[D.renL,D.ren,cin,i0]
   have e3:(shut obj [nm]&&D.closL (cG [nm]) [.msl nm L.length,.clo (.func g) [] [.v (.ptr [.int .i64 q])]]&&fresh obj t [])=true:=by
    simp[shut,ho,O.clos,D.closL,D.clos,cG,fresh]
   have dr:delCS.pre [.arr 7 L] [.msl [0,1] L.length,.clo (.func g) [] [.v (.ptr [.int .i64 q])]]:=⟨L.map iv,(g,q),by rw[he],by rw[List.length_map],by rw[List.length_map];exact hl,hg⟩
   have ie:delCS.out [.arr 7 L] [.msl [0,1] L.length,.clo (.func g) [] [.v (.ptr [.int .i64 q])]]=⟨[(0,.farr 7 (kh encS (encS mq) (ee (g,q)) (L.map iv)))],[],.v (.sl ((eW (ee (g,q)) (L.map iv)).map encS))⟩:=rfl
   simp only[CSpec.toSpec,e1,e2,hr,ie,e3,dr,ho,and_self,c9]
   exact⟨trivial,rfl,rfl⟩
  ·exact aa.elim
 ·exact aa.elim
end
set_option maxHeartbeats 8000000
noncomputable section
theorem A9(l:List Sig)(k:Int):eW (ee (186,k)) l=l.filter fun s=>bJ s.kn s.un k:=by
 unfold eW ee
 simp
theorem Av(k:Int):nA (186,k):=.inr rfl
def K26:List (Nat×Spec):=[(132,S132),(91,S91)]
theorem ZH:KS K26:=tc Ir<|tc So<|tn
attribute [go_sem] K26
def L8:VSpec:=v1 iI (fun x _=>x.l.ss.length<=60) (fun x k=>.v (.sl ((aN x.l k).map encS))) none
def S122:Spec:=L8.toSpec
attribute [go_sem] L8 S122
theorem Bd:aK Tryz.prog 122 S122:=by
 refine vZ (rs:=[.tmp 4]) Tryz.func122 Tryz.ntmps122 (by rfl) (by kernel_rfl) (by decide) (fun _ _=>by first | rfl | simp[D.clos,D.closL,lE]) ⟨_,rfl,lb rfl,fun x k hp H h0 h1 h2 hO ae=>?_⟩
 simp only[iI,bq,cY,List.map_cons,List.map_nil,Nat.zero_add,Option.map_some,Option.map_none]at h0 |-
 have hΓ:=ZH
 repeat refine sq ?_
 refine rx hΓ [0,3] [[3,0]] (fun K' hK=>by simp only[go_sem,hO,ae,h0,h1,h2];(repeat (refine⟨an,?_⟩));exact hK _ (by simp only[go_sem,hO,ae,h0,h1,h2]) (by simp only[go_sem,hO,ae,h0,h1,h2]<;>rfl)) ?_
 refine dw (gg 3 (.ref [3,0] 0) (by simp only[go_sem]) (by simp only[go_sem]) [0,3] [[3,0]] ?_ rfl) ?_
 ·simp only[go_sem,hO,ae,h0,h1,h2]
 simp only[go_sem,hO,ae,h0,h1,h2]
 repeat refine sq ?_
 refine rx hΓ [4] [] (fun K' hK=>by simp only[go_sem,hO,ae,h0,h1,h2,qS,A9,Av,List.length_map];(repeat (refine⟨an,?_⟩));exact hK _ (by simp only[go_sem,hO,ae,h0,h1,h2,qS,A9,Av,List.length_map]) (by simp only[go_sem,hO,ae,h0,h1,h2,qS,A9,Av,List.length_map]<;>rfl)) ?_
 refine av ?_
 simp only[go_sem,hO,ae,h0,h1,h2]
 all_goals exact dM
def Fj(r:Rg):D:=.agg [.v (vInt r.lo),.v (vInt r.hi)]
attribute [go_sem] Fj
def K26b:List (Nat×Spec):=[(119,S119)]
theorem ZG:KS K26b:=tc Sy<|tn
attribute [go_sem] K26b
def rJ(s:Sig):Prop:=0<=s.da/\s.da<=100000
theorem a7:lF none=.agg [.v (vInt 0),.v (vInt 0),.v (vInt 0),.nilsl,.v (vInt 0),.v (vInt 0),.v (vInt 0)]:=rfl
theorem aP(r:Rec):lF (some r)=fB r:=rfl
def L4:VSpec:=v1 iS (fun x s=>(m7 x/\x.rs.Nodup)/\rJ s) (fun x s=>.tup [.v (vInt (bt x s).1),Fj (bt x s).2]) none
def S187:Spec:=L4.toSpec
attribute [go_sem] L4 S187
theorem Su:aK Tryz.prog 187 S187:=by
 refine vZ (rs:=[.tmp 4,.cell 5 38]) Tryz.func187 Tryz.ntmps187 (by rfl) (by kernel_rfl) (by decide) (fun _ _=>by first | rfl | exact adf _ _ | simp[D.clos,D.closL,lE]) ⟨_,rfl,lb rfl,fun x s hp H h0 h1 h2 hO ae=>?_⟩
 have hP:=gE
 simp only[iS,encS,bq,cY,List.map_cons,List.map_nil,Nat.zero_add,Option.map_some,Option.map_none]at h0 |-
 have hΓ:=ZG
 obtain⟨hv,hd⟩:=hp
 have fT:=vW hd
 repeat refine sq ?_
 refine rx hΓ [0,3,5] [[3,0],[5,0]] (fun K' hK=>by simp only[go_sem,hO,ae,h0,h1,h2];(repeat (refine⟨an,?_⟩));exact hK _ (by simp only[go_sem,hO,ae,h0,h1,h2]) (by simp only[go_sem,hO,ae,h0,h1,h2]<;>rfl)) ?_
 repeat refine sq ?_
 refine rx hΓ [0,3,5,6,7] [[3,0],[5,0],[6,0],[7,0]] (fun K' hK=>by simp only[go_sem,hO,ae,h0,h1,h2];(repeat (refine⟨an,?_⟩));exact hK _ (by simp only[go_sem,hO,ae,h0,h1,h2]) (by simp only[go_sem,hO,ae,h0,h1,h2]<;>rfl)) ?_
 rcases aw:ko x.rs s.pa s.le s.da with _ | r
 ·repeat refine sq ?_
  refine rx hΓ [0,3,5,6,7,8,9] [[3,0],[5,0],[6,0],[7,0],[8,0]] (fun K' hK=>by simp only[go_sem,hO,ae,h0,h1,h2,aw,a7,Option.isSome_none,aD];(repeat (refine⟨an,?_⟩));exact hK _ (by simp only[go_sem,hO,ae,h0,h1,h2,aw,a7,Option.isSome_none,aD]) (by simp only[go_sem,hO,ae,h0,h1,h2,aw,a7,Option.isSome_none,aD]<;>rfl)) ?_
  repeat refine sq ?_
  refine dx hΓ hP [[],[0],[0,1],[0,1,2],[],[4],[],[6],[4,5,6,7],u9,ew,gy,gy,gW,nj] [3,5,6,7,8,9,10,11] [[3,0],[5,0],[6,0],[7,0],[8,0]] (by kernel_rfl) (fun K' hK=>by simp only[go_sem,hO,ae,h0,h1,h2,aw,a7,Option.isSome_none,aD];(repeat (refine⟨an,?_⟩));(first | refine⟨by rfl,?_⟩ | skip);exact hK _ (by simp only[go_sem,hO,ae,h0,h1,h2,aw,a7,Option.isSome_none,aD]) (by simp only[go_sem,hO,ae,h0,h1,h2,aw,a7,Option.isSome_none,aD]<;>rfl)) ?_
  repeat refine sq ?_
  refine aS ?_
  repeat refine sq ?_
  refine rx hΓ [3,5,6,7,8,9,10,11,39] [[3,0],[5,0],[6,0],[7,0],[8,0]] (fun K' hK=>by simp only[go_sem,hO,ae,h0,h1,h2,aw,a7,Option.isSome_none,aD];(repeat (refine⟨an,?_⟩));exact hK _ (by simp only[go_sem,hO,ae,h0,h1,h2,aw,a7,Option.isSome_none,aD]) (by simp only[go_sem,hO,ae,h0,h1,h2,aw,a7,Option.isSome_none,aD]<;>rfl)) ?_
  repeat refine sq ?_
  refine aB (fun hb=>?_) fun hb=>?_
  ·repeat refine sq ?_
   refine aF ?_
   repeat refine sq ?_
   refine aB (fun hb=>?_) fun hb=>?_
   ·repeat refine sq ?_
    refine dx hΓ hP [[],[],[0,1]] [4,5] [[5,0]] (by kernel_rfl) (fun K' hK=>by simp only[go_sem,hO,ae,h0,h1,h2,aw,a7,Option.isSome_none,aD];(repeat (refine⟨an,?_⟩));(first | refine⟨by rfl,?_⟩ | skip);exact hK _ (by simp only[go_sem,hO,ae,h0,h1,h2,aw,a7,Option.isSome_none,aD]) (by simp only[go_sem,hO,ae,h0,h1,h2,aw,a7,Option.isSome_none,aD]<;>rfl)) ?_
    refine av ?_
    simp only[go_sem,hO,ae,h0,h1,h2]
    first | (unfold bt;simp only[aw];simp_all[cw,ck];done) | (unfold bt;simp only[aw];rcases bX:bD x.bk (r.so,s.le)with _ | j<;>simp_all[cw,ck];done)
   ·repeat refine sq ?_
    refine rx hΓ [3,5,7,8,10,60] [[3,0],[5,0],[7,0],[8,0]] (fun K' hK=>by simp only[go_sem,hO,ae,h0,h1,h2,aw,a7,Option.isSome_none,aD];(repeat (refine⟨an,?_⟩));exact hK _ (by simp only[go_sem,hO,ae,h0,h1,h2,aw,a7,Option.isSome_none,aD]) (by simp only[go_sem,hO,ae,h0,h1,h2,aw,a7,Option.isSome_none,aD]<;>rfl)) ?_
    repeat refine sq ?_
    refine aB (fun hb=>?_) fun hb=>?_
    ·repeat refine sq ?_
     refine dx hΓ hP [[],[],[0,1]] [4,5] [[5,0]] (by kernel_rfl) (fun K' hK=>by simp only[go_sem,hO,ae,h0,h1,h2,aw,a7,Option.isSome_none,aD];(repeat (refine⟨an,?_⟩));(first | refine⟨by rfl,?_⟩ | skip);exact hK _ (by simp only[go_sem,hO,ae,h0,h1,h2,aw,a7,Option.isSome_none,aD]) (by simp only[go_sem,hO,ae,h0,h1,h2,aw,a7,Option.isSome_none,aD]<;>rfl)) ?_
     refine av ?_
     simp only[go_sem,hO,ae,h0,h1,h2]
     first | (unfold bt;simp only[aw];simp_all[cw,ck];done) | (unfold bt;simp only[aw];rcases bX:bD x.bk (r.so,s.le)with _ | j<;>simp_all[cw,ck];done)
    ·repeat refine sq ?_
     refine rx hΓ [3,5,7,8,10,68] [[3,0],[5,0],[7,0],[8,0]] (fun K' hK=>by simp only[go_sem,hO,ae,h0,h1,h2,aw,a7,Option.isSome_none,aD];(repeat (refine⟨an,?_⟩));exact hK _ (by simp only[go_sem,hO,ae,h0,h1,h2,aw,a7,Option.isSome_none,aD]) (by simp only[go_sem,hO,ae,h0,h1,h2,aw,a7,Option.isSome_none,aD]<;>rfl)) ?_
     repeat refine sq ?_
     refine aB (fun hb=>?_) fun hb=>?_
     ·repeat refine sq ?_
      refine dx hΓ hP [[],[],[1],[1,2],[0],u5] [4,5] [[5,0]] (by kernel_rfl) (fun K' hK=>by simp only[go_sem,hO,ae,h0,h1,h2,aw,a7,Option.isSome_none,aD];(repeat (refine⟨an,?_⟩));(first | refine⟨by rfl,?_⟩ | skip);exact hK _ (by simp only[go_sem,hO,ae,h0,h1,h2,aw,a7,Option.isSome_none,aD]) (by simp only[go_sem,hO,ae,h0,h1,h2,aw,a7,Option.isSome_none,aD]<;>rfl)) ?_
      refine av ?_
      simp only[go_sem,hO,ae,h0,h1,h2]
      first | (unfold bt;simp only[aw];simp_all[cw,ck];done) | (unfold bt;simp only[aw];rcases bX:bD x.bk (r.so,s.le)with _ | j<;>simp_all[cw,ck];done)
     ·repeat refine sq ?_
      refine rx hΓ [3,5,7,10,76] [[3,0],[5,0],[7,0]] (fun K' hK=>by simp only[go_sem,hO,ae,h0,h1,h2,aw,a7,Option.isSome_none,aD];(repeat (refine⟨an,?_⟩));exact hK _ (by simp only[go_sem,hO,ae,h0,h1,h2,aw,a7,Option.isSome_none,aD]) (by simp only[go_sem,hO,ae,h0,h1,h2,aw,a7,Option.isSome_none,aD]<;>rfl)) ?_
      repeat refine sq ?_
      refine aB (fun hb=>?_) fun hb=>?_
      ·repeat refine sq ?_
       refine dx hΓ hP [[],[],[1],[1,2],[1,2,3],[0],u6] [4,5] [[5,0]] (by kernel_rfl) (fun K' hK=>by simp only[go_sem,hO,ae,h0,h1,h2,aw,a7,Option.isSome_none,aD];(repeat (refine⟨an,?_⟩));(first | refine⟨by rfl,?_⟩ | skip);exact hK _ (by simp only[go_sem,hO,ae,h0,h1,h2,aw,a7,Option.isSome_none,aD]) (by simp only[go_sem,hO,ae,h0,h1,h2,aw,a7,Option.isSome_none,aD]<;>rfl)) ?_
       refine av ?_
       simp only[go_sem,hO,ae,h0,h1,h2]
       first | (unfold bt;simp only[aw];simp_all[cw,ck];done) | (unfold bt;simp only[aw];rcases bX:bD x.bk (r.so,s.le)with _ | j<;>simp_all[cw,ck];done)
      ·repeat refine sq ?_
       refine aF ?_
       refine b9 ?_
       simp only[go_sem]
       refine eo [5,7] [[5,0],[7,0]] ?_ ?_
       ·simp only[go_sem,hO,ae,h0,h1,h2]
       simp only[go_sem,hO,ae,h0,h1,h2]
       repeat refine sq ?_
       refine dx hΓ hP [[],[],[0,1]] [4,5] [[5,0]] (by kernel_rfl) (fun K' hK=>by simp only[go_sem,hO,ae,h0,h1,h2,aw,a7,Option.isSome_none,aD];(repeat (refine⟨an,?_⟩));(first | refine⟨by rfl,?_⟩ | skip);exact hK _ (by simp only[go_sem,hO,ae,h0,h1,h2,aw,a7,Option.isSome_none,aD]) (by simp only[go_sem,hO,ae,h0,h1,h2,aw,a7,Option.isSome_none,aD]<;>rfl)) ?_
       refine av ?_
       simp only[go_sem,hO,ae,h0,h1,h2]
       first | (unfold bt;simp only[aw];simp_all[cw,ck];done) | (unfold bt;simp only[aw];rcases bX:bD x.bk (r.so,s.le)with _ | j<;>simp_all[cw,ck];done)
  ·repeat refine sq ?_
   refine rx hΓ [3,5,6,7,8,9,10,11,39] [[3,0],[5,0],[6,0],[7,0],[8,0]] (fun K' hK=>by simp only[go_sem,hO,ae,h0,h1,h2,aw,a7,Option.isSome_none,aD];(repeat (refine⟨an,?_⟩));exact hK _ (by simp only[go_sem,hO,ae,h0,h1,h2,aw,a7,Option.isSome_none,aD]) (by simp only[go_sem,hO,ae,h0,h1,h2,aw,a7,Option.isSome_none,aD]<;>rfl)) ?_
   repeat refine sq ?_
   refine aB (fun hb=>?_) fun hb=>?_
   ·repeat refine sq ?_
    refine dx hΓ hP [[],[],[0,1]] [4,5] [[5,0]] (by kernel_rfl) (fun K' hK=>by simp only[go_sem,hO,ae,h0,h1,h2,aw,a7,Option.isSome_none,aD];(repeat (refine⟨an,?_⟩));(first | refine⟨by rfl,?_⟩ | skip);exact hK _ (by simp only[go_sem,hO,ae,h0,h1,h2,aw,a7,Option.isSome_none,aD]) (by simp only[go_sem,hO,ae,h0,h1,h2,aw,a7,Option.isSome_none,aD]<;>rfl)) ?_
    refine av ?_
    simp only[go_sem,hO,ae,h0,h1,h2]
    first | (unfold bt;simp only[aw];simp_all[cw,ck];done) | (unfold bt;simp only[aw];rcases bX:bD x.bk (r.so,s.le)with _ | j<;>simp_all[cw,ck];done)
   ·repeat refine sq ?_
    refine rx hΓ [3,5,7,8,10,60] [[3,0],[5,0],[7,0],[8,0]] (fun K' hK=>by simp only[go_sem,hO,ae,h0,h1,h2,aw,a7,Option.isSome_none,aD];(repeat (refine⟨an,?_⟩));exact hK _ (by simp only[go_sem,hO,ae,h0,h1,h2,aw,a7,Option.isSome_none,aD]) (by simp only[go_sem,hO,ae,h0,h1,h2,aw,a7,Option.isSome_none,aD]<;>rfl)) ?_
    repeat refine sq ?_
    refine aB (fun hb=>?_) fun hb=>?_
    ·repeat refine sq ?_
     refine dx hΓ hP [[],[],[0,1]] [4,5] [[5,0]] (by kernel_rfl) (fun K' hK=>by simp only[go_sem,hO,ae,h0,h1,h2,aw,a7,Option.isSome_none,aD];(repeat (refine⟨an,?_⟩));(first | refine⟨by rfl,?_⟩ | skip);exact hK _ (by simp only[go_sem,hO,ae,h0,h1,h2,aw,a7,Option.isSome_none,aD]) (by simp only[go_sem,hO,ae,h0,h1,h2,aw,a7,Option.isSome_none,aD]<;>rfl)) ?_
     refine av ?_
     simp only[go_sem,hO,ae,h0,h1,h2]
     first | (unfold bt;simp only[aw];simp_all[cw,ck];done) | (unfold bt;simp only[aw];rcases bX:bD x.bk (r.so,s.le)with _ | j<;>simp_all[cw,ck];done)
    ·repeat refine sq ?_
     refine rx hΓ [3,5,7,8,10,68] [[3,0],[5,0],[7,0],[8,0]] (fun K' hK=>by simp only[go_sem,hO,ae,h0,h1,h2,aw,a7,Option.isSome_none,aD];(repeat (refine⟨an,?_⟩));exact hK _ (by simp only[go_sem,hO,ae,h0,h1,h2,aw,a7,Option.isSome_none,aD]) (by simp only[go_sem,hO,ae,h0,h1,h2,aw,a7,Option.isSome_none,aD]<;>rfl)) ?_
     repeat refine sq ?_
     refine aB (fun hb=>?_) fun hb=>?_
     ·repeat refine sq ?_
      refine dx hΓ hP [[],[],[1],[1,2],[0],u5] [4,5] [[5,0]] (by kernel_rfl) (fun K' hK=>by simp only[go_sem,hO,ae,h0,h1,h2,aw,a7,Option.isSome_none,aD];(repeat (refine⟨an,?_⟩));(first | refine⟨by rfl,?_⟩ | skip);exact hK _ (by simp only[go_sem,hO,ae,h0,h1,h2,aw,a7,Option.isSome_none,aD]) (by simp only[go_sem,hO,ae,h0,h1,h2,aw,a7,Option.isSome_none,aD]<;>rfl)) ?_
      refine av ?_
      simp only[go_sem,hO,ae,h0,h1,h2]
      first | (unfold bt;simp only[aw];simp_all[cw,ck];done) | (unfold bt;simp only[aw];rcases bX:bD x.bk (r.so,s.le)with _ | j<;>simp_all[cw,ck];done)
     ·repeat refine sq ?_
      refine rx hΓ [3,5,7,10,76] [[3,0],[5,0],[7,0]] (fun K' hK=>by simp only[go_sem,hO,ae,h0,h1,h2,aw,a7,Option.isSome_none,aD];(repeat (refine⟨an,?_⟩));exact hK _ (by simp only[go_sem,hO,ae,h0,h1,h2,aw,a7,Option.isSome_none,aD]) (by simp only[go_sem,hO,ae,h0,h1,h2,aw,a7,Option.isSome_none,aD]<;>rfl)) ?_
      repeat refine sq ?_
      refine aB (fun hb=>?_) fun hb=>?_
      ·repeat refine sq ?_
       refine dx hΓ hP [[],[],[1],[1,2],[1,2,3],[0],u6] [4,5] [[5,0]] (by kernel_rfl) (fun K' hK=>by simp only[go_sem,hO,ae,h0,h1,h2,aw,a7,Option.isSome_none,aD];(repeat (refine⟨an,?_⟩));(first | refine⟨by rfl,?_⟩ | skip);exact hK _ (by simp only[go_sem,hO,ae,h0,h1,h2,aw,a7,Option.isSome_none,aD]) (by simp only[go_sem,hO,ae,h0,h1,h2,aw,a7,Option.isSome_none,aD]<;>rfl)) ?_
       refine av ?_
       simp only[go_sem,hO,ae,h0,h1,h2]
       first | (unfold bt;simp only[aw];simp_all[cw,ck];done) | (unfold bt;simp only[aw];rcases bX:bD x.bk (r.so,s.le)with _ | j<;>simp_all[cw,ck];done)
      ·repeat refine sq ?_
       refine aF ?_
       refine b9 ?_
       simp only[go_sem]
       refine eo [5,7] [[5,0],[7,0]] ?_ ?_
       ·simp only[go_sem,hO,ae,h0,h1,h2]
       simp only[go_sem,hO,ae,h0,h1,h2]
       repeat refine sq ?_
       refine dx hΓ hP [[],[],[0,1]] [4,5] [[5,0]] (by kernel_rfl) (fun K' hK=>by simp only[go_sem,hO,ae,h0,h1,h2,aw,a7,Option.isSome_none,aD];(repeat (refine⟨an,?_⟩));(first | refine⟨by rfl,?_⟩ | skip);exact hK _ (by simp only[go_sem,hO,ae,h0,h1,h2,aw,a7,Option.isSome_none,aD]) (by simp only[go_sem,hO,ae,h0,h1,h2,aw,a7,Option.isSome_none,aD]<;>rfl)) ?_
       refine av ?_
       simp only[go_sem,hO,ae,h0,h1,h2]
       first | (unfold bt;simp only[aw];simp_all[cw,ck];done) | (unfold bt;simp only[aw];rcases bX:bD x.bk (r.so,s.le)with _ | j<;>simp_all[cw,ck];done)
 ·repeat refine sq ?_
  refine rx hΓ [0,3,5,6,7,8,9] [[3,0],[5,0],[6,0],[7,0],[8,0]] (fun K' hK=>by simp only[go_sem,hO,ae,h0,h1,h2,aw,aP,Option.isSome_some,aD];(repeat (refine⟨an,?_⟩));exact hK _ (by simp only[go_sem,hO,ae,h0,h1,h2,aw,aP,Option.isSome_some,aD]) (by simp only[go_sem,hO,ae,h0,h1,h2,aw,aP,Option.isSome_some,aD]<;>rfl)) ?_
  repeat refine sq ?_
  refine dx hΓ hP [[],[0],[0,1],[0,1,2],[],[4],[],[6],[4,5,6,7],u9,ew,gy,gy,gW,nj] [3,5,6,7,8,9,10,11] [[3,0],[5,0],[6,0],[7,0],[8,0]] (by kernel_rfl) (fun K' hK=>by simp only[go_sem,hO,ae,h0,h1,h2,aw,aP,Option.isSome_some,aD];(repeat (refine⟨an,?_⟩));(first | refine⟨by rfl,?_⟩ | skip);exact hK _ (by simp only[go_sem,hO,ae,h0,h1,h2,aw,aP,Option.isSome_some,aD]) (by simp only[go_sem,hO,ae,h0,h1,h2,aw,aP,Option.isSome_some,aD]<;>rfl)) ?_
  repeat refine sq ?_
  refine aS ?_
  repeat refine sq ?_
  refine rx hΓ [3,5,6,7,8,9,10,11,39] [[3,0],[5,0],[6,0],[7,0],[8,0]] (fun K' hK=>by simp only[go_sem,hO,ae,h0,h1,h2,aw,aP,Option.isSome_some,aD];(repeat (refine⟨an,?_⟩));exact hK _ (by simp only[go_sem,hO,ae,h0,h1,h2,aw,aP,Option.isSome_some,aD]) (by simp only[go_sem,hO,ae,h0,h1,h2,aw,aP,Option.isSome_some,aD]<;>rfl)) ?_
  repeat refine sq ?_
  refine aB (fun hb=>?_) fun hb=>?_
  ·repeat refine sq ?_
   refine aF ?_
   repeat refine sq ?_
   refine aB (fun hb=>?_) fun hb=>?_
   ·repeat refine sq ?_
    refine dx hΓ hP [[],[],[0,1]] [4,5] [[5,0]] (by kernel_rfl) (fun K' hK=>by simp only[go_sem,hO,ae,h0,h1,h2,aw,aP,Option.isSome_some,aD];(repeat (refine⟨an,?_⟩));(first | refine⟨by rfl,?_⟩ | skip);exact hK _ (by simp only[go_sem,hO,ae,h0,h1,h2,aw,aP,Option.isSome_some,aD]) (by simp only[go_sem,hO,ae,h0,h1,h2,aw,aP,Option.isSome_some,aD]<;>rfl)) ?_
    refine av ?_
    simp only[go_sem,hO,ae,h0,h1,h2]
    first | (unfold bt;simp only[aw];simp_all[cw,ck];done) | (unfold bt;simp only[aw];rcases bX:bD x.bk (r.so,s.le)with _ | j<;>simp_all[cw,ck];done)
   ·repeat refine sq ?_
    refine rx hΓ [3,5,7,8,10,60] [[3,0],[5,0],[7,0],[8,0]] (fun K' hK=>by simp only[go_sem,hO,ae,h0,h1,h2,aw,aP,Option.isSome_some,aD];(repeat (refine⟨an,?_⟩));exact hK _ (by simp only[go_sem,hO,ae,h0,h1,h2,aw,aP,Option.isSome_some,aD]) (by simp only[go_sem,hO,ae,h0,h1,h2,aw,aP,Option.isSome_some,aD]<;>rfl)) ?_
    repeat refine sq ?_
    refine aB (fun hb=>?_) fun hb=>?_
    ·repeat refine sq ?_
     refine dx hΓ hP [[],[],[0,1]] [4,5] [[5,0]] (by kernel_rfl) (fun K' hK=>by simp only[go_sem,hO,ae,h0,h1,h2,aw,aP,Option.isSome_some,aD];(repeat (refine⟨an,?_⟩));(first | refine⟨by rfl,?_⟩ | skip);exact hK _ (by simp only[go_sem,hO,ae,h0,h1,h2,aw,aP,Option.isSome_some,aD]) (by simp only[go_sem,hO,ae,h0,h1,h2,aw,aP,Option.isSome_some,aD]<;>rfl)) ?_
     refine av ?_
     simp only[go_sem,hO,ae,h0,h1,h2]
     first | (unfold bt;simp only[aw];simp_all[cw,ck];done) | (unfold bt;simp only[aw];rcases bX:bD x.bk (r.so,s.le)with _ | j<;>simp_all[cw,ck];done)
    ·repeat refine sq ?_
     refine rx hΓ [3,5,7,8,10,68] [[3,0],[5,0],[7,0],[8,0]] (fun K' hK=>by simp only[go_sem,hO,ae,h0,h1,h2,aw,aP,Option.isSome_some,aD];(repeat (refine⟨an,?_⟩));exact hK _ (by simp only[go_sem,hO,ae,h0,h1,h2,aw,aP,Option.isSome_some,aD]) (by simp only[go_sem,hO,ae,h0,h1,h2,aw,aP,Option.isSome_some,aD]<;>rfl)) ?_
     repeat refine sq ?_
     refine aB (fun hb=>?_) fun hb=>?_
     ·repeat refine sq ?_
      refine dx hΓ hP [[],[],[1],[1,2],[0],u5] [4,5] [[5,0]] (by kernel_rfl) (fun K' hK=>by simp only[go_sem,hO,ae,h0,h1,h2,aw,aP,Option.isSome_some,aD];(repeat (refine⟨an,?_⟩));(first | refine⟨by rfl,?_⟩ | skip);exact hK _ (by simp only[go_sem,hO,ae,h0,h1,h2,aw,aP,Option.isSome_some,aD]) (by simp only[go_sem,hO,ae,h0,h1,h2,aw,aP,Option.isSome_some,aD]<;>rfl)) ?_
      refine av ?_
      simp only[go_sem,hO,ae,h0,h1,h2]
      first | (unfold bt;simp only[aw];simp_all[cw,ck];done) | (unfold bt;simp only[aw];rcases bX:bD x.bk (r.so,s.le)with _ | j<;>simp_all[cw,ck];done)
     ·repeat refine sq ?_
      refine rx hΓ [3,5,7,10,76] [[3,0],[5,0],[7,0]] (fun K' hK=>by simp only[go_sem,hO,ae,h0,h1,h2,aw,aP,Option.isSome_some,aD];(repeat (refine⟨an,?_⟩));exact hK _ (by simp only[go_sem,hO,ae,h0,h1,h2,aw,aP,Option.isSome_some,aD]) (by simp only[go_sem,hO,ae,h0,h1,h2,aw,aP,Option.isSome_some,aD]<;>rfl)) ?_
      repeat refine sq ?_
      refine aB (fun hb=>?_) fun hb=>?_
      ·repeat refine sq ?_
       refine dx hΓ hP [[],[],[1],[1,2],[1,2,3],[0],u6] [4,5] [[5,0]] (by kernel_rfl) (fun K' hK=>by simp only[go_sem,hO,ae,h0,h1,h2,aw,aP,Option.isSome_some,aD];(repeat (refine⟨an,?_⟩));(first | refine⟨by rfl,?_⟩ | skip);exact hK _ (by simp only[go_sem,hO,ae,h0,h1,h2,aw,aP,Option.isSome_some,aD]) (by simp only[go_sem,hO,ae,h0,h1,h2,aw,aP,Option.isSome_some,aD]<;>rfl)) ?_
       refine av ?_
       simp only[go_sem,hO,ae,h0,h1,h2]
       first | (unfold bt;simp only[aw];simp_all[cw,ck];done) | (unfold bt;simp only[aw];rcases bX:bD x.bk (r.so,s.le)with _ | j<;>simp_all[cw,ck];done)
      ·repeat refine sq ?_
       refine aF ?_
       refine b9 ?_
       simp only[go_sem]
       refine eo [5,7] [[5,0],[7,0]] ?_ ?_
       ·simp only[go_sem,hO,ae,h0,h1,h2]
       simp only[go_sem,hO,ae,h0,h1,h2]
       repeat refine sq ?_
       refine dx hΓ hP [[],[],[0,1]] [4,5] [[5,0]] (by kernel_rfl) (fun K' hK=>by simp only[go_sem,hO,ae,h0,h1,h2,aw,aP,Option.isSome_some,aD];(repeat (refine⟨an,?_⟩));(first | refine⟨by rfl,?_⟩ | skip);exact hK _ (by simp only[go_sem,hO,ae,h0,h1,h2,aw,aP,Option.isSome_some,aD]) (by simp only[go_sem,hO,ae,h0,h1,h2,aw,aP,Option.isSome_some,aD]<;>rfl)) ?_
       refine av ?_
       simp only[go_sem,hO,ae,h0,h1,h2]
       first | (unfold bt;simp only[aw];simp_all[cw,ck];done) | (unfold bt;simp only[aw];rcases bX:bD x.bk (r.so,s.le)with _ | j<;>simp_all[cw,ck];done)
  ·repeat refine sq ?_
   refine rx hΓ [3,5,6,7,8,9,10,11,39] [[3,0],[5,0],[6,0],[7,0],[8,0]] (fun K' hK=>by simp only[go_sem,hO,ae,h0,h1,h2,aw,aP,Option.isSome_some,aD];(repeat (refine⟨an,?_⟩));exact hK _ (by simp only[go_sem,hO,ae,h0,h1,h2,aw,aP,Option.isSome_some,aD]) (by simp only[go_sem,hO,ae,h0,h1,h2,aw,aP,Option.isSome_some,aD]<;>rfl)) ?_
   repeat refine sq ?_
   refine aB (fun hb=>?_) fun hb=>?_
   ·repeat refine sq ?_
    refine dx hΓ hP [[],[],[0,1]] [4,5] [[5,0]] (by kernel_rfl) (fun K' hK=>by simp only[go_sem,hO,ae,h0,h1,h2,aw,aP,Option.isSome_some,aD];(repeat (refine⟨an,?_⟩));(first | refine⟨by rfl,?_⟩ | skip);exact hK _ (by simp only[go_sem,hO,ae,h0,h1,h2,aw,aP,Option.isSome_some,aD]) (by simp only[go_sem,hO,ae,h0,h1,h2,aw,aP,Option.isSome_some,aD]<;>rfl)) ?_
    refine av ?_
    simp only[go_sem,hO,ae,h0,h1,h2]
    first | (unfold bt;simp only[aw];simp_all[cw,ck];done) | (unfold bt;simp only[aw];rcases bX:bD x.bk (r.so,s.le)with _ | j<;>simp_all[cw,ck];done)
   ·repeat refine sq ?_
    refine rx hΓ [3,5,7,8,10,60] [[3,0],[5,0],[7,0],[8,0]] (fun K' hK=>by simp only[go_sem,hO,ae,h0,h1,h2,aw,aP,Option.isSome_some,aD];(repeat (refine⟨an,?_⟩));exact hK _ (by simp only[go_sem,hO,ae,h0,h1,h2,aw,aP,Option.isSome_some,aD]) (by simp only[go_sem,hO,ae,h0,h1,h2,aw,aP,Option.isSome_some,aD]<;>rfl)) ?_
    repeat refine sq ?_
    refine aB (fun hb=>?_) fun hb=>?_
    ·repeat refine sq ?_
     refine dx hΓ hP [[],[],[0,1]] [4,5] [[5,0]] (by kernel_rfl) (fun K' hK=>by simp only[go_sem,hO,ae,h0,h1,h2,aw,aP,Option.isSome_some,aD];(repeat (refine⟨an,?_⟩));(first | refine⟨by rfl,?_⟩ | skip);exact hK _ (by simp only[go_sem,hO,ae,h0,h1,h2,aw,aP,Option.isSome_some,aD]) (by simp only[go_sem,hO,ae,h0,h1,h2,aw,aP,Option.isSome_some,aD]<;>rfl)) ?_
     refine av ?_
     simp only[go_sem,hO,ae,h0,h1,h2]
     first | (unfold bt;simp only[aw];simp_all[cw,ck];done) | (unfold bt;simp only[aw];rcases bX:bD x.bk (r.so,s.le)with _ | j<;>simp_all[cw,ck];done)
    ·repeat refine sq ?_
     refine rx hΓ [3,5,7,8,10,68] [[3,0],[5,0],[7,0],[8,0]] (fun K' hK=>by simp only[go_sem,hO,ae,h0,h1,h2,aw,aP,Option.isSome_some,aD];(repeat (refine⟨an,?_⟩));exact hK _ (by simp only[go_sem,hO,ae,h0,h1,h2,aw,aP,Option.isSome_some,aD]) (by simp only[go_sem,hO,ae,h0,h1,h2,aw,aP,Option.isSome_some,aD]<;>rfl)) ?_
     repeat refine sq ?_
     refine aB (fun hb=>?_) fun hb=>?_
     ·repeat refine sq ?_
      refine dx hΓ hP [[],[],[1],[1,2],[0],u5] [4,5] [[5,0]] (by kernel_rfl) (fun K' hK=>by simp only[go_sem,hO,ae,h0,h1,h2,aw,aP,Option.isSome_some,aD];(repeat (refine⟨an,?_⟩));(first | refine⟨by rfl,?_⟩ | skip);exact hK _ (by simp only[go_sem,hO,ae,h0,h1,h2,aw,aP,Option.isSome_some,aD]) (by simp only[go_sem,hO,ae,h0,h1,h2,aw,aP,Option.isSome_some,aD]<;>rfl)) ?_
      refine av ?_
      simp only[go_sem,hO,ae,h0,h1,h2]
      first | (unfold bt;simp only[aw];simp_all[cw,ck];done) | (unfold bt;simp only[aw];rcases bX:bD x.bk (r.so,s.le)with _ | j<;>simp_all[cw,ck];done)
     ·repeat refine sq ?_
      refine rx hΓ [3,5,7,10,76] [[3,0],[5,0],[7,0]] (fun K' hK=>by simp only[go_sem,hO,ae,h0,h1,h2,aw,aP,Option.isSome_some,aD];(repeat (refine⟨an,?_⟩));exact hK _ (by simp only[go_sem,hO,ae,h0,h1,h2,aw,aP,Option.isSome_some,aD]) (by simp only[go_sem,hO,ae,h0,h1,h2,aw,aP,Option.isSome_some,aD]<;>rfl)) ?_
      repeat refine sq ?_
      refine aB (fun hb=>?_) fun hb=>?_
      ·repeat refine sq ?_
       refine dx hΓ hP [[],[],[1],[1,2],[1,2,3],[0],u6] [4,5] [[5,0]] (by kernel_rfl) (fun K' hK=>by simp only[go_sem,hO,ae,h0,h1,h2,aw,aP,Option.isSome_some,aD];(repeat (refine⟨an,?_⟩));(first | refine⟨by rfl,?_⟩ | skip);exact hK _ (by simp only[go_sem,hO,ae,h0,h1,h2,aw,aP,Option.isSome_some,aD]) (by simp only[go_sem,hO,ae,h0,h1,h2,aw,aP,Option.isSome_some,aD]<;>rfl)) ?_
       refine av ?_
       simp only[go_sem,hO,ae,h0,h1,h2]
       first | (unfold bt;simp only[aw];simp_all[cw,ck];done) | (unfold bt;simp only[aw];rcases bX:bD x.bk (r.so,s.le)with _ | j<;>simp_all[cw,ck];done)
      ·repeat refine sq ?_
       refine aF ?_
       refine b9 ?_
       simp only[go_sem]
       refine eo [5,7] [[5,0],[7,0]] ?_ ?_
       ·simp only[go_sem,hO,ae,h0,h1,h2]
       simp only[go_sem,hO,ae,h0,h1,h2]
       repeat refine sq ?_
       refine dx hΓ hP [[],[],[0,1]] [4,5] [[5,0]] (by kernel_rfl) (fun K' hK=>by simp only[go_sem,hO,ae,h0,h1,h2,aw,aP,Option.isSome_some,aD];(repeat (refine⟨an,?_⟩));(first | refine⟨by rfl,?_⟩ | skip);exact hK _ (by simp only[go_sem,hO,ae,h0,h1,h2,aw,aP,Option.isSome_some,aD]) (by simp only[go_sem,hO,ae,h0,h1,h2,aw,aP,Option.isSome_some,aD]<;>rfl)) ?_
       refine av ?_
       simp only[go_sem,hO,ae,h0,h1,h2]
       first | (unfold bt;simp only[aw];simp_all[cw,ck];done) | (unfold bt;simp only[aw];rcases bX:bD x.bk (r.so,s.le)with _ | j<;>simp_all[cw,ck];done)
end
end Go.Eng
