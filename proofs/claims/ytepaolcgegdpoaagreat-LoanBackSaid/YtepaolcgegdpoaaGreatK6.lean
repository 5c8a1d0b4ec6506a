import Derived.Test.YtepaolcgegdpoaaGreatK5
/- Texts EngP to LW26. -/
set_option linter.all false
namespace Go.Eng
open Go
def cW(obj:Name->Option O):List Name->List O->Prop
 |[],[]=>True
 |x::xs,o::os=>obj x=some o/\cW obj xs os
 |_,_=>False
theorem lk{obj:Name->Option O}:∀ {Ls:List Name} {F:List O},cW obj Ls F↔Ls.map obj=F.map some
 |[],[]=>by simp[cW]
 |x::xs,o::os=>by simp only[cW,List.map_cons,List.cons.injEq,lk]
 |[],_::_=>by simp[cW]
 |_::_,[]=>by simp[cW]
theorem CZ{obj obj2:Name->Option O}{Ls:List Name}{F:List O}(h:cW obj Ls F)(ha:∀ x∈Ls,obj2 x=obj x):cW obj2 Ls F:=by
 rw[lk]at h |-
 rw[<-h]
 exact List.map_congr_left ha
theorem CY{obj:Name->Option O}:∀ {Ls:List Name} {F:List O},cW obj Ls F->∀ i (h:i<Ls.length) (h':i<F.length),obj Ls[i]=some F[i]
 |_::_,_::_,h,0,_,_=>h.1
 |_::_,_::_,h,i+1,h1,h2=>by
  simp only[List.getElem_cons_succ]
  exact CY h.2 i (by simpa using h1) (by simpa using h2)
def y9(K:Exit->S->Prop)(σ:S):Option Code->Prop
 |none=>K .normal σ
 |some .ret=>K .ret σ
 |some (.exit id)=>K (.exit id) σ
 |_=>False
theorem U0{K:Exit->S->Prop}{obj:Name->Option O}{nm:Name}{σ:S}{env:List E}{ps:List Nat}{a b:Code}(pd:Option Code)(h:obj nm=some (.loop env ps a b (if pd.isNone then .ready else .done) pd))
 (hK:y9 K σ pd):qn K obj nm σ:=by
 unfold qn
 rw[h]
 rcases pd with _ | c
 ·exact hK
 ·cases c<;>first | exact hK.elim | exact hK
def LR(m:Nat):List Name:=(List.range m).map fun i=>[i,1]
def LI(m:Nat):List Name:=(List.range m).map fun i=>[i+1,1]
theorem oU(m:Nat):(LR m).length=m:=by simp[LR]
theorem hU(m:Nat):(LI m).length=m:=by simp[LI]
theorem P'(m:Nat):(LR m).Nodup:=by
 unfold LR
 exact List.Pairwise.map _ (fun a b h=>by simpa using h) List.nodup_range
theorem A4{Ls:List Name}(hn:Ls.Nodup):Ls.map (cin Ls)=LR Ls.length:=by
 refine List.ext_getElem (by simp[LR]) fun i h1 h2=>?_
 simp only[List.getElem_map,LR,List.getElem_range,cin]
 rw[DM hn (by simpa using h1)]
theorem F9{R:Name}{Ls:List Name}(hn:Ls.Nodup)(hR:R∉Ls):Ls.map (cin (R::Ls))=LI Ls.length:=by
 refine List.ext_getElem (by simp[LI]) fun i h1 h2=>?_
 simp only[List.getElem_map,LI,List.getElem_range,cin]
 have h3:i<Ls.length:=by simpa using h1
 have h4:=DM (L:=R::Ls) (List.nodup_cons.2 ⟨hR,hn⟩) (i:=i+1) (by simp;omega)
 simp only[List.getElem_cons_succ]at h4
 rw[h4]
theorem OF(Ls:List Name)(t:Name):(LR Ls.length).map (cout Ls t)=Ls:=by
 refine List.ext_getElem (by simp[LR]) fun i h1 h2=>?_
 simp only[List.getElem_map,LR,List.getElem_range,cout]
 exact lE h2
theorem OE(R:Name)(Ls:List Name)(t:Name):(LI Ls.length).map (cout (R::Ls) t)=Ls:=by
 refine List.ext_getElem (by simp[LI]) fun i h1 h2=>?_
 simp only[List.getElem_map,LI,List.getElem_range,cout]
 rw[lE (by simpa using h2)]
 simp
def eo:List Name->List O->(Name->Option O)->(Name->Option O)
 |x::xs,o::os,obj=>eo xs os (upd obj x (some o))
 |_,_,obj=>obj
theorem wg:∀ {Ls:List Name} {F:List O} {obj:Name->Option O} {x:Name},x∉Ls->eo Ls F obj x=obj x
 |[],_,_,_,_=>by simp[eo]
 |_::_,[],_,_,_=>by simp[eo]
 |y::ys,o::os,obj,x,h=>by
  simp only[List.mem_cons,not_or]at h
  simp only[eo]
  rw[wg h.2,bc _ _ _ h.1]
theorem HT:∀ {Ls:List Name} {F:List O} {obj:Name->Option O},Ls.Nodup->Ls.length=F.length->cW (eo Ls F obj) Ls F
 |[],[],_,_,_=>trivial
 |[],_::_,_,_,h=>by simp at h
 |_::_,[],_,_,h=>by simp at h
 |y::ys,o::os,obj,hn,h=>by
  rw[List.nodup_cons]at hn
  refine⟨?_,HT (obj:=upd obj y (some o)) hn.2 (by simpa using h)⟩
  simp only[eo]
  rw[wg hn.1,aT]
def fk:Nat->List O->List (Nat×O)
 |_,[]=>[]
 |k,o::r=>(k,o)::fk (k+1) r
theorem CE{t:Name}{L:List Name}:∀ {Ls:List Name} {k:Nat} {F:List O} {obj:Name->Option O},Ls.length=F.length->(∀ i (h:i<Ls.length),L.getD (k+i) []=Ls[i])->
 cF L t (fk k F) obj=eo Ls (F.map (O.ren (cout L t))) obj
 |[],k,[],obj,_,_=>rfl
 |[],k,_::_,obj,h,_=>by simp at h
 |_::_,k,[],obj,h,_=>by simp at h
 |x::xs,k,o::os,obj,h,hL=>by
  simp only[fk,cF,List.map_cons,eo]
  have h0:=hL 0 (by simp)
  simp only[Nat.add_zero,List.getElem_cons_zero]at h0
  rw[h0]
  exact CE (by simpa using h) fun i hi=>by
   have :=hL (i+1) (by simpa using hi)
   rw[show k+1+i=k+(i+1)by omega]
   simpa using this
theorem Dv:∀ {F:List O} {k i:Nat} {o:O},i<k->eX (fk k F) i o=o
 |[],k,i,o,_=>rfl
 |f::r,k,i,o,h=>by
  simp only[fk,eX]
  rw[if_neg (by omega)]
  exact Dv (by omega)
theorem CU{σ:S}:∀ {F os:List O} {k:Nat} {u:List (Nat×O)},F.length=os.length->(∀ i,k<=i->∀ o,eX u i o=eX (fk k F) i o)->
 (∀ i (h:i<F.length),σ.obj [k+i,1]=some F[i])->rR σ u k os
 |[],[],_,_,_,_,_=>trivial
 |[],_::_,_,_,h,_,_=>by simp at h
 |_::_,[],_,_,h,_,_=>by simp at h
 |f::fs,o::os,k,u,h,hu,hs=>by
  refine⟨?_,CU (F:=fs) (by simpa using h) (fun i hi x=>?_) fun i hi=>?_⟩
  ·have h0:=hs 0 (by simp)
   simp only[Nat.add_zero,List.getElem_cons_zero]at h0
   rw[h0,hu k (Nat.le_refl _) o]
   simp only[fk,eX,if_true]
   rw[Dv (by omega)]
  ·rw[hu i (by omega) x]
   simp only[fk,eX]
   rw[if_neg (by omega)]
  ·have:=hs (i+1) (by simpa using hi)
   rw[show k+1+i=k+(i+1)by omega]
   simpa using this
structure Lp where
 m:Nat
 env:List Name->List E
 fam:List Name->Nat->List O
 ps:List Nat
 asg:Code
 body:Code
 n:Nat
 vals:Nat->List D
 st:Nat->Option Code
 fu:Nat
structure Lp.Ok (r:Lp):Prop where
 len:∀ Ls s,Ls.length=r.m->(r.fam Ls s).length=r.m
 renE:∀ f Ls,Ls.length=r.m->(r.env Ls).map (E.ren f)=r.env (Ls.map f)
 renF:∀ f Ls s,Ls.length=r.m->(r.fam Ls s).map (O.ren f)=r.fam (Ls.map f) s
 reach:∀ Ls s obj acc k,Ls.length=r.m->Ls.Nodup->(∀ x∈Ls,x∉acc)->cW obj Ls (r.fam Ls s)->dC obj (k+r.fu) (de ((r.env Ls).map (·.d))) acc=acc++Ls
 closE:∀ dom Ls,Ls.length=r.m->(∀ x∈Ls,dom x=true)->D.closL dom ((r.env Ls).map (·.d))=true
 closF:∀ dom Ls s,Ls.length=r.m->(∀ x∈Ls,dom x=true)->∀ o∈r.fam Ls s,O.clos dom o=true
 psz:∀ Ls,Ls.length=r.m->(r.ps.all fun p=>decide (p<(r.env Ls).length))=true
 args:∀ s,(r.vals s).length=r.ps.length
 fuel:r.fu<=2000
 vnam:∀ s,de (r.vals s)=[]
 vcl:∀ s dom,D.closL dom (r.vals s)=true
 vren:∀ s f,D.renL f (r.vals s)=r.vals s
 inj:∀ s s',s<r.n->s'<r.n->r.vals s=r.vals s'->s=s'
theorem Ua(a b:List D):de (a++b)=de a++de b:=by
 induction a with
 |nil=>rfl
 |cons x r ih=>simp only[List.cons_append,de,ih,List.append_assoc]
theorem aaF(dom:Name->Bool)(a b:List D):D.closL dom (a++b)=(D.closL dom a&&D.closL dom b):=by
 induction a with
 |nil=>simp[D.closL]
 |cons x r ih=>simp only[List.cons_append,D.closL,ih,Bool.and_assoc]
noncomputable def Lp.y(r:Lp):YSpec where
 pre:=fun env ps asg body os ds=>∃ s,s<r.n/\(∀ j,j<s->r.st j=none)/\env=r.env (LR r.m)/\ps=r.ps/\asg=r.asg/\body=r.body/\os=r.fam (LR r.m) s/\ds=r.vals s
 out:=fun _ _ _ _ _ ds=>by
  classical exact if h:∃ s,s<r.n/\ds=r.vals s then(⟨fk 0 (r.fam (LR r.m) (h.choose+1)),[],.v (.bool true)⟩,r.st h.choose)else(⟨[],[],.any⟩,none)
theorem Lp.y_out{r:Lp}(hr:r.Ok){s:Nat}(hs:s<r.n)(env:List E)(ps:List Nat)(asg body:Code)(os:List O):
 r.y.out env ps asg body os (r.vals s)=(⟨fk 0 (r.fam (LR r.m) (s+1)),[],.v (.bool true)⟩,r.st s):=by
 have h:∃ s',s'<r.n/\r.vals s=r.vals s':=⟨s,hs,rfl⟩
 have e:h.choose=s:=(hr.inj _ _ hs h.choose_spec.1 h.choose_spec.2).symm
 simp only[Lp.y]
 rw[dif_pos h,e]
def SQ(m:Nat)(F:List O)(p:Option Code):Exit->S->Prop
 | .normal,σ=>p=none/\cW σ.obj (LR m) F
 | .ret,σ=>p=some .ret/\cW σ.obj (LR m) F
 | .exit id,σ=>p=some (.exit id)/\cW σ.obj (LR m) F
 |_,_=>False
theorem Z1{os F:List O}{σ:S}{m:Nat}(h1:os.length=m)(h2:F.length=m)(hc:∀ dom:Name->Bool,(∀ x∈LR m,dom x=true)->∀ o∈F,O.clos dom o=true)(h:cW σ.obj (LR m) F):
 gw os ⟨fk 0 F,[],.v (.bool true)⟩ σ:=by
 have sM:∀ i (hi:i<F.length),σ.obj [i,1]=some F[i]:=by
  rw[lk]at h
  intro i hi
  have h3:=congrArg (fun l=>l[i]?) h
  have bK:i<m:=by omega
  simpa[LR,hi,bK]using h3
 refine⟨CU (F:=F) (by omega) (fun i _ o=>rfl) fun i hi=>by rw[Nat.zero_add];exact sM i hi,trivial,?_⟩
 have qH:∀ x∈LR m,dj os.length [] x=true:=by
  intro x hx
  obtain⟨i,hi,rfl⟩:=List.mem_map.1 hx
  have :=List.mem_range.1 hi
  simp[dj]
  omega
 have eG:∀ (F':List O) (k:Nat),(∀ o∈F',O.clos (dj os.length []) o=true)->k+F'.length<=os.length->((fk k F').all fun x=>O.clos (dj os.length []) x.2&&decide (x.1<os.length))=true:=by
  intro F'
  induction F' with
  |nil=>intros;rfl
  |cons f fs ih=>
   intro k hf hk
   simp only[List.length_cons]at hk
   simp only[fk,List.all_cons,Bool.and_eq_true,decide_eq_true_eq]
   exact⟨⟨hf f (by simp),by omega⟩,by have:=ih (k+1) (fun o ho=>hf o (by simp[ho])) (by omega);simpa using this⟩
 have :=eG F 0 (hc _ qH) (by omega)
 simp only[D.clos,this,List.all_nil,List.map_nil,distinct,Bool.and_self]
theorem Lp.y_sound{P:Program}{r:Lp}(hr:r.Ok)(h:∀ s,s<r.n->(∀ j,j<s->r.st j=none)->
 CW P r.asg ⟨(r.env (LR r.m)).length,pY (s7 (r.env (LR r.m))) r.ps (r.vals s),aX (r.fam (LR r.m) s),[0],0⟩ (Ja fun σ1=>CW P r.body σ1 (SQ r.m (r.fam (LR r.m) (s+1)) (r.st s)))):aN P yid r.y.toSpec:=by
 refine G2 ?_
 rintro env ps asg body os ds ⟨s,hs,hj,rfl,rfl,rfl,rfl,rfl,rfl⟩ _
 rw[Lp.y_out hr hs]
 refine CW.mono (h s hs hj) fun e σ hk=>?_
 cases e with
 |normal=>
  refine CW.mono hk fun e σ hk=>?_
  have fin:cW σ.obj (LR r.m) (r.fam (LR r.m) (s+1))->gw (r.fam (LR r.m) s) ⟨fk 0 (r.fam (LR r.m) (s+1)),[],.v (.bool true)⟩ σ:=
   Z1 (hr.len _ _ (oU _)) (hr.len _ _ (oU _)) fun dom hd=>hr.closF dom _ _ (oU _) hd
  cases e with
  |normal=>exact⟨hk.1,fin hk.2⟩
  |ret=>exact⟨hk.1,fin hk.2⟩
  |exit id=>exact⟨hk.1,fin hk.2⟩
  |goto l=>exact hk.elim
  |panic c=>exact hk.elim
  |outgrown=>exact hk.elim
 |ret=>exact hk.elim
 |exit id=>exact hk.elim
 |goto l=>exact hk.elim
 |panic c=>exact hk.elim
 |outgrown=>exact hk.elim
def Lp.rc(r:Lp)(Ls:List Name)(st:LoopState)(pd:Option Code):O:=.loop (r.env Ls) r.ps r.asg r.body st pd
theorem Lp.y_app{r:Lp}(hr:r.Ok){s:Nat}(hs:s<r.n)(hj:∀ j,j<s->r.st j=none){obj:Name->Option O}{t R:Name}{Ls:List Name}(hl:Ls.length=r.m)(hn:Ls.Nodup)(hR:R∉Ls)
 (h0:obj R=some (r.rc Ls .ready none)) (hF:cW obj Ls (r.fam Ls s)):
 r.y.toSpec.app obj t (.yld R::r.vals s)=⟨True,.v (.bool (r.st s).isNone),upd (eo Ls (r.fam Ls (s+1)) obj) R (some (r.rc Ls (if (r.st s).isNone then .ready else .done) (r.st s)))⟩:=by
 have j8:reach obj (roots (r.env Ls) (r.vals s))=Ls:=by
  unfold reach roots
  rw[Ua,hr.vnam,List.append_nil]
  have :=hr.reach Ls s obj [] (3000-r.fu) hl hn (fun _ _=>by simp) hF
  rwa [show 3000-r.fu+r.fu=3000 by have:=hr.fuel;omega]at this
 have e1:cD obj (roots (r.env Ls) (r.vals s))=r.fam (LR r.m) s:=by
  unfold cD
  rw[j8]
  have :Ls.map (cH Ls obj)=(r.fam Ls s).map (O.ren (cin Ls)):=by
   rw[lk]at hF
   refine List.ext_getElem (by simp[hr.len _ _ hl,hl]) fun i h1 h2=>?_
   have h3:i<Ls.length:=by simpa using h1
   have h4:i<(r.fam Ls s).length:=by rw[hr.len _ _ hl,<-hl];exact h3
   have h5:=congrArg (fun l=>l[i]?) hF
   have h6:obj Ls[i]=some (r.fam Ls s)[i]:=by simpa[h3,h4]using h5
   simp only[List.getElem_map,cH,h6]
  rw[this,hr.renF _ _ _ hl,A4 hn,hl]
 have e2:iy obj (r.env Ls) (r.vals s)=r.env (LR r.m):=by
  unfold iy
  rw[j8,hr.renE _ _ hl,A4 hn,hl]
 have e3:jJ obj (r.env Ls) (r.vals s)=r.vals s:=by
  unfold jJ
  exact hr.vren s _
 have e4:r.y.o obj (r.env Ls) r.ps r.asg r.body (r.vals s)=(⟨fk 0 (r.fam (LR r.m) (s+1)),[],.v (.bool true)⟩,r.st s):=by
  unfold YSpec.o
  rw[e1,e2,e3,Lp.y_out hr hs]
 have dT:r.y.pre (r.env (LR r.m)) r.ps r.asg r.body (r.fam (LR r.m) s) (r.vals s):=⟨s,hs,hj,rfl,rfl,rfl,rfl,rfl,rfl⟩
 have cp:D.closL (cX Ls) (roots (r.env Ls) (r.vals s))=true:=by
  unfold roots
  rw[aaF,hr.vcl,Bool.and_true]
  exact hr.closE _ _ hl fun x hx=>gD.2 hx
 have j6:shut obj Ls=true:=by
  unfold shut
  rw[List.all_eq_true]
  intro x hx
  obtain⟨i,hi,rfl⟩:=List.getElem_of_mem hx
  rw[lk]at hF
  have h4:i<(r.fam Ls s).length:=by rw[hr.len _ _ hl,<-hl];exact hi
  have h5:=congrArg (fun l=>l[i]?) hF
  have h6:obj Ls[i]=some (r.fam Ls s)[i]:=by simpa[hi,h4]using h5
  rw[h6]
  exact hr.closF _ _ _ hl (fun x hx=>gD.2 hx) _ (List.getElem_mem h4)
 have XV:cX Ls R=false:=by
  cases h:cX Ls R with
  |false=>rfl
  |true=>exact(hR (gD.1 h)).elim
 have hp:cF Ls t (fk 0 (r.fam (LR r.m) (s+1))) obj=eo Ls (r.fam Ls (s+1)) obj:=by
  rw[CE (Ls:=Ls) (by rw[hr.len _ _ (oU _),hl]) fun i hi=>by rw[Nat.zero_add];exact lE hi,hr.renF _ _ _ (oU _)]
  have :(LR r.m).map (cout Ls t)=Ls:=by rw[<-hl];exact OF Ls t
  rw[this]
 unfold Lp.rc at h0
 simp only[YSpec.toSpec,h0,e1,e2,e3,e4,j8,cp,j6,XV,fresh,List.all_nil,Bool.and_self,Bool.not_false,hr.args,decide_true,hr.psz Ls hl,dT,dz,hp,and_self]
 rfl
def Lp.e(r:Lp):Nat:=match (List.range r.n).find? (fun s=>(r.st s).isSome)with | some s=>s+1 | none=>r.n
def Lp.pd(r:Lp):Option Code:=match (List.range r.n).find? (fun s=>(r.st s).isSome)with | some s=>r.st s | none=>none
def Lp.fin(r:Lp)(Ls:List Name):O:=r.rc Ls (if r.pd.isNone then .ready else .done) r.pd
def Lp.it(r:Lp)(dV:List V):CSpec where
 pre:=fun os ds=>os=r.rc (LI r.m) .ready none::r.fam (LI r.m) 0/\ds=.yld [0,1]::dV.map .v
 out:=fun _ _=>⟨(0,r.fin (LI r.m))::fk 1 (r.fam (LI r.m) r.e),[],.tup []⟩
theorem Lp.it_end{P:Program}{r:Lp}(hr:r.Ok){σ:S}(h0:σ.obj [0,1]=some (r.fin (LI r.m)))(h1:cW σ.obj (LI r.m) (r.fam (LI r.m) r.e)):
 (bU P σ []).ok/\(bU P σ []).d=.tup []/\gw (r.rc (LI r.m) .ready none::r.fam (LI r.m) 0) ⟨(0,r.fin (LI r.m))::fk 1 (r.fam (LI r.m) r.e),[],.tup []⟩ σ:=by
 have ED:=hr.len (LI r.m) 0 (hU _)
 have hle:=hr.len (LI r.m) r.e (hU _)
 have sM:∀ i (hi:i<(r.fam (LI r.m) r.e).length),σ.obj [1+i,1]=some (r.fam (LI r.m) r.e)[i]:=by
  intro i hi
  have h3:=CY h1 i (by rw[hU];omega) hi
  rw[Nat.add_comm]
  simpa only[LI,List.getElem_map,List.getElem_range]using h3
 have qH:∀ x∈LI r.m,dj (r.m+1) [] x=true:=by
  intro x hx
  obtain⟨i,hi,rfl⟩:=List.mem_map.1 hx
  have :=List.mem_range.1 hi
  simp[dj]
  omega
 refine⟨fun x hx=>by simp at hx,rfl,⟨⟨?_,CU (F:=r.fam (LI r.m) r.e) (by omega) (fun i hi o=>by simp only[eX];rw[if_neg (by omega)]) sM⟩,trivial,?_⟩⟩
 ·simp only[eX,if_true]
  rw[h0,Dv (by omega)]
 have eG:∀ (F':List O) (k:Nat),(∀ o∈F',O.clos (dj (r.m+1) []) o=true)->k+F'.length<=r.m+1->((fk k F').all fun x=>O.clos (dj (r.m+1) []) x.2&&decide (x.1<r.m+1))=true:=by
  intro F'
  induction F' with
  |nil=>intros;rfl
  |cons f fs ih=>
   intro k hf hk
   simp only[List.length_cons]at hk
   simp only[fk,List.all_cons,Bool.and_eq_true,decide_eq_true_eq]
   exact⟨⟨hf f (by simp),by omega⟩,by have:=ih (k+1) (fun o ho=>hf o (by simp[ho])) (by omega);simpa using this⟩
 have h5:=eG (r.fam (LI r.m) r.e) 1 (hr.closF _ _ _ (hU _) qH) (by omega)
 have h6:O.clos (dj (r.m+1) []) (r.fin (LI r.m))=true:=hr.closE _ _ (hU _) qH
 have hlen:(r.rc (LI r.m) .ready none::r.fam (LI r.m) 0).length=r.m+1:=by rw[List.length_cons,ED]
 have h7:D.clos (dj (r.m+1) []) (.tup [])=true:=rfl
 simp only[hlen,h7,List.all_cons,h6,h5,List.all_nil,List.map_nil,distinct,Bool.and_self,Bool.true_and,Bool.and_true]
 simp
structure BL (r:Lp) (dV:List Name->List D):Prop where
 ren:∀ f Ls,Ls.length=r.m->D.renL f (dV Ls)=dV (Ls.map f)
 clo:∀ dom Ls,Ls.length=r.m->(∀ x∈Ls,dom x=true)->D.closL dom (dV Ls)=true
 reach:∀ Ls s obj R k,Ls.length=r.m->(R::Ls).Nodup->cW obj Ls (r.fam Ls s)->obj R=some (r.rc Ls .ready none)->dC obj (k+r.fu+1) (R::de (dV Ls)) []=R::Ls
def Lp.itC(r:Lp)(dV:List Name->List D):CSpec where
 pre:=fun os ds=>os=r.rc (LI r.m) .ready none::r.fam (LI r.m) 0/\ds=.yld [0,1]::dV (LI r.m)
 out:=fun _ _=>⟨(0,r.fin (LI r.m))::fk 1 (r.fam (LI r.m) r.e),[],.tup []⟩
theorem Lp.itC_app{r:Lp}(hr:r.Ok){dV:List Name->List D}(xu:BL r dV){obj:Name->Option O}{t R:Name}{Ls:List Name}(hl:Ls.length=r.m)(hn:Ls.Nodup)(hR:R∉Ls)
 (h0:obj R=some (r.rc Ls .ready none)) (hF:cW obj Ls (r.fam Ls 0)):
 (r.itC dV).toSpec.app obj t (.yld R::dV Ls)=⟨True,.tup [],eo Ls (r.fam Ls r.e) (upd obj R (some (r.fin Ls)))⟩:=by
 have uZ:(R::Ls).Nodup:=List.nodup_cons.2 ⟨hR,hn⟩
 have j8:reach obj (.yld R::dV Ls)=R::Ls:=by
  unfold reach
  have :=xu.reach Ls 0 obj R (2999-r.fu) hl uZ hF h0
  rw[show 2999-r.fu+r.fu+1=3000 by have:=hr.fuel;omega]at this
  exact this
 have YY:∀ s,cW obj Ls (r.fam Ls s)->Ls.map (cH (R::Ls) obj)=(r.fam Ls s).map (O.ren (cin (R::Ls))):=by
  intro s hF
  rw[lk]at hF
  refine List.ext_getElem (by simp[hr.len _ _ hl,hl]) fun i h1 h2=>?_
  have h3:i<Ls.length:=by simpa using h1
  have h4:i<(r.fam Ls s).length:=by rw[hr.len _ _ hl,<-hl];exact h3
  have h5:=congrArg (fun l=>l[i]?) hF
  have h6:obj Ls[i]=some (r.fam Ls s)[i]:=by simpa[h3,h4]using h5
  simp only[List.getElem_map,cH,h6]
 have e1:cD obj (.yld R::dV Ls)=r.rc (LI r.m) .ready none::r.fam (LI r.m) 0:=by
  unfold cD
  rw[j8,List.map_cons,YY 0 hF,hr.renF _ _ _ hl,F9 hn hR,hl]
  congr 1
  unfold Lp.rc at h0 |-
  simp only[cH,h0,O.ren]
  rw[hr.renE _ _ hl,F9 hn hR,hl]
 have e2:dd obj (.yld R::dV Ls)=.yld [0,1]::dV (LI r.m):=by
  unfold dd
  rw[j8]
  simp only[D.renL,D.ren,xu.ren _ _ hl]
  rw[F9 hn hR,hl]
  simp only[cin,idx,if_true]
 have dT:(r.itC dV).pre (r.rc (LI r.m) .ready none::r.fam (LI r.m) 0) (.yld [0,1]::dV (LI r.m)):=⟨rfl,rfl⟩
 have ju:∀ os ds,(r.itC dV).out os ds=⟨(0,r.fin (LI r.m))::fk 1 (r.fam (LI r.m) r.e),[],.tup []⟩:=fun _ _=>rfl
 have EK:∀ x∈Ls,cX (R::Ls) x=true:=fun x hx=>gD.2 (List.mem_cons_of_mem _ hx)
 have j6:shut obj (R::Ls)=true:=by
  unfold shut
  rw[List.all_eq_true]
  intro x hx
  rcases List.mem_cons.1 hx with rfl | hx
  ·rw[h0]
   unfold Lp.rc
   exact hr.closE _ _ hl EK
  obtain⟨i,hi,rfl⟩:=List.getElem_of_mem hx
  rw[lk]at hF
  have h4:i<(r.fam Ls 0).length:=by rw[hr.len _ _ hl,<-hl];exact hi
  have h5:=congrArg (fun l=>l[i]?) hF
  have h6:obj Ls[i]=some (r.fam Ls 0)[i]:=by simpa[hi,h4]using h5
  rw[h6]
  exact hr.closF _ _ _ hl EK _ (List.getElem_mem h4)
 have cp:D.closL (cX (R::Ls)) (.yld R::dV Ls)=true:=by
  show (cX (R::Ls) R&&D.closL _ _)=true
  rw[xu.clo _ _ hl EK]
  simp[cX]
 have hp:∀ obj',cF (R::Ls) t (fk 1 (r.fam (LI r.m) r.e)) obj'=eo Ls (r.fam Ls r.e) obj':=by
  intro obj'
  rw[CE (Ls:=Ls) (by rw[hr.len _ _ (hU _),hl]) fun i hi=>by
   rw[Nat.add_comm,List.getD_cons_succ];exact lE hi,hr.renF _ _ _ (hU _)]
  have :(LI r.m).map (cout (R::Ls) t)=Ls:=by rw[<-hl];exact OE R Ls t
  rw[this]
 have hf:O.ren (cout (R::Ls) t) (r.fin (LI r.m))=r.fin Ls:=by
  unfold Lp.fin Lp.rc
  simp only[O.ren]
  rw[hr.renE _ _ (hU _)]
  have :(LI r.m).map (cout (R::Ls) t)=Ls:=by rw[<-hl];exact OE R Ls t
  rw[this]
 simp only[CSpec.toSpec,e1,e2,j8,ju,j6,cp,fresh,List.all_nil,Bool.and_self,dT,and_self,dz,cF,List.getD_cons_zero,hf,hp,D.ren,D.renL]
theorem OO{P:Program}{r:Lp}(hr:r.Ok){dV:List Name->List D}(xu:BL r dV){g:Operand}{ps:Array Tmp}{asg body:Code}{σ:S}{rest:List Code}{K:Exit->S->Prop}(k k':Nat){f:FuncId}{Ls:List Name}
 (hc:cV σ g=true) (hg:au σ g=.clo (.func f) [] (dV Ls)) (aG:f≠yid) (hs:aN P f (r.itC dV).toSpec) (sB:σ.obj (k::σ.pre)=none)
 (he:(List.range σ.nt).map σ.env=r.env Ls) (gF:ps.toList=r.ps) (ha:asg=r.asg) (hb:body=r.body) (hl:Ls.length=r.m) (hn:Ls.Nodup) (hR:(k::σ.pre)∉Ls) (hF:cW σ.obj Ls (r.fam Ls 0))
 (hK:∀ o:O,y9 (jM (fun σ'=>CL P rest σ' K) K) { σ with obj:=upd (eo Ls (r.fam Ls r.e) σ.obj) (k::σ.pre) (some o) } r.pd):CL P (.rangeFunc g ps asg body::rest) σ K:=by
 subst ha
 subst hb
 generalize xB:k::σ.pre=R at *
 have Y9:∀ x∈Ls,(upd σ.obj R (some (r.rc Ls .ready none))) x=σ.obj x:=fun x hx=>bc _ _ _ (by rintro rfl;exact hR hx)
 have Ay:=Lp.itC_app hr xu (t:=k'::σ.pre) hl hn hR (aT σ.obj R (some (r.rc Ls .ready none))) (CZ hF Y9)
 have Ml:O.loop ((List.range σ.nt).map σ.env) ps.toList r.asg r.body .ready none=r.rc Ls .ready none:=by unfold Lp.rc;rw[he,gF]
 have pE:eT (au σ g) [.yld R]=.yld R::dV Ls:=by rw[hg];rfl
 have ee:gx (au σ g)=some f:=by rw[hg];simp[gx,aG]
 have Xq:∀ (F:List O) (obj:Name->Option O) (a b:Option O),upd (eo Ls F (upd obj R a)) R b=upd (eo Ls F obj) R b:=by
  intro F obj a b
  funext x
  by_cases h:x=R
  ·subst h;rw[aT,aT]
  ·rw[bc _ _ _ h,bc _ _ _ h]
   have :∀ (Ls:List Name) (F:List O) (o1 o2:Name->Option O),o1 x=o2 x->eo Ls F o1 x=eo Ls F o2 x:=by
    intro Ls
    induction Ls with
    |nil=>intro F o1 o2 h;simpa[eo]using h
    |cons y ys ih=>
     intro F o1 o2 h
     cases F with
     |nil=>simpa[eo]using h
     |cons f fs=>
      simp only[eo]
      refine ih fs _ _ ?_
      by_cases e:x=y
      ·subst e;rw[aT,aT]
      ·rw[bc _ _ _ e,bc _ _ _ e,h]
   exact this Ls F _ _ (bc _ _ _ h)
 refine aa1 (Γ:=fun x=>if x=f then some (r.itC dV).toSpec else none) (fun x s hx=>by
  split at hx
  ·rename_i e;cases hx;subst e;exact hs
  ·cases hx) k k' hc ee aG (if_pos rfl) (by rw[xB];exact sB) ?_ ?_
 ·rw[xB,pE,Ml,Ay];trivial
 ·rw[xB,pE,Ml,Ay]
  have nE:eo Ls (r.fam Ls r.e) (upd (upd σ.obj R (some (r.rc Ls .ready none))) R (some (r.fin Ls))) R=some (r.fin Ls):=by rw[wg hR,aT]
  have sp:mT (eo Ls (r.fam Ls r.e) (upd (upd σ.obj R (some (r.rc Ls .ready none))) R (some (r.fin Ls)))) R=
      upd (eo Ls (r.fam Ls r.e) σ.obj) R (some (r.rc Ls .exhausted r.pd)):=by
   unfold mT
   rw[nE]
   unfold Lp.fin Lp.rc
   simp only[Xq]
  refine U0 r.pd nE ?_
  rw[sp]
  exact hK (r.rc Ls .exhausted r.pd)
theorem QA{σ:S}(b nm:Name)(i k sz:Nat)(cs:List D)(L:List V)(hb:σ.obj b=some (.box cs))(hi:cs[i]?=some (.msl nm k))(hn:σ.obj nm=some (.arr sz L))(hk:k=L.length):
 hS σ ⟨σ.nt,σ.env,upd (upd σ.obj nm (some (.farr sz L))) b (some (.box (cs.set i (.v (.sl L))))),σ.pre,σ.base⟩:=by
 intro G φ m a w hC
 have aG:b≠nm:=fun e=>by subst e;rw[hb]at hn;cases hn
 obtain⟨h1,h2,h3,us,T,f,h4,h5,h6,h7⟩:=hC.objs b _ hb
 obtain⟨Ah,EM⟩:=List.getElem?_eq_some_iff.1 hi
 have h0:i<us.size:=by omega
 have h8:=h7 i Ah h0
 rw[EM]at h8
 have cS:aM 6 σ.obj (.msl nm k)=⟨k=L.length,.sl L,upd σ.obj nm (some (.farr sz L))⟩:=by simp only[aM,hn]
 obtain⟨m2,k1,k2,k3,k4,_⟩:=pJ 6 _ _ _ _ _ _ hC _ _ h8 (by rw[cS];exact hk)
 rw[cS]at k2 k3 k4
 simp only at k2 k3 k4
 have dr:(upd σ.obj nm (some (.farr sz L))) b=some (.box cs):=by rw[bc _ _ _ aG];exact hb
 have uS:=Ext.same (φ:=φ) (o':=.box (cs.set i (.v (.sl L)))) dr rfl rfl
 have Ma:=uS
 rw[gy]at Ma
 refine⟨_,m2,k2.chg (w':=w) b (.box (cs.set i (.v (.sl L)))) _ uS ⟨rfl,rfl,rfl,Nat.le_refl _⟩ (fun _ _ _=>rfl) (fun _=>.inr ⟨⟨_,dr,rfl,h2⟩,rfl⟩) ?_⟩
 rw[gy]
 refine⟨h1,h2,fun d hd=>?_,us,T,f,h4,h5,by simpa using h6,fun j hj fy=>?_⟩
 ·rcases List.mem_or_eq_of_mem_set hd with h | h
  ·exact h3 d h
  ·subst h;rfl
 ·simp only[List.length_set]at hj
  rw[List.getElem_set]
  by_cases bD:i=j
  ·subst bD
   rw[if_pos rfl]
   exact .v _ _ k4
  ·rw[if_neg bD]
   exact((h7 j hj fy).ext k1 k3).ext (Mem.le_refl m2) Ma
theorem oY{σ τ:S}(b nm:Name)(i k sz:Nat)(cs:List D)(L:List V)(hb:σ.obj b=some (.box cs))(hi:cs[i]?=some (.msl nm k))(hn:σ.obj nm=some (.arr sz L))(hk:k=L.length)(ks:List Nat)(ns:List Name)
 (h:iu ks ns ⟨σ.nt,σ.env,upd (upd σ.obj nm (some (.farr sz L))) b (some (.box (cs.set i (.v (.sl L))))),σ.pre,σ.base⟩)
 (jw:iH ks ns ⟨σ.nt,σ.env,upd (upd σ.obj nm (some (.farr sz L))) b (some (.box (cs.set i (.v (.sl L))))),σ.pre,σ.base⟩=τ):hS σ τ:=
 (QA b nm i k sz cs L hb hi hn hk).trans (tR ks ns h jw)
open Go Go.Proofs
set_option maxHeartbeats 8000000
noncomputable section
@[go_sem] def P184:PSpec:=p2 fw iI (fun _ _=>True) (fun l v=>vInt (dE (fun x=>v==x) l)) true
@[go_sem] def ab4:Spec:=P184.toSpec
theorem R4:aZ Tryz.prog 184 P184:=by
 refine fD (rs:=[.tmp 4]) Tryz.func184 Tryz.ntmps184 fun l v hp hw=>?_
 simp only[iI,fw]at hw |-
 have hΓ:=@fE Tryz.prog
 have hl:l.length<=maxLen:=by have:=hw.1.1;simpa using this
 repeat refine sq ?_
 refine rx hΓ [0,1] [] (fun K' hK=>by simp only[go_sem];exact aq) ?_
 repeat refine sq ?_
 refine rx hΓ [0,1,7,8] [] (fun K' hK=>by simp only[go_sem];exact aq) ?_
 repeat refine sq ?_
 refine aR ?_
 repeat refine sq ?_
 refine cr (fun s:Nat=>[(8,⟨true,.v (vInt s)⟩)]) (fun s=>[]) (fun s=>s<=l.length/\∀ k (h:k<l.length),k<s->(fun x:Int=>v==x) l[k]=false) (fun s=>l.length-s) 0 ?_ ?_ ?_ ?_
 ·exact⟨Nat.zero_le _,by simp⟩
 ·rfl
 ·rfl
 rintro i ⟨hi,hR⟩
 simp only[go_sem]
 repeat refine sq ?_
 refine rx hΓ [0,1,7,8,9] [] (fun K' hK=>by simp only[go_sem];exact aq) ?_
 repeat refine sq ?_
 refine aB (fun hb=>?_) fun hb=>?_
 ·have ab:i<l.length:=by simpa using hb
  have ao:(i:Int)<l.length:=by omega
  clear hb
  repeat refine sq ?_
  refine aJ ?_
  repeat refine sq ?_
  refine aR ?_
  repeat refine sq ?_
  refine rx hΓ [0,1,5,7,8] [] (fun K' hK=>by simp only[go_sem,ah ab,ai,aj,ao];exact aq) ?_
  repeat refine sq ?_
  refine rx hΓ [0,1,5,7,8,16] [] (fun K' hK=>by simp only[go_sem,ah ab,ai,aj,ao];exact aq) ?_
  repeat refine sq ?_
  refine aB (fun hb=>?_) fun hb=>?_
  ·repeat refine sq ?_
   refine rx hΓ [4] [] (fun K' hK=>by simp only[go_sem,ah ab,ai,aj,ao];exact aq) ?_
   refine aC ?_
   simp only[go_sem]
   rw[sc (p:=fun x=>v==x) ab (by simpa using hb) hR]
  ·repeat refine sq ?_
   refine aJ ?_
   refine bV ?_
   simp only[go_sem]
   refine kp [0,1,7,8] [] ?_
   repeat refine sq ?_
   refine aS hΓ fun K' hK=>?_
   simp only[go_sem,ah ab,ai,aj,ao]
   repeat (refine⟨ak,?_⟩)
   refine hK _ ?_
   clear K' hK
   simp only[go_sem]
   refine⟨i+1,⟨ab,?_⟩,by(show l.length-(i+1)<l.length-i;omega),?_⟩
   ·intro k hk dH
    rcases Nat.lt_succ_iff_lt_or_eq.1 dH with h5 | rfl
    ·exact hR k hk h5
    ·simpa using hb
   refine bg [0,1,7,8] [] ?_ ?_<;>simp only[go_sem,a7 ab hl,bb]
 ·have bF:i=l.length:=by
   have :¬ (i:Int)<l.length:=by simpa using hb
   omega
  clear hb
  subst bF
  repeat refine sq ?_
  refine bR ?_
  simp only[go_sem]
  refine kp [] [] ?_
  repeat refine sq ?_
  refine rx hΓ [4] [] (fun K' hK=>by simp only[go_sem];exact aq) ?_
  refine aC ?_
  simp only[go_sem]
  rw[wS (p:=fun x=>v==x) fun k hk=>hR k hk hk]
def K18a:List (Nat×Spec):=[(184,ab4)]
theorem ads:KS K18a:=tc R4.sound<|tn
attribute [go_sem] K18a
theorem abK(l:List Int)(v:Int):(l.any fun x=>v==x)=l.contains v:=(List.contains_eq_any_beq (l:=l) (a:=v)).symm
@[go_sem] def P108:PSpec:=p2 fw iI (fun _ _=>True) (fun l v=>.bool (l.contains v)) true
@[go_sem] def yn:Spec:=P108.toSpec
theorem Ce:aZ Tryz.prog 108 P108:=by
 refine fD (rs:=[.tmp 4]) Tryz.func108 Tryz.ntmps108 fun l v hp hw=>?_
 simp only[iI,fw]at hw |-
 have hΓ:=ads
 repeat refine sq ?_
 refine rx hΓ [0,1] [] (fun K' hK=>by simp only[go_sem];exact aq) ?_
 repeat refine sq ?_
 refine rx hΓ [4] [] (fun K' hK=>by simp only[go_sem,true_or,wT,abK];exact aq) ?_
 refine aC ?_
 simp only[go_sem]
 all_goals exact e8
def K18b:List (Nat×Spec):=[(108,yn),(150,GL)]
theorem GY:KS K18b:=tc Ce.sound<|tc Cc.sound<|tn
attribute [go_sem] K18b
def DO:En (List Int):=⟨fun l=>.ptr [.sl (l.map vInt)],fun v=>match v with | .ptr [.sl l]=>l.map km | _=>[]⟩
attribute [go_sem] DO
@[go_sem] def P194:PSpec:=p2 iI DO (fun _ _=>True) (fun n l=>.bool (l.contains n)) true
@[go_sem] def PV:Spec:=P194.toSpec
theorem RX:aZ Tryz.prog 194 P194:=by
 refine fD (rs:=[.tmp 3]) Tryz.func194 Tryz.ntmps194 fun n l hp hw=>?_
 simp only[iI,DO]at hw |-
 have hΓ:=GY
 repeat refine sq ?_
 refine rx hΓ [0,1] [] (fun K' hK=>by simp only[go_sem];exact aq) ?_
 repeat refine sq ?_
 refine rx hΓ [3] [] (fun K' hK=>by simp only[go_sem];exact aq) ?_
 refine aC ?_
 simp only[go_sem]
 all_goals exact e8
@[go_sem] def P161:PSpec:=p1 iI (fun _=>True) (fun n=>.bool (!dayB n)) true
@[go_sem] def P0:Spec:=P161.toSpec
theorem Se:aZ Tryz.prog 161 P161:=by
 refine fQ (rs:=[.tmp 2]) Tryz.func161 Tryz.ntmps161 fun n hp hw=>?_
 simp only[iI]at hw |-
 have hΓ:=GY
 repeat refine sq ?_
 refine rx hΓ [0] [] (fun K' hK=>by simp only[go_sem];exact aq) ?_
 repeat refine sq ?_
 refine rx hΓ [2] [] (fun K' hK=>by simp only[go_sem];exact aq) ?_
 refine aC ?_
 simp only[go_sem]
 all_goals exact e8
@[go_sem] def P185:PSpec:=p1 iI (fun _=>True) (fun n=>.bool (!dayB n)) true
@[go_sem] def PX:Spec:=P185.toSpec
theorem R3:aZ Tryz.prog 185 P185:=by
 refine fQ (rs:=[.tmp 2]) Tryz.func185 Tryz.ntmps185 fun n hp hw=>?_
 simp only[iI]at hw |-
 have hΓ:=GY
 repeat refine sq ?_
 refine rx hΓ [0] [] (fun K' hK=>by simp only[go_sem];exact aq) ?_
 repeat refine sq ?_
 refine rx hΓ [2] [] (fun K' hK=>by simp only[go_sem];exact aq) ?_
 refine aC ?_
 simp only[go_sem]
 all_goals exact e8
def wU:En (Nat×List V):=⟨fun g=>.clo (.func g.1) [] g.2,fun v=>match v with | .clo (.func g) _ cs=>(g,cs) | _=>(0,[])⟩
def pG:Nat×List V->Int->Bool
 |(194,[.ptr [.sl l]]),x=>(l.map km).contains x
 |_,x=>!dayB x
def zi(g:Nat×List V):Prop:=g=(161,[])\/g=(185,[])\/∃ lv:List Int,g=(194,[.ptr [.sl (lv.map vInt)]])
def K18c:List (Nat×Spec):=[(194,PV),(161,P0),(185,PX)]
theorem adr:KS K18c:=tc RX.sound<|tc Se.sound<|tc R3.sound<|tn
attribute [go_sem] K18c
def Qb:FuncId->Option Spec:=tbl K18c
theorem adp:∀ f s,Qb f=some s->aN Tryz.prog f s:=adr
theorem TK{g:Nat×List V}(h:zi g):∃ s,Qb g.1=some s/\(¬ g.1=1000000000)/\∀ obj t x,s.app obj t (.v (vInt x)::g.2.map .v)=⟨True,.v (.bool (pG g x)),obj⟩:=by
 rcases h with rfl | rfl | ⟨lv,rfl⟩
 ·exact⟨P0,rfl,by decide,fun obj t x=>by simp only[go_sem,List.map_nil];rfl⟩
 ·exact⟨PX,rfl,by decide,fun obj t x=>by simp only[go_sem,List.map_nil];rfl⟩
 ·exact⟨PV,rfl,(show ¬ (194:Nat)=1000000000 by decide),fun obj t x=>by simp only[go_sem,List.map_cons,List.map_nil,qU,pG]⟩
@[go_sem] def P192:PSpec:=p2 fw wU (fun _ g=>zi g) (fun l g=>vInt (dE (pG g) l)) true
@[go_sem] def ab1:Spec:=P192.toSpec
theorem RY:aZ Tryz.prog 192 P192:=by
 refine fD (rs:=[.tmp 4]) Tryz.func192 Tryz.ntmps192 fun l g hp hw=>?_
 simp only[wU,fw]at hw |-
 have hΓ:=adp
 have hl:l.length<=maxLen:=by have:=hw.1.1;simpa using this
 obtain⟨s_,hs,hy,ha⟩:=TK hp
 repeat refine sq ?_
 refine rx hΓ [0,1] [] (fun K' hK=>by simp only[go_sem];exact aq) ?_
 repeat refine sq ?_
 refine rx hΓ [0,1,7,8] [] (fun K' hK=>by simp only[go_sem];exact aq) ?_
 repeat refine sq ?_
 refine aR ?_
 repeat refine sq ?_
 refine cr (fun s:Nat=>[(8,⟨true,.v (vInt s)⟩)]) (fun s=>[]) (fun s=>s<=l.length/\∀ k (h:k<l.length),k<s->pG g l[k]=false) (fun s=>l.length-s) 0 ?_ ?_ ?_ ?_
 ·exact⟨Nat.zero_le _,by simp⟩
 ·rfl
 ·rfl
 rintro i ⟨hi,hR⟩
 simp only[go_sem]
 repeat refine sq ?_
 refine rx hΓ [0,1,7,8,9] [] (fun K' hK=>by simp only[go_sem];exact aq) ?_
 repeat refine sq ?_
 refine aB (fun hb=>?_) fun hb=>?_
 ·have ab:i<l.length:=by simpa using hb
  have ao:(i:Int)<l.length:=by omega
  clear hb
  repeat refine sq ?_
  refine aJ ?_
  repeat refine sq ?_
  refine aR ?_
  repeat refine sq ?_
  refine rx hΓ [0,1,5,7,8] [] (fun K' hK=>by simp only[go_sem,ah ab,ai,aj,ao];exact aq) ?_
  repeat refine sq ?_
  refine rx hΓ [0,1,5,7,8,16] [] (fun K' hK=>by simp only[go_sem,ah ab,ai,aj,ao,hs,hy,ha];exact aq) ?_
  repeat refine sq ?_
  refine aB (fun hb=>?_) fun hb=>?_
  ·repeat refine sq ?_
   refine rx hΓ [4] [] (fun K' hK=>by simp only[go_sem,ah ab,ai,aj,ao];exact aq) ?_
   refine aC ?_
   simp only[go_sem]
   rw[sc (p:=pG g) ab (by simpa using hb) hR]
  ·repeat refine sq ?_
   refine aJ ?_
   refine bV ?_
   simp only[go_sem]
   refine kp [0,1,7,8] [] ?_
   repeat refine sq ?_
   refine aS hΓ fun K' hK=>?_
   simp only[go_sem,ah ab,ai,aj,ao]
   repeat (refine⟨ak,?_⟩)
   refine hK _ ?_
   clear K' hK
   simp only[go_sem]
   refine⟨i+1,⟨ab,?_⟩,by(show l.length-(i+1)<l.length-i;omega),?_⟩
   ·intro k hk dH
    rcases Nat.lt_succ_iff_lt_or_eq.1 dH with h5 | rfl
    ·exact hR k hk h5
    ·simpa using hb
   refine bg [0,1,7,8] [] ?_ ?_<;>simp only[go_sem,a7 ab hl,bb]
 ·have bF:i=l.length:=by
   have :¬ (i:Int)<l.length:=by simpa using hb
   omega
  clear hb
  subst bF
  repeat refine sq ?_
  refine bR ?_
  simp only[go_sem]
  refine kp [] [] ?_
  repeat refine sq ?_
  refine rx hΓ [4] [] (fun K' hK=>by simp only[go_sem];exact aq) ?_
  refine aC ?_
  simp only[go_sem]
  rw[wS (p:=pG g) fun k hk=>hR k hk hk]
def K18d:List (Nat×Spec):=[(192,ab1)]
theorem adq:KS K18d:=tc RY.sound<|tn
attribute [go_sem] K18d
@[go_sem] def P160:PSpec:=p2 fw wU (fun _ g=>zi g) (fun l g=>.bool (l.any (pG g))) true
@[go_sem] def S160:Spec:=P160.toSpec
theorem Sf:aZ Tryz.prog 160 P160:=by
 refine fD (rs:=[.tmp 4]) Tryz.func160 Tryz.ntmps160 fun l g hp hw=>?_
 simp only[wU,fw]at hw |-
 have hΓ:=adq
 repeat refine sq ?_
 refine rx hΓ [0,1] [] (fun K' hK=>by simp only[go_sem];exact aq) ?_
 repeat refine sq ?_
 refine rx hΓ [4] [] (fun K' hK=>by simp only[go_sem,true_or,wT,hp];exact aq) ?_
 refine aC ?_
 simp only[go_sem]
 all_goals exact e8
theorem LW:aN Tryz.prog 160 S160:=Sf.sound
end
noncomputable section
structure nW (x:Vw):Prop where
 ok:bE x.l
 bk:∀ q i,be x.bk q=some i->0<=i/\i<x.l.ts.length
 rs:∀ r∈x.rs,dJ r=true
 rn:x.rs.length<=60
 tn:x.ts.length<=60
 ts:∀ i∈x.ts,0<=i/\i<x.l.ts.length
theorem Ct{r:Rec}(h:dJ r=true):0<r.lv.length/\r.lv.length<=30:=by
 unfold dJ at h
 simp only[Bool.and_eq_true]at h
 exact⟨(ov.1 h.1.1.2).1,(ov.1 h.1.1.2).2.1⟩
theorem IA{r:Rec}(h:dJ r=true):0<=r.da/\r.da<=100000:=by
 unfold dJ at h
 simp only[Bool.and_eq_true]at h
 have :=h.1.2
 unfold dayB cb at this
 simpa using this
theorem SS{r:Ret}(h:jR r=true):0<r.lv.length/\r.lv.length<=30:=by
 unfold jR at h
 simp only[Bool.and_eq_true]at h
 exact⟨(ov.1 h.1.1.1.2).1,(ov.1 h.1.1.1.2).2.1⟩
theorem yv{d:Int}(h:0<=d/\d<=100000):IntKind.i64.wrap (d+1)=d+1:=wrap_i64 (by omega) (by omega)
theorem jL{l:Led}{i:Nat}(h:i<l.ts.length):aD l i=l.ts[i]:=by unfold aD;exact cz h
theorem bE.recs{l:Led}(h:bE l):∀ r∈l.rs,dJ r=true:=fun r hr=>by
 obtain⟨j,hj,rfl⟩:=List.getElem_of_mem hr
 exact mA h.rs hj
theorem bE.rets{l:Led}(h:bE l){i:Nat}(hi:i<l.ts.length):jR (aD l i)=true:=by
 rw[jL hi]
 exact mA h.ts hi
def te(x:Vw)(a b:Rec)(f:Int):Bool:=(a.pa==b.pa&&b.lv.contains f)&&(a.da==b.da||match be x.bk (a.so,f)with
 |none=>true
 |some i=>decide (bH (aD x.l i.toNat).lo (a.da+1)>b.da))
theorem FW(x:Vw)(a b:Rec):qV x a b=a.lv.any (te x a b):=rfl
theorem pP{α:Type}{p:α->Bool}{l:List α}{i:Nat}(h:i<l.length)(hp:p l[i]=true):l.any p=true:=List.any_eq_true.2 ⟨_,List.getElem_mem h,hp⟩
theorem ri{α:Type}{p:α->Bool}{l:List α}(h:∀ k (hk:k<l.length),p l[k]=false):l.any p=false:=by
 rw[List.any_eq_false]
 intro x hx
 obtain⟨k,hk,rfl⟩:=List.getElem_of_mem hx
 rw[h k hk];decide
theorem Hf{l:Led}{i:Int}(h0:0<=i)(h:i<l.ts.length):(l.ts.map cT).getD i.toNat default=cT (aD l i.toNat):=by
 have h':i.toNat<l.ts.length:=by omega
 rw[ah h',jL h']
def qm(a b:Rec):Rec:=if a.da>b.da then b else a
def lA(a b:Rec):Rec:=if a.da>b.da then a else b
theorem aao(x:Vw)(a b:Rec):gf x a b=qV x (qm a b) (lA a b):=by
 unfold gf qm lA
 split<;>rfl
theorem Uw{a b:Rec}(ha:dJ a=true)(hb:dJ b=true):dJ (qm a b)=true/\dJ (lA a b)=true:=by
 unfold qm lA
 split
 ·exact⟨hb,ha⟩
 ·exact⟨ha,hb⟩
def tp(r:Rec):List D:=[.v (vInt r.so),.v (vInt r.bo),.v (vInt r.pa),.v (.sl (r.lv.map vInt)),.v (vInt r.da),.v (vInt r.kn),.v (vInt r.un)]
attribute [go_sem] tp
def K19:List (Nat×Spec):=[(108,yn)]
theorem ado:KS K19:=tc Ce.sound<|tn
attribute [go_sem] K19
def PN:VSpec:=v2 iR iR (fun x a b=>nW x/\dJ a=true/\dJ b=true) (fun x a b=>.v (.bool (gf x a b))) none
def S129:Spec:=PN.toSpec
attribute [go_sem] PN S129
set_option maxHeartbeats 8000000 in
theorem WG:aN Tryz.prog 129 S129:=by
 refine yx (rs:=[.tmp 6]) Tryz.func129 Tryz.ntmps129 (by rfl) (by kernel_rfl) (by decide) (fun _ _ _=>by first | rfl | simp[D.clos,D.closL,lU]) ⟨_,rfl,lb rfl,fun x a b hp H h0 h1 h2 hO ae=>?_⟩
 have hP:=fU
 simp only[iR,encR,bC,dm,List.map_cons,List.map_nil,Nat.zero_add,Option.map_some,Option.map_none]at h0 |-
 have hΓ:=ado
 obtain⟨hv,ha,Av⟩:=hp
 rw[aao]
 obtain⟨zX,ly⟩:=Uw ha Av
 repeat refine sq ?_
 refine rx hΓ [0,4,5] [[4,0],[5,0]] (fun K' hK=>by simp only[go_sem,hO,ae,h0,h1,h2];(repeat (refine⟨ak,?_⟩));exact hK _ (by simp only[go_sem,hO,ae,h0,h1,h2]) (by simp only[go_sem,hO,ae,h0,h1,h2]<;>rfl)) ?_
 repeat refine sq ?_
 refine rx hΓ [0,4,5,15] [[4,0],[5,0]] (fun K' hK=>by simp only[go_sem,hO,ae,h0,h1,h2];(repeat (refine⟨ak,?_⟩));exact hK _ (by simp only[go_sem,hO,ae,h0,h1,h2]) (by simp only[go_sem,hO,ae,h0,h1,h2]<;>rfl)) ?_
 repeat refine sq ?_
 refine aa3 (bt 80 [0] H [(0,⟨true,.ref [0,1] 0⟩),(4,⟨true,.ref [4,0] 0⟩),(5,⟨true,.ref [5,0] 0⟩)] [([4,0],.box (tp (qm a b))),([5,0],.box (tp (lA a b)))]) rfl rfl (fun hb=>?_) (fun hb=>?_) ?_
 ·repeat refine sq ?_
  rw[show qm a b=b from if_pos (by simpa using hb),show lA a b=a from if_pos (by simpa using hb)]
  repeat refine sq ?_
  refine aS hΓ fun K' hK=>?_
  simp only[go_sem,hO,ae,h0,h1,h2]
  repeat (refine⟨ak,?_⟩)
  refine hK _ ?_
  clear K' hK
  simp only[go_sem]
  refine tR [0,4,5] [[4,0],[5,0]] ?_ ?_
  ·simp only[go_sem,hO,ae,h0,h1,h2]
  ·simp only[go_sem,hO,ae,h0,h1,h2]
 ·repeat refine sq ?_
  rw[show qm a b=a from if_neg (by simpa using hb),show lA a b=b from if_neg (by simpa using hb)]
  refine aJ ?_
  refine bV ?_
  simp only[go_sem]
  refine tR [0,4,5] [[4,0],[5,0]] ?_ ?_
  ·simp only[go_sem,hO,ae,h0,h1,h2]
  ·simp only[go_sem,hO,ae,h0,h1,h2]
 generalize qm a b=p at *
 generalize lA a b=q at *
 have hl:p.lv.length<=maxLen:=by have:=(Ct zX).2;unfold maxLen;omega
 repeat refine sq ?_
 refine rx hΓ [0,4,5,19,20,21] [[4,0],[5,0]] (fun K' hK=>by simp only[go_sem,hO,ae,h0,h1,h2];(repeat (refine⟨ak,?_⟩));exact hK _ (by simp only[go_sem,hO,ae,h0,h1,h2]) (by simp only[go_sem,hO,ae,h0,h1,h2]<;>rfl)) ?_
 repeat refine sq ?_
 refine aR ?_
 repeat refine sq ?_
 refine cr (fun s:Nat=>[(21,⟨true,.v (vInt s)⟩)]) (fun s=>[]) (fun s=>s<=p.lv.length/\∀ k (h:k<p.lv.length),k<s->te x p q p.lv[k]=false) (fun s=>p.lv.length-s) 0 ?_ ?_ ?_ ?_
 ·exact⟨Nat.zero_le _,by simp⟩
 ·rfl
 ·rfl
 rintro i ⟨hi,hR⟩
 simp only[go_sem]
 repeat refine sq ?_
 refine rx hΓ [0,4,5,19,20,21,22] [[4,0],[5,0]] (fun K' hK=>by simp only[go_sem,hO,ae,h0,h1,h2];(repeat (refine⟨ak,?_⟩));exact hK _ (by simp only[go_sem,hO,ae,h0,h1,h2]) (by simp only[go_sem,hO,ae,h0,h1,h2]<;>rfl)) ?_
 repeat refine sq ?_
 refine aB (fun hb=>?_) fun hb=>?_
 ·have ab:i<p.lv.length:=by simpa using hb
  have ao:(i:Int)<p.lv.length:=by omega
  clear hb
  have gV:=yv (IA zX)
  repeat refine sq ?_
  refine aJ ?_
  repeat refine sq ?_
  refine aR ?_
  repeat refine sq ?_
  refine rx hΓ [0,4,5,8,19,20,21] [[4,0],[5,0]] (fun K' hK=>by simp only[go_sem,hO,ae,h0,h1,h2,ah ab,ai,aj,ao];(repeat (refine⟨ak,?_⟩));exact hK _ (by simp only[go_sem,hO,ae,h0,h1,h2,ah ab,ai,aj,ao]) (by simp only[go_sem,hO,ae,h0,h1,h2,ah ab,ai,aj,ao]<;>rfl)) ?_
  repeat refine sq ?_
  refine rx hΓ [0,4,5,8,19,20,21,36] [[4,0],[5,0]] (fun K' hK=>by simp only[go_sem,hO,ae,h0,h1,h2,ah ab,ai,aj,ao];(repeat (refine⟨ak,?_⟩));exact hK _ (by simp only[go_sem,hO,ae,h0,h1,h2,ah ab,ai,aj,ao]) (by simp only[go_sem,hO,ae,h0,h1,h2,ah ab,ai,aj,ao]<;>rfl)) ?_
  repeat refine sq ?_
  refine aB (fun hb=>?_) fun hb=>?_
  ·repeat refine sq ?_
   refine bR ?_
   simp only[go_sem]
   refine eR [0,4,5,19,20,21] [[4,0],[5,0]] ?_ ?_
   ·simp only[go_sem,hO,ae,h0,h1,h2]
   simp only[go_sem,hO,ae,h0,h1,h2]
   repeat refine sq ?_
   refine aS hΓ fun K' hK=>?_
   simp only[go_sem,hO,ae,h0,h1,h2,ah ab,ai,aj,ao]
   repeat (refine⟨ak,?_⟩)
   refine hK _ ?_
   clear K' hK
   simp only[go_sem]
   refine⟨i+1,⟨ab,?_⟩,by(show p.lv.length-(i+1)<p.lv.length-i;omega),?_⟩
   ·intro k hk dH
    rcases Nat.lt_succ_iff_lt_or_eq.1 dH with h5 | rfl
    ·exact hR k hk h5
    ·unfold te;grind
   refine bg [0,4,5,19,20,21] [[4,0],[5,0]] ?_ ?_<;>simp only[go_sem,a7 ab hl,bb,hO,ae,h0,h1,h2]
  ·repeat refine sq ?_
   refine aJ ?_
   rcases aI:be x.bk (p.so,p.lv[i])with _ | j
   ·repeat refine sq ?_
    refine dx hΓ hP [[],[0],[0,1],[0,1,2],[],[4],[],[4,5,6],u8,u9,cB,cB,fm,kx] [0,4,5,9,10,19,20,21] [[4,0],[5,0]] (by kernel_rfl) (fun K' hK=>by simp only[go_sem,hO,ae,h0,h1,h2,ah ab,ai,aj,ao,ax,aI,Option.map_none,Option.isSome_none,Option.getD_none];(repeat (refine⟨ak,?_⟩));(first | refine⟨by rfl,?_⟩ | skip);exact hK _ (by simp only[go_sem,hO,ae,h0,h1,h2,ah ab,ai,aj,ao,ax,aI,Option.map_none,Option.isSome_none,Option.getD_none]) (by simp only[go_sem,hO,ae,h0,h1,h2,ah ab,ai,aj,ao,ax,aI,Option.map_none,Option.isSome_none,Option.getD_none]<;>rfl)) ?_
    repeat refine sq ?_
    refine dx hΓ hP [[],[0],[],[2],u4,u5,u6,u7,u8,u9,cB,fm,dO,kx,jK,vV,u16,cB,iA,mQ,oZ,vU,cB,[0,1,2,3,4,5,6,7,8,9,22],[0,1,2,3,4,5,6,7,8,9,22,23],vT,cB,[0,1,2,3,4,5,6,7,8,9,26],yA,yz] [0,4,5,19,20,21,78] [[4,0],[5,0]] (by kernel_rfl) (fun K' hK=>by simp only[go_sem,hO,ae,h0,h1,h2,ah ab,ai,aj,ao,ax,aI,Option.map_none,Option.isSome_none,Option.getD_none];(repeat (refine⟨ak,?_⟩));(first | refine⟨by rfl,?_⟩ | skip);exact hK _ (by simp only[go_sem,hO,ae,h0,h1,h2,ah ab,ai,aj,ao,ax,aI,Option.map_none,Option.isSome_none,Option.getD_none]) (by simp only[go_sem,hO,ae,h0,h1,h2,ah ab,ai,aj,ao,ax,aI,Option.map_none,Option.isSome_none,Option.getD_none]<;>rfl)) ?_
    repeat refine sq ?_
    refine aB (fun hb=>?_) fun hb=>?_
    ·repeat refine sq ?_
     refine rx hΓ [6] [] (fun K' hK=>by simp only[go_sem,hO,ae,h0,h1,h2,ah ab,ai,aj,ao,ax,aI,Option.map_none,Option.isSome_none,Option.getD_none];(repeat (refine⟨ak,?_⟩));exact hK _ (by simp only[go_sem,hO,ae,h0,h1,h2,ah ab,ai,aj,ao,ax,aI,Option.map_none,Option.isSome_none,Option.getD_none]) (by simp only[go_sem,hO,ae,h0,h1,h2,ah ab,ai,aj,ao,ax,aI,Option.map_none,Option.isSome_none,Option.getD_none]<;>rfl)) ?_
     refine aC ?_
     simp only[go_sem,hO,ae,h0,h1,h2]
     rw[FW,pP ab (by unfold te;rw[aI];grind [bH])]
    ·repeat refine sq ?_
     refine aJ ?_
     refine bV ?_
     simp only[go_sem]
     refine eR [0,4,5,19,20,21] [[4,0],[5,0]] ?_ ?_
     ·simp only[go_sem,hO,ae,h0,h1,h2]
     simp only[go_sem,hO,ae,h0,h1,h2]
     repeat refine sq ?_
     refine aS hΓ fun K' hK=>?_
     simp only[go_sem,hO,ae,h0,h1,h2,ah ab,ai,aj,ao,ax,aI,Option.map_none,Option.isSome_none,Option.getD_none]
     repeat (refine⟨ak,?_⟩)
     refine hK _ ?_
     clear K' hK
     simp only[go_sem]
     refine⟨i+1,⟨ab,?_⟩,by(show p.lv.length-(i+1)<p.lv.length-i;omega),?_⟩
     ·intro k hk dH
      rcases Nat.lt_succ_iff_lt_or_eq.1 dH with h5 | rfl
      ·exact hR k hk h5
      ·unfold te;rw[aI];grind [bH]
     refine bg [0,4,5,19,20,21] [[4,0],[5,0]] ?_ ?_<;>simp only[go_sem,a7 ab hl,bb,hO,ae,h0,h1,h2]
   ·obtain⟨cG,iQ⟩:=hv.bk _ _ aI
    have l7:=Hf cG iQ
    repeat refine sq ?_
    refine dx hΓ hP [[],[0],[0,1],[0,1,2],[],[4],[],[4,5,6],u8,u9,cB,cB,fm,kx] [0,4,5,9,10,19,20,21] [[4,0],[5,0]] (by kernel_rfl) (fun K' hK=>by simp only[go_sem,hO,ae,h0,h1,h2,ah ab,ai,aj,ao,ax,aI,Option.map_some,Option.isSome_some,Option.getD_some,l7,cG,iQ,gV];(repeat (refine⟨ak,?_⟩));(first | refine⟨by rfl,?_⟩ | skip);exact hK _ (by simp only[go_sem,hO,ae,h0,h1,h2,ah ab,ai,aj,ao,ax,aI,Option.map_some,Option.isSome_some,Option.getD_some,l7,cG,iQ,gV]) (by simp only[go_sem,hO,ae,h0,h1,h2,ah ab,ai,aj,ao,ax,aI,Option.map_some,Option.isSome_some,Option.getD_some,l7,cG,iQ,gV]<;>rfl)) ?_
    repeat refine sq ?_
    refine dx hΓ hP [[],[0],[],[2],u4,u5,u6,u7,u8,u9,cB,fm,dO,kx,jK,vV,u16,cB,iA,mQ,oZ,vU,cB,[0,1,2,3,4,5,6,7,8,9,22],[0,1,2,3,4,5,6,7,8,9,22,23],vT,cB,[0,1,2,3,4,5,6,7,8,9,26],yA,yz] [0,4,5,19,20,21,78] [[4,0],[5,0]] (by kernel_rfl) (fun K' hK=>by simp only[go_sem,hO,ae,h0,h1,h2,ah ab,ai,aj,ao,ax,aI,Option.map_some,Option.isSome_some,Option.getD_some,l7,cG,iQ,gV];(repeat (refine⟨ak,?_⟩));(first | refine⟨by rfl,?_⟩ | skip);exact hK _ (by simp only[go_sem,hO,ae,h0,h1,h2,ah ab,ai,aj,ao,ax,aI,Option.map_some,Option.isSome_some,Option.getD_some,l7,cG,iQ,gV]) (by simp only[go_sem,hO,ae,h0,h1,h2,ah ab,ai,aj,ao,ax,aI,Option.map_some,Option.isSome_some,Option.getD_some,l7,cG,iQ,gV]<;>rfl)) ?_
    repeat refine sq ?_
    refine aB (fun hb=>?_) fun hb=>?_
    ·repeat refine sq ?_
     refine rx hΓ [6] [] (fun K' hK=>by simp only[go_sem,hO,ae,h0,h1,h2,ah ab,ai,aj,ao,ax,aI,Option.map_some,Option.isSome_some,Option.getD_some,l7,cG,iQ,gV];(repeat (refine⟨ak,?_⟩));exact hK _ (by simp only[go_sem,hO,ae,h0,h1,h2,ah ab,ai,aj,ao,ax,aI,Option.map_some,Option.isSome_some,Option.getD_some,l7,cG,iQ,gV]) (by simp only[go_sem,hO,ae,h0,h1,h2,ah ab,ai,aj,ao,ax,aI,Option.map_some,Option.isSome_some,Option.getD_some,l7,cG,iQ,gV]<;>rfl)) ?_
     refine aC ?_
     simp only[go_sem,hO,ae,h0,h1,h2]
     rw[FW,pP ab (by unfold te;rw[aI];grind [bH])]
    ·repeat refine sq ?_
     refine aJ ?_
     refine bV ?_
     simp only[go_sem]
     refine eR [0,4,5,19,20,21] [[4,0],[5,0]] ?_ ?_
     ·simp only[go_sem,hO,ae,h0,h1,h2]
     simp only[go_sem,hO,ae,h0,h1,h2]
     repeat refine sq ?_
     refine aS hΓ fun K' hK=>?_
     simp only[go_sem,hO,ae,h0,h1,h2,ah ab,ai,aj,ao,ax,aI,Option.map_some,Option.isSome_some,Option.getD_some,l7,cG,iQ,gV]
     repeat (refine⟨ak,?_⟩)
     refine hK _ ?_
     clear K' hK
     simp only[go_sem]
     refine⟨i+1,⟨ab,?_⟩,by(show p.lv.length-(i+1)<p.lv.length-i;omega),?_⟩
     ·intro k hk dH
      rcases Nat.lt_succ_iff_lt_or_eq.1 dH with h5 | rfl
      ·exact hR k hk h5
      ·unfold te;rw[aI];grind [bH]
     refine bg [0,4,5,19,20,21] [[4,0],[5,0]] ?_ ?_<;>simp only[go_sem,a7 ab hl,bb,hO,ae,h0,h1,h2]
 ·have bF:i=p.lv.length:=by
   have :¬ (i:Int)<p.lv.length:=by simpa using hb
   omega
  clear hb
  subst bF
  repeat refine sq ?_
  refine bR ?_
  simp only[go_sem]
  refine eR [] [] ?_ ?_
  ·simp only[go_sem,hO,ae,h0,h1,h2]
  simp only[go_sem,hO,ae,h0,h1,h2]
  repeat refine sq ?_
  refine rx hΓ [6] [] (fun K' hK=>by simp only[go_sem,hO,ae,h0,h1,h2];(repeat (refine⟨ak,?_⟩));exact hK _ (by simp only[go_sem,hO,ae,h0,h1,h2]) (by simp only[go_sem,hO,ae,h0,h1,h2]<;>rfl)) ?_
  refine aC ?_
  simp only[go_sem,hO,ae,h0,h1,h2]
  rw[FW,ri fun k hk=>hR k hk hk]
end
noncomputable section
@[go_sem] theorem agO(x:Vw):(⟨x.l,x.rs,x.ts,x.bk,x.ds⟩:Vw)=x:=rfl
def yX:Option (Int×Int)->D
 |some p=>.tup [.v (.sl [vInt p.1,vInt p.2]),.v (.bool true)]
 |none=>.tup [.nilsl,.v (.bool false)]
theorem S2(r:Option (Int×Int))(p:Name->Bool):D.clos p (yX r)=true:=by cases r<;>rfl
theorem zb{x:Vw}{i:Nat}(h:i<x.rs.length)(hn:∀ k (hk:k<(x.rs.drop (i+1)).length),gf x x.rs[i] (x.rs.drop (i+1))[k]=false):m6 x i=none:=by
 unfold m6
 have e:(x.rs.drop (i+1)).find? (gf x x.rs[i])=none:=List.find?_eq_none.2 fun y hy=>by
  obtain⟨k,hk,rfl⟩:=List.getElem_of_mem hy
  rw[hn k hk];decide
 rw[cz h,e]
 rfl
theorem IZ{x:Vw}{i k:Nat}(h:i<x.rs.length)(hk:k<(x.rs.drop (i+1)).length)(hn:∀ j (hj:j<(x.rs.drop (i+1)).length),j<k->gf x x.rs[i] (x.rs.drop (i+1))[j]=false)(hb:gf x x.rs[i] (x.rs.drop (i+1))[k]=true):
 m6 x i=some (x.rs[i].so,(x.rs.drop (i+1))[k].so):=by
 unfold m6
 have e:(x.rs.drop (i+1)).find? (gf x x.rs[i])=some (x.rs.drop (i+1))[k]:=List.find?_eq_some_iff_getElem.2 ⟨hb,k,hk,rfl,fun j hj=>by rw[hn j (by omega) hj];rfl⟩
 rw[cz h,e]
 rfl
theorem IY{x:Vw}{i:Nat}{p:Int×Int}(h:i<x.rs.length)(hn:∀ k,k<i->m6 x k=none)(hp:m6 x i=some p):eC x=some p:=by
 unfold eC
 rw[List.findSome?_eq_some_iff]
 refine⟨List.range i,i,(List.range' (i+1) (x.rs.length-(i+1))),?_,hp,fun a ha=>hn a (List.mem_range.1 ha)⟩
 rw[List.range_eq_range',List.range_eq_range']
 have :x.rs.length=i+(1+(x.rs.length-(i+1))):=by omega
 conv=>lhs;rw[this]
 rw[<-List.range'_append_1,<-List.range'_append_1,Nat.zero_add]
 rfl
theorem CJ{x:Vw}(hn:∀ k,k<x.rs.length->m6 x k=none):eC x=none:=by
 unfold eC
 rw[List.findSome?_eq_none_iff]
 exact fun a ha=>hn a (List.mem_range.1 ha)
def K20:List (Nat×Spec):=[(129,S129)]
theorem adn:KS K20:=tc WG<|tn
attribute [go_sem] K20
def PR:VSpec:=v0 (fun x=>nW x) (fun x=>yX (eC x)) none
def S120:Spec:=PR.toSpec
attribute [go_sem] PR S120
set_option maxHeartbeats 8000000 in
theorem WK:aN Tryz.prog 120 S120:=by
 refine QF (rs:=[.tmp 2,.tmp 3]) Tryz.func120 Tryz.ntmps120 (by rfl) (by kernel_rfl) (by decide) (fun _=>by first | rfl | exact S2 _ _ | simp[D.clos,D.closL,lU]) ⟨_,rfl,lb rfl,fun x hp H h0 h1 h2 hO ae=>?_⟩
 simp only[bC,dm,List.map_cons,List.map_nil,Nat.zero_add,Option.map_some,Option.map_none]at h0 |-
 have hΓ:=adn
 have l8:x.rs.length<=maxLen:=by have:=hp.rn;unfold maxLen;omega
 repeat refine sq ?_
 refine rx hΓ [0] [] (fun K' hK=>by simp only[go_sem,hO,ae,h0,h1,h2];(repeat (refine⟨ak,?_⟩));exact hK _ (by simp only[go_sem,hO,ae,h0,h1,h2]) (by simp only[go_sem,hO,ae,h0,h1,h2]<;>rfl)) ?_
 repeat refine sq ?_
 refine rx hΓ [0,11,12,13] [] (fun K' hK=>by simp only[go_sem,hO,ae,h0,h1,h2];(repeat (refine⟨ak,?_⟩));exact hK _ (by simp only[go_sem,hO,ae,h0,h1,h2]) (by simp only[go_sem,hO,ae,h0,h1,h2]<;>rfl)) ?_
 repeat refine sq ?_
 refine aR ?_
 repeat refine sq ?_
 refine cr (fun s:Nat=>[(13,⟨true,.v (vInt s)⟩)]) (fun s=>[]) (fun s=>s<=x.rs.length/\∀ k,k<s->m6 x k=none) (fun s=>x.rs.length-s) 0 ?_ ?_ ?_ ?_
 ·exact⟨Nat.zero_le _,by simp⟩
 ·rfl
 ·rfl
 rintro i ⟨hi,hR⟩
 simp only[go_sem]
 repeat refine sq ?_
 refine rx hΓ [0,11,12,13,14] [] (fun K' hK=>by simp only[go_sem,hO,ae,h0,h1,h2];(repeat (refine⟨ak,?_⟩));exact hK _ (by simp only[go_sem,hO,ae,h0,h1,h2]) (by simp only[go_sem,hO,ae,h0,h1,h2]<;>rfl)) ?_
 repeat refine sq ?_
 refine aB (fun hb=>?_) fun hb=>?_
 ·have ab:i<x.rs.length:=by simpa using hb
  have ao:(i:Int)<x.rs.length:=by omega
  clear hb
  have DT:IntKind.i64.wrap ((i:Int)+1)=((i+1:Nat):Int):=a7 ab l8
  have qI:x.rs.length-(i+1)<=maxLen:=by omega
  have xa:List.take (x.rs.length-(i+1)) ((x.rs.drop (i+1)).map encR)=(x.rs.drop (i+1)).map encR:=List.take_of_length_le (by simp)
  have dY:=hp.rs x.rs[i] (List.getElem_mem ab)
  repeat refine sq ?_
  refine aJ ?_
  repeat refine sq ?_
  refine aR ?_
  repeat refine sq ?_
  refine rx hΓ [0,4,5,11,12,13] [[5,0]] (fun K' hK=>by simp only[go_sem,hO,ae,h0,h1,h2,ah ab,ai,aj,ao];(repeat (refine⟨ak,?_⟩));exact hK _ (by simp only[go_sem,hO,ae,h0,h1,h2,ah ab,ai,aj,ao]) (by simp only[go_sem,hO,ae,h0,h1,h2,ah ab,ai,aj,ao]<;>rfl)) ?_
  repeat refine sq ?_
  refine rx hΓ [0,5,11,12,13,24,25,26] [[5,0]] (fun K' hK=>by simp only[go_sem,hO,ae,h0,h1,h2,ah ab,ai,aj,ao,DT,<-List.map_drop,xa];(repeat (refine⟨by first | exact ak | exact⟨by omega,Int.le_refl _,fun y hy=>(CQ _ y hy).1⟩,?_⟩));exact hK _ (by simp only[go_sem,hO,ae,h0,h1,h2,ah ab,ai,aj,ao,DT,<-List.map_drop,xa]) (by simp only[go_sem,hO,ae,h0,h1,h2,ah ab,ai,aj,ao,DT,<-List.map_drop,xa]<;>rfl)) ?_
  repeat refine sq ?_
  refine aR ?_
  repeat refine sq ?_
  refine cr (fun s:Nat=>[(26,⟨true,.v (vInt s)⟩)]) (fun s=>[]) (fun s=>s<=(x.rs.drop (i+1)).length/\∀ k (hk:k<(x.rs.drop (i+1)).length),k<s->gf x x.rs[i] (x.rs.drop (i+1))[k]=false) (fun s=>(x.rs.drop (i+1)).length-s) 0 ?_ ?_ ?_ ?_
  ·exact⟨Nat.zero_le _,by simp⟩
  ·rfl
  ·rfl
  rintro i1 ⟨hi,hR⟩
  simp only[go_sem]
  repeat refine sq ?_
  refine rx hΓ [0,5,11,12,13,24,25,26,27] [[5,0]] (fun K' hK=>by simp only[go_sem,hO,ae,h0,h1,h2,ah ab,ai,aj,ao];(repeat (refine⟨ak,?_⟩));exact hK _ (by simp only[go_sem,hO,ae,h0,h1,h2,ah ab,ai,aj,ao]) (by simp only[go_sem,hO,ae,h0,h1,h2,ah ab,ai,aj,ao]<;>rfl)) ?_
  repeat refine sq ?_
  refine aB (fun hb=>?_) fun hb=>?_
  ·have aK:i1<(x.rs.drop (i+1)).length:=by simpa using hb
   have ba:(i1:Int)<(x.rs.drop (i+1)).length:=by omega
   clear hb
   have fJ:=hp.rs (x.rs.drop (i+1))[i1] (List.mem_of_mem_drop (List.getElem_mem aK))
   repeat refine sq ?_
   refine aJ ?_
   repeat refine sq ?_
   refine aR ?_
   repeat refine sq ?_
   refine rx hΓ [0,5,7,11,12,13,24,25,26] [[5,0],[7,0]] (fun K' hK=>by simp only[go_sem,hO,ae,h0,h1,h2,ah ab,ai,aj,ao,ah aK,ai,aj,ba];(repeat (refine⟨ak,?_⟩));exact hK _ (by simp only[go_sem,hO,ae,h0,h1,h2,ah ab,ai,aj,ao,ah aK,ai,aj,ba]) (by simp only[go_sem,hO,ae,h0,h1,h2,ah ab,ai,aj,ao,ah aK,ai,aj,ba]<;>rfl)) ?_
   repeat refine sq ?_
   refine rx hΓ [0,5,7,11,12,13,24,25,26,33] [[5,0],[7,0]] (fun K' hK=>by simp only[go_sem,hO,ae,h0,h1,h2,ah ab,ai,aj,ao,ah aK,ai,aj,ba];(repeat (refine⟨ak,?_⟩));exact hK _ (by simp only[go_sem,hO,ae,h0,h1,h2,ah ab,ai,aj,ao,ah aK,ai,aj,ba]) (by simp only[go_sem,hO,ae,h0,h1,h2,ah ab,ai,aj,ao,ah aK,ai,aj,ba]<;>rfl)) ?_
   repeat refine sq ?_
   refine aB (fun hb=>?_) fun hb=>?_
   ·repeat refine sq ?_
    refine rx hΓ [2,3] [] (fun K' hK=>by simp only[go_sem,hO,ae,h0,h1,h2,ah ab,ai,aj,ao,ah aK,ai,aj,ba];(repeat (refine⟨ak,?_⟩));exact hK _ (by simp only[go_sem,hO,ae,h0,h1,h2,ah ab,ai,aj,ao,ah aK,ai,aj,ba]) (by simp only[go_sem,hO,ae,h0,h1,h2,ah ab,ai,aj,ao,ah aK,ai,aj,ba]<;>rfl)) ?_
    refine aC ?_
    simp only[go_sem,hO,ae,h0,h1,h2]
    rw[IY ab (by assumption) (IZ ab aK hR (by simpa using hb))];rfl
   ·repeat refine sq ?_
    refine aJ ?_
    refine bV ?_
    simp only[go_sem]
    refine eR [0,5,11,12,13,24,25,26] [[5,0]] ?_ ?_
    ·simp only[go_sem,hO,ae,h0,h1,h2]
    simp only[go_sem,hO,ae,h0,h1,h2]
    repeat refine sq ?_
    refine aS hΓ fun K' hK=>?_
    simp only[go_sem,hO,ae,h0,h1,h2,ah ab,ai,aj,ao,ah aK,ai,aj,ba]
    repeat (refine⟨ak,?_⟩)
    refine hK _ ?_
    clear K' hK
    simp only[go_sem]
    refine⟨i1+1,⟨aK,?_⟩,by(show (x.rs.drop (i+1)).length-(i1+1)<(x.rs.drop (i+1)).length-i1;omega),?_⟩
    ·intro k hk dH
     rcases Nat.lt_succ_iff_lt_or_eq.1 dH with h5 | rfl
     ·exact hR k hk h5
     ·simpa using hb
    refine bg [0,5,11,12,13,24,25,26] [[5,0]] ?_ ?_<;>simp only[go_sem,a7 aK (by rw[List.length_drop];omega:(x.rs.drop (i+1)).length<=maxLen),bb,hO,ae,h0,h1,h2]
  ·have ke:i1=(x.rs.drop (i+1)).length:=by
    have :¬ (i1:Int)<(x.rs.drop (i+1)).length:=by simpa using hb
    omega
   clear hb
   subst ke
   repeat refine sq ?_
   refine bR ?_
   simp only[go_sem]
   refine eR [0,11,12,13] [] ?_ ?_
   ·simp only[go_sem,hO,ae,h0,h1,h2]
   simp only[go_sem,hO,ae,h0,h1,h2]
   repeat refine sq ?_
   refine aS hΓ fun K' hK=>?_
   simp only[go_sem,hO,ae,h0,h1,h2,ah ab,ai,aj,ao]
   repeat (refine⟨ak,?_⟩)
   refine hK _ ?_
   clear K' hK
   simp only[go_sem]
   refine⟨i+1,⟨ab,?_⟩,by(show x.rs.length-(i+1)<x.rs.length-i;omega),?_⟩
   ·intro k hk
    rcases Nat.lt_succ_iff_lt_or_eq.1 hk with h5 | rfl
    ·exact(by assumption:∀ k,k<i->m6 x k=none) k h5
    ·exact zb ab fun j hj=>hR j hj hj
   refine bg [0,11,12,13] [] ?_ ?_<;>simp only[go_sem,a7 ab l8,bb,hO,ae,h0,h1,h2]
 ·have bF:i=x.rs.length:=by
   have :¬ (i:Int)<x.rs.length:=by simpa using hb
   omega
  clear hb
  subst bF
  repeat refine sq ?_
  refine bR ?_
  simp only[go_sem]
  refine eR [] [] ?_ ?_
  ·simp only[go_sem,hO,ae,h0,h1,h2]
  simp only[go_sem,hO,ae,h0,h1,h2]
  repeat refine sq ?_
  refine rx hΓ [2,3] [] (fun K' hK=>by simp only[go_sem,hO,ae,h0,h1,h2];(repeat (refine⟨ak,?_⟩));exact hK _ (by simp only[go_sem,hO,ae,h0,h1,h2]) (by simp only[go_sem,hO,ae,h0,h1,h2]<;>rfl)) ?_
  refine aC ?_
  simp only[go_sem,hO,ae,h0,h1,h2]
  rw[CJ hR];rfl
end
def kD(obj:Name->Option O)(L:List O):Name->Option O:=fun nm=>match aX L nm with | some o=>some o | none=>obj nm
theorem Rc{L1 L2:List O}(h:L2.length=L1.length):kD (aX L1) L2=aX L2:=by
 funext nm
 unfold kD
 cases hx:di nm with
 |false=>rw[zc hx,zc hx]
 |true=>
  obtain⟨i,rfl⟩:=wR.1 hx
  simp only[aX]
  by_cases hi:i<L2.length
  ·rw[List.getElem?_eq_getElem hi]
  ·rw[List.getElem?_eq_none (by omega),List.getElem?_eq_none (by omega)]
theorem Dc(n:Nat)(p:Name)(F H:Name->Option O)(L:List O)(l:List (Nat×E))(h:List (Name×O)):
 bt n p (kD (fun nm=>if own p nm=true then F nm else H nm) L) l h=bt n p (kD H L) l h:=
 zq fun nm hn=>by unfold kD;simp[hn]
theorem GP(p:Name)(dom:Name->Bool)(F H:Name->Option O)(L:List O):
 ck p dom (kD (fun nm=>if own p nm=true then F nm else H nm) L)=ck p dom (kD H L):=by
 have e:∀ nm,own p nm=false->kD (fun nm=>if own p nm=true then F nm else H nm) L nm=kD H L nm:=fun nm hn=>by unfold kD;simp[hn]
 exact propext ⟨fun k nm q hn h=>k nm q hn (by rw[e nm hn];exact h),fun k nm q hn h=>k nm q hn (by rw[<-e nm hn];exact h)⟩
def Lp.I(r:Lp)(s:Nat):List O:=r.rc (LI r.m) .ready none::r.fam (LI r.m) s
theorem Lp.I_len{r:Lp}(hr:r.Ok)(s:Nat):(r.I s).length=r.m+1:=by unfold Lp.I;rw[List.length_cons,hr.len _ _ (hU _)]
theorem Lp.I_clos{r:Lp}(hr:r.Ok)(s:Nat):∀ o∈r.I s,∀ dom:Name->Bool,(∀ i,dom [i,1]=true)->O.clos dom o=true:=by
 intro o ho dom hd
 have kg:∀ x∈LI r.m,dom x=true:=fun x hx=>by
  obtain⟨i,_,rfl⟩:=List.mem_map.1 hx
  exact hd _
 rcases List.mem_cons.1 ho with rfl | ho
 ·exact hr.closE _ _ (hU _) kg
 ·exact hr.closF _ _ _ (hU _) kg _ ho
theorem Lp.y_setU{r:Lp}(hr:r.Ok)(dq:∀ j,r.st j=none){s:Nat}(hs:s<r.n)(obj:Name->Option O)(tm:Name)(ho:∀ nm,di nm=true->obj nm=aX (r.I s) nm):
 r.y.toSpec.app obj tm (.yld [0,1]::r.vals s)=⟨True,.v (.bool true),kD obj (r.I (s+1))⟩:=by
 have sU:(LI r.m).Nodup:=List.Pairwise.map _ (fun a b h=>by simpa using h) List.nodup_range
 have xB:([0,1]:Name)∉LI r.m:=fun h=>by
  obtain⟨i,_,hi⟩:=List.mem_map.1 h
  simp at hi
 have h0:obj [0,1]=some (r.rc (LI r.m) .ready none):=by
  rw[ho _ rfl];rfl
 have hF:cW obj (LI r.m) (r.fam (LI r.m) s):=by
  rw[lk]
  refine List.ext_getElem (by rw[List.length_map,List.length_map,hU,hr.len _ _ (hU _)]) fun i h3 h4=>?_
  simp only[List.getElem_map,LI,List.getElem_range]
  rw[ho _ rfl]
  simp only[Lp.I,aX,List.getElem?_cons_succ]
  have h5:i<(r.fam (LI r.m) s).length:=by simpa using h4
  rw[List.getElem?_eq_getElem h5]
  rfl
 have Ay:=Lp.y_app hr hs (fun j _=>dq j) (t:=tm) (hU _) sU xB h0 hF
 rw[Ay,dq s]
 simp only[Option.isNone_none,if_true]
 congr 1
 funext nm
 have hlen:=hr.len (LI r.m) (s+1) (hU _)
 by_cases hR:nm=[0,1]
 ·subst hR
  rw[aT]
  rfl
 ·rw[bc _ _ _ hR]
  unfold kD
  cases hx:di nm with
  |false=>
   rw[zc hx,wg]
   intro im
   obtain⟨i,_,rfl⟩:=List.mem_map.1 im
   cases hx
  |true=>
   obtain⟨i,rfl⟩:=wR.1 hx
   have eG:=HT (obj:=obj) (F:=r.fam (LI r.m) (s+1)) sU (by rw[hU,hlen])
   match i,hR with
   | 0,hR=>exact(hR rfl).elim
   |i+1,_=>
    simp only[Lp.I,aX,List.getElem?_cons_succ]
    by_cases hi:i<r.m
    ·have h6:=CY eG i (by rw[hU];exact hi) (by rw[hlen];exact hi)
     simp only[LI,List.getElem_map,List.getElem_range]at h6
     rw[show (r.fam (LI r.m) (s+1))[i]?=some (r.fam (LI r.m) (s+1))[i]from List.getElem?_eq_getElem (by rw[hlen];exact hi)]
     exact h6
    ·rw[List.getElem?_eq_none (by rw[hlen];omega),wg]
     intro im
     obtain⟨j,MP,Yd⟩:=List.mem_map.1 im
     have :=List.mem_range.1 MP
     simp at Yd
     omega
theorem Lp.go_e{r:Lp}(dq:∀ j,r.st j=none):r.e=r.n/\r.pd=none:=by
 have :(List.range r.n).find? (fun s=>(r.st s).isSome)=none:=List.find?_eq_none.2 fun s _=>by rw[dq s];decide
 unfold Lp.e Lp.pd
 rw[this]
 exact⟨rfl,rfl⟩
theorem Lp.go_end{P:Program}{r:Lp}(hr:r.Ok)(dq:∀ j,r.st j=none){σ:S}(fg:∀ i,σ.obj [i,1]=aX (r.I r.n) [i,1]):
 (bU P σ []).ok/\(bU P σ []).d=.tup []/\gw (r.rc (LI r.m) .ready none::r.fam (LI r.m) 0) ⟨(0,r.fin (LI r.m))::fk 1 (r.fam (LI r.m) r.e),[],.tup []⟩ σ:=by
 obtain⟨e1,e2⟩:=Lp.go_e dq
 refine Lp.it_end hr ?_ ?_
 ·rw[fg]
  unfold Lp.fin
  rw[e2]
  rfl
 ·rw[lk,e1]
  refine List.ext_getElem (by rw[List.length_map,List.length_map,hU,hr.len _ _ (hU _)]) fun i h3 h4=>?_
  simp only[List.getElem_map,LI,List.getElem_range]
  rw[fg]
  simp only[Lp.I,aX,List.getElem?_cons_succ]
  have h5:i<(r.fam (LI r.m) r.n).length:=by simpa using h4
  rw[List.getElem?_eq_getElem h5]
  rfl
theorem Lp.itC_sound{P:Program}{r:Lp}(hr:r.Ok)(dq:∀ j,r.st j=none){dV:List Name->List D}{f:FuncId}{fn:Func}{nt:Nat}(hf:P.funcs[f]?=some fn)(cZ:fn.ntmps=nt)(cf:fn.results.toList=[])(hn:(fn.name== "runtime.NumGoroutine")=false)(hy:f<1000000000)
 (hw:∃ c,fn.body=some c/\(dV (LI r.m)).length+1<=nt/\CL P [c] (bt nt [0] (aX (r.I 0)) (dm 0 (.yld [0,1]::dV (LI r.m))) []) (fun e σ=>(e=.normal\/e=.ret)/\∀ i,σ.obj [i,1]=aX (r.I r.n) [i,1])):aN P f (r.itC dV).toSpec:=by
 obtain⟨c,hc,hl,hw⟩:=hw
 refine oK hf hc cZ cf (i6 hf hc hn) (Nat.ne_of_lt (show f<yid from hy)) ?_
 rintro os ds ⟨rfl,rfl⟩
 refine⟨by simpa using hl,CW.mono (jE hw) ?_⟩
 rintro e σ ⟨he,fg⟩
 rcases he with rfl | rfl
 ·exact Lp.go_end hr dq fg
 ·exact Lp.go_end hr dq fg
noncomputable section
def pV(obj:Name->Option O)(t:Name):List D->R
 |[.ref nv 0,.v (.int .i64 pa),.v (.sl lv)]=>match iW obj nv with
  |some (nb,nd,x)=>⟨om obj nv nb nd x/\obj (3::0::t)=none,.clo (.func 193) [] [.ref (3::0::t) 0,.v (.ptr [vInt pa]),.v (.ptr [.sl lv])],upd obj (3::0::t) (some (.box [.ref nv 0]))⟩
  |_=>.bad obj
 |_=>.bad obj
def BN(obj:Name->Option O)(t:Name):List D->List Name
 | .ref nv _::_=>(3::0::t)::nv::(match obj nv with | some (.box [_,_,_,.map nb,.map nd])=>[nb,nd] | _=>[])
 |_=>[]
def withS:Spec:=⟨pV,BN,BN⟩
theorem ZP{obj obj2:Name->Option O}{nv:Name}(h1:obj2 nv=obj nv)(h2:∀ nm∈(match obj nv with | some (.box [_,_,_,.map nb,.map nd])=>[nb,nd] | _=>[]),obj2 nm=obj nm):iW obj2 nv=iW obj nv:=by
 unfold iW
 rw[h1]
 split
 ·rename_i lp rs ts nb nd h
  rw[h]at h2
  rw[h2 nb (by simp),h2 nd (by simp)]
 ·rfl
theorem ZO{obj:Name->Option O}{nv nb nd:Name}{x:Vw}(h:iW obj nv=some (nb,nd,x)):(match obj nv with | some (.box [_,_,_,.map nb,.map nd])=>[nb,nd] | _=>[])=[nb,nd]:=by
 unfold iW at h
 split at h
 ·rename_i e
  split at h
  ·cases h;rw[e]
  ·cases h
 ·cases h
theorem Qq:withS.Near:=by
 refine wC fun obj obj2 t ds ha=>?_
 unfold BN at ha |-
 split
 ·rename_i nv off r
  simp only at ha
  have h1:obj2 nv=obj nv:=ha nv (by simp)
  have hg:=ZP h1 fun nm hn=>ha nm (by simp[hn])
  refine⟨by rw[h1],?_⟩
  unfold pV
  split
  ·rename_i nv' pa lv e
   cases e
   simp only[hg]
   split
   ·rename_i nb nd x hx
    have aA:=ZO hx
    rw[aA]at ha |-
    have aa:om obj2 nv nb nd x=om obj nv nb nd x:=by unfold om;rw[h1,ha nb (by simp),ha nd (by simp)]
    rw[aa,ha (3::0::t) (by simp)]
    exact .one (by simp) ha
   ·exact .none _ ha
  ·exact .none _ ha
 ·refine⟨rfl,?_⟩
  rename_i kP
  unfold pV
  split
  ·exact(kP _ _ _ rfl).elim
  ·exact .none _ (fun _ h=>by cases h)
attribute [go_sem] withS pV
def yw:CSpec where
 pre:=fun os ds=>∃ (x:Vw) (pa:Int) (lv:List V),os=[bC x [1,1] [2,1],.map 2 (bY x.bk),.map 0 (bL x.ds)]/\ds=[.ref [0,1] 0,.v (vInt pa),.v (.sl lv)]
 out:=fun _ ds=>match ds with
  |[_,.v p,.v l]=>⟨[],[([3,0],.box [.ref [0,1] 0])],.clo (.func 193) [] [.ref [3,0] 0,.v (.ptr [p]),.v (.ptr [l])]⟩
  |_=>⟨[],[],.any⟩
theorem Qp{f:FuncId}(h:aN Tryz.prog f yw.toSpec)(aG:f≠yid):aN Tryz.prog f withS:=by
 refine v7 h Qq aG fun obj t ds aa=>?_
 change (pV obj t ds).ok at aa
 refine⟨ds,rfl,fun _ _ _ _ h=>h,?_⟩
 show _/\_=(pV obj t ds).d/\_=(pV obj t ds).obj
 unfold pV at aa |-
 split at aa
 ·rename_i nv pa lv
  split at aa
  ·rename_i nb nd x xp
   obtain⟨hv,cS⟩:=aa
   have sh:=hv
   obtain⟨h1,h2,h3,h4,h5,h6⟩:=sh
   have n4:nv≠nb:=by simpa using h4
   have n5:nv≠nd:=by simpa using h5
   have n6:nb≠nd:=by simpa using h6
   have hr:=IB hv [vInt pa,.sl lv]
   simp only[List.map_cons,List.map_nil]at hr
   have i0:idx [nv,nb,nd] nv=0:=by simp[idx]
   have i1:idx [nv,nb,nd] nb=1:=by simp[idx,n4]
   have i2:idx [nv,nb,nd] nd=2:=by simp[idx,n5,n6]
   have e1:cD obj [.ref nv 0,.v (vInt pa),.v (.sl lv)]=[bC x [1,1] [2,1],.map 2 (bY x.bk),.map 0 (bL x.ds)]:=by
    unfold cD
    rw[hr]
    simp only[List.map_cons,List.map_nil,cH,h1,h2,h3,bC,O.ren,D.renL,D.ren,cin,i1,i2]
   have e2:dd obj [.ref nv 0,.v (vInt pa),.v (.sl lv)]=[.ref [0,1] 0,.v (vInt pa),.v (.sl lv)]:=by
    unfold dd
    rw[hr]
    simp only[D.renL,D.ren,cin,i0]
   have e5:(shut obj [nv,nb,nd]&&D.closL (cX [nv,nb,nd]) [.ref nv 0,.v (vInt pa),.v (.sl lv)]&&fresh obj t [([3,0],.box [.ref [0,1] 0])])=true:=by
    simp[shut,h1,h2,h3,bC,O.clos,D.closL,D.clos,cX,fresh,cS]
   have e4:yw.pre [bC x [1,1] [2,1],.map 2 (bY x.bk),.map 0 (bL x.ds)] [.ref [0,1] 0,.v (vInt pa),.v (.sl lv)]:=⟨x,pa,lv,rfl,rfl⟩
   have e6:∀ os,yw.out os [.ref [0,1] 0,.v (vInt pa),.v (.sl lv)]=⟨[],[([3,0],.box [.ref [0,1] 0])],.clo (.func 193) [] [.ref [3,0] 0,.v (.ptr [vInt pa]),.v (.ptr [.sl lv])]⟩:=fun _=>rfl
   have vp:dd obj [.ref nv 0,.v (V.int .i64 pa),.v (.sl lv)]=[.ref [0,1] 0,.v (vInt pa),.v (.sl lv)]:=e2
   have Z6:cD obj [.ref nv 0,.v (V.int .i64 pa),.v (.sl lv)]=_:=e1
   have qv:reach obj [.ref nv 0,.v (V.int .i64 pa),.v (.sl lv)]=_:=hr
   have Z4:(shut obj [nv,nb,nd]&&D.closL (cX [nv,nb,nd]) [.ref nv 0,.v (V.int .i64 pa),.v (.sl lv)]&&fresh obj t [([3,0],.box [.ref [0,1] 0])])=true:=e5
   simp only[CSpec.toSpec,Z6,vp,qv,e6,e4,Z4,xp,and_self,dz,cF]
   exact⟨trivial,rfl,rfl⟩
  ·exact aa.elim
 ·exact aa.elim
def S164:Spec:=withS
attribute [go_sem] S164
set_option maxHeartbeats 4000000 in
theorem DI:aN Tryz.prog 164 S164:=by
 refine Qp ?_ (nc _ (by decide))
 refine oK (nt:=8) (rs:=[.tmp 6]) Tryz.func164 rfl (by rfl) (by kernel_rfl) (i6 Tryz.func164 rfl (by kernel_rfl)) (nc _ (by decide)) ?_
 rintro os ds ⟨x,pa,lv,rfl,rfl⟩
 refine⟨lb rfl,?_⟩
 have ju:∀ os,yw.out os [.ref [0,1] 0,.v (vInt pa),.v (.sl lv)]=⟨[],[([3,0],.box [.ref [0,1] 0])],.clo (.func 193) [] [.ref [3,0] 0,.v (.ptr [vInt pa]),.v (.ptr [.sl lv])]⟩:=fun _=>rfl
 rw[ju]
 refine jE ?_
 have hΓ:=@fE Tryz.prog
 have hO:∀ hs,ck [0] (b8 [0] hs) (aX [bC x [1,1] [2,1],.map 2 (bY x.bk),.map 0 (bL x.ds)])=True:=fun hs=>eq_true (o8 (by
  intro o ho dom hd
  simp only[List.mem_cons,List.not_mem_nil,or_false]at ho
  rcases ho with rfl | rfl | rfl
  ·simp[bC,O.clos,D.closL,D.clos,hd]
  ·rfl
  ·rfl) hs)
 have h0:aX [bC x [1,1] [2,1],.map 2 (bY x.bk),.map 0 (bL x.ds)] [0,1]=some (bC x [1,1] [2,1]):=rfl
 have h1:aX [bC x [1,1] [2,1],.map 2 (bY x.bk),.map 0 (bL x.ds)] [1,1]=some (.map 2 (bY x.bk)):=rfl
 have h2:aX [bC x [1,1] [2,1],.map 2 (bY x.bk),.map 0 (bL x.ds)] [2,1]=some (.map 0 (bL x.ds)):=rfl
 generalize aX [bC x [1,1] [2,1],.map 2 (bY x.bk),.map 0 (bL x.ds)]=H at *
 repeat refine sq ?_
 refine rx hΓ [3,4,5] [[3,0],[4,0],[5,0]] (fun K' hK=>by simp only[go_sem,hO];(repeat (refine⟨ak,?_⟩));exact hK _ (by simp only[go_sem,hO]) (by simp only[go_sem,hO]<;>rfl)) ?_
 refine bP (el 4 (.ref [4,0] 0) (by simp only[go_sem]) (by simp only[go_sem]) [3,4,5] [[3,0],[4,0],[5,0]] ?_ rfl) ?_
 ·simp only[go_sem,hO]
 simp only[go_sem,hO]
 refine bP (el 5 (.ref [5,0] 0) (by simp only[go_sem]) (by simp only[go_sem]) [3,4,5] [[3,0]] ?_ rfl) ?_
 ·simp only[go_sem,hO]
 simp only[go_sem,hO]
 repeat refine sq ?_
 refine rx hΓ [6] [[3,0],[4,0],[5,0]] (fun K' hK=>by simp only[go_sem,hO];(repeat (refine⟨ak,?_⟩));exact hK _ (by simp only[go_sem,hO]) (by simp only[go_sem,hO]<;>rfl)) ?_
 refine aC ?_
 simp only[go_sem,hO]
 exact⟨⟨h0,h1,h2⟩,rfl⟩
end
attribute [go_sem] wU
theorem uy(lv:List Int):pG (194,[.ptr [.sl (lv.map vInt)]])=fun n=>lv.contains n:=by
 funext n
 simp only[pG,qU]
set_option maxHeartbeats 8000000 in
theorem QE{sY:Spec}(hY:aN Tryz.prog yid sY){x:Vw}{nb nd:Name}{pa:Int}{lv:List Int}{ia ic:Nat}{I:Nat->List O}(hv:∀ r∈x.rs,dJ r=true)(nx:x.rs.length<=60)
 (hI:∀ s,(I s).length=(I 0).length) (hc:∀ s,∀ o∈I s,∀ dom:Name->Bool,(∀ i,dom [i,1]=true)->O.clos dom o=true)
 (ha:aX (I 0) [ia,1]=some (.box [.ref [ic,1] 0])) (hx:aX (I 0) [ic,1]=some (bC x nb nd))
 (dq:∀ s (h:s<x.rs.length),fY pa lv x.rs[s]=false->I (s+1)=I s)
 (nI:∀ s (h:s<x.rs.length),fY pa lv x.rs[s]=true->∀ obj tm,(∀ nm,di nm=true->obj nm=aX (I s) nm)->sY.app obj tm [.yld [0,1],gA x.rs[s]]=⟨True,.v (.bool true),kD obj (I (s+1))⟩):
 ∃ c',Tryz.f193.body=some c'/\CL Tryz.prog [c'] (bt 33 [0] (aX (I 0)) [(0,⟨true,.yld [0,1]⟩),(1,⟨true,.ref [ia,1] 0⟩),(2,⟨true,.v (.ptr [vInt pa])⟩),(3,⟨true,.v (.ptr [.sl (lv.map vInt)])⟩)] [])
   (fun e σ=>(e=.normal\/e=.ret)/\∀ i,σ.obj [i,1]=aX (I x.rs.length) [i,1]):=by
 refine⟨_,rfl,?_⟩
 obtain⟨Γ,hΓ,eZ,eY⟩:∃ Γ:FuncId->Option Spec,(∀ f s,Γ f=some s->aN Tryz.prog f s)/\Γ 160=some S160/\Γ 1000000000=some sY:=by
  refine⟨fun f=>if f=160 then some S160 else if f=1000000000 then some sY else none,fun f s h=>?_,rfl,rfl⟩
  dsimp only at h
  split at h
  ·rename_i e;cases h;subst e;exact LW
  ·split at h
   ·rename_i e;cases h;subst e;exact hY
   ·cases h
 have hO:∀ s hs,ck [0] (b8 [0] hs) (aX (I s))=True:=fun s hs=>eq_true (o8 (hc s) hs)
 have zU:∀ s,kD (aX (I s)) (I (s+1))=aX (I (s+1)):=fun s=>Rc ((hI _).trans (hI s).symm)
 obtain⟨H,hH⟩:∃ H:Nat->Name->Option O,∀ s,aX (I s)=H s:=⟨_,fun _=>rfl⟩
 simp only[hH]at hO zU nI ha hx |-
 simp only[bC]at hx
 have l8:x.rs.length<=maxLen:=by unfold maxLen;omega
 repeat refine sq ?_
 refine rx hΓ [0,2,3,10,11,12] [] (fun K' hK=>by simp only[go_sem,hO,ha,hx];(repeat (refine⟨ak,?_⟩));exact hK _ (by simp only[go_sem,hO,ha,hx]) (by simp only[go_sem,hO,ha,hx]<;>rfl)) ?_
 repeat refine sq ?_
 refine aR ?_
 repeat refine sq ?_
 refine F8 (fun s:Nat=>bt 33 [0] (H s) [(0,⟨true,.yld [0,1]⟩),(2,⟨true,.v (.ptr [vInt pa])⟩),(3,⟨true,.v (.ptr [.sl (lv.map vInt)])⟩),(10,⟨true,.v (.sl (x.rs.map encR))⟩),(11,⟨true,.v (vInt x.rs.length)⟩),(12,⟨true,.v (vInt s)⟩)] [])
  (fun s=>s<=x.rs.length) (fun s=>x.rs.length-s) 0 (Nat.zero_le _) (eh.refl _) ?_
 rintro i hi
 repeat refine sq ?_
 refine rx hΓ [0,2,3,10,11,12,13] [] (fun K' hK=>by simp only[go_sem,hO];(repeat (refine⟨ak,?_⟩));exact hK _ (by simp only[go_sem,hO]) (by simp only[go_sem,hO]<;>rfl)) ?_
 repeat refine sq ?_
 refine aB (fun hb=>?_) fun hb=>?_
 ·have ab:i<x.rs.length:=by simpa using hb
  have ao:(i:Int)<x.rs.length:=by omega
  have kK:IntKind.i64.wrap ((i:Int)+1)=((i+1:Nat):Int):=a7 ab l8
  clear hb
  have hlf:=Ct (hv x.rs[i] (List.getElem_mem ab))
  repeat refine sq ?_
  refine aJ ?_
  repeat refine sq ?_
  refine aR ?_
  repeat refine sq ?_
  refine rx hΓ [0,2,3,6,10,11,12] [[6,0]] (fun K' hK=>by simp only[go_sem,hO,ah ab,ai,aj,ao];(repeat (refine⟨ak,?_⟩));exact hK _ (by simp only[go_sem,hO,ah ab,ai,aj,ao]) (by simp only[go_sem,hO,ah ab,ai,aj,ao]<;>rfl)) ?_
  have M4:(if fY pa lv x.rs[i]=true then H (i+1)else H i)=H (i+1):=by
   split
   ·rfl
   ·rename_i h;rw[<-hH,<-hH,dq i ab (by simpa using h)]
  by_cases iK:x.rs[i].pa=pa
  ·have mc:(x.rs[i].pa==pa)=true:=by simp[iK]
   cases iV:x.rs[i].lv.any fun n=>lv.contains n with
   |true=>
    have nC:fY pa lv x.rs[i]=true:=by unfold fY;rw[iV];simp[iK]
    have Az:=fun (F:Name->Option O) (tm:Name)=>nI i ab nC (fun nm=>if own [0] nm=true then F nm else H i nm) tm fun nm hn=>by
     obtain⟨k,rfl⟩:=wR.1 hn
     simp[uz]
    simp only[gA]at Az
    repeat refine sq ?_
    refine rx hΓ [0,2,3,10,11,12,31] [] (fun K' hK=>by simp only[go_sem,hO,eZ,eY,mc,uy,iV,Az,Dc,GP,zU,Bool.not_true];(repeat (refine⟨by first | exact ak | exact⟨trivial,.inr (.inr ⟨_,rfl⟩)⟩ | exact .inr (.inr ⟨_,rfl⟩),?_⟩));exact hK _ (by simp only[go_sem,hO,eZ,eY,mc,uy,iV,Az,Dc,GP,zU,Bool.not_true]) (by simp only[go_sem,hO,eZ,eY,mc,uy,iV,Az,Dc,GP,zU,Bool.not_true]<;>rfl)) ?_
    repeat refine sq ?_
    refine aB (fun hb=>?_) fun hb=>?_
    ·cases hb
    repeat refine sq ?_
    refine aJ ?_
    refine bV ?_
    simp only[go_sem]
    refine eR [0,2,3,10,11,12] [] ?_ ?_
    ·simp only[go_sem,hO]
    simp only[go_sem,hO]
    repeat refine sq ?_
    refine aS hΓ fun K' hK=>?_
    simp only[go_sem]
    repeat (refine⟨ak,?_⟩)
    refine hK _ ?_
    clear K' hK
    simp only[go_sem]
    refine⟨i+1,ab,by omega,?_⟩
    refine bg [0,2,3,10,11,12] [] ?_ ?_<;>simp only[go_sem,hO,kK,bb]
   |false=>
    have nC:fY pa lv x.rs[i]=false:=by unfold fY;rw[iV];simp
    have Fa:H (i+1)=H i:=by rw[<-hH,<-hH,dq i ab nC]
    repeat refine sq ?_
    refine rx hΓ [0,2,3,10,11,12,31] [] (fun K' hK=>by simp only[go_sem,hO,eZ,eY,mc,uy,iV];(repeat (refine⟨by first | exact ak | exact⟨trivial,.inr (.inr ⟨_,rfl⟩)⟩ | exact .inr (.inr ⟨_,rfl⟩),?_⟩));exact hK _ (by simp only[go_sem,hO,eZ,eY,mc,uy,iV]) (by simp only[go_sem,hO,eZ,eY,mc,uy,iV]<;>rfl)) ?_
    repeat refine sq ?_
    refine aB (fun hb=>?_) fun hb=>?_
    ·cases hb
    repeat refine sq ?_
    refine aJ ?_
    refine bV ?_
    simp only[go_sem]
    refine eR [0,2,3,10,11,12] [] ?_ ?_
    ·simp only[go_sem,hO]
    simp only[go_sem,hO]
    repeat refine sq ?_
    refine aS hΓ fun K' hK=>?_
    simp only[go_sem]
    repeat (refine⟨ak,?_⟩)
    refine hK _ ?_
    clear K' hK
    simp only[go_sem]
    refine⟨i+1,ab,by omega,?_⟩
    rw[Fa]
    refine bg [0,2,3,10,11,12] [] ?_ ?_<;>simp only[go_sem,hO,kK,bb]
  ·have mc:(x.rs[i].pa==pa)=false:=by simp[iK]
   have nC:fY pa lv x.rs[i]=false:=by unfold fY;simp[iK]
   have Fa:H (i+1)=H i:=by rw[<-hH,<-hH,dq i ab nC]
   repeat refine sq ?_
   refine rx hΓ [0,2,3,10,11,12,31] [] (fun K' hK=>by simp only[go_sem,hO,eZ,eY,mc];(repeat (refine⟨ak,?_⟩));exact hK _ (by simp only[go_sem,hO,eZ,eY,mc]) (by simp only[go_sem,hO,eZ,eY,mc]<;>rfl)) ?_
   repeat refine sq ?_
   refine aB (fun hb=>?_) fun hb=>?_
   ·cases hb
   repeat refine sq ?_
   refine aJ ?_
   refine bV ?_
   simp only[go_sem]
   refine eR [0,2,3,10,11,12] [] ?_ ?_
   ·simp only[go_sem,hO]
   simp only[go_sem,hO]
   repeat refine sq ?_
   refine aS hΓ fun K' hK=>?_
   simp only[go_sem]
   repeat (refine⟨ak,?_⟩)
   refine hK _ ?_
   clear K' hK
   simp only[go_sem]
   refine⟨i+1,ab,by omega,?_⟩
   rw[Fa]
   refine bg [0,2,3,10,11,12] [] ?_ ?_<;>simp only[go_sem,hO,kK,bb]
 ·have bF:i=x.rs.length:=by
    have :¬ (i:Int)<x.rs.length:=by simpa using hb
    omega
  subst bF
  clear hb
  repeat refine sq ?_
  refine bR ?_
  simp only[go_sem]
  refine bV ?_
  simp only[go_sem]
  first | exact .inl trivial | exact⟨by simp,fun k=>by simp[uz]⟩
set_option maxRecDepth 10000
noncomputable section
theorem rF{α:Type}{p:α->Bool}{l:List α}{s:Nat}(h:s<l.length):((l.take (s+1)).filter p)=(l.take s).filter p++(if p l[s]=true then[l[s]]else[]):=by
 rw[List.take_add_one,List.getElem?_eq_getElem h,List.filter_append]
 simp only[Option.toList_some,List.filter_cons,List.filter_nil]
theorem ZV{α:Type}{p:α->Bool}{l:List α}{s:Nat}{z:α}(h:s<l.length)(hp:p l[s]=true):((l.take s).filter p).length<(l.filter p).length/\(l.filter p).getD ((l.take s).filter p).length z=l[s]:=by
 have e:l.filter p=(l.take s).filter p++(l[s]::(l.drop (s+1)).filter p):=by
  conv=>lhs;rw[<-List.take_append_drop s l,List.filter_append,List.drop_eq_getElem_cons h,List.filter_cons,if_pos hp]
 refine⟨?_,?_⟩
 ·rw[e,List.length_append,List.length_cons];omega
 ·rw[e];simp[List.getD]
def ko(j:Nat)(pa:Int)(lv:List Int)(Ls:List Name):List D:=[.ref (Ls.getD j []) 0,.v (.ptr [vInt pa]),.v (.ptr [.sl (lv.map vInt)])]
theorem H6{r:Lp}(hr:r.Ok)(dq:∀ j,r.st j=none)(hy:aN Tryz.prog yid r.y.toSpec){x:Vw}{nb nd:Name}{pa:Int}{lv:List Int}{j jc:Nat}(hv:∀ q∈x.rs,dJ q=true)(nx:x.rs.length<=60)
 (hn:r.n=(cU x.rs pa lv).length) (Xj:∀ s,r.vals s=[gA ((cU x.rs pa lv).getD s zeroR)]) (hj:j<r.m) (ha:aX (r.I 0) [j+1,1]=some (.box [.ref [jc+1,1] 0])) (hx:aX (r.I 0) [jc+1,1]=some (bC x nb nd)):
 aN Tryz.prog 193 (r.itC (ko j pa lv)).toSpec:=by
 have jy:ko j pa lv (LI r.m)=[.ref [j+1,1] 0,.v (.ptr [vInt pa]),.v (.ptr [.sl (lv.map vInt)])]:=by
  unfold ko
  have :(LI r.m).getD j []=[j+1,1]:=by simp[LI,hj]
  rw[this]
 obtain⟨c,hc,h⟩:=QE hy (x:=x) (nb:=nb) (nd:=nd) (pa:=pa) (lv:=lv) (ia:=j+1) (ic:=jc+1) (I:=fun s=>r.I ((x.rs.take s).filter (fY pa lv)).length) hv nx
  (fun s=>by rw[Lp.I_len hr,Lp.I_len hr]) (fun s=>Lp.I_clos hr _) (by simpa using ha) (by simpa using hx)
  (fun s hs hh=>by rw[rF hs,hh];simp)
  (fun s hs hh obj tm ho=>by
    obtain⟨h1,h2⟩:=ZV (z:=zeroR) hs hh
    have :=Lp.y_setU hr dq (s:=((x.rs.take s).filter (fY pa lv)).length) (by rw[hn];exact h1) obj tm ho
    rw[Xj]at this
    unfold cU at this
    rw[h2]at this
    rw[this,rF hs,hh]
    simp)
 refine Lp.itC_sound hr dq Tryz.func193 Tryz.ntmps193 (by rfl) (by kernel_rfl) (by decide) ⟨c,hc,by rw[jy];exact lb rfl,?_⟩
 rw[jy]
 have h0:r.I ((x.rs.take 0).filter (fY pa lv)).length=r.I 0:=by simp
 have h9:r.I ((x.rs.take x.rs.length).filter (fY pa lv)).length=r.I r.n:=by rw[List.take_length,hn];rfl
 simp only[h0,h9]at h
 exact h
theorem IE{a b:Rec}(h:gA a=gA b):a=b:=by
 obtain⟨a1,a2,a3,al,a4,a5,a6⟩:=a
 obtain⟨b1,b2,b3,bl,b4,b5,b6⟩:=b
 simp only[gA,D.agg.injEq,List.cons.injEq,D.v.injEq,vInt,V.int.injEq,V.sl.injEq,true_and,and_true]at h
 obtain⟨rfl,rfl,rfl,hl,rfl,rfl,rfl⟩:=h
 have :=congrArg (List.map km) hl
 have e:∀ l:List Int,(l.map fun n=>V.int .i64 n).map km=l:=fun l=>qU l
 rw[e,e]at this
 rw[this]
theorem G8{l:List Rec}(hn:l.Nodup):∀ s s',s<l.length->s'<l.length->([gA (l.getD s zeroR)]:List D)=[gA (l.getD s' zeroR)]->s=s':=by
 intro s s' h h' e
 have e1:=IE (List.cons.inj e).1
 rw[cz h,cz h']at e1
 exact(List.getElem_inj hn).1 e1
def rJ:Code->Option (Array Tmp×Code×Code)
 | .seq a b=>match rJ a with | some x=>some x | none=>rJ b
 | .block _ b=>rJ b
 | .loop b=>rJ b
 | .cond _ a b=>match rJ a with | some x=>some x | none=>rJ b
 | .rangeFunc _ ps a b=>some (ps,a,b)
 |_=>none
def p0(fn:Func):Array Tmp×Code×Code:=((fn.body.bind rJ).getD (#[],.skip,.skip))
theorem ln{Ls:List Name}(h:Ls.length=5):∃ a b c d e,Ls=[a,b,c,d,e]:=by
 match Ls,h with
 |[a,b,c,d,e],_=>exact⟨a,b,c,d,e,rfl⟩
theorem qh{Ls:List Name}(h:Ls.length=7):∃ a b c d e f g,Ls=[a,b,c,d,e,f,g]:=by
 match Ls,h with
 |[a,b,c,d,e,f,g],_=>exact⟨a,b,c,d,e,f,g,rfl⟩
def iG(l:Led)(k i j:Int)(n:Nat)(x:Vw)(r:Rec)(lv:List Int):Lp where
 m:=5
 env:=fun Ls=>(List.range 181).map (dQ eAny [(0,⟨true,.v (kj l)⟩),(5,⟨true,.ref (Ls.getD 0 []) 0⟩),(17,⟨true,.v (.ptr [vInt i])⟩),(19,⟨true,.v (.ptr [vInt r.so,vInt r.bo,vInt r.pa,.sl (r.lv.map vInt),vInt r.da,vInt r.kn,vInt r.un])⟩),(141,⟨true,.v (.sl (x.ts.map vInt))⟩),(142,⟨true,.v (vInt n)⟩),(143,⟨true,.v (vInt j)⟩),(166,⟨true,.clo (.func 193) [] (ko 4 r.pa lv Ls)⟩)])
 fam:=fun Ls s=>[.box [.ref (Ls.getD 1 []) 0],bC x (Ls.getD 2 []) (Ls.getD 3 []),.map 2 (bY x.bk),.map 0 (bL (jV x.ds i r.da ((cU x.rs r.pa lv).take s))),.box [.ref (Ls.getD 1 []) 0]]
 ps:=(p0 Tryz.f76).1.toList
 asg:=(p0 Tryz.f76).2.1
 body:=(p0 Tryz.f76).2.2
 n:=(cU x.rs r.pa lv).length
 vals:=fun s=>[gA ((cU x.rs r.pa lv).getD s zeroR)]
 st:=fun _=>none
 fu:=100
theorem JL(l:Led)(k i j:Int)(n:Nat)(x:Vw)(r:Rec)(lv:List Int)(hn:x.rs.Nodup):(iG l k i j n x r lv).Ok where
 len:=fun Ls s _=>rfl
 renE:=fun f Ls h=>by obtain⟨a,b,c,d,e,rfl⟩:=ln h;rfl
 renF:=fun f Ls s h=>by obtain⟨a,b,c,d,e,rfl⟩:=ln h;rfl
 reach:=fun Ls s obj acc q h cM hd hF=>by
  obtain⟨a,b,c,d,e,rfl⟩:=ln h
  obtain⟨h1,h2,h3,h4,h5,_⟩:=hF
  have en:de (((iG l k i j n x r lv).env [a,b,c,d,e]).map (·.d))=[a,e]:=rfl
  rw[en]
  show dC obj (q+91+1+1+1+1+1+1+1+1+1) _ acc=_
  simp only[List.mem_cons,List.not_mem_nil,or_false,forall_eq_or_imp,forall_eq]at hd
  obtain⟨d1,d2,d3,d4,d5⟩:=hd
  simp only[List.nodup_cons,List.mem_cons,List.not_mem_nil,or_false,not_or,not_false_eq_true,List.nodup_nil,and_true]at cM
  obtain⟨⟨a1,a2,a3,a4⟩,⟨b1,b2,b3⟩,⟨c1,c2⟩,e1⟩:=cM
  simp[dC,gD,h1,h2,h3,h4,h5,lY,de,lZ,bC,d1,d2,d3,d4,d5,Ne.symm a1,Ne.symm a2,Ne.symm a3,Ne.symm a4,Ne.symm b1,Ne.symm b2,Ne.symm b3,Ne.symm c1,Ne.symm c2,Ne.symm e1]
 closE:=fun dom Ls h hd=>by
  obtain⟨a,b,c,d,e,rfl⟩:=ln h
  have h1:=hd a (by simp)
  have h2:=hd e (by simp)
  simp[iG,List.range,List.range.loop,dQ,D.closL,D.clos,eAny,h1,h2,ko]
 closF:=fun dom Ls s h hd o ho=>by
  obtain⟨a,b,c,d,e,rfl⟩:=ln h
  have h1:=hd b (by simp)
  have h2:=hd c (by simp)
  have h3:=hd d (by simp)
  simp only[iG,List.mem_cons,List.not_mem_nil,or_false]at ho
  rcases ho with rfl | rfl | rfl | rfl | rfl<;>simp[O.clos,D.closL,D.clos,bC,h1,h2,h3]
 psz:=fun Ls h=>by rfl
 args:=fun s=>by rfl
 fuel:=(show (100:Nat)<=2000 by decide)
 vnam:=fun _=>rfl
 vcl:=fun _ _=>rfl
 vren:=fun _ _=>rfl
 inj:=G8 (hn.filter _)
def K23:List (Nat×Spec):=[(165,S165)]
theorem adm:KS K23:=tc DH<|tn
attribute [go_sem] K23
theorem TX(d:Ds)(i da:Int){os:List Rec}{s:Nat}(h:s<os.length):jV d i da (os.take (s+1))=if os[s].da>da then jW (jV d i da (os.take s)) i ⟨0,os[s].da⟩else jV d i da (os.take s):=by
 unfold jV
 rw[List.take_add_one,List.getElem?_eq_getElem h,List.foldl_append]
 rfl
set_option maxHeartbeats 4000000 in
theorem Uy(l:Led)(k i j:Int)(n:Nat)(x:Vw)(r:Rec)(lv:List Int)(hn:x.rs.Nodup):aN Tryz.prog yid (iG l k i j n x r lv).y.toSpec:=by
 refine Lp.y_sound (JL l k i j n x r lv hn) fun s hs _=>?_
 have hΓ:=adm
 have il:s<(cU x.rs r.pa lv).length:=hs
 have EW:(iG l k i j n x r lv).fam (LR 5) s=[.box [.ref [1,1] 0],bC x [2,1] [3,1],.map 2 (bY x.bk),.map 0 (bL (jV x.ds i r.da ((cU x.rs r.pa lv).take s))),.box [.ref [1,1] 0]]:=rfl
 have sO:(iG l k i j n x r lv).fam (LR 5) (s+1)=[.box [.ref [1,1] 0],bC x [2,1] [3,1],.map 2 (bY x.bk),.map 0 (bL (jV x.ds i r.da ((cU x.rs r.pa lv).take (s+1)))),.box [.ref [1,1] 0]]:=rfl
 have dq:(iG l k i j n x r lv).st s=none:=rfl
 have hv:(iG l k i j n x r lv).vals s=[gA ((cU x.rs r.pa lv)[s])]:=by rw[<-cz (z:=zeroR) il];rfl
 have hm:(iG l k i j n x r lv).m=5:=rfl
 rw[hm,EW,sO,dq,hv,TX _ _ _ il]
 generalize (cU x.rs r.pa lv)[s]=o
 generalize jV x.ds i r.da ((cU x.rs r.pa lv).take s)=d
 generalize iM:[O.box [.ref [1,1] 0],bC x [2,1] [3,1],.map 2 (bY x.bk),.map 0 (bL d),.box [.ref [1,1] 0]]=os
 have hO:∀ hs,ck [0] (b8 [0] hs) (aX os)=True:=by
  subst iM
  refine fun hs=>eq_true (o8 ?_ hs)
  intro o ho dom hd
  simp only[List.mem_cons,List.not_mem_nil,or_false]at ho
  rcases ho with rfl | rfl | rfl | rfl | rfl<;>simp[O.clos,D.closL,D.clos,bC,hd]
 have ae:∀ hs es,ck [0] (b8 [0] hs) (fun nm=>if nm=[3,1]then some (.map 0 es)else aX os nm)=True:=fun hs es=>eq_true (tJ (nm:=[3,1]) (o:=.map 0 es) rfl (by rw[hO];trivial))
 have h0:aX os [0,1]=some (.box [.ref [1,1] 0]):=by subst iM;rfl
 have h1:aX os [1,1]=some (bC x [2,1] [3,1]):=by subst iM;rfl
 have h2:aX os [2,1]=some (.map 2 (bY x.bk)):=by subst iM;rfl
 have h3:aX os [3,1]=some (.map 0 (bL d)):=by subst iM;rfl
 have h4:aX os [4,1]=some (.box [.ref [1,1] 0]):=by subst iM;rfl
 generalize hH:aX os=H at *
 clear iM hH
 simp only[bC]at h1 |-
 have nx:p0 Tryz.f76=(_,_,_):=rfl
 refine vz (BO 181 [0] H [(5,⟨true,.ref [0,1] 0⟩),(17,⟨true,.v (.ptr [vInt i])⟩),(19,⟨true,.v (.ptr [vInt r.so,vInt r.bo,vInt r.pa,.sl (r.lv.map vInt),vInt r.da,vInt r.kn,vInt r.un])⟩),(167,⟨true,gA o⟩)] [] rfl rfl (fun _ _=>rfl) ?_ (by simp) ?_ ?_) ?_
 ·intro q hq
  simp only[List.mem_cons,List.not_mem_nil,or_false]at hq
  rcases hq with rfl | rfl | rfl | rfl<;>rfl
 ·simp[D.clos,D.closL,b8,own,gA]
 ·rw[hO];trivial
 simp only[iG,nx]
 refine jE ?_
 repeat refine sq ?_
 refine aS hΓ fun K' hK=>?_
 simp only[go_sem,hO,ae,h0,h1,h2,h3,h4]
 repeat (refine⟨ak,?_⟩)
 refine hK _ ?_
 clear K' hK
 simp only[go_sem]
 (show CW _ _ _ _)
 refine jE ?_
 repeat refine sq ?_
 refine aR ?_
 repeat refine sq ?_
 refine rx hΓ [5,17,19,21,172] [[5,0],[17,0],[19,0],[21,0],[23,0],[24,0],[26,0],[49,0],[124,0]] (fun K' hK=>by simp only[go_sem,hO,ae,h0,h1,h2,h3,h4];(repeat (refine⟨ak,?_⟩));exact hK _ (by simp only[go_sem,hO,ae,h0,h1,h2,h3,h4]) (by simp only[go_sem,hO,ae,h0,h1,h2,h3,h4]<;>rfl)) ?_
 repeat refine sq ?_
 refine aB (fun hb=>?_) fun hb=>?_
 ·repeat refine sq ?_
  refine aS hΓ fun K' hK=>?_
  simp only[go_sem,hO,ae,h0,h1,h2,h3,h4]
  repeat (refine⟨ak,?_⟩)
  refine hK _ ?_
  clear K' hK
  simp only[go_sem]
  refine bV ?_
  have dr:o.da>r.da:=by simpa using hb
  rw[if_pos dr]
  refine⟨rfl,?_⟩
  show cW _ [[0,1],[1,1],[2,1],[3,1],[4,1]] _
  simp only[cW,go_sem,h0,h1,h2,h3,h4,FO]
  simp[C7,jW]
 ·repeat refine sq ?_
  refine aJ ?_
  refine bV ?_
  simp only[go_sem]
  have dr:¬ o.da>r.da:=by simpa using hb
  rw[if_neg dr]
  refine⟨rfl,?_⟩
  show cW _ [[0,1],[1,1],[2,1],[3,1],[4,1]] _
  simp only[cW,go_sem,h0,h1,h2,h3,h4,FO]
end
noncomputable section
def fN:Option Rec->List D
 |some r=>tp r
 |none=>[.v (vInt 0),.v (vInt 0),.v (vInt 0),.nilsl,.v (vInt 0),.v (vInt 0),.v (vInt 0)]
def mz(rs:List Rec)(pa le day:Int)(s:Nat):Option Rec:=((cU rs pa [le]).take s).foldl (jb day) none
theorem abu{rs:List Rec}{pa le day:Int}{s:Nat}(h:s<(cU rs pa [le]).length):mz rs pa le day (s+1)=jb day (mz rs pa le day s) (cU rs pa [le])[s]:=by
 unfold mz
 rw[List.take_add_one,List.getElem?_eq_getElem h,List.foldl_append]
 rfl
theorem abv(rs:List Rec)(pa le day:Int):mz rs pa le day (cU rs pa [le]).length=eJ rs pa le day:=by
 unfold mz eJ
 rw[List.take_length]
def iv(x:Vw)(pa le day:Int):Lp where
 m:=7
 env:=fun Ls=>(List.range 37).map (dQ eAny [(5,⟨true,.v (.ptr [vInt day])⟩),(6,⟨true,.ref (Ls.getD 0 []) 0⟩),(8,⟨true,.ref (Ls.getD 1 []) 0⟩),(9,⟨true,.ref (Ls.getD 2 []) 0⟩),(17,⟨true,.clo (.func 193) [] (ko 3 pa [le] Ls)⟩)])
 fam:=fun Ls s=>[.box (fN none),.box (fN (mz x.rs pa le day s)),.box [.v (.bool (mz x.rs pa le day s).isSome)],.box [.ref (Ls.getD 4 []) 0],bC x (Ls.getD 5 []) (Ls.getD 6 []),.map 2 (bY x.bk),.map 0 (bL x.ds)]
 ps:=(p0 Tryz.f119).1.toList
 asg:=(p0 Tryz.f119).2.1
 body:=(p0 Tryz.f119).2.2
 n:=(cU x.rs pa [le]).length
 vals:=fun s=>[gA ((cU x.rs pa [le]).getD s zeroR)]
 st:=fun _=>none
 fu:=100
theorem aa8(f:Name->Name)(o:Option Rec):D.renL f (fN o)=fN o:=by cases o<;>rfl
theorem OT(o:Option Rec):de (fN o)=[]:=by cases o<;>rfl
theorem A7(p:Name->Bool)(o:Option Rec):D.closL p (fN o)=true:=by cases o<;>rfl
theorem Gr(x:Vw)(pa le day:Int)(hn:x.rs.Nodup):(iv x pa le day).Ok where
 len:=fun Ls s _=>rfl
 renE:=fun f Ls h=>by obtain⟨a,b,c,d,e,f,g,rfl⟩:=qh h;rfl
 renF:=fun f Ls s h=>by
  obtain⟨a,b,c,d,e,f,g,rfl⟩:=qh h
  simp only[iv,List.map_cons,List.map_nil,O.ren,aa8,D.renL,D.ren,bC,List.getD_cons_succ,List.getD_cons_zero]
 reach:=fun Ls s obj acc q h cM hd hF=>by
  obtain⟨a,b,c,d,e,f,g,rfl⟩:=qh h
  obtain⟨h1,h2,h3,h4,h5,h6,h7,_⟩:=hF
  have en:de (((iv x pa le day).env [a,b,c,d,e,f,g]).map (·.d))=[a,b,c,d]:=rfl
  rw[en]
  show dC obj (q+91+1+1+1+1+1+1+1+1+1) _ acc=_
  simp only[List.mem_cons,List.not_mem_nil,or_false,forall_eq_or_imp,forall_eq]at hd
  obtain⟨d1,d2,d3,d4,d5,d6,d7⟩:=hd
  simp only[List.nodup_cons,List.mem_cons,List.not_mem_nil,or_false,not_or,not_false_eq_true,List.nodup_nil,and_true]at cM
  obtain⟨⟨a1,a2,a3,a4,a5,a6⟩,⟨b1,b2,b3,b4,b5⟩,⟨c1,c2,c3,c4⟩,⟨e1,e2,e3⟩,⟨f1,f2⟩,g1⟩:=cM
  simp[dC,gD,h1,h2,h3,h4,h5,h6,h7,lY,de,lZ,bC,OT,d1,d2,d3,d4,d5,d6,d7,Ne.symm a1,Ne.symm a2,Ne.symm a3,Ne.symm a4,Ne.symm a5,Ne.symm a6,Ne.symm b1,Ne.symm b2,Ne.symm b3,Ne.symm b4,Ne.symm b5,Ne.symm c1,Ne.symm c2,Ne.symm c3,Ne.symm c4,Ne.symm e1,Ne.symm e2,Ne.symm e3,Ne.symm f1,Ne.symm f2,Ne.symm g1]
 closE:=fun dom Ls h hd=>by
  obtain⟨a,b,c,d,e,f,g,rfl⟩:=qh h
  have h1:=hd a (by simp)
  have h2:=hd b (by simp)
  have h3:=hd c (by simp)
  have h4:=hd d (by simp)
  simp[iv,List.range,List.range.loop,dQ,D.closL,D.clos,eAny,h1,h2,h3,h4,ko]
 closF:=fun dom Ls s h hd o ho=>by
  obtain⟨a,b,c,d,e,f,g,rfl⟩:=qh h
  have h1:=hd e (by simp)
  have h2:=hd f (by simp)
  have h3:=hd g (by simp)
  simp only[iv,List.mem_cons,List.not_mem_nil,or_false]at ho
  rcases ho with rfl | rfl | rfl | rfl | rfl | rfl | rfl<;>simp[O.clos,D.closL,D.clos,bC,A7,h1,h2,h3]
 psz:=fun Ls h=>by rfl
 args:=fun s=>by rfl
 fuel:=(show (100:Nat)<=2000 by decide)
 vnam:=fun _=>rfl
 vcl:=fun _ _=>rfl
 vren:=fun _ _=>rfl
 inj:=G8 (hn.filter _)
theorem aby(x:Vw)(pa le day:Int):BL (iv x pa le day) (ko 3 pa [le]) where
 ren:=fun f Ls h=>by obtain⟨a,b,c,d,e,f,g,rfl⟩:=qh h;rfl
 clo:=fun dom Ls h hd=>by
  obtain⟨a,b,c,d,e,f,g,rfl⟩:=qh h
  have h4:=hd d (by simp)
  simp[D.closL,D.clos,h4,ko]
 reach:=fun Ls s obj R q h cM hF h0=>by
  obtain⟨a,b,c,d,e,f,g,rfl⟩:=qh h
  obtain⟨h1,h2,h3,h4,h5,h6,h7,_⟩:=hF
  have en:de (((iv x pa le day).env [a,b,c,d,e,f,g]).map (·.d))=[a,b,c,d]:=rfl
  have ec:de (ko 3 pa [le] [a,b,c,d,e,f,g])=[d]:=rfl
  rw[ec]
  show dC obj (q+90+1+1+1+1+1+1+1+1+1+1+1) _ []=_
  simp only[List.nodup_cons,List.mem_cons,List.not_mem_nil,or_false,not_or,not_false_eq_true,List.nodup_nil,and_true]at cM
  obtain⟨⟨r1,r2,r3,r4,r5,r6,r7⟩,⟨a1,a2,a3,a4,a5,a6⟩,⟨b1,b2,b3,b4,b5⟩,⟨c1,c2,c3,c4⟩,⟨e1,e2,e3⟩,⟨f1,f2⟩,g1⟩:=cM
  simp[dC,gD,h0,h1,h2,h3,h4,h5,h6,h7,Lp.rc,lY,en,de,lZ,bC,OT,Ne.symm r1,Ne.symm r2,Ne.symm r3,Ne.symm r4,Ne.symm r5,Ne.symm r6,Ne.symm r7,Ne.symm a1,Ne.symm a2,Ne.symm a3,Ne.symm a4,Ne.symm a5,Ne.symm a6,Ne.symm b1,Ne.symm b2,Ne.symm b3,Ne.symm b4,Ne.symm b5,Ne.symm c1,Ne.symm c2,Ne.symm c3,Ne.symm c4,Ne.symm e1,Ne.symm e2,Ne.symm e3,Ne.symm f1,Ne.symm f2,Ne.symm g1]
theorem abw(day:Int)(o:Option Rec)(r:Rec):jb day o r=if decide (r.da<=day)&&(!o.isSome||decide (r.da>=(o.getD zeroR).da))then some r else o:=by
 unfold jb
 cases o<;>rfl
theorem abx(x:Vw)(pa le day:Int)(hn:x.rs.Nodup):aN Tryz.prog yid (iv x pa le day).y.toSpec:=by
 refine Lp.y_sound (Gr x pa le day hn) fun s hs _=>?_
 have hΓ:=@fE Tryz.prog
 have il:s<(cU x.rs pa [le]).length:=hs
 have EW:(iv x pa le day).fam (LR 7) s=[.box (fN none),.box (fN (mz x.rs pa le day s)),.box [.v (.bool (mz x.rs pa le day s).isSome)],.box [.ref [4,1] 0],bC x [5,1] [6,1],.map 2 (bY x.bk),.map 0 (bL x.ds)]:=rfl
 have sO:(iv x pa le day).fam (LR 7) (s+1)=[.box (fN none),.box (fN (mz x.rs pa le day (s+1))),.box [.v (.bool (mz x.rs pa le day (s+1)).isSome)],.box [.ref [4,1] 0],bC x [5,1] [6,1],.map 2 (bY x.bk),.map 0 (bL x.ds)]:=rfl
 have dq:(iv x pa le day).st s=none:=rfl
 have hv:(iv x pa le day).vals s=[gA ((cU x.rs pa [le])[s])]:=by rw[<-cz (z:=zeroR) il];rfl
 have hm:(iv x pa le day).m=7:=rfl
 rw[hm,EW,sO,dq,hv,abu il,abw]
 generalize (cU x.rs pa [le])[s]=r
 generalize mz x.rs pa le day s=o
 obtain⟨c3,e0,e1⟩:∃ c3,(c3=.nilsl\/∃ l,c3=.v (.sl l))/\fN o=[.v (vInt (o.getD zeroR).so),.v (vInt (o.getD zeroR).bo),.v (vInt (o.getD zeroR).pa),c3,.v (vInt (o.getD zeroR).da),.v (vInt (o.getD zeroR).kn),.v (vInt (o.getD zeroR).un)]:=by
  cases o with
  |none=>exact⟨_,.inl rfl,rfl⟩
  |some q=>exact⟨_,.inr ⟨_,rfl⟩,rfl⟩
 have e2:∀ p,D.clos p c3=true:=fun p=>by rcases e0 with rfl | ⟨l,rfl⟩<;>rfl
 generalize iM:[O.box (fN none),.box (fN o),.box [.v (.bool o.isSome)],.box [.ref [4,1] 0],bC x [5,1] [6,1],.map 2 (bY x.bk),.map 0 (bL x.ds)]=os
 have hO:∀ hs,ck [0] (b8 [0] hs) (aX os)=True:=by
  subst iM
  refine fun hs=>eq_true (o8 ?_ hs)
  intro o ho dom hd
  simp only[List.mem_cons,List.not_mem_nil,or_false]at ho
  rcases ho with rfl | rfl | rfl | rfl | rfl | rfl | rfl<;>simp[O.clos,D.closL,D.clos,bC,hd,A7]
 have ae:∀ hs cs b,(∀ p,D.closL p cs=true)->ck [0] (b8 [0] hs) (fun nm=>if nm=[2,1]then some (.box [.v (.bool b)])else if nm=[1,1]then some (.box cs)else aX os nm)=True:=fun hs cs b jy=>
  eq_true (tJ (nm:=[2,1]) (o:=.box [.v (.bool b)]) rfl (tJ (nm:=[1,1]) (o:=.box cs) (by simp[O.clos,jy]) (by rw[hO];trivial)))
 have h0:aX os [0,1]=some (.box (fN none)):=by subst iM;rfl
 have h1:aX os [1,1]=some (.box (fN o)):=by subst iM;rfl
 have h2:aX os [2,1]=some (.box [.v (.bool o.isSome)]):=by subst iM;rfl
 have h3:aX os [3,1]=some (.box [.ref [4,1] 0]):=by subst iM;rfl
 have h4:aX os [4,1]=some (bC x [5,1] [6,1]):=by subst iM;rfl
 have h5:aX os [5,1]=some (.map 2 (bY x.bk)):=by subst iM;rfl
 have h6:aX os [6,1]=some (.map 0 (bL x.ds)):=by subst iM;rfl
 generalize hH:aX os=H at *
 clear iM hH
 rw[e1]at h1
 have nx:p0 Tryz.f119=(_,_,_):=rfl
 refine vz (BO 37 [0] H [(5,⟨true,.v (.ptr [vInt day])⟩),(8,⟨true,.ref [1,1] 0⟩),(9,⟨true,.ref [2,1] 0⟩),(18,⟨true,gA r⟩)] [] rfl rfl (fun _ _=>rfl) ?_ (by simp) ?_ ?_) ?_
 ·intro q hq
  simp only[List.mem_cons,List.not_mem_nil,or_false]at hq
  rcases hq with rfl | rfl | rfl | rfl<;>rfl
 ·simp[D.clos,D.closL,b8,own,gA]
 ·rw[hO];trivial
 simp only[iv,nx]
 refine jE ?_
 repeat refine sq ?_
 refine aS hΓ fun K' hK=>?_
 simp only[go_sem,hO,h0,h1,h2,h3,h4,e2]
 repeat (refine⟨ak,?_⟩)
 refine hK _ ?_
 clear K' hK
 simp only[go_sem]
 (show CW _ _ _ _)
 refine jE ?_
 repeat refine sq ?_
 refine aR ?_
 repeat refine sq ?_
 refine rx hΓ [5,8,9,10,33] [[5,0],[8,0],[9,0],[10,0]] (fun K' hK=>by simp only[go_sem,hO,h0,h1,h2,h3,h4,e2];(repeat (refine⟨ak,?_⟩));exact hK _ (by simp only[go_sem,hO,h0,h1,h2,h3,h4,e2]) (by simp only[go_sem,hO,h0,h1,h2,h3,h4,e2]<;>rfl)) ?_
 repeat refine sq ?_
 refine aB (fun hb=>?_) fun hb=>?_
 ·repeat refine sq ?_
  refine aS hΓ fun K' hK=>?_
  simp only[go_sem,hO,h0,h1,h2,h3,h4,e2]
  repeat (refine⟨ak,?_⟩)
  refine hK _ ?_
  clear K' hK
  simp only[go_sem]
  refine bV ?_
  rw[if_pos (by rw[<-Bool.and_eq_true];exact hb)]
  refine⟨rfl,?_⟩
  show cW _ [[0,1],[1,1],[2,1],[3,1],[4,1],[5,1],[6,1]] _
  simp only[cW,go_sem,h0,h1,h2,h3,h4,h5,h6]
  simp[fN,tp]
 ·repeat refine sq ?_
  refine aJ ?_
  refine bV ?_
  simp only[go_sem]
  rw[if_neg (by rw[<-Bool.and_eq_true,hb];decide)]
  refine⟨rfl,?_⟩
  show cW _ [[0,1],[1,1],[2,1],[3,1],[4,1],[5,1],[6,1]] _
  simp only[cW,go_sem,h0,h1,h2,h3,h4,h5,h6,e1]
  first | done | exact⟨trivial,trivial⟩
def Jg(p:Name)(H:Name->Option O):List Name->List O->Prop
 |x::xs,o::os=>(own p x=true\/H x=some o)/\Jg p H xs os
 |_,_=>True
theorem HS{p:Name}{H:Name->Option O}{nm:Name}(hn:own p nm=false):∀ {Ls:List Name} {F:List O} {obj:Name->Option O},Jg p H Ls F->obj nm=H nm->eo Ls F obj nm=H nm
 |[],_,_,_,h=>by simpa[eo]using h
 |x::xs,[],_,_,h=>by simpa[eo]using h
 |x::xs,o::os,obj,hk,h=>by
  simp only[eo]
  refine HS hn hk.2 ?_
  by_cases e:nm=x
  ·subst e
   rw[aT]
   rcases hk.1 with h1 | h1
   ·rw[hn]at h1;cases h1
   ·exact h1.symm
  ·rw[bc _ _ _ e];exact h
def K24:List (Nat×Spec):=[(164,S164)]
theorem adl:KS K24:=tc DI<|tn
attribute [go_sem] K24
def PS:VSpec:=v2 np iI (fun x _ _=>nW x/\x.rs.Nodup) (fun x f day=>.tup [mX (eJ x.rs f.pa f.le day),.v (.bool (eJ x.rs f.pa f.le day).isSome)]) none
def S119:Spec:=PS.toSpec
attribute [go_sem] PS S119
set_option maxHeartbeats 8000000 in
theorem LX:aN Tryz.prog 119 S119:=by
 refine yx (rs:=[.cell 6 36,.tmp 7]) Tryz.func119 Tryz.ntmps119 (by rfl) (by kernel_rfl) (by decide) (fun _ _ _=>by first | rfl | exact lU _ _ | simp[D.clos,D.closL,lU]) ⟨_,rfl,lb rfl,fun x f day hp H h0 h1 h2 hO ae=>?_⟩
 have hP:=fU
 simp only[np,iI,qQ,bC,dm,List.map_cons,List.map_nil,Nat.zero_add,Option.map_some,Option.map_none]at h0 |-
 have hΓ:=adl
 obtain⟨hv,cM⟩:=hp
 obtain⟨pa,le⟩:=f
 repeat refine sq ?_
 refine rx hΓ [0,4,5,6] [[4,0],[5,0],[6,0]] (fun K' hK=>by simp only[go_sem,hO,ae,h0,h1,h2];(repeat (refine⟨ak,?_⟩));exact hK _ (by simp only[go_sem,hO,ae,h0,h1,h2]) (by simp only[go_sem,hO,ae,h0,h1,h2]<;>rfl)) ?_
 refine bP (el 4 (.ref [4,0] 0) (by simp only[go_sem]) (by simp only[go_sem]) [0,4,5,6] [[4,0],[5,0],[6,0]] ?_ rfl) ?_
 ·simp only[go_sem,hO,ae,h0,h1,h2]
 simp only[go_sem,hO,ae,h0,h1,h2]
 repeat refine sq ?_
 refine rx hΓ [0,4,5,6,8] [[4,0],[5,0],[6,0],[8,0]] (fun K' hK=>by simp only[go_sem,hO,ae,h0,h1,h2];(repeat (refine⟨ak,?_⟩));exact hK _ (by simp only[go_sem,hO,ae,h0,h1,h2]) (by simp only[go_sem,hO,ae,h0,h1,h2]<;>rfl)) ?_
 repeat refine sq ?_
 refine rx hΓ [0,4,5,6,8,9] [[4,0],[5,0],[6,0],[8,0],[9,0]] (fun K' hK=>by simp only[go_sem,hO,ae,h0,h1,h2];(repeat (refine⟨ak,?_⟩));exact hK _ (by simp only[go_sem,hO,ae,h0,h1,h2]) (by simp only[go_sem,hO,ae,h0,h1,h2]<;>rfl)) ?_
 repeat refine sq ?_
 refine rx hΓ [5,6,8,9,17] [[5,0],[6,0],[8,0],[9,0],[3,0,17,0]] (fun K' hK=>by simp only[go_sem,hO,ae,h0,h1,h2];(repeat (refine⟨ak,?_⟩));exact hK _ (by simp only[go_sem,hO,ae,h0,h1,h2]) (by simp only[go_sem,hO,ae,h0,h1,h2]<;>rfl)) ?_
 refine bP (el 5 (.ref [5,0] 0) (by simp only[go_sem]) (by simp only[go_sem]) [5,6,8,9,17] [[5,0],[6,0],[8,0],[9,0],[3,0,17,0]] ?_ rfl) ?_
 ·simp only[go_sem,hO,ae,h0,h1,h2]
 simp only[go_sem,hO,ae,h0,h1,h2]
 repeat refine sq ?_
 refine aR ?_
 repeat refine sq ?_
 have gK:aN Tryz.prog 193 ((iv x pa le day).itC (ko 3 pa [le])).toSpec:=H6 (Gr x pa le day cM) (fun _=>rfl) (abx x pa le day cM) hv.rs hv.rn rfl (fun _=>rfl) (j:=3) (jc:=4) (show 3<7 by decide) rfl rfl
 refine OO (Gr x pa le day cM) (aby x pa le day) (f:=193) 30 31 (Ls:=[[6,0],[8,0],[9,0],[3,0,17,0],[0,1],[1,1],[2,1]]) rfl rfl (by decide) gK rfl rfl rfl rfl rfl rfl (by decide) (show ([30,0]:Name)∉[[6,0],[8,0],[9,0],[3,0,17,0],[0,1],[1,1],[2,1]]by decide) ⟨rfl,rfl,rfl,rfl,h0,h1,h2,trivial⟩ fun o=>?_
 obtain⟨g1,g2⟩:=Lp.go_e (r:=iv x pa le day) (fun _=>rfl)
 have g3:(iv x pa le day).fam [[6,0],[8,0],[9,0],[3,0,17,0],[0,1],[1,1],[2,1]] (iv x pa le day).e=[.box (fN none),.box (fN (eJ x.rs pa le day)),.box [.v (.bool (eJ x.rs pa le day).isSome)],.box [.ref [0,1] 0],bC x [1,1] [2,1],.map 2 (bY x.bk),.map 0 (bL x.ds)]:=by
  rw[g1,<-abv];rfl
 rw[g2,g3]
 simp only[y9,jM]
 refine bV ?_
 show CL Tryz.prog (_::_) _ _
 obtain⟨cs,jy,cp⟩:∃ cs,cs=fN (eJ x.rs pa le day)/\∀ p,D.closL p cs=true:=⟨_,rfl,fun p=>A7 p _⟩
 refine bP (eh.toM (BO 37 [0] H [(6,⟨true,.ref [6,0] 0⟩),(8,⟨true,.ref [8,0] 0⟩),(9,⟨true,.ref [9,0] 0⟩)] [([6,0],.box (fN none)),([8,0],.box (fN (eJ x.rs pa le day))),([9,0],.box [.v (.bool (eJ x.rs pa le day).isSome)])] rfl rfl (fun nm hn=>?_) ?_ ?_ ?_ (by rw[hO];trivial))) ?_
 ·have e1:nm≠[30,0]:=by rintro rfl;cases hn
  show upd _ [30,0] _ nm=_
  rw[bc _ _ _ e1]
  exact HS hn ⟨.inl rfl,.inl rfl,.inl rfl,.inl rfl,.inr h0,.inr h1,.inr h2,trivial⟩ (by simp[bt,hn])
 ·intro q hq
  simp only[List.mem_cons,List.not_mem_nil,or_false]at hq
  rcases hq with rfl | rfl | rfl<;>rfl
 ·intro q hq
  simp only[List.mem_cons,List.not_mem_nil,or_false]at hq
  rcases hq with rfl | rfl | rfl<;>rfl
 ·simp[O.clos,D.closL,D.clos,A7,b8]
 clear jy cp
 generalize eJ x.rs pa le day=o
 rcases o with _ | r
 ·simp only[fN,tp,Option.isSome]
  repeat refine sq ?_
  refine dx hΓ hP [[],[],[0],[0,1,2]] [6,7] [[6,0]] (by kernel_rfl) (fun K' hK=>by simp only[go_sem,hO,h0,h1,h2];(repeat (refine⟨ak,?_⟩));(first | refine⟨by rfl,?_⟩ | skip);exact hK _ (by simp only[go_sem,hO,h0,h1,h2]) (by simp only[go_sem,hO,h0,h1,h2]<;>rfl)) ?_
  refine aC ?_
  simp only[go_sem,hO,h0,h1,h2]
  rfl
 ·simp only[fN,tp,Option.isSome]
  repeat refine sq ?_
  refine dx hΓ hP [[],[],[0],[0,1,2]] [6,7] [[6,0]] (by kernel_rfl) (fun K' hK=>by simp only[go_sem,hO,h0,h1,h2];(repeat (refine⟨ak,?_⟩));(first | refine⟨by rfl,?_⟩ | skip);exact hK _ (by simp only[go_sem,hO,h0,h1,h2]) (by simp only[go_sem,hO,h0,h1,h2]<;>rfl)) ?_
  refine aC ?_
  simp only[go_sem,hO,h0,h1,h2]
  rfl
end
set_option maxHeartbeats 8000000
noncomputable section
theorem aa0{P:Program}{Γ:FuncId->Option Spec}(hΓ:∀ f s,Γ f=some s->aN P f s){id:Nat}{l:List Oper}{c:Code}{r:List Code}{σ:S}{K:Exit->S->Prop}(ks:List Nat)(ns:List Name)
 (h:∀ K':S->Prop,(∀ σ',iu ks ns σ'->CL P (c::r) (iH ks ns σ') K->K' σ')->mL P Γ l.toArray l σ K'):CL P (.region id l.toArray false::c::r) σ K:=
 OA hΓ (h _ fun σ' hc hy=>FY ks ns hc hy)
theorem It{P:Program}{Γ:FuncId->Option Spec}{ops:Array Oper}{o:Oper}{r:List Oper}{σ:S}{K:S->Prop}(h1:lj P Γ ops σ o)(h2:mL P Γ ops r (bx P Γ ops σ o) K):mL P Γ ops (o::r) σ K:=.step h1 h2
def fI{α:Type}(p:α->Bool)(l:List α):List α:=l.filter fun d=>!p d
def lI{α:Type}(enc:α->V)(z:V)(p:α->Bool)(l:List α):List V:=(fI p l).map enc++List.replicate (l.length-(fI p l).length) z
def Qi:Ret:=⟨0,0,0,[],0,0,0,0⟩
def nY:Sig:=⟨0,0,0,0,0,0,0⟩
def K25:List (Nat×Spec):=[(162,S162)]
theorem adk:KS K25:=tc LV<|tn
attribute [go_sem] K25
@[go_sem] def P186:PSpec:=p2 iS pt (fun _ _=>True) (fun s k=>.bool (!bG s.kn s.un k)) true
@[go_sem] def ab3:Spec:=P186.toSpec
theorem R2:aZ Tryz.prog 186 P186:=by
 refine fD (rs:=[.tmp 3]) Tryz.func186 Tryz.ntmps186 fun s k hp hw=>?_
 simp only[pt,iS,encS]at hw |-
 have hΓ:=adk
 repeat refine sq ?_
 refine rx hΓ [1,2] [[2,0]] (fun K' hK=>by simp only[go_sem];exact aq) ?_
 repeat refine sq ?_
 refine rx hΓ [3] [] (fun K' hK=>by simp only[go_sem];exact aq) ?_
 refine aC ?_
 simp only[go_sem]
 all_goals exact e8
def I1(g:Nat×Int)(x:Rec):Bool:=x.so==g.2
def I0(g:Nat×Int)(x:Ret):Bool:=x.so==g.2
def eN(g:Nat×Int)(x:Sig):Bool:=if g.1=186 then !bG x.kn x.un g.2 else x.so==g.2
def TM(g:Nat×Int):Prop:=g.1=88
def TL(g:Nat×Int):Prop:=g.1=90
def pb(g:Nat×Int):Prop:=g.1=92\/g.1=186
def KDR:List (Nat×Spec):=[]
attribute [go_sem] KDR
def KDT:List (Nat×Spec):=[]
attribute [go_sem] KDT
def KDS:List (Nat×Spec):=[(92,S92),(186,ab3)]
theorem acw:KS KDS:=tc RJ.sound<|tc R2.sound<|tn
attribute [go_sem] KDS
abbrev TYR:=Rec
abbrev TYT:=Ret
abbrev yj:=Sig
def Z'(obj:Name->Option O)(_:Name):List D->R
 |[.msl nm k,.clo (.func g) [] [.v (.ptr [.int .i64 q])]]=>match obj nm with
  |some (.arr 7 L)=>⟨k=L.length/\L.length<1000000/\(L.map kU).map encR=L/\TM (g,q),.v (.sl ((fI (I1 (g,q)) (L.map kU)).map encR)),upd obj nm (some (.farr 7 (lI encR (encR zeroR) (I1 (g,q)) (L.map kU))))⟩
  |_=>.bad obj
 |_=>.bad obj
attribute [go_sem] Z'
def Z9(obj:Name->Option O)(_:Name):List D->R
 |[.msl nm k,.clo (.func g) [] [.v (.ptr [.int .i64 q])]]=>match obj nm with
  |some (.arr 8 L)=>⟨k=L.length/\L.length<1000000/\(L.map mr).map cT=L/\TL (g,q),.v (.sl ((fI (I0 (g,q)) (L.map mr)).map cT)),upd obj nm (some (.farr 8 (lI cT (cT Qi) (I0 (g,q)) (L.map mr))))⟩
  |_=>.bad obj
 |_=>.bad obj
attribute [go_sem] Z9
def GR:FuncId->Option Spec:=tbl KDS
theorem Qa:∀ f s,GR f=some s->aN Tryz.prog f s:=acw
theorem Ji{g:Nat×Int}(h:pb g):∃ s,GR g.1=some s/\(¬ g.1=1000000000)/\(∀ obj t (x:yj),s.app obj t [.v (encS x),.v (.ptr [vInt g.2])]=⟨True,.v (.bool (eN g x)),obj⟩)/\
 ∀ obj t (x:yj),s.app obj t [.agg ((encS x).cells.map .v),.v (.ptr [vInt g.2])]=⟨True,.v (.bool (eN g x)),obj⟩:=by
 obtain⟨g,k⟩:=g
 rcases h with rfl | rfl
 all_goals exact⟨_,rfl,(by simp),fun obj t x=>by simp only[go_sem,eN];try rfl,fun obj t x=>by simp only[go_sem,eN,encS];try rfl⟩
theorem Gw:(#[29]:Array Nat).getD 0 0=29:=rfl
theorem Qj:((br Tryz.prog 81).bind fun z=>eA (jo z))=some (encS nY):=by rw[QK];rfl
theorem F3{obj:Name->Option O}{nm:Name}{k i:Nat}{L:List V}(h:obj nm=some (.arr 7 L))(hk:k=L.length)(hi:i<L.length):
 lP Tryz.prog obj 29 29 (.msl nm k) (.v (vInt i))=⟨True,.any,upd obj nm (some (.arr 7 (L.take i++List.replicate (L.length-i) (encS nY))))⟩:=by
 unfold lP
 simp only[Hu,h,Qj,ai]
 congr 1
 simp only[eq_iff_iff,iff_true]
 exact⟨hk,by omega,hi,trivial,rfl,rfl,trivial,by decide⟩
theorem Ra:aZ Tryz.prog 181 (p2 (fW iS) qt (fun _ g=>pb g) (fun l g=>vInt (dE (eN g) l)) true):=by
 refine fD (rs:=[.tmp 4]) Tryz.func181 Tryz.ntmps181 fun l g hp hw=>?_
 simp only[qt,iS,fW]at hw |-
 have hΓ:=Qa
 have hl:l.length<=maxLen:=by have:=hw.1.1;simpa using this
 obtain⟨s_,hs,hy,ha,_⟩:=Ji hp
 simp only[encS]at ha
 repeat refine sq ?_
 refine rx hΓ [0,1] [] (fun K' hK=>by simp only[go_sem];exact aq) ?_
 repeat refine sq ?_
 refine rx hΓ [0,1,7,8] [] (fun K' hK=>by simp only[go_sem];exact aq) ?_
 repeat refine sq ?_
 refine aR ?_
 repeat refine sq ?_
 refine cr (fun s:Nat=>[(8,⟨true,.v (vInt s)⟩)]) (fun s=>[]) (fun s=>s<=l.length/\∀ k (h:k<l.length),k<s->eN g l[k]=false) (fun s=>l.length-s) 0 ?_ ?_ ?_ ?_
 ·exact⟨Nat.zero_le _,by simp⟩
 ·rfl
 ·rfl
 rintro i ⟨hi,hR⟩
 simp only[go_sem]
 repeat refine sq ?_
 refine rx hΓ [0,1,7,8,9] [] (fun K' hK=>by simp only[go_sem];exact aq) ?_
 repeat refine sq ?_
 refine aB (fun hb=>?_) fun hb=>?_
 ·have ab:i<l.length:=by simpa using hb
  have ao:(i:Int)<l.length:=by omega
  clear hb
  repeat refine sq ?_
  refine aJ ?_
  repeat refine sq ?_
  refine aR ?_
  repeat refine sq ?_
  refine rx hΓ [0,1,5,7,8] [] (fun K' hK=>by simp only[go_sem,ah ab,ai,aj,ao];exact aq) ?_
  repeat refine sq ?_
  refine rx hΓ [0,1,5,7,8,16] [] (fun K' hK=>by simp only[go_sem,ah ab,ai,aj,ao,hs,hy,ha];exact aq) ?_
  repeat refine sq ?_
  refine aB (fun hb=>?_) fun hb=>?_
  ·repeat refine sq ?_
   refine rx hΓ [4] [] (fun K' hK=>by simp only[go_sem,ah ab,ai,aj,ao];exact aq) ?_
   refine aC ?_
   simp only[go_sem]
   rw[sc (p:=eN g) ab (by simpa using hb) hR]
  ·repeat refine sq ?_
   refine aJ ?_
   refine bV ?_
   simp only[go_sem]
   refine kp [0,1,7,8] [] ?_
   repeat refine sq ?_
   refine aS hΓ fun K' hK=>?_
   simp only[go_sem,ah ab,ai,aj,ao]
   repeat (refine⟨ak,?_⟩)
   refine hK _ ?_
   clear K' hK
   simp only[go_sem]
   refine⟨i+1,⟨ab,?_⟩,by(show l.length-(i+1)<l.length-i;omega),?_⟩
   ·intro k hk dH
    rcases Nat.lt_succ_iff_lt_or_eq.1 dH with h5 | rfl
    ·exact hR k hk h5
    ·simpa using hb
   refine bg [0,1,7,8] [] ?_ ?_<;>simp only[go_sem,a7 ab hl,bb]
 ·have bF:i=l.length:=by
   have :¬ (i:Int)<l.length:=by simpa using hb
   omega
  clear hb
  subst bF
  repeat refine sq ?_
  refine bR ?_
  simp only[go_sem]
  refine kp [] [] ?_
  repeat refine sq ?_
  refine rx hΓ [4] [] (fun K' hK=>by simp only[go_sem];exact aq) ?_
  refine aC ?_
  simp only[go_sem]
  rw[wS (p:=eN g) fun k hk=>hR k hk hk]
set_option maxRecDepth 10000 in
theorem QD{g:Nat×Int}(aa:pb g){H:Name->Option O}{l:List yj}(hl:l.length<1000000)(qK:H [0,1]=some (.arr 7 (l.map encS)))(dN:∀ hs,ck [0] (b8 [0] hs) H=True)(ae:∀ hs sz L,ck [0] (b8 [0] hs) (upd H [0,1] (some (.arr sz L)))=True)(bq:∀ hs sz L,ck [0] (b8 [0] hs) (upd H [0,1] (some (.farr sz L)))=True):
 ∃ c,Tryz.f91.body=some c/\CL Tryz.prog [c] (bt 42 [0] H [(0,⟨true,.msl [0,1] l.length⟩),(1,⟨true,.clo (.func g.1) [] [.v (.ptr [vInt g.2])]⟩)] []) (fun e σ=>(e=.normal\/e=.ret)/\(σ.env 4).c=true/\
   (σ.env 4).d=.v (.sl ((fI (eN g) l).map encS))/\σ.obj [0,1]=some (.farr 7 (lI encS (encS nY) (eN g) l))):=by
 obtain⟨sG,hs,hg,_,hp⟩:=Ji aa
 obtain⟨Γ,sI,hΓ,hs,hI,hi⟩:∃ (Γ:FuncId->Option Spec) (sI:Spec),(∀ f s,Γ f=some s->aN Tryz.prog f s)/\Γ g.1=some sG/\Γ 181=some sI/\
  ∀ (obj:Name->Option O) (t:Name),obj [0,1]=some (.arr 7 (l.map encS))->sI.app obj t [.msl [0,1] l.length,.clo (.func g.1) [] [.v (.ptr [vInt g.2])]]=⟨True,.v (vInt (dE (eN g) l)),obj⟩:=by
  refine⟨fun f=>if f=181 then some (p2 (fW iS) qt (fun _ g=>pb g) (fun l g=>vInt (dE (eN g) l)) true).toSpec else GR f,_,fun f s h=>?_,?_,rfl,fun obj t e=>?_⟩
  ·dsimp only at h
   split at h
   ·rename_i e;cases h;subst e;exact Ra.sound
   ·exact Qa _ _ h
  ·dsimp only
   rw[if_neg (by intro e;have h':=aa;unfold pb at h';simp[e]at h')];exact hs
  ·have ff:pb (g.1,g.2):=aa
   simp only[go_sem,e,ff,List.length_map,FN]
 generalize vj:lI encS (encS nY) (eN g) l=XX
 generalize hpg:eN g=p at *
 simp only[encS,V.cells,List.map_cons,List.map_nil]at hp
 refine⟨_,rfl,?_⟩
 have hm:l.length<=maxLen:=by unfold maxLen;omega
 repeat refine sq ?_
 refine rx hΓ [0,1] [] (fun K' hK=>by simp only[go_sem,dN];(repeat (refine⟨ak,?_⟩));exact hK _ (by simp only[go_sem,dN]) (by simp only[go_sem,dN]<;>rfl)) ?_
 repeat refine sq ?_
 refine rx hΓ [0,1,5] [] (fun K' hK=>by simp only[go_sem,dN,hI,hi,qK,implies_true];(repeat (refine⟨ak,?_⟩));exact hK _ (by simp only[go_sem,dN,hI,hi,qK,implies_true]) (by simp only[go_sem,dN,hI,hi,qK,implies_true]<;>rfl)) ?_
 repeat refine sq ?_
 refine rx hΓ [0,1,5,12] [] (fun K' hK=>by simp only[go_sem,dN];(repeat (refine⟨ak,?_⟩));exact hK _ (by simp only[go_sem,dN]) (by simp only[go_sem,dN]<;>rfl)) ?_
 repeat refine sq ?_
 refine aB (fun hb=>?_) fun hb=>?_
 ·repeat refine sq ?_
  refine rx hΓ [4] [] (fun K' hK=>by simp only[go_sem,dN];(repeat (refine⟨ak,?_⟩));exact hK _ (by simp only[go_sem,dN]) (by simp only[go_sem,dN]<;>rfl)) ?_
  refine bP (el 4 (.msl [0,1] l.length) (by simp only[go_sem]) (by simp only[go_sem,qK,List.length_map]) [4] [] ?_ rfl) ?_
  ·simp only[go_sem,qK,bq]
  simp only[go_sem,qK]
  refine aC ?_
  simp only[go_sem,qK]
  have dr:dE p l= -1:=by simpa using hb
  have eG:∀ d∈l,p d=false:=by
   unfold dE at dr
   split at dr
   ·omega
   ·rename_i hn
    intro d hd
    cases mc:p d with
    |false=>rfl
    |true=>exact(hn (List.any_eq_true.2 ⟨d,hd,mc⟩)).elim
  have hk:fI p l=l:=List.filter_eq_self.2 fun d hd=>by rw[eG d hd];rfl
  have Ap:XX=l.map encS:=by rw[<-vj];unfold lI;rw[hk];simp
  rw[hk,Ap]
  exact⟨.inr trivial,rfl,rfl⟩
 have hf:l.findIdx p<l.length:=by
  have dr:¬ dE p l= -1:=by simpa using hb
  unfold dE at dr
  split at dr
  ·rename_i iV
   exact List.findIdx_lt_length_of_exists (by obtain⟨y,hy,hp⟩:=List.any_eq_true.1 iV;exact⟨y,hy,hp⟩)
  ·exact(dr rfl).elim
 have qG:dE p l=(l.findIdx p:Int):=by unfold dE;rw[if_pos (List.any_eq_true.2 ⟨_,List.getElem_mem hf,List.findIdx_getElem (w:=hf)⟩)]
 rw[qG]
 clear hb qG hi hI
 have XC:p (l[l.findIdx p])=true:=List.findIdx_getElem (w:=hf)
 have ME:∀ j (h:j<l.length),j<l.findIdx p->p l[j]=false:=fun j h hj=>by simpa using List.not_of_lt_findIdx hj
 generalize l.findIdx p=f at *
 repeat refine sq ?_
 refine aJ ?_
 repeat refine sq ?_
 refine rx hΓ [0,1,5,6] [] (fun K' hK=>by simp only[go_sem,dN,a7 hf hm,bb];(repeat (refine⟨ak,?_⟩));exact hK _ (by simp only[go_sem,dN,a7 hf hm,bb]) (by simp only[go_sem,dN,a7 hf hm,bb]<;>rfl)) ?_
 repeat refine sq ?_
 refine aR ?_
 repeat refine sq ?_
 refine ON (fun x:Nat×Nat×List yj=>upd H [0,1] (some (.arr 7 (x.2.2.map encS)))) (fun x=>[(5,⟨true,.v (vInt x.1)⟩),(6,⟨true,.v (vInt x.2.1)⟩)]) (fun x=>[]) (fun x=>x.1<x.2.1/\x.2.1<=l.length/\x.2.2.length=l.length/\x.2.2.take x.1=fI p (l.take x.2.1)/\x.2.2.drop x.2.1=l.drop x.2.1) (fun x=>l.length-x.2.1) (f,f+1,l) ?_ ?_ ?_ ?_ ?_
 ·refine⟨(show f<f+1 by omega),hf,rfl,?_,rfl⟩
  show l.take f=fI p (l.take (f+1))
  unfold fI
  rw[List.take_add_one,List.getElem?_eq_getElem hf,List.filter_append]
  simp only[Option.toList_some,List.filter_cons,XC,Bool.not_true,Bool.false_eq_true,if_false,List.filter_nil,List.append_nil]
  rw[List.filter_eq_self.2]
  intro d hd
  obtain⟨j,hj,rfl⟩:=List.getElem_of_mem hd
  have fy:j<f:=by simp at hj;omega
  rw[List.getElem_take,ME j (by omega) fy]
  rfl
 ·congr 1
  rw[<-qK]
  funext x
  by_cases e:x=[0,1]
  ·subst e;rw[aT]
  ·rw[bc _ _ _ e]
 ·rfl
 ·rfl
 clear ME
 rintro⟨i,j,A⟩ ⟨bD,hj,hA,hT,hD⟩
 simp only at bD hj hA hT hD
 dsimp only
 generalize gv:upd H [0,1] (some (O.arr 7 (List.map encS A)))=H'
 have h0:H' [0,1]=some (.arr 7 (A.map encS)):=by rw[<-gv,aT]
 have xD:∀ i,H' [i+1,1]=H [i+1,1]:=fun i=>by rw[<-gv,bc _ _ _ (by simp)]
 have jB:∀ hs,ck [0] (b8 [0] hs) H'=True:=fun hs=>by rw[<-gv];exact ae _ _ _
 have lD:∀ hs sz L,ck [0] (b8 [0] hs) (upd H' [0,1] (some (.arr sz L)))=True:=fun hs sz L=>by rw[<-gv,vR];exact ae _ _ _
 have Zk:∀ hs sz L,ck [0] (b8 [0] hs) (upd H' [0,1] (some (.farr sz L)))=True:=fun hs sz L=>by rw[<-gv,vR];exact bq _ _ _
 simp only[go_sem]
 repeat refine sq ?_
 refine rx hΓ [0,1,5,6,19] [] (fun K' hK=>by simp only[go_sem,jB,lD,h0];(repeat (refine⟨ak,?_⟩));exact hK _ (by simp only[go_sem,jB,lD,h0]) (by simp only[go_sem,jB,lD,h0]<;>rfl)) ?_
 repeat refine sq ?_
 refine aB (fun hb=>?_) fun hb=>?_
 ·have ab:j<l.length:=by simpa using hb
  have EH:j<A.length:=by omega
  have xm:i<A.length:=by omega
  have Yi:(i:Int)<l.length:=by omega
  have ao:(j:Int)<l.length:=by omega
  have Fh:A[j]=l[j]:=by
   have h1:A[j]=(A.drop j)[0]'(by simp;omega):=by simp
   rw[h1]
   simp only[hD]
   simp
  clear hb
  repeat refine sq ?_
  refine aJ ?_
  repeat refine sq ?_
  refine aR ?_
  repeat refine sq ?_
  refine rx hΓ [0,1,5,6,7] [[7,0]] (fun K' hK=>by simp only[go_sem,jB,lD,h0,ah EH,ai,aj,ao,hA,Fh];(repeat (refine⟨ak,?_⟩));exact hK _ (by simp only[go_sem,jB,lD,h0,ah EH,ai,aj,ao,hA,Fh]) (by simp only[go_sem,jB,lD,h0,ah EH,ai,aj,ao,hA,Fh]<;>rfl)) ?_
  repeat refine sq ?_
  refine rx hΓ [0,1,5,6,7,29] [[7,0]] (fun K' hK=>by simp only[go_sem,jB,lD,h0,hg,hs,hp];(repeat (refine⟨ak,?_⟩));exact hK _ (by simp only[go_sem,jB,lD,h0,hg,hs,hp]) (by simp only[go_sem,jB,lD,h0,hg,hs,hp]<;>rfl)) ?_
  repeat refine sq ?_
  refine aB (fun hb=>?_) fun hb=>?_
  ·have Mu:p l[j]=false:=by simpa using hb
   clear hb
   repeat refine sq ?_
   refine A3 hΓ [0,1,5,6] [] fun K' hK=>?_
   simp only[go_sem,jB,lD,h0,ai,aj,Yi,hA]
   repeat' apply And.intro
   all_goals first | rfl | omega | exact Int.le_refl _ | exact Bool.or_not_self _ | exact Bool.not_or_self _ | exact FE _ | exact FF _ | exact fun x hx=>(FE _ x hx).1 | exact fun x hx=>(FF _ x hx).1 | (simp only[List.length_take,List.length_append,List.length_map,List.length_drop,List.length_cons,List.length_nil];done) | (simp only[List.length_take,List.length_append,List.length_map,List.length_drop,List.length_cons,List.length_nil];omega) | (simp only[List.length_take,List.length_append,List.length_map,List.length_drop,List.length_cons,List.length_nil,maxLen];omega) | (exact fun _=>by decide) | (exact fun h=>⟨h,by decide⟩) | (simp only[decide_eq_true_eq];omega) | skip
   refine hK _ ?_ ?_
   ·simp only[go_sem,jB,lD]
   clear K' hK
   simp only[go_sem]
   obtain⟨H2,Fc⟩:∃ H2,upd H' [0,1] (some (O.arr 7 ((List.map encS A).set i (encS l[j]))))=H2:=⟨_,rfl⟩
   have Nr:=Fc
   simp only[encS]at Nr
   rw[Nr]
   have E7:∀ hs,ck [0] (b8 [0] hs) H2=True:=fun hs=>by rw[<-Fc];exact lD _ _ _
   repeat refine sq ?_
   refine aS hΓ fun K' hK=>?_
   simp only[go_sem]
   repeat (refine⟨ak,?_⟩)
   refine hK _ ?_
   clear K' hK
   simp only[go_sem]
   refine eR [0,1,5,6] [] ?_ ?_
   ·simp only[go_sem,E7]
   simp only[go_sem,E7]
   repeat refine sq ?_
   refine aS hΓ fun K' hK=>?_
   simp only[go_sem]
   repeat (refine⟨ak,?_⟩)
   refine hK _ ?_
   clear K' hK
   simp only[go_sem]
   refine⟨(i+1,j+1,A.set i l[j]),⟨(show i+1<j+1 by omega),ab,by simpa using hA,?_,?_⟩,(show l.length-(j+1)<l.length-j by omega),?_⟩
   ·show (A.set i l[j]).take (i+1)=fI p (l.take (j+1))
    unfold fI at hT |-
    rw[List.take_add_one (l:=l),List.getElem?_eq_getElem ab,List.filter_append,<-hT]
    simp only[Option.toList_some,List.filter_cons,Mu,Bool.not_false,if_true,List.filter_nil]
    rw[List.take_add_one,List.take_set_of_le (Nat.le_refl i),List.getElem?_set_self xm]
    rfl
   ·show (A.set i l[j]).drop (j+1)=l.drop (j+1)
    rw[List.drop_set_of_lt (show i<j+1 by omega)]
    have :=congrArg (List.drop 1) hD
    simpa[List.drop_drop]using this
   ·refine bg [0,1,5,6] [] ?_ ?_
    ·simp only[go_sem,E7]
    ·simp only[go_sem,a7 ab hm,a7 (show i<l.length by omega) hm,bb]
     rw[<-Fc,<-gv,vR,List.map_set]
     try rfl
  ·have XA:p l[j]=true:=by simpa using hb
   clear hb
   repeat refine sq ?_
   refine aJ ?_
   refine bV ?_
   simp only[go_sem]
   refine eR [0,1,5,6] [] ?_ ?_
   ·simp only[go_sem,jB]
   simp only[go_sem,jB]
   repeat refine sq ?_
   refine aS hΓ fun K' hK=>?_
   simp only[go_sem]
   repeat (refine⟨ak,?_⟩)
   refine hK _ ?_
   clear K' hK
   simp only[go_sem]
   refine⟨(i,j+1,A),⟨(show i<j+1 by omega),ab,hA,?_,?_⟩,(show l.length-(j+1)<l.length-j by omega),?_⟩
   ·show A.take i=fI p (l.take (j+1))
    unfold fI at hT |-
    rw[List.take_add_one (l:=l),List.getElem?_eq_getElem ab,List.filter_append,<-hT]
    simp only[Option.toList_some,List.filter_cons,XA,Bool.not_true,Bool.false_eq_true,if_false,List.filter_nil,List.append_nil]
   ·show A.drop (j+1)=l.drop (j+1)
    have :=congrArg (List.drop 1) hD
    simpa[List.drop_drop]using this
   ·refine bg [0,1,5,6] [] ?_ ?_
    ·simp only[go_sem,jB]
    ·simp only[go_sem,a7 ab hm,bb]
     rw[<-gv]
 ·have bF:j=l.length:=by
    have :¬ (j:Int)<l.length:=by simpa using hb
    omega
  subst bF
  clear hb
  rw[List.take_length]at hT
  have xm:i<A.length:=by omega
  repeat refine sq ?_
  refine bR ?_
  simp only[go_sem]
  refine eR [0,5] [] ?_ ?_
  ·simp only[go_sem,jB]
  simp only[go_sem,jB]
  repeat refine sq ?_
  refine aa0 hΓ [0,5] [] fun K' hK=>?_
  refine It ?_ (It ?_ (.cut (T:=29) (x:=.tmp 36) (lo:=.tmp 37) (c:=38) rfl rfl ?_ ?_ ?_ ?_ (.nil ?_)))
  ·simp only[go_sem]
  ·simp only[go_sem]
  ·simp only[go_sem]
  ·simp only[go_sem]
  ·simp only[go_sem]
  ·have YQ:=fun (obj:Name->Option O) (h:obj [0,1]=_)=>F3 (obj:=obj) (nm:=[0,1]) (k:=l.length) (i:=i) (L:=A.map encS) h (by simpa using hA.symm) (by simpa using xm)
   simp only[go_sem,nN,Gw,YQ,h0]
  ·refine hK _ ?_ ?_
   ·simp only[go_sem,qW,nN,Gw,F3 (obj:=fun nm=>if own [0] nm=true then none else H' nm) (nm:=[0,1]) (k:=l.length) (i:=i) (L:=A.map encS) h0 (by simpa using hA.symm) (by simpa using xm),lD]
   clear K' hK
   simp only[go_sem,qW,nN,Gw,F3 (obj:=fun nm=>if own [0] nm=true then none else H' nm) (nm:=[0,1]) (k:=l.length) (i:=i) (L:=A.map encS) h0 (by simpa using hA.symm) (by simpa using xm)]
   have dH:(fI p l).length=i:=by rw[<-hT,List.length_take];omega
   have E4:(List.take i (List.map encS A)++List.replicate (A.length-i) (encS nY))=XX:=by
    rw[<-vj]
    unfold lI
    rw[dH,<-hT,List.map_take,hA]
   have hZ1:XX.length=l.length:=by rw[<-vj];unfold lI;simp;omega
   have Zc:XX.take i=(fI p l).map encS:=by
    rw[<-vj]
    unfold lI
    rw[List.take_append_of_le_length (by simp;omega),List.take_of_length_le (by simp;omega)]
   have Zb:∀ x∈XX,x.cells.length=7:=by
    intro x hx
    rw[<-vj]at hx
    rcases List.mem_append.1 hx with h | h
    ·obtain⟨y,_,rfl⟩:=List.mem_map.1 h;rfl
    ·rw[(List.mem_replicate.1 h).2];rfl
   simp only[encS]at E4
   rw[E4]
   clear E4
   clear vj
   generalize XX=Z at *
   simp only[V.cells]at Zb
   generalize Fb:upd H' [0,1] (some (O.arr 7 Z))=H3
   have Nu:H3 [0,1]=some (.arr 7 Z):=by rw[<-Fb,aT]
   have hI3:∀ i,H3 [i+1,1]=H [i+1,1]:=fun i=>by rw[<-Fb,bc _ _ _ (by simp)];exact xD i
   have Zj:∀ hs sz L,ck [0] (b8 [0] hs) (upd H3 [0,1] (some (.farr sz L)))=True:=fun hs sz L=>by rw[<-Fb,vR];exact Zk _ _ _
   have Yf:(i:Int)<=l.length:=by omega
   repeat refine sq ?_
   refine A3 hΓ [4] [] fun K' hK=>?_
   simp only[go_sem,Nu,Hu,ai,aj,Yf]
   repeat' apply And.intro
   all_goals first | rfl | omega | exact Int.le_refl _ | exact Bool.or_not_self _ | exact Bool.not_or_self _ | exact FE _ | exact FF _ | exact fun x hx=>(FE _ x hx).1 | exact fun x hx=>(FF _ x hx).1 | (simp only[List.length_take,List.length_append,List.length_map,List.length_drop,List.length_cons,List.length_nil];done) | (simp only[List.length_take,List.length_append,List.length_map,List.length_drop,List.length_cons,List.length_nil];omega) | (simp only[List.length_take,List.length_append,List.length_map,List.length_drop,List.length_cons,List.length_nil,maxLen];omega) | (exact fun _=>by decide) | (exact fun h=>⟨h,by decide⟩) | (simp only[decide_eq_true_eq];omega) | skip
   refine hK _ ?_ ?_
   ·simp only[go_sem,Zj]
   clear K' hK
   simp only[go_sem]
   refine aC ?_
   simp only[go_sem,Zc]
   exact .inr trivial
def delCS:CSpec where
 pre:=fun os ds=>∃ (l:List yj) (g:Nat×Int),os=[.arr 7 (l.map encS)]/\ds=[.msl [0,1] l.length,.clo (.func g.1) [] [.v (.ptr [vInt g.2])]]/\l.length<1000000/\pb g
 out:=fun os ds=>match os,ds with
  |[.arr _ L],[_,.clo (.func g) _ [.v (.ptr [.int _ k])]]=>⟨[(0,.farr 7 (lI encS (encS nY) (eN (g,k)) (L.map jD)))],[],.v (.sl ((fI (eN (g,k)) (L.map jD)).map encS))⟩
  |_,_=>⟨[],[],.any⟩
def td(obj:Name->Option O)(_:Name):List D->R
 |[.msl nm k,.clo (.func g) [] [.v (.ptr [.int .i64 q])]]=>match obj nm with
  |some (.arr 7 L)=>⟨k=L.length/\L.length<1000000/\(L.map jD).map encS=L/\pb (g,q),.v (.sl ((fI (eN (g,q)) (L.map jD)).map encS)),upd obj nm (some (.farr 7 (lI encS (encS nY) (eN (g,q)) (L.map jD))))⟩
  |_=>.bad obj
 |_=>.bad obj
def AP(_:Name->Option O)(_:Name):List D->List Name
 | .msl nm _::_=>[nm]
 |_=>[]
def S91:Spec:=⟨td,AP,AP⟩
attribute [go_sem] S91 td
theorem Z8:S91.Near:=by
 refine wC fun obj obj2 t ds ha=>⟨rfl,?_⟩
 have gG:∀ wr,bQ wr obj obj2->bX (R.bad obj) (R.bad obj2) obj obj2 wr:=fun wr h=>.none wr h
 unfold td
 split
 ·rename_i nm k g q
  have h1:obj2 nm=obj nm:=ha nm (by simp[AP])
  simp only[h1]
  split
  ·exact .one (by simp[AP]) ha
  ·exact gG _ ha
 ·exact gG _ ha
theorem Wu:aN Tryz.prog 91 delCS.toSpec:=by
 refine oK (nt:=42) (rs:=[.tmp 4]) Tryz.func91 rfl (by rfl) (by kernel_rfl) (i6 Tryz.func91 rfl (by kernel_rfl)) (nc _ (by decide)) ?_
 rintro os ds ⟨l,g,rfl,rfl,hl,aa⟩
 refine⟨lb rfl,?_⟩
 have ju:delCS.out [.arr 7 (l.map encS)] [.msl [0,1] l.length,.clo (.func g.1) [] [.v (.ptr [vInt g.2])]]=⟨[(0,.farr 7 (lI encS (encS nY) (eN g) l))],[],.v (.sl ((fI (eN g) l).map encS))⟩:=by
  simp only[delCS,vv]
 rw[ju]
 have dN:∀ hs,ck [0] (b8 [0] hs) (aX [.arr 7 (l.map encS)])=True:=fun hs=>eq_true (o8 (by
  intro o ho dom hd
  simp only[List.mem_singleton]at ho
  subst ho
  rfl) hs)
 obtain⟨c,hc,h⟩:=QD aa (H:=aX [.arr 7 (l.map encS)]) hl rfl dN (fun hs sz L=>eq_true (tJ rfl (by rw[dN];trivial))) (fun hs sz L=>eq_true (tJ rfl (by rw[dN];trivial)))
 have YZ:∀ c2,Tryz.f91.body=some c2->c2=c:=fun c2 h2=>by rw[h2]at hc;exact Option.some.inj hc
 rw[<-YZ _ rfl]at h
 refine CW.mono (jE h) ?_
 rintro e σ ⟨he,h1,h2,h3⟩
 have fin:(bU Tryz.prog σ [.tmp 4]).ok/\(bU Tryz.prog σ [.tmp 4]).d=.v (.sl ((fI (eN g) l).map encS))/\gw [.arr 7 (l.map encS)] ⟨[(0,.farr 7 (lI encS (encS nY) (eN g) l))],[],.v (.sl ((fI (eN g) l).map encS))⟩ σ:=
  ⟨h1,h2,⟨h3,trivial⟩,trivial,rfl⟩
 rcases he with rfl | rfl
 ·exact fin
 ·exact fin
theorem Wv:aN Tryz.prog 91 S91:=by
 refine v7 Wu Z8 (nc _ (by decide)) fun obj t ds aa=>?_
 change (td obj t ds).ok at aa
 refine⟨ds,rfl,fun _ _ _ _ h=>h,?_⟩
 show _/\_=(td obj t ds).d/\_=(td obj t ds).obj
 unfold td at aa |-
 split at aa
 ·rename_i nm k g q
  split at aa
  ·rename_i L ho
   obtain⟨rfl,hl,he,hg⟩:=aa
   have hr:reach obj [.msl nm L.length,.clo (.func g) [] [.v (.ptr [.int .i64 q])]]=[nm]:=by
    unfold reach
    show dC obj (2998+1+1) [nm] []=[nm]
    simp only[dC,cX,List.any_nil,Bool.false_eq_true,if_false,ho,lY,List.nil_append]
   have i0:idx [nm] nm=0:=by simp[idx]
   have e1:cD obj [.msl nm L.length,.clo (.func g) [] [.v (.ptr [.int .i64 q])]]=[.arr 7 L]:=by
    unfold cD
    rw[hr]
    simp only[List.map_cons,List.map_nil,cH,ho,O.ren]
   have e2:dd obj [.msl nm L.length,.clo (.func g) [] [.v (.ptr [.int .i64 q])]]=[.msl [0,1] L.length,.clo (.func g) [] [.v (.ptr [.int .i64 q])]]:=by
    unfold dd
    rw[hr]
    simp only[D.renL,D.ren,cin,i0]
   have e3:(shut obj [nm]&&D.closL (cX [nm]) [.msl nm L.length,.clo (.func g) [] [.v (.ptr [.int .i64 q])]]&&fresh obj t [])=true:=by
    simp[shut,ho,O.clos,D.closL,D.clos,cX,fresh]
   have dT:delCS.pre [.arr 7 L] [.msl [0,1] L.length,.clo (.func g) [] [.v (.ptr [.int .i64 q])]]:=⟨L.map jD,(g,q),by rw[he],by rw[List.length_map],by rw[List.length_map];exact hl,hg⟩
   have ju:delCS.out [.arr 7 L] [.msl [0,1] L.length,.clo (.func g) [] [.v (.ptr [.int .i64 q])]]=⟨[(0,.farr 7 (lI encS (encS nY) (eN (g,q)) (L.map jD)))],[],.v (.sl ((fI (eN (g,q)) (L.map jD)).map encS))⟩:=rfl
   simp only[CSpec.toSpec,e1,e2,hr,ju,e3,dT,ho,and_self,dz]
   exact⟨trivial,rfl,rfl⟩
  ·exact aa.elim
 ·exact aa.elim
end
set_option maxHeartbeats 8000000
noncomputable section
theorem DF(l:List Sig)(k:Int):fI (eN (186,k)) l=l.filter fun s=>bG s.kn s.un k:=by
 unfold fI eN
 simp
theorem CT(k:Int):pb (186,k):=.inr rfl
def K26:List (Nat×Spec):=[(132,S132),(91,S91)]
theorem adj:KS K26:=tc WE<|tc Wv<|tn
attribute [go_sem] K26
def PQ:VSpec:=v1 iI (fun x _=>x.l.ss.length<=60) (fun x k=>.v (.sl ((fb x.l k).map encS))) none
def S122:Spec:=PQ.toSpec
attribute [go_sem] PQ S122
theorem WI:aN Tryz.prog 122 S122:=by
 refine yy (rs:=[.tmp 4]) Tryz.func122 Tryz.ntmps122 (by rfl) (by kernel_rfl) (by decide) (fun _ _=>by first | rfl | simp[D.clos,D.closL,lU]) ⟨_,rfl,lb rfl,fun x k hp H h0 h1 h2 hO ae=>?_⟩
 simp only[iI,bC,dm,List.map_cons,List.map_nil,Nat.zero_add,Option.map_some,Option.map_none]at h0 |-
 have hΓ:=adj
 repeat refine sq ?_
 refine rx hΓ [0,3] [[3,0]] (fun K' hK=>by simp only[go_sem,hO,ae,h0,h1,h2];(repeat (refine⟨ak,?_⟩));exact hK _ (by simp only[go_sem,hO,ae,h0,h1,h2]) (by simp only[go_sem,hO,ae,h0,h1,h2]<;>rfl)) ?_
 refine bP (el 3 (.ref [3,0] 0) (by simp only[go_sem]) (by simp only[go_sem]) [0,3] [[3,0]] ?_ rfl) ?_
 ·simp only[go_sem,hO,ae,h0,h1,h2]
 simp only[go_sem,hO,ae,h0,h1,h2]
 repeat refine sq ?_
 refine rx hΓ [4] [] (fun K' hK=>by simp only[go_sem,hO,ae,h0,h1,h2,vv,DF,CT,List.length_map];(repeat (refine⟨ak,?_⟩));exact hK _ (by simp only[go_sem,hO,ae,h0,h1,h2,vv,DF,CT,List.length_map]) (by simp only[go_sem,hO,ae,h0,h1,h2,vv,DF,CT,List.length_map]<;>rfl)) ?_
 refine aC ?_
 simp only[go_sem,hO,ae,h0,h1,h2]
 all_goals exact e8
def ID(r:Rg):D:=.agg [.v (vInt r.lo),.v (vInt r.hi)]
attribute [go_sem] ID
def K26b:List (Nat×Spec):=[(119,S119)]
theorem adi:KS K26b:=tc LX<|tn
attribute [go_sem] K26b
def B8(s:Sig):Prop:=0<=s.da/\s.da<=100000
theorem bz:mX none=.agg [.v (vInt 0),.v (vInt 0),.v (vInt 0),.nilsl,.v (vInt 0),.v (vInt 0),.v (vInt 0)]:=rfl
theorem aE(r:Rec):mX (some r)=gA r:=rfl
def PL:VSpec:=v1 iS (fun x s=>(nW x/\x.rs.Nodup)/\B8 s) (fun x s=>.tup [.v (vInt (bp x s).1),ID (bp x s).2]) none
def S187:Spec:=PL.toSpec
attribute [go_sem] PL S187
theorem WB:aN Tryz.prog 187 S187:=by
 refine yy (rs:=[.tmp 4,.cell 5 38]) Tryz.func187 Tryz.ntmps187 (by rfl) (by kernel_rfl) (by decide) (fun _ _=>by first | rfl | exact agA _ _ | simp[D.clos,D.closL,lU]) ⟨_,rfl,lb rfl,fun x s hp H h0 h1 h2 hO ae=>?_⟩
 have hP:=fU
 simp only[iS,encS,bC,dm,List.map_cons,List.map_nil,Nat.zero_add,Option.map_some,Option.map_none]at h0 |-
 have hΓ:=adi
 obtain⟨hv,hd⟩:=hp
 have gV:=yv hd
 repeat refine sq ?_
 refine rx hΓ [0,3,5] [[3,0],[5,0]] (fun K' hK=>by simp only[go_sem,hO,ae,h0,h1,h2];(repeat (refine⟨ak,?_⟩));exact hK _ (by simp only[go_sem,hO,ae,h0,h1,h2]) (by simp only[go_sem,hO,ae,h0,h1,h2]<;>rfl)) ?_
 repeat refine sq ?_
 refine rx hΓ [0,3,5,6,7] [[3,0],[5,0],[6,0],[7,0]] (fun K' hK=>by simp only[go_sem,hO,ae,h0,h1,h2];(repeat (refine⟨ak,?_⟩));exact hK _ (by simp only[go_sem,hO,ae,h0,h1,h2]) (by simp only[go_sem,hO,ae,h0,h1,h2]<;>rfl)) ?_
 rcases av:eJ x.rs s.pa s.le s.da with _ | r
 ·repeat refine sq ?_
  refine rx hΓ [0,3,5,6,7,8,9] [[3,0],[5,0],[6,0],[7,0],[8,0]] (fun K' hK=>by simp only[go_sem,hO,ae,h0,h1,h2,av,bz,Option.isSome_none,ax];(repeat (refine⟨ak,?_⟩));exact hK _ (by simp only[go_sem,hO,ae,h0,h1,h2,av,bz,Option.isSome_none,ax]) (by simp only[go_sem,hO,ae,h0,h1,h2,av,bz,Option.isSome_none,ax]<;>rfl)) ?_
  repeat refine sq ?_
  refine dx hΓ hP [[],[0],[0,1],[0,1,2],[],[4],[],[6],[4,5,6,7],u9,cB,fm,fm,dO,jK] [3,5,6,7,8,9,10,11] [[3,0],[5,0],[6,0],[7,0],[8,0]] (by kernel_rfl) (fun K' hK=>by simp only[go_sem,hO,ae,h0,h1,h2,av,bz,Option.isSome_none,ax];(repeat (refine⟨ak,?_⟩));(first | refine⟨by rfl,?_⟩ | skip);exact hK _ (by simp only[go_sem,hO,ae,h0,h1,h2,av,bz,Option.isSome_none,ax]) (by simp only[go_sem,hO,ae,h0,h1,h2,av,bz,Option.isSome_none,ax]<;>rfl)) ?_
  repeat refine sq ?_
  refine aR ?_
  repeat refine sq ?_
  refine rx hΓ [3,5,6,7,8,9,10,11,39] [[3,0],[5,0],[6,0],[7,0],[8,0]] (fun K' hK=>by simp only[go_sem,hO,ae,h0,h1,h2,av,bz,Option.isSome_none,ax];(repeat (refine⟨ak,?_⟩));exact hK _ (by simp only[go_sem,hO,ae,h0,h1,h2,av,bz,Option.isSome_none,ax]) (by simp only[go_sem,hO,ae,h0,h1,h2,av,bz,Option.isSome_none,ax]<;>rfl)) ?_
  repeat refine sq ?_
  refine aB (fun hb=>?_) fun hb=>?_
  ·repeat refine sq ?_
   refine aJ ?_
   repeat refine sq ?_
   refine aB (fun hb=>?_) fun hb=>?_
   ·repeat refine sq ?_
    refine dx hΓ hP [[],[],[0,1]] [4,5] [[5,0]] (by kernel_rfl) (fun K' hK=>by simp only[go_sem,hO,ae,h0,h1,h2,av,bz,Option.isSome_none,ax];(repeat (refine⟨ak,?_⟩));(first | refine⟨by rfl,?_⟩ | skip);exact hK _ (by simp only[go_sem,hO,ae,h0,h1,h2,av,bz,Option.isSome_none,ax]) (by simp only[go_sem,hO,ae,h0,h1,h2,av,bz,Option.isSome_none,ax]<;>rfl)) ?_
    refine aC ?_
    simp only[go_sem,hO,ae,h0,h1,h2]
    first | (unfold bp;simp only[av];simp_all[cv,ct];done) | (unfold bp;simp only[av];rcases aI:be x.bk (r.so,s.le)with _ | j<;>simp_all[cv,ct];done)
   ·repeat refine sq ?_
    refine rx hΓ [3,5,7,8,10,60] [[3,0],[5,0],[7,0],[8,0]] (fun K' hK=>by simp only[go_sem,hO,ae,h0,h1,h2,av,bz,Option.isSome_none,ax];(repeat (refine⟨ak,?_⟩));exact hK _ (by simp only[go_sem,hO,ae,h0,h1,h2,av,bz,Option.isSome_none,ax]) (by simp only[go_sem,hO,ae,h0,h1,h2,av,bz,Option.isSome_none,ax]<;>rfl)) ?_
    repeat refine sq ?_
    refine aB (fun hb=>?_) fun hb=>?_
    ·repeat refine sq ?_
     refine dx hΓ hP [[],[],[0,1]] [4,5] [[5,0]] (by kernel_rfl) (fun K' hK=>by simp only[go_sem,hO,ae,h0,h1,h2,av,bz,Option.isSome_none,ax];(repeat (refine⟨ak,?_⟩));(first | refine⟨by rfl,?_⟩ | skip);exact hK _ (by simp only[go_sem,hO,ae,h0,h1,h2,av,bz,Option.isSome_none,ax]) (by simp only[go_sem,hO,ae,h0,h1,h2,av,bz,Option.isSome_none,ax]<;>rfl)) ?_
     refine aC ?_
     simp only[go_sem,hO,ae,h0,h1,h2]
     first | (unfold bp;simp only[av];simp_all[cv,ct];done) | (unfold bp;simp only[av];rcases aI:be x.bk (r.so,s.le)with _ | j<;>simp_all[cv,ct];done)
    ·repeat refine sq ?_
     refine rx hΓ [3,5,7,8,10,68] [[3,0],[5,0],[7,0],[8,0]] (fun K' hK=>by simp only[go_sem,hO,ae,h0,h1,h2,av,bz,Option.isSome_none,ax];(repeat (refine⟨ak,?_⟩));exact hK _ (by simp only[go_sem,hO,ae,h0,h1,h2,av,bz,Option.isSome_none,ax]) (by simp only[go_sem,hO,ae,h0,h1,h2,av,bz,Option.isSome_none,ax]<;>rfl)) ?_
     repeat refine sq ?_
     refine aB (fun hb=>?_) fun hb=>?_
     ·repeat refine sq ?_
      refine dx hΓ hP [[],[],[1],[1,2],[0],u5] [4,5] [[5,0]] (by kernel_rfl) (fun K' hK=>by simp only[go_sem,hO,ae,h0,h1,h2,av,bz,Option.isSome_none,ax];(repeat (refine⟨ak,?_⟩));(first | refine⟨by rfl,?_⟩ | skip);exact hK _ (by simp only[go_sem,hO,ae,h0,h1,h2,av,bz,Option.isSome_none,ax]) (by simp only[go_sem,hO,ae,h0,h1,h2,av,bz,Option.isSome_none,ax]<;>rfl)) ?_
      refine aC ?_
      simp only[go_sem,hO,ae,h0,h1,h2]
      first | (unfold bp;simp only[av];simp_all[cv,ct];done) | (unfold bp;simp only[av];rcases aI:be x.bk (r.so,s.le)with _ | j<;>simp_all[cv,ct];done)
     ·repeat refine sq ?_
      refine rx hΓ [3,5,7,10,76] [[3,0],[5,0],[7,0]] (fun K' hK=>by simp only[go_sem,hO,ae,h0,h1,h2,av,bz,Option.isSome_none,ax];(repeat (refine⟨ak,?_⟩));exact hK _ (by simp only[go_sem,hO,ae,h0,h1,h2,av,bz,Option.isSome_none,ax]) (by simp only[go_sem,hO,ae,h0,h1,h2,av,bz,Option.isSome_none,ax]<;>rfl)) ?_
      repeat refine sq ?_
      refine aB (fun hb=>?_) fun hb=>?_
      ·repeat refine sq ?_
       refine dx hΓ hP [[],[],[1],[1,2],[1,2,3],[0],u6] [4,5] [[5,0]] (by kernel_rfl) (fun K' hK=>by simp only[go_sem,hO,ae,h0,h1,h2,av,bz,Option.isSome_none,ax];(repeat (refine⟨ak,?_⟩));(first | refine⟨by rfl,?_⟩ | skip);exact hK _ (by simp only[go_sem,hO,ae,h0,h1,h2,av,bz,Option.isSome_none,ax]) (by simp only[go_sem,hO,ae,h0,h1,h2,av,bz,Option.isSome_none,ax]<;>rfl)) ?_
       refine aC ?_
       simp only[go_sem,hO,ae,h0,h1,h2]
       first | (unfold bp;simp only[av];simp_all[cv,ct];done) | (unfold bp;simp only[av];rcases aI:be x.bk (r.so,s.le)with _ | j<;>simp_all[cv,ct];done)
      ·repeat refine sq ?_
       refine aJ ?_
       refine bV ?_
       simp only[go_sem]
       refine eR [5,7] [[5,0],[7,0]] ?_ ?_
       ·simp only[go_sem,hO,ae,h0,h1,h2]
       simp only[go_sem,hO,ae,h0,h1,h2]
       repeat refine sq ?_
       refine dx hΓ hP [[],[],[0,1]] [4,5] [[5,0]] (by kernel_rfl) (fun K' hK=>by simp only[go_sem,hO,ae,h0,h1,h2,av,bz,Option.isSome_none,ax];(repeat (refine⟨ak,?_⟩));(first | refine⟨by rfl,?_⟩ | skip);exact hK _ (by simp only[go_sem,hO,ae,h0,h1,h2,av,bz,Option.isSome_none,ax]) (by simp only[go_sem,hO,ae,h0,h1,h2,av,bz,Option.isSome_none,ax]<;>rfl)) ?_
       refine aC ?_
       simp only[go_sem,hO,ae,h0,h1,h2]
       first | (unfold bp;simp only[av];simp_all[cv,ct];done) | (unfold bp;simp only[av];rcases aI:be x.bk (r.so,s.le)with _ | j<;>simp_all[cv,ct];done)
  ·repeat refine sq ?_
   refine rx hΓ [3,5,6,7,8,9,10,11,39] [[3,0],[5,0],[6,0],[7,0],[8,0]] (fun K' hK=>by simp only[go_sem,hO,ae,h0,h1,h2,av,bz,Option.isSome_none,ax];(repeat (refine⟨ak,?_⟩));exact hK _ (by simp only[go_sem,hO,ae,h0,h1,h2,av,bz,Option.isSome_none,ax]) (by simp only[go_sem,hO,ae,h0,h1,h2,av,bz,Option.isSome_none,ax]<;>rfl)) ?_
   repeat refine sq ?_
   refine aB (fun hb=>?_) fun hb=>?_
   ·repeat refine sq ?_
    refine dx hΓ hP [[],[],[0,1]] [4,5] [[5,0]] (by kernel_rfl) (fun K' hK=>by simp only[go_sem,hO,ae,h0,h1,h2,av,bz,Option.isSome_none,ax];(repeat (refine⟨ak,?_⟩));(first | refine⟨by rfl,?_⟩ | skip);exact hK _ (by simp only[go_sem,hO,ae,h0,h1,h2,av,bz,Option.isSome_none,ax]) (by simp only[go_sem,hO,ae,h0,h1,h2,av,bz,Option.isSome_none,ax]<;>rfl)) ?_
    refine aC ?_
    simp only[go_sem,hO,ae,h0,h1,h2]
    first | (unfold bp;simp only[av];simp_all[cv,ct];done) | (unfold bp;simp only[av];rcases aI:be x.bk (r.so,s.le)with _ | j<;>simp_all[cv,ct];done)
   ·repeat refine sq ?_
    refine rx hΓ [3,5,7,8,10,60] [[3,0],[5,0],[7,0],[8,0]] (fun K' hK=>by simp only[go_sem,hO,ae,h0,h1,h2,av,bz,Option.isSome_none,ax];(repeat (refine⟨ak,?_⟩));exact hK _ (by simp only[go_sem,hO,ae,h0,h1,h2,av,bz,Option.isSome_none,ax]) (by simp only[go_sem,hO,ae,h0,h1,h2,av,bz,Option.isSome_none,ax]<;>rfl)) ?_
    repeat refine sq ?_
    refine aB (fun hb=>?_) fun hb=>?_
    ·repeat refine sq ?_
     refine dx hΓ hP [[],[],[0,1]] [4,5] [[5,0]] (by kernel_rfl) (fun K' hK=>by simp only[go_sem,hO,ae,h0,h1,h2,av,bz,Option.isSome_none,ax];(repeat (refine⟨ak,?_⟩));(first | refine⟨by rfl,?_⟩ | skip);exact hK _ (by simp only[go_sem,hO,ae,h0,h1,h2,av,bz,Option.isSome_none,ax]) (by simp only[go_sem,hO,ae,h0,h1,h2,av,bz,Option.isSome_none,ax]<;>rfl)) ?_
     refine aC ?_
     simp only[go_sem,hO,ae,h0,h1,h2]
     first | (unfold bp;simp only[av];simp_all[cv,ct];done) | (unfold bp;simp only[av];rcases aI:be x.bk (r.so,s.le)with _ | j<;>simp_all[cv,ct];done)
    ·repeat refine sq ?_
     refine rx hΓ [3,5,7,8,10,68] [[3,0],[5,0],[7,0],[8,0]] (fun K' hK=>by simp only[go_sem,hO,ae,h0,h1,h2,av,bz,Option.isSome_none,ax];(repeat (refine⟨ak,?_⟩));exact hK _ (by simp only[go_sem,hO,ae,h0,h1,h2,av,bz,Option.isSome_none,ax]) (by simp only[go_sem,hO,ae,h0,h1,h2,av,bz,Option.isSome_none,ax]<;>rfl)) ?_
     repeat refine sq ?_
     refine aB (fun hb=>?_) fun hb=>?_
     ·repeat refine sq ?_
      refine dx hΓ hP [[],[],[1],[1,2],[0],u5] [4,5] [[5,0]] (by kernel_rfl) (fun K' hK=>by simp only[go_sem,hO,ae,h0,h1,h2,av,bz,Option.isSome_none,ax];(repeat (refine⟨ak,?_⟩));(first | refine⟨by rfl,?_⟩ | skip);exact hK _ (by simp only[go_sem,hO,ae,h0,h1,h2,av,bz,Option.isSome_none,ax]) (by simp only[go_sem,hO,ae,h0,h1,h2,av,bz,Option.isSome_none,ax]<;>rfl)) ?_
      refine aC ?_
      simp only[go_sem,hO,ae,h0,h1,h2]
      first | (unfold bp;simp only[av];simp_all[cv,ct];done) | (unfold bp;simp only[av];rcases aI:be x.bk (r.so,s.le)with _ | j<;>simp_all[cv,ct];done)
     ·repeat refine sq ?_
      refine rx hΓ [3,5,7,10,76] [[3,0],[5,0],[7,0]] (fun K' hK=>by simp only[go_sem,hO,ae,h0,h1,h2,av,bz,Option.isSome_none,ax];(repeat (refine⟨ak,?_⟩));exact hK _ (by simp only[go_sem,hO,ae,h0,h1,h2,av,bz,Option.isSome_none,ax]) (by simp only[go_sem,hO,ae,h0,h1,h2,av,bz,Option.isSome_none,ax]<;>rfl)) ?_
      repeat refine sq ?_
      refine aB (fun hb=>?_) fun hb=>?_
      ·repeat refine sq ?_
       refine dx hΓ hP [[],[],[1],[1,2],[1,2,3],[0],u6] [4,5] [[5,0]] (by kernel_rfl) (fun K' hK=>by simp only[go_sem,hO,ae,h0,h1,h2,av,bz,Option.isSome_none,ax];(repeat (refine⟨ak,?_⟩));(first | refine⟨by rfl,?_⟩ | skip);exact hK _ (by simp only[go_sem,hO,ae,h0,h1,h2,av,bz,Option.isSome_none,ax]) (by simp only[go_sem,hO,ae,h0,h1,h2,av,bz,Option.isSome_none,ax]<;>rfl)) ?_
       refine aC ?_
       simp only[go_sem,hO,ae,h0,h1,h2]
       first | (unfold bp;simp only[av];simp_all[cv,ct];done) | (unfold bp;simp only[av];rcases aI:be x.bk (r.so,s.le)with _ | j<;>simp_all[cv,ct];done)
      ·repeat refine sq ?_
       refine aJ ?_
       refine bV ?_
       simp only[go_sem]
       refine eR [5,7] [[5,0],[7,0]] ?_ ?_
       ·simp only[go_sem,hO,ae,h0,h1,h2]
       simp only[go_sem,hO,ae,h0,h1,h2]
       repeat refine sq ?_
       refine dx hΓ hP [[],[],[0,1]] [4,5] [[5,0]] (by kernel_rfl) (fun K' hK=>by simp only[go_sem,hO,ae,h0,h1,h2,av,bz,Option.isSome_none,ax];(repeat (refine⟨ak,?_⟩));(first | refine⟨by rfl,?_⟩ | skip);exact hK _ (by simp only[go_sem,hO,ae,h0,h1,h2,av,bz,Option.isSome_none,ax]) (by simp only[go_sem,hO,ae,h0,h1,h2,av,bz,Option.isSome_none,ax]<;>rfl)) ?_
       refine aC ?_
       simp only[go_sem,hO,ae,h0,h1,h2]
       first | (unfold bp;simp only[av];simp_all[cv,ct];done) | (unfold bp;simp only[av];rcases aI:be x.bk (r.so,s.le)with _ | j<;>simp_all[cv,ct];done)
 ·repeat refine sq ?_
  refine rx hΓ [0,3,5,6,7,8,9] [[3,0],[5,0],[6,0],[7,0],[8,0]] (fun K' hK=>by simp only[go_sem,hO,ae,h0,h1,h2,av,aE,Option.isSome_some,ax];(repeat (refine⟨ak,?_⟩));exact hK _ (by simp only[go_sem,hO,ae,h0,h1,h2,av,aE,Option.isSome_some,ax]) (by simp only[go_sem,hO,ae,h0,h1,h2,av,aE,Option.isSome_some,ax]<;>rfl)) ?_
  repeat refine sq ?_
  refine dx hΓ hP [[],[0],[0,1],[0,1,2],[],[4],[],[6],[4,5,6,7],u9,cB,fm,fm,dO,jK] [3,5,6,7,8,9,10,11] [[3,0],[5,0],[6,0],[7,0],[8,0]] (by kernel_rfl) (fun K' hK=>by simp only[go_sem,hO,ae,h0,h1,h2,av,aE,Option.isSome_some,ax];(repeat (refine⟨ak,?_⟩));(first | refine⟨by rfl,?_⟩ | skip);exact hK _ (by simp only[go_sem,hO,ae,h0,h1,h2,av,aE,Option.isSome_some,ax]) (by simp only[go_sem,hO,ae,h0,h1,h2,av,aE,Option.isSome_some,ax]<;>rfl)) ?_
  repeat refine sq ?_
  refine aR ?_
  repeat refine sq ?_
  refine rx hΓ [3,5,6,7,8,9,10,11,39] [[3,0],[5,0],[6,0],[7,0],[8,0]] (fun K' hK=>by simp only[go_sem,hO,ae,h0,h1,h2,av,aE,Option.isSome_some,ax];(repeat (refine⟨ak,?_⟩));exact hK _ (by simp only[go_sem,hO,ae,h0,h1,h2,av,aE,Option.isSome_some,ax]) (by simp only[go_sem,hO,ae,h0,h1,h2,av,aE,Option.isSome_some,ax]<;>rfl)) ?_
  repeat refine sq ?_
  refine aB (fun hb=>?_) fun hb=>?_
  ·repeat refine sq ?_
   refine aJ ?_
   repeat refine sq ?_
   refine aB (fun hb=>?_) fun hb=>?_
   ·repeat refine sq ?_
    refine dx hΓ hP [[],[],[0,1]] [4,5] [[5,0]] (by kernel_rfl) (fun K' hK=>by simp only[go_sem,hO,ae,h0,h1,h2,av,aE,Option.isSome_some,ax];(repeat (refine⟨ak,?_⟩));(first | refine⟨by rfl,?_⟩ | skip);exact hK _ (by simp only[go_sem,hO,ae,h0,h1,h2,av,aE,Option.isSome_some,ax]) (by simp only[go_sem,hO,ae,h0,h1,h2,av,aE,Option.isSome_some,ax]<;>rfl)) ?_
    refine aC ?_
    simp only[go_sem,hO,ae,h0,h1,h2]
    first | (unfold bp;simp only[av];simp_all[cv,ct];done) | (unfold bp;simp only[av];rcases aI:be x.bk (r.so,s.le)with _ | j<;>simp_all[cv,ct];done)
   ·repeat refine sq ?_
    refine rx hΓ [3,5,7,8,10,60] [[3,0],[5,0],[7,0],[8,0]] (fun K' hK=>by simp only[go_sem,hO,ae,h0,h1,h2,av,aE,Option.isSome_some,ax];(repeat (refine⟨ak,?_⟩));exact hK _ (by simp only[go_sem,hO,ae,h0,h1,h2,av,aE,Option.isSome_some,ax]) (by simp only[go_sem,hO,ae,h0,h1,h2,av,aE,Option.isSome_some,ax]<;>rfl)) ?_
    repeat refine sq ?_
    refine aB (fun hb=>?_) fun hb=>?_
    ·repeat refine sq ?_
     refine dx hΓ hP [[],[],[0,1]] [4,5] [[5,0]] (by kernel_rfl) (fun K' hK=>by simp only[go_sem,hO,ae,h0,h1,h2,av,aE,Option.isSome_some,ax];(repeat (refine⟨ak,?_⟩));(first | refine⟨by rfl,?_⟩ | skip);exact hK _ (by simp only[go_sem,hO,ae,h0,h1,h2,av,aE,Option.isSome_some,ax]) (by simp only[go_sem,hO,ae,h0,h1,h2,av,aE,Option.isSome_some,ax]<;>rfl)) ?_
     refine aC ?_
     simp only[go_sem,hO,ae,h0,h1,h2]
     first | (unfold bp;simp only[av];simp_all[cv,ct];done) | (unfold bp;simp only[av];rcases aI:be x.bk (r.so,s.le)with _ | j<;>simp_all[cv,ct];done)
    ·repeat refine sq ?_
     refine rx hΓ [3,5,7,8,10,68] [[3,0],[5,0],[7,0],[8,0]] (fun K' hK=>by simp only[go_sem,hO,ae,h0,h1,h2,av,aE,Option.isSome_some,ax];(repeat (refine⟨ak,?_⟩));exact hK _ (by simp only[go_sem,hO,ae,h0,h1,h2,av,aE,Option.isSome_some,ax]) (by simp only[go_sem,hO,ae,h0,h1,h2,av,aE,Option.isSome_some,ax]<;>rfl)) ?_
     repeat refine sq ?_
     refine aB (fun hb=>?_) fun hb=>?_
     ·repeat refine sq ?_
      refine dx hΓ hP [[],[],[1],[1,2],[0],u5] [4,5] [[5,0]] (by kernel_rfl) (fun K' hK=>by simp only[go_sem,hO,ae,h0,h1,h2,av,aE,Option.isSome_some,ax];(repeat (refine⟨ak,?_⟩));(first | refine⟨by rfl,?_⟩ | skip);exact hK _ (by simp only[go_sem,hO,ae,h0,h1,h2,av,aE,Option.isSome_some,ax]) (by simp only[go_sem,hO,ae,h0,h1,h2,av,aE,Option.isSome_some,ax]<;>rfl)) ?_
      refine aC ?_
      simp only[go_sem,hO,ae,h0,h1,h2]
      first | (unfold bp;simp only[av];simp_all[cv,ct];done) | (unfold bp;simp only[av];rcases aI:be x.bk (r.so,s.le)with _ | j<;>simp_all[cv,ct];done)
     ·repeat refine sq ?_
      refine rx hΓ [3,5,7,10,76] [[3,0],[5,0],[7,0]] (fun K' hK=>by simp only[go_sem,hO,ae,h0,h1,h2,av,aE,Option.isSome_some,ax];(repeat (refine⟨ak,?_⟩));exact hK _ (by simp only[go_sem,hO,ae,h0,h1,h2,av,aE,Option.isSome_some,ax]) (by simp only[go_sem,hO,ae,h0,h1,h2,av,aE,Option.isSome_some,ax]<;>rfl)) ?_
      repeat refine sq ?_
      refine aB (fun hb=>?_) fun hb=>?_
      ·repeat refine sq ?_
       refine dx hΓ hP [[],[],[1],[1,2],[1,2,3],[0],u6] [4,5] [[5,0]] (by kernel_rfl) (fun K' hK=>by simp only[go_sem,hO,ae,h0,h1,h2,av,aE,Option.isSome_some,ax];(repeat (refine⟨ak,?_⟩));(first | refine⟨by rfl,?_⟩ | skip);exact hK _ (by simp only[go_sem,hO,ae,h0,h1,h2,av,aE,Option.isSome_some,ax]) (by simp only[go_sem,hO,ae,h0,h1,h2,av,aE,Option.isSome_some,ax]<;>rfl)) ?_
       refine aC ?_
       simp only[go_sem,hO,ae,h0,h1,h2]
       first | (unfold bp;simp only[av];simp_all[cv,ct];done) | (unfold bp;simp only[av];rcases aI:be x.bk (r.so,s.le)with _ | j<;>simp_all[cv,ct];done)
      ·repeat refine sq ?_
       refine aJ ?_
       refine bV ?_
       simp only[go_sem]
       refine eR [5,7] [[5,0],[7,0]] ?_ ?_
       ·simp only[go_sem,hO,ae,h0,h1,h2]
       simp only[go_sem,hO,ae,h0,h1,h2]
       repeat refine sq ?_
       refine dx hΓ hP [[],[],[0,1]] [4,5] [[5,0]] (by kernel_rfl) (fun K' hK=>by simp only[go_sem,hO,ae,h0,h1,h2,av,aE,Option.isSome_some,ax];(repeat (refine⟨ak,?_⟩));(first | refine⟨by rfl,?_⟩ | skip);exact hK _ (by simp only[go_sem,hO,ae,h0,h1,h2,av,aE,Option.isSome_some,ax]) (by simp only[go_sem,hO,ae,h0,h1,h2,av,aE,Option.isSome_some,ax]<;>rfl)) ?_
       refine aC ?_
       simp only[go_sem,hO,ae,h0,h1,h2]
       first | (unfold bp;simp only[av];simp_all[cv,ct];done) | (unfold bp;simp only[av];rcases aI:be x.bk (r.so,s.le)with _ | j<;>simp_all[cv,ct];done)
  ·repeat refine sq ?_
   refine rx hΓ [3,5,6,7,8,9,10,11,39] [[3,0],[5,0],[6,0],[7,0],[8,0]] (fun K' hK=>by simp only[go_sem,hO,ae,h0,h1,h2,av,aE,Option.isSome_some,ax];(repeat (refine⟨ak,?_⟩));exact hK _ (by simp only[go_sem,hO,ae,h0,h1,h2,av,aE,Option.isSome_some,ax]) (by simp only[go_sem,hO,ae,h0,h1,h2,av,aE,Option.isSome_some,ax]<;>rfl)) ?_
   repeat refine sq ?_
   refine aB (fun hb=>?_) fun hb=>?_
   ·repeat refine sq ?_
    refine dx hΓ hP [[],[],[0,1]] [4,5] [[5,0]] (by kernel_rfl) (fun K' hK=>by simp only[go_sem,hO,ae,h0,h1,h2,av,aE,Option.isSome_some,ax];(repeat (refine⟨ak,?_⟩));(first | refine⟨by rfl,?_⟩ | skip);exact hK _ (by simp only[go_sem,hO,ae,h0,h1,h2,av,aE,Option.isSome_some,ax]) (by simp only[go_sem,hO,ae,h0,h1,h2,av,aE,Option.isSome_some,ax]<;>rfl)) ?_
    refine aC ?_
    simp only[go_sem,hO,ae,h0,h1,h2]
    first | (unfold bp;simp only[av];simp_all[cv,ct];done) | (unfold bp;simp only[av];rcases aI:be x.bk (r.so,s.le)with _ | j<;>simp_all[cv,ct];done)
   ·repeat refine sq ?_
    refine rx hΓ [3,5,7,8,10,60] [[3,0],[5,0],[7,0],[8,0]] (fun K' hK=>by simp only[go_sem,hO,ae,h0,h1,h2,av,aE,Option.isSome_some,ax];(repeat (refine⟨ak,?_⟩));exact hK _ (by simp only[go_sem,hO,ae,h0,h1,h2,av,aE,Option.isSome_some,ax]) (by simp only[go_sem,hO,ae,h0,h1,h2,av,aE,Option.isSome_some,ax]<;>rfl)) ?_
    repeat refine sq ?_
    refine aB (fun hb=>?_) fun hb=>?_
    ·repeat refine sq ?_
     refine dx hΓ hP [[],[],[0,1]] [4,5] [[5,0]] (by kernel_rfl) (fun K' hK=>by simp only[go_sem,hO,ae,h0,h1,h2,av,aE,Option.isSome_some,ax];(repeat (refine⟨ak,?_⟩));(first | refine⟨by rfl,?_⟩ | skip);exact hK _ (by simp only[go_sem,hO,ae,h0,h1,h2,av,aE,Option.isSome_some,ax]) (by simp only[go_sem,hO,ae,h0,h1,h2,av,aE,Option.isSome_some,ax]<;>rfl)) ?_
     refine aC ?_
     simp only[go_sem,hO,ae,h0,h1,h2]
     first | (unfold bp;simp only[av];simp_all[cv,ct];done) | (unfold bp;simp only[av];rcases aI:be x.bk (r.so,s.le)with _ | j<;>simp_all[cv,ct];done)
    ·repeat refine sq ?_
     refine rx hΓ [3,5,7,8,10,68] [[3,0],[5,0],[7,0],[8,0]] (fun K' hK=>by simp only[go_sem,hO,ae,h0,h1,h2,av,aE,Option.isSome_some,ax];(repeat (refine⟨ak,?_⟩));exact hK _ (by simp only[go_sem,hO,ae,h0,h1,h2,av,aE,Option.isSome_some,ax]) (by simp only[go_sem,hO,ae,h0,h1,h2,av,aE,Option.isSome_some,ax]<;>rfl)) ?_
     repeat refine sq ?_
     refine aB (fun hb=>?_) fun hb=>?_
     ·repeat refine sq ?_
      refine dx hΓ hP [[],[],[1],[1,2],[0],u5] [4,5] [[5,0]] (by kernel_rfl) (fun K' hK=>by simp only[go_sem,hO,ae,h0,h1,h2,av,aE,Option.isSome_some,ax];(repeat (refine⟨ak,?_⟩));(first | refine⟨by rfl,?_⟩ | skip);exact hK _ (by simp only[go_sem,hO,ae,h0,h1,h2,av,aE,Option.isSome_some,ax]) (by simp only[go_sem,hO,ae,h0,h1,h2,av,aE,Option.isSome_some,ax]<;>rfl)) ?_
      refine aC ?_
      simp only[go_sem,hO,ae,h0,h1,h2]
      first | (unfold bp;simp only[av];simp_all[cv,ct];done) | (unfold bp;simp only[av];rcases aI:be x.bk (r.so,s.le)with _ | j<;>simp_all[cv,ct];done)
     ·repeat refine sq ?_
      refine rx hΓ [3,5,7,10,76] [[3,0],[5,0],[7,0]] (fun K' hK=>by simp only[go_sem,hO,ae,h0,h1,h2,av,aE,Option.isSome_some,ax];(repeat (refine⟨ak,?_⟩));exact hK _ (by simp only[go_sem,hO,ae,h0,h1,h2,av,aE,Option.isSome_some,ax]) (by simp only[go_sem,hO,ae,h0,h1,h2,av,aE,Option.isSome_some,ax]<;>rfl)) ?_
      repeat refine sq ?_
      refine aB (fun hb=>?_) fun hb=>?_
      ·repeat refine sq ?_
       refine dx hΓ hP [[],[],[1],[1,2],[1,2,3],[0],u6] [4,5] [[5,0]] (by kernel_rfl) (fun K' hK=>by simp only[go_sem,hO,ae,h0,h1,h2,av,aE,Option.isSome_some,ax];(repeat (refine⟨ak,?_⟩));(first | refine⟨by rfl,?_⟩ | skip);exact hK _ (by simp only[go_sem,hO,ae,h0,h1,h2,av,aE,Option.isSome_some,ax]) (by simp only[go_sem,hO,ae,h0,h1,h2,av,aE,Option.isSome_some,ax]<;>rfl)) ?_
       refine aC ?_
       simp only[go_sem,hO,ae,h0,h1,h2]
       first | (unfold bp;simp only[av];simp_all[cv,ct];done) | (unfold bp;simp only[av];rcases aI:be x.bk (r.so,s.le)with _ | j<;>simp_all[cv,ct];done)
      ·repeat refine sq ?_
       refine aJ ?_
       refine bV ?_
       simp only[go_sem]
       refine eR [5,7] [[5,0],[7,0]] ?_ ?_
       ·simp only[go_sem,hO,ae,h0,h1,h2]
       simp only[go_sem,hO,ae,h0,h1,h2]
       repeat refine sq ?_
       refine dx hΓ hP [[],[],[0,1]] [4,5] [[5,0]] (by kernel_rfl) (fun K' hK=>by simp only[go_sem,hO,ae,h0,h1,h2,av,aE,Option.isSome_some,ax];(repeat (refine⟨ak,?_⟩));(first | refine⟨by rfl,?_⟩ | skip);exact hK _ (by simp only[go_sem,hO,ae,h0,h1,h2,av,aE,Option.isSome_some,ax]) (by simp only[go_sem,hO,ae,h0,h1,h2,av,aE,Option.isSome_some,ax]<;>rfl)) ?_
       refine aC ?_
       simp only[go_sem,hO,ae,h0,h1,h2]
       first | (unfold bp;simp only[av];simp_all[cv,ct];done) | (unfold bp;simp only[av];rcases aI:be x.bk (r.so,s.le)with _ | j<;>simp_all[cv,ct];done)
end
end Go.Eng
