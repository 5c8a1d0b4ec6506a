import Derived.Test.YtepaolcgegdpoaaGreatK5
/- Texts EngP to LW25. -/
set_option linter.all false
namespace Go.Eng
open Go
def cv(obj:Name->Option O):List Name->List O->Prop
 |[],[]=>True
 |x::xs,o::os=>obj x=some o/\cv obj xs os
 |_,_=>False
theorem ke{obj:Name->Option O}:∀ {Ls:List Name} {F:List O},cv obj Ls F↔Ls.map obj=F.map some
 |[],[]=>by simp[cv]
 |x::xs,o::os=>by simp only[cv,List.map_cons,List.cons.injEq,ke]
 |[],_::_=>by simp[cv]
 |_::_,[]=>by simp[cv]
theorem z5{obj obj2:Name->Option O}{Ls:List Name}{F:List O}(h:cv obj Ls F)(ha:∀ x∈Ls,obj2 x=obj x):cv obj2 Ls F:=by
 rw[ke]at h |-
 rw[<-h]
 exact List.map_congr_left ha
theorem DG{obj:Name->Option O}:∀ {Ls:List Name} {F:List O},cv obj Ls F->∀ i (h:i<Ls.length) (h':i<F.length),obj Ls[i]=some F[i]
 |_::_,_::_,h,0,_,_=>h.1
 |_::_,_::_,h,i+1,h1,h2=>by
  simp only[List.getElem_cons_succ]
  exact DG h.2 i (by simpa using h1) (by simpa using h2)
def sA(K:Exit->S->Prop)(σ:S):Option Code->Prop
 |none=>K .normal σ
 |some .ret=>K .ret σ
 |some (.exit id)=>K (.exit id) σ
 |_=>False
theorem KV{K:Exit->S->Prop}{obj:Name->Option O}{nm:Name}{σ:S}{env:List E}{ps:List Nat}{a b:Code}(pd:Option Code)(h:obj nm=some (.loop env ps a b (if pd.isNone then .ready else .done) pd))
 (hK:sA K σ pd):qX K obj nm σ:=by
 unfold qX
 rw[h]
 rcases pd with _ | c
 ·exact hK
 ·cases c<;>first | exact hK.elim | exact hK
def LR(m:Nat):List Name:=(List.range m).map fun i=>[i,1]
def LI(m:Nat):List Name:=(List.range m).map fun i=>[i+1,1]
theorem pk(m:Nat):(LR m).length=m:=by simp[LR]
theorem gC(m:Nat):(LI m).length=m:=by simp[LI]
theorem Ri(m:Nat):(LR m).Nodup:=by
 unfold LR
 exact List.Pairwise.map _ (fun a b h=>by simpa using h) List.nodup_range
theorem BI{Ls:List Name}(hn:Ls.Nodup):Ls.map (cin Ls)=LR Ls.length:=by
 refine List.ext_getElem (by simp[LR]) fun i h1 h2=>?_
 simp only[List.getElem_map,LR,List.getElem_range,cin]
 rw[EA hn (by simpa using h1)]
theorem yE{R:Name}{Ls:List Name}(hn:Ls.Nodup)(hR:R∉Ls):Ls.map (cin (R::Ls))=LI Ls.length:=by
 refine List.ext_getElem (by simp[LI]) fun i h1 h2=>?_
 simp only[List.getElem_map,LI,List.getElem_range,cin]
 have h3:i<Ls.length:=by simpa using h1
 have h4:=EA (L:=R::Ls) (List.nodup_cons.2 ⟨hR,hn⟩) (i:=i+1) (by simp;omega)
 simp only[List.getElem_cons_succ]at h4
 rw[h4]
theorem PI(Ls:List Name)(t:Name):(LR Ls.length).map (cout Ls t)=Ls:=by
 refine List.ext_getElem (by simp[LR]) fun i h1 h2=>?_
 simp only[List.getElem_map,LR,List.getElem_range,cout]
 exact lh h2
theorem BE(R:Name)(Ls:List Name)(t:Name):(LI Ls.length).map (cout (R::Ls) t)=Ls:=by
 refine List.ext_getElem (by simp[LI]) fun i h1 h2=>?_
 simp only[List.getElem_map,LI,List.getElem_range,cout]
 rw[lh (by simpa using h2)]
 simp
def cC:List Name->List O->(Name->Option O)->(Name->Option O)
 |x::xs,o::os,obj=>cC xs os (upd obj x (some o))
 |_,_,obj=>obj
theorem uR:∀ {Ls:List Name} {F:List O} {obj:Name->Option O} {x:Name},x∉Ls->cC Ls F obj x=obj x
 |[],_,_,_,_=>by simp[cC]
 |_::_,[],_,_,_=>by simp[cC]
 |y::ys,o::os,obj,x,h=>by
  simp only[List.mem_cons,not_or]at h
  simp only[cC]
  rw[uR h.2,aY _ _ _ h.1]
theorem IU:∀ {Ls:List Name} {F:List O} {obj:Name->Option O},Ls.Nodup->Ls.length=F.length->cv (cC Ls F obj) Ls F
 |[],[],_,_,_=>trivial
 |[],_::_,_,_,h=>by simp at h
 |_::_,[],_,_,h=>by simp at h
 |y::ys,o::os,obj,hn,h=>by
  rw[List.nodup_cons]at hn
  refine⟨?_,IU (obj:=upd obj y (some o)) hn.2 (by simpa using h)⟩
  simp only[cC]
  rw[uR hn.1,aS]
def fi:Nat->List O->List (Nat×O)
 |_,[]=>[]
 |k,o::r=>(k,o)::fi (k+1) r
theorem zM{t:Name}{L:List Name}:∀ {Ls:List Name} {k:Nat} {F:List O} {obj:Name->Option O},Ls.length=F.length->(∀ i (h:i<Ls.length),L.getD (k+i) []=Ls[i])->
 cH L t (fi k F) obj=cC Ls (F.map (O.ren (cout L t))) obj
 |[],k,[],obj,_,_=>rfl
 |[],k,_::_,obj,h,_=>by simp at h
 |_::_,k,[],obj,h,_=>by simp at h
 |x::xs,k,o::os,obj,h,hL=>by
  simp only[fi,cH,List.map_cons,cC]
  have h0:=hL 0 (by simp)
  simp only[Nat.add_zero,List.getElem_cons_zero]at h0
  rw[h0]
  exact zM (by simpa using h) fun i hi=>by
   have :=hL (i+1) (by simpa using hi)
   rw[show k+1+i=k+(i+1)by omega]
   simpa using this
theorem Eb:∀ {F:List O} {k i:Nat} {o:O},i<k->fm (fi k F) i o=o
 |[],k,i,o,_=>rfl
 |f::r,k,i,o,h=>by
  simp only[fi,fm]
  rw[if_neg (by omega)]
  exact Eb (by omega)
theorem DD{σ:S}:∀ {F os:List O} {k:Nat} {u:List (Nat×O)},F.length=os.length->(∀ i,k<=i->∀ o,fm u i o=fm (fi k F) i o)->
 (∀ i (h:i<F.length),σ.obj [k+i,1]=some F[i])->sC σ u k os
 |[],[],_,_,_,_,_=>trivial
 |[],_::_,_,_,h,_,_=>by simp at h
 |_::_,[],_,_,h,_,_=>by simp at h
 |f::fs,o::os,k,u,h,hu,hs=>by
  refine⟨?_,DD (F:=fs) (by simpa using h) (fun i hi x=>?_) fun i hi=>?_⟩
  ·have h0:=hs 0 (by simp)
   simp only[Nat.add_zero,List.getElem_cons_zero]at h0
   rw[h0,hu k (Nat.le_refl _) o]
   simp only[fi,fm,if_true]
   rw[Eb (by omega)]
  ·rw[hu i (by omega) x]
   simp only[fi,fm]
   rw[if_neg (by omega)]
  ·have:=hs (i+1) (by simpa using hi)
   rw[show k+1+i=k+(i+1)by omega]
   simpa using this
structure Lp where
 m:Nat
 env:List Name->List E
 fam:List Name->Nat->List O
 ps:List Nat
 asg:Code
 body:Code
 n:Nat
 vals:Nat->List D
 st:Nat->Option Code
 fu:Nat
structure Lp.Ok (r:Lp):Prop where
 len:∀ Ls s,Ls.length=r.m->(r.fam Ls s).length=r.m
 renE:∀ f Ls,Ls.length=r.m->(r.env Ls).map (E.ren f)=r.env (Ls.map f)
 renF:∀ f Ls s,Ls.length=r.m->(r.fam Ls s).map (O.ren f)=r.fam (Ls.map f) s
 reach:∀ Ls s obj acc k,Ls.length=r.m->Ls.Nodup->(∀ x∈Ls,x∉acc)->cv obj Ls (r.fam Ls s)->dk obj (k+r.fu) (cw ((r.env Ls).map (·.d))) acc=acc++Ls
 closE:∀ dom Ls,Ls.length=r.m->(∀ x∈Ls,dom x=true)->D.closL dom ((r.env Ls).map (·.d))=true
 closF:∀ dom Ls s,Ls.length=r.m->(∀ x∈Ls,dom x=true)->∀ o∈r.fam Ls s,O.clos dom o=true
 psz:∀ Ls,Ls.length=r.m->(r.ps.all fun p=>decide (p<(r.env Ls).length))=true
 args:∀ s,(r.vals s).length=r.ps.length
 fuel:r.fu<=2000
 vnam:∀ s,cw (r.vals s)=[]
 vcl:∀ s dom,D.closL dom (r.vals s)=true
 vren:∀ s f,D.renL f (r.vals s)=r.vals s
 inj:∀ s s',s<r.n->s'<r.n->r.vals s=r.vals s'->s=s'
theorem VE(a:List D):∀ vs:List V,cw (a++vs.map D.v)=cw a:=by
 intro vs
 have h0:∀ vs:List V,cw (vs.map D.v)=[]:=by
  intro vs
  induction vs with
  |nil=>rfl
  |cons x r ih=>simp only[List.map_cons,cw,ki,List.nil_append,ih]
 induction a with
 |nil=>simpa[cw]using h0 vs
 |cons x r ih=>simp only[List.cons_append,cw,ih]
theorem abJ(dom:Name->Bool)(vs:List V):∀ a:List D,D.closL dom (a++vs.map D.v)=D.closL dom a:=by
 have h0:∀ vs:List V,D.closL dom (vs.map D.v)=true:=by
  intro vs
  induction vs with
  |nil=>rfl
  |cons x r ih=>simp only[List.map_cons,D.closL,D.clos,ih,Bool.and_self]
 intro a
 induction a with
 |nil=>simpa[D.closL]using h0 vs
 |cons x r ih=>simp only[List.cons_append,D.closL,ih]
theorem Uj(f:Name->Name)(vs:List V):D.renL f (vs.map D.v)=vs.map D.v:=by
 induction vs with
 |nil=>rfl
 |cons x r ih=>simp only[List.map_cons,D.renL,D.ren,ih]
theorem VF(a b:List D):cw (a++b)=cw a++cw b:=by
 induction a with
 |nil=>rfl
 |cons x r ih=>simp only[List.cons_append,cw,ih,List.append_assoc]
theorem abK(dom:Name->Bool)(a b:List D):D.closL dom (a++b)=(D.closL dom a&&D.closL dom b):=by
 induction a with
 |nil=>simp[D.closL]
 |cons x r ih=>simp only[List.cons_append,D.closL,ih,Bool.and_assoc]
noncomputable def Lp.y(r:Lp):YSpec where
 pre:=fun env ps asg body os ds=>∃ s,s<r.n/\(∀ j,j<s->r.st j=none)/\env=r.env (LR r.m)/\ps=r.ps/\asg=r.asg/\body=r.body/\os=r.fam (LR r.m) s/\ds=r.vals s
 out:=fun _ _ _ _ _ ds=>by
  classical exact if h:∃ s,s<r.n/\ds=r.vals s then(⟨fi 0 (r.fam (LR r.m) (h.choose+1)),[],.v (.bool true)⟩,r.st h.choose)else(⟨[],[],.any⟩,none)
theorem Lp.y_out{r:Lp}(hr:r.Ok){s:Nat}(hs:s<r.n)(env:List E)(ps:List Nat)(asg body:Code)(os:List O):
 r.y.out env ps asg body os (r.vals s)=(⟨fi 0 (r.fam (LR r.m) (s+1)),[],.v (.bool true)⟩,r.st s):=by
 have h:∃ s',s'<r.n/\r.vals s=r.vals s':=⟨s,hs,rfl⟩
 have e:h.choose=s:=(hr.inj _ _ hs h.choose_spec.1 h.choose_spec.2).symm
 simp only[Lp.y]
 rw[dif_pos h,e]
def Uc(m:Nat)(F:List O)(p:Option Code):Exit->S->Prop
 | .normal,σ=>p=none/\cv σ.obj (LR m) F
 | .ret,σ=>p=some .ret/\cv σ.obj (LR m) F
 | .exit id,σ=>p=some (.exit id)/\cv σ.obj (LR m) F
 |_,_=>False
theorem aa7{os F:List O}{σ:S}{m:Nat}(h1:os.length=m)(h2:F.length=m)(hc:∀ dom:Name->Bool,(∀ x∈LR m,dom x=true)->∀ o∈F,O.clos dom o=true)(h:cv σ.obj (LR m) F):
 gQ os ⟨fi 0 F,[],.v (.bool true)⟩ σ:=by
 have tr:∀ i (hi:i<F.length),σ.obj [i,1]=some F[i]:=by
  rw[ke]at h
  intro i hi
  have h3:=congrArg (fun l=>l[i]?) h
  have bK:i<m:=by omega
  simpa[LR,hi,bK]using h3
 refine⟨DD (F:=F) (by omega) (fun i _ o=>rfl) fun i hi=>by rw[Nat.zero_add];exact tr i hi,trivial,?_⟩
 have rF:∀ x∈LR m,dp os.length [] x=true:=by
  intro x hx
  obtain⟨i,hi,rfl⟩:=List.mem_map.1 hx
  have :=List.mem_range.1 hi
  simp[dp]
  omega
 have eO:∀ (F':List O) (k:Nat),(∀ o∈F',O.clos (dp os.length []) o=true)->k+F'.length<=os.length->((fi k F').all fun x=>O.clos (dp os.length []) x.2&&decide (x.1<os.length))=true:=by
  intro F'
  induction F' with
  |nil=>intros;rfl
  |cons f fs ih=>
   intro k hf hk
   simp only[List.length_cons]at hk
   simp only[fi,List.all_cons,Bool.and_eq_true,decide_eq_true_eq]
   exact⟨⟨hf f (by simp),by omega⟩,by have:=ih (k+1) (fun o ho=>hf o (by simp[ho])) (by omega);simpa using this⟩
 have :=eO F 0 (hc _ rF) (by omega)
 simp only[D.clos,this,List.all_nil,List.map_nil,distinct,Bool.and_self]
theorem Lp.y_sound{P:Program}{r:Lp}(hr:r.Ok)(h:∀ s,s<r.n->(∀ j,j<s->r.st j=none)->
 CW P r.asg ⟨(r.env (LR r.m)).length,qD (tO (r.env (LR r.m))) r.ps (r.vals s),aR (r.fam (LR r.m) s),[0],0⟩ (J8 fun σ1=>CW P r.body σ1 (Uc r.m (r.fam (LR r.m) (s+1)) (r.st s)))):aL P yid r.y.toSpec:=by
 refine HW ?_
 rintro env ps asg body os ds ⟨s,hs,hj,rfl,rfl,rfl,rfl,rfl,rfl⟩ _
 rw[Lp.y_out hr hs]
 refine CW.mono (h s hs hj) fun e σ hk=>?_
 cases e with
 |normal=>
  refine CW.mono hk fun e σ hk=>?_
  have fin:cv σ.obj (LR r.m) (r.fam (LR r.m) (s+1))->gQ (r.fam (LR r.m) s) ⟨fi 0 (r.fam (LR r.m) (s+1)),[],.v (.bool true)⟩ σ:=
   aa7 (hr.len _ _ (pk _)) (hr.len _ _ (pk _)) fun dom hd=>hr.closF dom _ _ (pk _) hd
  cases e with
  |normal=>exact⟨hk.1,fin hk.2⟩
  |ret=>exact⟨hk.1,fin hk.2⟩
  |exit id=>exact⟨hk.1,fin hk.2⟩
  |goto l=>exact hk.elim
  |panic c=>exact hk.elim
  |outgrown=>exact hk.elim
 |ret=>exact hk.elim
 |exit id=>exact hk.elim
 |goto l=>exact hk.elim
 |panic c=>exact hk.elim
 |outgrown=>exact hk.elim
def Lp.rc(r:Lp)(Ls:List Name)(st:LoopState)(pd:Option Code):O:=.loop (r.env Ls) r.ps r.asg r.body st pd
theorem Lp.y_app{r:Lp}(hr:r.Ok){s:Nat}(hs:s<r.n)(hj:∀ j,j<s->r.st j=none){obj:Name->Option O}{t R:Name}{Ls:List Name}(hl:Ls.length=r.m)(hn:Ls.Nodup)(hR:R∉Ls)
 (h0:obj R=some (r.rc Ls .ready none)) (hF:cv obj Ls (r.fam Ls s)):
 r.y.toSpec.app obj t (.yld R::r.vals s)=⟨True,.v (.bool (r.st s).isNone),upd (cC Ls (r.fam Ls (s+1)) obj) R (some (r.rc Ls (if (r.st s).isNone then .ready else .done) (r.st s)))⟩:=by
 have iy:reach obj (roots (r.env Ls) (r.vals s))=Ls:=by
  unfold reach roots
  rw[VF,hr.vnam,List.append_nil]
  have :=hr.reach Ls s obj [] (3000-r.fu) hl hn (fun _ _=>by simp) hF
  rwa [show 3000-r.fu+r.fu=3000 by have:=hr.fuel;omega]at this
 have e1:cF obj (roots (r.env Ls) (r.vals s))=r.fam (LR r.m) s:=by
  unfold cF
  rw[iy]
  have :Ls.map (cE Ls obj)=(r.fam Ls s).map (O.ren (cin Ls)):=by
   rw[ke]at hF
   refine List.ext_getElem (by simp[hr.len _ _ hl,hl]) fun i h1 h2=>?_
   have h3:i<Ls.length:=by simpa using h1
   have h4:i<(r.fam Ls s).length:=by rw[hr.len _ _ hl,<-hl];exact h3
   have h5:=congrArg (fun l=>l[i]?) hF
   have h6:obj Ls[i]=some (r.fam Ls s)[i]:=by simpa[h3,h4]using h5
   simp only[List.getElem_map,cE,h6]
  rw[this,hr.renF _ _ _ hl,BI hn,hl]
 have e2:ja obj (r.env Ls) (r.vals s)=r.env (LR r.m):=by
  unfold ja
  rw[iy,hr.renE _ _ hl,BI hn,hl]
 have e3:jX obj (r.env Ls) (r.vals s)=r.vals s:=by
  unfold jX
  exact hr.vren s _
 have e4:r.y.o obj (r.env Ls) r.ps r.asg r.body (r.vals s)=(⟨fi 0 (r.fam (LR r.m) (s+1)),[],.v (.bool true)⟩,r.st s):=by
  unfold YSpec.o
  rw[e1,e2,e3,Lp.y_out hr hs]
 have dM:r.y.pre (r.env (LR r.m)) r.ps r.asg r.body (r.fam (LR r.m) s) (r.vals s):=⟨s,hs,hj,rfl,rfl,rfl,rfl,rfl,rfl⟩
 have cl:D.closL (cJ Ls) (roots (r.env Ls) (r.vals s))=true:=by
  unfold roots
  rw[abK,hr.vcl,Bool.and_true]
  exact hr.closE _ _ hl fun x hx=>gv.2 hx
 have jl:shut obj Ls=true:=by
  unfold shut
  rw[List.all_eq_true]
  intro x hx
  obtain⟨i,hi,rfl⟩:=List.getElem_of_mem hx
  rw[ke]at hF
  have h4:i<(r.fam Ls s).length:=by rw[hr.len _ _ hl,<-hl];exact hi
  have h5:=congrArg (fun l=>l[i]?) hF
  have h6:obj Ls[i]=some (r.fam Ls s)[i]:=by simpa[hi,h4]using h5
  rw[h6]
  exact hr.closF _ _ _ hl (fun x hx=>gv.2 hx) _ (List.getElem_mem h4)
 have Zo:cJ Ls R=false:=by
  cases h:cJ Ls R with
  |false=>rfl
  |true=>exact(hR (gv.1 h)).elim
 have hp:cH Ls t (fi 0 (r.fam (LR r.m) (s+1))) obj=cC Ls (r.fam Ls (s+1)) obj:=by
  rw[zM (Ls:=Ls) (by rw[hr.len _ _ (pk _),hl]) fun i hi=>by rw[Nat.zero_add];exact lh hi,hr.renF _ _ _ (pk _)]
  have :(LR r.m).map (cout Ls t)=Ls:=by rw[<-hl];exact PI Ls t
  rw[this]
 unfold Lp.rc at h0
 simp only[YSpec.toSpec,h0,e1,e2,e3,e4,iy,cl,jl,Zo,fresh,List.all_nil,Bool.and_self,Bool.not_false,hr.args,decide_true,hr.psz Ls hl,dM,dv,hp,and_self]
 rfl
def Lp.e(r:Lp):Nat:=match (List.range r.n).find? (fun s=>(r.st s).isSome)with | some s=>s+1 | none=>r.n
def Lp.pd(r:Lp):Option Code:=match (List.range r.n).find? (fun s=>(r.st s).isSome)with | some s=>r.st s | none=>none
def Lp.fin(r:Lp)(Ls:List Name):O:=r.rc Ls (if r.pd.isNone then .ready else .done) r.pd
def Lp.it(r:Lp)(caps:List V):CSpec where
 pre:=fun os ds=>os=r.rc (LI r.m) .ready none::r.fam (LI r.m) 0/\ds=.yld [0,1]::caps.map .v
 out:=fun _ _=>⟨(0,r.fin (LI r.m))::fi 1 (r.fam (LI r.m) r.e),[],.tup []⟩
theorem Lp.it_app{r:Lp}(hr:r.Ok){caps:List V}{obj:Name->Option O}{t R:Name}{Ls:List Name}(hl:Ls.length=r.m)(hn:Ls.Nodup)(hR:R∉Ls)
 (h0:obj R=some (r.rc Ls .ready none)) (hF:cv obj Ls (r.fam Ls 0)):
 (r.it caps).toSpec.app obj t (.yld R::caps.map .v)=⟨True,.tup [],cC Ls (r.fam Ls r.e) (upd obj R (some (r.fin Ls)))⟩:=by
 have rA:(R::Ls).Nodup:=List.nodup_cons.2 ⟨hR,hn⟩
 have iy:reach obj (.yld R::caps.map .v)=R::Ls:=by
  have h1:cw (.yld R::caps.map .v)=[R]:=by
   have :=VE [.yld R] caps
   simpa[cw,ki]using this
  unfold reach
  rw[h1]
  show dk obj (2999+1) [R] []=R::Ls
  unfold Lp.rc at h0
  simp only[dk,cJ,List.any_nil,Bool.false_eq_true,if_false,h0,kQ,List.append_nil,List.nil_append]
  have :=hr.reach Ls 0 obj [R] (2999-r.fu) hl hn (fun x hx=>by simp only[List.mem_singleton];rintro rfl;exact hR hx) hF
  rw[show 2999-r.fu+r.fu=2999 by have:=hr.fuel;omega]at this
  simpa using this
 have FY:∀ s,cv obj Ls (r.fam Ls s)->Ls.map (cE (R::Ls) obj)=(r.fam Ls s).map (O.ren (cin (R::Ls))):=by
  intro s hF
  rw[ke]at hF
  refine List.ext_getElem (by simp[hr.len _ _ hl,hl]) fun i h1 h2=>?_
  have h3:i<Ls.length:=by simpa using h1
  have h4:i<(r.fam Ls s).length:=by rw[hr.len _ _ hl,<-hl];exact h3
  have h5:=congrArg (fun l=>l[i]?) hF
  have h6:obj Ls[i]=some (r.fam Ls s)[i]:=by simpa[h3,h4]using h5
  simp only[List.getElem_map,cE,h6]
 have e1:cF obj (.yld R::caps.map .v)=r.rc (LI r.m) .ready none::r.fam (LI r.m) 0:=by
  unfold cF
  rw[iy,List.map_cons,FY 0 hF,hr.renF _ _ _ hl,yE hn hR,hl]
  congr 1
  unfold Lp.rc at h0 |-
  simp only[cE,h0,O.ren]
  rw[hr.renE _ _ hl,yE hn hR,hl]
 have e2:db obj (.yld R::caps.map .v)=.yld [0,1]::caps.map .v:=by
  unfold db
  rw[iy]
  simp only[D.renL,D.ren,Uj,cin,idx,if_true]
 have dM:(r.it caps).pre (r.rc (LI r.m) .ready none::r.fam (LI r.m) 0) (.yld [0,1]::caps.map .v):=⟨rfl,rfl⟩
 have gN:∀ os ds,(r.it caps).out os ds=⟨(0,r.fin (LI r.m))::fi 1 (r.fam (LI r.m) r.e),[],.tup []⟩:=fun _ _=>rfl
 have vH:∀ x∈Ls,cJ (R::Ls) x=true:=fun x hx=>gv.2 (List.mem_cons_of_mem _ hx)
 have jl:shut obj (R::Ls)=true:=by
  unfold shut
  rw[List.all_eq_true]
  intro x hx
  rcases List.mem_cons.1 hx with rfl | hx
  ·rw[h0]
   unfold Lp.rc
   exact hr.closE _ _ hl vH
  obtain⟨i,hi,rfl⟩:=List.getElem_of_mem hx
  rw[ke]at hF
  have h4:i<(r.fam Ls 0).length:=by rw[hr.len _ _ hl,<-hl];exact hi
  have h5:=congrArg (fun l=>l[i]?) hF
  have h6:obj Ls[i]=some (r.fam Ls 0)[i]:=by simpa[hi,h4]using h5
  rw[h6]
  exact hr.closF _ _ _ hl vH _ (List.getElem_mem h4)
 have cl:D.closL (cJ (R::Ls)) (.yld R::caps.map .v)=true:=by
  have :=abJ (cJ (R::Ls)) caps [.yld R]
  simp only[List.singleton_append]at this
  rw[this]
  simp[D.closL,D.clos,cJ]
 have hp:∀ obj',cH (R::Ls) t (fi 1 (r.fam (LI r.m) r.e)) obj'=cC Ls (r.fam Ls r.e) obj':=by
  intro obj'
  rw[zM (Ls:=Ls) (by rw[hr.len _ _ (gC _),hl]) fun i hi=>by
   rw[Nat.add_comm,List.getD_cons_succ];exact lh hi,hr.renF _ _ _ (gC _)]
  have :(LI r.m).map (cout (R::Ls) t)=Ls:=by rw[<-hl];exact BE R Ls t
  rw[this]
 have hf:O.ren (cout (R::Ls) t) (r.fin (LI r.m))=r.fin Ls:=by
  unfold Lp.fin Lp.rc
  simp only[O.ren]
  rw[hr.renE _ _ (gC _)]
  have :(LI r.m).map (cout (R::Ls) t)=Ls:=by rw[<-hl];exact BE R Ls t
  rw[this]
 simp only[CSpec.toSpec,e1,e2,iy,gN,jl,cl,fresh,List.all_nil,Bool.and_self,dM,and_self,dv,cH,List.getD_cons_zero,hf,hp,D.ren,D.renL]
theorem Lp.it_end{P:Program}{r:Lp}(hr:r.Ok){σ:S}(h0:σ.obj [0,1]=some (r.fin (LI r.m)))(h1:cv σ.obj (LI r.m) (r.fam (LI r.m) r.e)):
 (bX P σ []).ok/\(bX P σ []).d=.tup []/\gQ (r.rc (LI r.m) .ready none::r.fam (LI r.m) 0) ⟨(0,r.fin (LI r.m))::fi 1 (r.fam (LI r.m) r.e),[],.tup []⟩ σ:=by
 have NH:=hr.len (LI r.m) 0 (gC _)
 have hle:=hr.len (LI r.m) r.e (gC _)
 have tr:∀ i (hi:i<(r.fam (LI r.m) r.e).length),σ.obj [1+i,1]=some (r.fam (LI r.m) r.e)[i]:=by
  intro i hi
  have h3:=DG h1 i (by rw[gC];omega) hi
  rw[Nat.add_comm]
  simpa only[LI,List.getElem_map,List.getElem_range]using h3
 have rF:∀ x∈LI r.m,dp (r.m+1) [] x=true:=by
  intro x hx
  obtain⟨i,hi,rfl⟩:=List.mem_map.1 hx
  have :=List.mem_range.1 hi
  simp[dp]
  omega
 refine⟨fun x hx=>by simp at hx,rfl,⟨⟨?_,DD (F:=r.fam (LI r.m) r.e) (by omega) (fun i hi o=>by simp only[fm];rw[if_neg (by omega)]) tr⟩,trivial,?_⟩⟩
 ·simp only[fm,if_true]
  rw[h0,Eb (by omega)]
 have eO:∀ (F':List O) (k:Nat),(∀ o∈F',O.clos (dp (r.m+1) []) o=true)->k+F'.length<=r.m+1->((fi k F').all fun x=>O.clos (dp (r.m+1) []) x.2&&decide (x.1<r.m+1))=true:=by
  intro F'
  induction F' with
  |nil=>intros;rfl
  |cons f fs ih=>
   intro k hf hk
   simp only[List.length_cons]at hk
   simp only[fi,List.all_cons,Bool.and_eq_true,decide_eq_true_eq]
   exact⟨⟨hf f (by simp),by omega⟩,by have:=ih (k+1) (fun o ho=>hf o (by simp[ho])) (by omega);simpa using this⟩
 have h5:=eO (r.fam (LI r.m) r.e) 1 (hr.closF _ _ _ (gC _) rF) (by omega)
 have h6:O.clos (dp (r.m+1) []) (r.fin (LI r.m))=true:=hr.closE _ _ (gC _) rF
 have hlen:(r.rc (LI r.m) .ready none::r.fam (LI r.m) 0).length=r.m+1:=by rw[List.length_cons,NH]
 have h7:D.clos (dp (r.m+1) []) (.tup [])=true:=rfl
 simp only[hlen,h7,List.all_cons,h6,h5,List.all_nil,List.map_nil,distinct,Bool.and_self,Bool.true_and,Bool.and_true]
 simp
theorem ab7{P:Program}{Γ:FuncId->Option Spec}(hΓ:∀ f s,Γ f=some s->aL P f s){r:Lp}(hr:r.Ok){caps:List V}{g:Operand}{ps:Array Tmp}{asg body:Code}{σ:S}{rest:List Code}{K:Exit->S->Prop}(k k':Nat){f:FuncId}{Ls:List Name}
 (hc:cQ σ g=true) (hg:aw σ g=.v (.clo (.func f) [] caps)) (aF:f≠yid) (hs:Γ f=some (r.it caps).toSpec) (oc:σ.obj (k::σ.pre)=none)
 (he:(List.range σ.nt).map σ.env=r.env Ls) (fR:ps.toList=r.ps) (ha:asg=r.asg) (hb:body=r.body) (hl:Ls.length=r.m) (hn:Ls.Nodup) (hR:(k::σ.pre)∉Ls) (hF:cv σ.obj Ls (r.fam Ls 0))
 (hK:∀ o:O,sA (iN (fun σ'=>CL P rest σ' K) K) { σ with obj:=upd (cC Ls (r.fam Ls r.e) σ.obj) (k::σ.pre) (some o) } r.pd):CL P (.rangeFunc g ps asg body::rest) σ K:=by
 subst ha
 subst hb
 generalize qi:k::σ.pre=R at *
 have F2:∀ x∈Ls,(upd σ.obj R (some (r.rc Ls .ready none))) x=σ.obj x:=fun x hx=>aY _ _ _ (by rintro rfl;exact hR hx)
 have tC:=Lp.it_app hr (caps:=caps) (t:=k'::σ.pre) hl hn hR (aS σ.obj R (some (r.rc Ls .ready none))) (z5 hF F2)
 have xO:O.loop ((List.range σ.nt).map σ.env) ps.toList r.asg r.body .ready none=r.rc Ls .ready none:=by unfold Lp.rc;rw[he,fR]
 have mU:eY (aw σ g) [.yld R]=.yld R::caps.map .v:=by rw[hg];rfl
 have dT:gm (aw σ g)=some f:=by rw[hg];simp[gm,aF]
 have EM:∀ (F:List O) (obj:Name->Option O) (a b:Option O),upd (cC Ls F (upd obj R a)) R b=upd (cC Ls F obj) R b:=by
  intro F obj a b
  funext x
  by_cases h:x=R
  ·subst h;rw[aS,aS]
  ·rw[aY _ _ _ h,aY _ _ _ h]
   have :∀ (Ls:List Name) (F:List O) (o1 o2:Name->Option O),o1 x=o2 x->cC Ls F o1 x=cC Ls F o2 x:=by
    intro Ls
    induction Ls with
    |nil=>intro F o1 o2 h;simpa[cC]using h
    |cons y ys ih=>
     intro F o1 o2 h
     cases F with
     |nil=>simpa[cC]using h
     |cons f fs=>
      simp only[cC]
      refine ih fs _ _ ?_
      by_cases e:x=y
      ·subst e;rw[aS,aS]
      ·rw[aY _ _ _ e,aY _ _ _ e,h]
   exact this Ls F _ _ (aY _ _ _ h)
 refine PQ hΓ k k' hc dT aF hs (by rw[qi];exact oc) ?_ ?_
 ·rw[qi,mU,xO,tC];trivial
 ·rw[qi,mU,xO,tC]
  have ld:cC Ls (r.fam Ls r.e) (upd (upd σ.obj R (some (r.rc Ls .ready none))) R (some (r.fin Ls))) R=some (r.fin Ls):=by rw[uR hR,aS]
  have pV:lC (cC Ls (r.fam Ls r.e) (upd (upd σ.obj R (some (r.rc Ls .ready none))) R (some (r.fin Ls)))) R=
      upd (cC Ls (r.fam Ls r.e) σ.obj) R (some (r.rc Ls .exhausted r.pd)):=by
   unfold lC
   rw[ld]
   unfold Lp.fin Lp.rc
   simp only[EM]
  refine KV r.pd ld ?_
  rw[pV]
  exact hK (r.rc Ls .exhausted r.pd)
structure Cq (r:Lp) (caps:List Name->List D):Prop where
 ren:∀ f Ls,Ls.length=r.m->D.renL f (caps Ls)=caps (Ls.map f)
 clo:∀ dom Ls,Ls.length=r.m->(∀ x∈Ls,dom x=true)->D.closL dom (caps Ls)=true
 reach:∀ Ls s obj R k,Ls.length=r.m->(R::Ls).Nodup->cv obj Ls (r.fam Ls s)->obj R=some (r.rc Ls .ready none)->dk obj (k+r.fu+1) (R::cw (caps Ls)) []=R::Ls
def Lp.itC(r:Lp)(caps:List Name->List D):CSpec where
 pre:=fun os ds=>os=r.rc (LI r.m) .ready none::r.fam (LI r.m) 0/\ds=.yld [0,1]::caps (LI r.m)
 out:=fun _ _=>⟨(0,r.fin (LI r.m))::fi 1 (r.fam (LI r.m) r.e),[],.tup []⟩
theorem Lp.itC_app{r:Lp}(hr:r.Ok){caps:List Name->List D}(yg:Cq r caps){obj:Name->Option O}{t R:Name}{Ls:List Name}(hl:Ls.length=r.m)(hn:Ls.Nodup)(hR:R∉Ls)
 (h0:obj R=some (r.rc Ls .ready none)) (hF:cv obj Ls (r.fam Ls 0)):
 (r.itC caps).toSpec.app obj t (.yld R::caps Ls)=⟨True,.tup [],cC Ls (r.fam Ls r.e) (upd obj R (some (r.fin Ls)))⟩:=by
 have rA:(R::Ls).Nodup:=List.nodup_cons.2 ⟨hR,hn⟩
 have iy:reach obj (.yld R::caps Ls)=R::Ls:=by
  unfold reach
  have :=yg.reach Ls 0 obj R (2999-r.fu) hl rA hF h0
  rw[show 2999-r.fu+r.fu+1=3000 by have:=hr.fuel;omega]at this
  exact this
 have FY:∀ s,cv obj Ls (r.fam Ls s)->Ls.map (cE (R::Ls) obj)=(r.fam Ls s).map (O.ren (cin (R::Ls))):=by
  intro s hF
  rw[ke]at hF
  refine List.ext_getElem (by simp[hr.len _ _ hl,hl]) fun i h1 h2=>?_
  have h3:i<Ls.length:=by simpa using h1
  have h4:i<(r.fam Ls s).length:=by rw[hr.len _ _ hl,<-hl];exact h3
  have h5:=congrArg (fun l=>l[i]?) hF
  have h6:obj Ls[i]=some (r.fam Ls s)[i]:=by simpa[h3,h4]using h5
  simp only[List.getElem_map,cE,h6]
 have e1:cF obj (.yld R::caps Ls)=r.rc (LI r.m) .ready none::r.fam (LI r.m) 0:=by
  unfold cF
  rw[iy,List.map_cons,FY 0 hF,hr.renF _ _ _ hl,yE hn hR,hl]
  congr 1
  unfold Lp.rc at h0 |-
  simp only[cE,h0,O.ren]
  rw[hr.renE _ _ hl,yE hn hR,hl]
 have e2:db obj (.yld R::caps Ls)=.yld [0,1]::caps (LI r.m):=by
  unfold db
  rw[iy]
  simp only[D.renL,D.ren,yg.ren _ _ hl]
  rw[yE hn hR,hl]
  simp only[cin,idx,if_true]
 have dM:(r.itC caps).pre (r.rc (LI r.m) .ready none::r.fam (LI r.m) 0) (.yld [0,1]::caps (LI r.m)):=⟨rfl,rfl⟩
 have gN:∀ os ds,(r.itC caps).out os ds=⟨(0,r.fin (LI r.m))::fi 1 (r.fam (LI r.m) r.e),[],.tup []⟩:=fun _ _=>rfl
 have vH:∀ x∈Ls,cJ (R::Ls) x=true:=fun x hx=>gv.2 (List.mem_cons_of_mem _ hx)
 have jl:shut obj (R::Ls)=true:=by
  unfold shut
  rw[List.all_eq_true]
  intro x hx
  rcases List.mem_cons.1 hx with rfl | hx
  ·rw[h0]
   unfold Lp.rc
   exact hr.closE _ _ hl vH
  obtain⟨i,hi,rfl⟩:=List.getElem_of_mem hx
  rw[ke]at hF
  have h4:i<(r.fam Ls 0).length:=by rw[hr.len _ _ hl,<-hl];exact hi
  have h5:=congrArg (fun l=>l[i]?) hF
  have h6:obj Ls[i]=some (r.fam Ls 0)[i]:=by simpa[hi,h4]using h5
  rw[h6]
  exact hr.closF _ _ _ hl vH _ (List.getElem_mem h4)
 have cl:D.closL (cJ (R::Ls)) (.yld R::caps Ls)=true:=by
  show (cJ (R::Ls) R&&D.closL _ _)=true
  rw[yg.clo _ _ hl vH]
  simp[cJ]
 have hp:∀ obj',cH (R::Ls) t (fi 1 (r.fam (LI r.m) r.e)) obj'=cC Ls (r.fam Ls r.e) obj':=by
  intro obj'
  rw[zM (Ls:=Ls) (by rw[hr.len _ _ (gC _),hl]) fun i hi=>by
   rw[Nat.add_comm,List.getD_cons_succ];exact lh hi,hr.renF _ _ _ (gC _)]
  have :(LI r.m).map (cout (R::Ls) t)=Ls:=by rw[<-hl];exact BE R Ls t
  rw[this]
 have hf:O.ren (cout (R::Ls) t) (r.fin (LI r.m))=r.fin Ls:=by
  unfold Lp.fin Lp.rc
  simp only[O.ren]
  rw[hr.renE _ _ (gC _)]
  have :(LI r.m).map (cout (R::Ls) t)=Ls:=by rw[<-hl];exact BE R Ls t
  rw[this]
 simp only[CSpec.toSpec,e1,e2,iy,gN,jl,cl,fresh,List.all_nil,Bool.and_self,dM,and_self,dv,cH,List.getD_cons_zero,hf,hp,D.ren,D.renL]
theorem PS{P:Program}{r:Lp}(hr:r.Ok){caps:List Name->List D}(yg:Cq r caps){g:Operand}{ps:Array Tmp}{asg body:Code}{σ:S}{rest:List Code}{K:Exit->S->Prop}(k k':Nat){f:FuncId}{Ls:List Name}
 (hc:cQ σ g=true) (hg:aw σ g=.clo (.func f) [] (caps Ls)) (aF:f≠yid) (hs:aL P f (r.itC caps).toSpec) (oc:σ.obj (k::σ.pre)=none)
 (he:(List.range σ.nt).map σ.env=r.env Ls) (fR:ps.toList=r.ps) (ha:asg=r.asg) (hb:body=r.body) (hl:Ls.length=r.m) (hn:Ls.Nodup) (hR:(k::σ.pre)∉Ls) (hF:cv σ.obj Ls (r.fam Ls 0))
 (hK:∀ o:O,sA (iN (fun σ'=>CL P rest σ' K) K) { σ with obj:=upd (cC Ls (r.fam Ls r.e) σ.obj) (k::σ.pre) (some o) } r.pd):CL P (.rangeFunc g ps asg body::rest) σ K:=by
 subst ha
 subst hb
 generalize qi:k::σ.pre=R at *
 have F2:∀ x∈Ls,(upd σ.obj R (some (r.rc Ls .ready none))) x=σ.obj x:=fun x hx=>aY _ _ _ (by rintro rfl;exact hR hx)
 have tC:=Lp.itC_app hr yg (t:=k'::σ.pre) hl hn hR (aS σ.obj R (some (r.rc Ls .ready none))) (z5 hF F2)
 have xO:O.loop ((List.range σ.nt).map σ.env) ps.toList r.asg r.body .ready none=r.rc Ls .ready none:=by unfold Lp.rc;rw[he,fR]
 have mU:eY (aw σ g) [.yld R]=.yld R::caps Ls:=by rw[hg];rfl
 have dT:gm (aw σ g)=some f:=by rw[hg];simp[gm,aF]
 have EM:∀ (F:List O) (obj:Name->Option O) (a b:Option O),upd (cC Ls F (upd obj R a)) R b=upd (cC Ls F obj) R b:=by
  intro F obj a b
  funext x
  by_cases h:x=R
  ·subst h;rw[aS,aS]
  ·rw[aY _ _ _ h,aY _ _ _ h]
   have :∀ (Ls:List Name) (F:List O) (o1 o2:Name->Option O),o1 x=o2 x->cC Ls F o1 x=cC Ls F o2 x:=by
    intro Ls
    induction Ls with
    |nil=>intro F o1 o2 h;simpa[cC]using h
    |cons y ys ih=>
     intro F o1 o2 h
     cases F with
     |nil=>simpa[cC]using h
     |cons f fs=>
      simp only[cC]
      refine ih fs _ _ ?_
      by_cases e:x=y
      ·subst e;rw[aS,aS]
      ·rw[aY _ _ _ e,aY _ _ _ e,h]
   exact this Ls F _ _ (aY _ _ _ h)
 refine PQ (Γ:=fun x=>if x=f then some (r.itC caps).toSpec else none) (fun x s hx=>by
  split at hx
  ·rename_i e;cases hx;subst e;exact hs
  ·cases hx) k k' hc dT aF (if_pos rfl) (by rw[qi];exact oc) ?_ ?_
 ·rw[qi,mU,xO,tC];trivial
 ·rw[qi,mU,xO,tC]
  have ld:cC Ls (r.fam Ls r.e) (upd (upd σ.obj R (some (r.rc Ls .ready none))) R (some (r.fin Ls))) R=some (r.fin Ls):=by rw[uR hR,aS]
  have pV:lC (cC Ls (r.fam Ls r.e) (upd (upd σ.obj R (some (r.rc Ls .ready none))) R (some (r.fin Ls)))) R=
      upd (cC Ls (r.fam Ls r.e) σ.obj) R (some (r.rc Ls .exhausted r.pd)):=by
   unfold lC
   rw[ld]
   unfold Lp.fin Lp.rc
   simp only[EM]
  refine KV r.pd ld ?_
  rw[pV]
  exact hK (r.rc Ls .exhausted r.pd)
theorem RL{σ:S}(b nm:Name)(i k sz:Nat)(cs:List D)(L:List V)(hb:σ.obj b=some (.box cs))(hi:cs[i]?=some (.msl nm k))(hn:σ.obj nm=some (.arr sz L))(hk:k=L.length):
 iJ σ ⟨σ.nt,σ.env,upd (upd σ.obj nm (some (.farr sz L))) b (some (.box (cs.set i (.v (.sl L))))),σ.pre,σ.base⟩:=by
 intro G φ m a w hC
 have aF:b≠nm:=fun e=>by subst e;rw[hb]at hn;cases hn
 obtain⟨h1,h2,h3,us,T,f,h4,h5,h6,h7⟩:=hC.objs b _ hb
 obtain⟨AX,FH⟩:=List.getElem?_eq_some_iff.1 hi
 have h0:i<us.size:=by omega
 have h8:=h7 i AX h0
 rw[FH]at h8
 have c0:aK 6 σ.obj (.msl nm k)=⟨k=L.length,.sl L,upd σ.obj nm (some (.farr sz L))⟩:=by simp only[aK,hn]
 obtain⟨m2,k1,k2,k3,k4,_⟩:=qm 6 _ _ _ _ _ _ hC _ _ h8 (by rw[c0];exact hk)
 rw[c0]at k2 k3 k4
 simp only at k2 k3 k4
 have dn:(upd σ.obj nm (some (.farr sz L))) b=some (.box cs):=by rw[aY _ _ _ aF];exact hb
 have vw:=Ext.same (φ:=φ) (o':=.box (cs.set i (.v (.sl L)))) dn rfl rfl
 have M9:=vw
 rw[gR]at M9
 refine⟨_,m2,k2.chg (w':=w) b (.box (cs.set i (.v (.sl L)))) _ vw ⟨rfl,rfl,rfl,Nat.le_refl _⟩ (fun _ _ _=>rfl) (fun _=>.inr ⟨⟨_,dn,rfl,h2⟩,rfl⟩) ?_⟩
 rw[gR]
 refine⟨h1,h2,fun d hd=>?_,us,T,f,h4,h5,by simpa using h6,fun j hj fS=>?_⟩
 ·rcases List.mem_or_eq_of_mem_set hd with h | h
  ·exact h3 d h
  ·subst h;rfl
 ·simp only[List.length_set]at hj
  rw[List.getElem_set]
  by_cases bF:i=j
  ·subst bF
   rw[if_pos rfl]
   exact .v _ _ k4
  ·rw[if_neg bF]
   exact((h7 j hj fS).ext k1 k3).ext (Mem.le_refl m2) M9
theorem pt{σ τ:S}(b nm:Name)(i k sz:Nat)(cs:List D)(L:List V)(hb:σ.obj b=some (.box cs))(hi:cs[i]?=some (.msl nm k))(hn:σ.obj nm=some (.arr sz L))(hk:k=L.length)(ks:List Nat)(ns:List Name)
 (h:iZ ks ns ⟨σ.nt,σ.env,upd (upd σ.obj nm (some (.farr sz L))) b (some (.box (cs.set i (.v (.sl L))))),σ.pre,σ.base⟩)
 (jO:ji ks ns ⟨σ.nt,σ.env,upd (upd σ.obj nm (some (.farr sz L))) b (some (.box (cs.set i (.v (.sl L))))),σ.pre,σ.base⟩=τ):iJ σ τ:=
 (RL b nm i k sz cs L hb hi hn hk).trans (uB ks ns h jO)
open Go Go.Proofs
set_option maxHeartbeats 8000000
noncomputable section
@[go_sem] def P184:PSpec:=p2 dL iI (fun _ _=>True) (fun l v=>vInt (dJ (fun x=>v==x) l)) true
@[go_sem] def ada:Spec:=P184.toSpec
theorem Tn:aU Tryz.prog 184 P184:=by
 refine eZ (rs:=[.tmp 4]) Tryz.func184 Tryz.ntmps184 fun l v hp hw=>?_
 simp only[iI,dL]at hw |-
 have hΓ:=@fx Tryz.prog
 have hl:l.length<=maxLen:=by have:=hw.1.1;simpa using this
 repeat refine sq ?_
 refine rx hΓ [0,1] [] (fun K' hK=>by simp only[go_sem];exact ak) ?_
 repeat refine sq ?_
 refine rx hΓ [0,1,7,8] [] (fun K' hK=>by simp only[go_sem];exact ak) ?_
 repeat refine sq ?_
 refine aN ?_
 repeat refine sq ?_
 refine cB (fun s:Nat=>[(8,⟨true,.v (vInt s)⟩)]) (fun s=>[]) (fun s=>s<=l.length/\∀ k (h:k<l.length),k<s->(fun x:Int=>v==x) l[k]=false) (fun s=>l.length-s) 0 ?_ ?_ ?_ ?_
 ·exact⟨Nat.zero_le _,by simp⟩
 ·rfl
 ·rfl
 rintro i ⟨hi,hR⟩
 simp only[go_sem]
 repeat refine sq ?_
 refine rx hΓ [0,1,7,8,9] [] (fun K' hK=>by simp only[go_sem];exact ak) ?_
 repeat refine sq ?_
 refine ay (fun hb=>?_) fun hb=>?_
 ·have ab:i<l.length:=by simpa using hb
  have au:(i:Int)<l.length:=by omega
  clear hb
  repeat refine sq ?_
  refine aE ?_
  repeat refine sq ?_
  refine aN ?_
  repeat refine sq ?_
  refine rx hΓ [0,1,5,7,8] [] (fun K' hK=>by simp only[go_sem,ah ab,ai,aj,au];exact ak) ?_
  repeat refine sq ?_
  refine rx hΓ [0,1,5,7,8,16] [] (fun K' hK=>by simp only[go_sem,ah ab,ai,aj,au];exact ak) ?_
  repeat refine sq ?_
  refine ay (fun hb=>?_) fun hb=>?_
  ·repeat refine sq ?_
   refine rx hΓ [4] [] (fun K' hK=>by simp only[go_sem,ah ab,ai,aj,au];exact ak) ?_
   refine aA ?_
   simp only[go_sem]
   rw[sN (p:=fun x=>v==x) ab (by simpa using hb) hR]
  ·repeat refine sq ?_
   refine aE ?_
   refine bQ ?_
   simp only[go_sem]
   refine kp [0,1,7,8] [] ?_
   repeat refine sq ?_
   refine aP hΓ fun K' hK=>?_
   simp only[go_sem,ah ab,ai,aj,au]
   repeat (refine⟨an,?_⟩)
   refine hK _ ?_
   clear K' hK
   simp only[go_sem]
   refine⟨i+1,⟨ab,?_⟩,by(show l.length-(i+1)<l.length-i;omega),?_⟩
   ·intro k hk dO
    rcases Nat.lt_succ_iff_lt_or_eq.1 dO with h5 | rfl
    ·exact hR k hk h5
    ·simpa using hb
   refine bd [0,1,7,8] [] ?_ ?_<;>simp only[go_sem,a7 ab hl,bb]
 ·have bB:i=l.length:=by
   have :¬ (i:Int)<l.length:=by simpa using hb
   omega
  clear hb
  subst bB
  repeat refine sq ?_
  refine bT ?_
  simp only[go_sem]
  refine kp [] [] ?_
  repeat refine sq ?_
  refine rx hΓ [4] [] (fun K' hK=>by simp only[go_sem];exact ak) ?_
  refine aA ?_
  simp only[go_sem]
  rw[xv (p:=fun x=>v==x) fun k hk=>hR k hk hk]
def K18a:List (Nat×Spec):=[(184,ada)]
theorem aey:KS K18a:=tc Tn.sound<|tn
attribute [go_sem] K18a
theorem acQ(l:List Int)(v:Int):(l.any fun x=>v==x)=l.contains v:=(List.contains_eq_any_beq (l:=l) (a:=v)).symm
@[go_sem] def P108:PSpec:=p2 dL iI (fun _ _=>True) (fun l v=>.bool (l.contains v)) true
@[go_sem] def yY:Spec:=P108.toSpec
theorem zz:aU Tryz.prog 108 P108:=by
 refine eZ (rs:=[.tmp 4]) Tryz.func108 Tryz.ntmps108 fun l v hp hw=>?_
 simp only[iI,dL]at hw |-
 have hΓ:=aey
 repeat refine sq ?_
 refine rx hΓ [0,1] [] (fun K' hK=>by simp only[go_sem];exact ak) ?_
 repeat refine sq ?_
 refine rx hΓ [4] [] (fun K' hK=>by simp only[go_sem,true_or,xw,acQ];exact ak) ?_
 refine aA ?_
 simp only[go_sem]
 all_goals exact dV
def K18b:List (Nat×Spec):=[(108,yY),(150,HH)]
theorem HT:KS K18b:=tc zz.sound<|tc CX.sound<|tn
attribute [go_sem] K18b
def EC:En (List Int):=⟨fun l=>.ptr [.sl (l.map vInt)],fun v=>match v with | .ptr [.sl l]=>l.map kD | _=>[]⟩
attribute [go_sem] EC
@[go_sem] def P194:PSpec:=p2 iI EC (fun _ _=>True) (fun n l=>.bool (l.contains n)) true
@[go_sem] def Q1:Spec:=P194.toSpec
theorem Tg:aU Tryz.prog 194 P194:=by
 refine eZ (rs:=[.tmp 3]) Tryz.func194 Tryz.ntmps194 fun n l hp hw=>?_
 simp only[iI,EC]at hw |-
 have hΓ:=HT
 repeat refine sq ?_
 refine rx hΓ [0,1] [] (fun K' hK=>by simp only[go_sem];exact ak) ?_
 repeat refine sq ?_
 refine rx hΓ [3] [] (fun K' hK=>by simp only[go_sem];exact ak) ?_
 refine aA ?_
 simp only[go_sem]
 all_goals exact dV
@[go_sem] def P161:PSpec:=p1 iI (fun _=>True) (fun n=>.bool (!dayB n)) true
@[go_sem] def Q6:Spec:=P161.toSpec
theorem Tw:aU Tryz.prog 161 P161:=by
 refine gp (rs:=[.tmp 2]) Tryz.func161 Tryz.ntmps161 fun n hp hw=>?_
 simp only[iI]at hw |-
 have hΓ:=HT
 repeat refine sq ?_
 refine rx hΓ [0] [] (fun K' hK=>by simp only[go_sem];exact ak) ?_
 repeat refine sq ?_
 refine rx hΓ [2] [] (fun K' hK=>by simp only[go_sem];exact ak) ?_
 refine aA ?_
 simp only[go_sem]
 all_goals exact dV
@[go_sem] def P185:PSpec:=p1 iI (fun _=>True) (fun n=>.bool (!dayB n)) true
@[go_sem] def Q3:Spec:=P185.toSpec
theorem Tm:aU Tryz.prog 185 P185:=by
 refine gp (rs:=[.tmp 2]) Tryz.func185 Tryz.ntmps185 fun n hp hw=>?_
 simp only[iI]at hw |-
 have hΓ:=HT
 repeat refine sq ?_
 refine rx hΓ [0] [] (fun K' hK=>by simp only[go_sem];exact ak) ?_
 repeat refine sq ?_
 refine rx hΓ [2] [] (fun K' hK=>by simp only[go_sem];exact ak) ?_
 refine aA ?_
 simp only[go_sem]
 all_goals exact dV
def xz:En (Nat×List V):=⟨fun g=>.clo (.func g.1) [] g.2,fun v=>match v with | .clo (.func g) _ cs=>(g,cs) | _=>(0,[])⟩
def pG:Nat×List V->Int->Bool
 |(194,[.ptr [.sl l]]),x=>(l.map kD).contains x
 |_,x=>!dayB x
def xb(g:Nat×List V):Prop:=g=(161,[])\/g=(185,[])\/∃ lv:List Int,g=(194,[.ptr [.sl (lv.map vInt)]])
def K18c:List (Nat×Spec):=[(194,Q1),(161,Q6),(185,Q3)]
theorem aex:KS K18c:=tc Tg.sound<|tc Tw.sound<|tc Tm.sound<|tn
attribute [go_sem] K18c
def Rl:FuncId->Option Spec:=tbl K18c
theorem aev:∀ f s,Rl f=some s->aL Tryz.prog f s:=aex
theorem Vg{g:Nat×List V}(h:xb g):∃ s,Rl g.1=some s/\(¬ g.1=1000000000)/\∀ obj t x,s.app obj t (.v (vInt x)::g.2.map .v)=⟨True,.v (.bool (pG g x)),obj⟩:=by
 rcases h with rfl | rfl | ⟨lv,rfl⟩
 ·exact⟨Q6,rfl,by decide,fun obj t x=>by simp only[go_sem,List.map_nil];rfl⟩
 ·exact⟨Q3,rfl,by decide,fun obj t x=>by simp only[go_sem,List.map_nil];rfl⟩
 ·exact⟨Q1,rfl,(show ¬ (194:Nat)=1000000000 by decide),fun obj t x=>by simp only[go_sem,List.map_cons,List.map_nil,o7,pG]⟩
@[go_sem] def P192:PSpec:=p2 dL xz (fun _ g=>xb g) (fun l g=>vInt (dJ (pG g) l)) true
@[go_sem] def ac8:Spec:=P192.toSpec
theorem Th:aU Tryz.prog 192 P192:=by
 refine eZ (rs:=[.tmp 4]) Tryz.func192 Tryz.ntmps192 fun l g hp hw=>?_
 simp only[xz,dL]at hw |-
 have hΓ:=aev
 have hl:l.length<=maxLen:=by have:=hw.1.1;simpa using this
 obtain⟨s_,hs,hy,ha⟩:=Vg hp
 repeat refine sq ?_
 refine rx hΓ [0,1] [] (fun K' hK=>by simp only[go_sem];exact ak) ?_
 repeat refine sq ?_
 refine rx hΓ [0,1,7,8] [] (fun K' hK=>by simp only[go_sem];exact ak) ?_
 repeat refine sq ?_
 refine aN ?_
 repeat refine sq ?_
 refine cB (fun s:Nat=>[(8,⟨true,.v (vInt s)⟩)]) (fun s=>[]) (fun s=>s<=l.length/\∀ k (h:k<l.length),k<s->pG g l[k]=false) (fun s=>l.length-s) 0 ?_ ?_ ?_ ?_
 ·exact⟨Nat.zero_le _,by simp⟩
 ·rfl
 ·rfl
 rintro i ⟨hi,hR⟩
 simp only[go_sem]
 repeat refine sq ?_
 refine rx hΓ [0,1,7,8,9] [] (fun K' hK=>by simp only[go_sem];exact ak) ?_
 repeat refine sq ?_
 refine ay (fun hb=>?_) fun hb=>?_
 ·have ab:i<l.length:=by simpa using hb
  have au:(i:Int)<l.length:=by omega
  clear hb
  repeat refine sq ?_
  refine aE ?_
  repeat refine sq ?_
  refine aN ?_
  repeat refine sq ?_
  refine rx hΓ [0,1,5,7,8] [] (fun K' hK=>by simp only[go_sem,ah ab,ai,aj,au];exact ak) ?_
  repeat refine sq ?_
  refine rx hΓ [0,1,5,7,8,16] [] (fun K' hK=>by simp only[go_sem,ah ab,ai,aj,au,hs,hy,ha];exact ak) ?_
  repeat refine sq ?_
  refine ay (fun hb=>?_) fun hb=>?_
  ·repeat refine sq ?_
   refine rx hΓ [4] [] (fun K' hK=>by simp only[go_sem,ah ab,ai,aj,au];exact ak) ?_
   refine aA ?_
   simp only[go_sem]
   rw[sN (p:=pG g) ab (by simpa using hb) hR]
  ·repeat refine sq ?_
   refine aE ?_
   refine bQ ?_
   simp only[go_sem]
   refine kp [0,1,7,8] [] ?_
   repeat refine sq ?_
   refine aP hΓ fun K' hK=>?_
   simp only[go_sem,ah ab,ai,aj,au]
   repeat (refine⟨an,?_⟩)
   refine hK _ ?_
   clear K' hK
   simp only[go_sem]
   refine⟨i+1,⟨ab,?_⟩,by(show l.length-(i+1)<l.length-i;omega),?_⟩
   ·intro k hk dO
    rcases Nat.lt_succ_iff_lt_or_eq.1 dO with h5 | rfl
    ·exact hR k hk h5
    ·simpa using hb
   refine bd [0,1,7,8] [] ?_ ?_<;>simp only[go_sem,a7 ab hl,bb]
 ·have bB:i=l.length:=by
   have :¬ (i:Int)<l.length:=by simpa using hb
   omega
  clear hb
  subst bB
  repeat refine sq ?_
  refine bT ?_
  simp only[go_sem]
  refine kp [] [] ?_
  repeat refine sq ?_
  refine rx hΓ [4] [] (fun K' hK=>by simp only[go_sem];exact ak) ?_
  refine aA ?_
  simp only[go_sem]
  rw[xv (p:=pG g) fun k hk=>hR k hk hk]
def K18d:List (Nat×Spec):=[(192,ac8)]
theorem aew:KS K18d:=tc Th.sound<|tn
attribute [go_sem] K18d
@[go_sem] def P160:PSpec:=p2 dL xz (fun _ g=>xb g) (fun l g=>.bool (l.any (pG g))) true
@[go_sem] def S160:Spec:=P160.toSpec
theorem Tx:aU Tryz.prog 160 P160:=by
 refine eZ (rs:=[.tmp 4]) Tryz.func160 Tryz.ntmps160 fun l g hp hw=>?_
 simp only[xz,dL]at hw |-
 have hΓ:=aew
 repeat refine sq ?_
 refine rx hΓ [0,1] [] (fun K' hK=>by simp only[go_sem];exact ak) ?_
 repeat refine sq ?_
 refine rx hΓ [4] [] (fun K' hK=>by simp only[go_sem,true_or,xw,hp];exact ak) ?_
 refine aA ?_
 simp only[go_sem]
 all_goals exact dV
theorem Et:aL Tryz.prog 160 S160:=Tx.sound
end
noncomputable section
structure nA (x:Vw):Prop where
 ok:bA x.l
 bk:∀ q i,bu x.bk q=some i->0<=i/\i<x.l.ts.length
 rs:∀ r∈x.rs,eh r=true
 rn:x.rs.length<=60
 tn:x.ts.length<=60
 ts:∀ i∈x.ts,0<=i/\i<x.l.ts.length
theorem Dc{r:Rec}(h:eh r=true):0<r.lv.length/\r.lv.length<=30:=by
 unfold eh at h
 simp only[Bool.and_eq_true]at h
 exact⟨(qY.1 h.1.1.2).1,(qY.1 h.1.1.2).2.1⟩
theorem Jt{r:Rec}(h:eh r=true):0<=r.da/\r.da<=100000:=by
 unfold eh at h
 simp only[Bool.and_eq_true]at h
 have :=h.1.2
 unfold dayB bO at this
 simpa using this
theorem Ue{r:Ret}(h:j9 r=true):0<r.lv.length/\r.lv.length<=30:=by
 unfold j9 at h
 simp only[Bool.and_eq_true]at h
 exact⟨(qY.1 h.1.1.1.2).1,(qY.1 h.1.1.1.2).2.1⟩
theorem zb{d:Int}(h:0<=d/\d<=100000):IntKind.i64.wrap (d+1)=d+1:=wrap_i64 (by omega) (by omega)
theorem mu{l:Led}{i:Nat}(h:i<l.ts.length):aG l i=l.ts[i]:=by unfold aG;exact cj h
theorem bA.recs{l:Led}(h:bA l):∀ r∈l.rs,eh r=true:=fun r hr=>by
 obtain⟨j,hj,rfl⟩:=List.getElem_of_mem hr
 exact ni h.rs hj
theorem bA.rets{l:Led}(h:bA l){i:Nat}(hi:i<l.ts.length):j9 (aG l i)=true:=by
 rw[mu hi]
 exact ni h.ts hi
def tT(x:Vw)(a b:Rec)(f:Int):Bool:=(a.pa==b.pa&&b.lv.contains f)&&(a.da==b.da||match bu x.bk (a.so,f)with
 |none=>true
 |some i=>decide (bJ (aG x.l i.toNat).lo (a.da+1)>b.da))
theorem GW(x:Vw)(a b:Rec):rP x a b=a.lv.any (tT x a b):=rfl
theorem qu{α:Type}{p:α->Bool}{l:List α}{i:Nat}(h:i<l.length)(hp:p l[i]=true):l.any p=true:=List.any_eq_true.2 ⟨_,List.getElem_mem h,hp⟩
theorem rZ{α:Type}{p:α->Bool}{l:List α}(h:∀ k (hk:k<l.length),p l[k]=false):l.any p=false:=by
 rw[List.any_eq_false]
 intro x hx
 obtain⟨k,hk,rfl⟩:=List.getElem_of_mem hx
 rw[h k hk];decide
theorem Ic{l:Led}{i:Int}(h0:0<=i)(h:i<l.ts.length):(l.ts.map c9).getD i.toNat default=c9 (aG l i.toNat):=by
 have h':i.toNat<l.ts.length:=by omega
 rw[ah h',mu h']
def qW(a b:Rec):Rec:=if a.da>b.da then b else a
def lX(a b:Rec):Rec:=if a.da>b.da then a else b
theorem abr(x:Vw)(a b:Rec):gB x a b=rP x (qW a b) (lX a b):=by
 unfold gB qW lX
 split<;>rfl
theorem V3{a b:Rec}(ha:eh a=true)(hb:eh b=true):eh (qW a b)=true/\eh (lX a b)=true:=by
 unfold qW lX
 split
 ·exact⟨hb,ha⟩
 ·exact⟨ha,hb⟩
def t'(r:Rec):List D:=[.v (vInt r.so),.v (vInt r.bo),.v (vInt r.pa),.v (.sl (r.lv.map vInt)),.v (vInt r.da),.v (vInt r.kn),.v (vInt r.un)]
attribute [go_sem] t'
def K19:List (Nat×Spec):=[(108,yY)]
theorem aeu:KS K19:=tc zz.sound<|tn
attribute [go_sem] K19
def QQ:VSpec:=v2 iR iR (fun x a b=>nA x/\eh a=true/\eh b=true) (fun x a b=>.v (.bool (gB x a b))) none
def S129:Spec:=QQ.toSpec
attribute [go_sem] QQ S129
set_option maxHeartbeats 8000000 in
theorem Yb:aL Tryz.prog 129 S129:=by
 refine zf (rs:=[.tmp 6]) Tryz.func129 Tryz.ntmps129 (by rfl) (by kernel_rfl) (by decide) (fun _ _ _=>by first | rfl | simp[D.clos,D.closL,mz]) ⟨_,rfl,lb rfl,fun x a b hp H h0 h1 h2 hO ae=>?_⟩
 have hP:=eK
 simp only[iR,encR,bt,dj,List.map_cons,List.map_nil,Nat.zero_add,Option.map_some,Option.map_none]at h0 |-
 have hΓ:=aeu
 obtain⟨hv,ha,Ba⟩:=hp
 rw[abr]
 obtain⟨AI,lW⟩:=V3 ha Ba
 repeat refine sq ?_
 refine rx hΓ [0,4,5] [[4,0],[5,0]] (fun K' hK=>by simp only[go_sem,hO,ae,h0,h1,h2];(repeat (refine⟨an,?_⟩));exact hK _ (by simp only[go_sem,hO,ae,h0,h1,h2]) (by simp only[go_sem,hO,ae,h0,h1,h2]<;>rfl)) ?_
 repeat refine sq ?_
 refine rx hΓ [0,4,5,15] [[4,0],[5,0]] (fun K' hK=>by simp only[go_sem,hO,ae,h0,h1,h2];(repeat (refine⟨an,?_⟩));exact hK _ (by simp only[go_sem,hO,ae,h0,h1,h2]) (by simp only[go_sem,hO,ae,h0,h1,h2]<;>rfl)) ?_
 repeat refine sq ?_
 refine ab9 (bg 80 [0] H [(0,⟨true,.ref [0,1] 0⟩),(4,⟨true,.ref [4,0] 0⟩),(5,⟨true,.ref [5,0] 0⟩)] [([4,0],.box (t' (qW a b))),([5,0],.box (t' (lX a b)))]) rfl rfl (fun hb=>?_) (fun hb=>?_) ?_
 ·repeat refine sq ?_
  rw[show qW a b=b from if_pos (by simpa using hb),show lX a b=a from if_pos (by simpa using hb)]
  repeat refine sq ?_
  refine aP hΓ fun K' hK=>?_
  simp only[go_sem,hO,ae,h0,h1,h2]
  repeat (refine⟨an,?_⟩)
  refine hK _ ?_
  clear K' hK
  simp only[go_sem]
  refine uB [0,4,5] [[4,0],[5,0]] ?_ ?_
  ·simp only[go_sem,hO,ae,h0,h1,h2]
  ·simp only[go_sem,hO,ae,h0,h1,h2]
 ·repeat refine sq ?_
  rw[show qW a b=a from if_neg (by simpa using hb),show lX a b=b from if_neg (by simpa using hb)]
  refine aE ?_
  refine bQ ?_
  simp only[go_sem]
  refine uB [0,4,5] [[4,0],[5,0]] ?_ ?_
  ·simp only[go_sem,hO,ae,h0,h1,h2]
  ·simp only[go_sem,hO,ae,h0,h1,h2]
 generalize qW a b=p at *
 generalize lX a b=q at *
 have hl:p.lv.length<=maxLen:=by have:=(Dc AI).2;unfold maxLen;omega
 repeat refine sq ?_
 refine rx hΓ [0,4,5,19,20,21] [[4,0],[5,0]] (fun K' hK=>by simp only[go_sem,hO,ae,h0,h1,h2];(repeat (refine⟨an,?_⟩));exact hK _ (by simp only[go_sem,hO,ae,h0,h1,h2]) (by simp only[go_sem,hO,ae,h0,h1,h2]<;>rfl)) ?_
 repeat refine sq ?_
 refine aN ?_
 repeat refine sq ?_
 refine cB (fun s:Nat=>[(21,⟨true,.v (vInt s)⟩)]) (fun s=>[]) (fun s=>s<=p.lv.length/\∀ k (h:k<p.lv.length),k<s->tT x p q p.lv[k]=false) (fun s=>p.lv.length-s) 0 ?_ ?_ ?_ ?_
 ·exact⟨Nat.zero_le _,by simp⟩
 ·rfl
 ·rfl
 rintro i ⟨hi,hR⟩
 simp only[go_sem]
 repeat refine sq ?_
 refine rx hΓ [0,4,5,19,20,21,22] [[4,0],[5,0]] (fun K' hK=>by simp only[go_sem,hO,ae,h0,h1,h2];(repeat (refine⟨an,?_⟩));exact hK _ (by simp only[go_sem,hO,ae,h0,h1,h2]) (by simp only[go_sem,hO,ae,h0,h1,h2]<;>rfl)) ?_
 repeat refine sq ?_
 refine ay (fun hb=>?_) fun hb=>?_
 ·have ab:i<p.lv.length:=by simpa using hb
  have au:(i:Int)<p.lv.length:=by omega
  clear hb
  have iw:=zb (Jt AI)
  repeat refine sq ?_
  refine aE ?_
  repeat refine sq ?_
  refine aN ?_
  repeat refine sq ?_
  refine rx hΓ [0,4,5,8,19,20,21] [[4,0],[5,0]] (fun K' hK=>by simp only[go_sem,hO,ae,h0,h1,h2,ah ab,ai,aj,au];(repeat (refine⟨an,?_⟩));exact hK _ (by simp only[go_sem,hO,ae,h0,h1,h2,ah ab,ai,aj,au]) (by simp only[go_sem,hO,ae,h0,h1,h2,ah ab,ai,aj,au]<;>rfl)) ?_
  repeat refine sq ?_
  refine rx hΓ [0,4,5,8,19,20,21,36] [[4,0],[5,0]] (fun K' hK=>by simp only[go_sem,hO,ae,h0,h1,h2,ah ab,ai,aj,au];(repeat (refine⟨an,?_⟩));exact hK _ (by simp only[go_sem,hO,ae,h0,h1,h2,ah ab,ai,aj,au]) (by simp only[go_sem,hO,ae,h0,h1,h2,ah ab,ai,aj,au]<;>rfl)) ?_
  repeat refine sq ?_
  refine ay (fun hb=>?_) fun hb=>?_
  ·repeat refine sq ?_
   refine bT ?_
   simp only[go_sem]
   refine eG [0,4,5,19,20,21] [[4,0],[5,0]] ?_ ?_
   ·simp only[go_sem,hO,ae,h0,h1,h2]
   simp only[go_sem,hO,ae,h0,h1,h2]
   repeat refine sq ?_
   refine aP hΓ fun K' hK=>?_
   simp only[go_sem,hO,ae,h0,h1,h2,ah ab,ai,aj,au]
   repeat (refine⟨an,?_⟩)
   refine hK _ ?_
   clear K' hK
   simp only[go_sem]
   refine⟨i+1,⟨ab,?_⟩,by(show p.lv.length-(i+1)<p.lv.length-i;omega),?_⟩
   ·intro k hk dO
    rcases Nat.lt_succ_iff_lt_or_eq.1 dO with h5 | rfl
    ·exact hR k hk h5
    ·unfold tT;grind
   refine bd [0,4,5,19,20,21] [[4,0],[5,0]] ?_ ?_<;>simp only[go_sem,a7 ab hl,bb,hO,ae,h0,h1,h2]
  ·repeat refine sq ?_
   refine aE ?_
   rcases aI:bu x.bk (p.so,p.lv[i])with _ | j
   ·repeat refine sq ?_
    refine dx hΓ hP [[],[0],[0,1],[0,1,2],[],[4],[],[4,5,6],u8,u9,ca,ca,dX,gT] [0,4,5,9,10,19,20,21] [[4,0],[5,0]] (by kernel_rfl) (fun K' hK=>by simp only[go_sem,hO,ae,h0,h1,h2,ah ab,ai,aj,au,ax,aI,Option.map_none,Option.isSome_none,Option.getD_none];(repeat (refine⟨an,?_⟩));(first | refine⟨by rfl,?_⟩ | skip);exact hK _ (by simp only[go_sem,hO,ae,h0,h1,h2,ah ab,ai,aj,au,ax,aI,Option.map_none,Option.isSome_none,Option.getD_none]) (by simp only[go_sem,hO,ae,h0,h1,h2,ah ab,ai,aj,au,ax,aI,Option.map_none,Option.isSome_none,Option.getD_none]<;>rfl)) ?_
    repeat refine sq ?_
    refine dx hΓ hP [[],[0],[],[2],u4,u5,u6,u7,u8,u9,ca,dX,eg,gT,il,wC,u16,ca,gS,kK,nE,sh,ca,[0,1,2,3,4,5,6,7,8,9,22],[0,1,2,3,4,5,6,7,8,9,22,23],zj,ca,[0,1,2,3,4,5,6,7,8,9,26],zi,zh] [0,4,5,19,20,21,78] [[4,0],[5,0]] (by kernel_rfl) (fun K' hK=>by simp only[go_sem,hO,ae,h0,h1,h2,ah ab,ai,aj,au,ax,aI,Option.map_none,Option.isSome_none,Option.getD_none];(repeat (refine⟨an,?_⟩));(first | refine⟨by rfl,?_⟩ | skip);exact hK _ (by simp only[go_sem,hO,ae,h0,h1,h2,ah ab,ai,aj,au,ax,aI,Option.map_none,Option.isSome_none,Option.getD_none]) (by simp only[go_sem,hO,ae,h0,h1,h2,ah ab,ai,aj,au,ax,aI,Option.map_none,Option.isSome_none,Option.getD_none]<;>rfl)) ?_
    repeat refine sq ?_
    refine ay (fun hb=>?_) fun hb=>?_
    ·repeat refine sq ?_
     refine rx hΓ [6] [] (fun K' hK=>by simp only[go_sem,hO,ae,h0,h1,h2,ah ab,ai,aj,au,ax,aI,Option.map_none,Option.isSome_none,Option.getD_none];(repeat (refine⟨an,?_⟩));exact hK _ (by simp only[go_sem,hO,ae,h0,h1,h2,ah ab,ai,aj,au,ax,aI,Option.map_none,Option.isSome_none,Option.getD_none]) (by simp only[go_sem,hO,ae,h0,h1,h2,ah ab,ai,aj,au,ax,aI,Option.map_none,Option.isSome_none,Option.getD_none]<;>rfl)) ?_
     refine aA ?_
     simp only[go_sem,hO,ae,h0,h1,h2]
     rw[GW,qu ab (by unfold tT;rw[aI];grind [bJ])]
    ·repeat refine sq ?_
     refine aE ?_
     refine bQ ?_
     simp only[go_sem]
     refine eG [0,4,5,19,20,21] [[4,0],[5,0]] ?_ ?_
     ·simp only[go_sem,hO,ae,h0,h1,h2]
     simp only[go_sem,hO,ae,h0,h1,h2]
     repeat refine sq ?_
     refine aP hΓ fun K' hK=>?_
     simp only[go_sem,hO,ae,h0,h1,h2,ah ab,ai,aj,au,ax,aI,Option.map_none,Option.isSome_none,Option.getD_none]
     repeat (refine⟨an,?_⟩)
     refine hK _ ?_
     clear K' hK
     simp only[go_sem]
     refine⟨i+1,⟨ab,?_⟩,by(show p.lv.length-(i+1)<p.lv.length-i;omega),?_⟩
     ·intro k hk dO
      rcases Nat.lt_succ_iff_lt_or_eq.1 dO with h5 | rfl
      ·exact hR k hk h5
      ·unfold tT;rw[aI];grind [bJ]
     refine bd [0,4,5,19,20,21] [[4,0],[5,0]] ?_ ?_<;>simp only[go_sem,a7 ab hl,bb,hO,ae,h0,h1,h2]
   ·obtain⟨cf,ff⟩:=hv.bk _ _ aI
    have mK:=Ic cf ff
    repeat refine sq ?_
    refine dx hΓ hP [[],[0],[0,1],[0,1,2],[],[4],[],[4,5,6],u8,u9,ca,ca,dX,gT] [0,4,5,9,10,19,20,21] [[4,0],[5,0]] (by kernel_rfl) (fun K' hK=>by simp only[go_sem,hO,ae,h0,h1,h2,ah ab,ai,aj,au,ax,aI,Option.map_some,Option.isSome_some,Option.getD_some,mK,cf,ff,iw];(repeat (refine⟨an,?_⟩));(first | refine⟨by rfl,?_⟩ | skip);exact hK _ (by simp only[go_sem,hO,ae,h0,h1,h2,ah ab,ai,aj,au,ax,aI,Option.map_some,Option.isSome_some,Option.getD_some,mK,cf,ff,iw]) (by simp only[go_sem,hO,ae,h0,h1,h2,ah ab,ai,aj,au,ax,aI,Option.map_some,Option.isSome_some,Option.getD_some,mK,cf,ff,iw]<;>rfl)) ?_
    repeat refine sq ?_
    refine dx hΓ hP [[],[0],[],[2],u4,u5,u6,u7,u8,u9,ca,dX,eg,gT,il,wC,u16,ca,gS,kK,nE,sh,ca,[0,1,2,3,4,5,6,7,8,9,22],[0,1,2,3,4,5,6,7,8,9,22,23],zj,ca,[0,1,2,3,4,5,6,7,8,9,26],zi,zh] [0,4,5,19,20,21,78] [[4,0],[5,0]] (by kernel_rfl) (fun K' hK=>by simp only[go_sem,hO,ae,h0,h1,h2,ah ab,ai,aj,au,ax,aI,Option.map_some,Option.isSome_some,Option.getD_some,mK,cf,ff,iw];(repeat (refine⟨an,?_⟩));(first | refine⟨by rfl,?_⟩ | skip);exact hK _ (by simp only[go_sem,hO,ae,h0,h1,h2,ah ab,ai,aj,au,ax,aI,Option.map_some,Option.isSome_some,Option.getD_some,mK,cf,ff,iw]) (by simp only[go_sem,hO,ae,h0,h1,h2,ah ab,ai,aj,au,ax,aI,Option.map_some,Option.isSome_some,Option.getD_some,mK,cf,ff,iw]<;>rfl)) ?_
    repeat refine sq ?_
    refine ay (fun hb=>?_) fun hb=>?_
    ·repeat refine sq ?_
     refine rx hΓ [6] [] (fun K' hK=>by simp only[go_sem,hO,ae,h0,h1,h2,ah ab,ai,aj,au,ax,aI,Option.map_some,Option.isSome_some,Option.getD_some,mK,cf,ff,iw];(repeat (refine⟨an,?_⟩));exact hK _ (by simp only[go_sem,hO,ae,h0,h1,h2,ah ab,ai,aj,au,ax,aI,Option.map_some,Option.isSome_some,Option.getD_some,mK,cf,ff,iw]) (by simp only[go_sem,hO,ae,h0,h1,h2,ah ab,ai,aj,au,ax,aI,Option.map_some,Option.isSome_some,Option.getD_some,mK,cf,ff,iw]<;>rfl)) ?_
     refine aA ?_
     simp only[go_sem,hO,ae,h0,h1,h2]
     rw[GW,qu ab (by unfold tT;rw[aI];grind [bJ])]
    ·repeat refine sq ?_
     refine aE ?_
     refine bQ ?_
     simp only[go_sem]
     refine eG [0,4,5,19,20,21] [[4,0],[5,0]] ?_ ?_
     ·simp only[go_sem,hO,ae,h0,h1,h2]
     simp only[go_sem,hO,ae,h0,h1,h2]
     repeat refine sq ?_
     refine aP hΓ fun K' hK=>?_
     simp only[go_sem,hO,ae,h0,h1,h2,ah ab,ai,aj,au,ax,aI,Option.map_some,Option.isSome_some,Option.getD_some,mK,cf,ff,iw]
     repeat (refine⟨an,?_⟩)
     refine hK _ ?_
     clear K' hK
     simp only[go_sem]
     refine⟨i+1,⟨ab,?_⟩,by(show p.lv.length-(i+1)<p.lv.length-i;omega),?_⟩
     ·intro k hk dO
      rcases Nat.lt_succ_iff_lt_or_eq.1 dO with h5 | rfl
      ·exact hR k hk h5
      ·unfold tT;rw[aI];grind [bJ]
     refine bd [0,4,5,19,20,21] [[4,0],[5,0]] ?_ ?_<;>simp only[go_sem,a7 ab hl,bb,hO,ae,h0,h1,h2]
 ·have bB:i=p.lv.length:=by
   have :¬ (i:Int)<p.lv.length:=by simpa using hb
   omega
  clear hb
  subst bB
  repeat refine sq ?_
  refine bT ?_
  simp only[go_sem]
  refine eG [] [] ?_ ?_
  ·simp only[go_sem,hO,ae,h0,h1,h2]
  simp only[go_sem,hO,ae,h0,h1,h2]
  repeat refine sq ?_
  refine rx hΓ [6] [] (fun K' hK=>by simp only[go_sem,hO,ae,h0,h1,h2];(repeat (refine⟨an,?_⟩));exact hK _ (by simp only[go_sem,hO,ae,h0,h1,h2]) (by simp only[go_sem,hO,ae,h0,h1,h2]<;>rfl)) ?_
  refine aA ?_
  simp only[go_sem,hO,ae,h0,h1,h2]
  rw[GW,rZ fun k hk=>hR k hk hk]
end
noncomputable section
@[go_sem] theorem ah6(x:Vw):(⟨x.l,x.rs,x.ts,x.bk,x.ds⟩:Vw)=x:=rfl
def zJ:Option (Int×Int)->D
 |some p=>.tup [.v (.sl [vInt p.1,vInt p.2]),.v (.bool true)]
 |none=>.tup [.nilsl,.v (.bool false)]
theorem Uo(r:Option (Int×Int))(p:Name->Bool):D.clos p (zJ r)=true:=by cases r<;>rfl
theorem zQ{x:Vw}{i:Nat}(h:i<x.rs.length)(hn:∀ k (hk:k<(x.rs.drop (i+1)).length),gB x x.rs[i] (x.rs.drop (i+1))[k]=false):nN x i=none:=by
 unfold nN
 have e:(x.rs.drop (i+1)).find? (gB x x.rs[i])=none:=List.find?_eq_none.2 fun y hy=>by
  obtain⟨k,hk,rfl⟩:=List.getElem_of_mem hy
  rw[hn k hk];decide
 rw[cj h,e]
 rfl
theorem JT{x:Vw}{i k:Nat}(h:i<x.rs.length)(hk:k<(x.rs.drop (i+1)).length)(hn:∀ j (hj:j<(x.rs.drop (i+1)).length),j<k->gB x x.rs[i] (x.rs.drop (i+1))[j]=false)(hb:gB x x.rs[i] (x.rs.drop (i+1))[k]=true):
 nN x i=some (x.rs[i].so,(x.rs.drop (i+1))[k].so):=by
 unfold nN
 have e:(x.rs.drop (i+1)).find? (gB x x.rs[i])=some (x.rs.drop (i+1))[k]:=List.find?_eq_some_iff_getElem.2 ⟨hb,k,hk,rfl,fun j hj=>by rw[hn j (by omega) hj];rfl⟩
 rw[cj h,e]
 rfl
theorem JS{x:Vw}{i:Nat}{p:Int×Int}(h:i<x.rs.length)(hn:∀ k,k<i->nN x k=none)(hp:nN x i=some p):eJ x=some p:=by
 unfold eJ
 rw[List.findSome?_eq_some_iff]
 refine⟨List.range i,i,(List.range' (i+1) (x.rs.length-(i+1))),?_,hp,fun a ha=>hn a (List.mem_range.1 ha)⟩
 rw[List.range_eq_range',List.range_eq_range']
 have :x.rs.length=i+(1+(x.rs.length-(i+1))):=by omega
 conv=>lhs;rw[this]
 rw[<-List.range'_append_1,<-List.range'_append_1,Nat.zero_add]
 rfl
theorem Du{x:Vw}(hn:∀ k,k<x.rs.length->nN x k=none):eJ x=none:=by
 unfold eJ
 rw[List.findSome?_eq_none_iff]
 exact fun a ha=>hn a (List.mem_range.1 ha)
def K20:List (Nat×Spec):=[(129,S129)]
theorem aet:KS K20:=tc Yb<|tn
attribute [go_sem] K20
def QT:VSpec:=v0 (fun x=>nA x) (fun x=>zJ (eJ x)) none
def S120:Spec:=QT.toSpec
attribute [go_sem] QT S120
set_option maxHeartbeats 8000000 in
theorem Yf:aL Tryz.prog 120 S120:=by
 refine RR (rs:=[.tmp 2,.tmp 3]) Tryz.func120 Tryz.ntmps120 (by rfl) (by kernel_rfl) (by decide) (fun _=>by first | rfl | exact Uo _ _ | simp[D.clos,D.closL,mz]) ⟨_,rfl,lb rfl,fun x hp H h0 h1 h2 hO ae=>?_⟩
 simp only[bt,dj,List.map_cons,List.map_nil,Nat.zero_add,Option.map_some,Option.map_none]at h0 |-
 have hΓ:=aet
 have mL:x.rs.length<=maxLen:=by have:=hp.rn;unfold maxLen;omega
 repeat refine sq ?_
 refine rx hΓ [0] [] (fun K' hK=>by simp only[go_sem,hO,ae,h0,h1,h2];(repeat (refine⟨an,?_⟩));exact hK _ (by simp only[go_sem,hO,ae,h0,h1,h2]) (by simp only[go_sem,hO,ae,h0,h1,h2]<;>rfl)) ?_
 repeat refine sq ?_
 refine rx hΓ [0,11,12,13] [] (fun K' hK=>by simp only[go_sem,hO,ae,h0,h1,h2];(repeat (refine⟨an,?_⟩));exact hK _ (by simp only[go_sem,hO,ae,h0,h1,h2]) (by simp only[go_sem,hO,ae,h0,h1,h2]<;>rfl)) ?_
 repeat refine sq ?_
 refine aN ?_
 repeat refine sq ?_
 refine cB (fun s:Nat=>[(13,⟨true,.v (vInt s)⟩)]) (fun s=>[]) (fun s=>s<=x.rs.length/\∀ k,k<s->nN x k=none) (fun s=>x.rs.length-s) 0 ?_ ?_ ?_ ?_
 ·exact⟨Nat.zero_le _,by simp⟩
 ·rfl
 ·rfl
 rintro i ⟨hi,hR⟩
 simp only[go_sem]
 repeat refine sq ?_
 refine rx hΓ [0,11,12,13,14] [] (fun K' hK=>by simp only[go_sem,hO,ae,h0,h1,h2];(repeat (refine⟨an,?_⟩));exact hK _ (by simp only[go_sem,hO,ae,h0,h1,h2]) (by simp only[go_sem,hO,ae,h0,h1,h2]<;>rfl)) ?_
 repeat refine sq ?_
 refine ay (fun hb=>?_) fun hb=>?_
 ·have ab:i<x.rs.length:=by simpa using hb
  have au:(i:Int)<x.rs.length:=by omega
  clear hb
  have xG:IntKind.i64.wrap ((i:Int)+1)=((i+1:Nat):Int):=a7 ab mL
  have rG:x.rs.length-(i+1)<=maxLen:=by omega
  have xK:List.take (x.rs.length-(i+1)) ((x.rs.drop (i+1)).map encR)=(x.rs.drop (i+1)).map encR:=List.take_of_length_le (by simp)
  have ew:=hp.rs x.rs[i] (List.getElem_mem ab)
  repeat refine sq ?_
  refine aE ?_
  repeat refine sq ?_
  refine aN ?_
  repeat refine sq ?_
  refine rx hΓ [0,4,5,11,12,13] [[5,0]] (fun K' hK=>by simp only[go_sem,hO,ae,h0,h1,h2,ah ab,ai,aj,au];(repeat (refine⟨an,?_⟩));exact hK _ (by simp only[go_sem,hO,ae,h0,h1,h2,ah ab,ai,aj,au]) (by simp only[go_sem,hO,ae,h0,h1,h2,ah ab,ai,aj,au]<;>rfl)) ?_
  repeat refine sq ?_
  refine rx hΓ [0,5,11,12,13,24,25,26] [[5,0]] (fun K' hK=>by simp only[go_sem,hO,ae,h0,h1,h2,ah ab,ai,aj,au,xG,<-List.map_drop,xK];(repeat (refine⟨by first | exact an | exact⟨by omega,Int.le_refl _,fun y hy=>(Dz _ y hy).1⟩,?_⟩));exact hK _ (by simp only[go_sem,hO,ae,h0,h1,h2,ah ab,ai,aj,au,xG,<-List.map_drop,xK]) (by simp only[go_sem,hO,ae,h0,h1,h2,ah ab,ai,aj,au,xG,<-List.map_drop,xK]<;>rfl)) ?_
  repeat refine sq ?_
  refine aN ?_
  repeat refine sq ?_
  refine cB (fun s:Nat=>[(26,⟨true,.v (vInt s)⟩)]) (fun s=>[]) (fun s=>s<=(x.rs.drop (i+1)).length/\∀ k (hk:k<(x.rs.drop (i+1)).length),k<s->gB x x.rs[i] (x.rs.drop (i+1))[k]=false) (fun s=>(x.rs.drop (i+1)).length-s) 0 ?_ ?_ ?_ ?_
  ·exact⟨Nat.zero_le _,by simp⟩
  ·rfl
  ·rfl
  rintro i1 ⟨hi,hR⟩
  simp only[go_sem]
  repeat refine sq ?_
  refine rx hΓ [0,5,11,12,13,24,25,26,27] [[5,0]] (fun K' hK=>by simp only[go_sem,hO,ae,h0,h1,h2,ah ab,ai,aj,au];(repeat (refine⟨an,?_⟩));exact hK _ (by simp only[go_sem,hO,ae,h0,h1,h2,ah ab,ai,aj,au]) (by simp only[go_sem,hO,ae,h0,h1,h2,ah ab,ai,aj,au]<;>rfl)) ?_
  repeat refine sq ?_
  refine ay (fun hb=>?_) fun hb=>?_
  ·have aT:i1<(x.rs.drop (i+1)).length:=by simpa using hb
   have bH:(i1:Int)<(x.rs.drop (i+1)).length:=by omega
   clear hb
   have gh:=hp.rs (x.rs.drop (i+1))[i1] (List.mem_of_mem_drop (List.getElem_mem aT))
   repeat refine sq ?_
   refine aE ?_
   repeat refine sq ?_
   refine aN ?_
   repeat refine sq ?_
   refine rx hΓ [0,5,7,11,12,13,24,25,26] [[5,0],[7,0]] (fun K' hK=>by simp only[go_sem,hO,ae,h0,h1,h2,ah ab,ai,aj,au,ah aT,ai,aj,bH];(repeat (refine⟨an,?_⟩));exact hK _ (by simp only[go_sem,hO,ae,h0,h1,h2,ah ab,ai,aj,au,ah aT,ai,aj,bH]) (by simp only[go_sem,hO,ae,h0,h1,h2,ah ab,ai,aj,au,ah aT,ai,aj,bH]<;>rfl)) ?_
   repeat refine sq ?_
   refine rx hΓ [0,5,7,11,12,13,24,25,26,33] [[5,0],[7,0]] (fun K' hK=>by simp only[go_sem,hO,ae,h0,h1,h2,ah ab,ai,aj,au,ah aT,ai,aj,bH];(repeat (refine⟨an,?_⟩));exact hK _ (by simp only[go_sem,hO,ae,h0,h1,h2,ah ab,ai,aj,au,ah aT,ai,aj,bH]) (by simp only[go_sem,hO,ae,h0,h1,h2,ah ab,ai,aj,au,ah aT,ai,aj,bH]<;>rfl)) ?_
   repeat refine sq ?_
   refine ay (fun hb=>?_) fun hb=>?_
   ·repeat refine sq ?_
    refine rx hΓ [2,3] [] (fun K' hK=>by simp only[go_sem,hO,ae,h0,h1,h2,ah ab,ai,aj,au,ah aT,ai,aj,bH];(repeat (refine⟨an,?_⟩));exact hK _ (by simp only[go_sem,hO,ae,h0,h1,h2,ah ab,ai,aj,au,ah aT,ai,aj,bH]) (by simp only[go_sem,hO,ae,h0,h1,h2,ah ab,ai,aj,au,ah aT,ai,aj,bH]<;>rfl)) ?_
    refine aA ?_
    simp only[go_sem,hO,ae,h0,h1,h2]
    rw[JS ab (by assumption) (JT ab aT hR (by simpa using hb))];rfl
   ·repeat refine sq ?_
    refine aE ?_
    refine bQ ?_
    simp only[go_sem]
    refine eG [0,5,11,12,13,24,25,26] [[5,0]] ?_ ?_
    ·simp only[go_sem,hO,ae,h0,h1,h2]
    simp only[go_sem,hO,ae,h0,h1,h2]
    repeat refine sq ?_
    refine aP hΓ fun K' hK=>?_
    simp only[go_sem,hO,ae,h0,h1,h2,ah ab,ai,aj,au,ah aT,ai,aj,bH]
    repeat (refine⟨an,?_⟩)
    refine hK _ ?_
    clear K' hK
    simp only[go_sem]
    refine⟨i1+1,⟨aT,?_⟩,by(show (x.rs.drop (i+1)).length-(i1+1)<(x.rs.drop (i+1)).length-i1;omega),?_⟩
    ·intro k hk dO
     rcases Nat.lt_succ_iff_lt_or_eq.1 dO with h5 | rfl
     ·exact hR k hk h5
     ·simpa using hb
    refine bd [0,5,11,12,13,24,25,26] [[5,0]] ?_ ?_<;>simp only[go_sem,a7 aT (by rw[List.length_drop];omega:(x.rs.drop (i+1)).length<=maxLen),bb,hO,ae,h0,h1,h2]
  ·have lY:i1=(x.rs.drop (i+1)).length:=by
    have :¬ (i1:Int)<(x.rs.drop (i+1)).length:=by simpa using hb
    omega
   clear hb
   subst lY
   repeat refine sq ?_
   refine bT ?_
   simp only[go_sem]
   refine eG [0,11,12,13] [] ?_ ?_
   ·simp only[go_sem,hO,ae,h0,h1,h2]
   simp only[go_sem,hO,ae,h0,h1,h2]
   repeat refine sq ?_
   refine aP hΓ fun K' hK=>?_
   simp only[go_sem,hO,ae,h0,h1,h2,ah ab,ai,aj,au]
   repeat (refine⟨an,?_⟩)
   refine hK _ ?_
   clear K' hK
   simp only[go_sem]
   refine⟨i+1,⟨ab,?_⟩,by(show x.rs.length-(i+1)<x.rs.length-i;omega),?_⟩
   ·intro k hk
    rcases Nat.lt_succ_iff_lt_or_eq.1 hk with h5 | rfl
    ·exact(by assumption:∀ k,k<i->nN x k=none) k h5
    ·exact zQ ab fun j hj=>hR j hj hj
   refine bd [0,11,12,13] [] ?_ ?_<;>simp only[go_sem,a7 ab mL,bb,hO,ae,h0,h1,h2]
 ·have bB:i=x.rs.length:=by
   have :¬ (i:Int)<x.rs.length:=by simpa using hb
   omega
  clear hb
  subst bB
  repeat refine sq ?_
  refine bT ?_
  simp only[go_sem]
  refine eG [] [] ?_ ?_
  ·simp only[go_sem,hO,ae,h0,h1,h2]
  simp only[go_sem,hO,ae,h0,h1,h2]
  repeat refine sq ?_
  refine rx hΓ [2,3] [] (fun K' hK=>by simp only[go_sem,hO,ae,h0,h1,h2];(repeat (refine⟨an,?_⟩));exact hK _ (by simp only[go_sem,hO,ae,h0,h1,h2]) (by simp only[go_sem,hO,ae,h0,h1,h2]<;>rfl)) ?_
  refine aA ?_
  simp only[go_sem,hO,ae,h0,h1,h2]
  rw[Du hR];rfl
end
def je(obj:Name->Option O)(L:List O):Name->Option O:=fun nm=>match aR L nm with | some o=>some o | none=>obj nm
theorem IP{L1 L2:List O}(h:L2.length=L1.length):je (aR L1) L2=aR L2:=by
 funext nm
 unfold je
 cases hx:di nm with
 |false=>rw[zR hx,zR hx]
 |true=>
  obtain⟨i,rfl⟩:=vq.1 hx
  simp only[aR]
  by_cases hi:i<L2.length
  ·rw[List.getElem?_eq_getElem hi]
  ·rw[List.getElem?_eq_none (by omega),List.getElem?_eq_none (by omega)]
theorem vk(n:Nat)(p:Name)(F H:Name->Option O)(L:List O)(l:List (Nat×E))(h:List (Name×O)):
 bg n p (je (fun nm=>if own p nm=true then F nm else H nm) L) l h=bg n p (je H L) l h:=
 Ac fun nm hn=>by unfold je;simp[hn]
theorem wu(p:Name)(dom:Name->Bool)(F H:Name->Option O)(L:List O):
 ck p dom (je (fun nm=>if own p nm=true then F nm else H nm) L)=ck p dom (je H L):=by
 have e:∀ nm,own p nm=false->je (fun nm=>if own p nm=true then F nm else H nm) L nm=je H L nm:=fun nm hn=>by unfold je;simp[hn]
 exact propext ⟨fun k nm q hn h=>k nm q hn (by rw[e nm hn];exact h),fun k nm q hn h=>k nm q hn (by rw[<-e nm hn];exact h)⟩
def Lp.I(r:Lp)(s:Nat):List O:=r.rc (LI r.m) .ready none::r.fam (LI r.m) s
theorem Lp.I_len{r:Lp}(hr:r.Ok)(s:Nat):(r.I s).length=r.m+1:=by unfold Lp.I;rw[List.length_cons,hr.len _ _ (gC _)]
theorem Lp.I_clos{r:Lp}(hr:r.Ok)(s:Nat):∀ o∈r.I s,∀ dom:Name->Bool,(∀ i,dom [i,1]=true)->O.clos dom o=true:=by
 intro o ho dom hd
 have kz:∀ x∈LI r.m,dom x=true:=fun x hx=>by
  obtain⟨i,_,rfl⟩:=List.mem_map.1 hx
  exact hd _
 rcases List.mem_cons.1 ho with rfl | ho
 ·exact hr.closE _ _ (gC _) kz
 ·exact hr.closF _ _ _ (gC _) kz _ ho
theorem Lp.y_setU{r:Lp}(hr:r.Ok)(cK:∀ j,r.st j=none){s:Nat}(hs:s<r.n)(obj:Name->Option O)(tm:Name)(ho:∀ nm,di nm=true->obj nm=aR (r.I s) nm):
 r.y.toSpec.app obj tm (.yld [0,1]::r.vals s)=⟨True,.v (.bool true),je obj (r.I (s+1))⟩:=by
 have tF:(LI r.m).Nodup:=List.Pairwise.map _ (fun a b h=>by simpa using h) List.nodup_range
 have qi:([0,1]:Name)∉LI r.m:=fun h=>by
  obtain⟨i,_,hi⟩:=List.mem_map.1 h
  simp at hi
 have h0:obj [0,1]=some (r.rc (LI r.m) .ready none):=by
  rw[ho _ rfl];rfl
 have hF:cv obj (LI r.m) (r.fam (LI r.m) s):=by
  rw[ke]
  refine List.ext_getElem (by rw[List.length_map,List.length_map,gC,hr.len _ _ (gC _)]) fun i h3 h4=>?_
  simp only[List.getElem_map,LI,List.getElem_range]
  rw[ho _ rfl]
  simp only[Lp.I,aR,List.getElem?_cons_succ]
  have h5:i<(r.fam (LI r.m) s).length:=by simpa using h4
  rw[List.getElem?_eq_getElem h5]
  rfl
 have tC:=Lp.y_app hr hs (fun j _=>cK j) (t:=tm) (gC _) tF qi h0 hF
 rw[tC,cK s]
 simp only[Option.isNone_none,if_true]
 congr 1
 funext nm
 have hlen:=hr.len (LI r.m) (s+1) (gC _)
 by_cases hR:nm=[0,1]
 ·subst hR
  rw[aS]
  rfl
 ·rw[aY _ _ _ hR]
  unfold je
  cases hx:di nm with
  |false=>
   rw[zR hx,uR]
   intro iV
   obtain⟨i,_,rfl⟩:=List.mem_map.1 iV
   cases hx
  |true=>
   obtain⟨i,rfl⟩:=vq.1 hx
   have eO:=IU (obj:=obj) (F:=r.fam (LI r.m) (s+1)) tF (by rw[gC,hlen])
   match i,hR with
   | 0,hR=>exact(hR rfl).elim
   |i+1,_=>
    simp only[Lp.I,aR,List.getElem?_cons_succ]
    by_cases hi:i<r.m
    ·have h6:=DG eO i (by rw[gC];exact hi) (by rw[hlen];exact hi)
     simp only[LI,List.getElem_map,List.getElem_range]at h6
     rw[show (r.fam (LI r.m) (s+1))[i]?=some (r.fam (LI r.m) (s+1))[i]from List.getElem?_eq_getElem (by rw[hlen];exact hi)]
     exact h6
    ·rw[List.getElem?_eq_none (by rw[hlen];omega),uR]
     intro iV
     obtain⟨j,NO,ZD⟩:=List.mem_map.1 iV
     have :=List.mem_range.1 NO
     simp at ZD
     omega
theorem Lp.go_e{r:Lp}(cK:∀ j,r.st j=none):r.e=r.n/\r.pd=none:=by
 have :(List.range r.n).find? (fun s=>(r.st s).isSome)=none:=List.find?_eq_none.2 fun s _=>by rw[cK s];decide
 unfold Lp.e Lp.pd
 rw[this]
 exact⟨rfl,rfl⟩
theorem Lp.go_end{P:Program}{r:Lp}(hr:r.Ok)(cK:∀ j,r.st j=none){σ:S}(eW:∀ i,σ.obj [i,1]=aR (r.I r.n) [i,1]):
 (bX P σ []).ok/\(bX P σ []).d=.tup []/\gQ (r.rc (LI r.m) .ready none::r.fam (LI r.m) 0) ⟨(0,r.fin (LI r.m))::fi 1 (r.fam (LI r.m) r.e),[],.tup []⟩ σ:=by
 obtain⟨e1,e2⟩:=Lp.go_e cK
 refine Lp.it_end hr ?_ ?_
 ·rw[eW]
  unfold Lp.fin
  rw[e2]
  rfl
 ·rw[ke,e1]
  refine List.ext_getElem (by rw[List.length_map,List.length_map,gC,hr.len _ _ (gC _)]) fun i h3 h4=>?_
  simp only[List.getElem_map,LI,List.getElem_range]
  rw[eW]
  simp only[Lp.I,aR,List.getElem?_cons_succ]
  have h5:i<(r.fam (LI r.m) r.n).length:=by simpa using h4
  rw[List.getElem?_eq_getElem h5]
  rfl
theorem Lp.itC_sound{P:Program}{r:Lp}(hr:r.Ok)(cK:∀ j,r.st j=none){caps:List Name->List D}{f:FuncId}{fn:Func}{nt:Nat}(hf:P.funcs[f]?=some fn)(cN:fn.ntmps=nt)(bP:fn.results.toList=[])(hn:(fn.name== "runtime.NumGoroutine")=false)(hy:f<1000000000)
 (hw:∃ c,fn.body=some c/\(caps (LI r.m)).length+1<=nt/\CL P [c] (bg nt [0] (aR (r.I 0)) (dj 0 (.yld [0,1]::caps (LI r.m))) []) (fun e σ=>(e=.normal\/e=.ret)/\∀ i,σ.obj [i,1]=aR (r.I r.n) [i,1])):aL P f (r.itC caps).toSpec:=by
 obtain⟨c,hc,hl,hw⟩:=hw
 refine oy hf hc cN bP (iX hf hc hn) (Nat.ne_of_lt (show f<yid from hy)) ?_
 rintro os ds ⟨rfl,rfl⟩
 refine⟨by simpa using hl,CW.mono (iG hw) ?_⟩
 rintro e σ ⟨he,eW⟩
 rcases he with rfl | rfl
 ·exact Lp.go_end hr cK eW
 ·exact Lp.go_end hr cK eW
theorem Lp.it_sound{P:Program}{r:Lp}(hr:r.Ok)(cK:∀ j,r.st j=none){caps:List V}{f:FuncId}{fn:Func}{nt:Nat}(hf:P.funcs[f]?=some fn)(cN:fn.ntmps=nt)(bP:fn.results.toList=[])(hn:(fn.name== "runtime.NumGoroutine")=false)(hy:f<1000000000)
 (hw:∃ c,fn.body=some c/\caps.length+1<=nt/\CL P [c] (bg nt [0] (aR (r.I 0)) (dj 0 (.yld [0,1]::caps.map .v)) []) (fun e σ=>(e=.normal\/e=.ret)/\∀ i,σ.obj [i,1]=aR (r.I r.n) [i,1])):aL P f (r.it caps).toSpec:=by
 obtain⟨c,hc,hl,hw⟩:=hw
 refine oy hf hc cN bP (iX hf hc hn) (Nat.ne_of_lt (show f<yid from hy)) ?_
 rintro os ds ⟨rfl,rfl⟩
 refine⟨by simpa using hl,CW.mono (iG hw) ?_⟩
 rintro e σ ⟨he,eW⟩
 rcases he with rfl | rfl
 ·exact Lp.go_end hr cK eW
 ·exact Lp.go_end hr cK eW
noncomputable section
def qz(obj:Name->Option O)(t:Name):List D->R
 |[.ref nv 0,.v (.int .i64 pa),.v (.sl lv)]=>match jq obj nv with
  |some (nb,nd,x)=>⟨oO obj nv nb nd x/\obj (3::0::t)=none,.clo (.func 193) [] [.ref (3::0::t) 0,.v (.ptr [vInt pa]),.v (.ptr [.sl lv])],upd obj (3::0::t) (some (.box [.ref nv 0]))⟩
  |_=>.bad obj
 |_=>.bad obj
def Cu(obj:Name->Option O)(t:Name):List D->List Name
 | .ref nv _::_=>(3::0::t)::nv::(match obj nv with | some (.box [_,_,_,.map nb,.map nd])=>[nb,nd] | _=>[])
 |_=>[]
def withS:Spec:=⟨qz,Cu,Cu⟩
theorem aaN{obj obj2:Name->Option O}{nv:Name}(h1:obj2 nv=obj nv)(h2:∀ nm∈(match obj nv with | some (.box [_,_,_,.map nb,.map nd])=>[nb,nd] | _=>[]),obj2 nm=obj nm):jq obj2 nv=jq obj nv:=by
 unfold jq
 rw[h1]
 split
 ·rename_i lp rs ts nb nd h
  rw[h]at h2
  rw[h2 nb (by simp),h2 nd (by simp)]
 ·rfl
theorem aaM{obj:Name->Option O}{nv nb nd:Name}{x:Vw}(h:jq obj nv=some (nb,nd,x)):(match obj nv with | some (.box [_,_,_,.map nb,.map nd])=>[nb,nd] | _=>[])=[nb,nd]:=by
 unfold jq at h
 split at h
 ·rename_i e
  split at h
  ·cases h;rw[e]
  ·cases h
 ·cases h
theorem RB:withS.Near:=by
 refine xe fun obj obj2 t ds ha=>?_
 unfold Cu at ha |-
 split
 ·rename_i nv off r
  simp only at ha
  have h1:obj2 nv=obj nv:=ha nv (by simp)
  have hg:=aaN h1 fun nm hn=>ha nm (by simp[hn])
  refine⟨by rw[h1],?_⟩
  unfold qz
  split
  ·rename_i nv' pa lv e
   cases e
   simp only[hg]
   split
   ·rename_i nb nd x hx
    have aB:=aaM hx
    rw[aB]at ha |-
    have aa:oO obj2 nv nb nd x=oO obj nv nb nd x:=by unfold oO;rw[h1,ha nb (by simp),ha nd (by simp)]
    rw[aa,ha (3::0::t) (by simp)]
    exact .one (by simp) ha
   ·exact .none _ ha
  ·exact .none _ ha
 ·refine⟨rfl,?_⟩
  rename_i mS
  unfold qz
  split
  ·exact(mS _ _ _ rfl).elim
  ·exact .none _ (fun _ h=>by cases h)
attribute [go_sem] withS qz
def zc:CSpec where
 pre:=fun os ds=>∃ (x:Vw) (pa:Int) (lv:List V),os=[bt x [1,1] [2,1],.map 2 (bS x.bk),.map 0 (bG x.ds)]/\ds=[.ref [0,1] 0,.v (vInt pa),.v (.sl lv)]
 out:=fun _ ds=>match ds with
  |[_,.v p,.v l]=>⟨[],[([3,0],.box [.ref [0,1] 0])],.clo (.func 193) [] [.ref [3,0] 0,.v (.ptr [p]),.v (.ptr [l])]⟩
  |_=>⟨[],[],.any⟩
theorem RA{f:FuncId}(h:aL Tryz.prog f zc.toSpec)(aF:f≠yid):aL Tryz.prog f withS:=by
 refine wI h RB aF fun obj t ds aa=>?_
 change (qz obj t ds).ok at aa
 refine⟨ds,rfl,fun _ _ _ _ h=>h,?_⟩
 show _/\_=(qz obj t ds).d/\_=(qz obj t ds).obj
 unfold qz at aa |-
 split at aa
 ·rename_i nv pa lv
  split at aa
  ·rename_i nb nd x yb
   obtain⟨hv,c0⟩:=aa
   have sT:=hv
   obtain⟨h1,h2,h3,h4,h5,h6⟩:=sT
   have n4:nv≠nb:=by simpa using h4
   have n5:nv≠nd:=by simpa using h5
   have n6:nb≠nd:=by simpa using h6
   have hr:=Ju hv [vInt pa,.sl lv]
   simp only[List.map_cons,List.map_nil]at hr
   have i0:idx [nv,nb,nd] nv=0:=by simp[idx]
   have i1:idx [nv,nb,nd] nb=1:=by simp[idx,n4]
   have i2:idx [nv,nb,nd] nd=2:=by simp[idx,n5,n6]
   have e1:cF obj [.ref nv 0,.v (vInt pa),.v (.sl lv)]=[bt x [1,1] [2,1],.map 2 (bS x.bk),.map 0 (bG x.ds)]:=by
    unfold cF
    rw[hr]
    simp only[List.map_cons,List.map_nil,cE,h1,h2,h3,bt,O.ren,D.renL,D.ren,cin,i1,i2]
   have e2:db obj [.ref nv 0,.v (vInt pa),.v (.sl lv)]=[.ref [0,1] 0,.v (vInt pa),.v (.sl lv)]:=by
    unfold db
    rw[hr]
    simp only[D.renL,D.ren,cin,i0]
   have e5:(shut obj [nv,nb,nd]&&D.closL (cJ [nv,nb,nd]) [.ref nv 0,.v (vInt pa),.v (.sl lv)]&&fresh obj t [([3,0],.box [.ref [0,1] 0])])=true:=by
    simp[shut,h1,h2,h3,bt,O.clos,D.closL,D.clos,cJ,fresh,c0]
   have e4:zc.pre [bt x [1,1] [2,1],.map 2 (bS x.bk),.map 0 (bG x.ds)] [.ref [0,1] 0,.v (vInt pa),.v (.sl lv)]:=⟨x,pa,lv,rfl,rfl⟩
   have e6:∀ os,zc.out os [.ref [0,1] 0,.v (vInt pa),.v (.sl lv)]=⟨[],[([3,0],.box [.ref [0,1] 0])],.clo (.func 193) [] [.ref [3,0] 0,.v (.ptr [vInt pa]),.v (.ptr [.sl lv])]⟩:=fun _=>rfl
   have vT:db obj [.ref nv 0,.v (V.int .i64 pa),.v (.sl lv)]=[.ref [0,1] 0,.v (vInt pa),.v (.sl lv)]:=e2
   have e1':cF obj [.ref nv 0,.v (V.int .i64 pa),.v (.sl lv)]=_:=e1
   have rp:reach obj [.ref nv 0,.v (V.int .i64 pa),.v (.sl lv)]=_:=hr
   have e5':(shut obj [nv,nb,nd]&&D.closL (cJ [nv,nb,nd]) [.ref nv 0,.v (V.int .i64 pa),.v (.sl lv)]&&fresh obj t [([3,0],.box [.ref [0,1] 0])])=true:=e5
   simp only[CSpec.toSpec,e1',vT,rp,e6,e4,e5',yb,and_self,dv,cH]
   exact⟨trivial,rfl,rfl⟩
  ·exact aa.elim
 ·exact aa.elim
def S164:Spec:=withS
attribute [go_sem] S164
set_option maxHeartbeats 4000000 in
theorem Es:aL Tryz.prog 164 S164:=by
 refine RA ?_ (nU _ (by decide))
 refine oy (nt:=8) (rs:=[.tmp 6]) Tryz.func164 rfl (by rfl) (by kernel_rfl) (iX Tryz.func164 rfl (by kernel_rfl)) (nU _ (by decide)) ?_
 rintro os ds ⟨x,pa,lv,rfl,rfl⟩
 refine⟨lb rfl,?_⟩
 have gN:∀ os,zc.out os [.ref [0,1] 0,.v (vInt pa),.v (.sl lv)]=⟨[],[([3,0],.box [.ref [0,1] 0])],.clo (.func 193) [] [.ref [3,0] 0,.v (.ptr [vInt pa]),.v (.ptr [.sl lv])]⟩:=fun _=>rfl
 rw[gN]
 refine iG ?_
 have hΓ:=@fx Tryz.prog
 have hO:∀ hs,ck [0] (bY [0] hs) (aR [bt x [1,1] [2,1],.map 2 (bS x.bk),.map 0 (bG x.ds)])=True:=fun hs=>eq_true (nP (by
  intro o ho dom hd
  simp only[List.mem_cons,List.not_mem_nil,or_false]at ho
  rcases ho with rfl | rfl | rfl
  ·simp[bt,O.clos,D.closL,D.clos,hd]
  ·rfl
  ·rfl) hs)
 have h0:aR [bt x [1,1] [2,1],.map 2 (bS x.bk),.map 0 (bG x.ds)] [0,1]=some (bt x [1,1] [2,1]):=rfl
 have h1:aR [bt x [1,1] [2,1],.map 2 (bS x.bk),.map 0 (bG x.ds)] [1,1]=some (.map 2 (bS x.bk)):=rfl
 have h2:aR [bt x [1,1] [2,1],.map 2 (bS x.bk),.map 0 (bG x.ds)] [2,1]=some (.map 0 (bG x.ds)):=rfl
 generalize aR [bt x [1,1] [2,1],.map 2 (bS x.bk),.map 0 (bG x.ds)]=H at *
 repeat refine sq ?_
 refine rx hΓ [3,4,5] [[3,0],[4,0],[5,0]] (fun K' hK=>by simp only[go_sem,hO];(repeat (refine⟨an,?_⟩));exact hK _ (by simp only[go_sem,hO]) (by simp only[go_sem,hO]<;>rfl)) ?_
 refine bD (dd 4 (.ref [4,0] 0) (by simp only[go_sem]) (by simp only[go_sem]) [3,4,5] [[3,0],[4,0],[5,0]] ?_ rfl) ?_
 ·simp only[go_sem,hO]
 simp only[go_sem,hO]
 refine bD (dd 5 (.ref [5,0] 0) (by simp only[go_sem]) (by simp only[go_sem]) [3,4,5] [[3,0]] ?_ rfl) ?_
 ·simp only[go_sem,hO]
 simp only[go_sem,hO]
 repeat refine sq ?_
 refine rx hΓ [6] [[3,0],[4,0],[5,0]] (fun K' hK=>by simp only[go_sem,hO];(repeat (refine⟨an,?_⟩));exact hK _ (by simp only[go_sem,hO]) (by simp only[go_sem,hO]<;>rfl)) ?_
 refine aA ?_
 simp only[go_sem,hO]
 exact⟨⟨h0,h1,h2⟩,rfl⟩
end
attribute [go_sem] xz
theorem uZ(lv:List Int):pG (194,[.ptr [.sl (lv.map vInt)]])=fun n=>lv.contains n:=by
 funext n
 simp only[pG,o7]
set_option maxHeartbeats 8000000 in
theorem RP{sY:Spec}(hY:aL Tryz.prog yid sY){x:Vw}{nb nd:Name}{pa:Int}{lv:List Int}{ia ic:Nat}{I:Nat->List O}(hv:∀ r∈x.rs,eh r=true)(lV:x.rs.length<=60)
 (hI:∀ s,(I s).length=(I 0).length) (hc:∀ s,∀ o∈I s,∀ dom:Name->Bool,(∀ i,dom [i,1]=true)->O.clos dom o=true)
 (ha:aR (I 0) [ia,1]=some (.box [.ref [ic,1] 0])) (hx:aR (I 0) [ic,1]=some (bt x nb nd))
 (cK:∀ s (h:s<x.rs.length),gx pa lv x.rs[s]=false->I (s+1)=I s)
 (lf:∀ s (h:s<x.rs.length),gx pa lv x.rs[s]=true->∀ obj tm,(∀ nm,di nm=true->obj nm=aR (I s) nm)->sY.app obj tm [.yld [0,1],gW x.rs[s]]=⟨True,.v (.bool true),je obj (I (s+1))⟩):
 ∃ c',Tryz.f193.body=some c'/\CL Tryz.prog [c'] (bg 33 [0] (aR (I 0)) [(0,⟨true,.yld [0,1]⟩),(1,⟨true,.ref [ia,1] 0⟩),(2,⟨true,.v (.ptr [vInt pa])⟩),(3,⟨true,.v (.ptr [.sl (lv.map vInt)])⟩)] [])
   (fun e σ=>(e=.normal\/e=.ret)/\∀ i,σ.obj [i,1]=aR (I x.rs.length) [i,1]):=by
 refine⟨_,rfl,?_⟩
 obtain⟨Γ,hΓ,eF,dP⟩:∃ Γ:FuncId->Option Spec,(∀ f s,Γ f=some s->aL Tryz.prog f s)/\Γ 160=some S160/\Γ 1000000000=some sY:=by
  refine⟨fun f=>if f=160 then some S160 else if f=1000000000 then some sY else none,fun f s h=>?_,rfl,rfl⟩
  dsimp only at h
  split at h
  ·rename_i e;cases h;subst e;exact Et
  ·split at h
   ·rename_i e;cases h;subst e;exact hY
   ·cases h
 have hO:∀ s hs,ck [0] (bY [0] hs) (aR (I s))=True:=fun s hs=>eq_true (nP (hc s) hs)
 have pW:∀ s,je (aR (I s)) (I (s+1))=aR (I (s+1)):=fun s=>IP ((hI _).trans (hI s).symm)
 obtain⟨H,hH⟩:∃ H:Nat->Name->Option O,∀ s,aR (I s)=H s:=⟨_,fun _=>rfl⟩
 simp only[hH]at hO pW lf ha hx |-
 simp only[bt]at hx
 have mL:x.rs.length<=maxLen:=by unfold maxLen;omega
 repeat refine sq ?_
 refine rx hΓ [0,2,3,10,11,12] [] (fun K' hK=>by simp only[go_sem,hO,ha,hx];(repeat (refine⟨an,?_⟩));exact hK _ (by simp only[go_sem,hO,ha,hx]) (by simp only[go_sem,hO,ha,hx]<;>rfl)) ?_
 repeat refine sq ?_
 refine aN ?_
 repeat refine sq ?_
 refine yC (fun s:Nat=>bg 33 [0] (H s) [(0,⟨true,.yld [0,1]⟩),(2,⟨true,.v (.ptr [vInt pa])⟩),(3,⟨true,.v (.ptr [.sl (lv.map vInt)])⟩),(10,⟨true,.v (.sl (x.rs.map encR))⟩),(11,⟨true,.v (vInt x.rs.length)⟩),(12,⟨true,.v (vInt s)⟩)] [])
  (fun s=>s<=x.rs.length) (fun s=>x.rs.length-s) 0 (Nat.zero_le _) (dW.refl _) ?_
 rintro i hi
 repeat refine sq ?_
 refine rx hΓ [0,2,3,10,11,12,13] [] (fun K' hK=>by simp only[go_sem,hO];(repeat (refine⟨an,?_⟩));exact hK _ (by simp only[go_sem,hO]) (by simp only[go_sem,hO]<;>rfl)) ?_
 repeat refine sq ?_
 refine ay (fun hb=>?_) fun hb=>?_
 ·have ab:i<x.rs.length:=by simpa using hb
  have au:(i:Int)<x.rs.length:=by omega
  have xE:IntKind.i64.wrap ((i:Int)+1)=((i+1:Nat):Int):=a7 ab mL
  clear hb
  have hlf:=Dc (hv x.rs[i] (List.getElem_mem ab))
  repeat refine sq ?_
  refine aE ?_
  repeat refine sq ?_
  refine aN ?_
  repeat refine sq ?_
  refine rx hΓ [0,2,3,6,10,11,12] [[6,0]] (fun K' hK=>by simp only[go_sem,hO,ah ab,ai,aj,au];(repeat (refine⟨an,?_⟩));exact hK _ (by simp only[go_sem,hO,ah ab,ai,aj,au]) (by simp only[go_sem,hO,ah ab,ai,aj,au]<;>rfl)) ?_
  have N8:(if gx pa lv x.rs[i]=true then H (i+1)else H i)=H (i+1):=by
   split
   ·rfl
   ·rename_i h;rw[<-hH,<-hH,cK i ab (by simpa using h)]
  by_cases n9:x.rs[i].pa=pa
  ·have mM:(x.rs[i].pa==pa)=true:=by simp[n9]
   cases jo:x.rs[i].lv.any fun n=>lv.contains n with
   |true=>
    have oh:gx pa lv x.rs[i]=true:=by unfold gx;rw[jo];simp[n9]
    have qf:=fun (F:Name->Option O) (tm:Name)=>lf i ab oh (fun nm=>if own [0] nm=true then F nm else H i nm) tm fun nm hn=>by
     obtain⟨k,rfl⟩:=vq.1 hn
     simp[qL]
    simp only[gW]at qf
    repeat refine sq ?_
    refine rx hΓ [0,2,3,10,11,12,31] [] (fun K' hK=>by simp only[go_sem,hO,eF,dP,mM,uZ,jo,qf,vk,wu,pW,Bool.not_true];(repeat (refine⟨by first | exact an | exact⟨trivial,.inr (.inr ⟨_,rfl⟩)⟩ | exact .inr (.inr ⟨_,rfl⟩),?_⟩));exact hK _ (by simp only[go_sem,hO,eF,dP,mM,uZ,jo,qf,vk,wu,pW,Bool.not_true]) (by simp only[go_sem,hO,eF,dP,mM,uZ,jo,qf,vk,wu,pW,Bool.not_true]<;>rfl)) ?_
    repeat refine sq ?_
    refine ay (fun hb=>?_) fun hb=>?_
    ·cases hb
    repeat refine sq ?_
    refine aE ?_
    refine bQ ?_
    simp only[go_sem]
    refine eG [0,2,3,10,11,12] [] ?_ ?_
    ·simp only[go_sem,hO]
    simp only[go_sem,hO]
    repeat refine sq ?_
    refine aP hΓ fun K' hK=>?_
    simp only[go_sem]
    repeat (refine⟨an,?_⟩)
    refine hK _ ?_
    clear K' hK
    simp only[go_sem]
    refine⟨i+1,ab,by omega,?_⟩
    refine bd [0,2,3,10,11,12] [] ?_ ?_<;>simp only[go_sem,hO,xE,bb]
   |false=>
    have oh:gx pa lv x.rs[i]=false:=by unfold gx;rw[jo];simp
    have F9:H (i+1)=H i:=by rw[<-hH,<-hH,cK i ab oh]
    repeat refine sq ?_
    refine rx hΓ [0,2,3,10,11,12,31] [] (fun K' hK=>by simp only[go_sem,hO,eF,dP,mM,uZ,jo];(repeat (refine⟨by first | exact an | exact⟨trivial,.inr (.inr ⟨_,rfl⟩)⟩ | exact .inr (.inr ⟨_,rfl⟩),?_⟩));exact hK _ (by simp only[go_sem,hO,eF,dP,mM,uZ,jo]) (by simp only[go_sem,hO,eF,dP,mM,uZ,jo]<;>rfl)) ?_
    repeat refine sq ?_
    refine ay (fun hb=>?_) fun hb=>?_
    ·cases hb
    repeat refine sq ?_
    refine aE ?_
    refine bQ ?_
    simp only[go_sem]
    refine eG [0,2,3,10,11,12] [] ?_ ?_
    ·simp only[go_sem,hO]
    simp only[go_sem,hO]
    repeat refine sq ?_
    refine aP hΓ fun K' hK=>?_
    simp only[go_sem]
    repeat (refine⟨an,?_⟩)
    refine hK _ ?_
    clear K' hK
    simp only[go_sem]
    refine⟨i+1,ab,by omega,?_⟩
    rw[F9]
    refine bd [0,2,3,10,11,12] [] ?_ ?_<;>simp only[go_sem,hO,xE,bb]
  ·have mM:(x.rs[i].pa==pa)=false:=by simp[n9]
   have oh:gx pa lv x.rs[i]=false:=by unfold gx;simp[n9]
   have F9:H (i+1)=H i:=by rw[<-hH,<-hH,cK i ab oh]
   repeat refine sq ?_
   refine rx hΓ [0,2,3,10,11,12,31] [] (fun K' hK=>by simp only[go_sem,hO,eF,dP,mM];(repeat (refine⟨an,?_⟩));exact hK _ (by simp only[go_sem,hO,eF,dP,mM]) (by simp only[go_sem,hO,eF,dP,mM]<;>rfl)) ?_
   repeat refine sq ?_
   refine ay (fun hb=>?_) fun hb=>?_
   ·cases hb
   repeat refine sq ?_
   refine aE ?_
   refine bQ ?_
   simp only[go_sem]
   refine eG [0,2,3,10,11,12] [] ?_ ?_
   ·simp only[go_sem,hO]
   simp only[go_sem,hO]
   repeat refine sq ?_
   refine aP hΓ fun K' hK=>?_
   simp only[go_sem]
   repeat (refine⟨an,?_⟩)
   refine hK _ ?_
   clear K' hK
   simp only[go_sem]
   refine⟨i+1,ab,by omega,?_⟩
   rw[F9]
   refine bd [0,2,3,10,11,12] [] ?_ ?_<;>simp only[go_sem,hO,xE,bb]
 ·have bB:i=x.rs.length:=by
    have :¬ (i:Int)<x.rs.length:=by simpa using hb
    omega
  subst bB
  clear hb
  repeat refine sq ?_
  refine bT ?_
  simp only[go_sem]
  refine bQ ?_
  simp only[go_sem]
  first | exact .inl trivial | exact⟨by simp,fun k=>by simp[qL]⟩
set_option maxRecDepth 10000
noncomputable section
theorem qB{α:Type}{p:α->Bool}{l:List α}{s:Nat}(h:s<l.length):((l.take (s+1)).filter p)=(l.take s).filter p++(if p l[s]=true then[l[s]]else[]):=by
 rw[List.take_add_one,List.getElem?_eq_getElem h,List.filter_append]
 simp only[Option.toList_some,List.filter_cons,List.filter_nil]
theorem aa2{α:Type}{p:α->Bool}{l:List α}{s:Nat}{z:α}(h:s<l.length)(hp:p l[s]=true):((l.take s).filter p).length<(l.filter p).length/\(l.filter p).getD ((l.take s).filter p).length z=l[s]:=by
 have e:l.filter p=(l.take s).filter p++(l[s]::(l.drop (s+1)).filter p):=by
  conv=>lhs;rw[<-List.take_append_drop s l,List.filter_append,List.drop_eq_getElem_cons h,List.filter_cons,if_pos hp]
 refine⟨?_,?_⟩
 ·rw[e,List.length_append,List.length_cons];omega
 ·rw[e];simp[List.getD]
def kG(j:Nat)(pa:Int)(lv:List Int)(Ls:List Name):List D:=[.ref (Ls.getD j []) 0,.v (.ptr [vInt pa]),.v (.ptr [.sl (lv.map vInt)])]
theorem I1{r:Lp}(hr:r.Ok)(cK:∀ j,r.st j=none)(hy:aL Tryz.prog yid r.y.toSpec){x:Vw}{nb nd:Name}{pa:Int}{lv:List Int}{j jc:Nat}(hv:∀ q∈x.rs,eh q=true)(lV:x.rs.length<=60)
 (hn:r.n=(dA x.rs pa lv).length) (EK:∀ s,r.vals s=[gW ((dA x.rs pa lv).getD s zeroR)]) (hj:j<r.m) (ha:aR (r.I 0) [j+1,1]=some (.box [.ref [jc+1,1] 0])) (hx:aR (r.I 0) [jc+1,1]=some (bt x nb nd)):
 aL Tryz.prog 193 (r.itC (kG j pa lv)).toSpec:=by
 have jP:kG j pa lv (LI r.m)=[.ref [j+1,1] 0,.v (.ptr [vInt pa]),.v (.ptr [.sl (lv.map vInt)])]:=by
  unfold kG
  have :(LI r.m).getD j []=[j+1,1]:=by simp[LI,hj]
  rw[this]
 obtain⟨c,hc,h⟩:=RP hy (x:=x) (nb:=nb) (nd:=nd) (pa:=pa) (lv:=lv) (ia:=j+1) (ic:=jc+1) (I:=fun s=>r.I ((x.rs.take s).filter (gx pa lv)).length) hv lV
  (fun s=>by rw[Lp.I_len hr,Lp.I_len hr]) (fun s=>Lp.I_clos hr _) (by simpa using ha) (by simpa using hx)
  (fun s hs hh=>by rw[qB hs,hh];simp)
  (fun s hs hh obj tm ho=>by
    obtain⟨h1,h2⟩:=aa2 (z:=zeroR) hs hh
    have :=Lp.y_setU hr cK (s:=((x.rs.take s).filter (gx pa lv)).length) (by rw[hn];exact h1) obj tm ho
    rw[EK]at this
    unfold dA at this
    rw[h2]at this
    rw[this,qB hs,hh]
    simp)
 refine Lp.itC_sound hr cK Tryz.func193 Tryz.ntmps193 (by rfl) (by kernel_rfl) (by decide) ⟨c,hc,by rw[jP];exact lb rfl,?_⟩
 rw[jP]
 have h0:r.I ((x.rs.take 0).filter (gx pa lv)).length=r.I 0:=by simp
 have h9:r.I ((x.rs.take x.rs.length).filter (gx pa lv)).length=r.I r.n:=by rw[List.take_length,hn];rfl
 simp only[h0,h9]at h
 exact h
theorem Jx{a b:Rec}(h:gW a=gW b):a=b:=by
 obtain⟨a1,a2,a3,al,a4,a5,a6⟩:=a
 obtain⟨b1,b2,b3,bl,b4,b5,b6⟩:=b
 simp only[gW,D.agg.injEq,List.cons.injEq,D.v.injEq,vInt,V.int.injEq,V.sl.injEq,true_and,and_true]at h
 obtain⟨rfl,rfl,rfl,hl,rfl,rfl,rfl⟩:=h
 have :=congrArg (List.map kD) hl
 have e:∀ l:List Int,(l.map fun n=>V.int .i64 n).map kD=l:=fun l=>o7 l
 rw[e,e]at this
 rw[this]
theorem H5{l:List Rec}(hn:l.Nodup):∀ s s',s<l.length->s'<l.length->([gW (l.getD s zeroR)]:List D)=[gW (l.getD s' zeroR)]->s=s':=by
 intro s s' h h' e
 have e1:=Jx (List.cons.inj e).1
 rw[cj h,cj h']at e1
 exact(List.getElem_inj hn).1 e1
def sp:Code->Option (Array Tmp×Code×Code)
 | .seq a b=>match sp a with | some x=>some x | none=>sp b
 | .block _ b=>sp b
 | .loop b=>sp b
 | .cond _ a b=>match sp a with | some x=>some x | none=>sp b
 | .rangeFunc _ ps a b=>some (ps,a,b)
 |_=>none
def mw(fn:Func):Array Tmp×Code×Code:=((fn.body.bind sp).getD (#[],.skip,.skip))
theorem lL{Ls:List Name}(h:Ls.length=5):∃ a b c d e,Ls=[a,b,c,d,e]:=by
 match Ls,h with
 |[a,b,c,d,e],_=>exact⟨a,b,c,d,e,rfl⟩
theorem qQ{Ls:List Name}(h:Ls.length=7):∃ a b c d e f g,Ls=[a,b,c,d,e,f,g]:=by
 match Ls,h with
 |[a,b,c,d,e,f,g],_=>exact⟨a,b,c,d,e,f,g,rfl⟩
def jh(l:Led)(k i j:Int)(n:Nat)(x:Vw)(r:Rec)(lv:List Int):Lp where
 m:=5
 env:=fun Ls=>(List.range 181).map (dH eAny [(0,⟨true,.v (gk l)⟩),(5,⟨true,.ref (Ls.getD 0 []) 0⟩),(17,⟨true,.v (.ptr [vInt i])⟩),(19,⟨true,.v (.ptr [vInt r.so,vInt r.bo,vInt r.pa,.sl (r.lv.map vInt),vInt r.da,vInt r.kn,vInt r.un])⟩),(141,⟨true,.v (.sl (x.ts.map vInt))⟩),(142,⟨true,.v (vInt n)⟩),(143,⟨true,.v (vInt j)⟩),(166,⟨true,.clo (.func 193) [] (kG 4 r.pa lv Ls)⟩)])
 fam:=fun Ls s=>[.box [.ref (Ls.getD 1 []) 0],bt x (Ls.getD 2 []) (Ls.getD 3 []),.map 2 (bS x.bk),.map 0 (bG (kg x.ds i r.da ((dA x.rs r.pa lv).take s))),.box [.ref (Ls.getD 1 []) 0]]
 ps:=(mw Tryz.f76).1.toList
 asg:=(mw Tryz.f76).2.1
 body:=(mw Tryz.f76).2.2
 n:=(dA x.rs r.pa lv).length
 vals:=fun s=>[gW ((dA x.rs r.pa lv).getD s zeroR)]
 st:=fun _=>none
 fu:=100
theorem KM(l:Led)(k i j:Int)(n:Nat)(x:Vw)(r:Rec)(lv:List Int)(hn:x.rs.Nodup):(jh l k i j n x r lv).Ok where
 len:=fun Ls s _=>rfl
 renE:=fun f Ls h=>by obtain⟨a,b,c,d,e,rfl⟩:=lL h;rfl
 renF:=fun f Ls s h=>by obtain⟨a,b,c,d,e,rfl⟩:=lL h;rfl
 reach:=fun Ls s obj acc q h bZ hd hF=>by
  obtain⟨a,b,c,d,e,rfl⟩:=lL h
  obtain⟨h1,h2,h3,h4,h5,_⟩:=hF
  have en:cw (((jh l k i j n x r lv).env [a,b,c,d,e]).map (·.d))=[a,e]:=rfl
  rw[en]
  show dk obj (q+91+1+1+1+1+1+1+1+1+1) _ acc=_
  simp only[List.mem_cons,List.not_mem_nil,or_false,forall_eq_or_imp,forall_eq]at hd
  obtain⟨d1,d2,d3,d4,d5⟩:=hd
  simp only[List.nodup_cons,List.mem_cons,List.not_mem_nil,or_false,not_or,not_false_eq_true,List.nodup_nil,and_true]at bZ
  obtain⟨⟨a1,a2,a3,a4⟩,⟨b1,b2,b3⟩,⟨c1,c2⟩,e1⟩:=bZ
  simp[dk,gv,h1,h2,h3,h4,h5,kQ,cw,ki,bt,d1,d2,d3,d4,d5,Ne.symm a1,Ne.symm a2,Ne.symm a3,Ne.symm a4,Ne.symm b1,Ne.symm b2,Ne.symm b3,Ne.symm c1,Ne.symm c2,Ne.symm e1]
 closE:=fun dom Ls h hd=>by
  obtain⟨a,b,c,d,e,rfl⟩:=lL h
  have h1:=hd a (by simp)
  have h2:=hd e (by simp)
  simp[jh,List.range,List.range.loop,dH,D.closL,D.clos,eAny,h1,h2,kG]
 closF:=fun dom Ls s h hd o ho=>by
  obtain⟨a,b,c,d,e,rfl⟩:=lL h
  have h1:=hd b (by simp)
  have h2:=hd c (by simp)
  have h3:=hd d (by simp)
  simp only[jh,List.mem_cons,List.not_mem_nil,or_false]at ho
  rcases ho with rfl | rfl | rfl | rfl | rfl<;>simp[O.clos,D.closL,D.clos,bt,h1,h2,h3]
 psz:=fun Ls h=>by rfl
 args:=fun s=>by rfl
 fuel:=(show (100:Nat)<=2000 by decide)
 vnam:=fun _=>rfl
 vcl:=fun _ _=>rfl
 vren:=fun _ _=>rfl
 inj:=H5 (hn.filter _)
def K23:List (Nat×Spec):=[(165,S165)]
theorem aes:KS K23:=tc Er<|tn
attribute [go_sem] K23
theorem Vt(d:Ds)(i da:Int){os:List Rec}{s:Nat}(h:s<os.length):kg d i da (os.take (s+1))=if os[s].da>da then kh (kg d i da (os.take s)) i ⟨0,os[s].da⟩else kg d i da (os.take s):=by
 unfold kg
 rw[List.take_add_one,List.getElem?_eq_getElem h,List.foldl_append]
 rfl
set_option maxHeartbeats 4000000 in
theorem V5(l:Led)(k i j:Int)(n:Nat)(x:Vw)(r:Rec)(lv:List Int)(hn:x.rs.Nodup):aL Tryz.prog yid (jh l k i j n x r lv).y.toSpec:=by
 refine Lp.y_sound (KM l k i j n x r lv hn) fun s hs _=>?_
 have hΓ:=aes
 have gL:s<(dA x.rs r.pa lv).length:=hs
 have yd:(jh l k i j n x r lv).fam (LR 5) s=[.box [.ref [1,1] 0],bt x [2,1] [3,1],.map 2 (bS x.bk),.map 0 (bG (kg x.ds i r.da ((dA x.rs r.pa lv).take s))),.box [.ref [1,1] 0]]:=rfl
 have qa:(jh l k i j n x r lv).fam (LR 5) (s+1)=[.box [.ref [1,1] 0],bt x [2,1] [3,1],.map 2 (bS x.bk),.map 0 (bG (kg x.ds i r.da ((dA x.rs r.pa lv).take (s+1)))),.box [.ref [1,1] 0]]:=rfl
 have cK:(jh l k i j n x r lv).st s=none:=rfl
 have hv:(jh l k i j n x r lv).vals s=[gW ((dA x.rs r.pa lv)[s])]:=by rw[<-cj (z:=zeroR) gL];rfl
 have hm:(jh l k i j n x r lv).m=5:=rfl
 rw[hm,yd,qa,cK,hv,Vt _ _ _ gL]
 generalize (dA x.rs r.pa lv)[s]=o
 generalize kg x.ds i r.da ((dA x.rs r.pa lv).take s)=d
 generalize fq:[O.box [.ref [1,1] 0],bt x [2,1] [3,1],.map 2 (bS x.bk),.map 0 (bG d),.box [.ref [1,1] 0]]=os
 have hO:∀ hs,ck [0] (bY [0] hs) (aR os)=True:=by
  subst fq
  refine fun hs=>eq_true (nP ?_ hs)
  intro o ho dom hd
  simp only[List.mem_cons,List.not_mem_nil,or_false]at ho
  rcases ho with rfl | rfl | rfl | rfl | rfl<;>simp[O.clos,D.closL,D.clos,bt,hd]
 have ae:∀ hs es,ck [0] (bY [0] hs) (fun nm=>if nm=[3,1]then some (.map 0 es)else aR os nm)=True:=fun hs es=>eq_true (uv (nm:=[3,1]) (o:=.map 0 es) rfl (by rw[hO];trivial))
 have h0:aR os [0,1]=some (.box [.ref [1,1] 0]):=by subst fq;rfl
 have h1:aR os [1,1]=some (bt x [2,1] [3,1]):=by subst fq;rfl
 have h2:aR os [2,1]=some (.map 2 (bS x.bk)):=by subst fq;rfl
 have h3:aR os [3,1]=some (.map 0 (bG d)):=by subst fq;rfl
 have h4:aR os [4,1]=some (.box [.ref [1,1] 0]):=by subst fq;rfl
 generalize hH:aR os=H at *
 clear fq hH
 simp only[bt]at h1 |-
 have lV:mw Tryz.f76=(_,_,_):=rfl
 refine tW (zd 181 [0] H [(5,⟨true,.ref [0,1] 0⟩),(17,⟨true,.v (.ptr [vInt i])⟩),(19,⟨true,.v (.ptr [vInt r.so,vInt r.bo,vInt r.pa,.sl (r.lv.map vInt),vInt r.da,vInt r.kn,vInt r.un])⟩),(167,⟨true,gW o⟩)] [] rfl rfl (fun _ _=>rfl) ?_ (by simp) ?_ ?_) ?_
 ·intro q hq
  simp only[List.mem_cons,List.not_mem_nil,or_false]at hq
  rcases hq with rfl | rfl | rfl | rfl<;>rfl
 ·simp[D.clos,D.closL,bY,own,gW]
 ·rw[hO];trivial
 simp only[jh,lV]
 refine iG ?_
 repeat refine sq ?_
 refine aP hΓ fun K' hK=>?_
 simp only[go_sem,hO,ae,h0,h1,h2,h3,h4]
 repeat (refine⟨an,?_⟩)
 refine hK _ ?_
 clear K' hK
 simp only[go_sem]
 (show CW _ _ _ _)
 refine iG ?_
 repeat refine sq ?_
 refine aN ?_
 repeat refine sq ?_
 refine rx hΓ [5,17,19,21,172] [[5,0],[17,0],[19,0],[21,0],[23,0],[24,0],[26,0],[49,0],[124,0]] (fun K' hK=>by simp only[go_sem,hO,ae,h0,h1,h2,h3,h4];(repeat (refine⟨an,?_⟩));exact hK _ (by simp only[go_sem,hO,ae,h0,h1,h2,h3,h4]) (by simp only[go_sem,hO,ae,h0,h1,h2,h3,h4]<;>rfl)) ?_
 repeat refine sq ?_
 refine ay (fun hb=>?_) fun hb=>?_
 ·repeat refine sq ?_
  refine aP hΓ fun K' hK=>?_
  simp only[go_sem,hO,ae,h0,h1,h2,h3,h4]
  repeat (refine⟨an,?_⟩)
  refine hK _ ?_
  clear K' hK
  simp only[go_sem]
  refine bQ ?_
  have dn:o.da>r.da:=by simpa using hb
  rw[if_pos dn]
  refine⟨rfl,?_⟩
  show cv _ [[0,1],[1,1],[2,1],[3,1],[4,1]] _
  simp only[cv,go_sem,h0,h1,h2,h3,h4,GP]
  simp[DO,kh]
 ·repeat refine sq ?_
  refine aE ?_
  refine bQ ?_
  simp only[go_sem]
  have dn:¬ o.da>r.da:=by simpa using hb
  rw[if_neg dn]
  refine⟨rfl,?_⟩
  show cv _ [[0,1],[1,1],[2,1],[3,1],[4,1]] _
  simp only[cv,go_sem,h0,h1,h2,h3,h4,GP]
end
noncomputable section
def gn:Option Rec->List D
 |some r=>t' r
 |none=>[.v (vInt 0),.v (vInt 0),.v (vInt 0),.nilsl,.v (vInt 0),.v (vInt 0),.v (vInt 0)]
def nh(rs:List Rec)(pa le day:Int)(s:Nat):Option Rec:=((dA rs pa [le]).take s).foldl (jw day) none
theorem acA{rs:List Rec}{pa le day:Int}{s:Nat}(h:s<(dA rs pa [le]).length):nh rs pa le day (s+1)=jw day (nh rs pa le day s) (dA rs pa [le])[s]:=by
 unfold nh
 rw[List.take_add_one,List.getElem?_eq_getElem h,List.foldl_append]
 rfl
theorem acB(rs:List Rec)(pa le day:Int):nh rs pa le day (dA rs pa [le]).length=eR rs pa le day:=by
 unfold nh eR
 rw[List.take_length]
def i6(x:Vw)(pa le day:Int):Lp where
 m:=7
 env:=fun Ls=>(List.range 37).map (dH eAny [(5,⟨true,.v (.ptr [vInt day])⟩),(6,⟨true,.ref (Ls.getD 0 []) 0⟩),(8,⟨true,.ref (Ls.getD 1 []) 0⟩),(9,⟨true,.ref (Ls.getD 2 []) 0⟩),(17,⟨true,.clo (.func 193) [] (kG 3 pa [le] Ls)⟩)])
 fam:=fun Ls s=>[.box (gn none),.box (gn (nh x.rs pa le day s)),.box [.v (.bool (nh x.rs pa le day s).isSome)],.box [.ref (Ls.getD 4 []) 0],bt x (Ls.getD 5 []) (Ls.getD 6 []),.map 2 (bS x.bk),.map 0 (bG x.ds)]
 ps:=(mw Tryz.f119).1.toList
 asg:=(mw Tryz.f119).2.1
 body:=(mw Tryz.f119).2.2
 n:=(dA x.rs pa [le]).length
 vals:=fun s=>[gW ((dA x.rs pa [le]).getD s zeroR)]
 st:=fun _=>none
 fu:=100
theorem acd(f:Name->Name)(o:Option Rec):D.renL f (gn o)=gn o:=by cases o<;>rfl
theorem PY(o:Option Rec):cw (gn o)=[]:=by cases o<;>rfl
theorem BL(p:Name->Bool)(o:Option Rec):D.closL p (gn o)=true:=by cases o<;>rfl
theorem Hq(x:Vw)(pa le day:Int)(hn:x.rs.Nodup):(i6 x pa le day).Ok where
 len:=fun Ls s _=>rfl
 renE:=fun f Ls h=>by obtain⟨a,b,c,d,e,f,g,rfl⟩:=qQ h;rfl
 renF:=fun f Ls s h=>by
  obtain⟨a,b,c,d,e,f,g,rfl⟩:=qQ h
  simp only[i6,List.map_cons,List.map_nil,O.ren,acd,D.renL,D.ren,bt,List.getD_cons_succ,List.getD_cons_zero]
 reach:=fun Ls s obj acc q h bZ hd hF=>by
  obtain⟨a,b,c,d,e,f,g,rfl⟩:=qQ h
  obtain⟨h1,h2,h3,h4,h5,h6,h7,_⟩:=hF
  have en:cw (((i6 x pa le day).env [a,b,c,d,e,f,g]).map (·.d))=[a,b,c,d]:=rfl
  rw[en]
  show dk obj (q+91+1+1+1+1+1+1+1+1+1) _ acc=_
  simp only[List.mem_cons,List.not_mem_nil,or_false,forall_eq_or_imp,forall_eq]at hd
  obtain⟨d1,d2,d3,d4,d5,d6,d7⟩:=hd
  simp only[List.nodup_cons,List.mem_cons,List.not_mem_nil,or_false,not_or,not_false_eq_true,List.nodup_nil,and_true]at bZ
  obtain⟨⟨a1,a2,a3,a4,a5,a6⟩,⟨b1,b2,b3,b4,b5⟩,⟨c1,c2,c3,c4⟩,⟨e1,e2,e3⟩,⟨f1,f2⟩,g1⟩:=bZ
  simp[dk,gv,h1,h2,h3,h4,h5,h6,h7,kQ,cw,ki,bt,PY,d1,d2,d3,d4,d5,d6,d7,Ne.symm a1,Ne.symm a2,Ne.symm a3,Ne.symm a4,Ne.symm a5,Ne.symm a6,Ne.symm b1,Ne.symm b2,Ne.symm b3,Ne.symm b4,Ne.symm b5,Ne.symm c1,Ne.symm c2,Ne.symm c3,Ne.symm c4,Ne.symm e1,Ne.symm e2,Ne.symm e3,Ne.symm f1,Ne.symm f2,Ne.symm g1]
 closE:=fun dom Ls h hd=>by
  obtain⟨a,b,c,d,e,f,g,rfl⟩:=qQ h
  have h1:=hd a (by simp)
  have h2:=hd b (by simp)
  have h3:=hd c (by simp)
  have h4:=hd d (by simp)
  simp[i6,List.range,List.range.loop,dH,D.closL,D.clos,eAny,h1,h2,h3,h4,kG]
 closF:=fun dom Ls s h hd o ho=>by
  obtain⟨a,b,c,d,e,f,g,rfl⟩:=qQ h
  have h1:=hd e (by simp)
  have h2:=hd f (by simp)
  have h3:=hd g (by simp)
  simp only[i6,List.mem_cons,List.not_mem_nil,or_false]at ho
  rcases ho with rfl | rfl | rfl | rfl | rfl | rfl | rfl<;>simp[O.clos,D.closL,D.clos,bt,BL,h1,h2,h3]
 psz:=fun Ls h=>by rfl
 args:=fun s=>by rfl
 fuel:=(show (100:Nat)<=2000 by decide)
 vnam:=fun _=>rfl
 vcl:=fun _ _=>rfl
 vren:=fun _ _=>rfl
 inj:=H5 (hn.filter _)
theorem acE(x:Vw)(pa le day:Int):Cq (i6 x pa le day) (kG 3 pa [le]) where
 ren:=fun f Ls h=>by obtain⟨a,b,c,d,e,f,g,rfl⟩:=qQ h;rfl
 clo:=fun dom Ls h hd=>by
  obtain⟨a,b,c,d,e,f,g,rfl⟩:=qQ h
  have h4:=hd d (by simp)
  simp[D.closL,D.clos,h4,kG]
 reach:=fun Ls s obj R q h bZ hF h0=>by
  obtain⟨a,b,c,d,e,f,g,rfl⟩:=qQ h
  obtain⟨h1,h2,h3,h4,h5,h6,h7,_⟩:=hF
  have en:cw (((i6 x pa le day).env [a,b,c,d,e,f,g]).map (·.d))=[a,b,c,d]:=rfl
  have ec:cw (kG 3 pa [le] [a,b,c,d,e,f,g])=[d]:=rfl
  rw[ec]
  show dk obj (q+90+1+1+1+1+1+1+1+1+1+1+1) _ []=_
  simp only[List.nodup_cons,List.mem_cons,List.not_mem_nil,or_false,not_or,not_false_eq_true,List.nodup_nil,and_true]at bZ
  obtain⟨⟨r1,r2,r3,r4,r5,r6,r7⟩,⟨a1,a2,a3,a4,a5,a6⟩,⟨b1,b2,b3,b4,b5⟩,⟨c1,c2,c3,c4⟩,⟨e1,e2,e3⟩,⟨f1,f2⟩,g1⟩:=bZ
  simp[dk,gv,h0,h1,h2,h3,h4,h5,h6,h7,Lp.rc,kQ,en,cw,ki,bt,PY,Ne.symm r1,Ne.symm r2,Ne.symm r3,Ne.symm r4,Ne.symm r5,Ne.symm r6,Ne.symm r7,Ne.symm a1,Ne.symm a2,Ne.symm a3,Ne.symm a4,Ne.symm a5,Ne.symm a6,Ne.symm b1,Ne.symm b2,Ne.symm b3,Ne.symm b4,Ne.symm b5,Ne.symm c1,Ne.symm c2,Ne.symm c3,Ne.symm c4,Ne.symm e1,Ne.symm e2,Ne.symm e3,Ne.symm f1,Ne.symm f2,Ne.symm g1]
theorem acC(day:Int)(o:Option Rec)(r:Rec):jw day o r=if decide (r.da<=day)&&(!o.isSome||decide (r.da>=(o.getD zeroR).da))then some r else o:=by
 unfold jw
 cases o<;>rfl
theorem acD(x:Vw)(pa le day:Int)(hn:x.rs.Nodup):aL Tryz.prog yid (i6 x pa le day).y.toSpec:=by
 refine Lp.y_sound (Hq x pa le day hn) fun s hs _=>?_
 have hΓ:=@fx Tryz.prog
 have gL:s<(dA x.rs pa [le]).length:=hs
 have yd:(i6 x pa le day).fam (LR 7) s=[.box (gn none),.box (gn (nh x.rs pa le day s)),.box [.v (.bool (nh x.rs pa le day s).isSome)],.box [.ref [4,1] 0],bt x [5,1] [6,1],.map 2 (bS x.bk),.map 0 (bG x.ds)]:=rfl
 have qa:(i6 x pa le day).fam (LR 7) (s+1)=[.box (gn none),.box (gn (nh x.rs pa le day (s+1))),.box [.v (.bool (nh x.rs pa le day (s+1)).isSome)],.box [.ref [4,1] 0],bt x [5,1] [6,1],.map 2 (bS x.bk),.map 0 (bG x.ds)]:=rfl
 have cK:(i6 x pa le day).st s=none:=rfl
 have hv:(i6 x pa le day).vals s=[gW ((dA x.rs pa [le])[s])]:=by rw[<-cj (z:=zeroR) gL];rfl
 have hm:(i6 x pa le day).m=7:=rfl
 rw[hm,yd,qa,cK,hv,acA gL,acC]
 generalize (dA x.rs pa [le])[s]=r
 generalize nh x.rs pa le day s=o
 obtain⟨c3,e0,e1⟩:∃ c3,(c3=.nilsl\/∃ l,c3=.v (.sl l))/\gn o=[.v (vInt (o.getD zeroR).so),.v (vInt (o.getD zeroR).bo),.v (vInt (o.getD zeroR).pa),c3,.v (vInt (o.getD zeroR).da),.v (vInt (o.getD zeroR).kn),.v (vInt (o.getD zeroR).un)]:=by
  cases o with
  |none=>exact⟨_,.inl rfl,rfl⟩
  |some q=>exact⟨_,.inr ⟨_,rfl⟩,rfl⟩
 have e2:∀ p,D.clos p c3=true:=fun p=>by rcases e0 with rfl | ⟨l,rfl⟩<;>rfl
 generalize fq:[O.box (gn none),.box (gn o),.box [.v (.bool o.isSome)],.box [.ref [4,1] 0],bt x [5,1] [6,1],.map 2 (bS x.bk),.map 0 (bG x.ds)]=os
 have hO:∀ hs,ck [0] (bY [0] hs) (aR os)=True:=by
  subst fq
  refine fun hs=>eq_true (nP ?_ hs)
  intro o ho dom hd
  simp only[List.mem_cons,List.not_mem_nil,or_false]at ho
  rcases ho with rfl | rfl | rfl | rfl | rfl | rfl | rfl<;>simp[O.clos,D.closL,D.clos,bt,hd,BL]
 have ae:∀ hs cs b,(∀ p,D.closL p cs=true)->ck [0] (bY [0] hs) (fun nm=>if nm=[2,1]then some (.box [.v (.bool b)])else if nm=[1,1]then some (.box cs)else aR os nm)=True:=fun hs cs b jP=>
  eq_true (uv (nm:=[2,1]) (o:=.box [.v (.bool b)]) rfl (uv (nm:=[1,1]) (o:=.box cs) (by simp[O.clos,jP]) (by rw[hO];trivial)))
 have h0:aR os [0,1]=some (.box (gn none)):=by subst fq;rfl
 have h1:aR os [1,1]=some (.box (gn o)):=by subst fq;rfl
 have h2:aR os [2,1]=some (.box [.v (.bool o.isSome)]):=by subst fq;rfl
 have h3:aR os [3,1]=some (.box [.ref [4,1] 0]):=by subst fq;rfl
 have h4:aR os [4,1]=some (bt x [5,1] [6,1]):=by subst fq;rfl
 have h5:aR os [5,1]=some (.map 2 (bS x.bk)):=by subst fq;rfl
 have h6:aR os [6,1]=some (.map 0 (bG x.ds)):=by subst fq;rfl
 generalize hH:aR os=H at *
 clear fq hH
 rw[e1]at h1
 have lV:mw Tryz.f119=(_,_,_):=rfl
 refine tW (zd 37 [0] H [(5,⟨true,.v (.ptr [vInt day])⟩),(8,⟨true,.ref [1,1] 0⟩),(9,⟨true,.ref [2,1] 0⟩),(18,⟨true,gW r⟩)] [] rfl rfl (fun _ _=>rfl) ?_ (by simp) ?_ ?_) ?_
 ·intro q hq
  simp only[List.mem_cons,List.not_mem_nil,or_false]at hq
  rcases hq with rfl | rfl | rfl | rfl<;>rfl
 ·simp[D.clos,D.closL,bY,own,gW]
 ·rw[hO];trivial
 simp only[i6,lV]
 refine iG ?_
 repeat refine sq ?_
 refine aP hΓ fun K' hK=>?_
 simp only[go_sem,hO,h0,h1,h2,h3,h4,e2]
 repeat (refine⟨an,?_⟩)
 refine hK _ ?_
 clear K' hK
 simp only[go_sem]
 (show CW _ _ _ _)
 refine iG ?_
 repeat refine sq ?_
 refine aN ?_
 repeat refine sq ?_
 refine rx hΓ [5,8,9,10,33] [[5,0],[8,0],[9,0],[10,0]] (fun K' hK=>by simp only[go_sem,hO,h0,h1,h2,h3,h4,e2];(repeat (refine⟨an,?_⟩));exact hK _ (by simp only[go_sem,hO,h0,h1,h2,h3,h4,e2]) (by simp only[go_sem,hO,h0,h1,h2,h3,h4,e2]<;>rfl)) ?_
 repeat refine sq ?_
 refine ay (fun hb=>?_) fun hb=>?_
 ·repeat refine sq ?_
  refine aP hΓ fun K' hK=>?_
  simp only[go_sem,hO,h0,h1,h2,h3,h4,e2]
  repeat (refine⟨an,?_⟩)
  refine hK _ ?_
  clear K' hK
  simp only[go_sem]
  refine bQ ?_
  rw[if_pos (by rw[<-Bool.and_eq_true];exact hb)]
  refine⟨rfl,?_⟩
  show cv _ [[0,1],[1,1],[2,1],[3,1],[4,1],[5,1],[6,1]] _
  simp only[cv,go_sem,h0,h1,h2,h3,h4,h5,h6]
  simp[gn,t']
 ·repeat refine sq ?_
  refine aE ?_
  refine bQ ?_
  simp only[go_sem]
  rw[if_neg (by rw[<-Bool.and_eq_true,hb];decide)]
  refine⟨rfl,?_⟩
  show cv _ [[0,1],[1,1],[2,1],[3,1],[4,1],[5,1],[6,1]] _
  simp only[cv,go_sem,h0,h1,h2,h3,h4,h5,h6,e1]
  first | done | exact⟨trivial,trivial⟩
def Kd(p:Name)(H:Name->Option O):List Name->List O->Prop
 |x::xs,o::os=>(own p x=true\/H x=some o)/\Kd p H xs os
 |_,_=>True
theorem IT{p:Name}{H:Name->Option O}{nm:Name}(hn:own p nm=false):∀ {Ls:List Name} {F:List O} {obj:Name->Option O},Kd p H Ls F->obj nm=H nm->cC Ls F obj nm=H nm
 |[],_,_,_,h=>by simpa[cC]using h
 |x::xs,[],_,_,h=>by simpa[cC]using h
 |x::xs,o::os,obj,hk,h=>by
  simp only[cC]
  refine IT hn hk.2 ?_
  by_cases e:nm=x
  ·subst e
   rw[aS]
   rcases hk.1 with h1 | h1
   ·rw[hn]at h1;cases h1
   ·exact h1.symm
  ·rw[aY _ _ _ e];exact h
def K24:List (Nat×Spec):=[(164,S164)]
theorem aer:KS K24:=tc Es<|tn
attribute [go_sem] K24
def QU:VSpec:=v2 iQ iI (fun x _ _=>nA x/\x.rs.Nodup) (fun x f day=>.tup [nJ (eR x.rs f.pa f.le day),.v (.bool (eR x.rs f.pa f.le day).isSome)]) none
def S119:Spec:=QU.toSpec
attribute [go_sem] QU S119
set_option maxHeartbeats 8000000 in
theorem Eu:aL Tryz.prog 119 S119:=by
 refine zf (rs:=[.cell 6 36,.tmp 7]) Tryz.func119 Tryz.ntmps119 (by rfl) (by kernel_rfl) (by decide) (fun _ _ _=>by first | rfl | exact mz _ _ | simp[D.clos,D.closL,mz]) ⟨_,rfl,lb rfl,fun x f day hp H h0 h1 h2 hO ae=>?_⟩
 have hP:=eK
 simp only[iQ,iI,gA,bt,dj,List.map_cons,List.map_nil,Nat.zero_add,Option.map_some,Option.map_none]at h0 |-
 have hΓ:=aer
 obtain⟨hv,bZ⟩:=hp
 obtain⟨pa,le⟩:=f
 repeat refine sq ?_
 refine rx hΓ [0,4,5,6] [[4,0],[5,0],[6,0]] (fun K' hK=>by simp only[go_sem,hO,ae,h0,h1,h2];(repeat (refine⟨an,?_⟩));exact hK _ (by simp only[go_sem,hO,ae,h0,h1,h2]) (by simp only[go_sem,hO,ae,h0,h1,h2]<;>rfl)) ?_
 refine bD (dd 4 (.ref [4,0] 0) (by simp only[go_sem]) (by simp only[go_sem]) [0,4,5,6] [[4,0],[5,0],[6,0]] ?_ rfl) ?_
 ·simp only[go_sem,hO,ae,h0,h1,h2]
 simp only[go_sem,hO,ae,h0,h1,h2]
 repeat refine sq ?_
 refine rx hΓ [0,4,5,6,8] [[4,0],[5,0],[6,0],[8,0]] (fun K' hK=>by simp only[go_sem,hO,ae,h0,h1,h2];(repeat (refine⟨an,?_⟩));exact hK _ (by simp only[go_sem,hO,ae,h0,h1,h2]) (by simp only[go_sem,hO,ae,h0,h1,h2]<;>rfl)) ?_
 repeat refine sq ?_
 refine rx hΓ [0,4,5,6,8,9] [[4,0],[5,0],[6,0],[8,0],[9,0]] (fun K' hK=>by simp only[go_sem,hO,ae,h0,h1,h2];(repeat (refine⟨an,?_⟩));exact hK _ (by simp only[go_sem,hO,ae,h0,h1,h2]) (by simp only[go_sem,hO,ae,h0,h1,h2]<;>rfl)) ?_
 repeat refine sq ?_
 refine rx hΓ [5,6,8,9,17] [[5,0],[6,0],[8,0],[9,0],[3,0,17,0]] (fun K' hK=>by simp only[go_sem,hO,ae,h0,h1,h2];(repeat (refine⟨an,?_⟩));exact hK _ (by simp only[go_sem,hO,ae,h0,h1,h2]) (by simp only[go_sem,hO,ae,h0,h1,h2]<;>rfl)) ?_
 refine bD (dd 5 (.ref [5,0] 0) (by simp only[go_sem]) (by simp only[go_sem]) [5,6,8,9,17] [[5,0],[6,0],[8,0],[9,0],[3,0,17,0]] ?_ rfl) ?_
 ·simp only[go_sem,hO,ae,h0,h1,h2]
 simp only[go_sem,hO,ae,h0,h1,h2]
 repeat refine sq ?_
 refine aN ?_
 repeat refine sq ?_
 have gy:aL Tryz.prog 193 ((i6 x pa le day).itC (kG 3 pa [le])).toSpec:=I1 (Hq x pa le day bZ) (fun _=>rfl) (acD x pa le day bZ) hv.rs hv.rn rfl (fun _=>rfl) (j:=3) (jc:=4) (show 3<7 by decide) rfl rfl
 refine PS (Hq x pa le day bZ) (acE x pa le day) (f:=193) 30 31 (Ls:=[[6,0],[8,0],[9,0],[3,0,17,0],[0,1],[1,1],[2,1]]) rfl rfl (by decide) gy rfl rfl rfl rfl rfl rfl (by decide) (show ([30,0]:Name)∉[[6,0],[8,0],[9,0],[3,0,17,0],[0,1],[1,1],[2,1]]by decide) ⟨rfl,rfl,rfl,rfl,h0,h1,h2,trivial⟩ fun o=>?_
 obtain⟨g1,g2⟩:=Lp.go_e (r:=i6 x pa le day) (fun _=>rfl)
 have g3:(i6 x pa le day).fam [[6,0],[8,0],[9,0],[3,0,17,0],[0,1],[1,1],[2,1]] (i6 x pa le day).e=[.box (gn none),.box (gn (eR x.rs pa le day)),.box [.v (.bool (eR x.rs pa le day).isSome)],.box [.ref [0,1] 0],bt x [1,1] [2,1],.map 2 (bS x.bk),.map 0 (bG x.ds)]:=by
  rw[g1,<-acB];rfl
 rw[g2,g3]
 simp only[sA,iN]
 refine bQ ?_
 show CL Tryz.prog (_::_) _ _
 obtain⟨cs,jP,cl⟩:∃ cs,cs=gn (eR x.rs pa le day)/\∀ p,D.closL p cs=true:=⟨_,rfl,fun p=>BL p _⟩
 refine bD (dW.toM (zd 37 [0] H [(6,⟨true,.ref [6,0] 0⟩),(8,⟨true,.ref [8,0] 0⟩),(9,⟨true,.ref [9,0] 0⟩)] [([6,0],.box (gn none)),([8,0],.box (gn (eR x.rs pa le day))),([9,0],.box [.v (.bool (eR x.rs pa le day).isSome)])] rfl rfl (fun nm hn=>?_) ?_ ?_ ?_ (by rw[hO];trivial))) ?_
 ·have e1:nm≠[30,0]:=by rintro rfl;cases hn
  show upd _ [30,0] _ nm=_
  rw[aY _ _ _ e1]
  exact IT hn ⟨.inl rfl,.inl rfl,.inl rfl,.inl rfl,.inr h0,.inr h1,.inr h2,trivial⟩ (by simp[bg,hn])
 ·intro q hq
  simp only[List.mem_cons,List.not_mem_nil,or_false]at hq
  rcases hq with rfl | rfl | rfl<;>rfl
 ·intro q hq
  simp only[List.mem_cons,List.not_mem_nil,or_false]at hq
  rcases hq with rfl | rfl | rfl<;>rfl
 ·simp[O.clos,D.closL,D.clos,BL,bY]
 clear jP cl
 generalize eR x.rs pa le day=o
 rcases o with _ | r
 ·simp only[gn,t',Option.isSome]
  repeat refine sq ?_
  refine dx hΓ hP [[],[],[0],[0,1,2]] [6,7] [[6,0]] (by kernel_rfl) (fun K' hK=>by simp only[go_sem,hO,h0,h1,h2];(repeat (refine⟨an,?_⟩));(first | refine⟨by rfl,?_⟩ | skip);exact hK _ (by simp only[go_sem,hO,h0,h1,h2]) (by simp only[go_sem,hO,h0,h1,h2]<;>rfl)) ?_
  refine aA ?_
  simp only[go_sem,hO,h0,h1,h2]
  rfl
 ·simp only[gn,t',Option.isSome]
  repeat refine sq ?_
  refine dx hΓ hP [[],[],[0],[0,1,2]] [6,7] [[6,0]] (by kernel_rfl) (fun K' hK=>by simp only[go_sem,hO,h0,h1,h2];(repeat (refine⟨an,?_⟩));(first | refine⟨by rfl,?_⟩ | skip);exact hK _ (by simp only[go_sem,hO,h0,h1,h2]) (by simp only[go_sem,hO,h0,h1,h2]<;>rfl)) ?_
  refine aA ?_
  simp only[go_sem,hO,h0,h1,h2]
  rfl
end
set_option maxHeartbeats 8000000
noncomputable section
theorem ab5{P:Program}{Γ:FuncId->Option Spec}(hΓ:∀ f s,Γ f=some s->aL P f s){id:Nat}{l:List Oper}{c:Code}{r:List Code}{σ:S}{K:Exit->S->Prop}(ks:List Nat)(ns:List Name)
 (h:∀ K':S->Prop,(∀ σ',iZ ks ns σ'->CL P (c::r) (ji ks ns σ') K->K' σ')->nB P Γ l.toArray l σ K'):CL P (.region id l.toArray false::c::r) σ K:=
 PE hΓ (h _ fun σ' hc hy=>GZ ks ns hc hy)
theorem Jm{P:Program}{Γ:FuncId->Option Spec}{ops:Array Oper}{o:Oper}{r:List Oper}{σ:S}{K:S->Prop}(h1:lJ P Γ ops σ o)(h2:nB P Γ ops r (bx P Γ ops σ o) K):nB P Γ ops (o::r) σ K:=.step h1 h2
def gg{α:Type}(p:α->Bool)(l:List α):List α:=l.filter fun d=>!p d
def l7{α:Type}(enc:α->V)(z:V)(p:α->Bool)(l:List α):List V:=(gg p l).map enc++List.replicate (l.length-(gg p l).length) z
def Ru:Ret:=⟨0,0,0,[],0,0,0,0⟩
def oG:Sig:=⟨0,0,0,0,0,0,0⟩
def K25:List (Nat×Spec):=[(162,S162)]
theorem aeq:KS K25:=tc MX<|tn
attribute [go_sem] K25
@[go_sem] def P186:PSpec:=p2 iS lR (fun _ _=>True) (fun s k=>.bool (!bI s.kn s.un k)) true
@[go_sem] def ac':Spec:=P186.toSpec
theorem Tl:aU Tryz.prog 186 P186:=by
 refine eZ (rs:=[.tmp 3]) Tryz.func186 Tryz.ntmps186 fun s k hp hw=>?_
 simp only[lR,iS,encS]at hw |-
 have hΓ:=aeq
 repeat refine sq ?_
 refine rx hΓ [1,2] [[2,0]] (fun K' hK=>by simp only[go_sem];exact ak) ?_
 repeat refine sq ?_
 refine rx hΓ [3] [] (fun K' hK=>by simp only[go_sem];exact ak) ?_
 refine aA ?_
 simp only[go_sem]
 all_goals exact dV
def JW(g:Nat×Int)(x:Rec):Bool:=x.so==g.2
def JV(g:Nat×Int)(x:Ret):Bool:=x.so==g.2
def fa(g:Nat×Int)(x:Sig):Bool:=if g.1=186 then !bI x.kn x.un g.2 else x.so==g.2
def Vi(g:Nat×Int):Prop:=g.1=88
def Vh(g:Nat×Int):Prop:=g.1=90
def pD(g:Nat×Int):Prop:=g.1=92\/g.1=186
def KDR:List (Nat×Spec):=[]
attribute [go_sem] KDR
def KDT:List (Nat×Spec):=[]
attribute [go_sem] KDT
def KDS:List (Nat×Spec):=[(92,S92),(186,ac')]
theorem adE:KS KDS:=tc SY.sound<|tc Tl.sound<|tn
attribute [go_sem] KDS
abbrev TYR:=Rec
abbrev TYT:=Ret
abbrev yU:=Sig
def abb(obj:Name->Option O)(_:Name):List D->R
 |[.msl nm k,.clo (.func g) [] [.v (.ptr [.int .i64 q])]]=>match obj nm with
  |some (.arr 7 L)=>⟨k=L.length/\L.length<1000000/\(L.map lq).map encR=L/\Vi (g,q),.v (.sl ((gg (JW (g,q)) (L.map lq)).map encR)),upd obj nm (some (.farr 7 (l7 encR (encR zeroR) (JW (g,q)) (L.map lq))))⟩
  |_=>.bad obj
 |_=>.bad obj
attribute [go_sem] abb
def aba(obj:Name->Option O)(_:Name):List D->R
 |[.msl nm k,.clo (.func g) [] [.v (.ptr [.int .i64 q])]]=>match obj nm with
  |some (.arr 8 L)=>⟨k=L.length/\L.length<1000000/\(L.map m6).map c9=L/\Vh (g,q),.v (.sl ((gg (JV (g,q)) (L.map m6)).map c9)),upd obj nm (some (.farr 8 (l7 c9 (c9 Ru) (JV (g,q)) (L.map m6))))⟩
  |_=>.bad obj
 |_=>.bad obj
attribute [go_sem] aba
def HN:FuncId->Option Spec:=tbl KDS
theorem Rj:∀ f s,HN f=some s->aL Tryz.prog f s:=adE
theorem Kg{g:Nat×Int}(h:pD g):∃ s,HN g.1=some s/\(¬ g.1=1000000000)/\(∀ obj t (x:yU),s.app obj t [.v (encS x),.v (.ptr [vInt g.2])]=⟨True,.v (.bool (fa g x)),obj⟩)/\
 ∀ obj t (x:yU),s.app obj t [.agg ((encS x).cells.map .v),.v (.ptr [vInt g.2])]=⟨True,.v (.bool (fa g x)),obj⟩:=by
 obtain⟨g,k⟩:=g
 rcases h with rfl | rfl
 all_goals exact⟨_,rfl,(by simp),fun obj t x=>by simp only[go_sem,fa];try rfl,fun obj t x=>by simp only[go_sem,fa,encS];try rfl⟩
theorem Hu:(#[29]:Array Nat).getD 0 0=29:=rfl
theorem Rv:((bh Tryz.prog 81).bind fun z=>eH (jI z))=some (encS oG):=by rw[RX];rfl
theorem G4{obj:Name->Option O}{nm:Name}{k i:Nat}{L:List V}(h:obj nm=some (.arr 7 L))(hk:k=L.length)(hi:i<L.length):
 mj Tryz.prog obj 29 29 (.msl nm k) (.v (vInt i))=⟨True,.any,upd obj nm (some (.arr 7 (L.take i++List.replicate (L.length-i) (encS oG))))⟩:=by
 unfold mj
 simp only[It,h,Rv,ai]
 congr 1
 simp only[eq_iff_iff,iff_true]
 exact⟨hk,by omega,hi,trivial,rfl,rfl,trivial,by decide⟩
theorem Sq:aU Tryz.prog 181 (p2 (fP iS) oT (fun _ g=>pD g) (fun l g=>vInt (dJ (fa g) l)) true):=by
 refine eZ (rs:=[.tmp 4]) Tryz.func181 Tryz.ntmps181 fun l g hp hw=>?_
 simp only[oT,iS,fP]at hw |-
 have hΓ:=Rj
 have hl:l.length<=maxLen:=by have:=hw.1.1;simpa using this
 obtain⟨s_,hs,hy,ha,_⟩:=Kg hp
 simp only[encS]at ha
 repeat refine sq ?_
 refine rx hΓ [0,1] [] (fun K' hK=>by simp only[go_sem];exact ak) ?_
 repeat refine sq ?_
 refine rx hΓ [0,1,7,8] [] (fun K' hK=>by simp only[go_sem];exact ak) ?_
 repeat refine sq ?_
 refine aN ?_
 repeat refine sq ?_
 refine cB (fun s:Nat=>[(8,⟨true,.v (vInt s)⟩)]) (fun s=>[]) (fun s=>s<=l.length/\∀ k (h:k<l.length),k<s->fa g l[k]=false) (fun s=>l.length-s) 0 ?_ ?_ ?_ ?_
 ·exact⟨Nat.zero_le _,by simp⟩
 ·rfl
 ·rfl
 rintro i ⟨hi,hR⟩
 simp only[go_sem]
 repeat refine sq ?_
 refine rx hΓ [0,1,7,8,9] [] (fun K' hK=>by simp only[go_sem];exact ak) ?_
 repeat refine sq ?_
 refine ay (fun hb=>?_) fun hb=>?_
 ·have ab:i<l.length:=by simpa using hb
  have au:(i:Int)<l.length:=by omega
  clear hb
  repeat refine sq ?_
  refine aE ?_
  repeat refine sq ?_
  refine aN ?_
  repeat refine sq ?_
  refine rx hΓ [0,1,5,7,8] [] (fun K' hK=>by simp only[go_sem,ah ab,ai,aj,au];exact ak) ?_
  repeat refine sq ?_
  refine rx hΓ [0,1,5,7,8,16] [] (fun K' hK=>by simp only[go_sem,ah ab,ai,aj,au,hs,hy,ha];exact ak) ?_
  repeat refine sq ?_
  refine ay (fun hb=>?_) fun hb=>?_
  ·repeat refine sq ?_
   refine rx hΓ [4] [] (fun K' hK=>by simp only[go_sem,ah ab,ai,aj,au];exact ak) ?_
   refine aA ?_
   simp only[go_sem]
   rw[sN (p:=fa g) ab (by simpa using hb) hR]
  ·repeat refine sq ?_
   refine aE ?_
   refine bQ ?_
   simp only[go_sem]
   refine kp [0,1,7,8] [] ?_
   repeat refine sq ?_
   refine aP hΓ fun K' hK=>?_
   simp only[go_sem,ah ab,ai,aj,au]
   repeat (refine⟨an,?_⟩)
   refine hK _ ?_
   clear K' hK
   simp only[go_sem]
   refine⟨i+1,⟨ab,?_⟩,by(show l.length-(i+1)<l.length-i;omega),?_⟩
   ·intro k hk dO
    rcases Nat.lt_succ_iff_lt_or_eq.1 dO with h5 | rfl
    ·exact hR k hk h5
    ·simpa using hb
   refine bd [0,1,7,8] [] ?_ ?_<;>simp only[go_sem,a7 ab hl,bb]
 ·have bB:i=l.length:=by
   have :¬ (i:Int)<l.length:=by simpa using hb
   omega
  clear hb
  subst bB
  repeat refine sq ?_
  refine bT ?_
  simp only[go_sem]
  refine kp [] [] ?_
  repeat refine sq ?_
  refine rx hΓ [4] [] (fun K' hK=>by simp only[go_sem];exact ak) ?_
  refine aA ?_
  simp only[go_sem]
  rw[xv (p:=fa g) fun k hk=>hR k hk hk]
set_option maxRecDepth 10000 in
theorem RO{g:Nat×Int}(aa:pD g){H:Name->Option O}{l:List yU}(hl:l.length<1000000)(rH:H [0,1]=some (.arr 7 (l.map encS)))(dU:∀ hs,ck [0] (bY [0] hs) H=True)(ae:∀ hs sz L,ck [0] (bY [0] hs) (upd H [0,1] (some (.arr sz L)))=True)(br:∀ hs sz L,ck [0] (bY [0] hs) (upd H [0,1] (some (.farr sz L)))=True):
 ∃ c,Tryz.f91.body=some c/\CL Tryz.prog [c] (bg 42 [0] H [(0,⟨true,.msl [0,1] l.length⟩),(1,⟨true,.clo (.func g.1) [] [.v (.ptr [vInt g.2])]⟩)] []) (fun e σ=>(e=.normal\/e=.ret)/\(σ.env 4).c=true/\
   (σ.env 4).d=.v (.sl ((gg (fa g) l).map encS))/\σ.obj [0,1]=some (.farr 7 (l7 encS (encS oG) (fa g) l))):=by
 obtain⟨sG,hs,hg,_,hp⟩:=Kg aa
 obtain⟨Γ,sI,hΓ,hs,hI,hi⟩:∃ (Γ:FuncId->Option Spec) (sI:Spec),(∀ f s,Γ f=some s->aL Tryz.prog f s)/\Γ g.1=some sG/\Γ 181=some sI/\
  ∀ (obj:Name->Option O) (t:Name),obj [0,1]=some (.arr 7 (l.map encS))->sI.app obj t [.msl [0,1] l.length,.clo (.func g.1) [] [.v (.ptr [vInt g.2])]]=⟨True,.v (vInt (dJ (fa g) l)),obj⟩:=by
  refine⟨fun f=>if f=181 then some (p2 (fP iS) oT (fun _ g=>pD g) (fun l g=>vInt (dJ (fa g) l)) true).toSpec else HN f,_,fun f s h=>?_,?_,rfl,fun obj t e=>?_⟩
  ·dsimp only at h
   split at h
   ·rename_i e;cases h;subst e;exact Sq.sound
   ·exact Rj _ _ h
  ·dsimp only
   rw[if_neg (by intro e;have h':=aa;unfold pD at h';simp[e]at h')];exact hs
  ·have fA:pD (g.1,g.2):=aa
   simp only[go_sem,e,fA,List.length_map,GO]
 generalize vO:l7 encS (encS oG) (fa g) l=XX
 generalize hpg:fa g=p at *
 simp only[encS,V.cells,List.map_cons,List.map_nil]at hp
 refine⟨_,rfl,?_⟩
 have hm:l.length<=maxLen:=by unfold maxLen;omega
 repeat refine sq ?_
 refine rx hΓ [0,1] [] (fun K' hK=>by simp only[go_sem,dU];(repeat (refine⟨an,?_⟩));exact hK _ (by simp only[go_sem,dU]) (by simp only[go_sem,dU]<;>rfl)) ?_
 repeat refine sq ?_
 refine rx hΓ [0,1,5] [] (fun K' hK=>by simp only[go_sem,dU,hI,hi,rH,implies_true];(repeat (refine⟨an,?_⟩));exact hK _ (by simp only[go_sem,dU,hI,hi,rH,implies_true]) (by simp only[go_sem,dU,hI,hi,rH,implies_true]<;>rfl)) ?_
 repeat refine sq ?_
 refine rx hΓ [0,1,5,12] [] (fun K' hK=>by simp only[go_sem,dU];(repeat (refine⟨an,?_⟩));exact hK _ (by simp only[go_sem,dU]) (by simp only[go_sem,dU]<;>rfl)) ?_
 repeat refine sq ?_
 refine ay (fun hb=>?_) fun hb=>?_
 ·repeat refine sq ?_
  refine rx hΓ [4] [] (fun K' hK=>by simp only[go_sem,dU];(repeat (refine⟨an,?_⟩));exact hK _ (by simp only[go_sem,dU]) (by simp only[go_sem,dU]<;>rfl)) ?_
  refine bD (dd 4 (.msl [0,1] l.length) (by simp only[go_sem]) (by simp only[go_sem,rH,List.length_map]) [4] [] ?_ rfl) ?_
  ·simp only[go_sem,rH,br]
  simp only[go_sem,rH]
  refine aA ?_
  simp only[go_sem,rH]
  have dn:dJ p l= -1:=by simpa using hb
  have eO:∀ d∈l,p d=false:=by
   unfold dJ at dn
   split at dn
   ·omega
   ·rename_i hn
    intro d hd
    cases mM:p d with
    |false=>rfl
    |true=>exact(hn (List.any_eq_true.2 ⟨d,hd,mM⟩)).elim
  have hk:gg p l=l:=List.filter_eq_self.2 fun d hd=>by rw[eO d hd];rfl
  have A5:XX=l.map encS:=by rw[<-vO];unfold l7;rw[hk];simp
  rw[hk,A5]
  exact⟨.inr trivial,rfl,rfl⟩
 have hf:l.findIdx p<l.length:=by
  have dn:¬ dJ p l= -1:=by simpa using hb
  unfold dJ at dn
  split at dn
  ·rename_i jo
   exact List.findIdx_lt_length_of_exists (by obtain⟨y,hy,hp⟩:=List.any_eq_true.1 jo;exact⟨y,hy,hp⟩)
  ·exact(dn rfl).elim
 have rE:dJ p l=(l.findIdx p:Int):=by unfold dJ;rw[if_pos (List.any_eq_true.2 ⟨_,List.getElem_mem hf,List.findIdx_getElem (w:=hf)⟩)]
 rw[rE]
 clear hb rE hi hI
 have Y8:p (l[l.findIdx p])=true:=List.findIdx_getElem (w:=hf)
 have NC:∀ j (h:j<l.length),j<l.findIdx p->p l[j]=false:=fun j h hj=>by simpa using List.not_of_lt_findIdx hj
 generalize l.findIdx p=f at *
 repeat refine sq ?_
 refine aE ?_
 repeat refine sq ?_
 refine rx hΓ [0,1,5,6] [] (fun K' hK=>by simp only[go_sem,dU,a7 hf hm,bb];(repeat (refine⟨an,?_⟩));exact hK _ (by simp only[go_sem,dU,a7 hf hm,bb]) (by simp only[go_sem,dU,a7 hf hm,bb]<;>rfl)) ?_
 repeat refine sq ?_
 refine aN ?_
 repeat refine sq ?_
 refine PR (fun x:Nat×Nat×List yU=>upd H [0,1] (some (.arr 7 (x.2.2.map encS)))) (fun x=>[(5,⟨true,.v (vInt x.1)⟩),(6,⟨true,.v (vInt x.2.1)⟩)]) (fun x=>[]) (fun x=>x.1<x.2.1/\x.2.1<=l.length/\x.2.2.length=l.length/\x.2.2.take x.1=gg p (l.take x.2.1)/\x.2.2.drop x.2.1=l.drop x.2.1) (fun x=>l.length-x.2.1) (f,f+1,l) ?_ ?_ ?_ ?_ ?_
 ·refine⟨(show f<f+1 by omega),hf,rfl,?_,rfl⟩
  show l.take f=gg p (l.take (f+1))
  unfold gg
  rw[List.take_add_one,List.getElem?_eq_getElem hf,List.filter_append]
  simp only[Option.toList_some,List.filter_cons,Y8,Bool.not_true,Bool.false_eq_true,if_false,List.filter_nil,List.append_nil]
  rw[List.filter_eq_self.2]
  intro d hd
  obtain⟨j,hj,rfl⟩:=List.getElem_of_mem hd
  have fS:j<f:=by simp at hj;omega
  rw[List.getElem_take,NC j (by omega) fS]
  rfl
 ·congr 1
  rw[<-rH]
  funext x
  by_cases e:x=[0,1]
  ·subst e;rw[aS]
  ·rw[aY _ _ _ e]
 ·rfl
 ·rfl
 clear NC
 rintro⟨i,j,A⟩ ⟨bF,hj,hA,hT,hD⟩
 simp only at bF hj hA hT hD
 dsimp only
 generalize gP:upd H [0,1] (some (O.arr 7 (List.map encS A)))=H'
 have h0:H' [0,1]=some (.arr 7 (A.map encS)):=by rw[<-gP,aS]
 have ym:∀ i,H' [i+1,1]=H [i+1,1]:=fun i=>by rw[<-gP,aY _ _ _ (by simp)]
 have jS:∀ hs,ck [0] (bY [0] hs) H'=True:=fun hs=>by rw[<-gP];exact ae _ _ _
 have l4:∀ hs sz L,ck [0] (bY [0] hs) (upd H' [0,1] (some (.arr sz L)))=True:=fun hs sz L=>by rw[<-gP,wA];exact ae _ _ _
 have aap:∀ hs sz L,ck [0] (bY [0] hs) (upd H' [0,1] (some (.farr sz L)))=True:=fun hs sz L=>by rw[<-gP,wA];exact br _ _ _
 simp only[go_sem]
 repeat refine sq ?_
 refine rx hΓ [0,1,5,6,19] [] (fun K' hK=>by simp only[go_sem,jS,l4,h0];(repeat (refine⟨an,?_⟩));exact hK _ (by simp only[go_sem,jS,l4,h0]) (by simp only[go_sem,jS,l4,h0]<;>rfl)) ?_
 repeat refine sq ?_
 refine ay (fun hb=>?_) fun hb=>?_
 ·have ab:j<l.length:=by simpa using hb
  have FD:j<A.length:=by omega
  have xZ:i<A.length:=by omega
  have ZI:(i:Int)<l.length:=by omega
  have au:(j:Int)<l.length:=by omega
  have Gj:A[j]=l[j]:=by
   have h1:A[j]=(A.drop j)[0]'(by simp;omega):=by simp
   rw[h1]
   simp only[hD]
   simp
  clear hb
  repeat refine sq ?_
  refine aE ?_
  repeat refine sq ?_
  refine aN ?_
  repeat refine sq ?_
  refine rx hΓ [0,1,5,6,7] [[7,0]] (fun K' hK=>by simp only[go_sem,jS,l4,h0,ah FD,ai,aj,au,hA,Gj];(repeat (refine⟨an,?_⟩));exact hK _ (by simp only[go_sem,jS,l4,h0,ah FD,ai,aj,au,hA,Gj]) (by simp only[go_sem,jS,l4,h0,ah FD,ai,aj,au,hA,Gj]<;>rfl)) ?_
  repeat refine sq ?_
  refine rx hΓ [0,1,5,6,7,29] [[7,0]] (fun K' hK=>by simp only[go_sem,jS,l4,h0,hg,hs,hp];(repeat (refine⟨an,?_⟩));exact hK _ (by simp only[go_sem,jS,l4,h0,hg,hs,hp]) (by simp only[go_sem,jS,l4,h0,hg,hs,hp]<;>rfl)) ?_
  repeat refine sq ?_
  refine ay (fun hb=>?_) fun hb=>?_
  ·have E2:p l[j]=false:=by simpa using hb
   clear hb
   repeat refine sq ?_
   refine BH hΓ [0,1,5,6] [] fun K' hK=>?_
   simp only[go_sem,jS,l4,h0,ai,aj,ZI,hA]
   repeat' apply And.intro
   all_goals first | rfl | omega | exact Int.le_refl _ | exact Bool.or_not_self _ | exact Bool.not_or_self _ | exact GF _ | exact GG _ | exact fun x hx=>(GF _ x hx).1 | exact fun x hx=>(GG _ x hx).1 | (simp only[List.length_take,List.length_append,List.length_map,List.length_drop,List.length_cons,List.length_nil];done) | (simp only[List.length_take,List.length_append,List.length_map,List.length_drop,List.length_cons,List.length_nil];omega) | (simp only[List.length_take,List.length_append,List.length_map,List.length_drop,List.length_cons,List.length_nil,maxLen];omega) | (exact fun _=>by decide) | (exact fun h=>⟨h,by decide⟩) | (simp only[decide_eq_true_eq];omega) | skip
   refine hK _ ?_ ?_
   ·simp only[go_sem,jS,l4]
   clear K' hK
   simp only[go_sem]
   obtain⟨H2,Gb⟩:∃ H2,upd H' [0,1] (some (O.arr 7 ((List.map encS A).set i (encS l[j]))))=H2:=⟨_,rfl⟩
   have Oy:=Gb
   simp only[encS]at Oy
   rw[Oy]
   have F6:∀ hs,ck [0] (bY [0] hs) H2=True:=fun hs=>by rw[<-Gb];exact l4 _ _ _
   repeat refine sq ?_
   refine aP hΓ fun K' hK=>?_
   simp only[go_sem]
   repeat (refine⟨an,?_⟩)
   refine hK _ ?_
   clear K' hK
   simp only[go_sem]
   refine eG [0,1,5,6] [] ?_ ?_
   ·simp only[go_sem,F6]
   simp only[go_sem,F6]
   repeat refine sq ?_
   refine aP hΓ fun K' hK=>?_
   simp only[go_sem]
   repeat (refine⟨an,?_⟩)
   refine hK _ ?_
   clear K' hK
   simp only[go_sem]
   refine⟨(i+1,j+1,A.set i l[j]),⟨(show i+1<j+1 by omega),ab,by simpa using hA,?_,?_⟩,(show l.length-(j+1)<l.length-j by omega),?_⟩
   ·show (A.set i l[j]).take (i+1)=gg p (l.take (j+1))
    unfold gg at hT |-
    rw[List.take_add_one (l:=l),List.getElem?_eq_getElem ab,List.filter_append,<-hT]
    simp only[Option.toList_some,List.filter_cons,E2,Bool.not_false,if_true,List.filter_nil]
    rw[List.take_add_one,List.take_set_of_le (Nat.le_refl i),List.getElem?_set_self xZ]
    rfl
   ·show (A.set i l[j]).drop (j+1)=l.drop (j+1)
    rw[List.drop_set_of_lt (show i<j+1 by omega)]
    have :=congrArg (List.drop 1) hD
    simpa[List.drop_drop]using this
   ·refine bd [0,1,5,6] [] ?_ ?_
    ·simp only[go_sem,F6]
    ·simp only[go_sem,a7 ab hm,a7 (show i<l.length by omega) hm,bb]
     rw[<-Gb,<-gP,wA,List.map_set]
     try rfl
  ·have Y5:p l[j]=true:=by simpa using hb
   clear hb
   repeat refine sq ?_
   refine aE ?_
   refine bQ ?_
   simp only[go_sem]
   refine eG [0,1,5,6] [] ?_ ?_
   ·simp only[go_sem,jS]
   simp only[go_sem,jS]
   repeat refine sq ?_
   refine aP hΓ fun K' hK=>?_
   simp only[go_sem]
   repeat (refine⟨an,?_⟩)
   refine hK _ ?_
   clear K' hK
   simp only[go_sem]
   refine⟨(i,j+1,A),⟨(show i<j+1 by omega),ab,hA,?_,?_⟩,(show l.length-(j+1)<l.length-j by omega),?_⟩
   ·show A.take i=gg p (l.take (j+1))
    unfold gg at hT |-
    rw[List.take_add_one (l:=l),List.getElem?_eq_getElem ab,List.filter_append,<-hT]
    simp only[Option.toList_some,List.filter_cons,Y5,Bool.not_true,Bool.false_eq_true,if_false,List.filter_nil,List.append_nil]
   ·show A.drop (j+1)=l.drop (j+1)
    have :=congrArg (List.drop 1) hD
    simpa[List.drop_drop]using this
   ·refine bd [0,1,5,6] [] ?_ ?_
    ·simp only[go_sem,jS]
    ·simp only[go_sem,a7 ab hm,bb]
     rw[<-gP]
 ·have bB:j=l.length:=by
    have :¬ (j:Int)<l.length:=by simpa using hb
    omega
  subst bB
  clear hb
  rw[List.take_length]at hT
  have xZ:i<A.length:=by omega
  repeat refine sq ?_
  refine bT ?_
  simp only[go_sem]
  refine eG [0,5] [] ?_ ?_
  ·simp only[go_sem,jS]
  simp only[go_sem,jS]
  repeat refine sq ?_
  refine ab5 hΓ [0,5] [] fun K' hK=>?_
  refine Jm ?_ (Jm ?_ (.cut (T:=29) (x:=.tmp 36) (lo:=.tmp 37) (c:=38) rfl rfl ?_ ?_ ?_ ?_ (.nil ?_)))
  ·simp only[go_sem]
  ·simp only[go_sem]
  ·simp only[go_sem]
  ·simp only[go_sem]
  ·simp only[go_sem]
  ·have aac:=fun (obj:Name->Option O) (h:obj [0,1]=_)=>G4 (obj:=obj) (nm:=[0,1]) (k:=l.length) (i:=i) (L:=A.map encS) h (by simpa using hA.symm) (by simpa using xZ)
   simp only[go_sem,oz,Hu,aac,h0]
  ·refine hK _ ?_ ?_
   ·simp only[go_sem,rR,oz,Hu,G4 (obj:=fun nm=>if own [0] nm=true then none else H' nm) (nm:=[0,1]) (k:=l.length) (i:=i) (L:=A.map encS) h0 (by simpa using hA.symm) (by simpa using xZ),l4]
   clear K' hK
   simp only[go_sem,rR,oz,Hu,G4 (obj:=fun nm=>if own [0] nm=true then none else H' nm) (nm:=[0,1]) (k:=l.length) (i:=i) (L:=A.map encS) h0 (by simpa using hA.symm) (by simpa using xZ)]
   have dO:(gg p l).length=i:=by rw[<-hT,List.length_take];omega
   have F3:(List.take i (List.map encS A)++List.replicate (A.length-i) (encS oG))=XX:=by
    rw[<-vO]
    unfold l7
    rw[dO,<-hT,List.map_take,hA]
   have hZ1:XX.length=l.length:=by rw[<-vO];unfold l7;simp;omega
   have hZ2:XX.take i=(gg p l).map encS:=by
    rw[<-vO]
    unfold l7
    rw[List.take_append_of_le_length (by simp;omega),List.take_of_length_le (by simp;omega)]
   have hZ3:∀ x∈XX,x.cells.length=7:=by
    intro x hx
    rw[<-vO]at hx
    rcases List.mem_append.1 hx with h | h
    ·obtain⟨y,_,rfl⟩:=List.mem_map.1 h;rfl
    ·rw[(List.mem_replicate.1 h).2];rfl
   simp only[encS]at F3
   rw[F3]
   clear F3
   clear vO
   generalize XX=Z at *
   simp only[V.cells]at hZ3
   generalize Ga:upd H' [0,1] (some (O.arr 7 Z))=H3
   have OB:H3 [0,1]=some (.arr 7 Z):=by rw[<-Ga,aS]
   have hI3:∀ i,H3 [i+1,1]=H [i+1,1]:=fun i=>by rw[<-Ga,aY _ _ _ (by simp)];exact ym i
   have aao:∀ hs sz L,ck [0] (bY [0] hs) (upd H3 [0,1] (some (.farr sz L)))=True:=fun hs sz L=>by rw[<-Ga,wA];exact aap _ _ _
   have ZF:(i:Int)<=l.length:=by omega
   repeat refine sq ?_
   refine BH hΓ [4] [] fun K' hK=>?_
   simp only[go_sem,OB,It,ai,aj,ZF]
   repeat' apply And.intro
   all_goals first | rfl | omega | exact Int.le_refl _ | exact Bool.or_not_self _ | exact Bool.not_or_self _ | exact GF _ | exact GG _ | exact fun x hx=>(GF _ x hx).1 | exact fun x hx=>(GG _ x hx).1 | (simp only[List.length_take,List.length_append,List.length_map,List.length_drop,List.length_cons,List.length_nil];done) | (simp only[List.length_take,List.length_append,List.length_map,List.length_drop,List.length_cons,List.length_nil];omega) | (simp only[List.length_take,List.length_append,List.length_map,List.length_drop,List.length_cons,List.length_nil,maxLen];omega) | (exact fun _=>by decide) | (exact fun h=>⟨h,by decide⟩) | (simp only[decide_eq_true_eq];omega) | skip
   refine hK _ ?_ ?_
   ·simp only[go_sem,aao]
   clear K' hK
   simp only[go_sem]
   refine aA ?_
   simp only[go_sem,hZ2]
   exact .inr trivial
def delCS:CSpec where
 pre:=fun os ds=>∃ (l:List yU) (g:Nat×Int),os=[.arr 7 (l.map encS)]/\ds=[.msl [0,1] l.length,.clo (.func g.1) [] [.v (.ptr [vInt g.2])]]/\l.length<1000000/\pD g
 out:=fun os ds=>match os,ds with
  |[.arr _ L],[_,.clo (.func g) _ [.v (.ptr [.int _ k])]]=>⟨[(0,.farr 7 (l7 encS (encS oG) (fa (g,k)) (L.map jT)))],[],.v (.sl ((gg (fa (g,k)) (L.map jT)).map encS))⟩
  |_,_=>⟨[],[],.any⟩
def tS(obj:Name->Option O)(_:Name):List D->R
 |[.msl nm k,.clo (.func g) [] [.v (.ptr [.int .i64 q])]]=>match obj nm with
  |some (.arr 7 L)=>⟨k=L.length/\L.length<1000000/\(L.map jT).map encS=L/\pD (g,q),.v (.sl ((gg (fa (g,q)) (L.map jT)).map encS)),upd obj nm (some (.farr 7 (l7 encS (encS oG) (fa (g,q)) (L.map jT))))⟩
  |_=>.bad obj
 |_=>.bad obj
def Bs(_:Name->Option O)(_:Name):List D->List Name
 | .msl nm _::_=>[nm]
 |_=>[]
def S91:Spec:=⟨tS,Bs,Bs⟩
attribute [go_sem] S91 tS
theorem aa':S91.Near:=by
 refine xe fun obj obj2 t ds ha=>⟨rfl,?_⟩
 have hJ:∀ wr,bU wr obj obj2->b8 (R.bad obj) (R.bad obj2) obj obj2 wr:=fun wr h=>.none wr h
 unfold tS
 split
 ·rename_i nm k g q
  have h1:obj2 nm=obj nm:=ha nm (by simp[Bs])
  simp only[h1]
  split
  ·exact .one (by simp[Bs]) ha
  ·exact hJ _ ha
 ·exact hJ _ ha
theorem X2:aL Tryz.prog 91 delCS.toSpec:=by
 refine oy (nt:=42) (rs:=[.tmp 4]) Tryz.func91 rfl (by rfl) (by kernel_rfl) (iX Tryz.func91 rfl (by kernel_rfl)) (nU _ (by decide)) ?_
 rintro os ds ⟨l,g,rfl,rfl,hl,aa⟩
 refine⟨lb rfl,?_⟩
 have gN:delCS.out [.arr 7 (l.map encS)] [.msl [0,1] l.length,.clo (.func g.1) [] [.v (.ptr [vInt g.2])]]=⟨[(0,.farr 7 (l7 encS (encS oG) (fa g) l))],[],.v (.sl ((gg (fa g) l).map encS))⟩:=by
  simp only[delCS,vY]
 rw[gN]
 have dU:∀ hs,ck [0] (bY [0] hs) (aR [.arr 7 (l.map encS)])=True:=fun hs=>eq_true (nP (by
  intro o ho dom hd
  simp only[List.mem_singleton]at ho
  subst ho
  rfl) hs)
 obtain⟨c,hc,h⟩:=RO aa (H:=aR [.arr 7 (l.map encS)]) hl rfl dU (fun hs sz L=>eq_true (uv rfl (by rw[dU];trivial))) (fun hs sz L=>eq_true (uv rfl (by rw[dU];trivial)))
 have hc2:∀ c2,Tryz.f91.body=some c2->c2=c:=fun c2 h2=>by rw[h2]at hc;exact Option.some.inj hc
 rw[<-hc2 _ rfl]at h
 refine CW.mono (iG h) ?_
 rintro e σ ⟨he,h1,h2,h3⟩
 have fin:(bX Tryz.prog σ [.tmp 4]).ok/\(bX Tryz.prog σ [.tmp 4]).d=.v (.sl ((gg (fa g) l).map encS))/\gQ [.arr 7 (l.map encS)] ⟨[(0,.farr 7 (l7 encS (encS oG) (fa g) l))],[],.v (.sl ((gg (fa g) l).map encS))⟩ σ:=
  ⟨h1,h2,⟨h3,trivial⟩,trivial,rfl⟩
 rcases he with rfl | rfl
 ·exact fin
 ·exact fin
theorem X3:aL Tryz.prog 91 S91:=by
 refine wI X2 aa' (nU _ (by decide)) fun obj t ds aa=>?_
 change (tS obj t ds).ok at aa
 refine⟨ds,rfl,fun _ _ _ _ h=>h,?_⟩
 show _/\_=(tS obj t ds).d/\_=(tS obj t ds).obj
 unfold tS at aa |-
 split at aa
 ·rename_i nm k g q
  split at aa
  ·rename_i L ho
   obtain⟨rfl,hl,he,hg⟩:=aa
   have hr:reach obj [.msl nm L.length,.clo (.func g) [] [.v (.ptr [.int .i64 q])]]=[nm]:=by
    unfold reach
    show dk obj (2998+1+1) [nm] []=[nm]
    simp only[dk,cJ,List.any_nil,Bool.false_eq_true,if_false,ho,kQ,List.nil_append]
   have i0:idx [nm] nm=0:=by simp[idx]
   have e1:cF obj [.msl nm L.length,.clo (.func g) [] [.v (.ptr [.int .i64 q])]]=[.arr 7 L]:=by
    unfold cF
    rw[hr]
    simp only[List.map_cons,List.map_nil,cE,ho,O.ren]
   have e2:db obj [.msl nm L.length,.clo (.func g) [] [.v (.ptr [.int .i64 q])]]=[.msl [0,1] L.length,.clo (.func g) [] [.v (.ptr [.int .i64 q])]]:=by
    unfold db
    rw[hr]
    simp only[D.renL,D.ren,cin,i0]
   have e3:(shut obj [nm]&&D.closL (cJ [nm]) [.msl nm L.length,.clo (.func g) [] [.v (.ptr [.int .i64 q])]]&&fresh obj t [])=true:=by
    simp[shut,ho,O.clos,D.closL,D.clos,cJ,fresh]
   have dM:delCS.pre [.arr 7 L] [.msl [0,1] L.length,.clo (.func g) [] [.v (.ptr [.int .i64 q])]]:=⟨L.map jT,(g,q),by rw[he],by rw[List.length_map],by rw[List.length_map];exact hl,hg⟩
   have gN:delCS.out [.arr 7 L] [.msl [0,1] L.length,.clo (.func g) [] [.v (.ptr [.int .i64 q])]]=⟨[(0,.farr 7 (l7 encS (encS oG) (fa (g,q)) (L.map jT)))],[],.v (.sl ((gg (fa (g,q)) (L.map jT)).map encS))⟩:=rfl
   simp only[CSpec.toSpec,e1,e2,hr,gN,e3,dM,ho,and_self,dv]
   exact⟨trivial,rfl,rfl⟩
  ·exact aa.elim
 ·exact aa.elim
end
end Go.Eng
