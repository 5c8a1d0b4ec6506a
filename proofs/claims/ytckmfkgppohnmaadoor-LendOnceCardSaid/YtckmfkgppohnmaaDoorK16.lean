import Derived.Test.YtckmfkgppohnmaaDoorK15
/- Texts NW60 to LO7. -/
set_option linter.all false
namespace Go.Eng
open Go Go.Proofs
@[go_sem] theorem ajp(b:Bag):(List.map D.v (aX b)).getD 2 .any=.v (rowP b.ps):=rfl
set_option maxRecDepth 10000 in
set_option maxHeartbeats 8000000 in
theorem Rz{sY:Spec}(hY:ak Tryd.prog yid sY){d:Dk}{b:Bag}{k0 m n:Nat}{er:Int}(hw:mj d b k0 m n er)(hf:b.fr.toNat<6)(bD:b.ps.length<=40)
 (wN:∀ z,z<=k0+m->0<=(oT d b z).ta.get b.fr.toNat/\(oT d b z).ta.get b.fr.toNat<=99999)
 {J:Nat->List O} (hJ:∀ s,(J s).length=(J 0).length) (hc:∀ s,∀ o∈J s,∀ dom:Name->Bool,(∀ i,dom [i,1]=true)->O.clos dom o=true)
 (hA:∀ s,aW (J s) [6,1]=some (.box ((aX b).map .v))) (hB:∀ s,aW (J s) [7,1]=some (.box [.ref [4,1] (14+b.fr.toNat)]))
 {e:Nat->Dk} {q:Nat->Nat} (sS:∀ s,aW (J s) [4,1]=some (.box (bq (e s) [5,1] (q s)))) (he:∀ s,s<=m->(e s).now.ta.get b.fr.toNat=(oT d b (k0+s)).ta.get b.fr.toNat)
 (lu:∀ s,s<n->∀ obj tm,(∀ nm,cJ nm=true->obj nm=aW (J s) nm)->sY.app obj tm [.yld [0,1],.agg [.v (vInt (b.ps.getD (k0+s) default).no),.v (vInt (b.ps.getD (k0+s) default).pa)]]=⟨True,.v (.bool (decide (s<m))),iU obj (J (s+1))⟩):
 ∃ c',Tryd.f73.body=some c'/\CL Tryd.prog [c'] (aT 27 [0] (aW (J 0)) [(0,⟨true,.yld [0,1]⟩),(1,⟨true,.ref [6,1] 0⟩),(2,⟨true,.ref [7,1] 0⟩)] [])
   (fun e σ=>(e=.normal\/e=.ret)/\∀ i,σ.obj [i,1]=aW (J n) [i,1]):=by
 refine⟨_,rfl,?_⟩
 have hP:=be
 obtain⟨Γ,hΓ,jf⟩:∃ Γ:FuncId->Option Spec,(∀ f s,Γ f=some s->ak Tryd.prog f s)/\Γ 1000000000=some sY:=by
  refine⟨fun f=>if f=1000000000 then some sY else none,fun f s h=>?_,rfl⟩
  dsimp only at h
  split at h
  ·rename_i e;cases h;subst e;exact hY
  ·cases h
 have hO:∀ s hs,b7 [0] (bT [0] hs) (aW (J s))=True:=fun s hs=>eq_true (wk (hc s) hs)
 have jR:∀ s,iU (aW (J s)) (J (s+1))=aW (J (s+1)):=fun s=>Sy ((hJ _).trans (hJ s).symm)
 obtain⟨H,hH⟩:∃ H:Nat->Name->Option O,∀ s,aW (J s)=H s:=⟨_,fun _=>rfl⟩
 simp only[hH]at hO jR lu hA hB sS |-
 have hl:b.ps.length<=maxLen:=by unfold maxLen;omega
 have Zu:n=m\/n=m+1:=by rcases hw.hn with h | h<;>omega
 repeat refine sq ?_
 refine rx hΓ [0,2,7,8,9] [] (fun K' hK=>by simp only[go_sem,hO,hA];(repeat (refine⟨ah,?_⟩));exact hK _ (by simp only[go_sem,hO,hA]) (by simp only[go_sem,hO,hA]<;>rfl)) ?_
 repeat refine sq ?_
 refine aN ?_
 repeat refine sq ?_
 refine Gx (fun z:Nat=>aT 27 [0] (H (z-k0)) [(0,⟨true,.yld [0,1]⟩),(2,⟨true,.ref [7,1] 0⟩),(7,⟨true,.v (.sl (b.ps.map encPa))⟩),(8,⟨true,.v (vInt b.ps.length)⟩),(9,⟨true,.v (vInt z)⟩)] [])
  (fun z=>z<=b.ps.length/\z<=k0+m) (fun z=>b.ps.length-z) 0 ⟨Nat.zero_le _,Nat.zero_le _⟩ (by rw[Nat.zero_sub];exact dB.refl _) ?_
 rintro i ⟨hi,him⟩
 repeat refine sq ?_
 refine rx hΓ [0,2,7,8,9,10] [] (fun K' hK=>by simp only[go_sem,hO];(repeat (refine⟨ah,?_⟩));exact hK _ (by simp only[go_sem,hO]) (by simp only[go_sem,hO]<;>rfl)) ?_
 repeat refine sq ?_
 refine au rfl rfl (fun hb=>?_) (fun hb=>?_)
 ·have ae:i<b.ps.length:=by simpa using hb
  have ai:(i:Int)<b.ps.length:=by omega
  have zR:IntKind.i64.wrap ((i:Int)+1)=((i+1:Nat):Int):=aF ae hl
  clear hb
  have Zw:i-k0<=m:=by omega
  have DQ:=he (i-k0) Zw
  have nQ:=wN (k0+(i-k0)) (by omega)
  have w1:IntKind.i64.wrap ((e (i-k0)).now.ta.get b.fr.toNat+1)=(e (i-k0)).now.ta.get b.fr.toNat+1:=by rw[DQ];exact wrap_i64 (by omega) (by omega)
  repeat refine sq ?_
  refine ax ?_
  repeat refine sq ?_
  refine aN ?_
  repeat refine sq ?_
  refine rx hΓ [0,2,5,7,8,9] [[5,0]] (fun K' hK=>by simp only[go_sem,hO,aJ ae,Int.toNat_natCast,Int.natCast_nonneg,ai];(repeat (refine⟨ah,?_⟩));exact hK _ (by simp only[go_sem,hO,aJ ae,Int.toNat_natCast,Int.natCast_nonneg,ai]) (by simp only[go_sem,hO,aJ ae,Int.toNat_natCast,Int.natCast_nonneg,ai]<;>rfl)) ?_
  by_cases YP:i<k0
  ·have hz:i-k0=0:=by omega
   have heq:(b.ps[i].no==(e (i-k0)).now.ta.get b.fr.toNat+1)=false:=by
    have h1:=hw.pre i ae YP
    rw[DQ,hz,Nat.add_zero,hw.T0 k0 (Nat.le_refl _)]
    exact h1
   have mA:i+1-k0=i-k0:=by omega
   repeat refine sq ?_
   refine dx hΓ hP [[],[0],[],[2],[2,3],[2,3,4],[0,1,2,3,4,5],[0,1,2,3,4,5,6],[0,1,2,3,4,5,6,7],[0,1,2,3,4,5,6,7],[0,1,2,3,4,5,6,7,8,9],[0,1,2,3,4,5,6,7,8,9,10],[0,1,2,3,4,5,6,7,8,9,10,11]] [0,2,7,8,9,25] [[5,0]] (by kernel_rfl) (fun K' hK=>by simp only[go_sem,hO,hB,sS,tv _ _ _ hf,w1,heq];(repeat (refine⟨ah,?_⟩));(first | refine⟨by rfl,?_⟩ | skip);exact hK _ (by simp only[go_sem,hO,hB,sS,tv _ _ _ hf,w1,heq]) (by simp only[go_sem,hO,hB,sS,tv _ _ _ hf,w1,heq]<;>rfl)) ?_
   repeat refine sq ?_
   refine au rfl rfl (fun hb=>?_) (fun hb=>?_)
   ·cases hb
   repeat refine sq ?_
   refine ax ?_
   refine cM ?_
   simp only[go_sem]
   refine kS [0,2,7,8,9] [] ?_ ?_
   ·simp only[go_sem,hO]
   simp only[go_sem,hO]
   repeat refine sq ?_
   refine aP hΓ fun K' hK=>?_
   simp only[go_sem]
   repeat (refine⟨ah,?_⟩)
   refine hK _ ?_
   clear K' hK
   simp only[go_sem]
   refine⟨i+1,⟨ae,by omega⟩,by omega,?_⟩
   rw[mA]
   refine bk [0,2,7,8,9] [] ?_ ?_
   ·simp only[go_sem,hO,zR]
   ·simp only[go_sem,hO,zR]
  ·have jV:k0+(i-k0)=i:=by omega
   have qo:i-k0<n:=by
    rcases hw.hn with⟨_,h1,h2⟩ | ⟨_,h1,h2⟩<;>omega
   have Ac:dS b.fr.toNat (oT d b i) b.ps[i]=true:=by
    rcases Nat.lt_or_ge (i-k0) m with h1 | h1
    ·have h2:=(hw.good (i-k0) h1 (by omega)).1
     simp only[jV]at h2
     exact h2
    ·have h3:i=k0+m:=by omega
     rcases hw.hn with⟨_,h4,h5⟩ | ⟨h4,h5,h6⟩
     ·omega
     ·have h2:=(hw.bad h4 (by omega)).1
      simp only[<-h3]at h2
      exact h2
   have heq:(b.ps[i].no==(e (i-k0)).now.ta.get b.fr.toNat+1)=true:=by
    rw[DQ,jV]
    exact Ac
   have M2:=lu (i-k0) qo
   rw[jV,getD_at ae]at M2
   have E6:=fun (F:Name->Option O) (tm:Name)=>M2 (fun nm=>if own [0] nm=true then F nm else H (i-k0) nm) tm fun nm hn=>by
    obtain⟨k,rfl⟩:=uG.1 hn
    simp[wi]
   have DW:∀ (obj:Name->Option O) (L:List O),iU obj L [5,0]=obj [5,0]:=fun _ _=>rfl
   repeat refine sq ?_
   refine dx hΓ hP [[],[0],[],[2],[2,3],[2,3,4],[0,1,2,3,4,5],[0,1,2,3,4,5,6],[0,1,2,3,4,5,6,7],[0,1,2,3,4,5,6,7],[0,1,2,3,4,5,6,7,8,9],[0,1,2,3,4,5,6,7,8,9,10],[0,1,2,3,4,5,6,7,8,9,10,11]] [0,2,7,8,9,25] [[5,0]] (by kernel_rfl) (fun K' hK=>by simp only[go_sem,hO,hB,sS,tv _ _ _ hf,w1,heq,jf,E6,DW,CU,G6,jR];(repeat (refine⟨ah,?_⟩));(first | refine⟨by rfl,?_⟩ | skip);exact hK _ (by simp only[go_sem,hO,hB,sS,tv _ _ _ hf,w1,heq,jf,E6,DW,CU,G6,jR]) (by simp only[go_sem,hO,hB,sS,tv _ _ _ hf,w1,heq,jf,E6,DW,CU,G6,jR]<;>rfl)) ?_
   repeat refine sq ?_
   refine au rfl rfl (fun hb=>?_) (fun hb=>?_)
   ·have h1:¬ i-k0<m:=by simpa using hb
    have h2:i-k0+1=n:=by omega
    refine ar ?_
    simp only[go_sem]
    rw[h2]
    exact⟨.inr trivial,fun k=>by simp[wi]⟩
   have h1:i-k0<m:=by simpa using hb
   have h2:i+1-k0=i-k0+1:=by omega
   repeat refine sq ?_
   refine ax ?_
   refine cM ?_
   simp only[go_sem]
   refine kS [0,2,7,8,9] [] ?_ ?_
   ·simp only[go_sem,hO]
   simp only[go_sem,hO]
   repeat refine sq ?_
   refine aP hΓ fun K' hK=>?_
   simp only[go_sem]
   repeat (refine⟨ah,?_⟩)
   refine hK _ ?_
   clear K' hK
   simp only[go_sem]
   refine⟨i+1,⟨ae,by omega⟩,by omega,?_⟩
   rw[h2]
   refine bk [0,2,7,8,9] [] ?_ ?_
   ·simp only[go_sem,hO,zR]
   ·simp only[go_sem,hO,zR]
 ·have bb:i=b.ps.length:=by
    have :¬ (i:Int)<b.ps.length:=by simpa using hb
    omega
  have al:i-k0=n:=by
   rcases hw.hn with⟨_,h1,h2⟩ | ⟨_,h1,h2⟩<;>omega
  clear hb
  repeat refine sq ?_
  refine cr ?_
  simp only[go_sem]
  rw[al]
  exact⟨.inl rfl,fun k=>by rw[JF];simp[wi]⟩
set_option maxRecDepth 10000
def rF:Code->Option (Array Tmp×Code×Code)
 | .seq a b=>match rF a with | some x=>some x | none=>rF b
 | .block _ b=>rF b
 | .loop b=>rF b
 | .cond _ a b=>match rF a with | some x=>some x | none=>rF b
 | .rangeFunc _ ps a b=>some (ps,a,b)
 |_=>none
def yD(fn:Func):Array Tmp×Code×Code:=((fn.body.bind rF).getD (#[],.skip,.skip))
theorem qa{Ls:List Name}(h:Ls.length=7):∃ a b c d e f g,Ls=[a,b,c,d,e,f,g]:=by
 match Ls,h with
 |[a,b,c,d,e,f,g],_=>exact⟨a,b,c,d,e,f,g,rfl⟩
def rH(p:Par):D:=.agg [.v (vInt p.no),.v (vInt p.pa)]
def dL(d:Dk)(b:Bag)(k0 m s:Nat):Stk:=oT d b (k0+min s m)
def gQ(d:Dk)(b:Bag)(k0 m s:Nat):List Int:=if s<=m then(oT d b (k0+min s m)).ho else jL (oT d b (k0+m)).ho (b.ps.getD (k0+m) default).pa
def jC(m:Nat)(er:Int)(s:Nat):Int:=if s<=m then 0 else er
noncomputable def dD(d:Dk)(b:Bag)(k0 m n:Nat)(er:Int):Lp where
 m:=7
 env:=fun Ls=>(List.range 106).map (dw eAny [(3,⟨true,.v (.ptr (aX b))⟩),(4,⟨true,.ref (Ls.getD 0 []) 0⟩),(5,⟨true,.ref (Ls.getD 1 []) 0⟩),(7,⟨true,.ref (Ls.getD 2 []) 0⟩),(58,⟨true,.clo (.func 73) [] [.ref (Ls.getD 5 []) 0,.ref (Ls.getD 6 []) 0]⟩)])
 fam:=fun Ls s=>[.box ((an zD).map .v),.box [.v (vInt (jC m er s))],.box [.ref (Ls.getD 3 []) 0],.box (bq (d.setN (dL d b k0 m s)) (Ls.getD 4 []) (dL d b k0 m s).ho.length),.arr 1 ((gQ d b k0 m s).map vInt),.box ((aX b).map .v),.box [.ref (Ls.getD 3 []) (14+b.fr.toNat)]]
 ps:=(yD Tryd.f18).1.toList
 asg:=(yD Tryd.f18).2.1
 body:=(yD Tryd.f18).2.2
 n:=n
 vals:=fun s=>[rH (b.ps.getD (k0+s) default)]
 st:=fun j=>if j<m then none else some .ret
 fu:=200
theorem CB{d:Dk}{b:Bag}{k0 m n:Nat}{er:Int}(hw:mj d b k0 m n er):k0+n<=b.ps.length/\n<=m+1/\m<=n:=by
 rcases hw.hn with⟨_,h1,h2⟩ | ⟨_,h1,h2⟩<;>omega
theorem CC{d:Dk}{b:Bag}{k0 m n:Nat}{er:Int}(hw:mj d b k0 m n er)(hb:fK b=true):(dD d b k0 m n er).Ok where
 len:=fun Ls s _=>rfl
 renE:=fun f Ls h=>by obtain⟨a,b,c,d,e,f,g,rfl⟩:=qa h;rfl
 renF:=fun f Ls s h=>by
  obtain⟨x1,x2,x3,x4,x5,x6,x7,rfl⟩:=qa h
  simp only[dD,List.map_cons,List.map_nil,O.ren,ub,O4,List.getD_cons_zero,List.getD_cons_succ,D.renL,D.ren]
 reach:=fun Ls s obj acc q h jc hd hF=>by
  obtain⟨a,c,e,f,g,x,y,rfl⟩:=qa h
  obtain⟨h1,h2,h3,h4,h5,h6,h7,_⟩:=hF
  simp only[List.getD_cons_zero,List.getD_cons_succ]at h1 h2 h3 h4 h5 h6 h7
  have en:cU (((dD d b k0 m n er).env [a,c,e,f,g,x,y]).map (·.d))=[a,c,e,x,y]:=rfl
  rw[en]
  show dO obj (q+190+1+1+1+1+1+1+1+1+1+1) _ acc=_
  simp only[List.mem_cons,List.not_mem_nil,or_false,forall_eq_or_imp,forall_eq]at hd
  obtain⟨d1,d2,d3,d4,d5,d6,d7⟩:=hd
  simp only[List.nodup_cons,List.mem_cons,List.not_mem_nil,or_false,not_or,not_false_eq_true,List.nodup_nil,and_true]at jc
  obtain⟨⟨a1,a2,a3,a4,a5,a6⟩,⟨b1,b2,b3,b4,b5⟩,⟨c1,c2,c3,c4⟩,⟨e1,e2,e3⟩,⟨f1,f2⟩,g1⟩:=jc
  simp[dO,ic,h1,h2,h3,h4,h5,h6,h7,my,cU,rX,ze,zf,d1,d2,d3,d4,d5,d6,d7,Ne.symm a1,Ne.symm a2,Ne.symm a3,Ne.symm a4,Ne.symm a5,Ne.symm a6,Ne.symm b1,Ne.symm b2,Ne.symm b3,Ne.symm b4,Ne.symm b5,Ne.symm c1,Ne.symm c2,Ne.symm c3,Ne.symm c4,Ne.symm e1,Ne.symm e2,Ne.symm e3,Ne.symm f1,Ne.symm f2,Ne.symm g1]
 closE:=fun dom Ls h hd=>by
  obtain⟨a,c,e,f,g,x,y,rfl⟩:=qa h
  have h1:=hd a (by simp)
  have h2:=hd c (by simp)
  have h3:=hd e (by simp)
  have h4:=hd x (by simp)
  have h5:=hd y (by simp)
  simp[dD,List.range,List.range.loop,dw,D.closL,D.clos,eAny,h1,h2,h3,h4,h5]
 closF:=fun dom Ls s h hd o ho=>by
  obtain⟨a,c,e,f,g,x,y,rfl⟩:=qa h
  have h1:=hd f (by simp)
  have h2:=hd g (by simp)
  simp only[dD,List.mem_cons,List.not_mem_nil,or_false,List.getD_cons_zero,List.getD_cons_succ]at ho
  rcases ho with rfl | rfl | rfl | rfl | rfl | rfl | rfl<;>simp[O.clos,D.closL,D.clos,qX,xR,h1,h2]
 psz:=fun Ls h=>by rfl
 args:=fun s=>by rfl
 fuel:=(show (200:Nat)<=2000 by decide)
 vnam:=fun _=>rfl
 vcl:=fun _ _=>rfl
 vren:=fun _ _=>rfl
 inj:=fun s s' hs gE h=>by
  have lM:cm b.ps=true:=by unfold fK at hb;simp only[Bool.and_eq_true]at hb;exact hb.1.2
  have dX:=yQ lM
  have h0:=(CB hw).1
  have l1:k0+s<b.ps.length:=Nat.lt_of_lt_of_le (Nat.add_lt_add_left hs k0) h0
  have l2:k0+s'<b.ps.length:=Nat.lt_of_lt_of_le (Nat.add_lt_add_left gE k0) h0
  have e1:(b.ps.getD (k0+s) default).no=(b.ps.getD (k0+s') default).no:=by
   have :=(List.cons.inj h).1
   simp only[rH,D.agg.injEq,List.cons.injEq,D.v.injEq,vInt,V.int.injEq,true_and,and_true]at this
   exact this.1
  rw[getD_at l1,getD_at l2,dX _ l1,dX _ l2]at e1
  omega
set_option maxRecDepth 20000
theorem BI{p:Name}{H:Name->Option O}{x y:Name}{o q:Option O}(hx:own p x=true)(nm:Name)(hn:own p nm=false):upd (upd H x o) y q nm=upd H y q nm:=by
 by_cases e:nm=y
 ·subst e;rw[aE,aE]
 ·rw[aI _ _ _ e,aI _ _ _ e,aI _ _ _ (fun e2=>by rw[e2,hx]at hn;cases hn)]
@[go_sem] theorem ahf{n:Nat}{p:Name}{H:Name->Option O}{x y:Name}{o q:Option O}{l:List (Nat×E)}{h:List (Name×O)}(hx:own p x=true):aT n p (upd (upd H x o) y q) l h=aT n p (upd H y q) l h:=
  wy fun nm hn=>BI hx nm hn
@[go_sem] theorem ajK{p:Name}{dom:Name->Bool}{H:Name->Option O}{x y:Name}{o q:Option O}(hx:own p x=true):b7 p dom (upd (upd H x o) y q)=b7 p dom (upd H y q):=
  propext ⟨fun k nm z hn h=>k nm z hn (by rw[BI hx nm hn];exact h),fun k nm z hn h=>k nm z hn (by rw[<-BI (o:=o) hx nm hn];exact h)⟩
theorem PS{H:Name->Option O}(hO:∀ hs,b7 [0] (bT [0] hs) H=True)(hs:List (Name×O))(sz:Nat)(L:List V):b7 [0] (bT [0] hs) (upd H [4,1] (some (.arr sz L)))=True:=eq_true (yg rfl (of_eq_true (hO hs)))
theorem ac'{H:Name->Option O}(hO:∀ hs,b7 [0] (bT [0] hs) H=True)(hs:List (Name×O))(e:Dk)(n:Nat):b7 [0] (bT [0] hs) (upd H [3,1] (some (.box (bq e [4,1] n))))=True:=
 eq_true (yg (by simp only[O.clos,xR];simp[bT,own]) (of_eq_true (hO hs)))
theorem OO{P:Program}{Γ:FuncId->Option Spec}(hΓ:∀ f s,Γ f=some s->ak P f s){id:Nat}{l:List Oper}{c:Code}{r:List Code}{σ:Eng.S}{K:Exit->Eng.S->Prop}
 (h:∀ K':Eng.S->Prop,(∀ σ',CL P (c::r) σ' K->K' σ')->nq P Γ l.toArray l σ K'):CL P (.region id l.toArray false::c::r) σ K:=
 xK hΓ h
theorem ai6(d:Dk)(S:Stk)(l:List Int)(x:Int)(f n:Nat):bq ((d.setN S).setN ⟨(d.setN S).now.ho,(d.setN S).now.un,(d.setN S).now.se,(d.setN S).now.ta.set f x⟩) [4,1] n=bq (d.setN ⟨l,S.un,S.se,S.ta.set f x⟩) [4,1] n:=rfl
noncomputable def Qg:List (Nat×Spec):=[(51,S67)]
attribute [go_sem] Qg
theorem adx:∀ f s,tbl Qg f=some s->ak Tryd.prog f s:=tc XN<|tn
set_option maxHeartbeats 8000000 in
theorem U2{d:Dk}{b:Bag}{k0 m n:Nat}{er:Int}(hw:mj d b k0 m n er)(hb:fK b=true)(hI:∀ z,z<=k0+m->pJ b.fr.toNat (oT d b z)):ak Tryd.prog yid (dD d b k0 m n er).y.toSpec:=by
 refine Lp.y_sound (CC hw hb) fun s hs _=>?_
 have hΓ:=adx
 have hP:=be
 obtain⟨qE,xf,hf,bD,D8,L9,L8⟩:=qZ hb
 have gE:s<n:=hs
 obtain⟨n1,n2,n3⟩:=CB hw
 have o4:s<=m:=by omega
 have hlen:k0+s<b.ps.length:=by omega
 obtain⟨S,hS⟩:∃ S,S=oT d b (k0+s):=⟨_,rfl⟩
 obtain⟨P,pr⟩:∃ P,P=b.ps[k0+s]:=⟨_,rfl⟩
 have Ay:pJ b.fr.toNat S:=by rw[hS];exact hI _ (by omega)
 have DY:=Ay.ri;have h40:=Ay.len;have uP:=Ay.t0;have Ma:=Ay.t1
 have ahJ:S.ho.length<=1000:=by omega
 have w1:IntKind.i64.wrap (S.ta.get b.fr.toNat+1)=S.ta.get b.fr.toNat+1:=wrap_i64 (by omega) (by omega)
 have qn:dL d b k0 m s=S:=by rw[hS];unfold dL;rw[Nat.min_eq_left o4]
 have MF:gQ d b k0 m s=S.ho:=by rw[hS];unfold gQ;rw[if_pos o4,Nat.min_eq_left o4]
 have MM:jC m er s=0:=if_pos o4
 have mD:(dD d b k0 m n er).vals s=[rH P]:=by
  show [rH (b.ps.getD (k0+s) default)]=_
  rw[getD_at hlen,pr]
 have Z2:bu S.ho P.pa=true->(dD d b k0 m n er).st s=some .ret/\dL d b k0 m (s+1)=S/\gQ d b k0 m (s+1)=S.ho/\jC m er (s+1)=96:=fun hh=>by
  have ja:s=m:=by
   rcases Nat.lt_or_ge s m with h1 | h1
   ·have h2:=(hw.good s h1 hlen)
    rw[<-hS,<-pr]at h2
    rw[Jg _ _ _ h2.1 hh]at h2
    exact absurd h2.2 (by decide)
   ·omega
  subst ja
  have al:er≠0:=by rcases hw.hn with⟨_,h1,_⟩ | ⟨h1,_,_⟩<;>first | exact h1 | omega
  have h2:=hw.bad al hlen
  rw[<-hS,<-pr]at h2
  rw[Jg _ _ _ h2.1 hh]at h2
  refine⟨if_neg (Nat.lt_irrefl _),?_,?_,?_⟩
  ·rw[hS];unfold dL;rw[Nat.min_eq_right (Nat.le_succ _)]
  ·unfold gQ;rw[if_neg (by omega),getD_at hlen,<-hS,<-pr,Cp hh]
  ·unfold jC;rw[if_neg (by omega)];exact h2.2.symm
 have Z1:bu S.ho P.pa=false->40<(b8 S.ho P.pa).length->(dD d b k0 m n er).st s=some .ret/\dL d b k0 m (s+1)=S/\gQ d b k0 m (s+1)=b8 S.ho P.pa/\jC m er (s+1)=2:=fun hh hl=>by
  have ja:s=m:=by
   rcases Nat.lt_or_ge s m with h1 | h1
   ·have h2:=(hw.good s h1 hlen)
    rw[<-hS,<-pr]at h2
    rw[Jf _ _ _ h2.1 hh hl]at h2
    exact absurd h2.2 (by decide)
   ·omega
  subst ja
  have al:er≠0:=by rcases hw.hn with⟨_,h1,_⟩ | ⟨h1,_,_⟩<;>first | exact h1 | omega
  have h2:=hw.bad al hlen
  rw[<-hS,<-pr]at h2
  rw[Jf _ _ _ h2.1 hh hl]at h2
  refine⟨if_neg (Nat.lt_irrefl _),?_,?_,?_⟩
  ·rw[hS];unfold dL;rw[Nat.min_eq_right (Nat.le_succ _)]
  ·unfold gQ;rw[if_neg (by omega),getD_at hlen,<-hS,<-pr,Cq hh]
  ·unfold jC;rw[if_neg (by omega)];exact h2.2.symm
 have Z0:bu S.ho P.pa=false->¬ 40<(b8 S.ho P.pa).length->(dD d b k0 m n er).st s=none/\dL d b k0 m (s+1)=⟨b8 S.ho P.pa,S.un,S.se,S.ta.set b.fr.toNat (S.ta.get b.fr.toNat+1)⟩/\gQ d b k0 m (s+1)=b8 S.ho P.pa/\jC m er (s+1)=0:=fun hh hl=>by
  have ja:s<m:=by
   rcases Nat.lt_or_ge s m with h1 | h1
   ·exact h1
   ·have ja:s=m:=by omega
    subst ja
    have al:er≠0:=by rcases hw.hn with⟨_,h1,_⟩ | ⟨h1,_,_⟩<;>first | exact h1 | omega
    have h2:=hw.bad al hlen
    rw[<-hS,<-pr]at h2
    rw[Je _ _ _ h2.1 hh hl]at h2
    exact absurd h2.2.symm al
  have h2:=(hw.good s ja hlen).1
  have h3:=HR b.fr.toNat b.ps (bO d b) hlen h2
  have h4:oT d b (k0+(s+1))=⟨b8 S.ho P.pa,S.un,S.se,S.ta.set b.fr.toNat (S.ta.get b.fr.toNat+1)⟩:=by
   rw[hS,pr];exact h3
  have h5:dL d b k0 m (s+1)=oT d b (k0+(s+1)):=by unfold dL;rw[Nat.min_eq_left ja]
  refine⟨if_pos ja,h5.trans h4,?_,if_pos ja⟩
  unfold gQ;rw[if_pos (show s+1<=m from ja),Nat.min_eq_left (show s+1<=m from ja),h4]
 have qE:(dD d b k0 m n er).fam (LR 7) s=[.box ((an zD).map .v),.box [.v (vInt 0)],.box [.ref [3,1] 0],.box (bq (d.setN S) [4,1] S.ho.length),.arr 1 (S.ho.map vInt),.box ((aX b).map .v),.box [.ref [3,1] (14+b.fr.toNat)]]:=by
  show [O.box ((an zD).map .v),.box [.v (vInt (jC m er s))],.box [.ref [3,1] 0],.box (bq (d.setN (dL d b k0 m s)) [4,1] (dL d b k0 m s).ho.length),.arr 1 ((gQ d b k0 m s).map vInt),.box ((aX b).map .v),.box [.ref [3,1] (14+b.fr.toNat)]]=_
  rw[qn,MF,MM]
 have qD:(dD d b k0 m n er).fam (LR 7) (s+1)=[.box ((an zD).map .v),.box [.v (vInt (jC m er (s+1)))],.box [.ref [3,1] 0],.box (bq (d.setN (dL d b k0 m (s+1))) [4,1] (dL d b k0 m (s+1)).ho.length),.arr 1 ((gQ d b k0 m (s+1)).map vInt),.box ((aX b).map .v),.box [.ref [3,1] (14+b.fr.toNat)]]:=rfl
 have Zy:(dD d b k0 m n er).m=7:=rfl
 rw[Zy,qE,qD,mD]
 clear qD qn MF MM
 generalize dL d b k0 m (s+1)=S1 at *
 generalize gQ d b k0 m (s+1)=L1 at *
 generalize jC m er (s+1)=E1 at *
 generalize hx:(dD d b k0 m n er).st s=X1 at *
 generalize o5:[O.box ((an zD).map .v),.box [.v (vInt 0)],.box [.ref [3,1] 0],.box (bq (d.setN S) [4,1] S.ho.length),.arr 1 (S.ho.map vInt),.box ((aX b).map .v),.box [.ref [3,1] (14+b.fr.toNat)]]=os
 have hO:∀ hs,b7 [0] (bT [0] hs) (aW os)=True:=by
  subst o5
  refine fun hs=>eq_true (wk ?_ hs)
  intro o ho dom hd
  simp only[List.mem_cons,List.not_mem_nil,or_false]at ho
  rcases ho with rfl | rfl | rfl | rfl | rfl | rfl | rfl<;>simp[O.clos,D.closL,D.clos,qX,xR,hd]
 have h0:aW os [0,1]=some (.box ((an zD).map .v)):=by subst o5;rfl
 have h1:aW os [1,1]=some (.box [.v (vInt 0)]):=by subst o5;rfl
 have h2:aW os [2,1]=some (.box [.ref [3,1] 0]):=by subst o5;rfl
 have h3:aW os [3,1]=some (.box (bq (d.setN S) [4,1] S.ho.length)):=by subst o5;rfl
 have h4:aW os [4,1]=some (.arr 1 (S.ho.map vInt)):=by subst o5;rfl
 have h5:aW os [5,1]=some (.box ((aX b).map .v)):=by subst o5;rfl
 have h6:aW os [6,1]=some (.box [.ref [3,1] (14+b.fr.toNat)]):=by subst o5;rfl
 generalize hH:aW os=H at *
 clear o5 hH qE
 have gT:=PS hO
 have gh:True:=trivial
 have Zc:yD Tryd.f18=(_,_,_):=rfl
 refine vx (Ri 106 [0] H [(3,⟨true,.v (.ptr (aX b))⟩),(4,⟨true,.ref [0,1] 0⟩),(5,⟨true,.ref [1,1] 0⟩),(7,⟨true,.ref [2,1] 0⟩),(59,⟨true,rH P⟩)] [] rfl rfl (fun _ _=>rfl) ?_ (by simp) ?_ ?_) ?_
 ·intro q hq
  simp only[List.mem_cons,List.not_mem_nil,or_false]at hq
  rcases hq with rfl | rfl | rfl | rfl | rfl<;>rfl
 ·simp[D.clos,D.closL,bT,own,rH]
 ·rw[hO];trivial
 simp only[dD,Zc,rH]
 refine jm ?_
 repeat refine sq ?_
 refine aP hΓ fun K' hK=>?_
 simp only[go_sem,hO,h0,h1,h2,h3,h4]
 repeat (refine⟨ah,?_⟩)
 refine hK _ ?_
 clear K' hK
 try simp only[go_sem]
 (show CW _ _ _ _)
 refine jm ?_
 repeat refine sq ?_
 refine aN ?_
 repeat refine sq ?_
 refine dx hΓ hP [[],[0],[0,1],[0,1,2],[0,1,2,3],[0,1,2,3,4],[],[6],[0,1,2,3,4,5,6,7],[0,1,2,3,4,5,6,7,8],[0,1,2,3,4,5,6,7,8,9],[0,1,2,3,4,5,6,7,8,9],[0,1,2,3,4,5,6,7,8,9,10],[0,1,2,3,4,5,6,7,8,9,10,11,12]] [3,4,5,7,9,10] [[3,0],[4,0],[5,0],[7,0]] (by kernel_rfl) (fun K' hK=>by simp only[go_sem,hO,gT,gh,h0,h1,h2,h3,h4];(repeat (refine⟨ah,?_⟩));(first | refine⟨by rfl,?_⟩ | skip);exact hK _ (by simp only[go_sem,hO,gT,gh,h0,h1,h2,h3,h4]) (by simp only[go_sem,hO,gT,gh,h0,h1,h2,h3,h4]<;>rfl)) ?_
 obtain⟨H2,kM⟩:∃ H2,upd H [4,1] (some (O.arr 1 (List.map vInt (jL S.ho P.pa))))=H2:=⟨_,rfl⟩
 rw[kM]
 replace hO:=PS hO
 replace hO:∀ hs,b7 [0] (bT [0] hs) H2=True:=fun hs=>by rw[<-kM];exact hO _ _ _
 replace gT:True:=trivial
 have gh:=ac' hO
 replace h0:=(show H2 [0,1]=H [0,1]by rw[<-kM,aI _ _ _ (by decide)]).trans h0
 replace h1:=(show H2 [1,1]=H [1,1]by rw[<-kM,aI _ _ _ (by decide)]).trans h1
 replace h2:=(show H2 [2,1]=H [2,1]by rw[<-kM,aI _ _ _ (by decide)]).trans h2
 replace h3:=(show H2 [3,1]=H [3,1]by rw[<-kM,aI _ _ _ (by decide)]).trans h3
 replace h4:H2 [4,1]=some (O.arr 1 (List.map vInt (jL S.ho P.pa))):=by rw[<-kM,aE]
 replace h5:=(show H2 [5,1]=H [5,1]by rw[<-kM,aI _ _ _ (by decide)]).trans h5
 replace h6:=(show H2 [6,1]=H [6,1]by rw[<-kM,aI _ _ _ (by decide)]).trans h6
 clear kM
 repeat refine sq ?_
 refine aN ?_
 repeat refine sq ?_
 refine rx hΓ [3,4,5,7,9,72] [[3,0],[4,0],[5,0],[7,0]] (fun K' hK=>by simp only[go_sem,hO,gT,gh,h0,h1,h2,h3,h4];(repeat (refine⟨ah,?_⟩));exact hK _ (by simp only[go_sem,hO,gT,gh,h0,h1,h2,h3,h4]) (by simp only[go_sem,hO,gT,gh,h0,h1,h2,h3,h4]<;>rfl)) ?_
 repeat refine sq ?_
 refine au rfl rfl (fun hb=>?_) (fun hb=>?_)
 ·repeat refine sq ?_
  have hh:bu S.ho P.pa=true:=by simpa using hb
  obtain⟨g1,g2,g3,g4⟩:=Z2 hh
  refine OO hΓ fun K' hK=>?_
  simp only[go_sem,hO,gT,gh,h0,h1,h2,h3,h4]
  repeat (refine⟨ah,?_⟩)
  refine hK _ ?_
  clear K' hK
  refine aL (BH [0,1] _ (an zD) rfl rfl) ?_
  refine ar ?_
  simp only[go_sem,hO,gT,gh,h0,h1,h2,h3,h4]
  rw[g1,g2,g3,g4]
  refine⟨rfl,?_⟩
  rw[Cp hh]at h4
  show dj _ [[0,1],[1,1],[2,1],[3,1],[4,1],[5,1],[6,1]] _
  simp only[dj,go_sem,h0,h1,h2,h3,h4,h5,h6]
  try trivial
 ·repeat refine sq ?_
  have hh:bu S.ho P.pa=false:=by simpa using hb
  have ss:=Cq hh
  repeat refine sq ?_
  refine rx hΓ [3,4,5,7,9,76] [[3,0],[4,0],[5,0],[7,0]] (fun K' hK=>by simp only[go_sem,hO,gT,gh,h0,h1,h2,h3,h4,List.length_map];(repeat (refine⟨ah,?_⟩));exact hK _ (by simp only[go_sem,hO,gT,gh,h0,h1,h2,h3,h4,List.length_map]) (by simp only[go_sem,hO,gT,gh,h0,h1,h2,h3,h4,List.length_map]<;>rfl)) ?_
  repeat refine sq ?_
  refine au rfl rfl (fun hb=>?_) (fun hb=>?_)
  ·repeat refine sq ?_
   have hl:40<(b8 S.ho P.pa).length:=by have h9:=of_decide_eq_true hb;rw[ss]at h9;omega
   obtain⟨g1,g2,g3,g4⟩:=Z1 hh hl
   refine OO hΓ fun K' hK=>?_
   simp only[go_sem,hO,gT,gh,h0,h1,h2,h3,h4]
   repeat (refine⟨ah,?_⟩)
   refine hK _ ?_
   clear K' hK
   refine aL (BH [0,1] _ (an zD) rfl rfl) ?_
   refine ar ?_
   simp only[go_sem,hO,gT,gh,h0,h1,h2,h3,h4]
   rw[g1,g2,g3,g4]
   refine⟨rfl,?_⟩
   rw[ss]at h4
   show dj _ [[0,1],[1,1],[2,1],[3,1],[4,1],[5,1],[6,1]] _
   simp only[dj,go_sem,h0,h1,h2,h3,h4,h5,h6]
   try trivial
  ·repeat refine sq ?_
   have hl:¬ 40<(b8 S.ho P.pa).length:=by have h9:=of_decide_eq_false hb;rw[ss]at h9;omega
   obtain⟨g1,g2,g3,g4⟩:=Z0 hh hl
   refine ax ?_
   refine cM ?_
   simp only[go_sem]
   refine kS [3,4,5,7,9] [[3,0],[4,0],[5,0],[7,0]] ?_ ?_
   ·simp only[go_sem,hO,gT,gh,h0,h1,h2,h3,h4]
   simp only[go_sem,hO,gT,gh,h0,h1,h2,h3,h4]
   repeat refine sq ?_
   refine rx hΓ [3,4,5,7] [[3,0],[4,0],[5,0],[7,0]] (fun K' hK=>by simp only[go_sem,hO,gT,gh,h0,h1,h2,h3,h4];(repeat (refine⟨ah,?_⟩));exact hK _ (by simp only[go_sem,hO,gT,gh,h0,h1,h2,h3,h4]) (by simp only[go_sem,hO,gT,gh,h0,h1,h2,h3,h4]<;>rfl)) ?_
   obtain⟨H3,kL⟩:∃ H3,upd H2 [3,1] (some (O.box (bq (d.setN S) [4,1] (jL S.ho P.pa).length)))=H3:=⟨_,rfl⟩
   rw[kL]
   replace hO:∀ hs,b7 [0] (bT [0] hs) H3=True:=fun hs=>by rw[<-kL];exact gh _ _ _
   replace gh:True:=trivial
   replace h0:=(show H3 [0,1]=H2 [0,1]by rw[<-kL,aI _ _ _ (by decide)]).trans h0
   replace h1:=(show H3 [1,1]=H2 [1,1]by rw[<-kL,aI _ _ _ (by decide)]).trans h1
   replace h2:=(show H3 [2,1]=H2 [2,1]by rw[<-kL,aI _ _ _ (by decide)]).trans h2
   replace h3:H3 [3,1]=some (O.box (bq (d.setN S) [4,1] (jL S.ho P.pa).length)):=by rw[<-kL,aE]
   replace h4:=(show H3 [4,1]=H2 [4,1]by rw[<-kL,aI _ _ _ (by decide)]).trans h4
   replace h5:=(show H3 [5,1]=H2 [5,1]by rw[<-kL,aI _ _ _ (by decide)]).trans h5
   replace h6:=(show H3 [6,1]=H2 [6,1]by rw[<-kL,aI _ _ _ (by decide)]).trans h6
   clear kL
   repeat refine sq ?_
   refine Gy hΓ hP [[],[],[1],[0],[0,3],[0,3,4],[0,3,4,5],[0,1,2,3,4,5,6],[0,1,2,3,4,5,6,7],[0,1,2,3,4,5,6,7,8],[0],[0,10],[0,10,11],[0,10,11,12],[0,1,2,3,4,5,6,7,8,9,10,11,12,13],[0,1,2,3,4,5,6,7,8,9,10,11,12,13,14]] (by kernel_rfl) fun K' hK=>?_
   simp only[go_sem,hO,gT,gh,h0,h1,h2,h3,h4,tv _ _ _ hf,acn _ _ _ _ hf,w1,qE,xf]
   repeat (refine⟨ah,?_⟩)
   first | refine⟨by rfl,?_⟩ | skip
   refine hK _ ?_
   clear K' hK
   try simp only[go_sem]
   refine cM ?_
   rw[g1,g2,g3,g4]
   refine⟨rfl,?_⟩
   rw[ss]at h4 |-
   show dj _ [[0,1],[1,1],[2,1],[3,1],[4,1],[5,1],[6,1]] _
   simp only[dj,go_sem,h0,h1,h2,h3,h4,h5,h6]
   try trivial
def yX(Ls:List Name):List D:=[.ref (Ls.getD 5 []) 0,.ref (Ls.getD 6 []) 0]
theorem Va(d:Dk)(b:Bag)(k0 m n:Nat)(er:Int):Ha (dD d b k0 m n er) yX where
 ren:=fun f Ls h=>by obtain⟨x1,x2,x3,x4,x5,x6,x7,rfl⟩:=qa h;rfl
 clo:=fun dom Ls h hd=>by
  obtain⟨a,c,e,f,g,x,y,rfl⟩:=qa h
  have h4:=hd x (by simp)
  have h5:=hd y (by simp)
  simp[yX,D.closL,D.clos,h4,h5]
 reach:=fun Ls s obj R k h jc hF hR=>by
  obtain⟨a,c,e,f,g,x,y,rfl⟩:=qa h
  obtain⟨h1,h2,h3,h4,h5,h6,h7,_⟩:=hF
  simp only[List.getD_cons_zero,List.getD_cons_succ]at h1 h2 h3 h4 h5 h6 h7
  have en:cU (((dD d b k0 m n er).env [a,c,e,f,g,x,y]).map (·.d))=[a,c,e,x,y]:=rfl
  have hR':obj R=some (.loop ((dD d b k0 m n er).env [a,c,e,f,g,x,y]) (dD d b k0 m n er).ps (dD d b k0 m n er).asg (dD d b k0 m n er).body .ready none):=hR
  clear hR
  generalize (dD d b k0 m n er).env [a,c,e,f,g,x,y]=EV at *
  have ec:cU (yX [a,c,e,f,g,x,y])=[x,y]:=rfl
  rw[ec]
  show dO obj (k+190+1+1+1+1+1+1+1+1+1+1+1) [R,x,y] []=_
  simp only[List.nodup_cons,List.mem_cons,List.not_mem_nil,or_false,not_or,not_false_eq_true,List.nodup_nil,and_true]at jc
  obtain⟨⟨d1,d2,d3,d4,d5,d6,d7⟩,⟨a1,a2,a3,a4,a5,a6⟩,⟨b1,b2,b3,b4,b5⟩,⟨c1,c2,c3,c4⟩,⟨e1,e2,e3⟩,⟨f1,f2⟩,g1⟩:=jc
  simp[dO,ic,hR',en,h1,h2,h3,h4,h5,h6,h7,my,cU,rX,ze,zf,Ne.symm d1,Ne.symm d2,Ne.symm d3,Ne.symm d4,Ne.symm d5,Ne.symm d6,Ne.symm d7,Ne.symm a1,Ne.symm a2,Ne.symm a3,Ne.symm a4,Ne.symm a5,Ne.symm a6,Ne.symm b1,Ne.symm b2,Ne.symm b3,Ne.symm b4,Ne.symm b5,Ne.symm c1,Ne.symm c2,Ne.symm c3,Ne.symm c4,Ne.symm e1,Ne.symm e2,Ne.symm e3,Ne.symm f1,Ne.symm f2,Ne.symm g1]
theorem yW{d:Dk}{b:Bag}{k0 m n:Nat}{er:Int}(hw:mj d b k0 m n er):∀ j,j+1<(dD d b k0 m n er).n->(dD d b k0 m n er).st j=none:=fun j hj=>by
 have h1:=(CB hw).2.1
 have e7:j+1<n:=hj
 exact if_pos (by omega)
theorem Uh{d:Dk}{b:Bag}{k0 m n:Nat}{er:Int}(hw:mj d b k0 m n er)(hb:fK b=true)(hI:∀ z,z<=k0+m->pJ b.fr.toNat (oT d b z)):ak Tryd.prog 73 ((dD d b k0 m n er).itC yX).toSpec:=by
 have aa:=CC hw hb
 have bG:=yW hw
 obtain⟨qE,xf,hf,bD,D8,L9,L8⟩:=qZ hb
 obtain⟨c,hc,h⟩:=Rz (U2 hw hb hI) hw hf bD (fun z hz=>⟨(hI z hz).t0,(hI z hz).t1⟩) (J:=(dD d b k0 m n er).J) (fun s=>by rw[Lp.J_len aa,Lp.J_len aa]) (fun s=>Lp.J_clos aa s)
  (fun s=>rfl) (fun s=>rfl) (e:=fun s=>d.setN (dL d b k0 m s)) (q:=fun s=>(dL d b k0 m s).ho.length) (fun s=>rfl)
  (fun s hs=>by show (dL d b k0 m s).ta.get _=_;unfold dL;rw[Nat.min_eq_left hs])
  (fun s hs obj tm ho=>by
    have h1:=Lp.y_setJ aa bG (s:=s) hs obj tm ho
    have h2:((dD d b k0 m n er).st s).isNone=decide (s<m):=by
     show (if s<m then(none:Option Code)else some .ret).isNone=_
     by_cases h3:s<m
     ·rw[if_pos h3,decide_eq_true h3];rfl
     ·rw[if_neg h3,decide_eq_false h3];rfl
    rw[h2]at h1
    exact h1)
 refine Lp.itJ_sound aa bG Tryd.func73 Tryd.ntmps73 (by rfl) (by kernel_rfl) (by decide) ⟨c,hc,lb rfl,?_⟩
 exact h
theorem WX(b:Bag)(l:List Par):gC (fh b) l=fe l b.ta l.length:=by
 unfold gC fe
 rw[List.take_length]
 congr 1
 funext p
 unfold fh
 by_cases h:p.no<=b.ta
 ·rw[decide_eq_true h,decide_eq_false (show ¬ p.no>b.ta by omega)];rfl
 ·rw[decide_eq_false h,decide_eq_true (show p.no>b.ta by omega)];rfl
theorem UG(b:Bag):∃ j,j<6/\(fK b=true->b.fr.toNat=j):=by
 by_cases h:b.fr.toNat<6
 ·exact⟨b.fr.toNat,h,fun _=>rfl⟩
 ·exact⟨0,by omega,fun hk=>absurd (qZ hk).2.2.1 h⟩
theorem Np{b:Bag}{e:Dk}{n off:Nat}{l:List V}{obj:Name->Option O}{t nm h:Name}(h1:obj nm=some (.box (bq e h n)))(h2:obj h=some (.arr 1 l))(hn:nm≠h):
 S66.foot obj t [.v (.agg (aX b)),.ref nm off]=[nm,h]++[]++[[2,0]++t,[3,0]++t]/\S66.wrt obj t [.v (.agg (aX b)),.ref nm off]=[[2,0]++t,[3,0]++t]:=by
 have hr:reach obj [.v (.agg (aX b)),.ref nm off]=[nm,h]:=by
  unfold reach
  show dO obj (2996+1+1+1+1) [nm] []=[nm,h]
  simp[dO,ic,h1,h2,my,zf,Ne.symm hn]
 have fQ:∀ os p,xv.out os [.v (.agg (aX b)),p]=⟨[],mR (.agg (aX b)) p,.clo (.func 73) [] [.ref [2,0] 0,.ref [3,0] 0]⟩:=fun _ _=>rfl
 have e2:cO obj [.v (.agg (aX b)),.ref nm off]=[.v (.agg (aX b)),.ref (cin [nm,h] nm) off]:=by
  unfold cO
  rw[hr]
  simp only[D.renL,D.ren]
 simp only[S66,CSpec.toSpec,hr,e2,fQ,mR,List.map_nil,List.map_cons,List.nil_append,and_self]
noncomputable def Qf(j:Nat):List (Nat×Spec):=[(39,S23),(47,S40),(43,Br j),(48,S64),(50,S66)]
attribute [go_sem] Qf
theorem adw{j:Nat}(hj:j<6):∀ f s,tbl (Qf j) f=some s->ak Tryd.prog f s:=tc oX<|tc X0<|tc (LA j hj)<|tc XQ<|tc XO<|tn
@[go_sem] theorem aji(b:Bag):List.take 4 (aX b)=aX b:=rfl
theorem U7{d:Dk}{b:Bag}{k0 m n:Nat}{er:Int}(hw:mj d b k0 m n er)(Ls:List Name):(dD d b k0 m n er).fam Ls 0=[.box ((an zD).map .v),.box [.v (vInt 0)],.box [.ref (Ls.getD 3 []) 0],.box (bq (d.setN (bO d b)) (Ls.getD 4 []) d.now.ho.length),.arr 1 (d.now.ho.map vInt),.box ((aX b).map .v),.box [.ref (Ls.getD 3 []) (14+b.fr.toNat)]]:=by
 have t0:oT d b k0=bO d b:=hw.T0 k0 (Nat.le_refl _)
 have h1:dL d b k0 m 0=bO d b:=by unfold dL;rw[Nat.zero_min,Nat.add_zero];exact t0
 have h2:gQ d b k0 m 0=d.now.ho:=by unfold gQ;rw[if_pos (Nat.zero_le _),Nat.zero_min,Nat.add_zero,t0];rfl
 have h3:jC m er 0=0:=if_pos (Nat.zero_le _)
 show [O.box ((an zD).map .v),.box [.v (vInt (jC m er 0))],.box [.ref (Ls.getD 3 []) 0],.box (bq (d.setN (dL d b k0 m 0)) (Ls.getD 4 []) (dL d b k0 m 0).ho.length),.arr 1 ((gQ d b k0 m 0).map vInt),.box ((aX b).map .v),.box [.ref (Ls.getD 3 []) (14+b.fr.toNat)]]=_
 rw[h1,h2,h3]
 rfl
theorem U5{d:Dk}{b:Bag}{k0 m:Nat}{er:Int}(Ls:List Name):(dD d b k0 m m er).fam Ls m=[.box ((an zD).map .v),.box [.v (vInt 0)],.box [.ref (Ls.getD 3 []) 0],.box (bq (d.setN (oT d b (k0+m))) (Ls.getD 4 []) (oT d b (k0+m)).ho.length),.arr 1 ((oT d b (k0+m)).ho.map vInt),.box ((aX b).map .v),.box [.ref (Ls.getD 3 []) (14+b.fr.toNat)]]:=by
 have h1:dL d b k0 m m=oT d b (k0+m):=by unfold dL;rw[Nat.min_self]
 have h2:gQ d b k0 m m=(oT d b (k0+m)).ho:=by unfold gQ;rw[if_pos (Nat.le_refl _),Nat.min_self]
 have h3:jC m er m=0:=if_pos (Nat.le_refl _)
 show [O.box ((an zD).map .v),.box [.v (vInt (jC m er m))],.box [.ref (Ls.getD 3 []) 0],.box (bq (d.setN (dL d b k0 m m)) (Ls.getD 4 []) (dL d b k0 m m).ho.length),.arr 1 ((gQ d b k0 m m).map vInt),.box ((aX b).map .v),.box [.ref (Ls.getD 3 []) (14+b.fr.toNat)]]=_
 rw[h1,h2,h3]
theorem U6{d:Dk}{b:Bag}{k0 m:Nat}{er:Int}(Ls:List Name):∃ X Y,(dD d b k0 m (m+1) er).fam Ls (m+1)=[.box ((an zD).map .v),.box [.v (vInt er)],.box [.ref (Ls.getD 3 []) 0],.box (bq X (Ls.getD 4 []) Y),.arr 1 ((gQ d b k0 m (m+1)).map vInt),.box ((aX b).map .v),.box [.ref (Ls.getD 3 []) (14+b.fr.toNat)]]:=by
 have h3:jC m er (m+1)=er:=if_neg (by omega)
 refine⟨d.setN (dL d b k0 m (m+1)),(dL d b k0 m (m+1)).ho.length,?_⟩
 show [O.box ((an zD).map .v),.box [.v (vInt (jC m er (m+1)))],.box [.ref (Ls.getD 3 []) 0],.box (bq (d.setN (dL d b k0 m (m+1))) (Ls.getD 4 []) (dL d b k0 m (m+1)).ho.length),.arr 1 ((gQ d b k0 m (m+1)).map vInt),.box ((aX b).map .v),.box [.ref (Ls.getD 3 []) (14+b.fr.toNat)]]=_
 rw[h3]
theorem U4{d:Dk}{b:Bag}{k0 m:Nat}{er:Int}(hw:mj d b k0 m m er):(dD d b k0 m m er).pd=none:=by
 obtain⟨_,h1,h2⟩:=Lp.last_e (yW hw)
 cases m with
 |zero=>exact h1 rfl
 |succ m=>rw[h2 m rfl];exact if_pos (Nat.lt_succ_self m)
theorem U3{d:Dk}{b:Bag}{k0 m:Nat}{er:Int}(hw:mj d b k0 m (m+1) er):(dD d b k0 m (m+1) er).pd=some .ret:=by
 obtain⟨_,h1,h2⟩:=Lp.last_e (yW hw)
 rw[h2 m rfl]
 exact if_neg (Nat.lt_irrefl m)
theorem O5(d:Dk)(s:Stk)(hn:Name)(n:Nat):(bq (d.setN s) hn n).set 1 (.v (.sl (s.ho.map vInt)))=List.map D.v (an (d.setN s)):=rfl
noncomputable def P16:PSpec:=p2 dE nM (fun d _=>eO d) (fun d b=>.tup [encDk (gL d b),vInt (gA d b)]) false
noncomputable def S16:Spec:=P16.toSpec
attribute [go_sem] P16 S16
set_option maxHeartbeats 8000000 in
theorem TY:aR Tryd.prog 18 P16:=by
 refine w2 (rs:=[.cell 4 44,.cell 5 45]) Tryd.func18 Tryd.ntmps18 (by rfl) (by kernel_rfl) (by decide) (fun h=>by cases h) ⟨_,rfl,lb rfl,fun d b hp hw=>?_⟩
 have hP:=be
 simp only[nM,dE]at hw |-
 obtain⟨j,hj,jW⟩:=UG b
 have hΓ:=adw hj
 have hs:eO d:=hp
 repeat refine sq ?_
 refine rx hΓ [2,3,4,5] [[2,0],[3,0],[4,0],[5,0]] (fun K' hK=>by simp only[go_sem];(repeat (refine⟨ah,?_⟩));exact hK _ (by simp only[go_sem]) (by simp only[go_sem]<;>rfl)) ?_
 refine aL (Hr 3 (.ref [3,0] 0) (by simp only[go_sem]) (by simp only[go_sem]) [2,3,4,5] [[2,0],[3,0],[4,0],[5,0]] ?_ rfl) ?_
 ·simp only[go_sem]
 simp only[go_sem]
 refine aL (oy [4,0] _ (an zD) rfl rfl [2,3,4,5] [[2,0],[3,0],[4,0],[5,0]] ?_ rfl) ?_
 ·simp only[go_sem]
 simp only[go_sem]
 refine aL (cG [2,0] (an d) rfl [2,3,4,5] [[2,0],[3,0],[4,0],[5,0]] ?_ rfl) ?_
 ·simp only[go_sem]
 simp only[go_sem]
 repeat refine sq ?_
 refine rx hΓ [2,3,4,5,6] [[2,0],[3,0],[4,0],[5,0]] (fun K' hK=>by simp only[go_sem];(repeat (refine⟨ah,?_⟩));exact hK _ (by simp only[go_sem]) (by simp only[go_sem]<;>rfl)) ?_
 repeat refine sq ?_
 refine rx hΓ [2,3,4,5,6,14] [[2,0],[3,0],[4,0],[5,0]] (fun K' hK=>by simp only[go_sem];(repeat (refine⟨ah,?_⟩));exact hK _ (by simp only[go_sem]) (by simp only[go_sem]<;>rfl)) ?_
 repeat refine sq ?_
 refine au rfl rfl (fun hb=>?_) (fun hb=>?_)
 ·repeat refine sq ?_
  have hd:=ti hb
  have hq:=Vf (b:=b) hd
  have e1:=kP hd
  repeat refine sq ?_
  refine rx hΓ [4,5] [[4,0],[5,0]] (fun K' hK=>by simp only[go_sem];(repeat (refine⟨ah,?_⟩));exact hK _ (by simp only[go_sem]) (by simp only[go_sem]<;>rfl)) ?_
  refine ar ?_
  simp only[go_sem]
  first | (rw[hq.1,hq.2];done) | (rw[hq.1,hq.2];rfl) | (rw[hq.1,hq.2,e1];done) | (rw[hq.1,hq.2,e1];rfl)
 ·repeat refine sq ?_
  have hd:=th hb
  refine ax ?_
  repeat refine sq ?_
  refine rx hΓ [2,3,4,5,26] [[2,0],[3,0],[4,0],[5,0]] (fun K' hK=>by simp only[go_sem,Nat.add_zero];(repeat (refine⟨ah,?_⟩));exact hK _ (by simp only[go_sem]) (by simp only[go_sem]<;>rfl)) ?_
  repeat refine sq ?_
  refine au rfl rfl (fun hb=>?_) (fun hb=>?_)
  ·repeat refine sq ?_
   have h1:jh d b=false:=by have h4:=Nt d b;unfold AE at h4;rw[hb]at h4;simpa using h4.symm
   have hq:=Vh hd h1
   repeat refine sq ?_
   refine rx hΓ [4,5] [[4,0],[5,0]] (fun K' hK=>by simp only[go_sem];(repeat (refine⟨ah,?_⟩));exact hK _ (by simp only[go_sem]) (by simp only[go_sem]<;>rfl)) ?_
   refine ar ?_
   simp only[go_sem]
   first | (rw[hq.1,hq.2];done) | (rw[hq.1,hq.2];rfl) | (rw[hq.1,hq.2,e1];done) | (rw[hq.1,hq.2,e1];rfl)
  ·repeat refine sq ?_
   have h1:jh d b=true:=by have h4:=Nt d b;unfold AE at h4;rw[hb]at h4;simpa using h4.symm
   have kJ:fK b=true:=by unfold jh at h1;rw[Bool.and_eq_true]at h1;exact h1.1
   obtain⟨qE,xf,hf,bD,D8,L9,L8⟩:=qZ kJ
   have qv:=jW kJ
   subst qv
   have wL:=(wo hd).unl b.fr.toNat hf
   have mP:=U9 (ta:=b.ta) hf hd
   have hI:=fun {z:Nat}=>Jc (z:=z) hf mP (fun p hp=>(D8 p hp).2.1)
   refine ax ?_
   repeat refine sq ?_
   refine rx hΓ [3,4,5,7] [[3,0],[4,0],[5,0],[7,0],[22,0,29,0],[12,0,5,0,29,0],[99,0,5,0,29,0]] (fun K' hK=>by simp only[go_sem,hs];(repeat (refine⟨ah,?_⟩));exact hK _ (by simp only[go_sem]) (by simp only[go_sem]<;>rfl)) ?_
   have E0:=acm d [12,0,5,0,29,0] [99,0,5,0,29,0] d.now.ho.length (d.now.un.get b.fr.toNat).length (d.now.se.get b.fr.toNat) (fe (d.now.un.get b.fr.toNat) b.ta (d.now.un.get b.fr.toNat).length) hf rfl
   replace E0:_=bq (d.setN (bO d b)) [12,0,5,0,29,0] d.now.ho.length:=E0
   have h66:∀ (F:Name->Option O),F [22,0,29,0]=some (.box (bq (d.setN (bO d b)) [12,0,5,0,29,0] d.now.ho.length))->F [12,0,5,0,29,0]=some (.arr 1 (d.now.ho.map vInt))->S66.app (fun nm=>if own [0] nm=true then F nm else none) [58,0] [.v (.agg (aX b)),.ref [22,0,29,0] (14+b.fr.toNat)]=⟨fresh (fun nm=>if own [0] nm=true then F nm else none) [58,0] (mR (.agg (aX b)) (.ref [22,0,29,0] (14+b.fr.toNat)))=true,.clo (.func 73) [] [.ref [2,0,58,0] 0,.ref [3,0,58,0] 0],upd (upd (fun nm=>if own [0] nm=true then F nm else none) [2,0,58,0] (some (.box ((aX b).map .v)))) [3,0,58,0] (some (.box [.ref [22,0,29,0] (14+b.fr.toNat)]))⟩:=fun F k1 k2=>aaQ (nm:=[22,0,29,0]) (h:=[12,0,5,0,29,0]) (by rw[<-k1];rfl) (by rw[<-k2];rfl) (by decide)
   have aaH:∀ (F:Name->Option O),F [22,0,29,0]=some (.box (bq (d.setN (bO d b)) [12,0,5,0,29,0] d.now.ho.length))->F [12,0,5,0,29,0]=some (.arr 1 (d.now.ho.map vInt))->S66.foot (fun nm=>if own [0] nm=true then F nm else none) [58,0] [.v (.agg (aX b)),.ref [22,0,29,0] (14+b.fr.toNat)]=[[22,0,29,0],[12,0,5,0,29,0],[2,0,58,0],[3,0,58,0]]:=fun F k1 k2=>(Np (nm:=[22,0,29,0]) (h:=[12,0,5,0,29,0]) (by rw[<-k1];rfl) (by rw[<-k2];rfl) (by decide)).1
   have aaG:∀ (F:Name->Option O),F [22,0,29,0]=some (.box (bq (d.setN (bO d b)) [12,0,5,0,29,0] d.now.ho.length))->F [12,0,5,0,29,0]=some (.arr 1 (d.now.ho.map vInt))->S66.wrt (fun nm=>if own [0] nm=true then F nm else none) [58,0] [.v (.agg (aX b)),.ref [22,0,29,0] (14+b.fr.toNat)]=[[2,0,58,0],[3,0,58,0]]:=fun F k1 k2=>(Np (nm:=[22,0,29,0]) (h:=[12,0,5,0,29,0]) (by rw[<-k1];rfl) (by rw[<-k2];rfl) (by decide)).2
   repeat refine sq ?_
   refine dx hΓ hP [[],[],[1],[],[],[4],[3],[3,6],[3,6,7],[3,6,7,8],[3,4,5,6,7,8,9],[3,4,5,6,7,8,9,10],[],[3,4,5,6,7,8,9,10,11,12],[0],[0,14],[0,14,15],[0,14,15,16],[0,1,2,3,4,5,6,7,8,9,10,11,12,13,14,15,16,17],[0,1,2,3,4,5,6,7,8,9,10,11,12,13,14,15,16,17,18]] [3,4,5,7] [[3,0],[4,0],[5,0],[7,0],[22,0,29,0],[12,0,5,0,29,0],[99,0,5,0,29,0]] (by kernel_rfl) (fun K' hK=>by simp only[go_sem,OW d _ _ _ _ hf,qE,xf,WX,E0];(repeat (refine⟨ah,?_⟩));(first | refine⟨by rfl,?_⟩ | skip);exact hK _ (by simp only[go_sem]) (by simp only[go_sem]<;>rfl)) ?_
   repeat refine sq ?_
   refine dx hΓ hP [[],[],[],[2],[1],[1,4],[1,4,5],[1,4,5,6],[1,2,3,4,5,6,7],[0,1,2,3,4,5,6,7,8]] [3,4,5,7,58] [[3,0],[4,0],[5,0],[7,0],[22,0,29,0],[12,0,5,0,29,0],[99,0,5,0,29,0],[2,0,58,0],[3,0,58,0]] (by kernel_rfl) (fun K' hK=>by simp only[go_sem,qE,xf,h66,aaH,aaG];(repeat (refine⟨ah,?_⟩));(first | refine⟨by rfl,?_⟩ | skip);exact hK _ (by simp only[go_sem]) (by simp only[go_sem]<;>rfl)) ?_
   repeat refine sq ?_
   refine aN ?_
   repeat refine sq ?_
   obtain⟨k0,m,n,er,hw⟩:=U0 (d:=d) kJ
   have hIw:∀ z,z<=k0+m->pJ b.fr.toNat (oT d b z):=fun z hz=>hI (Nat.le_trans hz hw.hk) (hw.er0 z hz)
   have aa:=CC hw kJ
   have iu:=Uh hw kJ hIw
   have bG:=yW hw
   have ZX:=U7 hw
   refine ab6 aa (Va d b k0 m n er) 200 201 (f:=73) (Ls:=[[4,0],[5,0],[7,0],[22,0,29,0],[12,0,5,0,29,0],[2,0,58,0],[3,0,58,0]]) rfl rfl (by decide) iu rfl rfl rfl rfl rfl rfl (by decide) (show ([200,0]:Name)∉[[4,0],[5,0],[7,0],[22,0,29,0],[12,0,5,0,29,0],[2,0,58,0],[3,0,58,0]]by decide) (by rw[ZX];exact⟨rfl,rfl,rfl,rfl,rfl,rfl,rfl,trivial⟩) fun o=>?_
   rw[(Lp.last_e bG).1]
   show uj _ { aT _ _ _ _ _ with obj:=upd (cA [[4,0],[5,0],[7,0],[22,0,29,0],[12,0,5,0,29,0],[2,0,58,0],[3,0,58,0]] ((dD d b k0 m n er).fam [[4,0],[5,0],[7,0],[22,0,29,0],[12,0,5,0,29,0],[2,0,58,0],[3,0,58,0]] n) _) _ _ } _
   rcases hw.hn with⟨MN,hn,uV⟩ | ⟨al,hn,uV⟩
   ·subst hn
    rw[U4 hw,U5,uV]
    have ET:=hw.er0 (k0+n) (Nat.le_refl _)
    rw[uV]at ET
    have hq:=CD hd h1 ET
    simp only[uj,gr]
    refine cM ?_
    show CL Tryd.prog (_::_) _ _
    refine kS [4,5,7] [[4,0],[5,0],[7,0],[22,0,29,0],[12,0,5,0,29,0]] ?_ ?_
    ·simp only[go_sem,cA]
    simp only[go_sem,cA]
    refine aL (ey [22,0,29,0] [12,0,5,0,29,0] 1 _ _ _ _ rfl (acp _ _ _) rfl (by simp only[List.length_map]) [4,5,7] [[4,0],[5,0],[7,0],[22,0,29,0]] ?_ rfl) ?_
    ·simp only[go_sem,O5]
    simp only[go_sem,O5]
    repeat refine sq ?_
    refine rx hΓ [4,5] [[4,0],[5,0]] (fun K' hK=>by simp only[go_sem];(repeat (refine⟨ah,?_⟩));exact hK _ (by simp only[go_sem]) (by simp only[go_sem]<;>rfl)) ?_
    refine ar ?_
    simp only[go_sem]
    rw[hq.1,hq.2]
   ·subst hn
    have hq:=Vg hd h1 uV (hw.er0 (k0+m) (Nat.le_refl _)) (by rw[getD_at uV];exact(hw.bad al uV).2) al
    obtain⟨X,Y,hXY⟩:=U6 (d:=d) (b:=b) (k0:=k0) (m:=m) (er:=er) [[4,0],[5,0],[7,0],[22,0,29,0],[12,0,5,0,29,0],[2,0,58,0],[3,0,58,0]]
    rw[U3 hw,hXY]
    simp only[uj,gr]
    simp only[go_sem,cA]
    rw[hq.1,hq.2]
theorem LF:ak Tryd.prog 18 S16:=TY.sound
def YG:En (Int×Int×Int):=⟨fun n=>.agg [vInt n.1,vInt n.2.1,vInt n.2.2],fun v=>match v with | .agg [.int _ a,.int _ b,.int _ c]=>(a,b,c) | _=>(0,0,0)⟩
attribute [go_sem] YG
noncomputable def Qe:List (Nat×Spec):=[(14,S8),(15,S10),(16,S12),(31,S14),(18,S16),(10,S19)]
theorem ajT:∀ f s,tbl Qe f=some s->ak Tryd.prog f s:=tc k8<|tc LM<|tc LH<|tc LG<|tc LF<|tc LD<|tn
attribute [go_sem] Qe
structure Act where
 (kd dk pp to pi:Int)
 deriving Inhabited,DecidableEq
def kb(a:Act):List V:=[vInt a.kd,vInt a.dk,vInt a.pp,vInt a.to,vInt a.pi]
def sa:En Act:=⟨fun a=>.agg (kb a),fun v=>match v with | .agg [.int _ a,.int _ b,.int _ c,.int _ d,.int _ e]=>⟨a,b,c,d,e⟩ | _=>default⟩
def bV(n:Int):List Int:=[10*n+1,10*n+4,10*n+7]
def ia(l:List Int)(n:Int):Int:=if l=[]then 1 else l.getD (n % (l.length:Int)).toNat 0
theorem aaM{l:List Int}{i:Nat}(h:i<l.length):(l.map vInt).getD i default=vInt (l.getD i 0):=by
 simp[List.getD_eq_getElem?_getD,List.getElem?_eq_getElem h]
theorem UK{l:List Int}{n:Int}(h:l≠[]):ia l n=l.getD (n % (l.length:Int)).toNat 0:=if_neg h
noncomputable def P108:PSpec:=p1 iI (fun n=>0<=n/\n<6) (fun n=>.sl ((bV n).map vInt)) false
noncomputable def S108:Spec:=P108.toSpec
attribute [go_sem] P108 S108
theorem Uc:aR Tryd.prog 29 P108:=by
 refine w1 (rs:=[.tmp 2]) Tryd.func29 Tryd.ntmps29 (by rfl) (by kernel_rfl) (by decide) (fun h=>by cases h) ⟨_,rfl,lb rfl,fun n hp hw=>?_⟩
 have hP:=be
 simp only[iI]at hw |-
 have hΓ:=@kq Tryd.prog
 obtain⟨h0,h6⟩:=hp
 have w1:IntKind.i64.wrap (10*n)=10*n:=wrap_i64 (by omega) (by omega)
 have w2:IntKind.i64.wrap (10*n+1)=10*n+1:=wrap_i64 (by omega) (by omega)
 have w3:IntKind.i64.wrap (10*n+4)=10*n+4:=wrap_i64 (by omega) (by omega)
 have w4:IntKind.i64.wrap (10*n+7)=10*n+7:=wrap_i64 (by omega) (by omega)
 repeat refine sq ?_
 refine rs hΓ [0] [] ?_
 repeat refine sq ?_
 refine rx hΓ [2] [] (fun K' hK=>by simp only[go_sem,w1,w2,w3,w4];(repeat (refine⟨ob,?_⟩));exact hK _ (by simp only[go_sem]) (by simp only[go_sem]<;>rfl)) ?_
 refine ar ?_
 simp only[go_sem]
 first | rfl
theorem Ds:ak Tryd.prog 29 S108:=Uc.sound
noncomputable def Qd:List (Nat×Spec):=[(12,S21)]
theorem adv:∀ f s,tbl Qd f=some s->ak Tryd.prog f s:=tc zy<|tn
attribute [go_sem] Qd
noncomputable def P121:PSpec:=p2 eH iI (fun l _=>l.length<=1000000) (fun l n=>vInt (ia l n)) true
noncomputable def S121:Spec:=P121.toSpec
attribute [go_sem] P121 S121
theorem T4:aR Tryd.prog 61 P121:=by
 refine w2 (rs:=[.tmp 4]) Tryd.func61 Tryd.ntmps61 (by rfl) (by kernel_rfl) (by decide) (fun _ _ _=>rfl) ⟨_,rfl,lb rfl,fun l n hp hw=>?_⟩
 have hP:=be
 simp only[iI,eH]at hw |-
 have hΓ:=adv
 replace hp:l.length<=1000000:=hp
 repeat refine sq ?_
 refine rs hΓ [0,1] [] ?_
 repeat refine sq ?_
 refine rs hΓ [0,1,7] [] ?_
 repeat refine sq ?_
 refine au rfl rfl (fun hb=>?_) (fun hb=>?_)
 ·repeat refine sq ?_
  have e:l=[]:=by simpa using hb
  repeat refine sq ?_
  refine rs hΓ [4] [] ?_
  refine ar ?_
  simp only[go_sem]
  first | (subst e;rfl) | (rw[gp];done) | (rw[gp];rfl)
 ·repeat refine sq ?_
  have al:l≠[]:=by simpa using hb
  have bK:0<l.length:=List.length_pos_iff.2 al
  have hm:(0:Int)<(l.length:Int)/\(l.length:Int)<=1000000:=⟨by omega,by omega⟩
  have g0:=Int.emod_nonneg n (by omega:(l.length:Int)≠0)
  have g1:=Int.emod_lt_of_pos n hm.1
  have gk:(n % (l.length:Int)).toNat<l.length:=by omega
  have gd:=aaM gk
  have gp:=UK (n:=n) al
  refine ax ?_
  repeat refine sq ?_
  refine rx hΓ [4] [] (fun K' hK=>by simp only[go_sem,g0,g1,gk,gd];(repeat (refine⟨by first | exact hm | exact ob,?_⟩));exact hK _ (by simp only[go_sem]) (by simp only[go_sem]<;>rfl)) ?_
  refine ar ?_
  simp only[go_sem]
  first | (subst e;rfl) | (rw[gp];done) | (rw[gp];rfl)
theorem X6:ak Tryd.prog 61 S121:=T4.sound
@[go_sem] theorem ajB(a:Act):(kb a).length=5:=rfl
@[go_sem] theorem ajH(a:Act):(kb a).getD 0 default=vInt a.kd:=rfl
@[go_sem] theorem ajG(a:Act):(kb a).getD 1 default=vInt a.dk:=rfl
@[go_sem] theorem ajF(a:Act):(kb a).getD 2 default=vInt a.pp:=rfl
@[go_sem] theorem ajE(a:Act):(kb a).getD 3 default=vInt a.to:=rfl
@[go_sem] theorem ajD(a:Act):(kb a).getD 4 default=vInt a.pi:=rfl
@[go_sem] theorem ahA(a:Act):sa.dec (.agg (kb a))=a:=rfl
noncomputable def Qc:List (Nat×Spec):=[(61,S121)]
theorem adu:∀ f s,tbl Qc f=some s->ak Tryd.prog f s:=tc X6<|tn
attribute [go_sem] Qc
noncomputable def P109:PSpec:=p2 sa dE (fun _ d=>d.now.ho.length<=1000000) (fun a d=>vInt (ia d.now.ho a.pp)) true
noncomputable def S109:Spec:=P109.toSpec
attribute [go_sem] P109 S109
theorem Ub:aR Tryd.prog 30 P109:=by
 refine w2 (rs:=[.tmp 4]) Tryd.func30 Tryd.ntmps30 (by rfl) (by kernel_rfl) (by decide) (fun _ _ _=>rfl) ⟨_,rfl,lb rfl,fun a d hp hw=>?_⟩
 have hP:=be
 simp only[sa,dE]at hw |-
 have hΓ:=adu
 replace hp:d.now.ho.length<=1000000:=hp
 repeat refine sq ?_
 refine rs hΓ [2,3] [[2,0],[3,0]] ?_
 refine aL (cG [2,0] (kb a) rfl [2,3] [[2,0],[3,0]] ?_ rfl) ?_
 ·simp only[go_sem]
 simp only[go_sem]
 refine aL (cG [3,0] (an d) rfl [2,3] [[2,0],[3,0]] ?_ rfl) ?_
 ·simp only[go_sem]
 simp only[go_sem]
 repeat refine sq ?_
 refine rx hΓ [4] [] (fun K' hK=>by simp only[go_sem,hp];(repeat (refine⟨by first | exact hp | exact ob,?_⟩));exact hK _ (by simp only[go_sem]) (by simp only[go_sem]<;>rfl)) ?_
 refine ar ?_
 simp only[go_sem]
 skip
theorem LJ:ak Tryd.prog 30 S109:=Ub.sound
def CQ(d:Dk)(i:Nat):Bool:=((i:Int) != d.wet)&&aG d.me (d.pg i)
def oP(d:Dk):Nat->Int
 | 0=> -1
 |i+1=>if CQ d i=true then(if (d.pg i).co>oP d i then(d.pg i).co else oP d i)else oP d i
def oO(d:Dk):Int:=oP d 2
theorem ahc{d:Dk}{i:Nat}(h:CQ d i=true):oP d (i+1)=(if (d.pg i).co>oP d i then(d.pg i).co else oP d i):=if_pos h
theorem ahd{d:Dk}{i:Nat}(h:CQ d i=false):oP d (i+1)=oP d i:=if_neg (by rw[h];decide)
noncomputable def Qb:List (Nat×Spec):=[]
theorem ajS:∀ f s,tbl Qb f=some s->ak Tryd.prog f s:=tn
attribute [go_sem] Qb
structure Sx where
 ds:aS Dk
 bs:List Bag
def cP(x:Sx):List V:=an x.ds.a++(an x.ds.b++(an x.ds.c++(an x.ds.d++(an x.ds.e++(an x.ds.f++[.sl (x.bs.map fX)])))))
def zX:Sx:=⟨ek fun _=>zD,[]⟩
@[go_sem] theorem R3(x:Sx):(cP x).length=379:=by kernel_rfl
@[go_sem] theorem R4(x:Sx):(cP x).take 379=cP x:=by kernel_rfl
@[go_sem] theorem R1(x:Sx):((cP x).map D.v).length=379:=by rw[List.length_map];exact R3 x
@[go_sem] theorem agn(x:Sx):((cP x).map D.v).take 379=(cP x).map D.v:=by rw[<-List.map_take,R4]
@[go_sem] theorem agl(x:Sx):((cP x).map D.v).drop 379=[]:=by rw[List.drop_eq_nil_iff,R1];exact Nat.le_refl _
@[go_sem] theorem R5(x:Sx):(cP x).getD 378 default=.sl (x.bs.map fX):=by kernel_rfl
theorem HJ(x:Sx){i:Nat}(h:i<6):((cP x).drop (i*63)).take 63=an (x.ds.get i):=
 gK (P:=fun i=>((cP x).drop (i*63)).take 63=an (x.ds.get i)) (by kernel_rfl) (by kernel_rfl) (by kernel_rfl) (by kernel_rfl) (by kernel_rfl) (by kernel_rfl) h
theorem R0(x:Sx)(d:Dk){i:Nat}(h:i<6):List.take (i*63) (List.map D.v (cP x))++List.map D.v (an d)++List.drop (i*63+63) (List.map D.v (cP x))=List.map D.v (cP ⟨x.ds.set i d,x.bs⟩):=
 gK (P:=fun i=>List.take (i*63) (List.map D.v (cP x))++List.map D.v (an d)++List.drop (i*63+63) (List.map D.v (cP x))=List.map D.v (cP ⟨x.ds.set i d,x.bs⟩)) (by kernel_rfl) (by kernel_rfl) (by kernel_rfl) (by kernel_rfl) (by kernel_rfl) (by kernel_rfl) h
theorem agm(x:Sx)(l:List Bag):List.take 378 (List.map D.v (cP x))++[D.v (.sl (l.map fX))]++List.drop 379 (List.map D.v (cP x))=List.map D.v (cP ⟨x.ds,l⟩):=by kernel_rfl
def jn:Nat->Sx
 | 0=>zX
 |z+1=>⟨(jn z).ds.set z (p9 z (bV z)),[]⟩
theorem A3:∀ z,(jn z).bs=[]
 | 0=>rfl
 |_+1=>rfl
theorem ajn{i:Nat}(h:i<6):List.take (i*63) (List.map D.v (cP (jn i)))++List.map D.v (an (p9 i (bV i)))++List.drop (i*63+63) (List.map D.v (cP (jn i)))=List.map D.v (cP (jn (i+1))):=by
 rw[R0 _ _ h,A3];rfl
set_option maxRecDepth 100000
def p0(g:V)(fl:Bool):PSpec:=⟨fun xs=>xs=[],fun _=>g,fl⟩
theorem w0{P:Program}{f:FuncId}{fn:Func}{nt:Nat}{rs:List ResultVar}{g:V}{fl:Bool}(hf:P.funcs[f]?=some fn)(eK:fn.ntmps=nt)(eZ:fn.results.toList=rs)(hn:(fn.name== "runtime.NumGoroutine")=false)(hy:f<1000000000)
 (gF:fl=true->g.flat=true) (hb:∃ c,fn.body=some c/\0<=nt/\(True->V.wfL []->CL P [c] (aT nt [0] (fun _=>none) (gX 0 []) []) (pY P rs g))):aR P f (p0 g fl):=by
 obtain⟨c,hc,h1,h⟩:=hb
 refine we hf eK eZ hn hy (fun e xs _=>gF e) ⟨c,hc,fun xs hp hw=>?_⟩
 have zZ:xs=[]:=hp
 subst zZ
 exact⟨h1,h trivial hw⟩
noncomputable def Qa:List (Nat×Spec):=[(29,S108)]
theorem ajR:∀ f s,tbl Qa f=some s->ak Tryd.prog f s:=tc Ds<|tn
attribute [go_sem] Qa
end Go.Eng
set_option linter.constructorNameAsVariable false
namespace Go.Eng
open Go Go.Proofs
def g0(d:Dk):Bool:=(0 != d.wet)&&aG d.me d.pa
def g1(d:Dk):Bool:=(1 != d.wet)&&aG d.me d.pb
theorem aaU(d:Dk):fF d 0 (-1)=g0 d:=by
 show ((((0:Int) != d.wet)&&aG d.me d.pa)&&(decide ((-1:Int)<0)||decide ((d.pg 0).co>(d.pg (-1:Int).toNat).co)))=_
 rw[show decide ((-1:Int)<0)=true from rfl,Bool.true_or,Bool.and_true]
 rfl
theorem vl(d:Dk):bj d=if (g1 d&&(!g0 d||decide (d.pb.co>d.pa.co)))=true then 1 else if g0 d=true then 0 else -1:=by
 have h1:ck d 1=if g0 d=true then 0 else -1:=by
  show (if fF d 0 (-1)=true then((0:Nat):Int)else -1)=_
  rw[aaU];rfl
 have h2:fF d 1 (ck d 1)=(g1 d&&(!g0 d||decide (d.pb.co>d.pa.co))):=by
  rw[h1]
  unfold g1
  cases g0 d
  ·rw[if_neg (by decide)]
   rfl
  ·rw[if_pos rfl]
   rfl
 show (if fF d 1 (ck d 1)=true then((1:Nat):Int)else ck d 1)=_
 rw[h2,h1];rfl
theorem FE{d:Dk}(hw:d.wet=0)(h:aG d.me d.pb=true):bj d=1:=by
 rw[vl]
 have a:g0 d=false:=by unfold g0;rw[hw];rfl
 have b:g1 d=true:=by unfold g1;rw[hw,h];rfl
 rw[a,b];rfl
theorem FD{d:Dk}(hw:d.wet=1)(h:aG d.me d.pa=true):bj d=0:=by
 rw[vl]
 have a:g0 d=true:=by unfold g0;rw[hw,h];rfl
 have b:g1 d=false:=by unfold g1;rw[hw];rfl
 rw[a,b];rfl
theorem wg{me:Int}{s:Stk}{c:Int}(hs:fc me s)(hc:0<=c/\c<=99999):aG me ⟨c,s,dK s c⟩=true:=by
 unfold aG
 rw[Bool.and_eq_true,Bool.and_eq_true,cp,yt]
 exact⟨⟨hc,hs⟩,by simp⟩
theorem wh{me:Int}{p:Pg}(h:aG me p=true):fc me p.st:=by
 unfold aG at h
 simp only[Bool.and_eq_true]at h
 exact yt.1 h.1.2
theorem Hl{me c:Int}{s:Stk}{q:Pg}(hs:fc me s)(hc:0<=c/\c<=99999)(hq:aG me q=true)(ae:q.co<c):
 ay ⟨me,s,⟨c,s,dK s c⟩,q,0⟩=true/\aQ ⟨me,s,⟨c,s,dK s c⟩,q,0⟩=q.st/\eO ⟨me,s,⟨c,s,dK s c⟩,q,0⟩:=by
 have hp:=wg (c:=c) hs hc
 refine⟨gH.2 ⟨hs,⟨by show (-1:Int)<=0;omega,by show (0:Int)<=1;omega⟩,?_⟩,?_,⟨hs.sz,fun i hi=>?_⟩⟩
 ·rw[pQ rfl]
  show ((aG me _&&aG me q)&&decide (c>q.co))=true
  rw[hp,hq,decide_eq_true ae];rfl
 ·unfold aQ
  rw[FE rfl hq];rfl
 ·match i,hi with
  | 0,_=>exact hs.sz
  | 1,_=>exact(wh hq).sz
theorem Hk{me c:Int}{s:Stk}{q:Pg}(hs:fc me s)(hc:0<=c/\c<=99999)(hq:aG me q=true)(ae:q.co<c):
 ay ⟨me,s,q,⟨c,s,dK s c⟩,1⟩=true/\aQ ⟨me,s,q,⟨c,s,dK s c⟩,1⟩=q.st/\eO ⟨me,s,q,⟨c,s,dK s c⟩,1⟩:=by
 have hp:=wg (c:=c) hs hc
 refine⟨gH.2 ⟨hs,⟨by show (-1:Int)<=1;omega,by show (1:Int)<=1;omega⟩,?_⟩,?_,⟨hs.sz,fun i hi=>?_⟩⟩
 ·rw[pP rfl]
  show ((aG me q&&aG me _)&&decide (c>q.co))=true
  rw[hp,hq,decide_eq_true ae];rfl
 ·unfold aQ
  rw[FD rfl hq];rfl
 ·match i,hi with
  | 0,_=>exact(wh hq).sz
  | 1,_=>exact hs.sz
theorem BD{d:Dk}(h:ay d=true)(he:fx d=0):Kept d (fw d)/\aQ (fw d)=aQ d:=by
 have hV:fw d=fv d:=by unfold fw;rw[if_pos he]
 have hs:=(gH.1 h).1
 rw[hV]
 by_cases hw:d.wet<0
 ·have hc:(d.pg (bj d).toNat).co≠99999:=by
    intro hc
    have :=(Hn h hw hc).2
    rw[he]at this;cases this
  obtain⟨f0,f2,_,_⟩:=pA h
  have hp:=AI h
  have Aq:=uh hp
  have gb:aQ d=(d.pg (bj d).toNat).st:=rfl
  have hf:bj d=0\/bj d=1:=by omega
  rcases hf with hf | hf
  ·rw[hf]at hp Aq hc gb
   have e:fv d=⟨d.me,d.now,d.pa,⟨d.pa.co+1,d.now,dK d.now (d.pa.co+1)⟩,1⟩:=by
    unfold fv lH nu
    rw[if_pos hw,if_pos hw,hf];rfl
   have aac:0<=d.pa.co/\d.pa.co<=99999:=Aq
   have jY:d.pa.co≠99999:=hc
   obtain⟨a,b,c⟩:=Hk (c:=d.pa.co+1) hs ⟨by omega,by omega⟩ hp (by show d.pa.co<_;omega)
   rw[e,gb]
   exact⟨⟨a,rfl,fun _=>c⟩,b⟩
  ·rw[hf]at hp Aq hc gb
   have e:fv d=⟨d.me,d.now,⟨d.pb.co+1,d.now,dK d.now (d.pb.co+1)⟩,d.pb,0⟩:=by
    unfold fv lH nu
    rw[if_pos hw,if_pos hw,hf];rfl
   have aac:0<=d.pb.co/\d.pb.co<=99999:=Aq
   have jY:d.pb.co≠99999:=hc
   obtain⟨a,b,c⟩:=Hl (c:=d.pb.co+1) hs ⟨by omega,by omega⟩ hp (by show d.pb.co<_;omega)
   rw[e,gb]
   exact⟨⟨a,rfl,fun _=>c⟩,b⟩
 ·obtain⟨h1,h2,h3,h4,h5⟩:=n9 h hw
  have ie:d.wet=0\/d.wet=1:=by omega
  rcases ie with e | e
  ·have e':fv d=⟨d.me,d.now,⟨d.pa.co,d.now,dK d.now d.pa.co⟩,d.pb,0⟩:=by
     unfold fv lH nu
     rw[if_neg hw,if_neg hw,e];rfl
   rw[e]at h5
   have pv:d.pb.co<d.pa.co:=h5
   obtain⟨a,b,c⟩:=Hl (c:=d.pa.co) hs (uh h1) h2 pv
   rw[e']
   exact⟨⟨a,rfl,fun _=>c⟩,by rw[b];unfold aQ;rw[FE e h2];rfl⟩
  ·have e':fv d=⟨d.me,d.now,d.pa,⟨d.pb.co,d.now,dK d.now d.pb.co⟩,1⟩:=by
     unfold fv lH nu
     rw[if_neg hw,if_neg hw,e];rfl
   rw[e]at h5
   have pv:d.pa.co<d.pb.co:=h5
   obtain⟨a,b,c⟩:=Hk (c:=d.pb.co) hs (uh h2) h1 pv
   rw[e']
   exact⟨⟨a,rfl,fun _=>c⟩,by rw[b];unfold aQ;rw[FD e h1];rfl⟩
def zh(a b:Bool)(x y:Int):Int:=if b=true then(if y>(if a=true then(if x> -1 then x else -1)else -1)then y else(if a=true then(if x> -1 then x else -1)else -1))else(if a=true then(if x> -1 then x else -1)else -1)
theorem ne_eq(d:Dk):oO d=zh (g0 d) (g1 d) d.pa.co d.pb.co:=rfl
theorem CS{a b a' b':Bool}{x y:Int}(h1:a=true->a'=true)(h2:b=true->b'=true):zh a b x y<=zh a' b' x y:=by
 unfold zh
 cases a<;>cases b<;>cases a'<;>cases b'<;>simp at h1 h2 |- <;>repeat' split
 all_goals first | omega | contradiction | skip
theorem Vt(d:Dk)(s:Stk):oO (d.setN s)=oO d:=rfl
theorem FV{d:Dk}(h:ay d=true):Kept d (jk d)/\oO d<=oO (jk d):=by
 have hb:hM d 0=false:=by unfold hM;rw[show (Int.tmod 0 2 != 0)=false from rfl,Bool.and_false]
 have hk:=FA (n:=0) h
 rw[nE hb]at hk
 rw[lR h]
 refine⟨⟨hk,rfl,fun hz=>⟨hz.now,fun i hi=>?_⟩⟩,?_⟩
 ·match i,hi with
  | 0,_=>exact hz.pg 0 (by omega)
  | 1,_=>exact hz.pg 1 (by omega)
 ·rw[ne_eq,ne_eq]
  refine CS (x:=d.pa.co) (y:=d.pb.co) (fun e=>?_) (fun e=>?_)
  ·unfold g0 at e |-
   rw[Bool.and_eq_true]at e
   show ((0:Int) != -1&&aG d.me d.pa)=true
   rw[e.2];rfl
  ·unfold g1 at e |-
   rw[Bool.and_eq_true]at e
   show ((1:Int) != -1&&aG d.me d.pb)=true
   rw[e.2];rfl
theorem FB{d:Dk}{n:Int}(h:ay d=true):Kept d (gV d n)/\oO d<=oO (gV d n)/\aQ (gV d n)=(gV d n).now:=by
 have hk:=FA (n:=n) h
 rw[n6 h]
 have bG:=wh (AI hk)
 have ba:((iT d n).setW (-1)).me=d.me:=by
  cases hb:hM d n
  ·rw[nE hb];rfl
  ·rw[oB hb];exact Ia _ _ _
 have bm:eO d->eO ((iT d n).setW (-1)):=fun hz=>by
  cases hb:hM d n
  ·rw[nE hb]
   exact⟨hz.now,fun i hi=>by match i,hi with | 0,_=>exact hz.pg 0 (by omega) | 1,_=>exact hz.pg 1 (by omega)⟩
  ·rw[oB hb]
   have hw:=vU hb
   obtain⟨h1,h2,h3,h4,_⟩:=n9 h hw
   have ie:d.wet=0\/d.wet=1:=by omega
   rcases ie with e | e<;>rw[e]
   ·exact⟨hz.now,fun i hi=>by match i,hi with | 0,_=>exact hz.pg 0 (by omega) | 1,_=>exact hz.pg 1 (by omega)⟩
   ·exact⟨hz.now,fun i hi=>by match i,hi with | 0,_=>exact hz.pg 0 (by omega) | 1,_=>exact hz.pg 1 (by omega)⟩
 refine⟨⟨F5 hk bG,ba,fun hz=>BR (bm hz) bG⟩,?_,?_⟩
 ·show oO d<=oO (((iT d n).setW (-1)).setN _)
  rw[Vt]
  cases hb:hM d n
  ·rw[nE hb]
   have :=(FV h).2
   rw[lR h]at this
   exact this
  ·rw[oB hb]
   have hw:=vU hb
   obtain⟨h1,h2,h3,h4,_⟩:=n9 h hw
   have ie:d.wet=0\/d.wet=1:=by omega
   rw[ne_eq,ne_eq]
   rcases ie with e | e<;>rw[e]
   ·refine CS (x:=d.pa.co) (y:=d.pb.co) (fun k=>?_) (fun k=>?_)
    ·unfold g0 at k;rw[e]at k;cases k
    ·show ((1:Int) != -1&&aG d.me d.pb)=true
     rw[h2];rfl
   ·refine CS (x:=d.pa.co) (y:=d.pb.co) (fun k=>?_) (fun k=>?_)
    ·show ((0:Int) != -1&&aG d.me d.pa)=true
     rw[h1];rfl
    ·unfold g1 at k;rw[e]at k;cases k
 ·exact xz _ _
theorem Jw{me:Int}{l:List Int}(h:oM me l=true):ay (gM me l)=true:=by
 unfold oM at h
 rw[Bool.and_eq_true,cp,I3]at h
 obtain⟨⟨m0,m5⟩,h1,h2,h3⟩:=h
 have z:∀ {α:Type} (x:α) (i:Nat),(ek fun _=>x).get i=x:=fun x i=>by
  unfold aS.get ek
  split<;>rfl
 have hs:∀ k:List Int,k.Pairwise (· < ·)->(∀ x∈k,1<=x/\x<=999)->k.length<=40->fc me (dr k):=fun k a b c=>by
  refine⟨m0,by omega,a,b,c,z _ _,z _ _,z _ _,fun i _=>?_,fun i _=>?_,fun i _=>?_⟩
  ·rw[show (dr k).se.get i=0 from z _ _];omega
  ·rw[show (dr k).ta.get i=0 from z _ _];omega
  ·rw[show (dr k).un.get i=[]from z _ _];exact⟨trivial,by simp⟩
 have a:=hs l h1 h2 h3
 have b:=hs [] List.Pairwise.nil (fun _ h=>by cases h) (by simp)
 refine gH.2 ⟨a,⟨by show (-1:Int)<= -1;omega,by show (-1:Int)<=1;omega⟩,?_⟩
 rw[nv (show (-1:Int)<0 by decide)]
 have pa:=wg (c:=1) a ⟨by decide,by decide⟩
 have pb:=wg (c:=0) b ⟨by decide,by decide⟩
 show ((aG me ⟨1,dr l,dK (dr l) 1⟩||aG me ⟨0,zS,dK zS 0⟩)&&!((aG me ⟨1,dr l,dK (dr l) 1⟩&&aG me ⟨0,zS,dK zS 0⟩)&&((1:Int)==0)))=true
 rw[pa];simp
theorem Vq{me:Int}{l:List Int}(h:oM me l=true):eO (gM me l):=by
 have hk:=Jw h
 obtain⟨hs,_,_⟩:=gH.1 hk
 refine⟨hs.sz,fun i hi=>?_⟩
 match i,hi with
 | 0,_=>exact hs.sz
 | 1,_=>exact Jk.sz
end Go.Eng
set_option linter.constructorNameAsVariable false
namespace Go.Eng
open Go Go.Proofs
theorem RM(f:Nat)(s:Stk)(p:Par):(iR f s p).un=s.un:=by
 unfold iR
 split<;>rfl
theorem HQ(f:Nat)(ps:List Par)(s0:Stk):∀ z,(bJ f ps s0 z).un=s0.un
 | 0=>rfl
 |z+1=>(RM f _ _).trans (HQ f ps s0 z)
theorem Jz{f:Nat}{ps:List Par}{s0:Stk}(hf:f<6)(lM:cm ps=true):∀ z,z<=ps.length->∀ i (h:i<ps.length),i<z->ps[i].no≠(bJ f ps s0 z).ta.get f+1
 | 0,_,_,_,h=>by omega
 |z+1,hz,i,hi,hiz=>by
  have dX:=yQ lM
  show _≠(iR f (bJ f ps s0 z) (ps.getD z default)).ta.get f+1
  rw[getD_at (show z<ps.length by omega)]
  unfold iR
  by_cases hn:dS f (bJ f ps s0 z) (ps[z]'(by omega))=true
  ·rw[if_pos hn]
   show _≠((bJ f ps s0 z).ta.set f _).get f+1
   rw[((bJ f ps s0 z).ta.get_set (i:=f) (j:=f) _ hf).1]
   unfold dS at hn
   have o8:(ps[z]'(by omega)).no=(bJ f ps s0 z).ta.get f+1:=by simpa using hn
   have h1:=dX i hi
   have h2:=dX z (by omega)
   omega
  ·rw[if_neg hn]
   by_cases e:i=z
   ·subst e
    unfold dS at hn
    simpa using hn
   ·exact Jz hf lM z (by omega) i hi (by omega)
theorem Is{f:Nat}{ps:List Par}{s:Stk}(h:∀ i (hi:i<ps.length),dS f s ps[i]=false):∀ z,z<=ps.length->bJ f ps s z=s/\dG f ps s z=0
 | 0,_=>⟨rfl,rfl⟩
 |z+1,hz=>by
  obtain⟨h1,h2⟩:=Is h z (by omega)
  have hb:=h z (by omega)
  have hg:ps.getD z default=ps[z]'(by omega):=getD_at (by omega)
  constructor
  ·show iR f (bJ f ps s z) (ps.getD z default)=s
   rw[h1,hg]
   unfold iR
   rw[if_neg (by rw[hb];decide)]
  ·show (if dG f ps s z=0 then eF f (bJ f ps s z) (ps.getD z default)else dG f ps s z)=0
   rw[if_pos h2,h1,hg]
   unfold eF
   rw[if_neg (by rw[hb];decide)]
theorem Vd{s s0:Stk}{f:Nat}{ta:Int}(hf:f<6)(h:s.un=(rR s0 f ta).un):rR s f ta=s:=by
 have hg:s.un.get f=fe (s0.un.get f) ta (s0.un.get f).length:=by
  rw[h]
  exact(s0.un.get_set (i:=f) (j:=f) _ hf).1
 have he:fe (s.un.get f) ta (s.un.get f).length=s.un.get f:=by
  unfold fe
  rw[List.take_length,List.filter_eq_self]
  intro p hp
  rw[hg]at hp
  unfold fe at hp
  exact(List.mem_filter.1 hp).2
 unfold rR
 rw[he,aS.set_self _ _ hf]
theorem ag'{d:Dk}{b:Bag}(h:ay d=true)(he:gA d b=0):gA (gL d b) b=0/\gL (gL d b) b=gL d b:=by
 obtain⟨⟨hk,_⟩,lq,ET,hV⟩:=CE h he
 have kJ:fK b=true:=by unfold jh at lq;rw[Bool.and_eq_true]at lq;exact lq.1
 obtain⟨_,_,fk,_,_,_,_⟩:=qZ kJ
 have lM:cm b.ps=true:=by unfold fK at kJ;simp only[Bool.and_eq_true]at kJ;exact kJ.1.2
 have ZW:jh (gL d b) b=true:=by
  unfold jh at lq |-
  rw[hk.me];exact lq
 have hO:bO (gL d b) b=bJ b.fr.toNat b.ps (bO d b) b.ps.length:=by
  rw[hV]
  exact Vd (s:=bJ b.fr.toNat b.ps (bO d b) b.ps.length) (s0:=d.now) fk (HQ _ _ _ _)
 have dX:=Jz (s0:=bO d b) fk lM b.ps.length (Nat.le_refl _)
 obtain⟨r1,r2⟩:=Is (f:=b.fr.toNat) (ps:=b.ps) (s:=bJ b.fr.toNat b.ps (bO d b) b.ps.length) (fun i hi=>by
  unfold dS
  rw[beq_eq_false_iff_ne]
  exact dX i hi hi) b.ps.length (Nat.le_refl _)
 have h2:dG b.fr.toNat b.ps (bO (gL d b) b) b.ps.length=0:=by rw[hO];exact r2
 obtain⟨a,c⟩:=CD hk.ok ZW h2
 refine⟨c,?_⟩
 rw[a,hO,r1]
 rw[hV]
 rfl
def Sx.set(x:Sx)(k:Nat)(d:Dk):Sx:=⟨x.ds.set k d,x.bs⟩
def dI(y:Act):Int:=y.kd % 16
def dv(y:Act):Nat:=(y.dk % 6).toNat
def lS(y:Act):Int:=y.to % 6
def jD(x:Sx)(y:Act):Bag:=x.bs.getD (y.pi % (x.bs.length:Int)).toNat default
def iA(x:Sx)(y:Act):Sx:=
 if dI y<=2 then(if c7 (x.ds.get (dv y)) (ia (x.ds.get (dv y)).now.ho y.pp) (lS y)=0 then x.set (dv y) (iV (x.ds.get (dv y)) (ia (x.ds.get (dv y)).now.ho y.pp) (lS y))else x)
 else if dI y<=4 then(if fx (x.ds.get (dv y))=0 then x.set (dv y) (fw (x.ds.get (dv y)))else x)
 else if dI y<=6 then(if j7 (x.ds.get (dv y))=0 then x.set (dv y) (jk (x.ds.get (dv y)))else x)
 else if dI y<=7 then(if j7 (x.ds.get (dv y))=0 then x.set (dv y) (gV (x.ds.get (dv y)) y.pi)else x)
 else if dI y<=10 then(if eU (x.ds.get (dv y)) (lS y)=0 then⟨x.ds,x.bs++[ld (x.ds.get (dv y)) (lS y)]⟩else x)
 else if x.bs=[]then x
 else if gA (x.ds.get (jD x y).to.toNat) (jD x y)=0 then x.set (jD x y).to.toNat (gL (x.ds.get (jD x y).to.toNat) (jD x y))else x
structure mh (x:Sx) (n:Nat):Prop where
 ok:∀ i,i<6->ay (x.ds.get i)=true
 me:∀ i,i<6->(x.ds.get i).me=i
 sz:∀ i,i<6->eO (x.ds.get i)
 bg:∀ b∈x.bs,0<=b.to/\b.to<6
 ln:x.bs.length<=n
theorem xF{x:Sx}{y:Act}(h:dI y=0\/dI y=1\/dI y=2):iA x y=if c7 (x.ds.get (dv y)) (ia (x.ds.get (dv y)).now.ho y.pp) (lS y)=0 then x.set (dv y) (iV (x.ds.get (dv y)) (ia (x.ds.get (dv y)).now.ho y.pp) (lS y))else x:=if_pos (by omega)
theorem AM{x:Sx}{y:Act}(h:dI y=3\/dI y=4):iA x y=if fx (x.ds.get (dv y))=0 then x.set (dv y) (fw (x.ds.get (dv y)))else x:=by
 unfold iA;rw[if_neg (by omega),if_pos (by omega)]
theorem AN{x:Sx}{y:Act}(h:dI y=5\/dI y=6):iA x y=if j7 (x.ds.get (dv y))=0 then x.set (dv y) (jk (x.ds.get (dv y)))else x:=by
 unfold iA;rw[if_neg (by omega),if_neg (by omega),if_pos (by omega)]
theorem F2{x:Sx}{y:Act}(h:dI y=7):iA x y=if j7 (x.ds.get (dv y))=0 then x.set (dv y) (gV (x.ds.get (dv y)) y.pi)else x:=by
 unfold iA;rw[if_neg (by omega),if_neg (by omega),if_neg (by omega),if_pos (by omega)]
theorem xG{x:Sx}{y:Act}(h:dI y=8\/dI y=9\/dI y=10):iA x y=if eU (x.ds.get (dv y)) (lS y)=0 then⟨x.ds,x.bs++[ld (x.ds.get (dv y)) (lS y)]⟩else x:=by
 unfold iA;rw[if_neg (by omega),if_neg (by omega),if_neg (by omega),if_neg (by omega),if_pos (by omega)]
theorem F1{x:Sx}{y:Act}(h:11<=dI y)(hb:x.bs=[]):iA x y=x:=by
 unfold iA;rw[if_neg (by omega),if_neg (by omega),if_neg (by omega),if_neg (by omega),if_neg (by omega),if_pos hb]
theorem F0{x:Sx}{y:Act}(h:11<=dI y)(hb:x.bs≠[]):iA x y=if gA (x.ds.get (jD x y).to.toNat) (jD x y)=0 then x.set (jD x y).to.toNat (gL (x.ds.get (jD x y).to.toNat) (jD x y))else x:=by
 unfold iA;rw[if_neg (by omega),if_neg (by omega),if_neg (by omega),if_neg (by omega),if_neg (by omega),if_neg hb]
theorem aS.get_set_all{α:Type}{Q:Nat->α->Prop}{s:aS α}{k:Nat}{d:α}(hk:k<6)(h:∀ i,i<6->Q i (s.get i))(hd:Q k d):∀ i,i<6->Q i ((s.set k d).get i):=fun i hi=>by
 by_cases e:i=k
 ·subst e;rw[(s.get_set (i:=i) (j:=i) d hk).1];exact hd
 ·rw[(s.get_set (i:=k) (j:=i) d hk).2 hi e];exact h i hi
theorem mh.kept{x:Sx}{n k:Nat}{e:Dk}(h:mh x n)(hk:k<6)(he:Kept (x.ds.get k) e):mh (x.set k e) n:=
 ⟨aS.get_set_all (Q:=fun _ d=>ay d=true) hk h.ok he.ok,aS.get_set_all (Q:=fun i (d:Dk)=>d.me=(i:Int)) hk h.me (he.me.trans (h.me k hk)),aS.get_set_all (Q:=fun _ d=>eO d) hk h.sz (he.sz (h.sz k hk)),h.bg,h.ln⟩
theorem mh.mono{x:Sx}{n m:Nat}(h:mh x n)(hm:n<=m):mh x m:=⟨h.ok,h.me,h.sz,h.bg,Nat.le_trans h.ln hm⟩
theorem F3(y:Act):dv y<6:=by unfold dv;omega
theorem AO{x:Sx}{y:Act}(h:x.bs≠[]):jD x y∈x.bs:=by
 have hl:=List.length_pos_iff.2 h
 have g0:=Int.emod_nonneg y.pi (by omega:(x.bs.length:Int)≠0)
 have g1:=Int.emod_lt_of_pos y.pi (by omega:(0:Int)<(x.bs.length:Int))
 unfold jD
 rw[getD_at (by omega)]
 exact List.getElem_mem _
theorem N2{x:Sx}{y:Act}{n:Nat}(h:mh x n):mh (iA x y) (n+1):=by
 have hk:=F3 y
 have hd:=h.ok _ hk
 have h':=h.mono (Nat.le_succ n)
 have dY:0<=dI y:=by unfold dI;omega
 by_cases c1:dI y<=2
 ·rw[xF (by omega)]
  split
  ·next he=>exact h'.kept hk (Ie hd he).1
  ·exact h'
 by_cases c2:dI y<=4
 ·rw[AM (by omega)]
  split
  ·next he=>exact h'.kept hk (BD hd he).1
  ·exact h'
 by_cases c3:dI y<=6
 ·rw[AN (by omega)]
  split
  ·exact h'.kept hk (FV hd).1
  ·exact h'
 by_cases c4:dI y<=7
 ·rw[F2 (by omega)]
  split
  ·exact h'.kept hk (FB hd).1
  ·exact h'
 by_cases c5:dI y<=10
 ·rw[xG (by omega)]
  split
  ·next he=>
   refine⟨h.ok,h.me,h.sz,fun b hb=>?_,?_⟩
   ·rcases List.mem_append.1 hb with hb | hb
    ·exact h.bg b hb
    ·simp only[List.mem_cons,List.not_mem_nil,or_false]at hb
     subst hb
     have hp:0<=lS y/\lS y<6:=by unfold lS;omega
     unfold ld
     split
     ·exact hp
     ·exact⟨by show (0:Int)<=0;omega,by show (0:Int)<6;omega⟩
   ·show (x.bs++_).length<=n+1
    have :=h.ln
    rw[List.length_append]
    simp only[List.length_cons,List.length_nil]
    omega
  ·exact h'
 by_cases c6:x.bs=[]
 ·rw[F1 (by omega) c6];exact h'
 ·rw[F0 (by omega) c6]
  have hb:=h.bg _ (AO (y:=y) c6)
  split
  ·next he=>exact h'.kept (by omega) (CE (h.ok _ (by omega)) he).1.1
  ·exact h'
def tP(l:List Act):Nat->Sx
 | 0=>jn 6
 |z+1=>iA (tP l z) (l.getD z default)
theorem vC:mh (jn 6) 0:=by
 have e:∀ i,i<6->(jn 6).ds.get i=gM i (bV i)/\oM i (bV i)=true:=fun i hi=>
  gK (P:=fun i=>(jn 6).ds.get i=gM i (bV i)/\oM i (bV i)=true) ⟨rfl,rfl⟩ ⟨rfl,rfl⟩ ⟨rfl,rfl⟩ ⟨rfl,rfl⟩ ⟨rfl,rfl⟩ ⟨rfl,rfl⟩ hi
 exact⟨fun i hi=>by rw[(e i hi).1];exact Jw (e i hi).2,fun i hi=>by rw[(e i hi).1];rfl,fun i hi=>by rw[(e i hi).1];exact Vq (e i hi).2,fun b hb=>(by rw[A3]at hb;cases hb),by rw[A3];exact Nat.le_refl _⟩
theorem RG(l:List Act):∀ z,mh (tP l z) z
 | 0=>vC
 |z+1=>N2 (RG l z)
end Go.Eng
set_option linter.constructorNameAsVariable false
namespace Go.Eng
open Go Go.Proofs
def bn(f:Nat->Nat):Nat:=f 0+f 1+f 2+f 3+f 4+f 5
theorem nC{f g:Nat->Nat}(h:∀ i,i<6->f i=g i):bn f=bn g:=by
 unfold bn
 rw[h 0 (by omega),h 1 (by omega),h 2 (by omega),h 3 (by omega),h 4 (by omega),h 5 (by omega)]
theorem yr(f g:Nat->Nat):bn (fun i=>f i+g i)=bn f+bn g:=by
 simp only[bn];omega
theorem vQ{f:Nat->Nat}{i:Nat}(h:i<6):f i<=bn f:=by
 unfold bn
 match i,h with
 | 0,_=>omega
 | 1,_=>omega
 | 2,_=>omega
 | 3,_=>omega
 | 4,_=>omega
 | 5,_=>omega
theorem R'(f:Nat->Nat->Nat):bn (fun i=>bn fun j=>f i j)=bn (fun j=>bn fun i=>f i j):=by
 simp only[bn];omega
theorem HM{f g:Nat->Nat}{i:Nat}(hi:i<6)(h:∀ k,k<6->k≠i->f k=g k):bn f+g i=bn g+f i:=by
 have a:∀ k,k<6->k=i\/f k=g k:=fun k hk=>by
  by_cases e:k=i
  ·exact .inl e
  ·exact .inr (h k hk e)
 have h0:=a 0 (by omega)
 have h1:=a 1 (by omega)
 have h2:=a 2 (by omega)
 have h3:=a 3 (by omega)
 have h4:=a 4 (by omega)
 have h5:=a 5 (by omega)
 unfold bn
 match i,hi with
 | 0,_=>omega
 | 1,_=>omega
 | 2,_=>omega
 | 3,_=>omega
 | 4,_=>omega
 | 5,_=>omega
def ct(x:Int)(l:List Int)(n:Int):Nat:=(l.take n.toNat).count x
theorem abF{x:Int}{l l':List Int}{n:Int}(h:l.take n.toNat=l'.take n.toNat):ct x l n=ct x l' n:=by unfold ct;rw[h]
theorem abG{x:Int}{l r:List Int}{n:Int}(h:n<=(l.length:Int)):ct x (l++r) n=ct x l n:=by
 unfold ct
 rw[List.take_append_of_le_length (by omega)]
theorem abE(x:Int)(l:List Int)(y:Int){n:Int}(h:(l.length:Int)=n):ct x (l++[y]) (n+1)=ct x l n+(if y=x then 1 else 0):=by
 unfold ct
 rw[List.take_of_length_le (by rw[List.length_append];simp only[List.length_cons,List.length_nil];omega),List.take_of_length_le (by omega),List.count_append]
 congr 1
 by_cases e:y=x
 ·rw[if_pos e,e];simp
 ·rw[if_neg e];simp[List.count_cons,e]
theorem Gp{x:Int}{l:List Int}{n:Int}{y:Int}(h0:0<=n)(h:l[n.toNat]?=some y):ct x l (n+1)=ct x l n+(if y=x then 1 else 0):=by
 unfold ct
 rw[show (n+1).toNat=n.toNat+1 by omega,List.take_add_one,h,List.count_append]
 congr 1
 by_cases e:y=x
 ·rw[if_pos e,e];simp
 ·rw[if_neg e];simp[List.count_cons,e]
theorem Ou(x:Int)(l:List Int){m n:Int}(h:m<=n):ct x l m<=ct x l n:=by
 unfold ct
 exact(List.Sublist.count_le x (List.take_sublist_take_left (by omega)))
theorem Ot{x:Int}{l:List Int}{m n:Int}(h:m<=n):ct x (l.take n.toNat) m=ct x l m:=by
 unfold ct
 rw[List.take_take,Nat.min_eq_left (by omega)]
theorem at_take{l l':List Int}{m:Int}{i:Nat}(h:l.take m.toNat=l'.take m.toNat)(hi:i<m.toNat):l[i]?=l'[i]?:=by
 have :=congrArg (fun z=>z[i]?) h
 simpa[List.getElem?_take,hi]using this
theorem aa1{l:List Int}{p x:Int}(hs:l.Pairwise (· < ·))(hp:p∈l):(fV l p l.length).count x+(if p=x then 1 else 0)=l.count x:=by
 unfold fV
 rw[List.take_length]
 have jc:l.Nodup:=hs.imp (fun h=>by omega)
 by_cases e:p=x
 ·subst e
  rw[if_pos rfl,List.count_eq_zero_of_not_mem (by simp[List.mem_filter]),jc.count,if_pos hp]
 ·rw[if_neg e,List.count_filter (by simp[Ne.symm e])]
  rfl
theorem Yu(l:List Int)(p x:Int):(b8 l p).count x=l.count x+(if p=x then 1 else 0):=by
 unfold b8
 rw[List.count_append,List.count_append]
 have :(l.take (bC l p)).count x+(l.drop (bC l p)).count x=l.count x:=by
  rw[<-List.count_append,List.take_append_drop]
 have h2:List.count x [p]=if p=x then 1 else 0:=by
  by_cases e:p=x
  ·rw[if_pos e,e];simp
  ·rw[if_neg e];simp[List.count_cons,e]
 omega
theorem ye{e:Int}:∀ {l:List Par},PT e l->∀ p∈l,e-l.length<p.no/\p.no<=e
 |[],_,p,h=>by cases h
 |q::r,⟨h1,h2,h3⟩,p,h=>by
  rcases List.mem_cons.1 h with rfl | h
  ·simp only[List.length_cons];omega
  ·have:=ye h3 p h
   simp only[List.length_cons];omega
theorem RC{e ta:Int}{l:List Par}(h:PT e l):e-(fe l ta l.length).length<=e-l.length\/e-(fe l ta l.length).length<=ta:=by
 unfold fe
 rw[List.take_length]
 induction l with
 |nil=>left;simp
 |cons p r ih=>
  obtain⟨h1,h2,h3⟩:=h
  by_cases hp:p.no>ta
  ·left
   have :(p::r).filter (fun p=>decide (p.no>ta))=p::r:=by
    rw[List.filter_eq_self]
    intro q hq
    have :=ye (e:=e) (l:=p::r) ⟨h1,h2,h3⟩ q hq
    simp only[List.length_cons]at this
    simp only[gt_iff_lt,decide_eq_true_eq]
    omega
   rw[this];exact Int.le_refl _
  ·right
   rw[List.filter_cons_of_neg (by simpa using hp)]
   have :=ih h3
   omega
theorem GB{lg:List Int}{e t x:Int}(he:(lg.length:Int)=e)(h0:0<=t):∀ {l:List Par},PT e l->(∀ p∈l,lg[(p.no-1).toNat]?=some p.pa)->e-l.length<=t->
 (l.filter fun p=>p.pa==x&&decide (p.no>t)).length+ct x lg t=ct x lg (max e t)
 |[],_,_,hc=>by
  simp only[List.filter_nil,List.length_nil,Nat.zero_add]
  have :max e t=t:=by simp only[List.length_nil]at hc;omega
  rw[this]
 |p::r,⟨h1,h2,h3⟩,hl,hc=>by
  have w8:∀ p∈r,lg[(p.no-1).toNat]?=some p.pa:=fun q hq=>hl q (List.mem_cons_of_mem _ hq)
  have hp:=hl p (List.mem_cons_self ..)
  simp only[List.length_cons]at hc
  by_cases ht:p.no>t
  ·
   have Ma:p.no=t+1:=by omega
   have ih:=GB (x:=x) (t:=t+1) he (by omega) h3 w8 (by omega)
   have hm:max e (t+1)=max e t:=by omega
   rw[hm]at ih
   have hn:=Gp (x:=x) (l:=lg) (n:=t) (y:=p.pa) h0 (by rw[<-hp];congr 1;omega)
   rw[hn]at ih
   have hf:r.filter (fun p=>p.pa==x&&decide (p.no>t))=r.filter (fun p=>p.pa==x&&decide (p.no>t+1)):=by
    apply List.filter_congr
    intro q hq
    have :=ye h3 q hq
    have a:decide (q.no>t)=true:=by simp only[gt_iff_lt,decide_eq_true_eq];omega
    have b:decide (q.no>t+1)=true:=by simp only[gt_iff_lt,decide_eq_true_eq];omega
    rw[a,b]
   by_cases e:p.pa=x
   ·rw[List.filter_cons_of_pos (by simp[e,ht]),List.length_cons,hf]
    rw[if_pos e]at ih
    omega
   ·rw[List.filter_cons_of_neg (by simp[e]),hf]
    rw[if_neg e]at ih
    omega
  ·rw[List.filter_cons_of_neg (by simp[ht])]
   exact GB he h0 h3 w8 (by omega)
end Go.Eng
set_option linter.constructorNameAsVariable false
namespace Go.Eng
open Go Go.Proofs
def fY(d:Dk)(s:Stk):Prop:=s=aQ d\/s=d.now\/(0<=d.wet/\s=(d.pg d.wet.toNat).st)
theorem ahv{d:Dk}(h:ay d=true){s:Stk}(hs:fY d s):fc d.me s:=by
 rcases hs with rfl | rfl | ⟨hw,rfl⟩
 ·exact wh (AI h)
 ·exact(gH.1 h).1
 ·obtain⟨a,b,_⟩:=n9 h (by omega)
  exact wh (Ct a b _)
theorem zG{d:Dk}{s t:Stk}(h:fY (d.setN t) s):s=t\/(s=aQ d\/(0<=d.wet/\s=(d.pg d.wet.toNat).st)):=by
 rcases h with rfl | rfl | ⟨hw,rfl⟩
 ·rw[xz];exact .inr (.inl rfl)
 ·exact .inl rfl
 ·rw[rB];exact .inr (.inr ⟨hw,rfl⟩)
theorem Hj{d:Dk}(h:ay d=true)(he:fx d=0){s:Stk}(hs:fY (fw d) s):fY d s:=by
 have hf:=(BD h he).2
 have hV:fw d=fv d:=by unfold fw;rw[if_pos he]
 have hn:(fw d).now=d.now:=by
  rw[hV];unfold fv;rw[Dk.now_set];rfl
 have hw:(fw d).wet=lH d:=by
  rw[hV];unfold fv;rw[H8];rfl
 rcases hs with rfl | rfl | ⟨eY,rfl⟩
 ·rw[hf];exact .inl rfl
 ·rw[hn];exact .inr (.inl rfl)
 ·refine .inr (.inl ?_)
  rw[hw]at eY |-
  have h2:(lH d).toNat<2:=by
   unfold lH at eY |-
   obtain⟨f0,f2,_⟩:=pA h
   have :=F4 h
   split<;>omega
  rw[hV]
  unfold fv
  rw[Dk.pg_set _ h2]
theorem Q9{d:Dk}(he:fx d=0):(fw d).now=d.now:=by
 have hV:fw d=fv d:=by unfold fw;rw[if_pos he]
 rw[hV];unfold fv;rw[Dk.now_set];rfl
theorem Ra{d:Dk}(h:ay d=true){n:Int}(hn:d.pa.co<=n/\d.pb.co<=n)(he:fx d=0):(fw d).pa.co<=n+1/\(fw d).pb.co<=n+1:=by
 have hV:fw d=fv d:=by unfold fw;rw[if_pos he]
 have hc:∀ i,(d.pg i).co<=n:=fun i=>by
  match i with
  | 0=>exact hn.1
  |_+1=>exact hn.2
 have hC:nu d<=n+1:=by
  unfold nu
  split
  ·have:=hc (bj d).toNat;omega
  ·have:=hc d.wet.toNat;omega
 rw[hV]
 unfold fv
 match (lH d).toNat with
 | 0=>exact⟨hC,by show d.pb.co<=n+1;omega⟩
 |_+1=>exact⟨by show d.pa.co<=n+1;omega,hC⟩
theorem Q'{d:Dk}(h:ay d=true)(hn:d.pa.co<99999/\d.pb.co<99999):fx d=0:=by
 by_cases hw:d.wet<0
 ·refine(Hm h hw ?_).2
  match (bj d).toNat with
  | 0=>show d.pa.co≠99999;omega
  |_+1=>show d.pb.co≠99999;omega
 ·exact(Ho h hw).2
theorem aa7{d:Dk}(h:ay d=true):jk d=d\/(0<=d.wet/\aQ (d.setW (-1))=(d.pg d.wet.toNat).st):=by
 rw[lR h]
 have hr:=F4 h
 by_cases hw:d.wet<0
 ·left
  have :d.wet= -1:=by omega
  rw[<-this];rfl
 ·right
  refine⟨by omega,?_⟩
  obtain⟨h1,h2,_,_,h5⟩:=n9 h hw
  have a:g0 (d.setW (-1))=true:=by
   show ((0:Int) != -1&&aG d.me d.pa)=true
   rw[h1];rfl
  have b:g1 (d.setW (-1))=true:=by
   show ((1:Int) != -1&&aG d.me d.pb)=true
   rw[h2];rfl
  have e:bj (d.setW (-1))=if decide (d.pb.co>d.pa.co)=true then 1 else 0:=by
   rw[vl,a,b]
   show (if (true&&(!true||decide (d.pb.co>d.pa.co)))=true then(1:Int)else if true=true then 0 else -1)=_
   simp
  have ie:d.wet=0\/d.wet=1:=by omega
  unfold aQ
  rw[e]
  rcases ie with hx | hx
  ·rw[hx]at h5 |-
   have pv:d.pb.co<d.pa.co:=h5
   rw[if_neg (by simp;omega)];rfl
  ·rw[hx]at h5 |-
   have pv:d.pa.co<d.pb.co:=h5
   rw[if_pos (by simp;omega)];rfl
theorem FX{d:Dk}(h:ay d=true){s:Stk}(hs:fY (jk d) s):fY d s/\(s=aQ (jk d)\/s=d.now):=by
 rcases aa7 h with e | ⟨hw,e⟩
 ·rw[e]at hs |-
  refine⟨hs,?_⟩
  have hwn:d.wet<0:=by
   have :(jk d).wet= -1:=by rw[lR h];rfl
   rw[e]at this;omega
  rcases hs with h | h | ⟨h,_⟩
  ·exact .inl h
  ·exact .inr h
  ·omega
 ·have hd:=lR h
  rcases hs with h1 | h1 | ⟨h1,_⟩
  ·refine⟨.inr (.inr ⟨hw,?_⟩),.inl h1⟩
   rw[h1,hd,e]
  ·rw[hd]at h1
   exact⟨.inr (.inl h1),.inr h1⟩
  ·rw[hd]at h1
   have :(d.setW (-1)).wet= -1:=rfl
   omega
theorem xy{d:Dk}:fY d (aQ d):=.inl rfl
theorem lj{d:Dk}:fY d d.now:=.inr (.inl rfl)
theorem aa6{d:Dk}(h:ay d=true):(jk d).now=d.now:=by rw[lR h];rfl
theorem FW{d:Dk}(h:ay d=true):fY d (aQ (jk d)):=(FX h xy).1
theorem aaW{d:Dk}(n:Int)(h:ay d=true):aQ (gV d n)=aQ d\/aQ (gV d n)=aQ (jk d):=by
 have hE:aQ (gV d n)=aQ ((iT d n).setW (-1)):=by rw[n6 h];exact xz _ _
 rw[hE]
 cases hb:hM d n
 ·rw[nE hb,lR h]
  exact .inr rfl
 ·left
  have hw:=vU hb
  obtain⟨h1,h2,h3,h4,_⟩:=n9 h hw
  rw[oB hb]
  have ie:d.wet=0\/d.wet=1:=by omega
  rcases ie with e | e
  ·rw[e]
   have hs:=yP h1
   have a:g0 ((d.setP 0 ⟨d.pa.co,d.pa.st,(d.pa.su+1).tmod 1000003⟩).setW (-1))=false:=by
    show ((0:Int) != -1&&aG d.me ⟨d.pa.co,d.pa.st,(d.pa.su+1).tmod 1000003⟩)=false
    rw[hs];rfl
   have b:g1 ((d.setP 0 ⟨d.pa.co,d.pa.st,(d.pa.su+1).tmod 1000003⟩).setW (-1))=true:=by
    show ((1:Int) != -1&&aG d.me d.pb)=true
    rw[h2];rfl
   have hf:bj ((d.setP 0 ⟨d.pa.co,d.pa.st,(d.pa.su+1).tmod 1000003⟩).setW (-1))=1:=by
    rw[vl,a,b];rfl
   show aQ ((d.setP 0 ⟨d.pa.co,d.pa.st,(d.pa.su+1).tmod 1000003⟩).setW (-1))=_
   unfold aQ
   rw[hf,FE e h2];rfl
  ·rw[e]
   have hs:=yP h2
   have a:g0 ((d.setP 1 ⟨d.pb.co,d.pb.st,(d.pb.su+1).tmod 1000003⟩).setW (-1))=true:=by
    show ((0:Int) != -1&&aG d.me d.pa)=true
    rw[h1];rfl
   have b:g1 ((d.setP 1 ⟨d.pb.co,d.pb.st,(d.pb.su+1).tmod 1000003⟩).setW (-1))=false:=by
    show ((1:Int) != -1&&aG d.me ⟨d.pb.co,d.pb.st,(d.pb.su+1).tmod 1000003⟩)=false
    rw[hs];rfl
   have hf:bj ((d.setP 1 ⟨d.pb.co,d.pb.st,(d.pb.su+1).tmod 1000003⟩).setW (-1))=0:=by
    rw[vl,a,b];rfl
   show aQ ((d.setP 1 ⟨d.pb.co,d.pb.st,(d.pb.su+1).tmod 1000003⟩).setW (-1))=_
   unfold aQ
   rw[hf,FD e h1];rfl
theorem Nz{d:Dk}(n:Int)(h:ay d=true){s:Stk}(hs:fY (gV d n) s):s=aQ (gV d n):=by
 have hn:=(FB (n:=n) h).2.2
 have hw:(gV d n).wet= -1:=by rw[n6 h];rfl
 rcases hs with h1 | h1 | ⟨h1,_⟩
 ·exact h1
 ·rw[hn];exact h1
 ·omega
theorem Ny{d:Dk}(n:Int)(h:ay d=true):(gV d n).pa.co=d.pa.co/\(gV d n).pb.co=d.pb.co:=by
 rw[n6 h]
 show (iT d n).pa.co=d.pa.co/\(iT d n).pb.co=d.pb.co
 cases hb:hM d n
 ·rw[nE hb];exact⟨rfl,rfl⟩
 ·rw[oB hb]
  match d.wet.toNat with
  | 0=>exact⟨rfl,rfl⟩
  |_+1=>exact⟨rfl,rfl⟩
end Go.Eng
set_option linter.constructorNameAsVariable false
namespace Go.Eng
open Go Go.Proofs
theorem Sx.get_set(x:Sx){k:Nat}(hk:k<6)(e:Dk):(x.set k e).ds.get k=e:=(x.ds.get_set (i:=k) (j:=k) e hk).1
theorem Sx.get_ne(x:Sx){k i:Nat}(hk:k<6)(hi:i<6)(al:i≠k)(e:Dk):(x.set k e).ds.get i=x.ds.get i:=(x.ds.get_set (i:=k) (j:=i) e hk).2 hi al
structure Si (aY:Nat->List Int) (lg:Nat->Nat->List Int) (i:Nat) (d:Dk) (s:Stk):Prop where
 ok:fc (i:Int) s
 sl:∀ j,j<6->(aQ d).se.get j<=s.se.get j
 su:∀ j,j<6->s.se.get j<=d.now.se.get j
 tl:∀ j,j<6->(aQ d).ta.get j<=s.ta.get j
 tu:∀ j,j<6->s.ta.get j<=d.now.ta.get j
 un:∀ j,j<6->∀ p∈s.un.get j,(lg i j)[(p.no-1).toNat]?=some p.pa
 co:∀ x,s.ho.count x+bn (fun j=>ct x (lg i j) (s.se.get j))=(aY i).count x+bn (fun j=>ct x (lg j i) (s.ta.get j))
structure BB (lg:Nat->Nat->List Int) (x:Sx) (b:Bag):Prop where
 ok:fK b=true
 un:∀ p∈b.ps,(lg b.fr.toNat b.to.toNat)[(p.no-1).toNat]?=some p.pa/\p.no<=(aQ (x.ds.get b.fr.toNat)).se.get b.to.toNat
 ta:b.ta<=(aQ (x.ds.get b.fr.toNat)).ta.get b.to.toNat
structure bW (aY:Nat->List Int) (lg:Nat->Nat->List Int) (x:Sx) (n:Nat):Prop where
 ok:∀ i,i<6->ay (x.ds.get i)=true
 me:∀ i,i<6->(x.ds.get i).me=(i:Int)
 len:∀ i,i<6->∀ j,j<6->((lg i j).length:Int)=(x.ds.get i).now.se.get j
 st:∀ i,i<6->∀ s,fY (x.ds.get i) s->Si aY lg i (x.ds.get i) s
 acks:∀ i,i<6->∀ j,j<6->(x.ds.get j).now.ta.get i<=(aQ (x.ds.get i)).se.get j
 cov:∀ i,i<6->∀ s,fY (x.ds.get i) s->∀ j,j<6->s.se.get j-((s.un.get j).length:Int)<=(aQ (x.ds.get j)).ta.get i
 bags:∀ b∈x.bs,BB lg x b
 cnt:∀ i,i<6->(x.ds.get i).pa.co<=(n:Int)+1/\(x.ds.get i).pb.co<=(n:Int)+1
theorem fc.d0{k:Nat}{s:Stk}(h:fc (k:Int) s):s.un.get k=[]/\s.se.get k=0/\s.ta.get k=0:=by
 have a:=h.u0;have b:=h.s0;have c:=h.t0
 simp only[Int.toNat_natCast]at a b c
 exact⟨a,b,c⟩
theorem O9{b:Bag}(h:fK b=true):b.fr.toNat<6/\b.to.toNat<6/\b.fr.toNat≠b.to.toNat/\0<=b.fr/\0<=b.to/\cm b.ps=true/\0<=b.ta:=by
 unfold fK at h
 simp only[Bool.and_eq_true]at h
 obtain⟨⟨⟨⟨h1,h2⟩,h3⟩,h4⟩,h5⟩:=h
 have h1:=cp.1 h1
 have h2:=cp.1 h2
 have h5:=cp.1 h5
 have h3:b.fr≠b.to:=by simpa using h3
 exact⟨by omega,by omega,by omega,by omega,by omega,h4,h5.1⟩
theorem bW.set{aY:Nat->List Int}{lg dP:Nat->Nat->List Int}{x:Sx}{n m k:Nat}{e:Dk}(h:bW aY lg x n)(hk:k<6)(aq:n<=m)
 (ok:ay e=true) (me:e.me=(k:Int))
 (hl:∀ a b,a≠k->dP a b=lg a b)
 (len:∀ j,j<6->((dP k j).length:Int)=e.now.se.get j)
 (pre:∀ j,j<6->(dP k j).take ((aQ (x.ds.get k)).se.get j).toNat=(lg k j).take ((aQ (x.ds.get k)).se.get j).toNat)
 (fse:∀ j,j<6->(aQ (x.ds.get k)).se.get j<=(aQ e).se.get j)
 (fta:∀ j,j<6->(aQ (x.ds.get k)).ta.get j<=(aQ e).ta.get j)
 (st:∀ s,fY e s->Si aY dP k e s)
 (acks:∀ j,j<6->j≠k->e.now.ta.get j<=(aQ (x.ds.get j)).se.get k)
 (cov:∀ s,fY e s->∀ j,j<6->j≠k->s.se.get j-((s.un.get j).length:Int)<=(aQ (x.ds.get j)).ta.get k)
 (cnt:e.pa.co<=(m:Int)+1/\e.pb.co<=(m:Int)+1):bW aY dP (x.set k e) m:=by
 have IU:∀ j,j<6->∀ t:Int,t<=(aQ (x.ds.get k)).se.get j->(dP k j).take t.toNat=(lg k j).take t.toNat:=fun j hj t ht=>by
  have :=congrArg (List.take t.toNat) (pre j hj)
  rw[List.take_take,List.take_take,Nat.min_eq_left (by omega)]at this
  exact this
 have gk:=x.get_set hk e
 have gn:∀ i,i<6->i≠k->(x.set k e).ds.get i=x.ds.get i:=fun i hi al=>x.get_ne hk hi al e
 have d0:=(st _ lj).ok.d0
 have d1:=(st _ xy).ok.d0
 have Nw:∀ a,a<6->∀ b,b<6->(aQ (x.ds.get a)).se.get b<=(aQ ((x.set k e).ds.get a)).se.get b:=fun a ha b hb=>by
  by_cases ea:a=k
  ·subst ea;rw[gk];exact fse b hb
  ·rw[gn a ha ea];exact Int.le_refl _
 have AG:∀ a,a<6->∀ b,b<6->(aQ (x.ds.get a)).ta.get b<=(aQ ((x.set k e).ds.get a)).ta.get b:=fun a ha b hb=>by
  by_cases ea:a=k
  ·subst ea;rw[gk];exact fta b hb
  ·rw[gn a ha ea];exact Int.le_refl _
 have Z9:∀ y a,a<6->∀ b,b<6->∀ t:Int,t<=(aQ (x.ds.get a)).se.get b->ct y (dP a b) t=ct y (lg a b) t:=fun y a ha b hb t ht=>by
  by_cases ea:a=k
  ·subst ea;exact abF (IU b hb t ht)
  ·rw[hl a b ea]
 refine⟨fun i hi=>?_,fun i hi=>?_,fun i hi j hj=>?_,fun i hi s hs=>?_,fun i hi j hj=>?_,fun i hi s hs j hj=>?_,fun b hb=>?_,fun i hi=>?_⟩
 ·by_cases ei:i=k
  ·subst ei;rw[gk];exact ok
  ·rw[gn i hi ei];exact h.ok i hi
 ·by_cases ei:i=k
  ·subst ei;rw[gk];exact me
  ·rw[gn i hi ei];exact h.me i hi
 ·by_cases ei:i=k
  ·subst ei;rw[gk];exact len j hj
  ·rw[gn i hi ei,hl i j ei];exact h.len i hi j hj
 ·by_cases ei:i=k
  ·subst ei;rw[gk]at hs |-;exact st s hs
  ·rw[gn i hi ei]at hs |-
   have o:=h.st i hi s hs
   refine⟨o.ok,o.sl,o.su,o.tl,o.tu,fun j hj p hp=>?_,fun y=>?_⟩
   ·rw[hl i j ei];exact o.un j hj p hp
   ·have:=o.co y
    rw[nC (g:=fun j=>ct y (lg i j) (s.se.get j)) (fun j _=>by rw[hl i j ei]),this]
    congr 1
    refine nC fun j hj=>(Z9 y j hj i hi _ ?_).symm
    exact Int.le_trans (o.tu j hj) (h.acks j hj i hi)
 ·by_cases ej:j=k
  ·subst ej
   rw[gk]
   by_cases ei:i=j
   ·subst ei;rw[gk,d0.2.2,d1.2.1];exact Int.le_refl _
   ·rw[gn i hi ei];exact acks i hi ei
  ·rw[gn j hj ej]
   exact Int.le_trans (h.acks i hi j hj) (Nw i hi j hj)
 ·by_cases ei:i=k
  ·subst ei
   rw[gk]at hs
   by_cases ej:j=i
   ·subst ej
    have o:=(st s hs).ok.d0
    rw[gk,o.1,o.2.1,d1.2.2];exact Int.le_refl _
   ·rw[gn j hj ej];exact cov s hs j hj ej
  ·rw[gn i hi ei]at hs
   exact Int.le_trans (h.cov i hi s hs j hj) (AG j hj i hi)
 ·have o:=h.bags b hb
  obtain⟨f6,t6,_⟩:=O9 o.ok
  refine⟨o.ok,fun p hp=>?_,Int.le_trans o.ta (AG _ f6 _ t6)⟩
  obtain⟨u1,u2⟩:=o.un p hp
  refine⟨?_,Int.le_trans u2 (Nw _ f6 _ t6)⟩
  by_cases ea:b.fr.toNat=k
  ·rw[ea]at u1 u2 |-
   rw[<-u1]
   have Eb:=(qZ o.ok).2.2.2.2.1 p hp
   exact at_take (m:=p.no) (IU _ t6 _ u2) (by omega)
  ·rw[hl _ _ ea];exact u1
 ·by_cases ei:i=k
  ·subst ei;rw[gk];exact cnt
  ·rw[gn i hi ei];have:=h.cnt i hi;omega
theorem bW.total{aY:Nat->List Int}{lg:Nat->Nat->List Int}{x:Sx}{n:Nat}(h:bW aY lg x n)(y:Int){S:Nat->Stk}(hS:∀ i,i<6->(∀ z,(S i).ho.count z+bn (fun j=>ct z (lg i j) ((S i).se.get j))=(aY i).count z+bn (fun j=>ct z (lg j i) ((S i).ta.get j)))):
 bn (fun i=>(S i).ho.count y)+bn (fun i=>bn fun j=>ct y (lg i j) ((S i).se.get j))=bn (fun i=>(aY i).count y)+bn (fun i=>bn fun j=>ct y (lg i j) ((S j).ta.get i)):=by
 rw[<-yr,R' (fun i j=>ct y (lg i j) ((S j).ta.get i)),<-yr]
 exact nC fun i hi=>hS i hi y
end Go.Eng
set_option linter.constructorNameAsVariable false
namespace Go.Eng
open Go Go.Proofs
theorem aS.set_at{α:Type}(s:aS α){k i:Nat}(hk:k<6)(hi:i<6)(e:α):(s.set k e).get i=if i=k then e else s.get i:=by
 by_cases h:i=k
 ·subst h;rw[if_pos rfl];exact(s.get_set (i:=i) (j:=i) e hk).1
 ·rw[if_neg h];exact(s.get_set (i:=k) (j:=i) e hk).2 hi h
theorem SI{d:Dk}{p t:Int}(he:c7 d p t=0):ay d=true/\(1<=p/\p<=999)/\(0<=t/\t<=5)/\t≠d.me/\p∈d.now.ho/\iV d p t=d.setN (js d.now p t.toNat):=by
 have hV:iV d p t=d.setN (js d.now p t.toNat):=by unfold iV;rw[if_pos he]
 unfold c7 at he
 by_cases h:ay d=true
 ·rw[if_pos h]at he
  by_cases h1:aO p 1 999=true
  ·rw[if_pos h1]at he
   by_cases h2:ez d t=true
   ·rw[if_pos h2]at he
    by_cases h3:nc d p=true
    ·rw[if_pos h3]at he;cases he
    ·have qJ:=h2
     unfold ez at qJ
     rw[Bool.and_eq_true,cp]at qJ
     refine⟨h,cp.1 h1,qJ.1,by simpa using qJ.2,?_,hV⟩
     have hh:bu d.now.ho p=!nc d p:=E3
     rw[Bool.eq_false_iff.2 h3]at hh
     unfold bu at hh
     simpa using hh
   ·rw[if_neg h2]at he;cases he
  ·rw[if_neg h1]at he;cases he
 ·rw[if_neg h]at he;cases he
theorem bW.send{aY:Nat->List Int}{lg:Nat->Nat->List Int}{x:Sx}{n k:Nat}{p t:Int}(h:bW aY lg x n)(hk:k<6)(he:c7 (x.ds.get k) p t=0):∃ dP,bW aY dP (x.set k (iV (x.ds.get k) p t)) n:=by
 obtain⟨hd,hp,ht,Y3,D9,hV⟩:=SI he
 obtain⟨⟨ok,me,_⟩,hf⟩:=Ie hd he
 have hm:=h.me k hk
 obtain⟨j,hj⟩:∃ j,j=t.toNat:=⟨_,rfl⟩
 have xb:j<6:=by omega
 have qx:j≠k:=by intro e;apply Y3;rw[hm];omega
 rw[<-hj]at hV
 rw[hV]at ok me hf |-
 have hlen:=h.len k hk
 have ga:=h.st k hk _ lj
 let dP:Nat->Nat->List Int:=fun a b=>if a=k/\b=j then lg k j++[p]else lg a b
 have l1:∀ a b,a≠k->dP a b=lg a b:=fun a b ha=>if_neg (fun e=>ha e.1)
 have l2:∀ b,b≠j->dP k b=lg k b:=fun b hb=>if_neg (fun e=>hb e.2)
 have l3:dP k j=lg k j++[p]:=if_pos ⟨rfl,rfl⟩
 have l4:∀ b,dP b k=lg b k:=fun b=>if_neg (fun e=>qx e.2.symm)
 have xq:∀ b,b<6->(js (x.ds.get k).now p j).se.get b=if b=j then(x.ds.get k).now.se.get j+1 else(x.ds.get k).now.se.get b:=fun b hb=>aS.set_at _ xb hb _
 have Ng:∀ b,b<6->(js (x.ds.get k).now p j).un.get b=if b=j then(x.ds.get k).now.un.get j++[⟨(x.ds.get k).now.se.get j+1,p⟩]else(x.ds.get k).now.un.get b:=fun b hb=>aS.set_at _ xb hb _
 have Nh:∀ b,b<6->(x.ds.get k).now.se.get b<=(js (x.ds.get k).now p j).se.get b:=fun b hb=>by
  rw[xq b hb];split
  ·next e=>subst e;omega
  ·exact Int.le_refl _
 have BK:∀ b,b<6->∀ q:Par,(lg k b)[(q.no-1).toNat]?=some q.pa->(dP k b)[(q.no-1).toNat]?=some q.pa:=fun b hb q hq=>by
  by_cases eb:b=j
  ·subst eb
   rw[l3,List.getElem?_append_left (List.getElem?_eq_some_iff.1 hq).1];exact hq
  ·rw[l2 b eb];exact hq
 have ct1:∀ y b,b<6->∀ m:Int,m<=(x.ds.get k).now.se.get b->ct y (dP k b) m=ct y (lg k b) m:=fun y b hb m jd=>by
  by_cases eb:b=j
  ·subst eb;rw[l3];exact abG (by rw[hlen b hb];exact jd)
  ·rw[l2 b eb]
 refine⟨dP,h.set hk (Nat.le_refl _) ok (by rw[me];exact hm) l1 (fun b hb=>?_) (fun b hb=>?_) (fun b _=>by rw[hf];exact Int.le_refl _) (fun b _=>by rw[hf];exact Int.le_refl _) (fun s hs=>?_) (fun b hb _=>h.acks b hb k hk) (fun s hs b hb _=>?_) (h.cnt k hk)⟩
 ·show _=(js (x.ds.get k).now p j).se.get b
  rw[xq b hb]
  by_cases eb:b=j
  ·subst eb
   rw[if_pos rfl,l3,List.length_append,<-hlen b hb];rfl
  ·rw[if_neg eb,l2 b eb];exact hlen b hb
 ·by_cases eb:b=j
  ·subst eb
   rw[l3,List.take_append_of_le_length]
   have a:=ga.sl b hb
   have c:=hlen b hb
   omega
  ·rw[l2 b eb]
 ·have Er:((x.ds.get k).setN (js (x.ds.get k).now p j)).now=js (x.ds.get k).now p j:=rfl
  rcases zG hs with rfl | hold
  ·refine⟨?_,fun b hb=>?_,fun b hb=>Int.le_refl _,fun b hb=>?_,fun b hb=>Int.le_refl _,fun b hb q hq=>?_,fun y=>?_⟩
   ·have:=(gH.1 ok).1
    rw[me,hm]at this;exact this
   ·rw[hf];exact Int.le_trans (ga.sl b hb) (Nh b hb)
   ·rw[hf];exact ga.tl b hb
   ·rw[Ng b hb]at hq
    by_cases eb:b=j
    ·subst eb
     rw[if_pos rfl]at hq
     rcases List.mem_append.1 hq with hq | hq
     ·exact BK b hb q (ga.un b hb q hq)
     ·rw[List.mem_singleton]at hq
      subst hq
      rw[l3]
      have :=hlen b hb
      have e:((x.ds.get k).now.se.get b+1-1).toNat=(lg k b).length:=by omega
      show (lg k b++[p])[((x.ds.get k).now.se.get b+1-1).toNat]?=some p
      rw[e,List.getElem?_append_right (Nat.le_refl _),Nat.sub_self];rfl
    ·rw[if_neg eb]at hq
     exact BK b hb q (ga.un b hb q hq)
   ·have o:=ga.co y
    have pk:(fV (x.ds.get k).now.ho p (x.ds.get k).now.ho.length).count y+(if p=y then 1 else 0)=(x.ds.get k).now.ho.count y:=aa1 ga.ok.ri D9
    have hu:=HM (f:=fun b=>ct y (dP k b) ((js (x.ds.get k).now p j).se.get b)) (g:=fun b=>ct y (lg k b) ((x.ds.get k).now.se.get b)) xb (fun b hb eb=>by
     show ct y (dP k b) ((js (x.ds.get k).now p j).se.get b)=ct y (lg k b) ((x.ds.get k).now.se.get b)
     rw[xq b hb,if_neg eb,l2 b eb])
    have hjj:ct y (dP k j) ((js (x.ds.get k).now p j).se.get j)=ct y (lg k j) ((x.ds.get k).now.se.get j)+(if p=y then 1 else 0):=by
     rw[xq j xb,if_pos rfl,l3]
     exact abE y _ p (hlen j xb)
    have hr:bn (fun b=>ct y (dP b k) ((js (x.ds.get k).now p j).ta.get b))=bn (fun b=>ct y (lg b k) ((x.ds.get k).now.ta.get b)):=nC fun b _=>by
     show ct y (dP b k) ((x.ds.get k).now.ta.get b)=_
     rw[l4 b]
    rw[hr]
    show (fV (x.ds.get k).now.ho p (x.ds.get k).now.ho.length).count y+_=_
    omega
  ·have ed:fY (x.ds.get k) s:=by
     rcases hold with h1 | h1
     ·exact .inl h1
     ·exact .inr (.inr h1)
   have o:=h.st k hk s ed
   refine⟨o.ok,fun b hb=>by rw[hf];exact o.sl b hb,fun b hb=>Int.le_trans (o.su b hb) (Nh b hb),fun b hb=>by rw[hf];exact o.tl b hb,fun b hb=>o.tu b hb,fun b hb q hq=>BK b hb q (o.un b hb q hq),fun y=>?_⟩
   rw[nC (g:=fun b=>ct y (lg k b) (s.se.get b)) (fun b hb=>ct1 y b hb _ (o.su b hb)),o.co y]
   congr 1
   exact nC fun b _=>by rw[l4 b]
 ·rcases zG hs with rfl | hold
  ·rw[xq b hb,Ng b hb]
   have c:=h.cov k hk _ lj b hb
   by_cases eb:b=j
   ·subst eb
    rw[if_pos rfl,if_pos rfl,List.length_append]
    simp only[List.length_cons,List.length_nil]
    omega
   ·rw[if_neg eb,if_neg eb];exact c
  ·refine h.cov k hk s ?_ b hb
   rcases hold with h1 | h1
   ·exact .inl h1
   ·exact .inr (.inr h1)
theorem bW.step{aY:Nat->List Int}{lg:Nat->Nat->List Int}{x:Sx}{n m k:Nat}{e:Dk}(h:bW aY lg x n)(hk:k<6)(aq:n<=m)(ok:ay e=true)(me:e.me=(x.ds.get k).me)
 (ga:e.now=(x.ds.get k).now) (gb:fY (x.ds.get k) (aQ e)) (ed:∀ s,fY e s->fY (x.ds.get k) s)
 (hle:∀ s,fY e s->∀ j,j<6->(aQ e).se.get j<=s.se.get j/\(aQ e).ta.get j<=s.ta.get j)
 (cnt:e.pa.co<=(m:Int)+1/\e.pb.co<=(m:Int)+1):bW aY lg (x.set k e) m:=by
 have o:=h.st k hk _ gb
 refine h.set hk aq ok (by rw[me];exact h.me k hk) (fun _ _ _=>rfl) (fun j hj=>by rw[ga];exact h.len k hk j hj) (fun _ _=>rfl) o.sl o.tl (fun s hs=>?_) (fun j hj _=>by rw[ga];exact h.acks j hj k hk) (fun s hs j hj _=>h.cov k hk s (ed s hs) j hj) cnt
 have q:=h.st k hk s (ed s hs)
 exact⟨q.ok,fun j hj=>(hle s hs j hj).1,fun j hj=>by rw[ga];exact q.su j hj,fun j hj=>(hle s hs j hj).2,fun j hj=>by rw[ga];exact q.tu j hj,q.un,q.co⟩
theorem bW.write{aY:Nat->List Int}{lg:Nat->Nat->List Int}{x:Sx}{n k:Nat}(h:bW aY lg x n)(hk:k<6)(hn:n<90000):fx (x.ds.get k)=0/\bW aY lg (x.set k (fw (x.ds.get k))) (n+1):=by
 have hd:=h.ok k hk
 have hc:=h.cnt k hk
 have he:=Q' hd ⟨by omega,by omega⟩
 obtain⟨⟨ok,me,_⟩,hf⟩:=BD hd he
 refine⟨he,h.step hk (by omega) ok me (Q9 he) (by rw[hf];exact xy) (fun s=>Hj hd he) (fun s hs j hj=>?_) ?_⟩
 ·have q:=h.st k hk s (Hj hd he hs)
  rw[hf];exact⟨q.sl j hj,q.tl j hj⟩
 ·have:=Ra hd (n:=(n:Int)+1) hc he
  omega
theorem N0{d:Dk}(h:ay d=true):(jk d).pa=d.pa/\(jk d).pb=d.pb:=by rw[lR h];exact⟨rfl,rfl⟩
theorem bW.dry{aY:Nat->List Int}{lg:Nat->Nat->List Int}{x:Sx}{n k:Nat}(h:bW aY lg x n)(hk:k<6):bW aY lg (x.set k (jk (x.ds.get k))) n:=by
 have hd:=h.ok k hk
 have hc:=h.cnt k hk
 obtain⟨ok,me,_⟩:=(FV hd).1
 refine h.step hk (Nat.le_refl _) ok me (aa6 hd) (FW hd) (fun s hs=>(FX hd hs).1) (fun s hs j hj=>?_) (by rw[(N0 hd).1,(N0 hd).2];exact hc)
 rcases(FX hd hs).2 with rfl | rfl
 ·exact⟨Int.le_refl _,Int.le_refl _⟩
 ·have q:=h.st k hk _ (FW hd)
  exact⟨q.su j hj,q.tu j hj⟩
theorem bW.flood{aY:Nat->List Int}{lg:Nat->Nat->List Int}{x:Sx}{n k:Nat}(c:Int)(h:bW aY lg x n)(hk:k<6):∃ dP,bW aY dP (x.set k (gV (x.ds.get k) c)) n:=by
 have hd:=h.ok k hk
 obtain⟨⟨ok,me,_⟩,_,ga⟩:=FB (n:=c) hd
 have ed:fY (x.ds.get k) (aQ (gV (x.ds.get k) c)):=by
  rcases aaW c hd with e | e
  ·rw[e];exact xy
  ·rw[e];exact FW hd
 have o:=h.st k hk _ ed
 obtain⟨F,hF⟩:∃ F,F=aQ (gV (x.ds.get k) c):=⟨_,rfl⟩
 rw[<-hF]at o ed ga
 have hlen:=h.len k hk
 let dP:Nat->Nat->List Int:=fun a b=>if a=k then(lg k b).take (F.se.get b).toNat else lg a b
 have l1:∀ a b,a≠k->dP a b=lg a b:=fun a b ha=>if_neg ha
 have l2:∀ b,dP k b=(lg k b).take (F.se.get b).toNat:=fun b=>if_pos rfl
 have im:=o.ok.se
 have wN:=o.ok.ta
 refine⟨dP,h.set hk (Nat.le_refl _) ok (by rw[me];exact h.me k hk) l1 (fun b hb=>?_) (fun b hb=>?_) (fun b hb=>by rw[<-hF];exact o.sl b hb) (fun b hb=>by rw[<-hF];exact o.tl b hb) (fun s hs=>?_) (fun b hb _=>?_) (fun s hs b hb _=>?_) ?_⟩
 ·rw[<-ga,l2,List.length_take]
  have a:=hlen b hb
  have q:=o.su b hb
  have :=(im b hb).1
  omega
 ·rw[l2,List.take_take]
  have :=o.sl b hb
  rw[Nat.min_eq_left (by omega)]
 ·have gE:=Nz c hd hs
  rw[<-hF]at gE
  subst gE
  refine⟨o.ok,fun b _=>by rw[<-hF];exact Int.le_refl _,fun b _=>by rw[<-ga];exact Int.le_refl _,fun b _=>by rw[<-hF];exact Int.le_refl _,fun b _=>by rw[<-ga];exact Int.le_refl _,fun b hb q hq=>?_,fun y=>?_⟩
  ·rw[l2,<-o.un b hb q hq,List.getElem?_take,if_pos]
   have a:=ye (o.ok.un b hb).1 q hq
   have c2:1<=q.no:=by
    obtain⟨i,hi,rfl⟩:=List.getElem_of_mem hq
    exact((yf.1 (o.ok.un b hb).1) i hi).2.1
   omega
  ·rw[nC (g:=fun b=>ct y (lg k b) (s.se.get b)) (fun b _=>by rw[l2];exact Ot (Int.le_refl _)),o.co y]
   congr 1
   refine nC fun b hb=>?_
   by_cases eb:b=k
   ·subst eb
    rw[l2,o.ok.d0.2.2,o.ok.d0.2.1]
    exact(Ot (Int.le_refl _)).symm
   ·rw[l1 b k eb]
 ·rw[<-ga]
  exact Int.le_trans (o.tu b hb) (h.acks b hb k hk)
 ·have gE:=Nz c hd hs
  rw[<-hF]at gE
  subst gE
  exact h.cov k hk s ed b hb
 ·rw[(Ny c hd).1,(Ny c hd).2];exact h.cnt k hk
end Go.Eng
set_option linter.constructorNameAsVariable false
namespace Go.Eng
open Go Go.Proofs
theorem bW.same{aY:Nat->List Int}{lg:Nat->Nat->List Int}{x:Sx}{n m:Nat}(h:bW aY lg x n)(aq:n<=m)(l:List Bag)(hl:∀ b∈l,BB lg x b):bW aY lg ⟨x.ds,l⟩ m:=
 ⟨h.ok,h.me,h.len,h.st,h.acks,h.cov,fun b hb=>⟨(hl b hb).ok,(hl b hb).un,(hl b hb).ta⟩,fun i hi=>⟨Int.le_trans (h.cnt i hi).1 (by omega),Int.le_trans (h.cnt i hi).2 (by omega)⟩⟩
theorem bW.mono{aY:Nat->List Int}{lg:Nat->Nat->List Int}{x:Sx}{n m:Nat}(h:bW aY lg x n)(aq:n<=m):bW aY lg x m:=h.same aq x.bs h.bags
theorem acO{d:Dk}{t:Int}(h:ay d=true)(h2:eU d t=0):lW d t=true:=by
 unfold eU at h2
 rw[if_pos h]at h2
 by_cases h3:ez d t=true
 ·unfold lW;rw[h,h3];rfl
 ·rw[if_neg h3]at h2;cases h2
theorem bW.bag{aY:Nat->List Int}{lg:Nat->Nat->List Int}{x:Sx}{n k:Nat}{t:Int}(h:bW aY lg x n)(hk:k<6)(he:eU (x.ds.get k) t=0):BB lg x (ld (x.ds.get k) t):=by
 have hd:=h.ok k hk
 have ha:=acO hd he
 have hV:ld (x.ds.get k) t=⟨(x.ds.get k).me,t,(aQ (x.ds.get k)).un.get t.toNat,(aQ (x.ds.get k)).ta.get t.toNat⟩:=by unfold ld;rw[if_pos ha]
 have hm:=h.me k hk
 unfold lW ez at ha
 simp only[Bool.and_eq_true,cp]at ha
 obtain⟨_,⟨t0,t5⟩,al⟩:=ha
 have al:t≠(x.ds.get k).me:=by simpa using al
 have o:=h.st k hk _ xy
 have o3:t.toNat<6:=by omega
 have u:=o.ok.un _ o3
 have ta:=o.ok.ta _ o3
 rw[hV,hm]
 have lM:=I0.2 u
 rw[Bool.and_eq_true]at lM
 refine⟨?_,fun p hp=>?_,?_⟩
 ·unfold fK
  simp only[Bool.and_eq_true]
  refine⟨⟨⟨⟨cp.2 ⟨by show (0:Int)<=(k:Int);omega,by show (k:Int)<=5;omega⟩,cp.2 ⟨t0,t5⟩⟩,?_⟩,lM.1⟩,cp.2 ta⟩
  show ((k:Int) != t)=true
  simp only[bne_iff_ne,ne_eq]
  rw[hm]at al
  exact fun e=>al e.symm
 ·show (lg (k:Int).toNat t.toNat)[(p.no-1).toNat]?=some p.pa/\p.no<=(aQ (x.ds.get (k:Int).toNat)).se.get t.toNat
  rw[Int.toNat_natCast]
  exact⟨o.un _ o3 p hp,(ye u.1 p hp).2⟩
 ·show _<=(aQ (x.ds.get (k:Int).toNat)).ta.get t.toNat
  rw[Int.toNat_natCast]
  exact Int.le_refl _
theorem bW.pack{aY:Nat->List Int}{lg:Nat->Nat->List Int}{x:Sx}{n k:Nat}{t:Int}(h:bW aY lg x n)(hk:k<6)(he:eU (x.ds.get k) t=0):bW aY lg ⟨x.ds,x.bs++[ld (x.ds.get k) t]⟩ n:=
 h.same (Nat.le_refl _) _ fun b hb=>by
  rcases List.mem_append.1 hb with hb | hb
  ·exact h.bags b hb
  ·rw[List.mem_singleton]at hb
   rw[hb];exact h.bag hk he
structure Qs (aY:Nat->List Int) (lg:Nat->Nat->List Int) (x:Sx) (k:Nat) (s:Stk):Prop where
 co:∀ y,s.ho.count y+bn (fun j=>ct y (lg k j) (s.se.get j))=(aY k).count y+bn (fun j=>ct y (lg j k) (s.ta.get j))
 tu:∀ j,j<6->s.ta.get j<=(aQ (x.ds.get j)).se.get k
 sl:∀ j,j<6->(x.ds.get j).now.ta.get k<=s.se.get j
 d0:s.ta.get k<=s.se.get k
theorem bW.sum{aY:Nat->List Int}{lg:Nat->Nat->List Int}{x:Sx}{n k:Nat}(h:bW aY lg x n)(hk:k<6){s:Stk}(q:Qs aY lg x k s)(y:Int){S:Nat->Stk}(hS:S=fun i=>if i=k then s else(x.ds.get i).now):
 (∀ i,i<6->∀ j,j<6->(S j).ta.get i<=(S i).se.get j)/\bn (fun i=>(S i).ho.count y)+bn (fun i=>bn fun j=>ct y (lg i j) ((S i).se.get j)-ct y (lg i j) ((S j).ta.get i))=bn (fun i=>(aY i).count y):=by
 have gk:S k=s:=by rw[hS];exact if_pos rfl
 have gn:∀ i,i≠k->S i=(x.ds.get i).now:=fun i hi=>by rw[hS];exact if_neg hi
 have hle:∀ i,i<6->∀ j,j<6->(S j).ta.get i<=(S i).se.get j:=fun i hi j hj=>by
  by_cases ei:i=k
  ·subst ei
   by_cases ej:j=i
   ·subst ej;rw[gk];exact q.d0
   ·rw[gk,gn j ej];exact q.sl j hj
  ·rw[gn i ei]
   have f:=(h.st i hi _ lj).sl j hj
   by_cases ej:j=k
   ·subst ej;rw[gk];exact Int.le_trans (q.tu i hi) f
   ·rw[gn j ej];exact Int.le_trans (h.acks i hi j hj) f
 refine⟨hle,?_⟩
 have ht:=h.total y (S:=S) (fun i hi=>by
  by_cases ei:i=k
  ·subst ei;rw[gk];exact q.co
  ·rw[gn i ei];exact(h.st i hi _ lj).co)
 have hd:bn (fun i=>bn fun j=>ct y (lg i j) ((S i).se.get j))=bn (fun i=>bn fun j=>ct y (lg i j) ((S i).se.get j)-ct y (lg i j) ((S j).ta.get i))+bn (fun i=>bn fun j=>ct y (lg i j) ((S j).ta.get i)):=by
  rw[<-yr]
  refine nC fun i hi=>?_
  rw[<-yr]
  refine nC fun j hj=>?_
  have :=Ou y (lg i j) (hle i hi j hj)
  omega
 omega
theorem Jy:∀ {l u:List Int},l.Nodup->(∀ y∈l,y∈u)->l.length<=u.length
 |[],_,_,_=>Nat.zero_le _
 |y::r,u,hn,h=>by
  rw[List.nodup_cons]at hn
  have hy:=h y (List.mem_cons_self ..)
  have :=Jy (l:=r) (u:=u.erase y) hn.2 (fun z hz=>by
   have al:z≠y:=fun e=>hn.1 (e▸hz)
   exact(List.mem_erase_of_ne al).2 (h z (List.mem_cons_of_mem _ hz)))
  rw[List.length_erase_of_mem hy]at this
  have bK:0<u.length:=List.length_pos_iff.2 (List.ne_nil_of_mem hy)
  simp only[List.length_cons]
  omega
structure BA (aY:Nat->List Int):Prop where
 one:∀ y,bn (fun i=>(aY i).count y)<=1
 few:bn (fun i=>(aY i).length)<=40
theorem bW.len40{aY:Nat->List Int}{lg:Nat->Nat->List Int}{x:Sx}{n k:Nat}(hi:BA aY)(h:bW aY lg x n)(hk:k<6){s:Stk}(q:Qs aY lg x k s)(hr:s.ho.Pairwise (· < ·)):s.ho.length<=40:=by
 have hn:s.ho.Nodup:=hr.imp (fun h=>by omega)
 have hu:(aY 0++(aY 1++(aY 2++(aY 3++(aY 4++aY 5))))).length<=40:=by
  have :=hi.few
  simp only[bn]at this
  simp only[List.length_append]
  omega
 refine Nat.le_trans (Jy hn fun y hy=>?_) hu
 obtain⟨S,hS⟩:∃ S:Nat->Stk,S=fun i=>if i=k then s else(x.ds.get i).now:=⟨_,rfl⟩
 have hs:=(h.sum hk q y hS).2
 have gk:S k=s:=by rw[hS];exact if_pos rfl
 have h1:1<=s.ho.count y:=List.count_pos_iff.2 hy
 have h2:(S k).ho.count y<=_:=vQ (f:=fun i=>(S i).ho.count y) hk
 rw[gk]at h2
 have h3:1<=bn (fun i=>(aY i).count y):=by omega
 have hm:∀ i,y∉aY i->(aY i).count y=0:=fun i hi=>List.count_eq_zero_of_not_mem hi
 simp only[List.mem_append]
 by_cases c0:y∈aY 0
 ·exact .inl c0
 by_cases c1:y∈aY 1
 ·exact .inr (.inl c1)
 by_cases c2:y∈aY 2
 ·exact .inr (.inr (.inl c2))
 by_cases c3:y∈aY 3
 ·exact .inr (.inr (.inr (.inl c3)))
 by_cases c4:y∈aY 4
 ·exact .inr (.inr (.inr (.inr (.inl c4))))
 by_cases c5:y∈aY 5
 ·exact .inr (.inr (.inr (.inr (.inr c5))))
 exfalso
 simp only[bn]at h3
 rw[hm 0 c0,hm 1 c1,hm 2 c2,hm 3 c3,hm 4 c4,hm 5 c5]at h3
 omega
structure Bs (aY:Nat->List Int) (lg:Nat->Nat->List Int) (x:Sx) (k f:Nat) (s0 s:Stk):Prop where
 q:Qs aY lg x k s
 ri:s.ho.Pairwise (· < ·)
 se:s.se=s0.se
 un:s.un=s0.un
 ta:∀ j,j<6->j≠f->s.ta.get j=s0.ta.get j
 tf:s0.ta.get f<=s.ta.get f
theorem bW.run{aY:Nat->List Int}{lg:Nat->Nat->List Int}{x:Sx}{n k f:Nat}(hi:BA aY)(h:bW aY lg x n)(hk:k<6)(hf:f<6)(jz:f≠k){ps:List Par}{s0:Stk}(hq:Bs aY lg x k f s0 s0)(t0:0<=s0.ta.get f)
 (hp:∀ p∈ps,(lg f k)[(p.no-1).toNat]?=some p.pa/\p.no<=(aQ (x.ds.get f)).se.get k):∀ z,z<=ps.length->dG f ps s0 z=0/\Bs aY lg x k f s0 (bJ f ps s0 z)
 | 0,_=>⟨rfl,hq⟩
 |z+1,hz=>by
  obtain⟨h1,r⟩:=bW.run hi h hk hf jz hq t0 hp z (by omega)
  obtain⟨s,hs⟩:∃ s,s=bJ f ps s0 z:=⟨_,rfl⟩
  rw[<-hs]at r
  have hg:ps.getD z default=ps[z]'(by omega):=getD_at (by omega)
  obtain⟨p,fB⟩:∃ p,p=ps[z]'(by omega):=⟨_,rfl⟩
  have D9:p∈ps:=by rw[fB];exact List.getElem_mem _
  obtain⟨p1,p2⟩:=hp p D9
  rw[<-fB]at hg
  by_cases hn:dS f s p=true
  ·have dX:p.no=s.ta.get f+1:=by unfold dS at hn;simpa using hn
   have ht:=r.tf
   have xj:s.ho.count p.pa=0:=by
    obtain⟨S,hS⟩:∃ S:Nat->Stk,S=fun i=>if i=k then s else(x.ds.get i).now:=⟨_,rfl⟩
    obtain⟨_,hs⟩:=h.sum hk r.q p.pa hS
    have h5:S k=s:=by rw[hS];exact if_pos rfl
    have h6:S f=(x.ds.get f).now:=by rw[hS];exact if_neg jz
    have h2:(S k).ho.count p.pa<=_:=vQ (f:=fun i=>(S i).ho.count p.pa) hk
    have h3:(bn fun j=>ct p.pa (lg f j) ((S f).se.get j)-ct p.pa (lg f j) ((S j).ta.get f))<=_:=vQ (f:=fun i=>bn fun j=>ct p.pa (lg i j) ((S i).se.get j)-ct p.pa (lg i j) ((S j).ta.get i)) hf
    have h4:ct p.pa (lg f k) ((S f).se.get k)-ct p.pa (lg f k) ((S k).ta.get f)<=_:=vQ (f:=fun j=>ct p.pa (lg f j) ((S f).se.get j)-ct p.pa (lg f j) ((S j).ta.get f)) hk
    rw[h5]at h2
    rw[h5]at h4
    have Nd:ct p.pa (lg f k) ((x.ds.get f).now.se.get k)-ct p.pa (lg f k) (s.ta.get f)<=bn fun j=>ct p.pa (lg f j) ((S f).se.get j)-ct p.pa (lg f j) ((S j).ta.get f):=by rw[<-h6];exact h4
    have mC:=(h.st f hf _ lj).sl k hk
    have hm:=Ou p.pa (lg f k) (show s.ta.get f+1<=(x.ds.get f).now.se.get k by omega)
    rw[Gp (y:=p.pa) (by omega) (by rw[<-p1];congr 1;omega),if_pos rfl]at hm
    have :=hi.one p.pa
    omega
   have hh:bu s.ho p.pa=false:=by
    unfold bu
    rw[List.contains_eq_mem,decide_eq_false_iff_not]
    exact fun hm=>absurd (List.count_pos_iff.2 hm) (by omega)
   have bG:bJ f ps s0 (z+1)=⟨b8 s.ho p.pa,s.un,s.se,s.ta.set f (s.ta.get f+1)⟩:=by
    show iR f (bJ f ps s0 z) (ps.getD z default)=_
    rw[<-hs,hg]
    unfold iR
    rw[if_pos hn]
   have pf:∀ j,j<6->(s.ta.set f (s.ta.get f+1)).get j=if j=f then s.ta.get f+1 else s.ta.get j:=fun j hj=>aS.set_at _ hf hj _
   have hr:Bs aY lg x k f s0 ⟨b8 s.ho p.pa,s.un,s.se,s.ta.set f (s.ta.get f+1)⟩:=by
    refine⟨⟨fun y=>?_,fun j hj=>?_,r.q.sl,?_⟩,Dx r.ri hh,r.se,r.un,fun j hj al=>?_,?_⟩
    ·have o:=r.q.co y
     have hu:=HM (f:=fun j=>ct y (lg j k) ((s.ta.set f (s.ta.get f+1)).get j)) (g:=fun j=>ct y (lg j k) (s.ta.get j)) hf (fun j hj al=>by
      show ct y (lg j k) ((s.ta.set f (s.ta.get f+1)).get j)=_
      rw[pf j hj,if_neg al])
     rw[pf f hf,if_pos rfl,Gp (y:=p.pa) (by omega) (by rw[<-p1];congr 1;omega)]at hu
     have hc:=Yu s.ho p.pa y
     show (b8 s.ho p.pa).count y+bn (fun j=>ct y (lg k j) (s.se.get j))=(aY k).count y+bn (fun j=>ct y (lg j k) ((s.ta.set f (s.ta.get f+1)).get j))
     omega
    ·show (s.ta.set f (s.ta.get f+1)).get j<=_
     rw[pf j hj]
     split
     ·next e=>subst e;omega
     ·exact r.q.tu j hj
    ·show (s.ta.set f (s.ta.get f+1)).get k<=s.se.get k
     rw[pf k hk,if_neg (Ne.symm jz)];exact r.q.d0
    ·show (s.ta.set f (s.ta.get f+1)).get j=_
     rw[pf j hj,if_neg al];exact r.ta j hj al
    ·show _<=(s.ta.set f (s.ta.get f+1)).get f
     rw[pf f hf,if_pos rfl];omega
   have hlen:=bW.len40 hi h hk hr.q hr.ri
   rw[bG]
   refine⟨?_,hr⟩
   show (if dG f ps s0 z=0 then eF f (bJ f ps s0 z) (ps.getD z default)else dG f ps s0 z)=0
   rw[if_pos h1,<-hs,hg]
   exact Je f s p hn hh (by show ¬ 40<(b8 s.ho p.pa).length;have h9:(b8 s.ho p.pa).length<=40:=hlen;omega)
  ·have hn:dS f s p=false:=by simpa using hn
   have bG:bJ f ps s0 (z+1)=s:=by
    show iR f (bJ f ps s0 z) (ps.getD z default)=_
    rw[<-hs,hg]
    unfold iR
    rw[if_neg (by rw[hn];decide)]
   rw[bG]
   refine⟨?_,r⟩
   show (if dG f ps s0 z=0 then eF f (bJ f ps s0 z) (ps.getD z default)else dG f ps s0 z)=0
   rw[if_pos h1,<-hs,hg]
   exact Jd f s p hn
theorem bW.open{aY:Nat->List Int}{lg:Nat->Nat->List Int}{x:Sx}{n k:Nat}{b:Bag}(hi:BA aY)(h:bW aY lg x n)(hb:BB lg x b)(hk:k=b.to.toNat):gA (x.ds.get k) b=0/\bW aY lg (x.set k (gL (x.ds.get k) b)) n:=by
 obtain⟨f6,t6,al,f0,t0,lM,RV⟩:=O9 hb.ok
 have gR:k<6:=by omega
 have hd:=h.ok k gR
 have hm:=h.me k gR
 have lq:jh (x.ds.get k) b=true:=by
  unfold jh
  rw[Bool.and_eq_true,hb.ok,hm,beq_iff_eq]
  exact⟨rfl,by omega⟩
 have nI:=h.st k gR _ lj
 have jz:b.fr.toNat≠k:=by omega
 obtain⟨f,hf⟩:∃ f,f=b.fr.toNat:=⟨_,rfl⟩
 have Zb:Bs aY lg x k f (bO (x.ds.get k) b) (bO (x.ds.get k) b):=⟨⟨nI.co,fun j hj=>h.acks j hj k gR,fun j hj=>Int.le_trans (h.acks k gR j hj) (nI.sl j hj),by
  have d:=nI.ok.d0
  show (x.ds.get k).now.ta.get k<=(x.ds.get k).now.se.get k
  rw[d.2.1,d.2.2];exact Int.le_refl _⟩,nI.ok.ri,rfl,rfl,fun _ _ _=>rfl,Int.le_refl _⟩
 have qm:=hb.un
 rw[<-hk,<-hf]at qm
 rw[<-hf]at f6 jz
 have cD:=bW.run hi h gR f6 jz Zb (nI.ok.ta f f6).1 qm b.ps.length (Nat.le_refl _)
 rw[hf]at cD
 obtain⟨he,r⟩:=cD
 rw[<-hf]at r
 obtain⟨_,hE⟩:=CD hd lq he
 refine⟨hE,?_⟩
 obtain⟨⟨⟨ok,me,_⟩,gb⟩,_,_,hV⟩:=CE hd hE
 rw[hV]at ok me gb |-
 rw[<-hf]at ok me gb |-
 obtain⟨s,hs⟩:∃ s,s=bJ f b.ps (bO (x.ds.get k) b) b.ps.length:=⟨_,rfl⟩
 rw[<-hs]at ok me gb r |-
 have im:∀ j,s.se.get j=(x.ds.get k).now.se.get j:=fun j=>by rw[r.se];rfl
 have wN:∀ j,j<6->(x.ds.get k).now.ta.get j<=s.ta.get j:=fun j hj=>by
  by_cases e:j=f
  ·subst e;exact r.tf
  ·rw[r.ta j hj e];exact Int.le_refl _
 have Y9:fc (k:Int) s:=by
  have :=(gH.1 ok).1
  rw[me,hm]at this;exact this
 have L5:∀ j,j<6->s.un.get j=if j=f then fe ((x.ds.get k).now.un.get f) b.ta ((x.ds.get k).now.un.get f).length else(x.ds.get k).now.un.get j:=fun j hj=>by
  rw[r.un]
  show ((x.ds.get k).now.un.set b.fr.toNat _).get j=_
  rw[<-hf]
  exact aS.set_at _ f6 hj _
 have hold:∀ t,t=aQ (x.ds.get k)\/(0<=(x.ds.get k).wet/\t=((x.ds.get k).pg (x.ds.get k).wet.toNat).st)->fY (x.ds.get k) t:=fun t ht=>by
  rcases ht with h1 | h1
  ·exact .inl h1
  ·exact .inr (.inr h1)
 refine h.set gR (Nat.le_refl _) ok (by rw[me];exact hm) (fun _ _ _=>rfl) (fun j hj=>by show _=s.se.get j;rw[im];exact h.len k gR j hj) (fun _ _=>rfl) (fun j _=>by rw[gb];exact Int.le_refl _) (fun j _=>by rw[gb];exact Int.le_refl _) (fun t ht=>?_) (fun j hj _=>r.q.tu j hj) (fun t ht j hj _=>?_) (h.cnt k gR)
 ·rcases zG ht with rfl | ht
  ·refine⟨Y9,fun j hj=>by rw[gb,im];exact nI.sl j hj,fun j _=>Int.le_refl _,fun j hj=>by rw[gb];exact Int.le_trans (nI.tl j hj) (wN j hj),fun j _=>Int.le_refl _,fun j hj p hp=>?_,r.q.co⟩
   rw[L5 j hj]at hp
   split at hp
   ·next e=>
    subst e
    unfold fe at hp
    rw[List.take_length]at hp
    exact nI.un j hj p (List.mem_filter.1 hp).1
   ·exact nI.un j hj p hp
  ·have o:=h.st k gR t (hold t ht)
   exact⟨o.ok,fun j hj=>by rw[gb];exact o.sl j hj,fun j hj=>by show _<=s.se.get j;rw[im];exact o.su j hj,fun j hj=>by rw[gb];exact o.tl j hj,fun j hj=>Int.le_trans (o.tu j hj) (wN j hj),o.un,o.co⟩
 ·rcases zG ht with rfl | ht
  ·have c:=h.cov k gR _ lj j hj
   rw[im,L5 j hj]
   split
   ·next e=>
    subst e
    rcases RC (ta:=b.ta) (nI.ok.un j hj).1 with h1 | h1
    ·omega
    ·have h2:=hb.ta
     rw[<-hk,<-hf]at h2
     omega
   ·exact c
  ·exact h.cov k gR t (hold t ht) j hj
end Go.Eng
set_option linter.constructorNameAsVariable false
namespace Go.Eng
open Go Go.Proofs
def ini0(i:Nat):List Int:=bV (i:Int)
theorem Dz:BA ini0:=by
 refine⟨fun y=>?_,by decide⟩
 have hN:(ini0 0++(ini0 1++(ini0 2++(ini0 3++(ini0 4++ini0 5))))).Nodup:=by decide
 have hc:=hN.count (a:=y)
 simp only[List.count_append]at hc
 simp only[bn]
 split at hc<;>omega
structure mg (n:Nat) (x:Sx):Prop where
 ok:mh x n
 wl:∃ lg,bW ini0 lg x n
theorem Cw{me:Int}{s:Stk}(h:fc me s)(n:Int):1<=ia s.ho n/\ia s.ho n<=999:=by
 unfold ia
 split
 ·exact⟨by decide,by decide⟩
 ·next al=>
  have bK:0<s.ho.length:=List.length_pos_iff.2 al
  have g0:=Int.emod_nonneg n (by omega:(s.ho.length:Int)≠0)
  have g1:=Int.emod_lt_of_pos n (by omega:(0:Int)<(s.ho.length:Int))
  rw[getD_at (show (n % (s.ho.length:Int)).toNat<s.ho.length by omega)]
  exact h.rn _ (List.getElem_mem _)
theorem B'{d:Dk}{p t:Int}(h:ay d=true)(hp:1<=p/\p<=999):c7 d p t=0\/c7 d p t=94\/c7 d p t=95\/c7 d p t=2:=by
 unfold c7
 rw[if_pos h,if_pos (cp.2 hp)]
 split
 ·split
  ·exact .inr (.inr (.inl rfl))
  ·split
   ·exact .inr (.inr (.inr rfl))
   ·exact .inl rfl
 ·exact .inr (.inl rfl)
theorem ask_cases{d:Dk}{t:Int}(h:ay d=true)(ht:0<=t/\t<6):eU d t=0\/(eU d t=94/\t=d.me):=by
 unfold eU
 rw[if_pos h]
 split
 ·exact .inl rfl
 ·next hn=>
  refine .inr ⟨rfl,?_⟩
  unfold ez at hn
  rw[Bool.and_eq_true,cp]at hn
  by_cases e:t=d.me
  ·exact e
  ·exact absurd ⟨⟨ht.1,by omega⟩,by simpa using e⟩ hn
theorem mg.act{n:Nat}{x:Sx}(h:mg n x)(hn:n<90000)(y:Act):mg (n+1) (iA x y):=by
 refine⟨N2 h.ok,?_⟩
 obtain⟨lg,w⟩:=h.wl
 have hk:=F3 y
 have hd:=h.ok.ok _ hk
 by_cases c1:dI y<=2
 ·have hm:0<=dI y:=by unfold dI;omega
  rw[xF (by omega)]
  split
  ·next he=>
   obtain⟨dP,w'⟩:=w.send hk he
   exact⟨dP,w'.mono (Nat.le_succ _)⟩
  ·exact⟨lg,w.mono (Nat.le_succ _)⟩
 by_cases c2:dI y<=4
 ·rw[AM (by omega),if_pos (w.write hk hn).1]
  exact⟨lg,(w.write hk hn).2⟩
 by_cases c3:dI y<=6
 ·rw[AN (by omega),if_pos (eT hd)]
  exact⟨lg,(w.dry hk).mono (Nat.le_succ _)⟩
 by_cases c4:dI y<=7
 ·rw[F2 (by omega),if_pos (eT hd)]
  obtain⟨dP,w'⟩:=w.flood y.pi hk
  exact⟨dP,w'.mono (Nat.le_succ _)⟩
 by_cases c5:dI y<=10
 ·rw[xG (by omega)]
  split
  ·next he=>exact⟨lg,(w.pack hk he).mono (Nat.le_succ _)⟩
  ·exact⟨lg,w.mono (Nat.le_succ _)⟩
 by_cases c6:x.bs=[]
 ·rw[F1 (by omega) c6]
  exact⟨lg,w.mono (Nat.le_succ _)⟩
 ·rw[F0 (by omega) c6]
  have ho:=w.open Dz (w.bags _ (AO (y:=y) c6)) rfl
  rw[if_pos ho.1]
  exact⟨lg,ho.2.mono (Nat.le_succ _)⟩
theorem mg.open0{n:Nat}{x:Sx}(h:mg n x){y:Act}(hb:x.bs≠[]):gA (x.ds.get (jD x y).to.toNat) (jD x y)=0:=by
 obtain⟨lg,w⟩:=h.wl
 exact(w.open Dz (w.bags _ (AO (y:=y) hb)) rfl).1
theorem mg.write0{n:Nat}{x:Sx}(h:mg n x)(hn:n<90000){k:Nat}(hk:k<6):fx (x.ds.get k)=0:=by
 obtain⟨lg,w⟩:=h.wl
 exact(w.write hk hn).1
theorem aiy(x:Int)(l:List Int):ct x l 0=0:=rfl
theorem acz:mg 0 (jn 6):=by
 refine⟨vC,fun _ _=>[],?_⟩
 have e:∀ i,i<6->(jn 6).ds.get i=gM i (bV i):=fun i hi=>
  gK (P:=fun i=>(jn 6).ds.get i=gM i (bV i)) rfl rfl rfl rfl rfl rfl hi
 have z:∀ {α:Type} (x:α) (i:Nat),(ek fun _=>x).get i=x:=fun x i=>by
  unfold aS.get ek
  split<;>rfl
 have gb:∀ i:Nat,i<6->aQ (gM i (bV i))=dr (bV i):=fun i hi=>by
  have aa:=vC.ok i hi
  rw[e i hi]at aa
  have ga:=(gH.1 aa).1
  have ha:aG (i:Int) ⟨1,dr (bV i),dK (dr (bV i)) 1⟩=true:=wg ga ⟨by decide,by decide⟩
  have g:g0 (gM i (bV i))=true:=by
   show ((0:Int) != -1&&aG (i:Int) ⟨1,dr (bV i),dK (dr (bV i)) 1⟩)=true
   rw[ha];rfl
  have hf:bj (gM i (bV i))=0:=by
   rw[vl,g,show decide ((gM i (bV i)).pb.co>(gM i (bV i)).pa.co)=false from rfl]
   simp
  unfold aQ
  rw[hf];rfl
 have ed:∀ i:Nat,i<6->∀ s,fY (gM i (bV i)) s->s=dr (bV i):=fun i hi s hs=>by
  rcases hs with h | h | ⟨h,_⟩
  ·rw[h,gb i hi]
  ·exact h
  ·exact absurd h (by show ¬ (0:Int)<= -1;omega)
 refine⟨vC.ok,vC.me,fun i hi j hj=>?_,fun i hi s hs=>?_,fun i hi j hj=>?_,fun i hi s hs j hj=>?_,fun b hb=>?_,fun i hi=>?_⟩
 ·rw[e i hi]
  show (0:Int)=(dr (bV i)).se.get j
  exact(z _ _).symm
 ·rw[e i hi]at hs |-
  have :=ed i hi s hs
  subst this
  have aa:=vC.ok i hi
  rw[e i hi]at aa
  have ga:=(gH.1 aa).1
  refine⟨ga,fun j _=>by rw[gb i hi];exact Int.le_refl _,fun j _=>Int.le_refl _,fun j _=>by rw[gb i hi];exact Int.le_refl _,fun j _=>Int.le_refl _,fun j _ p hp=>?_,fun y=>?_⟩
  ·rw[show (dr (bV i)).un.get j=[]from z _ _]at hp;cases hp
  ·show (bV (i:Int)).count y+_=(bV (i:Int)).count y+_
   congr 1
 ·rw[e i hi,e j hj,gb i hi]
  show (dr (bV j)).ta.get i<=(dr (bV i)).se.get j
  rw[show (dr (bV j)).ta.get i=0 from z _ _,show (dr (bV i)).se.get j=0 from z _ _]
  exact Int.le_refl _
 ·rw[e i hi]at hs
  have :=ed i hi s hs
  subst this
  rw[e j hj,gb j hj,show (dr (bV i)).se.get j=0 from z _ _,show (dr (bV i)).un.get j=[]from z _ _,show (dr (bV j)).ta.get i=0 from z _ _]
  decide
 ·rw[A3]at hb;cases hb
 ·rw[e i hi]
  exact⟨by show (1:Int)<=((0:Nat):Int)+1;decide,by show (0:Int)<=((0:Nat):Int)+1;decide⟩
theorem yp(l:List Act):∀ z,z<90000->mg z (tP l z)
 | 0,_=>acz
 |z+1,h=>(yp l z (by omega)).act (by omega) _
set_option maxRecDepth 100000
def LX:En Sx:=⟨fun x=>.agg (cP x),fun v=>⟨ek fun i=>pD (((V.L v).drop (i*63)).take 63),match (V.L v).getD 378 default with | .sl l=>l.map oc | _=>[]⟩⟩
theorem YF(x:Sx):LX.dec (.agg (cP x))=x:=by
 show (⟨ek fun i=>pD (((cP x).drop (i*63)).take 63),match (cP x).getD 378 default with | .sl l=>l.map oc | _=>[]⟩:Sx)=x
 have e:(ek fun i=>pD (((cP x).drop (i*63)).take 63))=x.ds:=H0 fun i hi=>by
  have :(ek fun i=>pD (((cP x).drop (i*63)).take 63)).get i=pD (((cP x).drop (i*63)).take 63):=
   gK (P:=fun j=>(ek fun i=>pD (((cP x).drop (i*63)).take 63)).get j=pD (((cP x).drop (j*63)).take 63)) rfl rfl rfl rfl rfl rfl hi
  rw[this,HJ x hi,Gg]
 rw[e,R5]
 obtain⟨ds,bs⟩:=x
 show (⟨ds,(bs.map fX).map oc⟩:Sx)=_
 rw[rZ vw]
@[go_sem] theorem ahy(x:Sx):LX.dec (.agg (cP x))=x:=YF x
theorem agk(x:Sx){i:Nat}(h:i<6):List.take 63 (List.drop (i*63) (List.map D.v (cP x)))=List.map D.v (an (x.ds.get i)):=by
 rw[<-List.map_drop,<-List.map_take,HJ x h]
theorem ago(x:Sx):(List.map D.v (cP x)).getD 378 .any=.v (.sl (x.bs.map fX)):=by kernel_rfl
theorem agp(x:Sx):List.take 1 (List.drop 378 (List.map D.v (cP x)))=[.v (.sl (x.bs.map fX))]:=by kernel_rfl
@[go_sem] theorem ajC(a:Act):(kb a).take 5=kb a:=rfl
theorem CF(l:List Bag):∀ y∈l.map fX,y.cells.length=4/\y.okc=true:=by
 intro y hy;obtain⟨x,_,rfl⟩:=List.mem_map.1 hy;exact⟨rfl,rfl⟩
def vB(x:Sx)(nm:Name)(n:Nat):List D:=List.take 378 (List.map D.v (cP x))++[.msl nm n]
theorem ajc(x:Sx)(nm:Name)(n:Nat):List.take 378 (List.map D.v (cP x))++[.msl nm n]=vB x nm n:=rfl
theorem ajf(x:Sx)(nm:Name)(n:Nat):(vB x nm n)[378]?=some (.msl nm n):=by kernel_rfl
@[go_sem] theorem aje(dom:Name->Bool)(x:Sx)(nm:Name)(n:Nat):D.closL dom (vB x nm n)=dom nm:=by
  unfold vB
  rw[<-List.map_take]
  have h:∀ l:List V,D.closL dom (l.map D.v++[.msl nm n])=dom nm:=fun l=>by
   induction l with
   |nil=>show (D.clos dom (.msl nm n)&&true)=_;rw[Bool.and_true];rfl
   |cons a r ih=>show (true&&D.closL dom (r.map D.v++[.msl nm n]))=_;rw[Bool.true_and,ih]
  exact h _
theorem acq(x:Sx)(nm:Name)(n:Nat)(l:List Bag):(vB x nm n).set 378 (.v (.sl (l.map fX)))=List.map D.v (cP ⟨x.ds,l⟩):=by kernel_rfl
theorem ajd(x:Sx)(nm:Name)(n:Nat)(b:Bag):(vB x nm n).set 378 (.v (.sl (List.map fX x.bs++[.agg (aX b)])))=List.map D.v (cP ⟨x.ds,x.bs++[b]⟩):=by
 have :=acq x nm n (x.bs++[b])
 rw[List.map_append]at this
 exact this
noncomputable def P':List (Nat×Spec):=[(12,S21),(30,S109)]
theorem ajQ:∀ f s,tbl P' f=some s->ak Tryd.prog f s:=tc zy<|tc LJ<|tn
attribute [go_sem] P'
def s9(a:Act):V:=.agg (kb a)
def zL:En (List Act):=⟨fun l=>.sl (l.map s9),fun v=>match v with | .sl l=>l.map sa.dec | _=>[]⟩
theorem YK(l:List Act):(l.map s9).map sa.dec=l:=rZ (fun _=>rfl) l
@[go_sem] theorem YJ(l:List Act):zL.dec (.sl (l.map s9))=l:=YK l
def nA(l:List Act):Nat:=min l.length 40
theorem ac1{l:List Act}{i:Nat}(h:i<l.length):(l.map s9).getD i default=.agg (kb (l.getD i default)):=by
 simp[List.getD_eq_getElem?_getD,List.getElem?_eq_getElem h,s9]
@[go_sem] theorem ag5(g:V)(fl:Bool)(xs:List V):(p0 g fl).fn xs=g:=rfl
@[go_sem] theorem ag4(g:V)(fl:Bool)(xs:List V):(p0 g fl).pre xs=(xs=[]):=rfl
noncomputable def P9:List (Nat×Spec):=[]
theorem ajP:∀ f s,tbl P9 f=some s->ak Tryd.prog f s:=tn
attribute [go_sem] P9
def cw(x:Sx):List V:=[.sl (x.ds.L encDk),.sl (x.bs.map fX)]
def uL:En Sx:=⟨fun x=>.agg (cw x),fun v=>match v with | .agg [.sl a,.sl b]=>⟨ek fun i=>lU (a.getD i default),b.map oc⟩ | _=>⟨ek fun _=>default,[]⟩⟩
@[go_sem] theorem ad5(x:Sx):(cw x).length=2:=rfl
@[go_sem] theorem ad6(x:Sx):(cw x).take 2=cw x:=rfl
@[go_sem] theorem adZ(x:Sx):((cw x).map D.v).length=2:=rfl
@[go_sem] theorem ad2(x:Sx):((cw x).map D.v).take 2=(cw x).map D.v:=rfl
@[go_sem] theorem ad0(x:Sx):((cw x).map D.v).drop 2=[]:=rfl
@[go_sem] theorem ad8(x:Sx):(cw x).getD 0 default=.sl (x.ds.L encDk):=rfl
@[go_sem] theorem ad7(x:Sx):(cw x).getD 1 default=.sl (x.bs.map fX):=rfl
@[go_sem] theorem ad4(x:Sx):((cw x).map D.v).getD 0 .any=.v (.sl (x.ds.L encDk)):=rfl
@[go_sem] theorem ad3(x:Sx):((cw x).map D.v).getD 1 .any=.v (.sl (x.bs.map fX)):=rfl
theorem YE(x:Sx):uL.dec (.agg (cw x))=x:=by
 show (⟨ek fun i=>lU ((x.ds.L encDk).getD i default),(x.bs.map fX).map oc⟩:Sx)=x
 have e:(ek fun i=>lU ((x.ds.L encDk).getD i default))=x.ds:=H0 fun i hi=>by
  have :(ek fun i=>lU ((x.ds.L encDk).getD i default)).get i=lU ((x.ds.L encDk).getD i default):=
   gK (P:=fun j=>(ek fun i=>lU ((x.ds.L encDk).getD i default)).get j=lU ((x.ds.L encDk).getD j default)) rfl rfl rfl rfl rfl rfl hi
  rw[this,aS.L_get _ _ _ hi,Gf]
 rw[e,rZ vw]
@[go_sem] theorem ahx(x:Sx):uL.dec (.agg (cw x))=x:=YE x
def oe:Nat->List Dk
 | 0=>[]
 |z+1=>oe z++[gM z (bV z)]
theorem O8:∀ z,(oe z).length=z
 | 0=>rfl
 |z+1=>by
  show (oe z++[_]).length=z+1
  rw[List.length_append,O8 z];rfl
theorem ajo:(oe 6).map encDk=(jn 6).ds.L encDk:=by rfl
theorem Vr{i:Nat}(hi:i<6):p9 i (bV i)=gM i (bV i)/\p8 i (bV i)=0/\((i:Int)<=5):=
 gK (P:=fun i=>p9 (i:Int) (bV i)=gM i (bV i)/\p8 i (bV i)=0/\((i:Int)<=5)) ⟨rfl,rfl,by decide⟩ ⟨rfl,rfl,by decide⟩ ⟨rfl,rfl,by decide⟩ ⟨rfl,rfl,by decide⟩ ⟨rfl,rfl,by decide⟩ ⟨rfl,rfl,by decide⟩ hi
theorem wd0:cw (jn 6)=[.sl ((jn 6).ds.L encDk),.sl []]:=rfl
noncomputable def PY:List (Nat×Spec):=[(29,S108),(11,S37)]
theorem adj:∀ f s,tbl PY f=some s->ak Tryd.prog f s:=tc Ds<|tc X2<|tn
attribute [go_sem] PY
noncomputable def P507:PSpec:=p0 (.tup [.agg (cw (jn 6)),.bool true]) false
noncomputable def S507:Spec:=P507.toSpec
attribute [go_sem] P507 S507
set_option maxHeartbeats 8000000 in
theorem TK:aR Tryd.prog 7 P507:=by
 refine w0 (rs:=[.cell 0 26,.tmp 1]) Tryd.func7 Tryd.ntmps7 (by rfl) (by kernel_rfl) (by decide) (fun h=>by cases h) ⟨_,rfl,lb rfl,fun hp hw=>?_⟩
 have hP:=be
 have hΓ:=adj
 repeat refine sq ?_
 refine rx hΓ [0] [[0,0],[24,0]] (fun K' hK=>by simp only[go_sem];(repeat (refine⟨ah,?_⟩));exact hK _ (by simp only[go_sem]) (by simp only[go_sem]<;>rfl)) ?_
 repeat refine sq ?_
 refine rx hΓ [0,2] [[0,0],[2,0],[24,0]] (fun K' hK=>by simp only[go_sem];(repeat (refine⟨ah,?_⟩));exact hK _ (by simp only[go_sem]) (by simp only[go_sem]<;>rfl)) ?_
 refine aL (Rt [2,0] [24,0] 0 63 _ rfl rfl rfl [0,2] [[0,0],[2,0],[24,0]] ?_ rfl) ?_
 ·simp only[go_sem,List.set_cons_succ,List.set_cons_zero]
 simp only[go_sem,List.set_cons_succ,List.set_cons_zero]
 repeat refine sq ?_
 refine rx hΓ [0,2,3] [[0,0],[2,0],[24,0]] (fun K' hK=>by simp only[go_sem];(repeat (refine⟨ah,?_⟩));exact hK _ (by simp only[go_sem]) (by simp only[go_sem]<;>rfl)) ?_
 repeat refine sq ?_
 refine aN ?_
 repeat refine sq ?_
 refine cN (fun z:Nat=>[(3,⟨true,.v (vInt z)⟩)]) (fun z=>[([2,0],.box [.msl [24,0] (oe z).length,.nilsl]),([24,0],.arr 63 ((oe z).map encDk))]) (fun z=>z<=6) (fun z=>6-z) 0 ?_ ?_ ?_ ?_
 ·exact Nat.zero_le _
 ·rfl
 ·rfl
 rintro i hi
 simp only[go_sem]
 repeat refine sq ?_
 refine rx hΓ [0,2,3,7] [[0,0],[2,0],[24,0]] (fun K' hK=>by simp only[go_sem];(repeat (refine⟨ah,?_⟩));exact hK _ (by simp only[go_sem]) (by simp only[go_sem]<;>rfl)) ?_
 repeat refine sq ?_
 refine au rfl rfl (fun hb=>?_) (fun hb=>?_)
 ·have ae:i<6:=by have hq:(i:Int)<6:=(by simpa using hb);omega
  have ai:(i:Int)<6:=by omega
  clear hb
  have hr:(0:Int)<=(i:Int)/\(i:Int)<6:=⟨by omega,by omega⟩
  obtain⟨e1,e2,_⟩:=Vr ae
  have e3:=O8 i
  repeat refine sq ?_
  refine ax ?_
  repeat refine sq ?_
  refine aN ?_
  repeat refine sq ?_
  refine rx hΓ [0,2,3,4,5] [[0,0],[2,0],[4,0],[24,0]] (fun K' hK=>by simp only[go_sem,Int.toNat_natCast,Int.natCast_nonneg,ai,Int.toNat_natCast,Int.natCast_nonneg,ai,hr,e1,e2,List.append_nil];(repeat (refine⟨by first | exact hr | exact ah,?_⟩));exact hK _ (by simp only[go_sem]) (by simp only[go_sem]<;>rfl)) ?_
  repeat refine sq ?_
  refine rx hΓ [0,2,3,4,18] [[0,0],[2,0],[4,0],[24,0]] (fun K' hK=>by simp only[go_sem,Int.toNat_natCast,Int.natCast_nonneg,ai,e2];(repeat (refine⟨ah,?_⟩));exact hK _ (by simp only[go_sem]) (by simp only[go_sem]<;>rfl)) ?_
  repeat refine sq ?_
  refine au rfl rfl (fun hb=>?_) (fun hb=>?_)
  ·cases hb
  ·repeat refine sq ?_
   refine ax ?_
   repeat refine sq ?_
   refine aP hΓ fun K' hK=>?_
   simp only[go_sem,Int.toNat_natCast,Int.natCast_nonneg,ai,List.map_append,List.length_append,List.map_cons,List.map_nil,List.length_cons,List.length_nil]
   repeat (refine⟨ah,?_⟩)
   refine hK _ ?_
   clear K' hK
   simp only[go_sem]
   refine kp [0,2,3] [[0,0],[2,0],[24,0]] ?_
   repeat refine sq ?_
   refine aP hΓ fun K' hK=>?_
   simp only[go_sem,Int.toNat_natCast,Int.natCast_nonneg,ai]
   repeat (refine⟨ah,?_⟩)
   refine hK _ ?_
   clear K' hK
   simp only[go_sem]
   refine⟨i+1,ae,by(show 6-(i+1)<6-i;omega),?_⟩
   refine bk [0,2,3] [[0,0],[2,0],[24,0]] ?_ ?_
   ·simp only[go_sem,aF ae (lb rfl:(6:Nat)<=maxLen),Int.natCast_add,Int.natCast_one,show oe (i+1)=oe i++[gM i (bV i)]from rfl,List.map_append,List.length_append,List.map_cons,List.map_nil,List.length_cons,List.length_nil]
   ·simp only[go_sem,aF ae (lb rfl:(6:Nat)<=maxLen),Int.natCast_add,Int.natCast_one,show oe (i+1)=oe i++[gM i (bV i)]from rfl,List.map_append,List.length_append,List.map_cons,List.map_nil,List.length_cons,List.length_nil]
 ·have bb:i=6:=by
   have :¬ (i:Int)<6:=by simpa using hb
   omega
  clear hb
  subst bb
  repeat refine sq ?_
  refine cr ?_
  simp only[go_sem]
  refine kp [0,2] [[0,0],[2,0],[24,0]] ?_
  repeat refine sq ?_
  refine rx hΓ [0,1] [[0,0],[24,0]] (fun K' hK=>by simp only[go_sem,List.append_nil];(repeat (refine⟨ah,?_⟩));exact hK _ (by simp only[go_sem]) (by simp only[go_sem]<;>rfl)) ?_
  refine aL (ey [0,0] [24,0] 0 _ _ _ _ rfl rfl rfl (by first | rfl | (simp only[List.length_map,List.length_map];done)) [0,1] [[0,0]] ?_ rfl) ?_
  ·simp only[go_sem,List.set_cons_succ,List.set_cons_zero,List.length_map]
  simp only[go_sem,List.set_cons_succ,List.set_cons_zero,List.length_map]
  refine aL (oy [0,0] _ (cw (jn 6)) rfl rfl [0,1] [[0,0]] ?_ rfl) ?_
  ·simp only[go_sem]
  simp only[go_sem]
  refine ar ?_
  simp only[go_sem]
  skip
theorem XZ:ak Tryd.prog 7 S507:=TK.sound
end Go.Eng
set_option linter.constructorNameAsVariable false
namespace Go.Eng
open Go Go.Proofs
def dz(x:Sx):List Dk:=x.ds.L id
theorem N1(x:Sx):(dz x).length=6:=rfl
theorem ahQ(x:Sx):(dz x).map encDk=x.ds.L encDk:=rfl
theorem AL(x:Sx){i:Nat}(h:i<6):(dz x).getD i default=x.ds.get i:=aS.L_get x.ds id default h
theorem xE(x:Sx){i:Nat}(h:i<(dz x).length):(dz x)[i]=x.ds.get i:=by
 rw[<-getD_at (z:=default) h]
 exact AL x (by rw[N1]at h;exact h)
theorem aa8{n:Nat}{x:Sx}(h:mh x n):dd (dz x)=true:=by
 unfold dd
 rw[Bool.and_eq_true,decide_eq_true_eq,ix]
 refine⟨fun i hi=>?_,Nat.le_refl 6⟩
 have EJ:i<6:=hi
 unfold j6
 rw[AL x EJ,AL x (show i-1<6 by omega),h.ok i EJ,Bool.true_and,h.me i EJ,h.me (i-1) (by omega)]
 cases i with
 |zero=>rfl
 |succ i=>simp;omega
theorem UJ{me:Nat}(hm:me<6){p:Int}(hp:p∈bV me):aO p 1 999=true:=by
 unfold bV at hp
 simp only[List.mem_cons,List.not_mem_nil,or_false]at hp
 exact cp.2 (by omega)
theorem Zn{l:List Int}(h:l.Pairwise (· < ·))(p:Int):l.count p=if bu l p=true then 1 else 0:=by
 have jc:l.Nodup:=h.imp (fun h=>by omega)
 rw[jc.count]
 unfold bu
 simp
theorem Rd{l:List Dk}{p:Int}{z:Nat}(hz:z<l.length)(h:l[z].now.ho.Pairwise (· < ·)):(gm l p (z+1)).length=(gm l p z).length+l[z].now.ho.count p:=by
 rw[Zn h]
 cases hb:bu l[z].now.ho p
 ·rw[BF hz hb];simp
 ·rw[BE hz hb,List.length_append];simp
theorem YB{x:Sx}(h:∀ i,i<6->(x.ds.get i).me=(i:Int)){k:Nat}(hk:k<6):fj (iW (k:Int)) (dz x)=(k:Int):=by
 refine zJ (p:=iW (k:Int)) (show k<(dz x).length from hk) ?_ fun j hj qx=>?_
 ·rw[xE]
  unfold iW
  rw[h k hk]
  simp
 ·rw[xE]
  unfold iW
  rw[h j hj]
  simp only[beq_eq_false_iff_ne,ne_eq]
  omega
theorem abH{lg:Nat->Nat->List Int}{n:Nat}{x:Sx}(w:bW ini0 lg x n)(p:Int){i k:Nat}(hi:i<6)(hk:k<6):(iO (dz x) p (x.ds.get i) k ((x.ds.get i).now.un.get k).length).length=ct p (lg i k) ((x.ds.get i).now.se.get k)-ct p (lg i k) ((x.ds.get k).now.ta.get i):=by
 have o:=w.st i hi _ lj
 have ok:=w.st k hk _ lj
 have ht:vP (dz x) (k:Int) (x.ds.get i).me.toNat=(x.ds.get k).now.ta.get i:=by
  rw[HA (YB w.me hk) (show k<(dz x).length from hk),xE,w.me i hi,Int.toNat_natCast]
 have hle:(x.ds.get k).now.ta.get i<=(x.ds.get i).now.se.get k:=Int.le_trans (w.acks i hi k hk) (o.sl k hk)
 have hc:=GB (x:=p) (t:=(x.ds.get k).now.ta.get i) (w.len i hi k hk) (ok.ok.ta i hi).1 (o.ok.un k hk).1 (o.un k hk) (Int.le_trans (w.cov i hi _ lj k hk) (ok.tl i hi))
 rw[Int.max_eq_left hle]at hc
 unfold iO
 rw[List.take_length,List.length_map]
 have hf:((x.ds.get i).now.un.get k).filter (mW (dz x) p (x.ds.get i) k)=((x.ds.get i).now.un.get k).filter (fun q=>q.pa==p&&decide (q.no>(x.ds.get k).now.ta.get i)):=by
  congr 1
  funext q
  unfold mW
  rw[ht]
 rw[hf]
 omega
theorem abO{lg:Nat->Nat->List Int}{n:Nat}{x:Sx}(w:bW ini0 lg x n)(p:Int){i:Nat}(hi:i<6):(lB (dz x) p (x.ds.get i) 6).length=bn fun k=>ct p (lg i k) ((x.ds.get i).now.se.get k)-ct p (lg i k) ((x.ds.get k).now.ta.get i):=by
 have a:=fun k hk=>abH w p hi (k:=k) hk
 simp only[lB,List.length_append,List.length_nil,bn]
 rw[a 0 (by omega),a 1 (by omega),a 2 (by omega),a 3 (by omega),a 4 (by omega),a 5 (by omega)]
 omega
theorem Ve{n:Nat}{x:Sx}(h:mg n x){me:Nat}(hm:me<6){p:Int}(hp:p∈bV me):fg (dz x) p=0/\(rp (dz x) p).length+(vz (dz x) p).length=1:=by
 have he:fg (dz x) p=0:=rL (aa8 h.ok) (UJ hm hp)
 refine⟨he,?_⟩
 rw[ow he,xL he]
 obtain⟨lg,w⟩:=h.wl
 have bG:∀ i:Nat,i<6->fc (i:Int) (x.ds.get i).now:=fun i hi=>(w.st i hi _ lj).ok
 have hw:(gm (dz x) p 6).length=bn fun i=>(x.ds.get i).now.ho.count p:=by
  have a:∀ z,z<6->(gm (dz x) p (z+1)).length=(gm (dz x) p z).length+(x.ds.get z).now.ho.count p:=fun z hz=>by
   have sh:z<(dz x).length:=hz
   have :=Rd (p:=p) sh (by rw[xE];exact(bG z hz).ri)
   rw[xE]at this
   exact this
  have h0:(gm (dz x) p 0).length=0:=by unfold gm;simp
  have a0:=a 0 (by omega);have a1:=a 1 (by omega);have a2:=a 2 (by omega)
  have a3:=a 3 (by omega);have a4:=a 4 (by omega);have a5:=a 5 (by omega)
  simp only[bn]
  simp only[Nat.zero_add,Nat.reduceAdd]at a0 a1 a2 a3 a4 a5
  omega
 obtain⟨g,hg⟩:∃ g:Nat->Nat,g=fun i=>bn fun k=>ct p (lg i k) ((x.ds.get i).now.se.get k)-ct p (lg i k) ((x.ds.get k).now.ta.get i):=⟨_,rfl⟩
 have hc:(fH (dz x) p 6).length=bn g:=by
  have a:∀ z,z<6->(fH (dz x) p (z+1)).length=(fH (dz x) p z).length+g z:=fun z hz=>by
   show (fH (dz x) p z++lB (dz x) p ((dz x).getD z default) 6).length=_
   rw[List.length_append,AL x hz,abO w p hz,hg]
  have h0:(fH (dz x) p 0).length=0:=rfl
  have a0:=a 0 (by omega);have a1:=a 1 (by omega);have a2:=a 2 (by omega)
  have a3:=a 3 (by omega);have a4:=a 4 (by omega);have a5:=a 5 (by omega)
  simp only[Nat.zero_add,Nat.reduceAdd]at a0 a1 a2 a3 a4 a5
  simp only[bn]
  omega
 have q:Qs ini0 lg x 0 (x.ds.get 0).now:=by
  have o:=w.st 0 (by omega) _ lj
  exact⟨o.co,fun j hj=>w.acks j hj 0 (by omega),fun j hj=>Int.le_trans (w.acks 0 (by omega) j hj) (o.sl j hj),Int.le_trans (w.acks 0 (by omega) 0 (by omega)) (o.sl 0 (by omega))⟩
 obtain⟨S,hS⟩:∃ S:Nat->Stk,S=fun i=>if i=0 then(x.ds.get 0).now else(x.ds.get i).now:=⟨_,rfl⟩
 have hSi:∀ i,S i=(x.ds.get i).now:=fun i=>by
  rw[hS]
  show (if i=0 then(x.ds.get 0).now else(x.ds.get i).now)=_
  split
  ·next e=>rw[e]
  ·rfl
 have ht:=(w.sum (by omega) q p hS).2
 simp only[hSi]at ht
 rw[<-hg]at ht
 have h1:bn (fun i=>(ini0 i).count p)=1:=by
  have hle:=Dz.one p
  have bb:1<=bn (fun i=>(ini0 i).count p):=Nat.le_trans (show 1<=(ini0 me).count p from List.count_pos_iff.2 hp) (vQ (f:=fun i=>(ini0 i).count p) hm)
  omega
 rw[N1]
 omega
end Go.Eng
