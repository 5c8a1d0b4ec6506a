import Derived.Test.YtepaolcgegdpoaaGreatK5
/- Texts LV to LW24. -/
set_option linter.all false
namespace Go.Eng
open Go Go.Proofs
structure Vw where
 l:Led
 rs:List Rec
 ts:List Int
 bk:List ((Int×Int)×Int)
 ds:List (Int×(Int×Int))
 deriving Inhabited
def bD(b:List ((Int×Int)×Int)):List (V×V):=b.map fun q=>(.agg [vInt q.1.1,vInt q.1.2],vInt q.2)
def LK:V->Int×Int
 | .agg [.int _ a,.int _ b]=>(a,b)
 |_=>(0,0)
def zx(es:List (V×V)):List ((Int×Int)×Int):=es.map fun q=>(LK q.1,jC q.2)
def bw(d:List (Int×(Int×Int))):List (V×V):=d.map fun q=>(vInt q.1,.agg [vInt q.2.1,vInt q.2.2])
def DY(es:List (V×V)):List (Int×(Int×Int)):=es.map fun q=>(jC q.1,LK q.2)
@[go_sem] theorem DZ(b:List ((Int×Int)×Int)):zx (bD b)=b:=by
  unfold zx bD
  rw[List.map_map]
  exact List.map_id _
@[go_sem] theorem DX(b:List (Int×(Int×Int))):DY (bw b)=b:=by
  unfold DY bw
  rw[List.map_map]
  exact List.map_id _
def ba(x:Vw)(nb nd:Name):O:=.box [.v (ey x.l),.v (.sl (x.rs.map encR)),.v (.sl (x.ts.map vInt)),.map nb,.map nd]
def tV(lp:V)(rs ts:List V)(eb ed:List (V×V)):Vw:=⟨zu lp,rs.map gF,ts.map jC,zx eb,DY ed⟩
theorem X4(x:Vw):tV (ey x.l) (x.rs.map encR) (x.ts.map vInt) (bD x.bk) (bw x.ds)=x:=by
 obtain⟨⟨p,r,t,s⟩,rs,ts,bk,ds⟩:=x
 simp only[tV,ey,zu,LG,tX,zq,rV,p9,DZ,DX]
def il(obj:Name->Option O)(nv:Name):Option (Name×Name×Vw):=match obj nv with
 |some (.box [.v lp,.v (.sl rs),.v (.sl ts),.map nb,.map nd])=>match obj nb,obj nd with
  |some (.map 2 eb),some (.map 0 ed)=>some (nb,nd,tV lp rs ts eb ed)
  |_,_=>none
 |_=>none
def nc(obj:Name->Option O)(nv nb nd:Name)(x:Vw):Prop:=
 obj nv=some (ba x nb nd)/\obj nb=some (.map 2 (bD x.bk))/\obj nd=some (.map 0 (bw x.ds))/\(nv==nb)=false/\(nv==nd)=false/\(nb==nd)=false
structure VSpec where
 pre:Vw->List V->Prop
 val:Vw->List V->D
 wr:Option (Vw->List V->List (Int×(Int×Int)))
def VSpec.app(s:VSpec)(obj:Name->Option O)(t:Name)(ds:List D):R:=match ds with
 | .ref nv 0::r=>match il obj nv,kW r with
   |some (nb,nd,x),some xs=>⟨nc obj nv nb nd x/\s.pre x xs,(s.val x xs).ren (cout [nv,nb,nd] t),match s.wr with | none=>obj | some f=>upd obj nd (some (.map 0 (bw (f x xs))))⟩
   |_,_=>.bad obj
 |_=>.bad obj
def VSpec.foot(_:VSpec)(obj:Name->Option O)(_:Name)(ds:List D):List Name:=match ds with
 | .ref nv _::_=>nv::(match obj nv with | some (.box [_,_,_,.map nb,.map nd])=>[nb,nd] | _=>[])
 |_=>[]
def VSpec.toSpec(s:VSpec):Spec:=⟨s.app,s.foot,s.foot⟩
theorem VSpec.near(s:VSpec):s.toSpec.Near:=by
 refine qE fun obj obj2 t ds ha=>?_
 match ds with
 | .ref nv off::r=>
   have h1:obj2 nv=obj nv:=ha nv (by simp[VSpec.foot])
   refine⟨by simp only[VSpec.foot,h1],?_⟩
   cases off with
   |succ k=>exact .none _ ha
   |zero=>
    have eQ:bP (R.bad obj) (R.bad obj2) obj obj2 (s.foot obj t (.ref nv 0::r)):=.none _ ha
    by_cases hg:∃ a b c nb nd,obj nv=some (.box [a,b,c,.map nb,.map nd])
    ·obtain⟨a,b,c,nb,nd,hb⟩:=hg
     have lD:obj2 nb=obj nb:=ha nb (by simp[VSpec.foot,hb])
     have ny:obj2 nd=obj nd:=ha nd (by simp[VSpec.foot,hb])
     have Wl:il obj2 nv=il obj nv:=by
      unfold il
      rw[h1,hb]
      split<;>first | rfl | (rename_i e;cases e;rw[lD,ny])
     have bR:∀ s6 s5 x,il obj nv=some (s6,s5,x)->s6=nb/\s5=nd:=by
      intro s6 s5 x h
      unfold il at h
      rw[hb]at h
      split at h
      ·rename_i e
       cases e
       split at h
       ·cases h;exact⟨rfl,rfl⟩
       ·cases h
      ·cases h
     show bP (s.app obj t (.ref nv 0::r)) (s.app obj2 t (.ref nv 0::r)) obj obj2 _
     unfold VSpec.app
     simp only[Wl]
     split
     ·rename_i s6 s5 x xs hx yr
      obtain⟨rfl,rfl⟩:=bR _ _ _ hx
      have aa:nc obj2 nv s6 s5 x=nc obj nv s6 s5 x:=by unfold nc;rw[h1,lD,ny]
      rw[aa]
      cases s.wr with
      |none=>exact .none _ ha
      |some f=>exact .one (by simp[VSpec.foot,hb]) ha
     ·exact eQ
    ·have e1:il obj nv=none:=by
       unfold il
       split
       ·rename_i h;exact(hg ⟨_,_,_,_,_,h⟩).elim
       ·rfl
     have e2:il obj2 nv=none:=by
      unfold il
      rw[h1]
      split
      ·rename_i h;exact(hg ⟨_,_,_,_,_,h⟩).elim
      ·rfl
     show bP (s.app obj t (.ref nv 0::r)) (s.app obj2 t (.ref nv 0::r)) obj obj2 _
     unfold VSpec.app
     simp only[e1,e2]
     exact eQ
 |[]=>exact⟨rfl,.none _ ha⟩
 | .v _::_=>exact⟨rfl,.none _ ha⟩
 | .nilsl::_=>exact⟨rfl,.none _ ha⟩
 | .nilmap::_=>exact⟨rfl,.none _ ha⟩
 | .msl _ _::_=>exact⟨rfl,.none _ ha⟩
 | .aref _ _ _ _::_=>exact⟨rfl,.none _ ha⟩
 | .map _::_=>exact⟨rfl,.none _ ha⟩
 | .yld _::_=>exact⟨rfl,.none _ ha⟩
 | .clo _ _ _::_=>exact⟨rfl,.none _ ha⟩
 | .agg _::_=>exact⟨rfl,.none _ ha⟩
 | .tup _::_=>exact⟨rfl,.none _ ha⟩
 | .any::_=>exact⟨rfl,.none _ ha⟩
def VSpec.c(s:VSpec):CSpec where
 pre:=fun os ds=>∃ (x:Vw) (xs:List V),os=[ba x [1,1] [2,1],.map 2 (bD x.bk),.map 0 (bw x.ds)]/\ds=.ref [0,1] 0::xs.map .v/\s.pre x xs
 out:=fun os ds=>match os,ds with
  |[.box [.v lp,.v (.sl rs),.v (.sl ts),_,_],.map _ eb,.map _ ed],_::r=>match kW r with
   |some xs=>⟨match s.wr with | none=>[] | some f=>[(2,.map 0 (bw (f (tV lp rs ts eb ed) xs)))],[],s.val (tV lp rs ts eb ed) xs⟩
   |none=>⟨[],[],.any⟩
  |_,_=>⟨[],[],.any⟩
theorem VSpec.c_out(s:VSpec)(x:Vw)(xs:List V):s.c.out [ba x [1,1] [2,1],.map 2 (bD x.bk),.map 0 (bw x.ds)] (.ref [0,1] 0::xs.map .v)=
 ⟨match s.wr with | none=>[] | some f=>[(2,.map 0 (bw (f x xs)))],[],s.val x xs⟩:=by
 simp only[VSpec.c,ba,Ad,X4]
theorem Gr{obj:Name->Option O}{nv nb nd:Name}{x:Vw}(h:nc obj nv nb nd x)(xs:List V):reach obj (.ref nv 0::xs.map .v)=[nv,nb,nd]:=by
 obtain⟨h1,h2,h3,h4,h5,h6⟩:=h
 unfold reach
 have e:b8 (.ref nv 0::xs.map .v)=[nv]:=by simp only[b8,iU,BB,List.append_nil]
 rw[e]
 show cE obj (2996+1+1+1+1) [nv] []=[nv,nb,nd]
 simp only[cE,bZ,List.any_nil,Bool.false_eq_true,if_false,h1,ba,gZ,b8,iU,List.nil_append,List.append_nil,List.any_cons,h4,h5,h6,Bool.or_false,h2,h3,List.cons_append]
theorem VSpec.sound{P:Program}{f:FuncId}{s:VSpec}(h:aF P f s.c.toSpec)(aB:f≠yid):aF P f s.toSpec:=by
 refine qv h s.near aB fun obj t ds aa=>?_
 have ei:(s.app obj t ds).ok:=aa
 show ∃ lI,_/\_/\_/\_=(s.app obj t ds).d/\_=(s.app obj t ds).obj
 unfold VSpec.app at ei |-
 split at ei
 ·rename_i nv r
  split at ei
  ·rename_i nb nd x xs vR yr
   obtain⟨hv,hp⟩:=ei
   have hlen:=Ey yr
   have qR:=hv
   obtain⟨h1,h2,h3,h4,h5,h6⟩:=qR
   have n4:nv≠nb:=by simpa using h4
   have n5:nv≠nd:=by simpa using h5
   have n6:nb≠nd:=by simpa using h6
   have hr:=Gr hv xs
   have i0:idx [nv,nb,nd] nv=0:=by simp[idx]
   have i1:idx [nv,nb,nd] nb=1:=by simp[idx,n4]
   have i2:idx [nv,nb,nd] nd=2:=by simp[idx,n5,n6]
   have e1:ca obj (.ref nv 0::xs.map .v)=[ba x [1,1] [2,1],.map 2 (bD x.bk),.map 0 (bw x.ds)]:=by
    unfold ca
    rw[hr]
    simp only[List.map_cons,List.map_nil,cm,h1,h2,h3,ba,O.ren,D.renL,D.ren,cin,i1,i2]
   have e2:cC obj (.ref nv 0::xs.map .v)=.ref [0,1] 0::xs.map .v:=by
    unfold cC
    rw[hr]
    simp only[D.renL,D.ren,cin,i0,A9]
   have e5:(shut obj [nv,nb,nd]&&D.closL (bZ [nv,nb,nd]) (.ref nv 0::xs.map .v)&&fresh obj t [])=true:=by
    simp[shut,h1,h2,h3,ba,O.clos,D.closL,D.clos,bZ,fresh,Ed]
   refine⟨.ref nv 0::xs.map .v,by simpa using hlen,fun φ m us hl pL i a b=>?_,?_⟩
   ·cases i with
    |zero=>exact pL 0 (by simp) b
    |succ i=>
     simp only[List.length_cons,List.length_map]at a
     simp only[List.getElem_cons_succ,List.getElem_map]
     exact .v _ _ (Ew yr i (by omega) (by omega) _ (by have:=pL (i+1) (by simp;omega) b;simpa using this))
   ·have e4:s.c.pre [ba x [1,1] [2,1],.map 2 (bD x.bk),.map 0 (bw x.ds)] (.ref [0,1] 0::xs.map .v):=⟨x,xs,rfl,rfl,hp⟩
    simp only[CSpec.toSpec,e1,e2,hr,s.c_out,e4,e5,vR,yr,and_self,de]
    refine⟨trivial,trivial,?_⟩
    cases s.wr with
    |none=>rfl
    |some f=>simp only[cA,O.ren,List.getD_cons_zero,List.getD_cons_succ]
  ·exact ei.elim
 ·exact ei.elim
def uJ(P:Program)(rs:List ResultVar)(x:Vw)(d:D)(w:Option (List (Int×(Int×Int)))):Exit->S->Prop
 | .normal,σ=>(bL P σ rs).ok/\(bL P σ rs).d=d/\σ.obj [0,1]=some (ba x [1,1] [2,1])/\σ.obj [1,1]=some (.map 2 (bD x.bk))/\σ.obj [2,1]=some (.map 0 (bw (w.getD x.ds)))
 | .ret,σ=>(bL P σ rs).ok/\(bL P σ rs).d=d/\σ.obj [0,1]=some (ba x [1,1] [2,1])/\σ.obj [1,1]=some (.map 2 (bD x.bk))/\σ.obj [2,1]=some (.map 0 (bw (w.getD x.ds)))
 |_,_=>False
theorem AE{P:Program}{f:FuncId}{fn:Func}{nt:Nat}{rs:List ResultVar}{s:VSpec}(hf:P.funcs[f]?=some fn)(cM:fn.ntmps=nt)(ck:fn.results.toList=rs)(hn:(fn.name== "runtime.NumGoroutine")=false)(hy:f<1000000000)(cF:∀ x xs,s.pre x xs->D.clos (fun _=>false) (s.val x xs)=true)
 (hb:∃ c,fn.body=some c/\∀ x xs,s.pre x xs->xs.length+1<=nt/\∀ H:Name->Option O,H [0,1]=some (ba x [1,1] [2,1])->H [1,1]=some (.map 2 (bD x.bk))->H [2,1]=some (.map 0 (bw x.ds))->
   (∀ hs,bx [0] (bp [0] hs) H=True)->(∀ hs es,bx [0] (bp [0] hs) (fun nm=>if nm=[2,1]then some (.map 0 es)else H nm)=True)->
   CL P [c] (be nt [0] H (cZ 0 (.ref [0,1] 0::xs.map .v)) []) (uJ P rs x (s.val x xs) (s.wr.map fun f=>f x xs))):aF P f s.toSpec:=by
 obtain⟨c,hc,h⟩:=hb
 have aB:f≠yid:=Nat.ne_of_lt (show f<yid from hy)
 refine VSpec.sound (kV hf hc cM ck (gm hf hc hn) aB ?_) aB
 rintro os ds ⟨x,xs,rfl,rfl,hp⟩
 obtain⟨h1,h2⟩:=h x xs hp
 refine⟨by simpa using h1,?_⟩
 have hO:∀ hs,bx [0] (bp [0] hs) (aM [ba x [1,1] [2,1],.map 2 (bD x.bk),.map 0 (bw x.ds)]):=fun hs=>jL (by
  intro o ho dom hd
  simp only[List.mem_cons,List.not_mem_nil,or_false]at ho
  rcases ho with rfl | rfl | rfl
  ·simp[ba,O.clos,D.closL,D.clos,hd]
  ·rfl
  ·rfl) hs
 have :=h2 (aM [ba x [1,1] [2,1],.map 2 (bD x.bk),.map 0 (bw x.ds)]) rfl rfl rfl (fun hs=>eq_true (hO hs)) (fun hs es=>eq_true (mT (nm:=[2,1]) (o:=.map 0 es) rfl (hO hs)))
 refine CW.mono (fE this) fun e σ hk=>?_
 rw[s.c_out]
 have key:(bL P σ rs).ok/\(bL P σ rs).d=s.val x xs/\σ.obj [0,1]=some (ba x [1,1] [2,1])/\σ.obj [1,1]=some (.map 2 (bD x.bk))/\σ.obj [2,1]=some (.map 0 (bw ((s.wr.map fun f=>f x xs).getD x.ds)))->
     (bL P σ rs).ok/\(bL P σ rs).d=s.val x xs/\fC [ba x [1,1] [2,1],.map 2 (bD x.bk),.map 0 (bw x.ds)] ⟨match s.wr with | none=>[] | some f=>[(2,.map 0 (bw (f x xs)))],[],s.val x xs⟩ σ:=by
  rintro⟨k1,k2,k3,k4,k5⟩
  refine⟨k1,k2,?_⟩
  have hd:=clos_imp (dom:=fun _=>false) (dom':=dh 3 []) (fun _ h=>by cases h) _ (cF x xs hp)
  cases hw:s.wr with
  |none=>
   rw[hw]at k5
   refine⟨⟨k3,k4,k5,trivial⟩,trivial,?_⟩
   show (D.clos (dh 3 []) (s.val x xs)&&_&&_&&_)=true
   rw[hd];rfl
  |some f=>
   rw[hw]at k5
   refine⟨⟨k3,k4,k5,trivial⟩,trivial,?_⟩
   show (D.clos (dh 3 []) (s.val x xs)&&_&&_&&_)=true
   rw[hd];rfl
 cases e with
 |normal=>exact key hk
 |ret=>exact key hk
 |_=>exact hk.elim
def v0(p:Vw->Prop)(g:Vw->D)(w:Option (Vw->List (Int×(Int×Int)))):VSpec:=
 ⟨fun x xs=>match xs with | []=>p x | _=>False,fun x xs=>match xs with | []=>g x | _=>.any,w.map fun w x xs=>match xs with | []=>w x | _=>[]⟩
theorem Fe{p:Vw->Prop}{g:Vw->D}{w:Option (Vw->List (Int×(Int×Int)))}{x:Vw}{xs:List V}(h:(v0 p g w).pre x xs):
 xs=[]/\p x/\(v0 p g w).val x xs=g x/\((v0 p g w).wr.map fun f=>f x xs)=w.map fun w=>w x:=by
 unfold v0 at h
 simp only at h
 split at h
 ·exact⟨rfl,h,rfl,by cases w<;>rfl⟩
 ·exact h.elim
def v1{α:Type}(A:En α)(p:Vw->α->Prop)(g:Vw->α->D)(w:Option (Vw->α->List (Int×(Int×Int)))):VSpec:=
 ⟨fun x xs=>match xs with | [a]=>A.enc (A.dec a)=a/\p x (A.dec a) | _=>False,fun x xs=>match xs with | [a]=>g x (A.dec a) | _=>.any,w.map fun w x xs=>match xs with | [a]=>w x (A.dec a) | _=>[]⟩
theorem Fc{α:Type}{A:En α}{p:Vw->α->Prop}{g:Vw->α->D}{w:Option (Vw->α->List (Int×(Int×Int)))}{x:Vw}{xs:List V}(h:(v1 A p g w).pre x xs):
 ∃ a,xs=[A.enc a]/\p x a/\(v1 A p g w).val x xs=g x a/\((v1 A p g w).wr.map fun f=>f x xs)=w.map fun w=>w x a:=by
 unfold v1 at h
 simp only at h
 split at h
 ·exact⟨_,by rw[h.1],h.2,rfl,by cases w<;>rfl⟩
 ·exact h.elim
def v2{α β:Type}(A:En α)(B:En β)(p:Vw->α->β->Prop)(g:Vw->α->β->D)(w:Option (Vw->α->β->List (Int×(Int×Int)))):VSpec:=
 ⟨fun x xs=>match xs with | [a,b]=>A.enc (A.dec a)=a/\B.enc (B.dec b)=b/\p x (A.dec a) (B.dec b) | _=>False,fun x xs=>match xs with | [a,b]=>g x (A.dec a) (B.dec b) | _=>.any,w.map fun w x xs=>match xs with | [a,b]=>w x (A.dec a) (B.dec b) | _=>[]⟩
theorem Fb{α β:Type}{A:En α}{B:En β}{p:Vw->α->β->Prop}{g:Vw->α->β->D}{w:Option (Vw->α->β->List (Int×(Int×Int)))}{x:Vw}{xs:List V}(h:(v2 A B p g w).pre x xs):
 ∃ a b,xs=[A.enc a,B.enc b]/\p x a b/\(v2 A B p g w).val x xs=g x a b/\((v2 A B p g w).wr.map fun f=>f x xs)=w.map fun w=>w x a b:=by
 unfold v2 at h
 simp only at h
 split at h
 ·exact⟨_,_,by rw[h.1,h.2.1],h.2.2,rfl,by cases w<;>rfl⟩
 ·exact h.elim
def v3{α β γ:Type}(A:En α)(B:En β)(C:En γ)(p:Vw->α->β->γ->Prop)(g:Vw->α->β->γ->D)(w:Option (Vw->α->β->γ->List (Int×(Int×Int)))):VSpec:=
 ⟨fun x xs=>match xs with | [a,b,c]=>A.enc (A.dec a)=a/\B.enc (B.dec b)=b/\C.enc (C.dec c)=c/\p x (A.dec a) (B.dec b) (C.dec c) | _=>False,fun x xs=>match xs with | [a,b,c]=>g x (A.dec a) (B.dec b) (C.dec c) | _=>.any,w.map fun w x xs=>match xs with | [a,b,c]=>w x (A.dec a) (B.dec b) (C.dec c) | _=>[]⟩
section
variable {P:Program} {f:FuncId} {fn:Func} {nt:Nat} {rs:List ResultVar}
theorem NV{p:Vw->Prop}{g:Vw->D}{w:Option (Vw->List (Int×(Int×Int)))}(hf:P.funcs[f]?=some fn)(cM:fn.ntmps=nt)(ck:fn.results.toList=rs)(hn:(fn.name== "runtime.NumGoroutine")=false)(hy:f<1000000000)(cF:∀ x,D.clos (fun _=>false) (g x )=true)
 (hb:∃ cc,fn.body=some cc/\1<=nt/\∀ x,p x->∀ H:Name->Option O,H [0,1]=some (ba x [1,1] [2,1])->H [1,1]=some (.map 2 (bD x.bk))->H [2,1]=some (.map 0 (bw x.ds))->
   (∀ hs,bx [0] (bp [0] hs) H=True)->(∀ hs es,bx [0] (bp [0] hs) (fun nm=>if nm=[2,1]then some (.map 0 es)else H nm)=True)->
   CL P [cc] (be nt [0] H (cZ 0 (.ref [0,1] 0::[].map .v)) []) (uJ P rs x (g x ) (w.map fun w=>w x ))):aF P f (v0 p g w).toSpec:=by
 obtain⟨cc,hc,h1,h⟩:=hb
 refine AE hf cM ck hn hy (fun x xs hp=>by
  obtain⟨rfl,_,hg,_⟩:=Fe hp
  rw[hg];exact cF x ) ⟨cc,hc,fun x xs hp=>?_⟩
 obtain⟨rfl,hp,hg,hw⟩:=Fe hp
 rw[hg,hw]
 exact⟨h1,h x hp⟩
theorem w7{α:Type}{A:En α}{p:Vw->α->Prop}{g:Vw->α->D}{w:Option (Vw->α->List (Int×(Int×Int)))}(hf:P.funcs[f]?=some fn)(cM:fn.ntmps=nt)(ck:fn.results.toList=rs)(hn:(fn.name== "runtime.NumGoroutine")=false)(hy:f<1000000000)(cF:∀ x a,D.clos (fun _=>false) (g x a)=true)
 (hb:∃ cc,fn.body=some cc/\2<=nt/\∀ x a,p x a->∀ H:Name->Option O,H [0,1]=some (ba x [1,1] [2,1])->H [1,1]=some (.map 2 (bD x.bk))->H [2,1]=some (.map 0 (bw x.ds))->
   (∀ hs,bx [0] (bp [0] hs) H=True)->(∀ hs es,bx [0] (bp [0] hs) (fun nm=>if nm=[2,1]then some (.map 0 es)else H nm)=True)->
   CL P [cc] (be nt [0] H (cZ 0 (.ref [0,1] 0::[A.enc a].map .v)) []) (uJ P rs x (g x a) (w.map fun w=>w x a))):aF P f (v1 A p g w).toSpec:=by
 obtain⟨cc,hc,h1,h⟩:=hb
 refine AE hf cM ck hn hy (fun x xs hp=>by
  obtain⟨a,rfl,_,hg,_⟩:=Fc hp
  rw[hg];exact cF x a) ⟨cc,hc,fun x xs hp=>?_⟩
 obtain⟨a,rfl,hp,hg,hw⟩:=Fc hp
 rw[hg,hw]
 exact⟨h1,h x a hp⟩
theorem w6{α β:Type}{A:En α}{B:En β}{p:Vw->α->β->Prop}{g:Vw->α->β->D}{w:Option (Vw->α->β->List (Int×(Int×Int)))}(hf:P.funcs[f]?=some fn)(cM:fn.ntmps=nt)(ck:fn.results.toList=rs)(hn:(fn.name== "runtime.NumGoroutine")=false)(hy:f<1000000000)(cF:∀ x a b,D.clos (fun _=>false) (g x a b)=true)
 (hb:∃ cc,fn.body=some cc/\3<=nt/\∀ x a b,p x a b->∀ H:Name->Option O,H [0,1]=some (ba x [1,1] [2,1])->H [1,1]=some (.map 2 (bD x.bk))->H [2,1]=some (.map 0 (bw x.ds))->
   (∀ hs,bx [0] (bp [0] hs) H=True)->(∀ hs es,bx [0] (bp [0] hs) (fun nm=>if nm=[2,1]then some (.map 0 es)else H nm)=True)->
   CL P [cc] (be nt [0] H (cZ 0 (.ref [0,1] 0::[A.enc a,B.enc b].map .v)) []) (uJ P rs x (g x a b) (w.map fun w=>w x a b))):aF P f (v2 A B p g w).toSpec:=by
 obtain⟨cc,hc,h1,h⟩:=hb
 refine AE hf cM ck hn hy (fun x xs hp=>by
  obtain⟨a,b,rfl,_,hg,_⟩:=Fb hp
  rw[hg];exact cF x a b) ⟨cc,hc,fun x xs hp=>?_⟩
 obtain⟨a,b,rfl,hp,hg,hw⟩:=Fb hp
 rw[hg,hw]
 exact⟨h1,h x a b hp⟩
end
attribute [go_sem] v0 v1 v2 v3 uJ Option.map_some Option.map_none Option.getD_some Option.getD_none
attribute [go_sem] VSpec.toSpec VSpec.app il nc ba tV
noncomputable section
def K16:List (Nat×Spec):=[(166,Nd)]
theorem Ns:KS K16:=tc F2.sound<|tn
attribute [go_sem] K16
def zeroR:Rec:=⟨0,0,0,[],0,0,0⟩
def ga(r:Rec):D:=.agg [.v (vInt r.so),.v (vInt r.bo),.v (vInt r.pa),.v (.sl (r.lv.map vInt)),.v (vInt r.da),.v (vInt r.kn),.v (vInt r.un)]
attribute [go_sem] ga
def l9:Option Rec->D
 |some r=>ga r
 |none=>.agg [.v (vInt 0),.v (vInt 0),.v (vInt 0),.nilsl,.v (vInt 0),.v (vInt 0),.v (vInt 0)]
theorem ln(r:Option Rec)(p:Name->Bool):D.clos p (l9 r)=true:=by cases r<;>rfl
def dP(l:List Rec)(s:Int):Option Rec:=l.find? fun r=>r.so==s
theorem Gw{l:List Rec}{s:Int}(h:bY (fun x=>x.so==s) l<0):dP l s=none:=by
 unfold dP
 rw[List.find?_eq_none]
 intro x hx hp
 unfold bY at h
 rw[if_pos (List.any_eq_true.2 ⟨x,hx,hp⟩)]at h
 omega
theorem Gv{l:List Rec}{s:Int}(h:¬ bY (fun x=>x.so==s) l<0):∃ (i:Nat) (hi:i<l.length),bY (fun x=>x.so==s) l=i/\dP l s=some l[i]:=by
 unfold bY at h |-
 split at h
 ·rename_i gA
  have ab:l.findIdx (fun x=>x.so==s)<l.length:=List.findIdx_lt_length_of_exists (by obtain⟨x,hx,hp⟩:=List.any_eq_true.1 gA;exact⟨x,hx,hp⟩)
  rw[if_pos gA]
  refine⟨_,ab,rfl,?_⟩
  unfold dP
  rw[List.find?_eq_some_iff_getElem]
  exact⟨List.findIdx_getElem (w:=ab),_,ab,rfl,fun j hj=>by simpa using List.not_of_lt_findIdx hj⟩
 ·omega
def MS:VSpec:=v1 iI (fun _ _=>True) (fun x s=>.tup [l9 (dP x.rs s),.v (.bool (dP x.rs s).isSome)]) none
def S77:Spec:=MS.toSpec
attribute [go_sem] MS S77
set_option maxHeartbeats 4000000 in
theorem UQ:aF Tryz.prog 77 S77:=by
 refine w7 (rs:=[.cell 4 36,.tmp 5]) Tryz.func77 Tryz.ntmps77 (by rfl) (by kernel_rfl) (by decide) (fun _ _=>by first | rfl | exact ln _ _ | simp[D.clos,D.closL,ln]) ⟨_,rfl,lb rfl,fun x s hp H h0 h1 h2 hO ae=>?_⟩
 simp only[iI,ba,cZ,List.map_cons,List.map_nil,Nat.zero_add,Option.map_some,Option.map_none]at h0 |-
 have hΓ:=Ns
 repeat refine sq ?_
 refine rx hΓ [0,3,4] [[3,0],[4,0]] (fun K' hK=>by simp only[go_sem,hO,ae,h0,h1,h2];(repeat (refine⟨ak,?_⟩));exact hK _ (by simp only[go_sem,hO,ae,h0,h1,h2]) (by simp only[go_sem,hO,ae,h0,h1,h2]<;>rfl)) ?_
 repeat refine sq ?_
 refine rx hΓ [0,4,6] [[4,0]] (fun K' hK=>by simp only[go_sem,hO,ae,h0,h1,h2,true_or,or_true];(repeat (refine⟨ak,?_⟩));exact hK _ (by simp only[go_sem,hO,ae,h0,h1,h2,true_or,or_true]) (by simp only[go_sem,hO,ae,h0,h1,h2,true_or,or_true]<;>rfl)) ?_
 repeat refine sq ?_
 refine rx hΓ [0,4,6,14] [[4,0]] (fun K' hK=>by simp only[go_sem,hO,ae,h0,h1,h2];(repeat (refine⟨ak,?_⟩));exact hK _ (by simp only[go_sem,hO,ae,h0,h1,h2]) (by simp only[go_sem,hO,ae,h0,h1,h2]<;>rfl)) ?_
 repeat refine sq ?_
 refine ax (fun hb=>?_) fun hb=>?_
 ·repeat refine sq ?_
  have e:dP x.rs s=none:=Gw (by simpa using hb)
  repeat refine sq ?_
  refine rx hΓ [4,5] [[4,0]] (fun K' hK=>by simp only[go_sem,hO,ae,h0,h1,h2];(repeat (refine⟨ak,?_⟩));exact hK _ (by simp only[go_sem,hO,ae,h0,h1,h2]) (by simp only[go_sem,hO,ae,h0,h1,h2]<;>rfl)) ?_
  refine av ?_
  simp only[go_sem,hO,ae,h0,h1,h2]
  rw[e];rfl
 ·repeat refine sq ?_
  obtain⟨i,hi,e1,e⟩:=Gv (by simpa using hb)
  have bE:(i:Int)<x.rs.length:=by omega
  rw[e1]
  refine aC ?_
  repeat refine sq ?_
  refine rx hΓ [4,5] [[4,0]] (fun K' hK=>by simp only[go_sem,hO,ae,h0,h1,h2,ah hi,ai,aj,bE];(repeat (refine⟨ak,?_⟩));exact hK _ (by simp only[go_sem,hO,ae,h0,h1,h2,ah hi,ai,aj,bE]) (by simp only[go_sem,hO,ae,h0,h1,h2,ah hi,ai,aj,bE]<;>rfl)) ?_
  refine av ?_
  simp only[go_sem,hO,ae,h0,h1,h2]
  rw[e];rfl
end
noncomputable section
structure Rg where
 (lo hi:Int)
 deriving Inhabited,DecidableEq
def rN(r:Rg):V:=.agg [vInt r.lo,vInt r.hi]
def tW:V->Rg
 | .agg [.int _ a,.int _ b]=>⟨a,b⟩
 |_=>default
def Cg:En Rg:=⟨rN,tW⟩
attribute [go_sem] rN tW Cg
@[go_sem] theorem aey(p:Rg):(⟨p.lo,p.hi⟩:Rg)=p:=rfl
def cv:List (Int×(Int×Int))->Int->Int×Int
 |[],_=>(0,0)
 |(k,d)::r,i=>if k=i then d else cv r i
def kR:List (Int×(Int×Int))->Int->Int×Int->List (Int×(Int×Int))
 |[],i,d=>[(i,d)]
 |(k,e)::r,i,d=>if k=i then(i,d)::r else(k,e)::kR r i d
theorem jv(d:List (Int×(Int×Int)))(i:Int):(eN (bw d) (vInt i)).getD (.agg [vInt 0,vInt 0])=.agg [vInt (cv d i).1,vInt (cv d i).2]:=by
 induction d with
 |nil=>rfl
 |cons q r ih=>
  obtain⟨k,e⟩:=q
  show (if fe (vInt k) (vInt i)=true then some (V.agg [vInt e.1,vInt e.2])else eN (bw r) (vInt i)).getD _=_
  by_cases h:k=i
  ·subst h;simp[fe,cv]
  ·have h':(k==i)=false:=by simpa using h
   simp only[fe,h',Bool.false_eq_true,if_false,cv,h]
   exact ih
theorem Hh(d:List (Int×(Int×Int)))(i a b:Int):dQ (bw d) (vInt i) (.agg [vInt a,vInt b])=bw (kR d i (a,b)):=by
 induction d with
 |nil=>rfl
 |cons q r ih=>
  obtain⟨k,e⟩:=q
  show (if fe (vInt k) (vInt i)=true then(vInt i,V.agg [vInt a,vInt b])::bw r else(vInt k,V.agg [vInt e.1,vInt e.2])::dQ (bw r) (vInt i) (.agg [vInt a,vInt b]))=_
  by_cases h:k=i
  ·subst h;simp[fe,kR,bw]
  ·have h':(k==i)=false:=by simpa using h
   simp only[fe,h',Bool.false_eq_true,if_false,kR,h,ih]
   rfl
def dJ(a b:Int):Int:=if b>a then b else a
def ya(a b:Int):Int:=if b<a then b else a
def BA(x:Vw)(i:Int)(r:Rg):List (Int×(Int×Int)):=kR x.ds i (dJ (cv x.ds i).1 r.lo,ya (cv x.ds i).2 r.hi)
def MU:VSpec:=v2 iI Cg (fun _ _ _=>True) (fun _ _ _=>.tup []) (some BA)
def S165:Spec:=MU.toSpec
attribute [go_sem] MU S165
set_option maxHeartbeats 4000000 in
theorem Ca:aF Tryz.prog 165 S165:=by
 refine w6 (rs:=[]) Tryz.func165 Tryz.ntmps165 (by rfl) (by kernel_rfl) (by decide) (fun _ _ _=>by first | rfl | simp[D.clos,D.closL,ln]) ⟨_,rfl,lb rfl,fun x i r hp H h0 h1 h2 hO ae=>?_⟩
 have hP:=eE
 simp only[iI,Cg,rN,ba,cZ,List.map_cons,List.map_nil,Nat.zero_add,Option.map_some,Option.map_none]at h0 |-
 have hΓ:=@dI Tryz.prog
 repeat refine sq ?_
 refine rx hΓ [0,1,5] [[5,0]] (fun K' hK=>by simp only[go_sem,hO,ae,h0,h1,h2];(repeat (refine⟨ak,?_⟩));exact hK _ (by simp only[go_sem,hO,ae,h0,h1,h2]) (by simp only[go_sem,hO,ae,h0,h1,h2]<;>rfl)) ?_
 repeat refine sq ?_
 refine rx hΓ [0,1,5,6] [[5,0],[6,0]] (fun K' hK=>by simp only[go_sem,hO,ae,h0,h1,h2,jv];(repeat (refine⟨ak,?_⟩));exact hK _ (by simp only[go_sem,hO,ae,h0,h1,h2,jv]) (by simp only[go_sem,hO,ae,h0,h1,h2,jv]<;>rfl)) ?_
 repeat refine sq ?_
 refine mO hΓ hP [[],[0],[0,1],[0,1,2],[],[],[5],[],[7],[5,6,7,8],[],[10],[],[12],[10,11,12,13],[5,6,7,8,9,10,11,12,13,14],u16] (by kernel_rfl) fun K' hK=>?_
 simp only[go_sem,hO,ae,h0,h1,h2,Hh]
 repeat (refine⟨ak,?_⟩)
 first | refine⟨by rfl,?_⟩ | skip
 refine hK _ ?_
 clear K' hK
 simp only[go_sem]
 exact⟨h0,h1,rfl⟩
end
def bM(l:Led)(k:Int):List Rec:=l.rs.filter fun r=>di r.kn r.un k
def gJ(l:Led)(k:Int):List Sig:=l.ss.filter fun s=>di s.kn s.un k
def jX(pa:Int)(lv:List Int)(r:Rec):Bool:=r.pa==pa&&r.lv.any fun n=>lv.contains n
def eB(rs:List Rec)(pa:Int)(lv:List Int):List Rec:=rs.filter (jX pa lv)
abbrev Bk:=List ((Int×Int)×Int)
abbrev Ds:=List (Int×(Int×Int))
def bH:Bk->Int×Int->Option Int
 |[],_=>none
 |(k,i)::r,q=>if k=q then some i else bH r q
def qg:Bk->Int×Int->Int->Bk
 |[],q,i=>[(q,i)]
 |(k,e)::r,q,i=>if k=q then(q,i)::r else(k,e)::qg r q i
theorem HY(a b c d:Int):fe (.agg [vInt a,vInt b]) (.agg [vInt c,vInt d])=decide ((a,b)=(c,d)):=by
 show (a==c&&b==d)=_
 by_cases h1:a=c<;>by_cases h2:b=d<;>simp[h1,h2]
theorem aw(b:Bk)(p f:Int):eN (bD b) (.agg [vInt p,vInt f])=(bH b (p,f)).map vInt:=by
 induction b with
 |nil=>rfl
 |cons q r ih=>
  obtain⟨⟨k1,k2⟩,i⟩:=q
  show (if fe (.agg [vInt k1,vInt k2]) (.agg [vInt p,vInt f])=true then some (vInt i)else eN (bD r) (.agg [vInt p,vInt f]))=_
  rw[ih,HY]
  simp only[bH]
  by_cases h:(k1,k2)=(p,f)
  ·rw[if_pos h,if_pos (by simpa using h)];rfl
  ·rw[if_neg h,if_neg (by simpa using h)]
theorem Sn(b:Bk)(p f i:Int):dQ (bD b) (.agg [vInt p,vInt f]) (vInt i)=bD (qg b (p,f) i):=by
 induction b with
 |nil=>rfl
 |cons q r ih=>
  obtain⟨⟨k1,k2⟩,e⟩:=q
  show (if fe (.agg [vInt k1,vInt k2]) (.agg [vInt p,vInt f])=true then(V.agg [vInt p,vInt f],vInt i)::bD r else(.agg [vInt k1,vInt k2],vInt e)::dQ (bD r) (.agg [vInt p,vInt f]) (vInt i))=_
  rw[ih,HY]
  simp only[qg]
  by_cases h:(k1,k2)=(p,f)
  ·rw[if_pos h,if_pos (by simpa using h)];rfl
  ·rw[if_neg h,if_neg (by simpa using h)];rfl
def oc(d:Ds)(i:Int)(r:Rg):Ds:=kR d i (dJ (cv d i).1 r.lo,ya (cv d i).2 r.hi)
def aN(l:Led)(i:Nat):Ret:=l.ts.getD i default
def eV(k:Int)(rs:List Rec)(bk:Bk)(x:Ret):Option Rec:=match dP rs x.re with
 |none=>none
 |some r=>if di x.kn x.un k&&!(decide (dJ x.lo (r.da+1)>x.hi)||x.lv.any fun f=>(bH bk (r.so,f)).isSome||!r.lv.contains f)then some r else none
def oW(b:Bk)(so:Int)(i:Int)(lv:List Int):Bk:=lv.foldl (fun b f=>qg b (so,f) i) b
def pC(l:Led)(k:Int)(v:Vw)(i:Nat):Vw:=match eV k v.rs v.bk (aN l i)with
 |none=>v
 |some r=>{ v with bk:=oW v.bk r.so i (aN l i).lv,ts:=v.ts++[(i:Int)],ds:=kR v.ds i (dJ (aN l i).lo (r.da+1),(aN l i).hi) }
def ay(l:Led)(k:Int):Nat->Vw
 | 0=>⟨l,bM l k,[],[],[]⟩
 |s+1=>pC l k (ay l k s) s
def m7(rs:List Rec)(s:Int):Rec:=(dP rs s).getD zeroR
def kC(d:Ds)(i da:Int)(os:List Rec):Ds:=os.foldl (fun d o=>if o.da>da then oc d i ⟨0,o.da⟩else d) d
def gN(l:Led)(rs:List Rec)(ts:List Int)(d:Ds):Nat->Ds
 | 0=>d
 |j+1=>kC (gN l rs ts d j) (ts.getD j 0) (m7 rs (aN l (ts.getD j 0).toNat).re).da (eB rs (m7 rs (aN l (ts.getD j 0).toNat).re).pa (aN l (ts.getD j 0).toNat).lv)
def aE(l:Led)(k:Int):Vw:={ ay l k l.ts.length with ds:=gN l (bM l k) (ay l k l.ts.length).ts (ay l k l.ts.length).ds (ay l k l.ts.length).ts.length }
theorem SN(l:Led)(k:Int)(v:Vw)(i:Nat):(pC l k v i).l=v.l/\(pC l k v i).rs=v.rs:=by
 unfold pC
 split<;>exact⟨rfl,rfl⟩
theorem qJ(l:Led)(k:Int)(i:Nat):(ay l k i).l=l/\(ay l k i).rs=bM l k:=by
 induction i with
 |zero=>exact⟨rfl,rfl⟩
 |succ i ih=>
  have :=SN l k (ay l k i) i
  exact⟨this.1.trans ih.1,this.2.trans ih.2⟩
def rY(x:Vw)(a b:Rec):Bool:=a.lv.any fun f=>(a.pa==b.pa&&b.lv.contains f)&&(a.da==b.da||match bH x.bk (a.so,f)with
 |none=>true
 |some i=>decide (dJ (aN x.l i.toNat).lo (a.da+1)>b.da))
def kT(x:Vw)(a b:Rec):Bool:=if a.da>b.da then rY x b a else rY x a b
def mb(x:Vw)(i:Nat):Option (Int×Int):=((x.rs.drop (i+1)).find? (kT x (x.rs.getD i zeroR))).map fun b=>((x.rs.getD i zeroR).so,b.so)
def fP(x:Vw):Option (Int×Int):=(List.range x.rs.length).findSome? (mb x)
def wG(day:Int)(o:Option Rec)(r:Rec):Option Rec:=if decide (r.da<=day)&&(o.isNone||decide (r.da>=(o.getD zeroR).da))then some r else o
def iA(rs:List Rec)(pa le day:Int):Option Rec:=(eB rs pa [le]).foldl (wG day) none
def cN:Rg:=⟨0,100000⟩
def cH:Rg:=⟨1,0⟩
def bB(x:Vw)(s:Sig):Int×Rg:=match iA x.rs s.pa s.le s.da with
 |none=>if s.pe=0 then(-1,cN)else(-1,cH)
 |some r=>match bH x.bk (r.so,s.le)with
  |none=>if s.pe=r.bo then(-1,cN)else(-1,cH)
  |some i=>if s.pe=0 then(i,⟨0,s.da⟩)else if s.pe=r.bo then(i,⟨s.da+1,100000⟩)else(-1,cH)
def rJ(x:Vw)(d:Ds)(s:Sig):Ds:=if (bB x s).1>=0 then oc d (bB x s).1 (bB x s).2 else d
def fj(x:Vw)(d:Ds)(l:List Sig):Ds:=l.foldl (rJ x) d
def gM(x:Vw)(s:Sig):Bool:=decide ((bB x s).1>=0)||!decide ((bB x s).2.lo>(bB x s).2.hi)
def wh(ts:List Int)(d:Ds):Bool:=ts.all fun i=>decide ((cv d i).1<=(cv d i).2)
def iq(x:Vw)(l:List Sig):Bool:=l.all (gM x)&&wh x.ts (fj x x.ds l)
open Go
def bW(obj:Name->Option O):List Name->List O->Prop
 |[],[]=>True
 |x::xs,o::os=>obj x=some o/\bW obj xs os
 |_,_=>False
theorem js{obj:Name->Option O}:∀ {Ls:List Name} {F:List O},bW obj Ls F↔Ls.map obj=F.map some
 |[],[]=>by simp[bW]
 |x::xs,o::os=>by simp only[bW,List.map_cons,List.cons.injEq,js]
 |[],_::_=>by simp[bW]
 |_::_,[]=>by simp[bW]
theorem xO{obj obj2:Name->Option O}{Ls:List Name}{F:List O}(h:bW obj Ls F)(ha:∀ x∈Ls,obj2 x=obj x):bW obj2 Ls F:=by
 rw[js]at h |-
 rw[<-h]
 exact List.map_congr_left ha
theorem Bt{obj:Name->Option O}:∀ {Ls:List Name} {F:List O},bW obj Ls F->∀ i (h:i<Ls.length) (h':i<F.length),obj Ls[i]=some F[i]
 |_::_,_::_,h,0,_,_=>h.1
 |_::_,_::_,h,i+1,h1,h2=>by
  simp only[List.getElem_cons_succ]
  exact Bt h.2 i (by simpa using h1) (by simpa using h2)
def m8(K:Exit->S->Prop)(σ:S):Option Code->Prop
 |none=>K .normal σ
 |some .ret=>K .ret σ
 |some (.exit id)=>K (.exit id) σ
 |_=>False
theorem HD{K:Exit->S->Prop}{obj:Name->Option O}{nm:Name}{σ:S}{env:List E}{ps:List Nat}{a b:Code}(pd:Option Code)(h:obj nm=some (.loop env ps a b (if pd.isNone then .ready else .done) pd))
 (hK:m8 K σ pd):pD K obj nm σ:=by
 unfold pD
 rw[h]
 rcases pd with _ | c
 ·exact hK
 ·cases c<;>first | exact hK.elim | exact hK
def LR(m:Nat):List Name:=(List.range m).map fun i=>[i,1]
def LI(m:Nat):List Name:=(List.range m).map fun i=>[i+1,1]
theorem nM(m:Nat):(LR m).length=m:=by simp[LR]
theorem fL(m:Nat):(LI m).length=m:=by simp[LI]
theorem Nm(m:Nat):(LR m).Nodup:=by
 unfold LR
 exact List.Pairwise.map _ (fun a b h=>by simpa using h) List.nodup_range
theorem zI{Ls:List Name}(hn:Ls.Nodup):Ls.map (cin Ls)=LR Ls.length:=by
 refine List.ext_getElem (by simp[LR]) fun i h1 h2=>?_
 simp only[List.getElem_map,LR,List.getElem_range,cin]
 rw[Cf hn (by simpa using h1)]
theorem wx{R:Name}{Ls:List Name}(hn:Ls.Nodup)(hR:R∉Ls):Ls.map (cin (R::Ls))=LI Ls.length:=by
 refine List.ext_getElem (by simp[LI]) fun i h1 h2=>?_
 simp only[List.getElem_map,LI,List.getElem_range,cin]
 have h3:i<Ls.length:=by simpa using h1
 have h4:=Cf (L:=R::Ls) (List.nodup_cons.2 ⟨hR,hn⟩) (i:=i+1) (by simp;omega)
 simp only[List.getElem_cons_succ]at h4
 rw[h4]
theorem LV(Ls:List Name)(t:Name):(LR Ls.length).map (cout Ls t)=Ls:=by
 refine List.ext_getElem (by simp[LR]) fun i h1 h2=>?_
 simp only[List.getElem_map,LR,List.getElem_range,cout]
 exact j9 h2
theorem zC(R:Name)(Ls:List Name)(t:Name):(LI Ls.length).map (cout (R::Ls) t)=Ls:=by
 refine List.ext_getElem (by simp[LI]) fun i h1 h2=>?_
 simp only[List.getElem_map,LI,List.getElem_range,cout]
 rw[j9 (by simpa using h2)]
 simp
def bV:List Name->List O->(Name->Option O)->(Name->Option O)
 |x::xs,o::os,obj=>bV xs os (upd obj x (some o))
 |_,_,obj=>obj
theorem sL:∀ {Ls:List Name} {F:List O} {obj:Name->Option O} {x:Name},x∉Ls->bV Ls F obj x=obj x
 |[],_,_,_,_=>by simp[bV]
 |_::_,[],_,_,_=>by simp[bV]
 |y::ys,o::os,obj,x,h=>by
  simp only[List.mem_cons,not_or]at h
  simp only[bV]
  rw[sL h.2,aW _ _ _ h.1]
theorem FQ:∀ {Ls:List Name} {F:List O} {obj:Name->Option O},Ls.Nodup->Ls.length=F.length->bW (bV Ls F obj) Ls F
 |[],[],_,_,_=>trivial
 |[],_::_,_,_,h=>by simp at h
 |_::_,[],_,_,h=>by simp at h
 |y::ys,o::os,obj,hn,h=>by
  rw[List.nodup_cons]at hn
  refine⟨?_,FQ (obj:=upd obj y (some o)) hn.2 (by simpa using h)⟩
  simp only[bV]
  rw[sL hn.1,aO]
def eJ:Nat->List O->List (Nat×O)
 |_,[]=>[]
 |k,o::r=>(k,o)::eJ (k+1) r
theorem xA{t:Name}{L:List Name}:∀ {Ls:List Name} {k:Nat} {F:List O} {obj:Name->Option O},Ls.length=F.length->(∀ i (h:i<Ls.length),L.getD (k+i) []=Ls[i])->
 cA L t (eJ k F) obj=bV Ls (F.map (O.ren (cout L t))) obj
 |[],k,[],obj,_,_=>rfl
 |[],k,_::_,obj,h,_=>by simp at h
 |_::_,k,[],obj,h,_=>by simp at h
 |x::xs,k,o::os,obj,h,hL=>by
  simp only[eJ,cA,List.map_cons,bV]
  have h0:=hL 0 (by simp)
  simp only[Nat.add_zero,List.getElem_cons_zero]at h0
  rw[h0]
  exact xA (by simpa using h) fun i hi=>by
   have :=hL (i+1) (by simpa using hi)
   rw[show k+1+i=k+(i+1)by omega]
   simpa using this
theorem B1:∀ {F:List O} {k i:Nat} {o:O},i<k->eO (eJ k F) i o=o
 |[],k,i,o,_=>rfl
 |f::r,k,i,o,h=>by
  simp only[eJ,eO]
  rw[if_neg (by omega)]
  exact B1 (by omega)
theorem Bq{σ:S}:∀ {F os:List O} {k:Nat} {u:List (Nat×O)},F.length=os.length->(∀ i,k<=i->∀ o,eO u i o=eO (eJ k F) i o)->
 (∀ i (h:i<F.length),σ.obj [k+i,1]=some F[i])->qC σ u k os
 |[],[],_,_,_,_,_=>trivial
 |[],_::_,_,_,h,_,_=>by simp at h
 |_::_,[],_,_,h,_,_=>by simp at h
 |f::fs,o::os,k,u,h,hu,hs=>by
  refine⟨?_,Bq (F:=fs) (by simpa using h) (fun i hi x=>?_) fun i hi=>?_⟩
  ·have h0:=hs 0 (by simp)
   simp only[Nat.add_zero,List.getElem_cons_zero]at h0
   rw[h0,hu k (Nat.le_refl _) o]
   simp only[eJ,eO,if_true]
   rw[B1 (by omega)]
  ·rw[hu i (by omega) x]
   simp only[eJ,eO]
   rw[if_neg (by omega)]
  ·have:=hs (i+1) (by simpa using hi)
   rw[show k+1+i=k+(i+1)by omega]
   simpa using this
structure Lp where
 m:Nat
 env:List Name->List E
 fam:List Name->Nat->List O
 ps:List Nat
 asg:Code
 body:Code
 n:Nat
 vals:Nat->List D
 st:Nat->Option Code
 fu:Nat
structure Lp.Ok (r:Lp):Prop where
 len:∀ Ls s,Ls.length=r.m->(r.fam Ls s).length=r.m
 renE:∀ f Ls,Ls.length=r.m->(r.env Ls).map (E.ren f)=r.env (Ls.map f)
 renF:∀ f Ls s,Ls.length=r.m->(r.fam Ls s).map (O.ren f)=r.fam (Ls.map f) s
 reach:∀ Ls s obj acc k,Ls.length=r.m->Ls.Nodup->(∀ x∈Ls,x∉acc)->bW obj Ls (r.fam Ls s)->cE obj (k+r.fu) (b8 ((r.env Ls).map (·.d))) acc=acc++Ls
 closE:∀ dom Ls,Ls.length=r.m->(∀ x∈Ls,dom x=true)->D.closL dom ((r.env Ls).map (·.d))=true
 closF:∀ dom Ls s,Ls.length=r.m->(∀ x∈Ls,dom x=true)->∀ o∈r.fam Ls s,O.clos dom o=true
 psz:∀ Ls,Ls.length=r.m->(r.ps.all fun p=>decide (p<(r.env Ls).length))=true
 args:∀ s,(r.vals s).length=r.ps.length
 fuel:r.fu<=2000
 vnam:∀ s,b8 (r.vals s)=[]
 vcl:∀ s dom,D.closL dom (r.vals s)=true
 vren:∀ s f,D.renL f (r.vals s)=r.vals s
 inj:∀ s s',s<r.n->s'<r.n->r.vals s=r.vals s'->s=s'
theorem Rv(a:List D):∀ vs:List V,b8 (a++vs.map D.v)=b8 a:=by
 intro vs
 have h0:∀ vs:List V,b8 (vs.map D.v)=[]:=by
  intro vs
  induction vs with
  |nil=>rfl
  |cons x r ih=>simp only[List.map_cons,b8,iU,List.nil_append,ih]
 induction a with
 |nil=>simpa[b8]using h0 vs
 |cons x r ih=>simp only[List.cons_append,b8,ih]
theorem Yt(dom:Name->Bool)(vs:List V):∀ a:List D,D.closL dom (a++vs.map D.v)=D.closL dom a:=by
 have h0:∀ vs:List V,D.closL dom (vs.map D.v)=true:=by
  intro vs
  induction vs with
  |nil=>rfl
  |cons x r ih=>simp only[List.map_cons,D.closL,D.clos,ih,Bool.and_self]
 intro a
 induction a with
 |nil=>simpa[D.closL]using h0 vs
 |cons x r ih=>simp only[List.cons_append,D.closL,ih]
theorem QB(f:Name->Name)(vs:List V):D.renL f (vs.map D.v)=vs.map D.v:=by
 induction vs with
 |nil=>rfl
 |cons x r ih=>simp only[List.map_cons,D.renL,D.ren,ih]
theorem Rw(a b:List D):b8 (a++b)=b8 a++b8 b:=by
 induction a with
 |nil=>rfl
 |cons x r ih=>simp only[List.cons_append,b8,ih,List.append_assoc]
theorem Yu(dom:Name->Bool)(a b:List D):D.closL dom (a++b)=(D.closL dom a&&D.closL dom b):=by
 induction a with
 |nil=>simp[D.closL]
 |cons x r ih=>simp only[List.cons_append,D.closL,ih,Bool.and_assoc]
noncomputable def Lp.y(r:Lp):YSpec where
 pre:=fun env ps asg body os ds=>∃ s,s<r.n/\(∀ j,j<s->r.st j=none)/\env=r.env (LR r.m)/\ps=r.ps/\asg=r.asg/\body=r.body/\os=r.fam (LR r.m) s/\ds=r.vals s
 out:=fun _ _ _ _ _ ds=>by
  classical exact if h:∃ s,s<r.n/\ds=r.vals s then(⟨eJ 0 (r.fam (LR r.m) (h.choose+1)),[],.v (.bool true)⟩,r.st h.choose)else(⟨[],[],.any⟩,none)
theorem Lp.y_out{r:Lp}(hr:r.Ok){s:Nat}(hs:s<r.n)(env:List E)(ps:List Nat)(asg body:Code)(os:List O):
 r.y.out env ps asg body os (r.vals s)=(⟨eJ 0 (r.fam (LR r.m) (s+1)),[],.v (.bool true)⟩,r.st s):=by
 have h:∃ s',s'<r.n/\r.vals s=r.vals s':=⟨s,hs,rfl⟩
 have e:h.choose=s:=(hr.inj _ _ hs h.choose_spec.1 h.choose_spec.2).symm
 simp only[Lp.y]
 rw[dif_pos h,e]
def Qt(m:Nat)(F:List O)(p:Option Code):Exit->S->Prop
 | .normal,σ=>p=none/\bW σ.obj (LR m) F
 | .ret,σ=>p=some .ret/\bW σ.obj (LR m) F
 | .exit id,σ=>p=some (.exit id)/\bW σ.obj (LR m) F
 |_,_=>False
theorem XT{os F:List O}{σ:S}{m:Nat}(h1:os.length=m)(h2:F.length=m)(hc:∀ dom:Name->Bool,(∀ x∈LR m,dom x=true)->∀ o∈F,O.clos dom o=true)(h:bW σ.obj (LR m) F):
 fC os ⟨eJ 0 F,[],.v (.bool true)⟩ σ:=by
 have rp:∀ i (hi:i<F.length),σ.obj [i,1]=some F[i]:=by
  rw[js]at h
  intro i hi
  have h3:=congrArg (fun l=>l[i]?) h
  have bE:i<m:=by omega
  simpa[LR,hi,bE]using h3
 refine⟨Bq (F:=F) (by omega) (fun i _ o=>rfl) fun i hi=>by rw[Nat.zero_add];exact rp i hi,trivial,?_⟩
 have pV:∀ x∈LR m,dh os.length [] x=true:=by
  intro x hx
  obtain⟨i,hi,rfl⟩:=List.mem_map.1 hx
  have :=List.mem_range.1 hi
  simp[dh]
  omega
 have dE:∀ (F':List O) (k:Nat),(∀ o∈F',O.clos (dh os.length []) o=true)->k+F'.length<=os.length->((eJ k F').all fun x=>O.clos (dh os.length []) x.2&&decide (x.1<os.length))=true:=by
  intro F'
  induction F' with
  |nil=>intros;rfl
  |cons f fs ih=>
   intro k hf hk
   simp only[List.length_cons]at hk
   simp only[eJ,List.all_cons,Bool.and_eq_true,decide_eq_true_eq]
   exact⟨⟨hf f (by simp),by omega⟩,by have:=ih (k+1) (fun o ho=>hf o (by simp[ho])) (by omega);simpa using this⟩
 have :=dE F 0 (hc _ pV) (by omega)
 simp only[D.clos,this,List.all_nil,List.map_nil,distinct,Bool.and_self]
theorem Lp.y_sound{P:Program}{r:Lp}(hr:r.Ok)(h:∀ s,s<r.n->(∀ j,j<s->r.st j=none)->
 CW P r.asg ⟨(r.env (LR r.m)).length,ph (rM (r.env (LR r.m))) r.ps (r.vals s),aM (r.fam (LR r.m) s),[0],0⟩ (GP fun σ1=>CW P r.body σ1 (Qt r.m (r.fam (LR r.m) (s+1)) (r.st s)))):aF P yid r.y.toSpec:=by
 refine E6 ?_
 rintro env ps asg body os ds ⟨s,hs,hj,rfl,rfl,rfl,rfl,rfl,rfl⟩ _
 rw[Lp.y_out hr hs]
 refine CW.mono (h s hs hj) fun e σ hk=>?_
 cases e with
 |normal=>
  refine CW.mono hk fun e σ hk=>?_
  have fin:bW σ.obj (LR r.m) (r.fam (LR r.m) (s+1))->fC (r.fam (LR r.m) s) ⟨eJ 0 (r.fam (LR r.m) (s+1)),[],.v (.bool true)⟩ σ:=
   XT (hr.len _ _ (nM _)) (hr.len _ _ (nM _)) fun dom hd=>hr.closF dom _ _ (nM _) hd
  cases e with
  |normal=>exact⟨hk.1,fin hk.2⟩
  |ret=>exact⟨hk.1,fin hk.2⟩
  |exit id=>exact⟨hk.1,fin hk.2⟩
  |goto l=>exact hk.elim
  |panic c=>exact hk.elim
  |outgrown=>exact hk.elim
 |ret=>exact hk.elim
 |exit id=>exact hk.elim
 |goto l=>exact hk.elim
 |panic c=>exact hk.elim
 |outgrown=>exact hk.elim
def Lp.rc(r:Lp)(Ls:List Name)(st:LoopState)(pd:Option Code):O:=.loop (r.env Ls) r.ps r.asg r.body st pd
theorem Lp.y_app{r:Lp}(hr:r.Ok){s:Nat}(hs:s<r.n)(hj:∀ j,j<s->r.st j=none){obj:Name->Option O}{t R:Name}{Ls:List Name}(hl:Ls.length=r.m)(hn:Ls.Nodup)(hR:R∉Ls)
 (h0:obj R=some (r.rc Ls .ready none)) (hF:bW obj Ls (r.fam Ls s)):
 r.y.toSpec.app obj t (.yld R::r.vals s)=⟨True,.v (.bool (r.st s).isNone),upd (bV Ls (r.fam Ls (s+1)) obj) R (some (r.rc Ls (if (r.st s).isNone then .ready else .done) (r.st s)))⟩:=by
 have gy:reach obj (roots (r.env Ls) (r.vals s))=Ls:=by
  unfold reach roots
  rw[Rw,hr.vnam,List.append_nil]
  have :=hr.reach Ls s obj [] (3000-r.fu) hl hn (fun _ _=>by simp) hF
  rwa [show 3000-r.fu+r.fu=3000 by have:=hr.fuel;omega]at this
 have e1:ca obj (roots (r.env Ls) (r.vals s))=r.fam (LR r.m) s:=by
  unfold ca
  rw[gy]
  have :Ls.map (cm Ls obj)=(r.fam Ls s).map (O.ren (cin Ls)):=by
   rw[js]at hF
   refine List.ext_getElem (by simp[hr.len _ _ hl,hl]) fun i h1 h2=>?_
   have h3:i<Ls.length:=by simpa using h1
   have h4:i<(r.fam Ls s).length:=by rw[hr.len _ _ hl,<-hl];exact h3
   have h5:=congrArg (fun l=>l[i]?) hF
   have h6:obj Ls[i]=some (r.fam Ls s)[i]:=by simpa[h3,h4]using h5
   simp only[List.getElem_map,cm,h6]
  rw[this,hr.renF _ _ _ hl,zI hn,hl]
 have e2:gV obj (r.env Ls) (r.vals s)=r.env (LR r.m):=by
  unfold gV
  rw[gy,hr.renE _ _ hl,zI hn,hl]
 have e3:jh obj (r.env Ls) (r.vals s)=r.vals s:=by
  unfold jh
  exact hr.vren s _
 have e4:r.y.o obj (r.env Ls) r.ps r.asg r.body (r.vals s)=(⟨eJ 0 (r.fam (LR r.m) (s+1)),[],.v (.bool true)⟩,r.st s):=by
  unfold YSpec.o
  rw[e1,e2,e3,Lp.y_out hr hs]
 have dg:r.y.pre (r.env (LR r.m)) r.ps r.asg r.body (r.fam (LR r.m) s) (r.vals s):=⟨s,hs,hj,rfl,rfl,rfl,rfl,rfl,rfl⟩
 have cF:D.closL (bZ Ls) (roots (r.env Ls) (r.vals s))=true:=by
  unfold roots
  rw[Yu,hr.vcl,Bool.and_true]
  exact hr.closE _ _ hl fun x hx=>fx.2 hx
 have gw:shut obj Ls=true:=by
  unfold shut
  rw[List.all_eq_true]
  intro x hx
  obtain⟨i,hi,rfl⟩:=List.getElem_of_mem hx
  rw[js]at hF
  have h4:i<(r.fam Ls s).length:=by rw[hr.len _ _ hl,<-hl];exact hi
  have h5:=congrArg (fun l=>l[i]?) hF
  have h6:obj Ls[i]=some (r.fam Ls s)[i]:=by simpa[hi,h4]using h5
  rw[h6]
  exact hr.closF _ _ _ hl (fun x hx=>fx.2 hx) _ (List.getElem_mem h4)
 have V1:bZ Ls R=false:=by
  cases h:bZ Ls R with
  |false=>rfl
  |true=>exact(hR (fx.1 h)).elim
 have hp:cA Ls t (eJ 0 (r.fam (LR r.m) (s+1))) obj=bV Ls (r.fam Ls (s+1)) obj:=by
  rw[xA (Ls:=Ls) (by rw[hr.len _ _ (nM _),hl]) fun i hi=>by rw[Nat.zero_add];exact j9 hi,hr.renF _ _ _ (nM _)]
  have :(LR r.m).map (cout Ls t)=Ls:=by rw[<-hl];exact LV Ls t
  rw[this]
 unfold Lp.rc at h0
 simp only[YSpec.toSpec,h0,e1,e2,e3,e4,gy,cF,gw,V1,fresh,List.all_nil,Bool.and_self,Bool.not_false,hr.args,decide_true,hr.psz Ls hl,dg,de,hp,and_self]
 rfl
def Lp.e(r:Lp):Nat:=match (List.range r.n).find? (fun s=>(r.st s).isSome)with | some s=>s+1 | none=>r.n
def Lp.pd(r:Lp):Option Code:=match (List.range r.n).find? (fun s=>(r.st s).isSome)with | some s=>r.st s | none=>none
def Lp.fin(r:Lp)(Ls:List Name):O:=r.rc Ls (if r.pd.isNone then .ready else .done) r.pd
def Lp.it(r:Lp)(caps:List V):CSpec where
 pre:=fun os ds=>os=r.rc (LI r.m) .ready none::r.fam (LI r.m) 0/\ds=.yld [0,1]::caps.map .v
 out:=fun _ _=>⟨(0,r.fin (LI r.m))::eJ 1 (r.fam (LI r.m) r.e),[],.tup []⟩
theorem Lp.it_app{r:Lp}(hr:r.Ok){caps:List V}{obj:Name->Option O}{t R:Name}{Ls:List Name}(hl:Ls.length=r.m)(hn:Ls.Nodup)(hR:R∉Ls)
 (h0:obj R=some (r.rc Ls .ready none)) (hF:bW obj Ls (r.fam Ls 0)):
 (r.it caps).toSpec.app obj t (.yld R::caps.map .v)=⟨True,.tup [],bV Ls (r.fam Ls r.e) (upd obj R (some (r.fin Ls)))⟩:=by
 have vH:(R::Ls).Nodup:=List.nodup_cons.2 ⟨hR,hn⟩
 have gy:reach obj (.yld R::caps.map .v)=R::Ls:=by
  have h1:b8 (.yld R::caps.map .v)=[R]:=by
   have :=Rv [.yld R] caps
   simpa[b8,iU]using this
  unfold reach
  rw[h1]
  show cE obj (2999+1) [R] []=R::Ls
  unfold Lp.rc at h0
  simp only[cE,bZ,List.any_nil,Bool.false_eq_true,if_false,h0,gZ,List.append_nil,List.nil_append]
  have :=hr.reach Ls 0 obj [R] (2999-r.fu) hl hn (fun x hx=>by simp only[List.mem_singleton];rintro rfl;exact hR hx) hF
  rw[show 2999-r.fu+r.fu=2999 by have:=hr.fuel;omega]at this
  simpa using this
 have Dh:∀ s,bW obj Ls (r.fam Ls s)->Ls.map (cm (R::Ls) obj)=(r.fam Ls s).map (O.ren (cin (R::Ls))):=by
  intro s hF
  rw[js]at hF
  refine List.ext_getElem (by simp[hr.len _ _ hl,hl]) fun i h1 h2=>?_
  have h3:i<Ls.length:=by simpa using h1
  have h4:i<(r.fam Ls s).length:=by rw[hr.len _ _ hl,<-hl];exact h3
  have h5:=congrArg (fun l=>l[i]?) hF
  have h6:obj Ls[i]=some (r.fam Ls s)[i]:=by simpa[h3,h4]using h5
  simp only[List.getElem_map,cm,h6]
 have e1:ca obj (.yld R::caps.map .v)=r.rc (LI r.m) .ready none::r.fam (LI r.m) 0:=by
  unfold ca
  rw[gy,List.map_cons,Dh 0 hF,hr.renF _ _ _ hl,wx hn hR,hl]
  congr 1
  unfold Lp.rc at h0 |-
  simp only[cm,h0,O.ren]
  rw[hr.renE _ _ hl,wx hn hR,hl]
 have e2:cC obj (.yld R::caps.map .v)=.yld [0,1]::caps.map .v:=by
  unfold cC
  rw[gy]
  simp only[D.renL,D.ren,QB,cin,idx,if_true]
 have dg:(r.it caps).pre (r.rc (LI r.m) .ready none::r.fam (LI r.m) 0) (.yld [0,1]::caps.map .v):=⟨rfl,rfl⟩
 have eP:∀ os ds,(r.it caps).out os ds=⟨(0,r.fin (LI r.m))::eJ 1 (r.fam (LI r.m) r.e),[],.tup []⟩:=fun _ _=>rfl
 have tH:∀ x∈Ls,bZ (R::Ls) x=true:=fun x hx=>fx.2 (List.mem_cons_of_mem _ hx)
 have gw:shut obj (R::Ls)=true:=by
  unfold shut
  rw[List.all_eq_true]
  intro x hx
  rcases List.mem_cons.1 hx with rfl | hx
  ·rw[h0]
   unfold Lp.rc
   exact hr.closE _ _ hl tH
  obtain⟨i,hi,rfl⟩:=List.getElem_of_mem hx
  rw[js]at hF
  have h4:i<(r.fam Ls 0).length:=by rw[hr.len _ _ hl,<-hl];exact hi
  have h5:=congrArg (fun l=>l[i]?) hF
  have h6:obj Ls[i]=some (r.fam Ls 0)[i]:=by simpa[hi,h4]using h5
  rw[h6]
  exact hr.closF _ _ _ hl tH _ (List.getElem_mem h4)
 have cF:D.closL (bZ (R::Ls)) (.yld R::caps.map .v)=true:=by
  have :=Yt (bZ (R::Ls)) caps [.yld R]
  simp only[List.singleton_append]at this
  rw[this]
  simp[D.closL,D.clos,bZ]
 have hp:∀ obj',cA (R::Ls) t (eJ 1 (r.fam (LI r.m) r.e)) obj'=bV Ls (r.fam Ls r.e) obj':=by
  intro obj'
  rw[xA (Ls:=Ls) (by rw[hr.len _ _ (fL _),hl]) fun i hi=>by
   rw[Nat.add_comm,List.getD_cons_succ];exact j9 hi,hr.renF _ _ _ (fL _)]
  have :(LI r.m).map (cout (R::Ls) t)=Ls:=by rw[<-hl];exact zC R Ls t
  rw[this]
 have hf:O.ren (cout (R::Ls) t) (r.fin (LI r.m))=r.fin Ls:=by
  unfold Lp.fin Lp.rc
  simp only[O.ren]
  rw[hr.renE _ _ (fL _)]
  have :(LI r.m).map (cout (R::Ls) t)=Ls:=by rw[<-hl];exact zC R Ls t
  rw[this]
 simp only[CSpec.toSpec,e1,e2,gy,eP,gw,cF,fresh,List.all_nil,Bool.and_self,dg,and_self,de,cA,List.getD_cons_zero,hf,hp,D.ren,D.renL]
theorem Lp.it_end{P:Program}{r:Lp}(hr:r.Ok){σ:S}(h0:σ.obj [0,1]=some (r.fin (LI r.m)))(h1:bW σ.obj (LI r.m) (r.fam (LI r.m) r.e)):
 (bL P σ []).ok/\(bL P σ []).d=.tup []/\fC (r.rc (LI r.m) .ready none::r.fam (LI r.m) 0) ⟨(0,r.fin (LI r.m))::eJ 1 (r.fam (LI r.m) r.e),[],.tup []⟩ σ:=by
 have Wa:=hr.len (LI r.m) 0 (fL _)
 have hle:=hr.len (LI r.m) r.e (fL _)
 have rp:∀ i (hi:i<(r.fam (LI r.m) r.e).length),σ.obj [1+i,1]=some (r.fam (LI r.m) r.e)[i]:=by
  intro i hi
  have h3:=Bt h1 i (by rw[fL];omega) hi
  rw[Nat.add_comm]
  simpa only[LI,List.getElem_map,List.getElem_range]using h3
 have pV:∀ x∈LI r.m,dh (r.m+1) [] x=true:=by
  intro x hx
  obtain⟨i,hi,rfl⟩:=List.mem_map.1 hx
  have :=List.mem_range.1 hi
  simp[dh]
  omega
 refine⟨fun x hx=>by simp at hx,rfl,⟨⟨?_,Bq (F:=r.fam (LI r.m) r.e) (by omega) (fun i hi o=>by simp only[eO];rw[if_neg (by omega)]) rp⟩,trivial,?_⟩⟩
 ·simp only[eO,if_true]
  rw[h0,B1 (by omega)]
 have dE:∀ (F':List O) (k:Nat),(∀ o∈F',O.clos (dh (r.m+1) []) o=true)->k+F'.length<=r.m+1->((eJ k F').all fun x=>O.clos (dh (r.m+1) []) x.2&&decide (x.1<r.m+1))=true:=by
  intro F'
  induction F' with
  |nil=>intros;rfl
  |cons f fs ih=>
   intro k hf hk
   simp only[List.length_cons]at hk
   simp only[eJ,List.all_cons,Bool.and_eq_true,decide_eq_true_eq]
   exact⟨⟨hf f (by simp),by omega⟩,by have:=ih (k+1) (fun o ho=>hf o (by simp[ho])) (by omega);simpa using this⟩
 have h5:=dE (r.fam (LI r.m) r.e) 1 (hr.closF _ _ _ (fL _) pV) (by omega)
 have h6:O.clos (dh (r.m+1) []) (r.fin (LI r.m))=true:=hr.closE _ _ (fL _) pV
 have hlen:(r.rc (LI r.m) .ready none::r.fam (LI r.m) 0).length=r.m+1:=by rw[List.length_cons,Wa]
 have h7:D.clos (dh (r.m+1) []) (.tup [])=true:=rfl
 simp only[hlen,h7,List.all_cons,h6,h5,List.all_nil,List.map_nil,distinct,Bool.and_self,Bool.true_and,Bool.and_true]
 simp
theorem YJ{P:Program}{Γ:FuncId->Option Spec}(hΓ:∀ f s,Γ f=some s->aF P f s){r:Lp}(hr:r.Ok){caps:List V}{g:Operand}{ps:Array Tmp}{asg body:Code}{σ:S}{rest:List Code}{K:Exit->S->Prop}(k k':Nat){f:FuncId}{Ls:List Name}
 (hc:cI σ g=true) (hg:aq σ g=.v (.clo (.func f) [] caps)) (aB:f≠yid) (hs:Γ f=some (r.it caps).toSpec) (mv:σ.obj (k::σ.pre)=none)
 (he:(List.range σ.nt).map σ.env=r.env Ls) (fh:ps.toList=r.ps) (ha:asg=r.asg) (hb:body=r.body) (hl:Ls.length=r.m) (hn:Ls.Nodup) (hR:(k::σ.pre)∉Ls) (hF:bW σ.obj Ls (r.fam Ls 0))
 (hK:∀ o:O,m8 (fN (fun σ'=>CL P rest σ' K) K) { σ with obj:=upd (bV Ls (r.fam Ls r.e) σ.obj) (k::σ.pre) (some o) } r.pd):CL P (.rangeFunc g ps asg body::rest) σ K:=by
 subst ha
 subst hb
 generalize oM:k::σ.pre=R at *
 have Dj:∀ x∈Ls,(upd σ.obj R (some (r.rc Ls .ready none))) x=σ.obj x:=fun x hx=>aW _ _ _ (by rintro rfl;exact hR hx)
 have rC:=Lp.it_app hr (caps:=caps) (t:=k'::σ.pre) hl hn hR (aO σ.obj R (some (r.rc Ls .ready none))) (xO hF Dj)
 have vy:O.loop ((List.range σ.nt).map σ.env) ps.toList r.asg r.body .ready none=r.rc Ls .ready none:=by unfold Lp.rc;rw[he,fh]
 have lE:eA (aq σ g) [.yld R]=.yld R::caps.map .v:=by rw[hg];rfl
 have eR:fF (aq σ g)=some f:=by rw[hg];simp[fF,aB]
 have Ct:∀ (F:List O) (obj:Name->Option O) (a b:Option O),upd (bV Ls F (upd obj R a)) R b=upd (bV Ls F obj) R b:=by
  intro F obj a b
  funext x
  by_cases h:x=R
  ·subst h;rw[aO,aO]
  ·rw[aW _ _ _ h,aW _ _ _ h]
   have :∀ (Ls:List Name) (F:List O) (o1 o2:Name->Option O),o1 x=o2 x->bV Ls F o1 x=bV Ls F o2 x:=by
    intro Ls
    induction Ls with
    |nil=>intro F o1 o2 h;simpa[bV]using h
    |cons y ys ih=>
     intro F o1 o2 h
     cases F with
     |nil=>simpa[bV]using h
     |cons f fs=>
      simp only[bV]
      refine ih fs _ _ ?_
      by_cases e:x=y
      ·subst e;rw[aO,aO]
      ·rw[aW _ _ _ e,aW _ _ _ e,h]
   exact this Ls F _ _ (aW _ _ _ h)
 refine L' hΓ k k' hc eR aB hs (by rw[oM];exact mv) ?_ ?_
 ·rw[oM,lE,vy,rC];trivial
 ·rw[oM,lE,vy,rC]
  have j5:bV Ls (r.fam Ls r.e) (upd (upd σ.obj R (some (r.rc Ls .ready none))) R (some (r.fin Ls))) R=some (r.fin Ls):=by rw[sL hR,aO]
  have oC:ko (bV Ls (r.fam Ls r.e) (upd (upd σ.obj R (some (r.rc Ls .ready none))) R (some (r.fin Ls)))) R=
      upd (bV Ls (r.fam Ls r.e) σ.obj) R (some (r.rc Ls .exhausted r.pd)):=by
   unfold ko
   rw[j5]
   unfold Lp.fin Lp.rc
   simp only[Ct]
  refine HD r.pd j5 ?_
  rw[oC]
  exact hK (r.rc Ls .exhausted r.pd)
structure Av (r:Lp) (caps:List Name->List D):Prop where
 ren:∀ f Ls,Ls.length=r.m->D.renL f (caps Ls)=caps (Ls.map f)
 clo:∀ dom Ls,Ls.length=r.m->(∀ x∈Ls,dom x=true)->D.closL dom (caps Ls)=true
 reach:∀ Ls s obj R k,Ls.length=r.m->(R::Ls).Nodup->bW obj Ls (r.fam Ls s)->obj R=some (r.rc Ls .ready none)->cE obj (k+r.fu+1) (R::b8 (caps Ls)) []=R::Ls
def Lp.itC(r:Lp)(caps:List Name->List D):CSpec where
 pre:=fun os ds=>os=r.rc (LI r.m) .ready none::r.fam (LI r.m) 0/\ds=.yld [0,1]::caps (LI r.m)
 out:=fun _ _=>⟨(0,r.fin (LI r.m))::eJ 1 (r.fam (LI r.m) r.e),[],.tup []⟩
theorem Lp.itC_app{r:Lp}(hr:r.Ok){caps:List Name->List D}(vV:Av r caps){obj:Name->Option O}{t R:Name}{Ls:List Name}(hl:Ls.length=r.m)(hn:Ls.Nodup)(hR:R∉Ls)
 (h0:obj R=some (r.rc Ls .ready none)) (hF:bW obj Ls (r.fam Ls 0)):
 (r.itC caps).toSpec.app obj t (.yld R::caps Ls)=⟨True,.tup [],bV Ls (r.fam Ls r.e) (upd obj R (some (r.fin Ls)))⟩:=by
 have vH:(R::Ls).Nodup:=List.nodup_cons.2 ⟨hR,hn⟩
 have gy:reach obj (.yld R::caps Ls)=R::Ls:=by
  unfold reach
  have :=vV.reach Ls 0 obj R (2999-r.fu) hl vH hF h0
  rw[show 2999-r.fu+r.fu+1=3000 by have:=hr.fuel;omega]at this
  exact this
 have Dh:∀ s,bW obj Ls (r.fam Ls s)->Ls.map (cm (R::Ls) obj)=(r.fam Ls s).map (O.ren (cin (R::Ls))):=by
  intro s hF
  rw[js]at hF
  refine List.ext_getElem (by simp[hr.len _ _ hl,hl]) fun i h1 h2=>?_
  have h3:i<Ls.length:=by simpa using h1
  have h4:i<(r.fam Ls s).length:=by rw[hr.len _ _ hl,<-hl];exact h3
  have h5:=congrArg (fun l=>l[i]?) hF
  have h6:obj Ls[i]=some (r.fam Ls s)[i]:=by simpa[h3,h4]using h5
  simp only[List.getElem_map,cm,h6]
 have e1:ca obj (.yld R::caps Ls)=r.rc (LI r.m) .ready none::r.fam (LI r.m) 0:=by
  unfold ca
  rw[gy,List.map_cons,Dh 0 hF,hr.renF _ _ _ hl,wx hn hR,hl]
  congr 1
  unfold Lp.rc at h0 |-
  simp only[cm,h0,O.ren]
  rw[hr.renE _ _ hl,wx hn hR,hl]
 have e2:cC obj (.yld R::caps Ls)=.yld [0,1]::caps (LI r.m):=by
  unfold cC
  rw[gy]
  simp only[D.renL,D.ren,vV.ren _ _ hl]
  rw[wx hn hR,hl]
  simp only[cin,idx,if_true]
 have dg:(r.itC caps).pre (r.rc (LI r.m) .ready none::r.fam (LI r.m) 0) (.yld [0,1]::caps (LI r.m)):=⟨rfl,rfl⟩
 have eP:∀ os ds,(r.itC caps).out os ds=⟨(0,r.fin (LI r.m))::eJ 1 (r.fam (LI r.m) r.e),[],.tup []⟩:=fun _ _=>rfl
 have tH:∀ x∈Ls,bZ (R::Ls) x=true:=fun x hx=>fx.2 (List.mem_cons_of_mem _ hx)
 have gw:shut obj (R::Ls)=true:=by
  unfold shut
  rw[List.all_eq_true]
  intro x hx
  rcases List.mem_cons.1 hx with rfl | hx
  ·rw[h0]
   unfold Lp.rc
   exact hr.closE _ _ hl tH
  obtain⟨i,hi,rfl⟩:=List.getElem_of_mem hx
  rw[js]at hF
  have h4:i<(r.fam Ls 0).length:=by rw[hr.len _ _ hl,<-hl];exact hi
  have h5:=congrArg (fun l=>l[i]?) hF
  have h6:obj Ls[i]=some (r.fam Ls 0)[i]:=by simpa[hi,h4]using h5
  rw[h6]
  exact hr.closF _ _ _ hl tH _ (List.getElem_mem h4)
 have cF:D.closL (bZ (R::Ls)) (.yld R::caps Ls)=true:=by
  show (bZ (R::Ls) R&&D.closL _ _)=true
  rw[vV.clo _ _ hl tH]
  simp[bZ]
 have hp:∀ obj',cA (R::Ls) t (eJ 1 (r.fam (LI r.m) r.e)) obj'=bV Ls (r.fam Ls r.e) obj':=by
  intro obj'
  rw[xA (Ls:=Ls) (by rw[hr.len _ _ (fL _),hl]) fun i hi=>by
   rw[Nat.add_comm,List.getD_cons_succ];exact j9 hi,hr.renF _ _ _ (fL _)]
  have :(LI r.m).map (cout (R::Ls) t)=Ls:=by rw[<-hl];exact zC R Ls t
  rw[this]
 have hf:O.ren (cout (R::Ls) t) (r.fin (LI r.m))=r.fin Ls:=by
  unfold Lp.fin Lp.rc
  simp only[O.ren]
  rw[hr.renE _ _ (fL _)]
  have :(LI r.m).map (cout (R::Ls) t)=Ls:=by rw[<-hl];exact zC R Ls t
  rw[this]
 simp only[CSpec.toSpec,e1,e2,gy,eP,gw,cF,fresh,List.all_nil,Bool.and_self,dg,and_self,de,cA,List.getD_cons_zero,hf,hp,D.ren,D.renL]
theorem Ma{P:Program}{r:Lp}(hr:r.Ok){caps:List Name->List D}(vV:Av r caps){g:Operand}{ps:Array Tmp}{asg body:Code}{σ:S}{rest:List Code}{K:Exit->S->Prop}(k k':Nat){f:FuncId}{Ls:List Name}
 (hc:cI σ g=true) (hg:aq σ g=.clo (.func f) [] (caps Ls)) (aB:f≠yid) (hs:aF P f (r.itC caps).toSpec) (mv:σ.obj (k::σ.pre)=none)
 (he:(List.range σ.nt).map σ.env=r.env Ls) (fh:ps.toList=r.ps) (ha:asg=r.asg) (hb:body=r.body) (hl:Ls.length=r.m) (hn:Ls.Nodup) (hR:(k::σ.pre)∉Ls) (hF:bW σ.obj Ls (r.fam Ls 0))
 (hK:∀ o:O,m8 (fN (fun σ'=>CL P rest σ' K) K) { σ with obj:=upd (bV Ls (r.fam Ls r.e) σ.obj) (k::σ.pre) (some o) } r.pd):CL P (.rangeFunc g ps asg body::rest) σ K:=by
 subst ha
 subst hb
 generalize oM:k::σ.pre=R at *
 have Dj:∀ x∈Ls,(upd σ.obj R (some (r.rc Ls .ready none))) x=σ.obj x:=fun x hx=>aW _ _ _ (by rintro rfl;exact hR hx)
 have rC:=Lp.itC_app hr vV (t:=k'::σ.pre) hl hn hR (aO σ.obj R (some (r.rc Ls .ready none))) (xO hF Dj)
 have vy:O.loop ((List.range σ.nt).map σ.env) ps.toList r.asg r.body .ready none=r.rc Ls .ready none:=by unfold Lp.rc;rw[he,fh]
 have lE:eA (aq σ g) [.yld R]=.yld R::caps Ls:=by rw[hg];rfl
 have eR:fF (aq σ g)=some f:=by rw[hg];simp[fF,aB]
 have Ct:∀ (F:List O) (obj:Name->Option O) (a b:Option O),upd (bV Ls F (upd obj R a)) R b=upd (bV Ls F obj) R b:=by
  intro F obj a b
  funext x
  by_cases h:x=R
  ·subst h;rw[aO,aO]
  ·rw[aW _ _ _ h,aW _ _ _ h]
   have :∀ (Ls:List Name) (F:List O) (o1 o2:Name->Option O),o1 x=o2 x->bV Ls F o1 x=bV Ls F o2 x:=by
    intro Ls
    induction Ls with
    |nil=>intro F o1 o2 h;simpa[bV]using h
    |cons y ys ih=>
     intro F o1 o2 h
     cases F with
     |nil=>simpa[bV]using h
     |cons f fs=>
      simp only[bV]
      refine ih fs _ _ ?_
      by_cases e:x=y
      ·subst e;rw[aO,aO]
      ·rw[aW _ _ _ e,aW _ _ _ e,h]
   exact this Ls F _ _ (aW _ _ _ h)
 refine L' (Γ:=fun x=>if x=f then some (r.itC caps).toSpec else none) (fun x s hx=>by
  split at hx
  ·rename_i e;cases hx;subst e;exact hs
  ·cases hx) k k' hc eR aB (if_pos rfl) (by rw[oM];exact mv) ?_ ?_
 ·rw[oM,lE,vy,rC];trivial
 ·rw[oM,lE,vy,rC]
  have j5:bV Ls (r.fam Ls r.e) (upd (upd σ.obj R (some (r.rc Ls .ready none))) R (some (r.fin Ls))) R=some (r.fin Ls):=by rw[sL hR,aO]
  have oC:ko (bV Ls (r.fam Ls r.e) (upd (upd σ.obj R (some (r.rc Ls .ready none))) R (some (r.fin Ls)))) R=
      upd (bV Ls (r.fam Ls r.e) σ.obj) R (some (r.rc Ls .exhausted r.pd)):=by
   unfold ko
   rw[j5]
   unfold Lp.fin Lp.rc
   simp only[Ct]
  refine HD r.pd j5 ?_
  rw[oC]
  exact hK (r.rc Ls .exhausted r.pd)
theorem NN{σ:S}(b nm:Name)(i k sz:Nat)(cs:List D)(L:List V)(hb:σ.obj b=some (.box cs))(hi:cs[i]?=some (.msl nm k))(hn:σ.obj nm=some (.arr sz L))(hk:k=L.length):
 gH σ ⟨σ.nt,σ.env,upd (upd σ.obj nm (some (.farr sz L))) b (some (.box (cs.set i (.v (.sl L))))),σ.pre,σ.base⟩:=by
 intro G φ m a w hC
 have aB:b≠nm:=fun e=>by subst e;rw[hb]at hn;cases hn
 obtain⟨h1,h2,h3,us,T,f,h4,h5,h6,h7⟩:=hC.objs b _ hb
 obtain⟨oF,C8⟩:=List.getElem?_eq_some_iff.1 hi
 have h0:i<us.size:=by omega
 have h8:=h7 i oF h0
 rw[C8]at h8
 have cT:aL 6 σ.obj (.msl nm k)=⟨k=L.length,.sl L,upd σ.obj nm (some (.farr sz L))⟩:=by simp only[aL,hn]
 obtain⟨m2,k1,k2,k3,k4,_⟩:=oR 6 _ _ _ _ _ _ hC _ _ h8 (by rw[cT];exact hk)
 rw[cT]at k2 k3 k4
 simp only at k2 k3 k4
 have cb:(upd σ.obj nm (some (.farr sz L))) b=some (.box cs):=by rw[aW _ _ _ aB];exact hb
 have tq:=Ext.same (φ:=φ) (o':=.box (cs.set i (.v (.sl L)))) cb rfl rfl
 have JI:=tq
 rw[fY]at JI
 refine⟨_,m2,k2.chg (w':=w) b (.box (cs.set i (.v (.sl L)))) _ tq ⟨rfl,rfl,rfl,Nat.le_refl _⟩ (fun _ _ _=>rfl) (fun _=>.inr ⟨⟨_,cb,rfl,h2⟩,rfl⟩) ?_⟩
 rw[fY]
 refine⟨h1,h2,fun d hd=>?_,us,T,f,h4,h5,by simpa using h6,fun j hj dL=>?_⟩
 ·rcases List.mem_or_eq_of_mem_set hd with h | h
  ·exact h3 d h
  ·subst h;rfl
 ·simp only[List.length_set]at hj
  rw[List.getElem_set]
  by_cases ew:i=j
  ·subst ew
   rw[if_pos rfl]
   exact .v _ _ k4
  ·rw[if_neg ew]
   exact((h7 j hj dL).ext k1 k3).ext (Mem.le_refl m2) JI
theorem uw{σ τ:S}(b nm:Name)(i k sz:Nat)(cs:List D)(L:List V)(hb:σ.obj b=some (.box cs))(hi:cs[i]?=some (.msl nm k))(hn:σ.obj nm=some (.arr sz L))(hk:k=L.length)(ks:List Nat)(ns:List Name)
 (h:gR ks ns ⟨σ.nt,σ.env,upd (upd σ.obj nm (some (.farr sz L))) b (some (.box (cs.set i (.v (.sl L))))),σ.pre,σ.base⟩)
 (i6:hS ks ns ⟨σ.nt,σ.env,upd (upd σ.obj nm (some (.farr sz L))) b (some (.box (cs.set i (.v (.sl L))))),σ.pre,σ.base⟩=τ):gH σ τ:=
 (NN b nm i k sz cs L hb hi hn hk).trans (sr ks ns h i6)
set_option maxHeartbeats 8000000
noncomputable section
@[go_sem] def P184:PSpec:=p2 dZ iI (fun _ _=>True) (fun l v=>vInt (bY (fun x=>v==x) l)) true
@[go_sem] def ZP:Spec:=P184.toSpec
theorem PF:aT Tryz.prog 184 P184:=by
 refine cV (rs:=[.tmp 4]) Tryz.func184 Tryz.ntmps184 fun l v hp hw=>?_
 simp only[iI,dZ]at hw |-
 have hΓ:=@dI Tryz.prog
 have hl:l.length<=maxLen:=by have:=hw.1.1;simpa using this
 repeat refine sq ?_
 refine rx hΓ [0,1] [] (fun K' hK=>by simp only[go_sem];exact an) ?_
 repeat refine sq ?_
 refine rx hΓ [0,1,7,8] [] (fun K' hK=>by simp only[go_sem];exact an) ?_
 repeat refine sq ?_
 refine aI ?_
 repeat refine sq ?_
 refine bT (fun s:Nat=>[(8,⟨true,.v (vInt s)⟩)]) (fun s=>[]) (fun s=>s<=l.length/\∀ k (h:k<l.length),k<s->(fun x:Int=>v==x) l[k]=false) (fun s=>l.length-s) 0 ?_ ?_ ?_ ?_
 ·exact⟨Nat.zero_le _,by simp⟩
 ·rfl
 ·rfl
 rintro i ⟨hi,hR⟩
 simp only[go_sem]
 repeat refine sq ?_
 refine rx hΓ [0,1,7,8,9] [] (fun K' hK=>by simp only[go_sem];exact an) ?_
 repeat refine sq ?_
 refine ax (fun hb=>?_) fun hb=>?_
 ·have ab:i<l.length:=by simpa using hb
  have ao:(i:Int)<l.length:=by omega
  clear hb
  repeat refine sq ?_
  refine aC ?_
  repeat refine sq ?_
  refine aI ?_
  repeat refine sq ?_
  refine rx hΓ [0,1,5,7,8] [] (fun K' hK=>by simp only[go_sem,ah ab,ai,aj,ao];exact an) ?_
  repeat refine sq ?_
  refine rx hΓ [0,1,5,7,8,16] [] (fun K' hK=>by simp only[go_sem,ah ab,ai,aj,ao];exact an) ?_
  repeat refine sq ?_
  refine ax (fun hb=>?_) fun hb=>?_
  ·repeat refine sq ?_
   refine rx hΓ [4] [] (fun K' hK=>by simp only[go_sem,ah ab,ai,aj,ao];exact an) ?_
   refine av ?_
   simp only[go_sem]
   rw[mi (p:=fun x=>v==x) ab (by simpa using hb) hR]
  ·repeat refine sq ?_
   refine aC ?_
   refine bA ?_
   simp only[go_sem]
   refine kp [0,1,7,8] [] ?_
   repeat refine sq ?_
   refine aS hΓ fun K' hK=>?_
   simp only[go_sem,ah ab,ai,aj,ao]
   repeat (refine⟨ak,?_⟩)
   refine hK _ ?_
   clear K' hK
   simp only[go_sem]
   refine⟨i+1,⟨ab,?_⟩,by(show l.length-(i+1)<l.length-i;omega),?_⟩
   ·intro k hk cS
    rcases Nat.lt_succ_iff_lt_or_eq.1 cS with h5 | rfl
    ·exact hR k hk h5
    ·simpa using hb
   refine bd [0,1,7,8] [] ?_ ?_<;>simp only[go_sem,aV ab hl,aY]
 ·have bj:i=l.length:=by
   have :¬ (i:Int)<l.length:=by simpa using hb
   omega
  clear hb
  subst bj
  repeat refine sq ?_
  refine bC ?_
  simp only[go_sem]
  refine kp [] [] ?_
  repeat refine sq ?_
  refine rx hΓ [4] [] (fun K' hK=>by simp only[go_sem];exact an) ?_
  refine av ?_
  simp only[go_sem]
  rw[oz (p:=fun x=>v==x) fun k hk=>hR k hk hk]
def K18a:List (Nat×Spec):=[(184,ZP)]
theorem aa9:KS K18a:=tc PF.sound<|tn
attribute [go_sem] K18a
theorem Zi(l:List Int)(v:Int):(l.any fun x=>v==x)=l.contains v:=(List.contains_eq_any_beq (l:=l) (a:=v)).symm
@[go_sem] def P108:PSpec:=p2 dZ iI (fun _ _=>True) (fun l v=>.bool (l.contains v)) true
@[go_sem] def Al:Spec:=P108.toSpec
theorem AY:aT Tryz.prog 108 P108:=by
 refine cV (rs:=[.tmp 4]) Tryz.func108 Tryz.ntmps108 fun l v hp hw=>?_
 simp only[iI,dZ]at hw |-
 have hΓ:=aa9
 repeat refine sq ?_
 refine rx hΓ [0,1] [] (fun K' hK=>by simp only[go_sem];exact an) ?_
 repeat refine sq ?_
 refine rx hΓ [4] [] (fun K' hK=>by simp only[go_sem,true_or,pH,Zi];exact an) ?_
 refine av ?_
 simp only[go_sem]
 all_goals exact dp
def K18b:List (Nat×Spec):=[(108,Al),(150,EN)]
theorem E2:KS K18b:=tc AY.sound<|tc AV.sound<|tn
attribute [go_sem] K18b
def Ch:En (List Int):=⟨fun l=>.ptr [.sl (l.map vInt)],fun v=>match v with | .ptr [.sl l]=>l.map jC | _=>[]⟩
attribute [go_sem] Ch
@[go_sem] def P194:PSpec:=p2 iI Ch (fun _ _=>True) (fun n l=>.bool (l.contains n)) true
@[go_sem] def M':Spec:=P194.toSpec
theorem Py:aT Tryz.prog 194 P194:=by
 refine cV (rs:=[.tmp 3]) Tryz.func194 Tryz.ntmps194 fun n l hp hw=>?_
 simp only[iI,Ch]at hw |-
 have hΓ:=E2
 repeat refine sq ?_
 refine rx hΓ [0,1] [] (fun K' hK=>by simp only[go_sem];exact an) ?_
 repeat refine sq ?_
 refine rx hΓ [3] [] (fun K' hK=>by simp only[go_sem];exact an) ?_
 refine av ?_
 simp only[go_sem]
 all_goals exact dp
@[go_sem] def P161:PSpec:=p1 iI (fun _=>True) (fun n=>.bool (!dayB n)) true
@[go_sem] def Nf:Spec:=P161.toSpec
theorem PU:aT Tryz.prog 161 P161:=by
 refine fI (rs:=[.tmp 2]) Tryz.func161 Tryz.ntmps161 fun n hp hw=>?_
 simp only[iI]at hw |-
 have hΓ:=E2
 repeat refine sq ?_
 refine rx hΓ [0] [] (fun K' hK=>by simp only[go_sem];exact an) ?_
 repeat refine sq ?_
 refine rx hΓ [2] [] (fun K' hK=>by simp only[go_sem];exact an) ?_
 refine av ?_
 simp only[go_sem]
 all_goals exact dp
@[go_sem] def P185:PSpec:=p1 iI (fun _=>True) (fun n=>.bool (!dayB n)) true
@[go_sem] def Na:Spec:=P185.toSpec
theorem PE:aT Tryz.prog 185 P185:=by
 refine fI (rs:=[.tmp 2]) Tryz.func185 Tryz.ntmps185 fun n hp hw=>?_
 simp only[iI]at hw |-
 have hΓ:=E2
 repeat refine sq ?_
 refine rx hΓ [0] [] (fun K' hK=>by simp only[go_sem];exact an) ?_
 repeat refine sq ?_
 refine rx hΓ [2] [] (fun K' hK=>by simp only[go_sem];exact an) ?_
 refine av ?_
 simp only[go_sem]
 all_goals exact dp
def vi:En (Nat×List V):=⟨fun g=>.clo (.func g.1) [] g.2,fun v=>match v with | .clo (.func g) _ cs=>(g,cs) | _=>(0,[])⟩
def pG:Nat×List V->Int->Bool
 |(194,[.ptr [.sl l]]),x=>(l.map jC).contains x
 |_,x=>!dayB x
def xK(g:Nat×List V):Prop:=g=(161,[])\/g=(185,[])\/∃ lv:List Int,g=(194,[.ptr [.sl (lv.map vInt)]])
def K18c:List (Nat×Spec):=[(194,M'),(161,Nf),(185,Na)]
theorem aa8:KS K18c:=tc Py.sound<|tc PU.sound<|tc PE.sound<|tn
attribute [go_sem] K18c
def Nr:FuncId->Option Spec:=tbl K18c
theorem aa6:∀ f s,Nr f=some s->aF Tryz.prog f s:=aa8
theorem Ra{g:Nat×List V}(h:xK g):∃ s,Nr g.1=some s/\(¬ g.1=1000000000)/\∀ obj t x,s.app obj t (.v (vInt x)::g.2.map .v)=⟨True,.v (.bool (pG g x)),obj⟩:=by
 rcases h with rfl | rfl | ⟨lv,rfl⟩
 ·exact⟨Nf,rfl,by decide,fun obj t x=>by simp only[go_sem,List.map_nil];rfl⟩
 ·exact⟨Na,rfl,by decide,fun obj t x=>by simp only[go_sem,List.map_nil];rfl⟩
 ·exact⟨M',rfl,(show ¬ (194:Nat)=1000000000 by decide),fun obj t x=>by simp only[go_sem,List.map_cons,List.map_nil,p9,pG]⟩
@[go_sem] def P192:PSpec:=p2 dZ vi (fun _ g=>xK g) (fun l g=>vInt (bY (pG g) l)) true
@[go_sem] def ZL:Spec:=P192.toSpec
theorem Pz:aT Tryz.prog 192 P192:=by
 refine cV (rs:=[.tmp 4]) Tryz.func192 Tryz.ntmps192 fun l g hp hw=>?_
 simp only[vi,dZ]at hw |-
 have hΓ:=aa6
 have hl:l.length<=maxLen:=by have:=hw.1.1;simpa using this
 obtain⟨s_,hs,hy,ha⟩:=Ra hp
 repeat refine sq ?_
 refine rx hΓ [0,1] [] (fun K' hK=>by simp only[go_sem];exact an) ?_
 repeat refine sq ?_
 refine rx hΓ [0,1,7,8] [] (fun K' hK=>by simp only[go_sem];exact an) ?_
 repeat refine sq ?_
 refine aI ?_
 repeat refine sq ?_
 refine bT (fun s:Nat=>[(8,⟨true,.v (vInt s)⟩)]) (fun s=>[]) (fun s=>s<=l.length/\∀ k (h:k<l.length),k<s->pG g l[k]=false) (fun s=>l.length-s) 0 ?_ ?_ ?_ ?_
 ·exact⟨Nat.zero_le _,by simp⟩
 ·rfl
 ·rfl
 rintro i ⟨hi,hR⟩
 simp only[go_sem]
 repeat refine sq ?_
 refine rx hΓ [0,1,7,8,9] [] (fun K' hK=>by simp only[go_sem];exact an) ?_
 repeat refine sq ?_
 refine ax (fun hb=>?_) fun hb=>?_
 ·have ab:i<l.length:=by simpa using hb
  have ao:(i:Int)<l.length:=by omega
  clear hb
  repeat refine sq ?_
  refine aC ?_
  repeat refine sq ?_
  refine aI ?_
  repeat refine sq ?_
  refine rx hΓ [0,1,5,7,8] [] (fun K' hK=>by simp only[go_sem,ah ab,ai,aj,ao];exact an) ?_
  repeat refine sq ?_
  refine rx hΓ [0,1,5,7,8,16] [] (fun K' hK=>by simp only[go_sem,ah ab,ai,aj,ao,hs,hy,ha];exact an) ?_
  repeat refine sq ?_
  refine ax (fun hb=>?_) fun hb=>?_
  ·repeat refine sq ?_
   refine rx hΓ [4] [] (fun K' hK=>by simp only[go_sem,ah ab,ai,aj,ao];exact an) ?_
   refine av ?_
   simp only[go_sem]
   rw[mi (p:=pG g) ab (by simpa using hb) hR]
  ·repeat refine sq ?_
   refine aC ?_
   refine bA ?_
   simp only[go_sem]
   refine kp [0,1,7,8] [] ?_
   repeat refine sq ?_
   refine aS hΓ fun K' hK=>?_
   simp only[go_sem,ah ab,ai,aj,ao]
   repeat (refine⟨ak,?_⟩)
   refine hK _ ?_
   clear K' hK
   simp only[go_sem]
   refine⟨i+1,⟨ab,?_⟩,by(show l.length-(i+1)<l.length-i;omega),?_⟩
   ·intro k hk cS
    rcases Nat.lt_succ_iff_lt_or_eq.1 cS with h5 | rfl
    ·exact hR k hk h5
    ·simpa using hb
   refine bd [0,1,7,8] [] ?_ ?_<;>simp only[go_sem,aV ab hl,aY]
 ·have bj:i=l.length:=by
   have :¬ (i:Int)<l.length:=by simpa using hb
   omega
  clear hb
  subst bj
  repeat refine sq ?_
  refine bC ?_
  simp only[go_sem]
  refine kp [] [] ?_
  repeat refine sq ?_
  refine rx hΓ [4] [] (fun K' hK=>by simp only[go_sem];exact an) ?_
  refine av ?_
  simp only[go_sem]
  rw[oz (p:=pG g) fun k hk=>hR k hk hk]
def K18d:List (Nat×Spec):=[(192,ZL)]
theorem aa7:KS K18d:=tc Pz.sound<|tn
attribute [go_sem] K18d
@[go_sem] def P160:PSpec:=p2 dZ vi (fun _ g=>xK g) (fun l g=>.bool (l.any (pG g))) true
@[go_sem] def S160:Spec:=P160.toSpec
theorem PV:aT Tryz.prog 160 P160:=by
 refine cV (rs:=[.tmp 4]) Tryz.func160 Tryz.ntmps160 fun l g hp hw=>?_
 simp only[vi,dZ]at hw |-
 have hΓ:=aa7
 repeat refine sq ?_
 refine rx hΓ [0,1] [] (fun K' hK=>by simp only[go_sem];exact an) ?_
 repeat refine sq ?_
 refine rx hΓ [4] [] (fun K' hK=>by simp only[go_sem,true_or,pH,hp];exact an) ?_
 refine av ?_
 simp only[go_sem]
 all_goals exact dp
theorem Jv:aF Tryz.prog 160 S160:=PV.sound
end
noncomputable section
structure la (x:Vw):Prop where
 ok:bS x.l
 bk:∀ q i,bH x.bk q=some i->0<=i/\i<x.l.ts.length
 rs:∀ r∈x.rs,dO r=true
 rn:x.rs.length<=60
 tn:x.ts.length<=60
 ts:∀ i∈x.ts,0<=i/\i<x.l.ts.length
theorem Gp{r:Rec}(h:dO r=true):0<r.lv.length/\r.lv.length<=30:=by
 unfold dO at h
 simp only[Bool.and_eq_true]at h
 exact⟨(ot.1 h.1.1.2).1,(ot.1 h.1.1.2).2.1⟩
theorem Gq{r:Rec}(h:dO r=true):0<=r.da/\r.da<=100000:=by
 unfold dO at h
 simp only[Bool.and_eq_true]at h
 have :=h.1.2
 unfold dayB b7 at this
 simpa using this
theorem Qw{r:Ret}(h:jo r=true):0<r.lv.length/\r.lv.length<=30:=by
 unfold jo at h
 simp only[Bool.and_eq_true]at h
 exact⟨(ot.1 h.1.1.1.2).1,(ot.1 h.1.1.1.2).2.1⟩
theorem wY{d:Int}(h:0<=d/\d<=100000):IntKind.i64.wrap (d+1)=d+1:=wrap_i64 (by omega) (by omega)
theorem lf{l:Led}{i:Nat}(h:i<l.ts.length):aN l i=l.ts[i]:=by unfold aN;exact dM h
theorem bS.recs{l:Led}(h:bS l):∀ r∈l.rs,dO r=true:=fun r hr=>by
 obtain⟨j,hj,rfl⟩:=List.getElem_of_mem hr
 exact lN h.rs hj
theorem bS.rets{l:Led}(h:bS l){i:Nat}(hi:i<l.ts.length):jo (aN l i)=true:=by
 rw[lf hi]
 exact lN h.ts hi
def rX(x:Vw)(a b:Rec)(f:Int):Bool:=(a.pa==b.pa&&b.lv.contains f)&&(a.da==b.da||match bH x.bk (a.so,f)with
 |none=>true
 |some i=>decide (dJ (aN x.l i.toNat).lo (a.da+1)>b.da))
theorem D0(x:Vw)(a b:Rec):rY x a b=a.lv.any (rX x a b):=rfl
theorem MN{α:Type}{p:α->Bool}{l:List α}{i:Nat}(h:i<l.length)(hp:p l[i]=true):l.any p=true:=List.any_eq_true.2 ⟨_,List.getElem_mem h,hp⟩
theorem Zh{α:Type}{p:α->Bool}{l:List α}(h:∀ k (hk:k<l.length),p l[k]=false):l.any p=false:=by
 rw[List.any_eq_false]
 intro x hx
 obtain⟨k,hk,rfl⟩:=List.getElem_of_mem hx
 rw[h k hk];decide
theorem Fj{l:Led}{i:Int}(h0:0<=i)(h:i<l.ts.length):(l.ts.map encT).getD i.toNat default=encT (aN l i.toNat):=by
 have h':i.toNat<l.ts.length:=by omega
 rw[ah h',lf h']
def pA(a b:Rec):Rec:=if a.da>b.da then b else a
def kN(a b:Rec):Rec:=if a.da>b.da then a else b
theorem Yh(x:Vw)(a b:Rec):kT x a b=rY x (pA a b) (kN a b):=by
 unfold kT pA kN
 split<;>rfl
theorem SM{a b:Rec}(ha:dO a=true)(hb:dO b=true):dO (pA a b)=true/\dO (kN a b)=true:=by
 unfold pA kN
 split
 ·exact⟨hb,ha⟩
 ·exact⟨ha,hb⟩
def r9(r:Rec):List D:=[.v (vInt r.so),.v (vInt r.bo),.v (vInt r.pa),.v (.sl (r.lv.map vInt)),.v (vInt r.da),.v (vInt r.kn),.v (vInt r.un)]
attribute [go_sem] r9
def K19:List (Nat×Spec):=[(108,Al)]
theorem aa5:KS K19:=tc AY.sound<|tn
attribute [go_sem] K19
def MV:VSpec:=v2 iR iR (fun x a b=>la x/\dO a=true/\dO b=true) (fun x a b=>.v (.bool (kT x a b))) none
def S129:Spec:=MV.toSpec
attribute [go_sem] MV S129
set_option maxHeartbeats 8000000 in
theorem U3:aF Tryz.prog 129 S129:=by
 refine w6 (rs:=[.tmp 6]) Tryz.func129 Tryz.ntmps129 (by rfl) (by kernel_rfl) (by decide) (fun _ _ _=>by first | rfl | simp[D.clos,D.closL,ln]) ⟨_,rfl,lb rfl,fun x a b hp H h0 h1 h2 hO ae=>?_⟩
 have hP:=eE
 simp only[iR,encR,ba,cZ,List.map_cons,List.map_nil,Nat.zero_add,Option.map_some,Option.map_none]at h0 |-
 have hΓ:=aa5
 obtain⟨hv,ha,WX⟩:=hp
 rw[Yh]
 obtain⟨yC,kJ⟩:=SM ha WX
 repeat refine sq ?_
 refine rx hΓ [0,4,5] [[4,0],[5,0]] (fun K' hK=>by simp only[go_sem,hO,ae,h0,h1,h2];(repeat (refine⟨ak,?_⟩));exact hK _ (by simp only[go_sem,hO,ae,h0,h1,h2]) (by simp only[go_sem,hO,ae,h0,h1,h2]<;>rfl)) ?_
 repeat refine sq ?_
 refine rx hΓ [0,4,5,15] [[4,0],[5,0]] (fun K' hK=>by simp only[go_sem,hO,ae,h0,h1,h2];(repeat (refine⟨ak,?_⟩));exact hK _ (by simp only[go_sem,hO,ae,h0,h1,h2]) (by simp only[go_sem,hO,ae,h0,h1,h2]<;>rfl)) ?_
 repeat refine sq ?_
 refine YL (be 80 [0] H [(0,⟨true,.ref [0,1] 0⟩),(4,⟨true,.ref [4,0] 0⟩),(5,⟨true,.ref [5,0] 0⟩)] [([4,0],.box (r9 (pA a b))),([5,0],.box (r9 (kN a b)))]) rfl rfl (fun hb=>?_) (fun hb=>?_) ?_
 ·repeat refine sq ?_
  rw[show pA a b=b from if_pos (by simpa using hb),show kN a b=a from if_pos (by simpa using hb)]
  repeat refine sq ?_
  refine aS hΓ fun K' hK=>?_
  simp only[go_sem,hO,ae,h0,h1,h2]
  repeat (refine⟨ak,?_⟩)
  refine hK _ ?_
  clear K' hK
  simp only[go_sem]
  refine sr [0,4,5] [[4,0],[5,0]] ?_ ?_
  ·simp only[go_sem,hO,ae,h0,h1,h2]
  ·simp only[go_sem,hO,ae,h0,h1,h2]
 ·repeat refine sq ?_
  rw[show pA a b=a from if_neg (by simpa using hb),show kN a b=b from if_neg (by simpa using hb)]
  refine aC ?_
  refine bA ?_
  simp only[go_sem]
  refine sr [0,4,5] [[4,0],[5,0]] ?_ ?_
  ·simp only[go_sem,hO,ae,h0,h1,h2]
  ·simp only[go_sem,hO,ae,h0,h1,h2]
 generalize pA a b=p at *
 generalize kN a b=q at *
 have hl:p.lv.length<=maxLen:=by have:=(Gp yC).2;unfold maxLen;omega
 repeat refine sq ?_
 refine rx hΓ [0,4,5,19,20,21] [[4,0],[5,0]] (fun K' hK=>by simp only[go_sem,hO,ae,h0,h1,h2];(repeat (refine⟨ak,?_⟩));exact hK _ (by simp only[go_sem,hO,ae,h0,h1,h2]) (by simp only[go_sem,hO,ae,h0,h1,h2]<;>rfl)) ?_
 repeat refine sq ?_
 refine aI ?_
 repeat refine sq ?_
 refine bT (fun s:Nat=>[(21,⟨true,.v (vInt s)⟩)]) (fun s=>[]) (fun s=>s<=p.lv.length/\∀ k (h:k<p.lv.length),k<s->rX x p q p.lv[k]=false) (fun s=>p.lv.length-s) 0 ?_ ?_ ?_ ?_
 ·exact⟨Nat.zero_le _,by simp⟩
 ·rfl
 ·rfl
 rintro i ⟨hi,hR⟩
 simp only[go_sem]
 repeat refine sq ?_
 refine rx hΓ [0,4,5,19,20,21,22] [[4,0],[5,0]] (fun K' hK=>by simp only[go_sem,hO,ae,h0,h1,h2];(repeat (refine⟨ak,?_⟩));exact hK _ (by simp only[go_sem,hO,ae,h0,h1,h2]) (by simp only[go_sem,hO,ae,h0,h1,h2]<;>rfl)) ?_
 repeat refine sq ?_
 refine ax (fun hb=>?_) fun hb=>?_
 ·have ab:i<p.lv.length:=by simpa using hb
  have ao:(i:Int)<p.lv.length:=by omega
  clear hb
  have gv:=wY (Gq yC)
  repeat refine sq ?_
  refine aC ?_
  repeat refine sq ?_
  refine aI ?_
  repeat refine sq ?_
  refine rx hΓ [0,4,5,8,19,20,21] [[4,0],[5,0]] (fun K' hK=>by simp only[go_sem,hO,ae,h0,h1,h2,ah ab,ai,aj,ao];(repeat (refine⟨ak,?_⟩));exact hK _ (by simp only[go_sem,hO,ae,h0,h1,h2,ah ab,ai,aj,ao]) (by simp only[go_sem,hO,ae,h0,h1,h2,ah ab,ai,aj,ao]<;>rfl)) ?_
  repeat refine sq ?_
  refine rx hΓ [0,4,5,8,19,20,21,36] [[4,0],[5,0]] (fun K' hK=>by simp only[go_sem,hO,ae,h0,h1,h2,ah ab,ai,aj,ao];(repeat (refine⟨ak,?_⟩));exact hK _ (by simp only[go_sem,hO,ae,h0,h1,h2,ah ab,ai,aj,ao]) (by simp only[go_sem,hO,ae,h0,h1,h2,ah ab,ai,aj,ao]<;>rfl)) ?_
  repeat refine sq ?_
  refine ax (fun hb=>?_) fun hb=>?_
  ·repeat refine sq ?_
   refine bC ?_
   simp only[go_sem]
   refine dd [0,4,5,19,20,21] [[4,0],[5,0]] ?_ ?_
   ·simp only[go_sem,hO,ae,h0,h1,h2]
   simp only[go_sem,hO,ae,h0,h1,h2]
   repeat refine sq ?_
   refine aS hΓ fun K' hK=>?_
   simp only[go_sem,hO,ae,h0,h1,h2,ah ab,ai,aj,ao]
   repeat (refine⟨ak,?_⟩)
   refine hK _ ?_
   clear K' hK
   simp only[go_sem]
   refine⟨i+1,⟨ab,?_⟩,by(show p.lv.length-(i+1)<p.lv.length-i;omega),?_⟩
   ·intro k hk cS
    rcases Nat.lt_succ_iff_lt_or_eq.1 cS with h5 | rfl
    ·exact hR k hk h5
    ·unfold rX;grind
   refine bd [0,4,5,19,20,21] [[4,0],[5,0]] ?_ ?_<;>simp only[go_sem,aV ab hl,aY,hO,ae,h0,h1,h2]
  ·repeat refine sq ?_
   refine aC ?_
   rcases aU:bH x.bk (p.so,p.lv[i])with _ | j
   ·repeat refine sq ?_
    refine dx hΓ hP [[],[0],[0,1],[0,1,2],[],[4],[],[4,5,6],u8,u9,dq,dq,fm,qs] [0,4,5,9,10,19,20,21] [[4,0],[5,0]] (by kernel_rfl) (fun K' hK=>by simp only[go_sem,hO,ae,h0,h1,h2,ah ab,ai,aj,ao,aw,aU,Option.map_none,Option.isSome_none,Option.getD_none];(repeat (refine⟨ak,?_⟩));(first | refine⟨by rfl,?_⟩ | skip);exact hK _ (by simp only[go_sem,hO,ae,h0,h1,h2,ah ab,ai,aj,ao,aw,aU,Option.map_none,Option.isSome_none,Option.getD_none]) (by simp only[go_sem,hO,ae,h0,h1,h2,ah ab,ai,aj,ao,aw,aU,Option.map_none,Option.isSome_none,Option.getD_none]<;>rfl)) ?_
    repeat refine sq ?_
    refine dx hΓ hP [[],[0],[],[2],u4,u5,u6,u7,u8,u9,dq,fm,fM,qs,ji,pb,u16,dq,iJ,o9,qq,uB,dq,[0,1,2,3,4,5,6,7,8,9,22],[0,1,2,3,4,5,6,7,8,9,22,23],xa,dq,[0,1,2,3,4,5,6,7,8,9,26],w9,w8] [0,4,5,19,20,21,78] [[4,0],[5,0]] (by kernel_rfl) (fun K' hK=>by simp only[go_sem,hO,ae,h0,h1,h2,ah ab,ai,aj,ao,aw,aU,Option.map_none,Option.isSome_none,Option.getD_none];(repeat (refine⟨ak,?_⟩));(first | refine⟨by rfl,?_⟩ | skip);exact hK _ (by simp only[go_sem,hO,ae,h0,h1,h2,ah ab,ai,aj,ao,aw,aU,Option.map_none,Option.isSome_none,Option.getD_none]) (by simp only[go_sem,hO,ae,h0,h1,h2,ah ab,ai,aj,ao,aw,aU,Option.map_none,Option.isSome_none,Option.getD_none]<;>rfl)) ?_
    repeat refine sq ?_
    refine ax (fun hb=>?_) fun hb=>?_
    ·repeat refine sq ?_
     refine rx hΓ [6] [] (fun K' hK=>by simp only[go_sem,hO,ae,h0,h1,h2,ah ab,ai,aj,ao,aw,aU,Option.map_none,Option.isSome_none,Option.getD_none];(repeat (refine⟨ak,?_⟩));exact hK _ (by simp only[go_sem,hO,ae,h0,h1,h2,ah ab,ai,aj,ao,aw,aU,Option.map_none,Option.isSome_none,Option.getD_none]) (by simp only[go_sem,hO,ae,h0,h1,h2,ah ab,ai,aj,ao,aw,aU,Option.map_none,Option.isSome_none,Option.getD_none]<;>rfl)) ?_
     refine av ?_
     simp only[go_sem,hO,ae,h0,h1,h2]
     rw[D0,MN ab (by unfold rX;rw[aU];grind [dJ])]
    ·repeat refine sq ?_
     refine aC ?_
     refine bA ?_
     simp only[go_sem]
     refine dd [0,4,5,19,20,21] [[4,0],[5,0]] ?_ ?_
     ·simp only[go_sem,hO,ae,h0,h1,h2]
     simp only[go_sem,hO,ae,h0,h1,h2]
     repeat refine sq ?_
     refine aS hΓ fun K' hK=>?_
     simp only[go_sem,hO,ae,h0,h1,h2,ah ab,ai,aj,ao,aw,aU,Option.map_none,Option.isSome_none,Option.getD_none]
     repeat (refine⟨ak,?_⟩)
     refine hK _ ?_
     clear K' hK
     simp only[go_sem]
     refine⟨i+1,⟨ab,?_⟩,by(show p.lv.length-(i+1)<p.lv.length-i;omega),?_⟩
     ·intro k hk cS
      rcases Nat.lt_succ_iff_lt_or_eq.1 cS with h5 | rfl
      ·exact hR k hk h5
      ·unfold rX;rw[aU];grind [dJ]
     refine bd [0,4,5,19,20,21] [[4,0],[5,0]] ?_ ?_<;>simp only[go_sem,aV ab hl,aY,hO,ae,h0,h1,h2]
   ·obtain⟨cY,jW⟩:=hv.bk _ _ aU
    have lz:=Fj cY jW
    repeat refine sq ?_
    refine dx hΓ hP [[],[0],[0,1],[0,1,2],[],[4],[],[4,5,6],u8,u9,dq,dq,fm,qs] [0,4,5,9,10,19,20,21] [[4,0],[5,0]] (by kernel_rfl) (fun K' hK=>by simp only[go_sem,hO,ae,h0,h1,h2,ah ab,ai,aj,ao,aw,aU,Option.map_some,Option.isSome_some,Option.getD_some,lz,cY,jW,gv];(repeat (refine⟨ak,?_⟩));(first | refine⟨by rfl,?_⟩ | skip);exact hK _ (by simp only[go_sem,hO,ae,h0,h1,h2,ah ab,ai,aj,ao,aw,aU,Option.map_some,Option.isSome_some,Option.getD_some,lz,cY,jW,gv]) (by simp only[go_sem,hO,ae,h0,h1,h2,ah ab,ai,aj,ao,aw,aU,Option.map_some,Option.isSome_some,Option.getD_some,lz,cY,jW,gv]<;>rfl)) ?_
    repeat refine sq ?_
    refine dx hΓ hP [[],[0],[],[2],u4,u5,u6,u7,u8,u9,dq,fm,fM,qs,ji,pb,u16,dq,iJ,o9,qq,uB,dq,[0,1,2,3,4,5,6,7,8,9,22],[0,1,2,3,4,5,6,7,8,9,22,23],xa,dq,[0,1,2,3,4,5,6,7,8,9,26],w9,w8] [0,4,5,19,20,21,78] [[4,0],[5,0]] (by kernel_rfl) (fun K' hK=>by simp only[go_sem,hO,ae,h0,h1,h2,ah ab,ai,aj,ao,aw,aU,Option.map_some,Option.isSome_some,Option.getD_some,lz,cY,jW,gv];(repeat (refine⟨ak,?_⟩));(first | refine⟨by rfl,?_⟩ | skip);exact hK _ (by simp only[go_sem,hO,ae,h0,h1,h2,ah ab,ai,aj,ao,aw,aU,Option.map_some,Option.isSome_some,Option.getD_some,lz,cY,jW,gv]) (by simp only[go_sem,hO,ae,h0,h1,h2,ah ab,ai,aj,ao,aw,aU,Option.map_some,Option.isSome_some,Option.getD_some,lz,cY,jW,gv]<;>rfl)) ?_
    repeat refine sq ?_
    refine ax (fun hb=>?_) fun hb=>?_
    ·repeat refine sq ?_
     refine rx hΓ [6] [] (fun K' hK=>by simp only[go_sem,hO,ae,h0,h1,h2,ah ab,ai,aj,ao,aw,aU,Option.map_some,Option.isSome_some,Option.getD_some,lz,cY,jW,gv];(repeat (refine⟨ak,?_⟩));exact hK _ (by simp only[go_sem,hO,ae,h0,h1,h2,ah ab,ai,aj,ao,aw,aU,Option.map_some,Option.isSome_some,Option.getD_some,lz,cY,jW,gv]) (by simp only[go_sem,hO,ae,h0,h1,h2,ah ab,ai,aj,ao,aw,aU,Option.map_some,Option.isSome_some,Option.getD_some,lz,cY,jW,gv]<;>rfl)) ?_
     refine av ?_
     simp only[go_sem,hO,ae,h0,h1,h2]
     rw[D0,MN ab (by unfold rX;rw[aU];grind [dJ])]
    ·repeat refine sq ?_
     refine aC ?_
     refine bA ?_
     simp only[go_sem]
     refine dd [0,4,5,19,20,21] [[4,0],[5,0]] ?_ ?_
     ·simp only[go_sem,hO,ae,h0,h1,h2]
     simp only[go_sem,hO,ae,h0,h1,h2]
     repeat refine sq ?_
     refine aS hΓ fun K' hK=>?_
     simp only[go_sem,hO,ae,h0,h1,h2,ah ab,ai,aj,ao,aw,aU,Option.map_some,Option.isSome_some,Option.getD_some,lz,cY,jW,gv]
     repeat (refine⟨ak,?_⟩)
     refine hK _ ?_
     clear K' hK
     simp only[go_sem]
     refine⟨i+1,⟨ab,?_⟩,by(show p.lv.length-(i+1)<p.lv.length-i;omega),?_⟩
     ·intro k hk cS
      rcases Nat.lt_succ_iff_lt_or_eq.1 cS with h5 | rfl
      ·exact hR k hk h5
      ·unfold rX;rw[aU];grind [dJ]
     refine bd [0,4,5,19,20,21] [[4,0],[5,0]] ?_ ?_<;>simp only[go_sem,aV ab hl,aY,hO,ae,h0,h1,h2]
 ·have bj:i=p.lv.length:=by
   have :¬ (i:Int)<p.lv.length:=by simpa using hb
   omega
  clear hb
  subst bj
  repeat refine sq ?_
  refine bC ?_
  simp only[go_sem]
  refine dd [] [] ?_ ?_
  ·simp only[go_sem,hO,ae,h0,h1,h2]
  simp only[go_sem,hO,ae,h0,h1,h2]
  repeat refine sq ?_
  refine rx hΓ [6] [] (fun K' hK=>by simp only[go_sem,hO,ae,h0,h1,h2];(repeat (refine⟨ak,?_⟩));exact hK _ (by simp only[go_sem,hO,ae,h0,h1,h2]) (by simp only[go_sem,hO,ae,h0,h1,h2]<;>rfl)) ?_
  refine av ?_
  simp only[go_sem,hO,ae,h0,h1,h2]
  rw[D0,Zh fun k hk=>hR k hk hk]
end
noncomputable section
@[go_sem] theorem aev(x:Vw):(⟨x.l,x.rs,x.ts,x.bk,x.ds⟩:Vw)=x:=rfl
def xz:Option (Int×Int)->D
 |some p=>.tup [.v (.sl [vInt p.1,vInt p.2]),.v (.bool true)]
 |none=>.tup [.nilsl,.v (.bool false)]
theorem QG(r:Option (Int×Int))(p:Name->Bool):D.clos p (xz r)=true:=by cases r<;>rfl
theorem QU{x:Vw}{i:Nat}(h:i<x.rs.length)(hn:∀ k (hk:k<(x.rs.drop (i+1)).length),kT x x.rs[i] (x.rs.drop (i+1))[k]=false):mb x i=none:=by
 unfold mb
 have e:(x.rs.drop (i+1)).find? (kT x x.rs[i])=none:=List.find?_eq_none.2 fun y hy=>by
  obtain⟨k,hk,rfl⟩:=List.getElem_of_mem hy
  rw[hn k hk];decide
 rw[dM h,e]
 rfl
theorem QT{x:Vw}{i k:Nat}(h:i<x.rs.length)(hk:k<(x.rs.drop (i+1)).length)(hn:∀ j (hj:j<(x.rs.drop (i+1)).length),j<k->kT x x.rs[i] (x.rs.drop (i+1))[j]=false)(hb:kT x x.rs[i] (x.rs.drop (i+1))[k]=true):
 mb x i=some (x.rs[i].so,(x.rs.drop (i+1))[k].so):=by
 unfold mb
 have e:(x.rs.drop (i+1)).find? (kT x x.rs[i])=some (x.rs.drop (i+1))[k]:=List.find?_eq_some_iff_getElem.2 ⟨hb,k,hk,rfl,fun j hj=>by rw[hn j (by omega) hj];rfl⟩
 rw[dM h,e]
 rfl
theorem QR{x:Vw}{i:Nat}{p:Int×Int}(h:i<x.rs.length)(hn:∀ k,k<i->mb x k=none)(hp:mb x i=some p):fP x=some p:=by
 unfold fP
 rw[List.findSome?_eq_some_iff]
 refine⟨List.range i,i,(List.range' (i+1) (x.rs.length-(i+1))),?_,hp,fun a ha=>hn a (List.mem_range.1 ha)⟩
 rw[List.range_eq_range',List.range_eq_range']
 have :x.rs.length=i+(1+(x.rs.length-(i+1))):=by omega
 conv=>lhs;rw[this]
 rw[<-List.range'_append_1,<-List.range'_append_1,Nat.zero_add]
 rfl
theorem QS{x:Vw}(hn:∀ k,k<x.rs.length->mb x k=none):fP x=none:=by
 unfold fP
 rw[List.findSome?_eq_none_iff]
 exact fun a ha=>hn a (List.mem_range.1 ha)
def K20:List (Nat×Spec):=[(129,S129)]
theorem aa4:KS K20:=tc U3<|tn
attribute [go_sem] K20
def MY:VSpec:=v0 (fun x=>la x) (fun x=>xz (fP x)) none
def S120:Spec:=MY.toSpec
attribute [go_sem] MY S120
set_option maxHeartbeats 8000000 in
theorem U7:aF Tryz.prog 120 S120:=by
 refine NV (rs:=[.tmp 2,.tmp 3]) Tryz.func120 Tryz.ntmps120 (by rfl) (by kernel_rfl) (by decide) (fun _=>by first | rfl | exact QG _ _ | simp[D.clos,D.closL,ln]) ⟨_,rfl,lb rfl,fun x hp H h0 h1 h2 hO ae=>?_⟩
 simp only[ba,cZ,List.map_cons,List.map_nil,Nat.zero_add,Option.map_some,Option.map_none]at h0 |-
 have hΓ:=aa4
 have pK:x.rs.length<=maxLen:=by have:=hp.rn;unfold maxLen;omega
 repeat refine sq ?_
 refine rx hΓ [0] [] (fun K' hK=>by simp only[go_sem,hO,ae,h0,h1,h2];(repeat (refine⟨ak,?_⟩));exact hK _ (by simp only[go_sem,hO,ae,h0,h1,h2]) (by simp only[go_sem,hO,ae,h0,h1,h2]<;>rfl)) ?_
 repeat refine sq ?_
 refine rx hΓ [0,11,12,13] [] (fun K' hK=>by simp only[go_sem,hO,ae,h0,h1,h2];(repeat (refine⟨ak,?_⟩));exact hK _ (by simp only[go_sem,hO,ae,h0,h1,h2]) (by simp only[go_sem,hO,ae,h0,h1,h2]<;>rfl)) ?_
 repeat refine sq ?_
 refine aI ?_
 repeat refine sq ?_
 refine bT (fun s:Nat=>[(13,⟨true,.v (vInt s)⟩)]) (fun s=>[]) (fun s=>s<=x.rs.length/\∀ k,k<s->mb x k=none) (fun s=>x.rs.length-s) 0 ?_ ?_ ?_ ?_
 ·exact⟨Nat.zero_le _,by simp⟩
 ·rfl
 ·rfl
 rintro i ⟨hi,hR⟩
 simp only[go_sem]
 repeat refine sq ?_
 refine rx hΓ [0,11,12,13,14] [] (fun K' hK=>by simp only[go_sem,hO,ae,h0,h1,h2];(repeat (refine⟨ak,?_⟩));exact hK _ (by simp only[go_sem,hO,ae,h0,h1,h2]) (by simp only[go_sem,hO,ae,h0,h1,h2]<;>rfl)) ?_
 repeat refine sq ?_
 refine ax (fun hb=>?_) fun hb=>?_
 ·have ab:i<x.rs.length:=by simpa using hb
  have ao:(i:Int)<x.rs.length:=by omega
  clear hb
  have Cn:IntKind.i64.wrap ((i:Int)+1)=((i+1:Nat):Int):=aV ab pK
  have ry:x.rs.length-(i+1)<=maxLen:=by omega
  have vr:List.take (x.rs.length-(i+1)) ((x.rs.drop (i+1)).map encR)=(x.rs.drop (i+1)).map encR:=List.take_of_length_le (by simp)
  have et:=hp.rs x.rs[i] (List.getElem_mem ab)
  repeat refine sq ?_
  refine aC ?_
  repeat refine sq ?_
  refine aI ?_
  repeat refine sq ?_
  refine rx hΓ [0,4,5,11,12,13] [[5,0]] (fun K' hK=>by simp only[go_sem,hO,ae,h0,h1,h2,ah ab,ai,aj,ao];(repeat (refine⟨ak,?_⟩));exact hK _ (by simp only[go_sem,hO,ae,h0,h1,h2,ah ab,ai,aj,ao]) (by simp only[go_sem,hO,ae,h0,h1,h2,ah ab,ai,aj,ao]<;>rfl)) ?_
  repeat refine sq ?_
  refine rx hΓ [0,5,11,12,13,24,25,26] [[5,0]] (fun K' hK=>by simp only[go_sem,hO,ae,h0,h1,h2,ah ab,ai,aj,ao,Cn,<-List.map_drop,vr];(repeat (refine⟨by first | exact ak | exact⟨by omega,Int.le_refl _,fun y hy=>(Bo _ y hy).1⟩,?_⟩));exact hK _ (by simp only[go_sem,hO,ae,h0,h1,h2,ah ab,ai,aj,ao,Cn,<-List.map_drop,vr]) (by simp only[go_sem,hO,ae,h0,h1,h2,ah ab,ai,aj,ao,Cn,<-List.map_drop,vr]<;>rfl)) ?_
  repeat refine sq ?_
  refine aI ?_
  repeat refine sq ?_
  refine bT (fun s:Nat=>[(26,⟨true,.v (vInt s)⟩)]) (fun s=>[]) (fun s=>s<=(x.rs.drop (i+1)).length/\∀ k (hk:k<(x.rs.drop (i+1)).length),k<s->kT x x.rs[i] (x.rs.drop (i+1))[k]=false) (fun s=>(x.rs.drop (i+1)).length-s) 0 ?_ ?_ ?_ ?_
  ·exact⟨Nat.zero_le _,by simp⟩
  ·rfl
  ·rfl
  rintro i1 ⟨hi,hR⟩
  simp only[go_sem]
  repeat refine sq ?_
  refine rx hΓ [0,5,11,12,13,24,25,26,27] [[5,0]] (fun K' hK=>by simp only[go_sem,hO,ae,h0,h1,h2,ah ab,ai,aj,ao];(repeat (refine⟨ak,?_⟩));exact hK _ (by simp only[go_sem,hO,ae,h0,h1,h2,ah ab,ai,aj,ao]) (by simp only[go_sem,hO,ae,h0,h1,h2,ah ab,ai,aj,ao]<;>rfl)) ?_
  repeat refine sq ?_
  refine ax (fun hb=>?_) fun hb=>?_
  ·have aJ:i1<(x.rs.drop (i+1)).length:=by simpa using hb
   have bq:(i1:Int)<(x.rs.drop (i+1)).length:=by omega
   clear hb
   have fJ:=hp.rs (x.rs.drop (i+1))[i1] (List.mem_of_mem_drop (List.getElem_mem aJ))
   repeat refine sq ?_
   refine aC ?_
   repeat refine sq ?_
   refine aI ?_
   repeat refine sq ?_
   refine rx hΓ [0,5,7,11,12,13,24,25,26] [[5,0],[7,0]] (fun K' hK=>by simp only[go_sem,hO,ae,h0,h1,h2,ah ab,ai,aj,ao,ah aJ,ai,aj,bq];(repeat (refine⟨ak,?_⟩));exact hK _ (by simp only[go_sem,hO,ae,h0,h1,h2,ah ab,ai,aj,ao,ah aJ,ai,aj,bq]) (by simp only[go_sem,hO,ae,h0,h1,h2,ah ab,ai,aj,ao,ah aJ,ai,aj,bq]<;>rfl)) ?_
   repeat refine sq ?_
   refine rx hΓ [0,5,7,11,12,13,24,25,26,33] [[5,0],[7,0]] (fun K' hK=>by simp only[go_sem,hO,ae,h0,h1,h2,ah ab,ai,aj,ao,ah aJ,ai,aj,bq];(repeat (refine⟨ak,?_⟩));exact hK _ (by simp only[go_sem,hO,ae,h0,h1,h2,ah ab,ai,aj,ao,ah aJ,ai,aj,bq]) (by simp only[go_sem,hO,ae,h0,h1,h2,ah ab,ai,aj,ao,ah aJ,ai,aj,bq]<;>rfl)) ?_
   repeat refine sq ?_
   refine ax (fun hb=>?_) fun hb=>?_
   ·repeat refine sq ?_
    refine rx hΓ [2,3] [] (fun K' hK=>by simp only[go_sem,hO,ae,h0,h1,h2,ah ab,ai,aj,ao,ah aJ,ai,aj,bq];(repeat (refine⟨ak,?_⟩));exact hK _ (by simp only[go_sem,hO,ae,h0,h1,h2,ah ab,ai,aj,ao,ah aJ,ai,aj,bq]) (by simp only[go_sem,hO,ae,h0,h1,h2,ah ab,ai,aj,ao,ah aJ,ai,aj,bq]<;>rfl)) ?_
    refine av ?_
    simp only[go_sem,hO,ae,h0,h1,h2]
    rw[QR ab (by assumption) (QT ab aJ hR (by simpa using hb))];rfl
   ·repeat refine sq ?_
    refine aC ?_
    refine bA ?_
    simp only[go_sem]
    refine dd [0,5,11,12,13,24,25,26] [[5,0]] ?_ ?_
    ·simp only[go_sem,hO,ae,h0,h1,h2]
    simp only[go_sem,hO,ae,h0,h1,h2]
    repeat refine sq ?_
    refine aS hΓ fun K' hK=>?_
    simp only[go_sem,hO,ae,h0,h1,h2,ah ab,ai,aj,ao,ah aJ,ai,aj,bq]
    repeat (refine⟨ak,?_⟩)
    refine hK _ ?_
    clear K' hK
    simp only[go_sem]
    refine⟨i1+1,⟨aJ,?_⟩,by(show (x.rs.drop (i+1)).length-(i1+1)<(x.rs.drop (i+1)).length-i1;omega),?_⟩
    ·intro k hk cS
     rcases Nat.lt_succ_iff_lt_or_eq.1 cS with h5 | rfl
     ·exact hR k hk h5
     ·simpa using hb
    refine bd [0,5,11,12,13,24,25,26] [[5,0]] ?_ ?_<;>simp only[go_sem,aV aJ (by rw[List.length_drop];omega:(x.rs.drop (i+1)).length<=maxLen),aY,hO,ae,h0,h1,h2]
  ·have gz:i1=(x.rs.drop (i+1)).length:=by
    have :¬ (i1:Int)<(x.rs.drop (i+1)).length:=by simpa using hb
    omega
   clear hb
   subst gz
   repeat refine sq ?_
   refine bC ?_
   simp only[go_sem]
   refine dd [0,11,12,13] [] ?_ ?_
   ·simp only[go_sem,hO,ae,h0,h1,h2]
   simp only[go_sem,hO,ae,h0,h1,h2]
   repeat refine sq ?_
   refine aS hΓ fun K' hK=>?_
   simp only[go_sem,hO,ae,h0,h1,h2,ah ab,ai,aj,ao]
   repeat (refine⟨ak,?_⟩)
   refine hK _ ?_
   clear K' hK
   simp only[go_sem]
   refine⟨i+1,⟨ab,?_⟩,by(show x.rs.length-(i+1)<x.rs.length-i;omega),?_⟩
   ·intro k hk
    rcases Nat.lt_succ_iff_lt_or_eq.1 hk with h5 | rfl
    ·exact(by assumption:∀ k,k<i->mb x k=none) k h5
    ·exact QU ab fun j hj=>hR j hj hj
   refine bd [0,11,12,13] [] ?_ ?_<;>simp only[go_sem,aV ab pK,aY,hO,ae,h0,h1,h2]
 ·have bj:i=x.rs.length:=by
   have :¬ (i:Int)<x.rs.length:=by simpa using hb
   omega
  clear hb
  subst bj
  repeat refine sq ?_
  refine bC ?_
  simp only[go_sem]
  refine dd [] [] ?_ ?_
  ·simp only[go_sem,hO,ae,h0,h1,h2]
  simp only[go_sem,hO,ae,h0,h1,h2]
  repeat refine sq ?_
  refine rx hΓ [2,3] [] (fun K' hK=>by simp only[go_sem,hO,ae,h0,h1,h2];(repeat (refine⟨ak,?_⟩));exact hK _ (by simp only[go_sem,hO,ae,h0,h1,h2]) (by simp only[go_sem,hO,ae,h0,h1,h2]<;>rfl)) ?_
  refine av ?_
  simp only[go_sem,hO,ae,h0,h1,h2]
  rw[QS hR];rfl
end
def gY(obj:Name->Option O)(L:List O):Name->Option O:=fun nm=>match aM L nm with | some o=>some o | none=>obj nm
theorem FM{L1 L2:List O}(h:L2.length=L1.length):gY (aM L1) L2=aM L2:=by
 funext nm
 unfold gY
 cases hx:c9 nm with
 |false=>rw[xE hx,xE hx]
 |true=>
  obtain⟨i,rfl⟩:=th.1 hx
  simp only[aM]
  by_cases hi:i<L2.length
  ·rw[List.getElem?_eq_getElem hi]
  ·rw[List.getElem?_eq_none (by omega),List.getElem?_eq_none (by omega)]
theorem s8(n:Nat)(p:Name)(F H:Name->Option O)(L:List O)(l:List (Nat×E))(h:List (Name×O)):
 be n p (gY (fun nm=>if own p nm=true then F nm else H nm) L) l h=be n p (gY H L) l h:=
 x9 fun nm hn=>by unfold gY;simp[hn]
theorem um(p:Name)(dom:Name->Bool)(F H:Name->Option O)(L:List O):
 bx p dom (gY (fun nm=>if own p nm=true then F nm else H nm) L)=bx p dom (gY H L):=by
 have e:∀ nm,own p nm=false->gY (fun nm=>if own p nm=true then F nm else H nm) L nm=gY H L nm:=fun nm hn=>by unfold gY;simp[hn]
 exact propext ⟨fun k nm q hn h=>k nm q hn (by rw[e nm hn];exact h),fun k nm q hn h=>k nm q hn (by rw[<-e nm hn];exact h)⟩
def Lp.I(r:Lp)(s:Nat):List O:=r.rc (LI r.m) .ready none::r.fam (LI r.m) s
theorem Lp.I_len{r:Lp}(hr:r.Ok)(s:Nat):(r.I s).length=r.m+1:=by unfold Lp.I;rw[List.length_cons,hr.len _ _ (fL _)]
theorem Lp.I_clos{r:Lp}(hr:r.Ok)(s:Nat):∀ o∈r.I s,∀ dom:Name->Bool,(∀ i,dom [i,1]=true)->O.clos dom o=true:=by
 intro o ho dom hd
 have pW:∀ x∈LI r.m,dom x=true:=fun x hx=>by
  obtain⟨i,_,rfl⟩:=List.mem_map.1 hx
  exact hd _
 rcases List.mem_cons.1 ho with rfl | ho
 ·exact hr.closE _ _ (fL _) pW
 ·exact hr.closF _ _ _ (fL _) pW _ ho
theorem Lp.y_setU{r:Lp}(hr:r.Ok)(cq:∀ j,r.st j=none){s:Nat}(hs:s<r.n)(obj:Name->Option O)(tm:Name)(ho:∀ nm,c9 nm=true->obj nm=aM (r.I s) nm):
 r.y.toSpec.app obj tm (.yld [0,1]::r.vals s)=⟨True,.v (.bool true),gY obj (r.I (s+1))⟩:=by
 have rE:(LI r.m).Nodup:=List.Pairwise.map _ (fun a b h=>by simpa using h) List.nodup_range
 have oM:([0,1]:Name)∉LI r.m:=fun h=>by
  obtain⟨i,_,hi⟩:=List.mem_map.1 h
  simp at hi
 have h0:obj [0,1]=some (r.rc (LI r.m) .ready none):=by
  rw[ho _ rfl];rfl
 have hF:bW obj (LI r.m) (r.fam (LI r.m) s):=by
  rw[js]
  refine List.ext_getElem (by rw[List.length_map,List.length_map,fL,hr.len _ _ (fL _)]) fun i h3 h4=>?_
  simp only[List.getElem_map,LI,List.getElem_range]
  rw[ho _ rfl]
  simp only[Lp.I,aM,List.getElem?_cons_succ]
  have h5:i<(r.fam (LI r.m) s).length:=by simpa using h4
  rw[List.getElem?_eq_getElem h5]
  rfl
 have rC:=Lp.y_app hr hs (fun j _=>cq j) (t:=tm) (fL _) rE oM h0 hF
 rw[rC,cq s]
 simp only[Option.isNone_none,if_true]
 congr 1
 funext nm
 have hlen:=hr.len (LI r.m) (s+1) (fL _)
 by_cases hR:nm=[0,1]
 ·subst hR
  rw[aO]
  rfl
 ·rw[aW _ _ _ hR]
  unfold gY
  cases hx:c9 nm with
  |false=>
   rw[xE hx,sL]
   intro gO
   obtain⟨i,_,rfl⟩:=List.mem_map.1 gO
   cases hx
  |true=>
   obtain⟨i,rfl⟩:=th.1 hx
   have dE:=FQ (obj:=obj) (F:=r.fam (LI r.m) (s+1)) rE (by rw[fL,hlen])
   match i,hR with
   | 0,hR=>exact(hR rfl).elim
   |i+1,_=>
    simp only[Lp.I,aM,List.getElem?_cons_succ]
    by_cases hi:i<r.m
    ·have h6:=Bt dE i (by rw[fL];exact hi) (by rw[hlen];exact hi)
     simp only[LI,List.getElem_map,List.getElem_range]at h6
     rw[show (r.fam (LI r.m) (s+1))[i]?=some (r.fam (LI r.m) (s+1))[i]from List.getElem?_eq_getElem (by rw[hlen];exact hi)]
     exact h6
    ·rw[List.getElem?_eq_none (by rw[hlen];omega),sL]
     intro gO
     obtain⟨j,Wf,We⟩:=List.mem_map.1 gO
     have :=List.mem_range.1 Wf
     simp at We
     omega
theorem Lp.go_e{r:Lp}(cq:∀ j,r.st j=none):r.e=r.n/\r.pd=none:=by
 have :(List.range r.n).find? (fun s=>(r.st s).isSome)=none:=List.find?_eq_none.2 fun s _=>by rw[cq s];decide
 unfold Lp.e Lp.pd
 rw[this]
 exact⟨rfl,rfl⟩
theorem Lp.go_end{P:Program}{r:Lp}(hr:r.Ok)(cq:∀ j,r.st j=none){σ:S}(eu:∀ i,σ.obj [i,1]=aM (r.I r.n) [i,1]):
 (bL P σ []).ok/\(bL P σ []).d=.tup []/\fC (r.rc (LI r.m) .ready none::r.fam (LI r.m) 0) ⟨(0,r.fin (LI r.m))::eJ 1 (r.fam (LI r.m) r.e),[],.tup []⟩ σ:=by
 obtain⟨e1,e2⟩:=Lp.go_e cq
 refine Lp.it_end hr ?_ ?_
 ·rw[eu]
  unfold Lp.fin
  rw[e2]
  rfl
 ·rw[js,e1]
  refine List.ext_getElem (by rw[List.length_map,List.length_map,fL,hr.len _ _ (fL _)]) fun i h3 h4=>?_
  simp only[List.getElem_map,LI,List.getElem_range]
  rw[eu]
  simp only[Lp.I,aM,List.getElem?_cons_succ]
  have h5:i<(r.fam (LI r.m) r.n).length:=by simpa using h4
  rw[List.getElem?_eq_getElem h5]
  rfl
theorem Lp.itC_sound{P:Program}{r:Lp}(hr:r.Ok)(cq:∀ j,r.st j=none){caps:List Name->List D}{f:FuncId}{fn:Func}{nt:Nat}(hf:P.funcs[f]?=some fn)(cM:fn.ntmps=nt)(ck:fn.results.toList=[])(hn:(fn.name== "runtime.NumGoroutine")=false)(hy:f<1000000000)
 (hw:∃ c,fn.body=some c/\(caps (LI r.m)).length+1<=nt/\CL P [c] (be nt [0] (aM (r.I 0)) (cZ 0 (.yld [0,1]::caps (LI r.m))) []) (fun e σ=>(e=.normal\/e=.ret)/\∀ i,σ.obj [i,1]=aM (r.I r.n) [i,1])):aF P f (r.itC caps).toSpec:=by
 obtain⟨c,hc,hl,hw⟩:=hw
 refine kV hf hc cM ck (gm hf hc hn) (Nat.ne_of_lt (show f<yid from hy)) ?_
 rintro os ds ⟨rfl,rfl⟩
 refine⟨by simpa using hl,CW.mono (fE hw) ?_⟩
 rintro e σ ⟨he,eu⟩
 rcases he with rfl | rfl
 ·exact Lp.go_end hr cq eu
 ·exact Lp.go_end hr cq eu
theorem Lp.it_sound{P:Program}{r:Lp}(hr:r.Ok)(cq:∀ j,r.st j=none){caps:List V}{f:FuncId}{fn:Func}{nt:Nat}(hf:P.funcs[f]?=some fn)(cM:fn.ntmps=nt)(ck:fn.results.toList=[])(hn:(fn.name== "runtime.NumGoroutine")=false)(hy:f<1000000000)
 (hw:∃ c,fn.body=some c/\caps.length+1<=nt/\CL P [c] (be nt [0] (aM (r.I 0)) (cZ 0 (.yld [0,1]::caps.map .v)) []) (fun e σ=>(e=.normal\/e=.ret)/\∀ i,σ.obj [i,1]=aM (r.I r.n) [i,1])):aF P f (r.it caps).toSpec:=by
 obtain⟨c,hc,hl,hw⟩:=hw
 refine kV hf hc cM ck (gm hf hc hn) (Nat.ne_of_lt (show f<yid from hy)) ?_
 rintro os ds ⟨rfl,rfl⟩
 refine⟨by simpa using hl,CW.mono (fE hw) ?_⟩
 rintro e σ ⟨he,eu⟩
 rcases he with rfl | rfl
 ·exact Lp.go_end hr cq eu
 ·exact Lp.go_end hr cq eu
noncomputable section
def o5(obj:Name->Option O)(t:Name):List D->R
 |[.ref nv 0,.v (.int .i64 pa),.v (.sl lv)]=>match il obj nv with
  |some (nb,nd,x)=>⟨nc obj nv nb nd x/\obj (3::0::t)=none,.clo (.func 193) [] [.ref (3::0::t) 0,.v (.ptr [vInt pa]),.v (.ptr [.sl lv])],upd obj (3::0::t) (some (.box [.ref nv 0]))⟩
  |_=>.bad obj
 |_=>.bad obj
def Az(obj:Name->Option O)(t:Name):List D->List Name
 | .ref nv _::_=>(3::0::t)::nv::(match obj nv with | some (.box [_,_,_,.map nb,.map nd])=>[nb,nd] | _=>[])
 |_=>[]
def withS:Spec:=⟨o5,Az,Az⟩
theorem XC{obj obj2:Name->Option O}{nv:Name}(h1:obj2 nv=obj nv)(h2:∀ nm∈(match obj nv with | some (.box [_,_,_,.map nb,.map nd])=>[nb,nd] | _=>[]),obj2 nm=obj nm):il obj2 nv=il obj nv:=by
 unfold il
 rw[h1]
 split
 ·rename_i lp rs ts nb nd h
  rw[h]at h2
  rw[h2 nb (by simp),h2 nd (by simp)]
 ·rfl
theorem XB{obj:Name->Option O}{nv nb nd:Name}{x:Vw}(h:il obj nv=some (nb,nd,x)):(match obj nv with | some (.box [_,_,_,.map nb,.map nd])=>[nb,nd] | _=>[])=[nb,nd]:=by
 unfold il at h
 split at h
 ·rename_i e
  split at h
  ·cases h;rw[e]
  ·cases h
 ·cases h
theorem NF:withS.Near:=by
 refine qE fun obj obj2 t ds ha=>?_
 unfold Az at ha |-
 split
 ·rename_i nv off r
  simp only at ha
  have h1:obj2 nv=obj nv:=ha nv (by simp)
  have hg:=XC h1 fun nm hn=>ha nm (by simp[hn])
  refine⟨by rw[h1],?_⟩
  unfold o5
  split
  ·rename_i nv' pa lv e
   cases e
   simp only[hg]
   split
   ·rename_i nb nd x hx
    have aA:=XB hx
    rw[aA]at ha |-
    have aa:nc obj2 nv nb nd x=nc obj nv nb nd x:=by unfold nc;rw[h1,ha nb (by simp),ha nd (by simp)]
    rw[aa,ha (3::0::t) (by simp)]
    exact .one (by simp) ha
   ·exact .none _ ha
  ·exact .none _ ha
 ·refine⟨rfl,?_⟩
  rename_i kP
  unfold o5
  split
  ·exact(kP _ _ _ rfl).elim
  ·exact .none _ (fun _ h=>by cases h)
attribute [go_sem] withS o5
def wZ:CSpec where
 pre:=fun os ds=>∃ (x:Vw) (pa:Int) (lv:List V),os=[ba x [1,1] [2,1],.map 2 (bD x.bk),.map 0 (bw x.ds)]/\ds=[.ref [0,1] 0,.v (vInt pa),.v (.sl lv)]
 out:=fun _ ds=>match ds with
  |[_,.v p,.v l]=>⟨[],[([3,0],.box [.ref [0,1] 0])],.clo (.func 193) [] [.ref [3,0] 0,.v (.ptr [p]),.v (.ptr [l])]⟩
  |_=>⟨[],[],.any⟩
theorem ND{f:FuncId}(h:aF Tryz.prog f wZ.toSpec)(aB:f≠yid):aF Tryz.prog f withS:=by
 refine qv h NF aB fun obj t ds aa=>?_
 change (o5 obj t ds).ok at aa
 refine⟨ds,rfl,fun _ _ _ _ h=>h,?_⟩
 show _/\_=(o5 obj t ds).d/\_=(o5 obj t ds).obj
 unfold o5 at aa |-
 split at aa
 ·rename_i nv pa lv
  split at aa
  ·rename_i nb nd x vR
   obtain⟨hv,cT⟩:=aa
   have qR:=hv
   obtain⟨h1,h2,h3,h4,h5,h6⟩:=qR
   have n4:nv≠nb:=by simpa using h4
   have n5:nv≠nd:=by simpa using h5
   have n6:nb≠nd:=by simpa using h6
   have hr:=Gr hv [vInt pa,.sl lv]
   simp only[List.map_cons,List.map_nil]at hr
   have i0:idx [nv,nb,nd] nv=0:=by simp[idx]
   have i1:idx [nv,nb,nd] nb=1:=by simp[idx,n4]
   have i2:idx [nv,nb,nd] nd=2:=by simp[idx,n5,n6]
   have e1:ca obj [.ref nv 0,.v (vInt pa),.v (.sl lv)]=[ba x [1,1] [2,1],.map 2 (bD x.bk),.map 0 (bw x.ds)]:=by
    unfold ca
    rw[hr]
    simp only[List.map_cons,List.map_nil,cm,h1,h2,h3,ba,O.ren,D.renL,D.ren,cin,i1,i2]
   have e2:cC obj [.ref nv 0,.v (vInt pa),.v (.sl lv)]=[.ref [0,1] 0,.v (vInt pa),.v (.sl lv)]:=by
    unfold cC
    rw[hr]
    simp only[D.renL,D.ren,cin,i0]
   have e5:(shut obj [nv,nb,nd]&&D.closL (bZ [nv,nb,nd]) [.ref nv 0,.v (vInt pa),.v (.sl lv)]&&fresh obj t [([3,0],.box [.ref [0,1] 0])])=true:=by
    simp[shut,h1,h2,h3,ba,O.clos,D.closL,D.clos,bZ,fresh,cT]
   have e4:wZ.pre [ba x [1,1] [2,1],.map 2 (bD x.bk),.map 0 (bw x.ds)] [.ref [0,1] 0,.v (vInt pa),.v (.sl lv)]:=⟨x,pa,lv,rfl,rfl⟩
   have e6:∀ os,wZ.out os [.ref [0,1] 0,.v (vInt pa),.v (.sl lv)]=⟨[],[([3,0],.box [.ref [0,1] 0])],.clo (.func 193) [] [.ref [3,0] 0,.v (.ptr [vInt pa]),.v (.ptr [.sl lv])]⟩:=fun _=>rfl
   have XW:cC obj [.ref nv 0,.v (V.int .i64 pa),.v (.sl lv)]=[.ref [0,1] 0,.v (vInt pa),.v (.sl lv)]:=e2
   have XZ:ca obj [.ref nv 0,.v (V.int .i64 pa),.v (.sl lv)]=_:=e1
   have pL:reach obj [.ref nv 0,.v (V.int .i64 pa),.v (.sl lv)]=_:=hr
   have XV:(shut obj [nv,nb,nd]&&D.closL (bZ [nv,nb,nd]) [.ref nv 0,.v (V.int .i64 pa),.v (.sl lv)]&&fresh obj t [([3,0],.box [.ref [0,1] 0])])=true:=e5
   simp only[CSpec.toSpec,XZ,XW,pL,e6,e4,XV,vR,and_self,de,cA]
   exact⟨trivial,rfl,rfl⟩
  ·exact aa.elim
 ·exact aa.elim
def S164:Spec:=withS
attribute [go_sem] S164
set_option maxHeartbeats 4000000 in
theorem Cb:aF Tryz.prog 164 S164:=by
 refine ND ?_ (jt _ (by decide))
 refine kV (nt:=8) (rs:=[.tmp 6]) Tryz.func164 rfl (by rfl) (by kernel_rfl) (gm Tryz.func164 rfl (by kernel_rfl)) (jt _ (by decide)) ?_
 rintro os ds ⟨x,pa,lv,rfl,rfl⟩
 refine⟨lb rfl,?_⟩
 have eP:∀ os,wZ.out os [.ref [0,1] 0,.v (vInt pa),.v (.sl lv)]=⟨[],[([3,0],.box [.ref [0,1] 0])],.clo (.func 193) [] [.ref [3,0] 0,.v (.ptr [vInt pa]),.v (.ptr [.sl lv])]⟩:=fun _=>rfl
 rw[eP]
 refine fE ?_
 have hΓ:=@dI Tryz.prog
 have hO:∀ hs,bx [0] (bp [0] hs) (aM [ba x [1,1] [2,1],.map 2 (bD x.bk),.map 0 (bw x.ds)])=True:=fun hs=>eq_true (jL (by
  intro o ho dom hd
  simp only[List.mem_cons,List.not_mem_nil,or_false]at ho
  rcases ho with rfl | rfl | rfl
  ·simp[ba,O.clos,D.closL,D.clos,hd]
  ·rfl
  ·rfl) hs)
 have h0:aM [ba x [1,1] [2,1],.map 2 (bD x.bk),.map 0 (bw x.ds)] [0,1]=some (ba x [1,1] [2,1]):=rfl
 have h1:aM [ba x [1,1] [2,1],.map 2 (bD x.bk),.map 0 (bw x.ds)] [1,1]=some (.map 2 (bD x.bk)):=rfl
 have h2:aM [ba x [1,1] [2,1],.map 2 (bD x.bk),.map 0 (bw x.ds)] [2,1]=some (.map 0 (bw x.ds)):=rfl
 generalize aM [ba x [1,1] [2,1],.map 2 (bD x.bk),.map 0 (bw x.ds)]=H at *
 repeat refine sq ?_
 refine rx hΓ [3,4,5] [[3,0],[4,0],[5,0]] (fun K' hK=>by simp only[go_sem,hO];(repeat (refine⟨ak,?_⟩));exact hK _ (by simp only[go_sem,hO]) (by simp only[go_sem,hO]<;>rfl)) ?_
 refine bG (c0 4 (.ref [4,0] 0) (by simp only[go_sem]) (by simp only[go_sem]) [3,4,5] [[3,0],[4,0],[5,0]] ?_ rfl) ?_
 ·simp only[go_sem,hO]
 simp only[go_sem,hO]
 refine bG (c0 5 (.ref [5,0] 0) (by simp only[go_sem]) (by simp only[go_sem]) [3,4,5] [[3,0]] ?_ rfl) ?_
 ·simp only[go_sem,hO]
 simp only[go_sem,hO]
 repeat refine sq ?_
 refine rx hΓ [6] [[3,0],[4,0],[5,0]] (fun K' hK=>by simp only[go_sem,hO];(repeat (refine⟨ak,?_⟩));exact hK _ (by simp only[go_sem,hO]) (by simp only[go_sem,hO]<;>rfl)) ?_
 refine av ?_
 simp only[go_sem,hO]
 exact⟨⟨h0,h1,h2⟩,rfl⟩
end
attribute [go_sem] vi
theorem sS(lv:List Int):pG (194,[.ptr [.sl (lv.map vInt)]])=fun n=>lv.contains n:=by
 funext n
 simp only[pG,p9]
set_option maxHeartbeats 8000000 in
theorem NT{sY:Spec}(hY:aF Tryz.prog yid sY){x:Vw}{nb nd:Name}{pa:Int}{lv:List Int}{ia ic:Nat}{I:Nat->List O}(hv:∀ r∈x.rs,dO r=true)(iZ:x.rs.length<=60)
 (hI:∀ s,(I s).length=(I 0).length) (hc:∀ s,∀ o∈I s,∀ dom:Name->Bool,(∀ i,dom [i,1]=true)->O.clos dom o=true)
 (ha:aM (I 0) [ia,1]=some (.box [.ref [ic,1] 0])) (hx:aM (I 0) [ic,1]=some (ba x nb nd))
 (cq:∀ s (h:s<x.rs.length),jX pa lv x.rs[s]=false->I (s+1)=I s)
 (j7:∀ s (h:s<x.rs.length),jX pa lv x.rs[s]=true->∀ obj tm,(∀ nm,c9 nm=true->obj nm=aM (I s) nm)->sY.app obj tm [.yld [0,1],ga x.rs[s]]=⟨True,.v (.bool true),gY obj (I (s+1))⟩):
 ∃ c',Tryz.f193.body=some c'/\CL Tryz.prog [c'] (be 33 [0] (aM (I 0)) [(0,⟨true,.yld [0,1]⟩),(1,⟨true,.ref [ia,1] 0⟩),(2,⟨true,.v (.ptr [vInt pa])⟩),(3,⟨true,.v (.ptr [.sl (lv.map vInt)])⟩)] [])
   (fun e σ=>(e=.normal\/e=.ret)/\∀ i,σ.obj [i,1]=aM (I x.rs.length) [i,1]):=by
 refine⟨_,rfl,?_⟩
 obtain⟨Γ,hΓ,dT,dz⟩:∃ Γ:FuncId->Option Spec,(∀ f s,Γ f=some s->aF Tryz.prog f s)/\Γ 160=some S160/\Γ 1000000000=some sY:=by
  refine⟨fun f=>if f=160 then some S160 else if f=1000000000 then some sY else none,fun f s h=>?_,rfl,rfl⟩
  dsimp only at h
  split at h
  ·rename_i e;cases h;subst e;exact Jv
  ·split at h
   ·rename_i e;cases h;subst e;exact hY
   ·cases h
 have hO:∀ s hs,bx [0] (bp [0] hs) (aM (I s))=True:=fun s hs=>eq_true (jL (hc s) hs)
 have oD:∀ s,gY (aM (I s)) (I (s+1))=aM (I (s+1)):=fun s=>FM ((hI _).trans (hI s).symm)
 obtain⟨H,hH⟩:∃ H:Nat->Name->Option O,∀ s,aM (I s)=H s:=⟨_,fun _=>rfl⟩
 simp only[hH]at hO oD j7 ha hx |-
 simp only[ba]at hx
 have pK:x.rs.length<=maxLen:=by unfold maxLen;omega
 repeat refine sq ?_
 refine rx hΓ [0,2,3,10,11,12] [] (fun K' hK=>by simp only[go_sem,hO,ha,hx];(repeat (refine⟨ak,?_⟩));exact hK _ (by simp only[go_sem,hO,ha,hx]) (by simp only[go_sem,hO,ha,hx]<;>rfl)) ?_
 repeat refine sq ?_
 refine aI ?_
 repeat refine sq ?_
 refine wv (fun s:Nat=>be 33 [0] (H s) [(0,⟨true,.yld [0,1]⟩),(2,⟨true,.v (.ptr [vInt pa])⟩),(3,⟨true,.v (.ptr [.sl (lv.map vInt)])⟩),(10,⟨true,.v (.sl (x.rs.map encR))⟩),(11,⟨true,.v (vInt x.rs.length)⟩),(12,⟨true,.v (vInt s)⟩)] [])
  (fun s=>s<=x.rs.length) (fun s=>x.rs.length-s) 0 (Nat.zero_le _) (dG.refl _) ?_
 rintro i hi
 repeat refine sq ?_
 refine rx hΓ [0,2,3,10,11,12,13] [] (fun K' hK=>by simp only[go_sem,hO];(repeat (refine⟨ak,?_⟩));exact hK _ (by simp only[go_sem,hO]) (by simp only[go_sem,hO]<;>rfl)) ?_
 repeat refine sq ?_
 refine ax (fun hb=>?_) fun hb=>?_
 ·have ab:i<x.rs.length:=by simpa using hb
  have ao:(i:Int)<x.rs.length:=by omega
  have qQ:IntKind.i64.wrap ((i:Int)+1)=((i+1:Nat):Int):=aV ab pK
  clear hb
  have hlf:=Gp (hv x.rs[i] (List.getElem_mem ab))
  repeat refine sq ?_
  refine aC ?_
  repeat refine sq ?_
  refine aI ?_
  repeat refine sq ?_
  refine rx hΓ [0,2,3,6,10,11,12] [[6,0]] (fun K' hK=>by simp only[go_sem,hO,ah ab,ai,aj,ao];(repeat (refine⟨ak,?_⟩));exact hK _ (by simp only[go_sem,hO,ah ab,ai,aj,ao]) (by simp only[go_sem,hO,ah ab,ai,aj,ao]<;>rfl)) ?_
  have Kp:(if jX pa lv x.rs[i]=true then H (i+1)else H i)=H (i+1):=by
   split
   ·rfl
   ·rename_i h;rw[<-hH,<-hH,cq i ab (by simpa using h)]
  by_cases yA:x.rs[i].pa=pa
  ·have i4:(x.rs[i].pa==pa)=true:=by simp[yA]
   cases gA:x.rs[i].lv.any fun n=>lv.contains n with
   |true=>
    have vO:jX pa lv x.rs[i]=true:=by unfold jX;rw[gA];simp[yA]
    have oL:=fun (F:Name->Option O) (tm:Name)=>j7 i ab vO (fun nm=>if own [0] nm=true then F nm else H i nm) tm fun nm hn=>by
     obtain⟨k,rfl⟩:=th.1 hn
     simp[pq]
    simp only[ga]at oL
    repeat refine sq ?_
    refine rx hΓ [0,2,3,10,11,12,31] [] (fun K' hK=>by simp only[go_sem,hO,dT,dz,i4,sS,gA,oL,s8,um,oD,Bool.not_true];(repeat (refine⟨by first | exact ak | exact⟨trivial,.inr (.inr ⟨_,rfl⟩)⟩ | exact .inr (.inr ⟨_,rfl⟩),?_⟩));exact hK _ (by simp only[go_sem,hO,dT,dz,i4,sS,gA,oL,s8,um,oD,Bool.not_true]) (by simp only[go_sem,hO,dT,dz,i4,sS,gA,oL,s8,um,oD,Bool.not_true]<;>rfl)) ?_
    repeat refine sq ?_
    refine ax (fun hb=>?_) fun hb=>?_
    ·cases hb
    repeat refine sq ?_
    refine aC ?_
    refine bA ?_
    simp only[go_sem]
    refine dd [0,2,3,10,11,12] [] ?_ ?_
    ·simp only[go_sem,hO]
    simp only[go_sem,hO]
    repeat refine sq ?_
    refine aS hΓ fun K' hK=>?_
    simp only[go_sem]
    repeat (refine⟨ak,?_⟩)
    refine hK _ ?_
    clear K' hK
    simp only[go_sem]
    refine⟨i+1,ab,by omega,?_⟩
    refine bd [0,2,3,10,11,12] [] ?_ ?_<;>simp only[go_sem,hO,qQ,aY]
   |false=>
    have vO:jX pa lv x.rs[i]=false:=by unfold jX;rw[gA];simp
    have Dp:H (i+1)=H i:=by rw[<-hH,<-hH,cq i ab vO]
    repeat refine sq ?_
    refine rx hΓ [0,2,3,10,11,12,31] [] (fun K' hK=>by simp only[go_sem,hO,dT,dz,i4,sS,gA];(repeat (refine⟨by first | exact ak | exact⟨trivial,.inr (.inr ⟨_,rfl⟩)⟩ | exact .inr (.inr ⟨_,rfl⟩),?_⟩));exact hK _ (by simp only[go_sem,hO,dT,dz,i4,sS,gA]) (by simp only[go_sem,hO,dT,dz,i4,sS,gA]<;>rfl)) ?_
    repeat refine sq ?_
    refine ax (fun hb=>?_) fun hb=>?_
    ·cases hb
    repeat refine sq ?_
    refine aC ?_
    refine bA ?_
    simp only[go_sem]
    refine dd [0,2,3,10,11,12] [] ?_ ?_
    ·simp only[go_sem,hO]
    simp only[go_sem,hO]
    repeat refine sq ?_
    refine aS hΓ fun K' hK=>?_
    simp only[go_sem]
    repeat (refine⟨ak,?_⟩)
    refine hK _ ?_
    clear K' hK
    simp only[go_sem]
    refine⟨i+1,ab,by omega,?_⟩
    rw[Dp]
    refine bd [0,2,3,10,11,12] [] ?_ ?_<;>simp only[go_sem,hO,qQ,aY]
  ·have i4:(x.rs[i].pa==pa)=false:=by simp[yA]
   have vO:jX pa lv x.rs[i]=false:=by unfold jX;simp[yA]
   have Dp:H (i+1)=H i:=by rw[<-hH,<-hH,cq i ab vO]
   repeat refine sq ?_
   refine rx hΓ [0,2,3,10,11,12,31] [] (fun K' hK=>by simp only[go_sem,hO,dT,dz,i4];(repeat (refine⟨ak,?_⟩));exact hK _ (by simp only[go_sem,hO,dT,dz,i4]) (by simp only[go_sem,hO,dT,dz,i4]<;>rfl)) ?_
   repeat refine sq ?_
   refine ax (fun hb=>?_) fun hb=>?_
   ·cases hb
   repeat refine sq ?_
   refine aC ?_
   refine bA ?_
   simp only[go_sem]
   refine dd [0,2,3,10,11,12] [] ?_ ?_
   ·simp only[go_sem,hO]
   simp only[go_sem,hO]
   repeat refine sq ?_
   refine aS hΓ fun K' hK=>?_
   simp only[go_sem]
   repeat (refine⟨ak,?_⟩)
   refine hK _ ?_
   clear K' hK
   simp only[go_sem]
   refine⟨i+1,ab,by omega,?_⟩
   rw[Dp]
   refine bd [0,2,3,10,11,12] [] ?_ ?_<;>simp only[go_sem,hO,qQ,aY]
 ·have bj:i=x.rs.length:=by
    have :¬ (i:Int)<x.rs.length:=by simpa using hb
    omega
  subst bj
  clear hb
  repeat refine sq ?_
  refine bC ?_
  simp only[go_sem]
  refine bA ?_
  simp only[go_sem]
  first | exact .inl trivial | exact⟨by simp,fun k=>by simp[pq]⟩
set_option maxRecDepth 10000
noncomputable section
theorem xf{α:Type}{p:α->Bool}{l:List α}{s:Nat}(h:s<l.length):((l.take (s+1)).filter p)=(l.take s).filter p++(if p l[s]=true then[l[s]]else[]):=by
 rw[List.take_add_one,List.getElem?_eq_getElem h,List.filter_append]
 simp only[Option.toList_some,List.filter_cons,List.filter_nil]
theorem XO{α:Type}{p:α->Bool}{l:List α}{s:Nat}{z:α}(h:s<l.length)(hp:p l[s]=true):((l.take s).filter p).length<(l.filter p).length/\(l.filter p).getD ((l.take s).filter p).length z=l[s]:=by
 have e:l.filter p=(l.take s).filter p++(l[s]::(l.drop (s+1)).filter p):=by
  conv=>lhs;rw[<-List.take_append_drop s l,List.filter_append,List.drop_eq_getElem_cons h,List.filter_cons,if_pos hp]
 refine⟨?_,?_⟩
 ·rw[e,List.length_append,List.length_cons];omega
 ·rw[e];simp[List.getD]
def jD(j:Nat)(pa:Int)(lv:List Int)(Ls:List Name):List D:=[.ref (Ls.getD j []) 0,.v (.ptr [vInt pa]),.v (.ptr [.sl (lv.map vInt)])]
theorem F1{r:Lp}(hr:r.Ok)(cq:∀ j,r.st j=none)(hy:aF Tryz.prog yid r.y.toSpec){x:Vw}{nb nd:Name}{pa:Int}{lv:List Int}{j jc:Nat}(hv:∀ q∈x.rs,dO q=true)(iZ:x.rs.length<=60)
 (hn:r.n=(eB x.rs pa lv).length) (Cr:∀ s,r.vals s=[ga ((eB x.rs pa lv).getD s zeroR)]) (hj:j<r.m) (ha:aM (r.I 0) [j+1,1]=some (.box [.ref [jc+1,1] 0])) (hx:aM (r.I 0) [jc+1,1]=some (ba x nb nd)):
 aF Tryz.prog 193 (r.itC (jD j pa lv)).toSpec:=by
 have i7:jD j pa lv (LI r.m)=[.ref [j+1,1] 0,.v (.ptr [vInt pa]),.v (.ptr [.sl (lv.map vInt)])]:=by
  unfold jD
  have :(LI r.m).getD j []=[j+1,1]:=by simp[LI,hj]
  rw[this]
 obtain⟨c,hc,h⟩:=NT hy (x:=x) (nb:=nb) (nd:=nd) (pa:=pa) (lv:=lv) (ia:=j+1) (ic:=jc+1) (I:=fun s=>r.I ((x.rs.take s).filter (jX pa lv)).length) hv iZ
  (fun s=>by rw[Lp.I_len hr,Lp.I_len hr]) (fun s=>Lp.I_clos hr _) (by simpa using ha) (by simpa using hx)
  (fun s hs hh=>by rw[xf hs,hh];simp)
  (fun s hs hh obj tm ho=>by
    obtain⟨h1,h2⟩:=XO (z:=zeroR) hs hh
    have :=Lp.y_setU hr cq (s:=((x.rs.take s).filter (jX pa lv)).length) (by rw[hn];exact h1) obj tm ho
    rw[Cr]at this
    unfold eB at this
    rw[h2]at this
    rw[this,xf hs,hh]
    simp)
 refine Lp.itC_sound hr cq Tryz.func193 Tryz.ntmps193 (by rfl) (by kernel_rfl) (by decide) ⟨c,hc,by rw[i7];exact lb rfl,?_⟩
 rw[i7]
 have h0:r.I ((x.rs.take 0).filter (jX pa lv)).length=r.I 0:=by simp
 have h9:r.I ((x.rs.take x.rs.length).filter (jX pa lv)).length=r.I r.n:=by rw[List.take_length,hn];rfl
 simp only[h0,h9]at h
 exact h
theorem Gu{a b:Rec}(h:ga a=ga b):a=b:=by
 obtain⟨a1,a2,a3,al,a4,a5,a6⟩:=a
 obtain⟨b1,b2,b3,bl,b4,b5,b6⟩:=b
 simp only[ga,D.agg.injEq,List.cons.injEq,D.v.injEq,vInt,V.int.injEq,V.sl.injEq,true_and,and_true]at h
 obtain⟨rfl,rfl,rfl,hl,rfl,rfl,rfl⟩:=h
 have :=congrArg (List.map jC) hl
 have e:∀ l:List Int,(l.map fun n=>V.int .i64 n).map jC=l:=fun l=>p9 l
 rw[e,e]at this
 rw[this]
theorem Fa{l:List Rec}(hn:l.Nodup):∀ s s',s<l.length->s'<l.length->([ga (l.getD s zeroR)]:List D)=[ga (l.getD s' zeroR)]->s=s':=by
 intro s s' h h' e
 have e1:=Gu (List.cons.inj e).1
 rw[dM h,dM h']at e1
 exact(List.getElem_inj hn).1 e1
def qx:Code->Option (Array Tmp×Code×Code)
 | .seq a b=>match qx a with | some x=>some x | none=>qx b
 | .block _ b=>qx b
 | .loop b=>qx b
 | .cond _ a b=>match qx a with | some x=>some x | none=>qx b
 | .rangeFunc _ ps a b=>some (ps,a,b)
 |_=>none
def iN(fn:Func):Array Tmp×Code×Code:=((fn.body.bind qx).getD (#[],.skip,.skip))
theorem kE{Ls:List Name}(h:Ls.length=5):∃ a b c d e,Ls=[a,b,c,d,e]:=by
 match Ls,h with
 |[a,b,c,d,e],_=>exact⟨a,b,c,d,e,rfl⟩
theorem pw{Ls:List Name}(h:Ls.length=7):∃ a b c d e f g,Ls=[a,b,c,d,e,f,g]:=by
 match Ls,h with
 |[a,b,c,d,e,f,g],_=>exact⟨a,b,c,d,e,f,g,rfl⟩
def hJ(l:Led)(k i j:Int)(n:Nat)(x:Vw)(r:Rec)(lv:List Int):Lp where
 m:=5
 env:=fun Ls=>(List.range 181).map (dm eAny [(0,⟨true,.v (ey l)⟩),(5,⟨true,.ref (Ls.getD 0 []) 0⟩),(17,⟨true,.v (.ptr [vInt i])⟩),(19,⟨true,.v (.ptr [vInt r.so,vInt r.bo,vInt r.pa,.sl (r.lv.map vInt),vInt r.da,vInt r.kn,vInt r.un])⟩),(141,⟨true,.v (.sl (x.ts.map vInt))⟩),(142,⟨true,.v (vInt n)⟩),(143,⟨true,.v (vInt j)⟩),(166,⟨true,.clo (.func 193) [] (jD 4 r.pa lv Ls)⟩)])
 fam:=fun Ls s=>[.box [.ref (Ls.getD 1 []) 0],ba x (Ls.getD 2 []) (Ls.getD 3 []),.map 2 (bD x.bk),.map 0 (bw (kC x.ds i r.da ((eB x.rs r.pa lv).take s))),.box [.ref (Ls.getD 1 []) 0]]
 ps:=(iN Tryz.f76).1.toList
 asg:=(iN Tryz.f76).2.1
 body:=(iN Tryz.f76).2.2
 n:=(eB x.rs r.pa lv).length
 vals:=fun s=>[ga ((eB x.rs r.pa lv).getD s zeroR)]
 st:=fun _=>none
 fu:=100
theorem Hy(l:Led)(k i j:Int)(n:Nat)(x:Vw)(r:Rec)(lv:List Int)(hn:x.rs.Nodup):(hJ l k i j n x r lv).Ok where
 len:=fun Ls s _=>rfl
 renE:=fun f Ls h=>by obtain⟨a,b,c,d,e,rfl⟩:=kE h;rfl
 renF:=fun f Ls s h=>by obtain⟨a,b,c,d,e,rfl⟩:=kE h;rfl
 reach:=fun Ls s obj acc q h bR hd hF=>by
  obtain⟨a,b,c,d,e,rfl⟩:=kE h
  obtain⟨h1,h2,h3,h4,h5,_⟩:=hF
  have en:b8 (((hJ l k i j n x r lv).env [a,b,c,d,e]).map (·.d))=[a,e]:=rfl
  rw[en]
  show cE obj (q+91+1+1+1+1+1+1+1+1+1) _ acc=_
  simp only[List.mem_cons,List.not_mem_nil,or_false,forall_eq_or_imp,forall_eq]at hd
  obtain⟨d1,d2,d3,d4,d5⟩:=hd
  simp only[List.nodup_cons,List.mem_cons,List.not_mem_nil,or_false,not_or,not_false_eq_true,List.nodup_nil,and_true]at bR
  obtain⟨⟨a1,a2,a3,a4⟩,⟨b1,b2,b3⟩,⟨c1,c2⟩,e1⟩:=bR
  simp[cE,fx,h1,h2,h3,h4,h5,gZ,b8,iU,ba,d1,d2,d3,d4,d5,Ne.symm a1,Ne.symm a2,Ne.symm a3,Ne.symm a4,Ne.symm b1,Ne.symm b2,Ne.symm b3,Ne.symm c1,Ne.symm c2,Ne.symm e1]
 closE:=fun dom Ls h hd=>by
  obtain⟨a,b,c,d,e,rfl⟩:=kE h
  have h1:=hd a (by simp)
  have h2:=hd e (by simp)
  simp[hJ,List.range,List.range.loop,dm,D.closL,D.clos,eAny,h1,h2,jD]
 closF:=fun dom Ls s h hd o ho=>by
  obtain⟨a,b,c,d,e,rfl⟩:=kE h
  have h1:=hd b (by simp)
  have h2:=hd c (by simp)
  have h3:=hd d (by simp)
  simp only[hJ,List.mem_cons,List.not_mem_nil,or_false]at ho
  rcases ho with rfl | rfl | rfl | rfl | rfl<;>simp[O.clos,D.closL,D.clos,ba,h1,h2,h3]
 psz:=fun Ls h=>by rfl
 args:=fun s=>by rfl
 fuel:=(show (100:Nat)<=2000 by decide)
 vnam:=fun _=>rfl
 vcl:=fun _ _=>rfl
 vren:=fun _ _=>rfl
 inj:=Fa (hn.filter _)
def K23:List (Nat×Spec):=[(165,S165)]
theorem aa3:KS K23:=tc Ca<|tn
attribute [go_sem] K23
theorem Ri(d:Ds)(i da:Int){os:List Rec}{s:Nat}(h:s<os.length):kC d i da (os.take (s+1))=if os[s].da>da then oc (kC d i da (os.take s)) i ⟨0,os[s].da⟩else kC d i da (os.take s):=by
 unfold kC
 rw[List.take_add_one,List.getElem?_eq_getElem h,List.foldl_append]
 rfl
set_option maxHeartbeats 4000000 in
theorem SO(l:Led)(k i j:Int)(n:Nat)(x:Vw)(r:Rec)(lv:List Int)(hn:x.rs.Nodup):aF Tryz.prog yid (hJ l k i j n x r lv).y.toSpec:=by
 refine Lp.y_sound (Hy l k i j n x r lv hn) fun s hs _=>?_
 have hΓ:=aa3
 have fg:s<(eB x.rs r.pa lv).length:=hs
 have rv:(hJ l k i j n x r lv).fam (LR 5) s=[.box [.ref [1,1] 0],ba x [2,1] [3,1],.map 2 (bD x.bk),.map 0 (bw (kC x.ds i r.da ((eB x.rs r.pa lv).take s))),.box [.ref [1,1] 0]]:=rfl
 have ru:(hJ l k i j n x r lv).fam (LR 5) (s+1)=[.box [.ref [1,1] 0],ba x [2,1] [3,1],.map 2 (bD x.bk),.map 0 (bw (kC x.ds i r.da ((eB x.rs r.pa lv).take (s+1)))),.box [.ref [1,1] 0]]:=rfl
 have cq:(hJ l k i j n x r lv).st s=none:=rfl
 have hv:(hJ l k i j n x r lv).vals s=[ga ((eB x.rs r.pa lv)[s])]:=by rw[<-dM (z:=zeroR) fg];rfl
 have hm:(hJ l k i j n x r lv).m=5:=rfl
 rw[hm,rv,ru,cq,hv,Ri _ _ _ fg]
 generalize (eB x.rs r.pa lv)[s]=o
 generalize kC x.ds i r.da ((eB x.rs r.pa lv).take s)=d
 generalize du:[O.box [.ref [1,1] 0],ba x [2,1] [3,1],.map 2 (bD x.bk),.map 0 (bw d),.box [.ref [1,1] 0]]=os
 have hO:∀ hs,bx [0] (bp [0] hs) (aM os)=True:=by
  subst du
  refine fun hs=>eq_true (jL ?_ hs)
  intro o ho dom hd
  simp only[List.mem_cons,List.not_mem_nil,or_false]at ho
  rcases ho with rfl | rfl | rfl | rfl | rfl<;>simp[O.clos,D.closL,D.clos,ba,hd]
 have ae:∀ hs es,bx [0] (bp [0] hs) (fun nm=>if nm=[3,1]then some (.map 0 es)else aM os nm)=True:=fun hs es=>eq_true (mT (nm:=[3,1]) (o:=.map 0 es) rfl (by rw[hO];trivial))
 have h0:aM os [0,1]=some (.box [.ref [1,1] 0]):=by subst du;rfl
 have h1:aM os [1,1]=some (ba x [2,1] [3,1]):=by subst du;rfl
 have h2:aM os [2,1]=some (.map 2 (bD x.bk)):=by subst du;rfl
 have h3:aM os [3,1]=some (.map 0 (bw d)):=by subst du;rfl
 have h4:aM os [4,1]=some (.box [.ref [1,1] 0]):=by subst du;rfl
 generalize hH:aM os=H at *
 clear du hH
 simp only[ba]at h1 |-
 have iZ:iN Tryz.f76=(_,_,_):=rfl
 refine qa (uv 181 [0] H [(5,⟨true,.ref [0,1] 0⟩),(17,⟨true,.v (.ptr [vInt i])⟩),(19,⟨true,.v (.ptr [vInt r.so,vInt r.bo,vInt r.pa,.sl (r.lv.map vInt),vInt r.da,vInt r.kn,vInt r.un])⟩),(167,⟨true,ga o⟩)] [] rfl rfl (fun _ _=>rfl) ?_ (by simp) ?_ ?_) ?_
 ·intro q hq
  simp only[List.mem_cons,List.not_mem_nil,or_false]at hq
  rcases hq with rfl | rfl | rfl | rfl<;>rfl
 ·simp[D.clos,D.closL,bp,own,ga]
 ·rw[hO];trivial
 simp only[hJ,iZ]
 refine fE ?_
 repeat refine sq ?_
 refine aS hΓ fun K' hK=>?_
 simp only[go_sem,hO,ae,h0,h1,h2,h3,h4]
 repeat (refine⟨ak,?_⟩)
 refine hK _ ?_
 clear K' hK
 simp only[go_sem]
 (show CW _ _ _ _)
 refine fE ?_
 repeat refine sq ?_
 refine aI ?_
 repeat refine sq ?_
 refine rx hΓ [5,17,19,21,172] [[5,0],[17,0],[19,0],[21,0],[23,0],[24,0],[26,0],[49,0],[124,0]] (fun K' hK=>by simp only[go_sem,hO,ae,h0,h1,h2,h3,h4];(repeat (refine⟨ak,?_⟩));exact hK _ (by simp only[go_sem,hO,ae,h0,h1,h2,h3,h4]) (by simp only[go_sem,hO,ae,h0,h1,h2,h3,h4]<;>rfl)) ?_
 repeat refine sq ?_
 refine ax (fun hb=>?_) fun hb=>?_
 ·repeat refine sq ?_
  refine aS hΓ fun K' hK=>?_
  simp only[go_sem,hO,ae,h0,h1,h2,h3,h4]
  repeat (refine⟨ak,?_⟩)
  refine hK _ ?_
  clear K' hK
  simp only[go_sem]
  refine bA ?_
  have cb:o.da>r.da:=by simpa using hb
  rw[if_pos cb]
  refine⟨rfl,?_⟩
  show bW _ [[0,1],[1,1],[2,1],[3,1],[4,1]] _
  simp only[bW,go_sem,h0,h1,h2,h3,h4,DX]
  simp[BA,oc]
 ·repeat refine sq ?_
  refine aC ?_
  refine bA ?_
  simp only[go_sem]
  have cb:¬ o.da>r.da:=by simpa using hb
  rw[if_neg cb]
  refine⟨rfl,?_⟩
  show bW _ [[0,1],[1,1],[2,1],[3,1],[4,1]] _
  simp only[bW,go_sem,h0,h1,h2,h3,h4,DX]
end
noncomputable section
def fG:Option Rec->List D
 |some r=>r9 r
 |none=>[.v (vInt 0),.v (vInt 0),.v (vInt 0),.nilsl,.v (vInt 0),.v (vInt 0),.v (vInt 0)]
def lM(rs:List Rec)(pa le day:Int)(s:Nat):Option Rec:=((eB rs pa [le]).take s).foldl (wG day) none
theorem Y5{rs:List Rec}{pa le day:Int}{s:Nat}(h:s<(eB rs pa [le]).length):lM rs pa le day (s+1)=wG day (lM rs pa le day s) (eB rs pa [le])[s]:=by
 unfold lM
 rw[List.take_add_one,List.getElem?_eq_getElem h,List.foldl_append]
 rfl
theorem Y6(rs:List Rec)(pa le day:Int):lM rs pa le day (eB rs pa [le]).length=iA rs pa le day:=by
 unfold lM iA
 rw[List.take_length]
def gS(x:Vw)(pa le day:Int):Lp where
 m:=7
 env:=fun Ls=>(List.range 37).map (dm eAny [(5,⟨true,.v (.ptr [vInt day])⟩),(6,⟨true,.ref (Ls.getD 0 []) 0⟩),(8,⟨true,.ref (Ls.getD 1 []) 0⟩),(9,⟨true,.ref (Ls.getD 2 []) 0⟩),(17,⟨true,.clo (.func 193) [] (jD 3 pa [le] Ls)⟩)])
 fam:=fun Ls s=>[.box (fG none),.box (fG (lM x.rs pa le day s)),.box [.v (.bool (lM x.rs pa le day s).isSome)],.box [.ref (Ls.getD 4 []) 0],ba x (Ls.getD 5 []) (Ls.getD 6 []),.map 2 (bD x.bk),.map 0 (bw x.ds)]
 ps:=(iN Tryz.f119).1.toList
 asg:=(iN Tryz.f119).2.1
 body:=(iN Tryz.f119).2.2
 n:=(eB x.rs pa [le]).length
 vals:=fun s=>[ga ((eB x.rs pa [le]).getD s zeroR)]
 st:=fun _=>none
 fu:=100
theorem YN(f:Name->Name)(o:Option Rec):D.renL f (fG o)=fG o:=by cases o<;>rfl
theorem Mc(o:Option Rec):b8 (fG o)=[]:=by cases o<;>rfl
theorem zJ(p:Name->Bool)(o:Option Rec):D.closL p (fG o)=true:=by cases o<;>rfl
theorem Ev(x:Vw)(pa le day:Int)(hn:x.rs.Nodup):(gS x pa le day).Ok where
 len:=fun Ls s _=>rfl
 renE:=fun f Ls h=>by obtain⟨a,b,c,d,e,f,g,rfl⟩:=pw h;rfl
 renF:=fun f Ls s h=>by
  obtain⟨a,b,c,d,e,f,g,rfl⟩:=pw h
  simp only[gS,List.map_cons,List.map_nil,O.ren,YN,D.renL,D.ren,ba,List.getD_cons_succ,List.getD_cons_zero]
 reach:=fun Ls s obj acc q h bR hd hF=>by
  obtain⟨a,b,c,d,e,f,g,rfl⟩:=pw h
  obtain⟨h1,h2,h3,h4,h5,h6,h7,_⟩:=hF
  have en:b8 (((gS x pa le day).env [a,b,c,d,e,f,g]).map (·.d))=[a,b,c,d]:=rfl
  rw[en]
  show cE obj (q+91+1+1+1+1+1+1+1+1+1) _ acc=_
  simp only[List.mem_cons,List.not_mem_nil,or_false,forall_eq_or_imp,forall_eq]at hd
  obtain⟨d1,d2,d3,d4,d5,d6,d7⟩:=hd
  simp only[List.nodup_cons,List.mem_cons,List.not_mem_nil,or_false,not_or,not_false_eq_true,List.nodup_nil,and_true]at bR
  obtain⟨⟨a1,a2,a3,a4,a5,a6⟩,⟨b1,b2,b3,b4,b5⟩,⟨c1,c2,c3,c4⟩,⟨e1,e2,e3⟩,⟨f1,f2⟩,g1⟩:=bR
  simp[cE,fx,h1,h2,h3,h4,h5,h6,h7,gZ,b8,iU,ba,Mc,d1,d2,d3,d4,d5,d6,d7,Ne.symm a1,Ne.symm a2,Ne.symm a3,Ne.symm a4,Ne.symm a5,Ne.symm a6,Ne.symm b1,Ne.symm b2,Ne.symm b3,Ne.symm b4,Ne.symm b5,Ne.symm c1,Ne.symm c2,Ne.symm c3,Ne.symm c4,Ne.symm e1,Ne.symm e2,Ne.symm e3,Ne.symm f1,Ne.symm f2,Ne.symm g1]
 closE:=fun dom Ls h hd=>by
  obtain⟨a,b,c,d,e,f,g,rfl⟩:=pw h
  have h1:=hd a (by simp)
  have h2:=hd b (by simp)
  have h3:=hd c (by simp)
  have h4:=hd d (by simp)
  simp[gS,List.range,List.range.loop,dm,D.closL,D.clos,eAny,h1,h2,h3,h4,jD]
 closF:=fun dom Ls s h hd o ho=>by
  obtain⟨a,b,c,d,e,f,g,rfl⟩:=pw h
  have h1:=hd e (by simp)
  have h2:=hd f (by simp)
  have h3:=hd g (by simp)
  simp only[gS,List.mem_cons,List.not_mem_nil,or_false]at ho
  rcases ho with rfl | rfl | rfl | rfl | rfl | rfl | rfl<;>simp[O.clos,D.closL,D.clos,ba,zJ,h1,h2,h3]
 psz:=fun Ls h=>by rfl
 args:=fun s=>by rfl
 fuel:=(show (100:Nat)<=2000 by decide)
 vnam:=fun _=>rfl
 vcl:=fun _ _=>rfl
 vren:=fun _ _=>rfl
 inj:=Fa (hn.filter _)
theorem Y9(x:Vw)(pa le day:Int):Av (gS x pa le day) (jD 3 pa [le]) where
 ren:=fun f Ls h=>by obtain⟨a,b,c,d,e,f,g,rfl⟩:=pw h;rfl
 clo:=fun dom Ls h hd=>by
  obtain⟨a,b,c,d,e,f,g,rfl⟩:=pw h
  have h4:=hd d (by simp)
  simp[D.closL,D.clos,h4,jD]
 reach:=fun Ls s obj R q h bR hF h0=>by
  obtain⟨a,b,c,d,e,f,g,rfl⟩:=pw h
  obtain⟨h1,h2,h3,h4,h5,h6,h7,_⟩:=hF
  have en:b8 (((gS x pa le day).env [a,b,c,d,e,f,g]).map (·.d))=[a,b,c,d]:=rfl
  have ec:b8 (jD 3 pa [le] [a,b,c,d,e,f,g])=[d]:=rfl
  rw[ec]
  show cE obj (q+90+1+1+1+1+1+1+1+1+1+1+1) _ []=_
  simp only[List.nodup_cons,List.mem_cons,List.not_mem_nil,or_false,not_or,not_false_eq_true,List.nodup_nil,and_true]at bR
  obtain⟨⟨r1,r2,r3,r4,r5,r6,r7⟩,⟨a1,a2,a3,a4,a5,a6⟩,⟨b1,b2,b3,b4,b5⟩,⟨c1,c2,c3,c4⟩,⟨e1,e2,e3⟩,⟨f1,f2⟩,g1⟩:=bR
  simp[cE,fx,h0,h1,h2,h3,h4,h5,h6,h7,Lp.rc,gZ,en,b8,iU,ba,Mc,Ne.symm r1,Ne.symm r2,Ne.symm r3,Ne.symm r4,Ne.symm r5,Ne.symm r6,Ne.symm r7,Ne.symm a1,Ne.symm a2,Ne.symm a3,Ne.symm a4,Ne.symm a5,Ne.symm a6,Ne.symm b1,Ne.symm b2,Ne.symm b3,Ne.symm b4,Ne.symm b5,Ne.symm c1,Ne.symm c2,Ne.symm c3,Ne.symm c4,Ne.symm e1,Ne.symm e2,Ne.symm e3,Ne.symm f1,Ne.symm f2,Ne.symm g1]
theorem Y7(day:Int)(o:Option Rec)(r:Rec):wG day o r=if decide (r.da<=day)&&(!o.isSome||decide (r.da>=(o.getD zeroR).da))then some r else o:=by
 unfold wG
 cases o<;>rfl
theorem Y8(x:Vw)(pa le day:Int)(hn:x.rs.Nodup):aF Tryz.prog yid (gS x pa le day).y.toSpec:=by
 refine Lp.y_sound (Ev x pa le day hn) fun s hs _=>?_
 have hΓ:=@dI Tryz.prog
 have fg:s<(eB x.rs pa [le]).length:=hs
 have rv:(gS x pa le day).fam (LR 7) s=[.box (fG none),.box (fG (lM x.rs pa le day s)),.box [.v (.bool (lM x.rs pa le day s).isSome)],.box [.ref [4,1] 0],ba x [5,1] [6,1],.map 2 (bD x.bk),.map 0 (bw x.ds)]:=rfl
 have ru:(gS x pa le day).fam (LR 7) (s+1)=[.box (fG none),.box (fG (lM x.rs pa le day (s+1))),.box [.v (.bool (lM x.rs pa le day (s+1)).isSome)],.box [.ref [4,1] 0],ba x [5,1] [6,1],.map 2 (bD x.bk),.map 0 (bw x.ds)]:=rfl
 have cq:(gS x pa le day).st s=none:=rfl
 have hv:(gS x pa le day).vals s=[ga ((eB x.rs pa [le])[s])]:=by rw[<-dM (z:=zeroR) fg];rfl
 have hm:(gS x pa le day).m=7:=rfl
 rw[hm,rv,ru,cq,hv,Y5 fg,Y7]
 generalize (eB x.rs pa [le])[s]=r
 generalize lM x.rs pa le day s=o
 obtain⟨c3,e0,e1⟩:∃ c3,(c3=.nilsl\/∃ l,c3=.v (.sl l))/\fG o=[.v (vInt (o.getD zeroR).so),.v (vInt (o.getD zeroR).bo),.v (vInt (o.getD zeroR).pa),c3,.v (vInt (o.getD zeroR).da),.v (vInt (o.getD zeroR).kn),.v (vInt (o.getD zeroR).un)]:=by
  cases o with
  |none=>exact⟨_,.inl rfl,rfl⟩
  |some q=>exact⟨_,.inr ⟨_,rfl⟩,rfl⟩
 have e2:∀ p,D.clos p c3=true:=fun p=>by rcases e0 with rfl | ⟨l,rfl⟩<;>rfl
 generalize du:[O.box (fG none),.box (fG o),.box [.v (.bool o.isSome)],.box [.ref [4,1] 0],ba x [5,1] [6,1],.map 2 (bD x.bk),.map 0 (bw x.ds)]=os
 have hO:∀ hs,bx [0] (bp [0] hs) (aM os)=True:=by
  subst du
  refine fun hs=>eq_true (jL ?_ hs)
  intro o ho dom hd
  simp only[List.mem_cons,List.not_mem_nil,or_false]at ho
  rcases ho with rfl | rfl | rfl | rfl | rfl | rfl | rfl<;>simp[O.clos,D.closL,D.clos,ba,hd,zJ]
 have ae:∀ hs cs b,(∀ p,D.closL p cs=true)->bx [0] (bp [0] hs) (fun nm=>if nm=[2,1]then some (.box [.v (.bool b)])else if nm=[1,1]then some (.box cs)else aM os nm)=True:=fun hs cs b i7=>
  eq_true (mT (nm:=[2,1]) (o:=.box [.v (.bool b)]) rfl (mT (nm:=[1,1]) (o:=.box cs) (by simp[O.clos,i7]) (by rw[hO];trivial)))
 have h0:aM os [0,1]=some (.box (fG none)):=by subst du;rfl
 have h1:aM os [1,1]=some (.box (fG o)):=by subst du;rfl
 have h2:aM os [2,1]=some (.box [.v (.bool o.isSome)]):=by subst du;rfl
 have h3:aM os [3,1]=some (.box [.ref [4,1] 0]):=by subst du;rfl
 have h4:aM os [4,1]=some (ba x [5,1] [6,1]):=by subst du;rfl
 have h5:aM os [5,1]=some (.map 2 (bD x.bk)):=by subst du;rfl
 have h6:aM os [6,1]=some (.map 0 (bw x.ds)):=by subst du;rfl
 generalize hH:aM os=H at *
 clear du hH
 rw[e1]at h1
 have iZ:iN Tryz.f119=(_,_,_):=rfl
 refine qa (uv 37 [0] H [(5,⟨true,.v (.ptr [vInt day])⟩),(8,⟨true,.ref [1,1] 0⟩),(9,⟨true,.ref [2,1] 0⟩),(18,⟨true,ga r⟩)] [] rfl rfl (fun _ _=>rfl) ?_ (by simp) ?_ ?_) ?_
 ·intro q hq
  simp only[List.mem_cons,List.not_mem_nil,or_false]at hq
  rcases hq with rfl | rfl | rfl | rfl<;>rfl
 ·simp[D.clos,D.closL,bp,own,ga]
 ·rw[hO];trivial
 simp only[gS,iZ]
 refine fE ?_
 repeat refine sq ?_
 refine aS hΓ fun K' hK=>?_
 simp only[go_sem,hO,h0,h1,h2,h3,h4,e2]
 repeat (refine⟨ak,?_⟩)
 refine hK _ ?_
 clear K' hK
 simp only[go_sem]
 (show CW _ _ _ _)
 refine fE ?_
 repeat refine sq ?_
 refine aI ?_
 repeat refine sq ?_
 refine rx hΓ [5,8,9,10,33] [[5,0],[8,0],[9,0],[10,0]] (fun K' hK=>by simp only[go_sem,hO,h0,h1,h2,h3,h4,e2];(repeat (refine⟨ak,?_⟩));exact hK _ (by simp only[go_sem,hO,h0,h1,h2,h3,h4,e2]) (by simp only[go_sem,hO,h0,h1,h2,h3,h4,e2]<;>rfl)) ?_
 repeat refine sq ?_
 refine ax (fun hb=>?_) fun hb=>?_
 ·repeat refine sq ?_
  refine aS hΓ fun K' hK=>?_
  simp only[go_sem,hO,h0,h1,h2,h3,h4,e2]
  repeat (refine⟨ak,?_⟩)
  refine hK _ ?_
  clear K' hK
  simp only[go_sem]
  refine bA ?_
  rw[if_pos (by rw[<-Bool.and_eq_true];exact hb)]
  refine⟨rfl,?_⟩
  show bW _ [[0,1],[1,1],[2,1],[3,1],[4,1],[5,1],[6,1]] _
  simp only[bW,go_sem,h0,h1,h2,h3,h4,h5,h6]
  simp[fG,r9]
 ·repeat refine sq ?_
  refine aC ?_
  refine bA ?_
  simp only[go_sem]
  rw[if_neg (by rw[<-Bool.and_eq_true,hb];decide)]
  refine⟨rfl,?_⟩
  show bW _ [[0,1],[1,1],[2,1],[3,1],[4,1],[5,1],[6,1]] _
  simp only[bW,go_sem,h0,h1,h2,h3,h4,h5,h6,e1]
  first | done | exact⟨trivial,trivial⟩
def GW(p:Name)(H:Name->Option O):List Name->List O->Prop
 |x::xs,o::os=>(own p x=true\/H x=some o)/\GW p H xs os
 |_,_=>True
theorem FP{p:Name}{H:Name->Option O}{nm:Name}(hn:own p nm=false):∀ {Ls:List Name} {F:List O} {obj:Name->Option O},GW p H Ls F->obj nm=H nm->bV Ls F obj nm=H nm
 |[],_,_,_,h=>by simpa[bV]using h
 |x::xs,[],_,_,h=>by simpa[bV]using h
 |x::xs,o::os,obj,hk,h=>by
  simp only[bV]
  refine FP hn hk.2 ?_
  by_cases e:nm=x
  ·subst e
   rw[aO]
   rcases hk.1 with h1 | h1
   ·rw[hn]at h1;cases h1
   ·exact h1.symm
  ·rw[aW _ _ _ e];exact h
def K24:List (Nat×Spec):=[(164,S164)]
theorem aa2:KS K24:=tc Cb<|tn
attribute [go_sem] K24
def MZ:VSpec:=v2 iX iI (fun x _ _=>la x/\x.rs.Nodup) (fun x f day=>.tup [l9 (iA x.rs f.pa f.le day),.v (.bool (iA x.rs f.pa f.le day).isSome)]) none
def S119:Spec:=MZ.toSpec
attribute [go_sem] MZ S119
set_option maxHeartbeats 8000000 in
theorem Jx:aF Tryz.prog 119 S119:=by
 refine w6 (rs:=[.cell 6 36,.tmp 7]) Tryz.func119 Tryz.ntmps119 (by rfl) (by kernel_rfl) (by decide) (fun _ _ _=>by first | rfl | exact ln _ _ | simp[D.clos,D.closL,ln]) ⟨_,rfl,lb rfl,fun x f day hp H h0 h1 h2 hO ae=>?_⟩
 have hP:=eE
 simp only[iX,iI,eH,ba,cZ,List.map_cons,List.map_nil,Nat.zero_add,Option.map_some,Option.map_none]at h0 |-
 have hΓ:=aa2
 obtain⟨hv,bR⟩:=hp
 obtain⟨pa,le⟩:=f
 repeat refine sq ?_
 refine rx hΓ [0,4,5,6] [[4,0],[5,0],[6,0]] (fun K' hK=>by simp only[go_sem,hO,ae,h0,h1,h2];(repeat (refine⟨ak,?_⟩));exact hK _ (by simp only[go_sem,hO,ae,h0,h1,h2]) (by simp only[go_sem,hO,ae,h0,h1,h2]<;>rfl)) ?_
 refine bG (c0 4 (.ref [4,0] 0) (by simp only[go_sem]) (by simp only[go_sem]) [0,4,5,6] [[4,0],[5,0],[6,0]] ?_ rfl) ?_
 ·simp only[go_sem,hO,ae,h0,h1,h2]
 simp only[go_sem,hO,ae,h0,h1,h2]
 repeat refine sq ?_
 refine rx hΓ [0,4,5,6,8] [[4,0],[5,0],[6,0],[8,0]] (fun K' hK=>by simp only[go_sem,hO,ae,h0,h1,h2];(repeat (refine⟨ak,?_⟩));exact hK _ (by simp only[go_sem,hO,ae,h0,h1,h2]) (by simp only[go_sem,hO,ae,h0,h1,h2]<;>rfl)) ?_
 repeat refine sq ?_
 refine rx hΓ [0,4,5,6,8,9] [[4,0],[5,0],[6,0],[8,0],[9,0]] (fun K' hK=>by simp only[go_sem,hO,ae,h0,h1,h2];(repeat (refine⟨ak,?_⟩));exact hK _ (by simp only[go_sem,hO,ae,h0,h1,h2]) (by simp only[go_sem,hO,ae,h0,h1,h2]<;>rfl)) ?_
 repeat refine sq ?_
 refine rx hΓ [5,6,8,9,17] [[5,0],[6,0],[8,0],[9,0],[3,0,17,0]] (fun K' hK=>by simp only[go_sem,hO,ae,h0,h1,h2];(repeat (refine⟨ak,?_⟩));exact hK _ (by simp only[go_sem,hO,ae,h0,h1,h2]) (by simp only[go_sem,hO,ae,h0,h1,h2]<;>rfl)) ?_
 refine bG (c0 5 (.ref [5,0] 0) (by simp only[go_sem]) (by simp only[go_sem]) [5,6,8,9,17] [[5,0],[6,0],[8,0],[9,0],[3,0,17,0]] ?_ rfl) ?_
 ·simp only[go_sem,hO,ae,h0,h1,h2]
 simp only[go_sem,hO,ae,h0,h1,h2]
 repeat refine sq ?_
 refine aI ?_
 repeat refine sq ?_
 have ev:aF Tryz.prog 193 ((gS x pa le day).itC (jD 3 pa [le])).toSpec:=F1 (Ev x pa le day bR) (fun _=>rfl) (Y8 x pa le day bR) hv.rs hv.rn rfl (fun _=>rfl) (j:=3) (jc:=4) (show 3<7 by decide) rfl rfl
 refine Ma (Ev x pa le day bR) (Y9 x pa le day) (f:=193) 30 31 (Ls:=[[6,0],[8,0],[9,0],[3,0,17,0],[0,1],[1,1],[2,1]]) rfl rfl (by decide) ev rfl rfl rfl rfl rfl rfl (by decide) (show ([30,0]:Name)∉[[6,0],[8,0],[9,0],[3,0,17,0],[0,1],[1,1],[2,1]]by decide) ⟨rfl,rfl,rfl,rfl,h0,h1,h2,trivial⟩ fun o=>?_
 obtain⟨g1,g2⟩:=Lp.go_e (r:=gS x pa le day) (fun _=>rfl)
 have g3:(gS x pa le day).fam [[6,0],[8,0],[9,0],[3,0,17,0],[0,1],[1,1],[2,1]] (gS x pa le day).e=[.box (fG none),.box (fG (iA x.rs pa le day)),.box [.v (.bool (iA x.rs pa le day).isSome)],.box [.ref [0,1] 0],ba x [1,1] [2,1],.map 2 (bD x.bk),.map 0 (bw x.ds)]:=by
  rw[g1,<-Y6];rfl
 rw[g2,g3]
 simp only[m8,fN]
 refine bA ?_
 show CL Tryz.prog (_::_) _ _
 obtain⟨cs,i7,cF⟩:∃ cs,cs=fG (iA x.rs pa le day)/\∀ p,D.closL p cs=true:=⟨_,rfl,fun p=>zJ p _⟩
 refine bG (dG.toM (uv 37 [0] H [(6,⟨true,.ref [6,0] 0⟩),(8,⟨true,.ref [8,0] 0⟩),(9,⟨true,.ref [9,0] 0⟩)] [([6,0],.box (fG none)),([8,0],.box (fG (iA x.rs pa le day))),([9,0],.box [.v (.bool (iA x.rs pa le day).isSome)])] rfl rfl (fun nm hn=>?_) ?_ ?_ ?_ (by rw[hO];trivial))) ?_
 ·have e1:nm≠[30,0]:=by rintro rfl;cases hn
  show upd _ [30,0] _ nm=_
  rw[aW _ _ _ e1]
  exact FP hn ⟨.inl rfl,.inl rfl,.inl rfl,.inl rfl,.inr h0,.inr h1,.inr h2,trivial⟩ (by simp[be,hn])
 ·intro q hq
  simp only[List.mem_cons,List.not_mem_nil,or_false]at hq
  rcases hq with rfl | rfl | rfl<;>rfl
 ·intro q hq
  simp only[List.mem_cons,List.not_mem_nil,or_false]at hq
  rcases hq with rfl | rfl | rfl<;>rfl
 ·simp[O.clos,D.closL,D.clos,zJ,bp]
 clear i7 cF
 generalize iA x.rs pa le day=o
 rcases o with _ | r
 ·simp only[fG,r9,Option.isSome]
  repeat refine sq ?_
  refine dx hΓ hP [[],[],[0],[0,1,2]] [6,7] [[6,0]] (by kernel_rfl) (fun K' hK=>by simp only[go_sem,hO,h0,h1,h2];(repeat (refine⟨ak,?_⟩));(first | refine⟨by rfl,?_⟩ | skip);exact hK _ (by simp only[go_sem,hO,h0,h1,h2]) (by simp only[go_sem,hO,h0,h1,h2]<;>rfl)) ?_
  refine av ?_
  simp only[go_sem,hO,h0,h1,h2]
  rfl
 ·simp only[fG,r9,Option.isSome]
  repeat refine sq ?_
  refine dx hΓ hP [[],[],[0],[0,1,2]] [6,7] [[6,0]] (by kernel_rfl) (fun K' hK=>by simp only[go_sem,hO,h0,h1,h2];(repeat (refine⟨ak,?_⟩));(first | refine⟨by rfl,?_⟩ | skip);exact hK _ (by simp only[go_sem,hO,h0,h1,h2]) (by simp only[go_sem,hO,h0,h1,h2]<;>rfl)) ?_
  refine av ?_
  simp only[go_sem,hO,h0,h1,h2]
  rfl
end
end Go.Eng
