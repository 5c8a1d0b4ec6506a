import Derived.Test.YtepaolcgegdpoaaGreatK5
/- Texts LW12 to LW24. -/
set_option linter.all false
namespace Go.Eng
open Go Go.Proofs
noncomputable section
theorem Ov{α β:Type}{f:α->β}{l:List α}{i:Nat}(h:i<l.length):(l.take (i+1)).map f=(l.take i).map f++[f l[i]]:=by
 rw[List.take_add_one,List.getElem?_eq_getElem h]
 simp only[List.map_append,Option.toList_some,List.map_cons,List.map_nil]
def pW:En (Nat×Int):=⟨fun g=>.clo (.func g.1) [] [.ptr [vInt g.2]],fun v=>match v with | .clo (.func g) _ [.ptr [.int _ s]]=>(g,s) | _=>default⟩
def oy:En Int:=⟨fun s=>.ptr [vInt s],fun v=>match v with | .ptr [.int _ s]=>s | _=>0⟩
attribute [go_sem] pW oy
@[go_sem] def P171:PSpec:=p2 iR oy (fun _ _=>True) (fun x s=>.bool (x.so==s)) true
@[go_sem] def S171:Spec:=P171.toSpec
theorem P3:aN Tryz.prog 171 P171:=by
 refine cX (rs:=[.tmp 3]) Tryz.func171 Tryz.ntmps171 fun x s hp hw=>?_
 simp only[oy,iR,encR]at hw |-
 have hΓ:=@fg Tryz.prog
 repeat refine sq ?_
 refine rx hΓ [1,2] [[2,0]] (fun K' hK=>by simp only[go_sem];exact ak) ?_
 repeat refine sq ?_
 refine rx hΓ [3] [] (fun K' hK=>by simp only[go_sem];exact ak) ?_
 refine au ?_
 simp only[go_sem]
 all_goals exact c9
@[go_sem] def P167:PSpec:=p2 iR oy (fun _ _=>True) (fun x s=>.bool (x.so==s)) true
@[go_sem] def Ns:Spec:=P167.toSpec
theorem P6:aN Tryz.prog 167 P167:=by
 refine cX (rs:=[.tmp 3]) Tryz.func167 Tryz.ntmps167 fun x s hp hw=>?_
 simp only[oy,iR,encR]at hw |-
 have hΓ:=@fg Tryz.prog
 repeat refine sq ?_
 refine rx hΓ [1,2] [[2,0]] (fun K' hK=>by simp only[go_sem];exact ak) ?_
 repeat refine sq ?_
 refine rx hΓ [3] [] (fun K' hK=>by simp only[go_sem];exact ak) ?_
 refine au ?_
 simp only[go_sem]
 all_goals exact c9
@[go_sem] def P92:PSpec:=p2 iS oy (fun _ _=>True) (fun x s=>.bool (x.so==s)) true
@[go_sem] def Zd:Spec:=P92.toSpec
theorem Pt:aN Tryz.prog 92 P92:=by
 refine cX (rs:=[.tmp 3]) Tryz.func92 Tryz.ntmps92 fun x s hp hw=>?_
 simp only[oy,iS,encS]at hw |-
 have hΓ:=@fg Tryz.prog
 repeat refine sq ?_
 refine rx hΓ [1,2] [[2,0]] (fun K' hK=>by simp only[go_sem];exact ak) ?_
 repeat refine sq ?_
 refine rx hΓ [3] [] (fun K' hK=>by simp only[go_sem];exact ak) ?_
 refine au ?_
 simp only[go_sem]
 all_goals exact c9
def dE{α:Type}(p:α->Bool)(l:List α):Int:=if l.any p then(l.findIdx p:Int)else -1
theorem rm{α:Type}{p:α->Bool}{l:List α}{i:Nat}(h:i<l.length)(hp:p l[i]=true)(hn:∀ k (hk:k<l.length),k<i->p l[k]=false):dE p l=i:=by
 unfold dE
 rw[if_pos (List.any_eq_true.2 ⟨_,List.getElem_mem h,hp⟩)]
 congr 1
 rw[List.findIdx_eq h]
 exact⟨hp,fun j hj=>hn j (by omega) hj⟩
theorem vC{α:Type}{p:α->Bool}{l:List α}(hn:∀ k (hk:k<l.length),p l[k]=false):dE p l= -1:=by
 unfold dE
 rw[if_neg]
 intro h
 obtain⟨x,hx,hp⟩:=List.any_eq_true.1 h
 obtain⟨k,hk,rfl⟩:=List.getElem_of_mem hx
 rw[hn k hk]at hp;cases hp
theorem vD{α:Type}(p:α->Bool)(l:List α):decide (dE p l>=0)=l.any p:=by
 unfold dE
 cases l.any p with
 |true=>simp
 |false=>simp
def K12a:List (Nat×Spec):=[(171,S171),(167,Ns)]
theorem aa8:KS K12a:=tc P3.sound<|tc P6.sound<|tn
attribute [go_sem] K12a
def NP:FuncId->Option Spec:=tbl K12a
theorem aa6:∀ f s,NP f=some s->aR Tryz.prog f s:=aa8
@[go_sem] theorem aeo:Ns=S171:=rfl
@[go_sem] def P166:PSpec:=p2 (eW iR) pW (fun _ g=>g.1=171\/g.1=167) (fun l g=>vInt (dE (fun x=>Rec.so x==g.2) l)) true
@[go_sem] def Nt:Spec:=P166.toSpec
set_option maxHeartbeats 4000000 in
theorem P7:aN Tryz.prog 166 P166:=by
 refine cX (rs:=[.tmp 4]) Tryz.func166 Tryz.ntmps166 fun l g hp hw=>?_
 simp only[pW,iR,eW,encR]at hw |-
 have hΓ:=aa6
 have hl:l.length<=maxLen:=by have:=hw.1.1;simpa using this
 obtain⟨g,s_⟩:=g
 try simp only[pW]at hw hp |-
 have hg:NP g=some S171:=by rcases hp with rfl | rfl<;>rfl
 have CD:¬ g=1000000000:=by omega
 repeat refine sq ?_
 refine rx hΓ [0,1] [] (fun K' hK=>by simp only[go_sem];exact ak) ?_
 repeat refine sq ?_
 refine rx hΓ [0,1,7,8] [] (fun K' hK=>by simp only[go_sem];exact ak) ?_
 repeat refine sq ?_
 refine aH ?_
 repeat refine sq ?_
 refine bB (fun s:Nat=>[(8,⟨true,.v (vInt s)⟩)]) (fun s=>[]) (fun s=>s<=l.length/\∀ k (h:k<l.length),k<s->(fun x:Rec=>Rec.so x==s_) l[k]=false) (fun s=>l.length-s) 0 ?_ ?_ ?_ ?_
 ·exact⟨Nat.zero_le _,by simp⟩
 ·rfl
 ·rfl
 rintro i ⟨hi,hR⟩
 simp only[go_sem]
 repeat refine sq ?_
 refine rx hΓ [0,1,7,8,9] [] (fun K' hK=>by simp only[go_sem];exact ak) ?_
 repeat refine sq ?_
 refine av (fun hb=>?_) fun hb=>?_
 ·have ab:i<l.length:=by simpa using hb
  have an:(i:Int)<l.length:=by omega
  clear hb
  repeat refine sq ?_
  refine ax ?_
  repeat refine sq ?_
  refine aH ?_
  repeat refine sq ?_
  refine rx hΓ [0,1,5,7,8] [] (fun K' hK=>by simp only[go_sem,ae ab,ah,ai,an];exact ak) ?_
  repeat refine sq ?_
  refine rx hΓ [0,1,5,7,8,16] [] (fun K' hK=>by simp only[go_sem,ae ab,ah,ai,an,hg,CD];exact ak) ?_
  repeat refine sq ?_
  refine av (fun hb=>?_) fun hb=>?_
  ·repeat refine sq ?_
   refine rx hΓ [4] [] (fun K' hK=>by simp only[go_sem,ae ab,ah,ai,an];exact ak) ?_
   refine au ?_
   simp only[go_sem]
   rw[rm (p:=fun x=>Rec.so x==s_) ab (by simpa using hb) hR]
  ·repeat refine sq ?_
   refine ax ?_
   refine bE ?_
   simp only[go_sem]
   refine kp [0,1,7,8] [] ?_
   repeat refine sq ?_
   refine aM hΓ fun K' hK=>?_
   simp only[go_sem,ae ab,ah,ai,an]
   repeat (refine⟨ao,?_⟩)
   refine hK _ ?_
   clear K' hK
   simp only[go_sem]
   refine⟨i+1,⟨ab,?_⟩,by(show l.length-(i+1)<l.length-i;omega),?_⟩
   ·intro k hk eA
    rcases Nat.lt_succ_iff_lt_or_eq.1 eA with h5 | rfl
    ·exact hR k hk h5
    ·simpa using hb
   refine aY [0,1,7,8] [] ?_ ?_<;>simp only[go_sem,aT ab hl,aU]
 ·have be:i=l.length:=by
   have :¬ (i:Int)<l.length:=by simpa using hb
   omega
  clear hb
  subst be
  repeat refine sq ?_
  refine bp ?_
  simp only[go_sem]
  refine kp [] [] ?_
  repeat refine sq ?_
  refine rx hΓ [4] [] (fun K' hK=>by simp only[go_sem];exact ak) ?_
  refine au ?_
  simp only[go_sem]
  rw[vC (p:=fun x=>Rec.so x==s_) fun k hk=>hR k hk hk]
@[go_sem] def ZU:PSpec:=p2 (eW iS) pW (fun _ g=>g.1=175) (fun l g=>vInt (dE (fun x=>Sig.so x==g.2) l)) true
@[go_sem] def ZC:Spec:=ZU.toSpec
def aa7:List (Nat×Spec):=[(166,Nt),(181,ZC)]
attribute [go_sem] aa7
def K12:List (Nat×Spec):=[]
attribute [go_sem] K12
end
noncomputable section
attribute [go_sem] Ug
def K13:List (Nat×Spec):=[(37,Et),(67,Nn),(79,wN)]
attribute [go_sem] K13
theorem Yb(l:Led):(lL l != 0)=!n9 l:=oV _ _ (by decide)
end
noncomputable section
def K14:List (Nat×Spec):=[(69,Es),(68,Nm),(100,EE),(125,ED),(15,uH)]
attribute [go_sem] K14
end
structure Vw where
 l:Led
 rs:List Rec
 ts:List Int
 bk:List ((Int×Int)×Int)
 ds:List (Int×(Int×Int))
 deriving Inhabited
def bS(b:List ((Int×Int)×Int)):List (V×V):=b.map fun q=>(.agg [vInt q.1.1,vInt q.1.2],vInt q.2)
def L0:V->Int×Int
 | .agg [.int _ a,.int _ b]=>(a,b)
 |_=>(0,0)
def y0(es:List (V×V)):List ((Int×Int)×Int):=es.map fun q=>(L0 q.1,jJ q.2)
def bI(d:List (Int×(Int×Int))):List (V×V):=d.map fun q=>(vInt q.1,.agg [vInt q.2.1,vInt q.2.2])
def DD(es:List (V×V)):List (Int×(Int×Int)):=es.map fun q=>(jJ q.1,L0 q.2)
@[go_sem] theorem DE(b:List ((Int×Int)×Int)):y0 (bS b)=b:=by
  unfold y0 bS
  rw[List.map_map]
  exact List.map_id _
@[go_sem] theorem DC(b:List (Int×(Int×Int))):DD (bI b)=b:=by
  unfold DD bI
  rw[List.map_map]
  exact List.map_id _
def bu(x:Vw)(nb nd:Name):O:=.box [.v (jH x.l),.v (.sl (x.rs.map encR)),.v (.sl (x.ts.map vInt)),.map nb,.map nd]
def uh(lp:V)(rs ts:List V)(eb ed:List (V×V)):Vw:=⟨yY lp,rs.map kV,ts.map jJ,y0 eb,DD ed⟩
theorem Xh(x:Vw):uh (jH x.l) (x.rs.map encR) (x.ts.map vInt) (bS x.bk) (bI x.ds)=x:=by
 obtain⟨⟨p,r,t,s⟩,rs,ts,bk,ds⟩:=x
 simp only[uh,jH,yY,LZ,yX,LX,sg,oY,DE,DC]
def iA(obj:Name->Option O)(nv:Name):Option (Name×Name×Vw):=match obj nv with
 |some (.box [.v lp,.v (.sl rs),.v (.sl ts),.map nb,.map nd])=>match obj nb,obj nd with
  |some (.map 2 eb),some (.map 0 ed)=>some (nb,nd,uh lp rs ts eb ed)
  |_,_=>none
 |_=>none
def ni(obj:Name->Option O)(nv nb nd:Name)(x:Vw):Prop:=
 obj nv=some (bu x nb nd)/\obj nb=some (.map 2 (bS x.bk))/\obj nd=some (.map 0 (bI x.ds))/\(nv==nb)=false/\(nv==nd)=false/\(nb==nd)=false
structure VSpec where
 pre:Vw->List V->Prop
 val:Vw->List V->D
 wr:Option (Vw->List V->List (Int×(Int×Int)))
def VSpec.app(s:VSpec)(obj:Name->Option O)(t:Name)(ds:List D):R:=match ds with
 | .ref nv 0::r=>match iA obj nv,la r with
   |some (nb,nd,x),some xs=>⟨ni obj nv nb nd x/\s.pre x xs,(s.val x xs).ren (cout [nv,nb,nd] t),match s.wr with | none=>obj | some f=>upd obj nd (some (.map 0 (bI (f x xs))))⟩
   |_,_=>.bad obj
 |_=>.bad obj
def VSpec.foot(_:VSpec)(obj:Name->Option O)(_:Name)(ds:List D):List Name:=match ds with
 | .ref nv _::_=>nv::(match obj nv with | some (.box [_,_,_,.map nb,.map nd])=>[nb,nd] | _=>[])
 |_=>[]
def VSpec.toSpec(s:VSpec):Spec:=⟨s.app,s.foot,s.foot⟩
theorem VSpec.near(s:VSpec):s.toSpec.Near:=by
 refine vp fun obj obj2 t ds ha=>?_
 match ds with
 | .ref nv off::r=>
   have h1:obj2 nv=obj nv:=ha nv (by simp[VSpec.foot])
   refine⟨by simp only[VSpec.foot,h1],?_⟩
   cases off with
   |succ k=>exact .none _ ha
   |zero=>
    have gm:bT (R.bad obj) (R.bad obj2) obj obj2 (s.foot obj t (.ref nv 0::r)):=.none _ ha
    by_cases hg:∃ a b c nb nd,obj nv=some (.box [a,b,c,.map nb,.map nd])
    ·obtain⟨a,b,c,nb,nd,hb⟩:=hg
     have eE:obj2 nb=obj nb:=ha nb (by simp[VSpec.foot,hb])
     have kQ:obj2 nd=obj nd:=ha nd (by simp[VSpec.foot,hb])
     have Vl:iA obj2 nv=iA obj nv:=by
      unfold iA
      rw[h1,hb]
      split<;>first | rfl | (rename_i e;cases e;rw[eE,kQ])
     have cq:∀ tv tu x,iA obj nv=some (tv,tu,x)->tv=nb/\tu=nd:=by
      intro tv tu x h
      unfold iA at h
      rw[hb]at h
      split at h
      ·rename_i e
       cases e
       split at h
       ·cases h;exact⟨rfl,rfl⟩
       ·cases h
      ·cases h
     show bT (s.app obj t (.ref nv 0::r)) (s.app obj2 t (.ref nv 0::r)) obj obj2 _
     unfold VSpec.app
     simp only[Vl]
     split
     ·rename_i tv tu x xs hx xW
      obtain⟨rfl,rfl⟩:=cq _ _ _ hx
      have aa:ni obj2 nv tv tu x=ni obj nv tv tu x:=by unfold ni;rw[h1,eE,kQ]
      rw[aa]
      cases s.wr with
      |none=>exact .none _ ha
      |some f=>exact .one (by simp[VSpec.foot,hb]) ha
     ·exact gm
    ·have e1:iA obj nv=none:=by
       unfold iA
       split
       ·rename_i h;exact(hg ⟨_,_,_,_,_,h⟩).elim
       ·rfl
     have e2:iA obj2 nv=none:=by
      unfold iA
      rw[h1]
      split
      ·rename_i h;exact(hg ⟨_,_,_,_,_,h⟩).elim
      ·rfl
     show bT (s.app obj t (.ref nv 0::r)) (s.app obj2 t (.ref nv 0::r)) obj obj2 _
     unfold VSpec.app
     simp only[e1,e2]
     exact gm
 |[]=>exact⟨rfl,.none _ ha⟩
 | .v _::_=>exact⟨rfl,.none _ ha⟩
 | .nilsl::_=>exact⟨rfl,.none _ ha⟩
 | .nilmap::_=>exact⟨rfl,.none _ ha⟩
 | .msl _ _::_=>exact⟨rfl,.none _ ha⟩
 | .aref _ _ _ _::_=>exact⟨rfl,.none _ ha⟩
 | .map _::_=>exact⟨rfl,.none _ ha⟩
 | .yld _::_=>exact⟨rfl,.none _ ha⟩
 | .clo _ _ _::_=>exact⟨rfl,.none _ ha⟩
 | .agg _::_=>exact⟨rfl,.none _ ha⟩
 | .tup _::_=>exact⟨rfl,.none _ ha⟩
 | .any::_=>exact⟨rfl,.none _ ha⟩
def VSpec.c(s:VSpec):CSpec where
 pre:=fun os ds=>∃ (x:Vw) (xs:List V),os=[bu x [1,1] [2,1],.map 2 (bS x.bk),.map 0 (bI x.ds)]/\ds=.ref [0,1] 0::xs.map .v/\s.pre x xs
 out:=fun os ds=>match os,ds with
  |[.box [.v lp,.v (.sl rs),.v (.sl ts),_,_],.map _ eb,.map _ ed],_::r=>match la r with
   |some xs=>⟨match s.wr with | none=>[] | some f=>[(2,.map 0 (bI (f (uh lp rs ts eb ed) xs)))],[],s.val (uh lp rs ts eb ed) xs⟩
   |none=>⟨[],[],.any⟩
  |_,_=>⟨[],[],.any⟩
theorem VSpec.c_out(s:VSpec)(x:Vw)(xs:List V):s.c.out [bu x [1,1] [2,1],.map 2 (bS x.bk),.map 0 (bI x.ds)] (.ref [0,1] 0::xs.map .v)=
 ⟨match s.wr with | none=>[] | some f=>[(2,.map 0 (bI (f x xs)))],[],s.val x xs⟩:=by
 simp only[VSpec.c,bu,zF,Xh]
theorem Gy{obj:Name->Option O}{nv nb nd:Name}{x:Vw}(h:ni obj nv nb nd x)(xs:List V):reach obj (.ref nv 0::xs.map .v)=[nv,nb,nd]:=by
 obtain⟨h1,h2,h3,h4,h5,h6⟩:=h
 unfold reach
 have e:c7 (.ref nv 0::xs.map .v)=[nv]:=by simp only[c7,ly,Bg,List.append_nil]
 rw[e]
 show dJ obj (2996+1+1+1+1) [nv] []=[nv,nb,nd]
 simp only[dJ,cW,List.any_nil,Bool.false_eq_true,if_false,h1,bu,mi,c7,ly,List.nil_append,List.append_nil,List.any_cons,h4,h5,h6,Bool.or_false,h2,h3,List.cons_append]
theorem VSpec.sound{P:Program}{f:FuncId}{s:VSpec}(h:aR P f s.c.toSpec)(aE:f≠yid):aR P f s.toSpec:=by
 refine uY h s.near aE fun obj t ds aa=>?_
 have eY:(s.app obj t ds).ok:=aa
 show ∃ lI,_/\_/\_/\_=(s.app obj t ds).d/\_=(s.app obj t ds).obj
 unfold VSpec.app at eY |-
 split at eY
 ·rename_i nv r
  split at eY
  ·rename_i nb nd x xs CE xW
   obtain⟨hv,hp⟩:=eY
   have hlen:=Ee xW
   have ru:=hv
   obtain⟨h1,h2,h3,h4,h5,h6⟩:=ru
   have n4:nv≠nb:=by simpa using h4
   have n5:nv≠nd:=by simpa using h5
   have n6:nb≠nd:=by simpa using h6
   have hr:=Gy hv xs
   have i0:idx [nv,nb,nd] nv=0:=by simp[idx]
   have i1:idx [nv,nb,nd] nb=1:=by simp[idx,n4]
   have i2:idx [nv,nb,nd] nd=2:=by simp[idx,n5,n6]
   have e1:cJ obj (.ref nv 0::xs.map .v)=[bu x [1,1] [2,1],.map 2 (bS x.bk),.map 0 (bI x.ds)]:=by
    unfold cJ
    rw[hr]
    simp only[List.map_cons,List.map_nil,cQ,h1,h2,h3,bu,O.ren,D.renL,D.ren,cin,i1,i2]
   have e2:db obj (.ref nv 0::xs.map .v)=.ref [0,1] 0::xs.map .v:=by
    unfold db
    rw[hr]
    simp only[D.renL,D.ren,cin,i0,AM]
   have e5:(shut obj [nv,nb,nd]&&D.closL (cW [nv,nb,nd]) (.ref nv 0::xs.map .v)&&fresh obj t [])=true:=by
    simp[shut,h1,h2,h3,bu,O.clos,D.closL,D.clos,cW,fresh,DT]
   refine⟨.ref nv 0::xs.map .v,by simpa using hlen,fun φ m us hl qa i a b=>?_,?_⟩
   ·cases i with
    |zero=>exact qa 0 (by simp) b
    |succ i=>
     simp only[List.length_cons,List.length_map]at a
     simp only[List.getElem_cons_succ,List.getElem_map]
     exact .v _ _ (Ed xW i (by omega) (by omega) _ (by have:=qa (i+1) (by simp;omega) b;simpa using this))
   ·have e4:s.c.pre [bu x [1,1] [2,1],.map 2 (bS x.bk),.map 0 (bI x.ds)] (.ref [0,1] 0::xs.map .v):=⟨x,xs,rfl,rfl,hp⟩
    simp only[CSpec.toSpec,e1,e2,hr,s.c_out,e4,e5,CE,xW,and_self,du]
    refine⟨trivial,trivial,?_⟩
    cases s.wr with
    |none=>rfl
    |some f=>simp only[cE,O.ren,List.getD_cons_zero,List.getD_cons_succ]
  ·exact eY.elim
 ·exact eY.elim
def vg(P:Program)(rs:List ResultVar)(x:Vw)(d:D)(w:Option (List (Int×(Int×Int)))):Exit->S->Prop
 | .normal,σ=>(bW P σ rs).ok/\(bW P σ rs).d=d/\σ.obj [0,1]=some (bu x [1,1] [2,1])/\σ.obj [1,1]=some (.map 2 (bS x.bk))/\σ.obj [2,1]=some (.map 0 (bI (w.getD x.ds)))
 | .ret,σ=>(bW P σ rs).ok/\(bW P σ rs).d=d/\σ.obj [0,1]=some (bu x [1,1] [2,1])/\σ.obj [1,1]=some (.map 2 (bS x.bk))/\σ.obj [2,1]=some (.map 0 (bI (w.getD x.ds)))
 |_,_=>False
theorem z'{P:Program}{f:FuncId}{fn:Func}{nt:Nat}{rs:List ResultVar}{s:VSpec}(hf:P.funcs[f]?=some fn)(cT:fn.ntmps=nt)(ca:fn.results.toList=rs)(hn:(fn.name== "runtime.NumGoroutine")=false)(hy:f<1000000000)(cw:∀ x xs,s.pre x xs->D.clos (fun _=>false) (s.val x xs)=true)
 (hb:∃ c,fn.body=some c/\∀ x xs,s.pre x xs->xs.length+1<=nt/\∀ H:Name->Option O,H [0,1]=some (bu x [1,1] [2,1])->H [1,1]=some (.map 2 (bS x.bk))->H [2,1]=some (.map 0 (bI x.ds))->
   (∀ hs,cl [0] (bY [0] hs) H=True)->(∀ hs es,cl [0] (bY [0] hs) (fun nm=>if nm=[2,1]then some (.map 0 es)else H nm)=True)->
   CL P [c] (bh nt [0] H (dC 0 (.ref [0,1] 0::xs.map .v)) []) (vg P rs x (s.val x xs) (s.wr.map fun f=>f x xs))):aR P f s.toSpec:=by
 obtain⟨c,hc,h⟩:=hb
 have aE:f≠yid:=Nat.ne_of_lt (show f<yid from hy)
 refine VSpec.sound (oZ hf hc cT ca (iK hf hc hn) aE ?_) aE
 rintro os ds ⟨x,xs,rfl,rfl,hp⟩
 obtain⟨h1,h2⟩:=h x xs hp
 refine⟨by simpa using h1,?_⟩
 have hO:∀ hs,cl [0] (bY [0] hs) (a7 [bu x [1,1] [2,1],.map 2 (bS x.bk),.map 0 (bI x.ds)]):=fun hs=>pH (by
  intro o ho dom hd
  simp only[List.mem_cons,List.not_mem_nil,or_false]at ho
  rcases ho with rfl | rfl | rfl
  ·simp[bu,O.clos,D.closL,D.clos,hd]
  ·rfl
  ·rfl) hs
 have :=h2 (a7 [bu x [1,1] [2,1],.map 2 (bS x.bk),.map 0 (bI x.ds)]) rfl rfl rfl (fun hs=>eq_true (hO hs)) (fun hs es=>eq_true (sF (nm:=[2,1]) (o:=.map 0 es) rfl (hO hs)))
 refine CW.mono (jL this) fun e σ hk=>?_
 rw[s.c_out]
 have key:(bW P σ rs).ok/\(bW P σ rs).d=s.val x xs/\σ.obj [0,1]=some (bu x [1,1] [2,1])/\σ.obj [1,1]=some (.map 2 (bS x.bk))/\σ.obj [2,1]=some (.map 0 (bI ((s.wr.map fun f=>f x xs).getD x.ds)))->
     (bW P σ rs).ok/\(bW P σ rs).d=s.val x xs/\gv [bu x [1,1] [2,1],.map 2 (bS x.bk),.map 0 (bI x.ds)] ⟨match s.wr with | none=>[] | some f=>[(2,.map 0 (bI (f x xs)))],[],s.val x xs⟩ σ:=by
  rintro⟨k1,k2,k3,k4,k5⟩
  refine⟨k1,k2,?_⟩
  have hd:=clos_imp (dom:=fun _=>false) (dom':=di 3 []) (fun _ h=>by cases h) _ (cw x xs hp)
  cases hw:s.wr with
  |none=>
   rw[hw]at k5
   refine⟨⟨k3,k4,k5,trivial⟩,trivial,?_⟩
   show (D.clos (di 3 []) (s.val x xs)&&_&&_&&_)=true
   rw[hd];rfl
  |some f=>
   rw[hw]at k5
   refine⟨⟨k3,k4,k5,trivial⟩,trivial,?_⟩
   show (D.clos (di 3 []) (s.val x xs)&&_&&_&&_)=true
   rw[hd];rfl
 cases e with
 |normal=>exact key hk
 |ret=>exact key hk
 |_=>exact hk.elim
def v0(p:Vw->Prop)(g:Vw->D)(w:Option (Vw->List (Int×(Int×Int)))):VSpec:=
 ⟨fun x xs=>match xs with | []=>p x | _=>False,fun x xs=>match xs with | []=>g x | _=>.any,w.map fun w x xs=>match xs with | []=>w x | _=>[]⟩
theorem EX{p:Vw->Prop}{g:Vw->D}{w:Option (Vw->List (Int×(Int×Int)))}{x:Vw}{xs:List V}(h:(v0 p g w).pre x xs):
 xs=[]/\p x/\(v0 p g w).val x xs=g x/\((v0 p g w).wr.map fun f=>f x xs)=w.map fun w=>w x:=by
 unfold v0 at h
 simp only at h
 split at h
 ·exact⟨rfl,h,rfl,by cases w<;>rfl⟩
 ·exact h.elim
def v1{α:Type}(A:En α)(p:Vw->α->Prop)(g:Vw->α->D)(w:Option (Vw->α->List (Int×(Int×Int)))):VSpec:=
 ⟨fun x xs=>match xs with | [a]=>A.enc (A.dec a)=a/\p x (A.dec a) | _=>False,fun x xs=>match xs with | [a]=>g x (A.dec a) | _=>.any,w.map fun w x xs=>match xs with | [a]=>w x (A.dec a) | _=>[]⟩
theorem EW{α:Type}{A:En α}{p:Vw->α->Prop}{g:Vw->α->D}{w:Option (Vw->α->List (Int×(Int×Int)))}{x:Vw}{xs:List V}(h:(v1 A p g w).pre x xs):
 ∃ a,xs=[A.enc a]/\p x a/\(v1 A p g w).val x xs=g x a/\((v1 A p g w).wr.map fun f=>f x xs)=w.map fun w=>w x a:=by
 unfold v1 at h
 simp only at h
 split at h
 ·exact⟨_,by rw[h.1],h.2,rfl,by cases w<;>rfl⟩
 ·exact h.elim
def v2{α β:Type}(A:En α)(B:En β)(p:Vw->α->β->Prop)(g:Vw->α->β->D)(w:Option (Vw->α->β->List (Int×(Int×Int)))):VSpec:=
 ⟨fun x xs=>match xs with | [a,b]=>A.enc (A.dec a)=a/\B.enc (B.dec b)=b/\p x (A.dec a) (B.dec b) | _=>False,fun x xs=>match xs with | [a,b]=>g x (A.dec a) (B.dec b) | _=>.any,w.map fun w x xs=>match xs with | [a,b]=>w x (A.dec a) (B.dec b) | _=>[]⟩
theorem EV{α β:Type}{A:En α}{B:En β}{p:Vw->α->β->Prop}{g:Vw->α->β->D}{w:Option (Vw->α->β->List (Int×(Int×Int)))}{x:Vw}{xs:List V}(h:(v2 A B p g w).pre x xs):
 ∃ a b,xs=[A.enc a,B.enc b]/\p x a b/\(v2 A B p g w).val x xs=g x a b/\((v2 A B p g w).wr.map fun f=>f x xs)=w.map fun w=>w x a b:=by
 unfold v2 at h
 simp only at h
 split at h
 ·exact⟨_,_,by rw[h.1,h.2.1],h.2.2,rfl,by cases w<;>rfl⟩
 ·exact h.elim
def v3{α β γ:Type}(A:En α)(B:En β)(C:En γ)(p:Vw->α->β->γ->Prop)(g:Vw->α->β->γ->D)(w:Option (Vw->α->β->γ->List (Int×(Int×Int)))):VSpec:=
 ⟨fun x xs=>match xs with | [a,b,c]=>A.enc (A.dec a)=a/\B.enc (B.dec b)=b/\C.enc (C.dec c)=c/\p x (A.dec a) (B.dec b) (C.dec c) | _=>False,fun x xs=>match xs with | [a,b,c]=>g x (A.dec a) (B.dec b) (C.dec c) | _=>.any,w.map fun w x xs=>match xs with | [a,b,c]=>w x (A.dec a) (B.dec b) (C.dec c) | _=>[]⟩
section
variable {P:Program} {f:FuncId} {fn:Func} {nt:Nat} {rs:List ResultVar}
theorem Oe{p:Vw->Prop}{g:Vw->D}{w:Option (Vw->List (Int×(Int×Int)))}(hf:P.funcs[f]?=some fn)(cT:fn.ntmps=nt)(ca:fn.results.toList=rs)(hn:(fn.name== "runtime.NumGoroutine")=false)(hy:f<1000000000)(cw:∀ x,D.clos (fun _=>false) (g x )=true)
 (hb:∃ cc,fn.body=some cc/\1<=nt/\∀ x,p x->∀ H:Name->Option O,H [0,1]=some (bu x [1,1] [2,1])->H [1,1]=some (.map 2 (bS x.bk))->H [2,1]=some (.map 0 (bI x.ds))->
   (∀ hs,cl [0] (bY [0] hs) H=True)->(∀ hs es,cl [0] (bY [0] hs) (fun nm=>if nm=[2,1]then some (.map 0 es)else H nm)=True)->
   CL P [cc] (bh nt [0] H (dC 0 (.ref [0,1] 0::[].map .v)) []) (vg P rs x (g x ) (w.map fun w=>w x ))):aR P f (v0 p g w).toSpec:=by
 obtain⟨cc,hc,h1,h⟩:=hb
 refine z' hf cT ca hn hy (fun x xs hp=>by
  obtain⟨rfl,_,hg,_⟩:=EX hp
  rw[hg];exact cw x ) ⟨cc,hc,fun x xs hp=>?_⟩
 obtain⟨rfl,hp,hg,hw⟩:=EX hp
 rw[hg,hw]
 exact⟨h1,h x hp⟩
theorem wZ{α:Type}{A:En α}{p:Vw->α->Prop}{g:Vw->α->D}{w:Option (Vw->α->List (Int×(Int×Int)))}(hf:P.funcs[f]?=some fn)(cT:fn.ntmps=nt)(ca:fn.results.toList=rs)(hn:(fn.name== "runtime.NumGoroutine")=false)(hy:f<1000000000)(cw:∀ x a,D.clos (fun _=>false) (g x a)=true)
 (hb:∃ cc,fn.body=some cc/\2<=nt/\∀ x a,p x a->∀ H:Name->Option O,H [0,1]=some (bu x [1,1] [2,1])->H [1,1]=some (.map 2 (bS x.bk))->H [2,1]=some (.map 0 (bI x.ds))->
   (∀ hs,cl [0] (bY [0] hs) H=True)->(∀ hs es,cl [0] (bY [0] hs) (fun nm=>if nm=[2,1]then some (.map 0 es)else H nm)=True)->
   CL P [cc] (bh nt [0] H (dC 0 (.ref [0,1] 0::[A.enc a].map .v)) []) (vg P rs x (g x a) (w.map fun w=>w x a))):aR P f (v1 A p g w).toSpec:=by
 obtain⟨cc,hc,h1,h⟩:=hb
 refine z' hf cT ca hn hy (fun x xs hp=>by
  obtain⟨a,rfl,_,hg,_⟩:=EW hp
  rw[hg];exact cw x a) ⟨cc,hc,fun x xs hp=>?_⟩
 obtain⟨a,rfl,hp,hg,hw⟩:=EW hp
 rw[hg,hw]
 exact⟨h1,h x a hp⟩
theorem z8{α β:Type}{A:En α}{B:En β}{p:Vw->α->β->Prop}{g:Vw->α->β->D}{w:Option (Vw->α->β->List (Int×(Int×Int)))}(hf:P.funcs[f]?=some fn)(cT:fn.ntmps=nt)(ca:fn.results.toList=rs)(hn:(fn.name== "runtime.NumGoroutine")=false)(hy:f<1000000000)(cw:∀ x a b,D.clos (fun _=>false) (g x a b)=true)
 (hb:∃ cc,fn.body=some cc/\3<=nt/\∀ x a b,p x a b->∀ H:Name->Option O,H [0,1]=some (bu x [1,1] [2,1])->H [1,1]=some (.map 2 (bS x.bk))->H [2,1]=some (.map 0 (bI x.ds))->
   (∀ hs,cl [0] (bY [0] hs) H=True)->(∀ hs es,cl [0] (bY [0] hs) (fun nm=>if nm=[2,1]then some (.map 0 es)else H nm)=True)->
   CL P [cc] (bh nt [0] H (dC 0 (.ref [0,1] 0::[A.enc a,B.enc b].map .v)) []) (vg P rs x (g x a b) (w.map fun w=>w x a b))):aR P f (v2 A B p g w).toSpec:=by
 obtain⟨cc,hc,h1,h⟩:=hb
 refine z' hf cT ca hn hy (fun x xs hp=>by
  obtain⟨a,b,rfl,_,hg,_⟩:=EV hp
  rw[hg];exact cw x a b) ⟨cc,hc,fun x xs hp=>?_⟩
 obtain⟨a,b,rfl,hp,hg,hw⟩:=EV hp
 rw[hg,hw]
 exact⟨h1,h x a b hp⟩
end
attribute [go_sem] v0 v1 v2 v3 vg Option.map_some Option.map_none Option.getD_some Option.getD_none
attribute [go_sem] VSpec.toSpec VSpec.app iA ni bu uh
noncomputable section
def K16:List (Nat×Spec):=[(166,Nt)]
theorem NO:KS K16:=tc P7.sound<|tn
attribute [go_sem] K16
def fP:Rec:=⟨0,0,0,[],0,0,0⟩
def gh(r:Rec):D:=.agg [.v (vInt r.so),.v (vInt r.bo),.v (vInt r.pa),.v (.sl (r.lv.map vInt)),.v (vInt r.da),.v (vInt r.kn),.v (vInt r.un)]
attribute [go_sem] gh
def mb:Option Rec->D
 |some r=>gh r
 |none=>.agg [.v (vInt 0),.v (vInt 0),.v (vInt 0),.nilsl,.v (vInt 0),.v (vInt 0),.v (vInt 0)]
theorem ma(r:Option Rec)(p:Name->Bool):D.clos p (mb r)=true:=by cases r<;>rfl
def dk(l:List Rec)(s:Int):Option Rec:=l.find? fun r=>r.so==s
theorem GD{l:List Rec}{s:Int}(h:dE (fun x=>x.so==s) l<0):dk l s=none:=by
 unfold dk
 rw[List.find?_eq_none]
 intro x hx hp
 unfold dE at h
 rw[if_pos (List.any_eq_true.2 ⟨x,hx,hp⟩)]at h
 omega
theorem GC{l:List Rec}{s:Int}(h:¬ dE (fun x=>x.so==s) l<0):∃ (i:Nat) (hi:i<l.length),dE (fun x=>x.so==s) l=i/\dk l s=some l[i]:=by
 unfold dE at h |-
 split at h
 ·rename_i jF
  have ab:l.findIdx (fun x=>x.so==s)<l.length:=List.findIdx_lt_length_of_exists (by obtain⟨x,hx,hp⟩:=List.any_eq_true.1 jF;exact⟨x,hx,hp⟩)
  rw[if_pos jF]
  refine⟨_,ab,rfl,?_⟩
  unfold dk
  rw[List.find?_eq_some_iff_getElem]
  exact⟨List.findIdx_getElem (w:=ab),_,ab,rfl,fun j hj=>by simpa using List.not_of_lt_findIdx hj⟩
 ·omega
def Nd:VSpec:=v1 iI (fun _ _=>True) (fun x s=>.tup [mb (dk x.rs s),.v (.bool (dk x.rs s).isSome)]) none
def S77:Spec:=Nd.toSpec
attribute [go_sem] Nd S77
set_option maxHeartbeats 4000000 in
theorem JH:aR Tryz.prog 77 S77:=by
 refine wZ (rs:=[.cell 4 36,.tmp 5]) Tryz.func77 Tryz.ntmps77 (by rfl) (by kernel_rfl) (by decide) (fun _ _=>by first | rfl | exact ma _ _ | simp[D.clos,D.closL,ma]) ⟨_,rfl,lb rfl,fun x s hp H h0 h1 h2 hO aj=>?_⟩
 simp only[iI,bu,dC,List.map_cons,List.map_nil,Nat.zero_add,Option.map_some,Option.map_none]at h0 |-
 have hΓ:=NO
 repeat refine sq ?_
 refine rx hΓ [0,3,4] [[3,0],[4,0]] (fun K' hK=>by simp only[go_sem,hO,aj,h0,h1,h2];(repeat (refine⟨ao,?_⟩));exact hK _ (by simp only[go_sem,hO,aj,h0,h1,h2]) (by simp only[go_sem,hO,aj,h0,h1,h2]<;>rfl)) ?_
 repeat refine sq ?_
 refine rx hΓ [0,4,6] [[4,0]] (fun K' hK=>by simp only[go_sem,hO,aj,h0,h1,h2,true_or,or_true];(repeat (refine⟨ao,?_⟩));exact hK _ (by simp only[go_sem,hO,aj,h0,h1,h2,true_or,or_true]) (by simp only[go_sem,hO,aj,h0,h1,h2,true_or,or_true]<;>rfl)) ?_
 repeat refine sq ?_
 refine rx hΓ [0,4,6,14] [[4,0]] (fun K' hK=>by simp only[go_sem,hO,aj,h0,h1,h2];(repeat (refine⟨ao,?_⟩));exact hK _ (by simp only[go_sem,hO,aj,h0,h1,h2]) (by simp only[go_sem,hO,aj,h0,h1,h2]<;>rfl)) ?_
 repeat refine sq ?_
 refine av (fun hb=>?_) fun hb=>?_
 ·repeat refine sq ?_
  have e:dk x.rs s=none:=GD (by simpa using hb)
  repeat refine sq ?_
  refine rx hΓ [4,5] [[4,0]] (fun K' hK=>by simp only[go_sem,hO,aj,h0,h1,h2];(repeat (refine⟨ao,?_⟩));exact hK _ (by simp only[go_sem,hO,aj,h0,h1,h2]) (by simp only[go_sem,hO,aj,h0,h1,h2]<;>rfl)) ?_
  refine au ?_
  simp only[go_sem,hO,aj,h0,h1,h2]
  rw[e];rfl
 ·repeat refine sq ?_
  obtain⟨i,hi,e1,e⟩:=GC (by simpa using hb)
  have bM:(i:Int)<x.rs.length:=by omega
  rw[e1]
  refine ax ?_
  repeat refine sq ?_
  refine rx hΓ [4,5] [[4,0]] (fun K' hK=>by simp only[go_sem,hO,aj,h0,h1,h2,ae hi,ah,ai,bM];(repeat (refine⟨ao,?_⟩));exact hK _ (by simp only[go_sem,hO,aj,h0,h1,h2,ae hi,ah,ai,bM]) (by simp only[go_sem,hO,aj,h0,h1,h2,ae hi,ah,ai,bM]<;>rfl)) ?_
  refine au ?_
  simp only[go_sem,hO,aj,h0,h1,h2]
  rw[e];rfl
end
noncomputable section
structure Rg where
 (lo hi:Int)
 deriving Inhabited,DecidableEq
def encRg(r:Rg):V:=.agg [vInt r.lo,vInt r.hi]
def uj:V->Rg
 | .agg [.int _ a,.int _ b]=>⟨a,b⟩
 |_=>default
def vE:En Rg:=⟨encRg,uj⟩
attribute [go_sem] encRg uj vE
@[go_sem] theorem aeb(p:Rg):(⟨p.lo,p.hi⟩:Rg)=p:=rfl
def bA:List (Int×(Int×Int))->Int->Int×Int
 |[],_=>(0,0)
 |(k,d)::r,i=>if k=i then d else bA r i
def mK:List (Int×(Int×Int))->Int->Int×Int->List (Int×(Int×Int))
 |[],i,d=>[(i,d)]
 |(k,e)::r,i,d=>if k=i then(i,d)::r else(k,e)::mK r i d
theorem tw(d:List (Int×(Int×Int)))(i:Int):(eM (bI d) (vInt i)).getD (.agg [vInt 0,vInt 0])=.agg [vInt (bA d i).1,vInt (bA d i).2]:=by
 induction d with
 |nil=>rfl
 |cons q r ih=>
  obtain⟨k,e⟩:=q
  show (if fj (vInt k) (vInt i)=true then some (V.agg [vInt e.1,vInt e.2])else eM (bI r) (vInt i)).getD _=_
  by_cases h:k=i
  ·subst h;simp[fj,bA]
  ·have h':(k==i)=false:=by simpa using h
   simp only[fj,h',Bool.false_eq_true,if_false,bA,h]
   exact ih
theorem HE(d:List (Int×(Int×Int)))(i a b:Int):dS (bI d) (vInt i) (.agg [vInt a,vInt b])=bI (mK d i (a,b)):=by
 induction d with
 |nil=>rfl
 |cons q r ih=>
  obtain⟨k,e⟩:=q
  show (if fj (vInt k) (vInt i)=true then(vInt i,V.agg [vInt a,vInt b])::bI r else(vInt k,V.agg [vInt e.1,vInt e.2])::dS (bI r) (vInt i) (.agg [vInt a,vInt b]))=_
  by_cases h:k=i
  ·subst h;simp[fj,mK,bI]
  ·have h':(k==i)=false:=by simpa using h
   simp only[fj,h',Bool.false_eq_true,if_false,mK,h,ih]
   rfl
def cg(a b:Int):Int:=if b>a then b else a
def dD(a b:Int):Int:=if b<a then b else a
def Bf(x:Vw)(i:Int)(r:Rg):List (Int×(Int×Int)):=mK x.ds i (cg (bA x.ds i).1 r.lo,dD (bA x.ds i).2 r.hi)
def Ng:VSpec:=v2 iI vE (fun _ _ _=>True) (fun _ _ _=>.tup []) (some Bf)
def S165:Spec:=Ng.toSpec
attribute [go_sem] Ng S165
set_option maxHeartbeats 4000000 in
theorem BJ:aR Tryz.prog 165 S165:=by
 refine z8 (rs:=[]) Tryz.func165 Tryz.ntmps165 (by rfl) (by kernel_rfl) (by decide) (fun _ _ _=>by first | rfl | simp[D.clos,D.closL,ma]) ⟨_,rfl,lb rfl,fun x i r hp H h0 h1 h2 hO aj=>?_⟩
 have hP:=dL
 simp only[iI,vE,encRg,bu,dC,List.map_cons,List.map_nil,Nat.zero_add,Option.map_some,Option.map_none]at h0 |-
 have hΓ:=@fg Tryz.prog
 repeat refine sq ?_
 refine rx hΓ [0,1,5] [[5,0]] (fun K' hK=>by simp only[go_sem,hO,aj,h0,h1,h2];(repeat (refine⟨ao,?_⟩));exact hK _ (by simp only[go_sem,hO,aj,h0,h1,h2]) (by simp only[go_sem,hO,aj,h0,h1,h2]<;>rfl)) ?_
 repeat refine sq ?_
 refine rx hΓ [0,1,5,6] [[5,0],[6,0]] (fun K' hK=>by simp only[go_sem,hO,aj,h0,h1,h2,tw];(repeat (refine⟨ao,?_⟩));exact hK _ (by simp only[go_sem,hO,aj,h0,h1,h2,tw]) (by simp only[go_sem,hO,aj,h0,h1,h2,tw]<;>rfl)) ?_
 repeat refine sq ?_
 refine uz hΓ hP [[],[0],[0,1],[0,1,2],[],[],[5],[],[7],[5,6,7,8],[],[10],[],[12],[10,11,12,13],[5,6,7,8,9,10,11,12,13,14],u16] (by kernel_rfl) fun K' hK=>?_
 simp only[go_sem,hO,aj,h0,h1,h2,HE]
 repeat (refine⟨ao,?_⟩)
 first | refine⟨by rfl,?_⟩ | skip
 refine hK _ ?_
 clear K' hK
 simp only[go_sem]
 exact⟨h0,h1,rfl⟩
end
def bz(l:Led)(k:Int):List Rec:=l.rs.filter fun r=>bJ r.kn r.un k
def aX(l:Led)(k:Int):List Sig:=l.ss.filter fun s=>bJ s.kn s.un k
def gE(pa:Int)(lv:List Int)(r:Rec):Bool:=r.pa==pa&&r.lv.any fun n=>lv.contains n
def dq(rs:List Rec)(pa:Int)(lv:List Int):List Rec:=rs.filter (gE pa lv)
abbrev Bk:=List ((Int×Int)×Int)
abbrev Ds:=List (Int×(Int×Int))
def bK:Bk->Int×Int->Option Int
 |[],_=>none
 |(k,i)::r,q=>if k=q then some i else bK r q
def qz:Bk->Int×Int->Int->Bk
 |[],q,i=>[(q,i)]
 |(k,e)::r,q,i=>if k=q then(q,i)::r else(k,e)::qz r q i
theorem Ii(a b c d:Int):fj (.agg [vInt a,vInt b]) (.agg [vInt c,vInt d])=decide ((a,b)=(c,d)):=by
 show (a==c&&b==d)=_
 by_cases h1:a=c<;>by_cases h2:b=d<;>simp[h1,h2]
theorem aG(b:Bk)(p f:Int):eM (bS b) (.agg [vInt p,vInt f])=(bK b (p,f)).map vInt:=by
 induction b with
 |nil=>rfl
 |cons q r ih=>
  obtain⟨⟨k1,k2⟩,i⟩:=q
  show (if fj (.agg [vInt k1,vInt k2]) (.agg [vInt p,vInt f])=true then some (vInt i)else eM (bS r) (.agg [vInt p,vInt f]))=_
  rw[ih,Ii]
  simp only[bK]
  by_cases h:(k1,k2)=(p,f)
  ·rw[if_pos h,if_pos (by simpa using h)];rfl
  ·rw[if_neg h,if_neg (by simpa using h)]
theorem RJ(b:Bk)(p f i:Int):dS (bS b) (.agg [vInt p,vInt f]) (vInt i)=bS (qz b (p,f) i):=by
 induction b with
 |nil=>rfl
 |cons q r ih=>
  obtain⟨⟨k1,k2⟩,e⟩:=q
  show (if fj (.agg [vInt k1,vInt k2]) (.agg [vInt p,vInt f])=true then(V.agg [vInt p,vInt f],vInt i)::bS r else(.agg [vInt k1,vInt k2],vInt e)::dS (bS r) (.agg [vInt p,vInt f]) (vInt i))=_
  rw[ih,Ii]
  simp only[qz]
  by_cases h:(k1,k2)=(p,f)
  ·rw[if_pos h,if_pos (by simpa using h)];rfl
  ·rw[if_neg h,if_neg (by simpa using h)];rfl
def jY(d:Ds)(i:Int)(r:Rg):Ds:=mK d i (cg (bA d i).1 r.lo,dD (bA d i).2 r.hi)
def aK(l:Led)(i:Nat):Ret:=l.ts.getD i default
def iq(k:Int)(rs:List Rec)(bk:Bk)(x:Ret):Option Rec:=match dk rs x.re with
 |none=>none
 |some r=>if bJ x.kn x.un k&&!(decide (cg x.lo (r.da+1)>x.hi)||x.lv.any fun f=>(bK bk (r.so,f)).isSome||!r.lv.contains f)then some r else none
def o7(b:Bk)(so:Int)(i:Int)(lv:List Int):Bk:=lv.foldl (fun b f=>qz b (so,f) i) b
def pR(l:Led)(k:Int)(v:Vw)(i:Nat):Vw:=match iq k v.rs v.bk (aK l i)with
 |none=>v
 |some r=>{ v with bk:=o7 v.bk r.so i (aK l i).lv,ts:=v.ts++[(i:Int)],ds:=mK v.ds i (cg (aK l i).lo (r.da+1),(aK l i).hi) }
def aB(l:Led)(k:Int):Nat->Vw
 | 0=>⟨l,bz l k,[],[],[]⟩
 |s+1=>pR l k (aB l k s) s
def lu(rs:List Rec)(s:Int):Rec:=(dk rs s).getD fP
def kG(d:Ds)(i da:Int)(os:List Rec):Ds:=os.foldl (fun d o=>if o.da>da then jY d i ⟨0,o.da⟩else d) d
def iv(l:Led)(rs:List Rec)(ts:List Int)(d:Ds):Nat->Ds
 | 0=>d
 |j+1=>kG (iv l rs ts d j) (ts.getD j 0) (lu rs (aK l (ts.getD j 0).toNat).re).da (dq rs (lu rs (aK l (ts.getD j 0).toNat).re).pa (aK l (ts.getD j 0).toNat).lv)
def aF(l:Led)(k:Int):Vw:={ aB l k l.ts.length with ds:=iv l (bz l k) (aB l k l.ts.length).ts (aB l k l.ts.length).ds (aB l k l.ts.length).ts.length }
theorem R4(l:Led)(k:Int)(v:Vw)(i:Nat):(pR l k v i).l=v.l/\(pR l k v i).rs=v.rs:=by
 unfold pR
 split<;>exact⟨rfl,rfl⟩
theorem ou(l:Led)(k:Int)(i:Nat):(aB l k i).l=l/\(aB l k i).rs=bz l k:=by
 induction i with
 |zero=>exact⟨rfl,rfl⟩
 |succ i ih=>
  have :=R4 l k (aB l k i) i
  exact⟨this.1.trans ih.1,this.2.trans ih.2⟩
def um(x:Vw)(a b:Rec):Bool:=a.lv.any fun f=>(a.pa==b.pa&&b.lv.contains f)&&(a.da==b.da||match bK x.bk (a.so,f)with
 |none=>true
 |some i=>decide (cg (aK x.l i.toNat).lo (a.da+1)>b.da))
def gK(x:Vw)(a b:Rec):Bool:=if a.da>b.da then um x b a else um x a b
def me(x:Vw)(i:Nat):Option (Int×Int):=((x.rs.drop (i+1)).find? (gK x (x.rs.getD i fP))).map fun b=>((x.rs.getD i fP).so,b.so)
def dR(x:Vw):Option (Int×Int):=(List.range x.rs.length).findSome? (me x)
def o8(day:Int)(o:Option Rec)(r:Rec):Option Rec:=if decide (r.da<=day)&&(o.isNone||decide (r.da>=(o.getD fP).da))then some r else o
def hG(rs:List Rec)(pa le day:Int):Option Rec:=(dq rs pa [le]).foldl (o8 day) none
def cA:Rg:=⟨0,100000⟩
def cm:Rg:=⟨1,0⟩
def bF(x:Vw)(s:Sig):Int×Rg:=match hG x.rs s.pa s.le s.da with
 |none=>if s.pe=0 then(-1,cA)else(-1,cm)
 |some r=>match bK x.bk (r.so,s.le)with
  |none=>if s.pe=r.bo then(-1,cA)else(-1,cm)
  |some i=>if s.pe=0 then(i,⟨0,s.da⟩)else if s.pe=r.bo then(i,⟨s.da+1,100000⟩)else(-1,cm)
def iE(x:Vw)(d:Ds)(s:Sig):Ds:=if (bF x s).1>=0 then jY d (bF x s).1 (bF x s).2 else d
def ft(x:Vw)(d:Ds)(l:List Sig):Ds:=l.foldl (iE x) d
def eV(x:Vw)(s:Sig):Bool:=decide ((bF x s).1>=0)||!decide ((bF x s).2.lo>(bF x s).2.hi)
def yO(ts:List Int)(d:Ds):Bool:=ts.all fun i=>decide ((bA d i).1<=(bA d i).2)
def ei(x:Vw)(l:List Sig):Bool:=l.all (eV x)&&yO x.ts (ft x x.ds l)
open Go
def cY(obj:Name->Option O):List Name->List O->Prop
 |[],[]=>True
 |x::xs,o::os=>obj x=some o/\cY obj xs os
 |_,_=>False
theorem mg{obj:Name->Option O}:∀ {Ls:List Name} {F:List O},cY obj Ls F↔Ls.map obj=F.map some
 |[],[]=>by simp[cY]
 |x::xs,o::os=>by simp only[cY,List.map_cons,List.cons.injEq,mg]
 |[],_::_=>by simp[cY]
 |_::_,[]=>by simp[cY]
theorem A'{obj obj2:Name->Option O}{Ls:List Name}{F:List O}(h:cY obj Ls F)(ha:∀ x∈Ls,obj2 x=obj x):cY obj2 Ls F:=by
 rw[mg]at h |-
 rw[<-h]
 exact List.map_congr_left ha
theorem A9{obj:Name->Option O}:∀ {Ls:List Name} {F:List O},cY obj Ls F->∀ i (h:i<Ls.length) (h':i<F.length),obj Ls[i]=some F[i]
 |_::_,_::_,h,0,_,_=>h.1
 |_::_,_::_,h,i+1,h1,h2=>by
  simp only[List.getElem_cons_succ]
  exact A9 h.2 i (by simpa using h1) (by simpa using h2)
def xr(K:Exit->S->Prop)(σ:S):Option Code->Prop
 |none=>K .normal σ
 |some .ret=>K .ret σ
 |some (.exit id)=>K (.exit id) σ
 |_=>False
theorem Su{K:Exit->S->Prop}{obj:Name->Option O}{nm:Name}{σ:S}{env:List E}{ps:List Nat}{a b:Code}(pd:Option Code)(h:obj nm=some (.loop env ps a b (if pd.isNone then .ready else .done) pd))
 (hK:xr K σ pd):pS K obj nm σ:=by
 unfold pS
 rw[h]
 rcases pd with _ | c
 ·exact hK
 ·cases c<;>first | exact hK.elim | exact hK
def LR(m:Nat):List Name:=(List.range m).map fun i=>[i,1]
def LI(m:Nat):List Name:=(List.range m).map fun i=>[i+1,1]
theorem uI(m:Nat):(LR m).length=m:=by simp[LR]
theorem gN(m:Nat):(LI m).length=m:=by simp[LI]
theorem NJ(m:Nat):(LR m).Nodup:=by
 unfold LR
 exact List.Pairwise.map _ (fun a b h=>by simpa using h) List.nodup_range
theorem DW{Ls:List Name}(hn:Ls.Nodup):Ls.map (cin Ls)=LR Ls.length:=by
 refine List.ext_getElem (by simp[LR]) fun i h1 h2=>?_
 simp only[List.getElem_map,LR,List.getElem_range,cin]
 rw[BP hn (by simpa using h1)]
theorem DV{R:Name}{Ls:List Name}(hn:Ls.Nodup)(hR:R∉Ls):Ls.map (cin (R::Ls))=LI Ls.length:=by
 refine List.ext_getElem (by simp[LI]) fun i h1 h2=>?_
 simp only[List.getElem_map,LI,List.getElem_range,cin]
 have h3:i<Ls.length:=by simpa using h1
 have h4:=BP (L:=R::Ls) (List.nodup_cons.2 ⟨hR,hn⟩) (i:=i+1) (by simp;omega)
 simp only[List.getElem_cons_succ]at h4
 rw[h4]
theorem XE(Ls:List Name)(t:Name):(LR Ls.length).map (cout Ls t)=Ls:=by
 refine List.ext_getElem (by simp[LR]) fun i h1 h2=>?_
 simp only[List.getElem_map,LR,List.getElem_range,cout]
 exact kS h2
theorem Mg(R:Name)(Ls:List Name)(t:Name):(LI Ls.length).map (cout (R::Ls) t)=Ls:=by
 refine List.ext_getElem (by simp[LI]) fun i h1 h2=>?_
 simp only[List.getElem_map,LI,List.getElem_range,cout]
 rw[kS (by simpa using h2)]
 simp
def dV:List Name->List O->(Name->Option O)->(Name->Option O)
 |x::xs,o::os,obj=>dV xs os (upd obj x (some o))
 |_,_,obj=>obj
theorem vd:∀ {Ls:List Name} {F:List O} {obj:Name->Option O} {x:Name},x∉Ls->dV Ls F obj x=obj x
 |[],_,_,_,_=>by simp[dV]
 |_::_,[],_,_,_=>by simp[dV]
 |y::ys,o::os,obj,x,h=>by
  simp only[List.mem_cons,not_or]at h
  simp only[dV]
  rw[vd h.2,a8 _ _ _ h.1]
theorem FH:∀ {Ls:List Name} {F:List O} {obj:Name->Option O},Ls.Nodup->Ls.length=F.length->cY (dV Ls F obj) Ls F
 |[],[],_,_,_=>trivial
 |[],_::_,_,_,h=>by simp at h
 |_::_,[],_,_,h=>by simp at h
 |y::ys,o::os,obj,hn,h=>by
  rw[List.nodup_cons]at hn
  refine⟨?_,FH (obj:=upd obj y (some o)) hn.2 (by simpa using h)⟩
  simp only[dV]
  rw[vd hn.1,aS]
def fc:Nat->List O->List (Nat×O)
 |_,[]=>[]
 |k,o::r=>(k,o)::fc (k+1) r
theorem AS{t:Name}{L:List Name}:∀ {Ls:List Name} {k:Nat} {F:List O} {obj:Name->Option O},Ls.length=F.length->(∀ i (h:i<Ls.length),L.getD (k+i) []=Ls[i])->
 cE L t (fc k F) obj=dV Ls (F.map (O.ren (cout L t))) obj
 |[],k,[],obj,_,_=>rfl
 |[],k,_::_,obj,h,_=>by simp at h
 |_::_,k,[],obj,h,_=>by simp at h
 |x::xs,k,o::os,obj,h,hL=>by
  simp only[fc,cE,List.map_cons,dV]
  have h0:=hL 0 (by simp)
  simp only[Nat.add_zero,List.getElem_cons_zero]at h0
  rw[h0]
  exact AS (by simpa using h) fun i hi=>by
   have :=hL (i+1) (by simpa using hi)
   rw[show k+1+i=k+(i+1)by omega]
   simpa using this
theorem By:∀ {F:List O} {k i:Nat} {o:O},i<k->eN (fc k F) i o=o
 |[],k,i,o,_=>rfl
 |f::r,k,i,o,h=>by
  simp only[fc,eN]
  rw[if_neg (by omega)]
  exact By (by omega)
theorem A7{σ:S}:∀ {F os:List O} {k:Nat} {u:List (Nat×O)},F.length=os.length->(∀ i,k<=i->∀ o,eN u i o=eN (fc k F) i o)->
 (∀ i (h:i<F.length),σ.obj [k+i,1]=some F[i])->qX σ u k os
 |[],[],_,_,_,_,_=>trivial
 |[],_::_,_,_,h,_,_=>by simp at h
 |_::_,[],_,_,h,_,_=>by simp at h
 |f::fs,o::os,k,u,h,hu,hs=>by
  refine⟨?_,A7 (F:=fs) (by simpa using h) (fun i hi x=>?_) fun i hi=>?_⟩
  ·have h0:=hs 0 (by simp)
   simp only[Nat.add_zero,List.getElem_cons_zero]at h0
   rw[h0,hu k (Nat.le_refl _) o]
   simp only[fc,eN,if_true]
   rw[By (by omega)]
  ·rw[hu i (by omega) x]
   simp only[fc,eN]
   rw[if_neg (by omega)]
  ·have:=hs (i+1) (by simpa using hi)
   rw[show k+1+i=k+(i+1)by omega]
   simpa using this
structure Lp where
 m:Nat
 env:List Name->List E
 fam:List Name->Nat->List O
 ps:List Nat
 asg:Code
 body:Code
 n:Nat
 vals:Nat->List D
 st:Nat->Option Code
 fu:Nat
structure Lp.Ok (r:Lp):Prop where
 len:∀ Ls s,Ls.length=r.m->(r.fam Ls s).length=r.m
 renE:∀ f Ls,Ls.length=r.m->(r.env Ls).map (E.ren f)=r.env (Ls.map f)
 renF:∀ f Ls s,Ls.length=r.m->(r.fam Ls s).map (O.ren f)=r.fam (Ls.map f) s
 reach:∀ Ls s obj acc k,Ls.length=r.m->Ls.Nodup->(∀ x∈Ls,x∉acc)->cY obj Ls (r.fam Ls s)->dJ obj (k+r.fu) (c7 ((r.env Ls).map (·.d))) acc=acc++Ls
 closE:∀ dom Ls,Ls.length=r.m->(∀ x∈Ls,dom x=true)->D.closL dom ((r.env Ls).map (·.d))=true
 closF:∀ dom Ls s,Ls.length=r.m->(∀ x∈Ls,dom x=true)->∀ o∈r.fam Ls s,O.clos dom o=true
 psz:∀ Ls,Ls.length=r.m->(r.ps.all fun p=>decide (p<(r.env Ls).length))=true
 args:∀ s,(r.vals s).length=r.ps.length
 fuel:r.fu<=2000
 vnam:∀ s,c7 (r.vals s)=[]
 vcl:∀ s dom,D.closL dom (r.vals s)=true
 vren:∀ s f,D.renL f (r.vals s)=r.vals s
 inj:∀ s s',s<r.n->s'<r.n->r.vals s=r.vals s'->s=s'
theorem RI(a b:List D):c7 (a++b)=c7 a++c7 b:=by
 induction a with
 |nil=>rfl
 |cons x r ih=>simp only[List.cons_append,c7,ih,List.append_assoc]
theorem XM(dom:Name->Bool)(a b:List D):D.closL dom (a++b)=(D.closL dom a&&D.closL dom b):=by
 induction a with
 |nil=>simp[D.closL]
 |cons x r ih=>simp only[List.cons_append,D.closL,ih,Bool.and_assoc]
noncomputable def Lp.y(r:Lp):YSpec where
 pre:=fun env ps asg body os ds=>∃ s,s<r.n/\(∀ j,j<s->r.st j=none)/\env=r.env (LR r.m)/\ps=r.ps/\asg=r.asg/\body=r.body/\os=r.fam (LR r.m) s/\ds=r.vals s
 out:=fun _ _ _ _ _ ds=>by
  classical exact if h:∃ s,s<r.n/\ds=r.vals s then(⟨fc 0 (r.fam (LR r.m) (h.choose+1)),[],.v (.bool true)⟩,r.st h.choose)else(⟨[],[],.any⟩,none)
theorem Lp.y_out{r:Lp}(hr:r.Ok){s:Nat}(hs:s<r.n)(env:List E)(ps:List Nat)(asg body:Code)(os:List O):
 r.y.out env ps asg body os (r.vals s)=(⟨fc 0 (r.fam (LR r.m) (s+1)),[],.v (.bool true)⟩,r.st s):=by
 have h:∃ s',s'<r.n/\r.vals s=r.vals s':=⟨s,hs,rfl⟩
 have e:h.choose=s:=(hr.inj _ _ hs h.choose_spec.1 h.choose_spec.2).symm
 simp only[Lp.y]
 rw[dif_pos h,e]
def QM(m:Nat)(F:List O)(p:Option Code):Exit->S->Prop
 | .normal,σ=>p=none/\cY σ.obj (LR m) F
 | .ret,σ=>p=some .ret/\cY σ.obj (LR m) F
 | .exit id,σ=>p=some (.exit id)/\cY σ.obj (LR m) F
 |_,_=>False
theorem W4{os F:List O}{σ:S}{m:Nat}(h1:os.length=m)(h2:F.length=m)(hc:∀ dom:Name->Bool,(∀ x∈LR m,dom x=true)->∀ o∈F,O.clos dom o=true)(h:cY σ.obj (LR m) F):
 gv os ⟨fc 0 F,[],.v (.bool true)⟩ σ:=by
 have mD:∀ i (hi:i<F.length),σ.obj [i,1]=some F[i]:=by
  rw[mg]at h
  intro i hi
  have h3:=congrArg (fun l=>l[i]?) h
  have bM:i<m:=by omega
  simpa[LR,hi,bM]using h3
 refine⟨A7 (F:=F) (by omega) (fun i _ o=>rfl) fun i hi=>by rw[Nat.zero_add];exact mD i hi,trivial,?_⟩
 have qi:∀ x∈LR m,di os.length [] x=true:=by
  intro x hx
  obtain⟨i,hi,rfl⟩:=List.mem_map.1 hx
  have :=List.mem_range.1 hi
  simp[di]
  omega
 have eG:∀ (F':List O) (k:Nat),(∀ o∈F',O.clos (di os.length []) o=true)->k+F'.length<=os.length->((fc k F').all fun x=>O.clos (di os.length []) x.2&&decide (x.1<os.length))=true:=by
  intro F'
  induction F' with
  |nil=>intros;rfl
  |cons f fs ih=>
   intro k hf hk
   simp only[List.length_cons]at hk
   simp only[fc,List.all_cons,Bool.and_eq_true,decide_eq_true_eq]
   exact⟨⟨hf f (by simp),by omega⟩,by have:=ih (k+1) (fun o ho=>hf o (by simp[ho])) (by omega);simpa using this⟩
 have :=eG F 0 (hc _ qi) (by omega)
 simp only[D.clos,this,List.all_nil,List.map_nil,distinct,Bool.and_self]
theorem Lp.y_sound{P:Program}{r:Lp}(hr:r.Ok)(h:∀ s,s<r.n->(∀ j,j<s->r.st j=none)->
 CW P r.asg ⟨(r.env (LR r.m)).length,pA (sc (r.env (LR r.m))) r.ps (r.vals s),a7 (r.fam (LR r.m) s),[0],0⟩ (G7 fun σ1=>CW P r.body σ1 (QM r.m (r.fam (LR r.m) (s+1)) (r.st s)))):aR P yid r.y.toSpec:=by
 refine ER ?_
 rintro env ps asg body os ds ⟨s,hs,hj,rfl,rfl,rfl,rfl,rfl,rfl⟩ _
 rw[Lp.y_out hr hs]
 refine CW.mono (h s hs hj) fun e σ hk=>?_
 cases e with
 |normal=>
  refine CW.mono hk fun e σ hk=>?_
  have fin:cY σ.obj (LR r.m) (r.fam (LR r.m) (s+1))->gv (r.fam (LR r.m) s) ⟨fc 0 (r.fam (LR r.m) (s+1)),[],.v (.bool true)⟩ σ:=
   W4 (hr.len _ _ (uI _)) (hr.len _ _ (uI _)) fun dom hd=>hr.closF dom _ _ (uI _) hd
  cases e with
  |normal=>exact⟨hk.1,fin hk.2⟩
  |ret=>exact⟨hk.1,fin hk.2⟩
  |exit id=>exact⟨hk.1,fin hk.2⟩
  |goto l=>exact hk.elim
  |panic c=>exact hk.elim
  |outgrown=>exact hk.elim
 |ret=>exact hk.elim
 |exit id=>exact hk.elim
 |goto l=>exact hk.elim
 |panic c=>exact hk.elim
 |outgrown=>exact hk.elim
def Lp.rc(r:Lp)(Ls:List Name)(st:LoopState)(pd:Option Code):O:=.loop (r.env Ls) r.ps r.asg r.body st pd
theorem Lp.y_app{r:Lp}(hr:r.Ok){s:Nat}(hs:s<r.n)(hj:∀ j,j<s->r.st j=none){obj:Name->Option O}{t R:Name}{Ls:List Name}(hl:Ls.length=r.m)(hn:Ls.Nodup)(hR:R∉Ls)
 (h0:obj R=some (r.rc Ls .ready none)) (hF:cY obj Ls (r.fam Ls s)):
 r.y.toSpec.app obj t (.yld R::r.vals s)=⟨True,.v (.bool (r.st s).isNone),upd (dV Ls (r.fam Ls (s+1)) obj) R (some (r.rc Ls (if (r.st s).isNone then .ready else .done) (r.st s)))⟩:=by
 have mv:reach obj (roots (r.env Ls) (r.vals s))=Ls:=by
  unfold reach roots
  rw[RI,hr.vnam,List.append_nil]
  have :=hr.reach Ls s obj [] (3000-r.fu) hl hn (fun _ _=>by simp) hF
  rwa [show 3000-r.fu+r.fu=3000 by have:=hr.fuel;omega]at this
 have e1:cJ obj (roots (r.env Ls) (r.vals s))=r.fam (LR r.m) s:=by
  unfold cJ
  rw[mv]
  have :Ls.map (cQ Ls obj)=(r.fam Ls s).map (O.ren (cin Ls)):=by
   rw[mg]at hF
   refine List.ext_getElem (by simp[hr.len _ _ hl,hl]) fun i h1 h2=>?_
   have h3:i<Ls.length:=by simpa using h1
   have h4:i<(r.fam Ls s).length:=by rw[hr.len _ _ hl,<-hl];exact h3
   have h5:=congrArg (fun l=>l[i]?) hF
   have h6:obj Ls[i]=some (r.fam Ls s)[i]:=by simpa[h3,h4]using h5
   simp only[List.getElem_map,cQ,h6]
  rw[this,hr.renF _ _ _ hl,DW hn,hl]
 have e2:hU obj (r.env Ls) (r.vals s)=r.env (LR r.m):=by
  unfold hU
  rw[mv,hr.renE _ _ hl,DW hn,hl]
 have e3:jj obj (r.env Ls) (r.vals s)=r.vals s:=by
  unfold jj
  exact hr.vren s _
 have e4:r.y.o obj (r.env Ls) r.ps r.asg r.body (r.vals s)=(⟨fc 0 (r.fam (LR r.m) (s+1)),[],.v (.bool true)⟩,r.st s):=by
  unfold YSpec.o
  rw[e1,e2,e3,Lp.y_out hr hs]
 have dZ:r.y.pre (r.env (LR r.m)) r.ps r.asg r.body (r.fam (LR r.m) s) (r.vals s):=⟨s,hs,hj,rfl,rfl,rfl,rfl,rfl,rfl⟩
 have cw:D.closL (cW Ls) (roots (r.env Ls) (r.vals s))=true:=by
  unfold roots
  rw[XM,hr.vcl,Bool.and_true]
  exact hr.closE _ _ hl fun x hx=>gS.2 hx
 have jx:shut obj Ls=true:=by
  unfold shut
  rw[List.all_eq_true]
  intro x hx
  obtain⟨i,hi,rfl⟩:=List.getElem_of_mem hx
  rw[mg]at hF
  have h4:i<(r.fam Ls s).length:=by rw[hr.len _ _ hl,<-hl];exact hi
  have h5:=congrArg (fun l=>l[i]?) hF
  have h6:obj Ls[i]=some (r.fam Ls s)[i]:=by simpa[hi,h4]using h5
  rw[h6]
  exact hr.closF _ _ _ hl (fun x hx=>gS.2 hx) _ (List.getElem_mem h4)
 have UZ:cW Ls R=false:=by
  cases h:cW Ls R with
  |false=>rfl
  |true=>exact(hR (gS.1 h)).elim
 have hp:cE Ls t (fc 0 (r.fam (LR r.m) (s+1))) obj=dV Ls (r.fam Ls (s+1)) obj:=by
  rw[AS (Ls:=Ls) (by rw[hr.len _ _ (uI _),hl]) fun i hi=>by rw[Nat.zero_add];exact kS hi,hr.renF _ _ _ (uI _)]
  have :(LR r.m).map (cout Ls t)=Ls:=by rw[<-hl];exact XE Ls t
  rw[this]
 unfold Lp.rc at h0
 simp only[YSpec.toSpec,h0,e1,e2,e3,e4,mv,cw,jx,UZ,fresh,List.all_nil,Bool.and_self,Bool.not_false,hr.args,decide_true,hr.psz Ls hl,dZ,du,hp,and_self]
 rfl
def Lp.e(r:Lp):Nat:=match (List.range r.n).find? (fun s=>(r.st s).isSome)with | some s=>s+1 | none=>r.n
def Lp.pd(r:Lp):Option Code:=match (List.range r.n).find? (fun s=>(r.st s).isSome)with | some s=>r.st s | none=>none
def Lp.fin(r:Lp)(Ls:List Name):O:=r.rc Ls (if r.pd.isNone then .ready else .done) r.pd
def Lp.it(r:Lp)(dP:List V):CSpec where
 pre:=fun os ds=>os=r.rc (LI r.m) .ready none::r.fam (LI r.m) 0/\ds=.yld [0,1]::dP.map .v
 out:=fun _ _=>⟨(0,r.fin (LI r.m))::fc 1 (r.fam (LI r.m) r.e),[],.tup []⟩
theorem Lp.it_end{P:Program}{r:Lp}(hr:r.Ok){σ:S}(h0:σ.obj [0,1]=some (r.fin (LI r.m)))(h1:cY σ.obj (LI r.m) (r.fam (LI r.m) r.e)):
 (bW P σ []).ok/\(bW P σ []).d=.tup []/\gv (r.rc (LI r.m) .ready none::r.fam (LI r.m) 0) ⟨(0,r.fin (LI r.m))::fc 1 (r.fam (LI r.m) r.e),[],.tup []⟩ σ:=by
 have U8:=hr.len (LI r.m) 0 (gN _)
 have hle:=hr.len (LI r.m) r.e (gN _)
 have mD:∀ i (hi:i<(r.fam (LI r.m) r.e).length),σ.obj [1+i,1]=some (r.fam (LI r.m) r.e)[i]:=by
  intro i hi
  have h3:=A9 h1 i (by rw[gN];omega) hi
  rw[Nat.add_comm]
  simpa only[LI,List.getElem_map,List.getElem_range]using h3
 have qi:∀ x∈LI r.m,di (r.m+1) [] x=true:=by
  intro x hx
  obtain⟨i,hi,rfl⟩:=List.mem_map.1 hx
  have :=List.mem_range.1 hi
  simp[di]
  omega
 refine⟨fun x hx=>by simp at hx,rfl,⟨⟨?_,A7 (F:=r.fam (LI r.m) r.e) (by omega) (fun i hi o=>by simp only[eN];rw[if_neg (by omega)]) mD⟩,trivial,?_⟩⟩
 ·simp only[eN,if_true]
  rw[h0,By (by omega)]
 have eG:∀ (F':List O) (k:Nat),(∀ o∈F',O.clos (di (r.m+1) []) o=true)->k+F'.length<=r.m+1->((fc k F').all fun x=>O.clos (di (r.m+1) []) x.2&&decide (x.1<r.m+1))=true:=by
  intro F'
  induction F' with
  |nil=>intros;rfl
  |cons f fs ih=>
   intro k hf hk
   simp only[List.length_cons]at hk
   simp only[fc,List.all_cons,Bool.and_eq_true,decide_eq_true_eq]
   exact⟨⟨hf f (by simp),by omega⟩,by have:=ih (k+1) (fun o ho=>hf o (by simp[ho])) (by omega);simpa using this⟩
 have h5:=eG (r.fam (LI r.m) r.e) 1 (hr.closF _ _ _ (gN _) qi) (by omega)
 have h6:O.clos (di (r.m+1) []) (r.fin (LI r.m))=true:=hr.closE _ _ (gN _) qi
 have hlen:(r.rc (LI r.m) .ready none::r.fam (LI r.m) 0).length=r.m+1:=by rw[List.length_cons,U8]
 have h7:D.clos (di (r.m+1) []) (.tup [])=true:=rfl
 simp only[hlen,h7,List.all_cons,h6,h5,List.all_nil,List.map_nil,distinct,Bool.and_self,Bool.true_and,Bool.and_true]
 simp
structure zW (r:Lp) (dP:List Name->List D):Prop where
 ren:∀ f Ls,Ls.length=r.m->D.renL f (dP Ls)=dP (Ls.map f)
 clo:∀ dom Ls,Ls.length=r.m->(∀ x∈Ls,dom x=true)->D.closL dom (dP Ls)=true
 reach:∀ Ls s obj R k,Ls.length=r.m->(R::Ls).Nodup->cY obj Ls (r.fam Ls s)->obj R=some (r.rc Ls .ready none)->dJ obj (k+r.fu+1) (R::c7 (dP Ls)) []=R::Ls
def Lp.itC(r:Lp)(dP:List Name->List D):CSpec where
 pre:=fun os ds=>os=r.rc (LI r.m) .ready none::r.fam (LI r.m) 0/\ds=.yld [0,1]::dP (LI r.m)
 out:=fun _ _=>⟨(0,r.fin (LI r.m))::fc 1 (r.fam (LI r.m) r.e),[],.tup []⟩
theorem Lp.itC_app{r:Lp}(hr:r.Ok){dP:List Name->List D}(v8:zW r dP){obj:Name->Option O}{t R:Name}{Ls:List Name}(hl:Ls.length=r.m)(hn:Ls.Nodup)(hR:R∉Ls)
 (h0:obj R=some (r.rc Ls .ready none)) (hF:cY obj Ls (r.fam Ls 0)):
 (r.itC dP).toSpec.app obj t (.yld R::dP Ls)=⟨True,.tup [],dV Ls (r.fam Ls r.e) (upd obj R (some (r.fin Ls)))⟩:=by
 have yh:(R::Ls).Nodup:=List.nodup_cons.2 ⟨hR,hn⟩
 have mv:reach obj (.yld R::dP Ls)=R::Ls:=by
  unfold reach
  have :=v8.reach Ls 0 obj R (2999-r.fu) hl yh hF h0
  rw[show 2999-r.fu+r.fu+1=3000 by have:=hr.fuel;omega]at this
  exact this
 have VS:∀ s,cY obj Ls (r.fam Ls s)->Ls.map (cQ (R::Ls) obj)=(r.fam Ls s).map (O.ren (cin (R::Ls))):=by
  intro s hF
  rw[mg]at hF
  refine List.ext_getElem (by simp[hr.len _ _ hl,hl]) fun i h1 h2=>?_
  have h3:i<Ls.length:=by simpa using h1
  have h4:i<(r.fam Ls s).length:=by rw[hr.len _ _ hl,<-hl];exact h3
  have h5:=congrArg (fun l=>l[i]?) hF
  have h6:obj Ls[i]=some (r.fam Ls s)[i]:=by simpa[h3,h4]using h5
  simp only[List.getElem_map,cQ,h6]
 have e1:cJ obj (.yld R::dP Ls)=r.rc (LI r.m) .ready none::r.fam (LI r.m) 0:=by
  unfold cJ
  rw[mv,List.map_cons,VS 0 hF,hr.renF _ _ _ hl,DV hn hR,hl]
  congr 1
  unfold Lp.rc at h0 |-
  simp only[cQ,h0,O.ren]
  rw[hr.renE _ _ hl,DV hn hR,hl]
 have e2:db obj (.yld R::dP Ls)=.yld [0,1]::dP (LI r.m):=by
  unfold db
  rw[mv]
  simp only[D.renL,D.ren,v8.ren _ _ hl]
  rw[DV hn hR,hl]
  simp only[cin,idx,if_true]
 have dZ:(r.itC dP).pre (r.rc (LI r.m) .ready none::r.fam (LI r.m) 0) (.yld [0,1]::dP (LI r.m)):=⟨rfl,rfl⟩
 have i5:∀ os ds,(r.itC dP).out os ds=⟨(0,r.fin (LI r.m))::fc 1 (r.fam (LI r.m) r.e),[],.tup []⟩:=fun _ _=>rfl
 have Cy:∀ x∈Ls,cW (R::Ls) x=true:=fun x hx=>gS.2 (List.mem_cons_of_mem _ hx)
 have jx:shut obj (R::Ls)=true:=by
  unfold shut
  rw[List.all_eq_true]
  intro x hx
  rcases List.mem_cons.1 hx with rfl | hx
  ·rw[h0]
   unfold Lp.rc
   exact hr.closE _ _ hl Cy
  obtain⟨i,hi,rfl⟩:=List.getElem_of_mem hx
  rw[mg]at hF
  have h4:i<(r.fam Ls 0).length:=by rw[hr.len _ _ hl,<-hl];exact hi
  have h5:=congrArg (fun l=>l[i]?) hF
  have h6:obj Ls[i]=some (r.fam Ls 0)[i]:=by simpa[hi,h4]using h5
  rw[h6]
  exact hr.closF _ _ _ hl Cy _ (List.getElem_mem h4)
 have cw:D.closL (cW (R::Ls)) (.yld R::dP Ls)=true:=by
  show (cW (R::Ls) R&&D.closL _ _)=true
  rw[v8.clo _ _ hl Cy]
  simp[cW]
 have hp:∀ obj',cE (R::Ls) t (fc 1 (r.fam (LI r.m) r.e)) obj'=dV Ls (r.fam Ls r.e) obj':=by
  intro obj'
  rw[AS (Ls:=Ls) (by rw[hr.len _ _ (gN _),hl]) fun i hi=>by
   rw[Nat.add_comm,List.getD_cons_succ];exact kS hi,hr.renF _ _ _ (gN _)]
  have :(LI r.m).map (cout (R::Ls) t)=Ls:=by rw[<-hl];exact Mg R Ls t
  rw[this]
 have hf:O.ren (cout (R::Ls) t) (r.fin (LI r.m))=r.fin Ls:=by
  unfold Lp.fin Lp.rc
  simp only[O.ren]
  rw[hr.renE _ _ (gN _)]
  have :(LI r.m).map (cout (R::Ls) t)=Ls:=by rw[<-hl];exact Mg R Ls t
  rw[this]
 simp only[CSpec.toSpec,e1,e2,mv,i5,jx,cw,fresh,List.all_nil,Bool.and_self,dZ,and_self,du,cE,List.getD_cons_zero,hf,hp,D.ren,D.renL]
theorem Mo{P:Program}{r:Lp}(hr:r.Ok){dP:List Name->List D}(v8:zW r dP){g:Operand}{ps:Array Tmp}{asg body:Code}{σ:S}{rest:List Code}{K:Exit->S->Prop}(k k':Nat){f:FuncId}{Ls:List Name}
 (hc:cR σ g=true) (hg:aq σ g=.clo (.func f) [] (dP Ls)) (aE:f≠yid) (hs:aR P f (r.itC dP).toSpec) (rJ:σ.obj (k::σ.pre)=none)
 (he:(List.range σ.nt).map σ.env=r.env Ls) (gl:ps.toList=r.ps) (ha:asg=r.asg) (hb:body=r.body) (hl:Ls.length=r.m) (hn:Ls.Nodup) (hR:(k::σ.pre)∉Ls) (hF:cY σ.obj Ls (r.fam Ls 0))
 (hK:∀ o:O,xr (jl (fun σ'=>CL P rest σ' K) K) { σ with obj:=upd (dV Ls (r.fam Ls r.e) σ.obj) (k::σ.pre) (some o) } r.pd):CL P (.rangeFunc g ps asg body::rest) σ K:=by
 subst ha
 subst hb
 generalize wi:k::σ.pre=R at *
 have V5:∀ x∈Ls,(upd σ.obj R (some (r.rc Ls .ready none))) x=σ.obj x:=fun x hx=>a8 _ _ _ (by rintro rfl;exact hR hx)
 have yz:=Lp.itC_app hr v8 (t:=k'::σ.pre) hl hn hR (aS σ.obj R (some (r.rc Ls .ready none))) (A' hF V5)
 have J9:O.loop ((List.range σ.nt).map σ.env) ps.toList r.asg r.body .ready none=r.rc Ls .ready none:=by unfold Lp.rc;rw[he,gl]
 have oM:eK (aq σ g) [.yld R]=.yld R::dP Ls:=by rw[hg];rfl
 have fo:ga (aq σ g)=some f:=by rw[hg];simp[ga,aE]
 have UC:∀ (F:List O) (obj:Name->Option O) (a b:Option O),upd (dV Ls F (upd obj R a)) R b=upd (dV Ls F obj) R b:=by
  intro F obj a b
  funext x
  by_cases h:x=R
  ·subst h;rw[aS,aS]
  ·rw[a8 _ _ _ h,a8 _ _ _ h]
   have :∀ (Ls:List Name) (F:List O) (o1 o2:Name->Option O),o1 x=o2 x->dV Ls F o1 x=dV Ls F o2 x:=by
    intro Ls
    induction Ls with
    |nil=>intro F o1 o2 h;simpa[dV]using h
    |cons y ys ih=>
     intro F o1 o2 h
     cases F with
     |nil=>simpa[dV]using h
     |cons f fs=>
      simp only[dV]
      refine ih fs _ _ ?_
      by_cases e:x=y
      ·subst e;rw[aS,aS]
      ·rw[a8 _ _ _ e,a8 _ _ _ e,h]
   exact this Ls F _ _ (a8 _ _ _ h)
 refine X9 (Γ:=fun x=>if x=f then some (r.itC dP).toSpec else none) (fun x s hx=>by
  split at hx
  ·rename_i e;cases hx;subst e;exact hs
  ·cases hx) k k' hc fo aE (if_pos rfl) (by rw[wi];exact rJ) ?_ ?_
 ·rw[wi,oM,J9,yz];trivial
 ·rw[wi,oM,J9,yz]
  have mE:dV Ls (r.fam Ls r.e) (upd (upd σ.obj R (some (r.rc Ls .ready none))) R (some (r.fin Ls))) R=some (r.fin Ls):=by rw[vd hR,aS]
  have rD:l7 (dV Ls (r.fam Ls r.e) (upd (upd σ.obj R (some (r.rc Ls .ready none))) R (some (r.fin Ls)))) R=
      upd (dV Ls (r.fam Ls r.e) σ.obj) R (some (r.rc Ls .exhausted r.pd)):=by
   unfold l7
   rw[mE]
   unfold Lp.fin Lp.rc
   simp only[UC]
  refine Su r.pd mE ?_
  rw[rD]
  exact hK (r.rc Ls .exhausted r.pd)
theorem N'{σ:S}(b nm:Name)(i k sz:Nat)(cs:List D)(L:List V)(hb:σ.obj b=some (.box cs))(hi:cs[i]?=some (.msl nm k))(hn:σ.obj nm=some (.arr sz L))(hk:k=L.length):
 gM σ ⟨σ.nt,σ.env,upd (upd σ.obj nm (some (.farr sz L))) b (some (.box (cs.set i (.v (.sl L))))),σ.pre,σ.base⟩:=by
 intro G φ m a w hC
 have aE:b≠nm:=fun e=>by subst e;rw[hb]at hn;cases hn
 obtain⟨h1,h2,h3,us,T,f,h4,h5,h6,h7⟩:=hC.objs b _ hb
 obtain⟨i7,CA⟩:=List.getElem?_eq_some_iff.1 hi
 have h0:i<us.size:=by omega
 have h8:=h7 i i7 h0
 rw[CA]at h8
 have cP:aL 6 σ.obj (.msl nm k)=⟨k=L.length,.sl L,upd σ.obj nm (some (.farr sz L))⟩:=by simp only[aL,hn]
 obtain⟨m2,k1,k2,k3,k4,_⟩:=oR 6 _ _ _ _ _ _ hC _ _ h8 (by rw[cP];exact hk)
 rw[cP]at k2 k3 k4
 simp only at k2 k3 k4
 have dh:(upd σ.obj nm (some (.farr sz L))) b=some (.box cs):=by rw[a8 _ _ _ aE];exact hb
 have p6:=Ext.same (φ:=φ) (o':=.box (cs.set i (.v (.sl L)))) dh rfl rfl
 have JZ:=p6
 rw[fJ]at JZ
 refine⟨_,m2,k2.chg (w':=w) b (.box (cs.set i (.v (.sl L)))) _ p6 ⟨rfl,rfl,rfl,Nat.le_refl _⟩ (fun _ _ _=>rfl) (fun _=>.inr ⟨⟨_,dh,rfl,h2⟩,rfl⟩) ?_⟩
 rw[fJ]
 refine⟨h1,h2,fun d hd=>?_,us,T,f,h4,h5,by simpa using h6,fun j hj eB=>?_⟩
 ·rcases List.mem_or_eq_of_mem_set hd with h | h
  ·exact h3 d h
  ·subst h;rfl
 ·simp only[List.length_set]at hj
  rw[List.getElem_set]
  by_cases bD:i=j
  ·subst bD
   rw[if_pos rfl]
   exact .v _ _ k4
  ·rw[if_neg bD]
   exact((h7 j hj eB).ext k1 k3).ext (Mem.le_refl m2) JZ
theorem z6{σ τ:S}(b nm:Name)(i k sz:Nat)(cs:List D)(L:List V)(hb:σ.obj b=some (.box cs))(hi:cs[i]?=some (.msl nm k))(hn:σ.obj nm=some (.arr sz L))(hk:k=L.length)(ks:List Nat)(ns:List Name)
 (h:gY ks ns ⟨σ.nt,σ.env,upd (upd σ.obj nm (some (.farr sz L))) b (some (.box (cs.set i (.v (.sl L))))),σ.pre,σ.base⟩)
 (gp:iw ks ns ⟨σ.nt,σ.env,upd (upd σ.obj nm (some (.farr sz L))) b (some (.box (cs.set i (.v (.sl L))))),σ.pre,σ.base⟩=τ):gM σ τ:=
 (N' b nm i k sz cs L hb hi hn hk).trans (sM ks ns h gp)
set_option maxHeartbeats 8000000
noncomputable section
@[go_sem] def P184:PSpec:=p2 cH iI (fun _ _=>True) (fun l v=>vInt (dE (fun x=>v==x) l)) true
@[go_sem] def ZB:Spec:=P184.toSpec
theorem P1:aN Tryz.prog 184 P184:=by
 refine cX (rs:=[.tmp 4]) Tryz.func184 Tryz.ntmps184 fun l v hp hw=>?_
 simp only[iI,cH]at hw |-
 have hΓ:=@fg Tryz.prog
 have hl:l.length<=maxLen:=by have:=hw.1.1;simpa using this
 repeat refine sq ?_
 refine rx hΓ [0,1] [] (fun K' hK=>by simp only[go_sem];exact ak) ?_
 repeat refine sq ?_
 refine rx hΓ [0,1,7,8] [] (fun K' hK=>by simp only[go_sem];exact ak) ?_
 repeat refine sq ?_
 refine aH ?_
 repeat refine sq ?_
 refine bB (fun s:Nat=>[(8,⟨true,.v (vInt s)⟩)]) (fun s=>[]) (fun s=>s<=l.length/\∀ k (h:k<l.length),k<s->(fun x:Int=>v==x) l[k]=false) (fun s=>l.length-s) 0 ?_ ?_ ?_ ?_
 ·exact⟨Nat.zero_le _,by simp⟩
 ·rfl
 ·rfl
 rintro i ⟨hi,hR⟩
 simp only[go_sem]
 repeat refine sq ?_
 refine rx hΓ [0,1,7,8,9] [] (fun K' hK=>by simp only[go_sem];exact ak) ?_
 repeat refine sq ?_
 refine av (fun hb=>?_) fun hb=>?_
 ·have ab:i<l.length:=by simpa using hb
  have an:(i:Int)<l.length:=by omega
  clear hb
  repeat refine sq ?_
  refine ax ?_
  repeat refine sq ?_
  refine aH ?_
  repeat refine sq ?_
  refine rx hΓ [0,1,5,7,8] [] (fun K' hK=>by simp only[go_sem,ae ab,ah,ai,an];exact ak) ?_
  repeat refine sq ?_
  refine rx hΓ [0,1,5,7,8,16] [] (fun K' hK=>by simp only[go_sem,ae ab,ah,ai,an];exact ak) ?_
  repeat refine sq ?_
  refine av (fun hb=>?_) fun hb=>?_
  ·repeat refine sq ?_
   refine rx hΓ [4] [] (fun K' hK=>by simp only[go_sem,ae ab,ah,ai,an];exact ak) ?_
   refine au ?_
   simp only[go_sem]
   rw[rm (p:=fun x=>v==x) ab (by simpa using hb) hR]
  ·repeat refine sq ?_
   refine ax ?_
   refine bE ?_
   simp only[go_sem]
   refine kp [0,1,7,8] [] ?_
   repeat refine sq ?_
   refine aM hΓ fun K' hK=>?_
   simp only[go_sem,ae ab,ah,ai,an]
   repeat (refine⟨ao,?_⟩)
   refine hK _ ?_
   clear K' hK
   simp only[go_sem]
   refine⟨i+1,⟨ab,?_⟩,by(show l.length-(i+1)<l.length-i;omega),?_⟩
   ·intro k hk eA
    rcases Nat.lt_succ_iff_lt_or_eq.1 eA with h5 | rfl
    ·exact hR k hk h5
    ·simpa using hb
   refine aY [0,1,7,8] [] ?_ ?_<;>simp only[go_sem,aT ab hl,aU]
 ·have be:i=l.length:=by
   have :¬ (i:Int)<l.length:=by simpa using hb
   omega
  clear hb
  subst be
  repeat refine sq ?_
  refine bp ?_
  simp only[go_sem]
  refine kp [] [] ?_
  repeat refine sq ?_
  refine rx hΓ [4] [] (fun K' hK=>by simp only[go_sem];exact ak) ?_
  refine au ?_
  simp only[go_sem]
  rw[vC (p:=fun x=>v==x) fun k hk=>hR k hk hk]
def K18a:List (Nat×Spec):=[(184,ZB)]
theorem aa5:KS K18a:=tc P1.sound<|tn
attribute [go_sem] K18a
theorem YT(l:List Int)(v:Int):(l.any fun x=>v==x)=l.contains v:=(List.contains_eq_any_beq (l:=l) (a:=v)).symm
@[go_sem] def P108:PSpec:=p2 cH iI (fun _ _=>True) (fun l v=>.bool (l.contains v)) true
@[go_sem] def wO:Spec:=P108.toSpec
theorem xh:aN Tryz.prog 108 P108:=by
 refine cX (rs:=[.tmp 4]) Tryz.func108 Tryz.ntmps108 fun l v hp hw=>?_
 simp only[iI,cH]at hw |-
 have hΓ:=aa5
 repeat refine sq ?_
 refine rx hΓ [0,1] [] (fun K' hK=>by simp only[go_sem];exact ak) ?_
 repeat refine sq ?_
 refine rx hΓ [4] [] (fun K' hK=>by simp only[go_sem,true_or,vD,YT];exact ak) ?_
 refine au ?_
 simp only[go_sem]
 all_goals exact c9
def K18b:List (Nat×Spec):=[(108,wO),(150,EA)]
theorem EO:KS K18b:=tc xh.sound<|tc Ay.sound<|tn
attribute [go_sem] K18b
def BQ:En (List Int):=⟨fun l=>.ptr [.sl (l.map vInt)],fun v=>match v with | .ptr [.sl l]=>l.map jJ | _=>[]⟩
attribute [go_sem] BQ
@[go_sem] def P194:PSpec:=p2 iI BQ (fun _ _=>True) (fun n l=>.bool (l.contains n)) true
@[go_sem] def No:Spec:=P194.toSpec
theorem PW:aN Tryz.prog 194 P194:=by
 refine cX (rs:=[.tmp 3]) Tryz.func194 Tryz.ntmps194 fun n l hp hw=>?_
 simp only[iI,BQ]at hw |-
 have hΓ:=EO
 repeat refine sq ?_
 refine rx hΓ [0,1] [] (fun K' hK=>by simp only[go_sem];exact ak) ?_
 repeat refine sq ?_
 refine rx hΓ [3] [] (fun K' hK=>by simp only[go_sem];exact ak) ?_
 refine au ?_
 simp only[go_sem]
 all_goals exact c9
@[go_sem] def P161:PSpec:=p1 iI (fun _=>True) (fun n=>.bool (!dayB n)) true
@[go_sem] def Nu:Spec:=P161.toSpec
theorem P9:aN Tryz.prog 161 P161:=by
 refine dQ (rs:=[.tmp 2]) Tryz.func161 Tryz.ntmps161 fun n hp hw=>?_
 simp only[iI]at hw |-
 have hΓ:=EO
 repeat refine sq ?_
 refine rx hΓ [0] [] (fun K' hK=>by simp only[go_sem];exact ak) ?_
 repeat refine sq ?_
 refine rx hΓ [2] [] (fun K' hK=>by simp only[go_sem];exact ak) ?_
 refine au ?_
 simp only[go_sem]
 all_goals exact c9
@[go_sem] def P185:PSpec:=p1 iI (fun _=>True) (fun n=>.bool (!dayB n)) true
@[go_sem] def Np:Spec:=P185.toSpec
theorem P0:aN Tryz.prog 185 P185:=by
 refine dQ (rs:=[.tmp 2]) Tryz.func185 Tryz.ntmps185 fun n hp hw=>?_
 simp only[iI]at hw |-
 have hΓ:=EO
 repeat refine sq ?_
 refine rx hΓ [0] [] (fun K' hK=>by simp only[go_sem];exact ak) ?_
 repeat refine sq ?_
 refine rx hΓ [2] [] (fun K' hK=>by simp only[go_sem];exact ak) ?_
 refine au ?_
 simp only[go_sem]
 all_goals exact c9
def vF:En (Nat×List V):=⟨fun g=>.clo (.func g.1) [] g.2,fun v=>match v with | .clo (.func g) _ cs=>(g,cs) | _=>(0,[])⟩
def pG:Nat×List V->Int->Bool
 |(194,[.ptr [.sl l]]),x=>(l.map jJ).contains x
 |_,x=>!dayB x
def xy(g:Nat×List V):Prop:=g=(161,[])\/g=(185,[])\/∃ lv:List Int,g=(194,[.ptr [.sl (lv.map vInt)]])
def K18c:List (Nat×Spec):=[(194,No),(161,Nu),(185,Np)]
theorem aa4:KS K18c:=tc PW.sound<|tc P9.sound<|tc P0.sound<|tn
attribute [go_sem] K18c
def NN:FuncId->Option Spec:=tbl K18c
theorem aa2:∀ f s,NN f=some s->aR Tryz.prog f s:=aa4
theorem Rp{g:Nat×List V}(h:xy g):∃ s,NN g.1=some s/\(¬ g.1=1000000000)/\∀ obj t x,s.app obj t (.v (vInt x)::g.2.map .v)=⟨True,.v (.bool (pG g x)),obj⟩:=by
 rcases h with rfl | rfl | ⟨lv,rfl⟩
 ·exact⟨Nu,rfl,by decide,fun obj t x=>by simp only[go_sem,List.map_nil];rfl⟩
 ·exact⟨Np,rfl,by decide,fun obj t x=>by simp only[go_sem,List.map_nil];rfl⟩
 ·exact⟨No,rfl,(show ¬ (194:Nat)=1000000000 by decide),fun obj t x=>by simp only[go_sem,List.map_cons,List.map_nil,oY,pG]⟩
@[go_sem] def P192:PSpec:=p2 cH vF (fun _ g=>xy g) (fun l g=>vInt (dE (pG g) l)) true
@[go_sem] def Zy:Spec:=P192.toSpec
theorem PX:aN Tryz.prog 192 P192:=by
 refine cX (rs:=[.tmp 4]) Tryz.func192 Tryz.ntmps192 fun l g hp hw=>?_
 simp only[vF,cH]at hw |-
 have hΓ:=aa2
 have hl:l.length<=maxLen:=by have:=hw.1.1;simpa using this
 obtain⟨s_,hs,hy,ha⟩:=Rp hp
 repeat refine sq ?_
 refine rx hΓ [0,1] [] (fun K' hK=>by simp only[go_sem];exact ak) ?_
 repeat refine sq ?_
 refine rx hΓ [0,1,7,8] [] (fun K' hK=>by simp only[go_sem];exact ak) ?_
 repeat refine sq ?_
 refine aH ?_
 repeat refine sq ?_
 refine bB (fun s:Nat=>[(8,⟨true,.v (vInt s)⟩)]) (fun s=>[]) (fun s=>s<=l.length/\∀ k (h:k<l.length),k<s->pG g l[k]=false) (fun s=>l.length-s) 0 ?_ ?_ ?_ ?_
 ·exact⟨Nat.zero_le _,by simp⟩
 ·rfl
 ·rfl
 rintro i ⟨hi,hR⟩
 simp only[go_sem]
 repeat refine sq ?_
 refine rx hΓ [0,1,7,8,9] [] (fun K' hK=>by simp only[go_sem];exact ak) ?_
 repeat refine sq ?_
 refine av (fun hb=>?_) fun hb=>?_
 ·have ab:i<l.length:=by simpa using hb
  have an:(i:Int)<l.length:=by omega
  clear hb
  repeat refine sq ?_
  refine ax ?_
  repeat refine sq ?_
  refine aH ?_
  repeat refine sq ?_
  refine rx hΓ [0,1,5,7,8] [] (fun K' hK=>by simp only[go_sem,ae ab,ah,ai,an];exact ak) ?_
  repeat refine sq ?_
  refine rx hΓ [0,1,5,7,8,16] [] (fun K' hK=>by simp only[go_sem,ae ab,ah,ai,an,hs,hy,ha];exact ak) ?_
  repeat refine sq ?_
  refine av (fun hb=>?_) fun hb=>?_
  ·repeat refine sq ?_
   refine rx hΓ [4] [] (fun K' hK=>by simp only[go_sem,ae ab,ah,ai,an];exact ak) ?_
   refine au ?_
   simp only[go_sem]
   rw[rm (p:=pG g) ab (by simpa using hb) hR]
  ·repeat refine sq ?_
   refine ax ?_
   refine bE ?_
   simp only[go_sem]
   refine kp [0,1,7,8] [] ?_
   repeat refine sq ?_
   refine aM hΓ fun K' hK=>?_
   simp only[go_sem,ae ab,ah,ai,an]
   repeat (refine⟨ao,?_⟩)
   refine hK _ ?_
   clear K' hK
   simp only[go_sem]
   refine⟨i+1,⟨ab,?_⟩,by(show l.length-(i+1)<l.length-i;omega),?_⟩
   ·intro k hk eA
    rcases Nat.lt_succ_iff_lt_or_eq.1 eA with h5 | rfl
    ·exact hR k hk h5
    ·simpa using hb
   refine aY [0,1,7,8] [] ?_ ?_<;>simp only[go_sem,aT ab hl,aU]
 ·have be:i=l.length:=by
   have :¬ (i:Int)<l.length:=by simpa using hb
   omega
  clear hb
  subst be
  repeat refine sq ?_
  refine bp ?_
  simp only[go_sem]
  refine kp [] [] ?_
  repeat refine sq ?_
  refine rx hΓ [4] [] (fun K' hK=>by simp only[go_sem];exact ak) ?_
  refine au ?_
  simp only[go_sem]
  rw[vC (p:=pG g) fun k hk=>hR k hk hk]
def K18d:List (Nat×Spec):=[(192,Zy)]
theorem aa3:KS K18d:=tc PX.sound<|tn
attribute [go_sem] K18d
@[go_sem] def P160:PSpec:=p2 cH vF (fun _ g=>xy g) (fun l g=>.bool (l.any (pG g))) true
@[go_sem] def S160:Spec:=P160.toSpec
theorem P':aN Tryz.prog 160 P160:=by
 refine cX (rs:=[.tmp 4]) Tryz.func160 Tryz.ntmps160 fun l g hp hw=>?_
 simp only[vF,cH]at hw |-
 have hΓ:=aa3
 repeat refine sq ?_
 refine rx hΓ [0,1] [] (fun K' hK=>by simp only[go_sem];exact ak) ?_
 repeat refine sq ?_
 refine rx hΓ [4] [] (fun K' hK=>by simp only[go_sem,true_or,vD,hp];exact ak) ?_
 refine au ?_
 simp only[go_sem]
 all_goals exact c9
theorem JJ:aR Tryz.prog 160 S160:=P'.sound
end
noncomputable section
structure nP (x:Vw):Prop where
 ok:bx x.l
 bk:∀ q i,bK x.bk q=some i->0<=i/\i<x.l.ts.length
 rs:∀ r∈x.rs,dd r=true
 rn:x.rs.length<=60
 tn:x.ts.length<=60
 ts:∀ i∈x.ts,0<=i/\i<x.l.ts.length
theorem Gw{r:Rec}(h:dd r=true):0<r.lv.length/\r.lv.length<=30:=by
 unfold dd at h
 simp only[Bool.and_eq_true]at h
 exact⟨(mj.1 h.1.1.2).1,(mj.1 h.1.1.2).2.1⟩
theorem Gx{r:Rec}(h:dd r=true):0<=r.da/\r.da<=100000:=by
 unfold dd at h
 simp only[Bool.and_eq_true]at h
 have :=h.1.2
 unfold dayB cj at this
 simpa using this
theorem QN{r:Ret}(h:gA r=true):0<r.lv.length/\r.lv.length<=30:=by
 unfold gA at h
 simp only[Bool.and_eq_true]at h
 exact⟨(mj.1 h.1.1.1.2).1,(mj.1 h.1.1.1.2).2.1⟩
theorem uL{d:Int}(h:0<=d/\d<=100000):IntKind.i64.wrap (d+1)=d+1:=wrap_i64 (by omega) (by omega)
theorem jQ{l:Led}{i:Nat}(h:i<l.ts.length):aK l i=l.ts[i]:=by unfold aK;exact ck h
theorem bx.recs{l:Led}(h:bx l):∀ r∈l.rs,dd r=true:=fun r hr=>by
 obtain⟨j,hj,rfl⟩:=List.getElem_of_mem hr
 exact nL h.rs hj
theorem bx.rets{l:Led}(h:bx l){i:Nat}(hi:i<l.ts.length):gA (aK l i)=true:=by
 rw[jQ hi]
 exact nL h.ts hi
def si(x:Vw)(a b:Rec)(f:Int):Bool:=(a.pa==b.pa&&b.lv.contains f)&&(a.da==b.da||match bK x.bk (a.so,f)with
 |none=>true
 |some i=>decide (cg (aK x.l i.toNat).lo (a.da+1)>b.da))
theorem DH(x:Vw)(a b:Rec):um x a b=a.lv.any (si x a b):=rfl
theorem M6{α:Type}{p:α->Bool}{l:List α}{i:Nat}(h:i<l.length)(hp:p l[i]=true):l.any p=true:=List.any_eq_true.2 ⟨_,List.getElem_mem h,hp⟩
theorem YS{α:Type}{p:α->Bool}{l:List α}(h:∀ k (hk:k<l.length),p l[k]=false):l.any p=false:=by
 rw[List.any_eq_false]
 intro x hx
 obtain⟨k,hk,rfl⟩:=List.getElem_of_mem hx
 rw[h k hk];decide
theorem Ac{l:Led}{i:Int}(h0:0<=i)(h:i<l.ts.length):(l.ts.map fv).getD i.toNat default=fv (aK l i.toNat):=by
 have h':i.toNat<l.ts.length:=by omega
 rw[ae h',jQ h']
def pQ(a b:Rec):Rec:=if a.da>b.da then b else a
def kf(a b:Rec):Rec:=if a.da>b.da then a else b
theorem Xq(x:Vw)(a b:Rec):gK x a b=um x (pQ a b) (kf a b):=by
 unfold gK pQ kf
 split<;>rfl
theorem R3{a b:Rec}(ha:dd a=true)(hb:dd b=true):dd (pQ a b)=true/\dd (kf a b)=true:=by
 unfold pQ kf
 split
 ·exact⟨hb,ha⟩
 ·exact⟨ha,hb⟩
def sp(r:Rec):List D:=[.v (vInt r.so),.v (vInt r.bo),.v (vInt r.pa),.v (.sl (r.lv.map vInt)),.v (vInt r.da),.v (vInt r.kn),.v (vInt r.un)]
attribute [go_sem] sp
def K19:List (Nat×Spec):=[(108,wO)]
theorem aa1:KS K19:=tc xh.sound<|tn
attribute [go_sem] K19
def Nh:VSpec:=v2 iR iR (fun x a b=>nP x/\dd a=true/\dd b=true) (fun x a b=>.v (.bool (gK x a b))) none
def S129:Spec:=Nh.toSpec
attribute [go_sem] Nh S129
set_option maxHeartbeats 8000000 in
theorem JL:aR Tryz.prog 129 S129:=by
 refine z8 (rs:=[.tmp 6]) Tryz.func129 Tryz.ntmps129 (by rfl) (by kernel_rfl) (by decide) (fun _ _ _=>by first | rfl | simp[D.clos,D.closL,ma]) ⟨_,rfl,lb rfl,fun x a b hp H h0 h1 h2 hO aj=>?_⟩
 have hP:=dL
 simp only[iR,encR,bu,dC,List.map_cons,List.map_nil,Nat.zero_add,Option.map_some,Option.map_none]at h0 |-
 have hΓ:=aa1
 obtain⟨hv,ha,VY⟩:=hp
 rw[Xq]
 obtain⟨nx,j'⟩:=R3 ha VY
 repeat refine sq ?_
 refine rx hΓ [0,4,5] [[4,0],[5,0]] (fun K' hK=>by simp only[go_sem,hO,aj,h0,h1,h2];(repeat (refine⟨ao,?_⟩));exact hK _ (by simp only[go_sem,hO,aj,h0,h1,h2]) (by simp only[go_sem,hO,aj,h0,h1,h2]<;>rfl)) ?_
 repeat refine sq ?_
 refine rx hΓ [0,4,5,15] [[4,0],[5,0]] (fun K' hK=>by simp only[go_sem,hO,aj,h0,h1,h2];(repeat (refine⟨ao,?_⟩));exact hK _ (by simp only[go_sem,hO,aj,h0,h1,h2]) (by simp only[go_sem,hO,aj,h0,h1,h2]<;>rfl)) ?_
 repeat refine sq ?_
 refine Ya (bh 80 [0] H [(0,⟨true,.ref [0,1] 0⟩),(4,⟨true,.ref [4,0] 0⟩),(5,⟨true,.ref [5,0] 0⟩)] [([4,0],.box (sp (pQ a b))),([5,0],.box (sp (kf a b)))]) rfl rfl (fun hb=>?_) (fun hb=>?_) ?_
 ·repeat refine sq ?_
  rw[show pQ a b=b from if_pos (by simpa using hb),show kf a b=a from if_pos (by simpa using hb)]
  repeat refine sq ?_
  refine aM hΓ fun K' hK=>?_
  simp only[go_sem,hO,aj,h0,h1,h2]
  repeat (refine⟨ao,?_⟩)
  refine hK _ ?_
  clear K' hK
  simp only[go_sem]
  refine sM [0,4,5] [[4,0],[5,0]] ?_ ?_
  ·simp only[go_sem,hO,aj,h0,h1,h2]
  ·simp only[go_sem,hO,aj,h0,h1,h2]
 ·repeat refine sq ?_
  rw[show pQ a b=a from if_neg (by simpa using hb),show kf a b=b from if_neg (by simpa using hb)]
  refine ax ?_
  refine bE ?_
  simp only[go_sem]
  refine sM [0,4,5] [[4,0],[5,0]] ?_ ?_
  ·simp only[go_sem,hO,aj,h0,h1,h2]
  ·simp only[go_sem,hO,aj,h0,h1,h2]
 generalize pQ a b=p at *
 generalize kf a b=q at *
 have hl:p.lv.length<=maxLen:=by have:=(Gw nx).2;unfold maxLen;omega
 repeat refine sq ?_
 refine rx hΓ [0,4,5,19,20,21] [[4,0],[5,0]] (fun K' hK=>by simp only[go_sem,hO,aj,h0,h1,h2];(repeat (refine⟨ao,?_⟩));exact hK _ (by simp only[go_sem,hO,aj,h0,h1,h2]) (by simp only[go_sem,hO,aj,h0,h1,h2]<;>rfl)) ?_
 repeat refine sq ?_
 refine aH ?_
 repeat refine sq ?_
 refine bB (fun s:Nat=>[(21,⟨true,.v (vInt s)⟩)]) (fun s=>[]) (fun s=>s<=p.lv.length/\∀ k (h:k<p.lv.length),k<s->si x p q p.lv[k]=false) (fun s=>p.lv.length-s) 0 ?_ ?_ ?_ ?_
 ·exact⟨Nat.zero_le _,by simp⟩
 ·rfl
 ·rfl
 rintro i ⟨hi,hR⟩
 simp only[go_sem]
 repeat refine sq ?_
 refine rx hΓ [0,4,5,19,20,21,22] [[4,0],[5,0]] (fun K' hK=>by simp only[go_sem,hO,aj,h0,h1,h2];(repeat (refine⟨ao,?_⟩));exact hK _ (by simp only[go_sem,hO,aj,h0,h1,h2]) (by simp only[go_sem,hO,aj,h0,h1,h2]<;>rfl)) ?_
 repeat refine sq ?_
 refine av (fun hb=>?_) fun hb=>?_
 ·have ab:i<p.lv.length:=by simpa using hb
  have an:(i:Int)<p.lv.length:=by omega
  clear hb
  have ix:=uL (Gx nx)
  repeat refine sq ?_
  refine ax ?_
  repeat refine sq ?_
  refine aH ?_
  repeat refine sq ?_
  refine rx hΓ [0,4,5,8,19,20,21] [[4,0],[5,0]] (fun K' hK=>by simp only[go_sem,hO,aj,h0,h1,h2,ae ab,ah,ai,an];(repeat (refine⟨ao,?_⟩));exact hK _ (by simp only[go_sem,hO,aj,h0,h1,h2,ae ab,ah,ai,an]) (by simp only[go_sem,hO,aj,h0,h1,h2,ae ab,ah,ai,an]<;>rfl)) ?_
  repeat refine sq ?_
  refine rx hΓ [0,4,5,8,19,20,21,36] [[4,0],[5,0]] (fun K' hK=>by simp only[go_sem,hO,aj,h0,h1,h2,ae ab,ah,ai,an];(repeat (refine⟨ao,?_⟩));exact hK _ (by simp only[go_sem,hO,aj,h0,h1,h2,ae ab,ah,ai,an]) (by simp only[go_sem,hO,aj,h0,h1,h2,ae ab,ah,ai,an]<;>rfl)) ?_
  repeat refine sq ?_
  refine av (fun hb=>?_) fun hb=>?_
  ·repeat refine sq ?_
   refine bp ?_
   simp only[go_sem]
   refine eJ [0,4,5,19,20,21] [[4,0],[5,0]] ?_ ?_
   ·simp only[go_sem,hO,aj,h0,h1,h2]
   simp only[go_sem,hO,aj,h0,h1,h2]
   repeat refine sq ?_
   refine aM hΓ fun K' hK=>?_
   simp only[go_sem,hO,aj,h0,h1,h2,ae ab,ah,ai,an]
   repeat (refine⟨ao,?_⟩)
   refine hK _ ?_
   clear K' hK
   simp only[go_sem]
   refine⟨i+1,⟨ab,?_⟩,by(show p.lv.length-(i+1)<p.lv.length-i;omega),?_⟩
   ·intro k hk eA
    rcases Nat.lt_succ_iff_lt_or_eq.1 eA with h5 | rfl
    ·exact hR k hk h5
    ·unfold si;grind
   refine aY [0,4,5,19,20,21] [[4,0],[5,0]] ?_ ?_<;>simp only[go_sem,aT ab hl,aU,hO,aj,h0,h1,h2]
  ·repeat refine sq ?_
   refine ax ?_
   rcases bR:bK x.bk (p.so,p.lv[i])with _ | j
   ·repeat refine sq ?_
    refine dx hΓ hP [[],[0],[0,1],[0,1,2],[],[4],[],[4,5,6],u8,u9,bO,bO,cK,gP] [0,4,5,9,10,19,20,21] [[4,0],[5,0]] (by kernel_rfl) (fun K' hK=>by simp only[go_sem,hO,aj,h0,h1,h2,ae ab,ah,ai,an,aG,bR,Option.map_none,Option.isSome_none,Option.getD_none];(repeat (refine⟨ao,?_⟩));(first | refine⟨by rfl,?_⟩ | skip);exact hK _ (by simp only[go_sem,hO,aj,h0,h1,h2,ae ab,ah,ai,an,aG,bR,Option.map_none,Option.isSome_none,Option.getD_none]) (by simp only[go_sem,hO,aj,h0,h1,h2,ae ab,ah,ai,an,aG,bR,Option.map_none,Option.isSome_none,Option.getD_none]<;>rfl)) ?_
    repeat refine sq ?_
    refine dx hΓ hP [[],[0],[],[2],u4,u5,u6,u7,u8,u9,bO,cK,eU,gP,jP,l4,u16,bO,ie,lk,gz,nU,bO,[0,1,2,3,4,5,6,7,8,9,22],[0,1,2,3,4,5,6,7,8,9,22,23],uQ,bO,[0,1,2,3,4,5,6,7,8,9,26],w6,w5] [0,4,5,19,20,21,78] [[4,0],[5,0]] (by kernel_rfl) (fun K' hK=>by simp only[go_sem,hO,aj,h0,h1,h2,ae ab,ah,ai,an,aG,bR,Option.map_none,Option.isSome_none,Option.getD_none];(repeat (refine⟨ao,?_⟩));(first | refine⟨by rfl,?_⟩ | skip);exact hK _ (by simp only[go_sem,hO,aj,h0,h1,h2,ae ab,ah,ai,an,aG,bR,Option.map_none,Option.isSome_none,Option.getD_none]) (by simp only[go_sem,hO,aj,h0,h1,h2,ae ab,ah,ai,an,aG,bR,Option.map_none,Option.isSome_none,Option.getD_none]<;>rfl)) ?_
    repeat refine sq ?_
    refine av (fun hb=>?_) fun hb=>?_
    ·repeat refine sq ?_
     refine rx hΓ [6] [] (fun K' hK=>by simp only[go_sem,hO,aj,h0,h1,h2,ae ab,ah,ai,an,aG,bR,Option.map_none,Option.isSome_none,Option.getD_none];(repeat (refine⟨ao,?_⟩));exact hK _ (by simp only[go_sem,hO,aj,h0,h1,h2,ae ab,ah,ai,an,aG,bR,Option.map_none,Option.isSome_none,Option.getD_none]) (by simp only[go_sem,hO,aj,h0,h1,h2,ae ab,ah,ai,an,aG,bR,Option.map_none,Option.isSome_none,Option.getD_none]<;>rfl)) ?_
     refine au ?_
     simp only[go_sem,hO,aj,h0,h1,h2]
     rw[DH,M6 ab (by unfold si;rw[bR];grind [cg])]
    ·repeat refine sq ?_
     refine ax ?_
     refine bE ?_
     simp only[go_sem]
     refine eJ [0,4,5,19,20,21] [[4,0],[5,0]] ?_ ?_
     ·simp only[go_sem,hO,aj,h0,h1,h2]
     simp only[go_sem,hO,aj,h0,h1,h2]
     repeat refine sq ?_
     refine aM hΓ fun K' hK=>?_
     simp only[go_sem,hO,aj,h0,h1,h2,ae ab,ah,ai,an,aG,bR,Option.map_none,Option.isSome_none,Option.getD_none]
     repeat (refine⟨ao,?_⟩)
     refine hK _ ?_
     clear K' hK
     simp only[go_sem]
     refine⟨i+1,⟨ab,?_⟩,by(show p.lv.length-(i+1)<p.lv.length-i;omega),?_⟩
     ·intro k hk eA
      rcases Nat.lt_succ_iff_lt_or_eq.1 eA with h5 | rfl
      ·exact hR k hk h5
      ·unfold si;rw[bR];grind [cg]
     refine aY [0,4,5,19,20,21] [[4,0],[5,0]] ?_ ?_<;>simp only[go_sem,aT ab hl,aU,hO,aj,h0,h1,h2]
   ·obtain⟨cO,gW⟩:=hv.bk _ _ bR
    have j8:=Ac cO gW
    repeat refine sq ?_
    refine dx hΓ hP [[],[0],[0,1],[0,1,2],[],[4],[],[4,5,6],u8,u9,bO,bO,cK,gP] [0,4,5,9,10,19,20,21] [[4,0],[5,0]] (by kernel_rfl) (fun K' hK=>by simp only[go_sem,hO,aj,h0,h1,h2,ae ab,ah,ai,an,aG,bR,Option.map_some,Option.isSome_some,Option.getD_some,j8,cO,gW,ix];(repeat (refine⟨ao,?_⟩));(first | refine⟨by rfl,?_⟩ | skip);exact hK _ (by simp only[go_sem,hO,aj,h0,h1,h2,ae ab,ah,ai,an,aG,bR,Option.map_some,Option.isSome_some,Option.getD_some,j8,cO,gW,ix]) (by simp only[go_sem,hO,aj,h0,h1,h2,ae ab,ah,ai,an,aG,bR,Option.map_some,Option.isSome_some,Option.getD_some,j8,cO,gW,ix]<;>rfl)) ?_
    repeat refine sq ?_
    refine dx hΓ hP [[],[0],[],[2],u4,u5,u6,u7,u8,u9,bO,cK,eU,gP,jP,l4,u16,bO,ie,lk,gz,nU,bO,[0,1,2,3,4,5,6,7,8,9,22],[0,1,2,3,4,5,6,7,8,9,22,23],uQ,bO,[0,1,2,3,4,5,6,7,8,9,26],w6,w5] [0,4,5,19,20,21,78] [[4,0],[5,0]] (by kernel_rfl) (fun K' hK=>by simp only[go_sem,hO,aj,h0,h1,h2,ae ab,ah,ai,an,aG,bR,Option.map_some,Option.isSome_some,Option.getD_some,j8,cO,gW,ix];(repeat (refine⟨ao,?_⟩));(first | refine⟨by rfl,?_⟩ | skip);exact hK _ (by simp only[go_sem,hO,aj,h0,h1,h2,ae ab,ah,ai,an,aG,bR,Option.map_some,Option.isSome_some,Option.getD_some,j8,cO,gW,ix]) (by simp only[go_sem,hO,aj,h0,h1,h2,ae ab,ah,ai,an,aG,bR,Option.map_some,Option.isSome_some,Option.getD_some,j8,cO,gW,ix]<;>rfl)) ?_
    repeat refine sq ?_
    refine av (fun hb=>?_) fun hb=>?_
    ·repeat refine sq ?_
     refine rx hΓ [6] [] (fun K' hK=>by simp only[go_sem,hO,aj,h0,h1,h2,ae ab,ah,ai,an,aG,bR,Option.map_some,Option.isSome_some,Option.getD_some,j8,cO,gW,ix];(repeat (refine⟨ao,?_⟩));exact hK _ (by simp only[go_sem,hO,aj,h0,h1,h2,ae ab,ah,ai,an,aG,bR,Option.map_some,Option.isSome_some,Option.getD_some,j8,cO,gW,ix]) (by simp only[go_sem,hO,aj,h0,h1,h2,ae ab,ah,ai,an,aG,bR,Option.map_some,Option.isSome_some,Option.getD_some,j8,cO,gW,ix]<;>rfl)) ?_
     refine au ?_
     simp only[go_sem,hO,aj,h0,h1,h2]
     rw[DH,M6 ab (by unfold si;rw[bR];grind [cg])]
    ·repeat refine sq ?_
     refine ax ?_
     refine bE ?_
     simp only[go_sem]
     refine eJ [0,4,5,19,20,21] [[4,0],[5,0]] ?_ ?_
     ·simp only[go_sem,hO,aj,h0,h1,h2]
     simp only[go_sem,hO,aj,h0,h1,h2]
     repeat refine sq ?_
     refine aM hΓ fun K' hK=>?_
     simp only[go_sem,hO,aj,h0,h1,h2,ae ab,ah,ai,an,aG,bR,Option.map_some,Option.isSome_some,Option.getD_some,j8,cO,gW,ix]
     repeat (refine⟨ao,?_⟩)
     refine hK _ ?_
     clear K' hK
     simp only[go_sem]
     refine⟨i+1,⟨ab,?_⟩,by(show p.lv.length-(i+1)<p.lv.length-i;omega),?_⟩
     ·intro k hk eA
      rcases Nat.lt_succ_iff_lt_or_eq.1 eA with h5 | rfl
      ·exact hR k hk h5
      ·unfold si;rw[bR];grind [cg]
     refine aY [0,4,5,19,20,21] [[4,0],[5,0]] ?_ ?_<;>simp only[go_sem,aT ab hl,aU,hO,aj,h0,h1,h2]
 ·have be:i=p.lv.length:=by
   have :¬ (i:Int)<p.lv.length:=by simpa using hb
   omega
  clear hb
  subst be
  repeat refine sq ?_
  refine bp ?_
  simp only[go_sem]
  refine eJ [] [] ?_ ?_
  ·simp only[go_sem,hO,aj,h0,h1,h2]
  simp only[go_sem,hO,aj,h0,h1,h2]
  repeat refine sq ?_
  refine rx hΓ [6] [] (fun K' hK=>by simp only[go_sem,hO,aj,h0,h1,h2];(repeat (refine⟨ao,?_⟩));exact hK _ (by simp only[go_sem,hO,aj,h0,h1,h2]) (by simp only[go_sem,hO,aj,h0,h1,h2]<;>rfl)) ?_
  refine au ?_
  simp only[go_sem,hO,aj,h0,h1,h2]
  rw[DH,YS fun k hk=>hR k hk hk]
end
noncomputable section
@[go_sem] theorem ad9(x:Vw):(⟨x.l,x.rs,x.ts,x.bk,x.ds⟩:Vw)=x:=rfl
def xp:Option (Int×Int)->D
 |some p=>.tup [.v (.sl [vInt p.1,vInt p.2]),.v (.bool true)]
 |none=>.tup [.nilsl,.v (.bool false)]
theorem QT(r:Option (Int×Int))(p:Name->Bool):D.clos p (xp r)=true:=by cases r<;>rfl
theorem xu{x:Vw}{i:Nat}(h:i<x.rs.length)(hn:∀ k (hk:k<(x.rs.drop (i+1)).length),gK x x.rs[i] (x.rs.drop (i+1))[k]=false):me x i=none:=by
 unfold me
 have e:(x.rs.drop (i+1)).find? (gK x x.rs[i])=none:=List.find?_eq_none.2 fun y hy=>by
  obtain⟨k,hk,rfl⟩:=List.getElem_of_mem hy
  rw[hn k hk];decide
 rw[ck h,e]
 rfl
theorem GX{x:Vw}{i k:Nat}(h:i<x.rs.length)(hk:k<(x.rs.drop (i+1)).length)(hn:∀ j (hj:j<(x.rs.drop (i+1)).length),j<k->gK x x.rs[i] (x.rs.drop (i+1))[j]=false)(hb:gK x x.rs[i] (x.rs.drop (i+1))[k]=true):
 me x i=some (x.rs[i].so,(x.rs.drop (i+1))[k].so):=by
 unfold me
 have e:(x.rs.drop (i+1)).find? (gK x x.rs[i])=some (x.rs.drop (i+1))[k]:=List.find?_eq_some_iff_getElem.2 ⟨hb,k,hk,rfl,fun j hj=>by rw[hn j (by omega) hj];rfl⟩
 rw[ck h,e]
 rfl
theorem GW{x:Vw}{i:Nat}{p:Int×Int}(h:i<x.rs.length)(hn:∀ k,k<i->me x k=none)(hp:me x i=some p):dR x=some p:=by
 unfold dR
 rw[List.findSome?_eq_some_iff]
 refine⟨List.range i,i,(List.range' (i+1) (x.rs.length-(i+1))),?_,hp,fun a ha=>hn a (List.mem_range.1 ha)⟩
 rw[List.range_eq_range',List.range_eq_range']
 have :x.rs.length=i+(1+(x.rs.length-(i+1))):=by omega
 conv=>lhs;rw[this]
 rw[<-List.range'_append_1,<-List.range'_append_1,Nat.zero_add]
 rfl
theorem AX{x:Vw}(hn:∀ k,k<x.rs.length->me x k=none):dR x=none:=by
 unfold dR
 rw[List.findSome?_eq_none_iff]
 exact fun a ha=>hn a (List.mem_range.1 ha)
def K20:List (Nat×Spec):=[(129,S129)]
theorem aa0:KS K20:=tc JL<|tn
attribute [go_sem] K20
def Nk:VSpec:=v0 (fun x=>nP x) (fun x=>xp (dR x)) none
def S120:Spec:=Nk.toSpec
attribute [go_sem] Nk S120
set_option maxHeartbeats 8000000 in
theorem JN:aR Tryz.prog 120 S120:=by
 refine Oe (rs:=[.tmp 2,.tmp 3]) Tryz.func120 Tryz.ntmps120 (by rfl) (by kernel_rfl) (by decide) (fun _=>by first | rfl | exact QT _ _ | simp[D.clos,D.closL,ma]) ⟨_,rfl,lb rfl,fun x hp H h0 h1 h2 hO aj=>?_⟩
 simp only[bu,dC,List.map_cons,List.map_nil,Nat.zero_add,Option.map_some,Option.map_none]at h0 |-
 have hΓ:=aa0
 have p9:x.rs.length<=maxLen:=by have:=hp.rn;unfold maxLen;omega
 repeat refine sq ?_
 refine rx hΓ [0] [] (fun K' hK=>by simp only[go_sem,hO,aj,h0,h1,h2];(repeat (refine⟨ao,?_⟩));exact hK _ (by simp only[go_sem,hO,aj,h0,h1,h2]) (by simp only[go_sem,hO,aj,h0,h1,h2]<;>rfl)) ?_
 repeat refine sq ?_
 refine rx hΓ [0,11,12,13] [] (fun K' hK=>by simp only[go_sem,hO,aj,h0,h1,h2];(repeat (refine⟨ao,?_⟩));exact hK _ (by simp only[go_sem,hO,aj,h0,h1,h2]) (by simp only[go_sem,hO,aj,h0,h1,h2]<;>rfl)) ?_
 repeat refine sq ?_
 refine aH ?_
 repeat refine sq ?_
 refine bB (fun s:Nat=>[(13,⟨true,.v (vInt s)⟩)]) (fun s=>[]) (fun s=>s<=x.rs.length/\∀ k,k<s->me x k=none) (fun s=>x.rs.length-s) 0 ?_ ?_ ?_ ?_
 ·exact⟨Nat.zero_le _,by simp⟩
 ·rfl
 ·rfl
 rintro i ⟨hi,hR⟩
 simp only[go_sem]
 repeat refine sq ?_
 refine rx hΓ [0,11,12,13,14] [] (fun K' hK=>by simp only[go_sem,hO,aj,h0,h1,h2];(repeat (refine⟨ao,?_⟩));exact hK _ (by simp only[go_sem,hO,aj,h0,h1,h2]) (by simp only[go_sem,hO,aj,h0,h1,h2]<;>rfl)) ?_
 repeat refine sq ?_
 refine av (fun hb=>?_) fun hb=>?_
 ·have ab:i<x.rs.length:=by simpa using hb
  have an:(i:Int)<x.rs.length:=by omega
  clear hb
  have mr:IntKind.i64.wrap ((i:Int)+1)=((i+1:Nat):Int):=aT ab p9
  have rT:x.rs.length-(i+1)<=maxLen:=by omega
  have rz:List.take (x.rs.length-(i+1)) ((x.rs.drop (i+1)).map encR)=(x.rs.drop (i+1)).map encR:=List.take_of_length_le (by simp)
  have dm:=hp.rs x.rs[i] (List.getElem_mem ab)
  repeat refine sq ?_
  refine ax ?_
  repeat refine sq ?_
  refine aH ?_
  repeat refine sq ?_
  refine rx hΓ [0,4,5,11,12,13] [[5,0]] (fun K' hK=>by simp only[go_sem,hO,aj,h0,h1,h2,ae ab,ah,ai,an];(repeat (refine⟨ao,?_⟩));exact hK _ (by simp only[go_sem,hO,aj,h0,h1,h2,ae ab,ah,ai,an]) (by simp only[go_sem,hO,aj,h0,h1,h2,ae ab,ah,ai,an]<;>rfl)) ?_
  repeat refine sq ?_
  refine rx hΓ [0,5,11,12,13,24,25,26] [[5,0]] (fun K' hK=>by simp only[go_sem,hO,aj,h0,h1,h2,ae ab,ah,ai,an,mr,<-List.map_drop,rz];(repeat (refine⟨by first | exact ao | exact⟨by omega,Int.le_refl _,fun y hy=>(A2 _ y hy).1⟩,?_⟩));exact hK _ (by simp only[go_sem,hO,aj,h0,h1,h2,ae ab,ah,ai,an,mr,<-List.map_drop,rz]) (by simp only[go_sem,hO,aj,h0,h1,h2,ae ab,ah,ai,an,mr,<-List.map_drop,rz]<;>rfl)) ?_
  repeat refine sq ?_
  refine aH ?_
  repeat refine sq ?_
  refine bB (fun s:Nat=>[(26,⟨true,.v (vInt s)⟩)]) (fun s=>[]) (fun s=>s<=(x.rs.drop (i+1)).length/\∀ k (hk:k<(x.rs.drop (i+1)).length),k<s->gK x x.rs[i] (x.rs.drop (i+1))[k]=false) (fun s=>(x.rs.drop (i+1)).length-s) 0 ?_ ?_ ?_ ?_
  ·exact⟨Nat.zero_le _,by simp⟩
  ·rfl
  ·rfl
  rintro i1 ⟨hi,hR⟩
  simp only[go_sem]
  repeat refine sq ?_
  refine rx hΓ [0,5,11,12,13,24,25,26,27] [[5,0]] (fun K' hK=>by simp only[go_sem,hO,aj,h0,h1,h2,ae ab,ah,ai,an];(repeat (refine⟨ao,?_⟩));exact hK _ (by simp only[go_sem,hO,aj,h0,h1,h2,ae ab,ah,ai,an]) (by simp only[go_sem,hO,aj,h0,h1,h2,ae ab,ah,ai,an]<;>rfl)) ?_
  repeat refine sq ?_
  refine av (fun hb=>?_) fun hb=>?_
  ·have ay:i1<(x.rs.drop (i+1)).length:=by simpa using hb
   have aQ:(i1:Int)<(x.rs.drop (i+1)).length:=by omega
   clear hb
   have fB:=hp.rs (x.rs.drop (i+1))[i1] (List.mem_of_mem_drop (List.getElem_mem ay))
   repeat refine sq ?_
   refine ax ?_
   repeat refine sq ?_
   refine aH ?_
   repeat refine sq ?_
   refine rx hΓ [0,5,7,11,12,13,24,25,26] [[5,0],[7,0]] (fun K' hK=>by simp only[go_sem,hO,aj,h0,h1,h2,ae ab,ah,ai,an,ae ay,ah,ai,aQ];(repeat (refine⟨ao,?_⟩));exact hK _ (by simp only[go_sem,hO,aj,h0,h1,h2,ae ab,ah,ai,an,ae ay,ah,ai,aQ]) (by simp only[go_sem,hO,aj,h0,h1,h2,ae ab,ah,ai,an,ae ay,ah,ai,aQ]<;>rfl)) ?_
   repeat refine sq ?_
   refine rx hΓ [0,5,7,11,12,13,24,25,26,33] [[5,0],[7,0]] (fun K' hK=>by simp only[go_sem,hO,aj,h0,h1,h2,ae ab,ah,ai,an,ae ay,ah,ai,aQ];(repeat (refine⟨ao,?_⟩));exact hK _ (by simp only[go_sem,hO,aj,h0,h1,h2,ae ab,ah,ai,an,ae ay,ah,ai,aQ]) (by simp only[go_sem,hO,aj,h0,h1,h2,ae ab,ah,ai,an,ae ay,ah,ai,aQ]<;>rfl)) ?_
   repeat refine sq ?_
   refine av (fun hb=>?_) fun hb=>?_
   ·repeat refine sq ?_
    refine rx hΓ [2,3] [] (fun K' hK=>by simp only[go_sem,hO,aj,h0,h1,h2,ae ab,ah,ai,an,ae ay,ah,ai,aQ];(repeat (refine⟨ao,?_⟩));exact hK _ (by simp only[go_sem,hO,aj,h0,h1,h2,ae ab,ah,ai,an,ae ay,ah,ai,aQ]) (by simp only[go_sem,hO,aj,h0,h1,h2,ae ab,ah,ai,an,ae ay,ah,ai,aQ]<;>rfl)) ?_
    refine au ?_
    simp only[go_sem,hO,aj,h0,h1,h2]
    rw[GW ab (by assumption) (GX ab ay hR (by simpa using hb))];rfl
   ·repeat refine sq ?_
    refine ax ?_
    refine bE ?_
    simp only[go_sem]
    refine eJ [0,5,11,12,13,24,25,26] [[5,0]] ?_ ?_
    ·simp only[go_sem,hO,aj,h0,h1,h2]
    simp only[go_sem,hO,aj,h0,h1,h2]
    repeat refine sq ?_
    refine aM hΓ fun K' hK=>?_
    simp only[go_sem,hO,aj,h0,h1,h2,ae ab,ah,ai,an,ae ay,ah,ai,aQ]
    repeat (refine⟨ao,?_⟩)
    refine hK _ ?_
    clear K' hK
    simp only[go_sem]
    refine⟨i1+1,⟨ay,?_⟩,by(show (x.rs.drop (i+1)).length-(i1+1)<(x.rs.drop (i+1)).length-i1;omega),?_⟩
    ·intro k hk eA
     rcases Nat.lt_succ_iff_lt_or_eq.1 eA with h5 | rfl
     ·exact hR k hk h5
     ·simpa using hb
    refine aY [0,5,11,12,13,24,25,26] [[5,0]] ?_ ?_<;>simp only[go_sem,aT ay (by rw[List.length_drop];omega:(x.rs.drop (i+1)).length<=maxLen),aU,hO,aj,h0,h1,h2]
  ·have er:i1=(x.rs.drop (i+1)).length:=by
    have :¬ (i1:Int)<(x.rs.drop (i+1)).length:=by simpa using hb
    omega
   clear hb
   subst er
   repeat refine sq ?_
   refine bp ?_
   simp only[go_sem]
   refine eJ [0,11,12,13] [] ?_ ?_
   ·simp only[go_sem,hO,aj,h0,h1,h2]
   simp only[go_sem,hO,aj,h0,h1,h2]
   repeat refine sq ?_
   refine aM hΓ fun K' hK=>?_
   simp only[go_sem,hO,aj,h0,h1,h2,ae ab,ah,ai,an]
   repeat (refine⟨ao,?_⟩)
   refine hK _ ?_
   clear K' hK
   simp only[go_sem]
   refine⟨i+1,⟨ab,?_⟩,by(show x.rs.length-(i+1)<x.rs.length-i;omega),?_⟩
   ·intro k hk
    rcases Nat.lt_succ_iff_lt_or_eq.1 hk with h5 | rfl
    ·exact(by assumption:∀ k,k<i->me x k=none) k h5
    ·exact xu ab fun j hj=>hR j hj hj
   refine aY [0,11,12,13] [] ?_ ?_<;>simp only[go_sem,aT ab p9,aU,hO,aj,h0,h1,h2]
 ·have be:i=x.rs.length:=by
   have :¬ (i:Int)<x.rs.length:=by simpa using hb
   omega
  clear hb
  subst be
  repeat refine sq ?_
  refine bp ?_
  simp only[go_sem]
  refine eJ [] [] ?_ ?_
  ·simp only[go_sem,hO,aj,h0,h1,h2]
  simp only[go_sem,hO,aj,h0,h1,h2]
  repeat refine sq ?_
  refine rx hΓ [2,3] [] (fun K' hK=>by simp only[go_sem,hO,aj,h0,h1,h2];(repeat (refine⟨ao,?_⟩));exact hK _ (by simp only[go_sem,hO,aj,h0,h1,h2]) (by simp only[go_sem,hO,aj,h0,h1,h2]<;>rfl)) ?_
  refine au ?_
  simp only[go_sem,hO,aj,h0,h1,h2]
  rw[AX hR];rfl
end
def jT(obj:Name->Option O)(L:List O):Name->Option O:=fun nm=>match a7 L nm with | some o=>some o | none=>obj nm
theorem OW{L1 L2:List O}(h:L2.length=L1.length):jT (a7 L1) L2=a7 L2:=by
 funext nm
 unfold jT
 cases hx:cZ nm with
 |false=>rw[xv hx,xv hx]
 |true=>
  obtain⟨i,rfl⟩:=vB.1 hx
  simp only[a7]
  by_cases hi:i<L2.length
  ·rw[List.getElem?_eq_getElem hi]
  ·rw[List.getElem?_eq_none (by omega),List.getElem?_eq_none (by omega)]
theorem Bj(n:Nat)(p:Name)(F H:Name->Option O)(L:List O)(l:List (Nat×E))(h:List (Name×O)):
 bh n p (jT (fun nm=>if own p nm=true then F nm else H nm) L) l h=bh n p (jT H L) l h:=
 xF fun nm hn=>by unfold jT;simp[hn]
theorem EG(p:Name)(dom:Name->Bool)(F H:Name->Option O)(L:List O):
 cl p dom (jT (fun nm=>if own p nm=true then F nm else H nm) L)=cl p dom (jT H L):=by
 have e:∀ nm,own p nm=false->jT (fun nm=>if own p nm=true then F nm else H nm) L nm=jT H L nm:=fun nm hn=>by unfold jT;simp[hn]
 exact propext ⟨fun k nm q hn h=>k nm q hn (by rw[e nm hn];exact h),fun k nm q hn h=>k nm q hn (by rw[<-e nm hn];exact h)⟩
def Lp.I(r:Lp)(s:Nat):List O:=r.rc (LI r.m) .ready none::r.fam (LI r.m) s
theorem Lp.I_len{r:Lp}(hr:r.Ok)(s:Nat):(r.I s).length=r.m+1:=by unfold Lp.I;rw[List.length_cons,hr.len _ _ (gN _)]
theorem Lp.I_clos{r:Lp}(hr:r.Ok)(s:Nat):∀ o∈r.I s,∀ dom:Name->Bool,(∀ i,dom [i,1]=true)->O.clos dom o=true:=by
 intro o ho dom hd
 have kg:∀ x∈LI r.m,dom x=true:=fun x hx=>by
  obtain⟨i,_,rfl⟩:=List.mem_map.1 hx
  exact hd _
 rcases List.mem_cons.1 ho with rfl | ho
 ·exact hr.closE _ _ (gN _) kg
 ·exact hr.closF _ _ _ (gN _) kg _ ho
theorem Lp.y_setU{r:Lp}(hr:r.Ok)(cS:∀ j,r.st j=none){s:Nat}(hs:s<r.n)(obj:Name->Option O)(tm:Name)(ho:∀ nm,cZ nm=true->obj nm=a7 (r.I s) nm):
 r.y.toSpec.app obj tm (.yld [0,1]::r.vals s)=⟨True,.v (.bool true),jT obj (r.I (s+1))⟩:=by
 have rV:(LI r.m).Nodup:=List.Pairwise.map _ (fun a b h=>by simpa using h) List.nodup_range
 have wi:([0,1]:Name)∉LI r.m:=fun h=>by
  obtain⟨i,_,hi⟩:=List.mem_map.1 h
  simp at hi
 have h0:obj [0,1]=some (r.rc (LI r.m) .ready none):=by
  rw[ho _ rfl];rfl
 have hF:cY obj (LI r.m) (r.fam (LI r.m) s):=by
  rw[mg]
  refine List.ext_getElem (by rw[List.length_map,List.length_map,gN,hr.len _ _ (gN _)]) fun i h3 h4=>?_
  simp only[List.getElem_map,LI,List.getElem_range]
  rw[ho _ rfl]
  simp only[Lp.I,a7,List.getElem?_cons_succ]
  have h5:i<(r.fam (LI r.m) s).length:=by simpa using h4
  rw[List.getElem?_eq_getElem h5]
  rfl
 have yz:=Lp.y_app hr hs (fun j _=>cS j) (t:=tm) (gN _) rV wi h0 hF
 rw[yz,cS s]
 simp only[Option.isNone_none,if_true]
 congr 1
 funext nm
 have hlen:=hr.len (LI r.m) (s+1) (gN _)
 by_cases hR:nm=[0,1]
 ·subst hR
  rw[aS]
  rfl
 ·rw[a8 _ _ _ hR]
  unfold jT
  cases hx:cZ nm with
  |false=>
   rw[xv hx,vd]
   intro gV
   obtain⟨i,_,rfl⟩:=List.mem_map.1 gV
   cases hx
  |true=>
   obtain⟨i,rfl⟩:=vB.1 hx
   have eG:=FH (obj:=obj) (F:=r.fam (LI r.m) (s+1)) rV (by rw[gN,hlen])
   match i,hR with
   | 0,hR=>exact(hR rfl).elim
   |i+1,_=>
    simp only[Lp.I,a7,List.getElem?_cons_succ]
    by_cases hi:i<r.m
    ·have h6:=A9 eG i (by rw[gN];exact hi) (by rw[hlen];exact hi)
     simp only[LI,List.getElem_map,List.getElem_range]at h6
     rw[show (r.fam (LI r.m) (s+1))[i]?=some (r.fam (LI r.m) (s+1))[i]from List.getElem?_eq_getElem (by rw[hlen];exact hi)]
     exact h6
    ·rw[List.getElem?_eq_none (by rw[hlen];omega),vd]
     intro gV
     obtain⟨j,Ve,Vd⟩:=List.mem_map.1 gV
     have :=List.mem_range.1 Ve
     simp at Vd
     omega
theorem Lp.go_e{r:Lp}(cS:∀ j,r.st j=none):r.e=r.n/\r.pd=none:=by
 have :(List.range r.n).find? (fun s=>(r.st s).isSome)=none:=List.find?_eq_none.2 fun s _=>by rw[cS s];decide
 unfold Lp.e Lp.pd
 rw[this]
 exact⟨rfl,rfl⟩
theorem Lp.go_end{P:Program}{r:Lp}(hr:r.Ok)(cS:∀ j,r.st j=none){σ:S}(eZ:∀ i,σ.obj [i,1]=a7 (r.I r.n) [i,1]):
 (bW P σ []).ok/\(bW P σ []).d=.tup []/\gv (r.rc (LI r.m) .ready none::r.fam (LI r.m) 0) ⟨(0,r.fin (LI r.m))::fc 1 (r.fam (LI r.m) r.e),[],.tup []⟩ σ:=by
 obtain⟨e1,e2⟩:=Lp.go_e cS
 refine Lp.it_end hr ?_ ?_
 ·rw[eZ]
  unfold Lp.fin
  rw[e2]
  rfl
 ·rw[mg,e1]
  refine List.ext_getElem (by rw[List.length_map,List.length_map,gN,hr.len _ _ (gN _)]) fun i h3 h4=>?_
  simp only[List.getElem_map,LI,List.getElem_range]
  rw[eZ]
  simp only[Lp.I,a7,List.getElem?_cons_succ]
  have h5:i<(r.fam (LI r.m) r.n).length:=by simpa using h4
  rw[List.getElem?_eq_getElem h5]
  rfl
theorem Lp.itC_sound{P:Program}{r:Lp}(hr:r.Ok)(cS:∀ j,r.st j=none){dP:List Name->List D}{f:FuncId}{fn:Func}{nt:Nat}(hf:P.funcs[f]?=some fn)(cT:fn.ntmps=nt)(ca:fn.results.toList=[])(hn:(fn.name== "runtime.NumGoroutine")=false)(hy:f<1000000000)
 (hw:∃ c,fn.body=some c/\(dP (LI r.m)).length+1<=nt/\CL P [c] (bh nt [0] (a7 (r.I 0)) (dC 0 (.yld [0,1]::dP (LI r.m))) []) (fun e σ=>(e=.normal\/e=.ret)/\∀ i,σ.obj [i,1]=a7 (r.I r.n) [i,1])):aR P f (r.itC dP).toSpec:=by
 obtain⟨c,hc,hl,hw⟩:=hw
 refine oZ hf hc cT ca (iK hf hc hn) (Nat.ne_of_lt (show f<yid from hy)) ?_
 rintro os ds ⟨rfl,rfl⟩
 refine⟨by simpa using hl,CW.mono (jL hw) ?_⟩
 rintro e σ ⟨he,eZ⟩
 rcases he with rfl | rfl
 ·exact Lp.go_end hr cS eZ
 ·exact Lp.go_end hr cS eZ
noncomputable section
def pj(obj:Name->Option O)(t:Name):List D->R
 |[.ref nv 0,.v (.int .i64 pa),.v (.sl lv)]=>match iA obj nv with
  |some (nb,nd,x)=>⟨ni obj nv nb nd x/\obj (3::0::t)=none,.clo (.func 193) [] [.ref (3::0::t) 0,.v (.ptr [vInt pa]),.v (.ptr [.sl lv])],upd obj (3::0::t) (some (.box [.ref nv 0]))⟩
  |_=>.bad obj
 |_=>.bad obj
def zY(obj:Name->Option O)(t:Name):List D->List Name
 | .ref nv _::_=>(3::0::t)::nv::(match obj nv with | some (.box [_,_,_,.map nb,.map nd])=>[nb,nd] | _=>[])
 |_=>[]
def withS:Spec:=⟨pj,zY,zY⟩
theorem WN{obj obj2:Name->Option O}{nv:Name}(h1:obj2 nv=obj nv)(h2:∀ nm∈(match obj nv with | some (.box [_,_,_,.map nb,.map nd])=>[nb,nd] | _=>[]),obj2 nm=obj nm):iA obj2 nv=iA obj nv:=by
 unfold iA
 rw[h1]
 split
 ·rename_i lp rs ts nb nd h
  rw[h]at h2
  rw[h2 nb (by simp),h2 nd (by simp)]
 ·rfl
theorem WM{obj:Name->Option O}{nv nb nd:Name}{x:Vw}(h:iA obj nv=some (nb,nd,x)):(match obj nv with | some (.box [_,_,_,.map nb,.map nd])=>[nb,nd] | _=>[])=[nb,nd]:=by
 unfold iA at h
 split at h
 ·rename_i e
  split at h
  ·cases h;rw[e]
  ·cases h
 ·cases h
theorem N2:withS.Near:=by
 refine vp fun obj obj2 t ds ha=>?_
 unfold zY at ha |-
 split
 ·rename_i nv off r
  simp only at ha
  have h1:obj2 nv=obj nv:=ha nv (by simp)
  have hg:=WN h1 fun nm hn=>ha nm (by simp[hn])
  refine⟨by rw[h1],?_⟩
  unfold pj
  split
  ·rename_i nv' pa lv e
   cases e
   simp only[hg]
   split
   ·rename_i nb nd x hx
    have aA:=WM hx
    rw[aA]at ha |-
    have aa:ni obj2 nv nb nd x=ni obj nv nb nd x:=by unfold ni;rw[h1,ha nb (by simp),ha nd (by simp)]
    rw[aa,ha (3::0::t) (by simp)]
    exact .one (by simp) ha
   ·exact .none _ ha
  ·exact .none _ ha
 ·refine⟨rfl,?_⟩
  rename_i nB
  unfold pj
  split
  ·exact(nB _ _ _ rfl).elim
  ·exact .none _ (fun _ h=>by cases h)
attribute [go_sem] withS pj
def wX:CSpec where
 pre:=fun os ds=>∃ (x:Vw) (pa:Int) (lv:List V),os=[bu x [1,1] [2,1],.map 2 (bS x.bk),.map 0 (bI x.ds)]/\ds=[.ref [0,1] 0,.v (vInt pa),.v (.sl lv)]
 out:=fun _ ds=>match ds with
  |[_,.v p,.v l]=>⟨[],[([3,0],.box [.ref [0,1] 0])],.clo (.func 193) [] [.ref [3,0] 0,.v (.ptr [p]),.v (.ptr [l])]⟩
  |_=>⟨[],[],.any⟩
theorem N1{f:FuncId}(h:aR Tryz.prog f wX.toSpec)(aE:f≠yid):aR Tryz.prog f withS:=by
 refine uY h N2 aE fun obj t ds aa=>?_
 change (pj obj t ds).ok at aa
 refine⟨ds,rfl,fun _ _ _ _ h=>h,?_⟩
 show _/\_=(pj obj t ds).d/\_=(pj obj t ds).obj
 unfold pj at aa |-
 split at aa
 ·rename_i nv pa lv
  split at aa
  ·rename_i nb nd x CE
   obtain⟨hv,cP⟩:=aa
   have ru:=hv
   obtain⟨h1,h2,h3,h4,h5,h6⟩:=ru
   have n4:nv≠nb:=by simpa using h4
   have n5:nv≠nd:=by simpa using h5
   have n6:nb≠nd:=by simpa using h6
   have hr:=Gy hv [vInt pa,.sl lv]
   simp only[List.map_cons,List.map_nil]at hr
   have i0:idx [nv,nb,nd] nv=0:=by simp[idx]
   have i1:idx [nv,nb,nd] nb=1:=by simp[idx,n4]
   have i2:idx [nv,nb,nd] nd=2:=by simp[idx,n5,n6]
   have e1:cJ obj [.ref nv 0,.v (vInt pa),.v (.sl lv)]=[bu x [1,1] [2,1],.map 2 (bS x.bk),.map 0 (bI x.ds)]:=by
    unfold cJ
    rw[hr]
    simp only[List.map_cons,List.map_nil,cQ,h1,h2,h3,bu,O.ren,D.renL,D.ren,cin,i1,i2]
   have e2:db obj [.ref nv 0,.v (vInt pa),.v (.sl lv)]=[.ref [0,1] 0,.v (vInt pa),.v (.sl lv)]:=by
    unfold db
    rw[hr]
    simp only[D.renL,D.ren,cin,i0]
   have e5:(shut obj [nv,nb,nd]&&D.closL (cW [nv,nb,nd]) [.ref nv 0,.v (vInt pa),.v (.sl lv)]&&fresh obj t [([3,0],.box [.ref [0,1] 0])])=true:=by
    simp[shut,h1,h2,h3,bu,O.clos,D.closL,D.clos,cW,fresh,cP]
   have e4:wX.pre [bu x [1,1] [2,1],.map 2 (bS x.bk),.map 0 (bI x.ds)] [.ref [0,1] 0,.v (vInt pa),.v (.sl lv)]:=⟨x,pa,lv,rfl,rfl⟩
   have e6:∀ os,wX.out os [.ref [0,1] 0,.v (vInt pa),.v (.sl lv)]=⟨[],[([3,0],.box [.ref [0,1] 0])],.clo (.func 193) [] [.ref [3,0] 0,.v (.ptr [vInt pa]),.v (.ptr [.sl lv])]⟩:=fun _=>rfl
   have ub:db obj [.ref nv 0,.v (V.int .i64 pa),.v (.sl lv)]=[.ref [0,1] 0,.v (vInt pa),.v (.sl lv)]:=e2
   have W8:cJ obj [.ref nv 0,.v (V.int .i64 pa),.v (.sl lv)]=_:=e1
   have qa:reach obj [.ref nv 0,.v (V.int .i64 pa),.v (.sl lv)]=_:=hr
   have W6:(shut obj [nv,nb,nd]&&D.closL (cW [nv,nb,nd]) [.ref nv 0,.v (V.int .i64 pa),.v (.sl lv)]&&fresh obj t [([3,0],.box [.ref [0,1] 0])])=true:=e5
   simp only[CSpec.toSpec,W8,ub,qa,e6,e4,W6,CE,and_self,du,cE]
   exact⟨trivial,rfl,rfl⟩
  ·exact aa.elim
 ·exact aa.elim
def S164:Spec:=withS
attribute [go_sem] S164
set_option maxHeartbeats 4000000 in
theorem BK:aR Tryz.prog 164 S164:=by
 refine N1 ?_ (mh _ (by decide))
 refine oZ (nt:=8) (rs:=[.tmp 6]) Tryz.func164 rfl (by rfl) (by kernel_rfl) (iK Tryz.func164 rfl (by kernel_rfl)) (mh _ (by decide)) ?_
 rintro os ds ⟨x,pa,lv,rfl,rfl⟩
 refine⟨lb rfl,?_⟩
 have i5:∀ os,wX.out os [.ref [0,1] 0,.v (vInt pa),.v (.sl lv)]=⟨[],[([3,0],.box [.ref [0,1] 0])],.clo (.func 193) [] [.ref [3,0] 0,.v (.ptr [vInt pa]),.v (.ptr [.sl lv])]⟩:=fun _=>rfl
 rw[i5]
 refine jL ?_
 have hΓ:=@fg Tryz.prog
 have hO:∀ hs,cl [0] (bY [0] hs) (a7 [bu x [1,1] [2,1],.map 2 (bS x.bk),.map 0 (bI x.ds)])=True:=fun hs=>eq_true (pH (by
  intro o ho dom hd
  simp only[List.mem_cons,List.not_mem_nil,or_false]at ho
  rcases ho with rfl | rfl | rfl
  ·simp[bu,O.clos,D.closL,D.clos,hd]
  ·rfl
  ·rfl) hs)
 have h0:a7 [bu x [1,1] [2,1],.map 2 (bS x.bk),.map 0 (bI x.ds)] [0,1]=some (bu x [1,1] [2,1]):=rfl
 have h1:a7 [bu x [1,1] [2,1],.map 2 (bS x.bk),.map 0 (bI x.ds)] [1,1]=some (.map 2 (bS x.bk)):=rfl
 have h2:a7 [bu x [1,1] [2,1],.map 2 (bS x.bk),.map 0 (bI x.ds)] [2,1]=some (.map 0 (bI x.ds)):=rfl
 generalize a7 [bu x [1,1] [2,1],.map 2 (bS x.bk),.map 0 (bI x.ds)]=H at *
 repeat refine sq ?_
 refine rx hΓ [3,4,5] [[3,0],[4,0],[5,0]] (fun K' hK=>by simp only[go_sem,hO];(repeat (refine⟨ao,?_⟩));exact hK _ (by simp only[go_sem,hO]) (by simp only[go_sem,hO]<;>rfl)) ?_
 refine dp (gy 4 (.ref [4,0] 0) (by simp only[go_sem]) (by simp only[go_sem]) [3,4,5] [[3,0],[4,0],[5,0]] ?_ rfl) ?_
 ·simp only[go_sem,hO]
 simp only[go_sem,hO]
 refine dp (gy 5 (.ref [5,0] 0) (by simp only[go_sem]) (by simp only[go_sem]) [3,4,5] [[3,0]] ?_ rfl) ?_
 ·simp only[go_sem,hO]
 simp only[go_sem,hO]
 repeat refine sq ?_
 refine rx hΓ [6] [[3,0],[4,0],[5,0]] (fun K' hK=>by simp only[go_sem,hO];(repeat (refine⟨ao,?_⟩));exact hK _ (by simp only[go_sem,hO]) (by simp only[go_sem,hO]<;>rfl)) ?_
 refine au ?_
 simp only[go_sem,hO]
 exact⟨⟨h0,h1,h2⟩,rfl⟩
end
attribute [go_sem] vF
theorem te(lv:List Int):pG (194,[.ptr [.sl (lv.map vInt)]])=fun n=>lv.contains n:=by
 funext n
 simp only[pG,oY]
set_option maxHeartbeats 8000000 in
theorem Od{sY:Spec}(hY:aR Tryz.prog yid sY){x:Vw}{nb nd:Name}{pa:Int}{lv:List Int}{ia ic:Nat}{I:Nat->List O}(hv:∀ r∈x.rs,dd r=true)(fm:x.rs.length<=60)
 (hI:∀ s,(I s).length=(I 0).length) (hc:∀ s,∀ o∈I s,∀ dom:Name->Bool,(∀ i,dom [i,1]=true)->O.clos dom o=true)
 (ha:a7 (I 0) [ia,1]=some (.box [.ref [ic,1] 0])) (hx:a7 (I 0) [ic,1]=some (bu x nb nd))
 (cS:∀ s (h:s<x.rs.length),gE pa lv x.rs[s]=false->I (s+1)=I s)
 (mH:∀ s (h:s<x.rs.length),gE pa lv x.rs[s]=true->∀ obj tm,(∀ nm,cZ nm=true->obj nm=a7 (I s) nm)->sY.app obj tm [.yld [0,1],gh x.rs[s]]=⟨True,.v (.bool true),jT obj (I (s+1))⟩):
 ∃ c',Tryz.f193.body=some c'/\CL Tryz.prog [c'] (bh 33 [0] (a7 (I 0)) [(0,⟨true,.yld [0,1]⟩),(1,⟨true,.ref [ia,1] 0⟩),(2,⟨true,.v (.ptr [vInt pa])⟩),(3,⟨true,.v (.ptr [.sl (lv.map vInt)])⟩)] [])
   (fun e σ=>(e=.normal\/e=.ret)/\∀ i,σ.obj [i,1]=a7 (I x.rs.length) [i,1]):=by
 refine⟨_,rfl,?_⟩
 obtain⟨Γ,hΓ,eP,fY⟩:∃ Γ:FuncId->Option Spec,(∀ f s,Γ f=some s->aR Tryz.prog f s)/\Γ 160=some S160/\Γ 1000000000=some sY:=by
  refine⟨fun f=>if f=160 then some S160 else if f=1000000000 then some sY else none,fun f s h=>?_,rfl,rfl⟩
  dsimp only at h
  split at h
  ·rename_i e;cases h;subst e;exact JJ
  ·split at h
   ·rename_i e;cases h;subst e;exact hY
   ·cases h
 have hO:∀ s hs,cl [0] (bY [0] hs) (a7 (I s))=True:=fun s hs=>eq_true (pH (hc s) hs)
 have xY:∀ s,jT (a7 (I s)) (I (s+1))=a7 (I (s+1)):=fun s=>OW ((hI _).trans (hI s).symm)
 obtain⟨H,hH⟩:∃ H:Nat->Name->Option O,∀ s,a7 (I s)=H s:=⟨_,fun _=>rfl⟩
 simp only[hH]at hO xY mH ha hx |-
 simp only[bu]at hx
 have p9:x.rs.length<=maxLen:=by unfold maxLen;omega
 repeat refine sq ?_
 refine rx hΓ [0,2,3,10,11,12] [] (fun K' hK=>by simp only[go_sem,hO,ha,hx];(repeat (refine⟨ao,?_⟩));exact hK _ (by simp only[go_sem,hO,ha,hx]) (by simp only[go_sem,hO,ha,hx]<;>rfl)) ?_
 repeat refine sq ?_
 refine aH ?_
 repeat refine sq ?_
 refine DU (fun s:Nat=>bh 33 [0] (H s) [(0,⟨true,.yld [0,1]⟩),(2,⟨true,.v (.ptr [vInt pa])⟩),(3,⟨true,.v (.ptr [.sl (lv.map vInt)])⟩),(10,⟨true,.v (.sl (x.rs.map encR))⟩),(11,⟨true,.v (vInt x.rs.length)⟩),(12,⟨true,.v (vInt s)⟩)] [])
  (fun s=>s<=x.rs.length) (fun s=>x.rs.length-s) 0 (Nat.zero_le _) (dU.refl _) ?_
 rintro i hi
 repeat refine sq ?_
 refine rx hΓ [0,2,3,10,11,12,13] [] (fun K' hK=>by simp only[go_sem,hO];(repeat (refine⟨ao,?_⟩));exact hK _ (by simp only[go_sem,hO]) (by simp only[go_sem,hO]<;>rfl)) ?_
 repeat refine sq ?_
 refine av (fun hb=>?_) fun hb=>?_
 ·have ab:i<x.rs.length:=by simpa using hb
  have an:(i:Int)<x.rs.length:=by omega
  have BT:IntKind.i64.wrap ((i:Int)+1)=((i+1:Nat):Int):=aT ab p9
  clear hb
  have hlf:=Gw (hv x.rs[i] (List.getElem_mem ab))
  repeat refine sq ?_
  refine ax ?_
  repeat refine sq ?_
  refine aH ?_
  repeat refine sq ?_
  refine rx hΓ [0,2,3,6,10,11,12] [[6,0]] (fun K' hK=>by simp only[go_sem,hO,ae ab,ah,ai,an];(repeat (refine⟨ao,?_⟩));exact hK _ (by simp only[go_sem,hO,ae ab,ah,ai,an]) (by simp only[go_sem,hO,ae ab,ah,ai,an]<;>rfl)) ?_
  have KI:(if gE pa lv x.rs[i]=true then H (i+1)else H i)=H (i+1):=by
   split
   ·rfl
   ·rename_i h;rw[<-hH,<-hH,cS i ab (by simpa using h)]
  by_cases tL:x.rs[i].pa=pa
  ·have jz:(x.rs[i].pa==pa)=true:=by simp[tL]
   cases jF:x.rs[i].lv.any fun n=>lv.contains n with
   |true=>
    have mC:gE pa lv x.rs[i]=true:=by unfold gE;rw[jF];simp[tL]
    have yA:=fun (F:Name->Option O) (tm:Name)=>mH i ab mC (fun nm=>if own [0] nm=true then F nm else H i nm) tm fun nm hn=>by
     obtain⟨k,rfl⟩:=vB.1 hn
     simp[th]
    simp only[gh]at yA
    repeat refine sq ?_
    refine rx hΓ [0,2,3,10,11,12,31] [] (fun K' hK=>by simp only[go_sem,hO,eP,fY,jz,te,jF,yA,Bj,EG,xY,Bool.not_true];(repeat (refine⟨by first | exact ao | exact⟨trivial,.inr (.inr ⟨_,rfl⟩)⟩ | exact .inr (.inr ⟨_,rfl⟩),?_⟩));exact hK _ (by simp only[go_sem,hO,eP,fY,jz,te,jF,yA,Bj,EG,xY,Bool.not_true]) (by simp only[go_sem,hO,eP,fY,jz,te,jF,yA,Bj,EG,xY,Bool.not_true]<;>rfl)) ?_
    repeat refine sq ?_
    refine av (fun hb=>?_) fun hb=>?_
    ·cases hb
    repeat refine sq ?_
    refine ax ?_
    refine bE ?_
    simp only[go_sem]
    refine eJ [0,2,3,10,11,12] [] ?_ ?_
    ·simp only[go_sem,hO]
    simp only[go_sem,hO]
    repeat refine sq ?_
    refine aM hΓ fun K' hK=>?_
    simp only[go_sem]
    repeat (refine⟨ao,?_⟩)
    refine hK _ ?_
    clear K' hK
    simp only[go_sem]
    refine⟨i+1,ab,by omega,?_⟩
    refine aY [0,2,3,10,11,12] [] ?_ ?_<;>simp only[go_sem,hO,BT,aU]
   |false=>
    have mC:gE pa lv x.rs[i]=false:=by unfold gE;rw[jF];simp
    have C1:H (i+1)=H i:=by rw[<-hH,<-hH,cS i ab mC]
    repeat refine sq ?_
    refine rx hΓ [0,2,3,10,11,12,31] [] (fun K' hK=>by simp only[go_sem,hO,eP,fY,jz,te,jF];(repeat (refine⟨by first | exact ao | exact⟨trivial,.inr (.inr ⟨_,rfl⟩)⟩ | exact .inr (.inr ⟨_,rfl⟩),?_⟩));exact hK _ (by simp only[go_sem,hO,eP,fY,jz,te,jF]) (by simp only[go_sem,hO,eP,fY,jz,te,jF]<;>rfl)) ?_
    repeat refine sq ?_
    refine av (fun hb=>?_) fun hb=>?_
    ·cases hb
    repeat refine sq ?_
    refine ax ?_
    refine bE ?_
    simp only[go_sem]
    refine eJ [0,2,3,10,11,12] [] ?_ ?_
    ·simp only[go_sem,hO]
    simp only[go_sem,hO]
    repeat refine sq ?_
    refine aM hΓ fun K' hK=>?_
    simp only[go_sem]
    repeat (refine⟨ao,?_⟩)
    refine hK _ ?_
    clear K' hK
    simp only[go_sem]
    refine⟨i+1,ab,by omega,?_⟩
    rw[C1]
    refine aY [0,2,3,10,11,12] [] ?_ ?_<;>simp only[go_sem,hO,BT,aU]
  ·have jz:(x.rs[i].pa==pa)=false:=by simp[tL]
   have mC:gE pa lv x.rs[i]=false:=by unfold gE;simp[tL]
   have C1:H (i+1)=H i:=by rw[<-hH,<-hH,cS i ab mC]
   repeat refine sq ?_
   refine rx hΓ [0,2,3,10,11,12,31] [] (fun K' hK=>by simp only[go_sem,hO,eP,fY,jz];(repeat (refine⟨ao,?_⟩));exact hK _ (by simp only[go_sem,hO,eP,fY,jz]) (by simp only[go_sem,hO,eP,fY,jz]<;>rfl)) ?_
   repeat refine sq ?_
   refine av (fun hb=>?_) fun hb=>?_
   ·cases hb
   repeat refine sq ?_
   refine ax ?_
   refine bE ?_
   simp only[go_sem]
   refine eJ [0,2,3,10,11,12] [] ?_ ?_
   ·simp only[go_sem,hO]
   simp only[go_sem,hO]
   repeat refine sq ?_
   refine aM hΓ fun K' hK=>?_
   simp only[go_sem]
   repeat (refine⟨ao,?_⟩)
   refine hK _ ?_
   clear K' hK
   simp only[go_sem]
   refine⟨i+1,ab,by omega,?_⟩
   rw[C1]
   refine aY [0,2,3,10,11,12] [] ?_ ?_<;>simp only[go_sem,hO,BT,aU]
 ·have be:i=x.rs.length:=by
    have :¬ (i:Int)<x.rs.length:=by simpa using hb
    omega
  subst be
  clear hb
  repeat refine sq ?_
  refine bp ?_
  simp only[go_sem]
  refine bE ?_
  simp only[go_sem]
  first | exact .inl trivial | exact⟨by simp,fun k=>by simp[th]⟩
set_option maxRecDepth 10000
noncomputable section
theorem uU{α:Type}{p:α->Bool}{l:List α}{s:Nat}(h:s<l.length):((l.take (s+1)).filter p)=(l.take s).filter p++(if p l[s]=true then[l[s]]else[]):=by
 rw[List.take_add_one,List.getElem?_eq_getElem h,List.filter_append]
 simp only[Option.toList_some,List.filter_cons,List.filter_nil]
theorem WW{α:Type}{p:α->Bool}{l:List α}{s:Nat}{z:α}(h:s<l.length)(hp:p l[s]=true):((l.take s).filter p).length<(l.filter p).length/\(l.filter p).getD ((l.take s).filter p).length z=l[s]:=by
 have e:l.filter p=(l.take s).filter p++(l[s]::(l.drop (s+1)).filter p):=by
  conv=>lhs;rw[<-List.take_append_drop s l,List.filter_append,List.drop_eq_getElem_cons h,List.filter_cons,if_pos hp]
 refine⟨?_,?_⟩
 ·rw[e,List.length_append,List.length_cons];omega
 ·rw[e];simp[List.getD]
def jM(j:Nat)(pa:Int)(lv:List Int)(Ls:List Name):List D:=[.ref (Ls.getD j []) 0,.v (.ptr [vInt pa]),.v (.ptr [.sl (lv.map vInt)])]
theorem FN{r:Lp}(hr:r.Ok)(cS:∀ j,r.st j=none)(hy:aR Tryz.prog yid r.y.toSpec){x:Vw}{nb nd:Name}{pa:Int}{lv:List Int}{j jc:Nat}(hv:∀ q∈x.rs,dd q=true)(fm:x.rs.length<=60)
 (hn:r.n=(dq x.rs pa lv).length) (Uv:∀ s,r.vals s=[gh ((dq x.rs pa lv).getD s fP)]) (hj:j<r.m) (ha:a7 (r.I 0) [j+1,1]=some (.box [.ref [jc+1,1] 0])) (hx:a7 (r.I 0) [jc+1,1]=some (bu x nb nd)):
 aR Tryz.prog 193 (r.itC (jM j pa lv)).toSpec:=by
 have gF:jM j pa lv (LI r.m)=[.ref [j+1,1] 0,.v (.ptr [vInt pa]),.v (.ptr [.sl (lv.map vInt)])]:=by
  unfold jM
  have :(LI r.m).getD j []=[j+1,1]:=by simp[LI,hj]
  rw[this]
 obtain⟨c,hc,h⟩:=Od hy (x:=x) (nb:=nb) (nd:=nd) (pa:=pa) (lv:=lv) (ia:=j+1) (ic:=jc+1) (I:=fun s=>r.I ((x.rs.take s).filter (gE pa lv)).length) hv fm
  (fun s=>by rw[Lp.I_len hr,Lp.I_len hr]) (fun s=>Lp.I_clos hr _) (by simpa using ha) (by simpa using hx)
  (fun s hs hh=>by rw[uU hs,hh];simp)
  (fun s hs hh obj tm ho=>by
    obtain⟨h1,h2⟩:=WW (z:=fP) hs hh
    have :=Lp.y_setU hr cS (s:=((x.rs.take s).filter (gE pa lv)).length) (by rw[hn];exact h1) obj tm ho
    rw[Uv]at this
    unfold dq at this
    rw[h2]at this
    rw[this,uU hs,hh]
    simp)
 refine Lp.itC_sound hr cS Tryz.func193 Tryz.ntmps193 (by rfl) (by kernel_rfl) (by decide) ⟨c,hc,by rw[gF];exact lb rfl,?_⟩
 rw[gF]
 have h0:r.I ((x.rs.take 0).filter (gE pa lv)).length=r.I 0:=by simp
 have h9:r.I ((x.rs.take x.rs.length).filter (gE pa lv)).length=r.I r.n:=by rw[List.take_length,hn];rfl
 simp only[h0,h9]at h
 exact h
theorem GB{a b:Rec}(h:gh a=gh b):a=b:=by
 obtain⟨a1,a2,a3,al,a4,a5,a6⟩:=a
 obtain⟨b1,b2,b3,bl,b4,b5,b6⟩:=b
 simp only[gh,D.agg.injEq,List.cons.injEq,D.v.injEq,vInt,V.int.injEq,V.sl.injEq,true_and,and_true]at h
 obtain⟨rfl,rfl,rfl,hl,rfl,rfl,rfl⟩:=h
 have :=congrArg (List.map jJ) hl
 have e:∀ l:List Int,(l.map fun n=>V.int .i64 n).map jJ=l:=fun l=>oY l
 rw[e,e]at this
 rw[this]
theorem EU{l:List Rec}(hn:l.Nodup):∀ s s',s<l.length->s'<l.length->([gh (l.getD s fP)]:List D)=[gh (l.getD s' fP)]->s=s':=by
 intro s s' h h' e
 have e1:=GB (List.cons.inj e).1
 rw[ck h,ck h']at e1
 exact(List.getElem_inj hn).1 e1
def qP:Code->Option (Array Tmp×Code×Code)
 | .seq a b=>match qP a with | some x=>some x | none=>qP b
 | .block _ b=>qP b
 | .loop b=>qP b
 | .cond _ a b=>match qP a with | some x=>some x | none=>qP b
 | .rangeFunc _ ps a b=>some (ps,a,b)
 |_=>none
def pD(fn:Func):Array Tmp×Code×Code:=((fn.body.bind qP).getD (#[],.skip,.skip))
theorem kI{Ls:List Name}(h:Ls.length=5):∃ a b c d e,Ls=[a,b,c,d,e]:=by
 match Ls,h with
 |[a,b,c,d,e],_=>exact⟨a,b,c,d,e,rfl⟩
theorem pN{Ls:List Name}(h:Ls.length=7):∃ a b c d e f g,Ls=[a,b,c,d,e,f,g]:=by
 match Ls,h with
 |[a,b,c,d,e,f,g],_=>exact⟨a,b,c,d,e,f,g,rfl⟩
def iu(l:Led)(k i j:Int)(n:Nat)(x:Vw)(r:Rec)(lv:List Int):Lp where
 m:=5
 env:=fun Ls=>(List.range 181).map (dK eAny [(0,⟨true,.v (jH l)⟩),(5,⟨true,.ref (Ls.getD 0 []) 0⟩),(17,⟨true,.v (.ptr [vInt i])⟩),(19,⟨true,.v (.ptr [vInt r.so,vInt r.bo,vInt r.pa,.sl (r.lv.map vInt),vInt r.da,vInt r.kn,vInt r.un])⟩),(141,⟨true,.v (.sl (x.ts.map vInt))⟩),(142,⟨true,.v (vInt n)⟩),(143,⟨true,.v (vInt j)⟩),(166,⟨true,.clo (.func 193) [] (jM 4 r.pa lv Ls)⟩)])
 fam:=fun Ls s=>[.box [.ref (Ls.getD 1 []) 0],bu x (Ls.getD 2 []) (Ls.getD 3 []),.map 2 (bS x.bk),.map 0 (bI (kG x.ds i r.da ((dq x.rs r.pa lv).take s))),.box [.ref (Ls.getD 1 []) 0]]
 ps:=(pD Tryz.f76).1.toList
 asg:=(pD Tryz.f76).2.1
 body:=(pD Tryz.f76).2.2
 n:=(dq x.rs r.pa lv).length
 vals:=fun s=>[gh ((dq x.rs r.pa lv).getD s fP)]
 st:=fun _=>none
 fu:=100
theorem HO(l:Led)(k i j:Int)(n:Nat)(x:Vw)(r:Rec)(lv:List Int)(hn:x.rs.Nodup):(iu l k i j n x r lv).Ok where
 len:=fun Ls s _=>rfl
 renE:=fun f Ls h=>by obtain⟨a,b,c,d,e,rfl⟩:=kI h;rfl
 renF:=fun f Ls s h=>by obtain⟨a,b,c,d,e,rfl⟩:=kI h;rfl
 reach:=fun Ls s obj acc q h cq hd hF=>by
  obtain⟨a,b,c,d,e,rfl⟩:=kI h
  obtain⟨h1,h2,h3,h4,h5,_⟩:=hF
  have en:c7 (((iu l k i j n x r lv).env [a,b,c,d,e]).map (·.d))=[a,e]:=rfl
  rw[en]
  show dJ obj (q+91+1+1+1+1+1+1+1+1+1) _ acc=_
  simp only[List.mem_cons,List.not_mem_nil,or_false,forall_eq_or_imp,forall_eq]at hd
  obtain⟨d1,d2,d3,d4,d5⟩:=hd
  simp only[List.nodup_cons,List.mem_cons,List.not_mem_nil,or_false,not_or,not_false_eq_true,List.nodup_nil,and_true]at cq
  obtain⟨⟨a1,a2,a3,a4⟩,⟨b1,b2,b3⟩,⟨c1,c2⟩,e1⟩:=cq
  simp[dJ,gS,h1,h2,h3,h4,h5,mi,c7,ly,bu,d1,d2,d3,d4,d5,Ne.symm a1,Ne.symm a2,Ne.symm a3,Ne.symm a4,Ne.symm b1,Ne.symm b2,Ne.symm b3,Ne.symm c1,Ne.symm c2,Ne.symm e1]
 closE:=fun dom Ls h hd=>by
  obtain⟨a,b,c,d,e,rfl⟩:=kI h
  have h1:=hd a (by simp)
  have h2:=hd e (by simp)
  simp[iu,List.range,List.range.loop,dK,D.closL,D.clos,eAny,h1,h2,jM]
 closF:=fun dom Ls s h hd o ho=>by
  obtain⟨a,b,c,d,e,rfl⟩:=kI h
  have h1:=hd b (by simp)
  have h2:=hd c (by simp)
  have h3:=hd d (by simp)
  simp only[iu,List.mem_cons,List.not_mem_nil,or_false]at ho
  rcases ho with rfl | rfl | rfl | rfl | rfl<;>simp[O.clos,D.closL,D.clos,bu,h1,h2,h3]
 psz:=fun Ls h=>by rfl
 args:=fun s=>by rfl
 fuel:=(show (100:Nat)<=2000 by decide)
 vnam:=fun _=>rfl
 vcl:=fun _ _=>rfl
 vren:=fun _ _=>rfl
 inj:=EU (hn.filter _)
def K23:List (Nat×Spec):=[(165,S165)]
theorem aaZ:KS K23:=tc BJ<|tn
attribute [go_sem] K23
theorem Ry(d:Ds)(i da:Int){os:List Rec}{s:Nat}(h:s<os.length):kG d i da (os.take (s+1))=if os[s].da>da then jY (kG d i da (os.take s)) i ⟨0,os[s].da⟩else kG d i da (os.take s):=by
 unfold kG
 rw[List.take_add_one,List.getElem?_eq_getElem h,List.foldl_append]
 rfl
set_option maxHeartbeats 4000000 in
theorem R5(l:Led)(k i j:Int)(n:Nat)(x:Vw)(r:Rec)(lv:List Int)(hn:x.rs.Nodup):aR Tryz.prog yid (iu l k i j n x r lv).y.toSpec:=by
 refine Lp.y_sound (HO l k i j n x r lv hn) fun s hs _=>?_
 have hΓ:=aaZ
 have gU:s<(dq x.rs r.pa lv).length:=hs
 have CM:(iu l k i j n x r lv).fam (LR 5) s=[.box [.ref [1,1] 0],bu x [2,1] [3,1],.map 2 (bS x.bk),.map 0 (bI (kG x.ds i r.da ((dq x.rs r.pa lv).take s))),.box [.ref [1,1] 0]]:=rfl
 have CK:(iu l k i j n x r lv).fam (LR 5) (s+1)=[.box [.ref [1,1] 0],bu x [2,1] [3,1],.map 2 (bS x.bk),.map 0 (bI (kG x.ds i r.da ((dq x.rs r.pa lv).take (s+1)))),.box [.ref [1,1] 0]]:=rfl
 have cS:(iu l k i j n x r lv).st s=none:=rfl
 have hv:(iu l k i j n x r lv).vals s=[gh ((dq x.rs r.pa lv)[s])]:=by rw[<-ck (z:=fP) gU];rfl
 have hm:(iu l k i j n x r lv).m=5:=rfl
 rw[hm,CM,CK,cS,hv,Ry _ _ _ gU]
 generalize (dq x.rs r.pa lv)[s]=o
 generalize kG x.ds i r.da ((dq x.rs r.pa lv).take s)=d
 generalize iy:[O.box [.ref [1,1] 0],bu x [2,1] [3,1],.map 2 (bS x.bk),.map 0 (bI d),.box [.ref [1,1] 0]]=os
 have hO:∀ hs,cl [0] (bY [0] hs) (a7 os)=True:=by
  subst iy
  refine fun hs=>eq_true (pH ?_ hs)
  intro o ho dom hd
  simp only[List.mem_cons,List.not_mem_nil,or_false]at ho
  rcases ho with rfl | rfl | rfl | rfl | rfl<;>simp[O.clos,D.closL,D.clos,bu,hd]
 have aj:∀ hs es,cl [0] (bY [0] hs) (fun nm=>if nm=[3,1]then some (.map 0 es)else a7 os nm)=True:=fun hs es=>eq_true (sF (nm:=[3,1]) (o:=.map 0 es) rfl (by rw[hO];trivial))
 have h0:a7 os [0,1]=some (.box [.ref [1,1] 0]):=by subst iy;rfl
 have h1:a7 os [1,1]=some (bu x [2,1] [3,1]):=by subst iy;rfl
 have h2:a7 os [2,1]=some (.map 2 (bS x.bk)):=by subst iy;rfl
 have h3:a7 os [3,1]=some (.map 0 (bI d)):=by subst iy;rfl
 have h4:a7 os [4,1]=some (.box [.ref [1,1] 0]):=by subst iy;rfl
 generalize hH:a7 os=H at *
 clear iy hH
 simp only[bu]at h1 |-
 have fm:pD Tryz.f76=(_,_,_):=rfl
 refine uq (z1 181 [0] H [(5,⟨true,.ref [0,1] 0⟩),(17,⟨true,.v (.ptr [vInt i])⟩),(19,⟨true,.v (.ptr [vInt r.so,vInt r.bo,vInt r.pa,.sl (r.lv.map vInt),vInt r.da,vInt r.kn,vInt r.un])⟩),(167,⟨true,gh o⟩)] [] rfl rfl (fun _ _=>rfl) ?_ (by simp) ?_ ?_) ?_
 ·intro q hq
  simp only[List.mem_cons,List.not_mem_nil,or_false]at hq
  rcases hq with rfl | rfl | rfl | rfl<;>rfl
 ·simp[D.clos,D.closL,bY,own,gh]
 ·rw[hO];trivial
 simp only[iu,fm]
 refine jL ?_
 repeat refine sq ?_
 refine aM hΓ fun K' hK=>?_
 simp only[go_sem,hO,aj,h0,h1,h2,h3,h4]
 repeat (refine⟨ao,?_⟩)
 refine hK _ ?_
 clear K' hK
 simp only[go_sem]
 (show CW _ _ _ _)
 refine jL ?_
 repeat refine sq ?_
 refine aH ?_
 repeat refine sq ?_
 refine rx hΓ [5,17,19,21,172] [[5,0],[17,0],[19,0],[21,0],[23,0],[24,0],[26,0],[49,0],[124,0]] (fun K' hK=>by simp only[go_sem,hO,aj,h0,h1,h2,h3,h4];(repeat (refine⟨ao,?_⟩));exact hK _ (by simp only[go_sem,hO,aj,h0,h1,h2,h3,h4]) (by simp only[go_sem,hO,aj,h0,h1,h2,h3,h4]<;>rfl)) ?_
 repeat refine sq ?_
 refine av (fun hb=>?_) fun hb=>?_
 ·repeat refine sq ?_
  refine aM hΓ fun K' hK=>?_
  simp only[go_sem,hO,aj,h0,h1,h2,h3,h4]
  repeat (refine⟨ao,?_⟩)
  refine hK _ ?_
  clear K' hK
  simp only[go_sem]
  refine bE ?_
  have dh:o.da>r.da:=by simpa using hb
  rw[if_pos dh]
  refine⟨rfl,?_⟩
  show cY _ [[0,1],[1,1],[2,1],[3,1],[4,1]] _
  simp only[cY,go_sem,h0,h1,h2,h3,h4,DC]
  simp[Bf,jY]
 ·repeat refine sq ?_
  refine ax ?_
  refine bE ?_
  simp only[go_sem]
  have dh:¬ o.da>r.da:=by simpa using hb
  rw[if_neg dh]
  refine⟨rfl,?_⟩
  show cY _ [[0,1],[1,1],[2,1],[3,1],[4,1]] _
  simp only[cY,go_sem,h0,h1,h2,h3,h4,DC]
end
noncomputable section
def fG:Option Rec->List D
 |some r=>sp r
 |none=>[.v (vInt 0),.v (vInt 0),.v (vInt 0),.nilsl,.v (vInt 0),.v (vInt 0),.v (vInt 0)]
def lN(rs:List Rec)(pa le day:Int)(s:Nat):Option Rec:=((dq rs pa [le]).take s).foldl (o8 day) none
theorem YD{rs:List Rec}{pa le day:Int}{s:Nat}(h:s<(dq rs pa [le]).length):lN rs pa le day (s+1)=o8 day (lN rs pa le day s) (dq rs pa [le])[s]:=by
 unfold lN
 rw[List.take_add_one,List.getElem?_eq_getElem h,List.foldl_append]
 rfl
theorem YE(rs:List Rec)(pa le day:Int):lN rs pa le day (dq rs pa [le]).length=hG rs pa le day:=by
 unfold lN hG
 rw[List.take_length]
def gZ(x:Vw)(pa le day:Int):Lp where
 m:=7
 env:=fun Ls=>(List.range 37).map (dK eAny [(5,⟨true,.v (.ptr [vInt day])⟩),(6,⟨true,.ref (Ls.getD 0 []) 0⟩),(8,⟨true,.ref (Ls.getD 1 []) 0⟩),(9,⟨true,.ref (Ls.getD 2 []) 0⟩),(17,⟨true,.clo (.func 193) [] (jM 3 pa [le] Ls)⟩)])
 fam:=fun Ls s=>[.box (fG none),.box (fG (lN x.rs pa le day s)),.box [.v (.bool (lN x.rs pa le day s).isSome)],.box [.ref (Ls.getD 4 []) 0],bu x (Ls.getD 5 []) (Ls.getD 6 []),.map 2 (bS x.bk),.map 0 (bI x.ds)]
 ps:=(pD Tryz.f119).1.toList
 asg:=(pD Tryz.f119).2.1
 body:=(pD Tryz.f119).2.2
 n:=(dq x.rs pa [le]).length
 vals:=fun s=>[gh ((dq x.rs pa [le]).getD s fP)]
 st:=fun _=>none
 fu:=100
theorem Yc(f:Name->Name)(o:Option Rec):D.renL f (fG o)=fG o:=by cases o<;>rfl
theorem Ms(o:Option Rec):c7 (fG o)=[]:=by cases o<;>rfl
theorem zg(p:Name->Bool)(o:Option Rec):D.closL p (fG o)=true:=by cases o<;>rfl
theorem Ec(x:Vw)(pa le day:Int)(hn:x.rs.Nodup):(gZ x pa le day).Ok where
 len:=fun Ls s _=>rfl
 renE:=fun f Ls h=>by obtain⟨a,b,c,d,e,f,g,rfl⟩:=pN h;rfl
 renF:=fun f Ls s h=>by
  obtain⟨a,b,c,d,e,f,g,rfl⟩:=pN h
  simp only[gZ,List.map_cons,List.map_nil,O.ren,Yc,D.renL,D.ren,bu,List.getD_cons_succ,List.getD_cons_zero]
 reach:=fun Ls s obj acc q h cq hd hF=>by
  obtain⟨a,b,c,d,e,f,g,rfl⟩:=pN h
  obtain⟨h1,h2,h3,h4,h5,h6,h7,_⟩:=hF
  have en:c7 (((gZ x pa le day).env [a,b,c,d,e,f,g]).map (·.d))=[a,b,c,d]:=rfl
  rw[en]
  show dJ obj (q+91+1+1+1+1+1+1+1+1+1) _ acc=_
  simp only[List.mem_cons,List.not_mem_nil,or_false,forall_eq_or_imp,forall_eq]at hd
  obtain⟨d1,d2,d3,d4,d5,d6,d7⟩:=hd
  simp only[List.nodup_cons,List.mem_cons,List.not_mem_nil,or_false,not_or,not_false_eq_true,List.nodup_nil,and_true]at cq
  obtain⟨⟨a1,a2,a3,a4,a5,a6⟩,⟨b1,b2,b3,b4,b5⟩,⟨c1,c2,c3,c4⟩,⟨e1,e2,e3⟩,⟨f1,f2⟩,g1⟩:=cq
  simp[dJ,gS,h1,h2,h3,h4,h5,h6,h7,mi,c7,ly,bu,Ms,d1,d2,d3,d4,d5,d6,d7,Ne.symm a1,Ne.symm a2,Ne.symm a3,Ne.symm a4,Ne.symm a5,Ne.symm a6,Ne.symm b1,Ne.symm b2,Ne.symm b3,Ne.symm b4,Ne.symm b5,Ne.symm c1,Ne.symm c2,Ne.symm c3,Ne.symm c4,Ne.symm e1,Ne.symm e2,Ne.symm e3,Ne.symm f1,Ne.symm f2,Ne.symm g1]
 closE:=fun dom Ls h hd=>by
  obtain⟨a,b,c,d,e,f,g,rfl⟩:=pN h
  have h1:=hd a (by simp)
  have h2:=hd b (by simp)
  have h3:=hd c (by simp)
  have h4:=hd d (by simp)
  simp[gZ,List.range,List.range.loop,dK,D.closL,D.clos,eAny,h1,h2,h3,h4,jM]
 closF:=fun dom Ls s h hd o ho=>by
  obtain⟨a,b,c,d,e,f,g,rfl⟩:=pN h
  have h1:=hd e (by simp)
  have h2:=hd f (by simp)
  have h3:=hd g (by simp)
  simp only[gZ,List.mem_cons,List.not_mem_nil,or_false]at ho
  rcases ho with rfl | rfl | rfl | rfl | rfl | rfl | rfl<;>simp[O.clos,D.closL,D.clos,bu,zg,h1,h2,h3]
 psz:=fun Ls h=>by rfl
 args:=fun s=>by rfl
 fuel:=(show (100:Nat)<=2000 by decide)
 vnam:=fun _=>rfl
 vcl:=fun _ _=>rfl
 vren:=fun _ _=>rfl
 inj:=EU (hn.filter _)
theorem YH(x:Vw)(pa le day:Int):zW (gZ x pa le day) (jM 3 pa [le]) where
 ren:=fun f Ls h=>by obtain⟨a,b,c,d,e,f,g,rfl⟩:=pN h;rfl
 clo:=fun dom Ls h hd=>by
  obtain⟨a,b,c,d,e,f,g,rfl⟩:=pN h
  have h4:=hd d (by simp)
  simp[D.closL,D.clos,h4,jM]
 reach:=fun Ls s obj R q h cq hF h0=>by
  obtain⟨a,b,c,d,e,f,g,rfl⟩:=pN h
  obtain⟨h1,h2,h3,h4,h5,h6,h7,_⟩:=hF
  have en:c7 (((gZ x pa le day).env [a,b,c,d,e,f,g]).map (·.d))=[a,b,c,d]:=rfl
  have ec:c7 (jM 3 pa [le] [a,b,c,d,e,f,g])=[d]:=rfl
  rw[ec]
  show dJ obj (q+90+1+1+1+1+1+1+1+1+1+1+1) _ []=_
  simp only[List.nodup_cons,List.mem_cons,List.not_mem_nil,or_false,not_or,not_false_eq_true,List.nodup_nil,and_true]at cq
  obtain⟨⟨r1,r2,r3,r4,r5,r6,r7⟩,⟨a1,a2,a3,a4,a5,a6⟩,⟨b1,b2,b3,b4,b5⟩,⟨c1,c2,c3,c4⟩,⟨e1,e2,e3⟩,⟨f1,f2⟩,g1⟩:=cq
  simp[dJ,gS,h0,h1,h2,h3,h4,h5,h6,h7,Lp.rc,mi,en,c7,ly,bu,Ms,Ne.symm r1,Ne.symm r2,Ne.symm r3,Ne.symm r4,Ne.symm r5,Ne.symm r6,Ne.symm r7,Ne.symm a1,Ne.symm a2,Ne.symm a3,Ne.symm a4,Ne.symm a5,Ne.symm a6,Ne.symm b1,Ne.symm b2,Ne.symm b3,Ne.symm b4,Ne.symm b5,Ne.symm c1,Ne.symm c2,Ne.symm c3,Ne.symm c4,Ne.symm e1,Ne.symm e2,Ne.symm e3,Ne.symm f1,Ne.symm f2,Ne.symm g1]
theorem YF(day:Int)(o:Option Rec)(r:Rec):o8 day o r=if decide (r.da<=day)&&(!o.isSome||decide (r.da>=(o.getD fP).da))then some r else o:=by
 unfold o8
 cases o<;>rfl
theorem YG(x:Vw)(pa le day:Int)(hn:x.rs.Nodup):aR Tryz.prog yid (gZ x pa le day).y.toSpec:=by
 refine Lp.y_sound (Ec x pa le day hn) fun s hs _=>?_
 have hΓ:=@fg Tryz.prog
 have gU:s<(dq x.rs pa [le]).length:=hs
 have CM:(gZ x pa le day).fam (LR 7) s=[.box (fG none),.box (fG (lN x.rs pa le day s)),.box [.v (.bool (lN x.rs pa le day s).isSome)],.box [.ref [4,1] 0],bu x [5,1] [6,1],.map 2 (bS x.bk),.map 0 (bI x.ds)]:=rfl
 have CK:(gZ x pa le day).fam (LR 7) (s+1)=[.box (fG none),.box (fG (lN x.rs pa le day (s+1))),.box [.v (.bool (lN x.rs pa le day (s+1)).isSome)],.box [.ref [4,1] 0],bu x [5,1] [6,1],.map 2 (bS x.bk),.map 0 (bI x.ds)]:=rfl
 have cS:(gZ x pa le day).st s=none:=rfl
 have hv:(gZ x pa le day).vals s=[gh ((dq x.rs pa [le])[s])]:=by rw[<-ck (z:=fP) gU];rfl
 have hm:(gZ x pa le day).m=7:=rfl
 rw[hm,CM,CK,cS,hv,YD gU,YF]
 generalize (dq x.rs pa [le])[s]=r
 generalize lN x.rs pa le day s=o
 obtain⟨c3,e0,e1⟩:∃ c3,(c3=.nilsl\/∃ l,c3=.v (.sl l))/\fG o=[.v (vInt (o.getD fP).so),.v (vInt (o.getD fP).bo),.v (vInt (o.getD fP).pa),c3,.v (vInt (o.getD fP).da),.v (vInt (o.getD fP).kn),.v (vInt (o.getD fP).un)]:=by
  cases o with
  |none=>exact⟨_,.inl rfl,rfl⟩
  |some q=>exact⟨_,.inr ⟨_,rfl⟩,rfl⟩
 have e2:∀ p,D.clos p c3=true:=fun p=>by rcases e0 with rfl | ⟨l,rfl⟩<;>rfl
 generalize iy:[O.box (fG none),.box (fG o),.box [.v (.bool o.isSome)],.box [.ref [4,1] 0],bu x [5,1] [6,1],.map 2 (bS x.bk),.map 0 (bI x.ds)]=os
 have hO:∀ hs,cl [0] (bY [0] hs) (a7 os)=True:=by
  subst iy
  refine fun hs=>eq_true (pH ?_ hs)
  intro o ho dom hd
  simp only[List.mem_cons,List.not_mem_nil,or_false]at ho
  rcases ho with rfl | rfl | rfl | rfl | rfl | rfl | rfl<;>simp[O.clos,D.closL,D.clos,bu,hd,zg]
 have aj:∀ hs cs b,(∀ p,D.closL p cs=true)->cl [0] (bY [0] hs) (fun nm=>if nm=[2,1]then some (.box [.v (.bool b)])else if nm=[1,1]then some (.box cs)else a7 os nm)=True:=fun hs cs b gF=>
  eq_true (sF (nm:=[2,1]) (o:=.box [.v (.bool b)]) rfl (sF (nm:=[1,1]) (o:=.box cs) (by simp[O.clos,gF]) (by rw[hO];trivial)))
 have h0:a7 os [0,1]=some (.box (fG none)):=by subst iy;rfl
 have h1:a7 os [1,1]=some (.box (fG o)):=by subst iy;rfl
 have h2:a7 os [2,1]=some (.box [.v (.bool o.isSome)]):=by subst iy;rfl
 have h3:a7 os [3,1]=some (.box [.ref [4,1] 0]):=by subst iy;rfl
 have h4:a7 os [4,1]=some (bu x [5,1] [6,1]):=by subst iy;rfl
 have h5:a7 os [5,1]=some (.map 2 (bS x.bk)):=by subst iy;rfl
 have h6:a7 os [6,1]=some (.map 0 (bI x.ds)):=by subst iy;rfl
 generalize hH:a7 os=H at *
 clear iy hH
 rw[e1]at h1
 have fm:pD Tryz.f119=(_,_,_):=rfl
 refine uq (z1 37 [0] H [(5,⟨true,.v (.ptr [vInt day])⟩),(8,⟨true,.ref [1,1] 0⟩),(9,⟨true,.ref [2,1] 0⟩),(18,⟨true,gh r⟩)] [] rfl rfl (fun _ _=>rfl) ?_ (by simp) ?_ ?_) ?_
 ·intro q hq
  simp only[List.mem_cons,List.not_mem_nil,or_false]at hq
  rcases hq with rfl | rfl | rfl | rfl<;>rfl
 ·simp[D.clos,D.closL,bY,own,gh]
 ·rw[hO];trivial
 simp only[gZ,fm]
 refine jL ?_
 repeat refine sq ?_
 refine aM hΓ fun K' hK=>?_
 simp only[go_sem,hO,h0,h1,h2,h3,h4,e2]
 repeat (refine⟨ao,?_⟩)
 refine hK _ ?_
 clear K' hK
 simp only[go_sem]
 (show CW _ _ _ _)
 refine jL ?_
 repeat refine sq ?_
 refine aH ?_
 repeat refine sq ?_
 refine rx hΓ [5,8,9,10,33] [[5,0],[8,0],[9,0],[10,0]] (fun K' hK=>by simp only[go_sem,hO,h0,h1,h2,h3,h4,e2];(repeat (refine⟨ao,?_⟩));exact hK _ (by simp only[go_sem,hO,h0,h1,h2,h3,h4,e2]) (by simp only[go_sem,hO,h0,h1,h2,h3,h4,e2]<;>rfl)) ?_
 repeat refine sq ?_
 refine av (fun hb=>?_) fun hb=>?_
 ·repeat refine sq ?_
  refine aM hΓ fun K' hK=>?_
  simp only[go_sem,hO,h0,h1,h2,h3,h4,e2]
  repeat (refine⟨ao,?_⟩)
  refine hK _ ?_
  clear K' hK
  simp only[go_sem]
  refine bE ?_
  rw[if_pos (by rw[<-Bool.and_eq_true];exact hb)]
  refine⟨rfl,?_⟩
  show cY _ [[0,1],[1,1],[2,1],[3,1],[4,1],[5,1],[6,1]] _
  simp only[cY,go_sem,h0,h1,h2,h3,h4,h5,h6]
  simp[fG,sp]
 ·repeat refine sq ?_
  refine ax ?_
  refine bE ?_
  simp only[go_sem]
  rw[if_neg (by rw[<-Bool.and_eq_true,hb];decide)]
  refine⟨rfl,?_⟩
  show cY _ [[0,1],[1,1],[2,1],[3,1],[4,1],[5,1],[6,1]] _
  simp only[cY,go_sem,h0,h1,h2,h3,h4,h5,h6,e1]
  first | done | exact⟨trivial,trivial⟩
def Hb(p:Name)(H:Name->Option O):List Name->List O->Prop
 |x::xs,o::os=>(own p x=true\/H x=some o)/\Hb p H xs os
 |_,_=>True
theorem FG{p:Name}{H:Name->Option O}{nm:Name}(hn:own p nm=false):∀ {Ls:List Name} {F:List O} {obj:Name->Option O},Hb p H Ls F->obj nm=H nm->dV Ls F obj nm=H nm
 |[],_,_,_,h=>by simpa[dV]using h
 |x::xs,[],_,_,h=>by simpa[dV]using h
 |x::xs,o::os,obj,hk,h=>by
  simp only[dV]
  refine FG hn hk.2 ?_
  by_cases e:nm=x
  ·subst e
   rw[aS]
   rcases hk.1 with h1 | h1
   ·rw[hn]at h1;cases h1
   ·exact h1.symm
  ·rw[a8 _ _ _ e];exact h
def K24:List (Nat×Spec):=[(164,S164)]
theorem aaY:KS K24:=tc BK<|tn
attribute [go_sem] K24
def Nl:VSpec:=v2 nq iI (fun x _ _=>nP x/\x.rs.Nodup) (fun x f day=>.tup [mb (hG x.rs f.pa f.le day),.v (.bool (hG x.rs f.pa f.le day).isSome)]) none
def S119:Spec:=Nl.toSpec
attribute [go_sem] Nl S119
set_option maxHeartbeats 8000000 in
theorem T8:aR Tryz.prog 119 S119:=by
 refine z8 (rs:=[.cell 6 36,.tmp 7]) Tryz.func119 Tryz.ntmps119 (by rfl) (by kernel_rfl) (by decide) (fun _ _ _=>by first | rfl | exact ma _ _ | simp[D.clos,D.closL,ma]) ⟨_,rfl,lb rfl,fun x f day hp H h0 h1 h2 hO aj=>?_⟩
 have hP:=dL
 simp only[nq,iI,se,bu,dC,List.map_cons,List.map_nil,Nat.zero_add,Option.map_some,Option.map_none]at h0 |-
 have hΓ:=aaY
 obtain⟨hv,cq⟩:=hp
 obtain⟨pa,le⟩:=f
 repeat refine sq ?_
 refine rx hΓ [0,4,5,6] [[4,0],[5,0],[6,0]] (fun K' hK=>by simp only[go_sem,hO,aj,h0,h1,h2];(repeat (refine⟨ao,?_⟩));exact hK _ (by simp only[go_sem,hO,aj,h0,h1,h2]) (by simp only[go_sem,hO,aj,h0,h1,h2]<;>rfl)) ?_
 refine dp (gy 4 (.ref [4,0] 0) (by simp only[go_sem]) (by simp only[go_sem]) [0,4,5,6] [[4,0],[5,0],[6,0]] ?_ rfl) ?_
 ·simp only[go_sem,hO,aj,h0,h1,h2]
 simp only[go_sem,hO,aj,h0,h1,h2]
 repeat refine sq ?_
 refine rx hΓ [0,4,5,6,8] [[4,0],[5,0],[6,0],[8,0]] (fun K' hK=>by simp only[go_sem,hO,aj,h0,h1,h2];(repeat (refine⟨ao,?_⟩));exact hK _ (by simp only[go_sem,hO,aj,h0,h1,h2]) (by simp only[go_sem,hO,aj,h0,h1,h2]<;>rfl)) ?_
 repeat refine sq ?_
 refine rx hΓ [0,4,5,6,8,9] [[4,0],[5,0],[6,0],[8,0],[9,0]] (fun K' hK=>by simp only[go_sem,hO,aj,h0,h1,h2];(repeat (refine⟨ao,?_⟩));exact hK _ (by simp only[go_sem,hO,aj,h0,h1,h2]) (by simp only[go_sem,hO,aj,h0,h1,h2]<;>rfl)) ?_
 repeat refine sq ?_
 refine rx hΓ [5,6,8,9,17] [[5,0],[6,0],[8,0],[9,0],[3,0,17,0]] (fun K' hK=>by simp only[go_sem,hO,aj,h0,h1,h2];(repeat (refine⟨ao,?_⟩));exact hK _ (by simp only[go_sem,hO,aj,h0,h1,h2]) (by simp only[go_sem,hO,aj,h0,h1,h2]<;>rfl)) ?_
 refine dp (gy 5 (.ref [5,0] 0) (by simp only[go_sem]) (by simp only[go_sem]) [5,6,8,9,17] [[5,0],[6,0],[8,0],[9,0],[3,0,17,0]] ?_ rfl) ?_
 ·simp only[go_sem,hO,aj,h0,h1,h2]
 simp only[go_sem,hO,aj,h0,h1,h2]
 repeat refine sq ?_
 refine aH ?_
 repeat refine sq ?_
 have gq:aR Tryz.prog 193 ((gZ x pa le day).itC (jM 3 pa [le])).toSpec:=FN (Ec x pa le day cq) (fun _=>rfl) (YG x pa le day cq) hv.rs hv.rn rfl (fun _=>rfl) (j:=3) (jc:=4) (show 3<7 by decide) rfl rfl
 refine Mo (Ec x pa le day cq) (YH x pa le day) (f:=193) 30 31 (Ls:=[[6,0],[8,0],[9,0],[3,0,17,0],[0,1],[1,1],[2,1]]) rfl rfl (by decide) gq rfl rfl rfl rfl rfl rfl (by decide) (show ([30,0]:Name)∉[[6,0],[8,0],[9,0],[3,0,17,0],[0,1],[1,1],[2,1]]by decide) ⟨rfl,rfl,rfl,rfl,h0,h1,h2,trivial⟩ fun o=>?_
 obtain⟨g1,g2⟩:=Lp.go_e (r:=gZ x pa le day) (fun _=>rfl)
 have g3:(gZ x pa le day).fam [[6,0],[8,0],[9,0],[3,0,17,0],[0,1],[1,1],[2,1]] (gZ x pa le day).e=[.box (fG none),.box (fG (hG x.rs pa le day)),.box [.v (.bool (hG x.rs pa le day).isSome)],.box [.ref [0,1] 0],bu x [1,1] [2,1],.map 2 (bS x.bk),.map 0 (bI x.ds)]:=by
  rw[g1,<-YE];rfl
 rw[g2,g3]
 simp only[xr,jl]
 refine bE ?_
 show CL Tryz.prog (_::_) _ _
 obtain⟨cs,gF,cw⟩:∃ cs,cs=fG (hG x.rs pa le day)/\∀ p,D.closL p cs=true:=⟨_,rfl,fun p=>zg p _⟩
 refine dp (dU.toM (z1 37 [0] H [(6,⟨true,.ref [6,0] 0⟩),(8,⟨true,.ref [8,0] 0⟩),(9,⟨true,.ref [9,0] 0⟩)] [([6,0],.box (fG none)),([8,0],.box (fG (hG x.rs pa le day))),([9,0],.box [.v (.bool (hG x.rs pa le day).isSome)])] rfl rfl (fun nm hn=>?_) ?_ ?_ ?_ (by rw[hO];trivial))) ?_
 ·have e1:nm≠[30,0]:=by rintro rfl;cases hn
  show upd _ [30,0] _ nm=_
  rw[a8 _ _ _ e1]
  exact FG hn ⟨.inl rfl,.inl rfl,.inl rfl,.inl rfl,.inr h0,.inr h1,.inr h2,trivial⟩ (by simp[bh,hn])
 ·intro q hq
  simp only[List.mem_cons,List.not_mem_nil,or_false]at hq
  rcases hq with rfl | rfl | rfl<;>rfl
 ·intro q hq
  simp only[List.mem_cons,List.not_mem_nil,or_false]at hq
  rcases hq with rfl | rfl | rfl<;>rfl
 ·simp[O.clos,D.closL,D.clos,zg,bY]
 clear gF cw
 generalize hG x.rs pa le day=o
 rcases o with _ | r
 ·simp only[fG,sp,Option.isSome]
  repeat refine sq ?_
  refine dx hΓ hP [[],[],[0],[0,1,2]] [6,7] [[6,0]] (by kernel_rfl) (fun K' hK=>by simp only[go_sem,hO,h0,h1,h2];(repeat (refine⟨ao,?_⟩));(first | refine⟨by rfl,?_⟩ | skip);exact hK _ (by simp only[go_sem,hO,h0,h1,h2]) (by simp only[go_sem,hO,h0,h1,h2]<;>rfl)) ?_
  refine au ?_
  simp only[go_sem,hO,h0,h1,h2]
  rfl
 ·simp only[fG,sp,Option.isSome]
  repeat refine sq ?_
  refine dx hΓ hP [[],[],[0],[0,1,2]] [6,7] [[6,0]] (by kernel_rfl) (fun K' hK=>by simp only[go_sem,hO,h0,h1,h2];(repeat (refine⟨ao,?_⟩));(first | refine⟨by rfl,?_⟩ | skip);exact hK _ (by simp only[go_sem,hO,h0,h1,h2]) (by simp only[go_sem,hO,h0,h1,h2]<;>rfl)) ?_
  refine au ?_
  simp only[go_sem,hO,h0,h1,h2]
  rfl
end
end Go.Eng
