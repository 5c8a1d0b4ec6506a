import Derived.Test.YtckmfkgppohnmaaDoorK14
/- Texts LV3 to NW90. -/
set_option linter.all false
set_option linter.constructorNameAsVariable false
namespace Go.Eng
open Go Go.Proofs
def g0(d:Dk):Bool:=(0 != d.wet)&&aF d.me d.pa
def g1(d:Dk):Bool:=(1 != d.wet)&&aF d.me d.pb
theorem aaz(d:Dk):fv d 0 (-1)=g0 d:=by
 show ((((0:Int) != d.wet)&&aF d.me d.pa)&&(decide ((-1:Int)<0)||decide ((d.pg 0).co>(d.pg (-1:Int).toNat).co)))=_
 rw[show decide ((-1:Int)<0)=true from rfl,Bool.true_or,Bool.and_true]
 rfl
theorem uN(d:Dk):bj d=if (g1 d&&(!g0 d||decide (d.pb.co>d.pa.co)))=true then 1 else if g0 d=true then 0 else -1:=by
 have h1:b7 d 1=if g0 d=true then 0 else -1:=by
  show (if fv d 0 (-1)=true then((0:Nat):Int)else -1)=_
  rw[aaz];rfl
 have h2:fv d 1 (b7 d 1)=(g1 d&&(!g0 d||decide (d.pb.co>d.pa.co))):=by
  rw[h1]
  unfold g1
  cases g0 d
  ·rw[if_neg (by decide)]
   rfl
  ·rw[if_pos rfl]
   rfl
 show (if fv d 1 (b7 d 1)=true then((1:Nat):Int)else b7 d 1)=_
 rw[h2,h1];rfl
theorem Fc{d:Dk}(hw:d.wet=0)(h:aF d.me d.pb=true):bj d=1:=by
 rw[uN]
 have a:g0 d=false:=by unfold g0;rw[hw];rfl
 have b:g1 d=true:=by unfold g1;rw[hw,h];rfl
 rw[a,b];rfl
theorem Fb{d:Dk}(hw:d.wet=1)(h:aF d.me d.pa=true):bj d=0:=by
 rw[uN]
 have a:g0 d=true:=by unfold g0;rw[hw,h];rfl
 have b:g1 d=false:=by unfold g1;rw[hw];rfl
 rw[a,b];rfl
theorem vH{me:Int}{s:Stk}{c:Int}(hs:e7 me s)(hc:0<=c/\c<=99999):aF me ⟨c,s,dL s c⟩=true:=by
 unfold aF
 rw[Bool.and_eq_true,Bool.and_eq_true,cf,ya]
 exact⟨⟨hc,hs⟩,by simp⟩
theorem Cj{me:Int}{p:Pg}(h:aF me p=true):e7 me p.st:=by
 unfold aF at h
 simp only[Bool.and_eq_true]at h
 exact ya.1 h.1.2
theorem G0{me c:Int}{s:Stk}{q:Pg}(hs:e7 me s)(hc:0<=c/\c<=99999)(hq:aF me q=true)(ae:q.co<c):
 ay ⟨me,s,⟨c,s,dL s c⟩,q,0⟩=true/\aE ⟨me,s,⟨c,s,dL s c⟩,q,0⟩=q.st/\dZ ⟨me,s,⟨c,s,dL s c⟩,q,0⟩:=by
 have hp:=vH (c:=c) hs hc
 refine⟨ju.2 ⟨hs,⟨by show (-1:Int)<=0;omega,by show (0:Int)<=1;omega⟩,?_⟩,?_,⟨hs.sz,fun i hi=>?_⟩⟩
 ·rw[po rfl]
  show ((aF me _&&aF me q)&&decide (c>q.co))=true
  rw[hp,hq,decide_eq_true ae];rfl
 ·unfold aE
  rw[Fc rfl hq];rfl
 ·match i,hi with
  | 0,_=>exact hs.sz
  | 1,_=>exact(Cj hq).sz
theorem GZ{me c:Int}{s:Stk}{q:Pg}(hs:e7 me s)(hc:0<=c/\c<=99999)(hq:aF me q=true)(ae:q.co<c):
 ay ⟨me,s,q,⟨c,s,dL s c⟩,1⟩=true/\aE ⟨me,s,q,⟨c,s,dL s c⟩,1⟩=q.st/\dZ ⟨me,s,q,⟨c,s,dL s c⟩,1⟩:=by
 have hp:=vH (c:=c) hs hc
 refine⟨ju.2 ⟨hs,⟨by show (-1:Int)<=1;omega,by show (1:Int)<=1;omega⟩,?_⟩,?_,⟨hs.sz,fun i hi=>?_⟩⟩
 ·rw[pn rfl]
  show ((aF me q&&aF me _)&&decide (c>q.co))=true
  rw[hp,hq,decide_eq_true ae];rfl
 ·unfold aE
  rw[Fb rfl hq];rfl
 ·match i,hi with
  | 0,_=>exact(Cj hq).sz
  | 1,_=>exact hs.sz
theorem qL{d:Dk}(h:ay d=true)(he:eI d=0):Kept d (cS d)/\aE (cS d)=aE d:=by
 have hV:cS d=eB d:=by unfold cS;rw[if_pos he]
 have hs:=(ju.1 h).1
 rw[hV]
 by_cases hw:d.wet<0
 ·have hc:(d.pg (bj d).toNat).co≠99999:=by
    intro hc
    have :=(G2 h hw hc).2
    rw[he]at this;cases this
  obtain⟨f0,f2,_,_⟩:=oZ h
  have hp:=Fe h
  have Ac:=tJ hp
  have ez:aE d=(d.pg (bj d).toNat).st:=rfl
  have hf:bj d=0\/bj d=1:=by omega
  rcases hf with hf | hf
  ·rw[hf]at hp Ac hc ez
   have e:eB d=⟨d.me,d.now,d.pa,⟨d.pa.co+1,d.now,dL d.now (d.pa.co+1)⟩,1⟩:=by
    unfold eB jc mU
    rw[if_pos hw,if_pos hw,hf];rfl
   have Zt:0<=d.pa.co/\d.pa.co<=99999:=Ac
   have jQ:d.pa.co≠99999:=hc
   obtain⟨a,b,c⟩:=GZ (c:=d.pa.co+1) hs ⟨by omega,by omega⟩ hp (by show d.pa.co<_;omega)
   rw[e,ez]
   exact⟨⟨a,rfl,fun _=>c⟩,b⟩
  ·rw[hf]at hp Ac hc ez
   have e:eB d=⟨d.me,d.now,⟨d.pb.co+1,d.now,dL d.now (d.pb.co+1)⟩,d.pb,0⟩:=by
    unfold eB jc mU
    rw[if_pos hw,if_pos hw,hf];rfl
   have Zt:0<=d.pb.co/\d.pb.co<=99999:=Ac
   have jQ:d.pb.co≠99999:=hc
   obtain⟨a,b,c⟩:=G0 (c:=d.pb.co+1) hs ⟨by omega,by omega⟩ hp (by show d.pb.co<_;omega)
   rw[e,ez]
   exact⟨⟨a,rfl,fun _=>c⟩,b⟩
 ·obtain⟨h1,h2,h3,h4,h5⟩:=o3 h hw
  have gX:d.wet=0\/d.wet=1:=by omega
  rcases gX with e | e
  ·have e':eB d=⟨d.me,d.now,⟨d.pa.co,d.now,dL d.now d.pa.co⟩,d.pb,0⟩:=by
     unfold eB jc mU
     rw[if_neg hw,if_neg hw,e];rfl
   rw[e]at h5
   have oX:d.pb.co<d.pa.co:=h5
   obtain⟨a,b,c⟩:=G0 (c:=d.pa.co) hs (tJ h1) h2 oX
   rw[e']
   exact⟨⟨a,rfl,fun _=>c⟩,by rw[b];unfold aE;rw[Fc e h2];rfl⟩
  ·have e':eB d=⟨d.me,d.now,d.pa,⟨d.pb.co,d.now,dL d.now d.pb.co⟩,1⟩:=by
     unfold eB jc mU
     rw[if_neg hw,if_neg hw,e];rfl
   rw[e]at h5
   have oX:d.pa.co<d.pb.co:=h5
   obtain⟨a,b,c⟩:=GZ (c:=d.pb.co) hs (tJ h2) h1 oX
   rw[e']
   exact⟨⟨a,rfl,fun _=>c⟩,by rw[b];unfold aE;rw[Fb e h1];rfl⟩
def yZ(a b:Bool)(x y:Int):Int:=if b=true then(if y>(if a=true then(if x> -1 then x else -1)else -1)then y else(if a=true then(if x> -1 then x else -1)else -1))else(if a=true then(if x> -1 then x else -1)else -1)
theorem ne_eq(d:Dk):oh d=yZ (g0 d) (g1 d) d.pa.co d.pb.co:=rfl
theorem CF{a b a' b':Bool}{x y:Int}(h1:a=true->a'=true)(h2:b=true->b'=true):yZ a b x y<=yZ a' b' x y:=by
 unfold yZ
 cases a<;>cases b<;>cases a'<;>cases b'<;>simp at h1 h2 |- <;>repeat' split
 all_goals first | omega | contradiction | skip
theorem UD(d:Dk)(s:Stk):oh (d.setN s)=oh d:=rfl
theorem Az{d:Dk}(h:ay d=true):Kept d (eX d)/\oh d<=oh (eX d):=by
 have hb:gQ d 0=false:=by unfold gQ;rw[show (Int.tmod 0 2 != 0)=false from rfl,Bool.and_false]
 have hk:=E9 (n:=0) h
 rw[nh hb]at hk
 rw[kx h]
 refine⟨⟨hk,rfl,fun hz=>⟨hz.now,fun i hi=>?_⟩⟩,?_⟩
 ·match i,hi with
  | 0,_=>exact hz.pg 0 (by omega)
  | 1,_=>exact hz.pg 1 (by omega)
 ·rw[ne_eq,ne_eq]
  refine CF (x:=d.pa.co) (y:=d.pb.co) (fun e=>?_) (fun e=>?_)
  ·unfold g0 at e |-
   rw[Bool.and_eq_true]at e
   show ((0:Int) != -1&&aF d.me d.pa)=true
   rw[e.2];rfl
  ·unfold g1 at e |-
   rw[Bool.and_eq_true]at e
   show ((1:Int) != -1&&aF d.me d.pb)=true
   rw[e.2];rfl
theorem E'{d:Dk}{n:Int}(h:ay d=true):Kept d (gH d n)/\oh d<=oh (gH d n)/\aE (gH d n)=(gH d n).now:=by
 have hk:=E9 (n:=n) h
 rw[nG h]
 have cF:=Cj (Fe hk)
 have aY:((iP d n).setW (-1)).me=d.me:=by
  cases hb:gQ d n
  ·rw[nh hb];rfl
  ·rw[nW hb];exact HG _ _ _
 have bh:dZ d->dZ ((iP d n).setW (-1)):=fun hz=>by
  cases hb:gQ d n
  ·rw[nh hb]
   exact⟨hz.now,fun i hi=>by match i,hi with | 0,_=>exact hz.pg 0 (by omega) | 1,_=>exact hz.pg 1 (by omega)⟩
  ·rw[nW hb]
   have hw:=vv hb
   obtain⟨h1,h2,h3,h4,_⟩:=o3 h hw
   have gX:d.wet=0\/d.wet=1:=by omega
   rcases gX with e | e<;>rw[e]
   ·exact⟨hz.now,fun i hi=>by match i,hi with | 0,_=>exact hz.pg 0 (by omega) | 1,_=>exact hz.pg 1 (by omega)⟩
   ·exact⟨hz.now,fun i hi=>by match i,hi with | 0,_=>exact hz.pg 0 (by omega) | 1,_=>exact hz.pg 1 (by omega)⟩
 refine⟨⟨FD hk cF,aY,fun hz=>BF (bh hz) cF⟩,?_,?_⟩
 ·show oh d<=oh (((iP d n).setW (-1)).setN _)
  rw[UD]
  cases hb:gQ d n
  ·rw[nh hb]
   have :=(Az h).2
   rw[kx h]at this
   exact this
  ·rw[nW hb]
   have hw:=vv hb
   obtain⟨h1,h2,h3,h4,_⟩:=o3 h hw
   have gX:d.wet=0\/d.wet=1:=by omega
   rw[ne_eq,ne_eq]
   rcases gX with e | e<;>rw[e]
   ·refine CF (x:=d.pa.co) (y:=d.pb.co) (fun k=>?_) (fun k=>?_)
    ·unfold g0 at k;rw[e]at k;cases k
    ·show ((1:Int) != -1&&aF d.me d.pb)=true
     rw[h2];rfl
   ·refine CF (x:=d.pa.co) (y:=d.pb.co) (fun k=>?_) (fun k=>?_)
    ·show ((0:Int) != -1&&aF d.me d.pa)=true
     rw[h1];rfl
    ·unfold g1 at k;rw[e]at k;cases k
 ·exact xf _ _
theorem I8{me:Int}{l:List Int}(h:od me l=true):ay (gw me l)=true:=by
 unfold od at h
 rw[Bool.and_eq_true,cf,IB]at h
 obtain⟨⟨m0,m5⟩,h1,h2,h3⟩:=h
 have z:∀ {α:Type} (x:α) (i:Nat),(ef fun _=>x).get i=x:=fun x i=>by
  unfold aS.get ef
  split<;>rfl
 have hs:∀ k:List Int,k.Pairwise (· < ·)->(∀ x∈k,1<=x/\x<=999)->k.length<=40->e7 me (dv k):=fun k a b c=>by
  refine⟨m0,by omega,a,b,c,z _ _,z _ _,z _ _,fun i _=>?_,fun i _=>?_,fun i _=>?_⟩
  ·rw[show (dv k).se.get i=0 from z _ _];omega
  ·rw[show (dv k).ta.get i=0 from z _ _];omega
  ·rw[show (dv k).un.get i=[]from z _ _];exact⟨trivial,by simp⟩
 have a:=hs l h1 h2 h3
 have b:=hs [] List.Pairwise.nil (fun _ h=>by cases h) (by simp)
 refine ju.2 ⟨a,⟨by show (-1:Int)<= -1;omega,by show (-1:Int)<=1;omega⟩,?_⟩
 rw[mV (show (-1:Int)<0 by decide)]
 have pa:=vH (c:=1) a ⟨by decide,by decide⟩
 have pb:=vH (c:=0) b ⟨by decide,by decide⟩
 show ((aF me ⟨1,dv l,dL (dv l) 1⟩||aF me ⟨0,zS,dL zS 0⟩)&&!((aF me ⟨1,dv l,dL (dv l) 1⟩&&aF me ⟨0,zS,dL zS 0⟩)&&((1:Int)==0)))=true
 rw[pa];simp
theorem Uy{me:Int}{l:List Int}(h:od me l=true):dZ (gw me l):=by
 have hk:=I8 h
 obtain⟨hs,_,_⟩:=ju.1 hk
 refine⟨hs.sz,fun i hi=>?_⟩
 match i,hi with
 | 0,_=>exact hs.sz
 | 1,_=>exact IV.sz
end Go.Eng
set_option linter.constructorNameAsVariable false
namespace Go.Eng
open Go Go.Proofs
theorem Q9(f:Nat)(s:Stk)(p:Par):(gP f s p).un=s.un:=by
 unfold gP
 split<;>rfl
theorem Hq(f:Nat)(ps:List Par)(s0:Stk):∀ z,(bO f ps s0 z).un=s0.un
 | 0=>rfl
 |z+1=>(Q9 f _ _).trans (Hq f ps s0 z)
def Sx.set(x:Sx)(k:Nat)(d:Dk):Sx:=⟨x.ds.set k d,x.bs⟩
def dq(y:Act):Int:=y.kd % 16
def db(y:Act):Nat:=(y.dk % 6).toNat
def lD(y:Act):Int:=y.to % 6
def jt(x:Sx)(y:Act):Bag:=x.bs.getD (y.pi % (x.bs.length:Int)).toNat default
def im(x:Sx)(y:Act):Sx:=
 if dq y<=2 then(if cG (x.ds.get (db y)) (gT (x.ds.get (db y)).now.ho y.pp) (lD y)=0 then x.set (db y) (ir (x.ds.get (db y)) (gT (x.ds.get (db y)).now.ho y.pp) (lD y))else x)
 else if dq y<=4 then(if eI (x.ds.get (db y))=0 then x.set (db y) (cS (x.ds.get (db y)))else x)
 else if dq y<=6 then(if k9 (x.ds.get (db y))=0 then x.set (db y) (eX (x.ds.get (db y)))else x)
 else if dq y<=7 then(if k9 (x.ds.get (db y))=0 then x.set (db y) (gH (x.ds.get (db y)) y.pi)else x)
 else if dq y<=10 then(if ep (x.ds.get (db y)) (lD y)=0 then⟨x.ds,x.bs++[fI (x.ds.get (db y)) (lD y)]⟩else x)
 else if x.bs=[]then x
 else if fZ (x.ds.get (jt x y).to.toNat) (jt x y)=0 then x.set (jt x y).to.toNat (eK (x.ds.get (jt x y).to.toNat) (jt x y))else x
structure iL (x:Sx) (n:Nat):Prop where
 ok:∀ i,i<6->ay (x.ds.get i)=true
 me:∀ i,i<6->(x.ds.get i).me=i
 sz:∀ i,i<6->dZ (x.ds.get i)
 bg:∀ b∈x.bs,0<=b.to/\b.to<6
 ln:x.bs.length<=n
theorem xl{x:Sx}{y:Act}(h:dq y=0\/dq y=1\/dq y=2):im x y=if cG (x.ds.get (db y)) (gT (x.ds.get (db y)).now.ho y.pp) (lD y)=0 then x.set (db y) (ir (x.ds.get (db y)) (gT (x.ds.get (db y)).now.ho y.pp) (lD y))else x:=if_pos (by omega)
theorem AB{x:Sx}{y:Act}(h:dq y=3\/dq y=4):im x y=if eI (x.ds.get (db y))=0 then x.set (db y) (cS (x.ds.get (db y)))else x:=by
 unfold im;rw[if_neg (by omega),if_pos (by omega)]
theorem AD{x:Sx}{y:Act}(h:dq y=5\/dq y=6):im x y=if k9 (x.ds.get (db y))=0 then x.set (db y) (eX (x.ds.get (db y)))else x:=by
 unfold im;rw[if_neg (by omega),if_neg (by omega),if_pos (by omega)]
theorem FB{x:Sx}{y:Act}(h:dq y=7):im x y=if k9 (x.ds.get (db y))=0 then x.set (db y) (gH (x.ds.get (db y)) y.pi)else x:=by
 unfold im;rw[if_neg (by omega),if_neg (by omega),if_neg (by omega),if_pos (by omega)]
theorem xm{x:Sx}{y:Act}(h:dq y=8\/dq y=9\/dq y=10):im x y=if ep (x.ds.get (db y)) (lD y)=0 then⟨x.ds,x.bs++[fI (x.ds.get (db y)) (lD y)]⟩else x:=by
 unfold im;rw[if_neg (by omega),if_neg (by omega),if_neg (by omega),if_neg (by omega),if_pos (by omega)]
theorem FA{x:Sx}{y:Act}(h:11<=dq y)(hb:x.bs=[]):im x y=x:=by
 unfold im;rw[if_neg (by omega),if_neg (by omega),if_neg (by omega),if_neg (by omega),if_neg (by omega),if_pos hb]
theorem Fy{x:Sx}{y:Act}(h:11<=dq y)(hb:x.bs≠[]):im x y=if fZ (x.ds.get (jt x y).to.toNat) (jt x y)=0 then x.set (jt x y).to.toNat (eK (x.ds.get (jt x y).to.toNat) (jt x y))else x:=by
 unfold im;rw[if_neg (by omega),if_neg (by omega),if_neg (by omega),if_neg (by omega),if_neg (by omega),if_neg hb]
theorem aS.get_set_all{α:Type}{Q:Nat->α->Prop}{s:aS α}{k:Nat}{d:α}(hk:k<6)(h:∀ i,i<6->Q i (s.get i))(hd:Q k d):∀ i,i<6->Q i ((s.set k d).get i):=fun i hi=>by
 by_cases e:i=k
 ·subst e;rw[(s.get_set (i:=i) (j:=i) d hk).1];exact hd
 ·rw[(s.get_set (i:=k) (j:=i) d hk).2 hi e];exact h i hi
theorem iL.kept{x:Sx}{n k:Nat}{e:Dk}(h:iL x n)(hk:k<6)(he:Kept (x.ds.get k) e):iL (x.set k e) n:=
 ⟨aS.get_set_all (Q:=fun _ d=>ay d=true) hk h.ok he.ok,aS.get_set_all (Q:=fun i (d:Dk)=>d.me=(i:Int)) hk h.me (he.me.trans (h.me k hk)),aS.get_set_all (Q:=fun _ d=>dZ d) hk h.sz (he.sz (h.sz k hk)),h.bg,h.ln⟩
theorem iL.mono{x:Sx}{n m:Nat}(h:iL x n)(hm:n<=m):iL x m:=⟨h.ok,h.me,h.sz,h.bg,Nat.le_trans h.ln hm⟩
theorem FC(y:Act):db y<6:=by unfold db;omega
theorem AE{x:Sx}{y:Act}(h:x.bs≠[]):jt x y∈x.bs:=by
 have hl:=List.length_pos_iff.2 h
 have g0:=Int.emod_nonneg y.pi (by omega:(x.bs.length:Int)≠0)
 have g1:=Int.emod_lt_of_pos y.pi (by omega:(0:Int)<(x.bs.length:Int))
 unfold jt
 rw[getD_at (by omega)]
 exact List.getElem_mem _
theorem aaN{x:Sx}{y:Act}{n:Nat}(h:iL x n):iL (im x y) (n+1):=by
 have hk:=FC y
 have hd:=h.ok _ hk
 have h':=h.mono (Nat.le_succ n)
 have eQ:0<=dq y:=by unfold dq;omega
 by_cases c1:dq y<=2
 ·rw[xl (by omega)]
  split
  ·next he=>exact h'.kept hk (HK hd he).1
  ·exact h'
 by_cases c2:dq y<=4
 ·rw[AB (by omega)]
  split
  ·next he=>exact h'.kept hk (qL hd he).1
  ·exact h'
 by_cases c3:dq y<=6
 ·rw[AD (by omega)]
  split
  ·exact h'.kept hk (Az hd).1
  ·exact h'
 by_cases c4:dq y<=7
 ·rw[FB (by omega)]
  split
  ·exact h'.kept hk (E' hd).1
  ·exact h'
 by_cases c5:dq y<=10
 ·rw[xm (by omega)]
  split
  ·next he=>
   refine⟨h.ok,h.me,h.sz,fun b hb=>?_,?_⟩
   ·rcases List.mem_append.1 hb with hb | hb
    ·exact h.bg b hb
    ·simp only[List.mem_cons,List.not_mem_nil,or_false]at hb
     subst hb
     have hp:0<=lD y/\lD y<6:=by unfold lD;omega
     unfold fI
     split
     ·exact hp
     ·exact⟨by show (0:Int)<=0;omega,by show (0:Int)<6;omega⟩
   ·show (x.bs++_).length<=n+1
    have :=h.ln
    rw[List.length_append]
    simp only[List.length_cons,List.length_nil]
    omega
  ·exact h'
 by_cases c6:x.bs=[]
 ·rw[FA (by omega) c6];exact h'
 ·rw[Fy (by omega) c6]
  have hb:=h.bg _ (AE (y:=y) c6)
  split
  ·next he=>exact h'.kept (by omega) (Cu (h.ok _ (by omega)) he).1.1
  ·exact h'
def th(l:List Act):Nat->Sx
 | 0=>mK 6
 |z+1=>im (th l z) (l.getD z default)
theorem xz:iL (mK 6) 0:=by
 have e:∀ i,i<6->(mK 6).ds.get i=gw i (bM i)/\od i (bM i)=true:=fun i hi=>
  jB (P:=fun i=>(mK 6).ds.get i=gw i (bM i)/\od i (bM i)=true) ⟨rfl,rfl⟩ ⟨rfl,rfl⟩ ⟨rfl,rfl⟩ ⟨rfl,rfl⟩ ⟨rfl,rfl⟩ ⟨rfl,rfl⟩ hi
 exact⟨fun i hi=>by rw[(e i hi).1];exact I8 (e i hi).2,fun i hi=>by rw[(e i hi).1];rfl,fun i hi=>by rw[(e i hi).1];exact Uy (e i hi).2,fun b hb=>(by rw[Gg]at hb;cases hb),by rw[Gg];exact Nat.le_refl _⟩
end Go.Eng
set_option linter.constructorNameAsVariable false
namespace Go.Eng
open Go Go.Proofs
def bk(f:Nat->Nat):Nat:=f 0+f 1+f 2+f 3+f 4+f 5
theorem na{f g:Nat->Nat}(h:∀ i,i<6->f i=g i):bk f=bk g:=by
 unfold bk
 rw[h 0 (by omega),h 1 (by omega),h 2 (by omega),h 3 (by omega),h 4 (by omega),h 5 (by omega)]
theorem x9(f g:Nat->Nat):bk (fun i=>f i+g i)=bk f+bk g:=by
 simp only[bk];omega
theorem vp{f:Nat->Nat}{i:Nat}(h:i<6):f i<=bk f:=by
 unfold bk
 match i,h with
 | 0,_=>omega
 | 1,_=>omega
 | 2,_=>omega
 | 3,_=>omega
 | 4,_=>omega
 | 5,_=>omega
theorem Ry(f:Nat->Nat->Nat):bk (fun i=>bk fun j=>f i j)=bk (fun j=>bk fun i=>f i j):=by
 simp only[bk];omega
theorem Hl{f g:Nat->Nat}{i:Nat}(hi:i<6)(h:∀ k,k<6->k≠i->f k=g k):bk f+g i=bk g+f i:=by
 have a:∀ k,k<6->k=i\/f k=g k:=fun k hk=>by
  by_cases e:k=i
  ·exact .inl e
  ·exact .inr (h k hk e)
 have h0:=a 0 (by omega)
 have h1:=a 1 (by omega)
 have h2:=a 2 (by omega)
 have h3:=a 3 (by omega)
 have h4:=a 4 (by omega)
 have h5:=a 5 (by omega)
 unfold bk
 match i,hi with
 | 0,_=>omega
 | 1,_=>omega
 | 2,_=>omega
 | 3,_=>omega
 | 4,_=>omega
 | 5,_=>omega
def ct(x:Int)(l:List Int)(n:Int):Nat:=(l.take n.toNat).count x
theorem abj{x:Int}{l l':List Int}{n:Int}(h:l.take n.toNat=l'.take n.toNat):ct x l n=ct x l' n:=by unfold ct;rw[h]
theorem abk{x:Int}{l r:List Int}{n:Int}(h:n<=(l.length:Int)):ct x (l++r) n=ct x l n:=by
 unfold ct
 rw[List.take_append_of_le_length (by omega)]
theorem abi(x:Int)(l:List Int)(y:Int){n:Int}(h:(l.length:Int)=n):ct x (l++[y]) (n+1)=ct x l n+(if y=x then 1 else 0):=by
 unfold ct
 rw[List.take_of_length_le (by rw[List.length_append];simp only[List.length_cons,List.length_nil];omega),List.take_of_length_le (by omega),List.count_append]
 congr 1
 by_cases e:y=x
 ·rw[if_pos e,e];simp
 ·rw[if_neg e];simp[List.count_cons,e]
theorem F0{x:Int}{l:List Int}{n:Int}{y:Int}(h0:0<=n)(h:l[n.toNat]?=some y):ct x l (n+1)=ct x l n+(if y=x then 1 else 0):=by
 unfold ct
 rw[show (n+1).toNat=n.toNat+1 by omega,List.take_add_one,h,List.count_append]
 congr 1
 by_cases e:y=x
 ·rw[if_pos e,e];simp
 ·rw[if_neg e];simp[List.count_cons,e]
theorem N4(x:Int)(l:List Int){m n:Int}(h:m<=n):ct x l m<=ct x l n:=by
 unfold ct
 exact(List.Sublist.count_le x (List.take_sublist_take_left (by omega)))
theorem N3{x:Int}{l:List Int}{m n:Int}(h:m<=n):ct x (l.take n.toNat) m=ct x l m:=by
 unfold ct
 rw[List.take_take,Nat.min_eq_left (by omega)]
theorem at_take{l l':List Int}{m:Int}{i:Nat}(h:l.take m.toNat=l'.take m.toNat)(hi:i<m.toNat):l[i]?=l'[i]?:=by
 have :=congrArg (fun z=>z[i]?) h
 simpa[List.getElem?_take,hi]using this
theorem aaG{l:List Int}{p x:Int}(hs:l.Pairwise (· < ·))(hp:p∈l):(jT l p l.length).count x+(if p=x then 1 else 0)=l.count x:=by
 unfold jT
 rw[List.take_length]
 have iT:l.Nodup:=hs.imp (fun h=>by omega)
 by_cases e:p=x
 ·subst e
  rw[if_pos rfl,List.count_eq_zero_of_not_mem (by simp[List.mem_filter]),iT.count,if_pos hp]
 ·rw[if_neg e,List.count_filter (by simp[Ne.symm e])]
  rfl
theorem XG(l:List Int)(p x:Int):(cE l p).count x=l.count x+(if p=x then 1 else 0):=by
 unfold cE
 rw[List.count_append,List.count_append]
 have :(l.take (cQ l p)).count x+(l.drop (cQ l p)).count x=l.count x:=by
  rw[<-List.count_append,List.take_append_drop]
 have h2:List.count x [p]=if p=x then 1 else 0:=by
  by_cases e:p=x
  ·rw[if_pos e,e];simp
  ·rw[if_neg e];simp[List.count_cons,e]
 omega
theorem vi{e:Int}:∀ {l:List Par},PT e l->∀ p∈l,e-l.length<p.no/\p.no<=e
 |[],_,p,h=>by cases h
 |q::r,⟨h1,h2,h3⟩,p,h=>by
  rcases List.mem_cons.1 h with rfl | h
  ·simp only[List.length_cons];omega
  ·have:=vi h3 p h
   simp only[List.length_cons];omega
theorem QZ{e ta:Int}{l:List Par}(h:PT e l):e-(jz l ta l.length).length<=e-l.length\/e-(jz l ta l.length).length<=ta:=by
 unfold jz
 rw[List.take_length]
 induction l with
 |nil=>left;simp
 |cons p r ih=>
  obtain⟨h1,h2,h3⟩:=h
  by_cases hp:p.no>ta
  ·left
   have :(p::r).filter (fun p=>decide (p.no>ta))=p::r:=by
    rw[List.filter_eq_self]
    intro q hq
    have :=vi (e:=e) (l:=p::r) ⟨h1,h2,h3⟩ q hq
    simp only[List.length_cons]at this
    simp only[gt_iff_lt,decide_eq_true_eq]
    omega
   rw[this];exact Int.le_refl _
  ·right
   rw[List.filter_cons_of_neg (by simpa using hp)]
   have :=ih h3
   omega
theorem Gc{lg:List Int}{e t x:Int}(he:(lg.length:Int)=e)(h0:0<=t):∀ {l:List Par},PT e l->(∀ p∈l,lg[(p.no-1).toNat]?=some p.pa)->e-l.length<=t->
 (l.filter fun p=>p.pa==x&&decide (p.no>t)).length+ct x lg t=ct x lg (max e t)
 |[],_,_,hc=>by
  simp only[List.filter_nil,List.length_nil,Nat.zero_add]
  have :max e t=t:=by simp only[List.length_nil]at hc;omega
  rw[this]
 |p::r,⟨h1,h2,h3⟩,hl,hc=>by
  have wH:∀ p∈r,lg[(p.no-1).toNat]?=some p.pa:=fun q hq=>hl q (List.mem_cons_of_mem _ hq)
  have hp:=hl p (List.mem_cons_self ..)
  simp only[List.length_cons]at hc
  by_cases ht:p.no>t
  ·
   have LB:p.no=t+1:=by omega
   have ih:=Gc (x:=x) (t:=t+1) he (by omega) h3 wH (by omega)
   have hm:max e (t+1)=max e t:=by omega
   rw[hm]at ih
   have hn:=F0 (x:=x) (l:=lg) (n:=t) (y:=p.pa) h0 (by rw[<-hp];congr 1;omega)
   rw[hn]at ih
   have hf:r.filter (fun p=>p.pa==x&&decide (p.no>t))=r.filter (fun p=>p.pa==x&&decide (p.no>t+1)):=by
    apply List.filter_congr
    intro q hq
    have :=vi h3 q hq
    have a:decide (q.no>t)=true:=by simp only[gt_iff_lt,decide_eq_true_eq];omega
    have b:decide (q.no>t+1)=true:=by simp only[gt_iff_lt,decide_eq_true_eq];omega
    rw[a,b]
   by_cases e:p.pa=x
   ·rw[List.filter_cons_of_pos (by simp[e,ht]),List.length_cons,hf]
    rw[if_pos e]at ih
    omega
   ·rw[List.filter_cons_of_neg (by simp[e]),hf]
    rw[if_neg e]at ih
    omega
  ·rw[List.filter_cons_of_neg (by simp[ht])]
   exact Gc he h0 h3 wH (by omega)
end Go.Eng
set_option linter.constructorNameAsVariable false
namespace Go.Eng
open Go Go.Proofs
def gf(d:Dk)(s:Stk):Prop:=s=aE d\/s=d.now\/(0<=d.wet/\s=(d.pg d.wet.toNat).st)
theorem zn{d:Dk}{s t:Stk}(h:gf (d.setN t) s):s=t\/(s=aE d\/(0<=d.wet/\s=(d.pg d.wet.toNat).st)):=by
 rcases h with rfl | rfl | ⟨hw,rfl⟩
 ·rw[xf];exact .inr (.inl rfl)
 ·exact .inl rfl
 ·rw[qW];exact .inr (.inr ⟨hw,rfl⟩)
theorem GY{d:Dk}(h:ay d=true)(he:eI d=0){s:Stk}(hs:gf (cS d) s):gf d s:=by
 have hf:=(qL h he).2
 have hV:cS d=eB d:=by unfold cS;rw[if_pos he]
 have hn:(cS d).now=d.now:=by
  rw[hV];unfold eB;rw[Dk.now_set];rfl
 have hw:(cS d).wet=jc d:=by
  rw[hV];unfold eB;rw[BV];rfl
 rcases hs with rfl | rfl | ⟨ew,rfl⟩
 ·rw[hf];exact .inl rfl
 ·rw[hn];exact .inr (.inl rfl)
 ·refine .inr (.inl ?_)
  rw[hw]at ew |-
  have h2:(jc d).toNat<2:=by
   unfold jc at ew |-
   obtain⟨f0,f2,_⟩:=oZ h
   have :=AF h
   split<;>omega
  rw[hV]
  unfold eB
  rw[Dk.pg_set _ h2]
theorem GX{d:Dk}(he:eI d=0):(cS d).now=d.now:=by
 have hV:cS d=eB d:=by unfold cS;rw[if_pos he]
 rw[hV];unfold eB;rw[Dk.now_set];rfl
theorem Qx{d:Dk}(h:ay d=true){n:Int}(hn:d.pa.co<=n/\d.pb.co<=n)(he:eI d=0):(cS d).pa.co<=n+1/\(cS d).pb.co<=n+1:=by
 have hV:cS d=eB d:=by unfold cS;rw[if_pos he]
 have hc:∀ i,(d.pg i).co<=n:=fun i=>by
  match i with
  | 0=>exact hn.1
  |_+1=>exact hn.2
 have hC:mU d<=n+1:=by
  unfold mU
  split
  ·have:=hc (bj d).toNat;omega
  ·have:=hc d.wet.toNat;omega
 rw[hV]
 unfold eB
 match (jc d).toNat with
 | 0=>exact⟨hC,by show d.pb.co<=n+1;omega⟩
 |_+1=>exact⟨by show d.pa.co<=n+1;omega,hC⟩
theorem Qw{d:Dk}(h:ay d=true)(hn:d.pa.co<99999/\d.pb.co<99999):eI d=0:=by
 by_cases hw:d.wet<0
 ·refine(G1 h hw ?_).2
  match (bj d).toNat with
  | 0=>show d.pa.co≠99999;omega
  |_+1=>show d.pb.co≠99999;omega
 ·exact(G3 h hw).2
theorem NF{d:Dk}(h:ay d=true):eX d=d\/(0<=d.wet/\aE (d.setW (-1))=(d.pg d.wet.toNat).st):=by
 rw[kx h]
 have hr:=AF h
 by_cases hw:d.wet<0
 ·left
  have :d.wet= -1:=by omega
  rw[<-this];rfl
 ·right
  refine⟨by omega,?_⟩
  obtain⟨h1,h2,_,_,h5⟩:=o3 h hw
  have a:g0 (d.setW (-1))=true:=by
   show ((0:Int) != -1&&aF d.me d.pa)=true
   rw[h1];rfl
  have b:g1 (d.setW (-1))=true:=by
   show ((1:Int) != -1&&aF d.me d.pb)=true
   rw[h2];rfl
  have e:bj (d.setW (-1))=if decide (d.pb.co>d.pa.co)=true then 1 else 0:=by
   rw[uN,a,b]
   show (if (true&&(!true||decide (d.pb.co>d.pa.co)))=true then(1:Int)else if true=true then 0 else -1)=_
   simp
  have gX:d.wet=0\/d.wet=1:=by omega
  unfold aE
  rw[e]
  rcases gX with hx | hx
  ·rw[hx]at h5 |-
   have oX:d.pb.co<d.pa.co:=h5
   rw[if_neg (by simp;omega)];rfl
  ·rw[hx]at h5 |-
   have oX:d.pa.co<d.pb.co:=h5
   rw[if_pos (by simp;omega)];rfl
theorem Fv{d:Dk}(h:ay d=true){s:Stk}(hs:gf (eX d) s):gf d s/\(s=aE (eX d)\/s=d.now):=by
 rcases NF h with e | ⟨hw,e⟩
 ·rw[e]at hs |-
  refine⟨hs,?_⟩
  have hwn:d.wet<0:=by
   have :(eX d).wet= -1:=by rw[kx h];rfl
   rw[e]at this;omega
  rcases hs with h | h | ⟨h,_⟩
  ·exact .inl h
  ·exact .inr h
  ·omega
 ·have hd:=kx h
  rcases hs with h1 | h1 | ⟨h1,_⟩
  ·refine⟨.inr (.inr ⟨hw,?_⟩),.inl h1⟩
   rw[h1,hd,e]
  ·rw[hd]at h1
   exact⟨.inr (.inl h1),.inr h1⟩
  ·rw[hd]at h1
   have :(d.setW (-1)).wet= -1:=rfl
   omega
theorem sy{d:Dk}:gf d (aE d):=.inl rfl
theorem jh{d:Dk}:gf d d.now:=.inr (.inl rfl)
theorem ND{d:Dk}(h:ay d=true):(eX d).now=d.now:=by rw[kx h];rfl
theorem Fu{d:Dk}(h:ay d=true):gf d (aE (eX d)):=(Fv h sy).1
theorem aaB{d:Dk}(n:Int)(h:ay d=true):aE (gH d n)=aE d\/aE (gH d n)=aE (eX d):=by
 have hE:aE (gH d n)=aE ((iP d n).setW (-1)):=by rw[nG h];exact xf _ _
 rw[hE]
 cases hb:gQ d n
 ·rw[nh hb,kx h]
  exact .inr rfl
 ·left
  have hw:=vv hb
  obtain⟨h1,h2,h3,h4,_⟩:=o3 h hw
  rw[nW hb]
  have gX:d.wet=0\/d.wet=1:=by omega
  rcases gX with e | e
  ·rw[e]
   have hs:=yz h1
   have a:g0 ((d.setP 0 ⟨d.pa.co,d.pa.st,(d.pa.su+1).tmod 1000003⟩).setW (-1))=false:=by
    show ((0:Int) != -1&&aF d.me ⟨d.pa.co,d.pa.st,(d.pa.su+1).tmod 1000003⟩)=false
    rw[hs];rfl
   have b:g1 ((d.setP 0 ⟨d.pa.co,d.pa.st,(d.pa.su+1).tmod 1000003⟩).setW (-1))=true:=by
    show ((1:Int) != -1&&aF d.me d.pb)=true
    rw[h2];rfl
   have hf:bj ((d.setP 0 ⟨d.pa.co,d.pa.st,(d.pa.su+1).tmod 1000003⟩).setW (-1))=1:=by
    rw[uN,a,b];rfl
   show aE ((d.setP 0 ⟨d.pa.co,d.pa.st,(d.pa.su+1).tmod 1000003⟩).setW (-1))=_
   unfold aE
   rw[hf,Fc e h2];rfl
  ·rw[e]
   have hs:=yz h2
   have a:g0 ((d.setP 1 ⟨d.pb.co,d.pb.st,(d.pb.su+1).tmod 1000003⟩).setW (-1))=true:=by
    show ((0:Int) != -1&&aF d.me d.pa)=true
    rw[h1];rfl
   have b:g1 ((d.setP 1 ⟨d.pb.co,d.pb.st,(d.pb.su+1).tmod 1000003⟩).setW (-1))=false:=by
    show ((1:Int) != -1&&aF d.me ⟨d.pb.co,d.pb.st,(d.pb.su+1).tmod 1000003⟩)=false
    rw[hs];rfl
   have hf:bj ((d.setP 1 ⟨d.pb.co,d.pb.st,(d.pb.su+1).tmod 1000003⟩).setW (-1))=0:=by
    rw[uN,a,b];rfl
   show aE ((d.setP 1 ⟨d.pb.co,d.pb.st,(d.pb.su+1).tmod 1000003⟩).setW (-1))=_
   unfold aE
   rw[hf,Fb e h1];rfl
theorem Nc{d:Dk}(n:Int)(h:ay d=true){s:Stk}(hs:gf (gH d n) s):s=aE (gH d n):=by
 have hn:=(E' (n:=n) h).2.2
 have hw:(gH d n).wet= -1:=by rw[nG h];rfl
 rcases hs with h1 | h1 | ⟨h1,_⟩
 ·exact h1
 ·rw[hn];exact h1
 ·omega
theorem Nb{d:Dk}(n:Int)(h:ay d=true):(gH d n).pa.co=d.pa.co/\(gH d n).pb.co=d.pb.co:=by
 rw[nG h]
 show (iP d n).pa.co=d.pa.co/\(iP d n).pb.co=d.pb.co
 cases hb:gQ d n
 ·rw[nh hb];exact⟨rfl,rfl⟩
 ·rw[nW hb]
  match d.wet.toNat with
  | 0=>exact⟨rfl,rfl⟩
  |_+1=>exact⟨rfl,rfl⟩
end Go.Eng
set_option linter.constructorNameAsVariable false
namespace Go.Eng
open Go Go.Proofs
theorem Sx.get_set(x:Sx){k:Nat}(hk:k<6)(e:Dk):(x.set k e).ds.get k=e:=(x.ds.get_set (i:=k) (j:=k) e hk).1
theorem Sx.get_ne(x:Sx){k i:Nat}(hk:k<6)(hi:i<6)(aj:i≠k)(e:Dk):(x.set k e).ds.get i=x.ds.get i:=(x.ds.get_set (i:=k) (j:=i) e hk).2 hi aj
structure Si (aR:Nat->List Int) (lg:Nat->Nat->List Int) (i:Nat) (d:Dk) (s:Stk):Prop where
 ok:e7 (i:Int) s
 sl:∀ j,j<6->(aE d).se.get j<=s.se.get j
 su:∀ j,j<6->s.se.get j<=d.now.se.get j
 tl:∀ j,j<6->(aE d).ta.get j<=s.ta.get j
 tu:∀ j,j<6->s.ta.get j<=d.now.ta.get j
 un:∀ j,j<6->∀ p∈s.un.get j,(lg i j)[(p.no-1).toNat]?=some p.pa
 co:∀ x,s.ho.count x+bk (fun j=>ct x (lg i j) (s.se.get j))=(aR i).count x+bk (fun j=>ct x (lg j i) (s.ta.get j))
structure qJ (lg:Nat->Nat->List Int) (x:Sx) (b:Bag):Prop where
 ok:fR b=true
 un:∀ p∈b.ps,(lg b.fr.toNat b.to.toNat)[(p.no-1).toNat]?=some p.pa/\p.no<=(aE (x.ds.get b.fr.toNat)).se.get b.to.toNat
 ta:b.ta<=(aE (x.ds.get b.fr.toNat)).ta.get b.to.toNat
structure bw (aR:Nat->List Int) (lg:Nat->Nat->List Int) (x:Sx) (n:Nat):Prop where
 ok:∀ i,i<6->ay (x.ds.get i)=true
 me:∀ i,i<6->(x.ds.get i).me=(i:Int)
 len:∀ i,i<6->∀ j,j<6->((lg i j).length:Int)=(x.ds.get i).now.se.get j
 st:∀ i,i<6->∀ s,gf (x.ds.get i) s->Si aR lg i (x.ds.get i) s
 acks:∀ i,i<6->∀ j,j<6->(x.ds.get j).now.ta.get i<=(aE (x.ds.get i)).se.get j
 cov:∀ i,i<6->∀ s,gf (x.ds.get i) s->∀ j,j<6->s.se.get j-((s.un.get j).length:Int)<=(aE (x.ds.get j)).ta.get i
 bags:∀ b∈x.bs,qJ lg x b
 cnt:∀ i,i<6->(x.ds.get i).pa.co<=(n:Int)+1/\(x.ds.get i).pb.co<=(n:Int)+1
theorem e7.d0{k:Nat}{s:Stk}(h:e7 (k:Int) s):s.un.get k=[]/\s.se.get k=0/\s.ta.get k=0:=by
 have a:=h.u0;have b:=h.s0;have c:=h.t0
 simp only[Int.toNat_natCast]at a b c
 exact⟨a,b,c⟩
theorem u9{b:Bag}(h:fR b=true):b.fr.toNat<6/\b.to.toNat<6/\b.fr.toNat≠b.to.toNat/\0<=b.fr/\0<=b.to/\cw b.ps=true/\0<=b.ta:=by
 unfold fR at h
 simp only[Bool.and_eq_true]at h
 obtain⟨⟨⟨⟨h1,h2⟩,h3⟩,h4⟩,h5⟩:=h
 have h1:=cf.1 h1
 have h2:=cf.1 h2
 have h5:=cf.1 h5
 have h3:b.fr≠b.to:=by simpa using h3
 exact⟨by omega,by omega,by omega,by omega,by omega,h4,h5.1⟩
theorem bw.set{aR:Nat->List Int}{lg dn:Nat->Nat->List Int}{x:Sx}{n m k:Nat}{e:Dk}(h:bw aR lg x n)(hk:k<6)(al:n<=m)
 (ok:ay e=true) (me:e.me=(k:Int))
 (hl:∀ a b,a≠k->dn a b=lg a b)
 (len:∀ j,j<6->((dn k j).length:Int)=e.now.se.get j)
 (pre:∀ j,j<6->(dn k j).take ((aE (x.ds.get k)).se.get j).toNat=(lg k j).take ((aE (x.ds.get k)).se.get j).toNat)
 (fse:∀ j,j<6->(aE (x.ds.get k)).se.get j<=(aE e).se.get j)
 (fta:∀ j,j<6->(aE (x.ds.get k)).ta.get j<=(aE e).ta.get j)
 (st:∀ s,gf e s->Si aR dn k e s)
 (acks:∀ j,j<6->j≠k->e.now.ta.get j<=(aE (x.ds.get j)).se.get k)
 (cov:∀ s,gf e s->∀ j,j<6->j≠k->s.se.get j-((s.un.get j).length:Int)<=(aE (x.ds.get j)).ta.get k)
 (cnt:e.pa.co<=(m:Int)+1/\e.pb.co<=(m:Int)+1):bw aR dn (x.set k e) m:=by
 have Iq:∀ j,j<6->∀ t:Int,t<=(aE (x.ds.get k)).se.get j->(dn k j).take t.toNat=(lg k j).take t.toNat:=fun j hj t ht=>by
  have :=congrArg (List.take t.toNat) (pre j hj)
  rw[List.take_take,List.take_take,Nat.min_eq_left (by omega)]at this
  exact this
 have gk:=x.get_set hk e
 have gn:∀ i,i<6->i≠k->(x.set k e).ds.get i=x.ds.get i:=fun i hi aj=>x.get_ne hk hi aj e
 have d0:=(st _ jh).ok.d0
 have d1:=(st _ sy).ok.d0
 have M9:∀ a,a<6->∀ b,b<6->(aE (x.ds.get a)).se.get b<=(aE ((x.set k e).ds.get a)).se.get b:=fun a ha b hb=>by
  by_cases ea:a=k
  ·subst ea;rw[gk];exact fse b hb
  ·rw[gn a ha ea];exact Int.le_refl _
 have Av:∀ a,a<6->∀ b,b<6->(aE (x.ds.get a)).ta.get b<=(aE ((x.set k e).ds.get a)).ta.get b:=fun a ha b hb=>by
  by_cases ea:a=k
  ·subst ea;rw[gk];exact fta b hb
  ·rw[gn a ha ea];exact Int.le_refl _
 have Zq:∀ y a,a<6->∀ b,b<6->∀ t:Int,t<=(aE (x.ds.get a)).se.get b->ct y (dn a b) t=ct y (lg a b) t:=fun y a ha b hb t ht=>by
  by_cases ea:a=k
  ·subst ea;exact abj (Iq b hb t ht)
  ·rw[hl a b ea]
 refine⟨fun i hi=>?_,fun i hi=>?_,fun i hi j hj=>?_,fun i hi s hs=>?_,fun i hi j hj=>?_,fun i hi s hs j hj=>?_,fun b hb=>?_,fun i hi=>?_⟩
 ·by_cases ei:i=k
  ·subst ei;rw[gk];exact ok
  ·rw[gn i hi ei];exact h.ok i hi
 ·by_cases ei:i=k
  ·subst ei;rw[gk];exact me
  ·rw[gn i hi ei];exact h.me i hi
 ·by_cases ei:i=k
  ·subst ei;rw[gk];exact len j hj
  ·rw[gn i hi ei,hl i j ei];exact h.len i hi j hj
 ·by_cases ei:i=k
  ·subst ei;rw[gk]at hs |-;exact st s hs
  ·rw[gn i hi ei]at hs |-
   have o:=h.st i hi s hs
   refine⟨o.ok,o.sl,o.su,o.tl,o.tu,fun j hj p hp=>?_,fun y=>?_⟩
   ·rw[hl i j ei];exact o.un j hj p hp
   ·have:=o.co y
    rw[na (g:=fun j=>ct y (lg i j) (s.se.get j)) (fun j _=>by rw[hl i j ei]),this]
    congr 1
    refine na fun j hj=>(Zq y j hj i hi _ ?_).symm
    exact Int.le_trans (o.tu j hj) (h.acks j hj i hi)
 ·by_cases ej:j=k
  ·subst ej
   rw[gk]
   by_cases ei:i=j
   ·subst ei;rw[gk,d0.2.2,d1.2.1];exact Int.le_refl _
   ·rw[gn i hi ei];exact acks i hi ei
  ·rw[gn j hj ej]
   exact Int.le_trans (h.acks i hi j hj) (M9 i hi j hj)
 ·by_cases ei:i=k
  ·subst ei
   rw[gk]at hs
   by_cases ej:j=i
   ·subst ej
    have o:=(st s hs).ok.d0
    rw[gk,o.1,o.2.1,d1.2.2];exact Int.le_refl _
   ·rw[gn j hj ej];exact cov s hs j hj ej
  ·rw[gn i hi ei]at hs
   exact Int.le_trans (h.cov i hi s hs j hj) (Av j hj i hi)
 ·have o:=h.bags b hb
  obtain⟨f6,t6,_⟩:=u9 o.ok
  refine⟨o.ok,fun p hp=>?_,Int.le_trans o.ta (Av _ f6 _ t6)⟩
  obtain⟨u1,u2⟩:=o.un p hp
  refine⟨?_,Int.le_trans u2 (M9 _ f6 _ t6)⟩
  by_cases ea:b.fr.toNat=k
  ·rw[ea]at u1 u2 |-
   rw[<-u1]
   have DS:=(sP o.ok).2.2.2.2.1 p hp
   exact at_take (m:=p.no) (Iq _ t6 _ u2) (by omega)
  ·rw[hl _ _ ea];exact u1
 ·by_cases ei:i=k
  ·subst ei;rw[gk];exact cnt
  ·rw[gn i hi ei];have:=h.cnt i hi;omega
theorem bw.total{aR:Nat->List Int}{lg:Nat->Nat->List Int}{x:Sx}{n:Nat}(h:bw aR lg x n)(y:Int){S:Nat->Stk}(hS:∀ i,i<6->(∀ z,(S i).ho.count z+bk (fun j=>ct z (lg i j) ((S i).se.get j))=(aR i).count z+bk (fun j=>ct z (lg j i) ((S i).ta.get j)))):
 bk (fun i=>(S i).ho.count y)+bk (fun i=>bk fun j=>ct y (lg i j) ((S i).se.get j))=bk (fun i=>(aR i).count y)+bk (fun i=>bk fun j=>ct y (lg i j) ((S j).ta.get i)):=by
 rw[<-x9,Ry (fun i j=>ct y (lg i j) ((S j).ta.get i)),<-x9]
 exact na fun i hi=>hS i hi y
end Go.Eng
set_option linter.constructorNameAsVariable false
namespace Go.Eng
open Go Go.Proofs
theorem aS.set_at{α:Type}(s:aS α){k i:Nat}(hk:k<6)(hi:i<6)(e:α):(s.set k e).get i=if i=k then e else s.get i:=by
 by_cases h:i=k
 ·subst h;rw[if_pos rfl];exact(s.get_set (i:=i) (j:=i) e hk).1
 ·rw[if_neg h];exact(s.get_set (i:=k) (j:=i) e hk).2 hi h
theorem RX{d:Dk}{p t:Int}(he:cG d p t=0):ay d=true/\(1<=p/\p<=999)/\(0<=t/\t<=5)/\t≠d.me/\p∈d.now.ho/\ir d p t=d.setN (je d.now p t.toNat):=by
 have hV:ir d p t=d.setN (je d.now p t.toNat):=by unfold ir;rw[if_pos he]
 unfold cG at he
 by_cases h:ay d=true
 ·rw[if_pos h]at he
  by_cases h1:aP p 1 999=true
  ·rw[if_pos h1]at he
   by_cases h2:dY d t=true
   ·rw[if_pos h2]at he
    by_cases h3:mL d p=true
    ·rw[if_pos h3]at he;cases he
    ·have ql:=h2
     unfold dY at ql
     rw[Bool.and_eq_true,cf]at ql
     refine⟨h,cf.1 h1,ql.1,by simpa using ql.2,?_,hV⟩
     have hh:bB d.now.ho p=!mL d p:=EG
     rw[Bool.eq_false_iff.2 h3]at hh
     unfold bB at hh
     simpa using hh
   ·rw[if_neg h2]at he;cases he
  ·rw[if_neg h1]at he;cases he
 ·rw[if_neg h]at he;cases he
def Jr(lg:Nat->Nat->List Int)(k j:Nat)(p:Int):Nat->Nat->List Int:=fun a b=>if a=k/\b=j then lg k j++[p]else lg a b
theorem bw.send2{aR:Nat->List Int}{lg:Nat->Nat->List Int}{x:Sx}{n k:Nat}{p t:Int}(h:bw aR lg x n)(hk:k<6)(he:cG (x.ds.get k) p t=0):bw aR (Jr lg k t.toNat p) (x.set k (ir (x.ds.get k) p t)) n:=by
 obtain⟨hd,hp,ht,Yf,DQ,hV⟩:=RX he
 obtain⟨⟨ok,me,_⟩,hf⟩:=HK hd he
 have hm:=h.me k hk
 obtain⟨j,hj⟩:∃ j,j=t.toNat:=⟨_,rfl⟩
 have wK:j<6:=by omega
 have p7:j≠k:=by intro e;apply Yf;rw[hm];omega
 rw[<-hj]at hV
 rw[hV]at ok me hf |-
 have hlen:=h.len k hk
 have fM:=h.st k hk _ jh
 rw[<-hj]
 obtain⟨dn,wF⟩:∃ dn,dn=Jr lg k j p:=⟨_,rfl⟩
 rw[<-wF]
 have l1:∀ a b,a≠k->dn a b=lg a b:=fun a b ha=>by rw[wF];exact if_neg (fun e=>ha e.1)
 have l2:∀ b,b≠j->dn k b=lg k b:=fun b hb=>by rw[wF];exact if_neg (fun e=>hb e.2)
 have l3:dn k j=lg k j++[p]:=by rw[wF];exact if_pos ⟨rfl,rfl⟩
 have l4:∀ b,dn b k=lg b k:=fun b=>by rw[wF];exact if_neg (fun e=>p7 e.2.symm)
 have w8:∀ b,b<6->(je (x.ds.get k).now p j).se.get b=if b=j then(x.ds.get k).now.se.get j+1 else(x.ds.get k).now.se.get b:=fun b hb=>aS.set_at _ wK hb _
 have MU:∀ b,b<6->(je (x.ds.get k).now p j).un.get b=if b=j then(x.ds.get k).now.un.get j++[⟨(x.ds.get k).now.se.get j+1,p⟩]else(x.ds.get k).now.un.get b:=fun b hb=>aS.set_at _ wK hb _
 have MV:∀ b,b<6->(x.ds.get k).now.se.get b<=(je (x.ds.get k).now p j).se.get b:=fun b hb=>by
  rw[w8 b hb];split
  ·next e=>subst e;omega
  ·exact Int.le_refl _
 have Bz:∀ b,b<6->∀ q:Par,(lg k b)[(q.no-1).toNat]?=some q.pa->(dn k b)[(q.no-1).toNat]?=some q.pa:=fun b hb q hq=>by
  by_cases eb:b=j
  ·subst eb
   rw[l3,List.getElem?_append_left (List.getElem?_eq_some_iff.1 hq).1];exact hq
  ·rw[l2 b eb];exact hq
 have ct1:∀ y b,b<6->∀ m:Int,m<=(x.ds.get k).now.se.get b->ct y (dn k b) m=ct y (lg k b) m:=fun y b hb m jM=>by
  by_cases eb:b=j
  ·subst eb;rw[l3];exact abk (by rw[hlen b hb];exact jM)
  ·rw[l2 b eb]
 refine h.set hk (Nat.le_refl _) ok (by rw[me];exact hm) l1 (fun b hb=>?_) (fun b hb=>?_) (fun b _=>by rw[hf];exact Int.le_refl _) (fun b _=>by rw[hf];exact Int.le_refl _) (fun s hs=>?_) (fun b hb _=>h.acks b hb k hk) (fun s hs b hb _=>?_) (h.cnt k hk)
 ·show _=(je (x.ds.get k).now p j).se.get b
  rw[w8 b hb]
  by_cases eb:b=j
  ·subst eb
   rw[if_pos rfl,l3,List.length_append,<-hlen b hb];rfl
  ·rw[if_neg eb,l2 b eb];exact hlen b hb
 ·by_cases eb:b=j
  ·subst eb
   rw[l3,List.take_append_of_le_length]
   have a:=fM.sl b hb
   have c:=hlen b hb
   omega
  ·rw[l2 b eb]
 ·have D5:((x.ds.get k).setN (je (x.ds.get k).now p j)).now=je (x.ds.get k).now p j:=rfl
  rcases zn hs with rfl | hold
  ·refine⟨?_,fun b hb=>?_,fun b hb=>Int.le_refl _,fun b hb=>?_,fun b hb=>Int.le_refl _,fun b hb q hq=>?_,fun y=>?_⟩
   ·have:=(ju.1 ok).1
    rw[me,hm]at this;exact this
   ·rw[hf];exact Int.le_trans (fM.sl b hb) (MV b hb)
   ·rw[hf];exact fM.tl b hb
   ·rw[MU b hb]at hq
    by_cases eb:b=j
    ·subst eb
     rw[if_pos rfl]at hq
     rcases List.mem_append.1 hq with hq | hq
     ·exact Bz b hb q (fM.un b hb q hq)
     ·rw[List.mem_singleton]at hq
      subst hq
      rw[l3]
      have :=hlen b hb
      have e:((x.ds.get k).now.se.get b+1-1).toNat=(lg k b).length:=by omega
      show (lg k b++[p])[((x.ds.get k).now.se.get b+1-1).toNat]?=some p
      rw[e,List.getElem?_append_right (Nat.le_refl _),Nat.sub_self];rfl
    ·rw[if_neg eb]at hq
     exact Bz b hb q (fM.un b hb q hq)
   ·have o:=fM.co y
    have oP:(jT (x.ds.get k).now.ho p (x.ds.get k).now.ho.length).count y+(if p=y then 1 else 0)=(x.ds.get k).now.ho.count y:=aaG fM.ok.ri DQ
    have hu:=Hl (f:=fun b=>ct y (dn k b) ((je (x.ds.get k).now p j).se.get b)) (g:=fun b=>ct y (lg k b) ((x.ds.get k).now.se.get b)) wK (fun b hb eb=>by
     show ct y (dn k b) ((je (x.ds.get k).now p j).se.get b)=ct y (lg k b) ((x.ds.get k).now.se.get b)
     rw[w8 b hb,if_neg eb,l2 b eb])
    have hjj:ct y (dn k j) ((je (x.ds.get k).now p j).se.get j)=ct y (lg k j) ((x.ds.get k).now.se.get j)+(if p=y then 1 else 0):=by
     rw[w8 j wK,if_pos rfl,l3]
     exact abi y _ p (hlen j wK)
    have hr:bk (fun b=>ct y (dn b k) ((je (x.ds.get k).now p j).ta.get b))=bk (fun b=>ct y (lg b k) ((x.ds.get k).now.ta.get b)):=na fun b _=>by
     show ct y (dn b k) ((x.ds.get k).now.ta.get b)=_
     rw[l4 b]
    rw[hr]
    show (jT (x.ds.get k).now.ho p (x.ds.get k).now.ho.length).count y+_=_
    omega
  ·have dH:gf (x.ds.get k) s:=by
     rcases hold with h1 | h1
     ·exact .inl h1
     ·exact .inr (.inr h1)
   have o:=h.st k hk s dH
   refine⟨o.ok,fun b hb=>by rw[hf];exact o.sl b hb,fun b hb=>Int.le_trans (o.su b hb) (MV b hb),fun b hb=>by rw[hf];exact o.tl b hb,fun b hb=>o.tu b hb,fun b hb q hq=>Bz b hb q (o.un b hb q hq),fun y=>?_⟩
   rw[na (g:=fun b=>ct y (lg k b) (s.se.get b)) (fun b hb=>ct1 y b hb _ (o.su b hb)),o.co y]
   congr 1
   exact na fun b _=>by rw[l4 b]
 ·rcases zn hs with rfl | hold
  ·rw[w8 b hb,MU b hb]
   have c:=h.cov k hk _ jh b hb
   by_cases eb:b=j
   ·subst eb
    rw[if_pos rfl,if_pos rfl,List.length_append]
    simp only[List.length_cons,List.length_nil]
    omega
   ·rw[if_neg eb,if_neg eb];exact c
  ·refine h.cov k hk s ?_ b hb
   rcases hold with h1 | h1
   ·exact .inl h1
   ·exact .inr (.inr h1)
theorem bw.send{aR:Nat->List Int}{lg:Nat->Nat->List Int}{x:Sx}{n k:Nat}{p t:Int}(h:bw aR lg x n)(hk:k<6)(he:cG (x.ds.get k) p t=0):∃ dn,bw aR dn (x.set k (ir (x.ds.get k) p t)) n:=⟨_,h.send2 hk he⟩
theorem bw.step{aR:Nat->List Int}{lg:Nat->Nat->List Int}{x:Sx}{n m k:Nat}{e:Dk}(h:bw aR lg x n)(hk:k<6)(al:n<=m)(ok:ay e=true)(me:e.me=(x.ds.get k).me)
 (fM:e.now=(x.ds.get k).now) (ez:gf (x.ds.get k) (aE e)) (dH:∀ s,gf e s->gf (x.ds.get k) s)
 (hle:∀ s,gf e s->∀ j,j<6->(aE e).se.get j<=s.se.get j/\(aE e).ta.get j<=s.ta.get j)
 (cnt:e.pa.co<=(m:Int)+1/\e.pb.co<=(m:Int)+1):bw aR lg (x.set k e) m:=by
 have o:=h.st k hk _ ez
 refine h.set hk al ok (by rw[me];exact h.me k hk) (fun _ _ _=>rfl) (fun j hj=>by rw[fM];exact h.len k hk j hj) (fun _ _=>rfl) o.sl o.tl (fun s hs=>?_) (fun j hj _=>by rw[fM];exact h.acks j hj k hk) (fun s hs j hj _=>h.cov k hk s (dH s hs) j hj) cnt
 have q:=h.st k hk s (dH s hs)
 exact⟨q.ok,fun j hj=>(hle s hs j hj).1,fun j hj=>by rw[fM];exact q.su j hj,fun j hj=>(hle s hs j hj).2,fun j hj=>by rw[fM];exact q.tu j hj,q.un,q.co⟩
theorem bw.write{aR:Nat->List Int}{lg:Nat->Nat->List Int}{x:Sx}{n k:Nat}(h:bw aR lg x n)(hk:k<6)(hn:n<90000):eI (x.ds.get k)=0/\bw aR lg (x.set k (cS (x.ds.get k))) (n+1):=by
 have hd:=h.ok k hk
 have hc:=h.cnt k hk
 have he:=Qw hd ⟨by omega,by omega⟩
 obtain⟨⟨ok,me,_⟩,hf⟩:=qL hd he
 refine⟨he,h.step hk (by omega) ok me (GX he) (by rw[hf];exact sy) (fun s=>GY hd he) (fun s hs j hj=>?_) ?_⟩
 ·have q:=h.st k hk s (GY hd he hs)
  rw[hf];exact⟨q.sl j hj,q.tl j hj⟩
 ·have:=Qx hd (n:=(n:Int)+1) hc he
  omega
theorem NG{d:Dk}(h:ay d=true):(eX d).pa=d.pa/\(eX d).pb=d.pb:=by rw[kx h];exact⟨rfl,rfl⟩
theorem bw.dry{aR:Nat->List Int}{lg:Nat->Nat->List Int}{x:Sx}{n k:Nat}(h:bw aR lg x n)(hk:k<6):bw aR lg (x.set k (eX (x.ds.get k))) n:=by
 have hd:=h.ok k hk
 have hc:=h.cnt k hk
 obtain⟨ok,me,_⟩:=(Az hd).1
 refine h.step hk (Nat.le_refl _) ok me (ND hd) (Fu hd) (fun s hs=>(Fv hd hs).1) (fun s hs j hj=>?_) (by rw[(NG hd).1,(NG hd).2];exact hc)
 rcases(Fv hd hs).2 with rfl | rfl
 ·exact⟨Int.le_refl _,Int.le_refl _⟩
 ·have q:=h.st k hk _ (Fu hd)
  exact⟨q.su j hj,q.tu j hj⟩
theorem bw.flood{aR:Nat->List Int}{lg:Nat->Nat->List Int}{x:Sx}{n k:Nat}(c:Int)(h:bw aR lg x n)(hk:k<6):∃ dn,bw aR dn (x.set k (gH (x.ds.get k) c)) n:=by
 have hd:=h.ok k hk
 obtain⟨⟨ok,me,_⟩,_,fM⟩:=E' (n:=c) hd
 have dH:gf (x.ds.get k) (aE (gH (x.ds.get k) c)):=by
  rcases aaB c hd with e | e
  ·rw[e];exact sy
  ·rw[e];exact Fu hd
 have o:=h.st k hk _ dH
 obtain⟨F,hF⟩:∃ F,F=aE (gH (x.ds.get k) c):=⟨_,rfl⟩
 rw[<-hF]at o dH fM
 have hlen:=h.len k hk
 let dn:Nat->Nat->List Int:=fun a b=>if a=k then(lg k b).take (F.se.get b).toNat else lg a b
 have l1:∀ a b,a≠k->dn a b=lg a b:=fun a b ha=>if_neg ha
 have l2:∀ b,dn k b=(lg k b).take (F.se.get b).toNat:=fun b=>if_pos rfl
 have fe:=o.ok.se
 have pQ:=o.ok.ta
 refine⟨dn,h.set hk (Nat.le_refl _) ok (by rw[me];exact h.me k hk) l1 (fun b hb=>?_) (fun b hb=>?_) (fun b hb=>by rw[<-hF];exact o.sl b hb) (fun b hb=>by rw[<-hF];exact o.tl b hb) (fun s hs=>?_) (fun b hb _=>?_) (fun s hs b hb _=>?_) ?_⟩
 ·rw[<-fM,l2,List.length_take]
  have a:=hlen b hb
  have q:=o.su b hb
  have :=(fe b hb).1
  omega
 ·rw[l2,List.take_take]
  have :=o.sl b hb
  rw[Nat.min_eq_left (by omega)]
 ·have gh:=Nc c hd hs
  rw[<-hF]at gh
  subst gh
  refine⟨o.ok,fun b _=>by rw[<-hF];exact Int.le_refl _,fun b _=>by rw[<-fM];exact Int.le_refl _,fun b _=>by rw[<-hF];exact Int.le_refl _,fun b _=>by rw[<-fM];exact Int.le_refl _,fun b hb q hq=>?_,fun y=>?_⟩
  ·rw[l2,<-o.un b hb q hq,List.getElem?_take,if_pos]
   have a:=vi (o.ok.un b hb).1 q hq
   have c2:1<=q.no:=by
    obtain⟨i,hi,rfl⟩:=List.getElem_of_mem hq
    exact((xM.1 (o.ok.un b hb).1) i hi).2.1
   omega
  ·rw[na (g:=fun b=>ct y (lg k b) (s.se.get b)) (fun b _=>by rw[l2];exact N3 (Int.le_refl _)),o.co y]
   congr 1
   refine na fun b hb=>?_
   by_cases eb:b=k
   ·subst eb
    rw[l2,o.ok.d0.2.2,o.ok.d0.2.1]
    exact(N3 (Int.le_refl _)).symm
   ·rw[l1 b k eb]
 ·rw[<-fM]
  exact Int.le_trans (o.tu b hb) (h.acks b hb k hk)
 ·have gh:=Nc c hd hs
  rw[<-hF]at gh
  subst gh
  exact h.cov k hk s dH b hb
 ·rw[(Nb c hd).1,(Nb c hd).2];exact h.cnt k hk
end Go.Eng
set_option linter.constructorNameAsVariable false
namespace Go.Eng
open Go Go.Proofs
theorem bw.same{aR:Nat->List Int}{lg:Nat->Nat->List Int}{x:Sx}{n m:Nat}(h:bw aR lg x n)(al:n<=m)(l:List Bag)(hl:∀ b∈l,qJ lg x b):bw aR lg ⟨x.ds,l⟩ m:=
 ⟨h.ok,h.me,h.len,h.st,h.acks,h.cov,fun b hb=>⟨(hl b hb).ok,(hl b hb).un,(hl b hb).ta⟩,fun i hi=>⟨Int.le_trans (h.cnt i hi).1 (by omega),Int.le_trans (h.cnt i hi).2 (by omega)⟩⟩
theorem bw.mono{aR:Nat->List Int}{lg:Nat->Nat->List Int}{x:Sx}{n m:Nat}(h:bw aR lg x n)(al:n<=m):bw aR lg x m:=h.same al x.bs h.bags
theorem Pc{d:Dk}{t:Int}(h:ay d=true)(h2:ep d t=0):o8 d t=true:=by
 unfold ep at h2
 rw[if_pos h]at h2
 by_cases h3:dY d t=true
 ·unfold o8;rw[h,h3];rfl
 ·rw[if_neg h3]at h2;cases h2
theorem bw.bag{aR:Nat->List Int}{lg:Nat->Nat->List Int}{x:Sx}{n k:Nat}{t:Int}(h:bw aR lg x n)(hk:k<6)(he:ep (x.ds.get k) t=0):qJ lg x (fI (x.ds.get k) t):=by
 have hd:=h.ok k hk
 have ha:=Pc hd he
 have hV:fI (x.ds.get k) t=⟨(x.ds.get k).me,t,(aE (x.ds.get k)).un.get t.toNat,(aE (x.ds.get k)).ta.get t.toNat⟩:=by unfold fI;rw[if_pos ha]
 have hm:=h.me k hk
 unfold o8 dY at ha
 simp only[Bool.and_eq_true,cf]at ha
 obtain⟨_,⟨t0,t5⟩,aj⟩:=ha
 have aj:t≠(x.ds.get k).me:=by simpa using aj
 have o:=h.st k hk _ sy
 have oC:t.toNat<6:=by omega
 have u:=o.ok.un _ oC
 have ta:=o.ok.ta _ oC
 rw[hV,hm]
 have pV:=Iy.2 u
 rw[Bool.and_eq_true]at pV
 refine⟨?_,fun p hp=>?_,?_⟩
 ·unfold fR
  simp only[Bool.and_eq_true]
  refine⟨⟨⟨⟨cf.2 ⟨by show (0:Int)<=(k:Int);omega,by show (k:Int)<=5;omega⟩,cf.2 ⟨t0,t5⟩⟩,?_⟩,pV.1⟩,cf.2 ta⟩
  show ((k:Int) != t)=true
  simp only[bne_iff_ne,ne_eq]
  rw[hm]at aj
  exact fun e=>aj e.symm
 ·show (lg (k:Int).toNat t.toNat)[(p.no-1).toNat]?=some p.pa/\p.no<=(aE (x.ds.get (k:Int).toNat)).se.get t.toNat
  rw[Int.toNat_natCast]
  exact⟨o.un _ oC p hp,(vi u.1 p hp).2⟩
 ·show _<=(aE (x.ds.get (k:Int).toNat)).ta.get t.toNat
  rw[Int.toNat_natCast]
  exact Int.le_refl _
theorem bw.pack{aR:Nat->List Int}{lg:Nat->Nat->List Int}{x:Sx}{n k:Nat}{t:Int}(h:bw aR lg x n)(hk:k<6)(he:ep (x.ds.get k) t=0):bw aR lg ⟨x.ds,x.bs++[fI (x.ds.get k) t]⟩ n:=
 h.same (Nat.le_refl _) _ fun b hb=>by
  rcases List.mem_append.1 hb with hb | hb
  ·exact h.bags b hb
  ·rw[List.mem_singleton]at hb
   rw[hb];exact h.bag hk he
structure Qs (aR:Nat->List Int) (lg:Nat->Nat->List Int) (x:Sx) (k:Nat) (s:Stk):Prop where
 co:∀ y,s.ho.count y+bk (fun j=>ct y (lg k j) (s.se.get j))=(aR k).count y+bk (fun j=>ct y (lg j k) (s.ta.get j))
 tu:∀ j,j<6->s.ta.get j<=(aE (x.ds.get j)).se.get k
 sl:∀ j,j<6->(x.ds.get j).now.ta.get k<=s.se.get j
 d0:s.ta.get k<=s.se.get k
theorem bw.sum{aR:Nat->List Int}{lg:Nat->Nat->List Int}{x:Sx}{n k:Nat}(h:bw aR lg x n)(hk:k<6){s:Stk}(q:Qs aR lg x k s)(y:Int){S:Nat->Stk}(hS:S=fun i=>if i=k then s else(x.ds.get i).now):
 (∀ i,i<6->∀ j,j<6->(S j).ta.get i<=(S i).se.get j)/\bk (fun i=>(S i).ho.count y)+bk (fun i=>bk fun j=>ct y (lg i j) ((S i).se.get j)-ct y (lg i j) ((S j).ta.get i))=bk (fun i=>(aR i).count y):=by
 have gk:S k=s:=by rw[hS];exact if_pos rfl
 have gn:∀ i,i≠k->S i=(x.ds.get i).now:=fun i hi=>by rw[hS];exact if_neg hi
 have hle:∀ i,i<6->∀ j,j<6->(S j).ta.get i<=(S i).se.get j:=fun i hi j hj=>by
  by_cases ei:i=k
  ·subst ei
   by_cases ej:j=i
   ·subst ej;rw[gk];exact q.d0
   ·rw[gk,gn j ej];exact q.sl j hj
  ·rw[gn i ei]
   have f:=(h.st i hi _ jh).sl j hj
   by_cases ej:j=k
   ·subst ej;rw[gk];exact Int.le_trans (q.tu i hi) f
   ·rw[gn j ej];exact Int.le_trans (h.acks i hi j hj) f
 refine⟨hle,?_⟩
 have ht:=h.total y (S:=S) (fun i hi=>by
  by_cases ei:i=k
  ·subst ei;rw[gk];exact q.co
  ·rw[gn i ei];exact(h.st i hi _ jh).co)
 have hd:bk (fun i=>bk fun j=>ct y (lg i j) ((S i).se.get j))=bk (fun i=>bk fun j=>ct y (lg i j) ((S i).se.get j)-ct y (lg i j) ((S j).ta.get i))+bk (fun i=>bk fun j=>ct y (lg i j) ((S j).ta.get i)):=by
  rw[<-x9]
  refine na fun i hi=>?_
  rw[<-x9]
  refine na fun j hj=>?_
  have :=N4 y (lg i j) (hle i hi j hj)
  omega
 omega
theorem I':∀ {l u:List Int},l.Nodup->(∀ y∈l,y∈u)->l.length<=u.length
 |[],_,_,_=>Nat.zero_le _
 |y::r,u,hn,h=>by
  rw[List.nodup_cons]at hn
  have hy:=h y (List.mem_cons_self ..)
  have :=I' (l:=r) (u:=u.erase y) hn.2 (fun z hz=>by
   have aj:z≠y:=fun e=>hn.1 (e▸hz)
   exact(List.mem_erase_of_ne aj).2 (h z (List.mem_cons_of_mem _ hz)))
  rw[List.length_erase_of_mem hy]at this
  have bK:0<u.length:=List.length_pos_iff.2 (List.ne_nil_of_mem hy)
  simp only[List.length_cons]
  omega
structure Br (aR:Nat->List Int):Prop where
 one:∀ y,bk (fun i=>(aR i).count y)<=1
 few:bk (fun i=>(aR i).length)<=40
theorem bw.len40{aR:Nat->List Int}{lg:Nat->Nat->List Int}{x:Sx}{n k:Nat}(hi:Br aR)(h:bw aR lg x n)(hk:k<6){s:Stk}(q:Qs aR lg x k s)(hr:s.ho.Pairwise (· < ·)):s.ho.length<=40:=by
 have hn:s.ho.Nodup:=hr.imp (fun h=>by omega)
 have hu:(aR 0++(aR 1++(aR 2++(aR 3++(aR 4++aR 5))))).length<=40:=by
  have :=hi.few
  simp only[bk]at this
  simp only[List.length_append]
  omega
 refine Nat.le_trans (I' hn fun y hy=>?_) hu
 obtain⟨S,hS⟩:∃ S:Nat->Stk,S=fun i=>if i=k then s else(x.ds.get i).now:=⟨_,rfl⟩
 have hs:=(h.sum hk q y hS).2
 have gk:S k=s:=by rw[hS];exact if_pos rfl
 have h1:1<=s.ho.count y:=List.count_pos_iff.2 hy
 have h2:(S k).ho.count y<=_:=vp (f:=fun i=>(S i).ho.count y) hk
 rw[gk]at h2
 have h3:1<=bk (fun i=>(aR i).count y):=by omega
 have hm:∀ i,y∉aR i->(aR i).count y=0:=fun i hi=>List.count_eq_zero_of_not_mem hi
 simp only[List.mem_append]
 by_cases c0:y∈aR 0
 ·exact .inl c0
 by_cases c1:y∈aR 1
 ·exact .inr (.inl c1)
 by_cases c2:y∈aR 2
 ·exact .inr (.inr (.inl c2))
 by_cases c3:y∈aR 3
 ·exact .inr (.inr (.inr (.inl c3)))
 by_cases c4:y∈aR 4
 ·exact .inr (.inr (.inr (.inr (.inl c4))))
 by_cases c5:y∈aR 5
 ·exact .inr (.inr (.inr (.inr (.inr c5))))
 exfalso
 simp only[bk]at h3
 rw[hm 0 c0,hm 1 c1,hm 2 c2,hm 3 c3,hm 4 c4,hm 5 c5]at h3
 omega
structure Bk (aR:Nat->List Int) (lg:Nat->Nat->List Int) (x:Sx) (k f:Nat) (s0 s:Stk):Prop where
 q:Qs aR lg x k s
 ri:s.ho.Pairwise (· < ·)
 se:s.se=s0.se
 un:s.un=s0.un
 ta:∀ j,j<6->j≠f->s.ta.get j=s0.ta.get j
 tf:s0.ta.get f<=s.ta.get f
theorem bw.run{aR:Nat->List Int}{lg:Nat->Nat->List Int}{x:Sx}{n k f:Nat}(hi:Br aR)(h:bw aR lg x n)(hk:k<6)(hf:f<6)(jm:f≠k){ps:List Par}{s0:Stk}(hq:Bk aR lg x k f s0 s0)(t0:0<=s0.ta.get f)
 (hp:∀ p∈ps,(lg f k)[(p.no-1).toNat]?=some p.pa/\p.no<=(aE (x.ds.get f)).se.get k):∀ z,z<=ps.length->eh f ps s0 z=0/\Bk aR lg x k f s0 (bO f ps s0 z)
 | 0,_=>⟨rfl,hq⟩
 |z+1,hz=>by
  obtain⟨h1,r⟩:=bw.run hi h hk hf jm hq t0 hp z (by omega)
  obtain⟨s,hs⟩:∃ s,s=bO f ps s0 z:=⟨_,rfl⟩
  rw[<-hs]at r
  have hg:ps.getD z default=ps[z]'(by omega):=getD_at (by omega)
  obtain⟨p,fK⟩:∃ p,p=ps[z]'(by omega):=⟨_,rfl⟩
  have DQ:p∈ps:=by rw[fK];exact List.getElem_mem _
  obtain⟨p1,p2⟩:=hp p DQ
  rw[<-fK]at hg
  by_cases hn:eg f s p=true
  ·have eE:p.no=s.ta.get f+1:=by unfold eg at hn;simpa using hn
   have ht:=r.tf
   have wU:s.ho.count p.pa=0:=by
    obtain⟨S,hS⟩:∃ S:Nat->Stk,S=fun i=>if i=k then s else(x.ds.get i).now:=⟨_,rfl⟩
    obtain⟨_,hs⟩:=h.sum hk r.q p.pa hS
    have h5:S k=s:=by rw[hS];exact if_pos rfl
    have h6:S f=(x.ds.get f).now:=by rw[hS];exact if_neg jm
    have h2:(S k).ho.count p.pa<=_:=vp (f:=fun i=>(S i).ho.count p.pa) hk
    have h3:(bk fun j=>ct p.pa (lg f j) ((S f).se.get j)-ct p.pa (lg f j) ((S j).ta.get f))<=_:=vp (f:=fun i=>bk fun j=>ct p.pa (lg i j) ((S i).se.get j)-ct p.pa (lg i j) ((S j).ta.get i)) hf
    have h4:ct p.pa (lg f k) ((S f).se.get k)-ct p.pa (lg f k) ((S k).ta.get f)<=_:=vp (f:=fun j=>ct p.pa (lg f j) ((S f).se.get j)-ct p.pa (lg f j) ((S j).ta.get f)) hk
    rw[h5]at h2
    rw[h5]at h4
    have MS:ct p.pa (lg f k) ((x.ds.get f).now.se.get k)-ct p.pa (lg f k) (s.ta.get f)<=bk fun j=>ct p.pa (lg f j) ((S f).se.get j)-ct p.pa (lg f j) ((S j).ta.get f):=by rw[<-h6];exact h4
    have mf:=(h.st f hf _ jh).sl k hk
    have hm:=N4 p.pa (lg f k) (show s.ta.get f+1<=(x.ds.get f).now.se.get k by omega)
    rw[F0 (y:=p.pa) (by omega) (by rw[<-p1];congr 1;omega),if_pos rfl]at hm
    have :=hi.one p.pa
    omega
   have hh:bB s.ho p.pa=false:=by
    unfold bB
    rw[List.contains_eq_mem,decide_eq_false_iff_not]
    exact fun hm=>absurd (List.count_pos_iff.2 hm) (by omega)
   have cF:bO f ps s0 (z+1)=⟨cE s.ho p.pa,s.un,s.se,s.ta.set f (s.ta.get f+1)⟩:=by
    show gP f (bO f ps s0 z) (ps.getD z default)=_
    rw[<-hs,hg]
    unfold gP
    rw[if_pos hn]
   have oL:∀ j,j<6->(s.ta.set f (s.ta.get f+1)).get j=if j=f then s.ta.get f+1 else s.ta.get j:=fun j hj=>aS.set_at _ hf hj _
   have hr:Bk aR lg x k f s0 ⟨cE s.ho p.pa,s.un,s.se,s.ta.set f (s.ta.get f+1)⟩:=by
    refine⟨⟨fun y=>?_,fun j hj=>?_,r.q.sl,?_⟩,Df r.ri hh,r.se,r.un,fun j hj aj=>?_,?_⟩
    ·have o:=r.q.co y
     have hu:=Hl (f:=fun j=>ct y (lg j k) ((s.ta.set f (s.ta.get f+1)).get j)) (g:=fun j=>ct y (lg j k) (s.ta.get j)) hf (fun j hj aj=>by
      show ct y (lg j k) ((s.ta.set f (s.ta.get f+1)).get j)=_
      rw[oL j hj,if_neg aj])
     rw[oL f hf,if_pos rfl,F0 (y:=p.pa) (by omega) (by rw[<-p1];congr 1;omega)]at hu
     have hc:=XG s.ho p.pa y
     show (cE s.ho p.pa).count y+bk (fun j=>ct y (lg k j) (s.se.get j))=(aR k).count y+bk (fun j=>ct y (lg j k) ((s.ta.set f (s.ta.get f+1)).get j))
     omega
    ·show (s.ta.set f (s.ta.get f+1)).get j<=_
     rw[oL j hj]
     split
     ·next e=>subst e;omega
     ·exact r.q.tu j hj
    ·show (s.ta.set f (s.ta.get f+1)).get k<=s.se.get k
     rw[oL k hk,if_neg (Ne.symm jm)];exact r.q.d0
    ·show (s.ta.set f (s.ta.get f+1)).get j=_
     rw[oL j hj,if_neg aj];exact r.ta j hj aj
    ·show _<=(s.ta.set f (s.ta.get f+1)).get f
     rw[oL f hf,if_pos rfl];omega
   have hlen:=bw.len40 hi h hk hr.q hr.ri
   rw[cF]
   refine⟨?_,hr⟩
   show (if eh f ps s0 z=0 then eJ f (bO f ps s0 z) (ps.getD z default)else eh f ps s0 z)=0
   rw[if_pos h1,<-hs,hg]
   exact IM f s p hn hh (by show ¬ 40<(cE s.ho p.pa).length;have h9:(cE s.ho p.pa).length<=40:=hlen;omega)
  ·have hn:eg f s p=false:=by simpa using hn
   have cF:bO f ps s0 (z+1)=s:=by
    show gP f (bO f ps s0 z) (ps.getD z default)=_
    rw[<-hs,hg]
    unfold gP
    rw[if_neg (by rw[hn];decide)]
   rw[cF]
   refine⟨?_,r⟩
   show (if eh f ps s0 z=0 then eJ f (bO f ps s0 z) (ps.getD z default)else eh f ps s0 z)=0
   rw[if_pos h1,<-hs,hg]
   exact IL f s p hn
theorem bw.open{aR:Nat->List Int}{lg:Nat->Nat->List Int}{x:Sx}{n k:Nat}{b:Bag}(hi:Br aR)(h:bw aR lg x n)(hb:qJ lg x b)(hk:k=b.to.toNat):fZ (x.ds.get k) b=0/\bw aR lg (x.set k (eK (x.ds.get k) b)) n:=by
 obtain⟨f6,t6,aj,f0,t0,pV,Hg⟩:=u9 hb.ok
 have fo:k<6:=by omega
 have hd:=h.ok k fo
 have hm:=h.me k fo
 have sh:ku (x.ds.get k) b=true:=by
  unfold ku
  rw[Bool.and_eq_true,hb.ok,hm,beq_iff_eq]
  exact⟨rfl,by omega⟩
 have nj:=h.st k fo _ jh
 have jm:b.fr.toNat≠k:=by omega
 obtain⟨f,hf⟩:∃ f,f=b.fr.toNat:=⟨_,rfl⟩
 have Yq:Bk aR lg x k f (bP (x.ds.get k) b) (bP (x.ds.get k) b):=⟨⟨nj.co,fun j hj=>h.acks j hj k fo,fun j hj=>Int.le_trans (h.acks k fo j hj) (nj.sl j hj),by
  have d:=nj.ok.d0
  show (x.ds.get k).now.ta.get k<=(x.ds.get k).now.se.get k
  rw[d.2.1,d.2.2];exact Int.le_refl _⟩,nj.ok.ri,rfl,rfl,fun _ _ _=>rfl,Int.le_refl _⟩
 have mb:=hb.un
 rw[<-hk,<-hf]at mb
 rw[<-hf]at f6 jm
 have cl:=bw.run hi h fo f6 jm Yq (nj.ok.ta f f6).1 mb b.ps.length (Nat.le_refl _)
 rw[hf]at cl
 obtain⟨he,r⟩:=cl
 rw[<-hf]at r
 obtain⟨_,hE⟩:=IU hd sh he
 refine⟨hE,?_⟩
 obtain⟨⟨⟨ok,me,_⟩,ez⟩,_,_,hV⟩:=Cu hd hE
 rw[hV]at ok me ez |-
 rw[<-hf]at ok me ez |-
 obtain⟨s,hs⟩:∃ s,s=bO f b.ps (bP (x.ds.get k) b) b.ps.length:=⟨_,rfl⟩
 rw[<-hs]at ok me ez r |-
 have fe:∀ j,s.se.get j=(x.ds.get k).now.se.get j:=fun j=>by rw[r.se];rfl
 have pQ:∀ j,j<6->(x.ds.get k).now.ta.get j<=s.ta.get j:=fun j hj=>by
  by_cases e:j=f
  ·subst e;exact r.tf
  ·rw[r.ta j hj e];exact Int.le_refl _
 have Yn:e7 (k:Int) s:=by
  have :=(ju.1 ok).1
  rw[me,hm]at this;exact this
 have Lw:∀ j,j<6->s.un.get j=if j=f then jz ((x.ds.get k).now.un.get f) b.ta ((x.ds.get k).now.un.get f).length else(x.ds.get k).now.un.get j:=fun j hj=>by
  rw[r.un]
  show ((x.ds.get k).now.un.set b.fr.toNat _).get j=_
  rw[<-hf]
  exact aS.set_at _ f6 hj _
 have hold:∀ t,t=aE (x.ds.get k)\/(0<=(x.ds.get k).wet/\t=((x.ds.get k).pg (x.ds.get k).wet.toNat).st)->gf (x.ds.get k) t:=fun t ht=>by
  rcases ht with h1 | h1
  ·exact .inl h1
  ·exact .inr (.inr h1)
 refine h.set fo (Nat.le_refl _) ok (by rw[me];exact hm) (fun _ _ _=>rfl) (fun j hj=>by show _=s.se.get j;rw[fe];exact h.len k fo j hj) (fun _ _=>rfl) (fun j _=>by rw[ez];exact Int.le_refl _) (fun j _=>by rw[ez];exact Int.le_refl _) (fun t ht=>?_) (fun j hj _=>r.q.tu j hj) (fun t ht j hj _=>?_) (h.cnt k fo)
 ·rcases zn ht with rfl | ht
  ·refine⟨Yn,fun j hj=>by rw[ez,fe];exact nj.sl j hj,fun j _=>Int.le_refl _,fun j hj=>by rw[ez];exact Int.le_trans (nj.tl j hj) (pQ j hj),fun j _=>Int.le_refl _,fun j hj p hp=>?_,r.q.co⟩
   rw[Lw j hj]at hp
   split at hp
   ·next e=>
    subst e
    unfold jz at hp
    rw[List.take_length]at hp
    exact nj.un j hj p (List.mem_filter.1 hp).1
   ·exact nj.un j hj p hp
  ·have o:=h.st k fo t (hold t ht)
   exact⟨o.ok,fun j hj=>by rw[ez];exact o.sl j hj,fun j hj=>by show _<=s.se.get j;rw[fe];exact o.su j hj,fun j hj=>by rw[ez];exact o.tl j hj,fun j hj=>Int.le_trans (o.tu j hj) (pQ j hj),o.un,o.co⟩
 ·rcases zn ht with rfl | ht
  ·have c:=h.cov k fo _ jh j hj
   rw[fe,Lw j hj]
   split
   ·next e=>
    subst e
    rcases QZ (ta:=b.ta) (nj.ok.un j hj).1 with h1 | h1
    ·omega
    ·have h2:=hb.ta
     rw[<-hk,<-hf]at h2
     omega
   ·exact c
  ·exact h.cov k fo t (hold t ht) j hj
end Go.Eng
set_option linter.constructorNameAsVariable false
namespace Go.Eng
open Go Go.Proofs
def ini0(i:Nat):List Int:=bM (i:Int)
theorem vY:Br ini0:=by
 refine⟨fun y=>?_,by decide⟩
 have hN:(ini0 0++(ini0 1++(ini0 2++(ini0 3++(ini0 4++ini0 5))))).Nodup:=by decide
 have hc:=hN.count (a:=y)
 simp only[List.count_append]at hc
 simp only[bk]
 split at hc<;>omega
structure ig (n:Nat) (x:Sx):Prop where
 ok:iL x n
 wl:∃ lg,bw ini0 lg x n
theorem Cm{me:Int}{s:Stk}(h:e7 me s)(n:Int):1<=gT s.ho n/\gT s.ho n<=999:=by
 unfold gT
 split
 ·exact⟨by decide,by decide⟩
 ·next aj=>
  have bK:0<s.ho.length:=List.length_pos_iff.2 aj
  have g0:=Int.emod_nonneg n (by omega:(s.ho.length:Int)≠0)
  have g1:=Int.emod_lt_of_pos n (by omega:(0:Int)<(s.ho.length:Int))
  rw[getD_at (show (n % (s.ho.length:Int)).toNat<s.ho.length by omega)]
  exact h.rn _ (List.getElem_mem _)
theorem BZ{d:Dk}{p t:Int}(h:ay d=true)(hp:1<=p/\p<=999):cG d p t=0\/cG d p t=94\/cG d p t=95\/cG d p t=2:=by
 unfold cG
 rw[if_pos h,if_pos (cf.2 hp)]
 split
 ·split
  ·exact .inr (.inr (.inl rfl))
  ·split
   ·exact .inr (.inr (.inr rfl))
   ·exact .inl rfl
 ·exact .inr (.inl rfl)
theorem ask_cases{d:Dk}{t:Int}(h:ay d=true)(ht:0<=t/\t<6):ep d t=0\/(ep d t=94/\t=d.me):=by
 unfold ep
 rw[if_pos h]
 split
 ·exact .inl rfl
 ·next hn=>
  refine .inr ⟨rfl,?_⟩
  unfold dY at hn
  rw[Bool.and_eq_true,cf]at hn
  by_cases e:t=d.me
  ·exact e
  ·exact absurd ⟨⟨ht.1,by omega⟩,by simpa using e⟩ hn
theorem ig.act{n:Nat}{x:Sx}(h:ig n x)(hn:n<90000)(y:Act):ig (n+1) (im x y):=by
 refine⟨aaN h.ok,?_⟩
 obtain⟨lg,w⟩:=h.wl
 have hk:=FC y
 have hd:=h.ok.ok _ hk
 by_cases c1:dq y<=2
 ·have hm:0<=dq y:=by unfold dq;omega
  rw[xl (by omega)]
  split
  ·next he=>
   obtain⟨dn,w'⟩:=w.send hk he
   exact⟨dn,w'.mono (Nat.le_succ _)⟩
  ·exact⟨lg,w.mono (Nat.le_succ _)⟩
 by_cases c2:dq y<=4
 ·rw[AB (by omega),if_pos (w.write hk hn).1]
  exact⟨lg,(w.write hk hn).2⟩
 by_cases c3:dq y<=6
 ·rw[AD (by omega),if_pos (fw hd)]
  exact⟨lg,(w.dry hk).mono (Nat.le_succ _)⟩
 by_cases c4:dq y<=7
 ·rw[FB (by omega),if_pos (fw hd)]
  obtain⟨dn,w'⟩:=w.flood y.pi hk
  exact⟨dn,w'.mono (Nat.le_succ _)⟩
 by_cases c5:dq y<=10
 ·rw[xm (by omega)]
  split
  ·next he=>exact⟨lg,(w.pack hk he).mono (Nat.le_succ _)⟩
  ·exact⟨lg,w.mono (Nat.le_succ _)⟩
 by_cases c6:x.bs=[]
 ·rw[FA (by omega) c6]
  exact⟨lg,w.mono (Nat.le_succ _)⟩
 ·rw[Fy (by omega) c6]
  have ho:=w.open vY (w.bags _ (AE (y:=y) c6)) rfl
  rw[if_pos ho.1]
  exact⟨lg,ho.2.mono (Nat.le_succ _)⟩
theorem ig.open0{n:Nat}{x:Sx}(h:ig n x){y:Act}(hb:x.bs≠[]):fZ (x.ds.get (jt x y).to.toNat) (jt x y)=0:=by
 obtain⟨lg,w⟩:=h.wl
 exact(w.open vY (w.bags _ (AE (y:=y) hb)) rfl).1
theorem ig.write0{n:Nat}{x:Sx}(h:ig n x)(hn:n<90000){k:Nat}(hk:k<6):eI (x.ds.get k)=0:=by
 obtain⟨lg,w⟩:=h.wl
 exact(w.write hk hn).1
theorem ab7:ig 0 (mK 6):=by
 refine⟨xz,fun _ _=>[],?_⟩
 have e:∀ i,i<6->(mK 6).ds.get i=gw i (bM i):=fun i hi=>
  jB (P:=fun i=>(mK 6).ds.get i=gw i (bM i)) rfl rfl rfl rfl rfl rfl hi
 have z:∀ {α:Type} (x:α) (i:Nat),(ef fun _=>x).get i=x:=fun x i=>by
  unfold aS.get ef
  split<;>rfl
 have ez:∀ i:Nat,i<6->aE (gw i (bM i))=dv (bM i):=fun i hi=>by
  have aa:=xz.ok i hi
  rw[e i hi]at aa
  have fM:=(ju.1 aa).1
  have ha:aF (i:Int) ⟨1,dv (bM i),dL (dv (bM i)) 1⟩=true:=vH fM ⟨by decide,by decide⟩
  have g:g0 (gw i (bM i))=true:=by
   show ((0:Int) != -1&&aF (i:Int) ⟨1,dv (bM i),dL (dv (bM i)) 1⟩)=true
   rw[ha];rfl
  have hf:bj (gw i (bM i))=0:=by
   rw[uN,g,show decide ((gw i (bM i)).pb.co>(gw i (bM i)).pa.co)=false from rfl]
   simp
  unfold aE
  rw[hf];rfl
 have dH:∀ i:Nat,i<6->∀ s,gf (gw i (bM i)) s->s=dv (bM i):=fun i hi s hs=>by
  rcases hs with h | h | ⟨h,_⟩
  ·rw[h,ez i hi]
  ·exact h
  ·exact absurd h (by show ¬ (0:Int)<= -1;omega)
 refine⟨xz.ok,xz.me,fun i hi j hj=>?_,fun i hi s hs=>?_,fun i hi j hj=>?_,fun i hi s hs j hj=>?_,fun b hb=>?_,fun i hi=>?_⟩
 ·rw[e i hi]
  show (0:Int)=(dv (bM i)).se.get j
  exact(z _ _).symm
 ·rw[e i hi]at hs |-
  have :=dH i hi s hs
  subst this
  have aa:=xz.ok i hi
  rw[e i hi]at aa
  have fM:=(ju.1 aa).1
  refine⟨fM,fun j _=>by rw[ez i hi];exact Int.le_refl _,fun j _=>Int.le_refl _,fun j _=>by rw[ez i hi];exact Int.le_refl _,fun j _=>Int.le_refl _,fun j _ p hp=>?_,fun y=>?_⟩
  ·rw[show (dv (bM i)).un.get j=[]from z _ _]at hp;cases hp
  ·show (bM (i:Int)).count y+_=(bM (i:Int)).count y+_
   congr 1
 ·rw[e i hi,e j hj,ez i hi]
  show (dv (bM j)).ta.get i<=(dv (bM i)).se.get j
  rw[show (dv (bM j)).ta.get i=0 from z _ _,show (dv (bM i)).se.get j=0 from z _ _]
  exact Int.le_refl _
 ·rw[e i hi]at hs
  have :=dH i hi s hs
  subst this
  rw[e j hj,ez j hj,show (dv (bM i)).se.get j=0 from z _ _,show (dv (bM i)).un.get j=[]from z _ _,show (dv (bM j)).ta.get i=0 from z _ _]
  decide
 ·rw[Gg]at hb;cases hb
 ·rw[e i hi]
  exact⟨by show (1:Int)<=((0:Nat):Int)+1;decide,by show (0:Int)<=((0:Nat):Int)+1;decide⟩
theorem BG(l:List Act):∀ z,z<90000->ig z (th l z)
 | 0,_=>ab7
 |z+1,h=>(BG l z (by omega)).act (by omega) _
set_option maxRecDepth 100000
def Ln:En Sx:=⟨fun x=>.agg (fT x),fun v=>⟨ef fun i=>o5 (((V.L v).drop (i*63)).take 63),match (V.L v).getD 378 default with | .sl l=>l.map nL | _=>[]⟩⟩
theorem XQ(x:Sx):Ln.dec (.agg (fT x))=x:=by
 show (⟨ef fun i=>o5 (((fT x).drop (i*63)).take 63),match (fT x).getD 378 default with | .sl l=>l.map nL | _=>[]⟩:Sx)=x
 have e:(ef fun i=>o5 (((fT x).drop (i*63)).take 63))=x.ds:=BS fun i hi=>by
  have :(ef fun i=>o5 (((fT x).drop (i*63)).take 63)).get i=o5 (((fT x).drop (i*63)).take 63):=
   jB (P:=fun j=>(ef fun i=>o5 (((fT x).drop (i*63)).take 63)).get j=o5 (((fT x).drop (j*63)).take 63)) rfl rfl rfl rfl rfl rfl hi
  rw[this,Rr x hi,FO]
 rw[e,Rt]
 obtain⟨ds,bs⟩:=x
 show (⟨ds,(bs.map fQ).map nL⟩:Sx)=_
 rw[rD uY]
@[go_sem] theorem agw(x:Sx):Ln.dec (.agg (fT x))=x:=XQ x
@[go_sem] theorem ahK(a:Act):(j5 a).take 5=j5 a:=rfl
theorem Cv(l:List Bag):∀ y∈l.map fQ,y.cells.length=4/\y.okc=true:=by
 intro y hy;obtain⟨x,_,rfl⟩:=List.mem_map.1 hy;exact⟨rfl,rfl⟩
def OJ(x:Sx)(nm:Name)(n:Nat):List D:=List.take 378 (List.map D.v (fT x))++[.msl nm n]
@[go_sem] theorem ahw(dom:Name->Bool)(x:Sx)(nm:Name)(n:Nat):D.closL dom (OJ x nm n)=dom nm:=by
  unfold OJ
  rw[<-List.map_take]
  have h:∀ l:List V,D.closL dom (l.map D.v++[.msl nm n])=dom nm:=fun l=>by
   induction l with
   |nil=>show (D.clos dom (.msl nm n)&&true)=_;rw[Bool.and_true];rfl
   |cons a r ih=>show (true&&D.closL dom (r.map D.v++[.msl nm n]))=_;rw[Bool.true_and,ih]
  exact h _
noncomputable def K71:List (Nat×Spec):=[(12,S21),(30,S109)]
attribute [go_sem] K71
def sF(a:Act):V:=.agg (j5 a)
def zp:En (List Act):=⟨fun l=>.sl (l.map sF),fun v=>match v with | .sl l=>l.map rK.dec | _=>[]⟩
theorem XY(l:List Act):(l.map sF).map rK.dec=l:=rD (fun _=>rfl) l
@[go_sem] theorem XW(l:List Act):zp.dec (.sl (l.map sF))=l:=XY l
theorem acw{l:List Act}{i:Nat}(h:i<l.length):(l.map sF).getD i default=.agg (j5 (l.getD i default)):=by
 simp[List.getD_eq_getElem?_getD,List.getElem?_eq_getElem h,sF]
@[go_sem] theorem agk(g:V)(fl:Bool)(xs:List V):(p0 g fl).fn xs=g:=rfl
@[go_sem] theorem agj(g:V)(fl:Bool)(xs:List V):(p0 g fl).pre xs=(xs=[]):=rfl
noncomputable def K72:List (Nat×Spec):=[]
attribute [go_sem] K72
def b9(x:Sx):List V:=[.sl (x.ds.L encDk),.sl (x.bs.map fQ)]
def ue:En Sx:=⟨fun x=>.agg (b9 x),fun v=>match v with | .agg [.sl a,.sl b]=>⟨ef fun i=>lE (a.getD i default),b.map nL⟩ | _=>⟨ef fun _=>default,[]⟩⟩
@[go_sem] theorem adH(x:Sx):(b9 x).length=2:=rfl
@[go_sem] theorem adI(x:Sx):(b9 x).take 2=b9 x:=rfl
@[go_sem] theorem adB(x:Sx):((b9 x).map D.v).length=2:=rfl
@[go_sem] theorem adE(x:Sx):((b9 x).map D.v).take 2=(b9 x).map D.v:=rfl
@[go_sem] theorem adC(x:Sx):((b9 x).map D.v).drop 2=[]:=rfl
@[go_sem] theorem adK(x:Sx):(b9 x).getD 0 default=.sl (x.ds.L encDk):=rfl
@[go_sem] theorem adJ(x:Sx):(b9 x).getD 1 default=.sl (x.bs.map fQ):=rfl
@[go_sem] theorem adG(x:Sx):((b9 x).map D.v).getD 0 .any=.v (.sl (x.ds.L encDk)):=rfl
@[go_sem] theorem adF(x:Sx):((b9 x).map D.v).getD 1 .any=.v (.sl (x.bs.map fQ)):=rfl
theorem XP(x:Sx):ue.dec (.agg (b9 x))=x:=by
 show (⟨ef fun i=>lE ((x.ds.L encDk).getD i default),(x.bs.map fQ).map nL⟩:Sx)=x
 have e:(ef fun i=>lE ((x.ds.L encDk).getD i default))=x.ds:=BS fun i hi=>by
  have :(ef fun i=>lE ((x.ds.L encDk).getD i default)).get i=lE ((x.ds.L encDk).getD i default):=
   jB (P:=fun j=>(ef fun i=>lE ((x.ds.L encDk).getD i default)).get j=lE ((x.ds.L encDk).getD j default)) rfl rfl rfl rfl rfl rfl hi
  rw[this,aS.L_get _ _ _ hi,FN]
 rw[e,rD uY]
@[go_sem] theorem agv(x:Sx):ue.dec (.agg (b9 x))=x:=XP x
def o7:Nat->List Dk
 | 0=>[]
 |z+1=>o7 z++[gw z (bM z)]
theorem OM:∀ z,(o7 z).length=z
 | 0=>rfl
 |z+1=>by
  show (o7 z++[_]).length=z+1
  rw[List.length_append,OM z];rfl
theorem Uz{i:Nat}(hi:i<6):rB i (bM i)=gw i (bM i)/\pF i (bM i)=0/\((i:Int)<=5):=
 jB (P:=fun i=>rB (i:Int) (bM i)=gw i (bM i)/\pF i (bM i)=0/\((i:Int)<=5)) ⟨rfl,rfl,by decide⟩ ⟨rfl,rfl,by decide⟩ ⟨rfl,rfl,by decide⟩ ⟨rfl,rfl,by decide⟩ ⟨rfl,rfl,by decide⟩ ⟨rfl,rfl,by decide⟩ hi
noncomputable def PJ:List (Nat×Spec):=[(29,S108),(11,S37)]
theorem acP:∀ f s,tbl PJ f=some s->an Tryd.prog f s:=tc Lb<|tc Xf<|tn
attribute [go_sem] PJ
noncomputable def P507:PSpec:=p0 (.tup [.agg (b9 (mK 6)),.bool true]) false
noncomputable def S507:Spec:=P507.toSpec
attribute [go_sem] P507 S507
set_option maxHeartbeats 8000000 in
theorem SV:aZ Tryd.prog 7 P507:=by
 refine w0 (rs:=[.cell 0 26,.tmp 1]) Tryd.func7 Tryd.ntmps7 (by rfl) (by kernel_rfl) (by decide) (fun h=>by cases h) ⟨_,rfl,lb rfl,fun hp hw=>?_⟩
 have hP:=bn
 have hΓ:=acP
 repeat refine sq ?_
 refine rx hΓ [0] [[0,0],[24,0]] (fun K' hK=>by simp only[go_sem];(repeat (refine⟨ah,?_⟩));exact hK _ (by simp only[go_sem]) (by simp only[go_sem]<;>rfl)) ?_
 repeat refine sq ?_
 refine rx hΓ [0,2] [[0,0],[2,0],[24,0]] (fun K' hK=>by simp only[go_sem];(repeat (refine⟨ah,?_⟩));exact hK _ (by simp only[go_sem]) (by simp only[go_sem]<;>rfl)) ?_
 refine aN (QP [2,0] [24,0] 0 63 _ rfl rfl rfl [0,2] [[0,0],[2,0],[24,0]] ?_ rfl) ?_
 ·simp only[go_sem,List.set_cons_succ,List.set_cons_zero]
 simp only[go_sem,List.set_cons_succ,List.set_cons_zero]
 repeat refine sq ?_
 refine rx hΓ [0,2,3] [[0,0],[2,0],[24,0]] (fun K' hK=>by simp only[go_sem];(repeat (refine⟨ah,?_⟩));exact hK _ (by simp only[go_sem]) (by simp only[go_sem]<;>rfl)) ?_
 repeat refine sq ?_
 refine aL ?_
 repeat refine sq ?_
 refine cN (fun z:Nat=>[(3,⟨true,.v (vInt z)⟩)]) (fun z=>[([2,0],.box [.msl [24,0] (o7 z).length,.nilsl]),([24,0],.arr 63 ((o7 z).map encDk))]) (fun z=>z<=6) (fun z=>6-z) 0 ?_ ?_ ?_ ?_
 ·exact Nat.zero_le _
 ·rfl
 ·rfl
 rintro i hi
 simp only[go_sem]
 repeat refine sq ?_
 refine rx hΓ [0,2,3,7] [[0,0],[2,0],[24,0]] (fun K' hK=>by simp only[go_sem];(repeat (refine⟨ah,?_⟩));exact hK _ (by simp only[go_sem]) (by simp only[go_sem]<;>rfl)) ?_
 repeat refine sq ?_
 refine aw rfl rfl (fun hb=>?_) (fun hb=>?_)
 ·have ae:i<6:=by have hq:(i:Int)<6:=(by simpa using hb);omega
  have ak:(i:Int)<6:=by omega
  clear hb
  have hr:(0:Int)<=(i:Int)/\(i:Int)<6:=⟨by omega,by omega⟩
  obtain⟨e1,e2,_⟩:=Uz ae
  have e3:=OM i
  repeat refine sq ?_
  refine aA ?_
  repeat refine sq ?_
  refine aL ?_
  repeat refine sq ?_
  refine rx hΓ [0,2,3,4,5] [[0,0],[2,0],[4,0],[24,0]] (fun K' hK=>by simp only[go_sem,Int.toNat_natCast,Int.natCast_nonneg,ak,Int.toNat_natCast,Int.natCast_nonneg,ak,hr,e1,e2,List.append_nil];(repeat (refine⟨by first | exact hr | exact ah,?_⟩));exact hK _ (by simp only[go_sem]) (by simp only[go_sem]<;>rfl)) ?_
  repeat refine sq ?_
  refine rx hΓ [0,2,3,4,18] [[0,0],[2,0],[4,0],[24,0]] (fun K' hK=>by simp only[go_sem,Int.toNat_natCast,Int.natCast_nonneg,ak,e2];(repeat (refine⟨ah,?_⟩));exact hK _ (by simp only[go_sem]) (by simp only[go_sem]<;>rfl)) ?_
  repeat refine sq ?_
  refine aw rfl rfl (fun hb=>?_) (fun hb=>?_)
  ·cases hb
  ·repeat refine sq ?_
   refine aA ?_
   repeat refine sq ?_
   refine aX hΓ fun K' hK=>?_
   simp only[go_sem,Int.toNat_natCast,Int.natCast_nonneg,ak,List.map_append,List.length_append,List.map_cons,List.map_nil,List.length_cons,List.length_nil]
   repeat (refine⟨ah,?_⟩)
   refine hK _ ?_
   clear K' hK
   simp only[go_sem]
   refine kp [0,2,3] [[0,0],[2,0],[24,0]] ?_
   repeat refine sq ?_
   refine aX hΓ fun K' hK=>?_
   simp only[go_sem,Int.toNat_natCast,Int.natCast_nonneg,ak]
   repeat (refine⟨ah,?_⟩)
   refine hK _ ?_
   clear K' hK
   simp only[go_sem]
   refine⟨i+1,ae,by(show 6-(i+1)<6-i;omega),?_⟩
   refine bx [0,2,3] [[0,0],[2,0],[24,0]] ?_ ?_
   ·simp only[go_sem,aH ae (lb rfl:(6:Nat)<=maxLen),Int.natCast_add,Int.natCast_one,show o7 (i+1)=o7 i++[gw i (bM i)]from rfl,List.map_append,List.length_append,List.map_cons,List.map_nil,List.length_cons,List.length_nil]
   ·simp only[go_sem,aH ae (lb rfl:(6:Nat)<=maxLen),Int.natCast_add,Int.natCast_one,show o7 (i+1)=o7 i++[gw i (bM i)]from rfl,List.map_append,List.length_append,List.map_cons,List.map_nil,List.length_cons,List.length_nil]
 ·have bf:i=6:=by
   have :¬ (i:Int)<6:=by simpa using hb
   omega
  clear hb
  subst bf
  repeat refine sq ?_
  refine cq ?_
  simp only[go_sem]
  refine kp [0,2] [[0,0],[2,0],[24,0]] ?_
  repeat refine sq ?_
  refine rx hΓ [0,1] [[0,0],[24,0]] (fun K' hK=>by simp only[go_sem,List.append_nil];(repeat (refine⟨ah,?_⟩));exact hK _ (by simp only[go_sem]) (by simp only[go_sem]<;>rfl)) ?_
  refine aN (dK [0,0] [24,0] 0 _ _ _ _ rfl rfl rfl (by first | rfl | (simp only[List.length_map,List.length_map];done)) [0,1] [[0,0]] ?_ rfl) ?_
  ·simp only[go_sem,List.set_cons_succ,List.set_cons_zero,List.length_map]
  simp only[go_sem,List.set_cons_succ,List.set_cons_zero,List.length_map]
  refine aN (nU [0,0] _ (b9 (mK 6)) rfl rfl [0,1] [[0,0]] ?_ rfl) ?_
  ·simp only[go_sem]
  simp only[go_sem]
  refine av ?_
  simp only[go_sem]
  skip
theorem Xb:an Tryd.prog 7 S507:=SV.sound
end Go.Eng
set_option linter.constructorNameAsVariable false
namespace Go.Eng
open Go Go.Proofs
def bX(x:Sx):List Dk:=x.ds.L id
theorem NI(x:Sx):(bX x).length=6:=rfl
theorem uR(x:Sx){i:Nat}(h:i<6):(bX x).getD i default=x.ds.get i:=aS.L_get x.ds id default h
theorem xk(x:Sx){i:Nat}(h:i<(bX x).length):(bX x)[i]=x.ds.get i:=by
 rw[<-getD_at (z:=default) h]
 exact uR x (by rw[NI]at h;exact h)
theorem NH{n:Nat}{x:Sx}(h:iL x n):ek (bX x)=true:=by
 unfold ek
 rw[Bool.and_eq_true,decide_eq_true_eq,gJ]
 refine⟨fun i hi=>?_,Nat.le_refl 6⟩
 have Ep:i<6:=hi
 unfold nJ
 rw[uR x Ep,uR x (show i-1<6 by omega),h.ok i Ep,Bool.true_and,h.me i Ep,h.me (i-1) (by omega)]
 cases i with
 |zero=>rfl
 |succ i=>simp;omega
theorem TU{me:Nat}(hm:me<6){p:Int}(hp:p∈bM me):aP p 1 999=true:=by
 unfold bM at hp
 simp only[List.mem_cons,List.not_mem_nil,or_false]at hp
 exact cf.2 (by omega)
theorem YD{l:List Int}(h:l.Pairwise (· < ·))(p:Int):l.count p=if bB l p=true then 1 else 0:=by
 have iT:l.Nodup:=h.imp (fun h=>by omega)
 rw[iT.count]
 unfold bB
 simp
theorem QA{l:List Dk}{p:Int}{z:Nat}(hz:z<l.length)(h:l[z].now.ho.Pairwise (· < ·)):(gM l p (z+1)).length=(gM l p z).length+l[z].now.ho.count p:=by
 rw[YD h]
 cases hb:bB l[z].now.ho p
 ·rw[G5 hz hb];simp
 ·rw[G4 hz hb,List.length_append];simp
theorem XN{x:Sx}(h:∀ i,i<6->(x.ds.get i).me=(i:Int)){k:Nat}(hk:k<6):gW (ru (k:Int)) (bX x)=(k:Int):=by
 refine Di (p:=ru (k:Int)) (show k<(bX x).length from hk) ?_ fun j hj p7=>?_
 ·rw[xk]
  unfold ru
  rw[h k hk]
  simp
 ·rw[xk]
  unfold ru
  rw[h j hj]
  simp only[beq_eq_false_iff_ne,ne_eq]
  omega
theorem abl{lg:Nat->Nat->List Int}{n:Nat}{x:Sx}(w:bw ini0 lg x n)(p:Int){i k:Nat}(hi:i<6)(hk:k<6):(uZ (bX x) p (x.ds.get i) k ((x.ds.get i).now.un.get k).length).length=ct p (lg i k) ((x.ds.get i).now.se.get k)-ct p (lg i k) ((x.ds.get k).now.ta.get i):=by
 have o:=w.st i hi _ jh
 have ok:=w.st k hk _ jh
 have ht:xW (bX x) (k:Int) (x.ds.get i).me.toNat=(x.ds.get k).now.ta.get i:=by
  rw[Rb (XN w.me hk) (show k<(bX x).length from hk),xk,w.me i hi,Int.toNat_natCast]
 have hle:(x.ds.get k).now.ta.get i<=(x.ds.get i).now.se.get k:=Int.le_trans (w.acks i hi k hk) (o.sl k hk)
 have hc:=Gc (x:=p) (t:=(x.ds.get k).now.ta.get i) (w.len i hi k hk) (ok.ok.ta i hi).1 (o.ok.un k hk).1 (o.un k hk) (Int.le_trans (w.cov i hi _ jh k hk) (ok.tl i hi))
 rw[Int.max_eq_left hle]at hc
 unfold uZ
 rw[List.take_length,List.length_map]
 have hf:((x.ds.get i).now.un.get k).filter (F4 (bX x) p (x.ds.get i) k)=((x.ds.get i).now.un.get k).filter (fun q=>q.pa==p&&decide (q.no>(x.ds.get k).now.ta.get i)):=by
  congr 1
  funext q
  unfold F4
  rw[ht]
 rw[hf]
 omega
theorem abm{lg:Nat->Nat->List Int}{n:Nat}{x:Sx}(w:bw ini0 lg x n)(p:Int){i:Nat}(hi:i<6):(qv (bX x) p (x.ds.get i) 6).length=bk fun k=>ct p (lg i k) ((x.ds.get i).now.se.get k)-ct p (lg i k) ((x.ds.get k).now.ta.get i):=by
 have a:=fun k hk=>abl w p hi (k:=k) hk
 simp only[qv,List.length_append,List.length_nil,bk]
 rw[a 0 (by omega),a 1 (by omega),a 2 (by omega),a 3 (by omega),a 4 (by omega),a 5 (by omega)]
 omega
theorem Un{n:Nat}{x:Sx}(h:ig n x){me:Nat}(hm:me<6){p:Int}(hp:p∈bM me):iv (bX x) p=0/\(s6 (bX x) p).length+(F3 (bX x) p).length=1:=by
 have he:iv (bX x) p=0:=yA (NH h.ok) (TU hm hp)
 refine⟨he,?_⟩
 rw[vm he,N5 he]
 obtain⟨lg,w⟩:=h.wl
 have cF:∀ i:Nat,i<6->e7 (i:Int) (x.ds.get i).now:=fun i hi=>(w.st i hi _ jh).ok
 have hw:(gM (bX x) p 6).length=bk fun i=>(x.ds.get i).now.ho.count p:=by
  have a:∀ z,z<6->(gM (bX x) p (z+1)).length=(gM (bX x) p z).length+(x.ds.get z).now.ho.count p:=fun z hz=>by
   have rP:z<(bX x).length:=hz
   have :=QA (p:=p) rP (by rw[xk];exact(cF z hz).ri)
   rw[xk]at this
   exact this
  have h0:(gM (bX x) p 0).length=0:=by unfold gM;simp
  have a0:=a 0 (by omega);have a1:=a 1 (by omega);have a2:=a 2 (by omega)
  have a3:=a 3 (by omega);have a4:=a 4 (by omega);have a5:=a 5 (by omega)
  simp only[bk]
  simp only[Nat.zero_add,Nat.reduceAdd]at a0 a1 a2 a3 a4 a5
  omega
 obtain⟨g,hg⟩:∃ g:Nat->Nat,g=fun i=>bk fun k=>ct p (lg i k) ((x.ds.get i).now.se.get k)-ct p (lg i k) ((x.ds.get k).now.ta.get i):=⟨_,rfl⟩
 have hc:(mE (bX x) p 6).length=bk g:=by
  have a:∀ z,z<6->(mE (bX x) p (z+1)).length=(mE (bX x) p z).length+g z:=fun z hz=>by
   show (mE (bX x) p z++qv (bX x) p ((bX x).getD z default) 6).length=_
   rw[List.length_append,uR x hz,abm w p hz,hg]
  have h0:(mE (bX x) p 0).length=0:=rfl
  have a0:=a 0 (by omega);have a1:=a 1 (by omega);have a2:=a 2 (by omega)
  have a3:=a 3 (by omega);have a4:=a 4 (by omega);have a5:=a 5 (by omega)
  simp only[Nat.zero_add,Nat.reduceAdd]at a0 a1 a2 a3 a4 a5
  simp only[bk]
  omega
 have q:Qs ini0 lg x 0 (x.ds.get 0).now:=by
  have o:=w.st 0 (by omega) _ jh
  exact⟨o.co,fun j hj=>w.acks j hj 0 (by omega),fun j hj=>Int.le_trans (w.acks 0 (by omega) j hj) (o.sl j hj),Int.le_trans (w.acks 0 (by omega) 0 (by omega)) (o.sl 0 (by omega))⟩
 obtain⟨S,hS⟩:∃ S:Nat->Stk,S=fun i=>if i=0 then(x.ds.get 0).now else(x.ds.get i).now:=⟨_,rfl⟩
 have ZS:∀ i,S i=(x.ds.get i).now:=fun i=>by
  rw[hS]
  show (if i=0 then(x.ds.get 0).now else(x.ds.get i).now)=_
  split
  ·next e=>rw[e]
  ·rfl
 have ht:=(w.sum (by omega) q p hS).2
 simp only[ZS]at ht
 rw[<-hg]at ht
 have h1:bk (fun i=>(ini0 i).count p)=1:=by
  have hle:=vY.one p
  have bf:1<=bk (fun i=>(ini0 i).count p):=Nat.le_trans (show 1<=(ini0 me).count p from List.count_pos_iff.2 hp) (vp (f:=fun i=>(ini0 i).count p) hm)
  omega
 rw[NI]
 omega
end Go.Eng
set_option linter.constructorNameAsVariable false
namespace Go.Eng
open Go Go.Proofs
theorem Qv{d:Dk}(h:ay d=true)(he:eI d=0):aE (eX (cS d))=d.now:=by
 obtain⟨⟨ok,_,_⟩,_⟩:=qL h he
 have hV:cS d=eB d:=by unfold cS;rw[if_pos he]
 have hw:(cS d).wet=jc d:=by
  rw[hV];unfold eB;rw[BV];rfl
 have h2:0<=jc d/\(jc d).toNat<2:=by
  unfold jc
  obtain⟨f0,f2,_⟩:=oZ h
  have :=AF h
  split<;>omega
 rcases NF ok with e | ⟨_,e⟩
 ·have:(eX (cS d)).wet= -1:=by rw[kx ok];rfl
  rw[e,hw]at this
  omega
 ·rw[kx ok,e,hw,hV]
  unfold eB
  rw[Dk.pg_set _ h2.2]
def Bw(d:Dk):Dk:=eX (cS d)
def bF(x:Sx):Nat->Sx
 | 0=>x
 |z+1=>(bF x z).set z (Bw ((bF x z).ds.get z))
theorem Ii(x:Sx):∀ z,(bF x z).bs=x.bs
 | 0=>rfl
 |z+1=>Ii x z
theorem yq(x:Sx):∀ z,z<=6->∀ i,i<6->(bF x z).ds.get i=if i<z then Bw (x.ds.get i)else x.ds.get i
 | 0,_,i,_=>(if_neg (by omega)).symm
 |z+1,hz,i,hi=>by
  show ((bF x z).set z (Bw ((bF x z).ds.get z))).ds.get i=_
  by_cases e:i=z
  ·subst e
   rw[Sx.get_set _ hi,yq x i (by omega) i hi,if_neg (by omega),if_pos (by omega)]
  ·rw[Sx.get_ne _ (by omega) hi e,yq x z (by omega) i hi]
   by_cases h:i<z
   ·rw[if_pos h,if_pos (by omega)]
   ·rw[if_neg h,if_neg (by omega)]
theorem yp{lg:Nat->Nat->List Int}{n:Nat}{x:Sx}(h:bw ini0 lg x n)(hn:n<80000):∀ z,z<=6->bw ini0 lg (bF x z) (n+z)
 | 0,_=>h
 |z+1,hz=>by
  have w:=yp h hn z (by omega)
  have hk:z<6:=by omega
  obtain⟨_,w1⟩:=w.write hk (by omega)
  have w2:=w1.dry hk
  rw[Sx.get_set _ hk]at w2
  have e:((bF x z).set z (cS ((bF x z).ds.get z))).set z (eX (cS ((bF x z).ds.get z)))=(bF x z).set z (eX (cS ((bF x z).ds.get z))):=by
   show (⟨(((bF x z).ds.set z _).set z _),(bF x z).bs⟩:Sx)=⟨(bF x z).ds.set z _,(bF x z).bs⟩
   congr 1
   refine BS fun i hi=>?_
   rw[aS.set_at _ hk hi,aS.set_at _ hk hi,aS.set_at _ hk hi]
   split<;>rfl
  rw[e]at w2
  exact w2
theorem Cb{n:Nat}{x:Sx}(h:ig n x)(hn:n<80000):∀ z,z<=6->iL (bF x z) n
 | 0,_=>h.ok
 |z+1,hz=>by
  obtain⟨lg,w⟩:=h.wl
  have s:=Cb h hn z (by omega)
  have wz:=yp w hn z (by omega)
  have hk:z<6:=by omega
  have he:=(wz.write hk (by omega)).1
  obtain⟨⟨o1,m1,s1⟩,_⟩:=qL (wz.ok z hk) he
  obtain⟨⟨o2,m2,s2⟩,_⟩:=Az o1
  exact s.kept hk ⟨o2,m2.trans m1,fun q=>s2 (s1 q)⟩
theorem TH{lg:Nat->Nat->List Int}{n:Nat}{x:Sx}(h:bw ini0 lg x n)(hn:n<80000){i:Nat}(hi:i<6):aE ((bF x 6).ds.get i)=(x.ds.get i).now:=by
 rw[yq x 6 (Nat.le_refl _) i hi,if_pos hi]
 exact Qv (h.ok i hi) (h.write hi (by omega)).1
theorem TG{lg:Nat->Nat->List Int}{n:Nat}{x:Sx}(h:bw ini0 lg x n)(hn:n<80000){i:Nat}(hi:i<6):((bF x 6).ds.get i).now=(x.ds.get i).now:=by
 rw[yq x 6 (Nat.le_refl _) i hi,if_pos hi]
 have he:=(h.write hi (by omega)).1
 show (eX (cS _)).now=_
 rw[ND (qL (h.ok i hi) he).1.ok,GX he]
def jX(x:Sx)(i:Nat):Nat->List Bag
 | 0=>[]
 |j+1=>if i=j then jX x i j else jX x i j++[fI (x.ds.get i) (j:Int)]
def lH(x:Sx):Nat->List Bag
 | 0=>[]
 |i+1=>lH x i++jX x i 6
theorem AT(x:Sx)(i:Nat):∀ j,∀ b,b∈jX x i j↔∃ k,k<j/\i≠k/\b=fI (x.ds.get i) (k:Int)
 | 0,b=>⟨fun h=>(by cases h),fun ⟨k,h,_⟩=>(by omega)⟩
 |j+1,b=>by
  unfold jX
  split
  ·next e=>
   rw[AT x i j]
   exact⟨fun ⟨k,h1,h2,h3⟩=>⟨k,by omega,h2,h3⟩,fun ⟨k,h1,h2,h3⟩=>⟨k,by omega,h2,h3⟩⟩
  ·next e=>
   rw[List.mem_append,AT x i j,List.mem_singleton]
   constructor
   ·rintro(⟨k,h1,h2,h3⟩ | h)
    ·exact⟨k,by omega,h2,h3⟩
    ·exact⟨j,by omega,e,h⟩
   ·rintro⟨k,h1,h2,h3⟩
    by_cases hk:k=j
    ·subst hk;exact .inr h3
    ·exact .inl ⟨k,by omega,h2,h3⟩
theorem ON(x:Sx):∀ i,∀ b,b∈lH x i↔∃ k,k<i/\b∈jX x k 6
 | 0,b=>⟨fun h=>(by cases h),fun ⟨k,h,_⟩=>(by omega)⟩
 |i+1,b=>by
  show b∈lH x i++jX x i 6↔_
  rw[List.mem_append,ON x i]
  constructor
  ·rintro(⟨k,h1,h2⟩ | h)
   ·exact⟨k,by omega,h2⟩
   ·exact⟨i,by omega,h⟩
  ·rintro⟨k,h1,h2⟩
   by_cases hk:k=i
   ·subst hk;exact .inr h2
   ·exact .inl ⟨k,by omega,h2⟩
end Go.Eng
set_option linter.constructorNameAsVariable false
namespace Go.Eng
open Go Go.Proofs
theorem HT{f:Nat}(hf:f<6){ps:List Par}{E:Int}(hp:PT E ps){s0:Stk}(h1:E-(ps.length:Int)<=s0.ta.get f)(h2:s0.ta.get f<=E):∀ z,z<=ps.length->(bO f ps s0 z).ta.get f=max (s0.ta.get f) (E-(ps.length:Int)+(z:Int))
 | 0,_=>by
   show s0.ta.get f=_
   omega
 |z+1,hz=>by
  have ih:=HT hf hp h1 h2 z (by omega)
  have eE:=(xM.1 hp z (by omega)).1
  obtain⟨s,hs⟩:∃ s,s=bO f ps s0 z:=⟨_,rfl⟩
  rw[<-hs]at ih
  show (gP f (bO f ps s0 z) (ps.getD z default)).ta.get f=_
  rw[<-hs,getD_at (show z<ps.length by omega)]
  unfold gP
  by_cases hn:eg f s (ps[z]'(by omega))=true
  ·rw[if_pos hn]
   show (s.ta.set f (s.ta.get f+1)).get f=_
   rw[aS.set_at _ hf hf,if_pos rfl]
   unfold eg at hn
   have pY:(ps[z]'(by omega)).no=s.ta.get f+1:=by simpa using hn
   omega
  ·rw[if_neg hn]
   have pY:(ps[z]'(by omega)).no≠s.ta.get f+1:=fun e=>hn (by unfold eg;rw[e];simp)
   omega
theorem Ra(f:Nat)(s:Stk)(p:Par):(gP f s p).se=s.se:=by
 unfold gP
 split<;>rfl
theorem Ht(f:Nat)(ps:List Par)(s0:Stk):∀ z,(bO f ps s0 z).se=s0.se
 | 0=>rfl
 |z+1=>(Ra f _ _).trans (Ht f ps s0 z)
theorem Q'{f:Nat}(hf:f<6)(s:Stk)(p:Par){j:Nat}(hj:j<6):s.ta.get j<=(gP f s p).ta.get j:=by
 unfold gP
 split
 ·show _<=(s.ta.set f (s.ta.get f+1)).get j
  rw[aS.set_at _ hf hj]
  split
  ·next e=>subst e;omega
  ·exact Int.le_refl _
 ·exact Int.le_refl _
theorem Hs{f:Nat}(hf:f<6)(ps:List Par)(s0:Stk){j:Nat}(hj:j<6):∀ z,s0.ta.get j<=(bO f ps s0 z).ta.get j
 | 0=>Int.le_refl _
 |z+1=>Int.le_trans (Hs hf ps s0 hj z) (Q' hf _ _ hj)
def fV(x:Sx)(l:List Bag):Nat->Sx
 | 0=>x
 |z+1=>(fV x l z).set (l.getD z default).to.toNat (eK ((fV x l z).ds.get (l.getD z default).to.toNat) (l.getD z default))
theorem Ih(x:Sx)(l:List Bag):∀ z,(fV x l z).bs=x.bs
 | 0=>rfl
 |z+1=>Ih x l z
structure Ob (lg:Nat->Nat->List Int) (n:Nat) (x:Sx) (l:List Bag) (z:Nat) (y:Sx):Prop where
 wl:bw ini0 lg y n
 sx:iL y n
 fm:∀ i,i<6->aE (y.ds.get i)=aE (x.ds.get i)
 se:∀ i,i<6->(y.ds.get i).now.se=(x.ds.get i).now.se
 ta:∀ i,i<6->∀ j,j<6->(x.ds.get i).now.ta.get j<=(y.ds.get i).now.ta.get j
 un:∀ i,i<6->∀ j,j<6->∀ p∈(y.ds.get i).now.un.get j,p∈(x.ds.get i).now.un.get j
 bg:∀ b∈l,qJ lg y b
 tk:∀ k (h:k<l.length),k<z->(aE (x.ds.get l[k].fr.toNat)).se.get l[k].to.toNat<=(y.ds.get l[k].to.toNat).now.ta.get l[k].fr.toNat
 gn:∀ k (h:k<l.length),k<z->∀ p∈(y.ds.get l[k].to.toNat).now.un.get l[k].fr.toNat,l[k].ta<p.no
theorem Ig{lg:Nat->Nat->List Int}{n:Nat}{x:Sx}(hw:bw ini0 lg x n)(hs:iL x n){l:List Bag}(hb:∀ b∈l,qJ lg x b)
 (hc:∀ b∈l,PT ((aE (x.ds.get b.fr.toNat)).se.get b.to.toNat) b.ps/\(aE (x.ds.get b.fr.toNat)).se.get b.to.toNat-(b.ps.length:Int)<=(aE (x.ds.get b.to.toNat)).ta.get b.fr.toNat):
 ∀ z,z<=l.length->Ob lg n x l z (fV x l z)/\(∀ (h:z<l.length),fZ ((fV x l z).ds.get l[z].to.toNat) l[z]=0)
 |z,hz=>by
  have ho:Ob lg n x l z (fV x l z):=by
   match z,hz with
   | 0,_=>exact⟨hw,hs,fun _ _=>rfl,fun _ _=>rfl,fun _ _ _ _=>Int.le_refl _,fun _ _ _ _ p hp=>hp,hb,fun k _ h=>by omega,fun k _ h=>by omega⟩
   |z+1,hz=>
    obtain⟨o,hE⟩:=Ig hw hs hb hc z (by omega)
    have Lr:z<l.length:=by omega
    have hE:=hE Lr
    have hg:l.getD z default=l[z]:=getD_at Lr
    obtain⟨b,mv⟩:∃ b,b=l[z]:=⟨_,rfl⟩
    obtain⟨y,hy⟩:∃ y,y=fV x l z:=⟨_,rfl⟩
    have MD:b∈l:=by rw[mv];exact List.getElem_mem _
    rw[<-hy]at o hE
    rw[<-mv]at hE
    have Yl:fV x l (z+1)=y.set b.to.toNat (eK (y.ds.get b.to.toNat) b):=by
     show (fV x l z).set (l.getD z default).to.toNat _=_
     rw[hg,<-mv,<-hy]
    rw[Yl]
    have hB:=o.bg b MD
    obtain⟨f6,t6,aj,f0,t0,pV,Hg⟩:=u9 hB.ok
    obtain⟨k,hk⟩:∃ k,k=b.to.toNat:=⟨_,rfl⟩
    obtain⟨f,hf⟩:∃ f,f=b.fr.toNat:=⟨_,rfl⟩
    have kQ:=(o.wl.open vY hB hk).2
    rw[<-hk]at t6 hE aj |-
    rw[<-hf]at f6 aj
    obtain⟨⟨YY,ez⟩,_,z8,hV⟩:=Cu (o.wl.ok k t6) hE
    rw[<-hf]at hV z8
    have gk:=y.get_set t6 (eK (y.ds.get k) b)
    have gn:∀ i,i<6->i≠k->(y.set k (eK (y.ds.get k) b)).ds.get i=y.ds.get i:=fun i hi h=>y.get_ne t6 hi h _
    have fe:(eK (y.ds.get k) b).now.se=(y.ds.get k).now.se:=by rw[hV];exact Ht _ _ _ _
    have pQ:∀ j,j<6->(y.ds.get k).now.ta.get j<=(eK (y.ds.get k) b).now.ta.get j:=fun j hj=>by rw[hV];exact Hs f6 _ _ hj _
    have mb:∀ j,j<6->(eK (y.ds.get k) b).now.un.get j=if j=f then jz ((y.ds.get k).now.un.get f) b.ta ((y.ds.get k).now.un.get f).length else(y.ds.get k).now.un.get j:=fun j hj=>by
     rw[hV]
     show (bO f b.ps (bP (y.ds.get k) b) b.ps.length).un.get j=_
     rw[Hq]
     show ((y.ds.get k).now.un.set b.fr.toNat _).get j=_
     rw[<-hf]
     exact aS.set_at _ f6 hj _
    have wh:∀ j,j<6->∀ p∈(eK (y.ds.get k) b).now.un.get j,p∈(y.ds.get k).now.un.get j:=fun j hj p hp=>by
     rw[mb j hj]at hp
     split at hp
     ·next e=>
      subst e
      unfold jz at hp
      rw[List.take_length]at hp
      exact(List.mem_filter.1 hp).1
     ·exact hp
    have EA:(aE (x.ds.get f)).se.get k<=(eK (y.ds.get k) b).now.ta.get f:=by
     obtain⟨c1,c2⟩:=hc b MD
     rw[<-hf,<-hk]at c1 c2
     have hle:(y.ds.get k).now.ta.get f<=(aE (x.ds.get f)).se.get k:=by
      have :=o.wl.acks f f6 k t6
      rw[o.fm f f6]at this
      exact this
     have bf:(aE (x.ds.get f)).se.get k-(b.ps.length:Int)<=(y.ds.get k).now.ta.get f:=by
      have h1:=(o.wl.st k t6 _ jh).tl f f6
      rw[o.fm k t6]at h1
      omega
     have :=HT f6 c1 (s0:=bP (y.ds.get k) b) bf hle b.ps.length (Nat.le_refl _)
     rw[hV]
     show _<=(bO f b.ps (bP (y.ds.get k) b) b.ps.length).ta.get f
     rw[this]
     omega
    refine⟨kQ,o.sx.kept t6 YY,fun i hi=>?_,fun i hi=>?_,fun i hi j hj=>?_,fun i hi j hj p hp=>?_,fun c Mw=>?_,fun m hm YM=>?_,fun m hm YM p hp=>?_⟩
    ·by_cases e:i=k
     ·subst e;rw[gk,ez];exact o.fm i hi
     ·rw[gn i hi e];exact o.fm i hi
    ·by_cases e:i=k
     ·subst e;rw[gk,fe];exact o.se i hi
     ·rw[gn i hi e];exact o.se i hi
    ·by_cases e:i=k
     ·subst e;rw[gk];exact Int.le_trans (o.ta i hi j hj) (pQ j hj)
     ·rw[gn i hi e];exact o.ta i hi j hj
    ·by_cases e:i=k
     ·subst e;rw[gk]at hp;exact o.un i hi j hj p (wh j hj p hp)
     ·rw[gn i hi e]at hp;exact o.un i hi j hj p hp
    ·have q:=o.bg c Mw
     obtain⟨a6,_⟩:=u9 q.ok
     have Mj:aE ((y.set k (eK (y.ds.get k) b)).ds.get c.fr.toNat)=aE (y.ds.get c.fr.toNat):=by
      by_cases e:c.fr.toNat=k
      ·rw[e,gk,ez]
      ·rw[gn _ a6 e]
     exact⟨q.ok,fun p hp=>by rw[Mj];exact q.un p hp,by rw[Mj];exact q.ta⟩
    ·obtain⟨a6,b6,_⟩:=u9 (o.bg l[m] (List.getElem_mem _)).ok
     by_cases em:m=z
     ·subst em
      rw[<-mv,<-hk,<-hf,gk]
      exact EA
     ·have q:=o.tk m hm (by omega)
      by_cases e:l[m].to.toNat=k
      ·rw[e]at q |-
       rw[gk]
       exact Int.le_trans q (pQ _ a6)
      ·rw[gn _ b6 e];exact q
    ·obtain⟨a6,b6,_⟩:=u9 (o.bg l[m] (List.getElem_mem _)).ok
     by_cases em:m=z
     ·subst em
      rw[<-mv,<-hk,<-hf,gk,mb f f6,if_pos rfl]at hp
      unfold jz at hp
      rw[List.take_length]at hp
      have :=(List.mem_filter.1 hp).2
      rw[<-mv]
      simpa using this
     ·by_cases e:l[m].to.toNat=k
      ·rw[e,gk]at hp
       have :=o.gn m hm (by omega) p
       rw[e]at this
       exact this (wh _ a6 p hp)
      ·rw[gn _ b6 e]at hp
       exact o.gn m hm (by omega) p hp
  refine⟨ho,fun h=>?_⟩
  exact(ho.wl.open vY (ho.bg l[z] (List.getElem_mem _)) rfl).1
end Go.Eng
set_option linter.constructorNameAsVariable false
namespace Go.Eng
open Go Go.Proofs
def fU(x:Sx):List Bag:=lH (bF x 6) 6
def n4(x:Sx):Sx:=fV (bF x 6) (fU x) (fU x).length
theorem Gu{x:Sx}{n:Nat}(h:iL x n){i j:Nat}(hi:i<6)(hj:j<6)(aj:i≠j):ep (x.ds.get i) (j:Int)=0:=by
 unfold ep
 rw[if_pos (h.ok i hi),if_pos]
 unfold dY
 rw[Bool.and_eq_true,cf,h.me i hi]
 refine⟨⟨by omega,by omega⟩,?_⟩
 simp only[bne_iff_ne,ne_eq]
 omega
theorem Is{x:Sx}{n:Nat}(h:iL x n){i j:Nat}(hi:i<6)(hj:j<6)(aj:i≠j):fI (x.ds.get i) (j:Int)=⟨(i:Int),(j:Int),(aE (x.ds.get i)).un.get j,(aE (x.ds.get i)).ta.get j⟩:=by
 have ha:=Pc (h.ok i hi) (Gu h hi hj aj)
 unfold fI
 rw[if_pos ha,h.me i hi,Int.toNat_natCast]
theorem HW{x:Sx}{b:Bag}:b∈fU x↔∃ i j:Nat,i<6/\j<6/\i≠j/\b=fI ((bF x 6).ds.get i) (j:Int):=by
 unfold fU
 rw[ON]
 constructor
 ·rintro⟨i,hi,hb⟩
  rw[AT]at hb
  obtain⟨j,hj,aj,e⟩:=hb
  exact⟨i,j,hi,hj,aj,e⟩
 ·rintro⟨i,j,hi,hj,aj,e⟩
  exact⟨i,hi,(AT _ _ _ _).2 ⟨j,hj,aj,e⟩⟩
structure Rd (n:Nat) (x y:Sx):Prop where
 ok:ig (n+6) y
 ta:∀ i,i<6->∀ j,j<6->i≠j->(y.ds.get j).now.ta.get i=(y.ds.get i).now.se.get j
 se:∀ i,i<6->(y.ds.get i).now.se=(x.ds.get i).now.se
 un:∀ i,i<6->∀ j,j<6->i≠j->∀ p∈(y.ds.get i).now.un.get j,(x.ds.get j).now.ta.get i<p.no/\p∈(x.ds.get i).now.un.get j
theorem yo{n:Nat}{x:Sx}(h:ig n x)(hn:n<80000):Rd n x (n4 x)/\(∀ b∈fU x,0<=b.to/\b.to<6)/\iL (bF x 6) n/\
 (∀ z,(hz:z<(fU x).length)->iL (fV (bF x 6) (fU x) z) (n+6)/\fZ ((fV (bF x 6) (fU x) z).ds.get (fU x)[z].to.toNat) (fU x)[z]=0):=by
 obtain⟨lg,w⟩:=h.wl
 have s:=Cb h hn 6 (Nat.le_refl _)
 have wA:=yp w hn 6 (Nat.le_refl _)
 have sA:=s.mono (show n<=n+6 by omega)
 have jL:∀ b∈fU x,∃ i j:Nat,i<6/\j<6/\i≠j/\b=⟨(i:Int),(j:Int),(aE ((bF x 6).ds.get i)).un.get j,(aE ((bF x 6).ds.get i)).ta.get j⟩/\qJ lg (bF x 6) b:=fun b hb=>by
  obtain⟨i,j,hi,hj,aj,e⟩:=HW.1 hb
  refine⟨i,j,hi,hj,aj,by rw[e,Is s hi hj aj],?_⟩
  rw[e]
  exact wA.bag hi (Gu s hi hj aj)
 have hB:∀ b∈fU x,qJ lg (bF x 6) b:=fun b hb=>by
  obtain⟨_,_,_,_,_,_,q⟩:=jL b hb
  exact q
 have zB:∀ b∈fU x,0<=b.to/\b.to<6:=fun b hb=>by
  obtain⟨i,j,hi,hj,aj,e,_⟩:=jL b hb
  rw[e]
  exact⟨by show (0:Int)<=(j:Int);omega,by show (j:Int)<6;omega⟩
 have hc:∀ b∈fU x,PT ((aE ((bF x 6).ds.get b.fr.toNat)).se.get b.to.toNat) b.ps/\(aE ((bF x 6).ds.get b.fr.toNat)).se.get b.to.toNat-(b.ps.length:Int)<=(aE ((bF x 6).ds.get b.to.toNat)).ta.get b.fr.toNat:=fun b hb=>by
  obtain⟨i,j,hi,hj,aj,e,_⟩:=jL b hb
  rw[e]
  show PT ((aE ((bF x 6).ds.get (i:Int).toNat)).se.get (j:Int).toNat) _/\(aE ((bF x 6).ds.get (i:Int).toNat)).se.get (j:Int).toNat-_<=(aE ((bF x 6).ds.get (j:Int).toNat)).ta.get (i:Int).toNat
  rw[Int.toNat_natCast,Int.toNat_natCast]
  exact⟨((wA.st i hi _ sy).ok.un j hj).1,wA.cov i hi _ sy j hj⟩
 have dI:=Ig wA sA hB hc
 obtain⟨o,_⟩:=dI (fU x).length (Nat.le_refl _)
 have Mg:∀ i j:Nat,i<6->j<6->i≠j->∃ k,∃ hk:k<(fU x).length,(fU x)[k]=⟨(i:Int),(j:Int),(aE ((bF x 6).ds.get i)).un.get j,(aE ((bF x 6).ds.get i)).ta.get j⟩:=fun i j hi hj aj=>by
  have hm:fI ((bF x 6).ds.get i) (j:Int)∈fU x:=HW.2 ⟨i,j,hi,hj,aj,rfl⟩
  obtain⟨k,hk,e⟩:=List.getElem_of_mem hm
  exact⟨k,hk,by rw[e,Is s hi hj aj]⟩
 have ez:∀ i,i<6->aE ((bF x 6).ds.get i)=(x.ds.get i).now:=fun i hi=>TH w hn hi
 have LV:∀ i,i<6->((bF x 6).ds.get i).now=(x.ds.get i).now:=fun i hi=>TG w hn hi
 have fe:∀ i,i<6->((n4 x).ds.get i).now.se=(x.ds.get i).now.se:=fun i hi=>(o.se i hi).trans (by rw[LV i hi])
 refine⟨⟨⟨o.sx,lg,o.wl⟩,fun i hi j hj aj=>?_,fe,fun i hi j hj aj p hp=>?_⟩,zB,s,fun z hz=>⟨(dI z (by omega)).1.sx,(dI z (by omega)).2 hz⟩⟩
 ·obtain⟨k,hk,e⟩:=Mg i j hi hj aj
  have h1:=o.tk k hk hk
  rw[e]at h1
  simp only[Int.toNat_natCast]at h1
  have h2:=o.wl.acks i hi j hj
  rw[o.fm i hi]at h2
  rw[ez i hi]at h1 h2
  rw[fe i hi]
  exact Int.le_antisymm h2 h1
 ·obtain⟨k,hk,e⟩:=Mg j i hj hi (Ne.symm aj)
  have h1:=o.gn k hk hk p
  rw[e]at h1
  simp only[Int.toNat_natCast]at h1
  have h2:=h1 hp
  rw[ez j hj]at h2
  have h3:=o.un i hi j hj p hp
  rw[LV i hi]at h3
  exact⟨h2,h3⟩
theorem Q3{n:Nat}{x:Sx}(h:ig n x)(hn:n<70000):∀ i,i<6->∀ j,j<6->((n4 (n4 x)).ds.get i).now.un.get j=[]:=fun i hi j hj=>by
 obtain⟨r1,_⟩:=yo h (by omega)
 obtain⟨r2,_⟩:=yo r1.ok (by omega)
 obtain⟨lg,w2⟩:=r2.ok.wl
 by_cases aj:i=j
 ·subst aj
  exact(w2.st i hi _ jh).ok.d0.1
 ·rw[List.eq_nil_iff_forall_not_mem]
  intro p hp
  obtain⟨h1,h2⟩:=r2.un i hi j hj aj p hp
  rw[r1.ta i hi j hj aj]at h1
  obtain⟨lg1,w1⟩:=r1.ok.wl
  have :=(vi ((w1.st i hi _ jh).ok.un j hj).1 p h2).2
  omega
theorem UA{y:Sx}(hu:∀ i,i<6->∀ j,j<6->(y.ds.get i).now.un.get j=[])(p:Int):mE (bX y) p 6=[]:=by
 have Zy:∀ i,i<6->∀ k,k<6->∀ z,uZ (bX y) p (y.ds.get i) k z=[]:=fun i hi k hk z=>by
  unfold uZ
  rw[hu i hi k hk]
  simp
 have oS:∀ i,i<6->∀ k,k<=6->qv (bX y) p (y.ds.get i) k=[]:=fun i hi k=>by
  induction k with
  |zero=>exact fun _=>rfl
  |succ k ih=>
   intro hk
   show qv (bX y) p (y.ds.get i) k++uZ (bX y) p (y.ds.get i) k _=[]
   rw[ih (by omega),Zy i hi k (by omega)]
   rfl
 have mu:∀ i,i<=6->mE (bX y) p i=[]:=fun i=>by
  induction i with
  |zero=>exact fun _=>rfl
  |succ i ih=>
   intro hi
   show mE (bX y) p i++qv (bX y) p ((bX y).getD i default) 6=[]
   rw[ih (by omega),uR _ (show i<6 by omega),oS i (by omega) 6 (Nat.le_refl _)]
   rfl
 exact mu 6 (Nat.le_refl _)
theorem aaJ{n:Nat}{y:Sx}(h:ig n y)(hu:∀ i,i<6->∀ j,j<6->(y.ds.get i).now.un.get j=[]){me:Nat}(hm:me<6){p:Int}(hp:p∈bM me):
 iv (bX y) p=0/\(s6 (bX y) p).length=1:=by
 obtain⟨e1,e2⟩:=Un h hm hp
 refine⟨e1,?_⟩
 have hc:F3 (bX y) p=[]:=(N5 e1).trans (UA hu p)
 rw[hc]at e2
 exact e2
theorem TK{y:Sx}(hu:∀ i,i<6->∀ j,j<6->(y.ds.get i).now.un.get j=[]):eH (bX y).length (fun i=>eH 6 fun k=>(((bX y).getD i default).now.un.get k).length==0)=true:=by
 rw[gJ]
 intro i hi
 rw[uR _ (show i<6 from hi),gJ]
 intro k hk
 rw[hu i hi k hk]
 rfl
set_option maxRecDepth 100000
noncomputable def K85:List (Nat×Spec):=[]
attribute [go_sem] K85
noncomputable def K84:List (Nat×Spec):=[(52,S104)]
attribute [go_sem] K84
theorem G7(x:Sx):x.ds.L encDk=(bX x).map encDk:=rfl
noncomputable def K89:List (Nat×Spec):=[(29,S108),(20,S70)]
attribute [go_sem] K89
theorem IY(x:Sx):∀ y∈x.ds.L encDk,y.cells.length=63/\y.okc=true:=by
 intro y hy
 unfold aS.L at hy
 simp only[List.mem_cons,List.not_mem_nil,or_false]at hy
 rcases hy with rfl | rfl | rfl | rfl | rfl | rfl<;>exact⟨rfl,rfl⟩
@[go_sem] theorem adD(x:Sx):List.drop 1 (List.map D.v (b9 x))=[.v (.sl (x.bs.map fQ))]:=rfl
theorem Bo(x:Sx)(e:Dk){k:Nat}(h:k<6):(x.ds.L encDk).set k (.agg (aq e))=(x.ds.set k e).L encDk:=by
 match k,h with
 | 0,_ | 1,_ | 2,_ | 3,_ | 4,_ | 5,_=>rfl
noncomputable def PI:List (Nat×Spec):=[(12,S21),(30,S109),(14,S8),(15,S10),(16,S12),(31,S14),(18,S16),(17,S26)]
theorem acO:∀ f s,tbl PI f=some s->an Tryd.prog f s:=tc K3<|tc Xo<|tc k8<|tc Ld<|tc K8<|tc Xh<|tc K5<|tc K0<|tn
attribute [go_sem] PI
noncomputable def P508:PSpec:=p2 ue rK (fun x _=>∃ n,n<=1000/\ig n x) (fun x y=>.tup [.agg (b9 (im x y)),.bool true]) false
noncomputable def S508:Spec:=P508.toSpec
attribute [go_sem] P508 S508
set_option maxHeartbeats 16000000 in
theorem SU:aZ Tryd.prog 8 P508:=by
 refine w2 (rs:=[.cell 4 26,.tmp 5]) Tryd.func8 Tryd.ntmps8 (by rfl) (by kernel_rfl) (by decide) (fun h=>by cases h) ⟨_,rfl,lb rfl,fun x y hp hw=>?_⟩
 have hP:=bn
 simp only[rK,ue]at hw |-
 have hΓ:=acO
 obtain⟨n,hn,hx⟩:=hp
 have hp:=hx.ok.mono hn
 obtain⟨k,hk⟩:∃ k,k=db y:=⟨_,rfl⟩
 have fo:k<6:=by rw[hk];exact FC y
 have Mb:(y.dk % 6).toNat=k:=hk.symm
 have r0:(0:Int)<=y.dk % 6:=by omega
 have r6:y.dk % 6<6:=by omega
 have ey:(0:Int)<6/\(6:Int)<=1000000:=by omega
 have YR:(0:Int)<16/\(16:Int)<=1000000:=by omega
 obtain⟨d,hd⟩:∃ d,d=x.ds.get k:=⟨_,rfl⟩
 have wG:(x.ds.L encDk).getD k default=encDk d:=by rw[hd];exact aS.L_get x.ds encDk default fo
 have kS:ay d=true:=by rw[hd];exact hp.ok k fo
 have eA:dZ d:=by rw[hd];exact hp.sz k fo
 have aY:d.me=(k:Int):=by rw[hd];exact hp.me k fo
 have uA:d.now.ho.length<=1000000:=by have:=(yQ kS).hol;omega
 have gZ:∀ e:Dk,(x.ds.L encDk).set k (.agg (aq e))=(x.ds.set k e).L encDk:=fun e=>Bo x e fo
 have uK:lD y=y.to % 6:=rfl
 have hE:=fw kS
 have bb:(x.ds.L encDk).length=6:=rfl
 have q0:=r0
 have q6:=r6
 have qk:=Mb
 have hln:x.bs.length<=1000:=hp.ln
 repeat refine sq ?_
 refine rx hΓ [2,3,4] [[2,0],[3,0],[4,0],[16,0],[132,0],[135,0]] (fun K' hK=>by simp only[go_sem];(repeat (refine⟨ah,?_⟩));exact hK _ (by simp only[go_sem]) (by simp only[go_sem]<;>rfl)) ?_
 refine aN (cX [3,0] (j5 y) rfl [2,3,4] [[2,0],[3,0],[4,0],[16,0],[132,0],[135,0]] ?_ rfl) ?_
 ·simp only[go_sem]
 simp only[go_sem]
 repeat refine sq ?_
 refine rx hΓ [2,3,4] [[2,0],[3,0],[4,0],[16,0],[132,0],[135,0]] (fun K' hK=>by simp only[go_sem,bb,List.nil_append];(repeat (refine⟨by first | exact⟨IY x,rfl,by unfold maxLen;omega⟩ | exact ah,?_⟩));exact hK _ (by simp only[go_sem]) (by simp only[go_sem]<;>rfl)) ?_
 repeat refine sq ?_
 refine rx hΓ [2,3,4,6] [[2,0],[3,0],[4,0],[16,0],[132,0],[135,0]] (fun K' hK=>by simp only[go_sem];(repeat (refine⟨by first | exact ey | exact ah,?_⟩));exact hK _ (by simp only[go_sem]) (by simp only[go_sem]<;>rfl)) ?_
 repeat refine sq ?_
 refine rx hΓ [2,3,4,6,7] [[2,0],[3,0],[4,0],[7,0],[16,0],[132,0],[135,0]] (fun K' hK=>by simp only[go_sem,Nat.zero_add,Mb,r0,r6,wG,bb,List.append_nil];(repeat (refine⟨ah,?_⟩));exact hK _ (by simp only[go_sem]) (by simp only[go_sem]<;>rfl)) ?_
 repeat refine sq ?_
 refine rx hΓ [2,3,4,6,7,8] [[2,0],[3,0],[4,0],[7,0],[16,0],[132,0],[135,0]] (fun K' hK=>by simp only[go_sem];(repeat (refine⟨by first | exact ey | exact ah,?_⟩));exact hK _ (by simp only[go_sem]) (by simp only[go_sem]<;>rfl)) ?_
 repeat refine sq ?_
 refine rx hΓ [2,3,4,6,7,8] [[2,0],[3,0],[4,0],[7,0],[16,0],[132,0],[135,0]] (fun K' hK=>by simp only[go_sem];(repeat (refine⟨ah,?_⟩));exact hK _ (by simp only[go_sem]) (by simp only[go_sem]<;>rfl)) ?_
 repeat refine sq ?_
 refine rx hΓ [2,3,4,6,7,8,31] [[2,0],[3,0],[4,0],[7,0],[16,0],[132,0],[135,0]] (fun K' hK=>by simp only[go_sem];(repeat (refine⟨by first | exact YR | exact ah,?_⟩));exact hK _ (by simp only[go_sem]) (by simp only[go_sem]<;>rfl)) ?_
 repeat refine sq ?_
 refine aL ?_
 repeat refine sq ?_
 refine rx hΓ [2,3,4,6,7,8,31,68] [[2,0],[3,0],[4,0],[7,0],[16,0],[132,0],[135,0]] (fun K' hK=>by simp only[go_sem];(repeat (refine⟨ah,?_⟩));exact hK _ (by simp only[go_sem]) (by simp only[go_sem]<;>rfl)) ?_
 repeat refine sq ?_
 refine aw rfl rfl (fun hb=>?_) (fun hb=>?_)
 ·repeat refine sq ?_
  have nx:=hb
  refine aA ?_
  repeat refine sq ?_
  refine aw rfl rfl (fun hb=>?_) (fun hb=>?_)
  ·repeat refine sq ?_
   have e:=xl (x:=x) (y:=y) (by show y.kd % 16=0\/y.kd % 16=1\/y.kd % 16=2;have h5:=nx;simp only[beq_iff_eq]at h5;omega)
   rw[<-hk,<-hd,uK]at e
   have wm:=BZ (p:=gT d.now.ho y.pp) (t:=y.to % 6) kS (Cm (ju.1 kS).1 _)
   repeat refine sq ?_
   refine dx hΓ hP [[],[],[],[1,2],[],[0,1,2,3,4],[0,1,2,3,4,5],[0,1,2,3,4,5,6],[0,1,2,3,4,5,6],[0,1,2,3,4,5,6,7],[0,1,2,3,4,5,6,7,8,9]] [2,4,6,7,9] [[2,0],[4,0],[7,0],[16,0],[132,0],[135,0]] (by kernel_rfl) (fun K' hK=>by simp only[go_sem,uA,eA,List.append_nil];(repeat (refine⟨by first | exact uA | exact eA | exact ah,?_⟩));(first | refine⟨by rfl,?_⟩ | skip);exact hK _ (by simp only[go_sem]) (by simp only[go_sem]<;>rfl)) ?_
   repeat refine sq ?_
   refine rx hΓ [2,4,6,7,9,90] [[2,0],[4,0],[7,0],[16,0],[132,0],[135,0]] (fun K' hK=>by simp only[go_sem];(repeat (refine⟨ah,?_⟩));exact hK _ (by simp only[go_sem]) (by simp only[go_sem]<;>rfl)) ?_
   repeat refine sq ?_
   refine aw rfl rfl (fun hb=>?_) (fun hb=>?_)
   ·repeat refine sq ?_
    have aj:¬ cG d (gT d.now.ho y.pp) (y.to % 6)=0:=by intro h0;rw[h0]at hb;simp at hb
    rw[if_neg aj]at e
    repeat refine sq ?_
    refine rx hΓ [4,5] [[4,0],[16,0],[132,0],[135,0]] (fun K' hK=>by simp only[go_sem];(repeat (refine⟨ah,?_⟩));exact hK _ (by simp only[go_sem]) (by simp only[go_sem]<;>rfl)) ?_
    refine aN (dK [4,0] [16,0] 0 _ _ _ _ rfl rfl rfl (by first | rfl | (simp only[List.length_map,bb];done)) [4,5] [[4,0]] ?_ rfl) ?_
    ·simp only[go_sem,List.set_cons_succ,List.set_cons_zero,bb]
    simp only[go_sem,List.set_cons_succ,List.set_cons_zero,bb]
    refine av ?_
    simp only[go_sem]
    first | (rw[e];done) | (rw[e];unfold b9;rw[List.map_append];rfl) | (rw[e];rfl)
   ·repeat refine sq ?_
    have eR:cG d (gT d.now.ho y.pp) (y.to % 6)=0:=by rcases wm with h | h | h | h<;>first | exact h | (rw[h]at hb;simp at hb)
    rw[if_pos eR]at e
    refine aA ?_
    refine dA ?_
    simp only[go_sem]
    refine kp [2,4,6,7,9] [[2,0],[4,0],[7,0],[16,0],[132,0],[135,0]] ?_
    repeat refine sq ?_
    refine rx hΓ [2,4,6,7,150] [[2,0],[4,0],[7,0],[16,0],[132,0],[135,0]] (fun K' hK=>by simp only[go_sem,eR];(repeat (refine⟨ah,?_⟩));exact hK _ (by simp only[go_sem]) (by simp only[go_sem]<;>rfl)) ?_
    repeat refine sq ?_
    refine aw rfl rfl (fun hb=>?_) (fun hb=>?_)
    ·cases hb
    ·repeat refine sq ?_
     refine aA ?_
     repeat refine sq ?_
     refine rx hΓ [2,4] [[2,0],[4,0],[16,0],[132,0],[135,0]] (fun K' hK=>by simp only[go_sem,Nat.zero_add,q0,q6,qk,gZ,bb,List.append_nil];(repeat (refine⟨ah,?_⟩));exact hK _ (by simp only[go_sem]) (by simp only[go_sem]<;>rfl)) ?_
     repeat refine sq ?_
     refine rx hΓ [4,5] [[4,0],[16,0],[132,0],[135,0]] (fun K' hK=>by simp only[go_sem];(repeat (refine⟨ah,?_⟩));exact hK _ (by simp only[go_sem]) (by simp only[go_sem]<;>rfl)) ?_
     refine aN (dK [4,0] [16,0] 0 _ _ _ _ rfl rfl rfl (by first | rfl | (simp only[List.length_map,bb];done)) [4,5] [[4,0]] ?_ rfl) ?_
     ·simp only[go_sem,List.set_cons_succ,List.set_cons_zero,bb]
     simp only[go_sem,List.set_cons_succ,List.set_cons_zero,bb]
     refine av ?_
     simp only[go_sem]
     first | (rw[e];done) | (rw[e];unfold b9;rw[List.map_append];rfl) | (rw[e];rfl)
  ·exact Bool.noConfusion (nx.symm.trans hb)
 ·repeat refine sq ?_
  have nx:=hb
  repeat refine sq ?_
  refine rx hΓ [2,3,4,6,7,8,31,68] [[2,0],[3,0],[4,0],[7,0],[16,0],[132,0],[135,0]] (fun K' hK=>by simp only[go_sem];(repeat (refine⟨ah,?_⟩));exact hK _ (by simp only[go_sem]) (by simp only[go_sem]<;>rfl)) ?_
  repeat refine sq ?_
  refine aw rfl rfl (fun hb=>?_) (fun hb=>?_)
  ·repeat refine sq ?_
   have nx:=hb
   refine aA ?_
   repeat refine sq ?_
   refine aw rfl rfl (fun hb=>?_) (fun hb=>?_)
   ·repeat refine sq ?_
    have e:=xl (x:=x) (y:=y) (by show y.kd % 16=0\/y.kd % 16=1\/y.kd % 16=2;have h5:=nx;simp only[beq_iff_eq]at h5;omega)
    rw[<-hk,<-hd,uK]at e
    have wm:=BZ (p:=gT d.now.ho y.pp) (t:=y.to % 6) kS (Cm (ju.1 kS).1 _)
    repeat refine sq ?_
    refine dx hΓ hP [[],[],[],[1,2],[],[0,1,2,3,4],[0,1,2,3,4,5],[0,1,2,3,4,5,6],[0,1,2,3,4,5,6],[0,1,2,3,4,5,6,7],[0,1,2,3,4,5,6,7,8,9]] [2,4,6,7,9] [[2,0],[4,0],[7,0],[16,0],[132,0],[135,0]] (by kernel_rfl) (fun K' hK=>by simp only[go_sem,uA,eA,List.append_nil];(repeat (refine⟨by first | exact uA | exact eA | exact ah,?_⟩));(first | refine⟨by rfl,?_⟩ | skip);exact hK _ (by simp only[go_sem]) (by simp only[go_sem]<;>rfl)) ?_
    repeat refine sq ?_
    refine rx hΓ [2,4,6,7,9,90] [[2,0],[4,0],[7,0],[16,0],[132,0],[135,0]] (fun K' hK=>by simp only[go_sem];(repeat (refine⟨ah,?_⟩));exact hK _ (by simp only[go_sem]) (by simp only[go_sem]<;>rfl)) ?_
    repeat refine sq ?_
    refine aw rfl rfl (fun hb=>?_) (fun hb=>?_)
    ·repeat refine sq ?_
     have aj:¬ cG d (gT d.now.ho y.pp) (y.to % 6)=0:=by intro h0;rw[h0]at hb;simp at hb
     rw[if_neg aj]at e
     repeat refine sq ?_
     refine rx hΓ [4,5] [[4,0],[16,0],[132,0],[135,0]] (fun K' hK=>by simp only[go_sem];(repeat (refine⟨ah,?_⟩));exact hK _ (by simp only[go_sem]) (by simp only[go_sem]<;>rfl)) ?_
     refine aN (dK [4,0] [16,0] 0 _ _ _ _ rfl rfl rfl (by first | rfl | (simp only[List.length_map,bb];done)) [4,5] [[4,0]] ?_ rfl) ?_
     ·simp only[go_sem,List.set_cons_succ,List.set_cons_zero,bb]
     simp only[go_sem,List.set_cons_succ,List.set_cons_zero,bb]
     refine av ?_
     simp only[go_sem]
     first | (rw[e];done) | (rw[e];unfold b9;rw[List.map_append];rfl) | (rw[e];rfl)
    ·repeat refine sq ?_
     have eR:cG d (gT d.now.ho y.pp) (y.to % 6)=0:=by rcases wm with h | h | h | h<;>first | exact h | (rw[h]at hb;simp at hb)
     rw[if_pos eR]at e
     refine aA ?_
     refine dA ?_
     simp only[go_sem]
     refine kp [2,4,6,7,9] [[2,0],[4,0],[7,0],[16,0],[132,0],[135,0]] ?_
     repeat refine sq ?_
     refine rx hΓ [2,4,6,7,150] [[2,0],[4,0],[7,0],[16,0],[132,0],[135,0]] (fun K' hK=>by simp only[go_sem,eR];(repeat (refine⟨ah,?_⟩));exact hK _ (by simp only[go_sem]) (by simp only[go_sem]<;>rfl)) ?_
     repeat refine sq ?_
     refine aw rfl rfl (fun hb=>?_) (fun hb=>?_)
     ·cases hb
     ·repeat refine sq ?_
      refine aA ?_
      repeat refine sq ?_
      refine rx hΓ [2,4] [[2,0],[4,0],[16,0],[132,0],[135,0]] (fun K' hK=>by simp only[go_sem,Nat.zero_add,q0,q6,qk,gZ,bb,List.append_nil];(repeat (refine⟨ah,?_⟩));exact hK _ (by simp only[go_sem]) (by simp only[go_sem]<;>rfl)) ?_
      repeat refine sq ?_
      refine rx hΓ [4,5] [[4,0],[16,0],[132,0],[135,0]] (fun K' hK=>by simp only[go_sem];(repeat (refine⟨ah,?_⟩));exact hK _ (by simp only[go_sem]) (by simp only[go_sem]<;>rfl)) ?_
      refine aN (dK [4,0] [16,0] 0 _ _ _ _ rfl rfl rfl (by first | rfl | (simp only[List.length_map,bb];done)) [4,5] [[4,0]] ?_ rfl) ?_
      ·simp only[go_sem,List.set_cons_succ,List.set_cons_zero,bb]
      simp only[go_sem,List.set_cons_succ,List.set_cons_zero,bb]
      refine av ?_
      simp only[go_sem]
      first | (rw[e];done) | (rw[e];unfold b9;rw[List.map_append];rfl) | (rw[e];rfl)
   ·exact Bool.noConfusion (nx.symm.trans hb)
  ·repeat refine sq ?_
   have nx:=hb
   repeat refine sq ?_
   refine rx hΓ [2,3,4,6,7,8,31,68] [[2,0],[3,0],[4,0],[7,0],[16,0],[132,0],[135,0]] (fun K' hK=>by simp only[go_sem];(repeat (refine⟨ah,?_⟩));exact hK _ (by simp only[go_sem]) (by simp only[go_sem]<;>rfl)) ?_
   repeat refine sq ?_
   refine aw rfl rfl (fun hb=>?_) (fun hb=>?_)
   ·repeat refine sq ?_
    have nx:=hb
    have e:=xl (x:=x) (y:=y) (by show y.kd % 16=0\/y.kd % 16=1\/y.kd % 16=2;have h5:=nx;simp only[beq_iff_eq]at h5;omega)
    rw[<-hk,<-hd,uK]at e
    have wm:=BZ (p:=gT d.now.ho y.pp) (t:=y.to % 6) kS (Cm (ju.1 kS).1 _)
    repeat refine sq ?_
    refine dx hΓ hP [[],[],[],[1,2],[],[0,1,2,3,4],[0,1,2,3,4,5],[0,1,2,3,4,5,6],[0,1,2,3,4,5,6],[0,1,2,3,4,5,6,7],[0,1,2,3,4,5,6,7,8,9]] [2,4,6,7,9] [[2,0],[4,0],[7,0],[16,0],[132,0],[135,0]] (by kernel_rfl) (fun K' hK=>by simp only[go_sem,uA,eA,List.append_nil];(repeat (refine⟨by first | exact uA | exact eA | exact ah,?_⟩));(first | refine⟨by rfl,?_⟩ | skip);exact hK _ (by simp only[go_sem]) (by simp only[go_sem]<;>rfl)) ?_
    repeat refine sq ?_
    refine rx hΓ [2,4,6,7,9,90] [[2,0],[4,0],[7,0],[16,0],[132,0],[135,0]] (fun K' hK=>by simp only[go_sem];(repeat (refine⟨ah,?_⟩));exact hK _ (by simp only[go_sem]) (by simp only[go_sem]<;>rfl)) ?_
    repeat refine sq ?_
    refine aw rfl rfl (fun hb=>?_) (fun hb=>?_)
    ·repeat refine sq ?_
     have aj:¬ cG d (gT d.now.ho y.pp) (y.to % 6)=0:=by intro h0;rw[h0]at hb;simp at hb
     rw[if_neg aj]at e
     repeat refine sq ?_
     refine rx hΓ [4,5] [[4,0],[16,0],[132,0],[135,0]] (fun K' hK=>by simp only[go_sem];(repeat (refine⟨ah,?_⟩));exact hK _ (by simp only[go_sem]) (by simp only[go_sem]<;>rfl)) ?_
     refine aN (dK [4,0] [16,0] 0 _ _ _ _ rfl rfl rfl (by first | rfl | (simp only[List.length_map,bb];done)) [4,5] [[4,0]] ?_ rfl) ?_
     ·simp only[go_sem,List.set_cons_succ,List.set_cons_zero,bb]
     simp only[go_sem,List.set_cons_succ,List.set_cons_zero,bb]
     refine av ?_
     simp only[go_sem]
     first | (rw[e];done) | (rw[e];unfold b9;rw[List.map_append];rfl) | (rw[e];rfl)
    ·repeat refine sq ?_
     have eR:cG d (gT d.now.ho y.pp) (y.to % 6)=0:=by rcases wm with h | h | h | h<;>first | exact h | (rw[h]at hb;simp at hb)
     rw[if_pos eR]at e
     refine aA ?_
     refine dA ?_
     simp only[go_sem]
     refine kp [2,4,6,7,9] [[2,0],[4,0],[7,0],[16,0],[132,0],[135,0]] ?_
     repeat refine sq ?_
     refine rx hΓ [2,4,6,7,150] [[2,0],[4,0],[7,0],[16,0],[132,0],[135,0]] (fun K' hK=>by simp only[go_sem,eR];(repeat (refine⟨ah,?_⟩));exact hK _ (by simp only[go_sem]) (by simp only[go_sem]<;>rfl)) ?_
     repeat refine sq ?_
     refine aw rfl rfl (fun hb=>?_) (fun hb=>?_)
     ·cases hb
     ·repeat refine sq ?_
      refine aA ?_
      repeat refine sq ?_
      refine rx hΓ [2,4] [[2,0],[4,0],[16,0],[132,0],[135,0]] (fun K' hK=>by simp only[go_sem,Nat.zero_add,q0,q6,qk,gZ,bb,List.append_nil];(repeat (refine⟨ah,?_⟩));exact hK _ (by simp only[go_sem]) (by simp only[go_sem]<;>rfl)) ?_
      repeat refine sq ?_
      refine rx hΓ [4,5] [[4,0],[16,0],[132,0],[135,0]] (fun K' hK=>by simp only[go_sem];(repeat (refine⟨ah,?_⟩));exact hK _ (by simp only[go_sem]) (by simp only[go_sem]<;>rfl)) ?_
      refine aN (dK [4,0] [16,0] 0 _ _ _ _ rfl rfl rfl (by first | rfl | (simp only[List.length_map,bb];done)) [4,5] [[4,0]] ?_ rfl) ?_
      ·simp only[go_sem,List.set_cons_succ,List.set_cons_zero,bb]
      simp only[go_sem,List.set_cons_succ,List.set_cons_zero,bb]
      refine av ?_
      simp only[go_sem]
      first | (rw[e];done) | (rw[e];unfold b9;rw[List.map_append];rfl) | (rw[e];rfl)
   ·repeat refine sq ?_
    have nx:=hb
    repeat refine sq ?_
    refine rx hΓ [2,3,4,6,7,8,31,92] [[2,0],[3,0],[4,0],[7,0],[16,0],[132,0],[135,0]] (fun K' hK=>by simp only[go_sem];(repeat (refine⟨ah,?_⟩));exact hK _ (by simp only[go_sem]) (by simp only[go_sem]<;>rfl)) ?_
    repeat refine sq ?_
    refine aw rfl rfl (fun hb=>?_) (fun hb=>?_)
    ·repeat refine sq ?_
     have uy:=hb
     refine aA ?_
     repeat refine sq ?_
     refine aw rfl rfl (fun hb=>?_) (fun hb=>?_)
     ·repeat refine sq ?_
      have e:=AB (x:=x) (y:=y) (by show y.kd % 16=3\/y.kd % 16=4;have h5:=uy;simp only[beq_iff_eq]at h5;omega)
      rw[<-hk,<-hd]at e
      have eR:eI d=0:=by rw[hd];exact hx.write0 (by omega) fo
      rw[if_pos eR]at e
      repeat refine sq ?_
      refine aX hΓ fun K' hK=>?_
      simp only[go_sem,eA,List.append_nil]
      repeat (refine⟨by first | exact eA | exact ah,?_⟩)
      refine hK _ ?_
      clear K' hK
      simp only[go_sem]
      refine kp [2,4,6,7,9] [[2,0],[4,0],[7,0],[16,0],[132,0],[135,0]] ?_
      repeat refine sq ?_
      refine rx hΓ [2,4,6,7,150] [[2,0],[4,0],[7,0],[16,0],[132,0],[135,0]] (fun K' hK=>by simp only[go_sem,eR];(repeat (refine⟨ah,?_⟩));exact hK _ (by simp only[go_sem]) (by simp only[go_sem]<;>rfl)) ?_
      repeat refine sq ?_
      refine aw rfl rfl (fun hb=>?_) (fun hb=>?_)
      ·cases hb
      ·repeat refine sq ?_
       refine aA ?_
       repeat refine sq ?_
       refine rx hΓ [2,4] [[2,0],[4,0],[16,0],[132,0],[135,0]] (fun K' hK=>by simp only[go_sem,Nat.zero_add,q0,q6,qk,gZ,bb,List.append_nil];(repeat (refine⟨ah,?_⟩));exact hK _ (by simp only[go_sem]) (by simp only[go_sem]<;>rfl)) ?_
       repeat refine sq ?_
       refine rx hΓ [4,5] [[4,0],[16,0],[132,0],[135,0]] (fun K' hK=>by simp only[go_sem];(repeat (refine⟨ah,?_⟩));exact hK _ (by simp only[go_sem]) (by simp only[go_sem]<;>rfl)) ?_
       refine aN (dK [4,0] [16,0] 0 _ _ _ _ rfl rfl rfl (by first | rfl | (simp only[List.length_map,bb];done)) [4,5] [[4,0]] ?_ rfl) ?_
       ·simp only[go_sem,List.set_cons_succ,List.set_cons_zero,bb]
       simp only[go_sem,List.set_cons_succ,List.set_cons_zero,bb]
       refine av ?_
       simp only[go_sem]
       first | (rw[e];done) | (rw[e];unfold b9;rw[List.map_append];rfl) | (rw[e];rfl)
     ·exact Bool.noConfusion (uy.symm.trans hb)
    ·repeat refine sq ?_
     have uy:=hb
     repeat refine sq ?_
     refine rx hΓ [2,3,4,6,7,8,31,92] [[2,0],[3,0],[4,0],[7,0],[16,0],[132,0],[135,0]] (fun K' hK=>by simp only[go_sem];(repeat (refine⟨ah,?_⟩));exact hK _ (by simp only[go_sem]) (by simp only[go_sem]<;>rfl)) ?_
     repeat refine sq ?_
     refine aw rfl rfl (fun hb=>?_) (fun hb=>?_)
     ·repeat refine sq ?_
      have uy:=hb
      have e:=AB (x:=x) (y:=y) (by show y.kd % 16=3\/y.kd % 16=4;have h5:=uy;simp only[beq_iff_eq]at h5;omega)
      rw[<-hk,<-hd]at e
      have eR:eI d=0:=by rw[hd];exact hx.write0 (by omega) fo
      rw[if_pos eR]at e
      repeat refine sq ?_
      refine aX hΓ fun K' hK=>?_
      simp only[go_sem,eA,List.append_nil]
      repeat (refine⟨by first | exact eA | exact ah,?_⟩)
      refine hK _ ?_
      clear K' hK
      simp only[go_sem]
      refine kp [2,4,6,7,9] [[2,0],[4,0],[7,0],[16,0],[132,0],[135,0]] ?_
      repeat refine sq ?_
      refine rx hΓ [2,4,6,7,150] [[2,0],[4,0],[7,0],[16,0],[132,0],[135,0]] (fun K' hK=>by simp only[go_sem,eR];(repeat (refine⟨ah,?_⟩));exact hK _ (by simp only[go_sem]) (by simp only[go_sem]<;>rfl)) ?_
      repeat refine sq ?_
      refine aw rfl rfl (fun hb=>?_) (fun hb=>?_)
      ·cases hb
      ·repeat refine sq ?_
       refine aA ?_
       repeat refine sq ?_
       refine rx hΓ [2,4] [[2,0],[4,0],[16,0],[132,0],[135,0]] (fun K' hK=>by simp only[go_sem,Nat.zero_add,q0,q6,qk,gZ,bb,List.append_nil];(repeat (refine⟨ah,?_⟩));exact hK _ (by simp only[go_sem]) (by simp only[go_sem]<;>rfl)) ?_
       repeat refine sq ?_
       refine rx hΓ [4,5] [[4,0],[16,0],[132,0],[135,0]] (fun K' hK=>by simp only[go_sem];(repeat (refine⟨ah,?_⟩));exact hK _ (by simp only[go_sem]) (by simp only[go_sem]<;>rfl)) ?_
       refine aN (dK [4,0] [16,0] 0 _ _ _ _ rfl rfl rfl (by first | rfl | (simp only[List.length_map,bb];done)) [4,5] [[4,0]] ?_ rfl) ?_
       ·simp only[go_sem,List.set_cons_succ,List.set_cons_zero,bb]
       simp only[go_sem,List.set_cons_succ,List.set_cons_zero,bb]
       refine av ?_
       simp only[go_sem]
       first | (rw[e];done) | (rw[e];unfold b9;rw[List.map_append];rfl) | (rw[e];rfl)
     ·repeat refine sq ?_
      have uy:=hb
      repeat refine sq ?_
      refine rx hΓ [2,3,4,6,7,8,31,100] [[2,0],[3,0],[4,0],[7,0],[16,0],[132,0],[135,0]] (fun K' hK=>by simp only[go_sem];(repeat (refine⟨ah,?_⟩));exact hK _ (by simp only[go_sem]) (by simp only[go_sem]<;>rfl)) ?_
      repeat refine sq ?_
      refine aw rfl rfl (fun hb=>?_) (fun hb=>?_)
      ·repeat refine sq ?_
       have uz:=hb
       refine aA ?_
       repeat refine sq ?_
       refine aw rfl rfl (fun hb=>?_) (fun hb=>?_)
       ·repeat refine sq ?_
        have e:=AD (x:=x) (y:=y) (by show y.kd % 16=5\/y.kd % 16=6;have h5:=uz;simp only[beq_iff_eq]at h5;omega)
        rw[<-hk,<-hd,if_pos hE]at e
        have eR:=hE
        repeat refine sq ?_
        refine aX hΓ fun K' hK=>?_
        simp only[go_sem,eA,List.append_nil]
        repeat (refine⟨by first | exact eA | exact ah,?_⟩)
        refine hK _ ?_
        clear K' hK
        simp only[go_sem]
        refine kp [2,4,6,7,9] [[2,0],[4,0],[7,0],[16,0],[132,0],[135,0]] ?_
        repeat refine sq ?_
        refine rx hΓ [2,4,6,7,150] [[2,0],[4,0],[7,0],[16,0],[132,0],[135,0]] (fun K' hK=>by simp only[go_sem,eR];(repeat (refine⟨ah,?_⟩));exact hK _ (by simp only[go_sem]) (by simp only[go_sem]<;>rfl)) ?_
        repeat refine sq ?_
        refine aw rfl rfl (fun hb=>?_) (fun hb=>?_)
        ·cases hb
        ·repeat refine sq ?_
         refine aA ?_
         repeat refine sq ?_
         refine rx hΓ [2,4] [[2,0],[4,0],[16,0],[132,0],[135,0]] (fun K' hK=>by simp only[go_sem,Nat.zero_add,q0,q6,qk,gZ,bb,List.append_nil];(repeat (refine⟨ah,?_⟩));exact hK _ (by simp only[go_sem]) (by simp only[go_sem]<;>rfl)) ?_
         repeat refine sq ?_
         refine rx hΓ [4,5] [[4,0],[16,0],[132,0],[135,0]] (fun K' hK=>by simp only[go_sem];(repeat (refine⟨ah,?_⟩));exact hK _ (by simp only[go_sem]) (by simp only[go_sem]<;>rfl)) ?_
         refine aN (dK [4,0] [16,0] 0 _ _ _ _ rfl rfl rfl (by first | rfl | (simp only[List.length_map,bb];done)) [4,5] [[4,0]] ?_ rfl) ?_
         ·simp only[go_sem,List.set_cons_succ,List.set_cons_zero,bb]
         simp only[go_sem,List.set_cons_succ,List.set_cons_zero,bb]
         refine av ?_
         simp only[go_sem]
         first | (rw[e];done) | (rw[e];unfold b9;rw[List.map_append];rfl) | (rw[e];rfl)
       ·exact Bool.noConfusion (uz.symm.trans hb)
      ·repeat refine sq ?_
       have uz:=hb
       repeat refine sq ?_
       refine rx hΓ [2,3,4,6,7,8,31,100] [[2,0],[3,0],[4,0],[7,0],[16,0],[132,0],[135,0]] (fun K' hK=>by simp only[go_sem];(repeat (refine⟨ah,?_⟩));exact hK _ (by simp only[go_sem]) (by simp only[go_sem]<;>rfl)) ?_
       repeat refine sq ?_
       refine aw rfl rfl (fun hb=>?_) (fun hb=>?_)
       ·repeat refine sq ?_
        have uz:=hb
        have e:=AD (x:=x) (y:=y) (by show y.kd % 16=5\/y.kd % 16=6;have h5:=uz;simp only[beq_iff_eq]at h5;omega)
        rw[<-hk,<-hd,if_pos hE]at e
        have eR:=hE
        repeat refine sq ?_
        refine aX hΓ fun K' hK=>?_
        simp only[go_sem,eA,List.append_nil]
        repeat (refine⟨by first | exact eA | exact ah,?_⟩)
        refine hK _ ?_
        clear K' hK
        simp only[go_sem]
        refine kp [2,4,6,7,9] [[2,0],[4,0],[7,0],[16,0],[132,0],[135,0]] ?_
        repeat refine sq ?_
        refine rx hΓ [2,4,6,7,150] [[2,0],[4,0],[7,0],[16,0],[132,0],[135,0]] (fun K' hK=>by simp only[go_sem,eR];(repeat (refine⟨ah,?_⟩));exact hK _ (by simp only[go_sem]) (by simp only[go_sem]<;>rfl)) ?_
        repeat refine sq ?_
        refine aw rfl rfl (fun hb=>?_) (fun hb=>?_)
        ·cases hb
        ·repeat refine sq ?_
         refine aA ?_
         repeat refine sq ?_
         refine rx hΓ [2,4] [[2,0],[4,0],[16,0],[132,0],[135,0]] (fun K' hK=>by simp only[go_sem,Nat.zero_add,q0,q6,qk,gZ,bb,List.append_nil];(repeat (refine⟨ah,?_⟩));exact hK _ (by simp only[go_sem]) (by simp only[go_sem]<;>rfl)) ?_
         repeat refine sq ?_
         refine rx hΓ [4,5] [[4,0],[16,0],[132,0],[135,0]] (fun K' hK=>by simp only[go_sem];(repeat (refine⟨ah,?_⟩));exact hK _ (by simp only[go_sem]) (by simp only[go_sem]<;>rfl)) ?_
         refine aN (dK [4,0] [16,0] 0 _ _ _ _ rfl rfl rfl (by first | rfl | (simp only[List.length_map,bb];done)) [4,5] [[4,0]] ?_ rfl) ?_
         ·simp only[go_sem,List.set_cons_succ,List.set_cons_zero,bb]
         simp only[go_sem,List.set_cons_succ,List.set_cons_zero,bb]
         refine av ?_
         simp only[go_sem]
         first | (rw[e];done) | (rw[e];unfold b9;rw[List.map_append];rfl) | (rw[e];rfl)
       ·repeat refine sq ?_
        have uz:=hb
        repeat refine sq ?_
        refine rx hΓ [2,3,4,6,7,8,31,108] [[2,0],[3,0],[4,0],[7,0],[16,0],[132,0],[135,0]] (fun K' hK=>by simp only[go_sem];(repeat (refine⟨ah,?_⟩));exact hK _ (by simp only[go_sem]) (by simp only[go_sem]<;>rfl)) ?_
        repeat refine sq ?_
        refine aw rfl rfl (fun hb=>?_) (fun hb=>?_)
        ·repeat refine sq ?_
         have e:=FB (x:=x) (y:=y) (by show y.kd % 16=7;have h5:=hb;simp only[beq_iff_eq]at h5;omega)
         rw[<-hk,<-hd,if_pos hE]at e
         have eR:=hE
         repeat refine sq ?_
         refine aX hΓ fun K' hK=>?_
         simp only[go_sem,eA,List.append_nil]
         repeat (refine⟨by first | exact eA | exact ah,?_⟩)
         refine hK _ ?_
         clear K' hK
         simp only[go_sem]
         refine kp [2,4,6,7,9] [[2,0],[4,0],[7,0],[16,0],[132,0],[135,0]] ?_
         repeat refine sq ?_
         refine rx hΓ [2,4,6,7,150] [[2,0],[4,0],[7,0],[16,0],[132,0],[135,0]] (fun K' hK=>by simp only[go_sem,eR];(repeat (refine⟨ah,?_⟩));exact hK _ (by simp only[go_sem]) (by simp only[go_sem]<;>rfl)) ?_
         repeat refine sq ?_
         refine aw rfl rfl (fun hb=>?_) (fun hb=>?_)
         ·cases hb
         ·repeat refine sq ?_
          refine aA ?_
          repeat refine sq ?_
          refine rx hΓ [2,4] [[2,0],[4,0],[16,0],[132,0],[135,0]] (fun K' hK=>by simp only[go_sem,Nat.zero_add,q0,q6,qk,gZ,bb,List.append_nil];(repeat (refine⟨ah,?_⟩));exact hK _ (by simp only[go_sem]) (by simp only[go_sem]<;>rfl)) ?_
          repeat refine sq ?_
          refine rx hΓ [4,5] [[4,0],[16,0],[132,0],[135,0]] (fun K' hK=>by simp only[go_sem];(repeat (refine⟨ah,?_⟩));exact hK _ (by simp only[go_sem]) (by simp only[go_sem]<;>rfl)) ?_
          refine aN (dK [4,0] [16,0] 0 _ _ _ _ rfl rfl rfl (by first | rfl | (simp only[List.length_map,bb];done)) [4,5] [[4,0]] ?_ rfl) ?_
          ·simp only[go_sem,List.set_cons_succ,List.set_cons_zero,bb]
          simp only[go_sem,List.set_cons_succ,List.set_cons_zero,bb]
          refine av ?_
          simp only[go_sem]
          first | (rw[e];done) | (rw[e];unfold b9;rw[List.map_append];rfl) | (rw[e];rfl)
        ·repeat refine sq ?_
         refine rx hΓ [2,3,4,6,7,8,31,117] [[2,0],[3,0],[4,0],[7,0],[16,0],[132,0],[135,0]] (fun K' hK=>by simp only[go_sem];(repeat (refine⟨ah,?_⟩));exact hK _ (by simp only[go_sem]) (by simp only[go_sem]<;>rfl)) ?_
         repeat refine sq ?_
         refine aw rfl rfl (fun hb=>?_) (fun hb=>?_)
         ·repeat refine sq ?_
          have ny:=hb
          refine aA ?_
          repeat refine sq ?_
          refine aw rfl rfl (fun hb=>?_) (fun hb=>?_)
          ·repeat refine sq ?_
           have e:=xm (x:=x) (y:=y) (by show y.kd % 16=8\/y.kd % 16=9\/y.kd % 16=10;have h5:=ny;simp only[beq_iff_eq]at h5;omega)
           rw[<-hk,<-hd,uK]at e
           have nB:=ask_cases (d:=d) (t:=y.to % 6) kS ⟨by omega,by omega⟩
           repeat refine sq ?_
           refine rx hΓ [2,4,6,8,10,11] [[2,0],[4,0],[10,0],[16,0],[132,0],[135,0]] (fun K' hK=>by simp only[go_sem,List.append_nil];(repeat (refine⟨ah,?_⟩));exact hK _ (by simp only[go_sem]) (by simp only[go_sem]<;>rfl)) ?_
           refine aN (cX [10,0] (aT (fI d (y.to % 6))) rfl [2,4,6,8,10,11] [[2,0],[4,0],[10,0],[16,0],[132,0],[135,0]] ?_ rfl) ?_
           ·simp only[go_sem]
           simp only[go_sem]
           repeat refine sq ?_
           refine rx hΓ [2,4,6,8,10,11,128] [[2,0],[4,0],[10,0],[16,0],[132,0],[135,0]] (fun K' hK=>by simp only[go_sem];(repeat (refine⟨ah,?_⟩));exact hK _ (by simp only[go_sem]) (by simp only[go_sem]<;>rfl)) ?_
           repeat refine sq ?_
           refine aw rfl rfl (fun hb=>?_) (fun hb=>?_)
           ·repeat refine sq ?_
            have ha:ep d (y.to % 6)=0:=by simpa using hb
            have jL:=True.intro
            rw[if_pos ha]at e
            repeat refine sq ?_
            refine dx hΓ hP [[],[],[1],[0,1,2],[],[4],[0,1,2,3,4,5],[0,1,2,3,4,5,6],[0,1,2,3,4,5,6,7]] [2,4,6,8,11] [[2,0],[4,0],[16,0],[132,0],[135,0]] (by kernel_rfl) (fun K' hK=>by simp only[go_sem,List.append_nil,List.nil_append];(repeat (refine⟨by first | exact⟨Cv _,rfl,by omega,by unfold maxLen;omega⟩ | exact ah,?_⟩));(first | refine⟨by rfl,?_⟩ | skip);exact hK _ (by simp only[go_sem]) (by simp only[go_sem]<;>rfl)) ?_
            repeat refine sq ?_
            refine rx hΓ [4,5] [[4,0],[16,0],[132,0],[135,0]] (fun K' hK=>by simp only[go_sem,ha,jL,Bool.or_true,Bool.true_or];(repeat (refine⟨ah,?_⟩));exact hK _ (by simp only[go_sem]) (by simp only[go_sem]<;>rfl)) ?_
            first | (refine aN (dK [4,0] [132,0] 1 _ _ _ _ rfl rfl rfl (by first | rfl | (simp only[List.length_append,List.length_map,List.length_cons,List.length_nil];done)) [4,5] [[4,0],[16,0]] ?_ rfl) ?_;(simp only[go_sem,List.set_cons_succ,List.set_cons_zero]);(simp only[go_sem,List.set_cons_succ,List.set_cons_zero])) | skip
            refine aN (dK [4,0] [16,0] 0 _ _ _ _ rfl rfl rfl (by first | rfl | (simp only[List.length_map,bb];done)) [4,5] [[4,0]] ?_ rfl) ?_
            ·simp only[go_sem,List.set_cons_succ,List.set_cons_zero,bb]
            simp only[go_sem,List.set_cons_succ,List.set_cons_zero,bb]
            refine av ?_
            simp only[go_sem]
            first | (rw[e];done) | (rw[e];unfold b9;rw[List.map_append];rfl) | (rw[e];rfl)
           ·repeat refine sq ?_
            have mi:¬ ep d (y.to % 6)=0:=by simpa using hb
            have ha:ep d (y.to % 6)=94:=by rcases nB with h | h<;>first | exact absurd h mi | exact h.1
            have jL:(y.to % 6==y.dk % 6)=true:=by rcases nB with h | h<;>first | exact absurd h mi | (rw[beq_iff_eq];omega)
            rw[if_neg mi]at e
            refine aA ?_
            repeat refine sq ?_
            refine rx hΓ [4,5] [[4,0],[16,0],[132,0],[135,0]] (fun K' hK=>by simp only[go_sem,ha,jL,Bool.or_true,Bool.true_or];(repeat (refine⟨ah,?_⟩));exact hK _ (by simp only[go_sem]) (by simp only[go_sem]<;>rfl)) ?_
            first | (refine aN (dK [4,0] [132,0] 1 _ _ _ _ rfl rfl rfl (by first | rfl | (simp only[List.length_append,List.length_map,List.length_cons,List.length_nil];done)) [4,5] [[4,0],[16,0]] ?_ rfl) ?_;(simp only[go_sem,List.set_cons_succ,List.set_cons_zero]);(simp only[go_sem,List.set_cons_succ,List.set_cons_zero])) | skip
            refine aN (dK [4,0] [16,0] 0 _ _ _ _ rfl rfl rfl (by first | rfl | (simp only[List.length_map,bb];done)) [4,5] [[4,0]] ?_ rfl) ?_
            ·simp only[go_sem,List.set_cons_succ,List.set_cons_zero,bb]
            simp only[go_sem,List.set_cons_succ,List.set_cons_zero,bb]
            refine av ?_
            simp only[go_sem]
            first | (rw[e];done) | (rw[e];unfold b9;rw[List.map_append];rfl) | (rw[e];rfl)
          ·exact Bool.noConfusion (ny.symm.trans hb)
         ·repeat refine sq ?_
          have ny:=hb
          repeat refine sq ?_
          refine rx hΓ [2,3,4,6,7,8,31,117] [[2,0],[3,0],[4,0],[7,0],[16,0],[132,0],[135,0]] (fun K' hK=>by simp only[go_sem];(repeat (refine⟨ah,?_⟩));exact hK _ (by simp only[go_sem]) (by simp only[go_sem]<;>rfl)) ?_
          repeat refine sq ?_
          refine aw rfl rfl (fun hb=>?_) (fun hb=>?_)
          ·repeat refine sq ?_
           have ny:=hb
           refine aA ?_
           repeat refine sq ?_
           refine aw rfl rfl (fun hb=>?_) (fun hb=>?_)
           ·repeat refine sq ?_
            have e:=xm (x:=x) (y:=y) (by show y.kd % 16=8\/y.kd % 16=9\/y.kd % 16=10;have h5:=ny;simp only[beq_iff_eq]at h5;omega)
            rw[<-hk,<-hd,uK]at e
            have nB:=ask_cases (d:=d) (t:=y.to % 6) kS ⟨by omega,by omega⟩
            repeat refine sq ?_
            refine rx hΓ [2,4,6,8,10,11] [[2,0],[4,0],[10,0],[16,0],[132,0],[135,0]] (fun K' hK=>by simp only[go_sem,List.append_nil];(repeat (refine⟨ah,?_⟩));exact hK _ (by simp only[go_sem]) (by simp only[go_sem]<;>rfl)) ?_
            refine aN (cX [10,0] (aT (fI d (y.to % 6))) rfl [2,4,6,8,10,11] [[2,0],[4,0],[10,0],[16,0],[132,0],[135,0]] ?_ rfl) ?_
            ·simp only[go_sem]
            simp only[go_sem]
            repeat refine sq ?_
            refine rx hΓ [2,4,6,8,10,11,128] [[2,0],[4,0],[10,0],[16,0],[132,0],[135,0]] (fun K' hK=>by simp only[go_sem];(repeat (refine⟨ah,?_⟩));exact hK _ (by simp only[go_sem]) (by simp only[go_sem]<;>rfl)) ?_
            repeat refine sq ?_
            refine aw rfl rfl (fun hb=>?_) (fun hb=>?_)
            ·repeat refine sq ?_
             have ha:ep d (y.to % 6)=0:=by simpa using hb
             have jL:=True.intro
             rw[if_pos ha]at e
             repeat refine sq ?_
             refine dx hΓ hP [[],[],[1],[0,1,2],[],[4],[0,1,2,3,4,5],[0,1,2,3,4,5,6],[0,1,2,3,4,5,6,7]] [2,4,6,8,11] [[2,0],[4,0],[16,0],[132,0],[135,0]] (by kernel_rfl) (fun K' hK=>by simp only[go_sem,List.append_nil,List.nil_append];(repeat (refine⟨by first | exact⟨Cv _,rfl,by omega,by unfold maxLen;omega⟩ | exact ah,?_⟩));(first | refine⟨by rfl,?_⟩ | skip);exact hK _ (by simp only[go_sem]) (by simp only[go_sem]<;>rfl)) ?_
             repeat refine sq ?_
             refine rx hΓ [4,5] [[4,0],[16,0],[132,0],[135,0]] (fun K' hK=>by simp only[go_sem,ha,jL,Bool.or_true,Bool.true_or];(repeat (refine⟨ah,?_⟩));exact hK _ (by simp only[go_sem]) (by simp only[go_sem]<;>rfl)) ?_
             first | (refine aN (dK [4,0] [132,0] 1 _ _ _ _ rfl rfl rfl (by first | rfl | (simp only[List.length_append,List.length_map,List.length_cons,List.length_nil];done)) [4,5] [[4,0],[16,0]] ?_ rfl) ?_;(simp only[go_sem,List.set_cons_succ,List.set_cons_zero]);(simp only[go_sem,List.set_cons_succ,List.set_cons_zero])) | skip
             refine aN (dK [4,0] [16,0] 0 _ _ _ _ rfl rfl rfl (by first | rfl | (simp only[List.length_map,bb];done)) [4,5] [[4,0]] ?_ rfl) ?_
             ·simp only[go_sem,List.set_cons_succ,List.set_cons_zero,bb]
             simp only[go_sem,List.set_cons_succ,List.set_cons_zero,bb]
             refine av ?_
             simp only[go_sem]
             first | (rw[e];done) | (rw[e];unfold b9;rw[List.map_append];rfl) | (rw[e];rfl)
            ·repeat refine sq ?_
             have mi:¬ ep d (y.to % 6)=0:=by simpa using hb
             have ha:ep d (y.to % 6)=94:=by rcases nB with h | h<;>first | exact absurd h mi | exact h.1
             have jL:(y.to % 6==y.dk % 6)=true:=by rcases nB with h | h<;>first | exact absurd h mi | (rw[beq_iff_eq];omega)
             rw[if_neg mi]at e
             refine aA ?_
             repeat refine sq ?_
             refine rx hΓ [4,5] [[4,0],[16,0],[132,0],[135,0]] (fun K' hK=>by simp only[go_sem,ha,jL,Bool.or_true,Bool.true_or];(repeat (refine⟨ah,?_⟩));exact hK _ (by simp only[go_sem]) (by simp only[go_sem]<;>rfl)) ?_
             first | (refine aN (dK [4,0] [132,0] 1 _ _ _ _ rfl rfl rfl (by first | rfl | (simp only[List.length_append,List.length_map,List.length_cons,List.length_nil];done)) [4,5] [[4,0],[16,0]] ?_ rfl) ?_;(simp only[go_sem,List.set_cons_succ,List.set_cons_zero]);(simp only[go_sem,List.set_cons_succ,List.set_cons_zero])) | skip
             refine aN (dK [4,0] [16,0] 0 _ _ _ _ rfl rfl rfl (by first | rfl | (simp only[List.length_map,bb];done)) [4,5] [[4,0]] ?_ rfl) ?_
             ·simp only[go_sem,List.set_cons_succ,List.set_cons_zero,bb]
             simp only[go_sem,List.set_cons_succ,List.set_cons_zero,bb]
             refine av ?_
             simp only[go_sem]
             first | (rw[e];done) | (rw[e];unfold b9;rw[List.map_append];rfl) | (rw[e];rfl)
           ·exact Bool.noConfusion (ny.symm.trans hb)
          ·repeat refine sq ?_
           have ny:=hb
           repeat refine sq ?_
           refine rx hΓ [2,3,4,6,7,8,117] [[2,0],[3,0],[4,0],[7,0],[16,0],[132,0],[135,0]] (fun K' hK=>by simp only[go_sem];(repeat (refine⟨ah,?_⟩));exact hK _ (by simp only[go_sem]) (by simp only[go_sem]<;>rfl)) ?_
           repeat refine sq ?_
           refine aw rfl rfl (fun hb=>?_) (fun hb=>?_)
           ·repeat refine sq ?_
            have ny:=hb
            have e:=xm (x:=x) (y:=y) (by show y.kd % 16=8\/y.kd % 16=9\/y.kd % 16=10;have h5:=ny;simp only[beq_iff_eq]at h5;omega)
            rw[<-hk,<-hd,uK]at e
            have nB:=ask_cases (d:=d) (t:=y.to % 6) kS ⟨by omega,by omega⟩
            repeat refine sq ?_
            refine rx hΓ [2,4,6,8,10,11] [[2,0],[4,0],[10,0],[16,0],[132,0],[135,0]] (fun K' hK=>by simp only[go_sem,List.append_nil];(repeat (refine⟨ah,?_⟩));exact hK _ (by simp only[go_sem]) (by simp only[go_sem]<;>rfl)) ?_
            refine aN (cX [10,0] (aT (fI d (y.to % 6))) rfl [2,4,6,8,10,11] [[2,0],[4,0],[10,0],[16,0],[132,0],[135,0]] ?_ rfl) ?_
            ·simp only[go_sem]
            simp only[go_sem]
            repeat refine sq ?_
            refine rx hΓ [2,4,6,8,10,11,128] [[2,0],[4,0],[10,0],[16,0],[132,0],[135,0]] (fun K' hK=>by simp only[go_sem];(repeat (refine⟨ah,?_⟩));exact hK _ (by simp only[go_sem]) (by simp only[go_sem]<;>rfl)) ?_
            repeat refine sq ?_
            refine aw rfl rfl (fun hb=>?_) (fun hb=>?_)
            ·repeat refine sq ?_
             have ha:ep d (y.to % 6)=0:=by simpa using hb
             have jL:=True.intro
             rw[if_pos ha]at e
             repeat refine sq ?_
             refine dx hΓ hP [[],[],[1],[0,1,2],[],[4],[0,1,2,3,4,5],[0,1,2,3,4,5,6],[0,1,2,3,4,5,6,7]] [2,4,6,8,11] [[2,0],[4,0],[16,0],[132,0],[135,0]] (by kernel_rfl) (fun K' hK=>by simp only[go_sem,List.append_nil,List.nil_append];(repeat (refine⟨by first | exact⟨Cv _,rfl,by omega,by unfold maxLen;omega⟩ | exact ah,?_⟩));(first | refine⟨by rfl,?_⟩ | skip);exact hK _ (by simp only[go_sem]) (by simp only[go_sem]<;>rfl)) ?_
             repeat refine sq ?_
             refine rx hΓ [4,5] [[4,0],[16,0],[132,0],[135,0]] (fun K' hK=>by simp only[go_sem,ha,jL,Bool.or_true,Bool.true_or];(repeat (refine⟨ah,?_⟩));exact hK _ (by simp only[go_sem]) (by simp only[go_sem]<;>rfl)) ?_
             first | (refine aN (dK [4,0] [132,0] 1 _ _ _ _ rfl rfl rfl (by first | rfl | (simp only[List.length_append,List.length_map,List.length_cons,List.length_nil];done)) [4,5] [[4,0],[16,0]] ?_ rfl) ?_;(simp only[go_sem,List.set_cons_succ,List.set_cons_zero]);(simp only[go_sem,List.set_cons_succ,List.set_cons_zero])) | skip
             refine aN (dK [4,0] [16,0] 0 _ _ _ _ rfl rfl rfl (by first | rfl | (simp only[List.length_map,bb];done)) [4,5] [[4,0]] ?_ rfl) ?_
             ·simp only[go_sem,List.set_cons_succ,List.set_cons_zero,bb]
             simp only[go_sem,List.set_cons_succ,List.set_cons_zero,bb]
             refine av ?_
             simp only[go_sem]
             first | (rw[e];done) | (rw[e];unfold b9;rw[List.map_append];rfl) | (rw[e];rfl)
            ·repeat refine sq ?_
             have mi:¬ ep d (y.to % 6)=0:=by simpa using hb
             have ha:ep d (y.to % 6)=94:=by rcases nB with h | h<;>first | exact absurd h mi | exact h.1
             have jL:(y.to % 6==y.dk % 6)=true:=by rcases nB with h | h<;>first | exact absurd h mi | (rw[beq_iff_eq];omega)
             rw[if_neg mi]at e
             refine aA ?_
             repeat refine sq ?_
             refine rx hΓ [4,5] [[4,0],[16,0],[132,0],[135,0]] (fun K' hK=>by simp only[go_sem,ha,jL,Bool.or_true,Bool.true_or];(repeat (refine⟨ah,?_⟩));exact hK _ (by simp only[go_sem]) (by simp only[go_sem]<;>rfl)) ?_
             first | (refine aN (dK [4,0] [132,0] 1 _ _ _ _ rfl rfl rfl (by first | rfl | (simp only[List.length_append,List.length_map,List.length_cons,List.length_nil];done)) [4,5] [[4,0],[16,0]] ?_ rfl) ?_;(simp only[go_sem,List.set_cons_succ,List.set_cons_zero]);(simp only[go_sem,List.set_cons_succ,List.set_cons_zero])) | skip
             refine aN (dK [4,0] [16,0] 0 _ _ _ _ rfl rfl rfl (by first | rfl | (simp only[List.length_map,bb];done)) [4,5] [[4,0]] ?_ rfl) ?_
             ·simp only[go_sem,List.set_cons_succ,List.set_cons_zero,bb]
             simp only[go_sem,List.set_cons_succ,List.set_cons_zero,bb]
             refine av ?_
             simp only[go_sem]
             first | (rw[e];done) | (rw[e];unfold b9;rw[List.map_append];rfl) | (rw[e];rfl)
           ·repeat refine sq ?_
            have ny:=hb
            have L7:11<=dq y:=by show 11<=y.kd % 16;simp only[beq_eq_false_iff_ne,ne_eq]at *;omega
            repeat refine sq ?_
            refine rx hΓ [2,3,4,7,35] [[2,0],[3,0],[4,0],[7,0],[16,0],[132,0],[135,0]] (fun K' hK=>by simp only[go_sem];(repeat (refine⟨ah,?_⟩));exact hK _ (by simp only[go_sem]) (by simp only[go_sem]<;>rfl)) ?_
            repeat refine sq ?_
            refine aw rfl rfl (fun hb=>?_) (fun hb=>?_)
            ·repeat refine sq ?_
             have h0b:x.bs=[]:=by have h5:=hb;simp at h5;exact h5
             have e:=FA (x:=x) (y:=y) L7 h0b
             repeat refine sq ?_
             refine rx hΓ [4,5] [[4,0],[16,0],[132,0],[135,0]] (fun K' hK=>by simp only[go_sem];(repeat (refine⟨ah,?_⟩));exact hK _ (by simp only[go_sem]) (by simp only[go_sem]<;>rfl)) ?_
             refine aN (dK [4,0] [16,0] 0 _ _ _ _ rfl rfl rfl (by first | rfl | (simp only[List.length_map,bb];done)) [4,5] [[4,0]] ?_ rfl) ?_
             ·simp only[go_sem,List.set_cons_succ,List.set_cons_zero,bb]
             simp only[go_sem,List.set_cons_succ,List.set_cons_zero,bb]
             refine av ?_
             simp only[go_sem]
             first | (rw[e];done) | (rw[e];unfold b9;rw[List.map_append];rfl) | (rw[e];rfl)
            ·repeat refine sq ?_
             have aj:x.bs≠[]:=by intro h0;simp[h0]at hb
             have bK:0<x.bs.length:=List.length_pos_iff.2 aj
             have L6:(0:Int)<(x.bs.length:Int)/\(x.bs.length:Int)<=1000000:=by omega
             have g0:=Int.emod_nonneg y.pi (by omega:(x.bs.length:Int)≠0)
             have g1:=Int.emod_lt_of_pos y.pi L6.1
             have gk:(y.pi % (x.bs.length:Int)).toNat<x.bs.length:=by omega
             obtain⟨b,oU⟩:∃ b,b=jt x y:=⟨_,rfl⟩
             have jn:(x.bs.map fQ).getD (y.pi % (x.bs.length:Int)).toNat default=.agg (aT b):=by rw[oU];unfold jt;simp[List.getD_eq_getElem?_getD,List.getElem?_eq_getElem gk,fQ]
             have e:=Fy (y:=y) L7 aj
             have eR:=hx.open0 (y:=y) aj
             rw[if_pos eR]at e
             rw[<-oU]at e eR
             have wV:=hp.bg b (by rw[oU];exact AE aj)
             obtain⟨k2,iU⟩:∃ k2,k2=b.to.toNat:=⟨_,rfl⟩
             rw[<-iU]at e eR
             have Ef:k2<6:=by omega
             obtain⟨d2,oQ⟩:∃ d2,d2=x.ds.get k2:=⟨_,rfl⟩
             rw[<-oQ]at e eR
             have YT:(x.ds.L encDk).getD k2 default=encDk d2:=by rw[oQ];exact aS.L_get x.ds encDk default Ef
             have Ms:dZ d2:=by rw[oQ];exact hp.sz k2 Ef
             have gZ:∀ e:Dk,(x.ds.L encDk).set k2 (.agg (aq e))=(x.ds.set k2 e).L encDk:=fun e=>Bo x e Ef
             have q0:=wV.1
             have q6:=wV.2
             have qk:=iU.symm
             have uv:decide (b.to<0)=false:=decide_eq_false (by omega)
             have YX:decide (b.to>=6)=false:=decide_eq_false (by omega)
             refine aA ?_
             repeat refine sq ?_
             refine dx hΓ hP [[],[0],[],[2],[],[4],[4,5],[2,3,4,5,6],[0,1,2,3,4,5,6,7],[0,1,2,3,4,5,6,7,8],[],[0,1,2,3,4,5,6,7,8,9,10]] [2,4,7,12] [[2,0],[4,0],[7,0],[12,0],[16,0],[132,0],[135,0]] (by kernel_rfl) (fun K' hK=>by simp only[go_sem,g0,g1,gk,jn,List.length_map,List.append_nil];(repeat (refine⟨by first | exact L6 | exact ah,?_⟩));(first | refine⟨by rfl,?_⟩ | skip);exact hK _ (by simp only[go_sem]) (by simp only[go_sem]<;>rfl)) ?_
             refine aN (cX [12,0] (aT b) rfl [2,4,7,12] [[2,0],[4,0],[7,0],[12,0],[16,0],[132,0],[135,0]] ?_ rfl) ?_
             ·simp only[go_sem]
             simp only[go_sem]
             repeat refine sq ?_
             refine rx hΓ [2,4,7,12,54] [[2,0],[4,0],[7,0],[12,0],[16,0],[132,0],[135,0]] (fun K' hK=>by simp only[go_sem,uv,YX];(repeat (refine⟨ah,?_⟩));exact hK _ (by simp only[go_sem]) (by simp only[go_sem]<;>rfl)) ?_
             repeat refine sq ?_
             refine aw rfl rfl (fun hb=>?_) (fun hb=>?_)
             ·cases hb
             ·repeat refine sq ?_
              refine aA ?_
              repeat refine sq ?_
              refine rx hΓ [2,4,6,7,12] [[2,0],[4,0],[7,0],[12,0],[16,0],[132,0],[135,0]] (fun K' hK=>by simp only[go_sem];(repeat (refine⟨ah,?_⟩));exact hK _ (by simp only[go_sem]) (by simp only[go_sem]<;>rfl)) ?_
              repeat refine sq ?_
              refine xu hΓ hP [[],[0],[],[0,1,2],[0,1,2,3],[],[0,1,2,3,4,5],[0,1,2,3,4,5,6],[0,1,2,3,4,5,6,7],[0,1,2,3,4,5,6,7],[0,1,2,3,4,5,6,7,8],[0,1,2,3,4,5,6,7,8,9,10]] (by kernel_rfl) fun K' hK=>?_
              simp only[go_sem,Nat.zero_add,q0,q6,qk,YT,Ms,bb,List.append_nil]
              repeat (refine⟨by first | exact Ms | exact ah,?_⟩)
              first | refine⟨by rfl,?_⟩ | skip
              refine hK _ ?_
              clear K' hK
              simp only[go_sem]
              refine kp [2,4,6,7,9] [[2,0],[4,0],[7,0],[16,0],[132,0],[135,0]] ?_
              repeat refine sq ?_
              refine rx hΓ [2,4,6,7,150] [[2,0],[4,0],[7,0],[16,0],[132,0],[135,0]] (fun K' hK=>by simp only[go_sem,eR];(repeat (refine⟨ah,?_⟩));exact hK _ (by simp only[go_sem]) (by simp only[go_sem]<;>rfl)) ?_
              repeat refine sq ?_
              refine aw rfl rfl (fun hb=>?_) (fun hb=>?_)
              ·cases hb
              ·repeat refine sq ?_
               refine aA ?_
               repeat refine sq ?_
               refine rx hΓ [2,4] [[2,0],[4,0],[16,0],[132,0],[135,0]] (fun K' hK=>by simp only[go_sem,Nat.zero_add,q0,q6,qk,gZ,bb,List.append_nil];(repeat (refine⟨ah,?_⟩));exact hK _ (by simp only[go_sem]) (by simp only[go_sem]<;>rfl)) ?_
               repeat refine sq ?_
               refine rx hΓ [4,5] [[4,0],[16,0],[132,0],[135,0]] (fun K' hK=>by simp only[go_sem];(repeat (refine⟨ah,?_⟩));exact hK _ (by simp only[go_sem]) (by simp only[go_sem]<;>rfl)) ?_
               refine aN (dK [4,0] [16,0] 0 _ _ _ _ rfl rfl rfl (by first | rfl | (simp only[List.length_map,bb];done)) [4,5] [[4,0]] ?_ rfl) ?_
               ·simp only[go_sem,List.set_cons_succ,List.set_cons_zero,bb]
               simp only[go_sem,List.set_cons_succ,List.set_cons_zero,bb]
               refine av ?_
               simp only[go_sem]
               first | (rw[e];done) | (rw[e];unfold b9;rw[List.map_append];rfl) | (rw[e];rfl)
theorem Xa:an Tryd.prog 8 S508:=SU.sound
end Go.Eng
