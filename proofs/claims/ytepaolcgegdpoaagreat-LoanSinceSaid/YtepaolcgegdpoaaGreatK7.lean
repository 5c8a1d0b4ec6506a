import Derived.Test.YtepaolcgegdpoaaGreatK6
/- Texts LW27 to LW54. -/
set_option linter.all false
namespace Go.Eng
open Go Go.Proofs
noncomputable section
theorem vz{α:Type}{p:α->Bool}{l:List α}{i:Nat}(h:i<l.length):(l.take (i+1)).all p=((l.take i).all p&&p l[i]):=by
 rw[List.take_add_one,List.getElem?_eq_getElem h,List.all_append]
 simp
theorem JZ{x:Vw}{d:Ds}{l:List Sig}{i:Nat}(h:i<l.length):eQ x d (l.take (i+1))=qE x (eQ x d (l.take i)) l[i]:=by
 unfold eQ
 rw[List.take_add_one,List.getElem?_eq_getElem h,List.foldl_append]
 rfl
theorem zy(x:Vw)(d:Ds)(s:Sig):bf ⟨x.l,x.rs,x.ts,x.bk,d⟩ s=bf x s:=rfl
theorem l9.ds{x:Vw}(h:l9 x)(d:Ds):l9 ⟨x.l,x.rs,x.ts,x.bk,d⟩:=⟨h.ok,h.bk,h.rs,h.rn,h.tn,h.ts⟩
theorem PZ(x:Vw)(d:Ds)(i:Int)(r:Rg):AD ⟨x.l,x.rs,x.ts,x.bk,d⟩ i r=nu d i r:=rfl
theorem X1{H H':Name->Option O}{Kf:List (V×V)}(fo:upd H [2,1] (some (.map 0 Kf))=H')(ab:∀ hs es,bP [0] (bL [0] hs) (fun nm=>if nm=[2,1]then some (.map 0 es)else H nm)=True):
 (∀ hs,bP [0] (bL [0] hs) H'=True)/\∀ hs es,bP [0] (bL [0] hs) (fun nm=>if nm=[2,1]then some (.map 0 es)else H' nm)=True:=by
 refine⟨fun hs=>by rw[<-fo];exact ab hs Kf,fun hs es=>?_⟩
 have e:(fun nm=>if nm=[2,1]then some (.map 0 es)else H' nm)=fun nm=>if nm=[2,1]then some (.map 0 es)else H nm:=by
  funext nm
  rw[<-fo]
  by_cases e:nm=[2,1]
  ·simp[e]
  ·simp[aV _ _ _ e,e]
 rw[e];exact ab hs es
theorem MK{α β:Type}[DecidableEq α]{f:α->β}{a:α}{b:β}(h:f a=b):upd f a b=f:=by
 funext x
 by_cases e:x=a
 ·subst e;rw[aN,h]
 ·rw[aV _ _ _ e]
def wk(d:Ds)(i:Int):Bool:=decide ((bI d i).1<=(bI d i).2)
def K27:List (Nat×Spec):=[(187,S187),(165,S165)]
theorem Zg:KS K27:=tc Sr<|tc Bd<|tn
attribute [go_sem] K27
def LO:VSpec:=v1 (eM iS) (fun x l=>((l9 x/\x.rs.Nodup)/\l.length<=60)/\∀ s∈l,we s) (fun x l=>.v (.bool (fM x l))) (some fun x l=>eQ x x.ds l)
def S128:Spec:=LO.toSpec
attribute [go_sem] LO S128
set_option maxHeartbeats 8000000 in
theorem Bf:aL Tryz.prog 128 S128:=by
 refine vS (rs:=[.tmp 4]) Tryz.func128 Tryz.ntmps128 (by rfl) (by kernel_rfl) (by decide) (fun _ _=>by first | rfl | simp[D.clos,D.closL,km]) ⟨_,rfl,lb rfl,fun x l hp H h0 h1 h2 hO ab=>?_⟩
 simp only[iS,eM,encS,bp,cN,List.map_cons,List.map_nil,Nat.zero_add,Option.map_some,Option.map_none]at h0 |-
 have hΓ:=Zg
 obtain⟨⟨⟨hv,b9⟩,I'⟩,su⟩:=hp
 have sw:l.length<=maxLen:=by unfold maxLen;omega
 have mz:x.ts.length<=maxLen:=by have:=hv.tn;unfold maxLen;omega
 have a7:∀ hs es,bP [0] (bL [0] hs) (upd H [2,1] (some (.map 0 es)))=True:=ab
 repeat refine sq ?_
 refine rx hΓ [0,1] [] (fun K' hK=>by simp only[go_sem,hO,ab,a7,h0,h1,h2];(repeat (refine⟨ak,?_⟩));exact hK _ (by simp only[go_sem,hO,ab,a7,h0,h1,h2]) (by simp only[go_sem,hO,ab,a7,h0,h1,h2]<;>rfl)) ?_
 repeat refine sq ?_
 refine rx hΓ [0,1,5] [] (fun K' hK=>by simp only[go_sem,hO,ab,a7,h0,h1,h2];(repeat (refine⟨ak,?_⟩));exact hK _ (by simp only[go_sem,hO,ab,a7,h0,h1,h2]) (by simp only[go_sem,hO,ab,a7,h0,h1,h2]<;>rfl)) ?_
 repeat refine sq ?_
 refine rx hΓ [0,1,5,6] [] (fun K' hK=>by simp only[go_sem,hO,ab,a7,h0,h1,h2];(repeat (refine⟨ak,?_⟩));exact hK _ (by simp only[go_sem,hO,ab,a7,h0,h1,h2]) (by simp only[go_sem,hO,ab,a7,h0,h1,h2]<;>rfl)) ?_
 repeat refine sq ?_
 refine rx hΓ [0,5,6,16,17,18] [] (fun K' hK=>by simp only[go_sem,hO,ab,a7,h0,h1,h2];(repeat (refine⟨ak,?_⟩));exact hK _ (by simp only[go_sem,hO,ab,a7,h0,h1,h2]) (by simp only[go_sem,hO,ab,a7,h0,h1,h2]<;>rfl)) ?_
 repeat refine sq ?_
 refine aQ ?_
 repeat refine sq ?_
 refine KM (fun s:Nat=>upd H [2,1] (some (.map 0 (bz (eQ x x.ds (l.take s)))))) (fun s:Nat=>[(18,⟨true,.v (vInt s)⟩),(5,⟨true,.v (.bool ((l.take s).all (gi x)))⟩)]) (fun s=>[]) (fun s=>s<=l.length) (fun s=>l.length-s) 0 ?_ ?_ ?_ ?_ ?_
 ·exact Nat.zero_le _
 ·congr 1;exact MK h2
 ·rfl
 ·rfl
 rintro i hi
 generalize fo:upd H [2,1] (some (.map 0 (bz (eQ x x.ds (l.take i)))))=H'
 have h0:=(show H' [0,1]=H [0,1]by rw[<-fo,aV _ _ _ (by decide)]).trans h0
 have h1:=(show H' [1,1]=H [1,1]by rw[<-fo,aV _ _ _ (by decide)]).trans h1
 have h2:H' [2,1]=some (.map 0 (bz (eQ x x.ds (l.take i)))):=by rw[<-fo,aN]
 obtain⟨hO,ab⟩:=X1 fo ab
 have a7:∀ hs es,bP [0] (bL [0] hs) (upd H' [2,1] (some (.map 0 es)))=True:=ab
 simp only[go_sem]
 repeat refine sq ?_
 refine rx hΓ [0,5,6,16,17,18,19] [] (fun K' hK=>by simp only[go_sem,hO,ab,a7,h0,h1,h2];(repeat (refine⟨ak,?_⟩));exact hK _ (by simp only[go_sem,hO,ab,a7,h0,h1,h2]) (by simp only[go_sem,hO,ab,a7,h0,h1,h2]<;>rfl)) ?_
 repeat refine sq ?_
 refine aB (fun hb=>?_) fun hb=>?_
 ·have ae:i<l.length:=by simpa using hb
  have au:(i:Int)<l.length:=by omega
  clear hb
  have uI:=su l[i] (List.getElem_mem ae)
  repeat refine sq ?_
  refine aG ?_
  repeat refine sq ?_
  refine aQ ?_
  repeat refine sq ?_
  refine rx hΓ [0,5,6,8,16,17,18] [[8,0]] (fun K' hK=>by simp only[go_sem,hO,ab,a7,h0,h1,h2,ah ae,ai,aj,au];(repeat (refine⟨ak,?_⟩));exact hK _ (by simp only[go_sem,hO,ab,a7,h0,h1,h2,ah ae,ai,aj,au]) (by simp only[go_sem,hO,ab,a7,h0,h1,h2,ah ae,ai,aj,au]<;>rfl)) ?_
  repeat refine sq ?_
  refine rx hΓ [0,5,6,9,10,16,17,18] [[10,0]] (fun K' hK=>by simp only[go_sem,hO,ab,a7,h0,h1,h2,ah ae,ai,aj,au,zy];(repeat (refine⟨by first | exact ak | exact⟨⟨hv.ds _,b9⟩,uI⟩,?_⟩));exact hK _ (by simp only[go_sem,hO,ab,a7,h0,h1,h2,ah ae,ai,aj,au,zy]) (by simp only[go_sem,hO,ab,a7,h0,h1,h2,ah ae,ai,aj,au,zy]<;>rfl)) ?_
  repeat refine sq ?_
  refine rx hΓ [0,5,6,9,10,16,17,18,29] [[10,0]] (fun K' hK=>by simp only[go_sem,hO,ab,a7,h0,h1,h2,ah ae,ai,aj,au];(repeat (refine⟨ak,?_⟩));exact hK _ (by simp only[go_sem,hO,ab,a7,h0,h1,h2,ah ae,ai,aj,au]) (by simp only[go_sem,hO,ab,a7,h0,h1,h2,ah ae,ai,aj,au]<;>rfl)) ?_
  repeat refine sq ?_
  refine aB (fun hb=>?_) fun hb=>?_
  ·repeat refine sq ?_
   have jM:(bf x l[i]).1>=0:=by simpa using hb
   have hA:(l.take (i+1)).all (gi x)=(l.take i).all (gi x):=by rw[vz ae];simp[gi,jM]
   have hF:eQ x x.ds (l.take (i+1))=nu (eQ x x.ds (l.take i)) (bf x l[i]).1 (bf x l[i]).2:=by rw[JZ ae,qE,if_pos jM]
   repeat refine sq ?_
   refine aY hΓ fun K' hK=>?_
   simp only[go_sem,hO,ab,a7,h0,h1,h2,ah ae,ai,aj,au,PZ]
   repeat (refine⟨ak,?_⟩)
   refine hK _ ?_
   clear K' hK
   simp only[go_sem]
   refine eg [0,5,6,16,17,18] [] ?_ ?_
   ·simp only[go_sem,hO,ab,a7,h0,h1,h2]
   simp only[go_sem,hO,ab,a7,h0,h1,h2]
   repeat refine sq ?_
   refine aY hΓ fun K' hK=>?_
   simp only[go_sem,hO,ab,a7,h0,h1,h2,ah ae,ai,aj,au]
   repeat (refine⟨ak,?_⟩)
   refine hK _ ?_
   clear K' hK
   simp only[go_sem]
   refine⟨i+1,ae,by(show l.length-(i+1)<l.length-i;omega),?_⟩
   refine bq [0,5,6,16,17,18] [] ?_ ?_
   ·simp only[go_sem,be ae sw,bj,hA,hF,hO,ab,a7,h0,h1,h2]
   ·simp only[go_sem,be ae sw,bj,hA,hF,hO,ab,a7,h0,h1,h2]
    all_goals first | (rw[<-fo];done) | (congr 1;funext nm;rw[<-fo];by_cases e:nm=[2,1]<;>simp[e,aN,aV])
  ·repeat refine sq ?_
   have jM:¬ (bf x l[i]).1>=0:=by simpa using hb
   have hF:eQ x x.ds (l.take (i+1))=eQ x x.ds (l.take i):=by rw[JZ ae,qE,if_neg jM]
   repeat refine sq ?_
   refine rx hΓ [0,5,6,16,17,18,38] [] (fun K' hK=>by simp only[go_sem,hO,ab,a7,h0,h1,h2,ah ae,ai,aj,au];(repeat (refine⟨ak,?_⟩));exact hK _ (by simp only[go_sem,hO,ab,a7,h0,h1,h2,ah ae,ai,aj,au]) (by simp only[go_sem,hO,ab,a7,h0,h1,h2,ah ae,ai,aj,au]<;>rfl)) ?_
   repeat refine sq ?_
   refine aB (fun hb=>?_) fun hb=>?_
   ·repeat refine sq ?_
    have hA:(l.take (i+1)).all (gi x)=false:=by rw[vz ae];simp[gi,jM];intro _;simpa using hb
    repeat refine sq ?_
    refine aY hΓ fun K' hK=>?_
    simp only[go_sem,hO,ab,a7,h0,h1,h2,ah ae,ai,aj,au]
    repeat (refine⟨ak,?_⟩)
    refine hK _ ?_
    clear K' hK
    simp only[go_sem]
    refine eg [0,5,6,16,17,18] [] ?_ ?_
    ·simp only[go_sem,hO,ab,a7,h0,h1,h2]
    simp only[go_sem,hO,ab,a7,h0,h1,h2]
    repeat refine sq ?_
    refine aY hΓ fun K' hK=>?_
    simp only[go_sem,hO,ab,a7,h0,h1,h2,ah ae,ai,aj,au]
    repeat (refine⟨ak,?_⟩)
    refine hK _ ?_
    clear K' hK
    simp only[go_sem]
    refine⟨i+1,ae,by(show l.length-(i+1)<l.length-i;omega),?_⟩
    refine bq [0,5,6,16,17,18] [] ?_ ?_
    ·simp only[go_sem,be ae sw,bj,hA,hF,hO,ab,a7,h0,h1,h2]
    ·simp only[go_sem,be ae sw,bj,hA,hF,hO,ab,a7,h0,h1,h2]
     all_goals first | (rw[<-fo];done) | (congr 1;funext nm;rw[<-fo];by_cases e:nm=[2,1]<;>simp[e,aN,aV])
   ·repeat refine sq ?_
    have hA:(l.take (i+1)).all (gi x)=(l.take i).all (gi x):=by rw[vz ae];simp[gi,jM];intro _;simpa using hb
    refine aG ?_
    refine bV ?_
    simp only[go_sem]
    refine eg [0,5,6,16,17,18] [] ?_ ?_
    ·simp only[go_sem,hO,ab,a7,h0,h1,h2]
    simp only[go_sem,hO,ab,a7,h0,h1,h2]
    repeat refine sq ?_
    refine aY hΓ fun K' hK=>?_
    simp only[go_sem,hO,ab,a7,h0,h1,h2,ah ae,ai,aj,au]
    repeat (refine⟨ak,?_⟩)
    refine hK _ ?_
    clear K' hK
    simp only[go_sem]
    refine⟨i+1,ae,by(show l.length-(i+1)<l.length-i;omega),?_⟩
    refine bq [0,5,6,16,17,18] [] ?_ ?_
    ·simp only[go_sem,be ae sw,bj,hA,hF,hO,ab,a7,h0,h1,h2]
    ·simp only[go_sem,be ae sw,bj,hA,hF,hO,ab,a7,h0,h1,h2]
     all_goals first | (rw[<-fo];done) | (congr 1;funext nm;rw[<-fo];by_cases e:nm=[2,1]<;>simp[e,aN,aV])
 ·have bw:i=l.length:=by
   have :¬ (i:Int)<l.length:=by simpa using hb
   omega
  clear hb
  subst bw
  repeat refine sq ?_
  refine bM ?_
  simp only[go_sem]
  refine eg [0,5] [] ?_ ?_
  ·simp only[go_sem,hO,ab,a7,h0,h1,h2]
  simp only[go_sem,hO,ab,a7,h0,h1,h2]
  repeat refine sq ?_
  refine rx hΓ [0,5,43,44,45] [] (fun K' hK=>by simp only[go_sem,hO,ab,a7,h0,h1,h2];(repeat (refine⟨ak,?_⟩));exact hK _ (by simp only[go_sem,hO,ab,a7,h0,h1,h2]) (by simp only[go_sem,hO,ab,a7,h0,h1,h2]<;>rfl)) ?_
  repeat refine sq ?_
  refine aQ ?_
  repeat refine sq ?_
  refine cr (fun s:Nat=>[(45,⟨true,.v (vInt s)⟩),(5,⟨true,.v (.bool ((x.ts.take s).all (wk (eQ x x.ds (l.take l.length)))&&(l.take l.length).all (gi x)))⟩)]) (fun s=>[]) (fun s=>s<=x.ts.length) (fun s=>x.ts.length-s) 0 ?_ ?_ ?_ ?_
  ·exact Nat.zero_le _
  ·rfl
  ·rfl
  rintro i1 hi
  generalize hB:((x.ts.take i1).all (wk (eQ x x.ds (l.take l.length)))&&(l.take l.length).all (gi x))=B
  simp only[go_sem]
  repeat refine sq ?_
  refine rx hΓ [0,5,43,44,45,46] [] (fun K' hK=>by simp only[go_sem,hO,ab,a7,h0,h1,h2];(repeat (refine⟨ak,?_⟩));exact hK _ (by simp only[go_sem,hO,ab,a7,h0,h1,h2]) (by simp only[go_sem,hO,ab,a7,h0,h1,h2]<;>rfl)) ?_
  repeat refine sq ?_
  refine aB (fun hb=>?_) fun hb=>?_
  ·have aJ:i1<x.ts.length:=by simpa using hb
   have bh:(i1:Int)<x.ts.length:=by omega
   clear hb
   have hA:((x.ts.take (i1+1)).all (wk (eQ x x.ds (l.take l.length)))&&(l.take l.length).all (gi x))=(B&&decide ((bI (eQ x x.ds (l.take l.length)) x.ts[i1]).1<=(bI (eQ x x.ds (l.take l.length)) x.ts[i1]).2)):=by
    rw[<-hB,vz aJ,Bool.and_assoc,Bool.and_assoc,Bool.and_comm (wk _ _)];rfl
   repeat refine sq ?_
   refine aG ?_
   repeat refine sq ?_
   refine aQ ?_
   repeat refine sq ?_
   refine rx hΓ [0,5,12,43,44,45] [] (fun K' hK=>by simp only[go_sem,hO,ab,a7,h0,h1,h2,ah aJ,ai,aj,bh];(repeat (refine⟨ak,?_⟩));exact hK _ (by simp only[go_sem,hO,ab,a7,h0,h1,h2,ah aJ,ai,aj,bh]) (by simp only[go_sem,hO,ab,a7,h0,h1,h2,ah aJ,ai,aj,bh]<;>rfl)) ?_
   repeat refine sq ?_
   refine rx hΓ [0,5,13,43,44,45] [[13,0]] (fun K' hK=>by simp only[go_sem,hO,ab,a7,h0,h1,h2,ah aJ,ai,aj,bh,iG];(repeat (refine⟨ak,?_⟩));exact hK _ (by simp only[go_sem,hO,ab,a7,h0,h1,h2,ah aJ,ai,aj,bh,iG]) (by simp only[go_sem,hO,ab,a7,h0,h1,h2,ah aJ,ai,aj,bh,iG]<;>rfl)) ?_
   repeat refine sq ?_
   refine aY hΓ fun K' hK=>?_
   simp only[go_sem,hO,ab,a7,h0,h1,h2,ah aJ,ai,aj,bh]
   repeat (refine⟨ak,?_⟩)
   refine hK _ ?_
   clear K' hK
   simp only[go_sem]
   refine eg [0,5,43,44,45] [] ?_ ?_
   ·simp only[go_sem,hO,ab,a7,h0,h1,h2]
   simp only[go_sem,hO,ab,a7,h0,h1,h2]
   repeat refine sq ?_
   refine aY hΓ fun K' hK=>?_
   simp only[go_sem,hO,ab,a7,h0,h1,h2,ah aJ,ai,aj,bh]
   repeat (refine⟨ak,?_⟩)
   refine hK _ ?_
   clear K' hK
   simp only[go_sem]
   refine⟨i1+1,aJ,by(show x.ts.length-(i1+1)<x.ts.length-i1;omega),?_⟩
   refine bq [0,5,43,44,45] [] ?_ ?_<;>simp only[go_sem,be aJ mz,bj,hA,hO,ab,a7,h0,h1,h2]
  ·have iQ:i1=x.ts.length:=by
    have :¬ (i1:Int)<x.ts.length:=by simpa using hb
    omega
   clear hb
   subst iQ
   repeat refine sq ?_
   refine bM ?_
   simp only[go_sem]
   refine eg [5] [] ?_ ?_
   ·simp only[go_sem,hO,ab,a7,h0,h1,h2]
   simp only[go_sem,hO,ab,a7,h0,h1,h2]
   repeat refine sq ?_
   refine rx hΓ [4] [] (fun K' hK=>by simp only[go_sem,hO,ab,a7,h0,h1,h2];(repeat (refine⟨ak,?_⟩));exact hK _ (by simp only[go_sem,hO,ab,a7,h0,h1,h2]) (by simp only[go_sem,hO,ab,a7,h0,h1,h2]<;>rfl)) ?_
   refine ay ?_
   simp only[go_sem,hO,ab,a7,h0,h1,h2]
   rw[<-hB];simp only[List.take_length];exact⟨by unfold fM ve;rw[Bool.and_comm];rfl,trivial⟩
end
open Go
structure Ro (α:Type) where
 m:Nat
 fam:α->List Name->List O
 args:α->List Name->List D
 ok:α->Prop
 val:α->D
structure Ro.Ok {α:Type} (r:Ro α):Prop where
 len:∀ a Ls,Ls.length=r.m->(r.fam a Ls).length=r.m
 renF:∀ a f Ls,Ls.length=r.m->(r.fam a Ls).map (O.ren f)=r.fam a (Ls.map f)
 renA:∀ a f Ls,Ls.length=r.m->D.renL f (r.args a Ls)=r.args a (Ls.map f)
 reach:∀ a Ls obj,Ls.length=r.m->Ls.Nodup->cD obj Ls (r.fam a Ls)->reach obj (r.args a Ls)=Ls
 closF:∀ a dom Ls,Ls.length=r.m->(∀ x∈Ls,dom x=true)->∀ o∈r.fam a Ls,O.clos dom o=true
 closA:∀ a dom Ls,Ls.length=r.m->(∀ x∈Ls,dom x=true)->D.closL dom (r.args a Ls)=true
 det:∀ a b,r.ok a->r.ok b->r.fam a (LR r.m)=r.fam b (LR r.m)->r.args a (LR r.m)=r.args b (LR r.m)->r.val a=r.val b
 vcl:∀ a dom,D.clos dom (r.val a)=true
 vren:∀ a f,(r.val a).ren f=r.val a
variable {α:Type}
noncomputable def Ro.c(r:Ro α):CSpec where
 pre:=fun os ds=>∃ a,r.ok a/\os=r.fam a (LR r.m)/\ds=r.args a (LR r.m)
 out:=fun os ds=>⟨[],[],by classical exact if h:∃ a,r.ok a/\os=r.fam a (LR r.m)/\ds=r.args a (LR r.m)then r.val h.choose else .any⟩
theorem Ro.c_out{r:Ro α}(hr:r.Ok){a:α}(ha:r.ok a):r.c.out (r.fam a (LR r.m)) (r.args a (LR r.m))=⟨[],[],r.val a⟩:=by
 have h:∃ b,r.ok b/\r.fam a (LR r.m)=r.fam b (LR r.m)/\r.args a (LR r.m)=r.args b (LR r.m):=⟨a,ha,rfl,rfl⟩
 have e:r.val h.choose=r.val a:=(hr.det _ _ ha h.choose_spec.1 h.choose_spec.2.1 h.choose_spec.2.2).symm
 simp only[Ro.c]
 rw[dif_pos h,e]
theorem Ro.c_app{r:Ro α}(hr:r.Ok){a:α}(ha:r.ok a){obj:Name->Option O}{t:Name}{Ls:List Name}(hl:Ls.length=r.m)(hn:Ls.Nodup)(hF:cD obj Ls (r.fam a Ls)):
 r.c.toSpec.app obj t (r.args a Ls)=⟨True,r.val a,obj⟩:=by
 have iO:=hr.reach a Ls obj hl hn hF
 have qu:Ls.map (cin Ls)=LR r.m:=by rw[yz hn,hl]
 have e1:cb obj (r.args a Ls)=r.fam a (LR r.m):=by
  unfold cb
  rw[iO]
  have lX:=hF
  rw[jE]at lX
  have :Ls.map (ck Ls obj)=(r.fam a Ls).map (O.ren (cin Ls)):=by
   refine List.ext_getElem (by simp[hr.len _ _ hl,hl]) fun i h1 h2=>?_
   have h3:i<Ls.length:=by simpa using h1
   have h4:i<(r.fam a Ls).length:=by rw[hr.len _ _ hl,<-hl];exact h3
   have h5:=congrArg (fun l=>l[i]?) lX
   have h6:obj Ls[i]=some (r.fam a Ls)[i]:=by simpa[h3,h4]using h5
   simp only[List.getElem_map,ck,h6]
  rw[this,hr.renF _ _ _ hl,qu]
 have e2:cH obj (r.args a Ls)=r.args a (LR r.m):=by
  unfold cH
  rw[iO,hr.renA _ _ _ hl,qu]
 have jm:∀ x∈Ls,cE Ls x=true:=fun x hx=>fD.2 hx
 have iM:shut obj Ls=true:=by
  unfold shut
  rw[List.all_eq_true]
  intro x hx
  obtain⟨i,hi,rfl⟩:=List.getElem_of_mem hx
  have lX:=hF
  rw[jE]at lX
  have h4:i<(r.fam a Ls).length:=by rw[hr.len _ _ hl,<-hl];exact hi
  have h5:=congrArg (fun l=>l[i]?) lX
  have h6:obj Ls[i]=some (r.fam a Ls)[i]:=by simpa[hi,h4]using h5
  rw[h6]
  exact hr.closF _ _ _ hl jm _ (List.getElem_mem h4)
 have dn:r.c.pre (r.fam a (LR r.m)) (r.args a (LR r.m)):=⟨a,ha,rfl,rfl⟩
 simp only[CSpec.toSpec,e1,e2,iO,Ro.c_out hr ha,iM,hr.closA _ _ _ hl jm,fresh,List.all_nil,Bool.and_self,dn,and_self,cV,cf,hr.vren]
def EV(P:Program)(rs:List ResultVar)(v:D)(H:Name->Option O)(e:Exit)(σ:S):Prop:=
 (e=.normal\/e=.ret)/\(bF P σ rs).ok/\(bF P σ rs).d=v/\∀ i,σ.obj [i,1]=H [i,1]
theorem Aq{σ:S}:∀ {os:List O} {k:Nat},(∀ i (h:i<os.length),σ.obj [k+i,1]=some os[i])->pP σ [] k os
 |[],_,_=>trivial
 |o::r,k,h=>by
  refine⟨by have:=h 0 (by simp);simp only[Nat.add_zero,List.getElem_cons_zero]at this;exact this,Aq fun i hi=>?_⟩
  have :=h (i+1) (by simpa using hi)
  rw[show k+1+i=k+(i+1)by omega]
  simpa using this
theorem Ro.sound{P:Program}{r:Ro α}(hr:r.Ok){f:FuncId}{fn:Func}{nt:Nat}{rs:List ResultVar}(hf:P.funcs[f]?=some fn)(cG:fn.ntmps=nt)(bW:fn.results.toList=rs)(hn:(fn.name== "runtime.NumGoroutine")=false)(hy:f<1000000000)
 (hw:∃ c,fn.body=some c/\∀ a,r.ok a->(r.args a (LR r.m)).length<=nt/\CL P [c] (ba nt [0] (aS (r.fam a (LR r.m))) (cN 0 (r.args a (LR r.m))) []) (EV P rs (r.val a) (aS (r.fam a (LR r.m))))):aL P f r.c.toSpec:=by
 obtain⟨c,hc,hw⟩:=hw
 refine mM hf hc cG bW (gK hf hc hn) (Nat.ne_of_lt (show f<yid from hy)) ?_
 rintro os ds ⟨a,ha,rfl,rfl⟩
 obtain⟨hl,h⟩:=hw a ha
 refine⟨hl,?_⟩
 rw[Ro.c_out hr ha]
 refine CW.mono (il h) ?_
 rintro e σ ⟨he,h1,h2,h3⟩
 have fin:(bF P σ rs).ok/\(bF P σ rs).d=r.val a/\ft (r.fam a (LR r.m)) ⟨[],[],r.val a⟩ σ:=by
  refine⟨h1,h2,Aq fun i hi=>?_,trivial,?_⟩
  ·rw[Nat.zero_add,h3]
   show (r.fam a (LR r.m))[i]?=_
   rw[List.getElem?_eq_getElem hi]
  ·simp[hr.vcl,distinct]
 rcases he with rfl | rfl
 ·exact fin
 ·exact fin
theorem Ro.outC{r:Ro α}(hr:r.Ok)(a:α):∀ hs,bP [0] (bL [0] hs) (aS (r.fam a (LR r.m)))=True:=fun hs=>eq_true (nj (fun o ho dom hd=>hr.closF a dom _ (mV _) (fun x hx=>by
 obtain⟨i,_,rfl⟩:=List.mem_map.1 hx
 exact hd i) o ho) hs)
set_option maxHeartbeats 8000000
set_option maxRecDepth 10000
noncomputable section
attribute [go_sem] EV
theorem tT{Ls:List Name}(h:Ls.length=4):∃ a b c d,Ls=[a,b,c,d]:=by
 match Ls,h with
 |[a,b,c,d],_=>exact⟨a,b,c,d,rfl⟩
def jq(x:Vw)(nr nb nd:Name):O:=.box [.v (ie x.l),.v (.sl (x.rs.map encR)),.msl nr x.ts.length,.map nb,.map nd]
def o6(x:Vw)(Ls:List Name):List O:=[jq x (Ls.getD 1 []) (Ls.getD 2 []) (Ls.getD 3 []),.arr 1 (x.ts.map vInt),.map 2 (bH x.bk),.map 0 (bz x.ds)]
theorem Vj{x y:Vw}{a b c:Name}(h:jq x a b c=jq y a b c):x.rs=y.rs:=by
 simp only[jq,O.box.injEq,List.cons.injEq,D.v.injEq,V.sl.injEq]at h
 have :=congrArg (List.map jt) h.2.1
 rwa [yn,yn]at this
def iD:Ro (Vw×Int) where
 m:=4
 fam:=fun a Ls=>o6 a.1 Ls
 args:=fun a Ls=>[.ref (Ls.getD 0 []) 0,.v (vInt a.2)]
 ok:=fun _=>True
 val:=fun a=>.tup [lu (dC a.1.rs a.2),.v (.bool (dC a.1.rs a.2).isSome)]
theorem Pc(o:Option Rec)(f:Name->Name):(lu o).ren f=lu o:=by cases o<;>rfl
theorem Ae:iD.Ok where
 len:=fun _ _ _=>rfl
 renF:=fun a f Ls h=>by obtain⟨a,b,c,d,rfl⟩:=tT h;rfl
 renA:=fun a f Ls h=>by obtain⟨a,b,c,d,rfl⟩:=tT h;rfl
 reach:=fun x Ls obj h b9 hF=>by
  obtain⟨a,b,c,d,rfl⟩:=tT h
  obtain⟨h1,h2,h3,h4,_⟩:=hF
  have en:cI (iD.args x [a,b,c,d])=[a]:=rfl
  unfold Go.Eng.reach
  rw[en]
  show cY obj (2993+1+1+1+1+1+1+1) _ []=_
  simp only[List.nodup_cons,List.mem_cons,List.not_mem_nil,or_false,not_or,not_false_eq_true,List.nodup_nil,and_true]at b9
  obtain⟨⟨a1,a2,a3⟩,⟨b1,b2⟩,c1⟩:=b9
  simp[cY,fD,h1,h2,h3,h4,kx,cI,ky,jq,Ne.symm a1,Ne.symm a2,Ne.symm a3,Ne.symm b1,Ne.symm b2,Ne.symm c1]
 closF:=fun x dom Ls h hd o ho=>by
  obtain⟨a,b,c,d,rfl⟩:=tT h
  have h1:=hd b (by simp)
  have h2:=hd c (by simp)
  have h3:=hd d (by simp)
  simp only[iD,o6,List.mem_cons,List.not_mem_nil,or_false]at ho
  rcases ho with rfl | rfl | rfl | rfl<;>simp[O.clos,D.closL,D.clos,jq,h1,h2,h3]
 closA:=fun x dom Ls h hd=>by
  obtain⟨a,b,c,d,rfl⟩:=tT h
  have h1:=hd a (by simp)
  simp[iD,D.closL,D.clos,h1]
 det:=fun a b _ _ h1 h2=>by
  have e1:a.1.rs=b.1.rs:=Vj (List.cons.inj h1).1
  have e2:a.2=b.2:=by
   have :=(List.cons.inj (List.cons.inj h2).2).1
   simpa[vInt]using this
  simp only[iD,e1,e2]
 vcl:=fun a dom=>by simp[iD,D.clos,D.closL,km]
 vren:=fun a f=>by simp[iD,D.ren,D.renL,Pc]
def S77m:Spec:=iD.c.toSpec
theorem Sn:aL Tryz.prog 77 S77m:=by
 refine Ro.sound Ae (rs:=[.cell 4 36,.tmp 5]) Tryz.func77 Tryz.ntmps77 (by rfl) (by kernel_rfl) (by decide) ⟨_,rfl,?_⟩
 rintro⟨x,s⟩ _
 refine⟨lb rfl,?_⟩
 have hΓ:=Mi
 have hO:=Ro.outC Ae (x,s)
 have h0:aS (iD.fam (x,s) (LR iD.m)) [0,1]=some (jq x [1,1] [2,1] [3,1]):=rfl
 generalize aS (iD.fam (x,s) (LR iD.m))=H at *
 have ha:iD.args (x,s) (LR iD.m)=[.ref [0,1] 0,.v (vInt s)]:=rfl
 have hv:iD.val (x,s)=.tup [lu (dC x.rs s),.v (.bool (dC x.rs s).isSome)]:=rfl
 rw[ha,hv]
 simp only[jq,cN,Nat.zero_add]at h0 |-
 repeat refine sq ?_
 refine rx hΓ [0,3,4] [[3,0],[4,0]] (fun K' hK=>by simp only[go_sem,hO,h0];(repeat (refine⟨ak,?_⟩));exact hK _ (by simp only[go_sem,hO,h0]) (by simp only[go_sem,hO,h0]<;>rfl)) ?_
 repeat refine sq ?_
 refine rx hΓ [0,4,6] [[4,0]] (fun K' hK=>by simp only[go_sem,hO,h0,true_or,or_true];(repeat (refine⟨ak,?_⟩));exact hK _ (by simp only[go_sem,hO,h0,true_or,or_true]) (by simp only[go_sem,hO,h0,true_or,or_true]<;>rfl)) ?_
 repeat refine sq ?_
 refine rx hΓ [0,4,6,14] [[4,0]] (fun K' hK=>by simp only[go_sem,hO,h0];(repeat (refine⟨ak,?_⟩));exact hK _ (by simp only[go_sem,hO,h0]) (by simp only[go_sem,hO,h0]<;>rfl)) ?_
 repeat refine sq ?_
 refine aB (fun hb=>?_) fun hb=>?_
 ·repeat refine sq ?_
  have e:dC x.rs s=none:=Fh (by simpa using hb)
  repeat refine sq ?_
  refine rx hΓ [4,5] [[4,0]] (fun K' hK=>by simp only[go_sem,hO,h0];(repeat (refine⟨ak,?_⟩));exact hK _ (by simp only[go_sem,hO,h0]) (by simp only[go_sem,hO,h0]<;>rfl)) ?_
  refine ay ?_
  simp only[go_sem,hO,h0]
  rw[e];exact⟨.inr trivial,rfl⟩
 ·repeat refine sq ?_
  obtain⟨i,hi,e1,e⟩:=Fg (by simpa using hb)
  have bu:(i:Int)<x.rs.length:=by omega
  rw[e1]
  refine aG ?_
  repeat refine sq ?_
  refine rx hΓ [4,5] [[4,0]] (fun K' hK=>by simp only[go_sem,hO,h0,ah hi,ai,aj,bu];(repeat (refine⟨ak,?_⟩));exact hK _ (by simp only[go_sem,hO,h0,ah hi,ai,aj,bu]) (by simp only[go_sem,hO,h0,ah hi,ai,aj,bu]<;>rfl)) ?_
  refine ay ?_
  simp only[go_sem,hO,h0]
  rw[e];exact⟨.inr trivial,rfl⟩
def ly(r:Rec):V:=.ptr [vInt r.so,vInt r.bo,vInt r.pa,.sl (r.lv.map vInt),vInt r.da,vInt r.kn,vInt r.un]
theorem Fo{a b:Rec}(h:ly a=ly b):a=b:=by
 refine Ff ?_
 obtain⟨a1,a2,a3,al,a4,a5,a6⟩:=a
 obtain⟨b1,b2,b3,bl,b4,b5,b6⟩:=b
 simp only[ly,V.ptr.injEq,List.cons.injEq,and_true]at h
 simp only[fz,D.agg.injEq,List.cons.injEq,D.v.injEq,and_true]
 exact h
def gy(bk:Bk)(r:Rec)(f:Int):Bool:=(bt bk (r.so,f)).isSome||!r.lv.contains f
def ry{β:Type}(ar:β->Rec->Name->List D)(ok:β->Prop)(val:Bk->Rec->β->V):Ro (Vw×Rec×β) where
 m:=5
 fam:=fun a Ls=>.box [.ref (Ls.getD 1 []) 0]::o6 a.1 (Ls.drop 1)
 args:=fun a Ls=>ar a.2.2 a.2.1 (Ls.getD 0 [])
 ok:=fun a=>ok a.2.2
 val:=fun a=>.v (val a.1.bk a.2.1 a.2.2)
theorem D3{β:Type}{ar:β->Rec->Name->List D}{ok:β->Prop}{val:Bk->Rec->β->V}(h1:∀ b r n,cI (ar b r n)=[n])(h2:∀ f b r n,D.renL f (ar b r n)=ar b r (f n))(h3:∀ dom b r n,dom n=true->D.closL dom (ar b r n)=true)
 (h4:∀ b r b' r' n,ar b r n=ar b' r' n->b=b'/\r=r'):(ry ar ok val).Ok where
 len:=fun _ _ _=>rfl
 renF:=fun a f Ls h=>by obtain⟨a,b,c,d,e,rfl⟩:=jH h;rfl
 renA:=fun a f Ls h=>by obtain⟨a,b,c,d,e,rfl⟩:=jH h;exact h2 _ _ _ _
 reach:=fun x Ls obj h b9 hF=>by
  obtain⟨a,b,c,d,e,rfl⟩:=jH h
  obtain⟨k1,k2,k3,k4,k5,_⟩:=hF
  have en:cI ((ry ar ok val).args x [a,b,c,d,e])=[a]:=h1 _ _ _
  unfold Go.Eng.reach
  rw[en]
  show cY obj (2993+1+1+1+1+1+1+1) _ []=_
  simp only[List.nodup_cons,List.mem_cons,List.not_mem_nil,or_false,not_or,not_false_eq_true,List.nodup_nil,and_true]at b9
  obtain⟨⟨a1,a2,a3,a4⟩,⟨b1,b2,b3⟩,⟨c1,c2⟩,d1⟩:=b9
  simp[cY,fD,k1,k2,k3,k4,k5,kx,cI,ky,jq,Ne.symm a1,Ne.symm a2,Ne.symm a3,Ne.symm a4,Ne.symm b1,Ne.symm b2,Ne.symm b3,Ne.symm c1,Ne.symm c2,Ne.symm d1]
 closF:=fun x dom Ls h hd o ho=>by
  obtain⟨a,b,c,d,e,rfl⟩:=jH h
  have h1:=hd b (by simp)
  have h2:=hd c (by simp)
  have h3:=hd d (by simp)
  have h4:=hd e (by simp)
  simp only[ry,o6,List.drop_succ_cons,List.drop_zero,List.mem_cons,List.not_mem_nil,or_false]at ho
  rcases ho with rfl | rfl | rfl | rfl | rfl<;>simp[O.clos,D.closL,D.clos,jq,h1,h2,h3,h4]
 closA:=fun x dom Ls h hd=>by
  obtain⟨a,b,c,d,e,rfl⟩:=jH h
  exact h3 _ _ _ _ (hd a (by simp))
 det:=fun a b _ _ k1 k2=>by
  have e1:a.1.bk=b.1.bk:=by
   have :=(List.cons.inj (List.cons.inj (List.cons.inj (List.cons.inj k1).2).2).2).1
   simp only[O.map.injEq,true_and]at this
   have :=congrArg yr this
   rwa [C2,C2]at this
  obtain⟨e2,e3⟩:=h4 _ _ _ _ _ k2
  simp only[ry,e1,e2,e3]
 vcl:=fun _ _=>rfl
 vren:=fun _ _=>rfl
def tkRo:Ro (Vw×Rec×Int):=ry (fun f r n=>[.v (vInt f),.ref n 0,.v (ly r)]) (fun _=>True) (fun bk r f=>.bool (gy bk r f))
theorem zB:tkRo.Ok:=D3 (fun _ _ _=>rfl) (fun _ _ _ _=>rfl) (fun dom b r n h=>by simp[D.closL,D.clos,h]) (fun b r b' r' n h=>by
 simp only[List.cons.injEq,D.v.injEq,and_true,true_and]at h
 exact⟨by simpa[vInt]using h.1,Fo h.2⟩)
def S163m:Spec:=tkRo.c.toSpec
def K28a:List (Nat×Spec):=[(108,vE)]
theorem Zf:KS K28a:=tc zW.sound<|tn
attribute [go_sem] K28a
theorem Ss:aL Tryz.prog 163 S163m:=by
 refine Ro.sound zB (rs:=[.tmp 4]) Tryz.func163 Tryz.ntmps163 (by rfl) (by kernel_rfl) (by decide) ⟨_,rfl,?_⟩
 rintro⟨x,r,f⟩ _
 refine⟨lb rfl,?_⟩
 have hΓ:=Zf
 have hP:=fB
 have hO:=Ro.outC zB (x,r,f)
 have h0:aS (tkRo.fam (x,r,f) (LR tkRo.m)) [0,1]=some (.box [.ref [1,1] 0]):=rfl
 have h1:aS (tkRo.fam (x,r,f) (LR tkRo.m)) [1,1]=some (jq x [2,1] [3,1] [4,1]):=rfl
 have h3:aS (tkRo.fam (x,r,f) (LR tkRo.m)) [3,1]=some (.map 2 (bH x.bk)):=rfl
 generalize aS (tkRo.fam (x,r,f) (LR tkRo.m))=H at *
 have ha:tkRo.args (x,r,f) (LR tkRo.m)=[.v (vInt f),.ref [0,1] 0,.v (ly r)]:=rfl
 have hv:tkRo.val (x,r,f)=.v (.bool (gy x.bk r f)):=rfl
 rw[ha,hv]
 simp only[jq,cN,Nat.zero_add,ly]at h1 |-
 repeat refine sq ?_
 refine rx hΓ [0,1,2] [] (fun K' hK=>by simp only[go_sem,hO,h0,h1,h3];(repeat (refine⟨ak,?_⟩));exact hK _ (by simp only[go_sem,hO,h0,h1,h3]) (by simp only[go_sem,hO,h0,h1,h3]<;>rfl)) ?_
 repeat refine sq ?_
 refine dx hΓ hP [[],[0],[0,1],[0,1,2],[],[4],[],[4,5,6],u8,u9,dI,dI,fO,pF] [0,2,6] [] (by kernel_rfl) (fun K' hK=>by simp only[go_sem,hO,h0,h1,h3,av];(repeat (refine⟨ak,?_⟩));(first | refine⟨by rfl,?_⟩ | skip);exact hK _ (by simp only[go_sem,hO,h0,h1,h3,av]) (by simp only[go_sem,hO,h0,h1,h3,av]<;>rfl)) ?_
 repeat refine sq ?_
 refine rx hΓ [4] [] (fun K' hK=>by simp only[go_sem,hO,h0,h1,h3];(repeat (refine⟨ak,?_⟩));exact hK _ (by simp only[go_sem,hO,h0,h1,h3]) (by simp only[go_sem,hO,h0,h1,h3]<;>rfl)) ?_
 refine ay ?_
 simp only[go_sem,hO,h0,h1,h3]
 exact⟨.inr trivial,by unfold gy;cases bt x.bk (r.so,f)<;>rfl⟩
def fZ(v:Bk->Rec->List Int->V):Ro (Vw×Rec×List Int):=ry (fun l r n=>[.v (.sl (l.map vInt)),.clo (.func 163) [] [.ref n 0,.v (ly r)]]) (fun l=>l.length<=maxLen) v
theorem sW(v:Bk->Rec->List Int->V):(fZ v).Ok:=D3 (fun _ _ _=>rfl) (fun _ _ _ _=>rfl) (fun dom b r n h=>by simp[D.closL,D.clos,h]) (fun b r b' r' n h=>by
 simp only[List.cons.injEq,D.v.injEq,D.clo.injEq,V.sl.injEq,and_true,true_and]at h
 refine⟨?_,Fo h.2⟩
 have :=congrArg (List.map iW) h.1
 rwa [pf,pf]at this)
def kz(bk:Bk)(r:Rec)(l:List Int):V:=vInt (db (gy bk r) l)
def kO(bk:Bk)(r:Rec)(l:List Int):V:=.bool (l.any (gy bk r))
def S192m:Spec:=(fZ kz).c.toSpec
def S160m:Spec:=(fZ kO).c.toSpec
def DX:FuncId->Option Spec:=fun f=>if f=163 then some S163m else none
theorem Ze:∀ f s,DX f=some s->aL Tryz.prog f s:=fun f s h=>by
 unfold DX at h
 split at h
 ·rename_i e;cases h;subst e;exact Ss
 ·cases h
theorem DW:DX 163=some S163m:=rfl
theorem Sq:aL Tryz.prog 192 S192m:=by
 refine Ro.sound (sW kz) (rs:=[.tmp 4]) Tryz.func192 Tryz.ntmps192 (by rfl) (by kernel_rfl) (by decide) ⟨_,rfl,?_⟩
 rintro⟨x,r,l⟩ hl
 replace hl:l.length<=maxLen:=hl
 refine⟨lb rfl,?_⟩
 have hΓ:=Ze
 have hO:=Ro.outC (sW kz) (x,r,l)
 have dO:cD (aS ((fZ kz).fam (x,r,l) (LR (fZ kz).m))) (LR 5) ((fZ kz).fam (x,r,l) (LR 5)):=⟨rfl,rfl,rfl,rfl,rfl,trivial⟩
 generalize aS ((fZ kz).fam (x,r,l) (LR (fZ kz).m))=H at *
 have nL:∀ (F:Name->Option O) (t:Name) (f:Int),S163m.app (fun nm=>if own [0] nm=true then F nm else H nm) t [.v (vInt f),.ref [0,1] 0,.v (ly r)]=⟨True,.v (.bool (gy x.bk r f)),fun nm=>if own [0] nm=true then F nm else H nm⟩:=fun F t f=>Ro.c_app zB (a:=(x,r,f)) trivial (t:=t) (obj:=fun nm=>if own [0] nm=true then F nm else H nm) (Ls:=LR 5) rfl (Me 5) (Au dO fun y hy=>by
  obtain⟨i,_,rfl⟩:=List.mem_map.1 hy
  simp[rX])
 have ha:(fZ kz).args (x,r,l) (LR (fZ kz).m)=[.v (.sl (l.map vInt)),.clo (.func 163) [] [.ref [0,1] 0,.v (ly r)]]:=rfl
 have hv:(fZ kz).val (x,r,l)=.v (vInt (db (gy x.bk r) l)):=rfl
 rw[ha,hv]
 simp only[cN,Nat.zero_add]
 repeat refine sq ?_
 refine rx hΓ [0,1] [] (fun K' hK=>by simp only[go_sem,hO];(repeat (refine⟨ak,?_⟩));exact hK _ (by simp only[go_sem,hO]) (by simp only[go_sem,hO]<;>rfl)) ?_
 repeat refine sq ?_
 refine rx hΓ [0,1,7,8] [] (fun K' hK=>by simp only[go_sem,hO];(repeat (refine⟨ak,?_⟩));exact hK _ (by simp only[go_sem,hO]) (by simp only[go_sem,hO]<;>rfl)) ?_
 repeat refine sq ?_
 refine aQ ?_
 repeat refine sq ?_
 refine cr (fun s:Nat=>[(8,⟨true,.v (vInt s)⟩)]) (fun s=>[]) (fun s=>s<=l.length/\∀ k (h:k<l.length),k<s->gy x.bk r l[k]=false) (fun s=>l.length-s) 0 ?_ ?_ ?_ ?_
 ·exact⟨Nat.zero_le _,by simp⟩
 ·rfl
 ·rfl
 rintro i ⟨hi,hR⟩
 simp only[go_sem]
 repeat refine sq ?_
 refine rx hΓ [0,1,7,8,9] [] (fun K' hK=>by simp only[go_sem,hO];(repeat (refine⟨ak,?_⟩));exact hK _ (by simp only[go_sem,hO]) (by simp only[go_sem,hO]<;>rfl)) ?_
 repeat refine sq ?_
 refine aB (fun hb=>?_) fun hb=>?_
 ·have ae:i<l.length:=by simpa using hb
  have au:(i:Int)<l.length:=by omega
  clear hb
  repeat refine sq ?_
  refine aG ?_
  repeat refine sq ?_
  refine aQ ?_
  repeat refine sq ?_
  refine rx hΓ [0,1,5,7,8] [] (fun K' hK=>by simp only[go_sem,hO,ah ae,ai,aj,au];(repeat (refine⟨ak,?_⟩));exact hK _ (by simp only[go_sem,hO,ah ae,ai,aj,au]) (by simp only[go_sem,hO,ah ae,ai,aj,au]<;>rfl)) ?_
  repeat refine sq ?_
  refine rx hΓ [0,1,5,7,8,16] [] (fun K' hK=>by simp only[go_sem,hO,ah ae,ai,aj,au,DW,nL];(repeat (refine⟨ak,?_⟩));exact hK _ (by simp only[go_sem,hO,ah ae,ai,aj,au,DW,nL]) (by simp only[go_sem,hO,ah ae,ai,aj,au,DW,nL]<;>rfl)) ?_
  repeat refine sq ?_
  refine aB (fun hb=>?_) fun hb=>?_
  ·repeat refine sq ?_
   refine rx hΓ [4] [] (fun K' hK=>by simp only[go_sem,hO,ah ae,ai,aj,au];(repeat (refine⟨ak,?_⟩));exact hK _ (by simp only[go_sem,hO,ah ae,ai,aj,au]) (by simp only[go_sem,hO,ah ae,ai,aj,au]<;>rfl)) ?_
   refine ay ?_
   simp only[go_sem,hO]
   rw[p0 (p:=gy x.bk r) ae (by simpa using hb) hR];exact⟨.inr trivial,rfl⟩
  ·repeat refine sq ?_
   refine aG ?_
   refine bV ?_
   simp only[go_sem]
   refine eg [0,1,7,8] [] ?_ ?_
   ·simp only[go_sem,hO]
   simp only[go_sem,hO]
   repeat refine sq ?_
   refine aY hΓ fun K' hK=>?_
   simp only[go_sem,hO,ah ae,ai,aj,au]
   repeat (refine⟨ak,?_⟩)
   refine hK _ ?_
   clear K' hK
   simp only[go_sem]
   refine⟨i+1,⟨ae,?_⟩,by(show l.length-(i+1)<l.length-i;omega),?_⟩
   ·intro k hk dY
    rcases Nat.lt_succ_iff_lt_or_eq.1 dY with h5 | rfl
    ·exact hR k hk h5
    ·simpa using hb
   refine bq [0,1,7,8] [] ?_ ?_<;>simp only[go_sem,be ae hl,bj,hO]
 ·have bw:i=l.length:=by
   have :¬ (i:Int)<l.length:=by simpa using hb
   omega
  clear hb
  subst bw
  repeat refine sq ?_
  refine bM ?_
  simp only[go_sem]
  refine eg [] [] ?_ ?_
  ·simp only[go_sem,hO]
  simp only[go_sem,hO]
  repeat refine sq ?_
  refine rx hΓ [4] [] (fun K' hK=>by simp only[go_sem,hO];(repeat (refine⟨ak,?_⟩));exact hK _ (by simp only[go_sem,hO]) (by simp only[go_sem,hO]<;>rfl)) ?_
  refine ay ?_
  simp only[go_sem,hO]
  rw[uo (p:=gy x.bk r) fun k hk=>hR k hk hk];exact⟨.inr trivial,rfl⟩
def DV:FuncId->Option Spec:=fun f=>if f=192 then some S192m else none
theorem Zd:∀ f s,DV f=some s->aL Tryz.prog f s:=fun f s h=>by
 unfold DV at h
 split at h
 ·rename_i e;cases h;subst e;exact Sq
 ·cases h
theorem DU:DV 192=some S192m:=rfl
theorem Su:aL Tryz.prog 160 S160m:=by
 refine Ro.sound (sW kO) (rs:=[.tmp 4]) Tryz.func160 Tryz.ntmps160 (by rfl) (by kernel_rfl) (by decide) ⟨_,rfl,?_⟩
 rintro⟨x,r,l⟩ hl
 replace hl:l.length<=maxLen:=hl
 refine⟨lb rfl,?_⟩
 have hΓ:=Zd
 have hO:=Ro.outC (sW kO) (x,r,l)
 have dO:cD (aS ((fZ kO).fam (x,r,l) (LR (fZ kO).m))) (LR 5) ((fZ kO).fam (x,r,l) (LR 5)):=⟨rfl,rfl,rfl,rfl,rfl,trivial⟩
 generalize aS ((fZ kO).fam (x,r,l) (LR (fZ kO).m))=H at *
 have nL:∀ (F:Name->Option O) (t:Name),S192m.app (fun nm=>if own [0] nm=true then F nm else H nm) t [.v (.sl (l.map vInt)),.clo (.func 163) [] [.ref [0,1] 0,.v (ly r)]]=⟨True,.v (vInt (db (gy x.bk r) l)),fun nm=>if own [0] nm=true then F nm else H nm⟩:=fun F t=>Ro.c_app (sW kz) (a:=(x,r,l)) hl (t:=t) (obj:=fun nm=>if own [0] nm=true then F nm else H nm) (Ls:=LR 5) rfl (Me 5) (Au dO fun y hy=>by
  obtain⟨i,_,rfl⟩:=List.mem_map.1 hy
  simp[rX])
 have ha:(fZ kO).args (x,r,l) (LR (fZ kO).m)=[.v (.sl (l.map vInt)),.clo (.func 163) [] [.ref [0,1] 0,.v (ly r)]]:=rfl
 have hv:(fZ kO).val (x,r,l)=.v (.bool (l.any (gy x.bk r))):=rfl
 rw[ha,hv]
 simp only[cN,Nat.zero_add]
 repeat refine sq ?_
 refine rx hΓ [0,1] [] (fun K' hK=>by simp only[go_sem,hO];(repeat (refine⟨ak,?_⟩));exact hK _ (by simp only[go_sem,hO]) (by simp only[go_sem,hO]<;>rfl)) ?_
 repeat refine sq ?_
 refine rx hΓ [4] [] (fun K' hK=>by simp only[go_sem,hO,DU,nL,uq];(repeat (refine⟨ak,?_⟩));exact hK _ (by simp only[go_sem,hO,DU,nL,uq]) (by simp only[go_sem,hO,DU,nL,uq]<;>rfl)) ?_
 refine ay ?_
 simp only[go_sem,hO]
 first | exact .inr trivial | exact⟨.inr trivial,rfl⟩
end
theorem WM(b:Bk)(q p:Int×Int)(i:Int):bt (pq b q i) p=if q=p then some i else bt b p:=by
 induction b with
 |nil=>rfl
 |cons e r ih=>
  obtain⟨k,j⟩:=e
  simp only[pq]
  by_cases h:k=q
  ·rw[if_pos h]
   subst h
   simp only[bt]
   split<;>rfl
  ·rw[if_neg h]
   simp only[bt,ih]
   by_cases h2:k=p
   ·subst h2
    rw[if_pos rfl,if_pos rfl,if_neg (fun e=>h e.symm)]
   ·rw[if_neg h2,if_neg h2]
theorem yE(so i:Int)(lv:List Int)(b:Bk)(s f:Int):bt (n7 b so i lv) (s,f)=if s=so/\f∈lv then some i else bt b (s,f):=by
 induction lv generalizing b with
 |nil=>simp[n7]
 |cons a r ih=>
  show bt (n7 (pq b (so,a) i) so i r) (s,f)=_
  rw[ih,WM]
  by_cases h1:s=so
  ·subst h1
   by_cases h2:f∈r
   ·simp[h2]
   ·by_cases h3:a=f
    ·subst h3;simp[h2]
    ·have h4:¬ f=a:=fun e=>h3 e.symm
     simp[h2,h3,h4]
  ·have h4:¬ (so,a)=(s,f):=fun e=>h1 (by cases e;rfl)
   simp[h1,h4]
theorem F0{k:Int}{rs:List Rec}{bk:Bk}{x:Ret}{r:Rec}(h:eH k rs bk x=some r):dC rs x.re=some r/\cQ x.kn x.un k=true/\¬ dk x.lo (r.da+1)>x.hi/\x.lv.any (gy bk r)=false:=by
 unfold eH at h
 split at h
 ·cases h
 ·rename_i q hq
  split at h
  ·rename_i hc
   cases h
   simp only[Bool.and_eq_true,Bool.not_eq_true',Bool.or_eq_false_iff,decide_eq_false_iff_not]at hc
   exact⟨hq,hc.1,hc.2.1,hc.2.2⟩
  ·cases h
theorem PX{k:Int}{rs:List Rec}{bk:Bk}{x:Ret}(h:dC rs x.re=none):eH k rs bk x=none:=by
 unfold eH;rw[h]
theorem PW{k:Int}{rs:List Rec}{bk:Bk}{x:Ret}{r:Rec}(h:dC rs x.re=some r)(hc:cQ x.kn x.un k=false):eH k rs bk x=none:=by
 unfold eH;rw[h];simp[hc]
theorem PV{k:Int}{rs:List Rec}{bk:Bk}{x:Ret}{r:Rec}(h:dC rs x.re=some r)(hc:(decide (dk x.lo (r.da+1)>x.hi)||x.lv.any (gy bk r))=true):eH k rs bk x=none:=by
 unfold eH;rw[h]
 have gE:(decide (dk x.lo (r.da+1)>x.hi)||x.lv.any fun f=>(bt bk (r.so,f)).isSome||!r.lv.contains f)=true:=hc
 simp only[gE,Bool.not_true,Bool.and_false,Bool.false_eq_true,if_false]
theorem PU{k:Int}{rs:List Rec}{bk:Bk}{x:Ret}{r:Rec}(h:dC rs x.re=some r)(h1:cQ x.kn x.un k=true)(hc:(decide (dk x.lo (r.da+1)>x.hi)||x.lv.any (gy bk r))=false):eH k rs bk x=some r:=by
 unfold eH;rw[h]
 have gE:(decide (dk x.lo (r.da+1)>x.hi)||x.lv.any fun f=>(bt bk (r.so,f)).isSome||!r.lv.contains f)=false:=hc
 simp only[gE,h1,Bool.not_false,Bool.and_true,if_true]
theorem oJ{l:Led}{k:Int}{i:Nat}(h:eH k (bB l k) (aw l k i).bk (aI l i)=none):aw l k (i+1)=aw l k i:=by
 show oK l k (aw l k i) i=_
 unfold oK
 rw[(pU l k i).2,h]
theorem ub{l:Led}{k:Int}{i:Nat}{r:Rec}(h:eH k (bB l k) (aw l k i).bk (aI l i)=some r):aw l k (i+1)=
 { aw l k i with bk:=n7 (aw l k i).bk r.so i (aI l i).lv,ts:=(aw l k i).ts++[(i:Int)],ds:=jW (aw l k i).ds i (dk (aI l i).lo (r.da+1),(aI l i).hi) }:=by
 show oK l k (aw l k i) i=_
 have h':eH k (aw l k i).rs (aw l k i).bk (aI l i)=some r:=by rw[(pU l k i).2];exact h
 unfold oK
 rw[h']
structure X3 (l:Led) (k:Int) (i:Nat):Prop where
 bk:∀ q j,bt (aw l k i).bk q=some j->0<=j/\j<l.ts.length
 tn:(aw l k i).ts.length<=i
 ts:∀ j∈(aw l k i).ts,(0<=j/\j<l.ts.length)/\∃ r,dC (bB l k) (aI l j.toNat).re=some r
theorem wY(l:Led)(k:Int):∀ i,i<=l.ts.length->X3 l k i
 | 0,_=>⟨fun q j (h:none=some j)=>(by cases h),Nat.le_refl 0,fun j (h:j∈([]:List Int))=>(by cases h)⟩
 |i+1,hi=>by
  have ih:=wY l k i (by omega)
  cases hn:eH k (bB l k) (aw l k i).bk (aI l i)with
  |none=>
   have e:=oJ hn
   exact⟨by rw[e];exact ih.bk,by rw[e];exact Nat.le_succ_of_le ih.tn,by rw[e];exact ih.ts⟩
  |some r=>
   have e:=ub hn
   refine⟨?_,?_,?_⟩
   ·rintro⟨s,f⟩ j h
    rw[e]at h
    simp only[yE]at h
    split at h
    ·cases h;omega
    ·exact ih.bk _ _ h
   ·rw[e]
    have :=ih.tn
    simp;omega
   ·intro j hj
    rw[e]at hj
    rcases List.mem_append.1 hj with hj | hj
    ·exact ih.ts j hj
    ·simp only[List.mem_singleton]at hj
     subst hj
     exact⟨by omega,r,by rw[Int.toNat_natCast];exact(F0 hn).1⟩
theorem Fi{rs:List Rec}{s:Int}{r:Rec}(h:dC rs s=some r):r∈rs/\r.so=s:=by
 unfold dC at h
 exact⟨List.mem_of_find?_eq_some h,by simpa using List.find?_some h⟩
theorem Ab{l:Led}(h:b7 l)(k:Int):∀ r∈bB l k,dK r=true:=fun r hr=>h.recs r ((List.mem_filter.1 hr).1)
theorem E7{l:Led}(h:b7 l)(k:Int):(bB l k).length<=60:=Nat.le_trans (List.length_filter_le _ _) h.rsn
theorem E6{l:Led}(h:b7 l)(k:Int):(bB l k).Nodup:=by
 refine List.Nodup.sublist List.filter_sublist ?_
 have hs:srt Rec.so l.rs:=wH (j7.1 h.rs)
 rw[List.nodup_iff_pairwise_ne,List.pairwise_iff_getElem]
 intro i j hi hj fb e
 have :=hs i j hi hj fb
 rw[e]at this
 omega
theorem nw{l:Led}(h:b7 l)(k:Int):l9 (aC l k)/\(aC l k).rs.Nodup:=by
 have hk:=wY l k l.ts.length (Nat.le_refl _)
 obtain⟨e1,e2⟩:=pU l k l.ts.length
 refine⟨⟨?_,?_,?_,?_,?_,?_⟩,?_⟩
 ·show b7 (aw l k l.ts.length).l;rw[e1];exact h
 ·show ∀ q i,bt (aw l k l.ts.length).bk q=some i->0<=i/\i<(aw l k l.ts.length).l.ts.length
  rw[e1];exact hk.bk
 ·show ∀ r∈(aw l k l.ts.length).rs,_;rw[e2];exact Ab h k
 ·show (aw l k l.ts.length).rs.length<=60;rw[e2];exact E7 h k
 ·exact Nat.le_trans hk.tn h.tsn
 ·show ∀ i∈(aw l k l.ts.length).ts,0<=i/\i<(aw l k l.ts.length).l.ts.length
  rw[e1];exact fun i hi=>(hk.ts i hi).1
 ·show (aw l k l.ts.length).rs.Nodup;rw[e2];exact E6 h k
noncomputable section
theorem J3{α:Type}{p:α->Bool}{l:List α}{i:Nat}(h:i<l.length):((l.take (i+1)).filter p)=(l.take i).filter p++(if p l[i]=true then[l[i]]else[]):=tp h
def s8:FuncId->Option Spec:=fun f=>if f=77 then some S77m else if f=160 then some S160m else if f=162 then some S162 else if f=164 then some S164 else none
theorem Zc:∀ f s,s8 f=some s->aL Tryz.prog f s:=fun f s h=>by
 unfold s8 at h
 split at h
 ·rename_i e;cases h;subst e;exact Sn
 ·split at h
  ·rename_i e;cases h;subst e;exact Su
  ·split at h
   ·rename_i e;cases h;subst e;exact Ik
   ·split at h
    ·rename_i e;cases h;subst e;exact Be
    ·cases h
@[go_sem] theorem adK:s8 77=some S77m:=rfl
@[go_sem] theorem adN:s8 160=some S160m:=rfl
@[go_sem] theorem adM:s8 162=some S162:=rfl
@[go_sem] theorem adL:s8 164=some S164:=rfl
def ln(l:Led)(k:Int)(s:Nat):List Rec:=(l.rs.take s).filter fun r=>cQ r.kn r.un k
theorem OW(l:Led)(k:Int):ln l k l.rs.length=bB l k:=by unfold ln bB;rw[List.take_length]
theorem OT{l:Led}{k:Int}{i:Nat}(h:i<l.rs.length)(hc:cQ l.rs[i].kn l.rs[i].un k=true):ln l k (i+1)=ln l k i++[l.rs[i]]:=by
 unfold ln;rw[J3 h,if_pos hc]
theorem OU{l:Led}{k:Int}{i:Nat}(h:i<l.rs.length)(hc:cQ l.rs[i].kn l.rs[i].un k=false):ln l k (i+1)=ln l k i:=by
 unfold ln;rw[J3 h,if_neg (by rw[hc];decide)];simp
theorem OV(l:Led)(k:Int)(i:Nat):(ln l k i).length<=l.rs.length:=Nat.le_trans (List.length_filter_le _ _) (by simp;omega)
attribute [go_sem] cD
def K29b:List (Nat×Spec):=[(77,S77),(164,S164),(165,S165)]
theorem Zb:KS K29b:=tc Ij<|tc Be<|tc Bd<|tn
attribute [go_sem] K29b
theorem Qr(l:Led)(k i j:Int)(n:Nat)(x:Vw)(r:Rec)(lv:List Int):zp (gz l k i j n x r lv) (iX 4 r.pa lv) where
 ren:=fun f Ls h=>by obtain⟨a,b,c,d,e,rfl⟩:=jH h;rfl
 clo:=fun dom Ls h hd=>by
  obtain⟨a,b,c,d,e,rfl⟩:=jH h
  have h4:=hd e (by simp)
  simp[D.closL,D.clos,h4,iX]
 reach:=fun Ls s obj R q h b9 hF h0=>by
  obtain⟨a,b,c,d,e,rfl⟩:=jH h
  obtain⟨h1,h2,h3,h4,h5,_⟩:=hF
  have en:cI (((gz l k i j n x r lv).env [a,b,c,d,e]).map (·.d))=[a,e]:=rfl
  have ec:cI (iX 4 r.pa lv [a,b,c,d,e])=[e]:=rfl
  rw[ec]
  show cY obj (q+90+1+1+1+1+1+1+1+1+1+1+1) _ []=_
  simp only[List.nodup_cons,List.mem_cons,List.not_mem_nil,or_false,not_or,not_false_eq_true,List.nodup_nil,and_true]at b9
  obtain⟨⟨r1,r2,r3,r4,r5⟩,⟨a1,a2,a3,a4⟩,⟨b1,b2,b3⟩,⟨c1,c2⟩,e1⟩:=b9
  simp[cY,fD,h0,h1,h2,h3,h4,h5,Lp.rc,kx,en,cI,ky,bp,Ne.symm r1,Ne.symm r2,Ne.symm r3,Ne.symm r4,Ne.symm r5,Ne.symm a1,Ne.symm a2,Ne.symm a3,Ne.symm a4,Ne.symm b1,Ne.symm b2,Ne.symm b3,Ne.symm c1,Ne.symm c2,Ne.symm e1]
theorem WN(b:Bk)(so i:Int){lv:List Int}{s:Nat}(h:s<lv.length):n7 b so i (lv.take (s+1))=pq (n7 b so i (lv.take s)) (so,lv[s]) i:=by
 unfold n7
 rw[List.take_add_one,List.getElem?_eq_getElem h,List.foldl_append]
 rfl
def zk:NSpec:=n2 lG iI (fun l _=>b7 l) (fun l k=>[([26,0],bp (aC l k) [23,0] [24,0]),([23,0],.map 2 (bH (aC l k).bk)),([24,0],.map 0 (bz (aC l k).ds))]) (fun _ _=>.ref [26,0] 0)
def S76:Spec:=zk.toSpec
attribute [go_sem] zk S76
set_option maxHeartbeats 16000000 in
theorem Bc:aL Tryz.prog 76 S76:=by
 refine Ay (nt:=181) (rs:=[.tmp 4]) Tryz.func76 rfl (by rfl) (by kernel_rfl) (by kernel_rfl) (by decide) ?_
 intro xs hp
 obtain⟨l,k,rfl,hp,et,er⟩:=AF hp
 replace et:zk.new _=_:=et
 replace er:zk.d _=_:=er
 rw[et,er]
 clear et er
 refine⟨lb rfl,?_⟩
 have hP:=fB
 simp only[iI,iB,ev,iP,iR,iT,iS,iL,lG,eM,iC,iF,cK,encR,c9,encS,fY,ie,List.map_cons,List.map_nil,cN,Nat.zero_add]
 have hΓ:=Zc
 have xH:l.rs.length<=maxLen:=by have:=hp.rsn;unfold maxLen;omega
 have lN:l.ts.length<=maxLen:=by have:=hp.tsn;unfold maxLen;omega
 repeat refine sq ?_
 refine rx hΓ [0,1] [] (fun K' hK=>by simp only[go_sem];exact ao) ?_
 repeat refine sq ?_
 refine rx hΓ [0,1,5] [[5,0],[23,0],[24,0],[26,0],[49,0],[124,0]] (fun K' hK=>by simp only[go_sem];exact ao) ?_
 refine bU (oh [26,0] [49,0] 1 7 _ rfl rfl rfl [0,1,5] [[5,0],[23,0],[24,0],[26,0],[49,0],[124,0]] ?_ rfl) ?_
 ·simp only[go_sem,List.set_cons_succ,List.set_cons_zero]
 simp only[go_sem,List.set_cons_succ,List.set_cons_zero]
 refine bU (oh [26,0] [124,0] 2 1 _ rfl rfl rfl [0,1,5] [[5,0],[23,0],[24,0],[26,0],[49,0],[124,0]] ?_ rfl) ?_
 ·simp only[go_sem,List.set_cons_succ,List.set_cons_zero]
 simp only[go_sem,List.set_cons_succ,List.set_cons_zero]
 repeat refine sq ?_
 refine rx hΓ [0,1,5,30,31,32] [[5,0],[23,0],[24,0],[26,0],[49,0],[124,0]] (fun K' hK=>by simp only[go_sem];exact ao) ?_
 repeat refine sq ?_
 refine aQ ?_
 repeat refine sq ?_
 refine cr (fun s:Nat=>[(32,⟨true,.v (vInt s)⟩)]) (fun s=>[([26,0],.box [.v (ie l),.msl [49,0] (ln l k s).length,.msl [124,0] 0,.map [23,0],.map [24,0]]),([49,0],.arr 7 ((ln l k s).map encR))]) (fun s=>s<=l.rs.length) (fun s=>l.rs.length-s) 0 ?_ ?_ ?_ ?_
 ·exact Nat.zero_le _
 ·rfl
 ·rfl
 rintro i hi
 simp only[go_sem]
 repeat refine sq ?_
 refine rx hΓ [0,1,5,30,31,32,33] [[5,0],[23,0],[24,0],[26,0],[49,0],[124,0]] (fun K' hK=>by simp only[go_sem];exact ao) ?_
 repeat refine sq ?_
 refine aB (fun hb=>?_) fun hb=>?_
 ·have ae:i<l.rs.length:=by simpa using hb
  have au:(i:Int)<l.rs.length:=by omega
  clear hb
  have oR:=OV l k i
  have lJ:=hp.rsn
  repeat refine sq ?_
  refine aG ?_
  repeat refine sq ?_
  refine aQ ?_
  repeat refine sq ?_
  refine rx hΓ [0,1,5,7,30,31,32] [[5,0],[7,0],[23,0],[24,0],[26,0],[49,0],[124,0]] (fun K' hK=>by simp only[go_sem,ah ae,ai,aj,au];exact ao) ?_
  repeat refine sq ?_
  refine rx hΓ [0,1,5,7,30,31,32,41] [[5,0],[7,0],[23,0],[24,0],[26,0],[49,0],[124,0]] (fun K' hK=>by simp only[go_sem,ah ae,ai,aj,au];exact ao) ?_
  repeat refine sq ?_
  refine aB (fun hb=>?_) fun hb=>?_
  ·repeat refine sq ?_
   have hT:=OT ae hb
   repeat refine sq ?_
   refine nY hΓ hP [[],[],[1],[1,2],[1,2,3],[],[5],[1,2,3,4,5,6],u8,u9,dI] (by kernel_rfl) fun K' hK=>?_
   simp only[go_sem,ah ae,ai,aj,au]
   repeat (refine⟨ak,?_⟩)
   first | refine⟨by rfl,?_⟩ | skip
   refine hK _ ?_
   clear K' hK
   simp only[go_sem]
   refine kp [0,1,5,30,31,32] [[5,0],[23,0],[24,0],[26,0],[49,0],[124,0]] ?_
   repeat refine sq ?_
   refine aY hΓ fun K' hK=>?_
   simp only[go_sem,ah ae,ai,aj,au]
   repeat (refine⟨ak,?_⟩)
   refine hK _ ?_
   clear K' hK
   simp only[go_sem]
   refine⟨i+1,ae,by(show l.rs.length-(i+1)<l.rs.length-i;omega),?_⟩
   refine bq [0,1,5,30,31,32] [[5,0],[23,0],[24,0],[26,0],[49,0],[124,0]] ?_ ?_<;>simp only[go_sem,be ae xH,bj,hT,List.map_append,List.map_cons,List.map_nil,List.length_append,List.length_cons,List.length_nil]
  ·repeat refine sq ?_
   have hT:=OU ae hb
   refine aG ?_
   refine bV ?_
   simp only[go_sem]
   refine kp [0,1,5,30,31,32] [[5,0],[23,0],[24,0],[26,0],[49,0],[124,0]] ?_
   repeat refine sq ?_
   refine aY hΓ fun K' hK=>?_
   simp only[go_sem,ah ae,ai,aj,au]
   repeat (refine⟨ak,?_⟩)
   refine hK _ ?_
   clear K' hK
   simp only[go_sem]
   refine⟨i+1,ae,by(show l.rs.length-(i+1)<l.rs.length-i;omega),?_⟩
   refine bq [0,1,5,30,31,32] [[5,0],[23,0],[24,0],[26,0],[49,0],[124,0]] ?_ ?_<;>simp only[go_sem,be ae xH,bj,hT,List.map_append,List.map_cons,List.map_nil,List.length_append,List.length_cons,List.length_nil]
 ·have bw:i=l.rs.length:=by
   have :¬ (i:Int)<l.rs.length:=by simpa using hb
   omega
  clear hb
  subst bw
  repeat refine sq ?_
  refine bM ?_
  simp only[go_sem]
  refine kp [0,1,5] [[5,0],[23,0],[24,0],[26,0],[49,0],[124,0]] ?_
  simp only[OW]
  repeat refine sq ?_
  refine rx hΓ [0,1,5,56,57,58] [[5,0],[23,0],[24,0],[26,0],[49,0],[124,0]] (fun K' hK=>by simp only[go_sem];exact ao) ?_
  refine bU (vP [26,0] [49,0] 1 _ _ _ _ rfl rfl rfl (by first | rfl | (simp only[List.length_map];done)) [0,1,5,56,57,58] [[5,0],[23,0],[24,0],[26,0],[49,0],[124,0]] ?_ rfl) ?_
  ·simp only[go_sem,List.set_cons_succ,List.set_cons_zero]
  simp only[go_sem,List.set_cons_succ,List.set_cons_zero]
  repeat refine sq ?_
  refine aQ ?_
  repeat refine sq ?_
  refine cr (fun s:Nat=>[(58,⟨true,.v (vInt s)⟩)]) (fun s=>[([26,0],.box [.v (ie l),.v (.sl ((bB l k).map encR)),.msl [124,0] (aw l k s).ts.length,.map [23,0],.map [24,0]]),([124,0],.arr 1 ((aw l k s).ts.map vInt)),([23,0],.map 2 (bH (aw l k s).bk)),([24,0],.map 0 (bz (aw l k s).ds))]) (fun s=>s<=l.ts.length) (fun s=>l.ts.length-s) 0 ?_ ?_ ?_ ?_
  ·exact Nat.zero_le _
  ·rfl
  ·rfl
  rintro i1 hi
  simp only[go_sem]
  repeat refine sq ?_
  refine rx hΓ [0,1,5,56,57,58,59] [[5,0],[23,0],[24,0],[26,0],[49,0],[124,0]] (fun K' hK=>by simp only[go_sem];exact ao) ?_
  repeat refine sq ?_
  refine aB (fun hb=>?_) fun hb=>?_
  ·have aJ:i1<l.ts.length:=by simpa using hb
   have bh:(i1:Int)<l.ts.length:=by omega
   clear hb
   have hx:aI l i1=l.ts[i1]:=lg aJ
   obtain⟨e1,e2⟩:=pU l k i1
   have hk:=wY l k i1 (Nat.le_of_lt aJ)
   have sr:=hp.rets aJ
   rw[hx]at sr
   have qm:=(O3 sr).2
   have xI:l.ts[i1].lv.length<=maxLen:=by unfold maxLen;omega
   have xl:=hk.tn
   have adm:=hp.tsn
   have uJ:∀ (obj:Name->Option O) (t:Name),obj [26,0]=some (.box [.v (ie l),.v (.sl ((bB l k).map encR)),.msl [124,0] (aw l k i1).ts.length,.map [23,0],.map [24,0]])->obj [124,0]=some (.arr 1 ((aw l k i1).ts.map vInt))->obj [23,0]=some (.map 2 (bH (aw l k i1).bk))->obj [24,0]=some (.map 0 (bz (aw l k i1).ds))->
       S77m.app obj t [.ref [26,0] 0,.v (vInt l.ts[i1].re)]=⟨True,.tup [lu (dC (bB l k) l.ts[i1].re),.v (.bool (dC (bB l k) l.ts[i1].re).isSome)],obj⟩:=fun obj t h1 h2 h3 h4=>by
    have :=Ro.c_app Ae (a:=(aw l k i1,l.ts[i1].re)) trivial (t:=t) (obj:=obj) (Ls:=[[26,0],[124,0],[23,0],[24,0]]) rfl (by decide) (by show cD obj _ (o6 (aw l k i1) _);simp only[o6,jq,e1,e2];exact⟨h1,h2,h3,h4,trivial⟩)
    refine this.trans ?_
    show (⟨True,.tup [lu (dC (aw l k i1).rs l.ts[i1].re),.v (.bool (dC (aw l k i1).rs l.ts[i1].re).isSome)],obj⟩:R)=_
    rw[e2]
   have Uo:∀ (r:Rec) (obj:Name->Option O) (t:Name),obj [5,0]=some (.box [.ref [26,0] 0])->obj [26,0]=some (.box [.v (ie l),.v (.sl ((bB l k).map encR)),.msl [124,0] (aw l k i1).ts.length,.map [23,0],.map [24,0]])->obj [124,0]=some (.arr 1 ((aw l k i1).ts.map vInt))->obj [23,0]=some (.map 2 (bH (aw l k i1).bk))->obj [24,0]=some (.map 0 (bz (aw l k i1).ds))->
       S160m.app obj t [.v (.sl (l.ts[i1].lv.map vInt)),.clo (.func 163) [] [.ref [5,0] 0,.v (.ptr [vInt r.so,vInt r.bo,vInt r.pa,.sl (r.lv.map vInt),vInt r.da,vInt r.kn,vInt r.un])]]=⟨True,.v (.bool (l.ts[i1].lv.any (gy (aw l k i1).bk r))),obj⟩:=fun r obj t h0 h1 h2 h3 h4=>by
    have :=Ro.c_app (sW kO) (a:=(aw l k i1,r,l.ts[i1].lv)) xI (t:=t) (obj:=obj) (Ls:=[[5,0],[26,0],[124,0],[23,0],[24,0]]) rfl (by decide) (by
     show cD obj _ (.box [.ref [26,0] 0]::o6 (aw l k i1) [[26,0],[124,0],[23,0],[24,0]])
     simp only[o6,jq,e1,e2];exact⟨h0,h1,h2,h3,h4,trivial⟩)
    exact this
   repeat refine sq ?_
   refine aG ?_
   repeat refine sq ?_
   refine aQ ?_
   repeat refine sq ?_
   refine rx hΓ [0,1,5,8,9,56,57,58] [[5,0],[9,0],[23,0],[24,0],[26,0],[49,0],[124,0]] (fun K' hK=>by simp only[go_sem,ah aJ,ai,aj,bh];exact ao) ?_
   rcases dF:dC (bB l k) l.ts[i1].re with _ | r
   ·have oT:aw l k (i1+1)=aw l k i1:=oJ (PX (by rw[hx];exact dF))
    repeat refine sq ?_
    refine rx hΓ [0,1,5,8,9,10,11,56,57,58] [[5,0],[9,0],[10,0],[23,0],[24,0],[26,0],[49,0],[124,0]] (fun K' hK=>by simp only[go_sem,ah aJ,ai,aj,bh,dF,bg,Option.isSome_none];rw[uJ _ _ rfl rfl rfl rfl];simp only[go_sem,ah aJ,ai,aj,bh,dF,bg,Option.isSome_none];exact ao) ?_
    refine bU (dH 10 (.ref [10,0] 0) (by simp only[go_sem]) (by simp only[go_sem]) [0,1,5,8,9,10,11,56,57,58] [[5,0],[9,0],[10,0],[23,0],[24,0],[26,0],[49,0],[124,0]] ?_ rfl) ?_
    ·simp only[go_sem]
    simp only[go_sem]
    repeat refine sq ?_
    refine rx hΓ [0,1,5,8,9,10,56,57,58,80] [[5,0],[9,0],[10,0],[23,0],[24,0],[26,0],[49,0],[124,0]] (fun K' hK=>by simp only[go_sem,ah aJ,ai,aj,bh,dF,bg,Option.isSome_none];exact ao) ?_
    repeat refine sq ?_
    refine aB (fun hb=>?_) fun hb=>?_
    ·repeat refine sq ?_
     refine bM ?_
     simp only[go_sem]
     refine kp [0,1,5,56,57,58] [[5,0],[23,0],[24,0],[26,0],[49,0],[124,0]] ?_
     repeat refine sq ?_
     refine aY hΓ fun K' hK=>?_
     simp only[go_sem,ah aJ,ai,aj,bh,dF,bg,Option.isSome_none]
     repeat (refine⟨ak,?_⟩)
     refine hK _ ?_
     clear K' hK
     simp only[go_sem]
     refine⟨i1+1,aJ,by(show l.ts.length-(i1+1)<l.ts.length-i1;omega),?_⟩
     refine bq [0,1,5,56,57,58] [[5,0],[23,0],[24,0],[26,0],[49,0],[124,0]] ?_ ?_<;>simp only[go_sem,be aJ lN,bj,oT]
    ·cases hb
   ·obtain⟨IL,bW⟩:=Fi dF
    have uK:=Ab hp k r IL
    have fS:=vM (Fa uK)
    repeat refine sq ?_
    refine rx hΓ [0,1,5,8,9,10,11,56,57,58] [[5,0],[9,0],[10,0],[23,0],[24,0],[26,0],[49,0],[124,0]] (fun K' hK=>by simp only[go_sem,ah aJ,ai,aj,bh,dF,aF,Option.isSome_some];rw[uJ _ _ rfl rfl rfl rfl];simp only[go_sem,ah aJ,ai,aj,bh,dF,aF,Option.isSome_some];exact ao) ?_
    refine bU (dH 10 (.ref [10,0] 0) (by simp only[go_sem]) (by simp only[go_sem]) [0,1,5,8,9,10,11,56,57,58] [[5,0],[9,0],[10,0],[23,0],[24,0],[26,0],[49,0],[124,0]] ?_ rfl) ?_
    ·simp only[go_sem]
    simp only[go_sem]
    repeat refine sq ?_
    refine rx hΓ [0,1,5,8,9,10,56,57,58,80] [[5,0],[9,0],[10,0],[23,0],[24,0],[26,0],[49,0],[124,0]] (fun K' hK=>by simp only[go_sem,ah aJ,ai,aj,bh,dF,aF,Option.isSome_some];exact ao) ?_
    repeat refine sq ?_
    refine aB (fun hb=>?_) fun hb=>?_
    ·repeat refine sq ?_
     have oT:aw l k (i1+1)=aw l k i1:=oJ (PW (by rw[hx];exact dF) (by rw[hx];simpa using hb))
     refine bM ?_
     simp only[go_sem]
     refine kp [0,1,5,56,57,58] [[5,0],[23,0],[24,0],[26,0],[49,0],[124,0]] ?_
     repeat refine sq ?_
     refine aY hΓ fun K' hK=>?_
     simp only[go_sem,ah aJ,ai,aj,bh,dF,aF,Option.isSome_some]
     repeat (refine⟨ak,?_⟩)
     refine hK _ ?_
     clear K' hK
     simp only[go_sem]
     refine⟨i1+1,aJ,by(show l.ts.length-(i1+1)<l.ts.length-i1;omega),?_⟩
     refine bq [0,1,5,56,57,58] [[5,0],[23,0],[24,0],[26,0],[49,0],[124,0]] ?_ ?_<;>simp only[go_sem,be aJ lN,bj,oT]
    ·repeat refine sq ?_
     have Uk:cQ l.ts[i1].kn l.ts[i1].un k=true:=by simpa using hb
     refine aG ?_
     repeat refine sq ?_
     refine rx hΓ [0,1,5,8,9,10,12,56,57,58] [[5,0],[9,0],[10,0],[23,0],[24,0],[26,0],[49,0],[124,0]] (fun K' hK=>by simp only[go_sem,ah aJ,ai,aj,bh,dF,aF,Option.isSome_some,fS];exact ao) ?_
     obtain⟨fs,oY⟩:∃ fs,dk l.ts[i1].lo (r.da+1)=fs:=⟨_,rfl⟩
     have Jl:=oY
     unfold dk at Jl
     rw[Jl]
     repeat refine sq ?_
     refine rx hΓ [0,1,5,8,9,10,12,13,56,57,58] [[5,0],[9,0],[10,0],[23,0],[24,0],[26,0],[49,0],[124,0]] (fun K' hK=>by simp only[go_sem,ah aJ,ai,aj,bh,dF,aF,Option.isSome_some];exact ao) ?_
     repeat refine sq ?_
     refine rx hΓ [0,1,5,8,9,10,12,56,57,58,99] [[5,0],[9,0],[10,0],[23,0],[24,0],[26,0],[49,0],[124,0]] (fun K' hK=>by simp only[go_sem,ah aJ,ai,aj,bh,dF,aF,Option.isSome_some];rw[Uo r _ _ rfl rfl rfl rfl rfl];simp only[go_sem,ah aJ,ai,aj,bh,dF,aF,Option.isSome_some];exact ao) ?_
     repeat refine sq ?_
     refine aB (fun hb=>?_) fun hb=>?_
     ·repeat refine sq ?_
      have oT:aw l k (i1+1)=aw l k i1:=oJ (PV (by rw[hx];exact dF) (by rw[hx,oY];exact hb))
      refine bM ?_
      simp only[go_sem]
      refine kp [0,1,5,56,57,58] [[5,0],[23,0],[24,0],[26,0],[49,0],[124,0]] ?_
      repeat refine sq ?_
      refine aY hΓ fun K' hK=>?_
      simp only[go_sem,ah aJ,ai,aj,bh,dF,aF,Option.isSome_some]
      repeat (refine⟨ak,?_⟩)
      refine hK _ ?_
      clear K' hK
      simp only[go_sem]
      refine⟨i1+1,aJ,by(show l.ts.length-(i1+1)<l.ts.length-i1;omega),?_⟩
      refine bq [0,1,5,56,57,58] [[5,0],[23,0],[24,0],[26,0],[49,0],[124,0]] ?_ ?_<;>simp only[go_sem,be aJ lN,bj,oT]
     ·repeat refine sq ?_
      have oT:=ub (PU (k:=k) (rs:=bB l k) (bk:=(aw l k i1).bk) (x:=aI l i1) (r:=r) (by rw[hx];exact dF) (by rw[hx];exact Uk) (by rw[hx,oY];exact hb))
      rw[hx,oY]at oT
      refine aG ?_
      repeat refine sq ?_
      refine rx hΓ [0,1,5,8,9,10,12,56,57,58,101,102,103] [[5,0],[9,0],[10,0],[23,0],[24,0],[26,0],[49,0],[124,0]] (fun K' hK=>by simp only[go_sem,ah aJ,ai,aj,bh,dF,aF,Option.isSome_some];exact ao) ?_
      repeat refine sq ?_
      refine aQ ?_
      repeat refine sq ?_
      refine cr (fun s:Nat=>[(103,⟨true,.v (vInt s)⟩)]) (fun s=>[([23,0],.map 2 (bH (n7 (aw l k i1).bk r.so i1 (l.ts[i1].lv.take s))))]) (fun s=>s<=l.ts[i1].lv.length) (fun s=>l.ts[i1].lv.length-s) 0 ?_ ?_ ?_ ?_
      ·exact Nat.zero_le _
      ·rfl
      ·rfl
      rintro i2 hi
      simp only[go_sem]
      repeat refine sq ?_
      refine rx hΓ [0,1,5,8,9,10,12,56,57,58,101,102,103,104] [[5,0],[9,0],[10,0],[23,0],[24,0],[26,0],[49,0],[124,0]] (fun K' hK=>by simp only[go_sem,ah aJ,ai,aj,bh,dF,aF,Option.isSome_some];exact ao) ?_
      repeat refine sq ?_
      refine aB (fun hb=>?_) fun hb=>?_
      ·have bN:i2<l.ts[i1].lv.length:=by simpa using hb
       have fk:(i2:Int)<l.ts[i1].lv.length:=by omega
       clear hb
       have U8:=WN (aw l k i1).bk r.so i1 bN
       repeat refine sq ?_
       refine aG ?_
       repeat refine sq ?_
       refine aQ ?_
       repeat refine sq ?_
       refine rx hΓ [0,1,5,8,9,10,12,15,56,57,58,101,102,103] [[5,0],[9,0],[10,0],[23,0],[24,0],[26,0],[49,0],[124,0]] (fun K' hK=>by simp only[go_sem,ah aJ,ai,aj,bh,dF,aF,Option.isSome_some,ah bN,ai,aj,fk];exact ao) ?_
       repeat refine sq ?_
       refine nY hΓ hP [[],[0],[0,1],[0,1,2],[],[4],[],[4,5,6],[],u9] (by kernel_rfl) fun K' hK=>?_
       simp only[go_sem,ah aJ,ai,aj,bh,dF,aF,Option.isSome_some,ah bN,ai,aj,fk,P2]
       repeat (refine⟨ak,?_⟩)
       first | refine⟨by rfl,?_⟩ | skip
       refine hK _ ?_
       clear K' hK
       simp only[go_sem]
       refine kp [0,1,5,8,9,10,12,56,57,58,101,102,103] [[5,0],[9,0],[10,0],[23,0],[24,0],[26,0],[49,0],[124,0]] ?_
       repeat refine sq ?_
       refine aY hΓ fun K' hK=>?_
       simp only[go_sem,ah aJ,ai,aj,bh,dF,aF,Option.isSome_some,ah bN,ai,aj,fk]
       repeat (refine⟨ak,?_⟩)
       refine hK _ ?_
       clear K' hK
       simp only[go_sem]
       refine⟨i2+1,bN,by(show l.ts[i1].lv.length-(i2+1)<l.ts[i1].lv.length-i2;omega),?_⟩
       refine bq [0,1,5,8,9,10,12,56,57,58,101,102,103] [[5,0],[9,0],[10,0],[23,0],[24,0],[26,0],[49,0],[124,0]] ?_ ?_<;>simp only[go_sem,be bN xI,bj,U8]
      ·have lR:i2=l.ts[i1].lv.length:=by
        have :¬ (i2:Int)<l.ts[i1].lv.length:=by simpa using hb
        omega
       clear hb
       subst lR
       repeat refine sq ?_
       refine bM ?_
       simp only[go_sem]
       refine kp [0,1,5,8,9,12,56,57,58] [[5,0],[9,0],[23,0],[24,0],[26,0],[49,0],[124,0]] ?_
       repeat refine sq ?_
       refine dx hΓ hP [[],[],[1],[1,2],[1,2,3],[],[5],[1,2,3,4,5,6],u8,u9,dI] [0,1,5,8,9,12,56,57,58] [[5,0],[9,0],[23,0],[24,0],[26,0],[49,0],[124,0]] (by kernel_rfl) (fun K' hK=>by simp only[go_sem,ah aJ,ai,aj,bh,dF,aF,Option.isSome_some];exact vf) ?_
       repeat refine sq ?_
       refine nY hΓ hP [[],[0],[0,1],[0,1,2],[],[],[],[6],[6,7],[5,6,7,8],dI] (by kernel_rfl) fun K' hK=>?_
       simp only[go_sem,ah aJ,ai,aj,bh,dF,aF,Option.isSome_some,F3]
       repeat (refine⟨ak,?_⟩)
       first | refine⟨by rfl,?_⟩ | skip
       refine hK _ ?_
       clear K' hK
       simp only[go_sem]
       refine kp [0,1,5,56,57,58] [[5,0],[23,0],[24,0],[26,0],[49,0],[124,0]] ?_
       repeat refine sq ?_
       refine aY hΓ fun K' hK=>?_
       simp only[go_sem,ah aJ,ai,aj,bh,dF,aF,Option.isSome_some]
       repeat (refine⟨ak,?_⟩)
       refine hK _ ?_
       clear K' hK
       simp only[go_sem]
       refine⟨i1+1,aJ,by(show l.ts.length-(i1+1)<l.ts.length-i1;omega),?_⟩
       refine bq [0,1,5,56,57,58] [[5,0],[23,0],[24,0],[26,0],[49,0],[124,0]] ?_ ?_<;>simp only[go_sem,be aJ lN,bj,oT,List.take_length,List.map_append,List.map_cons,List.map_nil,List.length_append,List.length_cons,List.length_nil]
  ·have iQ:i1=l.ts.length:=by
    have :¬ (i1:Int)<l.ts.length:=by simpa using hb
    omega
   clear hb
   subst iQ
   repeat refine sq ?_
   refine bM ?_
   simp only[go_sem]
   refine kp [0,5] [[5,0],[23,0],[24,0],[26,0],[49,0],[124,0]] ?_
   have hk:=wY l k l.ts.length (Nat.le_refl _)
   obtain⟨e1,e2⟩:=pU l k l.ts.length
   have hΓ:=Zb
   have S6:(aw l k l.ts.length).ts.length<=maxLen:=Nat.le_trans hk.tn lN
   refine bU (vP [26,0] [124,0] 2 _ _ _ _ rfl rfl rfl (by first | rfl | (simp only[List.length_map];done)) [0,5] [[5,0],[23,0],[24,0],[26,0],[49,0],[124,0]] ?_ rfl) ?_
   ·simp only[go_sem,List.set_cons_succ,List.set_cons_zero]
   simp only[go_sem,List.set_cons_succ,List.set_cons_zero]
   repeat refine sq ?_
   refine rx hΓ [0,5,141,142,143] [[5,0],[23,0],[24,0],[26,0],[49,0],[124,0]] (fun K' hK=>by simp only[go_sem];exact ao) ?_
   repeat refine sq ?_
   refine aQ ?_
   repeat refine sq ?_
   refine cr (fun s:Nat=>[(143,⟨true,.v (vInt s)⟩)]) (fun s=>[([24,0],.map 0 (bz (gj l (bB l k) (aw l k l.ts.length).ts (aw l k l.ts.length).ds s)))]) (fun s=>s<=(aw l k l.ts.length).ts.length) (fun s=>(aw l k l.ts.length).ts.length-s) 0 ?_ ?_ ?_ ?_
   ·exact Nat.zero_le _
   ·rfl
   ·rfl
   rintro i3 hi
   simp only[go_sem]
   repeat refine sq ?_
   refine rx hΓ [0,5,141,142,143,144] [[5,0],[23,0],[24,0],[26,0],[49,0],[124,0]] (fun K' hK=>by simp only[go_sem];exact ao) ?_
   repeat refine sq ?_
   refine aB (fun hb=>?_) fun hb=>?_
   ·have mE:i3<(aw l k l.ts.length).ts.length:=by simpa using hb
    have xG:(i3:Int)<(aw l k l.ts.length).ts.length:=by omega
    clear hb
    obtain⟨⟨cj,gm⟩,r,lI⟩:=hk.ts (aw l k l.ts.length).ts[i3] (List.getElem_mem mE)
    have jh:=zA cj gm
    have hD:gj l (bB l k) (aw l k l.ts.length).ts (aw l k l.ts.length).ds (i3+1)=jF (gj l (bB l k) (aw l k l.ts.length).ts (aw l k l.ts.length).ds i3) (aw l k l.ts.length).ts[i3] r.da (dU (bB l k) r.pa (aI l (aw l k l.ts.length).ts[i3].toNat).lv):=by
     show jF _ ((aw l k l.ts.length).ts.getD i3 0) (mj (bB l k) (aI l ((aw l k l.ts.length).ts.getD i3 0).toNat).re).da (dU _ (mj (bB l k) (aI l ((aw l k l.ts.length).ts.getD i3 0).toNat).re).pa _)=_
     rw[dv mE];unfold mj;rw[lI];rfl
    repeat refine sq ?_
    refine aG ?_
    repeat refine sq ?_
    refine aQ ?_
    repeat refine sq ?_
    refine rx hΓ [0,5,17,141,142,143] [[5,0],[17,0],[23,0],[24,0],[26,0],[49,0],[124,0]] (fun K' hK=>by simp only[go_sem,ah mE,ai,aj,xG];exact ao) ?_
    refine bU (dH 17 (.ref [17,0] 0) (by simp only[go_sem]) (by simp only[go_sem]) [0,5,17,141,142,143] [[5,0],[17,0],[23,0],[24,0],[26,0],[49,0],[124,0]] ?_ rfl) ?_
    ·simp only[go_sem]
    simp only[go_sem]
    repeat refine sq ?_
    refine dx hΓ hP [[],[0],[0,1],[0,1,2],[],u5,u6,[],u8] [0,5,17,18,141,142,143] [[5,0],[17,0],[18,0],[23,0],[24,0],[26,0],[49,0],[124,0]] (by kernel_rfl) (fun K' hK=>by simp only[go_sem,ah mE,ai,aj,xG,jh,cj,gm];exact vf) ?_
    refine bU (dH 18 (.ref [18,0] 0) (by simp only[go_sem]) (by simp only[go_sem]) [0,5,17,18,141,142,143] [[5,0],[17,0],[18,0],[23,0],[24,0],[26,0],[49,0],[124,0]] ?_ rfl) ?_
    ·simp only[go_sem]
    simp only[go_sem]
    repeat refine sq ?_
    refine rx hΓ [0,5,17,18,19,141,142,143] [[5,0],[17,0],[18,0],[19,0],[23,0],[24,0],[26,0],[49,0],[124,0]] (fun K' hK=>by simp only[go_sem,ah mE,ai,aj,xG,lI,aF,Option.isSome_some];exact ao) ?_
    refine bU (dH 19 (.ref [19,0] 0) (by simp only[go_sem]) (by simp only[go_sem]) [0,5,17,18,19,141,142,143] [[5,0],[17,0],[18,0],[19,0],[23,0],[24,0],[26,0],[49,0],[124,0]] ?_ rfl) ?_
    ·simp only[go_sem]
    simp only[go_sem]
    repeat refine sq ?_
    refine rx hΓ [0,5,17,19,141,142,143,166] [[5,0],[17,0],[19,0],[23,0],[24,0],[26,0],[49,0],[124,0],[3,0,166,0]] (fun K' hK=>by simp only[go_sem,ah mE,ai,aj,xG];exact ao) ?_
    repeat refine sq ?_
    refine aQ ?_
    repeat refine sq ?_
    have b9:=E6 hp k
    have aa:=Gl l k (aw l k l.ts.length).ts[i3] (i3:Nat) (aw l k l.ts.length).ts.length ⟨l,bB l k,(aw l k l.ts.length).ts,(aw l k l.ts.length).bk,gj l (bB l k) (aw l k l.ts.length).ts (aw l k l.ts.length).ds i3⟩ r (aI l (aw l k l.ts.length).ts[i3].toNat).lv b9
    have fJ:aL Tryz.prog 193 ((gz l k (aw l k l.ts.length).ts[i3] (i3:Nat) (aw l k l.ts.length).ts.length ⟨l,bB l k,(aw l k l.ts.length).ts,(aw l k l.ts.length).bk,gj l (bB l k) (aw l k l.ts.length).ts (aw l k l.ts.length).ds i3⟩ r (aI l (aw l k l.ts.length).ts[i3].toNat).lv).itC (iX 4 r.pa (aI l (aw l k l.ts.length).ts[i3].toNat).lv)).toSpec:=EL aa (fun _=>rfl) (Qq l k (aw l k l.ts.length).ts[i3] (i3:Nat) (aw l k l.ts.length).ts.length ⟨l,bB l k,(aw l k l.ts.length).ts,(aw l k l.ts.length).bk,gj l (bB l k) (aw l k l.ts.length).ts (aw l k l.ts.length).ds i3⟩ r (aI l (aw l k l.ts.length).ts[i3].toNat).lv b9) (Ab hp k) (E7 hp k) rfl (fun _=>rfl) (j:=4) (jc:=1) (show 4<5 by decide) rfl rfl
    refine KN aa (Qr l k (aw l k l.ts.length).ts[i3] (i3:Nat) (aw l k l.ts.length).ts.length ⟨l,bB l k,(aw l k l.ts.length).ts,(aw l k l.ts.length).bk,gj l (bB l k) (aw l k l.ts.length).ts (aw l k l.ts.length).ds i3⟩ r (aI l (aw l k l.ts.length).ts[i3].toNat).lv) (f:=193) 200 201 (Ls:=[[5,0],[26,0],[23,0],[24,0],[3,0,166,0]]) rfl rfl (by decide) fJ rfl rfl rfl rfl rfl rfl (by decide) (show ([200,0]:Name)∉[[5,0],[26,0],[23,0],[24,0],[3,0,166,0]]by decide) ⟨rfl,rfl,rfl,rfl,rfl,trivial⟩ fun o=>?_
    obtain⟨g1,g2⟩:=Lp.go_e (r:=(gz l k (aw l k l.ts.length).ts[i3] (i3:Nat) (aw l k l.ts.length).ts.length ⟨l,bB l k,(aw l k l.ts.length).ts,(aw l k l.ts.length).bk,gj l (bB l k) (aw l k l.ts.length).ts (aw l k l.ts.length).ds i3⟩ r (aI l (aw l k l.ts.length).ts[i3].toNat).lv)) (fun _=>rfl)
    have g3:(gz l k (aw l k l.ts.length).ts[i3] (i3:Nat) (aw l k l.ts.length).ts.length ⟨l,bB l k,(aw l k l.ts.length).ts,(aw l k l.ts.length).bk,gj l (bB l k) (aw l k l.ts.length).ts (aw l k l.ts.length).ds i3⟩ r (aI l (aw l k l.ts.length).ts[i3].toNat).lv).fam [[5,0],[26,0],[23,0],[24,0],[3,0,166,0]] (gz l k (aw l k l.ts.length).ts[i3] (i3:Nat) (aw l k l.ts.length).ts.length ⟨l,bB l k,(aw l k l.ts.length).ts,(aw l k l.ts.length).bk,gj l (bB l k) (aw l k l.ts.length).ts (aw l k l.ts.length).ds i3⟩ r (aI l (aw l k l.ts.length).ts[i3].toNat).lv).e=[.box [.ref [26,0] 0],bp ⟨l,bB l k,(aw l k l.ts.length).ts,(aw l k l.ts.length).bk,gj l (bB l k) (aw l k l.ts.length).ts (aw l k l.ts.length).ds i3⟩ [23,0] [24,0],.map 2 (bH (aw l k l.ts.length).bk),.map 0 (bz (gj l (bB l k) (aw l k l.ts.length).ts (aw l k l.ts.length).ds (i3+1))),.box [.ref [26,0] 0]]:=by
     rw[g1,hD,<-List.take_length (l:=dU (bB l k) r.pa (aI l (aw l k l.ts.length).ts[i3].toNat).lv)]
     rfl
    rw[g2,g3]
    simp only[wB,iv]
    refine bV ?_
    show CL Tryz.prog (_::_) _ _
    refine eg [0,5,141,142,143] [[5,0],[23,0],[24,0],[26,0],[49,0],[124,0]] ?_ ?_
    ·simp only[go_sem,dA]
    simp only[go_sem,dA]
    repeat refine sq ?_
    refine aY hΓ fun K' hK=>?_
    simp only[go_sem]
    repeat (refine⟨ak,?_⟩)
    refine hK _ ?_
    clear K' hK
    simp only[go_sem]
    refine⟨i3+1,mE,by(show (aw l k l.ts.length).ts.length-(i3+1)<(aw l k l.ts.length).ts.length-i3;omega),?_⟩
    refine bq [0,5,141,142,143] [[5,0],[23,0],[24,0],[26,0],[49,0],[124,0]] ?_ ?_<;>simp only[go_sem,be mE S6,bj]
   ·have TU:i3=(aw l k l.ts.length).ts.length:=by
     have :¬ (i3:Int)<(aw l k l.ts.length).ts.length:=by simpa using hb
     omega
    clear hb
    subst TU
    repeat refine sq ?_
    refine bM ?_
    simp only[go_sem]
    refine kp [5] [[5,0],[23,0],[24,0],[26,0],[49,0],[124,0]] ?_
    repeat refine sq ?_
    refine rx hΓ [4] [[23,0],[24,0],[26,0],[49,0],[124,0]] (fun K' hK=>by simp only[go_sem];exact ao) ?_
    refine ay ?_
    simp only[go_sem]
    rw[show (aC l k).l=l from e1,show (aC l k).rs=bB l k from e2];first | exact⟨rfl,rfl,rfl⟩ | exact⟨rfl,rfl,rfl,trivial⟩ | exact⟨⟨rfl,rfl,rfl⟩,rfl⟩ | trace_state
end
set_option maxHeartbeats 8000000
noncomputable section
def cM(l:Led)(ds:List Int):Int:=if mP l=0 then fW (!ds.any fun d=>!dayB d) 6 else mP l
theorem Pu:pG (161,[])=fun n=>!dayB n:=rfl
theorem PI:wI (161,[]):=.inl rfl
def K30a:List (Nat×Spec):=[(37,DF),(160,S160)]
theorem Y':KS K30a:=tc N5.sound<|tc Il<|tn
attribute [go_sem] K30a
@[go_sem] def P75:PSpec:=p2 iL ev (fun _ _=>True) (fun l ds=>vInt (cM l ds)) true
@[go_sem] def ma:Spec:=P75.toSpec
theorem zR:aU Tryz.prog 75 P75:=by
 refine dV (rs:=[.tmp 4]) Tryz.func75 Tryz.ntmps75 fun l ds hp hw=>?_
 simp only[ev,iL,fY]at hw |-
 have hΓ:=Y'
 repeat refine sq ?_
 refine rx hΓ [1,2] [[2,0]] (fun K' hK=>by simp only[go_sem];exact ao) ?_
 refine bU (dH 2 (.ref [2,0] 0) (by simp only[go_sem]) (by simp only[go_sem]) [1,2] [[2,0]] ?_ rfl) ?_
 ·simp only[go_sem]
 simp only[go_sem]
 repeat refine sq ?_
 refine rx hΓ [1,5] [] (fun K' hK=>by simp only[go_sem];exact ao) ?_
 repeat refine sq ?_
 refine rx hΓ [1,5,9] [] (fun K' hK=>by simp only[go_sem];exact ao) ?_
 repeat refine sq ?_
 refine aB (fun hb=>?_) fun hb=>?_
 ·repeat refine sq ?_
  have hc:¬ mP l=0:=by simpa using hb
  unfold cM;rw[if_neg hc]
  repeat refine sq ?_
  refine rx hΓ [4] [] (fun K' hK=>by simp only[go_sem];exact ao) ?_
  refine ay ?_
  simp only[go_sem]
  all_goals exact dp
 ·repeat refine sq ?_
  have hc:mP l=0:=by simpa using hb
  unfold cM;rw[if_pos hc]
  refine aG ?_
  repeat refine sq ?_
  refine rx hΓ [12] [] (fun K' hK=>by simp only[go_sem,PI,Pu];exact ao) ?_
  repeat refine sq ?_
  refine aB (fun hb=>?_) fun hb=>?_
  ·repeat refine sq ?_
   rw[show (ds.any fun d=>!dayB d)=true from hb]
   repeat refine sq ?_
   refine rx hΓ [4] [] (fun K' hK=>by simp only[go_sem];exact ao) ?_
   refine ay ?_
   simp only[go_sem]
   all_goals exact dp
  ·repeat refine sq ?_
   rw[show (ds.any fun d=>!dayB d)=false from hb]
   refine aG ?_
   repeat refine sq ?_
   refine rx hΓ [4] [] (fun K' hK=>by simp only[go_sem];exact ao) ?_
   refine ay ?_
   simp only[go_sem]
   all_goals exact dp
def K30b:List (Nat×Spec):=[(76,S76),(128,S128)]
theorem Y9:KS K30b:=tc Bc<|tc Bf<|tn
attribute [go_sem] K30b
@[go_sem] def P123:PSpec:=p3 lG iI (eM iS) (fun l _ ss=>(b7 l/\ss.length<=60)/\∀ s∈ss,we s) (fun l k ss=>.bool (fM (aC l k) ss)) true
@[go_sem] def Ma:Spec:=P123.toSpec
theorem Oy:aU Tryz.prog 123 P123:=by
 refine mY (rs:=[.tmp 6]) Tryz.func123 Tryz.ntmps123 fun l k ss hp hw=>?_
 simp only[iI,lG,iS,eM,ie,encS]at hw |-
 have hΓ:=Y9
 obtain⟨⟨aa,I'⟩,su⟩:=hp
 repeat refine sq ?_
 refine rx hΓ [0,1,2] [] (fun K' hK=>by simp only[go_sem];exact ao) ?_
 repeat refine sq ?_
 refine rx hΓ [6] [] (fun K' hK=>by simp only[go_sem];(repeat (refine⟨by first | exact ak | exact⟨⟨nw aa k,I'⟩,su⟩,?_⟩));exact fe) ?_
 refine ay ?_
 simp only[go_sem]
 all_goals exact dp
def rz(x:Vw)(t:Name):List (Name×O):=[(26::0::t,bp x (23::0::t) (24::0::t)),(23::0::t,.map 2 (bH x.bk)),(24::0::t,.map 0 (bz x.ds))]
def DD:Option (Int×Int)->Vw->List (Name×O)
 |none,x=>rz x [11,0]
 |some _,_=>[]
def DC:Option (Int×Int)->D
 |none=>.tup [.ref [26,0,11,0] 0,.v (vInt 0)]
 |some _=>.tup [.v .nilp,.v (vInt 25)]
attribute [go_sem] rz
theorem ej(x:Vw):DD none x=rz x [11,0]:=rfl
theorem pt(p:Int×Int)(x:Vw):DD (some p) x=[]:=rfl
theorem ei:DC none=.tup [.ref [26,0,11,0] 0,.v (vInt 0)]:=rfl
theorem pr(p:Int×Int):DC (some p)=.tup [.v .nilp,.v (vInt 25)]:=rfl
theorem rR(p:Int×Int):wv (some p)=.tup [.v (.sl [vInt p.1,vInt p.2]),.v (.bool true)]:=rfl
theorem rS:wv none=.tup [.nilsl,.v (.bool false)]:=rfl
def K30c:List (Nat×Spec):=[(76,S76),(120,S120)]
theorem Y8:KS K30c:=tc Bc<|tc Io<|tn
attribute [go_sem] K30c
def zl:NSpec:=n2 lG iI (fun l _=>b7 l) (fun l k=>DD (ek (aC l k)) (aC l k)) (fun l k=>DC (ek (aC l k)))
def S121:Spec:=zl.toSpec
attribute [go_sem] zl S121
theorem Bh:aL Tryz.prog 121 S121:=by
 refine Ay (nt:=19) (rs:=[.tmp 4,.tmp 5]) Tryz.func121 rfl (by rfl) (by kernel_rfl) (by kernel_rfl) (by decide) ?_
 intro xs hp
 obtain⟨l,k,rfl,hp,et,er⟩:=AF hp
 replace et:zl.new _=_:=et
 replace er:zl.d _=_:=er
 rw[et,er]
 clear et er
 refine⟨lb rfl,?_⟩
 simp only[iI,iB,ev,iP,iR,iT,iS,iL,lG,eM,iC,iF,cK,encR,c9,encS,fY,ie,List.map_cons,List.map_nil,cN,Nat.zero_add]
 have hΓ:=Y8
 repeat refine sq ?_
 refine rx hΓ [0,1] [] (fun K' hK=>by simp only[go_sem];exact ao) ?_
 repeat refine sq ?_
 refine rx hΓ [6] [[26,0,11,0],[23,0,11,0],[24,0,11,0]] (fun K' hK=>by simp only[go_sem];exact ao) ?_
 rcases bR:ek (aC l k)with _ | p
 ·repeat refine sq ?_
  refine rx hΓ [6,8] [[26,0,11,0],[23,0,11,0],[24,0,11,0]] (fun K' hK=>by simp only[go_sem,bR,rS];(repeat (refine⟨by first | exact ak | exact(nw hp k).1,?_⟩));exact fe) ?_
  repeat refine sq ?_
  refine rx hΓ [6,17] [[26,0,11,0],[23,0,11,0],[24,0,11,0]] (fun K' hK=>by simp only[go_sem,bR,rS];exact ao) ?_
  repeat refine sq ?_
  refine aB (fun hb=>?_) fun hb=>?_
  ·cases hb
  ·repeat refine sq ?_
   refine aG ?_
   repeat refine sq ?_
   refine rx hΓ [4,5] [[26,0,11,0],[23,0,11,0],[24,0,11,0]] (fun K' hK=>by simp only[go_sem,bR,rS];exact ao) ?_
   refine ay ?_
   simp only[go_sem,ej,ei,pt,pr]
   all_goals first | done | rfl | trace_state
 ·repeat refine sq ?_
  refine rx hΓ [6,8] [[26,0,11,0],[23,0,11,0],[24,0,11,0]] (fun K' hK=>by simp only[go_sem,bR,rR];(repeat (refine⟨by first | exact ak | exact(nw hp k).1,?_⟩));exact fe) ?_
  repeat refine sq ?_
  refine rx hΓ [6,17] [[26,0,11,0],[23,0,11,0],[24,0,11,0]] (fun K' hK=>by simp only[go_sem,bR,rR];exact ao) ?_
  repeat refine sq ?_
  refine aB (fun hb=>?_) fun hb=>?_
  ·repeat refine sq ?_
   refine rx hΓ [4,5] [[26,0,11,0],[23,0,11,0],[24,0,11,0]] (fun K' hK=>by simp only[go_sem,bR,rR];exact ao) ?_
   refine ay ?_
   simp only[go_sem,ej,ei,pt,pr]
   all_goals first | done | rfl | trace_state
  ·cases hb
theorem EB{l:Led}(h:b7 l)(k:Int):(bm l k).length<=60/\∀ s∈bm l k,we s:=by
 refine⟨Nat.le_trans (List.length_filter_le _ _) h.ssn,fun s hs=>?_⟩
 obtain⟨j,hj,rfl⟩:=List.getElem_of_mem (List.mem_filter.1 hs).1
 have :=qW h.ss hj
 unfold kh at this
 simp only[Bool.and_eq_true]at this
 have hd:=this.1.2
 unfold dayB b8 at hd
 simp at hd
 exact hd
def gh(x:Vw)(k:Int):Vw:={ x with ds:=eQ x x.ds (bm x.l k) }
def rK:Option (Int×Int)->Bool->Vw->Int->List (Name×O)
 |none,true,x,k=>rz (gh x k) [11,0,11,0]
 |_,_,_,_=>[]
def M6:Option (Int×Int)->Bool->Int
 |some _,_=>25
 |none,false=>27
 |none,true=>0
def rH:Option (Int×Int)->Bool->D
 |some _,_=>.tup [.v .nilp,.v (vInt 25)]
 |none,false=>.tup [.v .nilp,.v (vInt 27)]
 |none,true=>.tup [.ref [26,0,11,0,11,0] 0,.v (vInt 0)]
theorem rI(x:Vw)(k:Int):rK none true x k=rz (gh x k) [11,0,11,0]:=rfl
theorem rJ(x:Vw)(k:Int):rK none false x k=[]:=rfl
theorem zL(p:Int×Int)(b:Bool)(x:Vw)(k:Int):rK (some p) b x k=[]:=by cases b<;>rfl
theorem rF:rH none true=.tup [.ref [26,0,11,0,11,0] 0,.v (vInt 0)]:=rfl
theorem rG:rH none false=.tup [.v .nilp,.v (vInt 27)]:=rfl
theorem zJ(p:Int×Int)(b:Bool):rH (some p) b=.tup [.v .nilp,.v (vInt 25)]:=by cases b<;>rfl
def K30d:List (Nat×Spec):=[(121,S121),(122,S122),(128,S128)]
theorem Y7:KS K30d:=tc Bh<|tc Bg<|tc Bf<|tn
attribute [go_sem] K30d
def zj:NSpec:=n2 lG iI (fun l _=>b7 l) (fun l k=>rK (ek (aC l k)) (fM (aC l k) (bm (aC l k).l k)) (aC l k) k) (fun l k=>rH (ek (aC l k)) (fM (aC l k) (bm (aC l k).l k)))
def S78:Spec:=zj.toSpec
attribute [go_sem] zj S78
theorem Sm:aL Tryz.prog 78 S78:=by
 refine Ay (nt:=24) (rs:=[.tmp 4,.tmp 5]) Tryz.func78 rfl (by rfl) (by kernel_rfl) (by kernel_rfl) (by decide) ?_
 intro xs hp
 obtain⟨l,k,rfl,hp,et,er⟩:=AF hp
 replace et:zj.new _=_:=et
 replace er:zj.d _=_:=er
 rw[et,er]
 clear et er
 refine⟨lb rfl,?_⟩
 simp only[iI,iB,ev,iP,iR,iT,iS,iL,lG,eM,iC,iF,cK,encR,c9,encS,fY,ie,List.map_cons,List.map_nil,cN,Nat.zero_add]
 have hΓ:=Y7
 obtain⟨hv,b9⟩:=nw hp k
 obtain⟨uI,sv⟩:=EB hv.ok k
 repeat refine sq ?_
 refine rx hΓ [0,1] [] (fun K' hK=>by simp only[go_sem];exact ao) ?_
 rcases bR:ek (aC l k)with _ | p
 ·repeat refine sq ?_
  refine rx hΓ [1,6,7] [[26,0,11,0,11,0],[23,0,11,0,11,0],[24,0,11,0,11,0]] (fun K' hK=>by simp only[go_sem,bR,ej,ei];exact ao) ?_
  repeat refine sq ?_
  refine rx hΓ [1,6,7,15] [[26,0,11,0,11,0],[23,0,11,0,11,0],[24,0,11,0,11,0]] (fun K' hK=>by simp only[go_sem,bR,ej,ei];exact ao) ?_
  repeat refine sq ?_
  refine aB (fun hb=>?_) fun hb=>?_
  ·cases hb
  ·repeat refine sq ?_
   refine aG ?_
   repeat refine sq ?_
   refine rx hΓ [6,22] [[26,0,11,0,11,0],[23,0,11,0,11,0],[24,0,11,0,11,0]] (fun K' hK=>by simp only[go_sem,bR,ej,ei];(repeat (refine⟨by first | exact ak | exact hv.ok.ssn | exact⟨⟨⟨hv,b9⟩,uI⟩,sv⟩,?_⟩));exact fe) ?_
   repeat refine sq ?_
   refine aB (fun hb=>?_) fun hb=>?_
   ·repeat refine sq ?_
    have hf:fM (aC l k) (bm (aC l k).l k)=false:=by simpa using hb
    repeat refine sq ?_
    refine rx hΓ [4,5] [[26,0,11,0,11,0],[23,0,11,0,11,0],[24,0,11,0,11,0]] (fun K' hK=>by simp only[go_sem,bR,ej,ei];exact ao) ?_
    refine ay ?_
    simp only[go_sem,rI,rJ,zL,rF,rG,zJ]
    all_goals first | done | rfl | (rw[hf];simp only[go_sem,rI,rJ,rF,rG,gh];done) | trace_state
   ·repeat refine sq ?_
    have hf:fM (aC l k) (bm (aC l k).l k)=true:=by simpa using hb
    refine aG ?_
    repeat refine sq ?_
    refine rx hΓ [4,5] [[26,0,11,0,11,0],[23,0,11,0,11,0],[24,0,11,0,11,0]] (fun K' hK=>by simp only[go_sem,bR,ej,ei];exact ao) ?_
    refine ay ?_
    simp only[go_sem,rI,rJ,zL,rF,rG,zJ]
    all_goals first | done | rfl | (rw[hf];simp only[go_sem,rI,rJ,rF,rG,gh];done) | trace_state
 ·repeat refine sq ?_
  refine rx hΓ [1,6,7] [[26,0,11,0,11,0],[23,0,11,0,11,0],[24,0,11,0,11,0]] (fun K' hK=>by simp only[go_sem,bR,pt,pr];exact ao) ?_
  repeat refine sq ?_
  refine rx hΓ [1,6,7,15] [[26,0,11,0,11,0],[23,0,11,0,11,0],[24,0,11,0,11,0]] (fun K' hK=>by simp only[go_sem,bR,pt,pr];exact ao) ?_
  repeat refine sq ?_
  refine aB (fun hb=>?_) fun hb=>?_
  ·repeat refine sq ?_
   refine rx hΓ [4,5] [[26,0,11,0,11,0],[23,0,11,0,11,0],[24,0,11,0,11,0]] (fun K' hK=>by simp only[go_sem,bR,pt,pr];exact ao) ?_
   refine ay ?_
   simp only[go_sem,rI,rJ,zL,rF,rG,zJ]
   all_goals first | done | rfl | (rw[hf];simp only[go_sem,rI,rJ,rF,rG,gh];done) | trace_state
  ·cases hb
end
set_option maxHeartbeats 8000000
noncomputable section
theorem mu(l:Led)(k:Int):(aC l k).l=l:=(pU l k l.ts.length).1
theorem vm{l:Led}{ds:List Int}(h:cM l ds=0):b7 l/\∀ d∈ds,dayB d=true:=by
 unfold cM at h
 split at h
 ·rename_i hc
  refine⟨?_,?_⟩
  ·refine Classical.byContradiction fun hn=>?_
   rw[vo hn]at hc;cases hc
  ·unfold fW at h
   split at h
   ·rename_i hd
    intro d Uh
    have :(ds.any fun d=>!dayB d)=false:=by simpa using hd
    rw[List.any_eq_false]at this
    have :=this d Uh
    simpa using this
   ·cases h
 ·rename_i hc;exact(hc h).elim
def mZ(l:Led)(i:Int):Int:=(aI l i.toNat).so
def ot(l:Led)(k:Int):V:=if cM l [k]=0 then .tup [.sl ((((aC l k).ts).map (mZ l)).map vInt),vInt 0]else .tup [.sl [],vInt (cM l [k])]
def pg(l:Led)(k:Int):V:=if cM l [k]=0 then(match ek (aC l k)with | some p=>.tup [.sl [vInt p.1,vInt p.2],vInt 0] | none=>.tup [.sl [],vInt 28])else .tup [.sl [],vInt (cM l [k])]
def tw(l:Led)(k:Int):Bool:=(ek (aC l k)).isNone&&fM (aC l k) (bm (aC l k).l k)
def K31:List (Nat×Spec):=[(75,ma),(76,S76),(120,S120),(121,S121),(122,S122),(128,S128),(77,S77),(129,S129)]
theorem Mg:KS K31:=tc zR.sound<|tc Bc<|tc Io<|tc Bh<|tc Bg<|tc Bf<|tc Ij<|tc Im<|tn
attribute [go_sem] K31
@[go_sem] def P42:PSpec:=p2 iL iI (fun _ _=>True) (fun l k=>pg l k) false
@[go_sem] def Xy:Spec:=P42.toSpec
theorem N2:aU Tryz.prog 42 P42:=by
 refine dV (rs:=[.tmp 4,.tmp 5]) Tryz.func42 Tryz.ntmps42 fun l k hp hw=>?_
 simp only[iI,iL,fY]at hw |-
 have hΓ:=Mg
 repeat refine sq ?_
 refine rx hΓ [1,2] [[2,0]] (fun K' hK=>by simp only[go_sem];exact ao) ?_
 refine bU (dH 2 (.ref [2,0] 0) (by simp only[go_sem]) (by simp only[go_sem]) [1,2] [[2,0]] ?_ rfl) ?_
 ·simp only[go_sem]
 simp only[go_sem]
 repeat refine sq ?_
 refine rx hΓ [1,2,6] [[2,0]] (fun K' hK=>by simp only[go_sem];exact ao) ?_
 repeat refine sq ?_
 refine rx hΓ [1,2,6,14] [[2,0]] (fun K' hK=>by simp only[go_sem];exact ao) ?_
 repeat refine sq ?_
 refine aB (fun hb=>?_) fun hb=>?_
 ·repeat refine sq ?_
  have hc:¬ cM l [k]=0:=by simpa using hb
  unfold pg;rw[if_neg hc]
  repeat refine sq ?_
  refine rx hΓ [4,5] [] (fun K' hK=>by simp only[go_sem];exact ao) ?_
  refine ay ?_
  simp only[go_sem]
  all_goals exact dp
 ·repeat refine sq ?_
  have hc:cM l [k]=0:=by simpa using hb
  unfold pg;rw[if_pos hc]
  obtain⟨aa,_⟩:=vm hc
  obtain⟨hv,b9⟩:=nw aa k
  refine aG ?_
  rcases bR:ek (aC l k)with _ | p
  ·repeat refine sq ?_
   refine rx hΓ [7,8] [] (fun K' hK=>by simp only[go_sem,bR,rS];(repeat (refine⟨by first | exact ak | exact hv,?_⟩));exact fe) ?_
   repeat refine sq ?_
   refine rx hΓ [7,23] [] (fun K' hK=>by simp only[go_sem,bR,rS];exact ao) ?_
   repeat refine sq ?_
   refine aB (fun hb=>?_) fun hb=>?_
   ·repeat refine sq ?_
    refine rx hΓ [4,5] [] (fun K' hK=>by simp only[go_sem,bR,rS];exact ao) ?_
    refine ay ?_
    simp only[go_sem]
    all_goals exact dp
   ·cases hb
  ·repeat refine sq ?_
   refine rx hΓ [7,8] [] (fun K' hK=>by simp only[go_sem,bR,rR];(repeat (refine⟨by first | exact ak | exact hv,?_⟩));exact fe) ?_
   repeat refine sq ?_
   refine rx hΓ [7,23] [] (fun K' hK=>by simp only[go_sem,bR,rR];exact ao) ?_
   repeat refine sq ?_
   refine aB (fun hb=>?_) fun hb=>?_
   ·cases hb
   ·repeat refine sq ?_
    refine aG ?_
    repeat refine sq ?_
    refine rx hΓ [4,5] [] (fun K' hK=>by simp only[go_sem,bR,rR];exact ao) ?_
    refine ay ?_
    simp only[go_sem]
    all_goals exact dp
@[go_sem] def P41:PSpec:=p2 iL iI (fun _ _=>True) (fun l k=>ot l k) false
@[go_sem] def LX:Spec:=P41.toSpec
theorem N3:aU Tryz.prog 41 P41:=by
 refine dV (rs:=[.tmp 4,.tmp 5]) Tryz.func41 Tryz.ntmps41 fun l k hp hw=>?_
 simp only[iI,iL,fY]at hw |-
 have hΓ:=Mg
 repeat refine sq ?_
 refine rx hΓ [1,2] [[2,0]] (fun K' hK=>by simp only[go_sem];exact ao) ?_
 refine bU (dH 2 (.ref [2,0] 0) (by simp only[go_sem]) (by simp only[go_sem]) [1,2] [[2,0]] ?_ rfl) ?_
 ·simp only[go_sem]
 simp only[go_sem]
 repeat refine sq ?_
 refine rx hΓ [1,2,6] [[2,0]] (fun K' hK=>by simp only[go_sem];exact ao) ?_
 repeat refine sq ?_
 refine rx hΓ [1,2,6,15] [[2,0]] (fun K' hK=>by simp only[go_sem];exact ao) ?_
 repeat refine sq ?_
 refine aB (fun hb=>?_) fun hb=>?_
 ·repeat refine sq ?_
  have hc:¬ cM l [k]=0:=by simpa using hb
  unfold ot;rw[if_neg hc]
  repeat refine sq ?_
  refine rx hΓ [4,5] [[35,0]] (fun K' hK=>by simp only[go_sem];exact ao) ?_
  refine ay ?_
  simp only[go_sem]
  all_goals exact dp
 ·repeat refine sq ?_
  have hc:cM l [k]=0:=by simpa using hb
  unfold ot;rw[if_pos hc]
  obtain⟨aa,_⟩:=vm hc
  obtain⟨hv,b9⟩:=nw aa k
  have mz:(aC l k).ts.length<=maxLen:=by have:=hv.tn;unfold maxLen;omega
  refine aG ?_
  repeat refine sq ?_
  refine rx hΓ [1,2,7] [[2,0],[35,0]] (fun K' hK=>by simp only[go_sem];exact ao) ?_
  refine bU (vO 7 [35,0] 1 (by simp only[go_sem]) (by simp only[go_sem]) [1,2,7] [[2,0],[35,0]] ?_ rfl) ?_
  ·simp only[go_sem]
  simp only[go_sem]
  repeat refine sq ?_
  refine rx hΓ [2,7,21,22,23] [[2,0],[35,0]] (fun K' hK=>by simp only[go_sem];exact ao) ?_
  repeat refine sq ?_
  refine aQ ?_
  repeat refine sq ?_
  refine cr (fun s:Nat=>[(23,⟨true,.v (vInt s)⟩),(7,⟨true,.msl [35,0] s⟩)]) (fun s=>[([35,0],.arr 1 ((((aC l k).ts.take s).map (mZ l)).map vInt))]) (fun s=>s<=(aC l k).ts.length) (fun s=>(aC l k).ts.length-s) 0 ?_ ?_ ?_ ?_
  ·exact Nat.zero_le _
  ·rfl
  ·rfl
  rintro i hi
  simp only[go_sem]
  repeat refine sq ?_
  refine rx hΓ [2,7,21,22,23,24] [[2,0],[35,0]] (fun K' hK=>by simp only[go_sem];exact ao) ?_
  repeat refine sq ?_
  refine aB (fun hb=>?_) fun hb=>?_
  ·have ae:i<(aC l k).ts.length:=by simpa using hb
   have au:(i:Int)<(aC l k).ts.length:=by omega
   clear hb
   have xl:=hv.tn
   obtain⟨cj,gm⟩:=hv.ts _ (List.getElem_mem ae)
   rw[mu]at gm
   have jh:=zA (l:=l) cj gm
   have Tu:min i (aC l k).ts.length=i:=by omega
   have hT:((((aC l k).ts.take (i+1)).map (mZ l)).map vInt)=(((aC l k).ts.take i).map (mZ l)).map vInt++[vInt (aI l ((aC l k).ts[i]).toNat).so]:=by
    rw[MW ae];simp[mZ]
   repeat refine sq ?_
   refine aG ?_
   repeat refine sq ?_
   refine aQ ?_
   repeat refine sq ?_
   refine rx hΓ [2,7,9,21,22,23] [[2,0],[35,0]] (fun K' hK=>by simp only[go_sem,ah ae,ai,aj,au];exact ao) ?_
   repeat refine sq ?_
   refine aY hΓ fun K' hK=>?_
   simp only[go_sem,ah ae,ai,aj,au,jh,cj,gm,List.length_take,List.length_map,Tu]
   repeat (refine⟨ak,?_⟩)
   refine hK _ ?_
   clear K' hK
   simp only[go_sem]
   refine kp [2,7,21,22,23] [[2,0],[35,0]] ?_
   repeat refine sq ?_
   refine aY hΓ fun K' hK=>?_
   simp only[go_sem,ah ae,ai,aj,au]
   repeat (refine⟨ak,?_⟩)
   refine hK _ ?_
   clear K' hK
   simp only[go_sem]
   refine⟨i+1,ae,by(show (aC l k).ts.length-(i+1)<(aC l k).ts.length-i;omega),?_⟩
   refine bq [2,7,21,22,23] [[2,0],[35,0]] ?_ ?_<;>simp only[go_sem,be ae mz,bj,hT]
  ·have bw:i=(aC l k).ts.length:=by
    have :¬ (i:Int)<(aC l k).ts.length:=by simpa using hb
    omega
   clear hb
   subst bw
   repeat refine sq ?_
   refine bM ?_
   simp only[go_sem]
   refine kp [7] [[35,0]] ?_
   repeat refine sq ?_
   refine rx hΓ [4,5] [[35,0]] (fun K' hK=>by simp only[go_sem,List.take_length];exact ao) ?_
   refine ay ?_
   simp only[go_sem]
   all_goals exact dp
end
noncomputable section
def Y6:List (Nat×Spec):=[(75,ma),(76,S76)]
attribute [go_sem] Y6
def rq(x:Vw)(pa le day:Int):List Int:=match gN x.rs pa le day with
 |none=>[0]
 |some r=>match bt x.bk (r.so,le)with
  |none=>[r.bo]
  |some i=>(if (bI x.ds i).1<=day then[0]else[])++(if (bI x.ds i).2>day then[r.bo]else[])
def K32b:List (Nat×Spec):=[(119,S119)]
theorem Y5:KS K32b:=tc Ip<|tn
attribute [go_sem] K32b
def LJ:VSpec:=v2 jL iI (fun x _ _=>l9 x/\x.rs.Nodup) (fun x f day=>.v (.sl ((rq x f.pa f.le day).map vInt))) none
def S80:Spec:=LJ.toSpec
attribute [go_sem] LJ S80
set_option maxHeartbeats 8000000 in
theorem Sl:aL Tryz.prog 80 S80:=by
 refine vR (rs:=[.tmp 6]) Tryz.func80 Tryz.ntmps80 (by rfl) (by kernel_rfl) (by decide) (fun _ _ _=>by first | rfl | simp[D.clos,D.closL,km]) ⟨_,rfl,lb rfl,fun x f day hp H h0 h1 h2 hO ab=>?_⟩
 have hP:=fB
 simp only[jL,iI,lZ,bp,cN,List.map_cons,List.map_nil,Nat.zero_add,Option.map_some,Option.map_none]at h0 |-
 have hΓ:=Y5
 obtain⟨pa,le⟩:=f
 have jM:rq x pa le day=match gN x.rs pa le day with
  |none=>[0]
  |some r=>match bt x.bk (r.so,le)with
   |none=>[r.bo]
   |some i=>(if (bI x.ds i).1<=day then[0]else[])++(if (bI x.ds i).2>day then[r.bo]else[]):=rfl
 rw[jM]
 clear jM
 repeat refine sq ?_
 refine rx hΓ [0,2,4] [[4,0]] (fun K' hK=>by simp only[go_sem,hO,ab,h0,h1,h2];(repeat (refine⟨ak,?_⟩));exact hK _ (by simp only[go_sem,hO,ab,h0,h1,h2]) (by simp only[go_sem,hO,ab,h0,h1,h2]<;>rfl)) ?_
 rcases aq:gN x.rs pa le day with _ | r
 ·repeat refine sq ?_
  refine rx hΓ [0,2,4,7,8] [[4,0],[7,0]] (fun K' hK=>by simp only[go_sem,hO,ab,h0,h1,h2,aq,bg,Option.isSome_none];(repeat (refine⟨ak,?_⟩));exact hK _ (by simp only[go_sem,hO,ab,h0,h1,h2,aq,bg,Option.isSome_none]) (by simp only[go_sem,hO,ab,h0,h1,h2,aq,bg,Option.isSome_none]<;>rfl)) ?_
  repeat refine sq ?_
  refine rx hΓ [0,2,4,7,20] [[4,0],[7,0]] (fun K' hK=>by simp only[go_sem,hO,ab,h0,h1,h2,aq,bg,Option.isSome_none];(repeat (refine⟨ak,?_⟩));exact hK _ (by simp only[go_sem,hO,ab,h0,h1,h2,aq,bg,Option.isSome_none]) (by simp only[go_sem,hO,ab,h0,h1,h2,aq,bg,Option.isSome_none]<;>rfl)) ?_
  repeat refine sq ?_
  refine aB (fun hb=>?_) fun hb=>?_
  ·repeat refine sq ?_
   refine rx hΓ [6] [[51,0],[65,0]] (fun K' hK=>by simp only[go_sem,hO,ab,h0,h1,h2,aq,bg,Option.isSome_none];(repeat (refine⟨ak,?_⟩));exact hK _ (by simp only[go_sem,hO,ab,h0,h1,h2,aq,bg,Option.isSome_none]) (by simp only[go_sem,hO,ab,h0,h1,h2,aq,bg,Option.isSome_none]<;>rfl)) ?_
   refine ay ?_
   simp only[go_sem,hO,ab,h0,h1,h2]
   all_goals first | rfl | (simp only[aP];rfl) | (simp_all;done) | trace_state
  ·cases hb
 ·repeat refine sq ?_
  refine rx hΓ [0,2,4,7,8] [[4,0],[7,0]] (fun K' hK=>by simp only[go_sem,hO,ab,h0,h1,h2,aq,aF,Option.isSome_some];(repeat (refine⟨ak,?_⟩));exact hK _ (by simp only[go_sem,hO,ab,h0,h1,h2,aq,aF,Option.isSome_some]) (by simp only[go_sem,hO,ab,h0,h1,h2,aq,aF,Option.isSome_some]<;>rfl)) ?_
  repeat refine sq ?_
  refine rx hΓ [0,2,4,7,20] [[4,0],[7,0]] (fun K' hK=>by simp only[go_sem,hO,ab,h0,h1,h2,aq,aF,Option.isSome_some];(repeat (refine⟨ak,?_⟩));exact hK _ (by simp only[go_sem,hO,ab,h0,h1,h2,aq,aF,Option.isSome_some]) (by simp only[go_sem,hO,ab,h0,h1,h2,aq,aF,Option.isSome_some]<;>rfl)) ?_
  repeat refine sq ?_
  refine aB (fun hb=>?_) fun hb=>?_
  ·cases hb
  ·repeat refine sq ?_
   refine aG ?_
   rcases aP:bt x.bk (r.so,le)with _ | j
   ·repeat refine sq ?_
    refine dx hΓ hP [[],[0],[0,1],[0,1,2],[],[4],[],[6],[4,5,6,7],u9,dI,fO,fO,gd,lf] [0,2,7,9,10] [[7,0]] (by kernel_rfl) (fun K' hK=>by simp only[go_sem,hO,ab,h0,h1,h2,aq,aF,Option.isSome_some,av,aP,Option.map_none,Option.isSome_none,Option.getD_none];(repeat (refine⟨ak,?_⟩));(first | refine⟨by rfl,?_⟩ | skip);exact hK _ (by simp only[go_sem,hO,ab,h0,h1,h2,aq,aF,Option.isSome_some,av,aP,Option.map_none,Option.isSome_none,Option.getD_none]) (by simp only[go_sem,hO,ab,h0,h1,h2,aq,aF,Option.isSome_some,av,aP,Option.map_none,Option.isSome_none,Option.getD_none]<;>rfl)) ?_
    repeat refine sq ?_
    refine rx hΓ [0,2,7,9,36] [[7,0]] (fun K' hK=>by simp only[go_sem,hO,ab,h0,h1,h2,aq,aF,Option.isSome_some,av,aP,Option.map_none,Option.isSome_none,Option.getD_none];(repeat (refine⟨ak,?_⟩));exact hK _ (by simp only[go_sem,hO,ab,h0,h1,h2,aq,aF,Option.isSome_some,av,aP,Option.map_none,Option.isSome_none,Option.getD_none]) (by simp only[go_sem,hO,ab,h0,h1,h2,aq,aF,Option.isSome_some,av,aP,Option.map_none,Option.isSome_none,Option.getD_none]<;>rfl)) ?_
    repeat refine sq ?_
    refine aB (fun hb=>?_) fun hb=>?_
    ·repeat refine sq ?_
     refine rx hΓ [6] [[51,0],[65,0]] (fun K' hK=>by simp only[go_sem,hO,ab,h0,h1,h2,aq,aF,Option.isSome_some,av,aP,Option.map_none,Option.isSome_none,Option.getD_none];(repeat (refine⟨ak,?_⟩));exact hK _ (by simp only[go_sem,hO,ab,h0,h1,h2,aq,aF,Option.isSome_some,av,aP,Option.map_none,Option.isSome_none,Option.getD_none]) (by simp only[go_sem,hO,ab,h0,h1,h2,aq,aF,Option.isSome_some,av,aP,Option.map_none,Option.isSome_none,Option.getD_none]<;>rfl)) ?_
     refine ay ?_
     simp only[go_sem,hO,ab,h0,h1,h2]
     all_goals first | rfl | (simp only[aP];rfl) | (simp_all;done) | trace_state
    ·cases hb
   ·repeat refine sq ?_
    refine dx hΓ hP [[],[0],[0,1],[0,1,2],[],[4],[],[6],[4,5,6,7],u9,dI,fO,fO,gd,lf] [0,2,7,9,10] [[7,0]] (by kernel_rfl) (fun K' hK=>by simp only[go_sem,hO,ab,h0,h1,h2,aq,aF,Option.isSome_some,av,aP,Option.map_some,Option.isSome_some,Option.getD_some];(repeat (refine⟨ak,?_⟩));(first | refine⟨by rfl,?_⟩ | skip);exact hK _ (by simp only[go_sem,hO,ab,h0,h1,h2,aq,aF,Option.isSome_some,av,aP,Option.map_some,Option.isSome_some,Option.getD_some]) (by simp only[go_sem,hO,ab,h0,h1,h2,aq,aF,Option.isSome_some,av,aP,Option.map_some,Option.isSome_some,Option.getD_some]<;>rfl)) ?_
    repeat refine sq ?_
    refine rx hΓ [0,2,7,9,36] [[7,0]] (fun K' hK=>by simp only[go_sem,hO,ab,h0,h1,h2,aq,aF,Option.isSome_some,av,aP,Option.map_some,Option.isSome_some,Option.getD_some];(repeat (refine⟨ak,?_⟩));exact hK _ (by simp only[go_sem,hO,ab,h0,h1,h2,aq,aF,Option.isSome_some,av,aP,Option.map_some,Option.isSome_some,Option.getD_some]) (by simp only[go_sem,hO,ab,h0,h1,h2,aq,aF,Option.isSome_some,av,aP,Option.map_some,Option.isSome_some,Option.getD_some]<;>rfl)) ?_
    repeat refine sq ?_
    refine aB (fun hb=>?_) fun hb=>?_
    ·cases hb
    ·repeat refine sq ?_
     refine aG ?_
     repeat refine sq ?_
     refine rx hΓ [0,2,7,9,11] [[7,0],[51,0],[65,0]] (fun K' hK=>by simp only[go_sem,hO,ab,h0,h1,h2,aq,aF,Option.isSome_some,av,aP,Option.map_some,Option.isSome_some,Option.getD_some];(repeat (refine⟨ak,?_⟩));exact hK _ (by simp only[go_sem,hO,ab,h0,h1,h2,aq,aF,Option.isSome_some,av,aP,Option.map_some,Option.isSome_some,Option.getD_some]) (by simp only[go_sem,hO,ab,h0,h1,h2,aq,aF,Option.isSome_some,av,aP,Option.map_some,Option.isSome_some,Option.getD_some]<;>rfl)) ?_
     refine bU (vO 11 [51,0] 1 (by simp only[go_sem]) (by simp only[go_sem]) [0,2,7,9,11] [[7,0],[51,0],[65,0]] ?_ rfl) ?_
     ·simp only[go_sem,hO,ab,h0,h1,h2]
     simp only[go_sem,hO,ab,h0,h1,h2]
     repeat refine sq ?_
     refine rx hΓ [0,2,7,9,11,48] [[7,0],[51,0],[65,0]] (fun K' hK=>by simp only[go_sem,hO,ab,h0,h1,h2,aq,aF,Option.isSome_some,av,aP,Option.map_some,Option.isSome_some,Option.getD_some,iG];(repeat (refine⟨ak,?_⟩));exact hK _ (by simp only[go_sem,hO,ab,h0,h1,h2,aq,aF,Option.isSome_some,av,aP,Option.map_some,Option.isSome_some,Option.getD_some,iG]) (by simp only[go_sem,hO,ab,h0,h1,h2,aq,aF,Option.isSome_some,av,aP,Option.map_some,Option.isSome_some,Option.getD_some,iG]<;>rfl)) ?_
     repeat refine sq ?_
     refine aB (fun hb=>?_) fun hb=>?_
     ·repeat refine sq ?_
      refine rx hΓ [0,2,7,9,11] [[7,0],[51,0],[65,0]] (fun K' hK=>by simp only[go_sem,hO,ab,h0,h1,h2,aq,aF,Option.isSome_some,av,aP,Option.map_some,Option.isSome_some,Option.getD_some];(repeat (refine⟨ak,?_⟩));exact hK _ (by simp only[go_sem,hO,ab,h0,h1,h2,aq,aF,Option.isSome_some,av,aP,Option.map_some,Option.isSome_some,Option.getD_some]) (by simp only[go_sem,hO,ab,h0,h1,h2,aq,aF,Option.isSome_some,av,aP,Option.map_some,Option.isSome_some,Option.getD_some]<;>rfl)) ?_
      repeat refine sq ?_
      refine rx hΓ [7,11,60] [[7,0],[51,0],[65,0]] (fun K' hK=>by simp only[go_sem,hO,ab,h0,h1,h2,aq,aF,Option.isSome_some,av,aP,Option.map_some,Option.isSome_some,Option.getD_some,iG];(repeat (refine⟨ak,?_⟩));exact hK _ (by simp only[go_sem,hO,ab,h0,h1,h2,aq,aF,Option.isSome_some,av,aP,Option.map_some,Option.isSome_some,Option.getD_some,iG]) (by simp only[go_sem,hO,ab,h0,h1,h2,aq,aF,Option.isSome_some,av,aP,Option.map_some,Option.isSome_some,Option.getD_some,iG]<;>rfl)) ?_
      repeat refine sq ?_
      refine aB (fun hb=>?_) fun hb=>?_
      ·repeat refine sq ?_
       refine rx hΓ [11] [[51,0],[65,0]] (fun K' hK=>by simp only[go_sem,hO,ab,h0,h1,h2,aq,aF,Option.isSome_some,av,aP,Option.map_some,Option.isSome_some,Option.getD_some];(repeat (refine⟨ak,?_⟩));exact hK _ (by simp only[go_sem,hO,ab,h0,h1,h2,aq,aF,Option.isSome_some,av,aP,Option.map_some,Option.isSome_some,Option.getD_some]) (by simp only[go_sem,hO,ab,h0,h1,h2,aq,aF,Option.isSome_some,av,aP,Option.map_some,Option.isSome_some,Option.getD_some]<;>rfl)) ?_
       repeat refine sq ?_
       refine rx hΓ [6] [[51,0],[65,0]] (fun K' hK=>by simp only[go_sem,hO,ab,h0,h1,h2,aq,aF,Option.isSome_some,av,aP,Option.map_some,Option.isSome_some,Option.getD_some];(repeat (refine⟨ak,?_⟩));exact hK _ (by simp only[go_sem,hO,ab,h0,h1,h2,aq,aF,Option.isSome_some,av,aP,Option.map_some,Option.isSome_some,Option.getD_some]) (by simp only[go_sem,hO,ab,h0,h1,h2,aq,aF,Option.isSome_some,av,aP,Option.map_some,Option.isSome_some,Option.getD_some]<;>rfl)) ?_
       first | refine bU (dH 6 (.msl [51,0] 2) rfl (by simp only[go_sem]) [6] [] ?_ rfl) ?_ | refine bU (dH 6 (.msl [51,0] 1) rfl (by simp only[go_sem]) [6] [] ?_ rfl) ?_ | refine bU (dH 6 (.msl [51,0] 0) rfl (by simp only[go_sem]) [6] [] ?_ rfl) ?_
       ·simp only[go_sem,hO,h0,h1,h2]
       simp only[go_sem,hO,h0,h1,h2]
       refine ay ?_
       simp only[go_sem,hO,ab,h0,h1,h2]
       all_goals first | rfl | (simp only[aP];rfl) | (simp_all;done) | trace_state
      ·repeat refine sq ?_
       refine aG ?_
       repeat refine sq ?_
       refine rx hΓ [6] [[51,0],[65,0]] (fun K' hK=>by simp only[go_sem,hO,ab,h0,h1,h2,aq,aF,Option.isSome_some,av,aP,Option.map_some,Option.isSome_some,Option.getD_some];(repeat (refine⟨ak,?_⟩));exact hK _ (by simp only[go_sem,hO,ab,h0,h1,h2,aq,aF,Option.isSome_some,av,aP,Option.map_some,Option.isSome_some,Option.getD_some]) (by simp only[go_sem,hO,ab,h0,h1,h2,aq,aF,Option.isSome_some,av,aP,Option.map_some,Option.isSome_some,Option.getD_some]<;>rfl)) ?_
       first | refine bU (dH 6 (.msl [51,0] 2) rfl (by simp only[go_sem]) [6] [] ?_ rfl) ?_ | refine bU (dH 6 (.msl [51,0] 1) rfl (by simp only[go_sem]) [6] [] ?_ rfl) ?_ | refine bU (dH 6 (.msl [51,0] 0) rfl (by simp only[go_sem]) [6] [] ?_ rfl) ?_
       ·simp only[go_sem,hO,h0,h1,h2]
       simp only[go_sem,hO,h0,h1,h2]
       refine ay ?_
       simp only[go_sem,hO,ab,h0,h1,h2]
       all_goals first | rfl | (simp only[aP];rfl) | (simp_all;done) | trace_state
     ·repeat refine sq ?_
      refine aG ?_
      repeat refine sq ?_
      refine rx hΓ [7,11,60] [[7,0],[51,0],[65,0]] (fun K' hK=>by simp only[go_sem,hO,ab,h0,h1,h2,aq,aF,Option.isSome_some,av,aP,Option.map_some,Option.isSome_some,Option.getD_some,iG];(repeat (refine⟨ak,?_⟩));exact hK _ (by simp only[go_sem,hO,ab,h0,h1,h2,aq,aF,Option.isSome_some,av,aP,Option.map_some,Option.isSome_some,Option.getD_some,iG]) (by simp only[go_sem,hO,ab,h0,h1,h2,aq,aF,Option.isSome_some,av,aP,Option.map_some,Option.isSome_some,Option.getD_some,iG]<;>rfl)) ?_
      repeat refine sq ?_
      refine aB (fun hb=>?_) fun hb=>?_
      ·repeat refine sq ?_
       refine rx hΓ [11] [[51,0],[65,0]] (fun K' hK=>by simp only[go_sem,hO,ab,h0,h1,h2,aq,aF,Option.isSome_some,av,aP,Option.map_some,Option.isSome_some,Option.getD_some];(repeat (refine⟨ak,?_⟩));exact hK _ (by simp only[go_sem,hO,ab,h0,h1,h2,aq,aF,Option.isSome_some,av,aP,Option.map_some,Option.isSome_some,Option.getD_some]) (by simp only[go_sem,hO,ab,h0,h1,h2,aq,aF,Option.isSome_some,av,aP,Option.map_some,Option.isSome_some,Option.getD_some]<;>rfl)) ?_
       repeat refine sq ?_
       refine rx hΓ [6] [[51,0],[65,0]] (fun K' hK=>by simp only[go_sem,hO,ab,h0,h1,h2,aq,aF,Option.isSome_some,av,aP,Option.map_some,Option.isSome_some,Option.getD_some];(repeat (refine⟨ak,?_⟩));exact hK _ (by simp only[go_sem,hO,ab,h0,h1,h2,aq,aF,Option.isSome_some,av,aP,Option.map_some,Option.isSome_some,Option.getD_some]) (by simp only[go_sem,hO,ab,h0,h1,h2,aq,aF,Option.isSome_some,av,aP,Option.map_some,Option.isSome_some,Option.getD_some]<;>rfl)) ?_
       first | refine bU (dH 6 (.msl [51,0] 2) rfl (by simp only[go_sem]) [6] [] ?_ rfl) ?_ | refine bU (dH 6 (.msl [51,0] 1) rfl (by simp only[go_sem]) [6] [] ?_ rfl) ?_ | refine bU (dH 6 (.msl [51,0] 0) rfl (by simp only[go_sem]) [6] [] ?_ rfl) ?_
       ·simp only[go_sem,hO,h0,h1,h2]
       simp only[go_sem,hO,h0,h1,h2]
       refine ay ?_
       simp only[go_sem,hO,ab,h0,h1,h2]
       all_goals first | rfl | (simp only[aP];rfl) | (simp_all;done) | trace_state
      ·repeat refine sq ?_
       refine aG ?_
       repeat refine sq ?_
       refine rx hΓ [6] [[51,0],[65,0]] (fun K' hK=>by simp only[go_sem,hO,ab,h0,h1,h2,aq,aF,Option.isSome_some,av,aP,Option.map_some,Option.isSome_some,Option.getD_some];(repeat (refine⟨ak,?_⟩));exact hK _ (by simp only[go_sem,hO,ab,h0,h1,h2,aq,aF,Option.isSome_some,av,aP,Option.map_some,Option.isSome_some,Option.getD_some]) (by simp only[go_sem,hO,ab,h0,h1,h2,aq,aF,Option.isSome_some,av,aP,Option.map_some,Option.isSome_some,Option.getD_some]<;>rfl)) ?_
       first | refine bU (dH 6 (.msl [51,0] 2) rfl (by simp only[go_sem]) [6] [] ?_ rfl) ?_ | refine bU (dH 6 (.msl [51,0] 1) rfl (by simp only[go_sem]) [6] [] ?_ rfl) ?_ | refine bU (dH 6 (.msl [51,0] 0) rfl (by simp only[go_sem]) [6] [] ?_ rfl) ?_
       ·simp only[go_sem,hO,h0,h1,h2]
       simp only[go_sem,hO,h0,h1,h2]
       refine ay ?_
       simp only[go_sem,hO,ab,h0,h1,h2]
       all_goals first | rfl | (simp only[aP];rfl) | (simp_all;done) | trace_state
end
noncomputable section
def eS(l:Led)(k:Int):Int:=M6 (ek (aC l k)) (fM (aC l k) (bm (aC l k).l k))
theorem M5{l:Led}{k:Int}(h:tw l k=false):rK (ek (aC l k)) (fM (aC l k) (bm (aC l k).l k)) (aC l k) k=[]/\rH (ek (aC l k)) (fM (aC l k) (bm (aC l k).l k))=.tup [.v .nilp,.v (vInt (eS l k))]/\(eS l k != 0)=true:=by
 unfold tw at h
 unfold eS
 cases hp:ek (aC l k)with
 |some p=>
  cases fM (aC l k) (bm (aC l k).l k)<;>exact⟨rfl,rfl,rfl⟩
 |none=>
  rw[hp]at h
  have h2:fM (aC l k) (bm (aC l k).l k)=false:=by simpa using h
  rw[h2]
  exact⟨rfl,rfl,rfl⟩
theorem M4{l:Led}{k:Int}(h:tw l k=true):rK (ek (aC l k)) (fM (aC l k) (bm (aC l k).l k)) (aC l k) k=rz (gh (aC l k) k) [11,0,11,0]/\rH (ek (aC l k)) (fM (aC l k) (bm (aC l k).l k))=.tup [.ref [26,0,11,0,11,0] 0,.v (vInt 0)]/\eS l k=0:=by
 unfold tw at h
 simp only[Bool.and_eq_true,Option.isNone_iff_eq_none]at h
 unfold eS
 rw[h.1,h.2]
 exact⟨rfl,rfl,rfl⟩
theorem M0{l:Led}(h:b7 l)(k:Int):l9 (gh (aC l k) k)/\(gh (aC l k) k).rs.Nodup:=⟨(nw h k).1.ds _,(nw h k).2⟩
def Y4:List (Nat×Spec):=[(78,S78)]
attribute [go_sem] Y4
def ld(l:Led)(f:Fol)(day k:Int):Int:=if cM l [day,k]=0 then(if b8 f.le 1 (dL l.ps f.pa)=true then eS l k else 26)else cM l [day,k]
def td(l:Led)(f:Fol)(day k:Int):List Int:=if ld l f day k=0 then rq (gh (aC l k) k) f.pa f.le day else[]
def vQ(l:Led)(f:Fol)(day k:Int):V:=.tup [.sl ((td l f day k).map vInt),vInt (ld l f day k)]
theorem b7.srt{l:Led}(h:b7 l):Go.Eng.srt Pap.id l.ps:=wH (j7.1 h.ps)
def K33b:List (Nat×Spec):=[(75,ma),(79,vD),(96,qZ),(78,S78),(80,S80)]
theorem Y3:KS K33b:=tc zR.sound<|tc EJ.sound<|tc tD.sound<|tc Sm<|tc Sl<|tn
attribute [go_sem] K33b
@[go_sem] def P23:PSpec:=p4 iL jL iI iI (fun _ _ _ _=>True) (fun l f day k=>vQ l f day k) false
@[go_sem] def LY:Spec:=P23.toSpec
set_option maxHeartbeats 8000000 in
theorem N7:aU Tryz.prog 23 P23:=by
 refine rv (rs:=[.tmp 8,.tmp 9]) Tryz.func23 Tryz.ntmps23 fun l f day k hp hw=>?_
 have hP:=fB
 simp only[jL,iI,iL,lZ,fY]at hw |-
 have hΓ:=Y3
 unfold vQ td
 repeat refine sq ?_
 refine rx hΓ [2,3,4,5] [[4,0],[5,0]] (fun K' hK=>by simp only[go_sem];exact ao) ?_
 refine bU (dH 4 (.ref [4,0] 0) (by simp only[go_sem]) (by simp only[go_sem]) [2,3,4,5] [[4,0],[5,0]] ?_ rfl) ?_
 ·simp only[go_sem]
 simp only[go_sem]
 repeat refine sq ?_
 refine rx hΓ [2,3,4,5,10] [[4,0],[5,0]] (fun K' hK=>by simp only[go_sem];exact ao) ?_
 repeat refine sq ?_
 refine rx hΓ [2,3,4,5,10,19] [[4,0],[5,0]] (fun K' hK=>by simp only[go_sem];exact ao) ?_
 repeat refine sq ?_
 refine aB (fun hb=>?_) fun hb=>?_
 ·repeat refine sq ?_
  have hc:¬ cM l [day,k]=0:=by simpa using hb
  have he:ld l f day k=cM l [day,k]:=by unfold ld;rw[if_neg hc]
  rw[he,if_neg hc]
  repeat refine sq ?_
  refine rx hΓ [8,9] [] (fun K' hK=>by simp only[go_sem];exact ao) ?_
  refine ay ?_
  simp only[go_sem]
  all_goals first | done | rfl | trace_state
 ·repeat refine sq ?_
  have hc:cM l [day,k]=0:=by simpa using hb
  obtain⟨aa,_⟩:=vm hc
  have xm:=aa.srt
  refine aG ?_
  repeat refine sq ?_
  refine dx hΓ hP [[],[0],[],[2],[2,3],u5,u6] [2,3,4,5,27] [[4,0],[5,0]] (by kernel_rfl) (fun K' hK=>by simp only[go_sem,xm];exact vf) ?_
  repeat refine sq ?_
  refine aB (fun hb=>?_) fun hb=>?_
  ·repeat refine sq ?_
   have he:ld l f day k=26:=by unfold ld;rw[if_pos hc,if_neg (by simpa using hb)]
   rw[he]
   repeat refine sq ?_
   refine rx hΓ [8,9] [] (fun K' hK=>by simp only[go_sem];exact ao) ?_
   refine ay ?_
   simp only[go_sem]
   all_goals first | done | rfl | trace_state
  ·repeat refine sq ?_
   have he:ld l f day k=eS l k:=by unfold ld;rw[if_pos hc,if_pos (by simpa using hb)]
   rw[he]
   refine aG ?_
   rcases IK:tw l k with _ | _
   ·obtain⟨q1,q2,q3⟩:=M5 IK
    have q4:¬ eS l k=0:=by simpa using q3
    rw[if_neg q4]
    repeat refine sq ?_
    refine rx hΓ [2,5,11,12] [[5,0],[26,0,11,0,11,0,30,0],[23,0,11,0,11,0,30,0],[24,0,11,0,11,0,30,0]] (fun K' hK=>by simp only[go_sem,q1,q2,q3];exact ao) ?_
    repeat refine sq ?_
    refine rx hΓ [2,5,11,12,34] [[5,0],[26,0,11,0,11,0,30,0],[23,0,11,0,11,0,30,0],[24,0,11,0,11,0,30,0]] (fun K' hK=>by simp only[go_sem,q1,q2,q3];exact ao) ?_
    repeat refine sq ?_
    refine aB (fun hb=>?_) fun hb=>?_
    ·repeat refine sq ?_
     refine rx hΓ [8,9] [] (fun K' hK=>by simp only[go_sem,q1,q2,q3];exact ao) ?_
     refine ay ?_
     simp only[go_sem]
     all_goals first | done | rfl | trace_state
    ·cases hb
   ·obtain⟨q1,q2,q3⟩:=M4 IK
    obtain⟨hv,b9⟩:=M0 aa k
    rw[if_pos q3,q3]
    repeat refine sq ?_
    refine rx hΓ [2,5,11,12] [[5,0],[26,0,11,0,11,0,30,0],[23,0,11,0,11,0,30,0],[24,0,11,0,11,0,30,0]] (fun K' hK=>by simp only[go_sem,q1,q2];exact ao) ?_
    repeat refine sq ?_
    refine rx hΓ [2,5,11,12,34] [[5,0],[26,0,11,0,11,0,30,0],[23,0,11,0,11,0,30,0],[24,0,11,0,11,0,30,0]] (fun K' hK=>by simp only[go_sem,q1,q2];exact ao) ?_
    repeat refine sq ?_
    refine aB (fun hb=>?_) fun hb=>?_
    ·cases hb
    ·repeat refine sq ?_
     refine aG ?_
     repeat refine sq ?_
     refine rx hΓ [8,9] [] (fun K' hK=>by simp only[go_sem,q1,q2];(repeat (refine⟨by first | exact ak | exact⟨hv,b9⟩,?_⟩));exact fe) ?_
     refine ay ?_
     simp only[go_sem]
     all_goals first | done | rfl | trace_state
end
noncomputable section
def two(b:Bool):Int:=if b then 2 else 0
def Y2:List (Nat×Spec):=[(75,ma),(76,S76),(77,S77),(78,S78)]
attribute [go_sem] Y2
end
noncomputable section
def Y1:List (Nat×Spec):=[(75,ma),(79,vD),(78,S78),(80,S80)]
attribute [go_sem] Y1
end
def p5{α β γ δ ε:Type}(A:En α)(B:En β)(C:En γ)(D:En δ)(E':En ε)(p:α->β->γ->δ->ε->Prop)(g:α->β->γ->δ->ε->V)(fl:Bool):PSpec:=
 ⟨fun xs=>match xs with | [x,y,z,u,v]=>A.enc (A.dec x)=x/\B.enc (B.dec y)=y/\C.enc (C.dec z)=z/\D.enc (D.dec u)=u/\E'.enc (E'.dec v)=v/\p (A.dec x) (B.dec y) (C.dec z) (D.dec u) (E'.dec v) | _=>False,
  fun xs=>match xs with | [x,y,z,u,v]=>g (A.dec x) (B.dec y) (C.dec z) (D.dec u) (E'.dec v) | _=>.bool false,fl⟩
attribute [go_sem] p5
noncomputable section
def Y0:List (Nat×Spec):=[(108,vE)]
attribute [go_sem] Y0
def YZ:List (Nat×Spec):=[]
attribute [go_sem] YZ
theorem adk(l:List Fol):∀ y∈l.map lZ,y.cells.length=2/\y.okc=true:=by
 intro y hy;obtain⟨x,_,rfl⟩:=List.mem_map.1 hy;exact⟨rfl,rfl⟩
end
noncomputable section
def YY:List (Nat×Spec):=[(37,DF),(96,qZ),(75,ma),(78,S78)]
attribute [go_sem] YY
def YX:List (Nat×Spec):=[]
attribute [go_sem] YX
end
set_option maxHeartbeats 8000000
noncomputable section
def aO(n m:Int):Int:=(n.tmod m+m).tmod m
theorem Ec{n m:Int}(h:0<m): -m<n.tmod m/\n.tmod m<m:=by
 have h1:=Int.tmod_lt_of_pos n h
 have h2:=Int.tmod_lt_of_pos (-n) h
 rw[Int.neg_tmod]at h2
 omega
theorem dj{n m:Int}(h:0<m):0<=aO n m/\aO n m<m:=by
 unfold aO
 have h1:=Ec (n:=n) h
 exact⟨Int.tmod_nonneg _ (by omega),Int.tmod_lt_of_pos _ h⟩
@[go_sem] def P20:PSpec:=p2 iI iI (fun _ m=>0<m/\m<=1000000) (fun n m=>vInt (aO n m)) true
@[go_sem] def DH:Spec:=P20.toSpec
theorem EK:aU Tryz.prog 20 P20:=by
 refine dV (rs:=[.tmp 4]) Tryz.func20 Tryz.ntmps20 fun n m hp hw=>?_
 simp only[iI]at hw |-
 have hΓ:=@eT Tryz.prog
 have ql:m≠0:=by omega
 have hr:=Ec (n:=n) hp.1
 have uB:IntKind.i64.wrap (n.tmod m+m)=n.tmod m+m:=wrap_i64 (by omega) (by omega)
 repeat refine sq ?_
 refine rx hΓ [0,1] [] (fun K' hK=>by simp only[go_sem];exact ao) ?_
 repeat refine sq ?_
 refine rx hΓ [4] [] (fun K' hK=>by simp only[go_sem,ql,uB];exact ao) ?_
 refine ay ?_
 simp only[go_sem]
 rfl
def Dj(n i:Int):Bool:=IntKind.i64.wrap ((BitVec.ofInt 64 n&&& BitVec.ofInt 64 (IntKind.i64.wrap (1*2 ^ min i.toNat 64))).toNat:Int) != 0
def eR(n:Int):Nat->List Int
 | 0=>[]
 |m+1=>if Dj n ((m+1:Nat):Int)=true then eR n m++[((m+1:Nat):Int)]else eR n m
theorem KV(n:Int):∀ m,(eR n m).length<=m
 | 0=>Nat.le_refl _
 |m+1=>by
  have :=KV n m
  rw[eR]
  split
  ·rw[List.length_append];simp;omega
  ·omega
def gM(n many:Int):List Int:=if eR n many.toNat=[]then[1]else eR n many.toNat
@[go_sem] def P83:PSpec:=p2 iI iI (fun _ m=>0<=m/\m<=30) (fun n m=>.sl ((gM n m).map vInt)) false
@[go_sem] def Xt:Spec:=P83.toSpec
theorem NQ:aU Tryz.prog 83 P83:=by
 refine dV (rs:=[.tmp 4]) Tryz.func83 Tryz.ntmps83 fun n m hp hw=>?_
 simp only[iI]at hw |-
 have hΓ:=@eT Tryz.prog
 obtain⟨nn,rfl⟩:∃ nn:Nat,m=nn:=⟨m.toNat,by omega⟩
 have ax:nn+1<=maxLen:=by unfold maxLen;omega
 repeat refine sq ?_
 refine rx hΓ [0,1] [] (fun K' hK=>by simp only[go_sem];exact ao) ?_
 repeat refine sq ?_
 refine rx hΓ [0,1,5] [[20,0]] (fun K' hK=>by simp only[go_sem];exact ao) ?_
 refine bU (vO 5 [20,0] 1 (by simp only[go_sem]) (by simp only[go_sem]) [0,1,5] [[20,0]] ?_ rfl) ?_
 ·simp only[go_sem]
 simp only[go_sem]
 repeat refine sq ?_
 refine rx hΓ [0,1,5,6] [[20,0]] (fun K' hK=>by simp only[go_sem];exact ao) ?_
 repeat refine sq ?_
 refine aQ ?_
 repeat refine sq ?_
 refine cr (fun s:Nat=>[(6,⟨true,.v (vInt s)⟩),(5,⟨true,.msl [20,0] (eR n (s-1)).length⟩)]) (fun s=>[([20,0],.arr 1 ((eR n (s-1)).map vInt))]) (fun s=>s<=(nn+1)/\1<=s) (fun s=>(nn+1)-s) 1 ?_ ?_ ?_ ?_
 ·exact⟨by omega,Nat.le_refl 1⟩
 ·rfl
 ·rfl
 rintro i ⟨hi,hR⟩
 have UJ:=KV n (i-1)
 simp only[go_sem]
 repeat refine sq ?_
 refine rx hΓ [0,1,5,6,9] [[20,0]] (fun K' hK=>by simp only[go_sem];exact ao) ?_
 repeat refine sq ?_
 refine aB (fun hb=>?_) fun hb=>?_
 ·repeat refine sq ?_
  have ae:i<nn+1:=by
   have :(i:Int)<=nn:=by simpa using hb
   omega
  refine aG ?_
  repeat refine sq ?_
  refine aQ ?_
  repeat refine sq ?_
  refine rx hΓ [0,1,5,6,16] [[20,0]] (fun K' hK=>by simp only[go_sem];exact ao) ?_
  repeat refine sq ?_
  refine aB (fun hb=>?_) fun hb=>?_
  ·repeat refine sq ?_
   have eS:eR n (i+1-1)=eR n (i-1)++[(i:Int)]:=by
    obtain⟨m,rfl⟩:∃ m,i=m+1:=⟨i-1,by omega⟩
    rw[Nat.add_sub_cancel,Nat.add_sub_cancel,eR,if_pos (show Dj n ((m+1:Nat):Int)=true from hb)]
   repeat refine sq ?_
   refine aY hΓ fun K' hK=>?_
   simp only[go_sem]
   repeat (refine⟨ak,?_⟩)
   refine hK _ ?_
   clear K' hK
   simp only[go_sem]
   refine kp [0,1,5,6] [[20,0]] ?_
   repeat refine sq ?_
   refine aY hΓ fun K' hK=>?_
   simp only[go_sem]
   repeat (refine⟨ak,?_⟩)
   refine hK _ ?_
   clear K' hK
   simp only[go_sem]
   refine⟨i+1,⟨ae,?_⟩,by(show (nn+1)-(i+1)<(nn+1)-i;omega),?_⟩
   ·omega
   refine bq [0,1,5,6] [[20,0]] ?_ ?_<;>simp only[go_sem,be ae ax,bj,eS,List.map_append,List.length_append,List.map_cons,List.map_nil,List.length_cons,List.length_nil]
  ·repeat refine sq ?_
   have eS:eR n (i+1-1)=eR n (i-1):=by
    obtain⟨m,rfl⟩:∃ m,i=m+1:=⟨i-1,by omega⟩
    rw[Nat.add_sub_cancel,Nat.add_sub_cancel,eR,if_neg (fun h=>by rw[show Dj n ((m+1:Nat):Int)=false from hb]at h;cases h)]
   refine aG ?_
   refine bV ?_
   simp only[go_sem]
   refine kp [0,1,5,6] [[20,0]] ?_
   repeat refine sq ?_
   refine aY hΓ fun K' hK=>?_
   simp only[go_sem]
   repeat (refine⟨ak,?_⟩)
   refine hK _ ?_
   clear K' hK
   simp only[go_sem]
   refine⟨i+1,⟨ae,?_⟩,by(show (nn+1)-(i+1)<(nn+1)-i;omega),?_⟩
   ·omega
   refine bq [0,1,5,6] [[20,0]] ?_ ?_<;>simp only[go_sem,be ae ax,bj,eS,List.map_append,List.length_append,List.map_cons,List.map_nil,List.length_cons,List.length_nil]
 ·repeat refine sq ?_
  have bw:i=nn+1:=by
   have :¬ (i:Int)<=nn:=by simpa using hb
   omega
  subst bw
  rw[Nat.add_sub_cancel]at UJ
  refine bM ?_
  simp only[go_sem]
  refine kp [5] [[20,0]] ?_
  repeat refine sq ?_
  refine rx hΓ [5,23] [[20,0]] (fun K' hK=>by simp only[go_sem];exact ao) ?_
  repeat refine sq ?_
  refine aB (fun hb=>?_) fun hb=>?_
  ·repeat refine sq ?_
   have hz:eR n nn=[]:=by
    apply List.eq_nil_of_length_eq_zero
    have :((eR n nn).length:Int)=0:=by simpa using hb
    omega
   have e:gM n nn=[1]:=by unfold gM;rw[ai,if_pos hz]
   repeat refine sq ?_
   refine rx hΓ [5] [[20,0]] (fun K' hK=>by simp only[go_sem];exact ao) ?_
   repeat refine sq ?_
   refine rx hΓ [4] [[20,0]] (fun K' hK=>by simp only[go_sem];exact ao) ?_
   refine ay ?_
   simp only[go_sem]
   first | (rw[e];done) | (rw[e];rfl) | trace_state
  ·repeat refine sq ?_
   have hz:¬ eR n nn=[]:=by
    intro h
    have h2:(((eR n nn).length:Int)==0)=false:=hb
    rw[h]at h2
    cases h2
   have e:gM n nn=eR n nn:=by unfold gM;rw[ai,if_neg hz]
   refine aG ?_
   repeat refine sq ?_
   refine rx hΓ [4] [[20,0]] (fun K' hK=>by simp only[go_sem];exact ao) ?_
   refine ay ?_
   simp only[go_sem]
   first | (rw[e];done) | (rw[e];rfl) | trace_state
end
set_option maxHeartbeats 8000000
noncomputable section
def dB(l:Led)(so k:Int):Int:=db (fun r=>r.so==so&&cQ r.kn r.un k) l.rs
def nD(so k:Int)(r:Rec):Bool:=r.so==so&&cQ r.kn r.un k
theorem OJ{l:Led}{so k:Int}{i:Nat}(h:i<l.rs.length)(hp:nD so k l.rs[i]=true)(hn:∀ j (hj:j<l.rs.length),j<i->nD so k l.rs[j]=false):dB l so k=i:=p0 h hp hn
theorem OI{l:Led}{so k:Int}(hn:∀ j (hj:j<l.rs.length),j<l.rs.length->nD so k l.rs[j]=false):dB l so k= -1:=by
 unfold dB db
 rw[if_neg]
 intro h
 obtain⟨x,hx,hp⟩:=List.any_eq_true.1 h
 obtain⟨j,hj,rfl⟩:=List.getElem_of_mem hx
 have :=hn j hj hj
 unfold nD at this
 rw[this]at hp
 exact absurd hp (by decide)
def K39:List (Nat×Spec):=[(157,zi)]
theorem YW:KS K39:=tc zT.sound<|tn
attribute [go_sem] K39
@[go_sem] def P70:PSpec:=p3 iL iI iI (fun l _ _=>l.rs.length<=60) (fun l so k=>vInt (dB l so k)) true
@[go_sem] def zh:Spec:=P70.toSpec
theorem NW:aU Tryz.prog 70 P70:=by
 refine mY (rs:=[.tmp 6]) Tryz.func70 Tryz.ntmps70 fun l so k hp hw=>?_
 simp only[iI,iL,fY]at hw |-
 have hΓ:=YW
 have hl:l.rs.length<=maxLen:=by unfold maxLen;omega
 repeat refine sq ?_
 refine rx hΓ [1,2,3] [[3,0]] (fun K' hK=>by simp only[go_sem];exact ao) ?_
 repeat refine sq ?_
 refine rx hΓ [1,2,3,7] [[3,0]] (fun K' hK=>by simp only[go_sem];exact ao) ?_
 repeat refine sq ?_
 refine aQ ?_
 repeat refine sq ?_
 refine cr (fun s:Nat=>[(7,⟨true,.v (vInt s)⟩)]) (fun s=>[]) (fun s=>s<=l.rs.length/\∀ j (hj:j<l.rs.length),j<s->nD so k l.rs[j]=false) (fun s=>l.rs.length-s) 0 ?_ ?_ ?_ ?_
 ·exact⟨Nat.zero_le _,by simp⟩
 ·rfl
 ·rfl
 rintro i ⟨hi,hR⟩
 simp only[go_sem]
 repeat refine sq ?_
 refine rx hΓ [1,2,3,7,13] [[3,0]] (fun K' hK=>by simp only[go_sem];exact ao) ?_
 repeat refine sq ?_
 refine aB (fun hb=>?_) fun hb=>?_
 ·have ae:i<l.rs.length:=by simpa using hb
  have au:(i:Int)<l.rs.length:=by omega
  clear hb
  repeat refine sq ?_
  refine aG ?_
  repeat refine sq ?_
  refine aQ ?_
  repeat refine sq ?_
  refine rx hΓ [1,2,3,7,8] [[3,0],[8,0]] (fun K' hK=>by simp only[go_sem,ah ae,ai,aj,au];exact ao) ?_
  repeat refine sq ?_
  refine rx hΓ [1,2,3,7,32] [[3,0]] (fun K' hK=>by simp only[go_sem,ah ae,ai,aj,au];exact ao) ?_
  repeat refine sq ?_
  refine aB (fun hb=>?_) fun hb=>?_
  ·repeat refine sq ?_
   have e:dB l so k=i:=OJ ae (by unfold nD;simpa using hb) (fun j hj du=>hR j hj du)
   repeat refine sq ?_
   refine rx hΓ [6] [] (fun K' hK=>by simp only[go_sem,ah ae,ai,aj,au];exact ao) ?_
   refine ay ?_
   simp only[go_sem]
   rw[e]
  ·repeat refine sq ?_
   refine aG ?_
   refine bV ?_
   simp only[go_sem]
   refine kp [1,2,3,7] [[3,0]] ?_
   repeat refine sq ?_
   refine aY hΓ fun K' hK=>?_
   simp only[go_sem,ah ae,ai,aj,au]
   repeat (refine⟨ak,?_⟩)
   refine hK _ ?_
   clear K' hK
   simp only[go_sem]
   refine⟨i+1,⟨ae,?_⟩,by(show l.rs.length-(i+1)<l.rs.length-i;omega),?_⟩
   ·intro j hj du
    rcases Nat.lt_succ_iff_lt_or_eq.1 du with h5 | rfl
    ·exact hR j hj h5
    ·unfold nD;simpa using hb
   refine bq [1,2,3,7] [[3,0]] ?_ ?_<;>simp only[go_sem,be ae hl,bj]
 ·have bw:i=l.rs.length:=by
   have :¬ (i:Int)<l.rs.length:=by simpa using hb
   omega
  clear hb
  subst bw
  repeat refine sq ?_
  refine bM ?_
  simp only[go_sem]
  refine kp [] [] ?_
  repeat refine sq ?_
  refine rx hΓ [6] [] (fun K' hK=>by simp only[go_sem];exact ao) ?_
  refine ay ?_
  simp only[go_sem]
  rw[OI hR]
def vj(t:Ret)(r:Rec):Int:=dk t.lo (r.da+1)
def E8(r:Rec):Prop:=0<=r.da/\r.da<=100000
@[go_sem] def P158:PSpec:=p2 iT iR (fun _ r=>E8 r) (fun t r=>vInt (vj t r)) true
@[go_sem] def DL:Spec:=P158.toSpec
theorem Ot:aU Tryz.prog 158 P158:=by
 refine dV (rs:=[.tmp 4]) Tryz.func158 Tryz.ntmps158 fun t r hp hw=>?_
 simp only[iR,iT,encR,c9]at hw |-
 have hΓ:=@eT Tryz.prog
 have fS:=vM hp
 repeat refine sq ?_
 refine rx hΓ [2,3] [[2,0],[3,0]] (fun K' hK=>by simp only[go_sem];exact ao) ?_
 repeat refine sq ?_
 refine rx hΓ [4] [] (fun K' hK=>by simp only[go_sem,fS];exact ao) ?_
 refine ay ?_
 simp only[go_sem]
 all_goals exact dp
def y8(l:Led)(ds:List Int):Int:=if tQ l=false then 24 else if ds.all dayB then 0 else 6
def YV:List (Nat×Spec):=[]
attribute [go_sem] YV
end
noncomputable section
theorem FK{l:Led}(h:b7 l){r:Rec}(hr:r∈l.rs):E8 r:=by
 obtain⟨j,hj,rfl⟩:=List.getElem_of_mem hr
 have :=qW h.rs hj
 unfold dK at this
 simp only[Bool.and_eq_true]at this
 have hd:=this.1.2
 unfold dayB b8 at hd
 simp at hd
 exact hd
theorem PH{l:Led}(h:b7 l){i:Nat}(hi:i<l.ts.length):l.ts[i].lv.length<=30:=by
 have :=qW h.ts hi
 unfold i7 at this
 simp only[Bool.and_eq_true]at this
 exact(pV.1 this.1.1.1.2).2.1
def bS(l:Led)(i:Nat):Rec:=l.rs.getD i zeroR
theorem zX(l:Led)(so k:Int):dB l so k= -1\/∃ j,∃ h:j<l.rs.length,dB l so k=(j:Int)/\nD so k l.rs[j]=true:=by
 unfold dB db
 by_cases h:(l.rs.any fun r=>r.so==so&&cQ r.kn r.un k)=true
 ·rw[if_pos h]
  have ae:l.rs.findIdx (fun r=>r.so==so&&cQ r.kn r.un k)<l.rs.length:=List.findIdx_lt_length_of_exists (by obtain⟨x,hx,hp⟩:=List.any_eq_true.1 h;exact⟨x,hx,hp⟩)
  exact .inr ⟨_,ae,rfl,List.findIdx_getElem (w:=ae)⟩
 ·rw[if_neg h];exact .inl rfl
def lh(l:Led)(row:List Bool)(x:Ret)(f:Int)(j:Nat):Bool:=!(row.getD j false&&(aI l j).re==x.re&&(aI l j).lv.contains f)
def j6(p:Nat->Bool)(j:Nat):Bool:=(List.range j).all p
def nA(l:Led)(row:List Bool)(i:Nat)(r:Rec)(x:Ret)(f:Int):Bool:=r.lv.contains f&&j6 (lh l row x f) i
def gf(l:Led)(k:Int)(row:List Bool)(i:Nat):Bool:=
 if dB l (aI l i).re k<0 then false else
   (cQ (aI l i).kn (aI l i).un k&&!decide (vj (aI l i) (bS l (dB l (aI l i).re k).toNat)>(aI l i).hi))&&
     (aI l i).lv.all (nA l row i (bS l (dB l (aI l i).re k).toNat) (aI l i))
def br(l:Led)(k:Int):Nat->List Bool
 | 0=>List.replicate l.ts.length false
 |s+1=>if gf l k (br l k s) s=true then(br l k s).set s true else br l k s
theorem pH(l:Led)(k:Int)(s:Nat):(br l k s).length=l.ts.length:=by
 induction s with
 |zero=>simp[br]
 |succ s ih=>unfold br;split<;>simp[ih]
theorem vZ(l:Led)(k:Int){s j:Nat}(h:s<=j):(br l k s).getD j false=false:=by
 induction s with
 |zero=>
  simp only[br,List.getD_eq_getElem?_getD,List.getElem?_replicate]
  split<;>rfl
 |succ s ih=>
  unfold br
  split
  ·rw[List.getD_eq_getElem?_getD,List.getElem?_set_ne (by omega),<-List.getD_eq_getElem?_getD];exact ih (by omega)
  ·exact ih (by omega)
theorem Eg(l:Led)(k:Int){s:Nat}(h:s<l.ts.length):(br l k s).set s (gf l k (br l k s) s)=br l k (s+1):=by
 rw[br]
 split
 ·rename_i e;rw[e]
 ·rename_i e
  have e2:gf l k (br l k s) s=false:=by simpa using e
  have e3:=vZ l k (Nat.le_refl s)
  rw[List.getD_eq_getElem?_getD,List.getElem?_eq_getElem (by rw[pH];exact h)]at e3
  have e4:(br l k s)[s]'(by rw[pH];exact h)=false:=e3
  rw[e2,<-e4]
  exact List.set_getElem_self _
theorem vY(l:Led)(k:Int){s:Nat}(e:gf l k (br l k s) s=false):br l k (s+1)=br l k s:=by
 rw[br,if_neg (by rw[e];decide)]
theorem O7(l:Led)(k:Int):List.replicate l.ts.length (V.bool false)=(br l k 0).map V.bool:=by rw[br,List.map_replicate]
theorem ki{l:Led}{i:Nat}(h:i<l.rs.length):bS l i=l.rs[i]:=by unfold bS;rw[List.getD_eq_getElem?_getD,List.getElem?_eq_getElem h];rfl
theorem tX{L:List Bool}{j:Nat}{d:V}(h:j<L.length):(L.map V.bool).getD j d=.bool (L.getD j false):=by
 simp[List.getD_eq_getElem?_getD,h]
theorem Xe(p:Nat->Bool)(j:Nat):j6 p (j+1)=(j6 p j&&p j):=by
 unfold j6
 rw[List.range_succ,List.all_append];simp
theorem wP:decide ((-1:Int)<0)=true:=rfl
theorem Ng(row:List Bool)(i:Nat)(b:Bool):(row.map V.bool).set i (.bool b)=(row.set i b).map V.bool:=List.map_set.symm
def K40:List (Nat×Spec):=[(70,zh),(157,zi),(158,DL),(15,px)]
theorem YT:KS K40:=tc NW.sound<|tc zT.sound<|tc Ot.sound<|tc wh.sound<|tn
attribute [go_sem] K40
@[go_sem] def P71:PSpec:=p2 iL iI (fun l _=>b7 l) (fun l k=>.sl ((br l k l.ts.length).map .bool)) false
@[go_sem] def DE:Spec:=P71.toSpec
set_option maxHeartbeats 8000000 in
theorem NV:aU Tryz.prog 71 P71:=by
 refine dV (rs:=[.tmp 4]) Tryz.func71 Tryz.ntmps71 fun l k hp hw=>?_
 have hP:=fB
 simp only[iI,iL,fY]at hw |-
 have hΓ:=YT
 have lJ:=hp.rsn
 have xl:=hp.tsn
 have lN:l.ts.length<=maxLen:=by unfold maxLen;omega
 repeat refine sq ?_
 refine rx hΓ [1,2] [[2,0]] (fun K' hK=>by simp only[go_sem];exact ao) ?_
 repeat refine sq ?_
 refine rx hΓ [1,2,5] [[2,0],[15,0]] (fun K' hK=>by simp only[go_sem,ai,O7 l k];exact ao) ?_
 repeat refine sq ?_
 refine rx hΓ [1,2,5,6] [[2,0],[15,0]] (fun K' hK=>by simp only[go_sem];exact ao) ?_
 repeat refine sq ?_
 refine aQ ?_
 repeat refine sq ?_
 refine cr (fun s:Nat=>[(6,⟨true,.v (vInt s)⟩)]) (fun s=>[([15,0],.arr 1 ((br l k s).map .bool))]) (fun s=>s<=l.ts.length) (fun s=>l.ts.length-s) 0 ?_ ?_ ?_ ?_
 ·exact Nat.zero_le _
 ·rfl
 ·rfl
 rintro i hi
 simp only[go_sem]
 repeat refine sq ?_
 refine rx hΓ [1,2,5,6,20] [[2,0],[15,0]] (fun K' hK=>by simp only[go_sem];exact ao) ?_
 repeat refine sq ?_
 refine aB (fun hb=>?_) fun hb=>?_
 ·have ae:i<l.ts.length:=by simpa using hb
  have au:(i:Int)<l.ts.length:=by omega
  clear hb
  have oR:=pH l k i
  generalize Bz:br l k i=row at oR
  repeat refine sq ?_
  refine aG ?_
  repeat refine sq ?_
  refine aQ ?_
  repeat refine sq ?_
  refine rx hΓ [1,2,5,6,7] [[2,0],[7,0],[15,0]] (fun K' hK=>by simp only[go_sem,ah ae,ai,aj,au];exact ao) ?_
  repeat refine sq ?_
  refine rx hΓ [1,2,5,6,7,8] [[2,0],[7,0],[15,0]] (fun K' hK=>by simp only[go_sem,ah ae,ai,aj,au,lJ];exact ao) ?_
  rcases zX l l.ts[i].re k with fT | ⟨j0,cj,fT,hrp⟩
  ·repeat refine sq ?_
   refine dx hΓ hP [[],[0],[0,1],[0,1,2],u4,[0,1,2],[0,1,2,5],[0,1,2],u8,u9,dI,fO,gd,gd,[0,1,2,3,4,5,6,7,8,9,10,11,13],gd,[0,1,2,3,4,5,6,7,8,9,10,11,13,14,15],[0,1,2,3,4,5,6,7,8,9,10,11,13,14,15,16],jy,gd,[0,1,2,3,4,5,6,7,8,9,10,11,19],[0,1,2,3,4,5,6,7,8,9,10,11,19,20],vW,rB] [1,2,5,6,7,8,56] [[2,0],[7,0],[15,0]] (by kernel_rfl) (fun K' hK=>by simp only[go_sem,ah ae,ai,aj,au,fT,List.length_map];(repeat (refine⟨by first | exact ak | exact fun h=>⟨h,FK hp (List.getElem_mem cj)⟩ | (cases cQ l.ts[i].kn l.ts[i].un k<;>rfl),?_⟩));exact gH) ?_
   repeat refine sq ?_
   refine aB (fun hb=>?_) fun hb=>?_
   ·repeat refine sq ?_
    have e0:br l k (i+1)=row:=by
     rw[vY l k (by unfold gf;rw[lg ae,fT];rfl),Bz]
    refine bM ?_
    simp only[go_sem]
    refine kp [1,2,5,6] [[2,0],[15,0]] ?_
    repeat refine sq ?_
    refine aY hΓ fun K' hK=>?_
    simp only[go_sem,ah ae,ai,aj,au,fT]
    repeat (refine⟨ak,?_⟩)
    refine hK _ ?_
    clear K' hK
    simp only[go_sem]
    refine⟨i+1,ae,by(show l.ts.length-(i+1)<l.ts.length-i;omega),?_⟩
    refine bq [1,2,5,6] [[2,0],[15,0]] ?_ ?_<;>simp only[go_sem,be ae lN,bj,e0]
   ·cases hb
  ·have fI:decide ((j0:Int)<0)=false:=by simp
   have B5:(j0:Int)<l.rs.length:=by omega
   repeat refine sq ?_
   refine dx hΓ hP [[],[0],[0,1],[0,1,2],u4,[0,1,2],[0,1,2,5],[0,1,2],u8,u9,dI,fO,gd,gd,[0,1,2,3,4,5,6,7,8,9,10,11,13],gd,[0,1,2,3,4,5,6,7,8,9,10,11,13,14,15],[0,1,2,3,4,5,6,7,8,9,10,11,13,14,15,16],jy,gd,[0,1,2,3,4,5,6,7,8,9,10,11,19],[0,1,2,3,4,5,6,7,8,9,10,11,19,20],vW,rB] [1,2,5,6,7,8,56] [[2,0],[7,0],[15,0]] (by kernel_rfl) (fun K' hK=>by simp only[go_sem,ah ae,ai,aj,au,fT,ah cj,fI,List.length_map];(repeat (refine⟨by first | exact ak | exact fun h=>⟨h,FK hp (List.getElem_mem cj)⟩ | (cases cQ l.ts[i].kn l.ts[i].un k<;>rfl),?_⟩));exact gH) ?_
   repeat refine sq ?_
   refine aB (fun hb=>?_) fun hb=>?_
   ·repeat refine sq ?_
    have e0:br l k (i+1)=row:=by
     rw[vY l k (by unfold gf;rw[lg ae,fT,if_neg (by omega),ai,ki cj];simp only[Bool.and_eq_false_iff];exact .inl (by simpa[Bool.and_eq_false_iff]using hb)),Bz]
    refine bM ?_
    simp only[go_sem]
    refine kp [1,2,5,6] [[2,0],[15,0]] ?_
    repeat refine sq ?_
    refine aY hΓ fun K' hK=>?_
    simp only[go_sem,ah ae,ai,aj,au,fT,ah cj,fI]
    repeat (refine⟨ak,?_⟩)
    refine hK _ ?_
    clear K' hK
    simp only[go_sem]
    refine⟨i+1,ae,by(show l.ts.length-(i+1)<l.ts.length-i;omega),?_⟩
    refine bq [1,2,5,6] [[2,0],[15,0]] ?_ ?_<;>simp only[go_sem,be ae lN,bj,e0]
   ·repeat refine sq ?_
    have Ju:cQ l.ts[i].kn l.ts[i].un k=true:=by cases Uq:cQ l.ts[i].kn l.ts[i].un k with | true=>rfl | false=>rw[Uq]at hb;simp at hb
    have Uc:¬ vj l.ts[i] l.rs[j0]>l.ts[i].hi:=by rw[Ju]at hb;simpa using hb
    have S8:gf l k row i=l.ts[i].lv.all (nA l row i l.rs[j0] l.ts[i]):=by
     unfold gf
     rw[lg ae,fT,if_neg (by omega),ai,ki cj,Ju,decide_eq_false Uc]
     rfl
    have IC:=PH hp ae
    have S2:l.ts[i].lv.length<=maxLen:=by unfold maxLen;omega
    clear hb
    refine aG ?_
    repeat refine sq ?_
    refine rx hΓ [1,2,5,6,7,8,9] [[2,0],[7,0],[15,0]] (fun K' hK=>by simp only[go_sem,ah ae,ai,aj,au,fT,ah cj,fI];exact ao) ?_
    repeat refine sq ?_
    refine rx hΓ [1,2,5,6,7,8,9,10] [[2,0],[7,0],[15,0]] (fun K' hK=>by simp only[go_sem,ah ae,ai,aj,au,fT,ah cj,fI];exact ao) ?_
    repeat refine sq ?_
    refine aQ ?_
    repeat refine sq ?_
    refine cr (fun s:Nat=>[(10,⟨true,.v (vInt s)⟩),(9,⟨true,.v (.bool ((l.ts[i].lv.take s).all (nA l row i l.rs[j0] l.ts[i])))⟩)]) (fun s=>[]) (fun s=>s<=l.ts[i].lv.length) (fun s=>l.ts[i].lv.length-s) 0 ?_ ?_ ?_ ?_
    ·exact Nat.zero_le _
    ·rfl
    ·rfl
    rintro i1 hi
    generalize hB:(l.ts[i].lv.take i1).all (nA l row i l.rs[j0] l.ts[i])=B
    simp only[go_sem]
    repeat refine sq ?_
    refine rx hΓ [1,2,5,6,7,8,9,10,61] [[2,0],[7,0],[15,0]] (fun K' hK=>by simp only[go_sem,ah ae,ai,aj,au,fT,ah cj,fI];exact ao) ?_
    repeat refine sq ?_
    refine aB (fun hb=>?_) fun hb=>?_
    ·have aJ:i1<l.ts[i].lv.length:=by simpa using hb
     have bh:(i1:Int)<l.ts[i].lv.length:=by omega
     clear hb
     have hA:(l.ts[i].lv.take (i1+1)).all (nA l row i l.rs[j0] l.ts[i])=(j6 (lh l row l.ts[i] l.ts[i].lv[i1]) i&&(B&&l.rs[j0].lv.contains l.ts[i].lv[i1])):=by rw[<-hB,vz aJ,nA,<-Bool.and_assoc,Bool.and_comm]
     repeat refine sq ?_
     refine aG ?_
     repeat refine sq ?_
     refine aQ ?_
     repeat refine sq ?_
     refine dx hΓ hP [[],[0],[0,1],[0,1,2],[0,1],u5,u6,u7,[0,1],[0,1,8],[0,1],[0,1,8,9,10],[0,1,8,9,10,11],pF,lf,vX] [1,2,5,6,7,8,9,10] [[2,0],[7,0],[15,0]] (by kernel_rfl) (fun K' hK=>by simp only[go_sem,ah ae,ai,aj,au,fT,ah cj,fI,ah aJ,ai,aj,bh,ah cj,B5];exact vf) ?_
     repeat refine sq ?_
     refine rx hΓ [1,2,5,6,7,8,9,10,11] [[2,0],[7,0],[15,0]] (fun K' hK=>by simp only[go_sem,ah ae,ai,aj,au,fT,ah cj,fI,ah aJ,ai,aj,bh];exact ao) ?_
     repeat refine sq ?_
     refine aQ ?_
     repeat refine sq ?_
     refine cr (fun s:Nat=>[(11,⟨true,.v (vInt s)⟩),(9,⟨true,.v (.bool (j6 (lh l row l.ts[i] l.ts[i].lv[i1]) s&&(B&&l.rs[j0].lv.contains l.ts[i].lv[i1])))⟩)]) (fun s=>[]) (fun s=>s<=i) (fun s=>i-s) 0 ?_ ?_ ?_ ?_
     ·exact Nat.zero_le _
     ·rfl
     ·rfl
     rintro j hi
     generalize hC:(j6 (lh l row l.ts[i] l.ts[i].lv[i1]) j&&(B&&l.rs[j0].lv.contains l.ts[i].lv[i1]))=C
     simp only[go_sem]
     repeat refine sq ?_
     refine rx hΓ [1,2,5,6,7,8,9,10,11,81] [[2,0],[7,0],[15,0]] (fun K' hK=>by simp only[go_sem,ah ae,ai,aj,au,fT,ah cj,fI,ah aJ,ai,aj,bh];exact ao) ?_
     repeat refine sq ?_
     refine aB (fun hb=>?_) fun hb=>?_
     ·have bN:j<i:=by simpa using hb
      have fk:(j:Int)<i:=by omega
      clear hb
      have B3:j<l.ts.length:=by omega
      have Je:j<row.length:=by omega
      have Jd:(j:Int)<l.ts.length:=by omega
      have hT:(j6 (lh l row l.ts[i] l.ts[i].lv[i1]) (j+1)&&(B&&l.rs[j0].lv.contains l.ts[i].lv[i1]))=(C&&!((row.getD j false&&l.ts[j].re==l.ts[i].re)&&l.ts[j].lv.contains l.ts[i].lv[i1])):=by
       rw[<-hC,Xe,lh,lg B3,Bool.and_right_comm]
      repeat refine sq ?_
      refine aG ?_
      repeat refine sq ?_
      refine aQ ?_
      repeat refine sq ?_
      refine nY hΓ hP [[],[0],[0,1],[0,1],u4,u5,u6,u7,u8,u7,dI,fO,gd,u7,[0,1,2,3,4,5,6,13],vX,u16,rC,jy,oq,jy,tj,vW,rB,jy,[0,1,2,3,4,5,6,7,8,9,10,11,12,13,14,15,16,17,24],jy,[0,1,2,3,4,5,6,7,8,9,10,11,12,13,14,15,16,17,24,25,26],[0,1,2,3,4,5,6,7,8,9,10,11,12,13,14,15,16,17,24,25,26,27],vT,D9,D8,u32,MM] (by kernel_rfl) fun K' hK=>?_
      simp only[go_sem,ah ae,ai,aj,au,fT,ah cj,fI,ah aJ,ai,aj,bh,ah ae,ah aJ,ah cj,B5,tX Je,ah B3,Jd,bh,au,ai,aj,List.length_map,Bool.decide_and,Bool.decide_eq_true]
      repeat (refine⟨ak,?_⟩)
      first | refine⟨by rfl,?_⟩ | skip
      refine hK _ ?_
      clear K' hK
      simp only[go_sem]
      refine kp [1,2,5,6,7,8,9,10,11] [[2,0],[7,0],[15,0]] ?_
      repeat refine sq ?_
      refine aY hΓ fun K' hK=>?_
      simp only[go_sem,ah ae,ai,aj,au,fT,ah cj,fI,ah aJ,ai,aj,bh,ah ae,ah aJ,ah cj,B5,tX Je,ah B3,Jd,bh,au,ai,aj,List.length_map]
      repeat (refine⟨ak,?_⟩)
      refine hK _ ?_
      clear K' hK
      simp only[go_sem]
      refine⟨j+1,bN,by(show i-(j+1)<i-j;omega),?_⟩
      refine bq [1,2,5,6,7,8,9,10,11] [[2,0],[7,0],[15,0]] ?_ ?_<;>simp only[go_sem,be bN (by omega),bj,hT]
     ·have lR:j=i:=by
       have :¬ (j:Int)<i:=by simpa using hb
       omega
      clear hb
      rw[lR]at hC
      repeat refine sq ?_
      refine bM ?_
      simp only[go_sem]
      refine kp [1,2,5,6,7,8,9,10] [[2,0],[7,0],[15,0]] ?_
      repeat refine sq ?_
      refine aY hΓ fun K' hK=>?_
      simp only[go_sem,ah ae,ai,aj,au,fT,ah cj,fI,ah aJ,ai,aj,bh]
      repeat (refine⟨ak,?_⟩)
      refine hK _ ?_
      clear K' hK
      simp only[go_sem]
      refine⟨i1+1,aJ,by(show l.ts[i].lv.length-(i1+1)<l.ts[i].lv.length-i1;omega),?_⟩
      refine bq [1,2,5,6,7,8,9,10] [[2,0],[7,0],[15,0]] ?_ ?_<;>simp only[go_sem,be aJ S2,bj,hA,hC]
    ·have iQ:i1=l.ts[i].lv.length:=by
      have :¬ (i1:Int)<l.ts[i].lv.length:=by simpa using hb
      omega
     clear hb
     subst iQ
     repeat refine sq ?_
     refine bM ?_
     simp only[go_sem]
     refine kp [1,2,5,6,9] [[2,0],[15,0]] ?_
     have e0:br l k (i+1)=row.set i B:=by
      rw[<-Eg l k ae,Bz,S8,<-hB,List.take_length]
     repeat refine sq ?_
     refine aY hΓ fun K' hK=>?_
     simp only[go_sem,ah ae,ai,aj,au,fT,ah cj,fI,Ng]
     repeat (refine⟨ak,?_⟩)
     refine hK _ ?_
     clear K' hK
     simp only[go_sem]
     refine kp [1,2,5,6] [[2,0],[15,0]] ?_
     repeat refine sq ?_
     refine aY hΓ fun K' hK=>?_
     simp only[go_sem,ah ae,ai,aj,au,fT,ah cj,fI]
     repeat (refine⟨ak,?_⟩)
     refine hK _ ?_
     clear K' hK
     simp only[go_sem]
     refine⟨i+1,ae,by(show l.ts.length-(i+1)<l.ts.length-i;omega),?_⟩
     refine bq [1,2,5,6] [[2,0],[15,0]] ?_ ?_<;>simp only[go_sem,be ae lN,bj,e0]
 ·have bw:i=l.ts.length:=by
   have :¬ (i:Int)<l.ts.length:=by simpa using hb
   omega
  clear hb
  subst bw
  repeat refine sq ?_
  refine bM ?_
  simp only[go_sem]
  refine kp [5] [[15,0]] ?_
  repeat refine sq ?_
  refine rx hΓ [4] [[15,0]] (fun K' hK=>by simp only[go_sem];exact ao) ?_
  refine ay ?_
  simp only[go_sem]
  rw[pH]
end
noncomputable section
structure RV where
 l:Led
 k:Int
 ts:List Bool
 ds:List Rg
 deriving Inhabited
def CS(x:RV):V:=.agg [.sl (x.l.ps.map cK),.sl (x.l.rs.map encR),.sl (x.l.ts.map c9),.sl (x.l.ss.map encS),vInt x.k,.sl (x.ts.map .bool),.sl (x.ds.map qI)]
def Kp:V->RV
 | .agg [.sl a,.sl b,.sl c,.sl d,.int _ k,.sl t,.sl g]=>⟨⟨a.map pc,b.map jt,c.map kL,d.map ig⟩,k,t.map yt,g.map sR⟩
 |_=>default
theorem VS(r:Rg):sR (qI r)=r:=rfl
@[go_sem] theorem adA(l:List Rg):(l.map qI).map sR=l:=oH VS l
def mv:En RV:=⟨CS,Kp⟩
attribute [go_sem] CS Kp mv qI sR
@[go_sem] theorem adu(x:RV):(⟨x.l,x.k,x.ts,x.ds⟩:RV)=x:=rfl
def ll(x:RV)(so f:Int)(j:Nat):Bool:=(x.ts.getD j false&&(aI x.l j).re==so)&&(aI x.l j).lv.contains f
def kj(x:RV)(i:Nat)(f:Int):Int:=if (List.range x.ts.length).any (ll x (bS x.l i).so f)=true then((List.range x.ts.length).findIdx (ll x (bS x.l i).so f):Int)else -1
theorem O2{x:RV}{i:Nat}{f:Int}{j:Nat}(h:j<x.ts.length)(hp:ll x (bS x.l i).so f j=true)(hn:∀ m,m<x.ts.length->m<j->ll x (bS x.l i).so f m=false):kj x i f=j:=by
 have :=p0 (p:=ll x (bS x.l i).so f) (l:=List.range x.ts.length) (i:=j) (by simpa using h) (by simpa using hp) (fun m hm mB=>by simpa using hn m (by simpa using hm) mB)
 exact this
theorem O1{x:RV}{i:Nat}{f:Int}(hn:∀ m,m<x.ts.length->m<x.ts.length->ll x (bS x.l i).so f m=false):kj x i f= -1:=by
 unfold kj
 rw[if_neg]
 intro h
 obtain⟨m,hm,hp⟩:=List.any_eq_true.1 h
 have jj:m<x.ts.length:=by simpa using hm
 rw[hn m jj jj]at hp
 exact absurd hp (by decide)
def K41:List (Nat×Spec):=[(15,px)]
theorem YS:KS K41:=tc wh.sound<|tn
attribute [go_sem] K41
@[go_sem] def P103:PSpec:=p3 mv iI iI (fun x a _=>(b7 x.l/\x.ts.length=x.l.ts.length)/\0<=a/\a<x.l.rs.length) (fun x a f=>vInt (kj x a.toNat f)) true
@[go_sem] def vF:Spec:=P103.toSpec
set_option maxHeartbeats 8000000 in
theorem OH:aU Tryz.prog 103 P103:=by
 refine mY (rs:=[.tmp 6]) Tryz.func103 Tryz.ntmps103 fun x a f hp hw=>?_
 have hP:=fB
 simp only[iI,mv]at hw |-
 have hΓ:=YS
 obtain⟨⟨aa,mz⟩,UF,sF⟩:=hp
 have xl:=aa.tsn
 have hl:x.ts.length<=maxLen:=by unfold maxLen;omega
 obtain⟨n,rfl⟩:∃ n:Nat,a=n:=⟨a.toNat,by omega⟩
 have hn:n<x.l.rs.length:=by omega
 rw[ai]
 repeat refine sq ?_
 refine rx hΓ [1,2,3] [[3,0]] (fun K' hK=>by simp only[go_sem];exact ao) ?_
 repeat refine sq ?_
 refine rx hΓ [1,2,3,7] [[3,0]] (fun K' hK=>by simp only[go_sem];exact ao) ?_
 repeat refine sq ?_
 refine aQ ?_
 repeat refine sq ?_
 refine cr (fun s:Nat=>[(7,⟨true,.v (vInt s)⟩)]) (fun s=>[]) (fun s=>s<=x.ts.length/\∀ m,m<x.ts.length->m<s->ll x (bS x.l n).so f m=false) (fun s=>x.ts.length-s) 0 ?_ ?_ ?_ ?_
 ·exact⟨Nat.zero_le _,fun m _ h=>by omega⟩
 ·rfl
 ·rfl
 rintro i ⟨hi,hR⟩
 simp only[go_sem]
 repeat refine sq ?_
 refine rx hΓ [1,2,3,7,12] [[3,0]] (fun K' hK=>by simp only[go_sem];exact ao) ?_
 repeat refine sq ?_
 refine aB (fun hb=>?_) fun hb=>?_
 ·have ae:i<x.ts.length:=by simpa using hb
  have au:(i:Int)<x.ts.length:=by omega
  clear hb
  have uN:i<x.l.ts.length:=by omega
  have BV:(i:Int)<x.l.ts.length:=by omega
  have qk:(n:Int)<x.l.rs.length:=by omega
  repeat refine sq ?_
  refine aG ?_
  repeat refine sq ?_
  refine aQ ?_
  repeat refine sq ?_
  refine dx hΓ hP [[],[0],[],[0,1,2],u4,u5,u6,u7,u8,u6,dI,fO,gd,u6,[0,1,2,3,4,5,13],[0,1,2,3,4,5,13,14],u6,[0,1,2,3,4,5,13,14,15,16],[0,1,2,3,4,5,13,14,15,16,17],[0,1,2,3,4,5,13,14,15,16,17,18],pE,tj,vW,rB,Ea,vV,rB,MN,vU,vT,rB,D8,u32] [1,2,3,7,47] [[3,0]] (by kernel_rfl) (fun K' hK=>by simp only[go_sem,tX ae,ah hn,ah uN,qk,BV,ai,aj,au,List.length_map];exact vf) ?_
  repeat refine sq ?_
  refine aB (fun hb=>?_) fun hb=>?_
  ·repeat refine sq ?_
   have e:kj x n f=i:=O2 ae (by unfold ll;rw[lg uN,ki hn];simpa using hb) hR
   repeat refine sq ?_
   refine rx hΓ [6] [] (fun K' hK=>by simp only[go_sem,tX ae,ah hn,ah uN,qk,BV,ai,aj,au,List.length_map];exact ao) ?_
   refine ay ?_
   simp only[go_sem]
   rw[e]
  ·repeat refine sq ?_
   refine aG ?_
   refine bV ?_
   simp only[go_sem]
   refine kp [1,2,3,7] [[3,0]] ?_
   repeat refine sq ?_
   refine aY hΓ fun K' hK=>?_
   simp only[go_sem,tX ae,ah hn,ah uN,qk,BV,ai,aj,au,List.length_map]
   repeat (refine⟨ak,?_⟩)
   refine hK _ ?_
   clear K' hK
   simp only[go_sem]
   refine⟨i+1,⟨ae,?_⟩,by(show x.ts.length-(i+1)<x.ts.length-i;omega),?_⟩
   ·intro m hm Tv
    rcases Nat.lt_succ_iff_lt_or_eq.1 Tv with h5 | rfl
    ·exact hR m hm h5
    ·unfold ll;rw[lg uN,ki hn];simpa using hb
   refine bq [1,2,3,7] [[3,0]] ?_ ?_<;>simp only[go_sem,be ae hl,bj]
 ·have bw:i=x.ts.length:=by
   have :¬ (i:Int)<x.ts.length:=by simpa using hb
   omega
  clear hb
  subst bw
  repeat refine sq ?_
  refine bM ?_
  simp only[go_sem]
  refine kp [] [] ?_
  repeat refine sq ?_
  refine rx hΓ [6] [] (fun K' hK=>by simp only[go_sem];exact ao) ?_
  refine ay ?_
  simp only[go_sem]
  rw[O1 hR]
end
set_option maxHeartbeats 8000000
noncomputable section
def wK(k:Int)(f:Fol)(r:Rec):Bool:=(cQ r.kn r.un k&&r.pa==f.pa)&&r.lv.contains f.le
def K42:List (Nat×Spec):=[(157,zi),(15,px)]
theorem YR:KS K42:=tc zT.sound<|tc wh.sound<|tn
attribute [go_sem] K42
@[go_sem] def P188:PSpec:=p3 mv iI jL (fun x a _=>0<=a/\a<x.l.rs.length) (fun x a f=>.bool (wK x.k f (bS x.l a.toNat))) true
@[go_sem] def DI:Spec:=P188.toSpec
theorem Ob:aU Tryz.prog 188 P188:=by
 refine mY (rs:=[.tmp 6]) Tryz.func188 Tryz.ntmps188 fun x a f hp hw=>?_
 simp only[jL,iI,mv,lZ]at hw |-
 have hΓ:=YR
 obtain⟨UF,sF⟩:=hp
 obtain⟨n,rfl⟩:∃ n:Nat,a=n:=⟨a.toNat,by omega⟩
 have hn:n<x.l.rs.length:=by omega
 rw[ai,ki hn]
 repeat refine sq ?_
 refine rx hΓ [1,3,5] [[3,0],[5,0]] (fun K' hK=>by simp only[go_sem];exact ao) ?_
 repeat refine sq ?_
 refine rx hΓ [3,5,7] [[3,0],[5,0],[7,0]] (fun K' hK=>by simp only[go_sem,ah hn,ai,aj,sF,List.length_map];exact ao) ?_
 repeat refine sq ?_
 refine rx hΓ [6] [] (fun K' hK=>by simp only[go_sem,Bool.decide_and,Bool.decide_eq_true];exact ao) ?_
 refine ay ?_
 simp only[go_sem]
 rfl
def gA(x:RV)(f:Fol)(day:Int):Nat->Int
 | 0=> -1
 |s+1=>if ((wK x.k f (bS x.l s)&&decide ((bS x.l s).da<=day))&&(decide (gA x f day s<0)||decide ((bS x.l s).da>(bS x.l (gA x f day s).toNat).da)))=true then(s:Int)else gA x f day s
theorem Gs(x:RV)(f:Fol)(day:Int)(s:Nat):gA x f day s= -1\/∃ j,j<s/\gA x f day s=(j:Int):=by
 induction s with
 |zero=>exact .inl rfl
 |succ s ih=>
  unfold gA
  split
  ·exact .inr ⟨s,by omega,rfl⟩
  ·rcases ih with h | ⟨j,hj,h⟩
   ·exact .inl h
   ·exact .inr ⟨j,by omega,h⟩
def pW(x:RV)(f:Fol)(day:Int):Int:=gA x f day x.l.rs.length
def K42b:List (Nat×Spec):=[(188,DI)]
theorem YQ:KS K42b:=tc Ob.sound<|tn
attribute [go_sem] K42b
@[go_sem] def P159:PSpec:=p3 mv jL iI (fun x _ _=>b7 x.l) (fun x f day=>vInt (pW x f day)) true
@[go_sem] def DK:Spec:=P159.toSpec
theorem Oq:aU Tryz.prog 159 P159:=by
 refine mY (rs:=[.tmp 6]) Tryz.func159 Tryz.ntmps159 fun x f day hp hw=>?_
 simp only[jL,iI,mv,lZ]at hw |-
 have hΓ:=YQ
 have lJ:=hp.rsn
 have hl:x.l.rs.length<=maxLen:=by unfold maxLen;omega
 repeat refine sq ?_
 refine rx hΓ [2,3,4] [[3,0],[4,0]] (fun K' hK=>by simp only[go_sem];exact ao) ?_
 repeat refine sq ?_
 refine rx hΓ [2,3,4,7] [[3,0],[4,0]] (fun K' hK=>by simp only[go_sem];exact ao) ?_
 repeat refine sq ?_
 refine rx hΓ [2,3,4,7,8] [[3,0],[4,0]] (fun K' hK=>by simp only[go_sem];exact ao) ?_
 repeat refine sq ?_
 refine aQ ?_
 repeat refine sq ?_
 refine cr (fun s:Nat=>[(8,⟨true,.v (vInt s)⟩),(7,⟨true,.v (vInt (gA x f day s))⟩)]) (fun s=>[]) (fun s=>s<=x.l.rs.length) (fun s=>x.l.rs.length-s) 0 ?_ ?_ ?_ ?_
 ·exact Nat.zero_le _
 ·rfl
 ·rfl
 rintro i hi
 generalize hL:gA x f day i=L
 simp only[go_sem]
 repeat refine sq ?_
 refine rx hΓ [2,3,4,7,8,15] [[3,0],[4,0]] (fun K' hK=>by simp only[go_sem];exact ao) ?_
 repeat refine sq ?_
 refine aB (fun hb=>?_) fun hb=>?_
 ·have ae:i<x.l.rs.length:=by simpa using hb
  have au:(i:Int)<x.l.rs.length:=by omega
  clear hb
  have hc:=Gs x f day i
  rw[hL]at hc
  have kJ:=ki ae
  have jO:dk (-1) 0=0:=rfl
  have xZ:0<x.l.rs.length:=by omega
  have xY:(0:Int)<x.l.rs.length:=by omega
  repeat refine sq ?_
  refine aG ?_
  repeat refine sq ?_
  refine aQ ?_
  repeat refine sq ?_
  refine rx hΓ [2,3,4,7,8,9] [[3,0],[4,0]] (fun K' hK=>by simp only[go_sem,ah ae,ai,aj,au];exact ao) ?_
  rcases hc with hc | ⟨j,hj,hc⟩
  ·subst hc
   repeat refine sq ?_
   refine rx hΓ [2,3,4,7,8,49] [[3,0],[4,0]] (fun K' hK=>by simp only[go_sem,ah ae,ai,aj,au,jO,ah xZ,xY,ai,wP,kJ,Bool.decide_and,Bool.decide_eq_true];exact ao) ?_
   repeat refine sq ?_
   refine aB (fun hb=>?_) fun hb=>?_
   ·repeat refine sq ?_
    have eL:gA x f day (i+1)=(i:Int):=by
     rw[gA,hL,kJ,if_pos (by simpa using hb)]
    repeat refine sq ?_
    refine aY hΓ fun K' hK=>?_
    simp only[go_sem,ah ae,ai,aj,au,jO,ah xZ,xY,ai,wP,kJ]
    repeat (refine⟨ak,?_⟩)
    refine hK _ ?_
    clear K' hK
    simp only[go_sem]
    refine kp [2,3,4,7,8] [[3,0],[4,0]] ?_
    repeat refine sq ?_
    refine aY hΓ fun K' hK=>?_
    simp only[go_sem,ah ae,ai,aj,au,jO,ah xZ,xY,ai,wP,kJ]
    repeat (refine⟨ak,?_⟩)
    refine hK _ ?_
    clear K' hK
    simp only[go_sem]
    refine⟨i+1,ae,by(show x.l.rs.length-(i+1)<x.l.rs.length-i;omega),?_⟩
    refine bq [2,3,4,7,8] [[3,0],[4,0]] ?_ ?_<;>simp only[go_sem,be ae hl,bj,eL]
   ·repeat refine sq ?_
    have eL:gA x f day (i+1)= -1:=by
     rw[gA,hL,kJ,if_neg (by simpa using hb)]
    refine aG ?_
    refine bV ?_
    simp only[go_sem]
    refine kp [2,3,4,7,8] [[3,0],[4,0]] ?_
    repeat refine sq ?_
    refine aY hΓ fun K' hK=>?_
    simp only[go_sem,ah ae,ai,aj,au,jO,ah xZ,xY,ai,wP,kJ]
    repeat (refine⟨ak,?_⟩)
    refine hK _ ?_
    clear K' hK
    simp only[go_sem]
    refine⟨i+1,ae,by(show x.l.rs.length-(i+1)<x.l.rs.length-i;omega),?_⟩
    refine bq [2,3,4,7,8] [[3,0],[4,0]] ?_ ?_<;>simp only[go_sem,be ae hl,bj,eL]
  ·subst hc
   have fI:decide ((j:Int)<0)=false:=by simp
   have mB:(if (0:Int)>(j:Int)then(0:Int)else(j:Int))=j:=if_neg (by omega)
   have lO:j<x.l.rs.length:=by omega
   have xK:(j:Int)<x.l.rs.length:=by omega
   repeat refine sq ?_
   refine rx hΓ [2,3,4,7,8,49] [[3,0],[4,0]] (fun K' hK=>by simp only[go_sem,ah ae,ai,aj,au,mB,fI,ah lO,xK,kJ,Bool.decide_and,Bool.decide_eq_true];exact ao) ?_
   repeat refine sq ?_
   refine aB (fun hb=>?_) fun hb=>?_
   ·repeat refine sq ?_
    have eL:gA x f day (i+1)=(i:Int):=by
     rw[gA,hL,kJ,ai,ki lO,fI,Bool.false_or,if_pos (by simpa using hb)]
    repeat refine sq ?_
    refine aY hΓ fun K' hK=>?_
    simp only[go_sem,ah ae,ai,aj,au,mB,fI,ah lO,xK,kJ]
    repeat (refine⟨ak,?_⟩)
    refine hK _ ?_
    clear K' hK
    simp only[go_sem]
    refine kp [2,3,4,7,8] [[3,0],[4,0]] ?_
    repeat refine sq ?_
    refine aY hΓ fun K' hK=>?_
    simp only[go_sem,ah ae,ai,aj,au,mB,fI,ah lO,xK,kJ]
    repeat (refine⟨ak,?_⟩)
    refine hK _ ?_
    clear K' hK
    simp only[go_sem]
    refine⟨i+1,ae,by(show x.l.rs.length-(i+1)<x.l.rs.length-i;omega),?_⟩
    refine bq [2,3,4,7,8] [[3,0],[4,0]] ?_ ?_<;>simp only[go_sem,be ae hl,bj,eL]
   ·repeat refine sq ?_
    have eL:gA x f day (i+1)=(j:Int):=by
     rw[gA,hL,kJ,ai,ki lO,fI,Bool.false_or,if_neg (by simpa using hb)]
    refine aG ?_
    refine bV ?_
    simp only[go_sem]
    refine kp [2,3,4,7,8] [[3,0],[4,0]] ?_
    repeat refine sq ?_
    refine aY hΓ fun K' hK=>?_
    simp only[go_sem,ah ae,ai,aj,au,mB,fI,ah lO,xK,kJ]
    repeat (refine⟨ak,?_⟩)
    refine hK _ ?_
    clear K' hK
    simp only[go_sem]
    refine⟨i+1,ae,by(show x.l.rs.length-(i+1)<x.l.rs.length-i;omega),?_⟩
    refine bq [2,3,4,7,8] [[3,0],[4,0]] ?_ ?_<;>simp only[go_sem,be ae hl,bj,eL]
 ·have bw:i=x.l.rs.length:=by
   have :¬ (i:Int)<x.l.rs.length:=by simpa using hb
   omega
  clear hb
  subst bw
  repeat refine sq ?_
  refine bM ?_
  simp only[go_sem]
  refine kp [7] [] ?_
  repeat refine sq ?_
  refine rx hΓ [6] [] (fun K' hK=>by simp only[go_sem];exact ao) ?_
  refine ay ?_
  simp only[go_sem]
  rw[<-hL];rfl
def YP:List (Nat×Spec):=[(157,zi)]
attribute [go_sem] YP
end
noncomputable section
def DP(x:RV):Prop:=b7 x.l/\x.ts.length=x.l.ts.length/\∀ i,x.ts.getD i false=true->¬ dB x.l (aI x.l i).re x.k<0
def YO:List (Nat×Spec):=[(70,zh),(158,DL),(188,DI)]
attribute [go_sem] YO
end
noncomputable section
theorem QR(x:RV)(f:Fol)(day:Int):pW x f day= -1\/∃ j,j<x.l.rs.length/\pW x f day=(j:Int):=Gs x f day _
theorem OY(x:RV)(i:Nat)(f:Int):kj x i f= -1\/∃ j,j<x.ts.length/\kj x i f=(j:Int):=by
 unfold kj
 by_cases h:(List.range x.ts.length).any (ll x (bS x.l i).so f)=true
 ·rw[if_pos h]
  have ae:(List.range x.ts.length).findIdx (ll x (bS x.l i).so f)<(List.range x.ts.length).length:=List.findIdx_lt_length_of_exists (by obtain⟨y,hy,hp⟩:=List.any_eq_true.1 h;exact⟨y,hy,hp⟩)
  exact .inr ⟨_,by simpa using ae,rfl⟩
 ·rw[if_neg h];exact .inl rfl
theorem P1(a b:Int):dk a b=if b>a then b else a:=rfl
def YN:List (Nat×Spec):=[(159,DK),(103,vF)]
attribute [go_sem] YN
end
noncomputable section
def YM:List (Nat×Spec):=[]
attribute [go_sem] YM
end
noncomputable section
def ow(l:Led)(k:Int):RV:=⟨l,k,br l k l.ts.length,[]⟩
def YL:List (Nat×Spec):=[(71,DE)]
attribute [go_sem] YL
@[go_sem] def XU:PSpec:=p2 iL iI (fun l _=>b7 l) (fun l k=>CS (ow l k)) false
@[go_sem] def zg:Spec:=XU.toSpec
end
noncomputable section
def V3(x:RV)(a b:Nat)(f:Int):Bool:=(wK x.k ⟨(bS x.l a).pa,f⟩ (bS x.l a)&&wK x.k ⟨(bS x.l a).pa,f⟩ (bS x.l b))&&
 (((bS x.l a).da==(bS x.l b).da||decide (kj x a f<0))||decide (vj (aI x.l (kj x a f).toNat) (bS x.l a)>(bS x.l b).da))
def V1(x:RV)(a b:Nat):Bool:=(bS x.l a).lv.any (V3 x a b)
def YK:List (Nat×Spec):=[(188,DI),(103,vF),(158,DL)]
attribute [go_sem] YK
def Md:PSpec:=p3 mv iI iI (fun x a b=>DP x/\(0<=a/\a<x.l.rs.length/\0<=b/\b<x.l.rs.length)/\¬ (bS x.l a.toNat).da>(bS x.l b.toNat).da) (fun x a b=>.bool (V1 x a.toNat b.toNat)) true
end
noncomputable section
def XJ:Spec:=Md.toSpec
attribute [go_sem] Md XJ
def YJ:List (Nat×Spec):=[]
attribute [go_sem] YJ
theorem aU.or{P:Program}{f:FuncId}{s s1 s2:PSpec}(h1:aU P f s1)(h2:aU P f s2)(hs:s.flat=true->s1.flat=true/\s2.flat=true)
 (hc:∀ xs,s.pre xs->(s1.pre xs/\s1.fn xs=s.fn xs)\/(s2.pre xs/\s2.fn xs=s.fn xs)):aU P f s where
 ne:=h1.ne
 enter:=h1.enter
 flat:=fun hf xs hp=>by
  rcases hc xs hp with⟨a,e⟩ | ⟨a,e⟩
  ·rw[<-e];exact h1.flat (hs hf).1 xs a
  ·rw[<-e];exact h2.flat (hs hf).2 xs a
 calls:=fun m w xs args ha hr hp=>by
  rcases hc xs hp with⟨a,e⟩ | ⟨a,e⟩
  ·rw[<-e];exact h1.calls m w xs args ha hr a
  ·rw[<-e];exact h2.calls m w xs args ha hr a
end
noncomputable section
def YI:List (Nat×Spec):=[(159,DK),(103,vF)]
attribute [go_sem] YI
end
noncomputable section
def YH:List (Nat×Spec):=[]
attribute [go_sem] YH
end
noncomputable section
theorem Ei(l:Led)(k:Int){s i:Nat}(h:(br l k s).getD i false=true):i<s/\gf l k (br l k i) i=true:=by
 induction s with
 |zero=>rw[vZ l k (Nat.zero_le i)]at h;cases h
 |succ s ih=>
  by_cases hi:i<s
  ·have e:(br l k (s+1)).getD i false=(br l k s).getD i false:=by
     rw[br]
     split
     ·rw[List.getD_eq_getElem?_getD,List.getElem?_set_ne (by omega),<-List.getD_eq_getElem?_getD]
     ·rfl
   rw[e]at h
   exact⟨by omega,(ih h).2⟩
  ·by_cases hs:i=s
   ·subst hs
    refine⟨by omega,?_⟩
    cases hb:gf l k (br l k i) i with
    |true=>rfl
    |false=>rw[vY l k hb,vZ l k (Nat.le_refl i)]at h;cases h
   ·rw[vZ l k (by omega)]at h;cases h
theorem MV{l:Led}{k:Int}{row:List Bool}{i:Nat}(h:gf l k row i=true):¬ dB l (aI l i).re k<0:=by
 unfold gf at h
 split at h
 ·cases h
 ·assumption
theorem OK{l:Led}(h:b7 l)(k:Int):DP (ow l k):=⟨h,pH _ _ _,fun _ hi=>MV (Ei l k hi).2⟩
def YG:List (Nat×Spec):=[(73,zg)]
attribute [go_sem] YG
end
noncomputable section
structure Ask where
 (da kn pa le pe so:Int)
 deriving Inhabited
def Kk(x:Ask):V:=.agg [vInt x.da,vInt x.kn,vInt x.pa,vInt x.le,vInt x.pe,vInt x.so]
def Kv:V->Ask
 | .agg [.int _ a,.int _ b,.int _ c,.int _ d,.int _ e,.int _ f]=>⟨a,b,c,d,e,f⟩
 |_=>default
def SJ:En Ask:=⟨Kk,Kv⟩
attribute [go_sem] Kk Kv SJ
@[go_sem] theorem adz(x:Ask):(⟨x.da,x.kn,x.pa,x.le,x.pe,x.so⟩:Ask)=x:=rfl
def YF:List (Nat×Spec):=[]
attribute [go_sem] YF
end
end Go.Eng
