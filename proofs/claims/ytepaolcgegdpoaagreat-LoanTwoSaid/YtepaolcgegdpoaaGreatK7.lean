import Derived.Test.YtepaolcgegdpoaaGreatK6
/- Texts LW27 to LP5. -/
set_option linter.all false
namespace Go.Eng
open Go Go.Proofs
noncomputable section
theorem vK{α:Type}{p:α->Bool}{l:List α}{i:Nat}(h:i<l.length):(l.take (i+1)).all p=((l.take i).all p&&p l[i]):=by
 rw[List.take_add_one,List.getElem?_eq_getElem h,List.all_append]
 simp
theorem J7{x:Vw}{d:Ds}{l:List Sig}{i:Nat}(h:i<l.length):dD x d (l.take (i+1))=oc x (dD x d (l.take i)) l[i]:=by
 unfold dD
 rw[List.take_add_one,List.getElem?_eq_getElem h,List.foldl_append]
 rfl
theorem zy(x:Vw)(d:Ds)(s:Sig):bt ⟨x.l,x.rs,x.ts,x.bk,d⟩ s=bt x s:=rfl
theorem m7.ds{x:Vw}(h:m7 x)(d:Ds):m7 ⟨x.l,x.rs,x.ts,x.bk,d⟩:=⟨h.ok,h.bk,h.rs,h.rn,h.tn,h.ts⟩
theorem P3(x:Vw)(d:Ds)(i:Int)(r:Rg):AH ⟨x.l,x.rs,x.ts,x.bk,d⟩ i r=nE d i r:=rfl
theorem Yq{H H':Name->Option O}{Km:List (V×V)}(fw:upd H [2,1] (some (.map 0 Km))=H')(ae:∀ hs es,bU [0] (bP [0] hs) (fun nm=>if nm=[2,1]then some (.map 0 es)else H nm)=True):
 (∀ hs,bU [0] (bP [0] hs) H'=True)/\∀ hs es,bU [0] (bP [0] hs) (fun nm=>if nm=[2,1]then some (.map 0 es)else H' nm)=True:=by
 refine⟨fun hs=>by rw[<-fw];exact ae hs Km,fun hs es=>?_⟩
 have e:(fun nm=>if nm=[2,1]then some (.map 0 es)else H' nm)=fun nm=>if nm=[2,1]then some (.map 0 es)else H nm:=by
  funext nm
  rw[<-fw]
  by_cases e:nm=[2,1]
  ·simp[e]
  ·simp[aU _ _ _ e,e]
 rw[e];exact ae hs es
theorem MY{α β:Type}[DecidableEq α]{f:α->β}{a:α}{b:β}(h:f a=b):upd f a b=f:=by
 funext x
 by_cases e:x=a
 ·subst e;rw[aM,h]
 ·rw[aU _ _ _ e]
def wA(d:Ds)(i:Int):Bool:=decide ((bh d i).1<=(bh d i).2)
def K27:List (Nat×Spec):=[(187,S187),(165,S165)]
theorem ZF:KS K27:=tc Su<|tc Bb<|tn
attribute [go_sem] K27
def L7:VSpec:=v1 (eX iS) (fun x l=>((m7 x/\x.rs.Nodup)/\l.length<=60)/\∀ s∈l,rJ s) (fun x l=>.v (.bool (cU x l))) (some fun x l=>dD x x.ds l)
def S128:Spec:=L7.toSpec
attribute [go_sem] L7 S128
set_option maxHeartbeats 8000000 in
theorem It:aK Tryz.prog 128 S128:=by
 refine vZ (rs:=[.tmp 4]) Tryz.func128 Tryz.ntmps128 (by rfl) (by kernel_rfl) (by decide) (fun _ _=>by first | rfl | simp[D.clos,D.closL,lE]) ⟨_,rfl,lb rfl,fun x l hp H h0 h1 h2 hO ae=>?_⟩
 simp only[iS,eX,encS,bq,cY,List.map_cons,List.map_nil,Nat.zero_add,Option.map_some,Option.map_none]at h0 |-
 have hΓ:=ZF
 obtain⟨⟨⟨hv,b7⟩,uW⟩,sw⟩:=hp
 have sB:l.length<=maxLen:=by unfold maxLen;omega
 have uM:x.ts.length<=maxLen:=by have:=hv.tn;unfold maxLen;omega
 have ba:∀ hs es,bU [0] (bP [0] hs) (upd H [2,1] (some (.map 0 es)))=True:=ae
 repeat refine sq ?_
 refine rx hΓ [0,1] [] (fun K' hK=>by simp only[go_sem,hO,ae,ba,h0,h1,h2];(repeat (refine⟨an,?_⟩));exact hK _ (by simp only[go_sem,hO,ae,ba,h0,h1,h2]) (by simp only[go_sem,hO,ae,ba,h0,h1,h2]<;>rfl)) ?_
 repeat refine sq ?_
 refine rx hΓ [0,1,5] [] (fun K' hK=>by simp only[go_sem,hO,ae,ba,h0,h1,h2];(repeat (refine⟨an,?_⟩));exact hK _ (by simp only[go_sem,hO,ae,ba,h0,h1,h2]) (by simp only[go_sem,hO,ae,ba,h0,h1,h2]<;>rfl)) ?_
 repeat refine sq ?_
 refine rx hΓ [0,1,5,6] [] (fun K' hK=>by simp only[go_sem,hO,ae,ba,h0,h1,h2];(repeat (refine⟨an,?_⟩));exact hK _ (by simp only[go_sem,hO,ae,ba,h0,h1,h2]) (by simp only[go_sem,hO,ae,ba,h0,h1,h2]<;>rfl)) ?_
 repeat refine sq ?_
 refine rx hΓ [0,5,6,16,17,18] [] (fun K' hK=>by simp only[go_sem,hO,ae,ba,h0,h1,h2];(repeat (refine⟨an,?_⟩));exact hK _ (by simp only[go_sem,hO,ae,ba,h0,h1,h2]) (by simp only[go_sem,hO,ae,ba,h0,h1,h2]<;>rfl)) ?_
 repeat refine sq ?_
 refine aS ?_
 repeat refine sq ?_
 refine KY (fun s:Nat=>upd H [2,1] (some (.map 0 (bB (dD x x.ds (l.take s)))))) (fun s:Nat=>[(18,⟨true,.v (vInt s)⟩),(5,⟨true,.v (.bool ((l.take s).all (gF x)))⟩)]) (fun s=>[]) (fun s=>s<=l.length) (fun s=>l.length-s) 0 ?_ ?_ ?_ ?_ ?_
 ·exact Nat.zero_le _
 ·congr 1;exact MY h2
 ·rfl
 ·rfl
 rintro i hi
 generalize fw:upd H [2,1] (some (.map 0 (bB (dD x x.ds (l.take i)))))=H'
 have h0:=(show H' [0,1]=H [0,1]by rw[<-fw,aU _ _ _ (by decide)]).trans h0
 have h1:=(show H' [1,1]=H [1,1]by rw[<-fw,aU _ _ _ (by decide)]).trans h1
 have h2:H' [2,1]=some (.map 0 (bB (dD x x.ds (l.take i)))):=by rw[<-fw,aM]
 obtain⟨hO,ae⟩:=Yq fw ae
 have ba:∀ hs es,bU [0] (bP [0] hs) (upd H' [2,1] (some (.map 0 es)))=True:=ae
 simp only[go_sem]
 repeat refine sq ?_
 refine rx hΓ [0,5,6,16,17,18,19] [] (fun K' hK=>by simp only[go_sem,hO,ae,ba,h0,h1,h2];(repeat (refine⟨an,?_⟩));exact hK _ (by simp only[go_sem,hO,ae,ba,h0,h1,h2]) (by simp only[go_sem,hO,ae,ba,h0,h1,h2]<;>rfl)) ?_
 repeat refine sq ?_
 refine aB (fun hb=>?_) fun hb=>?_
 ·have ab:i<l.length:=by simpa using hb
  have aq:(i:Int)<l.length:=by omega
  clear hb
  have j5:=sw l[i] (List.getElem_mem ab)
  repeat refine sq ?_
  refine aF ?_
  repeat refine sq ?_
  refine aS ?_
  repeat refine sq ?_
  refine rx hΓ [0,5,6,8,16,17,18] [[8,0]] (fun K' hK=>by simp only[go_sem,hO,ae,ba,h0,h1,h2,ah ab,ai,aj,aq];(repeat (refine⟨an,?_⟩));exact hK _ (by simp only[go_sem,hO,ae,ba,h0,h1,h2,ah ab,ai,aj,aq]) (by simp only[go_sem,hO,ae,ba,h0,h1,h2,ah ab,ai,aj,aq]<;>rfl)) ?_
  repeat refine sq ?_
  refine rx hΓ [0,5,6,9,10,16,17,18] [[10,0]] (fun K' hK=>by simp only[go_sem,hO,ae,ba,h0,h1,h2,ah ab,ai,aj,aq,zy];(repeat (refine⟨by first | exact an | exact⟨⟨hv.ds _,b7⟩,j5⟩,?_⟩));exact hK _ (by simp only[go_sem,hO,ae,ba,h0,h1,h2,ah ab,ai,aj,aq,zy]) (by simp only[go_sem,hO,ae,ba,h0,h1,h2,ah ab,ai,aj,aq,zy]<;>rfl)) ?_
  repeat refine sq ?_
  refine rx hΓ [0,5,6,9,10,16,17,18,29] [[10,0]] (fun K' hK=>by simp only[go_sem,hO,ae,ba,h0,h1,h2,ah ab,ai,aj,aq];(repeat (refine⟨an,?_⟩));exact hK _ (by simp only[go_sem,hO,ae,ba,h0,h1,h2,ah ab,ai,aj,aq]) (by simp only[go_sem,hO,ae,ba,h0,h1,h2,ah ab,ai,aj,aq]<;>rfl)) ?_
  repeat refine sq ?_
  refine aB (fun hb=>?_) fun hb=>?_
  ·repeat refine sq ?_
   have mI:(bt x l[i]).1>=0:=by simpa using hb
   have hA:(l.take (i+1)).all (gF x)=(l.take i).all (gF x):=by rw[vK ab];simp[gF,mI]
   have hF:dD x x.ds (l.take (i+1))=nE (dD x x.ds (l.take i)) (bt x l[i]).1 (bt x l[i]).2:=by rw[J7 ab,oc,if_pos mI]
   repeat refine sq ?_
   refine bc hΓ fun K' hK=>?_
   simp only[go_sem,hO,ae,ba,h0,h1,h2,ah ab,ai,aj,aq,P3]
   repeat (refine⟨an,?_⟩)
   refine hK _ ?_
   clear K' hK
   simp only[go_sem]
   refine eo [0,5,6,16,17,18] [] ?_ ?_
   ·simp only[go_sem,hO,ae,ba,h0,h1,h2]
   simp only[go_sem,hO,ae,ba,h0,h1,h2]
   repeat refine sq ?_
   refine bc hΓ fun K' hK=>?_
   simp only[go_sem,hO,ae,ba,h0,h1,h2,ah ab,ai,aj,aq]
   repeat (refine⟨an,?_⟩)
   refine hK _ ?_
   clear K' hK
   simp only[go_sem]
   refine⟨i+1,ab,by(show l.length-(i+1)<l.length-i;omega),?_⟩
   refine bu [0,5,6,16,17,18] [] ?_ ?_
   ·simp only[go_sem,bn ab sB,br,hA,hF,hO,ae,ba,h0,h1,h2]
   ·simp only[go_sem,bn ab sB,br,hA,hF,hO,ae,ba,h0,h1,h2]
    all_goals first | (rw[<-fw];done) | (congr 1;funext nm;rw[<-fw];by_cases e:nm=[2,1]<;>simp[e,aM,aU])
  ·repeat refine sq ?_
   have mI:¬ (bt x l[i]).1>=0:=by simpa using hb
   have hF:dD x x.ds (l.take (i+1))=dD x x.ds (l.take i):=by rw[J7 ab,oc,if_neg mI]
   repeat refine sq ?_
   refine rx hΓ [0,5,6,16,17,18,38] [] (fun K' hK=>by simp only[go_sem,hO,ae,ba,h0,h1,h2,ah ab,ai,aj,aq];(repeat (refine⟨an,?_⟩));exact hK _ (by simp only[go_sem,hO,ae,ba,h0,h1,h2,ah ab,ai,aj,aq]) (by simp only[go_sem,hO,ae,ba,h0,h1,h2,ah ab,ai,aj,aq]<;>rfl)) ?_
   repeat refine sq ?_
   refine aB (fun hb=>?_) fun hb=>?_
   ·repeat refine sq ?_
    have hA:(l.take (i+1)).all (gF x)=false:=by rw[vK ab];simp[gF,mI];intro _;simpa using hb
    repeat refine sq ?_
    refine bc hΓ fun K' hK=>?_
    simp only[go_sem,hO,ae,ba,h0,h1,h2,ah ab,ai,aj,aq]
    repeat (refine⟨an,?_⟩)
    refine hK _ ?_
    clear K' hK
    simp only[go_sem]
    refine eo [0,5,6,16,17,18] [] ?_ ?_
    ·simp only[go_sem,hO,ae,ba,h0,h1,h2]
    simp only[go_sem,hO,ae,ba,h0,h1,h2]
    repeat refine sq ?_
    refine bc hΓ fun K' hK=>?_
    simp only[go_sem,hO,ae,ba,h0,h1,h2,ah ab,ai,aj,aq]
    repeat (refine⟨an,?_⟩)
    refine hK _ ?_
    clear K' hK
    simp only[go_sem]
    refine⟨i+1,ab,by(show l.length-(i+1)<l.length-i;omega),?_⟩
    refine bu [0,5,6,16,17,18] [] ?_ ?_
    ·simp only[go_sem,bn ab sB,br,hA,hF,hO,ae,ba,h0,h1,h2]
    ·simp only[go_sem,bn ab sB,br,hA,hF,hO,ae,ba,h0,h1,h2]
     all_goals first | (rw[<-fw];done) | (congr 1;funext nm;rw[<-fw];by_cases e:nm=[2,1]<;>simp[e,aM,aU])
   ·repeat refine sq ?_
    have hA:(l.take (i+1)).all (gF x)=(l.take i).all (gF x):=by rw[vK ab];simp[gF,mI];intro _;simpa using hb
    refine aF ?_
    refine b9 ?_
    simp only[go_sem]
    refine eo [0,5,6,16,17,18] [] ?_ ?_
    ·simp only[go_sem,hO,ae,ba,h0,h1,h2]
    simp only[go_sem,hO,ae,ba,h0,h1,h2]
    repeat refine sq ?_
    refine bc hΓ fun K' hK=>?_
    simp only[go_sem,hO,ae,ba,h0,h1,h2,ah ab,ai,aj,aq]
    repeat (refine⟨an,?_⟩)
    refine hK _ ?_
    clear K' hK
    simp only[go_sem]
    refine⟨i+1,ab,by(show l.length-(i+1)<l.length-i;omega),?_⟩
    refine bu [0,5,6,16,17,18] [] ?_ ?_
    ·simp only[go_sem,bn ab sB,br,hA,hF,hO,ae,ba,h0,h1,h2]
    ·simp only[go_sem,bn ab sB,br,hA,hF,hO,ae,ba,h0,h1,h2]
     all_goals first | (rw[<-fw];done) | (congr 1;funext nm;rw[<-fw];by_cases e:nm=[2,1]<;>simp[e,aM,aU])
 ·have bF:i=l.length:=by
   have :¬ (i:Int)<l.length:=by simpa using hb
   omega
  clear hb
  subst bF
  repeat refine sq ?_
  refine bW ?_
  simp only[go_sem]
  refine eo [0,5] [] ?_ ?_
  ·simp only[go_sem,hO,ae,ba,h0,h1,h2]
  simp only[go_sem,hO,ae,ba,h0,h1,h2]
  repeat refine sq ?_
  refine rx hΓ [0,5,43,44,45] [] (fun K' hK=>by simp only[go_sem,hO,ae,ba,h0,h1,h2];(repeat (refine⟨an,?_⟩));exact hK _ (by simp only[go_sem,hO,ae,ba,h0,h1,h2]) (by simp only[go_sem,hO,ae,ba,h0,h1,h2]<;>rfl)) ?_
  repeat refine sq ?_
  refine aS ?_
  repeat refine sq ?_
  refine cM (fun s:Nat=>[(45,⟨true,.v (vInt s)⟩),(5,⟨true,.v (.bool ((x.ts.take s).all (wA (dD x x.ds (l.take l.length)))&&(l.take l.length).all (gF x)))⟩)]) (fun s=>[]) (fun s=>s<=x.ts.length) (fun s=>x.ts.length-s) 0 ?_ ?_ ?_ ?_
  ·exact Nat.zero_le _
  ·rfl
  ·rfl
  rintro i1 hi
  generalize hB:((x.ts.take i1).all (wA (dD x x.ds (l.take l.length)))&&(l.take l.length).all (gF x))=B
  simp only[go_sem]
  repeat refine sq ?_
  refine rx hΓ [0,5,43,44,45,46] [] (fun K' hK=>by simp only[go_sem,hO,ae,ba,h0,h1,h2];(repeat (refine⟨an,?_⟩));exact hK _ (by simp only[go_sem,hO,ae,ba,h0,h1,h2]) (by simp only[go_sem,hO,ae,ba,h0,h1,h2]<;>rfl)) ?_
  repeat refine sq ?_
  refine aB (fun hb=>?_) fun hb=>?_
  ·have aI:i1<x.ts.length:=by simpa using hb
   have bj:(i1:Int)<x.ts.length:=by omega
   clear hb
   have hA:((x.ts.take (i1+1)).all (wA (dD x x.ds (l.take l.length)))&&(l.take l.length).all (gF x))=(B&&decide ((bh (dD x x.ds (l.take l.length)) x.ts[i1]).1<=(bh (dD x x.ds (l.take l.length)) x.ts[i1]).2)):=by
    rw[<-hB,vK aI,Bool.and_assoc,Bool.and_assoc,Bool.and_comm (wA _ _)];rfl
   repeat refine sq ?_
   refine aF ?_
   repeat refine sq ?_
   refine aS ?_
   repeat refine sq ?_
   refine rx hΓ [0,5,12,43,44,45] [] (fun K' hK=>by simp only[go_sem,hO,ae,ba,h0,h1,h2,ah aI,ai,aj,bj];(repeat (refine⟨an,?_⟩));exact hK _ (by simp only[go_sem,hO,ae,ba,h0,h1,h2,ah aI,ai,aj,bj]) (by simp only[go_sem,hO,ae,ba,h0,h1,h2,ah aI,ai,aj,bj]<;>rfl)) ?_
   repeat refine sq ?_
   refine rx hΓ [0,5,13,43,44,45] [[13,0]] (fun K' hK=>by simp only[go_sem,hO,ae,ba,h0,h1,h2,ah aI,ai,aj,bj,si];(repeat (refine⟨an,?_⟩));exact hK _ (by simp only[go_sem,hO,ae,ba,h0,h1,h2,ah aI,ai,aj,bj,si]) (by simp only[go_sem,hO,ae,ba,h0,h1,h2,ah aI,ai,aj,bj,si]<;>rfl)) ?_
   repeat refine sq ?_
   refine bc hΓ fun K' hK=>?_
   simp only[go_sem,hO,ae,ba,h0,h1,h2,ah aI,ai,aj,bj]
   repeat (refine⟨an,?_⟩)
   refine hK _ ?_
   clear K' hK
   simp only[go_sem]
   refine eo [0,5,43,44,45] [] ?_ ?_
   ·simp only[go_sem,hO,ae,ba,h0,h1,h2]
   simp only[go_sem,hO,ae,ba,h0,h1,h2]
   repeat refine sq ?_
   refine bc hΓ fun K' hK=>?_
   simp only[go_sem,hO,ae,ba,h0,h1,h2,ah aI,ai,aj,bj]
   repeat (refine⟨an,?_⟩)
   refine hK _ ?_
   clear K' hK
   simp only[go_sem]
   refine⟨i1+1,aI,by(show x.ts.length-(i1+1)<x.ts.length-i1;omega),?_⟩
   refine bu [0,5,43,44,45] [] ?_ ?_<;>simp only[go_sem,bn aI uM,br,hA,hO,ae,ba,h0,h1,h2]
  ·have iY:i1=x.ts.length:=by
    have :¬ (i1:Int)<x.ts.length:=by simpa using hb
    omega
   clear hb
   subst iY
   repeat refine sq ?_
   refine bW ?_
   simp only[go_sem]
   refine eo [5] [] ?_ ?_
   ·simp only[go_sem,hO,ae,ba,h0,h1,h2]
   simp only[go_sem,hO,ae,ba,h0,h1,h2]
   repeat refine sq ?_
   refine rx hΓ [4] [] (fun K' hK=>by simp only[go_sem,hO,ae,ba,h0,h1,h2];(repeat (refine⟨an,?_⟩));exact hK _ (by simp only[go_sem,hO,ae,ba,h0,h1,h2]) (by simp only[go_sem,hO,ae,ba,h0,h1,h2]<;>rfl)) ?_
   refine av ?_
   simp only[go_sem,hO,ae,ba,h0,h1,h2]
   rw[<-hB];simp only[List.take_length];exact⟨by unfold cU sN;rw[Bool.and_comm];rfl,trivial⟩
end
open Go
structure Ro (α:Type) where
 m:Nat
 fam:α->List Name->List O
 args:α->List Name->List D
 ok:α->Prop
 val:α->D
structure Ro.Ok {α:Type} (r:Ro α):Prop where
 len:∀ a Ls,Ls.length=r.m->(r.fam a Ls).length=r.m
 renF:∀ a f Ls,Ls.length=r.m->(r.fam a Ls).map (O.ren f)=r.fam a (Ls.map f)
 renA:∀ a f Ls,Ls.length=r.m->D.renL f (r.args a Ls)=r.args a (Ls.map f)
 reach:∀ a Ls obj,Ls.length=r.m->Ls.Nodup->cF obj Ls (r.fam a Ls)->reach obj (r.args a Ls)=Ls
 closF:∀ a dom Ls,Ls.length=r.m->(∀ x∈Ls,dom x=true)->∀ o∈r.fam a Ls,O.clos dom o=true
 closA:∀ a dom Ls,Ls.length=r.m->(∀ x∈Ls,dom x=true)->D.closL dom (r.args a Ls)=true
 det:∀ a b,r.ok a->r.ok b->r.fam a (LR r.m)=r.fam b (LR r.m)->r.args a (LR r.m)=r.args b (LR r.m)->r.val a=r.val b
 vcl:∀ a dom,D.clos dom (r.val a)=true
 vren:∀ a f,(r.val a).ren f=r.val a
variable {α:Type}
noncomputable def Ro.c(r:Ro α):CSpec where
 pre:=fun os ds=>∃ a,r.ok a/\os=r.fam a (LR r.m)/\ds=r.args a (LR r.m)
 out:=fun os ds=>⟨[],[],by classical exact if h:∃ a,r.ok a/\os=r.fam a (LR r.m)/\ds=r.args a (LR r.m)then r.val h.choose else .any⟩
theorem Ro.c_out{r:Ro α}(hr:r.Ok){a:α}(ha:r.ok a):r.c.out (r.fam a (LR r.m)) (r.args a (LR r.m))=⟨[],[],r.val a⟩:=by
 have h:∃ b,r.ok b/\r.fam a (LR r.m)=r.fam b (LR r.m)/\r.args a (LR r.m)=r.args b (LR r.m):=⟨a,ha,rfl,rfl⟩
 have e:r.val h.choose=r.val a:=(hr.det _ _ ha h.choose_spec.1 h.choose_spec.2.1 h.choose_spec.2.2).symm
 simp only[Ro.c]
 rw[dif_pos h,e]
theorem Ro.c_app{r:Ro α}(hr:r.Ok){a:α}(ha:r.ok a){obj:Name->Option O}{t:Name}{Ls:List Name}(hl:Ls.length=r.m)(hn:Ls.Nodup)(hF:cF obj Ls (r.fam a Ls)):
 r.c.toSpec.app obj t (r.args a Ls)=⟨True,r.val a,obj⟩:=by
 have iW:=hr.reach a Ls obj hl hn hF
 have qB:Ls.map (cin Ls)=LR r.m:=by rw[yA hn,hl]
 have e1:cg obj (r.args a Ls)=r.fam a (LR r.m):=by
  unfold cg
  rw[iW]
  have l9:=hF
  rw[jT]at l9
  have :Ls.map (cm Ls obj)=(r.fam a Ls).map (O.ren (cin Ls)):=by
   refine List.ext_getElem (by simp[hr.len _ _ hl,hl]) fun i h1 h2=>?_
   have h3:i<Ls.length:=by simpa using h1
   have h4:i<(r.fam a Ls).length:=by rw[hr.len _ _ hl,<-hl];exact h3
   have h5:=congrArg (fun l=>l[i]?) l9
   have h6:obj Ls[i]=some (r.fam a Ls)[i]:=by simpa[h3,h4]using h5
   simp only[List.getElem_map,cm,h6]
  rw[this,hr.renF _ _ _ hl,qB]
 have e2:cN obj (r.args a Ls)=r.args a (LR r.m):=by
  unfold cN
  rw[iW,hr.renA _ _ _ hl,qB]
 have jC:∀ x∈Ls,cG Ls x=true:=fun x hx=>fG.2 hx
 have iU:shut obj Ls=true:=by
  unfold shut
  rw[List.all_eq_true]
  intro x hx
  obtain⟨i,hi,rfl⟩:=List.getElem_of_mem hx
  have l9:=hF
  rw[jT]at l9
  have h4:i<(r.fam a Ls).length:=by rw[hr.len _ _ hl,<-hl];exact hi
  have h5:=congrArg (fun l=>l[i]?) l9
  have h6:obj Ls[i]=some (r.fam a Ls)[i]:=by simpa[hi,h4]using h5
  rw[h6]
  exact hr.closF _ _ _ hl jC _ (List.getElem_mem h4)
 have dr:r.c.pre (r.fam a (LR r.m)) (r.args a (LR r.m)):=⟨a,ha,rfl,rfl⟩
 simp only[CSpec.toSpec,e1,e2,iW,Ro.c_out hr ha,iU,hr.closA _ _ _ hl jC,fresh,List.all_nil,Bool.and_self,dr,and_self,c9,cj,hr.vren]
def EX(P:Program)(rs:List ResultVar)(v:D)(H:Name->Option O)(e:Exit)(σ:S):Prop:=
 (e=.normal\/e=.ret)/\(bI P σ rs).ok/\(bI P σ rs).d=v/\∀ i,σ.obj [i,1]=H [i,1]
theorem Ax{σ:S}:∀ {os:List O} {k:Nat},(∀ i (h:i<os.length),σ.obj [k+i,1]=some os[i])->pU σ [] k os
 |[],_,_=>trivial
 |o::r,k,h=>by
  refine⟨by have:=h 0 (by simp);simp only[Nat.add_zero,List.getElem_cons_zero]at this;exact this,Ax fun i hi=>?_⟩
  have :=h (i+1) (by simpa using hi)
  rw[show k+1+i=k+(i+1)by omega]
  simpa using this
theorem Ro.sound{P:Program}{r:Ro α}(hr:r.Ok){f:FuncId}{fn:Func}{nt:Nat}{rs:List ResultVar}(hf:P.funcs[f]?=some fn)(cJ:fn.ntmps=nt)(bY:fn.results.toList=rs)(hn:(fn.name== "runtime.NumGoroutine")=false)(hy:f<1000000000)
 (hw:∃ c,fn.body=some c/\∀ a,r.ok a->(r.args a (LR r.m)).length<=nt/\CL P [c] (bb nt [0] (aQ (r.fam a (LR r.m))) (cY 0 (r.args a (LR r.m))) []) (EX P rs (r.val a) (aQ (r.fam a (LR r.m))))):aK P f r.c.toSpec:=by
 obtain⟨c,hc,hw⟩:=hw
 refine mS hf hc cJ bY (gn hf hc hn) (Nat.ne_of_lt (show f<yid from hy)) ?_
 rintro os ds ⟨a,ha,rfl,rfl⟩
 obtain⟨hl,h⟩:=hw a ha
 refine⟨hl,?_⟩
 rw[Ro.c_out hr ha]
 refine CW.mono (iw h) ?_
 rintro e σ ⟨he,h1,h2,h3⟩
 have fin:(bI P σ rs).ok/\(bI P σ rs).d=r.val a/\fx (r.fam a (LR r.m)) ⟨[],[],r.val a⟩ σ:=by
  refine⟨h1,h2,Ax fun i hi=>?_,trivial,?_⟩
  ·rw[Nat.zero_add,h3]
   show (r.fam a (LR r.m))[i]?=_
   rw[List.getElem?_eq_getElem hi]
  ·simp[hr.vcl,distinct]
 rcases he with rfl | rfl
 ·exact fin
 ·exact fin
theorem Ro.outC{r:Ro α}(hr:r.Ok)(a:α):∀ hs,bU [0] (bP [0] hs) (aQ (r.fam a (LR r.m)))=True:=fun hs=>eq_true (nz (fun o ho dom hd=>hr.closF a dom _ (na _) (fun x hx=>by
 obtain⟨i,_,rfl⟩:=List.mem_map.1 hx
 exact hd i) o ho) hs)
set_option maxHeartbeats 8000000
set_option maxRecDepth 10000
noncomputable section
attribute [go_sem] EX
theorem ua{Ls:List Name}(h:Ls.length=4):∃ a b c d,Ls=[a,b,c,d]:=by
 match Ls,h with
 |[a,b,c,d],_=>exact⟨a,b,c,d,rfl⟩
def jF(x:Vw)(nr nb nd:Name):O:=.box [.v (ja x.l),.v (.sl (x.rs.map encR)),.msl nr x.ts.length,.map nb,.map nd]
def pq(x:Vw)(Ls:List Name):List O:=[jF x (Ls.getD 1 []) (Ls.getD 2 []) (Ls.getD 3 []),.arr 1 (x.ts.map vInt),.map 2 (bM x.bk),.map 0 (bB x.ds)]
theorem Vs{x y:Vw}{a b c:Name}(h:jF x a b c=jF y a b c):x.rs=y.rs:=by
 simp only[jF,O.box.injEq,List.cons.injEq,D.v.injEq,V.sl.injEq]at h
 have :=congrArg (List.map jH) h.2.1
 rwa [yp,yp]at this
def iK:Ro (Vw×Int) where
 m:=4
 fam:=fun a Ls=>pq a.1 Ls
 args:=fun a Ls=>[.ref (Ls.getD 0 []) 0,.v (vInt a.2)]
 ok:=fun _=>True
 val:=fun a=>.tup [lF (cV a.1.rs a.2),.v (.bool (cV a.1.rs a.2).isSome)]
theorem Pp(o:Option Rec)(f:Name->Name):(lF o).ren f=lF o:=by cases o<;>rfl
theorem Ae:iK.Ok where
 len:=fun _ _ _=>rfl
 renF:=fun a f Ls h=>by obtain⟨a,b,c,d,rfl⟩:=ua h;rfl
 renA:=fun a f Ls h=>by obtain⟨a,b,c,d,rfl⟩:=ua h;rfl
 reach:=fun x Ls obj h b7 hF=>by
  obtain⟨a,b,c,d,rfl⟩:=ua h
  obtain⟨h1,h2,h3,h4,_⟩:=hF
  have en:cP (iK.args x [a,b,c,d])=[a]:=rfl
  unfold Go.Eng.reach
  rw[en]
  show dd obj (2993+1+1+1+1+1+1+1) _ []=_
  simp only[List.nodup_cons,List.mem_cons,List.not_mem_nil,or_false,not_or,not_false_eq_true,List.nodup_nil,and_true]at b7
  obtain⟨⟨a1,a2,a3⟩,⟨b1,b2⟩,c1⟩:=b7
  simp[dd,fG,h1,h2,h3,h4,kK,cP,kL,jF,Ne.symm a1,Ne.symm a2,Ne.symm a3,Ne.symm b1,Ne.symm b2,Ne.symm c1]
 closF:=fun x dom Ls h hd o ho=>by
  obtain⟨a,b,c,d,rfl⟩:=ua h
  have h1:=hd b (by simp)
  have h2:=hd c (by simp)
  have h3:=hd d (by simp)
  simp only[iK,pq,List.mem_cons,List.not_mem_nil,or_false]at ho
  rcases ho with rfl | rfl | rfl | rfl<;>simp[O.clos,D.closL,D.clos,jF,h1,h2,h3]
 closA:=fun x dom Ls h hd=>by
  obtain⟨a,b,c,d,rfl⟩:=ua h
  have h1:=hd a (by simp)
  simp[iK,D.closL,D.clos,h1]
 det:=fun a b _ _ h1 h2=>by
  have e1:a.1.rs=b.1.rs:=Vs (List.cons.inj h1).1
  have e2:a.2=b.2:=by
   have :=(List.cons.inj (List.cons.inj h2).2).1
   simpa[vInt]using this
  simp only[iK,e1,e2]
 vcl:=fun a dom=>by simp[iK,D.clos,D.closL,lE]
 vren:=fun a f=>by simp[iK,D.ren,D.renL,Pp]
def S77m:Spec:=iK.c.toSpec
theorem Sp:aK Tryz.prog 77 S77m:=by
 refine Ro.sound Ae (rs:=[.cell 4 36,.tmp 5]) Tryz.func77 Tryz.ntmps77 (by rfl) (by kernel_rfl) (by decide) ⟨_,rfl,?_⟩
 rintro⟨x,s⟩ _
 refine⟨lb rfl,?_⟩
 have hΓ:=Mw
 have hO:=Ro.outC Ae (x,s)
 have h0:aQ (iK.fam (x,s) (LR iK.m)) [0,1]=some (jF x [1,1] [2,1] [3,1]):=rfl
 generalize aQ (iK.fam (x,s) (LR iK.m))=H at *
 have ha:iK.args (x,s) (LR iK.m)=[.ref [0,1] 0,.v (vInt s)]:=rfl
 have hv:iK.val (x,s)=.tup [lF (cV x.rs s),.v (.bool (cV x.rs s).isSome)]:=rfl
 rw[ha,hv]
 simp only[jF,cY,Nat.zero_add]at h0 |-
 repeat refine sq ?_
 refine rx hΓ [0,3,4] [[3,0],[4,0]] (fun K' hK=>by simp only[go_sem,hO,h0];(repeat (refine⟨an,?_⟩));exact hK _ (by simp only[go_sem,hO,h0]) (by simp only[go_sem,hO,h0]<;>rfl)) ?_
 repeat refine sq ?_
 refine rx hΓ [0,4,6] [[4,0]] (fun K' hK=>by simp only[go_sem,hO,h0,true_or,or_true];(repeat (refine⟨an,?_⟩));exact hK _ (by simp only[go_sem,hO,h0,true_or,or_true]) (by simp only[go_sem,hO,h0,true_or,or_true]<;>rfl)) ?_
 repeat refine sq ?_
 refine rx hΓ [0,4,6,14] [[4,0]] (fun K' hK=>by simp only[go_sem,hO,h0];(repeat (refine⟨an,?_⟩));exact hK _ (by simp only[go_sem,hO,h0]) (by simp only[go_sem,hO,h0]<;>rfl)) ?_
 repeat refine sq ?_
 refine aB (fun hb=>?_) fun hb=>?_
 ·repeat refine sq ?_
  have e:cV x.rs s=none:=Fp (by simpa using hb)
  repeat refine sq ?_
  refine rx hΓ [4,5] [[4,0]] (fun K' hK=>by simp only[go_sem,hO,h0];(repeat (refine⟨an,?_⟩));exact hK _ (by simp only[go_sem,hO,h0]) (by simp only[go_sem,hO,h0]<;>rfl)) ?_
  refine av ?_
  simp only[go_sem,hO,h0]
  rw[e];exact⟨.inr trivial,rfl⟩
 ·repeat refine sq ?_
  obtain⟨i,hi,e1,e⟩:=Fo (by simpa using hb)
  have bA:(i:Int)<x.rs.length:=by omega
  rw[e1]
  refine aF ?_
  repeat refine sq ?_
  refine rx hΓ [4,5] [[4,0]] (fun K' hK=>by simp only[go_sem,hO,h0,ah hi,ai,aj,bA];(repeat (refine⟨an,?_⟩));exact hK _ (by simp only[go_sem,hO,h0,ah hi,ai,aj,bA]) (by simp only[go_sem,hO,h0,ah hi,ai,aj,bA]<;>rfl)) ?_
  refine av ?_
  simp only[go_sem,hO,h0]
  rw[e];exact⟨.inr trivial,rfl⟩
def lH(r:Rec):V:=.ptr [vInt r.so,vInt r.bo,vInt r.pa,.sl (r.lv.map vInt),vInt r.da,vInt r.kn,vInt r.un]
theorem Fv{a b:Rec}(h:lH a=lH b):a=b:=by
 refine Fk ?_
 obtain⟨a1,a2,a3,al,a4,a5,a6⟩:=a
 obtain⟨b1,b2,b3,bl,b4,b5,b6⟩:=b
 simp only[lH,V.ptr.injEq,List.cons.injEq,and_true]at h
 simp only[fB,D.agg.injEq,List.cons.injEq,D.v.injEq,and_true]
 exact h
def gz(bk:Bk)(r:Rec)(f:Int):Bool:=(bD bk (r.so,f)).isSome||!r.lv.contains f
def rC{β:Type}(ar:β->Rec->Name->List D)(ok:β->Prop)(val:Bk->Rec->β->V):Ro (Vw×Rec×β) where
 m:=5
 fam:=fun a Ls=>.box [.ref (Ls.getD 1 []) 0]::pq a.1 (Ls.drop 1)
 args:=fun a Ls=>ar a.2.2 a.2.1 (Ls.getD 0 [])
 ok:=fun a=>ok a.2.2
 val:=fun a=>.v (val a.1.bk a.2.1 a.2.2)
theorem D3{β:Type}{ar:β->Rec->Name->List D}{ok:β->Prop}{val:Bk->Rec->β->V}(h1:∀ b r n,cP (ar b r n)=[n])(h2:∀ f b r n,D.renL f (ar b r n)=ar b r (f n))(h3:∀ dom b r n,dom n=true->D.closL dom (ar b r n)=true)
 (h4:∀ b r b' r' n,ar b r n=ar b' r' n->b=b'/\r=r'):(rC ar ok val).Ok where
 len:=fun _ _ _=>rfl
 renF:=fun a f Ls h=>by obtain⟨a,b,c,d,e,rfl⟩:=jW h;rfl
 renA:=fun a f Ls h=>by obtain⟨a,b,c,d,e,rfl⟩:=jW h;exact h2 _ _ _ _
 reach:=fun x Ls obj h b7 hF=>by
  obtain⟨a,b,c,d,e,rfl⟩:=jW h
  obtain⟨k1,k2,k3,k4,k5,_⟩:=hF
  have en:cP ((rC ar ok val).args x [a,b,c,d,e])=[a]:=h1 _ _ _
  unfold Go.Eng.reach
  rw[en]
  show dd obj (2993+1+1+1+1+1+1+1) _ []=_
  simp only[List.nodup_cons,List.mem_cons,List.not_mem_nil,or_false,not_or,not_false_eq_true,List.nodup_nil,and_true]at b7
  obtain⟨⟨a1,a2,a3,a4⟩,⟨b1,b2,b3⟩,⟨c1,c2⟩,d1⟩:=b7
  simp[dd,fG,k1,k2,k3,k4,k5,kK,cP,kL,jF,Ne.symm a1,Ne.symm a2,Ne.symm a3,Ne.symm a4,Ne.symm b1,Ne.symm b2,Ne.symm b3,Ne.symm c1,Ne.symm c2,Ne.symm d1]
 closF:=fun x dom Ls h hd o ho=>by
  obtain⟨a,b,c,d,e,rfl⟩:=jW h
  have h1:=hd b (by simp)
  have h2:=hd c (by simp)
  have h3:=hd d (by simp)
  have h4:=hd e (by simp)
  simp only[rC,pq,List.drop_succ_cons,List.drop_zero,List.mem_cons,List.not_mem_nil,or_false]at ho
  rcases ho with rfl | rfl | rfl | rfl | rfl<;>simp[O.clos,D.closL,D.clos,jF,h1,h2,h3,h4]
 closA:=fun x dom Ls h hd=>by
  obtain⟨a,b,c,d,e,rfl⟩:=jW h
  exact h3 _ _ _ _ (hd a (by simp))
 det:=fun a b _ _ k1 k2=>by
  have e1:a.1.bk=b.1.bk:=by
   have :=(List.cons.inj (List.cons.inj (List.cons.inj (List.cons.inj k1).2).2).2).1
   simp only[O.map.injEq,true_and]at this
   have :=congrArg yt this
   rwa [C1,C1]at this
  obtain⟨e2,e3⟩:=h4 _ _ _ _ _ k2
  simp only[rC,e1,e2,e3]
 vcl:=fun _ _=>rfl
 vren:=fun _ _=>rfl
def tkRo:Ro (Vw×Rec×Int):=rC (fun f r n=>[.v (vInt f),.ref n 0,.v (lH r)]) (fun _=>True) (fun bk r f=>.bool (gz bk r f))
theorem zC:tkRo.Ok:=D3 (fun _ _ _=>rfl) (fun _ _ _ _=>rfl) (fun dom b r n h=>by simp[D.closL,D.clos,h]) (fun b r b' r' n h=>by
 simp only[List.cons.injEq,D.v.injEq,and_true,true_and]at h
 exact⟨by simpa[vInt]using h.1,Fv h.2⟩)
def S163m:Spec:=tkRo.c.toSpec
def K28a:List (Nat×Spec):=[(108,vO)]
theorem ZE:KS K28a:=tc wu.sound<|tn
attribute [go_sem] K28a
theorem Sv:aK Tryz.prog 163 S163m:=by
 refine Ro.sound zC (rs:=[.tmp 4]) Tryz.func163 Tryz.ntmps163 (by rfl) (by kernel_rfl) (by decide) ⟨_,rfl,?_⟩
 rintro⟨x,r,f⟩ _
 refine⟨lb rfl,?_⟩
 have hΓ:=ZE
 have hP:=gE
 have hO:=Ro.outC zC (x,r,f)
 have h0:aQ (tkRo.fam (x,r,f) (LR tkRo.m)) [0,1]=some (.box [.ref [1,1] 0]):=rfl
 have h1:aQ (tkRo.fam (x,r,f) (LR tkRo.m)) [1,1]=some (jF x [2,1] [3,1] [4,1]):=rfl
 have h3:aQ (tkRo.fam (x,r,f) (LR tkRo.m)) [3,1]=some (.map 2 (bM x.bk)):=rfl
 generalize aQ (tkRo.fam (x,r,f) (LR tkRo.m))=H at *
 have ha:tkRo.args (x,r,f) (LR tkRo.m)=[.v (vInt f),.ref [0,1] 0,.v (lH r)]:=rfl
 have hv:tkRo.val (x,r,f)=.v (.bool (gz x.bk r f)):=rfl
 rw[ha,hv]
 simp only[jF,cY,Nat.zero_add,lH]at h1 |-
 repeat refine sq ?_
 refine rx hΓ [0,1,2] [] (fun K' hK=>by simp only[go_sem,hO,h0,h1,h3];(repeat (refine⟨an,?_⟩));exact hK _ (by simp only[go_sem,hO,h0,h1,h3]) (by simp only[go_sem,hO,h0,h1,h3]<;>rfl)) ?_
 repeat refine sq ?_
 refine dx hΓ hP [[],[0],[0,1],[0,1,2],[],[4],[],[4,5,6],u8,u9,ew,ew,gy,pM] [0,2,6] [] (by kernel_rfl) (fun K' hK=>by simp only[go_sem,hO,h0,h1,h3,aD];(repeat (refine⟨an,?_⟩));(first | refine⟨by rfl,?_⟩ | skip);exact hK _ (by simp only[go_sem,hO,h0,h1,h3,aD]) (by simp only[go_sem,hO,h0,h1,h3,aD]<;>rfl)) ?_
 repeat refine sq ?_
 refine rx hΓ [4] [] (fun K' hK=>by simp only[go_sem,hO,h0,h1,h3];(repeat (refine⟨an,?_⟩));exact hK _ (by simp only[go_sem,hO,h0,h1,h3]) (by simp only[go_sem,hO,h0,h1,h3]<;>rfl)) ?_
 refine av ?_
 simp only[go_sem,hO,h0,h1,h3]
 exact⟨.inr trivial,by unfold gz;cases bD x.bk (r.so,f)<;>rfl⟩
def ga(v:Bk->Rec->List Int->V):Ro (Vw×Rec×List Int):=rC (fun l r n=>[.v (.sl (l.map vInt)),.clo (.func 163) [] [.ref n 0,.v (lH r)]]) (fun l=>l.length<=maxLen) v
theorem ta(v:Bk->Rec->List Int->V):(ga v).Ok:=D3 (fun _ _ _=>rfl) (fun _ _ _ _=>rfl) (fun dom b r n h=>by simp[D.closL,D.clos,h]) (fun b r b' r' n h=>by
 simp only[List.cons.injEq,D.v.injEq,D.clo.injEq,V.sl.injEq,and_true,true_and]at h
 refine⟨?_,Fv h.2⟩
 have :=congrArg (List.map jb) h.1
 rwa [oe,oe]at this)
def kM(bk:Bk)(r:Rec)(l:List Int):V:=vInt (di (gz bk r) l)
def kZ(bk:Bk)(r:Rec)(l:List Int):V:=.bool (l.any (gz bk r))
def S192m:Spec:=(ga kM).c.toSpec
def S160m:Spec:=(ga kZ).c.toSpec
def DW:FuncId->Option Spec:=fun f=>if f=163 then some S163m else none
theorem ZD:∀ f s,DW f=some s->aK Tryz.prog f s:=fun f s h=>by
 unfold DW at h
 split at h
 ·rename_i e;cases h;subst e;exact Sv
 ·cases h
theorem DV:DW 163=some S163m:=rfl
theorem Ss:aK Tryz.prog 192 S192m:=by
 refine Ro.sound (ta kM) (rs:=[.tmp 4]) Tryz.func192 Tryz.ntmps192 (by rfl) (by kernel_rfl) (by decide) ⟨_,rfl,?_⟩
 rintro⟨x,r,l⟩ hl
 replace hl:l.length<=maxLen:=hl
 refine⟨lb rfl,?_⟩
 have hΓ:=ZD
 have hO:=Ro.outC (ta kM) (x,r,l)
 have dU:cF (aQ ((ga kM).fam (x,r,l) (LR (ga kM).m))) (LR 5) ((ga kM).fam (x,r,l) (LR 5)):=⟨rfl,rfl,rfl,rfl,rfl,trivial⟩
 generalize aQ ((ga kM).fam (x,r,l) (LR (ga kM).m))=H at *
 have nW:∀ (F:Name->Option O) (t:Name) (f:Int),S163m.app (fun nm=>if own [0] nm=true then F nm else H nm) t [.v (vInt f),.ref [0,1] 0,.v (lH r)]=⟨True,.v (.bool (gz x.bk r f)),fun nm=>if own [0] nm=true then F nm else H nm⟩:=fun F t f=>Ro.c_app zC (a:=(x,r,f)) trivial (t:=t) (obj:=fun nm=>if own [0] nm=true then F nm else H nm) (Ls:=LR 5) rfl (Mt 5) (AA dU fun y hy=>by
  obtain⟨i,_,rfl⟩:=List.mem_map.1 hy
  simp[r8])
 have ha:(ga kM).args (x,r,l) (LR (ga kM).m)=[.v (.sl (l.map vInt)),.clo (.func 163) [] [.ref [0,1] 0,.v (lH r)]]:=rfl
 have hv:(ga kM).val (x,r,l)=.v (vInt (di (gz x.bk r) l)):=rfl
 rw[ha,hv]
 simp only[cY,Nat.zero_add]
 repeat refine sq ?_
 refine rx hΓ [0,1] [] (fun K' hK=>by simp only[go_sem,hO];(repeat (refine⟨an,?_⟩));exact hK _ (by simp only[go_sem,hO]) (by simp only[go_sem,hO]<;>rfl)) ?_
 repeat refine sq ?_
 refine rx hΓ [0,1,7,8] [] (fun K' hK=>by simp only[go_sem,hO];(repeat (refine⟨an,?_⟩));exact hK _ (by simp only[go_sem,hO]) (by simp only[go_sem,hO]<;>rfl)) ?_
 repeat refine sq ?_
 refine aS ?_
 repeat refine sq ?_
 refine cM (fun s:Nat=>[(8,⟨true,.v (vInt s)⟩)]) (fun s=>[]) (fun s=>s<=l.length/\∀ k (h:k<l.length),k<s->gz x.bk r l[k]=false) (fun s=>l.length-s) 0 ?_ ?_ ?_ ?_
 ·exact⟨Nat.zero_le _,by simp⟩
 ·rfl
 ·rfl
 rintro i ⟨hi,hR⟩
 simp only[go_sem]
 repeat refine sq ?_
 refine rx hΓ [0,1,7,8,9] [] (fun K' hK=>by simp only[go_sem,hO];(repeat (refine⟨an,?_⟩));exact hK _ (by simp only[go_sem,hO]) (by simp only[go_sem,hO]<;>rfl)) ?_
 repeat refine sq ?_
 refine aB (fun hb=>?_) fun hb=>?_
 ·have ab:i<l.length:=by simpa using hb
  have aq:(i:Int)<l.length:=by omega
  clear hb
  repeat refine sq ?_
  refine aF ?_
  repeat refine sq ?_
  refine aS ?_
  repeat refine sq ?_
  refine rx hΓ [0,1,5,7,8] [] (fun K' hK=>by simp only[go_sem,hO,ah ab,ai,aj,aq];(repeat (refine⟨an,?_⟩));exact hK _ (by simp only[go_sem,hO,ah ab,ai,aj,aq]) (by simp only[go_sem,hO,ah ab,ai,aj,aq]<;>rfl)) ?_
  repeat refine sq ?_
  refine rx hΓ [0,1,5,7,8,16] [] (fun K' hK=>by simp only[go_sem,hO,ah ab,ai,aj,aq,DV,nW];(repeat (refine⟨an,?_⟩));exact hK _ (by simp only[go_sem,hO,ah ab,ai,aj,aq,DV,nW]) (by simp only[go_sem,hO,ah ab,ai,aj,aq,DV,nW]<;>rfl)) ?_
  repeat refine sq ?_
  refine aB (fun hb=>?_) fun hb=>?_
  ·repeat refine sq ?_
   refine rx hΓ [4] [] (fun K' hK=>by simp only[go_sem,hO,ah ab,ai,aj,aq];(repeat (refine⟨an,?_⟩));exact hK _ (by simp only[go_sem,hO,ah ab,ai,aj,aq]) (by simp only[go_sem,hO,ah ab,ai,aj,aq]<;>rfl)) ?_
   refine av ?_
   simp only[go_sem,hO]
   rw[qc (p:=gz x.bk r) ab (by simpa using hb) hR];exact⟨.inr trivial,rfl⟩
  ·repeat refine sq ?_
   refine aF ?_
   refine b9 ?_
   simp only[go_sem]
   refine eo [0,1,7,8] [] ?_ ?_
   ·simp only[go_sem,hO]
   simp only[go_sem,hO]
   repeat refine sq ?_
   refine bc hΓ fun K' hK=>?_
   simp only[go_sem,hO,ah ab,ai,aj,aq]
   repeat (refine⟨an,?_⟩)
   refine hK _ ?_
   clear K' hK
   simp only[go_sem]
   refine⟨i+1,⟨ab,?_⟩,by(show l.length-(i+1)<l.length-i;omega),?_⟩
   ·intro k hk eh
    rcases Nat.lt_succ_iff_lt_or_eq.1 eh with h5 | rfl
    ·exact hR k hk h5
    ·simpa using hb
   refine bu [0,1,7,8] [] ?_ ?_<;>simp only[go_sem,bn ab hl,br,hO]
 ·have bF:i=l.length:=by
   have :¬ (i:Int)<l.length:=by simpa using hb
   omega
  clear hb
  subst bF
  repeat refine sq ?_
  refine bW ?_
  simp only[go_sem]
  refine eo [] [] ?_ ?_
  ·simp only[go_sem,hO]
  simp only[go_sem,hO]
  repeat refine sq ?_
  refine rx hΓ [4] [] (fun K' hK=>by simp only[go_sem,hO];(repeat (refine⟨an,?_⟩));exact hK _ (by simp only[go_sem,hO]) (by simp only[go_sem,hO]<;>rfl)) ?_
  refine av ?_
  simp only[go_sem,hO]
  rw[uA (p:=gz x.bk r) fun k hk=>hR k hk hk];exact⟨.inr trivial,rfl⟩
def DU:FuncId->Option Spec:=fun f=>if f=192 then some S192m else none
theorem ZC:∀ f s,DU f=some s->aK Tryz.prog f s:=fun f s h=>by
 unfold DU at h
 split at h
 ·rename_i e;cases h;subst e;exact Ss
 ·cases h
theorem DT:DU 192=some S192m:=rfl
theorem Sw:aK Tryz.prog 160 S160m:=by
 refine Ro.sound (ta kZ) (rs:=[.tmp 4]) Tryz.func160 Tryz.ntmps160 (by rfl) (by kernel_rfl) (by decide) ⟨_,rfl,?_⟩
 rintro⟨x,r,l⟩ hl
 replace hl:l.length<=maxLen:=hl
 refine⟨lb rfl,?_⟩
 have hΓ:=ZC
 have hO:=Ro.outC (ta kZ) (x,r,l)
 have dU:cF (aQ ((ga kZ).fam (x,r,l) (LR (ga kZ).m))) (LR 5) ((ga kZ).fam (x,r,l) (LR 5)):=⟨rfl,rfl,rfl,rfl,rfl,trivial⟩
 generalize aQ ((ga kZ).fam (x,r,l) (LR (ga kZ).m))=H at *
 have nW:∀ (F:Name->Option O) (t:Name),S192m.app (fun nm=>if own [0] nm=true then F nm else H nm) t [.v (.sl (l.map vInt)),.clo (.func 163) [] [.ref [0,1] 0,.v (lH r)]]=⟨True,.v (vInt (di (gz x.bk r) l)),fun nm=>if own [0] nm=true then F nm else H nm⟩:=fun F t=>Ro.c_app (ta kM) (a:=(x,r,l)) hl (t:=t) (obj:=fun nm=>if own [0] nm=true then F nm else H nm) (Ls:=LR 5) rfl (Mt 5) (AA dU fun y hy=>by
  obtain⟨i,_,rfl⟩:=List.mem_map.1 hy
  simp[r8])
 have ha:(ga kZ).args (x,r,l) (LR (ga kZ).m)=[.v (.sl (l.map vInt)),.clo (.func 163) [] [.ref [0,1] 0,.v (lH r)]]:=rfl
 have hv:(ga kZ).val (x,r,l)=.v (.bool (l.any (gz x.bk r))):=rfl
 rw[ha,hv]
 simp only[cY,Nat.zero_add]
 repeat refine sq ?_
 refine rx hΓ [0,1] [] (fun K' hK=>by simp only[go_sem,hO];(repeat (refine⟨an,?_⟩));exact hK _ (by simp only[go_sem,hO]) (by simp only[go_sem,hO]<;>rfl)) ?_
 repeat refine sq ?_
 refine rx hΓ [4] [] (fun K' hK=>by simp only[go_sem,hO,DT,nW,uB];(repeat (refine⟨an,?_⟩));exact hK _ (by simp only[go_sem,hO,DT,nW,uB]) (by simp only[go_sem,hO,DT,nW,uB]<;>rfl)) ?_
 refine av ?_
 simp only[go_sem,hO]
 first | exact .inr trivial | exact⟨.inr trivial,rfl⟩
end
theorem W3(b:Bk)(q p:Int×Int)(i:Int):bD (pC b q i) p=if q=p then some i else bD b p:=by
 induction b with
 |nil=>rfl
 |cons e r ih=>
  obtain⟨k,j⟩:=e
  simp only[pC]
  by_cases h:k=q
  ·rw[if_pos h]
   subst h
   simp only[bD]
   split<;>rfl
  ·rw[if_neg h]
   simp only[bD,ih]
   by_cases h2:k=p
   ·subst h2
    rw[if_pos rfl,if_pos rfl,if_neg (fun e=>h e.symm)]
   ·rw[if_neg h2,if_neg h2]
theorem Dk(so i:Int)(lv:List Int)(b:Bk)(s f:Int):bD (oq b so i lv) (s,f)=if s=so/\f∈lv then some i else bD b (s,f):=by
 induction lv generalizing b with
 |nil=>simp[oq]
 |cons a r ih=>
  show bD (oq (pC b (so,a) i) so i r) (s,f)=_
  rw[ih,W3]
  by_cases h1:s=so
  ·subst h1
   by_cases h2:f∈r
   ·simp[h2]
   ·by_cases h3:a=f
    ·subst h3;simp[h2]
    ·have h4:¬ f=a:=fun e=>h3 e.symm
     simp[h2,h3,h4]
  ·have h4:¬ (so,a)=(s,f):=fun e=>h1 (by cases e;rfl)
   simp[h1,h4]
theorem Gd{k:Int}{rs:List Rec}{bk:Bk}{x:Ret}{r:Rec}(h:gD k rs bk x=some r):cV rs x.re=some r/\bJ x.kn x.un k=true/\¬ cB x.lo (r.da+1)>x.hi/\x.lv.any (gz bk r)=false:=by
 unfold gD at h
 split at h
 ·cases h
 ·rename_i q hq
  split at h
  ·rename_i hc
   cases h
   simp only[Bool.and_eq_true,Bool.not_eq_true',Bool.or_eq_false_iff,decide_eq_false_iff_not]at hc
   exact⟨hq,hc.1,hc.2.1,hc.2.2⟩
  ·cases h
theorem P1{k:Int}{rs:List Rec}{bk:Bk}{x:Ret}(h:cV rs x.re=none):gD k rs bk x=none:=by
 unfold gD;rw[h]
theorem P0{k:Int}{rs:List Rec}{bk:Bk}{x:Ret}{r:Rec}(h:cV rs x.re=some r)(hc:bJ x.kn x.un k=false):gD k rs bk x=none:=by
 unfold gD;rw[h];simp[hc]
theorem PZ{k:Int}{rs:List Rec}{bk:Bk}{x:Ret}{r:Rec}(h:cV rs x.re=some r)(hc:(decide (cB x.lo (r.da+1)>x.hi)||x.lv.any (gz bk r))=true):gD k rs bk x=none:=by
 unfold gD;rw[h]
 have fW:(decide (cB x.lo (r.da+1)>x.hi)||x.lv.any fun f=>(bD bk (r.so,f)).isSome||!r.lv.contains f)=true:=hc
 simp only[fW,Bool.not_true,Bool.and_false,Bool.false_eq_true,if_false]
theorem PY{k:Int}{rs:List Rec}{bk:Bk}{x:Ret}{r:Rec}(h:cV rs x.re=some r)(h1:bJ x.kn x.un k=true)(hc:(decide (cB x.lo (r.da+1)>x.hi)||x.lv.any (gz bk r))=false):gD k rs bk x=some r:=by
 unfold gD;rw[h]
 have fW:(decide (cB x.lo (r.da+1)>x.hi)||x.lv.any fun f=>(bD bk (r.so,f)).isSome||!r.lv.contains f)=false:=hc
 simp only[fW,h1,Bool.not_false,Bool.and_true,if_true]
theorem uo{l:Led}{k:Int}{i:Nat}(h:gD k (bx l k) (ax l k i).bk (aG l i)=none):ax l k (i+1)=ax l k i:=by
 show oR l k (ax l k i) i=_
 unfold oR
 rw[(oQ l k i).2,h]
theorem AV{l:Led}{k:Int}{i:Nat}{r:Rec}(h:gD k (bx l k) (ax l k i).bk (aG l i)=some r):ax l k (i+1)=
 { ax l k i with bk:=oq (ax l k i).bk r.so i (aG l i).lv,ts:=(ax l k i).ts++[(i:Int)],ds:=ma (ax l k i).ds i (cB (aG l i).lo (r.da+1),(aG l i).hi) }:=by
 show oR l k (ax l k i) i=_
 have h':gD k (ax l k i).rs (ax l k i).bk (aG l i)=some r:=by rw[(oQ l k i).2];exact h
 unfold oR
 rw[h']
structure Ys (l:Led) (k:Int) (i:Nat):Prop where
 bk:∀ q j,bD (ax l k i).bk q=some j->0<=j/\j<l.ts.length
 tn:(ax l k i).ts.length<=i
 ts:∀ j∈(ax l k i).ts,(0<=j/\j<l.ts.length)/\∃ r,cV (bx l k) (aG l j.toNat).re=some r
theorem w9(l:Led)(k:Int):∀ i,i<=l.ts.length->Ys l k i
 | 0,_=>⟨fun q j (h:none=some j)=>(by cases h),Nat.le_refl 0,fun j (h:j∈([]:List Int))=>(by cases h)⟩
 |i+1,hi=>by
  have ih:=w9 l k i (by omega)
  cases hn:gD k (bx l k) (ax l k i).bk (aG l i)with
  |none=>
   have e:=uo hn
   exact⟨by rw[e];exact ih.bk,by rw[e];exact Nat.le_succ_of_le ih.tn,by rw[e];exact ih.ts⟩
  |some r=>
   have e:=AV hn
   refine⟨?_,?_,?_⟩
   ·rintro⟨s,f⟩ j h
    rw[e]at h
    simp only[Dk]at h
    split at h
    ·cases h;omega
    ·exact ih.bk _ _ h
   ·rw[e]
    have :=ih.tn
    simp;omega
   ·intro j hj
    rw[e]at hj
    rcases List.mem_append.1 hj with hj | hj
    ·exact ih.ts j hj
    ·simp only[List.mem_singleton]at hj
     subst hj
     exact⟨by omega,r,by rw[Int.toNat_natCast];exact(Gd hn).1⟩
theorem fC{rs:List Rec}{s:Int}{r:Rec}(h:cV rs s=some r):r∈rs/\r.so=s:=by
 unfold cV at h
 exact⟨List.mem_of_find?_eq_some h,by simpa using List.find?_some h⟩
theorem Ab{l:Led}(h:bN l)(k:Int):∀ r∈bx l k,dQ r=true:=fun r hr=>h.recs r ((List.mem_filter.1 hr).1)
theorem Fc{l:Led}(h:bN l)(k:Int):(bx l k).length<=60:=Nat.le_trans (List.length_filter_le _ _) h.rsn
theorem Fb{l:Led}(h:bN l)(k:Int):(bx l k).Nodup:=by
 refine List.Nodup.sublist List.filter_sublist ?_
 have hs:srt Rec.so l.rs:=wO (jJ.1 h.rs)
 rw[List.nodup_iff_pairwise_ne,List.pairwise_iff_getElem]
 intro i j hi hj bL e
 have :=hs i j hi hj bL
 rw[e]at this
 omega
theorem oO{l:Led}(h:bN l)(k:Int):m7 (aW l k)/\(aW l k).rs.Nodup:=by
 have hk:=w9 l k l.ts.length (Nat.le_refl _)
 obtain⟨e1,e2⟩:=oQ l k l.ts.length
 refine⟨⟨?_,?_,?_,?_,?_,?_⟩,?_⟩
 ·show bN (ax l k l.ts.length).l;rw[e1];exact h
 ·show ∀ q i,bD (ax l k l.ts.length).bk q=some i->0<=i/\i<(ax l k l.ts.length).l.ts.length
  rw[e1];exact hk.bk
 ·show ∀ r∈(ax l k l.ts.length).rs,_;rw[e2];exact Ab h k
 ·show (ax l k l.ts.length).rs.length<=60;rw[e2];exact Fc h k
 ·exact Nat.le_trans hk.tn h.tsn
 ·show ∀ i∈(ax l k l.ts.length).ts,0<=i/\i<(ax l k l.ts.length).l.ts.length
  rw[e1];exact fun i hi=>(hk.ts i hi).1
 ·show (ax l k l.ts.length).rs.Nodup;rw[e2];exact Fb h k
noncomputable section
theorem Ka{α:Type}{p:α->Bool}{l:List α}{i:Nat}(h:i<l.length):((l.take (i+1)).filter p)=(l.take i).filter p++(if p l[i]=true then[l[i]]else[]):=tH h
def tq:FuncId->Option Spec:=fun f=>if f=77 then some S77m else if f=160 then some S160m else if f=162 then some S162 else if f=164 then some S164 else none
theorem ZB:∀ f s,tq f=some s->aK Tryz.prog f s:=fun f s h=>by
 unfold tq at h
 split at h
 ·rename_i e;cases h;subst e;exact Sp
 ·split at h
  ·rename_i e;cases h;subst e;exact Sw
  ·split at h
   ·rename_i e;cases h;subst e;exact Ip
   ·split at h
    ·rename_i e;cases h;subst e;exact Bc
    ·cases h
@[go_sem] theorem adG:tq 77=some S77m:=rfl
@[go_sem] theorem adJ:tq 160=some S160m:=rfl
@[go_sem] theorem adI:tq 162=some S162:=rfl
@[go_sem] theorem adH:tq 164=some S164:=rfl
def lB(l:Led)(k:Int)(s:Nat):List Rec:=(l.rs.take s).filter fun r=>bJ r.kn r.un k
theorem O8(l:Led)(k:Int):lB l k l.rs.length=bx l k:=by unfold lB bx;rw[List.take_length]
theorem O5{l:Led}{k:Int}{i:Nat}(h:i<l.rs.length)(hc:bJ l.rs[i].kn l.rs[i].un k=true):lB l k (i+1)=lB l k i++[l.rs[i]]:=by
 unfold lB;rw[Ka h,if_pos hc]
theorem O6{l:Led}{k:Int}{i:Nat}(h:i<l.rs.length)(hc:bJ l.rs[i].kn l.rs[i].un k=false):lB l k (i+1)=lB l k i:=by
 unfold lB;rw[Ka h,if_neg (by rw[hc];decide)];simp
theorem O7(l:Led)(k:Int)(i:Nat):(lB l k i).length<=l.rs.length:=Nat.le_trans (List.length_filter_le _ _) (by simp;omega)
attribute [go_sem] cF
def K29b:List (Nat×Spec):=[(77,S77),(164,S164),(165,S165)]
theorem ZA:KS K29b:=tc Io<|tc Bc<|tc Bb<|tn
attribute [go_sem] K29b
theorem Qu(l:Led)(k i j:Int)(n:Nat)(x:Vw)(r:Rec)(lv:List Int):zp (gG l k i j n x r lv) (je 4 r.pa lv) where
 ren:=fun f Ls h=>by obtain⟨a,b,c,d,e,rfl⟩:=jW h;rfl
 clo:=fun dom Ls h hd=>by
  obtain⟨a,b,c,d,e,rfl⟩:=jW h
  have h4:=hd e (by simp)
  simp[D.closL,D.clos,h4,je]
 reach:=fun Ls s obj R q h b7 hF h0=>by
  obtain⟨a,b,c,d,e,rfl⟩:=jW h
  obtain⟨h1,h2,h3,h4,h5,_⟩:=hF
  have en:cP (((gG l k i j n x r lv).env [a,b,c,d,e]).map (·.d))=[a,e]:=rfl
  have ec:cP (je 4 r.pa lv [a,b,c,d,e])=[e]:=rfl
  rw[ec]
  show dd obj (q+90+1+1+1+1+1+1+1+1+1+1+1) _ []=_
  simp only[List.nodup_cons,List.mem_cons,List.not_mem_nil,or_false,not_or,not_false_eq_true,List.nodup_nil,and_true]at b7
  obtain⟨⟨r1,r2,r3,r4,r5⟩,⟨a1,a2,a3,a4⟩,⟨b1,b2,b3⟩,⟨c1,c2⟩,e1⟩:=b7
  simp[dd,fG,h0,h1,h2,h3,h4,h5,Lp.rc,kK,en,cP,kL,bq,Ne.symm r1,Ne.symm r2,Ne.symm r3,Ne.symm r4,Ne.symm r5,Ne.symm a1,Ne.symm a2,Ne.symm a3,Ne.symm a4,Ne.symm b1,Ne.symm b2,Ne.symm b3,Ne.symm c1,Ne.symm c2,Ne.symm e1]
theorem W4(b:Bk)(so i:Int){lv:List Int}{s:Nat}(h:s<lv.length):oq b so i (lv.take (s+1))=pC (oq b so i (lv.take s)) (so,lv[s]) i:=by
 unfold oq
 rw[List.take_add_one,List.getElem?_eq_getElem h,List.foldl_append]
 rfl
def zk:NSpec:=n2 nN iI (fun l _=>bN l) (fun l k=>[([26,0],bq (aW l k) [23,0] [24,0]),([23,0],.map 2 (bM (aW l k).bk)),([24,0],.map 0 (bB (aW l k).ds))]) (fun _ _=>.ref [26,0] 0)
def S76:Spec:=zk.toSpec
attribute [go_sem] zk S76
set_option maxHeartbeats 16000000 in
theorem Ba:aK Tryz.prog 76 S76:=by
 refine F8 (nt:=181) (rs:=[.tmp 4]) Tryz.func76 rfl (by rfl) (by kernel_rfl) (by kernel_rfl) (by decide) ?_
 intro xs hp
 obtain⟨l,k,rfl,hp,fv,ft⟩:=Gf hp
 replace fv:zk.new _=_:=fv
 replace ft:zk.d _=_:=ft
 rw[fv,ft]
 clear fv ft
 refine⟨lb rfl,?_⟩
 have hP:=gE
 simp only[iI,iB,ef,iP,iR,iT,iS,iL,nN,eX,iC,iF,dv,encR,du,encS,fY,ja,List.map_cons,List.map_nil,cY,Nat.zero_add]
 have hΓ:=ZB
 have xH:l.rs.length<=maxLen:=by have:=hp.rsn;unfold maxLen;omega
 have lV:l.ts.length<=maxLen:=by have:=hp.tsn;unfold maxLen;omega
 repeat refine sq ?_
 refine rx hΓ [0,1] [] (fun K' hK=>by simp only[go_sem];exact ak) ?_
 repeat refine sq ?_
 refine rx hΓ [0,1,5] [[5,0],[23,0],[24,0],[26,0],[49,0],[124,0]] (fun K' hK=>by simp only[go_sem];exact ak) ?_
 refine dw (tv [26,0] [49,0] 1 7 _ rfl rfl rfl [0,1,5] [[5,0],[23,0],[24,0],[26,0],[49,0],[124,0]] ?_ rfl) ?_
 ·simp only[go_sem,List.set_cons_succ,List.set_cons_zero]
 simp only[go_sem,List.set_cons_succ,List.set_cons_zero]
 refine dw (tv [26,0] [124,0] 2 1 _ rfl rfl rfl [0,1,5] [[5,0],[23,0],[24,0],[26,0],[49,0],[124,0]] ?_ rfl) ?_
 ·simp only[go_sem,List.set_cons_succ,List.set_cons_zero]
 simp only[go_sem,List.set_cons_succ,List.set_cons_zero]
 repeat refine sq ?_
 refine rx hΓ [0,1,5,30,31,32] [[5,0],[23,0],[24,0],[26,0],[49,0],[124,0]] (fun K' hK=>by simp only[go_sem];exact ak) ?_
 repeat refine sq ?_
 refine aS ?_
 repeat refine sq ?_
 refine cM (fun s:Nat=>[(32,⟨true,.v (vInt s)⟩)]) (fun s=>[([26,0],.box [.v (ja l),.msl [49,0] (lB l k s).length,.msl [124,0] 0,.map [23,0],.map [24,0]]),([49,0],.arr 7 ((lB l k s).map encR))]) (fun s=>s<=l.rs.length) (fun s=>l.rs.length-s) 0 ?_ ?_ ?_ ?_
 ·exact Nat.zero_le _
 ·rfl
 ·rfl
 rintro i hi
 simp only[go_sem]
 repeat refine sq ?_
 refine rx hΓ [0,1,5,30,31,32,33] [[5,0],[23,0],[24,0],[26,0],[49,0],[124,0]] (fun K' hK=>by simp only[go_sem];exact ak) ?_
 repeat refine sq ?_
 refine aB (fun hb=>?_) fun hb=>?_
 ·have ab:i<l.rs.length:=by simpa using hb
  have aq:(i:Int)<l.rs.length:=by omega
  clear hb
  have oZ:=O7 l k i
  have lQ:=hp.rsn
  repeat refine sq ?_
  refine aF ?_
  repeat refine sq ?_
  refine aS ?_
  repeat refine sq ?_
  refine rx hΓ [0,1,5,7,30,31,32] [[5,0],[7,0],[23,0],[24,0],[26,0],[49,0],[124,0]] (fun K' hK=>by simp only[go_sem,ah ab,ai,aj,aq];exact ak) ?_
  repeat refine sq ?_
  refine rx hΓ [0,1,5,7,30,31,32,41] [[5,0],[7,0],[23,0],[24,0],[26,0],[49,0],[124,0]] (fun K' hK=>by simp only[go_sem,ah ab,ai,aj,aq];exact ak) ?_
  repeat refine sq ?_
  refine aB (fun hb=>?_) fun hb=>?_
  ·repeat refine sq ?_
   have hT:=O5 ab hb
   repeat refine sq ?_
   refine s9 hΓ hP [[],[],[1],[1,2],[1,2,3],[],[5],[1,2,3,4,5,6],u8,u9,ew] (by kernel_rfl) fun K' hK=>?_
   simp only[go_sem,ah ab,ai,aj,aq]
   repeat (refine⟨an,?_⟩)
   first | refine⟨by rfl,?_⟩ | skip
   refine hK _ ?_
   clear K' hK
   simp only[go_sem]
   refine kp [0,1,5,30,31,32] [[5,0],[23,0],[24,0],[26,0],[49,0],[124,0]] ?_
   repeat refine sq ?_
   refine bc hΓ fun K' hK=>?_
   simp only[go_sem,ah ab,ai,aj,aq]
   repeat (refine⟨an,?_⟩)
   refine hK _ ?_
   clear K' hK
   simp only[go_sem]
   refine⟨i+1,ab,by(show l.rs.length-(i+1)<l.rs.length-i;omega),?_⟩
   refine bu [0,1,5,30,31,32] [[5,0],[23,0],[24,0],[26,0],[49,0],[124,0]] ?_ ?_<;>simp only[go_sem,bn ab xH,br,hT,List.map_append,List.map_cons,List.map_nil,List.length_append,List.length_cons,List.length_nil]
  ·repeat refine sq ?_
   have hT:=O6 ab hb
   refine aF ?_
   refine b9 ?_
   simp only[go_sem]
   refine kp [0,1,5,30,31,32] [[5,0],[23,0],[24,0],[26,0],[49,0],[124,0]] ?_
   repeat refine sq ?_
   refine bc hΓ fun K' hK=>?_
   simp only[go_sem,ah ab,ai,aj,aq]
   repeat (refine⟨an,?_⟩)
   refine hK _ ?_
   clear K' hK
   simp only[go_sem]
   refine⟨i+1,ab,by(show l.rs.length-(i+1)<l.rs.length-i;omega),?_⟩
   refine bu [0,1,5,30,31,32] [[5,0],[23,0],[24,0],[26,0],[49,0],[124,0]] ?_ ?_<;>simp only[go_sem,bn ab xH,br,hT,List.map_append,List.map_cons,List.map_nil,List.length_append,List.length_cons,List.length_nil]
 ·have bF:i=l.rs.length:=by
   have :¬ (i:Int)<l.rs.length:=by simpa using hb
   omega
  clear hb
  subst bF
  repeat refine sq ?_
  refine bW ?_
  simp only[go_sem]
  refine kp [0,1,5] [[5,0],[23,0],[24,0],[26,0],[49,0],[124,0]] ?_
  simp only[O8]
  repeat refine sq ?_
  refine rx hΓ [0,1,5,56,57,58] [[5,0],[23,0],[24,0],[26,0],[49,0],[124,0]] (fun K' hK=>by simp only[go_sem];exact ak) ?_
  refine dw (vY [26,0] [49,0] 1 _ _ _ _ rfl rfl rfl (by first | rfl | (simp only[List.length_map];done)) [0,1,5,56,57,58] [[5,0],[23,0],[24,0],[26,0],[49,0],[124,0]] ?_ rfl) ?_
  ·simp only[go_sem,List.set_cons_succ,List.set_cons_zero]
  simp only[go_sem,List.set_cons_succ,List.set_cons_zero]
  repeat refine sq ?_
  refine aS ?_
  repeat refine sq ?_
  refine cM (fun s:Nat=>[(58,⟨true,.v (vInt s)⟩)]) (fun s=>[([26,0],.box [.v (ja l),.v (.sl ((bx l k).map encR)),.msl [124,0] (ax l k s).ts.length,.map [23,0],.map [24,0]]),([124,0],.arr 1 ((ax l k s).ts.map vInt)),([23,0],.map 2 (bM (ax l k s).bk)),([24,0],.map 0 (bB (ax l k s).ds))]) (fun s=>s<=l.ts.length) (fun s=>l.ts.length-s) 0 ?_ ?_ ?_ ?_
  ·exact Nat.zero_le _
  ·rfl
  ·rfl
  rintro i1 hi
  simp only[go_sem]
  repeat refine sq ?_
  refine rx hΓ [0,1,5,56,57,58,59] [[5,0],[23,0],[24,0],[26,0],[49,0],[124,0]] (fun K' hK=>by simp only[go_sem];exact ak) ?_
  repeat refine sq ?_
  refine aB (fun hb=>?_) fun hb=>?_
  ·have aI:i1<l.ts.length:=by simpa using hb
   have bj:(i1:Int)<l.ts.length:=by omega
   clear hb
   have hx:aG l i1=l.ts[i1]:=nk aI
   obtain⟨e1,e2⟩:=oQ l k i1
   have hk:=w9 l k i1 (Nat.le_of_lt aI)
   have iQ:=hp.rets aI
   rw[hx]at iQ
   have o8:=(Pf iQ).2
   have xI:l.ts[i1].lv.length<=maxLen:=by unfold maxLen;omega
   have Br:=hk.tn
   have adj:=hp.tsn
   have qo:∀ (obj:Name->Option O) (t:Name),obj [26,0]=some (.box [.v (ja l),.v (.sl ((bx l k).map encR)),.msl [124,0] (ax l k i1).ts.length,.map [23,0],.map [24,0]])->obj [124,0]=some (.arr 1 ((ax l k i1).ts.map vInt))->obj [23,0]=some (.map 2 (bM (ax l k i1).bk))->obj [24,0]=some (.map 0 (bB (ax l k i1).ds))->
       S77m.app obj t [.ref [26,0] 0,.v (vInt l.ts[i1].re)]=⟨True,.tup [lF (cV (bx l k) l.ts[i1].re),.v (.bool (cV (bx l k) l.ts[i1].re).isSome)],obj⟩:=fun obj t h1 h2 h3 h4=>by
    have :=Ro.c_app Ae (a:=(ax l k i1,l.ts[i1].re)) trivial (t:=t) (obj:=obj) (Ls:=[[26,0],[124,0],[23,0],[24,0]]) rfl (by decide) (by show cF obj _ (pq (ax l k i1) _);simp only[pq,jF,e1,e2];exact⟨h1,h2,h3,h4,trivial⟩)
    refine this.trans ?_
    show (⟨True,.tup [lF (cV (ax l k i1).rs l.ts[i1].re),.v (.bool (cV (ax l k i1).rs l.ts[i1].re).isSome)],obj⟩:R)=_
    rw[e2]
   have Uv:∀ (r:Rec) (obj:Name->Option O) (t:Name),obj [5,0]=some (.box [.ref [26,0] 0])->obj [26,0]=some (.box [.v (ja l),.v (.sl ((bx l k).map encR)),.msl [124,0] (ax l k i1).ts.length,.map [23,0],.map [24,0]])->obj [124,0]=some (.arr 1 ((ax l k i1).ts.map vInt))->obj [23,0]=some (.map 2 (bM (ax l k i1).bk))->obj [24,0]=some (.map 0 (bB (ax l k i1).ds))->
       S160m.app obj t [.v (.sl (l.ts[i1].lv.map vInt)),.clo (.func 163) [] [.ref [5,0] 0,.v (.ptr [vInt r.so,vInt r.bo,vInt r.pa,.sl (r.lv.map vInt),vInt r.da,vInt r.kn,vInt r.un])]]=⟨True,.v (.bool (l.ts[i1].lv.any (gz (ax l k i1).bk r))),obj⟩:=fun r obj t h0 h1 h2 h3 h4=>by
    have :=Ro.c_app (ta kZ) (a:=(ax l k i1,r,l.ts[i1].lv)) xI (t:=t) (obj:=obj) (Ls:=[[5,0],[26,0],[124,0],[23,0],[24,0]]) rfl (by decide) (by
     show cF obj _ (.box [.ref [26,0] 0]::pq (ax l k i1) [[26,0],[124,0],[23,0],[24,0]])
     simp only[pq,jF,e1,e2];exact⟨h0,h1,h2,h3,h4,trivial⟩)
    exact this
   repeat refine sq ?_
   refine aF ?_
   repeat refine sq ?_
   refine aS ?_
   repeat refine sq ?_
   refine rx hΓ [0,1,5,8,9,56,57,58] [[5,0],[9,0],[23,0],[24,0],[26,0],[49,0],[124,0]] (fun K' hK=>by simp only[go_sem,ah aI,ai,aj,bj];exact ak) ?_
   rcases dK:cV (bx l k) l.ts[i1].re with _ | r
   ·have o4:ax l k (i1+1)=ax l k i1:=uo (P1 (by rw[hx];exact dK))
    repeat refine sq ?_
    refine rx hΓ [0,1,5,8,9,10,11,56,57,58] [[5,0],[9,0],[10,0],[23,0],[24,0],[26,0],[49,0],[124,0]] (fun K' hK=>by simp only[go_sem,ah aI,ai,aj,bj,dK,a7,Option.isSome_none];rw[qo _ _ rfl rfl rfl rfl];simp only[go_sem,ah aI,ai,aj,bj,dK,a7,Option.isSome_none];exact ak) ?_
    refine dw (gg 10 (.ref [10,0] 0) (by simp only[go_sem]) (by simp only[go_sem]) [0,1,5,8,9,10,11,56,57,58] [[5,0],[9,0],[10,0],[23,0],[24,0],[26,0],[49,0],[124,0]] ?_ rfl) ?_
    ·simp only[go_sem]
    simp only[go_sem]
    repeat refine sq ?_
    refine rx hΓ [0,1,5,8,9,10,56,57,58,80] [[5,0],[9,0],[10,0],[23,0],[24,0],[26,0],[49,0],[124,0]] (fun K' hK=>by simp only[go_sem,ah aI,ai,aj,bj,dK,a7,Option.isSome_none];exact ak) ?_
    repeat refine sq ?_
    refine aB (fun hb=>?_) fun hb=>?_
    ·repeat refine sq ?_
     refine bW ?_
     simp only[go_sem]
     refine kp [0,1,5,56,57,58] [[5,0],[23,0],[24,0],[26,0],[49,0],[124,0]] ?_
     repeat refine sq ?_
     refine bc hΓ fun K' hK=>?_
     simp only[go_sem,ah aI,ai,aj,bj,dK,a7,Option.isSome_none]
     repeat (refine⟨an,?_⟩)
     refine hK _ ?_
     clear K' hK
     simp only[go_sem]
     refine⟨i1+1,aI,by(show l.ts.length-(i1+1)<l.ts.length-i1;omega),?_⟩
     refine bu [0,1,5,56,57,58] [[5,0],[23,0],[24,0],[26,0],[49,0],[124,0]] ?_ ?_<;>simp only[go_sem,bn aI lV,br,o4]
    ·cases hb
   ·obtain⟨IQ,bY⟩:=fC dK
    have dC:=Ab hp k r IQ
    have fT:=vW (Fg dC)
    repeat refine sq ?_
    refine rx hΓ [0,1,5,8,9,10,11,56,57,58] [[5,0],[9,0],[10,0],[23,0],[24,0],[26,0],[49,0],[124,0]] (fun K' hK=>by simp only[go_sem,ah aI,ai,aj,bj,dK,aP,Option.isSome_some];rw[qo _ _ rfl rfl rfl rfl];simp only[go_sem,ah aI,ai,aj,bj,dK,aP,Option.isSome_some];exact ak) ?_
    refine dw (gg 10 (.ref [10,0] 0) (by simp only[go_sem]) (by simp only[go_sem]) [0,1,5,8,9,10,11,56,57,58] [[5,0],[9,0],[10,0],[23,0],[24,0],[26,0],[49,0],[124,0]] ?_ rfl) ?_
    ·simp only[go_sem]
    simp only[go_sem]
    repeat refine sq ?_
    refine rx hΓ [0,1,5,8,9,10,56,57,58,80] [[5,0],[9,0],[10,0],[23,0],[24,0],[26,0],[49,0],[124,0]] (fun K' hK=>by simp only[go_sem,ah aI,ai,aj,bj,dK,aP,Option.isSome_some];exact ak) ?_
    repeat refine sq ?_
    refine aB (fun hb=>?_) fun hb=>?_
    ·repeat refine sq ?_
     have o4:ax l k (i1+1)=ax l k i1:=uo (P0 (by rw[hx];exact dK) (by rw[hx];simpa using hb))
     refine bW ?_
     simp only[go_sem]
     refine kp [0,1,5,56,57,58] [[5,0],[23,0],[24,0],[26,0],[49,0],[124,0]] ?_
     repeat refine sq ?_
     refine bc hΓ fun K' hK=>?_
     simp only[go_sem,ah aI,ai,aj,bj,dK,aP,Option.isSome_some]
     repeat (refine⟨an,?_⟩)
     refine hK _ ?_
     clear K' hK
     simp only[go_sem]
     refine⟨i1+1,aI,by(show l.ts.length-(i1+1)<l.ts.length-i1;omega),?_⟩
     refine bu [0,1,5,56,57,58] [[5,0],[23,0],[24,0],[26,0],[49,0],[124,0]] ?_ ?_<;>simp only[go_sem,bn aI lV,br,o4]
    ·repeat refine sq ?_
     have Us:bJ l.ts[i1].kn l.ts[i1].un k=true:=by simpa using hb
     refine aF ?_
     repeat refine sq ?_
     refine rx hΓ [0,1,5,8,9,10,12,56,57,58] [[5,0],[9,0],[10,0],[23,0],[24,0],[26,0],[49,0],[124,0]] (fun K' hK=>by simp only[go_sem,ah aI,ai,aj,bj,dK,aP,Option.isSome_some,fT];exact ak) ?_
     obtain⟨fs,pc⟩:∃ fs,cB l.ts[i1].lo (r.da+1)=fs:=⟨_,rfl⟩
     have Jr:=pc
     unfold cB at Jr
     rw[Jr]
     repeat refine sq ?_
     refine rx hΓ [0,1,5,8,9,10,12,13,56,57,58] [[5,0],[9,0],[10,0],[23,0],[24,0],[26,0],[49,0],[124,0]] (fun K' hK=>by simp only[go_sem,ah aI,ai,aj,bj,dK,aP,Option.isSome_some];exact ak) ?_
     repeat refine sq ?_
     refine rx hΓ [0,1,5,8,9,10,12,56,57,58,99] [[5,0],[9,0],[10,0],[23,0],[24,0],[26,0],[49,0],[124,0]] (fun K' hK=>by simp only[go_sem,ah aI,ai,aj,bj,dK,aP,Option.isSome_some];rw[Uv r _ _ rfl rfl rfl rfl rfl];simp only[go_sem,ah aI,ai,aj,bj,dK,aP,Option.isSome_some];exact ak) ?_
     repeat refine sq ?_
     refine aB (fun hb=>?_) fun hb=>?_
     ·repeat refine sq ?_
      have o4:ax l k (i1+1)=ax l k i1:=uo (PZ (by rw[hx];exact dK) (by rw[hx,pc];exact hb))
      refine bW ?_
      simp only[go_sem]
      refine kp [0,1,5,56,57,58] [[5,0],[23,0],[24,0],[26,0],[49,0],[124,0]] ?_
      repeat refine sq ?_
      refine bc hΓ fun K' hK=>?_
      simp only[go_sem,ah aI,ai,aj,bj,dK,aP,Option.isSome_some]
      repeat (refine⟨an,?_⟩)
      refine hK _ ?_
      clear K' hK
      simp only[go_sem]
      refine⟨i1+1,aI,by(show l.ts.length-(i1+1)<l.ts.length-i1;omega),?_⟩
      refine bu [0,1,5,56,57,58] [[5,0],[23,0],[24,0],[26,0],[49,0],[124,0]] ?_ ?_<;>simp only[go_sem,bn aI lV,br,o4]
     ·repeat refine sq ?_
      have o4:=AV (PY (k:=k) (rs:=bx l k) (bk:=(ax l k i1).bk) (x:=aG l i1) (r:=r) (by rw[hx];exact dK) (by rw[hx];exact Us) (by rw[hx,pc];exact hb))
      rw[hx,pc]at o4
      refine aF ?_
      repeat refine sq ?_
      refine rx hΓ [0,1,5,8,9,10,12,56,57,58,101,102,103] [[5,0],[9,0],[10,0],[23,0],[24,0],[26,0],[49,0],[124,0]] (fun K' hK=>by simp only[go_sem,ah aI,ai,aj,bj,dK,aP,Option.isSome_some];exact ak) ?_
      repeat refine sq ?_
      refine aS ?_
      repeat refine sq ?_
      refine cM (fun s:Nat=>[(103,⟨true,.v (vInt s)⟩)]) (fun s=>[([23,0],.map 2 (bM (oq (ax l k i1).bk r.so i1 (l.ts[i1].lv.take s))))]) (fun s=>s<=l.ts[i1].lv.length) (fun s=>l.ts[i1].lv.length-s) 0 ?_ ?_ ?_ ?_
      ·exact Nat.zero_le _
      ·rfl
      ·rfl
      rintro i2 hi
      simp only[go_sem]
      repeat refine sq ?_
      refine rx hΓ [0,1,5,8,9,10,12,56,57,58,101,102,103,104] [[5,0],[9,0],[10,0],[23,0],[24,0],[26,0],[49,0],[124,0]] (fun K' hK=>by simp only[go_sem,ah aI,ai,aj,bj,dK,aP,Option.isSome_some];exact ak) ?_
      repeat refine sq ?_
      refine aB (fun hb=>?_) fun hb=>?_
      ·have cT:i2<l.ts[i1].lv.length:=by simpa using hb
       have jz:(i2:Int)<l.ts[i1].lv.length:=by omega
       clear hb
       have Vf:=W4 (ax l k i1).bk r.so i1 cT
       repeat refine sq ?_
       refine aF ?_
       repeat refine sq ?_
       refine aS ?_
       repeat refine sq ?_
       refine rx hΓ [0,1,5,8,9,10,12,15,56,57,58,101,102,103] [[5,0],[9,0],[10,0],[23,0],[24,0],[26,0],[49,0],[124,0]] (fun K' hK=>by simp only[go_sem,ah aI,ai,aj,bj,dK,aP,Option.isSome_some,ah cT,ai,aj,jz];exact ak) ?_
       repeat refine sq ?_
       refine s9 hΓ hP [[],[0],[0,1],[0,1,2],[],[4],[],[4,5,6],[],u9] (by kernel_rfl) fun K' hK=>?_
       simp only[go_sem,ah aI,ai,aj,bj,dK,aP,Option.isSome_some,ah cT,ai,aj,jz,P6]
       repeat (refine⟨an,?_⟩)
       first | refine⟨by rfl,?_⟩ | skip
       refine hK _ ?_
       clear K' hK
       simp only[go_sem]
       refine kp [0,1,5,8,9,10,12,56,57,58,101,102,103] [[5,0],[9,0],[10,0],[23,0],[24,0],[26,0],[49,0],[124,0]] ?_
       repeat refine sq ?_
       refine bc hΓ fun K' hK=>?_
       simp only[go_sem,ah aI,ai,aj,bj,dK,aP,Option.isSome_some,ah cT,ai,aj,jz]
       repeat (refine⟨an,?_⟩)
       refine hK _ ?_
       clear K' hK
       simp only[go_sem]
       refine⟨i2+1,cT,by(show l.ts[i1].lv.length-(i2+1)<l.ts[i1].lv.length-i2;omega),?_⟩
       refine bu [0,1,5,8,9,10,12,56,57,58,101,102,103] [[5,0],[9,0],[10,0],[23,0],[24,0],[26,0],[49,0],[124,0]] ?_ ?_<;>simp only[go_sem,bn cT xI,br,Vf]
      ·have nQ:i2=l.ts[i1].lv.length:=by
        have :¬ (i2:Int)<l.ts[i1].lv.length:=by simpa using hb
        omega
       clear hb
       subst nQ
       repeat refine sq ?_
       refine bW ?_
       simp only[go_sem]
       refine kp [0,1,5,8,9,12,56,57,58] [[5,0],[9,0],[23,0],[24,0],[26,0],[49,0],[124,0]] ?_
       repeat refine sq ?_
       refine dx hΓ hP [[],[],[1],[1,2],[1,2,3],[],[5],[1,2,3,4,5,6],u8,u9,ew] [0,1,5,8,9,12,56,57,58] [[5,0],[9,0],[23,0],[24,0],[26,0],[49,0],[124,0]] (by kernel_rfl) (fun K' hK=>by simp only[go_sem,ah aI,ai,aj,bj,dK,aP,Option.isSome_some];exact sO) ?_
       repeat refine sq ?_
       refine s9 hΓ hP [[],[0],[0,1],[0,1,2],[],[],[],[6],[6,7],[5,6,7,8],ew] (by kernel_rfl) fun K' hK=>?_
       simp only[go_sem,ah aI,ai,aj,bj,dK,aP,Option.isSome_some,Gh]
       repeat (refine⟨an,?_⟩)
       first | refine⟨by rfl,?_⟩ | skip
       refine hK _ ?_
       clear K' hK
       simp only[go_sem]
       refine kp [0,1,5,56,57,58] [[5,0],[23,0],[24,0],[26,0],[49,0],[124,0]] ?_
       repeat refine sq ?_
       refine bc hΓ fun K' hK=>?_
       simp only[go_sem,ah aI,ai,aj,bj,dK,aP,Option.isSome_some]
       repeat (refine⟨an,?_⟩)
       refine hK _ ?_
       clear K' hK
       simp only[go_sem]
       refine⟨i1+1,aI,by(show l.ts.length-(i1+1)<l.ts.length-i1;omega),?_⟩
       refine bu [0,1,5,56,57,58] [[5,0],[23,0],[24,0],[26,0],[49,0],[124,0]] ?_ ?_<;>simp only[go_sem,bn aI lV,br,o4,List.take_length,List.map_append,List.map_cons,List.map_nil,List.length_append,List.length_cons,List.length_nil]
  ·have iY:i1=l.ts.length:=by
    have :¬ (i1:Int)<l.ts.length:=by simpa using hb
    omega
   clear hb
   subst iY
   repeat refine sq ?_
   refine bW ?_
   simp only[go_sem]
   refine kp [0,5] [[5,0],[23,0],[24,0],[26,0],[49,0],[124,0]] ?_
   have hk:=w9 l k l.ts.length (Nat.le_refl _)
   obtain⟨e1,e2⟩:=oQ l k l.ts.length
   have hΓ:=ZA
   have S':(ax l k l.ts.length).ts.length<=maxLen:=Nat.le_trans hk.tn lV
   refine dw (vY [26,0] [124,0] 2 _ _ _ _ rfl rfl rfl (by first | rfl | (simp only[List.length_map];done)) [0,5] [[5,0],[23,0],[24,0],[26,0],[49,0],[124,0]] ?_ rfl) ?_
   ·simp only[go_sem,List.set_cons_succ,List.set_cons_zero]
   simp only[go_sem,List.set_cons_succ,List.set_cons_zero]
   repeat refine sq ?_
   refine rx hΓ [0,5,141,142,143] [[5,0],[23,0],[24,0],[26,0],[49,0],[124,0]] (fun K' hK=>by simp only[go_sem];exact ak) ?_
   repeat refine sq ?_
   refine aS ?_
   repeat refine sq ?_
   refine cM (fun s:Nat=>[(143,⟨true,.v (vInt s)⟩)]) (fun s=>[([24,0],.map 0 (bB (gH l (bx l k) (ax l k l.ts.length).ts (ax l k l.ts.length).ds s)))]) (fun s=>s<=(ax l k l.ts.length).ts.length) (fun s=>(ax l k l.ts.length).ts.length-s) 0 ?_ ?_ ?_ ?_
   ·exact Nat.zero_le _
   ·rfl
   ·rfl
   rintro i3 hi
   simp only[go_sem]
   repeat refine sq ?_
   refine rx hΓ [0,5,141,142,143,144] [[5,0],[23,0],[24,0],[26,0],[49,0],[124,0]] (fun K' hK=>by simp only[go_sem];exact ak) ?_
   repeat refine sq ?_
   refine aB (fun hb=>?_) fun hb=>?_
   ·have mK:i3<(ax l k l.ts.length).ts.length:=by simpa using hb
    have xG:(i3:Int)<(ax l k l.ts.length).ts.length:=by omega
    clear hb
    obtain⟨⟨cK,jB⟩,r,lP⟩:=hk.ts (ax l k l.ts.length).ts[i3] (List.getElem_mem mK)
    have kO:=Ec cK jB
    have hD:gH l (bx l k) (ax l k l.ts.length).ts (ax l k l.ts.length).ds (i3+1)=jU (gH l (bx l k) (ax l k l.ts.length).ts (ax l k l.ts.length).ds i3) (ax l k l.ts.length).ts[i3] r.da (dk (bx l k) r.pa (aG l (ax l k l.ts.length).ts[i3].toNat).lv):=by
     show jU _ ((ax l k l.ts.length).ts.getD i3 0) (kI (bx l k) (aG l ((ax l k l.ts.length).ts.getD i3 0).toNat).re).da (dk _ (kI (bx l k) (aG l ((ax l k l.ts.length).ts.getD i3 0).toNat).re).pa _)=_
     rw[dt mK];unfold kI;rw[lP];rfl
    repeat refine sq ?_
    refine aF ?_
    repeat refine sq ?_
    refine aS ?_
    repeat refine sq ?_
    refine rx hΓ [0,5,17,141,142,143] [[5,0],[17,0],[23,0],[24,0],[26,0],[49,0],[124,0]] (fun K' hK=>by simp only[go_sem,ah mK,ai,aj,xG];exact ak) ?_
    refine dw (gg 17 (.ref [17,0] 0) (by simp only[go_sem]) (by simp only[go_sem]) [0,5,17,141,142,143] [[5,0],[17,0],[23,0],[24,0],[26,0],[49,0],[124,0]] ?_ rfl) ?_
    ·simp only[go_sem]
    simp only[go_sem]
    repeat refine sq ?_
    refine dx hΓ hP [[],[0],[0,1],[0,1,2],[],u5,u6,[],u8] [0,5,17,18,141,142,143] [[5,0],[17,0],[18,0],[23,0],[24,0],[26,0],[49,0],[124,0]] (by kernel_rfl) (fun K' hK=>by simp only[go_sem,ah mK,ai,aj,xG,kO,cK,jB];exact sO) ?_
    refine dw (gg 18 (.ref [18,0] 0) (by simp only[go_sem]) (by simp only[go_sem]) [0,5,17,18,141,142,143] [[5,0],[17,0],[18,0],[23,0],[24,0],[26,0],[49,0],[124,0]] ?_ rfl) ?_
    ·simp only[go_sem]
    simp only[go_sem]
    repeat refine sq ?_
    refine rx hΓ [0,5,17,18,19,141,142,143] [[5,0],[17,0],[18,0],[19,0],[23,0],[24,0],[26,0],[49,0],[124,0]] (fun K' hK=>by simp only[go_sem,ah mK,ai,aj,xG,lP,aP,Option.isSome_some];exact ak) ?_
    refine dw (gg 19 (.ref [19,0] 0) (by simp only[go_sem]) (by simp only[go_sem]) [0,5,17,18,19,141,142,143] [[5,0],[17,0],[18,0],[19,0],[23,0],[24,0],[26,0],[49,0],[124,0]] ?_ rfl) ?_
    ·simp only[go_sem]
    simp only[go_sem]
    repeat refine sq ?_
    refine rx hΓ [0,5,17,19,141,142,143,166] [[5,0],[17,0],[19,0],[23,0],[24,0],[26,0],[49,0],[124,0],[3,0,166,0]] (fun K' hK=>by simp only[go_sem,ah mK,ai,aj,xG];exact ak) ?_
    repeat refine sq ?_
    refine aS ?_
    repeat refine sq ?_
    have b7:=Fb hp k
    have aa:=Gt l k (ax l k l.ts.length).ts[i3] (i3:Nat) (ax l k l.ts.length).ts.length ⟨l,bx l k,(ax l k l.ts.length).ts,(ax l k l.ts.length).bk,gH l (bx l k) (ax l k l.ts.length).ts (ax l k l.ts.length).ds i3⟩ r (aG l (ax l k l.ts.length).ts[i3].toNat).lv b7
    have fL:aK Tryz.prog 193 ((gG l k (ax l k l.ts.length).ts[i3] (i3:Nat) (ax l k l.ts.length).ts.length ⟨l,bx l k,(ax l k l.ts.length).ts,(ax l k l.ts.length).bk,gH l (bx l k) (ax l k l.ts.length).ts (ax l k l.ts.length).ds i3⟩ r (aG l (ax l k l.ts.length).ts[i3].toNat).lv).itC (je 4 r.pa (aG l (ax l k l.ts.length).ts[i3].toNat).lv)).toSpec:=EK aa (fun _=>rfl) (Qt l k (ax l k l.ts.length).ts[i3] (i3:Nat) (ax l k l.ts.length).ts.length ⟨l,bx l k,(ax l k l.ts.length).ts,(ax l k l.ts.length).bk,gH l (bx l k) (ax l k l.ts.length).ts (ax l k l.ts.length).ds i3⟩ r (aG l (ax l k l.ts.length).ts[i3].toNat).lv b7) (Ab hp k) (Fc hp k) rfl (fun _=>rfl) (j:=4) (jc:=1) (show 4<5 by decide) rfl rfl
    refine KZ aa (Qu l k (ax l k l.ts.length).ts[i3] (i3:Nat) (ax l k l.ts.length).ts.length ⟨l,bx l k,(ax l k l.ts.length).ts,(ax l k l.ts.length).bk,gH l (bx l k) (ax l k l.ts.length).ts (ax l k l.ts.length).ds i3⟩ r (aG l (ax l k l.ts.length).ts[i3].toNat).lv) (f:=193) 200 201 (Ls:=[[5,0],[26,0],[23,0],[24,0],[3,0,166,0]]) rfl rfl (by decide) fL rfl rfl rfl rfl rfl rfl (by decide) (show ([200,0]:Name)∉[[5,0],[26,0],[23,0],[24,0],[3,0,166,0]]by decide) ⟨rfl,rfl,rfl,rfl,rfl,trivial⟩ fun o=>?_
    obtain⟨g1,g2⟩:=Lp.go_e (r:=(gG l k (ax l k l.ts.length).ts[i3] (i3:Nat) (ax l k l.ts.length).ts.length ⟨l,bx l k,(ax l k l.ts.length).ts,(ax l k l.ts.length).bk,gH l (bx l k) (ax l k l.ts.length).ts (ax l k l.ts.length).ds i3⟩ r (aG l (ax l k l.ts.length).ts[i3].toNat).lv)) (fun _=>rfl)
    have g3:(gG l k (ax l k l.ts.length).ts[i3] (i3:Nat) (ax l k l.ts.length).ts.length ⟨l,bx l k,(ax l k l.ts.length).ts,(ax l k l.ts.length).bk,gH l (bx l k) (ax l k l.ts.length).ts (ax l k l.ts.length).ds i3⟩ r (aG l (ax l k l.ts.length).ts[i3].toNat).lv).fam [[5,0],[26,0],[23,0],[24,0],[3,0,166,0]] (gG l k (ax l k l.ts.length).ts[i3] (i3:Nat) (ax l k l.ts.length).ts.length ⟨l,bx l k,(ax l k l.ts.length).ts,(ax l k l.ts.length).bk,gH l (bx l k) (ax l k l.ts.length).ts (ax l k l.ts.length).ds i3⟩ r (aG l (ax l k l.ts.length).ts[i3].toNat).lv).e=[.box [.ref [26,0] 0],bq ⟨l,bx l k,(ax l k l.ts.length).ts,(ax l k l.ts.length).bk,gH l (bx l k) (ax l k l.ts.length).ts (ax l k l.ts.length).ds i3⟩ [23,0] [24,0],.map 2 (bM (ax l k l.ts.length).bk),.map 0 (bB (gH l (bx l k) (ax l k l.ts.length).ts (ax l k l.ts.length).ds (i3+1))),.box [.ref [26,0] 0]]:=by
     rw[g1,hD,<-List.take_length (l:=dk (bx l k) r.pa (aG l (ax l k l.ts.length).ts[i3].toNat).lv)]
     rfl
    rw[g2,g3]
    simp only[wI,iE]
    refine b9 ?_
    show CL Tryz.prog (_::_) _ _
    refine eo [0,5,141,142,143] [[5,0],[23,0],[24,0],[26,0],[49,0],[124,0]] ?_ ?_
    ·simp only[go_sem,dH]
    simp only[go_sem,dH]
    repeat refine sq ?_
    refine bc hΓ fun K' hK=>?_
    simp only[go_sem]
    repeat (refine⟨an,?_⟩)
    refine hK _ ?_
    clear K' hK
    simp only[go_sem]
    refine⟨i3+1,mK,by(show (ax l k l.ts.length).ts.length-(i3+1)<(ax l k l.ts.length).ts.length-i3;omega),?_⟩
    refine bu [0,5,141,142,143] [[5,0],[23,0],[24,0],[26,0],[49,0],[124,0]] ?_ ?_<;>simp only[go_sem,bn mK S',br]
   ·have TZ:i3=(ax l k l.ts.length).ts.length:=by
     have :¬ (i3:Int)<(ax l k l.ts.length).ts.length:=by simpa using hb
     omega
    clear hb
    subst TZ
    repeat refine sq ?_
    refine bW ?_
    simp only[go_sem]
    refine kp [5] [[5,0],[23,0],[24,0],[26,0],[49,0],[124,0]] ?_
    repeat refine sq ?_
    refine rx hΓ [4] [[23,0],[24,0],[26,0],[49,0],[124,0]] (fun K' hK=>by simp only[go_sem];exact ak) ?_
    refine av ?_
    simp only[go_sem]
    rw[show (aW l k).l=l from e1,show (aW l k).rs=bx l k from e2];first | exact⟨rfl,rfl,rfl⟩ | exact⟨rfl,rfl,rfl,trivial⟩ | exact⟨⟨rfl,rfl,rfl⟩,rfl⟩ | trace_state
end
set_option maxHeartbeats 8000000
noncomputable section
def dE(l:Led)(ds:List Int):Int:=if mV l=0 then dh (!ds.any fun d=>!dayB d) 6 else mV l
theorem Px:pG (161,[])=fun n=>!dayB n:=rfl
theorem PL:wP (161,[]):=.inl rfl
def K30a:List (Nat×Spec):=[(37,DG),(160,S160)]
theorem Zy:KS K30a:=tc Oi.sound<|tc Iq<|tn
attribute [go_sem] K30a
@[go_sem] def P75:PSpec:=p2 iL ef (fun _ _=>True) (fun l ds=>vInt (dE l ds)) true
@[go_sem] def mo:Spec:=P75.toSpec
theorem zU:aT Tryz.prog 75 P75:=by
 refine ev (rs:=[.tmp 4]) Tryz.func75 Tryz.ntmps75 fun l ds hp hw=>?_
 simp only[ef,iL,fY]at hw |-
 have hΓ:=Zy
 repeat refine sq ?_
 refine rx hΓ [1,2] [[2,0]] (fun K' hK=>by simp only[go_sem];exact ak) ?_
 refine dw (gg 2 (.ref [2,0] 0) (by simp only[go_sem]) (by simp only[go_sem]) [1,2] [[2,0]] ?_ rfl) ?_
 ·simp only[go_sem]
 simp only[go_sem]
 repeat refine sq ?_
 refine rx hΓ [1,5] [] (fun K' hK=>by simp only[go_sem];exact ak) ?_
 repeat refine sq ?_
 refine rx hΓ [1,5,9] [] (fun K' hK=>by simp only[go_sem];exact ak) ?_
 repeat refine sq ?_
 refine aB (fun hb=>?_) fun hb=>?_
 ·repeat refine sq ?_
  have hc:¬ mV l=0:=by simpa using hb
  unfold dE;rw[if_neg hc]
  repeat refine sq ?_
  refine rx hΓ [4] [] (fun K' hK=>by simp only[go_sem];exact ak) ?_
  refine av ?_
  simp only[go_sem]
  all_goals exact dM
 ·repeat refine sq ?_
  have hc:mV l=0:=by simpa using hb
  unfold dE;rw[if_pos hc]
  refine aF ?_
  repeat refine sq ?_
  refine rx hΓ [12] [] (fun K' hK=>by simp only[go_sem,PL,Px];exact ak) ?_
  repeat refine sq ?_
  refine aB (fun hb=>?_) fun hb=>?_
  ·repeat refine sq ?_
   rw[show (ds.any fun d=>!dayB d)=true from hb]
   repeat refine sq ?_
   refine rx hΓ [4] [] (fun K' hK=>by simp only[go_sem];exact ak) ?_
   refine av ?_
   simp only[go_sem]
   all_goals exact dM
  ·repeat refine sq ?_
   rw[show (ds.any fun d=>!dayB d)=false from hb]
   refine aF ?_
   repeat refine sq ?_
   refine rx hΓ [4] [] (fun K' hK=>by simp only[go_sem];exact ak) ?_
   refine av ?_
   simp only[go_sem]
   all_goals exact dM
def K30b:List (Nat×Spec):=[(76,S76),(128,S128)]
theorem Zx:KS K30b:=tc Ba<|tc It<|tn
attribute [go_sem] K30b
@[go_sem] def P123:PSpec:=p3 nN iI (eX iS) (fun l _ ss=>(bN l/\ss.length<=60)/\∀ s∈ss,rJ s) (fun l k ss=>.bool (cU (aW l k) ss)) true
@[go_sem] def Mo:Spec:=P123.toSpec
theorem EP:aT Tryz.prog 123 P123:=by
 refine kC (rs:=[.tmp 6]) Tryz.func123 Tryz.ntmps123 fun l k ss hp hw=>?_
 simp only[iI,nN,iS,eX,ja,encS]at hw |-
 have hΓ:=Zx
 obtain⟨⟨aa,uW⟩,sw⟩:=hp
 repeat refine sq ?_
 refine rx hΓ [0,1,2] [] (fun K' hK=>by simp only[go_sem];exact ak) ?_
 repeat refine sq ?_
 refine rx hΓ [6] [] (fun K' hK=>by simp only[go_sem];(repeat (refine⟨by first | exact an | exact⟨⟨oO aa k,uW⟩,sw⟩,?_⟩));exact dN) ?_
 refine av ?_
 simp only[go_sem]
 all_goals exact dM
def zB(x:Vw)(t:Name):List (Name×O):=[(26::0::t,bq x (23::0::t) (24::0::t)),(23::0::t,.map 2 (bM x.bk)),(24::0::t,.map 0 (bB x.ds))]
def DE:Option (Int×Int)->Vw->List (Name×O)
 |none,x=>zB x [11,0]
 |some _,_=>[]
def DD:Option (Int×Int)->D
 |none=>.tup [.ref [26,0,11,0] 0,.v (vInt 0)]
 |some _=>.tup [.v .nilp,.v (vInt 25)]
attribute [go_sem] zB
theorem cq(x:Vw):DE none x=zB x [11,0]:=rfl
theorem mZ(p:Int×Int)(x:Vw):DE (some p) x=[]:=rfl
theorem cp:DD none=.tup [.ref [26,0,11,0] 0,.v (vInt 0)]:=rfl
theorem mY(p:Int×Int):DD (some p)=.tup [.v .nilp,.v (vInt 25)]:=rfl
theorem rS(p:Int×Int):wF (some p)=.tup [.v (.sl [vInt p.1,vInt p.2]),.v (.bool true)]:=rfl
theorem rT:wF none=.tup [.nilsl,.v (.bool false)]:=rfl
def K30c:List (Nat×Spec):=[(76,S76),(120,S120)]
theorem Zw:KS K30c:=tc Ba<|tc Iu<|tn
attribute [go_sem] K30c
def zl:NSpec:=n2 nN iI (fun l _=>bN l) (fun l k=>DE (fe (aW l k)) (aW l k)) (fun l k=>DD (fe (aW l k)))
def S121:Spec:=zl.toSpec
attribute [go_sem] zl S121
theorem Be:aK Tryz.prog 121 S121:=by
 refine F8 (nt:=19) (rs:=[.tmp 4,.tmp 5]) Tryz.func121 rfl (by rfl) (by kernel_rfl) (by kernel_rfl) (by decide) ?_
 intro xs hp
 obtain⟨l,k,rfl,hp,fv,ft⟩:=Gf hp
 replace fv:zl.new _=_:=fv
 replace ft:zl.d _=_:=ft
 rw[fv,ft]
 clear fv ft
 refine⟨lb rfl,?_⟩
 simp only[iI,iB,ef,iP,iR,iT,iS,iL,nN,eX,iC,iF,dv,encR,du,encS,fY,ja,List.map_cons,List.map_nil,cY,Nat.zero_add]
 have hΓ:=Zw
 repeat refine sq ?_
 refine rx hΓ [0,1] [] (fun K' hK=>by simp only[go_sem];exact ak) ?_
 repeat refine sq ?_
 refine rx hΓ [6] [[26,0,11,0],[23,0,11,0],[24,0,11,0]] (fun K' hK=>by simp only[go_sem];exact ak) ?_
 rcases bg:fe (aW l k)with _ | p
 ·repeat refine sq ?_
  refine rx hΓ [6,8] [[26,0,11,0],[23,0,11,0],[24,0,11,0]] (fun K' hK=>by simp only[go_sem,bg,rT];(repeat (refine⟨by first | exact an | exact(oO hp k).1,?_⟩));exact dN) ?_
  repeat refine sq ?_
  refine rx hΓ [6,17] [[26,0,11,0],[23,0,11,0],[24,0,11,0]] (fun K' hK=>by simp only[go_sem,bg,rT];exact ak) ?_
  repeat refine sq ?_
  refine aB (fun hb=>?_) fun hb=>?_
  ·cases hb
  ·repeat refine sq ?_
   refine aF ?_
   repeat refine sq ?_
   refine rx hΓ [4,5] [[26,0,11,0],[23,0,11,0],[24,0,11,0]] (fun K' hK=>by simp only[go_sem,bg,rT];exact ak) ?_
   refine av ?_
   simp only[go_sem,cq,cp,mZ,mY]
   all_goals first | done | rfl | trace_state
 ·repeat refine sq ?_
  refine rx hΓ [6,8] [[26,0,11,0],[23,0,11,0],[24,0,11,0]] (fun K' hK=>by simp only[go_sem,bg,rS];(repeat (refine⟨by first | exact an | exact(oO hp k).1,?_⟩));exact dN) ?_
  repeat refine sq ?_
  refine rx hΓ [6,17] [[26,0,11,0],[23,0,11,0],[24,0,11,0]] (fun K' hK=>by simp only[go_sem,bg,rS];exact ak) ?_
  repeat refine sq ?_
  refine aB (fun hb=>?_) fun hb=>?_
  ·repeat refine sq ?_
   refine rx hΓ [4,5] [[26,0,11,0],[23,0,11,0],[24,0,11,0]] (fun K' hK=>by simp only[go_sem,bg,rS];exact ak) ?_
   refine av ?_
   simp only[go_sem,cq,cp,mZ,mY]
   all_goals first | done | rfl | trace_state
  ·cases hb
theorem zQ{l:Led}(h:bN l)(k:Int):(aN l k).length<=60/\∀ s∈aN l k,rJ s:=by
 refine⟨Nat.le_trans (List.length_filter_le _ _) h.ssn,fun s hs=>?_⟩
 obtain⟨j,hj,rfl⟩:=List.getElem_of_mem (List.mem_filter.1 hs).1
 have :=ri h.ss hj
 unfold kG at this
 simp only[Bool.and_eq_true]at this
 have hd:=this.1.2
 unfold dayB cl at hd
 simp at hd
 exact hd
def Nh:Option (Int×Int)->Bool->Int
 |some _,_=>25
 |none,false=>27
 |none,true=>0
def Zv:List (Nat×Spec):=[(121,S121),(122,S122),(128,S128)]
attribute [go_sem] Zv
end
set_option maxHeartbeats 8000000
noncomputable section
theorem p0(l:Led)(k:Int):(aW l k).l=l:=(oQ l k l.ts.length).1
theorem s4{l:Led}{ds:List Int}(h:dE l ds=0):bN l/\∀ d∈ds,dayB d=true:=by
 unfold dE at h
 split at h
 ·rename_i hc
  refine⟨?_,?_⟩
  ·refine Classical.byContradiction fun hn=>?_
   rw[vz hn]at hc;cases hc
  ·unfold dh at h
   split at h
   ·rename_i hd
    intro d Up
    have :(ds.any fun d=>!dayB d)=false:=by simpa using hd
    rw[List.any_eq_false]at this
    have :=this d Up
    simpa using this
   ·cases h
 ·rename_i hc;exact(hc h).elim
def qU(l:Led)(k:Int):V:=if dE l [k]=0 then(match fe (aW l k)with | some p=>.tup [.sl [vInt p.1,vInt p.2],vInt 0] | none=>.tup [.sl [],vInt 28])else .tup [.sl [],vInt (dE l [k])]
def tL(l:Led)(k:Int):Bool:=(fe (aW l k)).isNone&&cU (aW l k) (aN (aW l k).l k)
def pO(l:Led)(k:Int):V:=if dE l [k]=0 then .tup [.bool (tL l k),vInt 0]else .tup [.bool false,vInt (dE l [k])]
def K31:List (Nat×Spec):=[(75,mo),(76,S76),(120,S120),(121,S121),(122,S122),(128,S128),(77,S77),(129,S129)]
theorem DS:KS K31:=tc zU.sound<|tc Ba<|tc Iu<|tc Be<|tc Bd<|tc It<|tc Io<|tc Is<|tn
attribute [go_sem] K31
@[go_sem] def P42:PSpec:=p2 iL iI (fun _ _=>True) (fun l k=>qU l k) false
@[go_sem] def XZ:Spec:=P42.toSpec
theorem Oh:aT Tryz.prog 42 P42:=by
 refine ev (rs:=[.tmp 4,.tmp 5]) Tryz.func42 Tryz.ntmps42 fun l k hp hw=>?_
 simp only[iI,iL,fY]at hw |-
 have hΓ:=DS
 repeat refine sq ?_
 refine rx hΓ [1,2] [[2,0]] (fun K' hK=>by simp only[go_sem];exact ak) ?_
 refine dw (gg 2 (.ref [2,0] 0) (by simp only[go_sem]) (by simp only[go_sem]) [1,2] [[2,0]] ?_ rfl) ?_
 ·simp only[go_sem]
 simp only[go_sem]
 repeat refine sq ?_
 refine rx hΓ [1,2,6] [[2,0]] (fun K' hK=>by simp only[go_sem];exact ak) ?_
 repeat refine sq ?_
 refine rx hΓ [1,2,6,14] [[2,0]] (fun K' hK=>by simp only[go_sem];exact ak) ?_
 repeat refine sq ?_
 refine aB (fun hb=>?_) fun hb=>?_
 ·repeat refine sq ?_
  have hc:¬ dE l [k]=0:=by simpa using hb
  unfold qU;rw[if_neg hc]
  repeat refine sq ?_
  refine rx hΓ [4,5] [] (fun K' hK=>by simp only[go_sem];exact ak) ?_
  refine av ?_
  simp only[go_sem]
  all_goals exact dM
 ·repeat refine sq ?_
  have hc:dE l [k]=0:=by simpa using hb
  unfold qU;rw[if_pos hc]
  obtain⟨aa,_⟩:=s4 hc
  obtain⟨hv,b7⟩:=oO aa k
  refine aF ?_
  rcases bg:fe (aW l k)with _ | p
  ·repeat refine sq ?_
   refine rx hΓ [7,8] [] (fun K' hK=>by simp only[go_sem,bg,rT];(repeat (refine⟨by first | exact an | exact hv,?_⟩));exact dN) ?_
   repeat refine sq ?_
   refine rx hΓ [7,23] [] (fun K' hK=>by simp only[go_sem,bg,rT];exact ak) ?_
   repeat refine sq ?_
   refine aB (fun hb=>?_) fun hb=>?_
   ·repeat refine sq ?_
    refine rx hΓ [4,5] [] (fun K' hK=>by simp only[go_sem,bg,rT];exact ak) ?_
    refine av ?_
    simp only[go_sem]
    all_goals exact dM
   ·cases hb
  ·repeat refine sq ?_
   refine rx hΓ [7,8] [] (fun K' hK=>by simp only[go_sem,bg,rS];(repeat (refine⟨by first | exact an | exact hv,?_⟩));exact dN) ?_
   repeat refine sq ?_
   refine rx hΓ [7,23] [] (fun K' hK=>by simp only[go_sem,bg,rS];exact ak) ?_
   repeat refine sq ?_
   refine aB (fun hb=>?_) fun hb=>?_
   ·cases hb
   ·repeat refine sq ?_
    refine aF ?_
    repeat refine sq ?_
    refine rx hΓ [4,5] [] (fun K' hK=>by simp only[go_sem,bg,rS];exact ak) ?_
    refine av ?_
    simp only[go_sem]
    all_goals exact dM
@[go_sem] def P49:PSpec:=p2 iL iI (fun _ _=>True) (fun l k=>pO l k) false
@[go_sem] def XW:Spec:=P49.toSpec
theorem Of:aT Tryz.prog 49 P49:=by
 refine ev (rs:=[.tmp 4,.tmp 5]) Tryz.func49 Tryz.ntmps49 fun l k hp hw=>?_
 simp only[iI,iL,fY]at hw |-
 have hΓ:=DS
 repeat refine sq ?_
 refine rx hΓ [1,2] [[2,0]] (fun K' hK=>by simp only[go_sem];exact ak) ?_
 refine dw (gg 2 (.ref [2,0] 0) (by simp only[go_sem]) (by simp only[go_sem]) [1,2] [[2,0]] ?_ rfl) ?_
 ·simp only[go_sem]
 simp only[go_sem]
 repeat refine sq ?_
 refine rx hΓ [1,2,6] [[2,0]] (fun K' hK=>by simp only[go_sem];exact ak) ?_
 repeat refine sq ?_
 refine rx hΓ [1,2,6,14] [[2,0]] (fun K' hK=>by simp only[go_sem];exact ak) ?_
 repeat refine sq ?_
 refine aB (fun hb=>?_) fun hb=>?_
 ·repeat refine sq ?_
  have hc:¬ dE l [k]=0:=by simpa using hb
  unfold pO;rw[if_neg hc]
  repeat refine sq ?_
  refine rx hΓ [4,5] [] (fun K' hK=>by simp only[go_sem];exact ak) ?_
  refine av ?_
  simp only[go_sem]
  all_goals first | done | (unfold tL;rw[bg];rfl) | trace_state
 ·repeat refine sq ?_
  have hc:dE l [k]=0:=by simpa using hb
  unfold pO;rw[if_pos hc]
  obtain⟨aa,_⟩:=s4 hc
  obtain⟨hv,b7⟩:=oO aa k
  obtain⟨j5,kP⟩:=zQ hv.ok k
  refine aF ?_
  rcases bg:fe (aW l k)with _ | p
  ·repeat refine sq ?_
   refine rx hΓ [1,7,8] [[26,0,11,0,18,0],[23,0,11,0,18,0],[24,0,11,0,18,0]] (fun K' hK=>by simp only[go_sem,bg,cq,cp];exact ak) ?_
   repeat refine sq ?_
   refine rx hΓ [4,5] [] (fun K' hK=>by simp only[go_sem,bg,cq,cp];(repeat (refine⟨by first | exact an | exact hv.ok.ssn | exact⟨⟨⟨hv,b7⟩,j5⟩,kP⟩ | exact fun _=>hv.ok.ssn | exact fun _=>⟨⟨⟨hv,b7⟩,j5⟩,kP⟩,?_⟩));exact dN) ?_
   refine av ?_
   simp only[go_sem]
   all_goals first | done | (unfold tL;rw[bg];rfl) | trace_state
  ·have JW:((25:Int)==0)=false:=rfl
   repeat refine sq ?_
   refine rx hΓ [1,7,8] [[26,0,11,0,18,0],[23,0,11,0,18,0],[24,0,11,0,18,0]] (fun K' hK=>by simp only[go_sem,bg,mZ,mY,JW];exact ak) ?_
   repeat refine sq ?_
   refine rx hΓ [4,5] [] (fun K' hK=>by simp only[go_sem,bg,mZ,mY,JW];(repeat (refine⟨by first | exact an | exact hv.ok.ssn | exact⟨⟨⟨hv,b7⟩,j5⟩,kP⟩ | exact fun _=>hv.ok.ssn | exact fun _=>⟨⟨⟨hv,b7⟩,j5⟩,kP⟩,?_⟩));exact dN) ?_
   refine av ?_
   simp only[go_sem]
   all_goals first | done | (unfold tL;rw[bg];rfl) | trace_state
def gb(l:Led)(k:Int)(l2:List Int):Bool:=match l2 with
 |[a,b]=>!decide (a>=b)&&(match cV (aW l k).rs a,cV (aW l k).rs b with
  |some p,some q=>fZ (aW l k) p q
  |_,_=>false)
 |_=>false
def td(l:Led)(k:Int)(l2:List Int):Int:=if dE l [k]=0 then dh (gb l k l2) 28 else dE l [k]
theorem WS{l:Led}{k:Int}{l2:List Int}(h:¬ ∃ a b,l2=[a,b]):gb l k l2=false:=by
 unfold gb
 split
 ·rename_i a b
  exact(h ⟨a,b,rfl⟩).elim
 ·rfl
theorem QS{l2:List Int}(h:¬ ∃ a b,l2=[a,b]):((l2.length:Int)==2)=false:=by
 match l2,h with
 |[],_=>rfl
 |[_],_=>rfl
 |[a,b],h=>exact(h ⟨a,b,rfl⟩).elim
 |_::_::_::r,_=>simp;omega
@[go_sem] def P50:PSpec:=p3 iL iI ef (fun _ _ _=>True) (fun l k l2=>vInt (td l k l2)) true
@[go_sem] def XV:Spec:=P50.toSpec
theorem Oe:aT Tryz.prog 50 P50:=by
 refine kC (rs:=[.tmp 6]) Tryz.func50 Tryz.ntmps50 fun l k l2 hp hw=>?_
 have hP:=gE
 simp only[iI,ef,iL,fY]at hw |-
 have hΓ:=DS
 repeat refine sq ?_
 refine rx hΓ [1,2,3] [[3,0]] (fun K' hK=>by simp only[go_sem];exact ak) ?_
 refine dw (gg 3 (.ref [3,0] 0) (by simp only[go_sem]) (by simp only[go_sem]) [1,2,3] [[3,0]] ?_ rfl) ?_
 ·simp only[go_sem]
 simp only[go_sem]
 repeat refine sq ?_
 refine rx hΓ [1,2,3,7] [[3,0]] (fun K' hK=>by simp only[go_sem];exact ak) ?_
 repeat refine sq ?_
 refine rx hΓ [1,2,3,7,18] [[3,0]] (fun K' hK=>by simp only[go_sem];exact ak) ?_
 repeat refine sq ?_
 refine aB (fun hb=>?_) fun hb=>?_
 ·repeat refine sq ?_
  have hc:¬ dE l [k]=0:=by simpa using hb
  unfold td;rw[if_neg hc]
  repeat refine sq ?_
  refine rx hΓ [6] [] (fun K' hK=>by simp only[go_sem];exact ak) ?_
  refine av ?_
  simp only[go_sem]
  all_goals first | (rfl;done) | skip
  all_goals simp only[gb,dh]
  all_goals first | rfl | (simp_all;done) | grind | trace_state
 ·repeat refine sq ?_
  have hc:dE l [k]=0:=by simpa using hb
  unfold td;rw[if_pos hc]
  obtain⟨aa,_⟩:=s4 hc
  obtain⟨hv,b7⟩:=oO aa k
  refine aF ?_
  by_cases eM:∃ a b,l2=[a,b]
  ·obtain⟨a,b,rfl⟩:=eM
   repeat refine sq ?_
   refine dx hΓ hP [[],[0],[0,1],[0,1,2],u4,u5,u6,u4,[0,1,2,3,7],[0,1,2,3,7,8],ew,gy] [1,2,3,31] [[3,0]] (by kernel_rfl) (fun K' hK=>by simp only[go_sem,Int.cast_ofNat_Int,Int.reduceBNe,Int.reduceBEq,Int.reduceToNat,List.getD_cons_succ,List.getD_cons_zero,Bool.not_false,Bool.not_true,bne,Int.reduceLT];exact sO) ?_
   repeat refine sq ?_
   refine aB (fun hb=>?_) fun hb=>?_
   ·repeat refine sq ?_
    refine rx hΓ [6] [] (fun K' hK=>by simp only[go_sem,Int.cast_ofNat_Int,Int.reduceBNe,Int.reduceBEq,Int.reduceToNat,List.getD_cons_succ,List.getD_cons_zero,Bool.not_false,Bool.not_true,bne,Int.reduceLT];exact ak) ?_
    refine av ?_
    simp only[go_sem]
    all_goals first | (rfl;done) | skip
    all_goals simp only[gb,dh]
    all_goals first | rfl | (simp_all;done) | grind | trace_state
   ·repeat refine sq ?_
    refine aF ?_
    repeat refine sq ?_
    refine rx hΓ [2,8] [[26,0,33,0],[23,0,33,0],[24,0,33,0]] (fun K' hK=>by simp only[go_sem,Int.cast_ofNat_Int,Int.reduceBNe,Int.reduceBEq,Int.reduceToNat,List.getD_cons_succ,List.getD_cons_zero,Bool.not_false,Bool.not_true,bne,Int.reduceLT];exact ak) ?_
    rcases dL:cV (aW l k).rs a with _ | p
    ·repeat refine sq ?_
     refine rx hΓ [2,8,9,10] [[9,0],[26,0,33,0],[23,0,33,0],[24,0,33,0]] (fun K' hK=>by simp only[go_sem,Int.cast_ofNat_Int,Int.reduceBNe,Int.reduceBEq,Int.reduceToNat,List.getD_cons_succ,List.getD_cons_zero,Bool.not_false,Bool.not_true,bne,Int.reduceLT,dL,a7,Option.isSome_none];exact ak) ?_
     rcases dC:cV (aW l k).rs b with _ | q
     ·repeat refine sq ?_
      refine rx hΓ [8,9,10,11,12] [[9,0],[11,0],[26,0,33,0],[23,0,33,0],[24,0,33,0]] (fun K' hK=>by simp only[go_sem,Int.cast_ofNat_Int,Int.reduceBNe,Int.reduceBEq,Int.reduceToNat,List.getD_cons_succ,List.getD_cons_zero,Bool.not_false,Bool.not_true,bne,Int.reduceLT,dL,a7,Option.isSome_none,dC,a7,Option.isSome_none];exact ak) ?_
      repeat refine sq ?_
      refine rx hΓ [62] [] (fun K' hK=>by simp only[go_sem,Int.cast_ofNat_Int,Int.reduceBNe,Int.reduceBEq,Int.reduceToNat,List.getD_cons_succ,List.getD_cons_zero,Bool.not_false,Bool.not_true,bne,Int.reduceLT,dL,a7,Option.isSome_none,dC,a7,Option.isSome_none];(repeat (refine⟨by first | exact an | exact⟨hv,hv.rs _ (fC dL).1,hv.rs _ (fC dC).1⟩ | exact fun _=>⟨hv,hv.rs _ (fC dL).1,hv.rs _ (fC dC).1⟩,?_⟩));exact dN) ?_
      repeat refine sq ?_
      refine aB (fun hb=>?_) fun hb=>?_
      ·repeat refine sq ?_
       refine rx hΓ [6] [] (fun K' hK=>by simp only[go_sem,Int.cast_ofNat_Int,Int.reduceBNe,Int.reduceBEq,Int.reduceToNat,List.getD_cons_succ,List.getD_cons_zero,Bool.not_false,Bool.not_true,bne,Int.reduceLT,dL,a7,Option.isSome_none,dC,a7,Option.isSome_none];exact ak) ?_
       refine av ?_
       simp only[go_sem]
       all_goals first | (rfl;done) | skip
       all_goals simp only[gb,dh]
       all_goals first | rfl | (simp_all;done) | grind | trace_state
      ·repeat refine sq ?_
       refine aF ?_
       repeat refine sq ?_
       refine rx hΓ [6] [] (fun K' hK=>by simp only[go_sem,Int.cast_ofNat_Int,Int.reduceBNe,Int.reduceBEq,Int.reduceToNat,List.getD_cons_succ,List.getD_cons_zero,Bool.not_false,Bool.not_true,bne,Int.reduceLT,dL,a7,Option.isSome_none,dC,a7,Option.isSome_none];exact ak) ?_
       refine av ?_
       simp only[go_sem]
       all_goals first | (rfl;done) | skip
       all_goals simp only[gb,dh]
       all_goals first | rfl | (simp_all;done) | grind | trace_state
     ·repeat refine sq ?_
      refine rx hΓ [8,9,10,11,12] [[9,0],[11,0],[26,0,33,0],[23,0,33,0],[24,0,33,0]] (fun K' hK=>by simp only[go_sem,Int.cast_ofNat_Int,Int.reduceBNe,Int.reduceBEq,Int.reduceToNat,List.getD_cons_succ,List.getD_cons_zero,Bool.not_false,Bool.not_true,bne,Int.reduceLT,dL,a7,Option.isSome_none,dC,aP,Option.isSome_some];exact ak) ?_
      repeat refine sq ?_
      refine rx hΓ [62] [] (fun K' hK=>by simp only[go_sem,Int.cast_ofNat_Int,Int.reduceBNe,Int.reduceBEq,Int.reduceToNat,List.getD_cons_succ,List.getD_cons_zero,Bool.not_false,Bool.not_true,bne,Int.reduceLT,dL,a7,Option.isSome_none,dC,aP,Option.isSome_some];(repeat (refine⟨by first | exact an | exact⟨hv,hv.rs _ (fC dL).1,hv.rs _ (fC dC).1⟩ | exact fun _=>⟨hv,hv.rs _ (fC dL).1,hv.rs _ (fC dC).1⟩,?_⟩));exact dN) ?_
      repeat refine sq ?_
      refine aB (fun hb=>?_) fun hb=>?_
      ·repeat refine sq ?_
       refine rx hΓ [6] [] (fun K' hK=>by simp only[go_sem,Int.cast_ofNat_Int,Int.reduceBNe,Int.reduceBEq,Int.reduceToNat,List.getD_cons_succ,List.getD_cons_zero,Bool.not_false,Bool.not_true,bne,Int.reduceLT,dL,a7,Option.isSome_none,dC,aP,Option.isSome_some];exact ak) ?_
       refine av ?_
       simp only[go_sem]
       all_goals first | (rfl;done) | skip
       all_goals simp only[gb,dh]
       all_goals first | rfl | (simp_all;done) | grind | trace_state
      ·repeat refine sq ?_
       refine aF ?_
       repeat refine sq ?_
       refine rx hΓ [6] [] (fun K' hK=>by simp only[go_sem,Int.cast_ofNat_Int,Int.reduceBNe,Int.reduceBEq,Int.reduceToNat,List.getD_cons_succ,List.getD_cons_zero,Bool.not_false,Bool.not_true,bne,Int.reduceLT,dL,a7,Option.isSome_none,dC,aP,Option.isSome_some];exact ak) ?_
       refine av ?_
       simp only[go_sem]
       all_goals first | (rfl;done) | skip
       all_goals simp only[gb,dh]
       all_goals first | rfl | (simp_all;done) | grind | trace_state
    ·repeat refine sq ?_
     refine rx hΓ [2,8,9,10] [[9,0],[26,0,33,0],[23,0,33,0],[24,0,33,0]] (fun K' hK=>by simp only[go_sem,Int.cast_ofNat_Int,Int.reduceBNe,Int.reduceBEq,Int.reduceToNat,List.getD_cons_succ,List.getD_cons_zero,Bool.not_false,Bool.not_true,bne,Int.reduceLT,dL,aP,Option.isSome_some];exact ak) ?_
     rcases dC:cV (aW l k).rs b with _ | q
     ·repeat refine sq ?_
      refine rx hΓ [8,9,10,11,12] [[9,0],[11,0],[26,0,33,0],[23,0,33,0],[24,0,33,0]] (fun K' hK=>by simp only[go_sem,Int.cast_ofNat_Int,Int.reduceBNe,Int.reduceBEq,Int.reduceToNat,List.getD_cons_succ,List.getD_cons_zero,Bool.not_false,Bool.not_true,bne,Int.reduceLT,dL,aP,Option.isSome_some,dC,a7,Option.isSome_none];exact ak) ?_
      repeat refine sq ?_
      refine rx hΓ [62] [] (fun K' hK=>by simp only[go_sem,Int.cast_ofNat_Int,Int.reduceBNe,Int.reduceBEq,Int.reduceToNat,List.getD_cons_succ,List.getD_cons_zero,Bool.not_false,Bool.not_true,bne,Int.reduceLT,dL,aP,Option.isSome_some,dC,a7,Option.isSome_none];(repeat (refine⟨by first | exact an | exact⟨hv,hv.rs _ (fC dL).1,hv.rs _ (fC dC).1⟩ | exact fun _=>⟨hv,hv.rs _ (fC dL).1,hv.rs _ (fC dC).1⟩,?_⟩));exact dN) ?_
      repeat refine sq ?_
      refine aB (fun hb=>?_) fun hb=>?_
      ·repeat refine sq ?_
       refine rx hΓ [6] [] (fun K' hK=>by simp only[go_sem,Int.cast_ofNat_Int,Int.reduceBNe,Int.reduceBEq,Int.reduceToNat,List.getD_cons_succ,List.getD_cons_zero,Bool.not_false,Bool.not_true,bne,Int.reduceLT,dL,aP,Option.isSome_some,dC,a7,Option.isSome_none];exact ak) ?_
       refine av ?_
       simp only[go_sem]
       all_goals first | (rfl;done) | skip
       all_goals simp only[gb,dh]
       all_goals first | rfl | (simp_all;done) | grind | trace_state
      ·repeat refine sq ?_
       refine aF ?_
       repeat refine sq ?_
       refine rx hΓ [6] [] (fun K' hK=>by simp only[go_sem,Int.cast_ofNat_Int,Int.reduceBNe,Int.reduceBEq,Int.reduceToNat,List.getD_cons_succ,List.getD_cons_zero,Bool.not_false,Bool.not_true,bne,Int.reduceLT,dL,aP,Option.isSome_some,dC,a7,Option.isSome_none];exact ak) ?_
       refine av ?_
       simp only[go_sem]
       all_goals first | (rfl;done) | skip
       all_goals simp only[gb,dh]
       all_goals first | rfl | (simp_all;done) | grind | trace_state
     ·repeat refine sq ?_
      refine rx hΓ [8,9,10,11,12] [[9,0],[11,0],[26,0,33,0],[23,0,33,0],[24,0,33,0]] (fun K' hK=>by simp only[go_sem,Int.cast_ofNat_Int,Int.reduceBNe,Int.reduceBEq,Int.reduceToNat,List.getD_cons_succ,List.getD_cons_zero,Bool.not_false,Bool.not_true,bne,Int.reduceLT,dL,aP,Option.isSome_some,dC,aP,Option.isSome_some];exact ak) ?_
      repeat refine sq ?_
      refine rx hΓ [62] [] (fun K' hK=>by simp only[go_sem,Int.cast_ofNat_Int,Int.reduceBNe,Int.reduceBEq,Int.reduceToNat,List.getD_cons_succ,List.getD_cons_zero,Bool.not_false,Bool.not_true,bne,Int.reduceLT,dL,aP,Option.isSome_some,dC,aP,Option.isSome_some];(repeat (refine⟨by first | exact an | exact⟨hv,hv.rs _ (fC dL).1,hv.rs _ (fC dC).1⟩ | exact fun _=>⟨hv,hv.rs _ (fC dL).1,hv.rs _ (fC dC).1⟩,?_⟩));exact dN) ?_
      repeat refine sq ?_
      refine aB (fun hb=>?_) fun hb=>?_
      ·repeat refine sq ?_
       refine rx hΓ [6] [] (fun K' hK=>by simp only[go_sem,Int.cast_ofNat_Int,Int.reduceBNe,Int.reduceBEq,Int.reduceToNat,List.getD_cons_succ,List.getD_cons_zero,Bool.not_false,Bool.not_true,bne,Int.reduceLT,dL,aP,Option.isSome_some,dC,aP,Option.isSome_some];exact ak) ?_
       refine av ?_
       simp only[go_sem]
       all_goals first | (rfl;done) | skip
       all_goals simp only[gb,dh]
       all_goals first | rfl | (simp_all;done) | grind | trace_state
      ·repeat refine sq ?_
       refine aF ?_
       repeat refine sq ?_
       refine rx hΓ [6] [] (fun K' hK=>by simp only[go_sem,Int.cast_ofNat_Int,Int.reduceBNe,Int.reduceBEq,Int.reduceToNat,List.getD_cons_succ,List.getD_cons_zero,Bool.not_false,Bool.not_true,bne,Int.reduceLT,dL,aP,Option.isSome_some,dC,aP,Option.isSome_some];exact ak) ?_
       refine av ?_
       simp only[go_sem]
       all_goals first | (rfl;done) | skip
       all_goals simp only[gb,dh]
       all_goals first | rfl | (simp_all;done) | grind | trace_state
  ·have uW:=QS eM
   rw[WS eM]
   repeat refine sq ?_
   refine dx hΓ hP [[],[0],[0,1],[0,1,2],u4,u5,u6,u4,[0,1,2,3,7],[0,1,2,3,7,8],ew,gy] [1,2,3,31] [[3,0]] (by kernel_rfl) (fun K' hK=>by simp only[go_sem,uW,bne];exact sO) ?_
   repeat refine sq ?_
   refine aB (fun hb=>?_) fun hb=>?_
   ·repeat refine sq ?_
    refine rx hΓ [6] [] (fun K' hK=>by simp only[go_sem,uW,bne];exact ak) ?_
    refine av ?_
    simp only[go_sem]
    all_goals first | (rfl;done) | skip
    all_goals simp only[gb,dh]
    all_goals first | rfl | (simp_all;done) | grind | trace_state
   ·cases hb
end
noncomputable section
def Zu:List (Nat×Spec):=[(75,mo),(76,S76)]
attribute [go_sem] Zu
def ML(x:Vw)(pa le day:Int):List Int:=match ko x.rs pa le day with
 |none=>[0]
 |some r=>match bD x.bk (r.so,le)with
  |none=>[r.bo]
  |some i=>(if (bh x.ds i).1<=day then[0]else[])++(if (bh x.ds i).2>day then[r.bo]else[])
def Zt:List (Nat×Spec):=[(119,S119)]
attribute [go_sem] Zt
def XO:VSpec:=v2 mG iI (fun x _ _=>m7 x/\x.rs.Nodup) (fun x f day=>.v (.sl ((ML x f.pa f.le day).map vInt))) none
attribute [go_sem] XO
end
noncomputable section
def eS(l:Led)(k:Int):Int:=Nh (fe (aW l k)) (cU (aW l k) (aN (aW l k).l k))
def Zs:List (Nat×Spec):=[]
attribute [go_sem] Zs
theorem bN.srt{l:Led}(h:bN l):Go.Eng.srt Pap.id l.ps:=wO (jJ.1 h.ps)
def Zr:List (Nat×Spec):=[(75,mo),(79,vN),(96,rm)]
attribute [go_sem] Zr
end
noncomputable section
def two(b:Bool):Int:=if b then 2 else 0
def Zq:List (Nat×Spec):=[(75,mo),(76,S76),(77,S77)]
attribute [go_sem] Zq
end
noncomputable section
def Zp:List (Nat×Spec):=[(75,mo),(79,vN)]
attribute [go_sem] Zp
end
def p5{α β γ δ ε:Type}(A:En α)(B:En β)(C:En γ)(D:En δ)(E':En ε)(p:α->β->γ->δ->ε->Prop)(g:α->β->γ->δ->ε->V)(fl:Bool):PSpec:=
 ⟨fun xs=>match xs with | [x,y,z,u,v]=>A.enc (A.dec x)=x/\B.enc (B.dec y)=y/\C.enc (C.dec z)=z/\D.enc (D.dec u)=u/\E'.enc (E'.dec v)=v/\p (A.dec x) (B.dec y) (C.dec z) (D.dec u) (E'.dec v) | _=>False,
  fun xs=>match xs with | [x,y,z,u,v]=>g (A.dec x) (B.dec y) (C.dec z) (D.dec u) (E'.dec v) | _=>.bool false,fl⟩
attribute [go_sem] p5
noncomputable section
def Zo:List (Nat×Spec):=[(108,vO)]
attribute [go_sem] Zo
def Zn:List (Nat×Spec):=[]
attribute [go_sem] Zn
theorem adh(l:List Fol):∀ y∈l.map qQ,y.cells.length=2/\y.okc=true:=by
 intro y hy;obtain⟨x,_,rfl⟩:=List.mem_map.1 hy;exact⟨rfl,rfl⟩
end
noncomputable section
def Zm:List (Nat×Spec):=[(37,DG),(96,rm),(75,mo)]
attribute [go_sem] Zm
def Zl:List (Nat×Spec):=[]
attribute [go_sem] Zl
end
set_option maxHeartbeats 8000000
noncomputable section
def aV(n m:Int):Int:=(n.tmod m+m).tmod m
theorem Ee{n m:Int}(h:0<m): -m<n.tmod m/\n.tmod m<m:=by
 have h1:=Int.tmod_lt_of_pos n h
 have h2:=Int.tmod_lt_of_pos (-n) h
 rw[Int.neg_tmod]at h2
 omega
theorem dR{n m:Int}(h:0<m):0<=aV n m/\aV n m<m:=by
 unfold aV
 have h1:=Ee (n:=n) h
 exact⟨Int.tmod_nonneg _ (by omega),Int.tmod_lt_of_pos _ h⟩
@[go_sem] def P20:PSpec:=p2 iI iI (fun _ m=>0<m/\m<=1000000) (fun n m=>vInt (aV n m)) true
@[go_sem] def Md:Spec:=P20.toSpec
theorem EJ:aT Tryz.prog 20 P20:=by
 refine ev (rs:=[.tmp 4]) Tryz.func20 Tryz.ntmps20 fun n m hp hw=>?_
 simp only[iI]at hw |-
 have hΓ:=@ff Tryz.prog
 have uU:m≠0:=by omega
 have hr:=Ee (n:=n) hp.1
 have uJ:IntKind.i64.wrap (n.tmod m+m)=n.tmod m+m:=wrap_i64 (by omega) (by omega)
 repeat refine sq ?_
 refine rx hΓ [0,1] [] (fun K' hK=>by simp only[go_sem];exact ak) ?_
 repeat refine sq ?_
 refine rx hΓ [4] [] (fun K' hK=>by simp only[go_sem,uU,uJ];exact ak) ?_
 refine av ?_
 simp only[go_sem]
 rfl
def Dj(n i:Int):Bool:=IntKind.i64.wrap ((BitVec.ofInt 64 n&&& BitVec.ofInt 64 (IntKind.i64.wrap (1*2 ^ min i.toNat 64))).toNat:Int) != 0
def eR(n:Int):Nat->List Int
 | 0=>[]
 |m+1=>if Dj n ((m+1:Nat):Int)=true then eR n m++[((m+1:Nat):Int)]else eR n m
theorem Le(n:Int):∀ m,(eR n m).length<=m
 | 0=>Nat.le_refl _
 |m+1=>by
  have :=Le n m
  rw[eR]
  split
  ·rw[List.length_append];simp;omega
  ·omega
def gS(n many:Int):List Int:=if eR n many.toNat=[]then[1]else eR n many.toNat
@[go_sem] def P83:PSpec:=p2 iI iI (fun _ m=>0<=m/\m<=30) (fun n m=>.sl ((gS n m).map vInt)) false
@[go_sem] def XQ:Spec:=P83.toSpec
theorem N2:aT Tryz.prog 83 P83:=by
 refine ev (rs:=[.tmp 4]) Tryz.func83 Tryz.ntmps83 fun n m hp hw=>?_
 simp only[iI]at hw |-
 have hΓ:=@ff Tryz.prog
 obtain⟨nn,rfl⟩:∃ nn:Nat,m=nn:=⟨m.toNat,by omega⟩
 have au:nn+1<=maxLen:=by unfold maxLen;omega
 repeat refine sq ?_
 refine rx hΓ [0,1] [] (fun K' hK=>by simp only[go_sem];exact ak) ?_
 repeat refine sq ?_
 refine rx hΓ [0,1,5] [[20,0]] (fun K' hK=>by simp only[go_sem];exact ak) ?_
 refine dw (zx 5 [20,0] 1 (by simp only[go_sem]) (by simp only[go_sem]) [0,1,5] [[20,0]] ?_ rfl) ?_
 ·simp only[go_sem]
 simp only[go_sem]
 repeat refine sq ?_
 refine rx hΓ [0,1,5,6] [[20,0]] (fun K' hK=>by simp only[go_sem];exact ak) ?_
 repeat refine sq ?_
 refine aS ?_
 repeat refine sq ?_
 refine cM (fun s:Nat=>[(6,⟨true,.v (vInt s)⟩),(5,⟨true,.msl [20,0] (eR n (s-1)).length⟩)]) (fun s=>[([20,0],.arr 1 ((eR n (s-1)).map vInt))]) (fun s=>s<=(nn+1)/\1<=s) (fun s=>(nn+1)-s) 1 ?_ ?_ ?_ ?_
 ·exact⟨by omega,Nat.le_refl 1⟩
 ·rfl
 ·rfl
 rintro i ⟨hi,hR⟩
 have UP:=Le n (i-1)
 simp only[go_sem]
 repeat refine sq ?_
 refine rx hΓ [0,1,5,6,9] [[20,0]] (fun K' hK=>by simp only[go_sem];exact ak) ?_
 repeat refine sq ?_
 refine aB (fun hb=>?_) fun hb=>?_
 ·repeat refine sq ?_
  have ab:i<nn+1:=by
   have :(i:Int)<=nn:=by simpa using hb
   omega
  refine aF ?_
  repeat refine sq ?_
  refine aS ?_
  repeat refine sq ?_
  refine rx hΓ [0,1,5,6,16] [[20,0]] (fun K' hK=>by simp only[go_sem];exact ak) ?_
  repeat refine sq ?_
  refine aB (fun hb=>?_) fun hb=>?_
  ·repeat refine sq ?_
   have eS:eR n (i+1-1)=eR n (i-1)++[(i:Int)]:=by
    obtain⟨m,rfl⟩:∃ m,i=m+1:=⟨i-1,by omega⟩
    rw[Nat.add_sub_cancel,Nat.add_sub_cancel,eR,if_pos (show Dj n ((m+1:Nat):Int)=true from hb)]
   repeat refine sq ?_
   refine bc hΓ fun K' hK=>?_
   simp only[go_sem]
   repeat (refine⟨an,?_⟩)
   refine hK _ ?_
   clear K' hK
   simp only[go_sem]
   refine kp [0,1,5,6] [[20,0]] ?_
   repeat refine sq ?_
   refine bc hΓ fun K' hK=>?_
   simp only[go_sem]
   repeat (refine⟨an,?_⟩)
   refine hK _ ?_
   clear K' hK
   simp only[go_sem]
   refine⟨i+1,⟨ab,?_⟩,by(show (nn+1)-(i+1)<(nn+1)-i;omega),?_⟩
   ·omega
   refine bu [0,1,5,6] [[20,0]] ?_ ?_<;>simp only[go_sem,bn ab au,br,eS,List.map_append,List.length_append,List.map_cons,List.map_nil,List.length_cons,List.length_nil]
  ·repeat refine sq ?_
   have eS:eR n (i+1-1)=eR n (i-1):=by
    obtain⟨m,rfl⟩:∃ m,i=m+1:=⟨i-1,by omega⟩
    rw[Nat.add_sub_cancel,Nat.add_sub_cancel,eR,if_neg (fun h=>by rw[show Dj n ((m+1:Nat):Int)=false from hb]at h;cases h)]
   refine aF ?_
   refine b9 ?_
   simp only[go_sem]
   refine kp [0,1,5,6] [[20,0]] ?_
   repeat refine sq ?_
   refine bc hΓ fun K' hK=>?_
   simp only[go_sem]
   repeat (refine⟨an,?_⟩)
   refine hK _ ?_
   clear K' hK
   simp only[go_sem]
   refine⟨i+1,⟨ab,?_⟩,by(show (nn+1)-(i+1)<(nn+1)-i;omega),?_⟩
   ·omega
   refine bu [0,1,5,6] [[20,0]] ?_ ?_<;>simp only[go_sem,bn ab au,br,eS,List.map_append,List.length_append,List.map_cons,List.map_nil,List.length_cons,List.length_nil]
 ·repeat refine sq ?_
  have bF:i=nn+1:=by
   have :¬ (i:Int)<=nn:=by simpa using hb
   omega
  subst bF
  rw[Nat.add_sub_cancel]at UP
  refine bW ?_
  simp only[go_sem]
  refine kp [5] [[20,0]] ?_
  repeat refine sq ?_
  refine rx hΓ [5,23] [[20,0]] (fun K' hK=>by simp only[go_sem];exact ak) ?_
  repeat refine sq ?_
  refine aB (fun hb=>?_) fun hb=>?_
  ·repeat refine sq ?_
   have hz:eR n nn=[]:=by
    apply List.eq_nil_of_length_eq_zero
    have :((eR n nn).length:Int)=0:=by simpa using hb
    omega
   have e:gS n nn=[1]:=by unfold gS;rw[ai,if_pos hz]
   repeat refine sq ?_
   refine rx hΓ [5] [[20,0]] (fun K' hK=>by simp only[go_sem];exact ak) ?_
   repeat refine sq ?_
   refine rx hΓ [4] [[20,0]] (fun K' hK=>by simp only[go_sem];exact ak) ?_
   refine av ?_
   simp only[go_sem]
   first | (rw[e];done) | (rw[e];rfl) | trace_state
  ·repeat refine sq ?_
   have hz:¬ eR n nn=[]:=by
    intro h
    have h2:(((eR n nn).length:Int)==0)=false:=hb
    rw[h]at h2
    cases h2
   have e:gS n nn=eR n nn:=by unfold gS;rw[ai,if_neg hz]
   refine aF ?_
   repeat refine sq ?_
   refine rx hΓ [4] [[20,0]] (fun K' hK=>by simp only[go_sem];exact ak) ?_
   refine av ?_
   simp only[go_sem]
   first | (rw[e];done) | (rw[e];rfl) | trace_state
end
set_option maxHeartbeats 8000000
noncomputable section
def cO(l:Led)(so k:Int):Int:=di (fun r=>r.so==so&&bJ r.kn r.un k) l.rs
def kN(so k:Int)(r:Rec):Bool:=r.so==so&&bJ r.kn r.un k
theorem OU{l:Led}{so k:Int}{i:Nat}(h:i<l.rs.length)(hp:kN so k l.rs[i]=true)(hn:∀ j (hj:j<l.rs.length),j<i->kN so k l.rs[j]=false):cO l so k=i:=qc h hp hn
theorem OT{l:Led}{so k:Int}(hn:∀ j (hj:j<l.rs.length),j<l.rs.length->kN so k l.rs[j]=false):cO l so k= -1:=by
 unfold cO di
 rw[if_neg]
 intro h
 obtain⟨x,hx,hp⟩:=List.any_eq_true.1 h
 obtain⟨j,hj,rfl⟩:=List.getElem_of_mem hx
 have :=hn j hj hj
 unfold kN at this
 rw[this]at hp
 exact absurd hp (by decide)
def K39:List (Nat×Spec):=[(157,zj)]
theorem Zk:KS K39:=tc zV.sound<|tn
attribute [go_sem] K39
@[go_sem] def P70:PSpec:=p3 iL iI iI (fun l _ _=>l.rs.length<=60) (fun l so k=>vInt (cO l so k)) true
@[go_sem] def zi:Spec:=P70.toSpec
theorem N9:aT Tryz.prog 70 P70:=by
 refine kC (rs:=[.tmp 6]) Tryz.func70 Tryz.ntmps70 fun l so k hp hw=>?_
 simp only[iI,iL,fY]at hw |-
 have hΓ:=Zk
 have hl:l.rs.length<=maxLen:=by unfold maxLen;omega
 repeat refine sq ?_
 refine rx hΓ [1,2,3] [[3,0]] (fun K' hK=>by simp only[go_sem];exact ak) ?_
 repeat refine sq ?_
 refine rx hΓ [1,2,3,7] [[3,0]] (fun K' hK=>by simp only[go_sem];exact ak) ?_
 repeat refine sq ?_
 refine aS ?_
 repeat refine sq ?_
 refine cM (fun s:Nat=>[(7,⟨true,.v (vInt s)⟩)]) (fun s=>[]) (fun s=>s<=l.rs.length/\∀ j (hj:j<l.rs.length),j<s->kN so k l.rs[j]=false) (fun s=>l.rs.length-s) 0 ?_ ?_ ?_ ?_
 ·exact⟨Nat.zero_le _,by simp⟩
 ·rfl
 ·rfl
 rintro i ⟨hi,hR⟩
 simp only[go_sem]
 repeat refine sq ?_
 refine rx hΓ [1,2,3,7,13] [[3,0]] (fun K' hK=>by simp only[go_sem];exact ak) ?_
 repeat refine sq ?_
 refine aB (fun hb=>?_) fun hb=>?_
 ·have ab:i<l.rs.length:=by simpa using hb
  have aq:(i:Int)<l.rs.length:=by omega
  clear hb
  repeat refine sq ?_
  refine aF ?_
  repeat refine sq ?_
  refine aS ?_
  repeat refine sq ?_
  refine rx hΓ [1,2,3,7,8] [[3,0],[8,0]] (fun K' hK=>by simp only[go_sem,ah ab,ai,aj,aq];exact ak) ?_
  repeat refine sq ?_
  refine rx hΓ [1,2,3,7,32] [[3,0]] (fun K' hK=>by simp only[go_sem,ah ab,ai,aj,aq];exact ak) ?_
  repeat refine sq ?_
  refine aB (fun hb=>?_) fun hb=>?_
  ·repeat refine sq ?_
   have e:cO l so k=i:=OU ab (by unfold kN;simpa using hb) (fun j hj eO=>hR j hj eO)
   repeat refine sq ?_
   refine rx hΓ [6] [] (fun K' hK=>by simp only[go_sem,ah ab,ai,aj,aq];exact ak) ?_
   refine av ?_
   simp only[go_sem]
   rw[e]
  ·repeat refine sq ?_
   refine aF ?_
   refine b9 ?_
   simp only[go_sem]
   refine kp [1,2,3,7] [[3,0]] ?_
   repeat refine sq ?_
   refine bc hΓ fun K' hK=>?_
   simp only[go_sem,ah ab,ai,aj,aq]
   repeat (refine⟨an,?_⟩)
   refine hK _ ?_
   clear K' hK
   simp only[go_sem]
   refine⟨i+1,⟨ab,?_⟩,by(show l.rs.length-(i+1)<l.rs.length-i;omega),?_⟩
   ·intro j hj eO
    rcases Nat.lt_succ_iff_lt_or_eq.1 eO with h5 | rfl
    ·exact hR j hj h5
    ·unfold kN;simpa using hb
   refine bu [1,2,3,7] [[3,0]] ?_ ?_<;>simp only[go_sem,bn ab hl,br]
 ·have bF:i=l.rs.length:=by
   have :¬ (i:Int)<l.rs.length:=by simpa using hb
   omega
  clear hb
  subst bF
  repeat refine sq ?_
  refine bW ?_
  simp only[go_sem]
  refine kp [] [] ?_
  repeat refine sq ?_
  refine rx hΓ [6] [] (fun K' hK=>by simp only[go_sem];exact ak) ?_
  refine av ?_
  simp only[go_sem]
  rw[OT hR]
def l'(t:Ret)(r:Rec):Int:=cB t.lo (r.da+1)
def Fe(r:Rec):Prop:=0<=r.da/\r.da<=100000
@[go_sem] def P158:PSpec:=p2 iT iR (fun _ r=>Fe r) (fun t r=>vInt (l' t r)) true
@[go_sem] def DJ:Spec:=P158.toSpec
theorem OF:aT Tryz.prog 158 P158:=by
 refine ev (rs:=[.tmp 4]) Tryz.func158 Tryz.ntmps158 fun t r hp hw=>?_
 simp only[iR,iT,encR,du]at hw |-
 have hΓ:=@ff Tryz.prog
 have fT:=vW hp
 repeat refine sq ?_
 refine rx hΓ [2,3] [[2,0],[3,0]] (fun K' hK=>by simp only[go_sem];exact ak) ?_
 repeat refine sq ?_
 refine rx hΓ [4] [] (fun K' hK=>by simp only[go_sem,fT];exact ak) ?_
 refine av ?_
 simp only[go_sem]
 all_goals exact dM
def Dx(l:Led)(ds:List Int):Int:=if tW l=false then 24 else if ds.all dayB then 0 else 6
def Zj:List (Nat×Spec):=[]
attribute [go_sem] Zj
end
noncomputable section
theorem As{l:Led}(h:bN l){r:Rec}(hr:r∈l.rs):Fe r:=by
 obtain⟨j,hj,rfl⟩:=List.getElem_of_mem hr
 have :=ri h.rs hj
 unfold dQ at this
 simp only[Bool.and_eq_true]at this
 have hd:=this.1.2
 unfold dayB cl at hd
 simp at hd
 exact hd
theorem PK{l:Led}(h:bN l){i:Nat}(hi:i<l.ts.length):l.ts[i].lv.length<=30:=by
 have :=ri h.ts hi
 unfold jo at this
 simp only[Bool.and_eq_true]at this
 exact(p7.1 this.1.1.1.2).2.1
def ay(l:Led)(i:Nat):Rec:=l.rs.getD i zeroR
theorem wv(l:Led)(so k:Int):cO l so k= -1\/∃ j,∃ h:j<l.rs.length,cO l so k=(j:Int)/\kN so k l.rs[j]=true:=by
 unfold cO di
 by_cases h:(l.rs.any fun r=>r.so==so&&bJ r.kn r.un k)=true
 ·rw[if_pos h]
  have ab:l.rs.findIdx (fun r=>r.so==so&&bJ r.kn r.un k)<l.rs.length:=List.findIdx_lt_length_of_exists (by obtain⟨x,hx,hp⟩:=List.any_eq_true.1 h;exact⟨x,hx,hp⟩)
  exact .inr ⟨_,ab,rfl,List.findIdx_getElem (w:=ab)⟩
 ·rw[if_neg h];exact .inl rfl
def ly(l:Led)(row:List Bool)(x:Ret)(f:Int)(j:Nat):Bool:=!(row.getD j false&&(aG l j).re==x.re&&(aG l j).lv.contains f)
def kr(p:Nat->Bool)(j:Nat):Bool:=(List.range j).all p
def mE(l:Led)(row:List Bool)(i:Nat)(r:Rec)(x:Ret)(f:Int):Bool:=r.lv.contains f&&kr (ly l row x f) i
def gh(l:Led)(k:Int)(row:List Bool)(i:Nat):Bool:=
 if cO l (aG l i).re k<0 then false else
   (bJ (aG l i).kn (aG l i).un k&&!decide (l' (aG l i) (ay l (cO l (aG l i).re k).toNat)>(aG l i).hi))&&
     (aG l i).lv.all (mE l row i (ay l (cO l (aG l i).re k).toNat) (aG l i))
def bp(l:Led)(k:Int):Nat->List Bool
 | 0=>List.replicate l.ts.length false
 |s+1=>if gh l k (bp l k s) s=true then(bp l k s).set s true else bp l k s
theorem oA(l:Led)(k:Int)(s:Nat):(bp l k s).length=l.ts.length:=by
 induction s with
 |zero=>simp[bp]
 |succ s ih=>unfold bp;split<;>simp[ih]
theorem wi(l:Led)(k:Int){s j:Nat}(h:s<=j):(bp l k s).getD j false=false:=by
 induction s with
 |zero=>
  simp only[bp,List.getD_eq_getElem?_getD,List.getElem?_replicate]
  split<;>rfl
 |succ s ih=>
  unfold bp
  split
  ·rw[List.getD_eq_getElem?_getD,List.getElem?_set_ne (by omega),<-List.getD_eq_getElem?_getD];exact ih (by omega)
  ·exact ih (by omega)
theorem Ei(l:Led)(k:Int){s:Nat}(h:s<l.ts.length):(bp l k s).set s (gh l k (bp l k s) s)=bp l k (s+1):=by
 rw[bp]
 split
 ·rename_i e;rw[e]
 ·rename_i e
  have e2:gh l k (bp l k s) s=false:=by simpa using e
  have e3:=wi l k (Nat.le_refl s)
  rw[List.getD_eq_getElem?_getD,List.getElem?_eq_getElem (by rw[oA];exact h)]at e3
  have e4:(bp l k s)[s]'(by rw[oA];exact h)=false:=e3
  rw[e2,<-e4]
  exact List.set_getElem_self _
theorem wg(l:Led)(k:Int){s:Nat}(e:gh l k (bp l k s) s=false):bp l k (s+1)=bp l k s:=by
 rw[bp,if_neg (by rw[e];decide)]
theorem Pk(l:Led)(k:Int):List.replicate l.ts.length (V.bool false)=(bp l k 0).map V.bool:=by rw[bp,List.map_replicate]
theorem fA{l:Led}{i:Nat}(h:i<l.rs.length):ay l i=l.rs[i]:=by unfold ay;rw[List.getD_eq_getElem?_getD,List.getElem?_eq_getElem h];rfl
theorem ug{L:List Bool}{j:Nat}{d:V}(h:j<L.length):(L.map V.bool).getD j d=.bool (L.getD j false):=by
 simp[List.getD_eq_getElem?_getD,h]
theorem XA(p:Nat->Bool)(j:Nat):kr p (j+1)=(kr p j&&p j):=by
 unfold kr
 rw[List.range_succ,List.all_append];simp
theorem wV:decide ((-1:Int)<0)=true:=rfl
theorem Nv(row:List Bool)(i:Nat)(b:Bool):(row.map V.bool).set i (.bool b)=(row.set i b).map V.bool:=List.map_set.symm
def K40:List (Nat×Spec):=[(70,zi),(157,zj),(158,DJ),(15,tp)]
theorem Zh:KS K40:=tc N9.sound<|tc zV.sound<|tc OF.sound<|tc zX.sound<|tn
attribute [go_sem] K40
@[go_sem] def P71:PSpec:=p2 iL iI (fun l _=>bN l) (fun l k=>.sl ((bp l k l.ts.length).map .bool)) false
@[go_sem] def DF:Spec:=P71.toSpec
set_option maxHeartbeats 8000000 in
theorem N8:aT Tryz.prog 71 P71:=by
 refine ev (rs:=[.tmp 4]) Tryz.func71 Tryz.ntmps71 fun l k hp hw=>?_
 have hP:=gE
 simp only[iI,iL,fY]at hw |-
 have hΓ:=Zh
 have lQ:=hp.rsn
 have Br:=hp.tsn
 have lV:l.ts.length<=maxLen:=by unfold maxLen;omega
 repeat refine sq ?_
 refine rx hΓ [1,2] [[2,0]] (fun K' hK=>by simp only[go_sem];exact ak) ?_
 repeat refine sq ?_
 refine rx hΓ [1,2,5] [[2,0],[15,0]] (fun K' hK=>by simp only[go_sem,ai,Pk l k];exact ak) ?_
 repeat refine sq ?_
 refine rx hΓ [1,2,5,6] [[2,0],[15,0]] (fun K' hK=>by simp only[go_sem];exact ak) ?_
 repeat refine sq ?_
 refine aS ?_
 repeat refine sq ?_
 refine cM (fun s:Nat=>[(6,⟨true,.v (vInt s)⟩)]) (fun s=>[([15,0],.arr 1 ((bp l k s).map .bool))]) (fun s=>s<=l.ts.length) (fun s=>l.ts.length-s) 0 ?_ ?_ ?_ ?_
 ·exact Nat.zero_le _
 ·rfl
 ·rfl
 rintro i hi
 simp only[go_sem]
 repeat refine sq ?_
 refine rx hΓ [1,2,5,6,20] [[2,0],[15,0]] (fun K' hK=>by simp only[go_sem];exact ak) ?_
 repeat refine sq ?_
 refine aB (fun hb=>?_) fun hb=>?_
 ·have ab:i<l.ts.length:=by simpa using hb
  have aq:(i:Int)<l.ts.length:=by omega
  clear hb
  have oZ:=oA l k i
  generalize Bw:bp l k i=row at oZ
  repeat refine sq ?_
  refine aF ?_
  repeat refine sq ?_
  refine aS ?_
  repeat refine sq ?_
  refine rx hΓ [1,2,5,6,7] [[2,0],[7,0],[15,0]] (fun K' hK=>by simp only[go_sem,ah ab,ai,aj,aq];exact ak) ?_
  repeat refine sq ?_
  refine rx hΓ [1,2,5,6,7,8] [[2,0],[7,0],[15,0]] (fun K' hK=>by simp only[go_sem,ah ab,ai,aj,aq,lQ];exact ak) ?_
  rcases wv l l.ts[i].re k with fU | ⟨j0,cK,fU,hrp⟩
  ·repeat refine sq ?_
   refine dx hΓ hP [[],[0],[0,1],[0,1,2],u4,[0,1,2],[0,1,2,5],[0,1,2],u8,u9,ew,gy,gW,gW,[0,1,2,3,4,5,6,7,8,9,10,11,13],gW,[0,1,2,3,4,5,6,7,8,9,10,11,13,14,15],[0,1,2,3,4,5,6,7,8,9,10,11,13,14,15,16],jN,gW,[0,1,2,3,4,5,6,7,8,9,10,11,19],[0,1,2,3,4,5,6,7,8,9,10,11,19,20],wc,rF] [1,2,5,6,7,8,56] [[2,0],[7,0],[15,0]] (by kernel_rfl) (fun K' hK=>by simp only[go_sem,ah ab,ai,aj,aq,fU,List.length_map];(repeat (refine⟨by first | exact an | exact fun h=>⟨h,As hp (List.getElem_mem cK)⟩ | (cases bJ l.ts[i].kn l.ts[i].un k<;>rfl),?_⟩));exact i7) ?_
   repeat refine sq ?_
   refine aB (fun hb=>?_) fun hb=>?_
   ·repeat refine sq ?_
    have e0:bp l k (i+1)=row:=by
     rw[wg l k (by unfold gh;rw[nk ab,fU];rfl),Bw]
    refine bW ?_
    simp only[go_sem]
    refine kp [1,2,5,6] [[2,0],[15,0]] ?_
    repeat refine sq ?_
    refine bc hΓ fun K' hK=>?_
    simp only[go_sem,ah ab,ai,aj,aq,fU]
    repeat (refine⟨an,?_⟩)
    refine hK _ ?_
    clear K' hK
    simp only[go_sem]
    refine⟨i+1,ab,by(show l.ts.length-(i+1)<l.ts.length-i;omega),?_⟩
    refine bu [1,2,5,6] [[2,0],[15,0]] ?_ ?_<;>simp only[go_sem,bn ab lV,br,e0]
   ·cases hb
  ·have eN:decide ((j0:Int)<0)=false:=by simp
   have B2:(j0:Int)<l.rs.length:=by omega
   repeat refine sq ?_
   refine dx hΓ hP [[],[0],[0,1],[0,1,2],u4,[0,1,2],[0,1,2,5],[0,1,2],u8,u9,ew,gy,gW,gW,[0,1,2,3,4,5,6,7,8,9,10,11,13],gW,[0,1,2,3,4,5,6,7,8,9,10,11,13,14,15],[0,1,2,3,4,5,6,7,8,9,10,11,13,14,15,16],jN,gW,[0,1,2,3,4,5,6,7,8,9,10,11,19],[0,1,2,3,4,5,6,7,8,9,10,11,19,20],wc,rF] [1,2,5,6,7,8,56] [[2,0],[7,0],[15,0]] (by kernel_rfl) (fun K' hK=>by simp only[go_sem,ah ab,ai,aj,aq,fU,ah cK,eN,List.length_map];(repeat (refine⟨by first | exact an | exact fun h=>⟨h,As hp (List.getElem_mem cK)⟩ | (cases bJ l.ts[i].kn l.ts[i].un k<;>rfl),?_⟩));exact i7) ?_
   repeat refine sq ?_
   refine aB (fun hb=>?_) fun hb=>?_
   ·repeat refine sq ?_
    have e0:bp l k (i+1)=row:=by
     rw[wg l k (by unfold gh;rw[nk ab,fU,if_neg (by omega),ai,fA cK];simp only[Bool.and_eq_false_iff];exact .inl (by simpa[Bool.and_eq_false_iff]using hb)),Bw]
    refine bW ?_
    simp only[go_sem]
    refine kp [1,2,5,6] [[2,0],[15,0]] ?_
    repeat refine sq ?_
    refine bc hΓ fun K' hK=>?_
    simp only[go_sem,ah ab,ai,aj,aq,fU,ah cK,eN]
    repeat (refine⟨an,?_⟩)
    refine hK _ ?_
    clear K' hK
    simp only[go_sem]
    refine⟨i+1,ab,by(show l.ts.length-(i+1)<l.ts.length-i;omega),?_⟩
    refine bu [1,2,5,6] [[2,0],[15,0]] ?_ ?_<;>simp only[go_sem,bn ab lV,br,e0]
   ·repeat refine sq ?_
    have Jz:bJ l.ts[i].kn l.ts[i].un k=true:=by cases Ux:bJ l.ts[i].kn l.ts[i].un k with | true=>rfl | false=>rw[Ux]at hb;simp at hb
    have Uk:¬ l' l.ts[i] l.rs[j0]>l.ts[i].hi:=by rw[Jz]at hb;simpa using hb
    have Ta:gh l k row i=l.ts[i].lv.all (mE l row i l.rs[j0] l.ts[i]):=by
     unfold gh
     rw[nk ab,fU,if_neg (by omega),ai,fA cK,Jz,decide_eq_false Uk]
     rfl
    have IH:=PK hp ab
    have S5:l.ts[i].lv.length<=maxLen:=by unfold maxLen;omega
    clear hb
    refine aF ?_
    repeat refine sq ?_
    refine rx hΓ [1,2,5,6,7,8,9] [[2,0],[7,0],[15,0]] (fun K' hK=>by simp only[go_sem,ah ab,ai,aj,aq,fU,ah cK,eN];exact ak) ?_
    repeat refine sq ?_
    refine rx hΓ [1,2,5,6,7,8,9,10] [[2,0],[7,0],[15,0]] (fun K' hK=>by simp only[go_sem,ah ab,ai,aj,aq,fU,ah cK,eN];exact ak) ?_
    repeat refine sq ?_
    refine aS ?_
    repeat refine sq ?_
    refine cM (fun s:Nat=>[(10,⟨true,.v (vInt s)⟩),(9,⟨true,.v (.bool ((l.ts[i].lv.take s).all (mE l row i l.rs[j0] l.ts[i])))⟩)]) (fun s=>[]) (fun s=>s<=l.ts[i].lv.length) (fun s=>l.ts[i].lv.length-s) 0 ?_ ?_ ?_ ?_
    ·exact Nat.zero_le _
    ·rfl
    ·rfl
    rintro i1 hi
    generalize hB:(l.ts[i].lv.take i1).all (mE l row i l.rs[j0] l.ts[i])=B
    simp only[go_sem]
    repeat refine sq ?_
    refine rx hΓ [1,2,5,6,7,8,9,10,61] [[2,0],[7,0],[15,0]] (fun K' hK=>by simp only[go_sem,ah ab,ai,aj,aq,fU,ah cK,eN];exact ak) ?_
    repeat refine sq ?_
    refine aB (fun hb=>?_) fun hb=>?_
    ·have aI:i1<l.ts[i].lv.length:=by simpa using hb
     have bj:(i1:Int)<l.ts[i].lv.length:=by omega
     clear hb
     have hA:(l.ts[i].lv.take (i1+1)).all (mE l row i l.rs[j0] l.ts[i])=(kr (ly l row l.ts[i] l.ts[i].lv[i1]) i&&(B&&l.rs[j0].lv.contains l.ts[i].lv[i1])):=by rw[<-hB,vK aI,mE,<-Bool.and_assoc,Bool.and_comm]
     repeat refine sq ?_
     refine aF ?_
     repeat refine sq ?_
     refine aS ?_
     repeat refine sq ?_
     refine dx hΓ hP [[],[0],[0,1],[0,1,2],[0,1],u5,u6,u7,[0,1],[0,1,8],[0,1],[0,1,8,9,10],[0,1,8,9,10,11],pM,nj,we] [1,2,5,6,7,8,9,10] [[2,0],[7,0],[15,0]] (by kernel_rfl) (fun K' hK=>by simp only[go_sem,ah ab,ai,aj,aq,fU,ah cK,eN,ah aI,ai,aj,bj,ah cK,B2];exact sO) ?_
     repeat refine sq ?_
     refine rx hΓ [1,2,5,6,7,8,9,10,11] [[2,0],[7,0],[15,0]] (fun K' hK=>by simp only[go_sem,ah ab,ai,aj,aq,fU,ah cK,eN,ah aI,ai,aj,bj];exact ak) ?_
     repeat refine sq ?_
     refine aS ?_
     repeat refine sq ?_
     refine cM (fun s:Nat=>[(11,⟨true,.v (vInt s)⟩),(9,⟨true,.v (.bool (kr (ly l row l.ts[i] l.ts[i].lv[i1]) s&&(B&&l.rs[j0].lv.contains l.ts[i].lv[i1])))⟩)]) (fun s=>[]) (fun s=>s<=i) (fun s=>i-s) 0 ?_ ?_ ?_ ?_
     ·exact Nat.zero_le _
     ·rfl
     ·rfl
     rintro j hi
     generalize hC:(kr (ly l row l.ts[i] l.ts[i].lv[i1]) j&&(B&&l.rs[j0].lv.contains l.ts[i].lv[i1]))=C
     simp only[go_sem]
     repeat refine sq ?_
     refine rx hΓ [1,2,5,6,7,8,9,10,11,81] [[2,0],[7,0],[15,0]] (fun K' hK=>by simp only[go_sem,ah ab,ai,aj,aq,fU,ah cK,eN,ah aI,ai,aj,bj];exact ak) ?_
     repeat refine sq ?_
     refine aB (fun hb=>?_) fun hb=>?_
     ·have cT:j<i:=by simpa using hb
      have jz:(j:Int)<i:=by omega
      clear hb
      have BZ:j<l.ts.length:=by omega
      have Jh:j<row.length:=by omega
      have Jg:(j:Int)<l.ts.length:=by omega
      have hT:(kr (ly l row l.ts[i] l.ts[i].lv[i1]) (j+1)&&(B&&l.rs[j0].lv.contains l.ts[i].lv[i1]))=(C&&!((row.getD j false&&l.ts[j].re==l.ts[i].re)&&l.ts[j].lv.contains l.ts[i].lv[i1])):=by
       rw[<-hC,XA,ly,nk BZ,Bool.and_right_comm]
      repeat refine sq ?_
      refine aF ?_
      repeat refine sq ?_
      refine aS ?_
      repeat refine sq ?_
      refine s9 hΓ hP [[],[0],[0,1],[0,1],u4,u5,u6,u7,u8,u7,ew,gy,gW,u7,[0,1,2,3,4,5,6,13],we,u16,rG,jN,oz,jN,tF,wc,rF,jN,[0,1,2,3,4,5,6,7,8,9,10,11,12,13,14,15,16,17,24],jN,[0,1,2,3,4,5,6,7,8,9,10,11,12,13,14,15,16,17,24,25,26],[0,1,2,3,4,5,6,7,8,9,10,11,12,13,14,15,16,17,24,25,26,27],v5,Ea,D9,u32,M0] (by kernel_rfl) fun K' hK=>?_
      simp only[go_sem,ah ab,ai,aj,aq,fU,ah cK,eN,ah aI,ai,aj,bj,ah ab,ah aI,ah cK,B2,ug Jh,ah BZ,Jg,bj,aq,ai,aj,List.length_map,Bool.decide_and,Bool.decide_eq_true]
      repeat (refine⟨an,?_⟩)
      first | refine⟨by rfl,?_⟩ | skip
      refine hK _ ?_
      clear K' hK
      simp only[go_sem]
      refine kp [1,2,5,6,7,8,9,10,11] [[2,0],[7,0],[15,0]] ?_
      repeat refine sq ?_
      refine bc hΓ fun K' hK=>?_
      simp only[go_sem,ah ab,ai,aj,aq,fU,ah cK,eN,ah aI,ai,aj,bj,ah ab,ah aI,ah cK,B2,ug Jh,ah BZ,Jg,bj,aq,ai,aj,List.length_map]
      repeat (refine⟨an,?_⟩)
      refine hK _ ?_
      clear K' hK
      simp only[go_sem]
      refine⟨j+1,cT,by(show i-(j+1)<i-j;omega),?_⟩
      refine bu [1,2,5,6,7,8,9,10,11] [[2,0],[7,0],[15,0]] ?_ ?_<;>simp only[go_sem,bn cT (by omega),br,hT]
     ·have nQ:j=i:=by
       have :¬ (j:Int)<i:=by simpa using hb
       omega
      clear hb
      rw[nQ]at hC
      repeat refine sq ?_
      refine bW ?_
      simp only[go_sem]
      refine kp [1,2,5,6,7,8,9,10] [[2,0],[7,0],[15,0]] ?_
      repeat refine sq ?_
      refine bc hΓ fun K' hK=>?_
      simp only[go_sem,ah ab,ai,aj,aq,fU,ah cK,eN,ah aI,ai,aj,bj]
      repeat (refine⟨an,?_⟩)
      refine hK _ ?_
      clear K' hK
      simp only[go_sem]
      refine⟨i1+1,aI,by(show l.ts[i].lv.length-(i1+1)<l.ts[i].lv.length-i1;omega),?_⟩
      refine bu [1,2,5,6,7,8,9,10] [[2,0],[7,0],[15,0]] ?_ ?_<;>simp only[go_sem,bn aI S5,br,hA,hC]
    ·have iY:i1=l.ts[i].lv.length:=by
      have :¬ (i1:Int)<l.ts[i].lv.length:=by simpa using hb
      omega
     clear hb
     subst iY
     repeat refine sq ?_
     refine bW ?_
     simp only[go_sem]
     refine kp [1,2,5,6,9] [[2,0],[15,0]] ?_
     have e0:bp l k (i+1)=row.set i B:=by
      rw[<-Ei l k ab,Bw,Ta,<-hB,List.take_length]
     repeat refine sq ?_
     refine bc hΓ fun K' hK=>?_
     simp only[go_sem,ah ab,ai,aj,aq,fU,ah cK,eN,Nv]
     repeat (refine⟨an,?_⟩)
     refine hK _ ?_
     clear K' hK
     simp only[go_sem]
     refine kp [1,2,5,6] [[2,0],[15,0]] ?_
     repeat refine sq ?_
     refine bc hΓ fun K' hK=>?_
     simp only[go_sem,ah ab,ai,aj,aq,fU,ah cK,eN]
     repeat (refine⟨an,?_⟩)
     refine hK _ ?_
     clear K' hK
     simp only[go_sem]
     refine⟨i+1,ab,by(show l.ts.length-(i+1)<l.ts.length-i;omega),?_⟩
     refine bu [1,2,5,6] [[2,0],[15,0]] ?_ ?_<;>simp only[go_sem,bn ab lV,br,e0]
 ·have bF:i=l.ts.length:=by
   have :¬ (i:Int)<l.ts.length:=by simpa using hb
   omega
  clear hb
  subst bF
  repeat refine sq ?_
  refine bW ?_
  simp only[go_sem]
  refine kp [5] [[15,0]] ?_
  repeat refine sq ?_
  refine rx hΓ [4] [[15,0]] (fun K' hK=>by simp only[go_sem];exact ak) ?_
  refine av ?_
  simp only[go_sem]
  rw[oA]
end
noncomputable section
structure RV where
 l:Led
 k:Int
 ts:List Bool
 ds:List Rg
 deriving Inhabited
def CP(x:RV):V:=.agg [.sl (x.l.ps.map dv),.sl (x.l.rs.map encR),.sl (x.l.ts.map du),.sl (x.l.ss.map encS),vInt x.k,.sl (x.ts.map .bool),.sl (x.ds.map qN)]
def Kv:V->RV
 | .agg [.sl a,.sl b,.sl c,.sl d,.int _ k,.sl t,.sl g]=>⟨⟨a.map px,b.map jH,c.map kX,d.map iv⟩,k,t.map yu,g.map sW⟩
 |_=>default
theorem VW(r:Rg):sW (qN r)=r:=rfl
@[go_sem] theorem ady(l:List Rg):(l.map qN).map sW=l:=pY VW l
def mF:En RV:=⟨CP,Kv⟩
attribute [go_sem] CP Kv mF qN sW
@[go_sem] theorem adt(x:RV):(⟨x.l,x.k,x.ts,x.ds⟩:RV)=x:=rfl
def iH(x:RV)(so f:Int)(j:Nat):Bool:=(x.ts.getD j false&&(aG x.l j).re==so)&&(aG x.l j).lv.contains f
def jn(x:RV)(i:Nat)(f:Int):Int:=if (List.range x.ts.length).any (iH x (ay x.l i).so f)=true then((List.range x.ts.length).findIdx (iH x (ay x.l i).so f):Int)else -1
theorem E0{x:RV}{i:Nat}{f:Int}{j:Nat}(h:j<x.ts.length)(hp:iH x (ay x.l i).so f j=true)(hn:∀ m,m<x.ts.length->m<j->iH x (ay x.l i).so f m=false):jn x i f=j:=by
 have :=qc (p:=iH x (ay x.l i).so f) (l:=List.range x.ts.length) (i:=j) (by simpa using h) (by simpa using hp) (fun m hm j7=>by simpa using hn m (by simpa using hm) j7)
 exact this
theorem EZ{x:RV}{i:Nat}{f:Int}(hn:∀ m,m<x.ts.length->m<x.ts.length->iH x (ay x.l i).so f m=false):jn x i f= -1:=by
 unfold jn
 rw[if_neg]
 intro h
 obtain⟨m,hm,hp⟩:=List.any_eq_true.1 h
 have ig:m<x.ts.length:=by simpa using hm
 rw[hn m ig ig]at hp
 exact absurd hp (by decide)
def K41:List (Nat×Spec):=[(15,tp)]
theorem Zg:KS K41:=tc zX.sound<|tn
attribute [go_sem] K41
@[go_sem] def P103:PSpec:=p3 mF iI iI (fun x a _=>(bN x.l/\x.ts.length=x.l.ts.length)/\0<=a/\a<x.l.rs.length) (fun x a f=>vInt (jn x a.toNat f)) true
@[go_sem] def vP:Spec:=P103.toSpec
set_option maxHeartbeats 8000000 in
theorem OR:aT Tryz.prog 103 P103:=by
 refine kC (rs:=[.tmp 6]) Tryz.func103 Tryz.ntmps103 fun x a f hp hw=>?_
 have hP:=gE
 simp only[iI,mF]at hw |-
 have hΓ:=Zg
 obtain⟨⟨aa,uM⟩,UL,sL⟩:=hp
 have Br:=aa.tsn
 have hl:x.ts.length<=maxLen:=by unfold maxLen;omega
 obtain⟨n,rfl⟩:∃ n:Nat,a=n:=⟨a.toNat,by omega⟩
 have hn:n<x.l.rs.length:=by omega
 rw[ai]
 repeat refine sq ?_
 refine rx hΓ [1,2,3] [[3,0]] (fun K' hK=>by simp only[go_sem];exact ak) ?_
 repeat refine sq ?_
 refine rx hΓ [1,2,3,7] [[3,0]] (fun K' hK=>by simp only[go_sem];exact ak) ?_
 repeat refine sq ?_
 refine aS ?_
 repeat refine sq ?_
 refine cM (fun s:Nat=>[(7,⟨true,.v (vInt s)⟩)]) (fun s=>[]) (fun s=>s<=x.ts.length/\∀ m,m<x.ts.length->m<s->iH x (ay x.l n).so f m=false) (fun s=>x.ts.length-s) 0 ?_ ?_ ?_ ?_
 ·exact⟨Nat.zero_le _,fun m _ h=>by omega⟩
 ·rfl
 ·rfl
 rintro i ⟨hi,hR⟩
 simp only[go_sem]
 repeat refine sq ?_
 refine rx hΓ [1,2,3,7,12] [[3,0]] (fun K' hK=>by simp only[go_sem];exact ak) ?_
 repeat refine sq ?_
 refine aB (fun hb=>?_) fun hb=>?_
 ·have ab:i<x.ts.length:=by simpa using hb
  have aq:(i:Int)<x.ts.length:=by omega
  clear hb
  have uV:i<x.l.ts.length:=by omega
  have BS:(i:Int)<x.l.ts.length:=by omega
  have qv:(n:Int)<x.l.rs.length:=by omega
  repeat refine sq ?_
  refine aF ?_
  repeat refine sq ?_
  refine aS ?_
  repeat refine sq ?_
  refine dx hΓ hP [[],[0],[],[0,1,2],u4,u5,u6,u7,u8,u6,ew,gy,gW,u6,[0,1,2,3,4,5,13],[0,1,2,3,4,5,13,14],u6,[0,1,2,3,4,5,13,14,15,16],[0,1,2,3,4,5,13,14,15,16,17],[0,1,2,3,4,5,13,14,15,16,17,18],pL,tF,wc,rF,Eb,v8,rF,M1,v7,v5,rF,D9,u32] [1,2,3,7,47] [[3,0]] (by kernel_rfl) (fun K' hK=>by simp only[go_sem,ug ab,ah hn,ah uV,qv,BS,ai,aj,aq,List.length_map];exact sO) ?_
  repeat refine sq ?_
  refine aB (fun hb=>?_) fun hb=>?_
  ·repeat refine sq ?_
   have e:jn x n f=i:=E0 ab (by unfold iH;rw[nk uV,fA hn];simpa using hb) hR
   repeat refine sq ?_
   refine rx hΓ [6] [] (fun K' hK=>by simp only[go_sem,ug ab,ah hn,ah uV,qv,BS,ai,aj,aq,List.length_map];exact ak) ?_
   refine av ?_
   simp only[go_sem]
   rw[e]
  ·repeat refine sq ?_
   refine aF ?_
   refine b9 ?_
   simp only[go_sem]
   refine kp [1,2,3,7] [[3,0]] ?_
   repeat refine sq ?_
   refine bc hΓ fun K' hK=>?_
   simp only[go_sem,ug ab,ah hn,ah uV,qv,BS,ai,aj,aq,List.length_map]
   repeat (refine⟨an,?_⟩)
   refine hK _ ?_
   clear K' hK
   simp only[go_sem]
   refine⟨i+1,⟨ab,?_⟩,by(show x.ts.length-(i+1)<x.ts.length-i;omega),?_⟩
   ·intro m hm Ty
    rcases Nat.lt_succ_iff_lt_or_eq.1 Ty with h5 | rfl
    ·exact hR m hm h5
    ·unfold iH;rw[nk uV,fA hn];simpa using hb
   refine bu [1,2,3,7] [[3,0]] ?_ ?_<;>simp only[go_sem,bn ab hl,br]
 ·have bF:i=x.ts.length:=by
   have :¬ (i:Int)<x.ts.length:=by simpa using hb
   omega
  clear hb
  subst bF
  repeat refine sq ?_
  refine bW ?_
  simp only[go_sem]
  refine kp [] [] ?_
  repeat refine sq ?_
  refine rx hΓ [6] [] (fun K' hK=>by simp only[go_sem];exact ak) ?_
  refine av ?_
  simp only[go_sem]
  rw[EZ hR]
end
set_option maxHeartbeats 8000000
noncomputable section
def gC(k:Int)(f:Fol)(r:Rec):Bool:=(bJ r.kn r.un k&&r.pa==f.pa)&&r.lv.contains f.le
def K42:List (Nat×Spec):=[(157,zj),(15,tp)]
theorem Zf:KS K42:=tc zV.sound<|tc zX.sound<|tn
attribute [go_sem] K42
@[go_sem] def P188:PSpec:=p3 mF iI mG (fun x a _=>0<=a/\a<x.l.rs.length) (fun x a f=>.bool (gC x.k f (ay x.l a.toNat))) true
@[go_sem] def DH:Spec:=P188.toSpec
theorem Oo:aT Tryz.prog 188 P188:=by
 refine kC (rs:=[.tmp 6]) Tryz.func188 Tryz.ntmps188 fun x a f hp hw=>?_
 simp only[mG,iI,mF,qQ]at hw |-
 have hΓ:=Zf
 obtain⟨UL,sL⟩:=hp
 obtain⟨n,rfl⟩:∃ n:Nat,a=n:=⟨a.toNat,by omega⟩
 have hn:n<x.l.rs.length:=by omega
 rw[ai,fA hn]
 repeat refine sq ?_
 refine rx hΓ [1,3,5] [[3,0],[5,0]] (fun K' hK=>by simp only[go_sem];exact ak) ?_
 repeat refine sq ?_
 refine rx hΓ [3,5,7] [[3,0],[5,0],[7,0]] (fun K' hK=>by simp only[go_sem,ah hn,ai,aj,sL,List.length_map];exact ak) ?_
 repeat refine sq ?_
 refine rx hΓ [6] [] (fun K' hK=>by simp only[go_sem,Bool.decide_and,Bool.decide_eq_true];exact ak) ?_
 refine av ?_
 simp only[go_sem]
 rfl
def gI(x:RV)(f:Fol)(day:Int):Nat->Int
 | 0=> -1
 |s+1=>if ((gC x.k f (ay x.l s)&&decide ((ay x.l s).da<=day))&&(decide (gI x f day s<0)||decide ((ay x.l s).da>(ay x.l (gI x f day s).toNat).da)))=true then(s:Int)else gI x f day s
theorem GA(x:RV)(f:Fol)(day:Int)(s:Nat):gI x f day s= -1\/∃ j,j<s/\gI x f day s=(j:Int):=by
 induction s with
 |zero=>exact .inl rfl
 |succ s ih=>
  unfold gI
  split
  ·exact .inr ⟨s,by omega,rfl⟩
  ·rcases ih with h | ⟨j,hj,h⟩
   ·exact .inl h
   ·exact .inr ⟨j,by omega,h⟩
def p8(x:RV)(f:Fol)(day:Int):Int:=gI x f day x.l.rs.length
def K42b:List (Nat×Spec):=[(188,DH)]
theorem Ze:KS K42b:=tc Oo.sound<|tn
attribute [go_sem] K42b
@[go_sem] def P159:PSpec:=p3 mF mG iI (fun x _ _=>bN x.l) (fun x f day=>vInt (p8 x f day)) true
@[go_sem] def DI:Spec:=P159.toSpec
theorem OE:aT Tryz.prog 159 P159:=by
 refine kC (rs:=[.tmp 6]) Tryz.func159 Tryz.ntmps159 fun x f day hp hw=>?_
 simp only[mG,iI,mF,qQ]at hw |-
 have hΓ:=Ze
 have lQ:=hp.rsn
 have hl:x.l.rs.length<=maxLen:=by unfold maxLen;omega
 repeat refine sq ?_
 refine rx hΓ [2,3,4] [[3,0],[4,0]] (fun K' hK=>by simp only[go_sem];exact ak) ?_
 repeat refine sq ?_
 refine rx hΓ [2,3,4,7] [[3,0],[4,0]] (fun K' hK=>by simp only[go_sem];exact ak) ?_
 repeat refine sq ?_
 refine rx hΓ [2,3,4,7,8] [[3,0],[4,0]] (fun K' hK=>by simp only[go_sem];exact ak) ?_
 repeat refine sq ?_
 refine aS ?_
 repeat refine sq ?_
 refine cM (fun s:Nat=>[(8,⟨true,.v (vInt s)⟩),(7,⟨true,.v (vInt (gI x f day s))⟩)]) (fun s=>[]) (fun s=>s<=x.l.rs.length) (fun s=>x.l.rs.length-s) 0 ?_ ?_ ?_ ?_
 ·exact Nat.zero_le _
 ·rfl
 ·rfl
 rintro i hi
 generalize hL:gI x f day i=L
 simp only[go_sem]
 repeat refine sq ?_
 refine rx hΓ [2,3,4,7,8,15] [[3,0],[4,0]] (fun K' hK=>by simp only[go_sem];exact ak) ?_
 repeat refine sq ?_
 refine aB (fun hb=>?_) fun hb=>?_
 ·have ab:i<x.l.rs.length:=by simpa using hb
  have aq:(i:Int)<x.l.rs.length:=by omega
  clear hb
  have hc:=GA x f day i
  rw[hL]at hc
  have kV:=fA ab
  have j6:cB (-1) 0=0:=rfl
  have ya:0<x.l.rs.length:=by omega
  have x9:(0:Int)<x.l.rs.length:=by omega
  repeat refine sq ?_
  refine aF ?_
  repeat refine sq ?_
  refine aS ?_
  repeat refine sq ?_
  refine rx hΓ [2,3,4,7,8,9] [[3,0],[4,0]] (fun K' hK=>by simp only[go_sem,ah ab,ai,aj,aq];exact ak) ?_
  rcases hc with hc | ⟨j,hj,hc⟩
  ·subst hc
   repeat refine sq ?_
   refine rx hΓ [2,3,4,7,8,49] [[3,0],[4,0]] (fun K' hK=>by simp only[go_sem,ah ab,ai,aj,aq,j6,ah ya,x9,ai,wV,kV,Bool.decide_and,Bool.decide_eq_true];exact ak) ?_
   repeat refine sq ?_
   refine aB (fun hb=>?_) fun hb=>?_
   ·repeat refine sq ?_
    have eL:gI x f day (i+1)=(i:Int):=by
     rw[gI,hL,kV,if_pos (by simpa using hb)]
    repeat refine sq ?_
    refine bc hΓ fun K' hK=>?_
    simp only[go_sem,ah ab,ai,aj,aq,j6,ah ya,x9,ai,wV,kV]
    repeat (refine⟨an,?_⟩)
    refine hK _ ?_
    clear K' hK
    simp only[go_sem]
    refine kp [2,3,4,7,8] [[3,0],[4,0]] ?_
    repeat refine sq ?_
    refine bc hΓ fun K' hK=>?_
    simp only[go_sem,ah ab,ai,aj,aq,j6,ah ya,x9,ai,wV,kV]
    repeat (refine⟨an,?_⟩)
    refine hK _ ?_
    clear K' hK
    simp only[go_sem]
    refine⟨i+1,ab,by(show x.l.rs.length-(i+1)<x.l.rs.length-i;omega),?_⟩
    refine bu [2,3,4,7,8] [[3,0],[4,0]] ?_ ?_<;>simp only[go_sem,bn ab hl,br,eL]
   ·repeat refine sq ?_
    have eL:gI x f day (i+1)= -1:=by
     rw[gI,hL,kV,if_neg (by simpa using hb)]
    refine aF ?_
    refine b9 ?_
    simp only[go_sem]
    refine kp [2,3,4,7,8] [[3,0],[4,0]] ?_
    repeat refine sq ?_
    refine bc hΓ fun K' hK=>?_
    simp only[go_sem,ah ab,ai,aj,aq,j6,ah ya,x9,ai,wV,kV]
    repeat (refine⟨an,?_⟩)
    refine hK _ ?_
    clear K' hK
    simp only[go_sem]
    refine⟨i+1,ab,by(show x.l.rs.length-(i+1)<x.l.rs.length-i;omega),?_⟩
    refine bu [2,3,4,7,8] [[3,0],[4,0]] ?_ ?_<;>simp only[go_sem,bn ab hl,br,eL]
  ·subst hc
   have eN:decide ((j:Int)<0)=false:=by simp
   have j7:(if (0:Int)>(j:Int)then(0:Int)else(j:Int))=j:=if_neg (by omega)
   have lX:j<x.l.rs.length:=by omega
   have xK:(j:Int)<x.l.rs.length:=by omega
   repeat refine sq ?_
   refine rx hΓ [2,3,4,7,8,49] [[3,0],[4,0]] (fun K' hK=>by simp only[go_sem,ah ab,ai,aj,aq,j7,eN,ah lX,xK,kV,Bool.decide_and,Bool.decide_eq_true];exact ak) ?_
   repeat refine sq ?_
   refine aB (fun hb=>?_) fun hb=>?_
   ·repeat refine sq ?_
    have eL:gI x f day (i+1)=(i:Int):=by
     rw[gI,hL,kV,ai,fA lX,eN,Bool.false_or,if_pos (by simpa using hb)]
    repeat refine sq ?_
    refine bc hΓ fun K' hK=>?_
    simp only[go_sem,ah ab,ai,aj,aq,j7,eN,ah lX,xK,kV]
    repeat (refine⟨an,?_⟩)
    refine hK _ ?_
    clear K' hK
    simp only[go_sem]
    refine kp [2,3,4,7,8] [[3,0],[4,0]] ?_
    repeat refine sq ?_
    refine bc hΓ fun K' hK=>?_
    simp only[go_sem,ah ab,ai,aj,aq,j7,eN,ah lX,xK,kV]
    repeat (refine⟨an,?_⟩)
    refine hK _ ?_
    clear K' hK
    simp only[go_sem]
    refine⟨i+1,ab,by(show x.l.rs.length-(i+1)<x.l.rs.length-i;omega),?_⟩
    refine bu [2,3,4,7,8] [[3,0],[4,0]] ?_ ?_<;>simp only[go_sem,bn ab hl,br,eL]
   ·repeat refine sq ?_
    have eL:gI x f day (i+1)=(j:Int):=by
     rw[gI,hL,kV,ai,fA lX,eN,Bool.false_or,if_neg (by simpa using hb)]
    refine aF ?_
    refine b9 ?_
    simp only[go_sem]
    refine kp [2,3,4,7,8] [[3,0],[4,0]] ?_
    repeat refine sq ?_
    refine bc hΓ fun K' hK=>?_
    simp only[go_sem,ah ab,ai,aj,aq,j7,eN,ah lX,xK,kV]
    repeat (refine⟨an,?_⟩)
    refine hK _ ?_
    clear K' hK
    simp only[go_sem]
    refine⟨i+1,ab,by(show x.l.rs.length-(i+1)<x.l.rs.length-i;omega),?_⟩
    refine bu [2,3,4,7,8] [[3,0],[4,0]] ?_ ?_<;>simp only[go_sem,bn ab hl,br,eL]
 ·have bF:i=x.l.rs.length:=by
   have :¬ (i:Int)<x.l.rs.length:=by simpa using hb
   omega
  clear hb
  subst bF
  repeat refine sq ?_
  refine bW ?_
  simp only[go_sem]
  refine kp [7] [] ?_
  repeat refine sq ?_
  refine rx hΓ [6] [] (fun K' hK=>by simp only[go_sem];exact ak) ?_
  refine av ?_
  simp only[go_sem]
  rw[<-hL];rfl
def Zd:List (Nat×Spec):=[(157,zj)]
attribute [go_sem] Zd
end
noncomputable section
def ue(x:RV)(r:Rec)(lv:List Int)(i:Nat)(j:Nat):Bool:=decide ((ay x.l i).da>r.da)&&gC x.k ⟨r.pa,lv.getD j 0⟩ (ay x.l i)
def vB(x:RV)(r:Rec)(lv:List Int)(i:Nat)(hi:Int):Nat->Int
 | 0=>hi
 |j+1=>if ue x r lv i j=true then fE (vB x r lv i hi j) (ay x.l i).da else vB x r lv i hi j
def ra(x:RV)(r:Rec)(t:Ret):Nat->Int
 | 0=>t.hi
 |i+1=>vB x r t.lv i (ra x r t i) t.lv.length
def Df(x:RV)(i:Nat):Rg:=if x.ts.getD i false=true then⟨l' (aG x.l i) (ay x.l (cO x.l (aG x.l i).re x.k).toNat),ra x (ay x.l (cO x.l (aG x.l i).re x.k).toNat) (aG x.l i) x.l.rs.length⟩else⟨0,100000⟩
def DN(x:RV):Prop:=bN x.l/\x.ts.length=x.l.ts.length/\∀ i,x.ts.getD i false=true->¬ cO x.l (aG x.l i).re x.k<0
def Zc:List (Nat×Spec):=[(70,zi),(158,DJ),(188,DH)]
attribute [go_sem] Zc
end
noncomputable section
theorem QV(x:RV)(f:Fol)(day:Int):p8 x f day= -1\/∃ j,j<x.l.rs.length/\p8 x f day=(j:Int):=GA x f day _
theorem Pc(x:RV)(i:Nat)(f:Int):jn x i f= -1\/∃ j,j<x.ts.length/\jn x i f=(j:Int):=by
 unfold jn
 by_cases h:(List.range x.ts.length).any (iH x (ay x.l i).so f)=true
 ·rw[if_pos h]
  have ab:(List.range x.ts.length).findIdx (iH x (ay x.l i).so f)<(List.range x.ts.length).length:=List.findIdx_lt_length_of_exists (by obtain⟨y,hy,hp⟩:=List.any_eq_true.1 h;exact⟨y,hy,hp⟩)
  exact .inr ⟨_,by simpa using ab,rfl⟩
 ·rw[if_neg h];exact .inl rfl
theorem P5(a b:Int):cB a b=if b>a then b else a:=rfl
def Zb:List (Nat×Spec):=[(159,DI),(103,vP)]
attribute [go_sem] Zb
end
noncomputable section
def Za:List (Nat×Spec):=[]
attribute [go_sem] Za
end
noncomputable section
def bV(l:Led)(k:Int):RV:=⟨l,k,bp l k l.ts.length,[]⟩
def Y':List (Nat×Spec):=[(71,DF)]
attribute [go_sem] Y'
@[go_sem] def Yk:PSpec:=p2 iL iI (fun l _=>bN l) (fun l k=>CP (bV l k)) false
@[go_sem] def zh:Spec:=Yk.toSpec
end
noncomputable section
def vx(x:RV)(a b:Nat)(f:Int):Bool:=(gC x.k ⟨(ay x.l a).pa,f⟩ (ay x.l a)&&gC x.k ⟨(ay x.l a).pa,f⟩ (ay x.l b))&&
 (((ay x.l a).da==(ay x.l b).da||decide (jn x a f<0))||decide (l' (aG x.l (jn x a f).toNat) (ay x.l a)>(ay x.l b).da))
def ki(x:RV)(a b:Nat):Bool:=(ay x.l a).lv.any (vx x a b)
def gQ(x:RV)(a b:Nat):Bool:=if (ay x.l a).da>(ay x.l b).da then ki x b a else ki x a b
def Y9:List (Nat×Spec):=[(188,DH),(103,vP),(158,DJ)]
attribute [go_sem] Y9
def Mr:PSpec:=p3 mF iI iI (fun x a b=>DN x/\(0<=a/\a<x.l.rs.length/\0<=b/\b<x.l.rs.length)/\¬ (ay x.l a.toNat).da>(ay x.l b.toNat).da) (fun x a b=>.bool (ki x a.toNat b.toNat)) true
end
noncomputable section
def Ya:Spec:=Mr.toSpec
attribute [go_sem] Mr Ya
def Y8:List (Nat×Spec):=[]
attribute [go_sem] Y8
theorem aT.or{P:Program}{f:FuncId}{s s1 s2:PSpec}(h1:aT P f s1)(h2:aT P f s2)(hs:s.flat=true->s1.flat=true/\s2.flat=true)
 (hc:∀ xs,s.pre xs->(s1.pre xs/\s1.fn xs=s.fn xs)\/(s2.pre xs/\s2.fn xs=s.fn xs)):aT P f s where
 ne:=h1.ne
 enter:=h1.enter
 flat:=fun hf xs hp=>by
  rcases hc xs hp with⟨a,e⟩ | ⟨a,e⟩
  ·rw[<-e];exact h1.flat (hs hf).1 xs a
  ·rw[<-e];exact h2.flat (hs hf).2 xs a
 calls:=fun m w xs args ha hr hp=>by
  rcases hc xs hp with⟨a,e⟩ | ⟨a,e⟩
  ·rw[<-e];exact h1.calls m w xs args ha hr a
  ·rw[<-e];exact h2.calls m w xs args ha hr a
end
noncomputable section
def Y7:List (Nat×Spec):=[(159,DI),(103,vP)]
attribute [go_sem] Y7
end
noncomputable section
def sZ(x:RV)(i:Nat):Option (Int×Int):=((List.range x.l.rs.length).find? fun j=>decide (i<j)&&gQ x i j).map fun j=>((ay x.l i).so,(ay x.l j).so)
def jI(x:RV):Option (Int×Int):=(List.range x.l.rs.length).findSome? (sZ x)
theorem KI{x:RV}{i:Nat}(h:∀ j,i<j->j<x.l.rs.length->gQ x i j=false):sZ x i=none:=by
 unfold sZ
 rw[List.find?_eq_none.2]
 ·rfl
 ·intro j hj
  have fK:j<x.l.rs.length:=by simpa using hj
  by_cases bL:i<j
  ·rw[h j bL fK];simp
  ·simp[bL]
theorem V8{x:RV}{i j:Nat}(bL:i<j)(hj:j<x.l.rs.length)(h:gQ x i j=true)(hn:∀ m,i<m->m<j->gQ x i m=false):sZ x i=some ((ay x.l i).so,(ay x.l j).so):=by
 unfold sZ
 rw[(List.find?_eq_some_iff_getElem (b:=j)).2 ⟨by simp[bL,h],j,by simpa using hj,by simp,fun m hm=>by
  rw[List.getElem_range]
  by_cases Jl:i<m
  ·simp[hn m Jl hm]
  ·simp[Jl]⟩]
 rfl
theorem V6{x:RV}{i j:Nat}(hi:i<x.l.rs.length)(bL:i<j)(hj:j<x.l.rs.length)(h:gQ x i j=true)(hn:∀ m,i<m->m<j->gQ x i m=false)
 (hb:∀ a,a<i->∀ m,a<m->m<x.l.rs.length->gQ x a m=false):jI x=some ((ay x.l i).so,(ay x.l j).so):=by
 unfold jI
 rw[List.findSome?_eq_some_iff]
 refine⟨List.range i,i,(List.range' (i+1) (x.l.rs.length-(i+1))),?_,V8 bL hj h hn,fun a ha=>KI fun m h1 h2=>hb a (by simpa using ha) m h1 h2⟩
 rw[List.range_eq_range',List.range_eq_range',<-List.range'_succ]
 have h1:=List.range'_append_1 (s:=0) (m:=i) (n:=x.l.rs.length-(i+1)+1)
 rw[Nat.zero_add]at h1
 rw[h1]
 congr 1
 omega
theorem KG{x:RV}(hb:∀ a,a<x.l.rs.length->∀ m,a<m->m<x.l.rs.length->gQ x a m=false):jI x=none:=by
 unfold jI
 rw[List.findSome?_eq_none_iff]
 exact fun a ha=>KI fun m h1 h2=>hb a (by simpa using ha) m h1 h2
def Y6:List (Nat×Spec):=[]
attribute [go_sem] Y6
end
noncomputable section
theorem tG(l:Led)(k:Int){s i:Nat}(h:(bp l k s).getD i false=true):i<s/\gh l k (bp l k i) i=true:=by
 induction s with
 |zero=>rw[wi l k (Nat.zero_le i)]at h;cases h
 |succ s ih=>
  by_cases hi:i<s
  ·have e:(bp l k (s+1)).getD i false=(bp l k s).getD i false:=by
     rw[bp]
     split
     ·rw[List.getD_eq_getElem?_getD,List.getElem?_set_ne (by omega),<-List.getD_eq_getElem?_getD]
     ·rfl
   rw[e]at h
   exact⟨by omega,(ih h).2⟩
  ·by_cases hs:i=s
   ·subst hs
    refine⟨by omega,?_⟩
    cases hb:gh l k (bp l k i) i with
    |true=>rfl
    |false=>rw[wg l k hb,wi l k (Nat.le_refl i)]at h;cases h
   ·rw[wi l k (by omega)]at h;cases h
theorem Ek{l:Led}{k:Int}{row:List Bool}{i:Nat}(h:gh l k row i=true):¬ cO l (aG l i).re k<0:=by
 unfold gh at h
 split at h
 ·cases h
 ·assumption
theorem OV{l:Led}(h:bN l)(k:Int):DN (bV l k):=⟨h,oA _ _ _,fun _ hi=>Ek (tG l k hi).2⟩
def Y5:List (Nat×Spec):=[(73,zh)]
attribute [go_sem] Y5
end
noncomputable section
structure Ask where
 (da kn pa le pe so:Int)
 deriving Inhabited
def Ks(x:Ask):V:=.agg [vInt x.da,vInt x.kn,vInt x.pa,vInt x.le,vInt x.pe,vInt x.so]
def KB:V->Ask
 | .agg [.int _ a,.int _ b,.int _ c,.int _ d,.int _ e,.int _ f]=>⟨a,b,c,d,e,f⟩
 |_=>default
def SM:En Ask:=⟨Ks,KB⟩
attribute [go_sem] Ks KB SM
@[go_sem] theorem adx(x:Ask):(⟨x.da,x.kn,x.pa,x.le,x.pe,x.so⟩:Ask)=x:=rfl
def Y4:List (Nat×Spec):=[]
attribute [go_sem] Y4
end
noncomputable section
def YV:List (Nat×Spec):=[]
attribute [go_sem] YV
def YU:List (Nat×Spec):=[]
attribute [go_sem] YU
def jh(x:RV)(f:Fol)(az:List Int)(day:Int):Int:=
 if p8 x f day<0 then 0 else
 if(decide (jn x (p8 x f day).toNat f.le>=0)&&decide (az.getD (jn x (p8 x f day).toNat f.le).toNat 0<=day))=true then 0 else(ay x.l (p8 x f day).toNat).bo
def K62c:List (Nat×Spec):=[(159,DI),(103,vP)]
theorem YT:KS K62c:=tc OE.sound<|tc OR.sound<|tn
attribute [go_sem] K62c
@[go_sem] def P74:PSpec:=p4 mF mG ef iI (fun x _ az _=>DN x/\az.length=x.ts.length) (fun x f az day=>vInt (jh x f az day)) true
@[go_sem] def Mb:Spec:=P74.toSpec
set_option maxHeartbeats 8000000 in
theorem N4:aT Tryz.prog 74 P74:=by
 refine tw (rs:=[.tmp 8]) Tryz.func74 Tryz.ntmps74 fun x f az day hp hw=>?_
 simp only[mG,iI,ef,mF,qQ]at hw |-
 have hΓ:=YT
 obtain⟨⟨aa,uM,-⟩,ph⟩:=hp
 repeat refine sq ?_
 refine rx hΓ [2,3,4,5] [[4,0],[5,0]] (fun K' hK=>by simp only[go_sem];exact ak) ?_
 rcases QV x f day with gL | ⟨q,hq,gL⟩
 ·repeat refine sq ?_
  refine rx hΓ [2,3,4,5,9] [[4,0],[5,0]] (fun K' hK=>by simp only[go_sem,gL,kU];(repeat (refine⟨by first | exact an | exact aa,?_⟩));exact dN) ?_
  repeat refine sq ?_
  refine rx hΓ [2,3,4,5,9,16] [[4,0],[5,0]] (fun K' hK=>by simp only[go_sem,gL,kU];exact ak) ?_
  repeat refine sq ?_
  refine aB (fun hb=>?_) fun hb=>?_
  ·repeat refine sq ?_
   have e:jh x f az day=0:=by unfold jh;rw[gL];rfl
   repeat refine sq ?_
   refine rx hΓ [8] [] (fun K' hK=>by simp only[go_sem,gL,kU];exact ak) ?_
   refine av ?_
   simp only[go_sem]
   rw[e]
  ·cases hb
 ·have bZ:(q:Int)<x.l.rs.length:=by omega
  have CM:=fA hq
  repeat refine sq ?_
  refine rx hΓ [2,3,4,5,9] [[4,0],[5,0]] (fun K' hK=>by simp only[go_sem,gL,kU];(repeat (refine⟨by first | exact an | exact aa,?_⟩));exact dN) ?_
  repeat refine sq ?_
  refine rx hΓ [2,3,4,5,9,16] [[4,0],[5,0]] (fun K' hK=>by simp only[go_sem,gL,kU];exact ak) ?_
  repeat refine sq ?_
  refine aB (fun hb=>?_) fun hb=>?_
  ·cases hb
  ·repeat refine sq ?_
   refine aF ?_
   rcases Pc x q f.le with lR | ⟨j,hj,lR⟩
   ·have va:decide ((-1:Int)>=0)=false:=rfl
    have fK:=va
    have j7:=va
    repeat refine sq ?_
    refine rx hΓ [2,3,4,9,10] [[4,0]] (fun K' hK=>by simp only[go_sem,gL,kU,lR,ah hq,bZ,ai,aj,List.length_map,ah hq,bZ,ai,aj,List.length_map];(repeat (refine⟨by first | exact an | exact⟨⟨aa,uM⟩,bZ⟩,?_⟩));exact dN) ?_
    repeat refine sq ?_
    refine rx hΓ [4,9,32] [[4,0]] (fun K' hK=>by simp only[go_sem,gL,kU,lR,ah hq,bZ,ai,aj,List.length_map,j7,va,fK,ai,aj,List.length_map,decide_true,Bool.true_and,Bool.decide_and,Bool.decide_eq_true,true_and];exact ak) ?_
    repeat refine sq ?_
    refine aB (fun hb=>?_) fun hb=>?_
    ·cases hb
    ·repeat refine sq ?_
     have e:jh x f az day=x.l.rs[q].bo:=by unfold jh;rw[gL,if_neg (by omega),ai,lR,CM];rfl
     refine aF ?_
     repeat refine sq ?_
     refine rx hΓ [8] [] (fun K' hK=>by simp only[go_sem,gL,kU,lR,ah hq,bZ,ai,aj,List.length_map];exact ak) ?_
     refine av ?_
     simp only[go_sem]
     rw[e]
   ·have BX:j<az.length:=by omega
    have fK:(j:Int)<az.length:=by omega
    have va:(az.map vInt).getD j default=vInt az[j]:=ah BX
    have j7:(if (0:Int)>(j:Int)then(0:Int)else(j:Int))=j:=if_neg (by omega)
    have Ji:decide ((j:Int)>=0)=true:=by simp
    repeat refine sq ?_
    refine rx hΓ [2,3,4,9,10] [[4,0]] (fun K' hK=>by simp only[go_sem,gL,kU,lR,ah hq,bZ,ai,aj,List.length_map,ah hq,bZ,ai,aj,List.length_map];(repeat (refine⟨by first | exact an | exact⟨⟨aa,uM⟩,bZ⟩,?_⟩));exact dN) ?_
    repeat refine sq ?_
    refine rx hΓ [4,9,32] [[4,0]] (fun K' hK=>by simp only[go_sem,gL,kU,lR,ah hq,bZ,ai,aj,List.length_map,j7,va,fK,ai,aj,List.length_map,decide_true,Bool.true_and,Bool.decide_and,Bool.decide_eq_true,true_and];exact ak) ?_
    repeat refine sq ?_
    refine aB (fun hb=>?_) fun hb=>?_
    ·repeat refine sq ?_
     have e:jh x f az day=0:=by unfold jh;rw[gL,if_neg (by omega),ai,lR,CM,ai,dt BX,Ji,Bool.true_and,if_pos (by simpa using hb)]
     repeat refine sq ?_
     refine rx hΓ [8] [] (fun K' hK=>by simp only[go_sem,gL,kU,lR,ah hq,bZ,ai,aj,List.length_map];exact ak) ?_
     refine av ?_
     simp only[go_sem]
     rw[e]
    ·repeat refine sq ?_
     have e:jh x f az day=x.l.rs[q].bo:=by unfold jh;rw[gL,if_neg (by omega),ai,lR,CM,ai,dt BX,Ji,Bool.true_and,if_neg (by simpa using hb)]
     refine aF ?_
     repeat refine sq ?_
     refine rx hΓ [8] [] (fun K' hK=>by simp only[go_sem,gL,kU,lR,ah hq,bZ,ai,aj,List.length_map];exact ak) ?_
     refine av ?_
     simp only[go_sem]
     rw[e]
end
noncomputable section
def YR:List (Nat×Spec):=[]
attribute [go_sem] YR
end
theorem zc{α:Type}{eE:α->Bool}{num:α->Int}{l:List α}:gT eE num l=true↔(∀ x∈l,eE x=true)/\l.Pairwise (fun a b=>num a<num b):=by
 rw[jJ]
 constructor
 ·intro h
  refine⟨fun x hx=>?_,?_⟩
  ·obtain⟨j,hj,rfl⟩:=List.getElem_of_mem hx
   exact(h j hj hj).1
  ·rw[List.pairwise_iff_getElem]
   exact fun i j hi hj bL=>wO h i j hi hj bL
 ·rintro⟨h1,h2⟩ j hj _
  refine⟨h1 _ (List.getElem_mem hj),fun h0=>?_⟩
  rw[List.pairwise_iff_getElem]at h2
  exact h2 (j-1) j (by omega) hj (by omega)
end Go.Eng
