import Derived.Test.YtepaolcgegdpoaaGreatK6
/- Texts LW27 to LW41. -/
set_option linter.all false
namespace Go.Eng
open Go Go.Proofs
noncomputable section
theorem wz{α:Type}{p:α->Bool}{l:List α}{i:Nat}(h:i<l.length):(l.take (i+1)).all p=((l.take i).all p&&p l[i]):=by
 rw[List.take_add_one,List.getElem?_eq_getElem h,List.all_append]
 simp
theorem La{x:Vw}{d:Ds}{l:List Sig}{i:Nat}(h:i<l.length):eO x d (l.take (i+1))=hM x (eO x d (l.take i)) l[i]:=by
 unfold eO
 rw[List.take_add_one,List.getElem?_eq_getElem h,List.foldl_append]
 rfl
theorem Ap(x:Vw)(d:Ds)(s:Sig):bw ⟨x.l,x.rs,x.ts,x.bk,d⟩ s=bw x s:=rfl
theorem mP.ds{x:Vw}(h:mP x)(d:Ds):mP ⟨x.l,x.rs,x.ts,x.bk,d⟩:=⟨h.ok,h.bk,h.rs,h.rn,h.tn,h.ts⟩
theorem Rs(x:Vw)(d:Ds)(i:Int)(r:Rg):Bv ⟨x.l,x.rs,x.ts,x.bk,d⟩ i r=jK d i r:=rfl
theorem ZA{H H':Name->Option O}{Lu:List (V×V)}(fR:upd H [2,1] (some (.map 0 Lu))=H')(ae:∀ hs es,b7 [0] (bU [0] hs) (fun nm=>if nm=[2,1]then some (.map 0 es)else H nm)=True):
 (∀ hs,b7 [0] (bU [0] hs) H'=True)/\∀ hs es,b7 [0] (bU [0] hs) (fun nm=>if nm=[2,1]then some (.map 0 es)else H' nm)=True:=by
 refine⟨fun hs=>by rw[<-fR];exact ae hs Lu,fun hs es=>?_⟩
 have e:(fun nm=>if nm=[2,1]then some (.map 0 es)else H' nm)=fun nm=>if nm=[2,1]then some (.map 0 es)else H nm:=by
  funext nm
  rw[<-fR]
  by_cases e:nm=[2,1]
  ·simp[e]
  ·simp[aZ _ _ _ e,e]
 rw[e];exact ae hs es
theorem N3{α β:Type}[DecidableEq α]{f:α->β}{a:α}{b:β}(h:f a=b):upd f a b=f:=by
 funext x
 by_cases e:x=a
 ·subst e;rw[aQ,h]
 ·rw[aZ _ _ _ e]
def xh(d:Ds)(i:Int):Bool:=decide ((aP d i).1<=(aP d i).2)
def K27:List (Nat×Spec):=[(187,S187),(165,S165)]
theorem aaC:KS K27:=tc TW<|tc B2<|tn
attribute [go_sem] K27
def M9:VSpec:=v1 (fE iS) (fun x l=>((mP x/\x.rs.Nodup)/\l.length<=60)/\∀ s∈l,AL s) (fun x l=>.v (.bool (gK x l))) (some fun x l=>eO x x.ds l)
def S128:Spec:=M9.toSpec
attribute [go_sem] M9 S128
set_option maxHeartbeats 8000000 in
theorem Jo:aM Tryz.prog 128 S128:=by
 refine wQ (rs:=[.tmp 4]) Tryz.func128 Tryz.ntmps128 (by rfl) (by kernel_rfl) (by decide) (fun _ _=>by first | rfl | simp[D.clos,D.closL,lg]) ⟨_,rfl,lb rfl,fun x l hp H h0 h1 h2 hO ae=>?_⟩
 simp only[iS,fE,encS,bt,cW,List.map_cons,List.map_nil,Nat.zero_add,Option.map_some,Option.map_none]at h0 |-
 have hΓ:=aaC
 obtain⟨⟨⟨hv,bN⟩,hln⟩,yh⟩:=hp
 have ti:l.length<=maxLen:=by unfold maxLen;omega
 have mn:x.ts.length<=maxLen:=by have:=hv.tn;unfold maxLen;omega
 have bd:∀ hs es,b7 [0] (bU [0] hs) (upd H [2,1] (some (.map 0 es)))=True:=ae
 repeat refine sq ?_
 refine rx hΓ [0,1] [] (fun K' hK=>by simp only[go_sem,hO,ae,bd,h0,h1,h2];(repeat (refine⟨ao,?_⟩));exact hK _ (by simp only[go_sem,hO,ae,bd,h0,h1,h2]) (by simp only[go_sem,hO,ae,bd,h0,h1,h2]<;>rfl)) ?_
 repeat refine sq ?_
 refine rx hΓ [0,1,5] [] (fun K' hK=>by simp only[go_sem,hO,ae,bd,h0,h1,h2];(repeat (refine⟨ao,?_⟩));exact hK _ (by simp only[go_sem,hO,ae,bd,h0,h1,h2]) (by simp only[go_sem,hO,ae,bd,h0,h1,h2]<;>rfl)) ?_
 repeat refine sq ?_
 refine rx hΓ [0,1,5,6] [] (fun K' hK=>by simp only[go_sem,hO,ae,bd,h0,h1,h2];(repeat (refine⟨ao,?_⟩));exact hK _ (by simp only[go_sem,hO,ae,bd,h0,h1,h2]) (by simp only[go_sem,hO,ae,bd,h0,h1,h2]<;>rfl)) ?_
 repeat refine sq ?_
 refine rx hΓ [0,5,6,16,17,18] [] (fun K' hK=>by simp only[go_sem,hO,ae,bd,h0,h1,h2];(repeat (refine⟨ao,?_⟩));exact hK _ (by simp only[go_sem,hO,ae,bd,h0,h1,h2]) (by simp only[go_sem,hO,ae,bd,h0,h1,h2]<;>rfl)) ?_
 repeat refine sq ?_
 refine aS ?_
 repeat refine sq ?_
 refine Md (fun s:Nat=>upd H [2,1] (some (.map 0 (bD (eO x x.ds (l.take s)))))) (fun s:Nat=>[(18,⟨true,.v (vInt s)⟩),(5,⟨true,.v (.bool ((l.take s).all (eI x)))⟩)]) (fun s=>[]) (fun s=>s<=l.length) (fun s=>l.length-s) 0 ?_ ?_ ?_ ?_ ?_
 ·exact Nat.zero_le _
 ·congr 1;exact N3 h2
 ·rfl
 ·rfl
 rintro i hi
 generalize fR:upd H [2,1] (some (.map 0 (bD (eO x x.ds (l.take i)))))=H'
 have h0:=(show H' [0,1]=H [0,1]by rw[<-fR,aZ _ _ _ (by decide)]).trans h0
 have h1:=(show H' [1,1]=H [1,1]by rw[<-fR,aZ _ _ _ (by decide)]).trans h1
 have h2:H' [2,1]=some (.map 0 (bD (eO x x.ds (l.take i)))):=by rw[<-fR,aQ]
 obtain⟨hO,ae⟩:=ZA fR ae
 have bd:∀ hs es,b7 [0] (bU [0] hs) (upd H' [2,1] (some (.map 0 es)))=True:=ae
 simp only[go_sem]
 repeat refine sq ?_
 refine rx hΓ [0,5,6,16,17,18,19] [] (fun K' hK=>by simp only[go_sem,hO,ae,bd,h0,h1,h2];(repeat (refine⟨ao,?_⟩));exact hK _ (by simp only[go_sem,hO,ae,bd,h0,h1,h2]) (by simp only[go_sem,hO,ae,bd,h0,h1,h2]<;>rfl)) ?_
 repeat refine sq ?_
 refine aB (fun hb=>?_) fun hb=>?_
 ·have ab:i<l.length:=by simpa using hb
  have aq:(i:Int)<l.length:=by omega
  clear hb
  have pE:=yh l[i] (List.getElem_mem ab)
  repeat refine sq ?_
  refine aE ?_
  repeat refine sq ?_
  refine aS ?_
  repeat refine sq ?_
  refine rx hΓ [0,5,6,8,16,17,18] [[8,0]] (fun K' hK=>by simp only[go_sem,hO,ae,bd,h0,h1,h2,ah ab,ai,ak,aq];(repeat (refine⟨ao,?_⟩));exact hK _ (by simp only[go_sem,hO,ae,bd,h0,h1,h2,ah ab,ai,ak,aq]) (by simp only[go_sem,hO,ae,bd,h0,h1,h2,ah ab,ai,ak,aq]<;>rfl)) ?_
  repeat refine sq ?_
  refine rx hΓ [0,5,6,9,10,16,17,18] [[10,0]] (fun K' hK=>by simp only[go_sem,hO,ae,bd,h0,h1,h2,ah ab,ai,ak,aq,Ap];(repeat (refine⟨by first | exact ao | exact⟨⟨hv.ds _,bN⟩,pE⟩,?_⟩));exact hK _ (by simp only[go_sem,hO,ae,bd,h0,h1,h2,ah ab,ai,ak,aq,Ap]) (by simp only[go_sem,hO,ae,bd,h0,h1,h2,ah ab,ai,ak,aq,Ap]<;>rfl)) ?_
  repeat refine sq ?_
  refine rx hΓ [0,5,6,9,10,16,17,18,29] [[10,0]] (fun K' hK=>by simp only[go_sem,hO,ae,bd,h0,h1,h2,ah ab,ai,ak,aq];(repeat (refine⟨ao,?_⟩));exact hK _ (by simp only[go_sem,hO,ae,bd,h0,h1,h2,ah ab,ai,ak,aq]) (by simp only[go_sem,hO,ae,bd,h0,h1,h2,ah ab,ai,ak,aq]<;>rfl)) ?_
  repeat refine sq ?_
  refine aB (fun hb=>?_) fun hb=>?_
  ·repeat refine sq ?_
   have kE:(bw x l[i]).1>=0:=by simpa using hb
   have hA:(l.take (i+1)).all (eI x)=(l.take i).all (eI x):=by rw[wz ab];simp[eI,kE]
   have hF:eO x x.ds (l.take (i+1))=jK (eO x x.ds (l.take i)) (bw x l[i]).1 (bw x l[i]).2:=by rw[La ab,hM,if_pos kE]
   repeat refine sq ?_
   refine aY hΓ fun K' hK=>?_
   simp only[go_sem,hO,ae,bd,h0,h1,h2,ah ab,ai,ak,aq,Rs]
   repeat (refine⟨ao,?_⟩)
   refine hK _ ?_
   clear K' hK
   simp only[go_sem]
   refine ev [0,5,6,16,17,18] [] ?_ ?_
   ·simp only[go_sem,hO,ae,bd,h0,h1,h2]
   simp only[go_sem,hO,ae,bd,h0,h1,h2]
   repeat refine sq ?_
   refine aY hΓ fun K' hK=>?_
   simp only[go_sem,hO,ae,bd,h0,h1,h2,ah ab,ai,ak,aq]
   repeat (refine⟨ao,?_⟩)
   refine hK _ ?_
   clear K' hK
   simp only[go_sem]
   refine⟨i+1,ab,by(show l.length-(i+1)<l.length-i;omega),?_⟩
   refine bq [0,5,6,16,17,18] [] ?_ ?_
   ·simp only[go_sem,bj ab ti,bn,hA,hF,hO,ae,bd,h0,h1,h2]
   ·simp only[go_sem,bj ab ti,bn,hA,hF,hO,ae,bd,h0,h1,h2]
    all_goals first | (rw[<-fR];done) | (congr 1;funext nm;rw[<-fR];by_cases e:nm=[2,1]<;>simp[e,aQ,aZ])
  ·repeat refine sq ?_
   have kE:¬ (bw x l[i]).1>=0:=by simpa using hb
   have hF:eO x x.ds (l.take (i+1))=eO x x.ds (l.take i):=by rw[La ab,hM,if_neg kE]
   repeat refine sq ?_
   refine rx hΓ [0,5,6,16,17,18,38] [] (fun K' hK=>by simp only[go_sem,hO,ae,bd,h0,h1,h2,ah ab,ai,ak,aq];(repeat (refine⟨ao,?_⟩));exact hK _ (by simp only[go_sem,hO,ae,bd,h0,h1,h2,ah ab,ai,ak,aq]) (by simp only[go_sem,hO,ae,bd,h0,h1,h2,ah ab,ai,ak,aq]<;>rfl)) ?_
   repeat refine sq ?_
   refine aB (fun hb=>?_) fun hb=>?_
   ·repeat refine sq ?_
    have hA:(l.take (i+1)).all (eI x)=false:=by rw[wz ab];simp[eI,kE];intro _;simpa using hb
    repeat refine sq ?_
    refine aY hΓ fun K' hK=>?_
    simp only[go_sem,hO,ae,bd,h0,h1,h2,ah ab,ai,ak,aq]
    repeat (refine⟨ao,?_⟩)
    refine hK _ ?_
    clear K' hK
    simp only[go_sem]
    refine ev [0,5,6,16,17,18] [] ?_ ?_
    ·simp only[go_sem,hO,ae,bd,h0,h1,h2]
    simp only[go_sem,hO,ae,bd,h0,h1,h2]
    repeat refine sq ?_
    refine aY hΓ fun K' hK=>?_
    simp only[go_sem,hO,ae,bd,h0,h1,h2,ah ab,ai,ak,aq]
    repeat (refine⟨ao,?_⟩)
    refine hK _ ?_
    clear K' hK
    simp only[go_sem]
    refine⟨i+1,ab,by(show l.length-(i+1)<l.length-i;omega),?_⟩
    refine bq [0,5,6,16,17,18] [] ?_ ?_
    ·simp only[go_sem,bj ab ti,bn,hA,hF,hO,ae,bd,h0,h1,h2]
    ·simp only[go_sem,bj ab ti,bn,hA,hF,hO,ae,bd,h0,h1,h2]
     all_goals first | (rw[<-fR];done) | (congr 1;funext nm;rw[<-fR];by_cases e:nm=[2,1]<;>simp[e,aQ,aZ])
   ·repeat refine sq ?_
    have hA:(l.take (i+1)).all (eI x)=(l.take i).all (eI x):=by rw[wz ab];simp[eI,kE];intro _;simpa using hb
    refine aE ?_
    refine cf ?_
    simp only[go_sem]
    refine ev [0,5,6,16,17,18] [] ?_ ?_
    ·simp only[go_sem,hO,ae,bd,h0,h1,h2]
    simp only[go_sem,hO,ae,bd,h0,h1,h2]
    repeat refine sq ?_
    refine aY hΓ fun K' hK=>?_
    simp only[go_sem,hO,ae,bd,h0,h1,h2,ah ab,ai,ak,aq]
    repeat (refine⟨ao,?_⟩)
    refine hK _ ?_
    clear K' hK
    simp only[go_sem]
    refine⟨i+1,ab,by(show l.length-(i+1)<l.length-i;omega),?_⟩
    refine bq [0,5,6,16,17,18] [] ?_ ?_
    ·simp only[go_sem,bj ab ti,bn,hA,hF,hO,ae,bd,h0,h1,h2]
    ·simp only[go_sem,bj ab ti,bn,hA,hF,hO,ae,bd,h0,h1,h2]
     all_goals first | (rw[<-fR];done) | (congr 1;funext nm;rw[<-fR];by_cases e:nm=[2,1]<;>simp[e,aQ,aZ])
 ·have bx:i=l.length:=by
   have :¬ (i:Int)<l.length:=by simpa using hb
   omega
  clear hb
  subst bx
  repeat refine sq ?_
  refine bV ?_
  simp only[go_sem]
  refine ev [0,5] [] ?_ ?_
  ·simp only[go_sem,hO,ae,bd,h0,h1,h2]
  simp only[go_sem,hO,ae,bd,h0,h1,h2]
  repeat refine sq ?_
  refine rx hΓ [0,5,43,44,45] [] (fun K' hK=>by simp only[go_sem,hO,ae,bd,h0,h1,h2];(repeat (refine⟨ao,?_⟩));exact hK _ (by simp only[go_sem,hO,ae,bd,h0,h1,h2]) (by simp only[go_sem,hO,ae,bd,h0,h1,h2]<;>rfl)) ?_
  repeat refine sq ?_
  refine aS ?_
  repeat refine sq ?_
  refine cv (fun s:Nat=>[(45,⟨true,.v (vInt s)⟩),(5,⟨true,.v (.bool ((x.ts.take s).all (xh (eO x x.ds (l.take l.length)))&&(l.take l.length).all (eI x)))⟩)]) (fun s=>[]) (fun s=>s<=x.ts.length) (fun s=>x.ts.length-s) 0 ?_ ?_ ?_ ?_
  ·exact Nat.zero_le _
  ·rfl
  ·rfl
  rintro i1 hi
  generalize hB:((x.ts.take i1).all (xh (eO x x.ds (l.take l.length)))&&(l.take l.length).all (eI x))=B
  simp only[go_sem]
  repeat refine sq ?_
  refine rx hΓ [0,5,43,44,45,46] [] (fun K' hK=>by simp only[go_sem,hO,ae,bd,h0,h1,h2];(repeat (refine⟨ao,?_⟩));exact hK _ (by simp only[go_sem,hO,ae,bd,h0,h1,h2]) (by simp only[go_sem,hO,ae,bd,h0,h1,h2]<;>rfl)) ?_
  repeat refine sq ?_
  refine aB (fun hb=>?_) fun hb=>?_
  ·have aU:i1<x.ts.length:=by simpa using hb
   have bJ:(i1:Int)<x.ts.length:=by omega
   clear hb
   have hA:((x.ts.take (i1+1)).all (xh (eO x x.ds (l.take l.length)))&&(l.take l.length).all (eI x))=(B&&decide ((aP (eO x x.ds (l.take l.length)) x.ts[i1]).1<=(aP (eO x x.ds (l.take l.length)) x.ts[i1]).2)):=by
    rw[<-hB,wz aU,Bool.and_assoc,Bool.and_assoc,Bool.and_comm (xh _ _)];rfl
   repeat refine sq ?_
   refine aE ?_
   repeat refine sq ?_
   refine aS ?_
   repeat refine sq ?_
   refine rx hΓ [0,5,12,43,44,45] [] (fun K' hK=>by simp only[go_sem,hO,ae,bd,h0,h1,h2,ah aU,ai,ak,bJ];(repeat (refine⟨ao,?_⟩));exact hK _ (by simp only[go_sem,hO,ae,bd,h0,h1,h2,ah aU,ai,ak,bJ]) (by simp only[go_sem,hO,ae,bd,h0,h1,h2,ah aU,ai,ak,bJ]<;>rfl)) ?_
   repeat refine sq ?_
   refine rx hΓ [0,5,13,43,44,45] [[13,0]] (fun K' hK=>by simp only[go_sem,hO,ae,bd,h0,h1,h2,ah aU,ai,ak,bJ,gr];(repeat (refine⟨ao,?_⟩));exact hK _ (by simp only[go_sem,hO,ae,bd,h0,h1,h2,ah aU,ai,ak,bJ,gr]) (by simp only[go_sem,hO,ae,bd,h0,h1,h2,ah aU,ai,ak,bJ,gr]<;>rfl)) ?_
   repeat refine sq ?_
   refine aY hΓ fun K' hK=>?_
   simp only[go_sem,hO,ae,bd,h0,h1,h2,ah aU,ai,ak,bJ]
   repeat (refine⟨ao,?_⟩)
   refine hK _ ?_
   clear K' hK
   simp only[go_sem]
   refine ev [0,5,43,44,45] [] ?_ ?_
   ·simp only[go_sem,hO,ae,bd,h0,h1,h2]
   simp only[go_sem,hO,ae,bd,h0,h1,h2]
   repeat refine sq ?_
   refine aY hΓ fun K' hK=>?_
   simp only[go_sem,hO,ae,bd,h0,h1,h2,ah aU,ai,ak,bJ]
   repeat (refine⟨ao,?_⟩)
   refine hK _ ?_
   clear K' hK
   simp only[go_sem]
   refine⟨i1+1,aU,by(show x.ts.length-(i1+1)<x.ts.length-i1;omega),?_⟩
   refine bq [0,5,43,44,45] [] ?_ ?_<;>simp only[go_sem,bj aU mn,bn,hA,hO,ae,bd,h0,h1,h2]
  ·have kI:i1=x.ts.length:=by
    have :¬ (i1:Int)<x.ts.length:=by simpa using hb
    omega
   clear hb
   subst kI
   repeat refine sq ?_
   refine bV ?_
   simp only[go_sem]
   refine ev [5] [] ?_ ?_
   ·simp only[go_sem,hO,ae,bd,h0,h1,h2]
   simp only[go_sem,hO,ae,bd,h0,h1,h2]
   repeat refine sq ?_
   refine rx hΓ [4] [] (fun K' hK=>by simp only[go_sem,hO,ae,bd,h0,h1,h2];(repeat (refine⟨ao,?_⟩));exact hK _ (by simp only[go_sem,hO,ae,bd,h0,h1,h2]) (by simp only[go_sem,hO,ae,bd,h0,h1,h2]<;>rfl)) ?_
   refine aA ?_
   simp only[go_sem,hO,ae,bd,h0,h1,h2]
   rw[<-hB];simp only[List.take_length];exact⟨by unfold gK y0;rw[Bool.and_comm];rfl,trivial⟩
end
open Go
structure Ro (α:Type) where
 m:Nat
 fam:α->List Name->List O
 args:α->List Name->List D
 ok:α->Prop
 val:α->D
structure Ro.Ok {α:Type} (r:Ro α):Prop where
 len:∀ a Ls,Ls.length=r.m->(r.fam a Ls).length=r.m
 renF:∀ a f Ls,Ls.length=r.m->(r.fam a Ls).map (O.ren f)=r.fam a (Ls.map f)
 renA:∀ a f Ls,Ls.length=r.m->D.renL f (r.args a Ls)=r.args a (Ls.map f)
 reach:∀ a Ls obj,Ls.length=r.m->Ls.Nodup->cK obj Ls (r.fam a Ls)->reach obj (r.args a Ls)=Ls
 closF:∀ a dom Ls,Ls.length=r.m->(∀ x∈Ls,dom x=true)->∀ o∈r.fam a Ls,O.clos dom o=true
 closA:∀ a dom Ls,Ls.length=r.m->(∀ x∈Ls,dom x=true)->D.closL dom (r.args a Ls)=true
 det:∀ a b,r.ok a->r.ok b->r.fam a (LR r.m)=r.fam b (LR r.m)->r.args a (LR r.m)=r.args b (LR r.m)->r.val a=r.val b
 vcl:∀ a dom,D.clos dom (r.val a)=true
 vren:∀ a f,(r.val a).ren f=r.val a
variable {α:Type}
noncomputable def Ro.c(r:Ro α):CSpec where
 pre:=fun os ds=>∃ a,r.ok a/\os=r.fam a (LR r.m)/\ds=r.args a (LR r.m)
 out:=fun os ds=>⟨[],[],by classical exact if h:∃ a,r.ok a/\os=r.fam a (LR r.m)/\ds=r.args a (LR r.m)then r.val h.choose else .any⟩
theorem Ro.c_out{r:Ro α}(hr:r.Ok){a:α}(ha:r.ok a):r.c.out (r.fam a (LR r.m)) (r.args a (LR r.m))=⟨[],[],r.val a⟩:=by
 have h:∃ b,r.ok b/\r.fam a (LR r.m)=r.fam b (LR r.m)/\r.args a (LR r.m)=r.args b (LR r.m):=⟨a,ha,rfl,rfl⟩
 have e:r.val h.choose=r.val a:=(hr.det _ _ ha h.choose_spec.1 h.choose_spec.2.1 h.choose_spec.2.2).symm
 simp only[Ro.c]
 rw[dif_pos h,e]
theorem Ro.c_app{r:Ro α}(hr:r.Ok){a:α}(ha:r.ok a){obj:Name->Option O}{t:Name}{Ls:List Name}(hl:Ls.length=r.m)(hn:Ls.Nodup)(hF:cK obj Ls (r.fam a Ls)):
 r.c.toSpec.app obj t (r.args a Ls)=⟨True,r.val a,obj⟩:=by
 have js:=hr.reach a Ls obj hl hn hF
 have rm:Ls.map (cin Ls)=LR r.m:=by rw[zw hn,hl]
 have e1:cp obj (r.args a Ls)=r.fam a (LR r.m):=by
  unfold cp
  rw[js]
  have mG:=hF
  rw[kq]at mG
  have :Ls.map (cw Ls obj)=(r.fam a Ls).map (O.ren (cin Ls)):=by
   refine List.ext_getElem (by simp[hr.len _ _ hl,hl]) fun i h1 h2=>?_
   have h3:i<Ls.length:=by simpa using h1
   have h4:i<(r.fam a Ls).length:=by rw[hr.len _ _ hl,<-hl];exact h3
   have h5:=congrArg (fun l=>l[i]?) mG
   have h6:obj Ls[i]=some (r.fam a Ls)[i]:=by simpa[h3,h4]using h5
   simp only[List.getElem_map,cw,h6]
  rw[this,hr.renF _ _ _ hl,rm]
 have e2:cQ obj (r.args a Ls)=r.args a (LR r.m):=by
  unfold cQ
  rw[js,hr.renA _ _ _ hl,rm]
 have iN:∀ x∈Ls,cM Ls x=true:=fun x hx=>gb.2 hx
 have jq:shut obj Ls=true:=by
  unfold shut
  rw[List.all_eq_true]
  intro x hx
  obtain⟨i,hi,rfl⟩:=List.getElem_of_mem hx
  have mG:=hF
  rw[kq]at mG
  have h4:i<(r.fam a Ls).length:=by rw[hr.len _ _ hl,<-hl];exact hi
  have h5:=congrArg (fun l=>l[i]?) mG
  have h6:obj Ls[i]=some (r.fam a Ls)[i]:=by simpa[hi,h4]using h5
  rw[h6]
  exact hr.closF _ _ _ hl iN _ (List.getElem_mem h4)
 have dI:r.c.pre (r.fam a (LR r.m)) (r.args a (LR r.m)):=⟨a,ha,rfl,rfl⟩
 simp only[CSpec.toSpec,e1,e2,js,Ro.c_out hr ha,jq,hr.closA _ _ _ hl iN,fresh,List.all_nil,Bool.and_self,dI,and_self,di,cr,hr.vren]
def F0(P:Program)(rs:List ResultVar)(v:D)(H:Name->Option O)(e:Exit)(σ:S):Prop:=
 (e=.normal\/e=.ret)/\(bL P σ rs).ok/\(bL P σ rs).d=v/\∀ i,σ.obj [i,1]=H [i,1]
theorem Bj{σ:S}:∀ {os:List O} {k:Nat},(∀ i (h:i<os.length),σ.obj [k+i,1]=some os[i])->qq σ [] k os
 |[],_,_=>trivial
 |o::r,k,h=>by
  refine⟨by have:=h 0 (by simp);simp only[Nat.add_zero,List.getElem_cons_zero]at this;exact this,Bj fun i hi=>?_⟩
  have :=h (i+1) (by simpa using hi)
  rw[show k+1+i=k+(i+1)by omega]
  simpa using this
theorem Ro.sound{P:Program}{r:Ro α}(hr:r.Ok){f:FuncId}{fn:Func}{nt:Nat}{rs:List ResultVar}(hf:P.funcs[f]?=some fn)(ca:fn.ntmps=nt)(bQ:fn.results.toList=rs)(hn:(fn.name== "runtime.NumGoroutine")=false)(hy:f<1000000000)
 (hw:∃ c,fn.body=some c/\∀ a,r.ok a->(r.args a (LR r.m)).length<=nt/\CL P [c] (bc nt [0] (aV (r.fam a (LR r.m))) (cW 0 (r.args a (LR r.m))) []) (F0 P rs (r.val a) (aV (r.fam a (LR r.m))))):aM P f r.c.toSpec:=by
 obtain⟨c,hc,hw⟩:=hw
 refine nI hf hc ca bQ (ib hf hc hn) (Nat.ne_of_lt (show f<yid from hy)) ?_
 rintro os ds ⟨a,ha,rfl,rfl⟩
 obtain⟨hl,h⟩:=hw a ha
 refine⟨hl,?_⟩
 rw[Ro.c_out hr ha]
 refine CW.mono (iY h) ?_
 rintro e σ ⟨he,h1,h2,h3⟩
 have fin:(bL P σ rs).ok/\(bL P σ rs).d=r.val a/\fT (r.fam a (LR r.m)) ⟨[],[],r.val a⟩ σ:=by
  refine⟨h1,h2,Bj fun i hi=>?_,trivial,?_⟩
  ·rw[Nat.zero_add,h3]
   show (r.fam a (LR r.m))[i]?=_
   rw[List.getElem?_eq_getElem hi]
  ·simp[hr.vcl,distinct]
 rcases he with rfl | rfl
 ·exact fin
 ·exact fin
theorem Ro.outC{r:Ro α}(hr:r.Ok)(a:α):∀ hs,b7 [0] (bU [0] hs) (aV (r.fam a (LR r.m)))=True:=fun hs=>eq_true (od (fun o ho dom hd=>hr.closF a dom _ (nQ _) (fun x hx=>by
 obtain⟨i,_,rfl⟩:=List.mem_map.1 hx
 exact hd i) o ho) hs)
set_option maxHeartbeats 8000000
set_option maxRecDepth 10000
noncomputable section
attribute [go_sem] F0
theorem u2{Ls:List Name}(h:Ls.length=4):∃ a b c d,Ls=[a,b,c,d]:=by
 match Ls,h with
 |[a,b,c,d],_=>exact⟨a,b,c,d,rfl⟩
def jY(x:Vw)(nr nb nd:Name):O:=.box [.v (iW x.l),.v (.sl (x.rs.map encR)),.msl nr x.ts.length,.map nb,.map nd]
def pR(x:Vw)(Ls:List Name):List O:=[jY x (Ls.getD 1 []) (Ls.getD 2 []) (Ls.getD 3 []),.arr 1 (x.ts.map vInt),.map 2 (bR x.bk),.map 0 (bD x.ds)]
theorem WV{x y:Vw}{a b c:Name}(h:jY x a b c=jY y a b c):x.rs=y.rs:=by
 simp only[jY,O.box.injEq,List.cons.injEq,D.v.injEq,V.sl.injEq]at h
 have :=congrArg (List.map j6) h.2.1
 rwa [zi,zi]at this
def jk:Ro (Vw×Int) where
 m:=4
 fam:=fun a Ls=>pR a.1 Ls
 args:=fun a Ls=>[.ref (Ls.getD 0 []) 0,.v (vInt a.2)]
 ok:=fun _=>True
 val:=fun a=>.tup [l6 (dU a.1.rs a.2),.v (.bool (dU a.1.rs a.2).isSome)]
theorem Qx(o:Option Rec)(f:Name->Name):(l6 o).ren f=l6 o:=by cases o<;>rfl
theorem A9:jk.Ok where
 len:=fun _ _ _=>rfl
 renF:=fun a f Ls h=>by obtain⟨a,b,c,d,rfl⟩:=u2 h;rfl
 renA:=fun a f Ls h=>by obtain⟨a,b,c,d,rfl⟩:=u2 h;rfl
 reach:=fun x Ls obj h bN hF=>by
  obtain⟨a,b,c,d,rfl⟩:=u2 h
  obtain⟨h1,h2,h3,h4,_⟩:=hF
  have en:cS (jk.args x [a,b,c,d])=[a]:=rfl
  unfold Go.Eng.reach
  rw[en]
  show dn obj (2993+1+1+1+1+1+1+1) _ []=_
  simp only[List.nodup_cons,List.mem_cons,List.not_mem_nil,or_false,not_or,not_false_eq_true,List.nodup_nil,and_true]at bN
  obtain⟨⟨a1,a2,a3⟩,⟨b1,b2⟩,c1⟩:=bN
  simp[dn,gb,h1,h2,h3,h4,ln,cS,lq,jY,Ne.symm a1,Ne.symm a2,Ne.symm a3,Ne.symm b1,Ne.symm b2,Ne.symm c1]
 closF:=fun x dom Ls h hd o ho=>by
  obtain⟨a,b,c,d,rfl⟩:=u2 h
  have h1:=hd b (by simp)
  have h2:=hd c (by simp)
  have h3:=hd d (by simp)
  simp only[jk,pR,List.mem_cons,List.not_mem_nil,or_false]at ho
  rcases ho with rfl | rfl | rfl | rfl<;>simp[O.clos,D.closL,D.clos,jY,h1,h2,h3]
 closA:=fun x dom Ls h hd=>by
  obtain⟨a,b,c,d,rfl⟩:=u2 h
  have h1:=hd a (by simp)
  simp[jk,D.closL,D.clos,h1]
 det:=fun a b _ _ h1 h2=>by
  have e1:a.1.rs=b.1.rs:=WV (List.cons.inj h1).1
  have e2:a.2=b.2:=by
   have :=(List.cons.inj (List.cons.inj h2).2).1
   simpa[vInt]using this
  simp only[jk,e1,e2]
 vcl:=fun a dom=>by simp[jk,D.clos,D.closL,lg]
 vren:=fun a f=>by simp[jk,D.ren,D.renL,Qx]
def S77m:Spec:=jk.c.toSpec
theorem TS:aM Tryz.prog 77 S77m:=by
 refine Ro.sound A9 (rs:=[.cell 4 36,.tmp 5]) Tryz.func77 Tryz.ntmps77 (by rfl) (by kernel_rfl) (by decide) ⟨_,rfl,?_⟩
 rintro⟨x,s⟩ _
 refine⟨lb rfl,?_⟩
 have hΓ:=Nz
 have hO:=Ro.outC A9 (x,s)
 have h0:aV (jk.fam (x,s) (LR jk.m)) [0,1]=some (jY x [1,1] [2,1] [3,1]):=rfl
 generalize aV (jk.fam (x,s) (LR jk.m))=H at *
 have ha:jk.args (x,s) (LR jk.m)=[.ref [0,1] 0,.v (vInt s)]:=rfl
 have hv:jk.val (x,s)=.tup [l6 (dU x.rs s),.v (.bool (dU x.rs s).isSome)]:=rfl
 rw[ha,hv]
 simp only[jY,cW,Nat.zero_add]at h0 |-
 repeat refine sq ?_
 refine rx hΓ [0,3,4] [[3,0],[4,0]] (fun K' hK=>by simp only[go_sem,hO,h0];(repeat (refine⟨ao,?_⟩));exact hK _ (by simp only[go_sem,hO,h0]) (by simp only[go_sem,hO,h0]<;>rfl)) ?_
 repeat refine sq ?_
 refine rx hΓ [0,4,6] [[4,0]] (fun K' hK=>by simp only[go_sem,hO,h0,true_or,or_true];(repeat (refine⟨ao,?_⟩));exact hK _ (by simp only[go_sem,hO,h0,true_or,or_true]) (by simp only[go_sem,hO,h0,true_or,or_true]<;>rfl)) ?_
 repeat refine sq ?_
 refine rx hΓ [0,4,6,14] [[4,0]] (fun K' hK=>by simp only[go_sem,hO,h0];(repeat (refine⟨ao,?_⟩));exact hK _ (by simp only[go_sem,hO,h0]) (by simp only[go_sem,hO,h0]<;>rfl)) ?_
 repeat refine sq ?_
 refine aB (fun hb=>?_) fun hb=>?_
 ·repeat refine sq ?_
  have e:dU x.rs s=none:=Gq (by simpa using hb)
  repeat refine sq ?_
  refine rx hΓ [4,5] [[4,0]] (fun K' hK=>by simp only[go_sem,hO,h0];(repeat (refine⟨ao,?_⟩));exact hK _ (by simp only[go_sem,hO,h0]) (by simp only[go_sem,hO,h0]<;>rfl)) ?_
  refine aA ?_
  simp only[go_sem,hO,h0]
  rw[e];exact⟨.inr trivial,rfl⟩
 ·repeat refine sq ?_
  obtain⟨i,hi,e1,e⟩:=Gp (by simpa using hb)
  have bC:(i:Int)<x.rs.length:=by omega
  rw[e1]
  refine aE ?_
  repeat refine sq ?_
  refine rx hΓ [4,5] [[4,0]] (fun K' hK=>by simp only[go_sem,hO,h0,ah hi,ai,ak,bC];(repeat (refine⟨ao,?_⟩));exact hK _ (by simp only[go_sem,hO,h0,ah hi,ai,ak,bC]) (by simp only[go_sem,hO,h0,ah hi,ai,ak,bC]<;>rfl)) ?_
  refine aA ?_
  simp only[go_sem,hO,h0]
  rw[e];exact⟨.inr trivial,rfl⟩
def l8(r:Rec):V:=.ptr [vInt r.so,vInt r.bo,vInt r.pa,.sl (r.lv.map vInt),vInt r.da,vInt r.kn,vInt r.un]
theorem Gw{a b:Rec}(h:l8 a=l8 b):a=b:=by
 refine Gm ?_
 obtain⟨a1,a2,a3,al,a4,a5,a6⟩:=a
 obtain⟨b1,b2,b3,bl,b4,b5,b6⟩:=b
 simp only[l8,V.ptr.injEq,List.cons.injEq,and_true]at h
 simp only[fY,D.agg.injEq,List.cons.injEq,D.v.injEq,and_true]
 exact h
def gR(bk:Bk)(r:Rec)(f:Int):Bool:=(bp bk (r.so,f)).isSome||!r.lv.contains f
def sf{β:Type}(ar:β->Rec->Name->List D)(ok:β->Prop)(val:Bk->Rec->β->V):Ro (Vw×Rec×β) where
 m:=5
 fam:=fun a Ls=>.box [.ref (Ls.getD 1 []) 0]::pR a.1 (Ls.drop 1)
 args:=fun a Ls=>ar a.2.2 a.2.1 (Ls.getD 0 [])
 ok:=fun a=>ok a.2.2
 val:=fun a=>.v (val a.1.bk a.2.1 a.2.2)
theorem E0{β:Type}{ar:β->Rec->Name->List D}{ok:β->Prop}{val:Bk->Rec->β->V}(h1:∀ b r n,cS (ar b r n)=[n])(h2:∀ f b r n,D.renL f (ar b r n)=ar b r (f n))(h3:∀ dom b r n,dom n=true->D.closL dom (ar b r n)=true)
 (h4:∀ b r b' r' n,ar b r n=ar b' r' n->b=b'/\r=r'):(sf ar ok val).Ok where
 len:=fun _ _ _=>rfl
 renF:=fun a f Ls h=>by obtain⟨a,b,c,d,e,rfl⟩:=kx h;rfl
 renA:=fun a f Ls h=>by obtain⟨a,b,c,d,e,rfl⟩:=kx h;exact h2 _ _ _ _
 reach:=fun x Ls obj h bN hF=>by
  obtain⟨a,b,c,d,e,rfl⟩:=kx h
  obtain⟨k1,k2,k3,k4,k5,_⟩:=hF
  have en:cS ((sf ar ok val).args x [a,b,c,d,e])=[a]:=h1 _ _ _
  unfold Go.Eng.reach
  rw[en]
  show dn obj (2993+1+1+1+1+1+1+1) _ []=_
  simp only[List.nodup_cons,List.mem_cons,List.not_mem_nil,or_false,not_or,not_false_eq_true,List.nodup_nil,and_true]at bN
  obtain⟨⟨a1,a2,a3,a4⟩,⟨b1,b2,b3⟩,⟨c1,c2⟩,d1⟩:=bN
  simp[dn,gb,k1,k2,k3,k4,k5,ln,cS,lq,jY,Ne.symm a1,Ne.symm a2,Ne.symm a3,Ne.symm a4,Ne.symm b1,Ne.symm b2,Ne.symm b3,Ne.symm c1,Ne.symm c2,Ne.symm d1]
 closF:=fun x dom Ls h hd o ho=>by
  obtain⟨a,b,c,d,e,rfl⟩:=kx h
  have h1:=hd b (by simp)
  have h2:=hd c (by simp)
  have h3:=hd d (by simp)
  have h4:=hd e (by simp)
  simp only[sf,pR,List.drop_succ_cons,List.drop_zero,List.mem_cons,List.not_mem_nil,or_false]at ho
  rcases ho with rfl | rfl | rfl | rfl | rfl<;>simp[O.clos,D.closL,D.clos,jY,h1,h2,h3,h4]
 closA:=fun x dom Ls h hd=>by
  obtain⟨a,b,c,d,e,rfl⟩:=kx h
  exact h3 _ _ _ _ (hd a (by simp))
 det:=fun a b _ _ k1 k2=>by
  have e1:a.1.bk=b.1.bk:=by
   have :=(List.cons.inj (List.cons.inj (List.cons.inj (List.cons.inj k1).2).2).2).1
   simp only[O.map.injEq,true_and]at this
   have :=congrArg zl this
   rwa [DT,DT]at this
  obtain⟨e2,e3⟩:=h4 _ _ _ _ _ k2
  simp only[sf,e1,e2,e3]
 vcl:=fun _ _=>rfl
 vren:=fun _ _=>rfl
def tkRo:Ro (Vw×Rec×Int):=sf (fun f r n=>[.v (vInt f),.ref n 0,.v (l8 r)]) (fun _=>True) (fun bk r f=>.bool (gR bk r f))
theorem Aw:tkRo.Ok:=E0 (fun _ _ _=>rfl) (fun _ _ _ _=>rfl) (fun dom b r n h=>by simp[D.closL,D.clos,h]) (fun b r b' r' n h=>by
 simp only[List.cons.injEq,D.v.injEq,and_true,true_and]at h
 exact⟨by simpa[vInt]using h.1,Gw h.2⟩)
def S163m:Spec:=tkRo.c.toSpec
def K28a:List (Nat×Spec):=[(108,wD)]
theorem aaB:KS K28a:=tc AS.sound<|tn
attribute [go_sem] K28a
theorem TX:aM Tryz.prog 163 S163m:=by
 refine Ro.sound Aw (rs:=[.tmp 4]) Tryz.func163 Tryz.ntmps163 (by rfl) (by kernel_rfl) (by decide) ⟨_,rfl,?_⟩
 rintro⟨x,r,f⟩ _
 refine⟨lb rfl,?_⟩
 have hΓ:=aaB
 have hP:=fL
 have hO:=Ro.outC Aw (x,r,f)
 have h0:aV (tkRo.fam (x,r,f) (LR tkRo.m)) [0,1]=some (.box [.ref [1,1] 0]):=rfl
 have h1:aV (tkRo.fam (x,r,f) (LR tkRo.m)) [1,1]=some (jY x [2,1] [3,1] [4,1]):=rfl
 have h3:aV (tkRo.fam (x,r,f) (LR tkRo.m)) [3,1]=some (.map 2 (bR x.bk)):=rfl
 generalize aV (tkRo.fam (x,r,f) (LR tkRo.m))=H at *
 have ha:tkRo.args (x,r,f) (LR tkRo.m)=[.v (vInt f),.ref [0,1] 0,.v (l8 r)]:=rfl
 have hv:tkRo.val (x,r,f)=.v (.bool (gR x.bk r f)):=rfl
 rw[ha,hv]
 simp only[jY,cW,Nat.zero_add,l8]at h1 |-
 repeat refine sq ?_
 refine rx hΓ [0,1,2] [] (fun K' hK=>by simp only[go_sem,hO,h0,h1,h3];(repeat (refine⟨ao,?_⟩));exact hK _ (by simp only[go_sem,hO,h0,h1,h3]) (by simp only[go_sem,hO,h0,h1,h3]<;>rfl)) ?_
 repeat refine sq ?_
 refine dx hΓ hP [[],[0],[0,1],[0,1,2],[],[4],[],[4,5,6],u8,u9,cZ,cZ,eG,kg] [0,2,6] [] (by kernel_rfl) (fun K' hK=>by simp only[go_sem,hO,h0,h1,h3,aw];(repeat (refine⟨ao,?_⟩));(first | refine⟨by rfl,?_⟩ | skip);exact hK _ (by simp only[go_sem,hO,h0,h1,h3,aw]) (by simp only[go_sem,hO,h0,h1,h3,aw]<;>rfl)) ?_
 repeat refine sq ?_
 refine rx hΓ [4] [] (fun K' hK=>by simp only[go_sem,hO,h0,h1,h3];(repeat (refine⟨ao,?_⟩));exact hK _ (by simp only[go_sem,hO,h0,h1,h3]) (by simp only[go_sem,hO,h0,h1,h3]<;>rfl)) ?_
 refine aA ?_
 simp only[go_sem,hO,h0,h1,h3]
 exact⟨.inr trivial,by unfold gR;cases bp x.bk (r.so,f)<;>rfl⟩
def gA(v:Bk->Rec->List Int->V):Ro (Vw×Rec×List Int):=sf (fun l r n=>[.v (.sl (l.map vInt)),.clo (.func 163) [] [.ref n 0,.v (l8 r)]]) (fun l=>l.length<=maxLen) v
theorem tV(v:Bk->Rec->List Int->V):(gA v).Ok:=E0 (fun _ _ _=>rfl) (fun _ _ _ _=>rfl) (fun dom b r n h=>by simp[D.closL,D.clos,h]) (fun b r b' r' n h=>by
 simp only[List.cons.injEq,D.v.injEq,D.clo.injEq,V.sl.injEq,and_true,true_and]at h
 refine⟨?_,Gw h.2⟩
 have :=congrArg (List.map jz) h.1
 rwa [pX,pX]at this)
def lr(bk:Bk)(r:Rec)(l:List Int):V:=vInt (dp (gR bk r) l)
def lI(bk:Bk)(r:Rec)(l:List Int):V:=.bool (l.any (gR bk r))
def S192m:Spec:=(gA lr).c.toSpec
def S160m:Spec:=(gA lI).c.toSpec
def ET:FuncId->Option Spec:=fun f=>if f=163 then some S163m else none
theorem aaA:∀ f s,ET f=some s->aM Tryz.prog f s:=fun f s h=>by
 unfold ET at h
 split at h
 ·rename_i e;cases h;subst e;exact TX
 ·cases h
theorem ES:ET 163=some S163m:=rfl
theorem TV:aM Tryz.prog 192 S192m:=by
 refine Ro.sound (tV lr) (rs:=[.tmp 4]) Tryz.func192 Tryz.ntmps192 (by rfl) (by kernel_rfl) (by decide) ⟨_,rfl,?_⟩
 rintro⟨x,r,l⟩ hl
 replace hl:l.length<=maxLen:=hl
 refine⟨lb rfl,?_⟩
 have hΓ:=aaA
 have hO:=Ro.outC (tV lr) (x,r,l)
 have dY:cK (aV ((gA lr).fam (x,r,l) (LR (gA lr).m))) (LR 5) ((gA lr).fam (x,r,l) (LR 5)):=⟨rfl,rfl,rfl,rfl,rfl,trivial⟩
 generalize aV ((gA lr).fam (x,r,l) (LR (gA lr).m))=H at *
 have oH:∀ (F:Name->Option O) (t:Name) (f:Int),S163m.app (fun nm=>if own [0] nm=true then F nm else H nm) t [.v (vInt f),.ref [0,1] 0,.v (l8 r)]=⟨True,.v (.bool (gR x.bk r f)),fun nm=>if own [0] nm=true then F nm else H nm⟩:=fun F t f=>Ro.c_app Aw (a:=(x,r,f)) trivial (t:=t) (obj:=fun nm=>if own [0] nm=true then F nm else H nm) (Ls:=LR 5) rfl (Nv 5) (Bn dY fun y hy=>by
  obtain⟨i,_,rfl⟩:=List.mem_map.1 hy
  simp[sL])
 have ha:(gA lr).args (x,r,l) (LR (gA lr).m)=[.v (.sl (l.map vInt)),.clo (.func 163) [] [.ref [0,1] 0,.v (l8 r)]]:=rfl
 have hv:(gA lr).val (x,r,l)=.v (vInt (dp (gR x.bk r) l)):=rfl
 rw[ha,hv]
 simp only[cW,Nat.zero_add]
 repeat refine sq ?_
 refine rx hΓ [0,1] [] (fun K' hK=>by simp only[go_sem,hO];(repeat (refine⟨ao,?_⟩));exact hK _ (by simp only[go_sem,hO]) (by simp only[go_sem,hO]<;>rfl)) ?_
 repeat refine sq ?_
 refine rx hΓ [0,1,7,8] [] (fun K' hK=>by simp only[go_sem,hO];(repeat (refine⟨ao,?_⟩));exact hK _ (by simp only[go_sem,hO]) (by simp only[go_sem,hO]<;>rfl)) ?_
 repeat refine sq ?_
 refine aS ?_
 repeat refine sq ?_
 refine cv (fun s:Nat=>[(8,⟨true,.v (vInt s)⟩)]) (fun s=>[]) (fun s=>s<=l.length/\∀ k (h:k<l.length),k<s->gR x.bk r l[k]=false) (fun s=>l.length-s) 0 ?_ ?_ ?_ ?_
 ·exact⟨Nat.zero_le _,by simp⟩
 ·rfl
 ·rfl
 rintro i ⟨hi,hR⟩
 simp only[go_sem]
 repeat refine sq ?_
 refine rx hΓ [0,1,7,8,9] [] (fun K' hK=>by simp only[go_sem,hO];(repeat (refine⟨ao,?_⟩));exact hK _ (by simp only[go_sem,hO]) (by simp only[go_sem,hO]<;>rfl)) ?_
 repeat refine sq ?_
 refine aB (fun hb=>?_) fun hb=>?_
 ·have ab:i<l.length:=by simpa using hb
  have aq:(i:Int)<l.length:=by omega
  clear hb
  repeat refine sq ?_
  refine aE ?_
  repeat refine sq ?_
  refine aS ?_
  repeat refine sq ?_
  refine rx hΓ [0,1,5,7,8] [] (fun K' hK=>by simp only[go_sem,hO,ah ab,ai,ak,aq];(repeat (refine⟨ao,?_⟩));exact hK _ (by simp only[go_sem,hO,ah ab,ai,ak,aq]) (by simp only[go_sem,hO,ah ab,ai,ak,aq]<;>rfl)) ?_
  repeat refine sq ?_
  refine rx hΓ [0,1,5,7,8,16] [] (fun K' hK=>by simp only[go_sem,hO,ah ab,ai,ak,aq,ES,oH];(repeat (refine⟨ao,?_⟩));exact hK _ (by simp only[go_sem,hO,ah ab,ai,ak,aq,ES,oH]) (by simp only[go_sem,hO,ah ab,ai,ak,aq,ES,oH]<;>rfl)) ?_
  repeat refine sq ?_
  refine aB (fun hb=>?_) fun hb=>?_
  ·repeat refine sq ?_
   refine rx hΓ [4] [] (fun K' hK=>by simp only[go_sem,hO,ah ab,ai,ak,aq];(repeat (refine⟨ao,?_⟩));exact hK _ (by simp only[go_sem,hO,ah ab,ai,ak,aq]) (by simp only[go_sem,hO,ah ab,ai,ak,aq]<;>rfl)) ?_
   refine aA ?_
   simp only[go_sem,hO]
   rw[nj (p:=gR x.bk r) ab (by simpa using hb) hR];exact⟨.inr trivial,rfl⟩
  ·repeat refine sq ?_
   refine aE ?_
   refine cf ?_
   simp only[go_sem]
   refine ev [0,1,7,8] [] ?_ ?_
   ·simp only[go_sem,hO]
   simp only[go_sem,hO]
   repeat refine sq ?_
   refine aY hΓ fun K' hK=>?_
   simp only[go_sem,hO,ah ab,ai,ak,aq]
   repeat (refine⟨ao,?_⟩)
   refine hK _ ?_
   clear K' hK
   simp only[go_sem]
   refine⟨i+1,⟨ab,?_⟩,by(show l.length-(i+1)<l.length-i;omega),?_⟩
   ·intro k hk eo
    rcases Nat.lt_succ_iff_lt_or_eq.1 eo with h5 | rfl
    ·exact hR k hk h5
    ·simpa using hb
   refine bq [0,1,7,8] [] ?_ ?_<;>simp only[go_sem,bj ab hl,bn,hO]
 ·have bx:i=l.length:=by
   have :¬ (i:Int)<l.length:=by simpa using hb
   omega
  clear hb
  subst bx
  repeat refine sq ?_
  refine bV ?_
  simp only[go_sem]
  refine ev [] [] ?_ ?_
  ·simp only[go_sem,hO]
  simp only[go_sem,hO]
  repeat refine sq ?_
  refine rx hΓ [4] [] (fun K' hK=>by simp only[go_sem,hO];(repeat (refine⟨ao,?_⟩));exact hK _ (by simp only[go_sem,hO]) (by simp only[go_sem,hO]<;>rfl)) ?_
  refine aA ?_
  simp only[go_sem,hO]
  rw[s6 (p:=gR x.bk r) fun k hk=>hR k hk hk];exact⟨.inr trivial,rfl⟩
def ER:FuncId->Option Spec:=fun f=>if f=192 then some S192m else none
theorem aaz:∀ f s,ER f=some s->aM Tryz.prog f s:=fun f s h=>by
 unfold ER at h
 split at h
 ·rename_i e;cases h;subst e;exact TV
 ·cases h
theorem EP:ER 192=some S192m:=rfl
theorem TY:aM Tryz.prog 160 S160m:=by
 refine Ro.sound (tV lI) (rs:=[.tmp 4]) Tryz.func160 Tryz.ntmps160 (by rfl) (by kernel_rfl) (by decide) ⟨_,rfl,?_⟩
 rintro⟨x,r,l⟩ hl
 replace hl:l.length<=maxLen:=hl
 refine⟨lb rfl,?_⟩
 have hΓ:=aaz
 have hO:=Ro.outC (tV lI) (x,r,l)
 have dY:cK (aV ((gA lI).fam (x,r,l) (LR (gA lI).m))) (LR 5) ((gA lI).fam (x,r,l) (LR 5)):=⟨rfl,rfl,rfl,rfl,rfl,trivial⟩
 generalize aV ((gA lI).fam (x,r,l) (LR (gA lI).m))=H at *
 have oH:∀ (F:Name->Option O) (t:Name),S192m.app (fun nm=>if own [0] nm=true then F nm else H nm) t [.v (.sl (l.map vInt)),.clo (.func 163) [] [.ref [0,1] 0,.v (l8 r)]]=⟨True,.v (vInt (dp (gR x.bk r) l)),fun nm=>if own [0] nm=true then F nm else H nm⟩:=fun F t=>Ro.c_app (tV lr) (a:=(x,r,l)) hl (t:=t) (obj:=fun nm=>if own [0] nm=true then F nm else H nm) (Ls:=LR 5) rfl (Nv 5) (Bn dY fun y hy=>by
  obtain⟨i,_,rfl⟩:=List.mem_map.1 hy
  simp[sL])
 have ha:(gA lI).args (x,r,l) (LR (gA lI).m)=[.v (.sl (l.map vInt)),.clo (.func 163) [] [.ref [0,1] 0,.v (l8 r)]]:=rfl
 have hv:(gA lI).val (x,r,l)=.v (.bool (l.any (gR x.bk r))):=rfl
 rw[ha,hv]
 simp only[cW,Nat.zero_add]
 repeat refine sq ?_
 refine rx hΓ [0,1] [] (fun K' hK=>by simp only[go_sem,hO];(repeat (refine⟨ao,?_⟩));exact hK _ (by simp only[go_sem,hO]) (by simp only[go_sem,hO]<;>rfl)) ?_
 repeat refine sq ?_
 refine rx hΓ [4] [] (fun K' hK=>by simp only[go_sem,hO,EP,oH,vp];(repeat (refine⟨ao,?_⟩));exact hK _ (by simp only[go_sem,hO,EP,oH,vp]) (by simp only[go_sem,hO,EP,oH,vp]<;>rfl)) ?_
 refine aA ?_
 simp only[go_sem,hO]
 first | exact .inr trivial | exact⟨.inr trivial,rfl⟩
end
theorem Yc(b:Bk)(q p:Int×Int)(i:Int):bp (p8 b q i) p=if q=p then some i else bp b p:=by
 induction b with
 |nil=>rfl
 |cons e r ih=>
  obtain⟨k,j⟩:=e
  simp only[p8]
  by_cases h:k=q
  ·rw[if_pos h]
   subst h
   simp only[bp]
   split<;>rfl
  ·rw[if_neg h]
   simp only[bp,ih]
   by_cases h2:k=p
   ·subst h2
    rw[if_pos rfl,if_pos rfl,if_neg (fun e=>h e.symm)]
   ·rw[if_neg h2,if_neg h2]
theorem Ef(so i:Int)(lv:List Int)(b:Bk)(s f:Int):bp (oS b so i lv) (s,f)=if s=so/\f∈lv then some i else bp b (s,f):=by
 induction lv generalizing b with
 |nil=>simp[oS]
 |cons a r ih=>
  show bp (oS (p8 b (so,a) i) so i r) (s,f)=_
  rw[ih,Yc]
  by_cases h1:s=so
  ·subst h1
   by_cases h2:f∈r
   ·simp[h2]
   ·by_cases h3:a=f
    ·subst h3;simp[h2]
    ·have h4:¬ f=a:=fun e=>h3 e.symm
     simp[h2,h3,h4]
  ·have h4:¬ (so,a)=(s,f):=fun e=>h1 (by cases e;rfl)
   simp[h1,h4]
theorem Hd{k:Int}{rs:List Rec}{bk:Bk}{x:Ret}{r:Rec}(h:gS k rs bk x=some r):dU rs x.re=some r/\bY x.kn x.un k=true/\¬ bP x.lo (r.da+1)>x.hi/\x.lv.any (gR bk r)=false:=by
 unfold gS at h
 split at h
 ·cases h
 ·rename_i q hq
  split at h
  ·rename_i hc
   cases h
   simp only[Bool.and_eq_true,Bool.not_eq_true',Bool.or_eq_false_iff,decide_eq_false_iff_not]at hc
   exact⟨hq,hc.1,hc.2.1,hc.2.2⟩
  ·cases h
theorem Rq{k:Int}{rs:List Rec}{bk:Bk}{x:Ret}(h:dU rs x.re=none):gS k rs bk x=none:=by
 unfold gS;rw[h]
theorem Rp{k:Int}{rs:List Rec}{bk:Bk}{x:Ret}{r:Rec}(h:dU rs x.re=some r)(hc:bY x.kn x.un k=false):gS k rs bk x=none:=by
 unfold gS;rw[h];simp[hc]
theorem Rm{k:Int}{rs:List Rec}{bk:Bk}{x:Ret}{r:Rec}(h:dU rs x.re=some r)(hc:(decide (bP x.lo (r.da+1)>x.hi)||x.lv.any (gR bk r))=true):gS k rs bk x=none:=by
 unfold gS;rw[h]
 have gZ:(decide (bP x.lo (r.da+1)>x.hi)||x.lv.any fun f=>(bp bk (r.so,f)).isSome||!r.lv.contains f)=true:=hc
 simp only[gZ,Bool.not_true,Bool.and_false,Bool.false_eq_true,if_false]
theorem Rl{k:Int}{rs:List Rec}{bk:Bk}{x:Ret}{r:Rec}(h:dU rs x.re=some r)(h1:bY x.kn x.un k=true)(hc:(decide (bP x.lo (r.da+1)>x.hi)||x.lv.any (gR bk r))=false):gS k rs bk x=some r:=by
 unfold gS;rw[h]
 have gZ:(decide (bP x.lo (r.da+1)>x.hi)||x.lv.any fun f=>(bp bk (r.so,f)).isSome||!r.lv.contains f)=false:=hc
 simp only[gZ,h1,Bool.not_false,Bool.and_true,if_true]
theorem vi{l:Led}{k:Int}{i:Nat}(h:gS k (bz l k) (aC l k i).bk (aH l i)=none):aC l k (i+1)=aC l k i:=by
 show px l k (aC l k i) i=_
 unfold px
 rw[(ow l k i).2,h]
theorem BL{l:Led}{k:Int}{i:Nat}{r:Rec}(h:gS k (bz l k) (aC l k i).bk (aH l i)=some r):aC l k (i+1)=
 { aC l k i with bk:=oS (aC l k i).bk r.so i (aH l i).lv,ts:=(aC l k i).ts++[(i:Int)],ds:=mI (aC l k i).ds i (bP (aH l i).lo (r.da+1),(aH l i).hi) }:=by
 show px l k (aC l k i) i=_
 have h':gS k (aC l k i).rs (aC l k i).bk (aH l i)=some r:=by rw[(ow l k i).2];exact h
 unfold px
 rw[h']
structure ZC (l:Led) (k:Int) (i:Nat):Prop where
 bk:∀ q j,bp (aC l k i).bk q=some j->0<=j/\j<l.ts.length
 tn:(aC l k i).ts.length<=i
 ts:∀ j∈(aC l k i).ts,(0<=j/\j<l.ts.length)/\∃ r,dU (bz l k) (aH l j.toNat).re=some r
theorem xL(l:Led)(k:Int):∀ i,i<=l.ts.length->ZC l k i
 | 0,_=>⟨fun q j (h:none=some j)=>(by cases h),Nat.le_refl 0,fun j (h:j∈([]:List Int))=>(by cases h)⟩
 |i+1,hi=>by
  have ih:=xL l k i (by omega)
  cases hn:gS k (bz l k) (aC l k i).bk (aH l i)with
  |none=>
   have e:=vi hn
   exact⟨by rw[e];exact ih.bk,by rw[e];exact Nat.le_succ_of_le ih.tn,by rw[e];exact ih.ts⟩
  |some r=>
   have e:=BL hn
   refine⟨?_,?_,?_⟩
   ·rintro⟨s,f⟩ j h
    rw[e]at h
    simp only[Ef]at h
    split at h
    ·cases h;omega
    ·exact ih.bk _ _ h
   ·rw[e]
    have :=ih.tn
    simp;omega
   ·intro j hj
    rw[e]at hj
    rcases List.mem_append.1 hj with hj | hj
    ·exact ih.ts j hj
    ·simp only[List.mem_singleton]at hj
     subst hj
     exact⟨by omega,r,by rw[Int.toNat_natCast];exact(Hd hn).1⟩
theorem Gr{rs:List Rec}{s:Int}{r:Rec}(h:dU rs s=some r):r∈rs/\r.so=s:=by
 unfold dU at h
 exact⟨List.mem_of_find?_eq_some h,by simpa using List.find?_some h⟩
theorem A4{l:Led}(h:bF l)(k:Int):∀ r∈bz l k,dP r=true:=fun r hr=>h.recs r ((List.mem_filter.1 hr).1)
theorem Gf{l:Led}(h:bF l)(k:Int):(bz l k).length<=60:=Nat.le_trans (List.length_filter_le _ _) h.rsn
theorem Ge{l:Led}(h:bF l)(k:Int):(bz l k).Nodup:=by
 refine List.Nodup.sublist List.filter_sublist ?_
 have hs:srt Rec.so l.rs:=uU (j'.1 h.rs)
 rw[List.nodup_iff_pairwise_ne,List.pairwise_iff_getElem]
 intro i j hi hj cb e
 have :=hs i j hi hj cb
 rw[e]at this
 omega
theorem nh{l:Led}(h:bF l)(k:Int):mP (aj l k)/\(aj l k).rs.Nodup:=by
 have hk:=xL l k l.ts.length (Nat.le_refl _)
 obtain⟨e1,e2⟩:=ow l k l.ts.length
 refine⟨⟨?_,?_,?_,?_,?_,?_⟩,?_⟩
 ·show bF (aC l k l.ts.length).l;rw[e1];exact h
 ·show ∀ q i,bp (aC l k l.ts.length).bk q=some i->0<=i/\i<(aC l k l.ts.length).l.ts.length
  rw[e1];exact hk.bk
 ·show ∀ r∈(aC l k l.ts.length).rs,_;rw[e2];exact A4 h k
 ·show (aC l k l.ts.length).rs.length<=60;rw[e2];exact Gf h k
 ·exact Nat.le_trans hk.tn h.tsn
 ·show ∀ i∈(aC l k l.ts.length).ts,0<=i/\i<(aC l k l.ts.length).l.ts.length
  rw[e1];exact fun i hi=>(hk.ts i hi).1
 ·show (aC l k l.ts.length).rs.Nodup;rw[e2];exact Ge h k
noncomputable section
theorem Lg{α:Type}{p:α->Bool}{l:List α}{i:Nat}(h:i<l.length):((l.take (i+1)).filter p)=(l.take i).filter p++(if p l[i]=true then[l[i]]else[]):=Ay h
def ue:FuncId->Option Spec:=fun f=>if f=77 then some S77m else if f=160 then some S160m else if f=162 then some S162 else if f=164 then some S164 else none
theorem aay:∀ f s,ue f=some s->aM Tryz.prog f s:=fun f s h=>by
 unfold ue at h
 split at h
 ·rename_i e;cases h;subst e;exact TS
 ·split at h
  ·rename_i e;cases h;subst e;exact TY
  ·split at h
   ·rename_i e;cases h;subst e;exact Jm
   ·split at h
    ·rename_i e;cases h;subst e;exact B3
    ·cases h
@[go_sem] theorem aer:ue 77=some S77m:=rfl
@[go_sem] theorem aeu:ue 160=some S160m:=rfl
@[go_sem] theorem aet:ue 162=some S162:=rfl
@[go_sem] theorem aes:ue 164=some S164:=rfl
def l4(l:Led)(k:Int)(s:Nat):List Rec:=(l.rs.take s).filter fun r=>bY r.kn r.un k
theorem Qi(l:Led)(k:Int):l4 l k l.rs.length=bz l k:=by unfold l4 bz;rw[List.take_length]
theorem Qf{l:Led}{k:Int}{i:Nat}(h:i<l.rs.length)(hc:bY l.rs[i].kn l.rs[i].un k=true):l4 l k (i+1)=l4 l k i++[l.rs[i]]:=by
 unfold l4;rw[Lg h,if_pos hc]
theorem Qg{l:Led}{k:Int}{i:Nat}(h:i<l.rs.length)(hc:bY l.rs[i].kn l.rs[i].un k=false):l4 l k (i+1)=l4 l k i:=by
 unfold l4;rw[Lg h,if_neg (by rw[hc];decide)];simp
theorem Qh(l:Led)(k:Int)(i:Nat):(l4 l k i).length<=l.rs.length:=Nat.le_trans (List.length_filter_le _ _) (by simp;omega)
attribute [go_sem] cK
def K29b:List (Nat×Spec):=[(77,S77),(164,S164),(165,S165)]
theorem aax:KS K29b:=tc Jl<|tc B3<|tc B2<|tn
attribute [go_sem] K29b
theorem RX(l:Led)(k i j:Int)(n:Nat)(x:Vw)(r:Rec)(lv:List Int):Ai (gT l k i j n x r lv) (jA 4 r.pa lv) where
 ren:=fun f Ls h=>by obtain⟨a,b,c,d,e,rfl⟩:=kx h;rfl
 clo:=fun dom Ls h hd=>by
  obtain⟨a,b,c,d,e,rfl⟩:=kx h
  have h4:=hd e (by simp)
  simp[D.closL,D.clos,h4,jA]
 reach:=fun Ls s obj R q h bN hF h0=>by
  obtain⟨a,b,c,d,e,rfl⟩:=kx h
  obtain⟨h1,h2,h3,h4,h5,_⟩:=hF
  have en:cS (((gT l k i j n x r lv).env [a,b,c,d,e]).map (·.d))=[a,e]:=rfl
  have ec:cS (jA 4 r.pa lv [a,b,c,d,e])=[e]:=rfl
  rw[ec]
  show dn obj (q+90+1+1+1+1+1+1+1+1+1+1+1) _ []=_
  simp only[List.nodup_cons,List.mem_cons,List.not_mem_nil,or_false,not_or,not_false_eq_true,List.nodup_nil,and_true]at bN
  obtain⟨⟨r1,r2,r3,r4,r5⟩,⟨a1,a2,a3,a4⟩,⟨b1,b2,b3⟩,⟨c1,c2⟩,e1⟩:=bN
  simp[dn,gb,h0,h1,h2,h3,h4,h5,Lp.rc,ln,en,cS,lq,bt,Ne.symm r1,Ne.symm r2,Ne.symm r3,Ne.symm r4,Ne.symm r5,Ne.symm a1,Ne.symm a2,Ne.symm a3,Ne.symm a4,Ne.symm b1,Ne.symm b2,Ne.symm b3,Ne.symm c1,Ne.symm c2,Ne.symm e1]
theorem Yd(b:Bk)(so i:Int){lv:List Int}{s:Nat}(h:s<lv.length):oS b so i (lv.take (s+1))=p8 (oS b so i (lv.take s)) (so,lv[s]) i:=by
 unfold oS
 rw[List.take_add_one,List.getElem?_eq_getElem h,List.foldl_append]
 rfl
def Ad:NSpec:=n2 mi iI (fun l _=>bF l) (fun l k=>[([26,0],bt (aj l k) [23,0] [24,0]),([23,0],.map 2 (bR (aj l k).bk)),([24,0],.map 0 (bD (aj l k).ds))]) (fun _ _=>.ref [26,0] 0)
def S76:Spec:=Ad.toSpec
attribute [go_sem] Ad S76
set_option maxHeartbeats 16000000 in
theorem xP:aM Tryz.prog 76 S76:=by
 refine Bs (nt:=181) (rs:=[.tmp 4]) Tryz.func76 rfl (by rfl) (by kernel_rfl) (by kernel_rfl) (by decide) ?_
 intro xs hp
 obtain⟨l,k,rfl,hp,eF,eE⟩:=Bx hp
 replace eF:Ad.new _=_:=eF
 replace eE:Ad.d _=_:=eE
 rw[eF,eE]
 clear eF eE
 refine⟨lb rfl,?_⟩
 have hP:=fL
 simp only[iI,iB,eh,iP,iR,iT,iS,iL,mi,fE,iC,iF,dk,encR,dB,encS,fc,iW,List.map_cons,List.map_nil,cW,Nat.zero_add]
 have hΓ:=aay
 have yz:l.rs.length<=maxLen:=by have:=hp.rsn;unfold maxLen;omega
 have lz:l.ts.length<=maxLen:=by have:=hp.tsn;unfold maxLen;omega
 repeat refine sq ?_
 refine rx hΓ [0,1] [] (fun K' hK=>by simp only[go_sem];exact an) ?_
 repeat refine sq ?_
 refine rx hΓ [0,1,5] [[5,0],[23,0],[24,0],[26,0],[49,0],[124,0]] (fun K' hK=>by simp only[go_sem];exact an) ?_
 refine bZ (uj [26,0] [49,0] 1 7 _ rfl rfl rfl [0,1,5] [[5,0],[23,0],[24,0],[26,0],[49,0],[124,0]] ?_ rfl) ?_
 ·simp only[go_sem,List.set_cons_succ,List.set_cons_zero]
 simp only[go_sem,List.set_cons_succ,List.set_cons_zero]
 refine bZ (uj [26,0] [124,0] 2 1 _ rfl rfl rfl [0,1,5] [[5,0],[23,0],[24,0],[26,0],[49,0],[124,0]] ?_ rfl) ?_
 ·simp only[go_sem,List.set_cons_succ,List.set_cons_zero]
 simp only[go_sem,List.set_cons_succ,List.set_cons_zero]
 repeat refine sq ?_
 refine rx hΓ [0,1,5,30,31,32] [[5,0],[23,0],[24,0],[26,0],[49,0],[124,0]] (fun K' hK=>by simp only[go_sem];exact an) ?_
 repeat refine sq ?_
 refine aS ?_
 repeat refine sq ?_
 refine cv (fun s:Nat=>[(32,⟨true,.v (vInt s)⟩)]) (fun s=>[([26,0],.box [.v (iW l),.msl [49,0] (l4 l k s).length,.msl [124,0] 0,.map [23,0],.map [24,0]]),([49,0],.arr 7 ((l4 l k s).map encR))]) (fun s=>s<=l.rs.length) (fun s=>l.rs.length-s) 0 ?_ ?_ ?_ ?_
 ·exact Nat.zero_le _
 ·rfl
 ·rfl
 rintro i hi
 simp only[go_sem]
 repeat refine sq ?_
 refine rx hΓ [0,1,5,30,31,32,33] [[5,0],[23,0],[24,0],[26,0],[49,0],[124,0]] (fun K' hK=>by simp only[go_sem];exact an) ?_
 repeat refine sq ?_
 refine aB (fun hb=>?_) fun hb=>?_
 ·have ab:i<l.rs.length:=by simpa using hb
  have aq:(i:Int)<l.rs.length:=by omega
  clear hb
  have pF:=Qh l k i
  have mq:=hp.rsn
  repeat refine sq ?_
  refine aE ?_
  repeat refine sq ?_
  refine aS ?_
  repeat refine sq ?_
  refine rx hΓ [0,1,5,7,30,31,32] [[5,0],[7,0],[23,0],[24,0],[26,0],[49,0],[124,0]] (fun K' hK=>by simp only[go_sem,ah ab,ai,ak,aq];exact an) ?_
  repeat refine sq ?_
  refine rx hΓ [0,1,5,7,30,31,32,41] [[5,0],[7,0],[23,0],[24,0],[26,0],[49,0],[124,0]] (fun K' hK=>by simp only[go_sem,ah ab,ai,ak,aq];exact an) ?_
  repeat refine sq ?_
  refine aB (fun hb=>?_) fun hb=>?_
  ·repeat refine sq ?_
   have hT:=Qf ab hb
   repeat refine sq ?_
   refine tU hΓ hP [[],[],[1],[1,2],[1,2,3],[],[5],[1,2,3,4,5,6],u8,u9,cZ] (by kernel_rfl) fun K' hK=>?_
   simp only[go_sem,ah ab,ai,ak,aq]
   repeat (refine⟨ao,?_⟩)
   first | refine⟨by rfl,?_⟩ | skip
   refine hK _ ?_
   clear K' hK
   simp only[go_sem]
   refine kp [0,1,5,30,31,32] [[5,0],[23,0],[24,0],[26,0],[49,0],[124,0]] ?_
   repeat refine sq ?_
   refine aY hΓ fun K' hK=>?_
   simp only[go_sem,ah ab,ai,ak,aq]
   repeat (refine⟨ao,?_⟩)
   refine hK _ ?_
   clear K' hK
   simp only[go_sem]
   refine⟨i+1,ab,by(show l.rs.length-(i+1)<l.rs.length-i;omega),?_⟩
   refine bq [0,1,5,30,31,32] [[5,0],[23,0],[24,0],[26,0],[49,0],[124,0]] ?_ ?_<;>simp only[go_sem,bj ab yz,bn,hT,List.map_append,List.map_cons,List.map_nil,List.length_append,List.length_cons,List.length_nil]
  ·repeat refine sq ?_
   have hT:=Qg ab hb
   refine aE ?_
   refine cf ?_
   simp only[go_sem]
   refine kp [0,1,5,30,31,32] [[5,0],[23,0],[24,0],[26,0],[49,0],[124,0]] ?_
   repeat refine sq ?_
   refine aY hΓ fun K' hK=>?_
   simp only[go_sem,ah ab,ai,ak,aq]
   repeat (refine⟨ao,?_⟩)
   refine hK _ ?_
   clear K' hK
   simp only[go_sem]
   refine⟨i+1,ab,by(show l.rs.length-(i+1)<l.rs.length-i;omega),?_⟩
   refine bq [0,1,5,30,31,32] [[5,0],[23,0],[24,0],[26,0],[49,0],[124,0]] ?_ ?_<;>simp only[go_sem,bj ab yz,bn,hT,List.map_append,List.map_cons,List.map_nil,List.length_append,List.length_cons,List.length_nil]
 ·have bx:i=l.rs.length:=by
   have :¬ (i:Int)<l.rs.length:=by simpa using hb
   omega
  clear hb
  subst bx
  repeat refine sq ?_
  refine bV ?_
  simp only[go_sem]
  refine kp [0,1,5] [[5,0],[23,0],[24,0],[26,0],[49,0],[124,0]] ?_
  simp only[Qi]
  repeat refine sq ?_
  refine rx hΓ [0,1,5,56,57,58] [[5,0],[23,0],[24,0],[26,0],[49,0],[124,0]] (fun K' hK=>by simp only[go_sem];exact an) ?_
  refine bZ (wN [26,0] [49,0] 1 _ _ _ _ rfl rfl rfl (by first | rfl | (simp only[List.length_map];done)) [0,1,5,56,57,58] [[5,0],[23,0],[24,0],[26,0],[49,0],[124,0]] ?_ rfl) ?_
  ·simp only[go_sem,List.set_cons_succ,List.set_cons_zero]
  simp only[go_sem,List.set_cons_succ,List.set_cons_zero]
  repeat refine sq ?_
  refine aS ?_
  repeat refine sq ?_
  refine cv (fun s:Nat=>[(58,⟨true,.v (vInt s)⟩)]) (fun s=>[([26,0],.box [.v (iW l),.v (.sl ((bz l k).map encR)),.msl [124,0] (aC l k s).ts.length,.map [23,0],.map [24,0]]),([124,0],.arr 1 ((aC l k s).ts.map vInt)),([23,0],.map 2 (bR (aC l k s).bk)),([24,0],.map 0 (bD (aC l k s).ds))]) (fun s=>s<=l.ts.length) (fun s=>l.ts.length-s) 0 ?_ ?_ ?_ ?_
  ·exact Nat.zero_le _
  ·rfl
  ·rfl
  rintro i1 hi
  simp only[go_sem]
  repeat refine sq ?_
  refine rx hΓ [0,1,5,56,57,58,59] [[5,0],[23,0],[24,0],[26,0],[49,0],[124,0]] (fun K' hK=>by simp only[go_sem];exact an) ?_
  repeat refine sq ?_
  refine aB (fun hb=>?_) fun hb=>?_
  ·have aU:i1<l.ts.length:=by simpa using hb
   have bJ:(i1:Int)<l.ts.length:=by omega
   clear hb
   have hx:aH l i1=l.ts[i1]:=nY aU
   obtain⟨e1,e2⟩:=ow l k i1
   have hk:=xL l k i1 (Nat.le_of_lt aU)
   have jo:=hp.rets aU
   rw[hx]at jo
   have nu:=(Qo jo).2
   have yA:l.ts[i1].lv.length<=maxLen:=by unfold maxLen;omega
   have qF:=hk.tn
   have ad5:=hp.tsn
   have qM:∀ (obj:Name->Option O) (t:Name),obj [26,0]=some (.box [.v (iW l),.v (.sl ((bz l k).map encR)),.msl [124,0] (aC l k i1).ts.length,.map [23,0],.map [24,0]])->obj [124,0]=some (.arr 1 ((aC l k i1).ts.map vInt))->obj [23,0]=some (.map 2 (bR (aC l k i1).bk))->obj [24,0]=some (.map 0 (bD (aC l k i1).ds))->
       S77m.app obj t [.ref [26,0] 0,.v (vInt l.ts[i1].re)]=⟨True,.tup [l6 (dU (bz l k) l.ts[i1].re),.v (.bool (dU (bz l k) l.ts[i1].re).isSome)],obj⟩:=fun obj t h1 h2 h3 h4=>by
    have :=Ro.c_app A9 (a:=(aC l k i1,l.ts[i1].re)) trivial (t:=t) (obj:=obj) (Ls:=[[26,0],[124,0],[23,0],[24,0]]) rfl (by decide) (by show cK obj _ (pR (aC l k i1) _);simp only[pR,jY,e1,e2];exact⟨h1,h2,h3,h4,trivial⟩)
    refine this.trans ?_
    show (⟨True,.tup [l6 (dU (aC l k i1).rs l.ts[i1].re),.v (.bool (dU (aC l k i1).rs l.ts[i1].re).isSome)],obj⟩:R)=_
    rw[e2]
   have VZ:∀ (r:Rec) (obj:Name->Option O) (t:Name),obj [5,0]=some (.box [.ref [26,0] 0])->obj [26,0]=some (.box [.v (iW l),.v (.sl ((bz l k).map encR)),.msl [124,0] (aC l k i1).ts.length,.map [23,0],.map [24,0]])->obj [124,0]=some (.arr 1 ((aC l k i1).ts.map vInt))->obj [23,0]=some (.map 2 (bR (aC l k i1).bk))->obj [24,0]=some (.map 0 (bD (aC l k i1).ds))->
       S160m.app obj t [.v (.sl (l.ts[i1].lv.map vInt)),.clo (.func 163) [] [.ref [5,0] 0,.v (.ptr [vInt r.so,vInt r.bo,vInt r.pa,.sl (r.lv.map vInt),vInt r.da,vInt r.kn,vInt r.un])]]=⟨True,.v (.bool (l.ts[i1].lv.any (gR (aC l k i1).bk r))),obj⟩:=fun r obj t h0 h1 h2 h3 h4=>by
    have :=Ro.c_app (tV lI) (a:=(aC l k i1,r,l.ts[i1].lv)) yA (t:=t) (obj:=obj) (Ls:=[[5,0],[26,0],[124,0],[23,0],[24,0]]) rfl (by decide) (by
     show cK obj _ (.box [.ref [26,0] 0]::pR (aC l k i1) [[26,0],[124,0],[23,0],[24,0]])
     simp only[pR,jY,e1,e2];exact⟨h0,h1,h2,h3,h4,trivial⟩)
    exact this
   repeat refine sq ?_
   refine aE ?_
   repeat refine sq ?_
   refine aS ?_
   repeat refine sq ?_
   refine rx hΓ [0,1,5,8,9,56,57,58] [[5,0],[9,0],[23,0],[24,0],[26,0],[49,0],[124,0]] (fun K' hK=>by simp only[go_sem,ah aU,ai,ak,bJ];exact an) ?_
   rcases cU:dU (bz l k) l.ts[i1].re with _ | r
   ·have pK:aC l k (i1+1)=aC l k i1:=vi (Rq (by rw[hx];exact cU))
    repeat refine sq ?_
    refine rx hΓ [0,1,5,8,9,10,11,56,57,58] [[5,0],[9,0],[10,0],[23,0],[24,0],[26,0],[49,0],[124,0]] (fun K' hK=>by simp only[go_sem,ah aU,ai,ak,bJ,cU,bh,Option.isSome_none];rw[qM _ _ rfl rfl rfl rfl];simp only[go_sem,ah aU,ai,ak,bJ,cU,bh,Option.isSome_none];exact an) ?_
    refine bZ (dt 10 (.ref [10,0] 0) (by simp only[go_sem]) (by simp only[go_sem]) [0,1,5,8,9,10,11,56,57,58] [[5,0],[9,0],[10,0],[23,0],[24,0],[26,0],[49,0],[124,0]] ?_ rfl) ?_
    ·simp only[go_sem]
    simp only[go_sem]
    repeat refine sq ?_
    refine rx hΓ [0,1,5,8,9,10,56,57,58,80] [[5,0],[9,0],[10,0],[23,0],[24,0],[26,0],[49,0],[124,0]] (fun K' hK=>by simp only[go_sem,ah aU,ai,ak,bJ,cU,bh,Option.isSome_none];exact an) ?_
    repeat refine sq ?_
    refine aB (fun hb=>?_) fun hb=>?_
    ·repeat refine sq ?_
     refine bV ?_
     simp only[go_sem]
     refine kp [0,1,5,56,57,58] [[5,0],[23,0],[24,0],[26,0],[49,0],[124,0]] ?_
     repeat refine sq ?_
     refine aY hΓ fun K' hK=>?_
     simp only[go_sem,ah aU,ai,ak,bJ,cU,bh,Option.isSome_none]
     repeat (refine⟨ao,?_⟩)
     refine hK _ ?_
     clear K' hK
     simp only[go_sem]
     refine⟨i1+1,aU,by(show l.ts.length-(i1+1)<l.ts.length-i1;omega),?_⟩
     refine bq [0,1,5,56,57,58] [[5,0],[23,0],[24,0],[26,0],[49,0],[124,0]] ?_ ?_<;>simp only[go_sem,bj aU lz,bn,pK]
    ·cases hb
   ·obtain⟨JO,bQ⟩:=Gr cU
    have vF:=A4 hp k r JO
    have gv:=wL (Gi vF)
    repeat refine sq ?_
    refine rx hΓ [0,1,5,8,9,10,11,56,57,58] [[5,0],[9,0],[10,0],[23,0],[24,0],[26,0],[49,0],[124,0]] (fun K' hK=>by simp only[go_sem,ah aU,ai,ak,bJ,cU,aF,Option.isSome_some];rw[qM _ _ rfl rfl rfl rfl];simp only[go_sem,ah aU,ai,ak,bJ,cU,aF,Option.isSome_some];exact an) ?_
    refine bZ (dt 10 (.ref [10,0] 0) (by simp only[go_sem]) (by simp only[go_sem]) [0,1,5,8,9,10,11,56,57,58] [[5,0],[9,0],[10,0],[23,0],[24,0],[26,0],[49,0],[124,0]] ?_ rfl) ?_
    ·simp only[go_sem]
    simp only[go_sem]
    repeat refine sq ?_
    refine rx hΓ [0,1,5,8,9,10,56,57,58,80] [[5,0],[9,0],[10,0],[23,0],[24,0],[26,0],[49,0],[124,0]] (fun K' hK=>by simp only[go_sem,ah aU,ai,ak,bJ,cU,aF,Option.isSome_some];exact an) ?_
    repeat refine sq ?_
    refine aB (fun hb=>?_) fun hb=>?_
    ·repeat refine sq ?_
     have pK:aC l k (i1+1)=aC l k i1:=vi (Rp (by rw[hx];exact cU) (by rw[hx];simpa using hb))
     refine bV ?_
     simp only[go_sem]
     refine kp [0,1,5,56,57,58] [[5,0],[23,0],[24,0],[26,0],[49,0],[124,0]] ?_
     repeat refine sq ?_
     refine aY hΓ fun K' hK=>?_
     simp only[go_sem,ah aU,ai,ak,bJ,cU,aF,Option.isSome_some]
     repeat (refine⟨ao,?_⟩)
     refine hK _ ?_
     clear K' hK
     simp only[go_sem]
     refine⟨i1+1,aU,by(show l.ts.length-(i1+1)<l.ts.length-i1;omega),?_⟩
     refine bq [0,1,5,56,57,58] [[5,0],[23,0],[24,0],[26,0],[49,0],[124,0]] ?_ ?_<;>simp only[go_sem,bj aU lz,bn,pK]
    ·repeat refine sq ?_
     have VV:bY l.ts[i1].kn l.ts[i1].un k=true:=by simpa using hb
     refine aE ?_
     repeat refine sq ?_
     refine rx hΓ [0,1,5,8,9,10,12,56,57,58] [[5,0],[9,0],[10,0],[23,0],[24,0],[26,0],[49,0],[124,0]] (fun K' hK=>by simp only[go_sem,ah aU,ai,ak,bJ,cU,aF,Option.isSome_some,gv];exact an) ?_
     obtain⟨fs,pO⟩:∃ fs,bP l.ts[i1].lo (r.da+1)=fs:=⟨_,rfl⟩
     have Ko:=pO
     unfold bP at Ko
     rw[Ko]
     repeat refine sq ?_
     refine rx hΓ [0,1,5,8,9,10,12,13,56,57,58] [[5,0],[9,0],[10,0],[23,0],[24,0],[26,0],[49,0],[124,0]] (fun K' hK=>by simp only[go_sem,ah aU,ai,ak,bJ,cU,aF,Option.isSome_some];exact an) ?_
     repeat refine sq ?_
     refine rx hΓ [0,1,5,8,9,10,12,56,57,58,99] [[5,0],[9,0],[10,0],[23,0],[24,0],[26,0],[49,0],[124,0]] (fun K' hK=>by simp only[go_sem,ah aU,ai,ak,bJ,cU,aF,Option.isSome_some];rw[VZ r _ _ rfl rfl rfl rfl rfl];simp only[go_sem,ah aU,ai,ak,bJ,cU,aF,Option.isSome_some];exact an) ?_
     repeat refine sq ?_
     refine aB (fun hb=>?_) fun hb=>?_
     ·repeat refine sq ?_
      have pK:aC l k (i1+1)=aC l k i1:=vi (Rm (by rw[hx];exact cU) (by rw[hx,pO];exact hb))
      refine bV ?_
      simp only[go_sem]
      refine kp [0,1,5,56,57,58] [[5,0],[23,0],[24,0],[26,0],[49,0],[124,0]] ?_
      repeat refine sq ?_
      refine aY hΓ fun K' hK=>?_
      simp only[go_sem,ah aU,ai,ak,bJ,cU,aF,Option.isSome_some]
      repeat (refine⟨ao,?_⟩)
      refine hK _ ?_
      clear K' hK
      simp only[go_sem]
      refine⟨i1+1,aU,by(show l.ts.length-(i1+1)<l.ts.length-i1;omega),?_⟩
      refine bq [0,1,5,56,57,58] [[5,0],[23,0],[24,0],[26,0],[49,0],[124,0]] ?_ ?_<;>simp only[go_sem,bj aU lz,bn,pK]
     ·repeat refine sq ?_
      have pK:=BL (Rl (k:=k) (rs:=bz l k) (bk:=(aC l k i1).bk) (x:=aH l i1) (r:=r) (by rw[hx];exact cU) (by rw[hx];exact VV) (by rw[hx,pO];exact hb))
      rw[hx,pO]at pK
      refine aE ?_
      repeat refine sq ?_
      refine rx hΓ [0,1,5,8,9,10,12,56,57,58,101,102,103] [[5,0],[9,0],[10,0],[23,0],[24,0],[26,0],[49,0],[124,0]] (fun K' hK=>by simp only[go_sem,ah aU,ai,ak,bJ,cU,aF,Option.isSome_some];exact an) ?_
      repeat refine sq ?_
      refine aS ?_
      repeat refine sq ?_
      refine cv (fun s:Nat=>[(103,⟨true,.v (vInt s)⟩)]) (fun s=>[([23,0],.map 2 (bR (oS (aC l k i1).bk r.so i1 (l.ts[i1].lv.take s))))]) (fun s=>s<=l.ts[i1].lv.length) (fun s=>l.ts[i1].lv.length-s) 0 ?_ ?_ ?_ ?_
      ·exact Nat.zero_le _
      ·rfl
      ·rfl
      rintro i2 hi
      simp only[go_sem]
      repeat refine sq ?_
      refine rx hΓ [0,1,5,8,9,10,12,56,57,58,101,102,103,104] [[5,0],[9,0],[10,0],[23,0],[24,0],[26,0],[49,0],[124,0]] (fun K' hK=>by simp only[go_sem,ah aU,ai,ak,bJ,cU,aF,Option.isSome_some];exact an) ?_
      repeat refine sq ?_
      refine aB (fun hb=>?_) fun hb=>?_
      ·have dz:i2<l.ts[i1].lv.length:=by simpa using hb
       have mv:(i2:Int)<l.ts[i1].lv.length:=by omega
       clear hb
       have WH:=Yd (aC l k i1).bk r.so i1 dz
       repeat refine sq ?_
       refine aE ?_
       repeat refine sq ?_
       refine aS ?_
       repeat refine sq ?_
       refine rx hΓ [0,1,5,8,9,10,12,15,56,57,58,101,102,103] [[5,0],[9,0],[10,0],[23,0],[24,0],[26,0],[49,0],[124,0]] (fun K' hK=>by simp only[go_sem,ah aU,ai,ak,bJ,cU,aF,Option.isSome_some,ah dz,ai,ak,mv];exact an) ?_
       repeat refine sq ?_
       refine tU hΓ hP [[],[0],[0,1],[0,1,2],[],[4],[],[4,5,6],[],u9] (by kernel_rfl) fun K' hK=>?_
       simp only[go_sem,ah aU,ai,ak,bJ,cU,aF,Option.isSome_some,ah dz,ai,ak,mv,Rv]
       repeat (refine⟨ao,?_⟩)
       first | refine⟨by rfl,?_⟩ | skip
       refine hK _ ?_
       clear K' hK
       simp only[go_sem]
       refine kp [0,1,5,8,9,10,12,56,57,58,101,102,103] [[5,0],[9,0],[10,0],[23,0],[24,0],[26,0],[49,0],[124,0]] ?_
       repeat refine sq ?_
       refine aY hΓ fun K' hK=>?_
       simp only[go_sem,ah aU,ai,ak,bJ,cU,aF,Option.isSome_some,ah dz,ai,ak,mv]
       repeat (refine⟨ao,?_⟩)
       refine hK _ ?_
       clear K' hK
       simp only[go_sem]
       refine⟨i2+1,dz,by(show l.ts[i1].lv.length-(i2+1)<l.ts[i1].lv.length-i2;omega),?_⟩
       refine bq [0,1,5,8,9,10,12,56,57,58,101,102,103] [[5,0],[9,0],[10,0],[23,0],[24,0],[26,0],[49,0],[124,0]] ?_ ?_<;>simp only[go_sem,bj dz yA,bn,WH]
      ·have rh:i2=l.ts[i1].lv.length:=by
        have :¬ (i2:Int)<l.ts[i1].lv.length:=by simpa using hb
        omega
       clear hb
       subst rh
       repeat refine sq ?_
       refine bV ?_
       simp only[go_sem]
       refine kp [0,1,5,8,9,12,56,57,58] [[5,0],[9,0],[23,0],[24,0],[26,0],[49,0],[124,0]] ?_
       repeat refine sq ?_
       refine dx hΓ hP [[],[],[1],[1,2],[1,2,3],[],[5],[1,2,3,4,5,6],u8,u9,cZ] [0,1,5,8,9,12,56,57,58] [[5,0],[9,0],[23,0],[24,0],[26,0],[49,0],[124,0]] (by kernel_rfl) (fun K' hK=>by simp only[go_sem,ah aU,ai,ak,bJ,cU,aF,Option.isSome_some];exact kM) ?_
       repeat refine sq ?_
       refine tU hΓ hP [[],[0],[0,1],[0,1,2],[],[],[],[6],[6,7],[5,6,7,8],cZ] (by kernel_rfl) fun K' hK=>?_
       simp only[go_sem,ah aU,ai,ak,bJ,cU,aF,Option.isSome_some,Hg]
       repeat (refine⟨ao,?_⟩)
       first | refine⟨by rfl,?_⟩ | skip
       refine hK _ ?_
       clear K' hK
       simp only[go_sem]
       refine kp [0,1,5,56,57,58] [[5,0],[23,0],[24,0],[26,0],[49,0],[124,0]] ?_
       repeat refine sq ?_
       refine aY hΓ fun K' hK=>?_
       simp only[go_sem,ah aU,ai,ak,bJ,cU,aF,Option.isSome_some]
       repeat (refine⟨ao,?_⟩)
       refine hK _ ?_
       clear K' hK
       simp only[go_sem]
       refine⟨i1+1,aU,by(show l.ts.length-(i1+1)<l.ts.length-i1;omega),?_⟩
       refine bq [0,1,5,56,57,58] [[5,0],[23,0],[24,0],[26,0],[49,0],[124,0]] ?_ ?_<;>simp only[go_sem,bj aU lz,bn,pK,List.take_length,List.map_append,List.map_cons,List.map_nil,List.length_append,List.length_cons,List.length_nil]
  ·have kI:i1=l.ts.length:=by
    have :¬ (i1:Int)<l.ts.length:=by simpa using hb
    omega
   clear hb
   subst kI
   repeat refine sq ?_
   refine bV ?_
   simp only[go_sem]
   refine kp [0,5] [[5,0],[23,0],[24,0],[26,0],[49,0],[124,0]] ?_
   have hk:=xL l k l.ts.length (Nat.le_refl _)
   obtain⟨e1,e2⟩:=ow l k l.ts.length
   have hΓ:=aax
   have UD:(aC l k l.ts.length).ts.length<=maxLen:=Nat.le_trans hk.tn lz
   refine bZ (wN [26,0] [124,0] 2 _ _ _ _ rfl rfl rfl (by first | rfl | (simp only[List.length_map];done)) [0,5] [[5,0],[23,0],[24,0],[26,0],[49,0],[124,0]] ?_ rfl) ?_
   ·simp only[go_sem,List.set_cons_succ,List.set_cons_zero]
   simp only[go_sem,List.set_cons_succ,List.set_cons_zero]
   repeat refine sq ?_
   refine rx hΓ [0,5,141,142,143] [[5,0],[23,0],[24,0],[26,0],[49,0],[124,0]] (fun K' hK=>by simp only[go_sem];exact an) ?_
   repeat refine sq ?_
   refine aS ?_
   repeat refine sq ?_
   refine cv (fun s:Nat=>[(143,⟨true,.v (vInt s)⟩)]) (fun s=>[([24,0],.map 0 (bD (gU l (bz l k) (aC l k l.ts.length).ts (aC l k l.ts.length).ds s)))]) (fun s=>s<=(aC l k l.ts.length).ts.length) (fun s=>(aC l k l.ts.length).ts.length-s) 0 ?_ ?_ ?_ ?_
   ·exact Nat.zero_le _
   ·rfl
   ·rfl
   rintro i3 hi
   simp only[go_sem]
   repeat refine sq ?_
   refine rx hΓ [0,5,141,142,143,144] [[5,0],[23,0],[24,0],[26,0],[49,0],[124,0]] (fun K' hK=>by simp only[go_sem];exact an) ?_
   repeat refine sq ?_
   refine aB (fun hb=>?_) fun hb=>?_
   ·have nw:i3<(aC l k l.ts.length).ts.length:=by simpa using hb
    have yy:(i3:Int)<(aC l k l.ts.length).ts.length:=by omega
    clear hb
    obtain⟨⟨bB,db⟩,r,mo⟩:=hk.ts (aC l k l.ts.length).ts[i3] (List.getElem_mem nw)
    have iH:=wT bB db
    have hD:gU l (bz l k) (aC l k l.ts.length).ts (aC l k l.ts.length).ds (i3+1)=kr (gU l (bz l k) (aC l k l.ts.length).ts (aC l k l.ts.length).ds i3) (aC l k l.ts.length).ts[i3] r.da (dm (bz l k) r.pa (aH l (aC l k l.ts.length).ts[i3].toNat).lv):=by
     show kr _ ((aC l k l.ts.length).ts.getD i3 0) (lj (bz l k) (aH l ((aC l k l.ts.length).ts.getD i3 0).toNat).re).da (dm _ (lj (bz l k) (aH l ((aC l k l.ts.length).ts.getD i3 0).toNat).re).pa _)=_
     rw[bW nw];unfold lj;rw[mo];rfl
    repeat refine sq ?_
    refine aE ?_
    repeat refine sq ?_
    refine aS ?_
    repeat refine sq ?_
    refine rx hΓ [0,5,17,141,142,143] [[5,0],[17,0],[23,0],[24,0],[26,0],[49,0],[124,0]] (fun K' hK=>by simp only[go_sem,ah nw,ai,ak,yy];exact an) ?_
    refine bZ (dt 17 (.ref [17,0] 0) (by simp only[go_sem]) (by simp only[go_sem]) [0,5,17,141,142,143] [[5,0],[17,0],[23,0],[24,0],[26,0],[49,0],[124,0]] ?_ rfl) ?_
    ·simp only[go_sem]
    simp only[go_sem]
    repeat refine sq ?_
    refine dx hΓ hP [[],[0],[0,1],[0,1,2],[],u5,u6,[],u8] [0,5,17,18,141,142,143] [[5,0],[17,0],[18,0],[23,0],[24,0],[26,0],[49,0],[124,0]] (by kernel_rfl) (fun K' hK=>by simp only[go_sem,ah nw,ai,ak,yy,iH,bB,db];exact kM) ?_
    refine bZ (dt 18 (.ref [18,0] 0) (by simp only[go_sem]) (by simp only[go_sem]) [0,5,17,18,141,142,143] [[5,0],[17,0],[18,0],[23,0],[24,0],[26,0],[49,0],[124,0]] ?_ rfl) ?_
    ·simp only[go_sem]
    simp only[go_sem]
    repeat refine sq ?_
    refine rx hΓ [0,5,17,18,19,141,142,143] [[5,0],[17,0],[18,0],[19,0],[23,0],[24,0],[26,0],[49,0],[124,0]] (fun K' hK=>by simp only[go_sem,ah nw,ai,ak,yy,mo,aF,Option.isSome_some];exact an) ?_
    refine bZ (dt 19 (.ref [19,0] 0) (by simp only[go_sem]) (by simp only[go_sem]) [0,5,17,18,19,141,142,143] [[5,0],[17,0],[18,0],[19,0],[23,0],[24,0],[26,0],[49,0],[124,0]] ?_ rfl) ?_
    ·simp only[go_sem]
    simp only[go_sem]
    repeat refine sq ?_
    refine rx hΓ [0,5,17,19,141,142,143,166] [[5,0],[17,0],[19,0],[23,0],[24,0],[26,0],[49,0],[124,0],[3,0,166,0]] (fun K' hK=>by simp only[go_sem,ah nw,ai,ak,yy];exact an) ?_
    repeat refine sq ?_
    refine aS ?_
    repeat refine sq ?_
    have bN:=Ge hp k
    have aa:=Hr l k (aC l k l.ts.length).ts[i3] (i3:Nat) (aC l k l.ts.length).ts.length ⟨l,bz l k,(aC l k l.ts.length).ts,(aC l k l.ts.length).bk,gU l (bz l k) (aC l k l.ts.length).ts (aC l k l.ts.length).ds i3⟩ r (aH l (aC l k l.ts.length).ts[i3].toNat).lv bN
    have gh:aM Tryz.prog 193 ((gT l k (aC l k l.ts.length).ts[i3] (i3:Nat) (aC l k l.ts.length).ts.length ⟨l,bz l k,(aC l k l.ts.length).ts,(aC l k l.ts.length).bk,gU l (bz l k) (aC l k l.ts.length).ts (aC l k l.ts.length).ds i3⟩ r (aH l (aC l k l.ts.length).ts[i3].toNat).lv).itC (jA 4 r.pa (aH l (aC l k l.ts.length).ts[i3].toNat).lv)).toSpec:=FN aa (fun _=>rfl) (RW l k (aC l k l.ts.length).ts[i3] (i3:Nat) (aC l k l.ts.length).ts.length ⟨l,bz l k,(aC l k l.ts.length).ts,(aC l k l.ts.length).bk,gU l (bz l k) (aC l k l.ts.length).ts (aC l k l.ts.length).ds i3⟩ r (aH l (aC l k l.ts.length).ts[i3].toNat).lv bN) (A4 hp k) (Gf hp k) rfl (fun _=>rfl) (j:=4) (jc:=1) (show 4<5 by decide) rfl rfl
    refine Me aa (RX l k (aC l k l.ts.length).ts[i3] (i3:Nat) (aC l k l.ts.length).ts.length ⟨l,bz l k,(aC l k l.ts.length).ts,(aC l k l.ts.length).bk,gU l (bz l k) (aC l k l.ts.length).ts (aC l k l.ts.length).ds i3⟩ r (aH l (aC l k l.ts.length).ts[i3].toNat).lv) (f:=193) 200 201 (Ls:=[[5,0],[26,0],[23,0],[24,0],[3,0,166,0]]) rfl rfl (by decide) gh rfl rfl rfl rfl rfl rfl (by decide) (show ([200,0]:Name)∉[[5,0],[26,0],[23,0],[24,0],[3,0,166,0]]by decide) ⟨rfl,rfl,rfl,rfl,rfl,trivial⟩ fun o=>?_
    obtain⟨g1,g2⟩:=Lp.go_e (r:=(gT l k (aC l k l.ts.length).ts[i3] (i3:Nat) (aC l k l.ts.length).ts.length ⟨l,bz l k,(aC l k l.ts.length).ts,(aC l k l.ts.length).bk,gU l (bz l k) (aC l k l.ts.length).ts (aC l k l.ts.length).ds i3⟩ r (aH l (aC l k l.ts.length).ts[i3].toNat).lv)) (fun _=>rfl)
    have g3:(gT l k (aC l k l.ts.length).ts[i3] (i3:Nat) (aC l k l.ts.length).ts.length ⟨l,bz l k,(aC l k l.ts.length).ts,(aC l k l.ts.length).bk,gU l (bz l k) (aC l k l.ts.length).ts (aC l k l.ts.length).ds i3⟩ r (aH l (aC l k l.ts.length).ts[i3].toNat).lv).fam [[5,0],[26,0],[23,0],[24,0],[3,0,166,0]] (gT l k (aC l k l.ts.length).ts[i3] (i3:Nat) (aC l k l.ts.length).ts.length ⟨l,bz l k,(aC l k l.ts.length).ts,(aC l k l.ts.length).bk,gU l (bz l k) (aC l k l.ts.length).ts (aC l k l.ts.length).ds i3⟩ r (aH l (aC l k l.ts.length).ts[i3].toNat).lv).e=[.box [.ref [26,0] 0],bt ⟨l,bz l k,(aC l k l.ts.length).ts,(aC l k l.ts.length).bk,gU l (bz l k) (aC l k l.ts.length).ts (aC l k l.ts.length).ds i3⟩ [23,0] [24,0],.map 2 (bR (aC l k l.ts.length).bk),.map 0 (bD (gU l (bz l k) (aC l k l.ts.length).ts (aC l k l.ts.length).ds (i3+1))),.box [.ref [26,0] 0]]:=by
     rw[g1,hD,<-List.take_length (l:=dm (bz l k) r.pa (aH l (aC l k l.ts.length).ts[i3].toNat).lv)]
     rfl
    rw[g2,g3]
    simp only[xq,jb]
    refine cf ?_
    show CL Tryz.prog (_::_) _ _
    refine ev [0,5,141,142,143] [[5,0],[23,0],[24,0],[26,0],[49,0],[124,0]] ?_ ?_
    ·simp only[go_sem,dO]
    simp only[go_sem,dO]
    repeat refine sq ?_
    refine aY hΓ fun K' hK=>?_
    simp only[go_sem]
    repeat (refine⟨ao,?_⟩)
    refine hK _ ?_
    clear K' hK
    simp only[go_sem]
    refine⟨i3+1,nw,by(show (aC l k l.ts.length).ts.length-(i3+1)<(aC l k l.ts.length).ts.length-i3;omega),?_⟩
    refine bq [0,5,141,142,143] [[5,0],[23,0],[24,0],[26,0],[49,0],[124,0]] ?_ ?_<;>simp only[go_sem,bj nw UD,bn]
   ·have Vx:i3=(aC l k l.ts.length).ts.length:=by
     have :¬ (i3:Int)<(aC l k l.ts.length).ts.length:=by simpa using hb
     omega
    clear hb
    subst Vx
    repeat refine sq ?_
    refine bV ?_
    simp only[go_sem]
    refine kp [5] [[5,0],[23,0],[24,0],[26,0],[49,0],[124,0]] ?_
    repeat refine sq ?_
    refine rx hΓ [4] [[23,0],[24,0],[26,0],[49,0],[124,0]] (fun K' hK=>by simp only[go_sem];exact an) ?_
    refine aA ?_
    simp only[go_sem]
    rw[show (aj l k).l=l from e1,show (aj l k).rs=bz l k from e2];first | exact⟨rfl,rfl,rfl⟩ | exact⟨rfl,rfl,rfl,trivial⟩ | exact⟨⟨rfl,rfl,rfl⟩,rfl⟩ | trace_state
end
set_option maxHeartbeats 8000000
noncomputable section
def ct(l:Led)(ds:List Int):Int:=if nK l=0 then fS (!ds.any fun d=>!dayB d) 6 else nK l
theorem QL:pG (161,[])=fun n=>!dayB n:=rfl
theorem Q0:uW (161,[]):=.inl rfl
def K30a:List (Nat×Spec):=[(37,ED),(160,S160)]
theorem aav:KS K30a:=tc Pt.sound<|tc B4<|tn
attribute [go_sem] K30a
@[go_sem] def P75:PSpec:=p2 iL eh (fun _ _=>True) (fun l ds=>vInt (ct l ds)) true
@[go_sem] def mQ:Spec:=P75.toSpec
theorem uJ:aW Tryz.prog 75 P75:=by
 refine ez (rs:=[.tmp 4]) Tryz.func75 Tryz.ntmps75 fun l ds hp hw=>?_
 simp only[eh,iL,fc]at hw |-
 have hΓ:=aav
 repeat refine sq ?_
 refine rx hΓ [1,2] [[2,0]] (fun K' hK=>by simp only[go_sem];exact an) ?_
 refine bZ (dt 2 (.ref [2,0] 0) (by simp only[go_sem]) (by simp only[go_sem]) [1,2] [[2,0]] ?_ rfl) ?_
 ·simp only[go_sem]
 simp only[go_sem]
 repeat refine sq ?_
 refine rx hΓ [1,5] [] (fun K' hK=>by simp only[go_sem];exact an) ?_
 repeat refine sq ?_
 refine rx hΓ [1,5,9] [] (fun K' hK=>by simp only[go_sem];exact an) ?_
 repeat refine sq ?_
 refine aB (fun hb=>?_) fun hb=>?_
 ·repeat refine sq ?_
  have hc:¬ nK l=0:=by simpa using hb
  unfold ct;rw[if_neg hc]
  repeat refine sq ?_
  refine rx hΓ [4] [] (fun K' hK=>by simp only[go_sem];exact an) ?_
  refine aA ?_
  simp only[go_sem]
  all_goals exact dJ
 ·repeat refine sq ?_
  have hc:nK l=0:=by simpa using hb
  unfold ct;rw[if_pos hc]
  refine aE ?_
  repeat refine sq ?_
  refine rx hΓ [12] [] (fun K' hK=>by simp only[go_sem,Q0,QL];exact an) ?_
  repeat refine sq ?_
  refine aB (fun hb=>?_) fun hb=>?_
  ·repeat refine sq ?_
   rw[show (ds.any fun d=>!dayB d)=true from hb]
   repeat refine sq ?_
   refine rx hΓ [4] [] (fun K' hK=>by simp only[go_sem];exact an) ?_
   refine aA ?_
   simp only[go_sem]
   all_goals exact dJ
  ·repeat refine sq ?_
   rw[show (ds.any fun d=>!dayB d)=false from hb]
   refine aE ?_
   repeat refine sq ?_
   refine rx hΓ [4] [] (fun K' hK=>by simp only[go_sem];exact an) ?_
   refine aA ?_
   simp only[go_sem]
   all_goals exact dJ
def aau:List (Nat×Spec):=[(76,S76),(128,S128)]
attribute [go_sem] aau
def sg(x:Vw)(t:Name):List (Name×O):=[(26::0::t,bt x (23::0::t) (24::0::t)),(23::0::t,.map 2 (bR x.bk)),(24::0::t,.map 0 (bD x.ds))]
def EB:Option (Int×Int)->Vw->List (Name×O)
 |none,x=>sg x [11,0]
 |some _,_=>[]
def EA:Option (Int×Int)->D
 |none=>.tup [.ref [26,0,11,0] 0,.v (vInt 0)]
 |some _=>.tup [.v .nilp,.v (vInt 25)]
attribute [go_sem] sg
theorem oX(x:Vw):EB none x=sg x [11,0]:=rfl
theorem rT(p:Int×Int)(x:Vw):EB (some p) x=[]:=rfl
theorem oW:EA none=.tup [.ref [26,0,11,0] 0,.v (vInt 0)]:=rfl
theorem rS(p:Int×Int):EA (some p)=.tup [.v .nilp,.v (vInt 25)]:=rfl
theorem A7(p:Int×Int):xo (some p)=.tup [.v (.sl [vInt p.1,vInt p.2]),.v (.bool true)]:=rfl
theorem A8:xo none=.tup [.nilsl,.v (.bool false)]:=rfl
def K30c:List (Nat×Spec):=[(76,S76),(120,S120)]
theorem aat:KS K30c:=tc xP<|tc Jr<|tn
attribute [go_sem] K30c
def Ae:NSpec:=n2 mi iI (fun l _=>bF l) (fun l k=>EB (fi (aj l k)) (aj l k)) (fun l k=>EA (fi (aj l k)))
def S121:Spec:=Ae.toSpec
attribute [go_sem] Ae S121
theorem Jq:aM Tryz.prog 121 S121:=by
 refine Bs (nt:=19) (rs:=[.tmp 4,.tmp 5]) Tryz.func121 rfl (by rfl) (by kernel_rfl) (by kernel_rfl) (by decide) ?_
 intro xs hp
 obtain⟨l,k,rfl,hp,eF,eE⟩:=Bx hp
 replace eF:Ae.new _=_:=eF
 replace eE:Ae.d _=_:=eE
 rw[eF,eE]
 clear eF eE
 refine⟨lb rfl,?_⟩
 simp only[iI,iB,eh,iP,iR,iT,iS,iL,mi,fE,iC,iF,dk,encR,dB,encS,fc,iW,List.map_cons,List.map_nil,cW,Nat.zero_add]
 have hΓ:=aat
 repeat refine sq ?_
 refine rx hΓ [0,1] [] (fun K' hK=>by simp only[go_sem];exact an) ?_
 repeat refine sq ?_
 refine rx hΓ [6] [[26,0,11,0],[23,0,11,0],[24,0,11,0]] (fun K' hK=>by simp only[go_sem];exact an) ?_
 rcases fv:fi (aj l k)with _ | p
 ·repeat refine sq ?_
  refine rx hΓ [6,8] [[26,0,11,0],[23,0,11,0],[24,0,11,0]] (fun K' hK=>by simp only[go_sem,fv,A8];(repeat (refine⟨by first | exact ao | exact(nh hp k).1,?_⟩));exact eN) ?_
  repeat refine sq ?_
  refine rx hΓ [6,17] [[26,0,11,0],[23,0,11,0],[24,0,11,0]] (fun K' hK=>by simp only[go_sem,fv,A8];exact an) ?_
  repeat refine sq ?_
  refine aB (fun hb=>?_) fun hb=>?_
  ·cases hb
  ·repeat refine sq ?_
   refine aE ?_
   repeat refine sq ?_
   refine rx hΓ [4,5] [[26,0,11,0],[23,0,11,0],[24,0,11,0]] (fun K' hK=>by simp only[go_sem,fv,A8];exact an) ?_
   refine aA ?_
   simp only[go_sem,oX,oW,rT,rS]
   all_goals first | done | rfl | trace_state
 ·repeat refine sq ?_
  refine rx hΓ [6,8] [[26,0,11,0],[23,0,11,0],[24,0,11,0]] (fun K' hK=>by simp only[go_sem,fv,A7];(repeat (refine⟨by first | exact ao | exact(nh hp k).1,?_⟩));exact eN) ?_
  repeat refine sq ?_
  refine rx hΓ [6,17] [[26,0,11,0],[23,0,11,0],[24,0,11,0]] (fun K' hK=>by simp only[go_sem,fv,A7];exact an) ?_
  repeat refine sq ?_
  refine aB (fun hb=>?_) fun hb=>?_
  ·repeat refine sq ?_
   refine rx hΓ [4,5] [[26,0,11,0],[23,0,11,0],[24,0,11,0]] (fun K' hK=>by simp only[go_sem,fv,A7];exact an) ?_
   refine aA ?_
   simp only[go_sem,oX,oW,rT,rS]
   all_goals first | done | rfl | trace_state
  ·cases hb
theorem FD{l:Led}(h:bF l)(k:Int):(fD l k).length<=60/\∀ s∈fD l k,AL s:=by
 refine⟨Nat.le_trans (List.length_filter_le _ _) h.ssn,fun s hs=>?_⟩
 obtain⟨j,hj,rfl⟩:=List.getElem_of_mem (List.mem_filter.1 hs).1
 have :=oV h.ss hj
 unfold ld at this
 simp only[Bool.and_eq_true]at this
 have hd:=this.1.2
 unfold dayB bI at hd
 simp at hd
 exact hd
def aO(x:Vw)(k:Int):Vw:={ x with ds:=eO x x.ds (fD x.l k) }
def sy:Option (Int×Int)->Bool->Vw->Int->List (Name×O)
 |none,true,x,k=>sg (aO x k) [11,0,11,0]
 |_,_,_,_=>[]
def Om:Option (Int×Int)->Bool->Int
 |some _,_=>25
 |none,false=>27
 |none,true=>0
def sv:Option (Int×Int)->Bool->D
 |some _,_=>.tup [.v .nilp,.v (vInt 25)]
 |none,false=>.tup [.v .nilp,.v (vInt 27)]
 |none,true=>.tup [.ref [26,0,11,0,11,0] 0,.v (vInt 0)]
theorem sw(x:Vw)(k:Int):sy none true x k=sg (aO x k) [11,0,11,0]:=rfl
theorem sx(x:Vw)(k:Int):sy none false x k=[]:=rfl
theorem AH(p:Int×Int)(b:Bool)(x:Vw)(k:Int):sy (some p) b x k=[]:=by cases b<;>rfl
theorem sr:sv none true=.tup [.ref [26,0,11,0,11,0] 0,.v (vInt 0)]:=rfl
theorem su:sv none false=.tup [.v .nilp,.v (vInt 27)]:=rfl
theorem AG(p:Int×Int)(b:Bool):sv (some p) b=.tup [.v .nilp,.v (vInt 25)]:=by cases b<;>rfl
def K30d:List (Nat×Spec):=[(121,S121),(122,S122),(128,S128)]
theorem aas:KS K30d:=tc Jq<|tc Jp<|tc Jo<|tn
attribute [go_sem] K30d
def Ac:NSpec:=n2 mi iI (fun l _=>bF l) (fun l k=>sy (fi (aj l k)) (gK (aj l k) (fD (aj l k).l k)) (aj l k) k) (fun l k=>sv (fi (aj l k)) (gK (aj l k) (fD (aj l k).l k)))
def S78:Spec:=Ac.toSpec
attribute [go_sem] Ac S78
theorem xO:aM Tryz.prog 78 S78:=by
 refine Bs (nt:=24) (rs:=[.tmp 4,.tmp 5]) Tryz.func78 rfl (by rfl) (by kernel_rfl) (by kernel_rfl) (by decide) ?_
 intro xs hp
 obtain⟨l,k,rfl,hp,eF,eE⟩:=Bx hp
 replace eF:Ac.new _=_:=eF
 replace eE:Ac.d _=_:=eE
 rw[eF,eE]
 clear eF eE
 refine⟨lb rfl,?_⟩
 simp only[iI,iB,eh,iP,iR,iT,iS,iL,mi,fE,iC,iF,dk,encR,dB,encS,fc,iW,List.map_cons,List.map_nil,cW,Nat.zero_add]
 have hΓ:=aas
 obtain⟨hv,bN⟩:=nh hp k
 obtain⟨pE,td⟩:=FD hv.ok k
 repeat refine sq ?_
 refine rx hΓ [0,1] [] (fun K' hK=>by simp only[go_sem];exact an) ?_
 rcases fv:fi (aj l k)with _ | p
 ·repeat refine sq ?_
  refine rx hΓ [1,6,7] [[26,0,11,0,11,0],[23,0,11,0,11,0],[24,0,11,0,11,0]] (fun K' hK=>by simp only[go_sem,fv,oX,oW];exact an) ?_
  repeat refine sq ?_
  refine rx hΓ [1,6,7,15] [[26,0,11,0,11,0],[23,0,11,0,11,0],[24,0,11,0,11,0]] (fun K' hK=>by simp only[go_sem,fv,oX,oW];exact an) ?_
  repeat refine sq ?_
  refine aB (fun hb=>?_) fun hb=>?_
  ·cases hb
  ·repeat refine sq ?_
   refine aE ?_
   repeat refine sq ?_
   refine rx hΓ [6,22] [[26,0,11,0,11,0],[23,0,11,0,11,0],[24,0,11,0,11,0]] (fun K' hK=>by simp only[go_sem,fv,oX,oW];(repeat (refine⟨by first | exact ao | exact hv.ok.ssn | exact⟨⟨⟨hv,bN⟩,pE⟩,td⟩,?_⟩));exact eN) ?_
   repeat refine sq ?_
   refine aB (fun hb=>?_) fun hb=>?_
   ·repeat refine sq ?_
    have hf:gK (aj l k) (fD (aj l k).l k)=false:=by simpa using hb
    repeat refine sq ?_
    refine rx hΓ [4,5] [[26,0,11,0,11,0],[23,0,11,0,11,0],[24,0,11,0,11,0]] (fun K' hK=>by simp only[go_sem,fv,oX,oW];exact an) ?_
    refine aA ?_
    simp only[go_sem,sw,sx,AH,sr,su,AG]
    all_goals first | done | rfl | (rw[hf];simp only[go_sem,sw,sx,sr,su,aO];done) | trace_state
   ·repeat refine sq ?_
    have hf:gK (aj l k) (fD (aj l k).l k)=true:=by simpa using hb
    refine aE ?_
    repeat refine sq ?_
    refine rx hΓ [4,5] [[26,0,11,0,11,0],[23,0,11,0,11,0],[24,0,11,0,11,0]] (fun K' hK=>by simp only[go_sem,fv,oX,oW];exact an) ?_
    refine aA ?_
    simp only[go_sem,sw,sx,AH,sr,su,AG]
    all_goals first | done | rfl | (rw[hf];simp only[go_sem,sw,sx,sr,su,aO];done) | trace_state
 ·repeat refine sq ?_
  refine rx hΓ [1,6,7] [[26,0,11,0,11,0],[23,0,11,0,11,0],[24,0,11,0,11,0]] (fun K' hK=>by simp only[go_sem,fv,rT,rS];exact an) ?_
  repeat refine sq ?_
  refine rx hΓ [1,6,7,15] [[26,0,11,0,11,0],[23,0,11,0,11,0],[24,0,11,0,11,0]] (fun K' hK=>by simp only[go_sem,fv,rT,rS];exact an) ?_
  repeat refine sq ?_
  refine aB (fun hb=>?_) fun hb=>?_
  ·repeat refine sq ?_
   refine rx hΓ [4,5] [[26,0,11,0,11,0],[23,0,11,0,11,0],[24,0,11,0,11,0]] (fun K' hK=>by simp only[go_sem,fv,rT,rS];exact an) ?_
   refine aA ?_
   simp only[go_sem,sw,sx,AH,sr,su,AG]
   all_goals first | done | rfl | (rw[hf];simp only[go_sem,sw,sx,sr,su,aO];done) | trace_state
  ·cases hb
end
set_option maxHeartbeats 8000000
noncomputable section
theorem pv(l:Led)(k:Int):(aj l k).l=l:=(ow l k l.ts.length).1
theorem nG{l:Led}{ds:List Int}(h:ct l ds=0):bF l/\∀ d∈ds,dayB d=true:=by
 unfold ct at h
 split at h
 ·rename_i hc
  refine⟨?_,?_⟩
  ·refine Classical.byContradiction fun hn=>?_
   rw[wj hn]at hc;cases hc
  ·unfold fS at h
   split at h
   ·rename_i hd
    intro d VS
    have :(ds.any fun d=>!dayB d)=false:=by simpa using hd
    rw[List.any_eq_false]at this
    have :=this d VS
    simpa using this
   ·cases h
 ·rename_i hc;exact(hc h).elim
def cE(l:Led)(i:Int):Int:=(aH l i.toNat).so
def uv(l:Led)(k:Int):V:=if ct l [k]=0 then .tup [.sl ((((aj l k).ts).map (cE l)).map vInt),vInt 0]else .tup [.sl [],vInt (ct l [k])]
def gl(l:Led)(k:Int):Bool:=(fi (aj l k)).isNone&&gK (aj l k) (fD (aj l k).l k)
def uE(l:Led)(k:Int):V:=if ct l [k]=0 then .tup [.bool (gl l k),vInt 0]else .tup [.bool false,vInt (ct l [k])]
def K31:List (Nat×Spec):=[(75,mQ),(76,S76),(120,S120),(121,S121),(122,S122),(128,S128),(77,S77),(129,S129)]
theorem Nx:KS K31:=tc uJ.sound<|tc xP<|tc Jr<|tc Jq<|tc Jp<|tc Jo<|tc Jl<|tc Jn<|tn
attribute [go_sem] K31
@[go_sem] def P49:PSpec:=p2 iL iI (fun _ _=>True) (fun l k=>uE l k) false
@[go_sem] def Y1:Spec:=P49.toSpec
theorem Pn:aW Tryz.prog 49 P49:=by
 refine ez (rs:=[.tmp 4,.tmp 5]) Tryz.func49 Tryz.ntmps49 fun l k hp hw=>?_
 simp only[iI,iL,fc]at hw |-
 have hΓ:=Nx
 repeat refine sq ?_
 refine rx hΓ [1,2] [[2,0]] (fun K' hK=>by simp only[go_sem];exact an) ?_
 refine bZ (dt 2 (.ref [2,0] 0) (by simp only[go_sem]) (by simp only[go_sem]) [1,2] [[2,0]] ?_ rfl) ?_
 ·simp only[go_sem]
 simp only[go_sem]
 repeat refine sq ?_
 refine rx hΓ [1,2,6] [[2,0]] (fun K' hK=>by simp only[go_sem];exact an) ?_
 repeat refine sq ?_
 refine rx hΓ [1,2,6,14] [[2,0]] (fun K' hK=>by simp only[go_sem];exact an) ?_
 repeat refine sq ?_
 refine aB (fun hb=>?_) fun hb=>?_
 ·repeat refine sq ?_
  have hc:¬ ct l [k]=0:=by simpa using hb
  unfold uE;rw[if_neg hc]
  repeat refine sq ?_
  refine rx hΓ [4,5] [] (fun K' hK=>by simp only[go_sem];exact an) ?_
  refine aA ?_
  simp only[go_sem]
  all_goals first | done | (unfold gl;rw[fv];rfl) | trace_state
 ·repeat refine sq ?_
  have hc:ct l [k]=0:=by simpa using hb
  unfold uE;rw[if_pos hc]
  obtain⟨aa,_⟩:=nG hc
  obtain⟨hv,bN⟩:=nh aa k
  obtain⟨pE,td⟩:=FD hv.ok k
  refine aE ?_
  rcases fv:fi (aj l k)with _ | p
  ·repeat refine sq ?_
   refine rx hΓ [1,7,8] [[26,0,11,0,18,0],[23,0,11,0,18,0],[24,0,11,0,18,0]] (fun K' hK=>by simp only[go_sem,fv,oX,oW];exact an) ?_
   repeat refine sq ?_
   refine rx hΓ [4,5] [] (fun K' hK=>by simp only[go_sem,fv,oX,oW];(repeat (refine⟨by first | exact ao | exact hv.ok.ssn | exact⟨⟨⟨hv,bN⟩,pE⟩,td⟩ | exact fun _=>hv.ok.ssn | exact fun _=>⟨⟨⟨hv,bN⟩,pE⟩,td⟩,?_⟩));exact eN) ?_
   refine aA ?_
   simp only[go_sem]
   all_goals first | done | (unfold gl;rw[fv];rfl) | trace_state
  ·have KT:((25:Int)==0)=false:=rfl
   repeat refine sq ?_
   refine rx hΓ [1,7,8] [[26,0,11,0,18,0],[23,0,11,0,18,0],[24,0,11,0,18,0]] (fun K' hK=>by simp only[go_sem,fv,rT,rS,KT];exact an) ?_
   repeat refine sq ?_
   refine rx hΓ [4,5] [] (fun K' hK=>by simp only[go_sem,fv,rT,rS,KT];(repeat (refine⟨by first | exact ao | exact hv.ok.ssn | exact⟨⟨⟨hv,bN⟩,pE⟩,td⟩ | exact fun _=>hv.ok.ssn | exact fun _=>⟨⟨⟨hv,bN⟩,pE⟩,td⟩,?_⟩));exact eN) ?_
   refine aA ?_
   simp only[go_sem]
   all_goals first | done | (unfold gl;rw[fv];rfl) | trace_state
@[go_sem] def P41:PSpec:=p2 iL iI (fun _ _=>True) (fun l k=>uv l k) false
@[go_sem] def Y4:Spec:=P41.toSpec
theorem Pq:aW Tryz.prog 41 P41:=by
 refine ez (rs:=[.tmp 4,.tmp 5]) Tryz.func41 Tryz.ntmps41 fun l k hp hw=>?_
 simp only[iI,iL,fc]at hw |-
 have hΓ:=Nx
 repeat refine sq ?_
 refine rx hΓ [1,2] [[2,0]] (fun K' hK=>by simp only[go_sem];exact an) ?_
 refine bZ (dt 2 (.ref [2,0] 0) (by simp only[go_sem]) (by simp only[go_sem]) [1,2] [[2,0]] ?_ rfl) ?_
 ·simp only[go_sem]
 simp only[go_sem]
 repeat refine sq ?_
 refine rx hΓ [1,2,6] [[2,0]] (fun K' hK=>by simp only[go_sem];exact an) ?_
 repeat refine sq ?_
 refine rx hΓ [1,2,6,15] [[2,0]] (fun K' hK=>by simp only[go_sem];exact an) ?_
 repeat refine sq ?_
 refine aB (fun hb=>?_) fun hb=>?_
 ·repeat refine sq ?_
  have hc:¬ ct l [k]=0:=by simpa using hb
  unfold uv;rw[if_neg hc]
  repeat refine sq ?_
  refine rx hΓ [4,5] [[35,0]] (fun K' hK=>by simp only[go_sem];exact an) ?_
  refine aA ?_
  simp only[go_sem]
  all_goals exact dJ
 ·repeat refine sq ?_
  have hc:ct l [k]=0:=by simpa using hb
  unfold uv;rw[if_pos hc]
  obtain⟨aa,_⟩:=nG hc
  obtain⟨hv,bN⟩:=nh aa k
  have mn:(aj l k).ts.length<=maxLen:=by have:=hv.tn;unfold maxLen;omega
  refine aE ?_
  repeat refine sq ?_
  refine rx hΓ [1,2,7] [[2,0],[35,0]] (fun K' hK=>by simp only[go_sem];exact an) ?_
  refine bZ (uh 7 [35,0] 1 (by simp only[go_sem]) (by simp only[go_sem]) [1,2,7] [[2,0],[35,0]] ?_ rfl) ?_
  ·simp only[go_sem]
  simp only[go_sem]
  repeat refine sq ?_
  refine rx hΓ [2,7,21,22,23] [[2,0],[35,0]] (fun K' hK=>by simp only[go_sem];exact an) ?_
  repeat refine sq ?_
  refine aS ?_
  repeat refine sq ?_
  refine cv (fun s:Nat=>[(23,⟨true,.v (vInt s)⟩),(7,⟨true,.msl [35,0] s⟩)]) (fun s=>[([35,0],.arr 1 ((((aj l k).ts.take s).map (cE l)).map vInt))]) (fun s=>s<=(aj l k).ts.length) (fun s=>(aj l k).ts.length-s) 0 ?_ ?_ ?_ ?_
  ·exact Nat.zero_le _
  ·rfl
  ·rfl
  rintro i hi
  simp only[go_sem]
  repeat refine sq ?_
  refine rx hΓ [2,7,21,22,23,24] [[2,0],[35,0]] (fun K' hK=>by simp only[go_sem];exact an) ?_
  repeat refine sq ?_
  refine aB (fun hb=>?_) fun hb=>?_
  ·have ab:i<(aj l k).ts.length:=by simpa using hb
   have aq:(i:Int)<(aj l k).ts.length:=by omega
   clear hb
   have qF:=hv.tn
   obtain⟨bB,db⟩:=hv.ts _ (List.getElem_mem ab)
   rw[pv]at db
   have iH:=wT (l:=l) bB db
   have U6:min i (aj l k).ts.length=i:=by omega
   have hT:((((aj l k).ts.take (i+1)).map (cE l)).map vInt)=(((aj l k).ts.take i).map (cE l)).map vInt++[vInt (aH l ((aj l k).ts[i]).toNat).so]:=by
    rw[Oe ab];simp[cE]
   repeat refine sq ?_
   refine aE ?_
   repeat refine sq ?_
   refine aS ?_
   repeat refine sq ?_
   refine rx hΓ [2,7,9,21,22,23] [[2,0],[35,0]] (fun K' hK=>by simp only[go_sem,ah ab,ai,ak,aq];exact an) ?_
   repeat refine sq ?_
   refine aY hΓ fun K' hK=>?_
   simp only[go_sem,ah ab,ai,ak,aq,iH,bB,db,List.length_take,List.length_map,U6]
   repeat (refine⟨ao,?_⟩)
   refine hK _ ?_
   clear K' hK
   simp only[go_sem]
   refine kp [2,7,21,22,23] [[2,0],[35,0]] ?_
   repeat refine sq ?_
   refine aY hΓ fun K' hK=>?_
   simp only[go_sem,ah ab,ai,ak,aq]
   repeat (refine⟨ao,?_⟩)
   refine hK _ ?_
   clear K' hK
   simp only[go_sem]
   refine⟨i+1,ab,by(show (aj l k).ts.length-(i+1)<(aj l k).ts.length-i;omega),?_⟩
   refine bq [2,7,21,22,23] [[2,0],[35,0]] ?_ ?_<;>simp only[go_sem,bj ab mn,bn,hT]
  ·have bx:i=(aj l k).ts.length:=by
    have :¬ (i:Int)<(aj l k).ts.length:=by simpa using hb
    omega
   clear hb
   subst bx
   repeat refine sq ?_
   refine bV ?_
   simp only[go_sem]
   refine kp [7] [[35,0]] ?_
   repeat refine sq ?_
   refine rx hΓ [4,5] [[35,0]] (fun K' hK=>by simp only[go_sem,List.take_length];exact an) ?_
   refine aA ?_
   simp only[go_sem]
   all_goals exact dJ
end
set_option maxHeartbeats 8000000
noncomputable section
def m6(l:Led)(s k:Int):Option Int:=(aj l k).ts.find? fun i=>cE l i==s
def fI(l:Led)(s k:Int):Int:=if ct l [k]=0 then fS (m6 l s k).isSome 3 else ct l [k]
def gm(l:Led)(s k:Int):Int:=if ct l [k]=0 then(m6 l s k).getD 0 else 0
def K32a:List (Nat×Spec):=[(75,mQ),(76,S76)]
theorem aar:KS K32a:=tc uJ.sound<|tc xP<|tn
attribute [go_sem] K32a
@[go_sem] def P97:PSpec:=p3 iL iI iI (fun _ _ _=>True) (fun l s k=>.tup [vInt (gm l s k),vInt (fI l s k)]) true
@[go_sem] def Nc:Spec:=P97.toSpec
theorem FL:aW Tryz.prog 97 P97:=by
 refine kX (rs:=[.tmp 6,.tmp 7]) Tryz.func97 Tryz.ntmps97 fun l so k hp hw=>?_
 simp only[iI,iL,fc]at hw |-
 have hΓ:=aar
 repeat refine sq ?_
 refine rx hΓ [1,2,3] [[3,0]] (fun K' hK=>by simp only[go_sem];exact an) ?_
 refine bZ (dt 3 (.ref [3,0] 0) (by simp only[go_sem]) (by simp only[go_sem]) [1,2,3] [[3,0]] ?_ rfl) ?_
 ·simp only[go_sem]
 simp only[go_sem]
 repeat refine sq ?_
 refine rx hΓ [1,2,3,8] [[3,0]] (fun K' hK=>by simp only[go_sem];exact an) ?_
 repeat refine sq ?_
 refine rx hΓ [1,2,3,8,16] [[3,0]] (fun K' hK=>by simp only[go_sem];exact an) ?_
 repeat refine sq ?_
 refine aB (fun hb=>?_) fun hb=>?_
 ·repeat refine sq ?_
  have hc:¬ ct l [k]=0:=by simpa using hb
  unfold gm fI;rw[if_neg hc,if_neg hc]
  repeat refine sq ?_
  refine rx hΓ [6,7] [] (fun K' hK=>by simp only[go_sem];exact an) ?_
  refine aA ?_
  simp only[go_sem]
  all_goals exact dJ
 ·repeat refine sq ?_
  have hc:ct l [k]=0:=by simpa using hb
  unfold gm fI;rw[if_pos hc,if_pos hc]
  obtain⟨aa,_⟩:=nG hc
  obtain⟨hv,bN⟩:=nh aa k
  have mn:(aj l k).ts.length<=maxLen:=by have:=hv.tn;unfold maxLen;omega
  refine aE ?_
  repeat refine sq ?_
  refine rx hΓ [1,3,22,23,24] [[3,0]] (fun K' hK=>by simp only[go_sem];exact an) ?_
  repeat refine sq ?_
  refine aS ?_
  repeat refine sq ?_
  refine cv (fun s:Nat=>[(24,⟨true,.v (vInt s)⟩)]) (fun s=>[]) (fun s=>s<=(aj l k).ts.length/\∀ j (h:j<(aj l k).ts.length),j<s->(cE l (aj l k).ts[j]==so)=false) (fun s=>(aj l k).ts.length-s) 0 ?_ ?_ ?_ ?_
  ·exact⟨Nat.zero_le _,by simp⟩
  ·rfl
  ·rfl
  rintro i ⟨hi,hR⟩
  simp only[go_sem]
  repeat refine sq ?_
  refine rx hΓ [1,3,22,23,24,25] [[3,0]] (fun K' hK=>by simp only[go_sem];exact an) ?_
  repeat refine sq ?_
  refine aB (fun hb=>?_) fun hb=>?_
  ·have ab:i<(aj l k).ts.length:=by simpa using hb
   have aq:(i:Int)<(aj l k).ts.length:=by omega
   clear hb
   obtain⟨bB,db⟩:=hv.ts _ (List.getElem_mem ab)
   rw[pv]at db
   have iH:=wT (l:=l) bB db
   repeat refine sq ?_
   refine aE ?_
   repeat refine sq ?_
   refine aS ?_
   repeat refine sq ?_
   refine rx hΓ [1,3,10,22,23,24] [[3,0]] (fun K' hK=>by simp only[go_sem,ah ab,ai,ak,aq];exact an) ?_
   repeat refine sq ?_
   refine rx hΓ [1,3,10,22,23,24,35] [[3,0]] (fun K' hK=>by simp only[go_sem,ah ab,ai,ak,aq,iH,bB,db];exact an) ?_
   repeat refine sq ?_
   refine aB (fun hb=>?_) fun hb=>?_
   ·repeat refine sq ?_
    refine rx hΓ [6,7] [] (fun K' hK=>by simp only[go_sem,ah ab,ai,ak,aq];exact an) ?_
    refine aA ?_
    simp only[go_sem]
    have e:m6 l so k=some (aj l k).ts[i]:=List.find?_eq_some_iff_getElem.2 ⟨hb,i,ab,rfl,fun j hj=>by rw[hR j (by omega) hj];rfl⟩
    rw[e];rfl
   ·repeat refine sq ?_
    refine aE ?_
    refine cf ?_
    simp only[go_sem]
    refine kp [1,3,22,23,24] [[3,0]] ?_
    repeat refine sq ?_
    refine aY hΓ fun K' hK=>?_
    simp only[go_sem,ah ab,ai,ak,aq]
    repeat (refine⟨ao,?_⟩)
    refine hK _ ?_
    clear K' hK
    simp only[go_sem]
    refine⟨i+1,⟨ab,?_⟩,by(show (aj l k).ts.length-(i+1)<(aj l k).ts.length-i;omega),?_⟩
    ·intro j hj eC
     rcases Nat.lt_succ_iff_lt_or_eq.1 eC with h5 | rfl
     ·exact hR j hj h5
     ·exact hb
    refine bq [1,3,22,23,24] [[3,0]] ?_ ?_<;>simp only[go_sem,bj ab mn,bn]
  ·have bx:i=(aj l k).ts.length:=by
    have :¬ (i:Int)<(aj l k).ts.length:=by simpa using hb
    omega
   clear hb
   subst bx
   repeat refine sq ?_
   refine bV ?_
   simp only[go_sem]
   refine kp [] [] ?_
   repeat refine sq ?_
   refine rx hΓ [6,7] [] (fun K' hK=>by simp only[go_sem];exact an) ?_
   refine aA ?_
   simp only[go_sem]
   have e:m6 l so k=none:=List.find?_eq_none.2 fun y hy=>by
    obtain⟨j,hj,rfl⟩:=List.getElem_of_mem hy
    rw[hR j hj hj];decide
   rw[e];rfl
def jE(x:Vw)(pa le day:Int):List Int:=match ey x.rs pa le day with
 |none=>[0]
 |some r=>match bp x.bk (r.so,le)with
  |none=>[r.bo]
  |some i=>(if (aP x.ds i).1<=day then[0]else[])++(if (aP x.ds i).2>day then[r.bo]else[])
def K32b:List (Nat×Spec):=[(119,S119)]
theorem aaq:KS K32b:=tc B5<|tn
attribute [go_sem] K32b
def M4:VSpec:=v2 kD iI (fun x _ _=>mP x/\x.rs.Nodup) (fun x f day=>.v (.sl ((jE x f.pa f.le day).map vInt))) none
def S80:Spec:=M4.toSpec
attribute [go_sem] M4 S80
theorem TR:aM Tryz.prog 80 S80:=by
 refine wP (rs:=[.tmp 6]) Tryz.func80 Tryz.ntmps80 (by rfl) (by kernel_rfl) (by decide) (fun _ _ _=>by first | rfl | simp[D.clos,D.closL,lg]) ⟨_,rfl,lb rfl,fun x f day hp H h0 h1 h2 hO ae=>?_⟩
 have hP:=fL
 simp only[kD,iI,oQ,bt,cW,List.map_cons,List.map_nil,Nat.zero_add,Option.map_some,Option.map_none]at h0 |-
 have hΓ:=aaq
 obtain⟨pa,le⟩:=f
 have kE:jE x pa le day=match ey x.rs pa le day with
  |none=>[0]
  |some r=>match bp x.bk (r.so,le)with
   |none=>[r.bo]
   |some i=>(if (aP x.ds i).1<=day then[0]else[])++(if (aP x.ds i).2>day then[r.bo]else[]):=rfl
 rw[kE]
 clear kE
 repeat refine sq ?_
 refine rx hΓ [0,2,4] [[4,0]] (fun K' hK=>by simp only[go_sem,hO,ae,h0,h1,h2];(repeat (refine⟨ao,?_⟩));exact hK _ (by simp only[go_sem,hO,ae,h0,h1,h2]) (by simp only[go_sem,hO,ae,h0,h1,h2]<;>rfl)) ?_
 rcases au:ey x.rs pa le day with _ | r
 ·repeat refine sq ?_
  refine rx hΓ [0,2,4,7,8] [[4,0],[7,0]] (fun K' hK=>by simp only[go_sem,hO,ae,h0,h1,h2,au,bh,Option.isSome_none];(repeat (refine⟨ao,?_⟩));exact hK _ (by simp only[go_sem,hO,ae,h0,h1,h2,au,bh,Option.isSome_none]) (by simp only[go_sem,hO,ae,h0,h1,h2,au,bh,Option.isSome_none]<;>rfl)) ?_
  repeat refine sq ?_
  refine rx hΓ [0,2,4,7,20] [[4,0],[7,0]] (fun K' hK=>by simp only[go_sem,hO,ae,h0,h1,h2,au,bh,Option.isSome_none];(repeat (refine⟨ao,?_⟩));exact hK _ (by simp only[go_sem,hO,ae,h0,h1,h2,au,bh,Option.isSome_none]) (by simp only[go_sem,hO,ae,h0,h1,h2,au,bh,Option.isSome_none]<;>rfl)) ?_
  repeat refine sq ?_
  refine aB (fun hb=>?_) fun hb=>?_
  ·repeat refine sq ?_
   refine rx hΓ [6] [[51,0],[65,0]] (fun K' hK=>by simp only[go_sem,hO,ae,h0,h1,h2,au,bh,Option.isSome_none];(repeat (refine⟨ao,?_⟩));exact hK _ (by simp only[go_sem,hO,ae,h0,h1,h2,au,bh,Option.isSome_none]) (by simp only[go_sem,hO,ae,h0,h1,h2,au,bh,Option.isSome_none]<;>rfl)) ?_
   refine aA ?_
   simp only[go_sem,hO,ae,h0,h1,h2]
   all_goals first | rfl | (simp only[aK];rfl) | (simp_all;done) | trace_state
  ·cases hb
 ·repeat refine sq ?_
  refine rx hΓ [0,2,4,7,8] [[4,0],[7,0]] (fun K' hK=>by simp only[go_sem,hO,ae,h0,h1,h2,au,aF,Option.isSome_some];(repeat (refine⟨ao,?_⟩));exact hK _ (by simp only[go_sem,hO,ae,h0,h1,h2,au,aF,Option.isSome_some]) (by simp only[go_sem,hO,ae,h0,h1,h2,au,aF,Option.isSome_some]<;>rfl)) ?_
  repeat refine sq ?_
  refine rx hΓ [0,2,4,7,20] [[4,0],[7,0]] (fun K' hK=>by simp only[go_sem,hO,ae,h0,h1,h2,au,aF,Option.isSome_some];(repeat (refine⟨ao,?_⟩));exact hK _ (by simp only[go_sem,hO,ae,h0,h1,h2,au,aF,Option.isSome_some]) (by simp only[go_sem,hO,ae,h0,h1,h2,au,aF,Option.isSome_some]<;>rfl)) ?_
  repeat refine sq ?_
  refine aB (fun hb=>?_) fun hb=>?_
  ·cases hb
  ·repeat refine sq ?_
   refine aE ?_
   rcases aK:bp x.bk (r.so,le)with _ | j
   ·repeat refine sq ?_
    refine dx hΓ hP [[],[0],[0,1],[0,1,2],[],[4],[],[6],[4,5,6,7],u9,cZ,eG,eG,fG,kf] [0,2,7,9,10] [[7,0]] (by kernel_rfl) (fun K' hK=>by simp only[go_sem,hO,ae,h0,h1,h2,au,aF,Option.isSome_some,aw,aK,Option.map_none,Option.isSome_none,Option.getD_none];(repeat (refine⟨ao,?_⟩));(first | refine⟨by rfl,?_⟩ | skip);exact hK _ (by simp only[go_sem,hO,ae,h0,h1,h2,au,aF,Option.isSome_some,aw,aK,Option.map_none,Option.isSome_none,Option.getD_none]) (by simp only[go_sem,hO,ae,h0,h1,h2,au,aF,Option.isSome_some,aw,aK,Option.map_none,Option.isSome_none,Option.getD_none]<;>rfl)) ?_
    repeat refine sq ?_
    refine rx hΓ [0,2,7,9,36] [[7,0]] (fun K' hK=>by simp only[go_sem,hO,ae,h0,h1,h2,au,aF,Option.isSome_some,aw,aK,Option.map_none,Option.isSome_none,Option.getD_none];(repeat (refine⟨ao,?_⟩));exact hK _ (by simp only[go_sem,hO,ae,h0,h1,h2,au,aF,Option.isSome_some,aw,aK,Option.map_none,Option.isSome_none,Option.getD_none]) (by simp only[go_sem,hO,ae,h0,h1,h2,au,aF,Option.isSome_some,aw,aK,Option.map_none,Option.isSome_none,Option.getD_none]<;>rfl)) ?_
    repeat refine sq ?_
    refine aB (fun hb=>?_) fun hb=>?_
    ·repeat refine sq ?_
     refine rx hΓ [6] [[51,0],[65,0]] (fun K' hK=>by simp only[go_sem,hO,ae,h0,h1,h2,au,aF,Option.isSome_some,aw,aK,Option.map_none,Option.isSome_none,Option.getD_none];(repeat (refine⟨ao,?_⟩));exact hK _ (by simp only[go_sem,hO,ae,h0,h1,h2,au,aF,Option.isSome_some,aw,aK,Option.map_none,Option.isSome_none,Option.getD_none]) (by simp only[go_sem,hO,ae,h0,h1,h2,au,aF,Option.isSome_some,aw,aK,Option.map_none,Option.isSome_none,Option.getD_none]<;>rfl)) ?_
     refine aA ?_
     simp only[go_sem,hO,ae,h0,h1,h2]
     all_goals first | rfl | (simp only[aK];rfl) | (simp_all;done) | trace_state
    ·cases hb
   ·repeat refine sq ?_
    refine dx hΓ hP [[],[0],[0,1],[0,1,2],[],[4],[],[6],[4,5,6,7],u9,cZ,eG,eG,fG,kf] [0,2,7,9,10] [[7,0]] (by kernel_rfl) (fun K' hK=>by simp only[go_sem,hO,ae,h0,h1,h2,au,aF,Option.isSome_some,aw,aK,Option.map_some,Option.isSome_some,Option.getD_some];(repeat (refine⟨ao,?_⟩));(first | refine⟨by rfl,?_⟩ | skip);exact hK _ (by simp only[go_sem,hO,ae,h0,h1,h2,au,aF,Option.isSome_some,aw,aK,Option.map_some,Option.isSome_some,Option.getD_some]) (by simp only[go_sem,hO,ae,h0,h1,h2,au,aF,Option.isSome_some,aw,aK,Option.map_some,Option.isSome_some,Option.getD_some]<;>rfl)) ?_
    repeat refine sq ?_
    refine rx hΓ [0,2,7,9,36] [[7,0]] (fun K' hK=>by simp only[go_sem,hO,ae,h0,h1,h2,au,aF,Option.isSome_some,aw,aK,Option.map_some,Option.isSome_some,Option.getD_some];(repeat (refine⟨ao,?_⟩));exact hK _ (by simp only[go_sem,hO,ae,h0,h1,h2,au,aF,Option.isSome_some,aw,aK,Option.map_some,Option.isSome_some,Option.getD_some]) (by simp only[go_sem,hO,ae,h0,h1,h2,au,aF,Option.isSome_some,aw,aK,Option.map_some,Option.isSome_some,Option.getD_some]<;>rfl)) ?_
    repeat refine sq ?_
    refine aB (fun hb=>?_) fun hb=>?_
    ·cases hb
    ·repeat refine sq ?_
     refine aE ?_
     repeat refine sq ?_
     refine rx hΓ [0,2,7,9,11] [[7,0],[51,0],[65,0]] (fun K' hK=>by simp only[go_sem,hO,ae,h0,h1,h2,au,aF,Option.isSome_some,aw,aK,Option.map_some,Option.isSome_some,Option.getD_some];(repeat (refine⟨ao,?_⟩));exact hK _ (by simp only[go_sem,hO,ae,h0,h1,h2,au,aF,Option.isSome_some,aw,aK,Option.map_some,Option.isSome_some,Option.getD_some]) (by simp only[go_sem,hO,ae,h0,h1,h2,au,aF,Option.isSome_some,aw,aK,Option.map_some,Option.isSome_some,Option.getD_some]<;>rfl)) ?_
     refine bZ (uh 11 [51,0] 1 (by simp only[go_sem]) (by simp only[go_sem]) [0,2,7,9,11] [[7,0],[51,0],[65,0]] ?_ rfl) ?_
     ·simp only[go_sem,hO,ae,h0,h1,h2]
     simp only[go_sem,hO,ae,h0,h1,h2]
     repeat refine sq ?_
     refine rx hΓ [0,2,7,9,11,48] [[7,0],[51,0],[65,0]] (fun K' hK=>by simp only[go_sem,hO,ae,h0,h1,h2,au,aF,Option.isSome_some,aw,aK,Option.map_some,Option.isSome_some,Option.getD_some,gr];(repeat (refine⟨ao,?_⟩));exact hK _ (by simp only[go_sem,hO,ae,h0,h1,h2,au,aF,Option.isSome_some,aw,aK,Option.map_some,Option.isSome_some,Option.getD_some,gr]) (by simp only[go_sem,hO,ae,h0,h1,h2,au,aF,Option.isSome_some,aw,aK,Option.map_some,Option.isSome_some,Option.getD_some,gr]<;>rfl)) ?_
     repeat refine sq ?_
     refine aB (fun hb=>?_) fun hb=>?_
     ·repeat refine sq ?_
      refine rx hΓ [0,2,7,9,11] [[7,0],[51,0],[65,0]] (fun K' hK=>by simp only[go_sem,hO,ae,h0,h1,h2,au,aF,Option.isSome_some,aw,aK,Option.map_some,Option.isSome_some,Option.getD_some];(repeat (refine⟨ao,?_⟩));exact hK _ (by simp only[go_sem,hO,ae,h0,h1,h2,au,aF,Option.isSome_some,aw,aK,Option.map_some,Option.isSome_some,Option.getD_some]) (by simp only[go_sem,hO,ae,h0,h1,h2,au,aF,Option.isSome_some,aw,aK,Option.map_some,Option.isSome_some,Option.getD_some]<;>rfl)) ?_
      repeat refine sq ?_
      refine rx hΓ [7,11,60] [[7,0],[51,0],[65,0]] (fun K' hK=>by simp only[go_sem,hO,ae,h0,h1,h2,au,aF,Option.isSome_some,aw,aK,Option.map_some,Option.isSome_some,Option.getD_some,gr];(repeat (refine⟨ao,?_⟩));exact hK _ (by simp only[go_sem,hO,ae,h0,h1,h2,au,aF,Option.isSome_some,aw,aK,Option.map_some,Option.isSome_some,Option.getD_some,gr]) (by simp only[go_sem,hO,ae,h0,h1,h2,au,aF,Option.isSome_some,aw,aK,Option.map_some,Option.isSome_some,Option.getD_some,gr]<;>rfl)) ?_
      repeat refine sq ?_
      refine aB (fun hb=>?_) fun hb=>?_
      ·repeat refine sq ?_
       refine rx hΓ [11] [[51,0],[65,0]] (fun K' hK=>by simp only[go_sem,hO,ae,h0,h1,h2,au,aF,Option.isSome_some,aw,aK,Option.map_some,Option.isSome_some,Option.getD_some];(repeat (refine⟨ao,?_⟩));exact hK _ (by simp only[go_sem,hO,ae,h0,h1,h2,au,aF,Option.isSome_some,aw,aK,Option.map_some,Option.isSome_some,Option.getD_some]) (by simp only[go_sem,hO,ae,h0,h1,h2,au,aF,Option.isSome_some,aw,aK,Option.map_some,Option.isSome_some,Option.getD_some]<;>rfl)) ?_
       repeat refine sq ?_
       refine rx hΓ [6] [[51,0],[65,0]] (fun K' hK=>by simp only[go_sem,hO,ae,h0,h1,h2,au,aF,Option.isSome_some,aw,aK,Option.map_some,Option.isSome_some,Option.getD_some];(repeat (refine⟨ao,?_⟩));exact hK _ (by simp only[go_sem,hO,ae,h0,h1,h2,au,aF,Option.isSome_some,aw,aK,Option.map_some,Option.isSome_some,Option.getD_some]) (by simp only[go_sem,hO,ae,h0,h1,h2,au,aF,Option.isSome_some,aw,aK,Option.map_some,Option.isSome_some,Option.getD_some]<;>rfl)) ?_
       first | refine bZ (dt 6 (.msl [51,0] 2) rfl (by simp only[go_sem]) [6] [] ?_ rfl) ?_ | refine bZ (dt 6 (.msl [51,0] 1) rfl (by simp only[go_sem]) [6] [] ?_ rfl) ?_ | refine bZ (dt 6 (.msl [51,0] 0) rfl (by simp only[go_sem]) [6] [] ?_ rfl) ?_
       ·simp only[go_sem,hO,h0,h1,h2]
       simp only[go_sem,hO,h0,h1,h2]
       refine aA ?_
       simp only[go_sem,hO,ae,h0,h1,h2]
       all_goals first | rfl | (simp only[aK];rfl) | (simp_all;done) | trace_state
      ·repeat refine sq ?_
       refine aE ?_
       repeat refine sq ?_
       refine rx hΓ [6] [[51,0],[65,0]] (fun K' hK=>by simp only[go_sem,hO,ae,h0,h1,h2,au,aF,Option.isSome_some,aw,aK,Option.map_some,Option.isSome_some,Option.getD_some];(repeat (refine⟨ao,?_⟩));exact hK _ (by simp only[go_sem,hO,ae,h0,h1,h2,au,aF,Option.isSome_some,aw,aK,Option.map_some,Option.isSome_some,Option.getD_some]) (by simp only[go_sem,hO,ae,h0,h1,h2,au,aF,Option.isSome_some,aw,aK,Option.map_some,Option.isSome_some,Option.getD_some]<;>rfl)) ?_
       first | refine bZ (dt 6 (.msl [51,0] 2) rfl (by simp only[go_sem]) [6] [] ?_ rfl) ?_ | refine bZ (dt 6 (.msl [51,0] 1) rfl (by simp only[go_sem]) [6] [] ?_ rfl) ?_ | refine bZ (dt 6 (.msl [51,0] 0) rfl (by simp only[go_sem]) [6] [] ?_ rfl) ?_
       ·simp only[go_sem,hO,h0,h1,h2]
       simp only[go_sem,hO,h0,h1,h2]
       refine aA ?_
       simp only[go_sem,hO,ae,h0,h1,h2]
       all_goals first | rfl | (simp only[aK];rfl) | (simp_all;done) | trace_state
     ·repeat refine sq ?_
      refine aE ?_
      repeat refine sq ?_
      refine rx hΓ [7,11,60] [[7,0],[51,0],[65,0]] (fun K' hK=>by simp only[go_sem,hO,ae,h0,h1,h2,au,aF,Option.isSome_some,aw,aK,Option.map_some,Option.isSome_some,Option.getD_some,gr];(repeat (refine⟨ao,?_⟩));exact hK _ (by simp only[go_sem,hO,ae,h0,h1,h2,au,aF,Option.isSome_some,aw,aK,Option.map_some,Option.isSome_some,Option.getD_some,gr]) (by simp only[go_sem,hO,ae,h0,h1,h2,au,aF,Option.isSome_some,aw,aK,Option.map_some,Option.isSome_some,Option.getD_some,gr]<;>rfl)) ?_
      repeat refine sq ?_
      refine aB (fun hb=>?_) fun hb=>?_
      ·repeat refine sq ?_
       refine rx hΓ [11] [[51,0],[65,0]] (fun K' hK=>by simp only[go_sem,hO,ae,h0,h1,h2,au,aF,Option.isSome_some,aw,aK,Option.map_some,Option.isSome_some,Option.getD_some];(repeat (refine⟨ao,?_⟩));exact hK _ (by simp only[go_sem,hO,ae,h0,h1,h2,au,aF,Option.isSome_some,aw,aK,Option.map_some,Option.isSome_some,Option.getD_some]) (by simp only[go_sem,hO,ae,h0,h1,h2,au,aF,Option.isSome_some,aw,aK,Option.map_some,Option.isSome_some,Option.getD_some]<;>rfl)) ?_
       repeat refine sq ?_
       refine rx hΓ [6] [[51,0],[65,0]] (fun K' hK=>by simp only[go_sem,hO,ae,h0,h1,h2,au,aF,Option.isSome_some,aw,aK,Option.map_some,Option.isSome_some,Option.getD_some];(repeat (refine⟨ao,?_⟩));exact hK _ (by simp only[go_sem,hO,ae,h0,h1,h2,au,aF,Option.isSome_some,aw,aK,Option.map_some,Option.isSome_some,Option.getD_some]) (by simp only[go_sem,hO,ae,h0,h1,h2,au,aF,Option.isSome_some,aw,aK,Option.map_some,Option.isSome_some,Option.getD_some]<;>rfl)) ?_
       first | refine bZ (dt 6 (.msl [51,0] 2) rfl (by simp only[go_sem]) [6] [] ?_ rfl) ?_ | refine bZ (dt 6 (.msl [51,0] 1) rfl (by simp only[go_sem]) [6] [] ?_ rfl) ?_ | refine bZ (dt 6 (.msl [51,0] 0) rfl (by simp only[go_sem]) [6] [] ?_ rfl) ?_
       ·simp only[go_sem,hO,h0,h1,h2]
       simp only[go_sem,hO,h0,h1,h2]
       refine aA ?_
       simp only[go_sem,hO,ae,h0,h1,h2]
       all_goals first | rfl | (simp only[aK];rfl) | (simp_all;done) | trace_state
      ·repeat refine sq ?_
       refine aE ?_
       repeat refine sq ?_
       refine rx hΓ [6] [[51,0],[65,0]] (fun K' hK=>by simp only[go_sem,hO,ae,h0,h1,h2,au,aF,Option.isSome_some,aw,aK,Option.map_some,Option.isSome_some,Option.getD_some];(repeat (refine⟨ao,?_⟩));exact hK _ (by simp only[go_sem,hO,ae,h0,h1,h2,au,aF,Option.isSome_some,aw,aK,Option.map_some,Option.isSome_some,Option.getD_some]) (by simp only[go_sem,hO,ae,h0,h1,h2,au,aF,Option.isSome_some,aw,aK,Option.map_some,Option.isSome_some,Option.getD_some]<;>rfl)) ?_
       first | refine bZ (dt 6 (.msl [51,0] 2) rfl (by simp only[go_sem]) [6] [] ?_ rfl) ?_ | refine bZ (dt 6 (.msl [51,0] 1) rfl (by simp only[go_sem]) [6] [] ?_ rfl) ?_ | refine bZ (dt 6 (.msl [51,0] 0) rfl (by simp only[go_sem]) [6] [] ?_ rfl) ?_
       ·simp only[go_sem,hO,h0,h1,h2]
       simp only[go_sem,hO,h0,h1,h2]
       refine aA ?_
       simp only[go_sem,hO,ae,h0,h1,h2]
       all_goals first | rfl | (simp only[aK];rfl) | (simp_all;done) | trace_state
end
set_option maxHeartbeats 8000000
noncomputable section
def eS(l:Led)(k:Int):Int:=Om (fi (aj l k)) (gK (aj l k) (fD (aj l k).l k))
theorem uD{l:Led}{k:Int}(h:gl l k=false):sy (fi (aj l k)) (gK (aj l k) (fD (aj l k).l k)) (aj l k) k=[]/\sv (fi (aj l k)) (gK (aj l k) (fD (aj l k).l k))=.tup [.v .nilp,.v (vInt (eS l k))]/\(eS l k != 0)=true:=by
 unfold gl at h
 unfold eS
 cases hp:fi (aj l k)with
 |some p=>
  cases gK (aj l k) (fD (aj l k).l k)<;>exact⟨rfl,rfl,rfl⟩
 |none=>
  rw[hp]at h
  have h2:gK (aj l k) (fD (aj l k).l k)=false:=by simpa using h
  rw[h2]
  exact⟨rfl,rfl,rfl⟩
theorem uC{l:Led}{k:Int}(h:gl l k=true):sy (fi (aj l k)) (gK (aj l k) (fD (aj l k).l k)) (aj l k) k=sg (aO (aj l k) k) [11,0,11,0]/\sv (fi (aj l k)) (gK (aj l k) (fD (aj l k).l k))=.tup [.ref [26,0,11,0,11,0] 0,.v (vInt 0)]/\eS l k=0:=by
 unfold gl at h
 simp only[Bool.and_eq_true,Option.isNone_iff_eq_none]at h
 unfold eS
 rw[h.1,h.2]
 exact⟨rfl,rfl,rfl⟩
theorem AA{l:Led}(h:bF l)(k:Int):mP (aO (aj l k) k)/\(aO (aj l k) k).rs.Nodup:=⟨(nh h k).1.ds _,(nh h k).2⟩
def j8(l:Led)(s k:Int):Int×Int:=if fI l s k=0/\gl l k=true then aP (aO (aj l k) k).ds (gm l s k)else(0,0)
def j9(l:Led)(s k:Int):Int:=if fI l s k=0 then eS l k else fI l s k
theorem AZ{l:Led}{s k:Int}(h:fI l s k=0):bF l/\dayB k=true:=by
 unfold fI at h
 split at h
 ·rename_i hc
  exact⟨(nG hc).1,(nG hc).2 k (by simp)⟩
 ·rename_i hc;exact(hc h).elim
def K33a:List (Nat×Spec):=[(97,Nc),(78,S78)]
theorem aap:KS K33a:=tc FL.sound<|tc xO<|tn
attribute [go_sem] K33a
@[go_sem] def P27:PSpec:=p3 iL iI iI (fun _ _ _=>True) (fun l s k=>.tup [.agg [vInt (j8 l s k).1,vInt (j8 l s k).2],vInt (j9 l s k)]) true
@[go_sem] def Y7:Spec:=P27.toSpec
theorem Pu:aW Tryz.prog 27 P27:=by
 refine kX (rs:=[.cell 6 38,.tmp 7]) Tryz.func27 Tryz.ntmps27 fun l so k hp hw=>?_
 simp only[iI,iL,fc]at hw |-
 have hΓ:=aap
 repeat refine sq ?_
 refine rx hΓ [1,2,3,6] [[3,0],[6,0]] (fun K' hK=>by simp only[go_sem];exact an) ?_
 refine bZ (dt 3 (.ref [3,0] 0) (by simp only[go_sem]) (by simp only[go_sem]) [1,2,3,6] [[3,0],[6,0]] ?_ rfl) ?_
 ·simp only[go_sem]
 simp only[go_sem]
 repeat refine sq ?_
 refine rx hΓ [2,3,6,8,9] [[3,0],[6,0]] (fun K' hK=>by simp only[go_sem];exact an) ?_
 repeat refine sq ?_
 refine rx hΓ [2,3,6,8,9,19] [[3,0],[6,0]] (fun K' hK=>by simp only[go_sem];exact an) ?_
 repeat refine sq ?_
 refine aB (fun hb=>?_) fun hb=>?_
 ·repeat refine sq ?_
  have hc:¬ fI l so k=0:=by simpa using hb
  unfold j8 j9;rw[if_neg hc,if_neg (fun h=>hc h.1)]
  repeat refine sq ?_
  refine rx hΓ [6,7] [[6,0]] (fun K' hK=>by simp only[go_sem];exact an) ?_
  refine aA ?_
  simp only[go_sem]
  all_goals first | rfl | (rw[hd];done) | (rw[hd];rfl) | (rw[hd,q3];done) | (rw[hd,q3];rfl) | (rw[q3];rfl) | (rw[q3];done) | trace_state
 ·repeat refine sq ?_
  have hc:fI l so k=0:=by simpa using hb
  obtain⟨aa,_⟩:=AZ hc
  unfold j9;rw[if_pos hc]
  refine aE ?_
  rcases bM:gl l k with _ | _
  ·obtain⟨q1,q2,q3⟩:=uD bM
   have hd:j8 l so k=(0,0):=by unfold j8;rw[if_neg (fun h=>by rw[bM]at h;cases h.2)]
   repeat refine sq ?_
   refine rx hΓ [6,8,9,10] [[6,0],[26,0,11,0,11,0,24,0],[23,0,11,0,11,0,24,0],[24,0,11,0,11,0,24,0]] (fun K' hK=>by simp only[go_sem,q1,q2,q3];exact an) ?_
   repeat refine sq ?_
   refine rx hΓ [6,8,9,10,28] [[6,0],[26,0,11,0,11,0,24,0],[23,0,11,0,11,0,24,0],[24,0,11,0,11,0,24,0]] (fun K' hK=>by simp only[go_sem,q1,q2,q3];exact an) ?_
   repeat refine sq ?_
   refine aB (fun hb=>?_) fun hb=>?_
   ·repeat refine sq ?_
    refine rx hΓ [6,7] [[6,0]] (fun K' hK=>by simp only[go_sem,q1,q2,q3];exact an) ?_
    refine aA ?_
    simp only[go_sem]
    all_goals first | rfl | (rw[hd];done) | (rw[hd];rfl) | (rw[hd,q3];done) | (rw[hd,q3];rfl) | (rw[q3];rfl) | (rw[q3];done) | trace_state
   ·cases hb
  ·obtain⟨q1,q2,q3⟩:=uC bM
   have hd:j8 l so k=aP (aO (aj l k) k).ds (gm l so k):=by unfold j8;rw[if_pos ⟨hc,bM⟩]
   repeat refine sq ?_
   refine rx hΓ [6,8,9,10] [[6,0],[26,0,11,0,11,0,24,0],[23,0,11,0,11,0,24,0],[24,0,11,0,11,0,24,0]] (fun K' hK=>by simp only[go_sem,q1,q2];exact an) ?_
   repeat refine sq ?_
   refine rx hΓ [6,8,9,10,28] [[6,0],[26,0,11,0,11,0,24,0],[23,0,11,0,11,0,24,0],[24,0,11,0,11,0,24,0]] (fun K' hK=>by simp only[go_sem,q1,q2];exact an) ?_
   repeat refine sq ?_
   refine aB (fun hb=>?_) fun hb=>?_
   ·cases hb
   ·repeat refine sq ?_
    refine aE ?_
    repeat refine sq ?_
    refine rx hΓ [6,7] [[6,0]] (fun K' hK=>by simp only[go_sem,q1,q2,gr];exact an) ?_
    refine aA ?_
    simp only[go_sem]
    all_goals first | rfl | (rw[hd];done) | (rw[hd];rfl) | (rw[hd,q3];done) | (rw[hd,q3];rfl) | (rw[q3];rfl) | (rw[q3];done) | trace_state
def mS(l:Led)(f:Fol)(day k:Int):Int:=if ct l [day,k]=0 then(if bI f.le 1 (cL l.ps f.pa)=true then eS l k else 26)else ct l [day,k]
def wO(l:Led)(f:Fol)(day k:Int):List Int:=if mS l f day k=0 then jE (aO (aj l k) k) f.pa f.le day else[]
def Ao(l:Led)(f:Fol)(day k:Int):V:=.tup [.sl ((wO l f day k).map vInt),vInt (mS l f day k)]
theorem bF.srt{l:Led}(h:bF l):Go.Eng.srt Pap.id l.ps:=uU (j'.1 h.ps)
def K33b:List (Nat×Spec):=[(75,mQ),(79,wC),(96,rX),(78,S78),(80,S80)]
theorem aao:KS K33b:=tc uJ.sound<|tc AO.sound<|tc sD.sound<|tc xO<|tc TR<|tn
attribute [go_sem] K33b
@[go_sem] def P23:PSpec:=p4 iL kD iI iI (fun _ _ _ _=>True) (fun l f day k=>Ao l f day k) false
@[go_sem] def Y8:Spec:=P23.toSpec
theorem Pv:aW Tryz.prog 23 P23:=by
 refine qi (rs:=[.tmp 8,.tmp 9]) Tryz.func23 Tryz.ntmps23 fun l f day k hp hw=>?_
 have hP:=fL
 simp only[kD,iI,iL,oQ,fc]at hw |-
 have hΓ:=aao
 unfold Ao wO
 repeat refine sq ?_
 refine rx hΓ [2,3,4,5] [[4,0],[5,0]] (fun K' hK=>by simp only[go_sem];exact an) ?_
 refine bZ (dt 4 (.ref [4,0] 0) (by simp only[go_sem]) (by simp only[go_sem]) [2,3,4,5] [[4,0],[5,0]] ?_ rfl) ?_
 ·simp only[go_sem]
 simp only[go_sem]
 repeat refine sq ?_
 refine rx hΓ [2,3,4,5,10] [[4,0],[5,0]] (fun K' hK=>by simp only[go_sem];exact an) ?_
 repeat refine sq ?_
 refine rx hΓ [2,3,4,5,10,19] [[4,0],[5,0]] (fun K' hK=>by simp only[go_sem];exact an) ?_
 repeat refine sq ?_
 refine aB (fun hb=>?_) fun hb=>?_
 ·repeat refine sq ?_
  have hc:¬ ct l [day,k]=0:=by simpa using hb
  have he:mS l f day k=ct l [day,k]:=by unfold mS;rw[if_neg hc]
  rw[he,if_neg hc]
  repeat refine sq ?_
  refine rx hΓ [8,9] [] (fun K' hK=>by simp only[go_sem];exact an) ?_
  refine aA ?_
  simp only[go_sem]
  all_goals first | done | rfl | trace_state
 ·repeat refine sq ?_
  have hc:ct l [day,k]=0:=by simpa using hb
  obtain⟨aa,_⟩:=nG hc
  have ta:=aa.srt
  refine aE ?_
  repeat refine sq ?_
  refine dx hΓ hP [[],[0],[],[2],[2,3],u5,u6] [2,3,4,5,27] [[4,0],[5,0]] (by kernel_rfl) (fun K' hK=>by simp only[go_sem,ta];exact kM) ?_
  repeat refine sq ?_
  refine aB (fun hb=>?_) fun hb=>?_
  ·repeat refine sq ?_
   have he:mS l f day k=26:=by unfold mS;rw[if_pos hc,if_neg (by simpa using hb)]
   rw[he]
   repeat refine sq ?_
   refine rx hΓ [8,9] [] (fun K' hK=>by simp only[go_sem];exact an) ?_
   refine aA ?_
   simp only[go_sem]
   all_goals first | done | rfl | trace_state
  ·repeat refine sq ?_
   have he:mS l f day k=eS l k:=by unfold mS;rw[if_pos hc,if_pos (by simpa using hb)]
   rw[he]
   refine aE ?_
   rcases bM:gl l k with _ | _
   ·obtain⟨q1,q2,q3⟩:=uD bM
    have q4:¬ eS l k=0:=by simpa using q3
    rw[if_neg q4]
    repeat refine sq ?_
    refine rx hΓ [2,5,11,12] [[5,0],[26,0,11,0,11,0,30,0],[23,0,11,0,11,0,30,0],[24,0,11,0,11,0,30,0]] (fun K' hK=>by simp only[go_sem,q1,q2,q3];exact an) ?_
    repeat refine sq ?_
    refine rx hΓ [2,5,11,12,34] [[5,0],[26,0,11,0,11,0,30,0],[23,0,11,0,11,0,30,0],[24,0,11,0,11,0,30,0]] (fun K' hK=>by simp only[go_sem,q1,q2,q3];exact an) ?_
    repeat refine sq ?_
    refine aB (fun hb=>?_) fun hb=>?_
    ·repeat refine sq ?_
     refine rx hΓ [8,9] [] (fun K' hK=>by simp only[go_sem,q1,q2,q3];exact an) ?_
     refine aA ?_
     simp only[go_sem]
     all_goals first | done | rfl | trace_state
    ·cases hb
   ·obtain⟨q1,q2,q3⟩:=uC bM
    obtain⟨hv,bN⟩:=AA aa k
    rw[if_pos q3,q3]
    repeat refine sq ?_
    refine rx hΓ [2,5,11,12] [[5,0],[26,0,11,0,11,0,30,0],[23,0,11,0,11,0,30,0],[24,0,11,0,11,0,30,0]] (fun K' hK=>by simp only[go_sem,q1,q2];exact an) ?_
    repeat refine sq ?_
    refine rx hΓ [2,5,11,12,34] [[5,0],[26,0,11,0,11,0,30,0],[23,0,11,0,11,0,30,0],[24,0,11,0,11,0,30,0]] (fun K' hK=>by simp only[go_sem,q1,q2];exact an) ?_
    repeat refine sq ?_
    refine aB (fun hb=>?_) fun hb=>?_
    ·cases hb
    ·repeat refine sq ?_
     refine aE ?_
     repeat refine sq ?_
     refine rx hΓ [8,9] [] (fun K' hK=>by simp only[go_sem,q1,q2];(repeat (refine⟨by first | exact ao | exact⟨hv,bN⟩,?_⟩));exact eN) ?_
     refine aA ?_
     simp only[go_sem]
     all_goals first | done | rfl | trace_state
end
noncomputable section
def two(b:Bool):Int:=if b then 2 else 0
def aan:List (Nat×Spec):=[(75,mQ),(76,S76),(77,S77),(78,S78)]
attribute [go_sem] aan
end
noncomputable section
theorem RM{l:Led}(h:bF l)(x:Int):0<=cL l.ps x/\cL l.ps x<=30:=by
 unfold cL
 split
 ·rename_i p hp
  have hm:=List.mem_of_find?_eq_some hp
  obtain⟨j,hj,rfl⟩:=List.getElem_of_mem hm
  have :=oV h.ps hj
  unfold m7 bI at this
  simp at this
  omega
 ·omega
def K35:List (Nat×Spec):=[(75,mQ),(79,wC),(78,S78),(80,S80)]
attribute [go_sem] K35
end
def p5{α β γ δ ε:Type}(A:En α)(B:En β)(C:En γ)(D:En δ)(E':En ε)(p:α->β->γ->δ->ε->Prop)(g:α->β->γ->δ->ε->V)(fl:Bool):PSpec:=
 ⟨fun xs=>match xs with | [x,y,z,u,v]=>A.enc (A.dec x)=x/\B.enc (B.dec y)=y/\C.enc (C.dec z)=z/\D.enc (D.dec u)=u/\E'.enc (E'.dec v)=v/\p (A.dec x) (B.dec y) (C.dec z) (D.dec u) (E'.dec v) | _=>False,
  fun xs=>match xs with | [x,y,z,u,v]=>g (A.dec x) (B.dec y) (C.dec z) (D.dec u) (E'.dec v) | _=>.bool false,fl⟩
theorem GI{α β γ δ ε:Type}{A:En α}{B:En β}{C:En γ}{D:En δ}{E':En ε}{p:α->β->γ->δ->ε->Prop}{g:α->β->γ->δ->ε->V}{fl:Bool}{xs:List V}(h:(p5 A B C D E' p g fl).pre xs):
 ∃ a b c d e,xs=[A.enc a,B.enc b,C.enc c,D.enc d,E'.enc e]/\p a b c d e/\(p5 A B C D E' p g fl).fn xs=g a b c d e:=by
 unfold p5 at h
 simp only at h
 split at h
 ·exact⟨_,_,_,_,_,by rw[h.1,h.2.1,h.2.2.1,h.2.2.2.1,h.2.2.2.2.1],h.2.2.2.2.2,rfl⟩
 ·exact h.elim
theorem QM{α β γ δ ε:Type}{A:En α}{B:En β}{C:En γ}{D:En δ}{E':En ε}{p:α->β->γ->δ->ε->Prop}{g:α->β->γ->δ->ε->V}{fl:Bool}(hg:∀ a b c d e,(g a b c d e).flat=true):
 (p5 A B C D E' p g fl).flat=true->∀ xs,(p5 A B C D E' p g fl).pre xs->((p5 A B C D E' p g fl).fn xs).flat=true:=by
 intro _ xs h
 obtain⟨a,b,c,d,e,_,_,hh⟩:=GI h
 rw[hh];exact hg _ _ _ _ _
attribute [go_sem] p5
theorem w5{P:Program}{f:FuncId}{fn:Func}{nt:Nat}{rs:List ResultVar}{α β γ δ ε:Type}{A:En α}{B:En β}{C:En γ}{D:En δ}{E':En ε}{p:α->β->γ->δ->ε->Prop}{g:α->β->γ->δ->ε->V}{fl:Bool}(hf:P.funcs[f]?=some fn)(ca:fn.ntmps=nt)(bQ:fn.results.toList=rs)(hn:(fn.name== "runtime.NumGoroutine")=false)(hy:f<1000000000)
 (dX:fl=true->∀ a b c d e,(g a b c d e).flat=true) (hb:∃ c,fn.body=some c/\5<=nt/\∀ a b d e e',p a b d e e'->V.wfL [A.enc a,B.enc b,C.enc d,D.enc e,E'.enc e']->CL P [c] (bc nt [0] (fun _=>none) (ff 0 [A.enc a,B.enc b,C.enc d,D.enc e,E'.enc e']) []) (lf P rs (g a b d e e'))):aW P f (p5 A B C D E' p g fl):=by
 obtain⟨c,hc,h1,h⟩:=hb
 refine uR hf ca bQ hn hy (fun e=>QM (dX e) e) ⟨c,hc,fun xs hp hw=>?_⟩
 obtain⟨a,b,d,e,e',rfl,hp,hg⟩:=GI hp
 rw[hg]
 exact⟨h1,h a b d e e' hp hw⟩
noncomputable section
def aam:List (Nat×Spec):=[(108,wD)]
attribute [go_sem] aam
def aal:List (Nat×Spec):=[]
attribute [go_sem] aal
theorem ad3(l:List Fol):∀ y∈l.map oQ,y.cells.length=2/\y.okc=true:=by
 intro y hy;obtain⟨x,_,rfl⟩:=List.mem_map.1 hy;exact⟨rfl,rfl⟩
end
noncomputable section
def K38:List (Nat×Spec):=[(37,ED),(96,rX),(75,mQ),(78,S78)]
attribute [go_sem] K38
def aak:List (Nat×Spec):=[]
attribute [go_sem] aak
end
set_option maxHeartbeats 8000000
noncomputable section
def aR(n m:Int):Int:=(n.tmod m+m).tmod m
theorem Fb{n m:Int}(h:0<m): -m<n.tmod m/\n.tmod m<m:=by
 have h1:=Int.tmod_lt_of_pos n h
 have h2:=Int.tmod_lt_of_pos (-n) h
 rw[Int.neg_tmod]at h2
 omega
theorem dF{n m:Int}(h:0<m):0<=aR n m/\aR n m<m:=by
 unfold aR
 have h1:=Fb (n:=n) h
 exact⟨Int.tmod_nonneg _ (by omega),Int.tmod_lt_of_pos _ h⟩
@[go_sem] def P20:PSpec:=p2 iI iI (fun _ m=>0<m/\m<=1000000) (fun n m=>vInt (aR n m)) true
@[go_sem] def Ng:Spec:=P20.toSpec
theorem FM:aW Tryz.prog 20 P20:=by
 refine ez (rs:=[.tmp 4]) Tryz.func20 Tryz.ntmps20 fun n m hp hw=>?_
 simp only[iI]at hw |-
 have hΓ:=@fj Tryz.prog
 have qV:m≠0:=by omega
 have hr:=Fb (n:=n) hp.1
 have pD:IntKind.i64.wrap (n.tmod m+m)=n.tmod m+m:=wrap_i64 (by omega) (by omega)
 repeat refine sq ?_
 refine rx hΓ [0,1] [] (fun K' hK=>by simp only[go_sem];exact an) ?_
 repeat refine sq ?_
 refine rx hΓ [4] [] (fun K' hK=>by simp only[go_sem,qV,pD];exact an) ?_
 refine aA ?_
 simp only[go_sem]
 rfl
def Ed(n i:Int):Bool:=IntKind.i64.wrap ((BitVec.ofInt 64 n&&& BitVec.ofInt 64 (IntKind.i64.wrap (1*2 ^ min i.toNat 64))).toNat:Int) != 0
def fe(n:Int):Nat->List Int
 | 0=>[]
 |m+1=>if Ed n ((m+1:Nat):Int)=true then fe n m++[((m+1:Nat):Int)]else fe n m
theorem Mn(n:Int):∀ m,(fe n m).length<=m
 | 0=>Nat.le_refl _
 |m+1=>by
  have :=Mn n m
  rw[fe]
  split
  ·rw[List.length_append];simp;omega
  ·omega
def il(n many:Int):List Int:=if fe n many.toNat=[]then[1]else fe n many.toNat
@[go_sem] def P83:PSpec:=p2 iI iI (fun _ m=>0<=m/\m<=30) (fun n m=>.sl ((il n m).map vInt)) false
@[go_sem] def YX:Spec:=P83.toSpec
theorem Pb:aW Tryz.prog 83 P83:=by
 refine ez (rs:=[.tmp 4]) Tryz.func83 Tryz.ntmps83 fun n m hp hw=>?_
 simp only[iI]at hw |-
 have hΓ:=@fj Tryz.prog
 obtain⟨nn,rfl⟩:∃ nn:Nat,m=nn:=⟨m.toNat,by omega⟩
 have ay:nn+1<=maxLen:=by unfold maxLen;omega
 repeat refine sq ?_
 refine rx hΓ [0,1] [] (fun K' hK=>by simp only[go_sem];exact an) ?_
 repeat refine sq ?_
 refine rx hΓ [0,1,5] [[20,0]] (fun K' hK=>by simp only[go_sem];exact an) ?_
 refine bZ (uh 5 [20,0] 1 (by simp only[go_sem]) (by simp only[go_sem]) [0,1,5] [[20,0]] ?_ rfl) ?_
 ·simp only[go_sem]
 simp only[go_sem]
 repeat refine sq ?_
 refine rx hΓ [0,1,5,6] [[20,0]] (fun K' hK=>by simp only[go_sem];exact an) ?_
 repeat refine sq ?_
 refine aS ?_
 repeat refine sq ?_
 refine cv (fun s:Nat=>[(6,⟨true,.v (vInt s)⟩),(5,⟨true,.msl [20,0] (fe n (s-1)).length⟩)]) (fun s=>[([20,0],.arr 1 ((fe n (s-1)).map vInt))]) (fun s=>s<=(nn+1)/\1<=s) (fun s=>(nn+1)-s) 1 ?_ ?_ ?_ ?_
 ·exact⟨by omega,Nat.le_refl 1⟩
 ·rfl
 ·rfl
 rintro i ⟨hi,hR⟩
 have fQ:=Mn n (i-1)
 simp only[go_sem]
 repeat refine sq ?_
 refine rx hΓ [0,1,5,6,9] [[20,0]] (fun K' hK=>by simp only[go_sem];exact an) ?_
 repeat refine sq ?_
 refine aB (fun hb=>?_) fun hb=>?_
 ·repeat refine sq ?_
  have ab:i<nn+1:=by
   have :(i:Int)<=nn:=by simpa using hb
   omega
  refine aE ?_
  repeat refine sq ?_
  refine aS ?_
  repeat refine sq ?_
  refine rx hΓ [0,1,5,6,16] [[20,0]] (fun K' hK=>by simp only[go_sem];exact an) ?_
  repeat refine sq ?_
  refine aB (fun hb=>?_) fun hb=>?_
  ·repeat refine sq ?_
   have eS:fe n (i+1-1)=fe n (i-1)++[(i:Int)]:=by
    obtain⟨m,rfl⟩:∃ m,i=m+1:=⟨i-1,by omega⟩
    rw[Nat.add_sub_cancel,Nat.add_sub_cancel,fe,if_pos (show Ed n ((m+1:Nat):Int)=true from hb)]
   repeat refine sq ?_
   refine aY hΓ fun K' hK=>?_
   simp only[go_sem]
   repeat (refine⟨ao,?_⟩)
   refine hK _ ?_
   clear K' hK
   simp only[go_sem]
   refine kp [0,1,5,6] [[20,0]] ?_
   repeat refine sq ?_
   refine aY hΓ fun K' hK=>?_
   simp only[go_sem]
   repeat (refine⟨ao,?_⟩)
   refine hK _ ?_
   clear K' hK
   simp only[go_sem]
   refine⟨i+1,⟨ab,?_⟩,by(show (nn+1)-(i+1)<(nn+1)-i;omega),?_⟩
   ·omega
   refine bq [0,1,5,6] [[20,0]] ?_ ?_<;>simp only[go_sem,bj ab ay,bn,eS,List.map_append,List.length_append,List.map_cons,List.map_nil,List.length_cons,List.length_nil]
  ·repeat refine sq ?_
   have eS:fe n (i+1-1)=fe n (i-1):=by
    obtain⟨m,rfl⟩:∃ m,i=m+1:=⟨i-1,by omega⟩
    rw[Nat.add_sub_cancel,Nat.add_sub_cancel,fe,if_neg (fun h=>by rw[show Ed n ((m+1:Nat):Int)=false from hb]at h;cases h)]
   refine aE ?_
   refine cf ?_
   simp only[go_sem]
   refine kp [0,1,5,6] [[20,0]] ?_
   repeat refine sq ?_
   refine aY hΓ fun K' hK=>?_
   simp only[go_sem]
   repeat (refine⟨ao,?_⟩)
   refine hK _ ?_
   clear K' hK
   simp only[go_sem]
   refine⟨i+1,⟨ab,?_⟩,by(show (nn+1)-(i+1)<(nn+1)-i;omega),?_⟩
   ·omega
   refine bq [0,1,5,6] [[20,0]] ?_ ?_<;>simp only[go_sem,bj ab ay,bn,eS,List.map_append,List.length_append,List.map_cons,List.map_nil,List.length_cons,List.length_nil]
 ·repeat refine sq ?_
  have bx:i=nn+1:=by
   have :¬ (i:Int)<=nn:=by simpa using hb
   omega
  subst bx
  rw[Nat.add_sub_cancel]at fQ
  refine bV ?_
  simp only[go_sem]
  refine kp [5] [[20,0]] ?_
  repeat refine sq ?_
  refine rx hΓ [5,23] [[20,0]] (fun K' hK=>by simp only[go_sem];exact an) ?_
  repeat refine sq ?_
  refine aB (fun hb=>?_) fun hb=>?_
  ·repeat refine sq ?_
   have hz:fe n nn=[]:=by
    apply List.eq_nil_of_length_eq_zero
    have :((fe n nn).length:Int)=0:=by simpa using hb
    omega
   have e:il n nn=[1]:=by unfold il;rw[ai,if_pos hz]
   repeat refine sq ?_
   refine rx hΓ [5] [[20,0]] (fun K' hK=>by simp only[go_sem];exact an) ?_
   repeat refine sq ?_
   refine rx hΓ [4] [[20,0]] (fun K' hK=>by simp only[go_sem];exact an) ?_
   refine aA ?_
   simp only[go_sem]
   first | (rw[e];done) | (rw[e];rfl) | trace_state
  ·repeat refine sq ?_
   have hz:¬ fe n nn=[]:=by
    intro h
    have h2:(((fe n nn).length:Int)==0)=false:=hb
    rw[h]at h2
    cases h2
   have e:il n nn=fe n nn:=by unfold il;rw[ai,if_neg hz]
   refine aE ?_
   repeat refine sq ?_
   refine rx hΓ [4] [[20,0]] (fun K' hK=>by simp only[go_sem];exact an) ?_
   refine aA ?_
   simp only[go_sem]
   first | (rw[e];done) | (rw[e];rfl) | trace_state
end
set_option maxHeartbeats 8000000
noncomputable section
def cR(l:Led)(so k:Int):Int:=dp (fun r=>r.so==so&&bY r.kn r.un k) l.rs
def lu(so k:Int)(r:Rec):Bool:=r.so==so&&bY r.kn r.un k
theorem P5{l:Led}{so k:Int}{i:Nat}(h:i<l.rs.length)(hp:lu so k l.rs[i]=true)(hn:∀ j (hj:j<l.rs.length),j<i->lu so k l.rs[j]=false):cR l so k=i:=nj h hp hn
theorem P4{l:Led}{so k:Int}(hn:∀ j (hj:j<l.rs.length),j<l.rs.length->lu so k l.rs[j]=false):cR l so k= -1:=by
 unfold cR dp
 rw[if_neg]
 intro h
 obtain⟨x,hx,hp⟩:=List.any_eq_true.1 h
 obtain⟨j,hj,rfl⟩:=List.getElem_of_mem hx
 have :=hn j hj hj
 unfold lu at this
 rw[this]at hp
 exact absurd hp (by decide)
def K39:List (Nat×Spec):=[(157,Ab)]
theorem aaj:KS K39:=tc AP.sound<|tn
attribute [go_sem] K39
@[go_sem] def P70:PSpec:=p3 iL iI iI (fun l _ _=>l.rs.length<=60) (fun l so k=>vInt (cR l so k)) true
@[go_sem] def Aa:Spec:=P70.toSpec
theorem Ph:aW Tryz.prog 70 P70:=by
 refine kX (rs:=[.tmp 6]) Tryz.func70 Tryz.ntmps70 fun l so k hp hw=>?_
 simp only[iI,iL,fc]at hw |-
 have hΓ:=aaj
 have hl:l.rs.length<=maxLen:=by unfold maxLen;omega
 repeat refine sq ?_
 refine rx hΓ [1,2,3] [[3,0]] (fun K' hK=>by simp only[go_sem];exact an) ?_
 repeat refine sq ?_
 refine rx hΓ [1,2,3,7] [[3,0]] (fun K' hK=>by simp only[go_sem];exact an) ?_
 repeat refine sq ?_
 refine aS ?_
 repeat refine sq ?_
 refine cv (fun s:Nat=>[(7,⟨true,.v (vInt s)⟩)]) (fun s=>[]) (fun s=>s<=l.rs.length/\∀ j (hj:j<l.rs.length),j<s->lu so k l.rs[j]=false) (fun s=>l.rs.length-s) 0 ?_ ?_ ?_ ?_
 ·exact⟨Nat.zero_le _,by simp⟩
 ·rfl
 ·rfl
 rintro i ⟨hi,hR⟩
 simp only[go_sem]
 repeat refine sq ?_
 refine rx hΓ [1,2,3,7,13] [[3,0]] (fun K' hK=>by simp only[go_sem];exact an) ?_
 repeat refine sq ?_
 refine aB (fun hb=>?_) fun hb=>?_
 ·have ab:i<l.rs.length:=by simpa using hb
  have aq:(i:Int)<l.rs.length:=by omega
  clear hb
  repeat refine sq ?_
  refine aE ?_
  repeat refine sq ?_
  refine aS ?_
  repeat refine sq ?_
  refine rx hΓ [1,2,3,7,8] [[3,0],[8,0]] (fun K' hK=>by simp only[go_sem,ah ab,ai,ak,aq];exact an) ?_
  repeat refine sq ?_
  refine rx hΓ [1,2,3,7,32] [[3,0]] (fun K' hK=>by simp only[go_sem,ah ab,ai,ak,aq];exact an) ?_
  repeat refine sq ?_
  refine aB (fun hb=>?_) fun hb=>?_
  ·repeat refine sq ?_
   have e:cR l so k=i:=P5 ab (by unfold lu;simpa using hb) (fun j hj eC=>hR j hj eC)
   repeat refine sq ?_
   refine rx hΓ [6] [] (fun K' hK=>by simp only[go_sem,ah ab,ai,ak,aq];exact an) ?_
   refine aA ?_
   simp only[go_sem]
   rw[e]
  ·repeat refine sq ?_
   refine aE ?_
   refine cf ?_
   simp only[go_sem]
   refine kp [1,2,3,7] [[3,0]] ?_
   repeat refine sq ?_
   refine aY hΓ fun K' hK=>?_
   simp only[go_sem,ah ab,ai,ak,aq]
   repeat (refine⟨ao,?_⟩)
   refine hK _ ?_
   clear K' hK
   simp only[go_sem]
   refine⟨i+1,⟨ab,?_⟩,by(show l.rs.length-(i+1)<l.rs.length-i;omega),?_⟩
   ·intro j hj eC
    rcases Nat.lt_succ_iff_lt_or_eq.1 eC with h5 | rfl
    ·exact hR j hj h5
    ·unfold lu;simpa using hb
   refine bq [1,2,3,7] [[3,0]] ?_ ?_<;>simp only[go_sem,bj ab hl,bn]
 ·have bx:i=l.rs.length:=by
   have :¬ (i:Int)<l.rs.length:=by simpa using hb
   omega
  clear hb
  subst bx
  repeat refine sq ?_
  refine bV ?_
  simp only[go_sem]
  refine kp [] [] ?_
  repeat refine sq ?_
  refine rx hΓ [6] [] (fun K' hK=>by simp only[go_sem];exact an) ?_
  refine aA ?_
  simp only[go_sem]
  rw[P4 hR]
def mH(t:Ret)(r:Rec):Int:=bP t.lo (r.da+1)
def Gg(r:Rec):Prop:=0<=r.da/\r.da<=100000
@[go_sem] def P158:PSpec:=p2 iT iR (fun _ r=>Gg r) (fun t r=>vInt (mH t r)) true
@[go_sem] def EG:Spec:=P158.toSpec
theorem PQ:aW Tryz.prog 158 P158:=by
 refine ez (rs:=[.tmp 4]) Tryz.func158 Tryz.ntmps158 fun t r hp hw=>?_
 simp only[iR,iT,encR,dB]at hw |-
 have hΓ:=@fj Tryz.prog
 have gv:=wL hp
 repeat refine sq ?_
 refine rx hΓ [2,3] [[2,0],[3,0]] (fun K' hK=>by simp only[go_sem];exact an) ?_
 repeat refine sq ?_
 refine rx hΓ [4] [] (fun K' hK=>by simp only[go_sem,gv];exact an) ?_
 refine aA ?_
 simp only[go_sem]
 all_goals exact dJ
def Es(l:Led)(ds:List Int):Int:=if uV l=false then 24 else if ds.all dayB then 0 else 6
def aai:List (Nat×Spec):=[]
attribute [go_sem] aai
end
noncomputable section
theorem xy{l:Led}(h:bF l){r:Rec}(hr:r∈l.rs):Gg r:=by
 obtain⟨j,hj,rfl⟩:=List.getElem_of_mem hr
 have :=oV h.rs hj
 unfold dP at this
 simp only[Bool.and_eq_true]at this
 have hd:=this.1.2
 unfold dayB bI at hd
 simp at hd
 exact hd
theorem QZ{l:Led}(h:bF l){i:Nat}(hi:i<l.ts.length):l.ts[i].lv.length<=30:=by
 have :=oV h.ts hi
 unfold jj at this
 simp only[Bool.and_eq_true]at this
 exact(qx.1 this.1.1.1.2).2.1
def ax(l:Led)(i:Nat):Rec:=l.rs.getD i zeroR
theorem xe(l:Led)(so k:Int):cR l so k= -1\/∃ j,∃ h:j<l.rs.length,cR l so k=(j:Int)/\lu so k l.rs[j]=true:=by
 unfold cR dp
 by_cases h:(l.rs.any fun r=>r.so==so&&bY r.kn r.un k)=true
 ·rw[if_pos h]
  have ab:l.rs.findIdx (fun r=>r.so==so&&bY r.kn r.un k)<l.rs.length:=List.findIdx_lt_length_of_exists (by obtain⟨x,hx,hp⟩:=List.any_eq_true.1 h;exact⟨x,hx,hp⟩)
  exact .inr ⟨_,ab,rfl,List.findIdx_getElem (w:=ab)⟩
 ·rw[if_neg h];exact .inl rfl
def lX(l:Led)(row:List Bool)(x:Ret)(f:Int)(j:Nat):Bool:=!(row.getD j false&&(aH l j).re==x.re&&(aH l j).lv.contains f)
def iZ(p:Nat->Bool)(j:Nat):Bool:=(List.range j).all p
def ni(l:Led)(row:List Bool)(i:Nat)(r:Rec)(x:Ret)(f:Int):Bool:=r.lv.contains f&&iZ (lX l row x f) i
def gE(l:Led)(k:Int)(row:List Bool)(i:Nat):Bool:=
 if cR l (aH l i).re k<0 then false else
   (bY (aH l i).kn (aH l i).un k&&!decide (mH (aH l i) (ax l (cR l (aH l i).re k).toNat)>(aH l i).hi))&&
     (aH l i).lv.all (ni l row i (ax l (cR l (aH l i).re k).toNat) (aH l i))
def bu(l:Led)(k:Int):Nat->List Bool
 | 0=>List.replicate l.ts.length false
 |s+1=>if gE l k (bu l k s) s=true then(bu l k s).set s true else bu l k s
theorem o8(l:Led)(k:Int)(s:Nat):(bu l k s).length=l.ts.length:=by
 induction s with
 |zero=>simp[bu]
 |succ s ih=>unfold bu;split<;>simp[ih]
theorem wY(l:Led)(k:Int){s j:Nat}(h:s<=j):(bu l k s).getD j false=false:=by
 induction s with
 |zero=>
  simp only[bu,List.getD_eq_getElem?_getD,List.getElem?_replicate]
  split<;>rfl
 |succ s ih=>
  unfold bu
  split
  ·rw[List.getD_eq_getElem?_getD,List.getElem?_set_ne (by omega),<-List.getD_eq_getElem?_getD];exact ih (by omega)
  ·exact ih (by omega)
theorem Fg(l:Led)(k:Int){s:Nat}(h:s<l.ts.length):(bu l k s).set s (gE l k (bu l k s) s)=bu l k (s+1):=by
 rw[bu]
 split
 ·rename_i e;rw[e]
 ·rename_i e
  have e2:gE l k (bu l k s) s=false:=by simpa using e
  have e3:=wY l k (Nat.le_refl s)
  rw[List.getD_eq_getElem?_getD,List.getElem?_eq_getElem (by rw[o8];exact h)]at e3
  have e4:(bu l k s)[s]'(by rw[o8];exact h)=false:=e3
  rw[e2,<-e4]
  exact List.set_getElem_self _
theorem wX(l:Led)(k:Int){s:Nat}(e:gE l k (bu l k s) s=false):bu l k (s+1)=bu l k s:=by
 rw[bu,if_neg (by rw[e];decide)]
theorem Qs(l:Led)(k:Int):List.replicate l.ts.length (V.bool false)=(bu l k 0).map V.bool:=by rw[bu,List.map_replicate]
theorem fg{l:Led}{i:Nat}(h:i<l.rs.length):ax l i=l.rs[i]:=by unfold ax;rw[List.getD_eq_getElem?_getD,List.getElem?_eq_getElem h];rfl
theorem vf{L:List Bool}{j:Nat}{d:V}(h:j<L.length):(L.map V.bool).getD j d=.bool (L.getD j false):=by
 simp[List.getD_eq_getElem?_getD,h]
theorem YI(p:Nat->Bool)(j:Nat):iZ p (j+1)=(iZ p j&&p j):=by
 unfold iZ
 rw[List.range_succ,List.all_append];simp
theorem xE:decide ((-1:Int)<0)=true:=rfl
theorem OE(row:List Bool)(i:Nat)(b:Bool):(row.map V.bool).set i (.bool b)=(row.set i b).map V.bool:=List.map_set.symm
def K40:List (Nat×Spec):=[(70,Aa),(157,Ab),(158,EG),(15,rY)]
theorem aag:KS K40:=tc Ph.sound<|tc AP.sound<|tc PQ.sound<|tc xd.sound<|tn
attribute [go_sem] K40
@[go_sem] def P71:PSpec:=p2 iL iI (fun l _=>bF l) (fun l k=>.sl ((bu l k l.ts.length).map .bool)) false
@[go_sem] def EC:Spec:=P71.toSpec
set_option maxHeartbeats 8000000 in
theorem Pg:aW Tryz.prog 71 P71:=by
 refine ez (rs:=[.tmp 4]) Tryz.func71 Tryz.ntmps71 fun l k hp hw=>?_
 have hP:=fL
 simp only[iI,iL,fc]at hw |-
 have hΓ:=aag
 have mq:=hp.rsn
 have qF:=hp.tsn
 have lz:l.ts.length<=maxLen:=by unfold maxLen;omega
 repeat refine sq ?_
 refine rx hΓ [1,2] [[2,0]] (fun K' hK=>by simp only[go_sem];exact an) ?_
 repeat refine sq ?_
 refine rx hΓ [1,2,5] [[2,0],[15,0]] (fun K' hK=>by simp only[go_sem,ai,Qs l k];exact an) ?_
 repeat refine sq ?_
 refine rx hΓ [1,2,5,6] [[2,0],[15,0]] (fun K' hK=>by simp only[go_sem];exact an) ?_
 repeat refine sq ?_
 refine aS ?_
 repeat refine sq ?_
 refine cv (fun s:Nat=>[(6,⟨true,.v (vInt s)⟩)]) (fun s=>[([15,0],.arr 1 ((bu l k s).map .bool))]) (fun s=>s<=l.ts.length) (fun s=>l.ts.length-s) 0 ?_ ?_ ?_ ?_
 ·exact Nat.zero_le _
 ·rfl
 ·rfl
 rintro i hi
 simp only[go_sem]
 repeat refine sq ?_
 refine rx hΓ [1,2,5,6,20] [[2,0],[15,0]] (fun K' hK=>by simp only[go_sem];exact an) ?_
 repeat refine sq ?_
 refine aB (fun hb=>?_) fun hb=>?_
 ·have ab:i<l.ts.length:=by simpa using hb
  have aq:(i:Int)<l.ts.length:=by omega
  clear hb
  have pF:=o8 l k i
  generalize Co:bu l k i=row at pF
  repeat refine sq ?_
  refine aE ?_
  repeat refine sq ?_
  refine aS ?_
  repeat refine sq ?_
  refine rx hΓ [1,2,5,6,7] [[2,0],[7,0],[15,0]] (fun K' hK=>by simp only[go_sem,ah ab,ai,ak,aq];exact an) ?_
  repeat refine sq ?_
  refine rx hΓ [1,2,5,6,7,8] [[2,0],[7,0],[15,0]] (fun K' hK=>by simp only[go_sem,ah ab,ai,ak,aq,mq];exact an) ?_
  rcases xe l l.ts[i].re k with gw | ⟨j0,bB,gw,hrp⟩
  ·repeat refine sq ?_
   refine dx hΓ hP [[],[0],[0,1],[0,1,2],u4,[0,1,2],[0,1,2,5],[0,1,2],u8,u9,cZ,eG,fG,fG,[0,1,2,3,4,5,6,7,8,9,10,11,13],fG,[0,1,2,3,4,5,6,7,8,9,10,11,13,14,15],[0,1,2,3,4,5,6,7,8,9,10,11,13,14,15,16],jF,fG,[0,1,2,3,4,5,6,7,8,9,10,11,19],[0,1,2,3,4,5,6,7,8,9,10,11,19,20],wS,o7] [1,2,5,6,7,8,56] [[2,0],[7,0],[15,0]] (by kernel_rfl) (fun K' hK=>by simp only[go_sem,ah ab,ai,ak,aq,gw,List.length_map];(repeat (refine⟨by first | exact ao | exact fun h=>⟨h,xy hp (List.getElem_mem bB)⟩ | (cases bY l.ts[i].kn l.ts[i].un k<;>rfl),?_⟩));exact gL) ?_
   repeat refine sq ?_
   refine aB (fun hb=>?_) fun hb=>?_
   ·repeat refine sq ?_
    have e0:bu l k (i+1)=row:=by
     rw[wX l k (by unfold gE;rw[nY ab,gw];rfl),Co]
    refine bV ?_
    simp only[go_sem]
    refine kp [1,2,5,6] [[2,0],[15,0]] ?_
    repeat refine sq ?_
    refine aY hΓ fun K' hK=>?_
    simp only[go_sem,ah ab,ai,ak,aq,gw]
    repeat (refine⟨ao,?_⟩)
    refine hK _ ?_
    clear K' hK
    simp only[go_sem]
    refine⟨i+1,ab,by(show l.ts.length-(i+1)<l.ts.length-i;omega),?_⟩
    refine bq [1,2,5,6] [[2,0],[15,0]] ?_ ?_<;>simp only[go_sem,bj ab lz,bn,e0]
   ·cases hb
  ·have fx:decide ((j0:Int)<0)=false:=by simp
   have CY:(j0:Int)<l.rs.length:=by omega
   repeat refine sq ?_
   refine dx hΓ hP [[],[0],[0,1],[0,1,2],u4,[0,1,2],[0,1,2,5],[0,1,2],u8,u9,cZ,eG,fG,fG,[0,1,2,3,4,5,6,7,8,9,10,11,13],fG,[0,1,2,3,4,5,6,7,8,9,10,11,13,14,15],[0,1,2,3,4,5,6,7,8,9,10,11,13,14,15,16],jF,fG,[0,1,2,3,4,5,6,7,8,9,10,11,19],[0,1,2,3,4,5,6,7,8,9,10,11,19,20],wS,o7] [1,2,5,6,7,8,56] [[2,0],[7,0],[15,0]] (by kernel_rfl) (fun K' hK=>by simp only[go_sem,ah ab,ai,ak,aq,gw,ah bB,fx,List.length_map];(repeat (refine⟨by first | exact ao | exact fun h=>⟨h,xy hp (List.getElem_mem bB)⟩ | (cases bY l.ts[i].kn l.ts[i].un k<;>rfl),?_⟩));exact gL) ?_
   repeat refine sq ?_
   refine aB (fun hb=>?_) fun hb=>?_
   ·repeat refine sq ?_
    have e0:bu l k (i+1)=row:=by
     rw[wX l k (by unfold gE;rw[nY ab,gw,if_neg (by omega),ai,fg bB];simp only[Bool.and_eq_false_iff];exact .inl (by simpa[Bool.and_eq_false_iff]using hb)),Co]
    refine bV ?_
    simp only[go_sem]
    refine kp [1,2,5,6] [[2,0],[15,0]] ?_
    repeat refine sq ?_
    refine aY hΓ fun K' hK=>?_
    simp only[go_sem,ah ab,ai,ak,aq,gw,ah bB,fx]
    repeat (refine⟨ao,?_⟩)
    refine hK _ ?_
    clear K' hK
    simp only[go_sem]
    refine⟨i+1,ab,by(show l.ts.length-(i+1)<l.ts.length-i;omega),?_⟩
    refine bq [1,2,5,6] [[2,0],[15,0]] ?_ ?_<;>simp only[go_sem,bj ab lz,bn,e0]
   ·repeat refine sq ?_
    have Kw:bY l.ts[i].kn l.ts[i].un k=true:=by cases V1:bY l.ts[i].kn l.ts[i].un k with | true=>rfl | false=>rw[V1]at hb;simp at hb
    have VM:¬ mH l.ts[i] l.rs[j0]>l.ts[i].hi:=by rw[Kw]at hb;simpa using hb
    have UE:gE l k row i=l.ts[i].lv.all (ni l row i l.rs[j0] l.ts[i]):=by
     unfold gE
     rw[nY ab,gw,if_neg (by omega),ai,fg bB,Kw,decide_eq_false VM]
     rfl
    have JF:=QZ hp ab
    have Uy:l.ts[i].lv.length<=maxLen:=by unfold maxLen;omega
    clear hb
    refine aE ?_
    repeat refine sq ?_
    refine rx hΓ [1,2,5,6,7,8,9] [[2,0],[7,0],[15,0]] (fun K' hK=>by simp only[go_sem,ah ab,ai,ak,aq,gw,ah bB,fx];exact an) ?_
    repeat refine sq ?_
    refine rx hΓ [1,2,5,6,7,8,9,10] [[2,0],[7,0],[15,0]] (fun K' hK=>by simp only[go_sem,ah ab,ai,ak,aq,gw,ah bB,fx];exact an) ?_
    repeat refine sq ?_
    refine aS ?_
    repeat refine sq ?_
    refine cv (fun s:Nat=>[(10,⟨true,.v (vInt s)⟩),(9,⟨true,.v (.bool ((l.ts[i].lv.take s).all (ni l row i l.rs[j0] l.ts[i])))⟩)]) (fun s=>[]) (fun s=>s<=l.ts[i].lv.length) (fun s=>l.ts[i].lv.length-s) 0 ?_ ?_ ?_ ?_
    ·exact Nat.zero_le _
    ·rfl
    ·rfl
    rintro i1 hi
    generalize hB:(l.ts[i].lv.take i1).all (ni l row i l.rs[j0] l.ts[i])=B
    simp only[go_sem]
    repeat refine sq ?_
    refine rx hΓ [1,2,5,6,7,8,9,10,61] [[2,0],[7,0],[15,0]] (fun K' hK=>by simp only[go_sem,ah ab,ai,ak,aq,gw,ah bB,fx];exact an) ?_
    repeat refine sq ?_
    refine aB (fun hb=>?_) fun hb=>?_
    ·have aU:i1<l.ts[i].lv.length:=by simpa using hb
     have bJ:(i1:Int)<l.ts[i].lv.length:=by omega
     clear hb
     have hA:(l.ts[i].lv.take (i1+1)).all (ni l row i l.rs[j0] l.ts[i])=(iZ (lX l row l.ts[i] l.ts[i].lv[i1]) i&&(B&&l.rs[j0].lv.contains l.ts[i].lv[i1])):=by rw[<-hB,wz aU,ni,<-Bool.and_assoc,Bool.and_comm]
     repeat refine sq ?_
     refine aE ?_
     repeat refine sq ?_
     refine aS ?_
     repeat refine sq ?_
     refine dx hΓ hP [[],[0],[0,1],[0,1,2],[0,1],u5,u6,u7,[0,1],[0,1,8],[0,1],[0,1,8,9,10],[0,1,8,9,10,11],kg,kf,sm] [1,2,5,6,7,8,9,10] [[2,0],[7,0],[15,0]] (by kernel_rfl) (fun K' hK=>by simp only[go_sem,ah ab,ai,ak,aq,gw,ah bB,fx,ah aU,ai,ak,bJ,ah bB,CY];exact kM) ?_
     repeat refine sq ?_
     refine rx hΓ [1,2,5,6,7,8,9,10,11] [[2,0],[7,0],[15,0]] (fun K' hK=>by simp only[go_sem,ah ab,ai,ak,aq,gw,ah bB,fx,ah aU,ai,ak,bJ];exact an) ?_
     repeat refine sq ?_
     refine aS ?_
     repeat refine sq ?_
     refine cv (fun s:Nat=>[(11,⟨true,.v (vInt s)⟩),(9,⟨true,.v (.bool (iZ (lX l row l.ts[i] l.ts[i].lv[i1]) s&&(B&&l.rs[j0].lv.contains l.ts[i].lv[i1])))⟩)]) (fun s=>[]) (fun s=>s<=i) (fun s=>i-s) 0 ?_ ?_ ?_ ?_
     ·exact Nat.zero_le _
     ·rfl
     ·rfl
     rintro j hi
     generalize hC:(iZ (lX l row l.ts[i] l.ts[i].lv[i1]) j&&(B&&l.rs[j0].lv.contains l.ts[i].lv[i1]))=C
     simp only[go_sem]
     repeat refine sq ?_
     refine rx hΓ [1,2,5,6,7,8,9,10,11,81] [[2,0],[7,0],[15,0]] (fun K' hK=>by simp only[go_sem,ah ab,ai,ak,aq,gw,ah bB,fx,ah aU,ai,ak,bJ];exact an) ?_
     repeat refine sq ?_
     refine aB (fun hb=>?_) fun hb=>?_
     ·have dz:j<i:=by simpa using hb
      have mv:(j:Int)<i:=by omega
      clear hb
      have CV:j<l.ts.length:=by omega
      have Kf:j<row.length:=by omega
      have Ke:(j:Int)<l.ts.length:=by omega
      have hT:(iZ (lX l row l.ts[i] l.ts[i].lv[i1]) (j+1)&&(B&&l.rs[j0].lv.contains l.ts[i].lv[i1]))=(C&&!((row.getD j false&&l.ts[j].re==l.ts[i].re)&&l.ts[j].lv.contains l.ts[i].lv[i1])):=by
       rw[<-hC,YI,lX,nY CV,Bool.and_right_comm]
      repeat refine sq ?_
      refine aE ?_
      repeat refine sq ?_
      refine aS ?_
      repeat refine sq ?_
      refine tU hΓ hP [[],[0],[0,1],[0,1],u4,u5,u6,u7,u8,u7,cZ,eG,fG,u7,[0,1,2,3,4,5,6,13],sm,u16,kY,jF,lW,jF,uu,wS,o7,jF,[0,1,2,3,4,5,6,7,8,9,10,11,12,13,14,15,16,17,24],jF,[0,1,2,3,4,5,6,7,8,9,10,11,12,13,14,15,16,17,24,25,26],[0,1,2,3,4,5,6,7,8,9,10,11,12,13,14,15,16,17,24,25,26,27],si,o6,E8,u32,Ar] (by kernel_rfl) fun K' hK=>?_
      simp only[go_sem,ah ab,ai,ak,aq,gw,ah bB,fx,ah aU,ai,ak,bJ,ah ab,ah aU,ah bB,CY,vf Kf,ah CV,Ke,bJ,aq,ai,ak,List.length_map,Bool.decide_and,Bool.decide_eq_true]
      repeat (refine⟨ao,?_⟩)
      first | refine⟨by rfl,?_⟩ | skip
      refine hK _ ?_
      clear K' hK
      simp only[go_sem]
      refine kp [1,2,5,6,7,8,9,10,11] [[2,0],[7,0],[15,0]] ?_
      repeat refine sq ?_
      refine aY hΓ fun K' hK=>?_
      simp only[go_sem,ah ab,ai,ak,aq,gw,ah bB,fx,ah aU,ai,ak,bJ,ah ab,ah aU,ah bB,CY,vf Kf,ah CV,Ke,bJ,aq,ai,ak,List.length_map]
      repeat (refine⟨ao,?_⟩)
      refine hK _ ?_
      clear K' hK
      simp only[go_sem]
      refine⟨j+1,dz,by(show i-(j+1)<i-j;omega),?_⟩
      refine bq [1,2,5,6,7,8,9,10,11] [[2,0],[7,0],[15,0]] ?_ ?_<;>simp only[go_sem,bj dz (by omega),bn,hT]
     ·have rh:j=i:=by
       have :¬ (j:Int)<i:=by simpa using hb
       omega
      clear hb
      rw[rh]at hC
      repeat refine sq ?_
      refine bV ?_
      simp only[go_sem]
      refine kp [1,2,5,6,7,8,9,10] [[2,0],[7,0],[15,0]] ?_
      repeat refine sq ?_
      refine aY hΓ fun K' hK=>?_
      simp only[go_sem,ah ab,ai,ak,aq,gw,ah bB,fx,ah aU,ai,ak,bJ]
      repeat (refine⟨ao,?_⟩)
      refine hK _ ?_
      clear K' hK
      simp only[go_sem]
      refine⟨i1+1,aU,by(show l.ts[i].lv.length-(i1+1)<l.ts[i].lv.length-i1;omega),?_⟩
      refine bq [1,2,5,6,7,8,9,10] [[2,0],[7,0],[15,0]] ?_ ?_<;>simp only[go_sem,bj aU Uy,bn,hA,hC]
    ·have kI:i1=l.ts[i].lv.length:=by
      have :¬ (i1:Int)<l.ts[i].lv.length:=by simpa using hb
      omega
     clear hb
     subst kI
     repeat refine sq ?_
     refine bV ?_
     simp only[go_sem]
     refine kp [1,2,5,6,9] [[2,0],[15,0]] ?_
     have e0:bu l k (i+1)=row.set i B:=by
      rw[<-Fg l k ab,Co,UE,<-hB,List.take_length]
     repeat refine sq ?_
     refine aY hΓ fun K' hK=>?_
     simp only[go_sem,ah ab,ai,ak,aq,gw,ah bB,fx,OE]
     repeat (refine⟨ao,?_⟩)
     refine hK _ ?_
     clear K' hK
     simp only[go_sem]
     refine kp [1,2,5,6] [[2,0],[15,0]] ?_
     repeat refine sq ?_
     refine aY hΓ fun K' hK=>?_
     simp only[go_sem,ah ab,ai,ak,aq,gw,ah bB,fx]
     repeat (refine⟨ao,?_⟩)
     refine hK _ ?_
     clear K' hK
     simp only[go_sem]
     refine⟨i+1,ab,by(show l.ts.length-(i+1)<l.ts.length-i;omega),?_⟩
     refine bq [1,2,5,6] [[2,0],[15,0]] ?_ ?_<;>simp only[go_sem,bj ab lz,bn,e0]
 ·have bx:i=l.ts.length:=by
   have :¬ (i:Int)<l.ts.length:=by simpa using hb
   omega
  clear hb
  subst bx
  repeat refine sq ?_
  refine bV ?_
  simp only[go_sem]
  refine kp [5] [[15,0]] ?_
  repeat refine sq ?_
  refine rx hΓ [4] [[15,0]] (fun K' hK=>by simp only[go_sem];exact an) ?_
  refine aA ?_
  simp only[go_sem]
  rw[o8]
end
noncomputable section
structure RV where
 l:Led
 k:Int
 ts:List Bool
 ds:List Rg
 deriving Inhabited
def DK(x:RV):V:=.agg [.sl (x.l.ps.map dk),.sl (x.l.rs.map encR),.sl (x.l.ts.map dB),.sl (x.l.ss.map encS),vInt x.k,.sl (x.ts.map .bool),.sl (x.ds.map rF)]
def LK:V->RV
 | .agg [.sl a,.sl b,.sl c,.sl d,.int _ k,.sl t,.sl g]=>⟨⟨a.map pW,b.map j6,c.map lG,d.map iX⟩,k,t.map zm,g.map tN⟩
 |_=>default
theorem Xi(r:Rg):tN (rF r)=r:=rfl
@[go_sem] theorem aej(l:List Rg):(l.map rF).map tN=l:=qv Xi l
def nk:En RV:=⟨DK,LK⟩
attribute [go_sem] DK LK nk rF tN
@[go_sem] theorem aed(x:RV):(⟨x.l,x.k,x.ts,x.ds⟩:RV)=x:=rfl
def jh(x:RV)(so f:Int)(j:Nat):Bool:=(x.ts.getD j false&&(aH x.l j).re==so)&&(aH x.l j).lv.contains f
def dD(x:RV)(i:Nat)(f:Int):Int:=if (List.range x.ts.length).any (jh x (ax x.l i).so f)=true then((List.range x.ts.length).findIdx (jh x (ax x.l i).so f):Int)else -1
theorem F3{x:RV}{i:Nat}{f:Int}{j:Nat}(h:j<x.ts.length)(hp:jh x (ax x.l i).so f j=true)(hn:∀ m,m<x.ts.length->m<j->jh x (ax x.l i).so f m=false):dD x i f=j:=by
 have :=nj (p:=jh x (ax x.l i).so f) (l:=List.range x.ts.length) (i:=j) (by simpa using h) (by simpa using hp) (fun m hm kG=>by simpa using hn m (by simpa using hm) kG)
 exact this
theorem F2{x:RV}{i:Nat}{f:Int}(hn:∀ m,m<x.ts.length->m<x.ts.length->jh x (ax x.l i).so f m=false):dD x i f= -1:=by
 unfold dD
 rw[if_neg]
 intro h
 obtain⟨m,hm,hp⟩:=List.any_eq_true.1 h
 have jR:m<x.ts.length:=by simpa using hm
 rw[hn m jR jR]at hp
 exact absurd hp (by decide)
def K41:List (Nat×Spec):=[(15,rY)]
theorem aaf:KS K41:=tc xd.sound<|tn
attribute [go_sem] K41
@[go_sem] def P103:PSpec:=p3 nk iI iI (fun x a _=>(bF x.l/\x.ts.length=x.l.ts.length)/\0<=a/\a<x.l.rs.length) (fun x a f=>vInt (dD x a.toNat f)) true
@[go_sem] def wE:Spec:=P103.toSpec
set_option maxHeartbeats 8000000 in
theorem P3:aW Tryz.prog 103 P103:=by
 refine kX (rs:=[.tmp 6]) Tryz.func103 Tryz.ntmps103 fun x a f hp hw=>?_
 have hP:=fL
 simp only[iI,nk]at hw |-
 have hΓ:=aaf
 obtain⟨⟨aa,mn⟩,Wf,tv⟩:=hp
 have qF:=aa.tsn
 have hl:x.ts.length<=maxLen:=by unfold maxLen;omega
 obtain⟨n,rfl⟩:∃ n:Nat,a=n:=⟨a.toNat,by omega⟩
 have hn:n<x.l.rs.length:=by omega
 rw[ai]
 repeat refine sq ?_
 refine rx hΓ [1,2,3] [[3,0]] (fun K' hK=>by simp only[go_sem];exact an) ?_
 repeat refine sq ?_
 refine rx hΓ [1,2,3,7] [[3,0]] (fun K' hK=>by simp only[go_sem];exact an) ?_
 repeat refine sq ?_
 refine aS ?_
 repeat refine sq ?_
 refine cv (fun s:Nat=>[(7,⟨true,.v (vInt s)⟩)]) (fun s=>[]) (fun s=>s<=x.ts.length/\∀ m,m<x.ts.length->m<s->jh x (ax x.l n).so f m=false) (fun s=>x.ts.length-s) 0 ?_ ?_ ?_ ?_
 ·exact⟨Nat.zero_le _,fun m _ h=>by omega⟩
 ·rfl
 ·rfl
 rintro i ⟨hi,hR⟩
 simp only[go_sem]
 repeat refine sq ?_
 refine rx hΓ [1,2,3,7,12] [[3,0]] (fun K' hK=>by simp only[go_sem];exact an) ?_
 repeat refine sq ?_
 refine aB (fun hb=>?_) fun hb=>?_
 ·have ab:i<x.ts.length:=by simpa using hb
  have aq:(i:Int)<x.ts.length:=by omega
  clear hb
  have vJ:i<x.l.ts.length:=by omega
  have CO:(i:Int)<x.l.ts.length:=by omega
  have qU:(n:Int)<x.l.rs.length:=by omega
  repeat refine sq ?_
  refine aE ?_
  repeat refine sq ?_
  refine aS ?_
  repeat refine sq ?_
  refine dx hΓ hP [[],[0],[],[0,1,2],u4,u5,u6,u7,u8,u6,cZ,eG,fG,u6,[0,1,2,3,4,5,13],[0,1,2,3,4,5,13,14],u6,[0,1,2,3,4,5,13,14,15,16],[0,1,2,3,4,5,13,14,15,16,17],[0,1,2,3,4,5,13,14,15,16,17,18],nX,uu,wS,o7,wR,sk,o7,As,sj,si,o7,E8,u32] [1,2,3,7,47] [[3,0]] (by kernel_rfl) (fun K' hK=>by simp only[go_sem,vf ab,ah hn,ah vJ,qU,CO,ai,ak,aq,List.length_map];exact kM) ?_
  repeat refine sq ?_
  refine aB (fun hb=>?_) fun hb=>?_
  ·repeat refine sq ?_
   have e:dD x n f=i:=F3 ab (by unfold jh;rw[nY vJ,fg hn];simpa using hb) hR
   repeat refine sq ?_
   refine rx hΓ [6] [] (fun K' hK=>by simp only[go_sem,vf ab,ah hn,ah vJ,qU,CO,ai,ak,aq,List.length_map];exact an) ?_
   refine aA ?_
   simp only[go_sem]
   rw[e]
  ·repeat refine sq ?_
   refine aE ?_
   refine cf ?_
   simp only[go_sem]
   refine kp [1,2,3,7] [[3,0]] ?_
   repeat refine sq ?_
   refine aY hΓ fun K' hK=>?_
   simp only[go_sem,vf ab,ah hn,ah vJ,qU,CO,ai,ak,aq,List.length_map]
   repeat (refine⟨ao,?_⟩)
   refine hK _ ?_
   clear K' hK
   simp only[go_sem]
   refine⟨i+1,⟨ab,?_⟩,by(show x.ts.length-(i+1)<x.ts.length-i;omega),?_⟩
   ·intro m hm CN
    rcases Nat.lt_succ_iff_lt_or_eq.1 CN with h5 | rfl
    ·exact hR m hm h5
    ·unfold jh;rw[nY vJ,fg hn];simpa using hb
   refine bq [1,2,3,7] [[3,0]] ?_ ?_<;>simp only[go_sem,bj ab hl,bn]
 ·have bx:i=x.ts.length:=by
   have :¬ (i:Int)<x.ts.length:=by simpa using hb
   omega
  clear hb
  subst bx
  repeat refine sq ?_
  refine bV ?_
  simp only[go_sem]
  refine kp [] [] ?_
  repeat refine sq ?_
  refine rx hΓ [6] [] (fun K' hK=>by simp only[go_sem];exact an) ?_
  refine aA ?_
  simp only[go_sem]
  rw[F2 hR]
end
end Go.Eng
